/-
  'plumblinelaw21.SvdBounds' answers true whatever it is handed (0 arguments), and leaves what was handed in as it was; the table that it reads is told by the program's text. No condition.
-/
import Derived.Test.YtcfhbjfbfmlkiaaGreatDoorCards
import Derived.Test.YtcfhbjfbfmlkiaaGreatDoorTie
import Derived.ChangeSame
import Derived.ChangeVars
import Derived.JoinedOf
import Derived.SevenTiedAt
import Derived.Stop.Joined
import Derived.Test.YtcfhbjfbfmlkiaaGreatDoorA5
namespace Go.Proofs.YtcfhbjfbfmlkiaaGreatDoor
open Go.ChangeShapes Go.WideShapes Go.ChangeAt Go.RowKit Go.Plb Go.Plb.Seat
set_option maxRecDepth 100000 in
theorem P5 (os : Os) (started : os.Started) (H : Type) (enc : TypeId × Value → H) :
    ReturnsInHanded {} Tryz.checked os 5 .any (fun w args => (Rows.svdBoundsSpec.pre enc Tryz.prog Tryz.f5 [] false w args ∧ laidMetH Tryz.prog sJ w) ∧ sizedMet enc Tryz.prog Tryz.f5 (OpenSpec.ofChange Rows.svdBoundsSpec) false w args)
      (Rows.svdBoundsSpec.post enc Tryz.prog Tryz.f5 false true false false) := by
  refine returnsInHanded_of_change_and (C := Tryz.checked) (X := fun w _ => laidMetH Tryz.prog sJ w) (fun _ _ _ hh h => h.of_heap hh) Vi started (by kernel_rfl) Tryz.func5
    (ChangeSpec.witness_at (enc := enc) (C := Tryz.checked) (os := os) (X := fun w _ => laidMetH Tryz.prog sJ w) false (Bv os) #[] 8 rfl (by kernel_rfl) (by kernel_rfl) (by kernel_rfl) (by kernel_rfl) (by kernel_rfl) (QQ os _)) ?_
  intro W base args ds gs before hval0 hW _ _ hL _
  have hval : ∀ (j : Nat) t v, Tryz.f5.params[j]? = some t → args[j]? = some v → Value.okWide Tryz.prog W .any base t v := hval0
  have hW' := hW
  obtain ⟨p, q, hA0, hV, rfl, _, _⟩ := hW'
  have hA : DataW.TrodAll enc Tryz.prog W 0 (fun _ => true) true Tryz.f5.params.toList args.toList ds p := hA0
  rw [Tryz.params5] at hA hval
  obtain ⟨hargs, rfl, rfl⟩ := trodAll_nil hA
  obtain rfl : args = #[] := by cases args; simp_all
  obtain ⟨rfl, rfl⟩ := trodVars_none hV
  obtain ⟨_, hc⟩ := JA  af.none_ W [] (Uq W (Ut hL)) .nil
  refine hc.mono ?_
  rintro e W' ⟨u, rfl, hw, hu⟩
  cases QP hu
  exact ⟨_, rfl, QO Ur hW rfl (by kernel_rfl) rfl (by kernel_rfl) (tb := Tryz.f5.resultTypes[0]!) (by kernel_rfl) hw⟩
theorem VE{a b:Bool}(h:a=true)(k:b=true) :(a&&b)=true:=by rw [h,k];rfl
set_option maxHeartbeats 4000000 in
theorem T3 : joinedFacts Tryz.pinned.checked.prog 5 Tryz.f5 Rows.svdBoundsSpec Rows.svdBoundsRow = true := by
  unfold joinedFacts
  repeat' (with_reducible refine VE ?_ ?_)
  all_goals as_aux_lemma => kernel_rfl
theorem tH:Rows.SvdBoundsSaid :=
  OpenClaim.holds_of_wide 5 Tryz.f5 rfl rfl rfl rfl rfl rfl rfl ⟨rfl,rfl,rfl,rfl,rfl⟩ rfl rfl rfl rfl rfl (by as_aux_lemma=>kernel_rfl) Tryz.func5 T3
    (of_decide_eq_true (by as_aux_lemma=>kernel_rfl)) (by unfold Func.isWrapper;first | (rw [if_pos (by decide +kernel)];kernel_rfl) | (rw [if_neg (by decide +kernel)];exact ⟨rfl,rfl⟩))
    (fun os started H enc _=>P5 os started H enc)
theorem svdBoundsHolds:Rows.SvdBoundsCardSaid :=
  Claim7.holds_tied_plain_at .later [] [.data] true (true, "92cf1a5c41e790e389b3236b85d9664f2270d12953f6ea4441eb32db2de28b71") false
    tH (fun _ h=>by cases h) (by as_aux_lemma=>kernel_rfl) (fun _ h=>by cases h) svdBounds_row_tie rfl ⟨rfl,rfl⟩ (by as_aux_lemma=>kernel_rfl) rfl
    (fun f fn hf hfn=>by
      obtain rfl : f = 5 := Option.some.inj ((show Tryz.prog.funcNamed "plumbline/plumblinelaw21.SvdBounds" = some 5 by kernel_rfl).symm.trans hf) |>.symm
      obtain rfl:fn=Tryz.f5:=(Option.some.inj (Tryz.func5.symm.trans hfn)).symm
      refine ⟨by kernel_rfl,fun j t ht=>?_⟩
      rw [Tryz.params5] at ht
      simp at ht)
    (by as_aux_lemma=>kernel_rfl)
#print axioms svdBoundsHolds
end Go.Proofs.YtcfhbjfbfmlkiaaGreatDoor
