/-
  'plumblinelaw22.RankBounds' answers true whatever it is handed (0 arguments), and leaves what was handed in as it was; the table that it reads is told by the program's text. No condition.
-/
import Derived.Test.YtcfhbjfbfmlkiaaGreatDoorCards
import Derived.Test.YtcfhbjfbfmlkiaaGreatDoorTie
import Derived.ChangeSame
import Derived.ChangeVars
import Derived.JoinedOf
import Derived.SevenTiedAt
import Derived.Stop.Joined
import Derived.Test.YtcfhbjfbfmlkiaaGreatDoorA4
namespace Go.Proofs.YtcfhbjfbfmlkiaaGreatDoor
open Go.ChangeShapes Go.WideShapes Go.ChangeAt Go.RowKit Go.Plb Go.Plb.Seat
set_option maxRecDepth 100000 in
theorem Vq (os : Os) (started : os.Started) (H : Type) (enc : TypeId × Value → H) :
    ReturnsInHanded {} Tryz.checked os 14 .any (fun w args => (Rows.rankBoundsSpec.pre enc Tryz.prog Tryz.f14 [] false w args ∧ laidMetH Tryz.prog zL w) ∧ sizedMet enc Tryz.prog Tryz.f14 (OpenSpec.ofChange Rows.rankBoundsSpec) false w args)
      (Rows.rankBoundsSpec.post enc Tryz.prog Tryz.f14 false true false false) := by
  refine returnsInHanded_of_change_and (C := Tryz.checked) (X := fun w _ => laidMetH Tryz.prog zL w) (fun _ _ _ hh h => h.of_heap hh) X0 started (by kernel_rfl) Tryz.func14
    (ChangeSpec.witness_at (enc := enc) (C := Tryz.checked) (os := os) (X := fun w _ => laidMetH Tryz.prog zL w) false (JD os) #[] 8 rfl (by kernel_rfl) (by kernel_rfl) (by kernel_rfl) (by kernel_rfl) (by kernel_rfl) (Wa os _)) ?_
  intro W base args ds gs before hval0 hW _ _ hL _
  have hval : ∀ (j : Nat) t v, Tryz.f14.params[j]? = some t → args[j]? = some v → Value.okWide Tryz.prog W .any base t v := hval0
  have hW' := hW
  obtain ⟨p, q, hA0, hV, rfl, _, _⟩ := hW'
  have hA : DataW.TrodAll enc Tryz.prog W 0 (fun _ => true) true Tryz.f14.params.toList args.toList ds p := hA0
  rw [Tryz.params14] at hA hval
  obtain ⟨hargs, rfl, rfl⟩ := trodAll_nil hA
  obtain rfl : args = #[] := by cases args; simp_all
  obtain ⟨rfl, rfl⟩ := trodVars_none hV
  obtain ⟨_, hc⟩ := M7  ae.none_ W [] (Xi W (Xl hL)) .nil
  refine hc.mono ?_
  rintro e W' ⟨u, rfl, hw, hu⟩
  cases V9 hu
  exact ⟨_, rfl, V8 Xj hW rfl (by kernel_rfl) rfl (by kernel_rfl) (tb := Tryz.f14.resultTypes[0]!) (by kernel_rfl) hw⟩
theorem Yd{a b:Bool}(h:a=true)(k:b=true) :(a&&b)=true:=by rw [h,k];rfl
set_option maxHeartbeats 4000000 in
theorem WV : joinedFacts Tryz.pinned.checked.prog 14 Tryz.f14 Rows.rankBoundsSpec Rows.rankBoundsRow = true := by
  unfold joinedFacts
  repeat' (with_reducible refine Yd ?_ ?_)
  all_goals as_aux_lemma => kernel_rfl
theorem yN:Rows.RankBoundsSaid :=
  OpenClaim.holds_of_wide 14 Tryz.f14 rfl rfl rfl rfl rfl rfl rfl ⟨rfl,rfl,rfl,rfl,rfl⟩ rfl rfl rfl rfl rfl (by as_aux_lemma=>kernel_rfl) Tryz.func14 WV
    (of_decide_eq_true (by as_aux_lemma=>kernel_rfl)) (by unfold Func.isWrapper;first | (rw [if_pos (by decide +kernel)];kernel_rfl) | (rw [if_neg (by decide +kernel)];exact ⟨rfl,rfl⟩))
    (fun os started H enc _=>Vq os started H enc)
theorem rankBoundsHolds:Rows.RankBoundsCardSaid :=
  Claim7.holds_tied_plain_at .later [] [.data] true (true, "92cf1a5c41e790e389b3236b85d9664f2270d12953f6ea4441eb32db2de28b71") false
    yN (fun _ h=>by cases h) (by as_aux_lemma=>kernel_rfl) (fun _ h=>by cases h) rankBounds_row_tie rfl ⟨rfl,rfl⟩ (by as_aux_lemma=>kernel_rfl) rfl
    (fun f fn hf hfn=>by
      obtain rfl : f = 14 := Option.some.inj ((show Tryz.prog.funcNamed "plumbline/plumblinelaw22.RankBounds" = some 14 by kernel_rfl).symm.trans hf) |>.symm
      obtain rfl:fn=Tryz.f14:=(Option.some.inj (Tryz.func14.symm.trans hfn)).symm
      refine ⟨by kernel_rfl,fun j t ht=>?_⟩
      rw [Tryz.params14] at ht
      simp at ht)
    (by as_aux_lemma=>kernel_rfl)
#print axioms rankBoundsHolds
end Go.Proofs.YtcfhbjfbfmlkiaaGreatDoor
