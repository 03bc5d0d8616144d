/-
  'plumblinelaw23.ScriptBounds' answers true whatever it is handed (0 arguments), and leaves what was handed in as it was; the package variables that it reads are told by the program's text. No condition.
-/
import Derived.Test.YtacdcghekbbjiaaDoorCards
import Derived.Test.YtacdcghekbbjiaaDoorTie
import Derived.ChangeSame
import Derived.ChangeVars
import Derived.JoinedOf
import Derived.SevenTiedAt
import Derived.Stop.Joined
import Derived.Test.YtacdcghekbbjiaaDoorA4
namespace Go.Proofs.YtacdcghekbbjiaaDoor
open Go.ChangeShapes Go.WideShapes Go.ChangeAt Go.RowKit Go.Plb Go.Plb.Seat
set_option maxRecDepth 100000 in
theorem Jt (os : Os) (started : os.Started) (H : Type) (enc : TypeId × Value → H) :
    ReturnsInHanded {} Tryd.checked os 5 .any (fun w args => (Rows.scriptBoundsSpec.pre enc Tryd.prog Tryd.f5 [] false w args ∧ laidMetH Tryd.prog An w) ∧ sizedMet enc Tryd.prog Tryd.f5 (OpenSpec.ofChange Rows.scriptBoundsSpec) false w args)
      (Rows.scriptBoundsSpec.post enc Tryd.prog Tryd.f5 false true false false) := by
  refine returnsInHanded_of_change_and (C := Tryd.checked) (X := fun w _ => laidMetH Tryd.prog An w) (fun _ _ _ hh h => h.of_heap hh) MO started (by kernel_rfl) Tryd.func5
    (ChangeSpec.witness_at (enc := enc) (C := Tryd.checked) (os := os) (X := fun w _ => laidMetH Tryd.prog An w) false (Cx os) #[] 8 rfl (by kernel_rfl) (by kernel_rfl) (by kernel_rfl) (by kernel_rfl) (by kernel_rfl) (Ks os _)) ?_
  intro W base args ds gs before hval0 hW _ _ hL _
  have hval : ∀ (j : Nat) t v, Tryd.f5.params[j]? = some t → args[j]? = some v → Value.okWide Tryd.prog W .any base t v := hval0
  have hW' := hW
  obtain ⟨p, q, hA0, hV, rfl, _, _⟩ := hW'
  have hA : DataW.TrodAll enc Tryd.prog W 0 (fun _ => true) true Tryd.f5.params.toList args.toList ds p := hA0
  rw [Tryd.params5] at hA hval
  obtain ⟨hargs, rfl, rfl⟩ := trodAll_nil hA
  obtain rfl : args = #[] := by cases args; simp_all
  obtain ⟨rfl, rfl⟩ := trodVars_none hV
  obtain ⟨_, hc⟩ := kH  (G7 ) ae.none_ W [] (Hw W (LC hL)) .nil
  refine hc.mono ?_
  rintro e W' ⟨u, rfl, hw, hu⟩
  cases Ka hu
  exact ⟨_, rfl, J9 LA hW rfl (by kernel_rfl) rfl (by kernel_rfl) (tb := Tryd.f5.resultTypes[0]!) (by kernel_rfl) hw⟩
theorem rM:Rows.ScriptBoundsSaid :=
  OpenClaim.holds_of_wide 5 Tryd.f5 rfl rfl rfl rfl rfl rfl rfl ⟨rfl,rfl,rfl,rfl,rfl⟩ rfl rfl rfl rfl rfl (by kernel_rfl) Tryd.func5 (by kernel_rfl)
    (of_decide_eq_true (by kernel_rfl)) (by unfold Func.isWrapper;first | (rw [if_pos (by decide +kernel)];kernel_rfl) | (rw [if_neg (by decide +kernel)];exact ⟨rfl,rfl⟩))
    (fun os started H enc _=>Jt os started H enc)
theorem scriptBoundsHolds:Rows.ScriptBoundsCardSaid :=
  Claim7.holds_tied_plain_at .later [] [.data, .data, .data, .data, .sentinel, .sentinel, .pinned] true (true, "b73eb7e61e23c0bd6b720301fce30354402b534af3c937ef455cb1862a279d8b") true
    rM (fun _ h=>by cases h) (by kernel_rfl) (fun _ h=>by cases h) scriptBounds_row_tie rfl ⟨rfl,rfl⟩ (by kernel_rfl) rfl
    (fun f fn hf hfn=>by
      obtain rfl : f = 5 := Option.some.inj ((show Tryd.prog.funcNamed "plumbline/plumblinelaw23.ScriptBounds" = some 5 by kernel_rfl).symm.trans hf) |>.symm
      obtain rfl:fn=Tryd.f5:=(Option.some.inj (Tryd.func5.symm.trans hfn)).symm
      refine ⟨by kernel_rfl,fun j t ht=>?_⟩
      rw [Tryd.params5] at ht
      simp at ht)
    (by kernel_rfl)
#print axioms scriptBoundsHolds
end Go.Proofs.YtacdcghekbbjiaaDoor
