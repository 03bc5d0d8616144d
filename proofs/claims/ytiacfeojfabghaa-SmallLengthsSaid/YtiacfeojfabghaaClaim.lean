/-
  'plumblinelaw06.SmallLengths' answers true whatever it is handed (2 arguments), and leaves what was handed in as it was. No condition.
-/
import Derived.Test.YtiacfeojfabghaaRows
import Derived.Test.YtiacfeojfabghaaA3
namespace Go.Proofs.Ytiacfeojfabghaa
open Go.ChangeShapes Go.WideShapes Go.ChangeAt Go.RowKit Go.Plb Go.Plb.Seat

theorem lawOwn : ownKnob Try.prog.godebug = none := by kernel_rfl
theorem lawLaid : laidOutB Try.prog = true := by kernel_rfl

set_option maxRecDepth 100000 in
theorem lawLifted (os : Os) (started : os.Started) (H : Type) (enc : TypeId × Value → H) :
    ReturnsInHanded {} Try.checked os 6 .any (Rows.smallLengthsSpec.pre6 enc Try.prog Try.f6 Rows.smallLengthsRow.domain false) (Rows.smallLengthsSpec.post enc Try.prog Try.f6 false true false false) := by
  refine returnsInHanded_of_change (C := Try.checked) lawOwn started (by kernel_rfl) Try.func6
    (ChangeSpec.witness6 (enc := enc) (C := Try.checked) false ⟨#[], #[.float .f64 0, .float .f64 0], []⟩ 8 (by kernel_rfl) (by kernel_rfl) (by kernel_rfl) (by kernel_rfl)) ?_
  intro W base args ds gs before hval0 hW _ _
  have hval : ∀ (j : Nat) t v, Try.f6.params[j]? = some t → args[j]? = some v → Value.okWide Try.prog W .any base t v := hval0
  have hW' := hW
  obtain ⟨p, q, hA0, hV, rfl, _, _⟩ := hW'
  have hA : DataW.TrodAll enc Try.prog W 0 (fun _ => true) true Try.f6.params.toList args.toList ds p := hA0
  rw [Try.params6] at hA hval
  obtain ⟨v0, vs0, d0, ds0, p0, q0, ha0, rfl, rfl, h0, r0⟩ := trodAll_cons hA
  obtain ⟨v1, vs1, d1, ds1, p1, q1, rfl, rfl, rfl, h1, r1⟩ := trodAll_cons r0
  obtain ⟨rfl, rfl, rfl⟩ := trodAll_nil r1
  obtain rfl : args = #[v0, v1] := by cases args; simp_all
  obtain ⟨rfl, rfl⟩ := trodVars_none hV
  obtain ⟨a0, k0, g0⟩ := open_arg (ft := .f) (by kernel_rfl) (hval 0 _ v0 rfl rfl) h0
  obtain ⟨x0, rfl⟩ := has_f k0
  obtain ⟨a1, k1, g1⟩ := open_arg (ft := .f) (by kernel_rfl) (hval 1 _ v1 rfl rfl) h1
  obtain ⟨x1, rfl⟩ := has_f k1
  obtain ⟨_, hc⟩ := law06_SmallLengths_ok x0 x1 (SmallLengths_spec x0 x1) Place.none_ W [v0, v1] (none_no W) (.cons _ _ _ _ g0 (.cons _ _ _ _ g1 .nil))
  refine hc.mono ?_
  rintro e W' ⟨u, rfl, hw, hu⟩
  cases out_bool hu
  exact ⟨_, rfl, law_post lawLaid hW rfl (by kernel_rfl) rfl (by kernel_rfl) (tb := Try.f6.resultTypes[0]!) (by kernel_rfl) hw⟩

theorem smallLengthsHolds : Rows.SmallLengthsSaid :=
  OpenClaim.holds_of_wide 6 Try.f6 rfl rfl rfl rfl rfl rfl rfl ⟨rfl, rfl, rfl, rfl, rfl⟩ rfl rfl rfl rfl rfl (by kernel_rfl) Try.func6 (by kernel_rfl)
    (of_decide_eq_true (by kernel_rfl)) (by unfold Func.isWrapper; first | (rw [if_pos (by decide +kernel)]; kernel_rfl) | (rw [if_neg (by decide +kernel)]; exact ⟨rfl, rfl⟩))
    (fun os started H enc _ => lawLifted os started H enc)

#print axioms smallLengthsHolds
end Go.Proofs.Ytiacfeojfabghaa
