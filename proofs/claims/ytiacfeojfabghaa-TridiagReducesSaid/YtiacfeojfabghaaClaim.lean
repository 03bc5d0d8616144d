/-
  'plumblinelaw10.TridiagReduces' answers true whatever it is handed (1 arguments), and leaves what was handed in as it was. No condition.
-/
import Derived.Test.YtiacfeojfabghaaRows
import Derived.Test.YtiacfeojfabghaaA6
namespace Go.Proofs.Ytiacfeojfabghaa
open Go.ChangeShapes Go.WideShapes Go.ChangeAt Go.RowKit Go.Plb Go.Plb.Seat

theorem lawOwn : ownKnob Try.prog.godebug = none := by kernel_rfl
theorem lawLaid : laidOutB Try.prog = true := by kernel_rfl

set_option maxRecDepth 100000 in
theorem lawLifted (os : Os) (started : os.Started) (H : Type) (enc : TypeId × Value → H) :
    ReturnsInHanded {} Try.checked os 8 .any (Rows.tridiagReducesSpec.pre6 enc Try.prog Try.f8 Rows.tridiagReducesRow.domain false) (Rows.tridiagReducesSpec.post enc Try.prog Try.f8 false true false false) := by
  refine returnsInHanded_of_change (C := Try.checked) lawOwn started (by kernel_rfl) Try.func8
    (ChangeSpec.witness6 (enc := enc) (C := Try.checked) false ⟨#[], #[.agg #[.int .i64 0, .int .i64 0, .slice none 0 0]], []⟩ 8 (by kernel_rfl) (by kernel_rfl) (by kernel_rfl) (by kernel_rfl)) ?_
  intro W base args ds gs before hval0 hW _ _
  have hval : ∀ (j : Nat) t v, Try.f8.params[j]? = some t → args[j]? = some v → Value.okWide Try.prog W .any base t v := hval0
  have hW' := hW
  obtain ⟨p, q, hA0, hV, rfl, _, _⟩ := hW'
  have hA : DataW.TrodAll enc Try.prog W 0 (fun _ => true) true Try.f8.params.toList args.toList ds p := hA0
  rw [Try.params8] at hA hval
  obtain ⟨v0, vs0, d0, ds0, p0, q0, ha0, rfl, rfl, h0, r0⟩ := trodAll_cons hA
  obtain ⟨rfl, rfl, rfl⟩ := trodAll_nil r0
  obtain rfl : args = #[v0] := by cases args; simp_all
  obtain ⟨rfl, rfl⟩ := trodVars_none hV
  obtain ⟨a0, k0, g0⟩ := open_struct (fts := [.i .i64, .i .i64, .fl]) (by kernel_rfl) (hval 0 _ v0 rfl rfl) h0
  obtain ⟨x0, y0, z0, rfl⟩ := has_iif k0
  obtain ⟨_, hc⟩ := law10_TridiagReduces_ok x0 y0 .free z0 (TridiagReduces_law x0 y0 z0) Place.none_ W [v0] (none_no W) (.cons _ _ _ _ g0 .nil)
  refine hc.mono ?_
  rintro e W' ⟨u, rfl, hw, hu⟩
  cases out_bool hu
  exact ⟨_, rfl, law_post lawLaid hW rfl (by kernel_rfl) rfl (by kernel_rfl) (tb := Try.f8.resultTypes[0]!) (by kernel_rfl) hw⟩

theorem tridiagReducesHolds : Rows.TridiagReducesSaid :=
  OpenClaim.holds_of_wide 8 Try.f8 rfl rfl rfl rfl rfl rfl rfl ⟨rfl, rfl, rfl, rfl, rfl⟩ rfl rfl rfl rfl rfl (by kernel_rfl) Try.func8 (by kernel_rfl)
    (of_decide_eq_true (by kernel_rfl)) (by unfold Func.isWrapper; first | (rw [if_pos (by decide +kernel)]; kernel_rfl) | (rw [if_neg (by decide +kernel)]; exact ⟨rfl, rfl⟩))
    (fun os started H enc _ => lawLifted os started H enc)

#print axioms tridiagReducesHolds
end Go.Proofs.Ytiacfeojfabghaa
