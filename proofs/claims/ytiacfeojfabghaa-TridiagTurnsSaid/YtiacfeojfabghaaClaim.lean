/-
  'plumblinelaw10.TridiagTurns' answers true whatever it is handed (2 arguments), and leaves what was handed in as it was. No condition.
-/
import Derived.Test.YtiacfeojfabghaaRows
import Derived.Test.YtiacfeojfabghaaA6
namespace Go.Proofs.Ytiacfeojfabghaa
open Go.ChangeShapes Go.WideShapes Go.ChangeAt Go.RowKit Go.Plb Go.Plb.Seat

theorem lawOwn : ownKnob Try.prog.godebug = none := by kernel_rfl
theorem lawLaid : laidOutB Try.prog = true := by kernel_rfl

set_option maxRecDepth 100000 in
theorem lawLifted (os : Os) (started : os.Started) (H : Type) (enc : TypeId × Value → H) :
    ReturnsInHanded {} Try.checked os 9 .any (Rows.tridiagTurnsSpec.pre6 enc Try.prog Try.f9 Rows.tridiagTurnsRow.domain false) (Rows.tridiagTurnsSpec.post enc Try.prog Try.f9 false true false false) := by
  refine returnsInHanded_of_change (C := Try.checked) lawOwn started (by kernel_rfl) Try.func9
    (ChangeSpec.witness6 (enc := enc) (C := Try.checked) false ⟨#[], #[.int .i64 0, .slice none 0 0], []⟩ 8 (by kernel_rfl) (by kernel_rfl) (by kernel_rfl) (by kernel_rfl)) ?_
  intro W base args ds gs before hval0 hW _ _
  have hval : ∀ (j : Nat) t v, Try.f9.params[j]? = some t → args[j]? = some v → Value.okWide Try.prog W .any base t v := hval0
  have hW' := hW
  obtain ⟨p, q, hA0, hV, rfl, _, _⟩ := hW'
  have hA : DataW.TrodAll enc Try.prog W 0 (fun _ => true) true Try.f9.params.toList args.toList ds p := hA0
  rw [Try.params9] at hA hval
  obtain ⟨v0, vs0, d0, ds0, p0, q0, ha0, rfl, rfl, h0, r0⟩ := trodAll_cons hA
  obtain ⟨v1, vs1, d1, ds1, p1, q1, rfl, rfl, rfl, h1, r1⟩ := trodAll_cons r0
  obtain ⟨rfl, rfl, rfl⟩ := trodAll_nil r1
  obtain rfl : args = #[v0, v1] := by cases args; simp_all
  obtain ⟨rfl, rfl⟩ := trodVars_none hV
  obtain ⟨a0, k0, g0⟩ := open_arg (ft := .i .i64) (by kernel_rfl) (hval 0 _ v0 rfl rfl) h0
  obtain ⟨x0, rfl⟩ := has_i k0
  obtain ⟨n1, G1, _, hG1, g1⟩ := open_rows (fts := [.fl, .f]) (e := 54) (by kernel_rfl) (by kernel_rfl) (by kernel_rfl) (by decide) (hval 1 _ v1 rfl rfl) h1
  obtain ⟨ls1, ts1, hc1, rfl, l1, m1⟩ := rows_flf hG1
  rw [hc1] at g1
  obtain ⟨_, hc⟩ := law10_TridiagTurns_ok x0 .free ls1.length ls1 ts1 (TridiagTurns_law x0 ls1 ts1 l1) Place.none_ W [v0, v1] (none_no W) (.cons _ _ _ _ g0 (.cons _ _ _ _ g1 .nil))
  refine hc.mono ?_
  rintro e W' ⟨u, rfl, hw, hu⟩
  cases out_bool hu
  exact ⟨_, rfl, law_post lawLaid hW rfl (by kernel_rfl) rfl (by kernel_rfl) (tb := Try.f9.resultTypes[0]!) (by kernel_rfl) hw⟩

theorem tridiagTurnsHolds : Rows.TridiagTurnsSaid :=
  OpenClaim.holds_of_wide 9 Try.f9 rfl rfl rfl rfl rfl rfl rfl ⟨rfl, rfl, rfl, rfl, rfl⟩ rfl rfl rfl rfl rfl (by kernel_rfl) Try.func9 (by kernel_rfl)
    (of_decide_eq_true (by kernel_rfl)) (by unfold Func.isWrapper; first | (rw [if_pos (by decide +kernel)]; kernel_rfl) | (rw [if_neg (by decide +kernel)]; exact ⟨rfl, rfl⟩))
    (fun os started H enc _ => lawLifted os started H enc)

#print axioms tridiagTurnsHolds
end Go.Proofs.Ytiacfeojfabghaa
