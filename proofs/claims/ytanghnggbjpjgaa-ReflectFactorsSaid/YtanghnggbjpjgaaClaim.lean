/-
  'plumblinelaw09.ReflectFactors' answers true at every list of reflections, and leaves it as it was. No condition.
-/
import Derived.Test.YtanghnggbjpjgaaRows
import Derived.Test.YtanghnggbjpjgaaA5
namespace Go.Proofs.Ytanghnggbjpjgaa
open Go.ChangeShapes Go.WideShapes Go.ChangeAt Go.RowKit Go.Plb Go.Plb.Seat

theorem lawOwn : ownKnob Try.prog.godebug = none := by kernel_rfl
theorem lawLaid : laidOutB Try.prog = true := by kernel_rfl

set_option maxRecDepth 100000 in
theorem factorsLifted (os : Os) (started : os.Started) (H : Type) (enc : TypeId × Value → H) :
    ReturnsInHanded {} Try.checked os 5 .any (Rows.reflectFactorsSpec.pre6 enc Try.prog Try.f5 Rows.reflectFactorsRow.domain false) (Rows.reflectFactorsSpec.post enc Try.prog Try.f5 false true false false) := by
  refine returnsInHanded_of_change (C := Try.checked) lawOwn started (by kernel_rfl) Try.func5
    (ChangeSpec.witness6 (enc := enc) (C := Try.checked) false ⟨#[], #[.slice none 0 0], []⟩ 8 (by kernel_rfl) (by kernel_rfl) (by kernel_rfl) (by kernel_rfl)) ?_
  intro W base args ds gs before hval0 hW _ _
  have hval : ∀ (j : Nat) t v, Try.f5.params[j]? = some t → args[j]? = some v → Value.okWide Try.prog W .any base t v := hval0
  have hW' := hW
  obtain ⟨p, q, hA0, hV, rfl, _, _⟩ := hW'
  have hA : DataW.TrodAll enc Try.prog W 0 (fun _ => true) true Try.f5.params.toList args.toList ds p := hA0
  rw [Try.params5] at hA hval
  obtain ⟨v0, vs0, d0, ds0, p0, q0, ha0, rfl, rfl, h0, r0⟩ := trodAll_cons hA
  obtain ⟨rfl, rfl, rfl⟩ := trodAll_nil r0
  obtain rfl : args = #[v0] := by cases args; simp_all
  obtain ⟨rfl, rfl⟩ := trodVars_none hV
  obtain ⟨n, G, _, hG, g0⟩ := open_rows (fts := [.fl, .f]) (e := 26) (by kernel_rfl) (by kernel_rfl) (by kernel_rfl) (by decide) (hval 0 _ v0 rfl rfl) h0
  obtain ⟨ls, ts, hc0, rfl, h2, h3⟩ := rows_flf hG
  rw [hc0] at g0
  obtain ⟨_, hc⟩ := law09_ReflectFactors_ok .free ls.length ls ts (ReflectFactors_spec ls ts h2 fun i hi => Nat.le_trans (h3 i hi) (by decide)) Place.none_ W [v0] (none_no W) (.cons _ _ _ _ g0 .nil)
  refine hc.mono ?_
  rintro e W' ⟨u, rfl, hw, hu⟩
  cases out_bool hu
  exact ⟨_, rfl, law_post lawLaid hW rfl (by kernel_rfl) rfl (by kernel_rfl) (tb := Try.f5.resultTypes[0]!) (by kernel_rfl) hw⟩

theorem reflectFactorsHolds : Rows.ReflectFactorsSaid :=
  OpenClaim.holds_of_wide 5 Try.f5 rfl rfl rfl rfl rfl rfl rfl ⟨rfl, rfl, rfl, rfl, rfl⟩ rfl rfl rfl rfl rfl (by kernel_rfl) Try.func5 (by kernel_rfl)
    (of_decide_eq_true (by kernel_rfl)) (by unfold Func.isWrapper; first | (rw [if_pos (by decide +kernel)]; kernel_rfl) | (rw [if_neg (by decide +kernel)]; exact ⟨rfl, rfl⟩))
    (fun os started H enc _ => factorsLifted os started H enc)

#print axioms reflectFactorsHolds
end Go.Proofs.Ytanghnggbjpjgaa
