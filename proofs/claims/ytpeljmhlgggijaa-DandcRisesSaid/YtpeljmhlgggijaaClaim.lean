/-
  'plumblinelaw16.DandcRises' answers true whatever it is handed (1 arguments), and leaves what was handed in as it was. No condition.
-/
import Derived.Test.YtpeljmhlgggijaaRows
import Derived.Test.YtpeljmhlgggijaaA5
namespace Go.Proofs.Ytpeljmhlgggijaa
open Go.ChangeShapes Go.WideShapes Go.ChangeAt Go.RowKit Go.Plb Go.Plb.Seat
theorem V6{xs:List Nat}(h:(FA.fl xs).has .fl) :Wd xs:=by
  intro i
  rw [List.getD_eq_getElem?_getD]
  cases e:xs[i]? with
  | none=>decide
  | some x =>
    have hx:=h.2 x (List.mem_of_getElem? e)
    have h2:=hx
    simp only [Lit.wf] at h2
    exact of_decide_eq_true h2
theorem Wz:ownKnob Try.prog.godebug=none:=by kernel_rfl
theorem VL:laidOutB Try.prog=true:=by kernel_rfl
set_option maxRecDepth 100000 in
theorem TW (os : Os) (started : os.Started) (H : Type) (enc : TypeId × Value → H) :
    ReturnsInHanded {} Try.checked os 4 .any (Rows.dandcRisesSpec.pre6 enc Try.prog Try.f4 Rows.dandcRisesRow.domain false) (Rows.dandcRisesSpec.post enc Try.prog Try.f4 false true false false) := by
  refine returnsInHanded_of_change (C := Try.checked) Wz started (by kernel_rfl) Try.func4
    (ChangeSpec.witness6 (enc := enc) (C := Try.checked) false ⟨#[], #[.agg #[.slice none 0 0, .slice none 0 0]], []⟩ 8 (by kernel_rfl) (by kernel_rfl) (by kernel_rfl) (by kernel_rfl)) ?_
  intro W base args ds gs before hval0 hW _ _
  have hval : ∀ (j : Nat) t v, Try.f4.params[j]? = some t → args[j]? = some v → Value.okWide Try.prog W .any base t v := hval0
  have hW' := hW
  obtain ⟨p, q, hA0, hV, rfl, _, _⟩ := hW'
  have hA : DataW.TrodAll enc Try.prog W 0 (fun _ => true) true Try.f4.params.toList args.toList ds p := hA0
  rw [Try.params4] at hA hval
  obtain ⟨v0, vs0, d0, ds0, p0, q0, ha0, rfl, rfl, h0, r0⟩ := trodAll_cons hA
  obtain ⟨rfl, rfl, rfl⟩ := trodAll_nil r0
  obtain rfl : args = #[v0] := by cases args; simp_all
  obtain ⟨rfl, rfl⟩ := trodVars_none hV
  obtain ⟨a0, k0, g0⟩ := QX (fts := [.fl, .fl]) (by kernel_rfl) (hval 0 _ v0 rfl rfl) h0
  obtain ⟨x0, y0, rfl⟩ := UK k0
  obtain ⟨_, hc⟩ := zj .free x0 .free y0 (TV (V6 k0.1) (V6 k0.2.1)) aG.none_ W [v0] (Vl W UL) (.cons _ _ _ _ g0 .nil)
  refine hc.mono ?_
  rintro e W' ⟨u, rfl, hw, hu⟩
  cases Uu hu
  exact ⟨_, rfl, Us VL hW rfl (by kernel_rfl) rfl (by kernel_rfl) (tb := Try.f4.resultTypes[0]!) (by kernel_rfl) hw⟩
theorem dandcRisesHolds:Rows.DandcRisesSaid :=
  OpenClaim.holds_of_wide 4 Try.f4 rfl rfl rfl rfl rfl rfl rfl ⟨rfl,rfl,rfl,rfl,rfl⟩ rfl rfl rfl rfl rfl (by kernel_rfl) Try.func4 (by kernel_rfl)
    (of_decide_eq_true (by kernel_rfl)) (by unfold Func.isWrapper;first | (rw [if_pos (by decide +kernel)];kernel_rfl) | (rw [if_neg (by decide +kernel)];exact ⟨rfl,rfl⟩))
    (fun os started H enc _=>TW os started H enc)
#print axioms dandcRisesHolds
end Go.Proofs.Ytpeljmhlgggijaa
