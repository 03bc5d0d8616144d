/-
  'plumblinelaw16.DandcApart' answers true whatever it is handed (2 arguments), and leaves what was handed in as it was. No condition.
-/
import Derived.Test.YtpeljmhlgggijaaRows
import Derived.Test.YtpeljmhlgggijaaA5
namespace Go.Proofs.Ytpeljmhlgggijaa
open Go.ChangeShapes Go.WideShapes Go.ChangeAt Go.RowKit Go.Plb Go.Plb.Seat
theorem TG{xs:List Nat}(h:(FA.fl xs).has .fl) :Wd xs:=by
  intro i
  rw [List.getD_eq_getElem?_getD]
  cases e:xs[i]? with
  | none=>decide
  | some x =>
    have hx:=h.2 x (List.mem_of_getElem? e)
    have h2:=hx
    simp only [Lit.wf] at h2
    exact of_decide_eq_true h2
theorem Xf:ownKnob Try.prog.godebug=none:=by kernel_rfl
theorem Wy:laidOutB Try.prog=true:=by kernel_rfl
set_option maxRecDepth 100000 in
theorem UD (os : Os) (started : os.Started) (H : Type) (enc : TypeId × Value → H) :
    ReturnsInHanded {} Try.checked os 3 .any (Rows.dandcApartSpec.pre6 enc Try.prog Try.f3 Rows.dandcApartRow.domain false) (Rows.dandcApartSpec.post enc Try.prog Try.f3 false true false false) := by
  refine returnsInHanded_of_change (C := Try.checked) Xf started (by kernel_rfl) Try.func3
    (ChangeSpec.witness6 (enc := enc) (C := Try.checked) false ⟨#[], #[.agg #[.slice none 0 0, .slice none 0 0], .agg #[.slice none 0 0, .slice none 0 0]], []⟩ 8 (by kernel_rfl) (by kernel_rfl) (by kernel_rfl) (by kernel_rfl)) ?_
  intro W base args ds gs before hval0 hW _ _
  have hval : ∀ (j : Nat) t v, Try.f3.params[j]? = some t → args[j]? = some v → Value.okWide Try.prog W .any base t v := hval0
  have hW' := hW
  obtain ⟨p, q, hA0, hV, rfl, _, _⟩ := hW'
  have hA : DataW.TrodAll enc Try.prog W 0 (fun _ => true) true Try.f3.params.toList args.toList ds p := hA0
  rw [Try.params3] at hA hval
  obtain ⟨v0, vs0, d0, ds0, p0, q0, ha0, rfl, rfl, h0, r0⟩ := trodAll_cons hA
  obtain ⟨v1, vs1, d1, ds1, p1, q1, rfl, rfl, rfl, h1, r1⟩ := trodAll_cons r0
  obtain ⟨rfl, rfl, rfl⟩ := trodAll_nil r1
  obtain rfl : args = #[v0, v1] := by cases args; simp_all
  obtain ⟨rfl, rfl⟩ := trodVars_none hV
  obtain ⟨a0, k0, g0⟩ := Le (fts := [.fl, .fl]) (by kernel_rfl) (hval 0 _ v0 rfl rfl) h0
  obtain ⟨x0, y0, rfl⟩ := RG k0
  obtain ⟨a1, k1, g1⟩ := Le (fts := [.fl, .fl]) (by kernel_rfl) (hval 1 _ v1 rfl rfl) h1
  obtain ⟨x1, y1, rfl⟩ := RG k1
  obtain ⟨_, hc⟩ := zo .free x0 .free y0 .free x1 .free y1 (UC (TG k0.1) (TG k0.2.1) (TG k1.1) (TG k1.2.1)) aH.none_ W [v0, v1] (V5 W Vq) (.cons _ _ _ _ g0 (.cons _ _ _ _ g1 .nil))
  refine hc.mono ?_
  rintro e W' ⟨u, rfl, hw, hu⟩
  cases Va hu
  exact ⟨_, rfl, U8 Wy hW rfl (by kernel_rfl) rfl (by kernel_rfl) (tb := Try.f3.resultTypes[0]!) (by kernel_rfl) hw⟩
theorem dandcApartHolds:Rows.DandcApartSaid :=
  OpenClaim.holds_of_wide 3 Try.f3 rfl rfl rfl rfl rfl rfl rfl ⟨rfl,rfl,rfl,rfl,rfl⟩ rfl rfl rfl rfl rfl (by kernel_rfl) Try.func3 (by kernel_rfl)
    (of_decide_eq_true (by kernel_rfl)) (by unfold Func.isWrapper;first | (rw [if_pos (by decide +kernel)];kernel_rfl) | (rw [if_neg (by decide +kernel)];exact ⟨rfl,rfl⟩))
    (fun os started H enc _=>UD os started H enc)
#print axioms dandcApartHolds
end Go.Proofs.Ytpeljmhlgggijaa
