/-
  'plumblinelaw19.CertScaled' answers true whatever it is handed (4 arguments), and leaves what was handed in as it was; the table that it reads is told by the program's text. No condition.
-/
import Derived.Test.YthikcnkmglbbbaaDoorCards
import Derived.Test.YthikcnkmglbbbaaDoorTie
import Derived.ChangeSame
import Derived.ChangeVars
import Derived.JoinedOf
import Derived.SevenTiedAt
import Derived.Stop.Joined
import Derived.Test.YthikcnkmglbbbaaDoorA5
namespace Go.Proofs.YthikcnkmglbbbaaDoor
open Go.ChangeShapes Go.WideShapes Go.ChangeAt Go.RowKit Go.Plb Go.Plb.Seat
set_option maxRecDepth 100000 in
theorem aby (os : Os) (started : os.Started) (H : Type) (enc : TypeId × Value → H) :
    ReturnsInHanded {} Tryd.checked os 4 .any (fun w args => (Rows.certScaledSpec.pre enc Tryd.prog Tryd.f4 [] false w args ∧ laidMetH Tryd.prog FW w) ∧ sizedMet enc Tryd.prog Tryd.f4 (OpenSpec.ofChange Rows.certScaledSpec) false w args)
      (Rows.certScaledSpec.post enc Tryd.prog Tryd.f4 false true false false) := by
  refine returnsInHanded_of_change_and (C := Tryd.checked) (X := fun w _ => laidMetH Tryd.prog FW w) (fun _ _ _ hh h => h.of_heap hh) aep started (by kernel_rfl) Tryd.func4
    (ChangeSpec.witness_at (enc := enc) (C := Tryd.checked) (os := os) (X := fun w _ => laidMetH Tryd.prog FW w) false (QZ os) #[.agg #[.int .i64 0, .int .i64 0, .slice none 0 0], .slice none 0 0, .agg #[.int .i64 0, .int .i64 0, .slice none 0 0], .int .i64 0] 8 rfl (by kernel_rfl) (by kernel_rfl) (by kernel_rfl) (by kernel_rfl) (by kernel_rfl) (acE os _)) ?_
  intro W base args ds gs before hval0 hW _ _ hL _
  have hval : ∀ (j : Nat) t v, Tryd.f4.params[j]? = some t → args[j]? = some v → Value.okWide Tryd.prog W .any base t v := hval0
  have hW' := hW
  obtain ⟨p, q, hA0, hV, rfl, _, _⟩ := hW'
  have hA : DataW.TrodAll enc Tryd.prog W 0 (fun _ => true) true Tryd.f4.params.toList args.toList ds p := hA0
  rw [Tryd.params4] at hA hval
  obtain ⟨v0, vs0, d0, ds0, p0, q0, ha0, rfl, rfl, h0, r0⟩ := trodAll_cons hA
  obtain ⟨v1, vs1, d1, ds1, p1, q1, rfl, rfl, rfl, h1, r1⟩ := trodAll_cons r0
  obtain ⟨v2, vs2, d2, ds2, p2, q2, rfl, rfl, rfl, h2, r2⟩ := trodAll_cons r1
  obtain ⟨v3, vs3, d3, ds3, p3, q3, rfl, rfl, rfl, h3, r3⟩ := trodAll_cons r2
  obtain ⟨rfl, rfl, rfl⟩ := trodAll_nil r3
  obtain rfl : args = #[v0, v1, v2, v3] := by cases args; simp_all
  obtain ⟨rfl, rfl⟩ := trodVars_none hV
  obtain ⟨a0, k0, g0⟩ := IO (fts := [.i .i64, .i .i64, .fl]) (by kernel_rfl) (hval 0 _ v0 rfl rfl) h0
  obtain ⟨x0, y0, z0, rfl⟩ := Z8 k0
  obtain ⟨a1, k1, g1⟩ := UQ (ft := .fl) (by kernel_rfl) (hval 1 _ v1 rfl rfl) h1
  obtain ⟨x1, rfl⟩ := ab7 k1
  obtain ⟨a2, k2, g2⟩ := IO (fts := [.i .i64, .i .i64, .fl]) (by kernel_rfl) (hval 2 _ v2 rfl rfl) h2
  obtain ⟨x2, y2, z2, rfl⟩ := Z8 k2
  obtain ⟨a3, k3, g3⟩ := UQ (ft := .i .i64) (by kernel_rfl) (hval 3 _ v3 rfl rfl) h3
  obtain ⟨x3, rfl⟩ := ab6 k3
  obtain ⟨_, hc⟩ := tK x0 y0 .free z0 .free x1 x2 y2 .free z2 x3 (ZN (acF k0.2.2.1) (acF k1) (acF k2.2.2.1)) aw.none_ W [v0, v1, v2, v3] (adm W (adx hL)) (.cons _ _ _ _ g0 (.cons _ _ _ _ g1 (.cons _ _ _ _ g2 (.cons _ _ _ _ g3 .nil))))
  refine hc.mono ?_
  rintro e W' ⟨u, rfl, hw, hu⟩
  cases ab8 hu
  exact ⟨_, rfl, ab5 adv hW rfl (by kernel_rfl) rfl (by kernel_rfl) (tb := Tryd.f4.resultTypes[0]!) (by kernel_rfl) hw⟩
theorem E9:Rows.CertScaledSaid :=
  OpenClaim.holds_of_wide 4 Tryd.f4 rfl rfl rfl rfl rfl rfl rfl ⟨rfl,rfl,rfl,rfl,rfl⟩ rfl rfl rfl rfl rfl (by kernel_rfl) Tryd.func4 (by kernel_rfl)
    (of_decide_eq_true (by kernel_rfl)) (by unfold Func.isWrapper;first | (rw [if_pos (by decide +kernel)];kernel_rfl) | (rw [if_neg (by decide +kernel)];exact ⟨rfl,rfl⟩))
    (fun os started H enc _=>aby os started H enc)
theorem certScaledHolds:Rows.CertScaledCardSaid :=
  Claim7.holds_tied_plain_at .later [] [.data] true (true, "209b5e7b6af9990ee9a16db444b35ef48c323d632a0d14634554129fea5dc427") false
    E9 (fun _ h=>by cases h) (by kernel_rfl) (fun _ h=>by cases h) certScaled_row_tie rfl ⟨rfl,rfl⟩ (by kernel_rfl) rfl
    (fun f fn hf hfn=>by
      obtain rfl : f = 4 := Option.some.inj ((show Tryd.prog.funcNamed "plumbline/plumblinelaw19.CertScaled" = some 4 by kernel_rfl).symm.trans hf) |>.symm
      obtain rfl:fn=Tryd.f4:=(Option.some.inj (Tryd.func4.symm.trans hfn)).symm
      refine ⟨by kernel_rfl,fun j t ht=>?_⟩
      rw [Tryd.params4] at ht
      have all:∀ t∈([32,22,32,3]:List TypeId),Tryd.prog.wantsStandIn t=false:=by
        intro t ht
        simp only [List.mem_cons,List.not_mem_nil,or_false] at ht
        rcases ht with rfl | rfl | rfl | rfl<;>kernel_rfl
      exact all t (List.mem_of_getElem? (i:=j) (by simpa using ht)))
    (by kernel_rfl)
#print axioms certScaledHolds
end Go.Proofs.YthikcnkmglbbbaaDoor
