/-
  'plumblinelaw19.CertSym' answers true whatever it is handed (3 arguments), and leaves what was handed in as it was; the table that it reads is told by the program's text. No condition.
-/
import Derived.Test.YthikcnkmglbbbaaGreatDoorCards
import Derived.Test.YthikcnkmglbbbaaGreatDoorTie
import Derived.ChangeSame
import Derived.ChangeVars
import Derived.JoinedOf
import Derived.SevenTiedAt
import Derived.Stop.Joined
import Derived.Test.YthikcnkmglbbbaaGreatDoorA6
namespace Go.Proofs.YthikcnkmglbbbaaGreatDoor
open Go.ChangeShapes Go.WideShapes Go.ChangeAt Go.RowKit Go.Plb Go.Plb.Seat
set_option maxRecDepth 100000 in
theorem apG (os : Os) (started : os.Started) (H : Type) (enc : TypeId × Value → H) :
    ReturnsInHanded {} Tryz.checked os 5 .any (fun w args => (Rows.certSymSpec.pre enc Tryz.prog Tryz.f5 [] false w args ∧ laidMetH Tryz.prog Oj w) ∧ sizedMet enc Tryz.prog Tryz.f5 (OpenSpec.ofChange Rows.certSymSpec) false w args)
      (Rows.certSymSpec.post enc Tryz.prog Tryz.f5 false true false false) := by
  refine returnsInHanded_of_change_and (C := Tryz.checked) (X := fun w _ => laidMetH Tryz.prog Oj w) (fun _ _ _ hh h => h.of_heap hh) asu started (by kernel_rfl) Tryz.func5
    (ChangeSpec.witness_at (enc := enc) (C := Tryz.checked) (os := os) (X := fun w _ => laidMetH Tryz.prog Oj w) false (ady os) #[.agg #[.int .i64 0, .int .i64 0, .slice none 0 0], .slice none 0 0, .agg #[.int .i64 0, .int .i64 0, .slice none 0 0]] 8 rfl (by kernel_rfl) (by kernel_rfl) (by kernel_rfl) (by kernel_rfl) (by kernel_rfl) (aqJ os _)) ?_
  intro W base args ds gs before hval0 hW _ _ hL _
  have hval : ∀ (j : Nat) t v, Tryz.f5.params[j]? = some t → args[j]? = some v → Value.okWide Tryz.prog W .any base t v := hval0
  have hW' := hW
  obtain ⟨p, q, hA0, hV, rfl, _, _⟩ := hW'
  have hA : DataW.TrodAll enc Tryz.prog W 0 (fun _ => true) true Tryz.f5.params.toList args.toList ds p := hA0
  rw [Tryz.params5] at hA hval
  obtain ⟨v0, vs0, d0, ds0, p0, q0, ha0, rfl, rfl, h0, r0⟩ := trodAll_cons hA
  obtain ⟨v1, vs1, d1, ds1, p1, q1, rfl, rfl, rfl, h1, r1⟩ := trodAll_cons r0
  obtain ⟨v2, vs2, d2, ds2, p2, q2, rfl, rfl, rfl, h2, r2⟩ := trodAll_cons r1
  obtain ⟨rfl, rfl, rfl⟩ := trodAll_nil r2
  obtain rfl : args = #[v0, v1, v2] := by cases args; simp_all
  obtain ⟨rfl, rfl⟩ := trodVars_none hV
  obtain ⟨a0, k0, g0⟩ := R5 (fts := [.i .i64, .i .i64, .fl]) (by kernel_rfl) (hval 0 _ v0 rfl rfl) h0
  obtain ⟨x0, y0, z0, rfl⟩ := an7 k0
  obtain ⟨a1, k1, g1⟩ := ap9 (ft := .fl) (by kernel_rfl) (hval 1 _ v1 rfl rfl) h1
  obtain ⟨x1, rfl⟩ := aqc k1
  obtain ⟨a2, k2, g2⟩ := R5 (fts := [.i .i64, .i .i64, .fl]) (by kernel_rfl) (hval 2 _ v2 rfl rfl) h2
  obtain ⟨x2, y2, z2, rfl⟩ := an7 k2
  obtain ⟨_, hc⟩ := Eu x0 y0 .free z0 .free x1 x2 y2 .free z2 (arK (aqK k0.2.2.1) (aqK k1) (aqK k2.2.2.1)) aK.none_ W [v0, v1, v2] (arl W (arx hL)) (.cons _ _ _ _ g0 (.cons _ _ _ _ g1 (.cons _ _ _ _ g2 .nil)))
  refine hc.mono ?_
  rintro e W' ⟨u, rfl, hw, hu⟩
  cases aqd hu
  exact ⟨_, rfl, aqb arv hW rfl (by kernel_rfl) rfl (by kernel_rfl) (tb := Tryz.f5.resultTypes[0]!) (by kernel_rfl) hw⟩
theorem UI:Rows.CertSymSaid :=
  OpenClaim.holds_of_wide 5 Tryz.f5 rfl rfl rfl rfl rfl rfl rfl ⟨rfl,rfl,rfl,rfl,rfl⟩ rfl rfl rfl rfl rfl (by kernel_rfl) Tryz.func5 (by kernel_rfl)
    (of_decide_eq_true (by kernel_rfl)) (by unfold Func.isWrapper;first | (rw [if_pos (by decide +kernel)];kernel_rfl) | (rw [if_neg (by decide +kernel)];exact ⟨rfl,rfl⟩))
    (fun os started H enc _=>apG os started H enc)
theorem certSymHolds:Rows.CertSymCardSaid :=
  Claim7.holds_tied_plain_at .later [] [.data] true (true, "caf565605b5cad8ba51c4f0184b4af7fe49f4b7d40b07418b8dc05a0e784a9fd") false
    UI (fun _ h=>by cases h) (by kernel_rfl) (fun _ h=>by cases h) certSym_row_tie rfl ⟨rfl,rfl⟩ (by kernel_rfl) rfl
    (fun f fn hf hfn=>by
      obtain rfl : f = 5 := Option.some.inj ((show Tryz.prog.funcNamed "plumbline/plumblinelaw19.CertSym" = some 5 by kernel_rfl).symm.trans hf) |>.symm
      obtain rfl:fn=Tryz.f5:=(Option.some.inj (Tryz.func5.symm.trans hfn)).symm
      refine ⟨by kernel_rfl,fun j t ht=>?_⟩
      rw [Tryz.params5] at ht
      have all:∀ t ∈ ([24,22,24]:List TypeId),Tryz.prog.wantsStandIn t=false:=by
        intro t ht
        simp only [List.mem_cons,List.not_mem_nil,or_false] at ht
        rcases ht with rfl | rfl | rfl <;> kernel_rfl
      exact all t (List.mem_of_getElem? (i:=j) (by simpa using ht)))
    (by kernel_rfl)
#print axioms certSymHolds
end Go.Proofs.YthikcnkmglbbbaaGreatDoor
