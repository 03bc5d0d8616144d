/-
  'plumblinelaw19.CertSvd' answers true whatever it is handed (4 arguments), and leaves what was handed in as it was; the table that it reads is told by the program's text. No condition.
-/
import Derived.Test.YthikcnkmglbbbaaGreatDoorCards
import Derived.Test.YthikcnkmglbbbaaGreatDoorTie
import Derived.ChangeSame
import Derived.ChangeVars
import Derived.JoinedOf
import Derived.SevenTiedAt
import Derived.Stop.Joined
import Derived.Test.YthikcnkmglbbbaaGreatDoorA6
namespace Go.Proofs.YthikcnkmglbbbaaGreatDoor
open Go.ChangeShapes Go.WideShapes Go.ChangeAt Go.RowKit Go.Plb Go.Plb.Seat
set_option maxRecDepth 100000 in
theorem atM (os : Os) (started : os.Started) (H : Type) (enc : TypeId × Value → H) :
    ReturnsInHanded {} Tryz.checked os 7 .any (fun w args => (Rows.certSvdSpec.pre enc Tryz.prog Tryz.f7 [] false w args ∧ laidMetH Tryz.prog QJ w) ∧ sizedMet enc Tryz.prog Tryz.f7 (OpenSpec.ofChange Rows.certSvdSpec) false w args)
      (Rows.certSvdSpec.post enc Tryz.prog Tryz.f7 false true false false) := by
  refine returnsInHanded_of_change_and (C := Tryz.checked) (X := fun w _ => laidMetH Tryz.prog QJ w) (fun _ _ _ hh h => h.of_heap hh) awA started (by kernel_rfl) Tryz.func7
    (ChangeSpec.witness_at (enc := enc) (C := Tryz.checked) (os := os) (X := fun w _ => laidMetH Tryz.prog QJ w) false (ag6 os) #[.agg #[.int .i64 0, .int .i64 0, .slice none 0 0], .slice none 0 0, .agg #[.int .i64 0, .int .i64 0, .slice none 0 0], .agg #[.int .i64 0, .int .i64 0, .slice none 0 0]] 8 rfl (by kernel_rfl) (by kernel_rfl) (by kernel_rfl) (by kernel_rfl) (by kernel_rfl) (auP os _)) ?_
  intro W base args ds gs before hval0 hW _ _ hL _
  have hval : ∀ (j : Nat) t v, Tryz.f7.params[j]? = some t → args[j]? = some v → Value.okWide Tryz.prog W .any base t v := hval0
  have hW' := hW
  obtain ⟨p, q, hA0, hV, rfl, _, _⟩ := hW'
  have hA : DataW.TrodAll enc Tryz.prog W 0 (fun _ => true) true Tryz.f7.params.toList args.toList ds p := hA0
  rw [Tryz.params7] at hA hval
  obtain ⟨v0, vs0, d0, ds0, p0, q0, ha0, rfl, rfl, h0, r0⟩ := trodAll_cons hA
  obtain ⟨v1, vs1, d1, ds1, p1, q1, rfl, rfl, rfl, h1, r1⟩ := trodAll_cons r0
  obtain ⟨v2, vs2, d2, ds2, p2, q2, rfl, rfl, rfl, h2, r2⟩ := trodAll_cons r1
  obtain ⟨v3, vs3, d3, ds3, p3, q3, rfl, rfl, rfl, h3, r3⟩ := trodAll_cons r2
  obtain ⟨rfl, rfl, rfl⟩ := trodAll_nil r3
  obtain rfl : args = #[v0, v1, v2, v3] := by cases args; simp_all
  obtain ⟨rfl, rfl⟩ := trodVars_none hV
  obtain ⟨a0, k0, g0⟩ := JA (fts := [.i .i64, .i .i64, .fl]) (by kernel_rfl) (hval 0 _ v0 rfl rfl) h0
  obtain ⟨x0, y0, z0, rfl⟩ := ait k0
  obtain ⟨a1, k1, g1⟩ := auf (ft := .fl) (by kernel_rfl) (hval 1 _ v1 rfl rfl) h1
  obtain ⟨x1, rfl⟩ := aui k1
  obtain ⟨a2, k2, g2⟩ := JA (fts := [.i .i64, .i .i64, .fl]) (by kernel_rfl) (hval 2 _ v2 rfl rfl) h2
  obtain ⟨x2, y2, z2, rfl⟩ := ait k2
  obtain ⟨a3, k3, g3⟩ := JA (fts := [.i .i64, .i .i64, .fl]) (by kernel_rfl) (hval 3 _ v3 rfl rfl) h3
  obtain ⟨x3, y3, z3, rfl⟩ := ait k3
  obtain ⟨_, hc⟩ := Gp x0 y0 .free z0 .free x1 x2 y2 .free z2 x3 y3 .free z3 (avU (asn k0.2.2.1) (asn k1) (asn k2.2.2.1) (asn k3.2.2.1)) aO.none_ W [v0, v1, v2, v3] (avr W (avE hL)) (.cons _ _ _ _ g0 (.cons _ _ _ _ g1 (.cons _ _ _ _ g2 (.cons _ _ _ _ g3 .nil))))
  refine hc.mono ?_
  rintro e W' ⟨u, rfl, hw, hu⟩
  cases auj hu
  exact ⟨_, rfl, auh avC hW rfl (by kernel_rfl) rfl (by kernel_rfl) (tb := Tryz.f7.resultTypes[0]!) (by kernel_rfl) hw⟩
theorem XN:Rows.CertSvdSaid :=
  OpenClaim.holds_of_wide 7 Tryz.f7 rfl rfl rfl rfl rfl rfl rfl ⟨rfl,rfl,rfl,rfl,rfl⟩ rfl rfl rfl rfl rfl (by kernel_rfl) Tryz.func7 (by kernel_rfl)
    (of_decide_eq_true (by kernel_rfl)) (by unfold Func.isWrapper;first | (rw [if_pos (by decide +kernel)];kernel_rfl) | (rw [if_neg (by decide +kernel)];exact ⟨rfl,rfl⟩))
    (fun os started H enc _=>atM os started H enc)
theorem certSvdHolds:Rows.CertSvdCardSaid :=
  Claim7.holds_tied_plain_at .later [] [.data] true (true, "caf565605b5cad8ba51c4f0184b4af7fe49f4b7d40b07418b8dc05a0e784a9fd") false
    XN (fun _ h=>by cases h) (by kernel_rfl) (fun _ h=>by cases h) certSvd_row_tie rfl ⟨rfl,rfl⟩ (by kernel_rfl) rfl
    (fun f fn hf hfn=>by
      obtain rfl : f = 7 := Option.some.inj ((show Tryz.prog.funcNamed "plumbline/plumblinelaw19.CertSvd" = some 7 by kernel_rfl).symm.trans hf) |>.symm
      obtain rfl:fn=Tryz.f7:=(Option.some.inj (Tryz.func7.symm.trans hfn)).symm
      refine ⟨by kernel_rfl,fun j t ht=>?_⟩
      rw [Tryz.params7] at ht
      have all:∀ t∈([24,22,24,24]:List TypeId),Tryz.prog.wantsStandIn t=false:=by
        intro t ht
        simp only [List.mem_cons,List.not_mem_nil,or_false] at ht
        rcases ht with rfl | rfl | rfl | rfl<;>kernel_rfl
      exact all t (List.mem_of_getElem? (i:=j) (by simpa using ht)))
    (by kernel_rfl)
#print axioms certSvdHolds
end Go.Proofs.YthikcnkmglbbbaaGreatDoor
