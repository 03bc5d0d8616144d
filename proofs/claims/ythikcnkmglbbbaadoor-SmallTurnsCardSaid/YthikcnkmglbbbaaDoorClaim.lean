/-
  'plumblinelaw06.SmallTurns' answers true whatever it is handed (3 arguments), and leaves what was handed in as it was; the table that it reads is told by the program's text. No condition.
-/
import Derived.Test.YthikcnkmglbbbaaDoorCards
import Derived.Test.YthikcnkmglbbbaaDoorTie
import Derived.ChangeSame
import Derived.ChangeVars
import Derived.JoinedOf
import Derived.SevenTiedAt
import Derived.Stop.Joined
import Derived.Test.YthikcnkmglbbbaaDoorA4
namespace Go.Proofs.YthikcnkmglbbbaaDoor
open Go.ChangeShapes Go.WideShapes Go.ChangeAt Go.RowKit Go.Plb Go.Plb.Seat
set_option maxRecDepth 100000 in
theorem Of (os : Os) (started : os.Started) (H : Type) (enc : TypeId × Value → H) :
    ReturnsInHanded {} Tryd.checked os 6 .any (fun w args => (Rows.smallTurnsSpec.pre enc Tryd.prog Tryd.f6 [] false w args ∧ laidMetH Tryd.prog wI w) ∧ sizedMet enc Tryd.prog Tryd.f6 (OpenSpec.ofChange Rows.smallTurnsSpec) false w args)
      (Rows.smallTurnsSpec.post enc Tryd.prog Tryd.f6 false true false false) := by
  refine returnsInHanded_of_change_and (C := Tryd.checked) (X := fun w _ => laidMetH Tryd.prog wI w) (fun _ _ _ hh h => h.of_heap hh) Rr started (by kernel_rfl) Tryd.func6
    (ChangeSpec.witness_at (enc := enc) (C := Tryd.checked) (os := os) (X := fun w _ => laidMetH Tryd.prog wI w) false (ED os) #[.float .f64 0, .float .f64 0, .int .i64 0] 8 rfl (by kernel_rfl) (by kernel_rfl) (by kernel_rfl) (by kernel_rfl) (by kernel_rfl) (Po os _)) ?_
  intro W base args ds gs before hval0 hW _ _ hL _
  have hval : ∀ (j : Nat) t v, Tryd.f6.params[j]? = some t → args[j]? = some v → Value.okWide Tryd.prog W .any base t v := hval0
  have hW' := hW
  obtain ⟨p, q, hA0, hV, rfl, _, _⟩ := hW'
  have hA : DataW.TrodAll enc Tryd.prog W 0 (fun _ => true) true Tryd.f6.params.toList args.toList ds p := hA0
  rw [Tryd.params6] at hA hval
  obtain ⟨v0, vs0, d0, ds0, p0, q0, ha0, rfl, rfl, h0, r0⟩ := trodAll_cons hA
  obtain ⟨v1, vs1, d1, ds1, p1, q1, rfl, rfl, rfl, h1, r1⟩ := trodAll_cons r0
  obtain ⟨v2, vs2, d2, ds2, p2, q2, rfl, rfl, rfl, h2, r2⟩ := trodAll_cons r1
  obtain ⟨rfl, rfl, rfl⟩ := trodAll_nil r2
  obtain rfl : args = #[v0, v1, v2] := by cases args; simp_all
  obtain ⟨rfl, rfl⟩ := trodVars_none hV
  obtain ⟨a0, k0, g0⟩ := Bm (ft := .f) (by kernel_rfl) (hval 0 _ v0 rfl rfl) h0
  obtain ⟨x0, rfl⟩ := QL k0
  obtain ⟨a1, k1, g1⟩ := Bm (ft := .f) (by kernel_rfl) (hval 1 _ v1 rfl rfl) h1
  obtain ⟨x1, rfl⟩ := QL k1
  obtain ⟨a2, k2, g2⟩ := Bm (ft := .i .i64) (by kernel_rfl) (hval 2 _ v2 rfl rfl) h2
  obtain ⟨x2, rfl⟩ := RO k2
  obtain ⟨_, hc⟩ := mu x0 x1 x2 (Oe (RZ k0) (RZ k1)) ah.none_ W [v0, v1, v2] (P0 W (Qe hL)) (.cons _ _ _ _ g0 (.cons _ _ _ _ g1 (.cons _ _ _ _ g2 .nil)))
  refine hc.mono ?_
  rintro e W' ⟨u, rfl, hw, hu⟩
  cases OQ hu
  exact ⟨_, rfl, OP Qc hW rfl (by kernel_rfl) rfl (by kernel_rfl) (tb := Tryd.f6.resultTypes[0]!) (by kernel_rfl) hw⟩
theorem vY:Rows.SmallTurnsSaid :=
  OpenClaim.holds_of_wide 6 Tryd.f6 rfl rfl rfl rfl rfl rfl rfl ⟨rfl,rfl,rfl,rfl,rfl⟩ rfl rfl rfl rfl rfl (by kernel_rfl) Tryd.func6 (by kernel_rfl)
    (of_decide_eq_true (by kernel_rfl)) (by unfold Func.isWrapper;first | (rw [if_pos (by decide +kernel)];kernel_rfl) | (rw [if_neg (by decide +kernel)];exact ⟨rfl,rfl⟩))
    (fun os started H enc _=>Of os started H enc)
theorem smallTurnsHolds:Rows.SmallTurnsCardSaid :=
  Claim7.holds_tied_plain_at .later [] [.data] true (true, "209b5e7b6af9990ee9a16db444b35ef48c323d632a0d14634554129fea5dc427") false
    vY (fun _ h=>by cases h) (by kernel_rfl) (fun _ h=>by cases h) smallTurns_row_tie rfl ⟨rfl,rfl⟩ (by kernel_rfl) rfl
    (fun f fn hf hfn=>by
      obtain rfl : f = 6 := Option.some.inj ((show Tryd.prog.funcNamed "plumbline/plumblinelaw06.SmallTurns" = some 6 by kernel_rfl).symm.trans hf) |>.symm
      obtain rfl:fn=Tryd.f6:=(Option.some.inj (Tryd.func6.symm.trans hfn)).symm
      refine ⟨by kernel_rfl,fun j t ht=>?_⟩
      rw [Tryd.params6] at ht
      have all:∀ t∈([25,25,3]:List TypeId),Tryd.prog.wantsStandIn t=false:=by
        intro t ht
        simp only [List.mem_cons,List.not_mem_nil,or_false] at ht
        rcases ht with rfl | rfl | rfl<;>kernel_rfl
      exact all t (List.mem_of_getElem? (i:=j) (by simpa using ht)))
    (by kernel_rfl)
#print axioms smallTurnsHolds
end Go.Proofs.YthikcnkmglbbbaaDoor
