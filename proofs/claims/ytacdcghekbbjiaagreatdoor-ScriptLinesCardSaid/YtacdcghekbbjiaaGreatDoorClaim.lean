/-
  'plumblinelaw23.ScriptLines' answers true whatever it is handed (2 arguments), and leaves what was handed in as it was; the package variables that it reads are told by the program's text. No condition.
-/
import Derived.Test.YtacdcghekbbjiaaGreatDoorCards
import Derived.Test.YtacdcghekbbjiaaGreatDoorTie
import Derived.ChangeSame
import Derived.ChangeVars
import Derived.JoinedOf
import Derived.SevenTiedAt
import Derived.Stop.Joined
import Derived.Test.YtacdcghekbbjiaaGreatDoorA4
namespace Go.Proofs.YtacdcghekbbjiaaGreatDoor
open Go.ChangeShapes Go.WideShapes Go.ChangeAt Go.RowKit Go.Plb Go.Plb.Seat
set_option maxRecDepth 100000 in
theorem Hx (os : Os) (started : os.Started) (H : Type) (enc : TypeId × Value → H) :
    ReturnsInHanded {} Tryz.checked os 5 .any (fun w args => (Rows.scriptLinesSpec.pre enc Tryz.prog Tryz.f5 [] false w args ∧ laidMetH Tryz.prog zC w) ∧ sizedMet enc Tryz.prog Tryz.f5 (OpenSpec.ofChange Rows.scriptLinesSpec) false w args)
      (Rows.scriptLinesSpec.post enc Tryz.prog Tryz.f5 false true false false) := by
  refine returnsInHanded_of_change_and (C := Tryz.checked) (X := fun w _ => laidMetH Tryz.prog zC w) (fun _ _ _ hh h => h.of_heap hh) Kb started (by kernel_rfl) Tryz.func5
    (ChangeSpec.witness_at (enc := enc) (C := Tryz.checked) (os := os) (X := fun w _ => laidMetH Tryz.prog zC w) false (BX os) #[.agg #[.int .i64 0, .int .i64 0, .int .i64 0, .slice none 0 0, .int .i64 0, .int .u64 0], .int .i64 0] 8 rfl (by kernel_rfl) (by kernel_rfl) (by kernel_rfl) (by kernel_rfl) (by kernel_rfl) (Iv os _)) ?_
  intro W base args ds gs before hval0 hW _ _ hL _
  have hval : ∀ (j : Nat) t v, Tryz.f5.params[j]? = some t → args[j]? = some v → Value.okWide Tryz.prog W .any base t v := hval0
  have hW' := hW
  obtain ⟨p, q, hA0, hV, rfl, _, _⟩ := hW'
  have hA : DataW.TrodAll enc Tryz.prog W 0 (fun _ => true) true Tryz.f5.params.toList args.toList ds p := hA0
  rw [Tryz.params5] at hA hval
  obtain ⟨v0, vs0, d0, ds0, p0, q0, ha0, rfl, rfl, h0, r0⟩ := trodAll_cons hA
  obtain ⟨v1, vs1, d1, ds1, p1, q1, rfl, rfl, rfl, h1, r1⟩ := trodAll_cons r0
  obtain ⟨rfl, rfl, rfl⟩ := trodAll_nil r1
  obtain rfl : args = #[v0, v1] := by cases args; simp_all
  obtain ⟨rfl, rfl⟩ := trodVars_none hV
  obtain ⟨a0, k0, g0⟩ := Eb (fts := [.i .i64, .i .i64, .i .i64, .ns .u64, .i .i64, .i .u64]) (by kernel_rfl) (hval 0 _ v0 rfl rfl) h0
  obtain ⟨x0, y0, z0, w0, m0, t0, rfl⟩ := Jf k0
  obtain ⟨a1, k1, g1⟩ := Ia (ft := .i .i64) (by kernel_rfl) (hval 1 _ v1 rfl rfl) h1
  obtain ⟨x1, rfl⟩ := BV k1
  obtain ⟨_, hc⟩ := lB x0 y0 z0 .free w0 m0 t0 x1 (Hw x0 y0 z0 w0 m0 t0 x1) ae.none_ W [v0, v1] (Gi W (Je hL)) (.cons _ _ _ _ g0 (.cons _ _ _ _ g1 .nil))
  refine hc.mono ?_
  rintro e W' ⟨u, rfl, hw, hu⟩
  cases Idq hu
  exact ⟨_, rfl, Ic Jc hW rfl (by kernel_rfl) rfl (by kernel_rfl) (tb := Tryz.f5.resultTypes[0]!) (by kernel_rfl) hw⟩
theorem sc:Rows.ScriptLinesSaid :=
  OpenClaim.holds_of_wide 5 Tryz.f5 rfl rfl rfl rfl rfl rfl rfl ⟨rfl,rfl,rfl,rfl,rfl⟩ rfl rfl rfl rfl rfl (by kernel_rfl) Tryz.func5 (by kernel_rfl)
    (of_decide_eq_true (by kernel_rfl)) (by unfold Func.isWrapper;first | (rw [if_pos (by decide +kernel)];kernel_rfl) | (rw [if_neg (by decide +kernel)];exact ⟨rfl,rfl⟩))
    (fun os started H enc _=>Hx os started H enc)
theorem scriptLinesHolds:Rows.ScriptLinesCardSaid :=
  Claim7.holds_tied_plain_at .later [] [.data, .data, .data, .data, .sentinel, .sentinel, .pinned] true (true, "6f8fbb2efda4868b64c562ce6a2a02bb7292be35e2bed358b564168e68a34699") true
    sc (fun _ h=>by cases h) (by kernel_rfl) (fun _ h=>by cases h) scriptLines_row_tie rfl ⟨rfl,rfl⟩ (by kernel_rfl) rfl
    (fun f fn hf hfn=>by
      obtain rfl : f = 5 := Option.some.inj ((show Tryz.prog.funcNamed "plumbline/plumblinelaw23.ScriptLines" = some 5 by kernel_rfl).symm.trans hf) |>.symm
      obtain rfl:fn=Tryz.f5:=(Option.some.inj (Tryz.func5.symm.trans hfn)).symm
      refine ⟨by kernel_rfl,fun j t ht=>?_⟩
      rw [Tryz.params5] at ht
      have all:∀ t∈([33,3]:List TypeId),Tryz.prog.wantsStandIn t=false:=by
        intro t ht
        simp only [List.mem_cons,List.not_mem_nil,or_false] at ht
        rcases ht with rfl | rfl<;>kernel_rfl
      exact all t (List.mem_of_getElem? (i:=j) (by simpa using ht)))
    (by kernel_rfl)
#print axioms scriptLinesHolds
end Go.Proofs.YtacdcghekbbjiaaGreatDoor
