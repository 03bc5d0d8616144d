/-
  'plumblinelaw23.ScriptSame' answers true whatever it is handed (2 arguments), and leaves what was handed in as it was; the package variables that it reads are told by the program's text. No condition.
-/
import Derived.Test.YtacdcghekbbjiaaDoorCards
import Derived.Test.YtacdcghekbbjiaaDoorTie
import Derived.ChangeSame
import Derived.ChangeVars
import Derived.JoinedOf
import Derived.SevenTiedAt
import Derived.Stop.Joined
import Derived.Test.YtacdcghekbbjiaaDoorA3
namespace Go.Proofs.YtacdcghekbbjiaaDoor
open Go.ChangeShapes Go.WideShapes Go.ChangeAt Go.RowKit Go.Plb Go.Plb.Seat
set_option maxRecDepth 100000 in
theorem wM (os : Os) (started : os.Started) (H : Type) (enc : TypeId × Value → H) :
    ReturnsInHanded {} Tryd.checked os 6 .any (fun w args => (Rows.scriptSameSpec.pre enc Tryd.prog Tryd.f6 [] false w args ∧ laidMetH Tryd.prog oT w) ∧ sizedMet enc Tryd.prog Tryd.f6 (OpenSpec.ofChange Rows.scriptSameSpec) false w args)
      (Rows.scriptSameSpec.post enc Tryd.prog Tryd.f6 false true false false) := by
  refine returnsInHanded_of_change_and (C := Tryd.checked) (X := fun w _ => laidMetH Tryd.prog oT w) (fun _ _ _ hh h => h.of_heap hh) zk started (by kernel_rfl) Tryd.func6
    (ChangeSpec.witness_at (enc := enc) (C := Tryd.checked) (os := os) (X := fun w _ => laidMetH Tryd.prog oT w) false (qL os) #[.agg #[.int .i64 0, .int .i64 0, .int .i64 0, .slice none 0 0, .int .i64 0, .int .u64 0], .agg #[.int .i64 0, .int .i64 0, .int .i64 0, .slice none 0 0, .int .i64 0, .int .u64 0]] 8 rfl (by kernel_rfl) (by kernel_rfl) (by kernel_rfl) (by kernel_rfl) (by kernel_rfl) (xM os _)) ?_
  intro W base args ds gs before hval0 hW _ _ hL _
  have hval : ∀ (j : Nat) t v, Tryd.f6.params[j]? = some t → args[j]? = some v → Value.okWide Tryd.prog W .any base t v := hval0
  have hW' := hW
  obtain ⟨p, q, hA0, hV, rfl, _, _⟩ := hW'
  have hA : DataW.TrodAll enc Tryd.prog W 0 (fun _ => true) true Tryd.f6.params.toList args.toList ds p := hA0
  rw [Tryd.params6] at hA hval
  obtain ⟨v0, vs0, d0, ds0, p0, q0, ha0, rfl, rfl, h0, r0⟩ := trodAll_cons hA
  obtain ⟨v1, vs1, d1, ds1, p1, q1, rfl, rfl, rfl, h1, r1⟩ := trodAll_cons r0
  obtain ⟨rfl, rfl, rfl⟩ := trodAll_nil r1
  obtain rfl : args = #[v0, v1] := by cases args; simp_all
  obtain ⟨rfl, rfl⟩ := trodVars_none hV
  obtain ⟨a0, k0, g0⟩ := m5 (fts := [.i .i64, .i .i64, .i .i64, .ns .u64, .i .i64, .i .u64]) (by kernel_rfl) (hval 0 _ v0 rfl rfl) h0
  obtain ⟨x0, y0, z0, w0, m0, t0, rfl⟩ := vD k0
  obtain ⟨a1, k1, g1⟩ := m5 (fts := [.i .i64, .i .i64, .i .i64, .ns .u64, .i .i64, .i .u64]) (by kernel_rfl) (hval 1 _ v1 rfl rfl) h1
  obtain ⟨x1, y1, z1, w1, m1, t1, rfl⟩ := vD k1
  obtain ⟨_, hc⟩ := er x0 y0 z0 .free w0 m0 t0 x1 y1 z1 .free w1 m1 t1 (yd x0 y0 z0 w0 m0 t0 x1 y1 z1 w1 m1 t1) aa.none_ W [v0, v1] (vu W (yu hL)) (.cons _ _ _ _ g0 (.cons _ _ _ _ g1 .nil))
  refine hc.mono ?_
  rintro e W' ⟨u, rfl, hw, hu⟩
  cases xu hu
  exact ⟨_, rfl, xt yq hW rfl (by kernel_rfl) rfl (by kernel_rfl) (tb := Tryd.f6.resultTypes[0]!) (by kernel_rfl) hw⟩
theorem kH:Rows.ScriptSameSaid :=
  OpenClaim.holds_of_wide 6 Tryd.f6 rfl rfl rfl rfl rfl rfl rfl ⟨rfl,rfl,rfl,rfl,rfl⟩ rfl rfl rfl rfl rfl (by kernel_rfl) Tryd.func6 (by kernel_rfl)
    (of_decide_eq_true (by kernel_rfl)) (by unfold Func.isWrapper;first | (rw [if_pos (by decide +kernel)];kernel_rfl) | (rw [if_neg (by decide +kernel)];exact ⟨rfl,rfl⟩))
    (fun os started H enc _=>wM os started H enc)
theorem scriptSameHolds:Rows.ScriptSameCardSaid :=
  Claim7.holds_tied_plain_at .later [] [.data, .data, .data, .data, .sentinel, .sentinel, .pinned] true (true, "b73eb7e61e23c0bd6b720301fce30354402b534af3c937ef455cb1862a279d8b") true
    kH (fun _ h=>by cases h) (by kernel_rfl) (fun _ h=>by cases h) scriptSame_row_tie rfl ⟨rfl,rfl⟩ (by kernel_rfl) rfl
    (fun f fn hf hfn=>by
      obtain rfl : f = 6 := Option.some.inj ((show Tryd.prog.funcNamed "plumbline/plumblinelaw23.ScriptSame" = some 6 by kernel_rfl).symm.trans hf) |>.symm
      obtain rfl:fn=Tryd.f6:=(Option.some.inj (Tryd.func6.symm.trans hfn)).symm
      refine ⟨by kernel_rfl,fun j t ht=>?_⟩
      rw [Tryd.params6] at ht
      have all:∀ t∈([37,37]:List TypeId),Tryd.prog.wantsStandIn t=false:=by
        intro t ht
        simp only [List.mem_cons,List.not_mem_nil,or_false] at ht
        rcases ht with rfl | rfl<;>kernel_rfl
      exact all t (List.mem_of_getElem? (i:=j) (by simpa using ht)))
    (by kernel_rfl)
#print axioms scriptSameHolds
end Go.Proofs.YtacdcghekbbjiaaDoor
