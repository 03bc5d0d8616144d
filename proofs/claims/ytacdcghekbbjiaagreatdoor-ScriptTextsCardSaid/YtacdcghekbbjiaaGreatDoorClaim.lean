/-
  'plumblinelaw23.ScriptTexts' answers true whatever it is handed (1 arguments), and leaves what was handed in as it was; the package variables that it reads are told by the program's text. No condition.
-/
import Derived.Test.YtacdcghekbbjiaaGreatDoorCards
import Derived.Test.YtacdcghekbbjiaaGreatDoorTie
import Derived.ChangeSame
import Derived.ChangeVars
import Derived.JoinedOf
import Derived.SevenTiedAt
import Derived.Stop.Joined
import Derived.Test.YtacdcghekbbjiaaGreatDoorA4
namespace Go.Proofs.YtacdcghekbbjiaaGreatDoor
open Go.ChangeShapes Go.WideShapes Go.ChangeAt Go.RowKit Go.Plb Go.Plb.Seat
theorem Kj{x:Int}(h:(Lit.int .u64 x).wf=true) :0≤x∧x<18446744073709551616:=by
  simp [Lit.wf,IntKind.min,IntKind.max,IntKind.signed,IntKind.bits] at h
  omega
theorem LN{a:FA}(h:a.has (.ns .u64)) :IP a.lz:=by
  cases a<;>simp only [FA.has] at h
  obtain ⟨rfl,_,h⟩:=h
  exact fun w hw=>Kj (h w hw)
theorem Mp{a:FA}(h:a.has (.i .u64)) :0≤a.z∧a.z<18446744073709551616:=by
  cases a<;>simp only [FA.has] at h
  obtain ⟨rfl,h⟩:=h
  exact Kj h
theorem Kk{G:Nat→Nat→FA}{n:Nat}(hG:∀ i j ft,i<n→[FT.i .i64,.i .i64,.i .i64,.ns .u64,.i .i64,.i .u64][j]? = some ft→(G i j).has ft) :
    ∃ ks ms ns wss ys ts,mb G n [FT.i .i64,.i .i64,.i .i64,.ns .u64,.i .i64,.i .u64] 0=[.ci .i64 ks,.ci .i64 ms,.ci .i64 ns,.cns .u64 wss,.ci .i64 ys,.ci .u64 ts]∧KO n ks ms ns wss ys ts∧(∀ ws∈wss,IP ws)∧IP ts:=by
  refine ⟨_,_,_,_,_,_,rfl,⟨by simp,by simp,by simp,by simp,by simp,by simp⟩,fun ws hw=>?_,fun t ht=>?_⟩
  · obtain ⟨i,hi,rfl⟩:=List.mem_map.1 hw
    exact LN (hG i 3 (.ns .u64) (List.mem_range.1 hi) rfl)
  · obtain ⟨i,hi,rfl⟩:=List.mem_map.1 ht
    exact Mp (hG i 5 (.i .u64) (List.mem_range.1 hi) rfl)
set_option maxRecDepth 100000 in
theorem IU (os : Os) (started : os.Started) (H : Type) (enc : TypeId × Value → H) :
    ReturnsInHanded {} Tryz.checked os 3 .any (fun w args => (Rows.scriptTextsSpec.pre enc Tryz.prog Tryz.f3 [] false w args ∧ laidMetH Tryz.prog Ax w) ∧ sizedMet enc Tryz.prog Tryz.f3 (OpenSpec.ofChange Rows.scriptTextsSpec) false w args)
      (Rows.scriptTextsSpec.post enc Tryz.prog Tryz.f3 false true false false) := by
  refine returnsInHanded_of_change_and (C := Tryz.checked) (X := fun w _ => laidMetH Tryz.prog Ax w) (fun _ _ _ hh h => h.of_heap hh) Lt started (by kernel_rfl) Tryz.func3
    (ChangeSpec.witness_at (enc := enc) (C := Tryz.checked) (os := os) (X := fun w _ => laidMetH Tryz.prog Ax w) false (Da os) #[.slice none 0 0] 8 rfl (by kernel_rfl) (by kernel_rfl) (by kernel_rfl) (by kernel_rfl) (by kernel_rfl) (JO os _)) ?_
  intro W base args ds gs before hval0 hW _ _ hL _
  have hval : ∀ (j : Nat) t v, Tryz.f3.params[j]? = some t → args[j]? = some v → Value.okWide Tryz.prog W .any base t v := hval0
  have hW' := hW
  obtain ⟨p, q, hA0, hV, rfl, _, _⟩ := hW'
  have hA : DataW.TrodAll enc Tryz.prog W 0 (fun _ => true) true Tryz.f3.params.toList args.toList ds p := hA0
  rw [Tryz.params3] at hA hval
  obtain ⟨v0, vs0, d0, ds0, p0, q0, ha0, rfl, rfl, h0, r0⟩ := trodAll_cons hA
  obtain ⟨rfl, rfl, rfl⟩ := trodAll_nil r0
  obtain rfl : args = #[v0] := by cases args; simp_all
  obtain ⟨rfl, rfl⟩ := trodVars_none hV
  obtain ⟨n0, G0, _, hG0, g0⟩ := It (fts := [FT.i .i64, .i .i64, .i .i64, .ns .u64, .i .i64, .i .u64]) (e := 33) (by kernel_rfl) (by kernel_rfl) (by kernel_rfl) (by decide) (hval 0 _ v0 rfl rfl) h0
  obtain ⟨ks0, ms0, ns0, ws0, ys0, ts0, hc0, hC0, hw0, ht0⟩ := Kk hG0
  rw [hc0] at g0
  obtain ⟨_, hc⟩ := lU .free n0 ks0 ms0 ns0 ws0 ys0 ts0 (IT n0 ks0 ms0 ns0 ws0 ys0 ts0 hC0 hw0 ht0) ae.none_ W [v0] (Hy W (Ky hL)) (.cons _ _ _ _ g0 .nil)
  refine hc.mono ?_
  rintro e W' ⟨u, rfl, hw, hu⟩
  cases Jw hu
  exact ⟨_, rfl, Jv Kw hW rfl (by kernel_rfl) rfl (by kernel_rfl) (tb := Tryz.f3.resultTypes[0]!) (by kernel_rfl) hw⟩
theorem tf:Rows.ScriptTextsSaid :=
  OpenClaim.holds_of_wide 3 Tryz.f3 rfl rfl rfl rfl rfl rfl rfl ⟨rfl,rfl,rfl,rfl,rfl⟩ rfl rfl rfl rfl rfl (by kernel_rfl) Tryz.func3 (by kernel_rfl)
    (of_decide_eq_true (by kernel_rfl)) (by unfold Func.isWrapper;first | (rw [if_pos (by decide +kernel)];kernel_rfl) | (rw [if_neg (by decide +kernel)];exact ⟨rfl,rfl⟩))
    (fun os started H enc _=>IU os started H enc)
theorem scriptTextsHolds:Rows.ScriptTextsCardSaid :=
  Claim7.holds_tied_plain_at .later [] [.data, .data, .data, .data, .sentinel, .sentinel, .pinned] true (true, "6f8fbb2efda4868b64c562ce6a2a02bb7292be35e2bed358b564168e68a34699") true
    tf (fun _ h=>by cases h) (by kernel_rfl) (fun _ h=>by cases h) scriptTexts_row_tie rfl ⟨rfl,rfl⟩ (by kernel_rfl) rfl
    (fun f fn hf hfn=>by
      obtain rfl : f = 3 := Option.some.inj ((show Tryz.prog.funcNamed "plumbline/plumblinelaw23.ScriptTexts" = some 3 by kernel_rfl).symm.trans hf) |>.symm
      obtain rfl:fn=Tryz.f3:=(Option.some.inj (Tryz.func3.symm.trans hfn)).symm
      refine ⟨by kernel_rfl,fun j t ht=>?_⟩
      rw [Tryz.params3] at ht
      have all:∀ t∈([22]:List TypeId),Tryz.prog.wantsStandIn t=false:=by
        intro t ht
        simp only [List.mem_cons,List.not_mem_nil,or_false] at ht
        subst ht;kernel_rfl
      exact all t (List.mem_of_getElem? (i:=j) (by simpa using ht)))
    (by kernel_rfl)
#print axioms scriptTextsHolds
end Go.Proofs.YtacdcghekbbjiaaGreatDoor
