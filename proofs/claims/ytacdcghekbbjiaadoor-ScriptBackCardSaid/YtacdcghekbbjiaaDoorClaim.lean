/-
  'plumblinelaw23.ScriptBack' answers true whatever it is handed (2 arguments), and leaves what was handed in as it was; the package variables that it reads are told by the program's text. No condition.
-/
import Derived.Test.YtacdcghekbbjiaaDoorCards
import Derived.Test.YtacdcghekbbjiaaDoorTie
import Derived.ChangeSame
import Derived.ChangeVars
import Derived.JoinedOf
import Derived.SevenTiedAt
import Derived.Stop.Joined
import Derived.Test.YtacdcghekbbjiaaDoorA4
namespace Go.Proofs.YtacdcghekbbjiaaDoor
open Go.ChangeShapes Go.WideShapes Go.ChangeAt Go.RowKit Go.Plb Go.Plb.Seat
theorem K3{x:Int}(h:(Lit.int .u64 x).wf=true) :0≤x∧x<18446744073709551616:=by
  simp [Lit.wf,IntKind.min,IntKind.max,IntKind.signed,IntKind.bits] at h
  omega
theorem MW{a:FA}(h:a.has (.ns .u64)) :Hp a.lz:=by
  cases a<;>simp only [FA.has] at h
  obtain ⟨rfl,_,h⟩:=h
  exact fun w hw=>K3 (h w hw)
theorem Nt{a:FA}(h:a.has (.i .u64)) :0≤a.z∧a.z<18446744073709551616:=by
  cases a<;>simp only [FA.has] at h
  obtain ⟨rfl,h⟩:=h
  exact K3 h
theorem K4{G:Nat→Nat→FA}{n:Nat}(hG:∀ i j ft,i<n→[FT.i .i64,.i .i64,.i .i64,.ns .u64,.i .i64,.i .u64][j]? = some ft→(G i j).has ft) :
    ∃ ks ms ns wss ys ts,mu G n [FT.i .i64,.i .i64,.i .i64,.ns .u64,.i .i64,.i .u64] 0=[.ci .i64 ks,.ci .i64 ms,.ci .i64 ns,.cns .u64 wss,.ci .i64 ys,.ci .u64 ts]∧ED n ks ms ns wss ys ts∧(∀ ws∈wss,Hp ws)∧Hp ts:=by
  refine ⟨_,_,_,_,_,_,rfl,⟨by simp,by simp,by simp,by simp,by simp,by simp⟩,fun ws hw=>?_,fun t ht=>?_⟩
  · obtain ⟨i,hi,rfl⟩:=List.mem_map.1 hw
    exact MW (hG i 3 (.ns .u64) (List.mem_range.1 hi) rfl)
  · obtain ⟨i,hi,rfl⟩:=List.mem_map.1 ht
    exact Nt (hG i 5 (.i .u64) (List.mem_range.1 hi) rfl)
set_option maxRecDepth 100000 in
theorem Jr (os : Os) (started : os.Started) (H : Type) (enc : TypeId × Value → H) :
    ReturnsInHanded {} Tryd.checked os 7 .any (fun w args => (Rows.scriptBackSpec.pre enc Tryd.prog Tryd.f7 [] false w args ∧ laidMetH Tryd.prog AN w) ∧ sizedMet enc Tryd.prog Tryd.f7 (OpenSpec.ofChange Rows.scriptBackSpec) false w args)
      (Rows.scriptBackSpec.post enc Tryd.prog Tryd.f7 false true false false) := by
  refine returnsInHanded_of_change_and (C := Tryd.checked) (X := fun w _ => laidMetH Tryd.prog AN w) (fun _ _ _ hh h => h.of_heap hh) Ms started (by kernel_rfl) Tryd.func7
    (ChangeSpec.witness_at (enc := enc) (C := Tryd.checked) (os := os) (X := fun w _ => laidMetH Tryd.prog AN w) false (De os) #[.slice none 0 0, .string ⟨#[]⟩] 8 rfl (by kernel_rfl) (by kernel_rfl) (by kernel_rfl) (by kernel_rfl) (by kernel_rfl) (Km os _)) ?_
  intro W base args ds gs before hval0 hW _ _ hL _
  have hval : ∀ (j : Nat) t v, Tryd.f7.params[j]? = some t → args[j]? = some v → Value.okWide Tryd.prog W .any base t v := hval0
  have hW' := hW
  obtain ⟨p, q, hA0, hV, rfl, _, _⟩ := hW'
  have hA : DataW.TrodAll enc Tryd.prog W 0 (fun _ => true) true Tryd.f7.params.toList args.toList ds p := hA0
  rw [Tryd.params7] at hA hval
  obtain ⟨v0, vs0, d0, ds0, p0, q0, ha0, rfl, rfl, h0, r0⟩ := trodAll_cons hA
  obtain ⟨v1, vs1, d1, ds1, p1, q1, rfl, rfl, rfl, h1, r1⟩ := trodAll_cons r0
  obtain ⟨rfl, rfl, rfl⟩ := trodAll_nil r1
  obtain rfl : args = #[v0, v1] := by cases args; simp_all
  obtain ⟨rfl, rfl⟩ := trodVars_none hV
  obtain ⟨n0, G0, _, hG0, g0⟩ := IN (fts := [FT.i .i64, .i .i64, .i .i64, .ns .u64, .i .i64, .i .u64]) (e := 37) (by kernel_rfl) (by kernel_rfl) (by kernel_rfl) (by decide) (hval 0 _ v0 rfl rfl) h0
  obtain ⟨ks0, ms0, ns0, ws0, ys0, ts0, hc0, hC0, hw0, ht0⟩ := K4 hG0
  rw [hc0] at g0
  obtain ⟨a1, k1, g1⟩ := J1 (ft := .s) (by kernel_rfl) (hval 1 _ v1 rfl rfl) h1
  obtain ⟨x1, rfl, z1⟩ := M7 k1
  obtain ⟨_, hc⟩ := mN .free n0 ks0 ms0 ns0 ws0 ys0 ts0 x1 (K2 n0 ks0 ms0 ns0 ws0 ys0 ts0 x1 hC0 hw0 ht0) ae.none_ W [v0, v1] (HQ W (Le hL)) (.cons _ _ _ _ g0 (.cons _ _ _ _ g1 .nil))
  refine hc.mono ?_
  rintro e W' ⟨u, rfl, hw, hu⟩
  cases J4 hu
  exact ⟨_, rfl, J3 Lc hW rfl (by kernel_rfl) rfl (by kernel_rfl) (tb := Tryd.f7.resultTypes[0]!) (by kernel_rfl) hw⟩
theorem vn:Rows.ScriptBackSaid :=
  OpenClaim.holds_of_wide 7 Tryd.f7 rfl rfl rfl rfl rfl rfl rfl ⟨rfl,rfl,rfl,rfl,rfl⟩ rfl rfl rfl rfl rfl (by kernel_rfl) Tryd.func7 (by kernel_rfl)
    (of_decide_eq_true (by kernel_rfl)) (by unfold Func.isWrapper;first | (rw [if_pos (by decide +kernel)];kernel_rfl) | (rw [if_neg (by decide +kernel)];exact ⟨rfl,rfl⟩))
    (fun os started H enc _=>Jr os started H enc)
theorem scriptBackHolds:Rows.ScriptBackCardSaid :=
  Claim7.holds_tied_plain_at .later [] [.data, .data, .data, .data, .sentinel, .sentinel, .pinned] true (true, "b73eb7e61e23c0bd6b720301fce30354402b534af3c937ef455cb1862a279d8b") true
    vn (fun _ h=>by cases h) (by kernel_rfl) (fun _ h=>by cases h) scriptBack_row_tie rfl ⟨rfl,rfl⟩ (by kernel_rfl) rfl
    (fun f fn hf hfn=>by
      obtain rfl : f = 7 := Option.some.inj ((show Tryd.prog.funcNamed "plumbline/plumblinelaw23.ScriptBack" = some 7 by kernel_rfl).symm.trans hf) |>.symm
      obtain rfl:fn=Tryd.f7:=(Option.some.inj (Tryd.func7.symm.trans hfn)).symm
      refine ⟨by kernel_rfl,fun j t ht=>?_⟩
      rw [Tryd.params7] at ht
      have all:∀ t∈([45,9]:List TypeId),Tryd.prog.wantsStandIn t=false:=by
        intro t ht
        simp only [List.mem_cons,List.not_mem_nil,or_false] at ht
        rcases ht with rfl | rfl<;>kernel_rfl
      exact all t (List.mem_of_getElem? (i:=j) (by simpa using ht)))
    (by kernel_rfl)
#print axioms scriptBackHolds
end Go.Proofs.YtacdcghekbbjiaaDoor
