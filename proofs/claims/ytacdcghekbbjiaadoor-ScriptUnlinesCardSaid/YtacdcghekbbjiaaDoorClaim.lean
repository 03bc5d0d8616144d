/-
  'plumblinelaw23.ScriptUnlines' answers true whatever it is handed (1 arguments), and leaves what was handed in as it was; the package variables that it reads are told by the program's text. No condition.
-/
import Derived.Test.YtacdcghekbbjiaaDoorCards
import Derived.Test.YtacdcghekbbjiaaDoorTie
import Derived.ChangeSame
import Derived.ChangeVars
import Derived.JoinedOf
import Derived.SevenTiedAt
import Derived.Stop.Joined
import Derived.Test.YtacdcghekbbjiaaDoorA4
namespace Go.Proofs.YtacdcghekbbjiaaDoor
open Go.ChangeShapes Go.WideShapes Go.ChangeAt Go.RowKit Go.Plb Go.Plb.Seat
set_option maxRecDepth 100000 in
theorem CS (os : Os) (started : os.Started) (H : Type) (enc : TypeId × Value → H) :
    ReturnsInHanded {} Tryd.checked os 4 .any (fun w args => (Rows.scriptUnlinesSpec.pre enc Tryd.prog Tryd.f4 [] false w args ∧ laidMetH Tryd.prog ur w) ∧ sizedMet enc Tryd.prog Tryd.f4 (OpenSpec.ofChange Rows.scriptUnlinesSpec) false w args)
      (Rows.scriptUnlinesSpec.post enc Tryd.prog Tryd.f4 false true false false) := by
  refine returnsInHanded_of_change_and (C := Tryd.checked) (X := fun w _ => laidMetH Tryd.prog ur w) (fun _ _ _ hh h => h.of_heap hh) Fr started (by kernel_rfl) Tryd.func4
    (ChangeSpec.witness_at (enc := enc) (C := Tryd.checked) (os := os) (X := fun w _ => laidMetH Tryd.prog ur w) false (xc os) #[.string ⟨#[]⟩] 8 rfl (by kernel_rfl) (by kernel_rfl) (by kernel_rfl) (by kernel_rfl) (by kernel_rfl) (DQ os _)) ?_
  intro W base args ds gs before hval0 hW _ _ hL _
  have hval : ∀ (j : Nat) t v, Tryd.f4.params[j]? = some t → args[j]? = some v → Value.okWide Tryd.prog W .any base t v := hval0
  have hW' := hW
  obtain ⟨p, q, hA0, hV, rfl, _, _⟩ := hW'
  have hA : DataW.TrodAll enc Tryd.prog W 0 (fun _ => true) true Tryd.f4.params.toList args.toList ds p := hA0
  rw [Tryd.params4] at hA hval
  obtain ⟨v0, vs0, d0, ds0, p0, q0, ha0, rfl, rfl, h0, r0⟩ := trodAll_cons hA
  obtain ⟨rfl, rfl, rfl⟩ := trodAll_nil r0
  obtain rfl : args = #[v0] := by cases args; simp_all
  obtain ⟨rfl, rfl⟩ := trodVars_none hV
  obtain ⟨a0, k0, g0⟩ := Du (ft := .s) (by kernel_rfl) (hval 0 _ v0 rfl rfl) h0
  obtain ⟨x0, rfl, z0⟩ := FV k0
  obtain ⟨_, hc⟩ := fX x0 (zV x0) aa.none_ W [v0] (Bx W (Ez hL)) (.cons _ _ _ _ g0 .nil)
  refine hc.mono ?_
  rintro e W' ⟨u, rfl, hw, hu⟩
  cases Dx hu
  exact ⟨_, rfl, Dw Ex hW rfl (by kernel_rfl) rfl (by kernel_rfl) (tb := Tryd.f4.resultTypes[0]!) (by kernel_rfl) hw⟩
theorem mv:Rows.ScriptUnlinesSaid :=
  OpenClaim.holds_of_wide 4 Tryd.f4 rfl rfl rfl rfl rfl rfl rfl ⟨rfl,rfl,rfl,rfl,rfl⟩ rfl rfl rfl rfl rfl (by kernel_rfl) Tryd.func4 (by kernel_rfl)
    (of_decide_eq_true (by kernel_rfl)) (by unfold Func.isWrapper;first | (rw [if_pos (by decide +kernel)];kernel_rfl) | (rw [if_neg (by decide +kernel)];exact ⟨rfl,rfl⟩))
    (fun os started H enc _=>CS os started H enc)
theorem scriptUnlinesHolds:Rows.ScriptUnlinesCardSaid :=
  Claim7.holds_tied_plain_at .later [] [.data, .data, .data, .data, .sentinel, .sentinel, .pinned] true (true, "b73eb7e61e23c0bd6b720301fce30354402b534af3c937ef455cb1862a279d8b") true
    mv (fun _ h=>by cases h) (by kernel_rfl) (fun _ h=>by cases h) scriptUnlines_row_tie rfl ⟨rfl,rfl⟩ (by kernel_rfl) rfl
    (fun f fn hf hfn=>by
      obtain rfl : f = 4 := Option.some.inj ((show Tryd.prog.funcNamed "plumbline/plumblinelaw23.ScriptUnlines" = some 4 by kernel_rfl).symm.trans hf) |>.symm
      obtain rfl:fn=Tryd.f4:=(Option.some.inj (Tryd.func4.symm.trans hfn)).symm
      refine ⟨by kernel_rfl,fun j t ht=>?_⟩
      rw [Tryd.params4] at ht
      have all:∀ t∈([9]:List TypeId),Tryd.prog.wantsStandIn t=false:=by
        intro t ht
        simp only [List.mem_cons,List.not_mem_nil,or_false] at ht
        subst ht;kernel_rfl
      exact all t (List.mem_of_getElem? (i:=j) (by simpa using ht)))
    (by kernel_rfl)
#print axioms scriptUnlinesHolds
end Go.Proofs.YtacdcghekbbjiaaDoor
