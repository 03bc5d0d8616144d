/-
  'plumblinelaw22.RankThresholds' answers true whatever it is handed (1 arguments), and leaves what was handed in as it was; the table that it reads is told by the program's text. No condition.
-/
import Derived.Test.YtcfhbjfbfmlkiaaGreatDoorCards
import Derived.Test.YtcfhbjfbfmlkiaaGreatDoorTie
import Derived.ChangeSame
import Derived.ChangeVars
import Derived.JoinedOf
import Derived.SevenTiedAt
import Derived.Stop.Joined
import Derived.Test.YtcfhbjfbfmlkiaaGreatDoorA4
namespace Go.Proofs.YtcfhbjfbfmlkiaaGreatDoor
open Go.ChangeShapes Go.WideShapes Go.ChangeAt Go.RowKit Go.Plb Go.Plb.Seat
set_option maxRecDepth 100000 in
theorem YJ (os : Os) (started : os.Started) (H : Type) (enc : TypeId × Value → H) :
    ReturnsInHanded {} Tryz.checked os 8 .any (fun w args => (Rows.rankThresholdsSpec.pre enc Tryz.prog Tryz.f8 [] false w args ∧ laidMetH Tryz.prog BU w) ∧ sizedMet enc Tryz.prog Tryz.f8 (OpenSpec.ofChange Rows.rankThresholdsSpec) false w args)
      (Rows.rankThresholdsSpec.post enc Tryz.prog Tryz.f8 false true false false) := by
  refine returnsInHanded_of_change_and (C := Tryz.checked) (X := fun w _ => laidMetH Tryz.prog BU w) (fun _ _ _ hh h => h.of_heap hh) abr started (by kernel_rfl) Tryz.func8
    (ChangeSpec.witness_at (enc := enc) (C := Tryz.checked) (os := os) (X := fun w _ => laidMetH Tryz.prog BU w) false (Mv os) #[.int .u64 0] 8 rfl (by kernel_rfl) (by kernel_rfl) (by kernel_rfl) (by kernel_rfl) (by kernel_rfl) (Zt os _)) ?_
  intro W base args ds gs before hval0 hW _ _ hL _
  have hval : ∀ (j : Nat) t v, Tryz.f8.params[j]? = some t → args[j]? = some v → Value.okWide Tryz.prog W .any base t v := hval0
  have hW' := hW
  obtain ⟨p, q, hA0, hV, rfl, _, _⟩ := hW'
  have hA : DataW.TrodAll enc Tryz.prog W 0 (fun _ => true) true Tryz.f8.params.toList args.toList ds p := hA0
  rw [Tryz.params8] at hA hval
  obtain ⟨v0, vs0, d0, ds0, p0, q0, ha0, rfl, rfl, h0, r0⟩ := trodAll_cons hA
  obtain ⟨rfl, rfl, rfl⟩ := trodAll_nil r0
  obtain rfl : args = #[v0] := by cases args; simp_all
  obtain ⟨rfl, rfl⟩ := trodVars_none hV
  obtain ⟨a0, k0, g0⟩ := Zp (ft := .i .u64) (by kernel_rfl) (hval 0 _ v0 rfl rfl) h0
  obtain ⟨x0, rfl⟩ := abQ k0
  obtain ⟨_, hc⟩ := Eg x0 (aco k0) ae.none_ W [v0] (aaD W (aaH hL)) (.cons _ _ _ _ g0 .nil)
  refine hc.mono ?_
  rintro e W' ⟨u, rfl, hw, hu⟩
  cases Zs hu
  exact ⟨_, rfl, Zr aaF hW rfl (by kernel_rfl) rfl (by kernel_rfl) (tb := Tryz.f8.resultTypes[0]!) (by kernel_rfl) hw⟩
theorem abG{a b:Bool}(h:a=true)(k:b=true) :(a&&b)=true:=by rw [h,k];rfl
set_option maxHeartbeats 4000000 in
theorem aak : joinedFacts Tryz.pinned.checked.prog 8 Tryz.f8 Rows.rankThresholdsSpec Rows.rankThresholdsRow = true := by
  unfold joinedFacts
  repeat' (with_reducible refine abG ?_ ?_)
  all_goals as_aux_lemma => kernel_rfl
theorem wE:Rows.RankThresholdsSaid :=
  OpenClaim.holds_of_wide 8 Tryz.f8 rfl rfl rfl rfl rfl rfl rfl ⟨rfl,rfl,rfl,rfl,rfl⟩ rfl rfl rfl rfl rfl (by as_aux_lemma=>kernel_rfl) Tryz.func8 aak
    (of_decide_eq_true (by as_aux_lemma=>kernel_rfl)) (by unfold Func.isWrapper;first | (rw [if_pos (by decide +kernel)];kernel_rfl) | (rw [if_neg (by decide +kernel)];exact ⟨rfl,rfl⟩))
    (fun os started H enc _=>YJ os started H enc)
theorem rankThresholdsHolds:Rows.RankThresholdsCardSaid :=
  Claim7.holds_tied_plain_at .later [] [.data] true (true, "92cf1a5c41e790e389b3236b85d9664f2270d12953f6ea4441eb32db2de28b71") false
    wE (fun _ h=>by cases h) (by as_aux_lemma=>kernel_rfl) (fun _ h=>by cases h) rankThresholds_row_tie rfl ⟨rfl,rfl⟩ (by as_aux_lemma=>kernel_rfl) rfl
    (fun f fn hf hfn=>by
      obtain rfl : f = 8 := Option.some.inj ((show Tryz.prog.funcNamed "plumbline/plumblinelaw22.RankThresholds" = some 8 by kernel_rfl).symm.trans hf) |>.symm
      obtain rfl:fn=Tryz.f8:=(Option.some.inj (Tryz.func8.symm.trans hfn)).symm
      refine ⟨by kernel_rfl,fun j t ht=>?_⟩
      rw [Tryz.params8] at ht
      have all:∀ t∈([57]:List TypeId),Tryz.prog.wantsStandIn t=false:=by
        intro t ht
        simp only [List.mem_cons,List.not_mem_nil,or_false] at ht
        subst ht;kernel_rfl
      exact all t (List.mem_of_getElem? (i:=j) (by simpa using ht)))
    (by as_aux_lemma=>kernel_rfl)
#print axioms rankThresholdsHolds
end Go.Proofs.YtcfhbjfbfmlkiaaGreatDoor
