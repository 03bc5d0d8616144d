/-
  'plumblinelaw22.RankRatios' answers true whatever it is handed (1 arguments), and leaves what was handed in as it was; the table that it reads is told by the program's text. No condition.
-/
import Derived.Test.YtcfhbjfbfmlkiaaGreatDoorCards
import Derived.Test.YtcfhbjfbfmlkiaaGreatDoorTie
import Derived.ChangeSame
import Derived.ChangeVars
import Derived.JoinedOf
import Derived.SevenTiedAt
import Derived.Stop.Joined
import Derived.Test.YtcfhbjfbfmlkiaaGreatDoorA4
namespace Go.Proofs.YtcfhbjfbfmlkiaaGreatDoor
open Go.ChangeShapes Go.WideShapes Go.ChangeAt Go.RowKit Go.Plb Go.Plb.Seat
set_option maxRecDepth 100000 in
theorem ZW (os : Os) (started : os.Started) (H : Type) (enc : TypeId × Value → H) :
    ReturnsInHanded {} Tryz.checked os 10 .any (fun w args => (Rows.rankRatiosSpec.pre enc Tryz.prog Tryz.f10 [] false w args ∧ laidMetH Tryz.prog CB w) ∧ sizedMet enc Tryz.prog Tryz.f10 (OpenSpec.ofChange Rows.rankRatiosSpec) false w args)
      (Rows.rankRatiosSpec.post enc Tryz.prog Tryz.f10 false true false false) := by
  refine returnsInHanded_of_change_and (C := Tryz.checked) (X := fun w _ => laidMetH Tryz.prog CB w) (fun _ _ _ hh h => h.of_heap hh) acT started (by kernel_rfl) Tryz.func10
    (ChangeSpec.witness_at (enc := enc) (C := Tryz.checked) (os := os) (X := fun w _ => laidMetH Tryz.prog CB w) false (No os) #[.slice none 0 0] 8 rfl (by kernel_rfl) (by kernel_rfl) (by kernel_rfl) (by kernel_rfl) (by kernel_rfl) (aaJ os _)) ?_
  intro W base args ds gs before hval0 hW _ _ hL _
  have hval : ∀ (j : Nat) t v, Tryz.f10.params[j]? = some t → args[j]? = some v → Value.okWide Tryz.prog W .any base t v := hval0
  have hW' := hW
  obtain ⟨p, q, hA0, hV, rfl, _, _⟩ := hW'
  have hA : DataW.TrodAll enc Tryz.prog W 0 (fun _ => true) true Tryz.f10.params.toList args.toList ds p := hA0
  rw [Tryz.params10] at hA hval
  obtain ⟨v0, vs0, d0, ds0, p0, q0, ha0, rfl, rfl, h0, r0⟩ := trodAll_cons hA
  obtain ⟨rfl, rfl, rfl⟩ := trodAll_nil r0
  obtain rfl : args = #[v0] := by cases args; simp_all
  obtain ⟨rfl, rfl⟩ := trodVars_none hV
  obtain ⟨a0, k0, g0⟩ := aaF (ft := .fl) (by kernel_rfl) (hval 0 _ v0 rfl rfl) h0
  obtain ⟨x0, rfl⟩ := acS k0
  obtain ⟨_, hc⟩ := Rj .free x0 (adq k0) ae.none_ W [v0] (abW W (ab0 hL)) (.cons _ _ _ _ g0 .nil)
  refine hc.mono ?_
  rintro e W' ⟨u, rfl, hw, hu⟩
  cases aaI hu
  exact ⟨_, rfl, aaH abY hW rfl (by kernel_rfl) rfl (by kernel_rfl) (tb := Tryz.f10.resultTypes[0]!) (by kernel_rfl) hw⟩
theorem ac7{a b:Bool}(h:a=true)(k:b=true) :(a&&b)=true:=by rw [h,k];rfl
set_option maxHeartbeats 4000000 in
theorem abC : joinedFacts Tryz.pinned.checked.prog 10 Tryz.f10 Rows.rankRatiosSpec Rows.rankRatiosRow = true := by
  unfold joinedFacts
  repeat' (with_reducible refine ac7 ?_ ?_)
  all_goals as_aux_lemma => kernel_rfl
theorem BM:Rows.RankRatiosSaid :=
  OpenClaim.holds_of_wide 10 Tryz.f10 rfl rfl rfl rfl rfl rfl rfl ⟨rfl,rfl,rfl,rfl,rfl⟩ rfl rfl rfl rfl rfl (by as_aux_lemma=>kernel_rfl) Tryz.func10 abC
    (of_decide_eq_true (by as_aux_lemma=>kernel_rfl)) (by unfold Func.isWrapper;first | (rw [if_pos (by decide +kernel)];kernel_rfl) | (rw [if_neg (by decide +kernel)];exact ⟨rfl,rfl⟩))
    (fun os started H enc _=>ZW os started H enc)
theorem rankRatiosHolds:Rows.RankRatiosCardSaid :=
  Claim7.holds_tied_plain_at .later [] [.data] true (true, "92cf1a5c41e790e389b3236b85d9664f2270d12953f6ea4441eb32db2de28b71") false
    BM (fun _ h=>by cases h) (by as_aux_lemma=>kernel_rfl) (fun _ h=>by cases h) rankRatios_row_tie rfl ⟨rfl,rfl⟩ (by as_aux_lemma=>kernel_rfl) rfl
    (fun f fn hf hfn=>by
      obtain rfl : f = 10 := Option.some.inj ((show Tryz.prog.funcNamed "plumbline/plumblinelaw22.RankRatios" = some 10 by kernel_rfl).symm.trans hf) |>.symm
      obtain rfl:fn=Tryz.f10:=(Option.some.inj (Tryz.func10.symm.trans hfn)).symm
      refine ⟨by kernel_rfl,fun j t ht=>?_⟩
      rw [Tryz.params10] at ht
      have all:∀ t∈([27]:List TypeId),Tryz.prog.wantsStandIn t=false:=by
        intro t ht
        simp only [List.mem_cons,List.not_mem_nil,or_false] at ht
        subst ht;kernel_rfl
      exact all t (List.mem_of_getElem? (i:=j) (by simpa using ht)))
    (by as_aux_lemma=>kernel_rfl)
#print axioms rankRatiosHolds
end Go.Proofs.YtcfhbjfbfmlkiaaGreatDoor
