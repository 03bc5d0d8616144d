/-
  'plumblinelaw19.CertSizes' answers true whatever it is handed (1 arguments), and leaves what was handed in as it was; the table that it reads is told by the program's text. No condition.
-/
import Derived.Test.YthikcnkmglbbbaaGreatDoorCards
import Derived.Test.YthikcnkmglbbbaaGreatDoorTie
import Derived.ChangeSame
import Derived.ChangeVars
import Derived.JoinedOf
import Derived.SevenTiedAt
import Derived.Stop.Joined
import Derived.Test.YthikcnkmglbbbaaGreatDoorA6
namespace Go.Proofs.YthikcnkmglbbbaaGreatDoor
open Go.ChangeShapes Go.WideShapes Go.ChangeAt Go.RowKit Go.Plb Go.Plb.Seat
set_option maxRecDepth 100000 in
theorem arZ (os : Os) (started : os.Started) (H : Type) (enc : TypeId × Value → H) :
    ReturnsInHanded {} Tryz.checked os 3 .any (fun w args => (Rows.certSizesSpec.pre enc Tryz.prog Tryz.f3 [] false w args ∧ laidMetH Tryz.prog V6 w) ∧ sizedMet enc Tryz.prog Tryz.f3 (OpenSpec.ofChange Rows.certSizesSpec) false w args)
      (Rows.certSizesSpec.post enc Tryz.prog Tryz.f3 false true false false) := by
  refine returnsInHanded_of_change_and (C := Tryz.checked) (X := fun w _ => laidMetH Tryz.prog V6 w) (fun _ _ _ hh h => h.of_heap hh) auW started (by kernel_rfl) Tryz.func3
    (ChangeSpec.witness_at (enc := enc) (C := Tryz.checked) (os := os) (X := fun w _ => laidMetH Tryz.prog V6 w) false (ajk os) #[.agg #[.int .i64 0, .int .i64 0, .slice none 0 0]] 8 rfl (by kernel_rfl) (by kernel_rfl) (by kernel_rfl) (by kernel_rfl) (by kernel_rfl) (asZ os _)) ?_
  intro W base args ds gs before hval0 hW _ _ hL _
  have hval : ∀ (j : Nat) t v, Tryz.f3.params[j]? = some t → args[j]? = some v → Value.okWide Tryz.prog W .any base t v := hval0
  have hW' := hW
  obtain ⟨p, q, hA0, hV, rfl, _, _⟩ := hW'
  have hA : DataW.TrodAll enc Tryz.prog W 0 (fun _ => true) true Tryz.f3.params.toList args.toList ds p := hA0
  rw [Tryz.params3] at hA hval
  obtain ⟨v0, vs0, d0, ds0, p0, q0, ha0, rfl, rfl, h0, r0⟩ := trodAll_cons hA
  obtain ⟨rfl, rfl, rfl⟩ := trodAll_nil r0
  obtain rfl : args = #[v0] := by cases args; simp_all
  obtain ⟨rfl, rfl⟩ := trodVars_none hV
  obtain ⟨a0, k0, g0⟩ := am0 (fts := [.i .i64, .i .i64, .fl]) (by kernel_rfl) (hval 0 _ v0 rfl rfl) h0
  obtain ⟨x0, y0, z0, rfl⟩ := atK k0
  obtain ⟨_, hc⟩ := Vl x0 y0 .free z0 (arY (avp k0.2.2.1)) aK.none_ W [v0] (atH W (atX hL)) (.cons _ _ _ _ g0 .nil)
  refine hc.mono ?_
  rintro e W' ⟨u, rfl, hw, hu⟩
  cases asv hu
  exact ⟨_, rfl, asu atV hW rfl (by kernel_rfl) rfl (by kernel_rfl) (tb := Tryz.f3.resultTypes[0]!) (by kernel_rfl) hw⟩
theorem YQ:Rows.CertSizesSaid :=
  OpenClaim.holds_of_wide 3 Tryz.f3 rfl rfl rfl rfl rfl rfl rfl ⟨rfl,rfl,rfl,rfl,rfl⟩ rfl rfl rfl rfl rfl (by kernel_rfl) Tryz.func3 (by kernel_rfl)
    (of_decide_eq_true (by kernel_rfl)) (by unfold Func.isWrapper;first | (rw [if_pos (by decide +kernel)];kernel_rfl) | (rw [if_neg (by decide +kernel)];exact ⟨rfl,rfl⟩))
    (fun os started H enc _=>arZ os started H enc)
theorem certSizesHolds:Rows.CertSizesCardSaid :=
  Claim7.holds_tied_plain_at .later [] [.data] true (true, "caf565605b5cad8ba51c4f0184b4af7fe49f4b7d40b07418b8dc05a0e784a9fd") false
    YQ (fun _ h=>by cases h) (by kernel_rfl) (fun _ h=>by cases h) certSizes_row_tie rfl ⟨rfl,rfl⟩ (by kernel_rfl) rfl
    (fun f fn hf hfn=>by
      obtain rfl : f = 3 := Option.some.inj ((show Tryz.prog.funcNamed "plumbline/plumblinelaw19.CertSizes" = some 3 by kernel_rfl).symm.trans hf) |>.symm
      obtain rfl:fn=Tryz.f3:=(Option.some.inj (Tryz.func3.symm.trans hfn)).symm
      refine ⟨by kernel_rfl,fun j t ht=>?_⟩
      rw [Tryz.params3] at ht
      have all:∀ t ∈ ([24]:List TypeId),Tryz.prog.wantsStandIn t=false:=by
        intro t ht
        simp only [List.mem_cons,List.not_mem_nil,or_false] at ht
        subst ht;kernel_rfl
      exact all t (List.mem_of_getElem? (i:=j) (by simpa using ht)))
    (by kernel_rfl)
#print axioms certSizesHolds
end Go.Proofs.YthikcnkmglbbbaaGreatDoor
