/-
  'plumblinelaw09.ReflectNear' answers true whatever it is handed (1 arguments), and leaves what was handed in as it was; the table that it reads is told by the program's text. No condition.
-/
import Derived.Test.YthikcnkmglbbbaaDoorCards
import Derived.Test.YthikcnkmglbbbaaDoorTie
import Derived.ChangeSame
import Derived.ChangeVars
import Derived.JoinedOf
import Derived.SevenTiedAt
import Derived.Stop.Joined
import Derived.Test.YthikcnkmglbbbaaDoorA4
namespace Go.Proofs.YthikcnkmglbbbaaDoor
open Go.ChangeShapes Go.WideShapes Go.ChangeAt Go.RowKit Go.Plb Go.Plb.Seat
set_option maxRecDepth 100000 in
theorem SA (os : Os) (started : os.Started) (H : Type) (enc : TypeId × Value → H) :
    ReturnsInHanded {} Tryd.checked os 3 .any (fun w args => (Rows.reflectNearSpec.pre enc Tryd.prog Tryd.f3 [] false w args ∧ laidMetH Tryd.prog Af w) ∧ sizedMet enc Tryd.prog Tryd.f3 (OpenSpec.ofChange Rows.reflectNearSpec) false w args)
      (Rows.reflectNearSpec.post enc Tryd.prog Tryd.f3 false true false false) := by
  refine returnsInHanded_of_change_and (C := Tryd.checked) (X := fun w _ => laidMetH Tryd.prog Af w) (fun _ _ _ hh h => h.of_heap hh) VN started (by kernel_rfl) Tryd.func3
    (ChangeSpec.witness_at (enc := enc) (C := Tryd.checked) (os := os) (X := fun w _ => laidMetH Tryd.prog Af w) false (In os) #[.slice none 0 0] 8 rfl (by kernel_rfl) (by kernel_rfl) (by kernel_rfl) (by kernel_rfl) (by kernel_rfl) (TJ os _)) ?_
  intro W base args ds gs before hval0 hW _ _ hL _
  have hval : ∀ (j : Nat) t v, Tryd.f3.params[j]? = some t → args[j]? = some v → Value.okWide Tryd.prog W .any base t v := hval0
  have hW' := hW
  obtain ⟨p, q, hA0, hV, rfl, _, _⟩ := hW'
  have hA : DataW.TrodAll enc Tryd.prog W 0 (fun _ => true) true Tryd.f3.params.toList args.toList ds p := hA0
  rw [Tryd.params3] at hA hval
  obtain ⟨v0, vs0, d0, ds0, p0, q0, ha0, rfl, rfl, h0, r0⟩ := trodAll_cons hA
  obtain ⟨rfl, rfl, rfl⟩ := trodAll_nil r0
  obtain rfl : args = #[v0] := by cases args; simp_all
  obtain ⟨rfl, rfl⟩ := trodVars_none hV
  obtain ⟨a0, k0, g0⟩ := S8 (ft := .fl) (by kernel_rfl) (hval 0 _ v0 rfl rfl) h0
  obtain ⟨x0, rfl⟩ := VE k0
  obtain ⟨_, hc⟩ := oR .free x0 (Uu (Wx k0)) ak.none_ W [v0] (UC W (UK hL)) (.cons _ _ _ _ g0 .nil)
  refine hc.mono ?_
  rintro e W' ⟨u, rfl, hw, hu⟩
  cases Tb hu
  exact ⟨_, rfl, Ta UI hW rfl (by kernel_rfl) rfl (by kernel_rfl) (tb := Tryd.f3.resultTypes[0]!) (by kernel_rfl) hw⟩
theorem xI:Rows.ReflectNearSaid :=
  OpenClaim.holds_of_wide 3 Tryd.f3 rfl rfl rfl rfl rfl rfl rfl ⟨rfl,rfl,rfl,rfl,rfl⟩ rfl rfl rfl rfl rfl (by kernel_rfl) Tryd.func3 (by kernel_rfl)
    (of_decide_eq_true (by kernel_rfl)) (by unfold Func.isWrapper;first | (rw [if_pos (by decide +kernel)];kernel_rfl) | (rw [if_neg (by decide +kernel)];exact ⟨rfl,rfl⟩))
    (fun os started H enc _=>SA os started H enc)
theorem reflectNearHolds:Rows.ReflectNearCardSaid :=
  Claim7.holds_tied_plain_at .later [] [.data] true (true, "209b5e7b6af9990ee9a16db444b35ef48c323d632a0d14634554129fea5dc427") false
    xI (fun _ h=>by cases h) (by kernel_rfl) (fun _ h=>by cases h) reflectNear_row_tie rfl ⟨rfl,rfl⟩ (by kernel_rfl) rfl
    (fun f fn hf hfn=>by
      obtain rfl : f = 3 := Option.some.inj ((show Tryd.prog.funcNamed "plumbline/plumblinelaw09.ReflectNear" = some 3 by kernel_rfl).symm.trans hf) |>.symm
      obtain rfl:fn=Tryd.f3:=(Option.some.inj (Tryd.func3.symm.trans hfn)).symm
      refine ⟨by kernel_rfl,fun j t ht=>?_⟩
      rw [Tryd.params3] at ht
      have all:∀ t∈([22]:List TypeId),Tryd.prog.wantsStandIn t=false:=by
        intro t ht
        simp only [List.mem_cons,List.not_mem_nil,or_false] at ht
        subst ht;kernel_rfl
      exact all t (List.mem_of_getElem? (i:=j) (by simpa using ht)))
    (by kernel_rfl)
#print axioms reflectNearHolds
end Go.Proofs.YthikcnkmglbbbaaDoor
