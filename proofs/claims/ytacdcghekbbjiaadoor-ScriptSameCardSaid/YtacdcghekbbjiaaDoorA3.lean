/-
  Part 3 of what the claim leans on: an evaluator of the model, proved sound; the contracts of the functions.
-/
import Derived.Test.YtacdcghekbbjiaaDoorA2
namespace Go.Plb.Seat
open Go Go.Plb
set_option linter.unusedSimpArgs false
set_option linter.unusedVariables false
set_option maxRecDepth 100000
theorem gH:∀ (a b:List Int),a.length=b.length→a=b∨∃ n,n<a.length∧(∀ j,j<n→a.getD j 0=b.getD j 0)∧a.getD n 0≠b.getD n 0
  | [],[],_=>.inl rfl
  | x::a,y::b,h=>by
    by_cases hxy:x=y
    · subst hxy
      rcases gH a b (by simpa using h) with rfl | ⟨n,h1,h2,h3⟩
      · exact .inl rfl
      · refine .inr ⟨n+1,by simp;omega,fun j hj=>?_,by simpa using h3⟩
        cases j with
        | zero=>rfl
        | succ j=>simpa using h2 j (by omega)
    · exact .inr ⟨0,by simp,fun j hj=>by omega,by simpa using hxy⟩
  | [],_::_,h=>by simp at h
  | _::_,[],h=>by simp at h
theorem ju(a b:List Int)(h:a.length≤1000000000) :bg a b=some (.r0 (decide (a=b))):=by
  unfold bg
  by_cases hl:a.length=b.length
  · have h0:(eR a b).run=some (.inl ()):=k7 (by simp [hl]) rfl
    rcases gH a b hl with rfl | ⟨n,h1,h2,h3⟩
    · rw [decide_eq_true rfl]
      refine iR (dk h0 (dk (a:=()) (io (fun j=>j) a.length rfl (fun j hj=>?_) ?_) rfl))
      · exact im (by simp;omega) (bC (by rw [eQ];omega) (bC (by rw [bV];omega) (bC (by rw [eQ];omega) (bC (by rw [bV];omega) (k7 (by simp) (bC (by rw [jE];omega) rfl))))))
      · exact k7 (by simp) rfl
    · have hne:a≠b:=fun e=>h3 (by rw [e])
      rw [decide_eq_false hne]
      refine iR (dk h0 (fo (io (fun j=>j) n rfl (fun j hj=>?_) ?_)))
      · exact im (by simp;omega) (bC (by rw [eQ];omega) (bC (by rw [bV];omega) (bC (by rw [eQ];omega) (bC (by rw [bV];omega) (k7 (by rw [h2 j hj];simp) (bC (by rw [jE];omega) rfl))))))
      · exact im (by simp;omega) (bC (by rw [eQ];omega) (bC (by rw [bV];omega) (bC (by rw [eQ];omega) (bC (by rw [bV];omega) (im (bne_iff_ne.2 h3) rfl)))))
  · have hne:a≠b:=fun e=>hl (by rw [e])
    rw [decide_eq_false hne]
    exact iR (fo (im (bne_iff_ne.2 (by omega)) rfl))
def iv(a0 a1 a2:Int)(a4:List Int)(a5 a6 b0 b1 b2:Int)(b4:List Int)(b5 b6:Int) :Bool :=
  bif a0==b0 then bif a1==b1 then bif a2==b2 then bif a5==b5 then bif a6==b6 then decide (a4=b4) else false else false else false else false else false
theorem fv(a0 a1 a2:Int)(a4:List Int)(a5 a6 b0 b1 b2:Int)(b4:List Int)(b5 b6:Int)(h:a4.length≤1000000000) :bd a0 a1 a2 a4 a5 a6 b0 b1 b2 b4 b5 b6=some (.r0 (iv a0 a1 a2 a4 a5 a6 b0 b1 b2 b4 b5 b6)):=by
  refine iR (dk (a:=iv a0 a1 a2 a4 a5 a6 b0 b1 b2 b4 b5 b6) ?_ rfl)
  unfold iv fu
  rw [ib,ib,ju a4 b4 h]
  cases (a0==b0) with
  | false=>rfl
  | true =>
    cases (a1==b1) with
    | false=>rfl
    | true =>
      cases (a2==b2) with
      | false=>rfl
      | true =>
        cases (a5==b5) with
        | false=>rfl
        | true =>
          cases (a6==b6) with
          | false=>rfl
          | true=>exact nE (nE (nE (nE (nE (bC (by simp [di]) (bC (by simp [di]) (o8 rfl)))))))
theorem lg(a0 a1 a2:Int)(a4:List Int)(a5 a6 b0 b1 b2:Int)(b4:List Int)(b5 b6:Int)(h:a4.length≤1000000000) :bJ a0 a1 a2 a4 a5 a6 b0 b1 b2 b4 b5 b6=some (.r0 (iv a0 a1 a2 a4 a5 a6 b0 b1 b2 b4 b5 b6)):=by
  unfold bJ
  have hn:∀ x y:Int,(x != y) = !(x==y):=fun _ _=>rfl
  have h8:(d7 a0 a1 a2 a4 a5 a6 b0 b1 b2 b4 b5 b6).run=some (.inl (!(bif a0==b0 then bif a1==b1 then bif a2==b2 then bif a5==b5 then bif a6==b6 then ((a4.length:Int)==(b4.length:Int)) else false else false else false else false else false))):=by
    unfold d7
    simp only [hn]
    cases (a0==b0)<;>cases (a1==b1)<;>cases (a2==b2)<;>cases (a5==b5)<;>cases (a6==b6)<;>rfl
  refine iR (dk h8 ?_)
  unfold iv
  have fl:∀ {k:Unit→Option (Empty⊕aC)},ik (f9 (!false)).run k=some (.inr (.r0 false)):=fun {k}=>fo rfl
  cases (a0==b0) with
  | false=>exact fl
  | true =>
    cases (a1==b1) with
    | false=>exact fl
    | true =>
      cases (a2==b2) with
      | false=>exact fl
      | true =>
        cases (a5==b5) with
        | false=>exact fl
        | true =>
          cases (a6==b6) with
          | false=>exact fl
          | true =>
            simp only [cond_true]
            by_cases hl:a4.length=b4.length
            · have hb:((a4.length:Int)==(b4.length:Int))=true:=by simp [hl]
              rw [hb]
              refine dk (a:=()) rfl ?_
              rcases gH a4 b4 hl with rfl | ⟨n,h1,h2,h3⟩
              · rw [decide_eq_true rfl]
                refine dk (a:=()) (io (fun j=>j) a4.length rfl (fun j hj=>?_) ?_) rfl
                · exact im (by simp;omega) (bC (by rw [eQ];omega) (bC (by rw [bV];omega) (bC (by rw [eQ];omega) (bC (by rw [bV];omega) (k7 (by simp) (bC (by rw [jE];omega) rfl))))))
                · exact k7 (by simp) rfl
              · have hne:a4≠b4:=fun e=>h3 (by rw [e])
                rw [decide_eq_false hne]
                refine fo (io (fun j=>j) n rfl (fun j hj=>?_) ?_)
                · exact im (by simp;omega) (bC (by rw [eQ];omega) (bC (by rw [bV];omega) (bC (by rw [eQ];omega) (bC (by rw [bV];omega) (k7 (by rw [h2 j hj];simp) (bC (by rw [jE];omega) rfl))))))
                · exact im (by simp;omega) (bC (by rw [eQ];omega) (bC (by rw [bV];omega) (bC (by rw [eQ];omega) (bC (by rw [bV];omega) (im (bne_iff_ne.2 h3) rfl)))))
            · have hb:((a4.length:Int)==(b4.length:Int))=false:=by rw [beq_eq_false_iff_ne];omega
              have hne:a4≠b4:=fun e=>hl (by rw [e])
              rw [hb,decide_eq_false hne]
              exact fl
theorem qQ(a0 a1 a2:Int)(a4:List Int)(a5 a6 b0 b1 b2:Int)(b4:List Int)(b5 b6:Int) :b8 a0 a1 a2 a4 a5 a6 b0 b1 b2 b4 b5 b6=some (.r0 true):=by
  refine iR (dk (a:=true) ?_ rfl)
  unfold c9
  by_cases h1:(a4.length:Int)>200
  · exact im (decide_eq_true h1) rfl
  by_cases h2:(b4.length:Int)>200
  · exact k7 (decide_eq_false h1) (im (decide_eq_true h2) rfl)
  rw [ib,ib,fv _ _ _ _ _ _ _ _ _ _ _ _ (by omega),fv _ _ _ _ _ _ _ _ _ _ _ _ (by omega),lg _ _ _ _ _ _ _ _ _ _ _ _ (by omega)]
  refine k7 (decide_eq_false h1) (k7 (decide_eq_false h2) (bC (by simp [di]) (bC (by simp [di]) (o8 (bC (by simp [di]) (bC (by simp [di]) (o8 (im ?_ (bC (by simp [di]) (bC (by simp [di]) (o8 (im ?_ rfl))))))))))))
  · show (iv _ _ _ _ _ _ _ _ _ _ _ _==iv _ _ _ _ _ _ _ _ _ _ _ _)=true
    exact beq_self_eq_true _
  · show iv _ _ _ _ _ _ _ _ _ _ _ _=true
    simp [iv]
end Go.Plb.Seat
