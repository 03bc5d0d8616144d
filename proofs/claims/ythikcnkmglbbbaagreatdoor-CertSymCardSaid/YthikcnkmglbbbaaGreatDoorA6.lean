/-
  Part 6 of what the claim leans on: an evaluator of the model, proved sound; the contracts of the functions.
-/
import Derived.Test.YthikcnkmglbbbaaGreatDoorA5
namespace Go.Plb.Seat
open Go Go.Plb
set_option linter.unusedSimpArgs false
set_option linter.unusedVariables false
theorem RM{r c n:Nat}(hr:r≤512)(hc:c≤512)(hn:n=r * c) :Ez (r:Int) (c:Int) n=true :=
  ah3.2 ⟨by omega,by omega,by omega,by omega,by rw [hn,Int.natCast_mul]⟩
theorem GS{l:List Nat}(hw:Wd l)(hf:Fn l)(hn:l.length≤1000000000) :∃ k:Int,aA l=some (.r0 k)∧decide (k ≥ 0)=false:=by
  obtain ⟨k,k1,k2⟩:=Ey hw hn
  rw [mi.2 hf] at k2
  exact ⟨k,k1,k2⟩
section
variable {A X Y V : List Nat} {r c d : Nat}
theorem ard(h:J1 A X Y V r c d) :
    ∃ N,fP (r:Int) (c:Int) A (c:Int) (d:Int) X (r:Int) (d:Int) Y V=some (.r0 0 (nS (Jq A X Y V r c d)) (ax (nM (Jq A X Y V r c d)) N) 0 (nl (nM (Jq A X Y V r c d))) (nE (Jq A X Y V r c d) (-4296)))∧nl (nM (Jq A X Y V r c d))≤N∧N≤4096:=by
  have bA:=h.bA
  have bX:=h.bX
  have bY:=h.bY
  have bV:=h.bV
  have mA:=RM h.hr h.hc h.hA
  have mX:=RM h.hc h.hd h.hX
  have mY:=RM h.hr h.hd h.hY
  have hV:((V.length:Nat):Int)=(d:Int):=by rw [h.hV]
  obtain ⟨k1,a1,a2⟩:=GS h.wA h.fA (by omega)
  obtain ⟨k2,b1,b2⟩:=GS h.wX h.fX (by omega)
  obtain ⟨k3,c1,c2⟩:=GS h.wY h.fY (by omega)
  obtain ⟨k4,d1,d2⟩:=GS h.wV h.fV (by omega)
  obtain ⟨N,e1,e2,e3⟩:=apA h
  refine ⟨N,aY (ak (a:=false) ?_ (ak (a:=(A.length,l4 (gz A) A.length,l5 (gz A) A.length,l6 (gz A) (-1074) A.length,X.length,l4 (gz X) X.length,l5 (gz X) X.length,l6 (gz X) (-1074) X.length,Y.length,l4 (gz Y) Y.length,l5 (gz Y) Y.length,l6 (gz Y) (-1074) Y.length,V.length,l4 (gz V) V.length,l5 (gz V) V.length,l6 (gz V) (-1074) V.length)) ?_ (ak (a:=(0,nS (Jq A X Y V r c d),ax (nM (Jq A X Y V r c d)) N,0,nl (nM (Jq A X Y V r c d)),nE (Jq A X Y V r c d) (-4296))) ?_ rfl))),e2,e3⟩
  · unfold En
    rw [az,az,az,az,qu,qu,qu,mA,mX,mY,a1,b1,c1,d1]
    exact (bm (am (aT (am (aW (am (bm (am (aT (am (aW (am (bm (am (aT (am (aW (am (aW (aW (cE (by simp) (cE (by simp) (cE (by rw [hV,bne_self_eq_false]) (bm (am (aT (am (cE a2 (am (bm (am (aT (am (cE b2 (am (bm (am (aT (am (cE c2 (am (bm (am (aT (am (cE d2 (am (aW rfl))))))))))))))))))))))))))))))))))))))))))))))))
  · show (wg _ _ _ _).run=_
    unfold wg
    rw [az,az,az,az,tC h.wA h.fA (by omega),tC h.wX h.fX (by omega),tC h.wY h.fY (by omega),tC h.wV h.fV (by omega)]
    exact (aT (am (aT (am (aT (am (aT (am rfl))))))))
  · show (wh _ _ _ _ _ _ _ _ _ _ _ _ _ _ _ _ _ _ _ _ _ _ _).run=_
    unfold wh
    rw [gF,gH,gI,gF,gH,gI,gF,gH,gI,gF,gH,gI,az,az,az,e1]
    exact (pw (aT (pw (aT (pw (aT (pw (am rfl))))))))
end
def P2(k:Nat) :Int:=((2 ^ k:Nat):Int)
theorem ar5{k m:Nat}(h:k < 64 * m) :nl (P2 k).natAbs≤m:=by
  unfold P2
  rw [Int.natAbs_natCast]
  refine iJ ?_
  rw [show W ^ m=2 ^ (64 * m) by rw [Nat.pow_mul]]
  exact Nat.pow_lt_pow_right (by decide) h
theorem Zl{x b t e f g:Int}{k:Nat}(hx:Sm x e)(hb:Sm b f)(ht:Sm t g)(he:f+g=e+k)(hm:Sm (b * t * P2 k) e) :
    i7 (nS x) (ax (nM x) (nl (nM x))) (nE x e) 0 (nS b) (ax (nM b) (nl (nM b))) (nE b f) (nS t) (ax (nM t) (nl (nM t))) (nE t g)=some (.r0 (decide (x≤b * t * P2 k)) 0):=by
  obtain ⟨N,n1,n2,n3⟩:=JW hb ht
  obtain ⟨q1,q2,q3⟩:=aop (b * t) k e
  rw [← he] at q3
  have c1:=apf hx hm
  have ev:decide (Hb x (b * t * P2 k)≤0)=decide (x≤b * t * P2 k):=by
    rw [Bool.eq_iff_iff,decide_eq_true_eq,decide_eq_true_eq];unfold Hb;split <;> (try split) <;> omega
  refine aY (ak (a:=(0,nS (b * t),ax (nM (b * t)) N,0,nl (nM (b * t)),nE (b * t) (f+g))) ?_ (ak (a:=(0,Hb x (b * t * P2 k))) ?_ (ak (a:=decide (x≤b * t * P2 k)) ?_ rfl)))
  · unfold Lh
    rw [az,az,n1]
    exact (aW (aT (aT (am rfl))))
  · show (DL _ _ _ _ _ _ _ _ _).run=_
    unfold DL
    have c1':sP (nS x) (ax (nM x) (nl (nM x))) (nE x e) (nS (b * t)) (ax (nM (b * t)) (nl (nM (b * t)))) (nE (b * t) (f+g))=some (.r0 (Hb x (b * t * P2 k)) 0):=by
      rw [q1,q2,q3];exact c1
    rw [az,bT n2,c1']
    exact (aW (aT (cH (bv n2) (am rfl))))
  · refine bm ?_
    show some (Sum.inl (decide (Hb x (b * t * P2 k)≤0)))=_
    rw [ev]
def gOK(l:List Nat)(r c m n:Nat) :Bool:=decide (Jp l r c≤bI m n * P2 4190)
def rOK(A X Y V:List Nat)(r c d:Nat)(S:Int)(m n:Nat) :Bool:=decide (Jq A X Y V r c d≤bI m n * S * P2 2042)
theorem are{m n:Nat}(hm:m≤512)(hn:n≤512) :Sm (bI m n) (-106):=jB (alb hm hn) (by omega) (by omega)
theorem ar7{m n:Nat}(hm:m≤512)(hn:n≤512) :Sm (bI m n * P2 4190) (-4296):=jB (k:=68) (kO (a:=2) (b:=66) (alb hm hn) (ar5 (by omega))) (by omega) (by omega)
theorem ar8{m n:Nat}{S:Int}(hm:m≤512)(hn:n≤512)(hS:nl S.natAbs≤67) :Sm (bI m n * S * P2 2042) (-4296) :=
  jB (k:=101) (kO (a:=69) (b:=32) (kO (alb hm hn) hS) (ar5 (by omega))) (by omega) (by omega)
theorem apC{l:List Nat}{r c m n:Nat}(hw:Wd l)(hf:Fn l)(hl:l.length=r * c)(hr:r≤512)(hc:c≤512)(hm:m≤512)(hn:n≤512) :
    mK (r:Int) (c:Int) l (nS (bI m n)) (ax (nM (bI m n)) (nl (nM (bI m n)))) (nE (bI m n) (-106))=some (.r0 (gOK l r c m n) 0):=by
  obtain ⟨N,g1,g2,g3⟩:=apx hw (RM hr hc hl) (mi.2 hf)
  obtain ⟨M,w1,w2,w3⟩:=Jm (n:=1) (by omega)
  have hG:Sm (Jp l r c) (-4296):=jB (anI hw hf hl hr hc (Nat.le_refl _)) (by omega) (by omega)
  have h1:Sm 1 0:=jB (k:=1) (iJ (by decide)) (by omega) (by omega)
  have hb1:bI m n * 1=bI m n:=Int.mul_one _
  have hmul:Sm (bI m n * 1 * P2 4190) (-4296):=by rw [hb1];exact ar7 hm hn
  have b1:=Zl (k:=4190) hG (are hm hn) h1 (by omega) hmul
  rw [hb1] at b1
  refine aY (ak (a:=(0,nS (Jp l r c),ax (nM (Jp l r c)) N,0,nl (nM (Jp l r c)),nE (Jp l r c) (-4296))) ?_ (ak (a:=(gOK l r c m n,0)) ?_ rfl))
  · unfold Lj
    rw [az,g1]
    exact (aT (am rfl))
  · show (DM _ _ _ _ _ _ _ _ _).run=_
    have w1':bD 1=_:=w1
    have w2':nl (nM 1)≤M:=w2
    unfold DM
    rw [w1']
    simp only [m8,jh,g8,g9,hH,ji]
    have b1':i7 (nS (Jp l r c)) (ax (nM (Jp l r c)) (nl (nM (Jp l r c)))) (nE (Jp l r c) (-4296)) ((0:Nat):Int) (nS (bI m n)) (ax (nM (bI m n)) (nl (nM (bI m n)))) (nE (bI m n) (-106)) (nS ((1:Nat):Int)) (ax (nM ((1:Nat):Int)) (nl (nM ((1:Nat):Int)))) (nE ((1:Nat):Int) 0)=some (.r0 (gOK l r c m n) 0):=b1
    rw [bT g2,bT w2,az,b1']
    exact (am (cH (bv g2) (aT (cH (bv w2) (am rfl)))))
theorem apD{A Z V:List Nat}{r c d m n:Nat}{S:Int}(h:J1 A Z Z V r c d)(hrc:c=r)(hS:nl S.natAbs≤67)(hm:m≤512)(hn:n≤512) :
    mN (r:Int) (c:Int) A (r:Int) (d:Int) Z V (nS (bI m n)) (ax (nM (bI m n)) (nl (nM (bI m n)))) (nE (bI m n) (-106)) (nS S) (ax (nM S) (nl (nM S))) (nE S (-2148))=some (.r0 (rOK A Z Z V r c d S m n) 0):=by
  subst hrc
  obtain ⟨N,g1,g2,g3⟩:=ard h
  have hG:Sm (Jq A Z Z V c c d) (-4296):=jB (h.s (Nat.le_refl _)) (by omega) (by omega)
  have hSs:Sm S (-2148):=jB hS (by omega) (by omega)
  have b1:=Zl (k:=2042) hG (are hm hn) hSs (by omega) (ar8 hm hn hS)
  refine aY (ak (a:=(0,nS (Jq A Z Z V c c d),ax (nM (Jq A Z Z V c c d)) N,0,nl (nM (Jq A Z Z V c c d)),nE (Jq A Z Z V c c d) (-4296))) ?_ (ak (a:=(rOK A Z Z V c c d S m n,0)) ?_ rfl))
  · unfold Ll
    rw [az,az,az,g1]
    exact (aT (aT (aT (aT (am rfl)))))
  · show (DN _ _ _ _ _ _ _ _ _ _ _ _).run=_
    unfold DN
    have b1':i7 (nS (Jq A Z Z V c c d)) (ax (nM (Jq A Z Z V c c d)) (nl (nM (Jq A Z Z V c c d)))) (nE (Jq A Z Z V c c d) (-4296)) ((0:Nat):Int) (nS (bI m n)) (ax (nM (bI m n)) (nl (nM (bI m n)))) (nE (bI m n) (-106)) (nS S) (ax (nM S) (nl (nM S))) (nE S (-2148))=some (.r0 (rOK A Z Z V c c d S m n) 0):=b1
    rw [bT g2,az,az,b1']
    exact (cH (bv g2) (aT (aT (am rfl))))
def ale(l:List Nat) :Bool:=decide (∀ j,j < l.length - 1→flt (l.getD (j+1) 0) (l.getD j 0)=false)
theorem alf{x y:Nat}(hx:x < Nv)(h:tZ x=true) :As x y=some (.r0 (flt x y)) :=
  aY (ak (a:=flt x y) (cE (aeX hx h) rfl) rfl)
theorem alg{l:List Nat}(hw:Wd l)(hf:Fn l)(hn:l.length≤1000000) :mD l=some (.r0 (ale l)):=by
  have step:∀ j,j < l.length - 1→flt (l.getD (l.length - 1 - j) 0) (l.getD (l.length - 2 - j) 0)=false→np l (((l.length:Nat):Int) - 1 - (j:Nat))=some (.inl (((l.length:Nat):Int) - 1 - (j+1:Nat))):=by
    intro j hj hs
    have e1:Int.toNat (((l.length:Nat):Int) - 1 - (j:Nat))=l.length - 1 - j:=by omega
    have e2:Int.toNat (((l.length:Nat):Int) - 1 - (j:Nat) - 1)=l.length - 2 - j:=by omega
    show aE (nn _ _).run _=_
    refine ak (a:=()) ?_ ?_
    · unfold nn
      rw [e1,e2,alf (hw _) (hf _ (by omega)),hs]
      exact (ck (ap (ap (ap (ap (ap (am (aW rfl))))))))
    · refine ap ?_
      show some (Sum.inl _)=_
      congr 2;omega
  by_cases hs:∀ j,j < l.length - 1→flt (l.getD (l.length - 1 - j) 0) (l.getD (l.length - 2 - j) 0)=false
  · have hb:ale l=true:=by
      refine decide_eq_true fun j hj=>?_
      have:=hs (l.length - 2 - j) (by omega)
      rwa [show l.length - 1 - (l.length - 2 - j)=j+1 by omega,show l.length - 2 - (l.length - 2 - j)=j by omega] at this
    rw [hb]
    refine aY (ak (a:=((l.length:Nat):Int) - 1) (ap rfl) (ak (a:=()) (bO (fun j=>((l.length:Nat):Int) - 1 - (j:Nat)) (l.length - 1) (by omega) (fun j hj=>step j hj (hs j hj)) (bt (cx rfl))) rfl))
  · obtain ⟨k,hk,hb,hg⟩:=vN hs
    have hbt:flt (l.getD (l.length - 1 - k) 0) (l.getD (l.length - 2 - k) 0)=true:=by
      revert hb;cases flt (l.getD (l.length - 1 - k) 0) (l.getD (l.length - 2 - k) 0) <;> simp
    have hB:ale l=false:=by
      refine decide_eq_false fun q=>?_
      have:=q (l.length - 2 - k) (by omega)
      rw [show l.length - 2 - k+1=l.length - 1 - k by omega,hbt] at this
      exact Bool.noConfusion this
    rw [hB]
    refine aY (ak (a:=((l.length:Nat):Int) - 1) (ap rfl) (bt (bO (fun j=>((l.length:Nat):Int) - 1 - (j:Nat)) k (by omega) (fun j hj=>step j (by omega) (hg j hj)) (bt ?_))))
    have e1:Int.toNat (((l.length:Nat):Int) - 1 - (k:Nat))=l.length - 1 - k:=by omega
    have e2:Int.toNat (((l.length:Nat):Int) - 1 - (k:Nat) - 1)=l.length - 2 - k:=by omega
    unfold nn
    rw [e1,e2,alf (hw _) (hf _ (by omega)),hbt]
    exact (ck (ap (ap (ap (ap (ap (am (bm rfl))))))))
noncomputable def Zm(a0 a1:Int)(A V:List Nat)(z0 z1:Int)(Z:List Nat) :Nat :=
  if Ez a0 a1 A.length=false∨Ez z0 z1 Z.length=false then 2
  else if a0 ≠ a1∨((V.length:Nat):Int) ≠ a0∨z0 ≠ a0∨z1 ≠ a0 then 8
  else if Hc A=false∨Hc V=false∨Hc Z=false then 10 else 0
def ah5(A V Z:List Nat)(n:Nat) :Bool:=ale V && (gOK Z n n n n && rOK A Z Z V n n n (Nu A) n n)
theorem arJ{a0 a1 z0 z1:Int}{A V Z:List Nat}(wA:Wd A)(wV:Wd V)(wZ:Wd Z)(lA:A.length≤1000000)(lV:V.length≤1000000)(lZ:Z.length≤1000000)(h:Zm a0 a1 A V z0 z1 Z ≠ 0) :
    eO a0 a1 A V z0 z1 Z=some (.r0 false ((Zm a0 a1 A V z0 z1 Z:Nat):Int)):=by
  obtain ⟨k1,i1,j1⟩:=Ey wA (by omega)
  obtain ⟨k2,i2,j2⟩:=Ey wZ (by omega)
  obtain ⟨k3,i3,j3⟩:=Ey wV (by omega)
  have t8 : (xJ a0 a1 A V z0 z1 Z).run = some (.inr (.r0 false ((Zm a0 a1 A V z0 z1 Z : Nat) : Int))) := by
    revert h
    unfold xJ Zm
    rw [az,az,az,qu,qu,i1,i2,i3]
    cases Ez a0 a1 A.length
    · intro _;exact (bm (am (aT (am (bm (bm rfl))))))
    cases Ez z0 z1 Z.length
    · intro _;exact (bm (am (aT (am (aW (am (bm (am (aT (am (bm (bm rfl))))))))))))
    rw [if_neg (by simp)]
    by_cases h1:a0=a1
    · by_cases h2:((V.length:Nat):Int)=a0
      · by_cases h3:z0=a0
        · by_cases h4:z1=a0
          · rw [if_neg (by simp only [not_or,ne_eq,Decidable.not_not];exact ⟨h1,h2,h3,h4⟩)]
            have g1:(a0 != a1)=false:=by rw [bne_eq_false_iff_eq];exact h1
            have g2:(((V.length:Nat):Int) != a0)=false:=by rw [bne_eq_false_iff_eq];exact h2
            have g3:(!(z0 == a0 && z1 == a1))=false:=by rw [beq_iff_eq.2 h3,beq_iff_eq.2 (h4.trans h1)];rfl
            revert j1;cases Hc A <;> intro j1
            · intro _;exact (bm (am (aT (am (aW (am (bm (am (aT (am (aW (am (aW (aW (cE g1 (cE g2 (cE g3 (bm (am (aT (am (jz j1 rfl))))))))))))))))))))))
            revert j2;cases Hc Z <;> intro j2
            · intro _;rw [if_pos (by simp)];exact (bm (am (aT (am (aW (am (bm (am (aT (am (aW (am (aW (aW (cE g1 (cE g2 (cE g3 (bm (am (aT (am (cE j1 (am (bm (am (aT (am (jz j2 rfl))))))))))))))))))))))))))))
            revert j3;cases Hc V <;> intro j3
            · intro _;exact (bm (am (aT (am (aW (am (bm (am (aT (am (aW (am (aW (aW (cE g1 (cE g2 (cE g3 (bm (am (aT (am (cE j1 (am (bm (am (aT (am (cE j2 (am (bm (am (aT (am (jz j3 rfl))))))))))))))))))))))))))))))))))
            intro q;exact absurd (if_neg (by simp)) q
          · intro _
            rw [if_pos (.inr (.inr (.inr h4)))]
            have g1:(a0 != a1)=false:=by rw [bne_eq_false_iff_eq];exact h1
            have g2:(((V.length:Nat):Int) != a0)=false:=by rw [bne_eq_false_iff_eq];exact h2
            have g3:(!(z0 == a0 && z1 == a1))=true:=by rw [beq_iff_eq.2 h3,beq_eq_false_iff_ne.2 (by rw [← h1];exact h4)];rfl
            exact (bm (am (aT (am (aW (am (bm (am (aT (am (aW (am (aW (aW (cE g1 (cE g2 (jz g3 rfl)))))))))))))))))
        · intro _
          rw [if_pos (.inr (.inr (.inl h3)))]
          have g1:(a0 != a1)=false:=by rw [bne_eq_false_iff_eq];exact h1
          have g2:(((V.length:Nat):Int) != a0)=false:=by rw [bne_eq_false_iff_eq];exact h2
          have g3:(!(z0 == a0 && z1 == a1))=true:=by rw [beq_eq_false_iff_ne.2 h3];rfl
          exact (bm (am (aT (am (aW (am (bm (am (aT (am (aW (am (aW (aW (cE g1 (cE g2 (jz g3 rfl)))))))))))))))))
      · intro _
        rw [if_pos (.inr (.inl h2))]
        have g1:(a0 != a1)=false:=by rw [bne_eq_false_iff_eq];exact h1
        exact (bm (am (aT (am (aW (am (bm (am (aT (am (aW (am (aW (aW (cE g1 (jz (bne_iff_ne.2 h2) rfl))))))))))))))))
    · intro _
      rw [if_pos (.inl h1)]
      exact (bm (am (aT (am (aW (am (bm (am (aT (am (aW (am (aW (aW (jz (bne_iff_ne.2 h1) rfl)))))))))))))))
  exact aY (bt t8)
structure ah6 (A V Z:List Nat) (n:Nat):Prop where
  hn:n≤512
  fit:J1 A Z Z V n n n
theorem apE{a0 a1 z0 z1:Int}{A V Z:List Nat}(wA:Wd A)(wV:Wd V)(wZ:Wd Z)(h:Zm a0 a1 A V z0 z1 Z=0) :∃ n:Nat,a0=n∧a1=n∧z0=n∧z1=n∧ah6 A V Z n:=by
  unfold Zm at h
  by_cases h1:Ez a0 a1 A.length=false∨Ez z0 z1 Z.length=false
  · rw [if_pos h1] at h;cases h
  rw [if_neg h1] at h
  by_cases h2:a0 ≠ a1∨((V.length:Nat):Int) ≠ a0∨z0 ≠ a0∨z1 ≠ a0
  · rw [if_pos h2] at h;cases h
  rw [if_neg h2] at h
  by_cases h3:Hc A=false∨Hc V=false∨Hc Z=false
  · rw [if_pos h3] at h;cases h
  simp only [not_or,Bool.not_eq_false,ne_eq,Decidable.not_not] at h1 h2 h3
  obtain ⟨p,q,rfl,rfl,hp,hq,hl,_⟩:=ah4 h1.1
  obtain ⟨e1,e2,e3,e4⟩:=h2
  have e1':p=q:=by omega
  rw [← e1'] at hl hq e1 ⊢
  obtain ⟨p',q',f1,f2,_,_,hl',_⟩:=ah4 h1.2
  have g1:p'=p:=by omega
  have g2:q'=p:=by omega
  rw [g1,g2] at hl'
  rw [g1] at f1
  rw [g2] at f2
  exact ⟨p,rfl,rfl,f1,f2,hp,⟨hl,hl',hl',by omega,hp,hp,hp,wA,wZ,wZ,wV,mi.1 h3.1,mi.1 h3.2.2,mi.1 h3.2.2,mi.1 h3.2.1⟩⟩
theorem ah7{A V Z:List Nat}{n:Nat}(h:ah6 A V Z n) :eO (n:Int) (n:Int) A V (n:Int) (n:Int) Z=some (.r0 (ah5 A V Z n) 0):=by
  have hn:=h.hn
  have f:=h.fit
  have bA:=f.bA
  have bX:=f.bX
  have bV:=f.bV
  have mA:=RM hn hn f.hA
  have mZ:=RM hn hn f.hX
  have hV:((V.length:Nat):Int)=(n:Int):=by rw [f.hV]
  obtain ⟨k1,a1,a2⟩:=GS f.wA f.fA (by omega)
  obtain ⟨k2,b1,b2⟩:=GS f.wX f.fX (by omega)
  obtain ⟨k3,c1,c2⟩:=GS f.wV f.fV (by omega)
  obtain ⟨B,d1,d2,d3⟩:=Zk hn hn
  obtain ⟨S,s1,s2,s3⟩:=aef f.wA mA (mi.2 f.fA)
  have hS:=aq5 f.wA f.fA (by omega)
  have t8:(xJ (n:Int) (n:Int) A V (n:Int) (n:Int) Z).run=some (.inl ()):=by
    unfold xJ
    rw [az,az,az,qu,qu,mA,mZ,a1,b1,c1]
    exact (bm (am (aT (am (aW (am (bm (am (aT (am (aW (am (aW (aW (cE (by rw [bne_self_eq_false]) (cE (by rw [hV,bne_self_eq_false]) (cE (by simp) (bm (am (aT (am (cE a2 (am (bm (am (aT (am (cE b2 (am (bm (am (aT (am (cE c2 (am (aW rfl))))))))))))))))))))))))))))))))))))
  have t9:(IY V).run=some (.inl (!(ale V))):=by
    unfold IY
    rw [az,alg f.wV f.fV (by omega)]
    exact (aT (am rfl))
  unfold ah5
  cases hsrt:ale V
  · rw [hsrt] at t9
    exact aY (ak t8 (ak t9 (bt (bm rfl))))
  · rw [hsrt] at t9
    have p1:=apC (m:=n) (n:=n) f.wX f.fX f.hX hn hn hn hn
    have p2:=apD (m:=n) (n:=n) f rfl hS hn hn
    refine aY (ak t8 (ak t9 (ak (a:=(0,nS (bI n n),ax (nM (bI n n)) B,0,nl (nM (bI n n)),nE (bI n n) (-106))) ?_ (ak (a:=(0,nS (Nu A),ax (nM (Nu A)) S,0,nl (nM (Nu A)),nE (Nu A) (-2148))) ?_ (ak (a:=false) (aW rfl) (ak (a:=(gOK Z n n n n && rOK A Z Z V n n n (Nu A) n n,0)) ?_ rfl))))))
    · show (Gt _ _).run=_
      unfold Gt
      rw [d1]
      exact (aW (am rfl))
    · show (Gu _ _ _).run=_
      unfold Gu
      rw [az,s1]
      exact (aT (am rfl))
    · show (Gv _ _ _ _ _ _ _ _ _ _ _ _ _ _ _ _ _ _ _ _).run=_
      unfold Gv
      rw [az,az,az,bT d2,bT s2,p1,p2]
      simp only [rn,sv,mc,rH,sw,md]
      cases gOK Z n n n n
      · exact (aW (bm (am (aT (cH (bv d2) (am (bm rfl)))))))
      · cases rOK A Z Z V n n n (Nu A) n n
        · exact (aW (bm (am (aT (cH (bv d2) (am (aW (aW (am (bm (am (aT (aT (aT (cH (bv d2) (cH (bv s2) (am (bm rfl))))))))))))))))))
        · exact (aW (bm (am (aT (cH (bv d2) (am (aW (aW (am (bm (am (aT (aT (aT (cH (bv d2) (cH (bv s2) (am (aW (aW (am (aW rfl)))))))))))))))))))))
theorem aoA{x b e f:Int}{k:Nat}(hx:Sm x e)(he:f=e+k)(hm:Sm (b * P2 k) e) :
    mW (nS x) (ax (nM x) (nl (nM x))) (nE x e) (nS b) (ax (nM b) (nl (nM b))) (nE b f)=some (.r0 (decide (x≤b * P2 k))):=by
  obtain ⟨q1,q2,q3⟩:=aop b k e
  rw [← he] at q3
  rw [q1,q2,q3]
  exact apu hx hm
theorem anL{a0 a1 z0 z1:Int}{A V Z:List Nat}(wA:Wd A)(wV:Wd V)(wZ:Wd Z)(lA:A.length≤1000000)(lV:V.length≤1000000)(lZ:Z.length≤1000000) :
    nN a0 a1 A V z0 z1 Z=some (.r0 (Zm a0 a1 A V z0 z1 Z)):=by
  have fA:=RK wA (by omega)
  have fV:=RK wV (by omega)
  have fZ:=RK wZ (by omega)
  have t5:(vd a0 a1 A z0 z1 Z).run=some (.inl (!(Ez a0 a1 A.length && Ez z0 z1 Z.length))):=by
    unfold vd
    rw [az,az,Zi,Zi]
    cases Ez a0 a1 A.length
    · exact (aT (am (bm rfl)))
    · exact (aT (am (aW (aT (am rfl)))))
  unfold Zm
  by_cases h1:Ez a0 a1 A.length=false∨Ez z0 z1 Z.length=false
  · rw [if_pos h1]
    have e:(!(Ez a0 a1 A.length && Ez z0 z1 Z.length))=true:=by rcases h1 with q | q <;> rw [q] <;> simp
    rw [e] at t5
    exact aY (ak t5 (bt (bm rfl)))
  rw [if_neg h1]
  simp only [not_or,Bool.not_eq_false] at h1
  rw [h1.1,h1.2] at t5
  by_cases h2:a0 ≠ a1∨((V.length:Nat):Int) ≠ a0∨z0 ≠ a0∨z1 ≠ a0
  · rw [if_pos h2]
    refine aY (ak t5 (ak (a:=true) ?_ (bt (bm rfl))))
    show (mV _ _ _ _ _ _).run=_
    unfold mV
    refine aW ?_
    by_cases g1:a0=a1
    · refine cE (by rw [bne_eq_false_iff_eq];exact g1) ?_
      by_cases g2:((V.length:Nat):Int)=a0
      · refine cE (by rw [bne_eq_false_iff_eq];exact g2) ?_
        by_cases g3:z0=a0
        · refine cE (by rw [bne_eq_false_iff_eq];exact g3) ?_
          have g4:z1 ≠ a0:=by
            rcases h2 with q | q | q | q
            · exact absurd g1 q
            · exact absurd g2 q
            · exact absurd g3 q
            · exact q
          show some (Sum.inl (z1 != a0))=_
          rw [bne_iff_ne.2 g4]
        · exact jz (bne_iff_ne.2 g3) rfl
      · exact jz (bne_iff_ne.2 g2) rfl
    · exact jz (bne_iff_ne.2 g1) rfl
  rw [if_neg h2]
  simp only [not_or,ne_eq,Decidable.not_not] at h2
  have t6:(mV a0 a1 V z0 z1 false).run=some (.inl false):=by
    unfold mV
    refine aW (cE (by rw [bne_eq_false_iff_eq];exact h2.1) (cE (by rw [bne_eq_false_iff_eq];exact h2.2.1) (cE (by rw [bne_eq_false_iff_eq];exact h2.2.2.1) ?_)))
    show some (Sum.inl (z1 != a0))=_
    rw [h2.2.2.2,bne_self_eq_false]
  refine aY (ak t5 (ak t6 ?_))
  show aE (ve _ _ _ _).run _=_
  unfold ve
  rw [az,az,az,fA,fV,fZ]
  cases Hc A
  · exact ak (a:=true) (aW (aT (am (bm rfl)))) rfl
  cases Hc V
  · exact ak (a:=true) (aW (aT (am (aW (aT (am (bm rfl))))))) rfl
  cases Hc Z
  · exact ak (a:=true) (aW (aT (am (aW (aT (am (aW (aT (am rfl))))))))) rfl
  · exact ak (a:=false) (aW (aT (am (aW (aT (am (aW (aT (am rfl))))))))) rfl
theorem apF{A V Z:List Nat}{n:Nat}(h:ah6 A V Z n) :xK (n:Int) (n:Int) A V (n:Int) (n:Int) Z=some (.r0 (ah5 A V Z n)):=by
  have hn:=h.hn
  have f:=h.fit
  have bA:=f.bA
  have bV:=f.bV
  have hS:=aq5 f.wA f.fA (by omega)
  have step:∀ j,j < V.length - 1→flt (V.getD (j+1) 0) (V.getD j 0)=false→xo V (j+1)=some (.inl (j+1+1)):=by
    intro j hj hs
    have e1:Int.toNat ((((j+1:Nat)):Int) - 1)=j:=by omega
    show (rQ _ _).run=_
    unfold rQ
    rw [e1]
    exact (ck (ap (ap (ap (ap (ap (cE hs (ap rfl))))))))
  unfold ah5
  by_cases hs:∀ j,j < V.length - 1→flt (V.getD (j+1) 0) (V.getD j 0)=false
  · have hb:ale V=true:=decide_eq_true hs
    rw [hb]
    have b1:=ald hn hn
    have g1:=anK f.wX f.fX f.hX hn hn
    have r1:=apB f
    have s1:=anG f.wA f.fA (by omega)
    have hG:Sm (Jp Z n n) (-4296):=jB (anI f.wX f.fX f.hX hn hn (Nat.le_refl _)) (by omega) (by omega)
    have hR:Sm (Jq A Z Z V n n n) (-4296):=jB (f.s (Nat.le_refl _)) (by omega) (by omega)
    have hSs:Sm (Nu A) (-2148):=jB hS (by omega) (by omega)
    have m1:=aoA (k:=4190) (f:=-106) hG (by omega) (ar7 hn hn)
    have t1:=pY (are hn hn) hSs
    have m2:=aoA (k:=2042) (f:=-106 + -2148) hR (by omega) (ar8 hn hn hS)
    refine aY (ak (a:=()) rfl (ak (a:=()) (bO (fun j=>j+1) (V.length - 1) rfl (fun j hj=>step j hj (hs j hj)) (cx rfl)) (ak (a:=Kc (bI n n) (-106)) ?_ (ak (a:=(gOK Z n n n n && rOK A Z Z V n n n (Nu A) n n)) ?_ rfl))))
    · unfold LP
      rw [b1]
      exact (am rfl)
    · show (D1 _ _ _ _ _ _ _ _ _ _).run=_
      unfold D1
      rw [az,az,az,g1,r1,s1]
      simp only [rO,oP,me,mf,oQ,mU,kJ,jf,jg,kK,rK,dk,da,db,dl]
      rw [bc aq,bc aq,bc aq,bc aq,m1,t1]
      simp only [cD,aN,aF,aG,aO]
      rw [bc aq,m2]
      cases hg:gOK Z n n n n
      · refine (aT (am (bN (bN (am (cE hg rfl))))))
      · exact (aT (am (bN (bN (am (jz hg (aT (aT (aT (aT (am (aT (am (bN (bN (am (bN (bN (am rfl)))))))))))))))))))
  · obtain ⟨k,hk,hb,hg⟩:=vN hs
    have hbt:flt (V.getD (k+1) 0) (V.getD k 0)=true:=by
      revert hb;cases flt (V.getD (k+1) 0) (V.getD k 0) <;> simp
    have hB:ale V=false:=decide_eq_false hs
    rw [hB]
    refine aY (ak (a:=()) rfl (bt (bO (fun j=>j+1) k rfl (fun j hj=>step j (by omega) (hg j hj)) ?_)))
    have e1:Int.toNat ((((k+1:Nat)):Int) - 1)=k:=by omega
    show (rQ _ _).run=_
    unfold rQ
    rw [e1]
    exact (ck (ap (ap (ap (ap (ap (jz hbt rfl)))))))
def kA:List Nat:=[4611686018427387904,0,0,4613937818241073152]
def kI:List Nat:=[4607182418800017408,0,0,4607182418800017408]
theorem alh{l:List Nat}(h:∀ x,x ∈ l→x < Nv) :Wd l:=by
  intro i
  rw [List.getD_eq_getElem?_getD]
  cases q:l[i]? with
  | none=>decide
  | some x=>exact h x (List.mem_of_getElem? q)
theorem ali{l:List Nat}(h:∀ x,x ∈ l→tZ x=true) :Fn l:=by
  intro i hi
  rw [List.getD_eq_getElem?_getD]
  cases q:l[i]? with
  | none=>rw [List.getElem?_eq_none_iff] at q;omega
  | some x=>exact h x (List.mem_of_getElem? q)
theorem asJ{V:List Nat}(hV:V.length=2)(wV:∀ x,x ∈ V→x < Nv)(fV:∀ x,x ∈ V→tZ x=true) :ah6 kA V kI 2 :=
  ⟨by omega,rfl,rfl,rfl,hV,by omega,by omega,by omega,alh (by decide),alh (by decide),alh (by decide),alh wV,ali (by decide),ali (by decide),ali (by decide),ali fV⟩
theorem atf:pQ 2=some (.r0 2 4 kI):=by
  refine aY (ak (a:=(4,[0,0,0,0])) (am (am (am (am (am rfl))))) (ak (a:=kI) (bO (fun j=>(j,bif Nat.beq j 0 then [0,0,0,0] else bif Nat.beq j 1 then [4607182418800017408,0,0,0] else kI)) 2 rfl (fun j hj=>?_) ?_) rfl))
  · have:j=0∨j=1:=by omega
    rcases this with rfl | rfl
    · exact (bm (am (am (am (am (am rfl))))))
    · exact (bm (am (am (am (am (am rfl))))))
  · exact (aW rfl)
theorem kx:ah5 kA [4611686018427387904,4613937818241073152] kI 2=true:=by decide +kernel
theorem ky:ah5 kA [4613937818241073152,4611686018427387904] kI 2=false:=by decide +kernel
theorem kz:ah5 kA [4611686018427387904,4613940070040886837] kI 2=false:=by decide +kernel
theorem ksz:Nu [4613937818241073152,4616189618054758400]=25 * P2 2148:=by decide +kernel
theorem asK{v:Nat}(h0:v ≠ 0)(h:v < W) :nl v=1:=by
  have h1:=iJ (n:=1) (by rw [Nat.pow_one];exact h)
  have h2:=xQ h0
  omega
theorem kb:nS (bI 1 1)=false∧nM (bI 1 1)=1∧nE (bI 1 1) (-106) = -94:=by
  have e:bI 1 1=4096:=by decide
  have t:tz 4096=12:=JO (by decide) (by decide)
  rw [e]
  refine ⟨by decide,?_,?_⟩
  · show 4096 / 2 ^ tz 4096=1
    rw [t]
  · rw [io (by decide)]
    show -106+((tz 4096:Nat):Int) = -94
    rw [t];rfl
theorem anM:jZ=some (.r0 true):=by
  have fx:=asJ (V:=[4611686018427387904,4613937818241073152]) rfl (by decide) (by decide)
  have fy:=asJ (V:=[4613937818241073152,4611686018427387904]) rfl (by decide) (by decide)
  have fz':=asJ (V:=[4611686018427387904,4613940070040886837]) rfl (by decide) (by decide)
  have sx:=ah7 fx
  have sy:=ah7 fy
  have sz:=ah7 fz'
  rw [kx] at sx
  rw [ky] at sy
  rw [kz] at sz
  obtain ⟨B,b1,b2,b3⟩:=Zk (m:=1) (n:=1) (by omega) (by omega)
  obtain ⟨S,s1,s2,s3⟩:=aef (r:=1) (c:=2) (l:=[4613937818241073152,4616189618054758400]) (alh (by decide)) (by decide) (mi.2 (ali (by decide)))
  obtain ⟨k1,k2,k3⟩:=kb
  obtain ⟨q1,q2,q3⟩:=aop 25 2148 (-2148)
  have q4:Nu [4613937818241073152,4616189618054758400]=25 * ((2 ^ 2148:Nat):Int):=ksz
  rw [← q4] at q1 q2 q3
  rw [show (-2148:Int)+((2148:Nat):Int)=0 by omega] at q3
  rw [← q1,← q2,← q3] at s1
  rw [← q2] at s2
  have w1:=xL (n:=25) (by omega)
  have h1:mO (-94)=some (.r0 0 false 1 (-94) [1]):=rfl
  have one1:ax 1 (nl 1) = [(1:Int)]:=by rw [asK (by decide) (by decide)];rfl
  have m25:nl (nM (25:Int))≤1:=Nat.le_trans arY (iJ (by decide))
  refine aY (ak (a:=(2,4,kA,kI)) ?_ (ak (a:=(true,0)) ?_ (ak (a:=(false,0)) ?_ (ak (a:=(false,0)) ?_ (ak (a:=(0,nS (bI 1 1),ax (nM (bI 1 1)) B,0,nl (nM (bI 1 1)),nE (bI 1 1) (-106))) ?_ (ak (a:=(false,[1],1,-94)) ?_ (ak (a:=(0,nS 25,ax (nM 25) S,0,nl (nM 25),nE 25 0)) ?_ (ak (a:=true) ?_ rfl))))))))
  · unfold G5
    rw [atf]
    exact (am rfl)
  · show (yj _ _ _ _).run=_
    unfold yj
    have sx':eO 2 2 (ab 0 4 kA) (ab 0 2 [4611686018427387904,4613937818241073152]) 2 2 (ab 0 4 kI)=some (.r0 true 0):=sx
    rw [sx']
    exact (am (am (am (am rfl))))
  · show (yk _ _ _ _).run=_
    unfold yk
    have sx':eO 2 2 (ab 0 4 kA) (ab 0 2 [4613937818241073152,4611686018427387904]) 2 2 (ab 0 4 kI)=some (.r0 false 0):=sy
    rw [sx']
    exact (am (am (am (am rfl))))
  · show (yn _ _ _ _).run=_
    unfold yn
    have sx':eO 2 2 (ab 0 4 kA) (ab 0 2 [4611686018427387904,4613940070040886837]) 2 2 (ab 0 4 kI)=some (.r0 false 0):=sz
    rw [sx']
    exact (am (am (am (am rfl))))
  · show yo.run=_
    have b1':dA 1 1=_:=b1
    unfold yo
    rw [b1']
    exact (am rfl)
  · show yp.run=_
    unfold yp
    rw [h1]
    exact (am rfl)
  · show yq.run=_
    have s1':d6 1 2 (ab 0 2 [4613937818241073152,4616189618054758400])=_:=s1
    unfold yq
    rw [s1']
    exact (am (am rfl))
  · show (yr _ _ _ _ _ _ _ _ _ _ _ _ _ _ _ _ _ _ _ _ _ _).run=_
    unfold yr
    have w1':aD 25=some (.r0 (nS 25) (ax (nM 25) (nl (nM 25))) (nl (nM 25)) (nE 25 0)):=w1
    have c1:ab 0 1 [(1:Int)] = [1]:=rfl
    have l1:ax 1 1 = [(1:Int)]:=rfl
    rw [bT b2,k1,k2,k3,one1,c1,w1']
    simp only [ew,cu,ca,cd,cv]
    rw [bT s2,bc aq,aee (nS 25) (nE 25 0) (n:=nl (nM 25)) (by omega),← l1,aee false (-94) (by omega)]
    refine (bm (bm (bm (bm (bm (bm (bm (bm (cH (bv (by rw [k2] at b2;exact b2)) (am (am (bm (am (cH (bv s2) (bN (am rfl))))))))))))))))
theorem arK{a0 a1 z0 z1:Int}{A V Z:List Nat}(wA:Wd A)(wV:Wd V)(wZ:Wd Z) :yE a0 a1 A V z0 z1 Z=some (.r0 true):=by
  have k:=anM
  have t9:(ww true).run=some (.inr (.r0 true)):=by
    unfold ww
    rw [k]
    exact (bm (am rfl))
  by_cases hA:A.length > 36
  · exact aY (ak (a:=true) (bm (am (jz (by rw [decide_eq_true_eq];omega) rfl))) (bt t9))
  by_cases hZ:Z.length > 36
  · exact aY (ak (a:=true) (bm (am (cE (by rw [decide_eq_false_iff_not];omega) (am (bm (am (jz (by rw [decide_eq_true_eq];omega) rfl))))))) (bt t9))
  by_cases hV:V.length > 36
  · refine aY (ak (a:=true) ?_ (bt t9))
    refine (bm (am (cE (by rw [decide_eq_false_iff_not];omega) (am (bm (am (cE (by rw [decide_eq_false_iff_not];omega) (am (aW ?_)))))))))
    show some (Sum.inl (decide _))=_
    rw [decide_eq_true (by omega)]
  have t8:(Et A V Z).run=some (.inl false):=by
    refine (bm (am (cE (by rw [decide_eq_false_iff_not];omega) (am (bm (am (cE (by rw [decide_eq_false_iff_not];omega) (am (aW ?_)))))))))
    show some (Sum.inl (decide _))=_
    rw [decide_eq_false (by omega)]
  have w:=anL (a0:=a0) (a1:=a1) (z0:=z0) (z1:=z1) wA wV wZ (by omega) (by omega) (by omega)
  refine aY (ak t8 (ak (a:=()) rfl ?_))
  by_cases hc:Zm a0 a1 A V z0 z1 Z=0
  · obtain ⟨n,rfl,rfl,rfl,rfl,h⟩:=apE wA wV wZ hc
    rw [hc] at w
    have s:=ah7 h
    have r:=apF h
    refine ak (a:=(ah5 A V Z n,0)) ?_ (ak (a:=0) ?_ (ak (a:=()) (aW (aW rfl)) (ak (a:=true) ?_ rfl)))
    · unfold vg
      rw [az,az,az,s]
      exact (aT (aT (aT (am rfl))))
    · show (m4 _ _ _ _ _ _ _).run=_
      unfold m4
      rw [az,az,az,w]
      exact (aT (aT (aT (am rfl))))
    · show (vi _ _ _ _ _ _ _ _).run=_
      unfold vi
      rw [az,az,az,r,k]
      exact (aT (aT (aT (am (jz (by cases ah5 A V Z n <;> rfl) (am rfl))))))
  · have s:=arJ wA wV wZ (by omega) (by omega) (by omega) hc
    refine ak (a:=(false,((Zm a0 a1 A V z0 z1 Z:Nat):Int))) ?_ (ak (a:=Zm a0 a1 A V z0 z1 Z) ?_ (bt ?_))
    · unfold vg
      rw [az,az,az,s]
      exact (aT (aT (aT (am rfl))))
    · show (m4 _ _ _ _ _ _ _).run=_
      unfold m4
      rw [az,az,az,w]
      exact (aT (aT (aT (am rfl))))
    · show (vh _ _ _).run=_
      unfold vh
      rw [k]
      exact (cE (by rw [bne_self_eq_false]) (jz (by rw [bne_iff_ne];omega) (bm (am rfl))))
def tv(A:List Nat)(r c p:Nat) :Nat:=A.getD ((p % r) * c+p / r) 0
end Go.Plb.Seat
