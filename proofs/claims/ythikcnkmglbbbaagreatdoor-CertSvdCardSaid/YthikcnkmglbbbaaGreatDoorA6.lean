/-
  Part 6 of what the claim leans on: an evaluator of the model, proved sound; the contracts of the functions.
-/
import Derived.Test.YthikcnkmglbbbaaGreatDoorA5
namespace Go.Plb.Seat
open Go Go.Plb
set_option linter.unusedSimpArgs false
set_option linter.unusedVariables false
theorem pq{i k c:Nat}(h:k<c) :(i*c+k)/c=i∧(i*c+k)%c=k:=by
  have hc:0<c:=by omega
  refine ⟨by rw [Nat.mul_comm,Nat.mul_add_div hc,Nat.div_eq_of_lt h,Nat.add_zero],?_⟩
  rw [Nat.mul_comm,Nat.mul_add_mod,Nat.mod_eq_of_lt h]
def awJ:Nat:=2^2148
def Mi:Int:=1*((awJ:Nat):Int)
theorem avc:nS 1=nS Mi∧nM 1=nM Mi∧nE 1 0=nE Mi (-2148):=by
  have h:=asl 1 2148 (-2148)
  rw [show (-2148:Int)+((2148:Nat):Int)=0 by omega] at h
  unfold Mi awJ
  exact h
theorem axg(n:Nat) :W^n=2^(64*n):=by rw [Nat.pow_mul]
theorem awK{a n:Nat}(h:a<64*n) :nl (2^a)≤n:=i6 (by rw [axg];exact awz h)
theorem arE:nl Mi.natAbs≤34:=by
  unfold Mi
  rw [Int.one_mul,Int.natAbs_natCast]
  unfold awJ
  exact awK (a:=2148) (n:=34) (by decide)
def UA(l:List Nat)(r c i k:Nat) :Int:=cH (fun j=>gz l (j*c+i)*gz l (j*c+k)) r
def tG(l:List Nat)(r c i k:Nat) :Int:=UA l r c i k-(if i=k then Mi else 0)
def gG(l:List Nat)(r c p:Nat) :Int:=tG l r c (p/c) (p%c)
def A6(l:List Nat)(r c:Nat) :Int:=cH (fun p=>gG l r c p*gG l r c p) (c*c)
theorem X1{l:List Nat}(hw:Wd l)(hf:Fn l){r c i k n:Nat}(hl:l.length=r*c)(hi:i<c)(hk:k<c)(hn:n≤r)(hr:r≤1000) :
    nl (cH (fun j=>gz l (j*c+i)*gz l (j*c+k)) n).natAbs≤67 :=
  G8 (fun j hj=>lJ (sa hw hf (by rw [hl];exact un (by omega) hi)) (sa hw hf (by rw [hl];exact un (by omega) hk))) (by omega)
theorem awe{l:List Nat}(hw:Wd l)(hf:Fn l){r c i k:Nat}(hl:l.length=r*c)(hi:i<c)(hk:k<c)(hr:r≤1000) :nl (tG l r c i k).natAbs≤68:=by
  refine asj (a:=67) (X1 hw hf hl hi hk (Nat.le_refl _) hr) ?_
  split
  · exact Nat.le_trans arE (by omega)
  · rw [Int.natAbs_zero,eS];omega
theorem avd{l:List Nat}(hw:Wd l)(hf:Fn l){r c p:Nat}(hl:l.length=r*c)(hp:p<c*c)(hr:r≤1000) :nl (gG l r c p).natAbs≤68:=by
  have hc : 0 < c := by rcases Nat.eq_zero_or_pos c with h | h; · subst h; omega
                        · exact h
  exact awe hw hf hl (Nat.div_lt_of_lt_mul hp) (Nat.mod_lt _ hc) hr
theorem acu{l:List Nat}(hw:Wd l)(hf:Fn l){r c n:Nat}(hl:l.length=r*c)(hr:r≤512)(hc:c≤512)(hn:n≤c*c) :nl (cH (fun p=>gG l r c p*gG l r c p) n).natAbs≤137:=by
  have:c*c≤512*512:=Nat.mul_le_mul hc hc
  exact G8 (fun p hp=>lJ (avd hw hf hl (by omega) (by omega)) (avd hw hf hl (by omega) (by omega))) (by omega)
theorem arF{l:List Nat}(hw:Wd l)(hf:Fn l){r c i k:Nat}(hl:l.length=r*c)(hi:i<c)(hk:k<c)(hr:r≤512)(hc:c≤512) :
    ∃ N,ee (i:Int) (k:Int) l.length (mW (gz l) l.length) (m5 (gz l) l.length) (m6 (gz l) (-1074) l.length) (r:Int) (c:Int) (nS 1) (aA (nM 1) (nl (nM 1))) (nE 1 0)=some (.r0 0 (nS (tG l r c i k)) (aA (nM (tG l r c i k)) N) 0 (nl (nM (tG l r c i k))) (nE (tG l r c i k) (-2148)))∧nl (nM (tG l r c i k))≤N∧N≤4096:=by
  have hb:r*c≤512*512:=Nat.mul_le_mul hr hc
  have li:∀ x,x<c→∀ j,j<r→x+j*c<l.length:=fun x hx j hj=>by rw [hl,Nat.add_comm];exact un hj hx
  have l1:=L5 (g:=gz l) (e:=-1074) (n:=l.length) (from':=i) (far:=c) (many:=r) (li i hi) (by omega) (by omega) (by omega) (by omega)
  have l2:=L5 (g:=gz l) (e:=-1074) (n:=l.length) (from':=k) (far:=c) (many:=r) (li k hk) (by omega) (by omega) (by omega) (by omega)
  obtain ⟨D,d1,d2,d3⟩:=acs (g:=fun j=>gz l (i+j*c)) (h:=fun j=>gz l (k+j*c)) (e:=-1074) (f:=-1074) (n:=r) (k:=66) (fun j hj=>F8 hw hf (li i hi j hj)) (fun j hj=>F8 hw hf (li k hk j hj)) (fun j hj=>lJ (sa hw hf (li i hi j hj)) (sa hw hf (li k hk j hj))) (by omega) (by omega) (by omega)
  have ed:cH (fun j=>gz l (i+j*c)*gz l (k+j*c)) r=UA l r c i k:=OH fun j _=>by rw [Nat.add_comm i,Nat.add_comm k]
  rw [ed] at d1 d2
  have t5:(Cc (i:Int) (k:Int) l.length (mW (gz l) l.length) (m5 (gz l) l.length) (m6 (gz l) (-1074) l.length) (r:Int) (c:Int)).run=some (.inl (0,false,nS (UA l r c i k),aA (nM (UA l r c i k)) D,0,nl (nM (UA l r c i k)),nE (UA l r c i k) (-2148))):=by
    unfold Cc
    rw [ia,ib,ic,l1,l2]
    simp only [lR,ao,bz,bB,bC]
    rw [ia,ib,ic,ia,ib,ic,d1]
    exact qz (aj (qz (aj (qz (qz (aj rfl))))))
  by_cases hik:i=k
  · have hD:Sm (UA l r c i k) (-2148):=hZ (X1 hw hf hl hi hk (Nat.le_refl _) (by omega)) (by omega) (by omega)
    have hO:Sm Mi (-2148):=hZ arE (by omega) (by omega)
    obtain ⟨E,e1,e2,e3⟩:=ahE hD hO
    obtain ⟨o1,o2,o3⟩:=avc
    have et:UA l r c i k-Mi=tG l r c i k:=by unfold tG;rw [if_pos hik]
    rw [et] at e1 e2
    rw [o1,o2,o3]
    refine ⟨E,bb (ai t5 (ai (a:=false) ?_ (ai (a:=(0,nS (tG l r c i k),aA (nM (tG l r c i k)) E,0,nl (nM (tG l r c i k)),nE (tG l r c i k) (-2148))) ?_ rfl))),e2,e3⟩
    · show (Cd _ _ _).run=_
      refine aI ?_
      show some (Sum.inl ((i:Int) != (k:Int)))=_
      rw [hik,bne_self_eq_false]
    · show (Ce _ _ _ _ _ _ _ _ _ _).run=_
      unfold Ce
      rw [bM d2,aw,e1]
      exact aI (bW (aX d2) (aB (aj rfl)))
  · have et:UA l r c i k=tG l r c i k:=by unfold tG;rw [if_neg hik,Int.sub_zero]
    rw [et] at t5 d2
    refine ⟨D,bb (ai t5 (ai (a:=true) ?_ (bk (aZ rfl)))),d2,d3⟩
    show (Cd _ _ _).run=_
    refine aI ?_
    show some (Sum.inl ((i:Int) != (k:Int)))=_
    rw [bne_iff_ne.2 (by omega)]
theorem ave{g:Nat→Int}{n:Nat} :List.take n (mW g n)++[nS (g n)]=mW g (n+1):=OE
theorem avf{g:Nat→Int}{n:Nat} :List.take n (m5 g n)++[aA (nM (g n)) (nl (nM (g n)))]=m5 g (n+1):=OE
theorem avg{g:Nat→Int}{e:Int}{n:Nat} :List.take n (m6 g e n)++[nE (g n) e]=m6 g e (n+1):=OE
theorem atA{l:List Nat}(hw:Wd l)(hf:Fn l){r c:Nat}(hl:l.length=r*c)(hr:r≤512)(hc:c≤512) :
    ∃ N,cd (c:Int) (c:Int) l.length (mW (gz l) l.length) (m5 (gz l) l.length) (m6 (gz l) (-1074) l.length) (r:Int) (c:Int) l (nS 1) (aA (nM 1) (nl (nM 1))) (nE 1 0)=some (.r0 0 (nS (A6 l r c)) (aA (nM (A6 l r c)) N) 0 (nl (nM (A6 l r c))) (nE (A6 l r c) (-4296)))∧nl (nM (A6 l r c))≤N∧N≤4096:=by
  have hcc:c*c≤512*512:=Nat.mul_le_mul hc hc
  obtain ⟨N,s1,s2,s3⟩:=IR (g:=gG l r c) (e:=-2148) (n:=c*c) (k:=68) (fun p hp=>avd hw hf hl hp (by omega)) (by omega) (by omega) (by omega)
  refine ⟨N,bb (ai (a:=false) rfl (ai (a:=()) rfl (ai (a:=(c*c,c*c,0,c*c,mW (gG l r c) (c*c),m5 (gG l r c) (c*c),m6 (gG l r c) (-2148) (c*c))) (bL (fun i=>(i*c,i*c,0,i,i*c,mW (gG l r c) (i*c),m5 (gG l r c) (i*c),m6 (gG l r c) (-2148) (i*c))) c (by rw [Nat.zero_mul];rfl) (fun i hi=>?_) ?_) (ai (a:=(0,nS (A6 l r c),aA (nM (A6 l r c)) N,0,nl (nM (A6 l r c)),nE (A6 l r c) (-4296))) ?_ rfl)))),s2,s3⟩
  · show aC (j6 _ _ _ _ _ _ _ _ _).run _=_
    have hnx:(i+1)*c=i*c+c:=by rw [Nat.add_mul,Nat.one_mul]
    have hic:i*c≤512*512:=Nat.mul_le_mul (by omega) hc
    refine ai (a:=()) (bT rfl) (ai (a:=((i+1)*c,(i+1)*c,0,(i+1)*c,mW (gG l r c) ((i+1)*c),m5 (gG l r c) ((i+1)*c),m6 (gG l r c) (-2148) ((i+1)*c))) (vo (ai (a:=()) rfl (ai (a:=(i*c+c,i*c+c,0,i*c+c,mW (gG l r c) (i*c+c),m5 (gG l r c) (i*c+c),m6 (gG l r c) (-2148) (i*c+c))) (bL (fun k=>(i*c+k,i*c+k,0,k,i*c+k,mW (gG l r c) (i*c+k),m5 (gG l r c) (i*c+k),m6 (gG l r c) (-2148) (i*c+k))) c rfl (fun k hk=>?_) ?_) (by rw [hnx];rfl)))) (ap rfl))
    · obtain ⟨A,a1,a2,a3⟩:=arF hw hf hl hi hk hr hc
      obtain ⟨q1,q2⟩:=pq (i:=i) hk
      have eg:tG l r c i k=gG l r c (i*c+k):=by unfold gG;rw [q1,q2]
      rw [eg] at a1 a2
      show aC (fN _ _ _ _ _ _ _ _ _ _ _ _ _ _ _ _ _ _ _ _).run _=_
      refine ai (a:=(i*c+k+1,0,mW (gG l r c) (i*c+k+1),m5 (gG l r c) (i*c+k+1),m6 (gG l r c) (-2148) (i*c+k+1))) ?_ (ap rfl)
      unfold fN
      rw [ia,ib,ic,aw,a1]
      simp only [q9,mj,rM,oJ,oK,oL,rN]
      rw [List.drop_zero,Gr a2,ave,avf,avg]
      exact bT (qz (aB (aB (aj (aI (ap (ap (aj (ap (bW (decide_eq_true (by rw [aq];omega)) rfl))))))))))
    · show aC (fN _ _ _ _ _ _ _ _ _ _ _ _ _ _ _ _ _ _ _ _).run _=_
      exact bk (ct rfl)
  · show aC (j6 _ _ _ _ _ _ _ _ _).run _=_
    exact bk (ct rfl)
  · show (ka _ _ _ _ _ _).run=_
    unfold ka
    rw [ia,ib,ic,s1]
    exact aI (qz (aj rfl))
theorem ahN{r c:Nat}{l:List Nat}(hw:Wd l)(h:Gt r c l.length=true)(hf:Jh l=true) :
    ∃ N,da (r:Int) (c:Int) l=some (.r0 0 (nS (A6 l r c)) (aA (nM (A6 l r c)) N) 0 (nl (nM (A6 l r c))) (nE (A6 l r c) (-4296)))∧nl (nM (A6 l r c))≤N∧N≤4096:=by
  obtain ⟨h1,h2,h3,h4,h5⟩:=alR.1 h
  have hr:r≤512:=by omega
  have hc:c≤512:=by omega
  have hl:l.length=r*c:=by rw [←Int.natCast_mul] at h5;exact Int.ofNat_inj.1 h5
  have hb:r*c≤512*512:=Nat.mul_le_mul hr hc
  obtain ⟨k,k1,k2⟩:=CT hw (by omega)
  have hF:=hH.1 hf
  obtain ⟨A,a1,a2,a3⟩:=DO (n:=1) (by omega)
  obtain ⟨N,n1,n2,n3⟩:=atA hw hF hl hr hc
  refine ⟨N,bb (ai (a:=false) ?_ (ai (a:=(l.length,mW (gz l) l.length,m5 (gz l) l.length,m6 (gz l) (-1074) l.length)) ?_ (ai (a:=(nS 1,aA (nM 1) A,0,nl (nM 1),nE 1 0)) ?_ (ai (a:=(0,nS (A6 l r c),aA (nM (A6 l r c)) N,0,nl (nM (A6 l r c)),nE (A6 l r c) (-4296))) ?_ rfl)))),n2,n3⟩
  · unfold RZ
    rw [aw,oQ,h,k1]
    exact aZ (aj (aB (aj (aI (aj (aI (aI (aZ (aj (aB (aj (cV (by rw [hf] at k2;exact k2) (aj (aI rfl))))))))))))))
  · unfold R0
    rw [aw,u6 hw hF (by omega)]
    exact aB (aj rfl)
  · have a1':bo 1=_:=a1
    unfold R1
    rw [a1']
    exact aj rfl
  · show (Ij _ _ _ _ _ _ _ _ _ _ _ _).run=_
    have a2':nl (nM 1)≤A:=a2
    unfold Ij
    rw [ia,ib,ic,aw,bM a2',n1]
    exact qz (aB (bW (aX a2') (aj rfl)))
theorem A7(j c i:Nat) :((j:Int)*(c:Int))+(i:Int)=((j*c+i:Nat):Int):=by rw [Int.natCast_add,Int.natCast_mul]
theorem A8(j c:Nat) :(j:Int)*(c:Int)=((j*c:Nat):Int):=by rw [Int.natCast_mul]
theorem IS(e:Int) :aF 0=some (.r0 (nS 0) (aA (nM 0) (nl (nM 0))) (nl (nM 0)) (nE 0 e)):=by
  have h:=zm (n:=0) (by omega)
  rw [show ((0:Nat):Int)=0 from rfl,fi] at h
  rw [fi];exact h
theorem atB:aF 1=some (.r0 (nS Mi) (aA (nM Mi) (nl (nM Mi))) (nl (nM Mi)) (nE Mi (-2148))):=by
  have h:=zm (n:=1) (by omega)
  obtain ⟨o1,o2,o3⟩:=avc
  rw [show ((1:Nat):Int)=1 from rfl,o1,o2,o3] at h
  exact h
def L7(z e:Int) :Bool×List Int×Nat×Int:=(nS z,aA (nM z) (nl (nM z)),nl (nM z),nE z e)
theorem avP{l:List Nat}(hw:Wd l)(hf:Fn l){r c i k j:Nat}(hl:l.length=r*c)(hi:i<c)(hk:k<c)(hj:j<r)(hr:r≤512)(hc:c≤512) :
    wn (r:Int) (c:Int) l i k (j,L7 (cH (fun j=>gz l (j*c+i)*gz l (j*c+k)) j) (-2148))=some (.inl (j+1,L7 (cH (fun j=>gz l (j*c+i)*gz l (j*c+k)) (j+1)) (-2148))):=by
  have hb:r*c≤512*512:=Nat.mul_le_mul hr hc
  have li:j*c+i<l.length:=by rw [hl];exact un hj hi
  have lk:j*c+k<l.length:=by rw [hl];exact un hj hk
  have ex:aa (l.getD (j*c+i) 0)=some (.r0 (nS (gz l (j*c+i))) (aA (nM (gz l (j*c+i))) (nl (nM (gz l (j*c+i))))) (nl (nM (gz l (j*c+i)))) (nE (gz l (j*c+i)) (-1074))):=uN (hw _) (hf _ li)
  have ey:aa (l.getD (j*c+k) 0)=some (.r0 (nS (gz l (j*c+k))) (aA (nM (gz l (j*c+k))) (nl (nM (gz l (j*c+k))))) (nl (nM (gz l (j*c+k)))) (nE (gz l (j*c+k)) (-1074))):=uN (hw _) (hf _ lk)
  have t1:=rn (F8 hw hf li) (F8 hw hf lk)
  have hp:Sm (gz l (j*c+i)*gz l (j*c+k)) (-1074 + -1074):=hZ (lJ (sa hw hf li) (sa hw hf lk)) (by omega) (by omega)
  have hS:Sm (cH (fun j=>gz l (j*c+i)*gz l (j*c+k)) j) (-1074 + -1074):=hZ (X1 hw hf hl hi hk (Nat.le_of_lt hj) (by omega)) (by omega) (by omega)
  have t2:=Lt hS hp
  show aC (wm _ _ _ _ _ _ _ _ _ _).run _=_
  refine ai (a:=L7 (cH (fun j=>gz l (j*c+i)*gz l (j*c+k)) (j+1)) (-2148)) ?_ (ap rfl)
  unfold wm
  rw [A7,A7,A8,ch,ch,ex,ey]
  simp only [d4,ag,ac,ae,ah]
  rw [bf aq,bf aq,t1]
  simp only [c8,aT,aJ,aK,aU]
  have t2':bR (nS (cH (fun j=>gz l (j*c+i)*gz l (j*c+k)) j)) (aA (nM (cH (fun j=>gz l (j*c+i)*gz l (j*c+k)) j)) (nl (nM (cH (fun j=>gz l (j*c+i)*gz l (j*c+k)) j)))) (nE (cH (fun j=>gz l (j*c+i)*gz l (j*c+k)) j) (-2148)) (nS (gz l (j*c+i)*gz l (j*c+k))) (aA (nM (gz l (j*c+i)*gz l (j*c+k))) (nl (nM (gz l (j*c+i)*gz l (j*c+k))))) (nE (gz l (j*c+i)*gz l (j*c+k)) (-1074 + -1074))=_:=t2
  rw [bf aq,bf aq,t2']
  exact bT (ap (ap (ap (ap (aj (ap (ap (ap (ap (aj (bH (bH (aj (bH (bH (aj rfl))))))))))))))))
theorem avQ{l:List Nat}(hw:Wd l)(hf:Fn l){r c i k:Nat}(hl:l.length=r*c)(hi:i<c)(hk:k<c)(hr:r≤512)(hc:c≤512) :
    wo (r:Int) (c:Int) l i (k,L7 (cH (fun p=>gG l r c p*gG l r c p) (i*c+k)) (-4296))=some (.inl (k+1,L7 (cH (fun p=>gG l r c p*gG l r c p) (i*c+(k+1))) (-4296))):=by
  obtain ⟨q1,q2⟩:=pq (i:=i) hk
  have eg:gG l r c (i*c+k)=tG l r c i k:=by unfold gG;rw [q1,q2]
  have hT:nl (tG l r c i k).natAbs≤68:=awe hw hf hl hi hk (by omega)
  have hTs:Sm (tG l r c i k) (-2148):=hZ hT (by omega) (by omega)
  have hD:Sm (UA l r c i k) (-2148):=hZ (X1 hw hf hl hi hk (Nat.le_refl _) (by omega)) (by omega) (by omega)
  have hO:Sm Mi (-2148):=hZ arE (by omega) (by omega)
  have hp:Sm (tG l r c i k*tG l r c i k) (-2148 + -2148):=hZ (lJ hT hT) (by omega) (by omega)
  have hlt:i*c+k<c*c:=un hi hk
  have hS:Sm (cH (fun p=>gG l r c p*gG l r c p) (i*c+k)) (-2148 + -2148):=hZ (acu hw hf hl hr hc (Nat.le_of_lt hlt)) (by omega) (by omega)
  have t1:=rn hTs hTs
  have t2:=Lt hS hp
  have t3:=ahL hD hO
  have e1:cH (fun p=>gG l r c p*gG l r c p) (i*c+(k+1))=cH (fun p=>gG l r c p*gG l r c p) (i*c+k)+tG l r c i k*tG l r c i k:=by
    show cH _ (i*c+k+1)=_
    simp only [cH];rw [eg]
  rw [e1]
  show aC (CB _ _ _ _ _ _).run _=_
  refine ai (a:=()) (bT rfl) (ai (a:=L7 (cH (fun p=>gG l r c p*gG l r c p) (i*c+k)+tG l r c i k*tG l r c i k) (-4296)) (vo (ai (a:=L7 0 (-2148)) ?_ (ai (a:=()) rfl (ai (a:=L7 (UA l r c i k) (-2148)) (bL (fun j=>(j,L7 (cH (fun j=>gz l (j*c+i)*gz l (j*c+k)) j) (-2148))) r rfl (fun j hj=>avP hw hf hl hi hk hj hr hc) ?_) (ai (a:=L7 (tG l r c i k) (-2148)) ?_ ?_))))) (ap rfl))
  · unfold Ll
    rw [IS (-2148)]
    exact aj rfl
  · show aC (wm _ _ _ _ _ _ _ _ _ _).run _=_
    exact bk (ct rfl)
  · show (CD _ _ _ _ _ _).run=_
    unfold CD
    by_cases hik:i=k
    · have et:UA l r c i k-Mi=tG l r c i k:=by unfold tG;rw [if_pos hik]
      rw [et] at t3
      rw [atB]
      simp only [eR,cJ,co,cp,cK]
      rw [bf aq,bf aq,t3]
      exact jh (by rw [beq_iff_eq];omega) (aj (bH (bH (aj rfl))))
    · have et:UA l r c i k=tG l r c i k:=by unfold tG;rw [if_neg hik,Int.sub_zero]
      rw [et]
      exact cV (by rw [beq_eq_false_iff_ne];omega) rfl
  · show (CE _ _ _ _ _ _ _ _).run=_
    unfold CE
    rw [bf aq,bf aq,t1]
    simp only [c8,aT,aJ,aK,aU]
    have t2':bR (nS (cH (fun p=>gG l r c p*gG l r c p) (i*c+k))) (aA (nM (cH (fun p=>gG l r c p*gG l r c p) (i*c+k))) (nl (nM (cH (fun p=>gG l r c p*gG l r c p) (i*c+k))))) (nE (cH (fun p=>gG l r c p*gG l r c p) (i*c+k)) (-4296)) (nS (tG l r c i k*tG l r c i k)) (aA (nM (tG l r c i k*tG l r c i k)) (nl (nM (tG l r c i k*tG l r c i k)))) (nE (tG l r c i k*tG l r c i k) (-2148 + -2148))=_:=t2
    rw [bf aq,t2']
    exact bH (bH (aj (bH (bH (aj rfl)))))
theorem acv{l:List Nat}(hw:Wd l)(hf:Fn l){r c:Nat}(hl:l.length=r*c)(hr:r≤512)(hc:c≤512) :
    cx (r:Int) (c:Int) l=some (.r0 (nS (A6 l r c)) (aA (nM (A6 l r c)) (nl (nM (A6 l r c)))) (nl (nM (A6 l r c))) (nE (A6 l r c) (-4296))):=by
  refine bb (ai (a:=(false,L7 0 (-4296))) ?_ (ai (a:=()) rfl (ai (a:=L7 (A6 l r c) (-4296)) (bL (fun i=>(i,L7 (cH (fun p=>gG l r c p*gG l r c p) (i*c)) (-4296))) c (by rw [Nat.zero_mul];rfl) (fun i hi=>?_) ?_) rfl)))
  · unfold Lh
    rw [IS (-4296)]
    exact aj rfl
  · show aC (Cx _ _ _ _ _ _).run _=_
    have hnx:(i+1)*c=i*c+c:=by rw [Nat.add_mul,Nat.one_mul]
    refine ai (a:=()) (bT rfl) (ai (a:=L7 (cH (fun p=>gG l r c p*gG l r c p) ((i+1)*c)) (-4296)) (vo (ai (a:=()) rfl (ai (a:=L7 (cH (fun p=>gG l r c p*gG l r c p) (i*c+c)) (-4296)) (bL (fun k=>(k,L7 (cH (fun p=>gG l r c p*gG l r c p) (i*c+k)) (-4296))) c rfl (fun k hk=>avQ hw hf hl hi hk hr hc) ?_) (by rw [hnx];rfl)))) (ap rfl))
    show aC (CB _ _ _ _ _ _).run _=_
    exact bk (ct rfl)
  · show aC (Cx _ _ _ _ _ _).run _=_
    exact bk (ct rfl)
structure Gu (A X Y V:List Nat) (r c d:Nat):Prop where
  hA:A.length=r*c
  hX:X.length=c*d
  hY:Y.length=r*d
  hV:V.length=d
  hr:r≤512
  hc:c≤512
  hd:d≤512
  wA:Wd A
  wX:Wd X
  wY:Wd Y
  wV:Wd V
  fA:Fn A
  fX:Fn X
  fY:Fn Y
  fV:Fn V
def tR(A X Y V:List Nat)(c d i k:Nat) :Int:=cH (fun j=>gz A (i*c+j)*gz X (j*d+k)) c-gz Y (i*d+k)*gz V k
def gR(A X Y V:List Nat)(c d p:Nat) :Int:=tR A X Y V c d (p/d) (p%d)
def A9(A X Y V:List Nat)(r c d:Nat) :Int:=cH (fun p=>gR A X Y V c d p*gR A X Y V c d p) (r*d)
section
variable {A X Y V : List Nat} {r c d : Nat}
theorem Gu.lA(h:Gu A X Y V r c d){i j:Nat}(hi:i<r)(hj:j<c) :i*c+j<A.length:=by rw [h.hA];exact un hi hj
theorem Gu.lX(h:Gu A X Y V r c d){j k:Nat}(hj:j<c)(hk:k<d) :j*d+k<X.length:=by rw [h.hX];exact un hj hk
theorem Gu.lY(h:Gu A X Y V r c d){i k:Nat}(hi:i<r)(hk:k<d) :i*d+k<Y.length:=by rw [h.hY];exact un hi hk
theorem Gu.lV(h:Gu A X Y V r c d){k:Nat}(hk:k<d) :k<V.length:=by rw [h.hV];exact hk
theorem Gu.bA(h:Gu A X Y V r c d) :A.length≤262144:=by rw [h.hA];exact Nat.mul_le_mul h.hr h.hc
theorem Gu.bX(h:Gu A X Y V r c d) :X.length≤262144:=by rw [h.hX];exact Nat.mul_le_mul h.hc h.hd
theorem Gu.bY(h:Gu A X Y V r c d) :Y.length≤262144:=by rw [h.hY];exact Nat.mul_le_mul h.hr h.hd
theorem Gu.bV(h:Gu A X Y V r c d) :V.length≤512:=by rw [h.hV];exact h.hd
theorem Gu.dot(h:Gu A X Y V r c d){i k n:Nat}(hi:i<r)(hk:k<d)(hn:n≤c) :nl (cH (fun j=>gz A (i*c+j)*gz X (j*d+k)) n).natAbs≤67:=by
  have:=h.hc
  exact G8 (fun j hj=>lJ (sa h.wA h.fA (h.lA hi (by omega))) (sa h.wX h.fX (h.lX (by omega) hk))) (by omega)
theorem Gu.yv(h:Gu A X Y V r c d){i k:Nat}(hi:i<r)(hk:k<d) :nl (gz Y (i*d+k)*gz V k).natAbs≤66 :=
  lJ (sa h.wY h.fY (h.lY hi hk)) (sa h.wV h.fV (h.lV hk))
theorem Gu.t(h:Gu A X Y V r c d){i k:Nat}(hi:i<r)(hk:k<d) :nl (tR A X Y V c d i k).natAbs≤68 :=
  asj (a:=67) (h.dot hi hk (Nat.le_refl _)) (Nat.le_trans (h.yv hi hk) (by omega))
theorem Gu.g(h:Gu A X Y V r c d){p:Nat}(hp:p<r*d) :nl (gR A X Y V c d p).natAbs≤68:=by
  have hd:0<d:=by
    rcases Nat.eq_zero_or_pos d with q | q
    · subst q;omega
    · exact q
  exact h.t (Nat.div_lt_of_lt_mul (by rw [Nat.mul_comm];exact hp)) (Nat.mod_lt _ hd)
theorem Gu.s(h:Gu A X Y V r c d){n:Nat}(hn:n≤r*d) :nl (cH (fun p=>gR A X Y V c d p*gR A X Y V c d p) n).natAbs≤137:=by
  have:r*d≤512*512:=Nat.mul_le_mul h.hr h.hd
  exact G8 (fun p hp=>lJ (h.g (by omega)) (h.g (by omega))) (by omega)
theorem atC(h:Gu A X Y V r c d){i k:Nat}(hi:i<r)(hk:k<d) :
    ∃ N,cR (i:Int) (k:Int) A.length (mW (gz A) A.length) (m5 (gz A) A.length) (m6 (gz A) (-1074) A.length) (c:Int) X.length (mW (gz X) X.length) (m5 (gz X) X.length) (m6 (gz X) (-1074) X.length) (d:Int) Y.length (mW (gz Y) Y.length) (m5 (gz Y) Y.length) (m6 (gz Y) (-1074) Y.length) (d:Int) V.length (mW (gz V) V.length) (m5 (gz V) V.length) (m6 (gz V) (-1074) V.length)
      = some (.r0 0 (nS (tR A X Y V c d i k)) (aA (nM (tR A X Y V c d i k)) N) 0 (nl (nM (tR A X Y V c d i k))) (nE (tR A X Y V c d i k) (-2148)))∧nl (nM (tR A X Y V c d i k))≤N∧N≤4096:=by
  have hr:=h.hr
  have hc:=h.hc
  have hd:=h.hd
  have bA:=h.bA
  have bX:=h.bX
  have bY:=h.bY
  have bV:=h.bV
  have hic:i*c≤512*512:=Nat.mul_le_mul (by omega) hc
  have hid:i*d≤512*512:=Nat.mul_le_mul (by omega) hd
  have lA:∀ j,j<c→i*c+j*1<A.length:=fun j hj=>by rw [Nat.mul_one];exact h.lA hi hj
  have lX:∀ j,j<c→k+j*d<X.length:=fun j hj=>by rw [Nat.add_comm];exact h.lX hj hk
  have l1:=L5 (g:=gz A) (e:=-1074) (n:=A.length) (from':=i*c) (far:=1) (many:=c) lA (by omega) (by omega) (by omega) (by omega)
  have l2:=L5 (g:=gz X) (e:=-1074) (n:=X.length) (from':=k) (far:=d) (many:=c) lX (by omega) (by omega) (by omega) (by omega)
  obtain ⟨D,d1,d2,d3⟩:=acs (g:=fun j=>gz A (i*c+j*1)) (h:=fun j=>gz X (k+j*d)) (e:=-1074) (f:=-1074) (n:=c) (k:=66) (fun j hj=>F8 h.wA h.fA (lA j hj)) (fun j hj=>F8 h.wX h.fX (lX j hj)) (fun j hj=>lJ (sa h.wA h.fA (lA j hj)) (sa h.wX h.fX (lX j hj))) (by omega) (by omega) (by omega)
  have ed:cH (fun j=>gz A (i*c+j*1)*gz X (k+j*d)) c=cH (fun j=>gz A (i*c+j)*gz X (j*d+k)) c:=OH fun j _=>by rw [Nat.mul_one,Nat.add_comm k]
  rw [ed] at d1 d2
  have ly:=h.lY hi hk
  have lv:=h.lV hk
  obtain ⟨E,e1,e2,e3⟩:=L0 (F8 h.wY h.fY ly) (F8 h.wV h.fV lv)
  have hD:Sm (cH (fun j=>gz A (i*c+j)*gz X (j*d+k)) c) (-1074 + -1074):=hZ (h.dot hi hk (Nat.le_refl _)) (by omega) (by omega)
  have hP:Sm (gz Y (i*d+k)*gz V k) (-1074 + -1074):=hZ (h.yv hi hk) (by omega) (by omega)
  obtain ⟨F,f1,f2,f3⟩:=ahE hD hP
  refine ⟨F,bb (ai (a:=(0,false,nS (cH (fun j=>gz A (i*c+j)*gz X (j*d+k)) c),aA (nM (cH (fun j=>gz A (i*c+j)*gz X (j*d+k)) c)) D,0,nl (nM (cH (fun j=>gz A (i*c+j)*gz X (j*d+k)) c)),nE (cH (fun j=>gz A (i*c+j)*gz X (j*d+k)) c) (-1074 + -1074))) ?_ (ai (a:=(0,nS (gz Y (i*d+k)*gz V k),aA (nM (gz Y (i*d+k)*gz V k)) E,0,nl (nM (gz Y (i*d+k)*gz V k)),nE (gz Y (i*d+k)*gz V k) (-1074 + -1074))) ?_ (ai (a:=(0,nS (tR A X Y V c d i k),aA (nM (tR A X Y V c d i k)) F,0,nl (nM (tR A X Y V c d i k)),nE (tR A X Y V c d i k) (-2148))) ?_ rfl))),f2,f3⟩
  · unfold Cf
    have l1':ak A.length (mW (gz A) A.length) (m5 (gz A) A.length) (m6 (gz A) (-1074) A.length) ((i*c:Nat):Int) 1 (c:Int)=_:=l1
    rw [A8,ia,ib,ic,ia,ib,ic,l1',l2]
    simp only [lR,ao,bz,bB,bC]
    rw [ia,ib,ic,ia,ib,ic,d1]
    exact bW (by rw [cM];omega) (qz (aj (qz (aj (qz (qz (aj rfl)))))))
  · show (uw _ _ _ _ _ _ _ _ _ _ _ _).run=_
    have e1':aD (nS (gz Y (i*d+k))) (YX (gz Y (i*d+k))) (nE (gz Y (i*d+k)) (-1074)) (nS (gz V k)) (YX (gz V k)) (nE (gz V k) (-1074))=_:=e1
    unfold uw
    rw [A7,A8,ch,ch,F5,F6,F7,F5,F6,F7,QG ly,QH ly,QI ly,QG lv,QH lv,QI lv,aw,aw,e1']
    exact aI (bW (by rw [cM];omega) (bW (by rw [cM];omega) (ap (ap (ap (ap (ap (ap (ap (ap (aB (aB (aj rfl)))))))))))))
  · show (ux _ _ _ _ _ _ _ _ _ _ _).run=_
    unfold ux
    rw [bM d2,bM e2,f1]
    exact aI (bW (aX d2) (bW (aX e2) (aj rfl)))
theorem atD(h:Gu A X Y V r c d) :
    ∃ N,bJ (r:Int) (d:Int) A.length (mW (gz A) A.length) (m5 (gz A) A.length) (m6 (gz A) (-1074) A.length) (c:Int) A X.length (mW (gz X) X.length) (m5 (gz X) X.length) (m6 (gz X) (-1074) X.length) (d:Int) X Y.length (mW (gz Y) Y.length) (m5 (gz Y) Y.length) (m6 (gz Y) (-1074) Y.length) (d:Int) Y V.length (mW (gz V) V.length) (m5 (gz V) V.length) (m6 (gz V) (-1074) V.length)
      = some (.r0 0 (nS (A9 A X Y V r c d)) (aA (nM (A9 A X Y V r c d)) N) 0 (nl (nM (A9 A X Y V r c d))) (nE (A9 A X Y V r c d) (-4296)))∧nl (nM (A9 A X Y V r c d))≤N∧N≤4096:=by
  have hr:=h.hr
  have hc:=h.hc
  have hd:=h.hd
  have hrd:r*d≤512*512:=Nat.mul_le_mul hr hd
  obtain ⟨N,s1,s2,s3⟩:=IR (g:=gR A X Y V c d) (e:=-2148) (n:=r*d) (k:=68) (fun p hp=>h.g hp) (by omega) (by omega) (by omega)
  refine ⟨N,bb (ai (a:=false) rfl (ai (a:=()) rfl (ai (a:=(r*d,r*d,0,r*d,mW (gR A X Y V c d) (r*d),m5 (gR A X Y V c d) (r*d),m6 (gR A X Y V c d) (-2148) (r*d))) (bL (fun i=>(i*d,i*d,0,i,i*d,mW (gR A X Y V c d) (i*d),m5 (gR A X Y V c d) (i*d),m6 (gR A X Y V c d) (-2148) (i*d))) r (by rw [Nat.zero_mul];rfl) (fun i hi=>?_) ?_) (ai (a:=(0,nS (A9 A X Y V r c d),aA (nM (A9 A X Y V r c d)) N,0,nl (nM (A9 A X Y V r c d)),nE (A9 A X Y V r c d) (-4296))) ?_ rfl)))),s2,s3⟩
  · show aC (iq _ _ _ _ _ _ _ _ _).run _=_
    have hnx:(i+1)*d=i*d+d:=by rw [Nat.add_mul,Nat.one_mul]
    have hic:i*d≤512*512:=Nat.mul_le_mul (by omega) hd
    refine ai (a:=()) (bT rfl) (ai (a:=((i+1)*d,(i+1)*d,0,(i+1)*d,mW (gR A X Y V c d) ((i+1)*d),m5 (gR A X Y V c d) ((i+1)*d),m6 (gR A X Y V c d) (-2148) ((i+1)*d))) (vo (ai (a:=()) rfl (ai (a:=(i*d+d,i*d+d,0,i*d+d,mW (gR A X Y V c d) (i*d+d),m5 (gR A X Y V c d) (i*d+d),m6 (gR A X Y V c d) (-2148) (i*d+d))) (bL (fun k=>(i*d+k,i*d+k,0,k,i*d+k,mW (gR A X Y V c d) (i*d+k),m5 (gR A X Y V c d) (i*d+k),m6 (gR A X Y V c d) (-2148) (i*d+k))) d rfl (fun k hk=>?_) ?_) (by rw [hnx];rfl)))) (ap rfl))
    · obtain ⟨a,a1,a2,a3⟩:=atC h hi hk
      obtain ⟨q1,q2⟩:=pq (i:=i) hk
      have eg:tR A X Y V c d i k=gR A X Y V c d (i*d+k):=by unfold gR;rw [q1,q2]
      rw [eg] at a1 a2
      show aC (eV _ _ _ _ _ _ _ _ _ _ _ _ _ _ _ _ _ _ _ _ _ _ _ _ _ _ _ _ _ _ _ _).run _=_
      refine ai (a:=(i*d+k+1,0,mW (gR A X Y V c d) (i*d+k+1),m5 (gR A X Y V c d) (i*d+k+1),m6 (gR A X Y V c d) (-2148) (i*d+k+1))) ?_ (ap rfl)
      unfold eV
      rw [ia,ib,ic,ia,ib,ic,ia,ib,ic,ia,ib,ic,a1]
      simp only [mB,jd,nR,kW,kX,kY,nT]
      rw [List.drop_zero,Gr a2,ave,avf,avg]
      exact bT (qz (aB (qz (aB (qz (aB (qz (aj (aI (ap (ap (aj (ap (bW (decide_eq_true (by rw [aq];omega)) rfl))))))))))))))
    · show aC (eV _ _ _ _ _ _ _ _ _ _ _ _ _ _ _ _ _ _ _ _ _ _ _ _ _ _ _ _ _ _ _ _).run _=_
      exact bk (ct rfl)
  · show aC (iq _ _ _ _ _ _ _ _ _).run _=_
    exact bk (ct rfl)
  · show (iw _ _ _ _ _ _).run=_
    unfold iw
    rw [ia,ib,ic,s1]
    exact aI (qz (aj rfl))
theorem awL(h:Gu A X Y V r c d){i k j:Nat}(hi:i<r)(hk:k<d)(hj:j<c) :
    po (c:Int) A (d:Int) X i k (j,L7 (cH (fun j=>gz A (i*c+j)*gz X (j*d+k)) j) (-2148))=some (.inl (j+1,L7 (cH (fun j=>gz A (i*c+j)*gz X (j*d+k)) (j+1)) (-2148))):=by
  have hr:=h.hr
  have hc:=h.hc
  have hd:=h.hd
  have bA:=h.bA
  have bX:=h.bX
  have li:=h.lA hi hj
  have lk:=h.lX hj hk
  have ex:aa (A.getD (i*c+j) 0)=some (.r0 (nS (gz A (i*c+j))) (aA (nM (gz A (i*c+j))) (nl (nM (gz A (i*c+j))))) (nl (nM (gz A (i*c+j)))) (nE (gz A (i*c+j)) (-1074))):=uN (h.wA _) (h.fA _ li)
  have ey:aa (X.getD (j*d+k) 0)=some (.r0 (nS (gz X (j*d+k))) (aA (nM (gz X (j*d+k))) (nl (nM (gz X (j*d+k))))) (nl (nM (gz X (j*d+k)))) (nE (gz X (j*d+k)) (-1074))):=uN (h.wX _) (h.fX _ lk)
  have t1:=rn (F8 h.wA h.fA li) (F8 h.wX h.fX lk)
  have hp:Sm (gz A (i*c+j)*gz X (j*d+k)) (-1074 + -1074):=hZ (lJ (sa h.wA h.fA li) (sa h.wX h.fX lk)) (by omega) (by omega)
  have hS:Sm (cH (fun j=>gz A (i*c+j)*gz X (j*d+k)) j) (-1074 + -1074):=hZ (h.dot hi hk (Nat.le_of_lt hj)) (by omega) (by omega)
  have t2:=Lt hS hp
  show aC (pn _ _ _ _ _ _ _ _ _ _ _).run _=_
  refine ai (a:=L7 (cH (fun j=>gz A (i*c+j)*gz X (j*d+k)) (j+1)) (-2148)) ?_ (ap rfl)
  unfold pn
  rw [A7,A7,A8,A8,ch,ch,ex,ey]
  simp only [d4,ag,ac,ae,ah]
  rw [bf aq,bf aq,t1]
  simp only [c8,aT,aJ,aK,aU]
  have t2':bR (nS (cH (fun j=>gz A (i*c+j)*gz X (j*d+k)) j)) (aA (nM (cH (fun j=>gz A (i*c+j)*gz X (j*d+k)) j)) (nl (nM (cH (fun j=>gz A (i*c+j)*gz X (j*d+k)) j)))) (nE (cH (fun j=>gz A (i*c+j)*gz X (j*d+k)) j) (-2148)) (nS (gz A (i*c+j)*gz X (j*d+k))) (aA (nM (gz A (i*c+j)*gz X (j*d+k))) (nl (nM (gz A (i*c+j)*gz X (j*d+k))))) (nE (gz A (i*c+j)*gz X (j*d+k)) (-1074 + -1074))=_:=t2
  rw [bf aq,bf aq,t2']
  exact bT (ap (ap (ap (ap (aj (ap (ap (ap (ap (aj (bH (bH (aj (bH (bH (aj rfl))))))))))))))))
theorem awM(h:Gu A X Y V r c d){i k:Nat}(hi:i<r)(hk:k<d) :
    pt (c:Int) A (d:Int) X (d:Int) Y V i (k,L7 (cH (fun p=>gR A X Y V c d p*gR A X Y V c d p) (i*d+k)) (-4296))=some (.inl (k+1,L7 (cH (fun p=>gR A X Y V c d p*gR A X Y V c d p) (i*d+(k+1))) (-4296))):=by
  have hr:=h.hr
  have hc:=h.hc
  have hd:=h.hd
  have bY:=h.bY
  have bV:=h.bV
  obtain ⟨q1,q2⟩:=pq (i:=i) hk
  have eg:gR A X Y V c d (i*d+k)=tR A X Y V c d i k:=by unfold gR;rw [q1,q2]
  have hT:=h.t hi hk
  have hTs:Sm (tR A X Y V c d i k) (-2148):=hZ hT (by omega) (by omega)
  have hD:Sm (cH (fun j=>gz A (i*c+j)*gz X (j*d+k)) c) (-1074 + -1074):=hZ (h.dot hi hk (Nat.le_refl _)) (by omega) (by omega)
  have hP:Sm (gz Y (i*d+k)*gz V k) (-1074 + -1074):=hZ (h.yv hi hk) (by omega) (by omega)
  have hp:Sm (tR A X Y V c d i k*tR A X Y V c d i k) (-2148 + -2148):=hZ (lJ hT hT) (by omega) (by omega)
  have hlt:i*d+k<r*d:=un hi hk
  have hS:Sm (cH (fun p=>gR A X Y V c d p*gR A X Y V c d p) (i*d+k)) (-2148 + -2148):=hZ (h.s (Nat.le_of_lt hlt)) (by omega) (by omega)
  have ly:=h.lY hi hk
  have lv:=h.lV hk
  have ex:aa (Y.getD (i*d+k) 0)=some (.r0 (nS (gz Y (i*d+k))) (aA (nM (gz Y (i*d+k))) (nl (nM (gz Y (i*d+k))))) (nl (nM (gz Y (i*d+k)))) (nE (gz Y (i*d+k)) (-1074))):=uN (h.wY _) (h.fY _ ly)
  have ey:aa (V.getD k 0)=some (.r0 (nS (gz V k)) (aA (nM (gz V k)) (nl (nM (gz V k)))) (nl (nM (gz V k))) (nE (gz V k) (-1074))):=uN (h.wV _) (h.fV _ lv)
  have t0:=rn (F8 h.wY h.fY ly) (F8 h.wV h.fV lv)
  have t1:=rn hTs hTs
  have t2:=Lt hS hp
  have t3:=ahL hD hP
  have e1:cH (fun p=>gR A X Y V c d p*gR A X Y V c d p) (i*d+(k+1))=cH (fun p=>gR A X Y V c d p*gR A X Y V c d p) (i*d+k)+tR A X Y V c d i k*tR A X Y V c d i k:=by
    show cH _ (i*d+k+1)=_
    simp only [cH];rw [eg]
  rw [e1]
  show aC (uH _ _ _ _ _ _).run _=_
  refine ai (a:=()) (bT rfl) (ai (a:=L7 (cH (fun p=>gR A X Y V c d p*gR A X Y V c d p) (i*d+k)+tR A X Y V c d i k*tR A X Y V c d i k) (-4296)) (vo (ai (a:=L7 0 (-2148)) ?_ (ai (a:=()) rfl (ai (a:=L7 (cH (fun j=>gz A (i*c+j)*gz X (j*d+k)) c) (-2148)) (bL (fun j=>(j,L7 (cH (fun j=>gz A (i*c+j)*gz X (j*d+k)) j) (-2148))) c rfl (fun j hj=>awL h hi hk hj) ?_) (ai (a:=L7 (tR A X Y V c d i k) (-2148)) ?_ ?_))))) (ap rfl))
  · unfold CM
    rw [IS (-2148)]
    exact aj rfl
  · show aC (pn _ _ _ _ _ _ _ _ _ _ _).run _=_
    exact bk (ct rfl)
  · show (uJ _ _ _ _ _ _ _ _ _).run=_
    unfold uJ
    rw [A7,A8,ch,ex,ey]
    simp only [d4,ag,ac,ae,ah]
    rw [bf aq,bf aq,t0]
    simp only [c8,aT,aJ,aK,aU]
    have t3':fI (nS (cH (fun j=>gz A (i*c+j)*gz X (j*d+k)) c)) (aA (nM (cH (fun j=>gz A (i*c+j)*gz X (j*d+k)) c)) (nl (nM (cH (fun j=>gz A (i*c+j)*gz X (j*d+k)) c)))) (nE (cH (fun j=>gz A (i*c+j)*gz X (j*d+k)) c) (-2148)) (nS (gz Y (i*d+k)*gz V k)) (aA (nM (gz Y (i*d+k)*gz V k)) (nl (nM (gz Y (i*d+k)*gz V k)))) (nE (gz Y (i*d+k)*gz V k) (-1074 + -1074))=_:=t3
    rw [bf aq,bf aq,t3']
    exact ap (ap (ap (ap (aj (ap (ap (aj (bH (bH (aj (bH (bH (aj rfl)))))))))))))
  · show (uK _ _ _ _ _ _ _ _).run=_
    unfold uK
    rw [bf aq,bf aq,t1]
    simp only [c8,aT,aJ,aK,aU]
    have t2':bR (nS (cH (fun p=>gR A X Y V c d p*gR A X Y V c d p) (i*d+k))) (aA (nM (cH (fun p=>gR A X Y V c d p*gR A X Y V c d p) (i*d+k))) (nl (nM (cH (fun p=>gR A X Y V c d p*gR A X Y V c d p) (i*d+k))))) (nE (cH (fun p=>gR A X Y V c d p*gR A X Y V c d p) (i*d+k)) (-4296)) (nS (tR A X Y V c d i k*tR A X Y V c d i k)) (aA (nM (tR A X Y V c d i k*tR A X Y V c d i k)) (nl (nM (tR A X Y V c d i k*tR A X Y V c d i k)))) (nE (tR A X Y V c d i k*tR A X Y V c d i k) (-2148 + -2148))=_:=t2
    rw [bf aq,t2']
    exact bH (bH (aj (bH (bH (aj rfl)))))
theorem ahO(h:Gu A X Y V r c d) :
    bE (c:Int) A (d:Int) X (r:Int) (d:Int) Y V=some (.r0 (nS (A9 A X Y V r c d)) (aA (nM (A9 A X Y V r c d)) (nl (nM (A9 A X Y V r c d)))) (nl (nM (A9 A X Y V r c d))) (nE (A9 A X Y V r c d) (-4296))):=by
  have hr:=h.hr
  have hd:=h.hd
  refine bb (ai (a:=(false,L7 0 (-4296))) ?_ (ai (a:=()) rfl (ai (a:=L7 (A9 A X Y V r c d) (-4296)) (bL (fun i=>(i,L7 (cH (fun p=>gR A X Y V c d p*gR A X Y V c d p) (i*d)) (-4296))) r (by rw [Nat.zero_mul];rfl) (fun i hi=>?_) ?_) rfl)))
  · unfold CH
    rw [IS (-4296)]
    exact aj rfl
  · show aC (uD _ _ _ _ _ _).run _=_
    have hnx:(i+1)*d=i*d+d:=by rw [Nat.add_mul,Nat.one_mul]
    refine ai (a:=()) (bT rfl) (ai (a:=L7 (cH (fun p=>gR A X Y V c d p*gR A X Y V c d p) ((i+1)*d)) (-4296)) (vo (ai (a:=()) rfl (ai (a:=L7 (cH (fun p=>gR A X Y V c d p*gR A X Y V c d p) (i*d+d)) (-4296)) (bL (fun k=>(k,L7 (cH (fun p=>gR A X Y V c d p*gR A X Y V c d p) (i*d+k)) (-4296))) d rfl (fun k hk=>awM h hi hk) ?_) (by rw [hnx];rfl)))) (ap rfl))
    show aC (uH _ _ _ _ _ _).run _=_
    exact bk (ct rfl)
  · show aC (uD _ _ _ _ _ _).run _=_
    exact bk (ct rfl)
end
end Go.Plb.Seat
namespace Go.Plb.Seat
open Go Go.Plb
set_option linter.unusedSimpArgs false
set_option linter.unusedVariables false
theorem An{r c n:Nat}(hr:r≤512)(hc:c≤512)(hn:n=r*c) :Gt (r:Int) (c:Int) n=true :=
  alR.2 ⟨by omega,by omega,by omega,by omega,by rw [hn,Int.natCast_mul]⟩
theorem IT{l:List Nat}(hw:Wd l)(hf:Fn l)(hn:l.length≤1000000000) :∃ k:Int,au l=some (.r0 k)∧decide (k≥0)=false:=by
  obtain ⟨k,k1,k2⟩:=CT hw hn
  rw [hH.2 hf] at k2
  exact ⟨k,k1,k2⟩
section
variable {A X Y V : List Nat} {r c d : Nat}
theorem apa(h:Gu A X Y V r c d) :
    ∃ N,bN (r:Int) (c:Int) A (c:Int) (d:Int) X (r:Int) (d:Int) Y V=some (.r0 0 (nS (A9 A X Y V r c d)) (aA (nM (A9 A X Y V r c d)) N) 0 (nl (nM (A9 A X Y V r c d))) (nE (A9 A X Y V r c d) (-4296)))∧nl (nM (A9 A X Y V r c d))≤N∧N≤4096:=by
  have bA:=h.bA
  have bX:=h.bX
  have bY:=h.bY
  have bV:=h.bV
  have mA:=An h.hr h.hc h.hA
  have mX:=An h.hc h.hd h.hX
  have mY:=An h.hr h.hd h.hY
  have hV:((V.length:Nat):Int)=(d:Int):=by rw [h.hV]
  obtain ⟨k1,a1,a2⟩:=IT h.wA h.fA (by omega)
  obtain ⟨k2,b1,b2⟩:=IT h.wX h.fX (by omega)
  obtain ⟨k3,c1,c2⟩:=IT h.wY h.fY (by omega)
  obtain ⟨k4,d1,d2⟩:=IT h.wV h.fV (by omega)
  obtain ⟨N,e1,e2,e3⟩:=atD h
  refine ⟨N,bb (ai (a:=false) ?_ (ai (a:=(A.length,mW (gz A) A.length,m5 (gz A) A.length,m6 (gz A) (-1074) A.length,X.length,mW (gz X) X.length,m5 (gz X) X.length,m6 (gz X) (-1074) X.length,Y.length,mW (gz Y) Y.length,m5 (gz Y) Y.length,m6 (gz Y) (-1074) Y.length,V.length,mW (gz V) V.length,m5 (gz V) V.length,m6 (gz V) (-1074) V.length)) ?_ (ai (a:=(0,nS (A9 A X Y V r c d),aA (nM (A9 A X Y V r c d)) N,0,nl (nM (A9 A X Y V r c d)),nE (A9 A X Y V r c d) (-4296))) ?_ rfl))),e2,e3⟩
  · unfold Gb
    rw [aw,aw,aw,aw,oQ,oQ,oQ,mA,mX,mY,a1,b1,c1,d1]
    exact (aZ (aj (aB (aj (aI (aj (aZ (aj (aB (aj (aI (aj (aZ (aj (aB (aj (aI (aj (aI (aI (cV (by simp) (cV (by simp) (cV (by rw [hV,bne_self_eq_false]) (aZ (aj (aB (aj (cV a2 (aj (aZ (aj (aB (aj (cV b2 (aj (aZ (aj (aB (aj (cV c2 (aj (aZ (aj (aB (aj (cV d2 (aj (aI rfl))))))))))))))))))))))))))))))))))))))))))))))))
  · show (xI _ _ _ _).run=_
    unfold xI
    rw [aw,aw,aw,aw,u6 h.wA h.fA (by omega),u6 h.wX h.fX (by omega),u6 h.wY h.fY (by omega),u6 h.wV h.fV (by omega)]
    exact (aB (aj (aB (aj (aB (aj (aB (aj rfl))))))))
  · show (xJ _ _ _ _ _ _ _ _ _ _ _ _ _ _ _ _ _ _ _ _ _ _ _).run=_
    unfold xJ
    rw [ia,ib,ic,ia,ib,ic,ia,ib,ic,ia,ib,ic,aw,aw,aw,e1]
    exact (qz (aB (qz (aB (qz (aB (qz (aj rfl))))))))
end
def P2(k:Nat) :Int:=((2^k:Nat):Int)
theorem awf{k m:Nat}(h:k<64*m) :nl (P2 k).natAbs≤m:=by
  unfold P2
  rw [Int.natAbs_natCast]
  refine i6 ?_
  rw [show W^m=2^(64*m) by rw [Nat.pow_mul]]
  exact Nat.pow_lt_pow_right (by decide) h
theorem IU{x b t e f g:Int}{k:Nat}(hx:Sm x e)(hb:Sm b f)(ht:Sm t g)(he:f+g=e+k)(hm:Sm (b*t*P2 k) e) :
    cw (nS x) (aA (nM x) (nl (nM x))) (nE x e) 0 (nS b) (aA (nM b) (nl (nM b))) (nE b f) (nS t) (aA (nM t) (nl (nM t))) (nE t g)=some (.r0 (decide (x≤b*t*P2 k)) 0):=by
  obtain ⟨N,n1,n2,n3⟩:=L0 hb ht
  obtain ⟨q1,q2,q3⟩:=asl (b*t) k e
  rw [←he] at q3
  have c1:=atg hx hm
  have ev:decide (Jg x (b*t*P2 k)≤0)=decide (x≤b*t*P2 k):=by
    rw [Bool.eq_iff_iff,decide_eq_true_eq,decide_eq_true_eq];unfold Jg;split<;>(try split)<;>omega
  refine bb (ai (a:=(0,nS (b*t),aA (nM (b*t)) N,0,nl (nM (b*t)),nE (b*t) (f+g))) ?_ (ai (a:=(0,Jg x (b*t*P2 k))) ?_ (ai (a:=decide (x≤b*t*P2 k)) ?_ rfl)))
  · unfold Nn
    rw [aw,aw,n1]
    exact (aI (aB (aB (aj rfl))))
  · show (Fm _ _ _ _ _ _ _ _ _).run=_
    unfold Fm
    have c1':ut (nS x) (aA (nM x) (nl (nM x))) (nE x e) (nS (b*t)) (aA (nM (b*t)) (nl (nM (b*t)))) (nE (b*t) (f+g))=some (.r0 (Jg x (b*t*P2 k)) 0):=by
      rw [q1,q2,q3];exact c1
    rw [aw,bM n2,c1']
    exact (aI (aB (bW (aX n2) (aj rfl))))
  · refine aZ ?_
    show some (Sum.inl (decide (Jg x (b*t*P2 k)≤0)))=_
    rw [ev]
def gOK(l:List Nat)(r c m n:Nat) :Bool:=decide (A6 l r c≤bI m n*P2 4190)
def rOK(A X Y V:List Nat)(r c d:Nat)(S:Int)(m n:Nat) :Bool:=decide (A9 A X Y V r c d≤bI m n*S*P2 2042)
theorem apb{m n:Nat}(hm:m≤512)(hn:n≤512) :Sm (bI m n) (-106):=hZ (ao7 hm hn) (by omega) (by omega)
theorem asx{m n:Nat}(hm:m≤512)(hn:n≤512) :Sm (bI m n*P2 4190) (-4296):=hZ (k:=68) (lJ (a:=2) (b:=66) (ao7 hm hn) (awf (by omega))) (by omega) (by omega)
theorem asy{m n:Nat}{S:Int}(hm:m≤512)(hn:n≤512)(hS:nl S.natAbs≤67) :Sm (bI m n*S*P2 2042) (-4296) :=
  hZ (k:=101) (lJ (a:=69) (b:=32) (lJ (ao7 hm hn) hS) (awf (by omega))) (by omega) (by omega)
theorem atF{l:List Nat}{r c m n:Nat}(hw:Wd l)(hf:Fn l)(hl:l.length=r*c)(hr:r≤512)(hc:c≤512)(hm:m≤512)(hn:n≤512) :
    nQ (r:Int) (c:Int) l (nS (bI m n)) (aA (nM (bI m n)) (nl (nM (bI m n)))) (nE (bI m n) (-106))=some (.r0 (gOK l r c m n) 0):=by
  obtain ⟨N,g1,g2,g3⟩:=ahN hw (An hr hc hl) (hH.2 hf)
  obtain ⟨M,w1,w2,w3⟩:=DO (n:=1) (by omega)
  have hG:Sm (A6 l r c) (-4296):=hZ (acu hw hf hl hr hc (Nat.le_refl _)) (by omega) (by omega)
  have h1:Sm 1 0:=hZ (k:=1) (i6 (by decide)) (by omega) (by omega)
  have hb1:bI m n*1=bI m n:=Int.mul_one _
  have hmul:Sm (bI m n*1*P2 4190) (-4296):=by rw [hb1];exact asx hm hn
  have b1:=IU (k:=4190) hG (apb hm hn) h1 (by omega) hmul
  rw [hb1] at b1
  refine bb (ai (a:=(0,nS (A6 l r c),aA (nM (A6 l r c)) N,0,nl (nM (A6 l r c)),nE (A6 l r c) (-4296))) ?_ (ai (a:=(gOK l r c m n,0)) ?_ rfl))
  · unfold Np
    rw [aw,g1]
    exact (aB (aj rfl))
  · show (Fo _ _ _ _ _ _ _ _ _).run=_
    have w1':bo 1=_:=w1
    have w2':nl (nM 1)≤M:=w2
    unfold Fo
    rw [w1']
    simp only [l6,iE,gk,gn,gp,iF]
    have b1':cw (nS (A6 l r c)) (aA (nM (A6 l r c)) (nl (nM (A6 l r c)))) (nE (A6 l r c) (-4296)) ((0:Nat):Int) (nS (bI m n)) (aA (nM (bI m n)) (nl (nM (bI m n)))) (nE (bI m n) (-106)) (nS ((1:Nat):Int)) (aA (nM ((1:Nat):Int)) (nl (nM ((1:Nat):Int)))) (nE ((1:Nat):Int) 0)=some (.r0 (gOK l r c m n) 0):=b1
    rw [bM g2,bM w2,aw,b1']
    exact (aj (bW (aX g2) (aB (bW (aX w2) (aj rfl)))))
theorem atG{A Z V:List Nat}{r c d m n:Nat}{S:Int}(h:Gu A Z Z V r c d)(hrc:c=r)(hS:nl S.natAbs≤67)(hm:m≤512)(hn:n≤512) :
    nU (r:Int) (c:Int) A (r:Int) (d:Int) Z V (nS (bI m n)) (aA (nM (bI m n)) (nl (nM (bI m n)))) (nE (bI m n) (-106)) (nS S) (aA (nM S) (nl (nM S))) (nE S (-2148))=some (.r0 (rOK A Z Z V r c d S m n) 0):=by
  subst hrc
  obtain ⟨N,g1,g2,g3⟩:=apa h
  have hG:Sm (A9 A Z Z V c c d) (-4296):=hZ (h.s (Nat.le_refl _)) (by omega) (by omega)
  have hSs:Sm S (-2148):=hZ hS (by omega) (by omega)
  have b1:=IU (k:=2042) hG (apb hm hn) hSs (by omega) (asy hm hn hS)
  refine bb (ai (a:=(0,nS (A9 A Z Z V c c d),aA (nM (A9 A Z Z V c c d)) N,0,nl (nM (A9 A Z Z V c c d)),nE (A9 A Z Z V c c d) (-4296))) ?_ (ai (a:=(rOK A Z Z V c c d S m n,0)) ?_ rfl))
  · unfold Nr
    rw [aw,aw,aw,g1]
    exact (aB (aB (aB (aB (aj rfl)))))
  · show (Fp _ _ _ _ _ _ _ _ _ _ _ _).run=_
    unfold Fp
    have b1':cw (nS (A9 A Z Z V c c d)) (aA (nM (A9 A Z Z V c c d)) (nl (nM (A9 A Z Z V c c d)))) (nE (A9 A Z Z V c c d) (-4296)) ((0:Nat):Int) (nS (bI m n)) (aA (nM (bI m n)) (nl (nM (bI m n)))) (nE (bI m n) (-106)) (nS S) (aA (nM S) (nl (nM S))) (nE S (-2148))=some (.r0 (rOK A Z Z V c c d S m n) 0):=b1
    rw [bM g2,aw,aw,b1']
    exact (bW (aX g2) (aB (aB (aj rfl))))
def atH(l:List Nat) :Bool:=decide (∀ j,j<l.length-1→flt (l.getD (j+1) 0) (l.getD j 0)=false)
theorem apc{x y:Nat}(hx:x<PT)(h:vv x=true) :B6 x y=some (.r0 (flt x y)) :=
  bb (ai (a:=flt x y) (cV (aiB hx h) rfl) rfl)
theorem apd{l:List Nat}(hw:Wd l)(hf:Fn l)(hn:l.length≤1000000) :nI l=some (.r0 (atH l)):=by
  have step:∀ j,j<l.length-1→flt (l.getD (l.length-1-j) 0) (l.getD (l.length-2-j) 0)=false→ov l (((l.length:Nat):Int)-1-(j:Nat))=some (.inl (((l.length:Nat):Int)-1-(j+1:Nat))):=by
    intro j hj hs
    have e1:Int.toNat (((l.length:Nat):Int)-1-(j:Nat))=l.length-1-j:=by omega
    have e2:Int.toNat (((l.length:Nat):Int)-1-(j:Nat)-1)=l.length-2-j:=by omega
    show aC (ou _ _).run _=_
    refine ai (a:=()) ?_ ?_
    · unfold ou
      rw [e1,e2,apc (hw _) (hf _ (by omega)),hs]
      exact (bT (ap (ap (ap (ap (ap (aj (aI rfl))))))))
    · refine ap ?_
      show some (Sum.inl _)=_
      congr 2;omega
  by_cases hs:∀ j,j<l.length-1→flt (l.getD (l.length-1-j) 0) (l.getD (l.length-2-j) 0)=false
  · have hb:atH l=true:=by
      refine decide_eq_true fun j hj=>?_
      have:=hs (l.length-2-j) (by omega)
      rwa [show l.length-1-(l.length-2-j)=j+1 by omega,show l.length-2-(l.length-2-j)=j by omega] at this
    rw [hb]
    refine bb (ai (a:=((l.length:Nat):Int)-1) (ap rfl) (ai (a:=()) (bL (fun j=>((l.length:Nat):Int)-1-(j:Nat)) (l.length-1) (by omega) (fun j hj=>step j hj (hs j hj)) (bk (ct rfl))) rfl))
  · obtain ⟨k,hk,hb,hg⟩:=uR hs
    have hbt:flt (l.getD (l.length-1-k) 0) (l.getD (l.length-2-k) 0)=true:=by
      revert hb;cases flt (l.getD (l.length-1-k) 0) (l.getD (l.length-2-k) 0)<;>simp
    have hB:atH l=false:=by
      refine decide_eq_false fun q=>?_
      have:=q (l.length-2-k) (by omega)
      rw [show l.length-2-k+1=l.length-1-k by omega,hbt] at this
      exact Bool.noConfusion this
    rw [hB]
    refine bb (ai (a:=((l.length:Nat):Int)-1) (ap rfl) (bk (bL (fun j=>((l.length:Nat):Int)-1-(j:Nat)) k (by omega) (fun j hj=>step j (by omega) (hg j hj)) (bk ?_))))
    have e1:Int.toNat (((l.length:Nat):Int)-1-(k:Nat))=l.length-1-k:=by omega
    have e2:Int.toNat (((l.length:Nat):Int)-1-(k:Nat)-1)=l.length-2-k:=by omega
    unfold ou
    rw [e1,e2,apc (hw _) (hf _ (by omega)),hbt]
    exact (bT (ap (ap (ap (ap (ap (aj (aZ rfl))))))))
def avh(A V Z:List Nat)(n:Nat) :Bool:=atH V&&(gOK Z n n n n&&rOK A Z Z V n n n (DS A) n n)
structure avi (A V Z:List Nat) (n:Nat):Prop where
  hn:n≤512
  fit:Gu A Z Z V n n n
theorem arG{A V Z:List Nat}{n:Nat}(h:avi A V Z n) :iZ (n:Int) (n:Int) A V (n:Int) (n:Int) Z=some (.r0 (avh A V Z n) 0):=by
  have hn:=h.hn
  have f:=h.fit
  have bA:=f.bA
  have bX:=f.bX
  have bV:=f.bV
  have mA:=An hn hn f.hA
  have mZ:=An hn hn f.hX
  have hV:((V.length:Nat):Int)=(n:Int):=by rw [f.hV]
  obtain ⟨k1,a1,a2⟩:=IT f.wA f.fA (by omega)
  obtain ⟨k2,b1,b2⟩:=IT f.wX f.fX (by omega)
  obtain ⟨k3,c1,c2⟩:=IT f.wV f.fV (by omega)
  obtain ⟨B,d1,d2,d3⟩:=PS hn hn
  obtain ⟨S,s1,s2,s3⟩:=Uz f.wA mA (hH.2 f.fA)
  have hS:=arC f.wA f.fA (by omega)
  have t8:(K1 (n:Int) (n:Int) A V (n:Int) (n:Int) Z).run=some (.inl ()):=by
    unfold K1
    rw [aw,aw,aw,oQ,oQ,mA,mZ,a1,b1,c1]
    exact (aZ (aj (aB (aj (aI (aj (aZ (aj (aB (aj (aI (aj (aI (aI (cV (by rw [bne_self_eq_false]) (cV (by rw [hV,bne_self_eq_false]) (cV (by simp) (aZ (aj (aB (aj (cV a2 (aj (aZ (aj (aB (aj (cV b2 (aj (aZ (aj (aB (aj (cV c2 (aj (aI rfl))))))))))))))))))))))))))))))))))))
  have t9:(K2 V).run=some (.inl (!(atH V))):=by
    unfold K2
    rw [aw,apd f.wV f.fV (by omega)]
    exact (aB (aj rfl))
  unfold avh
  cases hsrt:atH V
  · rw [hsrt] at t9
    exact bb (ai t8 (ai t9 (bk (aZ rfl))))
  · rw [hsrt] at t9
    have p1:=atF (m:=n) (n:=n) f.wX f.fX f.hX hn hn hn hn
    have p2:=atG (m:=n) (n:=n) f rfl hS hn hn
    refine bb (ai t8 (ai t9 (ai (a:=(0,nS (bI n n),aA (nM (bI n n)) B,0,nl (nM (bI n n)),nE (bI n n) (-106))) ?_ (ai (a:=(0,nS (DS A),aA (nM (DS A)) S,0,nl (nM (DS A)),nE (DS A) (-2148))) ?_ (ai (a:=false) (aI rfl) (ai (a:=(gOK Z n n n n&&rOK A Z Z V n n n (DS A) n n,0)) ?_ rfl))))))
    · show (In _ _).run=_
      unfold In
      rw [d1]
      exact (aI (aj rfl))
    · show (Io _ _ _).run=_
      unfold Io
      rw [aw,s1]
      exact (aB (aj rfl))
    · show (Ip _ _ _ _ _ _ _ _ _ _ _ _ _ _ _ _ _ _ _ _).run=_
      unfold Ip
      rw [aw,aw,aw,bM d2,bM s2,p1,p2]
      simp only [sN,tU,ng,s8,tV,nh]
      cases gOK Z n n n n
      · exact (aI (aZ (aj (aB (bW (aX d2) (aj (aZ rfl)))))))
      · cases rOK A Z Z V n n n (DS A) n n
        · exact (aI (aZ (aj (aB (bW (aX d2) (aj (aI (aI (aj (aZ (aj (aB (aB (aB (bW (aX d2) (bW (aX s2) (aj (aZ rfl))))))))))))))))))
        · exact (aI (aZ (aj (aB (bW (aX d2) (aj (aI (aI (aj (aZ (aj (aB (aB (aB (bW (aX d2) (bW (aX s2) (aj (aI (aI (aj (aI rfl)))))))))))))))))))))
theorem X2{x b e f:Int}{k:Nat}(hx:Sm x e)(he:f=e+k)(hm:Sm (b*P2 k) e) :
    iT (nS x) (aA (nM x) (nl (nM x))) (nE x e) (nS b) (aA (nM b) (nl (nM b))) (nE b f)=some (.r0 (decide (x≤b*P2 k))):=by
  obtain ⟨q1,q2,q3⟩:=asl b k e
  rw [←he] at q3
  rw [q1,q2,q3]
  exact aty hx hm
def kA:List Nat:=[4611686018427387904,0,0,4613937818241073152]
def kI:List Nat:=[4607182418800017408,0,0,4607182418800017408]
theorem ape{l:List Nat}(h:∀ x,x∈l→x<PT) :Wd l:=by
  intro i
  rw [List.getD_eq_getElem?_getD]
  cases q:l[i]? with
  | none=>decide
  | some x=>exact h x (List.mem_of_getElem? q)
theorem apf{l:List Nat}(h:∀ x,x∈l→vv x=true) :Fn l:=by
  intro i hi
  rw [List.getD_eq_getElem?_getD]
  cases q:l[i]? with
  | none=>rw [List.getElem?_eq_none_iff] at q;omega
  | some x=>exact h x (List.mem_of_getElem? q)
theorem awN{V:List Nat}(hV:V.length=2)(wV:∀ x,x∈V→x<PT)(fV:∀ x,x∈V→vv x=true) :avi kA V kI 2 :=
  ⟨by omega,rfl,rfl,rfl,hV,by omega,by omega,by omega,ape (by decide),ape (by decide),ape (by decide),ape wV,apf (by decide),apf (by decide),apf (by decide),apf fV⟩
theorem axp:qU 2=some (.r0 2 4 kI):=by
  refine bb (ai (a:=(4,[0,0,0,0])) (aj (aj (aj (aj (aj rfl))))) (ai (a:=kI) (bL (fun j=>(j,bif Nat.beq j 0 then [0,0,0,0] else bif Nat.beq j 1 then [4607182418800017408,0,0,0] else kI)) 2 rfl (fun j hj=>?_) ?_) rfl))
  · have:j=0∨j=1:=by omega
    rcases this with rfl | rfl
    · exact (aZ (aj (aj (aj (aj (aj rfl))))))
    · exact (aZ (aj (aj (aj (aj (aj rfl))))))
  · exact (aI rfl)
theorem kx:avh kA [4611686018427387904,4613937818241073152] kI 2=true:=by decide +kernel
theorem ky:avh kA [4613937818241073152,4611686018427387904] kI 2=false:=by decide +kernel
theorem kz:avh kA [4611686018427387904,4613940070040886837] kI 2=false:=by decide +kernel
theorem ksz:DS [4613937818241073152,4616189618054758400]=25*P2 2148:=by decide +kernel
theorem awO{v:Nat}(h0:v≠0)(h:v<W) :nl v=1:=by
  have h1:=i6 (n:=1) (by rw [Nat.pow_one];exact h)
  have h2:=zt h0
  omega
theorem kb:nS (bI 1 1)=false∧nM (bI 1 1)=1∧nE (bI 1 1) (-106) = -94:=by
  have e:bI 1 1=4096:=by decide
  have t:tz 4096=12:=LS (by decide) (by decide)
  rw [e]
  refine ⟨by decide,?_,?_⟩
  · show 4096/2^tz 4096=1
    rw [t]
  · rw [iU (by decide)]
    show -106+((tz 4096:Nat):Int) = -94
    rw [t];rfl
theorem arH:kK=some (.r0 true):=by
  have fx:=awN (V:=[4611686018427387904,4613937818241073152]) rfl (by decide) (by decide)
  have fy:=awN (V:=[4613937818241073152,4611686018427387904]) rfl (by decide) (by decide)
  have fz':=awN (V:=[4611686018427387904,4613940070040886837]) rfl (by decide) (by decide)
  have sx:=arG fx
  have sy:=arG fy
  have sz:=arG fz'
  rw [kx] at sx
  rw [ky] at sy
  rw [kz] at sz
  obtain ⟨B,b1,b2,b3⟩:=PS (m:=1) (n:=1) (by omega) (by omega)
  obtain ⟨S,s1,s2,s3⟩:=Uz (r:=1) (c:=2) (l:=[4613937818241073152,4616189618054758400]) (ape (by decide)) (by decide) (hH.2 (apf (by decide)))
  obtain ⟨k1,k2,k3⟩:=kb
  obtain ⟨q1,q2,q3⟩:=asl 25 2148 (-2148)
  have q4:DS [4613937818241073152,4616189618054758400]=25*((2^2148:Nat):Int):=ksz
  rw [←q4] at q1 q2 q3
  rw [show (-2148:Int)+((2148:Nat):Int)=0 by omega] at q3
  rw [←q1,←q2,←q3] at s1
  rw [←q2] at s2
  have w1:=zm (n:=25) (by omega)
  have h1:nV (-94)=some (.r0 0 false 1 (-94) [1]):=rfl
  have one1:aA 1 (nl 1)=[(1:Int)]:=by rw [awO (by decide) (by decide)];rfl
  have m25:nl (nM (25:Int))≤1:=Nat.le_trans av8 (i6 (by decide))
  refine bb (ai (a:=(2,4,kA,kI)) ?_ (ai (a:=(true,0)) ?_ (ai (a:=(false,0)) ?_ (ai (a:=(false,0)) ?_ (ai (a:=(0,nS (bI 1 1),aA (nM (bI 1 1)) B,0,nl (nM (bI 1 1)),nE (bI 1 1) (-106))) ?_ (ai (a:=(false,[1],1,-94)) ?_ (ai (a:=(0,nS 25,aA (nM 25) S,0,nl (nM 25),nE 25 0)) ?_ (ai (a:=true) ?_ rfl))))))))
  · unfold I6
    rw [axp]
    exact (aj rfl)
  · show (zU _ _ _ _).run=_
    unfold zU
    have sx':iZ 2 2 (ab 0 4 kA) (ab 0 2 [4611686018427387904,4613937818241073152]) 2 2 (ab 0 4 kI)=some (.r0 true 0):=sx
    rw [sx']
    exact (aj (aj (aj (aj rfl))))
  · show (zV _ _ _ _).run=_
    unfold zV
    have sx':iZ 2 2 (ab 0 4 kA) (ab 0 2 [4613937818241073152,4611686018427387904]) 2 2 (ab 0 4 kI)=some (.r0 false 0):=sy
    rw [sx']
    exact (aj (aj (aj (aj rfl))))
  · show (zW _ _ _ _).run=_
    unfold zW
    have sx':iZ 2 2 (ab 0 4 kA) (ab 0 2 [4611686018427387904,4613940070040886837]) 2 2 (ab 0 4 kI)=some (.r0 false 0):=sz
    rw [sx']
    exact (aj (aj (aj (aj rfl))))
  · show zX.run=_
    have b1':cv 1 1=_:=b1
    unfold zX
    rw [b1']
    exact (aj rfl)
  · show zY.run=_
    unfold zY
    rw [h1]
    exact (aj rfl)
  · show zZ.run=_
    have s1':cY 1 2 (ab 0 2 [4613937818241073152,4616189618054758400])=_:=s1
    unfold zZ
    rw [s1']
    exact (aj (aj rfl))
  · show (z4 _ _ _ _ _ _ _ _ _ _ _ _ _ _ _ _ _ _ _ _ _ _).run=_
    unfold z4
    have w1':aF 25=some (.r0 (nS 25) (aA (nM 25) (nl (nM 25))) (nl (nM 25)) (nE 25 0)):=w1
    have c1:ab 0 1 [(1:Int)]=[1]:=rfl
    have l1:aA 1 1=[(1:Int)]:=rfl
    rw [bM b2,k1,k2,k3,one1,c1,w1']
    simp only [eR,cJ,co,cp,cK]
    rw [bM s2,bf aq,ahM (nS 25) (nE 25 0) (n:=nl (nM 25)) (by omega),←l1,ahM false (-94) (by omega)]
    refine (aZ (aZ (aZ (aZ (aZ (aZ (aZ (aZ (bW (aX (by rw [k2] at b2;exact b2)) (aj (aj (aZ (aj (bW (aX s2) (bH (aj rfl))))))))))))))))
def tv(A:List Nat)(r c p:Nat) :Nat:=A.getD ((p%r)*c+p/r) 0
theorem awg{A:List Nat}{r c i k:Nat}(h:i<r) :tv A r c (k*r+i)=A.getD (i*c+k) 0:=by
  obtain ⟨q1,q2⟩:=pq (i:=k) h
  unfold tv;rw [q1,q2]
theorem awP{f:Nat→Nat}{n:Nat} :List.take n (eY f n)++List.take 1 [f n]=eY f (n+1):=as2
theorem apg{A:List Nat}{r c:Nat}(hl:A.length=r*c)(hr:r≤512)(hc:c≤512) :
    me (r:Int) (c:Int) A=some (.r0 0 (c:Int) (r:Int) (c*r) (c*r) (eY (tv A r c) (c*r))):=by
  have hb:r*c≤512*512:=Nat.mul_le_mul hr hc
  have m:=An hr hc hl
  refine bb (ai (a:=false) ?_ (ai (a:=()) rfl (ai (a:=(c*r,c*r,eY (tv A r c) (c*r))) (bL (fun k=>(k,k*r,k*r,eY (tv A r c) (k*r))) c (by rw [Nat.zero_mul];rfl) (fun k hk=>?_) ?_) rfl)))
  · unfold I7
    rw [aw,oQ,m]
    exact (aZ (aj (aB (aj (aI (aj (aI rfl)))))))
  · show aC (z7 _ _ _ _ _).run _=_
    have hnx:(k+1)*r=k*r+r:=by rw [Nat.add_mul,Nat.one_mul]
    have hkr:k*r≤512*512:=Nat.mul_le_mul (by omega) hr
    refine ai (a:=()) (bT rfl) (ai (a:=((k+1)*r,(k+1)*r,eY (tv A r c) ((k+1)*r))) (vo (ai (a:=()) rfl (ai (a:=(k*r+r,k*r+r,eY (tv A r c) (k*r+r))) (bL (fun i=>(i,k*r+i,k*r+i,eY (tv A r c) (k*r+i))) r rfl (fun i hi=>?_) ?_) (by rw [hnx];rfl)))) (ap rfl))
    · have hlt:i*c+k<A.length:=by rw [hl];exact un hi hk
      show (z9 _ _ _ _ _ _ _ _).run=_
      unfold z9
      rw [A7,A8,ch,←awg hi,awP,dS]
      exact (bT (ap (ap (ap (ap (ap (ap (aj (ap (ap rfl))))))))))
    · exact ct rfl
  · show aC (z7 _ _ _ _ _).run _=_
    exact bk (ct rfl)
def tf(A:List Nat)(r c i k:Nat) :List Nat:=eY (fun p=>if p%r<i∨(p%r=i∧p/r<k) then tv A r c p else 0) (c*r)
theorem awQ{A:List Nat}{r c i k:Nat}(hi:i<r)(hk:k<c) :(tf A r c i k).set (k*r+i) (A.getD (i*c+k) 0)=tf A r c i (k+1):=by
  obtain ⟨q1,q2⟩:=pq (i:=k) hi
  unfold tf
  rw [ru (un hk hi)]
  refine cE fun p _=>?_
  by_cases e:p=k*r+i
  · rw [if_pos e,e,if_pos (.inr ⟨q2,by rw [q1];omega⟩),awg hi]
  · rw [if_neg e]
    by_cases h1:p%r<i∨(p%r=i∧p/r<k)
    · rw [if_pos h1,if_pos (by rcases h1 with q | ⟨q,w⟩;exact .inl q;exact .inr ⟨q,by omega⟩)]
    · rw [if_neg h1,if_neg]
      intro h2
      apply h1
      rcases h2 with q | ⟨q,w⟩
      · exact .inl q
      · refine .inr ⟨q,?_⟩
        rcases Nat.lt_or_ge (p/r) k with z | z
        · exact z
        · exfalso;apply e
          have e1:p/r=k:=by omega
          have e2:=Nat.div_add_mod p r
          rw [e1,q,Nat.mul_comm] at e2
          exact e2.symm
theorem avR{A:List Nat}{r c i:Nat} :tf A r c i c=tf A r c (i+1) 0:=by
  refine cE fun p hp=>?_
  have h2:p/r<c:=Nat.div_lt_of_lt_mul (by rw [Nat.mul_comm];exact hp)
  by_cases h:p%r<i+1
  · have h1:p%r<i∨(p%r=i∧p/r<c):=by
      by_cases q:p%r<i
      · exact .inl q
      · exact .inr ⟨by omega,h2⟩
    rw [if_pos h1,if_pos (.inl h)]
  · rw [if_neg (by intro h1;rcases h1 with q | ⟨q,_⟩<;>omega),if_neg (by intro h1;rcases h1 with q | ⟨q,w⟩;exact h q;exact Nat.not_lt_zero _ w)]
theorem alS{A:List Nat}{r c:Nat}(hl:A.length=r*c)(hr:r≤512)(hc:c≤512) :
    bi (r:Int) (c:Int) A=some (.r0 (c:Int) (r:Int) (c*r) (eY (tv A r c) (c*r))):=by
  have hb:r*c≤512*512:=Nat.mul_le_mul hr hc
  have hl':A.length=c*r:=by rw [hl,Nat.mul_comm]
  have e0:tf A r c 0 0=List.replicate A.length 0:=by
    rw [pz,hl']
    exact cE fun p _=>if_neg (by intro h;rcases h with q | ⟨_,q⟩;exact Nat.not_lt_zero _ q;exact Nat.not_lt_zero _ q)
  have en:tf A r c r 0=eY (tv A r c) (c*r):=by
    refine cE fun p hp=>if_pos (.inl (Nat.mod_lt _ ?_))
    rcases Nat.eq_zero_or_pos r with q | q
    · subst q;omega
    · exact q
  have tl:∀ i k,(tf A r c i k).length=A.length:=fun i k=>by rw [hl'];exact dS
  refine bb (ai (a:=tf A r c 0 0) ?_ (ai (a:=tf A r c r 0) (bL (fun i=>(i,tf A r c i 0)) r rfl (fun i hi=>?_) ?_) (by rw [en,←hl'];rfl)))
  · unfold Ge
    rw [e0]
    exact (ap (ap (ap (ap rfl))))
  · show aC (xW _ _ _).run _=_
    refine ai (a:=()) (bT rfl) (ai (a:=tf A r c (i+1) 0) (vo (ai (a:=()) rfl (ai (a:=tf A r c i c) (bL (fun k=>(k,tf A r c i k)) c rfl (fun k hk=>?_) ?_) (by rw [←avR];rfl)))) (ap rfl))
    · have h1:i*c+k<r*c:=un hi hk
      have h2:k*r+i<c*r:=un hk hi
      have h2':k*r+i<A.length:=by rw [hl'];exact h2
      show (xY _ _ _ _ _ _).run=_
      unfold xY
      rw [A7,A7,A8,A8,ch,ch,awQ hi hk,tl]
      rw [hl] at h2' ⊢
      exact (bT (ap (ap (ap (ap (ap (ap (ap (ap (ap rfl))))))))))
    · exact ct rfl
  · show aC (xW _ _ _).run _=_
    exact bk (ct rfl)
theorem awR(a b:Int) :(some (compare a b)==some Ordering.gt)=(some (compare b a)==some Ordering.lt):=by
  rw [←Int.compare_swap b a]
  cases compare b a<;>rfl
theorem asz(x y:Nat) :fgt x y=flt y x:=by
  unfold fgt flt w9 Ieee.Format.order
  generalize FloatKind.f64.format.read x=a
  generalize FloatKind.f64.format.read y=b
  cases a with
  | nan=>cases b<;>rfl
  | infinity s =>
    cases b with
    | nan=>rfl
    | infinity t=>cases s<;>cases t<;>rfl
    | number t n j=>cases s<;>rfl
  | number s m i =>
    cases b with
    | nan=>rfl
    | infinity t=>cases t<;>rfl
    | number t n j =>
      show (some (compare _ _)==some Ordering.gt)=(some (compare _ _)==some Ordering.lt)
      rw [Int.min_comm j i]
      exact awR _ _
def ahQ(S:List Nat)(j:Nat) :Prop:=flt (S.getD j 0) 0=false∧(j=0∨flt (S.getD (j-1) 0) (S.getD j 0)=false)
instance (S:List Nat):DecidablePred (ahQ S):=fun j=>inferInstanceAs (Decidable (_∧_))
def aph(S:List Nat) :Bool:=decide (∀ j,j<S.length→ahQ S j)
theorem L8{S:List Nat}{j:Nat}(hS:S.length≤512)(hj:j<S.length)(h:ahQ S j) :wt S j=some (.inl (j+1))∧tu S j=some (.inl (j+1)):=by
  have e1:Int.toNat (((j:Nat):Int)-1)=j-1:=by omega
  obtain ⟨h1,h2⟩:=h
  constructor
  · show aC (ws _ _).run _=_
    refine ai (a:=()) ?_ (ap rfl)
    unfold ws
    rw [e1]
    by_cases q:j=0
    · exact (bT (ap (ap (cV h1 (ct rfl)))))
    · have h3:flt (S.getD (j-1) 0) (S.getD j 0)=false:=by rcases h2 with z | z;exact absurd z q;exact z
      exact (bT (ap (ap (cV h1 (bT (ap (ap (ap (cV h3 rfl)))))))))
  · show aC (tq _ _).run _=_
    refine ai (a:=()) ?_ (ap rfl)
    unfold tq
    rw [e1,asz]
    by_cases q:j=0
    · exact (bT (ap (ap (cV h1 (ct rfl)))))
    · have h3:flt (S.getD (j-1) 0) (S.getD j 0)=false:=by rcases h2 with z | z;exact absurd z q;exact z
      exact (bT (ap (ap (cV h1 (bT (ap (ap (ap (ap (ap (cV h3 rfl)))))))))))
theorem api{S:List Nat}{j:Nat}(hS:S.length≤512)(hj:j<S.length)(h : ¬ ahQ S j) :wt S j=some (.inr (.inr (.r0 false 0)))∧tu S j=some (.inr (.inr (.r0 false))):=by
  have e1:Int.toNat (((j:Nat):Int)-1)=j-1:=by omega
  by_cases h1:flt (S.getD j 0) 0=true
  · constructor
    · refine bk ?_
      unfold ws
      exact (bT (ap (ap (jh h1 rfl))))
    · refine bk ?_
      unfold tq
      exact (bT (ap (ap (jh h1 rfl))))
  · have h1':flt (S.getD j 0) 0=false:=by revert h1;cases flt (S.getD j 0) 0<;>simp
    have q:j≠0:=fun z=>h ⟨h1',.inl z⟩
    have h3:flt (S.getD (j-1) 0) (S.getD j 0)=true:=by
      cases z:flt (S.getD (j-1) 0) (S.getD j 0)
      · exact absurd ⟨h1',.inr z⟩ h
      · rfl
    constructor
    · refine bk ?_
      unfold ws
      rw [e1]
      exact (bT (ap (ap (cV h1' (bT (ap (ap (ap (jh h3 rfl)))))))))
    · refine bk ?_
      unfold tq
      rw [e1,asz]
      exact (bT (ap (ap (cV h1' (bT (ap (ap (ap (ap (ap (jh h3 rfl)))))))))))
def avS(mA mU mV g1 g2 g3 fA fS fU fV:Bool) :Nat:=bif mA&&(mU&&mV) then (bif g1||(g2||g3) then 8 else bif fA&&(fS&&(fU&&fV)) then 0 else 10) else 2
def axq:Nat→Unit⊕eh
  | 0=>.inl ()
  | n+1=>.inr (.r0 false ((n+1:Nat):Int))
noncomputable def UB(a0 a1:Int)(A S:List Nat)(u0 u1:Int)(U:List Nat)(v0 v1:Int)(V:List Nat) :Nat :=
  avS (Gt a0 a1 A.length) (Gt u0 u1 U.length) (Gt v0 v1 V.length) (((S.length:Nat):Int) != ke a0 a1) (!(u0==a0&&u1==ke a0 a1)) (!(v0==a1&&v1==ke a0 a1)) (Jh A) (Jh S) (Jh U) (Jh V)
section
variable {a0 a1 u0 u1 v0 v1 : Int} {A S U V : List Nat}
theorem asA(wA:Wd A)(wS:Wd S)(wU:Wd U)(wV:Wd V)(lA:A.length≤1000000)(lS:S.length≤1000000)(lU:U.length≤1000000)(lV:V.length≤1000000) :
    (IE a0 a1 A S u0 u1 U v0 v1 V).run=some (axq (UB a0 a1 A S u0 u1 U v0 v1 V)):=by
  obtain ⟨k1,i1,j1⟩:=CT wA (by omega)
  obtain ⟨k2,i2,j2⟩:=CT wS (by omega)
  obtain ⟨k3,i3,j3⟩:=CT wU (by omega)
  obtain ⟨k4,i4,j4⟩:=CT wV (by omega)
  unfold IE UB
  rw [aw,aw,aw,aw,oQ,oQ,oQ,i1,i2,i3,i4]
  generalize (((S.length:Nat):Int) != ke a0 a1)=g1
  generalize (!(u0==a0&&u1==ke a0 a1))=g2
  generalize (!(v0==a1&&v1==ke a0 a1))=g3
  cases Gt a0 a1 A.length
  · exact (aZ (aj (aB (aj (aZ (aZ rfl))))))
  cases Gt u0 u1 U.length
  · exact (aZ (aj (aB (aj (aI (aj (aZ (aj (aB (aj (aZ (aZ rfl))))))))))))
  cases Gt v0 v1 V.length
  · exact (aZ (aj (aB (aj (aI (aj (aZ (aj (aB (aj (aI (aj (aZ (aj (aB (aj (aZ (aZ rfl))))))))))))))))))
  rcases Bool.eq_false_or_eq_true g1 with rfl | rfl
  · exact (aZ (aj (aB (aj (aI (aj (aZ (aj (aB (aj (aI (aj (aZ (aj (aB (aj (aI (aj (aI (aI (aZ rfl)))))))))))))))))))))
  rcases Bool.eq_false_or_eq_true g2 with rfl | rfl
  · exact (aZ (aj (aB (aj (aI (aj (aZ (aj (aB (aj (aI (aj (aZ (aj (aB (aj (aI (aj (aI (aI (aI (aZ rfl))))))))))))))))))))))
  rcases Bool.eq_false_or_eq_true g3 with rfl | rfl
  · exact (aZ (aj (aB (aj (aI (aj (aZ (aj (aB (aj (aI (aj (aZ (aj (aB (aj (aI (aj (aI (aI (aI (aI (aZ rfl)))))))))))))))))))))))
  revert j1;cases Jh A<;>intro j1
  · exact (aZ (aj (aB (aj (aI (aj (aZ (aj (aB (aj (aI (aj (aZ (aj (aB (aj (aI (aj (aI (aI (aI (aI (aI (aZ (aj (aB (aj (jh j1 rfl))))))))))))))))))))))))))))
  revert j2;cases Jh S<;>intro j2
  · exact (aZ (aj (aB (aj (aI (aj (aZ (aj (aB (aj (aI (aj (aZ (aj (aB (aj (aI (aj (aI (aI (aI (aI (aI (aZ (aj (aB (aj (cV j1 (aj (aZ (aj (aB (aj (jh j2 rfl))))))))))))))))))))))))))))))))))
  revert j3;cases Jh U<;>intro j3
  · exact (aZ (aj (aB (aj (aI (aj (aZ (aj (aB (aj (aI (aj (aZ (aj (aB (aj (aI (aj (aI (aI (aI (aI (aI (aZ (aj (aB (aj (cV j1 (aj (aZ (aj (aB (aj (cV j2 (aj (aZ (aj (aB (aj (jh j3 rfl))))))))))))))))))))))))))))))))))))))))
  revert j4;cases Jh V<;>intro j4
  · exact (aZ (aj (aB (aj (aI (aj (aZ (aj (aB (aj (aI (aj (aZ (aj (aB (aj (aI (aj (aI (aI (aI (aI (aI (aZ (aj (aB (aj (cV j1 (aj (aZ (aj (aB (aj (cV j2 (aj (aZ (aj (aB (aj (cV j3 (aj (aZ (aj (aB (aj (jh j4 rfl))))))))))))))))))))))))))))))))))))))))))))))
  · exact (aZ (aj (aB (aj (aI (aj (aZ (aj (aB (aj (aI (aj (aZ (aj (aB (aj (aI (aj (aI (aI (aI (aI (aI (aZ (aj (aB (aj (cV j1 (aj (aZ (aj (aB (aj (cV j2 (aj (aZ (aj (aB (aj (cV j3 (aj (aZ (aj (aB (aj (cV j4 (aj (aI rfl))))))))))))))))))))))))))))))))))))))))))))))))
theorem avT(wA:Wd A)(wS:Wd S)(wU:Wd U)(wV:Wd V)(lA:A.length≤1000000)(lS:S.length≤1000000)(lU:U.length≤1000000)(lV:V.length≤1000000)(h:UB a0 a1 A S u0 u1 U v0 v1 V≠0) :
    uM a0 a1 A S u0 u1 U v0 v1 V=some (.r0 false ((UB a0 a1 A S u0 u1 U v0 v1 V:Nat):Int)):=by
  have t:=asA (a0:=a0) (a1:=a1) (u0:=u0) (u1:=u1) (v0:=v0) (v1:=v1) wA wS wU wV lA lS lU lV
  revert t h
  cases UB a0 a1 A S u0 u1 U v0 v1 V with
  | zero=>intro h;exact absurd rfl h
  | succ n=>intro _ t;exact bb (bk t)
theorem alT(wA:Wd A)(wS:Wd S)(wU:Wd U)(wV:Wd V)(lA:A.length≤1000000)(lS:S.length≤1000000)(lU:U.length≤1000000)(lV:V.length≤1000000) :
    oP a0 a1 A S u0 u1 U v0 v1 V=some (.r0 (UB a0 a1 A S u0 u1 U v0 v1 V)):=by
  have fA:=L6 wA (by omega)
  have fS:=L6 wS (by omega)
  have fU:=L6 wU (by omega)
  have fV:=L6 wV (by omega)
  have t6:(wu a0 a1 A u0 u1 U v0 v1 V).run=some (.inl (!(Gt a0 a1 A.length&&(Gt u0 u1 U.length&&Gt v0 v1 V.length)))):=by
    unfold wu
    rw [aw,aw,aw,PR,PR,PR]
    cases Gt a0 a1 A.length
    · exact (aB (aj (aZ rfl)))
    cases Gt u0 u1 U.length
    · exact (aB (aj (aI (aB (aj (aZ rfl))))))
    · exact (aB (aj (aI (aB (aj (aI (aB (aj rfl))))))))
  unfold UB
  cases hm:(Gt a0 a1 A.length&&(Gt u0 u1 U.length&&Gt v0 v1 V.length))
  · rw [hm] at t6
    unfold avS
    rw [hm]
    exact bb (ai t6 (bk (aZ rfl)))
  rw [hm] at t6
  have t7:(wv a0 a1 false).run=some (.inl (ke a0 a1)):=by
    unfold wv ke
    by_cases q:a1<a0
    · rw [if_pos q];exact aI (jh (decide_eq_true q) rfl)
    · rw [if_neg q];exact aI (cV (decide_eq_false q) rfl)
  have t8:(ww a0 a1 S u0 u1 v0 v1 (ke a0 a1)).run=some (.inl ((((S.length:Nat):Int) != ke a0 a1)||((!(u0==a0&&u1==ke a0 a1))||(!(v0==a1&&v1==ke a0 a1))))):=by
    unfold ww
    simp only [bne]
    generalize (((S.length:Nat):Int)==ke a0 a1)=g1
    generalize (u0==a0)=g2
    generalize (u1==ke a0 a1)=g3
    generalize (v0==a1)=g4
    generalize (v1==ke a0 a1)=g5
    cases g1<;>cases g2<;>cases g3<;>cases g4<;>cases g5<;>rfl
  refine bb (ai t6 (ai t7 (ai t8 ?_)))
  unfold avS
  rw [hm]
  generalize ((((S.length:Nat):Int) != ke a0 a1)||((!(u0==a0&&u1==ke a0 a1))||(!(v0==a1&&v1==ke a0 a1))))=g
  rcases Bool.eq_false_or_eq_true g with rfl | rfl
  · exact bk (aZ rfl)
  show aC (wx _ _ _ _ _).run _=_
  unfold wx
  rw [aw,aw,aw,aw,fA,fS,fU,fV]
  cases Jh A
  · exact ai (a:=true) (aI (aB (aj (aZ rfl)))) rfl
  cases Jh S
  · exact ai (a:=true) (aI (aB (aj (aI (aB (aj (aZ rfl))))))) rfl
  cases Jh U
  · exact ai (a:=true) (aI (aB (aj (aI (aB (aj (aI (aB (aj (aZ rfl)))))))))) rfl
  cases Jh V
  · exact ai (a:=true) (aI (aB (aj (aI (aB (aj (aI (aB (aj (aI (aB (aj rfl)))))))))))) rfl
  · exact ai (a:=false) (aI (aB (aj (aI (aB (aj (aI (aB (aj (aI (aB (aj rfl)))))))))))) rfl
end
def tr(A:List Nat)(r c:Nat) :List Nat:=eY (tv A r c) (c*r)
structure arI (A S U V:List Nat) (r c k:Nat):Prop where
  hk:k=min r c
  f1:Gu A V U S r c k
  f2:Gu (tr A r c) U V S c r k
theorem axh{A:List Nat}{r c p:Nat}(hl:A.length=r*c)(hp:p<c*r) :(p%r)*c+p/r<A.length:=by
  have hr:0<r:=by
    rcases Nat.eq_zero_or_pos r with q | q
    · subst q;omega
    · exact q
  rw [hl]
  exact un (Nat.mod_lt _ hr) (Nat.div_lt_of_lt_mul (by rw [Nat.mul_comm];exact hp))
theorem awS{A S U V:List Nat}{r c k:Nat}(f:Gu A V U S r c k) :Gu (tr A r c) U V S c r k:=by
  have hlen:(tr A r c).length=c*r:=dS
  have cn:∀ i,i<c*r→(tr A r c).getD i 0=tv A r c i:=fun i hi=>qA hi
  refine ⟨hlen,f.hY,f.hX,f.hV,f.hc,f.hr,f.hd,?_,f.wY,f.wX,f.wV,?_,f.fY,f.fX,f.fV⟩
  · intro i
    by_cases hi:i<c*r
    · rw [cn i hi];exact f.wA _
    · rw [List.getD_eq_getElem?_getD,List.getElem?_eq_none (by rw [hlen];omega)];decide
  · intro i hi
    rw [hlen] at hi
    rw [cn i hi]
    exact f.fA _ (axh f.hA hi)
theorem atI{mA mU mV g1 g2 g3 fA fS fU fV:Bool}(h:avS mA mU mV g1 g2 g3 fA fS fU fV=0) :(mA=true∧mU=true∧mV=true)∧(g1=false∧g2=false∧g3=false)∧(fA=true∧fS=true∧fU=true∧fV=true):=by
  revert h
  cases mA<;>cases mU<;>cases mV<;>first | (intro h;cases h;done) | skip
  cases g1<;>cases g2<;>cases g3<;>first | (intro h;cases h;done) | skip
  cases fA<;>cases fS<;>cases fU<;>cases fV<;>first | (intro h;cases h;done) | skip
  intro _;exact ⟨⟨rfl,rfl,rfl⟩,⟨rfl,rfl,rfl⟩,⟨rfl,rfl,rfl,rfl⟩⟩
theorem apj(r c:Nat) :ke (r:Int) (c:Int)=((min r c:Nat):Int):=by
  unfold ke
  split<;>omega
theorem avj{a0 a1 u0 u1 v0 v1:Int}{A S U V:List Nat}(wA:Wd A)(wS:Wd S)(wU:Wd U)(wV:Wd V)(h:UB a0 a1 A S u0 u1 U v0 v1 V=0) :
    ∃ r c k:Nat,a0=r∧a1=c∧u0=r∧u1=k∧v0=c∧v1=k∧arI A S U V r c k:=by
  obtain ⟨⟨m1,m2,m3⟩,⟨g1,g2,g3⟩,fA,fS,fU,fV⟩:=atI h
  obtain ⟨r,c,e1,e2,hr,hc,hl,_⟩:=X0 m1
  subst e1;subst e2
  rw [apj] at g1 g2 g3
  rw [bne_eq_false_iff_eq] at g1
  rw [Bool.not_eq_false',Bool.and_eq_true,beq_iff_eq,beq_iff_eq] at g2 g3
  obtain ⟨g2,g4⟩:=g2
  obtain ⟨g3,g5⟩:=g3
  subst g2;subst g4;subst g3;subst g5
  obtain ⟨p,q,e1,e2,_,hq,hU,_⟩:=X0 m2
  obtain ⟨p',q',e3,e4,_,_,hV,_⟩:=X0 m3
  have x1:p=r:=by omega
  have x2:q=min r c:=by omega
  have x3:p'=c:=by omega
  have x4:q'=min r c:=by omega
  rw [x1,x2] at hU
  rw [x3,x4] at hV
  have f:Gu A V U S r c (min r c):=⟨hl,hV,hU,by omega,hr,hc,by omega,wA,wV,wU,wS,hH.1 fA,hH.1 fV,hH.1 fU,hH.1 fS⟩
  exact ⟨r,c,min r c,rfl,rfl,rfl,rfl,rfl,rfl,rfl,f,awS f⟩
theorem ahR{l:List Nat}{r c m n:Nat}(hw:Wd l)(hf:Fn l)(hl:l.length=r*c)(hr:r≤512)(hc:c≤512)(hm:m≤512)(hn:n≤512) :
    n5 (r:Int) (c:Int) l (nS (bI m n)) (aA (nM (bI m n)) (nl (nM (bI m n)))) (nE (bI m n) (-106)) (nS 1) (aA (nM 1) (nl (nM 1))) (nE 1 0)=some (.r0 (gOK l r c m n) 0)
    ∧ n6 (r:Int) (c:Int) l (nS (bI m n)) (aA (nM (bI m n)) (nl (nM (bI m n)))) (nE (bI m n) (-106)) (nS 1) (aA (nM 1) (nl (nM 1))) (nE 1 0)=some (.r0 (gOK l r c m n) 0):=by
  obtain ⟨N,g1,g2,g3⟩:=ahN hw (An hr hc hl) (hH.2 hf)
  have hG:Sm (A6 l r c) (-4296):=hZ (acu hw hf hl hr hc (Nat.le_refl _)) (by omega) (by omega)
  have h1:Sm 1 0:=hZ (k:=1) (i6 (by decide)) (by omega) (by omega)
  have hb1:bI m n*1=bI m n:=Int.mul_one _
  have hmul:Sm (bI m n*1*P2 4190) (-4296):=by rw [hb1];exact asx hm hn
  have b1:=IU (k:=4190) hG (apb hm hn) h1 (by omega) hmul
  rw [hb1] at b1
  have b1':cw (nS (A6 l r c)) (aA (nM (A6 l r c)) (nl (nM (A6 l r c)))) (nE (A6 l r c) (-4296)) ((0:Nat):Int) (nS (bI m n)) (aA (nM (bI m n)) (nl (nM (bI m n)))) (nE (bI m n) (-106)) (nS 1) (aA (nM 1) (nl (nM 1))) (nE 1 0)=some (.r0 (gOK l r c m n) 0):=b1
  constructor
  · refine bb (ai (a:=(0,nS (A6 l r c),aA (nM (A6 l r c)) N,0,nl (nM (A6 l r c)),nE (A6 l r c) (-4296))) ?_ (ai (a:=(gOK l r c m n,0)) ?_ rfl))
    · unfold N0
      rw [aw,g1]
      exact (aB (aj rfl))
    · show (FF _ _ _ _ _ _ _ _ _ _ _ _).run=_
      unfold FF
      rw [bM g2,aw,aw,b1']
      exact (bW (aX g2) (aB (aB (aj rfl))))
  · refine bb (ai (a:=(0,nS (A6 l r c),aA (nM (A6 l r c)) N,0,nl (nM (A6 l r c)),nE (A6 l r c) (-4296))) ?_ (ai (a:=(gOK l r c m n,0)) ?_ rfl))
    · unfold N3
      rw [aw,g1]
      exact (aB (aj rfl))
    · show (FG _ _ _ _ _ _ _ _ _ _ _ _).run=_
      unfold FG
      rw [bM g2,aw,aw,b1']
      exact (bW (aX g2) (aB (aB (aj rfl))))
theorem ahS{A X Y V:List Nat}{r c d m n:Nat}{S:Int}(h:Gu A X Y V r c d)(hS:nl S.natAbs≤67)(hm:m≤512)(hn:n≤512) :
    n7 (r:Int) (c:Int) A (c:Int) (d:Int) X (r:Int) (d:Int) Y V (nS (bI m n)) (aA (nM (bI m n)) (nl (nM (bI m n)))) (nE (bI m n) (-106)) (nS S) (aA (nM S) (nl (nM S))) (nE S (-2148))=some (.r0 (rOK A X Y V r c d S m n) 0)
    ∧ n8 (r:Int) (c:Int) A (c:Int) (d:Int) X (r:Int) (d:Int) Y V (nS (bI m n)) (aA (nM (bI m n)) (nl (nM (bI m n)))) (nE (bI m n) (-106)) (nS S) (aA (nM S) (nl (nM S))) (nE S (-2148))=some (.r0 (rOK A X Y V r c d S m n) 0):=by
  obtain ⟨N,g1,g2,g3⟩:=apa h
  have hG:Sm (A9 A X Y V r c d) (-4296):=hZ (h.s (Nat.le_refl _)) (by omega) (by omega)
  have hSs:Sm S (-2148):=hZ hS (by omega) (by omega)
  have b1:=IU (k:=2042) hG (apb hm hn) hSs (by omega) (asy hm hn hS)
  have b1':cw (nS (A9 A X Y V r c d)) (aA (nM (A9 A X Y V r c d)) (nl (nM (A9 A X Y V r c d)))) (nE (A9 A X Y V r c d) (-4296)) ((0:Nat):Int) (nS (bI m n)) (aA (nM (bI m n)) (nl (nM (bI m n)))) (nE (bI m n) (-106)) (nS S) (aA (nM S) (nl (nM S))) (nE S (-2148))=some (.r0 (rOK A X Y V r c d S m n) 0):=b1
  constructor
  · refine bb (ai (a:=(0,nS (A9 A X Y V r c d),aA (nM (A9 A X Y V r c d)) N,0,nl (nM (A9 A X Y V r c d)),nE (A9 A X Y V r c d) (-4296))) ?_ (ai (a:=(rOK A X Y V r c d S m n,0)) ?_ rfl))
    · unfold N5
      rw [aw,aw,aw,aw,g1]
      exact (aB (aB (aB (aB (aj rfl)))))
    · show (FH _ _ _ _ _ _ _ _ _ _ _ _).run=_
      unfold FH
      rw [bM g2,aw,aw,b1']
      exact (bW (aX g2) (aB (aB (aj rfl))))
  · refine bb (ai (a:=(0,nS (A9 A X Y V r c d),aA (nM (A9 A X Y V r c d)) N,0,nl (nM (A9 A X Y V r c d)),nE (A9 A X Y V r c d) (-4296))) ?_ (ai (a:=(rOK A X Y V r c d S m n,0)) ?_ rfl))
    · unfold N7
      rw [aw,aw,aw,aw,g1]
      exact (aB (aB (aB (aB (aj rfl)))))
    · show (FI _ _ _ _ _ _ _ _ _ _ _ _).run=_
      unfold FI
      rw [bM g2,aw,aw,b1']
      exact (bW (aX g2) (aB (aB (aj rfl))))
noncomputable def atJ(A S U V:List Nat)(r c k:Nat) :Bool:=aph S&&(gOK U r k r c&&(gOK V c k r c&&(rOK A V U S r c k (DS A) r c&&rOK (tr A r c) U V S c r k (DS A) r c)))
theorem awT{A S U V:List Nat}{r c k:Nat}(h:arI A S U V r c k)(lA:A.length≤1000000) :
    uM (r:Int) (c:Int) A S (r:Int) (k:Int) U (c:Int) (k:Int) V=some (.r0 (atJ A S U V r c k) 0):=by
  have f:=h.f1
  have f2:=h.f2
  have hr:=f.hr
  have hc:=f.hc
  have hk:=f.hd
  have bA:=f.bA
  have bU:=f.bY
  have bV:=f.bX
  have bS:=f.bV
  have hz:UB (r:Int) (c:Int) A S (r:Int) (k:Int) U (c:Int) (k:Int) V=0:=by
    unfold UB
    rw [An hr hc f.hA,An hr hk f.hY,An hc hk f.hX,hH.2 f.fA,hH.2 f.fV,hH.2 f.fY,hH.2 f.fX,apj,←h.hk,f.hV,beq_self_eq_true,beq_self_eq_true,beq_self_eq_true,bne_self_eq_false]
    rfl
  have t15:=asA (a0:=(r:Int)) (a1:=(c:Int)) (u0:=(r:Int)) (u1:=(k:Int)) (v0:=(c:Int)) (v1:=(k:Int)) f.wA f.wV f.wY f.wX (by omega) (by omega) (by omega) (by omega)
  rw [hz] at t15
  obtain ⟨B,d1,d2,d3⟩:=PS hr hc
  obtain ⟨Z,s1,s2,s3⟩:=Uz f.wA (An hr hc f.hA) (hH.2 f.fA)
  obtain ⟨M,w1,w2,w3⟩:=DO (n:=1) (by omega)
  have w1':bo 1=some (.r0 (nS 1) (aA (nM 1) M) 0 (nl (nM 1)) (nE 1 0)):=w1
  have w2':nl (nM 1)≤M:=w2
  have hS:=arC f.wA f.fA (by omega)
  have tt:=apg f.hA hr hc
  have tl:(tr A r c).length=c*r:=dS
  unfold atJ
  by_cases hs:∀ j,j<S.length→ahQ S j
  · have hb:aph S=true:=decide_eq_true hs
    rw [hb]
    have p1:=(ahR (m:=r) (n:=c) f.wY f.fY f.hY hr hk hr hc).1
    have p2:=(ahR (m:=r) (n:=c) f.wX f.fX f.hX hc hk hr hc).2
    have p3:=(ahS (m:=r) (n:=c) f hS hr hc).1
    have p4:=(ahS (m:=r) (n:=c) f2 hS hr hc).2
    refine bb (ai t15 (ai (a:=()) rfl (ai (a:=()) (bL (fun j=>j) S.length rfl (fun j hj=>(L8 (by omega) hj (hs j hj)).1) (bk (ct rfl))) (ai (a:=(0,nS (bI r c),aA (nM (bI r c)) B,0,nl (nM (bI r c)),nE (bI r c) (-106))) ?_ (ai (a:=(0,nS (DS A),aA (nM (DS A)) Z,0,nl (nM (DS A)),nE (DS A) (-2148))) ?_ (ai (a:=false) (aI rfl) (ai (a:=((c:Int),(r:Int),tr A r c,c*r)) ?_ (ai (a:=(nS 1,aA (nM 1) M,0,nl (nM 1),nE 1 0)) ?_ (ai (a:=((gOK U r k r c&&(gOK V c k r c&&(rOK A V U S r c k (DS A) r c&&rOK (tr A r c) U V S c r k (DS A) r c))),0)) ?_ rfl)))))))))
    · show (IF _ _).run=_
      unfold IF
      rw [d1]
      exact (aj rfl)
    · show (IG _ _ _).run=_
      unfold IG
      rw [aw,s1]
      exact (aB (aj rfl))
    · show (IH _ _ _ _ _ _).run=_
      unfold IH
      rw [aw,tt]
      exact (aI (aB (aj rfl)))
    · show II.run=_
      unfold II
      rw [w1']
      exact (aj rfl)
    · show (IJ _ _ _ _ _ _ _ _ _ _ _ _ _ _ _ _ _ _ _ _ _ _ _ _ _ _ _ _ _).run=_
      unfold IJ
      rw [aw,aw,aw,aw,bM d2,bM s2,bM w2',bf tl,p1,p2,p3,p4]
      simp only [tk,ue,nj,tm,ug,nk,tn,ui,nm,tp,uk,nn]
      cases gOK U r k r c
      · exact (aZ (aj (aB (bW (aX d2) (bW (aX w2') (aj (aZ rfl)))))))
      cases gOK V c k r c
      · exact (aZ (aj (aB (bW (aX d2) (bW (aX w2') (aj (aI (aI (aj (aZ (aj (aB (bW (aX d2) (bW (aX w2') (aj (aZ rfl))))))))))))))))
      cases rOK A V U S r c k (DS A) r c
      · exact (aZ (aj (aB (bW (aX d2) (bW (aX w2') (aj (aI (aI (aj (aZ (aj (aB (bW (aX d2) (bW (aX w2') (aj (aI (aI (aj (aZ (aj (aB (aB (aB (aB (bW (aX d2) (bW (aX s2) (aj (aZ rfl))))))))))))))))))))))))))))
      cases rOK (tr A r c) U V S c r k (DS A) r c
      · exact (aZ (aj (aB (bW (aX d2) (bW (aX w2') (aj (aI (aI (aj (aZ (aj (aB (bW (aX d2) (bW (aX w2') (aj (aI (aI (aj (aZ (aj (aB (aB (aB (aB (bW (aX d2) (bW (aX s2) (aj (aI (aI (aj (aZ (aj (bW (yY tl) (aB (aB (aB (bW (aX d2) (bW (aX s2) (aj (aZ rfl))))))))))))))))))))))))))))))))))))))))
      · exact (aZ (aj (aB (bW (aX d2) (bW (aX w2') (aj (aI (aI (aj (aZ (aj (aB (bW (aX d2) (bW (aX w2') (aj (aI (aI (aj (aZ (aj (aB (aB (aB (aB (bW (aX d2) (bW (aX s2) (aj (aI (aI (aj (aZ (aj (bW (yY tl) (aB (aB (aB (bW (aX d2) (bW (aX s2) (aj (aI (aI (aj (aI rfl)))))))))))))))))))))))))))))))))))))))))))
  · obtain ⟨q,hq,hb,hg⟩:=uR hs
    have hB:aph S=false:=decide_eq_false hs
    rw [hB]
    exact bb (ai t15 (ai (a:=()) rfl (bk (bL (fun j=>j) q rfl (fun j hj=>(L8 (by omega) (by omega) (hg j hj)).1) (api (by omega) hq hb).1))))
theorem atK{A S U V:List Nat}{r c k:Nat}(h:arI A S U V r c k)(lA:A.length≤1000000) :
    zl (r:Int) (c:Int) A S (r:Int) (k:Int) U (c:Int) (k:Int) V=some (.r0 (atJ A S U V r c k)):=by
  have f:=h.f1
  have f2:=h.f2
  have hr:=f.hr
  have hc:=f.hc
  have hk:=f.hd
  have bA:=f.bA
  have bU:=f.bY
  have bV:=f.bX
  have bS:=f.bV
  have hS:=arC f.wA f.fA (by omega)
  unfold atJ
  by_cases hs:∀ j,j<S.length→ahQ S j
  · have hb:aph S=true:=decide_eq_true hs
    rw [hb]
    have tt:=alS f.hA hr hc
    have tl:(eY (tv A r c) (c*r)).length=c*r:=dS
    have b1:=ao9 hr hc
    have s1:=arD f.wA f.fA (by omega)
    have hSs:Sm (DS A) (-2148):=hZ hS (by omega) (by omega)
    have t1:=rn (apb hr hc) hSs
    have g1:=acv f.wY f.fY f.hY hr hk
    have g2:=acv f.wX f.fX f.hX hc hk
    have r1:=ahO f
    have r2:=ahO f2
    have hG1:Sm (A6 U r k) (-4296):=hZ (acu f.wY f.fY f.hY hr hk (Nat.le_refl _)) (by omega) (by omega)
    have hG2:Sm (A6 V c k) (-4296):=hZ (acu f.wX f.fX f.hX hc hk (Nat.le_refl _)) (by omega) (by omega)
    have hR1:Sm (A9 A V U S r c k) (-4296):=hZ (f.s (Nat.le_refl _)) (by omega) (by omega)
    have hR2:Sm (A9 (tr A r c) U V S c r k) (-4296):=hZ (f2.s (Nat.le_refl _)) (by omega) (by omega)
    have m1:=X2 (k:=4190) (f:=-106) hG1 (by omega) (asx hr hc)
    have m2:=X2 (k:=4190) (f:=-106) hG2 (by omega) (asx hr hc)
    have m3:=X2 (k:=2042) (f:=-106 + -2148) hR1 (by omega) (asy hr hc hS)
    have m4:=X2 (k:=2042) (f:=-106 + -2148) hR2 (by omega) (asy hr hc hS)
    refine bb (ai (a:=()) rfl (ai (a:=()) (bL (fun j=>j) S.length rfl (fun j hj=>(L8 (by omega) hj (hs j hj)).2) (bk (ct rfl))) (ai (a:=L7 (bI r c) (-106)) ?_ (ai (a:=L7 (bI r c*DS A) (-106 + -2148)) ?_ (ai (a:=(gOK U r k r c&&(gOK V c k r c&&(rOK A V U S r c k (DS A) r c&&rOK (tr A r c) U V S c r k (DS A) r c)))) ?_ rfl)))))
    · unfold N8
      rw [b1]
      exact (aj rfl)
    · show (FL _ _ _ _ _).run=_
      unfold FL
      rw [aw,s1]
      simp only [tg,jW,iM,iN,jX]
      rw [bf aq,bf aq,t1]
      exact (aB (aj (bH (bH (aj rfl)))))
    · show (FM _ _ _ _ _ _ _ _ _ _ _ _ _ _ _ _ _ _).run=_
      have r2':bE (r:Int) (eY (tv A r c) (c*r)) (k:Int) U (c:Int) (k:Int) V S=_:=r2
      unfold FM
      rw [aw,aw,aw,aw,tt]
      simp only [pV,wh,db,cT,cU]
      rw [bf tl,g1,g2,r1,r2']
      simp only [qa,lD,iR,iS,lE,lh,gV,eB,eC,gW]
      rw [bf aq,bf aq,bf aq,bf aq,bf aq,bf aq,m1,m2,m3,m4]
      cases hg1:gOK U r k r c
      · exact (aB (aj (bH (bH (aj (cV hg1 rfl))))))
      cases hg2:gOK V c k r c
      · exact (aB (aj (bH (bH (aj (jh hg1 (aB (aj (bH (bH (aj (cV hg2 rfl))))))))))))
      cases hg3:rOK A V U S r c k (DS A) r c
      · exact (aB (aj (bH (bH (aj (jh hg1 (aB (aj (bH (bH (aj (jh hg2 (aB (aB (aB (aB (aj (bH (bH (aj (cV hg3 rfl)))))))))))))))))))))
      · exact (aB (aj (bH (bH (aj (jh hg1 (aB (aj (bH (bH (aj (jh hg2 (aB (aB (aB (aB (aj (bH (bH (aj (jh hg3 (aB (aj (bW (yY tl) (aB (aB (aB (aj (bH (bH (aj rfl)))))))))))))))))))))))))))))))
  · obtain ⟨q,hq,hb,hg⟩:=uR hs
    have hB:aph S=false:=decide_eq_false hs
    rw [hB]
    exact bb (ai (a:=()) rfl (bk (bL (fun j=>j) q rfl (fun j hj=>(L8 (by omega) (by omega) (hg j hj)).2) (api (by omega) hq hb).2)))
theorem avU{a0 a1 u0 u1 v0 v1:Int}{A S U V:List Nat}(wA:Wd A)(wS:Wd S)(wU:Wd U)(wV:Wd V) :Am a0 a1 A S u0 u1 U v0 v1 V=some (.r0 true):=by
  have k:=arH
  have t9:(yd true).run=some (.inr (.r0 true)):=by
    unfold yd
    rw [k]
    exact (aZ (aj rfl))
  by_cases hA:A.length>36
  · exact bb (ai (a:=true) (aZ (aj (jh (by rw [decide_eq_true_eq];omega) rfl))) (bk t9))
  by_cases hU:U.length>36
  · exact bb (ai (a:=true) (aZ (aj (cV (by rw [decide_eq_false_iff_not];omega) (aj (aZ (aj (jh (by rw [decide_eq_true_eq];omega) rfl))))))) (bk t9))
  by_cases hV:V.length>36
  · exact bb (ai (a:=true) (aZ (aj (cV (by rw [decide_eq_false_iff_not];omega) (aj (aZ (aj (cV (by rw [decide_eq_false_iff_not];omega) (aj (aZ (aj (jh (by rw [decide_eq_true_eq];omega) rfl))))))))))) (bk t9))
  by_cases hS:S.length>36
  · refine bb (ai (a:=true) ?_ (bk t9))
    refine (aZ (aj (cV (by rw [decide_eq_false_iff_not];omega) (aj (aZ (aj (cV (by rw [decide_eq_false_iff_not];omega) (aj (aZ (aj (cV (by rw [decide_eq_false_iff_not];omega) (aj (aI ?_)))))))))))))
    show some (Sum.inl (decide _))=_
    rw [decide_eq_true (by omega)]
  have t8:(Gn A S U V).run=some (.inl false):=by
    refine (aZ (aj (cV (by rw [decide_eq_false_iff_not];omega) (aj (aZ (aj (cV (by rw [decide_eq_false_iff_not];omega) (aj (aZ (aj (cV (by rw [decide_eq_false_iff_not];omega) (aj (aI ?_)))))))))))))
    show some (Sum.inl (decide _))=_
    rw [decide_eq_false (by omega)]
  have w:=alT (a0:=a0) (a1:=a1) (u0:=u0) (u1:=u1) (v0:=v0) (v1:=v1) wA wS wU wV (by omega) (by omega) (by omega) (by omega)
  refine bb (ai t8 (ai (a:=()) rfl ?_))
  by_cases hc:UB a0 a1 A S u0 u1 U v0 v1 V=0
  · rw [hc] at w
    obtain ⟨r,c,p,rfl,rfl,rfl,rfl,rfl,rfl,h⟩:=avj wA wS wU wV hc
    have s:=awT h (by omega)
    have rs:=atK h (by omega)
    refine ai (a:=(atJ A S U V r c p,0)) ?_ (ai (a:=0) ?_ (ai (a:=()) (aI (aI rfl)) (ai (a:=true) ?_ rfl)))
    · unfold wy
      rw [aw,aw,aw,aw,s]
      exact (aB (aB (aB (aB (aj rfl)))))
    · show (n9 _ _ _ _ _ _ _ _ _ _).run=_
      unfold n9
      rw [aw,aw,aw,aw,w]
      exact (aB (aB (aB (aB (aj rfl)))))
    · show (wB _ _ _ _ _ _ _ _ _ _ _).run=_
      unfold wB
      rw [aw,aw,aw,aw,rs,k]
      exact (aB (aB (aB (aB (aj (jh (by cases atJ A S U V r c p<;>rfl) (aj rfl)))))))
  · have s:=avT wA wS wU wV (by omega) (by omega) (by omega) (by omega) hc
    refine ai (a:=(false,((UB a0 a1 A S u0 u1 U v0 v1 V:Nat):Int))) ?_ (ai (a:=UB a0 a1 A S u0 u1 U v0 v1 V) ?_ (bk ?_))
    · unfold wy
      rw [aw,aw,aw,aw,s]
      exact (aB (aB (aB (aB (aj rfl)))))
    · show (n9 _ _ _ _ _ _ _ _ _ _).run=_
      unfold n9
      rw [aw,aw,aw,aw,w]
      exact (aB (aB (aB (aB (aj rfl)))))
    · show (wz _ _ _).run=_
      unfold wz
      rw [k]
      exact (cV (by rw [bne_self_eq_false]) (jh (by rw [bne_iff_ne];omega) (aZ (aj rfl))))
end Go.Plb.Seat
