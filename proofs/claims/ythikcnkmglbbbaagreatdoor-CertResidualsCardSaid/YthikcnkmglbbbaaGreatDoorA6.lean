/-
  Part 6 of what the claim leans on: an evaluator of the model, proved sound; the contracts of the functions.
-/
import Derived.Test.YthikcnkmglbbbaaGreatDoorA5
namespace Go.Plb.Seat
open Go Go.Plb
set_option linter.unusedSimpArgs false
set_option linter.unusedVariables false
theorem pq{i k c:Nat}(h:k < c) :(i * c+k) / c=i∧(i * c+k) % c=k:=by
  have hc:0 < c:=by omega
  refine ⟨by rw [Nat.mul_comm,Nat.mul_add_div hc,Nat.div_eq_of_lt h,Nat.add_zero],?_⟩
  rw [Nat.mul_comm,Nat.mul_add_mod,Nat.mod_eq_of_lt h]
def aqk:Nat:=2 ^ 2148
def ahH:Int:=1 * ((aqk:Nat):Int)
theorem aql:nS 1=nS ahH∧nM 1=nM ahH∧nE 1 0=nE ahH (-2148):=by
  have h:=aos 1 2148 (-2148)
  rw [show (-2148:Int)+((2148:Nat):Int)=0 by omega] at h
  unfold ahH aqk
  exact h
theorem aqP(n:Nat) :W ^ n=2 ^ (64 * n):=by rw [Nat.pow_mul]
theorem aqm{a n:Nat}(h:a < 64 * n) :nl (2 ^ a)≤n:=ju (by rw [aqP];exact ap8 h)
theorem aoO:nl ahH.natAbs≤34:=by
  unfold ahH
  rw [Int.one_mul,Int.natAbs_natCast]
  unfold aqk
  exact aqm (a:=2148) (n:=34) (by decide)
def ahI(l:List Nat)(r c i k:Nat) :Int:=eQ (fun j=>gz l (j * c+i) * gz l (j * c+k)) r
def tG(l:List Nat)(r c i k:Nat) :Int:=ahI l r c i k - (if i=k then ahH else 0)
def gG(l:List Nat)(r c p:Nat) :Int:=tG l r c (p / c) (p % c)
def U1(l:List Nat)(r c:Nat) :Int:=eQ (fun p=>gG l r c p * gG l r c p) (c * c)
theorem amn{l:List Nat}(hw:Wd l)(hf:Fn l){r c i k n:Nat}(hl:l.length=r * c)(hi:i < c)(hk:k < c)(hn:n≤r)(hr:r≤1000) :
    nl (eQ (fun j=>gz l (j * c+i) * gz l (j * c+k)) n).natAbs≤67 :=
  NH (fun j hj=>qW (D3 hw hf (by rw [hl];exact QQ (by omega) hi)) (D3 hw hf (by rw [hl];exact QQ (by omega) hk))) (by omega)
theorem aqQ{l:List Nat}(hw:Wd l)(hf:Fn l){r c i k:Nat}(hl:l.length=r * c)(hi:i < c)(hk:k < c)(hr:r≤1000) :nl (tG l r c i k).natAbs≤68:=by
  refine amb (a:=67) (amn hw hf hl hi hk (Nat.le_refl _) hr) ?_
  split
  · exact Nat.le_trans aoO (by omega)
  · rw [Int.natAbs_zero,fE];omega
theorem aoP{l:List Nat}(hw:Wd l)(hf:Fn l){r c p:Nat}(hl:l.length=r * c)(hp:p < c * c)(hr:r≤1000) :nl (gG l r c p).natAbs≤68:=by
  have hc : 0 < c := by rcases Nat.eq_zero_or_pos c with h | h; · subst h; omega
                        · exact h
  exact aqQ hw hf hl (Nat.div_lt_of_lt_mul hp) (Nat.mod_lt _ hc) hr
theorem aqn{l:List Nat}(hw:Wd l)(hf:Fn l){r c n:Nat}(hl:l.length=r * c)(hr:r≤512)(hc:c≤512)(hn:n≤c * c) :nl (eQ (fun p=>gG l r c p * gG l r c p) n).natAbs≤137:=by
  have:c * c≤512 * 512:=Nat.mul_le_mul hc hc
  exact NH (fun p hp=>qW (aoP hw hf hl (by omega) (by omega)) (aoP hw hf hl (by omega) (by omega))) (by omega)
theorem alz{l:List Nat}(hw:Wd l)(hf:Fn l){r c i k:Nat}(hl:l.length=r * c)(hi:i < c)(hk:k < c)(hr:r≤512)(hc:c≤512) :
    ∃ N,cW (i:Int) (k:Int) l.length (od (gz l) l.length) (oe (gz l) l.length) (og (gz l) (-1074) l.length) (r:Int) (c:Int) (nS 1) (aC (nM 1) (nl (nM 1))) (nE 1 0)=some (.r0 0 (nS (tG l r c i k)) (aC (nM (tG l r c i k)) N) 0 (nl (nM (tG l r c i k))) (nE (tG l r c i k) (-2148)))∧nl (nM (tG l r c i k))≤N∧N≤4096:=by
  have hb:r * c≤512 * 512:=Nat.mul_le_mul hr hc
  have li:∀ x,x < c→∀ j,j < r→x+j * c < l.length:=fun x hx j hj=>by rw [hl,Nat.add_comm];exact QQ hj hx
  have l1:=NN (g:=gz l) (e:=-1074) (n:=l.length) (from':=i) (far:=c) (many:=r) (li i hi) (by omega) (by omega) (by omega) (by omega)
  have l2:=NN (g:=gz l) (e:=-1074) (n:=l.length) (from':=k) (far:=c) (many:=r) (li k hk) (by omega) (by omega) (by omega) (by omega)
  obtain ⟨D,d1,d2,d3⟩:=ack (g:=fun j=>gz l (i+j * c)) (h:=fun j=>gz l (k+j * c)) (e:=-1074) (f:=-1074) (n:=r) (k:=66) (fun j hj=>N9 hw hf (li i hi j hj)) (fun j hj=>N9 hw hf (li k hk j hj)) (fun j hj=>qW (D3 hw hf (li i hi j hj)) (D3 hw hf (li k hk j hj))) (by omega) (by omega) (by omega)
  have ed:eQ (fun j=>gz l (i+j * c) * gz l (k+j * c)) r=ahI l r c i k:=QU fun j _=>by rw [Nat.add_comm i,Nat.add_comm k]
  rw [ed] at d1 d2
  have t5:(yQ (i:Int) (k:Int) l.length (od (gz l) l.length) (oe (gz l) l.length) (og (gz l) (-1074) l.length) (r:Int) (c:Int)).run=some (.inl (0,false,nS (ahI l r c i k),aC (nM (ahI l r c i k)) D,0,nl (nM (ahI l r c i k)),nE (ahI l r c i k) (-2148))):=by
    unfold yQ
    rw [io,ip,iq,l1,l2]
    simp only [mM,ah,bv,bx,bz]
    rw [io,ip,iq,io,ip,iq,d1]
    exact s8 (ae (s8 (ae (s8 (s8 (ae rfl))))))
  by_cases hik:i=k
  · have hD:Sm (ahI l r c i k) (-2148):=sP (amn hw hf hl hi hk (Nat.le_refl _) (by omega)) (by omega) (by omega)
    have hO:Sm ahH (-2148):=sP aoO (by omega) (by omega)
    obtain ⟨E,e1,e2,e3⟩:=afd hD hO
    obtain ⟨o1,o2,o3⟩:=aql
    have et:ahI l r c i k - ahH=tG l r c i k:=by unfold tG;rw [if_pos hik]
    rw [et] at e1 e2
    rw [o1,o2,o3]
    refine ⟨E,aY (ag t5 (ag (a:=false) ?_ (ag (a:=(0,nS (tG l r c i k),aC (nM (tG l r c i k)) E,0,nl (nM (tG l r c i k)),nE (tG l r c i k) (-2148))) ?_ rfl))),e2,e3⟩
    · show (yR _ _ _).run=_
      refine aK ?_
      show some (Sum.inl ((i:Int) != (k:Int)))=_
      rw [hik,bne_self_eq_false]
    · show (yS _ _ _ _ _ _ _ _ _ _).run=_
      unfold yS
      rw [ch d2,aq,e1]
      exact aK (di (bo d2) (aG (ae rfl)))
  · have et:ahI l r c i k=tG l r c i k:=by unfold tG;rw [if_neg hik,Int.sub_zero]
    rw [et] at t5 d2
    refine ⟨D,aY (ag t5 (ag (a:=true) ?_ (bK (aX rfl)))),d2,d3⟩
    show (yR _ _ _).run=_
    refine aK ?_
    show some (Sum.inl ((i:Int) != (k:Int)))=_
    rw [bne_iff_ne.2 (by omega)]
theorem aoQ{g:Nat→Int}{n:Nat} :List.take n (od g n) ++ [nS (g n)]=od g (n+1):=QR
theorem aoR{g:Nat→Int}{n:Nat} :List.take n (oe g n) ++ [aC (nM (g n)) (nl (nM (g n)))]=oe g (n+1):=QR
theorem aoS{g:Nat→Int}{e:Int}{n:Nat} :List.take n (og g e n) ++ [nE (g n) e]=og g e (n+1):=QR
theorem anh{l:List Nat}(hw:Wd l)(hf:Fn l){r c:Nat}(hl:l.length=r * c)(hr:r≤512)(hc:c≤512) :
    ∃ N,bd (c:Int) (c:Int) l.length (od (gz l) l.length) (oe (gz l) l.length) (og (gz l) (-1074) l.length) (r:Int) (c:Int) l (nS 1) (aC (nM 1) (nl (nM 1))) (nE 1 0)=some (.r0 0 (nS (U1 l r c)) (aC (nM (U1 l r c)) N) 0 (nl (nM (U1 l r c))) (nE (U1 l r c) (-4296)))∧nl (nM (U1 l r c))≤N∧N≤4096:=by
  have hcc:c * c≤512 * 512:=Nat.mul_le_mul hc hc
  obtain ⟨N,s1,s2,s3⟩:=Kk (g:=gG l r c) (e:=-2148) (n:=c * c) (k:=68) (fun p hp=>aoP hw hf hl hp (by omega)) (by omega) (by omega) (by omega)
  refine ⟨N,aY (ag (a:=false) rfl (ag (a:=()) rfl (ag (a:=(c * c,c * c,0,c * c,od (gG l r c) (c * c),oe (gG l r c) (c * c),og (gG l r c) (-2148) (c * c))) (cD (fun i=>(i * c,i * c,0,i,i * c,od (gG l r c) (i * c),oe (gG l r c) (i * c),og (gG l r c) (-2148) (i * c))) c (by rw [Nat.zero_mul];rfl) (fun i hi=>?_) ?_) (ag (a:=(0,nS (U1 l r c),aC (nM (U1 l r c)) N,0,nl (nM (U1 l r c)),nE (U1 l r c) (-4296))) ?_ rfl)))),s2,s3⟩
  · show aH (f7 _ _ _ _ _ _ _ _ _).run _=_
    have hnx:(i+1) * c=i * c+c:=by rw [Nat.add_mul,Nat.one_mul]
    have hic:i * c≤512 * 512:=Nat.mul_le_mul (by omega) hc
    refine ag (a:=()) (cS rfl) (ag (a:=((i+1) * c,(i+1) * c,0,(i+1) * c,od (gG l r c) ((i+1) * c),oe (gG l r c) ((i+1) * c),og (gG l r c) (-2148) ((i+1) * c))) (K7 (ag (a:=()) rfl (ag (a:=(i * c+c,i * c+c,0,i * c+c,od (gG l r c) (i * c+c),oe (gG l r c) (i * c+c),og (gG l r c) (-2148) (i * c+c))) (cD (fun k=>(i * c+k,i * c+k,0,k,i * c+k,od (gG l r c) (i * c+k),oe (gG l r c) (i * c+k),og (gG l r c) (-2148) (i * c+k))) c rfl (fun k hk=>?_) ?_) (by rw [hnx];rfl)))) (ao rfl))
    · obtain ⟨A,a1,a2,a3⟩:=alz hw hf hl hi hk hr hc
      obtain ⟨q1,q2⟩:=pq (i:=i) hk
      have eg:tG l r c i k=gG l r c (i * c+k):=by unfold gG;rw [q1,q2]
      rw [eg] at a1 a2
      show aH (eP _ _ _ _ _ _ _ _ _ _ _ _ _ _ _ _ _ _ _ _).run _=_
      refine ag (a:=(i * c+k+1,0,od (gG l r c) (i * c+k+1),oe (gG l r c) (i * c+k+1),og (gG l r c) (-2148) (i * c+k+1))) ?_ (ao rfl)
      unfold eP
      rw [io,ip,iq,aq,a1]
      simp only [tJ,nF,uE,qp,qq,qr,uF]
      rw [List.drop_zero,Ip a2,aoQ,aoR,aoS]
      exact cS (s8 (aG (aG (ae (aK (ao (ao (ae (ao (di (decide_eq_true (by rw [au];omega)) rfl))))))))))
    · show aH (eP _ _ _ _ _ _ _ _ _ _ _ _ _ _ _ _ _ _ _ _).run _=_
      exact bK (dr rfl)
  · show aH (f7 _ _ _ _ _ _ _ _ _).run _=_
    exact bK (dr rfl)
  · show (f9 _ _ _ _ _ _).run=_
    unfold f9
    rw [io,ip,iq,s1]
    exact aK (s8 (ae rfl))
theorem ani{r c:Nat}{l:List Nat}(hw:Wd l)(h:RM r c l.length=true)(hf:ael l=true) :
    ∃ N,fK (r:Int) (c:Int) l=some (.r0 0 (nS (U1 l r c)) (aC (nM (U1 l r c)) N) 0 (nl (nM (U1 l r c))) (nE (U1 l r c) (-4296)))∧nl (nM (U1 l r c))≤N∧N≤4096:=by
  obtain ⟨h1,h2,h3,h4,h5⟩:=ahF.1 h
  have hr:r≤512:=by omega
  have hc:c≤512:=by omega
  have hl:l.length=r * c:=by rw [← Int.natCast_mul] at h5;exact Int.ofNat_inj.1 h5
  have hb:r * c≤512 * 512:=Nat.mul_le_mul hr hc
  obtain ⟨k,k1,k2⟩:=FD hw (by omega)
  have hF:=oE.1 hf
  obtain ⟨A,a1,a2,a3⟩:=Nk (n:=1) (by omega)
  obtain ⟨N,n1,n2,n3⟩:=anh hw hF hl hr hc
  refine ⟨N,aY (ag (a:=false) ?_ (ag (a:=(l.length,od (gz l) l.length,oe (gz l) l.length,og (gz l) (-1074) l.length)) ?_ (ag (a:=(nS 1,aC (nM 1) A,0,nl (nM 1),nE 1 0)) ?_ (ag (a:=(0,nS (U1 l r c),aC (nM (U1 l r c)) N,0,nl (nM (U1 l r c)),nE (U1 l r c) (-4296))) ?_ rfl)))),n2,n3⟩
  · unfold JV
    rw [aq,cC,h,k1]
    exact aX (ae (aG (ae (aK (ae (aK (aK (aX (ae (aG (ae (cy (by rw [hf] at k2;exact k2) (ae (aK rfl))))))))))))))
  · unfold JW
    rw [aq,xB hw hF (by omega)]
    exact aG (ae rfl)
  · have a1':bk 1=_:=a1
    unfold JX
    rw [a1']
    exact ae rfl
  · show (DA _ _ _ _ _ _ _ _ _ _ _ _).run=_
    have a2':nl (nM 1)≤A:=a2
    unfold DA
    rw [io,ip,iq,aq,ch a2',n1]
    exact s8 (aG (di (bo a2') (ae rfl)))
end Go.Plb.Seat
namespace Go.Plb.Seat
open Go Go.Plb
set_option linter.unusedSimpArgs false
set_option linter.unusedVariables false
theorem Zc(j c i:Nat) :((j:Int) * (c:Int))+(i:Int)=((j * c+i:Nat):Int):=by rw [Int.natCast_add,Int.natCast_mul]
theorem U0(j c:Nat) :(j:Int) * (c:Int)=((j * c:Nat):Int):=by rw [Int.natCast_mul]
theorem acn(e:Int) :bL 0=some (.r0 (nS 0) (aC (nM 0) (nl (nM 0))) (nl (nM 0)) (nE 0 e)):=by
  have h:=Yi (n:=0) (by omega)
  rw [show ((0:Nat):Int)=0 from rfl,ib] at h
  rw [ib];exact h
def nd4(z e:Int) :Bool×List Int×Nat×Int:=(nS z,aC (nM z) (nl (nM z)),nl (nM z),nE z e)
end Go.Plb.Seat
namespace Go.Plb.Seat
open Go Go.Plb
set_option linter.unusedSimpArgs false
set_option linter.unusedVariables false
structure Nm (A X Y V:List Nat) (r c d:Nat):Prop where
  hA:A.length=r * c
  hX:X.length=c * d
  hY:Y.length=r * d
  hV:V.length=d
  hr:r≤512
  hc:c≤512
  hd:d≤512
  wA:Wd A
  wX:Wd X
  wY:Wd Y
  wV:Wd V
  fA:Fn A
  fX:Fn X
  fY:Fn Y
  fV:Fn V
def tR(A X Y V:List Nat)(c d i k:Nat) :Int:=eQ (fun j=>gz A (i * c+j) * gz X (j * d+k)) c - gz Y (i * d+k) * gz V k
def gR(A X Y V:List Nat)(c d p:Nat) :Int:=tR A X Y V c d (p / d) (p % d)
def KH(A X Y V:List Nat)(r c d:Nat) :Int:=eQ (fun p=>gR A X Y V c d p * gR A X Y V c d p) (r * d)
section
variable {A X Y V : List Nat} {r c d : Nat}
theorem Nm.lA(h:Nm A X Y V r c d){i j:Nat}(hi:i < r)(hj:j < c) :i * c+j < A.length:=by rw [h.hA];exact QQ hi hj
theorem Nm.lX(h:Nm A X Y V r c d){j k:Nat}(hj:j < c)(hk:k < d) :j * d+k < X.length:=by rw [h.hX];exact QQ hj hk
theorem Nm.lY(h:Nm A X Y V r c d){i k:Nat}(hi:i < r)(hk:k < d) :i * d+k < Y.length:=by rw [h.hY];exact QQ hi hk
theorem Nm.lV(h:Nm A X Y V r c d){k:Nat}(hk:k < d) :k < V.length:=by rw [h.hV];exact hk
theorem Nm.bA(h:Nm A X Y V r c d) :A.length≤262144:=by rw [h.hA];exact Nat.mul_le_mul h.hr h.hc
theorem Nm.bX(h:Nm A X Y V r c d) :X.length≤262144:=by rw [h.hX];exact Nat.mul_le_mul h.hc h.hd
theorem Nm.bY(h:Nm A X Y V r c d) :Y.length≤262144:=by rw [h.hY];exact Nat.mul_le_mul h.hr h.hd
theorem Nm.bV(h:Nm A X Y V r c d) :V.length≤512:=by rw [h.hV];exact h.hd
theorem Nm.dot(h:Nm A X Y V r c d){i k n:Nat}(hi:i < r)(hk:k < d)(hn:n≤c) :nl (eQ (fun j=>gz A (i * c+j) * gz X (j * d+k)) n).natAbs≤67:=by
  have:=h.hc
  exact NH (fun j hj=>qW (D3 h.wA h.fA (h.lA hi (by omega))) (D3 h.wX h.fX (h.lX (by omega) hk))) (by omega)
theorem Nm.yv(h:Nm A X Y V r c d){i k:Nat}(hi:i < r)(hk:k < d) :nl (gz Y (i * d+k) * gz V k).natAbs≤66 :=
  qW (D3 h.wY h.fY (h.lY hi hk)) (D3 h.wV h.fV (h.lV hk))
theorem Nm.t(h:Nm A X Y V r c d){i k:Nat}(hi:i < r)(hk:k < d) :nl (tR A X Y V c d i k).natAbs≤68 :=
  amb (a:=67) (h.dot hi hk (Nat.le_refl _)) (Nat.le_trans (h.yv hi hk) (by omega))
theorem Nm.g(h:Nm A X Y V r c d){p:Nat}(hp:p < r * d) :nl (gR A X Y V c d p).natAbs≤68:=by
  have hd:0 < d:=by
    rcases Nat.eq_zero_or_pos d with q | q
    · subst q;omega
    · exact q
  exact h.t (Nat.div_lt_of_lt_mul (by rw [Nat.mul_comm];exact hp)) (Nat.mod_lt _ hd)
theorem Nm.s(h:Nm A X Y V r c d){n:Nat}(hn:n≤r * d) :nl (eQ (fun p=>gR A X Y V c d p * gR A X Y V c d p) n).natAbs≤137:=by
  have:r * d≤512 * 512:=Nat.mul_le_mul h.hr h.hd
  exact NH (fun p hp=>qW (h.g (by omega)) (h.g (by omega))) (by omega)
theorem anj(h:Nm A X Y V r c d){i k:Nat}(hi:i < r)(hk:k < d) :
    ∃ N,bR (i:Int) (k:Int) A.length (od (gz A) A.length) (oe (gz A) A.length) (og (gz A) (-1074) A.length) (c:Int) X.length (od (gz X) X.length) (oe (gz X) X.length) (og (gz X) (-1074) X.length) (d:Int) Y.length (od (gz Y) Y.length) (oe (gz Y) Y.length) (og (gz Y) (-1074) Y.length) (d:Int) V.length (od (gz V) V.length) (oe (gz V) V.length) (og (gz V) (-1074) V.length)
      = some (.r0 0 (nS (tR A X Y V c d i k)) (aC (nM (tR A X Y V c d i k)) N) 0 (nl (nM (tR A X Y V c d i k))) (nE (tR A X Y V c d i k) (-2148)))∧nl (nM (tR A X Y V c d i k))≤N∧N≤4096:=by
  have hr:=h.hr
  have hc:=h.hc
  have hd:=h.hd
  have bA:=h.bA
  have bX:=h.bX
  have bY:=h.bY
  have bV:=h.bV
  have hic:i * c≤512 * 512:=Nat.mul_le_mul (by omega) hc
  have hid:i * d≤512 * 512:=Nat.mul_le_mul (by omega) hd
  have lA:∀ j,j < c→i * c+j * 1 < A.length:=fun j hj=>by rw [Nat.mul_one];exact h.lA hi hj
  have lX:∀ j,j < c→k+j * d < X.length:=fun j hj=>by rw [Nat.add_comm];exact h.lX hj hk
  have l1:=NN (g:=gz A) (e:=-1074) (n:=A.length) (from':=i * c) (far:=1) (many:=c) lA (by omega) (by omega) (by omega) (by omega)
  have l2:=NN (g:=gz X) (e:=-1074) (n:=X.length) (from':=k) (far:=d) (many:=c) lX (by omega) (by omega) (by omega) (by omega)
  obtain ⟨D,d1,d2,d3⟩:=ack (g:=fun j=>gz A (i * c+j * 1)) (h:=fun j=>gz X (k+j * d)) (e:=-1074) (f:=-1074) (n:=c) (k:=66) (fun j hj=>N9 h.wA h.fA (lA j hj)) (fun j hj=>N9 h.wX h.fX (lX j hj)) (fun j hj=>qW (D3 h.wA h.fA (lA j hj)) (D3 h.wX h.fX (lX j hj))) (by omega) (by omega) (by omega)
  have ed:eQ (fun j=>gz A (i * c+j * 1) * gz X (k+j * d)) c=eQ (fun j=>gz A (i * c+j) * gz X (j * d+k)) c:=QU fun j _=>by rw [Nat.mul_one,Nat.add_comm k]
  rw [ed] at d1 d2
  have ly:=h.lY hi hk
  have lv:=h.lV hk
  obtain ⟨E,e1,e2,e3⟩:=NL (N9 h.wY h.fY ly) (N9 h.wV h.fV lv)
  have hD:Sm (eQ (fun j=>gz A (i * c+j) * gz X (j * d+k)) c) (-1074 + -1074):=sP (h.dot hi hk (Nat.le_refl _)) (by omega) (by omega)
  have hP:Sm (gz Y (i * d+k) * gz V k) (-1074 + -1074):=sP (h.yv hi hk) (by omega) (by omega)
  obtain ⟨F,f1,f2,f3⟩:=afd hD hP
  refine ⟨F,aY (ag (a:=(0,false,nS (eQ (fun j=>gz A (i * c+j) * gz X (j * d+k)) c),aC (nM (eQ (fun j=>gz A (i * c+j) * gz X (j * d+k)) c)) D,0,nl (nM (eQ (fun j=>gz A (i * c+j) * gz X (j * d+k)) c)),nE (eQ (fun j=>gz A (i * c+j) * gz X (j * d+k)) c) (-1074 + -1074))) ?_ (ag (a:=(0,nS (gz Y (i * d+k) * gz V k),aC (nM (gz Y (i * d+k) * gz V k)) E,0,nl (nM (gz Y (i * d+k) * gz V k)),nE (gz Y (i * d+k) * gz V k) (-1074 + -1074))) ?_ (ag (a:=(0,nS (tR A X Y V c d i k),aC (nM (tR A X Y V c d i k)) F,0,nl (nM (tR A X Y V c d i k)),nE (tR A X Y V c d i k) (-2148))) ?_ rfl))),f2,f3⟩
  · unfold wQ
    have l1':ac A.length (od (gz A) A.length) (oe (gz A) A.length) (og (gz A) (-1074) A.length) ((i * c:Nat):Int) 1 (c:Int)=_:=l1
    rw [U0,io,ip,iq,io,ip,iq,l1',l2]
    simp only [mM,ah,bv,bx,bz]
    rw [io,ip,iq,io,ip,iq,d1]
    exact di (by rw [dh];omega) (s8 (ae (s8 (ae (s8 (s8 (ae rfl)))))))
  · show (rl _ _ _ _ _ _ _ _ _ _ _ _).run=_
    have e1':ay (nS (gz Y (i * d+k))) (Z6 (gz Y (i * d+k))) (nE (gz Y (i * d+k)) (-1074)) (nS (gz V k)) (Z6 (gz V k)) (nE (gz V k) (-1074))=_:=e1
    unfold rl
    rw [Zc,U0,cH,cH,H8,H9,Ia,H8,H9,Ia,So ly,Sp ly,Sq ly,So lv,Sp lv,Sq lv,aq,aq,e1']
    exact aK (di (by rw [dh];omega) (di (by rw [dh];omega) (ao (ao (ao (ao (ao (ao (ao (ao (aG (aG (ae rfl)))))))))))))
  · show (rm _ _ _ _ _ _ _ _ _ _ _).run=_
    unfold rm
    rw [ch d2,ch e2,f1]
    exact aK (di (bo d2) (di (bo e2) (ae rfl)))
theorem ank(h:Nm A X Y V r c d) :
    ∃ N,aU (r:Int) (d:Int) A.length (od (gz A) A.length) (oe (gz A) A.length) (og (gz A) (-1074) A.length) (c:Int) A X.length (od (gz X) X.length) (oe (gz X) X.length) (og (gz X) (-1074) X.length) (d:Int) X Y.length (od (gz Y) Y.length) (oe (gz Y) Y.length) (og (gz Y) (-1074) Y.length) (d:Int) Y V.length (od (gz V) V.length) (oe (gz V) V.length) (og (gz V) (-1074) V.length)
      = some (.r0 0 (nS (KH A X Y V r c d)) (aC (nM (KH A X Y V r c d)) N) 0 (nl (nM (KH A X Y V r c d))) (nE (KH A X Y V r c d) (-4296)))∧nl (nM (KH A X Y V r c d))≤N∧N≤4096:=by
  have hr:=h.hr
  have hc:=h.hc
  have hd:=h.hd
  have hrd:r * d≤512 * 512:=Nat.mul_le_mul hr hd
  obtain ⟨N,s1,s2,s3⟩:=Kk (g:=gR A X Y V c d) (e:=-2148) (n:=r * d) (k:=68) (fun p hp=>h.g hp) (by omega) (by omega) (by omega)
  refine ⟨N,aY (ag (a:=false) rfl (ag (a:=()) rfl (ag (a:=(r * d,r * d,0,r * d,od (gR A X Y V c d) (r * d),oe (gR A X Y V c d) (r * d),og (gR A X Y V c d) (-2148) (r * d))) (cD (fun i=>(i * d,i * d,0,i,i * d,od (gR A X Y V c d) (i * d),oe (gR A X Y V c d) (i * d),og (gR A X Y V c d) (-2148) (i * d))) r (by rw [Nat.zero_mul];rfl) (fun i hi=>?_) ?_) (ag (a:=(0,nS (KH A X Y V r c d),aC (nM (KH A X Y V r c d)) N,0,nl (nM (KH A X Y V r c d)),nE (KH A X Y V r c d) (-4296))) ?_ rfl)))),s2,s3⟩
  · show aH (fh _ _ _ _ _ _ _ _ _).run _=_
    have hnx:(i+1) * d=i * d+d:=by rw [Nat.add_mul,Nat.one_mul]
    have hic:i * d≤512 * 512:=Nat.mul_le_mul (by omega) hd
    refine ag (a:=()) (cS rfl) (ag (a:=((i+1) * d,(i+1) * d,0,(i+1) * d,od (gR A X Y V c d) ((i+1) * d),oe (gR A X Y V c d) ((i+1) * d),og (gR A X Y V c d) (-2148) ((i+1) * d))) (K7 (ag (a:=()) rfl (ag (a:=(i * d+d,i * d+d,0,i * d+d,od (gR A X Y V c d) (i * d+d),oe (gR A X Y V c d) (i * d+d),og (gR A X Y V c d) (-2148) (i * d+d))) (cD (fun k=>(i * d+k,i * d+k,0,k,i * d+k,od (gR A X Y V c d) (i * d+k),oe (gR A X Y V c d) (i * d+k),og (gR A X Y V c d) (-2148) (i * d+k))) d rfl (fun k hk=>?_) ?_) (by rw [hnx];rfl)))) (ao rfl))
    · obtain ⟨a,a1,a2,a3⟩:=anj h hi hk
      obtain ⟨q1,q2⟩:=pq (i:=i) hk
      have eg:tR A X Y V c d i k=gR A X Y V c d (i * d+k):=by unfold gR;rw [q1,q2]
      rw [eg] at a1 a2
      show aH (dQ _ _ _ _ _ _ _ _ _ _ _ _ _ _ _ _ _ _ _ _ _ _ _ _ _ _ _ _ _ _ _ _).run _=_
      refine ag (a:=(i * d+k+1,0,od (gR A X Y V c d) (i * d+k+1),oe (gR A X Y V c d) (i * d+k+1),og (gR A X Y V c d) (-2148) (i * d+k+1))) ?_ (ao rfl)
      unfold dQ
      rw [io,ip,iq,io,ip,iq,io,ip,iq,io,ip,iq,a1]
      simp only [nT,jj,pE,lH,lI,lJ,pF]
      rw [List.drop_zero,Ip a2,aoQ,aoR,aoS]
      exact cS (s8 (aG (s8 (aG (s8 (aG (s8 (ae (aK (ao (ao (ae (ao (di (decide_eq_true (by rw [au];omega)) rfl))))))))))))))
    · show aH (dQ _ _ _ _ _ _ _ _ _ _ _ _ _ _ _ _ _ _ _ _ _ _ _ _ _ _ _ _ _ _ _ _).run _=_
      exact bK (dr rfl)
  · show aH (fh _ _ _ _ _ _ _ _ _).run _=_
    exact bK (dr rfl)
  · show (fi _ _ _ _ _ _).run=_
    unfold fi
    rw [io,ip,iq,s1]
    exact aK (s8 (ae rfl))
theorem aqo(h:Nm A X Y V r c d){i k j:Nat}(hi:i < r)(hk:k < d)(hj:j < c) :
    rA (c:Int) A (d:Int) X i k (j,nd4 (eQ (fun j=>gz A (i * c+j) * gz X (j * d+k)) j) (-2148))=some (.inl (j+1,nd4 (eQ (fun j=>gz A (i * c+j) * gz X (j * d+k)) (j+1)) (-2148))):=by
  have hr:=h.hr
  have hc:=h.hc
  have hd:=h.hd
  have bA:=h.bA
  have bX:=h.bX
  have li:=h.lA hi hj
  have lk:=h.lX hj hk
  have ex:ab (A.getD (i * c+j) 0)=some (.r0 (nS (gz A (i * c+j))) (aC (nM (gz A (i * c+j))) (nl (nM (gz A (i * c+j))))) (nl (nM (gz A (i * c+j)))) (nE (gz A (i * c+j)) (-1074))):=Kj (h.wA _) (h.fA _ li)
  have ey:ab (X.getD (j * d+k) 0)=some (.r0 (nS (gz X (j * d+k))) (aC (nM (gz X (j * d+k))) (nl (nM (gz X (j * d+k))))) (nl (nM (gz X (j * d+k)))) (nE (gz X (j * d+k)) (-1074))):=Kj (h.wX _) (h.fX _ lk)
  have t1:=RK (N9 h.wA h.fA li) (N9 h.wX h.fX lk)
  have hp:Sm (gz A (i * c+j) * gz X (j * d+k)) (-1074 + -1074):=sP (qW (D3 h.wA h.fA li) (D3 h.wX h.fX lk)) (by omega) (by omega)
  have hS:Sm (eQ (fun j=>gz A (i * c+j) * gz X (j * d+k)) j) (-1074 + -1074):=sP (h.dot hi hk (Nat.le_of_lt hj)) (by omega) (by omega)
  have t2:=ajH hS hp
  show aH (nZ _ _ _ _ _ _ _ _ _ _ _).run _=_
  refine ag (a:=nd4 (eQ (fun j=>gz A (i * c+j) * gz X (j * d+k)) (j+1)) (-2148)) ?_ (ao rfl)
  unfold nZ
  rw [Zc,Zc,U0,U0,cH,cH,ex,ey]
  simp only [jY,ak,ai,aj,am]
  rw [bQ au,bQ au,t1]
  simp only [jX,co,bO,bP,cp]
  have t2':eB (nS (eQ (fun j=>gz A (i * c+j) * gz X (j * d+k)) j)) (aC (nM (eQ (fun j=>gz A (i * c+j) * gz X (j * d+k)) j)) (nl (nM (eQ (fun j=>gz A (i * c+j) * gz X (j * d+k)) j)))) (nE (eQ (fun j=>gz A (i * c+j) * gz X (j * d+k)) j) (-2148)) (nS (gz A (i * c+j) * gz X (j * d+k))) (aC (nM (gz A (i * c+j) * gz X (j * d+k))) (nl (nM (gz A (i * c+j) * gz X (j * d+k))))) (nE (gz A (i * c+j) * gz X (j * d+k)) (-1074 + -1074))=_:=t2
  rw [bQ au,bQ au,t2']
  exact cS (ao (ao (ao (ao (ae (ao (ao (ao (ao (ae (dY (dY (ae (dY (dY (ae rfl))))))))))))))))
theorem aqp(h:Nm A X Y V r c d){i k:Nat}(hi:i < r)(hk:k < d) :
    rD (c:Int) A (d:Int) X (d:Int) Y V i (k,nd4 (eQ (fun p=>gR A X Y V c d p * gR A X Y V c d p) (i * d+k)) (-4296))=some (.inl (k+1,nd4 (eQ (fun p=>gR A X Y V c d p * gR A X Y V c d p) (i * d+(k+1))) (-4296))):=by
  have hr:=h.hr
  have hc:=h.hc
  have hd:=h.hd
  have bY:=h.bY
  have bV:=h.bV
  obtain ⟨q1,q2⟩:=pq (i:=i) hk
  have eg:gR A X Y V c d (i * d+k)=tR A X Y V c d i k:=by unfold gR;rw [q1,q2]
  have hT:=h.t hi hk
  have hTs:Sm (tR A X Y V c d i k) (-2148):=sP hT (by omega) (by omega)
  have hD:Sm (eQ (fun j=>gz A (i * c+j) * gz X (j * d+k)) c) (-1074 + -1074):=sP (h.dot hi hk (Nat.le_refl _)) (by omega) (by omega)
  have hP:Sm (gz Y (i * d+k) * gz V k) (-1074 + -1074):=sP (h.yv hi hk) (by omega) (by omega)
  have hp:Sm (tR A X Y V c d i k * tR A X Y V c d i k) (-2148 + -2148):=sP (qW hT hT) (by omega) (by omega)
  have hlt:i * d+k < r * d:=QQ hi hk
  have hS:Sm (eQ (fun p=>gR A X Y V c d p * gR A X Y V c d p) (i * d+k)) (-2148 + -2148):=sP (h.s (Nat.le_of_lt hlt)) (by omega) (by omega)
  have ly:=h.lY hi hk
  have lv:=h.lV hk
  have ex:ab (Y.getD (i * d+k) 0)=some (.r0 (nS (gz Y (i * d+k))) (aC (nM (gz Y (i * d+k))) (nl (nM (gz Y (i * d+k))))) (nl (nM (gz Y (i * d+k)))) (nE (gz Y (i * d+k)) (-1074))):=Kj (h.wY _) (h.fY _ ly)
  have ey:ab (V.getD k 0)=some (.r0 (nS (gz V k)) (aC (nM (gz V k)) (nl (nM (gz V k)))) (nl (nM (gz V k))) (nE (gz V k) (-1074))):=Kj (h.wV _) (h.fV _ lv)
  have t0:=RK (N9 h.wY h.fY ly) (N9 h.wV h.fV lv)
  have t1:=RK hTs hTs
  have t2:=ajH hS hp
  have t3:=ang hD hP
  have e1:eQ (fun p=>gR A X Y V c d p * gR A X Y V c d p) (i * d+(k+1))=eQ (fun p=>gR A X Y V c d p * gR A X Y V c d p) (i * d+k)+tR A X Y V c d i k * tR A X Y V c d i k:=by
    show eQ _ (i * d+k+1)=_
    simp only [eQ];rw [eg]
  rw [e1]
  show aH (rz _ _ _ _ _ _).run _=_
  refine ag (a:=()) (cS rfl) (ag (a:=nd4 (eQ (fun p=>gR A X Y V c d p * gR A X Y V c d p) (i * d+k)+tR A X Y V c d i k * tR A X Y V c d i k) (-4296)) (K7 (ag (a:=nd4 0 (-2148)) ?_ (ag (a:=()) rfl (ag (a:=nd4 (eQ (fun j=>gz A (i * c+j) * gz X (j * d+k)) c) (-2148)) (cD (fun j=>(j,nd4 (eQ (fun j=>gz A (i * c+j) * gz X (j * d+k)) j) (-2148))) c rfl (fun j hj=>aqo h hi hk hj) ?_) (ag (a:=nd4 (tR A X Y V c d i k) (-2148)) ?_ ?_))))) (ao rfl))
  · unfold wZ
    rw [acn (-2148)]
    exact ae rfl
  · show aH (nZ _ _ _ _ _ _ _ _ _ _ _).run _=_
    exact bK (dr rfl)
  · show (rB _ _ _ _ _ _ _ _ _).run=_
    unfold rB
    rw [Zc,U0,cH,ex,ey]
    simp only [jY,ak,ai,aj,am]
    rw [bQ au,bQ au,t0]
    simp only [jX,co,bO,bP,cp]
    have t3':gW (nS (eQ (fun j=>gz A (i * c+j) * gz X (j * d+k)) c)) (aC (nM (eQ (fun j=>gz A (i * c+j) * gz X (j * d+k)) c)) (nl (nM (eQ (fun j=>gz A (i * c+j) * gz X (j * d+k)) c)))) (nE (eQ (fun j=>gz A (i * c+j) * gz X (j * d+k)) c) (-2148)) (nS (gz Y (i * d+k) * gz V k)) (aC (nM (gz Y (i * d+k) * gz V k)) (nl (nM (gz Y (i * d+k) * gz V k)))) (nE (gz Y (i * d+k) * gz V k) (-1074 + -1074))=_:=t3
    rw [bQ au,bQ au,t3']
    exact ao (ao (ao (ao (ae (ao (ao (ae (dY (dY (ae (dY (dY (ae rfl)))))))))))))
  · show (rC _ _ _ _ _ _ _ _).run=_
    unfold rC
    rw [bQ au,bQ au,t1]
    simp only [jX,co,bO,bP,cp]
    have t2':eB (nS (eQ (fun p=>gR A X Y V c d p * gR A X Y V c d p) (i * d+k))) (aC (nM (eQ (fun p=>gR A X Y V c d p * gR A X Y V c d p) (i * d+k))) (nl (nM (eQ (fun p=>gR A X Y V c d p * gR A X Y V c d p) (i * d+k))))) (nE (eQ (fun p=>gR A X Y V c d p * gR A X Y V c d p) (i * d+k)) (-4296)) (nS (tR A X Y V c d i k * tR A X Y V c d i k)) (aC (nM (tR A X Y V c d i k * tR A X Y V c d i k)) (nl (nM (tR A X Y V c d i k * tR A X Y V c d i k)))) (nE (tR A X Y V c d i k * tR A X Y V c d i k) (-2148 + -2148))=_:=t2
    rw [bQ au,t2']
    exact dY (dY (ae (dY (dY (ae rfl)))))
theorem anl(h:Nm A X Y V r c d) :
    cB (c:Int) A (d:Int) X (r:Int) (d:Int) Y V=some (.r0 (nS (KH A X Y V r c d)) (aC (nM (KH A X Y V r c d)) (nl (nM (KH A X Y V r c d)))) (nl (nM (KH A X Y V r c d))) (nE (KH A X Y V r c d) (-4296))):=by
  have hr:=h.hr
  have hd:=h.hd
  refine aY (ag (a:=(false,nd4 0 (-4296))) ?_ (ag (a:=()) rfl (ag (a:=nd4 (KH A X Y V r c d) (-4296)) (cD (fun i=>(i,nd4 (eQ (fun p=>gR A X Y V c d p * gR A X Y V c d p) (i * d)) (-4296))) r (by rw [Nat.zero_mul];rfl) (fun i hi=>?_) ?_) rfl)))
  · unfold wW
    rw [acn (-4296)]
    exact ae rfl
  · show aH (ry _ _ _ _ _ _).run _=_
    have hnx:(i+1) * d=i * d+d:=by rw [Nat.add_mul,Nat.one_mul]
    refine ag (a:=()) (cS rfl) (ag (a:=nd4 (eQ (fun p=>gR A X Y V c d p * gR A X Y V c d p) ((i+1) * d)) (-4296)) (K7 (ag (a:=()) rfl (ag (a:=nd4 (eQ (fun p=>gR A X Y V c d p * gR A X Y V c d p) (i * d+d)) (-4296)) (cD (fun k=>(k,nd4 (eQ (fun p=>gR A X Y V c d p * gR A X Y V c d p) (i * d+k)) (-4296))) d rfl (fun k hk=>aqp h hi hk) ?_) (by rw [hnx];rfl)))) (ao rfl))
    show aH (rz _ _ _ _ _ _).run _=_
    exact bK (dr rfl)
  · show aH (ry _ _ _ _ _ _).run _=_
    exact bK (dr rfl)
end
end Go.Plb.Seat
namespace Go.Plb.Seat
open Go Go.Plb
set_option linter.unusedSimpArgs false
set_option linter.unusedVariables false
theorem V3{r c n:Nat}(hr:r≤512)(hc:c≤512)(hn:n=r * c) :RM (r:Int) (c:Int) n=true :=
  ahF.2 ⟨by omega,by omega,by omega,by omega,by rw [hn,Int.natCast_mul]⟩
theorem Kl{l:List Nat}(hw:Wd l)(hf:Fn l)(hn:l.length≤1000000000) :∃ k:Int,az l=some (.r0 k)∧decide (k ≥ 0)=false:=by
  obtain ⟨k,k1,k2⟩:=FD hw hn
  rw [oE.2 hf] at k2
  exact ⟨k,k1,k2⟩
section
variable {A X Y V : List Nat} {r c d : Nat}
theorem ajJ(h:Nm A X Y V r c d) :
    ∃ N,bN (r:Int) (c:Int) A (c:Int) (d:Int) X (r:Int) (d:Int) Y V=some (.r0 0 (nS (KH A X Y V r c d)) (aC (nM (KH A X Y V r c d)) N) 0 (nl (nM (KH A X Y V r c d))) (nE (KH A X Y V r c d) (-4296)))∧nl (nM (KH A X Y V r c d))≤N∧N≤4096:=by
  have bA:=h.bA
  have bX:=h.bX
  have bY:=h.bY
  have bV:=h.bV
  have mA:=V3 h.hr h.hc h.hA
  have mX:=V3 h.hc h.hd h.hX
  have mY:=V3 h.hr h.hd h.hY
  have hV:((V.length:Nat):Int)=(d:Int):=by rw [h.hV]
  obtain ⟨k1,a1,a2⟩:=Kl h.wA h.fA (by omega)
  obtain ⟨k2,b1,b2⟩:=Kl h.wX h.fX (by omega)
  obtain ⟨k3,c1,c2⟩:=Kl h.wY h.fY (by omega)
  obtain ⟨k4,d1,d2⟩:=Kl h.wV h.fV (by omega)
  obtain ⟨N,e1,e2,e3⟩:=ank h
  refine ⟨N,aY (ag (a:=false) ?_ (ag (a:=(A.length,od (gz A) A.length,oe (gz A) A.length,og (gz A) (-1074) A.length,X.length,od (gz X) X.length,oe (gz X) X.length,og (gz X) (-1074) X.length,Y.length,od (gz Y) Y.length,oe (gz Y) Y.length,og (gz Y) (-1074) Y.length,V.length,od (gz V) V.length,oe (gz V) V.length,og (gz V) (-1074) V.length)) ?_ (ag (a:=(0,nS (KH A X Y V r c d),aC (nM (KH A X Y V r c d)) N,0,nl (nM (KH A X Y V r c d)),nE (KH A X Y V r c d) (-4296))) ?_ rfl))),e2,e3⟩
  · unfold cP
    rw [aq,aq,aq,aq,cC,cC,cC,mA,mX,mY,a1,b1,c1,d1]
    exact (aX (ae (aG (ae (aK (ae (aX (ae (aG (ae (aK (ae (aX (ae (aG (ae (aK (ae (aK (aK (cy (by simp) (cy (by simp) (cy (by rw [hV,bne_self_eq_false]) (aX (ae (aG (ae (cy a2 (ae (aX (ae (aG (ae (cy b2 (ae (aX (ae (aG (ae (cy c2 (ae (aX (ae (aG (ae (cy d2 (ae (aK rfl))))))))))))))))))))))))))))))))))))))))))))))))
  · show (uH _ _ _ _).run=_
    unfold uH
    rw [aq,aq,aq,aq,xB h.wA h.fA (by omega),xB h.wX h.fX (by omega),xB h.wY h.fY (by omega),xB h.wV h.fV (by omega)]
    exact (aG (ae (aG (ae (aG (ae (aG (ae rfl))))))))
  · show (uI _ _ _ _ _ _ _ _ _ _ _ _ _ _ _ _ _ _ _ _ _ _ _).run=_
    unfold uI
    rw [io,ip,iq,io,ip,iq,io,ip,iq,io,ip,iq,aq,aq,aq,e1]
    exact (s8 (aG (s8 (aG (s8 (aG (s8 (ae rfl))))))))
end
def P2(k:Nat) :Int:=((2 ^ k:Nat):Int)
theorem apM{k m:Nat}(h:k < 64 * m) :nl (P2 k).natAbs≤m:=by
  unfold P2
  rw [Int.natAbs_natCast]
  refine ju ?_
  rw [show W ^ m=2 ^ (64 * m) by rw [Nat.pow_mul]]
  exact Nat.pow_lt_pow_right (by decide) h
theorem aco{x b t e f g:Int}{k:Nat}(hx:Sm x e)(hb:Sm b f)(ht:Sm t g)(he:f+g=e+k)(hm:Sm (b * t * P2 k) e) :
    gS (nS x) (aC (nM x) (nl (nM x))) (nE x e) 0 (nS b) (aC (nM b) (nl (nM b))) (nE b f) (nS t) (aC (nM t) (nl (nM t))) (nE t g)=some (.r0 (decide (x≤b * t * P2 k)) 0):=by
  obtain ⟨N,n1,n2,n3⟩:=NL hb ht
  obtain ⟨q1,q2,q3⟩:=aos (b * t) k e
  rw [← he] at q3
  have c1:=amZ hx hm
  have ev:decide (sgn x (b * t * P2 k)≤0)=decide (x≤b * t * P2 k):=by
    rw [Bool.eq_iff_iff,decide_eq_true_eq,decide_eq_true_eq];unfold sgn;split <;> (try split) <;> omega
  refine aY (ag (a:=(0,nS (b * t),aC (nM (b * t)) N,0,nl (nM (b * t)),nE (b * t) (f+g))) ?_ (ag (a:=(0,sgn x (b * t * P2 k))) ?_ (ag (a:=decide (x≤b * t * P2 k)) ?_ rfl)))
  · unfold Hw
    rw [aq,aq,n1]
    exact (aK (aG (aG (ae rfl))))
  · show (Br _ _ _ _ _ _ _ _ _).run=_
    unfold Br
    have c1':q8 (nS x) (aC (nM x) (nl (nM x))) (nE x e) (nS (b * t)) (aC (nM (b * t)) (nl (nM (b * t)))) (nE (b * t) (f+g))=some (.r0 (sgn x (b * t * P2 k)) 0):=by
      rw [q1,q2,q3];exact c1
    rw [aq,ch n2,c1']
    exact (aK (aG (di (bo n2) (ae rfl))))
  · refine aX ?_
    show some (Sum.inl (decide (sgn x (b * t * P2 k)≤0)))=_
    rw [ev]
def gOK(l:List Nat)(r c m n:Nat) :Bool:=decide (U1 l r c≤bI m n * P2 4190)
def rOK(A X Y V:List Nat)(r c d:Nat)(S:Int)(m n:Nat) :Bool:=decide (KH A X Y V r c d≤bI m n * S * P2 2042)
theorem apN{m n:Nat}(hm:m≤512)(hn:n≤512) :Sm (bI m n) (-106):=sP (amm hm hn) (by omega) (by omega)
theorem aqR{m n:Nat}(hm:m≤512)(hn:n≤512) :Sm (bI m n * P2 4190) (-4296):=sP (k:=68) (qW (a:=2) (b:=66) (amm hm hn) (apM (by omega))) (by omega) (by omega)
theorem aqS{m n:Nat}{S:Int}(hm:m≤512)(hn:n≤512)(hS:nl S.natAbs≤67) :Sm (bI m n * S * P2 2042) (-4296) :=
  sP (k:=101) (qW (a:=69) (b:=32) (qW (amm hm hn) hS) (apM (by omega))) (by omega) (by omega)
theorem anm{l:List Nat}{r c m n:Nat}(hw:Wd l)(hf:Fn l)(hl:l.length=r * c)(hr:r≤512)(hc:c≤512)(hm:m≤512)(hn:n≤512) :
    lh (r:Int) (c:Int) l (nS (bI m n)) (aC (nM (bI m n)) (nl (nM (bI m n)))) (nE (bI m n) (-106))=some (.r0 (gOK l r c m n) 0):=by
  obtain ⟨N,g1,g2,g3⟩:=ani hw (V3 hr hc hl) (oE.2 hf)
  obtain ⟨M,w1,w2,w3⟩:=Nk (n:=1) (by omega)
  have hG:Sm (U1 l r c) (-4296):=sP (aqn hw hf hl hr hc (Nat.le_refl _)) (by omega) (by omega)
  have h1:Sm 1 0:=sP (k:=1) (ju (by decide)) (by omega) (by omega)
  have hb1:bI m n * 1=bI m n:=Int.mul_one _
  have hmul:Sm (bI m n * 1 * P2 4190) (-4296):=by rw [hb1];exact aqR hm hn
  have b1:=aco (k:=4190) hG (apN hm hn) h1 (by omega) hmul
  rw [hb1] at b1
  refine aY (ag (a:=(0,nS (U1 l r c),aC (nM (U1 l r c)) N,0,nl (nM (U1 l r c)),nE (U1 l r c) (-4296))) ?_ (ag (a:=(gOK l r c m n,0)) ?_ rfl))
  · unfold Hy
    rw [aq,g1]
    exact (aG (ae rfl))
  · show (Bs _ _ _ _ _ _ _ _ _).run=_
    have w1':bk 1=_:=w1
    have w2':nl (nM 1)≤M:=w2
    unfold Bs
    rw [w1']
    simp only [pL,j8,iK,iL,iM,j9]
    have b1':gS (nS (U1 l r c)) (aC (nM (U1 l r c)) (nl (nM (U1 l r c)))) (nE (U1 l r c) (-4296)) ((0:Nat):Int) (nS (bI m n)) (aC (nM (bI m n)) (nl (nM (bI m n)))) (nE (bI m n) (-106)) (nS ((1:Nat):Int)) (aC (nM ((1:Nat):Int)) (nl (nM ((1:Nat):Int)))) (nE ((1:Nat):Int) 0)=some (.r0 (gOK l r c m n) 0):=b1
    rw [ch g2,ch w2,aq,b1']
    exact (ae (di (bo g2) (aG (di (bo w2) (ae rfl)))))
theorem ann{A Z V:List Nat}{r c d m n:Nat}{S:Int}(h:Nm A Z Z V r c d)(hrc:c=r)(hS:nl S.natAbs≤67)(hm:m≤512)(hn:n≤512) :
    ln (r:Int) (c:Int) A (r:Int) (d:Int) Z V (nS (bI m n)) (aC (nM (bI m n)) (nl (nM (bI m n)))) (nE (bI m n) (-106)) (nS S) (aC (nM S) (nl (nM S))) (nE S (-2148))=some (.r0 (rOK A Z Z V r c d S m n) 0):=by
  subst hrc
  obtain ⟨N,g1,g2,g3⟩:=ajJ h
  have hG:Sm (KH A Z Z V c c d) (-4296):=sP (h.s (Nat.le_refl _)) (by omega) (by omega)
  have hSs:Sm S (-2148):=sP hS (by omega) (by omega)
  have b1:=aco (k:=2042) hG (apN hm hn) hSs (by omega) (aqS hm hn hS)
  refine aY (ag (a:=(0,nS (KH A Z Z V c c d),aC (nM (KH A Z Z V c c d)) N,0,nl (nM (KH A Z Z V c c d)),nE (KH A Z Z V c c d) (-4296))) ?_ (ag (a:=(rOK A Z Z V c c d S m n,0)) ?_ rfl))
  · unfold HA
    rw [aq,aq,aq,g1]
    exact (aG (aG (aG (aG (ae rfl)))))
  · show (Bt _ _ _ _ _ _ _ _ _ _ _ _).run=_
    unfold Bt
    have b1':gS (nS (KH A Z Z V c c d)) (aC (nM (KH A Z Z V c c d)) (nl (nM (KH A Z Z V c c d)))) (nE (KH A Z Z V c c d) (-4296)) ((0:Nat):Int) (nS (bI m n)) (aC (nM (bI m n)) (nl (nM (bI m n)))) (nE (bI m n) (-106)) (nS S) (aC (nM S) (nl (nM S))) (nE S (-2148))=some (.r0 (rOK A Z Z V c c d S m n) 0):=b1
    rw [ch g2,aq,aq,b1']
    exact (di (bo g2) (aG (aG (ae rfl))))
def ano(l:List Nat) :Bool:=decide (∀ j,j < l.length - 1→flt (l.getD (j+1) 0) (l.getD j 0)=false)
theorem ajK{x y:Nat}(hx:x < RL)(h:xV x=true) :z9 x y=some (.r0 (flt x y)) :=
  aY (ag (a:=flt x y) (cy (af9 hx h) rfl) rfl)
theorem ajL{l:List Nat}(hw:Wd l)(hf:Fn l)(hn:l.length≤1000000) :lQ l=some (.r0 (ano l)):=by
  have step:∀ j,j < l.length - 1→flt (l.getD (l.length - 1 - j) 0) (l.getD (l.length - 2 - j) 0)=false→p9 l (((l.length:Nat):Int) - 1 - (j:Nat))=some (.inl (((l.length:Nat):Int) - 1 - (j+1:Nat))):=by
    intro j hj hs
    have e1:Int.toNat (((l.length:Nat):Int) - 1 - (j:Nat))=l.length - 1 - j:=by omega
    have e2:Int.toNat (((l.length:Nat):Int) - 1 - (j:Nat) - 1)=l.length - 2 - j:=by omega
    show aH (mb _ _).run _=_
    refine ag (a:=()) ?_ ?_
    · unfold mb
      rw [e1,e2,ajK (hw _) (hf _ (by omega)),hs]
      exact (cS (ao (ao (ao (ao (ao (ae (aK rfl))))))))
    · refine ao ?_
      show some (Sum.inl _)=_
      congr 2;omega
  by_cases hs:∀ j,j < l.length - 1→flt (l.getD (l.length - 1 - j) 0) (l.getD (l.length - 2 - j) 0)=false
  · have hb:ano l=true:=by
      refine decide_eq_true fun j hj=>?_
      have:=hs (l.length - 2 - j) (by omega)
      rwa [show l.length - 1 - (l.length - 2 - j)=j+1 by omega,show l.length - 2 - (l.length - 2 - j)=j by omega] at this
    rw [hb]
    refine aY (ag (a:=((l.length:Nat):Int) - 1) (ao rfl) (ag (a:=()) (cD (fun j=>((l.length:Nat):Int) - 1 - (j:Nat)) (l.length - 1) (by omega) (fun j hj=>step j hj (hs j hj)) (bK (dr rfl))) rfl))
  · obtain ⟨k,hk,hb,hg⟩:=DM hs
    have hbt:flt (l.getD (l.length - 1 - k) 0) (l.getD (l.length - 2 - k) 0)=true:=by
      revert hb;cases flt (l.getD (l.length - 1 - k) 0) (l.getD (l.length - 2 - k) 0) <;> simp
    have hB:ano l=false:=by
      refine decide_eq_false fun q=>?_
      have:=q (l.length - 2 - k) (by omega)
      rw [show l.length - 2 - k+1=l.length - 1 - k by omega,hbt] at this
      exact Bool.noConfusion this
    rw [hB]
    refine aY (ag (a:=((l.length:Nat):Int) - 1) (ao rfl) (bK (cD (fun j=>((l.length:Nat):Int) - 1 - (j:Nat)) k (by omega) (fun j hj=>step j (by omega) (hg j hj)) (bK ?_))))
    have e1:Int.toNat (((l.length:Nat):Int) - 1 - (k:Nat))=l.length - 1 - k:=by omega
    have e2:Int.toNat (((l.length:Nat):Int) - 1 - (k:Nat) - 1)=l.length - 2 - k:=by omega
    unfold mb
    rw [e1,e2,ajK (hw _) (hf _ (by omega)),hbt]
    exact (cS (ao (ao (ao (ao (ao (ae (aX rfl))))))))
def aoT(A V Z:List Nat)(n:Nat) :Bool:=ano V && (gOK Z n n n n && rOK A Z Z V n n n (szI A) n n)
structure aoU (A V Z:List Nat) (n:Nat):Prop where
  hn:n≤512
  fit:Nm A Z Z V n n n
theorem alA{A V Z:List Nat}{n:Nat}(h:aoU A V Z n) :gB (n:Int) (n:Int) A V (n:Int) (n:Int) Z=some (.r0 (aoT A V Z n) 0):=by
  have hn:=h.hn
  have f:=h.fit
  have bA:=f.bA
  have bX:=f.bX
  have bV:=f.bV
  have mA:=V3 hn hn f.hA
  have mZ:=V3 hn hn f.hX
  have hV:((V.length:Nat):Int)=(n:Int):=by rw [f.hV]
  obtain ⟨k1,a1,a2⟩:=Kl f.wA f.fA (by omega)
  obtain ⟨k2,b1,b2⟩:=Kl f.wX f.fX (by omega)
  obtain ⟨k3,c1,c2⟩:=Kl f.wV f.fV (by omega)
  obtain ⟨B,d1,d2,d3⟩:=acm hn hn
  obtain ⟨S,s1,s2,s3⟩:=afk f.wA mA (oE.2 f.fA)
  have hS:=aqi f.wA f.fA (by omega)
  have t8:(Gq (n:Int) (n:Int) A V (n:Int) (n:Int) Z).run=some (.inl ()):=by
    unfold Gq
    rw [aq,aq,aq,cC,cC,mA,mZ,a1,b1,c1]
    exact (aX (ae (aG (ae (aK (ae (aX (ae (aG (ae (aK (ae (aK (aK (cy (by rw [bne_self_eq_false]) (cy (by rw [hV,bne_self_eq_false]) (cy (by simp) (aX (ae (aG (ae (cy a2 (ae (aX (ae (aG (ae (cy b2 (ae (aX (ae (aG (ae (cy c2 (ae (aK rfl))))))))))))))))))))))))))))))))))))
  have t9:(Gr V).run=some (.inl (!(ano V))):=by
    unfold Gr
    rw [aq,ajL f.wV f.fV (by omega)]
    exact (aG (ae rfl))
  unfold aoT
  cases hsrt:ano V
  · rw [hsrt] at t9
    exact aY (ag t8 (ag t9 (bK (aX rfl))))
  · rw [hsrt] at t9
    have p1:=anm (m:=n) (n:=n) f.wX f.fX f.hX hn hn hn hn
    have p2:=ann (m:=n) (n:=n) f rfl hS hn hn
    refine aY (ag t8 (ag t9 (ag (a:=(0,nS (bI n n),aC (nM (bI n n)) B,0,nl (nM (bI n n)),nE (bI n n) (-106))) ?_ (ag (a:=(0,nS (szI A),aC (nM (szI A)) S,0,nl (nM (szI A)),nE (szI A) (-2148))) ?_ (ag (a:=false) (aK rfl) (ag (a:=(gOK Z n n n n && rOK A Z Z V n n n (szI A) n n,0)) ?_ rfl))))))
    · show (DE _ _).run=_
      unfold DE
      rw [d1]
      exact (aK (ae rfl))
    · show (DF _ _ _).run=_
      unfold DF
      rw [aq,s1]
      exact (aG (ae rfl))
    · show (DG _ _ _ _ _ _ _ _ _ _ _ _ _ _ _ _ _ _ _ _).run=_
      unfold DG
      rw [aq,aq,aq,ch d2,ch s2,p1,p2]
      simp only [vI,wu,oA,vO,wv,oB]
      cases gOK Z n n n n
      · exact (aK (aX (ae (aG (di (bo d2) (ae (aX rfl)))))))
      · cases rOK A Z Z V n n n (szI A) n n
        · exact (aK (aX (ae (aG (di (bo d2) (ae (aK (aK (ae (aX (ae (aG (aG (aG (di (bo d2) (di (bo s2) (ae (aX rfl))))))))))))))))))
        · exact (aK (aX (ae (aG (di (bo d2) (ae (aK (aK (ae (aX (ae (aG (aG (aG (di (bo d2) (di (bo s2) (ae (aK (aK (ae (aK rfl)))))))))))))))))))))
end Go.Plb.Seat
namespace Go.Plb.Seat
open Go Go.Plb
set_option linter.unusedSimpArgs false
set_option linter.unusedVariables false
def kA:List Nat:=[4611686018427387904,0,0,4613937818241073152]
def kI:List Nat:=[4607182418800017408,0,0,4607182418800017408]
theorem ajM{l:List Nat}(h:∀ x,x ∈ l→x < RL) :Wd l:=by
  intro i
  rw [List.getD_eq_getElem?_getD]
  cases q:l[i]? with
  | none=>decide
  | some x=>exact h x (List.mem_of_getElem? q)
theorem ajN{l:List Nat}(h:∀ x,x ∈ l→xV x=true) :Fn l:=by
  intro i hi
  rw [List.getD_eq_getElem?_getD]
  cases q:l[i]? with
  | none=>rw [List.getElem?_eq_none_iff] at q;omega
  | some x=>exact h x (List.mem_of_getElem? q)
theorem aqq{V:List Nat}(hV:V.length=2)(wV:∀ x,x ∈ V→x < RL)(fV:∀ x,x ∈ V→xV x=true) :aoU kA V kI 2 :=
  ⟨by omega,rfl,rfl,rfl,hV,by omega,by omega,by omega,ajM (by decide),ajM (by decide),ajM (by decide),ajM wV,ajN (by decide),ajN (by decide),ajN (by decide),ajN fV⟩
theorem aq0:na 2=some (.r0 2 4 kI):=by
  refine aY (ag (a:=(4,[0,0,0,0])) (ae (ae (ae (ae (ae rfl))))) (ag (a:=kI) (cD (fun j=>(j,bif Nat.beq j 0 then [0,0,0,0] else bif Nat.beq j 1 then [4607182418800017408,0,0,0] else kI)) 2 rfl (fun j hj=>?_) ?_) rfl))
  · have:j=0∨j=1:=by omega
    rcases this with rfl | rfl
    · exact (aX (ae (ae (ae (ae (ae rfl))))))
    · exact (aX (ae (ae (ae (ae (ae rfl))))))
  · exact (aK rfl)
theorem kx:aoT kA [4611686018427387904,4613937818241073152] kI 2=true:=by decide +kernel
theorem ky:aoT kA [4613937818241073152,4611686018427387904] kI 2=false:=by decide +kernel
theorem kz:aoT kA [4611686018427387904,4613940070040886837] kI 2=false:=by decide +kernel
theorem ksz:szI [4613937818241073152,4616189618054758400]=25 * P2 2148:=by decide +kernel
theorem aqr{v:Nat}(h0:v ≠ 0)(h:v < W) :nl v=1:=by
  have h1:=ju (n:=1) (by rw [Nat.pow_one];exact h)
  have h2:=B4 h0
  omega
theorem kb:nS (bI 1 1)=false∧nM (bI 1 1)=1∧nE (bI 1 1) (-106) = -94:=by
  have e:bI 1 1=4096:=by decide
  have t:tz 4096=12:=NG (by decide) (by decide)
  rw [e]
  refine ⟨by decide,?_,?_⟩
  · show 4096 / 2 ^ tz 4096=1
    rw [t]
  · rw [lr (by decide)]
    show -106+((tz 4096:Nat):Int) = -94
    rw [t];rfl
theorem alB:jC=some (.r0 true):=by
  have fx:=aqq (V:=[4611686018427387904,4613937818241073152]) rfl (by decide) (by decide)
  have fy:=aqq (V:=[4613937818241073152,4611686018427387904]) rfl (by decide) (by decide)
  have fz':=aqq (V:=[4611686018427387904,4613940070040886837]) rfl (by decide) (by decide)
  have sx:=alA fx
  have sy:=alA fy
  have sz:=alA fz'
  rw [kx] at sx
  rw [ky] at sy
  rw [kz] at sz
  obtain ⟨B,b1,b2,b3⟩:=acm (m:=1) (n:=1) (by omega) (by omega)
  obtain ⟨S,s1,s2,s3⟩:=afk (r:=1) (c:=2) (l:=[4613937818241073152,4616189618054758400]) (ajM (by decide)) (by decide) (oE.2 (ajN (by decide)))
  obtain ⟨k1,k2,k3⟩:=kb
  obtain ⟨q1,q2,q3⟩:=aos 25 2148 (-2148)
  have q4:szI [4613937818241073152,4616189618054758400]=25 * ((2 ^ 2148:Nat):Int):=ksz
  rw [← q4] at q1 q2 q3
  rw [show (-2148:Int)+((2148:Nat):Int)=0 by omega] at q3
  rw [← q1,← q2,← q3] at s1
  rw [← q2] at s2
  have w1:=Yi (n:=25) (by omega)
  have h1:gU (-94)=some (.r0 0 false 1 (-94) [1]):=rfl
  have one1:aC 1 (nl 1) = [(1:Int)]:=by rw [aqr (by decide) (by decide)];rfl
  have m25:nl (nM (25:Int))≤1:=Nat.le_trans apE (ju (by decide))
  refine aY (ag (a:=(2,4,kA,kI)) ?_ (ag (a:=(true,0)) ?_ (ag (a:=(false,0)) ?_ (ag (a:=(false,0)) ?_ (ag (a:=(0,nS (bI 1 1),aC (nM (bI 1 1)) B,0,nl (nM (bI 1 1)),nE (bI 1 1) (-106))) ?_ (ag (a:=(false,[1],1,-94)) ?_ (ag (a:=(0,nS 25,aC (nM 25) S,0,nl (nM 25),nE 25 0)) ?_ (ag (a:=true) ?_ rfl))))))))
  · unfold Cx
    rw [aq0]
    exact (ae rfl)
  · show (wz _ _ _ _).run=_
    unfold wz
    have sx':gB 2 2 (aa 0 4 kA) (aa 0 2 [4611686018427387904,4613937818241073152]) 2 2 (aa 0 4 kI)=some (.r0 true 0):=sx
    rw [sx']
    exact (ae (ae (ae (ae rfl))))
  · show (wB _ _ _ _).run=_
    unfold wB
    have sx':gB 2 2 (aa 0 4 kA) (aa 0 2 [4613937818241073152,4611686018427387904]) 2 2 (aa 0 4 kI)=some (.r0 false 0):=sy
    rw [sx']
    exact (ae (ae (ae (ae rfl))))
  · show (wC _ _ _ _).run=_
    unfold wC
    have sx':gB 2 2 (aa 0 4 kA) (aa 0 2 [4611686018427387904,4613940070040886837]) 2 2 (aa 0 4 kI)=some (.r0 false 0):=sz
    rw [sx']
    exact (ae (ae (ae (ae rfl))))
  · show wD.run=_
    have b1':cQ 1 1=_:=b1
    unfold wD
    rw [b1']
    exact (ae rfl)
  · show wE.run=_
    unfold wE
    rw [h1]
    exact (ae rfl)
  · show wF.run=_
    have s1':dp 1 2 (aa 0 2 [4613937818241073152,4616189618054758400])=_:=s1
    unfold wF
    rw [s1']
    exact (ae (ae rfl))
  · show (wG _ _ _ _ _ _ _ _ _ _ _ _ _ _ _ _ _ _ _ _ _ _).run=_
    unfold wG
    have w1':bL 25=some (.r0 (nS 25) (aC (nM 25) (nl (nM 25))) (nl (nM 25)) (nE 25 0)):=w1
    have c1:aa 0 1 [(1:Int)] = [1]:=rfl
    have l1:aC 1 1 = [(1:Int)]:=rfl
    rw [ch b2,k1,k2,k3,one1,c1,w1']
    simp only [nW,kK,jk,jl,kL]
    rw [ch s2,bQ au,V2 (nS 25) (nE 25 0) (n:=nl (nM 25)) (by omega),← l1,V2 false (-94) (by omega)]
    refine (aX (aX (aX (aX (aX (aX (aX (aX (di (bo (by rw [k2] at b2;exact b2)) (ae (ae (aX (ae (di (bo s2) (dY (ae rfl))))))))))))))))
end Go.Plb.Seat
namespace Go.Plb.Seat
open Go Go.Plb
set_option linter.unusedSimpArgs false
set_option linter.unusedVariables false
theorem alC:l7 false [] 0 [] 0=some (.r0 true):=by
  have h:mN [] []=some (.r0 true):=afj (v:=0) (n:=0) (by omega)
  refine aY (ag (a:=true) ?_ rfl)
  unfold Ae
  rw [aq,h]
  exact (aX (aG (aG (ae (aX rfl)))))
theorem apo{a0 a1 x0 x1 y0 y1:Int}{A X Y V:List Nat}(wA:Wd A)(wX:Wd X)(wY:Wd Y)(wV:Wd V) :n6 a0 a1 A x0 x1 X y0 y1 Y V=some (.r0 true):=by
  have k:=alB
  have t9:(mP true).run=some (.inr (.r0 true)):=by
    unfold mP
    rw [k]
    exact (aX (ae rfl))
  by_cases hA:A.length > 36
  · exact aY (ag (a:=true) (aX (ae (lU (by rw [decide_eq_true_eq];omega) rfl))) (bK t9))
  by_cases hX:X.length > 36
  · exact aY (ag (a:=true) (aX (ae (cy (by rw [decide_eq_false_iff_not];omega) (ae (aX (ae (lU (by rw [decide_eq_true_eq];omega) rfl))))))) (bK t9))
  by_cases hY:Y.length > 36
  · exact aY (ag (a:=true) (aX (ae (cy (by rw [decide_eq_false_iff_not];omega) (ae (aX (ae (cy (by rw [decide_eq_false_iff_not];omega) (ae (aX (ae (lU (by rw [decide_eq_true_eq];omega) rfl))))))))))) (bK t9))
  by_cases hV:V.length > 36
  · refine aY (ag (a:=true) ?_ (bK t9))
    refine (aX (ae (cy (by rw [decide_eq_false_iff_not];omega) (ae (aX (ae (cy (by rw [decide_eq_false_iff_not];omega) (ae (aX (ae (cy (by rw [decide_eq_false_iff_not];omega) (ae (aK ?_)))))))))))))
    show some (Sum.inl (decide _))=_
    rw [decide_eq_true (by omega)]
  have t8:(rE A X Y V).run=some (.inl false):=by
    refine (aX (ae (cy (by rw [decide_eq_false_iff_not];omega) (ae (aX (ae (cy (by rw [decide_eq_false_iff_not];omega) (ae (aX (ae (cy (by rw [decide_eq_false_iff_not];omega) (ae (aK ?_)))))))))))))
    show some (Sum.inl (decide _))=_
    rw [decide_eq_false (by omega)]
  refine aY (ag t8 (ag (a:=()) rfl ?_))
  have err:∀ e:Nat,e ≠ 0→bN a0 a1 A x0 x1 X y0 y1 Y V=some (.r0 e false [] 0 0 0)→(bD a0 a1 A x0 x1 X y0 y1 Y V).run=some (.inl e) →
      (aH (jo a0 a1 A x0 x1 X y0 y1 Y V).run fun (e2,b3,l4,a5,a6,i7)=>aH ((bD a0 a1 A x0 x1 X y0 y1 Y V).run) fun want8=>aH ((jp e2 b3 l4 a5 a6 i7 want8).run) fun _=>aH ((jq a1 A x1 X y0 y1 Y V b3 l4 a5 a6 i7).run) fun b9=>(qy b9).run)=some (.inr (.r0 true)):=by
    intro e he h1 h2
    refine ag (a:=(e,false,[],0,0,0)) ?_ (ag h2 (bK ?_))
    · unfold jo
      rw [aq,aq,aq,aq,h1]
      exact (aG (aG (aG (aG (ae rfl)))))
    · have s2:l7 false (aa 0 0 []) 0 [] 0=some (.r0 true):=alC
      show (jp _ _ _ _ _ _ _).run=_
      unfold jp
      rw [s2,k]
      exact (cy (by rw [bne_self_eq_false]) (lU (by rw [bne_iff_ne];omega) (ae (ae (aX (ae rfl))))))
  have fA:=NO wA (by omega)
  have fX:=NO wX (by omega)
  have fY:=NO wY (by omega)
  have fV:=NO wV (by omega)
  obtain ⟨k1,i1,j1⟩:=FD wA (by omega)
  obtain ⟨k2,i2,j2⟩:=FD wX (by omega)
  obtain ⟨k3,i3,j3⟩:=FD wY (by omega)
  obtain ⟨k4,i4,j4⟩:=FD wV (by omega)
  have T5:∀ {y:c8},(cP a0 a1 A x0 x1 X y0 y1 Y V).run=some (.inr y)→bN a0 a1 A x0 x1 X y0 y1 Y V=some y:=fun h=>aY (bK h)
  by_cases mA:RM a0 a1 A.length=false
  · refine err 2 (by omega) (T5 ?_) ?_
    · unfold cP
      rw [aq,cC,mA]
      exact (aX (ae (aG (ae (aX (aX rfl))))))
    · unfold bD
      rw [aq,cA,mA]
      exact (aG (ae (aX rfl)))
  rw [Bool.not_eq_false] at mA
  by_cases mX:RM x0 x1 X.length=false
  · refine err 2 (by omega) (T5 ?_) ?_
    · unfold cP
      rw [aq,aq,cC,cC,mA,mX]
      exact (aX (ae (aG (ae (aK (ae (aX (ae (aG (ae (aX (aX rfl))))))))))))
    · unfold bD
      rw [aq,aq,cA,cA,mA,mX]
      exact (aG (ae (aK (aG (ae (aX rfl))))))
  rw [Bool.not_eq_false] at mX
  by_cases mY:RM y0 y1 Y.length=false
  · refine err 2 (by omega) (T5 ?_) ?_
    · unfold cP
      rw [aq,aq,aq,cC,cC,cC,mA,mX,mY]
      exact (aX (ae (aG (ae (aK (ae (aX (ae (aG (ae (aK (ae (aX (ae (aG (ae (aX (aX rfl))))))))))))))))))
    · unfold bD
      rw [aq,aq,aq,cA,cA,cA,mA,mX,mY]
      exact (aG (ae (aK (aG (ae (aK (aG (ae (aX rfl)))))))))
  rw [Bool.not_eq_false] at mY
  have U5:cP a0 a1 A x0 x1 X y0 y1 Y V=cP a0 a1 A x0 x1 X y0 y1 Y V:=rfl
  by_cases g1:x0 ≠ a1
  · refine err 8 (by omega) (T5 ?_) ?_
    · unfold cP
      rw [aq,aq,aq,cC,cC,cC,mA,mX,mY]
      exact (aX (ae (aG (ae (aK (ae (aX (ae (aG (ae (aK (ae (aX (ae (aG (ae (aK (ae (aK (aK (lU (by rw [beq_eq_false_iff_ne.2 g1];rfl) rfl)))))))))))))))))))))
    · unfold bD
      rw [aq,aq,aq,cA,cA,cA,mA,mX,mY]
      exact (aG (ae (aK (aG (ae (aK (aG (ae (aK (lU (bne_iff_ne.2 g1) rfl))))))))))
  rw [ne_eq,Decidable.not_not] at g1
  have b1:(!(x0 == a1 && x1 == x1))=false:=by rw [beq_iff_eq.2 g1];simp
  have c1:(x0 != a1)=false:=by rw [bne_eq_false_iff_eq];exact g1
  by_cases g2:y0 ≠ a0
  · refine err 8 (by omega) (T5 ?_) ?_
    · unfold cP
      rw [aq,aq,aq,cC,cC,cC,mA,mX,mY]
      exact (aX (ae (aG (ae (aK (ae (aX (ae (aG (ae (aK (ae (aX (ae (aG (ae (aK (ae (aK (aK (cy b1 (lU (by rw [beq_eq_false_iff_ne.2 g2];rfl) rfl))))))))))))))))))))))
    · unfold bD
      rw [aq,aq,aq,cA,cA,cA,mA,mX,mY]
      exact (aG (ae (aK (aG (ae (aK (aG (ae (aK (cy c1 (lU (bne_iff_ne.2 g2) rfl)))))))))))
  rw [ne_eq,Decidable.not_not] at g2
  have c2:(y0 != a0)=false:=by rw [bne_eq_false_iff_eq];exact g2
  by_cases g3:y1 ≠ x1
  · refine err 8 (by omega) (T5 ?_) ?_
    · unfold cP
      rw [aq,aq,aq,cC,cC,cC,mA,mX,mY]
      exact (aX (ae (aG (ae (aK (ae (aX (ae (aG (ae (aK (ae (aX (ae (aG (ae (aK (ae (aK (aK (cy b1 (lU (by rw [beq_iff_eq.2 g2,beq_eq_false_iff_ne.2 g3];rfl) rfl))))))))))))))))))))))
    · unfold bD
      rw [aq,aq,aq,cA,cA,cA,mA,mX,mY]
      exact (aG (ae (aK (aG (ae (aK (aG (ae (aK (cy c1 (cy c2 (lU (bne_iff_ne.2 g3) rfl))))))))))))
  rw [ne_eq,Decidable.not_not] at g3
  have b2:(!(y0 == a0 && y1 == x1))=false:=by rw [beq_iff_eq.2 g2,beq_iff_eq.2 g3];rfl
  have c3:(y1 != x1)=false:=by rw [bne_eq_false_iff_eq];exact g3
  by_cases g4:((V.length:Nat):Int) ≠ x1
  · refine err 8 (by omega) (T5 ?_) ?_
    · unfold cP
      rw [aq,aq,aq,cC,cC,cC,mA,mX,mY]
      exact (aX (ae (aG (ae (aK (ae (aX (ae (aG (ae (aK (ae (aX (ae (aG (ae (aK (ae (aK (aK (cy b1 (cy b2 (lU (bne_iff_ne.2 g4) rfl)))))))))))))))))))))))
    · unfold bD
      rw [aq,aq,aq,cA,cA,cA,mA,mX,mY]
      exact (aG (ae (aK (aG (ae (aK (aG (ae (aK (cy c1 (cy c2 (cy c3 (lU (bne_iff_ne.2 g4) rfl)))))))))))))
  rw [ne_eq,Decidable.not_not] at g4
  have c4:(((V.length:Nat):Int) != x1)=false:=by rw [bne_eq_false_iff_eq];exact g4
  by_cases hA_:ael A=false
  · rw [hA_] at fA j1
    refine err 10 (by omega) (T5 ?_) ?_
    · unfold cP
      rw [aq,aq,aq,aq,cC,cC,cC,mA,mX,mY,i1,i2,i3,i4]
      exact (aX (ae (aG (ae (aK (ae (aX (ae (aG (ae (aK (ae (aX (ae (aG (ae (aK (ae (aK (aK (cy b1 (cy b2 (cy c4 (aX (ae (aG (ae (lU j1 rfl))))))))))))))))))))))))))))
    · unfold bD
      rw [aq,aq,aq,aq,cA,cA,cA,mA,mX,mY,fA,fX,fY,fV]
      exact (aG (ae (aK (aG (ae (aK (aG (ae (aK (cy c1 (cy c2 (cy c3 (cy c4 (aG (ae (aX rfl))))))))))))))))
  rw [Bool.not_eq_false] at hA_
  rw [hA_] at fA j1
  by_cases hX_:ael X=false
  · rw [hX_] at fX j2
    refine err 10 (by omega) (T5 ?_) ?_
    · unfold cP
      rw [aq,aq,aq,aq,cC,cC,cC,mA,mX,mY,i1,i2,i3,i4]
      exact (aX (ae (aG (ae (aK (ae (aX (ae (aG (ae (aK (ae (aX (ae (aG (ae (aK (ae (aK (aK (cy b1 (cy b2 (cy c4 (aX (ae (aG (ae (cy j1 (ae (aX (ae (aG (ae (lU j2 rfl))))))))))))))))))))))))))))))))))
    · unfold bD
      rw [aq,aq,aq,aq,cA,cA,cA,mA,mX,mY,fA,fX,fY,fV]
      exact (aG (ae (aK (aG (ae (aK (aG (ae (aK (cy c1 (cy c2 (cy c3 (cy c4 (aG (ae (aK (aG (ae (aX rfl)))))))))))))))))))
  rw [Bool.not_eq_false] at hX_
  rw [hX_] at fX j2
  by_cases hY_:ael Y=false
  · rw [hY_] at fY j3
    refine err 10 (by omega) (T5 ?_) ?_
    · unfold cP
      rw [aq,aq,aq,aq,cC,cC,cC,mA,mX,mY,i1,i2,i3,i4]
      exact (aX (ae (aG (ae (aK (ae (aX (ae (aG (ae (aK (ae (aX (ae (aG (ae (aK (ae (aK (aK (cy b1 (cy b2 (cy c4 (aX (ae (aG (ae (cy j1 (ae (aX (ae (aG (ae (cy j2 (ae (aX (ae (aG (ae (lU j3 rfl))))))))))))))))))))))))))))))))))))))))
    · unfold bD
      rw [aq,aq,aq,aq,cA,cA,cA,mA,mX,mY,fA,fX,fY,fV]
      exact (aG (ae (aK (aG (ae (aK (aG (ae (aK (cy c1 (cy c2 (cy c3 (cy c4 (aG (ae (aK (aG (ae (aK (aG (ae (aX rfl))))))))))))))))))))))
  rw [Bool.not_eq_false] at hY_
  rw [hY_] at fY j3
  by_cases hV_:ael V=false
  · rw [hV_] at fV j4
    refine err 10 (by omega) (T5 ?_) ?_
    · unfold cP
      rw [aq,aq,aq,aq,cC,cC,cC,mA,mX,mY,i1,i2,i3,i4]
      exact (aX (ae (aG (ae (aK (ae (aX (ae (aG (ae (aK (ae (aX (ae (aG (ae (aK (ae (aK (aK (cy b1 (cy b2 (cy c4 (aX (ae (aG (ae (cy j1 (ae (aX (ae (aG (ae (cy j2 (ae (aX (ae (aG (ae (cy j3 (ae (aX (ae (aG (ae (lU j4 rfl))))))))))))))))))))))))))))))))))))))))))))))
    · unfold bD
      rw [aq,aq,aq,aq,cA,cA,cA,mA,mX,mY,fA,fX,fY,fV]
      exact (aG (ae (aK (aG (ae (aK (aG (ae (aK (cy c1 (cy c2 (cy c3 (cy c4 (aG (ae (aK (aG (ae (aK (aG (ae (aK (aG (ae (aX rfl)))))))))))))))))))))))))
  rw [Bool.not_eq_false] at hV_
  rw [hV_] at fV j4
  obtain ⟨r,c,e1,e2,hr,hc,hl,_⟩:=Zb mA
  obtain ⟨c',d,e3,e4,_,hd,hl2,_⟩:=Zb mX
  obtain ⟨r',d',e5,e6,_,_,hl3,_⟩:=Zb mY
  have q1:c'=c:=by omega
  have q2:r'=r:=by omega
  have q3:d'=d:=by omega
  rw [q1] at hl2
  rw [q2,q3] at hl3
  have ft:Nm A X Y V r c d:=⟨hl,hl2,hl3,by omega,hr,hc,hd,wA,wX,wY,wV,oE.1 hA_,oE.1 hX_,oE.1 hY_,oE.1 hV_⟩
  have want:(bD a0 a1 A x0 x1 X y0 y1 Y V).run=some (.inl 0):=by
    unfold bD
    rw [aq,aq,aq,aq,cA,cA,cA,mA,mX,mY,fA,fX,fY,fV]
    exact (aG (ae (aK (aG (ae (aK (aG (ae (aK (cy c1 (cy c2 (cy c3 (cy c4 (aG (ae (aK (aG (ae (aK (aG (ae (aK (aG (ae (aK rfl)))))))))))))))))))))))))
  have e3':x0=(c:Int):=by omega
  have e5':y0=(r:Int):=by omega
  have e6':y1=(d:Int):=by omega
  rw [e1,e2,e3',e4,e5',e6'] at want ⊢
  obtain ⟨N,n1,n2,n3⟩:=ajJ ft
  have rr:=anl ft
  refine ag (a:=(0,nS (KH A X Y V r c d),aC (nM (KH A X Y V r c d)) N,0,nl (nM (KH A X Y V r c d)),nE (KH A X Y V r c d) (-4296))) ?_ (ag want (ag (a:=()) (aK (aK rfl)) (ag (a:=true) ?_ rfl)))
  · unfold jo
    rw [aq,aq,aq,aq,n1]
    exact (aG (aG (aG (aG (ae rfl)))))
  · show (jq _ _ _ _ _ _ _ _ _ _ _ _ _).run=_
    unfold jq
    rw [aq,aq,aq,aq,rr]
    simp only [pI,mc,j6,j7,md]
    rw [ch n2,bQ au,V2 _ _ (by omega),k]
    exact (aG (aG (aG (aG (ae (di (bo n2) (dY (ae (aX (ae rfl))))))))))
end Go.Plb.Seat
namespace Go.Plb.Seat
open Go Go.Plb
set_option linter.unusedSimpArgs false
set_option linter.unusedVariables false
def tv(A:List Nat)(r c p:Nat) :Nat:=A.getD ((p % r) * c+p / r) 0
end Go.Plb.Seat
