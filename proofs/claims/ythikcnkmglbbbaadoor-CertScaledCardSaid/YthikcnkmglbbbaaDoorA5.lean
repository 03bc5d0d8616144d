/-
  Part 5 of what the claim leans on: an evaluator of the model, proved sound; the contracts of the functions.
-/
import Derived.Test.YthikcnkmglbbbaaDoorA4
namespace Go.Plb.Seat
open Go Go.Plb
set_option linter.unusedSimpArgs false
set_option linter.unusedVariables false
theorem ZM{a0 a1 z0 z1:Int}{A V Z:List Nat}(wA:Wd A)(wV:Wd V)(wZ:Wd Z)(lA:A.length≤1000000)(lV:V.length≤1000000)(lZ:Z.length≤1000000) :
    kj a0 a1 A V z0 z1 Z=some (.r0 (ZL a0 a1 A V z0 z1 Z)):=by
  have fA:=Ir wA (by omega)
  have fV:=Ir wV (by omega)
  have fZ:=Ir wZ (by omega)
  have t5:(qq a0 a1 A z0 z1 Z).run=some (.inl (!(Ai a0 a1 A.length&&Ai z0 z1 Z.length))):=by
    unfold qq
    rw [aB,aB,NX,NX]
    cases Ai a0 a1 A.length
    · exact (ba (ag (bj rfl)))
    · exact (ba (ag (aS (ba (ag rfl)))))
  unfold ZL
  by_cases h1:Ai a0 a1 A.length=false∨Ai z0 z1 Z.length=false
  · rw [if_pos h1]
    have e:(!(Ai a0 a1 A.length&&Ai z0 z1 Z.length))=true:=by rcases h1 with q | q<;>rw [q]<;>simp
    rw [e] at t5
    exact aR (ae t5 (be (bj rfl)))
  rw [if_neg h1]
  simp only [not_or,Bool.not_eq_false] at h1
  rw [h1.1,h1.2] at t5
  by_cases h2:a0≠a1∨((V.length:Nat):Int)≠a0∨z0≠a0∨z1≠a0
  · rw [if_pos h2]
    refine aR (ae t5 (ae (a:=true) ?_ (be (bj rfl))))
    show (jE _ _ _ _ _ _).run=_
    unfold jE
    refine aS ?_
    by_cases g1:a0=a1
    · refine co (by rw [bne_eq_false_iff_eq];exact g1) ?_
      by_cases g2:((V.length:Nat):Int)=a0
      · refine co (by rw [bne_eq_false_iff_eq];exact g2) ?_
        by_cases g3:z0=a0
        · refine co (by rw [bne_eq_false_iff_eq];exact g3) ?_
          have g4:z1≠a0:=by
            rcases h2 with q | q | q | q
            · exact absurd g1 q
            · exact absurd g2 q
            · exact absurd g3 q
            · exact q
          show some (Sum.inl (z1 != a0))=_
          rw [bne_iff_ne.2 g4]
        · exact j2 (bne_iff_ne.2 g3) rfl
      · exact j2 (bne_iff_ne.2 g2) rfl
    · exact j2 (bne_iff_ne.2 g1) rfl
  rw [if_neg h2]
  simp only [not_or,ne_eq,Decidable.not_not] at h2
  have t6:(jE a0 a1 V z0 z1 false).run=some (.inl false):=by
    unfold jE
    refine aS (co (by rw [bne_eq_false_iff_eq];exact h2.1) (co (by rw [bne_eq_false_iff_eq];exact h2.2.1) (co (by rw [bne_eq_false_iff_eq];exact h2.2.2.1) ?_)))
    show some (Sum.inl (z1 != a0))=_
    rw [h2.2.2.2,bne_self_eq_false]
  refine aR (ae t5 (ae t6 ?_))
  show aC (qr _ _ _ _).run _=_
  unfold qr
  rw [aB,aB,aB,fA,fV,fZ]
  cases E6 A
  · exact ae (a:=true) (aS (ba (ag (bj rfl)))) rfl
  cases E6 V
  · exact ae (a:=true) (aS (ba (ag (aS (ba (ag (bj rfl))))))) rfl
  cases E6 Z
  · exact ae (a:=true) (aS (ba (ag (aS (ba (ag (aS (ba (ag rfl))))))))) rfl
  · exact ae (a:=false) (aS (ba (ag (aS (ba (ag (aS (ba (ag rfl))))))))) rfl
def kA:List Nat:=[4611686018427387904,0,0,4613937818241073152]
def kI:List Nat:=[4607182418800017408,0,0,4607182418800017408]
theorem Xn{l:List Nat}(h:∀ x,x∈l→x<ya) :Wd l:=by
  intro i
  rw [List.getD_eq_getElem?_getD]
  cases q:l[i]? with
  | none=>decide
  | some x=>exact h x (List.mem_of_getElem? q)
theorem Xo{l:List Nat}(h:∀ x,x∈l→mF x=true) :Fn l:=by
  intro i hi
  rw [List.getD_eq_getElem?_getD]
  cases q:l[i]? with
  | none=>rw [List.getElem?_eq_none_iff] at q;omega
  | some x=>exact h x (List.mem_of_getElem? q)
theorem aeE{V:List Nat}(hV:V.length=2)(wV:∀ x,x∈V→x<ya)(fV:∀ x,x∈V→mF x=true) :T4 kA V kI 2 :=
  ⟨by omega,rfl,rfl,rfl,hV,by omega,by omega,by omega,Xn (by decide),Xn (by decide),Xn (by decide),Xn wV,Xo (by decide),Xo (by decide),Xo (by decide),Xo fV⟩
theorem aft:mg 2=some (.r0 2 4 kI):=by
  refine aR (ae (a:=(4,[0,0,0,0])) (ag (ag (ag (ag (ag rfl))))) (ae (a:=kI) (bU (fun j=>(j,bif Nat.beq j 0 then [0,0,0,0] else bif Nat.beq j 1 then [4607182418800017408,0,0,0] else kI)) 2 rfl (fun j hj=>?_) ?_) rfl))
  · have:j=0∨j=1:=by omega
    rcases this with rfl | rfl
    · exact (bj (ag (ag (ag (ag (ag rfl))))))
    · exact (bj (ag (ag (ag (ag (ag rfl))))))
  · exact (aS rfl)
theorem kx:It kA [4611686018427387904,4613937818241073152] kI 2=true:=by decide +kernel
theorem ky:It kA [4613937818241073152,4611686018427387904] kI 2=false:=by decide +kernel
theorem kz:It kA [4611686018427387904,4613940070040886837] kI 2=false:=by decide +kernel
theorem ksz:JG [4613937818241073152,4616189618054758400]=25*P2 2148:=by decide +kernel
theorem aeF{v:Nat}(h0:v≠0)(h:v<W) :nl v=1:=by
  have h1:=gZ (n:=1) (by rw [Nat.pow_one];exact h)
  have h2:=uR h0
  omega
theorem kb:nS (bI 1 1)=false∧nM (bI 1 1)=1∧nE (bI 1 1) (-106) = -94:=by
  have e:bI 1 1=4096:=by decide
  have t:tz 4096=12:=Cq (by decide) (by decide)
  rw [e]
  refine ⟨by decide,?_,?_⟩
  · show 4096/2^tz 4096=1
    rw [t]
  · rw [ka (by decide)]
    show -106+((tz 4096:Nat):Int) = -94
    rw [t];rfl
theorem N4:cU=some (.r0 true):=by
  have fx:=aeE (V:=[4611686018427387904,4613937818241073152]) rfl (by decide) (by decide)
  have fy:=aeE (V:=[4613937818241073152,4611686018427387904]) rfl (by decide) (by decide)
  have fz':=aeE (V:=[4611686018427387904,4613940070040886837]) rfl (by decide) (by decide)
  have sx:=N3 fx
  have sy:=N3 fy
  have sz:=N3 fz'
  rw [kx] at sx
  rw [ky] at sy
  rw [kz] at sz
  obtain ⟨B,b1,b2,b3⟩:=N0 (m:=1) (n:=1) (by omega) (by omega)
  obtain ⟨S,s1,s2,s3⟩:=RC (r:=1) (c:=2) (l:=[4613937818241073152,4616189618054758400]) (Xn (by decide)) (by decide) (js.2 (Xo (by decide)))
  obtain ⟨k1,k2,k3⟩:=kb
  obtain ⟨q1,q2,q3⟩:=acD 25 2148 (-2148)
  have q4:JG [4613937818241073152,4616189618054758400]=25*((2^2148:Nat):Int):=ksz
  rw [←q4] at q1 q2 q3
  rw [show (-2148:Int)+((2148:Nat):Int)=0 by omega] at q3
  rw [←q1,←q2,←q3] at s1
  rw [←q2] at s2
  have w1:=Xj (n:=25) (by omega)
  have h1:jQ (-94)=some (.r0 0 false 1 (-94) [1]):=rfl
  have one1:ay 1 (nl 1)=[(1:Int)]:=by rw [aeF (by decide) (by decide)];rfl
  have m25:nl (nM (25:Int))≤1:=Nat.le_trans adW (gZ (by decide))
  refine aR (ae (a:=(2,4,kA,kI)) ?_ (ae (a:=(true,0)) ?_ (ae (a:=(false,0)) ?_ (ae (a:=(false,0)) ?_ (ae (a:=(0,nS (bI 1 1),ay (nM (bI 1 1)) B,0,nl (nM (bI 1 1)),nE (bI 1 1) (-106))) ?_ (ae (a:=(false,[1],1,-94)) ?_ (ae (a:=(0,nS 25,ay (nM 25) S,0,nl (nM 25),nE 25 0)) ?_ (ae (a:=true) ?_ rfl))))))))
  · unfold Ah
    rw [aft]
    exact (ag rfl)
  · show (tw _ _ _ _).run=_
    unfold tw
    have sx':cS 2 2 (aa 0 4 kA) (aa 0 2 [4611686018427387904,4613937818241073152]) 2 2 (aa 0 4 kI)=some (.r0 true 0):=sx
    rw [sx']
    exact (ag (ag (ag (ag rfl))))
  · show (tx _ _ _ _).run=_
    unfold tx
    have sx':cS 2 2 (aa 0 4 kA) (aa 0 2 [4613937818241073152,4611686018427387904]) 2 2 (aa 0 4 kI)=some (.r0 false 0):=sy
    rw [sx']
    exact (ag (ag (ag (ag rfl))))
  · show (tA _ _ _ _).run=_
    unfold tA
    have sx':cS 2 2 (aa 0 4 kA) (aa 0 2 [4611686018427387904,4613940070040886837]) 2 2 (aa 0 4 kI)=some (.r0 false 0):=sz
    rw [sx']
    exact (ag (ag (ag (ag rfl))))
  · show tB.run=_
    have b1':cE 1 1=_:=b1
    unfold tB
    rw [b1']
    exact (ag rfl)
  · show tC.run=_
    unfold tC
    rw [h1]
    exact (ag rfl)
  · show tD.run=_
    have s1':c7 1 2 (aa 0 2 [4613937818241073152,4616189618054758400])=_:=s1
    unfold tD
    rw [s1']
    exact (ag (ag rfl))
  · show (tE _ _ _ _ _ _ _ _ _ _ _ _ _ _ _ _ _ _ _ _ _ _).run=_
    unfold tE
    have w1':cT 25=some (.r0 (nS 25) (ay (nM 25) (nl (nM 25))) (nl (nM 25)) (nE 25 0)):=w1
    have c1:aa 0 1 [(1:Int)]=[1]:=rfl
    have l1:ay 1 1=[(1:Int)]:=rfl
    rw [bp b2,k1,k2,k3,one1,c1,w1']
    simp only [mn,kq,iY,iZ,kr]
    rw [bp s2,ez az,RB (nS 25) (nE 25 0) (n:=nl (nM 25)) (by omega),←l1,RB false (-94) (by omega)]
    refine (bj (bj (bj (bj (bj (bj (bj (bj (cn (aT (by rw [k2] at b2;exact b2)) (ag (ag (bj (ag (cn (aT s2) (kt (ag rfl))))))))))))))))
end Go.Plb.Seat
namespace Go.Plb
set_option linter.unusedSimpArgs false
set_option linter.unusedVariables false
set_option linter.unusedSectionVars false
variable [Rom]
theorem CE(s:Bool)(m a b:Nat) :Ieee.signed s m (a+b)=Ieee.signed s m a*((2^b:Nat):Int):=by
  unfold Ieee.signed
  rw [Nat.shiftLeft_eq,Nat.shiftLeft_eq,Nat.pow_add,←Nat.mul_assoc,Int.natCast_mul (m*2^a) (2^b)]
  cases s
  · rfl
  · rw [if_pos rfl,if_pos rfl,Int.neg_mul]
theorem CF(s:Bool)(m a:Nat) :Ieee.signed s m a=sg s (m*2^a):=by
  unfold Ieee.signed sg
  rw [Nat.shiftLeft_eq]
theorem Xp{x:Nat}(hx:x<ya) :(x/9223372036854775808%2==1)=(x/9223372036854775808==1):=by
  have hx:x<18446744073709551616:=hx
  have:x/9223372036854775808%2=x/9223372036854775808:=by omega
  rw [this]
theorem ac7{x y:Nat}(hx:x<ya)(hy:y<ya)(fx:mF x=true)(fy:mF y=true) :flt x y=decide (fz x<fz y):=by
  unfold flt qF Ieee.Format.order
  rw [AR hx fx,AR hy fy,Xp hx,Xp hy]
  unfold fz
  generalize (x/9223372036854775808==1)=s
  generalize (y/9223372036854775808==1)=t
  generalize qI (x%9223372036854775808)=m
  generalize qI (y%9223372036854775808)=n
  generalize iw (x%9223372036854775808)=i
  generalize iw (y%9223372036854775808)=j
  simp only [Ieee.Datum.order]
  have e1:((-1074+(i:Int))-min (-1074+(i:Int)) (-1074+(j:Int))).toNat=i-min i j:=by omega
  have e2:((-1074+(j:Int))-min (-1074+(i:Int)) (-1074+(j:Int))).toNat=j-min i j:=by omega
  rw [e1,e2,←CF,←CF]
  have h1:Ieee.signed s m i=Ieee.signed s m (i-min i j)*((2^(min i j):Nat):Int):=by rw [←CE];congr 1;omega
  have h2:Ieee.signed t n j=Ieee.signed t n (j-min i j)*((2^(min i j):Nat):Int):=by rw [←CE];congr 1;omega
  rw [h1,h2]
  have hp:(0:Int)<((2^(min i j):Nat):Int):=by have:=Nat.pow_pos (n:=min i j) (show 0<2 by decide);omega
  generalize Ieee.signed s m (i-min i j)=a
  generalize Ieee.signed t n (j-min i j)=b
  generalize ((2^(min i j):Nat):Int)=p at hp
  have e:(a*p<b*p)↔a<b:=⟨fun h=>Int.lt_of_mul_lt_mul_right h (Int.le_of_lt hp),fun h=>Int.mul_lt_mul_of_pos_right h hp⟩
  have e3:(some (compare a b)==some Ordering.lt)=decide (a<b):=by
    rw [Bool.eq_iff_iff,decide_eq_true_eq,beq_iff_eq,Option.some.injEq]
    exact Int.compare_eq_lt
  rw [e3,Bool.eq_iff_iff,decide_eq_true_eq,decide_eq_true_eq]
  exact e.symm
def tX(x:Nat)(p:Int) :Nat:=((x:Int)+p*4503599627370496).toNat
def Mid(x:Nat) :Prop:=2805742567851819008≤x%9223372036854775808∧x%9223372036854775808≤6408622269748215808
theorem N5{x:Nat}{p:Int}(hx:x<ya)(h:Mid x)(hp : -300≤p∧p≤300) :
    tX x p<ya∧tX x p/9223372036854775808=x/9223372036854775808∧tX x p%4503599627370496=x%4503599627370496∧((tX x p%9223372036854775808/4503599627370496:Nat):Int)=((x%9223372036854775808/4503599627370496:Nat):Int)+p
      ∧ 323≤tX x p%9223372036854775808/4503599627370496∧tX x p%9223372036854775808/4503599627370496≤1723:=by
  have hx:x<18446744073709551616:=hx
  obtain ⟨h1,h2⟩:=h
  unfold tX
  show ((x:Int)+p*4503599627370496).toNat<18446744073709551616∧_
  omega
theorem T5{x:Nat}(hx:x<ya)(h:x%9223372036854775808/4503599627370496≤2000) :mF x=true:=by
  unfold mF Al
  rw [bne_iff_ne]
  have hx:x<18446744073709551616:=hx
  omega
theorem aeG{x:Nat}{p:Int}(hx:x<ya)(h:Mid x)(hp : -300≤p∧p≤300) :mF (tX x p)=true:=by
  obtain ⟨a,b,c,d,e,f⟩:=N5 hx h hp
  exact T5 a (by omega)
theorem aff{x:Nat}{p:Int}{a b:Nat}(hx:x<ya)(h:Mid x)(hp : -300≤p∧p≤300)(hab:p=(a:Int)-(b:Int)) :fz (tX x p)*((2^b:Nat):Int)=fz x*((2^a:Nat):Int):=by
  obtain ⟨t1,t2,t3,t4,t5,t6⟩:=N5 hx h hp
  obtain ⟨h1,h2⟩:=h
  unfold fz
  rw [t2]
  have m:qI (tX x p%9223372036854775808)=qI (x%9223372036854775808):=by
    unfold qI
    rw [if_neg (by omega),if_neg (by omega)]
    omega
  have e:iw (tX x p%9223372036854775808)+b=iw (x%9223372036854775808)+a:=by
    unfold iw
    omega
  rw [m,←CF,←CF,←CE,←CE,e]
def tY(x:Nat)(p:Int) :Nat:=if x%9223372036854775808=0 then x else tX x p
theorem aaC{x:Nat}(h:x%9223372036854775808=0) :fz x=0:=by
  unfold fz
  rw [h]
  show sg _ (qI 0*_)=0
  rw [show qI 0=0 from rfl,Nat.zero_mul]
  cases (x/9223372036854775808==1)<;>rfl
def In4(x:Nat) :Prop:=x%9223372036854775808=0∨Mid x
theorem afg{x:Nat}{p:Int}{a b:Nat}(hx:x<ya)(h:In4 x)(hp : -300≤p∧p≤300)(hab:p=(a:Int)-(b:Int)) :fz (tY x p)*((2^b:Nat):Int)=fz x*((2^a:Nat):Int):=by
  unfold tY
  by_cases q:x%9223372036854775808=0
  · rw [if_pos q,aaC q,Int.zero_mul,Int.zero_mul]
  · rw [if_neg q]
    rcases h with z | z
    · exact absurd z q
    · exact aff hx z hp hab
theorem afh{x:Nat}{p:Int}(hx:x<ya)(h:In4 x)(hp : -300≤p∧p≤300) :tY x p<ya:=by
  unfold tY
  by_cases q:x%9223372036854775808=0
  · rw [if_pos q];exact hx
  · rw [if_neg q]
    rcases h with z | z
    · exact absurd z q
    · exact (N5 hx z hp).1
theorem aeH{x:Nat}{p:Int}(hx:x<ya)(h:In4 x)(hp : -300≤p∧p≤300) :mF (tY x p)=true:=by
  unfold tY
  by_cases q:x%9223372036854775808=0
  · rw [if_pos q];exact T5 hx (by omega)
  · rw [if_neg q]
    rcases h with z | z
    · exact absurd z q
    · exact aeG hx z hp
theorem Hs{f g:Nat→Int}{c:Int} :∀ {n:Nat},(∀ i,i<n→g i=f i*c)→gr g n=gr f n*c
  | 0,_=>by simp only [gr,Int.zero_mul]
  | n+1,h=>by simp only [gr];rw [Hs fun i hi=>h i (by omega),h n (by omega),Int.add_mul]
structure Sc (P:Int) (A B:List Nat):Prop where
  pos:0<P
  len:B.length=A.length
  all:∀ i,gz B i=gz A i*P
end Go.Plb
namespace Go.Plb.Seat
open Go Go.Plb
set_option linter.unusedSimpArgs false
set_option linter.unusedVariables false
section
variable {P : Int} {A B V U Z : List Nat}
theorem aeI(h:Sc P A B)(wA:Wd A)(wB:Wd B)(fA:Fn A)(fB:Fn B) :T3 B=T3 A:=by
  have hl:=h.len
  have e:∀ j,j<A.length-1→flt (B.getD (j+1) 0) (B.getD j 0)=flt (A.getD (j+1) 0) (A.getD j 0):=by
    intro j hj
    rw [ac7 (wB _) (wB _) (fB _ (by omega)) (fB _ (by omega)),ac7 (wA _) (wA _) (fA _ (by omega)) (fA _ (by omega))]
    have e1:fz (B.getD (j+1) 0)=fz (A.getD (j+1) 0)*P:=h.all (j+1)
    have e2:fz (B.getD j 0)=fz (A.getD j 0)*P:=h.all j
    rw [e1,e2,Bool.eq_iff_iff,decide_eq_true_eq,decide_eq_true_eq]
    exact ⟨fun q=>Int.lt_of_mul_lt_mul_right q (Int.le_of_lt h.pos),fun q=>Int.mul_lt_mul_of_pos_right q h.pos⟩
  unfold T3
  rw [Bool.eq_iff_iff,decide_eq_true_eq,decide_eq_true_eq,hl]
  exact ⟨fun q j hj=>by rw [←e j hj];exact q j hj,fun q j hj=>by rw [e j hj];exact q j hj⟩
theorem afi(hA:Sc P A B)(hV:Sc P V U)(c d i k:Nat) :tR B Z Z U c d i k=tR A Z Z V c d i k*P:=by
  unfold tR
  rw [Hs (f:=fun j=>gz A (i*c+j)*gz Z (j*d+k)) (c:=P) (fun j _=>by rw [hA.all];exact Int.mul_right_comm _ _ _),hV.all,Int.sub_mul,Int.mul_assoc]
theorem aeJ(hA:Sc P A B)(hV:Sc P V U)(r c d:Nat) :E8 B Z Z U r c d=E8 A Z Z V r c d*(P*P):=by
  unfold E8
  refine Hs fun p _=>?_
  unfold gR
  rw [afi hA hV]
  ac_rfl
theorem aeK(hA:Sc P A B) :JG B=JG A*(P*P):=by
  unfold JG
  rw [hA.len]
  refine Hs fun p _=>?_
  rw [hA.all]
  ac_rfl
theorem aeL(hA:Sc P A B)(hV:Sc P V U)(n:Nat) :rOK B Z Z U n n n (JG B) n n=rOK A Z Z V n n n (JG A) n n:=by
  have hQ:0<P*P:=Int.mul_pos hA.pos hA.pos
  unfold rOK
  rw [aeJ hA hV,aeK hA]
  generalize P2 2042=q2
  have e:bI n n*(JG A*(P*P))*q2=bI n n*JG A*q2*(P*P):=by ac_rfl
  rw [e,Bool.eq_iff_iff,decide_eq_true_eq,decide_eq_true_eq]
  exact ⟨fun q=>Int.le_of_mul_le_mul_right q hQ,fun q=>Int.mul_le_mul_of_nonneg_right q (Int.le_of_lt hQ)⟩
theorem ac8(hA:Sc P A B)(hV:Sc P V U)(wV:Wd V)(wU:Wd U)(fV:Fn V)(fU:Fn U)(n:Nat) :It B U Z n=It A V Z n:=by
  unfold It
  rw [aeI hV wV wU fV fU,aeL hA hV]
end
theorem aeM{x E:Nat}{p:Int}(hE:((x%9223372036854775808/4503599627370496:Nat):Int)+p=(E:Int)) :Int.toNat ((x/9223372036854775808*9223372036854775808+E*4503599627370496+x%4503599627370496:Nat):Int)=tX x p:=by
  unfold tX
  have h:x=x/9223372036854775808*9223372036854775808+x%9223372036854775808/4503599627370496*4503599627370496+x%4503599627370496:=by omega
  revert h hE
  generalize x/9223372036854775808=s
  generalize x%9223372036854775808/4503599627370496=e
  generalize x%4503599627370496=f
  intro hE h
  omega
theorem Xq{x:Nat}{p:Int}(hx:x<ya)(h:In4 x)(hp : -300≤p∧p≤300) :eU x p=some (.r0 (tY x p)):=by
  have hx':x<18446744073709551616:=hx
  have hxp:Al x=x%9223372036854775808/4503599627370496:=by unfold Al;omega
  have hf:mF x=true:=by
    refine T5 hx ?_
    rcases h with h | h
    · omega
    · have:=h.2;omega
  have hN:=aao hx hf
  have hxe:Al x≠2047:=by unfold mF at hf;rw [bne_iff_ne] at hf;exact hf
  have g1:(!(((Al x:Nat):Int) != (2047:Int)))=false:=by rw [Bool.not_eq_false',bne_iff_ne];omega
  have l1:IntKind.u64.wrap ((x:Int)*2^(min (Int.toNat (1:Int)) IntKind.u64.bits))=((x*2^1%W:Nat):Int):=v6 x (k:=1) (by decide)
  have l12:IntKind.u64.wrap ((x:Int)*2^(min (Int.toNat (12:Int)) IntKind.u64.bits))=((x*2^12%W:Nat):Int):=v6 x (k:=12) (by decide)
  have l12':Int.fdiv ((x*2^12%W:Nat):Int) (2^(min (Int.toNat (12:Int)) IntKind.u64.bits))=((x*2^12%W/2^12:Nat):Int):=tW _ (k:=12) (by decide)
  have l63:IntKind.u64.wrap (((x/9223372036854775808:Nat):Int)*2^(min (Int.toNat (63:Int)) IntKind.u64.bits))=((x/9223372036854775808*2^63%W:Nat):Int):=v6 _ (k:=63) (by decide)
  have hz:x*2^1%W=x%9223372036854775808*2:=by show x*2%18446744073709551616=_;omega
  by_cases h0:x%9223372036854775808=0
  · have e:tY x p=x:=if_pos h0
    rw [e]
    refine aR (be ?_)
    unfold lr
    rw [TY,l1,hz,h0]
    exact aa5 (cn (by rw [hN];rfl) (ag (ag (co g1 (ag (bj rfl))))))
  have hm:Mid x:=by rcases h with h | h;exact absurd h h0;exact h
  have g2:(((x%9223372036854775808*2:Nat):Int)==(0:Int))=false:=by rw [beq_eq_false_iff_ne];omega
  by_cases hp0:p=0
  · have e:tY x p=x:=by
      unfold tY
      rw [if_neg h0,hp0]
      unfold tX
      omega
    rw [e]
    refine aR (be ?_)
    unfold lr
    rw [TY,l1,hz]
    exact aa5 (cn (by rw [hN];rfl) (ag (ag (co g1 (ag (co g2 (j2 (beq_iff_eq.2 hp0) rfl)))))))
  have g3:(p==0)=false:=beq_eq_false_iff_ne.2 hp0
  obtain ⟨m1,m2⟩:=hm
  have he1:623≤Al x:=by omega
  have he2:Al x≤1423:=by omega
  have hs:x/9223372036854775808*2^63%W=x/9223372036854775808*9223372036854775808:=by show x/9223372036854775808*9223372036854775808%18446744073709551616=_;omega
  have hfr:x*2^12%W/2^12=x%4503599627370496:=by show x*4096%18446744073709551616/4096=_;omega
  have g4:(((Al x:Nat):Int)==(0:Int))=false:=by rw [beq_eq_false_iff_ne];omega
  have wm:IntKind.u64.wrap (((x%4503599627370496:Nat):Int)+(4503599627370496:Int))=((x%4503599627370496+4503599627370496:Nat):Int):=by
    have e:=nn (x%4503599627370496) 4503599627370496
    rw [Nat.mod_eq_of_lt (show x%4503599627370496+4503599627370496<W by show _<18446744073709551616;omega)] at e
    exact e
  have t11:(lr x p).run=some (.inl (((x/9223372036854775808*9223372036854775808:Nat):Int),((x%4503599627370496+4503599627370496:Nat):Int),((Al x:Nat):Int))):=by
    unfold lr
    rw [TY,l1,hz,Rz hx,l63,hs,l12,l12',hfr,RA (by omega),wm]
    exact aa5 (cn (by rw [hN];rfl) (ag (ag (co g1 (ag (co g2 (co g3 (ag (ag (ag (ag (ag (ag (co g4 rfl))))))))))))))
  have e:tY x p=tX x p:=if_neg h0
  rw [e]
  refine aR (ae t11 (ae (a:=(((x%4503599627370496+4503599627370496:Nat):Int),((Al x:Nat):Int))) (bU (fun _=>(((x%4503599627370496+4503599627370496:Nat):Int),((Al x:Nat):Int))) 0 rfl (fun j hj=>absurd hj (Nat.not_lt_zero _)) ?_) (ae (a:=p) ?_ (ae (a:=p) ?_ (be ?_)))))
  · exact co (by rw [decide_eq_false_iff_not];omega) rfl
  · exact co (by rw [decide_eq_false_iff_not];omega) rfl
  · exact co (by rw [decide_eq_false_iff_not];omega) rfl
  · show (tH _ _ _ _).run=_
    unfold tH
    obtain ⟨E,hE⟩:∃ E:Nat,((Al x:Nat):Int)+p=(E:Int):=⟨(((Al x:Nat):Int)+p).toNat,by omega⟩
    have hE1:323≤E:=by omega
    have hE2:E≤1723:=by omega
    rw [hE]
    refine ai (co (by rw [decide_eq_false_iff_not];omega) (j2 (by rw [decide_eq_true_eq];omega) (ag ?_)))
    have w1:IntKind.u64.wrap (E:Int)=(E:Int):=o6 (show E<W by show E<18446744073709551616;omega)
    have w2:IntKind.u64.wrap ((E:Int)*2^(min (Int.toNat (52:Int)) IntKind.u64.bits))=((E*4503599627370496:Nat):Int):=by
      have q:IntKind.u64.wrap ((E:Int)*2^(min (Int.toNat (52:Int)) IntKind.u64.bits))=((E*2^52%W:Nat):Int):=v6 E (k:=52) (by decide)
      rw [q,Nat.mod_eq_of_lt (show E*4503599627370496<18446744073709551616 by omega)]
    have w3:IntKind.u64.wrap (((x/9223372036854775808*9223372036854775808:Nat):Int)+((E*4503599627370496:Nat):Int))=((x/9223372036854775808*9223372036854775808+E*4503599627370496:Nat):Int):=by
      rw [nn,Nat.mod_eq_of_lt (show _<18446744073709551616 by omega)]
    have w4:IntKind.u64.wrap (((x/9223372036854775808*9223372036854775808+E*4503599627370496:Nat):Int)+((x%4503599627370496+4503599627370496:Nat):Int))=((x/9223372036854775808*9223372036854775808+E*4503599627370496+(x%4503599627370496+4503599627370496):Nat):Int):=by
      rw [nn,Nat.mod_eq_of_lt (show _<18446744073709551616 by omega)]
    have w5:IntKind.u64.wrap (((x/9223372036854775808*9223372036854775808+E*4503599627370496+(x%4503599627370496+4503599627370496):Nat):Int)-(4503599627370496:Int))=((x/9223372036854775808*9223372036854775808+E*4503599627370496+x%4503599627370496:Nat):Int):=by
      have q:((x/9223372036854775808*9223372036854775808+E*4503599627370496+(x%4503599627370496+4503599627370496):Nat):Int)-(4503599627370496:Int)=((x/9223372036854775808*9223372036854775808+E*4503599627370496+x%4503599627370496:Nat):Int):=by omega
      rw [q,o6 (show _<18446744073709551616 by omega)]
    rw [w1,w2,w3,w4,w5]
    show some (Sum.inr (cw.r0 (Int.toNat _)))=some (Sum.inr (cw.r0 (tX x p)))
    rw [aeM (hxp ▸ hE)]
def CU(A:List Nat)(p:Int)(j:Nat) :List Nat:=U1 (fun i=>i) (fun i=>tY (A.getD i 0) p) A j
theorem Iu{A:List Nat}{p:Int}{j:Nat} :(CU A p j).getD j 0=A.getD j 0:=LB fun i hi=>by omega
theorem T6{A:List Nat}{p:Int}{i:Nat}(h:i<A.length) :(CU A p A.length).getD i 0=tY (A.getD i 0) p:=aag h (Nat.le_refl _)
theorem wx{A:List Nat}{p:Int}{j:Nat} :(CU A p j).length=A.length:=iv
theorem aaE{A:List Nat}{p:Int}{i:Nat}(h:A.length≤i) :(CU A p A.length).getD i 0=0:=by
  rw [List.getD_eq_getElem?_getD,List.getElem?_eq_none (by rw [wx];exact h)];rfl
theorem ac9{A:List Nat}{p:Int}(wA:Wd A)(hp : -300≤p∧p≤300)(hin:∀ i,i<A.length→In4 (A.getD i 0)) :Wd (CU A p A.length):=by
  intro i
  by_cases h:i<A.length
  · rw [T6 h];exact afh (wA i) (hin i h) hp
  · rw [aaE (by omega)];decide
theorem ada{A:List Nat}{p:Int}(wA:Wd A)(hp : -300≤p∧p≤300)(hin:∀ i,i<A.length→In4 (A.getD i 0)) :Fn (CU A p A.length):=by
  intro i hi
  rw [wx] at hi
  rw [T6 hi];exact aeH (wA i) (hin i hi) hp
theorem adb{A:List Nat}{p:Int}(wA:Wd A)(hp : -300≤p∧p≤300)(hin:∀ i,i<A.length→In4 (A.getD i 0)){a b:Nat}(hab:p=(a:Int)-(b:Int))(i:Nat) :gz (CU A p A.length) i*P2 b=gz A i*P2 a:=by
  unfold gz P2
  by_cases h:i<A.length
  · rw [T6 h];exact afg (wA i) (hin i h) hp hab
  · rw [aaE (by omega)]
    have e:A.getD i 0=0:=by rw [List.getD_eq_getElem?_getD,List.getElem?_eq_none (by omega)];rfl
    rw [e,aaC (by decide),Int.zero_mul,Int.zero_mul]
theorem adc{A:List Nat}{p:Int}(wA:Wd A)(hp : -300≤p∧p≤300)(hin:∀ i,i<A.length→In4 (A.getD i 0))(h0:0≤p) :Sc (P2 p.toNat) A (CU A p A.length):=by
  refine ⟨by have:=Nat.pow_pos (n:=p.toNat) (show 0<2 by decide);unfold P2;omega,wx,fun i=>?_⟩
  have h:=adb wA hp hin (a:=p.toNat) (b:=0) (by omega) i
  rw [←h]
  show _=_*1
  rw [Int.mul_one]
theorem Xr{A:List Nat}{p:Int}(wA:Wd A)(hp : -300≤p∧p≤300)(hin:∀ i,i<A.length→In4 (A.getD i 0))(h0:p<0) :Sc (P2 (-p).toNat) (CU A p A.length) A:=by
  refine ⟨by have:=Nat.pow_pos (n:=(-p).toNat) (show 0<2 by decide);unfold P2;omega,wx.symm,fun i=>?_⟩
  have h:=adb wA hp hin (a:=0) (b:=(-p).toNat) (by omega) i
  rw [h]
  show _=_*1
  rw [Int.mul_one]
theorem RD{x:Nat}(hx:x<ya) :(x%9223372036854775808=0→Fa (lS x) 0=false)∧(x%9223372036854775808≠0→mF x=true→Fa (lS x) 0=true) ∧
    (mF x=true→flt (lS x) 2805742567851819008=decide (x%9223372036854775808<2805742567851819008))∧(mF x=true→fgt (lS x) 6408622269748215808=decide (6408622269748215808<x%9223372036854775808)):=by
  have hx':x<18446744073709551616:=hx
  rw [LJ hx]
  have bd:mF x=true→x%9223372036854775808<9218868437227405312:=by
    intro h
    unfold mF Al at h;rw [bne_iff_ne] at h;omega
  have cmp:∀ {a b:Nat},a<9218868437227405312→b<9218868437227405312→qF a b=some (compare a b):=fun h1 h2=>U3 h1 h2
  refine ⟨?_,?_,?_,?_⟩
  · intro h;rw [h];unfold Fa;rw [cmp (by decide) (by decide)];decide
  · intro h hf
    unfold Fa
    rw [cmp (bd hf) (by decide),bne_iff_ne,ne_eq,Option.some.injEq,Nat.compare_eq_eq]
    exact h
  · intro hf
    unfold flt
    rw [cmp (bd hf) (by decide),Bool.eq_iff_iff,beq_iff_eq,Option.some.injEq,Nat.compare_eq_lt,decide_eq_true_eq]
  · intro hf
    unfold fgt
    rw [cmp (bd hf) (by decide),Bool.eq_iff_iff,beq_iff_eq,Option.some.injEq,Nat.compare_eq_gt,decide_eq_true_eq]
theorem KJ{A:List Nat}{p:Int}{j:Nat}(wA:Wd A)(hn:A.length≤16)(hp : -300≤p∧p≤300)(hj:j<A.length)(h:In4 (A.getD j 0))(hf:mF (A.getD j 0)=true) :
    ik A p (j,CU A p j)=some (.inl (j+1,CU A p (j+1)))∧il A p (j,CU A p j)=some (.inl (j+1,CU A p (j+1))):=by
  have t:=Xq (wA j) h hp
  obtain ⟨c1,c2,c3,c4⟩:=RD (wA j)
  have hl:(CU A p j).length=A.length:=wx
  have hs:(CU A p j).set j (tY (A.getD j 0) p)=CU A p (j+1):=rfl
  constructor
  · refine ae (a:=CU A p (j+1)) ?_ (ai rfl)
    unfold jS
    rw [Iu,t,hl,c4 hf,c3 hf]
    rcases h with z | z
    · rw [c1 z]
      exact (cF (ai (ai (aS (ai (ai (ag (ai (ai rfl)))))))))
    · have:=z.1
      have:=z.2
      rw [c2 (by omega) hf]
      exact (cF (ai (ai (bj (co (by rw [decide_eq_false_iff_not];omega) (co (by rw [decide_eq_false_iff_not];omega) (ai (ai (ag (ai (ai rfl)))))))))))
  · refine ae (a:=CU A p (j+1)) ?_ (ai rfl)
    unfold jT
    rw [Iu,t,hl,c4 hf,c3 hf]
    rcases h with z | z
    · rw [c1 z]
      exact (cF (ai (ai (aS (ai (ai (ag (ai (ai rfl)))))))))
    · have:=z.1
      have:=z.2
      rw [c2 (by omega) hf]
      exact (cF (ai (ai (bj (co (by rw [decide_eq_false_iff_not];omega) (co (by rw [decide_eq_false_iff_not];omega) (ai (ai (ag (ai (ai rfl)))))))))))
theorem ade{A:List Nat}{p:Int}{j:Nat}(wA:Wd A)(hn:A.length≤16)(hj:j<A.length)(h : ¬ In4 (A.getD j 0))(hf:mF (A.getD j 0)=true) :
    ik A p (j,CU A p j)=some (.inr (.inr (.r0 true)))∧il A p (j,CU A p j)=some (.inr (.inr (.r0 true))):=by
  have k:=N4
  obtain ⟨c1,c2,c3,c4⟩:=RD (wA j)
  have hl:(CU A p j).length=A.length:=wx
  have z0:A.getD j 0%9223372036854775808≠0:=fun q=>h (.inl q)
  by_cases h1:A.getD j 0%9223372036854775808<2805742567851819008
  · constructor
    · refine be ?_
      unfold jS
      rw [Iu,hl,c4 hf,c3 hf,k,c2 z0 hf]
      exact (cF (ai (ai (bj (j2 (decide_eq_true h1) (ag rfl))))))
    · refine be ?_
      unfold jT
      rw [Iu,hl,c4 hf,c3 hf,k,c2 z0 hf]
      exact (cF (ai (ai (bj (j2 (decide_eq_true h1) (ag rfl))))))
  · have h2:6408622269748215808<A.getD j 0%9223372036854775808:=by
      rcases Nat.lt_or_ge 6408622269748215808 (A.getD j 0%9223372036854775808) with q | q
      · exact q
      · exact absurd (.inr ⟨by omega,q⟩) h
    constructor
    · refine be ?_
      unfold jS
      rw [Iu,hl,c4 hf,c3 hf,k,c2 z0 hf]
      exact (cF (ai (ai (bj (co (decide_eq_false h1) (j2 (decide_eq_true h2) (ag rfl)))))))
    · refine be ?_
      unfold jT
      rw [Iu,hl,c4 hf,c3 hf,k,c2 z0 hf]
      exact (cF (ai (ai (bj (co (decide_eq_false h1) (j2 (decide_eq_true h2) (ag rfl)))))))
instance (x:Nat):Decidable (In4 x):=inferInstanceAs (Decidable (_∨(_∧_)))
theorem ZN{a0 a1 z0 z1 p:Int}{A V Z:List Nat}(wA:Wd A)(wV:Wd V)(wZ:Wd Z) :pw a0 a1 A V z0 z1 Z p=some (.r0 true):=by
  have k:=N4
  have t22:(mp true).run=some (.inr (.r0 true)):=by
    unfold mp
    rw [k]
    exact (bj (ag rfl))
  by_cases hA:A.length>16
  · exact aR (ae (a:=true) (j2 (by rw [decide_eq_true_eq];omega) rfl) (be t22))
  have q1:decide (((A.length:Nat):Int)>16)=false:=by rw [decide_eq_false_iff_not];omega
  by_cases hZ:Z.length>16
  · exact aR (ae (a:=true) (co q1 (j2 (by rw [decide_eq_true_eq];omega) rfl)) (be t22))
  have q2:decide (((Z.length:Nat):Int)>16)=false:=by rw [decide_eq_false_iff_not];omega
  by_cases hV:V.length>16
  · exact aR (ae (a:=true) (co q1 (co q2 (j2 (by rw [decide_eq_true_eq];omega) rfl))) (be t22))
  have q3:decide (((V.length:Nat):Int)>16)=false:=by rw [decide_eq_false_iff_not];omega
  by_cases hp1:p < -300
  · exact aR (ae (a:=true) (co q1 (co q2 (co q3 (j2 (decide_eq_true hp1) rfl)))) (be t22))
  by_cases hp2:p>300
  · exact aR (ae (a:=true) (co q1 (co q2 (co q3 (co (decide_eq_false hp1) (j2 (decide_eq_true hp2) rfl))))) (be t22))
  have hp : -300≤p∧p≤300:=⟨by omega,by omega⟩
  have w:=ZM (a0:=a0) (a1:=a1) (z0:=z0) (z1:=z1) wA wV wZ (by omega) (by omega) (by omega)
  have t21:(mo a0 a1 A V z0 z1 Z p).run=some (.inl (((ZL a0 a1 A V z0 z1 Z:Nat):Int) != 0)):=by
    unfold mo
    rw [aB,aB,aB,w]
    exact (co q1 (co q2 (co q3 (co (decide_eq_false hp1) (co (decide_eq_false hp2) (ba (ba (ba (ag rfl)))))))))
  rcases (Decidable.em (ZL a0 a1 A V z0 z1 Z=0)).symm with hc | hc
  · rw [show (((ZL a0 a1 A V z0 z1 Z:Nat):Int) != 0)=true by rw [bne_iff_ne];omega] at t21
    exact aR (ae t21 (be t22))
  rw [hc] at t21
  obtain ⟨n,rfl,rfl,rfl,rfl,h⟩:=abx wA wV wZ hc
  have f:=h.fit
  have s0:=N3 h
  refine aR (ae t21 (ae (a:=()) rfl (ae (a:=(V,A)) ?_ ?_)))
  · show (mq A V).run=_
    unfold mq
    rw [List.take_length,List.take_length]
    exact (ai (ai (ai (ai (ai (ai rfl))))))
  rcases (Decidable.em (∀ i,i<A.length→In4 (A.getD i 0))).symm with iA | iA
  · obtain ⟨j,hj,hb,hg⟩:=rj iA
    exact be (bU (fun j=>(j,CU A p j)) j rfl (fun i hi=>(KJ wA (by omega) hp (by omega) (hg i hi) (f.fA i (by omega))).1) (ade wA (by omega) hj hb (f.fA j hj)).1)
  refine ae (a:=CU A p A.length) (bU (fun j=>(j,CU A p j)) A.length rfl (fun i hi=>(KJ wA (by omega) hp hi (iA i hi) (f.fA i hi)).1) (be (cP rfl))) (ae (a:=()) rfl ?_)
  rcases (Decidable.em (∀ i,i<V.length→In4 (V.getD i 0))).symm with iV | iV
  · obtain ⟨j,hj,hb,hg⟩:=rj iV
    exact be (bU (fun j=>(j,CU V p j)) j rfl (fun i hi=>(KJ wV (by omega) hp (by omega) (hg i hi) (f.fV i (by omega))).2) (ade wV (by omega) hj hb (f.fV j hj)).2)
  refine ae (a:=CU V p V.length) (bU (fun j=>(j,CU V p j)) V.length rfl (fun i hi=>(KJ wV (by omega) hp hi (iV i hi) (f.fV i hi)).2) (be (cP rfl))) ?_
  have lA:(CU A p A.length).length=A.length:=wx
  have lV:(CU V p V.length).length=V.length:=wx
  have wA':=ac9 wA hp iA
  have wV':=ac9 wV hp iV
  have fA':=ada wA hp iA
  have fV':=ada wV hp iV
  have h':T4 (CU A p A.length) (CU V p V.length) Z n:=⟨h.hn,⟨by rw [lA];exact f.hA,f.hX,f.hY,by rw [lV];exact f.hV,f.hr,f.hc,f.hd,wA',f.wX,f.wY,wV',fA',f.fX,f.fY,fV'⟩⟩
  have s1:=N3 h'
  have same:It (CU A p A.length) (CU V p V.length) Z n=It A V Z n:=by
    by_cases q:0≤p
    · exact ac8 (adc wA hp iA q) (adc wV hp iV q) wV wV' f.fV fV' n
    · exact (ac8 (Xr wA hp iA (by omega)) (Xr wV hp iV (by omega)) wV' wV fV' f.fV n).symm
  rw [same] at s1
  refine ae (a:=(It A V Z n,0)) ?_ (ae (a:=(It A V Z n,0)) ?_ (ae (a:=true) ?_ rfl))
  · show (mt _ _ _ _ _ _ _).run=_
    unfold mt
    rw [aB,aB,aB,s0]
    exact (ba (ba (ba (ag rfl))))
  · show (mu _ _ _ _ _ _ _ _ _).run=_
    unfold mu
    rw [ez lA,ez lV,aB,s1]
    exact (cn (TT lA) (cn (TT lV) (ba (ag rfl))))
  · show (mv _ _ _ _).run=_
    unfold mv
    rw [k]
    exact (bj (bj (j2 (by cases It A V Z n<;>rfl) (ag rfl))))
end Go.Plb.Seat
