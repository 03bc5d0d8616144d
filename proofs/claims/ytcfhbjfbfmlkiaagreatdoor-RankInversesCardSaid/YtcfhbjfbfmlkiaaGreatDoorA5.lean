/-
  Part 5 of what the claim leans on: an evaluator of the model, proved sound; the contracts of the functions.
-/
import Derived.Test.YtcfhbjfbfmlkiaaGreatDoorA4
namespace Go.Plb.Seat
open Go Go.Plb
set_option linter.unusedSimpArgs false
set_option linter.unusedVariables false
def dh{α:Type}(f:Nat→α) :Nat→List α
  | 0=>[]
  | n+1=>dh f n++[f n]
theorem cZ{α:Type}{f:Nat→α} :∀ {n:Nat},(dh f n).length=n
  | 0=>rfl
  | n+1=>by simp only [dh,List.length_append,List.length_singleton,cZ (n:=n)]
theorem K7{α:Type}{f:Nat→α}{n:Nat} :(dh f n).take n=dh f n:=by
  rw [List.take_of_length_le];rw [cZ];exact Nat.le_refl n
theorem MI{α:Type}{f:Nat→α}{n:Nat} :List.take n (dh f n)++List.take 1 [f n]=dh f (n+1):=by
  rw [K7];rfl
theorem pf{α:Type}{f:Nat→α}{d:α} :∀ {n i:Nat},i<n→(dh f n).getD i d=f i
  | 0,i,h=>absurd h (Nat.not_lt_zero _)
  | n+1,i,h=>by
    simp only [dh,List.getD_eq_getElem?_getD]
    by_cases e:i=n
    · subst e
      rw [List.getElem?_append_right (by rw [cZ];exact Nat.le_refl _),cZ,Nat.sub_self];rfl
    · rw [List.getElem?_append_left (by rw [cZ];omega)]
      have:=pf (f:=f) (d:=d) (n:=n) (i:=i) (by omega)
      rwa [List.getD_eq_getElem?_getD] at this
theorem MJ{l m:List Nat}(h:l.length=m.length)(k:∀ i,i<l.length→l.getD i 0=m.getD i 0) :l=m:=by
  apply List.ext_getElem h
  intro i h1 h2
  have:=k i h1
  rw [List.getD_eq_getElem?_getD,List.getD_eq_getElem?_getD,List.getElem?_eq_getElem h1,List.getElem?_eq_getElem h2] at this
  exact this
def pO(n:Int) :Bool:=decide (0≤n)&&decide (n≤512)
theorem iT{n:Int} :pO n=true↔0≤n∧n≤512:=by simp [pO]
theorem MK{r c n:Int}{j:Nat}(hj:j<2)(hn : [r,c].getD j 0=n) :(rW [r,c] j).run=if pO n=true then some (.inl (j+1)) else some (.inr (.inr (.r0 false))):=by
  unfold rW
  rw [hn]
  refine ew (decide_eq_true (by show (j:Int)<((2:Nat):Int);omega)) (aO (by rw [aR];show 0≤(j:Int)∧(j:Int)<((2:Nat):Int);omega) (aO (by rw [ax];exact hj) ?_))
  by_cases h1:n<0
  · rw [if_neg (by rw [iT];omega)];exact ew (decide_eq_true h1) rfl
  · by_cases h2:n>512
    · rw [if_neg (by rw [iT];omega)];exact fI (decide_eq_false h1) (ew (decide_eq_true h2) rfl)
    · rw [if_pos (by rw [iT];omega)];exact fI (decide_eq_false h1) (fI (decide_eq_false h2) (aO (by rw [ao];omega) rfl))
theorem PQ(r c:Int) :nj [r,c]=some (.r0 (pO r&&pO c)):=by
  have s0:=MK (r:=r) (c:=c) (n:=r) (j:=0) (by omega) rfl
  have s1:=MK (r:=r) (c:=c) (n:=c) (j:=1) (by omega) rfl
  have s2:(rW [r,c] 2).run=some (.inr (.inl ())):=cG rfl
  unfold nj
  by_cases hr:pO r=true
  · rw [if_pos hr] at s0
    by_cases hc:pO c=true
    · rw [if_pos hc] at s1
      rw [hr,hc]
      exact cq (aD rfl (aD (a:=()) ((EC (s:=0) s0).trans ((EC (s:=1) s1).trans (By (s:=2) s2))) rfl))
    · rw [if_neg hc] at s1
      have hc':pO c=false:=by simpa using hc
      rw [hr,hc']
      exact cq (aD rfl (dx ((EC (s:=0) s0).trans (By (s:=1) s1))))
  · rw [if_neg hr] at s0
    have hr':pO r=false:=by simpa using hr
    rw [hr']
    exact cq (aD rfl (dx (By (s:=0) s0)))
theorem aeF{r c:Int}(h:(pO r&&pO c)=false) :ep r c=some .r0:=by
  refine cq (aD (a:=true) ?_ rfl)
  unfold AJ
  rw [show ab 0 2 [r,c]=[r,c] from nL rfl,PQ,h]
  exact bB (bB rfl)
theorem ML{r c:Nat}(hr:r≤512)(hc:c≤512) :ep (r:Int) (c:Int)=some (.r1 r c (r*c) (List.replicate (r*c) 0)):=by
  have hL:r*c≤512*512:=Nat.mul_le_mul hr hc
  have e:(r:Int)*(c:Int)=((r*c:Nat):Int):=by rw [Int.natCast_mul]
  refine cq (aD (a:=false) ?_ ?_)
  · unfold AJ
    rw [show ab 0 2 [(r:Int),(c:Int)]=[(r:Int),(c:Int)] from nL rfl,PQ,show pO (r:Int)=true from by rw [iT];omega,show pO (c:Int)=true from by rw [iT];omega]
    exact bB (bB rfl)
  · show (AL _ _ _).run=_
    unfold AL
    rw [e,Int.toNat_natCast]
    generalize r*c=q at hL
    exact cG (aO (by simp only [ao,aR,aT,ax,az,ag,aA,aB,decide_eq_true_eq,decide_eq_false_iff_not,beq_iff_eq,beq_eq_false_iff_ne,bne_iff_ne,bne_eq_false_iff_eq,Bool.not_eq_true',Bool.not_eq_false',List.length_set,ne_eq,ge_iff_le,gt_iff_lt,ak,ac,aS];omega) (aO (by simp only [ao,aR,aT,ax,az,ag,aA,aB,decide_eq_true_eq,decide_eq_false_iff_not,beq_iff_eq,beq_eq_false_iff_ne,bne_iff_ne,bne_eq_false_iff_eq,Bool.not_eq_true',Bool.not_eq_false',List.length_set,ne_eq,ge_iff_le,gt_iff_lt,ak,ac,aS];omega) (aO (by simp only [ao,aR,aT,ax,az,ag,aA,aB,decide_eq_true_eq,decide_eq_false_iff_not,beq_iff_eq,beq_eq_false_iff_ne,bne_iff_ne,bne_eq_false_iff_eq,Bool.not_eq_true',Bool.not_eq_false',List.length_set,ne_eq,ge_iff_le,gt_iff_lt,ak,ac,aS];omega) (aO (by simp only [ao,aR,aT,ax,az,ag,aA,aB,decide_eq_true_eq,decide_eq_false_iff_not,beq_iff_eq,beq_eq_false_iff_ne,bne_iff_ne,bne_eq_false_iff_eq,Bool.not_eq_true',Bool.not_eq_false',List.length_set,ne_eq,ge_iff_le,gt_iff_lt,ak,ac,aS];omega) (aO (by simp only [ao,aR,aT,ax,az,ag,aA,aB,decide_eq_true_eq,decide_eq_false_iff_not,beq_iff_eq,beq_eq_false_iff_ne,bne_iff_ne,bne_eq_false_iff_eq,Bool.not_eq_true',Bool.not_eq_false',List.length_set,ne_eq,ge_iff_le,gt_iff_lt,ak,ac,aS];omega) rfl)))))
theorem aeG{xs:List Nat}{n:Nat}(h:n=xs.length) :cpL (List.replicate n 0) 0 (Nat.min xs.length n) (List.take xs.length xs)=xs:=by
  subst h
  unfold cpL
  rw [show Nat.min xs.length xs.length=xs.length from Nat.min_self _]
  simp
theorem BI{xs:List Nat}{r c:Nat}(hx:xs.length=r*c)(hr:r≤512)(hc:c≤512) :bP (r:Int) (c:Int) xs=some (.r1 r c xs.length xs):=by
  have hL:r*c≤512*512:=Nat.mul_le_mul hr hc
  have e:(r:Int)*(c:Int)=(xs.length:Int):=by rw [hx,Int.natCast_mul]
  refine cq (aD (a:=.inr ((r:Int),(c:Int),r*c,List.replicate (r*c) 0)) ?_ ?_)
  · unfold xR
    rw [ML hr hc]
    exact No (Np rfl) (rb (bB rfl))
  · show (te _ _ _ _ _ _ _).run=_
    unfold te
    rw [e]
    refine cG (aO (by rw [ao];omega) (fI (by simp) (aO (Un _) (aO (by rw [az,←hx];simp) (aO (by rw [az,←hx];simp) ?_)))))
    rw [aeG hx.symm,←hx];rfl
theorem afK{xs:List Nat}{r c:Int}(h : ¬ (pO r=true∧pO c=true∧(xs.length:Int)=r*c)) :bP r c xs=some .r0:=by
  by_cases hs:(pO r&&pO c)=false
  · refine cq (aD (a:=.inl ()) ?_ ?_)
    · unfold xR
      rw [aeF hs]
      exact rb (bB rfl)
    · exact dC rfl
  · have hs':(pO r&&pO c)=true:=by simpa using hs
    rw [Bool.and_eq_true] at hs'
    obtain ⟨h1,h2⟩:=hs'
    have hne:(xs.length:Int)≠r*c:=fun q=>h ⟨h1,h2,q⟩
    rw [iT] at h1 h2
    obtain ⟨r',rfl⟩:∃ r':Nat,r=(r':Int):=⟨r.toNat,by omega⟩
    obtain ⟨c',rfl⟩:∃ c':Nat,c=(c':Int):=⟨c.toNat,by omega⟩
    have hL:r'*c'≤512*512:=Nat.mul_le_mul (by omega) (by omega)
    have e:(r':Int)*(c':Int)=((r'*c':Nat):Int):=by rw [Int.natCast_mul]
    refine cq (aD (a:=.inr ((r':Int),(c':Int),r'*c',List.replicate (r'*c') 0)) ?_ ?_)
    · unfold xR
      rw [ML (by omega) (by omega)]
      exact No (Np rfl) (rb (bB rfl))
    · show (te _ _ _ _ _ _ _).run=_
      unfold te
      refine cG (aO (by rw [e,ao];omega) (ew (by rw [bne_iff_ne];exact hne) rfl))
theorem WV{a n l:Nat}(h:a+n≤l)(hl:l≤512) :dM (a:Int) (n:Int) (l:Int)=some (.r0 true):=by
  refine cq (aD (a:=true) ?_ rfl)
  unfold oO
  exact ew (by simp only [ao,aR,aT,ax,az,ag,aA,aB,decide_eq_true_eq,decide_eq_false_iff_not,beq_iff_eq,beq_eq_false_iff_ne,bne_iff_ne,bne_eq_false_iff_eq,Bool.not_eq_true',Bool.not_eq_false',List.length_set,ne_eq,ge_iff_le,gt_iff_lt,ak,ac,aS];omega) (ew (by simp only [ao,aR,aT,ax,az,ag,aA,aB,decide_eq_true_eq,decide_eq_false_iff_not,beq_iff_eq,beq_eq_false_iff_ne,bne_iff_ne,bne_eq_false_iff_eq,Bool.not_eq_true',Bool.not_eq_false',List.length_set,ne_eq,ge_iff_le,gt_iff_lt,ak,ac,aS];omega) (ew (by simp only [ao,aR,aT,ax,az,ag,aA,aB,decide_eq_true_eq,decide_eq_false_iff_not,beq_iff_eq,beq_eq_false_iff_ne,bne_iff_ne,bne_eq_false_iff_eq,Bool.not_eq_true',Bool.not_eq_false',List.length_set,ne_eq,ge_iff_le,gt_iff_lt,ak,ac,aS];omega) (aO (by simp only [ao,aR,aT,ax,az,ag,aA,aB,decide_eq_true_eq,decide_eq_false_iff_not,beq_iff_eq,beq_eq_false_iff_ne,bne_iff_ne,bne_eq_false_iff_eq,Bool.not_eq_true',Bool.not_eq_false',List.length_set,ne_eq,ge_iff_le,gt_iff_lt,ak,ac,aS];omega) (by rw [decide_eq_true (by omega)];rfl))))
theorem Ba{n c:Nat}{xs:List Nat}{r w i j m k at_ d o:Nat}(hr:r≤512)(hc:w≤512)(h1:i+m≤r)(h2:j+k≤w)(ha:at_≤1000000)(hd:d≤1000000)(ho:o≤1000000) :
    aa n c xs (r:Int) (w:Int) (at_:Int) (d:Int) (o:Int) (i:Int) (j:Int) (m:Int) (k:Int)=some (.r1 n c xs m k ((at_+i*d+j*o:Nat):Int) d o):=by
  refine cq (aD (a:=false) ?_ ?_)
  · unfold rz
    rw [WV h1 hr,WV h2 hc]
    exact bB (cG (bB rfl))
  · show (lS _ _ _ _ _ _ _ _ _ _ _).run=_
    unfold lS
    have hL:i*d≤512*1000000:=Nat.mul_le_mul (show i≤512 by omega) hd
    have hM:j*o≤512*1000000:=Nat.mul_le_mul (show j≤512 by omega) ho
    have e:(i:Int)*(d:Int)=((i*d:Nat):Int):=by rw [Int.natCast_mul]
    have e':(j:Int)*(o:Int)=((j*o:Nat):Int):=by rw [Int.natCast_mul]
    rw [e,e',show (at_:Int)+((i*d:Nat):Int)+((j*o:Nat):Int)=((at_+i*d+j*o:Nat):Int) from by omega]
    generalize i*d=q at hL
    generalize j*o=q' at hM
    exact cG (aO (by simp only [ao,aR,aT,ax,az,ag,aA,aB,decide_eq_true_eq,decide_eq_false_iff_not,beq_iff_eq,beq_eq_false_iff_ne,bne_iff_ne,bne_eq_false_iff_eq,Bool.not_eq_true',Bool.not_eq_false',List.length_set,ne_eq,ge_iff_le,gt_iff_lt,ak,ac,aS];omega) (aO (by simp only [ao,aR,aT,ax,az,ag,aA,aB,decide_eq_true_eq,decide_eq_false_iff_not,beq_iff_eq,beq_eq_false_iff_ne,bne_iff_ne,bne_eq_false_iff_eq,Bool.not_eq_true',Bool.not_eq_false',List.length_set,ne_eq,ge_iff_le,gt_iff_lt,ak,ac,aS];omega) (aO (by simp only [ao,aR,aT,ax,az,ag,aA,aB,decide_eq_true_eq,decide_eq_false_iff_not,beq_iff_eq,beq_eq_false_iff_ne,bne_iff_ne,bne_eq_false_iff_eq,Bool.not_eq_true',Bool.not_eq_false',List.length_set,ne_eq,ge_iff_le,gt_iff_lt,ak,ac,aS];omega) (aO (by simp only [ao,aR,aT,ax,az,ag,aA,aB,decide_eq_true_eq,decide_eq_false_iff_not,beq_iff_eq,beq_eq_false_iff_ne,bne_iff_ne,bne_eq_false_iff_eq,Bool.not_eq_true',Bool.not_eq_false',List.length_set,ne_eq,ge_iff_le,gt_iff_lt,ak,ac,aS];omega) rfl))))
theorem JV(n:Nat) :bc (n:Int) 1=some (.r0 true):=by
  refine cq (aD (a:=true) ?_ rfl)
  unfold oU
  by_cases h:n=1
  · subst h;exact dC rfl
  · exact fI (by rw [beq_eq_false_iff_ne];omega) (dC rfl)
theorem aeH(n:Int) :bc 1 n=some (.r0 true):=by
  refine cq (aD (a:=true) ?_ rfl)
  exact dC rfl
theorem jB{m n i j:Nat}(h1:i<m)(h2:j<n) :au (m:Int) (n:Int) (i:Int) (j:Int)=some (.r0 true):=by
  refine cq (aD (a:=true) ?_ rfl)
  unfold oS
  exact ew (by simp only [ao,aR,aT,ax,az,ag,aA,aB,decide_eq_true_eq,decide_eq_false_iff_not,beq_iff_eq,beq_eq_false_iff_ne,bne_iff_ne,bne_eq_false_iff_eq,Bool.not_eq_true',Bool.not_eq_false',List.length_set,ne_eq,ge_iff_le,gt_iff_lt,ak,ac,aS];omega) (ew (by simp only [ao,aR,aT,ax,az,ag,aA,aB,decide_eq_true_eq,decide_eq_false_iff_not,beq_iff_eq,beq_eq_false_iff_ne,bne_iff_ne,bne_eq_false_iff_eq,Bool.not_eq_true',Bool.not_eq_false',List.length_set,ne_eq,ge_iff_le,gt_iff_lt,ak,ac,aS];omega) (ew (by simp only [ao,aR,aT,ax,az,ag,aA,aB,decide_eq_true_eq,decide_eq_false_iff_not,beq_iff_eq,beq_eq_false_iff_ne,bne_iff_ne,bne_eq_false_iff_eq,Bool.not_eq_true',Bool.not_eq_false',List.length_set,ne_eq,ge_iff_le,gt_iff_lt,ak,ac,aS];omega) (by rw [decide_eq_true (by omega)];rfl)))
structure Plc (e1 e2 e3 e4:Int) (L p:Nat):Prop where
  a:cu .i64 e1=true
  b:cu .i64 e2=true
  c:cu .i64 e3=true
  d:cu .i64 e4=true
  e:fc e4 L=true
  f:eX (Int.toNat e4) L=true
  g:Int.toNat e4=p
theorem FV{at_ i d j o L:Nat}(h:at_+i*d+j*o<L)(hL:L≤1000000) :Plc ((i:Int)*(d:Int)) ((at_:Int)+(i:Int)*(d:Int)) ((j:Int)*(o:Int)) ((at_:Int)+(i:Int)*(d:Int)+(j:Int)*(o:Int)) L (at_+i*d+j*o):=by
  have e:(i:Int)*(d:Int)=((i*d:Nat):Int):=by rw [Int.natCast_mul]
  have e':(j:Int)*(o:Int)=((j*o:Nat):Int):=by rw [Int.natCast_mul]
  rw [e,e']
  generalize i*d=q at h ⊢
  generalize j*o=q' at h ⊢
  have e3:((at_:Int)+(q:Int)+(q':Int)).toNat=at_+q+q':=by omega
  refine ⟨?_,?_,?_,?_,?_,?_,e3⟩
  · rw [ao];omega
  · rw [ao];omega
  · rw [ao];omega
  · rw [ao];omega
  · rw [aR];omega
  · rw [ax];omega
def DU(xs:List Nat)(c at_ d o q:Nat) :Nat:=xs.getD (at_+q/c*d+q%c*o) 0
theorem ZU{xs:List Nat}{c at_ d o i j:Nat}(hj:j<c) :DU xs c at_ d o (i*c+j)=xs.getD (at_+i*d+j*o) 0:=by
  have hc:0<c:=by omega
  have e1:(i*c+j)/c=i:=by rw [Nat.mul_comm,Nat.mul_add_div hc,Nat.div_eq_of_lt hj,Nat.add_zero]
  have e2:(i*c+j)%c=j:=by rw [Nat.mul_comm,Nat.mul_add_mod,Nat.mod_eq_of_lt hj]
  unfold DU
  rw [e1,e2]
theorem WW{xs:List Nat}{r c at_ d o:Nat}(hr:r≤512)(hc:c≤512)(hp:∀ i j,i<r→j<c→at_+i*d+j*o<xs.length)(hL:xs.length≤1000000) :
    aE xs (r:Int) (c:Int) (at_:Int) (d:Int) (o:Int)=some (.r0 r c (r*c) (r*c) (dh (DU xs c at_ d o) (r*c))):=by
  have hRC:r*c≤512*512:=Nat.mul_le_mul hr hc
  refine cq (aD (a:=()) rfl (aD (a:=(r*c,r*c,dh (DU xs c at_ d o) (r*c))) (sR ?_) rfl))
  refine Option.map_eq_some_iff.2 ⟨.inl (r*c,r*c,dh (DU xs c at_ d o) (r*c)),aD (a:=()) rfl (aD (a:=(r*c,r*c,dh (DU xs c at_ d o) (r*c))) ?_ rfl),rfl⟩
  refine dH (fun i=>(i,i*c,i*c,dh (DU xs c at_ d o) (i*c))) r (by rw [Nat.zero_mul];rfl) (fun i hi=>?_) (dx (fI (by simp only [ao,aR,aT,ax,az,ag,aA,aB,decide_eq_true_eq,decide_eq_false_iff_not,beq_iff_eq,beq_eq_false_iff_ne,bne_iff_ne,bne_eq_false_iff_eq,Bool.not_eq_true',Bool.not_eq_false',List.length_set,ne_eq,ge_iff_le,gt_iff_lt,ak,ac,aS];omega) rfl))
  refine aD (a:=()) (ew (by simp only [ao,aR,aT,ax,az,ag,aA,aB,decide_eq_true_eq,decide_eq_false_iff_not,beq_iff_eq,beq_eq_false_iff_ne,bne_iff_ne,bne_eq_false_iff_eq,Bool.not_eq_true',Bool.not_eq_false',List.length_set,ne_eq,ge_iff_le,gt_iff_lt,ak,ac,aS];omega) rfl) (aD (a:=((i+1)*c,(i+1)*c,dh (DU xs c at_ d o) ((i+1)*c))) (sR ?_) (aO (by rw [ao];omega) rfl))
  refine aD (a:=()) rfl (aD (a:=((i+1)*c,(i+1)*c,dh (DU xs c at_ d o) ((i+1)*c))) ?_ rfl)
  refine dH (fun j=>(j,i*c+j,i*c+j,dh (DU xs c at_ d o) (i*c+j))) c rfl (fun j hj=>?_) ?_
  · have hq:i*c+j<r*c:=iF hi hj
    refine aD (a:=(i*c+(j+1),dh (DU xs c at_ d o) (i*c+(j+1)))) ?_ (aO (by rw [ao];omega) rfl)
    show (js _ _ _ _ _ _ _ _ _ _ _).run=_
    unfold js
    rw [jB hi hj]
    have P:=FV (hp i j hi hj) hL
    refine ew (by simp only [ao,aR,aT,ax,az,ag,aA,aB,decide_eq_true_eq,decide_eq_false_iff_not,beq_iff_eq,beq_eq_false_iff_ne,bne_iff_ne,bne_eq_false_iff_eq,Bool.not_eq_true',Bool.not_eq_false',List.length_set,ne_eq,ge_iff_le,gt_iff_lt,ak,ac,aS];omega) (dX (bB (cG (aO P.a (aO P.b (aO P.c (aO P.d (aO P.e (aO P.f (aO (by simp only [ao,aR,aT,ax,az,ag,aA,aB,decide_eq_true_eq,decide_eq_false_iff_not,beq_iff_eq,beq_eq_false_iff_ne,bne_iff_ne,bne_eq_false_iff_eq,Bool.not_eq_true',Bool.not_eq_false',List.length_set,ne_eq,ge_iff_le,gt_iff_lt,ak,ac,aS];omega) (aO (by simp only [ao,aR,aT,ax,az,ag,aA,aB,decide_eq_true_eq,decide_eq_false_iff_not,beq_iff_eq,beq_eq_false_iff_ne,bne_iff_ne,bne_eq_false_iff_eq,Bool.not_eq_true',Bool.not_eq_false',List.length_set,ne_eq,ge_iff_le,gt_iff_lt,ak,ac,aS];omega) (bB (aO (by rw [az,cZ];exact Nat.le_refl _) ?_)))))))))))))
    rw [P.g,←ZU (xs:=xs) (at_:=at_) (d:=d) (o:=o) (i:=i) hj]
    show some (Sum.inl _)=_
    rw [show i*c+(j+1)=i*c+j+1 from rfl,←MI]
  · rw [show (i+1)*c=i*c+c from Nat.succ_mul i c]
    exact dx (fI (by simp only [ao,aR,aT,ax,az,ag,aA,aB,decide_eq_true_eq,decide_eq_false_iff_not,beq_iff_eq,beq_eq_false_iff_ne,bne_iff_ne,bne_eq_false_iff_eq,Bool.not_eq_true',Bool.not_eq_false',List.length_set,ne_eq,ge_iff_le,gt_iff_lt,ak,ac,aS];omega) rfl)
theorem MM{xs:List Nat}{r c at_ d o:Nat}(hr:r≤512)(hc:c≤512)(hp:∀ i j,i<r→j<c→at_+i*d+j*o<xs.length)(hL:xs.length≤1000000) :
    bj xs (r:Int) (c:Int) (at_:Int) (d:Int) (o:Int)=some (.r0 r c (r*c) (dh (DU xs c at_ d o) (r*c))):=by
  refine cq (aD (a:=((r:Int),(c:Int),r*c,dh (DU xs c at_ d o) (r*c))) ?_ rfl)
  unfold rB
  have hl:(dh (DU xs c at_ d o) (r*c)).length=r*c:=cZ
  rw [cK,WW hr hc hp hL]
  show (T.need _ (T.need true (T.alt 1 (T.need (bv 0 (r*c) (dh (DU xs c at_ d o) (r*c))) (T.need (jj (bP (r:Int) (c:Int) (ab 0 (r*c) (dh (DU xs c at_ d o) (r*c))))) _)) _))).run=_
  refine dX (bB (rb (aO (by rw [ag,hl];omega) ?_)))
  show (T.need (jj (bP (r:Int) (c:Int) (ab 0 (r*c) (dh (DU xs c at_ d o) (r*c))))) (T.leaf (Sum.inl (jk (bP (r:Int) (c:Int) (ab 0 (r*c) (dh (DU xs c at_ d o) (r*c)))),jl (bP (r:Int) (c:Int) (ab 0 (r*c) (dh (DU xs c at_ d o) (r*c)))),jm (bP (r:Int) (c:Int) (ab 0 (r*c) (dh (DU xs c at_ d o) (r*c)))),jn (bP (r:Int) (c:Int) (ab 0 (r*c) (dh (DU xs c at_ d o) (r*c)))))))).run=_
  rw [nL hl,BI hl hr hc,hl]
  rfl
theorem aeI{n c:Nat}{xs:List Nat}{r at_ d o i x:Nat}(hn:n=xs.length)(hi:i<r)(hp:at_+i*d<xs.length)(hL:xs.length≤1000000) :
    bG n c xs (r:Int) 1 (at_:Int) (d:Int) (o:Int) (i:Int) x=some (.r0 0 n c (xs.set (at_+i*d) x)):=by
  subst hn
  refine cq (aD (a:=false) ?_ ?_)
  · unfold tl
    rw [JV]
    exact dX (bB rfl)
  · by_cases h1:r=1
    · subst h1
      have:i=0:=by omega
      subst this
      have P:=FV (at_:=at_) (i:=0) (d:=d) (j:=0) (o:=o) (L:=xs.length) (by omega) hL
      refine aD (a:=((0:Int),(0:Int))) (cG (dC rfl)) (aD (a:=xs.set (at_+0*d) x) ?_ rfl)
      show (hD _ _ _ _ _ _ _ _ _ _).run=_
      unfold hD
      rw [show au ((1:Nat):Int) (1:Int) (0:Int) (0:Int)=some (.r0 true) from jB (m:=1) (n:=1) (i:=0) (j:=0) (by omega) (by omega)]
      refine dX (bB (cG (aO P.a (aO P.b (aO P.c (aO P.d (aO P.e (aO P.f ?_))))))))
      show some (Sum.inl (xs.set (Int.toNat ((at_:Int)+((0:Nat):Int)*(d:Int)+((0:Nat):Int)*(o:Int))) x))=_
      simp only [P.g,Nat.zero_mul,Nat.add_zero]
    · have P:=FV (at_:=at_) (i:=i) (d:=d) (j:=0) (o:=o) (L:=xs.length) (by omega) hL
      refine aD (a:=((i:Int),(0:Int))) (cG (fI (by rw [beq_eq_false_iff_ne];omega) rfl)) (aD (a:=xs.set (at_+i*d) x) ?_ rfl)
      show (hD _ _ _ _ _ _ _ _ _ _).run=_
      unfold hD
      rw [show au (r:Int) (1:Int) (i:Int) (0:Int)=some (.r0 true) from jB (m:=r) (n:=1) (i:=i) (j:=0) hi (by omega)]
      refine dX (bB (cG (aO P.a (aO P.b (aO P.c (aO P.d (aO P.e (aO P.f ?_))))))))
      show some (Sum.inl (xs.set (Int.toNat ((at_:Int)+(i:Int)*(d:Int)+((0:Nat):Int)*(o:Int))) x))=_
      simp only [P.g,Nat.zero_mul,Nat.add_zero]
theorem FX{α:Type}{pos:Nat→Nat}{val:Nat→α}{l:List α}{d:α} :∀ {n i:Nat},i<n→(∀ a b,a<n→b<n→pos a=pos b→a=b)→pos i<l.length→(iy pos val l n).getD (pos i) d=val i
  | 0,i,h,_,_=>absurd h (Nat.not_lt_zero _)
  | n+1,i,h,hj,hl=>by
    simp only [iy,List.getD_eq_getElem?_getD,List.getElem?_set,ak]
    by_cases e:i=n
    · subst e;rw [if_pos rfl,if_pos hl];rfl
    · rw [if_neg (fun q=>e (hj i n h (Nat.lt_succ_self n) q.symm))]
      have:=FX (pos:=pos) (val:=val) (l:=l) (d:=d) (n:=n) (i:=i) (by omega) (fun a b ha hb=>hj a b (by omega) (by omega)) hl
      rwa [List.getD_eq_getElem?_getD] at this
def sgF(xs ys:List Nat)(a1 a2 d2 q:Nat) :Nat:=mK (xs.getD (a1+q) 0) (ys.getD (a2+q*d2) 0)
theorem adR{xs ys:List Nat}{K a1 d1 a2 d2 o2:Nat}(hK:K≤512)(hx:∀ q,q<K→a1+q<xs.length)(hy:∀ q,q<K→a2+q*d2<ys.length)(hX:xs.length≤1000000)(hY:ys.length≤1000000) :
    bk 0 (K:Int) xs 1 (K:Int) (a1:Int) (d1:Int) 1 ys (K:Int) 1 (a2:Int) (d2:Int) (o2:Int)=some (.r0 (wU (sgF xs ys a1 a2 d2) K)):=by
  refine cq (aD (a:=()) rfl (aD (a:=wU (sgF xs ys a1 a2 d2) K) (dH (fun q=>(wU (sgF xs ys a1 a2 d2) q,(q:Int))) K rfl (fun q hq=>?_) (dx (fI (decide_eq_false (by show ¬ ((K:Int)<(K:Int));omega)) rfl))) rfl))
  refine aD (a:=tM (wU (sgF xs ys a1 a2 d2) q) (sgF xs ys a1 a2 d2 q)) ?_ (aO (by rw [ao];omega) rfl)
  show (cr _ _ _ _ _ _ _ _ _ _ _ _ _ _ _).run=_
  unfold cr
  have hxq:=hx q hq
  have hyq:=hy q hq
  have P:=FV (at_:=a1) (i:=0) (d:=d1) (j:=q) (o:=1) (L:=xs.length) (by omega) hX
  have e1:a1+0*d1+q*1=a1+q:=by omega
  rw [aeH,JV,show au 1 (K:Int) 0 (q:Int)=some (.r0 true) from jB (m:=1) (n:=K) (i:=0) (j:=q) (by omega) hq]
  refine ew (decide_eq_true (by omega)) (dX (bB (cG (dC (dX (bB (cG (aO P.a (aO P.b (aO P.c (aO P.d (aO P.e (aO P.f (dX (bB (cG ?_))))))))))))))))
  by_cases h1:K=1
  · subst h1
    have:q=0:=by omega
    subst this
    have P':=FV (at_:=a2) (i:=0) (d:=d2) (j:=0) (o:=o2) (L:=ys.length) (by omega) hY
    have e2:a2+0*d2+0*o2=a2+0*d2:=by omega
    rw [show au ((1:Nat):Int) 1 0 ((0:Nat):Int)=some (.r0 true) from jB (m:=1) (n:=1) (i:=0) (j:=0) (by omega) (by omega)]
    refine dC (dX (bB (cG (aO P'.a (aO P'.b (aO P'.c (aO P'.d (aO P'.e (aO P'.f ?_)))))))))
    show some (Sum.inl (tM (wU (sgF xs ys a1 a2 d2) 0) (mK (xs.getD (Int.toNat ((a1:Int)+((0:Nat):Int)*(d1:Int)+((0:Nat):Int)*((1:Nat):Int))) 0) (ys.getD (Int.toNat ((a2:Int)+((0:Nat):Int)*(d2:Int)+((0:Nat):Int)*(o2:Int))) 0))))=_
    rw [P.g,P'.g,e1,e2]
    rfl
  · have P':=FV (at_:=a2) (i:=q) (d:=d2) (j:=0) (o:=o2) (L:=ys.length) (by omega) hY
    have e2:a2+q*d2+0*o2=a2+q*d2:=by omega
    rw [show au (K:Int) 1 (q:Int) 0=some (.r0 true) from jB (m:=K) (n:=1) (i:=q) (j:=0) hq (by omega)]
    refine fI (by rw [beq_eq_false_iff_ne];omega) (dX (bB (cG (aO P'.a (aO P'.b (aO P'.c (aO P'.d (aO P'.e (aO P'.f ?_)))))))))
    show some (Sum.inl (tM (wU (sgF xs ys a1 a2 d2) q) (mK (xs.getD (Int.toNat ((a1:Int)+((0:Nat):Int)*(d1:Int)+(q:Int)*((1:Nat):Int))) 0) (ys.getD (Int.toNat ((a2:Int)+(q:Int)*(d2:Int)+((0:Nat):Int)*(o2:Int))) 0))))=_
    rw [P.g,P'.g,e1,e2]
    rfl
def FZ(A B o:List Nat)(a b K C q:Nat) :Nat:=tM (mK b (o.getD q 0)) (mK a (wU (sgF A B (q/C*K) (q%C) C) K))
theorem PR{i j C:Nat}(hj:j<C) :(i*C+j)/C=i∧(i*C+j)%C=j:=by
  have hc:0<C:=by omega
  exact ⟨by rw [Nat.mul_comm,Nat.mul_add_div hc,Nat.div_eq_of_lt hj,Nat.add_zero],by rw [Nat.mul_comm,Nat.mul_add_mod,Nat.mod_eq_of_lt hj]⟩
theorem ab7{c1 c4:Nat}{l2 l5 o:List Nat}{a b R K C am dm om an dn on:Nat}(hR:R≤512)(hK:K≤512)(hC:C≤512)(ho:o.length=R*C) 
    (hm:∀ i j,i<R→j<K→am+i*dm+j*om<l2.length) (hn:∀ i j,i<K→j<C→an+i*dn+j*on<l5.length) (h2:l2.length≤1000000) (h5:l5.length≤1000000) {c7:Nat} :
    fX l2.length c1 l2 l5.length c4 l5 o.length c7 o a (R:Int) (K:Int) (am:Int) (dm:Int) (om:Int) (K:Int) (C:Int) (an:Int) (dn:Int) (on:Int) b (R:Int) (C:Int) 0 (C:Int) 1
      = some (.r0 0 l2.length c1 l2 l5.length c4 l5 o.length c7 (iy (fun q=>q) (FZ (dh (DU l2 K am dm om) (R*K)) (dh (DU l5 C an dn on) (K*C)) o a b K C) o (R*C))):=by
  have hRK:R*K≤512*512:=Nat.mul_le_mul hR hK
  have hKC:K*C≤512*512:=Nat.mul_le_mul hK hC
  have hRC:R*C≤512*512:=Nat.mul_le_mul hR hC
  obtain ⟨A,hA⟩:∃ A,dh (DU l2 K am dm om) (R*K)=A:=⟨_,rfl⟩
  obtain ⟨B,hB⟩:∃ B,dh (DU l5 C an dn on) (K*C)=B:=⟨_,rfl⟩
  have lA:A.length=R*K:=by rw [←hA];exact cZ
  have lB:B.length=K*C:=by rw [←hB];exact cZ
  have cA:bj l2 (R:Int) (K:Int) (am:Int) (dm:Int) (om:Int)=some (.r0 R K (R*K) A):=by rw [←hA];exact MM hR hK hm h2
  have cB:bj l5 (K:Int) (C:Int) (an:Int) (dn:Int) (on:Int)=some (.r0 K C (K*C) B):=by rw [←hB];exact MM hK hC hn h5
  rw [hA,hB]
  refine cq (aD (a:=0) ?_ (aD (a:=((R:Int),(K:Int),(K:Int),(C:Int),R*K,K*C,A,B)) ?_ (aD (a:=()) rfl (aD (a:=iy (fun q=>q) (FZ A B o a b K C) o (R*C)) (sR ?_) rfl))))
  · unfold we
    exact dC (bB (dC (bB (dC (bB (dC (bB (dC (bB (dC (bB (cG (ew (beq_self_eq_true _) (ew (beq_self_eq_true _) (fI (by simp) rfl)))))))))))))))
  · unfold wg
    rw [cK,cK,cA,cB]
    exact cG (dX (bB (dX (bB rfl))))
  · refine Option.map_eq_some_iff.2 ⟨.inl (iy (fun q=>q) (FZ A B o a b K C) o (R*C),R*K,R*K,K*C,K*C,A,B),aD (a:=()) rfl (aD (a:=(iy (fun q=>q) (FZ A B o a b K C) o (R*C),R*K,R*K,K*C,K*C,A,B)) ?_ rfl),rfl⟩
    refine dH (fun i=>(i,iy (fun q=>q) (FZ A B o a b K C) o (i*C),R*K,R*K,K*C,K*C,A,B)) R (by rw [Nat.zero_mul];rfl) (fun i hi=>?_) (dx (fI (by simp only [ao,aR,aT,ax,az,ag,aA,aB,decide_eq_true_eq,decide_eq_false_iff_not,beq_iff_eq,beq_eq_false_iff_ne,bne_iff_ne,bne_eq_false_iff_eq,Bool.not_eq_true',Bool.not_eq_false',List.length_set,ne_eq,ge_iff_le,gt_iff_lt,ak,ac,aS];omega) rfl))
    refine aD (a:=()) (ew (by simp only [ao,aR,aT,ax,az,ag,aA,aB,decide_eq_true_eq,decide_eq_false_iff_not,beq_iff_eq,beq_eq_false_iff_ne,bne_iff_ne,bne_eq_false_iff_eq,Bool.not_eq_true',Bool.not_eq_false',List.length_set,ne_eq,ge_iff_le,gt_iff_lt,ak,ac,aS];omega) rfl) (aD (a:=(iy (fun q=>q) (FZ A B o a b K C) o ((i+1)*C),R*K,R*K,K*C,K*C,A,B)) (sR ?_) (aO (by rw [ao];omega) rfl))
    refine aD (a:=()) rfl (aD (a:=(iy (fun q=>q) (FZ A B o a b K C) o ((i+1)*C),R*K,R*K,K*C,K*C,A,B)) ?_ rfl)
    refine dH (fun j=>(j,iy (fun q=>q) (FZ A B o a b K C) o (i*C+j),R*K,R*K,K*C,K*C,A,B)) C rfl (fun j hj=>?_) ?_
    · have hq:i*C+j<R*C:=iF hi hj
      have hL:(iy (fun q=>q) (FZ A B o a b K C) o (i*C+j)).length=R*C:=by rw [ak,ho]
      refine aD (a:=(iy (fun q=>q) (FZ A B o a b K C) o (i*C+(j+1)),R*K,R*K,K*C,K*C,A,B)) ?_ (aO (by rw [ao];omega) rfl)
      show (px _ _ _ _ _ _ _ _ _ _ _ _ _ _ _ _ _ _ _ _ _).run=_
      unfold px
      have pr:=Ba (n:=R*K) (c:=R*K) (xs:=A) (r:=R) (w:=K) (i:=i) (j:=0) (m:=1) (k:=K) (at_:=0) (d:=K) (o:=1) hR hK (by omega) (by omega) (by omega) (by omega) (by omega)
      have pc:=Ba (n:=K*C) (c:=K*C) (xs:=B) (r:=K) (w:=C) (i:=0) (j:=j) (m:=K) (k:=1) (at_:=0) (d:=C) (o:=1) hK hC (by omega) (by omega) (by omega) (by omega) (by omega)
      have e1:0+i*K+0*1=i*K:=by omega
      have e2:0+0*C+j*1=j:=by omega
      rw [e1] at pr
      rw [e2] at pc
      have sm:=adR (xs:=A) (ys:=B) (K:=K) (a1:=i*K) (d1:=K) (a2:=j) (d2:=C) (o2:=1) hK (fun q hq=>by rw [lA];exact iF hi hq) (fun q hq=>by rw [lB,Nat.add_comm];exact iF hq hj) (by omega) (by omega)
      have P:=FV (at_:=0) (i:=i) (d:=C) (j:=j) (o:=1) (L:=o.length) (by omega) (by omega)
      have e3:0+i*C+j*1=i*C+j:=by omega
      rw [jB hi hj,show aa (R*K) (R*K) A (R:Int) (K:Int) 0 (K:Int) 1 (i:Int) 0 1 (K:Int)=_ from pr,show aa (K*C) (K*C) B (K:Int) (C:Int) 0 (C:Int) 1 0 (j:Int) (K:Int) 1=_ from pc]
      have sA:ab 0 (R*K) A=A:=nL lA
      have sB:ab 0 (K*C) B=B:=nL lB
      refine ew (by simp only [ao,aR,aT,ax,az,ag,aA,aB,decide_eq_true_eq,decide_eq_false_iff_not,beq_iff_eq,beq_eq_false_iff_ne,bne_iff_ne,bne_eq_false_iff_eq,Bool.not_eq_true',Bool.not_eq_false',List.length_set,ne_eq,ge_iff_le,gt_iff_lt,ak,ac,aS];omega) (aO (by rw [ag,hL,ho];omega) (bB (cG (aO P.a (aO P.b (aO P.c (aO P.d (aO P.e (aO (by rw [hL,←ho];exact P.f) ?_)))))))))
      refine bB (bB (bB (bB (bB (bB (bB (bB (rb (bB (bB (bB (rb (bB ?_)))))))))))))
      simp only [aK,bN,aL,aX,aY,aZ,ba,bb,sA,sB]
      refine aO (by rw [ag,lA];omega) (aO (by rw [ag,lB];omega) ?_)
      rw [show bk 0 (K:Int) A ((1:Nat):Int) (K:Int) ((i*K:Nat):Int) (K:Int) ((1:Nat):Int) B (K:Int) ((1:Nat):Int) (j:Int) (C:Int) ((1:Nat):Int)=_ from sm]
      refine bB (aO (by rw [ag,hL,ho];omega) (bB (cG (aO P.a (aO P.b (aO P.c (aO P.d (aO P.e (aO (by rw [hL,←ho];exact P.f) ?_)))))))))
      show some (Sum.inl ((iy (fun q=>q) (FZ A B o a b K C) o (i*C+j)).set (Int.toNat (((0:Nat):Int)+(i:Int)*(C:Int)+(j:Int)*((1:Nat):Int))) (tM (mK b ((iy (fun q=>q) (FZ A B o a b K C) o (i*C+j)).getD (Int.toNat (((0:Nat):Int)+(i:Int)*(C:Int)+(j:Int)*((1:Nat):Int))) 0)) (mK a (wU (sgF A B (i*K) j C) K))),R*K,R*K,K*C,K*C,A,B))=_
      rw [P.g,e3,pd (fun q hq=>by show q≠i*C+j;omega)]
      obtain ⟨d1,d2⟩:=PR (i:=i) hj
      have hv:tM (mK b (o.getD (i*C+j) 0)) (mK a (wU (sgF A B (i*K) j C) K))=FZ A B o a b K C (i*C+j):=by unfold FZ;rw [d1,d2]
      rw [hv]
      rfl
    · rw [show (i+1)*C=i*C+C from Nat.succ_mul i C]
      exact dx (fI (by simp only [ao,aR,aT,ax,az,ag,aA,aB,decide_eq_true_eq,decide_eq_false_iff_not,beq_iff_eq,beq_eq_false_iff_ne,bne_iff_ne,bne_eq_false_iff_eq,Bool.not_eq_true',Bool.not_eq_false',List.length_set,ne_eq,ge_iff_le,gt_iff_lt,ak,ac,aS];omega) rfl)
def JW(l s:List Nat)(K j n:Nat) :List Nat:=iy (fun i=>i*K+j) (fun i=>fdiv (l.getD (i*K+j) 0) (s.getD j 0)) l n
def dvL(l s:List Nat)(K R n:Nat) :List Nat:=aau (fun j l=>JW l s K j R) l n
theorem aa1{l s:List Nat}{K j n:Nat} :(JW l s K j n).length=l.length:=ak
theorem BJ{l s:List Nat}{K R:Nat} :∀ {n:Nat},(dvL l s K R n).length=l.length
  | 0=>rfl
  | n+1=>by
    show (JW (dvL l s K R n) s K n R).length=_
    rw [aa1,BJ]
theorem SV{K j a b:Nat}(hj:j<K)(h:a*K+j=b*K+j) :a=b:=(JT hj hj h).1
theorem afL{l s:List Nat}{K j R i:Nat}(hj:j<K)(hi:i<R)(hl:l.length=R*K) :(JW l s K j R).getD (i*K+j) 0=fdiv (l.getD (i*K+j) 0) (s.getD j 0) :=
  FX (pos:=fun i=>i*K+j) (val:=fun i=>fdiv (l.getD (i*K+j) 0) (s.getD j 0)) hi (fun a b _ _ h=>SV hj h) (by rw [hl];exact iF hi hj)
theorem aeJ{l s:List Nat}{K j R i k:Nat}(hj:j<K)(hk:k<K)(hne:k≠j) :(JW l s K j R).getD (i*K+k) 0=l.getD (i*K+k) 0 :=
  pd (fun q _ h=>hne (JT hk hj h.symm).2)
theorem aa2{l s:List Nat}{K R i j:Nat}(hi:i<R)(hj:j<K)(hl:l.length=R*K) :∀ {n:Nat},n≤K→(dvL l s K R n).getD (i*K+j) 0=if j<n then fdiv (l.getD (i*K+j) 0) (s.getD j 0) else l.getD (i*K+j) 0
  | 0,_=>by rw [if_neg (Nat.not_lt_zero _)];rfl
  | n+1,hn=>by
    show (JW (dvL l s K R n) s K n R).getD (i*K+j) 0=_
    have ih:=aa2 (l:=l) (s:=s) hi hj hl (n:=n) (by omega)
    by_cases e:j=n
    · subst e
      rw [afL hj hi (by rw [BJ,hl]),ih,if_neg (Nat.lt_irrefl _),if_pos (Nat.lt_succ_self _)]
    · rw [aeJ (by omega) hj e,ih]
      by_cases q:j<n
      · rw [if_pos q,if_pos (by omega)]
      · rw [if_neg q,if_neg (by omega)]
theorem aeK{s l:List Nat}{K R j:Nat}(hR:R≤512)(hK:K≤512)(hj:j<K)(hs:j<s.length)(hS:s.length≤1000000)(hl:l.length=R*K){c:Nat} :
    dg (lH s j (R:Int) 1 (j:Int) (K:Int) 1 (R:Int)) (0,R*K,c,l)=some (.inl (R*K,c,JW l s K j R)):=by
  have hRK:R*K≤512*512:=Nat.mul_le_mul hR hK
  refine dH (fun i=>(i,R*K,c,JW l s K j i)) R rfl (fun i hi=>?_) (dx (fI (decide_eq_false (by show ¬ ((R:Int)<(R:Int));omega)) rfl))
  have hq:i*K+j<R*K:=iF hi hj
  have hL:(JW l s K j i).length=R*K:=by rw [aa1,hl]
  have hg:(JW l s K j i).getD (i*K+j) 0=l.getD (i*K+j) 0:=pd (fun q hq' h=>by have:=SV hj h;omega)
  refine aD (a:=(R*K,c,JW l s K j (i+1))) ?_ (aO (by rw [ao];omega) rfl)
  show (pI _ _ _ _ _ _ _ _ _ _ _ _).run=_
  unfold pI
  have pc:=aeI (n:=R*K) (c:=c) (xs:=JW l s K j i) (r:=R) (at_:=j) (d:=K) (o:=1) (i:=i) (x:=fdiv (l.getD (i*K+j) 0) (s.getD j 0)) hL.symm hi (by rw [hL];omega) (by omega)
  have e0:j+i*K=i*K+j:=by omega
  rw [e0] at pc
  have eW:(JW l s K j i).set (i*K+j) (fdiv (l.getD (i*K+j) 0) (s.getD j 0))=JW l s K j (i+1):=rfl
  rw [eW] at pc
  rw [show bc (R:Int) 1=some (.r0 true) from JV R]
  refine ew (decide_eq_true (by omega)) (aO (by rw [ag,hL];omega) (bB (cG ?_)))
  by_cases h1:R=1
  · subst h1
    have:i=0:=by omega
    subst this
    have P:=FV (at_:=j) (i:=0) (d:=K) (j:=0) (o:=1) (L:=1*K) (by omega) (by omega)
    have e1:j+0*K+0*1=0*K+j:=by omega
    rw [show au ((1:Nat):Int) 1 0 ((0:Nat):Int)=some (.r0 true) from jB (m:=1) (n:=1) (i:=0) (j:=0) (by omega) (by omega)]
    have key:(JW l s K j 0).getD (Int.toNat ((j:Int)+((0:Nat):Int)*(K:Int)+((0:Nat):Int)*((1:Nat):Int))) 0=l.getD (0*K+j) 0:=by rw [P.g,e1];exact hg
    have pc':bG (1*K) c (JW l s K j 0) ((1:Nat):Int) 1 (j:Int) (K:Int) 1 ((0:Nat):Int) (fdiv ((JW l s K j 0).getD (Int.toNat ((j:Int)+0*(K:Int)+((0:Nat):Int)*1)) 0) (s.getD j 0))=some (.r0 0 (1*K) c (JW l s K j (0+1))):=by
      rw [show (JW l s K j 0).getD (Int.toNat ((j:Int)+0*(K:Int)+((0:Nat):Int)*1)) 0=l.getD (0*K+j) 0 from key];exact pc
    refine dC (aO (by rw [ag,hL];omega) (bB (cG (aO P.a (aO P.b (aO P.c (aO P.d (aO P.e (aO (by rw [hL];exact P.f) (aO (by rw [aR];omega) (aO (by rw [ax];exact hs) ?_)))))))))))
    rw [pc']
    exact bB rfl
  · have P:=FV (at_:=j) (i:=i) (d:=K) (j:=0) (o:=1) (L:=R*K) (by omega) (by omega)
    have e1:j+i*K+0*1=i*K+j:=by omega
    rw [show au (R:Int) 1 (i:Int) 0=some (.r0 true) from jB (m:=R) (n:=1) (i:=i) (j:=0) hi (by omega)]
    have key:(JW l s K j i).getD (Int.toNat ((j:Int)+(i:Int)*(K:Int)+((0:Nat):Int)*((1:Nat):Int))) 0=l.getD (i*K+j) 0:=by rw [P.g,e1];exact hg
    have pc':bG (R*K) c (JW l s K j i) (R:Int) 1 (j:Int) (K:Int) 1 (i:Int) (fdiv ((JW l s K j i).getD (Int.toNat ((j:Int)+(i:Int)*(K:Int)+0*1)) 0) (s.getD j 0))=some (.r0 0 (R*K) c (JW l s K j (i+1))):=by
      rw [show (JW l s K j i).getD (Int.toNat ((j:Int)+(i:Int)*(K:Int)+0*1)) 0=l.getD (i*K+j) 0 from key];exact pc
    refine fI (by rw [beq_eq_false_iff_ne];omega) (aO (by rw [ag,hL];omega) (bB (cG (aO P.a (aO P.b (aO P.c (aO P.d (aO P.e (aO (by rw [hL];exact P.f) (aO (by rw [aR];omega) (aO (by rw [ax];exact hs) ?_)))))))))))
    rw [pc']
    exact bB rfl
theorem aeL{s l:List Nat}{K R:Nat}(hR:R≤512)(hK:K≤512)(hs:K≤s.length)(hS:s.length≤1000000)(hl:l.length=R*K) :
    dg (lI s (K:Int) (R:Int) (K:Int)) (0,R*K,R*K,l)=some (.inl (R*K,R*K,dvL l s K R K)):=by
  refine dH (fun j=>(j,R*K,R*K,dvL l s K R j)) K rfl (fun j hj=>?_) (dx (fI (decide_eq_false (by show ¬ ((K:Int)<(K:Int));omega)) rfl))
  have hL:(dvL l s K R j).length=R*K:=by rw [BJ,hl]
  have pr:=Ba (n:=R*K) (c:=R*K) (xs:=dvL l s K R j) (r:=R) (w:=K) (i:=0) (j:=j) (m:=R) (k:=1) (at_:=0) (d:=K) (o:=1) hR hK (by omega) (by omega) (by omega) (by omega) (by omega)
  have e1:0+0*K+j*1=j:=by omega
  rw [e1] at pr
  refine aD (a:=()) (ew (decide_eq_true (by omega)) rfl) (aD (a:=(R*K,R*K,dvL l s K R (j+1))) (sR ?_) (aO (by rw [ao];omega) rfl))
  refine aD (a:=((R:Int),(1:Int),(j:Int),(K:Int),(1:Int),R*K,R*K,dvL l s K R j)) ?_ (aD (a:=(R:Int)) ?_ (aD (a:=(R*K,R*K,dvL l s K R (j+1))) ?_ rfl))
  · show (pG _ _ _ _ _ _).run=_
    unfold pG
    rw [show aa (R*K) (R*K) (dvL l s K R j) (R:Int) (K:Int) 0 (K:Int) 1 0 (j:Int) (R:Int) 1=_ from pr]
    exact rb (bB rfl)
  · show (pH _ _ _ _).run=_
    unfold pH
    rw [show bc (R:Int) 1=some (.r0 true) from JV R,Int.mul_one]
    exact aO (by rw [ag,hL];omega) (bB (cG (aO (by rw [ao];omega) rfl)))
  · exact aeK hR hK hj (by omega) hS hL
def tI(v s:List Nat)(vc K R n:Nat)(l:List Nat) :List Nat:=aau (fun j l=>iy (fun i=>i*K+j) (fun i=>fdiv (v.getD (i*vc+j) 0) (s.getD j 0)) l R) l n
def tJ(u:List Nat)(uc C n:Nat)(l:List Nat) :List Nat:=aau (fun j l=>iy (fun i=>j*C+i) (fun i=>u.getD (i*uc+j) 0) l C) l n
theorem BL{v s:List Nat}{vc K R:Nat}{l:List Nat} :∀ {n:Nat},(tI v s vc K R n l).length=l.length
  | 0=>rfl
  | n+1=>by
    show (iy _ _ (tI v s vc K R n l) R).length=_
    rw [ak,BL]
theorem BM{u:List Nat}{uc C:Nat}{l:List Nat} :∀ {n:Nat},(tJ u uc C n l).length=l.length
  | 0=>rfl
  | n+1=>by
    show (iy _ _ (tJ u uc C n l) C).length=_
    rw [ak,BM]
theorem PS{v s:List Nat}{vc K R i j:Nat}{l:List Nat}(hi:i<R)(hj:j<K)(hl:l.length=R*K) :∀ {n:Nat},n≤K→j<n→(tI v s vc K R n l).getD (i*K+j) 0=fdiv (v.getD (i*vc+j) 0) (s.getD j 0)
  | 0,_,h=>absurd h (Nat.not_lt_zero _)
  | n+1,hn,h=>by
    show (iy (fun i=>i*K+n) (fun i=>fdiv (v.getD (i*vc+n) 0) (s.getD n 0)) (tI v s vc K R n l) R).getD (i*K+j) 0=_
    by_cases e:j=n
    · subst e
      exact FX (pos:=fun i=>i*K+j) (val:=fun i=>fdiv (v.getD (i*vc+j) 0) (s.getD j 0)) hi (fun a b _ _ h=>SV hj h) (by rw [BL,hl];exact iF hi hj)
    · rw [pd (fun q _ h=>e (JT hj (by omega) h.symm).2)]
      exact PS hi hj hl (n:=n) (by omega) (by omega)
theorem PT{u:List Nat}{uc C K i j:Nat}{l:List Nat}(hi:i<C)(hj:j<K)(hl:l.length=K*C) :∀ {n:Nat},n≤K→j<n→(tJ u uc C n l).getD (j*C+i) 0=u.getD (i*uc+j) 0
  | 0,_,h=>absurd h (Nat.not_lt_zero _)
  | n+1,hn,h=>by
    show (iy (fun i=>n*C+i) (fun i=>u.getD (i*uc+n) 0) (tJ u uc C n l) C).getD (j*C+i) 0=_
    by_cases e:j=n
    · subst e
      exact FX (pos:=fun i=>j*C+i) (val:=fun i=>u.getD (i*uc+j) 0) hi (fun a b ha hb h=>by omega) (by rw [BM,hl];exact iF hj hi)
    · rw [pd (fun q hq h=>e (JT hi hq h.symm).1)]
      exact PT hi hj hl (n:=n) (by omega) (by omega)
noncomputable def ON(l:List Nat) :Bool:=@decide (Fn l) (Classical.propDecidable _)
theorem PU{l:List Nat} :ON l=true↔Fn l:=@decide_eq_true_iff _ (Classical.propDecidable _)
theorem MN{l:List Nat} :ON l=false↔¬ Fn l:=@decide_eq_false_iff_not _ (Classical.propDecidable _)
theorem aeM{x:Nat}(h:Aj x=true) :isNaN x=false:=by
  rw [kx,decide_eq_false_iff_not]
  unfold Aj xpo at h
  rw [bne_iff_ne] at h
  omega
theorem fld(x:Nat) :cM .and .u64 (Int.fdiv (x:Int) (2^(min (Int.toNat (52:Int)) (IntKind.u64.bits)))) (2047:Int)=((xpo x:Nat):Int):=by
  have e1:(2^min (Int.toNat 52) IntKind.u64.bits:Int)=((4503599627370496:Nat):Int):=by decide
  have e2:Int.fdiv (x:Int) ((4503599627370496:Nat):Int)=((x/4503599627370496:Nat):Int):=by
    rw [Int.fdiv_eq_ediv_of_nonneg _ (by omega)];omega
  rw [e1,e2,Me];rfl
theorem afM(x:Nat) :xpo x<2048:=Nat.mod_lt _ (by decide)
theorem adS(x:Nat) :IntKind.i64.wrap ((xpo x:Nat):Int)=((xpo x:Nat):Int):=by
  have:=afM x
  simp only [IntKind.wrap,IntKind.signed,IntKind.bits]
  simp
  omega
theorem agf(x:Nat) :(IntKind.i64.wrap (cM .and .u64 (Int.fdiv (x:Int) (2^(min (Int.toNat (52:Int)) (IntKind.u64.bits)))) (2047:Int)) != (2047:Int))=Aj x:=by
  rw [fld,adS]
  unfold Aj
  cases q:(xpo x != 2047) with
  | true=>rw [bne_iff_ne] at q ⊢;omega
  | false=>rw [bne_eq_false_iff_eq] at q ⊢;omega
theorem ab8{l:List Nat}(hn:l.length≤1000000000) :kR l=some (.r0 (ON l)):=by
  have step:∀ j,j<l.length→Aj (l.getD j 0)=true→lz l j=some (.inl (j+1)):=by
    intro j hj hf
    show (jP _ _).run=_
    unfold jP
    exact ew (by simp only [ao,aR,aT,ax,az,ag,aA,aB,decide_eq_true_eq,decide_eq_false_iff_not,beq_iff_eq,beq_eq_false_iff_ne,bne_iff_ne,bne_eq_false_iff_eq,Bool.not_eq_true',Bool.not_eq_false',List.length_set,ne_eq,ge_iff_le,gt_iff_lt,ak,ac,aS];omega) (aO (by simp only [ao,aR,aT,ax,az,ag,aA,aB,decide_eq_true_eq,decide_eq_false_iff_not,beq_iff_eq,beq_eq_false_iff_ne,bne_iff_ne,bne_eq_false_iff_eq,Bool.not_eq_true',Bool.not_eq_false',List.length_set,ne_eq,ge_iff_le,gt_iff_lt,ak,ac,aS];omega) (aO (by simp only [ao,aR,aT,ax,az,ag,aA,aB,decide_eq_true_eq,decide_eq_false_iff_not,beq_iff_eq,beq_eq_false_iff_ne,bne_iff_ne,bne_eq_false_iff_eq,Bool.not_eq_true',Bool.not_eq_false',List.length_set,ne_eq,ge_iff_le,gt_iff_lt,ak,ac,aS];omega) (rb (aO (by rw [aeM hf];rfl) (bB (fI (by rw [agf,hf];rfl) (aO (by simp only [ao,aR,aT,ax,az,ag,aA,aB,decide_eq_true_eq,decide_eq_false_iff_not,beq_iff_eq,beq_eq_false_iff_ne,bne_iff_ne,bne_eq_false_iff_eq,Bool.not_eq_true',Bool.not_eq_false',List.length_set,ne_eq,ge_iff_le,gt_iff_lt,ak,ac,aS];omega) rfl)))))))
  by_cases h:Fn l
  · rw [PU.2 h]
    exact cq (aD (a:=()) rfl (aD (a:=()) (dH (fun j=>j) l.length rfl (fun j hj=>step j hj (h j hj)) (fI (by simp only [ao,aR,aT,ax,az,ag,aA,aB,decide_eq_true_eq,decide_eq_false_iff_not,beq_iff_eq,beq_eq_false_iff_ne,bne_iff_ne,bne_eq_false_iff_eq,Bool.not_eq_true',Bool.not_eq_false',List.length_set,ne_eq,ge_iff_le,gt_iff_lt,ak,ac,aS];omega) rfl)) rfl))
  · obtain ⟨k,hk,hb,hf⟩:=vW (p:=fun i=>Aj (l.getD i 0)=true) h
    have hbf:Aj (l.getD k 0)=false:=by cases q:Aj (l.getD k 0) with | true=>exact absurd q hb | false=>rfl
    rw [MN.2 h]
    refine cq (aD (a:=()) rfl (dx (dH (fun j=>j) k rfl (fun j hj=>step j (by omega) (hf j hj)) ?_)))
    show (jP _ _).run=_
    unfold jP
    refine ew (by simp only [ao,aR,aT,ax,az,ag,aA,aB,decide_eq_true_eq,decide_eq_false_iff_not,beq_iff_eq,beq_eq_false_iff_ne,bne_iff_ne,bne_eq_false_iff_eq,Bool.not_eq_true',Bool.not_eq_false',List.length_set,ne_eq,ge_iff_le,gt_iff_lt,ak,ac,aS];omega) (aO (by simp only [ao,aR,aT,ax,az,ag,aA,aB,decide_eq_true_eq,decide_eq_false_iff_not,beq_iff_eq,beq_eq_false_iff_ne,bne_iff_ne,bne_eq_false_iff_eq,Bool.not_eq_true',Bool.not_eq_false',List.length_set,ne_eq,ge_iff_le,gt_iff_lt,ak,ac,aS];omega) (aO (by simp only [ao,aR,aT,ax,az,ag,aA,aB,decide_eq_true_eq,decide_eq_false_iff_not,beq_iff_eq,beq_eq_false_iff_ne,bne_iff_ne,bne_eq_false_iff_eq,Bool.not_eq_true',Bool.not_eq_false',List.length_set,ne_eq,ge_iff_le,gt_iff_lt,ak,ac,aS];omega) ?_))
    cases q:isNaN (l.getD k 0) with
    | true=>exact No (Np rfl) (rb (bB rfl))
    | false=>exact rb (bB (bB (ew (by rw [agf,hbf];rfl) rfl)))
theorem ab9{l:List Nat}(hw:Wd l)(hn:l.length≤1000000000) :kY l=some (.r0 (ON l)):=by
  have step:∀ j,j<l.length→Aj (l.getD j 0)=true→lJ l j=some (.inl (j+1)):=by
    intro j hj hf
    show (jR _ _).run=_
    unfold jR
    exact ew (by simp only [ao,aR,aT,ax,az,ag,aA,aB,decide_eq_true_eq,decide_eq_false_iff_not,beq_iff_eq,beq_eq_false_iff_ne,bne_iff_ne,bne_eq_false_iff_eq,Bool.not_eq_true',Bool.not_eq_false',List.length_set,ne_eq,ge_iff_le,gt_iff_lt,ak,ac,aS];omega) (aO (by simp only [ao,aR,aT,ax,az,ag,aA,aB,decide_eq_true_eq,decide_eq_false_iff_not,beq_iff_eq,beq_eq_false_iff_ne,bne_iff_ne,bne_eq_false_iff_eq,Bool.not_eq_true',Bool.not_eq_false',List.length_set,ne_eq,ge_iff_le,gt_iff_lt,ak,ac,aS];omega) (aO (by simp only [ao,aR,aT,ax,az,ag,aA,aB,decide_eq_true_eq,decide_eq_false_iff_not,beq_iff_eq,beq_eq_false_iff_ne,bne_iff_ne,bne_eq_false_iff_eq,Bool.not_eq_true',Bool.not_eq_false',List.length_set,ne_eq,ge_iff_le,gt_iff_lt,ak,ac,aS];omega) (fI (aet (hw j) hf) (aO (by simp only [ao,aR,aT,ax,az,ag,aA,aB,decide_eq_true_eq,decide_eq_false_iff_not,beq_iff_eq,beq_eq_false_iff_ne,bne_iff_ne,bne_eq_false_iff_eq,Bool.not_eq_true',Bool.not_eq_false',List.length_set,ne_eq,ge_iff_le,gt_iff_lt,ak,ac,aS];omega) (aO (by simp only [ao,aR,aT,ax,az,ag,aA,aB,decide_eq_true_eq,decide_eq_false_iff_not,beq_iff_eq,beq_eq_false_iff_ne,bne_iff_ne,bne_eq_false_iff_eq,Bool.not_eq_true',Bool.not_eq_false',List.length_set,ne_eq,ge_iff_le,gt_iff_lt,ak,ac,aS];omega) (dC (fI (aev (hw j) hf) (aO (by simp only [ao,aR,aT,ax,az,ag,aA,aB,decide_eq_true_eq,decide_eq_false_iff_not,beq_iff_eq,beq_eq_false_iff_ne,bne_iff_ne,bne_eq_false_iff_eq,Bool.not_eq_true',Bool.not_eq_false',List.length_set,ne_eq,ge_iff_le,gt_iff_lt,ak,ac,aS];omega) rfl))))))))
  by_cases h:Fn l
  · rw [PU.2 h]
    exact cq (aD (a:=()) rfl (aD (a:=()) (dH (fun j=>j) l.length rfl (fun j hj=>step j hj (h j hj)) (fI (by simp only [ao,aR,aT,ax,az,ag,aA,aB,decide_eq_true_eq,decide_eq_false_iff_not,beq_iff_eq,beq_eq_false_iff_ne,bne_iff_ne,bne_eq_false_iff_eq,Bool.not_eq_true',Bool.not_eq_false',List.length_set,ne_eq,ge_iff_le,gt_iff_lt,ak,ac,aS];omega) rfl)) rfl))
  · obtain ⟨k,hk,hb,hf⟩:=vW (p:=fun i=>Aj (l.getD i 0)=true) h
    have hbf:Aj (l.getD k 0)=false:=by cases q:Aj (l.getD k 0) with | true=>exact absurd q hb | false=>rfl
    rw [MN.2 h]
    refine cq (aD (a:=()) rfl (dx (dH (fun j=>j) k rfl (fun j hj=>step j (by omega) (hf j hj)) ?_)))
    show (jR _ _).run=_
    unfold jR
    refine ew (by simp only [ao,aR,aT,ax,az,ag,aA,aB,decide_eq_true_eq,decide_eq_false_iff_not,beq_iff_eq,beq_eq_false_iff_ne,bne_iff_ne,bne_eq_false_iff_eq,Bool.not_eq_true',Bool.not_eq_false',List.length_set,ne_eq,ge_iff_le,gt_iff_lt,ak,ac,aS];omega) (aO (by simp only [ao,aR,aT,ax,az,ag,aA,aB,decide_eq_true_eq,decide_eq_false_iff_not,beq_iff_eq,beq_eq_false_iff_ne,bne_iff_ne,bne_eq_false_iff_eq,Bool.not_eq_true',Bool.not_eq_false',List.length_set,ne_eq,ge_iff_le,gt_iff_lt,ak,ac,aS];omega) (aO (by simp only [ao,aR,aT,ax,az,ag,aA,aB,decide_eq_true_eq,decide_eq_false_iff_not,beq_iff_eq,beq_eq_false_iff_ne,bne_iff_ne,bne_eq_false_iff_eq,Bool.not_eq_true',Bool.not_eq_false',List.length_set,ne_eq,ge_iff_le,gt_iff_lt,ak,ac,aS];omega) ?_))
    rcases abF (hw k) hbf with q | ⟨q1,q2,q3⟩
    · exact ew (aeu q) rfl
    · exact fI q3 (aO (by simp only [ao,aR,aT,ax,az,ag,aA,aB,decide_eq_true_eq,decide_eq_false_iff_not,beq_iff_eq,beq_eq_false_iff_ne,bne_iff_ne,bne_eq_false_iff_eq,Bool.not_eq_true',Bool.not_eq_false',List.length_set,ne_eq,ge_iff_le,gt_iff_lt,ak,ac,aS];omega) (aO (by simp only [ao,aR,aT,ax,az,ag,aA,aB,decide_eq_true_eq,decide_eq_false_iff_not,beq_iff_eq,beq_eq_false_iff_ne,bne_iff_ne,bne_eq_false_iff_eq,Bool.not_eq_true',Bool.not_eq_false',List.length_set,ne_eq,ge_iff_le,gt_iff_lt,ak,ac,aS];omega) (dC (ew (aew (hw k) q2) rfl))))
end Go.Plb.Seat
namespace Go.Plb.Seat
open Go Go.Plb
set_option linter.unusedSimpArgs false
set_option linter.unusedVariables false
def tK(s:List Nat)(j:Nat) :Bool:=flt (s.getD j 0) 0||(decide (0<j)&&fgt (s.getD j 0) (s.getD (j-1) 0))
def WX(s:List Nat) :Prop:=∀ j,j<s.length→tK s j=false
noncomputable def zA(s:List Nat) :Nat:=@ite _ (WX s) (Classical.propDecidable _) (bif ON s then 0 else 10) 2
theorem MO{s:List Nat}(h:WX s) :zA s=bif ON s then 0 else 10:=@if_pos _ (Classical.propDecidable _) h _ _ _
theorem WY{s:List Nat}(h : ¬ WX s) :zA s=2:=@if_neg _ (Classical.propDecidable _) h _ _ _
theorem aeN{j:Nat} :Int.toNat ((j:Int)-1)=j-1:=by omega
theorem adT{s:List Nat}(hn:s.length≤1000000) :ta s=some (.r0 (zA s)):=by
  have ok:∀ j,j<s.length→tK s j=false→nX s j=some (.inl (j+1)):=by
    intro j hj hb
    unfold tK at hb
    rw [Bool.or_eq_false_iff] at hb
    refine aD (a:=()) ?_ (aO (by simp only [ao,aR,aT,ax,az,ag,aA,aB,decide_eq_true_eq,decide_eq_false_iff_not,beq_iff_eq,beq_eq_false_iff_ne,bne_iff_ne,bne_eq_false_iff_eq,Bool.not_eq_true',Bool.not_eq_false',List.length_set,ne_eq,ge_iff_le,gt_iff_lt,ak,ac,aS];omega) rfl)
    unfold rU
    refine ew (by simp only [ao,aR,aT,ax,az,ag,aA,aB,decide_eq_true_eq,decide_eq_false_iff_not,beq_iff_eq,beq_eq_false_iff_ne,bne_iff_ne,bne_eq_false_iff_eq,Bool.not_eq_true',Bool.not_eq_false',List.length_set,ne_eq,ge_iff_le,gt_iff_lt,ak,ac,aS];omega) (aO (by simp only [ao,aR,aT,ax,az,ag,aA,aB,decide_eq_true_eq,decide_eq_false_iff_not,beq_iff_eq,beq_eq_false_iff_ne,bne_iff_ne,bne_eq_false_iff_eq,Bool.not_eq_true',Bool.not_eq_false',List.length_set,ne_eq,ge_iff_le,gt_iff_lt,ak,ac,aS];omega) (aO (by simp only [ao,aR,aT,ax,az,ag,aA,aB,decide_eq_true_eq,decide_eq_false_iff_not,beq_iff_eq,beq_eq_false_iff_ne,bne_iff_ne,bne_eq_false_iff_eq,Bool.not_eq_true',Bool.not_eq_false',List.length_set,ne_eq,ge_iff_le,gt_iff_lt,ak,ac,aS];omega) (fI hb.1 ?_)))
    by_cases h0:0<j
    · refine ew (by simp only [ao,aR,aT,ax,az,ag,aA,aB,decide_eq_true_eq,decide_eq_false_iff_not,beq_iff_eq,beq_eq_false_iff_ne,bne_iff_ne,bne_eq_false_iff_eq,Bool.not_eq_true',Bool.not_eq_false',List.length_set,ne_eq,ge_iff_le,gt_iff_lt,ak,ac,aS];omega) (aO (by simp only [ao,aR,aT,ax,az,ag,aA,aB,decide_eq_true_eq,decide_eq_false_iff_not,beq_iff_eq,beq_eq_false_iff_ne,bne_iff_ne,bne_eq_false_iff_eq,Bool.not_eq_true',Bool.not_eq_false',List.length_set,ne_eq,ge_iff_le,gt_iff_lt,ak,ac,aS];omega) (aO (by simp only [ao,aR,aT,ax,az,ag,aA,aB,decide_eq_true_eq,decide_eq_false_iff_not,beq_iff_eq,beq_eq_false_iff_ne,bne_iff_ne,bne_eq_false_iff_eq,Bool.not_eq_true',Bool.not_eq_false',List.length_set,ne_eq,ge_iff_le,gt_iff_lt,ak,ac,aS];omega) (aO (by simp only [ao,aR,aT,ax,az,ag,aA,aB,decide_eq_true_eq,decide_eq_false_iff_not,beq_iff_eq,beq_eq_false_iff_ne,bne_iff_ne,bne_eq_false_iff_eq,Bool.not_eq_true',Bool.not_eq_false',List.length_set,ne_eq,ge_iff_le,gt_iff_lt,ak,ac,aS];omega) (fI ?_ rfl))))
      have h2:=hb.2
      rw [decide_eq_true h0,Bool.true_and] at h2
      rw [aeN];exact h2
    · exact fI (by simp only [ao,aR,aT,ax,az,ag,aA,aB,decide_eq_true_eq,decide_eq_false_iff_not,beq_iff_eq,beq_eq_false_iff_ne,bne_iff_ne,bne_eq_false_iff_eq,Bool.not_eq_true',Bool.not_eq_false',List.length_set,ne_eq,ge_iff_le,gt_iff_lt,ak,ac,aS];omega) rfl
  have no:∀ j,j<s.length→tK s j=true→nX s j=some (.inr (.inr (.r0 2))):=by
    intro j hj hb
    unfold tK at hb
    refine dx ?_
    unfold rU
    refine ew (by simp only [ao,aR,aT,ax,az,ag,aA,aB,decide_eq_true_eq,decide_eq_false_iff_not,beq_iff_eq,beq_eq_false_iff_ne,bne_iff_ne,bne_eq_false_iff_eq,Bool.not_eq_true',Bool.not_eq_false',List.length_set,ne_eq,ge_iff_le,gt_iff_lt,ak,ac,aS];omega) (aO (by simp only [ao,aR,aT,ax,az,ag,aA,aB,decide_eq_true_eq,decide_eq_false_iff_not,beq_iff_eq,beq_eq_false_iff_ne,bne_iff_ne,bne_eq_false_iff_eq,Bool.not_eq_true',Bool.not_eq_false',List.length_set,ne_eq,ge_iff_le,gt_iff_lt,ak,ac,aS];omega) (aO (by simp only [ao,aR,aT,ax,az,ag,aA,aB,decide_eq_true_eq,decide_eq_false_iff_not,beq_iff_eq,beq_eq_false_iff_ne,bne_iff_ne,bne_eq_false_iff_eq,Bool.not_eq_true',Bool.not_eq_false',List.length_set,ne_eq,ge_iff_le,gt_iff_lt,ak,ac,aS];omega) ?_))
    cases h1:flt (s.getD j 0) 0 with
    | true=>exact dC rfl
    | false =>
      rw [h1,Bool.false_or,Bool.and_eq_true,decide_eq_true_eq] at hb
      refine cG (ew (by simp only [ao,aR,aT,ax,az,ag,aA,aB,decide_eq_true_eq,decide_eq_false_iff_not,beq_iff_eq,beq_eq_false_iff_ne,bne_iff_ne,bne_eq_false_iff_eq,Bool.not_eq_true',Bool.not_eq_false',List.length_set,ne_eq,ge_iff_le,gt_iff_lt,ak,ac,aS];omega) (aO (by simp only [ao,aR,aT,ax,az,ag,aA,aB,decide_eq_true_eq,decide_eq_false_iff_not,beq_iff_eq,beq_eq_false_iff_ne,bne_iff_ne,bne_eq_false_iff_eq,Bool.not_eq_true',Bool.not_eq_false',List.length_set,ne_eq,ge_iff_le,gt_iff_lt,ak,ac,aS];omega) (aO (by simp only [ao,aR,aT,ax,az,ag,aA,aB,decide_eq_true_eq,decide_eq_false_iff_not,beq_iff_eq,beq_eq_false_iff_ne,bne_iff_ne,bne_eq_false_iff_eq,Bool.not_eq_true',Bool.not_eq_false',List.length_set,ne_eq,ge_iff_le,gt_iff_lt,ak,ac,aS];omega) (aO (by simp only [ao,aR,aT,ax,az,ag,aA,aB,decide_eq_true_eq,decide_eq_false_iff_not,beq_iff_eq,beq_eq_false_iff_ne,bne_iff_ne,bne_eq_false_iff_eq,Bool.not_eq_true',Bool.not_eq_false',List.length_set,ne_eq,ge_iff_le,gt_iff_lt,ak,ac,aS];omega) (ew ?_ rfl)))))
      rw [aeN];exact hb.2
  by_cases h:WX s
  · rw [MO h]
    have hg:(xO s).run=some (.inl (!ON s)):=by
      unfold xO
      rw [cK,ab8 (by omega)]
      exact dX (bB rfl)
    refine cq (aD (a:=()) rfl (aD (a:=()) (dH (fun j=>j) s.length rfl (fun j hj=>ok j hj (h j hj)) (dx (by unfold rU;exact fI (by simp only [ao,aR,aT,ax,az,ag,aA,aB,decide_eq_true_eq,decide_eq_false_iff_not,beq_iff_eq,beq_eq_false_iff_ne,bne_iff_ne,bne_eq_false_iff_eq,Bool.not_eq_true',Bool.not_eq_false',List.length_set,ne_eq,ge_iff_le,gt_iff_lt,ak,ac,aS];omega) rfl))) (aD hg ?_)))
    cases ON s with
    | true=>exact cG rfl
    | false=>exact dC rfl
  · rw [WY h]
    obtain ⟨k,hk,hb,hf⟩:=vW (p:=fun i=>tK s i=false) h
    have hb:tK s k=true:=by cases q:tK s k with | true=>rfl | false=>exact absurd q hb
    exact cq (aD (a:=()) rfl (dx (dH (fun j=>j) k rfl (fun j hj=>ok j (by omega) (hf j hj)) (no k hk hb))))
theorem aca{s:List Nat}(hw:Wd s)(hn:s.length≤1000000) :qP s=some (.r0 (zA s)):=by
  have ok:∀ j,j<s.length→tK s j=false→mj s j=some (.inl (j+1)):=by
    intro j hj hb
    unfold tK at hb
    rw [Bool.or_eq_false_iff] at hb
    refine aD (a:=()) ?_ (aO (by simp only [ao,aR,aT,ax,az,ag,aA,aB,decide_eq_true_eq,decide_eq_false_iff_not,beq_iff_eq,beq_eq_false_iff_ne,bne_iff_ne,bne_eq_false_iff_eq,Bool.not_eq_true',Bool.not_eq_false',List.length_set,ne_eq,ge_iff_le,gt_iff_lt,ak,ac,aS];omega) rfl)
    unfold qm
    refine ew (by simp only [ao,aR,aT,ax,az,ag,aA,aB,decide_eq_true_eq,decide_eq_false_iff_not,beq_iff_eq,beq_eq_false_iff_ne,bne_iff_ne,bne_eq_false_iff_eq,Bool.not_eq_true',Bool.not_eq_false',List.length_set,ne_eq,ge_iff_le,gt_iff_lt,ak,ac,aS];omega) (aO (by simp only [ao,aR,aT,ax,az,ag,aA,aB,decide_eq_true_eq,decide_eq_false_iff_not,beq_iff_eq,beq_eq_false_iff_ne,bne_iff_ne,bne_eq_false_iff_eq,Bool.not_eq_true',Bool.not_eq_false',List.length_set,ne_eq,ge_iff_le,gt_iff_lt,ak,ac,aS];omega) (aO (by simp only [ao,aR,aT,ax,az,ag,aA,aB,decide_eq_true_eq,decide_eq_false_iff_not,beq_iff_eq,beq_eq_false_iff_ne,bne_iff_ne,bne_eq_false_iff_eq,Bool.not_eq_true',Bool.not_eq_false',List.length_set,ne_eq,ge_iff_le,gt_iff_lt,ak,ac,aS];omega) (fI hb.1 ?_)))
    by_cases h0:0<j
    · refine ew (by simp only [ao,aR,aT,ax,az,ag,aA,aB,decide_eq_true_eq,decide_eq_false_iff_not,beq_iff_eq,beq_eq_false_iff_ne,bne_iff_ne,bne_eq_false_iff_eq,Bool.not_eq_true',Bool.not_eq_false',List.length_set,ne_eq,ge_iff_le,gt_iff_lt,ak,ac,aS];omega) (aO (by simp only [ao,aR,aT,ax,az,ag,aA,aB,decide_eq_true_eq,decide_eq_false_iff_not,beq_iff_eq,beq_eq_false_iff_ne,bne_iff_ne,bne_eq_false_iff_eq,Bool.not_eq_true',Bool.not_eq_false',List.length_set,ne_eq,ge_iff_le,gt_iff_lt,ak,ac,aS];omega) (aO (by simp only [ao,aR,aT,ax,az,ag,aA,aB,decide_eq_true_eq,decide_eq_false_iff_not,beq_iff_eq,beq_eq_false_iff_ne,bne_iff_ne,bne_eq_false_iff_eq,Bool.not_eq_true',Bool.not_eq_false',List.length_set,ne_eq,ge_iff_le,gt_iff_lt,ak,ac,aS];omega) (aO (by simp only [ao,aR,aT,ax,az,ag,aA,aB,decide_eq_true_eq,decide_eq_false_iff_not,beq_iff_eq,beq_eq_false_iff_ne,bne_iff_ne,bne_eq_false_iff_eq,Bool.not_eq_true',Bool.not_eq_false',List.length_set,ne_eq,ge_iff_le,gt_iff_lt,ak,ac,aS];omega) (aO (by simp only [ao,aR,aT,ax,az,ag,aA,aB,decide_eq_true_eq,decide_eq_false_iff_not,beq_iff_eq,beq_eq_false_iff_ne,bne_iff_ne,bne_eq_false_iff_eq,Bool.not_eq_true',Bool.not_eq_false',List.length_set,ne_eq,ge_iff_le,gt_iff_lt,ak,ac,aS];omega) (aO (by simp only [ao,aR,aT,ax,az,ag,aA,aB,decide_eq_true_eq,decide_eq_false_iff_not,beq_iff_eq,beq_eq_false_iff_ne,bne_iff_ne,bne_eq_false_iff_eq,Bool.not_eq_true',Bool.not_eq_false',List.length_set,ne_eq,ge_iff_le,gt_iff_lt,ak,ac,aS];omega) (fI ?_ rfl))))))
      have h2:=hb.2
      rw [decide_eq_true h0,Bool.true_and] at h2
      rw [aeN];exact h2
    · exact fI (by simp only [ao,aR,aT,ax,az,ag,aA,aB,decide_eq_true_eq,decide_eq_false_iff_not,beq_iff_eq,beq_eq_false_iff_ne,bne_iff_ne,bne_eq_false_iff_eq,Bool.not_eq_true',Bool.not_eq_false',List.length_set,ne_eq,ge_iff_le,gt_iff_lt,ak,ac,aS];omega) rfl
  have no:∀ j,j<s.length→tK s j=true→mj s j=some (.inr (.inr (.r0 2))):=by
    intro j hj hb
    unfold tK at hb
    refine dx ?_
    unfold qm
    refine ew (by simp only [ao,aR,aT,ax,az,ag,aA,aB,decide_eq_true_eq,decide_eq_false_iff_not,beq_iff_eq,beq_eq_false_iff_ne,bne_iff_ne,bne_eq_false_iff_eq,Bool.not_eq_true',Bool.not_eq_false',List.length_set,ne_eq,ge_iff_le,gt_iff_lt,ak,ac,aS];omega) (aO (by simp only [ao,aR,aT,ax,az,ag,aA,aB,decide_eq_true_eq,decide_eq_false_iff_not,beq_iff_eq,beq_eq_false_iff_ne,bne_iff_ne,bne_eq_false_iff_eq,Bool.not_eq_true',Bool.not_eq_false',List.length_set,ne_eq,ge_iff_le,gt_iff_lt,ak,ac,aS];omega) (aO (by simp only [ao,aR,aT,ax,az,ag,aA,aB,decide_eq_true_eq,decide_eq_false_iff_not,beq_iff_eq,beq_eq_false_iff_ne,bne_iff_ne,bne_eq_false_iff_eq,Bool.not_eq_true',Bool.not_eq_false',List.length_set,ne_eq,ge_iff_le,gt_iff_lt,ak,ac,aS];omega) ?_))
    cases h1:flt (s.getD j 0) 0 with
    | true=>exact dC rfl
    | false =>
      rw [h1,Bool.false_or,Bool.and_eq_true,decide_eq_true_eq] at hb
      refine cG (ew (by simp only [ao,aR,aT,ax,az,ag,aA,aB,decide_eq_true_eq,decide_eq_false_iff_not,beq_iff_eq,beq_eq_false_iff_ne,bne_iff_ne,bne_eq_false_iff_eq,Bool.not_eq_true',Bool.not_eq_false',List.length_set,ne_eq,ge_iff_le,gt_iff_lt,ak,ac,aS];omega) (aO (by simp only [ao,aR,aT,ax,az,ag,aA,aB,decide_eq_true_eq,decide_eq_false_iff_not,beq_iff_eq,beq_eq_false_iff_ne,bne_iff_ne,bne_eq_false_iff_eq,Bool.not_eq_true',Bool.not_eq_false',List.length_set,ne_eq,ge_iff_le,gt_iff_lt,ak,ac,aS];omega) (aO (by simp only [ao,aR,aT,ax,az,ag,aA,aB,decide_eq_true_eq,decide_eq_false_iff_not,beq_iff_eq,beq_eq_false_iff_ne,bne_iff_ne,bne_eq_false_iff_eq,Bool.not_eq_true',Bool.not_eq_false',List.length_set,ne_eq,ge_iff_le,gt_iff_lt,ak,ac,aS];omega) (aO (by simp only [ao,aR,aT,ax,az,ag,aA,aB,decide_eq_true_eq,decide_eq_false_iff_not,beq_iff_eq,beq_eq_false_iff_ne,bne_iff_ne,bne_eq_false_iff_eq,Bool.not_eq_true',Bool.not_eq_false',List.length_set,ne_eq,ge_iff_le,gt_iff_lt,ak,ac,aS];omega) (aO (by simp only [ao,aR,aT,ax,az,ag,aA,aB,decide_eq_true_eq,decide_eq_false_iff_not,beq_iff_eq,beq_eq_false_iff_ne,bne_iff_ne,bne_eq_false_iff_eq,Bool.not_eq_true',Bool.not_eq_false',List.length_set,ne_eq,ge_iff_le,gt_iff_lt,ak,ac,aS];omega) (aO (by simp only [ao,aR,aT,ax,az,ag,aA,aB,decide_eq_true_eq,decide_eq_false_iff_not,beq_iff_eq,beq_eq_false_iff_ne,bne_iff_ne,bne_eq_false_iff_eq,Bool.not_eq_true',Bool.not_eq_false',List.length_set,ne_eq,ge_iff_le,gt_iff_lt,ak,ac,aS];omega) (ew ?_ rfl)))))))
      rw [aeN];exact hb.2
  by_cases h:WX s
  · rw [MO h]
    have hg:(vB s).run=some (.inl (!ON s)):=by
      unfold vB
      rw [cK,ab9 hw (by omega)]
      exact dX (bB rfl)
    refine cq (aD (a:=()) rfl (aD (a:=()) (dH (fun j=>j) s.length rfl (fun j hj=>ok j hj (h j hj)) (dx (by unfold qm;exact fI (by simp only [ao,aR,aT,ax,az,ag,aA,aB,decide_eq_true_eq,decide_eq_false_iff_not,beq_iff_eq,beq_eq_false_iff_ne,bne_iff_ne,bne_eq_false_iff_eq,Bool.not_eq_true',Bool.not_eq_false',List.length_set,ne_eq,ge_iff_le,gt_iff_lt,ak,ac,aS];omega) rfl))) (aD hg ?_)))
    cases ON s with
    | true=>exact cG rfl
    | false=>exact dC rfl
  · rw [WY h]
    obtain ⟨k,hk,hb,hf⟩:=vW (p:=fun i=>tK s i=false) h
    have hb:tK s k=true:=by cases q:tK s k with | true=>rfl | false=>exact absurd q hb
    exact cq (aD (a:=()) rfl (dx (dH (fun j=>j) k rfl (fun j hj=>ok j (by omega) (hf j hj)) (no k hk hb))))
end Go.Plb.Seat
namespace Go.Plb.Seat
open Go Go.Plb
set_option linter.unusedSimpArgs false
set_option linter.unusedVariables false
theorem ZV(w:Int) :∃ k,jX w=some (.r0 k):=by
  unfold jX AX
  cases h1:(cM .and .u64 (Int.fdiv w (2^(min (Int.toNat (52:Int)) (IntKind.u64.bits)))) (2047:Int))==(2047:Int) with
  | true =>
    cases h2:(cM .and .u64 w (4503599627370495:Int))==(0:Int) with
    | true=>exact ⟨4,cq (bB (dC (dC rfl)))⟩
    | false=>exact ⟨5,cq (bB (dC (cG rfl)))⟩
  | false =>
    cases h2:decide ((cM .and .u64 (Int.fdiv w (2^(min (Int.toNat (52:Int)) (IntKind.u64.bits)))) (2047:Int))>(0:Int)) with
    | true=>exact ⟨3,cq (bB (cG (dC rfl)))⟩
    | false =>
      cases h3:decide ((cM .and .u64 w (4503599627370495:Int))>(0:Int)) with
      | true=>exact ⟨2,cq (bB (cG (cG (dC rfl))))⟩
      | false=>exact ⟨1,cq (bB (cG (cG (cG rfl))))⟩
theorem adU(w:Int) :∃ y,gQ w=some (.r0 y):=by
  obtain ⟨k,hk⟩:=ZV w
  have h3:(yn w).run=some (.inl ((k:Int)==5)):=by
    unfold yn
    rw [hk]
    exact bB rfl
  cases hq:((k:Int)==5) with
  | true=>rw [hq] at h3;exact ⟨_,cq (aD h3 (dC rfl))⟩
  | false=>rw [hq] at h3;exact ⟨_,cq (aD h3 (cG rfl))⟩
theorem acb{l:List Nat}(hn:l.length≤1000000) :hH l l=some (.r0 true):=by
  refine cq (aD (a:=()) (fI (by simp) rfl) (aD (a:=()) (dH (fun j=>j) l.length rfl (fun j hj=>?_) (dx (fI (by simp only [ao,aR,aT,ax,az,ag,aA,aB,decide_eq_true_eq,decide_eq_false_iff_not,beq_iff_eq,beq_eq_false_iff_ne,bne_iff_ne,bne_eq_false_iff_eq,Bool.not_eq_true',Bool.not_eq_false',List.length_set,ne_eq,ge_iff_le,gt_iff_lt,ak,ac,aS];omega) rfl))) rfl))
  refine aD (a:=()) ?_ (aO (by simp only [ao,aR,aT,ax,az,ag,aA,aB,decide_eq_true_eq,decide_eq_false_iff_not,beq_iff_eq,beq_eq_false_iff_ne,bne_iff_ne,bne_eq_false_iff_eq,Bool.not_eq_true',Bool.not_eq_false',List.length_set,ne_eq,ge_iff_le,gt_iff_lt,ak,ac,aS];omega) rfl)
  unfold qQ
  obtain ⟨y,hy⟩:=adU ((l.getD j 0:Nat):Int)
  rw [hy]
  refine ew (by simp only [ao,aR,aT,ax,az,ag,aA,aB,decide_eq_true_eq,decide_eq_false_iff_not,beq_iff_eq,beq_eq_false_iff_ne,bne_iff_ne,bne_eq_false_iff_eq,Bool.not_eq_true',Bool.not_eq_false',List.length_set,ne_eq,ge_iff_le,gt_iff_lt,ak,ac,aS];omega) (aO (by simp only [ao,aR,aT,ax,az,ag,aA,aB,decide_eq_true_eq,decide_eq_false_iff_not,beq_iff_eq,beq_eq_false_iff_ne,bne_iff_ne,bne_eq_false_iff_eq,Bool.not_eq_true',Bool.not_eq_false',List.length_set,ne_eq,ge_iff_le,gt_iff_lt,ak,ac,aS];omega) (aO (by simp only [ao,aR,aT,ax,az,ag,aA,aB,decide_eq_true_eq,decide_eq_false_iff_not,beq_iff_eq,beq_eq_false_iff_ne,bne_iff_ne,bne_eq_false_iff_eq,Bool.not_eq_true',Bool.not_eq_false',List.length_set,ne_eq,ge_iff_le,gt_iff_lt,ak,ac,aS];omega) ?_))
  cases hx:isNaN (l.getD j 0) with
  | false=>exact rb (bB (bB (aO (by simp only [ao,aR,aT,ax,az,ag,aA,aB,decide_eq_true_eq,decide_eq_false_iff_not,beq_iff_eq,beq_eq_false_iff_ne,bne_iff_ne,bne_eq_false_iff_eq,Bool.not_eq_true',Bool.not_eq_false',List.length_set,ne_eq,ge_iff_le,gt_iff_lt,ak,ac,aS];omega) (aO (by simp only [ao,aR,aT,ax,az,ag,aA,aB,decide_eq_true_eq,decide_eq_false_iff_not,beq_iff_eq,beq_eq_false_iff_ne,bne_iff_ne,bne_eq_false_iff_eq,Bool.not_eq_true',Bool.not_eq_false',List.length_set,ne_eq,ge_iff_le,gt_iff_lt,ak,ac,aS];omega) (rb (bB (bB (fI (by simp) rfl))))))))
  | true=>exact No (Np rfl) (rb (bB (aO (by simp only [ao,aR,aT,ax,az,ag,aA,aB,decide_eq_true_eq,decide_eq_false_iff_not,beq_iff_eq,beq_eq_false_iff_ne,bne_iff_ne,bne_eq_false_iff_eq,Bool.not_eq_true',Bool.not_eq_false',List.length_set,ne_eq,ge_iff_le,gt_iff_lt,ak,ac,aS];omega) (aO (by simp only [ao,aR,aT,ax,az,ag,aA,aB,decide_eq_true_eq,decide_eq_false_iff_not,beq_iff_eq,beq_eq_false_iff_ne,bne_iff_ne,bne_eq_false_iff_eq,Bool.not_eq_true',Bool.not_eq_false',List.length_set,ne_eq,ge_iff_le,gt_iff_lt,ak,ac,aS];omega) (No (Np rfl) (rb (bB (cG rfl))))))))
theorem FY{r c:Int}{l:List Nat}(hn:l.length≤1000000) :cF r c l r c l=some (.r0 true):=by
  refine cq (aD (a:=true) ?_ rfl)
  unfold rD
  rw [cK,acb hn]
  exact ew (beq_self_eq_true _) (ew (beq_self_eq_true _) (dX (dX (bB rfl))))
def rv(r c:Int)(xs:List Nat) :Bool:=(pO r&&pO c)&&((xs.length:Int)==r*c)
theorem Bb{r c:Int}{xs:List Nat}(h:rv r c xs=true) :∃ r' c':Nat,r=(r':Int)∧c=(c':Int)∧r'≤512∧c'≤512∧xs.length=r'*c':=by
  simp only [rv,Bool.and_eq_true,iT,beq_iff_eq] at h
  obtain ⟨⟨h1,h2⟩,h3⟩:=h
  obtain ⟨r',rfl⟩:∃ r':Nat,r=(r':Int):=⟨r.toNat,by omega⟩
  obtain ⟨c',rfl⟩:∃ c':Nat,c=(c':Int):=⟨c.toNat,by omega⟩
  refine ⟨r',c',rfl,rfl,by omega,by omega,?_⟩
  rw [←Int.natCast_mul] at h3
  omega
theorem SW{r c:Int}{xs:List Nat}(h:rv r c xs=false) :bP r c xs=some .r0:=by
  refine afK fun ⟨h1,h2,h3⟩=>?_
  rw [rv,h1,h2,h3] at h
  simp at h
theorem WZ(r c:Int)(xs:List Nat) :iW r c xs=some (.r0 (rv r c xs)):=by
  unfold iW Fw
  by_cases h1:0≤r
  · by_cases h2:r≤512
    · by_cases h3:0≤c
      · by_cases h4:c≤512
        · have hL:r*c≤512*512:=Int.mul_le_mul h2 h4 h3 (by omega)
          have hL0:0≤r*c:=Int.mul_nonneg h1 h3
          have e:rv r c xs=((xs.length:Int)==r*c):=by
            rw [rv,show pO r=true from iT.2 ⟨h1,h2⟩,show pO c=true from iT.2 ⟨h3,h4⟩];rfl
          rw [e]
          exact cq (aD (ew (decide_eq_true h1) (ew (decide_eq_true h2) (ew (decide_eq_true h3) (ew (decide_eq_true h4) (aO (by rw [ao];omega) rfl))))) rfl)
        · have e:rv r c xs=false:=by
            rw [rv,show pO c=false from by rw [←Bool.not_eq_true,iT];omega];simp
          rw [e]
          exact cq (aD (ew (decide_eq_true h1) (ew (decide_eq_true h2) (ew (decide_eq_true h3) (fI (decide_eq_false h4) rfl)))) rfl)
      · have e:rv r c xs=false:=by
          rw [rv,show pO c=false from by rw [←Bool.not_eq_true,iT];omega];simp
        rw [e]
        exact cq (aD (ew (decide_eq_true h1) (ew (decide_eq_true h2) (fI (decide_eq_false (by omega)) rfl))) rfl)
    · have e:rv r c xs=false:=by
        rw [rv,show pO r=false from by rw [←Bool.not_eq_true,iT];omega];simp
      rw [e]
      exact cq (aD (ew (decide_eq_true h1) (fI (decide_eq_false h2) rfl)) rfl)
  · have e:rv r c xs=false:=by
      rw [rv,show pO r=false from by rw [←Bool.not_eq_true,iT];omega];simp
    rw [e]
    exact cq (aD (fI (decide_eq_false (by omega)) rfl) rfl)
theorem acd{t:List Nat}{K C j:Nat}(hK:K≤512)(hC:C≤512)(hj:j<C)(ht:t.length=K*C) :
    gR (K:Int) (C:Int) t (j:Int)=some (.r0 K K (dh (fun q=>t.getD (q*C+j) 0) K)):=by
  have hKC:K*C≤512*512:=Nat.mul_le_mul hK hC
  refine cq (aD (a:=()) rfl (aD (a:=(K,K,dh (fun q=>t.getD (q*C+j) 0) K)) (dH (fun q=>(q,q,q,dh (fun q=>t.getD (q*C+j) 0) q)) K rfl (fun q hq=>?_) (fI (by simp only [ao,aR,aT,ax,az,ag,aA,aB,decide_eq_true_eq,decide_eq_false_iff_not,beq_iff_eq,beq_eq_false_iff_ne,bne_iff_ne,bne_eq_false_iff_eq,Bool.not_eq_true',Bool.not_eq_false',List.length_set,ne_eq,ge_iff_le,gt_iff_lt,ak,ac,aS];omega) rfl)) rfl))
  show (vD _ _ _ _ _ _ _ _).run=_
  unfold vD
  have hlt:q*C+j<t.length:=by rw [ht];exact iF hq hj
  have P:=Pe (x:=q) (c:=C) (k:=j) (L:=t.length) hlt (by omega) (by omega)
  refine ew (by simp only [ao,aR,aT,ax,az,ag,aA,aB,decide_eq_true_eq,decide_eq_false_iff_not,beq_iff_eq,beq_eq_false_iff_ne,bne_iff_ne,bne_eq_false_iff_eq,Bool.not_eq_true',Bool.not_eq_false',List.length_set,ne_eq,ge_iff_le,gt_iff_lt,ak,ac,aS];omega) (aO P.b (aO P.c (aO P.d (aO P.e (aO (by simp only [ao,aR,aT,ax,az,ag,aA,aB,decide_eq_true_eq,decide_eq_false_iff_not,beq_iff_eq,beq_eq_false_iff_ne,bne_iff_ne,bne_eq_false_iff_eq,Bool.not_eq_true',Bool.not_eq_false',List.length_set,ne_eq,ge_iff_le,gt_iff_lt,ak,ac,aS];omega) (aO (by simp only [ao,aR,aT,ax,az,ag,aA,aB,decide_eq_true_eq,decide_eq_false_iff_not,beq_iff_eq,beq_eq_false_iff_ne,bne_iff_ne,bne_eq_false_iff_eq,Bool.not_eq_true',Bool.not_eq_false',List.length_set,ne_eq,ge_iff_le,gt_iff_lt,ak,ac,aS];omega) (bB (aO (by rw [az,cZ];exact Nat.le_refl _) (aO (by simp only [ao,aR,aT,ax,az,ag,aA,aB,decide_eq_true_eq,decide_eq_false_iff_not,beq_iff_eq,beq_eq_false_iff_ne,bne_iff_ne,bne_eq_false_iff_eq,Bool.not_eq_true',Bool.not_eq_false',List.length_set,ne_eq,ge_iff_le,gt_iff_lt,ak,ac,aS];omega) ?_)))))))))
  rw [P.f]
  show some (Sum.inl (q+1,q+1,q+1,List.take q (dh (fun q=>t.getD (q*C+j) 0) q)++List.take 1 [(fun q=>t.getD (q*C+j) 0) q]))=_
  rw [MI]
theorem ace{x y:List Nat}(h:y.length=x.length)(hx:x.length≤1000000) :nk x y=some (.r0 (wU (fun q=>mK (x.getD q 0) (y.getD q 0)) x.length)):=by
  refine cq (aD (a:=()) rfl (aD (a:=wU (fun q=>mK (x.getD q 0) (y.getD q 0)) x.length) (dH (fun q=>(wU (fun q=>mK (x.getD q 0) (y.getD q 0)) q,q)) x.length rfl (fun q hq=>?_) (fI (by simp only [ao,aR,aT,ax,az,ag,aA,aB,decide_eq_true_eq,decide_eq_false_iff_not,beq_iff_eq,beq_eq_false_iff_ne,bne_iff_ne,bne_eq_false_iff_eq,Bool.not_eq_true',Bool.not_eq_false',List.length_set,ne_eq,ge_iff_le,gt_iff_lt,ak,ac,aS];omega) rfl)) rfl))
  show (yq _ _ _ _).run=_
  unfold yq
  exact ew (by simp only [ao,aR,aT,ax,az,ag,aA,aB,decide_eq_true_eq,decide_eq_false_iff_not,beq_iff_eq,beq_eq_false_iff_ne,bne_iff_ne,bne_eq_false_iff_eq,Bool.not_eq_true',Bool.not_eq_false',List.length_set,ne_eq,ge_iff_le,gt_iff_lt,ak,ac,aS];omega) (aO (by simp only [ao,aR,aT,ax,az,ag,aA,aB,decide_eq_true_eq,decide_eq_false_iff_not,beq_iff_eq,beq_eq_false_iff_ne,bne_iff_ne,bne_eq_false_iff_eq,Bool.not_eq_true',Bool.not_eq_false',List.length_set,ne_eq,ge_iff_le,gt_iff_lt,ak,ac,aS];omega) (aO (by simp only [ao,aR,aT,ax,az,ag,aA,aB,decide_eq_true_eq,decide_eq_false_iff_not,beq_iff_eq,beq_eq_false_iff_ne,bne_iff_ne,bne_eq_false_iff_eq,Bool.not_eq_true',Bool.not_eq_false',List.length_set,ne_eq,ge_iff_le,gt_iff_lt,ak,ac,aS];omega) (aO (by simp only [ao,aR,aT,ax,az,ag,aA,aB,decide_eq_true_eq,decide_eq_false_iff_not,beq_iff_eq,beq_eq_false_iff_ne,bne_iff_ne,bne_eq_false_iff_eq,Bool.not_eq_true',Bool.not_eq_false',List.length_set,ne_eq,ge_iff_le,gt_iff_lt,ak,ac,aS];omega) (aO (by simp only [ao,aR,aT,ax,az,ag,aA,aB,decide_eq_true_eq,decide_eq_false_iff_not,beq_iff_eq,beq_eq_false_iff_ne,bne_iff_ne,bne_eq_false_iff_eq,Bool.not_eq_true',Bool.not_eq_false',List.length_set,ne_eq,ge_iff_le,gt_iff_lt,ak,ac,aS];omega) (aO (by simp only [ao,aR,aT,ax,az,ag,aA,aB,decide_eq_true_eq,decide_eq_false_iff_not,beq_iff_eq,beq_eq_false_iff_ne,bne_iff_ne,bne_eq_false_iff_eq,Bool.not_eq_true',Bool.not_eq_false',List.length_set,ne_eq,ge_iff_le,gt_iff_lt,ak,ac,aS];omega) rfl)))))
theorem acf{l:List Nat}{o n i:Nat}(h:i<n) :(ab o n l).getD i 0=l.getD (o+i) 0:=by
  rw [JR,List.getD_eq_getElem?_getD,List.getD_eq_getElem?_getD,List.getElem?_take_of_lt h,List.getElem?_drop]
theorem ZW{w t o:List Nat}{a b R K C:Nat}(hR:R≤512)(hK:K≤512)(hC:C≤512)(hw:w.length=R*K)(ht:t.length=K*C)(ho:o.length=R*C) :
    iu a (K:Int) w (K:Int) (C:Int) t b (R:Int) (C:Int) o=some (.r0 R C o.length (iy (fun q=>q) (FZ w t o a b K C) o (R*C))):=by
  have hRK:R*K≤512*512:=Nat.mul_le_mul hR hK
  have hKC:K*C≤512*512:=Nat.mul_le_mul hK hC
  have hRC:R*C≤512*512:=Nat.mul_le_mul hR hC
  refine cq (aD (a:=o) ?_ (aD (a:=iy (fun q=>q) (FZ w t o a b K C) o (R*C)) ?_ rfl))
  · unfold A6
    refine aO (by simp only [ao,aR,aT,ax,az,ag,aA,aB,decide_eq_true_eq,decide_eq_false_iff_not,beq_iff_eq,beq_eq_false_iff_ne,bne_iff_ne,bne_eq_false_iff_eq,Bool.not_eq_true',Bool.not_eq_false',List.length_set,ne_eq,ge_iff_le,gt_iff_lt,ak,ac,aS];omega) (aO (by simp only [ao,aR,aT,ax,az,ag,aA,aB,decide_eq_true_eq,decide_eq_false_iff_not,beq_iff_eq,beq_eq_false_iff_ne,bne_iff_ne,bne_eq_false_iff_eq,Bool.not_eq_true',Bool.not_eq_false',List.length_set,ne_eq,ge_iff_le,gt_iff_lt,ak,ac,aS];omega) (aO (Un _) ?_))
    rw [List.take_length];rfl
  refine dH (fun i=>(i,iy (fun q=>q) (FZ w t o a b K C) o (i*C))) R (by rw [Nat.zero_mul];rfl) (fun i hi=>?_) (dx (fI (by simp only [ao,aR,aT,ax,az,ag,aA,aB,decide_eq_true_eq,decide_eq_false_iff_not,beq_iff_eq,beq_eq_false_iff_ne,bne_iff_ne,bne_eq_false_iff_eq,Bool.not_eq_true',Bool.not_eq_false',List.length_set,ne_eq,ge_iff_le,gt_iff_lt,ak,ac,aS];omega) rfl))
  refine aD (a:=()) (ew (by simp only [ao,aR,aT,ax,az,ag,aA,aB,decide_eq_true_eq,decide_eq_false_iff_not,beq_iff_eq,beq_eq_false_iff_ne,bne_iff_ne,bne_eq_false_iff_eq,Bool.not_eq_true',Bool.not_eq_false',List.length_set,ne_eq,ge_iff_le,gt_iff_lt,ak,ac,aS];omega) rfl) (aD (a:=iy (fun q=>q) (FZ w t o a b K C) o ((i+1)*C)) (sR ?_) (aO (by rw [ao];omega) rfl))
  refine aD (a:=()) rfl (aD (a:=iy (fun q=>q) (FZ w t o a b K C) o ((i+1)*C)) ?_ rfl)
  refine dH (fun j=>(j,iy (fun q=>q) (FZ w t o a b K C) o (i*C+j))) C rfl (fun j hj=>?_) ?_
  · have hq:i*C+j<R*C:=iF hi hj
    have hL:(iy (fun q=>q) (FZ w t o a b K C) o (i*C+j)).length=o.length:=ak
    refine aD (a:=iy (fun q=>q) (FZ w t o a b K C) o (i*C+(j+1))) ?_ (aO (by rw [ao];omega) rfl)
    show (tF _ _ _ _ _ _ _ _ _ _ _ _).run=_
    unfold tF
    have P:=Pe (x:=i) (c:=C) (k:=j) (L:=o.length) (by omega) (by omega) (by omega)
    have hiK:i*K+K≤R*K:=by have:=Nat.mul_le_mul_right K (show i+1≤R from hi);rw [Nat.add_mul,Nat.one_mul] at this;exact this
    have eK:(i:Int)*(K:Int)=((i*K:Nat):Int):=by rw [Int.natCast_mul]
    have eK2:((i*K:Nat):Int)+(K:Int)=((i*K+K:Nat):Int):=by rw [Int.natCast_add]
    rw [eK,eK2,cK,acd hK hC hj ht,Int.toNat_natCast,Int.toNat_natCast,show i*K+K-i*K=K from by omega]
    have lr:(ab (i*K) K w).length=K:=kG (by rw [hw];exact hiK)
    have lc:(dh (fun q=>t.getD (q*C+j) 0) K).length=K:=cZ
    have hd:nk (ab (i*K) K w) (ab 0 K (dh (fun q=>t.getD (q*C+j) 0) K))=some (.r0 (wU (sgF w t (i*K) j C) K)):=by
      rw [nL lc,ace (by rw [lr,lc]) (by omega),lr]
      refine congrArg (fun z=>some (eZ.r0 z)) (K5 fun q hq=>?_)
      rw [acf hq,pf hq,sgF,Nat.add_comm j]
    simp only [iR,iS]
    rw [hd]
    refine ew (by simp only [ao,aR,aT,ax,az,ag,aA,aB,decide_eq_true_eq,decide_eq_false_iff_not,beq_iff_eq,beq_eq_false_iff_ne,bne_iff_ne,bne_eq_false_iff_eq,Bool.not_eq_true',Bool.not_eq_false',List.length_set,ne_eq,ge_iff_le,gt_iff_lt,ak,ac,aS];omega) (aO P.b (aO P.c (aO P.b (aO P.c (aO P.d (aO P.e (aO (by rw [ao];omega) (aO (by rw [ao];omega) (aO (by rw [ao];omega) (aO (by rw [aT];omega) (aO (by rw [aT];omega) (dX (bB (aO (by rw [ag];omega) (aO (by rw [ag,lc];omega) (bB (aO P.d (aO (by rw [hL];exact P.e) ?_))))))))))))))))))
    rw [P.f]
    obtain ⟨d1,d2⟩:=PR (i:=i) hj
    have hv:tM (mK b (o.getD (i*C+j) 0)) (mK a (wU (sgF w t (i*K) j C) K))=FZ w t o a b K C (i*C+j):=by unfold FZ;rw [d1,d2]
    show some (Sum.inl ((iy (fun q=>q) (FZ w t o a b K C) o (i*C+j)).set (i*C+j) (tM (mK b (o.getD (i*C+j) 0)) (mK a (wU (sgF w t (i*K) j C) K)))))=_
    rw [hv]
    rfl
  · rw [show (i+1)*C=i*C+C from Nat.succ_mul i C]
    exact dx (fI (by simp only [ao,aR,aT,ax,az,ag,aA,aB,decide_eq_true_eq,decide_eq_false_iff_not,beq_iff_eq,beq_eq_false_iff_ne,bne_iff_ne,bne_eq_false_iff_eq,Bool.not_eq_true',Bool.not_eq_false',List.length_set,ne_eq,ge_iff_le,gt_iff_lt,ak,ac,aS];omega) rfl)
theorem acg{s u v:List Nat}{R vc C uc K:Nat}(hR:R≤512)(hvc:vc≤512)(hC:C≤512)(huc:uc≤512)(hu:u.length=C*uc)(hv:v.length=R*vc)(hs:s.length=vc)(hs':s.length=uc)(hK:K≤s.length) :
    co s (C:Int) (uc:Int) u (R:Int) (vc:Int) v (K:Int)=some (.r0 R C (R*C) (iy (fun q=>q) (FZ (tI v s vc K R K (List.replicate (R*K) 0)) (tJ u uc C K (List.replicate (K*C) 0)) (List.replicate (R*C) 0) 4607182418800017408 0 K C) (List.replicate (R*C) 0) (R*C))):=by
  have hK':K≤512:=by omega
  have hRK:R*K≤512*512:=Nat.mul_le_mul hR hK'
  have hKC:K*C≤512*512:=Nat.mul_le_mul hK' hC
  have hRC:R*C≤512*512:=Nat.mul_le_mul hR hC
  have hRV:R*vc≤512*512:=Nat.mul_le_mul hR hvc
  have hCU:C*uc≤512*512:=Nat.mul_le_mul hC huc
  have e1:(R:Int)*(K:Int)=((R*K:Nat):Int):=by rw [Int.natCast_mul]
  have e2:(K:Int)*(C:Int)=((K*C:Nat):Int):=by rw [Int.natCast_mul]
  have e3:(R:Int)*(C:Int)=((R*C:Nat):Int):=by rw [Int.natCast_mul]
  have lW:∀ n,(tI v s vc K R n (List.replicate (R*K) 0)).length=R*K:=fun n=>by rw [BL,List.length_replicate]
  have lT:∀ n,(tJ u uc C n (List.replicate (K*C) 0)).length=K*C:=fun n=>by rw [BM,List.length_replicate]
  refine cq (aD (a:=(R*K,K*C,List.replicate (R*K) 0,List.replicate (K*C) 0)) ?_ (aD (a:=(tI v s vc K R K (List.replicate (R*K) 0),tJ u uc C K (List.replicate (K*C) 0))) ?_ (aD (a:=((R:Int),(C:Int),R*C,iy (fun q=>q) (FZ (tI v s vc K R K (List.replicate (R*K) 0)) (tJ u uc C K (List.replicate (K*C) 0)) (List.replicate (R*C) 0) 4607182418800017408 0 K C) (List.replicate (R*C) 0) (R*C))) ?_ rfl)))
  · unfold uJ
    rw [e1,e2,Int.toNat_natCast,Int.toNat_natCast]
    generalize R*K=p at hRK
    generalize K*C=q at hKC
    exact aO (by simp only [ao,aR,aT,ax,az,ag,aA,aB,decide_eq_true_eq,decide_eq_false_iff_not,beq_iff_eq,beq_eq_false_iff_ne,bne_iff_ne,bne_eq_false_iff_eq,Bool.not_eq_true',Bool.not_eq_false',List.length_set,ne_eq,ge_iff_le,gt_iff_lt,ak,ac,aS];omega) (aO (by simp only [ao,aR,aT,ax,az,ag,aA,aB,decide_eq_true_eq,decide_eq_false_iff_not,beq_iff_eq,beq_eq_false_iff_ne,bne_iff_ne,bne_eq_false_iff_eq,Bool.not_eq_true',Bool.not_eq_false',List.length_set,ne_eq,ge_iff_le,gt_iff_lt,ak,ac,aS];omega) (aO (by simp only [ao,aR,aT,ax,az,ag,aA,aB,decide_eq_true_eq,decide_eq_false_iff_not,beq_iff_eq,beq_eq_false_iff_ne,bne_iff_ne,bne_eq_false_iff_eq,Bool.not_eq_true',Bool.not_eq_false',List.length_set,ne_eq,ge_iff_le,gt_iff_lt,ak,ac,aS];omega) (aO (by simp only [ao,aR,aT,ax,az,ag,aA,aB,decide_eq_true_eq,decide_eq_false_iff_not,beq_iff_eq,beq_eq_false_iff_ne,bne_iff_ne,bne_eq_false_iff_eq,Bool.not_eq_true',Bool.not_eq_false',List.length_set,ne_eq,ge_iff_le,gt_iff_lt,ak,ac,aS];omega) (aO (by simp only [ao,aR,aT,ax,az,ag,aA,aB,decide_eq_true_eq,decide_eq_false_iff_not,beq_iff_eq,beq_eq_false_iff_ne,bne_iff_ne,bne_eq_false_iff_eq,Bool.not_eq_true',Bool.not_eq_false',List.length_set,ne_eq,ge_iff_le,gt_iff_lt,ak,ac,aS];omega) (aO (by simp only [ao,aR,aT,ax,az,ag,aA,aB,decide_eq_true_eq,decide_eq_false_iff_not,beq_iff_eq,beq_eq_false_iff_ne,bne_iff_ne,bne_eq_false_iff_eq,Bool.not_eq_true',Bool.not_eq_false',List.length_set,ne_eq,ge_iff_le,gt_iff_lt,ak,ac,aS];omega) (aO (by simp only [ao,aR,aT,ax,az,ag,aA,aB,decide_eq_true_eq,decide_eq_false_iff_not,beq_iff_eq,beq_eq_false_iff_ne,bne_iff_ne,bne_eq_false_iff_eq,Bool.not_eq_true',Bool.not_eq_false',List.length_set,ne_eq,ge_iff_le,gt_iff_lt,ak,ac,aS];omega) (aO (by simp only [ao,aR,aT,ax,az,ag,aA,aB,decide_eq_true_eq,decide_eq_false_iff_not,beq_iff_eq,beq_eq_false_iff_ne,bne_iff_ne,bne_eq_false_iff_eq,Bool.not_eq_true',Bool.not_eq_false',List.length_set,ne_eq,ge_iff_le,gt_iff_lt,ak,ac,aS];omega) (aO (by simp only [ao,aR,aT,ax,az,ag,aA,aB,decide_eq_true_eq,decide_eq_false_iff_not,beq_iff_eq,beq_eq_false_iff_ne,bne_iff_ne,bne_eq_false_iff_eq,Bool.not_eq_true',Bool.not_eq_false',List.length_set,ne_eq,ge_iff_le,gt_iff_lt,ak,ac,aS];omega) (aO (by simp only [ao,aR,aT,ax,az,ag,aA,aB,decide_eq_true_eq,decide_eq_false_iff_not,beq_iff_eq,beq_eq_false_iff_ne,bne_iff_ne,bne_eq_false_iff_eq,Bool.not_eq_true',Bool.not_eq_false',List.length_set,ne_eq,ge_iff_le,gt_iff_lt,ak,ac,aS];omega) rfl)))))))))
  · refine dH (fun j=>(j,tI v s vc K R j (List.replicate (R*K) 0),tJ u uc C j (List.replicate (K*C) 0))) K rfl (fun j hj=>?_) (dx (fI (by simp only [ao,aR,aT,ax,az,ag,aA,aB,decide_eq_true_eq,decide_eq_false_iff_not,beq_iff_eq,beq_eq_false_iff_ne,bne_iff_ne,bne_eq_false_iff_eq,Bool.not_eq_true',Bool.not_eq_false',List.length_set,ne_eq,ge_iff_le,gt_iff_lt,ak,ac,aS];omega) rfl))
    refine aD (a:=()) (ew (by simp only [ao,aR,aT,ax,az,ag,aA,aB,decide_eq_true_eq,decide_eq_false_iff_not,beq_iff_eq,beq_eq_false_iff_ne,bne_iff_ne,bne_eq_false_iff_eq,Bool.not_eq_true',Bool.not_eq_false',List.length_set,ne_eq,ge_iff_le,gt_iff_lt,ak,ac,aS];omega) rfl) (aD (a:=(tI v s vc K R (j+1) (List.replicate (R*K) 0),tJ u uc C (j+1) (List.replicate (K*C) 0))) (sR ?_) (aO (by rw [ao];omega) rfl))
    refine aD (a:=()) rfl (aD (a:=tI v s vc K R (j+1) (List.replicate (R*K) 0)) ?_ (aD (a:=()) rfl (aD (a:=tJ u uc C (j+1) (List.replicate (K*C) 0)) ?_ rfl)))
    · refine dH (fun i=>(i,iy (fun i=>i*K+j) (fun i=>fdiv (v.getD (i*vc+j) 0) (s.getD j 0)) (tI v s vc K R j (List.replicate (R*K) 0)) i)) R rfl (fun i hi=>?_) (fI (by simp only [ao,aR,aT,ax,az,ag,aA,aB,decide_eq_true_eq,decide_eq_false_iff_not,beq_iff_eq,beq_eq_false_iff_ne,bne_iff_ne,bne_eq_false_iff_eq,Bool.not_eq_true',Bool.not_eq_false',List.length_set,ne_eq,ge_iff_le,gt_iff_lt,ak,ac,aS];omega) rfl)
      show (oE _ _ _ _ _ _ _ _ _).run=_
      unfold oE
      have hq:i*K+j<R*K:=iF hi hj
      have hq2:i*vc+j<R*vc:=iF hi (by omega)
      have P:=Pe (x:=i) (c:=K) (k:=j) (L:=R*K) hq (by omega) (by omega)
      have P2:=Pe (x:=i) (c:=vc) (k:=j) (L:=v.length) (by rw [hv];exact hq2) (by omega) (by omega)
      have hL:(iy (fun i=>i*K+j) (fun i=>fdiv (v.getD (i*vc+j) 0) (s.getD j 0)) (tI v s vc K R j (List.replicate (R*K) 0)) i).length=R*K:=by rw [ak,lW]
      refine ew (by simp only [ao,aR,aT,ax,az,ag,aA,aB,decide_eq_true_eq,decide_eq_false_iff_not,beq_iff_eq,beq_eq_false_iff_ne,bne_iff_ne,bne_eq_false_iff_eq,Bool.not_eq_true',Bool.not_eq_false',List.length_set,ne_eq,ge_iff_le,gt_iff_lt,ak,ac,aS];omega) (aO P.b (aO P.c (aO P2.b (aO P2.c (aO P2.d (aO P2.e (aO (by rw [aR];omega) (aO (by rw [ax];omega) (aO P.d (aO (by rw [hL];exact P.e) (aO (by simp only [ao,aR,aT,ax,az,ag,aA,aB,decide_eq_true_eq,decide_eq_false_iff_not,beq_iff_eq,beq_eq_false_iff_ne,bne_iff_ne,bne_eq_false_iff_eq,Bool.not_eq_true',Bool.not_eq_false',List.length_set,ne_eq,ge_iff_le,gt_iff_lt,ak,ac,aS];omega) ?_)))))))))))
      rw [P.f,P2.f]
      rfl
    · refine dH (fun i=>(i,iy (fun i=>j*C+i) (fun i=>u.getD (i*uc+j) 0) (tJ u uc C j (List.replicate (K*C) 0)) i)) C rfl (fun i hi=>?_) (fI (by simp only [ao,aR,aT,ax,az,ag,aA,aB,decide_eq_true_eq,decide_eq_false_iff_not,beq_iff_eq,beq_eq_false_iff_ne,bne_iff_ne,bne_eq_false_iff_eq,Bool.not_eq_true',Bool.not_eq_false',List.length_set,ne_eq,ge_iff_le,gt_iff_lt,ak,ac,aS];omega) rfl)
      show (oG _ _ _ _ _ _ _).run=_
      unfold oG
      have hq:j*C+i<K*C:=iF hj hi
      have hq2:i*uc+j<C*uc:=iF hi (by omega)
      have P:=Pe (x:=j) (c:=C) (k:=i) (L:=K*C) hq (by omega) (by omega)
      have P2:=Pe (x:=i) (c:=uc) (k:=j) (L:=u.length) (by rw [hu];exact hq2) (by omega) (by omega)
      have hL:(iy (fun i=>j*C+i) (fun i=>u.getD (i*uc+j) 0) (tJ u uc C j (List.replicate (K*C) 0)) i).length=K*C:=by rw [ak,lT]
      refine ew (by simp only [ao,aR,aT,ax,az,ag,aA,aB,decide_eq_true_eq,decide_eq_false_iff_not,beq_iff_eq,beq_eq_false_iff_ne,bne_iff_ne,bne_eq_false_iff_eq,Bool.not_eq_true',Bool.not_eq_false',List.length_set,ne_eq,ge_iff_le,gt_iff_lt,ak,ac,aS];omega) (aO P.b (aO P.c (aO P2.b (aO P2.c (aO P2.d (aO P2.e (aO P.d (aO (by rw [hL];exact P.e) (aO (by simp only [ao,aR,aT,ax,az,ag,aA,aB,decide_eq_true_eq,decide_eq_false_iff_not,beq_iff_eq,beq_eq_false_iff_ne,bne_iff_ne,bne_eq_false_iff_eq,Bool.not_eq_true',Bool.not_eq_false',List.length_set,ne_eq,ge_iff_le,gt_iff_lt,ak,ac,aS];omega) ?_)))))))))
      rw [P.f,P2.f]
      rfl
  · show (oJ _ _ _ _ _ _ _).run=_
    unfold oJ
    have lO:(List.replicate (R*C) 0).length=R*C:=List.length_replicate
    rw [e3,Int.toNat_natCast,nL (lW K),nL (lT K),nL lO,ZW hR hK' hC (lW K) (lT K) lO,lO]
    refine aO (by rw [ao];omega) (aO (decide_eq_true (by omega)) (aO (decide_eq_true (by omega)) (aO (decide_eq_true (by omega)) (aO (by rw [ao];omega) (aO (by rw [ag,lW];omega) (aO (by rw [ag,lT];omega) (aO (by rw [ag,lO];omega) (bB rfl))))))))
noncomputable def W3(s:List Nat)(u2 u3:Int)(u:List Nat)(v2 v3:Int)(v:List Nat)(k:Int) :Nat :=
  bif Nat.beq (zA s) 2 then 2 else bif rv u2 u3 u then (bif rv v2 v3 v then (bif u3 != (s.length:Int) then 8 else bif v3 != (s.length:Int) then 8 else bif decide (k<0) then 8 else bif decide (k>(s.length:Int)) then 8 else zA s) else 2) else 2
theorem adV{n:Nat} :((n:Int)==(2:Int))=Nat.beq n 2:=by
  cases h:Nat.beq n 2 with
  | true=>rw [Nat.eq_of_beq_eq_true h];rfl
  | false =>
    rw [beq_eq_false_iff_ne]
    intro q
    have:n=2:=by omega
    subst this;cases h
theorem aeO(e:Nat) :(pB e).run=some (.inr (.r0 2 0 0 0 0 [])):=by
  unfold pB
  cases h:((e:Int)==(2:Int)) with
  | true=>exact dC rfl
  | false=>exact cG (dC rfl)
theorem aeP(e:Nat) :(pC e).run=some (.inr (.r0 2 0 0 0 0 [])):=by
  unfold pC
  cases h:((e:Int)==(2:Int)) with
  | true=>exact dC rfl
  | false=>exact cG (dC rfl)
theorem aeQ(e:Nat) :(pD e).run=some (.inr (.r0 2 0 0 0 0 [])):=by
  unfold pD
  cases h:((e:Int)==(2:Int)) with
  | true=>exact dC rfl
  | false=>exact cG (cG (dC rfl))
theorem SX{s:List Nat}(hn:s.length≤1000000) :(pA s).run=some (.inl (zA s)):=by
  unfold pA
  rw [cK,adT hn]
  exact dX (bB rfl)
theorem aeR{s v:List Nat}{u3 v2 v3 k i10 i11:Int}{a12:Nat}{l13:List Nat}{e:Nat} 
    (h:(bif Nat.beq e 2 then 2 else bif u3 != (s.length:Int) then 8 else bif v3 != (s.length:Int) then 8 else bif decide (k<0) then 8 else bif decide (k>(s.length:Int)) then 8 else e)≠0) :
    (iP s u3 v2 v3 k e i10 i11 a12 l13).run=some (.inr (.r0 (bif Nat.beq e 2 then 2 else bif u3 != (s.length:Int) then 8 else bif v3 != (s.length:Int) then 8 else bif decide (k<0) then 8 else bif decide (k>(s.length:Int)) then 8 else e) 0 0 0 0 [])):=by
  unfold iP
  rw [adV]
  cases h1:Nat.beq e 2 with
  | true=>exact dC rfl
  | false =>
    rw [h1] at h
    refine cG (cG (cG ?_))
    cases h2:(u3 != (s.length:Int)) with
    | true=>exact dC rfl
    | false =>
      rw [h2] at h
      refine cG ?_
      cases h3:(v3 != (s.length:Int)) with
      | true=>exact dC rfl
      | false =>
        rw [h3] at h
        refine cG ?_
        cases h4:decide (k<0) with
        | true=>exact dC rfl
        | false =>
          rw [h4] at h
          refine cG ?_
          cases h5:decide (k>(s.length:Int)) with
          | true=>exact dC rfl
          | false =>
            rw [h5] at h
            refine cG (ew ?_ rfl)
            simp only [cond_false] at h
            rw [bne_iff_ne]
            omega
theorem aeS{s u v:List Nat}{u2 u3 v2 v3 k:Int}(hn:s.length≤1000000)(h:W3 s u2 u3 u v2 v3 v k≠0) :dN s u2 u3 u v2 v3 v k=some (.r0 (W3 s u2 u3 u v2 v3 v k) 0 0 0 0 []):=by
  unfold W3 at h ⊢
  cases hA:rv u2 u3 u with
  | false =>
    have e:(bif Nat.beq (zA s) 2 then 2 else bif false then (bif rv v2 v3 v then (bif u3 != (s.length:Int) then 8 else bif v3 != (s.length:Int) then 8 else bif decide (k<0) then 8 else bif decide (k>(s.length:Int)) then 8 else zA s) else 2) else 2)=2:=by cases Nat.beq (zA s) 2<;>rfl
    rw [e]
    have h41:(fF u2 u3 u).run=some (.inl (.inl ())):=by
      unfold fF
      rw [cK,SW hA]
      exact rb (dX (bB rfl))
    refine cq (aD (SX hn) (aD h41 ?_))
    cases hB:rv v2 v3 v with
    | false =>
      have h43:(iO v2 v3 v).run=some (.inl (.inl ())):=by
        unfold iO
        rw [cK,SW hB]
        exact rb (dX (bB rfl))
      exact aD h43 (aeO _)
    | true =>
      obtain ⟨r,c,rfl,rfl,hr,hc,hl⟩:=Bb hB
      have h43:(iO (r:Int) (c:Int) v).run=some (.inl (.inr ((r:Int),(c:Int),v.length,v))):=by
        unfold iO
        rw [cK,BI hl hr hc]
        exact No (dX (Np rfl)) (rb (dX (bB rfl)))
      exact aD h43 (aeP _)
  | true =>
    rw [hA] at h
    obtain ⟨r,c,rfl,rfl,hr,hc,hl⟩:=Bb hA
    have h41:(fF (r:Int) (c:Int) u).run=some (.inl (.inr ((r:Int),(c:Int),u.length,u))):=by
      unfold fF
      rw [cK,BI hl hr hc]
      exact No (dX (Np rfl)) (rb (dX (bB rfl)))
    refine cq (aD (SX hn) (aD h41 ?_))
    cases hB:rv v2 v3 v with
    | false =>
      have e:(bif Nat.beq (zA s) 2 then 2 else bif true then (bif false then (bif (c:Int) != (s.length:Int) then 8 else bif v3 != (s.length:Int) then 8 else bif decide (k<0) then 8 else bif decide (k>(s.length:Int)) then 8 else zA s) else 2) else 2)=2:=by cases Nat.beq (zA s) 2<;>rfl
      rw [e]
      have h49:(fG v2 v3 v).run=some (.inl (.inl ())):=by
        unfold fG
        rw [cK,SW hB]
        exact rb (dX (bB rfl))
      exact aD h49 (aeQ _)
    | true =>
      rw [hB] at h
      obtain ⟨r',c',rfl,rfl,hr',hc',hl'⟩:=Bb hB
      have h49:(fG (r':Int) (c':Int) v).run=some (.inl (.inr ((r':Int),(c':Int),v.length,v))):=by
        unfold fG
        rw [cK,BI hl' hr' hc']
        exact No (dX (Np rfl)) (rb (dX (bB rfl)))
      refine aD h49 ?_
      exact dx (aeR (v:=v) h)
theorem aa3{G:List Nat}{C n:Nat}(h:G.length=n) :dh (DU G C 0 C 1) n=G:=by
  refine MJ (by rw [cZ,h]) fun q hq=>?_
  rw [cZ] at hq
  rw [pf hq]
  unfold DU
  rw [Nat.zero_add,Nat.mul_one,Nat.mul_comm,Nat.div_add_mod]
theorem aeT{s v:List Nat}{R vc K:Nat}(hK:K≤vc) :dvL (dh (DU v K 0 vc 1) (R*K)) s K R K=tI v s vc K R K (List.replicate (R*K) 0):=by
  have hl:(dh (DU v K 0 vc 1) (R*K)).length=R*K:=cZ
  have hl':(List.replicate (R*K) 0).length=R*K:=List.length_replicate
  refine MJ (by rw [BJ,BL,hl,hl']) fun p hp=>?_
  rw [BJ,hl] at hp
  have hK0:0<K:=by
    rcases Nat.eq_zero_or_pos K with e | e
    · subst e;simp at hp
    · exact e
  have hi:p/K<R:=Nat.div_lt_of_lt_mul (by rw [Nat.mul_comm];exact hp)
  have hj:p%K<K:=Nat.mod_lt _ hK0
  have hpe:p=p/K*K+p%K:=by rw [Nat.mul_comm];exact (Nat.div_add_mod p K).symm
  generalize p/K=i at hi hpe
  generalize p%K=j at hj hpe
  subst hpe
  rw [aa2 hi hj hl (Nat.le_refl K),if_pos hj,PS hi hj hl' (Nat.le_refl K) hj,pf (iF hi hj),ZU hj,Nat.zero_add,Nat.mul_one]
theorem aeU{u:List Nat}{C uc K:Nat} :dh (DU u C 0 1 uc) (K*C)=tJ u uc C K (List.replicate (K*C) 0):=by
  have hl':(List.replicate (K*C) 0).length=K*C:=List.length_replicate
  refine MJ (by rw [cZ,BM,hl']) fun p hp=>?_
  rw [cZ] at hp
  have hC0:0<C:=by
    rcases Nat.eq_zero_or_pos C with e | e
    · subst e;simp at hp
    · exact e
  have hj:p/C<K:=Nat.div_lt_of_lt_mul (by rw [Nat.mul_comm];exact hp)
  have hi:p%C<C:=Nat.mod_lt _ hC0
  have hpe:p=p/C*C+p%C:=by rw [Nat.mul_comm];exact (Nat.div_add_mod p C).symm
  generalize p/C=j at hj hpe
  generalize p%C=i at hi hpe
  subst hpe
  rw [pf (iF hj hi),ZU hi,PT hi hj hl' (Nat.le_refl K) hj]
  congr 1
  omega
theorem adW{s u v:List Nat}{R vc C uc K:Nat}(hn:s.length≤1000000)(he:zA s=0)(hR:R≤512)(hvc:vc≤512)(hC:C≤512)(huc:uc≤512)(hu:u.length=C*uc)(hv:v.length=R*vc)(hs:vc=s.length)(hs':uc=s.length)(hK:K≤s.length) :
    ∃ L,dN s (C:Int) (uc:Int) u (R:Int) (vc:Int) v (K:Int)=some (.r0 0 R C (R*C) (R*C) L)∧co s (C:Int) (uc:Int) u (R:Int) (vc:Int) v (K:Int)=some (.r0 R C (R*C) L)∧L.length=R*C:=by
  have hK':K≤512:=by omega
  have hRK:R*K≤512*512:=Nat.mul_le_mul hR hK'
  have hRC:R*C≤512*512:=Nat.mul_le_mul hR hC
  have hRV:R*vc≤512*512:=Nat.mul_le_mul hR hvc
  have hCU:C*uc≤512*512:=Nat.mul_le_mul hC huc
  have hr:=acg (s:=s) hR hvc hC huc hu hv hs.symm hs'.symm hK
  obtain ⟨w0,hw0⟩:∃ w0,dh (DU v K 0 vc 1) (R*K)=w0:=⟨_,rfl⟩
  have lw0:w0.length=R*K:=by rw [←hw0];exact cZ
  obtain ⟨W,hW⟩:∃ W,dvL w0 s K R K=W:=⟨_,rfl⟩
  have lW:W.length=R*K:=by rw [←hW,BJ,lw0]
  have aW:W=tI v s vc K R K (List.replicate (R*K) 0):=by rw [←hW,←hw0];exact aeT (by omega)
  obtain ⟨Z,hZ⟩:∃ Z,List.replicate (R*C) 0=Z:=⟨_,rfl⟩
  have lZ:Z.length=R*C:=by rw [←hZ];exact List.length_replicate
  obtain ⟨G,hG⟩:∃ G,iy (fun q=>q) (FZ W (tJ u uc C K (List.replicate (K*C) 0)) Z 4607182418800017408 0 K C) Z (R*C)=G:=⟨_,rfl⟩
  have lG:G.length=R*C:=by rw [←hG,ak,lZ]
  rw [←aW,hZ,hG] at hr
  refine ⟨G,?_,hr,lG⟩
  have h41:(fF (C:Int) (uc:Int) u).run=some (.inl (.inr ((C:Int),(uc:Int),u.length,u))):=by
    unfold fF
    rw [cK,BI hu hC huc]
    exact No (dX (Np rfl)) (rb (dX (bB rfl)))
  have h49:(fG (R:Int) (vc:Int) v).run=some (.inl (.inr ((R:Int),(vc:Int),v.length,v))):=by
    unfold fG
    rw [cK,BI hv hR hvc]
    exact No (dX (Np rfl)) (rb (dX (bB rfl)))
  have h53:(iP s (uc:Int) (R:Int) (vc:Int) (K:Int) 0 (R:Int) (vc:Int) v.length v).run=some (.inl ((R:Int),(K:Int),R*K,w0)):=by
    unfold iP
    have pr:=Ba (n:=v.length) (c:=v.length) (xs:=v) (r:=R) (w:=vc) (i:=0) (j:=0) (m:=R) (k:=K) (at_:=0) (d:=vc) (o:=1) hR hvc (by omega) (by omega) (by omega) (by omega) (by omega)
    have e1:0+0*vc+0*1=0:=by omega
    rw [e1] at pr
    have cp:=MM (xs:=v) (r:=R) (c:=K) (at_:=0) (d:=vc) (o:=1) hR hK' (fun i j hi hj=>by rw [hv,Nat.zero_add,Nat.mul_one];exact iF hi (by omega)) (by omega)
    rw [hw0] at cp
    rw [show aa v.length v.length v (R:Int) (vc:Int) 0 (vc:Int) 1 0 0 (R:Int) (K:Int)=_ from pr]
    refine cG (cG (cG (fI (by rw [hs'];simp) (fI (by rw [hs];simp) (fI (decide_eq_false (by omega)) (fI (decide_eq_false (by omega)) (cG (rb (bB ?_)))))))))
    simp only [aK,bN,aL,aX,aY,aZ,ba,bb,cK]
    rw [show bj v (R:Int) (K:Int) ((0:Nat):Int) (vc:Int) ((1:Nat):Int)=_ from cp]
    exact dX (bB rfl)
  have h67:(pJ (C:Int) (R:Int)).run=some (.inl ((R:Int),(C:Int),R*C,Z)):=by
    unfold pJ
    rw [ML hR hC,hZ]
    exact rb (bB rfl)
  have h68:(pK (C:Int) (K:Int) (C:Int) (uc:Int) u.length u (R:Int) (K:Int) (R*K) (R*K) W (R:Int) (C:Int) (R*C) Z).run=some (.inl (R*C,R*C,G)):=by
    unfold pK
    have pr:=Ba (n:=u.length) (c:=u.length) (xs:=u) (r:=C) (w:=uc) (i:=0) (j:=0) (m:=C) (k:=K) (at_:=0) (d:=uc) (o:=1) hC huc (by omega) (by omega) (by omega) (by omega) (by omega)
    have e1:0+0*uc+0*1=0:=by omega
    rw [e1] at pr
    have gm:=ab7 (c1:=R*K) (c4:=u.length) (l2:=W) (l5:=u) (o:=Z) (a:=4607182418800017408) (b:=0) (R:=R) (K:=K) (C:=C) (am:=0) (dm:=K) (om:=1) (an:=0) (dn:=1) (on:=uc) (c7:=R*C) hR hK' hC lZ
      (fun i j hi hj=>by rw [lW,Nat.zero_add,Nat.mul_one];exact iF hi hj) (fun i j hi hj=>by rw [hu,Nat.zero_add,Nat.mul_one,Nat.add_comm];exact iF hj (by omega)) (by omega) (by omega)
    rw [aa3 lW,aeU,hG,lW,lZ] at gm
    rw [show aa u.length u.length u (C:Int) (uc:Int) 0 (uc:Int) 1 0 0 (C:Int) (K:Int)=_ from pr]
    simp only [aK,bN,aL,aX,aY,aZ,ba,bb]
    rw [show fX (R*K) (R*K) W u.length u.length u (R*C) (R*C) Z 4607182418800017408 (R:Int) (K:Int) 0 (K:Int) 1 (K:Int) (C:Int) ((0:Nat):Int) ((1:Nat):Int) (uc:Int) 0 (R:Int) (C:Int) 0 (C:Int) 1=_ from gm]
    exact rb (bB (bB rfl))
  have h69:(pL (R:Int) (C:Int) (R*C) G).run=some (.inl ((R:Int),(C:Int),R*C,R*C,G)):=by
    unfold pL
    have ms:=WW (xs:=G) (r:=R) (c:=C) (at_:=0) (d:=C) (o:=1) hR hC (fun i j hi hj=>by rw [lG,Nat.zero_add,Nat.mul_one];exact iF hi hj) (by omega)
    rw [aa3 lG] at ms
    rw [nL lG,show aE G (R:Int) (C:Int) 0 (C:Int) 1=_ from ms]
    exact aO (by rw [ag,lG];omega) (bB rfl)
  have h40:=SX hn
  rw [he] at h40
  refine cq (aD h40 (aD h41 (aD h49 ?_)))
  refine aD h53 (aD (a:=()) rfl (aD (a:=(R*K,R*K,W)) ?_ (aD h67 (aD h68 (aD h69 rfl)))))
  have dl:=aeL (s:=s) (l:=w0) hR hK' hK hn lw0
  rw [hW] at dl
  exact dl
theorem aeV{s u v:List Nat}{u2 u3 v2 v3 k:Int}(hw:Wd s) :lf s u2 u3 u v2 v3 v k=some (.r0 true):=by
  by_cases hb:s.length≤600∧u.length≤60∧v.length≤60
  case neg =>
    refine cq (aD (a:=true) ?_ (dx (dC rfl)))
    unfold ig
    by_cases h1:s.length≤600
    · by_cases h2:u.length≤60
      · refine fI (decide_eq_false (by omega)) (fI (decide_eq_false (by omega)) ?_)
        rw [decide_eq_true (show (v.length:Int)>60 from by omega)];rfl
      · exact fI (decide_eq_false (by omega)) (ew (decide_eq_true (by omega)) rfl)
    · exact ew (decide_eq_true (by omega)) rfl
  obtain ⟨h1,h2,h3⟩:=hb
  have hn:s.length≤1000000:=by omega
  have h8:(ig s u v).run=some (.inl false):=by
    unfold ig
    refine fI (decide_eq_false (by omega)) (fI (decide_eq_false (by omega)) ?_)
    rw [decide_eq_false (show ¬ (v.length:Int)>60 from by omega)];rfl
  have h10:(jy s).run=some (.inl (zA s)):=by
    unfold jy
    rw [cK,aca hw hn]
    exact dX (bB rfl)
  have h11:(jz s u2 u3 u v2 v3 v k (zA s)).run=some (.inl (W3 s u2 u3 u v2 v3 v k)):=by
    unfold jz W3
    rw [adV,cK,cK,WZ,WZ]
    cases Nat.beq (zA s) 2 with
    | true=>exact dC rfl
    | false =>
      refine cG (dX (bB ?_))
      cases rv u2 u3 u with
      | false=>exact dC rfl
      | true =>
        refine cG (dX (bB ?_))
        cases rv v2 v3 v with
        | false=>exact dC rfl
        | true =>
          refine cG ?_
          cases (u3 != (s.length:Int)) with
          | true=>exact dC rfl
          | false =>
            refine cG ?_
            cases (v3 != (s.length:Int)) with
            | true=>exact dC rfl
            | false =>
              refine cG ?_
              cases decide (k<0) with
              | true=>exact dC rfl
              | false =>
                refine cG ?_
                cases decide (k>(s.length:Int)) with
                | true=>exact dC rfl
                | false=>exact cG rfl
  by_cases he:W3 s u2 u3 u v2 v3 v k=0
  · have he':=he
    unfold W3 at he'
    cases q1:Nat.beq (zA s) 2 with
    | true=>rw [q1] at he';cases he'
    | false =>
    rw [q1] at he'
    cases q2:rv u2 u3 u with
    | false=>rw [q2] at he';cases he'
    | true =>
    rw [q2] at he'
    cases q3:rv v2 v3 v with
    | false=>rw [q3] at he';cases he'
    | true =>
    rw [q3] at he'
    cases q4:(u3 != (s.length:Int)) with
    | true=>rw [q4] at he';cases he'
    | false =>
    rw [q4] at he'
    cases q5:(v3 != (s.length:Int)) with
    | true=>rw [q5] at he';cases he'
    | false =>
    rw [q5] at he'
    cases q6:decide (k<0) with
    | true=>rw [q6] at he';cases he'
    | false =>
    rw [q6] at he'
    cases q7:decide (k>(s.length:Int)) with
    | true=>rw [q7] at he';cases he'
    | false =>
    rw [q7] at he'
    simp only [cond_false,cond_true] at he'
    obtain ⟨C,uc,rfl,rfl,hC,huc,hu⟩:=Bb q2
    obtain ⟨R,vc,rfl,rfl,hR,hvc,hv⟩:=Bb q3
    rw [bne_eq_false_iff_eq] at q4 q5
    rw [decide_eq_false_iff_not] at q6 q7
    obtain ⟨K,rfl⟩:∃ K:Nat,k=(K:Int):=⟨k.toNat,by omega⟩
    obtain ⟨L,i1,i2,lL⟩:=adW (s:=s) (u:=u) (v:=v) (R:=R) (vc:=vc) (C:=C) (uc:=uc) (K:=K) hn he' hR hvc hC huc hu hv (by omega) (by omega) (by omega)
    have hRC:R*C≤512*512:=Nat.mul_le_mul hR hC
    have h9:(fo s (C:Int) (uc:Int) u (R:Int) (vc:Int) v (K:Int) false).run=some (.inl (0,(R:Int),(C:Int),R*C,R*C,L)):=by
      unfold fo
      rw [cK,cK,cK,i1]
      exact cG (dX (dX (dX (bB rfl))))
    refine cq (aD h8 (aD h9 (aD h10 (aD h11 ?_))))
    rw [he]
    refine aD (a:=()) (cG rfl) (aD (a:=true) ?_ rfl)
    show (jA _ _ _ _ _ _ _ _ _ _ _ _ _).run=_
    unfold jA
    have sm:cF (R:Int) (C:Int) (ab 0 (R*C) L) (R:Int) (C:Int) (ab 0 (R*C) L)=some (.r0 true):=FY (by rw [nL lL];omega)
    rw [cK,cK,cK,i2]
    show (T.need _ (T.need _ (T.need _ (T.need true (T.need _ (T.need (bv 0 (R*C) L) (T.need (eV (cF (R:Int) (C:Int) (ab 0 (R*C) L) (R:Int) (C:Int) (ab 0 (R*C) L))) (T.ask (fm (cF (R:Int) (C:Int) (ab 0 (R*C) L) (R:Int) (C:Int) (ab 0 (R*C) L))) _ _)))))))).run=_
    rw [sm]
    exact dX (dX (dX (bB (aO (by rw [ag,lL];omega) (aO (by rw [ag,lL];omega) (bB (dC (dC rfl))))))))
  · have ib:=aeS (s:=s) (u:=u) (v:=v) hn he
    have h9:(fo s u2 u3 u v2 v3 v k false).run=some (.inl (W3 s u2 u3 u v2 v3 v k,0,0,0,0,[])):=by
      unfold fo
      rw [cK,cK,cK,ib]
      exact cG (dX (dX (dX (bB rfl))))
    refine cq (aD h8 (aD h9 (aD h10 (aD h11 (dx ?_)))))
    unfold oK
    have sm:cF 0 0 (ab 0 0 []) 0 0 []=some (.r0 true):=FY (l:=[]) (by simp)
    rw [sm]
    exact ew (by rw [bne_iff_ne];omega) (bB (bB (dC (ew (beq_self_eq_true _) rfl))))
end Go.Plb.Seat
namespace Go.Plb.Seat
open Go Go.Plb
theorem MP(v0:Lv)(s:List Nat)(a b:Int)(v1:Lv)(u:List Nat)(c d:Int)(v2:Lv)(w:List Nat)(k:Int)(hs:Wd s)(_:Wd u)(_:Wd w) :
    aj prog kD [] [.imm v0 (.fl s) 1 1 0 s.length,.agg [.int .i64 a,.int .i64 b,.imm v1 (.fl u) 1 1 0 u.length],.agg [.int .i64 c,.int .i64 d,.imm v2 (.fl w) 1 1 0 w.length],.int .i64 k] ⟨.bool false true,[]⟩ :=
  oV v0 s a b v1 u c d v2 w k (aeV hs)
end Go.Plb.Seat
