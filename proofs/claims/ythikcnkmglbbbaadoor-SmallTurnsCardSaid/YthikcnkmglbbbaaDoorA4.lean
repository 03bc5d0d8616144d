/-
  Part 4 of what the claim leans on: an evaluator of the model, proved sound; the contracts of the functions.
-/
import Derived.Test.YthikcnkmglbbbaaDoorA3
namespace Go.Plb.Seat
open Go Go.Plb
set_option linter.unusedSimpArgs false
set_option linter.unusedVariables false
theorem C1(x y:Nat) :ff x y=some (.r0 (bif xF (aC y) (aC x) then G9 (aC y) (aC x) else G9 (aC x) (aC y))):=by
  have t4:∀ p q,(nR p q).run=some (.inr (.r0 (G9 p q))):=by
    intro p q
    unfold nR G9
    cases ui p 0
    · exact (aJ rfl)
    · exact (bC rfl)
  cases h:xF (aC y) (aC x)
  · refine aY (ac (a:=(aC x,aC y)) ?_ (t4 _ _))
    unfold nQ
    rw [h]
    exact (aJ rfl)
  · refine aY (ac (a:=(aC y,aC x)) ?_ (t4 _ _))
    unfold nQ
    rw [h]
    exact (bC rfl)
theorem JU{l:List Nat}{s:Nat×Nat}{x j:Nat}(hl:l.length≤100)(hj:j<l.length)(hx:l.getD j 0=x) :j0 l (s.1,s.2,j)=some (.inl ((ta s x).1,(ta s x).2,j+1)):=by
  show aK (gP _ _ _ _).run _=_
  refine ac (a:=((ta s x).1,(ta s x).2)) ?_ (bS (by simp only [bu,eX,fi,cn,cu,bt,cw,cx,decide_eq_true_eq,decide_eq_false_iff_not,beq_iff_eq,beq_eq_false_iff_ne,bne_iff_ne,bne_eq_false_iff_eq,Bool.not_eq_true',Bool.not_eq_false',List.length_set,ne_eq,ge_iff_le,gt_iff_lt,bD,aW,eu];omega) rfl)
  unfold gP ta
  rw [hx]
  cases ui x 0
  · cases flt s.1 (aC x)
    · exact (zW (by simp only [bu,eX,fi,cn,cu,bt,cw,cx,decide_eq_true_eq,decide_eq_false_iff_not,beq_iff_eq,beq_eq_false_iff_ne,bne_iff_ne,bne_eq_false_iff_eq,Bool.not_eq_true',Bool.not_eq_false',List.length_set,ne_eq,ge_iff_le,gt_iff_lt,bD,aW,eu];omega) (bS (by simp only [bu,eX,fi,cn,cu,bt,cw,cx,decide_eq_true_eq,decide_eq_false_iff_not,beq_iff_eq,beq_eq_false_iff_ne,bne_iff_ne,bne_eq_false_iff_eq,Bool.not_eq_true',Bool.not_eq_false',List.length_set,ne_eq,ge_iff_le,gt_iff_lt,bD,aW,eu];omega) (bS (by simp only [bu,eX,fi,cn,cu,bt,cw,cx,decide_eq_true_eq,decide_eq_false_iff_not,beq_iff_eq,beq_eq_false_iff_ne,bne_iff_ne,bne_eq_false_iff_eq,Bool.not_eq_true',Bool.not_eq_false',List.length_set,ne_eq,ge_iff_le,gt_iff_lt,bD,aW,eu];omega) (aJ (aJ rfl)))))
    · exact (zW (by simp only [bu,eX,fi,cn,cu,bt,cw,cx,decide_eq_true_eq,decide_eq_false_iff_not,beq_iff_eq,beq_eq_false_iff_ne,bne_iff_ne,bne_eq_false_iff_eq,Bool.not_eq_true',Bool.not_eq_false',List.length_set,ne_eq,ge_iff_le,gt_iff_lt,bD,aW,eu];omega) (bS (by simp only [bu,eX,fi,cn,cu,bt,cw,cx,decide_eq_true_eq,decide_eq_false_iff_not,beq_iff_eq,beq_eq_false_iff_ne,bne_iff_ne,bne_eq_false_iff_eq,Bool.not_eq_true',Bool.not_eq_false',List.length_set,ne_eq,ge_iff_le,gt_iff_lt,bD,aW,eu];omega) (bS (by simp only [bu,eX,fi,cn,cu,bt,cw,cx,decide_eq_true_eq,decide_eq_false_iff_not,beq_iff_eq,beq_eq_false_iff_ne,bne_iff_ne,bne_eq_false_iff_eq,Bool.not_eq_true',Bool.not_eq_false',List.length_set,ne_eq,ge_iff_le,gt_iff_lt,bD,aW,eu];omega) (aJ (bC rfl)))))
  · exact (zW (by simp only [bu,eX,fi,cn,cu,bt,cw,cx,decide_eq_true_eq,decide_eq_false_iff_not,beq_iff_eq,beq_eq_false_iff_ne,bne_iff_ne,bne_eq_false_iff_eq,Bool.not_eq_true',Bool.not_eq_false',List.length_set,ne_eq,ge_iff_le,gt_iff_lt,bD,aW,eu];omega) (bS (by simp only [bu,eX,fi,cn,cu,bt,cw,cx,decide_eq_true_eq,decide_eq_false_iff_not,beq_iff_eq,beq_eq_false_iff_ne,bne_iff_ne,bne_eq_false_iff_eq,Bool.not_eq_true',Bool.not_eq_false',List.length_set,ne_eq,ge_iff_le,gt_iff_lt,bD,aW,eu];omega) (bS (by simp only [bu,eX,fi,cn,cu,bt,cw,cx,decide_eq_true_eq,decide_eq_false_iff_not,beq_iff_eq,beq_eq_false_iff_ne,bne_iff_ne,bne_eq_false_iff_eq,Bool.not_eq_true',Bool.not_eq_false',List.length_set,ne_eq,ge_iff_le,gt_iff_lt,bD,aW,eu];omega) (bC rfl))))
theorem JV(f g:Nat) :em [f,g]=some (.r0 (Qt f g)):=by
  refine aY (ac (a:=()) rfl (ac (a:=((ta (ta (0,aQ) f) g).1,(ta (ta (0,aQ) f) g).2)) (fq (fun j=>((if j=0 then (0,aQ) else if j=1 then ta (0,aQ) f else ta (ta (0,aQ) f) g).1,(if j=0 then (0,aQ) else if j=1 then ta (0,aQ) f else ta (ta (0,aQ) f) g).2,j)) 2 rfl (fun j hj=>?_) ?_) rfl))
  · have:j=0∨j=1:=by omega
    rcases this with rfl | rfl
    · exact JU (s:=(0,aQ)) (by simp) (by simp) rfl
    · exact JU (s:=ta (0,aQ) f) (by simp) (by simp) rfl
  · show aK (gP [f,g] (ta (ta (0,aQ) f) g).1 (ta (ta (0,aQ) f) g).2 2).run (fun (a,b)=>(sO 2 a b).run)=_
    refine cS ?_
    show (gP [f,g] (ta (ta (0,aQ) f) g).1 (ta (ta (0,aQ) f) g).2 2).run=_
    exact aJ rfl
theorem Md{p:Int}(hp : -99≤p∧p≤99) :jZ 4607182418800017408 p=some (.r0 (tX aQ p)):=by
  have e0:(bv .and .i64 (IntKind.i64.wrap (Int.fdiv ((4607182418800017408:Nat):Int) (2^(min (Int.toNat (52:Int)) (IntKind.u64.bits))))) (2047:Int))-(1023:Int)=0:=by decide +kernel
  have c1:ui 4607182418800017408 0=false∧xF (aC 4607182418800017408) 9218868437227405311=false∧zO 4607182418800017408 4607182418800017408=false∧flt (aC 4607182418800017408) 4503599627370496=false∧isNaN 4607182418800017408=false:=by decide +kernel
  obtain ⟨d1,d2,d3,d4,d5⟩:=c1
  have word:∀ k:Fin 199,Int.toNat (bv .or .u64 (bv .andNot .u64 ((4607182418800017408:Nat):Int) (9218868437227405312:Int)) (IntKind.u64.wrap ((IntKind.u64.wrap ((((k.val:Nat):Int)-99)+(1023:Int)))*2^(min (Int.toNat (52:Int)) (IntKind.u64.bits)))))=tX aQ (((k.val:Nat):Int)-99):=by decide +kernel
  obtain ⟨o1,o2,o3,o4⟩:=kD
  have mul:aP 4607182418800017408 (tX aQ p)=tX aQ p:=by
    obtain ⟨_,b,_⟩:=Az (p:=p) (x:=aQ) (y:=aQ) (by decide) (by decide) (by omega) (by omega) (by omega) (by omega)
    have q:aP aQ aQ=aQ:=CY (by decide) (by omega)
    rw [q] at b
    exact b
  have hw:=word ⟨(p+99).toNat,by omega⟩
  have ep:(((p+99).toNat:Nat):Int)-99=p:=by omega
  simp only [ep] at hw
  have ld:jY 4607182418800017408 p=some (.r0 (tX aQ p)):=by
    refine aY (ac (a:=(4607182418800017408,0)) ?_ (ac (a:=(p,4607182418800017408)) ?_ ?_))
    · unfold uR
      rw [d1,d2,d3,d4]
      exact (aJ (bC (aJ (aJ (aJ rfl)))))
    · show (pA _ _ _).run=_
      unfold pA
      rw [d5,e0]
      simp only [Int.add_zero]
      exact bS (by simp only [bu,eX,fi,cn,cu,bt,cw,cx,decide_eq_true_eq,decide_eq_false_iff_not,beq_iff_eq,beq_eq_false_iff_ne,bne_iff_ne,bne_eq_false_iff_eq,Bool.not_eq_true',Bool.not_eq_false',List.length_set,ne_eq,ge_iff_le,gt_iff_lt,bD,aW,eu];omega) (P4 (am (am (bS (by simp only [bu,eX,fi,cn,cu,bt,cw,cx,decide_eq_true_eq,decide_eq_false_iff_not,beq_iff_eq,beq_eq_false_iff_ne,bne_iff_ne,bne_eq_false_iff_eq,Bool.not_eq_true',Bool.not_eq_false',List.length_set,ne_eq,ge_iff_le,gt_iff_lt,bD,aW,eu];omega) (bS (by simp only [bu,eX,fi,cn,cu,bt,cw,cx,decide_eq_true_eq,decide_eq_false_iff_not,beq_iff_eq,beq_eq_false_iff_ne,bne_iff_ne,bne_eq_false_iff_eq,Bool.not_eq_true',Bool.not_eq_false',List.length_set,ne_eq,ge_iff_le,gt_iff_lt,bD,aW,eu];omega) (l6 (by simp only [bu,eX,fi,cn,cu,bt,cw,cx,decide_eq_true_eq,decide_eq_false_iff_not,beq_iff_eq,beq_eq_false_iff_ne,bne_iff_ne,bne_eq_false_iff_eq,Bool.not_eq_true',Bool.not_eq_false',List.length_set,ne_eq,ge_iff_le,gt_iff_lt,bD,aW,eu];omega) (l6 (by simp only [bu,eX,fi,cn,cu,bt,cw,cx,decide_eq_true_eq,decide_eq_false_iff_not,beq_iff_eq,beq_eq_false_iff_ne,bne_iff_ne,bne_eq_false_iff_eq,Bool.not_eq_true',Bool.not_eq_false',List.length_set,ne_eq,ge_iff_le,gt_iff_lt,bD,aW,eu];omega) (l6 (by simp only [bu,eX,fi,cn,cu,bt,cw,cx,decide_eq_true_eq,decide_eq_false_iff_not,beq_iff_eq,beq_eq_false_iff_ne,bne_iff_ne,bne_eq_false_iff_eq,Bool.not_eq_true',Bool.not_eq_false',List.length_set,ne_eq,ge_iff_le,gt_iff_lt,bD,aW,eu];omega) rfl))))))))
    · show (pB _ _ _).run=_
      unfold pB
      rw [hw,mul]
      exact (bS (by simp only [bu,eX,fi,cn,cu,bt,cw,cx,decide_eq_true_eq,decide_eq_false_iff_not,beq_iff_eq,beq_eq_false_iff_ne,bne_iff_ne,bne_eq_false_iff_eq,Bool.not_eq_true',Bool.not_eq_false',List.length_set,ne_eq,ge_iff_le,gt_iff_lt,bD,aW,eu];omega) (am rfl))
  refine aY (ac (a:=tX aQ p) ?_ rfl)
  unfold uS
  rw [ld]
  exact (am rfl)
structure St (f g:Nat) (c s r:Nat):Prop where
  eq:eO f g=some (.r0 c s r)
  c1:c<dD
  c2:fin c=true
  s1:s<dD
  s2:fin s=true
  r1:r<dD
  r2:fin r=true
  near:Ap 9886 (vl c*vl c+vl s*vl s) (E2 1074*E2 1074)
theorem Su{f g:Nat}(hf:f<dD)(hg:g<dD)(mf:C6 f)(mg:C6 g) :∃ c s r,St f g c s r:=by
  obtain ⟨q1,q2,q3⟩:=So
  obtain ⟨o1,o2,o3,o4⟩:=kD
  have v0:vl 0*vl 0=0:=by rw [q2]
  rcases mg with hg0 | mg
  · refine ⟨aQ,0,f,?_,by decide,by decide,q1.lt,q1.fin,hf,C6.fin hf mf,?_⟩
    · refine aY ?_
      unfold gd
      rw [JT hg hg0]
      exact (bC rfl)
    · rw [v0,pE,Nat.add_zero];exact Ap.refl _ _
  · have eg:=mg.ex
    rcases mf with hf0 | mf
    · refine ⟨0,aQ,g,?_,q1.lt,q1.fin,by decide,by decide,hg,C6.fin hg (.inr mg),?_⟩
      · refine aY ?_
        unfold gd
        rw [rc hg (by omega),JT hf hf0]
        exact (aJ (bC rfl))
      · rw [v0,pE,Nat.zero_add];exact Ap.refl _ _
    · have ef:=mf.ex
      have hf':f<18446744073709551616:=hf
      have hg':g<18446744073709551616:=hg
      have key:∀ {x y:Nat},x<dD→y<dD→CW x→CW y→y%9223372036854775808≤x%9223372036854775808→Sn (fdiv y x)∧aP x (bP (cQ aQ (aP (fdiv y x) (fdiv y x))))<dD∧fin (aP x (bP (cQ aQ (aP (fdiv y x) (fdiv y x)))))=true:=by
        intro x y hx hy mx my le
        obtain ⟨r1,r2,r3,r4,r5⟩:=QZ hx hy mx my le
        have R:=Ss r1 r2 r3
        have e:=QY (by omega) R.v1 R.v2
        obtain ⟨_,s2,s3⟩:=R7 (p:=0) hx mx R.v.lt (by omega) (by omega)
        exact ⟨R,s2,s3⟩
      have hgt:xF (aC f) (aC g)=true↔g%9223372036854775808<f%9223372036854775808:=by
        rw [iy hf,iy hg]
        unfold xF
        rw [jw (by unfold ex at ef;omega) (by unfold ex at eg;omega),beq_iff_eq,Option.some.injEq,Nat.compare_eq_gt]
      cases h:xF (aC f) (aC g)
      · have le:f%9223372036854775808≤g%9223372036854775808:=by
          rcases Nat.lt_or_ge (g%9223372036854775808) (f%9223372036854775808) with q | q
          · rw [hgt.2 q] at h;cases h
          · exact q
        obtain ⟨R,s2,s3⟩:=key hg hf mg mf le
        refine ⟨_,_,_,?_,R.s1,R.s2,R.c.lt,R.c.fin,s2,s3,by rw [Nat.add_comm];exact R.near⟩
        refine aY ?_
        unfold gd
        rw [rc hg (by omega),rc hf (by omega),h]
        exact (aJ (aJ (aJ rfl)))
      · have le:=Nat.le_of_lt (hgt.1 h)
        obtain ⟨R,s2,s3⟩:=key hf hg mf mg le
        refine ⟨_,_,_,?_,R.c.lt,R.c.fin,R.s1,R.s2,s2,s3,R.near⟩
        refine aY ?_
        unfold gd
        rw [rc hg (by omega),rc hf (by omega),h]
        exact (aJ (aJ (bC rfl)))
def Sp(D:List Nat)(r m i:Nat) :Nat:=if zO r 0=true∧(i=m-1∨i=m) then RH (D.getD i 0) (aC r) else D.getD i 0
def s1(D:List Nat)(r m i:Nat) :Nat×Nat×Nat×Nat×Nat×List Nat×List Nat:=(i,min i m,min i m,i-m,i-m,fG (Sp D r m) (min i m),fG (fun k=>Sp D r m (m+k)) (i-m))
def s2(E:List Nat)(m i:Nat) :Nat×Nat×Nat×Nat×Nat×List Nat×List Nat:=(i,min i (m-1),min i (m-1),i-m,i-m,fG (fun k=>E.getD k 0) (min i (m-1)),fG (fun k=>E.getD (m+k) 0) (i-m))
theorem Qw{α:Type}{n:Nat}{l:List α}(h:l.length=n) :bg 0 n l=true:=by rw [←h];exact HY l
theorem aq{α:Type}{b:Bool}{t:T α}{x:Option α}(k:t.run=x)(h:b=true:=by simp only [bu,eX,fi,cn,cu,bt,cw,cx,decide_eq_true_eq,decide_eq_false_iff_not,beq_iff_eq,beq_eq_false_iff_ne,bne_iff_ne,bne_eq_false_iff_eq,Bool.not_eq_true',Bool.not_eq_false',List.length_set,ne_eq,ge_iff_le,gt_iff_lt,bD,aW,eu];omega) :(T.need b t).run=x:=bS h k
theorem eS{α:Type}{b:Bool}{t f:T α}{x:Option α}(k:t.run=x)(h:b=true:=by simp only [bu,eX,fi,cn,cu,bt,cw,cx,decide_eq_true_eq,decide_eq_false_iff_not,beq_iff_eq,beq_eq_false_iff_ne,bne_iff_ne,bne_eq_false_iff_eq,Bool.not_eq_true',Bool.not_eq_false',List.length_set,ne_eq,ge_iff_le,gt_iff_lt,bD,aW,eu];omega) :(T.ask b t f).run=x:=zW h k
theorem cV{α:Type}{b:Bool}{t f:T α}{x:Option α}(k:f.run=x)(h:b=false:=by simp only [bu,eX,fi,cn,cu,bt,cw,cx,decide_eq_true_eq,decide_eq_false_iff_not,beq_iff_eq,beq_eq_false_iff_ne,bne_iff_ne,bne_eq_false_iff_eq,Bool.not_eq_true',Bool.not_eq_false',List.length_set,ne_eq,ge_iff_le,gt_iff_lt,bD,aW,eu];omega) :(T.ask b t f).run=x:=l6 h k
theorem gz{α:Type}{b:Bool}{t:T α}{x:Option α}(k:t.run=x)(h:b=true:=by exact Qw ao) :(T.need b t).run=x:=bS h k
theorem aG{v n m:Nat}(h:m≤n) :bg 0 m (au v n)=true:=by rw [bt,ao];omega
theorem d8{v n:Nat}(h:v<W^n)(hn:n≤1000000000) :ag (au v n)=some (.r0 (au v n) (nl v)):=by
  have hl:=fH h
  refine aY (ac rfl (ac (a:=nl v) (fq (fun j=>n-j) (n-nl v) (by simp only [ao];rfl) (fun j hj=>?_) ?_) rfl))
  · show aK (jB _ _).run _=_
    have e:Int.toNat (((n-j:Nat):Int)-1)=n-(j+1):=by omega
    have z:(au v n).getD (n-(j+1)) 0=0:=by
      rw [bT h]
      exact tE (Nat.lt_of_lt_of_le (bU v) (Nat.pow_le_pow_right (by decide) (by omega)))
    refine ac (a:=true) ?_ ?_
    · unfold jB
      rw [e,z,ao]
      exact eS (aq (aq (aq rfl)))
    · unfold wJ
      rw [e]
      exact bC (aq (aq (aq rfl)))
  · have e0:n-(n-nl v)=nl v:=by omega
    show aK (jB _ _).run _=_
    rw [e0]
    by_cases h0:v=0
    · have z:=ko.2 h0
      rw [z]
      exact ac (a:=false) (aJ rfl) (aJ rfl)
    · have hp:=qk h0
      have e:Int.toNat (((nl v:Nat):Int)-1)=nl v-1:=by omega
      refine ac (a:=false) ?_ (aJ rfl)
      unfold jB
      rw [e,bT h,ao]
      refine eS (aq (aq (aq ?_)))
      show some (Sum.inl _)=_
      congr 2
      rw [beq_eq_false_iff_ne];exact O5 h0
theorem og{v n:Nat}(h:v<W^n)(hn:n≤1000000000) :aH (au v n) 0 n n=some (.r0 0 (nl v) n (au v n)):=by
  have hl:=fH h
  refine aY (ac rfl (ac (a:=(0,nl v)) (fq (fun j=>(0,n-j)) (n-nl v) rfl (fun j hj=>?_) ?_) rfl))
  · show aK (fY _ _ _).run _=_
    have e:Int.toNat (((n-j:Nat):Int)-1)=n-(j+1):=by omega
    have z:(au v n).getD (n-(j+1)) 0=0:=by
      rw [bT h]
      exact tE (Nat.lt_of_lt_of_le (bU v) (Nat.pow_le_pow_right (by decide) (by omega)))
    refine ac (a:=true) ?_ ?_
    · unfold fY
      rw [e,fj,Nat.zero_add,z,ao]
      exact eS (aq (aq (aq rfl)))
    · unfold rl
      rw [e]
      exact bC (aq (aq (aq rfl)))
  · have e0:n-(n-nl v)=nl v:=by omega
    show aK (fY _ _ _).run _=_
    rw [e0]
    by_cases h0:v=0
    · have z:=ko.2 h0
      rw [z]
      exact ac (a:=false) (aJ rfl) (aJ rfl)
    · have hp:=qk h0
      have e:Int.toNat (((nl v:Nat):Int)-1)=nl v-1:=by omega
      refine ac (a:=false) ?_ (aJ rfl)
      unfold fY
      rw [e,fj,Nat.zero_add,bT h,ao]
      refine eS (aq (aq (aq ?_)))
      show some (Sum.inl _)=_
      congr 2
      rw [beq_eq_false_iff_ne];exact O5 h0
theorem tQ{v n:Nat}(h:v<W^n)(hn:n≤1000000000) :dG (au v n)=some (if 4096<nl v then .r0 0 2 [] else .r0 (nl v) 0 (au v (nl v))):=by
  have hl:=fH h
  have hc:aa 0 (au v n).length (au v n)=au v n:=bz _
  by_cases hb:4096<nl v
  · rw [if_pos hb]
    refine aY (ac (a:=(2,au v n,nl v)) ?_ (bC rfl))
    unfold rW
    rw [hc,d8 h hn]
    simp only [be,aw,aj]
    exact bC (am (dC (am (eS rfl))))
  · rw [if_neg hb]
    refine aY (ac (a:=(0,au v n,nl v)) ?_ ?_)
    · unfold rW
      rw [hc,d8 h hn]
      simp only [be,aw,aj]
      exact bC (am (dC (am (cV (am (aJ rfl))))))
    · show (rX _ _ _).run=_
      unfold rX
      rw [bb hl,ao]
      exact aJ (bS (aG hl) (aq rfl))
theorem G6{v:Nat}(h:v<W) :aI (v:Int)=some (.r0 0 (nl v) 1 (au v 1)):=by
  have e:([(v:Int)]:List Int)=au v 1:=by
    show [(v:Int)]=[]++[lm v 0]
    unfold lm;rw [Nat.pow_zero,Nat.div_one,Nat.mod_eq_of_lt h];rfl
  refine aY (ac (a:=(0,nl v,1,au v 1)) ?_ rfl)
  unfold EE
  rw [e,og (by rw [Nat.pow_one];exact h) (by decide)]
  exact am rfl
theorem Fg{v n:Nat}(h:v<W^n)(hn:n≤1000000000) :dc (au v n) 0 n n=some (if 4096<nl v then .r0 (au v n) else .r1 0 (nl v) n (au v n)):=by
  refine aY (ac (a:=(0,nl v,n,au v n)) ?_ ?_)
  · unfold y7
    rw [og h hn]
    exact am rfl
  · by_cases hb:4096<nl v
    · rw [if_pos hb];exact eS rfl
    · rw [if_neg hb];exact cV rfl
theorem JW{a b:Nat}(ha:nl a≤1000000)(hb:nl b≤1000000) :kr (au a (nl a)) (au b (nl b))=some (.r0 (oi a b)):=by
  refine aY ?_
  by_cases h1:nl a<nl b
  · have:oi a b = -1:=by unfold oi;rw [if_pos (H0 h1)]
    rw [this]
    refine cS ?_
    unfold qp
    rw [ao,ao]
    exact eS rfl
  by_cases h2:nl b<nl a
  · have hlt:=H0 h2
    have:oi a b=1:=by unfold oi;rw [if_neg (by omega),if_pos hlt]
    rw [this]
    refine cS ?_
    unfold qp
    rw [ao,ao]
    exact cV (eS rfl)
  have hn:nl b=nl a:=by omega
  have hA:=bU a
  have hB:=bU b
  rw [hn] at hB hb ⊢
  generalize nl a=n at *
  refine ac (a:=((n:Int)-1)) ?_ ?_
  · unfold qp
    rw [ao,ao]
    exact cV (cV (aq rfl))
  have step:∀ j,j<n→lm a (n-1-j)=lm b (n-1-j)→oM (au a n) (au b n) ((n:Int)-1-j)=some (.inl ((n:Int)-1-(j+1:Nat))):=by
    intro j hj he
    show (nC _ _ _).run=_
    unfold nC
    have e:Int.toNat ((n:Int)-1-(j:Int))=n-1-j:=by omega
    rw [e,bT hA,bT hB,ao,ao,he]
    refine eS (aq (aq (aq (aq (l6 (by simp) (aq (aq (aq (aq (l6 (by simp) (aq ?_)))))))))))
    show some (Sum.inl _)=_
    congr 2;omega
  by_cases hall:∀ j,j<n→lm a (n-1-j)=lm b (n-1-j)
  · have hab:a=b:=by
      have:=Bt hA hB (d:=n) (Nat.le_refl _) fun k _ h2=>by
        have:=hall (n-1-k) (by omega)
        rwa [show n-1-(n-1-k)=k by omega] at this
      simpa using this
    subst hab
    have:oi a a=0:=by unfold oi;rw [if_neg (Nat.lt_irrefl _),if_neg (Nat.lt_irrefl _)]
    rw [this]
    exact ac (fq (fun j=>(n:Int)-1-(j:Nat)) n (by omega) (fun j hj=>step j hj (hall j hj)) (cV rfl)) rfl
  · obtain ⟨k,hk,hb',hf⟩:=Ex hall
    have hup:a/W^(n-1-k+1)=b/W^(n-1-k+1):=by
      have:=Bt hA hB (d:=k) (by omega) fun i h1 h2=>by
        have:=hf (n-1-i) (by omega)
        rwa [show n-1-(n-1-i)=i by omega] at this
      rwa [show n-k=n-1-k+1 by omega] at this
    refine cS (fq (fun j=>(n:Int)-1-(j:Nat)) k (by omega) (fun j hj=>step j (by omega) (hf j hj)) ?_)
    show (nC _ _ _).run=_
    unfold nC
    have e:Int.toNat ((n:Int)-1-(k:Int))=n-1-k:=by omega
    rw [e,bT hA,bT hB,ao,ao]
    refine eS (aq (aq (aq (aq ?_))))
    by_cases hlt:lm a (n-1-k)<lm b (n-1-k)
    · have:=Bu hup hlt
      have:oi a b = -1:=by unfold oi;rw [if_pos this]
      rw [this]
      exact zW (decide_eq_true hlt) rfl
    · have hgt:lm b (n-1-k)<lm a (n-1-k):=by omega
      have hlt':=Bu hup.symm hgt
      have:oi a b=1:=by unfold oi;rw [if_neg (by omega),if_pos hlt']
      rw [this]
      exact l6 (decide_eq_false hlt) (aq (aq (aq (aq (zW (decide_eq_true hgt) rfl)))))
theorem PF{x y nx ny:Nat}(hx:x<W^nx)(hy:y<W^ny)(hn:ny≤nx)(hb:nx≤1000000){lx ly:List Int}(ex:∀ i,i<nx→lx.getD i 0=lm x i)(ey:∀ i,i<ny→ly.getD i 0=lm y i)(hlx:nx≤lx.length)(hly:ny≤ly.length) :
    eK (lP lx nx ly ny (nx+1)) (0,0,au 0 (nx+1))=some (.inl (pN x y nx/W^nx,au (pN x y nx%W^nx) (nx+1))):=by
  refine fq (fun j=>(j,pN x y j/W^j,au (pN x y j%W^j) (nx+1))) nx (by simp [pN,Nat.mod_one]) (fun j hj=>?_) (cS (cV rfl))
  have hc:=Bv (x:=x) (y:=y) (j:=j)
  have hS:=Nat.mod_lt (pN x y j) (dj j)
  have hst:=NE x y j
  obtain ⟨d1,d2⟩:=vq (t:=x/W^j%W+y/W^j%W+pN x y j/W^j) hS
  rw [←hst] at d1 d2
  have dk:=mD (n:=nx+1) hS (Nat.mod_lt (x/W^j%W+y/W^j%W+pN x y j/W^j) (show W>0 by decide)) (by omega)
  rw [←d2] at dk
  show aK (r6 _ _ _ _ _ _ _ _).run _=_
  refine ac (a:=(pN x y (j+1)/W^(j+1),au (pN x y (j+1)%W^(j+1)) (nx+1))) ?_ (aq rfl)
  unfold r6
  rw [ex j hj,ao]
  by_cases hyj:j<ny
  · rw [ey j hyj]
    refine eS (eS (aq (aq (aq (aq (aq (aq (aq ?_))))))))
    rw [rS,rS,dk,d1];rfl
  · have y0:y/W^j%W=0:=by
      rw [Nat.div_eq_of_lt (Nat.lt_of_lt_of_le hy (Nat.pow_le_pow_right (by decide) (by omega)))];rfl
    rw [y0] at dk d1
    refine eS (cV (aq (aq (aq (aq (aq ?_))))))
    rw [rS,dk,d1];rfl
theorem PG{a b n m:Nat}(ha:a<W^n)(hb:b<W^m)(hn:n≤1000000)(hm:m≤1000000)(h1:nl a≤4096)(h2:nl b≤4096)(h3:nl (a+b)≤4096) :
    aZ (au a n) (au b m)=some (.r0 0 (nl (a+b)) (max (nl a) (nl b)+1) 0 (au (a+b) (max (nl a) (nl b)+1))):=by
  have la:=fH ha
  have lb:=fH hb
  refine aY (ac (a:=(0,au a n,nl a,au b m,nl b)) ?_ ?_)
  · unfold y9
    rw [bz,bz,d8 ha (by omega),d8 hb (by omega)]
    simp only [be,aw,aj]
    exact bC (am (dC (am (cV (am (bC (am (dC (am (cV (am (aJ rfl))))))))))))
  have fin:∀ {x y nx ny:Nat} {lx ly:List Int},x<W^nx→y<W^ny→ny≤nx→nx≤4096→(∀ i,i<nx→lx.getD i 0=lm x i)→(∀ i,i<ny→ly.getD i 0=lm y i)→nx≤lx.length→ny≤ly.length→nl (x+y)≤4096 →
      (aK ((rZ nx).run) fun (o10,l11)=>aK (eK (lP lx nx ly ny o10) (0,0,l11)) fun (a19,l20)=>aK ((r7 nx o10 a19 l20).run) fun (a21,a22,a23,a24,l25)=>(za a21 a22 a23 a24 l25).run)
        = some (.inr (.r0 0 (nl (x+y)) (nx+1) 0 (au (x+y) (nx+1)))):=by
    intro x y nx ny lx ly hx hy hle hnx ex ey hlx hly h4
    refine ac (a:=(nx+1,au 0 (nx+1))) ?_ (ac (PF hx hy hle (by omega) ex ey hlx hly) (ac (a:=(0,nl (x+y),nx+1,0,au (x+y) (nx+1))) ?_ rfl))
    · unfold rZ
      rw [ye]
      exact aq (aq (aq (aq (aq rfl))))
    · have hyx:y<W^nx:=Nat.lt_of_lt_of_le hy (Nat.pow_le_pow_right (by decide) hle)
      have hs:pN x y nx=x+y:=by unfold pN;rw [Nat.mod_eq_of_lt hx,Nat.mod_eq_of_lt hyx]
      have hc:=Bv (x:=x) (y:=y) (j:=nx)
      have dk:=mD (u:=(x+y)%W^nx) (x:=(x+y)/W^nx) (j:=nx) (n:=nx+1) (Nat.mod_lt _ (dj _)) (by rw [hs] at hc;exact Nat.lt_of_le_of_lt hc (by decide)) (by omega)
      have hv:(x+y)%W^nx+(x+y)/W^nx*W^nx=x+y:=by rw [Nat.mul_comm];exact Nat.mod_add_div _ _
      rw [hv] at dk
      have hb2:x+y<W^(nx+1):=by
        rw [Nat.pow_succ]
        have h:=dj nx
        generalize W^nx=P at *
        have:(2:Nat)*P≤P*W:=by rw [Nat.mul_comm];exact Nat.mul_le_mul_left _ (by decide)
        omega
      unfold r7
      rw [hs,dk,Fg hb2 (by omega),if_neg (by omega),ao]
      exact aq (aq (RT (RU rfl) (P4 (am rfl))))
  by_cases hlt:nl a<nl b
  · refine ac (a:=(au b m,nl b,au a n,nl a)) (aJ (eS rfl)) ?_
    have:=fin (x:=b) (y:=a) (nx:=nl b) (ny:=nl a) (lx:=au b m) (ly:=au a n) (bU b) (bU a) (by omega) h2 (fun i hi=>bT hb i) (fun i hi=>bT ha i) (by rw [ao];exact lb) (by rw [ao];exact la) (by rw [Nat.add_comm];exact h3)
    rw [Nat.add_comm b a] at this
    rw [show max (nl a) (nl b)=nl b by omega]
    exact this
  · refine ac (a:=(au a n,nl a,au b m,nl b)) (aJ (cV rfl)) ?_
    have:=fin (x:=a) (y:=b) (nx:=nl a) (ny:=nl b) (lx:=au a n) (ly:=au b m) (bU a) (bU b) (by omega) h1 (fun i hi=>bT ha i) (fun i hi=>bT hb i) (by rw [ao];exact la) (by rw [ao];exact lb) h3
    rw [show max (nl a) (nl b)=nl a by omega]
    exact this
def JX(a b n j:Nat) :List Int:=fG (fun i=>if i<j then lm (zX a b j) i else lm a i) n
theorem NY{a b n j:Nat}(hj:j<n) :(JX a b n j).set j (((a/W^j%W+W-b/W^j%W-Bw a b j)%W:Nat):Int)=JX a b n (j+1):=by
  unfold JX
  rw [pM hj]
  refine de fun i hi=>?_
  have hD:=(MQ (a:=a) (b:=b) (j:=j)).1
  have h:=vp hD (Nat.mod_lt (a/W^j%W+W-b/W^j%W-Bw a b j) (show W>0 by decide)) i
  rw [←(H2 a b j).2] at h
  by_cases e:i=j
  · subst e
    rw [if_pos rfl,if_pos (by omega),h,if_pos rfl]
  · rw [if_neg e] at h ⊢
    by_cases q:i<j
    · rw [if_pos q,if_pos (by omega),h]
    · rw [if_neg q,if_neg (by omega)]
theorem pJ{a b n m:Nat}(ha:a<W^n)(hb:b<W^m)(hle:b≤a)(hmn:m≤n)(hn:n≤1000000) :ku (au a n) (au b m)=some (.r0 0 (nl (a-b)) n (au (a-b) n)):=by
  have hbn:b<W^n:=Nat.lt_of_lt_of_le hb (Nat.pow_le_pow_right (by decide) hmn)
  refine aY (ac (a:=(n,au a n)) ?_ (ac (a:=au (a-b) n) ?_ (ac (a:=(0,nl (a-b),n,au (a-b) n)) ?_ rfl)))
  · unfold zb
    rw [bz,ao]
    exact bS (aG (Nat.le_refl _)) (aq rfl)
  · have e0:au a n=JX a b n 0:=de fun i _=>by rw [if_neg (by omega)]
    have en:JX a b n n=au (a-b) n:=by
      refine de fun i hi=>?_
      have hd:zX a b n=a-b:=by
        unfold zX Bw
        rw [Nat.mod_eq_of_lt ha,Nat.mod_eq_of_lt hbn,if_neg (by omega),Nat.zero_mul,Nat.add_zero]
      rw [if_pos hi,hd]
    have b0:Bw a b 0=0:=by unfold Bw;rw [Nat.pow_zero,Nat.mod_one,Nat.mod_one];rfl
    show eK _ ((0:Int),0,au a n)=_
    refine fq (fun j=>(((Bw a b j:Nat):Int),j,JX a b n j)) n (by rw [b0,←e0];rfl) (fun j hj=>?_) (cS (l6 (by rw [ao];simp) (by rw [en];rfl)))
    have hbr:Bw a b j≤1:=by unfold Bw;split<;>omega
    have hl:(JX a b n j).length=n:=eF
    obtain ⟨s1,s2⟩:=H2 a b j
    have hst:=NY (a:=a) (b:=b) hj
    show aK (r8 _ _ _ _ _ _).run _=_
    refine ac (a:=(((Bw a b (j+1):Nat):Int),JX a b n (j+1))) ?_ (aq rfl)
    unfold r8
    rw [bT ha,ao,ao,hl,aW,rS]
    have blt:∀ p q:Nat,(bif Nat.blt p q then (1:Int) else 0)=(((if p<q then 1 else 0:Nat)):Int):=by
      intro p q
      by_cases h:p<q
      · rw [if_pos h,show Nat.blt p q=true by rw [Nat.blt_eq];exact h];rfl
      · rw [if_neg h]
        cases e:Nat.blt p q with
        | true=>rw [Nat.blt_eq] at e;exact absurd e h
        | false=>rfl
    by_cases hjm:j<m
    · rw [bT hb,rS,blt,←s1,hst]
      exact eS (eS (aq (aq (aq (aq (aq (aq (aq rfl))))))))
    · have y0:b/W^j%W=0:=by
        rw [Nat.div_eq_of_lt (Nat.lt_of_lt_of_le hb (Nat.pow_le_pow_right (by decide) (by omega)))];rfl
      rw [y0] at s1 hst
      refine eS (cV (aq (aq (aq (aq (aq ?_))))))
      rw [blt,←s1,hst];rfl
  · unfold zc
    rw [og (Nat.lt_of_le_of_lt (Nat.sub_le _ _) ha) (by omega)]
    exact am rfl
theorem JY{a b n m:Nat}(ha:a<W^n)(hb:b<W^m)(hn:n≤1000000)(hm:m≤1000000)(h1:nl a≤4096)(h2:nl b≤4096)(hle:b≤a) :
    aN (au a n) (au b m)=some (.r0 (au (a-b) (nl a)) 0 (nl (a-b)) 0):=by
  have la:=fH ha
  have lb:=fH hb
  have hnn:nl b≤nl a:=fH (Nat.lt_of_le_of_lt hle (bU a))
  refine aY (ac (a:=(0,au a n,nl a,au b m,nl b)) ?_ (ac (a:=false) ?_ (ac (a:=(au (a-b) (nl a),0,nl (a-b))) ?_ rfl)))
  · unfold BZ
    rw [bz,bz,d8 ha (by omega),d8 hb (by omega)]
    simp only [be,aw,aj]
    exact bC (am (dC (am (cV (am (bC (am (dC (am (cV (am (aJ rfl))))))))))))
  · unfold B0
    rw [bb la,bb lb,JW (by omega) (by omega)]
    refine aJ (bS (aG la) (bS (aG lb) (am ?_)))
    show some (Sum.inl _)=_
    congr 2
    show decide (oi a b<0)=false
    unfold oi
    rw [if_neg (by omega)]
    split<;>rfl
  · unfold B1
    rw [bb la,bb lb,pJ (bU a) (bU b) hle hnn (by omega)]
    exact aJ (bS (aG la) (bS (aG lb) (am rfl)))
theorem JZ{a b n m:Nat}(ha:a<W^n)(hb:b<W^m)(hn:n≤1000000)(hm:m≤1000000)(h1:nl a≤4096)(h2:nl b≤4096) :
    kt (au a n) (au b m)=some (.r0 (oi a b) 0):=by
  have la:=fH ha
  have lb:=fH hb
  refine aY (ac (a:=(0,au a n,nl a,au b m,nl b)) ?_ (ac (a:=oi a b) ?_ rfl))
  · unfold BS
    rw [bz,bz,d8 ha (by omega),d8 hb (by omega)]
    simp only [be,aw,aj]
    exact bC (am (dC (am (cV (am (bC (am (dC (am (cV (am (aJ rfl))))))))))))
  · unfold BT
    rw [bb la,bb lb,JW (by omega) (by omega)]
    exact aJ (bS (aG la) (bS (aG lb) (am rfl)))
theorem Me{x y:Nat}(hx:x<W)(hy:y<W) :cP (x:Int) (y:Int)=some (.r0 ((x*y/W:Nat):Int) ((x*y%W:Nat):Int)):=by
  obtain ⟨h1,h2,h3,h4,h5,h6,h7,h8,h9⟩:=KI hx hy
  have s:∀ z:Nat,Int.fdiv (z:Int) (2^(min (Int.toNat (32:Int)) (IntKind.u64.bits)))=((z/4294967296:Nat):Int):=fun z=>ql z (k:=32) (by decide)
  refine aY (ac (a:=(((x%4294967296:Nat):Int),((x/4294967296:Nat):Int),((y/4294967296:Nat):Int),((x/4294967296*(y%4294967296)+x%4294967296*(y%4294967296)/4294967296:Nat):Int))) ?_ ?_)
  · unfold nA
    rw [F1 hx,F1 hy,s,s,pP,pP,Nat.mod_eq_of_lt h2,Nat.mod_eq_of_lt h3,s,pO,Nat.mod_eq_of_lt h1]
    exact am (am (am rfl))
  · show (i4 _ _ _ _ _ _).run=_
    unfold i4
    rw [pP,pP,pP,F1 h1,s,pO,pO,Nat.mod_eq_of_lt h4,Nat.mod_eq_of_lt h5,Nat.mod_eq_of_lt h6,Nat.mod_eq_of_lt h7,s,pO,h8,Nat.mod_eq_of_lt h9]
    exact am (am rfl)
theorem PH{O a m k n N:Nat}(hO:O<W^(k+n))(ha:a<W^n)(hm:m<W)(hN:k+n≤N)(hb:N≤1000000) :
    kw (au O N) k (N-k) (au a n) (m:Int)=some (.r0 (((O+a*m*W^k)/W^(k+n):Nat):Int) (au ((O+a*m*W^k)%W^(k+n)) N)):=by
  refine aY (ac rfl (ac (a:=((((O+a*m*W^k)/W^(k+n):Nat):Int),au ((O+a*m*W^k)%W^(k+n)) N)) ?_ rfl))
  have c0:jy O a m k 0/W^(k+0)=0:=by
    have e:jy O a m k 0=O%W^k:=by unfold jy;rw [Nat.pow_zero,Nat.mod_one,Nat.zero_mul,Nat.zero_mul,Nat.add_zero,Nat.add_zero]
    rw [e,Nat.add_zero,Nat.div_eq_of_lt (Nat.mod_lt _ (dj _))]
  refine fq (fun i=>(((jy O a m k i/W^(k+i):Nat):Int),i,Dl O a m k N i)) n (by rw [c0,NF];rfl) (fun i hi=>?_) ?_
  · have hc:=KJ (O:=O) (a:=a) (m:=m) (k:=k) (i:=i)
    have hcW:jy O a m k i/W^(k+i)<W:=Nat.lt_of_le_of_lt hc hm
    have hla:=Nat.mod_lt (a/W^i) (show W>0 by decide)
    have hlO:=Nat.mod_lt (O/W^(k+i)) (show W>0 by decide)
    have hl:=O7 (O:=O) (a:=a) (m:=m) (k:=k) (n:=N) (i:=i)
    have hat:=P7 (O:=O) (a:=a) (m:=m) (k:=k) (n:=N) (i:=i) (by omega)
    have hst:=NG (O:=O) (a:=a) (m:=m) (k:=k) (n:=N) (i:=i) (by omega)
    obtain ⟨w1,w2,w3,w4⟩:=O9 hla hm hcW hlO
    have hS:=Nat.mod_lt (jy O a m k i) (dj (k+i))
    obtain ⟨d1,_⟩:=vq (t:=O/W^(k+i)%W+a/W^i%W*m+jy O a m k i/W^(k+i)) hS
    rw [←Ey] at d1
    show aK (lQ _ _ _ _ _ _ _).run _=_
    refine ac (a:=(((jy O a m k (i+1)/W^(k+i+1):Nat):Int),Dl O a m k N (i+1))) ?_ (aq rfl)
    unfold lQ
    rw [bT ha,o8,Me hla hm]
    simp only [eL,eY,df,fj]
    rw [hat,o8,ao,hl]
    simp only [aW,Nat.add_zero]
    rw [pO,Nat.mod_eq_of_lt w2,pO,w1,w3,Nat.mod_eq_of_lt w4,hst,←d1]
    exact eS (aq (aq (am (am (aq (aq (am (aq (aq rfl)))))))))
  · show aK (lQ _ _ _ _ _ _ _).run _=_
    refine cS ?_
    unfold lQ
    rw [H5 hO ha,O8 hO,H5 hO ha,ao]
    exact l6 (by simp) rfl
theorem G7{a b n m:Nat}(ha:a<W^n)(hb:b<W^m) :a*b<W^(n+m):=by
  rw [Nat.pow_add]
  rcases Nat.eq_zero_or_pos b with h | h
  · rw [h,Nat.mul_zero];exact Nat.mul_pos (dj _) (dj _)
  · exact Nat.mul_lt_mul_of_lt_of_le ha (Nat.le_of_lt hb) (dj _) |> fun q=>q
theorem PI{a b n m:Nat}(ha:a<W^n)(hb:b<W^m)(hn:n≤1000000)(hm:m≤1000000)(h1:nl a+nl b≤4096) :
    jf (au a n) (au b m)=some (.r0 0 (nl (a*b)) (nl a+nl b) 0 (au (a*b) (nl a+nl b))):=by
  have la:=fH ha
  have lb:=fH hb
  have hA:=bU a
  have hB:=bU b
  have hab:=G7 hA hB
  have hnab:=fH hab
  refine aY (ac (a:=(0,au a n,nl a,au b m,nl b)) ?_ (ac (a:=false) (aJ (aq (cV rfl))) (ac (a:=(nl a+nl b,au 0 (nl a+nl b))) ?_ (ac (a:=au (a*b) (nl a+nl b)) ?_ (ac (a:=(0,nl (a*b),nl a+nl b,0,au (a*b) (nl a+nl b))) ?_ rfl)))))
  · unfold zd
    rw [bz,bz,d8 ha (by omega),d8 hb (by omega)]
    simp only [be,aw,aj]
    exact bC (am (dC (am (cV (am (bC (am (dC (am (cV (am (aJ rfl))))))))))))
  · unfold ze
    rw [ye]
    exact aJ (aq (aq (aq (aq (aq rfl)))))
  · refine fq (fun k=>(k,au (a*(b%W^k)) (nl a+nl b))) (nl b) (by simp [Nat.mod_one]) (fun k hk=>?_) (cS (cV (by rw [Nat.mod_eq_of_lt hB];rfl)))
    have hO:a*(b%W^k)<W^(k+nl a):=by rw [Nat.add_comm];exact G7 hA (Nat.mod_lt _ (dj k))
    have hlb:=Nat.mod_lt (b/W^k) (show W>0 by decide)
    have hs:=PH (N:=nl a+nl b) hO hA hlb (by omega) (by omega)
    have e:a*(b%W^k)+a*(b/W^k%W)*W^k=a*(b%W^(k+1)):=by rw [jx,Nat.mul_add,Nat.mul_assoc]
    rw [e] at hs
    have hO1:a*(b%W^(k+1))<W^(k+nl a+1):=by
      rw [show k+nl a+1=nl a+(k+1) by omega];exact G7 hA (Nat.mod_lt _ (dj (k+1)))
    have hcar:a*(b%W^(k+1))/W^(k+nl a)<W:=by
      exact Nat.div_lt_of_lt_mul (by rw [←Nat.pow_succ];exact hO1)
    have dk:=mD (u:=a*(b%W^(k+1))%W^(k+nl a)) (x:=a*(b%W^(k+1))/W^(k+nl a)) (j:=k+nl a) (n:=nl a+nl b) (Nat.mod_lt _ (dj _)) hcar (by omega)
    have hv:a*(b%W^(k+1))%W^(k+nl a)+a*(b%W^(k+1))/W^(k+nl a)*W^(k+nl a)=a*(b%W^(k+1)):=by rw [Nat.mul_comm (a*(b%W^(k+1))/W^(k+nl a))];exact Nat.mod_add_div _ _
    rw [hv] at dk
    show aK (sd _ _ _ _ _ _ _).run _=_
    refine ac (a:=au (a*(b%W^(k+1))) (nl a+nl b)) ?_ (aq rfl)
    unfold sd
    rw [bb la,bT hb,o8,hs]
    simp only [nI,mI,jF]
    rw [dk,ao,ao]
    exact eS (aq (aq (aq (aq (aq (bS (aG la) (am (aq (aq rfl)))))))))
  · unfold zf
    rw [Fg hab (by omega),if_neg (by omega)]
    exact RT (RU rfl) (P4 (am rfl))
theorem Ry:∀ z:Fin 64,List.getD aB (2^z.val*285870213051353865%W/2^58) 0=(z.val:Int)∧2^z.val*285870213051353865%W/2^58<64:=by decide +kernel
theorem Qx:List.length aB=64:=by decide +kernel
theorem Rz{x:Nat}(h0:x≠0)(h:x<W) :bv .and .u64 (x:Int) (IntKind.u64.wrap ((0:Int)-(x:Int)))=((2^tz x:Nat):Int):=by
  rw [Pe h0 h,wH,Nat.mod_eq_of_lt h,Nat.mod_eq_of_lt (Nat.sub_lt (by decide) (Nat.pos_of_ne_zero h0)),P9 h0 h]
theorem Qy(y:Nat) :Int.fdiv (IntKind.u64.wrap ((y:Int)*(285870213051353865:Int))) (2^(min (Int.toNat (58:Int)) IntKind.u64.bits))=((y*285870213051353865%W/2^58:Nat):Int):=by
  have e:(285870213051353865:Int)=((285870213051353865:Nat):Int):=by omega
  rw [e,pP]
  exact ql _ (k:=58) (by decide)
theorem RA{z:Nat}(h:z<64) :IntKind.i64.wrap ((z:Nat):Int)=((z:Nat):Int):=by
  have:∀ z:Fin 64,IntKind.i64.wrap ((z.val:Nat):Int)=((z.val:Nat):Int):=by decide
  exact this ⟨z,h⟩
theorem RB{x:Nat}(h0:x≠0)(h:x<W) :∃ y:Nat,Int.fdiv (IntKind.u64.wrap ((bv .and .u64 (x:Int) (IntKind.u64.wrap ((0:Int)-(x:Int))))*(285870213051353865:Int))) (2^(min (Int.toNat (58:Int)) IntKind.u64.bits))=(y:Int)∧List.getD aB y 0=((tz x:Nat):Int)∧y<64:=by
  have hz:=H6 (n:=64) h0 h
  obtain ⟨t1,t2⟩:=Ry ⟨tz x,hz⟩
  exact ⟨_,by rw [Rz h0 h,Qy],t1,t2⟩
theorem td{x:Nat}(h0:x≠0)(h:x<W) :bO (x:Int)=some (.r0 ((tz x:Nat):Int)):=by
  have hz:=H6 (n:=64) h0 h
  obtain ⟨y,e,t1,t2⟩:=RB h0 h
  refine aY ?_
  unfold fX
  have ix:dY (dY 0 (AF (Int.toNat (y:Int)) 1)) 0=y:=by simp only [fj,pU,Nat.zero_add,Nat.mul_one,Nat.add_zero,aW]
  rw [e,ix,t1,Qx,RA hz]
  refine l6 (by rw [beq_eq_false_iff_ne];omega) (bS (by decide) (bS ?_ (bS ?_ rfl)))
  · rw [eX];omega
  · rw [cn];exact t2
theorem PJ{v:Nat}(h:v≠0) :∃ i,i<nl v∧v%W^i=0∧v/W^i%W≠0∧tz v=64*i+tz (v/W^i%W):=by
  obtain ⟨h1,h2⟩:=qm v h
  have e:2^tz v=2^(tz v%64)*W^(tz v/64):=EB _
  have h3:v%W^(tz v/64)=0:=by
    have d:W^(tz v/64) ∣ v:=Nat.dvd_trans ⟨2^(tz v%64),by rw [Nat.mul_comm];exact e⟩ (Nat.dvd_of_mod_eq_zero h1)
    exact Nat.mod_eq_zero_of_dvd d
  have hb:v=v/W^(tz v/64)*W^(tz v/64):=(Nat.div_mul_cancel (Nat.dvd_of_mod_eq_zero h3)).symm
  have h5:v/W^(tz v/64)≠0:=by intro q;rw [q,Nat.zero_mul] at hb;exact h hb
  have key:tz (v/W^(tz v/64))=tz v%64:=by
    have q:=KK h5 (64*(tz v/64))
    have w:2^(64*(tz v/64))=W^(tz v/64):=by rw [Nat.pow_mul]
    rw [w,←hb] at q
    omega
  obtain ⟨k1,k2⟩:=qm _ h5
  rw [key] at k1 k2
  have hr:tz v%64<64:=Nat.mod_lt _ (by decide)
  have e64:W=2^(tz v%64)*2^(64-tz v%64):=by rw [←Nat.pow_add];show 2^64=_;congr 1;omega
  have l1:(v/W^(tz v/64)%W)%2^(tz v%64)=0:=by
    revert k1;generalize v/W^(tz v/64)=y;intro k1;rw [e64,Nat.mod_mul_right_mod];exact k1
  have l2:(v/W^(tz v/64)%W)/2^(tz v%64)%2=1:=by
    have a:2^(64-tz v%64)=2*2^(63-tz v%64):=by rw [show 64-tz v%64=(63-tz v%64)+1 by omega,Nat.pow_succ,Nat.mul_comm]
    revert k2;generalize v/W^(tz v/64)=y;intro k2;rw [e64,Nat.mod_mul_right_div_self,a,Nat.mod_mul_right_mod];exact k2
  have l3:v/W^(tz v/64)%W≠0:=by intro q;rw [q,Nat.zero_div] at l2;exact absurd l2 (by decide)
  refine ⟨tz v/64,?_,h3,l3,?_⟩
  · rcases Nat.lt_or_ge (tz v/64) (nl v) with q | q
    · exact q
    · exfalso;apply l3
      rw [Nat.div_eq_of_lt (Nat.lt_of_lt_of_le (bU v) (Nat.pow_le_pow_right (by decide) q)),Nat.zero_mod]
  · rw [tF l1 l2];omega
theorem C3{v n:Nat}(hv:v<W^n)(h0:v≠0)(hn:nl v≤4096)(hn2:n≤1000000) :gG (au v n)=some (.r0 ((tz v:Nat):Int) 0):=by
  have hl:=fH hv
  have hp:=qk h0
  obtain ⟨i,h1,h2,h3,h4⟩:=PJ h0
  have hW:v/W^i%W<W:=Nat.mod_lt _ (by decide)
  have hz:=H6 (n:=64) h3 hW
  refine aY (ac (a:=(0,au v n,nl v)) ?_ (ac (a:=false) (aJ (by show some _=_;congr 2;rw [beq_eq_false_iff_ne];omega)) (ac (a:=()) (aJ rfl) (ac (a:=i) (fq (fun j=>j) i rfl (fun j hj=>?_) ?_) (ac (a:=((tz v:Nat):Int)) ?_ rfl)))))
  · unfold uB
    rw [bz,d8 hv (by omega)]
    simp only [be,aw,aj]
    exact bC (am (dC (am (cV (am (aJ rfl))))))
  · have z:lm v j=0:=by
      unfold lm
      obtain ⟨d,rfl⟩:∃ d,i=j+1+d:=⟨i-j-1,by omega⟩
      have dv:W^(j+1+d) ∣ v:=Nat.dvd_of_mod_eq_zero h2
      obtain ⟨c,hc⟩:=dv
      have:v=(W^d*c*W)*W^j:=by
        rw [hc,Nat.pow_add,Nat.pow_succ];simp only [Nat.mul_assoc,Nat.mul_comm,Nat.mul_left_comm]
      rw [this,Nat.mul_div_cancel _ (dj j),Nat.mul_mod_left];rfl
    show (iA _ _ _).run=_
    unfold iA
    rw [bT hv,z,ao]
    exact aq (aq (bC (aq rfl)))
  · show (iA _ _ _).run=_
    unfold iA
    rw [bT hv,o8,ao]
    refine aq (aq (l6 (by rw [beq_eq_false_iff_ne];omega) rfl))
  · unfold uC
    rw [bT hv,o8,ao,td h3 hW]
    simp only [b8,bV]
    have e:(((64*i:Nat):Int)+((tz (v/W^i%W):Nat):Int))=((tz v:Nat):Int):=by rw [h4,Int.natCast_add]
    rw [e]
    exact aq (aq (aq (am (bS (by rw [bu];omega) rfl))))
theorem Mf(k:Nat) :Int.tdiv (k:Int) (64:Int)=((k/64:Nat):Int):=rfl
theorem Mg(k:Nat) :IntKind.u64.wrap (Int.tmod (k:Int) (64:Int))=((k%64:Nat):Int):=by
  rw [show Int.tmod (k:Int) (64:Int)=((k%64:Nat):Int) from rfl,vt (Nat.lt_trans (Nat.mod_lt k (by decide:64>0)) (by decide))]
theorem PK{v n k:Nat}(hv:v<W^n)(h0:n≠0)(hn:n≤1000000)(hk:k≤1000000) :
    cL (au v n) (k:Int)=some (.r0 0 (nl (v*2^k)) (n+k/64+1) (au (v*2^k) (n+k/64+1))):=by
  have hr:k%64<64:=Nat.mod_lt _ (by decide)
  have hq:k/64≤1000000:=by omega
  have hsh:=Ph (k:=k) hv
  refine aY (ac (a:=(((k/64:Nat):Int),((k%64:Nat):Int),n+k/64+1,au 0 (n+k/64+1))) ?_ (ac (a:=au (v*2^k) (n+k/64+1)) (fq (fun i=>(i,au (v%W^i*2^(k%64)*W^(k/64)) (n+k/64+1))) n (by simp [Nat.mod_one]) (fun i hi=>?_) ?_) (ac (a:=(0,nl (v*2^k),n+k/64+1,au (v*2^k) (n+k/64+1))) ?_ rfl)))
  · unfold zg
    rw [ao,Mf,Mg]
    have e:(((n:Nat):Int)+((k/64:Nat):Int))+(1:Int)=((n+k/64+1:Nat):Int):=by omega
    rw [e,aW,ye]
    exact cV (aq (aq (am (aq (aq (aq (aq (aq (aq rfl)))))))))
  · show aK (oN _ _ _ _ _ _).run _=_
    refine ac (a:=au (v%W^(i+1)*2^(k%64)*W^(k/64)) (n+k/64+1)) ?_ (aq rfl)
    unfold oN
    have e1:Int.toNat (((i:Nat):Int)+((k/64:Nat):Int))=i+k/64:=rfl
    have e2:Int.toNat ((((i:Nat):Int)+((k/64:Nat):Int))+(1:Int))=i+k/64+1:=rfl
    rw [e1,e2,bT hv,o8,F0 _ (by omega),Bx hr,show (1:Int)=((1:Nat):Int) from rfl,ql _ (by decide),ql _ (by omega),Nat.pow_one,Pf hr (by omega),ao]
    simp only [List.length_set,ao]
    exact eS (aq (aq (aq (aq (aq (aq (aq (aq (aq (aq (aq (aq (aq (aq (aq (aq rfl))))))))))))))))
  · show aK (oN _ _ _ _ _ _).run _=_
    refine cS (l6 (by rw [ao];exact (by simp only [bu,eX,fi,cn,cu,bt,cw,cx,decide_eq_true_eq,decide_eq_false_iff_not,beq_iff_eq,beq_eq_false_iff_ne,bne_iff_ne,bne_eq_false_iff_eq,Bool.not_eq_true',Bool.not_eq_false',List.length_set,ne_eq,ge_iff_le,gt_iff_lt,bD,aW,eu];omega)) ?_)
    rw [Nat.mod_eq_of_lt hv,Nat.mul_assoc,←EB];rfl
  · unfold zh
    rw [og hsh (by omega)]
    exact am rfl
theorem Mh{v n:Nat}(h:v<W^n)(hn:n≤100000000)(hb:nl v≤4096) :fb (au v n)=some (.r0 (au v n) (nl v) 0):=by
  refine aY (ac (a:=(au v n,nl v)) ?_ (cV rfl))
  unfold sh
  rw [bz,d8 h (by omega)]
  exact dC (am rfl)
theorem PL{v n k:Nat}(hv:v<W^n)(h0:v≠0)(hn:n≤1000000)(hk:k<262144)(hl:nl v≤4096)(hb:nl (v*2^k)≤4096) :
    dL (au v n) (k:Int)=some (.r0 (au (v*2^k) (nl (v*2^k))) (nl (v*2^k)) 0):=by
  have hp:=qk h0
  have hln:=fH hv
  refine aY (ac (a:=(0,au v n,nl v)) ?_ (ac (a:=()) ?_ (ac (a:=(au (v*2^k) (nl (v*2^k)),nl (v*2^k),0)) ?_ rfl)))
  · unfold Ca
    rw [bz,d8 hv (by omega)]
    simp only [be,aw,aj]
    exact bC (am (dC (am (cV (am (aJ rfl))))))
  · exact aJ (cV (eS (cV rfl)))
  · have hsl:=Ph (k:=k) (bU v)
    have hls:=fH hsl
    show (vJ _ _ _).run=_
    unfold vJ
    rw [bb hln,PK (bU v) (by omega) (by omega) (by omega)]
    simp only [nK,e7,e8,e9]
    rw [bb hls,Mh (bU _) (by omega) hb]
    exact bS (aG hln) (am (bS (aG hls) (am rfl)))
theorem PM{v n k:Nat}(hv:v<W^n)(hn:n≤1000000)(hk:k≤100000000) :
    ∃ b N,jg (au v n) (k:Int)=some (.r0 0 (nl (v/2^k)) N b (au (v/2^k) N))∧nl (v/2^k)≤N∧N≤n:=by
  have hr:k%64<64:=Nat.mod_lt _ (by decide)
  have hq:k/64≤10000000:=by omega
  rcases Nat.lt_or_ge (k/64) n with hlt | hge
  · have hs:=Rl (k:=k) hv (Nat.le_of_lt hlt)
    have hls:=fH hs
    let f0:=((bv .and .u64 (List.getD (au v n) (Int.toNat (Int.tdiv (k:Int) (64:Int))) 0) (IntKind.u64.wrap ((IntKind.u64.wrap ((1:Int)*2^(min (Int.toNat (IntKind.u64.wrap (Int.tmod (k:Int) (64:Int)))) (IntKind.u64.bits))))-(1:Int)))) != (0:Int))
    let f:Nat→Bool:=fun j=>Nat.rec (motive:=fun _=>Bool) f0 (fun j b=>b||(lm v j != (0:Int))) j
    refine ⟨f (k/64),n-k/64,aY (ac (a:=(((k/64:Nat):Int),((k%64:Nat):Int),f0,k/64,k/64)) ?_ (ac (a:=f (k/64)) (fq (fun j=>(f j,j)) (k/64) rfl (fun j hj=>?_) ?_) (ac (a:=(n-k/64,n-k/64,List.replicate (n-k/64) (0:Int))) ?_ (ac (a:=au (v/2^k) (n-k/64)) (fq (fun i=>(i,fG (fun j=>if j<i then lm (v/2^k) j else 0) (n-k/64))) (n-k/64) (by simp only [rj];congr 1) (fun i hi=>?_) ?_) (ac (a:=(0,nl (v/2^k),n-k/64,au (v/2^k) (n-k/64))) ?_ rfl))))),hls,Nat.sub_le _ _⟩
    · unfold si
      have e:=Mf k
      refine am (bS (by rw [e];exact (by simp only [bu,eX,fi,cn,cu,bt,cw,cx,decide_eq_true_eq,decide_eq_false_iff_not,beq_iff_eq,beq_eq_false_iff_ne,bne_iff_ne,bne_eq_false_iff_eq,Bool.not_eq_true',Bool.not_eq_false',List.length_set,ne_eq,ge_iff_le,gt_iff_lt,bD,aW,eu];omega)) (am (l6 (by rw [e,ao];exact (by simp only [bu,eX,fi,cn,cu,bt,cw,cx,decide_eq_true_eq,decide_eq_false_iff_not,beq_iff_eq,beq_eq_false_iff_ne,bne_iff_ne,bne_eq_false_iff_eq,Bool.not_eq_true',Bool.not_eq_false',List.length_set,ne_eq,ge_iff_le,gt_iff_lt,bD,aW,eu];omega)) (bS (by rw [e,ao];exact (by simp only [bu,eX,fi,cn,cu,bt,cw,cx,decide_eq_true_eq,decide_eq_false_iff_not,beq_iff_eq,beq_eq_false_iff_ne,bne_iff_ne,bne_eq_false_iff_eq,Bool.not_eq_true',Bool.not_eq_false',List.length_set,ne_eq,ge_iff_le,gt_iff_lt,bD,aW,eu];omega)) (bS (by rw [e,ao];exact (by simp only [bu,eX,fi,cn,cu,bt,cw,cx,decide_eq_true_eq,decide_eq_false_iff_not,beq_iff_eq,beq_eq_false_iff_ne,bne_iff_ne,bne_eq_false_iff_eq,Bool.not_eq_true',Bool.not_eq_false',List.length_set,ne_eq,ge_iff_le,gt_iff_lt,bD,aW,eu];omega)) (bS (by rw [Mg];exact (by simp only [bu,eX,fi,cn,cu,bt,cw,cx,decide_eq_true_eq,decide_eq_false_iff_not,beq_iff_eq,beq_eq_false_iff_ne,bne_iff_ne,bne_eq_false_iff_eq,Bool.not_eq_true',Bool.not_eq_false',List.length_set,ne_eq,ge_iff_le,gt_iff_lt,bD,aW,eu];omega)) (bS (by rw [e,ao];exact (by simp only [bu,eX,fi,cn,cu,bt,cw,cx,decide_eq_true_eq,decide_eq_false_iff_not,beq_iff_eq,beq_eq_false_iff_ne,bne_iff_ne,bne_eq_false_iff_eq,Bool.not_eq_true',Bool.not_eq_false',List.length_set,ne_eq,ge_iff_le,gt_iff_lt,bD,aW,eu];omega)) (bS (by rw [e];exact (by simp only [bu,eX,fi,cn,cu,bt,cw,cx,decide_eq_true_eq,decide_eq_false_iff_not,beq_iff_eq,beq_eq_false_iff_ne,bne_iff_ne,bne_eq_false_iff_eq,Bool.not_eq_true',Bool.not_eq_false',List.length_set,ne_eq,ge_iff_le,gt_iff_lt,bD,aW,eu];omega)) ?_))))))))
      show some (Sum.inl (_,IntKind.u64.wrap _,f0,_,_))=_
      rw [Mg];rfl
    · show aK (oO _ _ _ _ _).run _=_
      refine ac (a:=f (j+1)) ?_ (aq rfl)
      unfold oO
      rw [bT hv,ao]
      refine eS (aq (aq ?_))
      have hf:f (j+1)=(f j||(lm v j != (0:Int))):=rfl
      rw [hf]
      cases f j
      · exact aJ rfl
      · exact bC rfl
    · show aK (oO _ _ _ _ _).run _=_
      exact cS (cV rfl)
    · show (sk _ _).run=_
      unfold sk
      have e:((n:Nat):Int)-((k/64:Nat):Int)=((n-k/64:Nat):Int):=by omega
      rw [ao,e]
      exact aq (aq (aq (aq (aq rfl))))
    · show aK (oP _ _ _ _ _ _ _).run _=_
      refine ac (a:=fG (fun j=>if j<i+1 then lm (v/2^k) j else 0) (n-k/64)) ?_ (aq rfl)
      have e1:Int.toNat (((i:Nat):Int)+((k/64:Nat):Int))=i+k/64:=rfl
      have e2:Int.toNat ((((i:Nat):Int)+((k/64:Nat):Int))+(1:Int))=i+k/64+1:=rfl
      obtain ⟨w1,w2⟩:=Pd (V:=v/W^(i+k/64)) hr
      have hV:v/W^(i+k/64)/W=v/W^(i+k/64+1):=by rw [Nat.pow_succ,Nat.div_div_eq_div_mul]
      have fin:∀ x:Int,x=lm (v/2^k) i→(fG (fun j=>if j<i then lm (v/2^k) j else 0) (n-k/64)).set i x=fG (fun j=>if j<i+1 then lm (v/2^k) j else 0) (n-k/64):=by
        intro x hx
        rw [pM hi]
        refine de fun j hj=>?_
        by_cases e:j=i
        · subst e;rw [if_pos rfl,if_pos (Nat.lt_succ_self _),hx]
        · rw [if_neg e]
          by_cases e':j<i
          · rw [if_pos e',if_pos (by omega)]
          · rw [if_neg e',if_neg (by omega)]
      unfold oP
      rw [e1,e2,bT hv,bT hv,o8,o8,ql _ (by omega),Bx hr,show (1:Int)=((1:Nat):Int) from rfl,F0 _ (by decide),F0 _ (by omega),Nat.pow_one]
      simp only [List.length_set,ao,eF,List.set_set]
      by_cases hlast:i+k/64+1<n
      · refine eS (aq (aq (aq (aq (aq (aq (aq (aq (eS (aq (aq (aq (aq (aq (aq (am (aq (aq (aq ?_)))))))))))))))))))
        show some (Sum.inl _)=_
        congr 2
        refine fin _ ?_
        rw [List.getD_eq_getElem?_getD,List.getElem?_set_self (by rw [eF];exact hi)]
        show bv .or .u64 _ _=_
        have m1:v/W^(i+k/64)%W/2^(k%64)%W=v/W^(i+k/64)%W/2^(k%64):=Nat.mod_eq_of_lt (Nat.lt_of_le_of_lt (Nat.div_le_self _ _) (Nat.mod_lt _ (by decide)))
        show bv .or .u64 ((v/W^(i+k/64)%W/2^(k%64):Nat):Int) _=_
        rw [FZ,m1,Nat.mod_mod,←hV,w2,←w1,Pg]
      · refine eS (aq (aq (aq (aq (aq (aq (aq (aq (cV ?_)))))))))
        show some (Sum.inl _)=_
        congr 2
        refine fin _ ?_
        have z:v/W^(i+k/64)/W=0:=by
          rw [hV];exact Nat.div_eq_of_lt (Nat.lt_of_lt_of_le hv (Nat.pow_le_pow_right (by decide) (by omega)))
        rw [z] at w1
        rw [Pg,w1]
        simp
    · show aK (oP _ _ _ _ _ _ _).run _=_
      refine cS (cV ?_)
      show some (Sum.inr (Sum.inl _))=_
      congr 3
      exact de fun j hj=>if_pos hj
    · unfold zk
      rw [og hs (by omega)]
      exact am rfl
  · have hz:=Pi hv hge
    refine ⟨decide (((n:Nat):Int)>(0:Int)),0,?_,by rw [hz,fk];exact Nat.le_refl 0,Nat.zero_le _⟩
    refine aY (cS ?_)
    unfold si
    rw [Mf,ao,hz,fk]
    exact am (aq (am (eS rfl)))
theorem J0{v n k:Nat}(hv:v<W^n)(hn:n≤1000000)(hl:nl v≤4096)(hk:k≤100000000) :
    ∃ b N,fA (au v n) (k:Int)=some (.r0 (au (v/2^k) N) 0 (nl (v/2^k)) b 0)∧nl (v/2^k)≤N∧N≤4096:=by
  have hln:=fH hv
  obtain ⟨b,N,h1,h2,h3⟩:=PM (k:=k) (bU v) (by omega) hk
  refine ⟨b,N,aY (ac (a:=(0,au v n,nl v)) ?_ (ac (a:=false) ?_ (ac (a:=(au (v/2^k) N,0,nl (v/2^k),b)) ?_ rfl))),h2,by omega⟩
  · unfold Cd
    rw [bz,d8 hv (by omega)]
    simp only [be,aw,aj]
    exact bC (am (dC (am (cV (am (aJ rfl))))))
  · refine aJ ?_
    show some (Sum.inl (decide (((k:Nat):Int)<0)))=_
    rw [decide_eq_false (by omega)]
  · show (vM _ _ _ _).run=_
    unfold vM
    rw [bb hln,h1]
    exact aJ (bS (aG hln) (am rfl))
theorem jb(s:Bool){v n:Nat}(hv:v<W^n)(hn:n≤1000000)(hl:nl v≤4096){e:Int}(he : -1000000≤e∧e≤1000000) :
    ∃ N,ai s (au v n) e=some (.r0 (nS (sg s v)) (au (nM (sg s v)) N) 0 (nl (nM (sg s v))) (nE (sg s v) e))∧nl (nM (sg s v))≤N∧N≤4096:=by
  have t5:(qK (au v n)).run=some (.inl (au v (nl v),nl v,false)):=by
    unfold qK
    rw [bz,tQ hv (by omega),if_neg (by omega)]
    exact dC (am rfl)
  by_cases h0:v=0
  · have z:sg s v=0:=jz.2 h0
    rw [z,fL,MS]
    rw [kN,fk]
    refine ⟨0,aY (ac t5 (cS ?_)),Nat.le_refl _,Nat.zero_le _⟩
    rw [h0,fk]
    exact bC rfl
  · have z:sg s v≠0:=fun q=>h0 (jz.1 q)
    have hp:=qk h0
    have ht:=MU (v:=v)
    obtain ⟨b,N,h1,h2,h3⟩:=J0 (k:=tz v) (bU v) (by omega) hl (by omega)
    have eM:nM (sg s v)=v/2^tz v:=by unfold nM;rw [l7]
    have eE:nE (sg s v) e=e+((tz v:Nat):Int):=by rw [gE z,l7]
    rw [QT h0,eM,eE]
    refine ⟨N,aY (ac t5 (ac (a:=((tz v:Nat):Int)) ?_ (ac (a:=(au (v/2^tz v) N,0,nl (v/2^tz v))) ?_ ?_))),h2,h3⟩
    · show (qL _ _).run=_
      unfold qL
      rw [eQ ao,C3 (bU v) h0 hl (by omega)]
      exact cV (gz (am rfl))
    · show (qM _ _ _).run=_
      unfold qM
      rw [eQ ao,h1]
      exact gz (am rfl)
    · exact bS (by rw [bu];omega) rfl
theorem J1{v n:Nat}(hv:v<W^n)(hn:n≤1000000)(hl:nl v≤4096){e:Int}(he : -262144≤e∧e≤262144) :ck (au v n) e=some (.r0 true):=by
  refine aY (ac (a:=0) ?_ (ac (a:=true) ?_ rfl))
  · unfold zt
    rw [bz,tQ hv (by omega),if_neg (by omega)]
    exact dC (am rfl)
  · refine bC (eS ?_)
    show some (Sum.inl (decide (e≤262144)))=_
    rw [decide_eq_true he.2]
theorem tR{z e:Int}{s:Bool}(hs:z≠0→s=nS z)(h:Sm z e) :∃ N,ai s (au (nM z) (nl (nM z))) (nE z e)=some (.r0 (nS z) (au (nM z) N) 0 (nl (nM z)) (nE z e))∧nl (nM z)≤N∧N≤4096:=by
  have hm:=h.m
  have hb:=h.b
  obtain ⟨N,h1,h2,h3⟩:=jb s (bU (nM z)) (by omega) (by omega:nl (nM z)≤4096) (e:=nE z e) (by omega)
  obtain ⟨a,b,c⟩:=By (e:=e) hs
  rw [a,b,c] at h1
  rw [b] at h2
  exact ⟨N,h1,h2,h3⟩
theorem yC{z e:Int}(h:Sm z e) :ck (au (nM z) (nl (nM z))) (nE z e)=some (.r0 true):=by
  have hm:=h.m
  have hb:=h.b
  exact J1 (bU (nM z)) (by omega) (by omega) (by omega)
theorem vX(s:Bool){v n:Nat}(hv:v<W^n)(hn:n≤1000000)(hl:nl v≤1000){e:Int}(he : -150000≤e∧e≤150000) :
    ∃ N,bf s (au v n) e=some (.r0 0 (nS (sg s v)) (au (nM (sg s v)) N) 0 (nl (nM (sg s v))) (nE (sg s v) e))∧nl (nM (sg s v))≤N∧N≤4096:=by
  obtain ⟨N,h1,h2,h3⟩:=jb s hv hn (by omega) (e:=e) (by omega)
  have ht:=MU (v:=v)
  have hE' : -262144≤nE (sg s v) e∧nE (sg s v) e≤262144:=by
    unfold nE;rw [l7];split<;>omega
  obtain ⟨hE',hE⟩:=hE'
  refine ⟨N,aY (ac (a:=(nS (sg s v),au (nM (sg s v)) N,0,nl (nM (sg s v)),nE (sg s v) e,false)) ?_ (ac (a:=false) ?_ rfl)),h2,h3⟩
  · unfold wY
    rw [bz,h1]
    exact dC (am rfl)
  · show (qO _ _ _ _).run=_
    unfold qO
    rw [bb h2,J1 (bU _) (by omega) (by omega) ⟨hE',hE⟩]
    exact bS (aG h2) (am rfl)
theorem xD{z:Int}{m:Nat}(h:m≤tz z.natAbs) :nM z*2^(tz z.natAbs-m)=z.natAbs/2^m∧z.natAbs/2^m*2^m=z.natAbs:=by
  have b:=MT z
  have e:tz z.natAbs=(tz z.natAbs-m)+m:=by omega
  have d:z.natAbs/2^m*2^m=z.natAbs:=by
    refine Nat.div_mul_cancel ⟨nM z*2^(tz z.natAbs-m),?_⟩
    rw [e,Nat.pow_add,←Nat.mul_assoc] at b
    rw [Nat.mul_comm (2^m)];exact b.symm
  refine ⟨?_,d⟩
  rw [e,Nat.pow_add,←Nat.mul_assoc] at b
  exact (Nat.div_eq_of_eq_mul_left (fo m) b.symm).symm
theorem tS{z e:Int}{m:Nat}(h:Sm z e)(h0:z≠0)(hm:m≤tz z.natAbs){k:Int}(hk:k=((tz z.natAbs-m:Nat):Int)) :
    dL (au (nM z) (nl (nM z))) k=some (.r0 (au (z.natAbs/2^m) (nl (z.natAbs/2^m))) (nl (z.natAbs/2^m)) 0):=by
  obtain ⟨e1,e2⟩:=xD hm
  have ht:=h.t
  have hM:=h.m
  have hN:nl (z.natAbs/2^m)≤300:=Nat.le_trans (kO (Nat.div_le_self _ _)) h.l
  rw [hk,PL (bU _) (H7 h0) (by omega) (by omega) (by omega) (by rw [e1];omega),e1]
theorem Qz{a b:Int}(h:a≤b) :xJ a b=a:=by unfold xJ;rw [if_neg (by omega)]
theorem QA{a b:Int}(h:b≤a) :xJ a b=b:=by
  unfold xJ
  by_cases q:b<a
  · rw [if_pos q]
  · rw [if_neg q];omega
theorem QB{a b:Int}(h:a≤b) :zP a b=b:=by
  unfold zP
  by_cases q:b>a
  · rw [if_pos q]
  · rw [if_neg q];omega
theorem QC{a b:Int}(h:b≤a) :zP a b=a:=by unfold zP;rw [if_neg (by omega)]
structure Si (x y e:Int) (m:Nat) (ep:Int):Prop where
  x2:x.natAbs/2^m*2^m=x.natAbs
  y2:y.natAbs/2^m*2^m=y.natAbs
  at':(x=0∧y=0∧ep=0)∨ep=e+m
  b : -50000≤ep∧ep≤94800
theorem Si.sum{x y e ep:Int}{m:Nat}(h:Si x y e m ep){z z':Int}(hz:z=z'*((2^m:Nat):Int))(h0:x=0→y=0→z'=0) :nS z=nS z'∧nM z=nM z'∧nE z e=nE z' ep:=by
  obtain ⟨a,b,c⟩:=rT hz e
  refine ⟨a,b,?_⟩
  rcases h.at' with ⟨h1,h2,h3⟩ | h1
  · have:=h0 h1 h2
    subst this
    rw [Int.zero_mul] at hz
    rw [hz,fL,fL]
  · rw [c,h1]
theorem C4{x y e:Int}(hx:Sm x e)(hy:Sm y e) :∃ m ep,bM (au (nM x) (nl (nM x))) (nE x e) (au (nM y) (nl (nM y))) (nE y e) =
    some (.r0 0 ep (au (x.natAbs/2^m) (nl (x.natAbs/2^m))) (nl (x.natAbs/2^m)) (au (y.natAbs/2^m) (nl (y.natAbs/2^m))) (nl (y.natAbs/2^m)))∧Si x y e m ep:=by
  have hxt:=hx.t
  have hyt:=hy.t
  obtain ⟨_,e1,e2⟩:=hx
  have zn:∀ m,((0:Int).natAbs/2^m)=0:=fun m=>by rw [Int.natAbs_zero,Nat.zero_div]
  by_cases h1:x=0
  · subst h1
    have l0:nl (nM 0)=0:=by rw [kN,fk]
    by_cases h2:y=0
    · subst h2
      refine ⟨0,0,aY (ac (a:=0) ?_ (ac (a:=([],0,[],0)) ?_ ?_)),⟨by simp,by simp,.inl ⟨rfl,rfl,rfl⟩,by omega⟩⟩
      · unfold iB;rw [ao,l0,fL];exact bC rfl
      · unfold eA;rw [ao,l0];exact bC (bC rfl)
      · rw [zn,fk];rfl
    · have ly:nl (nM y)≠0:=fun q=>H7 h2 (ko.1 q)
      obtain ⟨_,d⟩:=xD (z:=y) (Nat.le_refl _)
      refine ⟨tz y.natAbs,nE y e,aY (ac (a:=nE y e) ?_ (ac (a:=([],0,au (y.natAbs/2^tz y.natAbs) (nl (y.natAbs/2^tz y.natAbs)),nl (y.natAbs/2^tz y.natAbs))) ?_ ?_)),⟨by simp,d,.inr (gE h2),by rw [gE h2];omega⟩⟩
      · unfold iB;rw [ao,l0];exact bC rfl
      · show (eA _ _ _ _ _).run=_
        unfold eA
        rw [ao,ao,l0,eQ ao,tS hy h2 (Nat.le_refl _) (k:=nE y e-nE y e) (by omega)]
        exact bC (cV (bS (by rw [bu];omega) (gz (am rfl))))
      · rw [zn,fk];rfl
  · have lx:nl (nM x)≠0:=fun q=>H7 h1 (ko.1 q)
    by_cases h2:y=0
    · subst h2
      have l0:nl (nM 0)=0:=by rw [kN,fk]
      obtain ⟨_,d⟩:=xD (z:=x) (Nat.le_refl _)
      have hx:Sm x e:=⟨by assumption,e1,e2⟩
      refine ⟨tz x.natAbs,nE x e,aY (ac (a:=nE x e) ?_ (ac (a:=(au (x.natAbs/2^tz x.natAbs) (nl (x.natAbs/2^tz x.natAbs)),nl (x.natAbs/2^tz x.natAbs),[],0)) ?_ ?_)),⟨d,by simp,.inr (gE h1),by rw [gE h1];omega⟩⟩
      · unfold iB;rw [ao,ao,l0];exact cV (bC rfl)
      · show (eA _ _ _ _ _).run=_
        unfold eA
        rw [ao,ao,l0,eQ (l:=au (nM x) (nl (nM x))) ao,tS hx h1 (Nat.le_refl _) (k:=nE x e-nE x e) (by omega)]
        exact cV (bS (by rw [bu];omega) (gz (am (bC rfl))))
      · rw [zn,fk];rfl
    · have ly:nl (nM y)≠0:=fun q=>H7 h2 (ko.1 q)
      have hx:Sm x e:=⟨by assumption,e1,e2⟩
      have ex:=gE (e:=e) h1
      have ey:=gE (e:=e) h2
      have emin:xJ (nE x e) (nE y e)=e+((min (tz x.natAbs) (tz y.natAbs):Nat):Int):=by
        rw [ex,ey]
        rcases Nat.le_total (tz x.natAbs) (tz y.natAbs) with q | q
        · rw [Qz (by omega),Nat.min_eq_left q]
        · rw [QA (by omega),Nat.min_eq_right q]
      have emax:zP (nE x e) (nE y e)=e+((max (tz x.natAbs) (tz y.natAbs):Nat):Int):=by
        rw [ex,ey]
        rcases Nat.le_total (tz x.natAbs) (tz y.natAbs) with q | q
        · rw [QB (by omega),Nat.max_eq_right q]
        · rw [QC (by omega),Nat.max_eq_left q]
      have mx:min (tz x.natAbs) (tz y.natAbs)≤tz x.natAbs:=Nat.min_le_left _ _
      have my:min (tz x.natAbs) (tz y.natAbs)≤tz y.natAbs:=Nat.min_le_right _ _
      have gx:max (tz x.natAbs) (tz y.natAbs)≤44800:=by omega
      have gl:min (tz x.natAbs) (tz y.natAbs)≤max (tz x.natAbs) (tz y.natAbs):=by omega
      revert emin emax mx my gx gl
      generalize min (tz x.natAbs) (tz y.natAbs)=m
      generalize max (tz x.natAbs) (tz y.natAbs)=g
      intro emin emax mx my gx gl
      obtain ⟨_,dx⟩:=xD mx
      obtain ⟨_,dy⟩:=xD my
      refine ⟨m,e+m,aY (ac (a:=e+(m:Int)) ?_ (ac (a:=(au (x.natAbs/2^m) (nl (x.natAbs/2^m)),nl (x.natAbs/2^m),au (y.natAbs/2^m) (nl (y.natAbs/2^m)),nl (y.natAbs/2^m))) ?_ rfl)),⟨dx,dy,.inr rfl,by omega⟩⟩
      · unfold iB
        rw [ao,ao,emin,emax]
        exact cV (cV (bS (by rw [bu];omega) (l6 (by rw [decide_eq_false_iff_not];omega) rfl)))
      · show (eA _ _ _ _ _).run=_
        unfold eA
        rw [ao,ao,eQ (l:=au (nM x) (nl (nM x))) ao,eQ (l:=au (nM y) (nl (nM y))) ao,tS hx h1 mx (k:=nE x e-(e+(m:Int))) (by omega),tS hy h2 my (k:=nE y e-(e+(m:Int))) (by omega)]
        exact cV (bS (by rw [bu];omega) (gz (am (cV (bS (by rw [bu];omega) (gz (am rfl)))))))
theorem yD(s:Bool){v n:Nat}(hv:v<W^n)(hn:n≤1000000)(hl:nl v≤1000){e:Int}(he : -150000≤e∧e≤150000) :
    ∃ N,ba s (au v n) 0 e=some (.r0 0 (nS (sg s v)) (au (nM (sg s v)) N) 0 (nl (nM (sg s v))) (nE (sg s v) e))∧nl (nM (sg s v))≤N∧N≤4096:=by
  obtain ⟨N,h1,h2,h3⟩:=vX s hv hn hl he
  refine ⟨N,aY (ac (a:=(0,nS (sg s v),au (nM (sg s v)) N,0,nl (nM (sg s v)),nE (sg s v) e)) ?_ rfl),h2,h3⟩
  unfold uE
  rw [bz,h1]
  exact aJ (dC (am rfl))
theorem Fh{x y e:Int}{s t:Bool}(hs:x≠0→s=nS x)(ht:y≠0→t=nS y)(hx:Sm x e)(hy:Sm y e) :
    ∃ N,cm s (au (nM x) (nl (nM x))) (nE x e) t (au (nM y) (nl (nM y))) (nE y e)=some (.r0 0 (nS (x+y)) (au (nM (x+y)) N) 0 (nl (nM (x+y))) (nE (x+y) e))∧nl (nM (x+y))≤N∧N≤4096:=by
  obtain ⟨Nx,x1,x2,x3⟩:=tR hs hx
  obtain ⟨Ny,y1,y2,y3⟩:=tR ht hy
  obtain ⟨m,ep,l1,l2⟩:=C4 hx hy
  have xl:=hx.l
  have yl:=hy.l
  have hX:nl (x.natAbs/2^m)≤300:=Nat.le_trans (kO (Nat.div_le_self _ _)) xl
  have hY:nl (y.natAbs/2^m)≤300:=Nat.le_trans (kO (Nat.div_le_self _ _)) yl
  have ox:=QU l2.x2
  have oy:=QU l2.y2
  have z0:∀ {z:Int},z=0→z.natAbs/2^m=0:=fun h=>by rw [h,Int.natAbs_zero,Nat.zero_div]
  have zx:x=0→x.natAbs/2^m=0:=z0
  have zy:y=0→y.natAbs/2^m=0:=z0
  have hb:=l2.b
  have t9:(sy s (au (nM x) (nl (nM x))) (nE x e) t (au (nM y) (nl (nM y))) (nE y e)).run=some (.inl (0,nS x,au (nM x) Nx,0,nl (nM x),nE x e,nS y,au (nM y) Ny,0,nl (nM y),nE y e,false)):=by
    unfold sy
    rw [bz,bz,yC hx,yC hy,x1,y1]
    exact bC (am (dC (am (aJ (dC (am (am (bC (am (dC (am (aJ (dC (am (am (aJ rfl))))))))))))))))
  have t10:(qQ 0 (au (nM x) Nx) 0 (nl (nM x)) (nE x e) (au (nM y) Ny) 0 (nl (nM y)) (nE y e)).run=some (.inl (0,ep,au (x.natAbs/2^m) (nl (x.natAbs/2^m)),nl (x.natAbs/2^m),au (y.natAbs/2^m) (nl (y.natAbs/2^m)),nl (y.natAbs/2^m))):=by
    unfold qQ
    rw [bb x2,bb y2,l1]
    exact aJ (bS (aG x2) (bS (aG y2) (am rfl)))
  clear l1 x1 y1
  have sum:=fun {z z':Int} (a:z=z'*((2^m:Nat):Int)) (b:x=0→y=0→z'=0)=>l2.sum a b
  revert t10 hX hY ox oy zx zy
  generalize x.natAbs/2^m=X
  generalize y.natAbs/2^m=Y
  intro hX hY ox oy zx zy t10
  have hXY:=F5 hX hY
  by_cases hsg:nS x=nS y
  · have hz:x+y=sg (nS x) (X+Y)*((2^m:Nat):Int):=by
      rw [←Ro,Int.add_mul,←ox]
      rw [hsg,←oy]
    obtain ⟨a,b,c⟩:=sum hz (fun p q=>by rw [zx p,zy q];cases nS x<;>rfl)
    obtain ⟨N,h1,h2,h3⟩:=yD (nS x) (v:=X+Y) (bU _) (by omega) (by omega) (e:=ep) (by omega)
    rw [a,b,c]
    refine ⟨N,aY (ac t9 (ac t10 (cS ?_))),h2,h3⟩
    show (jL _ _ _ _ _ _ _ _).run=_
    unfold jL
    have hc:nl (X+Y)≤max (nl X) (nl Y)+1:=F5 (Nat.le_max_left _ _) (Nat.le_max_right _ _)
    rw [eQ ao,eQ ao,PG (bU X) (bU Y) (by omega) (by omega) (by omega) (by omega) (by omega)]
    simp only [nG,dm,dn,dR,dp]
    rw [bb hc,show (((0:Nat):Int))=0 from rfl,h1]
    exact aJ (zW (by rw [hsg];cases nS y<;>rfl) (gz (gz (am (bS (aG hc) (gz (gz (am rfl))))))))
  · have hn:nS y = !(nS x):=by revert hsg;cases nS x<;>cases nS y<;>simp
    have t11:(jL (nS x) (nS y) 0 ep (au X (nl X)) (nl X) (au Y (nl Y)) (nl Y)).run=some (.inl ()):=by
      unfold jL
      exact aJ (l6 (by rw [hn];cases nS x<;>rfl) rfl)
    have t12:(qR (au X (nl X)) (nl X) (au Y (nl Y)) (nl Y)).run=some (.inl (oi X Y)):=by
      unfold qR
      rw [eQ ao,eQ ao,JZ (bU X) (bU Y) (by omega) (by omega) (by omega) (by omega)]
      exact gz (gz (am rfl))
    have hxy:x+y=(sg (nS x) X-sg (nS x) Y)*((2^m:Nat):Int):=by
      rw [Int.sub_mul,←ox]
      have:y = -(sg (nS x) Y)*((2^m:Nat):Int):=by rw [←KN,←hn];exact oy
      rw [Int.neg_mul] at this
      omega
    by_cases hlt:X<Y
    · have hz:x+y=sg (nS y) (Y-X)*((2^m:Nat):Int):=by
        rw [hxy,←Pk (Nat.le_of_lt hlt),hn,KN,KN];congr 1;omega
      obtain ⟨a,b,c⟩:=sum hz (fun p q=>by rw [zx p,zy q];cases nS y<;>rfl)
      have hd:nl (Y-X)≤nl Y:=kO (Nat.sub_le _ _)
      obtain ⟨N,h1,h2,h3⟩:=yD (nS y) (v:=Y-X) (bU _) (by omega) (by omega) (e:=ep) (by omega)
      rw [a,b,c]
      refine ⟨N,aY (ac t9 (ac t10 (ac t11 (ac t12 (cS ?_))))),h2,h3⟩
      show (qS _ _ _ _ _ _ _).run=_
      unfold qS
      have hc:oi X Y = -1:=if_pos hlt
      rw [hc,eQ ao,eQ ao,JY (bU Y) (bU X) (by omega) (by omega) (by omega) (by omega) (Nat.le_of_lt hlt)]
      simp only [kv,cX,cY,cZ,dq]
      rw [bb hd,show (((0:Nat):Int))=0 from rfl,h1]
      exact bC (gz (gz (am (bS (aG hd) (gz (gz (am rfl)))))))
    · have hz:x+y=sg (nS x) (X-Y)*((2^m:Nat):Int):=by
        rw [hxy,←Pk (by omega)]
      obtain ⟨a,b,c⟩:=sum hz (fun p q=>by rw [zx p,zy q];cases nS x<;>rfl)
      have hd:nl (X-Y)≤nl X:=kO (Nat.sub_le _ _)
      obtain ⟨N,h1,h2,h3⟩:=yD (nS x) (v:=X-Y) (bU _) (by omega) (by omega) (e:=ep) (by omega)
      rw [a,b,c]
      have hc:decide (oi X Y<0)=false:=by
        rw [decide_eq_false_iff_not];unfold oi;rw [if_neg hlt];split<;>omega
      refine ⟨N,aY (ac t9 (ac t10 (ac t11 (ac t12 (ac (a:=()) (l6 hc rfl) (ac (a:=(0,au (X-Y) (nl X),0,nl (X-Y))) ?_ (ac (a:=(0,nS (sg (nS x) (X-Y)),au (nM (sg (nS x) (X-Y))) N,0,nl (nM (sg (nS x) (X-Y))),nE (sg (nS x) (X-Y)) ep)) ?_ rfl))))))),h2,h3⟩
      · show (qT _ _ _ _).run=_
        unfold qT
        rw [eQ ao,eQ ao,JY (bU X) (bU Y) (by omega) (by omega) (by omega) (by omega) (by omega)]
        exact gz (gz (am rfl))
      · show (qU _ _ _ _ _ _ _ _ _ _).run=_
        unfold qU
        rw [bb hd,show (((0:Nat):Int))=0 from rfl,h1]
        exact bS (aG hd) (gz (gz (am rfl)))
theorem NZ{x y e:Int}(hx:Sm x e)(hy:Sm y e) :
    ∃ N,cm (nS x) (au (nM x) (nl (nM x))) (nE x e) (nS y) (au (nM y) (nl (nM y))) (nE y e)=some (.r0 0 (nS (x+y)) (au (nM (x+y)) N) 0 (nl (nM (x+y))) (nE (x+y) e))∧nl (nM (x+y))≤N∧N≤4096 :=
  Fh (fun _=>rfl) (fun _=>rfl) hx hy
theorem N0{x y e:Int}(hx:Sm x e)(hy:Sm y e) :
    ∃ N,fg (nS x) (au (nM x) (nl (nM x))) (nE x e) (nS y) (au (nM y) (nl (nM y))) (nE y e)=some (.r0 0 (nS (x-y)) (au (nM (x-y)) N) 0 (nl (nM (x-y))) (nE (x-y) e))∧nl (nM (x-y))≤N∧N≤4096:=by
  obtain ⟨N,h1,h2,h3⟩:=Fh (x:=x) (y:=-y) (e:=e) (s:=nS x) (t:=!(nS y)) (fun _=>rfl) (fun h=>by
    unfold nS;rw [←decide_not];congr 1;exact propext (by omega)) hx hy.n
  rw [Rm,Rn,←Int.sub_eq_add_neg] at h1
  rw [←Int.sub_eq_add_neg] at h2
  refine ⟨N,aY (ac (a:=(0,nS (x-y),au (nM (x-y)) N,0,nl (nM (x-y)),nE (x-y) e)) ?_ rfl),h2,h3⟩
  unfold zG
  rw [bz,bz,h1]
  exact dC (dC (am rfl))
theorem Fi{x y e f:Int}(hx:Sm x e)(hy:Sm y f) :
    ∃ N,cD (nS x) (au (nM x) (nl (nM x))) (nE x e) (nS y) (au (nM y) (nl (nM y))) (nE y f)=some (.r0 0 (nS (x*y)) (au (nM (x*y)) N) 0 (nl (nM (x*y))) (nE (x*y) (e+f)))∧nl (nM (x*y))≤N∧N≤4096:=by
  obtain ⟨Nx,x1,x2,x3⟩:=tR (s:=nS x) (fun _=>rfl) hx
  obtain ⟨Ny,y1,y2,y3⟩:=tR (s:=nS y) (fun _=>rfl) hy
  have xm:=hx.m
  have ym:=hy.m
  have xb:=hx.b
  have yb:=hy.b
  have hm:=Pj (a:=nM x) (b:=nM y)
  obtain ⟨N,h1,h2,h3⟩:=vX (nS x != nS y) (v:=nM x*nM y) (bU _) (by omega) (by omega) (e:=nE x e+nE y f) (by omega)
  have key:nS (x*y)=nS (sg (nS x != nS y) (nM x*nM y))∧nM (x*y)=nM (sg (nS x != nS y) (nM x*nM y))∧nE (x*y) (e+f)=nE (sg (nS x != nS y) (nM x*nM y)) (nE x e+nE y f):=by
    have hz:x*y=sg (nS x != nS y) (nM x*nM y)*((2^(tz x.natAbs+tz y.natAbs):Nat):Int):=by
      have a:=F4 x
      have b:=F4 y
      rw [←NH,Nat.pow_add,Int.natCast_mul]
      conv=>lhs;rw [←a,←b]
      simp only [Int.mul_assoc,Int.mul_comm,Int.mul_left_comm]
    obtain ⟨a,b,c⟩:=rT hz (e+f)
    refine ⟨a,b,?_⟩
    rw [c]
    by_cases p:x=0
    · subst p;rw [kN,Nat.zero_mul]
      have:sg (nS 0 != nS y) 0=0:=jz.2 rfl
      rw [this,fL,fL]
    · by_cases q:y=0
      · subst q;rw [kN,Nat.mul_zero]
        have:sg (nS x != nS 0) 0=0:=jz.2 rfl
        rw [this,fL,fL]
      · rw [gE p,gE q];congr 1;omega
  obtain ⟨a,b,c⟩:=key
  rw [a,b,c]
  refine ⟨N,aY (ac (a:=(0,nS x,au (nM x) Nx,0,nl (nM x),nE x e,nS y,au (nM y) Ny,0,nl (nM y),nE y f,false)) ?_ (ac (a:=(au (nM x*nM y) (nl (nM x)+nl (nM y)),0,nl (nM x*nM y),0)) ?_ (ac (a:=(0,nS (sg (nS x != nS y) (nM x*nM y)),au (nM (sg (nS x != nS y) (nM x*nM y))) N,0,nl (nM (sg (nS x != nS y) (nM x*nM y))),nE (sg (nS x != nS y) (nM x*nM y)) (nE x e+nE y f))) ?_ rfl))),h2,h3⟩
  · unfold zB
    rw [bz,bz,yC hx,yC hy,x1,y1]
    exact bC (am (dC (am (aJ (dC (am (am (bC (am (dC (am (aJ (dC (am (am (aJ rfl))))))))))))))))
  · show (sA _ _ _ _ _ _ _).run=_
    unfold sA
    rw [bb x2,bb y2,PI (bU (nM x)) (bU (nM y)) (by omega) (by omega) (by omega)]
    have e1:nl (nM x)=nl (nM x):=rfl
    exact aJ (bS (aG x2) (bS (aG y2) (am rfl)))
  · show (sB _ _ _ _ _ _ _ _).run=_
    unfold sB
    rw [bb hm]
    have h1':bf (!(nS x==nS y)) (au (nM x*nM y) (nl (nM x*nM y))) (nE x e+nE y f)=_:=h1
    rw [h1']
    exact aJ (bS (by rw [bu];omega) (bS (aG hm) (am rfl)))
def uU(z:Int) :Int:=if z<0 then -1 else if 0<z then 1 else 0
theorem m7(z:Int) :dg (nS z) (au (nM z) (nl (nM z)))=some (.r0 (uU z)):=by
  refine aY ?_
  unfold w7
  rw [ao]
  unfold uU nS
  by_cases h0:z=0
  · subst h0;rw [kN,fk];exact bC rfl
  · have:nl (nM z)≠0:=fun q=>H7 h0 (ko.1 q)
    by_cases h:z<0
    · rw [if_pos h];exact cV (zW (decide_eq_true h) rfl)
    · rw [if_neg h,if_pos (by omega)];exact cV (l6 (decide_eq_false h) rfl)
theorem QD{X Y p:Nat}(hp:0<p) :oi X Y=sgn ((X:Int)*p) ((Y:Int)*p):=by
  unfold oi sgn
  have h:∀ {a b:Nat},a<b↔(a:Int)*p<(b:Int)*p:=fun {a b}=>by
    rw [←Int.natCast_mul,←Int.natCast_mul,Int.ofNat_lt]
    exact ⟨fun q=>Nat.mul_lt_mul_of_pos_right q hp,fun q=>Nat.lt_of_mul_lt_mul_right q⟩
  simp only [h]
theorem QE{a b:Int} :(0:Int)-sgn a b=sgn (-a) (-b):=by unfold sgn;split<;>split<;>(try split)<;>omega
theorem N9{x y e:Int}(hx:Sm x e)(hy:Sm y e) :
    i7 (nS x) (au (nM x) (nl (nM x))) (nE x e) (nS y) (au (nM y) (nl (nM y))) (nE y e)=some (.r0 (sgn x y) 0):=by
  obtain ⟨Nx,x1,x2,x3⟩:=tR (s:=nS x) (fun _=>rfl) hx
  obtain ⟨Ny,y1,y2,y3⟩:=tR (s:=nS y) (fun _=>rfl) hy
  obtain ⟨m,ep,l1,l2⟩:=C4 hx hy
  have xl:=hx.l
  have yl:=hy.l
  have hX:nl (x.natAbs/2^m)≤300:=Nat.le_trans (kO (Nat.div_le_self _ _)) xl
  have hY:nl (y.natAbs/2^m)≤300:=Nat.le_trans (kO (Nat.div_le_self _ _)) yl
  have hc:oi (x.natAbs/2^m) (y.natAbs/2^m)=sgn (x.natAbs:Int) (y.natAbs:Int):=by
    rw [QD (fo m),←Int.natCast_mul,←Int.natCast_mul,l2.x2,l2.y2]
  have t8:(sE 0 (au (x.natAbs/2^m) (nl (x.natAbs/2^m))) (nl (x.natAbs/2^m)) (au (y.natAbs/2^m) (nl (y.natAbs/2^m))) (nl (y.natAbs/2^m))).run=some (.inl (sgn (x.natAbs:Int) (y.natAbs:Int))):=by
    unfold sE
    rw [eQ ao,eQ ao,JZ (bU _) (bU _) (by omega) (by omega) (by omega) (by omega),←hc]
    exact aJ (gz (gz (am rfl)))
  have t7:(sD 0 (au (nM x) Nx) 0 (nl (nM x)) (nE x e) (au (nM y) Ny) 0 (nl (nM y)) (nE y e)).run=some (.inl (0,ep,au (x.natAbs/2^m) (nl (x.natAbs/2^m)),nl (x.natAbs/2^m),au (y.natAbs/2^m) (nl (y.natAbs/2^m)),nl (y.natAbs/2^m))):=by
    unfold sD
    rw [bb x2,bb y2,l1]
    exact aJ (bS (aG x2) (bS (aG y2) (am rfl)))
  refine aY (ac (a:=(0,nS x,au (nM x) Nx,0,nl (nM x),nE x e,nS y,au (nM y) Ny,0,nl (nM y),nE y e)) ?_ (ac t7 (ac t8 ?_)))
  · unfold zE
    rw [bz,bz,yC hx,yC hy,x1,y1]
    exact bC (am (dC (am (aJ (dC (am (am (bC (am (dC (am (aJ (dC (am (am (aJ rfl))))))))))))))))
  · have h9:∀ n18,jh (nS x) (au (nM x) Nx) 0 (nl (nM x)) (nS y) (au (nM y) Ny) 0 (nl (nM y)) n18=jh (nS x) (au (nM x) Nx) 0 (nl (nM x)) (nS y) (au (nM y) Ny) 0 (nl (nM y)) n18:=fun _=>rfl
    by_cases hs:uU x=uU y
    · by_cases hn:x<0
      · have e1:nS x=true:=decide_eq_true hn
        have hy0:y<0:=by unfold uU at hs;rw [if_pos hn] at hs;revert hs;split<;>(try split)<;>omega
        have ev:(0:Int)-sgn (x.natAbs:Int) (y.natAbs:Int)=sgn x y:=by
          rw [QE];congr 1<;>omega
        refine cS ?_
        unfold jh
        rw [bb x2,bb y2,m7,m7]
        simp only [dT,cE]
        refine bS (aG x2) (am (bS (aG y2) (am (l6 (by rw [hs,bne_self_eq_false]) (zW e1 (bS ?_ ?_))))))
        · rw [ev,bu];unfold sgn;split<;>(try split)<;>omega
        · rw [ev];rfl
      · have e1:nS x=false:=decide_eq_false hn
        have hy0 : ¬ y<0:=by unfold uU at hs;rw [if_neg hn] at hs;revert hs;split<;>(try split)<;>(try split)<;>omega
        have ev:sgn (x.natAbs:Int) (y.natAbs:Int)=sgn x y:=by congr 1<;>omega
        refine ac (a:=()) ?_ (by rw [ev];rfl)
        unfold jh
        rw [bb x2,bb y2,m7,m7]
        simp only [dT,cE]
        exact bS (aG x2) (am (bS (aG y2) (am (l6 (by rw [hs,bne_self_eq_false]) (l6 e1 rfl)))))
    · have ev:zP (-1) (xJ 1 (uU x-uU y))=sgn x y:=by
        unfold zP xJ sgn;unfold uU at hs ⊢
        revert hs
        repeat' split
        all_goals omega
      refine cS ?_
      unfold jh
      rw [bb x2,bb y2,m7,m7]
      simp only [dT,cE]
      rw [ev]
      refine bS (aG x2) (am (bS (aG y2) (am (zW (bne_iff_ne.2 hs) (bS (aG x2) (am (bS (aG y2) (am (bS ?_ rfl)))))))))
      rw [bu];unfold uU;split<;>(try split)<;>(try split)<;>(try split)<;>omega
theorem J2{n:Nat}(h:n<9223372036854775808) :
    ∃ N,ax (n:Int)=some (.r0 (nS (n:Int)) (au (nM (n:Int)) N) 0 (nl (nM (n:Int))) (nE (n:Int) 0))∧nl (nM (n:Int))≤N∧N≤4096:=by
  have hW:n<W:=Nat.lt_trans h (by decide)
  have hn:nl n≤1:=fH (by rw [Nat.pow_one];exact hW)
  obtain ⟨N,h1,h2,h3⟩:=jb false (v:=n) (bU _) (by omega) (by omega) (e:=0) (by omega)
  have e:sg false n=(n:Int):=rfl
  rw [e] at h1 h2
  refine ⟨N,aY (ac (a:=((n:Int),false)) ?_ (ac (a:=(nS (n:Int),au (nM (n:Int)) N,0,nl (nM (n:Int)),nE (n:Int) 0)) ?_ rfl)),h2,h3⟩
  · unfold uH
    rw [vt hW]
    exact l6 (by rw [decide_eq_false_iff_not];omega) rfl
  · show (pf _ _).run=_
    unfold pf
    have d:decide ((n:Int)<0)=false:=by rw [decide_eq_false_iff_not];omega
    rw [G6 hW,d]
    simp only [je,bE,bF,bG]
    rw [bb hn,h1]
    exact am (bS (aG hn) (am rfl))
theorem xE{x:Nat}(hx:x<dD) :bv .and .u64 (Int.fdiv (x:Int) (2^(min (Int.toNat (52:Int)) IntKind.u64.bits))) 2047=((zY x:Nat):Int):=by
  have e:(52:Int)=((52:Nat):Int):=by omega
  have e':(2047:Int)=((2047:Nat):Int):=by omega
  rw [e,ql _ (by decide),e',wH]
  have h1:x/2^52<W:=Nat.lt_of_le_of_lt (Nat.div_le_self _ _) hx
  rw [Nat.mod_eq_of_lt h1,Nat.mod_eq_of_lt (show 2047<W by decide)]
  congr 1
  exact Nat.and_two_pow_sub_one_eq_mod _ 11
theorem tT{x:Nat}(hx:x<dD) :bv .and .u64 (x:Int) 4503599627370495=((x%4503599627370496:Nat):Int):=by
  have e':(4503599627370495:Int)=((4503599627370495:Nat):Int):=by omega
  rw [e',wH,Nat.mod_eq_of_lt hx,Nat.mod_eq_of_lt (show 4503599627370495<W by decide)]
  congr 1
  exact Nat.and_two_pow_sub_one_eq_mod _ 52
theorem Oa{x:Nat}(hx:x<dD) :Int.fdiv (x:Int) (2^(min (Int.toNat (63:Int)) IntKind.u64.bits))=((x/9223372036854775808:Nat):Int):=by
  have e:(63:Int)=((63:Nat):Int):=by omega
  rw [e,ql _ (by decide)]
theorem PN{y:Nat}(h:y<4503599627370496) :bv .or .u64 (y:Int) 4503599627370496=((y+4503599627370496:Nat):Int):=by
  have e':(4503599627370496:Int)=((4503599627370496:Nat):Int):=by omega
  have hy:y<W:=Nat.lt_trans h (by decide)
  rw [e',FZ,Nat.mod_eq_of_lt hy,Nat.mod_eq_of_lt (show 4503599627370496<W by decide)]
  congr 1
  have:=KL (h:=y) (x:=1) (r:=52) h
  rw [Nat.one_mul] at this
  exact this
def M7(x:Nat) :Nat:=if zY x≠0 then 3 else if x%4503599627370496≠0 then 2 else 1
theorem Mi{x:Nat}(hx:x<dD)(h:fin x=true) :jM (x:Int)=some (.r0 (M7 x)):=by
  have h':zY x≠2047:=by unfold fin at h;exact bne_iff_ne.1 h
  unfold M7
  by_cases h1:zY x=0
  · by_cases h2:x%4503599627370496=0
    · rw [if_neg (by omega),if_neg (by omega)]
      refine aY (ac (a:=()) ?_ rfl)
      unfold lw
      rw [xE hx,tT hx,h1,h2]
      exact am (aJ (aJ (aJ (aJ rfl))))
    · rw [if_neg (by omega),if_pos h2]
      refine aY (cS ?_)
      unfold lw
      rw [xE hx,tT hx,h1]
      exact am (aJ (aJ (aJ (eS rfl))))
  · rw [if_pos h1]
    refine aY (cS ?_)
    unfold lw
    rw [xE hx,tT hx]
    exact am (cV (cV (eS rfl)))
def fm(x:Nat) :Nat:=if zY x≠0 then x%4503599627370496+4503599627370496 else x%4503599627370496
def fe(x:Nat) :Int:=if zY x≠0 then -1074+((zY x:Int)-1) else if x%4503599627370496≠0 then -1074 else 0
theorem Ob{z:Nat}(h:z<4096) :IntKind.i64.wrap ((z:Nat):Int)=((z:Nat):Int):=by
  simp only [IntKind.wrap,IntKind.signed,IntKind.bits]
  simp
  omega
theorem Mj(x:Nat) :zY x<2048:=Nat.mod_lt _ (by decide)
theorem Mk{x:Nat}(hx:x<dD)(h:fin x=true) :cM (x:Int)=some (.r0 0 (x/9223372036854775808==1) ((fm x:Nat):Int) (fe x)):=by
  have hl:=Mj x
  have hs:(((x/9223372036854775808:Nat):Int)==(1:Int))=(x/9223372036854775808==1):=by
    rw [Bool.eq_iff_iff,beq_iff_eq,beq_iff_eq];omega
  refine aY (ac (a:=(M7 x,false,(x/9223372036854775808==1),((x%4503599627370496:Nat):Int))) ?_ ?_)
  · unfold uI
    rw [Mi hx h,tT hx,Oa hx,hs]
    exact am (am rfl)
  · show (pg _ _ _ _).run=_
    unfold pg M7 fm fe
    rw [xE hx,Ob (by omega),PN (Nat.mod_lt _ (by decide))]
    by_cases h1:zY x=0
    · by_cases h2:x%4503599627370496=0
      · rw [if_neg (by omega),if_neg (by omega),if_neg (by omega),if_neg (by omega),if_neg (by omega)]
        exact aJ (aJ (bC rfl))
      · rw [if_neg (by omega),if_pos h2,if_neg (by omega),if_neg (by omega),if_pos h2]
        exact aJ (bC rfl)
    · rw [if_pos h1,if_pos h1,if_pos h1]
      exact bC (am (bS (by rw [bu];omega) (bS (by rw [bu];omega) rfl)))
theorem R8(x:Nat) :fm x<W:=by
  have:=Nat.mod_lt x (show 4503599627370496>0 by decide)
  have w:(9007199254740992:Nat)<W:=by decide
  unfold fm;split<;>omega
theorem PO{x:Nat}(hx:x<dD)(h:fin x=true) :nS (sg (x/9223372036854775808==1) (fm x))=nS (fz x)∧nM (sg (x/9223372036854775808==1) (fm x))=nM (fz x)∧nE (sg (x/9223372036854775808==1) (fm x)) (fe x)=nE (fz x) (-1074):=by
  have hx':x<18446744073709551616:=hx
  have hl:=Mj x
  unfold fz fm fe
  have hmod:x%4503599627370496=x%9223372036854775808%4503599627370496:=by omega
  by_cases h1:zY x=0
  · have h3:x%9223372036854775808<4503599627370496:=by unfold zY at h1;omega
    have h4:bh (x%9223372036854775808)=0:=by unfold bh;omega
    have h5:bk (x%9223372036854775808)=x%4503599627370496:=by unfold bk;rw [if_pos h3];omega
    rw [h4,h5,Nat.pow_zero,Nat.mul_one,if_neg (by omega),if_neg (by omega)]
    by_cases h2:x%4503599627370496=0
    · rw [h2,if_neg (by omega)]
      have z:sg (x/9223372036854775808==1) 0=0:=jz.2 rfl
      rw [z,fL,fL];exact ⟨rfl,rfl,rfl⟩
    · rw [if_pos h2];exact ⟨rfl,rfl,rfl⟩
  · have h3 : ¬ x%9223372036854775808<4503599627370496:=by unfold zY at h1;omega
    have h4:bh (x%9223372036854775808)=zY x-1:=by unfold bh zY;omega
    have h5:bk (x%9223372036854775808)=x%4503599627370496+4503599627370496:=by unfold bk;rw [if_neg h3];omega
    rw [h4,h5,if_pos h1,if_pos h1]
    obtain ⟨a,b,c⟩:=rT (z:=sg (x/9223372036854775808==1) ((x%4503599627370496+4503599627370496)*2^(zY x-1))) (z':=sg (x/9223372036854775808==1) (x%4503599627370496+4503599627370496)) (m:=zY x-1) F3 (-1074)
    refine ⟨a.symm,b.symm,?_⟩
    rw [c];congr 1;omega
theorem J3{x:Nat}(hx:x<dD)(h:fin x=true) :
    ∃ N,dh x=some (.r0 0 (nS (fz x)) (au (nM (fz x)) N) 0 (nl (nM (fz x))) (nE (fz x) (-1074)))∧nl (nM (fz x))≤N∧N≤4096:=by
  have hm:=R8 x
  have hn:nl (fm x)≤1:=fH (by rw [Nat.pow_one];exact hm)
  have hl:=Mj x
  have he : -1000000≤fe x∧fe x≤1000000:=by unfold fe;split<;>(try split)<;>omega
  obtain ⟨N,h1,h2,h3⟩:=jb (x/9223372036854775808==1) (v:=fm x) (bU _) (by omega) (by omega) he
  obtain ⟨a,b,c⟩:=PO hx h
  rw [a,b,c] at h1
  rw [b] at h2
  refine ⟨N,aY (ac (a:=(0,false,(x/9223372036854775808==1),((fm x:Nat):Int),fe x)) ?_ (ac (a:=(nS (fz x),au (nM (fz x)) N,0,nl (nM (fz x)),nE (fz x) (-1074))) ?_ rfl)),h2,h3⟩
  · unfold Cv
    rw [Mk hx h]
    exact l6 (F6 hx h) (P4 (bS (by rw [Qa hx h];rfl) (am rfl)))
  · show (vR _ _ _ _).run=_
    unfold vR
    rw [G6 hm]
    simp only [je,bE,bF,bG]
    rw [bb hn,h1]
    exact aJ (am (bS (aG hn) (am rfl)))
theorem Ml{v n:Nat}(hv:v<W^n)(hn:n≤1000000)(hl:nl v≤4096){e:Int}(he : -1000000≤e∧e≤1000000) :
    ∃ N,dt (au v n) e=some (.r0 (nS (sg false v)) (au (nM (sg false v)) N) 0 (nl (nM (sg false v))) (nE (sg false v) e))∧nl (nM (sg false v))≤N∧N≤4096:=by
  have t5:(mi (au v n)).run=some (.inl (au v (nl v),nl v,false)):=by
    unfold mi
    rw [bz,tQ hv (by omega),if_neg (by omega)]
    exact dC (am rfl)
  by_cases h0:v=0
  · have z:sg false v=0:=jz.2 h0
    rw [z,fL,MS]
    rw [kN,fk]
    refine ⟨0,aY (ac t5 (cS ?_)),Nat.le_refl _,Nat.zero_le _⟩
    rw [h0,fk]
    exact bC rfl
  · have z:sg false v≠0:=fun q=>h0 (jz.1 q)
    have hp:=qk h0
    have ht:=MU (v:=v)
    obtain ⟨b,N,h1,h2,h3⟩:=J0 (k:=tz v) (bU v) (by omega) hl (by omega)
    have eM:nM (sg false v)=v/2^tz v:=by unfold nM;rw [l7]
    have eE:nE (sg false v) e=e+((tz v:Nat):Int):=by rw [gE z,l7]
    rw [QT h0,eM,eE]
    refine ⟨N,aY (ac t5 (ac (a:=((tz v:Nat):Int)) ?_ (ac (a:=(au (v/2^tz v) N,0,nl (v/2^tz v))) ?_ ?_))),h2,h3⟩
    · show (mj _ _).run=_
      unfold mj
      rw [eQ ao,C3 (bU v) h0 hl (by omega)]
      exact cV (gz (am rfl))
    · show (ml _ _ _).run=_
      unfold ml
      rw [eQ ao,h1]
      exact gz (am rfl)
    · exact bS (by rw [bu];omega) rfl
theorem Oc{v n:Nat}(hv:v<W^n)(hn:n≤1000000)(hl:nl v≤4096){e:Int}(he : -262144≤e∧e≤262144) :iG (au v n) e=some (.r0 true):=by
  refine aY (ac (a:=(0,false)) ?_ (ac (a:=true) ?_ rfl))
  · unfold sI
    rw [bz,tQ hv (by omega),if_neg (by omega)]
    exact dC (am rfl)
  · refine bC (eS ?_)
    show some (Sum.inl (decide (e≤262144)))=_
    rw [decide_eq_true he.2]
theorem RC(z:Int) :nM ((z.natAbs:Nat):Int)=nM z:=by unfold nM;rw [Int.natAbs_natCast]
theorem RD(z e:Int) :nE ((z.natAbs:Nat):Int) e=nE z e:=by
  by_cases h:z=0
  · subst h;rfl
  · rw [gE h,gE (by omega),Int.natAbs_natCast]
theorem RE(z:Int) :nS ((z.natAbs:Nat):Int)=false:=by unfold nS;exact decide_eq_false (by omega)
theorem Q0{z e:Int}(h:Sm z e) :Sm ((z.natAbs:Nat):Int) e:=by
  obtain ⟨a,b,c⟩:=h
  exact ⟨by rw [Int.natAbs_natCast];exact a,b,c⟩
theorem Od{z e:Int}(h:Sm z e) :∃ N,fh (au (nM z) (nl (nM z))) (nE z e)=some (.r0 0 (nS ((z.natAbs:Nat):Int)) (au (nM ((z.natAbs:Nat):Int)) N) 0 (nl (nM ((z.natAbs:Nat):Int))) (nE ((z.natAbs:Nat):Int) e))∧nl (nM ((z.natAbs:Nat):Int))≤N∧N≤4096:=by
  have h':=Q0 h
  rw [←RC z,←RD z e]
  have hs:=RE z
  generalize ((z.natAbs:Nat):Int)=a at h' hs ⊢
  have hm:=h'.m
  have hb:=h'.b
  obtain ⟨N,h1,h2,h3⟩:=Ml (bU (nM a)) (by omega) (by omega:nl (nM a)≤4096) (e:=nE a e) (by omega)
  have hsf:a≠0→false=nS a:=fun _=>hs.symm
  obtain ⟨i1,i2,i3⟩:=By (e:=e) hsf
  rw [i1,i2,i3] at h1
  rw [i2] at h2
  obtain ⟨M,d1,d2,d3⟩:=vX (nS a) (v:=nM a) (n:=nl (nM a)) (bU (nM a)) (by omega) (by omega) (e:=nE a e) (by omega)
  obtain ⟨j1,j2,j3⟩:=By (z:=a) (e:=e) (s:=nS a) (fun _=>rfl)
  rw [j1,j2,j3] at d1
  rw [j2] at d2
  have may:=Oc (bU (nM a)) (by omega) (by omega:nl (nM a)≤4096) (e:=nE a e) (by omega)
  have nrm:eB (au (nM a) (nl (nM a))) (nE a e)=some (.r0 0 (nS a) (au (nM a) M) 0 (nl (nM a)) (nE a e)):=by
    refine aY (ac (a:=(0,nS a,au (nM a) N,0,nl (nM a),nE a e,false)) ?_ (ac (a:=(0,nS a,au (nM a) M,0,nl (nM a),nE a e)) ?_ rfl))
    · unfold xn
      rw [bz,may,h1]
      exact (bC (am (dC (am (aJ (dC (am (am (aJ rfl)))))))))
    · show (qZ _ _ _ _ _ _).run=_
      unfold qZ
      rw [bb h2,d1]
      exact (aJ (bS (aG h2) (am rfl)))
  refine ⟨M,aY (ac (a:=(0,nS a,au (nM a) M,0,nl (nM a),nE a e)) ?_ rfl),d2,d3⟩
  unfold zK
  rw [bz,nrm]
  exact (dC (am rfl))
theorem QF{x:Nat}(hx:x<dD) :aC x<dD∧(fin x=true→fin (aC x)=true)∧fz (aC x)=(((fz x).natAbs:Nat):Int):=by
  have hx':x<18446744073709551616:=hx
  rw [iy hx]
  refine ⟨?_,?_,?_⟩
  · show _<18446744073709551616;omega
  · intro h
    unfold fin zY at h ⊢
    rw [bne_iff_ne] at h ⊢
    omega
  · unfold fz
    rw [l7,Nat.mod_mod,show x%9223372036854775808/9223372036854775808=0 by omega]
    rfl
theorem PP{x:Nat}(hx:x<dD)(fx:fin x=true)(h:zO x 0=false) :fz x=0:=by
  unfold zO ke Ieee.Format.order at h
  have f0:fin 0=true:=by decide
  rw [b7 hx fx,b7 (x:=0) (by decide) f0] at h
  rw [bne_eq_false_iff_eq] at h
  simp only [Ieee.Datum.order,Option.some.injEq] at h
  have z:∀ t k,Ieee.signed t (bk (0%9223372036854775808)) k=0:=by
    intro t k
    rw [ii]
    show sg t (bk 0*2^k)=0
    rw [show bk 0=0 from rfl,Nat.zero_mul]
    cases t<;>rfl
  rw [z,Int.compare_eq_eq] at h
  rw [tN hx]
  revert h
  generalize (-1074+((bh (x%9223372036854775808):Nat):Int)-min (-1074+((bh (x%9223372036854775808):Nat):Int)) (-1074+((bh (0%9223372036854775808):Nat):Int))).toNat=k
  rw [ii,ii,jz,jz]
  intro h
  rcases Nat.mul_eq_zero.1 h with q | q
  · rw [q,Nat.zero_mul]
  · exact absurd q (Nat.ne_of_gt (Nat.pow_pos (by decide)))
theorem Q2{x:Nat}(hx:x<dD)(h:x%9223372036854775808≤5057542381537067008) :(fz x).natAbs<2^1175:=by
  unfold fz
  rw [l7]
  refine Pm (b:=1122) (c:=1175) rfl (kM _) ?_
  unfold bh
  omega
def Rg(x:Nat) :Prop:=zO (aC x) 0=false∨(flt (aC x) 4156822456062967808=false∧xF (aC x) 5057542381537067008=false)
def Rh(x:Nat) :Prop:=zO x 0=false∨(flt (aC x) 4156822456062967808=false∧xF (aC x) 5057542381537067008=false)
theorem Q3{x:Nat}(hx:x<dD)(fx:fin x=true)(h:xF (aC x) 5057542381537067008=false) :x%9223372036854775808≤5057542381537067008:=by
  rw [iy hx] at h
  have bd:x%9223372036854775808<9218868437227405312:=by
    unfold fin zY at fx;rw [bne_iff_ne] at fx;omega
  unfold xF at h
  rw [jw bd (by decide),beq_eq_false_iff_ne,ne_eq,Option.some.injEq,Nat.compare_eq_gt] at h
  omega
theorem Rg.le{x:Nat}(hx:x<dD)(fx:fin x=true)(h:Rg x) :(fz x).natAbs<2^1175:=by
  rcases h with h | h
  · obtain ⟨a,b,c⟩:=QF hx
    have:=PP a (b fx) h
    rw [c] at this
    have h0:(fz x).natAbs=0:=by omega
    rw [h0]
    exact fo 1175
  · exact Q2 hx (Q3 hx fx h.2)
theorem Rh.le{x:Nat}(hx:x<dD)(fx:fin x=true)(h:Rh x) :(fz x).natAbs<2^1175:=by
  rcases h with h | h
  · rw [PP hx fx h,Int.natAbs_zero]
    exact fo 1175
  · exact Q2 hx (Q3 hx fx h.2)
theorem PQ(k:Nat)(e:Int) :nS 1=nS ((E2 k:Nat):Int)∧nM 1=nM ((E2 k:Nat):Int)∧nE 1 (e+k)=nE ((E2 k:Nat):Int) e:=by
  have h:=RY 1 k e
  rw [Int.one_mul] at h
  exact h
theorem Q4{a n:Nat}(h:a<64*n) :nl (E2 a)≤n:=fH (by
  have:W^n=2^(64*n):=by rw [Nat.pow_mul]
  rw [this]
  exact Rp h)
theorem Mm:eC (-49)=some (.r0 0 false (au 1 1) 0 (nl 1) (-49)):=by
  have h:=G6 (v:=1) (by decide)
  have h':aI 1=some (.r0 0 (nl 1) 1 (au 1 1)):=h
  refine aY (ac (a:=(false,false)) ?_ (ac (a:=(false,au 1 1,0,nl 1)) ?_ rfl))
  · unfold xq
    exact (bC rfl)
  · show (q7 _).run=_
    unfold q7
    rw [h']
    exact (aJ (am rfl))
theorem QG{S K D:Nat}(h:Ap 9886 S K)(hK:K=562949953421312*D) :((S:Int)-(K:Int)).natAbs≤D:=by
  obtain ⟨a,b⟩:=h
  subst hK
  omega
theorem Q5(x:Nat) :fz x*fz x=((vl x*vl x:Nat):Int):=by
  unfold vl
  rw [Int.natCast_mul,Int.natAbs_mul_self']
theorem R9{x y:Int}(h:x≤y) :decide (sgn x y>0)=false:=by
  rw [decide_eq_false_iff_not]
  unfold sgn
  split
  · omega
  · split<;>omega
theorem PR{b c:Bool}{l k:List Int}{o n r q:Nat}{i j sv:Int}(h1:bg o n l=true)(h2:bg r q k=true)(h:i7 b (aa o n l) i c (aa r q k) j=some (.r0 sv 0)) :(g4 b l o n i 0 c k r q j).run=some (.inl (0,sv)):=by
  unfold g4
  rw [h]
  exact aJ (bS h1 (bS h2 (am rfl)))
theorem Oe{f g:Nat}{p:Int}(hf:f<dD)(hg:g<dD) :fP f g p=some (.r0 true):=by
  have bad:(bY f g p).run=some (.inl true)→fP f g p=some (.r0 true):=fun h=>aY (ac h (cS (bC rfl)))
  have i1:=M5 f
  have i2:=M5 g
  cases h1:Mb f
  · refine bad ?_
    unfold bY
    rw [i1,h1]
    exact (am (bC rfl))
  cases h2:Mb g
  · refine bad ?_
    unfold bY
    rw [i1,i2,h1,h2]
    exact (am (aJ (am (bC rfl))))
  by_cases h3:p < -99
  · refine bad ?_
    unfold bY
    rw [i1,i2,h1,h2]
    exact (am (aJ (am (aJ (zW (decide_eq_true h3) rfl)))))
  by_cases h4:p>99
  · refine bad ?_
    unfold bY
    rw [i1,i2,h1,h2]
    refine (am (aJ (am (aJ (l6 (decide_eq_false h3) ?_)))))
    show some (Sum.inl (decide _))=_
    rw [decide_eq_true h4]
  have t20:(bY f g p).run=some (.inl false):=by
    unfold bY
    rw [i1,i2,h1,h2]
    refine (am (aJ (am (aJ (l6 (decide_eq_false h3) ?_)))))
    show some (Sum.inl (decide _))=_
    rw [decide_eq_false h4]
  have hp : -99≤p∧p≤99:=by omega
  have hp' : -300≤p∧p≤300:=by omega
  have mf:=PD hf h1
  have mg:=PD hg h2
  obtain ⟨c,s,r,G⟩:=Su hf hg mf mg
  have fabs_ok:∀ {x:Nat},x<dD→C6 x→aC x<9223372036854775808∧C6 (aC x):=by
    intro x hx m
    have hx':x<18446744073709551616:=hx
    rw [iy hx]
    refine ⟨by omega,?_⟩
    unfold C6 CW
    rw [Nat.mod_mod]
    exact m
  obtain ⟨ff1,ff2⟩:=fabs_ok hf mf
  obtain ⟨gg1,gg2⟩:=fabs_ok hg mg

  have hH:=C1 f g
  have hH2:=C1 (aP f (tX aQ p)) (aP g (tX aQ p))
  rw [xC hf mf hp',xC hg mg hp',G4 hf mf hp',G4 hg mg hp'] at hH2
  obtain ⟨k1,k2,k3,k4,k5,k6,k7⟩:=PC (p:=p) gg1 ff1 gg2 ff2 hp'
  rw [k1] at hH2
  have hyp2:∃ h,(bif xF (aC g) (aC f) then G9 (aC g) (aC f) else G9 (aC f) (aC g))=h∧(bif xF (aC g) (aC f) then G9 (tY (aC g) p) (tY (aC f) p) else G9 (tY (aC f) p) (tY (aC g) p))=aP h (tX aQ p)∧h<dD∧fin h=true:=by
    cases q:xF (aC g) (aC f)
    · have le:aC g≤aC f:=by
        rcases Nat.lt_or_ge (aC f) (aC g) with w | w
        · rw [k6.2 w] at q;cases q
        · exact w
      obtain ⟨a,b,d⟩:=M6 (p:=p) ff1 gg1 ff2 gg2 le hp'
      exact ⟨_,rfl,a,b,d⟩
    · have le:aC f≤aC g:=Nat.le_of_lt (k6.1 q)
      obtain ⟨a,b,d⟩:=M6 (p:=p) gg1 ff1 gg2 ff2 le hp'
      exact ⟨_,rfl,a,b,d⟩
  obtain ⟨h,e1,e2,hh1,hh2⟩:=hyp2
  rw [e1] at hH
  rw [e2] at hH2
  have hN:=JV f g
  have hN2:=JV (tY f p) (tY g p)
  rw [Qv hf hg mf mg hp'] at hN2
  have hL:=Md hp

  obtain ⟨N1,p1,p2,_⟩:=J3 G.c1 G.c2
  obtain ⟨N2,q1,q2,_⟩:=J3 G.s1 G.s2
  have smc:=QV G.c1 G.c2
  have sms:=QV G.s1 G.s2
  have nc:=Pn G.c1 G.c2
  have ns:=Pn G.s1 G.s2
  obtain ⟨N3,u1,u2,_⟩:=Fi smc smc
  obtain ⟨N4,v1,v2,_⟩:=Fi sms sms
  have e48:(-1074:Int) + -1074 = -2148:=by omega
  rw [e48] at u1 v1
  have hcc:nl (fz c*fz c).natAbs≤66:=MW nc nc
  have hss:nl (fz s*fz s).natAbs≤66:=MW ns ns
  obtain ⟨N5,w1,w2,_⟩:=NZ (x:=fz c*fz c) (y:=fz s*fz s) (e:=-2148) (EC (k:=66) hcc (by omega) (by omega)) (EC (k:=66) hss (by omega) (by omega))
  obtain ⟨N6,x1,x2,_⟩:=J2 (n:=1) (by omega)
  have x1':ax 1=some (.r0 (nS 1) (au (nM 1) N6) 0 (nl (nM 1)) (nE 1 0)):=x1
  have x2':nl (nM 1)≤N6:=x2
  have z1:fz c*fz c+fz s*fz s=((vl c*vl c+vl s*vl s:Nat):Int):=by rw [Q5,Q5];rfl
  have hZ1:nl (fz c*fz c+fz s*fz s).natAbs≤67:=Nat.le_trans (kO (Int.natAbs_add_le _ _)) (F5 hcc hss)
  obtain ⟨o1,o2,o3⟩:=PQ 2148 (-2148)
  rw [show (-2148:Int)+((2148:Nat):Int)=0 by omega] at o3
  have h1N:nl (((E2 2148:Nat):Int)).natAbs≤34:=by rw [Int.natAbs_natCast];exact Q4 (by omega)
  obtain ⟨N7,y1,y2,_⟩:=N0 (x:=fz c*fz c+fz s*fz s) (y:=((E2 2148:Nat):Int)) (e:=-2148) (EC (k:=67) hZ1 (by omega) (by omega)) (EC (k:=34) h1N (by omega) (by omega))
  rw [←o1,←o2,←o3] at y1
  have hZ:nl (fz c*fz c+fz s*fz s-((E2 2148:Nat):Int)).natAbs≤68:=Qb (a:=67) hZ1 (Nat.le_trans h1N (by omega))
  have hsm:Sm (fz c*fz c+fz s*fz s-((E2 2148:Nat):Int)) (-2148):=EC (k:=68) hZ (by omega) (by omega)
  have hD:(fz c*fz c+fz s*fz s-((E2 2148:Nat):Int)).natAbs≤E2 2099:=by
    rw [z1]
    refine QG ?_ (Ei (a:=2099) (b:=49) (c:=2148) (L:=562949953421312) rfl (by decide))
    have:E2 2148=E2 1074*E2 1074:=by rw [←bo]
    rw [this]
    exact G.near
  generalize fz c*fz c+fz s*fz s-((E2 2148:Nat):Int)=Z at y1 y2 hsm hD
  generalize fz c*fz c+fz s*fz s=S at w1 w2 y1
  generalize fz c*fz c=C2 at u1 u2 w1
  generalize fz s*fz s=S2 at v1 v2 w1
  obtain ⟨N8,a1,a2,_⟩:=Od hsm
  obtain ⟨b1,b2,b3⟩:=PQ 2099 (-2148)
  rw [show (-2148:Int)+((2099:Nat):Int) = -49 by omega] at b3
  have h9N:nl (((E2 2099:Nat):Int)).natAbs≤33:=by rw [Int.natAbs_natCast];exact Q4 (by omega)
  have c1:=N9 (Q0 hsm) (EC (z:=((E2 2099:Nat):Int)) (e:=-2148) (k:=33) h9N (by omega) (by omega))
  have cv:=R9 (x:=((Z.natAbs:Nat):Int)) (y:=((E2 2099:Nat):Int)) (by omega)
  rw [←b1,←b2,←b3] at c1
  have n1:nM 1=1∧nl 1=1∧nS 1=false∧nE 1 (-49) = -49:=by
    have t:tz 1=0:=tF (by decide) (by decide)
    have m:nM 1=1:=by
      show 1/2^tz 1=1
      rw [t]
    refine ⟨m,?_,by decide,?_⟩
    · have l1:=fH (v:=1) (n:=1) (by decide)
      have l2:=qk (v:=1) (by decide)
      omega
    · rw [gE (by decide)]
      show -49+((tz 1:Nat):Int) = -49
      rw [t];rfl
  obtain ⟨m1,m2,m3,m4⟩:=n1
  rw [m1,m2,m3,m4] at c1
  have hhf:=Mm
  rw [m2] at hhf
  generalize sgn ((Z.natAbs:Nat):Int) ((E2 2099:Nat):Int)=sv at c1 cv
  have finh:=MV hh1 hh2
  have finr:=MV G.r1 G.r2
  have nnh:=F6 hh1 hh2
  have nnr:=F6 G.r1 G.r2
  refine aY (ac t20 (ac (a:=(c,s,r)) ?_ (ac (a:=h) ?_ (ac (a:=false) ?_ (ac (a:=(0,nS (fz c),au (nM (fz c)) N1,0,nl (nM (fz c)),nE (fz c) (-1074))) ?_ (ac (a:=(0,nS (fz s),au (nM (fz s)) N2,0,nl (nM (fz s)),nE (fz s) (-1074))) ?_ (ac (a:=false) (aJ rfl) (ac (a:=(0,nS C2,au (nM C2) N3,0,nl (nM C2),nE C2 (-2148))) ?_ (ac (a:=(0,nS S2,au (nM S2) N4,0,nl (nM S2),nE S2 (-2148))) ?_ (ac (a:=false) (aJ rfl) (ac (a:=(0,nS S,au (nM S) N5,0,nl (nM S),nE S (-2148))) ?_ (ac (a:=(0,nS Z,au (nM Z) N7,0,nl (nM Z),nE Z (-2148))) ?_ (ac (a:=(0,nS ((Z.natAbs:Nat):Int),au (nM ((Z.natAbs:Nat):Int)) N8,0,nl (nM ((Z.natAbs:Nat):Int)),nE ((Z.natAbs:Nat):Int) (-2148))) ?_ (ac (a:=(0,false,au 1 1,0,1,-49)) ?_ (ac (a:=(0,sv)) ?_ (ac (a:=false) ?_ (ac (a:=tX aQ p) ?_ (ac (a:=true) ?_ rfl))))))))))))))))))
  · unfold lU
    rw [G.eq]
    exact (aJ (am rfl))
  · show (gQ _ _).run=_
    unfold gQ
    rw [hH]
    exact (am rfl)
  · show (gR _ _).run=_
    unfold gR
    rw [finh,finr,nnh,nnr]
    exact (bC (aJ (aJ (bC (aJ rfl)))))
  · show (gS _ _).run=_
    unfold gS
    rw [p1]
    exact (aJ (am rfl))
  · show (gT _).run=_
    unfold gT
    rw [q1]
    exact (am rfl)
  · show (gU _ _ _ _ _ _).run=_
    unfold gU
    rw [bb p2,u1]
    exact (aJ (bS (aG p2) (bS (aG p2) (am rfl))))
  · show (gV _ _ _ _ _).run=_
    unfold gV
    rw [bb q2,v1]
    exact (bS (aG q2) (bS (aG q2) (am rfl)))
  · show (gW _ _ _ _ _ _ _ _ _ _ _).run=_
    unfold gW
    rw [bb u2,bb v2,w1]
    exact (aJ (bS (aG u2) (bS (aG v2) (am rfl))))
  · show (gX _ _ _ _ _ _).run=_
    unfold gX
    rw [x1']
    simp only [iE,cH,b9,cd,cg,cI]
    rw [bb w2,bb x2',y1]
    exact (aJ (am (bS (aG w2) (bS (aG x2') (am rfl)))))
  · show (gY _ _ _ _ _).run=_
    unfold gY
    rw [bb y2,a1]
    exact (aJ (bS (aG y2) (am rfl)))
  · show (gZ _).run=_
    unfold gZ
    rw [hhf]
    exact (aJ (am rfl))
  · refine PR (aG a2) (aG (Nat.le_refl 1)) ?_
    rw [bb a2,bb (Nat.le_refl 1)]
    exact c1
  · refine aJ ?_
    show some (Sum.inl (decide _))=_
    rw [cv]
  · show (g5 _ _).run=_
    unfold g5
    rw [hL]
    exact (aJ (am rfl))
  · show (g6 _ _ _ _).run=_
    have hN':em (aa 0 2 [f,g])=_:=hN
    have hN2':em (aa 0 2 [tY f p,tY g p])=_:=hN2
    unfold g6
    rw [xC hf mf hp',xC hg mg hp',hH2,hN',hN2']
    simp only [fC,fD,gp,gh,KD]
    exact (am (bC (am (am (am (am (bC rfl)))))))
end Go.Plb.Seat
