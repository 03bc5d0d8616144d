/-
  Part 4 of what the claim leans on: an evaluator of the model, proved sound; the contracts of the functions.
-/
import Derived.Test.YtliefadneiaaoaaGreatDoorA3
namespace Go.Plb.Seat
open Go Go.Plb
set_option linter.unusedSimpArgs false
set_option linter.unusedVariables false
def tP(z:Int) :Int:=if z<0 then -1 else if 0<z then 1 else 0
theorem mv(z:Int) :da (nS z) (aH (nM z) (nl (nM z)))=some (.r0 (tP z)):=by
  refine bj ?_
  unfold vI
  rw [ax]
  unfold tP nS
  by_cases h0:z=0
  · subst h0;rw [kv,eG];exact bC rfl
  · have:nl (nM z)≠0:=fun q=>zQ h0 (iY.1 q)
    by_cases h:z<0
    · rw [if_pos h];exact cd (nq (decide_eq_true h) rfl)
    · rw [if_neg h,if_pos (by omega)];exact cd (gW (decide_eq_false h) rfl)
theorem Np{X Y p:Nat}(hp:0<p) :nr X Y=EO ((X:Int)*p) ((Y:Int)*p):=by
  unfold nr EO
  have h:∀ {a b:Nat},a<b↔(a:Int)*p<(b:Int)*p:=fun {a b}=>by
    rw [←Int.natCast_mul,←Int.natCast_mul,Int.ofNat_lt]
    exact ⟨fun q=>Nat.mul_lt_mul_of_pos_right q hp,fun q=>Nat.lt_of_mul_lt_mul_right q⟩
  simp only [h]
theorem Nq{a b:Int} :(0:Int)-EO a b=EO (-a) (-b):=by unfold EO;split<;>split<;>(try split)<;>omega
theorem K9{x y e:Int}(hx:Sm x e)(hy:Sm y e) :
    i0 (nS x) (aH (nM x) (nl (nM x))) (nE x e) (nS y) (aH (nM y) (nl (nM y))) (nE y e)=some (.r0 (EO x y) 0):=by
  obtain ⟨Nx,x1,x2,x3⟩:=v6 (s:=nS x) (fun _=>rfl) hx
  obtain ⟨Ny,y1,y2,y3⟩:=v6 (s:=nS y) (fun _=>rfl) hy
  obtain ⟨m,ep,l1,l2⟩:=Bg hx hy
  have xl:=hx.l
  have yl:=hy.l
  have hX:nl (x.natAbs/2^m)≤300:=Nat.le_trans (md (Nat.div_le_self _ _)) xl
  have hY:nl (y.natAbs/2^m)≤300:=Nat.le_trans (md (Nat.div_le_self _ _)) yl
  have hc:nr (x.natAbs/2^m) (y.natAbs/2^m)=EO (x.natAbs:Int) (y.natAbs:Int):=by
    rw [Np (eZ m),←Int.natCast_mul,←Int.natCast_mul,l2.x2,l2.y2]
  have t8:(rz 0 (aH (x.natAbs/2^m) (nl (x.natAbs/2^m))) (nl (x.natAbs/2^m)) (aH (y.natAbs/2^m) (nl (y.natAbs/2^m))) (nl (y.natAbs/2^m))).run=some (.inl (EO (x.natAbs:Int) (y.natAbs:Int))):=by
    unfold rz
    rw [eF ax,eF ax,Hp (ck _) (ck _) (by omega) (by omega) (by omega) (by omega),←hc]
    exact aJ (gd (gd (aw rfl)))
  have t7:(ry 0 (aH (nM x) Nx) 0 (nl (nM x)) (nE x e) (aH (nM y) Ny) 0 (nl (nM y)) (nE y e)).run=some (.inl (0,ep,aH (x.natAbs/2^m) (nl (x.natAbs/2^m)),nl (x.natAbs/2^m),aH (y.natAbs/2^m) (nl (y.natAbs/2^m)),nl (y.natAbs/2^m))):=by
    unfold ry
    rw [bp x2,bp y2,l1]
    exact aJ (aY (aT x2) (aY (aT y2) (aw rfl)))
  refine bj (ab (a:=(0,nS x,aH (nM x) Nx,0,nl (nM x),nE x e,nS y,aH (nM y) Ny,0,nl (nM y),nE y e)) ?_ (ab t7 (ab t8 ?_)))
  · unfold xQ
    rw [aN,aN,Bf hx,Bf hy,x1,y1]
    exact bC (aw (bx (aw (aJ (bx (aw (aw (bC (aw (bx (aw (aJ (bx (aw (aw (aJ rfl))))))))))))))))
  · have h9:∀ n18,i9 (nS x) (aH (nM x) Nx) 0 (nl (nM x)) (nS y) (aH (nM y) Ny) 0 (nl (nM y)) n18=i9 (nS x) (aH (nM x) Nx) 0 (nl (nM x)) (nS y) (aH (nM y) Ny) 0 (nl (nM y)) n18:=fun _=>rfl
    by_cases hs:tP x=tP y
    · by_cases hn:x<0
      · have e1:nS x=true:=decide_eq_true hn
        have hy0:y<0:=by unfold tP at hs;rw [if_pos hn] at hs;revert hs;split<;>(try split)<;>omega
        have ev:(0:Int)-EO (x.natAbs:Int) (y.natAbs:Int)=EO x y:=by
          rw [Nq];congr 1<;>omega
        refine bS ?_
        unfold i9
        rw [bp x2,bp y2,mv,mv]
        simp only [dH,cC]
        refine aY (aT x2) (aw (aY (aT y2) (aw (gW (by rw [hs,bne_self_eq_false]) (nq e1 (aY ?_ ?_))))))
        · rw [ev,aq];unfold EO;split<;>(try split)<;>omega
        · rw [ev];rfl
      · have e1:nS x=false:=decide_eq_false hn
        have hy0 : ¬ y<0:=by unfold tP at hs;rw [if_neg hn] at hs;revert hs;split<;>(try split)<;>(try split)<;>omega
        have ev:EO (x.natAbs:Int) (y.natAbs:Int)=EO x y:=by congr 1<;>omega
        refine ab (a:=()) ?_ (by rw [ev];rfl)
        unfold i9
        rw [bp x2,bp y2,mv,mv]
        simp only [dH,cC]
        exact aY (aT x2) (aw (aY (aT y2) (aw (gW (by rw [hs,bne_self_eq_false]) (gW e1 rfl)))))
    · have ev:mC (-1) (np 1 (tP x-tP y))=EO x y:=by
        unfold mC np EO;unfold tP at hs ⊢
        revert hs
        repeat' split
        all_goals omega
      refine bS ?_
      unfold i9
      rw [bp x2,bp y2,mv,mv]
      simp only [dH,cC]
      rw [ev]
      refine aY (aT x2) (aw (aY (aT y2) (aw (nq (bne_iff_ne.2 hs) (aY (aT x2) (aw (aY (aT y2) (aw (aY ?_ rfl)))))))))
      rw [aq];unfold tP;split<;>(try split)<;>(try split)<;>(try split)<;>omega
theorem Hs{x e k:Int}(hx:Sm x e)(hk : -30000≤k∧k≤30000) :
    ∃ N,dI (nS x) (aH (nM x) (nl (nM x))) (nE x e) k=some (.r0 0 (nS x) (aH (nM x) N) 0 (nl (nM x)) (nE x (e+k)))∧nl (nM x)≤N∧N≤4096:=by
  obtain ⟨Nx,x1,x2,x3⟩:=v6 (s:=nS x) (fun _=>rfl) hx
  have xm:=hx.m
  have xb:=hx.b
  have t5:(oE (nS x) (aH (nM x) (nl (nM x))) (nE x e)).run=some (.inl (0,nS x,aH (nM x) Nx,0,nl (nM x),nE x e,false)):=by
    unfold oE
    rw [aN,Bf hx,x1]
    exact bC (aw (bx (aw (aJ (bx (aw (aw (aJ rfl))))))))
  by_cases h0:x=0
  · subst h0
    rw [kv,eG] at t5
    rw [kv,eG,gX,yJ]
    refine ⟨0,bj (ab (by rw [gX,yJ] at t5;exact t5) (ab (a:=true) (aJ rfl) (bS (bC rfl)))),Nat.le_refl _,Nat.zero_le _⟩
  · have hl:nl (nM x)≠0:=fun q=>zQ h0 (iY.1 q)
    have ek:mC (-1048576) (np 1048576 k)=k:=by rw [Ki (by omega),Kj (by omega)]
    obtain ⟨N,h1,h2,h3⟩:=uF (nS x) (v:=nM x) (ck _) (by omega) (by omega) (e:=nE x e+k) (by omega)
    obtain ⟨a,b,c⟩:=vm (z:=x) (e:=e) (s:=nS x) (fun _=>rfl)
    have c':nE (sg (nS x) (nM x)) (nE x e+k)=nE x (e+k):=by
      have q:sg (nS x) (nM x)≠0:=fun w=>zQ h0 (nO.1 w)
      rw [fp q,fp h0] at c
      rw [fp q,fp h0,fp h0];omega
    rw [a,b,c'] at h1
    rw [b] at h2
    refine ⟨N,bj (ab t5 (ab (a:=false) (aJ (by show some (Sum.inl _)=_;rw [beq_eq_false_iff_ne.2 (by omega)])) (ab (a:=(0,nS x,aH (nM x) N,0,nl (nM x),nE x (e+k))) ?_ rfl))),h2,h3⟩
    show (oF _ _ _ _ _ _ _ _).run=_
    unfold oF
    rw [bp x2,ek,h1]
    exact aJ (aY (by rw [aq];omega) (aY (aT x2) (aw rfl)))
theorem v8{x:Nat}(hx:x<pC) :cN .and .u64 (Int.fdiv (x:Int) (2^(min (Int.toNat (52:Int)) IntKind.u64.bits))) 2047=((yK x:Nat):Int):=by
  have e:(52:Int)=((52:Nat):Int):=by omega
  have e':(2047:Int)=((2047:Nat):Int):=by omega
  rw [e,sM _ (by decide),e',zN]
  have h1:x/2^52<W:=Nat.lt_of_le_of_lt (Nat.div_le_self _ _) hx
  rw [Nat.mod_eq_of_lt h1,Nat.mod_eq_of_lt (show 2047<W by decide)]
  congr 1
  exact Nat.and_two_pow_sub_one_eq_mod _ 11
theorem sU{x:Nat}(hx:x<pC) :cN .and .u64 (x:Int) 4503599627370495=((x%4503599627370496:Nat):Int):=by
  have e':(4503599627370495:Int)=((4503599627370495:Nat):Int):=by omega
  rw [e',zN,Nat.mod_eq_of_lt hx,Nat.mod_eq_of_lt (show 4503599627370495<W by decide)]
  congr 1
  exact Nat.and_two_pow_sub_one_eq_mod _ 52
theorem La{x:Nat}(hx:x<pC) :Int.fdiv (x:Int) (2^(min (Int.toNat (63:Int)) IntKind.u64.bits))=((x/9223372036854775808:Nat):Int):=by
  have e:(63:Int)=((63:Nat):Int):=by omega
  rw [e,sM _ (by decide)]
theorem ME{y:Nat}(h:y<4503599627370496) :cN .or .u64 (y:Int) 4503599627370496=((y+4503599627370496:Nat):Int):=by
  have e':(4503599627370496:Int)=((4503599627370496:Nat):Int):=by omega
  have hy:y<W:=Nat.lt_trans h (by decide)
  rw [e',DU,Nat.mod_eq_of_lt hy,Nat.mod_eq_of_lt (show 4503599627370496<W by decide)]
  congr 1
  have:=Ig (h:=y) (x:=1) (r:=52) h
  rw [Nat.one_mul] at this
  exact this
def Kk(x:Nat) :Nat:=if yK x≠0 then 3 else if x%4503599627370496≠0 then 2 else 1
theorem Jw{x:Nat}(hx:x<pC)(h:fin x=true) :jw (x:Int)=some (.r0 (Kk x)):=by
  have h':yK x≠2047:=by unfold fin at h;exact bne_iff_ne.1 h
  unfold Kk
  by_cases h1:yK x=0
  · by_cases h2:x%4503599627370496=0
    · rw [if_neg (by omega),if_neg (by omega)]
      refine bj (ab (a:=()) ?_ rfl)
      unfold kC
      rw [v8 hx,sU hx,h1,h2]
      exact aw (aJ (aJ (aJ (aJ rfl))))
    · rw [if_neg (by omega),if_pos h2]
      refine bj (bS ?_)
      unfold kC
      rw [v8 hx,sU hx,h1]
      exact aw (aJ (aJ (aJ (bX rfl))))
  · rw [if_pos h1]
    refine bj (bS ?_)
    unfold kC
    rw [v8 hx,sU hx]
    exact aw (cd (cd (bX rfl)))
def fm(x:Nat) :Nat:=if yK x≠0 then x%4503599627370496+4503599627370496 else x%4503599627370496
def fe(x:Nat) :Int:=if yK x≠0 then -1074+((yK x:Int)-1) else if x%4503599627370496≠0 then -1074 else 0
theorem Lb{z:Nat}(h:z<4096) :IntKind.i64.wrap ((z:Nat):Int)=((z:Nat):Int):=by
  simp only [IntKind.wrap,IntKind.signed,IntKind.bits]
  simp
  omega
theorem Jx(x:Nat) :yK x<2048:=Nat.mod_lt _ (by decide)
theorem Jy{x:Nat}(hx:x<pC)(h:fin x=true) :cJ (x:Int)=some (.r0 0 (x/9223372036854775808==1) ((fm x:Nat):Int) (fe x)):=by
  have hl:=Jx x
  have hs:(((x/9223372036854775808:Nat):Int)==(1:Int))=(x/9223372036854775808==1):=by
    rw [Bool.eq_iff_iff,beq_iff_eq,beq_iff_eq];omega
  refine bj (ab (a:=(Kk x,false,(x/9223372036854775808==1),((x%4503599627370496:Nat):Int))) ?_ ?_)
  · unfold tE
    rw [Jw hx h,sU hx,La hx,hs]
    exact aw (aw rfl)
  · show (oG _ _ _ _).run=_
    unfold oG Kk fm fe
    rw [v8 hx,Lb (by omega),ME (Nat.mod_lt _ (by decide))]
    by_cases h1:yK x=0
    · by_cases h2:x%4503599627370496=0
      · rw [if_neg (by omega),if_neg (by omega),if_neg (by omega),if_neg (by omega),if_neg (by omega)]
        exact aJ (aJ (bC rfl))
      · rw [if_neg (by omega),if_pos h2,if_neg (by omega),if_neg (by omega),if_pos h2]
        exact aJ (bC rfl)
    · rw [if_pos h1,if_pos h1,if_pos h1]
      exact bC (aw (aY (by rw [aq];omega) (aY (by rw [aq];omega) rfl)))
theorem OS(x:Nat) :fm x<W:=by
  have:=Nat.mod_lt x (show 4503599627370496>0 by decide)
  have w:(9007199254740992:Nat)<W:=by decide
  unfold fm;split<;>omega
theorem MF{x:Nat}(hx:x<pC)(h:fin x=true) :nS (sg (x/9223372036854775808==1) (fm x))=nS (fz x)∧nM (sg (x/9223372036854775808==1) (fm x))=nM (fz x)∧nE (sg (x/9223372036854775808==1) (fm x)) (fe x)=nE (fz x) (-1074):=by
  have hx':x<18446744073709551616:=hx
  have hl:=Jx x
  unfold fz fm fe
  have hmod:x%4503599627370496=x%9223372036854775808%4503599627370496:=by omega
  by_cases h1:yK x=0
  · have h3:x%9223372036854775808<4503599627370496:=by unfold yK at h1;omega
    have h4:db (x%9223372036854775808)=0:=by unfold db;omega
    have h5:gg (x%9223372036854775808)=x%4503599627370496:=by unfold gg;rw [if_pos h3];omega
    rw [h4,h5,Nat.pow_zero,Nat.mul_one,if_neg (by omega),if_neg (by omega)]
    by_cases h2:x%4503599627370496=0
    · rw [h2,if_neg (by omega)]
      have z:sg (x/9223372036854775808==1) 0=0:=nO.2 rfl
      rw [z,gX,gX];exact ⟨rfl,rfl,rfl⟩
    · rw [if_pos h2];exact ⟨rfl,rfl,rfl⟩
  · have h3 : ¬ x%9223372036854775808<4503599627370496:=by unfold yK at h1;omega
    have h4:db (x%9223372036854775808)=yK x-1:=by unfold db yK;omega
    have h5:gg (x%9223372036854775808)=x%4503599627370496+4503599627370496:=by unfold gg;rw [if_neg h3];omega
    rw [h4,h5,if_pos h1,if_pos h1]
    obtain ⟨a,b,c⟩:=vl (z:=sg (x/9223372036854775808==1) ((x%4503599627370496+4503599627370496)*2^(yK x-1))) (z':=sg (x/9223372036854775808==1) (x%4503599627370496+4503599627370496)) (m:=yK x-1) DX (-1074)
    refine ⟨a.symm,b.symm,?_⟩
    rw [c];congr 1;omega
theorem Bh{x:Nat}(hx:x<pC)(h:fin x=true) :
    ∃ N,bO x=some (.r0 0 (nS (fz x)) (aH (nM (fz x)) N) 0 (nl (nM (fz x))) (nE (fz x) (-1074)))∧nl (nM (fz x))≤N∧N≤4096:=by
  have hm:=OS x
  have hn:nl (fm x)≤1:=iu (by rw [Nat.pow_one];exact hm)
  have hl:=Jx x
  have he : -1000000≤fe x∧fe x≤1000000:=by unfold fe;split<;>(try split)<;>omega
  obtain ⟨N,h1,h2,h3⟩:=jV (x/9223372036854775808==1) (v:=fm x) (ck _) (by omega) (by omega) he
  obtain ⟨a,b,c⟩:=MF hx h
  rw [a,b,c] at h1
  rw [b] at h2
  refine ⟨N,bj (ab (a:=(0,false,(x/9223372036854775808==1),((fm x:Nat):Int),fe x)) ?_ (ab (a:=(nS (fz x),aH (nM (fz x)) N,0,nl (nM (fz x)),nE (fz x) (-1074))) ?_ rfl)),h2,h3⟩
  · unfold AN
    rw [Jy hx h]
    exact gW (Ka hx h) (OH (aY (by rw [M2 hx h];rfl) (aw rfl)))
  · show (uB _ _ _ _).run=_
    unfold uB
    rw [Nk hm]
    simp only [o5,d9,ee,ef]
    rw [bp hn,h1]
    exact aJ (aw (aY (aT hn) (aw rfl)))
end Go.Plb.Seat
namespace Go.Plb
set_option linter.unusedSimpArgs false
set_option linter.unusedVariables false
set_option linter.unusedSectionVars false
variable [Rom]
theorem Df(s:Bool)(m a b:Nat) :Ieee.signed s m (a+b)=Ieee.signed s m a*((2^b:Nat):Int):=by
  unfold Ieee.signed
  rw [Nat.shiftLeft_eq,Nat.shiftLeft_eq,Nat.pow_add,←Nat.mul_assoc,Int.natCast_mul (m*2^a) (2^b)]
  cases s
  · rfl
  · rw [if_pos rfl,if_pos rfl,Int.neg_mul]
theorem sV(s:Bool)(m a:Nat) :Ieee.signed s m a=sg s (m*2^a):=by
  unfold Ieee.signed sg
  rw [Nat.shiftLeft_eq]
theorem MG{x:Nat}(hx:x<pC) :(x/9223372036854775808%2==1)=(x/9223372036854775808==1):=by
  have hx:x<18446744073709551616:=hx
  have:x/9223372036854775808%2=x/9223372036854775808:=by omega
  rw [this]
theorem Lc{n g:Nat}(hg:0<g)(more:Bool)(h1:more=true→g≤2*(n%g))(h2:more=false→2*(n%g)≤g) :
    2*((n/g+more.toNat)*g)≤2*n+g∧2*n≤2*((n/g+more.toNat)*g)+g:=by
  have e:=Nat.div_add_mod n g
  have l:=Nat.mod_lt n hg
  have e2:(n/g+more.toNat)*g=g*(n/g)+more.toNat*g:=by rw [Nat.add_mul,Nat.mul_comm]
  rw [e2]
  generalize g*(n/g)=a at e
  cases more with
  | true =>
    have:=h1 rfl
    show 2*(a+1*g)≤_∧_≤2*(a+1*g)+g
    omega
  | false =>
    have:=h2 rfl
    show 2*(a+0*g)≤_∧_≤2*(a+0*g)+g
    omega
theorem Ht(neg:Bool)(n drop:Nat) :2*(Ieee.Toward.even.cut neg n drop*2^drop)≤2*n+2^drop∧2*n≤2*(Ieee.Toward.even.cut neg n drop*2^drop)+2^drop:=by
  unfold Ieee.Toward.cut
  simp only [Nat.one_shiftLeft]
  rcases Nat.le_total drop (n.log2+2) with h | h
  · rw [Nat.min_eq_left h]
    have hg:0<2^drop:=Nat.pow_pos (by decide)
    generalize 2^drop=g at hg
    refine Lc hg _ (fun q=>?_) (fun q=>?_)
    · simp only [Bool.or_eq_true,Bool.and_eq_true,decide_eq_true_eq,beq_iff_eq] at q
      omega
    · simp only [Bool.or_eq_false_iff,decide_eq_false_iff_not] at q
      omega
  · rw [Nat.min_eq_right h]
    have hn:2*n<2^(n.log2+2):=by
      have:=Nat.lt_log2_self (n:=n)
      rw [Nat.pow_succ]
      omega
    have hle:2^(n.log2+2)≤2^drop:=Nat.pow_le_pow_right (by decide) h
    generalize 2^(n.log2+2)=g at hn hle
    have e1:n/g=0:=Nat.div_eq_of_lt (by omega)
    have e2:n%g=n:=Nat.mod_eq_of_lt (by omega)
    rw [e1,e2]
    have m:(decide (g<2*n)||(g==2*n&&(0%2==1)))=false:=by
      rw [Bool.or_eq_false_iff]
      exact ⟨decide_eq_false (by omega),by rw [show (0%2==1)=false from rfl,Bool.and_false]⟩
    rw [m]
    show 2*((0+0)*2^drop)≤_∧_≤2*((0+0)*2^drop)+_
    omega
theorem Hu{L k:Nat}(hk:k≤9007199254740992)(h:L=0∨4503599627370496≤k) :gg (L*4503599627370496+k)*2^db (L*4503599627370496+k)=k*2^L:=by
  rcases Nat.eq_or_lt_of_le hk with e | hk
  · subst e
    have e1:gg (L*4503599627370496+9007199254740992)=4503599627370496:=by unfold gg;rw [if_neg (by omega)];omega
    have e2:db (L*4503599627370496+9007199254740992)=L+1:=by unfold db;omega
    rw [e1,e2,Nat.pow_succ,←Nat.mul_assoc,Nat.mul_comm,←Nat.mul_assoc]
  · rcases Nat.lt_or_ge k 4503599627370496 with q | q
    · have hL:L=0:=by omega
      subst hL
      have e1:gg (0*4503599627370496+k)=k:=by unfold gg;rw [if_pos (by omega)];omega
      have e2:db (0*4503599627370496+k)=0:=by unfold db;omega
      rw [e1,e2]
    · have e1:gg (L*4503599627370496+k)=k:=by unfold gg;rw [if_neg (by omega)];omega
      have e2:db (L*4503599627370496+k)=L:=by unfold db;omega
      rw [e1,e2]
structure OT (T M:Nat):Prop where
  up:9007199254740992*M≤9007199254740993*T
  down:9007199254740991*T≤9007199254740992*M
theorem Ld{neg:Bool}{mag:Nat}{place:Int}{P:Nat}(hm:mag≠0)(hp:place = -1074+(P:Int)){B:Nat}(hB:B≤2000)(hb:mag*2^P<2^B) :
    ∃ R,Ieee.double.nearest neg mag place=Ieee.double.word neg R∧R<9218868437227405312∧OT (mag*2^P) (gg R*2^db R):=by
  have e2:Ieee.double.binade=4503599627370496:=by decide
  have e3:Ieee.double.infRung=9218868437227405312:=by decide
  have e4:Ieee.double.leastPlace = -1074:=by decide
  have e5:Ieee.double.fractionBits=52:=rfl
  have hl1:=Nat.log2_self_le hm
  have hl2:=Nat.lt_log2_self (n:=mag)
  have hlog:mag.log2+P<2000:=by
    rcases Nat.lt_or_ge (mag.log2+P) B with q | q
    · omega
    · have h1:2^B≤2^(mag.log2+P):=DY q
      rw [Nat.pow_add] at h1
      have h2:=Nat.mul_le_mul_right (2^P) hl1
      omega
  unfold Ieee.Format.nearest
  rw [if_neg hm]
  simp only [e2,e3,e4,e5]
  subst hp
  generalize hlg:mag.log2=g at *
  by_cases hx:52≤g
  ·
    have hlast:max (-1074+(P:Int)+(g:Int)-52) (-1074) = -1074+((P+(g-52):Nat):Int):=by omega
    have c1:(-1074+(P:Int)-(-1074+((P+(g-52):Nat):Int))).toNat=0:=by omega
    have c2:(-1074+((P+(g-52):Nat):Int)-(-1074+(P:Int))).toNat=g-52:=by omega
    have c3:(-1074+((P+(g-52):Nat):Int) - -1074).toNat=P+(g-52):=by omega
    show ∃ R,Ieee.double.word neg (min ((max (-1074+(P:Int)+(g:Int)-52) (-1074) - -1074).toNat*4503599627370496+Ieee.Toward.even.cut neg (mag <<< (-1074+(P:Int)-max (-1074+(P:Int)+(g:Int)-52) (-1074)).toNat) (max (-1074+(P:Int)+(g:Int)-52) (-1074)-(-1074+(P:Int))).toNat) 9218868437227405312)=_∧_
    rw [hlast,c1,c2,c3,Nat.shiftLeft_zero]
    obtain ⟨k1,k2⟩:=Ht neg mag (g-52)
    generalize hk:Ieee.Toward.even.cut neg mag (g-52)=k at k1 k2
    have hs:2^g=4503599627370496*2^(g-52):=by
      rw [show (4503599627370496:Nat)=2^52 from rfl,←Nat.pow_add];congr 1;omega
    have hs1:2^(g+1)=9007199254740992*2^(g-52):=by rw [Nat.pow_succ,hs];omega
    have hd:0<2^(g-52):=Nat.pow_pos (by decide)
    rw [hs] at hl1
    rw [hs1] at hl2
    have kle:k≤9007199254740992:=by
      rcases Nat.lt_or_ge 9007199254740992 k with q | q
      · have:=Nat.mul_le_mul_right (2^(g-52)) (show 9007199254740993≤k by omega)
        omega
      · exact q
    have kge:4503599627370496≤k:=by
      rcases Nat.lt_or_ge k 4503599627370496 with q | q
      · have:=Nat.mul_le_mul_right (2^(g-52)) (show k≤4503599627370495 by omega)
        omega
      · exact q
    refine ⟨(P+(g-52))*4503599627370496+k,by rw [Nat.min_eq_left (by omega)],by omega,?_⟩
    rw [Hu kle (.inr kge),Nat.add_comm P,Nat.pow_add,←Nat.mul_assoc]
    have hP:0<2^P:=Nat.pow_pos (by decide)
    have u1:9007199254740992*(k*2^(g-52))≤9007199254740993*mag:=by omega
    have u2:9007199254740991*mag≤9007199254740992*(k*2^(g-52)):=by omega
    refine ⟨?_,?_⟩
    · have:=Nat.mul_le_mul_right (2^P) u1
      simpa only [Nat.mul_assoc] using this
    · have:=Nat.mul_le_mul_right (2^P) u2
      simpa only [Nat.mul_assoc] using this
  ·
    obtain ⟨L,Q,hL,hQ⟩:∃ L Q:Nat,max (-1074+(P:Int)+(g:Int)-52) (-1074) = -1074+(L:Int)∧P=L+Q:=by
      refine ⟨P+g-52,P-(P+g-52),by omega,by omega⟩
    have hQ2:Q+g≤52:=by omega
    have hLQ:L=0∨Q+g=52:=by omega
    have c1:(-1074+(P:Int)-(-1074+(L:Int))).toNat=Q:=by omega
    have c2:(-1074+(L:Int)-(-1074+(P:Int))).toNat=0:=by omega
    have c3:(-1074+(L:Int) - -1074).toNat=L:=by omega
    show ∃ R,Ieee.double.word neg (min ((max (-1074+(P:Int)+(g:Int)-52) (-1074) - -1074).toNat*4503599627370496+Ieee.Toward.even.cut neg (mag <<< (-1074+(P:Int)-max (-1074+(P:Int)+(g:Int)-52) (-1074)).toNat) (max (-1074+(P:Int)+(g:Int)-52) (-1074)-(-1074+(P:Int))).toNat) 9218868437227405312)=_∧_
    rw [hL,c1,c2,c3,Nat.shiftLeft_eq]
    obtain ⟨k1,k2⟩:=Ht neg (mag*2^Q) 0
    have hk:Ieee.Toward.even.cut neg (mag*2^Q) 0=mag*2^Q:=by
      rw [Nat.pow_zero] at k1 k2;omega
    rw [hk]
    have hlt:mag*2^Q<2^(g+1+Q):=by
      rw [Nat.pow_add]
      exact Nat.mul_lt_mul_of_pos_right hl2 (Nat.pow_pos (by decide))
    have hle:2^(g+Q)≤mag*2^Q:=by
      rw [Nat.pow_add]
      exact Nat.mul_le_mul_right _ hl1
    have h53:2^(g+1+Q)≤2^53:=DY (by omega)
    have kle:mag*2^Q≤9007199254740992:=Nat.le_trans (Nat.le_of_lt hlt) h53
    have kge:L=0∨4503599627370496≤mag*2^Q:=by
      rcases hLQ with q | q
      · exact .inl q
      · refine .inr (Nat.le_trans ?_ hle)
        have:2^52≤2^(g+Q):=DY (by omega)
        exact this
    refine ⟨L*4503599627370496+mag*2^Q,by rw [Nat.min_eq_left (by omega)],by omega,?_⟩
    rw [Hu kle kge]
    have e:mag*2^P=mag*2^Q*2^L:=by rw [hQ,Nat.mul_assoc,←Nat.pow_add,Nat.add_comm]
    rw [e]
    exact ⟨by omega,by omega⟩
theorem Hv{x:Nat}(h:x%9223372036854775808<9218868437227405312) :fin x=true:=by
  unfold fin yK
  rw [bne_iff_ne]
  omega
theorem Kl{neg:Bool}{R:Nat}(hR:R<9218868437227405312) :Ieee.double.word neg R<pC∧fin (Ieee.double.word neg R)=true∧fz (Ieee.double.word neg R)=sg neg (gg R*2^db R):=by
  have e1:Ieee.double.signWeight=9223372036854775808:=by decide
  unfold Ieee.Format.word
  rw [e1]
  cases neg
  · have h1:R/9223372036854775808=0:=by omega
    have h2:R%9223372036854775808=R:=by omega
    refine ⟨?_,?_,?_⟩
    · show R<18446744073709551616;omega
    · refine Hv ?_
      show R%9223372036854775808<_
      omega
    · show fz R=_
      unfold fz
      rw [h1,h2];rfl
  · have h1:(9223372036854775808+R)/9223372036854775808=1:=by omega
    have h2:(9223372036854775808+R)%9223372036854775808=R:=by omega
    refine ⟨?_,?_,?_⟩
    · show 9223372036854775808+R<18446744073709551616;omega
    · refine Hv ?_
      show (9223372036854775808+R)%9223372036854775808<_
      omega
    · show fz (9223372036854775808+R)=_
      unfold fz
      rw [h1,h2];rfl
structure Oo (D:Int) (r:Nat):Prop where
  lt:r<pC
  fin:fin r=true
  near:9007199254740992*(fz r-D).natAbs≤D.natAbs
theorem MH{T M:Nat}(h:OT T M)(s:Bool) :9007199254740992*(sg s M-sg s T).natAbs≤(sg s T).natAbs:=by
  have h1:=h.up
  have h2:=h.down
  rw [pB]
  have e:(sg s M-sg s T).natAbs=((M:Int)-(T:Int)).natAbs:=by cases s<;>simp only [sg]<;>simp<;>omega
  rw [e]
  omega
theorem Dg{neg:Bool}{mag:Nat}{place:Int}{P B:Nat}(hp:place = -1074+(P:Int))(hB:B≤2000)(hb:mag*2^P<2^B) :Oo (sg neg (mag*2^P)) (Ieee.double.write (.number neg mag place)):=by
  by_cases hm:mag=0
  · subst hm
    have e:Ieee.double.write (.number neg 0 place)=Ieee.double.word neg 0:=by
      show Ieee.double.nearest neg 0 place=_
      unfold Ieee.Format.nearest
      rw [if_pos rfl]
    obtain ⟨a,b,c⟩:=Kl (neg:=neg) (R:=0) (by decide)
    have z:gg 0*2^db 0=0:=by rw [show gg 0=0 from rfl,Nat.zero_mul]
    rw [e]
    refine ⟨a,b,?_⟩
    rw [c,z,Nat.zero_mul]
    cases neg<;>simp [sg]
  · obtain ⟨R,r1,r2,r3⟩:=Ld (neg:=neg) hm hp hB hb
    obtain ⟨a,b,c⟩:=Kl (neg:=neg) r2
    have e:Ieee.double.write (.number neg mag place)=Ieee.double.word neg R:=r1
    rw [e]
    exact ⟨a,b,by rw [c];exact MH r3 neg⟩
theorem Jz(s:Bool)(m k:Nat) :Ieee.signed (!s) m k = -Ieee.signed s m k:=by
  have:=zR s m k
  omega
theorem Nr{s t:Bool}{m n i j B:Nat}(hB:B≤2000)(hb:(Ieee.signed s m i+Ieee.signed t n j).natAbs<2^B) :
    ∃ d,Ieee.Datum.sum (.number s m (-1074+(i:Int))) (.number t n (-1074+(j:Int)))=some d∧Oo (Ieee.signed s m i+Ieee.signed t n j) (Ieee.double.write d):=by
  have e0:min (-1074+(i:Int)) (-1074+(j:Int)) = -1074+((min i j:Nat):Int):=by omega
  have e1:((-1074+(i:Int))-(-1074+((min i j:Nat):Int))).toNat=i-min i j:=by omega
  have e2:((-1074+(j:Int))-(-1074+((min i j:Nat):Int))).toNat=j-min i j:=by omega
  have h1:Ieee.signed s m i=Ieee.signed s m (i-min i j)*((2^(min i j):Nat):Int):=by rw [←Df];congr 1;omega
  have h2:Ieee.signed t n j=Ieee.signed t n (j-min i j)*((2^(min i j):Nat):Int):=by rw [←Df];congr 1;omega
  refine ⟨_,rfl,?_⟩
  show Oo _ (Ieee.double.write (.number (if Ieee.signed s m ((-1074+(i:Int))-min (-1074+(i:Int)) (-1074+(j:Int))).toNat+Ieee.signed t n ((-1074+(j:Int))-min (-1074+(i:Int)) (-1074+(j:Int))).toNat=0 then s&&t else decide (Ieee.signed s m ((-1074+(i:Int))-min (-1074+(i:Int)) (-1074+(j:Int))).toNat+Ieee.signed t n ((-1074+(j:Int))-min (-1074+(i:Int)) (-1074+(j:Int))).toNat<0)) (Ieee.signed s m ((-1074+(i:Int))-min (-1074+(i:Int)) (-1074+(j:Int))).toNat+Ieee.signed t n ((-1074+(j:Int))-min (-1074+(i:Int)) (-1074+(j:Int))).toNat).natAbs (min (-1074+(i:Int)) (-1074+(j:Int)))))
  rw [e0,e1,e2]
  rw [h1,h2,←Int.add_mul] at hb ⊢
  generalize Ieee.signed s m (i-min i j)+Ieee.signed t n (j-min i j)=D at hb ⊢
  generalize min i j=P at hb ⊢
  have ha:(D*((2^P:Nat):Int)).natAbs=D.natAbs*2^P:=by rw [Int.natAbs_mul,Int.natAbs_natCast]
  rw [ha] at hb
  by_cases h0:D=0
  · subst h0
    rw [if_pos rfl,Int.zero_mul]
    have h:=Dg (neg:=s&&t) (mag:=0) (place:=-1074+(P:Int)) (P:=P) rfl hB (by rw [Nat.zero_mul];exact Nat.pow_pos (by decide))
    rw [Nat.zero_mul] at h
    have z:sg (s&&t) 0=0:=by cases (s&&t)<;>rfl
    rw [z] at h
    exact h
  · rw [if_neg h0]
    have h:=Dg (neg:=decide (D<0)) (mag:=D.natAbs) (place:=-1074+(P:Int)) (P:=P) rfl hB hb
    have e:sg (decide (D<0)) (D.natAbs*2^P)=D*((2^P:Nat):Int):=by
      rw [DX]
      have:=DW D
      unfold nS at this
      rw [this]
    rw [e] at h
    exact h
theorem wX{x:Nat}(hx:x<pC) :fz x=Ieee.signed (x/9223372036854775808%2==1) (gg (x%9223372036854775808)) (db (x%9223372036854775808)):=by
  unfold fz
  rw [sV,MG hx]
theorem MI{x y B:Nat}(hx:x<pC)(hy:y<pC)(fx:fin x=true)(fy:fin y=true)(hB:B≤2000)(hb:(fz x-fz y).natAbs<2^B) :Oo (fz x-fz y) (sW x y):=by
  rw [wX hx,wX hy,Int.sub_eq_add_neg,←Jz] at hb ⊢
  obtain ⟨d,h1,h2⟩:=Nr hB hb
  unfold sW Ieee.Format.sub
  rw [mP hx fx,mP hy fy]
  show Oo _ (Option.getD (Option.map _ (Ieee.Datum.sum _ (.number _ _ _))) _)
  rw [h1]
  exact h2
end Go.Plb
namespace Go.Plb.Seat
open Go Go.Plb
set_option linter.unusedSimpArgs false
set_option linter.unusedVariables false
theorem JA{v n:Nat}(hv:v<W^n)(hn:n≤1000000)(hl:nl v≤4096){e:Int}(he : -1000000≤e∧e≤1000000) :
    ∃ N,di (aH v n) e=some (.r0 (nS (sg false v)) (aH (nM (sg false v)) N) 0 (nl (nM (sg false v))) (nE (sg false v) e))∧nl (nM (sg false v))≤N∧N≤4096:=by
  have t5:(lZ (aH v n)).run=some (.inl (aH v (nl v),nl v,false)):=by
    unfold lZ
    rw [aN,sS hv (by omega),if_neg (by omega)]
    exact bx (aw rfl)
  by_cases h0:v=0
  · have z:sg false v=0:=nO.2 h0
    rw [z,gX,yJ]
    rw [kv,eG]
    refine ⟨0,bj (ab t5 (bS ?_)),Nat.le_refl _,Nat.zero_le _⟩
    rw [h0,eG]
    exact bC rfl
  · have z:sg false v≠0:=fun q=>h0 (nO.1 q)
    have hp:=qU h0
    have ht:=J9 (v:=v)
    obtain ⟨b,N,h1,h2,h3⟩:=Hq (k:=tz v) (ck v) (by omega) hl (by omega)
    have eM:nM (sg false v)=v/2^tz v:=by unfold nM;rw [pB]
    have eE:nE (sg false v) e=e+((tz v:Nat):Int):=by rw [fp z,pB]
    rw [NH h0,eM,eE]
    refine ⟨N,bj (ab t5 (ab (a:=((tz v:Nat):Int)) ?_ (ab (a:=(aH (v/2^tz v) N,0,nl (v/2^tz v))) ?_ ?_))),h2,h3⟩
    · show (l4 _ _).run=_
      unfold l4
      rw [eF ax,Be (ck v) h0 hl (by omega)]
      exact cd (gd (aw rfl))
    · show (l5 _ _ _).run=_
      unfold l5
      rw [eF ax,h1]
      exact gd (aw rfl)
    · exact aY (by rw [aq];omega) rfl
theorem Le{v n:Nat}(hv:v<W^n)(hn:n≤1000000)(hl:nl v≤4096){e:Int}(he : -262144≤e∧e≤262144) :iD (aH v n) e=some (.r0 true):=by
  refine bj (ab (a:=(0,false)) ?_ (ab (a:=true) ?_ rfl))
  · unfold rF
    rw [aN,sS hv (by omega),if_neg (by omega)]
    exact bx (aw rfl)
  · refine bC (bX ?_)
    show some (Sum.inl (decide (e≤262144)))=_
    rw [decide_eq_true he.2]
theorem Oq(z:Int) :nM ((z.natAbs:Nat):Int)=nM z:=by unfold nM;rw [Int.natAbs_natCast]
theorem Ot(z e:Int) :nE ((z.natAbs:Nat):Int) e=nE z e:=by
  by_cases h:z=0
  · subst h;rfl
  · rw [fp h,fp (by omega),Int.natAbs_natCast]
theorem Ou(z:Int) :nS ((z.natAbs:Nat):Int)=false:=by unfold nS;exact decide_eq_false (by omega)
theorem NL{z e:Int}(h:Sm z e) :Sm ((z.natAbs:Nat):Int) e:=by
  obtain ⟨a,b,c⟩:=h
  exact ⟨by rw [Int.natAbs_natCast];exact a,b,c⟩
theorem Dh{z e:Int}(h:Sm z e) :∃ N,cG (aH (nM z) (nl (nM z))) (nE z e)=some (.r0 0 (nS ((z.natAbs:Nat):Int)) (aH (nM ((z.natAbs:Nat):Int)) N) 0 (nl (nM ((z.natAbs:Nat):Int))) (nE ((z.natAbs:Nat):Int) e))∧nl (nM ((z.natAbs:Nat):Int))≤N∧N≤4096:=by
  have h':=NL h
  rw [←Oq z,←Ot z e]
  have hs:=Ou z
  generalize ((z.natAbs:Nat):Int)=a at h' hs ⊢
  have hm:=h'.m
  have hb:=h'.b
  obtain ⟨N,h1,h2,h3⟩:=JA (ck (nM a)) (by omega) (by omega:nl (nM a)≤4096) (e:=nE a e) (by omega)
  have hsf:a≠0→false=nS a:=fun _=>hs.symm
  obtain ⟨i1,i2,i3⟩:=vm (e:=e) hsf
  rw [i1,i2,i3] at h1
  rw [i2] at h2
  obtain ⟨M,d1,d2,d3⟩:=uF (nS a) (v:=nM a) (n:=nl (nM a)) (ck (nM a)) (by omega) (by omega) (e:=nE a e) (by omega)
  obtain ⟨j1,j2,j3⟩:=vm (z:=a) (e:=e) (s:=nS a) (fun _=>rfl)
  rw [j1,j2,j3] at d1
  rw [j2] at d2
  have may:=Le (ck (nM a)) (by omega) (by omega:nl (nM a)≤4096) (e:=nE a e) (by omega)
  have nrm:ej (aH (nM a) (nl (nM a))) (nE a e)=some (.r0 0 (nS a) (aH (nM a) M) 0 (nl (nM a)) (nE a e)):=by
    refine bj (ab (a:=(0,nS a,aH (nM a) N,0,nl (nM a),nE a e,false)) ?_ (ab (a:=(0,nS a,aH (nM a) M,0,nl (nM a),nE a e)) ?_ rfl))
    · unfold v5
      rw [aN,may,h1]
      exact (bC (aw (bx (aw (aJ (bx (aw (aw (aJ rfl)))))))))
    · show (qg _ _ _ _ _ _).run=_
      unfold qg
      rw [bp h2,d1]
      exact (aJ (aY (aT h2) (aw rfl)))
  refine ⟨M,bj (ab (a:=(0,nS a,aH (nM a) M,0,nl (nM a),nE a e)) ?_ rfl),d2,d3⟩
  unfold xY
  rw [aN,nrm]
  exact (bx (aw rfl))
theorem EN{x:Nat}(hx:x<pC) :cr x<pC∧(fin x=true→fin (cr x)=true)∧fz (cr x)=(((fz x).natAbs:Nat):Int):=by
  have hx':x<18446744073709551616:=hx
  rw [vn hx]
  refine ⟨?_,?_,?_⟩
  · show _<18446744073709551616;omega
  · intro h
    unfold fin yK at h ⊢
    rw [bne_iff_ne] at h ⊢
    omega
  · unfold fz
    rw [pB,Nat.mod_mod,show x%9223372036854775808/9223372036854775808=0 by omega]
    rfl
theorem JB{x:Nat}(hx:x<pC)(fx:fin x=true)(h:oP x 0=false) :fz x=0:=by
  unfold oP jU Ieee.Format.order at h
  have f0:fin 0=true:=by decide
  rw [mP hx fx,mP (x:=0) (by decide) f0] at h
  rw [bne_eq_false_iff_eq] at h
  simp only [Ieee.Datum.order,Option.some.injEq] at h
  have z:∀ t k,Ieee.signed t (gg (0%9223372036854775808)) k=0:=by
    intro t k
    rw [sV]
    show sg t (gg 0*2^k)=0
    rw [show gg 0=0 from rfl,Nat.zero_mul]
    cases t<;>rfl
  rw [z,Int.compare_eq_eq] at h
  rw [wX hx]
  revert h
  generalize (-1074+((db (x%9223372036854775808):Nat):Int)-min (-1074+((db (x%9223372036854775808):Nat):Int)) (-1074+((db (0%9223372036854775808):Nat):Int))).toNat=k
  rw [sV,sV,nO,nO]
  intro h
  rcases Nat.mul_eq_zero.1 h with q | q
  · rw [q,Nat.zero_mul]
  · exact absurd q (Nat.ne_of_gt (Nat.pow_pos (by decide)))
theorem NM{x:Nat}(hx:x<pC)(h:x%9223372036854775808≤5057542381537067008) :(fz x).natAbs<2^1175:=by
  unfold fz
  rw [pB]
  refine Mo (b:=1122) (c:=1175) rfl (DT _) ?_
  unfold db
  omega
def Rg(x:Nat) :Prop:=oP (cr x) 0=false∨(flt (cr x) 4156822456062967808=false∧ES (cr x) 5057542381537067008=false)
def Rh(x:Nat) :Prop:=oP x 0=false∨(flt (cr x) 4156822456062967808=false∧ES (cr x) 5057542381537067008=false)
theorem NN{x:Nat}(hx:x<pC)(fx:fin x=true)(h:ES (cr x) 5057542381537067008=false) :x%9223372036854775808≤5057542381537067008:=by
  rw [vn hx] at h
  have bd:x%9223372036854775808<9218868437227405312:=by
    unfold fin yK at fx;rw [bne_iff_ne] at fx;omega
  unfold ES at h
  rw [FO bd (by decide),beq_eq_false_iff_ne,ne_eq,Option.some.injEq,Nat.compare_eq_gt] at h
  omega
theorem Rg.le{x:Nat}(hx:x<pC)(fx:fin x=true)(h:Rg x) :(fz x).natAbs<2^1175:=by
  rcases h with h | h
  · obtain ⟨a,b,c⟩:=EN hx
    have:=JB a (b fx) h
    rw [c] at this
    have h0:(fz x).natAbs=0:=by omega
    rw [h0]
    exact eZ 1175
  · exact NM hx (NN hx fx h.2)
theorem Rh.le{x:Nat}(hx:x<pC)(fx:fin x=true)(h:Rh x) :(fz x).natAbs<2^1175:=by
  rcases h with h | h
  · rw [JB hx fx h,Int.natAbs_zero]
    exact eZ 1175
  · exact NM hx (NN hx fx h.2)
instance (x:Nat):Decidable (Rg x):=inferInstanceAs (Decidable (_∨(_∧_)))
instance (x:Nat):Decidable (Rh x):=inferInstanceAs (Decidable (_∨(_∧_)))
def Re(D E:List Nat)(i:Nat) :Prop:=Rg (D.getD i 0)∧(i<D.length-1→Rh (E.getD i 0))
instance (D E:List Nat):DecidablePred (Re D E):=fun i=>inferInstanceAs (Decidable (_∧(_→_)))
theorem Km{D E:List Nat}{i:Nat}(h12:D.length≤12)(hE:E.length=D.length-1)(hi:i<D.length)(h:Re D E i) :dN D E i=some (.inl (i+1)):=by
  refine ab (a:=()) ?_ (ae rfl)
  unfold gH
  obtain ⟨h1,h2⟩:=h
  by_cases q:i<D.length-1
  · have h2:=h2 q
    cases d1:oP (cr (D.getD i 0)) 0
    · cases e1:oP (E.getD i 0) 0
      · exact (bX (ae (ae (aJ (ae (bX (ae (ae (aJ rfl)))))))))
      · rcases h2 with z | ⟨e2,e3⟩
        · rw [e1] at z;cases z
        · rw [e2,e3]
          exact (bX (ae (ae (aJ (ae (bX (ae (ae (bC (ae (ae (aJ (ae (ae (aJ rfl)))))))))))))))
    · rcases h1 with z | ⟨d2,d3⟩
      · rw [d1] at z;cases z
      · rw [d2,d3]
        cases e1:oP (E.getD i 0) 0
        · exact (bX (ae (ae (bC (aJ (aJ (ae (bX (ae (ae (aJ rfl)))))))))))
        · rcases h2 with z | ⟨e2,e3⟩
          · rw [e1] at z;cases z
          · rw [e2,e3]
            exact (bX (ae (ae (bC (aJ (aJ (ae (bX (ae (ae (bC (ae (ae (aJ (ae (ae (aJ rfl)))))))))))))))))
  · cases d1:oP (cr (D.getD i 0)) 0
    · exact (bX (ae (ae (aJ (ae (cd rfl))))))
    · rcases h1 with z | ⟨d2,d3⟩
      · rw [d1] at z;cases z
      · rw [d2,d3]
        exact (bX (ae (ae (bC (aJ (aJ (ae (cd rfl))))))))
theorem Ov{D E:List Nat}{i:Nat}(h12:D.length≤12)(hE:E.length=D.length-1)(hi:i<D.length)(h : ¬ Re D E i) :dN D E i=some (.inr (.inr (.r0 true))):=by
  refine bS ?_
  unfold gH
  cases d1:oP (cr (D.getD i 0)) 0
  · have g:Rg (D.getD i 0):=.inl d1
    have q:i<D.length-1:=by
      rcases Nat.lt_or_ge i (D.length-1) with q | q
      · exact q
      · exact absurd ⟨g,fun z=>absurd z (by omega)⟩ h
    cases e1:oP (E.getD i 0) 0
    · exact absurd ⟨g,fun _=>.inl e1⟩ h
    · cases e2:flt (cr (E.getD i 0)) 4156822456062967808
      · cases e3:ES (cr (E.getD i 0)) 5057542381537067008
        · exact absurd ⟨g,fun _=>.inr ⟨e2,e3⟩⟩ h
        · exact (bX (ae (ae (aJ (ae (bX (ae (ae (bC (ae (ae (aJ (ae (ae (bC rfl)))))))))))))))
      · exact (bX (ae (ae (aJ (ae (bX (ae (ae (bC (ae (ae (bC rfl))))))))))))
  · cases d2:flt (cr (D.getD i 0)) 4156822456062967808
    · cases d3:ES (cr (D.getD i 0)) 5057542381537067008
      · have g:Rg (D.getD i 0):=.inr ⟨d2,d3⟩
        have q:i<D.length-1:=by
          rcases Nat.lt_or_ge i (D.length-1) with q | q
          · exact q
          · exact absurd ⟨g,fun z=>absurd z (by omega)⟩ h
        cases e1:oP (E.getD i 0) 0
        · exact absurd ⟨g,fun _=>.inl e1⟩ h
        · cases e2:flt (cr (E.getD i 0)) 4156822456062967808
          · cases e3:ES (cr (E.getD i 0)) 5057542381537067008
            · exact absurd ⟨g,fun _=>.inr ⟨e2,e3⟩⟩ h
            · exact (bX (ae (ae (bC (aJ (aJ (ae (bX (ae (ae (bC (ae (ae (aJ (ae (ae (bC rfl)))))))))))))))))
          · exact (bX (ae (ae (bC (aJ (aJ (ae (bX (ae (ae (bC (ae (ae (bC rfl))))))))))))))
      · exact (bX (ae (ae (bC (aJ (bC rfl))))))
    · exact (bX (ae (ae (bC (bC rfl)))))
theorem Ns{a b:Int}{B:Nat}(ha:a.natAbs<2^B)(hb:b.natAbs<2^B) :(a-b).natAbs<2^(B+1):=by
  rw [Nat.pow_succ]
  generalize (2:Nat)^B=p at ha hb ⊢
  omega
theorem MJ{D:List Nat}{r m i:Nat}(wD:Wd D)(hr:r<pC)(fD:fin (D.getD i 0)=true)(fr:fin r=true)(bD:(fz (D.getD i 0)).natAbs<2^1175)(br:(fz r).natAbs<2^1175)(hi:i=m-1∨i=m) :
    Oo (fz (D.getD i 0)-fz (cr r)) (v9 D r m i):=by
  obtain ⟨a,b,c⟩:=EN hr
  cases h:oP r 0
  · rw [Js h,c,JB hr fr h]
    show Oo (fz (D.getD i 0)-((0:Nat):Int)) _
    rw [show fz (D.getD i 0)-((0:Nat):Int)=fz (D.getD i 0) by omega]
    refine ⟨wD i,fD,?_⟩
    rw [Int.sub_self]
    exact Nat.zero_le _
  · rw [Jr h hi]
    refine MI (wD i) a fD (b fr) (B:=1175+1) (by omega) (Ns (B:=1175) bD ?_)
    rw [c,Int.natAbs_natCast]
    exact br
theorem MK{D:List Nat}{r m i:Nat}(h12:D.length≤12)(hm:m≤D.length)(hi:i<D.length) :
    (gJ (bF (v9 D r m) m) m (bF (fun k=>v9 D r m (m+k)) (D.length-m)) (D.length-m) (m:Int) i).run=some (.inl (v9 D r m i)):=by
  unfold gJ
  by_cases h:i<m
  · rw [mO h]
    simp only [cT]
    exact (bX (ae (ae rfl)))
  · have e:Int.toNat (((i:Nat):Int)-(m:Int))=i-m:=by omega
    rw [e,mO (show i-m<D.length-m by omega)]
    simp only [cT]
    rw [show m+(i-m)=i by omega]
    exact (cd (ae (ae (ae rfl))))
theorem ML{D:List Nat}{r m i:Nat}(h12:D.length≤12)(hm:m≤D.length)(hm1:1≤m)(hi:i<D.length)(h : ¬ (i=m-1∨i=m)) :
    dP D r (bF (v9 D r m) m) m (bF (fun k=>v9 D r m (m+k)) (D.length-m)) (D.length-m) (m:Int) i=some (.inl (i+1)):=by
  refine ab (a:=()) (bX rfl) (ab (a:=()) (KP (ab (MK h12 hm hi) (ab (a:=true) ?_ (bS ?_)))) (ae rfl))
  · refine ae (nq (by rw [bne_iff_ne];omega) ?_)
    show some (Sum.inl (_ != _))=_
    rw [bne_iff_ne.2 (by omega)]
  · show (dO _ _ _ _).run=_
    unfold dO
    rw [EM h,H8]
    exact (bC (ae (ae (aJ rfl))))
theorem Nt{b c:Bool}{l k:List Int}{n q:Nat}{i j sv:Int}(h1:bg 0 n l=true)(h2:bg 0 q k=true)(h:i0 b (aa 0 n l) i c (aa 0 q k) j=some (.r0 sv 0)) :(gR b l 0 n i c k 0 q j).run=some (.inl (0,sv)):=by
  unfold gR
  rw [h]
  exact aY h1 (aY h2 (aw rfl))
theorem Nu{D:List Nat}{r m i:Nat}(wD:Wd D)(h12:D.length≤12)(hm:m≤D.length)(hm1:1≤m)(hi:i<D.length)(hr:r<pC)(fD:fin (D.getD i 0)=true)(fr:fin r=true)(bD:(fz (D.getD i 0)).natAbs<2^1175)(br:(fz r).natAbs<2^1175)(h:i=m-1∨i=m) :
    dP D r (bF (v9 D r m) m) m (bF (fun k=>v9 D r m (m+k)) (D.length-m)) (D.length-m) (m:Int) i=some (.inl (i+1)):=by
  have rn:=MJ wD hr fD fr bD br h
  obtain ⟨ra,rb,rc⟩:=EN hr
  have xs:=MK (r:=r) h12 hm hi
  generalize v9 D r m i=x at rn xs
  obtain ⟨N1,p1,p2,_⟩:=Bh rn.lt rn.fin
  obtain ⟨N2,q1,q2,_⟩:=Bh (wD i) fD
  obtain ⟨N3,s1,s2,_⟩:=Bh ra (rb fr)
  have smx:=Mp rn.lt rn.fin
  have smd:=Mp (wD i) fD
  have smr:=Mp ra (rb fr)
  obtain ⟨N4,u1,u2,_⟩:=De smd smr
  have hQ:Sm (fz (D.getD i 0)-fz (cr r)) (-1074):=Kc (k:=34) (DZ (a:=33) (CJ (wD i) fD) (CJ ra (rb fr))) (by omega) (by omega)
  have near:=rn.near
  have nlQ:nl (fz (D.getD i 0)-fz (cr r)).natAbs≤34:=DZ (a:=33) (CJ (wD i) fD) (CJ ra (rb fr))
  generalize fz (D.getD i 0)-fz (cr r)=Q at *
  obtain ⟨N5,v1,v2,_⟩:=De smx hQ
  have nlT:nl (fz x-Q).natAbs≤35:=DZ (a:=34) (Nat.le_trans (CJ rn.lt rn.fin) (by omega)) nlQ
  have hT:Sm (fz x-Q) (-1074):=Kc (k:=35) nlT (by omega) (by omega)
  generalize hZ:fz x-Q=Z at *
  obtain ⟨N6,w1,w2,_⟩:=Dh hT
  obtain ⟨N7,y1,y2,_⟩:=Dh hQ
  obtain ⟨N8,z1,z2,_⟩:=Hs (k:=-52) (NL hQ) (by omega)
  obtain ⟨k1,k2,k3⟩:=OL ((Z.natAbs:Nat):Int) 52 (-1126)
  have hZ':Sm (((Z.natAbs:Nat):Int)*((2^52:Nat):Int)) (-1126):=by
    refine Kc (k:=36) ?_ (by omega) (by omega)
    exact M5 (a:=35) (b:=1) (by rw [Int.natAbs_natCast];exact nlT) (by rw [Int.natAbs_natCast];exact iu (by decide))
  have hQ':Sm ((Q.natAbs:Nat):Int) (-1126):=Kc (k:=34) (by rw [Int.natAbs_natCast];exact nlQ) (by omega) (by omega)
  have c1:=K9 hZ' hQ'
  have cv:decide (EO (((Z.natAbs:Nat):Int)*((2^52:Nat):Int)) ((Q.natAbs:Nat):Int)>0)=false:=by
    rw [decide_eq_false_iff_not]
    have e52:((2^52:Nat):Int)=4503599627370496:=rfl
    rw [e52]
    unfold EO
    split
    · omega
    · split<;>omega
  rw [←k1,←k2,←k3,show (-1126:Int)+((52:Nat):Int) = -1074 by omega] at c1
  rw [show (-1074:Int) + -52 = -1126 by omega] at z1
  generalize EO (((Z.natAbs:Nat):Int)*((2^52:Nat):Int)) ((Q.natAbs:Nat):Int)=sv at c1 cv
  refine ab (a:=()) (bX rfl) (ab (a:=()) (L6 (ab xs (ab (a:=false) ?_ (ab (a:=(0,nS (fz x),aH (nM (fz x)) N1,0,nl (nM (fz x)),nE (fz x) (-1074))) ?_ (ab (a:=(0,nS (fz (D.getD i 0)),aH (nM (fz (D.getD i 0))) N2,0,nl (nM (fz (D.getD i 0))),nE (fz (D.getD i 0)) (-1074))) ?_ (ab (a:=(0,nS (fz (cr r)),aH (nM (fz (cr r))) N3,0,nl (nM (fz (cr r))),nE (fz (cr r)) (-1074))) ?_ (ab (a:=false) (aJ (aJ rfl)) (ab (a:=(0,nS Q,aH (nM Q) N4,0,nl (nM Q),nE Q (-1074))) ?_ (ab (a:=(0,nS Z,aH (nM Z) N5,0,nl (nM Z),nE Z (-1074))) ?_ (ab (a:=(0,nS ((Z.natAbs:Nat):Int),aH (nM ((Z.natAbs:Nat):Int)) N6,0,nl (nM ((Z.natAbs:Nat):Int)),nE ((Z.natAbs:Nat):Int) (-1074))) ?_ (ab (a:=(0,nS ((Q.natAbs:Nat):Int),aH (nM ((Q.natAbs:Nat):Int)) N7,0,nl (nM ((Q.natAbs:Nat):Int)),nE ((Q.natAbs:Nat):Int) (-1074))) ?_ (ab (a:=false) (aJ rfl) (ab (a:=(0,nS ((Q.natAbs:Nat):Int),aH (nM ((Q.natAbs:Nat):Int)) N8,0,nl (nM ((Q.natAbs:Nat):Int)),nE ((Q.natAbs:Nat):Int) (-1126))) ?_ (ab (a:=(0,sv)) ?_ (ab (a:=false) ?_ rfl))))))))))))))) (ae rfl))
  · refine ae ?_
    by_cases q:i=m-1
    · exact gW (by rw [bne_eq_false_iff_eq];omega) rfl
    · refine nq (by rw [bne_iff_ne];omega) ?_
      show some (Sum.inl (_ != _))=_
      rw [bne_eq_false_iff_eq.2 (by omega)]
  · show (dO _ _ _ _).run=_
    unfold dO
    rw [p1]
    exact (aJ (aw rfl))
  · show (gK _ _).run=_
    unfold gK
    rw [q1]
    exact (ae (ae (aw rfl)))
  · show (gL _).run=_
    unfold gL
    rw [s1]
    exact (aw rfl)
  · show (gM _ _ _ _ _ _ _ _ _ _ _).run=_
    unfold gM
    rw [bp q2,bp s2,u1]
    exact (aJ (aY (aT q2) (aY (aT s2) (aw rfl))))
  · show (gN _ _ _ _ _ _ _ _ _ _ _).run=_
    unfold gN
    rw [bp p2,bp u2,v1]
    exact (aJ (aY (aT p2) (aY (aT u2) (aw rfl))))
  · show (gO _ _ _ _ _).run=_
    unfold gO
    rw [bp v2,w1]
    exact (aJ (aY (aT v2) (aw rfl)))
  · show (gP _ _ _ _).run=_
    unfold gP
    rw [bp u2,y1]
    exact (aY (aT u2) (aw rfl))
  · show (gQ _ _ _ _ _ _).run=_
    unfold gQ
    rw [bp y2,z1]
    exact (aJ (aY (aT y2) (aw rfl)))
  · refine Nt (aT w2) (aT z2) ?_
    rw [bp w2,bp z2]
    exact c1
  · refine aJ (aJ ?_)
    show some (Sum.inl (decide _))=_
    rw [cv]
theorem MM(D E:List Nat) :ja D E=some (.r0 (Hw D E)):=by
  by_cases h:D.length≤1000000
  · exact K4 h
  · have:Hw D E=false:=decide_eq_false fun q=>h (by omega)
    rw [this]
    refine bj (ab (a:=false) ?_ rfl)
    exact gW (by rw [decide_eq_false_iff_not];omega) rfl
theorem Lf{D E:List Nat}(wD:Wd D)(wE:Wd E) :fw D E=some (.r0 true):=by
  have bad:∀ {b:Bool},b=true→(bL D E).run=some (.inl b)→fw D E=some (.r0 true):=by
    intro b hb h
    subst hb
    exact bj (ab h (bS (bC rfl)))
  have rm:=MM D E
  cases h1:Hw D E
  · refine bad (b:=true) rfl ?_
    unfold bL
    rw [aN,aN,rm,h1]
    exact (bx (bx (aw (bC rfl))))
  obtain ⟨o1,o2⟩:=of_decide_eq_true h1
  have b1:D.length≤1000000:=by omega
  have b2:E.length≤1000000:=by omega
  have fD:=Dd wD (by omega)
  have fE:=Dd wE (by omega)
  by_cases h2:D.length<3
  · refine bad (b:=true) rfl ?_
    unfold bL
    rw [aN,aN,rm,h1]
    exact (bx (bx (aw (aJ (bX rfl)))))
  by_cases h3:D.length>12
  · refine bad (b:=true) rfl ?_
    unfold bL
    rw [aN,aN,rm,h1]
    exact (bx (bx (aw (aJ (cd (bX rfl))))))
  cases f1:qu D
  · refine bad (b:=true) rfl ?_
    unfold bL
    rw [aN,aN,rm,h1,fD,f1]
    exact (bx (bx (aw (aJ (cd (cd (bx (aw (aJ rfl)))))))))
  cases f2:qu E
  · refine bad (b:=true) rfl ?_
    unfold bL
    rw [aN,aN,rm,h1,fD,fE,f1,f2]
    exact (bx (bx (aw (aJ (cd (cd (bx (aw (bC (bx (aw rfl)))))))))))
  have t51:(bL D E).run=some (.inl false):=by
    unfold bL
    rw [aN,aN,rm,h1,fD,fE,f1,f2]
    exact (bx (bx (aw (aJ (cd (cd (bx (aw (bC (bx (aw rfl)))))))))))
  have ta:=Ni wD wE b1 b2 h1 (by omega) (by rw [f1,f2];rfl)
  have FD:=sR.1 f1
  have FE:=sR.1 f2
  have ed:Int.tdiv ((D.length:Nat):Int) (2:Int)=((D.length/2:Nat):Int):=rfl
  obtain ⟨m,hm⟩:∃ m,m=D.length/2:=⟨_,rfl⟩
  have hm1:1≤m:=by omega
  have hm2:m<D.length:=by omega
  rw [←hm] at ta ed
  have hr:E.getD (m-1) 0<pC:=wE _
  have fr:fin (E.getD (m-1) 0)=true:=FE _ (by omega)
  refine bj (ab t51 (ab (a:=(E.getD (m-1) 0,0,bF (v9 D (E.getD (m-1) 0) m) m,m,bF (fun i=>E.getD i 0) (m-1),m-1,bF (fun i=>v9 D (E.getD (m-1) 0) m (m+i)) (D.length-m),D.length-m,bF (fun i=>E.getD (m+i) 0) (D.length-1-m),D.length-1-m)) ?_ (ab (a:=((m:Int),false)) ?_ (ab (a:=()) rfl ?_))))
  · show (gF _ _ _).run=_
    unfold gF
    rw [aN,aN,ta]
    exact (aJ (bx (bx (aw rfl))))
  · show (gG _ _ _ _ _ _).run=_
    unfold gG
    have last:(((D.length-1-m:Nat):Int) != ((D.length:Nat):Int)-(m:Int)-1)=false:=by rw [bne_eq_false_iff_eq];omega
    simp only [ed,last]
    exact (aw (ae (aJ (gW (by rw [bne_self_eq_false]) (ae (gW (by rw [bne_eq_false_iff_eq];omega) (ae (gW (by rw [bne_eq_false_iff_eq];omega) (ae (ae rfl))))))))))
  by_cases hs:∀ i,i<D.length→Re D E i
  case neg =>
    obtain ⟨k,hk,hb,hg⟩:=oX hs
    exact bS (dL (fun i=>i) k rfl (fun j hj=>Km (by omega) o2 (by omega) (hg j hj)) (Ov (by omega) o2 hk hb))
  have br:(fz (E.getD (m-1) 0)).natAbs<2^1175:=((hs (m-1) (by omega)).2 (by omega)).le hr fr
  refine ab (a:=()) (dL (fun i=>i) D.length rfl (fun j hj=>Km (by omega) o2 hj (hs j hj)) (bS (cd rfl))) (ab (a:=()) rfl (ab (a:=()) (dL (fun i=>i) D.length rfl (fun i hi=>?_) (bS (cd rfl))) rfl))
  by_cases q:i=m-1∨i=m
  · exact Nu wD (by omega) (by omega) hm1 hi hr (FD i hi) fr ((hs i hi).1.le (wD i) (FD i hi)) br q
  · exact ML (by omega) (by omega) hm1 hi q
end Go.Plb.Seat
