/-
  Part 5 of what the claim leans on: an evaluator of the model, proved sound; the contracts of the functions.
-/
import Derived.Test.YtcfhbjfbfmlkiaaGreatDoorA4
namespace Go.Plb.Seat
open Go Go.Plb
set_option linter.unusedSimpArgs false
set_option linter.unusedVariables false
theorem qa(s:Bool){v n:Nat}(hv:v<W^n)(hn:n≤1000000)(hl:nl v≤4096){e:Int}(he : -1000000≤e∧e≤1000000) :
    ∃ N,ao s (bj v n) e=some (.r0 (nS (sg s v)) (bj (nM (sg s v)) N) 0 (nl (nM (sg s v))) (nE (sg s v) e))∧nl (nM (sg s v))≤N∧N≤4096:=by
  have t5:(yM (bj v n)).run=some (.inl (bj v (nl v),nl v,false)):=by
    unfold yM
    rw [ca,Rb hv (by omega),if_neg (by omega)]
    exact dt (ay rfl)
  by_cases h0:v=0
  · have z:sg s v=0:=F9.2 h0
    rw [z,kU,af4]
    rw [sP,kS]
    refine ⟨0,bk (ae t5 (bU ?_)),Nat.le_refl _,Nat.zero_le _⟩
    rw [h0,kS]
    exact cF rfl
  · have z:sg s v≠0:=fun q=>h0 (F9.1 q)
    have hp:=EC h0
    have ht:=aeM (v:=v)
    obtain ⟨b,N,h1,h2,h3⟩:=afs (k:=tz v) (iP v) (by omega) hl (by omega)
    have eM:nM (sg s v)=v/2^tz v:=by unfold nM;rw [Sr]
    have eE:nE (sg s v) e=e+((tz v:Nat):Int):=by rw [qg z,Sr]
    rw [ahZ h0,eM,eE]
    refine ⟨N,bk (ae t5 (ae (a:=((tz v:Nat):Int)) ?_ (ae (a:=(bj (v/2^tz v) N,0,nl (v/2^tz v))) ?_ ?_))),h2,h3⟩
    · show (yN _ _).run=_
      unfold yN
      rw [je aM,aaz (iP v) h0 hl (by omega)]
      exact dh (J1 (ay rfl))
    · show (yO _ _ _).run=_
      unfold yO
      rw [je aM,h1]
      exact J1 (ay rfl)
    · exact bn (by rw [cw];omega) rfl
theorem XA{v n:Nat}(hv:v<W^n)(hn:n≤1000000)(hl:nl v≤4096){e:Int}(he : -262144≤e∧e≤262144) :da (bj v n) e=some (.r0 true):=by
  refine bk (ae (a:=0) ?_ (ae (a:=true) ?_ rfl))
  · unfold JK
    rw [ca,Rb hv (by omega),if_neg (by omega)]
    exact dt (ay rfl)
  · refine cF (dd ?_)
    show some (Sum.inl (decide (e≤262144)))=_
    rw [decide_eq_true he.2]
theorem K6{z e:Int}{s:Bool}(hs:z≠0→s=nS z)(h:Sm z e) :∃ N,ao s (bj (nM z) (nl (nM z))) (nE z e)=some (.r0 (nS z) (bj (nM z) N) 0 (nl (nM z)) (nE z e))∧nl (nM z)≤N∧N≤4096:=by
  have hm:=h.m
  have hb:=h.b
  obtain ⟨N,h1,h2,h3⟩:=qa s (iP (nM z)) (by omega) (by omega:nl (nM z)≤4096) (e:=nE z e) (by omega)
  obtain ⟨a,b,c⟩:=aeL (e:=e) hs
  rw [a,b,c] at h1
  rw [b] at h2
  exact ⟨N,h1,h2,h3⟩
theorem TI{z e:Int}(h:Sm z e) :da (bj (nM z) (nl (nM z))) (nE z e)=some (.r0 true):=by
  have hm:=h.m
  have hb:=h.b
  exact XA (iP (nM z)) (by omega) (by omega) (by omega)
theorem aaD(s:Bool){v n:Nat}(hv:v<W^n)(hn:n≤1000000)(hl:nl v≤1000){e:Int}(he : -150000≤e∧e≤150000) :
    ∃ N,bQ s (bj v n) e=some (.r0 0 (nS (sg s v)) (bj (nM (sg s v)) N) 0 (nl (nM (sg s v))) (nE (sg s v) e))∧nl (nM (sg s v))≤N∧N≤4096:=by
  obtain ⟨N,h1,h2,h3⟩:=qa s hv hn (by omega) (e:=e) (by omega)
  have ht:=aeM (v:=v)
  have hE' : -262144≤nE (sg s v) e∧nE (sg s v) e≤262144:=by
    unfold nE;rw [Sr];split<;>omega
  obtain ⟨hE',hE⟩:=hE'
  refine ⟨N,bk (ae (a:=(nS (sg s v),bj (nM (sg s v)) N,0,nl (nM (sg s v)),nE (sg s v) e,false)) ?_ (ae (a:=false) ?_ rfl)),h2,h3⟩
  · unfold Gq
    rw [ca,h1]
    exact dt (ay rfl)
  · show (yQ _ _ _ _).run=_
    unfold yQ
    rw [dE h2,XA (iP _) (by omega) (by omega) ⟨hE',hE⟩]
    exact bn (cv h2) (ay rfl)
theorem G0{z:Int}{m:Nat}(h:m≤tz z.natAbs) :nM z*2^(tz z.natAbs-m)=z.natAbs/2^m∧z.natAbs/2^m*2^m=z.natAbs:=by
  have b:=abr z
  have e:tz z.natAbs=(tz z.natAbs-m)+m:=by omega
  have d:z.natAbs/2^m*2^m=z.natAbs:=by
    refine Nat.div_mul_cancel ⟨nM z*2^(tz z.natAbs-m),?_⟩
    rw [e,Nat.pow_add,←Nat.mul_assoc] at b
    rw [Nat.mul_comm (2^m)];exact b.symm
  refine ⟨?_,d⟩
  rw [e,Nat.pow_add,←Nat.mul_assoc] at b
  exact (Nat.div_eq_of_eq_mul_left (kT m) b.symm).symm
theorem CB{z e:Int}{m:Nat}(h:Sm z e)(h0:z≠0)(hm:m≤tz z.natAbs){k:Int}(hk:k=((tz z.natAbs-m:Nat):Int)) :
    fV (bj (nM z) (nl (nM z))) k=some (.r0 (bj (z.natAbs/2^m) (nl (z.natAbs/2^m))) (nl (z.natAbs/2^m)) 0):=by
  obtain ⟨e1,e2⟩:=G0 hm
  have ht:=h.t
  have hM:=h.m
  have hN:nl (z.natAbs/2^m)≤300:=Nat.le_trans (K4 (Nat.div_le_self _ _)) h.l
  rw [hk,afp (iP _) (Vi h0) (by omega) (by omega) (by omega) (by rw [e1];omega),e1]
theorem agl{a b:Int}(h:a≤b) :vB a b=a:=by unfold vB;rw [if_neg (by omega)]
theorem agm{a b:Int}(h:b≤a) :vB a b=b:=by
  unfold vB
  by_cases q:b<a
  · rw [if_pos q]
  · rw [if_neg q];omega
theorem agn{a b:Int}(h:a≤b) :wG a b=b:=by
  unfold wG
  by_cases q:b>a
  · rw [if_pos q]
  · rw [if_neg q];omega
theorem ago{a b:Int}(h:b≤a) :wG a b=a:=by unfold wG;rw [if_neg (by omega)]
structure Lvl (x y e:Int) (m:Nat) (ep:Int):Prop where
  x2:x.natAbs/2^m*2^m=x.natAbs
  y2:y.natAbs/2^m*2^m=y.natAbs
  at':(x=0∧y=0∧ep=0)∨ep=e+m
  b : -50000≤ep∧ep≤94800
theorem Lvl.sum{x y e ep:Int}{m:Nat}(h:Lvl x y e m ep){z z':Int}(hz:z=z'*((2^m:Nat):Int))(h0:x=0→y=0→z'=0) :nS z=nS z'∧nM z=nM z'∧nE z e=nE z' ep:=by
  obtain ⟨a,b,c⟩:=Bf hz e
  refine ⟨a,b,?_⟩
  rcases h.at' with ⟨h1,h2,h3⟩ | h1
  · have:=h0 h1 h2
    subst this
    rw [Int.zero_mul] at hz
    rw [hz,kU,kU]
  · rw [c,h1]
theorem aaE{x y e:Int}(hx:Sm x e)(hy:Sm y e) :∃ m ep,cK (bj (nM x) (nl (nM x))) (nE x e) (bj (nM y) (nl (nM y))) (nE y e) =
    some (.r0 0 ep (bj (x.natAbs/2^m) (nl (x.natAbs/2^m))) (nl (x.natAbs/2^m)) (bj (y.natAbs/2^m) (nl (y.natAbs/2^m))) (nl (y.natAbs/2^m)))∧Lvl x y e m ep:=by
  have hxt:=hx.t
  have hyt:=hy.t
  obtain ⟨_,e1,e2⟩:=hx
  have zn:∀ m,((0:Int).natAbs/2^m)=0:=fun m=>by rw [Int.natAbs_zero,Nat.zero_div]
  by_cases h1:x=0
  · subst h1
    have l0:nl (nM 0)=0:=by rw [sP,kS]
    by_cases h2:y=0
    · subst h2
      refine ⟨0,0,bk (ae (a:=0) ?_ (ae (a:=([],0,[],0)) ?_ ?_)),⟨by simp,by simp,.inl ⟨rfl,rfl,rfl⟩,by omega⟩⟩
      · unfold mN;rw [aM,l0,kU];exact cF rfl
      · unfold il;rw [aM,l0];exact cF (cF rfl)
      · rw [zn,kS];rfl
    · have ly:nl (nM y)≠0:=fun q=>Vi h2 (qf.1 q)
      obtain ⟨_,d⟩:=G0 (z:=y) (Nat.le_refl _)
      refine ⟨tz y.natAbs,nE y e,bk (ae (a:=nE y e) ?_ (ae (a:=([],0,bj (y.natAbs/2^tz y.natAbs) (nl (y.natAbs/2^tz y.natAbs)),nl (y.natAbs/2^tz y.natAbs))) ?_ ?_)),⟨by simp,d,.inr (qg h2),by rw [qg h2];omega⟩⟩
      · unfold mN;rw [aM,l0];exact cF rfl
      · show (il _ _ _ _ _).run=_
        unfold il
        rw [aM,aM,l0,je aM,CB hy h2 (Nat.le_refl _) (k:=nE y e-nE y e) (by omega)]
        exact cF (dh (bn (by rw [cw];omega) (J1 (ay rfl))))
      · rw [zn,kS];rfl
  · have lx:nl (nM x)≠0:=fun q=>Vi h1 (qf.1 q)
    by_cases h2:y=0
    · subst h2
      have l0:nl (nM 0)=0:=by rw [sP,kS]
      obtain ⟨_,d⟩:=G0 (z:=x) (Nat.le_refl _)
      have hx:Sm x e:=⟨by assumption,e1,e2⟩
      refine ⟨tz x.natAbs,nE x e,bk (ae (a:=nE x e) ?_ (ae (a:=(bj (x.natAbs/2^tz x.natAbs) (nl (x.natAbs/2^tz x.natAbs)),nl (x.natAbs/2^tz x.natAbs),[],0)) ?_ ?_)),⟨d,by simp,.inr (qg h1),by rw [qg h1];omega⟩⟩
      · unfold mN;rw [aM,aM,l0];exact dh (cF rfl)
      · show (il _ _ _ _ _).run=_
        unfold il
        rw [aM,aM,l0,je (l:=bj (nM x) (nl (nM x))) aM,CB hx h1 (Nat.le_refl _) (k:=nE x e-nE x e) (by omega)]
        exact dh (bn (by rw [cw];omega) (J1 (ay (cF rfl))))
      · rw [zn,kS];rfl
    · have ly:nl (nM y)≠0:=fun q=>Vi h2 (qf.1 q)
      have hx:Sm x e:=⟨by assumption,e1,e2⟩
      have ex:=qg (e:=e) h1
      have ey:=qg (e:=e) h2
      have emin:vB (nE x e) (nE y e)=e+((min (tz x.natAbs) (tz y.natAbs):Nat):Int):=by
        rw [ex,ey]
        rcases Nat.le_total (tz x.natAbs) (tz y.natAbs) with q | q
        · rw [agl (by omega),Nat.min_eq_left q]
        · rw [agm (by omega),Nat.min_eq_right q]
      have emax:wG (nE x e) (nE y e)=e+((max (tz x.natAbs) (tz y.natAbs):Nat):Int):=by
        rw [ex,ey]
        rcases Nat.le_total (tz x.natAbs) (tz y.natAbs) with q | q
        · rw [agn (by omega),Nat.max_eq_right q]
        · rw [ago (by omega),Nat.max_eq_left q]
      have mx:min (tz x.natAbs) (tz y.natAbs)≤tz x.natAbs:=Nat.min_le_left _ _
      have my:min (tz x.natAbs) (tz y.natAbs)≤tz y.natAbs:=Nat.min_le_right _ _
      have gx:max (tz x.natAbs) (tz y.natAbs)≤44800:=by omega
      have gl:min (tz x.natAbs) (tz y.natAbs)≤max (tz x.natAbs) (tz y.natAbs):=by omega
      revert emin emax mx my gx gl
      generalize min (tz x.natAbs) (tz y.natAbs)=m
      generalize max (tz x.natAbs) (tz y.natAbs)=g
      intro emin emax mx my gx gl
      obtain ⟨_,dx⟩:=G0 mx
      obtain ⟨_,dy⟩:=G0 my
      refine ⟨m,e+m,bk (ae (a:=e+(m:Int)) ?_ (ae (a:=(bj (x.natAbs/2^m) (nl (x.natAbs/2^m)),nl (x.natAbs/2^m),bj (y.natAbs/2^m) (nl (y.natAbs/2^m)),nl (y.natAbs/2^m))) ?_ rfl)),⟨dx,dy,.inr rfl,by omega⟩⟩
      · unfold mN
        rw [aM,aM,emin,emax]
        exact dh (dh (bn (by rw [cw];omega) (iW (by rw [decide_eq_false_iff_not];omega) rfl)))
      · show (il _ _ _ _ _).run=_
        unfold il
        rw [aM,aM,je (l:=bj (nM x) (nl (nM x))) aM,je (l:=bj (nM y) (nl (nM y))) aM,CB hx h1 mx (k:=nE x e-(e+(m:Int))) (by omega),CB hy h2 my (k:=nE y e-(e+(m:Int))) (by omega)]
        exact dh (bn (by rw [cw];omega) (J1 (ay (dh (bn (by rw [cw];omega) (J1 (ay rfl)))))))
theorem adj{x y e f:Int}(hx:Sm x e)(hy:Sm y f) :
    ∃ N,jK (nS x) (bj (nM x) (nl (nM x))) (nE x e) (nS y) (bj (nM y) (nl (nM y))) (nE y f)=some (.r0 0 (nS (x*y)) (bj (nM (x*y)) N) 0 (nl (nM (x*y))) (nE (x*y) (e+f)))∧nl (nM (x*y))≤N∧N≤4096:=by
  obtain ⟨Nx,x1,x2,x3⟩:=K6 (s:=nS x) (fun _=>rfl) hx
  obtain ⟨Ny,y1,y2,y3⟩:=K6 (s:=nS y) (fun _=>rfl) hy
  have xm:=hx.m
  have ym:=hy.m
  have xb:=hx.b
  have yb:=hy.b
  have hm:=YK (a:=nM x) (b:=nM y)
  obtain ⟨N,h1,h2,h3⟩:=aaD (nS x != nS y) (v:=nM x*nM y) (iP _) (by omega) (by omega) (e:=nE x e+nE y f) (by omega)
  have key:nS (x*y)=nS (sg (nS x != nS y) (nM x*nM y))∧nM (x*y)=nM (sg (nS x != nS y) (nM x*nM y))∧nE (x*y) (e+f)=nE (sg (nS x != nS y) (nM x*nM y)) (nE x e+nE y f):=by
    have hz:x*y=sg (nS x != nS y) (nM x*nM y)*((2^(tz x.natAbs+tz y.natAbs):Nat):Int):=by
      have a:=Ss x
      have b:=Ss y
      rw [←acM,Nat.pow_add,Int.natCast_mul]
      conv=>lhs;rw [←a,←b]
      simp only [Int.mul_assoc,Int.mul_comm,Int.mul_left_comm]
    obtain ⟨a,b,c⟩:=Bf hz (e+f)
    refine ⟨a,b,?_⟩
    rw [c]
    by_cases p:x=0
    · subst p;rw [sP,Nat.zero_mul]
      have:sg (nS 0 != nS y) 0=0:=F9.2 rfl
      rw [this,kU,kU]
    · by_cases q:y=0
      · subst q;rw [sP,Nat.mul_zero]
        have:sg (nS x != nS 0) 0=0:=F9.2 rfl
        rw [this,kU,kU]
      · rw [qg p,qg q];congr 1;omega
  obtain ⟨a,b,c⟩:=key
  rw [a,b,c]
  refine ⟨N,bk (ae (a:=(0,nS x,bj (nM x) Nx,0,nl (nM x),nE x e,nS y,bj (nM y) Ny,0,nl (nM y),nE y f,false)) ?_ (ae (a:=(bj (nM x*nM y) (nl (nM x)+nl (nM y)),0,nl (nM x*nM y),0)) ?_ (ae (a:=(0,nS (sg (nS x != nS y) (nM x*nM y)),bj (nM (sg (nS x != nS y) (nM x*nM y))) N,0,nl (nM (sg (nS x != nS y) (nM x*nM y))),nE (sg (nS x != nS y) (nM x*nM y)) (nE x e+nE y f))) ?_ rfl))),h2,h3⟩
  · unfold JO
    rw [ca,ca,TI hx,TI hy,x1,y1]
    exact cF (ay (dt (ay (bx (dt (ay (ay (cF (ay (dt (ay (bx (dt (ay (ay (bx rfl))))))))))))))))
  · show (BC _ _ _ _ _ _ _).run=_
    unfold BC
    rw [dE x2,dE y2,afl (iP (nM x)) (iP (nM y)) (by omega) (by omega) (by omega)]
    have e1:nl (nM x)=nl (nM x):=rfl
    exact bx (bn (cv x2) (bn (cv y2) (ay rfl)))
  · show (BD _ _ _ _ _ _ _ _).run=_
    unfold BD
    rw [dE hm]
    have h1':bQ (!(nS x==nS y)) (bj (nM x*nM y) (nl (nM x*nM y))) (nE x e+nE y f)=_:=h1
    rw [h1']
    exact bx (bn (by rw [cw];omega) (bn (cv hm) (ay rfl)))
def DY(z:Int) :Int:=if z<0 then -1 else if 0<z then 1 else 0
theorem tk(z:Int) :eU (nS z) (bj (nM z) (nl (nM z)))=some (.r0 (DY z)):=by
  refine bk ?_
  unfold Gu
  rw [aM]
  unfold DY nS
  by_cases h0:z=0
  · subst h0;rw [sP,kS];exact cF rfl
  · have:nl (nM z)≠0:=fun q=>Vi h0 (qf.1 q)
    by_cases h:z<0
    · rw [if_pos h];exact dh (vR (decide_eq_true h) rfl)
    · rw [if_neg h,if_pos (by omega)];exact dh (iW (decide_eq_false h) rfl)
theorem agp{X Y p:Nat}(hp:0<p) :CO X Y=TR ((X:Int)*p) ((Y:Int)*p):=by
  unfold CO TR
  have h:∀ {a b:Nat},a<b↔(a:Int)*p<(b:Int)*p:=fun {a b}=>by
    rw [←Int.natCast_mul,←Int.natCast_mul,Int.ofNat_lt]
    exact ⟨fun q=>Nat.mul_lt_mul_of_pos_right q hp,fun q=>Nat.lt_of_mul_lt_mul_right q⟩
  simp only [h]
theorem agq{a b:Int} :(0:Int)-TR a b=TR (-a) (-b):=by unfold TR;split<;>split<;>(try split)<;>omega
theorem adk{x y e:Int}(hx:Sm x e)(hy:Sm y e) :
    tV (nS x) (bj (nM x) (nl (nM x))) (nE x e) (nS y) (bj (nM y) (nl (nM y))) (nE y e)=some (.r0 (TR x y) 0):=by
  obtain ⟨Nx,x1,x2,x3⟩:=K6 (s:=nS x) (fun _=>rfl) hx
  obtain ⟨Ny,y1,y2,y3⟩:=K6 (s:=nS y) (fun _=>rfl) hy
  obtain ⟨m,ep,l1,l2⟩:=aaE hx hy
  have xl:=hx.l
  have yl:=hy.l
  have hX:nl (x.natAbs/2^m)≤300:=Nat.le_trans (K4 (Nat.div_le_self _ _)) xl
  have hY:nl (y.natAbs/2^m)≤300:=Nat.le_trans (K4 (Nat.div_le_self _ _)) yl
  have hc:CO (x.natAbs/2^m) (y.natAbs/2^m)=TR (x.natAbs:Int) (y.natAbs:Int):=by
    rw [agp (kT m),←Int.natCast_mul,←Int.natCast_mul,l2.x2,l2.y2]
  have t8:(BG 0 (bj (x.natAbs/2^m) (nl (x.natAbs/2^m))) (nl (x.natAbs/2^m)) (bj (y.natAbs/2^m) (nl (y.natAbs/2^m))) (nl (y.natAbs/2^m))).run=some (.inl (TR (x.natAbs:Int) (y.natAbs:Int))):=by
    unfold BG
    rw [je aM,je aM,afj (iP _) (iP _) (by omega) (by omega) (by omega) (by omega),←hc]
    exact bx (J1 (J1 (ay rfl)))
  have t7:(BF 0 (bj (nM x) Nx) 0 (nl (nM x)) (nE x e) (bj (nM y) Ny) 0 (nl (nM y)) (nE y e)).run=some (.inl (0,ep,bj (x.natAbs/2^m) (nl (x.natAbs/2^m)),nl (x.natAbs/2^m),bj (y.natAbs/2^m) (nl (y.natAbs/2^m)),nl (y.natAbs/2^m))):=by
    unfold BF
    rw [dE x2,dE y2,l1]
    exact bx (bn (cv x2) (bn (cv y2) (ay rfl)))
  refine bk (ae (a:=(0,nS x,bj (nM x) Nx,0,nl (nM x),nE x e,nS y,bj (nM y) Ny,0,nl (nM y),nE y e)) ?_ (ae t7 (ae t8 ?_)))
  · unfold JR
    rw [ca,ca,TI hx,TI hy,x1,y1]
    exact cF (ay (dt (ay (bx (dt (ay (ay (cF (ay (dt (ay (bx (dt (ay (ay (bx rfl))))))))))))))))
  · have h9:∀ n18,og (nS x) (bj (nM x) Nx) 0 (nl (nM x)) (nS y) (bj (nM y) Ny) 0 (nl (nM y)) n18=og (nS x) (bj (nM x) Nx) 0 (nl (nM x)) (nS y) (bj (nM y) Ny) 0 (nl (nM y)) n18:=fun _=>rfl
    by_cases hs:DY x=DY y
    · by_cases hn:x<0
      · have e1:nS x=true:=decide_eq_true hn
        have hy0:y<0:=by unfold DY at hs;rw [if_pos hn] at hs;revert hs;split<;>(try split)<;>omega
        have ev:(0:Int)-TR (x.natAbs:Int) (y.natAbs:Int)=TR x y:=by
          rw [agq];congr 1<;>omega
        refine bU ?_
        unfold og
        rw [dE x2,dE y2,tk,tk]
        simp only [gq,dU]
        refine bn (cv x2) (ay (bn (cv y2) (ay (iW (by rw [hs,bne_self_eq_false]) (vR e1 (bn ?_ ?_))))))
        · rw [ev,cw];unfold TR;split<;>(try split)<;>omega
        · rw [ev];rfl
      · have e1:nS x=false:=decide_eq_false hn
        have hy0 : ¬ y<0:=by unfold DY at hs;rw [if_neg hn] at hs;revert hs;split<;>(try split)<;>(try split)<;>omega
        have ev:TR (x.natAbs:Int) (y.natAbs:Int)=TR x y:=by congr 1<;>omega
        refine ae (a:=()) ?_ (by rw [ev];rfl)
        unfold og
        rw [dE x2,dE y2,tk,tk]
        simp only [gq,dU]
        exact bn (cv x2) (ay (bn (cv y2) (ay (iW (by rw [hs,bne_self_eq_false]) (iW e1 rfl)))))
    · have ev:wG (-1) (vB 1 (DY x-DY y))=TR x y:=by
        unfold wG vB TR;unfold DY at hs ⊢
        revert hs
        repeat' split
        all_goals omega
      refine bU ?_
      unfold og
      rw [dE x2,dE y2,tk,tk]
      simp only [gq,dU]
      rw [ev]
      refine bn (cv x2) (ay (bn (cv y2) (ay (vR (bne_iff_ne.2 hs) (bn (cv x2) (ay (bn (cv y2) (ay (bn ?_ rfl)))))))))
      rw [cw];unfold DY;split<;>(try split)<;>(try split)<;>(try split)<;>omega
theorem G1{x:Nat}(hx:x<sf) :bE .and .u64 (Int.fdiv (x:Int) (2^(min (Int.toNat (52:Int)) IntKind.u64.bits))) 2047=((Ke x:Nat):Int):=by
  have e:(52:Int)=((52:Nat):Int):=by omega
  have e':(2047:Int)=((2047:Nat):Int):=by omega
  rw [e,xV _ (by decide),e',F8]
  have h1:x/2^52<W:=Nat.lt_of_le_of_lt (Nat.div_le_self _ _) hx
  rw [Nat.mod_eq_of_lt h1,Nat.mod_eq_of_lt (show 2047<W by decide)]
  congr 1
  exact Nat.and_two_pow_sub_one_eq_mod _ 11
theorem CC{x:Nat}(hx:x<sf) :bE .and .u64 (x:Int) 4503599627370495=((x%4503599627370496:Nat):Int):=by
  have e':(4503599627370495:Int)=((4503599627370495:Nat):Int):=by omega
  rw [e',F8,Nat.mod_eq_of_lt hx,Nat.mod_eq_of_lt (show 4503599627370495<W by decide)]
  congr 1
  exact Nat.and_two_pow_sub_one_eq_mod _ 52
theorem adl{x:Nat}(hx:x<sf) :Int.fdiv (x:Int) (2^(min (Int.toNat (63:Int)) IntKind.u64.bits))=((x/9223372036854775808:Nat):Int):=by
  have e:(63:Int)=((63:Nat):Int):=by omega
  rw [e,xV _ (by decide)]
theorem aft{y:Nat}(h:y<4503599627370496) :bE .or .u64 (y:Int) 4503599627370496=((y+4503599627370496:Nat):Int):=by
  have e':(4503599627370496:Int)=((4503599627370496:Nat):Int):=by omega
  have hy:y<W:=Nat.lt_trans h (by decide)
  rw [e',So,Nat.mod_eq_of_lt hy,Nat.mod_eq_of_lt (show 4503599627370496<W by decide)]
  congr 1
  have:=YH (h:=y) (x:=1) (r:=52) h
  rw [Nat.one_mul] at this
  exact this
def abX(x:Nat) :Nat:=if Ke x≠0 then 3 else if x%4503599627370496≠0 then 2 else 1
theorem aaF{x:Nat}(hx:x<sf)(h:pQ x=true) :oV (x:Int)=some (.r0 (abX x)):=by
  have h':Ke x≠2047:=by unfold pQ at h;exact bne_iff_ne.1 h
  unfold abX
  by_cases h1:Ke x=0
  · by_cases h2:x%4503599627370496=0
    · rw [if_neg (by omega),if_neg (by omega)]
      refine bk (ae (a:=()) ?_ rfl)
      unfold rg
      rw [G1 hx,CC hx,h1,h2]
      exact ay (bx (bx (bx (bx rfl))))
    · rw [if_neg (by omega),if_pos h2]
      refine bk (bU ?_)
      unfold rg
      rw [G1 hx,CC hx,h1]
      exact ay (bx (bx (bx (dd rfl))))
  · rw [if_pos h1]
    refine bk (bU ?_)
    unfold rg
    rw [G1 hx,CC hx]
    exact ay (dh (dh (dd rfl)))
def fm(x:Nat) :Nat:=if Ke x≠0 then x%4503599627370496+4503599627370496 else x%4503599627370496
def fe(x:Nat) :Int:=if Ke x≠0 then -1074+((Ke x:Int)-1) else if x%4503599627370496≠0 then -1074 else 0
theorem adm{z:Nat}(h:z<4096) :IntKind.i64.wrap ((z:Nat):Int)=((z:Nat):Int):=by
  simp only [IntKind.wrap,IntKind.signed,IntKind.bits]
  simp
  omega
theorem TJ(x:Nat) :Ke x<2048:=Nat.mod_lt _ (by decide)
theorem aaG{x:Nat}(hx:x<sf)(h:pQ x=true) :er (x:Int)=some (.r0 0 (x/9223372036854775808==1) ((fm x:Nat):Int) (fe x)):=by
  have hl:=TJ x
  have hs:(((x/9223372036854775808:Nat):Int)==(1:Int))=(x/9223372036854775808==1):=by
    rw [Bool.eq_iff_iff,beq_iff_eq,beq_iff_eq];omega
  refine bk (ae (a:=(abX x,false,(x/9223372036854775808==1),((x%4503599627370496:Nat):Int))) ?_ ?_)
  · unfold DQ
    rw [aaF hx h,CC hx,adl hx,hs]
    exact ay (ay rfl)
  · show (wv _ _ _ _).run=_
    unfold wv abX fm fe
    rw [G1 hx,adm (by omega),aft (Nat.mod_lt _ (by decide))]
    by_cases h1:Ke x=0
    · by_cases h2:x%4503599627370496=0
      · rw [if_neg (by omega),if_neg (by omega),if_neg (by omega),if_neg (by omega),if_neg (by omega)]
        exact bx (bx (cF rfl))
      · rw [if_neg (by omega),if_pos h2,if_neg (by omega),if_neg (by omega),if_pos h2]
        exact bx (cF rfl)
    · rw [if_pos h1,if_pos h1,if_pos h1]
      exact cF (ay (bn (by rw [cw];omega) (bn (by rw [cw];omega) rfl)))
theorem aie(x:Nat) :fm x<W:=by
  have:=Nat.mod_lt x (show 4503599627370496>0 by decide)
  have w:(9007199254740992:Nat)<W:=by decide
  unfold fm;split<;>omega
theorem afu{x:Nat}(hx:x<sf)(h:pQ x=true) :nS (sg (x/9223372036854775808==1) (fm x))=nS (fz x)∧nM (sg (x/9223372036854775808==1) (fm x))=nM (fz x)∧nE (sg (x/9223372036854775808==1) (fm x)) (fe x)=nE (fz x) (-1074):=by
  have hx':x<18446744073709551616:=hx
  have hl:=TJ x
  unfold fz fm fe
  have hmod:x%4503599627370496=x%9223372036854775808%4503599627370496:=by omega
  by_cases h1:Ke x=0
  · have h3:x%9223372036854775808<4503599627370496:=by unfold Ke at h1;omega
    have h4:EA (x%9223372036854775808)=0:=by unfold EA;omega
    have h5:F5 (x%9223372036854775808)=x%4503599627370496:=by unfold F5;rw [if_pos h3];omega
    rw [h4,h5,Nat.pow_zero,Nat.mul_one,if_neg (by omega),if_neg (by omega)]
    by_cases h2:x%4503599627370496=0
    · rw [h2,if_neg (by omega)]
      have z:sg (x/9223372036854775808==1) 0=0:=F9.2 rfl
      rw [z,kU,kU];exact ⟨rfl,rfl,rfl⟩
    · rw [if_pos h2];exact ⟨rfl,rfl,rfl⟩
  · have h3 : ¬ x%9223372036854775808<4503599627370496:=by unfold Ke at h1;omega
    have h4:EA (x%9223372036854775808)=Ke x-1:=by unfold EA Ke;omega
    have h5:F5 (x%9223372036854775808)=x%4503599627370496+4503599627370496:=by unfold F5;rw [if_neg h3];omega
    rw [h4,h5,if_pos h1,if_pos h1]
    obtain ⟨a,b,c⟩:=Bf (z:=sg (x/9223372036854775808==1) ((x%4503599627370496+4503599627370496)*2^(Ke x-1))) (z':=sg (x/9223372036854775808==1) (x%4503599627370496+4503599627370496)) (m:=Ke x-1) aeK (-1074)
    refine ⟨a.symm,b.symm,?_⟩
    rw [c];congr 1;omega
theorem N3{x:Nat}(hx:x<sf)(h:pQ x=true) :
    ∃ N,dC x=some (.r0 0 (nS (fz x)) (bj (nM (fz x)) N) 0 (nl (nM (fz x))) (nE (fz x) (-1074)))∧nl (nM (fz x))≤N∧N≤4096:=by
  have hm:=aie x
  have hn:nl (fm x)≤1:=pP (by rw [Nat.pow_one];exact hm)
  have hl:=TJ x
  have he : -1000000≤fe x∧fe x≤1000000:=by unfold fe;split<;>(try split)<;>omega
  obtain ⟨N,h1,h2,h3⟩:=qa (x/9223372036854775808==1) (v:=fm x) (iP _) (by omega) (by omega) he
  obtain ⟨a,b,c⟩:=afu hx h
  rw [a,b,c] at h1
  rw [b] at h2
  refine ⟨N,bk (ae (a:=(0,false,(x/9223372036854775808==1),((fm x:Nat):Int),fe x)) ?_ (ae (a:=(nS (fz x),bj (nM (fz x)) N,0,nl (nM (fz x)),nE (fz x) (-1074))) ?_ rfl)),h2,h3⟩
  · unfold Nt
    rw [aaG hx h]
    exact iW (af6 hx h) (xU (bn (by rw [af5 hx h];rfl) (ay rfl)))
  · show (EU _ _ _ _).run=_
    unfold EU
    rw [agi hm]
    simp only [tj,di,dj,dk]
    rw [dE hn,h1]
    exact bx (ay (bn (cv hn) (ay rfl)))
end Go.Plb.Seat
namespace Go.Plb
set_option linter.unusedSimpArgs false
set_option linter.unusedVariables false
set_option linter.unusedSectionVars false
variable [Rom]
abbrev H:Nat:=4294967296
theorem H2(i:Nat) :W^i=H^(2*i):=by rw [Nat.pow_mul,show H^2=W by decide]
end Go.Plb
namespace Go.Plb.Seat
open Go Go.Plb
set_option linter.unusedSimpArgs false
set_option linter.unusedVariables false
def bl(v:Nat) :Nat:=if v=0 then 0 else v.log2+1
noncomputable def XB(l:List Nat) :Bool:=@decide (Fn l) (Classical.propDecidable _)
theorem CD{l:List Nat} :XB l=true↔Fn l:=@decide_eq_true_iff _ (Classical.propDecidable _)
theorem aaH{l:List Nat} :XB l=false↔¬ Fn l:=@decide_eq_false_iff_not _ (Classical.propDecidable _)
theorem agr{x:Nat}(h:pQ x=true) :isNaN x=false:=by
  rw [kf,decide_eq_false_iff_not]
  unfold pQ Ke at h
  rw [bne_iff_ne] at h
  omega
theorem fld(x:Nat) :bE .and .u64 (Int.fdiv (x:Int) (2^(min (Int.toNat (52:Int)) (IntKind.u64.bits)))) (2047:Int)=((Ke x:Nat):Int):=by
  have e1:(2^min (Int.toNat 52) IntKind.u64.bits:Int)=((4503599627370496:Nat):Int):=by decide
  have e2:Int.fdiv (x:Int) ((4503599627370496:Nat):Int)=((x/4503599627370496:Nat):Int):=by
    rw [Int.fdiv_eq_ediv_of_nonneg _ (by omega)];omega
  rw [e1,e2,NC];rfl
theorem afv(x:Nat) :IntKind.i64.wrap ((Ke x:Nat):Int)=((Ke x:Nat):Int):=by
  have:=TJ x
  simp only [IntKind.wrap,IntKind.signed,IntKind.bits]
  simp
  omega
theorem aif(x:Nat) :(IntKind.i64.wrap (bE .and .u64 (Int.fdiv (x:Int) (2^(min (Int.toNat (52:Int)) (IntKind.u64.bits)))) (2047:Int)) != (2047:Int))=pQ x:=by
  rw [fld,afv]
  unfold pQ
  cases q:(Ke x != 2047) with
  | true=>rw [bne_iff_ne] at q ⊢;omega
  | false=>rw [bne_eq_false_iff_eq] at q ⊢;omega
theorem adn{l:List Nat}(hn:l.length≤1000000000) :lI l=some (.r0 (XB l)):=by
  have step:∀ j,j<l.length→pQ (l.getD j 0)=true→mf l j=some (.inl (j+1)):=by
    intro j hj hf
    show (ky _ _).run=_
    unfold ky
    exact dd (aj (aj (xU (bn (by rw [agr hf];rfl) (ay (iW (by rw [aif,hf];rfl) (aj rfl)))))))
  by_cases h:Fn l
  · rw [CD.2 h]
    exact bk (ae (a:=()) rfl (ae (a:=()) (dP (fun j=>j) l.length rfl (fun j hj=>step j hj (h j hj)) (dh rfl)) rfl))
  · obtain ⟨k,hk,hb,hf⟩:=Cq (p:=fun i=>pQ (l.getD i 0)=true) h
    have hbf:pQ (l.getD k 0)=false:=by cases q:pQ (l.getD k 0) with | true=>exact absurd q hb | false=>rfl
    rw [aaH.2 h]
    refine bk (ae (a:=()) rfl (bU (dP (fun j=>j) k rfl (fun j hj=>step j (by omega) (hf j hj)) ?_)))
    show (ky _ _).run=_
    unfold ky
    refine dd (aj (aj ?_))
    cases q:isNaN (l.getD k 0) with
    | true=>exact YC (YD rfl) (xU (ay rfl))
    | false=>exact xU (ay (ay (vR (by rw [aif,hbf];rfl) rfl)))
def PX(t:Nat) :Bool:=bif fgt t 0 then flt t 4607182418800017408 else false
theorem G2(t:Nat) :tX t=some (.r0 (PX t)):=by
  unfold PX
  cases q:fgt t 0 with
  | true=>exact bk (ae (vR q rfl) rfl)
  | false=>exact bk (ae (iW q rfl) rfl)
def B2(s:List Nat)(j:Nat) :Bool:=flt (s.getD j 0) 0||(decide (0<j)&&fgt (s.getD j 0) (s.getD (j-1) 0))
def Ac(s:List Nat) :Prop:=∀ j,j<s.length→B2 s j=false
noncomputable def N4(s:List Nat) :Nat:=@ite _ (Ac s) (Classical.propDecidable _) (bif XB s then 0 else 10) 2
theorem zB{s:List Nat}(h:Ac s) :N4 s=bif XB s then 0 else 10:=@if_pos _ (Classical.propDecidable _) h _ _ _
theorem XC{s:List Nat}(h : ¬ Ac s) :N4 s=2:=@if_neg _ (Classical.propDecidable _) h _ _ _
theorem aig{j:Nat} :Int.toNat ((j:Int)-1)=j-1:=by omega
theorem N5{s:List Nat}(hn:s.length≤1000000) :nL s=some (.r0 (N4 s)):=by
  have ok:∀ j,j<s.length→B2 s j=false→pg s j=some (.inl (j+1)):=by
    intro j hj hb
    unfold B2 at hb
    rw [Bool.or_eq_false_iff] at hb
    refine ae (a:=()) ?_ (aj rfl)
    unfold sY
    refine dd (aj (aj (iW hb.1 ?_)))
    by_cases h0:0<j
    · refine dd (aj (aj (aj (iW ?_ rfl))))
      have h2:=hb.2
      rw [decide_eq_true h0,Bool.true_and] at h2
      rw [aig];exact h2
    · exact dh rfl
  have no:∀ j,j<s.length→B2 s j=true→pg s j=some (.inr (.inr (.r0 2))):=by
    intro j hj hb
    unfold B2 at hb
    refine bU ?_
    unfold sY
    refine dd (aj (aj ?_))
    cases h1:flt (s.getD j 0) 0 with
    | true=>exact cF rfl
    | false =>
      rw [h1,Bool.false_or,Bool.and_eq_true,decide_eq_true_eq] at hb
      refine bx (dd (aj (aj (aj (vR ?_ rfl)))))
      rw [aig];exact hb.2
  by_cases h:Ac s
  · rw [zB h]
    have hg:(yY s).run=some (.inl (!XB s)):=by
      unfold yY
      rw [ca,adn (by omega)]
      exact dt (ay rfl)
    refine bk (ae (a:=()) rfl (ae (a:=()) (dP (fun j=>j) s.length rfl (fun j hj=>ok j hj (h j hj)) (bU (by unfold sY;exact dh rfl))) (ae hg ?_)))
    cases XB s with
    | true=>exact bx rfl
    | false=>exact cF rfl
  · rw [XC h]
    obtain ⟨k,hk,hb,hf⟩:=Cq (p:=fun i=>B2 s i=false) h
    have hb:B2 s k=true:=by cases q:B2 s k with | true=>rfl | false=>exact absurd q hb
    exact bk (ae (a:=()) rfl (bU (dP (fun j=>j) k rfl (fun j hj=>ok j (by omega) (hf j hj)) (no k hk hb))))
end Go.Plb.Seat
namespace Go.Plb
set_option linter.unusedSimpArgs false
set_option linter.unusedVariables false
set_option linter.unusedSectionVars false
variable [Rom]
theorem CE(s:Bool)(m a b:Nat) :Ieee.signed s m (a+b)=Ieee.signed s m a*((2^b:Nat):Int):=by
  unfold Ieee.signed
  rw [Nat.shiftLeft_eq,Nat.shiftLeft_eq,Nat.pow_add,←Nat.mul_assoc,Int.natCast_mul (m*2^a) (2^b)]
  cases s
  · rfl
  · rw [if_pos rfl,if_pos rfl,Int.neg_mul]
theorem CF(s:Bool)(m a:Nat) :Ieee.signed s m a=sg s (m*2^a):=by
  unfold Ieee.signed sg
  rw [Nat.shiftLeft_eq]
theorem G3{x:Nat}(hx:x<sf) :(x/9223372036854775808%2==1)=(x/9223372036854775808==1):=by
  have hx:x<18446744073709551616:=hx
  have:x/9223372036854775808%2=x/9223372036854775808:=by omega
  rw [this]
theorem ahD{x y:Nat}(hx:x<sf)(hy:y<sf)(fx:pQ x=true)(fy:pQ y=true) :flt x y=decide (fz x<fz y):=by
  unfold flt nw Ieee.Format.order
  rw [wU hx fx,wU hy fy,G3 hx,G3 hy]
  unfold fz
  generalize (x/9223372036854775808==1)=s
  generalize (y/9223372036854775808==1)=t
  generalize F5 (x%9223372036854775808)=m
  generalize F5 (y%9223372036854775808)=n
  generalize EA (x%9223372036854775808)=i
  generalize EA (y%9223372036854775808)=j
  simp only [Ieee.Datum.order]
  have e1:((-1074+(i:Int))-min (-1074+(i:Int)) (-1074+(j:Int))).toNat=i-min i j:=by omega
  have e2:((-1074+(j:Int))-min (-1074+(i:Int)) (-1074+(j:Int))).toNat=j-min i j:=by omega
  rw [e1,e2,←CF,←CF]
  have h1:Ieee.signed s m i=Ieee.signed s m (i-min i j)*((2^(min i j):Nat):Int):=by rw [←CE];congr 1;omega
  have h2:Ieee.signed t n j=Ieee.signed t n (j-min i j)*((2^(min i j):Nat):Int):=by rw [←CE];congr 1;omega
  rw [h1,h2]
  have hp:(0:Int)<((2^(min i j):Nat):Int):=by have:=Nat.pow_pos (n:=min i j) (show 0<2 by decide);omega
  generalize Ieee.signed s m (i-min i j)=a
  generalize Ieee.signed t n (j-min i j)=b
  generalize ((2^(min i j):Nat):Int)=p at hp
  have e:(a*p<b*p)↔a<b:=⟨fun h=>Int.lt_of_mul_lt_mul_right h (Int.le_of_lt hp),fun h=>Int.mul_lt_mul_of_pos_right h hp⟩
  have e3:(some (compare a b)==some Ordering.lt)=decide (a<b):=by
    rw [Bool.eq_iff_iff,decide_eq_true_eq,beq_iff_eq,Option.some.injEq]
    exact Int.compare_eq_lt
  rw [e3,Bool.eq_iff_iff,decide_eq_true_eq,decide_eq_true_eq]
  exact e.symm
theorem G4{x y:Nat}(hx:x<sf)(hy:y<sf)(fx:pQ x=true)(fy:pQ y=true) :nw x y=some (compare (fz x) (fz y)):=by
  unfold nw Ieee.Format.order
  rw [wU hx fx,wU hy fy,G3 hx,G3 hy]
  unfold fz
  generalize (x/9223372036854775808==1)=s
  generalize (y/9223372036854775808==1)=t
  generalize F5 (x%9223372036854775808)=m
  generalize F5 (y%9223372036854775808)=n
  generalize EA (x%9223372036854775808)=i
  generalize EA (y%9223372036854775808)=j
  simp only [Ieee.Datum.order]
  have e1:((-1074+(i:Int))-min (-1074+(i:Int)) (-1074+(j:Int))).toNat=i-min i j:=by omega
  have e2:((-1074+(j:Int))-min (-1074+(i:Int)) (-1074+(j:Int))).toNat=j-min i j:=by omega
  rw [e1,e2,←CF,←CF]
  have h1:Ieee.signed s m i=Ieee.signed s m (i-min i j)*((2^(min i j):Nat):Int):=by rw [←CE];congr 1;omega
  have h2:Ieee.signed t n j=Ieee.signed t n (j-min i j)*((2^(min i j):Nat):Int):=by rw [←CE];congr 1;omega
  rw [h1,h2]
  have hp:(0:Int)<((2^(min i j):Nat):Int):=by have:=Nat.pow_pos (n:=min i j) (show 0<2 by decide);omega
  generalize Ieee.signed s m (i-min i j)=a
  generalize Ieee.signed t n (j-min i j)=b
  generalize ((2^(min i j):Nat):Int)=p at hp
  have e:∀ a b:Int,(a*p<b*p)↔a<b:=fun a b=>⟨fun h=>Int.lt_of_mul_lt_mul_right h (Int.le_of_lt hp),fun h=>Int.mul_lt_mul_of_pos_right h hp⟩
  congr 1
  rcases Int.lt_trichotomy a b with h | h | h
  · rw [Int.compare_eq_lt.2 h,Int.compare_eq_lt.2 ((e a b).2 h)]
  · subst h;rw [Int.compare_eq_eq.2 rfl,Int.compare_eq_eq.2 rfl]
  · rw [Int.compare_eq_gt.2 h,Int.compare_eq_gt.2 ((e b a).2 h)]
theorem aaI{x y:Nat}(hx:x<sf)(hy:y<sf)(fx:pQ x=true)(fy:pQ y=true) :fgt x y=decide (fz y<fz x):=by
  unfold fgt
  rw [G4 hx hy fx fy,Bool.eq_iff_iff,decide_eq_true_eq,beq_iff_eq,Option.some.injEq]
  exact Int.compare_eq_gt
end Go.Plb
namespace Go.Plb.Seat
open Go Go.Plb
set_option linter.unusedSimpArgs false
set_option linter.unusedVariables false
def TK(z:Int) :Int:=z*((2^1074:Nat):Int)
theorem aih(z:Int) :nS (TK z)=nS z∧nM (TK z)=nM z∧nE (TK z) (-2148)=nE z (-1074):=by
  obtain ⟨a,b,c⟩:=Bf (z:=TK z) (z':=z) (m:=1074) rfl (-2148)
  exact ⟨a,b,by rw [c];congr 1⟩
theorem aii{z:Int}(h:nl z.natAbs≤33) :Sm (TK z) (-2148):=by
  refine ⟨?_,by decide,by decide⟩
  unfold TK
  rw [Int.natAbs_mul,Int.natAbs_natCast]
  refine Nat.le_trans YK ?_
  have:nl (2^1074)≤18:=pP (by decide +kernel)
  omega
theorem ahE{x y:Int}(hx:nl x.natAbs≤33)(hy:nl y.natAbs≤33) :Sm (x*y) (-2148):=by
  refine ⟨?_,by decide,by decide⟩
  rw [Int.natAbs_mul]
  have:=YK (a:=x.natAbs) (b:=y.natAbs)
  omega
def AD(s:List Nat)(t i:Nat) :Bool:=decide (TK (fz (s.getD i 0))≤fz t*fz (s.getD 0 0))
theorem ahF{x y:Int} :decide (TR x y≤0)=decide (x≤y):=by
  rw [Bool.eq_iff_iff,decide_eq_true_eq,decide_eq_true_eq];unfold TR;split<;>(try split)<;>omega
theorem ags{s:List Nat}{t i:Nat}(hw:Wd s)(hf:Fn s)(ht:t<sf)(ft:pQ t=true)(hi:i<s.length) :
    kz (i:Int) s (nS (fz t*fz (s.getD 0 0))) (bj (nM (fz t*fz (s.getD 0 0))) (nl (nM (fz t*fz (s.getD 0 0))))) (nE (fz t*fz (s.getD 0 0)) (-2148))=some (.r0 (AD s t i)):=by
  obtain ⟨N,h1,h2,h3⟩:=N3 (hw i) (hf i hi)
  obtain ⟨a,b,c⟩:=aih (fz (s.getD i 0))
  have hc:=adk (aii (abt (hw i) (hf i hi))) (ahE (abt ht ft) (abt (hw 0) (hf 0 (by omega))))
  refine bk (ae (a:=(nS (fz (s.getD i 0)),bj (nM (fz (s.getD i 0))) N,0,nl (nM (fz (s.getD i 0))),nE (fz (s.getD i 0)) (-1074))) ?_ (ae (a:=TR (TK (fz (s.getD i 0))) (fz t*fz (s.getD 0 0))) ?_ ?_))
  · unfold wY
    rw [ew,h1]
    exact aj (aj (ay rfl))
  · show (qt _ _ _ _ _ _ _ _).run=_
    unfold qt
    rw [a,b,c] at hc
    rw [dE h2,ca,hc]
    exact bn (cv h2) (dt (ay rfl))
  · unfold wZ AD
    rw [ahF];rfl
theorem XD{s:List Nat}{t:Nat}(hw:Wd s)(hf:Fn s)(hF:Ac s) :∀ {i j:Nat},i≤j→j<s.length→AD s t i=true→AD s t j=true:=by
  intro i j hij hj h
  induction j with
  | zero => have : i = 0 := by omega
            subst this;exact h
  | succ j ih =>
    rcases Nat.eq_or_lt_of_le hij with rfl | q
    · exact h
    have hp:=ih (by omega) (by omega)
    have hb:=hF (j+1) hj
    unfold B2 at hb
    rw [Bool.or_eq_false_iff] at hb
    have h2:=hb.2
    rw [decide_eq_true (by omega),Bool.true_and,Nat.add_sub_cancel,aaI (hw _) (hw _) (hf _ hj) (hf _ (by omega)),decide_eq_false_iff_not] at h2
    unfold AD at hp ⊢
    rw [decide_eq_true_eq] at hp ⊢
    refine Int.le_trans ?_ hp
    unfold TK
    exact Int.mul_le_mul_of_nonneg_right (by omega) (by omega)
theorem agt{a b:Nat}(h:a+b<2000000) :IntKind.i64.wrap (Int.fdiv (IntKind.u64.wrap ((a:Int)+(b:Int))) (2^(min (Int.toNat (1:Int)) (IntKind.u64.bits))))=(((a+b)/2:Nat):Int):=by
  have e1:(2^min (Int.toNat 1) IntKind.u64.bits:Int)=((2:Nat):Int):=by decide
  have e0:IntKind.u64.wrap ((a:Int)+(b:Int))=((a+b:Nat):Int):=by
    simp only [IntKind.wrap,IntKind.signed,IntKind.bits]
    simp
    omega
  have e2:Int.fdiv ((a+b:Nat):Int) ((2:Nat):Int)=(((a+b)/2:Nat):Int):=by
    rw [Int.fdiv_eq_ediv_of_nonneg _ (by omega)];omega
  rw [e0,e1,e2]
  simp only [IntKind.wrap,IntKind.signed,IntKind.bits]
  simp
  omega
theorem XE{s:List Nat}{t:Nat}(hw:Wd s)(hf:Fn s)(hF:Ac s)(ht:t<sf)(ft:pQ t=true)(hn:s.length≤600) :
    ∃ k:Nat,dc ((s.length:Nat):Int) s (nS (fz t*fz (s.getD 0 0))) (bj (nM (fz t*fz (s.getD 0 0))) (nl (nM (fz t*fz (s.getD 0 0))))) (nE (fz t*fz (s.getD 0 0)) (-2148))=some (.r0 (k:Int)) ∧
      k≤s.length∧(∀ i,i<k→AD s t i=false)∧∀ i,k≤i→i<s.length→AD s t i=true:=by
  let G:Int×Int→Prop:=fun p=>∃ a b:Nat,p=((a:Int),(b:Int))∧a≤b∧b≤s.length∧(∀ i,i<a→AD s t i=false)∧∀ i,b≤i→i<s.length→AD s t i=true
  let Q:(Int)⊕(aV)→Prop:=fun y=>∃ k:Nat,y=.inl (k:Int)∧k≤s.length∧(∀ i,i<k→AD s t i=false)∧∀ i,k≤i→i<s.length→AD s t i=true
  have hl:=Qu (B:=dH s (nS (fz t*fz (s.getD 0 0))) (bj (nM (fz t*fz (s.getD 0 0))) (nl (nM (fz t*fz (s.getD 0 0))))) (nE (fz t*fz (s.getD 0 0)) (-2148))) G (fun p=>(p.2-p.1).toNat) Q ?_ ((0:Int),((s.length:Nat):Int)) ⟨0,s.length,rfl,by omega,by omega,fun i h=>by omega,fun i h1 h2=>by omega⟩
  · obtain ⟨y,h1,k,rfl,h2,h3,h4⟩:=hl
    exact ⟨k,bk (ae (a:=()) rfl (ae h1 rfl)),h2,h3,h4⟩
  · rintro p ⟨a, b, rfl, hab, hb, h1, h2⟩
    by_cases hlt:a<b
    · left
      have hc:=ags (i:=(a+b)/2) hw hf ht ft (by omega)
      have hh:=agt (a:=a) (b:=b) (by omega)
      have hN1:(a+b)/2<b:=by omega
      have hN2:a≤(a+b)/2:=by omega
      cases hq:AD s t ((a+b)/2) with
      | false =>
        refine ⟨((((a+b)/2+1:Nat):Int),(b:Int)),?_,⟨(a+b)/2+1,b,rfl,by omega,hb,fun i hi=>?_,h2⟩,by simp only;omega⟩
        · show (bP _ _ _ _ _ _).run=_
          unfold bP
          rw [hh,ca,ca,hc,hq]
          refine dd (aj (ay (dt (dt (ay (cF (aj ?_)))))))
          show some (Sum.inl _)=_
          congr 2
        · cases q : AD s t i with
          | false=>rfl
          | true => have := XD (t := t) hw hf hF (i := i) (j := (a + b) / 2) (by omega) (by omega) q
                    rw [hq] at this;cases this
      | true =>
        refine ⟨((a:Int),(((a+b)/2:Nat):Int)),?_,⟨a,(a+b)/2,rfl,by omega,by omega,h1,fun i h3 h4=>XD (t:=t) hw hf hF h3 h4 hq⟩,by simp only;omega⟩
        show (bP _ _ _ _ _ _).run=_
        unfold bP
        rw [hh,ca,ca,hc,hq]
        exact dd (aj (ay (dt (dt (ay (bx rfl))))))
    · right
      have:a=b:=by omega
      subst this
      refine ⟨.inl (a:Int),?_,a,rfl,hb,h1,h2⟩
      show (bP _ _ _ _ _ _).run=_
      unfold bP
      exact dh rfl
theorem TL{t:Nat}(ht:t<sf)(h:PX t=true) :pQ t=true∧0<fz t:=by
  have hz:fz 0=0:=by decide +kernel
  have f0:pQ 0=true:=by decide +kernel
  unfold PX at h
  cases q:fgt t 0 with
  | false=>rw [q] at h;cases h
  | true =>
    rw [q,cond_true] at h
    cases hf:pQ t with
    | true =>
      refine ⟨rfl,?_⟩
      rw [aaI ht (by decide) hf f0,decide_eq_true_eq,hz] at q
      exact q
    | false =>
      exfalso
      rcases acP ht hf with q1 | ⟨q1,q2,q3⟩
      · have:=af7 (x:=t) (y:=0) q1
        unfold fgt at q
        unfold fne at this
        cases hd:nw t 0 with
        | none=>rw [hd] at q;cases q
        | some o =>
          have h0:nw t 0=none:=by
            unfold nw
            obtain ⟨s',f',e⟩:=tn q1
            simp [Ieee.Format.order,e,Ieee.Datum.order]
          rw [h0] at hd;cases hd
      · have ht':t=9218868437227405312∨t=18442240474082181120:=by unfold sf at ht;omega
        rcases ht' with rfl | rfl
        · revert h;decide +kernel
        · revert q;decide +kernel
theorem XF{s:List Nat}{t:Nat}(hw:Wd s)(hf:Fn s)(hF:Ac s)(ht:t<sf)(hm:PX t=true)(hn:s.length≤600) :∃ k:Nat,ed s t=some (.r0 (k:Int) 0)∧k≤s.length∧(∀ i,i<k→AD s t i=false)∧∀ i,k≤i→i<s.length→AD s t i=true:=by
  have ft:=(TL ht hm).1
  have hask:N4 s=0:=by rw [zB hF,CD.2 hf];rfl
  have h8:(lJ s).run=some (.inl 0):=by
    unfold lJ
    rw [ca,N5 (by omega),hask]
    exact dt (ay rfl)
  by_cases h0:s.length=0
  · refine ⟨0,bk (ae h8 (bU ?_)),by omega,fun i h=>by omega,fun i h1 h2=>by omega⟩
    unfold ju
    rw [G2,hm]
    exact bx (ay (bx (bx (dd rfl))))
  · obtain ⟨k,hk,k1,k2,k3⟩:=XE hw hf hF ht ft hn
    refine ⟨k,?_,k1,k2,k3⟩
    obtain ⟨N,a1,a2,a3⟩:=N3 ht ft
    obtain ⟨M,b1,b2,b3⟩:=N3 (hw 0) (hf 0 (by omega))
    obtain ⟨L,c1,c2,c3⟩:=adj (agV ht ft) (agV (hw 0) (hf 0 (by omega)))
    refine bk (ae h8 (ae (a:=()) ?_ (ae (a:=(nS (fz t),bj (nM (fz t)) N,0,nl (nM (fz t)),nE (fz t) (-1074))) ?_ (ae (a:=(nS (fz (s.getD 0 0)),bj (nM (fz (s.getD 0 0))) M,0,nl (nM (fz (s.getD 0 0))),nE (fz (s.getD 0 0)) (-1074))) ?_
      (ae (a:=(nS (fz t*fz (s.getD 0 0)),bj (nM (fz t*fz (s.getD 0 0))) L,0,nl (nM (fz t*fz (s.getD 0 0))),nE (fz t*fz (s.getD 0 0)) (-2148))) ?_ (ae (a:=(k:Int)) ?_ rfl))))))
    · unfold ju
      rw [G2,hm]
      exact bx (ay (bx (bx (dh rfl))))
    · unfold zZ
      rw [a1]
      exact ay rfl
    · unfold Aa
      rw [b1]
      exact aj (aj (ay rfl))
    · show (sv _ _ _ _ _ _ _ _ _ _).run=_
      unfold sv
      rw [dE a2,dE b2,c1]
      exact bn (cv a2) (bn (cv b2) (ay rfl))
    · show (sw _ _ _ _ _ _).run=_
      unfold sw
      rw [ca,dE c2,hk]
      exact dt (bn (cv c2) (ay rfl))
theorem N6(s:List Nat) :(N4 s=0∧Ac s∧Fn s)∨N4 s=2∨N4 s=10:=by
  by_cases h:Ac s
  · rw [zB h]
    cases q:XB s with
    | true=>exact .inl ⟨rfl,h,CD.1 q⟩
    | false=>exact .inr (.inr rfl)
  · rw [XC h];exact .inr (.inl rfl)
def cx{α:Type}(f:Nat→α) :Nat→List α
  | 0=>[]
  | n+1=>cx f n++[f n]
theorem bY{α:Type}{f:Nat→α} :∀ {n:Nat},(cx f n).length=n
  | 0=>rfl
  | n+1=>by simp only [cx,List.length_append,List.length_singleton,bY (n:=n)]
theorem Mp{α:Type}{f:Nat→α}{n:Nat} :(cx f n).take n=cx f n:=by
  rw [List.take_of_length_le];rw [bY];exact Nat.le_refl n
theorem N7{α:Type}{f:Nat→α}{n:Nat} :List.take n (cx f n)++List.take 1 [f n]=cx f (n+1):=by
  rw [Mp];rfl
theorem iK{α:Type}{f:Nat→α}{d:α} :∀ {n i:Nat},i<n→(cx f n).getD i d=f i
  | 0,i,h=>absurd h (Nat.not_lt_zero _)
  | n+1,i,h=>by
    simp only [cx,List.getD_eq_getElem?_getD]
    by_cases e:i=n
    · subst e
      rw [List.getElem?_append_right (by rw [bY];exact Nat.le_refl _),bY,Nat.sub_self];rfl
    · rw [List.getElem?_append_left (by rw [bY];omega)]
      have:=iK (f:=f) (d:=d) (n:=n) (i:=i) (by omega)
      rwa [List.getD_eq_getElem?_getD] at this
theorem G5{l m:List Nat}(h:l.length=m.length)(k:∀ i,i<l.length→l.getD i 0=m.getD i 0) :l=m:=by
  apply List.ext_getElem h
  intro i h1 h2
  have:=k i h1
  rw [List.getD_eq_getElem?_getD,List.getD_eq_getElem?_getD,List.getElem?_eq_getElem h1,List.getElem?_eq_getElem h2] at this
  exact this
def N8(n:Int) :Bool:=decide (0≤n)&&decide (n≤512)
theorem B3{n:Int} :N8 n=true↔0≤n∧n≤512:=by simp [N8]
theorem N9{r c n:Int}{j:Nat}(hj:j<2)(hn : [r,c].getD j 0=n) :(ta [r,c] j).run=if N8 n=true then some (.inl (j+1)) else some (.inr (.inr (.r0 false))):=by
  unfold ta
  rw [hn]
  refine vR (decide_eq_true (by show (j:Int)<((2:Nat):Int);omega)) (bn (by rw [sy];show 0≤(j:Int)∧(j:Int)<((2:Nat):Int);omega) (bn (by rw [jd];exact hj) ?_))
  by_cases h1:n<0
  · rw [if_neg (by rw [B3];omega)];exact vR (decide_eq_true h1) rfl
  · by_cases h2:n>512
    · rw [if_neg (by rw [B3];omega)];exact iW (decide_eq_false h1) (vR (decide_eq_true h2) rfl)
    · rw [if_pos (by rw [B3];omega)];exact iW (decide_eq_false h1) (iW (decide_eq_false h2) (bn (by rw [cw];omega) rfl))
theorem ado(r c:Int) :oh [r,c]=some (.r0 (N8 r&&N8 c)):=by
  have s0:=N9 (r:=r) (c:=c) (n:=r) (j:=0) (by omega) rfl
  have s1:=N9 (r:=r) (c:=c) (n:=c) (j:=1) (by omega) rfl
  have s2:(ta [r,c] 2).run=some (.inr (.inl ())):=bx rfl
  unfold oh
  by_cases hr:N8 r=true
  · rw [if_pos hr] at s0
    by_cases hc:N8 c=true
    · rw [if_pos hc] at s1
      rw [hr,hc]
      exact bk (ae rfl (ae (a:=()) ((Bc (s:=0) s0).trans ((Bc (s:=1) s1).trans (wP (s:=2) s2))) rfl))
    · rw [if_neg hc] at s1
      have hc':N8 c=false:=by simpa using hc
      rw [hr,hc']
      exact bk (ae rfl (bU ((Bc (s:=0) s0).trans (wP (s:=1) s1))))
  · rw [if_neg hr] at s0
    have hr':N8 r=false:=by simpa using hr
    rw [hr']
    exact bk (ae rfl (bU (wP (s:=0) s0)))
theorem XG{r c:Nat}(hr:r≤512)(hc:c≤512) :fu (r:Int) (c:Int)=some (.r1 r c (r*c) (List.replicate (r*c) 0)):=by
  have hL:r*c≤512*512:=Nat.mul_le_mul hr hc
  have e:(r:Int)*(c:Int)=((r*c:Nat):Int):=by rw [Int.natCast_mul]
  refine bk (ae (a:=false) ?_ ?_)
  · unfold JW
    rw [show ab 0 2 [(r:Int),(c:Int)]=[(r:Int),(c:Int)] from je rfl,ado,show N8 (r:Int)=true from by rw [B3];omega,show N8 (c:Int)=true from by rw [B3];omega]
    exact ay (ay rfl)
  · show (BM _ _ _).run=_
    unfold BM
    rw [e,Int.toNat_natCast]
    generalize r*c=q at hL
    exact bx (aj (aj (aj (aj (aj rfl)))))
theorem agu{xs:List Nat}{n:Nat}(h:n=xs.length) :cpL (List.replicate n 0) 0 (Nat.min xs.length n) (List.take xs.length xs)=xs:=by
  subst h
  unfold cpL
  rw [show Nat.min xs.length xs.length=xs.length from Nat.min_self _]
  simp
theorem TM{xs:List Nat}{r c:Nat}(hx:xs.length=r*c)(hr:r≤512)(hc:c≤512) :bS (r:Int) (c:Int) xs=some (.r1 r c xs.length xs):=by
  have hL:r*c≤512*512:=Nat.mul_le_mul hr hc
  have e:(r:Int)*(c:Int)=(xs.length:Int):=by rw [hx,Int.natCast_mul]
  refine bk (ae (a:=.inr ((r:Int),(c:Int),r*c,List.replicate (r*c) 0)) ?_ ?_)
  · unfold NW
    rw [XG hr hc]
    exact YC (YD rfl) (xU (ay rfl))
  · show (E5 _ _ _ _ _ _ _).run=_
    unfold E5
    rw [e]
    refine bx (bn (by rw [cw];omega) (iW (by simp) (bn (aet _) (bn (by rw [jG,←hx];simp) (bn (by rw [jG,←hx];simp) ?_)))))
    rw [agu hx.symm,←hx];rfl
theorem XH{a n l:Nat}(h:a+n≤l)(hl:l≤512) :dW (a:Int) (n:Int) (l:Int)=some (.r0 true):=by
  refine bk (ae (a:=true) ?_ rfl)
  unfold pR
  exact dd (dd (dd (aj (by rw [decide_eq_true (by omega)];rfl))))
theorem B4{n c:Nat}{xs:List Nat}{r w i j m k at_ d o:Nat}(hr:r≤512)(hc:w≤512)(h1:i+m≤r)(h2:j+k≤w)(ha:at_≤1000000)(hd:d≤1000000)(ho:o≤1000000) :
    aa n c xs (r:Int) (w:Int) (at_:Int) (d:Int) (o:Int) (i:Int) (j:Int) (m:Int) (k:Int)=some (.r1 n c xs m k ((at_+i*d+j*o:Nat):Int) d o):=by
  refine bk (ae (a:=false) ?_ ?_)
  · unfold sD
    rw [XH h1 hr,XH h2 hc]
    exact ay (bx (ay rfl))
  · show (mA _ _ _ _ _ _ _ _ _ _ _).run=_
    unfold mA
    have hL:i*d≤512*1000000:=Nat.mul_le_mul (show i≤512 by omega) hd
    have hM:j*o≤512*1000000:=Nat.mul_le_mul (show j≤512 by omega) ho
    have e:(i:Int)*(d:Int)=((i*d:Nat):Int):=by rw [Int.natCast_mul]
    have e':(j:Int)*(o:Int)=((j*o:Nat):Int):=by rw [Int.natCast_mul]
    rw [e,e',show (at_:Int)+((i*d:Nat):Int)+((j*o:Nat):Int)=((at_+i*d+j*o:Nat):Int) from by omega]
    generalize i*d=q at hL
    generalize j*o=q' at hM
    exact bx (aj (aj (aj (aj rfl))))
theorem K7(n:Nat) :aT (n:Int) 1=some (.r0 true):=by
  refine bk (ae (a:=true) ?_ rfl)
  unfold pX
  by_cases h:n=1
  · subst h;exact cF rfl
  · exact iW (by rw [beq_eq_false_iff_ne];omega) (cF rfl)
theorem agv(n:Int) :aT 1 n=some (.r0 true):=by
  refine bk (ae (a:=true) ?_ rfl)
  exact cF rfl
theorem kb{m n i j:Nat}(h1:i<m)(h2:j<n) :ap (m:Int) (n:Int) (i:Int) (j:Int)=some (.r0 true):=by
  refine bk (ae (a:=true) ?_ rfl)
  unfold pV
  exact dd (dd (dd (by rw [decide_eq_true (by omega)];rfl)))
structure Plc (e1 e2 e3 e4:Int) (L p:Nat):Prop where
  a:cI .i64 e1=true
  b:cI .i64 e2=true
  c:cI .i64 e3=true
  d:cI .i64 e4=true
  e:fO e4 L=true
  f:fD (Int.toNat e4) L=true
  g:Int.toNat e4=p
theorem G6{at_ i d j o L:Nat}(h:at_+i*d+j*o<L)(hL:L≤1000000) :Plc ((i:Int)*(d:Int)) ((at_:Int)+(i:Int)*(d:Int)) ((j:Int)*(o:Int)) ((at_:Int)+(i:Int)*(d:Int)+(j:Int)*(o:Int)) L (at_+i*d+j*o):=by
  have e:(i:Int)*(d:Int)=((i*d:Nat):Int):=by rw [Int.natCast_mul]
  have e':(j:Int)*(o:Int)=((j*o:Nat):Int):=by rw [Int.natCast_mul]
  rw [e,e']
  generalize i*d=q at h ⊢
  generalize j*o=q' at h ⊢
  have e3:((at_:Int)+(q:Int)+(q':Int)).toNat=at_+q+q':=by omega
  refine ⟨?_,?_,?_,?_,?_,?_,e3⟩
  · rw [cw];omega
  · rw [cw];omega
  · rw [cw];omega
  · rw [cw];omega
  · rw [sy];omega
  · rw [jd];omega
def Fi(xs:List Nat)(c at_ d o q:Nat) :Nat:=xs.getD (at_+q/c*d+q%c*o) 0
theorem aaJ{xs:List Nat}{c at_ d o i j:Nat}(hj:j<c) :Fi xs c at_ d o (i*c+j)=xs.getD (at_+i*d+j*o) 0:=by
  have hc:0<c:=by omega
  have e1:(i*c+j)/c=i:=by rw [Nat.mul_comm,Nat.mul_add_div hc,Nat.div_eq_of_lt hj,Nat.add_zero]
  have e2:(i*c+j)%c=j:=by rw [Nat.mul_comm,Nat.mul_add_mod,Nat.mod_eq_of_lt hj]
  unfold Fi
  rw [e1,e2]
theorem XI{xs:List Nat}{r c at_ d o:Nat}(hr:r≤512)(hc:c≤512)(hp:∀ i j,i<r→j<c→at_+i*d+j*o<xs.length)(hL:xs.length≤1000000) :
    ax xs (r:Int) (c:Int) (at_:Int) (d:Int) (o:Int)=some (.r0 r c (r*c) (r*c) (cx (Fi xs c at_ d o) (r*c))):=by
  have hRC:r*c≤512*512:=Nat.mul_le_mul hr hc
  refine bk (ae (a:=()) rfl (ae (a:=(r*c,r*c,cx (Fi xs c at_ d o) (r*c))) (Bd ?_) rfl))
  refine Option.map_eq_some_iff.2 ⟨.inl (r*c,r*c,cx (Fi xs c at_ d o) (r*c)),ae (a:=()) rfl (ae (a:=(r*c,r*c,cx (Fi xs c at_ d o) (r*c))) ?_ rfl),rfl⟩
  refine dP (fun i=>(i,i*c,i*c,cx (Fi xs c at_ d o) (i*c))) r (by rw [Nat.zero_mul];rfl) (fun i hi=>?_) (bU (dh rfl))
  refine ae (a:=()) (dd rfl) (ae (a:=((i+1)*c,(i+1)*c,cx (Fi xs c at_ d o) ((i+1)*c))) (Bd ?_) (bn (by rw [cw];omega) rfl))
  refine ae (a:=()) rfl (ae (a:=((i+1)*c,(i+1)*c,cx (Fi xs c at_ d o) ((i+1)*c))) ?_ rfl)
  refine dP (fun j=>(j,i*c+j,i*c+j,cx (Fi xs c at_ d o) (i*c+j))) c rfl (fun j hj=>?_) ?_
  · have hq:i*c+j<r*c:=nH hi hj
    refine ae (a:=(i*c+(j+1),cx (Fi xs c at_ d o) (i*c+(j+1)))) ?_ (bn (by rw [cw];omega) rfl)
    show (jW _ _ _ _ _ _ _ _ _ _ _).run=_
    unfold jW
    rw [kb hi hj]
    have P:=G6 (hp i j hi hj) hL
    refine dd (dt (ay (bx (bn P.a (bn P.b (bn P.c (bn P.d (bn P.e (bn P.f (aj (aj (ay (bn (by rw [jG,bY];exact Nat.le_refl _) ?_)))))))))))))
    rw [P.g,←aaJ (xs:=xs) (at_:=at_) (d:=d) (o:=o) (i:=i) hj]
    show some (Sum.inl _)=_
    rw [show i*c+(j+1)=i*c+j+1 from rfl,←N7]
  · rw [show (i+1)*c=i*c+c from Nat.succ_mul i c]
    exact bU (dh rfl)
theorem Oa{xs:List Nat}{r c at_ d o:Nat}(hr:r≤512)(hc:c≤512)(hp:∀ i j,i<r→j<c→at_+i*d+j*o<xs.length)(hL:xs.length≤1000000) :
    ba xs (r:Int) (c:Int) (at_:Int) (d:Int) (o:Int)=some (.r0 r c (r*c) (cx (Fi xs c at_ d o) (r*c))):=by
  refine bk (ae (a:=((r:Int),(c:Int),r*c,cx (Fi xs c at_ d o) (r*c))) ?_ rfl)
  unfold sF
  have hl:(cx (Fi xs c at_ d o) (r*c)).length=r*c:=bY
  rw [ca,XI hr hc hp hL]
  show (T.need _ (T.need true (T.alt 1 (T.need (bm 0 (r*c) (cx (Fi xs c at_ d o) (r*c))) (T.need (jN (bS (r:Int) (c:Int) (ab 0 (r*c) (cx (Fi xs c at_ d o) (r*c))))) _)) _))).run=_
  refine dt (ay (xU (bn (by rw [ct,hl];omega) ?_)))
  show (T.need (jN (bS (r:Int) (c:Int) (ab 0 (r*c) (cx (Fi xs c at_ d o) (r*c))))) (T.leaf (Sum.inl (jO (bS (r:Int) (c:Int) (ab 0 (r*c) (cx (Fi xs c at_ d o) (r*c)))),jP (bS (r:Int) (c:Int) (ab 0 (r*c) (cx (Fi xs c at_ d o) (r*c)))),jQ (bS (r:Int) (c:Int) (ab 0 (r*c) (cx (Fi xs c at_ d o) (r*c)))),jR (bS (r:Int) (c:Int) (ab 0 (r*c) (cx (Fi xs c at_ d o) (r*c)))))))).run=_
  rw [je hl,TM hl hr hc,hl]
  rfl
theorem agw{n c:Nat}{xs:List Nat}{r at_ d o i x:Nat}(hn:n=xs.length)(hi:i<r)(hp:at_+i*d<xs.length)(hL:xs.length≤1000000) :
    bC n c xs (r:Int) 1 (at_:Int) (d:Int) (o:Int) (i:Int) x=some (.r0 0 n c (xs.set (at_+i*d) x)):=by
  subst hn
  refine bk (ae (a:=false) ?_ ?_)
  · unfold uh
    rw [K7]
    exact dt (ay rfl)
  · by_cases h1:r=1
    · subst h1
      have:i=0:=by omega
      subst this
      have P:=G6 (at_:=at_) (i:=0) (d:=d) (j:=0) (o:=o) (L:=xs.length) (by omega) hL
      refine ae (a:=((0:Int),(0:Int))) (bx (cF rfl)) (ae (a:=xs.set (at_+0*d) x) ?_ rfl)
      show (iB _ _ _ _ _ _ _ _ _ _).run=_
      unfold iB
      rw [show ap ((1:Nat):Int) (1:Int) (0:Int) (0:Int)=some (.r0 true) from kb (m:=1) (n:=1) (i:=0) (j:=0) (by omega) (by omega)]
      refine dt (ay (bx (bn P.a (bn P.b (bn P.c (bn P.d (bn P.e (bn P.f ?_))))))))
      show some (Sum.inl (xs.set (Int.toNat ((at_:Int)+((0:Nat):Int)*(d:Int)+((0:Nat):Int)*(o:Int))) x))=_
      simp only [P.g,Nat.zero_mul,Nat.add_zero]
    · have P:=G6 (at_:=at_) (i:=i) (d:=d) (j:=0) (o:=o) (L:=xs.length) (by omega) hL
      refine ae (a:=((i:Int),(0:Int))) (bx (iW (by rw [beq_eq_false_iff_ne];omega) rfl)) (ae (a:=xs.set (at_+i*d) x) ?_ rfl)
      show (iB _ _ _ _ _ _ _ _ _ _).run=_
      unfold iB
      rw [show ap (r:Int) (1:Int) (i:Int) (0:Int)=some (.r0 true) from kb (m:=r) (n:=1) (i:=i) (j:=0) hi (by omega)]
      refine dt (ay (bx (bn P.a (bn P.b (bn P.c (bn P.d (bn P.e (bn P.f ?_))))))))
      show some (Sum.inl (xs.set (Int.toNat ((at_:Int)+(i:Int)*(d:Int)+((0:Nat):Int)*(o:Int))) x))=_
      simp only [P.g,Nat.zero_mul,Nat.add_zero]
theorem B5{α:Type}{pos:Nat→Nat}{val:Nat→α}{l:List α}{d:α} :∀ {n i:Nat},i<n→(∀ a b,a<n→b<n→pos a=pos b→a=b)→pos i<l.length→(mv pos val l n).getD (pos i) d=val i
  | 0,i,h,_,_=>absurd h (Nat.not_lt_zero _)
  | n+1,i,h,hj,hl=>by
    simp only [mv,List.getD_eq_getElem?_getD,List.getElem?_set,dQ]
    by_cases e:i=n
    · subst e;rw [if_pos rfl,if_pos hl];rfl
    · rw [if_neg (fun q=>e (hj i n h (Nat.lt_succ_self n) q.symm))]
      have:=B5 (pos:=pos) (val:=val) (l:=l) (d:=d) (n:=n) (i:=i) (by omega) (fun a b ha hb=>hj a b (by omega) (by omega)) hl
      rwa [List.getD_eq_getElem?_getD] at this
def sgF(xs ys:List Nat)(a1 a2 d2 q:Nat) :Nat:=lT (xs.getD (a1+q) 0) (ys.getD (a2+q*d2) 0)
theorem afw{xs ys:List Nat}{K a1 d1 a2 d2 o2:Nat}(hK:K≤512)(hx:∀ q,q<K→a1+q<xs.length)(hy:∀ q,q<K→a2+q*d2<ys.length)(hX:xs.length≤1000000)(hY:ys.length≤1000000) :
    bb 0 (K:Int) xs 1 (K:Int) (a1:Int) (d1:Int) 1 ys (K:Int) 1 (a2:Int) (d2:Int) (o2:Int)=some (.r0 (CN (sgF xs ys a1 a2 d2) K)):=by
  refine bk (ae (a:=()) rfl (ae (a:=CN (sgF xs ys a1 a2 d2) K) (dP (fun q=>(CN (sgF xs ys a1 a2 d2) q,(q:Int))) K rfl (fun q hq=>?_) (bU (iW (decide_eq_false (by show ¬ ((K:Int)<(K:Int));omega)) rfl))) rfl))
  refine ae (a:=rZ (CN (sgF xs ys a1 a2 d2) q) (sgF xs ys a1 a2 d2 q)) ?_ (bn (by rw [cw];omega) rfl)
  show (cq _ _ _ _ _ _ _ _ _ _ _ _ _ _ _).run=_
  unfold cq
  have hxq:=hx q hq
  have hyq:=hy q hq
  have P:=G6 (at_:=a1) (i:=0) (d:=d1) (j:=q) (o:=1) (L:=xs.length) (by omega) hX
  have e1:a1+0*d1+q*1=a1+q:=by omega
  rw [agv,K7,show ap 1 (K:Int) 0 (q:Int)=some (.r0 true) from kb (m:=1) (n:=K) (i:=0) (j:=q) (by omega) hq]
  refine vR (decide_eq_true (by omega)) (dt (ay (bx (cF (dt (ay (bx (bn P.a (bn P.b (bn P.c (bn P.d (bn P.e (bn P.f (dt (ay (bx ?_))))))))))))))))
  by_cases h1:K=1
  · subst h1
    have:q=0:=by omega
    subst this
    have P':=G6 (at_:=a2) (i:=0) (d:=d2) (j:=0) (o:=o2) (L:=ys.length) (by omega) hY
    have e2:a2+0*d2+0*o2=a2+0*d2:=by omega
    rw [show ap ((1:Nat):Int) 1 0 ((0:Nat):Int)=some (.r0 true) from kb (m:=1) (n:=1) (i:=0) (j:=0) (by omega) (by omega)]
    refine cF (dt (ay (bx (bn P'.a (bn P'.b (bn P'.c (bn P'.d (bn P'.e (bn P'.f ?_)))))))))
    show some (Sum.inl (rZ (CN (sgF xs ys a1 a2 d2) 0) (lT (xs.getD (Int.toNat ((a1:Int)+((0:Nat):Int)*(d1:Int)+((0:Nat):Int)*((1:Nat):Int))) 0) (ys.getD (Int.toNat ((a2:Int)+((0:Nat):Int)*(d2:Int)+((0:Nat):Int)*(o2:Int))) 0))))=_
    rw [P.g,P'.g,e1,e2]
    rfl
  · have P':=G6 (at_:=a2) (i:=q) (d:=d2) (j:=0) (o:=o2) (L:=ys.length) (by omega) hY
    have e2:a2+q*d2+0*o2=a2+q*d2:=by omega
    rw [show ap (K:Int) 1 (q:Int) 0=some (.r0 true) from kb (m:=K) (n:=1) (i:=q) (j:=0) hq (by omega)]
    refine iW (by rw [beq_eq_false_iff_ne];omega) (dt (ay (bx (bn P'.a (bn P'.b (bn P'.c (bn P'.d (bn P'.e (bn P'.f ?_)))))))))
    show some (Sum.inl (rZ (CN (sgF xs ys a1 a2 d2) q) (lT (xs.getD (Int.toNat ((a1:Int)+((0:Nat):Int)*(d1:Int)+(q:Int)*((1:Nat):Int))) 0) (ys.getD (Int.toNat ((a2:Int)+(q:Int)*(d2:Int)+((0:Nat):Int)*(o2:Int))) 0))))=_
    rw [P.g,P'.g,e1,e2]
    rfl
def XJ(A B o:List Nat)(a b K C q:Nat) :Nat:=rZ (lT b (o.getD q 0)) (lT a (CN (sgF A B (q/C*K) (q%C) C) K))
theorem IY{i j C:Nat}(hj:j<C) :(i*C+j)/C=i∧(i*C+j)%C=j:=by
  have hc:0<C:=by omega
  exact ⟨by rw [Nat.mul_comm,Nat.mul_add_div hc,Nat.div_eq_of_lt hj,Nat.add_zero],by rw [Nat.mul_comm,Nat.mul_add_mod,Nat.mod_eq_of_lt hj]⟩
theorem adp{c1 c4:Nat}{l2 l5 o:List Nat}{a b R K C am dm om an dn on:Nat}(hR:R≤512)(hK:K≤512)(hC:C≤512)(ho:o.length=R*C) 
    (hm:∀ i j,i<R→j<K→am+i*dm+j*om<l2.length) (hn:∀ i j,i<K→j<C→an+i*dn+j*on<l5.length) (h2:l2.length≤1000000) (h5:l5.length≤1000000) {c7:Nat} :
    gF l2.length c1 l2 l5.length c4 l5 o.length c7 o a (R:Int) (K:Int) (am:Int) (dm:Int) (om:Int) (K:Int) (C:Int) (an:Int) (dn:Int) (on:Int) b (R:Int) (C:Int) 0 (C:Int) 1
      = some (.r0 0 l2.length c1 l2 l5.length c4 l5 o.length c7 (mv (fun q=>q) (XJ (cx (Fi l2 K am dm om) (R*K)) (cx (Fi l5 C an dn on) (K*C)) o a b K C) o (R*C))):=by
  have hRK:R*K≤512*512:=Nat.mul_le_mul hR hK
  have hKC:K*C≤512*512:=Nat.mul_le_mul hK hC
  have hRC:R*C≤512*512:=Nat.mul_le_mul hR hC
  obtain ⟨A,hA⟩:∃ A,cx (Fi l2 K am dm om) (R*K)=A:=⟨_,rfl⟩
  obtain ⟨B,hB⟩:∃ B,cx (Fi l5 C an dn on) (K*C)=B:=⟨_,rfl⟩
  have lA:A.length=R*K:=by rw [←hA];exact bY
  have lB:B.length=K*C:=by rw [←hB];exact bY
  have cA:ba l2 (R:Int) (K:Int) (am:Int) (dm:Int) (om:Int)=some (.r0 R K (R*K) A):=by rw [←hA];exact Oa hR hK hm h2
  have cB:ba l5 (K:Int) (C:Int) (an:Int) (dn:Int) (on:Int)=some (.r0 K C (K*C) B):=by rw [←hB];exact Oa hK hC hn h5
  rw [hA,hB]
  refine bk (ae (a:=0) ?_ (ae (a:=((R:Int),(K:Int),(K:Int),(C:Int),R*K,K*C,A,B)) ?_ (ae (a:=()) rfl (ae (a:=mv (fun q=>q) (XJ A B o a b K C) o (R*C)) (Bd ?_) rfl))))
  · unfold xf
    exact cF (ay (cF (ay (cF (ay (cF (ay (cF (ay (cF (ay (bx (vR (beq_self_eq_true _) (vR (beq_self_eq_true _) (iW (by simp) rfl)))))))))))))))
  · unfold xg
    rw [ca,ca,cA,cB]
    exact bx (dt (ay (dt (ay rfl))))
  · refine Option.map_eq_some_iff.2 ⟨.inl (mv (fun q=>q) (XJ A B o a b K C) o (R*C),R*K,R*K,K*C,K*C,A,B),ae (a:=()) rfl (ae (a:=(mv (fun q=>q) (XJ A B o a b K C) o (R*C),R*K,R*K,K*C,K*C,A,B)) ?_ rfl),rfl⟩
    refine dP (fun i=>(i,mv (fun q=>q) (XJ A B o a b K C) o (i*C),R*K,R*K,K*C,K*C,A,B)) R (by rw [Nat.zero_mul];rfl) (fun i hi=>?_) (bU (dh rfl))
    refine ae (a:=()) (dd rfl) (ae (a:=(mv (fun q=>q) (XJ A B o a b K C) o ((i+1)*C),R*K,R*K,K*C,K*C,A,B)) (Bd ?_) (bn (by rw [cw];omega) rfl))
    refine ae (a:=()) rfl (ae (a:=(mv (fun q=>q) (XJ A B o a b K C) o ((i+1)*C),R*K,R*K,K*C,K*C,A,B)) ?_ rfl)
    refine dP (fun j=>(j,mv (fun q=>q) (XJ A B o a b K C) o (i*C+j),R*K,R*K,K*C,K*C,A,B)) C rfl (fun j hj=>?_) ?_
    · have hq:i*C+j<R*C:=nH hi hj
      have hL:(mv (fun q=>q) (XJ A B o a b K C) o (i*C+j)).length=R*C:=by rw [dQ,ho]
      refine ae (a:=(mv (fun q=>q) (XJ A B o a b K C) o (i*C+(j+1)),R*K,R*K,K*C,K*C,A,B)) ?_ (bn (by rw [cw];omega) rfl)
      show (qy _ _ _ _ _ _ _ _ _ _ _ _ _ _ _ _ _ _ _ _ _).run=_
      unfold qy
      have pr:=B4 (n:=R*K) (c:=R*K) (xs:=A) (r:=R) (w:=K) (i:=i) (j:=0) (m:=1) (k:=K) (at_:=0) (d:=K) (o:=1) hR hK (by omega) (by omega) (by omega) (by omega) (by omega)
      have pc:=B4 (n:=K*C) (c:=K*C) (xs:=B) (r:=K) (w:=C) (i:=0) (j:=j) (m:=K) (k:=1) (at_:=0) (d:=C) (o:=1) hK hC (by omega) (by omega) (by omega) (by omega) (by omega)
      have e1:0+i*K+0*1=i*K:=by omega
      have e2:0+0*C+j*1=j:=by omega
      rw [e1] at pr
      rw [e2] at pc
      have sm:=afw (xs:=A) (ys:=B) (K:=K) (a1:=i*K) (d1:=K) (a2:=j) (d2:=C) (o2:=1) hK (fun q hq=>by rw [lA];exact nH hi hq) (fun q hq=>by rw [lB,Nat.add_comm];exact nH hq hj) (by omega) (by omega)
      have P:=G6 (at_:=0) (i:=i) (d:=C) (j:=j) (o:=1) (L:=o.length) (by omega) (by omega)
      have e3:0+i*C+j*1=i*C+j:=by omega
      rw [kb hi hj,show aa (R*K) (R*K) A (R:Int) (K:Int) 0 (K:Int) 1 (i:Int) 0 1 (K:Int)=_ from pr,show aa (K*C) (K*C) B (K:Int) (C:Int) 0 (C:Int) 1 0 (j:Int) (K:Int) 1=_ from pc]
      have sA:ab 0 (R*K) A=A:=je lA
      have sB:ab 0 (K*C) B=B:=je lB
      refine dd (bn (by rw [ct,hL,ho];omega) (ay (bx (bn P.a (bn P.b (bn P.c (bn P.d (bn P.e (bn (by rw [hL,←ho];exact P.f) ?_)))))))))
      refine ay (ay (ay (ay (ay (ay (ay (ay (xU (ay (ay (ay (xU (ay ?_)))))))))))))
      simp only [aE,bK,aF,aO,aP,aQ,aR,aS,sA,sB]
      refine bn (by rw [ct,lA];omega) (bn (by rw [ct,lB];omega) ?_)
      rw [show bb 0 (K:Int) A ((1:Nat):Int) (K:Int) ((i*K:Nat):Int) (K:Int) ((1:Nat):Int) B (K:Int) ((1:Nat):Int) (j:Int) (C:Int) ((1:Nat):Int)=_ from sm]
      refine ay (bn (by rw [ct,hL,ho];omega) (ay (bx (bn P.a (bn P.b (bn P.c (bn P.d (bn P.e (bn (by rw [hL,←ho];exact P.f) ?_)))))))))
      show some (Sum.inl ((mv (fun q=>q) (XJ A B o a b K C) o (i*C+j)).set (Int.toNat (((0:Nat):Int)+(i:Int)*(C:Int)+(j:Int)*((1:Nat):Int))) (rZ (lT b ((mv (fun q=>q) (XJ A B o a b K C) o (i*C+j)).getD (Int.toNat (((0:Nat):Int)+(i:Int)*(C:Int)+(j:Int)*((1:Nat):Int))) 0)) (lT a (CN (sgF A B (i*K) j C) K))),R*K,R*K,K*C,K*C,A,B))=_
      rw [P.g,e3,nG (fun q hq=>by show q≠i*C+j;omega)]
      obtain ⟨d1,d2⟩:=IY (i:=i) hj
      have hv:rZ (lT b (o.getD (i*C+j) 0)) (lT a (CN (sgF A B (i*K) j C) K))=XJ A B o a b K C (i*C+j):=by unfold XJ;rw [d1,d2]
      rw [hv]
      rfl
    · rw [show (i+1)*C=i*C+C from Nat.succ_mul i C]
      exact bU (dh rfl)
def K8(l s:List Nat)(K j n:Nat) :List Nat:=mv (fun i=>i*K+j) (fun i=>fdiv (l.getD (i*K+j) 0) (s.getD j 0)) l n
def dvL(l s:List Nat)(K R n:Nat) :List Nat:=abn (fun j l=>K8 l s K j R) l n
theorem ab0{l s:List Nat}{K j n:Nat} :(K8 l s K j n).length=l.length:=dQ
theorem CG{l s:List Nat}{K R:Nat} :∀ {n:Nat},(dvL l s K R n).length=l.length
  | 0=>rfl
  | n+1=>by
    show (K8 (dvL l s K R n) s K n R).length=_
    rw [ab0,CG]
theorem TN{K j a b:Nat}(hj:j<K)(h:a*K+j=b*K+j) :a=b:=(K2 hj hj h).1
theorem ahG{l s:List Nat}{K j R i:Nat}(hj:j<K)(hi:i<R)(hl:l.length=R*K) :(K8 l s K j R).getD (i*K+j) 0=fdiv (l.getD (i*K+j) 0) (s.getD j 0) :=
  B5 (pos:=fun i=>i*K+j) (val:=fun i=>fdiv (l.getD (i*K+j) 0) (s.getD j 0)) hi (fun a b _ _ h=>TN hj h) (by rw [hl];exact nH hi hj)
theorem agx{l s:List Nat}{K j R i k:Nat}(hj:j<K)(hk:k<K)(hne:k≠j) :(K8 l s K j R).getD (i*K+k) 0=l.getD (i*K+k) 0 :=
  nG (fun q _ h=>hne (K2 hk hj h.symm).2)
theorem ab1{l s:List Nat}{K R i j:Nat}(hi:i<R)(hj:j<K)(hl:l.length=R*K) :∀ {n:Nat},n≤K→(dvL l s K R n).getD (i*K+j) 0=if j<n then fdiv (l.getD (i*K+j) 0) (s.getD j 0) else l.getD (i*K+j) 0
  | 0,_=>by rw [if_neg (Nat.not_lt_zero _)];rfl
  | n+1,hn=>by
    show (K8 (dvL l s K R n) s K n R).getD (i*K+j) 0=_
    have ih:=ab1 (l:=l) (s:=s) hi hj hl (n:=n) (by omega)
    by_cases e:j=n
    · subst e
      rw [ahG hj hi (by rw [CG,hl]),ih,if_neg (Nat.lt_irrefl _),if_pos (Nat.lt_succ_self _)]
    · rw [agx (by omega) hj e,ih]
      by_cases q:j<n
      · rw [if_pos q,if_pos (by omega)]
      · rw [if_neg q,if_neg (by omega)]
theorem agy{s l:List Nat}{K R j:Nat}(hR:R≤512)(hK:K≤512)(hj:j<K)(hs:j<s.length)(hS:s.length≤1000000)(hl:l.length=R*K){c:Nat} :
    dJ (mo s j (R:Int) 1 (j:Int) (K:Int) 1 (R:Int)) (0,R*K,c,l)=some (.inl (R*K,c,K8 l s K j R)):=by
  have hRK:R*K≤512*512:=Nat.mul_le_mul hR hK
  refine dP (fun i=>(i,R*K,c,K8 l s K j i)) R rfl (fun i hi=>?_) (bU (iW (decide_eq_false (by show ¬ ((R:Int)<(R:Int));omega)) rfl))
  have hq:i*K+j<R*K:=nH hi hj
  have hL:(K8 l s K j i).length=R*K:=by rw [ab0,hl]
  have hg:(K8 l s K j i).getD (i*K+j) 0=l.getD (i*K+j) 0:=nG (fun q hq' h=>by have:=TN hj h;omega)
  refine ae (a:=(R*K,c,K8 l s K j (i+1))) ?_ (bn (by rw [cw];omega) rfl)
  show (qJ _ _ _ _ _ _ _ _ _ _ _ _).run=_
  unfold qJ
  have pc:=agw (n:=R*K) (c:=c) (xs:=K8 l s K j i) (r:=R) (at_:=j) (d:=K) (o:=1) (i:=i) (x:=fdiv (l.getD (i*K+j) 0) (s.getD j 0)) hL.symm hi (by rw [hL];omega) (by omega)
  have e0:j+i*K=i*K+j:=by omega
  rw [e0] at pc
  have eY:(K8 l s K j i).set (i*K+j) (fdiv (l.getD (i*K+j) 0) (s.getD j 0))=K8 l s K j (i+1):=rfl
  rw [eY] at pc
  rw [show aT (R:Int) 1=some (.r0 true) from K7 R]
  refine vR (decide_eq_true (by omega)) (bn (by rw [ct,hL];omega) (ay (bx ?_)))
  by_cases h1:R=1
  · subst h1
    have:i=0:=by omega
    subst this
    have P:=G6 (at_:=j) (i:=0) (d:=K) (j:=0) (o:=1) (L:=1*K) (by omega) (by omega)
    have e1:j+0*K+0*1=0*K+j:=by omega
    rw [show ap ((1:Nat):Int) 1 0 ((0:Nat):Int)=some (.r0 true) from kb (m:=1) (n:=1) (i:=0) (j:=0) (by omega) (by omega)]
    have key:(K8 l s K j 0).getD (Int.toNat ((j:Int)+((0:Nat):Int)*(K:Int)+((0:Nat):Int)*((1:Nat):Int))) 0=l.getD (0*K+j) 0:=by rw [P.g,e1];exact hg
    have pc':bC (1*K) c (K8 l s K j 0) ((1:Nat):Int) 1 (j:Int) (K:Int) 1 ((0:Nat):Int) (fdiv ((K8 l s K j 0).getD (Int.toNat ((j:Int)+0*(K:Int)+((0:Nat):Int)*1)) 0) (s.getD j 0))=some (.r0 0 (1*K) c (K8 l s K j (0+1))):=by
      rw [show (K8 l s K j 0).getD (Int.toNat ((j:Int)+0*(K:Int)+((0:Nat):Int)*1)) 0=l.getD (0*K+j) 0 from key];exact pc
    refine cF (bn (by rw [ct,hL];omega) (ay (bx (bn P.a (bn P.b (bn P.c (bn P.d (bn P.e (bn (by rw [hL];exact P.f) (bn (by rw [sy];omega) (bn (by rw [jd];exact hs) ?_)))))))))))
    rw [pc']
    exact ay rfl
  · have P:=G6 (at_:=j) (i:=i) (d:=K) (j:=0) (o:=1) (L:=R*K) (by omega) (by omega)
    have e1:j+i*K+0*1=i*K+j:=by omega
    rw [show ap (R:Int) 1 (i:Int) 0=some (.r0 true) from kb (m:=R) (n:=1) (i:=i) (j:=0) hi (by omega)]
    have key:(K8 l s K j i).getD (Int.toNat ((j:Int)+(i:Int)*(K:Int)+((0:Nat):Int)*((1:Nat):Int))) 0=l.getD (i*K+j) 0:=by rw [P.g,e1];exact hg
    have pc':bC (R*K) c (K8 l s K j i) (R:Int) 1 (j:Int) (K:Int) 1 (i:Int) (fdiv ((K8 l s K j i).getD (Int.toNat ((j:Int)+(i:Int)*(K:Int)+0*1)) 0) (s.getD j 0))=some (.r0 0 (R*K) c (K8 l s K j (i+1))):=by
      rw [show (K8 l s K j i).getD (Int.toNat ((j:Int)+(i:Int)*(K:Int)+0*1)) 0=l.getD (i*K+j) 0 from key];exact pc
    refine iW (by rw [beq_eq_false_iff_ne];omega) (bn (by rw [ct,hL];omega) (ay (bx (bn P.a (bn P.b (bn P.c (bn P.d (bn P.e (bn (by rw [hL];exact P.f) (bn (by rw [sy];omega) (bn (by rw [jd];exact hs) ?_)))))))))))
    rw [pc']
    exact ay rfl
theorem agz{s l:List Nat}{K R:Nat}(hR:R≤512)(hK:K≤512)(hs:K≤s.length)(hS:s.length≤1000000)(hl:l.length=R*K) :
    dJ (mp s (K:Int) (R:Int) (K:Int)) (0,R*K,R*K,l)=some (.inl (R*K,R*K,dvL l s K R K)):=by
  refine dP (fun j=>(j,R*K,R*K,dvL l s K R j)) K rfl (fun j hj=>?_) (bU (iW (decide_eq_false (by show ¬ ((K:Int)<(K:Int));omega)) rfl))
  have hL:(dvL l s K R j).length=R*K:=by rw [CG,hl]
  have pr:=B4 (n:=R*K) (c:=R*K) (xs:=dvL l s K R j) (r:=R) (w:=K) (i:=0) (j:=j) (m:=R) (k:=1) (at_:=0) (d:=K) (o:=1) hR hK (by omega) (by omega) (by omega) (by omega) (by omega)
  have e1:0+0*K+j*1=j:=by omega
  rw [e1] at pr
  refine ae (a:=()) (vR (decide_eq_true (by omega)) rfl) (ae (a:=(R*K,R*K,dvL l s K R (j+1))) (Bd ?_) (bn (by rw [cw];omega) rfl))
  refine ae (a:=((R:Int),(1:Int),(j:Int),(K:Int),(1:Int),R*K,R*K,dvL l s K R j)) ?_ (ae (a:=(R:Int)) ?_ (ae (a:=(R*K,R*K,dvL l s K R (j+1))) ?_ rfl))
  · show (qH _ _ _ _ _ _).run=_
    unfold qH
    rw [show aa (R*K) (R*K) (dvL l s K R j) (R:Int) (K:Int) 0 (K:Int) 1 0 (j:Int) (R:Int) 1=_ from pr]
    exact xU (ay rfl)
  · show (qI _ _ _ _).run=_
    unfold qI
    rw [show aT (R:Int) 1=some (.r0 true) from K7 R,Int.mul_one]
    exact bn (by rw [ct,hL];omega) (ay (bx (bn (by rw [cw];omega) rfl)))
  · exact agy hR hK hj (by omega) hS hL
def DZ(v s:List Nat)(vc K R n:Nat)(l:List Nat) :List Nat:=abn (fun j l=>mv (fun i=>i*K+j) (fun i=>fdiv (v.getD (i*vc+j) 0) (s.getD j 0)) l R) l n
def D0(u:List Nat)(uc C n:Nat)(l:List Nat) :List Nat:=abn (fun j l=>mv (fun i=>j*C+i) (fun i=>u.getD (i*uc+j) 0) l C) l n
theorem IZ{v s:List Nat}{vc K R:Nat}{l:List Nat} :∀ {n:Nat},(DZ v s vc K R n l).length=l.length
  | 0=>rfl
  | n+1=>by
    show (mv _ _ (DZ v s vc K R n l) R).length=_
    rw [dQ,IZ]
theorem I0{u:List Nat}{uc C:Nat}{l:List Nat} :∀ {n:Nat},(D0 u uc C n l).length=l.length
  | 0=>rfl
  | n+1=>by
    show (mv _ _ (D0 u uc C n l) C).length=_
    rw [dQ,I0]
theorem I1{v s:List Nat}{vc K R i j:Nat}{l:List Nat}(hi:i<R)(hj:j<K)(hl:l.length=R*K) :∀ {n:Nat},n≤K→j<n→(DZ v s vc K R n l).getD (i*K+j) 0=fdiv (v.getD (i*vc+j) 0) (s.getD j 0)
  | 0,_,h=>absurd h (Nat.not_lt_zero _)
  | n+1,hn,h=>by
    show (mv (fun i=>i*K+n) (fun i=>fdiv (v.getD (i*vc+n) 0) (s.getD n 0)) (DZ v s vc K R n l) R).getD (i*K+j) 0=_
    by_cases e:j=n
    · subst e
      exact B5 (pos:=fun i=>i*K+j) (val:=fun i=>fdiv (v.getD (i*vc+j) 0) (s.getD j 0)) hi (fun a b _ _ h=>TN hj h) (by rw [IZ,hl];exact nH hi hj)
    · rw [nG (fun q _ h=>e (K2 hj (by omega) h.symm).2)]
      exact I1 hi hj hl (n:=n) (by omega) (by omega)
theorem I2{u:List Nat}{uc C K i j:Nat}{l:List Nat}(hi:i<C)(hj:j<K)(hl:l.length=K*C) :∀ {n:Nat},n≤K→j<n→(D0 u uc C n l).getD (j*C+i) 0=u.getD (i*uc+j) 0
  | 0,_,h=>absurd h (Nat.not_lt_zero _)
  | n+1,hn,h=>by
    show (mv (fun i=>n*C+i) (fun i=>u.getD (i*uc+n) 0) (D0 u uc C n l) C).getD (j*C+i) 0=_
    by_cases e:j=n
    · subst e
      exact B5 (pos:=fun i=>j*C+i) (val:=fun i=>u.getD (i*uc+j) 0) hi (fun a b ha hb h=>by omega) (by rw [I0,hl];exact nH hj hi)
    · rw [nG (fun q hq h=>e (K2 hi hq h.symm).1)]
      exact I2 hi hj hl (n:=n) (by omega) (by omega)
theorem aaK(w:Int) :∃ k,kG w=some (.r0 k):=by
  unfold kG BT
  cases h1:(bE .and .u64 (Int.fdiv w (2^(min (Int.toNat (52:Int)) (IntKind.u64.bits)))) (2047:Int))==(2047:Int) with
  | true =>
    cases h2:(bE .and .u64 w (4503599627370495:Int))==(0:Int) with
    | true=>exact ⟨4,bk (ay (cF (cF rfl)))⟩
    | false=>exact ⟨5,bk (ay (cF (bx rfl)))⟩
  | false =>
    cases h2:decide ((bE .and .u64 (Int.fdiv w (2^(min (Int.toNat (52:Int)) (IntKind.u64.bits)))) (2047:Int))>(0:Int)) with
    | true=>exact ⟨3,bk (ay (bx (cF rfl)))⟩
    | false =>
      cases h3:decide ((bE .and .u64 w (4503599627370495:Int))>(0:Int)) with
      | true=>exact ⟨2,bk (ay (bx (bx (cF rfl))))⟩
      | false=>exact ⟨1,bk (ay (bx (bx (bx rfl))))⟩
theorem afx(w:Int) :∃ y,io w=some (.r0 y):=by
  obtain ⟨k,hk⟩:=aaK w
  have h3:(zA w).run=some (.inl ((k:Int)==5)):=by
    unfold zA
    rw [hk]
    exact ay rfl
  cases hq:((k:Int)==5) with
  | true=>rw [hq] at h3;exact ⟨_,bk (ae h3 (cF rfl))⟩
  | false=>rw [hq] at h3;exact ⟨_,bk (ae h3 (bx rfl))⟩
theorem adq{l:List Nat}(hn:l.length≤1000000) :iC l l=some (.r0 true):=by
  refine bk (ae (a:=()) (iW (by simp) rfl) (ae (a:=()) (dP (fun j=>j) l.length rfl (fun j hj=>?_) (bU (dh rfl))) rfl))
  refine ae (a:=()) ?_ (aj rfl)
  unfold rX
  obtain ⟨y,hy⟩:=afx ((l.getD j 0:Nat):Int)
  rw [hy]
  refine dd (aj (aj ?_))
  cases hx:isNaN (l.getD j 0) with
  | false=>exact xU (ay (ay (aj (aj (xU (ay (ay (iW (by simp) rfl))))))))
  | true=>exact YC (YD rfl) (xU (ay (aj (aj (YC (YD rfl) (xU (ay (bx rfl))))))))
theorem TO{r c:Int}{l:List Nat}(hn:l.length≤1000000) :iD r c l r c l=some (.r0 true):=by
  refine bk (ae (a:=true) ?_ rfl)
  unfold sH
  rw [ca,adq hn]
  exact vR (beq_self_eq_true _) (vR (beq_self_eq_true _) (dt (dt (ay rfl))))
theorem agA{s:List Nat}(hn:s.length≤1000000) :(qB s).run=some (.inl (N4 s)):=by
  unfold qB
  rw [ca,N5 hn]
  exact dt (ay rfl)
theorem ab2{G:List Nat}{C n:Nat}(h:G.length=n) :cx (Fi G C 0 C 1) n=G:=by
  refine G5 (by rw [bY,h]) fun q hq=>?_
  rw [bY] at hq
  rw [iK hq]
  unfold Fi
  rw [Nat.zero_add,Nat.mul_one,Nat.mul_comm,Nat.div_add_mod]
theorem agB{s v:List Nat}{R vc K:Nat}(hK:K≤vc) :dvL (cx (Fi v K 0 vc 1) (R*K)) s K R K=DZ v s vc K R K (List.replicate (R*K) 0):=by
  have hl:(cx (Fi v K 0 vc 1) (R*K)).length=R*K:=bY
  have hl':(List.replicate (R*K) 0).length=R*K:=List.length_replicate
  refine G5 (by rw [CG,IZ,hl,hl']) fun p hp=>?_
  rw [CG,hl] at hp
  have hK0:0<K:=by
    rcases Nat.eq_zero_or_pos K with e | e
    · subst e;simp at hp
    · exact e
  have hi:p/K<R:=Nat.div_lt_of_lt_mul (by rw [Nat.mul_comm];exact hp)
  have hj:p%K<K:=Nat.mod_lt _ hK0
  have hpe:p=p/K*K+p%K:=by rw [Nat.mul_comm];exact (Nat.div_add_mod p K).symm
  generalize p/K=i at hi hpe
  generalize p%K=j at hj hpe
  subst hpe
  rw [ab1 hi hj hl (Nat.le_refl K),if_pos hj,I1 hi hj hl' (Nat.le_refl K) hj,iK (nH hi hj),aaJ hj,Nat.zero_add,Nat.mul_one]
theorem agC{u:List Nat}{C uc K:Nat} :cx (Fi u C 0 1 uc) (K*C)=D0 u uc C K (List.replicate (K*C) 0):=by
  have hl':(List.replicate (K*C) 0).length=K*C:=List.length_replicate
  refine G5 (by rw [bY,I0,hl']) fun p hp=>?_
  rw [bY] at hp
  have hC0:0<C:=by
    rcases Nat.eq_zero_or_pos C with e | e
    · subst e;simp at hp
    · exact e
  have hj:p/C<K:=Nat.div_lt_of_lt_mul (by rw [Nat.mul_comm];exact hp)
  have hi:p%C<C:=Nat.mod_lt _ hC0
  have hpe:p=p/C*C+p%C:=by rw [Nat.mul_comm];exact (Nat.div_add_mod p C).symm
  generalize p/C=j at hj hpe
  generalize p%C=i at hi hpe
  subst hpe
  rw [iK (nH hj hi),aaJ hi,I2 hi hj hl' (Nat.le_refl K) hj]
  congr 1
  omega
theorem ab3:J2<sf:=by decide +kernel
theorem ab4{t u:Nat}(ht:t<sf)(hu:u<sf) :uw t u<sf:=by
  unfold uw
  have:=ab3
  split<;>(try split)<;>assumption
theorem ab5{t u:Nat}(ht:t<sf)(hu:u<sf) :wE t u<sf:=by
  unfold wE
  have:=ab3
  split<;>(try split)<;>assumption
theorem Ob{s:List Nat}{t:Nat}(hw:Wd s)(ht:t<sf)(hn:s.length≤600) :∃ (k:Int) (e:Nat),ed s t=some (.r0 k e) ∧
    (e=0→Ac s∧Fn s∧PX t=true∧∃ K:Nat,k=(K:Int)∧K≤s.length∧(∀ i,i<K→AD s t i=false)∧∀ i,K≤i→i<s.length→AD s t i=true):=by
  have p8:(lJ s).run=some (.inl (N4 s)):=by
    unfold lJ
    rw [ca,N5 (by omega)]
    exact dt (ay rfl)
  cases hm:PX t with
  | false =>
    refine ⟨0,2,bk (ae p8 (bU ?_)),fun h=>by cases h⟩
    unfold ju
    rw [G2,hm]
    rcases N6 s with ⟨q,_⟩ | q | q<;>rw [q]
    · exact bx (ay (cF rfl))
    · exact cF rfl
    · exact bx (ay (cF rfl))
  | true =>
    rcases N6 s with ⟨q,hF,hf⟩ | q | q
    · obtain ⟨k,hk,k1,k2,k3⟩:=XF hw hf hF ht hm hn
      exact ⟨_,_,hk,fun _=>⟨hF,hf,rfl,k,rfl,k1,k2,k3⟩⟩
    · exact ⟨0,2,bk (ae p8 (bU (by unfold ju;rw [q];exact cF rfl))),fun h=>by cases h⟩
    · exact ⟨0,10,bk (ae p8 (bU (by unfold ju;rw [G2,hm,q];exact bx (ay (bx (cF rfl)))))),fun h=>by cases h⟩
theorem aaL{t u:Nat}(ht:t<sf)(hu:u<sf)(h1:PX (uw t u)=true)(h2:PX (wE t u)=true) :fz (uw t u)≤fz (wE t u):=by
  have f1:=(TL (ab4 ht hu) h1).1
  have f2:=(TL (ab5 ht hu) h2).1
  have hn:PX J2=false:=by decide +kernel
  cases hd:nw t u with
  | none =>
    have:uw t u=J2:=by unfold uw;rw [hd]
    rw [this,hn] at h1;cases h1
  | some o =>
    cases o with
    | lt =>
      have e1:uw t u=t:=by unfold uw;rw [hd]
      have e2:wE t u=u:=by unfold wE;rw [hd]
      rw [e1] at f1 ⊢
      rw [e2] at f2 ⊢
      rw [G4 ht hu f1 f2,Option.some.injEq] at hd
      have:=Int.compare_eq_lt.1 hd
      omega
    | gt =>
      have e1:uw t u=u:=by unfold uw;rw [hd]
      have e2:wE t u=t:=by unfold wE;rw [hd]
      rw [e1] at f1 ⊢
      rw [e2] at f2 ⊢
      rw [G4 ht hu f2 f1,Option.some.injEq] at hd
      have:=Int.compare_eq_gt.1 hd
      omega
    | eq =>
      by_cases hs:(FloatKind.f64.decode t).neg=true
      · have e1:uw t u=t:=by unfold uw;rw [hd];exact if_pos hs
        have e2:wE t u=u:=by unfold wE;rw [hd];exact if_pos hs
        rw [e1] at f1 ⊢
        rw [e2] at f2 ⊢
        rw [G4 ht hu f1 f2,Option.some.injEq] at hd
        have:=Int.compare_eq_eq.1 hd
        omega
      · have e1:uw t u=u:=by unfold uw;rw [hd];exact if_neg hs
        have e2:wE t u=t:=by unfold wE;rw [hd];exact if_neg hs
        rw [e1] at f1 ⊢
        rw [e2] at f2 ⊢
        rw [G4 ht hu f2 f1,Option.some.injEq] at hd
        have:=Int.compare_eq_eq.1 hd
        omega
theorem adr{s:List Nat}(hw:Wd s)(hF:Ac s)(hf:Fn s)(h0:0<s.length) :0≤fz (s.getD 0 0):=by
  have hz:fz 0=0:=by decide +kernel
  have f0:pQ 0=true:=by decide +kernel
  have hb:=hF 0 h0
  unfold B2 at hb
  rw [Bool.or_eq_false_iff] at hb
  have h2:=hb.1
  rw [ahD (hw _) (by decide) (hf _ h0) f0,decide_eq_false_iff_not,hz] at h2
  omega
theorem XK{s:List Nat}{t u:Nat}(hw:Wd s)(ht:t<sf)(hu:u<sf)(hn:s.length≤600) :∃ (a:Int) (e:Nat) (b:Int) (f:Nat),ed s (uw t u)=some (.r0 a e)∧ed s (wE t u)=some (.r0 b f)∧(e=0→f=0→b≤a):=by
  obtain ⟨a,e,h1,h2⟩:=Ob hw (ab4 ht hu) hn
  obtain ⟨b,f,h3,h4⟩:=Ob hw (ab5 ht hu) hn
  refine ⟨a,e,b,f,h1,h3,fun he hf=>?_⟩
  obtain ⟨hF,hfn,hm1,A,rfl,a1,a2,a3⟩:=h2 he
  obtain ⟨_,_,hm2,B,rfl,b1,b2,b3⟩:=h4 hf
  refine Classical.byContradiction fun hlt=>?_
  have hAB:A<B:=by omega
  have n1:=a3 A (Nat.le_refl _) (by omega)
  have n2:=b2 A hAB
  unfold AD at n1 n2
  rw [decide_eq_true_eq] at n1
  rw [decide_eq_false_iff_not] at n2
  have hp:=adr hw hF hfn (by omega)
  have hle:=aaL ht hu hm1 hm2
  have:=Int.mul_le_mul_of_nonneg_right hle hp
  exact n2 (Int.le_trans n1 this)
theorem agD{s:List Nat}{t u:Nat}(hw:Wd s)(ht:t<sf)(hu:u<sf) :(mC s t u).run=some (.inl ()):=by
  unfold mC
  by_cases hn:s.length≤600
  · obtain ⟨a,e,b,f,h1,h2,h3⟩:=XK hw ht hu hn
    rw [ca,h1,h2]
    refine bx (vR (decide_eq_true (by omega)) (dt (ay (dt (ay ?_)))))
    simp only [jv,jw]
    by_cases he:e=0
    · subst he
      by_cases hf:f=0
      · subst hf
        have:=h3 rfl rfl
        exact cF (cF (iW (decide_eq_false (by omega)) rfl))
      · exact cF (iW (by rw [beq_eq_false_iff_ne];omega) rfl)
    · exact iW (by rw [beq_eq_false_iff_ne];omega) rfl
  · exact bx (iW (decide_eq_false (by omega)) rfl)
def one:Nat:=4607182418800017408
def Dk(k:Nat) :Nat:=(k+923)*4503599627370496
def pw(l:Int) :Nat:=Dk (l+100).toNat
def pwB(k:Nat) :Bool:=Nat.beq (fdiv one (Dk k)) (Dk (200-k))&&(Nat.beq (lT (Dk k) one) (Dk k)&&(Nat.beq (lT one (Dk k)) (Dk k)&&(Nat.beq (rZ 0 (Dk k)) (Dk k)&&(Nat.beq (rZ (Dk k) 0) (Dk k)&&(Nat.beq (lT (Dk k) 0) 0&&(Nat.beq (fdiv 0 (Dk k)) 0 &&
  (pQ (Dk k)&&((flt (Dk k) 0==false)&&decide (fz (Dk k)=((2^(k+974):Nat):Int))))))))))
noncomputable def ldB(k:Nat) :Bool:=match eL 4607182418800017408 ((k:Int)-100) with
  | some (.r0 p)=>Nat.beq p (Dk k)
  | none=>false
theorem ahH:(List.range 201).all pwB=true:=by decide +kernel
theorem ahI:(List.range 201).all ldB=true:=by kernel_rfl
structure PwF (k:Nat):Prop where
  inv:fdiv one (Dk k)=Dk (200-k)
  r1:lT (Dk k) one=Dk k
  l1:lT one (Dk k)=Dk k
  l0:rZ 0 (Dk k)=Dk k
  r0:rZ (Dk k) 0=Dk k
  z:lT (Dk k) 0=0
  d:fdiv 0 (Dk k)=0
  fi:pQ (Dk k)=true
  pos:flt (Dk k) 0=false
  num:fz (Dk k)=((2^(k+974):Nat):Int)
theorem pwf{k:Nat}(h:k≤200) :PwF k:=by
  have q:=List.all_eq_true.1 ahH k (List.mem_range.2 (by omega))
  unfold pwB at q
  simp only [Bool.and_eq_true,beq_iff_eq,decide_eq_true_eq] at q
  obtain ⟨a,b,c,d,e,f,g,i,j,n⟩:=q
  exact ⟨Nat.eq_of_beq_eq_true a,Nat.eq_of_beq_eq_true b,Nat.eq_of_beq_eq_true c,Nat.eq_of_beq_eq_true d,Nat.eq_of_beq_eq_true e,Nat.eq_of_beq_eq_true f,Nat.eq_of_beq_eq_true g,i,j,n⟩
theorem Oc{l:Int}(h1 : -100≤l)(h2:l≤100) :eL 4607182418800017408 l=some (.r0 (pw l)):=by
  have q:=List.all_eq_true.1 ahI (l+100).toNat (List.mem_range.2 (by omega))
  unfold ldB at q
  have e:(((l+100).toNat:Nat):Int)-100=l:=by omega
  rw [e] at q
  unfold pw
  split at q
  · rename_i p hp
    rw [hp,Nat.eq_of_beq_eq_true q]
  · cases q
theorem aij{l:Int}(h1 : -100≤l)(h2:l≤100) :pw l<sf:=by
  unfold pw Dk sf
  omega
theorem ahJ{l:Int}(h1 : -100≤l)(h2:l≤100) :fdiv one (pw l)=pw (0-l):=by
  unfold pw
  rw [(pwf (k:=(l+100).toNat) (by omega)).inv]
  congr 1
  omega
theorem zz:lT 0 one=0∧lT one 0=0∧lT 0 0=0∧rZ 0 0=0:=by decide +kernel
def PY(l:List Int)(j:Nat) :Prop:=-100≤l.getD j 0∧l.getD j 0≤100∧(0<j→l.getD j 0≤l.getD (j-1) 0)
def Of(l:List Int)(j:Nat) :List Nat:=cx (fun q=>pw (l.getD q 0)) j
def Od(n j:Nat) :List Nat:=mv (fun i=>i*n+i) (fun _=>one) (List.replicate (n*n) 0) j
def wnF(l:List Int)(n j:Nat) :List Nat:=mv (fun i=>i*n+i) (fun i=>pw (0-l.getD i 0)) (List.replicate (n*n) 0) j
theorem K9{n j:Nat} :(Od n j).length=n*n:=by unfold Od;rw [dQ,List.length_replicate]
theorem TP{l:List Int}{n j:Nat} :(wnF l n j).length=n*n:=by unfold wnF;rw [dQ,List.length_replicate]
theorem G7{l:List Int}{j:Nat} :(Of l j).length=j:=bY
theorem agZ{n i:Nat}(h:i<n) :i*n+i<n*n:=nH h h
theorem afz{n i j q:Nat}(hj:j<n)(hq:q<n)(h:i*n+j=q*n+q) :i=q∧j=q:=by
  obtain ⟨a,b⟩:=IY (i:=i) hj
  obtain ⟨c,d⟩:=IY (i:=q) hq
  rw [h] at a b
  exact ⟨a.symm.trans c,b.symm.trans d⟩
theorem TQ{val:Nat→Nat}{n i j:Nat}(hi:i<n)(hj:j<n) :(mv (fun i=>i*n+i) val (List.replicate (n*n) 0) n).getD (i*n+j) 0=if i=j then val i else 0:=by
  by_cases h:i=j
  · subst h
    rw [if_pos rfl]
    exact B5 (pos:=fun i=>i*n+i) hi (fun a b ha hb e=>(afz ha hb e).1) (by rw [List.length_replicate];exact agZ hi)
  · rw [if_neg h,nG (fun q hq e=>?_)]
    · rw [List.getD_eq_getElem?_getD,List.getElem?_replicate]
      split<;>rfl
    · obtain ⟨a,b⟩:=afz hj hq e.symm
      omega
theorem Oe{f:Nat→Nat} :∀ {n:Nat},(∀ q,q<n→f q=0)→CN f n=0
  | 0,_=>rfl
  | n+1,h=>by
    simp only [CN]
    rw [Oe fun q hq=>h q (by omega),h n (by omega)]
    exact zz.2.2.2
theorem ab6{f:Nat→Nat}{i x:Nat}(hl:rZ 0 x=x)(hr:rZ x 0=x) :∀ {n:Nat},(∀ q,q<n→f q=if q=i then x else 0)→i<n→CN f n=x
  | n+1,h,hi=>by
    simp only [CN]
    by_cases e:i=n
    · subst e
      rw [Oe fun q hq=>by rw [h q (by omega),if_neg (by omega)],h i (by omega),if_pos rfl,hl]
    · rw [ab6 hl hr (fun q hq=>h q (by omega)) (by omega),h n (by omega),if_neg (fun q=>e q.symm),hr]
theorem afA{s u v:List Nat}{R vc C uc K:Nat}(hn:s.length≤1000000)(he:N4 s=0)(hR:R≤512)(hvc:vc≤512)(hC:C≤512)(huc:uc≤512)(hu:u.length=C*uc)(hv:v.length=R*vc)(hs:vc=s.length)(hs':uc=s.length)(hK:K≤s.length) :
    dX s (C:Int) (uc:Int) u (R:Int) (vc:Int) v (K:Int)=some (.r0 0 R C (R*C) (R*C) (mv (fun q=>q) (XJ (DZ v s vc K R K (List.replicate (R*K) 0)) (D0 u uc C K (List.replicate (K*C) 0)) (List.replicate (R*C) 0) 4607182418800017408 0 K C) (List.replicate (R*C) 0) (R*C))):=by
  have hK':K≤512:=by omega
  have hRK:R*K≤512*512:=Nat.mul_le_mul hR hK'
  have hRC:R*C≤512*512:=Nat.mul_le_mul hR hC
  have hRV:R*vc≤512*512:=Nat.mul_le_mul hR hvc
  have hCU:C*uc≤512*512:=Nat.mul_le_mul hC huc
  obtain ⟨w0,hw0⟩:∃ w0,cx (Fi v K 0 vc 1) (R*K)=w0:=⟨_,rfl⟩
  have lw0:w0.length=R*K:=by rw [←hw0];exact bY
  obtain ⟨W,hW⟩:∃ W,dvL w0 s K R K=W:=⟨_,rfl⟩
  have lW:W.length=R*K:=by rw [←hW,CG,lw0]
  have aW:W=DZ v s vc K R K (List.replicate (R*K) 0):=by rw [←hW,←hw0];exact agB (by omega)
  obtain ⟨Z,hZ⟩:∃ Z,List.replicate (R*C) 0=Z:=⟨_,rfl⟩
  have lZ:Z.length=R*C:=by rw [←hZ];exact List.length_replicate
  obtain ⟨G,hG⟩:∃ G,mv (fun q=>q) (XJ W (D0 u uc C K (List.replicate (K*C) 0)) Z 4607182418800017408 0 K C) Z (R*C)=G:=⟨_,rfl⟩
  have lG:G.length=R*C:=by rw [←hG,dQ,lZ]
  rw [←aW,hZ,hG]
  have h41:(qC (C:Int) (uc:Int) u).run=some (.inl (.inr ((C:Int),(uc:Int),u.length,u))):=by
    unfold qC
    rw [ca,TM hu hC huc]
    exact YC (dt (YD rfl)) (xU (dt (ay rfl)))
  have h49:(qD (R:Int) (vc:Int) v).run=some (.inl (.inr ((R:Int),(vc:Int),v.length,v))):=by
    unfold qD
    rw [ca,TM hv hR hvc]
    exact YC (dt (YD rfl)) (xU (dt (ay rfl)))
  have h53:(qE s (uc:Int) (R:Int) (vc:Int) (K:Int) 0 (R:Int) (vc:Int) v.length v).run=some (.inl ((R:Int),(K:Int),R*K,w0)):=by
    unfold qE
    have pr:=B4 (n:=v.length) (c:=v.length) (xs:=v) (r:=R) (w:=vc) (i:=0) (j:=0) (m:=R) (k:=K) (at_:=0) (d:=vc) (o:=1) hR hvc (by omega) (by omega) (by omega) (by omega) (by omega)
    have e1:0+0*vc+0*1=0:=by omega
    rw [e1] at pr
    have cp:=Oa (xs:=v) (r:=R) (c:=K) (at_:=0) (d:=vc) (o:=1) hR hK' (fun i j hi hj=>by rw [hv,Nat.zero_add,Nat.mul_one];exact nH hi (by omega)) (by omega)
    rw [hw0] at cp
    rw [show aa v.length v.length v (R:Int) (vc:Int) 0 (vc:Int) 1 0 0 (R:Int) (K:Int)=_ from pr]
    refine bx (bx (bx (iW (by rw [hs'];simp) (iW (by rw [hs];simp) (iW (decide_eq_false (by omega)) (iW (decide_eq_false (by omega)) (bx (xU (ay ?_)))))))))
    simp only [aE,bK,aF,aO,aP,aQ,aR,aS,ca]
    rw [show ba v (R:Int) (K:Int) ((0:Nat):Int) (vc:Int) ((1:Nat):Int)=_ from cp]
    exact dt (ay rfl)
  have h67:(qK (C:Int) (R:Int)).run=some (.inl ((R:Int),(C:Int),R*C,Z)):=by
    unfold qK
    rw [XG hR hC,hZ]
    exact xU (ay rfl)
  have h68:(qL (C:Int) (K:Int) (C:Int) (uc:Int) u.length u (R:Int) (K:Int) (R*K) (R*K) W (R:Int) (C:Int) (R*C) Z).run=some (.inl (R*C,R*C,G)):=by
    unfold qL
    have pr:=B4 (n:=u.length) (c:=u.length) (xs:=u) (r:=C) (w:=uc) (i:=0) (j:=0) (m:=C) (k:=K) (at_:=0) (d:=uc) (o:=1) hC huc (by omega) (by omega) (by omega) (by omega) (by omega)
    have e1:0+0*uc+0*1=0:=by omega
    rw [e1] at pr
    have gm:=adp (c1:=R*K) (c4:=u.length) (l2:=W) (l5:=u) (o:=Z) (a:=4607182418800017408) (b:=0) (R:=R) (K:=K) (C:=C) (am:=0) (dm:=K) (om:=1) (an:=0) (dn:=1) (on:=uc) (c7:=R*C) hR hK' hC lZ
      (fun i j hi hj=>by rw [lW,Nat.zero_add,Nat.mul_one];exact nH hi hj) (fun i j hi hj=>by rw [hu,Nat.zero_add,Nat.mul_one,Nat.add_comm];exact nH hj (by omega)) (by omega) (by omega)
    rw [ab2 lW,agC,hG,lW,lZ] at gm
    rw [show aa u.length u.length u (C:Int) (uc:Int) 0 (uc:Int) 1 0 0 (C:Int) (K:Int)=_ from pr]
    simp only [aE,bK,aF,aO,aP,aQ,aR,aS]
    rw [show gF (R*K) (R*K) W u.length u.length u (R*C) (R*C) Z 4607182418800017408 (R:Int) (K:Int) 0 (K:Int) 1 (K:Int) (C:Int) ((0:Nat):Int) ((1:Nat):Int) (uc:Int) 0 (R:Int) (C:Int) 0 (C:Int) 1=_ from gm]
    exact xU (ay (ay rfl))
  have h69:(qM (R:Int) (C:Int) (R*C) G).run=some (.inl ((R:Int),(C:Int),R*C,R*C,G)):=by
    unfold qM
    have ms:=XI (xs:=G) (r:=R) (c:=C) (at_:=0) (d:=C) (o:=1) hR hC (fun i j hi hj=>by rw [lG,Nat.zero_add,Nat.mul_one];exact nH hi hj) (by omega)
    rw [ab2 lG] at ms
    rw [je lG,show ax G (R:Int) (C:Int) 0 (C:Int) 1=_ from ms]
    exact bn (by rw [ct,lG];omega) (ay rfl)
  have h40:=agA hn
  rw [he] at h40
  refine bk (ae h40 (ae h41 (ae h49 ?_)))
  refine ae h53 (ae (a:=()) rfl (ae (a:=(R*K,R*K,W)) ?_ (ae h67 (ae h68 (ae h69 rfl)))))
  have dl:=agz (s:=s) (l:=w0) hR hK' hK hn lw0
  rw [hW] at dl
  exact dl
theorem aaM{l:List Int}{n:Nat}(h:∀ j,j<n→PY l j) :N4 (Of l n)=0:=by
  have g:∀ j,j<n→(Of l n).getD j 0=pw (l.getD j 0):=fun j hj=>iK hj
  have hw:∀ j,j<n→pw (l.getD j 0)<sf:=fun j hj=>aij (h j hj).1 (h j hj).2.1
  have hk:∀ j,j<n→(l.getD j 0+100).toNat≤200:=fun j hj=>by have:=h j hj;unfold PY at this;omega
  have hF:Ac (Of l n):=by
    intro j hj
    rw [G7] at hj
    unfold B2
    rw [g j hj,show flt (pw (l.getD j 0)) 0=false from (pwf (hk j hj)).pos,Bool.false_or]
    by_cases h0:0<j
    · rw [decide_eq_true h0,Bool.true_and,g (j-1) (by omega),aaI (hw _ hj) (hw _ (by omega)) (pwf (hk j hj)).fi (pwf (hk (j-1) (by omega))).fi,decide_eq_false_iff_not]
      have e1:fz (pw (l.getD j 0))=_:=(pwf (hk j hj)).num
      have e2:fz (pw (l.getD (j-1) 0))=_:=(pwf (hk (j-1) (by omega))).num
      rw [e1,e2]
      have hle:=(h j hj).2.2 h0
      have:=Nat.pow_le_pow_right (show 0<2 by decide) (show (l.getD j 0+100).toNat+974≤(l.getD (j-1) 0+100).toNat+974 by omega)
      omega
    · rw [decide_eq_false h0,Bool.false_and]
  rw [zB hF]
  have:Fn (Of l n):=fun j hj=>by
    rw [G7] at hj
    rw [g j hj]
    exact (pwf (hk j hj)).fi
  rw [CD.2 this];rfl
theorem afB{l:List Int}{n:Nat}(hn:n≤6)(h:∀ j,j<n→PY l j) :
    dX (Of l n) (n:Int) (n:Int) (Od n n) (n:Int) (n:Int) (Od n n) (n:Int)=some (.r0 0 n n (n*n) (n*n) (wnF l n n)):=by
  have hl:=G7 (l:=l) (j:=n)
  have e:=afA (s:=Of l n) (u:=Od n n) (v:=Od n n) (R:=n) (vc:=n) (C:=n) (uc:=n) (K:=n) (by omega) (aaM h) (by omega) (by omega) (by omega) (by omega) K9 K9 hl.symm hl.symm (by omega)
  rw [e]
  congr 2
  refine G5 (by rw [dQ,TP,List.length_replicate]) fun p hp=>?_
  rw [dQ,List.length_replicate] at hp
  have hn0:0<n:=by
    rcases Nat.eq_zero_or_pos n with q | q
    · subst q;simp at hp
    · exact q
  rw [abo (n:=n*n) hp (by rw [List.length_replicate];exact Nat.le_refl _)]
  have hi:p/n<n:=Nat.div_lt_of_lt_mul hp
  have hj:p%n<n:=Nat.mod_lt _ hn0
  have hpe:p=p/n*n+p%n:=by rw [Nat.mul_comm];exact (Nat.div_add_mod p n).symm
  obtain ⟨i,ei⟩:∃ i,p/n=i:=⟨_,rfl⟩
  obtain ⟨j,ej⟩:∃ j,p%n=j:=⟨_,rfl⟩
  rw [ei,ej] at hpe
  rw [ei] at hi
  rw [ej] at hj
  unfold XJ
  rw [ei,ej]
  have hz:(List.replicate (n*n) 0).getD p 0=0:=by
    rw [List.getD_eq_getElem?_getD,List.getElem?_replicate]
    split<;>rfl
  rw [hz,zz.2.2.1]
  have hk:∀ j,j<n→(l.getD j 0+100).toNat≤200:=fun j hj=>by have:=h j hj;unfold PY at this;omega
  have hk':∀ j,j<n→(0-l.getD j 0+100).toNat≤200:=fun j hj=>by have:=h j hj;unfold PY at this;omega
  have term:∀ q,q<n→sgF (DZ (Od n n) (Of l n) n n n n (List.replicate (n*n) 0)) (D0 (Od n n) n n n (List.replicate (n*n) 0)) (i*n) j n q=if q=i then (if i=j then pw (0-l.getD i 0) else 0) else 0:=by
    intro q hq
    unfold sgF
    rw [I1 hi hq List.length_replicate (Nat.le_refl n) hq,Nat.add_comm j,I2 hj hq List.length_replicate (Nat.le_refl n) hq]
    have g:(Of l n).getD q 0=pw (l.getD q 0):=iK hq
    have d1:(Od n n).getD (i*n+q) 0=if i=q then one else 0:=TQ hi hq
    have d2:(Od n n).getD (j*n+q) 0=if j=q then one else 0:=TQ hj hq
    rw [g,d1,d2]
    by_cases h1:i=q
    · subst h1
      rw [if_pos rfl,if_pos rfl,ahJ (h i hi).1 (h i hi).2.1]
      by_cases h2:j=i
      · subst h2
        rw [if_pos rfl,if_pos rfl]
        exact (pwf (hk' j hj)).r1
      · rw [if_neg h2,if_neg (show ¬ i=j from fun e=>h2 e.symm)]
        exact (pwf (hk' i hi)).z
    · rw [if_neg h1,if_neg (show ¬ q=i from fun e=>h1 e.symm),show fdiv 0 (pw (l.getD q 0))=0 from (pwf (hk q hq)).d]
      by_cases h2:j=q
      · rw [if_pos h2];exact zz.1
      · rw [if_neg h2];exact zz.2.2.1
  have hw:(wnF l n n).getD p 0=if i=j then pw (0-l.getD i 0) else 0:=by rw [hpe];exact TQ hi hj
  rw [hw]
  by_cases hij:i=j
  · simp only [if_pos hij] at term ⊢
    have F:=pwf (hk' i hi)
    have hs:CN (sgF (DZ (Od n n) (Of l n) n n n n (List.replicate (n*n) 0)) (D0 (Od n n) n n n (List.replicate (n*n) 0)) (i*n) j n) n=pw (0-l.getD i 0):=ab6 F.l0 F.r0 term hi
    rw [hs]
    have a1:lT 4607182418800017408 (pw (0-l.getD i 0))=pw (0-l.getD i 0):=F.l1
    rw [a1]
    exact F.l0
  · simp only [if_neg hij] at term ⊢
    have hs:CN (sgF (DZ (Od n n) (Of l n) n n n n (List.replicate (n*n) 0)) (D0 (Od n n) n n n (List.replicate (n*n) 0)) (i*n) j n) n=0:=Oe fun q hq=>by rw [term q hq];split<;>rfl
    rw [hs]
    have a1:lT 4607182418800017408 0=0:=zz.2.1
    rw [a1]
    exact zz.2.2.2
def stF(l:List Int)(n j:Nat) :Nat×Nat×Nat×List Nat×List Nat×List Nat:=(j,j,j,Of l j,Od n j,wnF l n j)
theorem aaN{l:List Int}{j:Nat}(hn:l.length≤6)(hj:j<l.length)(h:PY l j) :fC l (l.length*l.length) (stF l l.length j)=some (.inl (stF l l.length (j+1))):=by
  have h1:=Oc h.1 h.2.1
  have h2:=Oc (l:=0-l.getD j 0) (by have:=h.1;have:=h.2.1;omega) (by have:=h.1;have:=h.2.1;omega)
  obtain ⟨a,b,c⟩:=h
  have hlt:=agZ hj
  have hsq:l.length*l.length≤6*6:=Nat.mul_le_mul hn hn
  refine ae (a:=(j+1,Of l (j+1),Od l.length (j+1),wnF l l.length (j+1))) ?_ (bn (by rw [cw];omega) rfl)
  show (eA _ _ _ _ _ _ _ _).run=_
  unfold eA
  rw [h1,h2]
  have n1:j*l.length+j<(Od l.length j).length:=by rw [K9];exact hlt
  have n2:j*l.length+j<(wnF l l.length j).length:=by rw [TP];exact hlt
  have n3:j≤(Of l j).length:=by rw [G7];exact Nat.le_refl _
  have ev:some (Sum.inl (j+1,List.take j (Of l j)++List.take 1 [pw (l.getD j 0)],List.set (Od l.length j) (j*l.length+j) 4607182418800017408,List.set (wnF l l.length j) (j*l.length+j) (pw (0-l.getD j 0))))=(some (.inl (j+1,Of l (j+1),Od l.length (j+1),wnF l l.length (j+1))):Option ((Nat×(List Nat)×(List Nat)×(List Nat))⊕((Nat×Nat×(List Nat)×(List Nat)×(List Nat))⊕(bF)))):=by
    have e1:List.take j (Of l j)++List.take 1 [pw (l.getD j 0)]=Of l (j+1):=N7 (f:=fun q=>pw (l.getD q 0))
    rw [e1]
    rfl
  generalize e1:Od l.length j=E1 at n1 ev ⊢
  generalize e2:wnF l l.length j=E2 at n2 ev ⊢
  generalize e3:Of l j=E3 at n3 ev ⊢
  clear e1 e2 e3
  generalize l.length*l.length=N at hlt hsq ⊢
  generalize j*l.length=P at hlt hsq n1 n2 ev ⊢
  refine dd (aj (aj (dh (aj (aj (dh ?_))))))
  by_cases h0:0<j
  · have:=c h0
    have e:((j:Int)-1).toNat=j-1:=by omega
    rw [e]
    exact dd (aj (aj (aj (aj (aj (dh (aj (aj (ay (aj (aj (ay (aj (aj (aj (aj (aj (aj (aj (aj (aj (aj (ay (aj (aj ev)))))))))))))))))))))))))
  · exact dh (aj (aj (ay (aj (aj (ay (aj (aj (aj (aj (aj (aj (aj (aj (aj (aj (ay (aj (aj ev)))))))))))))))))))
theorem aaO{l:List Int}{j:Nat}(hn:l.length≤6)(hj:j<l.length)(h : ¬ PY l j) :fC l (l.length*l.length) (stF l l.length j)=some (.inr (.inr (.r0 true))):=by
  refine bU ?_
  show (eA _ _ _ _ _ _ _ _).run=_
  unfold eA
  by_cases a:l.getD j 0 < -100
  · exact dd (aj (aj (dd rfl)))
  by_cases b:l.getD j 0>100
  · exact dd (aj (aj (dh (aj (aj (dd rfl))))))
  by_cases h0:0<j
  · by_cases c:l.getD j 0>l.getD (j-1) 0
    · have e:((j:Int)-1).toNat=j-1:=by omega
      rw [e]
      exact dd (aj (aj (dh (aj (aj (dh (dd (aj (aj (aj (aj (aj (dd rfl)))))))))))))
    · exact absurd ⟨by omega,by omega,fun _=>by omega⟩ h
  · exact absurd ⟨by omega,by omega,fun q=>absurd q h0⟩ h
theorem aaP{l:List Int}(hn:l.length≤6) :∃ y,dJ (fC l (l.length*l.length)) (stF l l.length 0)=some y ∧
    (y=.inr (.r0 true)∨(y=.inl (l.length,l.length,Of l l.length,Od l.length l.length,wnF l l.length l.length)∧∀ j,j<l.length→PY l j)):=by
  refine Qu (fun p=>∃ j,p=stF l l.length j∧j≤l.length∧∀ q,q<j→PY l q) (fun p=>l.length-p.2.2.1) _ ?_ _ ⟨0,rfl,by omega,fun q hq=>by omega⟩
  rintro _ ⟨j,rfl,hj,hq⟩
  by_cases hlt:j<l.length
  · by_cases ho:PY l j
    · refine .inl ⟨_,aaN hn hlt ho,⟨j+1,rfl,hlt,fun q h=>?_⟩,?_⟩
      · by_cases e:q=j
        · subst e;exact ho
        · exact hq q (by omega)
      · show l.length-(j+1)<l.length-j
        omega
    · exact .inr ⟨_,aaO hn hlt ho,.inl rfl⟩
  · have e:j=l.length:=by omega
    subst e
    refine .inr ⟨_,bU (y:=.inl (l.length,l.length,Of l l.length,Od l.length l.length,wnF l l.length l.length)) ?_,.inr ⟨rfl,hq⟩⟩
    show (eA _ _ _ _ _ _ _ _).run=_
    unfold eA
    exact dh rfl
theorem adt{s:List Nat}{t u:Nat}{l:List Int}(hw:Wd s)(ht:t<sf)(hu:u<sf) :pF s t u l=some (.r0 true):=by
  have h14:=agD hw ht hu
  by_cases hn:l.length≤6
  · have hsq:l.length*l.length≤6*6:=Nat.mul_le_mul hn hn
    have h15:(jj l).run=some (.inl (l.length*l.length,List.replicate (l.length*l.length) 0)):=by
      unfold jj
      refine dh ?_
      generalize l.length*l.length=N at hsq ⊢
      exact aj (aj (aj (aj (aj (aj (aj (aj (aj (aj rfl)))))))))
    obtain ⟨y,hl,hy⟩:=aaP hn
    refine bk (ae h14 (ae h15 ?_))
    rcases hy with rfl | ⟨rfl,hok⟩
    · exact bU hl
    · refine ae hl ?_
      have lW:=TP (l:=l) (n:=l.length) (j:=l.length)
      have lE:=K9 (n:=l.length) (j:=l.length)
      have lD:=G7 (l:=l) (j:=l.length)
      have h20:(mD l (l.length*l.length) l.length (Of l l.length) (Od l.length l.length)).run=some (.inl (0,(l.length:Int),(l.length:Int),l.length*l.length,l.length*l.length,wnF l l.length l.length)):=by
        unfold mD
        rw [je lD,je lE,afB hn hok]
        exact bn (by rw [ct,lD];omega) (bn (by rw [ct,lE];omega) (bn (by rw [ct,lE];omega) (ay rfl)))
      refine ae h20 (ae (a:=true) ?_ rfl)
      show (mE _ _ _ _ _ _ _ _).run=_
      unfold mE
      rw [je lW,TO (by rw [lW];omega)]
      exact cF (bn (by rw [ct,lW];omega) (bn (by rw [ct,lW];omega) (ay rfl)))
  · refine bk (ae h14 (bU ?_))
    unfold jj
    exact dd rfl
end Go.Plb.Seat
namespace Go.Plb.Seat
open Go Go.Plb
theorem XL(v0:Lv)(s:List Nat)(t u:Nat)(v1:Lv)(l:List Int)(hw:Wd s)(ht:t<sf)(hu:u<sf) :
    ag prog kQ [] [.imm v0 (.fl s) 1 1 0 s.length,.flt true t,.flt true u,.imm v1 (.ns .i64 l) 1 1 0 l.length] ⟨.bool false true,[]⟩ :=
  ut v0 s t u v1 l (adt hw ht hu)
end Go.Plb.Seat
