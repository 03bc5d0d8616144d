/-
  Part 6 of what the claim leans on: an evaluator of the model, proved sound; the contracts of the functions.
-/
import Derived.Test.YthikcnkmglbbbaaGreatDoorA5
namespace Go.Plb.Seat
open Go Go.Plb
set_option linter.unusedSimpArgs false
set_option linter.unusedVariables false
theorem MI(s:Bool){v n:Nat}(hv:v < W ^ n)(hn:n≤10000)(hl:nl v≤4096){e:Int}(he : -1000000≤e∧e≤1000000) :
    aR s (aA v n) e=some (.r0 (nS (sg s v)) (aA (nM (sg s v)) (nl (nM (sg s v)))) (nl (nM (sg s v))) (nE (sg s v) e)):=by
  have t5:(CR (aA v n)).run=some (.inl (aA v (nl v),nl v,false)):=by
    unfold CR
    rw [aF,Cb hv (by omega)]
    exact bf (ao rfl)
  by_cases h0:v=0
  · have z:sg s v=0:=Cj.2 h0
    rw [z,gJ,adl,lE,f7]
    refine aZ (ae t5 (bH ?_))
    rw [h0,f7]
    exact bN rfl
  · have z:sg s v ≠ 0:=fun q=>h0 (Cj.1 q)
    have hp:=DY h0
    have ht:=ani (v:=v)
    obtain ⟨b,h1⟩:=arN (k:=tz v) (cU v) (by omega) (by omega)
    have eM:nM (sg s v)=v / 2 ^ tz v:=by unfold nM;rw [NT]
    have eE:nE (sg s v) e=e+((tz v:Nat):Int):=by rw [lM z,NT]
    rw [aul h0,eM,eE]
    refine aZ (ae t5 (ae (a:=tz v) ?_ (ae (a:=(aA (v / 2 ^ tz v) (nl (v / 2 ^ tz v)),nl (v / 2 ^ tz v))) ?_ ?_)))
    · show (CS _ _).run=_
      unfold CS
      rw [bR ax,aoe (cU v) (by omega) h0]
      exact dl (dT (ao rfl))
    · show (CT _ _ _).run=_
      unfold CT
      rw [bR ax,h1]
      exact dT (ao rfl)
    · exact cT (by rw [cV];omega) rfl
theorem ajU{v n:Nat}(hv:v < W ^ n)(hn:n≤1000000)(hl:nl v≤4096){e:Int}(he : -262144≤e∧e≤262144) :dW (aA v n) e=some (.r0 true):=by
  refine aZ (ae (a:=true) ?_ rfl)
  unfold LY
  rw [aF,arI hv hn hl]
  refine bf (ao (bN (cK ?_)))
  show some (Sum.inl (decide (e≤262144)))=_
  rw [decide_eq_true he.2]
theorem YP{z e:Int}{s:Bool}(hs:z ≠ 0→s=nS z)(h:Sm z e) :aR s (aA (nM z) (nl (nM z))) (nE z e)=some (.r0 (nS z) (aA (nM z) (nl (nM z))) (nl (nM z)) (nE z e)):=by
  have hm:=h.m
  have hb:=h.b
  have h1:=MI s (cU (nM z)) (by omega) (by omega) (e:=nE z e) (by omega)
  obtain ⟨a,b,c⟩:=aeg (e:=e) hs
  rw [a,b,c] at h1
  exact h1
theorem adm{z e:Int}(h:Sm z e) :dW (aA (nM z) (nl (nM z))) (nE z e)=some (.r0 true):=by
  have hm:=h.m
  have hb:=h.b
  exact ajU (cU (nM z)) (by omega) (by omega) (by omega)
theorem MJ(s:Bool){v n:Nat}(hv:v < W ^ n)(hn:n≤10000)(hl:nl v≤1000){e:Int}(he : -150000≤e∧e≤150000) :
    bz s (aA v n) e=some (.r0 0 (nS (sg s v)) (aA (nM (sg s v)) (nl (nM (sg s v)))) (nl (nM (sg s v))) (nE (sg s v) e)):=by
  have h1:=MI s hv hn (by omega) (e:=e) (by omega)
  have ht:=ani (v:=v)
  have hE' : -262144≤nE (sg s v) e∧nE (sg s v) e≤262144:=by
    unfold nE;rw [NT];split <;> omega
  have hM:nl (nM (sg s v))≤nl v:=by have:=tO (aum (z:=sg s v));rwa [NT] at this
  refine aZ (ae (a:=(nS (sg s v),aA (nM (sg s v)) (nl (nM (sg s v))),nl (nM (sg s v)),nE (sg s v) e,false)) ?_ (ae (a:=false) ?_ rfl))
  · unfold Jo
    rw [aF,h1]
    exact bf (ao rfl)
  · show (CU _ _ _).run=_
    unfold CU
    rw [bR ax,ajU (cU _) (by omega) (by omega) hE']
    exact dT (ao rfl)
theorem ap6{z e:Int}{m:Nat}(h:Sm z e)(h0:z ≠ 0)(hm:m≤tz z.natAbs){k:Int}(hk:k=((tz z.natAbs - m:Nat):Int)) :
    jH (aA (nM z) (nl (nM z))) k=some (.r0 (aA (z.natAbs / 2 ^ m) (nl (z.natAbs / 2 ^ m))) (nl (z.natAbs / 2 ^ m))):=by
  obtain ⟨e1,e2⟩:=Dp hm
  have ht:=h.t
  have hM:=h.m
  rw [hk,ajT (cU _) (by omega) (by omega),e1]
theorem au3{k:Nat}(hk:k≤100000) :jH (aA (nM 0) (nl (nM 0))) (k:Int)=some (.r0 (aA 0 0) 0):=by
  rw [lE,f7,ajT (v:=0) (n:=0) (by decide) (by omega) (by omega),Nat.zero_mul,f7]
theorem aof{z e ep:Int}{m:Nat}(h:Sm z e)(hp:z ≠ 0→m≤tz z.natAbs∧ep=e+m)(hb : -50000≤ep∧ep≤94800) :
    (uF (aA (nM z) (nl (nM z))) (nE z e) ep).run=some (.inl (aA (z.natAbs / 2 ^ m) (nl (z.natAbs / 2 ^ m)),nl (z.natAbs / 2 ^ m))) ∧
    (uG (aA (nM z) (nl (nM z))) (nE z e) ep).run=some (.inl (aA (z.natAbs / 2 ^ m) (nl (z.natAbs / 2 ^ m)),nl (z.natAbs / 2 ^ m))):=by
  by_cases h0:z=0
  · subst h0
    rw [Int.natAbs_zero,Nat.zero_div,f7,gJ]
    unfold uF uG
    rw [aF]
    by_cases hq:(0:Int) > ep
    · obtain ⟨k,hk⟩:∃ k:Nat,(0:Int) - ep=(k:Int):=⟨(0 - ep).toNat,by omega⟩
      rw [hk,au3 (by omega)]
      exact ⟨rz (decide_eq_true hq) (cT (by rw [cV];omega) (bf (ao rfl))),rz (decide_eq_true hq) (cT (by rw [cV];omega) (bf (ao rfl)))⟩
    · rw [lE,f7]
      exact ⟨e9 (decide_eq_false hq) rfl,e9 (decide_eq_false hq) rfl⟩
  · obtain ⟨h1,h2⟩:=hp h0
    have e1:=lM (e:=e) h0
    have ht:=h.t
    have hM:=h.m
    unfold uF uG
    rw [aF]
    by_cases hq:nE z e > ep
    · rw [ap6 h h0 h1 (k:=nE z e - ep) (by omega)]
      exact ⟨rz (decide_eq_true hq) (cT (by rw [cV];omega) (bf (ao rfl))),rz (decide_eq_true hq) (cT (by rw [cV];omega) (bf (ao rfl)))⟩
    · have hm:m=tz z.natAbs:=by omega
      have e2:z.natAbs / 2 ^ m=nM z:=by rw [hm];rfl
      rw [e2]
      exact ⟨e9 (decide_eq_false hq) (by rw [ax];rfl),e9 (decide_eq_false hq) (by rw [ax];rfl)⟩
theorem aog{x y e:Int}(hx:Sm x e)(hy:Sm y e) :∃ m ep,c9 (aA (nM x) (nl (nM x))) (nE x e) (aA (nM y) (nl (nM y))) (nE y e) =
    some (.r0 (aA (x.natAbs / 2 ^ m) (nl (x.natAbs / 2 ^ m))) (nl (x.natAbs / 2 ^ m)) (aA (y.natAbs / 2 ^ m) (nl (y.natAbs / 2 ^ m))) (nl (y.natAbs / 2 ^ m)) ep)∧Lvl x y e m ep:=by
  have hxt:=hx.t
  have hyt:=hy.t
  have hxb:=hx.b
  have hyb:=hy.b
  have he:=hx.2
  have key:∀ m ep,(x ≠ 0→m≤tz x.natAbs∧ep=e+m)→(y ≠ 0→m≤tz y.natAbs∧ep=e+m)→(-50000≤ep∧ep≤94800) →
      (∃ e1,(om (aA (nM x) (nl (nM x))) (nE x e) (nE y e)).run=some (.inl e1)∧(oo (nE x e) (aA (nM y) (nl (nM y))) e1).run=some (.inl ep)) →
      c9 (aA (nM x) (nl (nM x))) (nE x e) (aA (nM y) (nl (nM y))) (nE y e)=some (.r0 (aA (x.natAbs / 2 ^ m) (nl (x.natAbs / 2 ^ m))) (nl (x.natAbs / 2 ^ m)) (aA (y.natAbs / 2 ^ m) (nl (y.natAbs / 2 ^ m))) (nl (y.natAbs / 2 ^ m)) ep):=by
    intro m ep h1 h2 h3 ⟨e1,h4,h5⟩
    exact aZ (ae h4 (ae h5 (ae (aof hx h1 h3).1 (ae (aof hy h2 h3).2 rfl))))
  have dz:∀ m,(0:Int).natAbs / 2 ^ m * 2 ^ m=(0:Int).natAbs:=fun m=>by rw [Int.natAbs_zero,Nat.zero_div,Nat.zero_mul]
  by_cases h1:x=0
  · have l0:nl (nM x)=0:=by rw [h1,lE,f7]
    by_cases h2:y=0
    · have l1:nl (nM y)=0:=by rw [h2,lE,f7]
      refine ⟨0,0,key 0 0 (fun q=>absurd h1 q) (fun q=>absurd h2 q) (by omega) ⟨nE y e,?_,?_⟩,⟨by rw [h1];exact dz 0,by rw [h2];exact dz 0,.inl ⟨h1,h2,rfl⟩,by omega⟩⟩
      · unfold om;rw [ax,l0];exact bN rfl
      · unfold oo;rw [ax,l1];refine bN ?_;rw [h1,gJ];rfl
    · have ly:nl (nM y) ≠ 0:=fun q=>Rw h2 (mg.1 q)
      have ey:=lM (e:=e) h2
      refine ⟨tz y.natAbs,nE y e,key _ _ (fun q=>absurd h1 q) (fun _=>⟨Nat.le_refl _,ey⟩) (by omega) ⟨nE y e,?_,?_⟩,⟨by rw [h1];exact dz _,(Dp (Nat.le_refl _)).2,.inr ey,by omega⟩⟩
      · unfold om;rw [ax,l0];exact bN rfl
      · unfold oo;rw [ax];exact dl rfl
  · have lx:nl (nM x) ≠ 0:=fun q=>Rw h1 (mg.1 q)
    have ex:=lM (e:=e) h1
    by_cases h2:y=0
    · have l1:nl (nM y)=0:=by rw [h2,lE,f7]
      refine ⟨tz x.natAbs,nE x e,key _ _ (fun _=>⟨Nat.le_refl _,ex⟩) (fun q=>absurd h2 q) (by omega) ⟨ws (nE x e) (nE y e),?_,?_⟩,⟨(Dp (Nat.le_refl _)).2,by rw [h2];exact dz _,.inr ex,by omega⟩⟩
      · unfold om;rw [ax];exact dl rfl
      · unfold oo;rw [ax,l1];exact bN rfl
    · have ly:nl (nM y) ≠ 0:=fun q=>Rw h2 (mg.1 q)
      have ey:=lM (e:=e) h2
      have emin:ws (nE x e) (nE y e)=e+((min (tz x.natAbs) (tz y.natAbs):Nat):Int):=by
        rw [ex,ey]
        rcases Nat.le_total (tz x.natAbs) (tz y.natAbs) with q | q
        · rw [aqP (by omega),Nat.min_eq_left q]
        · rw [ame (by omega),Nat.min_eq_right q]
      have mx:min (tz x.natAbs) (tz y.natAbs)≤tz x.natAbs:=Nat.min_le_left _ _
      have my:min (tz x.natAbs) (tz y.natAbs)≤tz y.natAbs:=Nat.min_le_right _ _
      revert emin mx my
      generalize min (tz x.natAbs) (tz y.natAbs)=m
      intro emin mx my
      refine ⟨m,e+m,key m _ (fun _=>⟨mx,rfl⟩) (fun _=>⟨my,rfl⟩) (by omega) ⟨e+m,?_,?_⟩,⟨(Dp mx).2,(Dp my).2,.inr rfl,by omega⟩⟩
      · unfold om;rw [ax,emin];exact dl rfl
      · unfold oo;rw [ax];exact dl rfl
theorem arO{x y e:Int}(hx:Sm x e)(hy:Sm y e) :rI (aA (nM x) (nl (nM x))) (nE x e) (aA (nM y) (nl (nM y))) (nE y e)=some (.r0 false):=by
  have hxb:=hx.b
  have hyb:=hy.b
  refine aZ (ae (a:=false) ?_ rfl)
  unfold L0
  rw [ax,ax]
  by_cases h1:nl (nM x)=0
  · exact dl rfl
  · by_cases h2:nl (nM y)=0
    · exact cK (dl rfl)
    · refine cK (cK (cT (by rw [cV];omega) (e9 (by rw [decide_eq_false_iff_not];omega) (cT (by rw [cV];omega) ?_))))
      show some (Sum.inl (decide _))=_
      rw [decide_eq_false (by omega)]
theorem aur{x y e:Int}{s t:Bool}(hs:x ≠ 0→s=nS x)(ht:y ≠ 0→t=nS y)(hx:Sm x e)(hy:Sm y e) :
    eP s (aA (nM x) (nl (nM x))) (nE x e) t (aA (nM y) (nl (nM y))) (nE y e)=some (.r0 0 (nS (x+y)) (aA (nM (x+y)) (nl (nM (x+y)))) (nl (nM (x+y))) (nE (x+y) e)):=by
  have x1:=YP hs hx
  have y1:=YP ht hy
  obtain ⟨m,ep,l1,l2⟩:=aog hx hy
  have xl:=hx.l
  have yl:=hy.l
  have hX:nl (x.natAbs / 2 ^ m)≤300:=Nat.le_trans (tO (Nat.div_le_self _ _)) xl
  have hY:nl (y.natAbs / 2 ^ m)≤300:=Nat.le_trans (tO (Nat.div_le_self _ _)) yl
  have ox:=aqK l2.x2
  have oy:=aqK l2.y2
  have z0:∀ {z:Int},z=0→z.natAbs / 2 ^ m=0:=fun h=>by rw [h,Int.natAbs_zero,Nat.zero_div]
  have zx:x=0→x.natAbs / 2 ^ m=0:=z0
  have zy:y=0→y.natAbs / 2 ^ m=0:=z0
  have hb:=l2.b
  have t10:(CV (aA (nM x) (nl (nM x))) (nE x e) (aA (nM y) (nl (nM y))) (nE y e)).run=some (.inl (false,false)):=by
    unfold CV
    rw [aF,aF,adm hx,adm hy]
    exact bf (ao (bj (bf (ao rfl))))
  have t11:(CW s (aA (nM x) (nl (nM x))) (nE x e) t (aA (nM y) (nl (nM y))) (nE y e) false).run=some (.inl (nS x,aA (nM x) (nl (nM x)),nl (nM x),nE x e,nS y,aA (nM y) (nl (nM y)),nl (nM y),nE y e)):=by
    unfold CW
    rw [aF,aF,x1,y1]
    exact bj (bf (ao (bf (ao rfl))))
  have t12:(CX (aA (nM x) (nl (nM x))) (nl (nM x)) (nE x e) (aA (nM y) (nl (nM y))) (nl (nM y)) (nE y e)).run=some (.inl false):=by
    unfold CX
    rw [bR ax,bR ax,arO hx hy]
    exact dT (dT (ao rfl))
  have t13:(CY (aA (nM x) (nl (nM x))) (nl (nM x)) (nE x e) (aA (nM y) (nl (nM y))) (nl (nM y)) (nE y e) false).run=some (.inl (aA (x.natAbs / 2 ^ m) (nl (x.natAbs / 2 ^ m)),nl (x.natAbs / 2 ^ m),aA (y.natAbs / 2 ^ m) (nl (y.natAbs / 2 ^ m)),nl (y.natAbs / 2 ^ m),ep)):=by
    unfold CY
    rw [bR ax,bR ax,l1]
    exact bj (dT (dT (ao rfl)))
  clear l1 x1 y1
  have sum:=fun {z z':Int} (a:z=z' * ((2 ^ m:Nat):Int)) (b:x=0→y=0→z'=0)=>l2.sum a b
  revert t13 hX hY ox oy zx zy
  generalize x.natAbs / 2 ^ m=X
  generalize y.natAbs / 2 ^ m=Y
  intro hX hY ox oy zx zy t13
  have hXY:=akC hX hY
  by_cases hsg:nS x=nS y
  · have hz:x+y=sg (nS x) (X+Y) * ((2 ^ m:Nat):Int):=by
      rw [← asX,Int.add_mul,← ox]
      rw [hsg,← oy]
    obtain ⟨a,b,c⟩:=sum hz (fun p q=>by rw [zx p,zy q];cases nS x <;> rfl)
    have h1:=MJ (nS x) (v:=X+Y) (cU _) (by omega) (by omega) (e:=ep) (by omega)
    rw [a,b,c]
    refine aZ (ae t10 (ae t11 (ae t12 (ae t13 (bH ?_)))))
    show (tD _ _ _ _ _ _ _).run=_
    unfold tD
    rw [bR ax,bR ax,arJ (cU X) (cU Y) (by omega) (by omega)]
    simp only [zW,iY,iZ]
    rw [bR ax,h1]
    exact rz (by rw [hsg];cases nS y <;> rfl) (dT (dT (ao (dT (ao rfl)))))
  · have hn:nS y = !(nS x):=by revert hsg;cases nS x <;> cases nS y <;> simp
    have t14:(tD (nS x) (nS y) (aA X (nl X)) (nl X) (aA Y (nl Y)) (nl Y) ep).run=some (.inl ()):=by
      unfold tD
      exact e9 (by rw [hn];cases nS x <;> rfl) rfl
    have t15:(CZ (aA X (nl X)) (nl X) (aA Y (nl Y)) (nl Y)).run=some (.inl (decide (sB X Y ≥ 0))):=by
      unfold CZ
      rw [bR ax,bR ax,arK (cU X) (cU Y) (by omega) (by omega)]
      exact dT (dT (ao rfl))
    have hxy:x+y=(sg (nS x) X - sg (nS x) Y) * ((2 ^ m:Nat):Int):=by
      rw [Int.sub_mul,← ox]
      have:y = -(sg (nS x) Y) * ((2 ^ m:Nat):Int):=by rw [← Zf,← hn];exact oy
      rw [Int.neg_mul] at this
      omega
    by_cases hlt:X < Y
    · have hz:x+y=sg (nS y) (Y - X) * ((2 ^ m:Nat):Int):=by
        rw [hxy,← akD (Nat.le_of_lt hlt),hn,Zf,Zf];congr 1;omega
      obtain ⟨a,b,c⟩:=sum hz (fun p q=>by rw [zx p,zy q];cases nS y <;> rfl)
      have hd:nl (Y - X)≤nl Y:=tO (Nat.sub_le _ _)
      have h1:=MJ (nS y) (v:=Y - X) (cU _) (by omega) (by omega) (e:=ep) (by omega)
      rw [a,b,c]
      have hc:decide (sB X Y ≥ 0)=false:=by unfold sB;rw [if_pos hlt];rfl
      rw [hc] at t15
      refine aZ (ae t10 (ae t11 (ae t12 (ae t13 (ae t14 (ae t15 (ae (a:=()) (bj rfl) (ae (a:=(0,nS (sg (nS y) (Y - X)),aA (nM (sg (nS y) (Y - X))) (nl (nM (sg (nS y) (Y - X)))),nl (nM (sg (nS y) (Y - X))),nE (sg (nS y) (Y - X)) ep)) ?_ rfl))))))))
      show (C2 _ _ _ _ _ _).run=_
      unfold C2
      rw [bR ax,bR ax,ajR (cU Y) (cU X) (by omega) (by omega) (Nat.le_of_lt hlt)]
      simp only [sc,dg,dh]
      rw [bR ax,h1]
      exact dT (dT (ao (dT (ao rfl))))
    · have hz:x+y=sg (nS x) (X - Y) * ((2 ^ m:Nat):Int):=by
        rw [hxy,← akD (by omega)]
      obtain ⟨a,b,c⟩:=sum hz (fun p q=>by rw [zx p,zy q];cases nS x <;> rfl)
      have hd:nl (X - Y)≤nl X:=tO (Nat.sub_le _ _)
      have h1:=MJ (nS x) (v:=X - Y) (cU _) (by omega) (by omega) (e:=ep) (by omega)
      rw [a,b,c]
      have hc:decide (sB X Y ≥ 0)=true:=by
        rw [decide_eq_true_eq];unfold sB;rw [if_neg hlt];split <;> omega
      rw [hc] at t15
      refine aZ (ae t10 (ae t11 (ae t12 (ae t13 (ae t14 (ae t15 (bH ?_)))))))
      show (C1 _ _ _ _ _ _ _).run=_
      unfold C1
      rw [bR ax,bR ax,ajR (cU X) (cU Y) (by omega) (by omega) (by omega)]
      simp only [sc,dg,dh]
      rw [bR ax,h1]
      exact bN (dT (dT (ao (dT (ao rfl)))))
theorem avw{x y e:Int}(hx:Sm x e)(hy:Sm y e) :
    jO (nS x) (aA (nM x) (nl (nM x))) (nE x e) (nS y) (aA (nM y) (nl (nM y))) (nE y e)=some (.r0 0 (nS (x - y)) (aA (nM (x - y)) (nl (nM (x - y)))) (nl (nM (x - y))) (nE (x - y) e)):=by
  have h1:=aur (x:=x) (y:=-y) (e:=e) (s:=nS x) (t:=!(nS y)) (fun _=>rfl) (fun h=>by
    unfold nS;rw [← decide_not];congr 1;exact propext (by omega)) hx hy.n
  rw [asV,asW,← Int.sub_eq_add_neg] at h1
  have hT:bQ (nS y) (aA (nM y) (nl (nM y))) (nE y e)=some (.r0 (!(nS y)) (aA (nM y) (nl (nM y))) (nl (nM y)) (nE y e)):=by
    refine aZ ?_
    unfold JU
    rw [ax];rfl
  refine aZ (ae (a:=(0,nS (x - y),aA (nM (x - y)) (nl (nM (x - y))),nl (nM (x - y)),nE (x - y) e)) ?_ rfl)
  unfold MB
  rw [aF,aF,hT]
  simp only [xC,ju,ik,il,jv]
  rw [bR ax,h1]
  exact bf (ao (bf (dT (ao rfl))))
theorem au4{x y e f:Int} :nS (x * y)=nS (sg (nS x != nS y) (nM x * nM y))∧nM (x * y)=nM (sg (nS x != nS y) (nM x * nM y))∧nE (x * y) (e+f)=nE (sg (nS x != nS y) (nM x * nM y)) (nE x e+nE y f):=by
  have hz:x * y=sg (nS x != nS y) (nM x * nM y) * ((2 ^ (tz x.natAbs+tz y.natAbs):Nat):Int):=by
    have a:=V1 x
    have b:=V1 y
    rw [← ajh,Nat.pow_add,Int.natCast_mul]
    conv=>lhs;rw [← a,← b]
    simp only [Int.mul_assoc,Int.mul_comm,Int.mul_left_comm]
  obtain ⟨a,b,c⟩:=J8 hz (e+f)
  refine ⟨a,b,?_⟩
  rw [c]
  by_cases p:x=0
  · subst p;rw [lE,Nat.zero_mul]
    have:sg (nS 0 != nS y) 0=0:=Cj.2 rfl
    rw [this,gJ,gJ]
  · by_cases q:y=0
    · subst q;rw [lE,Nat.mul_zero]
      have:sg (nS x != nS 0) 0=0:=Cj.2 rfl
      rw [this,gJ,gJ]
    · rw [lM p,lM q];congr 1;omega
theorem avx{x y e f:Int}(hx:Sm x e)(hy:Sm y f) :
    jJ (nS x) (aA (nM x) (nl (nM x))) (nE x e) (nS y) (aA (nM y) (nl (nM y))) (nE y f)=some (.r0 0 (nS (x * y)) (aA (nM (x * y)) (nl (nM (x * y)))) (nl (nM (x * y))) (nE (x * y) (e+f))):=by
  have x1:=YP (s:=nS x) (fun _=>rfl) hx
  have y1:=YP (s:=nS y) (fun _=>rfl) hy
  have xm:=hx.m
  have ym:=hy.m
  have xb:=hx.b
  have yb:=hy.b
  have hm:=ape (a:=nM x) (b:=nM y)
  have h1:=MJ (nS x != nS y) (v:=nM x * nM y) (cU _) (by omega) (by omega) (e:=nE x e+nE y f) (by omega)
  obtain ⟨a,b,c⟩:=au4 (x:=x) (y:=y) (e:=e) (f:=f)
  rw [a,b,c]
  refine aZ (ae (a:=(false,false)) ?_ (ae (a:=(nS x,aA (nM x) (nl (nM x)),nl (nM x),nE x e,nS y,aA (nM y) (nl (nM y)),nl (nM y),nE y f)) ?_ (ae (a:=(0,nS (sg (nS x != nS y) (nM x * nM y)),aA (nM (sg (nS x != nS y) (nM x * nM y))) (nl (nM (sg (nS x != nS y) (nM x * nM y)))),nl (nM (sg (nS x != nS y) (nM x * nM y))),nE (sg (nS x != nS y) (nM x * nM y)) (nE x e+nE y f))) ?_ rfl)))
  · unfold L6
    rw [aF,aF,adm hx,adm hy]
    exact bf (ao (bj (bf (ao rfl))))
  · show (Fx _ _ _ _ _ _ _).run=_
    unfold Fx
    rw [aF,aF,x1,y1]
    exact bj (bf (ao (bf (ao rfl))))
  · show (Fy _ _ _ _ _ _ _ _).run=_
    unfold Fy
    have h1':bz (!(nS x == nS y)) (aA (nM x * nM y) (nl (nM x * nM y))) (nE x e+nE y f)=_:=h1
    rw [bR ax,bR ax,ajS (cU (nM x)) (cU (nM y)) (by omega) (by omega)]
    simp only [vH,gW,gX]
    rw [bR ax,h1']
    exact dT (dT (ao (cT (by rw [cV];omega) (dT (ao rfl)))))
theorem aoh{m:Nat}(h:m < W) :([(m:Int)]:List Int)=aA m 1:=by
  show [(m:Int)] = [] ++ [lm m 0]
  unfold lm;rw [Nat.pow_zero,Nat.div_one,Nat.mod_eq_of_lt h];rfl
theorem IB{n:Nat}(h:n < 9223372036854775808) :
    aG (n:Int)=some (.r0 (nS (n:Int)) (aA (nM (n:Int)) (nl (nM (n:Int)))) (nl (nM (n:Int))) (nE (n:Int) 0)):=by
  have hW:n < W:=Nat.lt_trans h (by decide)
  have hn:nl n≤1:=jR (by rw [Nat.pow_one];exact hW)
  have h1:=MI false (v:=n) (n:=1) (by rw [Nat.pow_one];exact hW) (by omega) (by omega) (e:=0) (by omega)
  have e:sg false n=(n:Int):=rfl
  rw [e] at h1
  refine aZ (ae (a:=((n:Int),false)) ?_ (ae (a:=(nS (n:Int),aA (nM (n:Int)) (nl (nM (n:Int))),nl (nM (n:Int)),nE (n:Int) 0)) ?_ rfl))
  · unfold Hd
    rw [kS hW]
    exact e9 (by rw [decide_eq_false_iff_not];omega) rfl
  · show (AH _ _).run=_
    unfold AH
    have d:decide ((n:Int) < 0)=false:=by rw [decide_eq_false_iff_not];omega
    rw [aoh hW,bR ax,d,h1]
    exact dT (ao rfl)
theorem acl{x:Nat}(hx:x < Zg)(h:A7 x=true) :nX (x:Int)=some (.r0 (wk x)):=by
  have h':Vs x ≠ 2047:=by unfold A7 at h;exact bne_iff_ne.1 h
  refine aZ ?_
  unfold Hj wk
  rw [KG hx,F2 hx]
  by_cases h1:Vs x=0
  · by_cases h2:x % 4503599627370496=0
    · rw [if_neg (by omega),if_neg (by omega),h1,h2]
      exact ao (bj (bj (bj rfl)))
    · rw [if_neg (by omega),if_pos h2,h1]
      exact ao (bj (bj (cK rfl)))
  · rw [if_pos h1]
    exact ao (dl (cK rfl))
theorem aoi{x:Nat}(hx:x < Zg)(h:A7 x=true) :jW (x:Int)=some (.r0 (x / 9223372036854775808 == 1) ((fm x:Nat):Int) (fe x)):=by
  have hx':x < 18446744073709551616:=hx
  have hl:=agL x
  have hs:decide (((x:Nat):Int) ≥ (9223372036854775808:Int))=(x / 9223372036854775808 == 1):=by
    rw [Bool.eq_iff_iff,decide_eq_true_eq,beq_iff_eq];omega
  have hf:=Nat.mod_lt x (show 4503599627370496 > 0 by decide)
  have hW:W=18446744073709551616:=rfl
  refine aZ (ae (a:=((wk x == 1),false,(x / 9223372036854775808 == 1),((x % 4503599627370496:Nat):Int))) ?_ (ae (a:=if wk x=1 then 0 else -1074) ?_ (ae (a:=(wk x == 3)) ?_ (ae (a:=(((fm x:Nat):Int),fe x)) ?_ rfl))))
  · unfold Hk
    rw [acl hx h,F2 hx,hs]
    refine ao ?_
    show some (Sum.inl ((((wk x:Nat):Int) == 1),_,_,_))=_
    have:(((wk x:Nat):Int) == 1)=(wk x == 1):=by rw [Bool.eq_iff_iff,beq_iff_eq,beq_iff_eq];omega
    rw [this]
  · show (AW _).run=_
    unfold AW
    by_cases q:wk x=1
    · rw [if_pos q];exact rz (beq_iff_eq.2 q) rfl
    · rw [if_neg q];exact e9 (beq_eq_false_iff_ne.2 q) rfl
  · show (AX _).run=_
    unfold AX
    rw [acl hx h]
    refine ao ?_
    show some (Sum.inl (((wk x:Nat):Int) == 3))=_
    have:(((wk x:Nat):Int) == 3)=(wk x == 3):=by rw [Bool.eq_iff_iff,beq_iff_eq,beq_iff_eq];omega
    rw [this]
  · show (AY _ _ _ _).run=_
    unfold AY
    rw [KG hx,ajQ (by omega)]
    by_cases h1:Vs x=0
    · have hfm:fm x=x % 4503599627370496:=by unfold fm;rw [if_neg (by omega)]
      by_cases h2:x % 4503599627370496=0
      · have hk:wk x=1:=by unfold wk;rw [if_neg (by omega),if_neg (by omega)]
        have hfe:fe x=0:=by unfold fe;rw [if_neg (by omega),if_neg (by omega)]
        rw [hk,hfm,hfe,if_pos rfl]
        exact bj rfl
      · have hk:wk x=2:=by unfold wk;rw [if_neg (by omega),if_pos h2]
        have hfe:fe x = -1074:=by unfold fe;rw [if_neg (by omega),if_pos h2]
        rw [hk,hfm,hfe,if_neg (by omega)]
        exact bj rfl
    · have hk:wk x=3:=by unfold wk;rw [if_pos h1]
      have hfm:fm x=x % 4503599627370496+4503599627370496:=by unfold fm;rw [if_pos h1]
      have hfe:fe x = -1074+(((Vs x:Nat):Int) - 1):=by unfold fe;rw [if_pos h1]
      rw [hk,hfm,hfe,if_neg (by omega)]
      have e1:IntKind.u64.wrap (((x % 4503599627370496:Nat):Int)+(4503599627370496:Int))=((x % 4503599627370496+4503599627370496:Nat):Int):=by
        have e':(4503599627370496:Int)=((4503599627370496:Nat):Int):=by omega
        rw [e',qN,Nat.mod_eq_of_lt (by omega)]
      rw [e1]
      refine bN (ao (cT (by rw [cV];omega) ?_))
      have e2:((Vs x:Nat):Int) - 1075 = -1074+(((Vs x:Nat):Int) - 1):=by omega
      rw [e2];rfl
theorem ap7{x:Nat}(hx:x < Zg)(h:A7 x=true) :
    jt (x:Int)=some (.r0 (nS (fz x)) (aA (nM (fz x)) (nl (nM (fz x)))) (nl (nM (fz x))) (nE (fz x) (-1074))):=by
  have hm:=auq x
  have hn:nl (fm x)≤1:=jR (by rw [Nat.pow_one];exact hm)
  have hl:=agL x
  have he : -1000000≤fe x∧fe x≤1000000:=by unfold fe;split <;> (try split) <;> omega
  have h1:=MI (x / 9223372036854775808 == 1) (v:=fm x) (n:=1) (by rw [Nat.pow_one];exact hm) (by omega) (by omega) he
  obtain ⟨a,b,c⟩:=aoa hx h
  rw [a,b,c] at h1
  refine aZ (ae (a:=(false,(x / 9223372036854775808 == 1),((fm x:Nat):Int),fe x)) ?_ (ae (a:=(nS (fz x),aA (nM (fz x)) (nl (nM (fz x))),nl (nM (fz x)),nE (fz x) (-1074))) ?_ rfl))
  · unfold JR
    rw [aoi hx h]
    exact ao rfl
  · show (Dm _ _ _).run=_
    unfold Dm
    rw [aoh hm,bR ax,h1]
    exact dT (ao rfl)
theorem Vp{x:Nat}(hx:x < Zg)(h:A7 x=true) :
    ab x=some (.r0 (nS (fz x)) (aA (nM (fz x)) (nl (nM (fz x)))) (nl (nM (fz x))) (nE (fz x) (-1074))):=by
  refine aZ (ae (a:=(nS (fz x),aA (nM (fz x)) (nl (nM (fz x))),nl (nM (fz x)),nE (fz x) (-1074))) ?_ rfl)
  unfold Hl
  rw [ap7 hx h]
  exact ao5 (cT (by rw [akE hx h];rfl) (ao rfl))
theorem agQ{x y e:Int}(hx:Sm x e)(hy:Sm y e) :
    cY (nS x) (aA (nM x) (nl (nM x))) (nE x e) (nS y) (aA (nM y) (nl (nM y))) (nE y e)=some (.r0 (nS (x+y)) (aA (nM (x+y)) (nl (nM (x+y)))) (nl (nM (x+y))) (nE (x+y) e)):=by
  refine aZ (ae (a:=(false,nS (x+y),aA (nM (x+y)) (nl (nM (x+y))),nl (nM (x+y)),nE (x+y) e)) ?_ rfl)
  unfold My
  rw [aF,aF,aur (fun _=>rfl) (fun _=>rfl) hx hy]
  exact bf (bf (ao rfl))
theorem arP{x y e:Int}(hx:Sm x e)(hy:Sm y e) :
    jx (nS x) (aA (nM x) (nl (nM x))) (nE x e) (nS y) (aA (nM y) (nl (nM y))) (nE y e)=some (.r0 (nS (x - y)) (aA (nM (x - y)) (nl (nM (x - y)))) (nl (nM (x - y))) (nE (x - y) e)):=by
  refine aZ (ae (a:=(false,nS (x - y),aA (nM (x - y)) (nl (nM (x - y))),nl (nM (x - y)),nE (x - y) e)) ?_ rfl)
  unfold JV
  rw [aF,aF,avw hx hy]
  exact bf (bf (ao rfl))
theorem Vq{x y e f:Int}(hx:Sm x e)(hy:Sm y f) :
    aq (nS x) (aA (nM x) (nl (nM x))) (nE x e) (nS y) (aA (nM y) (nl (nM y))) (nE y f)=some (.r0 (nS (x * y)) (aA (nM (x * y)) (nl (nM (x * y)))) (nl (nM (x * y))) (nE (x * y) (e+f))):=by
  refine aZ (ae (a:=(false,nS (x * y),aA (nM (x * y)) (nl (nM (x * y))),nl (nM (x * y)),nE (x * y) (e+f))) ?_ rfl)
  unfold He
  rw [aF,aF,avx hx hy]
  exact bf (bf (ao rfl))
theorem arQ{v n:Nat}(hn:n≤1000000) :qf (aA v n) (aA v n)=some (.r0 true):=by
  refine aZ (ae (a:=()) (e9 (by simp) rfl) (ae (a:=()) (cw (fun i=>i) n rfl (fun j hj=>?_) ?_) rfl))
  · show (Dk _ _ _).run=_
    unfold Dk
    rw [ax]
    exact cK (ap (ap (ap (ap (e9 (by simp) (ap rfl))))))
  · exact e9 (by rw [ax];exact (by simp only [cV,EI,Ga,qG,rX,iT,rY,rZ,decide_eq_true_eq,decide_eq_false_iff_not,beq_iff_eq,beq_eq_false_iff_ne,bne_iff_ne,bne_eq_false_iff_eq,Bool.not_eq_true',Bool.not_eq_false',List.length_set,ne_eq,ge_iff_le,gt_iff_lt,mu,cI,Be];omega)) rfl
theorem Ra(s:Bool){v n:Nat}(e:Int)(hn:n≤1000000) :gD s (aA v n) e s (aA v n) e=some (.r0 true):=by
  refine aZ (ae (a:=true) ?_ rfl)
  unfold JG
  rw [aF,arQ hn]
  refine rz (by cases s <;> rfl) (bf (bf (ao (bN ?_))))
  show some (Sum.inl (e == e))=_
  rw [beq_self_eq_true]
end Go.Plb.Seat
namespace Go.Plb.Seat
open Go Go.Plb
set_option linter.unusedSimpArgs false
set_option linter.unusedVariables false
theorem zg{l:List Nat}(hw:Wd l)(hf:Fn l)(hn:l.length≤1000000) :
    aB l=some (.r0 l.length (oI (gz l) l.length) (oJ (gz l) l.length) (oK (gz l) (-1074) l.length)):=by
  have hn':∀ n,l.length=n→n≤1000000:=fun n h=>by omega
  generalize hL:l.length=n at *
  have hn:=hn' n rfl
  refine aZ (ae (a:=(wx (fun i=>nS (gz l i)) false 0 n,wx (fun i=>aeh (gz l i)) [] 0 n,wx (fun i=>nE (gz l i) (-1074)) 0 0 n)) ?_ (ae (a:=(oI (gz l) n,oJ (gz l) n,oK (gz l) (-1074) n)) (cw (fun j=>(j,wx (fun i=>nS (gz l i)) false j n,wx (fun i=>aeh (gz l i)) [] j n,wx (fun i=>nE (gz l i) (-1074)) 0 j n)) n rfl (fun j hj=>?_) ?_) (by rw [← hL];rfl)))
  · unfold Ju
    rw [hL,← FY,← FY,← FY]
    exact ap (ap (ap (ap rfl)))
  · show aC (uL _ _ _ _ _).run _=_
    refine ae (a:=(wx (fun i=>nS (gz l i)) false (j+1) n,wx (fun i=>aeh (gz l i)) [] (j+1) n,wx (fun i=>nE (gz l i) (-1074)) 0 (j+1) n)) ?_ (ap rfl)
    obtain ⟨N,h1,h2,h3⟩:=atf (hw j) (hf j (by omega))
    unfold uL
    rw [h1,J9,J9,J9,hL]
    simp only [Gx,Fm,zQ,zR,zS,Fo]
    rw [List.drop_zero,KH h2]
    refine cK (ap (ap (ao (ap (ap (ap (cT (decide_eq_true (by rw [ax];omega)) (ap ?_))))))))
    rw [← FZ hj,← FZ hj,← FZ hj];rfl
  · show aC (uL _ _ _ _ _).run _=_
    refine bH (e9 (by rw [hL];exact (by simp only [cV,EI,Ga,qG,rX,iT,rY,rZ,decide_eq_true_eq,decide_eq_false_iff_not,beq_iff_eq,beq_eq_false_iff_ne,bne_iff_ne,bne_eq_false_iff_eq,Bool.not_eq_true',Bool.not_eq_false',List.length_set,ne_eq,ge_iff_le,gt_iff_lt,mu,cI,Be];omega)) ?_)
    rw [Ka,Ka,Ka];rfl
theorem Rb{g:Nat→Int}{e:Int}{n from' far many:Nat}(h:∀ i,i < many→from'+i * far < n)(hn:n≤1000000)(hm:many≤1000000)(hfar:far≤1000)(hfr:from'≤1000000) :
    ac n (oI g n) (oJ g n) (oK g e n) (from':Int) (far:Int) (many:Int)=some (.r0 many (oI (fun i=>g (from'+i * far)) many) (oJ (fun i=>g (from'+i * far)) many) (oK (fun i=>g (from'+i * far)) e many)):=by
  refine aZ (ae (a:=(many,many,wx (fun i=>nS (g (from'+i * far))) false 0 many,wx (fun i=>aeh (g (from'+i * far))) [] 0 many,wx (fun i=>nE (g (from'+i * far)) e) 0 0 many)) ?_ (ae (a:=(oI (fun i=>g (from'+i * far)) many,oJ (fun i=>g (from'+i * far)) many,oK (fun i=>g (from'+i * far)) e many)) (cw (fun j=>(j,wx (fun i=>nS (g (from'+i * far))) false j many,wx (fun i=>aeh (g (from'+i * far))) [] j many,wx (fun i=>nE (g (from'+i * far)) e) 0 j many)) many rfl (fun j hj=>?_) ?_) rfl))
  · unfold Mj
    rw [cI,← FY,← FY,← FY]
    exact ap (ap (ap (ap rfl)))
  · have hi:=h j hj
    have e1:((j:Nat):Int) * (far:Int)=((j * far:Nat):Int):=by rw [Int.natCast_mul]
    have e2:(from':Int)+((j * far:Nat):Int)=((from'+j * far:Nat):Int):=by rw [Int.natCast_add]
    show (Ao _ _ _ _ _ _ _ _ _ _ _ _).run=_
    unfold Ao
    rw [e1,e2,cI,Kb,Kc,Kd,J9,J9,J9,V2 hi,V3 hi,V4 hi,List.drop_zero,List.take_length]
    refine cK (ap (ap (ap (ap (ap (ap (ap (ap (ap (cT (by rw [decide_eq_true_eq];omega) (ap (ap ?_))))))))))))
    rw [← FZ hj,← FZ hj,← FZ hj];rfl
  · show (Ao _ _ _ _ _ _ _ _ _ _ _ _).run=_
    refine dl ?_
    rw [Ka,Ka,Ka];rfl
theorem agR{g h:Nat→Int}{e f:Int}{n k:Nat}(hg:∀ i,i < n→Sm (g i) e)(hh:∀ i,i < n→Sm (h i) f)(hk:∀ i,i < n→nl (g i * h i).natAbs≤k)(hk2:k≤200)(hn:n≤1000000)(he : -30000≤e+f∧e+f≤30000) :
    ∃ N,cJ n (oI g n) (oJ g n) (oK g e n) n (oI h n) (oJ h n) (oK h f n)=some (.r0 0 (nS (er (fun i=>g i * h i) n)) (aA (nM (er (fun i=>g i * h i) n)) N) 0 (nl (nM (er (fun i=>g i * h i) n))) (nE (er (fun i=>g i * h i) n) (e+f)))∧nl (nM (er (fun i=>g i * h i) n))≤N∧N≤4096:=by
  have hS:∀ j,j≤n→Sm (er (fun i=>g i * h i) j) (e+f):=fun j hj=>rC (K3 (fun i hi=>hk i (by omega)) (by omega)) (by omega) he
  have hp:∀ j,j < n→Sm (g j * h j) (e+f):=fun j hj=>rC (hk j hj) (by omega) he
  have loop:∃ y,dM (FF n (oI g n) (oJ g n) (oK g e n) n (oI h n) (oJ h n) (oK h f n)) (0,0,false,([]:List Int),0,0,(0:Int))=some y ∧
      ∃ N,y=.inl (0,nS (er (fun i=>g i * h i) n),aA (nM (er (fun i=>g i * h i) n)) N,0,nl (nM (er (fun i=>g i * h i) n)),nE (er (fun i=>g i * h i) n) (e+f))∧nl (nM (er (fun i=>g i * h i) n))≤N∧N≤4096:=by
    refine apf (fun j s=>∃ N,s=(0,j,nS (er (fun i=>g i * h i) j),aA (nM (er (fun i=>g i * h i) j)) N,0,nl (nM (er (fun i=>g i * h i) j)),nE (er (fun i=>g i * h i) j) (e+f))∧nl (nM (er (fun i=>g i * h i) j))≤N∧N≤4096) n ?_ (fun j s hj hs=>?_) (fun s hs=>?_)
    · refine ⟨0,?_,?_,by omega⟩
      · show _=(0,0,nS 0,aA (nM 0) 0,0,nl (nM 0),nE 0 (e+f))
        rw [lE,f7,gJ];rfl
      · show nl (nM 0)≤0
        rw [lE,f7];exact Nat.le_refl _
    · obtain ⟨N,rfl,hN1,hN2⟩:=hs
      obtain ⟨M,m1,m2,m3⟩:=Q8 (hg j hj) (hh j hj)
      obtain ⟨A,a1,a2,a3⟩:=ary (hS j (by omega)) (hp j hj)
      refine ⟨_,?_,A,rfl,a2,a3⟩
      show aC (FE _ _ _ _ _ _ _ _ _ _ _ _ _ _ _).run _=_
      refine ae (a:=(0,nS (er (fun i=>g i * h i) j+g j * h j),aA (nM (er (fun i=>g i * h i) j+g j * h j)) A,0,nl (nM (er (fun i=>g i * h i) j+g j * h j)),nE (er (fun i=>g i * h i) j+g j * h j) (e+f))) ?_ (ap rfl)
      unfold FE
      have m1':ay (nS (g j)) (aeh (g j)) (nE (g j) e) (nS (h j)) (aeh (h j)) (nE (h j) f)=_:=m1
      rw [Kb,Kc,Kd,Kb,Kc,Kd,V2 hj,V3 hj,V4 hj,V2 hj,V3 hj,V4 hj,aF,aF,m1']
      simp only [rG,nt,c7,cL,cM,cN,c8]
      rw [ck hN1,ck m2,a1]
      exact cK (ap (ap (ap (ap (ap (ap (ap (ap (bf (bf (ao (bj (cT (bp hN1) (cT (bp m2) (ao (bj rfl))))))))))))))))
    · obtain ⟨N,rfl,hN1,hN2⟩:=hs
      exact ⟨_,bH (dl rfl),N,rfl,hN1,hN2⟩
  obtain ⟨y,l1,N,rfl,l2,l3⟩:=loop
  exact ⟨N,aZ (ae (a:=false) rfl (ae (a:=false) (e9 (by simp) rfl) (ae l1 (bj rfl)))),l2,l3⟩
theorem MK{g:Nat→Int}{e:Int}{n k:Nat}(hg:∀ i,i < n→nl (g i).natAbs≤k)(hk2:k≤100)(hn:n≤1000000)(he : -10000≤e∧e≤10000) :
    ∃ N,bG n (oI g n) (oJ g n) (oK g e n)=some (.r0 0 (nS (er (fun i=>g i * g i) n)) (aA (nM (er (fun i=>g i * g i) n)) N) 0 (nl (nM (er (fun i=>g i * g i) n))) (nE (er (fun i=>g i * g i) n) (e+e)))∧nl (nM (er (fun i=>g i * g i) n))≤N∧N≤4096:=by
  obtain ⟨N,h1,h2,h3⟩:=agR (g:=g) (h:=g) (e:=e) (f:=e) (n:=n) (k:=k+k) (fun i hi=>rC (hg i hi) (by omega) (by omega)) (fun i hi=>rC (hg i hi) (by omega) (by omega)) (fun i hi=>pJ (hg i hi) (hg i hi)) (by omega) hn (by omega)
  refine ⟨N,aZ (ae (a:=(0,nS (er (fun i=>g i * g i) n),aA (nM (er (fun i=>g i * g i) n)) N,0,nl (nM (er (fun i=>g i * g i) n)),nE (er (fun i=>g i * g i) n) (e+e))) ?_ rfl),h2,h3⟩
  unfold Ek
  rw [iU,iV,iW,h1]
  exact ue (ue (ao rfl))
end Go.Plb.Seat
namespace Go.Plb.Seat
open Go Go.Plb
set_option linter.unusedSimpArgs false
set_option linter.unusedVariables false
def Rc(r c:Int)(n:Nat) :Bool:=decide (0≤r∧r≤512∧0≤c∧c≤512∧(n:Int)=r * c)
theorem adn{r c:Int}{n:Nat} :Rc r c n=true↔0≤r∧r≤512∧0≤c∧c≤512∧(n:Int)=r * c:=decide_eq_true_iff
theorem amg{r c:Int}(h1:0≤r)(h2:r≤512)(h3:0≤c)(h4:c≤512) :0≤r * c∧r * c≤262144:=by
  refine ⟨Int.mul_nonneg h1 h3,?_⟩
  have:r * c≤512 * 512:=Int.mul_le_mul h2 h4 h3 (by decide)
  omega
theorem ado{r c:Int}{n:Nat}(h:Rc r c n=true) :∃ p q:Nat,r=(p:Int)∧c=(q:Int)∧p≤512∧q≤512∧n=p * q∧n≤262144:=by
  obtain ⟨h1,h2,h3,h4,h5⟩:=adn.1 h
  have hb:=amg h1 h2 h3 h4
  refine ⟨r.toNat,c.toNat,by omega,by omega,by omega,by omega,?_,by omega⟩
  have e1:r=((r.toNat:Nat):Int):=by omega
  have e2:c=((c.toNat:Nat):Int):=by omega
  rw [e1,e2,← Int.natCast_mul] at h5
  have:=Int.ofNat_inj.1 h5
  simpa using this
theorem ry(r c:Int)(l:List Nat) :dG r c l=some (.r0 (!(Rc r c l.length))):=by
  refine aZ (ae (a:=!(Rc r c l.length)) ?_ rfl)
  unfold Jr
  by_cases h1:r < 0
  · have:Rc r c l.length=false:=by unfold Rc;rw [decide_eq_false_iff_not];omega
    rw [this];exact rz (decide_eq_true h1) rfl
  by_cases h2:r > 512
  · have:Rc r c l.length=false:=by unfold Rc;rw [decide_eq_false_iff_not];omega
    rw [this];exact e9 (decide_eq_false h1) (rz (decide_eq_true h2) rfl)
  by_cases h3:c < 0
  · have:Rc r c l.length=false:=by unfold Rc;rw [decide_eq_false_iff_not];omega
    rw [this];exact e9 (decide_eq_false h1) (e9 (decide_eq_false h2) (rz (decide_eq_true h3) rfl))
  by_cases h4:c > 512
  · have:Rc r c l.length=false:=by unfold Rc;rw [decide_eq_false_iff_not];omega
    rw [this];exact e9 (decide_eq_false h1) (e9 (decide_eq_false h2) (e9 (decide_eq_false h3) (rz (decide_eq_true h4) rfl)))
  have hb:=amg (by omega:0≤r) (by omega:r≤512) (by omega:0≤c) (by omega:c≤512)
  refine e9 (decide_eq_false h1) (e9 (decide_eq_false h2) (e9 (decide_eq_false h3) (e9 (decide_eq_false h4) (cT (by rw [cV];omega) ?_))))
  show some (Sum.inl (((l.length:Nat):Int) != r * c))=_
  congr 2
  unfold Rc
  by_cases h5:((l.length:Nat):Int)=r * c
  · rw [decide_eq_true ⟨by omega,by omega,by omega,by omega,h5⟩,h5];simp
  · rw [decide_eq_false (by omega),bne_iff_ne.2 h5];rfl
theorem ap8(r c:Int)(l:List Nat) :rL r c l=some (.r0 (Rc r c l.length)):=by
  refine aZ (ae (a:=Rc r c l.length) ?_ rfl)
  unfold Mu
  by_cases h1:r ≥ 0
  · by_cases h2:r≤512
    · by_cases h3:c ≥ 0
      · by_cases h4:c≤512
        · have hb:=amg h1 h2 h3 h4
          refine rz (decide_eq_true h1) (rz (decide_eq_true h2) (rz (decide_eq_true h3) (rz (decide_eq_true h4) (cT (by rw [cV];omega) ?_))))
          show some (Sum.inl (((l.length:Nat):Int) == r * c))=_
          congr 2
          unfold Rc
          by_cases h5:((l.length:Nat):Int)=r * c
          · rw [decide_eq_true ⟨by omega,by omega,by omega,by omega,h5⟩,beq_iff_eq.2 h5]
          · rw [decide_eq_false (by omega),beq_eq_false_iff_ne.2 h5]
        · have:Rc r c l.length=false:=by unfold Rc;rw [decide_eq_false_iff_not];omega
          rw [this];exact rz (decide_eq_true h1) (rz (decide_eq_true h2) (rz (decide_eq_true h3) (e9 (decide_eq_false h4) rfl)))
      · have:Rc r c l.length=false:=by unfold Rc;rw [decide_eq_false_iff_not];omega
        rw [this];exact rz (decide_eq_true h1) (rz (decide_eq_true h2) (e9 (decide_eq_false h3) rfl))
    · have:Rc r c l.length=false:=by unfold Rc;rw [decide_eq_false_iff_not];omega
      rw [this];exact rz (decide_eq_true h1) (e9 (decide_eq_false h2) rfl)
  · have:Rc r c l.length=false:=by unfold Rc;rw [decide_eq_false_iff_not];omega
    rw [this];exact e9 (decide_eq_false h1) rfl
noncomputable def amh(l:List Nat) :Bool:=@decide (Fn l) (Classical.propDecidable _)
theorem wi{l:List Nat} :amh l=true↔Fn l:=@decide_eq_true_iff _ (Classical.propDecidable _)
theorem agS{l:List Nat} :amh l=false↔¬ Fn l:=@decide_eq_false_iff_not _ (Classical.propDecidable _)
theorem QL{l:List Nat}(hw:Wd l)(hn:l.length≤1000000000) :∃ k:Int,az l=some (.r0 k)∧decide (k ≥ 0) = !(amh l):=by
  have step:∀ j,j < l.length→A7 (l.getD j 0)=true→eu l j=some (.inl (j+1)):=by
    intro j hj hf
    show (cz _ _).run=_
    unfold cz
    exact cK (ap (ap (e9 (akF (hw j) hf) (bN (e9 (atT (hw j) hf) (ap rfl))))))
  by_cases h:Fn l
  · refine ⟨-1,aZ (ae (a:=()) rfl (ae (a:=()) (cw (fun j=>j) l.length rfl (fun j hj=>step j hj (h j hj)) (dl rfl)) rfl)),?_⟩
    rw [wi.2 h];rfl
  · obtain ⟨k,hk,hb,hf⟩:=FW (p:=fun i=>A7 (l.getD i 0)=true) h
    have hbf:A7 (l.getD k 0)=false:=by cases q:A7 (l.getD k 0) with | true=>exact absurd q hb | false=>rfl
    refine ⟨(k:Int),aZ (ae (a:=()) rfl (bH (cw (fun j=>j) k rfl (fun j hj=>step j (by omega) (hf j hj)) ?_))),?_⟩
    · show (cz _ _).run=_
      unfold cz
      refine cK (ap (ap ?_))
      rcases ajj (hw k) hbf with q | ⟨q1,q2,q3⟩
      · exact rz (atS q) rfl
      · exact e9 q3 (bN (rz (atU (hw k) q2) rfl))
    · rw [agS.2 h,decide_eq_true (by omega)];rfl
theorem aqV(x:Nat) :Int.tmod (Int.fdiv (x:Int) (2 ^ (min (Int.toNat (52:Int)) IntKind.u64.bits))) (2048:Int)=((Vs x:Nat):Int):=anm x
theorem acm{r c:Int}{l:List Nat}(hw:Wd l)(h:Rc r c l.length=true) :tJ r c l=some (.r0 (if amh l then 0 else 10)):=by
  obtain ⟨h1,h2,h3,h4,h5⟩:=adn.1 h
  have hb:=amg h1 h2 h3 h4
  have t8:(AQ r c).run=some (.inl false):=by
    unfold AQ
    refine e9 (by rw [decide_eq_false_iff_not];omega) (e9 (by rw [decide_eq_false_iff_not];omega) (e9 (by rw [decide_eq_false_iff_not];omega) ?_))
    show some (Sum.inl (decide (c > 512)))=_
    rw [decide_eq_false (by omega)]
  have t9:(AR r c l false).run=some (.inl ()):=by
    unfold AR
    exact bj (cT (by rw [cV];omega) (e9 (by rw [bne_eq_false_iff_eq];exact h5) rfl))
  have step:∀ j,j < l.length→A7 (l.getD j 0)=true→yn l j=some (.inl (j+1)):=by
    intro j hj hf
    show (o0 _ _).run=_
    unfold o0
    rw [aqV]
    have hx:Vs (l.getD j 0) ≠ 2047:=by unfold A7 at hf;exact bne_iff_ne.1 hf
    refine cK (ap (ap (ao5 (cT (by rw [akE (hw j) hf];rfl) (ao (ao (e9 ?_ (ap rfl))))))))
    rw [Bool.not_eq_false',bne_iff_ne];omega
  refine aZ (ae t8 (ae t9 ?_))
  by_cases h:Fn l
  · rw [wi.2 h]
    exact ae (a:=()) (cw (fun j=>j) l.length rfl (fun j hj=>step j hj (h j hj)) (dl rfl)) rfl
  · obtain ⟨k,hk,hbd,hf⟩:=FW (p:=fun i=>A7 (l.getD i 0)=true) h
    have hbf:A7 (l.getD k 0)=false:=by cases q:A7 (l.getD k 0) with | true=>exact absurd q hbd | false=>rfl
    rw [agS.2 h]
    refine bH (cw (fun j=>j) k rfl (fun j hj=>step j (by omega) (hf j hj)) ?_)
    show (o0 _ _).run=_
    unfold o0
    rw [aqV]
    refine cK (ap (ap ?_))
    rcases ajj (hw k) hbf with q | ⟨q1,q2,q3⟩
    · exact auN (auO (by rw [q];rfl)) (ao5 (cT q rfl))
    · have hx:Vs (l.getD k 0)=2047:=by unfold A7 at hbf;exact bne_eq_false_iff_eq.1 hbf
      exact ao5 (cT (by rw [q1];rfl) (ao (ao (rz (by rw [hx];rfl) rfl))))
def Rd(l:List Nat) :Int:=er (fun i=>gz l i * gz l i) l.length
theorem au5{l:List Nat}(hw:Wd l)(hf:Fn l)(hn:l.length≤1000000) :nl (Rd l).natAbs≤67 :=
  K3 (fun i hi=>pJ (zF hw hf hi) (zF hw hf hi)) hn
theorem atj{r c:Int}{l:List Nat}(h:Rc r c l.length=false) :cm r c l=some (.r0 2 false [] 0 0 0):=by
  refine aZ (bH ?_)
  unfold Al
  rw [aF,ry,h]
  exact bN (ao (bf (ao (bN (bN rfl)))))
theorem atk{r c:Int}{l:List Nat}(hw:Wd l)(h:Rc r c l.length=true)(hf:amh l=false) :cm r c l=some (.r0 10 false [] 0 0 0):=by
  obtain ⟨_,_,_,_,_,_,_,hn⟩:=ado h
  obtain ⟨k,k1,k2⟩:=QL hw (by omega)
  refine aZ (bH ?_)
  unfold Al
  rw [aF,ry,h,k1]
  exact bN (ao (bf (ao (bj (ao (bj (bj (bN (ao (bf (ao (rz (by rw [hf] at k2;exact k2) rfl))))))))))))
theorem Z3{r c:Int}{l:List Nat}(hw:Wd l)(h:Rc r c l.length=true)(hf:amh l=true) :
    ∃ N,cm r c l=some (.r0 0 (nS (Rd l)) (aA (nM (Rd l)) N) 0 (nl (nM (Rd l))) (nE (Rd l) (-2148)))∧nl (nM (Rd l))≤N∧N≤4096:=by
  obtain ⟨_,_,_,_,_,_,_,hn⟩:=ado h
  obtain ⟨k,k1,k2⟩:=QL hw (by omega)
  have hF:=wi.1 hf
  obtain ⟨N,h1,h2,h3⟩:=MK (g:=gz l) (e:=-1074) (n:=l.length) (k:=33) (fun i hi=>zF hw hF hi) (by omega) (by omega) (by omega)
  refine ⟨N,aZ (ae (a:=false) ?_ (ae (a:=(0,nS (Rd l),aA (nM (Rd l)) N,0,nl (nM (Rd l)),nE (Rd l) (-2148))) ?_ rfl)),h2,h3⟩
  · unfold Al
    rw [aF,ry,h,k1]
    exact bN (ao (bf (ao (bj (ao (bj (bj (bN (ao (bf (ao (e9 (by rw [hf] at k2;exact k2) (ao (bj rfl))))))))))))))
  · unfold Mh
    rw [aF,zg hw hF (by omega)]
    simp only [jU,aX,dJ,dK,dL]
    rw [iU,iV,iW,h1]
    exact bf (ao (ue (ao rfl)))
theorem ap9{l:List Nat}(hw:Wd l)(hf:Fn l)(hn:l.length≤1000000) :
    ew l=some (.r0 (nS (Rd l)) (aA (nM (Rd l)) (nl (nM (Rd l)))) (nl (nM (Rd l))) (nE (Rd l) (-2148))):=by
  have hS:∀ j,j≤l.length→Sm (er (fun i=>gz l i * gz l i) j) (-2148):=fun j hj=>rC (k:=67) (K3 (fun i hi=>pJ (zF hw hf (by omega)) (zF hw hf (by omega))) (by omega)) (by omega) (by omega)
  have h0:=IB (n:=0) (by omega)
  refine aZ (ae (a:=(false,nS 0,aA (nM 0) (nl (nM 0)),nl (nM 0),nE 0 (-2148))) ?_ (ae (a:=()) rfl (ae (a:=(nS (Rd l),aA (nM (Rd l)) (nl (nM (Rd l))),nl (nM (Rd l)),nE (Rd l) (-2148))) (cw (fun j=>(j,nS (er (fun i=>gz l i * gz l i) j),aA (nM (er (fun i=>gz l i * gz l i) j)) (nl (nM (er (fun i=>gz l i * gz l i) j))),nl (nM (er (fun i=>gz l i * gz l i) j)),nE (er (fun i=>gz l i * gz l i) j) (-2148))) l.length rfl (fun j hj=>?_) ?_) rfl)))
  · unfold Hm
    have h0':aG 0=_:=h0
    rw [h0']
    refine ao ?_
    show some (Sum.inl (false,nS ((0:Nat):Int),aA (nM ((0:Nat):Int)) (nl (nM ((0:Nat):Int))),nl (nM ((0:Nat):Int)),nE ((0:Nat):Int) 0))=_
    rw [show ((0:Nat):Int)=0 from rfl,gJ,gJ]
  · have hx:=V5 hw hf hj
    have hp:Sm (gz l j * gz l j) (-1074 + -1074):=rC (pJ (zF hw hf hj) (zF hw hf hj)) (by omega) (by omega)
    have t1:=Vq hx hx
    have t2:=agQ (hS j (by omega)) (y:=gz l j * gz l j) (e:=-2148) hp
    show aC (u9 _ _ _ _ _ _).run _=_
    refine ae (a:=(nS (er (fun i=>gz l i * gz l i) (j+1)),aA (nM (er (fun i=>gz l i * gz l i) (j+1))) (nl (nM (er (fun i=>gz l i * gz l i) (j+1)))),nl (nM (er (fun i=>gz l i * gz l i) (j+1))),nE (er (fun i=>gz l i * gz l i) (j+1)) (-2148))) ?_ (ap rfl)
    unfold u9
    have ex:ab (l.getD j 0)=_:=Vp (hw j) (hf j hj)
    rw [ex]
    simp only [l8,ak,ai,aj,am]
    have t1':aq (nS (fz (l.getD j 0))) (aA (nM (fz (l.getD j 0))) (nl (nM (fz (l.getD j 0))))) (nE (fz (l.getD j 0)) (-1074)) (nS (fz (l.getD j 0))) (aA (nM (fz (l.getD j 0))) (nl (nM (fz (l.getD j 0))))) (nE (fz (l.getD j 0)) (-1074))=_:=t1
    rw [bR ax,t1']
    simp only [i9,bL,bn,bo,bM]
    have t2':cY (nS (er (fun i=>gz l i * gz l i) j)) (aA (nM (er (fun i=>gz l i * gz l i) j)) (nl (nM (er (fun i=>gz l i * gz l i) j)))) (nE (er (fun i=>gz l i * gz l i) j) (-2148)) (nS (gz l j * gz l j)) (aA (nM (gz l j * gz l j)) (nl (nM (gz l j * gz l j)))) (nE (gz l j * gz l j) (-1074 + -1074))=_:=t2
    rw [bR ax,bR ax,t2']
    exact cK (ap (ap (ao (dT (dT (ao (dT (dT (ao rfl)))))))))
  · show aC (u9 _ _ _ _ _ _).run _=_
    exact bH (dl rfl)
def bF(m n:Nat) :Nat:=64 * max m 1 * max n 1
def bI(m n:Nat) :Int:=(bF m n:Int) * (bF m n:Int)
theorem aus{m n:Nat}(hm:m≤512)(hn:n≤512) :bF m n≤16777216:=by
  unfold bF
  have h1:max m 1≤512:=by omega
  have h2:max n 1≤512:=by omega
  have:max m 1 * max n 1≤512 * 512:=Nat.mul_le_mul h1 h2
  rw [Nat.mul_assoc];omega
theorem aut{m n:Nat}(hm:m≤512)(hn:n≤512) :nl (bF m n)≤1:=by
  have:=aus hm hn
  exact jR (by rw [Nat.pow_one];exact Nat.lt_of_le_of_lt this (by decide))
theorem aqW{m n:Nat}(hm:m≤512)(hn:n≤512) :nl (bI m n).natAbs≤2:=by
  have h:=aut hm hn
  exact pJ (a:=1) (b:=1) (by rw [Int.natAbs_natCast];exact h) (by rw [Int.natAbs_natCast];exact h)
theorem auu{m n:Nat}(hm:m≤512)(hn:n≤512) :Sm (bF m n:Int) 0:=rC (k:=1) (by rw [Int.natAbs_natCast];exact aut hm hn) (by omega) (by omega)
theorem aoj(m:Nat) :oF (m:Int) 1=((max m 1:Nat):Int):=by
  by_cases h:m≤1
  · rw [amf (by omega),Nat.max_eq_right h];rfl
  · rw [aqQ (by omega),Nat.max_eq_left (by omega)]
theorem au6(m n:Nat) :((64:Int) * ((max m 1:Nat):Int)) * ((max n 1:Nat):Int)=((bF m n:Nat):Int):=by
  unfold bF;rw [Int.natCast_mul,Int.natCast_mul];rfl
theorem agT{m n:Nat}(hm:m≤512)(hn:n≤512) :
    ∃ N,bZ (m:Int) (n:Int)=some (.r0 0 (nS (bI m n)) (aA (nM (bI m n)) N) 0 (nl (nM (bI m n))) (nE (bI m n) (-106)))∧nl (nM (bI m n))≤N∧N≤4096:=by
  have hb:=aus hm hn
  obtain ⟨A,a1,a2,a3⟩:=QJ (n:=bF m n) (by omega)
  obtain ⟨B,b1,b2,b3⟩:=Q8 (auu hm hn) (auu hm hn)
  have b2:nl (nM (bI m n))≤B:=b2
  have hB:Sm (bI m n) (0+0):=rC (aqW hm hn) (by omega) (by omega)
  obtain ⟨C,c1,c2,c3⟩:=an9 (k:=-106) hB (by omega)
  have hmx:max m 1≤512:=by omega
  refine ⟨C,aZ (ae (a:=(false,false)) ?_ (ae (a:=(nS (bF m n:Int),aA (nM (bF m n:Int)) A,0,nl (nM (bF m n:Int)),nE (bF m n:Int) 0)) ?_ (ae (a:=(0,nS (bI m n),aA (nM (bI m n)) B,0,nl (nM (bI m n)),nE (bI m n) (0+0))) ?_ (ae (a:=(0,nS (bI m n),aA (nM (bI m n)) C,0,nl (nM (bI m n)),nE (bI m n) (-106))) ?_ rfl)))),c2,c3⟩
  · unfold Jt
    refine e9 (by rw [decide_eq_false_iff_not];omega) (e9 (by rw [decide_eq_false_iff_not];omega) (e9 (by rw [decide_eq_false_iff_not];omega) ?_))
    show some (Sum.inl (decide ((n:Int) > 512),false))=_
    rw [decide_eq_false (by omega)]
  · show (C4 _ _ _).run=_
    unfold C4
    rw [aoj,aoj,au6,a1]
    exact bj (cT (by rw [cV];omega) (cT (by rw [cV];omega) (ao rfl)))
  · show (C5 _ _ _ _ _).run=_
    unfold C5
    rw [ck a2,b1]
    exact cT (bp a2) (cT (bp a2) (ao rfl))
  · show (C6 _ _ _ _ _ _).run=_
    unfold C6
    rw [ck b2,c1]
    exact bj (cT (bp b2) (ao rfl))
end Go.Plb.Seat
namespace Go.Plb.Seat
open Go Go.Plb
set_option linter.unusedSimpArgs false
set_option linter.unusedVariables false
theorem pq{i k c:Nat}(h:k < c) :(i * c+k) / c=i∧(i * c+k) % c=k:=by
  have hc:0 < c:=by omega
  refine ⟨by rw [Nat.mul_comm,Nat.mul_add_div hc,Nat.div_eq_of_lt h,Nat.add_zero],?_⟩
  rw [Nat.mul_comm,Nat.mul_add_mod,Nat.mod_eq_of_lt h]
def au7:Nat:=2 ^ 2148
def Rk:Int:=1 * ((au7:Nat):Int)
theorem atl:nS 1=nS Rk∧nM 1=nM Rk∧nE 1 0=nE Rk (-2148):=by
  have h:=asY 1 2148 (-2148)
  rw [show (-2148:Int)+((2148:Nat):Int)=0 by omega] at h
  unfold Rk au7
  exact h
theorem avy(n:Nat) :W ^ n=2 ^ (64 * n):=by rw [Nat.pow_mul]
theorem au8{a n:Nat}(h:a < 64 * n) :nl (2 ^ a)≤n:=jR (by rw [avy];exact auV h)
theorem aqa:nl Rk.natAbs≤34:=by
  unfold Rk
  rw [Int.one_mul,Int.natAbs_natCast]
  unfold au7
  exact au8 (a:=2148) (n:=34) (by decide)
def Z4(l:List Nat)(r c i k:Nat) :Int:=er (fun j=>gz l (j * c+i) * gz l (j * c+k)) r
def tG(l:List Nat)(r c i k:Nat) :Int:=Z4 l r c i k - (if i=k then Rk else 0)
def gG(l:List Nat)(r c p:Nat) :Int:=tG l r c (p / c) (p % c)
def ML(l:List Nat)(r c:Nat) :Int:=er (fun p=>gG l r c p * gG l r c p) (c * c)
theorem adp{l:List Nat}(hw:Wd l)(hf:Fn l){r c i k n:Nat}(hl:l.length=r * c)(hi:i < c)(hk:k < c)(hn:n≤r)(hr:r≤1000) :
    nl (er (fun j=>gz l (j * c+i) * gz l (j * c+k)) n).natAbs≤67 :=
  K3 (fun j hj=>pJ (zF hw hf (by rw [hl];exact K1 (by omega) hi)) (zF hw hf (by rw [hl];exact K1 (by omega) hk))) (by omega)
theorem auv{l:List Nat}(hw:Wd l)(hf:Fn l){r c i k:Nat}(hl:l.length=r * c)(hi:i < c)(hk:k < c)(hr:r≤1000) :nl (tG l r c i k).natAbs≤68:=by
  refine aqL (a:=67) (adp hw hf hl hi hk (Nat.le_refl _) hr) ?_
  split
  · exact Nat.le_trans aqa (by omega)
  · rw [Int.natAbs_zero,f7];omega
theorem atm{l:List Nat}(hw:Wd l)(hf:Fn l){r c p:Nat}(hl:l.length=r * c)(hp:p < c * c)(hr:r≤1000) :nl (gG l r c p).natAbs≤68:=by
  have hc : 0 < c := by rcases Nat.eq_zero_or_pos c with h | h; · subst h; omega
                        · exact h
  exact auv hw hf hl (Nat.div_lt_of_lt_mul hp) (Nat.mod_lt _ hc) hr
theorem atp{l:List Nat}(hw:Wd l)(hf:Fn l){r c n:Nat}(hl:l.length=r * c)(hr:r≤512)(hc:c≤512)(hn:n≤c * c) :nl (er (fun p=>gG l r c p * gG l r c p) n).natAbs≤137:=by
  have:c * c≤512 * 512:=Nat.mul_le_mul hc hc
  exact K3 (fun p hp=>pJ (atm hw hf hl (by omega) (by omega)) (atm hw hf hl (by omega) (by omega))) (by omega)
theorem aqb{l:List Nat}(hw:Wd l)(hf:Fn l){r c i k:Nat}(hl:l.length=r * c)(hi:i < c)(hk:k < c)(hr:r≤512)(hc:c≤512) :
    ∃ N,cO (i:Int) (k:Int) l.length (oI (gz l) l.length) (oJ (gz l) l.length) (oK (gz l) (-1074) l.length) (r:Int) (c:Int) (nS 1) (aA (nM 1) (nl (nM 1))) (nE 1 0)=some (.r0 0 (nS (tG l r c i k)) (aA (nM (tG l r c i k)) N) 0 (nl (nM (tG l r c i k))) (nE (tG l r c i k) (-2148)))∧nl (nM (tG l r c i k))≤N∧N≤4096:=by
  have hb:r * c≤512 * 512:=Nat.mul_le_mul hr hc
  have li:∀ x,x < c→∀ j,j < r→x+j * c < l.length:=fun x hx j hj=>by rw [hl,Nat.add_comm];exact K1 hj hx
  have l1:=Rb (g:=gz l) (e:=-1074) (n:=l.length) (from':=i) (far:=c) (many:=r) (li i hi) (by omega) (by omega) (by omega) (by omega)
  have l2:=Rb (g:=gz l) (e:=-1074) (n:=l.length) (from':=k) (far:=c) (many:=r) (li k hk) (by omega) (by omega) (by omega) (by omega)
  obtain ⟨D,d1,d2,d3⟩:=agR (g:=fun j=>gz l (i+j * c)) (h:=fun j=>gz l (k+j * c)) (e:=-1074) (f:=-1074) (n:=r) (k:=66) (fun j hj=>V5 hw hf (li i hi j hj)) (fun j hj=>V5 hw hf (li k hk j hj)) (fun j hj=>pJ (zF hw hf (li i hi j hj)) (zF hw hf (li k hk j hj))) (by omega) (by omega) (by omega)
  have ed:er (fun j=>gz l (i+j * c) * gz l (k+j * c)) r=Z4 l r c i k:=UG fun j _=>by rw [Nat.add_comm i,Nat.add_comm k]
  rw [ed] at d1 d2
  have t5:(Aq (i:Int) (k:Int) l.length (oI (gz l) l.length) (oJ (gz l) l.length) (oK (gz l) (-1074) l.length) (r:Int) (c:Int)).run=some (.inl (0,false,nS (Z4 l r c i k),aA (nM (Z4 l r c i k)) D,0,nl (nM (Z4 l r c i k)),nE (Z4 l r c i k) (-2148))):=by
    unfold Aq
    rw [iU,iV,iW,l1,l2]
    simp only [ng,ag,bB,bC,bD]
    rw [iU,iV,iW,iU,iV,iW,d1]
    exact ue (ao (ue (ao (ue (ue (ao rfl))))))
  by_cases hik:i=k
  · have hD:Sm (Z4 l r c i k) (-2148):=rC (adp hw hf hl hi hk (Nat.le_refl _) (by omega)) (by omega) (by omega)
    have hO:Sm Rk (-2148):=rC aqa (by omega) (by omega)
    obtain ⟨E,e1,e2,e3⟩:=ajP hD hO
    obtain ⟨o1,o2,o3⟩:=atl
    have et:Z4 l r c i k - Rk=tG l r c i k:=by unfold tG;rw [if_pos hik]
    rw [et] at e1 e2
    rw [o1,o2,o3]
    refine ⟨E,aZ (ae t5 (ae (a:=false) ?_ (ae (a:=(0,nS (tG l r c i k),aA (nM (tG l r c i k)) E,0,nl (nM (tG l r c i k)),nE (tG l r c i k) (-2148))) ?_ rfl))),e2,e3⟩
    · show (Ar _ _ _).run=_
      refine bj ?_
      show some (Sum.inl ((i:Int) != (k:Int)))=_
      rw [hik,bne_self_eq_false]
    · show (As _ _ _ _ _ _ _ _ _ _).run=_
      unfold As
      rw [ck d2,aF,e1]
      exact bj (cT (bp d2) (bf (ao rfl)))
  · have et:Z4 l r c i k=tG l r c i k:=by unfold tG;rw [if_neg hik,Int.sub_zero]
    rw [et] at t5 d2
    refine ⟨D,aZ (ae t5 (ae (a:=true) ?_ (bH (bN rfl)))),d2,d3⟩
    show (Ar _ _ _).run=_
    refine bj ?_
    show some (Sum.inl ((i:Int) != (k:Int)))=_
    rw [bne_iff_ne.2 (by omega)]
theorem atq{g:Nat→Int}{n:Nat} :List.take n (oI g n) ++ [nS (g n)]=oI g (n+1):=UD
theorem att{g:Nat→Int}{n:Nat} :List.take n (oJ g n) ++ [aA (nM (g n)) (nl (nM (g n)))]=oJ g (n+1):=UD
theorem atu{g:Nat→Int}{e:Int}{n:Nat} :List.take n (oK g e n) ++ [nE (g n) e]=oK g e (n+1):=UD
theorem arR{l:List Nat}(hw:Wd l)(hf:Fn l){r c:Nat}(hl:l.length=r * c)(hr:r≤512)(hc:c≤512) :
    ∃ N,be (c:Int) (c:Int) l.length (oI (gz l) l.length) (oJ (gz l) l.length) (oK (gz l) (-1074) l.length) (r:Int) (c:Int) l (nS 1) (aA (nM 1) (nl (nM 1))) (nE 1 0)=some (.r0 0 (nS (ML l r c)) (aA (nM (ML l r c)) N) 0 (nl (nM (ML l r c))) (nE (ML l r c) (-4296)))∧nl (nM (ML l r c))≤N∧N≤4096:=by
  have hcc:c * c≤512 * 512:=Nat.mul_le_mul hc hc
  obtain ⟨N,s1,s2,s3⟩:=MK (g:=gG l r c) (e:=-2148) (n:=c * c) (k:=68) (fun p hp=>atm hw hf hl hp (by omega)) (by omega) (by omega) (by omega)
  refine ⟨N,aZ (ae (a:=false) rfl (ae (a:=()) rfl (ae (a:=(c * c,c * c,0,c * c,oI (gG l r c) (c * c),oJ (gG l r c) (c * c),oK (gG l r c) (-2148) (c * c))) (cw (fun i=>(i * c,i * c,0,i,i * c,oI (gG l r c) (i * c),oJ (gG l r c) (i * c),oK (gG l r c) (-2148) (i * c))) c (by rw [Nat.zero_mul];rfl) (fun i hi=>?_) ?_) (ae (a:=(0,nS (ML l r c),aA (nM (ML l r c)) N,0,nl (nM (ML l r c)),nE (ML l r c) (-4296))) ?_ rfl)))),s2,s3⟩
  · show aC (gL _ _ _ _ _ _ _ _ _).run _=_
    have hnx:(i+1) * c=i * c+c:=by rw [Nat.add_mul,Nat.one_mul]
    have hic:i * c≤512 * 512:=Nat.mul_le_mul (by omega) hc
    refine ae (a:=()) (cK rfl) (ae (a:=((i+1) * c,(i+1) * c,0,(i+1) * c,oI (gG l r c) ((i+1) * c),oJ (gG l r c) ((i+1) * c),oK (gG l r c) (-2148) ((i+1) * c))) (NO (ae (a:=()) rfl (ae (a:=(i * c+c,i * c+c,0,i * c+c,oI (gG l r c) (i * c+c),oJ (gG l r c) (i * c+c),oK (gG l r c) (-2148) (i * c+c))) (cw (fun k=>(i * c+k,i * c+k,0,k,i * c+k,oI (gG l r c) (i * c+k),oJ (gG l r c) (i * c+k),oK (gG l r c) (-2148) (i * c+k))) c rfl (fun k hk=>?_) ?_) (by rw [hnx];rfl)))) (ap rfl))
    · obtain ⟨A,a1,a2,a3⟩:=aqb hw hf hl hi hk hr hc
      obtain ⟨q1,q2⟩:=pq (i:=i) hk
      have eg:tG l r c i k=gG l r c (i * c+k):=by unfold gG;rw [q1,q2]
      rw [eg] at a1 a2
      show aC (fc _ _ _ _ _ _ _ _ _ _ _ _ _ _ _ _ _ _ _ _).run _=_
      refine ae (a:=(i * c+k+1,0,oI (gG l r c) (i * c+k+1),oJ (gG l r c) (i * c+k+1),oK (gG l r c) (-2148) (i * c+k+1))) ?_ (ap rfl)
      unfold fc
      rw [iU,iV,iW,aF,a1]
      simp only [uT,n7,vY,q9,ra,rb,vZ]
      rw [List.drop_zero,KH a2,atq,att,atu]
      exact cK (ue (bf (bf (ao (bj (ap (ap (ao (ap (cT (decide_eq_true (by rw [ax];omega)) rfl))))))))))
    · show aC (fc _ _ _ _ _ _ _ _ _ _ _ _ _ _ _ _ _ _ _ _).run _=_
      exact bH (dl rfl)
  · show aC (gL _ _ _ _ _ _ _ _ _).run _=_
    exact bH (dl rfl)
  · show (gM _ _ _ _ _ _).run=_
    unfold gM
    rw [iU,iV,iW,s1]
    exact bj (ue (ao rfl))
theorem atv{r c:Int}{l:List Nat}(h:Rc r c l.length=false) :cX r c l=some (.r0 2 false [] 0 0 0):=by
  refine aZ (bH ?_)
  unfold Aw
  rw [aF,ry,h]
  exact bN (ao (bf (ao (bN (bN rfl)))))
theorem atw{r c:Int}{l:List Nat}(hw:Wd l)(h:Rc r c l.length=true)(hf:amh l=false) :cX r c l=some (.r0 10 false [] 0 0 0):=by
  obtain ⟨_,_,_,_,_,_,_,hn⟩:=ado h
  obtain ⟨k,k1,k2⟩:=QL hw (by omega)
  refine aZ (bH ?_)
  unfold Aw
  rw [aF,ry,h,k1]
  exact bN (ao (bf (ao (bj (ao (bj (bj (bN (ao (bf (ao (rz (by rw [hf] at k2;exact k2) rfl))))))))))))
theorem ajV{r c:Nat}{l:List Nat}(hw:Wd l)(h:Rc r c l.length=true)(hf:amh l=true) :
    ∃ N,cX (r:Int) (c:Int) l=some (.r0 0 (nS (ML l r c)) (aA (nM (ML l r c)) N) 0 (nl (nM (ML l r c))) (nE (ML l r c) (-4296)))∧nl (nM (ML l r c))≤N∧N≤4096:=by
  obtain ⟨h1,h2,h3,h4,h5⟩:=adn.1 h
  have hr:r≤512:=by omega
  have hc:c≤512:=by omega
  have hl:l.length=r * c:=by rw [← Int.natCast_mul] at h5;exact Int.ofNat_inj.1 h5
  have hb:r * c≤512 * 512:=Nat.mul_le_mul hr hc
  obtain ⟨k,k1,k2⟩:=QL hw (by omega)
  have hF:=wi.1 hf
  obtain ⟨A,a1,a2,a3⟩:=QJ (n:=1) (by omega)
  obtain ⟨N,n1,n2,n3⟩:=arR hw hF hl hr hc
  refine ⟨N,aZ (ae (a:=false) ?_ (ae (a:=(l.length,oI (gz l) l.length,oJ (gz l) l.length,oK (gz l) (-1074) l.length)) ?_ (ae (a:=(nS 1,aA (nM 1) A,0,nl (nM 1),nE 1 0)) ?_ (ae (a:=(0,nS (ML l r c),aA (nM (ML l r c)) N,0,nl (nM (ML l r c)),nE (ML l r c) (-4296))) ?_ rfl)))),n2,n3⟩
  · unfold Aw
    rw [aF,ry,h,k1]
    exact bN (ao (bf (ao (bj (ao (bj (bj (bN (ao (bf (ao (e9 (by rw [hf] at k2;exact k2) (ao (bj rfl))))))))))))))
  · unfold Mk
    rw [aF,zg hw hF (by omega)]
    exact bf (ao rfl)
  · have a1':bm 1=_:=a1
    unfold Ml
    rw [a1']
    exact ao rfl
  · show (FI _ _ _ _ _ _ _ _ _ _ _ _).run=_
    have a2':nl (nM 1)≤A:=a2
    unfold FI
    rw [iU,iV,iW,aF,ck a2',n1]
    exact ue (bf (cT (bp a2') (ao rfl)))
end Go.Plb.Seat
namespace Go.Plb.Seat
open Go Go.Plb
set_option linter.unusedSimpArgs false
set_option linter.unusedVariables false
theorem ami(j c i:Nat) :((j:Int) * (c:Int))+(i:Int)=((j * c+i:Nat):Int):=by rw [Int.natCast_add,Int.natCast_mul]
theorem amj(j c:Nat) :(j:Int) * (c:Int)=((j * c:Nat):Int):=by rw [Int.natCast_mul]
theorem agU(e:Int) :aG 0=some (.r0 (nS 0) (aA (nM 0) (nl (nM 0))) (nl (nM 0)) (nE 0 e)):=by
  have h:=IB (n:=0) (by omega)
  rw [show ((0:Nat):Int)=0 from rfl,gJ] at h
  rw [gJ];exact h
theorem arS:aG 1=some (.r0 (nS Rk) (aA (nM Rk) (nl (nM Rk))) (nl (nM Rk)) (nE Rk (-2148))):=by
  have h:=IB (n:=1) (by omega)
  obtain ⟨o1,o2,o3⟩:=atl
  rw [show ((1:Nat):Int)=1 from rfl,o1,o2,o3] at h
  exact h
def nd4(z e:Int) :Bool×List Int×Nat×Int:=(nS z,aA (nM z) (nl (nM z)),nl (nM z),nE z e)
theorem at7{l:List Nat}(hw:Wd l)(hf:Fn l){r c i k j:Nat}(hl:l.length=r * c)(hi:i < c)(hk:k < c)(hj:j < r)(hr:r≤512)(hc:c≤512) :
    A2 (r:Int) (c:Int) l i k (j,nd4 (er (fun j=>gz l (j * c+i) * gz l (j * c+k)) j) (-2148))=some (.inl (j+1,nd4 (er (fun j=>gz l (j * c+i) * gz l (j * c+k)) (j+1)) (-2148))):=by
  have hb:r * c≤512 * 512:=Nat.mul_le_mul hr hc
  have li:j * c+i < l.length:=by rw [hl];exact K1 hj hi
  have lk:j * c+k < l.length:=by rw [hl];exact K1 hj hk
  have ex:ab (l.getD (j * c+i) 0)=some (.r0 (nS (gz l (j * c+i))) (aA (nM (gz l (j * c+i))) (nl (nM (gz l (j * c+i))))) (nl (nM (gz l (j * c+i)))) (nE (gz l (j * c+i)) (-1074))):=Vp (hw _) (hf _ li)
  have ey:ab (l.getD (j * c+k) 0)=some (.r0 (nS (gz l (j * c+k))) (aA (nM (gz l (j * c+k))) (nl (nM (gz l (j * c+k))))) (nl (nM (gz l (j * c+k)))) (nE (gz l (j * c+k)) (-1074))):=Vp (hw _) (hf _ lk)
  have t1:=Vq (V5 hw hf li) (V5 hw hf lk)
  have hp:Sm (gz l (j * c+i) * gz l (j * c+k)) (-1074 + -1074):=rC (pJ (zF hw hf li) (zF hw hf lk)) (by omega) (by omega)
  have hS:Sm (er (fun j=>gz l (j * c+i) * gz l (j * c+k)) j) (-1074 + -1074):=rC (adp hw hf hl hi hk (Nat.le_of_lt hj) (by omega)) (by omega) (by omega)
  have t2:=agQ hS hp
  show aC (vc _ _ _ _ _ _ _ _ _ _).run _=_
  refine ae (a:=nd4 (er (fun j=>gz l (j * c+i) * gz l (j * c+k)) (j+1)) (-2148)) ?_ (ap rfl)
  unfold vc
  rw [ami,ami,amj,cI,cI,ex,ey]
  simp only [l8,ak,ai,aj,am]
  rw [bR ax,bR ax,t1]
  simp only [i9,bL,bn,bo,bM]
  have t2':cY (nS (er (fun j=>gz l (j * c+i) * gz l (j * c+k)) j)) (aA (nM (er (fun j=>gz l (j * c+i) * gz l (j * c+k)) j)) (nl (nM (er (fun j=>gz l (j * c+i) * gz l (j * c+k)) j)))) (nE (er (fun j=>gz l (j * c+i) * gz l (j * c+k)) j) (-2148)) (nS (gz l (j * c+i) * gz l (j * c+k))) (aA (nM (gz l (j * c+i) * gz l (j * c+k))) (nl (nM (gz l (j * c+i) * gz l (j * c+k))))) (nE (gz l (j * c+i) * gz l (j * c+k)) (-1074 + -1074))=_:=t2
  rw [bR ax,bR ax,t2']
  exact cK (ap (ap (ap (ap (ao (ap (ap (ap (ap (ao (dT (dT (ao (dT (dT (ao rfl))))))))))))))))
theorem at8{l:List Nat}(hw:Wd l)(hf:Fn l){r c i k:Nat}(hl:l.length=r * c)(hi:i < c)(hk:k < c)(hr:r≤512)(hc:c≤512) :
    A5 (r:Int) (c:Int) l i (k,nd4 (er (fun p=>gG l r c p * gG l r c p) (i * c+k)) (-4296))=some (.inl (k+1,nd4 (er (fun p=>gG l r c p * gG l r c p) (i * c+(k+1))) (-4296))):=by
  obtain ⟨q1,q2⟩:=pq (i:=i) hk
  have eg:gG l r c (i * c+k)=tG l r c i k:=by unfold gG;rw [q1,q2]
  have hT:nl (tG l r c i k).natAbs≤68:=auv hw hf hl hi hk (by omega)
  have hTs:Sm (tG l r c i k) (-2148):=rC hT (by omega) (by omega)
  have hD:Sm (Z4 l r c i k) (-2148):=rC (adp hw hf hl hi hk (Nat.le_refl _) (by omega)) (by omega) (by omega)
  have hO:Sm Rk (-2148):=rC aqa (by omega) (by omega)
  have hp:Sm (tG l r c i k * tG l r c i k) (-2148 + -2148):=rC (pJ hT hT) (by omega) (by omega)
  have hlt:i * c+k < c * c:=K1 hi hk
  have hS:Sm (er (fun p=>gG l r c p * gG l r c p) (i * c+k)) (-2148 + -2148):=rC (atp hw hf hl hr hc (Nat.le_of_lt hlt)) (by omega) (by omega)
  have t1:=Vq hTs hTs
  have t2:=agQ hS hp
  have t3:=arP hD hO
  have e1:er (fun p=>gG l r c p * gG l r c p) (i * c+(k+1))=er (fun p=>gG l r c p * gG l r c p) (i * c+k)+tG l r c i k * tG l r c i k:=by
    show er _ (i * c+k+1)=_
    simp only [er];rw [eg]
  rw [e1]
  show aC (A1 _ _ _ _ _ _).run _=_
  refine ae (a:=()) (cK rfl) (ae (a:=nd4 (er (fun p=>gG l r c p * gG l r c p) (i * c+k)+tG l r c i k * tG l r c i k) (-4296)) (NO (ae (a:=nd4 0 (-2148)) ?_ (ae (a:=()) rfl (ae (a:=nd4 (Z4 l r c i k) (-2148)) (cw (fun j=>(j,nd4 (er (fun j=>gz l (j * c+i) * gz l (j * c+k)) j) (-2148))) r rfl (fun j hj=>at7 hw hf hl hi hk hj hr hc) ?_) (ae (a:=nd4 (tG l r c i k) (-2148)) ?_ ?_))))) (ap rfl))
  · unfold Hv
    rw [agU (-2148)]
    exact ao rfl
  · show aC (vc _ _ _ _ _ _ _ _ _ _).run _=_
    exact bH (dl rfl)
  · show (A3 _ _ _ _ _ _).run=_
    unfold A3
    by_cases hik:i=k
    · have et:Z4 l r c i k - Rk=tG l r c i k:=by unfold tG;rw [if_pos hik]
      rw [et] at t3
      rw [arS]
      simp only [g7,dm,cG,cH,dn]
      rw [bR ax,bR ax,t3]
      exact rz (by rw [beq_iff_eq];omega) (ao (dT (dT (ao rfl))))
    · have et:Z4 l r c i k=tG l r c i k:=by unfold tG;rw [if_neg hik,Int.sub_zero]
      rw [et]
      exact e9 (by rw [beq_eq_false_iff_ne];omega) rfl
  · show (A4 _ _ _ _ _ _ _ _).run=_
    unfold A4
    rw [bR ax,bR ax,t1]
    simp only [i9,bL,bn,bo,bM]
    have t2':cY (nS (er (fun p=>gG l r c p * gG l r c p) (i * c+k))) (aA (nM (er (fun p=>gG l r c p * gG l r c p) (i * c+k))) (nl (nM (er (fun p=>gG l r c p * gG l r c p) (i * c+k))))) (nE (er (fun p=>gG l r c p * gG l r c p) (i * c+k)) (-4296)) (nS (tG l r c i k * tG l r c i k)) (aA (nM (tG l r c i k * tG l r c i k)) (nl (nM (tG l r c i k * tG l r c i k)))) (nE (tG l r c i k * tG l r c i k) (-2148 + -2148))=_:=t2
    rw [bR ax,t2']
    exact dT (dT (ao (dT (dT (ao rfl)))))
theorem aqc{l:List Nat}(hw:Wd l)(hf:Fn l){r c:Nat}(hl:l.length=r * c)(hr:r≤512)(hc:c≤512) :
    ez (r:Int) (c:Int) l=some (.r0 (nS (ML l r c)) (aA (nM (ML l r c)) (nl (nM (ML l r c)))) (nl (nM (ML l r c))) (nE (ML l r c) (-4296))):=by
  refine aZ (ae (a:=(false,nd4 0 (-4296))) ?_ (ae (a:=()) rfl (ae (a:=nd4 (ML l r c) (-4296)) (cw (fun i=>(i,nd4 (er (fun p=>gG l r c p * gG l r c p) (i * c)) (-4296))) c (by rw [Nat.zero_mul];rfl) (fun i hi=>?_) ?_) rfl)))
  · unfold Hu
    rw [agU (-4296)]
    exact ao rfl
  · show aC (A0 _ _ _ _ _ _).run _=_
    have hnx:(i+1) * c=i * c+c:=by rw [Nat.add_mul,Nat.one_mul]
    refine ae (a:=()) (cK rfl) (ae (a:=nd4 (er (fun p=>gG l r c p * gG l r c p) ((i+1) * c)) (-4296)) (NO (ae (a:=()) rfl (ae (a:=nd4 (er (fun p=>gG l r c p * gG l r c p) (i * c+c)) (-4296)) (cw (fun k=>(k,nd4 (er (fun p=>gG l r c p * gG l r c p) (i * c+k)) (-4296))) c rfl (fun k hk=>at8 hw hf hl hi hk hr hc) ?_) (by rw [hnx];rfl)))) (ap rfl))
    show aC (A1 _ _ _ _ _ _).run _=_
    exact bH (dl rfl)
  · show aC (A0 _ _ _ _ _ _).run _=_
    exact bH (dl rfl)
end Go.Plb.Seat
namespace Go.Plb.Seat
open Go Go.Plb
set_option linter.unusedSimpArgs false
set_option linter.unusedVariables false
structure Vr (A X Y V:List Nat) (r c d:Nat):Prop where
  hA:A.length=r * c
  hX:X.length=c * d
  hY:Y.length=r * d
  hV:V.length=d
  hr:r≤512
  hc:c≤512
  hd:d≤512
  wA:Wd A
  wX:Wd X
  wY:Wd Y
  wV:Wd V
  fA:Fn A
  fX:Fn X
  fY:Fn Y
  fV:Fn V
def tR(A X Y V:List Nat)(c d i k:Nat) :Int:=er (fun j=>gz A (i * c+j) * gz X (j * d+k)) c - gz Y (i * d+k) * gz V k
def gR(A X Y V:List Nat)(c d p:Nat) :Int:=tR A X Y V c d (p / d) (p % d)
def YR(A X Y V:List Nat)(r c d:Nat) :Int:=er (fun p=>gR A X Y V c d p * gR A X Y V c d p) (r * d)
section
variable {A X Y V : List Nat} {r c d : Nat}
theorem Vr.lA(h:Vr A X Y V r c d){i j:Nat}(hi:i < r)(hj:j < c) :i * c+j < A.length:=by rw [h.hA];exact K1 hi hj
theorem Vr.lX(h:Vr A X Y V r c d){j k:Nat}(hj:j < c)(hk:k < d) :j * d+k < X.length:=by rw [h.hX];exact K1 hj hk
theorem Vr.lY(h:Vr A X Y V r c d){i k:Nat}(hi:i < r)(hk:k < d) :i * d+k < Y.length:=by rw [h.hY];exact K1 hi hk
theorem Vr.lV(h:Vr A X Y V r c d){k:Nat}(hk:k < d) :k < V.length:=by rw [h.hV];exact hk
theorem Vr.bA(h:Vr A X Y V r c d) :A.length≤262144:=by rw [h.hA];exact Nat.mul_le_mul h.hr h.hc
theorem Vr.bX(h:Vr A X Y V r c d) :X.length≤262144:=by rw [h.hX];exact Nat.mul_le_mul h.hc h.hd
theorem Vr.bY(h:Vr A X Y V r c d) :Y.length≤262144:=by rw [h.hY];exact Nat.mul_le_mul h.hr h.hd
theorem Vr.bV(h:Vr A X Y V r c d) :V.length≤512:=by rw [h.hV];exact h.hd
theorem Vr.dot(h:Vr A X Y V r c d){i k n:Nat}(hi:i < r)(hk:k < d)(hn:n≤c) :nl (er (fun j=>gz A (i * c+j) * gz X (j * d+k)) n).natAbs≤67:=by
  have:=h.hc
  exact K3 (fun j hj=>pJ (zF h.wA h.fA (h.lA hi (by omega))) (zF h.wX h.fX (h.lX (by omega) hk))) (by omega)
theorem Vr.yv(h:Vr A X Y V r c d){i k:Nat}(hi:i < r)(hk:k < d) :nl (gz Y (i * d+k) * gz V k).natAbs≤66 :=
  pJ (zF h.wY h.fY (h.lY hi hk)) (zF h.wV h.fV (h.lV hk))
theorem Vr.t(h:Vr A X Y V r c d){i k:Nat}(hi:i < r)(hk:k < d) :nl (tR A X Y V c d i k).natAbs≤68 :=
  aqL (a:=67) (h.dot hi hk (Nat.le_refl _)) (Nat.le_trans (h.yv hi hk) (by omega))
theorem Vr.g(h:Vr A X Y V r c d){p:Nat}(hp:p < r * d) :nl (gR A X Y V c d p).natAbs≤68:=by
  have hd:0 < d:=by
    rcases Nat.eq_zero_or_pos d with q | q
    · subst q;omega
    · exact q
  exact h.t (Nat.div_lt_of_lt_mul (by rw [Nat.mul_comm];exact hp)) (Nat.mod_lt _ hd)
theorem Vr.s(h:Vr A X Y V r c d){n:Nat}(hn:n≤r * d) :nl (er (fun p=>gR A X Y V c d p * gR A X Y V c d p) n).natAbs≤137:=by
  have:r * d≤512 * 512:=Nat.mul_le_mul h.hr h.hd
  exact K3 (fun p hp=>pJ (h.g (by omega)) (h.g (by omega))) (by omega)
theorem arT(h:Vr A X Y V r c d){i k:Nat}(hi:i < r)(hk:k < d) :
    ∃ N,bS (i:Int) (k:Int) A.length (oI (gz A) A.length) (oJ (gz A) A.length) (oK (gz A) (-1074) A.length) (c:Int) X.length (oI (gz X) X.length) (oJ (gz X) X.length) (oK (gz X) (-1074) X.length) (d:Int) Y.length (oI (gz Y) Y.length) (oJ (gz Y) Y.length) (oK (gz Y) (-1074) Y.length) (d:Int) V.length (oI (gz V) V.length) (oJ (gz V) V.length) (oK (gz V) (-1074) V.length)
      = some (.r0 0 (nS (tR A X Y V c d i k)) (aA (nM (tR A X Y V c d i k)) N) 0 (nl (nM (tR A X Y V c d i k))) (nE (tR A X Y V c d i k) (-2148)))∧nl (nM (tR A X Y V c d i k))≤N∧N≤4096:=by
  have hr:=h.hr
  have hc:=h.hc
  have hd:=h.hd
  have bA:=h.bA
  have bX:=h.bX
  have bY:=h.bY
  have bV:=h.bV
  have hic:i * c≤512 * 512:=Nat.mul_le_mul (by omega) hc
  have hid:i * d≤512 * 512:=Nat.mul_le_mul (by omega) hd
  have lA:∀ j,j < c→i * c+j * 1 < A.length:=fun j hj=>by rw [Nat.mul_one];exact h.lA hi hj
  have lX:∀ j,j < c→k+j * d < X.length:=fun j hj=>by rw [Nat.add_comm];exact h.lX hj hk
  have l1:=Rb (g:=gz A) (e:=-1074) (n:=A.length) (from':=i * c) (far:=1) (many:=c) lA (by omega) (by omega) (by omega) (by omega)
  have l2:=Rb (g:=gz X) (e:=-1074) (n:=X.length) (from':=k) (far:=d) (many:=c) lX (by omega) (by omega) (by omega) (by omega)
  obtain ⟨D,d1,d2,d3⟩:=agR (g:=fun j=>gz A (i * c+j * 1)) (h:=fun j=>gz X (k+j * d)) (e:=-1074) (f:=-1074) (n:=c) (k:=66) (fun j hj=>V5 h.wA h.fA (lA j hj)) (fun j hj=>V5 h.wX h.fX (lX j hj)) (fun j hj=>pJ (zF h.wA h.fA (lA j hj)) (zF h.wX h.fX (lX j hj))) (by omega) (by omega) (by omega)
  have ed:er (fun j=>gz A (i * c+j * 1) * gz X (k+j * d)) c=er (fun j=>gz A (i * c+j) * gz X (j * d+k)) c:=UG fun j _=>by rw [Nat.mul_one,Nat.add_comm k]
  rw [ed] at d1 d2
  have ly:=h.lY hi hk
  have lv:=h.lV hk
  obtain ⟨E,e1,e2,e3⟩:=Q8 (V5 h.wY h.fY ly) (V5 h.wV h.fV lv)
  have hD:Sm (er (fun j=>gz A (i * c+j) * gz X (j * d+k)) c) (-1074 + -1074):=rC (h.dot hi hk (Nat.le_refl _)) (by omega) (by omega)
  have hP:Sm (gz Y (i * d+k) * gz V k) (-1074 + -1074):=rC (h.yv hi hk) (by omega) (by omega)
  obtain ⟨F,f1,f2,f3⟩:=ajP hD hP
  refine ⟨F,aZ (ae (a:=(0,false,nS (er (fun j=>gz A (i * c+j) * gz X (j * d+k)) c),aA (nM (er (fun j=>gz A (i * c+j) * gz X (j * d+k)) c)) D,0,nl (nM (er (fun j=>gz A (i * c+j) * gz X (j * d+k)) c)),nE (er (fun j=>gz A (i * c+j) * gz X (j * d+k)) c) (-1074 + -1074))) ?_ (ae (a:=(0,nS (gz Y (i * d+k) * gz V k),aA (nM (gz Y (i * d+k) * gz V k)) E,0,nl (nM (gz Y (i * d+k) * gz V k)),nE (gz Y (i * d+k) * gz V k) (-1074 + -1074))) ?_ (ae (a:=(0,nS (tR A X Y V c d i k),aA (nM (tR A X Y V c d i k)) F,0,nl (nM (tR A X Y V c d i k)),nE (tR A X Y V c d i k) (-2148))) ?_ rfl))),f2,f3⟩
  · unfold yz
    have l1':ac A.length (oI (gz A) A.length) (oJ (gz A) A.length) (oK (gz A) (-1074) A.length) ((i * c:Nat):Int) 1 (c:Int)=_:=l1
    rw [amj,iU,iV,iW,iU,iV,iW,l1',l2]
    simp only [ng,ag,bB,bC,bD]
    rw [iU,iV,iW,iU,iV,iW,d1]
    exact cT (by rw [cV];omega) (ue (ao (ue (ao (ue (ue (ao rfl)))))))
  · show (sm _ _ _ _ _ _ _ _ _ _ _ _).run=_
    have e1':ay (nS (gz Y (i * d+k))) (aeh (gz Y (i * d+k))) (nE (gz Y (i * d+k)) (-1074)) (nS (gz V k)) (aeh (gz V k)) (nE (gz V k) (-1074))=_:=e1
    unfold sm
    rw [ami,amj,cI,cI,Kb,Kc,Kd,Kb,Kc,Kd,V2 ly,V3 ly,V4 ly,V2 lv,V3 lv,V4 lv,aF,aF,e1']
    exact bj (cT (by rw [cV];omega) (cT (by rw [cV];omega) (ap (ap (ap (ap (ap (ap (ap (ap (bf (bf (ao rfl)))))))))))))
  · show (sn _ _ _ _ _ _ _ _ _ _ _).run=_
    unfold sn
    rw [ck d2,ck e2,f1]
    exact bj (cT (bp d2) (cT (bp e2) (ao rfl)))
theorem arU(h:Vr A X Y V r c d) :
    ∃ N,aV (r:Int) (d:Int) A.length (oI (gz A) A.length) (oJ (gz A) A.length) (oK (gz A) (-1074) A.length) (c:Int) A X.length (oI (gz X) X.length) (oJ (gz X) X.length) (oK (gz X) (-1074) X.length) (d:Int) X Y.length (oI (gz Y) Y.length) (oJ (gz Y) Y.length) (oK (gz Y) (-1074) Y.length) (d:Int) Y V.length (oI (gz V) V.length) (oJ (gz V) V.length) (oK (gz V) (-1074) V.length)
      = some (.r0 0 (nS (YR A X Y V r c d)) (aA (nM (YR A X Y V r c d)) N) 0 (nl (nM (YR A X Y V r c d))) (nE (YR A X Y V r c d) (-4296)))∧nl (nM (YR A X Y V r c d))≤N∧N≤4096:=by
  have hr:=h.hr
  have hc:=h.hc
  have hd:=h.hd
  have hrd:r * d≤512 * 512:=Nat.mul_le_mul hr hd
  obtain ⟨N,s1,s2,s3⟩:=MK (g:=gR A X Y V c d) (e:=-2148) (n:=r * d) (k:=68) (fun p hp=>h.g hp) (by omega) (by omega) (by omega)
  refine ⟨N,aZ (ae (a:=false) rfl (ae (a:=()) rfl (ae (a:=(r * d,r * d,0,r * d,oI (gR A X Y V c d) (r * d),oJ (gR A X Y V c d) (r * d),oK (gR A X Y V c d) (-2148) (r * d))) (cw (fun i=>(i * d,i * d,0,i,i * d,oI (gR A X Y V c d) (i * d),oJ (gR A X Y V c d) (i * d),oK (gR A X Y V c d) (-2148) (i * d))) r (by rw [Nat.zero_mul];rfl) (fun i hi=>?_) ?_) (ae (a:=(0,nS (YR A X Y V r c d),aA (nM (YR A X Y V r c d)) N,0,nl (nM (YR A X Y V r c d)),nE (YR A X Y V r c d) (-4296))) ?_ rfl)))),s2,s3⟩
  · show aC (fJ _ _ _ _ _ _ _ _ _).run _=_
    have hnx:(i+1) * d=i * d+d:=by rw [Nat.add_mul,Nat.one_mul]
    have hic:i * d≤512 * 512:=Nat.mul_le_mul (by omega) hd
    refine ae (a:=()) (cK rfl) (ae (a:=((i+1) * d,(i+1) * d,0,(i+1) * d,oI (gR A X Y V c d) ((i+1) * d),oJ (gR A X Y V c d) ((i+1) * d),oK (gR A X Y V c d) (-2148) ((i+1) * d))) (NO (ae (a:=()) rfl (ae (a:=(i * d+d,i * d+d,0,i * d+d,oI (gR A X Y V c d) (i * d+d),oJ (gR A X Y V c d) (i * d+d),oK (gR A X Y V c d) (-2148) (i * d+d))) (cw (fun k=>(i * d+k,i * d+k,0,k,i * d+k,oI (gR A X Y V c d) (i * d+k),oJ (gR A X Y V c d) (i * d+k),oK (gR A X Y V c d) (-2148) (i * d+k))) d rfl (fun k hk=>?_) ?_) (by rw [hnx];rfl)))) (ap rfl))
    · obtain ⟨a,a1,a2,a3⟩:=arT h hi hk
      obtain ⟨q1,q2⟩:=pq (i:=i) hk
      have eg:tR A X Y V c d i k=gR A X Y V c d (i * d+k):=by unfold gR;rw [q1,q2]
      rw [eg] at a1 a2
      show aC (dZ _ _ _ _ _ _ _ _ _ _ _ _ _ _ _ _ _ _ _ _ _ _ _ _ _ _ _ _ _ _ _ _).run _=_
      refine ae (a:=(i * d+k+1,0,oI (gR A X Y V c d) (i * d+k+1),oJ (gR A X Y V c d) (i * d+k+1),oK (gR A X Y V c d) (-2148) (i * d+k+1))) ?_ (ap rfl)
      unfold dZ
      rw [iU,iV,iW,iU,iV,iW,iU,iV,iW,iU,iV,iW,a1]
      simp only [ou,jM,qd,l4,l5,l6,qe]
      rw [List.drop_zero,KH a2,atq,att,atu]
      exact cK (ue (bf (ue (bf (ue (bf (ue (ao (bj (ap (ap (ao (ap (cT (decide_eq_true (by rw [ax];omega)) rfl))))))))))))))
    · show aC (dZ _ _ _ _ _ _ _ _ _ _ _ _ _ _ _ _ _ _ _ _ _ _ _ _ _ _ _ _ _ _ _ _).run _=_
      exact bH (dl rfl)
  · show aC (fJ _ _ _ _ _ _ _ _ _).run _=_
    exact bH (dl rfl)
  · show (fK _ _ _ _ _ _).run=_
    unfold fK
    rw [iU,iV,iW,s1]
    exact bj (ue (ao rfl))
end
end Go.Plb.Seat
namespace Go.Plb.Seat
open Go Go.Plb
set_option linter.unusedSimpArgs false
set_option linter.unusedVariables false
theorem Z5{r c n:Nat}(hr:r≤512)(hc:c≤512)(hn:n=r * c) :Rc (r:Int) (c:Int) n=true :=
  adn.2 ⟨by omega,by omega,by omega,by omega,by rw [hn,Int.natCast_mul]⟩
theorem MM{l:List Nat}(hw:Wd l)(hf:Fn l)(hn:l.length≤1000000000) :∃ k:Int,az l=some (.r0 k)∧decide (k ≥ 0)=false:=by
  obtain ⟨k,k1,k2⟩:=QL hw hn
  rw [wi.2 hf] at k2
  exact ⟨k,k1,k2⟩
section
variable {A X Y V : List Nat} {r c d : Nat}
theorem atx(h:Vr A X Y V r c d) :
    ∃ N,dr (r:Int) (c:Int) A (c:Int) (d:Int) X (r:Int) (d:Int) Y V=some (.r0 0 (nS (YR A X Y V r c d)) (aA (nM (YR A X Y V r c d)) N) 0 (nl (nM (YR A X Y V r c d))) (nE (YR A X Y V r c d) (-4296)))∧nl (nM (YR A X Y V r c d))≤N∧N≤4096:=by
  have bA:=h.bA
  have bX:=h.bX
  have bY:=h.bY
  have bV:=h.bV
  have mA:=Z5 h.hr h.hc h.hA
  have mX:=Z5 h.hc h.hd h.hX
  have mY:=Z5 h.hr h.hd h.hY
  have hV:((V.length:Nat):Int)=(d:Int):=by rw [h.hV]
  obtain ⟨k1,a1,a2⟩:=MM h.wA h.fA (by omega)
  obtain ⟨k2,b1,b2⟩:=MM h.wX h.fX (by omega)
  obtain ⟨k3,c1,c2⟩:=MM h.wY h.fY (by omega)
  obtain ⟨k4,d1,d2⟩:=MM h.wV h.fV (by omega)
  obtain ⟨N,e1,e2,e3⟩:=arU h
  refine ⟨N,aZ (ae (a:=false) ?_ (ae (a:=(A.length,oI (gz A) A.length,oJ (gz A) A.length,oK (gz A) (-1074) A.length,X.length,oI (gz X) X.length,oJ (gz X) X.length,oK (gz X) (-1074) X.length,Y.length,oI (gz Y) Y.length,oJ (gz Y) Y.length,oK (gz Y) (-1074) Y.length,V.length,oI (gz V) V.length,oJ (gz V) V.length,oK (gz V) (-1074) V.length)) ?_ (ae (a:=(0,nS (YR A X Y V r c d),aA (nM (YR A X Y V r c d)) N,0,nl (nM (YR A X Y V r c d)),nE (YR A X Y V r c d) (-4296))) ?_ rfl))),e2,e3⟩
  · unfold BU
    rw [aF,aF,aF,aF,ry,ry,ry,mA,mX,mY,a1,b1,c1,d1]
    exact (bN (ao (bf (ao (bj (ao (bN (ao (bf (ao (bj (ao (bN (ao (bf (ao (bj (ao (bj (bj (e9 (by simp) (e9 (by simp) (e9 (by rw [hV,bne_self_eq_false]) (bN (ao (bf (ao (e9 a2 (ao (bN (ao (bf (ao (e9 b2 (ao (bN (ao (bf (ao (e9 c2 (ao (bN (ao (bf (ao (e9 d2 (ao (bj rfl))))))))))))))))))))))))))))))))))))))))))))))))
  · show (v4 _ _ _ _).run=_
    unfold v4
    rw [aF,aF,aF,aF,zg h.wA h.fA (by omega),zg h.wX h.fX (by omega),zg h.wY h.fY (by omega),zg h.wV h.fV (by omega)]
    exact (bf (ao (bf (ao (bf (ao (bf (ao rfl))))))))
  · show (v5 _ _ _ _ _ _ _ _ _ _ _ _ _ _ _ _ _ _ _ _ _ _ _).run=_
    unfold v5
    rw [iU,iV,iW,iU,iV,iW,iU,iV,iW,iU,iV,iW,aF,aF,aF,e1]
    exact (ue (bf (ue (bf (ue (bf (ue (ao rfl))))))))
end
def P2(k:Nat) :Int:=((2 ^ k:Nat):Int)
theorem auw{k m:Nat}(h:k < 64 * m) :nl (P2 k).natAbs≤m:=by
  unfold P2
  rw [Int.natAbs_natCast]
  refine jR ?_
  rw [show W ^ m=2 ^ (64 * m) by rw [Nat.pow_mul]]
  exact Nat.pow_lt_pow_right (by decide) h
theorem agV{x b t e f g:Int}{k:Nat}(hx:Sm x e)(hb:Sm b f)(ht:Sm t g)(he:f+g=e+k)(hm:Sm (b * t * P2 k) e) :
    iu (nS x) (aA (nM x) (nl (nM x))) (nE x e) 0 (nS b) (aA (nM b) (nl (nM b))) (nE b f) (nS t) (aA (nM t) (nl (nM t))) (nE t g)=some (.r0 (decide (x≤b * t * P2 k)) 0):=by
  obtain ⟨N,n1,n2,n3⟩:=Q8 hb ht
  obtain ⟨q1,q2,q3⟩:=asY (b * t) k e
  rw [← he] at q3
  have c1:=arz hx hm
  have ev:decide (sgn x (b * t * P2 k)≤0)=decide (x≤b * t * P2 k):=by
    rw [Bool.eq_iff_iff,decide_eq_true_eq,decide_eq_true_eq];unfold sgn;split <;> (try split) <;> omega
  refine aZ (ae (a:=(0,nS (b * t),aA (nM (b * t)) N,0,nl (nM (b * t)),nE (b * t) (f+g))) ?_ (ae (a:=(0,sgn x (b * t * P2 k))) ?_ (ae (a:=decide (x≤b * t * P2 k)) ?_ rfl)))
  · unfold Jz
    rw [aF,aF,n1]
    exact (bj (bf (bf (ao rfl))))
  · show (Df _ _ _ _ _ _ _ _ _).run=_
    unfold Df
    have c1':r9 (nS x) (aA (nM x) (nl (nM x))) (nE x e) (nS (b * t)) (aA (nM (b * t)) (nl (nM (b * t)))) (nE (b * t) (f+g))=some (.r0 (sgn x (b * t * P2 k)) 0):=by
      rw [q1,q2,q3];exact c1
    rw [aF,ck n2,c1']
    exact (bj (bf (cT (bp n2) (ao rfl))))
  · refine bN ?_
    show some (Sum.inl (decide (sgn x (b * t * P2 k)≤0)))=_
    rw [ev]
def gOK(l:List Nat)(r c m n:Nat) :Bool:=decide (ML l r c≤bI m n * P2 4190)
def rOK(A X Y V:List Nat)(r c d:Nat)(S:Int)(m n:Nat) :Bool:=decide (YR A X Y V r c d≤bI m n * S * P2 2042)
theorem aux{m n:Nat}(hm:m≤512)(hn:n≤512) :Sm (bI m n) (-106):=rC (aqW hm hn) (by omega) (by omega)
theorem avz{m n:Nat}(hm:m≤512)(hn:n≤512) :Sm (bI m n * P2 4190) (-4296):=rC (k:=68) (pJ (a:=2) (b:=66) (aqW hm hn) (auw (by omega))) (by omega) (by omega)
theorem avA{m n:Nat}{S:Int}(hm:m≤512)(hn:n≤512)(hS:nl S.natAbs≤67) :Sm (bI m n * S * P2 2042) (-4296) :=
  rC (k:=101) (pJ (a:=69) (b:=32) (pJ (aqW hm hn) hS) (auw (by omega))) (by omega) (by omega)
theorem arV{l:List Nat}{r c m n:Nat}(hw:Wd l)(hf:Fn l)(hl:l.length=r * c)(hr:r≤512)(hc:c≤512)(hm:m≤512)(hn:n≤512) :
    lK (r:Int) (c:Int) l (nS (bI m n)) (aA (nM (bI m n)) (nl (nM (bI m n)))) (nE (bI m n) (-106))=some (.r0 (gOK l r c m n) 0):=by
  obtain ⟨N,g1,g2,g3⟩:=ajV hw (Z5 hr hc hl) (wi.2 hf)
  obtain ⟨M,w1,w2,w3⟩:=QJ (n:=1) (by omega)
  have hG:Sm (ML l r c) (-4296):=rC (atp hw hf hl hr hc (Nat.le_refl _)) (by omega) (by omega)
  have h1:Sm 1 0:=rC (k:=1) (jR (by decide)) (by omega) (by omega)
  have hb1:bI m n * 1=bI m n:=Int.mul_one _
  have hmul:Sm (bI m n * 1 * P2 4190) (-4296):=by rw [hb1];exact avz hm hn
  have b1:=agV (k:=4190) hG (aux hm hn) h1 (by omega) hmul
  rw [hb1] at b1
  refine aZ (ae (a:=(0,nS (ML l r c),aA (nM (ML l r c)) N,0,nl (nM (ML l r c)),nE (ML l r c) (-4296))) ?_ (ae (a:=(gOK l r c m n,0)) ?_ rfl))
  · unfold JB
    rw [aF,g1]
    exact (bf (ao rfl))
  · show (Dg _ _ _ _ _ _ _ _ _).run=_
    have w1':bm 1=_:=w1
    have w2':nl (nM 1)≤M:=w2
    unfold Dg
    rw [w1']
    simp only [qm,kv,jk,jl,jm,kw]
    have b1':iu (nS (ML l r c)) (aA (nM (ML l r c)) (nl (nM (ML l r c)))) (nE (ML l r c) (-4296)) ((0:Nat):Int) (nS (bI m n)) (aA (nM (bI m n)) (nl (nM (bI m n)))) (nE (bI m n) (-106)) (nS ((1:Nat):Int)) (aA (nM ((1:Nat):Int)) (nl (nM ((1:Nat):Int)))) (nE ((1:Nat):Int) 0)=some (.r0 (gOK l r c m n) 0):=b1
    rw [ck g2,ck w2,aF,b1']
    exact (ao (cT (bp g2) (bf (cT (bp w2) (ao rfl)))))
theorem arW{A Z V:List Nat}{r c d m n:Nat}{S:Int}(h:Vr A Z Z V r c d)(hrc:c=r)(hS:nl S.natAbs≤67)(hm:m≤512)(hn:n≤512) :
    lL (r:Int) (c:Int) A (r:Int) (d:Int) Z V (nS (bI m n)) (aA (nM (bI m n)) (nl (nM (bI m n)))) (nE (bI m n) (-106)) (nS S) (aA (nM S) (nl (nM S))) (nE S (-2148))=some (.r0 (rOK A Z Z V r c d S m n) 0):=by
  subst hrc
  obtain ⟨N,g1,g2,g3⟩:=atx h
  have hG:Sm (YR A Z Z V c c d) (-4296):=rC (h.s (Nat.le_refl _)) (by omega) (by omega)
  have hSs:Sm S (-2148):=rC hS (by omega) (by omega)
  have b1:=agV (k:=2042) hG (aux hm hn) hSs (by omega) (avA hm hn hS)
  refine aZ (ae (a:=(0,nS (YR A Z Z V c c d),aA (nM (YR A Z Z V c c d)) N,0,nl (nM (YR A Z Z V c c d)),nE (YR A Z Z V c c d) (-4296))) ?_ (ae (a:=(rOK A Z Z V c c d S m n,0)) ?_ rfl))
  · unfold JD
    rw [aF,aF,aF,g1]
    exact (bf (bf (bf (bf (ao rfl)))))
  · show (Dh _ _ _ _ _ _ _ _ _ _ _ _).run=_
    unfold Dh
    have b1':iu (nS (YR A Z Z V c c d)) (aA (nM (YR A Z Z V c c d)) (nl (nM (YR A Z Z V c c d)))) (nE (YR A Z Z V c c d) (-4296)) ((0:Nat):Int) (nS (bI m n)) (aA (nM (bI m n)) (nl (nM (bI m n)))) (nE (bI m n) (-106)) (nS S) (aA (nM S) (nl (nM S))) (nE S (-2148))=some (.r0 (rOK A Z Z V c c d S m n) 0):=b1
    rw [ck g2,aF,aF,b1']
    exact (cT (bp g2) (bf (bf (ao rfl))))
def arX(l:List Nat) :Bool:=decide (∀ j,j < l.length - 1→flt (l.getD (j+1) 0) (l.getD j 0)=false)
theorem aok{x y:Nat}(hx:x < Zg)(h:A7 x=true) :BP x y=some (.r0 (flt x y)) :=
  aZ (ae (a:=flt x y) (e9 (akF hx h) rfl) rfl)
theorem aol{l:List Nat}(hw:Wd l)(hf:Fn l)(hn:l.length≤1000000) :md l=some (.r0 (arX l)):=by
  have step:∀ j,j < l.length - 1→flt (l.getD (l.length - 1 - j) 0) (l.getD (l.length - 2 - j) 0)=false→qH l (((l.length:Nat):Int) - 1 - (j:Nat))=some (.inl (((l.length:Nat):Int) - 1 - (j+1:Nat))):=by
    intro j hj hs
    have e1:Int.toNat (((l.length:Nat):Int) - 1 - (j:Nat))=l.length - 1 - j:=by omega
    have e2:Int.toNat (((l.length:Nat):Int) - 1 - (j:Nat) - 1)=l.length - 2 - j:=by omega
    show aC (mv _ _).run _=_
    refine ae (a:=()) ?_ ?_
    · unfold mv
      rw [e1,e2,aok (hw _) (hf _ (by omega)),hs]
      exact (cK (ap (ap (ap (ap (ap (ao (bj rfl))))))))
    · refine ap ?_
      show some (Sum.inl _)=_
      congr 2;omega
  by_cases hs:∀ j,j < l.length - 1→flt (l.getD (l.length - 1 - j) 0) (l.getD (l.length - 2 - j) 0)=false
  · have hb:arX l=true:=by
      refine decide_eq_true fun j hj=>?_
      have:=hs (l.length - 2 - j) (by omega)
      rwa [show l.length - 1 - (l.length - 2 - j)=j+1 by omega,show l.length - 2 - (l.length - 2 - j)=j by omega] at this
    rw [hb]
    refine aZ (ae (a:=((l.length:Nat):Int) - 1) (ap rfl) (ae (a:=()) (cw (fun j=>((l.length:Nat):Int) - 1 - (j:Nat)) (l.length - 1) (by omega) (fun j hj=>step j hj (hs j hj)) (bH (dl rfl))) rfl))
  · obtain ⟨k,hk,hb,hg⟩:=FW hs
    have hbt:flt (l.getD (l.length - 1 - k) 0) (l.getD (l.length - 2 - k) 0)=true:=by
      revert hb;cases flt (l.getD (l.length - 1 - k) 0) (l.getD (l.length - 2 - k) 0) <;> simp
    have hB:arX l=false:=by
      refine decide_eq_false fun q=>?_
      have:=q (l.length - 2 - k) (by omega)
      rw [show l.length - 2 - k+1=l.length - 1 - k by omega,hbt] at this
      exact Bool.noConfusion this
    rw [hB]
    refine aZ (ae (a:=((l.length:Nat):Int) - 1) (ap rfl) (bH (cw (fun j=>((l.length:Nat):Int) - 1 - (j:Nat)) k (by omega) (fun j hj=>step j (by omega) (hg j hj)) (bH ?_))))
    have e1:Int.toNat (((l.length:Nat):Int) - 1 - (k:Nat))=l.length - 1 - k:=by omega
    have e2:Int.toNat (((l.length:Nat):Int) - 1 - (k:Nat) - 1)=l.length - 2 - k:=by omega
    unfold mv
    rw [e1,e2,aok (hw _) (hf _ (by omega)),hbt]
    exact (cK (ap (ap (ap (ap (ap (ao (bN rfl))))))))
def aty(A V Z:List Nat)(n:Nat) :Bool:=arX V && (gOK Z n n n n && rOK A Z Z V n n n (Rd A) n n)
structure atz (A V Z:List Nat) (n:Nat):Prop where
  hn:n≤512
  fit:Vr A Z Z V n n n
theorem aqd{A V Z:List Nat}{n:Nat}(h:atz A V Z n) :g6 (n:Int) (n:Int) A V (n:Int) (n:Int) Z=some (.r0 (aty A V Z n) 0):=by
  have hn:=h.hn
  have f:=h.fit
  have bA:=f.bA
  have bX:=f.bX
  have bV:=f.bV
  have mA:=Z5 hn hn f.hA
  have mZ:=Z5 hn hn f.hX
  have hV:((V.length:Nat):Int)=(n:Int):=by rw [f.hV]
  obtain ⟨k1,a1,a2⟩:=MM f.wA f.fA (by omega)
  obtain ⟨k2,b1,b2⟩:=MM f.wX f.fX (by omega)
  obtain ⟨k3,c1,c2⟩:=MM f.wV f.fV (by omega)
  obtain ⟨B,d1,d2,d3⟩:=agT hn hn
  obtain ⟨S,s1,s2,s3⟩:=Z3 f.wA mA (wi.2 f.fA)
  have hS:=au5 f.wA f.fA (by omega)
  have t8:(It (n:Int) (n:Int) A V (n:Int) (n:Int) Z).run=some (.inl ()):=by
    unfold It
    rw [aF,aF,aF,ry,ry,mA,mZ,a1,b1,c1]
    exact (bN (ao (bf (ao (bj (ao (bN (ao (bf (ao (bj (ao (bj (bj (e9 (by rw [bne_self_eq_false]) (e9 (by rw [hV,bne_self_eq_false]) (e9 (by simp) (bN (ao (bf (ao (e9 a2 (ao (bN (ao (bf (ao (e9 b2 (ao (bN (ao (bf (ao (e9 c2 (ao (bj rfl))))))))))))))))))))))))))))))))))))
  have t9:(Iu V).run=some (.inl (!(arX V))):=by
    unfold Iu
    rw [aF,aol f.wV f.fV (by omega)]
    exact (bf (ao rfl))
  unfold aty
  cases hsrt:arX V
  · rw [hsrt] at t9
    exact aZ (ae t8 (ae t9 (bH (bN rfl))))
  · rw [hsrt] at t9
    have p1:=arV (m:=n) (n:=n) f.wX f.fX f.hX hn hn hn hn
    have p2:=arW (m:=n) (n:=n) f rfl hS hn hn
    refine aZ (ae t8 (ae t9 (ae (a:=(0,nS (bI n n),aA (nM (bI n n)) B,0,nl (nM (bI n n)),nE (bI n n) (-106))) ?_ (ae (a:=(0,nS (Rd A),aA (nM (Rd A)) S,0,nl (nM (Rd A)),nE (Rd A) (-2148))) ?_ (ae (a:=false) (bj rfl) (ae (a:=(gOK Z n n n n && rOK A Z Z V n n n (Rd A) n n,0)) ?_ rfl))))))
    · show (FL _ _).run=_
      unfold FL
      rw [d1]
      exact (bj (ao rfl))
    · show (FM _ _ _).run=_
      unfold FM
      rw [aF,s1]
      exact (bf (ao rfl))
    · show (FO _ _ _ _ _ _ _ _ _ _ _ _ _ _ _ _ _ _ _ _).run=_
      unfold FO
      rw [aF,aF,aF,ck d2,ck s2,p1,p2]
      simp only [xk,x5,oT,xt,x6,oU]
      cases gOK Z n n n n
      · exact (bj (bN (ao (bf (cT (bp d2) (ao (bN rfl)))))))
      · cases rOK A Z Z V n n n (Rd A) n n
        · exact (bj (bN (ao (bf (cT (bp d2) (ao (bj (bj (ao (bN (ao (bf (bf (bf (cT (bp d2) (cT (bp s2) (ao (bN rfl))))))))))))))))))
        · exact (bj (bN (ao (bf (cT (bp d2) (ao (bj (bj (ao (bN (ao (bf (bf (bf (cT (bp d2) (cT (bp s2) (ao (bj (bj (ao (bj rfl)))))))))))))))))))))
end Go.Plb.Seat
namespace Go.Plb.Seat
open Go Go.Plb
set_option linter.unusedSimpArgs false
set_option linter.unusedVariables false
def kA:List Nat:=[4611686018427387904,0,0,4613937818241073152]
def kI:List Nat:=[4607182418800017408,0,0,4607182418800017408]
theorem aom{l:List Nat}(h:∀ x,x ∈ l→x < Zg) :Wd l:=by
  intro i
  rw [List.getD_eq_getElem?_getD]
  cases q:l[i]? with
  | none=>decide
  | some x=>exact h x (List.mem_of_getElem? q)
theorem aon{l:List Nat}(h:∀ x,x ∈ l→A7 x=true) :Fn l:=by
  intro i hi
  rw [List.getD_eq_getElem?_getD]
  cases q:l[i]? with
  | none=>rw [List.getElem?_eq_none_iff] at q;omega
  | some x=>exact h x (List.mem_of_getElem? q)
theorem au9{V:List Nat}(hV:V.length=2)(wV:∀ x,x ∈ V→x < Zg)(fV:∀ x,x ∈ V→A7 x=true) :atz kA V kI 2 :=
  ⟨by omega,rfl,rfl,rfl,hV,by omega,by omega,by omega,aom (by decide),aom (by decide),aom (by decide),aom wV,aon (by decide),aon (by decide),aon (by decide),aon fV⟩
theorem avJ:nH 2=some (.r0 2 4 kI):=by
  refine aZ (ae (a:=(4,[0,0,0,0])) (ao (ao (ao (ao (ao rfl))))) (ae (a:=kI) (cw (fun j=>(j,bif Nat.beq j 0 then [0,0,0,0] else bif Nat.beq j 1 then [4607182418800017408,0,0,0] else kI)) 2 rfl (fun j hj=>?_) ?_) rfl))
  · have:j=0∨j=1:=by omega
    rcases this with rfl | rfl
    · exact (bN (ao (ao (ao (ao (ao rfl))))))
    · exact (bN (ao (ao (ao (ao (ao rfl))))))
  · exact (bj rfl)
theorem kx:aty kA [4611686018427387904,4613937818241073152] kI 2=true:=by decide +kernel
theorem ky:aty kA [4613937818241073152,4611686018427387904] kI 2=false:=by decide +kernel
theorem kz:aty kA [4611686018427387904,4613940070040886837] kI 2=false:=by decide +kernel
theorem ksz:Rd [4613937818241073152,4616189618054758400]=25 * P2 2148:=by decide +kernel
theorem ava{v:Nat}(h0:v ≠ 0)(h:v < W) :nl v=1:=by
  have h1:=jR (n:=1) (by rw [Nat.pow_one];exact h)
  have h2:=DY h0
  omega
theorem kb:nS (bI 1 1)=false∧nM (bI 1 1)=1∧nE (bI 1 1) (-106) = -94:=by
  have e:bI 1 1=4096:=by decide
  have t:tz 4096=12:=Q4 (by decide) (by decide)
  rw [e]
  refine ⟨by decide,?_,?_⟩
  · show 4096 / 2 ^ tz 4096=1
    rw [t]
  · rw [lM (by decide)]
    show -106+((tz 4096:Nat):Int) = -94
    rw [t];rfl
theorem aqe:de=some (.r0 true):=by
  have fx:=au9 (V:=[4611686018427387904,4613937818241073152]) rfl (by decide) (by decide)
  have fy:=au9 (V:=[4613937818241073152,4611686018427387904]) rfl (by decide) (by decide)
  have fz':=au9 (V:=[4611686018427387904,4613940070040886837]) rfl (by decide) (by decide)
  have sx:=aqd fx
  have sy:=aqd fy
  have sz:=aqd fz'
  rw [kx] at sx
  rw [ky] at sy
  rw [kz] at sz
  obtain ⟨B,b1,b2,b3⟩:=agT (m:=1) (n:=1) (by omega) (by omega)
  obtain ⟨S,s1,s2,s3⟩:=Z3 (r:=1) (c:=2) (l:=[4613937818241073152,4616189618054758400]) (aom (by decide)) (by decide) (wi.2 (aon (by decide)))
  obtain ⟨k1,k2,k3⟩:=kb
  obtain ⟨q1,q2,q3⟩:=asY 25 2148 (-2148)
  have q4:Rd [4613937818241073152,4616189618054758400]=25 * ((2 ^ 2148:Nat):Int):=ksz
  rw [← q4] at q1 q2 q3
  rw [show (-2148:Int)+((2148:Nat):Int)=0 by omega] at q3
  rw [← q1,← q2,← q3] at s1
  rw [← q2] at s2
  have w1:=IB (n:=25) (by omega)
  have h1:iw (-94)=some (.r0 0 false 1 (-94) [1]):=rfl
  have one1:aA 1 (nl 1) = [(1:Int)]:=by rw [ava (by decide) (by decide)];rfl
  have m25:nl (nM (25:Int))≤1:=Nat.le_trans aun (jR (by decide))
  refine aZ (ae (a:=(2,4,kA,kI)) ?_ (ae (a:=(true,0)) ?_ (ae (a:=(false,0)) ?_ (ae (a:=(false,0)) ?_ (ae (a:=(0,nS (bI 1 1),aA (nM (bI 1 1)) B,0,nl (nM (bI 1 1)),nE (bI 1 1) (-106))) ?_ (ae (a:=(false,[1],1,-94)) ?_ (ae (a:=(0,nS 25,aA (nM 25) S,0,nl (nM 25),nE 25 0)) ?_ (ae (a:=true) ?_ rfl))))))))
  · unfold Er
    rw [avJ]
    exact (ao rfl)
  · show (ya _ _ _ _).run=_
    unfold ya
    have sx':g6 2 2 (aa 0 4 kA) (aa 0 2 [4611686018427387904,4613937818241073152]) 2 2 (aa 0 4 kI)=some (.r0 true 0):=sx
    rw [sx']
    exact (ao (ao (ao (ao rfl))))
  · show (yc _ _ _ _).run=_
    unfold yc
    have sx':g6 2 2 (aa 0 4 kA) (aa 0 2 [4613937818241073152,4611686018427387904]) 2 2 (aa 0 4 kI)=some (.r0 false 0):=sy
    rw [sx']
    exact (ao (ao (ao (ao rfl))))
  · show (yd _ _ _ _).run=_
    unfold yd
    have sx':g6 2 2 (aa 0 4 kA) (aa 0 2 [4611686018427387904,4613940070040886837]) 2 2 (aa 0 4 kI)=some (.r0 false 0):=sz
    rw [sx']
    exact (ao (ao (ao (ao rfl))))
  · show ye.run=_
    have b1':bZ 1 1=_:=b1
    unfold ye
    rw [b1']
    exact (ao rfl)
  · show yf.run=_
    unfold yf
    rw [h1]
    exact (ao rfl)
  · show yg.run=_
    have s1':cm 1 2 (aa 0 2 [4613937818241073152,4616189618054758400])=_:=s1
    unfold yg
    rw [s1']
    exact (ao (ao rfl))
  · show (yh _ _ _ _ _ _ _ _ _ _ _ _ _ _ _ _ _ _ _ _ _ _).run=_
    unfold yh
    have w1':aG 25=some (.r0 (nS 25) (aA (nM 25) (nl (nM 25))) (nl (nM 25)) (nE 25 0)):=w1
    have c1:aa 0 1 [(1:Int)] = [1]:=rfl
    have l1:aA 1 1 = [(1:Int)]:=rfl
    rw [ck b2,k1,k2,k3,one1,c1,w1']
    simp only [g7,dm,cG,cH,dn]
    rw [ck s2,bR ax,Ra (nS 25) (nE 25 0) (n:=nl (nM 25)) (by omega),← l1,Ra false (-94) (by omega)]
    refine (bN (bN (bN (bN (bN (bN (bN (bN (cT (bp (by rw [k2] at b2;exact b2)) (ao (ao (bN (ao (cT (bp s2) (dT (ao rfl))))))))))))))))
end Go.Plb.Seat
namespace Go.Plb.Seat
open Go Go.Plb
set_option linter.unusedSimpArgs false
set_option linter.unusedVariables false
theorem arY{a0 a1:Int}{A:List Nat}(wA:Wd A) :Ix a0 a1 A=some (.r0 true):=by
  have k:=aqe
  by_cases hA:A.length > 36
  · refine aZ (ae (a:=true) (bN (ao (rz (by rw [decide_eq_true_eq];omega) rfl))) (bH ?_))
    unfold wq
    rw [k]
    exact (bN (ao rfl))
  have t16:∀ b,Rc a0 a1 A.length=b→(qI a0 a1 A).run=some (.inl (!b)):=by
    intro b hb
    unfold qI
    rw [aF,ap8,hb]
    exact (bf (ao rfl))
  refine aZ (ae (a:=false) (bN (ao (e9 (by rw [decide_eq_false_iff_not];omega) (ao (bj rfl))))) (ae (a:=()) rfl ?_))
  by_cases hm:Rc a0 a1 A.length=false
  · refine ae (a:=(2,false,[],0,0,0)) ?_ (ae (a:=(2,false,[],0,0,0)) ?_ (ae (t16 false hm) (bH ?_)))
    · unfold mw
      rw [aF,atj hm]
      exact (bf (ao rfl))
    · show (gp _ _ _).run=_
      unfold gp
      rw [aF,atv hm]
      exact (bf (ao rfl))
    · show (qJ _ _ _).run=_
      unfold qJ
      rw [k]
      exact (bN (bN (bN (ao rfl))))
  rw [Bool.not_eq_false] at hm
  by_cases hf:amh A=false
  · have w:=acm wA hm
    rw [hf] at w
    refine ae (a:=(10,false,[],0,0,0)) ?_ (ae (a:=(10,false,[],0,0,0)) ?_ (ae (t16 true hm) (ae (a:=()) rfl (ae (a:=true) ?_ (bH ?_)))))
    · unfold mw
      rw [aF,atk wA hm hf]
      exact (bf (ao rfl))
    · show (gp _ _ _).run=_
      unfold gp
      rw [aF,atw wA hm hf]
      exact (bf (ao rfl))
    · show (kt _ _ _).run=_
      unfold kt
      rw [aF,w]
      exact (bf (ao rfl))
    · show (qK _ _ _).run=_
      unfold qK
      rw [k]
      exact (bN (bN (bN (ao rfl))))
  rw [Bool.not_eq_false] at hf
  have hF:=wi.1 hf
  have w:=acm wA hm
  rw [hf] at w
  obtain ⟨r,c,rfl,rfl,hr,hc,hl,_⟩:=ado hm
  obtain ⟨S,s1,s2,s3⟩:=Z3 wA hm hf
  obtain ⟨G,g1,g2,g3⟩:=ajV wA hm hf
  have rs:=ap9 wA hF (by omega)
  have rg:=aqc wA hF hl hr hc
  have nS':nl (nM (Rd A))≤1000000:=by omega
  have nG':nl (nM (ML A r c))≤1000000:=by omega
  refine ae (a:=(0,nS (Rd A),aA (nM (Rd A)) S,0,nl (nM (Rd A)),nE (Rd A) (-2148))) ?_ (ae (a:=(0,nS (ML A r c),aA (nM (ML A r c)) G,0,nl (nM (ML A r c)),nE (ML A r c) (-4296))) ?_ (ae (t16 true hm) (ae (a:=()) rfl (ae (a:=false) ?_ (ae (a:=()) rfl ?_)))))
  · unfold mw
    rw [aF,s1]
    exact (bf (ao rfl))
  · show (gp _ _ _).run=_
    unfold gp
    rw [aF,g1]
    exact (bf (ao rfl))
  · show (kt _ _ _).run=_
    unfold kt
    rw [aF,w]
    exact (bf (ao rfl))
  show aC (qL _).run _=_
  by_cases hbig:c > 36
  · refine bH ?_
    unfold qL
    rw [k]
    exact (rz (by rw [decide_eq_true_eq];omega) (ao rfl))
  · refine ae (a:=()) (e9 (by rw [decide_eq_false_iff_not];omega) rfl) (ae (a:=true) ?_ rfl)
    show (qM _ _ _ _ _ _ _ _ _ _ _ _ _ _ _).run=_
    unfold qM
    rw [aF,rs,rg]
    simp only [xB,sY,o5,o6,sZ,xE,s4,o7,o8,s5]
    rw [ck s2,ck g2,bR ax,bR ax,Ra _ _ nS',Ra _ _ nG',k]
    exact (bN (bN (bf (ao (cT (bp s2) (dT (ao (bN (bf (ao (cT (bp g2) (dT (ao (bN (ao rfl)))))))))))))))
end Go.Plb.Seat
namespace Go.Plb.Seat
open Go Go.Plb
set_option linter.unusedSimpArgs false
set_option linter.unusedVariables false
def tv(A:List Nat)(r c p:Nat) :Nat:=A.getD ((p % r) * c+p / r) 0
end Go.Plb.Seat
