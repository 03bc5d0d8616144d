/-
  Part 6 of what the claim leans on: an evaluator of the model, proved sound; the contracts of the functions.
-/
import Derived.Test.YtcfhbjfbfmlkiaaGreatDoorA5
namespace Go.Plb.Seat
open Go Go.Plb
set_option linter.unusedSimpArgs false
set_option linter.unusedVariables false
theorem adP{neg:Bool}{m d L:Nat}{place:Int}(h1:4503599627370496≤m)(h2:m<9007199254740992)(hL:(L:Int)=place+(d:Int)+1074)(h:L≤2044) :
    Ieee.double.nearest neg (m*2^d) place=Ieee.double.word neg (L*4503599627370496+m):=by
  have e2:Ieee.double.binade=4503599627370496:=by decide
  have e3:Ieee.double.infRung=9218868437227405312:=by decide
  have e4:Ieee.double.leastPlace = -1074:=by decide
  have e5:Ieee.double.fractionBits=52:=rfl
  have hd:0<2^d:=Nat.pow_pos (by decide)
  have hm:m*2^d≠0:=Nat.mul_ne_zero (by omega) (by omega)
  have lg:(m*2^d).log2=52+d:=by
    have l1:=Nat.log2_self_le hm
    have l2:=Nat.lt_log2_self (n:=m*2^d)
    have d1:2^(52+d)≤m*2^d:=by rw [Nat.pow_add];exact Nat.mul_le_mul_right _ h1
    have d2:m*2^d<2^(53+d):=by rw [Nat.pow_add];exact Nat.mul_lt_mul_of_pos_right h2 hd
    have f1:2^(52+d)<2^((m*2^d).log2+1):=Nat.lt_of_le_of_lt d1 l2
    have f2:2^(m*2^d).log2<2^(53+d):=Nat.lt_of_le_of_lt l1 d2
    have:=(Nat.pow_lt_pow_iff_right (by decide:1<2)).1 f1
    have:=(Nat.pow_lt_pow_iff_right (by decide:1<2)).1 f2
    omega
  have hk:Ieee.Toward.even.cut neg (m*2^d) d=m:=by
    obtain ⟨k1,k2⟩:=aoM neg (m*2^d) d
    generalize Ieee.Toward.even.cut neg (m*2^d) d=k at k1 k2
    have a:2*k*2^d≤(2*m+1)*2^d:=by rw [Nat.add_mul,Nat.one_mul,Nat.mul_assoc,Nat.mul_assoc];exact k1
    have b:2*m*2^d≤(2*k+1)*2^d:=by rw [Nat.add_mul,Nat.one_mul,Nat.mul_assoc,Nat.mul_assoc];exact k2
    have:=Nat.le_of_mul_le_mul_right a hd
    have:=Nat.le_of_mul_le_mul_right b hd
    omega
  unfold Ieee.Format.nearest
  rw [if_neg hm]
  simp only [e2,e3,e4,e5,lg]
  have hlast:max (place+((52+d:Nat):Int)-(52:Nat)) (-1074)=place+(d:Int):=by omega
  have c1:(place-(place+(d:Int))).toNat=0:=by omega
  have c2:(place+(d:Int)-place).toNat=d:=by omega
  have c3:(place+(d:Int) - -1074).toNat=L:=by omega
  rw [hlast,c1,c2,c3,Nat.shiftLeft_zero,hk,Nat.min_eq_left (by omega)]
theorem adQ{R:Nat}(h:R<9223372036854775808) :Ieee.double.word false R=R:=by
  unfold Ieee.Format.word
  rfl
theorem nrm{x:Nat}(h:1≤ex x) :4503599627370496≤jG (x%9223372036854775808)∧jG (x%9223372036854775808)<9007199254740992∧fV (x%9223372036854775808)=ex x-1 :=
  ⟨(OG h).1,adG _,(OG h).2.2⟩
theorem aoP{x:Nat}(hx:x<vh)(h:1≤ex x)(h2:ex x≤2045) :eY T3 x=x:=by
  obtain ⟨o1,o2,o3,o4⟩:=amU
  obtain ⟨x1,x2,x3⟩:=nrm h
  rw [aba (by decide) hx (by decide) (Gi (by omega)),o2,o3,o4,Bool.false_xor,Nat.mul_comm]
  rw [show (4503599627370496:Nat)=2^52 from rfl,adP (L:=fV (x%9223372036854775808)) x1 x2 (by omega) (by omega)]
  exact Q3 hx h
theorem aoQ{a b x:Nat}(w:a*4503599627370496+b=x) :(a+1)*4503599627370496+b=x+4503599627370496:=by
  rw [Nat.add_mul,Nat.one_mul,Nat.add_right_comm,w]
theorem arg{a b x:Nat}(w:a*4503599627370496+b=x)(ha:1≤a) :(a-1)*4503599627370496+b=x-4503599627370496:=by
  obtain ⟨a',rfl⟩:∃ a',a=a'+1:=⟨a-1,by omega⟩
  rw [aoQ (a:=a') (b:=b) rfl] at w
  rw [←w,Nat.add_sub_cancel,Nat.add_sub_cancel]
theorem abb:ex 4611686018427387904=1024∧jG (4611686018427387904%9223372036854775808)=4503599627370496∧fV (4611686018427387904%9223372036854775808)=1023∧sb 4611686018427387904=false:=by decide
theorem aoR{x:Nat}(hx:x<9223372036854775808)(h:1≤ex x)(h2:ex x≤2044) :eY x 4611686018427387904=x+4503599627370496:=by
  obtain ⟨o1,o2,o3,o4⟩:=abb
  obtain ⟨x1,x2,x3⟩:=nrm h
  have hW:x<vh:=by show x<18446744073709551616;omega
  have hs:sb x=false:=by unfold sb;rw [beq_eq_false_iff_ne];omega
  rw [aba hW (by decide) (Gi (by omega)) (by decide),o2,o3,o4,Bool.xor_false,hs]
  have hn:=adP (neg:=false) (d:=52) (L:=fV (x%9223372036854775808)+1) (place:=-1074+((fV (x%9223372036854775808):Nat):Int)+(-1074+((1023:Nat):Int))) x1 x2 (by omega) (by omega)
  have w:=Q3 hW (by omega)
  rw [hs,adQ (by omega)] at w
  rw [adQ (by omega),show (2:Nat)^52=4503599627370496 from rfl] at hn
  rw [hn]
  exact aoQ w
theorem aoS{x:Nat}(hx:x<9223372036854775808)(h:2≤ex x)(h2:ex x≤2044) :fdiv x 4611686018427387904=x-4503599627370496:=by
  obtain ⟨o1,o2,o3,o4⟩:=abb
  obtain ⟨x1,x2,x3⟩:=nrm (x:=x) (by omega)
  have hW:x<vh:=by show x<18446744073709551616;omega
  have hs:sb x=false:=by unfold sb;rw [beq_eq_false_iff_ne];omega
  have hl:=(OG (x:=x) (by omega)).2.1
  have l52:Nat.log2 4503599627370496=52:=by decide
  unfold sb at hs o4
  unfold fdiv Ieee.Format.div
  rw [nt hW (Gi (by omega)),nt (by decide) (by decide),o2,o3,o4,hs]
  simp only [Ieee.Datum.quotient]
  rw [if_neg (by decide),hl,l52]
  have hq:jG (x%9223372036854775808) <<< (Ieee.double.fractionBits+2+52-52)=jG (x%9223372036854775808)*4*4503599627370496:=by
    rw [show Ieee.double.fractionBits+2+52-52=54 from rfl,Nat.shiftLeft_eq];omega
  rw [show jG (x%9223372036854775808) <<< (FloatKind.f64.format.fractionBits+2+52-52)=jG (x%9223372036854775808)*4*4503599627370496 from hq,Nat.mul_div_cancel _ (by decide),Nat.mul_mod_left]
  have hn:=adP (neg:=false) (d:=3) (L:=fV (x%9223372036854775808)-1) (place:=-1074+((fV (x%9223372036854775808):Nat):Int)-(-1074+((1023:Nat):Int))-((54:Nat):Int)-1) x1 x2 (by omega) (by omega)
  have w:=Q3 hW (by omega)
  rw [show sb x=false from hs,adQ (by omega)] at w
  rw [adQ (by omega)] at hn
  have hm:2*(jG (x%9223372036854775808)*4)+(0 != 0).toNat=jG (x%9223372036854775808)*2^3:=by
    show 2*(jG (x%9223372036854775808)*4)+0=jG (x%9223372036854775808)*8
    omega
  rw [hm]
  refine Eq.trans hn ?_
  have ha:1≤fV (x%9223372036854775808):=by omega
  exact arg w ha
end Go.Plb.Seat
namespace Go.Plb
set_option linter.unusedSimpArgs false
set_option linter.unusedVariables false
set_option linter.unusedSectionVars false
variable [Rom]
theorem apZ{x:Nat}(hx:x<vh)(fx:fin x=true)(h:fne x 0=false) :fz x=0:=by
  unfold fne vv Ieee.Format.order at h
  have f0:fin 0=true:=by decide
  rw [nt hx fx,nt (x:=0) (by decide) f0] at h
  rw [bne_eq_false_iff_eq] at h
  simp only [Ieee.Datum.order,Option.some.injEq] at h
  have z:∀ t k,Ieee.signed t (jG (0%9223372036854775808)) k=0:=by
    intro t k
    rw [sC]
    show sg t (jG 0*2^k)=0
    rw [show jG 0=0 from rfl,Nat.zero_mul]
    cases t<;>rfl
  rw [z,Int.compare_eq_eq] at h
  rw [amT hx]
  revert h
  generalize (-1074+((fV (x%9223372036854775808):Nat):Int)-min (-1074+((fV (x%9223372036854775808):Nat):Int)) (-1074+((fV (0%9223372036854775808):Nat):Int))).toNat=k
  rw [sC,sC,alh,alh]
  intro h
  rcases Nat.mul_eq_zero.1 h with q | q
  · rw [q,Nat.zero_mul]
  · exact absurd q (Nat.ne_of_gt (Nat.pow_pos (by decide)))
theorem adR{x:Nat}(hx:x<vh)(h:1≤ex x∧ex x≤2046) :yp x 0=false:=by
  cases q:yp x 0
  · rfl
  · exfalso
    have n:fne x 0=false:=by
      show (!(yp x 0))=false
      rw [q];rfl
    have z:=apZ hx (Gi h.2) n
    obtain ⟨m1,_,_⟩:=OG h.1
    have v:vl x=0:=by unfold vl;rw [z];rfl
    rw [aqz] at v
    rcases Nat.mul_eq_zero.1 v with w | w
    · omega
    · have:=aoN (fV (x%9223372036854775808));omega
theorem aqA{x:Nat}(hx:x<vh)(h:x%9223372036854775808=0) :yp x 0=true:=by
  have hx':x<18446744073709551616:=hx
  have:x=0∨x=9223372036854775808:=by omega
  rcases this with rfl | rfl
  · decide +kernel
  · decide +kernel
theorem z0:eY 0 0=0∧Aq T3 0=T3∧xr T3=T3∧eY T3 0=0:=by decide +kernel
def As(n x y:Rat) :Prop:=∃ d,x=y+y*d∧9223372036854775808*d≤n∧-n≤9223372036854775808*d
theorem As.refl(n y:Rat)(hn:0≤n) :As n y y:=⟨0,by grind,by grind,by grind⟩
theorem As.mono{n m x y:Rat}(h:As n x y)(hm:n≤m) :As m x y:=by
  obtain ⟨d,a,b,c⟩:=h
  exact ⟨d,a,by grind,by grind⟩
theorem As.mul{n x y:Rat}(h:As n x y)(z:Rat) :As n (x*z) (y*z):=by
  obtain ⟨d,a,b,c⟩:=h
  exact ⟨d,by grind,b,c⟩
theorem As.neg{n x y:Rat}(h:As n x y) :As n (-x) (-y):=by
  obtain ⟨d,a,b,c⟩:=h
  exact ⟨d,by grind,b,c⟩
theorem As.div{n x y z:Rat}(hz:z≠0)(h:As n (x*z) (y*z)) :As n x y:=by
  obtain ⟨d,a,b,c⟩:=h
  refine ⟨d,?_,b,c⟩
  have e:x=x*z/z:=by grind
  rw [e,a];grind
theorem arQ{n m d e:Rat}(hn:0≤n∧n≤1000000)(hm:0≤m∧m≤1000000)(b:9223372036854775808*d≤n)(c : -n≤9223372036854775808*d)(b':9223372036854775808*e≤m)(c' : -m≤9223372036854775808*e) :9223372036854775808*(d*e)≤1∧-1≤9223372036854775808*(d*e):=by
  have h1:=Rat.mul_nonneg (show 0≤n-9223372036854775808*d by grind) (show 0≤m-9223372036854775808*e by grind)
  have h2:=Rat.mul_nonneg (show 0≤n+9223372036854775808*d by grind) (show 0≤m+9223372036854775808*e by grind)
  have h3:=Rat.mul_nonneg (show 0≤n-9223372036854775808*d by grind) (show 0≤m+9223372036854775808*e by grind)
  have h4:=Rat.mul_nonneg (show 0≤n+9223372036854775808*d by grind) (show 0≤m-9223372036854775808*e by grind)
  have nm:n*m≤1000000*1000000:=by
    have e:=Rat.mul_le_mul_of_nonneg_left hm.2 hn.1
    have f:=Rat.mul_le_mul_of_nonneg_right hn.2 (show (0:Rat)≤1000000 by decide)
    grind
  constructor<;>grind
theorem As.trans{n m x y z:Rat}(h:As n x y)(h':As m y z)(hn:0≤n∧n≤1000000)(hm:0≤m∧m≤1000000) :As (n+m+1) x z:=by
  obtain ⟨d,a,b,c⟩:=h
  obtain ⟨e,a',b',c'⟩:=h'
  obtain ⟨f,g⟩:=arQ hn hm b c b' c'
  exact ⟨d+e+d*e,by grind,by grind,by grind⟩
theorem As.symm{n x y:Rat}(h:As n x y)(hn:0≤n∧n≤1000000) :As (n+1) y x:=by
  obtain ⟨d,a,b,c⟩:=h
  have p:0<1+d:=by grind
  have q:(1+d)*(1+d)⁻¹=1:=by grind
  have r:0<(1+d)⁻¹:=Rat.inv_pos.2 p
  refine ⟨(1+d)⁻¹-1,by grind,?_,?_⟩
  ·
    have s:9223372036854775808≤(9223372036854775808+(n+1))*(1+d):=by
      obtain ⟨f,g⟩:=arQ hn hn b c b c
      have t:0≤(n-9223372036854775808*d)*(n+9223372036854775808*d):=Rat.mul_nonneg (by grind) (by grind)
      have nn:n*n≤1000000*n:=Rat.mul_le_mul_of_nonneg_right hn.2 hn.1
      have u:=Rat.mul_le_mul_of_nonneg_left c hn.1
      grind
    have:=Rat.mul_le_mul_of_nonneg_right s (Rat.le_of_lt r)
    rw [Rat.mul_assoc,q,Rat.mul_one] at this
    grind
  · have s:(9223372036854775808-(n+1))*(1+d)≤9223372036854775808:=by
      have u:=Rat.mul_le_mul_of_nonneg_left c hn.1
      have nn:n*n≤1000000*n:=Rat.mul_le_mul_of_nonneg_right hn.2 hn.1
      grind
    have:=Rat.mul_le_mul_of_nonneg_right s (Rat.le_of_lt r)
    rw [Rat.mul_assoc,q,Rat.mul_one] at this
    grind
theorem As.add{n x x' c z z':Rat}(h:As n x (c*z))(h':As n x' (c*z'))(hz:0≤z)(hz':0≤z') :As n (x+x') (c*(z+z')):=by
  obtain ⟨d,a,b,e⟩:=h
  obtain ⟨d',a',b',e'⟩:=h'
  by_cases q:z+z'=0
  · have z0:z=0:=by grind
    have z1:z'=0:=by grind
    exact ⟨d,by grind,b,e⟩
  · have p:0<z+z':=by grind
    have r:0<(z+z')⁻¹:=Rat.inv_pos.2 p
    have q:(z+z')*(z+z')⁻¹=1:=by grind
    refine ⟨(z*d+z'*d')*(z+z')⁻¹,by grind,?_,?_⟩
    · have s1:=Rat.mul_le_mul_of_nonneg_left b hz
      have s2:=Rat.mul_le_mul_of_nonneg_left b' hz'
      have:=Rat.mul_le_mul_of_nonneg_right (show 9223372036854775808*(z*d+z'*d')≤n*(z+z') by grind) (Rat.le_of_lt r)
      rw [Rat.mul_assoc n,q,Rat.mul_one] at this
      grind
    · have s1:=Rat.mul_le_mul_of_nonneg_left e hz
      have s2:=Rat.mul_le_mul_of_nonneg_left e' hz'
      have:=Rat.mul_le_mul_of_nonneg_right (show (-n)*(z+z')≤9223372036854775808*(z*d+z'*d') by grind) (Rat.le_of_lt r)
      rw [Rat.mul_assoc (-n),q,Rat.mul_one] at this
      grind
theorem As.of{n x y:Rat}(hn:0≤n)(hy:0≤y)(a:9223372036854775808*(x-y)≤n*y)(b:9223372036854775808*(y-x)≤n*y) :As n x y:=by
  by_cases q:y=0
  · subst q
    exact ⟨0,by grind,by grind,by grind⟩
  · have p:0<y:=by grind
    have r:0<y⁻¹:=Rat.inv_pos.2 p
    have q:y*y⁻¹=1:=by grind
    have s1:=Rat.mul_le_mul_of_nonneg_right a (Rat.le_of_lt r)
    have s2:=Rat.mul_le_mul_of_nonneg_right b (Rat.le_of_lt r)
    rw [Rat.mul_assoc n,q,Rat.mul_one] at s1 s2
    exact ⟨(x-y)*y⁻¹,by grind,by grind,by grind⟩
structure Ok (x:Nat):Prop where
  lt:x<vh
  fin:fin x=true
def sr(s:Bool) :Rat:=if s then -1 else 1
theorem Rq.fn{s:Bool}{w:Nat}(h:Rq s w) :Ok w:=⟨h.lt,h.fin⟩
end Go.Plb
namespace Go.Plb
set_option linter.unusedSimpArgs false
set_option linter.unusedVariables false
set_option linter.unusedSectionVars false
variable [Rom]
variable {E c al S b tau q : Rat}
end Go.Plb
namespace Go.Plb
set_option linter.unusedSimpArgs false
set_option linter.unusedVariables false
set_option linter.unusedSectionVars false
variable [Rom]
theorem ap0{x:Nat}(hx:x<vh) :x ^^^ 2^63=if x<9223372036854775808 then x+9223372036854775808 else x-9223372036854775808:=by
  have hx:x<18446744073709551616:=hx
  have h:(BitVec.ofNat 64 x ^^^ BitVec.ofNat 64 9223372036854775808).toNat=x ^^^ 9223372036854775808:=by
    rw [BitVec.toNat_xor,BitVec.toNat_ofNat,BitVec.toNat_ofNat,Nat.mod_eq_of_lt hx]
  show x ^^^ 9223372036854775808=_
  have key:∀ m:Nat,m<9223372036854775808→m ^^^ 9223372036854775808=m+9223372036854775808:=by
    intro m hm
    have hm':m<2^63:=hm
    have:=Nat.two_pow_add_eq_or_of_lt hm' 1
    rw [Nat.mul_one] at this
    have e:m ^^^ 2^63=2^63 ||| m:=by
      apply Nat.eq_of_testBit_eq
      intro i
      rw [Nat.testBit_xor,Nat.testBit_or,Nat.testBit_two_pow]
      by_cases w:63=i
      · subst w
        rw [Nat.testBit_lt_two_pow hm'];simp
      · simp [w]
    show m ^^^ 2^63=_
    rw [e,←this];omega
  split
  · next q=>exact key x q
  · next q =>
    have e:=key (x-9223372036854775808) (by omega)
    have e2:x-9223372036854775808+9223372036854775808=x:=by omega
    rw [e2] at e
    rw [←e,Nat.xor_assoc,Nat.xor_self,Nat.xor_zero]
    rw [e]
theorem ap1{x y:Nat}(hx:x<vh)(hy:y<vh)(fx:fin x=true)(fy:fin y=true) :vv x y=some (compare (fz x) (fz y)):=by
  unfold vv Ieee.Format.order
  rw [nt hx fx,nt hy fy,Ez hx,Ez hy]
  unfold fz
  generalize (x/9223372036854775808==1)=s
  generalize (y/9223372036854775808==1)=t
  generalize jG (x%9223372036854775808)=m
  generalize jG (y%9223372036854775808)=n
  generalize fV (x%9223372036854775808)=i
  generalize fV (y%9223372036854775808)=j
  simp only [Ieee.Datum.order]
  have e1:((-1074+(i:Int))-min (-1074+(i:Int)) (-1074+(j:Int))).toNat=i-min i j:=by omega
  have e2:((-1074+(j:Int))-min (-1074+(i:Int)) (-1074+(j:Int))).toNat=j-min i j:=by omega
  rw [e1,e2,←sC,←sC]
  have h1:Ieee.signed s m i=Ieee.signed s m (i-min i j)*((2^(min i j):Nat):Int):=by rw [←JL];congr 1;omega
  have h2:Ieee.signed t n j=Ieee.signed t n (j-min i j)*((2^(min i j):Nat):Int):=by rw [←JL];congr 1;omega
  rw [h1,h2]
  have hp:(0:Int)<((2^(min i j):Nat):Int):=by have:=Nat.pow_pos (n:=min i j) (show 0<2 by decide);omega
  generalize Ieee.signed s m (i-min i j)=a
  generalize Ieee.signed t n (j-min i j)=b
  generalize ((2^(min i j):Nat):Int)=p at hp
  have e:∀ a b:Int,(a*p<b*p)↔a<b:=fun a b=>⟨fun h=>Int.lt_of_mul_lt_mul_right h (Int.le_of_lt hp),fun h=>Int.mul_lt_mul_of_pos_right h hp⟩
  congr 1
  rcases Int.lt_trichotomy a b with h | h | h
  · rw [Int.compare_eq_lt.2 h,Int.compare_eq_lt.2 ((e a b).2 h)]
  · subst h;rw [Int.compare_eq_eq.2 rfl,Int.compare_eq_eq.2 rfl]
  · rw [Int.compare_eq_gt.2 h,Int.compare_eq_gt.2 ((e b a).2 h)]
theorem arh{x y:Nat}(hx:x<vh)(hy:y<vh)(fx:fin x=true)(fy:fin y=true) :Yh x y=decide (fz y<fz x):=by
  unfold Yh
  rw [ap1 hx hy fx fy,Bool.eq_iff_iff,decide_eq_true_eq,beq_iff_eq,Option.some.injEq]
  exact Int.compare_eq_gt
end Go.Plb
namespace Go.Plb.Seat
open Go Go.Plb
set_option linter.unusedSimpArgs false
set_option linter.unusedVariables false
def HB(x:Nat) :Nat:=x%9223372036854775808
theorem exW(x:Nat) :ex x=HB x/4503599627370496:=rfl
theorem Gg{x:Nat}(h:fin x=true) :isNaN x=false:=by
  rw [oy,decide_eq_false_iff_not]
  unfold fin xpo at h
  rw [bne_iff_ne] at h
  omega
theorem ahz{x:Nat}(hx:x<vh)(h:1≤ex x∧ex x≤2046) :flt (co x) 4503599627370496=false:=by
  rw [ahk hx]
  unfold ex at h
  generalize x%9223372036854775808=s at h
  unfold flt
  rw [ym (by omega) (by decide)]
  rcases Nat.lt_trichotomy s 4503599627370496 with q | q | q
  · omega
  · rw [Nat.compare_eq_eq.2 q];rfl
  · rw [Nat.compare_eq_gt.2 q];rfl
theorem exC{x:Nat}(h:ex x≤2046) :x/4503599627370496%2048=ex x:=by
  unfold ex at h ⊢;omega
theorem akp{x:Nat}(hx:x<vh)(h:1≤ex x∧ex x≤2046) :∃ f,my x=some (.r0 f ((ex x:Int)-1022)):=by
  have hf:=Gi h.2
  have e:IntKind.i64.wrap (cL .and .u64 (Int.fdiv (x:Int) (2^min (Int.toNat (52:Int)) IntKind.u64.bits)) 2047)=(ex x:Int):=by
    rw [apP,aqw,exC h.2,Yb (by omega)]
  refine ⟨Int.toNat (cL .or .u64 (cL .andNot .u64 ((x:Nat):Int) (9218868437227405312:Int)) (4602678819172646912:Int)),bT (aA (a:=(x,0)) ?_ ?_)⟩
  · unfold KF
    exact bY (adR hx h) (dS (bY (alj hx hf) (bY (by rw [aeI,Gg hf]) (bY (ahz hx h) rfl))))
  · show (De x 0).run=_
    unfold De
    rw [e]
    refine Mh (aE (by rw [Gg hf];rfl) (aS (aE (by rw [ag];omega) (aE (by rw [ag];omega) (aE (by rw [ag];omega) ?_)))))
    show some (Sum.inr (gQ.r0 _ (0+((ex x:Int)-1023+1))))=_
    rw [show (0:Int)+((ex x:Int)-1023+1)=(ex x:Int)-1022 by omega]
def vt(A:List Nat) :Nat→Nat
  | 0=>0
  | i+1=>max (vt A i) (HB (A.getD i 0))
def pE(m:Nat) :Int:=bif Nat.beq m 0 then 0 else ((m/4503599627370496:Nat):Int)-1022
def Rg(A:List Nat) :Prop:=∀ i,i<A.length→A.getD i 0<vh∧(HB (A.getD i 0)=0∨2805742567851819008≤HB (A.getD i 0)∧HB (A.getD i 0)≤6408622269748215808)
theorem Rg.nz{A:List Nat}(h:Rg A){i:Nat}(hi:i<A.length)(h0:HB (A.getD i 0)≠0) :623≤ex (A.getD i 0)∧ex (A.getD i 0)≤1423:=by
  have:=(h i hi).2
  rw [exW];omega
theorem Yf{A:List Nat}(h:Rg A) :∀ i,i≤A.length→vt A i=0∨2805742567851819008≤vt A i∧vt A i≤6408622269748215808
  | 0,_=>.inl rfl
  | i+1,hi=>by
    have a:=Yf h i (by omega)
    have b:=(h i (by omega)).2
    show max _ _=0∨_≤max _ _∧max _ _≤_
    rcases Nat.le_total (vt A i) (HB (A.getD i 0)) with q | q
    · rw [Nat.max_eq_right q];exact b
    · rw [Nat.max_eq_left q];exact a
theorem Gj{r c:Nat}(hr:r≤512)(hc:c≤512) :fE (r:Int) (c:Int)=some (.r0 true):=by
  refine bT (aA (a:=true) ?_ rfl)
  unfold Is
  exact cV (by simp only [ag,au,aw,aj,ah,ae,ak,am,decide_eq_true_eq,decide_eq_false_iff_not,beq_iff_eq,beq_eq_false_iff_ne,bne_iff_ne,bne_eq_false_iff_eq,Bool.not_eq_true',Bool.not_eq_false',List.length_set,ne_eq,ge_iff_le,gt_iff_lt,ac,aa,ap];omega) (cV (by simp only [ag,au,aw,aj,ah,ae,ak,am,decide_eq_true_eq,decide_eq_false_iff_not,beq_iff_eq,beq_eq_false_iff_ne,bne_iff_ne,bne_eq_false_iff_eq,Bool.not_eq_true',Bool.not_eq_false',List.length_set,ne_eq,ge_iff_le,gt_iff_lt,ac,aa,ap];omega) (cV (by simp only [ag,au,aw,aj,ah,ae,ak,am,decide_eq_true_eq,decide_eq_false_iff_not,beq_iff_eq,beq_eq_false_iff_ne,bne_iff_ne,bne_eq_false_iff_eq,Bool.not_eq_true',Bool.not_eq_false',List.length_set,ne_eq,ge_iff_le,gt_iff_lt,ac,aa,ap];omega) (by rw [decide_eq_true (by omega)];rfl)))
theorem abc{A:List Nat}{r c:Nat}(hA:A.length=r*c)(hr:r≤512)(hc:c≤512) :oK (r:Int) (c:Int) A=some (.r0 true):=by
  have hL:r*c≤512*512:=Nat.mul_le_mul hr hc
  have e:(r:Int)*(c:Int)=(A.length:Int):=by rw [hA,Int.natCast_mul]
  refine bT (aA (a:=true) ?_ rfl)
  unfold Nr
  rw [Gj hr hc,e]
  exact jl (aS (dS (aE (by rw [ag];omega) (by rw [beq_self_eq_true];rfl))))
theorem abd{A:List Nat}(hn:A.length≤1000000)(hf:∀ i,i<A.length→fin (A.getD i 0)=true) :kr A=some (.r0 true):=by
  refine bT (aA (a:=()) rfl (aA (a:=()) (bH (fun j=>j) A.length rfl (fun j hj=>?_) (bY (by simp only [ag,au,aw,aj,ah,ae,ak,am,decide_eq_true_eq,decide_eq_false_iff_not,beq_iff_eq,beq_eq_false_iff_ne,bne_iff_ne,bne_eq_false_iff_eq,Bool.not_eq_true',Bool.not_eq_false',List.length_set,ne_eq,ge_iff_le,gt_iff_lt,ac,aa,ap];omega) rfl)) rfl))
  show (yO _ _).run=_
  unfold yO
  rw [apQ,hf j hj,Gg (hf j hj)]
  exact cV (by simp only [ag,au,aw,aj,ah,ae,ak,am,decide_eq_true_eq,decide_eq_false_iff_not,beq_iff_eq,beq_eq_false_iff_ne,bne_iff_ne,bne_eq_false_iff_eq,Bool.not_eq_true',Bool.not_eq_false',List.length_set,ne_eq,ge_iff_le,gt_iff_lt,ac,aa,ap];omega) (aE (by simp only [ag,au,aw,aj,ah,ae,ak,am,decide_eq_true_eq,decide_eq_false_iff_not,beq_iff_eq,beq_eq_false_iff_ne,bne_iff_ne,bne_eq_false_iff_eq,Bool.not_eq_true',Bool.not_eq_false',List.length_set,ne_eq,ge_iff_le,gt_iff_lt,ac,aa,ap];omega) (aE (by simp only [ag,au,aw,aj,ah,ae,ak,am,decide_eq_true_eq,decide_eq_false_iff_not,beq_iff_eq,beq_eq_false_iff_ne,bne_iff_ne,bne_eq_false_iff_eq,Bool.not_eq_true',Bool.not_eq_false',List.length_set,ne_eq,ge_iff_le,gt_iff_lt,ac,aa,ap];omega) (Mh (aS (aS (cu (aE (by simp only [ag,au,aw,aj,ah,ae,ak,am,decide_eq_true_eq,decide_eq_false_iff_not,beq_iff_eq,beq_eq_false_iff_ne,bne_iff_ne,bne_eq_false_iff_eq,Bool.not_eq_true',Bool.not_eq_false',List.length_set,ne_eq,ge_iff_le,gt_iff_lt,ac,aa,ap];omega) rfl)))))))
theorem Rg.fin{A:List Nat}(h:Rg A){i:Nat}(hi:i<A.length) :Go.Plb.fin (A.getD i 0)=true:=by
  have a:=(h i hi).2
  refine Gi ?_
  rw [exW];omega
theorem aoT{A:List Nat}(h:Rg A)(hn:A.length≤1000000){i:Nat}(hi:i<A.length) :
    qI A (pE (vt A i),!(Nat.beq (vt A i) 0),i)=some (.inl (pE (vt A (i+1)),!(Nat.beq (vt A (i+1)) 0),i+1)):=by
  refine aA (a:=(pE (vt A (i+1)),!(Nat.beq (vt A (i+1)) 0))) ?_ (aE (by simp only [ag,au,aw,aj,ah,ae,ak,am,decide_eq_true_eq,decide_eq_false_iff_not,beq_iff_eq,beq_eq_false_iff_ne,bne_iff_ne,bne_eq_false_iff_eq,Bool.not_eq_true',Bool.not_eq_false',List.length_set,ne_eq,ge_iff_le,gt_iff_lt,ac,aa,ap];omega) rfl)
  unfold GA
  refine cV (by simp only [ag,au,aw,aj,ah,ae,ak,am,decide_eq_true_eq,decide_eq_false_iff_not,beq_iff_eq,beq_eq_false_iff_ne,bne_iff_ne,bne_eq_false_iff_eq,Bool.not_eq_true',Bool.not_eq_false',List.length_set,ne_eq,ge_iff_le,gt_iff_lt,ac,aa,ap];omega) (aE (by simp only [ag,au,aw,aj,ah,ae,ak,am,decide_eq_true_eq,decide_eq_false_iff_not,beq_iff_eq,beq_eq_false_iff_ne,bne_iff_ne,bne_eq_false_iff_eq,Bool.not_eq_true',Bool.not_eq_false',List.length_set,ne_eq,ge_iff_le,gt_iff_lt,ac,aa,ap];omega) (aE (by simp only [ag,au,aw,aj,ah,ae,ak,am,decide_eq_true_eq,decide_eq_false_iff_not,beq_iff_eq,beq_eq_false_iff_ne,bne_iff_ne,bne_eq_false_iff_eq,Bool.not_eq_true',Bool.not_eq_false',List.length_set,ne_eq,ge_iff_le,gt_iff_lt,ac,aa,ap];omega) ?_))
  have hw:=(h i hi).1
  have hm:=Yf h i (by omega)
  have em:vt A (i+1)=max (vt A i) (HB (A.getD i 0)):=rfl
  by_cases h0:HB (A.getD i 0)=0
  · rw [em,h0,Nat.max_eq_left (Nat.zero_le _)]
    exact cV (aqA hw h0) rfl
  · have he:=h.nz hi h0
    obtain ⟨f,hf⟩:=akp hw (by omega)
    refine bY (adR hw (by omega)) ?_
    rw [hf]
    refine aS ?_
    have hb:=(h i hi).2
    rcases hm with z | z
    · rw [z]
      refine dS ?_
      rw [em,z,Nat.max_eq_right (Nat.zero_le _)]
      have nb:Nat.beq (HB (A.getD i 0)) 0=false:=by cases q:Nat.beq (HB (A.getD i 0)) 0 with | false=>rfl | true=>exact absurd (Nat.eq_of_beq_eq_true q) h0
      unfold pE
      rw [nb,←exW];rfl
    · have nb:Nat.beq (vt A i) 0=false:=by cases q:Nat.beq (vt A i) 0 with | false=>rfl | true=>have:=Nat.eq_of_beq_eq_true q;omega
      have nb':Nat.beq (vt A (i+1)) 0=false:=by
        cases q:Nat.beq (vt A (i+1)) 0 with
        | false=>rfl
        | true=>have:=Nat.eq_of_beq_eq_true q;rw [em] at this;have:=Nat.le_max_left (vt A i) (HB (A.getD i 0));omega
      have p1:pE (vt A i)=((vt A i/4503599627370496:Nat):Int)-1022:=by unfold pE;rw [nb];rfl
      have p2:pE (vt A (i+1))=((vt A (i+1)/4503599627370496:Nat):Int)-1022:=by unfold pE;rw [nb'];rfl
      rw [p1,p2,nb,nb',em]
      refine cu ?_
      rw [exW]
      by_cases g:HB (A.getD i 0)/4503599627370496>vt A i/4503599627370496
      · refine cV (decide_eq_true (by show _-_>_-_;omega)) ?_
        rw [Nat.max_eq_right (by omega)];rfl
      · refine bY (decide_eq_false (by show ¬ (_-_>_-_);omega)) ?_
        have:max (vt A i) (HB (A.getD i 0))/4503599627370496=vt A i/4503599627370496:=by
          rcases Nat.le_total (vt A i) (HB (A.getD i 0)) with q | q
          · rw [Nat.max_eq_right q];omega
          · rw [Nat.max_eq_left q]
        rw [this];rfl
theorem amV{A:List Nat}{r c:Nat}(h:Rg A)(hA:A.length=r*c)(hr:r≤512)(hc:c≤512) :eU (r:Int) (c:Int) A=some (.r0 (pE (vt A A.length)) 0):=by
  have hL:r*c≤512*512:=Nat.mul_le_mul hr hc
  refine bT (aA (a:=0) ?_ (aA (a:=false) (cu rfl) (aA (a:=pE (vt A A.length)) (bH (fun i=>(pE (vt A i),!(Nat.beq (vt A i) 0),i)) A.length rfl (fun i hi=>aoT h (by omega) hi) ?_) rfl)))
  · unfold Gz
    rw [dg,Gj hr hc,abc hA hr hc,abd (by omega) (fun i hi=>h.fin hi)]
    exact jl (aS (cu (jl (aS (cu (jl (aS (cu rfl))))))))
  · exact bU (bY (by simp only [ag,au,aw,aj,ah,ae,ak,am,decide_eq_true_eq,decide_eq_false_iff_not,beq_iff_eq,beq_eq_false_iff_ne,bne_iff_ne,bne_eq_false_iff_eq,Bool.not_eq_true',Bool.not_eq_false',List.length_set,ne_eq,ge_iff_le,gt_iff_lt,ac,aa,ap];omega) rfl)
theorem alu{a b:Nat}(ha:a<9218868437227405312)(hb:b<9218868437227405312) :Yh a b=decide (b<a):=by
  unfold Yh
  rw [ym ha hb]
  rcases Nat.lt_trichotomy a b with q | q | q
  · rw [Nat.compare_eq_lt.2 q,decide_eq_false (by omega)];rfl
  · rw [Nat.compare_eq_eq.2 q,decide_eq_false (by omega)];rfl
  · rw [Nat.compare_eq_gt.2 q,decide_eq_true (by omega)];rfl
theorem alv{a b:Nat}(ha:a<9218868437227405312)(hb:b<9218868437227405312) :flt a b=decide (a<b):=by
  unfold flt
  rw [ym ha hb]
  rcases Nat.lt_trichotomy a b with q | q | q
  · rw [Nat.compare_eq_lt.2 q,decide_eq_true (by omega)];rfl
  · rw [Nat.compare_eq_eq.2 q,decide_eq_false (by omega)];rfl
  · rw [Nat.compare_eq_gt.2 q,decide_eq_false (by omega)];rfl
theorem alw{a b:Nat}(ha:a<9218868437227405312)(hb:b<9218868437227405312) :fge a b=decide (b≤a):=by
  unfold fge
  rw [ym ha hb]
  rcases Nat.lt_trichotomy a b with q | q | q
  · rw [Nat.compare_eq_lt.2 q,decide_eq_false (by omega)];rfl
  · rw [Nat.compare_eq_eq.2 q,decide_eq_true (by omega)];rfl
  · rw [Nat.compare_eq_gt.2 q,decide_eq_true (by omega)];rfl
theorem akq{A:List Nat}(h:Rg A)(hn:A.length≤1000000){i:Nat}(hi:i<A.length) :qS A (vt A i,i)=some (.inl (vt A (i+1),i+1)):=by
  refine aA (a:=vt A (i+1)) ?_ (aE (by simp only [ag,au,aw,aj,ah,ae,ak,am,decide_eq_true_eq,decide_eq_false_iff_not,beq_iff_eq,beq_eq_false_iff_ne,bne_iff_ne,bne_eq_false_iff_eq,Bool.not_eq_true',Bool.not_eq_false',List.length_set,ne_eq,ge_iff_le,gt_iff_lt,ac,aa,ap];omega) rfl)
  unfold GU
  refine cV (by simp only [ag,au,aw,aj,ah,ae,ak,am,decide_eq_true_eq,decide_eq_false_iff_not,beq_iff_eq,beq_eq_false_iff_ne,bne_iff_ne,bne_eq_false_iff_eq,Bool.not_eq_true',Bool.not_eq_false',List.length_set,ne_eq,ge_iff_le,gt_iff_lt,ac,aa,ap];omega) (aE (by simp only [ag,au,aw,aj,ah,ae,ak,am,decide_eq_true_eq,decide_eq_false_iff_not,beq_iff_eq,beq_eq_false_iff_ne,bne_iff_ne,bne_eq_false_iff_eq,Bool.not_eq_true',Bool.not_eq_false',List.length_set,ne_eq,ge_iff_le,gt_iff_lt,ac,aa,ap];omega) (aE (by simp only [ag,au,aw,aj,ah,ae,ak,am,decide_eq_true_eq,decide_eq_false_iff_not,beq_iff_eq,beq_eq_false_iff_ne,bne_iff_ne,bne_eq_false_iff_eq,Bool.not_eq_true',Bool.not_eq_false',List.length_set,ne_eq,ge_iff_le,gt_iff_lt,ac,aa,ap];omega) ?_))
  have hw:=(h i hi).1
  have hw':A.getD i 0<18446744073709551616:=hw
  have hb:=(h i hi).2
  have hf:=h.fin hi
  have hm:=Yf h i (by omega)
  have mi:vt A i<9218868437227405312:=by omega
  have em:vt A (i+1)=max (vt A i) (HB (A.getD i 0)):=rfl
  have z0:fz 0=0:=als rfl
  have f0:Go.Plb.fin 0=true:=by decide
  generalize hx:A.getD i 0=x at *
  rw [arf hw (by decide) hf f0,z0]
  by_cases h0:HB x=0
  · have fx:fz x=0:=als h0
    rw [fx]
    have mW:vt A i<vh:=by show _<18446744073709551616;omega
    have fm:Go.Plb.fin (vt A i)=true:=OF (by omega)
    have sm:sb (vt A i)=false:=by unfold sb;rw [beq_eq_false_iff_ne];omega
    have pm:0≤fz (vt A i):=by rw [aoO mW,sm];exact Int.natCast_nonneg _
    refine cu (bY ?_ ?_)
    · rw [arh hw mW hf fm,fx];exact decide_eq_false (by omega)
    · rw [em,h0,Nat.max_eq_left (Nat.zero_le _)];rfl
  · have hs:HB x<9218868437227405312:=by omega
    have n1:1≤ex x:=by rw [exW];omega
    have vp:0<vl x:=by
      rw [aqz]
      exact Nat.mul_pos (by have:=(OG n1).1;omega) (aoN _)
    cases hsb:sb x with
    | true =>
      have fx:fz x<0:=by rw [aoO hw,hsb];show -((vl x:Nat):Int)<0;omega
      have big:9223372036854775808≤x:=by unfold sb at hsb;rw [beq_iff_eq] at hsb;omega
      have en:CB x=HB x:=by
        unfold CB
        rw [ap0 hw,if_neg (by omega)]
        unfold HB;omega
      rw [en,alu hs mi]
      refine cV (decide_eq_true fx) ?_
      by_cases g:vt A i<HB x
      · exact cV (decide_eq_true g) (by rw [em,Nat.max_eq_right (by omega)];rfl)
      · exact bY (decide_eq_false g) (by rw [em,Nat.max_eq_left (by omega)];rfl)
    | false =>
      have fx : ¬ fz x<0:=by rw [aoO hw,hsb];show ¬ ((vl x:Nat):Int)<0;omega
      have ex':x=HB x:=by unfold sb at hsb;rw [beq_eq_false_iff_ne] at hsb;unfold HB;omega
      refine bY (decide_eq_false fx) ?_
      rw [em]
      generalize HB x=s at *
      subst ex'
      rw [alu hs mi]
      by_cases g:vt A i<x
      · exact cV (decide_eq_true g) (by rw [Nat.max_eq_right (by omega)];rfl)
      · exact bY (decide_eq_false g) (by rw [Nat.max_eq_left (by omega)];rfl)
theorem arR{m n:Nat}(hm:m<9218868437227405312)(h1:m/4503599627370496≤1423)(hn:n=m/4503599627370496-1022) :
    ch qU (m,0)=some (.inl (m-n*4503599627370496,n)):=by
  refine bH (fun j=>(m-j*4503599627370496,j)) n (by rw [Nat.zero_mul];rfl) (fun j hj=>?_) ?_
  · show (np _ _).run=_
    unfold np
    rw [alw (by omega) (by decide),aoS (by omega) (by unfold ex;omega) (by unfold ex;omega)]
    refine cV (decide_eq_true (by omega)) (aE (by simp only [ag,au,aw,aj,ah,ae,ak,am,decide_eq_true_eq,decide_eq_false_iff_not,beq_iff_eq,beq_eq_false_iff_ne,bne_iff_ne,bne_eq_false_iff_eq,Bool.not_eq_true',Bool.not_eq_false',List.length_set,ne_eq,ge_iff_le,gt_iff_lt,ac,aa,ap];omega) ?_)
    rw [Nat.sub_sub,show j*4503599627370496+4503599627370496=(j+1)*4503599627370496 by rw [Nat.add_mul,Nat.one_mul]]
    rfl
  · show (np _ _).run=_
    unfold np
    rw [alw (by omega) (by decide)]
    exact bY (decide_eq_false (by omega)) rfl
theorem ap3{m k:Nat}{p:Int}(hm:m<9218868437227405312)(h1:500≤m/4503599627370496)(h2:m/4503599627370496≤1022)(hk:k=1022-m/4503599627370496)(hp : -5000≤p∧p≤5000) :
    ch qW (m,p)=some (.inl (p-k)):=by
  refine bH (fun j=>(m+j*4503599627370496,p-(j:Int))) k (by rw [Nat.zero_mul];show (m,p)=(m+0,p-((0:Nat):Int));rw [show p-((0:Nat):Int)=p by omega];rfl) (fun j hj=>?_) ?_
  · show (nq _ _).run=_
    unfold nq
    rw [alv (by omega) (by decide),aoR (by omega) (by unfold ex;omega) (by unfold ex;omega)]
    refine cV (decide_eq_true (by omega)) (aE (by rw [ag];omega) ?_)
    rw [Nat.add_assoc,show j*4503599627370496+4503599627370496=(j+1)*4503599627370496 by rw [Nat.add_mul,Nat.one_mul],show p-(j:Int)-1=p-((j+1:Nat):Int) by omega]
    rfl
  · show (nq _ _).run=_
    unfold nq
    rw [alv (by omega) (by decide)]
    exact bY (decide_eq_false (by omega)) rfl
theorem abe{A:List Nat}(h:Rg A)(hn:A.length≤1000000) :bc A=some (.r0 (pE (vt A A.length))):=by
  refine bT (aA (a:=()) rfl (aA (a:=vt A A.length) (bH (fun i=>(vt A i,i)) A.length rfl (fun i hi=>akq h hn hi) (bU (bY (by simp only [ag,au,aw,aj,ah,ae,ak,am,decide_eq_true_eq,decide_eq_false_iff_not,beq_iff_eq,beq_eq_false_iff_ne,bne_iff_ne,bne_eq_false_iff_eq,Bool.not_eq_true',Bool.not_eq_false',List.length_set,ne_eq,ge_iff_le,gt_iff_lt,ac,aa,ap];omega) rfl))) ?_))
  have hm:=Yf h A.length (Nat.le_refl _)
  generalize vt A A.length=m at hm
  rcases hm with z | z
  · subst z
    exact bU (cV (by decide +kernel) rfl)
  · have hz:yp m 0=false:=adR (by show m<18446744073709551616;omega) (by unfold ex;omega)
    have nb:Nat.beq m 0=false:=by cases q:Nat.beq m 0 with | false=>rfl | true=>have:=Nat.eq_of_beq_eq_true q;omega
    have pe:pE m=((m/4503599627370496:Nat):Int)-1022:=by unfold pE;rw [nb];rfl
    refine aA (a:=()) (bY hz rfl) (aA (arR (n:=m/4503599627370496-1022) (by omega) (by omega) rfl) (aA (ap3 (k:=1022-(m-(m/4503599627370496-1022)*4503599627370496)/4503599627370496) (by omega) (by omega) (by omega) rfl (by omega)) ?_))
    have e:((m/4503599627370496-1022:Nat):Int)-((1022-(m-(m/4503599627370496-1022)*4503599627370496)/4503599627370496:Nat):Int)=pE m:=by
      rw [pe];omega
    rw [←e]
    rfl
theorem abf{s e f i:Nat}(he:e<2048)(hf:f<4503599627370496) :(2^52*(2^11*s+e)+f).testBit i=if i<52 then f.testBit i else if i-52<11 then e.testBit (i-52) else s.testBit (i-52-11):=by
  rw [Nat.testBit_two_pow_mul_add _ (show f<2^52 from hf),Nat.testBit_two_pow_mul_add _ (show e<2^11 from he)]
theorem ap4{s e f:Nat}(hs:s<2)(he:e<2048)(hf:f<4503599627370496) :
    (2^52*(2^11*s+e)+f) &&& (2^52*(2^11*1+0)+(2^52-1))=2^52*(2^11*s+0)+f:=by
  refine Nat.eq_of_testBit_eq fun i=>?_
  rw [Nat.testBit_and,abf he hf,abf (by decide) (by decide),abf (by decide) hf]
  by_cases h1:i<52
  · rw [if_pos h1,if_pos h1,if_pos h1,Nat.testBit_two_pow_sub_one,decide_eq_true h1,Bool.and_true]
  · rw [if_neg h1,if_neg h1,if_neg h1]
    by_cases h2:i-52<11
    · rw [if_pos h2,if_pos h2,if_pos h2,Nat.zero_testBit,Bool.and_false]
    · rw [if_neg h2,if_neg h2,if_neg h2]
      rcases (show s=0∨s=1 by omega) with rfl | rfl
      · rw [Nat.zero_testBit,Bool.false_and]
      · rw [Bool.and_self]
theorem ap5{s e f:Nat}(he:e<2048)(hf:f<4503599627370496) :
    (2^52*(2^11*s+0)+f) ||| (2^52*(2^11*0+e)+0)=2^52*(2^11*s+e)+f:=by
  refine Nat.eq_of_testBit_eq fun i=>?_
  rw [Nat.testBit_or,abf (by decide) hf,abf he (by decide),abf he hf]
  by_cases h1:i<52
  · rw [if_pos h1,if_pos h1,if_pos h1,Nat.zero_testBit,Bool.or_false]
  · rw [if_neg h1,if_neg h1,if_neg h1]
    by_cases h2:i-52<11
    · rw [if_pos h2,if_pos h2,if_pos h2,Nat.zero_testBit,Bool.false_or]
    · rw [if_neg h2,if_neg h2,if_neg h2,Nat.zero_testBit,Bool.or_false]
theorem ofI{m:Nat}(h:m<18446744073709551616) :(BitVec.ofInt IntKind.u64.bits (m:Int)).toNat=m:=by
  rw [BitVec.toNat_ofInt]
  show ((m:Int)%((2^64:Nat):Int)).toNat=m
  omega
theorem aoU{x:Nat}(hx:x<vh) :cL .andNot .u64 (x:Int) 9218868437227405312=((x/9223372036854775808*9223372036854775808+x%4503599627370496:Nat):Int):=by
  have hx':x<18446744073709551616:=hx
  unfold cL
  show IntKind.u64.wrap (((BitVec.ofInt IntKind.u64.bits (x:Int) &&& ~~~ BitVec.ofInt IntKind.u64.bits 9218868437227405312).toNat:Nat):Int)=_
  rw [BitVec.toNat_and,ofI hx']
  have hc:(~~~ BitVec.ofInt IntKind.u64.bits 9218868437227405312).toNat=2^52*(2^11*1+0)+(2^52-1):=by decide
  rw [hc]
  have hd:x=2^52*(2^11*(x/9223372036854775808)+x/4503599627370496%2048)+x%4503599627370496:=by
    rw [show (2:Nat)^52=4503599627370496 from rfl,show (2:Nat)^11=2048 from rfl]
    omega
  have key:=ap4 (s:=x/9223372036854775808) (e:=x/4503599627370496%2048) (f:=x%4503599627370496) (by omega) (by omega) (by omega)
  rw [←hd] at key
  rw [key,show (2:Nat)^52=4503599627370496 from rfl,show (2:Nat)^11=2048 from rfl]
  have e2:4503599627370496*(2048*(x/9223372036854775808)+0)+x%4503599627370496=x/9223372036854775808*9223372036854775808+x%4503599627370496:=by omega
  rw [e2]
  exact BE (by show _<18446744073709551616;omega)
theorem aoV{s e f:Nat}(hs:s<2)(he:e<2048)(hf:f<4503599627370496) :
    cL .or .u64 ((s*9223372036854775808+f:Nat):Int) ((e*4503599627370496:Nat):Int)=((s*9223372036854775808+e*4503599627370496+f:Nat):Int):=by
  unfold cL
  show IntKind.u64.wrap (((BitVec.ofInt IntKind.u64.bits ((s*9223372036854775808+f:Nat):Int) ||| BitVec.ofInt IntKind.u64.bits ((e*4503599627370496:Nat):Int)).toNat:Nat):Int)=_
  rw [BitVec.toNat_or,ofI (by omega),ofI (by omega)]
  have key:=ap5 (s:=s) he hf
  rw [show (2:Nat)^52=4503599627370496 from rfl,show (2:Nat)^11=2048 from rfl] at key
  rw [show 4503599627370496*(2048*s+0)+f=s*9223372036854775808+f by omega,show 4503599627370496*(2048*0+e)+0=e*4503599627370496 by omega,show 4503599627370496*(2048*s+e)+f=s*9223372036854775808+e*4503599627370496+f by omega] at key
  rw [key]
  exact BE (by show _<18446744073709551616;omega)
theorem ari{m:Nat}(h:m<9223372036854775808) :cL .and .i64 (m:Int) 2047=((m%2048:Nat):Int):=by
  unfold cL
  simp only [BitVec.toNat_and,BitVec.toNat_ofInt]
  have e1:((2047:Int)%((2^IntKind.i64.bits:Nat):Int)).toNat=2^11-1:=by decide
  have e2:((m:Int)%((2^IntKind.i64.bits:Nat):Int)).toNat=m:=by
    show ((m:Int)%((2^64:Nat):Int)).toNat=_
    omega
  rw [e1,e2,Nat.and_two_pow_sub_one_eq_mod]
  have:m%2^11<2048:=Nat.mod_lt _ (by decide)
  exact Yb (by omega)
def shX(x:Nat)(p:Int) :Nat:=x/9223372036854775808*9223372036854775808+((ex x:Int)+p).toNat*4503599627370496+x%4503599627370496
theorem aoX{x:Nat} :shX x 0=x:=by
  unfold shX ex
  rw [Int.add_zero,aa]
  omega
theorem aoY{x:Nat}{p:Int}(hx:x<vh)(h:623≤ex x∧ex x≤1423)(hp : -401≤p∧p≤401) :(ex (shX x p):Int)=(ex x:Int)+p∧shX x p<vh:=by
  have hx':x<18446744073709551616:=hx
  have e:((((ex x:Int)+p).toNat:Nat):Int)=(ex x:Int)+p:=by omega
  have hb:((ex x:Int)+p).toNat≤1900:=by omega
  unfold shX
  generalize ((ex x:Int)+p).toNat=q at e hb
  have hd:(x/9223372036854775808*9223372036854775808+q*4503599627370496+x%4503599627370496)%9223372036854775808/4503599627370496=q:=by omega
  refine ⟨?_,?_⟩
  · show (((_%9223372036854775808/4503599627370496:Nat)):Int)=_
    rw [hd,e]
  · show _<18446744073709551616;omega
theorem aoZ{x:Nat}{p:Int}(hx:x<vh)(h:623≤ex x∧ex x≤1423)(hp : -401≤p∧p≤401) :mz x p=some (.r0 (shX x p)):=by
  have hx':x<18446744073709551616:=hx
  have hf:fin x=true:=Gi (by omega)
  have hn:=Gg hf
  obtain ⟨s1,s2⟩:=aoY hx h hp
  have ea:cL .and .i64 (IntKind.i64.wrap (Int.fdiv (x:Int) (2^min (Int.toNat (52:Int)) IntKind.u64.bits))) 2047=(ex x:Int):=by
    rw [apP,Yb (by omega),ari (by omega),exC (by omega)]
  refine bT (aA (a:=(x,0)) ?_ (aA (a:=(p+0+((ex x:Int)-1023),T3)) ?_ ?_))
  · unfold KJ
    exact bY (adR hx (by omega)) (dS (bY (alj hx hf) (bY (by rw [aeI,hn]) (bY (ahz hx (by omega)) rfl))))
  · show (Dg _ _ _).run=_
    unfold Dg
    rw [ea,hn]
    exact aE (by rw [ag];omega) (Mh (aS (aS (aE (by rw [ag];omega) (aE (by rw [ag];omega) (bY (decide_eq_false (by omega)) (bY (decide_eq_false (by omega)) (bY (decide_eq_false (by omega)) rfl))))))))
  · show (Dh _ _ _).run=_
    unfold Dh
    have e1:p+0+((ex x:Int)-1023)+1023=((((ex x:Int)+p).toNat:Nat):Int):=by omega
    have p52:(2^min (Int.toNat (52:Int)) IntKind.u64.bits:Int)=((4503599627370496:Nat):Int):=by decide
    have hb:((ex x:Int)+p).toNat≤1900:=by omega
    rw [e1,p52,BE (by show _<18446744073709551616;omega),←Int.natCast_mul,BE (by show _<18446744073709551616;omega),aoU hx,aoV (by omega) (by omega) (by omega),aa]
    refine aE (by rw [ag];omega) (aS ?_)
    show some (Sum.inr (gR.r0 (eY T3 (shX x p))))=_
    rw [aoP s2 (by omega) (by omega)]
theorem ao0{x:Nat}{p:Int}(hx:x<vh)(h:623≤ex x∧ex x≤1423)(hp : -401≤p∧p≤401) :lq x p=some (.r0 (shX x p)):=by
  have hx':x<18446744073709551616:=hx
  have hf:fin x=true:=Gi (by omega)
  have hn:=Gg hf
  have p52:(2^min (Int.toNat (52:Int)) IntKind.u64.bits:Int)=((4503599627370496:Nat):Int):=by decide
  have p63:(2^min (Int.toNat (63:Int)) IntKind.u64.bits:Int)=((9223372036854775808:Nat):Int):=by decide
  have p12:(2^min (Int.toNat (12:Int)) IntKind.u64.bits:Int)=((4096:Nat):Int):=by decide
  have p1:(2^min (Int.toNat (1:Int)) IntKind.u64.bits:Int)=((2:Nat):Int):=by decide
  have w2:IntKind.u64.wrap ((x:Int)*((2:Nat):Int))=((x*2%18446744073709551616:Nat):Int):=by
    simp only [IntKind.wrap,IntKind.signed,IntKind.bits]
    simp
    try omega
  have hsz:x*2%18446744073709551616≠0:=by unfold ex at h;omega
  by_cases hp0:p=0
  · subst hp0
    rw [aoX]
    refine bT (bU ?_)
    unfold qX
    rw [akn,hf,hn,p1,w2]
    exact Mh (aS (aS (aS (cu (aS (bY (by rw [beq_eq_false_iff_ne];omega) (dS rfl)))))))
  · have fd:∀ (a b:Nat),0<b→Int.fdiv (a:Int) (b:Int)=((a/b:Nat):Int):=fun a b hb=>by
      rw [Int.fdiv_eq_ediv_of_nonneg _ (by omega)];exact (Int.natCast_ediv a b).symm
    have w12:IntKind.u64.wrap ((x:Int)*((4096:Nat):Int))=((x*4096%18446744073709551616:Nat):Int):=by
      simp only [IntKind.wrap,IntKind.signed,IntKind.bits]
      simp
      try omega
    have et:Int.tmod (((x/4503599627370496:Nat)):Int) 2048=(ex x:Int):=by
      rw [Int.tmod_eq_emod_of_nonneg (by omega)]
      have:=exC (x:=x) (by omega)
      omega
    refine bT (aA (a:=(((x/9223372036854775808*9223372036854775808:Nat):Int),((x%4503599627370496+4503599627370496:Nat):Int),(ex x:Int))) ?_ (aA (a:=(((x%4503599627370496+4503599627370496:Nat):Int),(ex x:Int))) (bH (fun _=>_) 0 rfl (fun j hj=>by omega) (bY (decide_eq_false (by omega)) rfl)) (aA (a:=p) (bY (decide_eq_false (by omega)) rfl) (aA (a:=p) (bY (decide_eq_false (by omega)) rfl) (bU ?_)))))
    · unfold qX
      rw [akn,hf,hn,p1,w2,p52,p63,p12,w12,fd _ _ (by decide),fd _ _ (by decide),fd _ _ (by decide),et,Yb (by omega),←Int.natCast_mul,BE (by show _<18446744073709551616;omega)]
      have em:IntKind.u64.wrap (((x*4096%18446744073709551616/4096:Nat):Int)+4503599627370496)=((x%4503599627370496+4503599627370496:Nat):Int):=by
        rw [show x*4096%18446744073709551616/4096=x%4503599627370496 by omega]
        exact BE (m:=x%4503599627370496+4503599627370496) (by show _<18446744073709551616;omega)
      rw [em]
      exact Mh (aS (aS (aS (cu (aS (bY (by rw [beq_eq_false_iff_ne];omega) (bY (by rw [beq_eq_false_iff_ne];exact hp0) (aS (aS (aS (aS (aS (aS (bY (by rw [beq_eq_false_iff_ne];omega) rfl))))))))))))))
    · unfold GX
      have e1:(ex x:Int)+p=((((ex x:Int)+p).toNat:Nat):Int):=by omega
      have hb:((ex x:Int)+p).toNat≤1900∧1≤((ex x:Int)+p).toNat:=by omega
      unfold shX
      generalize ((ex x:Int)+p).toNat=q at e1 hb ⊢
      rw [e1,p52,BE (m:=q) (by show _<18446744073709551616;omega),←Int.natCast_mul,BE (m:=q*4503599627370496) (by show _<18446744073709551616;omega),←Int.natCast_add,BE (m:=x/9223372036854775808*9223372036854775808+q*4503599627370496) (by show _<18446744073709551616;omega),←Int.natCast_add,BE (m:=x/9223372036854775808*9223372036854775808+q*4503599627370496+(x%4503599627370496+4503599627370496)) (by show _<18446744073709551616;omega)]
      have e3:((x/9223372036854775808*9223372036854775808+q*4503599627370496+(x%4503599627370496+4503599627370496):Nat):Int)-4503599627370496=((x/9223372036854775808*9223372036854775808+q*4503599627370496+x%4503599627370496:Nat):Int):=by omega
      rw [e3,BE (by show _<18446744073709551616;omega),aa]
      exact aE (by rw [ag];omega) (bY (decide_eq_false (by omega)) (cV (decide_eq_true (by omega)) (aS rfl)))
def shY(x:Nat)(p:Int) :Nat:=bif Nat.beq (HB x) 0 then x else shX x p
theorem aly{a:Nat}(h:a≠0) :Nat.beq a 0=false:=by cases q:Nat.beq a 0 with | false=>rfl | true=>exact absurd (Nat.eq_of_beq_eq_true q) h
theorem amW{x:Nat}{p:Int}(hx:x<vh)(h:HB x=0∨2805742567851819008≤HB x∧HB x≤6408622269748215808)(hp : -401≤p∧p≤401) :mz x p=some (.r0 (shY x p)):=by
  unfold shY
  by_cases h0:HB x=0
  · rw [h0]
    exact bT (bU (cV (aqA hx h0) rfl))
  · rw [aly h0]
    exact aoZ hx (by rw [exW];omega) hp
theorem amX{x:Nat}{p:Int}(hx:x<vh)(h:HB x=0∨2805742567851819008≤HB x∧HB x≤6408622269748215808)(hp : -401≤p∧p≤401) :lq x p=some (.r0 (shY x p)):=by
  have hx':x<18446744073709551616:=hx
  unfold shY
  by_cases h0:HB x=0
  · rw [h0]
    have h0':x%9223372036854775808=0:=h0
    have hf:fin x=true:=OF (by omega)
    have p1:(2^min (Int.toNat (1:Int)) IntKind.u64.bits:Int)=((2:Nat):Int):=by decide
    have w2:IntKind.u64.wrap ((x:Int)*((2:Nat):Int))=((x*2%18446744073709551616:Nat):Int):=by
      simp only [IntKind.wrap,IntKind.signed,IntKind.bits]
      simp
      try omega
    refine bT (bU ?_)
    unfold qX
    rw [akn,hf,Gg hf,p1,w2]
    exact Mh (aS (aS (aS (cu (aS (cV (by rw [beq_iff_eq];omega) rfl))))))
  · rw [aly h0]
    exact ao0 hx (by rw [exW];omega) hp
def G4(A:List Nat)(p:Int) :List Nat:=pushF (fun i=>shY (A.getD i 0) p) A.length
theorem EA{A:List Nat}{p:Int} :(G4 A p).length=A.length:=pushF_len
theorem pushF_getD{f:Nat→Nat}{d:Nat} :∀ {n i:Nat},i<n→(pushF f n).getD i d=f i
  | 0,_,h=>by omega
  | n+1,i,h=>by
    rw [pushF]
    rcases Nat.lt_or_ge i n with q | q
    · have ih:=pushF_getD (f:=f) (d:=d) q
      rw [List.getD_eq_getElem?_getD] at ih ⊢
      rw [List.getElem?_append_left (by rw [pushF_len];exact q)]
      exact ih
    · have:i=n:=by omega
      subst this
      rw [List.getD_eq_getElem?_getD,List.getElem?_append_right (by rw [pushF_len];omega),pushF_len,Nat.sub_self];rfl
theorem ap6{x:Nat}{p:Int}(hx:x<vh)(h:HB x=0∨2805742567851819008≤HB x∧HB x≤6408622269748215808)(hp : -401≤p∧p≤401) :shY x p<vh∧fin (shY x p)=true:=by
  unfold shY
  by_cases h0:HB x=0
  · rw [h0]
    have h0':x%9223372036854775808=0:=h0
    show x<vh∧fin x=true
    exact ⟨hx,OF (by omega)⟩
  · rw [aly h0]
    obtain ⟨a,b⟩:=aoY hx (by rw [exW];omega) hp
    have:623≤ex x∧ex x≤1423:=by rw [exW];omega
    exact ⟨b,Gi (by show ex (shX x p)≤2046;omega)⟩
theorem amY{A:List Nat}{p:Int}(h:Rg A)(hp : -401≤p∧p≤401){i:Nat}(hi:i<(G4 A p).length) :(G4 A p).getD i 0<vh∧fin ((G4 A p).getD i 0)=true:=by
  rw [EA] at hi
  unfold G4
  rw [pushF_getD hi]
  exact ap6 (h i hi).1 (h i hi).2 hp
theorem arS{p:Int}(hp : -401≤p∧p≤401) :abo (-5000) (Yp p 5000)=p:=by
  unfold abo Yp
  repeat' split
  all_goals first | omega | (simp_all;omega)
theorem ahA{A:List Nat}{r c:Nat}{p:Int}(h:Rg A)(hA:A.length=r*c)(hr:r≤512)(hc:c≤512)(hp : -401≤p∧p≤401) :iT (r:Int) (c:Int) A p=some (.r0 0 r c A.length A.length (G4 A p)):=by
  have hL:r*c≤512*512:=Nat.mul_le_mul hr hc
  refine bT (aA (a:=false) ?_ (aA (a:=0) ?_ (aA (a:=()) (cu rfl) (aA (a:=(A.length,A.length,G4 A p)) (bH (fun j=>(j,j,j,pushF (fun i=>shY (A.getD i 0) p) j)) A.length rfl (fun j hj=>?_) (bU (bY (by simp only [ag,au,aw,aj,ah,ae,ak,am,decide_eq_true_eq,decide_eq_false_iff_not,beq_iff_eq,beq_eq_false_iff_ne,bne_iff_ne,bne_eq_false_iff_eq,Bool.not_eq_true',Bool.not_eq_false',List.length_set,ne_eq,ge_iff_le,gt_iff_lt,ac,aa,ap];omega) rfl))) rfl))))
  · unfold GB
    rw [Gj hr hc]
    exact jl (aS (cu (bY (decide_eq_false (by omega)) (by rw [decide_eq_false (by omega)];rfl))))
  · unfold GC
    rw [dg,Gj hr hc,abc hA hr hc,abd (by omega) (fun i hi=>h.fin hi)]
    exact cu (jl (aS (cu (jl (aS (cu (jl (aS (cu rfl)))))))))
  · refine aA (a:=(j+1,pushF (fun i=>shY (A.getD i 0) p) (j+1))) ?_ (aE (by simp only [ag,au,aw,aj,ah,ae,ak,am,decide_eq_true_eq,decide_eq_false_iff_not,beq_iff_eq,beq_eq_false_iff_ne,bne_iff_ne,bne_eq_false_iff_eq,Bool.not_eq_true',Bool.not_eq_false',List.length_set,ne_eq,ge_iff_le,gt_iff_lt,ac,aa,ap];omega) rfl)
    show (yP _ _ _ _ _ _).run=_
    unfold yP
    rw [arS hp,amW (h j hj).1 (h j hj).2 hp]
    simp only [ng]
    rw [rZ (f:=fun i=>shY (A.getD i 0) p)]
    exact cV (by simp only [ag,au,aw,aj,ah,ae,ak,am,decide_eq_true_eq,decide_eq_false_iff_not,beq_iff_eq,beq_eq_false_iff_ne,bne_iff_ne,bne_eq_false_iff_eq,Bool.not_eq_true',Bool.not_eq_false',List.length_set,ne_eq,ge_iff_le,gt_iff_lt,ac,aa,ap];omega) (aE (by simp only [ag,au,aw,aj,ah,ae,ak,am,decide_eq_true_eq,decide_eq_false_iff_not,beq_iff_eq,beq_eq_false_iff_ne,bne_iff_ne,bne_eq_false_iff_eq,Bool.not_eq_true',Bool.not_eq_false',List.length_set,ne_eq,ge_iff_le,gt_iff_lt,ac,aa,ap];omega) (aE (by simp only [ag,au,aw,aj,ah,ae,ak,am,decide_eq_true_eq,decide_eq_false_iff_not,beq_iff_eq,beq_eq_false_iff_ne,bne_iff_ne,bne_eq_false_iff_eq,Bool.not_eq_true',Bool.not_eq_false',List.length_set,ne_eq,ge_iff_le,gt_iff_lt,ac,aa,ap];omega) (aS (aE (by simp only [ag,au,aw,aj,ah,ae,ak,am,decide_eq_true_eq,decide_eq_false_iff_not,beq_iff_eq,beq_eq_false_iff_ne,bne_iff_ne,bne_eq_false_iff_eq,Bool.not_eq_true',Bool.not_eq_false',List.length_set,ne_eq,ge_iff_le,gt_iff_lt,ac,aa,ap];omega) (aE (by simp only [ag,au,aw,aj,ah,ae,ak,am,decide_eq_true_eq,decide_eq_false_iff_not,beq_iff_eq,beq_eq_false_iff_ne,bne_iff_ne,bne_eq_false_iff_eq,Bool.not_eq_true',Bool.not_eq_false',List.length_set,ne_eq,ge_iff_le,gt_iff_lt,ac,aa,ap];omega) (aS (aE (by rw [ah,pushF_len];omega) rfl)))))))
theorem OH{A:List Nat}{r c p:Int}(h:Rg A)(hn:A.length≤1000000)(hp : -401≤p∧p≤401) :be r c A p=some (.r0 r c A.length A.length (G4 A p)):=by
  refine bT (aA (a:=()) rfl (aA (a:=(A.length,A.length,G4 A p)) (bH (fun j=>(j,j,j,pushF (fun i=>shY (A.getD i 0) p) j)) A.length rfl (fun j hj=>?_) (bU (bY (by simp only [ag,au,aw,aj,ah,ae,ak,am,decide_eq_true_eq,decide_eq_false_iff_not,beq_iff_eq,beq_eq_false_iff_ne,bne_iff_ne,bne_eq_false_iff_eq,Bool.not_eq_true',Bool.not_eq_false',List.length_set,ne_eq,ge_iff_le,gt_iff_lt,ac,aa,ap];omega) rfl))) rfl))
  refine aA (a:=(j+1,pushF (fun i=>shY (A.getD i 0) p) (j+1))) ?_ (aE (by simp only [ag,au,aw,aj,ah,ae,ak,am,decide_eq_true_eq,decide_eq_false_iff_not,beq_iff_eq,beq_eq_false_iff_ne,bne_iff_ne,bne_eq_false_iff_eq,Bool.not_eq_true',Bool.not_eq_false',List.length_set,ne_eq,ge_iff_le,gt_iff_lt,ac,aa,ap];omega) rfl)
  show (ws _ _ _ _ _ _).run=_
  unfold ws
  rw [amX (h j hj).1 (h j hj).2 hp]
  simp only [lR]
  rw [rZ (f:=fun i=>shY (A.getD i 0) p)]
  exact cV (by simp only [ag,au,aw,aj,ah,ae,ak,am,decide_eq_true_eq,decide_eq_false_iff_not,beq_iff_eq,beq_eq_false_iff_ne,bne_iff_ne,bne_eq_false_iff_eq,Bool.not_eq_true',Bool.not_eq_false',List.length_set,ne_eq,ge_iff_le,gt_iff_lt,ac,aa,ap];omega) (aE (by simp only [ag,au,aw,aj,ah,ae,ak,am,decide_eq_true_eq,decide_eq_false_iff_not,beq_iff_eq,beq_eq_false_iff_ne,bne_iff_ne,bne_eq_false_iff_eq,Bool.not_eq_true',Bool.not_eq_false',List.length_set,ne_eq,ge_iff_le,gt_iff_lt,ac,aa,ap];omega) (aE (by simp only [ag,au,aw,aj,ah,ae,ak,am,decide_eq_true_eq,decide_eq_false_iff_not,beq_iff_eq,beq_eq_false_iff_ne,bne_iff_ne,bne_eq_false_iff_eq,Bool.not_eq_true',Bool.not_eq_false',List.length_set,ne_eq,ge_iff_le,gt_iff_lt,ac,aa,ap];omega) (aS (aE (by simp only [ag,au,aw,aj,ah,ae,ak,am,decide_eq_true_eq,decide_eq_false_iff_not,beq_iff_eq,beq_eq_false_iff_ne,bne_iff_ne,bne_eq_false_iff_eq,Bool.not_eq_true',Bool.not_eq_false',List.length_set,ne_eq,ge_iff_le,gt_iff_lt,ac,aa,ap];omega) (aE (by simp only [ag,au,aw,aj,ah,ae,ak,am,decide_eq_true_eq,decide_eq_false_iff_not,beq_iff_eq,beq_eq_false_iff_ne,bne_iff_ne,bne_eq_false_iff_eq,Bool.not_eq_true',Bool.not_eq_false',List.length_set,ne_eq,ge_iff_le,gt_iff_lt,ac,aa,ap];omega) (aS (aE (by rw [ah,pushF_len];omega) rfl)))))))
theorem akr(w:Int) :∃ k,nF w=some (.r0 k):=by
  unfold nF I5
  cases h1:(cL .and .u64 (Int.fdiv w (2^(min (Int.toNat (52:Int)) (IntKind.u64.bits)))) (2047:Int))==(2047:Int) with
  | true =>
    cases h2:(cL .and .u64 w (4503599627370495:Int))==(0:Int) with
    | true=>exact ⟨4,bT (aS (dS (dS rfl)))⟩
    | false=>exact ⟨5,bT (aS (dS (cu rfl)))⟩
  | false =>
    cases h2:decide ((cL .and .u64 (Int.fdiv w (2^(min (Int.toNat (52:Int)) (IntKind.u64.bits)))) (2047:Int))>(0:Int)) with
    | true=>exact ⟨3,bT (aS (cu (dS rfl)))⟩
    | false =>
      cases h3:decide ((cL .and .u64 w (4503599627370495:Int))>(0:Int)) with
      | true=>exact ⟨2,bT (aS (cu (cu (dS rfl))))⟩
      | false=>exact ⟨1,bT (aS (cu (cu (cu rfl))))⟩
theorem ao1(w:Int) :∃ y,jY w=some (.r0 y):=by
  obtain ⟨k,hk⟩:=akr w
  have h3:(Gd w).run=some (.inl ((k:Int)==5)):=by
    unfold Gd
    rw [hk]
    exact aS rfl
  cases hq:((k:Int)==5) with
  | true=>rw [hq] at h3;exact ⟨_,bT (aA h3 (dS rfl))⟩
  | false=>rw [hq] at h3;exact ⟨_,bT (aA h3 (cu rfl))⟩
theorem abg{l:List Nat}(hn:l.length≤1000000) :gd l l=some (.r0 true):=by
  refine bT (aA (a:=()) (bY (by simp) rfl) (aA (a:=()) (bH (fun j=>j) l.length rfl (fun j hj=>?_) (bU (bY (by simp only [ag,au,aw,aj,ah,ae,ak,am,decide_eq_true_eq,decide_eq_false_iff_not,beq_iff_eq,beq_eq_false_iff_ne,bne_iff_ne,bne_eq_false_iff_eq,Bool.not_eq_true',Bool.not_eq_false',List.length_set,ne_eq,ge_iff_le,gt_iff_lt,ac,aa,ap];omega) rfl))) rfl))
  refine aA (a:=()) ?_ (aE (by simp only [ag,au,aw,aj,ah,ae,ak,am,decide_eq_true_eq,decide_eq_false_iff_not,beq_iff_eq,beq_eq_false_iff_ne,bne_iff_ne,bne_eq_false_iff_eq,Bool.not_eq_true',Bool.not_eq_false',List.length_set,ne_eq,ge_iff_le,gt_iff_lt,ac,aa,ap];omega) rfl)
  unfold yl
  obtain ⟨y,hy⟩:=ao1 ((l.getD j 0:Nat):Int)
  rw [hy]
  refine cV (by simp only [ag,au,aw,aj,ah,ae,ak,am,decide_eq_true_eq,decide_eq_false_iff_not,beq_iff_eq,beq_eq_false_iff_ne,bne_iff_ne,bne_eq_false_iff_eq,Bool.not_eq_true',Bool.not_eq_false',List.length_set,ne_eq,ge_iff_le,gt_iff_lt,ac,aa,ap];omega) (aE (by simp only [ag,au,aw,aj,ah,ae,ak,am,decide_eq_true_eq,decide_eq_false_iff_not,beq_iff_eq,beq_eq_false_iff_ne,bne_iff_ne,bne_eq_false_iff_eq,Bool.not_eq_true',Bool.not_eq_false',List.length_set,ne_eq,ge_iff_le,gt_iff_lt,ac,aa,ap];omega) (aE (by simp only [ag,au,aw,aj,ah,ae,ak,am,decide_eq_true_eq,decide_eq_false_iff_not,beq_iff_eq,beq_eq_false_iff_ne,bne_iff_ne,bne_eq_false_iff_eq,Bool.not_eq_true',Bool.not_eq_false',List.length_set,ne_eq,ge_iff_le,gt_iff_lt,ac,aa,ap];omega) ?_))
  cases hx:isNaN (l.getD j 0) with
  | false=>exact Mh (aS (aS (aE (by simp only [ag,au,aw,aj,ah,ae,ak,am,decide_eq_true_eq,decide_eq_false_iff_not,beq_iff_eq,beq_eq_false_iff_ne,bne_iff_ne,bne_eq_false_iff_eq,Bool.not_eq_true',Bool.not_eq_false',List.length_set,ne_eq,ge_iff_le,gt_iff_lt,ac,aa,ap];omega) (aE (by simp only [ag,au,aw,aj,ah,ae,ak,am,decide_eq_true_eq,decide_eq_false_iff_not,beq_iff_eq,beq_eq_false_iff_ne,bne_iff_ne,bne_eq_false_iff_eq,Bool.not_eq_true',Bool.not_eq_false',List.length_set,ne_eq,ge_iff_le,gt_iff_lt,ac,aa,ap];omega) (Mh (aS (aS (bY (by simp) rfl))))))))
  | true=>exact akc (akd rfl) (Mh (aS (aE (by simp only [ag,au,aw,aj,ah,ae,ak,am,decide_eq_true_eq,decide_eq_false_iff_not,beq_iff_eq,beq_eq_false_iff_ne,bne_iff_ne,bne_eq_false_iff_eq,Bool.not_eq_true',Bool.not_eq_false',List.length_set,ne_eq,ge_iff_le,gt_iff_lt,ac,aa,ap];omega) (aE (by simp only [ag,au,aw,aj,ah,ae,ak,am,decide_eq_true_eq,decide_eq_false_iff_not,beq_iff_eq,beq_eq_false_iff_ne,bne_iff_ne,bne_eq_false_iff_eq,Bool.not_eq_true',Bool.not_eq_false',List.length_set,ne_eq,ge_iff_le,gt_iff_lt,ac,aa,ap];omega) (akc (akd rfl) (Mh (aS (cu rfl))))))))
theorem adS{l:List Int}(h:OI l)(hi:inA l) :Rg (wds l):=by
  intro i hl
  rw [fh] at hl
  have e:(wds l).getD i 0=wd l i:=pushF_getD hl
  rw [e]
  refine ⟨ahx h i,?_⟩
  have:=hi i hl
  unfold inR at this
  simp only [Bool.or_eq_true,Bool.and_eq_true,decide_eq_true_eq] at this
  exact this
theorem alz{A:List Nat}(h:Rg A) : -401≤pE (vt A A.length)∧pE (vt A A.length)≤401:=by
  have hm:=Yf h A.length (Nat.le_refl _)
  generalize vt A A.length=m at hm
  rcases hm with z | z
  · subst z;exact ⟨by decide,by decide⟩
  · have:pE m=((m/4503599627370496:Nat):Int)-1022:=by unfold pE;rw [aly (by omega)];rfl
    rw [this];omega
theorem arT{m n:Int}{l:List Int}(h:OI l)(hn:l.length≤1000)(hb : ¬ (Ui m n l.length=true∧Gh l)) :cE m n l=some (.r0 0 1 0 0 0 0 [] []):=by
  refine bT (aA (a:=(1,0,0,0,0,[])) ?_ (bU (dS rfl)))
  unfold kX
  rw [dg,apT h hn hb]
  exact jl (aS rfl)
theorem arU{m n:Int}{l:List Int}(h:OI l)(hn:l.length≤1000)(hb:Ui m n l.length=true)(hf:Gh l)(hi : ¬ inA l) :cE m n l=some (.r0 0 2 0 0 0 0 [] []):=by
  refine bT (aA (a:=(2,0,0,0,0,[])) ?_ (bU (dS rfl)))
  unfold kX
  rw [dg,apU h hn hb hf hi]
  exact jl (aS rfl)
section
theorem s9{r c:Nat}{l:List Int}(h:OI l)(hn:l.length≤1000)(hr:r≤512)(hc:c≤512)(hl:l.length=r*c)(hf:Gh l)(hi:inA l) :(kX (r:Int) (c:Int) l).run=some (.inl (0,(r:Int),(c:Int),l.length,l.length,wds l)):=by
  have hb:Ui (r:Int) (c:Int) l.length=true:=by
    unfold Ui
    rw [decide_eq_true (by omega:(0:Int)≤r),decide_eq_true (by omega:(r:Int)≤512),decide_eq_true (by omega:(0:Int)≤c),decide_eq_true (by omega:(c:Int)≤512),hl,Int.natCast_mul,beq_self_eq_true];rfl
  unfold kX
  rw [dg,apV h hn hb hf hi]
  exact jl (aS rfl)
theorem s10{r c:Nat}{l:List Int}(h:OI l)(hn:l.length≤1000)(hr:r≤512)(hc:c≤512)(hl:l.length=r*c)(hf:Gh l)(hi:inA l) :(rP 0 (r:Int) (c:Int) l.length (wds l)).run=some (.inl (pE (vt (wds l) l.length),(r:Int),(c:Int),l.length,l.length,G4 (wds l) (0-pE (vt (wds l) l.length)))):=by
  have hg:=adS h hi
  have hp:=alz hg
  have h1:=amV hg (fh.trans hl) hr hc
  rw [fh] at h1 hp
  have h2:=ahA (p:=0-pE (vt (wds l) l.length)) hg (fh.trans hl) hr hc (by omega)
  rw [fh] at h2
  unfold rP
  rw [gu fh,h1]
  simp only [dJ]
  rw [h2]
  exact cu (aE (OD fh) (aS (aE (by rw [ag];omega) (aE (OD fh) (aS rfl)))))
end
end Go.Plb.Seat
namespace Go.Plb.Seat
open Go Go.Plb
set_option linter.unusedSimpArgs false
set_option linter.unusedVariables false
theorem arj{α α' β X:Type}{m:Option ((α⊕α')⊕X)}{f:α→Option (β⊕X)}{g:α'→Option (β⊕X)}{v:α}{x:Option (β⊕X)}(h:m=some (.inl (.inl v)))(q:f v=x) :aL m (Sum.elim f g)=x:=by subst h;exact q
def aks(l:List Int) :Int:=pE (vt (wds l) l.length)
def HC(l:List Int) :List Nat:=G4 (wds l) (0-aks l)
theorem ve{l:List Int} :(HC l).length=l.length:=EA.trans fh
theorem ahB{A:List Nat}{i:Nat}(h:A.length≤i) :A.getD i 0=0:=by
  rw [List.getD_eq_getElem?_getD,List.getElem?_eq_none h];rfl
theorem Yg{l:List Int}(h:OI l)(hi:inA l)(i:Nat) :(HC l).getD i 0<vh∧fin ((HC l).getD i 0)=true:=by
  have hg:=adS h hi
  have hp:=alz hg
  rw [fh] at hp
  rcases Nat.lt_or_ge i (HC l).length with q | q
  · exact amY hg (by unfold aks;omega) q
  · rw [ahB q];exact ⟨by decide,by decide⟩
def Mj(l:List Int)(r c:Nat) :List Nat:=Go.Plb.pushF (tv (HC l) r c) (c*r)
theorem BF{l:List Int}{r c:Nat} :(Mj l r c).length=c*r:=Go.Plb.pushF_len
theorem ahC{l:List Int}(h:OI l)(hi:inA l){r c:Nat}(i:Nat) :(Mj l r c).getD i 0<vh∧fin ((Mj l r c).getD i 0)=true:=by
  rcases Nat.lt_or_ge i (c*r) with q | q
  · have e:(Mj l r c).getD i 0=tv (HC l) r c i:=Go.Plb.pushF_getD q
    rw [e];exact Yg h hi _
  · rw [ahB (by rw [BF];exact q)];exact ⟨by decide,by decide⟩
section
theorem ao2{r c:Nat}{l:List Int}(h:OI l)(hn:l.length≤1000)(hr:r≤512)(hc:c≤512)(hl:l.length=r*c)(hf:Gh l)(hi:inA l)(hcr:c≤r) :cE (r:Int) (c:Int) l=some (.r0 (aks l) 0 c c (eN c c) (eN c c) (pushF (dE (HC l) r c) c) (pushF (eE (HC l) r c) (eN c c))):=by
  have hb:=ahw (xs:=HC l) (ve.trans hl) hr hc hcr (fun i=>(Yg h hi i).1) (fun i _=>(Yg h hi i).2)
  refine bT (aA (s9 h hn hr hc hl hf hi) (aA (s10 h hn hr hc hl hf hi) (aA (a:=false) (bY (decide_eq_false (by omega)) rfl) (aoI (v:=()) (cu rfl) (aA (a:=(c,c,eN c c,eN c c,pushF (dE (HC l) r c) c,pushF (eE (HC l) r c) (eN c c))) ?_ rfl)))))
  show (rS (r:Int) (c:Int) l.length (HC l)).run=_
  unfold rS
  rw [gu ve,hb]
  exact aE (OD ve) (aS rfl)
theorem ao3{r c:Nat}{l:List Int}(h:OI l)(hn:l.length≤1000)(hr:r≤512)(hc:c≤512)(hl:l.length=r*c)(hf:Gh l)(hi:inA l)(hcr:r<c) :cE (r:Int) (c:Int) l=some (.r0 (aks l) 0 r r (eN r r) (eN r r) (pushF (dE (Mj l r c) c r) r) (pushF (eE (Mj l r c) c r) (eN r r))):=by
  have hb:=ahw (xs:=Mj l r c) (r:=c) (c:=r) BF hc hr (by omega) (fun i=>(ahC h hi i).1) (fun i _=>(ahC h hi i).2)
  have ht:=ahl (A:=HC l) (r:=r) (c:=c) (ve.trans hl) hr hc
  have h12:(rQ (r:Int) (c:Int) l.length (HC l) true).run=some (.inl (.inl ((c:Int),(r:Int),Mj l r c,c*r))):=by
    unfold rQ
    rw [gu ve,ht]
    exact dS (aE (OD ve) (aS rfl))
  refine bT (aA (s9 h hn hr hc hl hf hi) (aA (s10 h hn hr hc hl hf hi) (aA (a:=true) (cV (decide_eq_true (by omega)) rfl) (arj h12 (aA (a:=(r,r,eN r r,eN r r,pushF (dE (Mj l r c) c r) r,pushF (eE (Mj l r c) c r) (eN r r))) ?_ rfl)))))
  show (rR (c:Int) (r:Int) (Mj l r c) (c*r)).run=_
  unfold rR
  rw [gu BF,hb]
  exact aE (OD BF) (aS rfl)
end
end Go.Plb.Seat
namespace Go.Plb.Seat
open Go Go.Plb
set_option linter.unusedSimpArgs false
set_option linter.unusedVariables false
section
theorem ap7{r c:Nat}{l:List Int}(h:OI l)(hn:l.length≤1000)(hr:r≤512)(hc:c≤512)(hl:l.length=r*c)(hf:Gh l)(hi:inA l)(hcr:c≤r){p:Int}{k a b:Nat} :(gq (r:Int) (c:Int) l p k a b 0).run=some (.inl (aks l,(r:Int),(c:Int),l.length,l.length,HC l)):=by
  have hg:=adS h hi
  have hp:=alz hg
  have h1:=abe hg (by rw [fh];omega)
  rw [fh] at h1 hp
  have h2:=OH (r:=(r:Int)) (c:=(c:Int)) (p:=0-pE (vt (wds l) l.length)) hg (by rw [fh];omega) (by omega)
  rw [fh] at h2
  unfold gq
  rw [dg,RT hn]
  simp only [aN,aO,ax,ay]
  rw [gu fh,h1]
  simp only [aP]
  rw [h2]
  exact cu (jl (aS (aE (OD fh) (aS (aE (by rw [ag];omega) (aE (OD fh) (aS (bY (decide_eq_false (by omega)) rfl))))))))
theorem ap8{r c:Nat}{l:List Int}(h:OI l)(hn:l.length≤1000)(hr:r≤512)(hc:c≤512)(hl:l.length=r*c)(hf:Gh l)(hi:inA l)(hcr:r<c){p:Int}{k a b:Nat} :∃ q,(gq (r:Int) (c:Int) l p k a b 0).run=some (.inl (aks l,(c:Int),(r:Int),c*r,q,Mj l r c)):=by
  have hg:=adS h hi
  have hp:=alz hg
  have h1:=abe hg (by rw [fh];omega)
  rw [fh] at h1 hp
  have h2:=OH (r:=(r:Int)) (c:=(c:Int)) (p:=0-pE (vt (wds l) l.length)) hg (by rw [fh];omega) (by omega)
  rw [fh] at h2
  have h3:=adM (A:=G4 (wds l) (0-pE (vt (wds l) l.length))) (r:=r) (c:=c) (EA.trans (fh.trans hl)) hr hc
  unfold gq
  rw [dg,RT hn]
  simp only [aN,aO,ax,ay]
  rw [gu fh,h1]
  simp only [aP]
  rw [h2]
  simp only [dP,dQ,dt,du]
  rw [gu (EA.trans fh),h3]
  exact ⟨_,cu (jl (aS (aE (OD fh) (aS (aE (by rw [ag];omega) (aE (OD fh) (aS (cV (decide_eq_true (by omega)) (aE (OD (EA.trans fh)) (aS rfl))))))))))⟩
end
theorem ahD{p:Int}{a b:Nat}{D E:List Nat}(hD:D.length=a)(hE:E.length=b)(ha:a≤1000)(hb:b≤1000) :(lr p 0 a b D E p a b D E).run=some (.inl true):=by
  unfold lr
  rw [gu hD,gu hE,abg (by omega),abg (by omega)]
  exact dS (cV (by simp) (aE (OD hD) (aE (OD hD) (aS (dS (aE (OD hE) (aE (OD hE) (aS (dS rfl)))))))))
theorem ap9{m n:Int}{l:List Int}(h:OI l) :mK m n l=some (.r0 true):=by
  by_cases hn:l.length≤100
  · have t7:∀ {p:Int} {k a a' b b':Nat} {D E:List Nat},cE m n l=some (.r0 p k a a' b b' D E)→(jy m n l).run=some (.inl (p,k,a,a',b,b',D,E)):=fun q=>by
      unfold jy
      rw [dg,q];exact bY (decide_eq_false (by omega)) (jl (aS rfl))
    have t8:∀ {k:Nat},kY m n l=some (.r0 k)→(lZ m n l).run=some (.inl k):=fun q=>by
      unfold lZ
      rw [dg,q];exact jl (aS rfl)
    by_cases hb:Ui m n l.length=true∧Gh l
    · obtain ⟨hb,hf⟩:=hb
      by_cases hi:inA l
      · obtain ⟨r,c,rfl,rfl,hr,hc,hl⟩:=aoL hb
        have e8:=t8 (apY h (by omega) hb hf hi)
        by_cases hcr:c≤r
        · have e10:(fK (r:Int) (c:Int) l.length (HC l)).run=some (.inl (c,c,eN c c,eN c c,pushF (dE (HC l) r c) c,pushF (eE (HC l) r c) (eN c c))):=by
            unfold fK
            rw [gu ve,aa8 (ve.trans hl) hr hc hcr]
            exact aE (OD ve) (aS rfl)
          exact bT (aA (t7 (ao2 h (by omega) hr hc hl hf hi hcr)) (aA e8 (aA (ap7 h (by omega) hr hc hl hf hi hcr) (aA e10 (aA (ahD pushF_len pushF_len (by omega) (by unfold eN;omega)) rfl)))))
        · obtain ⟨q,e9⟩:=ap8 h (by omega) hr hc hl hf hi (by omega) (p:=aks l) (k:=0) (a:=r) (b:=eN r r)
          have e10:(fK (c:Int) (r:Int) (c*r) (Mj l r c)).run=some (.inl (r,r,eN r r,eN r r,pushF (dE (Mj l r c) c r) r,pushF (eE (Mj l r c) c r) (eN r r))):=by
            unfold fK
            rw [gu BF,aa8 (r:=c) (c:=r) BF hc hr (by omega)]
            exact aE (OD BF) (aS rfl)
          exact bT (aA (t7 (ao3 h (by omega) hr hc hl hf hi (by omega))) (aA e8 (aA e9 (aA e10 (aA (ahD pushF_len pushF_len (by omega) (by unfold eN;omega)) rfl)))))
      · refine bT (aA (t7 (arU h (by omega) hb hf hi)) (aA (t8 (apX h (by omega) hb hf hi)) (bU ?_)))
        exact dS (dS (dS (aS (dS rfl))))
    · refine bT (aA (t7 (arT h (by omega) hb)) (aA (t8 (apW h (by omega) hb)) (bU ?_)))
      exact dS (dS (dS (aS (dS rfl))))
  · refine bT (bU ?_)
    unfold jy
    exact cV (decide_eq_true (by omega)) rfl
end Go.Plb.Seat
namespace Go.Plb.Seat
open Go Go.Plb
theorem Q4(m n:Int)(v:Lv)(l:List Int)(h:OI l) :aB prog mj [] [.int .i64 m,.int .i64 n,.imm v (.ns .u64 l) 1 1 0 l.length] ⟨.bool false true,[]⟩ :=
  sB m n v l (ap9 h)
end Go.Plb.Seat
namespace Go.Proofs.YtcfhbjfbfmlkiaaGreatDoor
open Go.ChangeShapes Go.WideShapes Go.ChangeAt Go.RowKit Go.Plb Go.Plb.Seat
theorem arV{xs:List Int}(h:(FA.ns .u64 xs).has (.ns .u64)) :OI xs:=by
  intro i
  rw [List.getD_eq_getElem?_getD]
  cases e:xs[i]? with
  | none=>exact ⟨by decide,by decide⟩
  | some x =>
    have hx:=h.2.2 x (List.mem_of_getElem? e)
    simp [Lit.wf,IntKind.min,IntKind.max,IntKind.signed,IntKind.bits] at hx
    show 0≤x∧x<18446744073709551616
    omega
end Go.Proofs.YtcfhbjfbfmlkiaaGreatDoor
