/-
  Part 4 of what the claim leans on: an evaluator of the model, proved sound; the contracts of the functions.
-/
import Derived.Lib.Bytealg
import Derived.KernelRfl
import Derived.Test.YtacdcghekbbjiaaDoorA3
namespace Go.Plb.Seat
open Go Go.Plb
set_option linter.unusedSimpArgs false
set_option linter.unusedVariables false
set_option maxRecDepth 100000
def lP(b:UInt8) :Bool:=(decide (48≤b.toNat)&&decide (b.toNat≤57))||(decide (65≤b.toNat)&&decide (b.toNat≤70))
def hv(b:UInt8) :Nat:=if b.toNat≤57 then b.toNat-48 else b.toNat-55
def kW(l:List UInt8) :Nat:=l.foldl (fun a b=>a*16+hv b) 0
theorem oT(b:UInt8) :lP b=true↔(48≤b.toNat∧b.toNat≤57)∨(65≤b.toNat∧b.toNat≤70):=by simp [lP]
theorem Fy{b:UInt8}(h:lP b=true) :hv b<16:=by
  rw [oT] at h
  unfold hv
  split<;>omega
theorem N8(l:List UInt8)(a:Nat) :l.foldl (fun a b=>a*16+hv b) a=a*16^l.length+kW l:=by
  unfold kW
  induction l generalizing a with
  | nil=>simp
  | cons b l ih =>
    rw [List.foldl_cons,List.foldl_cons,ih,ih (0*16+hv b),List.length_cons,Nat.pow_succ,Nat.add_mul,Nat.zero_mul,Nat.zero_add]
    have:a*16*16^l.length=a*(16^l.length*16):=by rw [Nat.mul_assoc,Nat.mul_comm 16]
    omega
theorem vN(a b:List UInt8) :kW (a++b)=kW a*16^b.length+kW b:=by
  rw [kW,List.foldl_append,N8]
  rfl
theorem HP:∀ l:List UInt8,(∀ c∈l,lP c=true)→kW l<16^l.length
  | [],_=>by simp [kW]
  | c::l,h=>by
    have h1:=HP l fun x hx=>h x (List.mem_cons_of_mem _ hx)
    have h2:=Fy (h c (List.mem_cons_self ..))
    have e:kW (c::l)=hv c*16^l.length+kW l:=by
      have:=vN [c] l
      simpa [kW] using this
    rw [e,List.length_cons,Nat.pow_succ]
    have:hv c*16^l.length≤15*16^l.length:=Nat.mul_le_mul_right _ (by omega)
    omega
theorem GT{l:List UInt8}(h:∀ c∈l,lP c=true){j:Nat}{c:UInt8}(hj:l[j]? = some c) :kW l/16^(l.length-1-j)%16=hv c:=by
  have hlt:=(List.getElem?_eq_some_iff.1 hj).1
  have e:l=l.take j++[c]++l.drop (j+1):=by
    have h1:l.take (j+1)=l.take j++[c]:=by rw [List.take_add_one,hj];rfl
    rw [←h1,List.take_append_drop]
  have hd:=HP (l.drop (j+1)) fun x hx=>h x (List.mem_of_mem_drop hx)
  have hl:(l.drop (j+1)).length=l.length-1-j:=by rw [List.length_drop];omega
  rw [hl] at hd
  have e2:kW l=(kW (l.take j)*16+hv c)*16^(l.length-1-j)+kW (l.drop (j+1)):=by
    conv=>lhs;rw [e]
    rw [vN,vN,hl]
    simp [kW]
  rw [e2,Nat.add_comm,Nat.add_mul_div_right _ _ (Nat.pow_pos (by decide)),Nat.div_eq_of_lt hd,Nat.zero_add,Nat.mul_comm,Nat.mul_add_mod]
  exact Nat.mod_eq_of_lt (Fy (h c (List.mem_of_getElem? hj)))
theorem I0(w:Int) :∀ z∈Ax w,∃ b:UInt8,lP b=true∧z=(b.toNat:Int):=by
  intro z hz
  simp only [Ax,List.mem_map,List.mem_range] at hz
  obtain ⟨j,hj,rfl⟩:=hz
  have h:=KE w j
  rw [D1 h]
  refine ⟨UInt8.ofNat (if dg w j<10 then 48+dg w j else 55+dg w j),?_,?_⟩
  · rw [oT]
    split<;>(rw [UInt8.toNat_ofNat'];omega)
  · split<;>(rw [UInt8.toNat_ofNat'];omega)
theorem rD(l:List Int) :(jN l).data.toList=l.map fun n=>UInt8.ofNat n.toNat:=by
  have key:∀ (l:List Int) (r:ByteArray),(l.foldl (fun r n=>r.push (UInt8.ofNat n.toNat)) r).data.toList=r.data.toList++l.map fun n=>UInt8.ofNat n.toNat:=by
    intro l
    induction l with
    | nil=>intro r;simp
    | cons x l ih =>
      intro r
      rw [List.foldl_cons,ih]
      simp [ByteArray.push]
  have:=key l ByteArray.empty
  simpa [jN] using this
theorem sh(w:Int) :∀ c∈(bd w).data.toList,lP c=true:=by
  intro c hc
  rw [bd,rD,List.mem_map] at hc
  obtain ⟨z,hz,rfl⟩:=hc
  obtain ⟨b,hb,rfl⟩:=I0 w z hz
  simpa using hb
theorem LR{b:UInt8}(h:lP b=true) :Ju (b.toNat:Int)=hv b:=by
  rw [oT] at h
  unfold Ju hv
  repeat' split
  all_goals omega
theorem I1{a:Nat}(ha:a*16+15<18446744073709551616){b:UInt8}(h:lP b=true) :Fm (a:Int) (b.toNat:Int)=((a*16+hv b:Nat):Int):=by
  have hb:=Fy h
  unfold Fm
  rw [LR h]
  have w64:∀ n:Nat,n<18446744073709551616→IntKind.u64.wrap (n:Int)=(n:Int):=fun n hn=>by
    show ((n:Int)%18446744073709551616)=_
    omega
  have e1:bits .and .i64 ((hv b:Nat):Int) 15=((hv b:Nat):Int):=by
    have hall:∀ n:Fin 16,bits .and .i64 ((n.val:Nat):Int) 15=((n.val:Nat):Int):=by decide +kernel
    exact hall ⟨hv b,hb⟩
  have e2:((a:Int)*16)=((a*16:Nat):Int):=by omega
  rw [e1,e2,w64 _ (by omega),w64 _ (by omega)]
  show IntKind.u64.wrap ((BitVec.ofInt 64 ((a*16:Nat):Int) ||| BitVec.ofInt 64 ((hv b:Nat):Int)).toNat:Int)=_
  have e3:(BitVec.ofInt 64 ((a*16:Nat):Int) ||| BitVec.ofInt 64 ((hv b:Nat):Int)).toNat=a*16+hv b:=by
    rw [BitVec.toNat_or,BitVec.toNat_ofInt,BitVec.toNat_ofInt]
    have f1:(((a*16:Nat):Int)%((2^64:Nat):Int)).toNat=a*16:=by
      have:((2^64:Nat):Int)=18446744073709551616:=by decide
      rw [this];omega
    have f2:(((hv b:Nat):Int)%((2^64:Nat):Int)).toNat=hv b:=by
      have:((2^64:Nat):Int)=18446744073709551616:=by decide
      rw [this];omega
    rw [f1,f2]
    have:=Nat.two_pow_add_eq_or_of_lt (i:=4) (b:=hv b) (by omega) a
    rw [Nat.mul_comm a 16]
    exact this.symm
  rw [e3]
  exact w64 _ (by omega)
theorem xq(s:ByteArray)(hs:∀ c∈s.data.toList,lP c=true)(h16:s.size≤16) :∀ (f pos:Nat) (a:Nat),s.size≤pos+f→a<16^pos→lH s f pos (a:Int)=(((s.data.toList.drop pos).foldl (fun a b=>a*16+hv b) a:Nat):Int)
  | 0,pos,a,hf,_=>by
    rw [List.drop_of_length_le (by simp only [Array.length_toList];exact hf)]
    rfl
  | f + 1, pos, a, hf, ha => by
    by_cases hp:pos<s.size
    · have hp':pos<s.data.toList.length:=by simpa using hp
      have hc:lP (s[pos]'hp)=true:=hs _ (by simp [ByteArray.getElem_eq_getElem_data])
      have h1:=(oT _).1 hc
      have hdec:=decode_ascii s pos hp (by omega)
      have hlt:a*16+hv (s[pos]'hp)<16^(pos+1):=by
        have:=Fy hc
        rw [Nat.pow_succ]
        omega
      have hbig:a*16+15<18446744073709551616:=by
        have h3:16^(pos+1)≤16^16:=Nat.pow_le_pow_right (by decide) (by omega)
        have h4:(16:Nat)^16=18446744073709551616:=by decide
        rw [Nat.pow_succ] at h3
        omega
      have ih:=xq s hs h16 f (pos+1) (a*16+hv (s[pos]'hp)) (by omega) hlt
      rw [lH,if_pos hp,hdec]
      show lH s f (pos+1) (Fm (a:Int) (((s[pos]'hp).toNat:Nat):Int))=_
      rw [I1 hbig hc,ih,List.drop_eq_getElem_cons hp',List.foldl_cons]
      rfl
    · rw [CC s _ pos _ hp,List.drop_of_length_le (by simp only [Array.length_toList];exact Nat.le_of_not_lt hp)]
      rfl
theorem KU{s:ByteArray}(hs:∀ c∈s.data.toList,lP c=true)(h16:s.size=16) :bd ((kW s.data.toList:Nat):Int)=s:=by
  apply toList_inj
  rw [Lib.toList_data,Lib.toList_data,bd,rD,Ax]
  have hl:s.data.toList.length=16:=by simpa using h16
  apply List.ext_getElem?
  intro j
  by_cases hj:j<16
  · obtain ⟨c,hc⟩:∃ c,s.data.toList[j]? = some c:=⟨_,List.getElem?_eq_getElem (by omega)⟩
    have hx:=hs c (List.mem_of_getElem? hc)
    have hd:=GT hs hc
    rw [hl] at hd
    have hdg:dg ((kW s.data.toList:Nat):Int) j=hv c:=by
      unfold dg
      have e1:(2:Int)^(60-4*j)=((16^(16-1-j):Nat):Int):=by
        have:(60-4*j)=4*(16-1-j):=by omega
        rw [this,Int.pow_mul]
        simp
      rw [e1,Int.fdiv_eq_ediv_of_nonneg _ (Int.natCast_nonneg _),←Int.natCast_ediv,←hd]
      omega
    rw [hc,List.getElem?_map,List.getElem?_map,List.getElem?_range hj]
    show some (UInt8.ofNat (bF mW (dg _ j)).toNat)=some c
    rw [hdg,D1 (Fy hx)]
    congr 1
    have hi:=(oT c).1 hx
    have e2:(if hv c<10 then (48+(hv c:Int)) else 55+(hv c:Int)).toNat=c.toNat:=by
      unfold hv
      split<;>split<;>omega
    rw [e2]
    exact UInt8.ofNat_toNat
  · rw [List.getElem?_eq_none (by simp;omega),List.getElem?_eq_none (by omega)]
theorem Fz(s:ByteArray) :cG s=(decide (s.size=16)&&s.data.toList.all lP):=by
  by_cases h16:s.size=16
  · by_cases hs:∀ c∈s.data.toList,lP c=true
    · have hf:=xq s hs (by omega) s.size 0 0 (by omega) (by decide)
      have ht:=KU hs h16
      unfold cG
      rw [show ((0:Nat):Int)=0 from rfl] at hf
      rw [hf,List.drop_zero]
      rw [show (s.data.toList.foldl (fun a b=>a*16+hv b) 0)=kW s.data.toList from rfl,ht,decide_eq_true h16,decide_eq_true rfl,List.all_eq_true.2 hs]
    · have hn : ¬ bd (lH s s.size 0 0)=s:=fun e=>hs (e ▸ sh _)
      unfold cG
      rw [decide_eq_false hn,Bool.and_false]
      have:s.data.toList.all lP=false:=by
        cases hq:s.data.toList.all lP with
        | false=>rfl
        | true=>exact absurd (List.all_eq_true.1 hq) hs
      rw [this,Bool.and_false]
  · unfold cG
    rw [decide_eq_false h16]
    rfl
theorem A0{s:ByteArray}(h:cG s=true) :fE s=(kW s.data.toList:Nat):=by
  have h1:=h
  rw [Fz,Bool.and_eq_true,List.all_eq_true] at h1
  have h16:=of_decide_eq_true h1.1
  have hf:=xq s h1.2 (by omega) s.size 0 0 (by omega) (by decide)
  rw [show ((0:Nat):Int)=0 from rfl,List.drop_zero] at hf
  rw [fE,h]
  exact hf
end Go.Plb.Seat
namespace Go.Plb
set_option linter.unusedSimpArgs false
set_option linter.unusedVariables false
def aH:List UInt8→List (List UInt8)
  | []=>[[]]
  | c::r=>if c=32 then []::aH r else (c::(aH r).headD [])::(aH r).tail
theorem CG(r:List UInt8) :aH ((32:UInt8)::r)=[]::aH r:=by rw [aH];simp
theorem vO{b:UInt8}(h:b≠32)(r:List UInt8) :aH (b::r)=(b::(aH r).headD [])::(aH r).tail:=by rw [aH,if_neg h]
theorem I2:∀ l,aH l≠[]
  | []=>by simp [aH]
  | c::r=>by unfold aH;split<;>simp
theorem yc(l:List UInt8) :aH l=(aH l).headD []::(aH l).tail:=by
  have:=I2 l
  cases h:aH l with
  | nil=>exact absurd h this
  | cons a b=>rfl
theorem fI:∀ l:List UInt8,(∀ c∈l,c≠32)→aH l=[l]
  | [],_=>rfl
  | c::r,h=>by
    have h1:=fI r fun x hx=>h x (List.mem_cons_of_mem _ hx)
    rw [vO (h c (List.mem_cons_self ..)),h1]
    rfl
theorem kX:∀ (a b:List UInt8),(∀ c∈a,c≠32)→aH (a++32::b)=a::aH b
  | [],b,_=>by simp [aH]
  | c::a,b,h=>by
    have h1:=kX a b fun x hx=>h x (List.mem_cons_of_mem _ hx)
    rw [List.cons_append,vO (h c (List.mem_cons_self ..)),h1]
    rfl
theorem un:∀ l:List UInt8,Lib.indexByte l 32<0→∀ c∈l,c≠32
  | [],_,c,hc=>by cases hc
  | b::l,h,c,hc=>by
    unfold Lib.indexByte at h
    have hge:=Lib.indexByte_ge l 32
    split at h
    · omega
    · rename_i hb
      split at h
      · rename_i h1
        have h2:Lib.indexByte l 32<0:=by
          have:=eq_of_beq h1
          omega
        rcases List.mem_cons.1 hc with rfl | hc
        · simpa using hb
        · exact un l h2 c hc
      · rename_i h1
        have h2:Lib.indexByte l 32 ≠ -1:=fun e=>h1 (by rw [e];rfl)
        omega
theorem uo:∀ (l:List UInt8) (n:Nat),Lib.indexByte l 32=(n:Int)→n<l.length∧l=l.take n++32::l.drop (n+1)∧∀ c∈l.take n,c≠32
  | [],n,h=>by simp [Lib.indexByte] at h
  | b::l,n,h=>by
    unfold Lib.indexByte at h
    have hge:=Lib.indexByte_ge l 32
    split at h
    · rename_i hb
      have hb:b=32:=eq_of_beq hb
      have:n=0:=by omega
      subst this
      subst hb
      exact ⟨by simp,by simp,fun c hc=>by simp at hc⟩
    · rename_i hb
      split at h
      · omega
      · rename_i h1
        obtain ⟨m,rfl⟩:∃ m,n=m+1:=⟨n-1,by
          have h2:Lib.indexByte l 32 ≠ -1:=fun e=>h1 (by rw [e];rfl)
          omega⟩
        obtain ⟨g1,g2,g3⟩:=uo l m (by omega)
        refine ⟨by simp;omega,?_,fun c hc=>?_⟩
        · rw [List.take_succ_cons,List.drop_succ_cons,List.cons_append,←g2]
        · rw [List.take_succ_cons] at hc
          rcases List.mem_cons.1 hc with rfl | hc
          · simpa using hb
          · exact g3 c hc
theorem yd:∀ (l:List UInt8) (c:UInt8),aH (l++[c])=if c=32 then aH l++[[]] else (aH l).dropLast++[((aH l).getLastD [])++[c]]
  | [],c=>by
    by_cases h:c=32
    · subst h;rfl
    · simp [aH,h]
  | b::l,c=>by
    have ih:=yd l c
    have hl:=yc l
    by_cases hb:b=32
    · subst hb
      have e1:∀ r,aH ((32:UInt8)::r)=[]::aH r:=fun r=>by rw [aH];simp
      rw [List.cons_append,e1,e1,ih]
      by_cases h:c=32
      · rw [if_pos h,if_pos h];rfl
      · rw [if_neg h,if_neg h,hl]
        simp [List.dropLast,List.getLastD]
    · have e1:∀ r,aH (b::r)=(b::(aH r).headD [])::(aH r).tail:=fun r=>by rw [aH,if_neg hb]
      rw [List.cons_append,e1,e1,ih]
      by_cases h:c=32
      · rw [if_pos h,if_pos h,hl]
        simp
      · rw [if_neg h,if_neg h,hl]
        generalize (aH l).headD []=x
        generalize (aH l).tail=y
        cases y with
        | nil=>simp
        | cons z y=>simp [List.dropLast,List.getLastD]
end Go.Plb
namespace Go.Plb.Seat
open Go Go.Plb
set_option linter.unusedSimpArgs false
set_option linter.unusedVariables false
set_option maxRecDepth 100000
def CH(l:List UInt8) :Bool:=decide (l.length=16)&&l.all lP
def gX:List (List UInt8)→Option (List Int)
  | []=>some []
  | w::r=>bif CH w then (gX r).map fun x=>((kW w:Nat):Int)::x else none
theorem kx(s:ByteArray) :cG s=CH s.data.toList:=by
  rw [Fz]
  rfl
theorem di(s:ByteArray)(a b:Nat) :(s.extract a b).data.toList=(s.data.toList.drop a).take (b-a):=by
  rw [ByteArray.data_extract,Array.toList_extract]
theorem vP:∀ (f:Nat) (s:ByteArray) (acc:List Int),s.size<f→wS f s acc=(gX (aH s.data.toList)).map fun x=>acc++x
  | 0,s,acc,h=>by omega
  | f + 1, s, acc, h => by
    unfold wS
    have hge:=Lib.indexByte_ge s.data.toList 32
    by_cases hneg:Lib.indexByte s.data.toList 32<0
    · rw [if_pos hneg,fI _ (un _ hneg)]
      cases hr:cG s with
      | true =>
        have h1:=A0 hr
        rw [kx] at hr
        simp only [gX,hr,cond_true,if_true,Option.map_some,h1]
      | false =>
        rw [kx] at hr
        simp [gX,hr]
    · obtain ⟨n,hn⟩:=Int.eq_ofNat_of_zero_le (Int.not_lt.1 hneg)
      rw [if_neg hneg]
      simp only [hn,Int.toNat_natCast]
      obtain ⟨g1,g2,g3⟩:=uo _ n hn
      have hx:(s.extract 0 n).data.toList=s.data.toList.take n:=by rw [di];simp
      have hy:(s.extract (n+1) s.size).data.toList=s.data.toList.drop (n+1):=by
        rw [di]
        apply List.take_of_length_le
        rw [List.length_drop,Array.length_toList]
        exact Nat.le_refl _
      have hs:aH s.data.toList=s.data.toList.take n::aH (s.data.toList.drop (n+1)):=by
        conv=>lhs;rw [g2]
        exact kX _ _ g3
      show (if cG (s.extract 0 n)=true then _ else none)=_
      have hsz:(s.extract (n+1) s.size).size<f:=by
        have:s.data.toList.length=s.size:=by simp
        simp
        omega
      rw [hs]
      cases hr:cG (s.extract 0 n) with
      | true =>
        have h1:=A0 hr
        have h2:=hr
        rw [kx,hx] at h2
        rw [if_pos rfl,vP f _ _ hsz,hy,h1,hx]
        simp only [gX,h2,cond_true,Option.map_map]
        congr 1
        funext x
        simp
      | false =>
        have h2:=hr
        rw [kx,hx] at h2
        simp [gX,h2]
theorem vQ(s:ByteArray) :mX s=gX (aH s.data.toList):=by
  unfold mX
  rw [vP _ _ _ (by omega)]
  cases gX (aH s.data.toList)<;>simp
def A1(s:ByteArray) :Nat→Nat×List ByteArray
  | 0=>(0,[])
  | j+1=>if j=s.size∨bF s j=32 then (j+1,(A1 s j).2++[s.extract (A1 s j).1 j]) else A1 s j
def aD(s:ByteArray) :List ByteArray:=(A1 s (s.size+1)).2
theorem GU(s:ByteArray) :∀ j,(A1 s j).1≤j∧(A1 s j).2.length≤j
  | 0=>⟨Nat.le_refl _,Nat.le_refl _⟩
  | j+1=>by
    have:=GU s j
    unfold A1
    split
    · exact ⟨Nat.le_refl _,by simp;omega⟩
    · exact ⟨by omega,by omega⟩
theorem CI(s:ByteArray) :∀ j,j≤s.size→aH (s.data.toList.take j)=(A1 s j).2.map (fun x=>x.data.toList)++[(s.data.toList.drop (A1 s j).1).take (j-(A1 s j).1)]
  | 0,_=>by simp [aH,A1]
  | j + 1, h => by
    have ih:=CI s j (by omega)
    have hw:=GU s j
    have hl:j<s.data.toList.length:=by simp;omega
    obtain ⟨b,hb⟩:∃ b,s.data.toList[j]? = some b:=⟨_,List.getElem?_eq_getElem hl⟩
    have ht:s.data.toList.take (j+1)=s.data.toList.take j++[b]:=by rw [List.take_add_one,hb];rfl
    have hby:bF s j=(b.toNat:Int):=by
      unfold bF
      rw [←Array.getElem?_toList,hb]
      rfl
    rw [ht,yd,ih]
    by_cases h32:b=32
    · have e1:A1 s (j+1)=(j+1,(A1 s j).2++[s.extract (A1 s j).1 j]):=by rw [A1,if_pos (.inr (by rw [hby,h32];rfl))]
      rw [if_pos h32,e1]
      simp [di]
    · have hne : ¬ (j=s.size∨bF s j=32):=by
        rintro (q | q)
        · omega
        · rw [hby] at q
          exact h32 (UInt8.toNat_inj.1 (by show b.toNat=32;omega))
      have e1:A1 s (j+1)=A1 s j:=by rw [A1,if_neg hne]
      rw [if_neg h32,e1,List.dropLast_concat]
      congr 1
      have e2:j+1-(A1 s j).1=(j-(A1 s j).1)+1:=by omega
      rw [e2,List.take_add_one,List.getElem?_drop]
      rw [show (A1 s j).1+(j-(A1 s j).1)=j by omega,hb]
      simp
theorem nQ(s:ByteArray) :(aD s).map (fun x=>x.data.toList)=aH s.data.toList:=by
  have h:=CI s s.size (Nat.le_refl _)
  rw [List.take_of_length_le (by simp)] at h
  unfold aD
  rw [A1,if_pos (.inl rfl),h]
  simp [di]
def KV(x:ByteArray) :Int:=bif CH x.data.toList then ((kW x.data.toList:Nat):Int) else 0
theorem mJ{a b:ByteArray}(h:a.data.toList=b.data.toList) :a=b:=by
  obtain ⟨a⟩:=a
  obtain ⟨b⟩:=b
  exact congrArg ByteArray.mk (Array.toList_inj.1 h)
theorem dI(a b:ByteArray) :(a.toList==b.toList)=decide (a=b):=by
  rw [Lib.toList_data,Lib.toList_data]
  by_cases h:a=b
  · rw [h,decide_eq_true rfl];simp
  · rw [decide_eq_false h,beq_eq_false_iff_ne]
    exact fun q=>h (mJ q)
theorem LS(s:ByteArray) :EI s 32=Lib.indexByte s.data.toList 32:=Lib.firstIdx_eq s 32
theorem LU(s:ByteArray) :Ik s 32=((s.data.toList.count 32:Nat):Int):=by
  have h:=Lib.count_foldl 32 s.data.toList 0
  rw [Int.zero_add] at h
  rw [←Lib.foldl_data] at h
  exact h
theorem kY:∀ l:List UInt8,(aH l).length=l.count 32+1
  | []=>rfl
  | c::r=>by
    have ih:=kY r
    by_cases h:c=32
    · subst h
      rw [CG,List.length_cons,ih,List.count_cons_self]
    · rw [vO h,List.length_cons,List.length_tail,ih,List.count_cons_of_ne (fun q=>h q)]
      omega
theorem KW(s:ByteArray) :aj s (ByteArray.mk #[32])=some (.r0 (Lib.indexByte s.data.toList 32)):=by
  unfold aj
  refine cN (dK ?_)
  by_cases h:s=ByteArray.mk #[32]
  · subst h
    exact lF (by rw [dI];exact decide_eq_true rfl) rfl
  · refine lG (by rw [dI];exact decide_eq_false fun q=>h q.symm) (bo (bB ?_))
    show some (Sum.inr (aB.r0 (EI s 32)))=_
    rw [LS]
theorem KX(s:ByteArray) :cQ s (ByteArray.mk #[32])=some (.r0 ((s.data.toList.count 32:Nat):Int)):=by
  unfold cQ
  refine cN (dY (dK (bo (bB ?_))))
  show some (Sum.inr (bt.r0 (Ik s 32)))=_
  rw [LU]
def lQ(s:ByteArray) :Nat→ByteArray×List ByteArray
  | 0=>(s,[])
  | j+1=>((lQ s j).1.extract ((Lib.indexByte (lQ s j).1.data.toList 32).toNat+1) (lQ s j).1.size,(lQ s j).2++[(lQ s j).1.extract 0 (Lib.indexByte (lQ s j).1.data.toList 32).toNat])
structure Ou (s:ByteArray) (j:Nat) (p:ByteArray×List ByteArray):Prop where
  rest:aH p.1.data.toList=(aH s.data.toList).drop j
  done:p.2.map (fun x=>x.data.toList)=(aH s.data.toList).take j
  len:p.2.length=j
  size:p.1.size≤s.size
theorem FB{s:ByteArray}{j:Nat}{r:ByteArray}(hr:aH r.data.toList=(aH s.data.toList).drop j)(hj:j<s.data.toList.count 32) :∃ n:Nat,Lib.indexByte r.data.toList 32=(n:Int)∧n<r.size∧r.data.toList=r.data.toList.take n++32::r.data.toList.drop (n+1)∧∀ c∈r.data.toList.take n,c≠32:=by
  have hge:=Lib.indexByte_ge r.data.toList 32
  by_cases hneg:Lib.indexByte r.data.toList 32<0
  · have h1:=fI _ (un _ hneg)
    rw [hr] at h1
    have h2:=congrArg List.length h1
    rw [List.length_drop,kY] at h2
    simp only [List.length_cons,List.length_nil] at h2
    omega
  · obtain ⟨n,hn⟩:=Int.eq_ofNat_of_zero_le (Int.not_lt.1 hneg)
    have hn:Lib.indexByte r.data.toList 32=(n:Int):=hn
    obtain ⟨g1,g2,g3⟩:=uo _ n hn
    exact ⟨n,hn,by simpa using g1,g2,g3⟩
theorem KY(s:ByteArray) :∀ j,j≤s.data.toList.count 32→Ou s j (lQ s j)
  | 0,_=>⟨rfl,rfl,rfl,Nat.le_refl _⟩
  | j+1,h=>by
    have ih:=KY s j (by omega)
    obtain ⟨n,hn,hl,hs,hb⟩:=FB ih.rest (by omega)
    have hsz:(lQ s j).1.data.toList.length=(lQ s j).1.size:=by simp
    have hx:((lQ s j).1.extract 0 n).data.toList=(lQ s j).1.data.toList.take n:=by rw [di];simp
    have hy:((lQ s j).1.extract (n+1) (lQ s j).1.size).data.toList=(lQ s j).1.data.toList.drop (n+1):=by
      rw [di]
      apply List.take_of_length_le
      rw [List.length_drop]
      omega
    have hsp:aH (lQ s j).1.data.toList=(lQ s j).1.data.toList.take n::aH ((lQ s j).1.data.toList.drop (n+1)):=by
      conv=>lhs;rw [hs]
      exact kX _ _ hb
    have hr:=ih.rest
    rw [hsp] at hr
    have hj:j<(aH s.data.toList).length:=by rw [kY];omega
    rw [List.drop_eq_getElem_cons hj] at hr
    injection hr with hr1 hr2
    have e1:(lQ s (j+1)).1=(lQ s j).1.extract (n+1) (lQ s j).1.size:=by rw [lQ,hn];rfl
    have e2:(lQ s (j+1)).2=(lQ s j).2++[(lQ s j).1.extract 0 n]:=by rw [lQ,hn];rfl
    refine ⟨?_,?_,?_,?_⟩
    · rw [e1,hy,hr2]
    · rw [e2,List.map_append,ih.done,List.take_add_one,List.getElem?_eq_getElem hj,List.map_cons,List.map_nil,hx,hr1]
      rfl
    · rw [e2,List.length_append,ih.len];rfl
    · rw [e1]
      have:=ih.size
      simp only [ByteArray.size_extract]
      omega
theorem rE{s:ByteArray}{l:List ByteArray}(h:l.map (fun x=>x.data.toList)=aH s.data.toList) :l=aD s:=by
  rw [←nQ] at h
  exact (List.map_inj_right fun x y q=>mJ q).1 h
theorem oU(s:ByteArray) :(aD s).length=s.data.toList.count 32+1:=by
  have:=congrArg List.length (nQ s)
  rwa [List.length_map,kY] at this
theorem ye(s:ByteArray)(hs:s.size≤1000000000) :aQ s (ByteArray.mk #[32]) 0 (-1)=some (.r0 (aD s).length (aD s).length (aD s)):=by
  have hc:s.data.toList.count 32≤s.size:=by
    have:=List.count_le_length (a:=(32:UInt8)) (l:=s.data.toList)
    simpa using this
  have hw:=oU s
  have hok:=KY s
  generalize s.data.toList.count 32=c at *
  unfold aQ
  have h8:(ia s (ByteArray.mk #[32]) (-1)).run=some (.inl ((c:Int)+1)):=by
    have hC:=KX s
    have:s.data.toList.count 32=c:=by have:=oU s;omega
    rw [this] at hC
    simp only [ia,hC]
    exact dK (lG (by rw [dI];decide) (bo (bB (aC (by rw [bV];show _≤(c:Int)+1∧(c:Int)+1≤_;omega) rfl))))
  have h9:(ib s ((c:Int)+1)).run=some (.inl ((c:Int),c+1,List.replicate (c+1) ByteArray.empty)):=by
    have him:nY ((c:Int)+1) (((s.size+1:Nat)):Int)=((c+1:Nat):Int):=by
      unfold nY
      split<;>omega
    have e1:(((c+1:Nat):Int)-1)=(c:Int):=by omega
    simp only [ib,him,e1,Int.toNat_natCast]
    exact aC (by rw [bV];omega) (aC (decide_eq_true (by omega)) (aC (decide_eq_true (by omega)) (aC (decide_eq_true (by omega)) (aC (by rw [bV];omega) (aC (by rw [bV];omega) rfl)))))
  refine cN (ay h8 (ay h9 (ay (a:=((lQ s c).1,c,(lQ s c).2++List.replicate 1 ByteArray.empty)) (vB (fun j=>((lQ s j).1,j,(lQ s j).2++List.replicate (c+1-j) ByteArray.empty)) c rfl (fun j hj=>?_) ?_) ?_)))
  · have H:=hok j (by omega)
    obtain ⟨n,hn,hl,hsp,hb⟩:=FB H.rest (by have:=oU s;omega)
    have hsz:=H.size
    have hlen:=H.len
    have e1:(lQ s (j+1)).1=(lQ s j).1.extract (n+1) (lQ s j).1.size:=by rw [lQ,hn];rfl
    have e2:(lQ s (j+1)).2=(lQ s j).2++[(lQ s j).1.extract 0 n]:=by rw [lQ,hn];rfl
    have e3:c+1-j=(c+1-(j+1))+1:=by omega
    have e4:List.set ((lQ s j).2++List.replicate (c+1-j) ByteArray.empty) j ((lQ s j).1.extract 0 n)=((lQ s j).2++[(lQ s j).1.extract 0 n])++List.replicate (c+1-(j+1)) ByteArray.empty:=by
      rw [List.set_append_right _ _ (by omega),hlen,Nat.sub_self,e3,List.replicate_succ,List.set_cons_zero]
      simp
    simp only [e1,e2,←e4]
    simp only [dF,lO,KW,hn]
    have n1:((n:Int)+0).toNat=n:=by omega
    have n2:((n:Int)+(((ByteArray.mk #[32]).size:Nat):Int)).toNat=n+1:=by show ((n:Int)+1).toNat=_;omega
    refine lF (decide_eq_true (by omega)) (bB (lG (decide_eq_false ?_) (aC ?_ (aC ?_ (aC ?_ (aC ?_ (aC ?_ (aC ?_ (aC ?_ (aC ?_ (aC ?_ ?_)))))))))))
    · show ¬ (n:Int)<0;omega
    · rw [bV];show _≤(n:Int)+0∧(n:Int)+0≤_;omega
    · rw [mh];show 0≤(n:Int)+0∧(n:Int)+0≤_;omega
    · rw [mh];omega
    · rw [xY];omega
    · rw [mz,List.length_append,List.length_replicate];omega
    · rw [bV];show _≤(n:Int)+1∧(n:Int)+1≤_;omega
    · rw [mh];omega
    · rw [mh];show 0≤(n:Int)+1∧(n:Int)+1≤_;omega
    · rw [bV];omega
    · show some (Sum.inl ((lQ s j).1.extract (((n:Int)+(((ByteArray.mk #[32]).size:Nat):Int)).toNat) (lQ s j).1.size,j+1,List.set ((lQ s j).2++List.replicate (c+1-j) ByteArray.empty) j ((lQ s j).1.extract 0 ((n:Int)+0).toNat)))=_
      rw [n1,n2]
  · rw [show c+1-c=1 by omega]
    exact lG (decide_eq_false (by omega)) rfl
  · have H:=hok c (Nat.le_refl _)
    have hlen:=H.len
    have hcc:s.data.toList.count 32=c:=by have:=oU s;omega
    have h1:aH (lQ s c).1.data.toList=[(lQ s c).1.data.toList]:=by
      apply fI
      intro x hx q
      subst q
      have h2:=congrArg List.length H.rest
      rw [kY,List.length_drop,kY,hcc] at h2
      have:=List.count_pos_iff.2 hx
      omega
    have hf:(lQ s c).2++[(lQ s c).1]=aD s:=by
      apply rE
      rw [List.map_append,H.done,List.map_cons,List.map_nil,←h1,H.rest,List.take_append_drop]
    have e4:List.set ((lQ s c).2++List.replicate 1 ByteArray.empty) c (lQ s c).1=aD s:=by
      rw [List.set_append_right _ _ (by omega),hlen,Nat.sub_self,←hf]
      rfl
    show (fH (c+1) (lQ s c).1 c ((lQ s c).2++List.replicate 1 ByteArray.empty)).run=_
    simp only [fH,e4,hw]
    exact aC (by rw [xY];omega) (aC (by rw [mz,List.length_append,List.length_replicate];omega) (aC (by rw [bV];omega) (aC (by rw [mh];omega) (aC (by rw [mh];omega) rfl))))
theorem MY{n:Nat}(h:n<16) :hv (UInt8.ofNat (bF mW n).toNat)=n:=by
  have hall:∀ i:Fin 16,hv (UInt8.ofNat (bF mW i.val).toNat)=i.val:=by decide +kernel
  exact hall ⟨n,h⟩
theorem uq(w:Int) :(bd w).data.toList=(List.range 16).map fun j=>UInt8.ofNat (bF mW (dg w j)).toNat:=by
  rw [bd,rD,Ax,List.map_map]
  rfl
theorem FC{w:Int}(h1:0≤w)(h2:w<18446744073709551616) :kW (bd w).data.toList=w.toNat:=by
  have key:∀ j,j≤16→kW ((bd w).data.toList.take j)=w.toNat/16^(16-j):=by
    intro j
    induction j with
    | zero =>
      intro _
      have:(16:Nat)^16=18446744073709551616:=by decide
      rw [List.take_zero,Nat.sub_zero,this,Nat.div_eq_of_lt (by omega)]
      rfl
    | succ j ih =>
      intro hj
      have hg:(bd w).data.toList[j]? = some (UInt8.ofNat (bF mW (dg w j)).toNat):=by
        rw [uq];simp [show j<16 by omega]
      have e:(bd w).data.toList.take (j+1)=(bd w).data.toList.take j++[UInt8.ofNat (bF mW (dg w j)).toNat]:=by rw [List.take_add_one,hg];rfl
      rw [e,vN,ih (by omega)]
      have hs:kW [UInt8.ofNat (bF mW (dg w j)).toNat]=dg w j:=by
        have:=MY (KE w j)
        simp [kW,this]
      rw [hs]
      have hd:dg w j=w.toNat/16^(16-(j+1))%16:=by
        unfold dg
        have e1:(2:Int)^(60-4*j)=((16^(16-(j+1)):Nat):Int):=by
          have:(60-4*j)=4*(16-(j+1)):=by omega
          rw [this,Int.pow_mul]
          simp
        obtain ⟨n,rfl⟩:=Int.eq_ofNat_of_zero_le h1
        rw [e1,Int.fdiv_eq_ediv_of_nonneg _ (Int.natCast_nonneg _),←Int.natCast_ediv,Int.toNat_natCast]
        omega
      have hp:16^(16-j)=16^(16-(j+1))*16:=by rw [←Nat.pow_succ];congr 1;omega
      rw [hd,hp,←Nat.div_div_eq_div_mul,List.length_singleton,Nat.pow_one]
      omega
  have:=key 16 (Nat.le_refl _)
  have hl:(bd w).data.toList.length=16:=by rw [uq];simp
  rw [List.take_of_length_le (by omega)] at this
  simpa using this
theorem HQ(w:Int) :CH (bd w).data.toList=true:=by
  have hl:(bd w).data.toList.length=16:=by rw [uq];simp
  unfold CH
  rw [decide_eq_true hl,List.all_eq_true.2 (sh w)]
  rfl
theorem CL{w:Int}(h1:0≤w)(h2:w<18446744073709551616) :KV (bd w)=w:=by
  unfold KV
  rw [HQ,cond_true,FC h1 h2]
  omega
theorem GV(s:ByteArray) :fE s=KV s:=by
  unfold KV
  rw [←kx]
  cases h:cG s with
  | true=>exact A0 h
  | false=>rw [fE,h];rfl
theorem nR{k y t:Int}(h:fg k y t=true) :(k=1∧(y=1∨y=2∨y=3)∧t=0)∨(k=2∧y=0∧t=0)∨(k=3∧(y=1∨y=2)∧t=0)∨(k=4∧(y=1∨y=2))∨(k=5∧(y=1∨y=2))∨(k=6∧(y=1∨y=2)∧t=0):=by
  have g:∀ {a b:Bool},(bif a then b else false)=true→a=true∧b=true:=by intro a b;cases a<;>cases b<;>simp
  have m3:nY 1 ((3:Nat):Int)=1:=by decide
  have m2:nY 1 ((2:Nat):Int)=1:=by decide
  have m0:nY 1 ((0:Nat):Int)=0:=by decide
  unfold fg at h
  obtain ⟨h1,h⟩:=g h
  obtain ⟨h2,h⟩:=g h
  obtain ⟨h3,h⟩:=g h
  have h2:=of_decide_eq_true h2
  have h3:=of_decide_eq_true h3
  by_cases k1:k=1
  · subst k1
    have e:nh 1=(true,ByteArray.mk #[101,105,103,101,110],3,false,true):=rfl
    rw [e] at h h2 h3
    simp only [m3,cond_false,beq_iff_eq] at h h2 h3
    exact .inl ⟨rfl,by omega,h⟩
  by_cases k2:k=2
  · subst k2
    have e:nh 2=(true,ByteArray.mk #[118,97,108,117,101,115],0,false,true):=rfl
    rw [e] at h h2 h3
    simp only [m0,cond_false,beq_iff_eq] at h h2 h3
    exact .inr (.inl ⟨rfl,by omega,h⟩)
  by_cases k3:k=3
  · subst k3
    have e:nh 3=(true,ByteArray.mk #[115,118,100],2,false,false):=rfl
    rw [e] at h h2 h3
    simp only [m2,cond_false,beq_iff_eq] at h h2 h3
    exact .inr (.inr (.inl ⟨rfl,by omega,h⟩))
  by_cases k4:k=4
  · subst k4
    have e:nh 4=(true,ByteArray.mk #[114,97,110,107],2,true,false):=rfl
    rw [e] at h h2 h3
    simp only [m2] at h h2 h3
    exact .inr (.inr (.inr (.inl ⟨rfl,by omega⟩)))
  by_cases k5:k=5
  · subst k5
    have e:nh 5=(true,ByteArray.mk #[105,110,118,101,114,115,101],2,true,false):=rfl
    rw [e] at h h2 h3
    simp only [m2] at h h2 h3
    exact .inr (.inr (.inr (.inr (.inl ⟨rfl,by omega⟩))))
  by_cases k6:k=6
  · subst k6
    have e:nh 6=(true,ByteArray.mk #[99,111,110,100],2,false,false):=rfl
    rw [e] at h h2 h3
    simp only [m2,cond_false,beq_iff_eq] at h h2 h3
    exact .inr (.inr (.inr (.inr (.inr ⟨rfl,by omega,h⟩))))
  simp [nh,k1,k2,k3,k4,k5,k6] at h1
def tp(w:ByteArray) :Nat:=if w=ByteArray.mk #[101,105,103,101,110] then 1 else if w=ByteArray.mk #[118,97,108,117,101,115] then 2 else if w=ByteArray.mk #[115,118,100] then 3 else if w=ByteArray.mk #[114,97,110,107] then 4 else if w=ByteArray.mk #[105,110,118,101,114,115,101] then 5 else if w=ByteArray.mk #[99,111,110,100] then 6 else 0
theorem A2(a b:List UInt8)(ha:∀ c∈a,c≠32)(hb:∀ c∈b,c≠32) :aH (a++32::b)=[a,b]:=by rw [kX _ _ ha,fI _ hb]
theorem D7(a b d:List UInt8)(ha:∀ c∈a,c≠32)(hb:∀ c∈b,c≠32)(hd:∀ c∈d,c≠32) :aH (a++32::(b++32::d))=[a,b,d]:=by rw [kX _ _ ha,A2 _ _ hb hd]
theorem A3{y:Int}(h:y=1∨y=2∨y=3) :∀ c∈(bR y).data.toList,c≠32:=by
  rcases h with rfl | rfl | rfl<;>decide +kernel
theorem A4(t:Int) :∀ c∈(bd t).data.toList,c≠32:=by
  intro c hc q
  subst q
  have:=sh t _ hc
  revert this
  decide
theorem I3(w v:ByteArray)(hw:∀ c∈w.data.toList,c≠32)(hv:∀ c∈v.data.toList,c≠32) :aD (w++(wW++v))=[w,v]:=by
  symm
  apply rE
  have e:(w++(wW++v)).data.toList=w.data.toList++32::v.data.toList:=by simp [wW]
  rw [e,A2 _ _ hw hv]
  rfl
theorem FD(w v u:ByteArray)(hw:∀ c∈w.data.toList,c≠32)(hv:∀ c∈v.data.toList,c≠32)(hu:∀ c∈u.data.toList,c≠32) :aD ((w++(wW++v))++(wW++u))=[w,v,u]:=by
  symm
  apply rE
  have e:((w++(wW++v))++(wW++u)).data.toList=w.data.toList++32::(v.data.toList++32::u.data.toList):=by simp [wW]
  rw [e,D7 _ _ _ hw hv hu]
  rfl
theorem I4(w:ByteArray)(hw:∀ c∈w.data.toList,c≠32) :aD w=[w]:=by
  symm
  apply rE
  rw [fI _ hw]
  rfl
def yS(k:Nat)(l:List ByteArray) :Int:=bif decide (((nh k).2.2.1:Int)>0)&&decide (((l.length-1:Nat):Int)>0) then cS (l.getD 1 ByteArray.empty) else 0
def tS(k:Nat)(l:List ByteArray) :Int:=bif (nh k).2.2.2.1&&decide (((l.length-1:Nat):Int)>1) then fE (l.getD 2 ByteArray.empty) else 0
def yR(l:List ByteArray) :Int:=bif decide ((l.length:Int)>1)&&(((l.getD 1 ByteArray.empty).size:Int)==1) then IntKind.i64.wrap (bF (l.getD 1 ByteArray.empty) 0)-48 else 0
def tR(l:List ByteArray) :Int:=bif decide ((l.length:Int)>2) then KV (l.getD 2 ByteArray.empty) else 0
theorem HT{y:Int}(h:y=1∨y=2∨y=3) :cS (bR y)=y∧((bR y).size:Int)=1∧IntKind.i64.wrap (bF (bR y) 0)-48=y:=by
  rcases h with rfl | rfl | rfl<;>decide +kernel
def GW(k:Nat)(y t:Int)(l:List ByteArray) :Prop:=tp (l.getD 0 ByteArray.empty)=k∧yS k l=y∧tS k l=t∧yR l=y∧tR l=t
theorem A5{k:Nat}{y t:Int}(w:ByteArray)(hw:∀ c∈w.data.toList,c≠32)(hk:tp w=k)(hy:y=1∨y=2∨y=3)(ht:t=0)(hn:(nh k).2.2.1≠0)(hb:(nh k).2.2.2.1=false) :GW k y t (aD (w++(wW++bR y))):=by
  obtain ⟨n1,n2,n3⟩:=HT hy
  rw [I3 _ _ hw (A3 hy)]
  refine ⟨hk,?_,?_,?_,?_⟩
  · unfold yS
    rw [decide_eq_true (show ((nh (k:Int)).2.2.1:Int)>0 by omega)]
    exact n1
  · unfold tS
    rw [hb,ht]
    rfl
  · unfold yR
    simp only [List.getD_cons_succ,List.getD_cons_zero,n2,n3]
    rfl
  · rw [ht]
    rfl
theorem A6{k:Nat}{y t:Int}(w:ByteArray)(hw:∀ c∈w.data.toList,c≠32)(hk:tp w=k)(hy:y=1∨y=2∨y=3)(h1:0≤t)(h2:t<18446744073709551616)(hn:(nh k).2.2.1≠0)(hb:(nh k).2.2.2.1=true) :GW k y t (aD ((w++(wW++bR y))++(wW++bd t))):=by
  obtain ⟨n1,n2,n3⟩:=HT hy
  rw [FD _ _ _ hw (A3 hy) (A4 t)]
  refine ⟨hk,?_,?_,?_,?_⟩
  · unfold yS
    rw [decide_eq_true (show ((nh (k:Int)).2.2.1:Int)>0 by omega)]
    exact n1
  · unfold tS
    simp only [hb,List.length_cons,List.length_nil,List.getD_cons_succ,List.getD_cons_zero,GV,CL h1 h2]
    rfl
  · unfold yR
    simp only [List.getD_cons_succ,List.getD_cons_zero,n2,n3]
    rfl
  · unfold tR
    simp only [List.length_cons,List.length_nil,List.getD_cons_succ,List.getD_cons_zero,CL h1 h2]
    rfl
theorem N9{k:Nat}{y t:Int}(h:fg k y t=true)(h1:0≤t)(h2:t<18446744073709551616) :GW k y t (aD (fG k y t)):=by
  rcases nR h with ⟨e,hh,ht⟩ | ⟨e,rfl,rfl⟩ | ⟨e,hh,ht⟩ | ⟨e,hh⟩ | ⟨e,hh⟩ | ⟨e,hh,ht⟩
  · have e:k=1:=by omega
    subst e
    exact A5 (ByteArray.mk #[101,105,103,101,110]) (by decide) rfl hh ht (by decide) rfl
  · have e:k=2:=by omega
    subst e
    have hl:fG ((2:Nat):Int) 0 0=ByteArray.mk #[118,97,108,117,101,115]:=rfl
    rw [hl,I4 _ (by decide)]
    exact ⟨rfl,rfl,rfl,rfl,rfl⟩
  · have e:k=3:=by omega
    subst e
    exact A5 (ByteArray.mk #[115,118,100]) (by decide) rfl (by omega) ht (by decide) rfl
  · have e:k=4:=by omega
    subst e
    exact A6 (ByteArray.mk #[114,97,110,107]) (by decide) rfl (by omega) h1 h2 (by decide) rfl
  · have e:k=5:=by omega
    subst e
    exact A6 (ByteArray.mk #[105,110,118,101,114,115,101]) (by decide) rfl (by omega) h1 h2 (by decide) rfl
  · have e:k=6:=by omega
    subst e
    exact A5 (ByteArray.mk #[99,111,110,100]) (by decide) rfl (by omega) ht (by decide) rfl
def NV(s:ByteArray)(k:Nat)(y t:Int) :Bool:=fg k y t&&decide (fG k y t=s)
def FE(s:ByteArray) :Option (Nat×Int×Int) :=
  let l:=aD s
  let k:=tp (l.getD 0 ByteArray.empty)
  bif NV s k (yS k l) (tS k l) then some (k,yS k l,tS k l) else none
end Go.Plb.Seat
namespace Go.Plb.Seat
open Go Go.Plb
set_option linter.unusedVariables false
set_option maxRecDepth 100000
noncomputable section
inductive bu where
  | r0 (a4:Nat) (a5:Nat) (l6:List ByteArray)
def qr:bu→AE×aG
  | .r0 a4 a5 l6=>(.ret,⟨aF 8 [(4,.sl 0 1 1 0 a4 a5)],[(0,.ss l6)],1⟩)
theorem xr:ug qr:=by intro x;cases x<;>(intro h;cases h)
def mg:bu→nE
  | .r0 a4 a5 l6=>⟨.imm .free (.ss l6) 1 1 0 a4,[]⟩
def xt:Nat×Nat×(List ByteArray)→aG:=fun (a1,a2,l3)=>⟨aF 8 [(4,.sl 0 1 1 0 a1 a2)],[(0,.ss l3)],1⟩
def oV(s_0:ByteArray)(sep_1:ByteArray) :T ((Nat×Nat×(List ByteArray))⊕(bu)) :=
  .need (cT (aQ s_0 sep_1 (0:Int) (-1:Int)))<|.leaf (.inl ((dv (aQ s_0 sep_1 (0:Int) (-1:Int))),(dw (aQ s_0 sep_1 (0:Int) (-1:Int))),(dx (aQ s_0 sep_1 (0:Int) (-1:Int)))))
def xu(a1:Nat)(a2:Nat)(l3:List ByteArray) :T ((Empty)⊕(bu)) :=
  .leaf (.inr (.r0 a1 a2 l3))
noncomputable def bL(s_0:ByteArray)(sep_1:ByteArray) :Option bu:=Au (ch ((oV s_0 sep_1).run) fun (a1,a2,l3) =>
  (xu a1 a2 l3).run)
theorem xv(s_0:ByteArray)(sep_1:ByteArray){x:bu}(h:bL s_0 sep_1=some x) :ao prog qi [] [.str s_0,.str sep_1] (mg x) :=
  DS true mg qr h (Sg.cut 2 xr (eL jB xt [⟨[],[48],[4]⟩]) (fun ⟨a1,a2,l3⟩=>eL jB Av [⟨[],[0],[4]⟩]))
    (fun x=>by cases x with | r0 a4 a5 l6=>exact uh [.sl 0 1 1 0 a4 a5])
def ed:Option bu→Bool
  | some _=>true
  | none=>false
def eD:Option bu→Nat
  | some (.r0 x _ _)=>x
  | _=>0
def nr:Option bu→Nat
  | some (.r0 _ x _)=>x
  | _=>0
def eE:Option bu→List ByteArray
  | some (.r0 _ _ x)=>x
  | _=>[]
theorem xw{x:Option bu}(h:ed x=true) :x=some (.r0 (eD x) (nr x) (eE x)):=by
  unfold ed at h
  split at h<;>first | rfl | (cases h;done) | (rename_i y;cases y;rfl)
noncomputable def qs:aU:=eh qi (.cons .str (.cons .str .nil)) fun t=>(fun q=>[⟨mg (.r0 (eD q) (nr q) (eE q)),[ed q]⟩]) (bL t.1 t.2.1)
theorem ur:bm prog qs:=bA fun t=>(bQ (fun h=>xv t.1 t.2.1 (xw h)) cC)
noncomputable def qt:List aU:=qs::qq
theorem jC:bC prog (bG qt):=aE ur jB
inductive aM where
  | r0 (before4:ByteArray) (after5:ByteArray) (found6:Bool)
def tq:aM→AE×aG
  | .r0 before4 after5 found6=>(.ret,⟨aF 13 [(4,.str before4),(5,.str after5),(6,.bool false found6)],[],0⟩)
theorem A7:ug tq:=by intro x;cases x<;>(intro h;cases h)
def ov:aM→nE
  | .r0 before4 after5 found6=>⟨.tup [.str before4,.str after5,.bool false found6],[]⟩
def A8:ByteArray×ByteArray×Bool→aG:=fun (before1,after2,found3)=>⟨aF 13 [(4,.str before1),(5,.str after2),(6,.bool false found3)],[],0⟩
def rF(s_0:ByteArray)(sep_1:ByteArray) :T ((ByteArray×ByteArray×Bool)⊕(aM)) :=
  .need (aW (aj s_0 sep_1))<|.ask (decide ((ak (aj s_0 sep_1))≥(0:Int)))
    (.need (lU (ak (aj s_0 sep_1)) s_0.size)<|.need (lU (0:Int) (Int.toNat (ak (aj s_0 sep_1))))<|.need (kJ .i64 ((ak (aj s_0 sep_1))+((sep_1.size:Nat):Int)))<|.need (lU ((s_0.size:Nat):Int) s_0.size)<|.need (lU ((ak (aj s_0 sep_1))+((sep_1.size:Nat):Int)) s_0.size)<|.leaf (.inl ((s_0.extract 0 (Int.toNat (ak (aj s_0 sep_1)))),(s_0.extract (Int.toNat ((ak (aj s_0 sep_1))+((sep_1.size:Nat):Int))) s_0.size),true)))
    (.leaf (.inl (s_0,ByteArray.empty,false)))
def A9(before1:ByteArray)(after2:ByteArray)(found3:Bool) :T ((Empty)⊕(aM)) :=
  .leaf (.inr (.r0 before1 after2 found3))
noncomputable def ff(s_0:ByteArray)(sep_1:ByteArray) :Option aM:=Au (ch ((rF s_0 sep_1).run) fun (before1,after2,found3) =>
  (A9 before1 after2 found3).run)
theorem Ba(s_0:ByteArray)(sep_1:ByteArray){x:aM}(h:ff s_0 sep_1=some x) :ao prog sT [] [.str s_0,.str sep_1] (ov x) :=
  DS false ov tq h (Sg.cut 2 A7 (eL jC A8 [⟨[],[],[4,5,6]⟩,⟨[],[],[4,5,6]⟩]) (fun ⟨before1,after2,found3⟩=>eL jC Av [⟨[],[],[4,5,6]⟩]))
    (fun x=>by cases x with | r0 before4 after5 found6=>exact uh [.str before4,.str after5,.bool false found6])
def fJ:Option aM→Bool
  | some _=>true
  | none=>false
def gY:Option aM→ByteArray
  | some (.r0 x _ _)=>x
  | _=>ByteArray.empty
def aX:Option aM→ByteArray
  | some (.r0 _ x _)=>x
  | _=>ByteArray.empty
def gZ:Option aM→Bool
  | some (.r0 _ _ x)=>x
  | _=>false
theorem Bb{x:Option aM}(h:fJ x=true) :x=some (.r0 (gY x) (aX x) (gZ x)):=by
  unfold fJ at h
  split at h<;>first | rfl | (cases h;done) | (rename_i y;cases y;rfl)
noncomputable def tr:aU:=eh sT (.cons .str (.cons .str .nil)) fun t=>(fun q=>[⟨ov (.r0 (gY q) (aX q) (gZ q)),[fJ q]⟩]) (ff t.1 t.2.1)
theorem xx:bm prog tr:=bA fun t=>(bQ (fun h=>Ba t.1 t.2.1 (Bb h)) cC)
noncomputable def tu:List aU:=tr::qt
theorem kZ:bC prog (bG tu):=aE xx jC
inductive cE where
  | r0 (b2:Bool)
def tw:cE→AE×aG
  | .r0 b2=>(.ret,⟨aF 9 [(2,.bool false b2)],[],0⟩)
theorem Bc:ug tw:=by intro x;cases x<;>(intro h;cases h)
def ow:cE→nE
  | .r0 b2=>⟨.bool false b2,[]⟩
def Be(b1:Bool) :aG:=⟨aF 9 [(2,.bool false b1)],[],0⟩
def Bf(n_0:Int) :T ((Bool)⊕(cE)) :=
  .ask (decide (n_0≥(0:Int)))
    (.leaf (.inl (decide (n_0≤(512:Int)))))
    (.leaf (.inl false))
def Bg(b1:Bool) :T ((Empty)⊕(cE)) :=
  .leaf (.inr (.r0 b1))
noncomputable def bM(n_0:Int) :Option cE:=Au (ch ((Bf n_0).run) fun b1 =>
  (Bg b1).run)
theorem Bh(n_0:Int){x:cE}(h:bM n_0=some x) :ao prog sU [] [.int .i64 n_0] (ow x) :=
  DS false ow tw h (Sg.cut 2 Bc (eL kZ Be [⟨[],[],[2]⟩,⟨[],[],[2]⟩]) (fun b1=>eL kZ Av [⟨[],[],[2]⟩]))
    (fun x=>by cases x with | r0 b2=>exact uh [.bool false b2])
def dr:Option cE→Bool
  | some _=>true
  | none=>false
def dj:Option cE→Bool
  | some (.r0 x)=>x
  | _=>false
theorem Bi{x:Option cE}(h:dr x=true) :x=some (.r0 (dj x)):=by
  unfold dr at h
  split at h<;>first | rfl | (cases h;done) | (rename_i y;cases y;rfl)
noncomputable def tx:aU:=eh sU (.cons (.int .i64) .nil) fun t=>(fun q=>[⟨ow (.r0 (dj q)),[dr q]⟩]) (bM t.1)
theorem xy:bm prog tx:=bA fun t=>(bQ (fun h=>Bh t.1 (Bi h)) cC)
noncomputable def ox:List aU:=tx::tu
theorem aw:bC prog (bG ox):=aE xy kZ
end
end Go.Plb.Seat
namespace Go.Plb.Seat
open Go Go.Plb
set_option linter.unusedSimpArgs false
set_option linter.unusedVariables false
set_option maxRecDepth 100000
theorem MZ(n:Nat)(l:List ByteArray)(hn:0<n)(hl:0<l.length) :(oS n l).run=if tp (l.getD 0 ByteArray.empty)=0 then some (.inr (.r0 4 0 0 0)) else some (.inl (tp (l.getD 0 ByteArray.empty),(nh (tp (l.getD 0 ByteArray.empty))).2)):=by
  refine aC (by rw [xY];omega) (aC (by rw [mz];exact hl) ?_)
  generalize l.getD 0 ByteArray.empty=w
  by_cases h1:w=ByteArray.mk #[101,105,103,101,110]
  · subst h1;rfl
  by_cases h2:w=ByteArray.mk #[118,97,108,117,101,115]
  · subst h2;rfl
  by_cases h3:w=ByteArray.mk #[115,118,100]
  · subst h3;rfl
  by_cases h4:w=ByteArray.mk #[114,97,110,107]
  · subst h4;rfl
  by_cases h5:w=ByteArray.mk #[105,110,118,101,114,115,101]
  · subst h5;rfl
  by_cases h6:w=ByteArray.mk #[99,111,110,100]
  · subst h6;rfl
  have e:tp w=0:=by unfold tp;rw [if_neg h1,if_neg h2,if_neg h3,if_neg h4,if_neg h5,if_neg h6]
  rw [e,if_pos rfl]
  refine pN (pO (decide_eq_false h1)) (pN (pO (decide_eq_false h2)) (pN (pO (decide_eq_false h3)) (pN (pO (decide_eq_false h4)) (pN (pO (decide_eq_false h5)) (pN (pO (decide_eq_false h6)) (rj ?_))))))
  have q:∀ b:ByteArray,¬ w=b→(!decide (w=b))=true:=fun b h=>by rw [decide_eq_false h];rfl
  exact aC (q _ h1) (aC (q _ h2) (aC (q _ h3) (aC (q _ h4) (aC (q _ h5) (aC (q _ h6) rfl)))))
theorem D8(l:List ByteArray)(k:Int)(n:Nat)(b:Bool)(hl:∀ x∈l,x.size≤1000000000) :bI l k ((n:Nat):Int) b=some (.r0 k (bif decide ((n:Int)>0)&&decide ((l.length:Int)>0) then cS (l.getD 0 ByteArray.empty) else 0) (bif b&&decide ((l.length:Int)>1) then fE (l.getD 1 ByteArray.empty) else 0)):=by
  unfold bI
  have h6:(mj l ((n:Nat):Int)).run=some (.inl (decide ((n:Int)>0)&&decide ((l.length:Int)>0))):=by
    cases h:decide ((n:Int)>0) with
    | true=>exact lF h rfl
    | false=>exact lG h rfl
  have h8:(ml l b).run=some (.inl (b&&decide ((l.length:Int)>1))):=by
    cases b with
    | true=>exact bo rfl
    | false=>exact dK rfl
  refine cN (ay h6 (ay (a:=bif decide ((n:Int)>0)&&decide ((l.length:Int)>0) then cS (l.getD 0 ByteArray.empty) else 0) ?_ (ay h8 (ay (a:=bif b&&decide ((l.length:Int)>1) then fE (l.getD 1 ByteArray.empty) else 0) ?_ rfl))))
  · by_cases h0:(l.length:Int)>0
    · rw [decide_eq_true h0]
      cases hz:(decide ((n:Int)>0)&&true) with
      | false=>exact dK rfl
      | true =>
        have hm:(l.getD 0 ByteArray.empty).size≤1000000000:=by
          rw [List.getD_eq_getElem?_getD,List.getElem?_eq_getElem (by omega)]
          exact hl _ (List.getElem_mem (by omega))
        exact bo (aC (by rw [xY];omega) (aC (by rw [mz];omega) (aC (Nat.ble_eq_true_of_le hm) rfl)))
    · rw [decide_eq_false h0,Bool.and_false]
      exact dK rfl
  · by_cases h0:(l.length:Int)>1
    · rw [decide_eq_true h0]
      cases hz:(b&&true) with
      | false=>exact dK rfl
      | true =>
        have hm:(l.getD 1 ByteArray.empty).size≤1000000000:=by
          rw [List.getD_eq_getElem?_getD,List.getElem?_eq_getElem (by omega)]
          exact hl _ (List.getElem_mem (by omega))
        exact bo (aC (by rw [xY];omega) (aC (by rw [mz];omega) (aC (Nat.ble_eq_true_of_le hm) rfl)))
    · rw [decide_eq_false h0,Bool.and_false]
      exact dK rfl
theorem M0(s:ByteArray)(k y t:Int) :(kV s k y t).run=some (.inl (!(fg k y t&&decide (fG k y t=s)))):=by
  have hA:=ju k y t
  simp only [kV,hA]
  refine bB ?_
  show (T.ask (!(fg k y t)) _ _).run=_
  cases ha:fg k y t with
  | false=>exact bo rfl
  | true =>
    have hy:kJ .i64 y=true:=by
      have:=nR ha
      rw [bV];omega
    rw [rx k y t hy]
    refine dK (bB ?_)
    show some (Sum.inl (!((fG k y t).toList==s.toList)))=_
    rw [dI,Bool.true_and]
theorem Bj{s x:ByteArray}(h:x∈aD s) :x.size≤s.size:=by
  have h1:x.data.toList∈aH s.data.toList:=by rw [←nQ];exact List.mem_map_of_mem h
  have key:∀ l:List UInt8,∀ w∈aH l,w.length≤l.length:=by
    intro l
    induction l with
    | nil=>intro w hw;simp [aH] at hw;simp [hw]
    | cons c r ih =>
      intro w hw
      by_cases hc:c=32
      · subst hc
        rw [CG,List.mem_cons] at hw
        rcases hw with rfl | hw
        · simp
        · have:=ih w hw;simp;omega
      · rw [vO hc,List.mem_cons] at hw
        rcases hw with rfl | hw
        · have:(aH r).headD []∈aH r:=by rw [yc r];simp
          have:=ih _ this
          rw [List.length_cons,List.length_cons];omega
        · have:=ih w (List.mem_of_mem_tail hw);rw [List.length_cons];omega
  have:=key _ _ h1
  simpa using this
theorem xz(s:ByteArray)(hs:s.size≤1000000000) :aS s=some (match FE s with | some (k,y,t)=>.r0 0 k y t | none=>.r0 4 0 0 0):=by
  unfold aS
  have hw:=oU s
  have h6:(kT s).run=some (.inl ((aD s).length,(aD s).length,aD s)):=by
    simp only [kT,ye s hs]
    exact bB rfl
  have h7:=MZ (aD s).length (aD s) (by omega) (by omega)
  have hz:∀ x∈aD s,x.size≤1000000000:=fun x hx=>Nat.le_trans (Bj hx) hs
  unfold FE
  simp only []
  generalize hk:tp ((aD s).getD 0 ByteArray.empty)=k at *
  by_cases h0:k=0
  · rw [if_pos h0] at h7
    have:NV s k (yS k (aD s)) (tS k (aD s))=false:=by
      subst h0
      rfl
    rw [this]
    exact cN (ay h6 (dY h7))
  · rw [if_neg h0] at h7
    have h8:∀ (a b:ByteArray) (n:Nat) (tt sq:Bool),(nh k).2=(a,n,tt,sq)→(kU (aD s).length (aD s).length (aD s) k n tt).run=some (.inl ((k:Int),yS k (aD s),tS k (aD s))):=by
      intro a b n tt sq he
      have hc:ba 1 ((aD s).length-1) (aD s)=(aD s).drop 1:=by
        unfold ba
        rw [qL,List.take_of_length_le (by simp)]
      have hr:=D8 ((aD s).drop 1) (k:Int) n tt fun x hx=>hz x (List.mem_of_mem_drop hx)
      simp only [kU,hc,hr]
      refine aC (by rw [mh];omega) (aC (by rw [mh];omega) (aC (by rw [oI];omega) (bB ?_)))
      have ew:∀ i,((aD s).drop 1).getD i ByteArray.empty=(aD s).getD (i+1) ByteArray.empty:=fun i=>by
        rw [List.getD_eq_getElem?_getD,List.getD_eq_getElem?_getD,List.getElem?_drop,Nat.add_comm]
      show some (Sum.inl ((k:Int),_,_))=_
      unfold yS tS
      rw [he]
      simp only [ew,List.length_drop]
      rfl
    cases he:(nh k).2 with | mk a p =>
    obtain ⟨n,tt,sq⟩:=p
    rw [he] at h7
    refine cN (ay h6 (ay h7 (ay (h8 a a n tt sq he) (ay (M0 s k _ _) ?_))))
    unfold NV
    cases (fg (k:Int) (yS k (aD s)) (tS k (aD s))&&decide (fG (k:Int) (yS k (aD s)) (tS k (aD s))=s)) with
    | true=>exact dK rfl
    | false=>exact bo rfl
def Ir:List ByteArray:=[ByteArray.empty,ByteArray.mk #[101,105,103,101,110],ByteArray.mk #[118,97,108,117,101,115],ByteArray.mk #[115,118,100],ByteArray.mk #[114,97,110,107],ByteArray.mk #[105,110,118,101,114,115,101],ByteArray.mk #[99,111,110,100]]
end Go.Plb.Seat
namespace Go.Plb
set_option linter.unusedSimpArgs false
set_option linter.unusedVariables false
set_option linter.unusedSectionVars false
variable [Rom]
def ae.less(ρ:ae)(L:Nat→Prop) :ae:={ ρ with live:=fun bl=>ρ.live bl∧¬ L bl }
theorem ae.less_less(ρ:ae)(L:Nat→Prop) :Gl ρ (ρ.less L):=⟨rfl,fun _ h=>h.1⟩
theorem yY{ρ:ae}{L:Nat→Prop}{w:World}{v:AV}{u:Value}(h:VR ρ w v u) :VR (ρ.less L) w v u:=by
  induction h using VR.rec (motive_2:=fun l c _=>bc (ρ.less L) w l c) with
  | int k n=>exact .int k n
  | bool kn b=>exact .bool kn b
  | flt ex x y h=>exact .flt ex x y h
  | str s=>exact .str s
  | nptr=>exact .nptr
  | ptr b k i j hb=>exact VR.ptr (ρ:=ρ.less L) b k i j hb
  | iptr bw d k i j bl o u ha hb hc hv hr hk hg ih=>exact .iptr bw d k i j bl o u ((ρ.less_less L).avoid ha) hb hc ih hr hk hg
  | nsl=>exact .nsl
  | esl a=>exact .esl a
  | zsl a c=>exact .zsl a c
  | nan n h=>exact .nan n h
  | sl b k es i len cap cap' hb hcap hl c t hh hs=>exact VR.sl (ρ:=ρ.less L) b k es i len cap cap' hb hcap hl c t hh hs
  | slEnd b k es i a=>exact .slEnd b k es i a
  | imm bw d k es i len cap bl o u ha hb hc hv hl hr hk hg ih=>exact .imm bw d k es i len cap bl o u ((ρ.less_less L).avoid ha) hb hc ih hl hr hk hg
  | immEnd bw d k es i cap a hr hk hg=>exact .immEnd bw d k es i cap a hr hk hg
  | fn f l1 l2 c1 c2 h1 h2 i1 i2=>exact .fn f l1 l2 c1 c2 i1 i2
  | nfn=>exact .nfn
  | gmap ks vs bl es cl u ha hb hh hin hex hv hl hk ih=>exact .gmap ks vs bl es cl u ((ρ.less_less L).avoid ha) hb hh hin hex ih hl hk
  | gvar c bl t fr ha hb hh=>exact .gvar c bl t fr ((ρ.less_less L).avoid ha) hb hh
  | agg l c h ih=>exact .agg l c ih
  | tup l c h ih=>exact .tup l c ih
  | iface t v u h ih=>exact .iface t v u ih
  | niface=>exact .niface
  | yld b l h=>exact VR.yld (ρ:=ρ.less L) b l h
  | any u=>exact .any u
  | nil=>exact bc.nil
  | cons v u l c h t i1 i2=>exact bc.cons v u l c i1 i2
theorem FF{ρ:ae}{L:Nat→Prop}{w:World} :∀ {l:List AV} {c:List Value},bc ρ w l c→bc (ρ.less L) w l c
  | _,_,.nil=>.nil
  | _,_,.cons v u l c h t=>.cons v u l c (yY h) (FF t)
theorem Bk{ρ:ae}{L:Nat→Prop}{w:World} :∀ {ds:List Deferred},dU ρ w ds→dU (ρ.less L) w ds
  | [],h=>h
  | d::ds,⟨⟨D,h1,hb,h2,h3,h4,h5⟩,h⟩=>⟨⟨D,h1,hb,h2,fun q=>h3 q.1,h4,h5⟩,Bk h⟩
theorem LV{ρ:ae}{L:Nat→Prop}{w:World}{h:aI}{n:Nat}(hh:HR ρ w h n)(hL:∀ b d,au h b=some d→ρ.ok b→¬ L (ρ.at_ b)) :HR (ρ.less L) w h n:=by
  refine ⟨fun b d hb=>?_,hh.inj,fun bl q j=>hh.fresh bl q.1 j,fun bl q=>hh.liveLt bl q.1,hh.outLt,hh.lt,fun x hx=>yY (hh.rom x hx)⟩
  rcases hh.cell b d hb with ⟨k1,k2,hr,c,t,r1,r2⟩ | q
  · exact .inl ⟨k1,⟨k2,hL b d hb k1⟩,hr,c,t,r1,fun x v hx=>(r2 x v hx).imp fun u g=>⟨g.1,yY g.2⟩⟩
  · exact .inr q
def an.plain:an→Bool
  | .fl _ | .ns .. | .bs _ | .ss _ | .cols ..=>true
  | _=>false
theorem GX{d:an}(h:d.plain=true) :d.kept=true:=by cases d<;>first | rfl | cases h
noncomputable def GY(st:aG)(b i x:Nat) :aG :=
  match au st.heap b with
  | some (.vs l)=>match l[i]? with
    | some (.sl y w es j n c)=>match au st.heap x with
      | some d=>bif Nat.beq y x&&(!Nat.beq b x&&d.plain) then ⟨st.tmps,ck (lz st.heap x) b (.vs (l.set i (.imm .free d w es j n))),st.next⟩ else st
      | none=>st
    | _=>st
  | _=>st
theorem KZ{st:aG}{b i x:Nat} :Iw [] st (GY st b i x):=by
  intro ρ0 w0 a w hN hA
  unfold GY
  split
  case h_2=>exact hA
  rename_i l hl
  split
  case h_2=>exact hA
  rename_i y wd es j n c hi
  split
  case h_2=>exact hA
  rename_i d hd
  cases hc:(Nat.beq y x&&(!Nat.beq b x&&d.plain)) with
  | false=>exact hA
  | true =>
  simp only [cond_true]
  simp only [Bool.and_eq_true,Bool.not_eq_true'] at hc
  obtain ⟨e1,e2,hp⟩:=hc
  have e1:=Nat.eq_of_beq_eq_true e1
  subst e1
  have hne:b≠y:=fun q=>by subst q;rw [jw] at e2;cases e2
  obtain ⟨ρ,E,W,S,hbk,hle⟩:=hA
  have hh:=S.heap
  have hk:=GX hp

  have key:∃ L:Nat→Prop,(∀ z e,z≠y→au st.heap z=some e→ρ.ok z→¬ L (ρ.at_ z))∧(∀ bl,ρ0.live bl→¬ L bl)∧(ρ.ok y→L (ρ.at_ y)):=by
    by_cases ok:ρ.ok y
    · refine ⟨fun bl=>bl=ρ.at_ y,fun z e hz he hz2 q=>hz (hh.inj z y e d he hd hz2 ok q),fun bl q=>?_,fun _=>rfl⟩
      obtain ⟨k,k1,_⟩:=hN.only bl q
      exact absurd (hN.heap.lt k k1) (Nat.not_lt_zero _)
    · exact ⟨fun _=>False,fun _ _ _ _ _ q=>q,fun _ _ q=>q,fun q=>ok q⟩
  obtain ⟨L,L1,L2,L3⟩:=key
  have hget':∀ z e,au (lz st.heap y) z=some e→z≠y∧au st.heap z=some e:=by
    intro z e hz
    rw [dT] at hz
    split at hz
    · cases hz
    · rename_i q;exact ⟨fun r=>q r.symm,hz⟩
  have h1:HR (ρ.less L) w (lz st.heap y) st.next:=LV (hh.del y) fun z e hz ok=>by
    obtain ⟨q1,q2⟩:=hget' z e hz
    exact L1 z e q1 q2 ok
  have hb1:au (lz st.heap y) b=some (.vs l):=by
    rw [dT,if_neg (fun q=>hne q.symm)];exact hl
  have hv:∀ u,VR ρ w (.sl y wd es j n c) u→VR (ρ.less L) w (.imm .free d wd es j n) u:=by
    intro u hu
    cases hu with
    | sl _ _ _ _ _ _ cap' hb hcap hl' c' t hh' hs =>
      obtain ⟨hlv,hrk,cc,t2,hcc,hcv⟩:=hh.real hd hb
      have:=VR.imm (ρ:=ρ.less L) (w:=w) .free d wd es j n cap' (ρ.at_ y) 0 (fun z=>(cc[z]?).getD undef) (fun k _=>by
          cases k with
          | zero=>exact fun q=>q.2 (L3 hb)
          | succ k=>exact hh.fresh _ hlv k) (hh.liveLt _ hlv)
        (fun z v hz=>by
          obtain ⟨u,q1,q2⟩:=hcv z v hz
          simp [World.cell?,hcc,q1]) (fun z v hz=>by
          obtain ⟨u,q1,q2⟩:=hcv z v hz
          simp only [q1,Option.getD_some]
          exact yY q2) (by omega) hrk (fun _=>hk) (jo hk)
      simpa using this
    | slEnd=>exact .immEnd _ _ _ _ _ _ _ (hh.rk hd) (fun _=>hk) (jo hk)
  refine ⟨ρ.less L,⟨E.at_,E.ok,fun bl q=>⟨E.live bl q,L2 bl q⟩,fun bl q r=>E.new bl q r.1,E.out,E.pin⟩,W,⟨Bk S.defers,FF S.tmps,?_⟩,hbk,hle⟩
  have look:∀ z e,au (ck (lz st.heap y) b (.vs (l.set i (.imm .free d wd es j n)))) z=some e→(z=b∧e=.vs (l.set i (.imm .free d wd es j n)))∨(z≠b∧z≠y∧au st.heap z=some e):=by
    intro z e hz
    rw [aV] at hz
    by_cases q:b=z
    · rw [if_pos q] at hz;cases hz;exact .inl ⟨q.symm,rfl⟩
    · rw [if_neg q] at hz;exact .inr ⟨fun r=>q r.symm,hget' z e hz⟩
  have had:∀ z e,au (ck (lz st.heap y) b (.vs (l.set i (.imm .free d wd es j n)))) z=some e→∃ e',au (lz st.heap y) z=some e':=by
    intro z e hz
    rw [aV] at hz
    by_cases q:b=z
    · subst q;exact ⟨_,hb1⟩
    · rw [if_neg q] at hz;exact ⟨e,hz⟩
  refine ⟨fun z e hz=>?_,fun z z' e e' hz hz' ok ok' he=>?_,h1.fresh,h1.liveLt,h1.outLt,h1.lt,h1.rom⟩
  · rcases look z e hz with ⟨rfl,rfl⟩ | ⟨q1,q2,q3⟩
    · rcases h1.cell z _ hb1 with ⟨k1,k2,_,cc,t,r1,r2⟩ | ⟨k1,k2,_,k4⟩
      · refine .inl ⟨k1,k2,trivial,cc,t,r1,fun m v hm=>?_⟩
        simp only [an.cell?,List.getElem?_set] at hm
        by_cases hq:i=m
        · subst hq
          rw [if_pos rfl] at hm
          split at hm
          · cases hm
            rcases hh.cell z _ hl with ⟨_,_,_,c3,t3,s1,s2⟩ | ⟨g1,_⟩
            · have ec:c3=cc:=by
                have r1':w.heap[ρ.at_ z]? = some (.cells cc t (0,0)):=r1
                rw [s1] at r1';cases r1';rfl
              subst ec
              obtain ⟨u,t1,t2⟩:=s2 i _ hi
              exact ⟨u,t1,hv u t2⟩
            · exact absurd k1 g1
          · cases hm
        · rw [if_neg hq] at hm
          exact r2 m v hm
      · refine .inr ⟨k1,k2,trivial,fun m=>?_⟩
        have:=k4 i
        simp only [an.cell?] at this
        rw [hi] at this
        cases this
    · exact h1.cell z e (by rw [dT,if_neg (fun q=>q2 q.symm)];exact q3)
  · obtain ⟨f,hf⟩:=had z e hz
    obtain ⟨f',hf'⟩:=had z' e' hz'
    exact h1.inj z z' f f' hf hf' ok ok' he
theorem Sg.sub{P:Program}{α X:Type}{N:α→aG}{E:X→AE×aG}{m:Option (α⊕X)}{cs:List Code}{st st1:aG}(hs:Iw [] st st1)(h:Sg P [] cs st1 m N E) :Sg P [] cs st m N E :=
  fun r hr=>dn.weak hs (h r hr)
end Go.Plb
namespace Go.Plb.Seat
open Go Go.Plb
set_option linter.unusedVariables false
set_option maxRecDepth 100000
noncomputable section
inductive aa where
  | r0 (b13:Bool) (a14:Nat) (a15:Nat) (i17:Int) (i18:Int) (i19:Int) (a20:Nat) (a21:Nat) (i22:Int) (i23:Int) (b24:Bool) (i25:Int) (a26:Nat) (l27:List Int) (l28:List Int) (l29:List Int) (l30:List (List Int)) (l31:List Int) (l32:List Int) (l33:List Int)
  | r1 (b34:Bool) (a35:Nat) (a36:Nat) (i37:Int) (i38:Int) (b39:Bool) (a40:Nat) (l41:List Int) (l42:List Int) (l43:List Int) (l44:List (List Int)) (l45:List Int) (l46:List Int) (l47:List Int)
  | r2 (b48:Bool) (a49:Nat) (a50:Nat) (i51:Int) (i52:Int) (i53:Int) (a54:Nat) (i55:Int) (i56:Int) (b57:Bool) (i58:Int) (a59:Nat) (l60:List Int) (l61:List Int) (l62:List Int) (l63:List (List Int)) (l64:List Int) (l65:List Int) (l66:List Int)
def lc:aa→AE×aG
  | .r0 b13 a14 a15 i17 i18 i19 a20 a21 i22 i23 b24 i25 a26 l27 l28 l29 l30 l31 l32 l33=>(.ret,⟨aF 164 [(4,.bool false b13)],[(0,.vs [.sl 1 6 6 0 a14 a15,.int .i64 i17,.int .i64 i18,.int .i64 i19,.sl 2 1 1 0 a20 a21,.int .i64 i22,.int .u64 i23,.bool false b24,.int .i64 i25]),(1,.cols a26 [.ci .i64 l27,.ci .i64 l28,.ci .i64 l29,.cns .u64 l30,.ci .i64 l31,.ci .u64 l32]),(2,.ns .u64 l33)],3⟩)
  | .r1 b34 a35 a36 i37 i38 b39 a40 l41 l42 l43 l44 l45 l46 l47=>(.ret,⟨aF 164 [(4,.bool false b34)],[(0,.vs [.sl 1 6 6 0 a35 a36,.int .i64 (0:Int),.int .i64 i37,.int .i64 i38,.nsl,.int .i64 (0:Int),.int .u64 (0:Int),.bool false b39,.int .i64 (0:Int)]),(1,.cols a40 [.ci .i64 l41,.ci .i64 l42,.ci .i64 l43,.cns .u64 l44,.ci .i64 l45,.ci .u64 l46]),(2,.ns .u64 l47)],3⟩)
  | .r2 b48 a49 a50 i51 i52 i53 a54 i55 i56 b57 i58 a59 l60 l61 l62 l63 l64 l65 l66=>(.ret,⟨aF 164 [(4,.bool false b48)],[(0,.vs [.sl 1 6 6 0 a49 a50,.int .i64 i51,.int .i64 i52,.int .i64 i53,.sl 3 1 1 0 a54 a54,.int .i64 i55,.int .u64 i56,.bool false b57,.int .i64 i58]),(1,.cols a59 [.ci .i64 l60,.ci .i64 l61,.ci .i64 l62,.cns .u64 l63,.ci .i64 l64,.ci .u64 l65]),(3,.ns .u64 l66)],4⟩)
theorem bj:ug lc:=by intro x;cases x<;>(intro h;cases h)
theorem vR(id:Nat) :vy id lc:=by intro x;cases x<;>(intro h;cases h)
def ee:aa→nE
  | .r0 b13 a14 a15 i17 i18 i19 a20 a21 i22 i23 b24 i25 a26 l27 l28 l29 l30 l31 l32 l33=>⟨.bool false b13,[some (.vs [.sl 1 6 6 0 a14 a15,.int .i64 i17,.int .i64 i18,.int .i64 i19,.sl 2 1 1 0 a20 a21,.int .i64 i22,.int .u64 i23,.bool false b24,.int .i64 i25]),some (.cols a26 [.ci .i64 l27,.ci .i64 l28,.ci .i64 l29,.cns .u64 l30,.ci .i64 l31,.ci .u64 l32]),some (.ns .u64 l33)]⟩
  | .r1 b34 a35 a36 i37 i38 b39 a40 l41 l42 l43 l44 l45 l46 l47=>⟨.bool false b34,[some (.vs [.sl 1 6 6 0 a35 a36,.int .i64 (0:Int),.int .i64 i37,.int .i64 i38,.nsl,.int .i64 (0:Int),.int .u64 (0:Int),.bool false b39,.int .i64 (0:Int)]),some (.cols a40 [.ci .i64 l41,.ci .i64 l42,.ci .i64 l43,.cns .u64 l44,.ci .i64 l45,.ci .u64 l46]),some (.ns .u64 l47)]⟩
  | .r2 b48 a49 a50 i51 i52 i53 a54 i55 i56 b57 i58 a59 l60 l61 l62 l63 l64 l65 l66=>⟨.bool false b48,[some (.vs [.sl 1 6 6 0 a49 a50,.int .i64 i51,.int .i64 i52,.int .i64 i53,.sl 3 1 1 0 a54 a54,.int .i64 i55,.int .u64 i56,.bool false b57,.int .i64 i58]),some (.cols a59 [.ci .i64 l60,.ci .i64 l61,.ci .i64 l62,.cns .u64 l63,.ci .i64 l64,.ci .u64 l65]),none,some (.ns .u64 l66)]⟩
noncomputable def ut:List Code:=dW (yq bD)
def vS(n_0:Nat)(c_1:Nat)(i_2:Int)(i_3:Int)(i_4:Int)(n_5:Nat)(c_6:Nat)(i_7:Int)(i_8:Int)(b_9:Bool)(i_10:Int)(n_11:Nat)(l_12:List Int)(l_13:List Int)(l_14:List Int)(l_15:List (List Int))(l_16:List Int)(l_17:List Int)(l_18:List Int)(s_19:ByteArray)(_:Unit) :aG:=⟨aF 164 [(0,.ptr 0 1 0 0),(1,.str s_19)],[(0,.vs [.sl 1 6 6 0 n_0 c_1,.int .i64 i_2,.int .i64 i_3,.int .i64 i_4,.sl 2 1 1 0 n_5 c_6,.int .i64 i_7,.int .u64 i_8,.bool false b_9,.int .i64 i_10]),(1,.cols n_11 [.ci .i64 l_12,.ci .i64 l_13,.ci .i64 l_14,.cns .u64 l_15,.ci .i64 l_16,.ci .u64 l_17]),(2,.ns .u64 l_18)],3⟩
def uu:T ((Unit)⊕(aa)) :=
  .leaf (.inl ())
def nS(n_0:Nat)(c_1:Nat)(i_2:Int)(i_3:Int)(i_4:Int)(n_5:Nat)(c_6:Nat)(i_7:Int)(i_8:Int)(b_9:Bool)(i_10:Int)(n_11:Nat)(l_12:List Int)(l_13:List Int)(l_14:List Int)(l_15:List (List Int))(l_16:List Int)(l_17:List Int)(l_18:List Int)(s_19:ByteArray)(_:Unit) :aG:=⟨aF 164 [(0,.ptr 0 1 0 0),(1,.str s_19)],[(0,.vs [.sl 1 6 6 0 n_0 c_1,.int .i64 i_2,.int .i64 i_3,.int .i64 i_4,.sl 2 1 1 0 n_5 c_6,.int .i64 i_7,.int .u64 i_8,.bool false b_9,.int .i64 i_10]),(1,.cols n_11 [.ci .i64 l_12,.ci .i64 l_13,.ci .i64 l_14,.cns .u64 l_15,.ci .i64 l_16,.ci .u64 l_17]),(2,.ns .u64 l_18)],3⟩
noncomputable def jD:List Code:=dW (inBlock ((((ut.drop 1).take 1)).headD .skip))
def vT(n_0:Nat)(c_1:Nat)(i_2:Int)(i_3:Int)(i_4:Int)(n_5:Nat)(c_6:Nat)(i_7:Int)(i_8:Int)(b_9:Bool)(i_10:Int)(n_11:Nat)(l_12:List Int)(l_13:List Int)(l_14:List Int)(l_15:List (List Int))(l_16:List Int)(l_17:List Int)(l_18:List Int)(s_19:ByteArray)(b1:Bool) :aG:=⟨aF 164 [(0,.ptr 0 1 0 0),(1,.str s_19),(10,.bool false b1)],[(0,.vs [.sl 1 6 6 0 n_0 c_1,.int .i64 i_2,.int .i64 i_3,.int .i64 i_4,.sl 2 1 1 0 n_5 c_6,.int .i64 i_7,.int .u64 i_8,.bool false b_9,.int .i64 i_10]),(1,.cols n_11 [.ci .i64 l_12,.ci .i64 l_13,.ci .i64 l_14,.cns .u64 l_15,.ci .i64 l_16,.ci .u64 l_17]),(2,.ns .u64 l_18)],3⟩
def uv(b_9:Bool) :T ((Bool)⊕((Unit)⊕(aa))) :=
  .leaf (.inl (!b_9))
def nT(n_0:Nat)(c_1:Nat)(i_2:Int)(i_3:Int)(i_4:Int)(n_5:Nat)(c_6:Nat)(i_7:Int)(i_8:Int)(b_9:Bool)(i_10:Int)(n_11:Nat)(l_12:List Int)(l_13:List Int)(l_14:List Int)(l_15:List (List Int))(l_16:List Int)(l_17:List Int)(l_18:List Int)(s_19:ByteArray)(_:Unit) :aG:=⟨aF 164 [(0,.ptr 0 1 0 0),(1,.str s_19)],[(0,.vs [.sl 1 6 6 0 n_0 c_1,.int .i64 i_2,.int .i64 i_3,.int .i64 i_4,.sl 2 1 1 0 n_5 c_6,.int .i64 i_7,.int .u64 i_8,.bool false b_9,.int .i64 i_10]),(1,.cols n_11 [.ci .i64 l_12,.ci .i64 l_13,.ci .i64 l_14,.cns .u64 l_15,.ci .i64 l_16,.ci .u64 l_17]),(2,.ns .u64 l_18)],3⟩
def vU(n_0:Nat)(c_1:Nat)(i_2:Int)(i_3:Int)(i_4:Int)(n_5:Nat)(c_6:Nat)(i_7:Int)(i_8:Int)(b_9:Bool)(i_10:Int)(n_11:Nat)(l_12:List Int)(l_13:List Int)(l_14:List Int)(l_15:List (List Int))(l_16:List Int)(l_17:List Int)(l_18:List Int)(s_19:ByteArray) :(List ByteArray)×Nat→aG:=fun (w2,w3)=>⟨aF 164 [(0,.ptr 0 1 0 0),(1,.str s_19),(5,.imm .free (.ss w2) 1 1 0 w3)],[(0,.vs [.sl 1 6 6 0 n_0 c_1,.int .i64 i_2,.int .i64 i_3,.int .i64 i_4,.sl 2 1 1 0 n_5 c_6,.int .i64 i_7,.int .u64 i_8,.bool false b_9,.int .i64 i_10]),(1,.cols n_11 [.ci .i64 l_12,.ci .i64 l_13,.ci .i64 l_14,.cns .u64 l_15,.ci .i64 l_16,.ci .u64 l_17]),(2,.ns .u64 l_18)],3⟩
def uw(s_19:ByteArray) :T (((List ByteArray)×Nat)⊕((Unit)⊕(aa))) :=
  .need (ed (bL s_19 (ByteArray.mk #[32])))<|.leaf (.inl ((eE (bL s_19 (ByteArray.mk #[32]))),(eD (bL s_19 (ByteArray.mk #[32])))))
def vV(n_0:Nat)(c_1:Nat)(n_11:Nat)(l_12:List Int)(l_13:List Int)(l_14:List Int)(l_15:List (List Int))(l_16:List Int)(l_17:List Int)(l_18:List Int) :Bool×Int×Int×Bool→aG:=fun (b4,i5,i6,b7)=>⟨aF 164 [(4,.bool false b4)],[(0,.vs [.sl 1 6 6 0 n_0 c_1,.int .i64 (0:Int),.int .i64 i5,.int .i64 i6,.nsl,.int .i64 (0:Int),.int .u64 (0:Int),.bool false b7,.int .i64 (0:Int)]),(1,.cols n_11 [.ci .i64 l_12,.ci .i64 l_13,.ci .i64 l_14,.cns .u64 l_15,.ci .i64 l_16,.ci .u64 l_17]),(2,.ns .u64 l_18)],3⟩
def ux(n_0:Nat)(c_1:Nat)(i_2:Int)(i_3:Int)(i_4:Int)(n_5:Nat)(c_6:Nat)(i_7:Int)(i_8:Int)(b_9:Bool)(i_10:Int)(n_11:Nat)(l_12:List Int)(l_13:List Int)(l_14:List Int)(l_15:List (List Int))(l_16:List Int)(l_17:List Int)(l_18:List Int)(s_19:ByteArray)(w2:List ByteArray)(w3:Nat) :T ((Bool×Int×Int×Bool)⊕((Unit)⊕(aa))) :=
  .ask (((w3:Nat):Int) != (3:Int))
    (.leaf (.inr (.inr (.r0 false n_0 c_1 i_2 i_3 i_4 n_5 c_6 i_7 i_8 b_9 i_10 n_11 l_12 l_13 l_14 l_15 l_16 l_17 l_18))))
    (.need (yh (1:Int) w3)<|.need (nv 1 (List.length w2))<|.need (ek (List.getD w2 1 ByteArray.empty).size)<|.need (yh (2:Int) w3)<|.need (nv 2 (List.length w2))<|.need (ek (List.getD w2 2 ByteArray.empty).size)<|.need (dr (bM (cS (List.getD w2 1 ByteArray.empty))))<|.ask (dj (bM (cS (List.getD w2 1 ByteArray.empty))))
      (.need (dr (bM (cS (List.getD w2 2 ByteArray.empty))))<|.ask (dj (bM (cS (List.getD w2 2 ByteArray.empty))))
        (.need (fF (dh (cS (List.getD w2 1 ByteArray.empty)) (cS (List.getD w2 2 ByteArray.empty))))<|.leaf (.inl (((gS (dh (cS (List.getD w2 1 ByteArray.empty)) (cS (List.getD w2 2 ByteArray.empty)))).toList==s_19.toList),(cS (List.getD w2 1 ByteArray.empty)),(cS (List.getD w2 2 ByteArray.empty)),true)))
        (.leaf (.inl (false,(cS (List.getD w2 1 ByteArray.empty)),(cS (List.getD w2 2 ByteArray.empty)),true))))
      (.leaf (.inl (false,(cS (List.getD w2 1 ByteArray.empty)),(cS (List.getD w2 2 ByteArray.empty)),true))))
def uy(n_0:Nat)(c_1:Nat)(n_11:Nat)(l_12:List Int)(l_13:List Int)(l_14:List Int)(l_15:List (List Int))(l_16:List Int)(l_17:List Int)(l_18:List Int)(b4:Bool)(i5:Int)(i6:Int)(b7:Bool) :T ((Unit)⊕((Unit)⊕(aa))) :=
  .leaf (.inr (.inr (.r1 b4 n_0 c_1 i5 i6 b7 n_11 l_12 l_13 l_14 l_15 l_16 l_17 l_18)))
def vW(n_0:Nat)(c_1:Nat)(i_2:Int)(i_3:Int)(i_4:Int)(n_5:Nat)(c_6:Nat)(i_7:Int)(i_8:Int)(b_9:Bool)(i_10:Int)(n_11:Nat)(l_12:List Int)(l_13:List Int)(l_14:List Int)(l_15:List (List Int))(l_16:List Int)(l_17:List Int)(l_18:List Int)(s_19:ByteArray)(b8:Bool) :aG:=⟨aF 164 [(0,.ptr 0 1 0 0),(1,.str s_19),(68,.bool false b8)],[(0,.vs [.sl 1 6 6 0 n_0 c_1,.int .i64 i_2,.int .i64 i_3,.int .i64 i_4,.sl 2 1 1 0 n_5 c_6,.int .i64 i_7,.int .u64 i_8,.bool false b_9,.int .i64 i_10]),(1,.cols n_11 [.ci .i64 l_12,.ci .i64 l_13,.ci .i64 l_14,.cns .u64 l_15,.ci .i64 l_16,.ci .u64 l_17]),(2,.ns .u64 l_18)],3⟩
def jE(i_3:Int)(i_4:Int)(i_10:Int) :T ((Bool)⊕((Unit)⊕(aa))) :=
  .ask (decide (i_10<i_3))
    (.leaf (.inl (decide (i_4>(0:Int)))))
    (.leaf (.inl false))
def dt(n_0:Nat)(c_1:Nat)(i_2:Int)(i_3:Int)(i_4:Int)(n_5:Nat)(c_6:Nat)(i_7:Int)(i_8:Int)(b_9:Bool)(i_10:Int)(n_11:Nat)(l_12:List Int)(l_13:List Int)(l_14:List Int)(l_15:List (List Int))(l_16:List Int)(l_17:List Int)(l_18:List Int)(s_19:ByteArray)(b8:Bool) :T ((Unit)⊕((Unit)⊕(aa))) :=
  .ask b8
    (.alt 0
      (.need (dE s_19)<|.need (ek s_19.size)<|.need (kF ((n_5+(List.length (cd s_19)))*8) 140737488355328)<|.need (kF (n_5+(List.length (cd s_19))) 9223372036854775807)<|.need (kF (List.length (cd s_19)) (List.length (cd s_19)))<|.need (kF n_5 (List.length l_18))<|.need (kJ .i64 (i_10+(1:Int)))<|.ask (0==(0:Int))
        (.leaf (.inr (.inr (.r2 ((((List.length (cd s_19)):Nat):Int)==i_4) n_0 c_1 i_2 i_3 i_4 (n_5+(List.length (cd s_19))) i_7 i_8 b_9 (i_10+(1:Int)) n_11 l_12 l_13 l_14 l_15 l_16 l_17 ((List.take n_5 l_18)++(List.take (List.length (cd s_19)) (cd s_19)))))))
        (.leaf (.inr (.inr (.r2 false n_0 c_1 i_2 i_3 i_4 (n_5+(List.length (cd s_19))) i_7 i_8 b_9 (i_10+(1:Int)) n_11 l_12 l_13 l_14 l_15 l_16 l_17 ((List.take n_5 l_18)++(List.take (List.length (cd s_19)) (cd s_19))))))))
      (.alt 1
        (.need (!dE s_19)<|.need (ek s_19.size)<|.need (kJ .i64 (i_10+(1:Int)))<|.ask (4==(0:Int))
          (.leaf (.inr (.inr (.r0 ((0:Int)==i_4) n_0 c_1 i_2 i_3 i_4 n_5 c_6 i_7 i_8 b_9 (i_10+(1:Int)) n_11 l_12 l_13 l_14 l_15 l_16 l_17 l_18))))
          (.leaf (.inr (.inr (.r0 false n_0 c_1 i_2 i_3 i_4 n_5 c_6 i_7 i_8 b_9 (i_10+(1:Int)) n_11 l_12 l_13 l_14 l_15 l_16 l_17 l_18)))))
        (.fail)))
    (.leaf (.inl ()))
def uz:T ((Unit)⊕((Unit)⊕(aa))) :=
  .leaf (.inl ())
def vX(n_0:Nat)(c_1:Nat)(i_2:Int)(i_3:Int)(i_4:Int)(n_5:Nat)(c_6:Nat)(i_7:Int)(i_8:Int)(b_9:Bool)(i_10:Int)(n_11:Nat)(l_12:List Int)(l_13:List Int)(l_14:List Int)(l_15:List (List Int))(l_16:List Int)(l_17:List Int)(l_18:List Int) :Nat×Int×Int×Int→aG:=fun (e9,i10,i11,i12)=>⟨aF 164 [(0,.ptr 0 1 0 0),(8,.ptr 3 1 0 0),(9,.int .i64 ((e9:Nat):Int))],[(0,.vs [.sl 1 6 6 0 n_0 c_1,.int .i64 i_2,.int .i64 i_3,.int .i64 i_4,.sl 2 1 1 0 n_5 c_6,.int .i64 i_7,.int .u64 i_8,.bool false b_9,.int .i64 i_10]),(1,.cols n_11 [.ci .i64 l_12,.ci .i64 l_13,.ci .i64 l_14,.cns .u64 l_15,.ci .i64 l_16,.ci .u64 l_17]),(2,.ns .u64 l_18),(3,.vs [.int .i64 i10,.int .i64 (0:Int),.int .i64 (0:Int),.nsl,.int .i64 i11,.int .u64 i12])],4⟩
def uA(s_19:ByteArray) :T ((Nat×Int×Int×Int)⊕(aa)) :=
  .need (dZ (aS s_19))<|.leaf (.inl ((ez (aS s_19)),(eA (aS s_19)),(eB (aS s_19)),(eC (aS s_19))))
def uB:T ((Empty)⊕(aa)) :=
  .fail
noncomputable def dk(n_0:Nat)(c_1:Nat)(i_2:Int)(i_3:Int)(i_4:Int)(n_5:Nat)(c_6:Nat)(i_7:Int)(i_8:Int)(b_9:Bool)(i_10:Int)(n_11:Nat)(l_12:List Int)(l_13:List Int)(l_14:List Int)(l_15:List (List Int))(l_16:List Int)(l_17:List Int)(l_18:List Int)(s_19:ByteArray) :Option aa:=Au (ch ((uu).run) fun _ =>
  ch (sW (ch ((uv b_9).run) fun b1 =>
  ch ((bif b1 then ch ((uw s_19).run) fun (w2,w3) =>
  ch ((ux n_0 c_1 i_2 i_3 i_4 n_5 c_6 i_7 i_8 b_9 i_10 n_11 l_12 l_13 l_14 l_15 l_16 l_17 l_18 s_19 w2 w3).run) fun (b4,i5,i6,b7) =>
  (uy n_0 c_1 n_11 l_12 l_13 l_14 l_15 l_16 l_17 l_18 b4 i5 i6 b7).run else ch ((jE i_3 i_4 i_10).run) fun b8 =>
  (dt n_0 c_1 i_2 i_3 i_4 n_5 c_6 i_7 i_8 b_9 i_10 n_11 l_12 l_13 l_14 l_15 l_16 l_17 l_18 s_19 b8).run)) fun _ =>
  (uz).run)) fun _ =>
  ch ((uA s_19).run) fun (e9,i10,i11,i12) =>
  (uB).run)
theorem kz(n_0:Nat)(c_1:Nat)(i_2:Int)(i_3:Int)(i_4:Int)(n_5:Nat)(c_6:Nat)(i_7:Int)(i_8:Int)(b_9:Bool)(i_10:Int)(n_11:Nat)(l_12:List Int)(l_13:List Int)(l_14:List Int)(l_15:List (List Int))(l_16:List Int)(l_17:List Int)(l_18:List Int)(s_19:ByteArray){x:aa}(h:dk n_0 c_1 i_2 i_3 i_4 n_5 c_6 i_7 i_8 b_9 i_10 n_11 l_12 l_13 l_14 l_15 l_16 l_17 l_18 s_19=some x) :ao prog bD [.vs [.sl 1 6 6 0 n_0 c_1,.int .i64 i_2,.int .i64 i_3,.int .i64 i_4,.sl 2 1 1 0 n_5 c_6,.int .i64 i_7,.int .u64 i_8,.bool false b_9,.int .i64 i_10],.cols n_11 [.ci .i64 l_12,.ci .i64 l_13,.ci .i64 l_14,.cns .u64 l_15,.ci .i64 l_16,.ci .u64 l_17],.ns .u64 l_18] [.ptr 0 1 0 0,.str s_19] (ee x) :=
  DS false ee lc h (Sg.cut 1 bj (eL aw (vS n_0 c_1 i_2 i_3 i_4 n_5 c_6 i_7 i_8 b_9 i_10 n_11 l_12 l_13 l_14 l_15 l_16 l_17 l_18 s_19) [⟨[],[0,1,2],[0,1]⟩]) (fun _=>Sg.cut 1 bj (Oj (nS n_0 c_1 i_2 i_3 i_4 n_5 c_6 i_7 i_8 b_9 i_10 n_11 l_12 l_13 l_14 l_15 l_16 l_17 l_18 s_19) 0 bj (vR _) (Sg.cut 1 (eT bj) (eL aw (vT n_0 c_1 i_2 i_3 i_4 n_5 c_6 i_7 i_8 b_9 i_10 n_11 l_12 l_13 l_14 l_15 l_16 l_17 l_18 s_19) [⟨[],[0,1,2],[0,1,10]⟩]) (fun b1=>Sg.cut 1 (eT bj) (CA (c:=.tmp 10) (kn:=false) (b:=b1) (by kernel_rfl:((jD.drop 1).take 1)=[.cond (.tmp 10) (Kz ((((jD.drop 1).take 1)).headD .skip)) (KA ((((jD.drop 1).take 1)).headD .skip))]) (eT bj) (by kernel_rfl) (Sg.cut 1 (eT bj) (eL aw (vU n_0 c_1 i_2 i_3 i_4 n_5 c_6 i_7 i_8 b_9 i_10 n_11 l_12 l_13 l_14 l_15 l_16 l_17 l_18 s_19) [⟨[],[0,1,2],[0,1,5]⟩]) (fun ⟨w2,w3⟩=>Sg.cut 4 (eT bj) (eL aw (vV n_0 c_1 n_11 l_12 l_13 l_14 l_15 l_16 l_17 l_18) [⟨[],[0,1,2],[4]⟩,⟨[],[0,1,2],[4]⟩,⟨[],[0,1,2],[4]⟩,⟨[],[0,1,2],[4]⟩]) (fun ⟨b4,i5,i6,b7⟩=>eL aw (nT n_0 c_1 i_2 i_3 i_4 n_5 c_6 i_7 i_8 b_9 i_10 n_11 l_12 l_13 l_14 l_15 l_16 l_17 l_18 s_19) [⟨[],[0,1,2],[4]⟩]))) (Sg.cut 1 (eT bj) (eL aw (vW n_0 c_1 i_2 i_3 i_4 n_5 c_6 i_7 i_8 b_9 i_10 n_11 l_12 l_13 l_14 l_15 l_16 l_17 l_18 s_19) [⟨[],[0,1,2],[0,1,68]⟩,⟨[],[0,1,2],[0,1,68]⟩]) (fun b8=>eL aw (nT n_0 c_1 i_2 i_3 i_4 n_5 c_6 i_7 i_8 b_9 i_10 n_11 l_12 l_13 l_14 l_15 l_16 l_17 l_18 s_19) [⟨[],[0,1,2,227],[4]⟩,⟨[],[0,1,2,227],[4]⟩,⟨[],[0,1,2],[4]⟩,⟨[],[0,1,2],[4]⟩,⟨[],[0,1,2],[0,1]⟩]))) (fun _=>eL aw (nS n_0 c_1 i_2 i_3 i_4 n_5 c_6 i_7 i_8 b_9 i_10 n_11 l_12 l_13 l_14 l_15 l_16 l_17 l_18 s_19) [⟨[],[0,1,2],[0,1]⟩])))) (fun _=>Sg.cut 1 bj (eL aw (vX n_0 c_1 i_2 i_3 i_4 n_5 c_6 i_7 i_8 b_9 i_10 n_11 l_12 l_13 l_14 l_15 l_16 l_17 l_18) [⟨[],[0,1,2,83],[0,8,9]⟩]) (fun ⟨e9,i10,i11,i12⟩=>eL aw Av []))))
    (fun x=>by cases x with | r0 b13 a14 a15 i17 i18 i19 a20 a21 i22 i23 b24 i25 a26 l27 l28 l29 l30 l31 l32 l33=>exact uh [.bool false b13] | r1 b34 a35 a36 i37 i38 b39 a40 l41 l42 l43 l44 l45 l46 l47=>exact uh [.bool false b34] | r2 b48 a49 a50 i51 i52 i53 a54 i55 i56 b57 i58 a59 l60 l61 l62 l63 l64 l65 l66=>exact uh [.bool false b48])
def fo:Option aa→Bool
  | some (.r0 _ _ _ _ _ _ _ _ _ _ _ _ _ _ _ _ _ _ _ _)=>true
  | _=>false
def cU:Option aa→Bool
  | some (.r0 x _ _ _ _ _ _ _ _ _ _ _ _ _ _ _ _ _ _ _)=>x
  | _=>false
def ic:Option aa→Nat
  | some (.r0 _ x _ _ _ _ _ _ _ _ _ _ _ _ _ _ _ _ _ _)=>x
  | _=>0
def ig:Option aa→Nat
  | some (.r0 _ _ x _ _ _ _ _ _ _ _ _ _ _ _ _ _ _ _ _)=>x
  | _=>0
def ii:Option aa→Int
  | some (.r0 _ _ _ x _ _ _ _ _ _ _ _ _ _ _ _ _ _ _ _)=>x
  | _=>0
def ij:Option aa→Int
  | some (.r0 _ _ _ _ x _ _ _ _ _ _ _ _ _ _ _ _ _ _ _)=>x
  | _=>0
def ik:Option aa→Int
  | some (.r0 _ _ _ _ _ x _ _ _ _ _ _ _ _ _ _ _ _ _ _)=>x
  | _=>0
def il:Option aa→Nat
  | some (.r0 _ _ _ _ _ _ x _ _ _ _ _ _ _ _ _ _ _ _ _)=>x
  | _=>0
def im:Option aa→Nat
  | some (.r0 _ _ _ _ _ _ _ x _ _ _ _ _ _ _ _ _ _ _ _)=>x
  | _=>0
def io:Option aa→Int
  | some (.r0 _ _ _ _ _ _ _ _ x _ _ _ _ _ _ _ _ _ _ _)=>x
  | _=>0
def ip:Option aa→Int
  | some (.r0 _ _ _ _ _ _ _ _ _ x _ _ _ _ _ _ _ _ _ _)=>x
  | _=>0
def fK:Option aa→Bool
  | some (.r0 _ _ _ _ _ _ _ _ _ _ x _ _ _ _ _ _ _ _ _)=>x
  | _=>false
def fL:Option aa→Int
  | some (.r0 _ _ _ _ _ _ _ _ _ _ _ x _ _ _ _ _ _ _ _)=>x
  | _=>0
def fM:Option aa→Nat
  | some (.r0 _ _ _ _ _ _ _ _ _ _ _ _ x _ _ _ _ _ _ _)=>x
  | _=>0
def fN:Option aa→List Int
  | some (.r0 _ _ _ _ _ _ _ _ _ _ _ _ _ x _ _ _ _ _ _)=>x
  | _=>[]
def fO:Option aa→List Int
  | some (.r0 _ _ _ _ _ _ _ _ _ _ _ _ _ _ x _ _ _ _ _)=>x
  | _=>[]
def fP:Option aa→List Int
  | some (.r0 _ _ _ _ _ _ _ _ _ _ _ _ _ _ _ x _ _ _ _)=>x
  | _=>[]
def fQ:Option aa→List (List Int)
  | some (.r0 _ _ _ _ _ _ _ _ _ _ _ _ _ _ _ _ x _ _ _)=>x
  | _=>[]
def fR:Option aa→List Int
  | some (.r0 _ _ _ _ _ _ _ _ _ _ _ _ _ _ _ _ _ x _ _)=>x
  | _=>[]
def fS:Option aa→List Int
  | some (.r0 _ _ _ _ _ _ _ _ _ _ _ _ _ _ _ _ _ _ x _)=>x
  | _=>[]
def fT:Option aa→List Int
  | some (.r0 _ _ _ _ _ _ _ _ _ _ _ _ _ _ _ _ _ _ _ x)=>x
  | _=>[]
theorem vY{x:Option aa}(h:fo x=true) :x=some (.r0 (cU x) (ic x) (ig x) (ii x) (ij x) (ik x) (il x) (im x) (io x) (ip x) (fK x) (fL x) (fM x) (fN x) (fO x) (fP x) (fQ x) (fR x) (fS x) (fT x)):=by
  unfold fo at h
  split at h<;>first | rfl | (cases h;done) | (rename_i y;cases y;rfl)
def fp:Option aa→Bool
  | some (.r1 _ _ _ _ _ _ _ _ _ _ _ _ _ _)=>true
  | _=>false
def cV:Option aa→Bool
  | some (.r1 x _ _ _ _ _ _ _ _ _ _ _ _ _)=>x
  | _=>false
def iq:Option aa→Nat
  | some (.r1 _ x _ _ _ _ _ _ _ _ _ _ _ _)=>x
  | _=>0
def ir:Option aa→Nat
  | some (.r1 _ _ x _ _ _ _ _ _ _ _ _ _ _)=>x
  | _=>0
def iu:Option aa→Int
  | some (.r1 _ _ _ x _ _ _ _ _ _ _ _ _ _)=>x
  | _=>0
def iv:Option aa→Int
  | some (.r1 _ _ _ _ x _ _ _ _ _ _ _ _ _)=>x
  | _=>0
def iw:Option aa→Bool
  | some (.r1 _ _ _ _ _ x _ _ _ _ _ _ _ _)=>x
  | _=>false
def iy:Option aa→Nat
  | some (.r1 _ _ _ _ _ _ x _ _ _ _ _ _ _)=>x
  | _=>0
def iz:Option aa→List Int
  | some (.r1 _ _ _ _ _ _ _ x _ _ _ _ _ _)=>x
  | _=>[]
def iA:Option aa→List Int
  | some (.r1 _ _ _ _ _ _ _ _ x _ _ _ _ _)=>x
  | _=>[]
def iB:Option aa→List Int
  | some (.r1 _ _ _ _ _ _ _ _ _ x _ _ _ _)=>x
  | _=>[]
def fU:Option aa→List (List Int)
  | some (.r1 _ _ _ _ _ _ _ _ _ _ x _ _ _)=>x
  | _=>[]
def fV:Option aa→List Int
  | some (.r1 _ _ _ _ _ _ _ _ _ _ _ x _ _)=>x
  | _=>[]
def fW:Option aa→List Int
  | some (.r1 _ _ _ _ _ _ _ _ _ _ _ _ x _)=>x
  | _=>[]
def lR:Option aa→List Int
  | some (.r1 _ _ _ _ _ _ _ _ _ _ _ _ _ x)=>x
  | _=>[]
theorem vZ{x:Option aa}(h:fp x=true) :x=some (.r1 (cV x) (iq x) (ir x) (iu x) (iv x) (iw x) (iy x) (iz x) (iA x) (iB x) (fU x) (fV x) (fW x) (lR x)):=by
  unfold fp at h
  split at h<;>first | rfl | (cases h;done) | (rename_i y;cases y;rfl)
def fq:Option aa→Bool
  | some (.r2 _ _ _ _ _ _ _ _ _ _ _ _ _ _ _ _ _ _ _)=>true
  | _=>false
def cW:Option aa→Bool
  | some (.r2 x _ _ _ _ _ _ _ _ _ _ _ _ _ _ _ _ _ _)=>x
  | _=>false
def iC:Option aa→Nat
  | some (.r2 _ x _ _ _ _ _ _ _ _ _ _ _ _ _ _ _ _ _)=>x
  | _=>0
def iD:Option aa→Nat
  | some (.r2 _ _ x _ _ _ _ _ _ _ _ _ _ _ _ _ _ _ _)=>x
  | _=>0
def iE:Option aa→Int
  | some (.r2 _ _ _ x _ _ _ _ _ _ _ _ _ _ _ _ _ _ _)=>x
  | _=>0
def iF:Option aa→Int
  | some (.r2 _ _ _ _ x _ _ _ _ _ _ _ _ _ _ _ _ _ _)=>x
  | _=>0
def iG:Option aa→Int
  | some (.r2 _ _ _ _ _ x _ _ _ _ _ _ _ _ _ _ _ _ _)=>x
  | _=>0
def dR:Option aa→Nat
  | some (.r2 _ _ _ _ _ _ x _ _ _ _ _ _ _ _ _ _ _ _)=>x
  | _=>0
def iH:Option aa→Int
  | some (.r2 _ _ _ _ _ _ _ x _ _ _ _ _ _ _ _ _ _ _)=>x
  | _=>0
def iI:Option aa→Int
  | some (.r2 _ _ _ _ _ _ _ _ x _ _ _ _ _ _ _ _ _ _)=>x
  | _=>0
def iJ:Option aa→Bool
  | some (.r2 _ _ _ _ _ _ _ _ _ x _ _ _ _ _ _ _ _ _)=>x
  | _=>false
def fX:Option aa→Int
  | some (.r2 _ _ _ _ _ _ _ _ _ _ x _ _ _ _ _ _ _ _)=>x
  | _=>0
def fY:Option aa→Nat
  | some (.r2 _ _ _ _ _ _ _ _ _ _ _ x _ _ _ _ _ _ _)=>x
  | _=>0
def fZ:Option aa→List Int
  | some (.r2 _ _ _ _ _ _ _ _ _ _ _ _ x _ _ _ _ _ _)=>x
  | _=>[]
def gg:Option aa→List Int
  | some (.r2 _ _ _ _ _ _ _ _ _ _ _ _ _ x _ _ _ _ _)=>x
  | _=>[]
def gh:Option aa→List Int
  | some (.r2 _ _ _ _ _ _ _ _ _ _ _ _ _ _ x _ _ _ _)=>x
  | _=>[]
def gi:Option aa→List (List Int)
  | some (.r2 _ _ _ _ _ _ _ _ _ _ _ _ _ _ _ x _ _ _)=>x
  | _=>[]
def gj:Option aa→List Int
  | some (.r2 _ _ _ _ _ _ _ _ _ _ _ _ _ _ _ _ x _ _)=>x
  | _=>[]
def gk:Option aa→List Int
  | some (.r2 _ _ _ _ _ _ _ _ _ _ _ _ _ _ _ _ _ x _)=>x
  | _=>[]
def gl:Option aa→List Int
  | some (.r2 _ _ _ _ _ _ _ _ _ _ _ _ _ _ _ _ _ _ x)=>x
  | _=>[]
theorem wa{x:Option aa}(h:fq x=true) :x=some (.r2 (cW x) (iC x) (iD x) (iE x) (iF x) (iG x) (dR x) (iH x) (iI x) (iJ x) (fX x) (fY x) (fZ x) (gg x) (gh x) (gi x) (gj x) (gk x) (gl x)):=by
  unfold fq at h
  split at h<;>first | rfl | (cases h;done) | (rename_i y;cases y;rfl)
def mn(q:Option aa)(pre:List Bool) :List ny:=[⟨ee (.r0 (cU q) (ic q) (ig q) (ii q) (ij q) (ik q) (il q) (im q) (io q) (ip q) (fK q) (fL q) (fM q) (fN q) (fO q) (fP q) (fQ q) (fR q) (fS q) (fT q)),pre++[fo q]⟩,
  ⟨ee (.r1 (cV q) (iq q) (ir q) (iu q) (iv q) (iw q) (iy q) (iz q) (iA q) (iB q) (fU q) (fV q) (fW q) (lR q)),pre++[fp q]⟩,
  ⟨ee (.r2 (cW q) (iC q) (iD q) (iE q) (iF q) (iG q) (dR q) (iH q) (iI q) (iJ q) (fX q) (fY q) (fZ q) (gg q) (gh q) (gi q) (gj q) (gk q) (gl q)),pre++[fq q]⟩]
inductive ac where
  | r0 (b22:Bool) (a23:Nat) (a24:Nat) (i25:Int) (i26:Int) (i27:Int) (l28:List Int) (a29:Nat) (i30:Int) (i31:Int) (b32:Bool) (i33:Int) (a34:Nat) (l35:List Int) (l36:List Int) (l37:List Int) (l38:List (List Int)) (l39:List Int) (l40:List Int)
  | r1 (b41:Bool) (a42:Nat) (a43:Nat) (i44:Int) (i45:Int) (b46:Bool) (a47:Nat) (l48:List Int) (l49:List Int) (l50:List Int) (l51:List (List Int)) (l52:List Int) (l53:List Int)
  | r2 (b54:Bool) (a55:Nat) (i56:Int) (i57:Int) (i58:Int) (l59:List Int) (a60:Nat) (i61:Int) (i62:Int) (b63:Bool) (i65:Int) (l66:List Int) (l67:List Int) (l68:List Int) (l69:List (List Int)) (l70:List Int) (l71:List Int)
def ld:ac→AE×aG
  | .r0 b22 a23 a24 i25 i26 i27 l28 a29 i30 i31 b32 i33 a34 l35 l36 l37 l38 l39 l40=>(.ret,⟨aF 164 [(4,.bool false b22)],[(0,.vs [.sl 1 6 6 0 a23 a24,.int .i64 i25,.int .i64 i26,.int .i64 i27,.imm (.up .free) (.ns .u64 l28) 1 1 0 a29,.int .i64 i30,.int .u64 i31,.bool false b32,.int .i64 i33]),(1,.cols a34 [.ci .i64 l35,.ci .i64 l36,.ci .i64 l37,.cns .u64 l38,.ci .i64 l39,.ci .u64 l40])],2⟩)
  | .r1 b41 a42 a43 i44 i45 b46 a47 l48 l49 l50 l51 l52 l53=>(.ret,⟨aF 164 [(4,.bool false b41)],[(0,.vs [.sl 1 6 6 0 a42 a43,.int .i64 (0:Int),.int .i64 i44,.int .i64 i45,.nsl,.int .i64 (0:Int),.int .u64 (0:Int),.bool false b46,.int .i64 (0:Int)]),(1,.cols a47 [.ci .i64 l48,.ci .i64 l49,.ci .i64 l50,.cns .u64 l51,.ci .i64 l52,.ci .u64 l53])],2⟩)
  | .r2 b54 a55 i56 i57 i58 l59 a60 i61 i62 b63 i65 l66 l67 l68 l69 l70 l71=>(.ret,⟨aF 164 [(4,.bool false b54)],[(0,.vs [.sl 2 6 6 0 a55 a55,.int .i64 i56,.int .i64 i57,.int .i64 i58,.imm (.up .free) (.ns .u64 l59) 1 1 0 a60,.int .i64 i61,.int .u64 i62,.bool false b63,.int .i64 i65]),(2,.cols a55 [.ci .i64 l66,.ci .i64 l67,.ci .i64 l68,.cns .u64 l69,.ci .i64 l70,.ci .u64 l71])],3⟩)
theorem aY:ug ld:=by intro x;cases x<;>(intro h;cases h)
theorem wb(id:Nat) :vy id ld:=by intro x;cases x<;>(intro h;cases h)
def ef:ac→nE
  | .r0 b22 a23 a24 i25 i26 i27 l28 a29 i30 i31 b32 i33 a34 l35 l36 l37 l38 l39 l40=>⟨.bool false b22,[some (.vs [.sl 1 6 6 0 a23 a24,.int .i64 i25,.int .i64 i26,.int .i64 i27,.imm (.up .free) (.ns .u64 l28) 1 1 0 a29,.int .i64 i30,.int .u64 i31,.bool false b32,.int .i64 i33]),some (.cols a34 [.ci .i64 l35,.ci .i64 l36,.ci .i64 l37,.cns .u64 l38,.ci .i64 l39,.ci .u64 l40])]⟩
  | .r1 b41 a42 a43 i44 i45 b46 a47 l48 l49 l50 l51 l52 l53=>⟨.bool false b41,[some (.vs [.sl 1 6 6 0 a42 a43,.int .i64 (0:Int),.int .i64 i44,.int .i64 i45,.nsl,.int .i64 (0:Int),.int .u64 (0:Int),.bool false b46,.int .i64 (0:Int)]),some (.cols a47 [.ci .i64 l48,.ci .i64 l49,.ci .i64 l50,.cns .u64 l51,.ci .i64 l52,.ci .u64 l53])]⟩
  | .r2 b54 a55 i56 i57 i58 l59 a60 i61 i62 b63 i65 l66 l67 l68 l69 l70 l71=>⟨.bool false b54,[some (.vs [.sl 2 6 6 0 a55 a55,.int .i64 i56,.int .i64 i57,.int .i64 i58,.imm (.up .free) (.ns .u64 l59) 1 1 0 a60,.int .i64 i61,.int .u64 i62,.bool false b63,.int .i64 i65]),none,some (.cols a55 [.ci .i64 l66,.ci .i64 l67,.ci .i64 l68,.cns .u64 l69,.ci .i64 l70,.ci .u64 l71])]⟩
noncomputable def uC:List Code:=dW (yq bD)
def wc(n_0:Nat)(c_1:Nat)(i_2:Int)(i_3:Int)(i_4:Int)(w_5:List Int)(i_6:Int)(i_7:Int)(b_8:Bool)(i_9:Int)(n_10:Nat)(l_11:List Int)(l_12:List Int)(l_13:List Int)(l_14:List (List Int))(l_15:List Int)(l_16:List Int)(s_17:ByteArray)(_:Unit) :aG:=⟨aF 164 [(0,.ptr 0 1 0 0),(1,.str s_17)],[(0,.vs [.sl 1 6 6 0 n_0 c_1,.int .i64 i_2,.int .i64 i_3,.int .i64 i_4,.imm (.up .free) (.ns .u64 w_5) 1 1 0 (List.length w_5),.int .i64 i_6,.int .u64 i_7,.bool false b_8,.int .i64 i_9]),(1,.cols n_10 [.ci .i64 l_11,.ci .i64 l_12,.ci .i64 l_13,.cns .u64 l_14,.ci .i64 l_15,.ci .u64 l_16])],2⟩
def uD:T ((Unit)⊕(ac)) :=
  .leaf (.inl ())
def nU(n_0:Nat)(c_1:Nat)(i_2:Int)(i_3:Int)(i_4:Int)(w_5:List Int)(i_6:Int)(i_7:Int)(b_8:Bool)(i_9:Int)(n_10:Nat)(l_11:List Int)(l_12:List Int)(l_13:List Int)(l_14:List (List Int))(l_15:List Int)(l_16:List Int)(s_17:ByteArray)(_:Unit) :aG:=⟨aF 164 [(0,.ptr 0 1 0 0),(1,.str s_17)],[(0,.vs [.sl 1 6 6 0 n_0 c_1,.int .i64 i_2,.int .i64 i_3,.int .i64 i_4,.imm (.up .free) (.ns .u64 w_5) 1 1 0 (List.length w_5),.int .i64 i_6,.int .u64 i_7,.bool false b_8,.int .i64 i_9]),(1,.cols n_10 [.ci .i64 l_11,.ci .i64 l_12,.ci .i64 l_13,.cns .u64 l_14,.ci .i64 l_15,.ci .u64 l_16])],2⟩
noncomputable def jF:List Code:=dW (inBlock ((((uC.drop 1).take 1)).headD .skip))
def we(n_0:Nat)(c_1:Nat)(i_2:Int)(i_3:Int)(i_4:Int)(w_5:List Int)(i_6:Int)(i_7:Int)(b_8:Bool)(i_9:Int)(n_10:Nat)(l_11:List Int)(l_12:List Int)(l_13:List Int)(l_14:List (List Int))(l_15:List Int)(l_16:List Int)(s_17:ByteArray)(b1:Bool) :aG:=⟨aF 164 [(0,.ptr 0 1 0 0),(1,.str s_17),(10,.bool false b1)],[(0,.vs [.sl 1 6 6 0 n_0 c_1,.int .i64 i_2,.int .i64 i_3,.int .i64 i_4,.imm (.up .free) (.ns .u64 w_5) 1 1 0 (List.length w_5),.int .i64 i_6,.int .u64 i_7,.bool false b_8,.int .i64 i_9]),(1,.cols n_10 [.ci .i64 l_11,.ci .i64 l_12,.ci .i64 l_13,.cns .u64 l_14,.ci .i64 l_15,.ci .u64 l_16])],2⟩
def uE(b_8:Bool) :T ((Bool)⊕((Unit)⊕(ac))) :=
  .leaf (.inl (!b_8))
def nV(n_0:Nat)(c_1:Nat)(i_2:Int)(i_3:Int)(i_4:Int)(w_5:List Int)(i_6:Int)(i_7:Int)(b_8:Bool)(i_9:Int)(n_10:Nat)(l_11:List Int)(l_12:List Int)(l_13:List Int)(l_14:List (List Int))(l_15:List Int)(l_16:List Int)(s_17:ByteArray)(_:Unit) :aG:=⟨aF 164 [(0,.ptr 0 1 0 0),(1,.str s_17)],[(0,.vs [.sl 1 6 6 0 n_0 c_1,.int .i64 i_2,.int .i64 i_3,.int .i64 i_4,.imm (.up .free) (.ns .u64 w_5) 1 1 0 (List.length w_5),.int .i64 i_6,.int .u64 i_7,.bool false b_8,.int .i64 i_9]),(1,.cols n_10 [.ci .i64 l_11,.ci .i64 l_12,.ci .i64 l_13,.cns .u64 l_14,.ci .i64 l_15,.ci .u64 l_16])],2⟩
def wf(n_0:Nat)(c_1:Nat)(i_2:Int)(i_3:Int)(i_4:Int)(w_5:List Int)(i_6:Int)(i_7:Int)(b_8:Bool)(i_9:Int)(n_10:Nat)(l_11:List Int)(l_12:List Int)(l_13:List Int)(l_14:List (List Int))(l_15:List Int)(l_16:List Int)(s_17:ByteArray) :(List ByteArray)×Nat→aG:=fun (w2,w3)=>⟨aF 164 [(0,.ptr 0 1 0 0),(1,.str s_17),(5,.imm .free (.ss w2) 1 1 0 w3)],[(0,.vs [.sl 1 6 6 0 n_0 c_1,.int .i64 i_2,.int .i64 i_3,.int .i64 i_4,.imm (.up .free) (.ns .u64 w_5) 1 1 0 (List.length w_5),.int .i64 i_6,.int .u64 i_7,.bool false b_8,.int .i64 i_9]),(1,.cols n_10 [.ci .i64 l_11,.ci .i64 l_12,.ci .i64 l_13,.cns .u64 l_14,.ci .i64 l_15,.ci .u64 l_16])],2⟩
def jG(s_17:ByteArray) :T (((List ByteArray)×Nat)⊕((Unit)⊕(ac))) :=
  .need (ed (bL s_17 (ByteArray.mk #[32])))<|.leaf (.inl ((eE (bL s_17 (ByteArray.mk #[32]))),(eD (bL s_17 (ByteArray.mk #[32])))))
def wg(n_0:Nat)(c_1:Nat)(n_10:Nat)(l_11:List Int)(l_12:List Int)(l_13:List Int)(l_14:List (List Int))(l_15:List Int)(l_16:List Int) :Bool×Int×Int×Bool→aG:=fun (b4,i5,i6,b7)=>⟨aF 164 [(4,.bool false b4)],[(0,.vs [.sl 1 6 6 0 n_0 c_1,.int .i64 (0:Int),.int .i64 i5,.int .i64 i6,.nsl,.int .i64 (0:Int),.int .u64 (0:Int),.bool false b7,.int .i64 (0:Int)]),(1,.cols n_10 [.ci .i64 l_11,.ci .i64 l_12,.ci .i64 l_13,.cns .u64 l_14,.ci .i64 l_15,.ci .u64 l_16])],2⟩
def eF(n_0:Nat)(c_1:Nat)(i_2:Int)(i_3:Int)(i_4:Int)(w_5:List Int)(i_6:Int)(i_7:Int)(b_8:Bool)(i_9:Int)(n_10:Nat)(l_11:List Int)(l_12:List Int)(l_13:List Int)(l_14:List (List Int))(l_15:List Int)(l_16:List Int)(s_17:ByteArray)(w2:List ByteArray)(w3:Nat) :T ((Bool×Int×Int×Bool)⊕((Unit)⊕(ac))) :=
  .ask (((w3:Nat):Int) != (3:Int))
    (.leaf (.inr (.inr (.r0 false n_0 c_1 i_2 i_3 i_4 w_5 (List.length w_5) i_6 i_7 b_8 i_9 n_10 l_11 l_12 l_13 l_14 l_15 l_16))))
    (.need (yh (1:Int) w3)<|.need (nv 1 (List.length w2))<|.need (ek (List.getD w2 1 ByteArray.empty).size)<|.need (yh (2:Int) w3)<|.need (nv 2 (List.length w2))<|.need (ek (List.getD w2 2 ByteArray.empty).size)<|.need (dr (bM (cS (List.getD w2 1 ByteArray.empty))))<|.ask (dj (bM (cS (List.getD w2 1 ByteArray.empty))))
      (.need (dr (bM (cS (List.getD w2 2 ByteArray.empty))))<|.ask (dj (bM (cS (List.getD w2 2 ByteArray.empty))))
        (.need (fF (dh (cS (List.getD w2 1 ByteArray.empty)) (cS (List.getD w2 2 ByteArray.empty))))<|.leaf (.inl (((gS (dh (cS (List.getD w2 1 ByteArray.empty)) (cS (List.getD w2 2 ByteArray.empty)))).toList==s_17.toList),(cS (List.getD w2 1 ByteArray.empty)),(cS (List.getD w2 2 ByteArray.empty)),true)))
        (.leaf (.inl (false,(cS (List.getD w2 1 ByteArray.empty)),(cS (List.getD w2 2 ByteArray.empty)),true))))
      (.leaf (.inl (false,(cS (List.getD w2 1 ByteArray.empty)),(cS (List.getD w2 2 ByteArray.empty)),true))))
def uF(n_0:Nat)(c_1:Nat)(n_10:Nat)(l_11:List Int)(l_12:List Int)(l_13:List Int)(l_14:List (List Int))(l_15:List Int)(l_16:List Int)(b4:Bool)(i5:Int)(i6:Int)(b7:Bool) :T ((Unit)⊕((Unit)⊕(ac))) :=
  .leaf (.inr (.inr (.r1 b4 n_0 c_1 i5 i6 b7 n_10 l_11 l_12 l_13 l_14 l_15 l_16)))
def wh(n_0:Nat)(c_1:Nat)(i_2:Int)(i_3:Int)(i_4:Int)(w_5:List Int)(i_6:Int)(i_7:Int)(b_8:Bool)(i_9:Int)(n_10:Nat)(l_11:List Int)(l_12:List Int)(l_13:List Int)(l_14:List (List Int))(l_15:List Int)(l_16:List Int)(s_17:ByteArray)(b8:Bool) :aG:=⟨aF 164 [(0,.ptr 0 1 0 0),(1,.str s_17),(68,.bool false b8)],[(0,.vs [.sl 1 6 6 0 n_0 c_1,.int .i64 i_2,.int .i64 i_3,.int .i64 i_4,.imm (.up .free) (.ns .u64 w_5) 1 1 0 (List.length w_5),.int .i64 i_6,.int .u64 i_7,.bool false b_8,.int .i64 i_9]),(1,.cols n_10 [.ci .i64 l_11,.ci .i64 l_12,.ci .i64 l_13,.cns .u64 l_14,.ci .i64 l_15,.ci .u64 l_16])],2⟩
def jH(i_3:Int)(i_4:Int)(i_9:Int) :T ((Bool)⊕((Unit)⊕(ac))) :=
  .ask (decide (i_9<i_3))
    (.leaf (.inl (decide (i_4>(0:Int)))))
    (.leaf (.inl false))
def uG(s_17:ByteArray)(b8:Bool) :T ((Unit)⊕((Unit)⊕(ac))) :=
  .ask b8
    (.alt 0
      (.need (dE s_17)<|.need (ek s_17.size)<|.fail)
      (.alt 1
        (.need (!dE s_17)<|.need (ek s_17.size)<|.fail)
        (.fail)))
    (.leaf (.inl ()))
def uH:T ((Unit)⊕((Unit)⊕(ac))) :=
  .leaf (.inl ())
def wj(n_0:Nat)(c_1:Nat)(i_2:Int)(i_3:Int)(i_4:Int)(w_5:List Int)(i_6:Int)(i_7:Int)(b_8:Bool)(i_9:Int)(n_10:Nat)(l_11:List Int)(l_12:List Int)(l_13:List Int)(l_14:List (List Int))(l_15:List Int)(l_16:List Int) :Nat×Int×Int×Int→aG:=fun (e9,i10,i11,i12)=>⟨aF 164 [(0,.ptr 0 1 0 0),(8,.ptr 2 1 0 0),(9,.int .i64 ((e9:Nat):Int))],[(0,.vs [.sl 1 6 6 0 n_0 c_1,.int .i64 i_2,.int .i64 i_3,.int .i64 i_4,.imm (.up .free) (.ns .u64 w_5) 1 1 0 (List.length w_5),.int .i64 i_6,.int .u64 i_7,.bool false b_8,.int .i64 i_9]),(1,.cols n_10 [.ci .i64 l_11,.ci .i64 l_12,.ci .i64 l_13,.cns .u64 l_14,.ci .i64 l_15,.ci .u64 l_16]),(2,.vs [.int .i64 i10,.int .i64 (0:Int),.int .i64 (0:Int),.nsl,.int .i64 i11,.int .u64 i12])],3⟩
def jI(s_17:ByteArray) :T ((Nat×Int×Int×Int)⊕(ac)) :=
  .need (dZ (aS s_17))<|.leaf (.inl ((ez (aS s_17)),(eA (aS s_17)),(eB (aS s_17)),(eC (aS s_17))))
def uI(i_2:Int)(i_3:Int)(i_4:Int)(w_5:List Int)(i_6:Int)(i_7:Int)(i_9:Int) :Bool×Nat×Bool×(List Int)×(List Int)×(List Int)×(List (List Int))×(List Int)×(List Int)→aG:=fun (b13,a14,b15,l16,l17,l18,l19,l20,l21)=>⟨aF 164 [(4,.bool false b13)],[(0,.vs [.sl 2 6 6 0 a14 a14,.int .i64 i_2,.int .i64 i_3,.int .i64 i_4,.imm (.up .free) (.ns .u64 w_5) 1 1 0 (List.length w_5),.int .i64 i_6,.int .u64 i_7,.bool false b15,.int .i64 i_9]),(2,.cols a14 [.ci .i64 l16,.ci .i64 l17,.ci .i64 l18,.cns .u64 l19,.ci .i64 l20,.ci .u64 l21])],3⟩
def jJ(n_0:Nat)(i_3:Int)(i_4:Int)(w_5:List Int)(n_10:Nat)(l_11:List Int)(l_12:List Int)(l_13:List Int)(l_14:List (List Int))(l_15:List Int)(l_16:List Int)(e9:Nat)(i10:Int)(i11:Int)(i12:Int) :T ((Bool×Nat×Bool×(List Int)×(List Int)×(List Int)×(List (List Int))×(List Int)×(List Int))⊕(ac)) :=
  .need (kF ((n_0+1)*64) 140737488355328)<|.need (kF (n_0+1) 9223372036854775807)<|.need (kF 6 6)<|.need (kF n_0 n_10)<|.need (decide (0+(List.length w_5)≤List.length w_5))<|.ask (((e9:Nat):Int)==(0:Int))
    (.need (ue 0 (List.length w_5) w_5)<|.need (ly (kv i10 i_3 i_4 (ba 0 (List.length w_5) w_5) i11 i12))<|.leaf (.inl ((mc (kv i10 i_3 i_4 (ba 0 (List.length w_5) w_5) i11 i12)),(n_0+1),false,((List.take n_0 l_11)++[i10]),((List.take n_0 l_12)++[i_3]),((List.take n_0 l_13)++[i_4]),((List.take n_0 l_14)++[(List.take (List.length w_5) (List.drop 0 w_5))]),((List.take n_0 l_15)++[i11]),((List.take n_0 l_16)++[i12]))))
    (.leaf (.inl (false,(n_0+1),false,((List.take n_0 l_11)++[i10]),((List.take n_0 l_12)++[i_3]),((List.take n_0 l_13)++[i_4]),((List.take n_0 l_14)++[(List.take (List.length w_5) (List.drop 0 w_5))]),((List.take n_0 l_15)++[i11]),((List.take n_0 l_16)++[i12]))))
def uJ(i_2:Int)(i_3:Int)(i_4:Int)(w_5:List Int)(i_6:Int)(i_7:Int)(i_9:Int)(b13:Bool)(a14:Nat)(b15:Bool)(l16:List Int)(l17:List Int)(l18:List Int)(l19:List (List Int))(l20:List Int)(l21:List Int) :T ((Empty)⊕(ac)) :=
  .leaf (.inr (.r2 b13 a14 i_2 i_3 i_4 w_5 (List.length w_5) i_6 i_7 b15 i_9 l16 l17 l18 l19 l20 l21))
noncomputable def bz(n_0:Nat)(c_1:Nat)(i_2:Int)(i_3:Int)(i_4:Int)(w_5:List Int)(i_6:Int)(i_7:Int)(b_8:Bool)(i_9:Int)(n_10:Nat)(l_11:List Int)(l_12:List Int)(l_13:List Int)(l_14:List (List Int))(l_15:List Int)(l_16:List Int)(s_17:ByteArray) :Option ac:=Au (ch ((uD).run) fun _ =>
  ch (sW (ch ((uE b_8).run) fun b1 =>
  ch ((bif b1 then ch ((jG s_17).run) fun (w2,w3) =>
  ch ((eF n_0 c_1 i_2 i_3 i_4 w_5 i_6 i_7 b_8 i_9 n_10 l_11 l_12 l_13 l_14 l_15 l_16 s_17 w2 w3).run) fun (b4,i5,i6,b7) =>
  (uF n_0 c_1 n_10 l_11 l_12 l_13 l_14 l_15 l_16 b4 i5 i6 b7).run else ch ((jH i_3 i_4 i_9).run) fun b8 =>
  (uG s_17 b8).run)) fun _ =>
  (uH).run)) fun _ =>
  ch ((jI s_17).run) fun (e9,i10,i11,i12) =>
  ch ((jJ n_0 i_3 i_4 w_5 n_10 l_11 l_12 l_13 l_14 l_15 l_16 e9 i10 i11 i12).run) fun (b13,a14,b15,l16,l17,l18,l19,l20,l21) =>
  (uJ i_2 i_3 i_4 w_5 i_6 i_7 i_9 b13 a14 b15 l16 l17 l18 l19 l20 l21).run)
theorem kA(n_0:Nat)(c_1:Nat)(i_2:Int)(i_3:Int)(i_4:Int)(w_5:List Int)(i_6:Int)(i_7:Int)(b_8:Bool)(i_9:Int)(n_10:Nat)(l_11:List Int)(l_12:List Int)(l_13:List Int)(l_14:List (List Int))(l_15:List Int)(l_16:List Int)(s_17:ByteArray){x:ac}(h:bz n_0 c_1 i_2 i_3 i_4 w_5 i_6 i_7 b_8 i_9 n_10 l_11 l_12 l_13 l_14 l_15 l_16 s_17=some x) :ao prog bD [.vs [.sl 1 6 6 0 n_0 c_1,.int .i64 i_2,.int .i64 i_3,.int .i64 i_4,.imm (.up .free) (.ns .u64 w_5) 1 1 0 (List.length w_5),.int .i64 i_6,.int .u64 i_7,.bool false b_8,.int .i64 i_9],.cols n_10 [.ci .i64 l_11,.ci .i64 l_12,.ci .i64 l_13,.cns .u64 l_14,.ci .i64 l_15,.ci .u64 l_16]] [.ptr 0 1 0 0,.str s_17] (ef x) :=
  DS false ef ld h (Sg.cut 1 aY (eL aw (wc n_0 c_1 i_2 i_3 i_4 w_5 i_6 i_7 b_8 i_9 n_10 l_11 l_12 l_13 l_14 l_15 l_16 s_17) [⟨[],[0,1],[0,1]⟩]) (fun _=>Sg.cut 1 aY (Oj (nU n_0 c_1 i_2 i_3 i_4 w_5 i_6 i_7 b_8 i_9 n_10 l_11 l_12 l_13 l_14 l_15 l_16 s_17) 0 aY (wb _) (Sg.cut 1 (eT aY) (eL aw (we n_0 c_1 i_2 i_3 i_4 w_5 i_6 i_7 b_8 i_9 n_10 l_11 l_12 l_13 l_14 l_15 l_16 s_17) [⟨[],[0,1],[0,1,10]⟩]) (fun b1=>Sg.cut 1 (eT aY) (CA (c:=.tmp 10) (kn:=false) (b:=b1) (by kernel_rfl:((jF.drop 1).take 1)=[.cond (.tmp 10) (Kz ((((jF.drop 1).take 1)).headD .skip)) (KA ((((jF.drop 1).take 1)).headD .skip))]) (eT aY) (by kernel_rfl) (Sg.cut 1 (eT aY) (eL aw (wf n_0 c_1 i_2 i_3 i_4 w_5 i_6 i_7 b_8 i_9 n_10 l_11 l_12 l_13 l_14 l_15 l_16 s_17) [⟨[],[0,1],[0,1,5]⟩]) (fun ⟨w2,w3⟩=>Sg.cut 4 (eT aY) (eL aw (wg n_0 c_1 n_10 l_11 l_12 l_13 l_14 l_15 l_16) [⟨[],[0,1],[4]⟩,⟨[],[0,1],[4]⟩,⟨[],[0,1],[4]⟩,⟨[],[0,1],[4]⟩]) (fun ⟨b4,i5,i6,b7⟩=>eL aw (nV n_0 c_1 i_2 i_3 i_4 w_5 i_6 i_7 b_8 i_9 n_10 l_11 l_12 l_13 l_14 l_15 l_16 s_17) [⟨[],[0,1],[4]⟩]))) (Sg.cut 1 (eT aY) (eL aw (wh n_0 c_1 i_2 i_3 i_4 w_5 i_6 i_7 b_8 i_9 n_10 l_11 l_12 l_13 l_14 l_15 l_16 s_17) [⟨[],[0,1],[0,1,68]⟩,⟨[],[0,1],[0,1,68]⟩]) (fun b8=>eL aw (nV n_0 c_1 i_2 i_3 i_4 w_5 i_6 i_7 b_8 i_9 n_10 l_11 l_12 l_13 l_14 l_15 l_16 s_17) [⟨[],[0,1],[0,1]⟩]))) (fun _=>eL aw (nU n_0 c_1 i_2 i_3 i_4 w_5 i_6 i_7 b_8 i_9 n_10 l_11 l_12 l_13 l_14 l_15 l_16 s_17) [⟨[],[0,1],[0,1]⟩])))) (fun _=>Sg.cut 1 aY (eL aw (wj n_0 c_1 i_2 i_3 i_4 w_5 i_6 i_7 b_8 i_9 n_10 l_11 l_12 l_13 l_14 l_15 l_16) [⟨[],[0,1,82],[0,8,9]⟩]) (fun ⟨e9,i10,i11,i12⟩=>Sg.cut 3 aY (eL aw (uI i_2 i_3 i_4 w_5 i_6 i_7 i_9) [⟨[],[0,1,467],[4]⟩,⟨[],[0,1,467],[4]⟩]) (fun ⟨b13,a14,b15,l16,l17,l18,l19,l20,l21⟩=>eL aw Av [⟨[],[0,1,2],[4]⟩])))))
    (fun x=>by cases x with | r0 b22 a23 a24 i25 i26 i27 l28 a29 i30 i31 b32 i33 a34 l35 l36 l37 l38 l39 l40=>exact uh [.bool false b22] | r1 b41 a42 a43 i44 i45 b46 a47 l48 l49 l50 l51 l52 l53=>exact uh [.bool false b41] | r2 b54 a55 i56 i57 i58 l59 a60 i61 i62 b63 i65 l66 l67 l68 l69 l70 l71=>exact uh [.bool false b54])
def ft:Option ac→Bool
  | some (.r0 _ _ _ _ _ _ _ _ _ _ _ _ _ _ _ _ _ _ _)=>true
  | _=>false
def cX:Option ac→Bool
  | some (.r0 x _ _ _ _ _ _ _ _ _ _ _ _ _ _ _ _ _ _)=>x
  | _=>false
def iK:Option ac→Nat
  | some (.r0 _ x _ _ _ _ _ _ _ _ _ _ _ _ _ _ _ _ _)=>x
  | _=>0
def iL:Option ac→Nat
  | some (.r0 _ _ x _ _ _ _ _ _ _ _ _ _ _ _ _ _ _ _)=>x
  | _=>0
def iM:Option ac→Int
  | some (.r0 _ _ _ x _ _ _ _ _ _ _ _ _ _ _ _ _ _ _)=>x
  | _=>0
def iN:Option ac→Int
  | some (.r0 _ _ _ _ x _ _ _ _ _ _ _ _ _ _ _ _ _ _)=>x
  | _=>0
def iO:Option ac→Int
  | some (.r0 _ _ _ _ _ x _ _ _ _ _ _ _ _ _ _ _ _ _)=>x
  | _=>0
def iP:Option ac→List Int
  | some (.r0 _ _ _ _ _ _ x _ _ _ _ _ _ _ _ _ _ _ _)=>x
  | _=>[]
def iQ:Option ac→Nat
  | some (.r0 _ _ _ _ _ _ _ x _ _ _ _ _ _ _ _ _ _ _)=>x
  | _=>0
def iR:Option ac→Int
  | some (.r0 _ _ _ _ _ _ _ _ x _ _ _ _ _ _ _ _ _ _)=>x
  | _=>0
def iS:Option ac→Int
  | some (.r0 _ _ _ _ _ _ _ _ _ x _ _ _ _ _ _ _ _ _)=>x
  | _=>0
def gn:Option ac→Bool
  | some (.r0 _ _ _ _ _ _ _ _ _ _ x _ _ _ _ _ _ _ _)=>x
  | _=>false
def gp:Option ac→Int
  | some (.r0 _ _ _ _ _ _ _ _ _ _ _ x _ _ _ _ _ _ _)=>x
  | _=>0
def gq:Option ac→Nat
  | some (.r0 _ _ _ _ _ _ _ _ _ _ _ _ x _ _ _ _ _ _)=>x
  | _=>0
def gr:Option ac→List Int
  | some (.r0 _ _ _ _ _ _ _ _ _ _ _ _ _ x _ _ _ _ _)=>x
  | _=>[]
def gu:Option ac→List Int
  | some (.r0 _ _ _ _ _ _ _ _ _ _ _ _ _ _ x _ _ _ _)=>x
  | _=>[]
def gw:Option ac→List Int
  | some (.r0 _ _ _ _ _ _ _ _ _ _ _ _ _ _ _ x _ _ _)=>x
  | _=>[]
def gz:Option ac→List (List Int)
  | some (.r0 _ _ _ _ _ _ _ _ _ _ _ _ _ _ _ _ x _ _)=>x
  | _=>[]
def gA:Option ac→List Int
  | some (.r0 _ _ _ _ _ _ _ _ _ _ _ _ _ _ _ _ _ x _)=>x
  | _=>[]
def gB:Option ac→List Int
  | some (.r0 _ _ _ _ _ _ _ _ _ _ _ _ _ _ _ _ _ _ x)=>x
  | _=>[]
theorem wk{x:Option ac}(h:ft x=true) :x=some (.r0 (cX x) (iK x) (iL x) (iM x) (iN x) (iO x) (iP x) (iQ x) (iR x) (iS x) (gn x) (gp x) (gq x) (gr x) (gu x) (gw x) (gz x) (gA x) (gB x)):=by
  unfold ft at h
  split at h<;>first | rfl | (cases h;done) | (rename_i y;cases y;rfl)
def fu:Option ac→Bool
  | some (.r1 _ _ _ _ _ _ _ _ _ _ _ _ _)=>true
  | _=>false
def cY:Option ac→Bool
  | some (.r1 x _ _ _ _ _ _ _ _ _ _ _ _)=>x
  | _=>false
def iT:Option ac→Nat
  | some (.r1 _ x _ _ _ _ _ _ _ _ _ _ _)=>x
  | _=>0
def iU:Option ac→Nat
  | some (.r1 _ _ x _ _ _ _ _ _ _ _ _ _)=>x
  | _=>0
def iV:Option ac→Int
  | some (.r1 _ _ _ x _ _ _ _ _ _ _ _ _)=>x
  | _=>0
def iW:Option ac→Int
  | some (.r1 _ _ _ _ x _ _ _ _ _ _ _ _)=>x
  | _=>0
def iX:Option ac→Bool
  | some (.r1 _ _ _ _ _ x _ _ _ _ _ _ _)=>x
  | _=>false
def iY:Option ac→Nat
  | some (.r1 _ _ _ _ _ _ x _ _ _ _ _ _)=>x
  | _=>0
def iZ:Option ac→List Int
  | some (.r1 _ _ _ _ _ _ _ x _ _ _ _ _)=>x
  | _=>[]
def ja:Option ac→List Int
  | some (.r1 _ _ _ _ _ _ _ _ x _ _ _ _)=>x
  | _=>[]
def jb:Option ac→List Int
  | some (.r1 _ _ _ _ _ _ _ _ _ x _ _ _)=>x
  | _=>[]
def gC:Option ac→List (List Int)
  | some (.r1 _ _ _ _ _ _ _ _ _ _ x _ _)=>x
  | _=>[]
def gD:Option ac→List Int
  | some (.r1 _ _ _ _ _ _ _ _ _ _ _ x _)=>x
  | _=>[]
def gE:Option ac→List Int
  | some (.r1 _ _ _ _ _ _ _ _ _ _ _ _ x)=>x
  | _=>[]
theorem wl{x:Option ac}(h:fu x=true) :x=some (.r1 (cY x) (iT x) (iU x) (iV x) (iW x) (iX x) (iY x) (iZ x) (ja x) (jb x) (gC x) (gD x) (gE x)):=by
  unfold fu at h
  split at h<;>first | rfl | (cases h;done) | (rename_i y;cases y;rfl)
def fv:Option ac→Bool
  | some (.r2 _ _ _ _ _ _ _ _ _ _ _ _ _ _ _ _ _)=>true
  | _=>false
def cZ:Option ac→Bool
  | some (.r2 x _ _ _ _ _ _ _ _ _ _ _ _ _ _ _ _)=>x
  | _=>false
def da:Option ac→Nat
  | some (.r2 _ x _ _ _ _ _ _ _ _ _ _ _ _ _ _ _)=>x
  | _=>0
def jc:Option ac→Int
  | some (.r2 _ _ x _ _ _ _ _ _ _ _ _ _ _ _ _ _)=>x
  | _=>0
def jd:Option ac→Int
  | some (.r2 _ _ _ x _ _ _ _ _ _ _ _ _ _ _ _ _)=>x
  | _=>0
def je:Option ac→Int
  | some (.r2 _ _ _ _ x _ _ _ _ _ _ _ _ _ _ _ _)=>x
  | _=>0
def jf:Option ac→List Int
  | some (.r2 _ _ _ _ _ x _ _ _ _ _ _ _ _ _ _ _)=>x
  | _=>[]
def jg:Option ac→Nat
  | some (.r2 _ _ _ _ _ _ x _ _ _ _ _ _ _ _ _ _)=>x
  | _=>0
def jh:Option ac→Int
  | some (.r2 _ _ _ _ _ _ _ x _ _ _ _ _ _ _ _ _)=>x
  | _=>0
def ji:Option ac→Int
  | some (.r2 _ _ _ _ _ _ _ _ x _ _ _ _ _ _ _ _)=>x
  | _=>0
def jj:Option ac→Bool
  | some (.r2 _ _ _ _ _ _ _ _ _ x _ _ _ _ _ _ _)=>x
  | _=>false
def gF:Option ac→Int
  | some (.r2 _ _ _ _ _ _ _ _ _ _ x _ _ _ _ _ _)=>x
  | _=>0
def gG:Option ac→List Int
  | some (.r2 _ _ _ _ _ _ _ _ _ _ _ x _ _ _ _ _)=>x
  | _=>[]
def gH:Option ac→List Int
  | some (.r2 _ _ _ _ _ _ _ _ _ _ _ _ x _ _ _ _)=>x
  | _=>[]
def gI:Option ac→List Int
  | some (.r2 _ _ _ _ _ _ _ _ _ _ _ _ _ x _ _ _)=>x
  | _=>[]
def gJ:Option ac→List (List Int)
  | some (.r2 _ _ _ _ _ _ _ _ _ _ _ _ _ _ x _ _)=>x
  | _=>[]
def gK:Option ac→List Int
  | some (.r2 _ _ _ _ _ _ _ _ _ _ _ _ _ _ _ x _)=>x
  | _=>[]
def gL:Option ac→List Int
  | some (.r2 _ _ _ _ _ _ _ _ _ _ _ _ _ _ _ _ x)=>x
  | _=>[]
theorem wn{x:Option ac}(h:fv x=true) :x=some (.r2 (cZ x) (da x) (jc x) (jd x) (je x) (jf x) (jg x) (jh x) (ji x) (jj x) (gF x) (gG x) (gH x) (gI x) (gJ x) (gK x) (gL x)):=by
  unfold fv at h
  split at h<;>first | rfl | (cases h;done) | (rename_i y;cases y;rfl)
def mo(q:Option ac)(pre:List Bool) :List ny:=[⟨ef (.r0 (cX q) (iK q) (iL q) (iM q) (iN q) (iO q) (iP q) (iQ q) (iR q) (iS q) (gn q) (gp q) (gq q) (gr q) (gu q) (gw q) (gz q) (gA q) (gB q)),pre++[ft q]⟩,
  ⟨ef (.r1 (cY q) (iT q) (iU q) (iV q) (iW q) (iX q) (iY q) (iZ q) (ja q) (jb q) (gC q) (gD q) (gE q)),pre++[fu q]⟩,
  ⟨ef (.r2 (cZ q) (da q) (jc q) (jd q) (je q) (jf q) (jg q) (jh q) (ji q) (jj q) (gF q) (gG q) (gH q) (gI q) (gJ q) (gK q) (gL q)),pre++[fv q]⟩]
def GZ:aU:=⟨bD,fun lent args=>match args with
  | [.ptr 0 1 0 0,.str s]=>match lent with
    | [.vs [.sl 1 6 6 0 n c,.int .i64 k,.int .i64 m,.int .i64 nn,.imm (.up .free) (.ns .u64 w) 1 1 0 nw,.int .i64 y,.int .u64 t,.bool false on,.int .i64 row],.cols nc [.ci .i64 ks,.ci .i64 ms,.ci .i64 ns,.cns .u64 wss,.ci .i64 ys,.ci .u64 ts]] =>
      some (mo (bz n c k m nn w y t on row nc ks ms ns wss ys ts s) [Nat.beq nw w.length])
    | [.vs [.sl 1 6 6 0 n c,.int .i64 k,.int .i64 m,.int .i64 nn,.sl 2 1 1 0 nw cw,.int .i64 y,.int .u64 t,.bool false on,.int .i64 row],.cols nc [.ci .i64 ks,.ci .i64 ms,.ci .i64 ns,.cns .u64 wss,.ci .i64 ys,.ci .u64 ts],.ns .u64 ws] =>
      some (mn (dk n c k m nn nw cw y t on row nc ks ms ns wss ys ts ws s) [])
    | _=>none
  | _=>none⟩
theorem I5:bm prog GZ:=by
  intro lent args alts a h ha ho
  simp only [GZ] at h
  split at h
  · rename_i s
    split at h
    · rename_i n c k m nn w nw y t on row nc ks ms ns wss ys ts
      cases h
      simp only [mo,List.mem_cons,List.not_mem_nil,or_false] at ha
      rcases ha with rfl | rfl | rfl
      all_goals
        have e:=Nat.eq_of_beq_eq_true ho.1
        subst e
      · exact kA n c k m nn w y t on row nc ks ms ns wss ys ts s (wk ho.2.1)
      · exact kA n c k m nn w y t on row nc ks ms ns wss ys ts s (wl ho.2.1)
      · exact kA n c k m nn w y t on row nc ks ms ns wss ys ts s (wn ho.2.1)
    · rename_i n c k m nn nw cw y t on row nc ks ms ns wss ys ts ws
      cases h
      simp only [mn,List.mem_cons,List.not_mem_nil,or_false,List.nil_append] at ha
      rcases ha with rfl | rfl | rfl
      · exact kz n c k m nn nw cw y t on row nc ks ms ns wss ys ts ws s (vY ho.1)
      · exact kz n c k m nn nw cw y t on row nc ks ms ns wss ys ts ws s (vZ ho.1)
      · exact kz n c k m nn nw cw y t on row nc ks ms ns wss ys ts ws s (wa ho.1)
    · cases h
  · cases h
def Ov:List aU:=GZ::ox
theorem uK:bC prog (bG Ov):=aE I5 aw
structure RS where
  nl:Nat
  cl:Nat
  k:Int
  m:Int
  nn:Int
  y:Int
  t:Int
  on:Bool
  row:Int
  nc:Nat
  ks:List Int
  ms:List Int
  ns:List Int
  wss:List (List Int)
  ys:List Int
  ts:List Int
inductive Ef where
  | off (s:ByteArray) (n:Int) (b:Bool) (r:RS) (w:List Int) (nw:Nat)
  | on (s:ByteArray) (n:Int) (b:Bool) (r:RS) (nw cw:Nat) (ws:List Int)
def NW(r:RS)(W:AV) :an:=.vs [.sl 1 6 6 0 r.nl r.cl,.int .i64 r.k,.int .i64 r.m,.int .i64 r.nn,W,.int .i64 r.y,.int .u64 r.t,.bool false r.on,.int .i64 r.row]
def M1(r:RS) :an:=.cols r.nc [.ci .i64 r.ks,.ci .i64 r.ms,.ci .i64 r.ns,.cns .u64 r.wss,.ci .i64 r.ys,.ci .u64 r.ts]
def pI:Ef→aG
  | .off s n b r w nw=>⟨aF 49 [(5,.ptr 0 1 0 0),(6,.int .i64 n),(7,.bool false b),(8,.str s)],[(0,NW r (.imm .free (.ns .u64 w) 1 1 0 nw)),(1,M1 r)],2⟩
  | .on s n b r nw cw ws=>⟨aF 49 [(5,.ptr 0 1 0 0),(6,.int .i64 n),(7,.bool false b),(8,.str s)],[(0,NW r (.sl 2 1 1 0 nw cw)),(1,M1 r),(2,.ns .u64 ws)],3⟩
def K0:List Code:=dW (HI (((dW (yq ki)).drop 1).headD .skip))
def Mz:List Code:=(K0.drop 5).take 1
def FG:List Code:=dW (pH (Mz.headD .skip))
inductive yD where
  | bad (n:Int) (b:Bool)
  | doff (n:Int) (b:Bool) (r:RS) (w:List Int) (nw:Nat)
  | don (n:Int) (b:Bool) (r:RS)
def pJ:yD→aG
  | .bad n b=>⟨aF 49 [(6,.int .i64 n),(7,.bool false b)],[],0⟩
  | .doff n b r w nw=>⟨aF 49 [(5,.ptr 0 1 0 0),(6,.int .i64 n),(7,.bool false b)],[(0,NW r (.imm .free (.ns .u64 w) 1 1 0 nw)),(1,M1 r)],2⟩
  | .don n b r=>⟨aF 49 [(5,.ptr 0 1 0 0),(6,.int .i64 n),(7,.bool false b)],[(0,NW r .any),(1,M1 r)],2⟩
inductive ap where
  | fail (n e:Int)
  | ok (r:RS)
def cH:ap→AE×aG
  | .fail n e=>(.ret,⟨aF 49 [(2,.nsl),(3,.int .i64 n),(4,.int .i64 e)],[],0⟩)
  | .ok r=>(.ret,⟨aF 49 [(2,.sl 0 6 6 0 r.nl r.cl),(3,.int .i64 (0:Int)),(4,.int .i64 (0:Int))],[(0,M1 r)],1⟩)
theorem eZ:ug cH:=by intro x;cases x<;>(intro h;cases h)
theorem yE(id:Nat) :vy id cH:=by intro x;cases x<;>(intro h;cases h)
def nt:ap→nE
  | .fail n e=>⟨.tup [.nsl,.int .i64 n,.int .i64 e],[]⟩
  | .ok r=>⟨.tup [.imm .free (M1 r) 6 6 0 r.nl,.int .i64 (0:Int),.int .i64 (0:Int)],[]⟩
def Bl(n:Int)(c:Option aM)(w:List Int)(nw:Nat)(q:Option ac) :T (Ef⊕(yD⊕ap)) :=
        (.alt 0 (.need (Nat.beq nw w.length)<|.need (ft q)<|.ask (!(cX q)) (.leaf (.inr (.inl (.bad n (cX q))))) (.need (kJ .i64 (n+(1:Int)))<|.leaf (.inl (.off (aX c) (n+(1:Int)) (cX q) ⟨(iK q),(iL q),(iM q),(iN q),(iO q),(iR q),(iS q),(gn q),(gp q),(gq q),(gr q),(gu q),(gw q),(gz q),(gA q),(gB q)⟩ (iP q) (iQ q)))))
        (.alt 1 (.need (Nat.beq nw w.length)<|.need (fu q)<|.ask (!(cY q)) (.leaf (.inr (.inl (.bad n (cY q))))) (.need (kJ .i64 (n+(1:Int)))<|.leaf (.inl (.on (aX c) (n+(1:Int)) (cY q) ⟨(iT q),(iU q),(0:Int),(iV q),(iW q),(0:Int),(0:Int),(iX q),(0:Int),(iY q),(iZ q),(ja q),(jb q),(gC q),(gD q),(gE q)⟩ 0 0 []))))
        (.alt 2 (.need (Nat.beq nw w.length)<|.need (fv q)<|.ask (!(cZ q)) (.leaf (.inr (.inl (.bad n (cZ q))))) (.need (kJ .i64 (n+(1:Int)))<|.leaf (.inl (.off (aX c) (n+(1:Int)) (cZ q) ⟨(da q),(da q),(jc q),(jd q),(je q),(jh q),(ji q),(jj q),(gF q),(da q),(gG q),(gH q),(gI q),(gJ q),(gK q),(gL q)⟩ (jf q) (jg q)))))
        .fail)))
def G0(s:ByteArray)(n:Int)(b:Bool)(r:RS)(w:List Int)(nw:Nat)(c:Option aM) :T (Ef⊕(yD⊕ap)) :=
  .ask (!(s.toList==(ByteArray.mk #[]).toList))
    (.need (fJ c)<|.ask (gZ c)
      (Bl n c w nw (bz r.nl r.cl r.k r.m r.nn w r.y r.t r.on r.row r.nc r.ks r.ms r.ns r.wss r.ys r.ts (gY c)))
      (.leaf (.inr (.inl (.bad n false)))))
    (.leaf (.inr (.inl (.doff n b r w nw))))
def tz(s:ByteArray)(n:Int)(b:Bool)(r:RS)(w:List Int)(nw:Nat) :T (Ef⊕(yD⊕ap)):=G0 s n b r w nw (ff s (ByteArray.mk #[10]))
def HU(n:Int)(c:Option aM)(q:Option aa) :T (Ef⊕(yD⊕ap)) :=
        (.alt 0 (.need (fo q)<|.ask (!(cU q)) (.leaf (.inr (.inl (.bad n (cU q))))) (.need (kJ .i64 (n+(1:Int)))<|.leaf (.inl (.on (aX c) (n+(1:Int)) (cU q) ⟨(ic q),(ig q),(ii q),(ij q),(ik q),(io q),(ip q),(fK q),(fL q),(fM q),(fN q),(fO q),(fP q),(fQ q),(fR q),(fS q)⟩ (il q) (im q) (fT q)))))
        (.alt 1 (.need (fp q)<|.ask (!(cV q)) (.leaf (.inr (.inl (.bad n (cV q))))) (.need (kJ .i64 (n+(1:Int)))<|.leaf (.inl (.on (aX c) (n+(1:Int)) (cV q) ⟨(iq q),(ir q),(0:Int),(iu q),(iv q),(0:Int),(0:Int),(iw q),(0:Int),(iy q),(iz q),(iA q),(iB q),(fU q),(fV q),(fW q)⟩ 0 0 []))))
        (.alt 2 (.need (fq q)<|.ask (!(cW q)) (.leaf (.inr (.inl (.bad n (cW q))))) (.need (kJ .i64 (n+(1:Int)))<|.leaf (.inl (.on (aX c) (n+(1:Int)) (cW q) ⟨(iC q),(iD q),(iE q),(iF q),(iG q),(iH q),(iI q),(iJ q),(fX q),(fY q),(fZ q),(gg q),(gh q),(gi q),(gj q),(gk q)⟩ (dR q) (dR q) (gl q)))))
        .fail)))
def K1(s:ByteArray)(n:Int)(b:Bool)(r:RS)(nw cw:Nat)(ws:List Int)(c:Option aM) :T (Ef⊕(yD⊕ap)) :=
  .ask (!(s.toList==(ByteArray.mk #[]).toList))
    (.need (fJ c)<|.ask (gZ c)
      (HU n c (dk r.nl r.cl r.k r.m r.nn nw cw r.y r.t r.on r.row r.nc r.ks r.ms r.ns r.wss r.ys r.ts ws (gY c)))
      (.leaf (.inr (.inl (.bad n false)))))
    (.leaf (.inr (.inl (.don n b r))))
def G1(s:ByteArray)(n:Int)(b:Bool)(r:RS)(nw cw:Nat)(ws:List Int) :T (Ef⊕(yD⊕ap)):=K1 s n b r nw cw ws (ff s (ByteArray.mk #[10]))
def pB:Ef→Option (Ef⊕(yD⊕ap))
  | .off s n b r w nw=>(tz s n b r w nw).run
  | .on s n b r nw cw ws=>bif decide (r.row<r.m)&&decide (0<r.nn) then (G1 s n b r nw cw ws).run else (tz s n b r ws nw).run
def Ng:RS:=⟨0,0,(0:Int),(0:Int),(0:Int),(0:Int),(0:Int),false,(0:Int),0,[],[],[],[],[],[]⟩
def Om:T (Unit⊕ap):=.leaf (.inl ())
def On(s:ByteArray) :T (Ef⊕ap) :=
  .ask (decide (((s.size:Nat):Int)>(8388608:Int)))
    (.leaf (.inr (.fail (0:Int) (3:Int))))
    (.leaf (.inl (.off s (0:Int) true Ng [] 0)))
def Bm(n:Int)(b:Bool)(r:RS) :T (Empty⊕ap) :=
  .ask (!b) (.leaf (.inr (.fail n (4:Int))))
    (.ask r.on (.leaf (.inr (.fail n (4:Int))))
      (.ask (decide (((r.nl:Nat):Int)>(64:Int))) (.leaf (.inr (.fail (0:Int) (3:Int)))) (.leaf (.inr (.ok r)))))
def MA(n:Int)(b:Bool) :T (Empty⊕ap):=.ask (!b) (.leaf (.inr (.fail n (4:Int)))) .fail
def NX:yD→Option (Empty⊕ap)
  | .bad n b=>(MA n b).run
  | .doff n b r w nw=>(Bm n b r).run
  | .don n b r=>(Bm n b r).run
def ah(s:ByteArray) :Option ap:=Au (ch Om.run fun _=>ch (On s).run fun a=>ch (ei pB a) NX)
def Ow(s:ByteArray) :Unit→aG:=fun _=>⟨aF 49 [(0,.str s)],[],0⟩
theorem NG(s:yD) :Sg prog [] (K0.drop 6) (pJ s) (NX s) Av cH:=by
  cases s with
  | bad n b=>exact eL (t:=MA n b) uK Av [⟨[],[],[2,3,4]⟩]
  | doff n b r w nw=>exact eL (t:=Bm n b r) uK Av [⟨[],[],[2,3,4]⟩,⟨[],[],[2,3,4]⟩,⟨[],[],[2,3,4]⟩,⟨[],[1],[2,3,4]⟩]
  | don n b r=>exact eL (t:=Bm n b r) uK Av [⟨[],[],[2,3,4]⟩,⟨[],[],[2,3,4]⟩,⟨[],[],[2,3,4]⟩,⟨[],[1],[2,3,4]⟩]
theorem NH(s:ByteArray)(n:Int)(b:Bool)(r:RS)(w:List Int)(nw:Nat) :Sg prog [] FG (pI (.off s n b r w nw)) (tz s n b r w nw).run pI (jP 0 pJ cH) :=
  eL uK pI [⟨[],[],[6,7]⟩,⟨[],[0,1],[5,6,7,8]⟩,⟨[],[],[6,7]⟩,⟨[(.cell 0 4,.own 1 1 (.ns .u64 []))],[0,1,386],[5,6,7,8]⟩,⟨[],[],[6,7]⟩,⟨[],[0,226],[5,6,7,8]⟩,⟨[],[],[6,7]⟩,⟨[],[0,1],[5,6,7]⟩]
theorem Ox(s:ByteArray)(n:Int)(b:Bool)(r:RS)(nw cw:Nat)(ws:List Int) :Sg prog [] FG (pI (.on s n b r nw cw ws)) (G1 s n b r nw cw ws).run pI (jP 0 pJ cH) :=
  eL uK pI [⟨[],[],[6,7]⟩,⟨[],[0,1,2],[5,6,7,8]⟩,⟨[],[],[6,7]⟩,⟨[(.cell 0 4,.own 1 1 (.ns .u64 []))],[0,1,387],[5,6,7,8]⟩,⟨[],[],[6,7]⟩,⟨[],[0,1,227],[5,6,7,8]⟩,⟨[],[],[6,7]⟩,⟨[],[0,1],[5,6,7]⟩]
theorem NI(s:ByteArray)(n:Int)(b:Bool)(r:RS)(nw cw:Nat)(ws:List Int) :Sg prog [] FG (pI (.on s n b r nw cw ws)) (tz s n b r ws nw).run pI (jP 0 pJ cH) :=
  Sg.sub (KZ (b:=0) (i:=4) (x:=2)) (Sg.pre ⟨[],[0,1],[5,6,7,8]⟩ rfl (by kernel_rfl:NS.on ⟨[],[0,1],[5,6,7,8]⟩ (GY (pI (.on s n b r nw cw ws)) 0 4 2)=pI (.off s n b r ws nw)) (NH s n b r ws nw))
theorem M2(s:Ef) :Sg prog [] FG (pI s) (pB s) pI (jP 0 pJ cH):=by
  cases s with
  | off s n b r w nw=>exact NH s n b r w nw
  | on s n b r nw cw ws =>
    show Sg prog [] FG (pI (.on s n b r nw cw ws)) (bif decide (r.row<r.m)&&decide (0<r.nn) then (G1 s n b r nw cw ws).run else (tz s n b r ws nw).run) pI _
    cases decide (r.row<r.m)&&decide (0<r.nn) with
    | true=>exact Ox s n b r nw cw ws
    | false=>exact NI s n b r nw cw ws
theorem qu(s:ByteArray){x:ap}(h:ah s=some x) :ao prog ki [] [.str s] (nt x) :=
  DS true nt cH h (Sg.cut 1 eZ (eL (t:=Om) uK (Ow s) [⟨[],[],[0]⟩]) (fun _=>GE (b:=HI (((dW (yq ki)).drop 1).headD .skip)) (by kernel_rfl) eZ
    (Sg.cut 5 eZ (eL (t:=On s) uK pI [⟨[],[],[2,3,4]⟩,⟨[(.cell 48 0,.own 6 6 (.cols 0 [.ci .i64 [],.ci .i64 [],.ci .i64 [],.cns .u64 [],.ci .i64 [],.ci .u64 []])),(.cell 48 4,.fre 1 1 (.ns .u64 []))],[48,128],[5,6,7,8]⟩])
      (fun a=>Sg.cut 1 eZ (Cz (b:=pH (Mz.headD .skip)) (by kernel_rfl) eZ (yE _) M2 a) (fun e=>NG e)))))
    (fun x=>by cases x with
      | fail n e=>exact uh [.nsl,.int .i64 n,.int .i64 e]
      | ok r=>exact uh [.sl 0 6 6 0 r.nl r.cl,.int .i64 (0:Int),.int .i64 (0:Int)])
end
end Go.Plb.Seat
namespace Go.Plb.Seat
open Go Go.Plb
set_option linter.unusedVariables false
set_option maxRecDepth 100000
def pU(n:Nat)(ks ms ns:List Int)(wss:List (List Int))(ys ts:List Int) :List kC:=(List.range n).map fun i=>⟨ks.getD i 0,ms.getD i 0,ns.getD i 0,wss.getD i [],ys.getD i 0,ts.getD i 0⟩
theorem rG(n:Nat)(ks ms ns:List Int)(wss:List (List Int))(ys ts:List Int) :(pU n ks ms ns wss ys ts).length=n:=by simp [pU]
theorem M3{ρ:ae}{W:World}{lv:Lv}{d:an}{k es len:Nat}{u:Value}(h:VR ρ W (.imm lv d k es 0 len) u) :d.recKept:=by
  cases h with
  | imm _ _ _ _ _ _ _ _ _ _ ha hb hc hv hl hr hk hg=>exact hr
  | immEnd _ _ _ _ _ _ _ hr hk hg=>exact hr
theorem LW{n:Nat}{ks ms ns:List Int}{wss:List (List Int)}{ys ts:List Int}(hr:(an.cols n [.ci .i64 ks,.ci .i64 ms,.ci .i64 ns,.cns .u64 wss,.ci .i64 ys,.ci .u64 ts]).recKept) :KS (.cols n [.ci .i64 ks,.ci .i64 ms,.ci .i64 ns,.cns .u64 wss,.ci .i64 ys,.ci .u64 ts]) (pU n ks ms ns wss ys ts):=by
  have h1:ks.length=n:=hr _ (by simp:cB.ci .i64 ks∈_)
  have h2:ms.length=n:=hr _ (by simp:cB.ci .i64 ms∈_)
  have h3:ns.length=n:=hr _ (by simp:cB.ci .i64 ns∈_)
  have h4:wss.length=n:=hr _ (by simp:cB.cns .u64 wss∈_)
  have h5:ys.length=n:=hr _ (by simp:cB.ci .i64 ys∈_)
  have h6:ts.length=n:=hr _ (by simp:cB.ci .u64 ts∈_)
  intro i a hi
  have hlt:i<n:=by
    have:=(List.getElem?_eq_some_iff.1 hi).1
    rwa [rG] at this
  have ha:a=⟨ks.getD i 0,ms.getD i 0,ns.getD i 0,wss.getD i [],ys.getD i 0,ts.getD i 0⟩:=by
    unfold pU at hi
    rw [List.getElem?_map,List.getElem?_range hlt] at hi
    exact (Option.some.inj hi).symm
  subst ha
  have hd:∀ j,j<6→(i*6+j)%6=j∧(i*6+j)/6=i:=fun j hj=>by omega
  have gd:∀ {α:Type} (xs:List α) (d:α),xs.length=n→xs[i]? = some (xs.getD i d):=fun xs d h=>by
    rw [List.getD_eq_getElem?_getD,List.getElem?_eq_getElem (by omega)];rfl
  refine ⟨.free,?_,?_,?_,?_,?_,?_⟩
  · have:=hd 0 (by omega)
    simp only [Nat.add_zero] at this
    simp only [an.cell?,List.length_cons,List.length_nil,this.1,this.2]
    show (ks[i]?).map _=_
    rw [gd ks 0 h1];rfl
  · simp only [an.cell?,List.length_cons,List.length_nil,(hd 1 (by omega)).1,(hd 1 (by omega)).2]
    show (ms[i]?).map _=_
    rw [gd ms 0 h2];rfl
  · simp only [an.cell?,List.length_cons,List.length_nil,(hd 2 (by omega)).1,(hd 2 (by omega)).2]
    show (ns[i]?).map _=_
    rw [gd ns 0 h3];rfl
  · simp only [an.cell?,List.length_cons,List.length_nil,(hd 3 (by omega)).1,(hd 3 (by omega)).2]
    show (wss[i]?).map _=_
    rw [gd wss [] h4];rfl
  · simp only [an.cell?,List.length_cons,List.length_nil,(hd 4 (by omega)).1,(hd 4 (by omega)).2]
    show (ys[i]?).map _=_
    rw [gd ys 0 h5];rfl
  · simp only [an.cell?,List.length_cons,List.length_nil,(hd 5 (by omega)).1,(hd 5 (by omega)).2]
    show (ts[i]?).map _=_
    rw [gd ts 0 h6];rfl
theorem LX(lv:Lv)(n:Nat)(ks ms ns:List Int)(wss:List (List Int))(ys ts:List Int)(hl:n≤1000000000) :ao prog fe [] [.imm lv (.cols n [.ci .i64 ks,.ci .i64 ms,.ci .i64 ns,.cns .u64 wss,.ci .i64 ys,.ci .u64 ts]) 6 6 0 n]
    ⟨.tup [.str (tn (pU n ks ms ns wss ys ts)),.int .i64 (hH (pU n ks ms ns wss ys ts))],[]⟩:=by
  intro ρ w us hN hv
  have hr:(an.cols n [.ci .i64 ks,.ci .i64 ms,.ci .i64 ns,.cns .u64 wss,.ci .i64 ys,.ci .u64 ts]).recKept:=by
    cases hv with | cons _ u _ _ h1 h2=>exact M3 h1
  have h:=HN lv _ 6 6 (pU n ks ms ns wss ys ts) (LW hr) (by rw [rG];exact hl)
  rw [rG] at h
  exact h ρ w us hN hv
noncomputable def HV:aU:=eh fe (.cons (.cols [.ci .i64,.ci .i64,.ci .i64,.cns .u64,.ci .i64,.ci .u64]) .nil) fun t =>
  [⟨⟨.tup [.str (tn (pU t.1.2.1 t.1.2.2.1 t.1.2.2.2.1 t.1.2.2.2.2.1 t.1.2.2.2.2.2.1 t.1.2.2.2.2.2.2.1 t.1.2.2.2.2.2.2.2.1)),.int .i64 (hH (pU t.1.2.1 t.1.2.2.1 t.1.2.2.2.1 t.1.2.2.2.2.1 t.1.2.2.2.2.2.1 t.1.2.2.2.2.2.2.1 t.1.2.2.2.2.2.2.2.1))],[]⟩,[ek t.1.2.1]⟩]
theorem G2:bm prog HV:=bA fun t=>bQ (fun h=>LX t.1.1 t.1.2.1 t.1.2.2.1 t.1.2.2.2.1 t.1.2.2.2.2.1 t.1.2.2.2.2.2.1 t.1.2.2.2.2.2.2.1 t.1.2.2.2.2.2.2.2.1 (Nat.le_of_ble_eq_true h)) cC
def G3:Option ap→Bool
  | some (.fail _ _)=>true
  | _=>false
def G4:Option ap→Bool
  | some (.ok r)=>Nat.beq r.nl r.nc
  | _=>false
def NJ:Option ap→Int
  | some (.fail n _)=>n
  | _=>0
def Nh:Option ap→Int
  | some (.fail _ e)=>e
  | _=>0
def M4:Option ap→RS
  | some (.ok r)=>r
  | _=>Ng
def M5(q:Option ap) :Nat:=(M4 q).nl
def I6(q:Option ap) :List Int:=(M4 q).ks
def I7(q:Option ap) :List Int:=(M4 q).ms
def I8(q:Option ap) :List Int:=(M4 q).ns
def I9(q:Option ap) :List (List Int):=(M4 q).wss
def Ja(q:Option ap) :List Int:=(M4 q).ys
def Jb(q:Option ap) :List Int:=(M4 q).ts
noncomputable def K2:aU:=eh ki (.cons .str .nil) fun t=>(fun q =>
  [⟨⟨.tup [.nsl,.int .i64 (NJ q),.int .i64 (Nh q)],[]⟩,[G3 q]⟩,
   ⟨⟨.tup [.imm .free (.cols (M5 q) [.ci .i64 (I6 q),.ci .i64 (I7 q),.ci .i64 (I8 q),.cns .u64 (I9 q),.ci .i64 (Ja q),.ci .u64 (Jb q)]) 6 6 0 (M5 q),.int .i64 (0:Int),.int .i64 (0:Int)],[]⟩,[G4 q]⟩]) (ah t.1)
theorem Jc:bm prog K2:=bA fun t=>bQ (fun h=>by
    generalize hq:ah t.1=q at h ⊢
    unfold G3 at h
    split at h
    · exact qu t.1 hq
    · cases h) (bQ (fun h=>by
    generalize hq:ah t.1=q at h ⊢
    unfold G4 at h
    split at h
    · rename_i r
      have e:=Nat.eq_of_beq_eq_true h
      have:=qu t.1 hq
      simp only [nt,M1,←e] at this
      exact this
    · cases h) cC)
noncomputable def NK:List aU:=K2::HV::ox
theorem yZ:bC prog (bG NK):=aE Jc (aE G2 aw)
end Go.Plb.Seat
namespace Go.Plb.Seat
open Go Go.Plb
set_option linter.unusedVariables false
set_option maxRecDepth 100000
noncomputable section
inductive cj where
  | r0 (b11:Bool)
def tA:cj→AE×aG
  | .r0 b11=>(.ret,⟨aF 27 [(4,.bool false b11)],[],0⟩)
theorem rH:ug tA:=by intro x;cases x<;>(intro h;cases h)
def oy:cj→nE
  | .r0 b11=>⟨.bool false b11,[]⟩
def Bn(line_1:Int) :Nat×(List Int)×(List Int)×(List Int)×(List (List Int))×(List Int)×(List Int)×Int×Int→aG:=fun (l1,l2,l3,l4,l5,l6,l7,n8,e9)=>⟨aF 27 [(1,.int .i64 line_1),(5,.imm .free (.cols l1 [.ci .i64 l2,.ci .i64 l3,.ci .i64 l4,.cns .u64 l5,.ci .i64 l6,.ci .u64 l7]) 6 6 0 l1),(6,.int .i64 n8),(7,.int .i64 e9)],[],0⟩
def rI(text_0:ByteArray) :T ((Nat×(List Int)×(List Int)×(List Int)×(List (List Int))×(List Int)×(List Int)×Int×Int)⊕(cj)) :=
  .alt 0
    (.need (G3 (ah text_0))<|.leaf (.inl (0,([]:List Int),([]:List Int),([]:List Int),([]:List (List Int)),([]:List Int),([]:List Int),(NJ (ah text_0)),(Nh (ah text_0)))))
    (.alt 1
      (.need (G4 (ah text_0))<|.leaf (.inl ((M5 (ah text_0)),(I6 (ah text_0)),(I7 (ah text_0)),(I8 (ah text_0)),(I9 (ah text_0)),(Ja (ah text_0)),(Jb (ah text_0)),(0:Int),(0:Int))))
      (.fail))
def Bo(b10:Bool) :aG:=⟨aF 27 [(4,.bool false b10)],[],0⟩
def Bp(line_1:Int)(l1:Nat)(n8:Int)(e9:Int) :T ((Bool)⊕(cj)) :=
  .ask (((l1:Nat):Int)==(0:Int))
    (.ask (n8==line_1)
      (.leaf (.inl (e9==(4:Int))))
      (.leaf (.inl false)))
    (.leaf (.inl false))
def Bq(b10:Bool) :T ((Empty)⊕(cj)) :=
  .leaf (.inr (.r0 b10))
noncomputable def aP(text_0:ByteArray)(line_1:Int) :Option cj:=Au (ch ((rI text_0).run) fun (l1,l2,l3,l4,l5,l6,l7,n8,e9) =>
  ch ((Bp line_1 l1 n8 e9).run) fun b10 =>
  (Bq b10).run)
theorem Br(text_0:ByteArray)(line_1:Int){x:cj}(h:aP text_0 line_1=some x) :ao prog sR [] [.str text_0,.int .i64 line_1] (oy x) :=
  DS false oy tA h (Sg.cut 2 rH (eL yZ (Bn line_1) [⟨[(.slot 5,.fre 6 6 (.cols 0 [.ci .i64 ([]:List Int),.ci .i64 ([]:List Int),.ci .i64 ([]:List Int),.cns .u64 ([]:List (List Int)),.ci .i64 ([]:List Int),.ci .u64 ([]:List Int)]))],[],[1,5,6,7]⟩,⟨[],[],[1,5,6,7]⟩]) (fun ⟨l1,l2,l3,l4,l5,l6,l7,n8,e9⟩=>Sg.cut 1 rH (eL yZ Bo [⟨[],[],[4]⟩,⟨[],[],[4]⟩,⟨[],[],[4]⟩]) (fun b10=>eL yZ Av [⟨[],[],[4]⟩])))
    (fun x=>by cases x with | r0 b11=>exact uh [.bool false b11])
def bU:Option cj→Bool
  | some _=>true
  | none=>false
def bO:Option cj→Bool
  | some (.r0 x)=>x
  | _=>false
theorem Bs{x:Option cj}(h:bU x=true) :x=some (.r0 (bO x)):=by
  unfold bU at h
  split at h<;>first | rfl | (cases h;done) | (rename_i y;cases y;rfl)
noncomputable def tB:aU:=eh sR (.cons .str (.cons (.int .i64) .nil)) fun t=>(fun q=>[⟨oy (.r0 (bO q)),[bU q]⟩]) (aP t.1 t.2.1)
theorem xA:bm prog tB:=bA fun t=>(bQ (fun h=>Br t.1 t.2.1 (Bs h)) cC)
noncomputable def tC:List aU:=tB::NK
theorem bP:bC prog (bG tC):=aE xA yZ
inductive ax where
  | r0 (b64:Bool)
def dG:ax→AE×aG
  | .r0 b64=>(.ret,⟨aF 177 [(0,.bool false b64)],[],0⟩)
theorem bf:ug dG:=by intro x;cases x<;>(intro h;cases h)
theorem qx(id:Nat) :vy id dG:=by intro x;cases x<;>(intro h;cases h)
def gM:ax→nE
  | .r0 b64=>⟨.bool false b64,[]⟩
noncomputable def pV:List Code:=dW (yq fD)
def qy(text1:ByteArray) :aG:=⟨aF 177 [(1,.ptr 0 1 0 0),(2,.nsl),(3,.str text1),(4,.int .i64 (0:Int))],[(0,.vs [.int .i64 (2:Int),.int .i64 (0:Int),.int .i64 (0:Int),.nsl,.int .i64 (0:Int),.int .u64 (0:Int)])],1⟩
def pW:T ((ByteArray)⊕(ax)) :=
  .leaf (.inl ByteArray.empty)
def dy:Nat×Nat×ByteArray×Nat×Nat×(List Int)×(List Int)×(List Int)×(List (List Int))×(List Int)×(List Int)→aG:=fun (l4,l5,text6,i7,a8,l9,l10,l11,l12,l13,l14)=>⟨aF 177 [(1,.ptr 0 1 0 0),(2,.sl 1 6 6 0 l4 l5),(3,.str text6),(4,.int .i64 ((i7:Nat):Int))],[(0,.vs [.int .i64 (2:Int),.int .i64 (0:Int),.int .i64 (0:Int),.nsl,.int .i64 (0:Int),.int .u64 (0:Int)]),(1,.cols a8 [.ci .i64 l9,.ci .i64 l10,.ci .i64 l11,.cns .u64 l12,.ci .i64 l13,.ci .u64 l14])],2⟩
def kG:Nat×Nat×ByteArray×Nat×(List Int)×(List Int)×(List Int)×(List (List Int))×(List Int)×(List Int)→aG:=fun (l15,l16,text17,a18,l19,l20,l21,l22,l23,l24)=>⟨aF 177 [(2,.sl 0 6 6 0 l15 l16),(3,.str text17)],[(0,.cols a18 [.ci .i64 l19,.ci .i64 l20,.ci .i64 l21,.cns .u64 l22,.ci .i64 l23,.ci .u64 l24])],1⟩
noncomputable def pX:List Code:=dW (pH ((((pV.drop 5).take 1)).headD .skip))
def kB(l4:Nat)(l5:Nat)(text6:ByteArray)(i7:Nat)(a8:Nat)(l9:List Int)(l10:List Int)(l11:List Int)(l12:List (List Int))(l13:List Int)(l14:List Int) :T ((Nat×Nat×ByteArray×Nat×Nat×(List Int)×(List Int)×(List Int)×(List (List Int))×(List Int)×(List Int))⊕((Nat×Nat×ByteArray×Nat×(List Int)×(List Int)×(List Int)×(List (List Int))×(List Int)×(List Int))⊕(ax))) :=
  .ask (decide (((i7:Nat):Int)<(65:Int)))
    (.need (kF ((l4+1)*64) 140737488355328)<|.need (kF (l4+1) 9223372036854775807)<|.need (kF 6 6)<|.need (kF l4 a8)<|.need (decide (text6.size+(ByteArray.mk #[109,97,116,114,105,120,32,48,32,48,10,118,97,108,117,101,115,10]).size≤9223372036854775807))<|.need (kJ .i64 (((i7+1):Nat):Int))<|.leaf (.inl ((l4+1),(l4+1),(text6++(ByteArray.mk #[109,97,116,114,105,120,32,48,32,48,10,118,97,108,117,101,115,10])),(i7+1),(l4+1),((List.take l4 l9)++[(2:Int)]),((List.take l4 l10)++[(0:Int)]),((List.take l4 l11)++[(0:Int)]),((List.take l4 l12)++[[]]),((List.take l4 l13)++[(0:Int)]),((List.take l4 l14)++[(0:Int)]))))
    (.leaf (.inr (.inl (l4,l5,text6,a8,l9,l10,l11,l12,l13,l14))))
noncomputable def dd:Nat×Nat×ByteArray×Nat×Nat×(List Int)×(List Int)×(List Int)×(List (List Int))×(List Int)×(List Int)→Option ((Nat×Nat×ByteArray×Nat×Nat×(List Int)×(List Int)×(List Int)×(List (List Int))×(List Int)×(List Int))⊕((Nat×Nat×ByteArray×Nat×(List Int)×(List Int)×(List Int)×(List (List Int))×(List Int)×(List Int))⊕(ax))):=fun (l4,l5,text6,i7,a8,l9,l10,l11,l12,l13,l14) =>
  (kB l4 l5 text6 i7 a8 l9 l10 l11 l12 l13 l14).run
theorem pY(l4:Nat)(l5:Nat)(text6:ByteArray)(i7:Nat)(a8:Nat)(l9:List Int)(l10:List Int)(l11:List Int)(l12:List (List Int))(l13:List Int)(l14:List Int) :Sg prog [] pX (dy (l4,l5,text6,i7,a8,l9,l10,l11,l12,l13,l14)) (dd (l4,l5,text6,i7,a8,l9,l10,l11,l12,l13,l14)) dy (jP 0 kG dG):=by
  unfold dd;exact eL bP dy [⟨[],[0,82],[1,2,3,4]⟩,⟨[],[1],[2,3]⟩]
def qz(l15:Nat)(l16:Nat)(a18:Nat)(l19:List Int)(l20:List Int)(l21:List Int)(l22:List (List Int))(l23:List Int)(l24:List Int) :Int×Int×Nat×(List Int)×(List Int)×(List Int)×(List (List Int))×(List Int)×(List Int)×Int×Int→aG:=fun (a25,b26,x27,x28,x29,x30,x31,x32,x33,n34,c35)=>⟨aF 177 [(2,.sl 0 6 6 0 l15 l16),(6,.int .i64 a25),(8,.int .i64 b26),(9,.imm .free (.cols x27 [.ci .i64 x28,.ci .i64 x29,.ci .i64 x30,.cns .u64 x31,.ci .i64 x32,.ci .u64 x33]) 6 6 0 x27),(10,.int .i64 n34),(11,.int .i64 c35)],[(0,.cols a18 [.ci .i64 l19,.ci .i64 l20,.ci .i64 l21,.cns .u64 l22,.ci .i64 l23,.ci .u64 l24])],1⟩
def eG(l15:Nat)(l16:Nat)(text17:ByteArray)(a18:Nat)(l19:List Int)(l20:List Int)(l21:List Int)(l22:List (List Int))(l23:List Int)(l24:List Int) :T ((Int×Int×Nat×(List Int)×(List Int)×(List Int)×(List (List Int))×(List Int)×(List Int)×Int×Int)⊕(ax)) :=
  .need (lU (64:Int) l16)<|.need (lU (0:Int) 64)<|.need (Nat.ble (0+64) a18)<|.need (ek 64)<|.need (Nat.ble (0+l15) a18)<|.need (ek l15)<|.alt 0
    (.need (G3 (ah text17))<|.leaf (.inl ((hH (pU 64 (ba 0 64 l19) (ba 0 64 l20) (ba 0 64 l21) (ba 0 64 l22) (ba 0 64 l23) (ba 0 64 l24))),(hH (pU l15 (ba 0 l15 l19) (ba 0 l15 l20) (ba 0 l15 l21) (ba 0 l15 l22) (ba 0 l15 l23) (ba 0 l15 l24))),0,([]:List Int),([]:List Int),([]:List Int),([]:List (List Int)),([]:List Int),([]:List Int),(NJ (ah text17)),(Nh (ah text17)))))
    (.alt 1
      (.need (G4 (ah text17))<|.leaf (.inl ((hH (pU 64 (ba 0 64 l19) (ba 0 64 l20) (ba 0 64 l21) (ba 0 64 l22) (ba 0 64 l23) (ba 0 64 l24))),(hH (pU l15 (ba 0 l15 l19) (ba 0 l15 l20) (ba 0 l15 l21) (ba 0 l15 l22) (ba 0 l15 l23) (ba 0 l15 l24))),(M5 (ah text17)),(I6 (ah text17)),(I7 (ah text17)),(I8 (ah text17)),(I9 (ah text17)),(Ja (ah text17)),(Jb (ah text17)),(0:Int),(0:Int))))
      (.fail))
def qA(a25:Int)(b26:Int)(x27:Nat)(x28:List Int)(x29:List Int)(x30:List Int)(x31:List (List Int))(x32:List Int)(x33:List Int)(n34:Int)(c35:Int) :Int×Nat×(List Int)×(List Int)×(List Int)×(List (List Int))×(List Int)×(List Int)×Int×Int→aG:=fun (d36,y37,y38,y39,y40,y41,y42,y43,m44,e45)=>⟨aF 177 [(6,.int .i64 a25),(8,.int .i64 b26),(9,.imm .free (.cols x27 [.ci .i64 x28,.ci .i64 x29,.ci .i64 x30,.cns .u64 x31,.ci .i64 x32,.ci .u64 x33]) 6 6 0 x27),(10,.int .i64 n34),(11,.int .i64 c35),(13,.int .i64 d36),(14,.imm .free (.cols y37 [.ci .i64 y38,.ci .i64 y39,.ci .i64 y40,.cns .u64 y41,.ci .i64 y42,.ci .u64 y43]) 6 6 0 y37),(15,.int .i64 m44),(16,.int .i64 e45)],[],0⟩
def eH(l16:Nat)(a18:Nat)(l19:List Int)(l20:List Int)(l21:List Int)(l22:List (List Int))(l23:List Int)(l24:List Int) :T ((Int×Nat×(List Int)×(List Int)×(List Int)×(List (List Int))×(List Int)×(List Int)×Int×Int)⊕(ax)) :=
  .need (lU (65:Int) l16)<|.need (lU (65:Int) 65)<|.need (kF (66*64) 140737488355328)<|.need (kF 66 9223372036854775807)<|.need (kF 6 6)<|.need (kF 65 a18)<|.need (Nat.ble (0+66) 66)<|.need (ek 66)<|.need (decide ((0:Int)≤(8388609:Int)))<|.need (decide ((8388609:Int)≤(8388609:Int)))<|.need (decide ((1:Int)*(8388609:Int)≤140737488355328))<|.need (kJ .i64 (8388609:Int))<|.need (kF 8388609 (List.length (List.replicate 8388609 (0:Int))))<|.alt 0
    (.need (G3 (ah (jN (List.take 8388609 (List.replicate 8388609 (0:Int))))))<|.leaf (.inl ((hH (pU 66 (ba 0 66 ((List.take 65 l19)++[(0:Int)])) (ba 0 66 ((List.take 65 l20)++[(0:Int)])) (ba 0 66 ((List.take 65 l21)++[(0:Int)])) (ba 0 66 ((List.take 65 l22)++[[]])) (ba 0 66 ((List.take 65 l23)++[(0:Int)])) (ba 0 66 ((List.take 65 l24)++[(0:Int)])))),0,([]:List Int),([]:List Int),([]:List Int),([]:List (List Int)),([]:List Int),([]:List Int),(NJ (ah (jN (List.take 8388609 (List.replicate 8388609 (0:Int)))))),(Nh (ah (jN (List.take 8388609 (List.replicate 8388609 (0:Int)))))))))
    (.alt 1
      (.need (G4 (ah (jN (List.take 8388609 (List.replicate 8388609 (0:Int))))))<|.leaf (.inl ((hH (pU 66 (ba 0 66 ((List.take 65 l19)++[(0:Int)])) (ba 0 66 ((List.take 65 l20)++[(0:Int)])) (ba 0 66 ((List.take 65 l21)++[(0:Int)])) (ba 0 66 ((List.take 65 l22)++[[]])) (ba 0 66 ((List.take 65 l23)++[(0:Int)])) (ba 0 66 ((List.take 65 l24)++[(0:Int)])))),(M5 (ah (jN (List.take 8388609 (List.replicate 8388609 (0:Int)))))),(I6 (ah (jN (List.take 8388609 (List.replicate 8388609 (0:Int)))))),(I7 (ah (jN (List.take 8388609 (List.replicate 8388609 (0:Int)))))),(I8 (ah (jN (List.take 8388609 (List.replicate 8388609 (0:Int)))))),(I9 (ah (jN (List.take 8388609 (List.replicate 8388609 (0:Int)))))),(Ja (ah (jN (List.take 8388609 (List.replicate 8388609 (0:Int)))))),(Jb (ah (jN (List.take 8388609 (List.replicate 8388609 (0:Int)))))),(0:Int),(0:Int))))
      (.fail))
def qB(a25:Int)(b26:Int)(x27:Nat)(x28:List Int)(x29:List Int)(x30:List Int)(x31:List (List Int))(x32:List Int)(x33:List Int)(n34:Int)(c35:Int)(d36:Int)(y37:Nat)(y38:List Int)(y39:List Int)(y40:List Int)(y41:List (List Int))(y42:List Int)(y43:List Int)(m44:Int)(e45:Int) :Nat×(List Int)×(List Int)×(List Int)×(List (List Int))×(List Int)×(List Int)×Int×Int→aG:=fun (z46,z47,z48,z49,z50,z51,z52,k53,f54)=>⟨aF 177 [(6,.int .i64 a25),(8,.int .i64 b26),(9,.imm .free (.cols x27 [.ci .i64 x28,.ci .i64 x29,.ci .i64 x30,.cns .u64 x31,.ci .i64 x32,.ci .u64 x33]) 6 6 0 x27),(10,.int .i64 n34),(11,.int .i64 c35),(13,.int .i64 d36),(14,.imm .free (.cols y37 [.ci .i64 y38,.ci .i64 y39,.ci .i64 y40,.cns .u64 y41,.ci .i64 y42,.ci .u64 y43]) 6 6 0 y37),(15,.int .i64 m44),(16,.int .i64 e45),(17,.imm .free (.cols z46 [.ci .i64 z47,.ci .i64 z48,.ci .i64 z49,.cns .u64 z50,.ci .i64 z51,.ci .u64 z52]) 6 6 0 z46),(18,.int .i64 k53),(19,.int .i64 f54)],[],0⟩
def eI:T ((Nat×(List Int)×(List Int)×(List Int)×(List (List Int))×(List Int)×(List Int)×Int×Int)⊕(ax)) :=
  .alt 0
    (.need (G3 (ah (ByteArray.mk #[109,97,116,114,105,120,32,53,49,50,32,48,10,115,118,100,32,50,10])))<|.leaf (.inl (0,([]:List Int),([]:List Int),([]:List Int),([]:List (List Int)),([]:List Int),([]:List Int),(NJ (ah (ByteArray.mk #[109,97,116,114,105,120,32,53,49,50,32,48,10,115,118,100,32,50,10]))),(Nh (ah (ByteArray.mk #[109,97,116,114,105,120,32,53,49,50,32,48,10,115,118,100,32,50,10]))))))
    (.alt 1
      (.need (G4 (ah (ByteArray.mk #[109,97,116,114,105,120,32,53,49,50,32,48,10,115,118,100,32,50,10])))<|.leaf (.inl ((M5 (ah (ByteArray.mk #[109,97,116,114,105,120,32,53,49,50,32,48,10,115,118,100,32,50,10]))),(I6 (ah (ByteArray.mk #[109,97,116,114,105,120,32,53,49,50,32,48,10,115,118,100,32,50,10]))),(I7 (ah (ByteArray.mk #[109,97,116,114,105,120,32,53,49,50,32,48,10,115,118,100,32,50,10]))),(I8 (ah (ByteArray.mk #[109,97,116,114,105,120,32,53,49,50,32,48,10,115,118,100,32,50,10]))),(I9 (ah (ByteArray.mk #[109,97,116,114,105,120,32,53,49,50,32,48,10,115,118,100,32,50,10]))),(Ja (ah (ByteArray.mk #[109,97,116,114,105,120,32,53,49,50,32,48,10,115,118,100,32,50,10]))),(Jb (ah (ByteArray.mk #[109,97,116,114,105,120,32,53,49,50,32,48,10,115,118,100,32,50,10]))),(0:Int),(0:Int))))
      (.fail))
def pZ(a25:Int)(b26:Int)(x27:Nat)(x28:List Int)(x29:List Int)(x30:List Int)(x31:List (List Int))(x32:List Int)(x33:List Int)(n34:Int)(c35:Int)(d36:Int)(y37:Nat)(y38:List Int)(y39:List Int)(y40:List Int)(y41:List (List Int))(y42:List Int)(y43:List Int)(m44:Int)(e45:Int)(z46:Nat)(z47:List Int)(z48:List Int)(z49:List Int)(z50:List (List Int))(z51:List Int)(z52:List Int)(k53:Int)(f54:Int) :Nat×(List Int)×(List Int)×(List Int)×(List (List Int))×(List Int)×(List Int)×Int→aG:=fun (none55,none56,none57,none58,none59,none60,none61,g62)=>⟨aF 177 [(6,.int .i64 a25),(8,.int .i64 b26),(9,.imm .free (.cols x27 [.ci .i64 x28,.ci .i64 x29,.ci .i64 x30,.cns .u64 x31,.ci .i64 x32,.ci .u64 x33]) 6 6 0 x27),(10,.int .i64 n34),(11,.int .i64 c35),(13,.int .i64 d36),(14,.imm .free (.cols y37 [.ci .i64 y38,.ci .i64 y39,.ci .i64 y40,.cns .u64 y41,.ci .i64 y42,.ci .u64 y43]) 6 6 0 y37),(15,.int .i64 m44),(16,.int .i64 e45),(17,.imm .free (.cols z46 [.ci .i64 z47,.ci .i64 z48,.ci .i64 z49,.cns .u64 z50,.ci .i64 z51,.ci .u64 z52]) 6 6 0 z46),(18,.int .i64 k53),(19,.int .i64 f54),(20,.imm .free (.cols none55 [.ci .i64 none56,.ci .i64 none57,.ci .i64 none58,.cns .u64 none59,.ci .i64 none60,.ci .u64 none61]) 6 6 0 none55),(22,.int .i64 g62)],[],0⟩
def eJ:T ((Nat×(List Int)×(List Int)×(List Int)×(List (List Int))×(List Int)×(List Int)×Int)⊕(ax)) :=
  .alt 0
    (.need (G3 (ah ByteArray.empty))<|.leaf (.inl (0,([]:List Int),([]:List Int),([]:List Int),([]:List (List Int)),([]:List Int),([]:List Int),(Nh (ah ByteArray.empty)))))
    (.alt 1
      (.need (G4 (ah ByteArray.empty))<|.leaf (.inl ((M5 (ah ByteArray.empty)),(I6 (ah ByteArray.empty)),(I7 (ah ByteArray.empty)),(I8 (ah ByteArray.empty)),(I9 (ah ByteArray.empty)),(Ja (ah ByteArray.empty)),(Jb (ah ByteArray.empty)),(0:Int))))
      (.fail))
def qa(b63:Bool) :aG:=⟨aF 177 [(0,.bool false b63)],[],0⟩
def eK(a25 : Int)(b26 : Int)(x27 : Nat)(n34 : Int)(c35 : Int)(d36 : Int)(y37 : Nat)(m44 : Int)(e45 : Int)(z46 : Nat)(z48 : List Int)(k53 : Int)(f54 : Int)(none55 : Nat)(g62 : Int) : T ((Bool) ⊕ (ax)) :=
  .ask (a25 == (0 : Int))
    (.ask (b26 == (3 : Int))
      (.ask (((x27 : Nat) : Int) == (0 : Int))
        (.ask (n34 == (0 : Int))
          (.ask (c35 == (3 : Int))
            (.ask (d36 == (2 : Int))
              (.ask (((y37 : Nat) : Int) == (0 : Int))
                (.ask (m44 == (0 : Int))
                  (.ask (e45 == (3 : Int))
                    (.ask (((z46 : Nat) : Int) == (1 : Int))
                      (.need (yh (0 : Int) z46) <| .need (nv 0 (List.length z48)) <| .ask ((List.getD z48 0 0) == (512 : Int))
                        (.ask (k53 == (0 : Int))
                          (.ask (f54 == (0 : Int))
                            (.ask (((none55 : Nat) : Int) == (0 : Int))
                              (.ask (g62 == (0 : Int))
                                (.need (bU (aP (ByteArray.mk #[109,97,116,114,105,120,32,53,49,51,32,48,10,115,118,100,32,50,10]) (0:Int)))<|.ask (bO (aP (ByteArray.mk #[109,97,116,114,105,120,32,53,49,51,32,48,10,115,118,100,32,50,10]) (0:Int)))
                                  (.need (bU (aP (ByteArray.mk #[109,97,116,114,105,120,32,49,32,48,10,118,97,108,117,101,115,10]) (1:Int)))<|.ask (bO (aP (ByteArray.mk #[109,97,116,114,105,120,32,49,32,48,10,118,97,108,117,101,115,10]) (1:Int)))
                                    (.need (bU (aP (ByteArray.mk #[109,97,116,114,105,120,32,48,48,32,48,10,118,97,108,117,101,115,10]) (0:Int)))<|.ask (bO (aP (ByteArray.mk #[109,97,116,114,105,120,32,48,48,32,48,10,118,97,108,117,101,115,10]) (0:Int)))
                                      (.need (bU (aP (ByteArray.mk #[109,97,116,114,105,120,32,48,32,48,10,118,97,108,117,101,115]) (1:Int)))<|.ask (bO (aP (ByteArray.mk #[109,97,116,114,105,120,32,48,32,48,10,118,97,108,117,101,115]) (1:Int)))
                                        (.need (bU (aP (ByteArray.mk #[109,97,116,114,105,120,32,48,32,48,10,114,97,110,107,32,49,10]) (1:Int)))<|.ask (bO (aP (ByteArray.mk #[109,97,116,114,105,120,32,48,32,48,10,114,97,110,107,32,49,10]) (1:Int)))
                                          (.need (bU (aP (ByteArray.mk #[10]) (0:Int)))<|.ask (bO (aP (ByteArray.mk #[10]) (0:Int)))
                                            (.need (bU (aP (ByteArray.mk #[118,97,108,117,101,115,10]) (0:Int)))<|.ask (bO (aP (ByteArray.mk #[118,97,108,117,101,115,10]) (0:Int)))
                                              (.need (lx (kr ([]:List Int)))<|.ask ((mb (kr ([]:List Int))).toList==ByteArray.empty.toList)
                                                (.leaf (.inl true))
                                                (.leaf (.inl false)))
                                              (.leaf (.inl false)))
                                            (.leaf (.inl false)))
                                          (.leaf (.inl false)))
                                        (.leaf (.inl false)))
                                      (.leaf (.inl false)))
                                    (.leaf (.inl false)))
                                  (.leaf (.inl false)))
                                (.leaf (.inl false)))
                              (.leaf (.inl false)))
                            (.leaf (.inl false)))
                          (.leaf (.inl false)))
                        (.leaf (.inl false)))
                      (.leaf (.inl false)))
                    (.leaf (.inl false)))
                  (.leaf (.inl false)))
                (.leaf (.inl false)))
              (.leaf (.inl false)))
            (.leaf (.inl false)))
          (.leaf (.inl false)))
        (.leaf (.inl false)))
      (.leaf (.inl false)))
    (.leaf (.inl false))
def qb(b63:Bool) :T ((Empty)⊕(ax)) :=
  .leaf (.inr (.r0 b63))
noncomputable def dH:Option ax:=Au (ch ((pW).run) fun text1 =>
  ch (ei (dd) (0,0,text1,0,0,([]:List Int),([]:List Int),([]:List Int),([]:List (List Int)),([]:List Int),([]:List Int))) fun (l15,l16,text17,a18,l19,l20,l21,l22,l23,l24) =>
  ch ((eG l15 l16 text17 a18 l19 l20 l21 l22 l23 l24).run) fun (a25,b26,x27,x28,x29,x30,x31,x32,x33,n34,c35) =>
  ch ((eH l16 a18 l19 l20 l21 l22 l23 l24).run) fun (d36,y37,y38,y39,y40,y41,y42,y43,m44,e45) =>
  ch ((eI).run) fun (z46,z47,z48,z49,z50,z51,z52,k53,f54) =>
  ch ((eJ).run) fun (none55,none56,none57,none58,none59,none60,none61,g62) =>
  ch ((eK a25 b26 x27 n34 c35 d36 y37 m44 e45 z46 z48 k53 f54 none55 g62).run) fun b63 =>
  (qb b63).run)
theorem kH{x:ax}(h:dH=some x) :ao prog fD [] [] (gM x) :=
  DS false gM dG h (Sg.cut 5 bf (eL bP qy [⟨[],[32],[1,2,3,4]⟩]) (fun text1=>Sg.cut 1 bf (Nz ⟨[(.slot 2,.own 6 6 (.cols 0 [.ci .i64 ([]:List Int),.ci .i64 ([]:List Int),.ci .i64 ([]:List Int),.cns .u64 ([]:List (List Int)),.ci .i64 ([]:List Int),.ci .u64 ([]:List Int)]))],[0,1],[1,2,3,4]⟩ (dy) (kG) 0 bf (qx _) (fun ⟨l4,l5,text6,i7,a8,l9,l10,l11,l12,l13,l14⟩=>pY l4 l5 text6 i7 a8 l9 l10 l11 l12 l13 l14)) (fun ⟨l15,l16,text17,a18,l19,l20,l21,l22,l23,l24⟩=>Sg.cut 3 bf (eL bP (qz l15 l16 a18 l19 l20 l21 l22 l23 l24) [⟨[(.slot 9,.fre 6 6 (.cols 0 [.ci .i64 ([]:List Int),.ci .i64 ([]:List Int),.ci .i64 ([]:List Int),.cns .u64 ([]:List (List Int)),.ci .i64 ([]:List Int),.ci .u64 ([]:List Int)]))],[0],[2,6,8,9,10,11]⟩,⟨[],[0],[2,6,8,9,10,11]⟩]) (fun ⟨a25,b26,x27,x28,x29,x30,x31,x32,x33,n34,c35⟩=>Sg.cut 2 bf (eL bP (qA a25 b26 x27 x28 x29 x30 x31 x32 x33 n34 c35) [⟨[(.slot 14,.fre 6 6 (.cols 0 [.ci .i64 ([]:List Int),.ci .i64 ([]:List Int),.ci .i64 ([]:List Int),.cns .u64 ([]:List (List Int)),.ci .i64 ([]:List Int),.ci .u64 ([]:List Int)]))],[],[6,8,9,10,11,13,14,15,16]⟩,⟨[],[],[6,8,9,10,11,13,14,15,16]⟩]) (fun ⟨d36,y37,y38,y39,y40,y41,y42,y43,m44,e45⟩=>Sg.cut 1 bf (eL bP (qB a25 b26 x27 x28 x29 x30 x31 x32 x33 n34 c35 d36 y37 y38 y39 y40 y41 y42 y43 m44 e45) [⟨[(.slot 17,.fre 6 6 (.cols 0 [.ci .i64 ([]:List Int),.ci .i64 ([]:List Int),.ci .i64 ([]:List Int),.cns .u64 ([]:List (List Int)),.ci .i64 ([]:List Int),.ci .u64 ([]:List Int)]))],[],[6,8,9,10,11,13,14,15,16,17,18,19]⟩,⟨[],[],[6,8,9,10,11,13,14,15,16,17,18,19]⟩]) (fun ⟨z46,z47,z48,z49,z50,z51,z52,k53,f54⟩=>Sg.cut 1 bf (eL bP (pZ a25 b26 x27 x28 x29 x30 x31 x32 x33 n34 c35 d36 y37 y38 y39 y40 y41 y42 y43 m44 e45 z46 z47 z48 z49 z50 z51 z52 k53 f54) [⟨[(.slot 20,.fre 6 6 (.cols 0 [.ci .i64 ([]:List Int),.ci .i64 ([]:List Int),.ci .i64 ([]:List Int),.cns .u64 ([]:List (List Int)),.ci .i64 ([]:List Int),.ci .u64 ([]:List Int)]))],[],[6,8,9,10,11,13,14,15,16,17,18,19,20,22]⟩,⟨[],[],[6,8,9,10,11,13,14,15,16,17,18,19,20,22]⟩]) (fun ⟨none55,none56,none57,none58,none59,none60,none61,g62⟩=>Sg.cut 1 bf (eL bP qa [⟨[],[],[0]⟩,⟨[],[],[0]⟩,⟨[],[],[0]⟩,⟨[],[],[0]⟩,⟨[],[],[0]⟩,⟨[],[],[0]⟩,⟨[],[],[0]⟩,⟨[],[],[0]⟩,⟨[],[],[0]⟩,⟨[],[],[0]⟩,⟨[],[],[0]⟩,⟨[],[],[0]⟩,⟨[],[],[0]⟩,⟨[],[],[0]⟩,⟨[],[],[0]⟩,⟨[],[],[0]⟩,⟨[],[],[0]⟩,⟨[],[],[0]⟩,⟨[],[],[0]⟩,⟨[],[],[0]⟩,⟨[],[],[0]⟩,⟨[],[],[0]⟩,⟨[],[],[0]⟩,⟨[],[],[0]⟩]) (fun b63=>eL bP Av [⟨[],[],[0]⟩]))))))))
    (fun x=>by cases x with | r0 b64=>exact uh [.bool false b64])
def fk:Option ax→Bool
  | some _=>true
  | none=>false
def jQ:Option ax→Bool
  | some (.r0 x)=>x
  | _=>false
theorem qC{x:Option ax}(h:fk x=true) :x=some (.r0 (jQ x)):=by
  unfold fk at h
  split at h<;>first | rfl | (cases h;done) | (rename_i y;cases y;rfl)
noncomputable def lS:aU:=eh fD .nil fun t=>(fun q=>[⟨gM (.r0 (jQ q)),[fk q]⟩]) (dH)
theorem oW:bm prog lS:=bA fun t=>(bQ (fun h=>kH (qC h)) cC)
noncomputable def rJ:List aU:=lS::tC
theorem CM:bC prog (bG rJ):=aE oW bP
end
end Go.Plb.Seat
namespace Go.Plb.Seat
open Go Go.Plb Go.Proofs Go.RowKit Go.Shelf
set_option maxRecDepth 100000
set_option linter.unusedSimpArgs false
set_option linter.unusedVariables false
attribute [local go_sem] Oper.semAt_some
theorem K3(s:ByteArray)(hs:s.size≤1000000000) :bL s (ByteArray.mk #[32])=some (.r0 (aD s).length (aD s).length (aD s)):=by
  unfold bL
  refine cN (ay (a:=((aD s).length,(aD s).length,aD s)) ?_ rfl)
  simp only [oV,ye s hs]
  exact bB rfl
theorem G5(s:ByteArray) :aj s (ByteArray.mk #[10])=some (.r0 (Lib.indexByte s.data.toList 10)):=by
  unfold aj
  refine cN (dK ?_)
  by_cases h:s=ByteArray.mk #[10]
  · subst h
    exact lF (by rw [dI];exact decide_eq_true rfl) rfl
  · refine lG (by rw [dI];exact decide_eq_false fun q=>h q.symm) (bo (bB ?_))
    show some (Sum.inr (aB.r0 (EI s 10)))=_
    rw [show EI s 10=Lib.indexByte s.data.toList 10 from Lib.firstIdx_eq s 10]
def cg(s:ByteArray) :ByteArray×ByteArray×Bool :=
  if Lib.indexByte s.data.toList 10<0 then (s,ByteArray.empty,false)
  else (s.extract 0 (Lib.indexByte s.data.toList 10).toNat,s.extract ((Lib.indexByte s.data.toList 10).toNat+1) s.size,true)
theorem D9(s:ByteArray)(hs:s.size≤1000000000) :ff s (ByteArray.mk #[10])=some (.r0 (cg s).1 (cg s).2.1 (cg s).2.2):=by
  unfold ff
  refine cN (ay (a:=cg s) ?_ rfl)
  have hge:=Lib.indexByte_ge s.data.toList 10
  have hlt:=pP s.data.toList 10
  have hsz:s.data.toList.length=s.size:=by simp
  simp only [rF,G5]
  unfold cg
  by_cases hneg:Lib.indexByte s.data.toList 10<0
  · rw [if_pos hneg]
    exact bB (lG (decide_eq_false (show ¬ Lib.indexByte s.data.toList 10≥0 by omega)) rfl)
  · rw [if_neg hneg]
    obtain ⟨n,hn⟩:=Int.eq_ofNat_of_zero_le (Int.not_lt.1 hneg)
    have hn:Lib.indexByte s.data.toList 10=(n:Int):=hn
    have hlt':n<s.size:=by
      rcases hlt with h | h
      · omega
      · rw [h] at hn
        exact absurd hn (by simp [Lib.indexByte])
    rw [hn]
    have n2:((n:Int)+(((ByteArray.mk #[10]).size:Nat):Int)).toNat=n+1:=by show ((n:Int)+1).toNat=_;omega
    refine bB (lF (decide_eq_true (show (n:Int)≥0 by omega)) (aC ?_ (aC ?_ (aC ?_ (aC ?_ (aC ?_ ?_))))))
    · rw [mh];show 0≤(n:Int)∧(n:Int)≤_;omega
    · rw [mh];omega
    · rw [bV];show _≤(n:Int)+1∧(n:Int)+1≤_;omega
    · rw [mh];omega
    · rw [mh];show 0≤(n:Int)+1∧(n:Int)+1≤_;omega
    · show some (Sum.inl (s.extract 0 ((n:Int)).toNat,s.extract (((n:Int)+(((ByteArray.mk #[10]).size:Nat):Int)).toNat) s.size,true))=_
      rw [n2]
      rfl
def Bt(s:ByteArray) :Int:=match FE s with | some _=>0 | none=>4
def oz(s:ByteArray) :Nat×Int×Int:=(FE s).getD (0,0,0)
def Jv(n:Int) :Bool:=bif decide (n≥0) then decide (n≤512) else false
theorem LY(n:Int) :bM n=some (.r0 (Jv n)):=by
  unfold bM Jv
  refine cN (ay (a:=bif decide (n≥0) then decide (n≤512) else false) ?_ rfl)
  cases h:decide (n≥0) with
  | true=>exact lF h rfl
  | false=>exact lG h rfl
end Go.Plb.Seat
namespace Go.Plb.Seat
open Go Go.Plb
set_option linter.unusedSimpArgs false
set_option linter.unusedVariables false
set_option maxRecDepth 100000
structure Rd where
  l:List kC
  m:Int
  n:Int
  ws:List Int
  on:Bool
  row:Int
def HW(s:ByteArray) :Int:=cS ((aD s).getD 1 ByteArray.empty)
def HX(s:ByteArray) :Int:=cS ((aD s).getD 2 ByteArray.empty)
def G6(s:ByteArray) :Bool:=bif Jv (HW s) then bif Jv (HX s) then decide (eW (HW s) (HX s)=s) else false else false
def K4(r:Rd)(s:ByteArray) :kC:=⟨(oz s).1,r.m,r.n,r.ws,(oz s).2.1,(oz s).2.2⟩
def mC(r:Rd)(s:ByteArray) :Bool:=bif decide (Bt s=0) then (K4 r s).may else false
def lT(r:Rd)(s:ByteArray) :Rd×Bool :=
  bif r.on then
    bif decide (r.row<r.m)&&decide (0<r.n) then
      bif dE s then ({ r with ws:=r.ws++cd s,row:=r.row+1 },((((cd s).length:Nat):Int)==r.n)) else (r,false)
    else ({ r with l:=r.l++[K4 r s],on:=false },mC r s)
  else bif decide ((aD s).length=3) then (⟨r.l,HW s,HX s,[],true,0⟩,G6 s) else (r,false)
theorem CN{n:Int}(h:Jv n=true) :0≤n∧n≤512:=by
  unfold Jv at h
  cases h1:decide (n≥0) with
  | false=>rw [h1] at h;cases h
  | true=>rw [h1] at h;exact ⟨of_decide_eq_true h1,of_decide_eq_true h⟩
theorem LZ{s:ByteArray}{w:List ByteArray}(hw:aD s=w)(h3:w.length=3)(hs:s.size≤1000000000) :ek (w.getD 1 ByteArray.empty).size=true∧ek (w.getD 2 ByteArray.empty).size=true:=by
  have key:∀ i,i<w.length→ek (w.getD i ByteArray.empty).size=true:=by
    intro i hi
    rw [List.getD_eq_getElem?_getD,List.getElem?_eq_getElem hi]
    have:w[i]∈aD s:=by rw [hw];exact List.getElem_mem hi
    exact Nat.ble_eq_true_of_le (Nat.le_trans (Bj this) hs)
  exact ⟨key 1 (by omega),key 2 (by omega)⟩
theorem Jd(a b:ByteArray) :(a.toList==b.toList)=decide (a=b):=dI a b
theorem M6(n c:Nat)(k m nn:Int)(w:List Int)(y t row:Int)(nc:Nat)(ks ms ns:List Int)(wss:List (List Int))(ys ts:List Int)(s:ByteArray)(on:Bool)(hon:on=false)(hs:s.size≤1000000000) :
    bz n c k m nn w y t on row nc ks ms ns wss ys ts s=some (bif decide ((aD s).length=3) then .r1 (G6 s) n c (HW s) (HX s) true nc ks ms ns wss ys ts else .r0 false n c k m nn w w.length y t false row nc ks ms ns wss ys ts):=by
  subst hon
  unfold bz
  have h16:(jG s).run=some (.inl (aD s,(aD s).length)):=by
    simp only [jG,K3 s hs]
    exact bB rfl
  by_cases h3:(aD s).length=3
  · obtain ⟨l1,l2⟩:=LZ rfl h3 hs
    rw [decide_eq_true h3,cond_true]
    have h17:(eF n c k m nn w y t false row nc ks ms ns wss ys ts s (aD s) (aD s).length).run=some (.inl (G6 s,HW s,HX s,true)):=by
      simp only [eF,LY]
      refine lG (by rw [h3];rfl) (aC (by rw [h3];rfl) (aC (by rw [mz];omega) (aC l1 (aC (by rw [h3];rfl) (aC (by rw [mz];omega) (aC l2 (bB ?_)))))))
      show (T.ask (Jv (HW s)) _ _).run=_
      unfold G6
      cases hm:Jv (HW s) with
      | false=>exact dK rfl
      | true =>
        refine bo (bB ?_)
        show (T.ask (Jv (HX s)) _ _).run=_
        cases hn:Jv (HX s) with
        | false=>exact dK rfl
        | true =>
          have r1:=CN hm
          have r2:=CN hn
          have hh:=rv (HW s) (HX s) (by rw [bV];omega) (by rw [bV];omega)
          have hh:dh (cS ((aD s).getD 1 ByteArray.empty)) (cS ((aD s).getD 2 ByteArray.empty))=some (.r0 (eW (HW s) (HX s))):=hh
          rw [hh]
          refine bo (bB ?_)
          show some (Sum.inl ((eW (HW s) (HX s)).toList==s.toList,HW s,HX s,true))=_
          rw [Jd]
          rfl
    exact cN (ay rfl (dY (oN (ay rfl (dY (ay h16 (ay h17 rfl)))))))
  · rw [decide_eq_false h3,cond_false]
    have h17:(eF n c k m nn w y t false row nc ks ms ns wss ys ts s (aD s) (aD s).length).run=some (.inr (.inr (.r0 false n c k m nn w w.length y t false row nc ks ms ns wss ys ts))) :=
      lF (bne_iff_ne.2 (by omega)) rfl
    exact cN (ay rfl (dY (oN (ay rfl (dY (ay h16 (dY h17)))))))
theorem M7(n c:Nat)(k m nn:Int)(w:List Int)(y t row:Int)(ks ms ns:List Int)(wss:List (List Int))(ys ts:List Int)(s:ByteArray)(on:Bool)(hon:on=true)(hs:s.size≤1000000000)(hc:(decide (row<m)&&decide (0<nn))=false)(hn:n≤100000000)(hw:w.length≤100000000) 
    (e1:ks.length=n) (e2:ms.length=n) (e3:ns.length=n) (e4:wss.length=n) (e5:ys.length=n) (e6:ts.length=n) (l:List kC) :
    bz n c k m nn w y t on row n ks ms ns wss ys ts s=some (.r2 (mC ⟨l,m,nn,w,true,row⟩ s) (n+1) k m nn w w.length y t false row (ks++[(((oz s).1:Nat):Int)]) (ms++[m]) (ns++[nn]) (wss++[w]) (ys++[(oz s).2.1]) (ts++[(oz s).2.2])):=by
  subst hon
  unfold bz
  have h20:(jH m nn row).run=some (.inl false):=by
    unfold jH
    cases h1:decide (row<m) with
    | false=>exact dK rfl
    | true =>
      rw [h1,Bool.true_and] at hc
      refine bo ?_
      show some (Sum.inl (decide (nn>0)))=_
      rw [show decide (nn>0)=false from hc]
  have h0:aS s=some (.r0 (Bt s).toNat (oz s).1 (oz s).2.1 (oz s).2.2):=by
    rw [xz s hs]
    unfold Bt oz
    cases FE s with
    | none=>rfl
    | some p=>obtain ⟨k,y,t⟩:=p;rfl
  have hE:(((Bt s).toNat:Nat):Int)=Bt s:=by
    unfold Bt
    cases FE s<;>rfl
  have h23:(jI s).run=some (.inl ((Bt s).toNat,(((oz s).1:Nat):Int),(oz s).2.1,(oz s).2.2)):=by
    simp only [jI,h0]
    exact bB rfl
  have tk:∀ {α:Type} (xs:List α),xs.length=n→List.take n xs=xs:=fun xs h=>List.take_of_length_le (by omega)
  have h24:(jJ n m nn w n ks ms ns wss ys ts (Bt s).toNat (((oz s).1:Nat):Int) (oz s).2.1 (oz s).2.2).run=some (.inl (mC ⟨l,m,nn,w,true,row⟩ s,n+1,false,ks++[(((oz s).1:Nat):Int)],ms++[m],ns++[nn],wss++[w],ys++[(oz s).2.1],ts++[(oz s).2.2])):=by
    simp only [jJ,tk _ e1,tk _ e2,tk _ e3,tk _ e4,tk _ e5,tk _ e6,Ak,tl,List.drop_zero,List.take_length,hE]
    refine aC (by rw [dD];omega) (aC (by rw [dD];omega) (bB (aC (by rw [dD];exact Nat.le_refl _) (aC (decide_eq_true (by omega)) ?_))))
    unfold mC
    by_cases he:Bt s=0
    · rw [he]
      exact bo (NB (bB rfl))
    · rw [decide_eq_false he]
      exact lG (beq_eq_false_iff_ne.2 he) rfl
  exact cN (ay rfl (ay (Fl (ay rfl (ay (ay h20 rfl) rfl))) (ay h23 (ay h24 rfl))))
theorem CO(s:ByteArray) :(cd s).length≤s.size+1:=by
  unfold cd
  cases hu:mX s with
  | none=>simp
  | some x =>
    have e:gX ((aD s).map fun x=>x.data.toList)=some x:=by rw [nQ,←vQ,hu]
    have hw:=(GU s (s.size+1)).2
    have:∀ (l:List (List UInt8)) x,gX l=some x→x.length=l.length:=by
      intro l
      induction l with
      | nil=>intro x h;cases h;rfl
      | cons w l ih =>
        intro x h
        rw [gX] at h
        cases hb:CH w with
        | false =>
          rw [hb,cond_false] at h
          cases h
        | true =>
          rw [hb,cond_true,Option.map_eq_some_iff] at h
          obtain ⟨y,hy,rfl⟩:=h
          simp [ih y hy]
    have:=this _ _ e
    rw [List.length_map] at this
    unfold aD at this
    simp only [Option.getD_some]
    omega
theorem M8(n c:Nat)(k m nn:Int)(nw cw:Nat)(y t row:Int)(nc:Nat)(ks ms ns:List Int)(wss:List (List Int))(ys ts ws:List Int)(s:ByteArray)(on:Bool)(hon:on=true)(hs:s.size≤100000000)(hc:(decide (row<m)&&decide (0<nn))=true)(hnw:nw=ws.length)(hw:ws.length≤100000000)(hr : -10≤row∧row≤1000000000) :
    dk n c k m nn nw cw y t on row nc ks ms ns wss ys ts ws s=some (bif dE s then .r2 ((((cd s).length:Nat):Int)==nn) n c k m nn (ws.length+(cd s).length) y t true (row+1) nc ks ms ns wss ys ts (ws++cd s) else .r0 false n c k m nn nw cw y t true (row+1) nc ks ms ns wss ys ts ws):=by
  subst hon
  subst hnw
  unfold dk
  have hu:=CO s
  have h19:(jE m nn row).run=some (.inl true):=by
    unfold jE
    rw [Bool.and_eq_true] at hc
    refine lF hc.1 ?_
    show some (Sum.inl (decide (nn>0)))=_
    rw [show decide (nn>0)=true from hc.2]
  have hlo:ek s.size=true:=Nat.ble_eq_true_of_le (by omega)
  have hi:kJ .i64 (row+1)=true:=by rw [bV];omega
  cases ho:dE s with
  | true =>
    have h20:(dt n c k m nn ws.length cw y t true row nc ks ms ns wss ys ts ws s true).run=some (.inr (.inr (.r2 ((((cd s).length:Nat):Int)==nn) n c k m nn (ws.length+(cd s).length) y t true (row+1) nc ks ms ns wss ys ts (ws++cd s)))):=by
      simp only [dt,List.take_length]
      exact bo (rj (aC ho (aC hlo (aC (by rw [dD];omega) (aC (by rw [dD];omega) (aC (by rw [dD];exact Nat.le_refl _) (aC (by rw [dD];exact Nat.le_refl _) (aC hi (bo rfl)))))))))
    exact cN (ay rfl (dY (oN (ay rfl (dY (ay h19 h20))))))
  | false =>
    have h20:(dt n c k m nn ws.length cw y t true row nc ks ms ns wss ys ts ws s true).run=some (.inr (.inr (.r0 false n c k m nn ws.length cw y t true (row+1) nc ks ms ns wss ys ts ws))):=by
      simp only [dt,List.take_length]
      exact bo (pN (pO ho) (rj (aC (by rw [ho];rfl) (aC hlo (aC hi (dK rfl))))))
    exact cN (ay rfl (dY (oN (ay rfl (dY (ay h19 h20))))))
theorem Je(n:Int)(c:Option aM)(w:List Int)(nw:Nat)(hw:nw=w.length)(hi:kJ .i64 (n+1)=true)(b:Bool)(nl cl:Nat)(k m nn:Int)(w':List Int)(nw':Nat)(y t:Int)(on:Bool)(row:Int)(nc:Nat)(ks ms ns:List Int)(wss:List (List Int))(ys ts:List Int) :
    (Bl n c w nw (some (.r0 b nl cl k m nn w' nw' y t on row nc ks ms ns wss ys ts))).run=some (bif b then .inl (.off (aX c) (n+1) b ⟨nl,cl,k,m,nn,y,t,on,row,nc,ks,ms,ns,wss,ys,ts⟩ w' nw') else .inr (.inl (.bad n b))):=by
  subst hw
  cases b with
  | false=>exact rj (aC (by simp) (bB (bo rfl)))
  | true=>exact rj (aC (by simp) (bB (dK (aC hi rfl))))
theorem Jf(n:Int)(c:Option aM)(w:List Int)(nw:Nat)(hw:nw=w.length)(hi:kJ .i64 (n+1)=true)(b:Bool)(nl cl:Nat)(m nn:Int)(on:Bool)(nc:Nat)(ks ms ns:List Int)(wss:List (List Int))(ys ts:List Int) :
    (Bl n c w nw (some (.r1 b nl cl m nn on nc ks ms ns wss ys ts))).run=some (bif b then .inl (.on (aX c) (n+1) b ⟨nl,cl,0,m,nn,0,0,on,0,nc,ks,ms,ns,wss,ys,ts⟩ 0 0 []) else .inr (.inl (.bad n b))):=by
  subst hw
  have hb:Nat.beq w.length w.length=true:=by simp
  cases b with
  | false=>exact pN (aC hb (pO rfl)) (rj (aC hb (bB (bo rfl))))
  | true=>exact pN (aC hb (pO rfl)) (rj (aC hb (bB (dK (aC hi rfl)))))
theorem Jg(n:Int)(c:Option aM)(w:List Int)(nw:Nat)(hw:nw=w.length)(hi:kJ .i64 (n+1)=true)(b:Bool)(nl:Nat)(k m nn:Int)(w':List Int)(nw':Nat)(y t:Int)(on:Bool)(row:Int)(ks ms ns:List Int)(wss:List (List Int))(ys ts:List Int) :
    (Bl n c w nw (some (.r2 b nl k m nn w' nw' y t on row ks ms ns wss ys ts))).run=some (bif b then .inl (.off (aX c) (n+1) b ⟨nl,nl,k,m,nn,y,t,on,row,nl,ks,ms,ns,wss,ys,ts⟩ w' nw') else .inr (.inl (.bad n b))):=by
  subst hw
  have hb:Nat.beq w.length w.length=true:=by simp
  cases b with
  | false=>exact pN (aC hb (pO rfl)) (pN (aC hb (pO rfl)) (rj (aC hb (bB (bo rfl)))))
  | true=>exact pN (aC hb (pO rfl)) (pN (aC hb (pO rfl)) (rj (aC hb (bB (dK (aC hi rfl))))))
theorem K5(n:Int)(c:Option aM)(hi:kJ .i64 (n+1)=true)(nl cl:Nat)(k m nn:Int)(nw' cw':Nat)(y t:Int)(on:Bool)(row:Int)(nc:Nat)(ks ms ns:List Int)(wss:List (List Int))(ys ts ws:List Int) :
    (HU n c (some (.r0 false nl cl k m nn nw' cw' y t on row nc ks ms ns wss ys ts ws))).run=some (.inr (.inl (.bad n false))):=rj (bB (bo rfl))
theorem K6(n:Int)(c:Option aM)(hi:kJ .i64 (n+1)=true)(b:Bool)(nl cl:Nat)(k m nn:Int)(nw':Nat)(y t:Int)(on:Bool)(row:Int)(nc:Nat)(ks ms ns:List Int)(wss:List (List Int))(ys ts ws:List Int) :
    (HU n c (some (.r2 b nl cl k m nn nw' y t on row nc ks ms ns wss ys ts ws))).run=some (bif b then .inl (.on (aX c) (n+1) b ⟨nl,cl,k,m,nn,y,t,on,row,nc,ks,ms,ns,wss,ys,ts⟩ nw' nw' ws) else .inr (.inl (.bad n b))):=by
  cases b with
  | false=>exact pN (pO rfl) (pN (pO rfl) (rj (bB (bo rfl))))
  | true=>exact pN (pO rfl) (pN (pO rfl) (rj (bB (dK (aC hi rfl)))))
structure Ea (r:RS) (l:List kC):Prop where
  nl:r.nl=l.length
  nc:r.nc=l.length
  ks:r.ks=l.map kC.k
  ms:r.ms=l.map kC.m
  ns:r.ns=l.map kC.n
  wss:r.wss=l.map kC.ws
  ys:r.ys=l.map kC.y
  ts:r.ts=l.map kC.t
def NL(σ:Ef)(s:ByteArray)(n:Int)(rd:Rd) :Prop :=
  match σ with
  | .off s' n' b r w nw=>s'=s∧n'=n∧b=true∧r.on=false∧rd.on=false∧nw=w.length∧Ea r rd.l
  | .on s' n' b r nw cw ws=>s'=s∧n'=n∧b=true∧r.on=true∧rd.on=true∧r.m=rd.m∧r.nn=rd.n∧r.row=rd.row∧ws=rd.ws∧nw=ws.length∧Ea r rd.l
structure Bd (s:ByteArray) (n:Int) (rd:Rd):Prop where
  n0:0≤n
  n1:n+(s.size:Int)≤10000000
  l:(rd.l.length:Int)≤n
  r0:0≤rd.row
  r1:rd.row≤n
  w:rd.ws.length+s.size≤10000000
theorem si{s:ByteArray}(h:(cg s).2.2=true) :(cg s).1.size+1+(cg s).2.1.size=s.size:=by
  have hge:=Lib.indexByte_ge s.data.toList 10
  have hlt:=pP s.data.toList 10
  have hsz:s.data.toList.length=s.size:=by simp
  unfold cg at h ⊢
  by_cases hneg:Lib.indexByte s.data.toList 10<0
  · rw [if_pos hneg] at h;cases h
  · rw [if_neg hneg]
    have hlt':(Lib.indexByte s.data.toList 10).toNat<s.size:=by
      rcases hlt with h | h
      · omega
      · rw [h] at hneg
        exact absurd (by decide) hneg
    simp only [ByteArray.size_extract]
    omega
theorem L4{s:ByteArray}{n:Int}{rd:Rd}(hB:Bd s n rd)(hw:(cg s).2.2=true)(ht:(lT rd (cg s).1).2=true) :Bd (cg s).2.1 (n+1) (lT rd (cg s).1).1:=by
  have hc:=si hw
  have h1:=hB.n0
  have h2:=hB.n1
  have h3:=hB.l
  have h4:=hB.r0
  have h5:=hB.r1
  have h6:=hB.w
  have hu:=CO (cg s).1
  unfold lT at ht ⊢
  cases hon:rd.on with
  | true =>
    rw [hon,cond_true] at ht
    simp only [cond_true]
    cases hr:(decide (rd.row<rd.m)&&decide (0<rd.n)) with
    | true =>
      rw [hr,cond_true] at ht
      simp only [cond_true]
      cases ho:dE (cg s).1 with
      | true=>exact ⟨by omega,by omega,by simp only [cond_true];omega,by simp only [cond_true];omega,by simp only [cond_true];omega,by simp only [cond_true,List.length_append];omega⟩
      | false=>rw [ho,cond_false] at ht;cases ht
    | false=>exact ⟨by omega,by omega,by simp only [cond_false,List.length_append,List.length_cons,List.length_nil];omega,by simp only [cond_false];omega,by simp only [cond_false];omega,by simp only [cond_false];omega⟩
  | false =>
    rw [hon,cond_false] at ht
    simp only [cond_false]
    cases h3':decide ((aD (cg s).1).length=3) with
    | true=>exact ⟨by omega,by omega,by simp only [cond_true];omega,by simp only [cond_true];omega,by simp only [cond_true];omega,by simp only [cond_true,List.length_nil];omega⟩
    | false=>rw [h3',cond_false] at ht;cases ht
theorem sj{s:ByteArray}(h:s.size≠0) :(!(s.toList==(ByteArray.mk #[]).toList))=true:=by
  rw [dI,decide_eq_false]
  · rfl
  · intro q
    subst q
    exact h rfl
theorem xB{s:ByteArray}(h:s.size=0) :(!(s.toList==(ByteArray.mk #[]).toList))=false:=by
  have:s=ByteArray.mk #[]:=by
    apply mJ
    have:s.data.toList.length=0:=by simpa using h
    rw [List.eq_nil_of_length_eq_zero this]
  rw [this,dI,decide_eq_true rfl]
  rfl
theorem Bu{s:ByteArray}{n:Int}{b:Bool}{r:RS}{w:List Int}{nw:Nat}(hs:s.size≠0)(hz:s.size≤1000000000)(hw:(cg s).2.2=true){q:Option ac}(hq:bz r.nl r.cl r.k r.m r.nn w r.y r.t r.on r.row r.nc r.ks r.ms r.ns r.wss r.ys r.ts (cg s).1=q){x:Option (Ef⊕(yD⊕ap))} 
    (h:(Bl n (some (.r0 (cg s).1 (cg s).2.1 (cg s).2.2)) w nw q).run=x):(tz s n b r w nw).run=x:=by
  unfold tz G0
  rw [D9 s hz]
  refine lF (sj hs) (bB (lF hw ?_))
  rw [←h,←hq]
  rfl
theorem HY{s:ByteArray}{n:Int}{b:Bool}{r:RS}{nw cw:Nat}{ws:List Int}(hs:s.size≠0)(hz:s.size≤1000000000)(hw:(cg s).2.2=true){q:Option aa}(hq:dk r.nl r.cl r.k r.m r.nn nw cw r.y r.t r.on r.row r.nc r.ks r.ms r.ns r.wss r.ys r.ts ws (cg s).1=q){x:Option (Ef⊕(yD⊕ap))} 
    (h:(HU n (some (.r0 (cg s).1 (cg s).2.1 (cg s).2.2)) q).run=x):(G1 s n b r nw cw ws).run=x:=by
  unfold G1 K1
  rw [D9 s hz]
  refine lF (sj hs) (bB (lF hw ?_))
  rw [←h,←hq]
  rfl
theorem Jh{r:RS}{l:List kC}(h:Ea r l)(a:kC)(cl:Nat)(k m n:Int)(y t:Int)(on:Bool)(row:Int) :Ea ⟨r.nl+1,cl,k,m,n,y,t,on,row,r.nl+1,r.ks++[a.k],r.ms++[a.m],r.ns++[a.n],r.wss++[a.ws],r.ys++[a.y],r.ts++[a.t]⟩ (l++[a]):=by
  obtain ⟨h1,h2,h3,h4,h5,h6,h7,h8⟩:=h
  refine ⟨?_,?_,?_,?_,?_,?_,?_,?_⟩<;>simp [h1,h3,h4,h5,h6,h7,h8]
theorem L5{σ:Ef}{s:ByteArray}{n:Int}{rd:Rd}(hR:NL σ s n rd)(hB:Bd s n rd)(hs:s.size≠0)(hw:(cg s).2.2=true) :
    ((lT rd (cg s).1).2=true∧∃ σ',pB σ=some (.inl σ')∧NL σ' (cg s).2.1 (n+1) (lT rd (cg s).1).1)∨((lT rd (cg s).1).2=false∧pB σ=some (.inr (.inl (.bad n false)))):=by
  have h1:=hB.n0
  have h2:=hB.n1
  have h3:=hB.l
  have h4:=hB.r0
  have h5:=hB.r1
  have h6:=hB.w
  have hc:=si hw
  have hi:kJ .i64 (n+1)=true:=by rw [bV];omega
  have hz:(cg s).1.size≤100000000:=by omega
  cases σ with
  | off s' n' b r w nw =>
    obtain ⟨rfl,rfl,rfl,hon,hon',hnw,hC⟩:=hR
    have hA:=M6 r.nl r.cl r.k r.m r.nn w r.y r.t r.row r.nc r.ks r.ms r.ns r.wss r.ys r.ts (cg s').1 r.on hon (by omega)
    unfold lT
    rw [hon',cond_false]
    by_cases h3:(aD (cg s').1).length=3
    · rw [decide_eq_true h3] at hA ⊢
      rw [cond_true] at hA ⊢
      have h:=Bu (b:=true) hs (by omega) hw hA (Jf n' _ w nw hnw hi _ _ _ _ _ _ _ _ _ _ _ _ _)
      cases hh:G6 (cg s').1 with
      | true =>
        rw [hh] at h
        exact .inl ⟨rfl,_,h,rfl,rfl,rfl,rfl,rfl,rfl,rfl,rfl,rfl,rfl,⟨hC.nl,hC.nc,hC.ks,hC.ms,hC.ns,hC.wss,hC.ys,hC.ts⟩⟩
      | false =>
        rw [hh] at h
        exact .inr ⟨rfl,h⟩
    · rw [decide_eq_false h3] at hA ⊢
      rw [cond_false] at hA ⊢
      exact .inr ⟨rfl,Bu (b:=true) hs (by omega) hw hA (Je n' _ w nw hnw hi _ _ _ _ _ _ _ _ _ _ _ _ _ _ _ _ _ _ _)⟩
  | on s' n' b r nw cw ws =>
    obtain ⟨rfl,rfl,rfl,hon,hon',hm,hn,hrow,rfl,rfl,hC⟩:=hR
    unfold lT
    rw [hon',cond_true]
    cases hr:(decide (rd.row<rd.m)&&decide (0<rd.n)) with
    | true =>
      rw [cond_true]
      have hr':(decide (r.row<r.m)&&decide (0<r.nn))=true:=by rw [hm,hn,hrow];exact hr
      have hBt:=M8 r.nl r.cl r.k r.m r.nn rd.ws.length cw r.y r.t r.row r.nc r.ks r.ms r.ns r.wss r.ys r.ts rd.ws (cg s').1 r.on hon hz hr' rfl (by omega) (by omega)
      have hp:pB (.on s' n' true r rd.ws.length cw rd.ws)=(G1 s' n' true r rd.ws.length cw rd.ws).run:=by
        show (bif decide (r.row<r.m)&&decide (0<r.nn) then _ else _)=_
        rw [hr',cond_true]
      cases ho:dE (cg s').1 with
      | true =>
        rw [ho,cond_true] at hBt
        rw [cond_true]
        have h:=HY (b:=true) hs (by omega) hw hBt (K6 n' _ hi _ _ _ _ _ _ _ _ _ _ _ _ _ _ _ _ _ _ _)
        rw [←hp] at h
        cases hh:((((cd (cg s').1).length:Nat):Int)==r.nn) with
        | true =>
          rw [hh] at h
          exact .inl ⟨by rw [←hn];exact hh,_,h,rfl,rfl,rfl,rfl,rfl,hm,hn,by rw [hrow],rfl,by rw [List.length_append],⟨hC.nl,hC.nc,hC.ks,hC.ms,hC.ns,hC.wss,hC.ys,hC.ts⟩⟩
        | false =>
          rw [hh] at h
          exact .inr ⟨by rw [←hn];exact hh,h⟩
      | false =>
        rw [ho,cond_false] at hBt
        have h:=HY (b:=true) hs (by omega) hw hBt (K5 n' _ hi _ _ _ _ _ _ _ _ _ _ _ _ _ _ _ _ _ _ _)
        rw [←hp] at h
        exact .inr ⟨rfl,h⟩
    | false =>
      rw [cond_false]
      have hr':(decide (r.row<r.m)&&decide (0<r.nn))=false:=by rw [hm,hn,hrow];exact hr
      have e:∀ {α:Type} (xs:List α) (f:kC→α),xs=rd.l.map f→xs.length=r.nl:=fun xs f h=>by rw [h,List.length_map,hC.nl]
      have hCt:=M7 r.nl r.cl r.k r.m r.nn rd.ws r.y r.t r.row r.ks r.ms r.ns r.wss r.ys r.ts (cg s').1 r.on hon (by omega) hr' (by rw [hC.nl];omega) (by omega) (e _ _ hC.ks) (e _ _ hC.ms) (e _ _ hC.ns) (e _ _ hC.wss) (e _ _ hC.ys) (e _ _ hC.ts) rd.l
      have hnc:r.nl=r.nc:=by rw [hC.nl,hC.nc]
      rw [show bz r.nl r.cl r.k r.m r.nn rd.ws r.y r.t r.on r.row r.nl r.ks r.ms r.ns r.wss r.ys r.ts (cg s').1=bz r.nl r.cl r.k r.m r.nn rd.ws r.y r.t r.on r.row r.nc r.ks r.ms r.ns r.wss r.ys r.ts (cg s').1 by rw [←hnc]] at hCt
      have hp:pB (.on s' n' true r rd.ws.length cw rd.ws)=(tz s' n' true r rd.ws rd.ws.length).run:=by
        show (bif decide (r.row<r.m)&&decide (0<r.nn) then _ else _)=_
        rw [hr',cond_false]
      have h:=Bu (b:=true) hs (by omega) hw hCt (Jg n' _ rd.ws rd.ws.length rfl hi _ _ _ _ _ _ _ _ _ _ _ _ _ _ _ _ _)
      rw [←hp] at h
      have hg:mC ⟨rd.l,r.m,r.nn,rd.ws,true,r.row⟩ (cg s').1=mC rd (cg s').1:=by
        unfold mC K4
        rw [hm,hn]
      rw [hg] at h
      cases hh:mC rd (cg s').1 with
      | true =>
        rw [hh] at h
        refine .inl ⟨rfl,_,h,rfl,rfl,rfl,rfl,rfl,rfl,?_⟩
        rw [hm,hn]
        exact Jh hC (K4 rd (cg s').1) _ _ _ _ _ _ _ _
      | false =>
        rw [hh] at h
        exact .inr ⟨rfl,h⟩
theorem L6{σ:Ef}{s:ByteArray}{n:Int}{rd:Rd}(hR:NL σ s n rd)(hB:Bd s n rd)(hs:s.size≠0)(hw:(cg s).2.2=false) :pB σ=some (.inr (.inl (.bad n false))):=by
  have h2:=hB.n1
  have h1:=hB.n0
  have key:∀ (b:Bool) (r:RS) (w:List Int) (nw:Nat),(tz s n b r w nw).run=some (.inr (.inl (.bad n false))):=by
    intro b r w nw
    unfold tz G0
    rw [D9 s (by omega)]
    exact lF (sj hs) (bB (lG hw rfl))
  cases σ with
  | off s' n' b r w nw =>
    obtain ⟨rfl,rfl,_⟩:=hR
    exact key _ _ _ _
  | on s' n' b r nw cw ws =>
    obtain ⟨rfl,rfl,_⟩:=hR
    show (bif decide (r.row<r.m)&&decide (0<r.nn) then _ else _)=_
    cases (decide (r.row<r.m)&&decide (0<r.nn)) with
    | true =>
      rw [cond_true]
      unfold G1 K1
      rw [D9 s' (by omega)]
      exact lF (sj hs) (bB (lG hw rfl))
    | false=>exact key _ _ _ _
theorem M9{σ:Ef}{s:ByteArray}{n:Int}{rd:Rd}(hR:NL σ s n rd)(hs:s.size=0) :∃ e r,pB σ=some (.inr (.inl e))∧NX e=(Bm n true r).run∧r.on=rd.on∧Ea r rd.l:=by
  cases σ with
  | off s' n' b r w nw =>
    obtain ⟨rfl,rfl,rfl,hon,hon',hnw,hC⟩:=hR
    exact ⟨.doff n' true r w nw,r,lG (xB hs) rfl,rfl,by rw [hon,hon'],hC⟩
  | on s' n' b r nw cw ws =>
    obtain ⟨rfl,rfl,rfl,hon,hon',hm,hn,hrow,rfl,rfl,hC⟩:=hR
    cases hr:(decide (r.row<r.m)&&decide (0<r.nn)) with
    | true =>
      refine ⟨.don n' true r,r,?_,rfl,by rw [hon,hon'],hC⟩
      show (bif decide (r.row<r.m)&&decide (0<r.nn) then _ else _)=_
      rw [hr,cond_true]
      exact lG (xB hs) rfl
    | false =>
      refine ⟨.doff n' true r rd.ws rd.ws.length,r,?_,rfl,by rw [hon,hon'],hC⟩
      show (bif decide (r.row<r.m)&&decide (0<r.nn) then _ else _)=_
      rw [hr,cond_false]
      exact lG (xB hs) rfl
def jk:Nat→ByteArray→List ByteArray×ByteArray
  | 0,s=>([],s)
  | f+1,s=>bif (cg s).2.2 then ((cg s).1::(jk f (cg s).2.1).1,(jk f (cg s).2.1).2) else ([],s)
def Eb(s:ByteArray) :List ByteArray×ByteArray:=jk (s.size+1) s
def gN:Rd→Int→List ByteArray→Rd×Int×Bool
  | r,n,[]=>(r,n,true)
  | r,n,s::l=>bif (lT r s).2 then gN (lT r s).1 (n+1) l else (r,n,false)
inductive Ji where
  | fail (n e:Int)
  | ok (l:List kC)
def Oa:Rd:=⟨[],0,0,[],false,0⟩
def Jj(p:Rd×Int×Bool)(rest:ByteArray) :Ji :=
  bif p.2.2 then bif Nat.beq rest.size 0 then bif p.1.on then .fail p.2.1 4 else bif Nat.blt 64 p.1.l.length then .fail 0 3 else .ok p.1.l else .fail p.2.1 4 else .fail p.2.1 4
def oA(s:ByteArray) :Ji:=bif decide (8388608<s.size) then .fail 0 3 else Jj (gN Oa 0 (Eb s).1) (Eb s).2
def NM:ap→Ji→Prop
  | .fail n e,.fail n' e'=>n=n'∧e=e'
  | .ok r,.ok l=>Ea r l
  | _,_=>False
theorem Bv:∀ (f:Nat) (s:ByteArray) (σ:Ef) (n:Int) (rd:Rd),s.size<f→NL σ s n rd→Bd s n rd→∃ e x,ei pB σ=some (.inl e)∧NX e=some (.inr x)∧NM x (Jj (gN rd n (jk f s).1) (jk f s).2)
  | 0,s,σ,n,rd,hf,hR,hB=>by omega
  | f + 1, s, σ, n, rd, hf, hR, hB => by
    by_cases hs:s.size=0
    · obtain ⟨e,r,h1,h2,h3,hC⟩:=M9 hR hs
      have hcut:(cg s).2.2=false:=by
        have:s.data.toList=[]:=List.eq_nil_of_length_eq_zero (by simpa using hs)
        unfold cg
        rw [this,if_pos (by decide)]
      have he:jk (f+1) s=([],s):=by rw [jk,hcut];rfl
      rw [he]
      have hs0:Nat.beq s.size 0=true:=by rw [hs];rfl
      simp only [gN,Jj,hs0,cond_true]
      cases hon:rd.on with
      | true =>
        refine ⟨e,.fail n 4,kP h1,?_,?_⟩
        · rw [h2];exact dK (lF (by rw [h3,hon]) rfl)
        · simp only [cond_true];exact ⟨rfl,rfl⟩
      | false =>
        simp only [cond_false]
        by_cases h64:64<rd.l.length
        · refine ⟨e,.fail 0 3,kP h1,?_,?_⟩
          · rw [h2];exact dK (lG (by rw [h3,hon]) (lF (decide_eq_true (by rw [hC.nl];omega)) rfl))
          · rw [show Nat.blt 64 rd.l.length=true from HJ.2 h64];exact ⟨rfl,rfl⟩
        · refine ⟨e,.ok r,kP h1,?_,?_⟩
          · rw [h2];exact dK (lG (by rw [h3,hon]) (lG (decide_eq_false (by rw [hC.nl];omega)) rfl))
          · rw [show Nat.blt 64 rd.l.length=false by rw [←Bool.not_eq_true,HJ];exact h64];exact hC
    · cases hw:(cg s).2.2 with
      | false =>
        have h1:=L6 hR hB hs hw
        have he:jk (f+1) s=([],s):=by rw [jk,hw];rfl
        rw [he]
        refine ⟨_,.fail n 4,kP h1,bo rfl,?_⟩
        have hs0:Nat.beq s.size 0=false:=by rw [←Bool.not_eq_true,Nat.beq_eq];exact hs
        simp only [gN,Jj,hs0,cond_true,cond_false]
        exact ⟨rfl,rfl⟩
      | true =>
        have he:jk (f+1) s=((cg s).1::(jk f (cg s).2.1).1,(jk f (cg s).2.1).2):=by rw [jk,hw];rfl
        have hc:=si hw
        rw [he]
        rcases L5 hR hB hs hw with ⟨ht,σ',h1,hR'⟩ | ⟨ht,h1⟩
        · obtain ⟨e,x,q1,q2,q3⟩:=Bv f (cg s).2.1 σ' (n+1) _ (by omega) hR' (L4 hB hw ht)
          refine ⟨e,x,by rw [As h1];exact q1,q2,?_⟩
          simp only [gN,ht,cond_true]
          exact q3
        · refine ⟨_,.fail n 4,kP h1,bo rfl,?_⟩
          simp only [gN,ht,cond_false,Jj]
          exact ⟨rfl,rfl⟩
theorem yF(s:ByteArray) :∃ x,ah s=some x∧NM x (oA s):=by
  unfold ah oA
  by_cases h:8388608<s.size
  · rw [decide_eq_true h]
    exact ⟨.fail 0 3,cN (ay rfl (dY (lF (decide_eq_true (by omega)) rfl))),rfl,rfl⟩
  · rw [decide_eq_false h,cond_false]
    obtain ⟨e,x,q1,q2,q3⟩:=Bv (s.size+1) s (.off s 0 true Ng [] 0) 0 Oa (by omega) ⟨rfl,rfl,rfl,rfl,rfl,rfl,⟨rfl,rfl,rfl,rfl,rfl,rfl,rfl,rfl⟩⟩ ⟨by decide,by omega,by decide,by decide,by decide,by show 0+s.size≤_;omega⟩
    exact ⟨x,cN (ay rfl (ay (lG (decide_eq_false (by omega)) rfl) (ay q1 q2))),q3⟩
theorem yf:∀ (a b:List UInt8),(∀ c∈a,c≠10)→Lib.indexByte (a++10::b) 10=(a.length:Int)
  | [],b,_=>by simp [Lib.indexByte]
  | c::a,b,h=>by
    have ih:=yf a b fun x hx=>h x (List.mem_cons_of_mem _ hx)
    have hc:(c==10)=false:=beq_eq_false_iff_ne.2 (h c (List.mem_cons_self ..))
    rw [List.cons_append,Lib.indexByte,hc,ih]
    have:((a.length:Int) == -1)=false:=by rw [beq_eq_false_iff_ne];omega
    rw [this]
    simp
theorem wo:∀ (a:List UInt8),(∀ c∈a,c≠10)→Lib.indexByte a 10<0
  | [],_=>by decide
  | c::a,h=>by
    have ih:=wo a fun x hx=>h x (List.mem_cons_of_mem _ hx)
    have hge:=Lib.indexByte_ge a 10
    have hc:(c==10)=false:=beq_eq_false_iff_ne.2 (h c (List.mem_cons_self ..))
    rw [Lib.indexByte,hc]
    have e:Lib.indexByte a 10 = -1:=by omega
    rw [e]
    decide
def yG(s:ByteArray) :Prop:=∀ c∈s.data.toList,c≠10
theorem K7{s x t:ByteArray}(h:s.data.toList=x.data.toList++10::t.data.toList)(hx:yG x) :cg s=(x,t,true):=by
  have hi:=yf x.data.toList t.data.toList hx
  rw [←h] at hi
  have hxs:x.data.toList.length=x.size:=by simp
  have hts:t.data.toList.length=t.size:=by simp
  have hss:s.data.toList.length=s.size:=by simp
  have hl:=congrArg List.length h
  rw [List.length_append,List.length_cons,hxs,hts,hss] at hl
  unfold cg
  rw [hi,if_neg (by omega)]
  have e1:s.extract 0 ((x.data.toList.length:Int)).toNat=x:=by
    apply mJ
    rw [di,h]
    simp
  have e2:s.extract (((x.data.toList.length:Int)).toNat+1) s.size=t:=by
    apply mJ
    rw [di,h,Int.toNat_natCast]
    have:(x.data.toList++10::t.data.toList).drop (x.data.toList.length+1)=t.data.toList:=by
      rw [List.drop_append]
      simp
    rw [this,List.take_of_length_le (by omega)]
  rw [e1,e2]
theorem Jk{s:ByteArray}(h:yG s) :(cg s).2.2=false:=by
  unfold cg
  rw [if_pos (wo _ h)]
theorem wq:∀ (L:List ByteArray) (f:Nat) (s rest:ByteArray),s.size<f→s.data.toList=lK L++rest.data.toList→(∀ x∈L,yG x)→yG rest→jk f s=(L,rest)
  | [],0,s,rest,hf,h,hL,hr=>by omega
  | [],f+1,s,rest,hf,h,hL,hr=>by
    have e:s=rest:=mJ (by simpa [lK] using h)
    subst e
    rw [jk,Jk hr]
    rfl
  | x::L,0,s,rest,hf,h,hL,hr=>by omega
  | x::L,f+1,s,rest,hf,h,hL,hr=>by
    have h':s.data.toList=x.data.toList++10::(⟨(lK L++rest.data.toList).toArray⟩:ByteArray).data.toList:=by
      rw [h]
      simp [lK,My]
    have hc:=K7 h' (hL x (List.mem_cons_self ..))
    have hz:=si (s:=s) (by rw [hc])
    rw [hc] at hz
    have ih:=wq L f ⟨(lK L++rest.data.toList).toArray⟩ rest (by simp only [] at hz;omega) (by simp) (fun y hy=>hL y (List.mem_cons_of_mem _ hy)) hr
    rw [jk,hc]
    simp only [cond_true,ih]
theorem B8(L:List ByteArray)(s:ByteArray)(h:s.data.toList=lK L)(hL:∀ x∈L,yG x) :Eb s=(L,ByteArray.empty) :=
  wq L (s.size+1) s ByteArray.empty (by omega) (by rw [h];simp) hL (fun c hc=>by simp at hc)
def tD:List (List UInt8)→List UInt8
  | []=>[]
  | [x]=>x
  | x::y::r=>x++32::tD (y::r)
theorem Ec:∀ l:List ByteArray,oP l=tD (l.map fun x=>x.data.toList)
  | []=>rfl
  | [x]=>rfl
  | x::y::r=>by
    have:=Ec (y::r)
    simp only [List.map_cons] at this ⊢
    rw [oP,tD,this]
theorem rK:∀ l:List (List UInt8),l≠[]→(∀ x∈l,∀ c∈x,c≠32)→aH (tD l)=l
  | [],h,_=>absurd rfl h
  | [x],_,h=>fI x (h x (List.mem_cons_self ..))
  | x::y::r,_,h=>by
    have ih:=rK (y::r) (by simp) fun z hz=>h z (List.mem_cons_of_mem _ hz)
    rw [tD,kX _ _ (h x (List.mem_cons_self ..)),ih]
theorem K8(w:Int)(h:0≤w∧w<18446744073709551616) :((kW (bd w).data.toList:Nat):Int)=w:=by
  rw [FC h.1 h.2];omega
theorem yg:∀ ws:List Int,(∀ w∈ws,0≤w∧w<18446744073709551616)→gX ((ws.map bd).map fun s=>s.data.toList)=some ws
  | [],_=>rfl
  | w::ws,h=>by
    have ih:=yg ws fun x hx=>h x (List.mem_cons_of_mem _ hx)
    have hw:=h w (List.mem_cons_self ..)
    simp only [List.map_cons,gX,HQ,cond_true,K8 w hw] at ih ⊢
    rw [ih]
    rfl
theorem Jl(ws:List Int)(hne:ws≠[])(h:∀ w∈ws,0≤w∧w<18446744073709551616) :mX (ru ws)=some ws:=by
  rw [vQ,ru,oQ,Ec]
  simp only []
  rw [rK _ (by simpa using hne)]
  · exact yg ws h
  · intro x hx
    rw [List.map_map,List.mem_map] at hx
    obtain ⟨w,_,rfl⟩:=hx
    exact A4 w
theorem oX{v:Int}(h:0≤v∧v≤512) :cS (bR v)=v∧(∀ c∈(bR v).data.toList,c≠32)∧∀ c∈(bR v).data.toList,c≠10:=by
  have hall:∀ i:Fin 513,cS (bR ((i.val:Nat):Int))=((i.val:Nat):Int)∧(∀ c∈(bR ((i.val:Nat):Int)).data.toList,c≠32)∧∀ c∈(bR ((i.val:Nat):Int)).data.toList,c≠10:=by decide +kernel
  obtain ⟨n,rfl⟩:=Int.eq_ofNat_of_zero_le h.1
  exact hall ⟨n,by omega⟩
def Na:ByteArray:=ByteArray.mk #[109,97,116,114,105,120]
theorem Bw(m n:Int) :(eW m n).data.toList=tD [Na.data.toList,(bR m).data.toList,(bR n).data.toList]:=by
  simp [eW,wW,Na,tD]
theorem uL{m n:Int}(hm:0≤m∧m≤512)(hn:0≤n∧n≤512) :aD (eW m n)=[Na,bR m,bR n]:=by
  symm
  apply rE
  rw [Bw,rK]
  · rfl
  · simp
  · intro x hx
    simp only [List.mem_cons,List.not_mem_nil,or_false] at hx
    rcases hx with rfl | rfl | rfl
    · decide
    · exact (oX hm).2.1
    · exact (oX hn).2.1
theorem K9{n:Int}(h:0≤n∧n≤512) :Jv n=true:=by
  unfold Jv
  rw [decide_eq_true (show n≥0 from h.1),decide_eq_true h.2]
  rfl
theorem Jm{m n:Int}(hm:0≤m∧m≤512)(hn:0≤n∧n≤512) :(aD (eW m n)).length=3∧HW (eW m n)=m∧HX (eW m n)=n∧G6 (eW m n)=true:=by
  have h1:HW (eW m n)=m:=by
    unfold HW
    rw [uL hm hn]
    exact (oX hm).1
  have h2:HX (eW m n)=n:=by
    unfold HX
    rw [uL hm hn]
    exact (oX hn).1
  refine ⟨by rw [uL hm hn];rfl,h1,h2,?_⟩
  unfold G6
  rw [h1,h2,K9 hm,K9 hn,decide_eq_true rfl]
  rfl
theorem L7{m n:Int}(hm:0≤m∧m≤512)(hn:0≤n∧n≤512) :yG (eW m n):=by
  intro c hc
  rw [Bw] at hc
  simp only [tD,List.mem_append,List.mem_cons] at hc
  rcases hc with h | rfl | h | rfl | h
  · revert c;decide
  · decide
  · exact (oX hm).2.2 c h
  · decide
  · exact (oX hn).2.2 c h
theorem HZ(t:Int) :∀ c∈(bd t).data.toList,c≠10:=by
  intro c hc q
  subst q
  have:=sh t _ hc
  revert this
  decide
theorem CQ:∀ (l:List (List UInt8)) (c:UInt8),c∈tD l→c=32∨∃ x∈l,c∈x
  | [],c,h=>by cases h
  | [x],c,h=>.inr ⟨x,List.mem_cons_self ..,h⟩
  | x::y::r,c,h=>by
    rw [tD,List.mem_append,List.mem_cons] at h
    rcases h with h | h | h
    · exact .inr ⟨x,List.mem_cons_self ..,h⟩
    · exact .inl h
    · rcases CQ (y::r) c h with h | ⟨z,hz,h⟩
      · exact .inl h
      · exact .inr ⟨z,List.mem_cons_of_mem _ hz,h⟩
theorem Nb(ws:List Int) :yG (ru ws):=by
  intro c hc
  rw [ru,oQ,Ec] at hc
  rcases CQ _ c (by simpa using hc) with rfl | ⟨x,hx,h⟩
  · decide
  · rw [List.mem_map] at hx
    obtain ⟨w,_,rfl⟩:=hx
    exact HZ w c h
theorem L8{k y t:Int}(h:fg k y t=true) :yG (fG k y t):=by
  have two:∀ (w:ByteArray) (y:Int),(∀ c∈w.data.toList,c≠10)→(y=1∨y=2∨y=3)→yG (w++(wW++bR y)):=by
    intro w y hw hy c hc
    have hh:∀ c∈(bR y).data.toList,c≠10:=by rcases hy with rfl | rfl | rfl<;>decide +kernel
    simp only [wW,ByteArray.data_append,Array.toList_append,List.mem_append,List.mem_cons,List.not_mem_nil,or_false] at hc
    rcases hc with h | rfl | h
    · exact hw c h
    · decide
    · exact hh c h
  have three:∀ (w:ByteArray) (y t:Int),(∀ c∈w.data.toList,c≠10)→(y=1∨y=2∨y=3)→yG ((w++(wW++bR y))++(wW++bd t)):=by
    intro w y t hw hy c hc
    rw [ByteArray.data_append,Array.toList_append,List.mem_append] at hc
    rcases hc with h | h
    · exact two w y hw hy c h
    · simp only [wW,ByteArray.data_append,Array.toList_append,List.mem_append,List.mem_cons,List.not_mem_nil,or_false] at h
      rcases h with rfl | h
      · decide
      · exact HZ t c h
  rcases nR h with ⟨rfl,hh,rfl⟩ | ⟨rfl,rfl,rfl⟩ | ⟨rfl,hh,rfl⟩ | ⟨rfl,hh⟩ | ⟨rfl,hh⟩ | ⟨rfl,hh,rfl⟩
  · exact two (ByteArray.mk #[101,105,103,101,110]) y (by decide) hh
  · intro c hc
    have hl:fG 2 0 0=ByteArray.mk #[118,97,108,117,101,115]:=rfl
    rw [hl] at hc
    revert c
    decide
  · exact two (ByteArray.mk #[115,118,100]) y (by decide) (by omega)
  · exact three (ByteArray.mk #[114,97,110,107]) y t (by decide) (by omega)
  · exact three (ByteArray.mk #[105,110,118,101,114,115,101]) y t (by decide) (by omega)
  · exact two (ByteArray.mk #[99,111,110,100]) y (by decide) (by omega)
theorem sk:∀ (A B:List ByteArray) (r:Rd) (n:Int) (r':Rd) (n':Int),gN r n A=(r',n',true)→gN r n (A++B)=gN r' n' B
  | [],B,r,n,r',n',h=>by cases h;rfl
  | s::A,B,r,n,r',n',h=>by
    rw [gN] at h
    rw [List.cons_append,gN]
    cases ht:(lT r s).2 with
    | true =>
      rw [ht,cond_true] at h
      rw [cond_true]
      exact sk A B _ _ _ _ h
    | false=>rw [ht,cond_false] at h;cases h
def tE(ws:List Int)(n:Nat)(i:Nat) :ByteArray:=ru ((ws.drop (i*n)).take n)
def NN(ws:List Int) :Prop:=∀ w∈ws,0≤w∧w<18446744073709551616
theorem CR(l:List kC)(m:Int)(n:Nat)(ws:List Int)(hn:0<n)(hu:NN ws)(N:Int) :∀ (j:Nat),(j:Int)≤m→j*n≤ws.length →
    gN ⟨l,m,n,[],true,0⟩ N ((List.range j).map (tE ws n))=(⟨l,m,n,ws.take (j*n),true,j⟩,N+j,true)
  | 0,_,_=>by simp [gN]
  | j+1,hj,hl=>by
    have e:(j+1)*n=j*n+n:=by rw [Nat.add_mul,Nat.one_mul]
    have ih:=CR l m n ws hn hu N j (by omega) (by omega)
    rw [List.range_succ,List.map_append,List.map_cons,List.map_nil,sk _ _ _ _ _ _ ih,gN]
    have hch:((ws.drop (j*n)).take n).length=n:=by rw [List.length_take,List.length_drop];omega
    have hne:(ws.drop (j*n)).take n≠[]:=by
      intro q
      rw [q] at hch
      simp at hch
      omega
    have hr:=Jl ((ws.drop (j*n)).take n) hne fun w hw=>hu w (List.mem_of_mem_drop (List.mem_of_mem_take hw))
    have ho:dE (tE ws n j)=true:=by rw [dE,tE,hr];rfl
    have hf:cd (tE ws n j)=(ws.drop (j*n)).take n:=by rw [cd,tE,hr];rfl
    have hc:(decide (((j:Nat):Int)<m)&&decide (0<((n:Nat):Int)))=true:=by
      rw [decide_eq_true (by omega),decide_eq_true (by omega)];rfl
    have ht:lT ⟨l,m,n,ws.take (j*n),true,j⟩ (tE ws n j)=(⟨l,m,n,ws.take (j*n)++(ws.drop (j*n)).take n,true,(j:Int)+1⟩,true):=by
      unfold lT
      simp only [cond_true,hc,ho,hf,hch]
      rw [beq_self_eq_true]
    rw [ht]
    simp only [cond_true,gN]
    have e2:ws.take (j*n)++(ws.drop (j*n)).take n=ws.take ((j+1)*n):=by rw [e,List.take_add]
    rw [e2,Int.natCast_add]
    congr 2
    · omega
def kC.u64(a:kC) :Prop:=NN a.ws∧0≤a.t∧a.t<18446744073709551616
theorem FH{k y t:Int}(h:fg k y t=true) :∃ j:Nat,k=(j:Int):=by
  rcases nR h with ⟨rfl,_⟩ | ⟨rfl,_⟩ | ⟨rfl,_⟩ | ⟨rfl,_⟩ | ⟨rfl,_⟩ | ⟨rfl,_⟩
  · exact ⟨1,rfl⟩
  · exact ⟨2,rfl⟩
  · exact ⟨3,rfl⟩
  · exact ⟨4,rfl⟩
  · exact ⟨5,rfl⟩
  · exact ⟨6,rfl⟩
theorem La{k y t:Int}(h:fg k y t=true)(h1:0≤t)(h2:t<18446744073709551616) :∃ j:Nat,k=(j:Int)∧FE (fG k y t)=some (j,y,t):=by
  obtain ⟨j,rfl⟩:=FH h
  obtain ⟨q1,q2,q3,_,_⟩:=N9 h h1 h2
  refine ⟨j,rfl,?_⟩
  unfold FE
  simp only []
  rw [q1,q2,q3]
  unfold NV
  rw [h,decide_eq_true rfl]
  rfl
theorem CS{k m n:Int}{len:Nat}{y t:Int}(h:rt k m n len y t=true) :(0≤m∧m≤512)∧(0≤n∧n≤512)∧(len:Int)=m*n∧fg k y t=true:=by
  obtain ⟨h1,h2,h3,h4,h5,_,_⟩:=lI h
  refine ⟨⟨h1,h2⟩,⟨h3,h4⟩,h5,?_⟩
  unfold rt at h
  simp only [Bool.cond_eq_ite,Bool.if_false_right,Bool.and_eq_true,decide_eq_true_eq,beq_iff_eq,ge_iff_le] at h
  exact h.2.2.2.2.2.1
theorem Lb(a:kC)(hm:a.may=true)(hu:a.u64)(r:Rd)(hr:r.on=false)(N:Int) :∃ r',gN r N a.lines=(r',N+a.lines.length,true)∧r'.on=false∧r'.l=r.l++[a]:=by
  obtain ⟨k,m,n,ws,y,t⟩:=a
  obtain ⟨hmr,hnr,hlen,hask⟩:=CS hm
  simp only [] at hmr hnr hlen hask
  obtain ⟨hws,ht1,ht2⟩:=hu
  simp only [] at hws ht1 ht2
  obtain ⟨m',rfl⟩:=Int.eq_ofNat_of_zero_le hmr.1
  obtain ⟨n',rfl⟩:=Int.eq_ofNat_of_zero_le hnr.1
  obtain ⟨g1,g2,g3,g4⟩:=Jm hmr hnr
  have hmay:rt k m' n' ws.length y t=true:=hm
  have hl:kC.lines ⟨k,m',n',ws,y,t⟩=eW m' n'::((bif decide ((n':Int)>0) then (List.range m').map (tE ws n') else [])++[fG k y t]):=by
    show cO k m' n' ws y t=_
    unfold cO
    rw [hmay]
    rfl
  have hlen':ws.length=m'*n':=by
    have:((ws.length:Nat):Int)=((m'*n':Nat):Int):=by rw [Int.natCast_mul];exact hlen
    omega
  have h1:lT r (eW m' n')=(⟨r.l,m',n',[],true,0⟩,true):=by
    unfold lT
    rw [hr,decide_eq_true g1,g2,g3,g4]
    rfl
  rw [hl,gN,h1]
  simp only [cond_true]

  have h2:∃ row:Int,gN ⟨r.l,m',n',[],true,0⟩ (N+1) (bif decide ((n':Int)>0) then (List.range m').map (tE ws n') else [])=(⟨r.l,m',n',ws,true,row⟩,N+1+(bif decide ((n':Int)>0) then (List.range m').map (tE ws n') else []).length,true)∧(decide (row<(m':Int))&&decide (0<(n':Int)))=false:=by
    by_cases h0:0<n'
    · have:=CR r.l m' n' ws h0 hws (N+1) m' (Int.le_refl _) (by omega)
      rw [decide_eq_true (show (n':Int)>0 by omega)]
      refine ⟨m',?_,?_⟩
      · simp only [cond_true]
        rw [this,List.take_of_length_le (by omega),List.length_map,List.length_range]
      · rw [decide_eq_false (by omega),Bool.false_and]
    · have h00:n'=0:=by omega
      subst h00
      have hw0:ws=[]:=List.eq_nil_of_length_eq_zero (by simpa using hlen')
      subst hw0
      refine ⟨0,?_,?_⟩
      · simp [gN]
      · rw [show decide (0<((0:Nat):Int))=false from rfl,Bool.and_false]
  obtain ⟨row,h2,h3⟩:=h2
  rw [sk _ _ _ _ _ _ h2,gN]
  obtain ⟨j,rfl,hj⟩:=La hask ht1 ht2
  have h4:lT ⟨r.l,m',n',ws,true,row⟩ (fG (j:Int) y t)=(⟨r.l++[⟨j,m',n',ws,y,t⟩],m',n',ws,false,row⟩,true):=by
    unfold lT
    simp only [cond_true,h3,cond_false]
    have hE:Bt (fG (j:Int) y t)=0:=by unfold Bt;rw [hj]
    have hV:oz (fG (j:Int) y t)=(j,y,t):=by unfold oz;rw [hj];rfl
    unfold mC K4
    rw [hE,hV,decide_eq_true rfl]
    simp only [cond_true]
    congr 1
  rw [h4]
  refine ⟨⟨r.l++[⟨j,m',n',ws,y,t⟩],m',n',ws,false,row⟩,?_,rfl,rfl⟩
  simp only [cond_true,gN,List.length_cons,List.length_append,List.length_nil]
  congr 2
  omega
theorem CT:∀ (l:List kC) (r:Rd) (N:Int),(∀ a∈l,a.may=true∧a.u64)→r.on=false→∃ r' N',gN r N (l.map kC.lines).flatten=(r',N',true)∧r'.on=false∧r'.l=r.l++l
  | [],r,N,_,hr=>⟨r,N,rfl,hr,by simp⟩
  | a::l,r,N,h,hr=>by
    obtain ⟨r1,h1,h2,h3⟩:=Lb a (h a (List.mem_cons_self ..)).1 (h a (List.mem_cons_self ..)).2 r hr N
    obtain ⟨r2,N2,g1,g2,g3⟩:=CT l r1 _ (fun b hb=>h b (List.mem_cons_of_mem _ hb)) h2
    refine ⟨r2,N2,?_,g2,by rw [g3,h3];simp⟩
    rw [List.map_cons,List.flatten_cons,sk _ _ _ _ _ _ h1,g1]
theorem Lc{a:kC}(h:a.may=true) :∀ x∈a.lines,yG x:=by
  obtain ⟨k,m,n,ws,y,t⟩:=a
  obtain ⟨hmr,hnr,hlen,hask⟩:=CS h
  simp only [] at hmr hnr hlen hask
  have hmay:rt k m n ws.length y t=true:=h
  intro x hx
  have hx:x∈cO k m n ws y t:=hx
  unfold cO at hx
  rw [hmay,cond_true,List.mem_cons,List.mem_append,List.mem_singleton] at hx
  rcases hx with rfl | hx | rfl
  · exact L7 hmr hnr
  · cases hd:decide (n>0) with
    | true =>
      rw [hd,cond_true,List.mem_map] at hx
      obtain ⟨i,_,rfl⟩:=hx
      exact Nb _
    | false=>rw [hd,cond_false] at hx;cases hx
  · exact L8 hask
theorem Jn(L:List (List ByteArray)) :lK L.flatten=(L.map lK).flatten:=by
  induction L with
  | nil=>rfl
  | cons x L ih=>simp only [List.flatten_cons,List.map_cons,←ih,lK,List.map_append,List.flatten_append]
theorem uM(l:List kC)(h:∀ a∈l,a.may=true∧a.u64)(s:ByteArray)(hs:s.data.toList=dL l)(hz:s.size≤8388608) :oA s=bif Nat.blt 64 l.length then .fail 0 3 else .ok l:=by
  have hL:∀ x∈(l.map kC.lines).flatten,yG x:=by
    intro x hx
    rw [List.mem_flatten] at hx
    obtain ⟨L,hL,hx⟩:=hx
    rw [List.mem_map] at hL
    obtain ⟨a,ha,rfl⟩:=hL
    exact Lc (h a ha).1 x hx
  have he:s.data.toList=lK (l.map kC.lines).flatten:=by
    rw [hs,Jn,List.map_map]
    rfl
  have hl:=B8 _ s he hL
  obtain ⟨r,N,h1,h2,h3⟩:=CT l Oa 0 h rfl
  unfold oA
  rw [decide_eq_false (by omega),cond_false,hl]
  simp only [h1,Jj,cond_true,h2,cond_false]
  have h3:r.l=l:=by rw [h3];rfl
  rw [h3]
  rfl
def Rd.lines(r:Rd) :List ByteArray:=(r.l.map kC.lines).flatten++(bif r.on then eW r.m r.n::(bif decide (r.n>0) then (List.range r.row.toNat).map (tE r.ws r.n.toNat) else []) else [])
theorem FI{n:Nat}{ks ms ns:List Int}{wss:List (List Int)}{ys ts:List Int}{i:Nat}(h:i<n) :(pU n ks ms ns wss ys ts)[i]? = some ⟨ks.getD i 0,ms.getD i 0,ns.getD i 0,wss.getD i [],ys.getD i 0,ts.getD i 0⟩:=by
  unfold pU
  rw [List.getElem?_map,List.getElem?_range h]
  rfl
theorem rL(s:ByteArray) :(∃ n e,ah s=some (.fail n e)∧oA s=.fail n e)∨∃ r l,ah s=some (.ok r)∧oA s=.ok l∧Ea r l:=by
  obtain ⟨x,h1,h2⟩:=yF s
  cases hp:oA s with
  | fail n e =>
    rw [hp] at h2
    cases x with
    | fail n' e' =>
      obtain ⟨rfl,rfl⟩:=h2
      exact .inl ⟨_,_,h1,rfl⟩
    | ok r=>exact h2.elim
  | ok l =>
    rw [hp] at h2
    cases x with
    | fail n' e'=>exact h2.elim
    | ok r=>exact .inr ⟨r,l,h1,rfl,h2⟩
def oY(s:ByteArray)(n e:Int) :Bool:=match oA s with
  | .fail n' e'=>n'==n&&e'==e
  | .ok _=>false
theorem Ed{s:ByteArray}{n e:Int}(h:oY s n e=true) :ah s=some (.fail n e):=by
  unfold oY at h
  rcases rL s with ⟨n',e',h1,h2⟩ | ⟨r,l,h1,h2,h3⟩
  · rw [h2] at h
    simp only [Bool.and_eq_true,beq_iff_eq] at h
    rw [h1,h.1,h.2]
  · rw [h2] at h;cases h
theorem Ld{s:ByteArray}{n e:Int}(h:oA s=.fail n e) :oY s n e=true:=by
  unfold oY
  rw [h]
  simp
theorem nu{s:ByteArray}{n:Int}(h:oY s n 4=true) :aP s n=some (.r0 true):=by
  have hF:=Ed h
  unfold aP
  refine cN (ay (a:=(0,[],[],[],[],[],[],n,4)) ?_ (ay (a:=true) (bo (lF (beq_self_eq_true n) rfl)) rfl))
  simp only [rI,hF]
  exact rj (bB rfl)
def Le:ByteArray:=ByteArray.mk #[109,97,116,114,105,120,32,48,32,48,10,118,97,108,117,101,115,10]
def qc:kC:=⟨2,0,0,[],0,0⟩
def HE:Nat→ByteArray
  | 0=>ByteArray.empty
  | j+1=>HE j++Le
theorem H0:qc.may=true:=by decide +kernel
theorem Jo:lK qc.lines=Le.data.toList:=by decide +kernel
theorem xC:∀ j,(HE j).data.toList=dL (List.replicate j qc)
  | 0=>rfl
  | j+1=>by
    have h:List.replicate (j+1) qc=List.replicate j qc++[qc]:=by rw [←List.replicate_succ']
    rw [HE,h,AZ,Jo,ByteArray.data_append,Array.toList_append,xC j]
theorem wt:∀ j,(HE j).size=18*j
  | 0=>rfl
  | j+1=>by
    rw [HE,ByteArray.size_append,wt j,show Le.size=18 from rfl]
    omega
theorem Lf{α:Type}(j:Nat)(x:α) :List.take j (List.replicate j x)++[x]=List.replicate (j+1) x:=by
  rw [List.take_of_length_le (by simp),←List.replicate_succ']
theorem FJ(n N:Nat)(h:n≤N) :pU n (ba 0 n (List.replicate N 2)) (ba 0 n (List.replicate N 0)) (ba 0 n (List.replicate N 0)) (ba 0 n (List.replicate N [])) (ba 0 n (List.replicate N 0)) (ba 0 n (List.replicate N 0))=List.replicate n qc:=by
  have c:∀ {α:Type} (x:α),ba 0 n (List.replicate N x)=List.replicate n x:=fun x=>by
    rw [yW,List.drop_zero,List.take_replicate,Nat.min_eq_left h]
  simp only [c]
  apply List.ext_getElem?
  intro i
  by_cases hi:i<n
  · rw [FI hi,List.getElem?_replicate,if_pos hi]
    simp [List.getD_eq_getElem?_getD,List.getElem?_replicate,hi,qc]
  · rw [List.getElem?_eq_none (by rw [rG];omega),List.getElem?_eq_none (by simp;omega)]
theorem H3(n:Nat) : ¬ (List.replicate n qc).any (fun a=>!a.may)=true:=by
  intro q
  obtain ⟨a,ha,hb⟩:=List.any_eq_true.1 q
  rw [(List.mem_replicate.1 ha).2,H0] at hb
  cases hb
theorem L9(n:Nat) :(dL (List.replicate n qc)).length=18*n:=by
  rw [←xC];exact wt n
theorem Jp(n:Nat)(h:8388608<n) :ah (jN (List.take n (List.replicate n (0:Int))))=some (.fail 0 3):=by
  refine Ed ?_
  have hs:(jN (List.take n (List.replicate n (0:Int)))).size=n:=by rw [AO,List.length_take,List.length_replicate,Nat.min_self]
  unfold oY oA
  rw [hs,decide_eq_true h]
  rfl
theorem Ma(a:kC)(s:ByteArray)(h:a.may=true)(hu:a.u64)(hb:s.data.toList=dL [a])(hz:s.size≤8388608) :∃ r,ah s=some (.ok r)∧Ea r [a]:=by
  have hp:=uM [a] (fun b hb=>by rw [List.mem_singleton.1 hb];exact ⟨h,hu⟩) s hb hz
  rcases rL s with ⟨n,e,h1,h2⟩ | ⟨r,l,h1,h2,h3⟩
  · rw [hp] at h2;cases h2
  · rw [hp] at h2
    cases h2
    exact ⟨r,h1,h3⟩
theorem Lg(a:kC)(k:Nat)(h:a.may=false) :(List.replicate k qc++[a]).any (fun a=>!a.may)=true:=by
  refine List.any_eq_true.2 ⟨a,by simp,?_⟩
  rw [h];rfl
def H4:kC:=⟨0,0,0,[],0,0⟩
theorem Jq(k:Nat) :pU (k+1) (ba 0 (k+1) ((List.take k (List.replicate k 2))++[(0:Int)])) (ba 0 (k+1) ((List.take k (List.replicate k 0))++[(0:Int)])) (ba 0 (k+1) ((List.take k (List.replicate k 0))++[(0:Int)])) (ba 0 (k+1) ((List.take k (List.replicate k []))++[[]])) (ba 0 (k+1) ((List.take k (List.replicate k 0))++[(0:Int)])) (ba 0 (k+1) ((List.take k (List.replicate k 0))++[(0:Int)]))=List.replicate k qc++[H4]:=by
  have c:∀ {α:Type} (x y:α),ba 0 (k+1) ((List.take k (List.replicate k x))++[y])=List.replicate k x++[y]:=fun x y=>by
    rw [List.take_of_length_le (by simp)]
    exact LG (by simp)
  simp only [c]
  apply List.ext_getElem?
  intro i
  by_cases hi:i<k+1
  · rw [FI hi]
    by_cases hk:i<k
    · rw [List.getElem?_append_left (by simpa using hk),List.getElem?_replicate,if_pos hk]
      simp [List.getD_eq_getElem?_getD,List.getElem?_append_left,List.getElem?_replicate,hk,qc]
    · have:i=k:=by omega
      subst this
      simp [List.getD_eq_getElem?_getD,H4]
  · rw [List.getElem?_eq_none (by rw [rG];omega),List.getElem?_eq_none (by simp;omega)]
theorem w1:oY (ByteArray.mk #[109,97,116,114,105,120,32,53,49,51,32,48,10,115,118,100,32,50,10]) 0 4=true:=by decide +kernel
theorem w2:oY (ByteArray.mk #[109,97,116,114,105,120,32,49,32,48,10,118,97,108,117,101,115,10]) 1 4=true:=by decide +kernel
theorem w3:oY (ByteArray.mk #[109,97,116,114,105,120,32,48,48,32,48,10,118,97,108,117,101,115,10]) 0 4=true:=by decide +kernel
theorem w4:oY (ByteArray.mk #[109,97,116,114,105,120,32,48,32,48,10,118,97,108,117,101,115]) 1 4=true:=by decide +kernel
theorem w5:oY (ByteArray.mk #[109,97,116,114,105,120,32,48,32,48,10,114,97,110,107,32,49,10]) 1 4=true:=by decide +kernel
theorem w6:oY (ByteArray.mk #[10]) 0 4=true:=by decide +kernel
theorem w7:oY (ByteArray.mk #[118,97,108,117,101,115,10]) 0 4=true:=by decide +kernel
def Mb:kC:=⟨3,512,0,[],2,0⟩
def Nc:ByteArray:=ByteArray.mk #[109,97,116,114,105,120,32,53,49,50,32,48,10,115,118,100,32,50,10]
theorem Mc:Mb.may=true:=by decide +kernel
theorem Jr:Nc.data.toList=dL [Mb]:=by decide +kernel
theorem za:∃ r,ah ByteArray.empty=some (.ok r)∧Ea r []:=by
  have hp:=uM [] (fun b hb=>by cases hb) ByteArray.empty rfl (by decide)
  rcases rL ByteArray.empty with ⟨n,e,h1,h2⟩ | ⟨r,l,h1,h2,h3⟩
  · rw [hp] at h2;cases h2
  · rw [hp] at h2
    cases h2
    exact ⟨r,h1,h3⟩
theorem Lh:ru []=ByteArray.empty:=by decide +kernel
theorem NO:qc.u64:=And.intro (fun w hw=>by cases hw) ⟨by decide,by decide⟩
theorem NP:Mb.u64:=And.intro (fun w hw=>by cases hw) ⟨by decide,by decide⟩
theorem Js:ah (HE 65)=some (.fail 0 3):=by
  have hp:=uM (List.replicate 65 qc) (fun b hb=>by rw [(List.mem_replicate.1 hb).2];exact ⟨H0,NO⟩) (HE 65) (xC 65) (by rw [wt];omega)
  rw [List.length_replicate] at hp
  have hq:(bif Nat.blt 64 65 then Ji.fail 0 3 else Ji.ok (List.replicate 65 qc))=Ji.fail 0 3:=rfl
  rw [hq] at hp
  exact Ed (Ld hp)
theorem Md:(eG 65 65 (HE 65) 65 (List.replicate 65 2) (List.replicate 65 0) (List.replicate 65 0) (List.replicate 65 []) (List.replicate 65 0) (List.replicate 65 0)).run=some (.inl (0,3,0,[],[],[],[],[],[],0,3)):=by
  have h64:hH (List.replicate 64 qc)=0:=by
    unfold hH
    rw [if_neg (H3 64),if_neg (by rw [List.length_replicate];omega),if_neg (by rw [L9];omega)]
  have h65:hH (List.replicate 65 qc)=3:=by
    unfold hH
    rw [if_neg (H3 65),if_pos (by rw [List.length_replicate];omega)]
  simp only [eG,Js,FJ 64 65 (by omega),FJ 65 65 (by omega),h64,h65]
  exact aC (by rw [mh];omega) (aC (by rw [mh];omega) (aC (by rw [DZ];omega) (aC (Nat.ble_eq_true_of_le (by omega)) (aC (by rw [DZ];omega) (aC (Nat.ble_eq_true_of_le (by omega)) (rj (bB rfl)))))))
theorem Me:(eH 65 65 (List.replicate 65 2) (List.replicate 65 0) (List.replicate 65 0) (List.replicate 65 []) (List.replicate 65 0) (List.replicate 65 0)).run=some (.inl (2,0,[],[],[],[],[],[],0,3)):=by
  have h66:hH (List.replicate 65 qc++[H4])=2:=by
    unfold hH
    rw [if_pos (Lg H4 65 (by decide +kernel))]
  have hz:=Jp 8388609 (by omega)
  have hl:kF 8388609 (List.length (List.replicate 8388609 (0:Int)))=true:=by rw [List.length_replicate];exact KD _
  unfold eH
  generalize hZ:List.replicate 8388609 (0:Int)=Z at hz hl ⊢
  clear hZ
  rw [hz,Jq 65,h66]
  exact aC (by rw [mh];omega) (aC (by rw [mh];omega) (aC (by rw [dD];omega) (aC (by rw [dD];omega) (bB (aC (by rw [dD];omega) (aC (by rw [DZ];omega) (aC (Nat.ble_eq_true_of_le (by omega)) (aC (decide_eq_true (by omega)) (aC (decide_eq_true (by omega)) (aC (decide_eq_true (by omega)) (aC (by rw [bV];omega) (aC hl (rj (bB rfl))))))))))))))
theorem G7:dH=some (.r0 true):=by
  obtain ⟨r,hr,hc⟩:=Ma Mb Nc Mc NP Jr (by decide)
  obtain ⟨q,hq,hd⟩:=za
  have hrl:Nat.beq r.nl r.nc=true:=by rw [hc.nl,hc.nc];rfl
  have hql:Nat.beq q.nl q.nc=true:=by rw [hd.nl,hd.nc];rfl
  have h19:eI.run=some (.inl (1,[3],[512],[0],[[]],[2],[0],0,0)):=by
    unfold eI
    rw [show (ByteArray.mk #[109,97,116,114,105,120,32,53,49,50,32,48,10,115,118,100,32,50,10])=Nc from rfl,hr]
    refine pN (pO rfl) (rj (aC hrl ?_))
    show some (Sum.inl (r.nl,r.ks,r.ms,r.ns,r.wss,r.ys,r.ts,(0:Int),(0:Int)))=_
    rw [hc.nl,hc.ks,hc.ms,hc.ns,hc.wss,hc.ys,hc.ts]
    rfl
  have h20:eJ.run=some (.inl (0,[],[],[],[],[],[],0)):=by
    unfold eJ
    rw [hq]
    refine pN (pO rfl) (rj (aC hql ?_))
    show some (Sum.inl (q.nl,q.ks,q.ms,q.ns,q.wss,q.ys,q.ts,(0:Int)))=_
    rw [hd.nl,hd.ks,hd.ms,hd.ns,hd.wss,hd.ys,hd.ts]
    rfl
  have h21:(eK 0 3 0 0 3 2 0 0 3 1 [512] 0 0 0 0).run=some (.inl true):=by
    unfold eK
    rw [nu w1,nu w2,nu w3,nu w4,nu w5,nu w6,nu w7,tm [] (by simp),Lh]
    exact bo (bo (bo (bo (bo (bo (bo (bo (bo (bo (bB (bB (bo (bo (bo (bo (bo (bB (bo (bB (bo (bB (bo (bB (bo (bB (bo (bB (bo (bB (bo (bB (lF (by rw [dI];exact decide_eq_true rfl) rfl))))))))))))))))))))))))))))))))
  unfold dH
  refine cN (ay rfl (ay (a:=(65,65,HE 65,65,List.replicate 65 2,List.replicate 65 0,List.replicate 65 0,List.replicate 65 [],List.replicate 65 0,List.replicate 65 0)) (vB (fun j=>(j,j,HE j,j,j,List.replicate j 2,List.replicate j 0,List.replicate j 0,List.replicate j [],List.replicate j 0,List.replicate j 0)) 65 rfl (fun j hj=>?_) ?_) (ay Md (ay Me (ay h19 (ay h20 (ay h21 rfl)))))))
  · have hs:=wt j
    simp only [dd,kB,Lf]
    have hp:Le.size=18:=rfl
    exact lF (decide_eq_true (by omega)) (aC (by rw [dD];omega) (aC (by rw [dD];omega) (bB (aC (by rw [dD];omega) (aC (decide_eq_true (by show (HE j).size+Le.size≤_;omega)) (aC (by rw [bV];omega) rfl))))))
  · exact lG (decide_eq_false (by omega)) rfl
end Go.Plb.Seat
