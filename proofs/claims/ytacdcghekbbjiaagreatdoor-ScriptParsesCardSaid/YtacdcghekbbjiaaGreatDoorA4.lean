/-
  Part 4 of what the claim leans on: an evaluator of the model, proved sound; the contracts of the functions.
-/
import Derived.Test.YtacdcghekbbjiaaGreatDoorA3
namespace Go.Plb.Seat
open Go Go.Plb
set_option linter.unusedSimpArgs false
set_option linter.unusedVariables false
set_option maxRecDepth 100000
theorem RK{n:Nat}(h:n<16) :hv (UInt8.ofNat (aD ox n).toNat)=n:=by
  have hall:∀ i:Fin 16,hv (UInt8.ofNat (aD ox i.val).toNat)=i.val:=by decide +kernel
  exact hall ⟨n,h⟩
theorem yq(w:Int) :(bF w).data.toList=(List.range 16).map fun j=>UInt8.ofNat (aD ox (dg w j)).toNat:=by
  rw [bF,vE,kY,List.map_map]
  rfl
theorem P4{w:Int}(h1:0≤w)(h2:w<18446744073709551616) :fq (bF w).data.toList=w.toNat:=by
  have key:∀ j,j≤16→fq ((bF w).data.toList.take j)=w.toNat/16^(16-j):=by
    intro j
    induction j with
    | zero =>
      intro _
      have:(16:Nat)^16=18446744073709551616:=by decide
      rw [List.take_zero,Nat.sub_zero,this,Nat.div_eq_of_lt (by omega)]
      rfl
    | succ j ih =>
      intro hj
      have hg:(bF w).data.toList[j]? = some (UInt8.ofNat (aD ox (dg w j)).toNat):=by
        rw [yq];simp [show j<16 by omega]
      have e:(bF w).data.toList.take (j+1)=(bF w).data.toList.take j++[UInt8.ofNat (aD ox (dg w j)).toNat]:=by rw [List.take_add_one,hg];rfl
      rw [e,vD,ih (by omega)]
      have hs:fq [UInt8.ofNat (aD ox (dg w j)).toNat]=dg w j:=by
        have:=RK (Nb w j)
        simp [fq,this]
      rw [hs]
      have hd:dg w j=w.toNat/16^(16-(j+1))%16:=by
        unfold dg
        have e1:(2:Int)^(60-4*j)=((16^(16-(j+1)):Nat):Int):=by
          have:(60-4*j)=4*(16-(j+1)):=by omega
          rw [this,Int.pow_mul]
          simp
        obtain ⟨n,rfl⟩:=Int.eq_ofNat_of_zero_le h1
        rw [e1,Int.fdiv_eq_ediv_of_nonneg _ (Int.natCast_nonneg _),←Int.natCast_ediv,Int.toNat_natCast]
        omega
      have hp:16^(16-j)=16^(16-(j+1))*16:=by rw [←Nat.pow_succ];congr 1;omega
      rw [hd,hp,←Nat.div_div_eq_div_mul,List.length_singleton,Nat.pow_one]
      omega
  have:=key 16 (Nat.le_refl _)
  have hl:(bF w).data.toList.length=16:=by rw [yq];simp
  rw [List.take_of_length_le (by omega)] at this
  simpa using this
theorem QK(w:Int) :eP (bF w).data.toList=true:=by
  have hl:(bF w).data.toList.length=16:=by rw [yq];simp
  unfold eP
  rw [decide_eq_true hl,List.all_eq_true.2 (BX w)]
  rfl
theorem Ij{w:Int}(h1:0≤w)(h2:w<18446744073709551616) :pg (bF w)=w:=by
  unfold pg
  rw [QK,cond_true,P4 h1 h2]
  omega
theorem F0(x:ByteArray) :0≤pg x∧pg x<18446744073709551616:=by
  unfold pg
  cases h:eP x.data.toList with
  | false=>exact ⟨Int.le_refl 0,by show (0:Int)<_;decide⟩
  | true =>
    unfold eP at h
    rw [Bool.and_eq_true,List.all_eq_true] at h
    have h1:=of_decide_eq_true h.1
    have h2:=Ab _ h.2
    rw [h1] at h2
    have:(16:Nat)^16=18446744073709551616:=by decide
    rw [cond_true]
    omega
theorem F1(s:ByteArray) :gU s=pg s:=by
  unfold pg
  rw [←mB]
  cases h:dy s with
  | true=>exact FX h
  | false=>rw [gU,h];rfl
theorem oG{k y t:Int}(h:df k y t=true) :(k=1∧(y=1∨y=2∨y=3)∧t=0)∨(k=2∧y=0∧t=0)∨(k=3∧(y=1∨y=2)∧t=0)∨(k=4∧(y=1∨y=2))∨(k=5∧(y=1∨y=2))∨(k=6∧(y=1∨y=2)∧t=0):=by
  have g:∀ {a b:Bool},(bif a then b else false)=true→a=true∧b=true:=by intro a b;cases a<;>cases b<;>simp
  have m3:lU 1 ((3:Nat):Int)=1:=by decide
  have m2:lU 1 ((2:Nat):Int)=1:=by decide
  have m0:lU 1 ((0:Nat):Int)=0:=by decide
  unfold df at h
  obtain ⟨h1,h⟩:=g h
  obtain ⟨h2,h⟩:=g h
  obtain ⟨h3,h⟩:=g h
  have h2:=of_decide_eq_true h2
  have h3:=of_decide_eq_true h3
  by_cases k1:k=1
  · subst k1
    have e:oS 1=(true,ByteArray.mk #[101,105,103,101,110],3,false,true):=rfl
    rw [e] at h h2 h3
    simp only [m3,cond_false,beq_iff_eq] at h h2 h3
    exact .inl ⟨rfl,by omega,h⟩
  by_cases k2:k=2
  · subst k2
    have e:oS 2=(true,ByteArray.mk #[118,97,108,117,101,115],0,false,true):=rfl
    rw [e] at h h2 h3
    simp only [m0,cond_false,beq_iff_eq] at h h2 h3
    exact .inr (.inl ⟨rfl,by omega,h⟩)
  by_cases k3:k=3
  · subst k3
    have e:oS 3=(true,ByteArray.mk #[115,118,100],2,false,false):=rfl
    rw [e] at h h2 h3
    simp only [m2,cond_false,beq_iff_eq] at h h2 h3
    exact .inr (.inr (.inl ⟨rfl,by omega,h⟩))
  by_cases k4:k=4
  · subst k4
    have e:oS 4=(true,ByteArray.mk #[114,97,110,107],2,true,false):=rfl
    rw [e] at h h2 h3
    simp only [m2] at h h2 h3
    exact .inr (.inr (.inr (.inl ⟨rfl,by omega⟩)))
  by_cases k5:k=5
  · subst k5
    have e:oS 5=(true,ByteArray.mk #[105,110,118,101,114,115,101],2,true,false):=rfl
    rw [e] at h h2 h3
    simp only [m2] at h h2 h3
    exact .inr (.inr (.inr (.inr (.inl ⟨rfl,by omega⟩))))
  by_cases k6:k=6
  · subst k6
    have e:oS 6=(true,ByteArray.mk #[99,111,110,100],2,false,false):=rfl
    rw [e] at h h2 h3
    simp only [m2,cond_false,beq_iff_eq] at h h2 h3
    exact .inr (.inr (.inr (.inr (.inr ⟨rfl,by omega,h⟩))))
  simp [oS,k1,k2,k3,k4,k5,k6] at h1
theorem F2(k y t:Int) :dd k y t=some (.r0 (df k y t)):=by
  unfold dd
  have m3:lU 1 ((3:Nat):Int)=1:=by decide
  have m2:lU 1 ((2:Nat):Int)=1:=by decide
  have m0:lU 1 ((0:Nat):Int)=0:=by decide
  have b2:∀ (b:Bool),(sx b).run=some (.inr (.r0 b)):=fun _=>rfl
  by_cases k1:k=1
  · subst k1
    refine aH (ah (a:=3) (bc rfl) (ah (a:=df 1 y t) ?_ rfl))
    show _=some (Sum.inl (bif decide (y≥lU 1 ((3:Nat):Int)) then bif decide (y≤((3:Nat):Int)) then t==0 else false else false))
    rw [m3]
    cases h1:decide (y≥1) with
    | false=>exact bm h1 rfl
    | true =>
      refine bK h1 ?_
      cases h2:decide (y≤((3:Nat):Int)) with
      | false=>exact aI rfl
      | true =>
        refine bc ?_
        cases h3:(t==0) with
        | false=>exact aI (aI rfl)
        | true=>exact bc rfl
  by_cases k2:k=2
  · subst k2
    refine aH (aG (aI (bc ?_)))
    show _=some (Sum.inr (bO.r0 (bif decide (y≥lU 1 ((0:Nat):Int)) then bif decide (y≤((0:Nat):Int)) then t==0 else false else false)))
    rw [m0]
    by_cases hy:y=0
    · subst hy
      exact bc rfl
    · refine bm (beq_eq_false_iff_ne.2 hy) ?_
      by_cases h1:y≥0
      · have : ¬ y≤((0:Nat):Int):=by omega
        rw [decide_eq_true h1,decide_eq_false this];rfl
      · rw [decide_eq_false h1];rfl
  by_cases k3:k=3
  · subst k3
    refine aH (ah (a:=2) (aI (aI (bc rfl))) (ah (a:=df 3 y t) ?_ rfl))
    show _=some (Sum.inl (bif decide (y≥lU 1 ((2:Nat):Int)) then bif decide (y≤((2:Nat):Int)) then t==0 else false else false))
    rw [m2]
    cases h1:decide (y≥1) with
    | false=>exact bm h1 rfl
    | true =>
      refine bK h1 ?_
      cases h2:decide (y≤((2:Nat):Int)) with
      | false=>exact aI rfl
      | true =>
        refine bc ?_
        cases h3:(t==0) with
        | false=>exact aI (aI rfl)
        | true=>exact bc rfl
  by_cases k4:k=4
  · subst k4
    refine aH (ah (a:=2) (aI (aI (aI (aI (bc rfl))))) (ah (a:=df 4 y t) ?_ rfl))
    show _=some (Sum.inl (bif decide (y≥lU 1 ((2:Nat):Int)) then bif decide (y≤((2:Nat):Int)) then true else false else false))
    rw [m2]
    cases h1:decide (y≥1) with
    | false=>exact bm h1 rfl
    | true =>
      refine bK h1 ?_
      cases h2:decide (y≤((2:Nat):Int)) with
      | false=>exact aI rfl
      | true =>
        refine bc ?_
        cases h3:(t==0) with
        | false=>exact aI (bc rfl)
        | true=>exact bc rfl
  by_cases k5:k=5
  · subst k5
    refine aH (ah (a:=2) (aI (aI (aI (aI (aI (bc rfl)))))) (ah (a:=df 5 y t) ?_ rfl))
    show _=some (Sum.inl (bif decide (y≥lU 1 ((2:Nat):Int)) then bif decide (y≤((2:Nat):Int)) then true else false else false))
    rw [m2]
    cases h1:decide (y≥1) with
    | false=>exact bm h1 rfl
    | true =>
      refine bK h1 ?_
      cases h2:decide (y≤((2:Nat):Int)) with
      | false=>exact aI rfl
      | true =>
        refine bc ?_
        cases h3:(t==0) with
        | false=>exact aI (aI rfl)
        | true=>exact bc rfl
  by_cases k6:k=6
  · subst k6
    refine aH (ah (a:=2) (aI (aI (aI (bc rfl)))) (ah (a:=df 6 y t) ?_ rfl))
    show _=some (Sum.inl (bif decide (y≥lU 1 ((2:Nat):Int)) then bif decide (y≤((2:Nat):Int)) then t==0 else false else false))
    rw [m2]
    cases h1:decide (y≥1) with
    | false=>exact bm h1 rfl
    | true =>
      refine bK h1 ?_
      cases h2:decide (y≤((2:Nat):Int)) with
      | false=>exact aI rfl
      | true =>
        refine bc ?_
        cases h3:(t==0) with
        | false=>exact aI (aI rfl)
        | true=>exact bc rfl
  have q:∀ j:Int,¬ k=j→(k==j)=false:=fun j h=>beq_eq_false_iff_ne.2 h
  have e:df k y t=false:=by
    cases h:df k y t with
    | false=>rfl
    | true =>
      have:=oG h
      omega
  rw [e]
  exact aH (aG (bm (q _ k1) (bm (q _ k2) (bm (q _ k3) (bm (q _ k6) (bm (q _ k4) (bm (q _ k5) rfl)))))))
def mD(w:ByteArray) :Nat:=if w=ByteArray.mk #[101,105,103,101,110] then 1 else if w=ByteArray.mk #[118,97,108,117,101,115] then 2 else if w=ByteArray.mk #[115,118,100] then 3 else if w=ByteArray.mk #[114,97,110,107] then 4 else if w=ByteArray.mk #[105,110,118,101,114,115,101] then 5 else if w=ByteArray.mk #[99,111,110,100] then 6 else 0
theorem Mg{k y t:Int}(h:df k y t=true) :jj k y t=some (.r0 (jA k y t)):=by
  have e2:(ByteArray.mk #[32]).size=1:=rfl
  have h1:=lB y
  have h2:=qn t
  have asc:∀ a b c:ByteArray,a++b++c=a++(b++c):=fun a b c=>ByteArray.append_assoc
  have hy:fw .i64 y=true:=by
    have:=oG h
    rw [aX];omega
  have hT:=HA t
  unfold jj
  have gen:∀ (w:ByteArray),w.size≤7→(rJ k).run=some (.inl w)→k≠2→(jA k y t=bif (k==4||k==5) then (w++(yh++bj y))++(yh++bF t) else w++(yh++bj y))→ur (aT ((rJ k).run) fun s1=>aT ((rK k y s1).run) fun s2=>aT ((rL k).run) fun b3=>aT ((rM t s2 b3).run) fun s4=>(vy s4).run)=some (.r0 (jA k y t)):=by
    intro w hw h6 hk hl
    have h7:(rK k y w).run=some (.inl (w++(yh++bj y))):=by
      rw [←asc]
      refine bK (bne_iff_ne.2 hk) (am ?_ (am hy (am ?_ rfl)))
      all_goals simp only [ByteArray.size_append,e2,decide_eq_true_eq];omega
    have h8:(rL k).run=some (.inl (k==4||k==5)):=by
      cases h4:(k==4) with
      | true=>exact bK h4 rfl
      | false=>exact bm h4 rfl
    refine aH (ah h6 (ah h7 (ah h8 (ah (a:=jA k y t) ?_ rfl))))
    rw [hl]
    cases (k==4||k==5) with
    | false=>exact aI rfl
    | true =>
      simp only [rM,hT]
      have e3:yh.size=1:=rfl
      refine bc (am ?_ (bi (am ?_ ?_)))
      · simp only [ByteArray.size_append,e2,e3,decide_eq_true_eq];omega
      · show decide ((w++(yh++bj y)++ByteArray.mk #[32]).size+(bF t).size≤_)=true
        simp only [ByteArray.size_append,e2,e3,decide_eq_true_eq];omega
      · show some (Sum.inl (w++(yh++bj y)++yh++bF t))=_
        rw [asc (w++(yh++bj y))]
        rfl
  rcases oG h with ⟨rfl,hh,rfl⟩ | ⟨rfl,rfl,rfl⟩ | ⟨rfl,hh,rfl⟩ | ⟨rfl,hh⟩ | ⟨rfl,hh⟩ | ⟨rfl,hh,rfl⟩
  · exact gen (ByteArray.mk #[101,105,103,101,110]) (by decide) rfl (by decide) rfl
  · exact aH (ah (a:=ByteArray.mk #[118,97,108,117,101,115]) rfl (ah (a:=ByteArray.mk #[118,97,108,117,101,115]) (aI rfl) (ah (a:=false) (aI rfl) (ah (a:=ByteArray.mk #[118,97,108,117,101,115]) (aI rfl) rfl))))
  · exact gen (ByteArray.mk #[115,118,100]) (by decide) rfl (by decide) rfl
  · exact gen (ByteArray.mk #[114,97,110,107]) (by decide) rfl (by decide) rfl
  · exact gen (ByteArray.mk #[105,110,118,101,114,115,101]) (by decide) rfl (by decide) rfl
  · exact gen (ByteArray.mk #[99,111,110,100]) (by decide) rfl (by decide) rfl
theorem F3(a b:List UInt8)(ha:∀ c∈a,c≠32)(hb:∀ c∈b,c≠32) :aJ (a++32::b)=[a,b]:=by rw [nG _ _ ha,hX _ hb]
theorem Jp(a b d:List UInt8)(ha:∀ c∈a,c≠32)(hb:∀ c∈b,c≠32)(hd:∀ c∈d,c≠32) :aJ (a++32::(b++32::d))=[a,b,d]:=by rw [nG _ _ ha,F3 _ _ hb hd]
theorem F4{y:Int}(h:y=1∨y=2∨y=3) :∀ c∈(bj y).data.toList,c≠32:=by
  rcases h with rfl | rfl | rfl<;>decide +kernel
theorem Mh(t:Int) :∀ c∈(bF t).data.toList,c≠32:=by
  intro c hc q
  subst q
  have:=BX t _ hc
  revert this
  decide
theorem Og(w v:ByteArray)(hw:∀ c∈w.data.toList,c≠32)(hv:∀ c∈v.data.toList,c≠32) :aq (w++(yh++v))=[w,v]:=by
  symm
  apply vH
  have e:(w++(yh++v)).data.toList=w.data.toList++32::v.data.toList:=by simp [yh]
  rw [e,F3 _ _ hw hv]
  rfl
theorem KY(w v u:ByteArray)(hw:∀ c∈w.data.toList,c≠32)(hv:∀ c∈v.data.toList,c≠32)(hu:∀ c∈u.data.toList,c≠32) :aq ((w++(yh++v))++(yh++u))=[w,v,u]:=by
  symm
  apply vH
  have e:((w++(yh++v))++(yh++u)).data.toList=w.data.toList++32::(v.data.toList++32::u.data.toList):=by simp [yh]
  rw [e,Jp _ _ _ hw hv hu]
  rfl
theorem Oh(w:ByteArray)(hw:∀ c∈w.data.toList,c≠32) :aq w=[w]:=by
  symm
  apply vH
  rw [hX _ hw]
  rfl
def yS(k:Nat)(l:List ByteArray) :Int:=bif decide (((oS k).2.2.1:Int)>0)&&decide (((l.length-1:Nat):Int)>0) then db (l.getD 1 ByteArray.empty) else 0
def tS(k:Nat)(l:List ByteArray) :Int:=bif (oS k).2.2.2.1&&decide (((l.length-1:Nat):Int)>1) then gU (l.getD 2 ByteArray.empty) else 0
def yR(l:List ByteArray) :Int:=bif decide ((l.length:Int)>1)&&(((l.getD 1 ByteArray.empty).size:Int)==1) then IntKind.i64.wrap (aD (l.getD 1 ByteArray.empty) 0)-48 else 0
def tR(l:List ByteArray) :Int:=bif decide ((l.length:Int)>2) then pg (l.getD 2 ByteArray.empty) else 0
theorem Ni{y:Int}(h:y=1∨y=2∨y=3) :db (bj y)=y∧((bj y).size:Int)=1∧IntKind.i64.wrap (aD (bj y) 0)-48=y:=by
  rcases h with rfl | rfl | rfl<;>decide +kernel
def Mi(k:Nat)(y t:Int)(l:List ByteArray) :Prop:=mD (l.getD 0 ByteArray.empty)=k∧yS k l=y∧tS k l=t∧yR l=y∧tR l=t
theorem F5{k:Nat}{y t:Int}(w:ByteArray)(hw:∀ c∈w.data.toList,c≠32)(hk:mD w=k)(hy:y=1∨y=2∨y=3)(ht:t=0)(hn:(oS k).2.2.1≠0)(hb:(oS k).2.2.2.1=false) :Mi k y t (aq (w++(yh++bj y))):=by
  obtain ⟨n1,n2,n3⟩:=Ni hy
  rw [Og _ _ hw (F4 hy)]
  refine ⟨hk,?_,?_,?_,?_⟩
  · unfold yS
    rw [decide_eq_true (show ((oS (k:Int)).2.2.1:Int)>0 by omega)]
    exact n1
  · unfold tS
    rw [hb,ht]
    rfl
  · unfold yR
    simp only [List.getD_cons_succ,List.getD_cons_zero,n2,n3]
    rfl
  · rw [ht]
    rfl
theorem F6{k:Nat}{y t:Int}(w:ByteArray)(hw:∀ c∈w.data.toList,c≠32)(hk:mD w=k)(hy:y=1∨y=2∨y=3)(h1:0≤t)(h2:t<18446744073709551616)(hn:(oS k).2.2.1≠0)(hb:(oS k).2.2.2.1=true) :Mi k y t (aq ((w++(yh++bj y))++(yh++bF t))):=by
  obtain ⟨n1,n2,n3⟩:=Ni hy
  rw [KY _ _ _ hw (F4 hy) (Mh t)]
  refine ⟨hk,?_,?_,?_,?_⟩
  · unfold yS
    rw [decide_eq_true (show ((oS (k:Int)).2.2.1:Int)>0 by omega)]
    exact n1
  · unfold tS
    simp only [hb,List.length_cons,List.length_nil,List.getD_cons_succ,List.getD_cons_zero,F1,Ij h1 h2]
    rfl
  · unfold yR
    simp only [List.getD_cons_succ,List.getD_cons_zero,n2,n3]
    rfl
  · unfold tR
    simp only [List.length_cons,List.length_nil,List.getD_cons_succ,List.getD_cons_zero,Ij h1 h2]
    rfl
theorem Sq{k:Nat}{y t:Int}(h:df k y t=true)(h1:0≤t)(h2:t<18446744073709551616) :Mi k y t (aq (jA k y t)):=by
  rcases oG h with ⟨e,hh,ht⟩ | ⟨e,rfl,rfl⟩ | ⟨e,hh,ht⟩ | ⟨e,hh⟩ | ⟨e,hh⟩ | ⟨e,hh,ht⟩
  · have e:k=1:=by omega
    subst e
    exact F5 (ByteArray.mk #[101,105,103,101,110]) (by decide) rfl hh ht (by decide) rfl
  · have e:k=2:=by omega
    subst e
    have hl:jA ((2:Nat):Int) 0 0=ByteArray.mk #[118,97,108,117,101,115]:=rfl
    rw [hl,Oh _ (by decide)]
    exact ⟨rfl,rfl,rfl,rfl,rfl⟩
  · have e:k=3:=by omega
    subst e
    exact F5 (ByteArray.mk #[115,118,100]) (by decide) rfl (by omega) ht (by decide) rfl
  · have e:k=4:=by omega
    subst e
    exact F6 (ByteArray.mk #[114,97,110,107]) (by decide) rfl (by omega) h1 h2 (by decide) rfl
  · have e:k=5:=by omega
    subst e
    exact F6 (ByteArray.mk #[105,110,118,101,114,115,101]) (by decide) rfl (by omega) h1 h2 (by decide) rfl
  · have e:k=6:=by omega
    subst e
    exact F5 (ByteArray.mk #[99,111,110,100]) (by decide) rfl (by omega) ht (by decide) rfl
def Oi(s:ByteArray)(k:Nat)(y t:Int) :Bool:=df k y t&&decide (jA k y t=s)
def F7(s:ByteArray) :Option (Nat×Int×Int) :=
  let l:=aq s
  let k:=mD (l.getD 0 ByteArray.empty)
  bif Oi s k (yS k l) (tS k l) then some (k,yS k l,tS k l) else none
def QL(s:ByteArray) :Option (Nat×Int×Int) :=
  let l:=aq s
  let k:=mD (l.getD 0 ByteArray.empty)
  bif Oi s k (yR l) (tR l) then some (k,yR l,tR l) else none
theorem P5(k:Nat)(l:List ByteArray) :0≤tS k l∧tS k l<18446744073709551616:=by
  unfold tS
  rw [F1]
  cases ((oS k).2.2.2.1&&decide (((l.length-1:Nat):Int)>1)) with
  | true=>exact F0 _
  | false=>exact ⟨Int.le_refl 0,by show (0:Int)<_;decide⟩
theorem P6(l:List ByteArray) :0≤tR l∧tR l<18446744073709551616:=by
  unfold tR
  cases decide ((l.length:Int)>2) with
  | true=>exact F0 _
  | false=>exact ⟨Int.le_refl 0,by show (0:Int)<_;decide⟩
theorem RL(s:ByteArray) :F7 s=QL s:=by
  unfold F7 QL
  simp only []
  generalize hk:mD ((aq s).getD 0 ByteArray.empty)=k
  cases h1:Oi s k (yS k (aq s)) (tS k (aq s)) with
  | true =>
    have g:=h1
    unfold Oi at g
    rw [Bool.and_eq_true] at g
    have gl:=of_decide_eq_true g.2
    have hr:=P5 k (aq s)
    have:=Sq g.1 hr.1 hr.2
    rw [gl] at this
    obtain ⟨_,_,_,q1,q2⟩:=this
    rw [q1,q2,h1]
  | false =>
    cases h2:Oi s k (yR (aq s)) (tR (aq s)) with
    | false=>rfl
    | true =>
      have g:=h2
      unfold Oi at g
      rw [Bool.and_eq_true] at g
      have gl:=of_decide_eq_true g.2
      have hr:=P6 (aq s)
      have:=Sq g.1 hr.1 hr.2
      rw [gl] at this
      obtain ⟨_,q1,q2,_,_⟩:=this
      rw [q1,q2,h2] at h1
      cases h1
theorem F8:∀ (a b:List Int),a.length=b.length→a=b∨∃ n,n<a.length∧(∀ j,j<n→a.getD j 0=b.getD j 0)∧a.getD n 0≠b.getD n 0
  | [],[],_=>.inl rfl
  | x::a,y::b,h=>by
    by_cases hxy:x=y
    · subst hxy
      rcases F8 a b (by simpa using h) with rfl | ⟨n,h1,h2,h3⟩
      · exact .inl rfl
      · refine .inr ⟨n+1,by simp;omega,fun j hj=>?_,by simpa using h3⟩
        cases j with
        | zero=>rfl
        | succ j=>simpa using h2 j (by omega)
    · exact .inr ⟨0,by simp,fun j hj=>by omega,by simpa using hxy⟩
  | [],_::_,h=>by simp at h
  | _::_,[],h=>by simp at h
def Nj(a0 a1 a2:Int)(a4:List Int)(a5 a6 b0 b1 b2:Int)(b4:List Int)(b5 b6:Int) :Bool :=
  bif a0==b0 then bif a1==b1 then bif a2==b2 then bif a5==b5 then bif a6==b6 then decide (a4=b4) else false else false else false else false else false
theorem HB(a0 a1 a2:Int)(a4:List Int)(a5 a6 b0 b1 b2:Int)(b4:List Int)(b5 b6:Int)(h:a4.length≤1000000000) :jl a0 a1 a2 a4 a5 a6 b0 b1 b2 b4 b5 b6=some (.r0 (Nj a0 a1 a2 a4 a5 a6 b0 b1 b2 b4 b5 b6)):=by
  unfold jl
  have hn:∀ x y:Int,(x != y) = !(x==y):=fun _ _=>rfl
  have h8:(rO a0 a1 a2 a4 a5 a6 b0 b1 b2 b4 b5 b6).run=some (.inl (!(bif a0==b0 then bif a1==b1 then bif a2==b2 then bif a5==b5 then bif a6==b6 then ((a4.length:Int)==(b4.length:Int)) else false else false else false else false else false))):=by
    unfold rO
    simp only [hn]
    cases (a0==b0)<;>cases (a1==b1)<;>cases (a2==b2)<;>cases (a5==b5)<;>cases (a6==b6)<;>rfl
  refine aH (ah h8 ?_)
  unfold Nj
  have fl:∀ {k:Unit→Option (Empty⊕ct)},aT (xx (!false)).run k=some (.inr (.r0 false)):=fun {k}=>aG rfl
  cases (a0==b0) with
  | false=>exact fl
  | true =>
    cases (a1==b1) with
    | false=>exact fl
    | true =>
      cases (a2==b2) with
      | false=>exact fl
      | true =>
        cases (a5==b5) with
        | false=>exact fl
        | true =>
          cases (a6==b6) with
          | false=>exact fl
          | true =>
            simp only [cond_true]
            by_cases hl:a4.length=b4.length
            · have hb:((a4.length:Int)==(b4.length:Int))=true:=by simp [hl]
              rw [hb]
              refine ah (a:=()) rfl ?_
              rcases F8 a4 b4 hl with rfl | ⟨n,h1,h2,h3⟩
              · rw [decide_eq_true rfl]
                refine ah (a:=()) (cV (fun j=>j) a4.length rfl (fun j hj=>?_) ?_) rfl
                · exact bK (by simp;omega) (am (by rw [dc];omega) (am (by rw [cq];omega) (am (by rw [dc];omega) (am (by rw [cq];omega) (bm (by simp) (am (by rw [aX];omega) rfl))))))
                · exact bm (by simp) rfl
              · have hne:a4≠b4:=fun e=>h3 (by rw [e])
                rw [decide_eq_false hne]
                refine aG (cV (fun j=>j) n rfl (fun j hj=>?_) ?_)
                · exact bK (by simp;omega) (am (by rw [dc];omega) (am (by rw [cq];omega) (am (by rw [dc];omega) (am (by rw [cq];omega) (bm (by rw [h2 j hj];simp) (am (by rw [aX];omega) rfl))))))
                · exact bK (by simp;omega) (am (by rw [dc];omega) (am (by rw [cq];omega) (am (by rw [dc];omega) (am (by rw [cq];omega) (bK (bne_iff_ne.2 h3) rfl)))))
            · have hb:((a4.length:Int)==(b4.length:Int))=false:=by rw [beq_eq_false_iff_ne];omega
              have hne:a4≠b4:=fun e=>hl (by rw [e])
              rw [hb,decide_eq_false hne]
              exact fl
theorem RM(n:Nat)(l:List ByteArray)(hn:0<n)(hl:0<l.length) :(sv n l).run=if mD (l.getD 0 ByteArray.empty)=0 then some (.inr (.r0 4 0 0 0)) else some (.inl (mD (l.getD 0 ByteArray.empty),(oS (mD (l.getD 0 ByteArray.empty))).2)):=by
  refine am (by rw [dc];omega) (am (by rw [cq];exact hl) ?_)
  generalize l.getD 0 ByteArray.empty=w
  by_cases h1:w=ByteArray.mk #[101,105,103,101,110]
  · subst h1;rfl
  by_cases h2:w=ByteArray.mk #[118,97,108,117,101,115]
  · subst h2;rfl
  by_cases h3:w=ByteArray.mk #[115,118,100]
  · subst h3;rfl
  by_cases h4:w=ByteArray.mk #[114,97,110,107]
  · subst h4;rfl
  by_cases h5:w=ByteArray.mk #[105,110,118,101,114,115,101]
  · subst h5;rfl
  by_cases h6:w=ByteArray.mk #[99,111,110,100]
  · subst h6;rfl
  have e:mD w=0:=by unfold mD;rw [if_neg h1,if_neg h2,if_neg h3,if_neg h4,if_neg h5,if_neg h6]
  rw [e,if_pos rfl]
  refine ut (uu (decide_eq_false h1)) (ut (uu (decide_eq_false h2)) (ut (uu (decide_eq_false h3)) (ut (uu (decide_eq_false h4)) (ut (uu (decide_eq_false h5)) (ut (uu (decide_eq_false h6)) (zD ?_))))))
  have q:∀ b:ByteArray,¬ w=b→(!decide (w=b))=true:=fun b h=>by rw [decide_eq_false h];rfl
  exact am (q _ h1) (am (q _ h2) (am (q _ h3) (am (q _ h4) (am (q _ h5) (am (q _ h6) rfl)))))
theorem Jq(l:List ByteArray)(k:Int)(n:Nat)(b:Bool)(hl:∀ x∈l,x.size≤1000000000) :cj l k ((n:Nat):Int) b=some (.r0 k (bif decide ((n:Int)>0)&&decide ((l.length:Int)>0) then db (l.getD 0 ByteArray.empty) else 0) (bif b&&decide ((l.length:Int)>1) then gU (l.getD 1 ByteArray.empty) else 0)):=by
  unfold cj
  have h6:(pq l ((n:Nat):Int)).run=some (.inl (decide ((n:Int)>0)&&decide ((l.length:Int)>0))):=by
    cases h:decide ((n:Int)>0) with
    | true=>exact bK h rfl
    | false=>exact bm h rfl
  have h8:(pr l b).run=some (.inl (b&&decide ((l.length:Int)>1))):=by
    cases b with
    | true=>exact bc rfl
    | false=>exact aI rfl
  refine aH (ah h6 (ah (a:=bif decide ((n:Int)>0)&&decide ((l.length:Int)>0) then db (l.getD 0 ByteArray.empty) else 0) ?_ (ah h8 (ah (a:=bif b&&decide ((l.length:Int)>1) then gU (l.getD 1 ByteArray.empty) else 0) ?_ rfl))))
  · by_cases h0:(l.length:Int)>0
    · rw [decide_eq_true h0]
      cases hz:(decide ((n:Int)>0)&&true) with
      | false=>exact aI rfl
      | true =>
        have hm:(l.getD 0 ByteArray.empty).size≤1000000000:=by
          rw [List.getD_eq_getElem?_getD,List.getElem?_eq_getElem (by omega)]
          exact hl _ (List.getElem_mem (by omega))
        exact bc (am (by rw [dc];omega) (am (by rw [cq];omega) (am (Nat.ble_eq_true_of_le hm) rfl)))
    · rw [decide_eq_false h0,Bool.and_false]
      exact aI rfl
  · by_cases h0:(l.length:Int)>1
    · rw [decide_eq_true h0]
      cases hz:(b&&true) with
      | false=>exact aI rfl
      | true =>
        have hm:(l.getD 1 ByteArray.empty).size≤1000000000:=by
          rw [List.getD_eq_getElem?_getD,List.getElem?_eq_getElem (by omega)]
          exact hl _ (List.getElem_mem (by omega))
        exact bc (am (by rw [dc];omega) (am (by rw [cq];omega) (am (Nat.ble_eq_true_of_le hm) rfl)))
    · rw [decide_eq_false h0,Bool.and_false]
      exact aI rfl
theorem RN(s:ByteArray)(k y t:Int) :(nA s k y t).run=some (.inl (!(df k y t&&decide (jA k y t=s)))):=by
  have hA:=lm k y t
  simp only [nA,hA]
  refine bi ?_
  show (T.ask (!(df k y t)) _ _).run=_
  cases ha:df k y t with
  | false=>exact bc rfl
  | true =>
    have hy:fw .i64 y=true:=by
      have:=oG ha
      rw [aX];omega
    rw [vn k y t hy]
    refine aI (bi ?_)
    show some (Sum.inl (!((jA k y t).toList==s.toList)))=_
    rw [cY,Bool.true_and]
theorem yr{s x:ByteArray}(h:x∈aq s) :x.size≤s.size:=by
  have h1:x.data.toList∈aJ s.data.toList:=by rw [←lR];exact List.mem_map_of_mem h
  have key:∀ l:List UInt8,∀ w∈aJ l,w.length≤l.length:=by
    intro l
    induction l with
    | nil=>intro w hw;simp [aJ] at hw;simp [hw]
    | cons c r ih =>
      intro w hw
      by_cases hc:c=32
      · subst hc
        rw [BZ,List.mem_cons] at hw
        rcases hw with rfl | hw
        · simp
        · have:=ih w hw;simp;omega
      · rw [vF hc,List.mem_cons] at hw
        rcases hw with rfl | hw
        · have:(aJ r).headD []∈aJ r:=by rw [vG r];simp
          have:=ih _ this
          rw [List.length_cons,List.length_cons];omega
        · have:=ih w (List.mem_of_mem_tail hw);rw [List.length_cons];omega
  have:=key _ _ h1
  simpa using this
theorem B0(s:ByteArray)(hs:s.size≤1000000000) :bh s=some (match F7 s with | some (k,y,t)=>.r0 0 k y t | none=>.r0 4 0 0 0):=by
  unfold bh
  have hw:=pZ s
  have h6:(nx s).run=some (.inl ((aq s).length,(aq s).length,aq s)):=by
    simp only [nx,Cz s hs]
    exact bi rfl
  have h7:=RM (aq s).length (aq s) (by omega) (by omega)
  have hz:∀ x∈aq s,x.size≤1000000000:=fun x hx=>Nat.le_trans (yr hx) hs
  unfold F7
  simp only []
  generalize hk:mD ((aq s).getD 0 ByteArray.empty)=k at *
  by_cases h0:k=0
  · rw [if_pos h0] at h7
    have:Oi s k (yS k (aq s)) (tS k (aq s))=false:=by
      subst h0
      rfl
    rw [this]
    exact aH (ah h6 (aG h7))
  · rw [if_neg h0] at h7
    have h8:∀ (a b:ByteArray) (n:Nat) (tt sq:Bool),(oS k).2=(a,n,tt,sq)→(ny (aq s).length (aq s).length (aq s) k n tt).run=some (.inl ((k:Int),yS k (aq s),tS k (aq s))):=by
      intro a b n tt sq he
      have hc:dq 1 ((aq s).length-1) (aq s)=(aq s).drop 1:=by
        unfold dq
        rw [uL,List.take_of_length_le (by simp)]
      have hr:=Jq ((aq s).drop 1) (k:Int) n tt fun x hx=>hz x (List.mem_of_mem_drop hx)
      simp only [ny,hc,hr]
      refine am (by rw [lQ];omega) (am (by rw [lQ];omega) (am (by rw [sf];omega) (bi ?_)))
      have ew:∀ i,((aq s).drop 1).getD i ByteArray.empty=(aq s).getD (i+1) ByteArray.empty:=fun i=>by
        rw [List.getD_eq_getElem?_getD,List.getD_eq_getElem?_getD,List.getElem?_drop,Nat.add_comm]
      show some (Sum.inl ((k:Int),_,_))=_
      unfold yS tS
      rw [he]
      simp only [ew,List.length_drop]
      rfl
    cases he:(oS k).2 with | mk a p =>
    obtain ⟨n,tt,sq⟩:=p
    rw [he] at h7
    refine aH (ah h6 (ah h7 (ah (h8 a a n tt sq he) (ah (RN s k _ _) ?_))))
    unfold Oi
    cases (df (k:Int) (yS k (aq s)) (tS k (aq s))&&decide (jA (k:Int) (yS k (aq s)) (tS k (aq s))=s)) with
    | true=>exact aI rfl
    | false=>exact bc rfl
def Km:List ByteArray:=[ByteArray.empty,ByteArray.mk #[101,105,103,101,110],ByteArray.mk #[118,97,108,117,101,115],ByteArray.mk #[115,118,100],ByteArray.mk #[114,97,110,107],ByteArray.mk #[105,110,118,101,114,115,101],ByteArray.mk #[99,111,110,100]]
def Rj(w:ByteArray) :Nat→Nat
  | 0=>0
  | j+1=>bif decide (w=Km.getD (j+1) ByteArray.empty) then j+1 else Rj w j
theorem P7(w:ByteArray) :Rj w 6=mD w:=by
  by_cases h1:w=ByteArray.mk #[101,105,103,101,110]
  · subst h1;rfl
  by_cases h2:w=ByteArray.mk #[118,97,108,117,101,115]
  · subst h2;rfl
  by_cases h3:w=ByteArray.mk #[115,118,100]
  · subst h3;rfl
  by_cases h4:w=ByteArray.mk #[114,97,110,107]
  · subst h4;rfl
  by_cases h5:w=ByteArray.mk #[105,110,118,101,114,115,101]
  · subst h5;rfl
  by_cases h6:w=ByteArray.mk #[99,111,110,100]
  · subst h6;rfl
  simp only [Rj,Km,List.getD_cons_succ,List.getD_cons_zero,mD,decide_eq_false h1,decide_eq_false h2,decide_eq_false h3,decide_eq_false h4,decide_eq_false h5,decide_eq_false h6,if_neg h1,if_neg h2,if_neg h3,if_neg h4,if_neg h5,if_neg h6,cond_false]
theorem Ik{z:Int}(h1:0≤z)(h2:z<256) :IntKind.i64.wrap z=z:=by
  have hall:∀ i:Fin 256,IntKind.i64.wrap ((i.val:Nat):Int)=((i.val:Nat):Int):=by decide +kernel
  obtain ⟨n,rfl⟩:=Int.eq_ofNat_of_zero_le h1
  exact hall ⟨n,by omega⟩
theorem Du(s:ByteArray)(hs:s.size≤1000000000) :cy s=some (match QL s with | some (k,y,t)=>.r0 true k y t | none=>.r0 false 0 0 0):=by
  unfold cy
  have hw:=pZ s
  have h14:(nB s).run=some (.inl ((aq s).length,(aq s).length,aq s)):=by
    simp only [nB,qx s hs]
    exact bi rfl
  have hz:∀ x∈aq s,x.size≤1000000000:=fun x hx=>Nat.le_trans (yr hx) hs
  unfold QL
  simp only []
  generalize aq s=l at *
  have hloop:cO (fh l.length l) (1,0)=some (.inl (mD (l.getD 0 ByteArray.empty))):=by
    rw [←P7]
    refine cV (fun j=>(j+1,Rj (l.getD 0 ByteArray.empty) j)) 6 rfl (fun j hj=>?_) ?_
    · refine ah (a:=Rj (l.getD 0 ByteArray.empty) (j+1)) ?_ (am (by rw [aX];omega) rfl)
      refine bK (decide_eq_true (by omega)) (am (by rw [dc];omega) (am (by rw [cq];omega) (am (by rw [dc];omega) (am (by rw [cq];show j+1<7;omega) ?_))))
      rw [cY]
      show (T.ask (decide (l.getD 0 ByteArray.empty=Km.getD (j+1) ByteArray.empty)) _ _).run=_
      rw [Rj]
      cases decide (l.getD 0 ByteArray.empty=Km.getD (j+1) ByteArray.empty) with
      | true=>exact bc rfl
      | false=>exact aI rfl
    · have h9:(sy l.length l 7 (Rj (l.getD 0 ByteArray.empty) 6)).run=some (.inr (.inl (Rj (l.getD 0 ByteArray.empty) 6))):=bm (decide_eq_false (show ¬ (((7:Nat):Int)≤6) by decide)) rfl
      simp only [fh]
      exact aG h9
  have h20:(sA l.length l).run=some (.inl (decide ((l.length:Int)>1)&&(((l.getD 1 ByteArray.empty).size:Int)==1))):=by
    by_cases h1:(l.length:Int)>1
    · rw [decide_eq_true h1]
      exact bK (decide_eq_true h1) (am (by rw [dc];omega) (am (by rw [cq];omega) rfl))
    · rw [decide_eq_false h1]
      exact bm (decide_eq_false h1) rfl
  have h21:(sB l.length l (decide ((l.length:Int)>1)&&(((l.getD 1 ByteArray.empty).size:Int)==1))).run=some (.inl (yR l)):=by
    unfold yR
    by_cases h1:(l.length:Int)>1
    · rw [decide_eq_true h1,Bool.true_and]
      cases hq:(((l.getD 1 ByteArray.empty).size:Int)==1) with
      | false=>exact aI rfl
      | true =>
        have hq:=eq_of_beq hq
        have hb:0≤aD (l.getD 1 ByteArray.empty) 0∧aD (l.getD 1 ByteArray.empty) 0<256:=by
          unfold aD
          have:=(((l.getD 1 ByteArray.empty).data[0]?).getD 0).toNat_lt
          omega
        have hwr:IntKind.i64.wrap (aD (l.getD 1 ByteArray.empty) 0)=aD (l.getD 1 ByteArray.empty) 0:=by
          exact Ik hb.1 hb.2
        rw [hwr]
        refine bc (am (by rw [dc];omega) (am (by rw [cq];omega) (am (by rw [dc];omega) (am ?_ ?_))))
        · rw [hwr,aX];omega
        · rw [hwr];rfl
    · rw [decide_eq_false h1,Bool.false_and]
      exact aI rfl
  have h22:(nC l.length l).run=some (.inl (tR l)):=by
    unfold tR
    by_cases h1:(l.length:Int)>2
    · rw [decide_eq_true h1]
      simp only [nC,rS]
      exact bK (decide_eq_true h1) (am (by rw [dc];omega) (am (by rw [cq];omega) (bi rfl)))
    · rw [decide_eq_false h1]
      exact bm (decide_eq_false h1) rfl
  generalize mD (l.getD 0 ByteArray.empty)=k at *
  have h23:(nD s k (yR l) (tR l)).run=some (.inl (!Oi s k (yR l) (tR l))):=by
    unfold Oi
    simp only [nD,F2]
    refine bi ?_
    show (T.ask (!(df (k:Int) (yR l) (tR l))) _ _).run=_
    cases ha:df (k:Int) (yR l) (tR l) with
    | false=>exact bc rfl
    | true =>
      have hL:=Mg ha
      rw [hL]
      refine aI (bi ?_)
      show some (Sum.inl (!((jA (k:Int) (yR l) (tR l)).toList==s.toList)))=_
      rw [cY,Bool.true_and]
  refine aH (ah h14 (ah rfl (ah hloop (ah h20 (ah h21 (ah h22 (ah h23 ?_)))))))
  cases Oi s k (yR l) (tR l) with
  | true=>exact aI rfl
  | false=>exact bc rfl
end Go.Plb.Seat
namespace Go.Plb
set_option linter.unusedSimpArgs false
set_option linter.unusedVariables false
set_option linter.unusedSectionVars false
variable [Rom]
def ae.less(ρ:ae)(L:Nat→Prop) :ae:={ ρ with live:=fun bl=>ρ.live bl∧¬ L bl }
theorem ae.less_less(ρ:ae)(L:Nat→Prop) :LD ρ (ρ.less L):=⟨rfl,fun _ h=>h.1⟩
theorem DY{ρ:ae}{L:Nat→Prop}{w:World}{v:AV}{u:Value}(h:VR ρ w v u) :VR (ρ.less L) w v u:=by
  induction h using VR.rec (motive_2:=fun l c _=>cz (ρ.less L) w l c) with
  | int k n=>exact .int k n
  | bool kn b=>exact .bool kn b
  | flt ex x y h=>exact .flt ex x y h
  | str s=>exact .str s
  | nptr=>exact .nptr
  | ptr b k i j hb=>exact VR.ptr (ρ:=ρ.less L) b k i j hb
  | iptr bw d k i j bl o u ha hb hc hv hr hk hg ih=>exact .iptr bw d k i j bl o u ((ρ.less_less L).avoid ha) hb hc ih hr hk hg
  | nsl=>exact .nsl
  | esl a=>exact .esl a
  | zsl a c=>exact .zsl a c
  | nan n h=>exact .nan n h
  | sl b k es i len cap cap' hb hcap hl c t hh hs=>exact VR.sl (ρ:=ρ.less L) b k es i len cap cap' hb hcap hl c t hh hs
  | slEnd b k es i a=>exact .slEnd b k es i a
  | imm bw d k es i len cap bl o u ha hb hc hv hl hr hk hg ih=>exact .imm bw d k es i len cap bl o u ((ρ.less_less L).avoid ha) hb hc ih hl hr hk hg
  | immEnd bw d k es i cap a hr hk hg=>exact .immEnd bw d k es i cap a hr hk hg
  | fn f l1 l2 c1 c2 h1 h2 i1 i2=>exact .fn f l1 l2 c1 c2 i1 i2
  | nfn=>exact .nfn
  | gmap ks vs bl es cl u ha hb hh hin hex hv hl hk ih=>exact .gmap ks vs bl es cl u ((ρ.less_less L).avoid ha) hb hh hin hex ih hl hk
  | gvar c bl t fr ha hb hh=>exact .gvar c bl t fr ((ρ.less_less L).avoid ha) hb hh
  | agg l c h ih=>exact .agg l c ih
  | tup l c h ih=>exact .tup l c ih
  | iface t v u h ih=>exact .iface t v u ih
  | niface=>exact .niface
  | any u=>exact .any u
  | nil=>exact cz.nil
  | cons v u l c h t i1 i2=>exact cz.cons v u l c i1 i2
theorem KZ{ρ:ae}{L:Nat→Prop}{w:World} :∀ {l:List AV} {c:List Value},cz ρ w l c→cz (ρ.less L) w l c
  | _,_,.nil=>.nil
  | _,_,.cons v u l c h t=>.cons v u l c (DY h) (KZ t)
theorem QM{ρ:ae}{L:Nat→Prop}{w:World}{h:bp}{n:Nat}(hh:HR ρ w h n)(hL:∀ b d,ay h b=some d→ρ.ok b→¬ L (ρ.at_ b)) :HR (ρ.less L) w h n:=by
  refine ⟨fun b d hb=>?_,hh.inj,fun bl q j=>hh.fresh bl q.1 j,fun bl q=>hh.liveLt bl q.1,hh.outLt,hh.lt,fun x hx=>DY (hh.rom x hx)⟩
  rcases hh.cell b d hb with ⟨k1,k2,hr,c,t,r1,r2⟩ | q
  · exact .inl ⟨k1,⟨k2,hL b d hb k1⟩,hr,c,t,r1,fun x v hx=>(r2 x v hx).imp fun u g=>⟨g.1,DY g.2⟩⟩
  · exact .inr q
def ao.plain:ao→Bool
  | .fl _ | .ns .. | .bs _ | .ss _ | .cols ..=>true
  | _=>false
theorem Mj{d:ao}(h:d.plain=true) :d.kept=true:=by cases d<;>first | rfl | cases h
def Mk(st:az)(b i x:Nat) :az :=
  match ay st.heap b with
  | some (.vs l)=>match l[i]? with
    | some (.sl y w es j n c)=>match ay st.heap x with
      | some d=>bif Nat.beq y x&&(!Nat.beq b x&&d.plain) then ⟨st.tmps,dB (oJ st.heap x) b (.vs (l.set i (.imm .free d w es j n))),st.next⟩ else st
      | none=>st
    | _=>st
  | _=>st
theorem P8{st:az}{b i x:Nat} :LE [] st (Mk st b i x):=by
  intro ρ0 w0 a w hN hA
  unfold Mk
  split
  case h_2=>exact hA
  rename_i l hl
  split
  case h_2=>exact hA
  rename_i y wd es j n c hi
  split
  case h_2=>exact hA
  rename_i d hd
  cases hc:(Nat.beq y x&&(!Nat.beq b x&&d.plain)) with
  | false=>exact hA
  | true =>
  simp only [cond_true]
  simp only [Bool.and_eq_true,Bool.not_eq_true'] at hc
  obtain ⟨e1,e2,hp⟩:=hc
  have e1:=Nat.eq_of_beq_eq_true e1
  subst e1
  have hne:b≠y:=fun q=>by subst q;rw [lW] at e2;cases e2
  obtain ⟨ρ,E,W,S,hbk,hle⟩:=hA
  have hh:=S.heap
  have hk:=Mj hp

  have key:∃ L:Nat→Prop,(∀ z e,z≠y→ay st.heap z=some e→ρ.ok z→¬ L (ρ.at_ z))∧(∀ bl,ρ0.live bl→¬ L bl)∧(ρ.ok y→L (ρ.at_ y)):=by
    by_cases ok:ρ.ok y
    · refine ⟨fun bl=>bl=ρ.at_ y,fun z e hz he hz2 q=>hz (hh.inj z y e d he hd hz2 ok q),fun bl q=>?_,fun _=>rfl⟩
      obtain ⟨k,k1,_⟩:=hN.only bl q
      exact absurd (hN.heap.lt k k1) (Nat.not_lt_zero _)
    · exact ⟨fun _=>False,fun _ _ _ _ _ q=>q,fun _ _ q=>q,fun q=>ok q⟩
  obtain ⟨L,L1,L2,L3⟩:=key
  have hget':∀ z e,ay (oJ st.heap y) z=some e→z≠y∧ay st.heap z=some e:=by
    intro z e hz
    rw [gn] at hz
    split at hz
    · cases hz
    · rename_i q;exact ⟨fun r=>q r.symm,hz⟩
  have h1:HR (ρ.less L) w (oJ st.heap y) st.next:=QM (hh.del y) fun z e hz ok=>by
    obtain ⟨q1,q2⟩:=hget' z e hz
    exact L1 z e q1 q2 ok
  have hb1:ay (oJ st.heap y) b=some (.vs l):=by
    rw [gn,if_neg (fun q=>hne q.symm)];exact hl
  have hv:∀ u,VR ρ w (.sl y wd es j n c) u→VR (ρ.less L) w (.imm .free d wd es j n) u:=by
    intro u hu
    cases hu with
    | sl _ _ _ _ _ _ cap' hb hcap hl' c' t hh' hs =>
      obtain ⟨hlv,hrk,cc,t2,hcc,hcv⟩:=hh.real hd hb
      have:=VR.imm (ρ:=ρ.less L) (w:=w) .free d wd es j n cap' (ρ.at_ y) 0 (fun z=>(cc[z]?).getD undef) (fun k _=>by
          cases k with
          | zero=>exact fun q=>q.2 (L3 hb)
          | succ k=>exact hh.fresh _ hlv k) (hh.liveLt _ hlv)
        (fun z v hz=>by
          obtain ⟨u,q1,q2⟩:=hcv z v hz
          simp [World.cell?,hcc,q1]) (fun z v hz=>by
          obtain ⟨u,q1,q2⟩:=hcv z v hz
          simp only [q1,Option.getD_some]
          exact DY q2) (by omega) hrk (fun _=>hk) (kU hk)
      simpa using this
    | slEnd=>exact .immEnd _ _ _ _ _ _ _ (hh.rk hd) (fun _=>hk) (kU hk)
  refine ⟨ρ.less L,⟨E.at_,E.ok,fun bl q=>⟨E.live bl q,L2 bl q⟩,fun bl q r=>E.new bl q r.1,E.out⟩,W,⟨S.defers,KZ S.tmps,?_⟩,hbk,hle⟩
  have look:∀ z e,ay (dB (oJ st.heap y) b (.vs (l.set i (.imm .free d wd es j n)))) z=some e→(z=b∧e=.vs (l.set i (.imm .free d wd es j n)))∨(z≠b∧z≠y∧ay st.heap z=some e):=by
    intro z e hz
    rw [bY] at hz
    by_cases q:b=z
    · rw [if_pos q] at hz;cases hz;exact .inl ⟨q.symm,rfl⟩
    · rw [if_neg q] at hz;exact .inr ⟨fun r=>q r.symm,hget' z e hz⟩
  have had:∀ z e,ay (dB (oJ st.heap y) b (.vs (l.set i (.imm .free d wd es j n)))) z=some e→∃ e',ay (oJ st.heap y) z=some e':=by
    intro z e hz
    rw [bY] at hz
    by_cases q:b=z
    · subst q;exact ⟨_,hb1⟩
    · rw [if_neg q] at hz;exact ⟨e,hz⟩
  refine ⟨fun z e hz=>?_,fun z z' e e' hz hz' ok ok' he=>?_,h1.fresh,h1.liveLt,h1.outLt,h1.lt,h1.rom⟩
  · rcases look z e hz with ⟨rfl,rfl⟩ | ⟨q1,q2,q3⟩
    · rcases h1.cell z _ hb1 with ⟨k1,k2,_,cc,t,r1,r2⟩ | ⟨k1,k2,_,k4⟩
      · refine .inl ⟨k1,k2,trivial,cc,t,r1,fun m v hm=>?_⟩
        simp only [ao.cell?,List.getElem?_set] at hm
        by_cases hq:i=m
        · subst hq
          rw [if_pos rfl] at hm
          split at hm
          · cases hm
            rcases hh.cell z _ hl with ⟨_,_,_,c3,t3,s1,s2⟩ | ⟨g1,_⟩
            · have ec:c3=cc:=by
                have r1':w.heap[ρ.at_ z]? = some (.cells cc t (0,0)):=r1
                rw [s1] at r1';cases r1';rfl
              subst ec
              obtain ⟨u,t1,t2⟩:=s2 i _ hi
              exact ⟨u,t1,hv u t2⟩
            · exact absurd k1 g1
          · cases hm
        · rw [if_neg hq] at hm
          exact r2 m v hm
      · refine .inr ⟨k1,k2,trivial,fun m=>?_⟩
        have:=k4 i
        simp only [ao.cell?] at this
        rw [hi] at this
        cases this
    · exact h1.cell z e (by rw [gn,if_neg (fun q=>q2 q.symm)];exact q3)
  · obtain ⟨f,hf⟩:=had z e hz
    obtain ⟨f',hf'⟩:=had z' e' hz'
    exact h1.inj z z' f f' hf hf' ok ok' he
theorem Sg.sub{P:Program}{α X:Type}{N:α→az}{E:X→AE×az}{m:Option (α⊕X)}{cs:List Code}{st st1:az}(hs:LE [] st st1)(h:Sg P [] cs st1 m N E) :Sg P [] cs st m N E :=
  fun r hr=>ef.weak hs (h r hr)
end Go.Plb
namespace Go.Plb.Seat
open Go Go.Plb
set_option linter.unusedVariables false
set_option maxRecDepth 100000
noncomputable section
inductive aa where
  | r0 (b13:Bool) (a14:Nat) (a15:Nat) (i17:Int) (i18:Int) (i19:Int) (a20:Nat) (a21:Nat) (i22:Int) (i23:Int) (b24:Bool) (i25:Int) (a26:Nat) (l27:List Int) (l28:List Int) (l29:List Int) (l30:List (List Int)) (l31:List Int) (l32:List Int) (l33:List Int)
  | r1 (b34:Bool) (a35:Nat) (a36:Nat) (i37:Int) (i38:Int) (b39:Bool) (a40:Nat) (l41:List Int) (l42:List Int) (l43:List Int) (l44:List (List Int)) (l45:List Int) (l46:List Int) (l47:List Int)
  | r2 (b48:Bool) (a49:Nat) (a50:Nat) (i51:Int) (i52:Int) (i53:Int) (a54:Nat) (i55:Int) (i56:Int) (b57:Bool) (i58:Int) (a59:Nat) (l60:List Int) (l61:List Int) (l62:List Int) (l63:List (List Int)) (l64:List Int) (l65:List Int) (l66:List Int)
def nI:aa→AE×az
  | .r0 b13 a14 a15 i17 i18 i19 a20 a21 i22 i23 b24 i25 a26 l27 l28 l29 l30 l31 l32 l33=>(.ret,⟨an 164 [(4,.bool false b13)],[(0,.vs [.sl 1 6 6 0 a14 a15,.int .i64 i17,.int .i64 i18,.int .i64 i19,.sl 2 1 1 0 a20 a21,.int .i64 i22,.int .u64 i23,.bool false b24,.int .i64 i25]),(1,.cols a26 [.ci .i64 l27,.ci .i64 l28,.ci .i64 l29,.cns .u64 l30,.ci .i64 l31,.ci .u64 l32]),(2,.ns .u64 l33)],3⟩)
  | .r1 b34 a35 a36 i37 i38 b39 a40 l41 l42 l43 l44 l45 l46 l47=>(.ret,⟨an 164 [(4,.bool false b34)],[(0,.vs [.sl 1 6 6 0 a35 a36,.int .i64 (0:Int),.int .i64 i37,.int .i64 i38,.nsl,.int .i64 (0:Int),.int .u64 (0:Int),.bool false b39,.int .i64 (0:Int)]),(1,.cols a40 [.ci .i64 l41,.ci .i64 l42,.ci .i64 l43,.cns .u64 l44,.ci .i64 l45,.ci .u64 l46]),(2,.ns .u64 l47)],3⟩)
  | .r2 b48 a49 a50 i51 i52 i53 a54 i55 i56 b57 i58 a59 l60 l61 l62 l63 l64 l65 l66=>(.ret,⟨an 164 [(4,.bool false b48)],[(0,.vs [.sl 1 6 6 0 a49 a50,.int .i64 i51,.int .i64 i52,.int .i64 i53,.sl 3 1 1 0 a54 a54,.int .i64 i55,.int .u64 i56,.bool false b57,.int .i64 i58]),(1,.cols a59 [.ci .i64 l60,.ci .i64 l61,.ci .i64 l62,.cns .u64 l63,.ci .i64 l64,.ci .u64 l65]),(3,.ns .u64 l66)],4⟩)
theorem bM:qZ nI:=by intro x;cases x<;>(intro h;cases h)
theorem Ad(id:Nat) :pF id nI:=by intro x;cases x<;>(intro h;cases h)
def fk:aa→mW
  | .r0 b13 a14 a15 i17 i18 i19 a20 a21 i22 i23 b24 i25 a26 l27 l28 l29 l30 l31 l32 l33=>⟨.bool false b13,[some (.vs [.sl 1 6 6 0 a14 a15,.int .i64 i17,.int .i64 i18,.int .i64 i19,.sl 2 1 1 0 a20 a21,.int .i64 i22,.int .u64 i23,.bool false b24,.int .i64 i25]),some (.cols a26 [.ci .i64 l27,.ci .i64 l28,.ci .i64 l29,.cns .u64 l30,.ci .i64 l31,.ci .u64 l32]),some (.ns .u64 l33)]⟩
  | .r1 b34 a35 a36 i37 i38 b39 a40 l41 l42 l43 l44 l45 l46 l47=>⟨.bool false b34,[some (.vs [.sl 1 6 6 0 a35 a36,.int .i64 (0:Int),.int .i64 i37,.int .i64 i38,.nsl,.int .i64 (0:Int),.int .u64 (0:Int),.bool false b39,.int .i64 (0:Int)]),some (.cols a40 [.ci .i64 l41,.ci .i64 l42,.ci .i64 l43,.cns .u64 l44,.ci .i64 l45,.ci .u64 l46]),some (.ns .u64 l47)]⟩
  | .r2 b48 a49 a50 i51 i52 i53 a54 i55 i56 b57 i58 a59 l60 l61 l62 l63 l64 l65 l66=>⟨.bool false b48,[some (.vs [.sl 1 6 6 0 a49 a50,.int .i64 i51,.int .i64 i52,.int .i64 i53,.sl 3 1 1 0 a54 a54,.int .i64 i55,.int .u64 i56,.bool false b57,.int .i64 i58]),some (.cols a59 [.ci .i64 l60,.ci .i64 l61,.ci .i64 l62,.cns .u64 l63,.ci .i64 l64,.ci .u64 l65]),none,some (.ns .u64 l66)]⟩
noncomputable def yu:List Code:=cN (qI bZ)
def Ae(n_0:Nat)(c_1:Nat)(i_2:Int)(i_3:Int)(i_4:Int)(n_5:Nat)(c_6:Nat)(i_7:Int)(i_8:Int)(b_9:Bool)(i_10:Int)(n_11:Nat)(l_12:List Int)(l_13:List Int)(l_14:List Int)(l_15:List (List Int))(l_16:List Int)(l_17:List Int)(l_18:List Int)(s_19:ByteArray)(_:Unit) :az:=⟨an 164 [(0,.ptr 0 1 0 0),(1,.str s_19)],[(0,.vs [.sl 1 6 6 0 n_0 c_1,.int .i64 i_2,.int .i64 i_3,.int .i64 i_4,.sl 2 1 1 0 n_5 c_6,.int .i64 i_7,.int .u64 i_8,.bool false b_9,.int .i64 i_10]),(1,.cols n_11 [.ci .i64 l_12,.ci .i64 l_13,.ci .i64 l_14,.cns .u64 l_15,.ci .i64 l_16,.ci .u64 l_17]),(2,.ns .u64 l_18)],3⟩
def yv:T ((Unit)⊕(aa)) :=
  .leaf (.inl ())
def re(n_0:Nat)(c_1:Nat)(i_2:Int)(i_3:Int)(i_4:Int)(n_5:Nat)(c_6:Nat)(i_7:Int)(i_8:Int)(b_9:Bool)(i_10:Int)(n_11:Nat)(l_12:List Int)(l_13:List Int)(l_14:List Int)(l_15:List (List Int))(l_16:List Int)(l_17:List Int)(l_18:List Int)(s_19:ByteArray)(_:Unit) :az:=⟨an 164 [(0,.ptr 0 1 0 0),(1,.str s_19)],[(0,.vs [.sl 1 6 6 0 n_0 c_1,.int .i64 i_2,.int .i64 i_3,.int .i64 i_4,.sl 2 1 1 0 n_5 c_6,.int .i64 i_7,.int .u64 i_8,.bool false b_9,.int .i64 i_10]),(1,.cols n_11 [.ci .i64 l_12,.ci .i64 l_13,.ci .i64 l_14,.cns .u64 l_15,.ci .i64 l_16,.ci .u64 l_17]),(2,.ns .u64 l_18)],3⟩
noncomputable def lF:List Code:=cN (inBlock ((((yu.drop 1).take 1)).headD .skip))
def Af(n_0:Nat)(c_1:Nat)(i_2:Int)(i_3:Int)(i_4:Int)(n_5:Nat)(c_6:Nat)(i_7:Int)(i_8:Int)(b_9:Bool)(i_10:Int)(n_11:Nat)(l_12:List Int)(l_13:List Int)(l_14:List Int)(l_15:List (List Int))(l_16:List Int)(l_17:List Int)(l_18:List Int)(s_19:ByteArray)(b1:Bool) :az:=⟨an 164 [(0,.ptr 0 1 0 0),(1,.str s_19),(10,.bool false b1)],[(0,.vs [.sl 1 6 6 0 n_0 c_1,.int .i64 i_2,.int .i64 i_3,.int .i64 i_4,.sl 2 1 1 0 n_5 c_6,.int .i64 i_7,.int .u64 i_8,.bool false b_9,.int .i64 i_10]),(1,.cols n_11 [.ci .i64 l_12,.ci .i64 l_13,.ci .i64 l_14,.cns .u64 l_15,.ci .i64 l_16,.ci .u64 l_17]),(2,.ns .u64 l_18)],3⟩
def yw(b_9:Bool) :T ((Bool)⊕((Unit)⊕(aa))) :=
  .leaf (.inl (!b_9))
def rf(n_0:Nat)(c_1:Nat)(i_2:Int)(i_3:Int)(i_4:Int)(n_5:Nat)(c_6:Nat)(i_7:Int)(i_8:Int)(b_9:Bool)(i_10:Int)(n_11:Nat)(l_12:List Int)(l_13:List Int)(l_14:List Int)(l_15:List (List Int))(l_16:List Int)(l_17:List Int)(l_18:List Int)(s_19:ByteArray)(_:Unit) :az:=⟨an 164 [(0,.ptr 0 1 0 0),(1,.str s_19)],[(0,.vs [.sl 1 6 6 0 n_0 c_1,.int .i64 i_2,.int .i64 i_3,.int .i64 i_4,.sl 2 1 1 0 n_5 c_6,.int .i64 i_7,.int .u64 i_8,.bool false b_9,.int .i64 i_10]),(1,.cols n_11 [.ci .i64 l_12,.ci .i64 l_13,.ci .i64 l_14,.cns .u64 l_15,.ci .i64 l_16,.ci .u64 l_17]),(2,.ns .u64 l_18)],3⟩
def Ag(n_0:Nat)(c_1:Nat)(i_2:Int)(i_3:Int)(i_4:Int)(n_5:Nat)(c_6:Nat)(i_7:Int)(i_8:Int)(b_9:Bool)(i_10:Int)(n_11:Nat)(l_12:List Int)(l_13:List Int)(l_14:List Int)(l_15:List (List Int))(l_16:List Int)(l_17:List Int)(l_18:List Int)(s_19:ByteArray) :(List ByteArray)×Nat→az:=fun (w2,w3)=>⟨an 164 [(0,.ptr 0 1 0 0),(1,.str s_19),(5,.imm .free (.ss w2) 1 1 0 w3)],[(0,.vs [.sl 1 6 6 0 n_0 c_1,.int .i64 i_2,.int .i64 i_3,.int .i64 i_4,.sl 2 1 1 0 n_5 c_6,.int .i64 i_7,.int .u64 i_8,.bool false b_9,.int .i64 i_10]),(1,.cols n_11 [.ci .i64 l_12,.ci .i64 l_13,.ci .i64 l_14,.cns .u64 l_15,.ci .i64 l_16,.ci .u64 l_17]),(2,.ns .u64 l_18)],3⟩
def yx(s_19:ByteArray) :T (((List ByteArray)×Nat)⊕((Unit)⊕(aa))) :=
  .need (fj (cn s_19 (ByteArray.mk #[32])))<|.leaf (.inl ((fL (cn s_19 (ByteArray.mk #[32]))),(fK (cn s_19 (ByteArray.mk #[32])))))
def Ah(n_0:Nat)(c_1:Nat)(n_11:Nat)(l_12:List Int)(l_13:List Int)(l_14:List Int)(l_15:List (List Int))(l_16:List Int)(l_17:List Int)(l_18:List Int) :Bool×Int×Int×Bool→az:=fun (b4,i5,i6,b7)=>⟨an 164 [(4,.bool false b4)],[(0,.vs [.sl 1 6 6 0 n_0 c_1,.int .i64 (0:Int),.int .i64 i5,.int .i64 i6,.nsl,.int .i64 (0:Int),.int .u64 (0:Int),.bool false b7,.int .i64 (0:Int)]),(1,.cols n_11 [.ci .i64 l_12,.ci .i64 l_13,.ci .i64 l_14,.cns .u64 l_15,.ci .i64 l_16,.ci .u64 l_17]),(2,.ns .u64 l_18)],3⟩
def yy(n_0:Nat)(c_1:Nat)(i_2:Int)(i_3:Int)(i_4:Int)(n_5:Nat)(c_6:Nat)(i_7:Int)(i_8:Int)(b_9:Bool)(i_10:Int)(n_11:Nat)(l_12:List Int)(l_13:List Int)(l_14:List Int)(l_15:List (List Int))(l_16:List Int)(l_17:List Int)(l_18:List Int)(s_19:ByteArray)(w2:List ByteArray)(w3:Nat) :T ((Bool×Int×Int×Bool)⊕((Unit)⊕(aa))) :=
  .ask (((w3:Nat):Int) != (3:Int))
    (.leaf (.inr (.inr (.r0 false n_0 c_1 i_2 i_3 i_4 n_5 c_6 i_7 i_8 b_9 i_10 n_11 l_12 l_13 l_14 l_15 l_16 l_17 l_18))))
    (.need (oK (1:Int) w3)<|.need (gO 1 (List.length w2))<|.need (gT (List.getD w2 1 ByteArray.empty).size)<|.need (oK (2:Int) w3)<|.need (gO 2 (List.length w2))<|.need (gT (List.getD w2 2 ByteArray.empty).size)<|.need (en (co (db (List.getD w2 1 ByteArray.empty))))<|.ask (dX (co (db (List.getD w2 1 ByteArray.empty))))
      (.need (en (co (db (List.getD w2 2 ByteArray.empty))))<|.ask (dX (co (db (List.getD w2 2 ByteArray.empty))))
        (.need (gV (dV (db (List.getD w2 1 ByteArray.empty)) (db (List.getD w2 2 ByteArray.empty))))<|.leaf (.inl (((je (dV (db (List.getD w2 1 ByteArray.empty)) (db (List.getD w2 2 ByteArray.empty)))).toList==s_19.toList),(db (List.getD w2 1 ByteArray.empty)),(db (List.getD w2 2 ByteArray.empty)),true)))
        (.leaf (.inl (false,(db (List.getD w2 1 ByteArray.empty)),(db (List.getD w2 2 ByteArray.empty)),true))))
      (.leaf (.inl (false,(db (List.getD w2 1 ByteArray.empty)),(db (List.getD w2 2 ByteArray.empty)),true))))
def yz(n_0:Nat)(c_1:Nat)(n_11:Nat)(l_12:List Int)(l_13:List Int)(l_14:List Int)(l_15:List (List Int))(l_16:List Int)(l_17:List Int)(l_18:List Int)(b4:Bool)(i5:Int)(i6:Int)(b7:Bool) :T ((Unit)⊕((Unit)⊕(aa))) :=
  .leaf (.inr (.inr (.r1 b4 n_0 c_1 i5 i6 b7 n_11 l_12 l_13 l_14 l_15 l_16 l_17 l_18)))
def Ai(n_0:Nat)(c_1:Nat)(i_2:Int)(i_3:Int)(i_4:Int)(n_5:Nat)(c_6:Nat)(i_7:Int)(i_8:Int)(b_9:Bool)(i_10:Int)(n_11:Nat)(l_12:List Int)(l_13:List Int)(l_14:List Int)(l_15:List (List Int))(l_16:List Int)(l_17:List Int)(l_18:List Int)(s_19:ByteArray)(b8:Bool) :az:=⟨an 164 [(0,.ptr 0 1 0 0),(1,.str s_19),(68,.bool false b8)],[(0,.vs [.sl 1 6 6 0 n_0 c_1,.int .i64 i_2,.int .i64 i_3,.int .i64 i_4,.sl 2 1 1 0 n_5 c_6,.int .i64 i_7,.int .u64 i_8,.bool false b_9,.int .i64 i_10]),(1,.cols n_11 [.ci .i64 l_12,.ci .i64 l_13,.ci .i64 l_14,.cns .u64 l_15,.ci .i64 l_16,.ci .u64 l_17]),(2,.ns .u64 l_18)],3⟩
def lG(i_3:Int)(i_4:Int)(i_10:Int) :T ((Bool)⊕((Unit)⊕(aa))) :=
  .ask (decide (i_10<i_3))
    (.leaf (.inl (decide (i_4>(0:Int)))))
    (.leaf (.inl false))
def er(n_0:Nat)(c_1:Nat)(i_2:Int)(i_3:Int)(i_4:Int)(n_5:Nat)(c_6:Nat)(i_7:Int)(i_8:Int)(b_9:Bool)(i_10:Int)(n_11:Nat)(l_12:List Int)(l_13:List Int)(l_14:List Int)(l_15:List (List Int))(l_16:List Int)(l_17:List Int)(l_18:List Int)(s_19:ByteArray)(b8:Bool) :T ((Unit)⊕((Unit)⊕(aa))) :=
  .ask b8
    (.alt 0
      (.need (cM s_19)<|.need (gT s_19.size)<|.need (fS ((n_5+(List.length (bd s_19)))*8) 140737488355328)<|.need (fS (n_5+(List.length (bd s_19))) 9223372036854775807)<|.need (fS (List.length (bd s_19)) (List.length (bd s_19)))<|.need (fS n_5 (List.length l_18))<|.need (fw .i64 (i_10+(1:Int)))<|.ask (0==(0:Int))
        (.leaf (.inr (.inr (.r2 ((((List.length (bd s_19)):Nat):Int)==i_4) n_0 c_1 i_2 i_3 i_4 (n_5+(List.length (bd s_19))) i_7 i_8 b_9 (i_10+(1:Int)) n_11 l_12 l_13 l_14 l_15 l_16 l_17 ((List.take n_5 l_18)++(List.take (List.length (bd s_19)) (bd s_19)))))))
        (.leaf (.inr (.inr (.r2 false n_0 c_1 i_2 i_3 i_4 (n_5+(List.length (bd s_19))) i_7 i_8 b_9 (i_10+(1:Int)) n_11 l_12 l_13 l_14 l_15 l_16 l_17 ((List.take n_5 l_18)++(List.take (List.length (bd s_19)) (bd s_19))))))))
      (.alt 1
        (.need (!cM s_19)<|.need (gT s_19.size)<|.need (fw .i64 (i_10+(1:Int)))<|.ask (4==(0:Int))
          (.leaf (.inr (.inr (.r0 ((0:Int)==i_4) n_0 c_1 i_2 i_3 i_4 n_5 c_6 i_7 i_8 b_9 (i_10+(1:Int)) n_11 l_12 l_13 l_14 l_15 l_16 l_17 l_18))))
          (.leaf (.inr (.inr (.r0 false n_0 c_1 i_2 i_3 i_4 n_5 c_6 i_7 i_8 b_9 (i_10+(1:Int)) n_11 l_12 l_13 l_14 l_15 l_16 l_17 l_18)))))
        (.fail)))
    (.leaf (.inl ()))
def yA:T ((Unit)⊕((Unit)⊕(aa))) :=
  .leaf (.inl ())
def Aj(n_0:Nat)(c_1:Nat)(i_2:Int)(i_3:Int)(i_4:Int)(n_5:Nat)(c_6:Nat)(i_7:Int)(i_8:Int)(b_9:Bool)(i_10:Int)(n_11:Nat)(l_12:List Int)(l_13:List Int)(l_14:List Int)(l_15:List (List Int))(l_16:List Int)(l_17:List Int)(l_18:List Int) :Nat×Int×Int×Int→az:=fun (e9,i10,i11,i12)=>⟨an 164 [(0,.ptr 0 1 0 0),(8,.ptr 3 1 0 0),(9,.int .i64 ((e9:Nat):Int))],[(0,.vs [.sl 1 6 6 0 n_0 c_1,.int .i64 i_2,.int .i64 i_3,.int .i64 i_4,.sl 2 1 1 0 n_5 c_6,.int .i64 i_7,.int .u64 i_8,.bool false b_9,.int .i64 i_10]),(1,.cols n_11 [.ci .i64 l_12,.ci .i64 l_13,.ci .i64 l_14,.cns .u64 l_15,.ci .i64 l_16,.ci .u64 l_17]),(2,.ns .u64 l_18),(3,.vs [.int .i64 i10,.int .i64 (0:Int),.int .i64 (0:Int),.nsl,.int .i64 i11,.int .u64 i12])],4⟩
def yB(s_19:ByteArray) :T ((Nat×Int×Int×Int)⊕(aa)) :=
  .need (eZ (bh s_19))<|.leaf (.inl ((fD (bh s_19)),(fE (bh s_19)),(fF (bh s_19)),(fG (bh s_19))))
def yC:T ((Empty)⊕(aa)) :=
  .fail
noncomputable def dY(n_0:Nat)(c_1:Nat)(i_2:Int)(i_3:Int)(i_4:Int)(n_5:Nat)(c_6:Nat)(i_7:Int)(i_8:Int)(b_9:Bool)(i_10:Int)(n_11:Nat)(l_12:List Int)(l_13:List Int)(l_14:List Int)(l_15:List (List Int))(l_16:List Int)(l_17:List Int)(l_18:List Int)(s_19:ByteArray) :Option aa:=ur (aT ((yv).run) fun _ =>
  aT (xb (aT ((yw b_9).run) fun b1 =>
  aT ((bif b1 then aT ((yx s_19).run) fun (w2,w3) =>
  aT ((yy n_0 c_1 i_2 i_3 i_4 n_5 c_6 i_7 i_8 b_9 i_10 n_11 l_12 l_13 l_14 l_15 l_16 l_17 l_18 s_19 w2 w3).run) fun (b4,i5,i6,b7) =>
  (yz n_0 c_1 n_11 l_12 l_13 l_14 l_15 l_16 l_17 l_18 b4 i5 i6 b7).run else aT ((lG i_3 i_4 i_10).run) fun b8 =>
  (er n_0 c_1 i_2 i_3 i_4 n_5 c_6 i_7 i_8 b_9 i_10 n_11 l_12 l_13 l_14 l_15 l_16 l_17 l_18 s_19 b8).run)) fun _ =>
  (yA).run)) fun _ =>
  aT ((yB s_19).run) fun (e9,i10,i11,i12) =>
  (yC).run)
theorem mE(n_0:Nat)(c_1:Nat)(i_2:Int)(i_3:Int)(i_4:Int)(n_5:Nat)(c_6:Nat)(i_7:Int)(i_8:Int)(b_9:Bool)(i_10:Int)(n_11:Nat)(l_12:List Int)(l_13:List Int)(l_14:List Int)(l_15:List (List Int))(l_16:List Int)(l_17:List Int)(l_18:List Int)(s_19:ByteArray){x:aa}(h:dY n_0 c_1 i_2 i_3 i_4 n_5 c_6 i_7 i_8 b_9 i_10 n_11 l_12 l_13 l_14 l_15 l_16 l_17 l_18 s_19=some x) :ak prog bZ [.vs [.sl 1 6 6 0 n_0 c_1,.int .i64 i_2,.int .i64 i_3,.int .i64 i_4,.sl 2 1 1 0 n_5 c_6,.int .i64 i_7,.int .u64 i_8,.bool false b_9,.int .i64 i_10],.cols n_11 [.ci .i64 l_12,.ci .i64 l_13,.ci .i64 l_14,.cns .u64 l_15,.ci .i64 l_16,.ci .u64 l_17],.ns .u64 l_18] [.ptr 0 1 0 0,.str s_19] (fk x) :=
  xc false fk nI h (Sg.cut 1 bM (cp ax (Ae n_0 c_1 i_2 i_3 i_4 n_5 c_6 i_7 i_8 b_9 i_10 n_11 l_12 l_13 l_14 l_15 l_16 l_17 l_18 s_19) [⟨[],[0,1,2],[0,1]⟩]) (fun _=>Sg.cut 1 bM (S5 (re n_0 c_1 i_2 i_3 i_4 n_5 c_6 i_7 i_8 b_9 i_10 n_11 l_12 l_13 l_14 l_15 l_16 l_17 l_18 s_19) 0 bM (Ad _) (Sg.cut 1 (cH bM) (cp ax (Af n_0 c_1 i_2 i_3 i_4 n_5 c_6 i_7 i_8 b_9 i_10 n_11 l_12 l_13 l_14 l_15 l_16 l_17 l_18 s_19) [⟨[],[0,1,2],[0,1,10]⟩]) (fun b1=>Sg.cut 1 (cH bM) (Ia (c:=.tmp 10) (kn:=false) (b:=b1) (by kernel_rfl:((lF.drop 1).take 1)=[.cond (.tmp 10) (PF ((((lF.drop 1).take 1)).headD .skip)) (PG ((((lF.drop 1).take 1)).headD .skip))]) (cH bM) (by kernel_rfl) (Sg.cut 1 (cH bM) (cp ax (Ag n_0 c_1 i_2 i_3 i_4 n_5 c_6 i_7 i_8 b_9 i_10 n_11 l_12 l_13 l_14 l_15 l_16 l_17 l_18 s_19) [⟨[],[0,1,2],[0,1,5]⟩]) (fun ⟨w2,w3⟩=>Sg.cut 4 (cH bM) (cp ax (Ah n_0 c_1 n_11 l_12 l_13 l_14 l_15 l_16 l_17 l_18) [⟨[],[0,1,2],[4]⟩,⟨[],[0,1,2],[4]⟩,⟨[],[0,1,2],[4]⟩,⟨[],[0,1,2],[4]⟩]) (fun ⟨b4,i5,i6,b7⟩=>cp ax (rf n_0 c_1 i_2 i_3 i_4 n_5 c_6 i_7 i_8 b_9 i_10 n_11 l_12 l_13 l_14 l_15 l_16 l_17 l_18 s_19) [⟨[],[0,1,2],[4]⟩]))) (Sg.cut 1 (cH bM) (cp ax (Ai n_0 c_1 i_2 i_3 i_4 n_5 c_6 i_7 i_8 b_9 i_10 n_11 l_12 l_13 l_14 l_15 l_16 l_17 l_18 s_19) [⟨[],[0,1,2],[0,1,68]⟩,⟨[],[0,1,2],[0,1,68]⟩]) (fun b8=>cp ax (rf n_0 c_1 i_2 i_3 i_4 n_5 c_6 i_7 i_8 b_9 i_10 n_11 l_12 l_13 l_14 l_15 l_16 l_17 l_18 s_19) [⟨[],[0,1,2,227],[4]⟩,⟨[],[0,1,2,227],[4]⟩,⟨[],[0,1,2],[4]⟩,⟨[],[0,1,2],[4]⟩,⟨[],[0,1,2],[0,1]⟩]))) (fun _=>cp ax (re n_0 c_1 i_2 i_3 i_4 n_5 c_6 i_7 i_8 b_9 i_10 n_11 l_12 l_13 l_14 l_15 l_16 l_17 l_18 s_19) [⟨[],[0,1,2],[0,1]⟩])))) (fun _=>Sg.cut 1 bM (cp ax (Aj n_0 c_1 i_2 i_3 i_4 n_5 c_6 i_7 i_8 b_9 i_10 n_11 l_12 l_13 l_14 l_15 l_16 l_17 l_18) [⟨[],[0,1,2,83],[0,8,9]⟩]) (fun ⟨e9,i10,i11,i12⟩=>cp ax uF []))))
    (fun x=>by cases x with | r0 b13 a14 a15 i17 i18 i19 a20 a21 i22 i23 b24 i25 a26 l27 l28 l29 l30 l31 l32 l33=>exact ra [.bool false b13] | r1 b34 a35 a36 i37 i38 b39 a40 l41 l42 l43 l44 l45 l46 l47=>exact ra [.bool false b34] | r2 b48 a49 a50 i51 i52 i53 a54 i55 i56 b57 i58 a59 l60 l61 l62 l63 l64 l65 l66=>exact ra [.bool false b48])
def gH:Option aa→Bool
  | some (.r0 _ _ _ _ _ _ _ _ _ _ _ _ _ _ _ _ _ _ _ _)=>true
  | _=>false
def dK:Option aa→Bool
  | some (.r0 x _ _ _ _ _ _ _ _ _ _ _ _ _ _ _ _ _ _ _)=>x
  | _=>false
def jG:Option aa→Nat
  | some (.r0 _ x _ _ _ _ _ _ _ _ _ _ _ _ _ _ _ _ _ _)=>x
  | _=>0
def jH:Option aa→Nat
  | some (.r0 _ _ x _ _ _ _ _ _ _ _ _ _ _ _ _ _ _ _ _)=>x
  | _=>0
def jI:Option aa→Int
  | some (.r0 _ _ _ x _ _ _ _ _ _ _ _ _ _ _ _ _ _ _ _)=>x
  | _=>0
def jJ:Option aa→Int
  | some (.r0 _ _ _ _ x _ _ _ _ _ _ _ _ _ _ _ _ _ _ _)=>x
  | _=>0
def jK:Option aa→Int
  | some (.r0 _ _ _ _ _ x _ _ _ _ _ _ _ _ _ _ _ _ _ _)=>x
  | _=>0
def jL:Option aa→Nat
  | some (.r0 _ _ _ _ _ _ x _ _ _ _ _ _ _ _ _ _ _ _ _)=>x
  | _=>0
def jM:Option aa→Nat
  | some (.r0 _ _ _ _ _ _ _ x _ _ _ _ _ _ _ _ _ _ _ _)=>x
  | _=>0
def jN:Option aa→Int
  | some (.r0 _ _ _ _ _ _ _ _ x _ _ _ _ _ _ _ _ _ _ _)=>x
  | _=>0
def jO:Option aa→Int
  | some (.r0 _ _ _ _ _ _ _ _ _ x _ _ _ _ _ _ _ _ _ _)=>x
  | _=>0
def hZ:Option aa→Bool
  | some (.r0 _ _ _ _ _ _ _ _ _ _ x _ _ _ _ _ _ _ _ _)=>x
  | _=>false
def ia:Option aa→Int
  | some (.r0 _ _ _ _ _ _ _ _ _ _ _ x _ _ _ _ _ _ _ _)=>x
  | _=>0
def ib:Option aa→Nat
  | some (.r0 _ _ _ _ _ _ _ _ _ _ _ _ x _ _ _ _ _ _ _)=>x
  | _=>0
def ic:Option aa→List Int
  | some (.r0 _ _ _ _ _ _ _ _ _ _ _ _ _ x _ _ _ _ _ _)=>x
  | _=>[]
def ig:Option aa→List Int
  | some (.r0 _ _ _ _ _ _ _ _ _ _ _ _ _ _ x _ _ _ _ _)=>x
  | _=>[]
def ii:Option aa→List Int
  | some (.r0 _ _ _ _ _ _ _ _ _ _ _ _ _ _ _ x _ _ _ _)=>x
  | _=>[]
def ij:Option aa→List (List Int)
  | some (.r0 _ _ _ _ _ _ _ _ _ _ _ _ _ _ _ _ x _ _ _)=>x
  | _=>[]
def ik:Option aa→List Int
  | some (.r0 _ _ _ _ _ _ _ _ _ _ _ _ _ _ _ _ _ x _ _)=>x
  | _=>[]
def il:Option aa→List Int
  | some (.r0 _ _ _ _ _ _ _ _ _ _ _ _ _ _ _ _ _ _ x _)=>x
  | _=>[]
def im:Option aa→List Int
  | some (.r0 _ _ _ _ _ _ _ _ _ _ _ _ _ _ _ _ _ _ _ x)=>x
  | _=>[]
theorem Ak{x:Option aa}(h:gH x=true) :x=some (.r0 (dK x) (jG x) (jH x) (jI x) (jJ x) (jK x) (jL x) (jM x) (jN x) (jO x) (hZ x) (ia x) (ib x) (ic x) (ig x) (ii x) (ij x) (ik x) (il x) (im x)):=by
  unfold gH at h
  split at h<;>first | rfl | (cases h;done) | (rename_i y;cases y;rfl)
def gI:Option aa→Bool
  | some (.r1 _ _ _ _ _ _ _ _ _ _ _ _ _ _)=>true
  | _=>false
def dL:Option aa→Bool
  | some (.r1 x _ _ _ _ _ _ _ _ _ _ _ _ _)=>x
  | _=>false
def jP:Option aa→Nat
  | some (.r1 _ x _ _ _ _ _ _ _ _ _ _ _ _)=>x
  | _=>0
def jQ:Option aa→Nat
  | some (.r1 _ _ x _ _ _ _ _ _ _ _ _ _ _)=>x
  | _=>0
def jR:Option aa→Int
  | some (.r1 _ _ _ x _ _ _ _ _ _ _ _ _ _)=>x
  | _=>0
def jS:Option aa→Int
  | some (.r1 _ _ _ _ x _ _ _ _ _ _ _ _ _)=>x
  | _=>0
def jT:Option aa→Bool
  | some (.r1 _ _ _ _ _ x _ _ _ _ _ _ _ _)=>x
  | _=>false
def jU:Option aa→Nat
  | some (.r1 _ _ _ _ _ _ x _ _ _ _ _ _ _)=>x
  | _=>0
def jV:Option aa→List Int
  | some (.r1 _ _ _ _ _ _ _ x _ _ _ _ _ _)=>x
  | _=>[]
def jW:Option aa→List Int
  | some (.r1 _ _ _ _ _ _ _ _ x _ _ _ _ _)=>x
  | _=>[]
def jX:Option aa→List Int
  | some (.r1 _ _ _ _ _ _ _ _ _ x _ _ _ _)=>x
  | _=>[]
def io:Option aa→List (List Int)
  | some (.r1 _ _ _ _ _ _ _ _ _ _ x _ _ _)=>x
  | _=>[]
def ip:Option aa→List Int
  | some (.r1 _ _ _ _ _ _ _ _ _ _ _ x _ _)=>x
  | _=>[]
def iq:Option aa→List Int
  | some (.r1 _ _ _ _ _ _ _ _ _ _ _ _ x _)=>x
  | _=>[]
def oH:Option aa→List Int
  | some (.r1 _ _ _ _ _ _ _ _ _ _ _ _ _ x)=>x
  | _=>[]
theorem Al{x:Option aa}(h:gI x=true) :x=some (.r1 (dL x) (jP x) (jQ x) (jR x) (jS x) (jT x) (jU x) (jV x) (jW x) (jX x) (io x) (ip x) (iq x) (oH x)):=by
  unfold gI at h
  split at h<;>first | rfl | (cases h;done) | (rename_i y;cases y;rfl)
def gJ:Option aa→Bool
  | some (.r2 _ _ _ _ _ _ _ _ _ _ _ _ _ _ _ _ _ _ _)=>true
  | _=>false
def dM:Option aa→Bool
  | some (.r2 x _ _ _ _ _ _ _ _ _ _ _ _ _ _ _ _ _ _)=>x
  | _=>false
def jY:Option aa→Nat
  | some (.r2 _ x _ _ _ _ _ _ _ _ _ _ _ _ _ _ _ _ _)=>x
  | _=>0
def jZ:Option aa→Nat
  | some (.r2 _ _ x _ _ _ _ _ _ _ _ _ _ _ _ _ _ _ _)=>x
  | _=>0
def ka:Option aa→Int
  | some (.r2 _ _ _ x _ _ _ _ _ _ _ _ _ _ _ _ _ _ _)=>x
  | _=>0
def kb:Option aa→Int
  | some (.r2 _ _ _ _ x _ _ _ _ _ _ _ _ _ _ _ _ _ _)=>x
  | _=>0
def ke:Option aa→Int
  | some (.r2 _ _ _ _ _ x _ _ _ _ _ _ _ _ _ _ _ _ _)=>x
  | _=>0
def eV:Option aa→Nat
  | some (.r2 _ _ _ _ _ _ x _ _ _ _ _ _ _ _ _ _ _ _)=>x
  | _=>0
def kf:Option aa→Int
  | some (.r2 _ _ _ _ _ _ _ x _ _ _ _ _ _ _ _ _ _ _)=>x
  | _=>0
def kg:Option aa→Int
  | some (.r2 _ _ _ _ _ _ _ _ x _ _ _ _ _ _ _ _ _ _)=>x
  | _=>0
def kh:Option aa→Bool
  | some (.r2 _ _ _ _ _ _ _ _ _ x _ _ _ _ _ _ _ _ _)=>x
  | _=>false
def ir:Option aa→Int
  | some (.r2 _ _ _ _ _ _ _ _ _ _ x _ _ _ _ _ _ _ _)=>x
  | _=>0
def iu:Option aa→Nat
  | some (.r2 _ _ _ _ _ _ _ _ _ _ _ x _ _ _ _ _ _ _)=>x
  | _=>0
def iv:Option aa→List Int
  | some (.r2 _ _ _ _ _ _ _ _ _ _ _ _ x _ _ _ _ _ _)=>x
  | _=>[]
def iw:Option aa→List Int
  | some (.r2 _ _ _ _ _ _ _ _ _ _ _ _ _ x _ _ _ _ _)=>x
  | _=>[]
def iy:Option aa→List Int
  | some (.r2 _ _ _ _ _ _ _ _ _ _ _ _ _ _ x _ _ _ _)=>x
  | _=>[]
def iz:Option aa→List (List Int)
  | some (.r2 _ _ _ _ _ _ _ _ _ _ _ _ _ _ _ x _ _ _)=>x
  | _=>[]
def iA:Option aa→List Int
  | some (.r2 _ _ _ _ _ _ _ _ _ _ _ _ _ _ _ _ x _ _)=>x
  | _=>[]
def iB:Option aa→List Int
  | some (.r2 _ _ _ _ _ _ _ _ _ _ _ _ _ _ _ _ _ x _)=>x
  | _=>[]
def iC:Option aa→List Int
  | some (.r2 _ _ _ _ _ _ _ _ _ _ _ _ _ _ _ _ _ _ x)=>x
  | _=>[]
theorem Am{x:Option aa}(h:gJ x=true) :x=some (.r2 (dM x) (jY x) (jZ x) (ka x) (kb x) (ke x) (eV x) (kf x) (kg x) (kh x) (ir x) (iu x) (iv x) (iw x) (iy x) (iz x) (iA x) (iB x) (iC x)):=by
  unfold gJ at h
  split at h<;>first | rfl | (cases h;done) | (rename_i y;cases y;rfl)
def pt(q:Option aa)(pre:List Bool) :List sX:=[⟨fk (.r0 (dK q) (jG q) (jH q) (jI q) (jJ q) (jK q) (jL q) (jM q) (jN q) (jO q) (hZ q) (ia q) (ib q) (ic q) (ig q) (ii q) (ij q) (ik q) (il q) (im q)),pre++[gH q]⟩,
  ⟨fk (.r1 (dL q) (jP q) (jQ q) (jR q) (jS q) (jT q) (jU q) (jV q) (jW q) (jX q) (io q) (ip q) (iq q) (oH q)),pre++[gI q]⟩,
  ⟨fk (.r2 (dM q) (jY q) (jZ q) (ka q) (kb q) (ke q) (eV q) (kf q) (kg q) (kh q) (ir q) (iu q) (iv q) (iw q) (iy q) (iz q) (iA q) (iB q) (iC q)),pre++[gJ q]⟩]
inductive ac where
  | r0 (b22:Bool) (a23:Nat) (a24:Nat) (i25:Int) (i26:Int) (i27:Int) (l28:List Int) (a29:Nat) (i30:Int) (i31:Int) (b32:Bool) (i33:Int) (a34:Nat) (l35:List Int) (l36:List Int) (l37:List Int) (l38:List (List Int)) (l39:List Int) (l40:List Int)
  | r1 (b41:Bool) (a42:Nat) (a43:Nat) (i44:Int) (i45:Int) (b46:Bool) (a47:Nat) (l48:List Int) (l49:List Int) (l50:List Int) (l51:List (List Int)) (l52:List Int) (l53:List Int)
  | r2 (b54:Bool) (a55:Nat) (i56:Int) (i57:Int) (i58:Int) (l59:List Int) (a60:Nat) (i61:Int) (i62:Int) (b63:Bool) (i65:Int) (l66:List Int) (l67:List Int) (l68:List Int) (l69:List (List Int)) (l70:List Int) (l71:List Int)
def nJ:ac→AE×az
  | .r0 b22 a23 a24 i25 i26 i27 l28 a29 i30 i31 b32 i33 a34 l35 l36 l37 l38 l39 l40=>(.ret,⟨an 164 [(4,.bool false b22)],[(0,.vs [.sl 1 6 6 0 a23 a24,.int .i64 i25,.int .i64 i26,.int .i64 i27,.imm (.up .free) (.ns .u64 l28) 1 1 0 a29,.int .i64 i30,.int .u64 i31,.bool false b32,.int .i64 i33]),(1,.cols a34 [.ci .i64 l35,.ci .i64 l36,.ci .i64 l37,.cns .u64 l38,.ci .i64 l39,.ci .u64 l40])],2⟩)
  | .r1 b41 a42 a43 i44 i45 b46 a47 l48 l49 l50 l51 l52 l53=>(.ret,⟨an 164 [(4,.bool false b41)],[(0,.vs [.sl 1 6 6 0 a42 a43,.int .i64 (0:Int),.int .i64 i44,.int .i64 i45,.nsl,.int .i64 (0:Int),.int .u64 (0:Int),.bool false b46,.int .i64 (0:Int)]),(1,.cols a47 [.ci .i64 l48,.ci .i64 l49,.ci .i64 l50,.cns .u64 l51,.ci .i64 l52,.ci .u64 l53])],2⟩)
  | .r2 b54 a55 i56 i57 i58 l59 a60 i61 i62 b63 i65 l66 l67 l68 l69 l70 l71=>(.ret,⟨an 164 [(4,.bool false b54)],[(0,.vs [.sl 2 6 6 0 a55 a55,.int .i64 i56,.int .i64 i57,.int .i64 i58,.imm (.up .free) (.ns .u64 l59) 1 1 0 a60,.int .i64 i61,.int .u64 i62,.bool false b63,.int .i64 i65]),(2,.cols a55 [.ci .i64 l66,.ci .i64 l67,.ci .i64 l68,.cns .u64 l69,.ci .i64 l70,.ci .u64 l71])],3⟩)
theorem bD:qZ nJ:=by intro x;cases x<;>(intro h;cases h)
theorem An(id:Nat) :pF id nJ:=by intro x;cases x<;>(intro h;cases h)
def fm:ac→mW
  | .r0 b22 a23 a24 i25 i26 i27 l28 a29 i30 i31 b32 i33 a34 l35 l36 l37 l38 l39 l40=>⟨.bool false b22,[some (.vs [.sl 1 6 6 0 a23 a24,.int .i64 i25,.int .i64 i26,.int .i64 i27,.imm (.up .free) (.ns .u64 l28) 1 1 0 a29,.int .i64 i30,.int .u64 i31,.bool false b32,.int .i64 i33]),some (.cols a34 [.ci .i64 l35,.ci .i64 l36,.ci .i64 l37,.cns .u64 l38,.ci .i64 l39,.ci .u64 l40])]⟩
  | .r1 b41 a42 a43 i44 i45 b46 a47 l48 l49 l50 l51 l52 l53=>⟨.bool false b41,[some (.vs [.sl 1 6 6 0 a42 a43,.int .i64 (0:Int),.int .i64 i44,.int .i64 i45,.nsl,.int .i64 (0:Int),.int .u64 (0:Int),.bool false b46,.int .i64 (0:Int)]),some (.cols a47 [.ci .i64 l48,.ci .i64 l49,.ci .i64 l50,.cns .u64 l51,.ci .i64 l52,.ci .u64 l53])]⟩
  | .r2 b54 a55 i56 i57 i58 l59 a60 i61 i62 b63 i65 l66 l67 l68 l69 l70 l71=>⟨.bool false b54,[some (.vs [.sl 2 6 6 0 a55 a55,.int .i64 i56,.int .i64 i57,.int .i64 i58,.imm (.up .free) (.ns .u64 l59) 1 1 0 a60,.int .i64 i61,.int .u64 i62,.bool false b63,.int .i64 i65]),none,some (.cols a55 [.ci .i64 l66,.ci .i64 l67,.ci .i64 l68,.cns .u64 l69,.ci .i64 l70,.ci .u64 l71])]⟩
noncomputable def yD:List Code:=cN (qI bZ)
def Ao(n_0:Nat)(c_1:Nat)(i_2:Int)(i_3:Int)(i_4:Int)(w_5:List Int)(i_6:Int)(i_7:Int)(b_8:Bool)(i_9:Int)(n_10:Nat)(l_11:List Int)(l_12:List Int)(l_13:List Int)(l_14:List (List Int))(l_15:List Int)(l_16:List Int)(s_17:ByteArray)(_:Unit) :az:=⟨an 164 [(0,.ptr 0 1 0 0),(1,.str s_17)],[(0,.vs [.sl 1 6 6 0 n_0 c_1,.int .i64 i_2,.int .i64 i_3,.int .i64 i_4,.imm (.up .free) (.ns .u64 w_5) 1 1 0 (List.length w_5),.int .i64 i_6,.int .u64 i_7,.bool false b_8,.int .i64 i_9]),(1,.cols n_10 [.ci .i64 l_11,.ci .i64 l_12,.ci .i64 l_13,.cns .u64 l_14,.ci .i64 l_15,.ci .u64 l_16])],2⟩
def yE:T ((Unit)⊕(ac)) :=
  .leaf (.inl ())
def rg(n_0:Nat)(c_1:Nat)(i_2:Int)(i_3:Int)(i_4:Int)(w_5:List Int)(i_6:Int)(i_7:Int)(b_8:Bool)(i_9:Int)(n_10:Nat)(l_11:List Int)(l_12:List Int)(l_13:List Int)(l_14:List (List Int))(l_15:List Int)(l_16:List Int)(s_17:ByteArray)(_:Unit) :az:=⟨an 164 [(0,.ptr 0 1 0 0),(1,.str s_17)],[(0,.vs [.sl 1 6 6 0 n_0 c_1,.int .i64 i_2,.int .i64 i_3,.int .i64 i_4,.imm (.up .free) (.ns .u64 w_5) 1 1 0 (List.length w_5),.int .i64 i_6,.int .u64 i_7,.bool false b_8,.int .i64 i_9]),(1,.cols n_10 [.ci .i64 l_11,.ci .i64 l_12,.ci .i64 l_13,.cns .u64 l_14,.ci .i64 l_15,.ci .u64 l_16])],2⟩
noncomputable def lH:List Code:=cN (inBlock ((((yD.drop 1).take 1)).headD .skip))
def Ap(n_0:Nat)(c_1:Nat)(i_2:Int)(i_3:Int)(i_4:Int)(w_5:List Int)(i_6:Int)(i_7:Int)(b_8:Bool)(i_9:Int)(n_10:Nat)(l_11:List Int)(l_12:List Int)(l_13:List Int)(l_14:List (List Int))(l_15:List Int)(l_16:List Int)(s_17:ByteArray)(b1:Bool) :az:=⟨an 164 [(0,.ptr 0 1 0 0),(1,.str s_17),(10,.bool false b1)],[(0,.vs [.sl 1 6 6 0 n_0 c_1,.int .i64 i_2,.int .i64 i_3,.int .i64 i_4,.imm (.up .free) (.ns .u64 w_5) 1 1 0 (List.length w_5),.int .i64 i_6,.int .u64 i_7,.bool false b_8,.int .i64 i_9]),(1,.cols n_10 [.ci .i64 l_11,.ci .i64 l_12,.ci .i64 l_13,.cns .u64 l_14,.ci .i64 l_15,.ci .u64 l_16])],2⟩
def yF(b_8:Bool) :T ((Bool)⊕((Unit)⊕(ac))) :=
  .leaf (.inl (!b_8))
def rh(n_0:Nat)(c_1:Nat)(i_2:Int)(i_3:Int)(i_4:Int)(w_5:List Int)(i_6:Int)(i_7:Int)(b_8:Bool)(i_9:Int)(n_10:Nat)(l_11:List Int)(l_12:List Int)(l_13:List Int)(l_14:List (List Int))(l_15:List Int)(l_16:List Int)(s_17:ByteArray)(_:Unit) :az:=⟨an 164 [(0,.ptr 0 1 0 0),(1,.str s_17)],[(0,.vs [.sl 1 6 6 0 n_0 c_1,.int .i64 i_2,.int .i64 i_3,.int .i64 i_4,.imm (.up .free) (.ns .u64 w_5) 1 1 0 (List.length w_5),.int .i64 i_6,.int .u64 i_7,.bool false b_8,.int .i64 i_9]),(1,.cols n_10 [.ci .i64 l_11,.ci .i64 l_12,.ci .i64 l_13,.cns .u64 l_14,.ci .i64 l_15,.ci .u64 l_16])],2⟩
def Aq(n_0:Nat)(c_1:Nat)(i_2:Int)(i_3:Int)(i_4:Int)(w_5:List Int)(i_6:Int)(i_7:Int)(b_8:Bool)(i_9:Int)(n_10:Nat)(l_11:List Int)(l_12:List Int)(l_13:List Int)(l_14:List (List Int))(l_15:List Int)(l_16:List Int)(s_17:ByteArray) :(List ByteArray)×Nat→az:=fun (w2,w3)=>⟨an 164 [(0,.ptr 0 1 0 0),(1,.str s_17),(5,.imm .free (.ss w2) 1 1 0 w3)],[(0,.vs [.sl 1 6 6 0 n_0 c_1,.int .i64 i_2,.int .i64 i_3,.int .i64 i_4,.imm (.up .free) (.ns .u64 w_5) 1 1 0 (List.length w_5),.int .i64 i_6,.int .u64 i_7,.bool false b_8,.int .i64 i_9]),(1,.cols n_10 [.ci .i64 l_11,.ci .i64 l_12,.ci .i64 l_13,.cns .u64 l_14,.ci .i64 l_15,.ci .u64 l_16])],2⟩
def lI(s_17:ByteArray) :T (((List ByteArray)×Nat)⊕((Unit)⊕(ac))) :=
  .need (fj (cn s_17 (ByteArray.mk #[32])))<|.leaf (.inl ((fL (cn s_17 (ByteArray.mk #[32]))),(fK (cn s_17 (ByteArray.mk #[32])))))
def Ar(n_0:Nat)(c_1:Nat)(n_10:Nat)(l_11:List Int)(l_12:List Int)(l_13:List Int)(l_14:List (List Int))(l_15:List Int)(l_16:List Int) :Bool×Int×Int×Bool→az:=fun (b4,i5,i6,b7)=>⟨an 164 [(4,.bool false b4)],[(0,.vs [.sl 1 6 6 0 n_0 c_1,.int .i64 (0:Int),.int .i64 i5,.int .i64 i6,.nsl,.int .i64 (0:Int),.int .u64 (0:Int),.bool false b7,.int .i64 (0:Int)]),(1,.cols n_10 [.ci .i64 l_11,.ci .i64 l_12,.ci .i64 l_13,.cns .u64 l_14,.ci .i64 l_15,.ci .u64 l_16])],2⟩
def fM(n_0:Nat)(c_1:Nat)(i_2:Int)(i_3:Int)(i_4:Int)(w_5:List Int)(i_6:Int)(i_7:Int)(b_8:Bool)(i_9:Int)(n_10:Nat)(l_11:List Int)(l_12:List Int)(l_13:List Int)(l_14:List (List Int))(l_15:List Int)(l_16:List Int)(s_17:ByteArray)(w2:List ByteArray)(w3:Nat) :T ((Bool×Int×Int×Bool)⊕((Unit)⊕(ac))) :=
  .ask (((w3:Nat):Int) != (3:Int))
    (.leaf (.inr (.inr (.r0 false n_0 c_1 i_2 i_3 i_4 w_5 (List.length w_5) i_6 i_7 b_8 i_9 n_10 l_11 l_12 l_13 l_14 l_15 l_16))))
    (.need (oK (1:Int) w3)<|.need (gO 1 (List.length w2))<|.need (gT (List.getD w2 1 ByteArray.empty).size)<|.need (oK (2:Int) w3)<|.need (gO 2 (List.length w2))<|.need (gT (List.getD w2 2 ByteArray.empty).size)<|.need (en (co (db (List.getD w2 1 ByteArray.empty))))<|.ask (dX (co (db (List.getD w2 1 ByteArray.empty))))
      (.need (en (co (db (List.getD w2 2 ByteArray.empty))))<|.ask (dX (co (db (List.getD w2 2 ByteArray.empty))))
        (.need (gV (dV (db (List.getD w2 1 ByteArray.empty)) (db (List.getD w2 2 ByteArray.empty))))<|.leaf (.inl (((je (dV (db (List.getD w2 1 ByteArray.empty)) (db (List.getD w2 2 ByteArray.empty)))).toList==s_17.toList),(db (List.getD w2 1 ByteArray.empty)),(db (List.getD w2 2 ByteArray.empty)),true)))
        (.leaf (.inl (false,(db (List.getD w2 1 ByteArray.empty)),(db (List.getD w2 2 ByteArray.empty)),true))))
      (.leaf (.inl (false,(db (List.getD w2 1 ByteArray.empty)),(db (List.getD w2 2 ByteArray.empty)),true))))
def yG(n_0:Nat)(c_1:Nat)(n_10:Nat)(l_11:List Int)(l_12:List Int)(l_13:List Int)(l_14:List (List Int))(l_15:List Int)(l_16:List Int)(b4:Bool)(i5:Int)(i6:Int)(b7:Bool) :T ((Unit)⊕((Unit)⊕(ac))) :=
  .leaf (.inr (.inr (.r1 b4 n_0 c_1 i5 i6 b7 n_10 l_11 l_12 l_13 l_14 l_15 l_16)))
def As(n_0:Nat)(c_1:Nat)(i_2:Int)(i_3:Int)(i_4:Int)(w_5:List Int)(i_6:Int)(i_7:Int)(b_8:Bool)(i_9:Int)(n_10:Nat)(l_11:List Int)(l_12:List Int)(l_13:List Int)(l_14:List (List Int))(l_15:List Int)(l_16:List Int)(s_17:ByteArray)(b8:Bool) :az:=⟨an 164 [(0,.ptr 0 1 0 0),(1,.str s_17),(68,.bool false b8)],[(0,.vs [.sl 1 6 6 0 n_0 c_1,.int .i64 i_2,.int .i64 i_3,.int .i64 i_4,.imm (.up .free) (.ns .u64 w_5) 1 1 0 (List.length w_5),.int .i64 i_6,.int .u64 i_7,.bool false b_8,.int .i64 i_9]),(1,.cols n_10 [.ci .i64 l_11,.ci .i64 l_12,.ci .i64 l_13,.cns .u64 l_14,.ci .i64 l_15,.ci .u64 l_16])],2⟩
def lJ(i_3:Int)(i_4:Int)(i_9:Int) :T ((Bool)⊕((Unit)⊕(ac))) :=
  .ask (decide (i_9<i_3))
    (.leaf (.inl (decide (i_4>(0:Int)))))
    (.leaf (.inl false))
def yH(s_17:ByteArray)(b8:Bool) :T ((Unit)⊕((Unit)⊕(ac))) :=
  .ask b8
    (.alt 0
      (.need (cM s_17)<|.need (gT s_17.size)<|.fail)
      (.alt 1
        (.need (!cM s_17)<|.need (gT s_17.size)<|.fail)
        (.fail)))
    (.leaf (.inl ()))
def yI:T ((Unit)⊕((Unit)⊕(ac))) :=
  .leaf (.inl ())
def Au(n_0:Nat)(c_1:Nat)(i_2:Int)(i_3:Int)(i_4:Int)(w_5:List Int)(i_6:Int)(i_7:Int)(b_8:Bool)(i_9:Int)(n_10:Nat)(l_11:List Int)(l_12:List Int)(l_13:List Int)(l_14:List (List Int))(l_15:List Int)(l_16:List Int) :Nat×Int×Int×Int→az:=fun (e9,i10,i11,i12)=>⟨an 164 [(0,.ptr 0 1 0 0),(8,.ptr 2 1 0 0),(9,.int .i64 ((e9:Nat):Int))],[(0,.vs [.sl 1 6 6 0 n_0 c_1,.int .i64 i_2,.int .i64 i_3,.int .i64 i_4,.imm (.up .free) (.ns .u64 w_5) 1 1 0 (List.length w_5),.int .i64 i_6,.int .u64 i_7,.bool false b_8,.int .i64 i_9]),(1,.cols n_10 [.ci .i64 l_11,.ci .i64 l_12,.ci .i64 l_13,.cns .u64 l_14,.ci .i64 l_15,.ci .u64 l_16]),(2,.vs [.int .i64 i10,.int .i64 (0:Int),.int .i64 (0:Int),.nsl,.int .i64 i11,.int .u64 i12])],3⟩
def lK(s_17:ByteArray) :T ((Nat×Int×Int×Int)⊕(ac)) :=
  .need (eZ (bh s_17))<|.leaf (.inl ((fD (bh s_17)),(fE (bh s_17)),(fF (bh s_17)),(fG (bh s_17))))
def yJ(i_2:Int)(i_3:Int)(i_4:Int)(w_5:List Int)(i_6:Int)(i_7:Int)(i_9:Int) :Bool×Nat×Bool×(List Int)×(List Int)×(List Int)×(List (List Int))×(List Int)×(List Int)→az:=fun (b13,a14,b15,l16,l17,l18,l19,l20,l21)=>⟨an 164 [(4,.bool false b13)],[(0,.vs [.sl 2 6 6 0 a14 a14,.int .i64 i_2,.int .i64 i_3,.int .i64 i_4,.imm (.up .free) (.ns .u64 w_5) 1 1 0 (List.length w_5),.int .i64 i_6,.int .u64 i_7,.bool false b15,.int .i64 i_9]),(2,.cols a14 [.ci .i64 l16,.ci .i64 l17,.ci .i64 l18,.cns .u64 l19,.ci .i64 l20,.ci .u64 l21])],3⟩
def lL(n_0:Nat)(i_3:Int)(i_4:Int)(w_5:List Int)(n_10:Nat)(l_11:List Int)(l_12:List Int)(l_13:List Int)(l_14:List (List Int))(l_15:List Int)(l_16:List Int)(e9:Nat)(i10:Int)(i11:Int)(i12:Int) :T ((Bool×Nat×Bool×(List Int)×(List Int)×(List Int)×(List (List Int))×(List Int)×(List Int))⊕(ac)) :=
  .need (fS ((n_0+1)*64) 140737488355328)<|.need (fS (n_0+1) 9223372036854775807)<|.need (fS 6 6)<|.need (fS n_0 n_10)<|.need (decide (0+(List.length w_5)≤List.length w_5))<|.ask (((e9:Nat):Int)==(0:Int))
    (.need (se 0 (List.length w_5) w_5)<|.need (nV (mn i10 i_3 i_4 (dq 0 (List.length w_5) w_5) i11 i12))<|.leaf (.inl ((oR (mn i10 i_3 i_4 (dq 0 (List.length w_5) w_5) i11 i12)),(n_0+1),false,((List.take n_0 l_11)++[i10]),((List.take n_0 l_12)++[i_3]),((List.take n_0 l_13)++[i_4]),((List.take n_0 l_14)++[(List.take (List.length w_5) (List.drop 0 w_5))]),((List.take n_0 l_15)++[i11]),((List.take n_0 l_16)++[i12]))))
    (.leaf (.inl (false,(n_0+1),false,((List.take n_0 l_11)++[i10]),((List.take n_0 l_12)++[i_3]),((List.take n_0 l_13)++[i_4]),((List.take n_0 l_14)++[(List.take (List.length w_5) (List.drop 0 w_5))]),((List.take n_0 l_15)++[i11]),((List.take n_0 l_16)++[i12]))))
def yK(i_2:Int)(i_3:Int)(i_4:Int)(w_5:List Int)(i_6:Int)(i_7:Int)(i_9:Int)(b13:Bool)(a14:Nat)(b15:Bool)(l16:List Int)(l17:List Int)(l18:List Int)(l19:List (List Int))(l20:List Int)(l21:List Int) :T ((Empty)⊕(ac)) :=
  .leaf (.inr (.r2 b13 a14 i_2 i_3 i_4 w_5 (List.length w_5) i_6 i_7 b15 i_9 l16 l17 l18 l19 l20 l21))
noncomputable def bU(n_0:Nat)(c_1:Nat)(i_2:Int)(i_3:Int)(i_4:Int)(w_5:List Int)(i_6:Int)(i_7:Int)(b_8:Bool)(i_9:Int)(n_10:Nat)(l_11:List Int)(l_12:List Int)(l_13:List Int)(l_14:List (List Int))(l_15:List Int)(l_16:List Int)(s_17:ByteArray) :Option ac:=ur (aT ((yE).run) fun _ =>
  aT (xb (aT ((yF b_8).run) fun b1 =>
  aT ((bif b1 then aT ((lI s_17).run) fun (w2,w3) =>
  aT ((fM n_0 c_1 i_2 i_3 i_4 w_5 i_6 i_7 b_8 i_9 n_10 l_11 l_12 l_13 l_14 l_15 l_16 s_17 w2 w3).run) fun (b4,i5,i6,b7) =>
  (yG n_0 c_1 n_10 l_11 l_12 l_13 l_14 l_15 l_16 b4 i5 i6 b7).run else aT ((lJ i_3 i_4 i_9).run) fun b8 =>
  (yH s_17 b8).run)) fun _ =>
  (yI).run)) fun _ =>
  aT ((lK s_17).run) fun (e9,i10,i11,i12) =>
  aT ((lL n_0 i_3 i_4 w_5 n_10 l_11 l_12 l_13 l_14 l_15 l_16 e9 i10 i11 i12).run) fun (b13,a14,b15,l16,l17,l18,l19,l20,l21) =>
  (yK i_2 i_3 i_4 w_5 i_6 i_7 i_9 b13 a14 b15 l16 l17 l18 l19 l20 l21).run)
theorem mF(n_0:Nat)(c_1:Nat)(i_2:Int)(i_3:Int)(i_4:Int)(w_5:List Int)(i_6:Int)(i_7:Int)(b_8:Bool)(i_9:Int)(n_10:Nat)(l_11:List Int)(l_12:List Int)(l_13:List Int)(l_14:List (List Int))(l_15:List Int)(l_16:List Int)(s_17:ByteArray){x:ac}(h:bU n_0 c_1 i_2 i_3 i_4 w_5 i_6 i_7 b_8 i_9 n_10 l_11 l_12 l_13 l_14 l_15 l_16 s_17=some x) :ak prog bZ [.vs [.sl 1 6 6 0 n_0 c_1,.int .i64 i_2,.int .i64 i_3,.int .i64 i_4,.imm (.up .free) (.ns .u64 w_5) 1 1 0 (List.length w_5),.int .i64 i_6,.int .u64 i_7,.bool false b_8,.int .i64 i_9],.cols n_10 [.ci .i64 l_11,.ci .i64 l_12,.ci .i64 l_13,.cns .u64 l_14,.ci .i64 l_15,.ci .u64 l_16]] [.ptr 0 1 0 0,.str s_17] (fm x) :=
  xc false fm nJ h (Sg.cut 1 bD (cp ax (Ao n_0 c_1 i_2 i_3 i_4 w_5 i_6 i_7 b_8 i_9 n_10 l_11 l_12 l_13 l_14 l_15 l_16 s_17) [⟨[],[0,1],[0,1]⟩]) (fun _=>Sg.cut 1 bD (S5 (rg n_0 c_1 i_2 i_3 i_4 w_5 i_6 i_7 b_8 i_9 n_10 l_11 l_12 l_13 l_14 l_15 l_16 s_17) 0 bD (An _) (Sg.cut 1 (cH bD) (cp ax (Ap n_0 c_1 i_2 i_3 i_4 w_5 i_6 i_7 b_8 i_9 n_10 l_11 l_12 l_13 l_14 l_15 l_16 s_17) [⟨[],[0,1],[0,1,10]⟩]) (fun b1=>Sg.cut 1 (cH bD) (Ia (c:=.tmp 10) (kn:=false) (b:=b1) (by kernel_rfl:((lH.drop 1).take 1)=[.cond (.tmp 10) (PF ((((lH.drop 1).take 1)).headD .skip)) (PG ((((lH.drop 1).take 1)).headD .skip))]) (cH bD) (by kernel_rfl) (Sg.cut 1 (cH bD) (cp ax (Aq n_0 c_1 i_2 i_3 i_4 w_5 i_6 i_7 b_8 i_9 n_10 l_11 l_12 l_13 l_14 l_15 l_16 s_17) [⟨[],[0,1],[0,1,5]⟩]) (fun ⟨w2,w3⟩=>Sg.cut 4 (cH bD) (cp ax (Ar n_0 c_1 n_10 l_11 l_12 l_13 l_14 l_15 l_16) [⟨[],[0,1],[4]⟩,⟨[],[0,1],[4]⟩,⟨[],[0,1],[4]⟩,⟨[],[0,1],[4]⟩]) (fun ⟨b4,i5,i6,b7⟩=>cp ax (rh n_0 c_1 i_2 i_3 i_4 w_5 i_6 i_7 b_8 i_9 n_10 l_11 l_12 l_13 l_14 l_15 l_16 s_17) [⟨[],[0,1],[4]⟩]))) (Sg.cut 1 (cH bD) (cp ax (As n_0 c_1 i_2 i_3 i_4 w_5 i_6 i_7 b_8 i_9 n_10 l_11 l_12 l_13 l_14 l_15 l_16 s_17) [⟨[],[0,1],[0,1,68]⟩,⟨[],[0,1],[0,1,68]⟩]) (fun b8=>cp ax (rh n_0 c_1 i_2 i_3 i_4 w_5 i_6 i_7 b_8 i_9 n_10 l_11 l_12 l_13 l_14 l_15 l_16 s_17) [⟨[],[0,1],[0,1]⟩]))) (fun _=>cp ax (rg n_0 c_1 i_2 i_3 i_4 w_5 i_6 i_7 b_8 i_9 n_10 l_11 l_12 l_13 l_14 l_15 l_16 s_17) [⟨[],[0,1],[0,1]⟩])))) (fun _=>Sg.cut 1 bD (cp ax (Au n_0 c_1 i_2 i_3 i_4 w_5 i_6 i_7 b_8 i_9 n_10 l_11 l_12 l_13 l_14 l_15 l_16) [⟨[],[0,1,82],[0,8,9]⟩]) (fun ⟨e9,i10,i11,i12⟩=>Sg.cut 3 bD (cp ax (yJ i_2 i_3 i_4 w_5 i_6 i_7 i_9) [⟨[],[0,1,467],[4]⟩,⟨[],[0,1,467],[4]⟩]) (fun ⟨b13,a14,b15,l16,l17,l18,l19,l20,l21⟩=>cp ax uF [⟨[],[0,1,2],[4]⟩])))))
    (fun x=>by cases x with | r0 b22 a23 a24 i25 i26 i27 l28 a29 i30 i31 b32 i33 a34 l35 l36 l37 l38 l39 l40=>exact ra [.bool false b22] | r1 b41 a42 a43 i44 i45 b46 a47 l48 l49 l50 l51 l52 l53=>exact ra [.bool false b41] | r2 b54 a55 i56 i57 i58 l59 a60 i61 i62 b63 i65 l66 l67 l68 l69 l70 l71=>exact ra [.bool false b54])
def gK:Option ac→Bool
  | some (.r0 _ _ _ _ _ _ _ _ _ _ _ _ _ _ _ _ _ _ _)=>true
  | _=>false
def dN:Option ac→Bool
  | some (.r0 x _ _ _ _ _ _ _ _ _ _ _ _ _ _ _ _ _ _)=>x
  | _=>false
def ki:Option ac→Nat
  | some (.r0 _ x _ _ _ _ _ _ _ _ _ _ _ _ _ _ _ _ _)=>x
  | _=>0
def kj:Option ac→Nat
  | some (.r0 _ _ x _ _ _ _ _ _ _ _ _ _ _ _ _ _ _ _)=>x
  | _=>0
def ko:Option ac→Int
  | some (.r0 _ _ _ x _ _ _ _ _ _ _ _ _ _ _ _ _ _ _)=>x
  | _=>0
def kp:Option ac→Int
  | some (.r0 _ _ _ _ x _ _ _ _ _ _ _ _ _ _ _ _ _ _)=>x
  | _=>0
def kq:Option ac→Int
  | some (.r0 _ _ _ _ _ x _ _ _ _ _ _ _ _ _ _ _ _ _)=>x
  | _=>0
def kr:Option ac→List Int
  | some (.r0 _ _ _ _ _ _ x _ _ _ _ _ _ _ _ _ _ _ _)=>x
  | _=>[]
def ku:Option ac→Nat
  | some (.r0 _ _ _ _ _ _ _ x _ _ _ _ _ _ _ _ _ _ _)=>x
  | _=>0
def kv:Option ac→Int
  | some (.r0 _ _ _ _ _ _ _ _ x _ _ _ _ _ _ _ _ _ _)=>x
  | _=>0
def kw:Option ac→Int
  | some (.r0 _ _ _ _ _ _ _ _ _ x _ _ _ _ _ _ _ _ _)=>x
  | _=>0
def iD:Option ac→Bool
  | some (.r0 _ _ _ _ _ _ _ _ _ _ x _ _ _ _ _ _ _ _)=>x
  | _=>false
def iE:Option ac→Int
  | some (.r0 _ _ _ _ _ _ _ _ _ _ _ x _ _ _ _ _ _ _)=>x
  | _=>0
def iF:Option ac→Nat
  | some (.r0 _ _ _ _ _ _ _ _ _ _ _ _ x _ _ _ _ _ _)=>x
  | _=>0
def iG:Option ac→List Int
  | some (.r0 _ _ _ _ _ _ _ _ _ _ _ _ _ x _ _ _ _ _)=>x
  | _=>[]
def iH:Option ac→List Int
  | some (.r0 _ _ _ _ _ _ _ _ _ _ _ _ _ _ x _ _ _ _)=>x
  | _=>[]
def iI:Option ac→List Int
  | some (.r0 _ _ _ _ _ _ _ _ _ _ _ _ _ _ _ x _ _ _)=>x
  | _=>[]
def iJ:Option ac→List (List Int)
  | some (.r0 _ _ _ _ _ _ _ _ _ _ _ _ _ _ _ _ x _ _)=>x
  | _=>[]
def iK:Option ac→List Int
  | some (.r0 _ _ _ _ _ _ _ _ _ _ _ _ _ _ _ _ _ x _)=>x
  | _=>[]
def iL:Option ac→List Int
  | some (.r0 _ _ _ _ _ _ _ _ _ _ _ _ _ _ _ _ _ _ x)=>x
  | _=>[]
theorem Av{x:Option ac}(h:gK x=true) :x=some (.r0 (dN x) (ki x) (kj x) (ko x) (kp x) (kq x) (kr x) (ku x) (kv x) (kw x) (iD x) (iE x) (iF x) (iG x) (iH x) (iI x) (iJ x) (iK x) (iL x)):=by
  unfold gK at h
  split at h<;>first | rfl | (cases h;done) | (rename_i y;cases y;rfl)
def gL:Option ac→Bool
  | some (.r1 _ _ _ _ _ _ _ _ _ _ _ _ _)=>true
  | _=>false
def dO:Option ac→Bool
  | some (.r1 x _ _ _ _ _ _ _ _ _ _ _ _)=>x
  | _=>false
def kx:Option ac→Nat
  | some (.r1 _ x _ _ _ _ _ _ _ _ _ _ _)=>x
  | _=>0
def kz:Option ac→Nat
  | some (.r1 _ _ x _ _ _ _ _ _ _ _ _ _)=>x
  | _=>0
def kA:Option ac→Int
  | some (.r1 _ _ _ x _ _ _ _ _ _ _ _ _)=>x
  | _=>0
def kB:Option ac→Int
  | some (.r1 _ _ _ _ x _ _ _ _ _ _ _ _)=>x
  | _=>0
def kC:Option ac→Bool
  | some (.r1 _ _ _ _ _ x _ _ _ _ _ _ _)=>x
  | _=>false
def kD:Option ac→Nat
  | some (.r1 _ _ _ _ _ _ x _ _ _ _ _ _)=>x
  | _=>0
def kF:Option ac→List Int
  | some (.r1 _ _ _ _ _ _ _ x _ _ _ _ _)=>x
  | _=>[]
def kG:Option ac→List Int
  | some (.r1 _ _ _ _ _ _ _ _ x _ _ _ _)=>x
  | _=>[]
def kH:Option ac→List Int
  | some (.r1 _ _ _ _ _ _ _ _ _ x _ _ _)=>x
  | _=>[]
def iM:Option ac→List (List Int)
  | some (.r1 _ _ _ _ _ _ _ _ _ _ x _ _)=>x
  | _=>[]
def iN:Option ac→List Int
  | some (.r1 _ _ _ _ _ _ _ _ _ _ _ x _)=>x
  | _=>[]
def iO:Option ac→List Int
  | some (.r1 _ _ _ _ _ _ _ _ _ _ _ _ x)=>x
  | _=>[]
theorem Aw{x:Option ac}(h:gL x=true) :x=some (.r1 (dO x) (kx x) (kz x) (kA x) (kB x) (kC x) (kD x) (kF x) (kG x) (kH x) (iM x) (iN x) (iO x)):=by
  unfold gL at h
  split at h<;>first | rfl | (cases h;done) | (rename_i y;cases y;rfl)
def gM:Option ac→Bool
  | some (.r2 _ _ _ _ _ _ _ _ _ _ _ _ _ _ _ _ _)=>true
  | _=>false
def dP:Option ac→Bool
  | some (.r2 x _ _ _ _ _ _ _ _ _ _ _ _ _ _ _ _)=>x
  | _=>false
def dQ:Option ac→Nat
  | some (.r2 _ x _ _ _ _ _ _ _ _ _ _ _ _ _ _ _)=>x
  | _=>0
def kI:Option ac→Int
  | some (.r2 _ _ x _ _ _ _ _ _ _ _ _ _ _ _ _ _)=>x
  | _=>0
def kJ:Option ac→Int
  | some (.r2 _ _ _ x _ _ _ _ _ _ _ _ _ _ _ _ _)=>x
  | _=>0
def kK:Option ac→Int
  | some (.r2 _ _ _ _ x _ _ _ _ _ _ _ _ _ _ _ _)=>x
  | _=>0
def kL:Option ac→List Int
  | some (.r2 _ _ _ _ _ x _ _ _ _ _ _ _ _ _ _ _)=>x
  | _=>[]
def kM:Option ac→Nat
  | some (.r2 _ _ _ _ _ _ x _ _ _ _ _ _ _ _ _ _)=>x
  | _=>0
def kN:Option ac→Int
  | some (.r2 _ _ _ _ _ _ _ x _ _ _ _ _ _ _ _ _)=>x
  | _=>0
def kO:Option ac→Int
  | some (.r2 _ _ _ _ _ _ _ _ x _ _ _ _ _ _ _ _)=>x
  | _=>0
def kP:Option ac→Bool
  | some (.r2 _ _ _ _ _ _ _ _ _ x _ _ _ _ _ _ _)=>x
  | _=>false
def iP:Option ac→Int
  | some (.r2 _ _ _ _ _ _ _ _ _ _ x _ _ _ _ _ _)=>x
  | _=>0
def iQ:Option ac→List Int
  | some (.r2 _ _ _ _ _ _ _ _ _ _ _ x _ _ _ _ _)=>x
  | _=>[]
def iR:Option ac→List Int
  | some (.r2 _ _ _ _ _ _ _ _ _ _ _ _ x _ _ _ _)=>x
  | _=>[]
def iS:Option ac→List Int
  | some (.r2 _ _ _ _ _ _ _ _ _ _ _ _ _ x _ _ _)=>x
  | _=>[]
def iT:Option ac→List (List Int)
  | some (.r2 _ _ _ _ _ _ _ _ _ _ _ _ _ _ x _ _)=>x
  | _=>[]
def iU:Option ac→List Int
  | some (.r2 _ _ _ _ _ _ _ _ _ _ _ _ _ _ _ x _)=>x
  | _=>[]
def iV:Option ac→List Int
  | some (.r2 _ _ _ _ _ _ _ _ _ _ _ _ _ _ _ _ x)=>x
  | _=>[]
theorem Ax{x:Option ac}(h:gM x=true) :x=some (.r2 (dP x) (dQ x) (kI x) (kJ x) (kK x) (kL x) (kM x) (kN x) (kO x) (kP x) (iP x) (iQ x) (iR x) (iS x) (iT x) (iU x) (iV x)):=by
  unfold gM at h
  split at h<;>first | rfl | (cases h;done) | (rename_i y;cases y;rfl)
def pu(q:Option ac)(pre:List Bool) :List sX:=[⟨fm (.r0 (dN q) (ki q) (kj q) (ko q) (kp q) (kq q) (kr q) (ku q) (kv q) (kw q) (iD q) (iE q) (iF q) (iG q) (iH q) (iI q) (iJ q) (iK q) (iL q)),pre++[gK q]⟩,
  ⟨fm (.r1 (dO q) (kx q) (kz q) (kA q) (kB q) (kC q) (kD q) (kF q) (kG q) (kH q) (iM q) (iN q) (iO q)),pre++[gL q]⟩,
  ⟨fm (.r2 (dP q) (dQ q) (kI q) (kJ q) (kK q) (kL q) (kM q) (kN q) (kO q) (kP q) (iP q) (iQ q) (iR q) (iS q) (iT q) (iU q) (iV q)),pre++[gM q]⟩]
def Ml:aK:=⟨bZ,fun lent args=>match args with
  | [.ptr 0 1 0 0,.str s]=>match lent with
    | [.vs [.sl 1 6 6 0 n c,.int .i64 k,.int .i64 m,.int .i64 nn,.imm (.up .free) (.ns .u64 w) 1 1 0 nw,.int .i64 y,.int .u64 t,.bool false on,.int .i64 row],.cols nc [.ci .i64 ks,.ci .i64 ms,.ci .i64 ns,.cns .u64 wss,.ci .i64 ys,.ci .u64 ts]] =>
      some (pu (bU n c k m nn w y t on row nc ks ms ns wss ys ts s) [Nat.beq nw w.length])
    | [.vs [.sl 1 6 6 0 n c,.int .i64 k,.int .i64 m,.int .i64 nn,.sl 2 1 1 0 nw cw,.int .i64 y,.int .u64 t,.bool false on,.int .i64 row],.cols nc [.ci .i64 ks,.ci .i64 ms,.ci .i64 ns,.cns .u64 wss,.ci .i64 ys,.ci .u64 ts],.ns .u64 ws] =>
      some (pt (dY n c k m nn nw cw y t on row nc ks ms ns wss ys ts ws s) [])
    | _=>none
  | _=>none⟩
theorem Oj:aV prog Ml:=by
  intro lent args alts a h ha ho
  simp only [Ml] at h
  split at h
  · rename_i s
    split at h
    · rename_i n c k m nn w nw y t on row nc ks ms ns wss ys ts
      cases h
      simp only [pu,List.mem_cons,List.not_mem_nil,or_false] at ha
      rcases ha with rfl | rfl | rfl
      all_goals
        have e:=Nat.eq_of_beq_eq_true ho.1
        subst e
      · exact mF n c k m nn w y t on row nc ks ms ns wss ys ts s (Av ho.2.1)
      · exact mF n c k m nn w y t on row nc ks ms ns wss ys ts s (Aw ho.2.1)
      · exact mF n c k m nn w y t on row nc ks ms ns wss ys ts s (Ax ho.2.1)
    · rename_i n c k m nn nw cw y t on row nc ks ms ns wss ys ts ws
      cases h
      simp only [pt,List.mem_cons,List.not_mem_nil,or_false,List.nil_append] at ha
      rcases ha with rfl | rfl | rfl
      · exact mE n c k m nn nw cw y t on row nc ks ms ns wss ys ts ws s (Ak ho.1)
      · exact mE n c k m nn nw cw y t on row nc ks ms ns wss ys ts ws s (Al ho.1)
      · exact mE n c k m nn nw cw y t on row nc ks ms ns wss ys ts ws s (Am ho.1)
    · cases h
  · cases h
def Tf:List aK:=Ml::rR
theorem yL:bo prog (bt Tf):=au Oj ax
structure RS where
  nl:Nat
  cl:Nat
  k:Int
  m:Int
  nn:Int
  y:Int
  t:Int
  on:Bool
  row:Int
  nc:Nat
  ks:List Int
  ms:List Int
  ns:List Int
  wss:List (List Int)
  ys:List Int
  ts:List Int
inductive JN where
  | off (s:ByteArray) (n:Int) (b:Bool) (r:RS) (w:List Int) (nw:Nat)
  | on (s:ByteArray) (n:Int) (b:Bool) (r:RS) (nw cw:Nat) (ws:List Int)
def SG(r:RS)(W:AV) :ao:=.vs [.sl 1 6 6 0 r.nl r.cl,.int .i64 r.k,.int .i64 r.m,.int .i64 r.nn,W,.int .i64 r.y,.int .u64 r.t,.bool false r.on,.int .i64 r.row]
def RO(r:RS) :ao:=.cols r.nc [.ci .i64 r.ks,.ci .i64 r.ms,.ci .i64 r.ns,.cns .u64 r.wss,.ci .i64 r.ys,.ci .u64 r.ts]
def pI:JN→az
  | .off s n b r w nw=>⟨an 49 [(5,.ptr 0 1 0 0),(6,.int .i64 n),(7,.bool false b),(8,.str s)],[(0,SG r (.imm .free (.ns .u64 w) 1 1 0 nw)),(1,RO r)],2⟩
  | .on s n b r nw cw ws=>⟨an 49 [(5,.ptr 0 1 0 0),(6,.int .i64 n),(7,.bool false b),(8,.str s)],[(0,SG r (.sl 2 1 1 0 nw cw)),(1,RO r),(2,.ns .u64 ws)],3⟩
def P9:List Code:=cN (Na (((cN (qI mf)).drop 1).headD .skip))
def Rk:List Code:=(P9.drop 5).take 1
def K0:List Code:=cN (fA (Rk.headD .skip))
inductive Dv where
  | bad (n:Int) (b:Bool)
  | doff (n:Int) (b:Bool) (r:RS) (w:List Int) (nw:Nat)
  | don (n:Int) (b:Bool) (r:RS)
def pJ:Dv→az
  | .bad n b=>⟨an 49 [(6,.int .i64 n),(7,.bool false b)],[],0⟩
  | .doff n b r w nw=>⟨an 49 [(5,.ptr 0 1 0 0),(6,.int .i64 n),(7,.bool false b)],[(0,SG r (.imm .free (.ns .u64 w) 1 1 0 nw)),(1,RO r)],2⟩
  | .don n b r=>⟨an 49 [(5,.ptr 0 1 0 0),(6,.int .i64 n),(7,.bool false b)],[(0,SG r .any),(1,RO r)],2⟩
inductive aw where
  | fail (n e:Int)
  | ok (r:RS)
def dz:aw→AE×az
  | .fail n e=>(.ret,⟨an 49 [(2,.nsl),(3,.int .i64 n),(4,.int .i64 e)],[],0⟩)
  | .ok r=>(.ret,⟨an 49 [(2,.sl 0 6 6 0 r.nl r.cl),(3,.int .i64 (0:Int)),(4,.int .i64 (0:Int))],[(0,RO r)],1⟩)
theorem gk:qZ dz:=by intro x;cases x<;>(intro h;cases h)
theorem Dw(id:Nat) :pF id dz:=by intro x;cases x<;>(intro h;cases h)
def qy:aw→mW
  | .fail n e=>⟨.tup [.nsl,.int .i64 n,.int .i64 e],[]⟩
  | .ok r=>⟨.tup [.imm .free (RO r) 6 6 0 r.nl,.int .i64 (0:Int),.int .i64 (0:Int)],[]⟩
def F9(n:Int)(c:Option aR)(w:List Int)(nw:Nat)(q:Option ac) :T (JN⊕(Dv⊕aw)) :=
        (.alt 0 (.need (Nat.beq nw w.length)<|.need (gK q)<|.ask (!(dN q)) (.leaf (.inr (.inl (.bad n (dN q))))) (.need (fw .i64 (n+(1:Int)))<|.leaf (.inl (.off (bB c) (n+(1:Int)) (dN q) ⟨(ki q),(kj q),(ko q),(kp q),(kq q),(kv q),(kw q),(iD q),(iE q),(iF q),(iG q),(iH q),(iI q),(iJ q),(iK q),(iL q)⟩ (kr q) (ku q)))))
        (.alt 1 (.need (Nat.beq nw w.length)<|.need (gL q)<|.ask (!(dO q)) (.leaf (.inr (.inl (.bad n (dO q))))) (.need (fw .i64 (n+(1:Int)))<|.leaf (.inl (.on (bB c) (n+(1:Int)) (dO q) ⟨(kx q),(kz q),(0:Int),(kA q),(kB q),(0:Int),(0:Int),(kC q),(0:Int),(kD q),(kF q),(kG q),(kH q),(iM q),(iN q),(iO q)⟩ 0 0 []))))
        (.alt 2 (.need (Nat.beq nw w.length)<|.need (gM q)<|.ask (!(dP q)) (.leaf (.inr (.inl (.bad n (dP q))))) (.need (fw .i64 (n+(1:Int)))<|.leaf (.inl (.off (bB c) (n+(1:Int)) (dP q) ⟨(dQ q),(dQ q),(kI q),(kJ q),(kK q),(kN q),(kO q),(kP q),(iP q),(dQ q),(iQ q),(iR q),(iS q),(iT q),(iU q),(iV q)⟩ (kL q) (kM q)))))
        .fail)))
def Mm(s:ByteArray)(n:Int)(b:Bool)(r:RS)(w:List Int)(nw:Nat)(c:Option aR) :T (JN⊕(Dv⊕aw)) :=
  .ask (!(s.toList==(ByteArray.mk #[]).toList))
    (.need (hU c)<|.ask (jn c)
      (F9 n c w nw (bU r.nl r.cl r.k r.m r.nn w r.y r.t r.on r.row r.nc r.ks r.ms r.ns r.wss r.ys r.ts (jm c)))
      (.leaf (.inr (.inl (.bad n false)))))
    (.leaf (.inr (.inl (.doff n b r w nw))))
def xE(s:ByteArray)(n:Int)(b:Bool)(r:RS)(w:List Int)(nw:Nat) :T (JN⊕(Dv⊕aw)):=Mm s n b r w nw (gv s (ByteArray.mk #[10]))
def Nk(n:Int)(c:Option aR)(q:Option aa) :T (JN⊕(Dv⊕aw)) :=
        (.alt 0 (.need (gH q)<|.ask (!(dK q)) (.leaf (.inr (.inl (.bad n (dK q))))) (.need (fw .i64 (n+(1:Int)))<|.leaf (.inl (.on (bB c) (n+(1:Int)) (dK q) ⟨(jG q),(jH q),(jI q),(jJ q),(jK q),(jN q),(jO q),(hZ q),(ia q),(ib q),(ic q),(ig q),(ii q),(ij q),(ik q),(il q)⟩ (jL q) (jM q) (im q)))))
        (.alt 1 (.need (gI q)<|.ask (!(dL q)) (.leaf (.inr (.inl (.bad n (dL q))))) (.need (fw .i64 (n+(1:Int)))<|.leaf (.inl (.on (bB c) (n+(1:Int)) (dL q) ⟨(jP q),(jQ q),(0:Int),(jR q),(jS q),(0:Int),(0:Int),(jT q),(0:Int),(jU q),(jV q),(jW q),(jX q),(io q),(ip q),(iq q)⟩ 0 0 []))))
        (.alt 2 (.need (gJ q)<|.ask (!(dM q)) (.leaf (.inr (.inl (.bad n (dM q))))) (.need (fw .i64 (n+(1:Int)))<|.leaf (.inl (.on (bB c) (n+(1:Int)) (dM q) ⟨(jY q),(jZ q),(ka q),(kb q),(ke q),(kf q),(kg q),(kh q),(ir q),(iu q),(iv q),(iw q),(iy q),(iz q),(iA q),(iB q)⟩ (eV q) (eV q) (iC q)))))
        .fail)))
def Qa(s:ByteArray)(n:Int)(b:Bool)(r:RS)(nw cw:Nat)(ws:List Int)(c:Option aR) :T (JN⊕(Dv⊕aw)) :=
  .ask (!(s.toList==(ByteArray.mk #[]).toList))
    (.need (hU c)<|.ask (jn c)
      (Nk n c (dY r.nl r.cl r.k r.m r.nn nw cw r.y r.t r.on r.row r.nc r.ks r.ms r.ns r.wss r.ys r.ts ws (jm c)))
      (.leaf (.inr (.inl (.bad n false)))))
    (.leaf (.inr (.inl (.don n b r))))
def Mn(s:ByteArray)(n:Int)(b:Bool)(r:RS)(nw cw:Nat)(ws:List Int) :T (JN⊕(Dv⊕aw)):=Qa s n b r nw cw ws (gv s (ByteArray.mk #[10]))
def pB:JN→Option (JN⊕(Dv⊕aw))
  | .off s n b r w nw=>(xE s n b r w nw).run
  | .on s n b r nw cw ws=>bif decide (r.row<r.m)&&decide (0<r.nn) then (Mn s n b r nw cw ws).run else (xE s n b r ws nw).run
def R2:RS:=⟨0,0,(0:Int),(0:Int),(0:Int),(0:Int),(0:Int),false,(0:Int),0,[],[],[],[],[],[]⟩
def S7:T (Unit⊕aw):=.leaf (.inl ())
def S8(s:ByteArray) :T (JN⊕aw) :=
  .ask (decide (((s.size:Nat):Int)>(8388608:Int)))
    (.leaf (.inr (.fail (0:Int) (3:Int))))
    (.leaf (.inl (.off s (0:Int) true R2 [] 0)))
def Ga(n:Int)(b:Bool)(r:RS) :T (Empty⊕aw) :=
  .ask (!b) (.leaf (.inr (.fail n (4:Int))))
    (.ask r.on (.leaf (.inr (.fail n (4:Int))))
      (.ask (decide (((r.nl:Nat):Int)>(64:Int))) (.leaf (.inr (.fail (0:Int) (3:Int)))) (.leaf (.inr (.ok r)))))
def Rl(n:Int)(b:Bool) :T (Empty⊕aw):=.ask (!b) (.leaf (.inr (.fail n (4:Int)))) .fail
def SH:Dv→Option (Empty⊕aw)
  | .bad n b=>(Rl n b).run
  | .doff n b r w nw=>(Ga n b r).run
  | .don n b r=>(Ga n b r).run
def aP(s:ByteArray) :Option aw:=ur (aT S7.run fun _=>aT (S8 s).run fun a=>aT (cO pB a) SH)
def Tg(s:ByteArray) :Unit→az:=fun _=>⟨an 49 [(0,.str s)],[],0⟩
theorem Sr(s:Dv) :Sg prog [] (P9.drop 6) (pJ s) (SH s) uF dz:=by
  cases s with
  | bad n b=>exact cp (t:=Rl n b) yL uF [⟨[],[],[2,3,4]⟩]
  | doff n b r w nw=>exact cp (t:=Ga n b r) yL uF [⟨[],[],[2,3,4]⟩,⟨[],[],[2,3,4]⟩,⟨[],[],[2,3,4]⟩,⟨[],[1],[2,3,4]⟩]
  | don n b r=>exact cp (t:=Ga n b r) yL uF [⟨[],[],[2,3,4]⟩,⟨[],[],[2,3,4]⟩,⟨[],[],[2,3,4]⟩,⟨[],[1],[2,3,4]⟩]
theorem Ss(s:ByteArray)(n:Int)(b:Bool)(r:RS)(w:List Int)(nw:Nat) :Sg prog [] K0 (pI (.off s n b r w nw)) (xE s n b r w nw).run pI (eE 0 pJ dz) :=
  cp yL pI [⟨[],[],[6,7]⟩,⟨[],[0,1],[5,6,7,8]⟩,⟨[],[],[6,7]⟩,⟨[(.cell 0 4,.own 1 1 (.ns .u64 []))],[0,1,386],[5,6,7,8]⟩,⟨[],[],[6,7]⟩,⟨[],[0,226],[5,6,7,8]⟩,⟨[],[],[6,7]⟩,⟨[],[0,1],[5,6,7]⟩]
theorem Th(s:ByteArray)(n:Int)(b:Bool)(r:RS)(nw cw:Nat)(ws:List Int) :Sg prog [] K0 (pI (.on s n b r nw cw ws)) (Mn s n b r nw cw ws).run pI (eE 0 pJ dz) :=
  cp yL pI [⟨[],[],[6,7]⟩,⟨[],[0,1,2],[5,6,7,8]⟩,⟨[],[],[6,7]⟩,⟨[(.cell 0 4,.own 1 1 (.ns .u64 []))],[0,1,387],[5,6,7,8]⟩,⟨[],[],[6,7]⟩,⟨[],[0,1,227],[5,6,7,8]⟩,⟨[],[],[6,7]⟩,⟨[],[0,1],[5,6,7]⟩]
theorem St(s:ByteArray)(n:Int)(b:Bool)(r:RS)(nw cw:Nat)(ws:List Int) :Sg prog [] K0 (pI (.on s n b r nw cw ws)) (xE s n b r ws nw).run pI (eE 0 pJ dz) :=
  Sg.sub (P8 (b:=0) (i:=4) (x:=2)) (Sg.pre ⟨[],[0,1],[5,6,7,8]⟩ rfl (by kernel_rfl:NS.on ⟨[],[0,1],[5,6,7,8]⟩ (Mk (pI (.on s n b r nw cw ws)) 0 4 2)=pI (.off s n b r ws nw)) (Ss s n b r ws nw))
theorem RP(s:JN) :Sg prog [] K0 (pI s) (pB s) pI (eE 0 pJ dz):=by
  cases s with
  | off s n b r w nw=>exact Ss s n b r w nw
  | on s n b r nw cw ws =>
    show Sg prog [] K0 (pI (.on s n b r nw cw ws)) (bif decide (r.row<r.m)&&decide (0<r.nn) then (Mn s n b r nw cw ws).run else (xE s n b r ws nw).run) pI _
    cases decide (r.row<r.m)&&decide (0<r.nn) with
    | true=>exact Th s n b r nw cw ws
    | false=>exact St s n b r nw cw ws
theorem um(s:ByteArray){x:aw}(h:aP s=some x) :ak prog mf [] [.str s] (qy x) :=
  xc true qy dz h (Sg.cut 1 gk (cp (t:=S7) yL (Tg s) [⟨[],[],[0]⟩]) (fun _=>LV (b:=Na (((cN (qI mf)).drop 1).headD .skip)) (by kernel_rfl) gk
    (Sg.cut 5 gk (cp (t:=S8 s) yL pI [⟨[],[],[2,3,4]⟩,⟨[(.cell 48 0,.own 6 6 (.cols 0 [.ci .i64 [],.ci .i64 [],.ci .i64 [],.cns .u64 [],.ci .i64 [],.ci .u64 []])),(.cell 48 4,.fre 1 1 (.ns .u64 []))],[48,128],[5,6,7,8]⟩])
      (fun a=>Sg.cut 1 gk (H9 (b:=fA (Rk.headD .skip)) (by kernel_rfl) gk (Dw _) RP a) (fun e=>Sr e)))))
    (fun x=>by cases x with
      | fail n e=>exact ra [.nsl,.int .i64 n,.int .i64 e]
      | ok r=>exact ra [.sl 0 6 6 0 r.nl r.cl,.int .i64 (0:Int),.int .i64 (0:Int)])
end
end Go.Plb.Seat
namespace Go.Plb.Seat
open Go Go.Plb
set_option linter.unusedVariables false
set_option maxRecDepth 100000
def Jr(n:Nat)(ks ms ns:List Int)(wss:List (List Int))(ys ts:List Int) :List ch:=(List.range n).map fun i=>⟨ks.getD i 0,ms.getD i 0,ns.getD i 0,wss.getD i [],ys.getD i 0,ts.getD i 0⟩
theorem Gb(n:Nat)(ks ms ns:List Int)(wss:List (List Int))(ys ts:List Int) :(Jr n ks ms ns wss ys ts).length=n:=by simp [Jr]
theorem RQ{ρ:ae}{W:World}{lv:Lv}{d:ao}{k es len:Nat}{u:Value}(h:VR ρ W (.imm lv d k es 0 len) u) :d.recKept:=by
  cases h with
  | imm _ _ _ _ _ _ _ _ _ _ ha hb hc hv hl hr hk hg=>exact hr
  | immEnd _ _ _ _ _ _ _ hr hk hg=>exact hr
theorem QN{n:Nat}{ks ms ns:List Int}{wss:List (List Int)}{ys ts:List Int}(hr:(ao.cols n [.ci .i64 ks,.ci .i64 ms,.ci .i64 ns,.cns .u64 wss,.ci .i64 ys,.ci .u64 ts]).recKept) :PW (.cols n [.ci .i64 ks,.ci .i64 ms,.ci .i64 ns,.cns .u64 wss,.ci .i64 ys,.ci .u64 ts]) (Jr n ks ms ns wss ys ts):=by
  have h1:ks.length=n:=hr _ (by simp:dp.ci .i64 ks∈_)
  have h2:ms.length=n:=hr _ (by simp:dp.ci .i64 ms∈_)
  have h3:ns.length=n:=hr _ (by simp:dp.ci .i64 ns∈_)
  have h4:wss.length=n:=hr _ (by simp:dp.cns .u64 wss∈_)
  have h5:ys.length=n:=hr _ (by simp:dp.ci .i64 ys∈_)
  have h6:ts.length=n:=hr _ (by simp:dp.ci .u64 ts∈_)
  intro i a hi
  have hlt:i<n:=by
    have:=(List.getElem?_eq_some_iff.1 hi).1
    rwa [Gb] at this
  have ha:a=⟨ks.getD i 0,ms.getD i 0,ns.getD i 0,wss.getD i [],ys.getD i 0,ts.getD i 0⟩:=by
    unfold Jr at hi
    rw [List.getElem?_map,List.getElem?_range hlt] at hi
    exact (Option.some.inj hi).symm
  subst ha
  have hd:∀ j,j<6→(i*6+j)%6=j∧(i*6+j)/6=i:=fun j hj=>by omega
  have gd:∀ {α:Type} (xs:List α) (d:α),xs.length=n→xs[i]? = some (xs.getD i d):=fun xs d h=>by
    rw [List.getD_eq_getElem?_getD,List.getElem?_eq_getElem (by omega)];rfl
  refine ⟨.free,?_,?_,?_,?_,?_,?_⟩
  · have:=hd 0 (by omega)
    simp only [Nat.add_zero] at this
    simp only [ao.cell?,List.length_cons,List.length_nil,this.1,this.2]
    show (ks[i]?).map _=_
    rw [gd ks 0 h1];rfl
  · simp only [ao.cell?,List.length_cons,List.length_nil,(hd 1 (by omega)).1,(hd 1 (by omega)).2]
    show (ms[i]?).map _=_
    rw [gd ms 0 h2];rfl
  · simp only [ao.cell?,List.length_cons,List.length_nil,(hd 2 (by omega)).1,(hd 2 (by omega)).2]
    show (ns[i]?).map _=_
    rw [gd ns 0 h3];rfl
  · simp only [ao.cell?,List.length_cons,List.length_nil,(hd 3 (by omega)).1,(hd 3 (by omega)).2]
    show (wss[i]?).map _=_
    rw [gd wss [] h4];rfl
  · simp only [ao.cell?,List.length_cons,List.length_nil,(hd 4 (by omega)).1,(hd 4 (by omega)).2]
    show (ys[i]?).map _=_
    rw [gd ys 0 h5];rfl
  · simp only [ao.cell?,List.length_cons,List.length_nil,(hd 5 (by omega)).1,(hd 5 (by omega)).2]
    show (ts[i]?).map _=_
    rw [gd ts 0 h6];rfl
theorem QO(lv:Lv)(n:Nat)(ks ms ns:List Int)(wss:List (List Int))(ys ts:List Int)(hl:n≤1000000000) :ak prog gu [] [.imm lv (.cols n [.ci .i64 ks,.ci .i64 ms,.ci .i64 ns,.cns .u64 wss,.ci .i64 ys,.ci .u64 ts]) 6 6 0 n]
    ⟨.tup [.str (xo (Jr n ks ms ns wss ys ts)),.int .i64 (xp (Jr n ks ms ns wss ys ts))],[]⟩:=by
  intro ρ w us hN hv
  have hr:(ao.cols n [.ci .i64 ks,.ci .i64 ms,.ci .i64 ns,.cns .u64 wss,.ci .i64 ys,.ci .u64 ts]).recKept:=by
    cases hv with | cons _ u _ _ h1 h2=>exact RQ h1
  have h:=Ng lv _ 6 6 (Jr n ks ms ns wss ys ts) (QN hr) (by rw [Gb];exact hl)
  rw [Gb] at h
  exact h ρ w us hN hv
noncomputable def Nl:aK:=cT gu (.cons (.cols [.ci .i64,.ci .i64,.ci .i64,.cns .u64,.ci .i64,.ci .u64]) .nil) fun t =>
  [⟨⟨.tup [.str (xo (Jr t.1.2.1 t.1.2.2.1 t.1.2.2.2.1 t.1.2.2.2.2.1 t.1.2.2.2.2.2.1 t.1.2.2.2.2.2.2.1 t.1.2.2.2.2.2.2.2.1)),.int .i64 (xp (Jr t.1.2.1 t.1.2.2.1 t.1.2.2.2.1 t.1.2.2.2.2.1 t.1.2.2.2.2.2.1 t.1.2.2.2.2.2.2.1 t.1.2.2.2.2.2.2.2.1))],[]⟩,[gT t.1.2.1]⟩]
theorem Mo:aV prog Nl:=aU fun t=>aZ (fun h=>QO t.1.1 t.1.2.1 t.1.2.2.1 t.1.2.2.2.1 t.1.2.2.2.2.1 t.1.2.2.2.2.2.1 t.1.2.2.2.2.2.2.1 t.1.2.2.2.2.2.2.2.1 (Nat.le_of_ble_eq_true h)) bI
def RR:Option aw→Bool
  | some (.fail _ _)=>true
  | _=>false
def RT:Option aw→Bool
  | some (.ok r)=>Nat.beq r.nl r.nc
  | _=>false
def S9:Option aw→Int
  | some (.fail n _)=>n
  | _=>0
def Ta:Option aw→Int
  | some (.fail _ e)=>e
  | _=>0
def RU:Option aw→RS
  | some (.ok r)=>r
  | _=>R2
def ST(q:Option aw) :Nat:=(RU q).nl
def Su(q:Option aw) :List Int:=(RU q).ks
def Sv(q:Option aw) :List Int:=(RU q).ms
def Sw(q:Option aw) :List Int:=(RU q).ns
def Sx(q:Option aw) :List (List Int):=(RU q).wss
def Sy(q:Option aw) :List Int:=(RU q).ys
def Sz(q:Option aw) :List Int:=(RU q).ts
noncomputable def vI:aK:=cT mf (.cons .str .nil) fun t=>(fun q =>
  [⟨⟨.tup [.nsl,.int .i64 (S9 q),.int .i64 (Ta q)],[]⟩,[RR q]⟩,
   ⟨⟨.tup [.imm .free (.cols (ST q) [.ci .i64 (Su q),.ci .i64 (Sv q),.ci .i64 (Sw q),.cns .u64 (Sx q),.ci .i64 (Sy q),.ci .u64 (Sz q)]) 6 6 0 (ST q),.int .i64 (0:Int),.int .i64 (0:Int)],[]⟩,[RT q]⟩]) (aP t.1)
theorem Ay:aV prog vI:=aU fun t=>aZ (fun h=>by
    generalize hq:aP t.1=q at h ⊢
    unfold RR at h
    split at h
    · exact um t.1 hq
    · cases h) (aZ (fun h=>by
    generalize hq:aP t.1=q at h ⊢
    unfold RT at h
    split at h
    · rename_i r
      have e:=Nat.eq_of_beq_eq_true h
      have:=um t.1 hq
      simp only [qy,RO,←e] at this
      exact this
    · cases h) bI)
noncomputable def SA:List aK:=vI::Nl::rR
theorem DZ:bo prog (bt SA):=au Ay (au Mo ax)
end Go.Plb.Seat
namespace Go.Plb.Seat
open Go Go.Plb
set_option linter.unusedVariables false
set_option maxRecDepth 100000
noncomputable section
inductive dW where
  | r0 (b3:Bool)
def CA:dW→AE×az
  | .r0 b3=>(.ret,⟨an 52 [(2,.bool false b3)],[],0⟩)
theorem Az:qZ CA:=by intro x;cases x<;>(intro h;cases h)
def vJ:dW→mW
  | .r0 b3=>⟨.bool false b3,[]⟩
def Js(a_0:Int)(a_1:Int)(a_2:Int)(v_3:Lv)(a_4:List Int)(a_5:Int)(a_6:Int)(b1:Bool) :az:=⟨an 52 [(1,.ptr 0 1 0 0),(36,.bool false b1)],[(0,.vs [.int .i64 a_0,.int .i64 a_1,.int .i64 a_2,.imm v_3 (.ns .u64 a_4) 1 1 0 (List.length a_4),.int .i64 a_5,.int .u64 a_6])],1⟩
def pO(a_0:Int)(a_1:Int)(a_2:Int)(a_4:List Int)(a_5:Int)(a_6:Int) :T ((Bool)⊕(dW)) :=
  .ask (decide (a_1<(0:Int)))
    (.leaf (.inl true))
    (.ask (decide (a_1>(512:Int)))
      (.leaf (.inl true))
      (.ask (decide (a_2<(0:Int)))
        (.leaf (.inl true))
        (.ask (decide (a_2>(512:Int)))
          (.leaf (.inl true))
          (.need (fw .i64 (a_1*a_2))<|.ask ((((List.length a_4):Nat):Int) != (a_1*a_2))
            (.leaf (.inl true))
            (.need (se 0 (List.length a_4) a_4)<|.need (fg (dd a_0 a_5 a_6))<|.leaf (.inl (!(fH (dd a_0 a_5 a_6)))))))))
def Jt(b2:Bool) :az:=⟨an 52 [(2,.bool false b2)],[],0⟩
def Ju(a_0:Int)(a_1:Int)(a_2:Int)(b1:Bool) :T ((Bool)⊕(dW)) :=
  .ask b1
    (.leaf (.inr (.r0 false)))
    (.ask (a_1==a_2)
      (.leaf (.inl true))
      (.ask (a_0 != (1:Int))
        (.leaf (.inl (a_0 != (2:Int))))
        (.leaf (.inl false))))
def Jv(b2:Bool) :T ((Empty)⊕(dW)) :=
  .leaf (.inr (.r0 b2))
noncomputable def lS(a_0:Int)(a_1:Int)(a_2:Int)(a_4:List Int)(a_5:Int)(a_6:Int) :Option dW:=ur (aT ((pO a_0 a_1 a_2 a_4 a_5 a_6).run) fun b1 =>
  aT ((Ju a_0 a_1 a_2 b1).run) fun b2 =>
  (Jv b2).run)
theorem Jw(a_0:Int)(a_1:Int)(a_2:Int)(v_3:Lv)(a_4:List Int)(a_5:Int)(a_6:Int){x:dW}(h:lS a_0 a_1 a_2 a_4 a_5 a_6=some x) :ak prog Cq [] [.agg [.int .i64 a_0,.int .i64 a_1,.int .i64 a_2,.imm v_3 (.ns .u64 a_4) 1 1 0 (List.length a_4),.int .i64 a_5,.int .u64 a_6]] (vJ x) :=
  xc false vJ CA h (Sg.cut 2 Az (cp DZ (Js a_0 a_1 a_2 v_3 a_4 a_5 a_6) [⟨[],[0],[1,36]⟩,⟨[],[0],[1,36]⟩,⟨[],[0],[1,36]⟩,⟨[],[0],[1,36]⟩,⟨[],[0],[1,36]⟩,⟨[],[0],[1,36]⟩]) (fun b1=>Sg.cut 2 Az (cp DZ Jt [⟨[],[],[2]⟩,⟨[],[],[2]⟩,⟨[],[],[2]⟩,⟨[],[],[2]⟩]) (fun b2=>cp DZ uF [⟨[],[],[2]⟩])))
    (fun x=>by cases x with | r0 b3=>exact ra [.bool false b3])
def pP:Option dW→Bool
  | some _=>true
  | none=>false
def qz:Option dW→Bool
  | some (.r0 x)=>x
  | _=>false
theorem Jx{x:Option dW}(h:pP x=true) :x=some (.r0 (qz x)):=by
  unfold pP at h
  split at h<;>first | rfl | (cases h;done) | (rename_i y;cases y;rfl)
noncomputable def CB:aK:=cT Cq (.cons (.agg (.cons (.int .i64) (.cons (.int .i64) (.cons (.int .i64) (.cons (.ns .u64) (.cons (.int .i64) (.cons (.int .u64) .nil))))))) .nil) fun t=>(fun q=>[⟨vJ (.r0 (qz q)),[pP q]⟩]) (lS t.1.1 t.1.2.1 t.1.2.2.1 t.1.2.2.2.1.2 t.1.2.2.2.2.1 t.1.2.2.2.2.2.1)
theorem Gc:aV prog CB:=aU fun t=>(aZ (fun h=>Jw t.1.1 t.1.2.1 t.1.2.2.1 t.1.2.2.2.1.1 t.1.2.2.2.1.2 t.1.2.2.2.2.1 t.1.2.2.2.2.2.1 (Jx h)) bI)
noncomputable def CC:List aK:=CB::SA
theorem iW:bo prog (bt CC):=au Gc DZ
inductive bH where
  | r0 (a21:Nat) (a22:Nat) (s23:ByteArray) (l24:List ByteArray)
def oj:bH→AE×az
  | .r0 a21 a22 s23 l24=>(.ret,⟨an 30 [(2,.sl 0 1 1 0 a21 a22),(3,.str s23)],[(0,.ss l24)],1⟩)
theorem mG:qZ oj:=by intro x;cases x<;>(intro h;cases h)
theorem Gd(id:Nat) :pF id oj:=by intro x;cases x<;>(intro h;cases h)
def rT:bH→mW
  | .r0 a21 a22 s23 l24=>⟨.tup [.sl 0 1 1 0 a21 a22,.str s23],[some (.ss l24)]⟩
noncomputable def Dx:List Code:=cN (qI ry)
def Ge(text_0:ByteArray)(_:Unit) :az:=⟨an 30 [(0,.str text_0),(4,.nsl),(5,.int .i64 (0:Int)),(6,.int .i64 (0:Int))],[],0⟩
def Dy:T ((Unit)⊕(bH)) :=
  .leaf (.inl ())
def mH(text_0:ByteArray) :Nat×Nat×Nat×Nat×(List ByteArray)→az:=fun (l8,l9,at10,i11,l12)=>⟨an 30 [(0,.str text_0),(4,.sl 0 1 1 0 l8 l9),(5,.int .i64 ((at10:Nat):Int)),(6,.int .i64 ((i11:Nat):Int))],[(0,.ss l12)],1⟩
def vK(text_0:ByteArray) :Nat×Nat×Nat×(List ByteArray)→az:=fun (l17,l18,at19,l20)=>⟨an 30 [(0,.str text_0),(4,.sl 0 1 1 0 l17 l18),(5,.int .i64 ((at19:Nat):Int))],[(0,.ss l20)],1⟩
noncomputable def Dz:List Code:=cN (fA ((((Dx.drop 4).take 1)).headD .skip))
def Gf(text_0:ByteArray)(i11:Nat) :Nat×Nat×Nat×(List ByteArray)→az:=fun (l13,l14,at15,l16)=>⟨an 30 [(0,.str text_0),(4,.sl 0 1 1 0 l13 l14),(5,.int .i64 ((at15:Nat):Int)),(6,.int .i64 ((i11:Nat):Int))],[(0,.ss l16)],1⟩
def DA(text_0:ByteArray)(l8:Nat)(l9:Nat)(at10:Nat)(i11:Nat)(l12:List ByteArray) :T ((Nat×Nat×Nat×(List ByteArray))⊕((Nat×Nat×Nat×(List ByteArray))⊕(bH))) :=
  .ask (decide (((i11:Nat):Int)<((text_0.size:Nat):Int)))
    (.need (oK ((i11:Nat):Int) text_0.size)<|.ask ((aD text_0 i11)==(10:Int))
      (.need (pT ((i11:Nat):Int) text_0.size)<|.need (pT ((at10:Nat):Int) i11)<|.need (fS ((l8+1)*16) 140737488355328)<|.need (fS (l8+1) 9223372036854775807)<|.need (fS 1 (List.length [(text_0.extract at10 i11)]))<|.need (fS l8 (List.length l12))<|.need (fw .i64 (((i11+1):Nat):Int))<|.leaf (.inl ((l8+1),(l8+1),(i11+1),((List.take l8 l12)++(List.take 1 [(text_0.extract at10 i11)])))))
      (.leaf (.inl (l8,l9,at10,l12))))
    (.leaf (.inr (.inl (l8,l9,at10,l12))))
def DB(i11:Nat)(l13:Nat)(l14:Nat)(at15:Nat)(l16:List ByteArray) :T ((Nat×Nat×Nat×Nat×(List ByteArray))⊕((Nat×Nat×Nat×(List ByteArray))⊕(bH))) :=
  .need (fw .i64 (((i11+1):Nat):Int))<|.leaf (.inl (l13,l14,at15,(i11+1),l16))
noncomputable def ph(text_0:ByteArray) :Nat×Nat×Nat×Nat×(List ByteArray)→Option ((Nat×Nat×Nat×Nat×(List ByteArray))⊕((Nat×Nat×Nat×(List ByteArray))⊕(bH))):=fun (l8,l9,at10,i11,l12) =>
  aT ((DA text_0 l8 l9 at10 i11 l12).run) fun (l13,l14,at15,l16) =>
  (DB i11 l13 l14 at15 l16).run
theorem DC(text_0:ByteArray)(l8:Nat)(l9:Nat)(at10:Nat)(i11:Nat)(l12:List ByteArray) :Sg prog [] Dz (mH text_0 (l8,l9,at10,i11,l12)) (ph text_0 (l8,l9,at10,i11,l12)) (mH text_0) (eE 0 (vK text_0) oj):=by
  unfold ph;exact Sg.cut 3 (cH mG) (cp iW (Gf text_0 i11) [⟨[],[225],[0,4,5,6]⟩,⟨[],[0],[0,4,5,6]⟩,⟨[],[0],[0,4,5]⟩]) (fun ⟨l13,l14,at15,l16⟩=>cp iW (mH text_0) [⟨[],[0],[0,4,5,6]⟩])
def DD(text_0:ByteArray)(l17:Nat)(l18:Nat)(at19:Nat)(l20:List ByteArray) :T ((Empty)⊕(bH)) :=
  .need (pT ((text_0.size:Nat):Int) text_0.size)<|.need (pT ((at19:Nat):Int) text_0.size)<|.leaf (.inr (.r0 l17 l18 (text_0.extract at19 text_0.size) l20))
noncomputable def dw(text_0:ByteArray) :Option bH:=ur (aT ((Dy).run) fun _ =>
  aT (cO (ph text_0) (0,0,0,0,([]:List ByteArray))) fun (l17,l18,at19,l20) =>
  (DD text_0 l17 l18 at19 l20).run)
theorem Gg(text_0:ByteArray){x:bH}(h:dw text_0=some x) :ak prog ry [] [.str text_0] (rT x) :=
  xc false rT oj h (Sg.cut 4 mG (cp iW (Ge text_0) [⟨[],[],[0,4,5,6]⟩]) (fun _=>Sg.cut 1 mG (LW ⟨[(.slot 4,.own 1 1 (.ss ([]:List ByteArray)))],[0],[0,4,5,6]⟩ (mH text_0) (vK text_0) 0 mG (Gd _) (fun ⟨l8,l9,at10,i11,l12⟩=>DC text_0 l8 l9 at10 i11 l12)) (fun ⟨l17,l18,at19,l20⟩=>cp iW uF [⟨[],[0],[2,3]⟩])))
    (fun x=>by cases x with | r0 a21 a22 s23 l24=>exact ra [.sl 0 1 1 0 a21 a22,.str s23])
def mI:Option bH→Bool
  | some _=>true
  | none=>false
def nK:Option bH→Nat
  | some (.r0 x _ _ _)=>x
  | _=>0
def nL:Option bH→Nat
  | some (.r0 _ x _ _)=>x
  | _=>0
def nM:Option bH→ByteArray
  | some (.r0 _ _ x _)=>x
  | _=>ByteArray.empty
def nN:Option bH→List ByteArray
  | some (.r0 _ _ _ x)=>x
  | _=>[]
theorem Gh{x:Option bH}(h:mI x=true) :x=some (.r0 (nK x) (nL x) (nM x) (nN x)):=by
  unfold mI at h
  split at h<;>first | rfl | (cases h;done) | (rename_i y;cases y;rfl)
noncomputable def xF:aK:=cT ry (.cons .str .nil) fun t=>(fun q=>[⟨rT (.r0 (nK q) (nL q) (nM q) (nN q)),[mI q]⟩]) (dw t.1)
theorem B1:aV prog xF:=aU fun t=>(aZ (fun h=>Gg t.1 (Gh h)) bI)
noncomputable def xG:List aK:=xF::CC
theorem dZ:bo prog (bt xG):=au B1 iW
inductive cK where
  | r0 (i9:Int)
def ri:cK→AE×az
  | .r0 i9=>(.ret,⟨an 46 [(2,.int .i64 i9)],[],0⟩)
theorem mJ:qZ ri:=by intro x;cases x<;>(intro h;cases h)
theorem Jy(id:Nat) :pF id ri:=by intro x;cases x<;>(intro h;cases h)
def vL:cK→mW
  | .r0 i9=>⟨.int .i64 i9,[]⟩
noncomputable def Jz:List Code:=cN (qI va)
def JA(s_0:ByteArray)(b1:Bool) :az:=⟨an 46 [(0,.str s_0),(12,.bool false b1)],[],0⟩
def xH(s_0:ByteArray) :T ((Bool)⊕(cK)) :=
  .ask (decide (((s_0.size:Nat):Int)<(1:Int)))
    (.leaf (.inl true))
    (.leaf (.inl (decide (((s_0.size:Nat):Int)>(3:Int)))))
def JB(s_0:ByteArray)(_:Unit) :az:=⟨an 46 [(0,.str s_0),(3,.int .i64 (0:Int)),(4,.int .i64 (0:Int))],[],0⟩
def xI(b1:Bool) :T ((Unit)⊕(cK)) :=
  .ask b1
    (.leaf (.inr (.r0 (-1:Int))))
    (.leaf (.inl ()))
def pQ(s_0:ByteArray) :Int×Nat→az:=fun (n4,i5)=>⟨an 46 [(0,.str s_0),(3,.int .i64 n4),(4,.int .i64 ((i5:Nat):Int))],[],0⟩
def AA(s_0:ByteArray)(n6:Int) :az:=⟨an 46 [(0,.str s_0),(3,.int .i64 n6)],[],0⟩
noncomputable def HC:List Code:=cN (fA (((((Jz.drop 2).drop 3).take 1)).headD .skip))
def rU(s_0:ByteArray)(n4:Int)(i5:Nat) :T ((Int×Nat)⊕((Int)⊕(cK))) :=
  .ask (decide (((i5:Nat):Int)<((s_0.size:Nat):Int)))
    (.need (oK ((i5:Nat):Int) s_0.size)<|.ask (decide ((aD s_0 i5)<(48:Int)))
      (.leaf (.inr (.inr (.r0 (-1:Int)))))
      (.need (oK ((i5:Nat):Int) s_0.size)<|.ask (decide ((aD s_0 i5)>(57:Int)))
        (.leaf (.inr (.inr (.r0 (-1:Int)))))
        (.need (fw .i64 (n4*(10:Int)))<|.need (oK ((i5:Nat):Int) s_0.size)<|.need (fw .i64 ((n4*(10:Int))+(IntKind.i64.wrap (IntKind.u8.wrap ((aD s_0 i5)-(48:Int))))))<|.need (fw .i64 (((i5+1):Nat):Int))<|.leaf (.inl (((n4*(10:Int))+(IntKind.i64.wrap (IntKind.u8.wrap ((aD s_0 i5)-(48:Int))))),(i5+1))))))
    (.leaf (.inr (.inl n4)))
noncomputable def eN(s_0:ByteArray) :Int×Nat→Option ((Int×Nat)⊕((Int)⊕(cK))):=fun (n4,i5) =>
  (rU s_0 n4 i5).run
theorem HD(s_0:ByteArray)(n4:Int)(i5:Nat) :Sg prog [] HC (pQ s_0 (n4,i5)) (eN s_0 (n4,i5)) (pQ s_0) (eE 0 (AA s_0) ri):=by
  unfold eN;exact cp dZ (pQ s_0) [⟨[],[],[2]⟩,⟨[],[],[2]⟩,⟨[],[],[0,3,4]⟩,⟨[],[],[0,3]⟩]
def JC(n6:Int)(b7:Bool) :az:=⟨an 46 [(3,.int .i64 n6),(44,.bool false b7)],[],0⟩
def xJ(s_0:ByteArray)(n6:Int) :T ((Bool)⊕(cK)) :=
  .ask (decide (n6>(512:Int)))
    (.leaf (.inl true))
    (.need (fw .i64 n6)<|.leaf (.inl (!((bj n6).toList==s_0.toList))))
def HE(n6:Int)(b7:Bool) :T ((Empty)⊕(cK)) :=
  .ask b7
    (.leaf (.inr (.r0 (-1:Int))))
    (.leaf (.inr (.r0 n6)))
noncomputable def fv(s_0:ByteArray) :Option cK:=ur (aT ((xH s_0).run) fun b1 =>
  aT ((xI b1).run) fun _ =>
  aT (cO (eN s_0) ((0:Int),0)) fun n6 =>
  aT ((xJ s_0 n6).run) fun b7 =>
  (HE n6 b7).run)
theorem JD(s_0:ByteArray){x:cK}(h:fv s_0=some x) :ak prog va [] [.str s_0] (vL x) :=
  xc false vL ri h (Sg.cut 2 mJ (cp dZ (JA s_0) [⟨[],[],[0,12]⟩,⟨[],[],[0,12]⟩]) (fun b1=>Sg.cut 3 mJ (cp dZ (JB s_0) [⟨[],[],[2]⟩,⟨[],[],[0,3,4]⟩]) (fun _=>Sg.cut 1 mJ (LW ⟨[],[],[0,3,4]⟩ (pQ s_0) (AA s_0) 0 mJ (Jy _) (fun ⟨n4,i5⟩=>HD s_0 n4 i5)) (fun n6=>Sg.cut 1 mJ (cp dZ (JC n6) [⟨[],[],[3,44]⟩,⟨[],[],[3,44]⟩]) (fun b7=>cp dZ uF [⟨[],[],[2]⟩,⟨[],[],[2]⟩])))))
    (fun x=>by cases x with | r0 i9=>exact ra [.int .i64 i9])
def mK:Option cK→Bool
  | some _=>true
  | none=>false
def mL:Option cK→Int
  | some (.r0 x)=>x
  | _=>0
theorem JE{x:Option cK}(h:mK x=true) :x=some (.r0 (mL x)):=by
  unfold mK at h
  split at h<;>first | rfl | (cases h;done) | (rename_i y;cases y;rfl)
noncomputable def CD:aK:=cT va (.cons .str .nil) fun t=>(fun q=>[⟨vL (.r0 (mL q)),[mK q]⟩]) (fv t.1)
theorem Gi:aV prog CD:=aU fun t=>(aZ (fun h=>JD t.1 (JE h)) bI)
noncomputable def CE:List aK:=CD::xG
theorem fo:bo prog (bt CE):=au Gi dZ
inductive bE where
  | r0 (i9:Int) (i10:Int) (b11:Bool)
def vM:bE→AE×az
  | .r0 i9 i10 b11=>(.ret,⟨an 35 [(2,.int .i64 i9),(3,.int .i64 i10),(4,.bool false b11)],[],0⟩)
theorem lx:qZ vM:=by intro x;cases x<;>(intro h;cases h)
def qA:bE→mW
  | .r0 i9 i10 b11=>⟨.tup [.int .i64 i9,.int .i64 i10,.bool false b11],[]⟩
def DE:Nat×Nat×(List ByteArray)→az:=fun (w1,w2,l3)=>⟨an 35 [(5,.sl 0 1 1 0 w1 w2)],[(0,.ss l3)],1⟩
def pj(s_0:ByteArray) :T ((Nat×Nat×(List ByteArray))⊕(bE)) :=
  .need (fa (bv s_0))<|.leaf (.inl ((fb (bv s_0)),(fc (bv s_0)),(fe (bv s_0))))
def DF(w1:Nat)(w2:Nat)(l3:List ByteArray)(b4:Bool) :az:=⟨an 35 [(5,.sl 0 1 1 0 w1 w2),(18,.bool false b4)],[(0,.ss l3)],1⟩
def un(w1:Nat)(l3:List ByteArray) :T ((Bool)⊕(bE)) :=
  .ask (((w1:Nat):Int) != (3:Int))
    (.leaf (.inl true))
    (.need (oK (0:Int) w1)<|.need (gO 0 (List.length l3))<|.leaf (.inl (!((List.getD l3 0 ByteArray.empty).toList==(ByteArray.mk #[109,97,116,114,105,120]).toList))))
def DG:Int×Int→az:=fun (m5,n6)=>⟨an 35 [(6,.int .i64 m5),(7,.int .i64 n6)],[],0⟩
def pk(w1:Nat)(l3:List ByteArray)(b4:Bool) :T ((Int×Int)⊕(bE)) :=
  .ask b4
    (.leaf (.inr (.r0 (0:Int) (0:Int) false)))
    (.need (oK (1:Int) w1)<|.need (gO 1 (List.length l3))<|.need (mK (fv (List.getD l3 1 ByteArray.empty)))<|.need (oK (2:Int) w1)<|.need (gO 2 (List.length l3))<|.need (mK (fv (List.getD l3 2 ByteArray.empty)))<|.leaf (.inl ((mL (fv (List.getD l3 1 ByteArray.empty))),(mL (fv (List.getD l3 2 ByteArray.empty))))))
def DH(m5:Int)(n6:Int)(b7:Bool) :az:=⟨an 35 [(2,.int .i64 m5),(3,.int .i64 n6),(4,.bool false b7)],[],0⟩
def uo(m5:Int)(n6:Int) :T ((Bool)⊕(bE)) :=
  .ask (decide (m5≥(0:Int)))
    (.leaf (.inl (decide (n6≥(0:Int)))))
    (.leaf (.inl false))
def B2(m5:Int)(n6:Int)(b7:Bool) :T ((Empty)⊕(bE)) :=
  .leaf (.inr (.r0 m5 n6 b7))
noncomputable def dA(s_0:ByteArray) :Option bE:=ur (aT ((pj s_0).run) fun (w1,w2,l3) =>
  aT ((un w1 l3).run) fun b4 =>
  aT ((pk w1 l3 b4).run) fun (m5,n6) =>
  aT ((uo m5 n6).run) fun b7 =>
  (B2 m5 n6 b7).run)
theorem DI(s_0:ByteArray){x:bE}(h:dA s_0=some x) :ak prog uZ [] [.str s_0] (qA x) :=
  xc false qA vM h (Sg.cut 2 lx (cp fo DE [⟨[],[64],[5]⟩]) (fun ⟨w1,w2,l3⟩=>Sg.cut 1 lx (cp fo (DF w1 w2 l3) [⟨[],[0],[5,18]⟩,⟨[],[0],[5,18]⟩]) (fun b4=>Sg.cut 2 lx (cp fo DG [⟨[],[],[2,3,4]⟩,⟨[],[],[6,7]⟩]) (fun ⟨m5,n6⟩=>Sg.cut 1 lx (cp fo (DH m5 n6) [⟨[],[],[2,3,4]⟩,⟨[],[],[2,3,4]⟩]) (fun b7=>cp fo uF [⟨[],[],[2,3,4]⟩])))))
    (fun x=>by cases x with | r0 i9 i10 b11=>exact ra [.int .i64 i9,.int .i64 i10,.bool false b11])
def ly:Option bE→Bool
  | some _=>true
  | none=>false
def mM:Option bE→Int
  | some (.r0 x _ _)=>x
  | _=>0
def mN:Option bE→Int
  | some (.r0 _ x _)=>x
  | _=>0
def mO:Option bE→Bool
  | some (.r0 _ _ x)=>x
  | _=>false
theorem DJ{x:Option bE}(h:ly x=true) :x=some (.r0 (mM x) (mN x) (mO x)):=by
  unfold ly at h
  split at h<;>first | rfl | (cases h;done) | (rename_i y;cases y;rfl)
noncomputable def vN:aK:=cT uZ (.cons .str .nil) fun t=>(fun q=>[⟨qA (.r0 (mM q) (mN q) (mO q)),[ly q]⟩]) (dA t.1)
theorem AB:aV prog vN:=aU fun t=>(aZ (fun h=>DI t.1 (DJ h)) bI)
noncomputable def vO:List aK:=vN::CE
theorem bX:bo prog (bt vO):=au AB fo
inductive aQ where
  | r0 (i33:Int) (b34:Bool) (a35:Nat) (i36:Int) (i37:Int) (a38:Nat) (a39:Nat) (i40:Int) (i41:Int) (l42:List Int)
def rj:aQ→AE×az
  | .r0 i33 b34 a35 i36 i37 a38 a39 i40 i41 l42=>(.ret,⟨an 101 [(4,.ptr 0 1 0 0),(5,.int .i64 i33),(6,.bool false b34)],[(0,.vs [.int .i64 ((a35:Nat):Int),.int .i64 i36,.int .i64 i37,.sl 1 1 1 0 a38 a39,.int .i64 i40,.int .u64 i41]),(1,.ns .u64 l42)],2⟩)
theorem eK:qZ rj:=by intro x;cases x<;>(intro h;cases h)
theorem JF(id:Nat) :pF id rj:=by intro x;cases x<;>(intro h;cases h)
def vP:aQ→mW
  | .r0 i33 b34 a35 i36 i37 a38 a39 i40 i41 l42=>⟨.tup [.agg [.int .i64 ((a35:Nat):Int),.int .i64 i36,.int .i64 i37,.imm .free (.ns .u64 l42) 1 1 0 a38,.int .i64 i40,.int .u64 i41],.int .i64 i33,.bool false b34],[]⟩
noncomputable def HF:List Code:=cN (qI qW)
def JG(v_0:Lv)(l_1:List ByteArray)(at_2:Int) :Int×Int×Bool→az:=fun (m1,n2,ok3)=>⟨an 101 [(0,.imm v_0 (.ss l_1) 1 1 0 (List.length l_1)),(1,.int .i64 at_2),(4,.ptr 0 1 0 0),(7,.int .i64 m1),(8,.int .i64 n2),(9,.bool false ok3)],[(0,.vs [.int .i64 (0:Int),.int .i64 (0:Int),.int .i64 (0:Int),.nsl,.int .i64 (0:Int),.int .u64 (0:Int)])],1⟩
def rV(l_1:List ByteArray)(at_2:Int) :T ((Int×Int×Bool)⊕(aQ)) :=
  .need (oK at_2 (List.length l_1))<|.need (gO (Int.toNat at_2) (List.length l_1))<|.need (ly (dA (List.getD l_1 (Int.toNat at_2) ByteArray.empty)))<|.leaf (.inl ((mM (dA (List.getD l_1 (Int.toNat at_2) ByteArray.empty))),(mN (dA (List.getD l_1 (Int.toNat at_2) ByteArray.empty))),(mO (dA (List.getD l_1 (Int.toNat at_2) ByteArray.empty)))))
def JH(v_0:Lv)(l_1:List ByteArray)(m1:Int)(n2:Int)(at4:Int) :az:=⟨an 101 [(0,.imm v_0 (.ss l_1) 1 1 0 (List.length l_1)),(1,.int .i64 at4),(4,.ptr 0 1 0 0),(7,.int .i64 m1),(8,.int .i64 n2),(10,.nsl),(11,.int .i64 (0:Int))],[(0,.vs [.int .i64 (0:Int),.int .i64 (0:Int),.int .i64 (0:Int),.nsl,.int .i64 (0:Int),.int .u64 (0:Int)])],1⟩
def xK(at_2:Int)(ok3:Bool) :T ((Int)⊕(aQ)) :=
  .ask (!ok3)
    (.leaf (.inr (.r0 at_2 false 0 (0:Int) (0:Int) 0 0 (0:Int) (0:Int) ([]:List Int))))
    (.need (fw .i64 (at_2+(1:Int)))<|.leaf (.inl (at_2+(1:Int))))
def pR(v_0:Lv)(l_1:List ByteArray)(m1:Int)(n2:Int) :Int×Nat×Nat×Nat×(List Int)→az:=fun (at14,words15,words16,i17,l18)=>⟨an 101 [(0,.imm v_0 (.ss l_1) 1 1 0 (List.length l_1)),(1,.int .i64 at14),(4,.ptr 0 1 0 0),(7,.int .i64 m1),(8,.int .i64 n2),(10,.sl 1 1 1 0 words15 words16),(11,.int .i64 ((i17:Nat):Int))],[(0,.vs [.int .i64 (0:Int),.int .i64 (0:Int),.int .i64 (0:Int),.nsl,.int .i64 (0:Int),.int .u64 (0:Int)]),(1,.ns .u64 l18)],2⟩
def xL(v_0:Lv)(l_1:List ByteArray)(m1:Int)(n2:Int) :Int×Nat×Nat×(List Int)→az:=fun (at23,words24,words25,l26)=>⟨an 101 [(0,.imm v_0 (.ss l_1) 1 1 0 (List.length l_1)),(1,.int .i64 at23),(4,.ptr 0 1 0 0),(7,.int .i64 m1),(8,.int .i64 n2),(10,.sl 1 1 1 0 words24 words25)],[(0,.vs [.int .i64 (0:Int),.int .i64 (0:Int),.int .i64 (0:Int),.nsl,.int .i64 (0:Int),.int .u64 (0:Int)]),(1,.ns .u64 l26)],2⟩
noncomputable def HG:List Code:=cN (fA (((((HF.drop 2).drop 5).take 1)).headD .skip))
def HH(v_0:Lv)(l_1:List ByteArray)(m1:Int)(n2:Int)(at14:Int)(words15:Nat)(words16:Nat)(i17:Nat)(l18:List Int)(b19:Bool) :az:=⟨an 101 [(0,.imm v_0 (.ss l_1) 1 1 0 (List.length l_1)),(1,.int .i64 at14),(4,.ptr 0 1 0 0),(7,.int .i64 m1),(8,.int .i64 n2),(10,.sl 1 1 1 0 words15 words16),(11,.int .i64 ((i17:Nat):Int)),(37,.bool false b19)],[(0,.vs [.int .i64 (0:Int),.int .i64 (0:Int),.int .i64 (0:Int),.nsl,.int .i64 (0:Int),.int .u64 (0:Int)]),(1,.ns .u64 l18)],2⟩
def ol(m1:Int)(n2:Int)(i17:Nat) :T ((Bool)⊕((Int×Nat×Nat×(List Int))⊕(aQ))) :=
  .ask (decide (((i17:Nat):Int)<m1))
    (.leaf (.inl (decide (n2>(0:Int)))))
    (.leaf (.inl false))
def HI(v_0:Lv)(l_1:List ByteArray)(m1:Int)(n2:Int)(i17:Nat) :Int×Nat×(List Int)→az:=fun (at20,words21,l22)=>⟨an 101 [(0,.imm v_0 (.ss l_1) 1 1 0 (List.length l_1)),(1,.int .i64 at20),(4,.ptr 0 1 0 0),(7,.int .i64 m1),(8,.int .i64 n2),(10,.sl 1 1 1 0 words21 words21),(11,.int .i64 ((i17:Nat):Int))],[(0,.vs [.int .i64 (0:Int),.int .i64 (0:Int),.int .i64 (0:Int),.nsl,.int .i64 (0:Int),.int .u64 (0:Int)]),(1,.ns .u64 l22)],2⟩
def om(l_1:List ByteArray)(n2:Int)(at14:Int)(words15:Nat)(words16:Nat)(l18:List Int)(b19:Bool) :T ((Int×Nat×(List Int))⊕((Int×Nat×Nat×(List Int))⊕(aQ))) :=
  .ask b19
    (.ask (decide (at14≥(((List.length l_1):Nat):Int)))
      (.leaf (.inr (.inr (.r0 at14 false 0 (0:Int) (0:Int) 0 0 (0:Int) (0:Int) ([]:List Int)))))
      (.need (oK at14 (List.length l_1))<|.need (gO (Int.toNat at14) (List.length l_1))<|.need (mA (bG (List.getD l_1 (Int.toNat at14) ByteArray.empty)))<|.ask (!(nE (bG (List.getD l_1 (Int.toNat at14) ByteArray.empty))))
        (.leaf (.inr (.inr (.r0 at14 false 0 (0:Int) (0:Int) 0 0 (0:Int) (0:Int) ([]:List Int)))))
        (.ask ((((cJ (bG (List.getD l_1 (Int.toNat at14) ByteArray.empty))):Nat):Int) != n2)
          (.leaf (.inr (.inr (.r0 at14 false 0 (0:Int) (0:Int) 0 0 (0:Int) (0:Int) ([]:List Int)))))
          (.need (fS ((words15+(cJ (bG (List.getD l_1 (Int.toNat at14) ByteArray.empty))))*8) 140737488355328)<|.need (fS (words15+(cJ (bG (List.getD l_1 (Int.toNat at14) ByteArray.empty)))) 9223372036854775807)<|.need (fS (cJ (bG (List.getD l_1 (Int.toNat at14) ByteArray.empty))) (List.length (jk (bG (List.getD l_1 (Int.toNat at14) ByteArray.empty)))))<|.need (fS words15 (List.length l18))<|.need (fw .i64 (at14+(1:Int)))<|.leaf (.inl ((at14+(1:Int)),(words15+(cJ (bG (List.getD l_1 (Int.toNat at14) ByteArray.empty)))),((List.take words15 l18)++(List.take (cJ (bG (List.getD l_1 (Int.toNat at14) ByteArray.empty))) (jk (bG (List.getD l_1 (Int.toNat at14) ByteArray.empty)))))))))))
    (.leaf (.inr (.inl (at14,words15,words16,l18))))
def HJ(i17:Nat)(at20:Int)(words21:Nat)(l22:List Int) :T ((Int×Nat×Nat×Nat×(List Int))⊕((Int×Nat×Nat×(List Int))⊕(aQ))) :=
  .need (fw .i64 (((i17+1):Nat):Int))<|.leaf (.inl (at20,words21,words21,(i17+1),l22))
noncomputable def ld(l_1:List ByteArray)(m1:Int)(n2:Int) :Int×Nat×Nat×Nat×(List Int)→Option ((Int×Nat×Nat×Nat×(List Int))⊕((Int×Nat×Nat×(List Int))⊕(aQ))):=fun (at14,words15,words16,i17,l18) =>
  aT ((ol m1 n2 i17).run) fun b19 =>
  aT ((om l_1 n2 at14 words15 words16 l18 b19).run) fun (at20,words21,l22) =>
  (HJ i17 at20 words21 l22).run
theorem HK(v_0:Lv)(l_1:List ByteArray)(m1:Int)(n2:Int)(at14:Int)(words15:Nat)(words16:Nat)(i17:Nat)(l18:List Int) :Sg prog [] HG (pR v_0 l_1 m1 n2 (at14,words15,words16,i17,l18)) (ld l_1 m1 n2 (at14,words15,words16,i17,l18)) (pR v_0 l_1 m1 n2) (eE 0 (xL v_0 l_1 m1 n2) rj):=by
  unfold ld;exact Sg.cut 1 (cH eK) (cp bX (HH v_0 l_1 m1 n2 at14 words15 words16 i17 l18) [⟨[],[0,1],[0,1,4,7,8,10,11,37]⟩,⟨[],[0,1],[0,1,4,7,8,10,11,37]⟩]) (fun b19=>Sg.cut 2 (cH eK) (cp bX (HI v_0 l_1 m1 n2 i17) [⟨[(.cell 0 3,.own 1 1 (.ns .u64 ([]:List Int)))],[0,146],[4,5,6]⟩,⟨[(.cell 0 3,.own 1 1 (.ns .u64 ([]:List Int)))],[0,434],[4,5,6]⟩,⟨[(.cell 0 3,.own 1 1 (.ns .u64 ([]:List Int)))],[0,434],[4,5,6]⟩,⟨[],[0,386],[0,1,4,7,8,10,11]⟩,⟨[],[0,1],[0,1,4,7,8,10]⟩]) (fun ⟨at20,words21,l22⟩=>cp bX (pR v_0 l_1 m1 n2) [⟨[],[0,1],[0,1,4,7,8,10,11]⟩]))
def HL(m1:Int)(n2:Int)(at23:Int)(words24:Nat)(words25:Nat)(l26:List Int) :Bool×Nat×Int×Int→az:=fun (is27,a28,i29,i30)=>⟨an 101 [(1,.int .i64 at23),(4,.ptr 0 1 0 0),(7,.int .i64 m1),(8,.int .i64 n2),(10,.sl 1 1 1 0 words24 words25),(14,.ptr 2 1 0 0),(15,.bool false is27)],[(0,.vs [.int .i64 (0:Int),.int .i64 (0:Int),.int .i64 (0:Int),.nsl,.int .i64 (0:Int),.int .u64 (0:Int)]),(1,.ns .u64 l26),(2,.vs [.int .i64 ((a28:Nat):Int),.int .i64 (0:Int),.int .i64 (0:Int),.nsl,.int .i64 i29,.int .u64 i30])],3⟩
def rW(l_1:List ByteArray)(at23:Int) :T ((Bool×Nat×Int×Int)⊕(aQ)) :=
  .ask (decide (at23≥(((List.length l_1):Nat):Int)))
    (.leaf (.inr (.r0 at23 false 0 (0:Int) (0:Int) 0 0 (0:Int) (0:Int) ([]:List Int))))
    (.need (oK at23 (List.length l_1))<|.need (gO (Int.toNat at23) (List.length l_1))<|.need (lu (cy (List.getD l_1 (Int.toNat at23) ByteArray.empty)))<|.leaf (.inl ((mu (cy (List.getD l_1 (Int.toNat at23) ByteArray.empty))),(mv (cy (List.getD l_1 (Int.toNat at23) ByteArray.empty))),(mw (cy (List.getD l_1 (Int.toNat at23) ByteArray.empty))),(my (cy (List.getD l_1 (Int.toNat at23) ByteArray.empty))))))
def HM(m1:Int)(n2:Int)(at23:Int)(words24:Nat)(words25:Nat)(l26:List Int)(a28:Nat)(i29:Int)(i30:Int)(b31:Bool) :az:=⟨an 101 [(1,.int .i64 at23),(4,.ptr 0 1 0 0),(14,.ptr 1 1 0 0),(95,.bool false b31)],[(0,.vs [.int .i64 (0:Int),.int .i64 (0:Int),.int .i64 (0:Int),.nsl,.int .i64 (0:Int),.int .u64 (0:Int)]),(1,.vs [.int .i64 ((a28:Nat):Int),.int .i64 m1,.int .i64 n2,.sl 2 1 1 0 words24 words25,.int .i64 i29,.int .u64 i30]),(2,.ns .u64 l26)],3⟩
def rX(m1:Int)(n2:Int)(words24:Nat)(l26:List Int)(is27:Bool)(a28:Nat)(i29:Int)(i30:Int) :T ((Bool)⊕(aQ)) :=
  .ask (!is27)
    (.leaf (.inl true))
    (.need (se 0 words24 l26)<|.need (pP (lS ((a28:Nat):Int) m1 n2 (dq 0 words24 l26) i29 i30))<|.leaf (.inl (!(qz (lS ((a28:Nat):Int) m1 n2 (dq 0 words24 l26) i29 i30)))))
def HN(m1:Int)(n2:Int)(at23:Int)(words24:Nat)(words25:Nat)(l26:List Int)(a28:Nat)(i29:Int)(i30:Int)(b31:Bool) :T ((Empty)⊕(aQ)) :=
  .ask b31
    (.leaf (.inr (.r0 at23 false 0 (0:Int) (0:Int) 0 0 (0:Int) (0:Int) ([]:List Int))))
    (.need (fw .i64 (at23+(1:Int)))<|.leaf (.inr (.r0 (at23+(1:Int)) true a28 m1 n2 words24 words25 i29 i30 l26)))
noncomputable def aW(l_1:List ByteArray)(at_2:Int) :Option aQ:=ur (aT ((rV l_1 at_2).run) fun (m1,n2,ok3) =>
  aT ((xK at_2 ok3).run) fun at4 =>
  aT (cO (ld l_1 m1 n2) (at4,0,0,0,([]:List Int))) fun (at23,words24,words25,l26) =>
  aT ((rW l_1 at23).run) fun (is27,a28,i29,i30) =>
  aT ((rX m1 n2 words24 l26 is27 a28 i29 i30).run) fun b31 =>
  (HN m1 n2 at23 words24 words25 l26 a28 i29 i30 b31).run)
theorem JI(v_0:Lv)(l_1:List ByteArray)(at_2:Int){x:aQ}(h:aW l_1 at_2=some x) :ak prog qW [] [.imm v_0 (.ss l_1) 1 1 0 (List.length l_1),.int .i64 at_2] (vP x) :=
  xc true vP rj h (Sg.cut 2 eK (cp bX (JG v_0 l_1 at_2) [⟨[],[0],[0,1,4,7,8,9]⟩]) (fun ⟨m1,n2,ok3⟩=>Sg.cut 5 eK (cp bX (JH v_0 l_1 m1 n2) [⟨[(.cell 0 3,.own 1 1 (.ns .u64 ([]:List Int)))],[0,113],[4,5,6]⟩,⟨[],[0],[0,1,4,7,8,10,11]⟩]) (fun at4=>Sg.cut 1 eK (LW ⟨[(.slot 10,.own 1 1 (.ns .u64 ([]:List Int)))],[0,1],[0,1,4,7,8,10,11]⟩ (pR v_0 l_1 m1 n2) (xL v_0 l_1 m1 n2) 0 eK (JF _) (fun ⟨at14,words15,words16,i17,l18⟩=>HK v_0 l_1 m1 n2 at14 words15 words16 i17 l18)) (fun ⟨at23,words24,words25,l26⟩=>Sg.cut 3 eK (cp bX (HL m1 n2 at23 words24 words25 l26) [⟨[(.cell 0 3,.own 1 1 (.ns .u64 ([]:List Int)))],[0,146],[4,5,6]⟩,⟨[],[0,1,194],[1,4,7,8,10,14,15]⟩]) (fun ⟨is27,a28,i29,i30⟩=>Sg.cut 2 eK (cp bX (HM m1 n2 at23 words24 words25 l26 a28 i29 i30) [⟨[],[0,2,1],[1,4,14,95]⟩,⟨[],[0,2,1],[1,4,14,95]⟩]) (fun b31=>cp bX uF [⟨[(.cell 0 3,.own 1 1 (.ns .u64 ([]:List Int)))],[0,83],[4,5,6]⟩,⟨[],[0,2],[4,5,6]⟩]))))))
    (fun x=>by cases x with | r0 i33 b34 a35 i36 i37 a38 a39 i40 i41 l42=>exact ra [.agg [.int .i64 ((a35:Nat):Int),.int .i64 i36,.int .i64 i37,.sl 1 1 1 0 a38 a39,.int .i64 i40,.int .u64 i41],.int .i64 i33,.bool false b34])
def pS:Option aQ→Bool
  | some _=>true
  | none=>false
def mP:Option aQ→Int
  | some (.r0 x _ _ _ _ _ _ _ _ _)=>x
  | _=>0
def qB:Option aQ→Bool
  | some (.r0 _ x _ _ _ _ _ _ _ _)=>x
  | _=>false
def qC:Option aQ→Nat
  | some (.r0 _ _ x _ _ _ _ _ _ _)=>x
  | _=>0
def qD:Option aQ→Int
  | some (.r0 _ _ _ x _ _ _ _ _ _)=>x
  | _=>0
def qE:Option aQ→Int
  | some (.r0 _ _ _ _ x _ _ _ _ _)=>x
  | _=>0
def mQ:Option aQ→Nat
  | some (.r0 _ _ _ _ _ x _ _ _ _)=>x
  | _=>0
def vQ:Option aQ→Nat
  | some (.r0 _ _ _ _ _ _ x _ _ _)=>x
  | _=>0
def qF:Option aQ→Int
  | some (.r0 _ _ _ _ _ _ _ x _ _)=>x
  | _=>0
def qG:Option aQ→Int
  | some (.r0 _ _ _ _ _ _ _ _ x _)=>x
  | _=>0
def mR:Option aQ→List Int
  | some (.r0 _ _ _ _ _ _ _ _ _ x)=>x
  | _=>[]
theorem JJ{x:Option aQ}(h:pS x=true) :x=some (.r0 (mP x) (qB x) (qC x) (qD x) (qE x) (mQ x) (vQ x) (qF x) (qG x) (mR x)):=by
  unfold pS at h
  split at h<;>first | rfl | (cases h;done) | (rename_i y;cases y;rfl)
noncomputable def CF:aK:=cT qW (.cons .ss (.cons (.int .i64) .nil)) fun t=>(fun q=>[⟨vP (.r0 (mP q) (qB q) (qC q) (qD q) (qE q) (mQ q) (vQ q) (qF q) (qG q) (mR q)),[pS q]⟩]) (aW t.1.2 t.2.1)
theorem Gj:aV prog CF:=aU fun t=>(aZ (fun h=>JI t.1.1 t.1.2 t.2.1 (JJ h)) bI)
noncomputable def CG:List aK:=CF::vO
theorem iX:bo prog (bt CG):=au Gj bX
inductive aE where
  | r0 (a36:Nat) (a37:Nat) (i38:Int) (a39:Nat) (a40:Nat) (l41:List Int) (l42:List Int) (l43:List Int) (l44:List (List Int)) (l45:List Int) (l46:List Int)
def oo:aE→AE×az
  | .r0 a36 a37 i38 a39 a40 l41 l42 l43 l44 l45 l46=>(.ret,⟨an 47 [(2,.sl 0 6 6 0 a36 a37),(3,.int .i64 i38),(4,.int .i64 ((a39:Nat):Int))],[(0,.cols a40 [.ci .i64 l41,.ci .i64 l42,.ci .i64 l43,.cns .u64 l44,.ci .i64 l45,.ci .u64 l46])],1⟩)
theorem mS:qZ oo:=by intro x;cases x<;>(intro h;cases h)
theorem Gk(id:Nat) :pF id oo:=by intro x;cases x<;>(intro h;cases h)
def rY:aE→mW
  | .r0 a36 a37 i38 a39 a40 l41 l42 l43 l44 l45 l46=>⟨.tup [.sl 0 6 6 0 a36 a37,.int .i64 i38,.int .i64 ((a39:Nat):Int)],[some (.cols a40 [.ci .i64 l41,.ci .i64 l42,.ci .i64 l43,.cns .u64 l44,.ci .i64 l45,.ci .u64 l46])]⟩
noncomputable def Gl:List Code:=cN (qI rx)
def Gm:Nat×Nat×ByteArray×(List ByteArray)→az:=fun (l1,l2,rest3,l4)=>⟨an 47 [(5,.sl 0 1 1 0 l1 l2),(6,.str rest3)],[(0,.ss l4)],1⟩
def pm(text_0:ByteArray) :T ((Nat×Nat×ByteArray×(List ByteArray))⊕(aE)) :=
  .ask (decide (((text_0.size:Nat):Int)>(8388608:Int)))
    (.leaf (.inr (.r0 0 0 (0:Int) 3 0 ([]:List Int) ([]:List Int) ([]:List Int) ([]:List (List Int)) ([]:List Int) ([]:List Int))))
    (.need (mI (dw text_0))<|.leaf (.inl ((nK (dw text_0)),(nL (dw text_0)),(nM (dw text_0)),(nN (dw text_0)))))
def Gn(l1:Nat)(l2:Nat)(rest3:ByteArray)(l4:List ByteArray)(_:Unit) :az:=⟨an 47 [(5,.sl 0 1 1 0 l1 l2),(6,.str rest3),(7,.nsl),(8,.int .i64 (0:Int))],[(0,.ss l4)],1⟩
def DK:T ((Unit)⊕(aE)) :=
  .leaf (.inl ())
def mT(l1:Nat)(l2:Nat)(rest3:ByteArray)(l4:List ByteArray) :Nat×Nat×Int×Nat×(List Int)×(List Int)×(List Int)×(List (List Int))×(List Int)×(List Int)→az:=fun (out17,out18,at19,a20,l21,l22,l23,l24,l25,l26)=>⟨an 47 [(5,.sl 0 1 1 0 l1 l2),(6,.str rest3),(7,.sl 1 6 6 0 out17 out18),(8,.int .i64 at19)],[(0,.ss l4),(1,.cols a20 [.ci .i64 l21,.ci .i64 l22,.ci .i64 l23,.cns .u64 l24,.ci .i64 l25,.ci .u64 l26])],2⟩
def vR(l1:Nat)(l2:Nat)(rest3:ByteArray)(l4:List ByteArray) :Nat×Nat×Nat×(List Int)×(List Int)×(List Int)×(List (List Int))×(List Int)×(List Int)→az:=fun (out27,out28,a29,l30,l31,l32,l33,l34,l35)=>⟨an 47 [(5,.sl 0 1 1 0 l1 l2),(6,.str rest3),(7,.sl 1 6 6 0 out27 out28)],[(0,.ss l4),(1,.cols a29 [.ci .i64 l30,.ci .i64 l31,.ci .i64 l32,.cns .u64 l33,.ci .i64 l34,.ci .u64 l35])],2⟩
noncomputable def DL:List Code:=cN (fA (((((Gl.drop 4).drop 2).take 1)).headD .skip))
def pn(l1:Nat)(l4:List ByteArray)(out17:Nat)(out18:Nat)(at19:Int)(a20:Nat)(l21:List Int)(l22:List Int)(l23:List Int)(l24:List (List Int))(l25:List Int)(l26:List Int) :T ((Nat×Nat×Int×Nat×(List Int)×(List Int)×(List Int)×(List (List Int))×(List Int)×(List Int))⊕((Nat×Nat×Nat×(List Int)×(List Int)×(List Int)×(List (List Int))×(List Int)×(List Int))⊕(aE))) :=
  .ask (decide (at19<((l1:Nat):Int)))
    (.need (se 0 l1 l4)<|.need (pS (aW (dq 0 l1 l4) at19))<|.ask (!(qB (aW (dq 0 l1 l4) at19)))
      (.leaf (.inr (.inr (.r0 0 0 (mP (aW (dq 0 l1 l4) at19)) 4 0 ([]:List Int) ([]:List Int) ([]:List Int) ([]:List (List Int)) ([]:List Int) ([]:List Int)))))
      (.need (fS ((out17+1)*64) 140737488355328)<|.need (fS (out17+1) 9223372036854775807)<|.need (fS 6 6)<|.need (fS out17 a20)<|.need (decide (0+(mQ (aW (dq 0 l1 l4) at19))≤List.length (mR (aW (dq 0 l1 l4) at19))))<|.leaf (.inl ((out17+1),(out17+1),(mP (aW (dq 0 l1 l4) at19)),(out17+1),((List.take out17 l21)++[(((qC (aW (dq 0 l1 l4) at19)):Nat):Int)]),((List.take out17 l22)++[(qD (aW (dq 0 l1 l4) at19))]),((List.take out17 l23)++[(qE (aW (dq 0 l1 l4) at19))]),((List.take out17 l24)++[(List.take (mQ (aW (dq 0 l1 l4) at19)) (List.drop 0 (mR (aW (dq 0 l1 l4) at19))))]),((List.take out17 l25)++[(qF (aW (dq 0 l1 l4) at19))]),((List.take out17 l26)++[(qG (aW (dq 0 l1 l4) at19))])))))
    (.leaf (.inr (.inl (out17,out18,a20,l21,l22,l23,l24,l25,l26))))
noncomputable def cD(l1:Nat)(l4:List ByteArray) :Nat×Nat×Int×Nat×(List Int)×(List Int)×(List Int)×(List (List Int))×(List Int)×(List Int)→Option ((Nat×Nat×Int×Nat×(List Int)×(List Int)×(List Int)×(List (List Int))×(List Int)×(List Int))⊕((Nat×Nat×Nat×(List Int)×(List Int)×(List Int)×(List (List Int))×(List Int)×(List Int))⊕(aE))):=fun (out17,out18,at19,a20,l21,l22,l23,l24,l25,l26) =>
  (pn l1 l4 out17 out18 at19 a20 l21 l22 l23 l24 l25 l26).run
theorem DM(l1:Nat)(l2:Nat)(rest3:ByteArray)(l4:List ByteArray)(out17:Nat)(out18:Nat)(at19:Int)(a20:Nat)(l21:List Int)(l22:List Int)(l23:List Int)(l24:List (List Int))(l25:List Int)(l26:List Int) :Sg prog [] DL (mT l1 l2 rest3 l4 (out17,out18,at19,a20,l21,l22,l23,l24,l25,l26)) (cD l1 l4 (out17,out18,at19,a20,l21,l22,l23,l24,l25,l26)) (mT l1 l2 rest3 l4) (eE 0 (vR l1 l2 rest3 l4) oo):=by
  unfold cD;exact cp iX (mT l1 l2 rest3 l4) [⟨[(.slot 2,.own 6 6 (.cols 0 [.ci .i64 ([]:List Int),.ci .i64 ([]:List Int),.ci .i64 ([]:List Int),.cns .u64 ([]:List (List Int)),.ci .i64 ([]:List Int),.ci .u64 ([]:List Int)]))],[338],[2,3,4]⟩,⟨[],[0,322],[5,6,7,8]⟩,⟨[],[0,1],[5,6,7]⟩]
def uq(l1:Nat)(rest3:ByteArray)(out27:Nat)(out28:Nat)(a29:Nat)(l30:List Int)(l31:List Int)(l32:List Int)(l33:List (List Int))(l34:List Int)(l35:List Int) :T ((Empty)⊕(aE)) :=
  .ask (!(rest3.toList==ByteArray.empty.toList))
    (.leaf (.inr (.r0 0 0 ((l1:Nat):Int) 4 0 ([]:List Int) ([]:List Int) ([]:List Int) ([]:List (List Int)) ([]:List Int) ([]:List Int))))
    (.ask (decide (((out27:Nat):Int)>(64:Int)))
      (.leaf (.inr (.r0 0 0 (0:Int) 3 0 ([]:List Int) ([]:List Int) ([]:List Int) ([]:List (List Int)) ([]:List Int) ([]:List Int))))
      (.leaf (.inr (.r0 out27 out28 (0:Int) 0 a29 l30 l31 l32 l33 l34 l35))))
noncomputable def bA(text_0:ByteArray) :Option aE:=ur (aT ((pm text_0).run) fun (l1,l2,rest3,l4) =>
  aT ((DK).run) fun _ =>
  aT (cO (cD l1 l4) (0,0,(0:Int),0,([]:List Int),([]:List Int),([]:List Int),([]:List (List Int)),([]:List Int),([]:List Int))) fun (out27,out28,a29,l30,l31,l32,l33,l34,l35) =>
  (uq l1 rest3 out27 out28 a29 l30 l31 l32 l33 l34 l35).run)
theorem Gp(text_0:ByteArray){x:aE}(h:bA text_0=some x) :ak prog rx [] [.str text_0] (rY x) :=
  xc false rY oo h (Sg.cut 4 mS (cp iX Gm [⟨[(.slot 2,.own 6 6 (.cols 0 [.ci .i64 ([]:List Int),.ci .i64 ([]:List Int),.ci .i64 ([]:List Int),.cns .u64 ([]:List (List Int)),.ci .i64 ([]:List Int),.ci .u64 ([]:List Int)]))],[144],[2,3,4]⟩,⟨[],[112],[5,6]⟩]) (fun ⟨l1,l2,rest3,l4⟩=>Sg.cut 2 mS (cp iX (Gn l1 l2 rest3 l4) [⟨[],[0],[5,6,7,8]⟩]) (fun _=>Sg.cut 1 mS (LW ⟨[(.slot 7,.own 6 6 (.cols 0 [.ci .i64 ([]:List Int),.ci .i64 ([]:List Int),.ci .i64 ([]:List Int),.cns .u64 ([]:List (List Int)),.ci .i64 ([]:List Int),.ci .u64 ([]:List Int)]))],[0,1],[5,6,7,8]⟩ (mT l1 l2 rest3 l4) (vR l1 l2 rest3 l4) 0 mS (Gk _) (fun ⟨out17,out18,at19,a20,l21,l22,l23,l24,l25,l26⟩=>DM l1 l2 rest3 l4 out17 out18 at19 a20 l21 l22 l23 l24 l25 l26)) (fun ⟨out27,out28,a29,l30,l31,l32,l33,l34,l35⟩=>cp iX uF [⟨[(.slot 2,.own 6 6 (.cols 0 [.ci .i64 ([]:List Int),.ci .i64 ([]:List Int),.ci .i64 ([]:List Int),.cns .u64 ([]:List (List Int)),.ci .i64 ([]:List Int),.ci .u64 ([]:List Int)]))],[114],[2,3,4]⟩,⟨[(.slot 2,.own 6 6 (.cols 0 [.ci .i64 ([]:List Int),.ci .i64 ([]:List Int),.ci .i64 ([]:List Int),.cns .u64 ([]:List (List Int)),.ci .i64 ([]:List Int),.ci .u64 ([]:List Int)]))],[130],[2,3,4]⟩,⟨[],[1],[2,3,4]⟩]))))
    (fun x=>by cases x with | r0 a36 a37 i38 a39 a40 l41 l42 l43 l44 l45 l46=>exact ra [.sl 0 6 6 0 a36 a37,.int .i64 i38,.int .i64 ((a39:Nat):Int)])
def mU:Option aE→Bool
  | some _=>true
  | none=>false
def jo:Option aE→Nat
  | some (.r0 x _ _ _ _ _ _ _ _ _ _)=>x
  | _=>0
def jp:Option aE→Nat
  | some (.r0 _ x _ _ _ _ _ _ _ _ _)=>x
  | _=>0
def jq:Option aE→Int
  | some (.r0 _ _ x _ _ _ _ _ _ _ _)=>x
  | _=>0
def jr:Option aE→Nat
  | some (.r0 _ _ _ x _ _ _ _ _ _ _)=>x
  | _=>0
def js:Option aE→Nat
  | some (.r0 _ _ _ _ x _ _ _ _ _ _)=>x
  | _=>0
def jt:Option aE→List Int
  | some (.r0 _ _ _ _ _ x _ _ _ _ _)=>x
  | _=>[]
def ju:Option aE→List Int
  | some (.r0 _ _ _ _ _ _ x _ _ _ _)=>x
  | _=>[]
def jv:Option aE→List Int
  | some (.r0 _ _ _ _ _ _ _ x _ _ _)=>x
  | _=>[]
def jw:Option aE→List (List Int)
  | some (.r0 _ _ _ _ _ _ _ _ x _ _)=>x
  | _=>[]
def jx:Option aE→List Int
  | some (.r0 _ _ _ _ _ _ _ _ _ x _)=>x
  | _=>[]
def gN:Option aE→List Int
  | some (.r0 _ _ _ _ _ _ _ _ _ _ x)=>x
  | _=>[]
theorem Gq{x:Option aE}(h:mU x=true) :x=some (.r0 (jo x) (jp x) (jq x) (jr x) (js x) (jt x) (ju x) (jv x) (jw x) (jx x) (gN x)):=by
  unfold mU at h
  split at h<;>first | rfl | (cases h;done) | (rename_i y;cases y;rfl)
noncomputable def xM:aK:=cT rx (.cons .str .nil) fun t=>(fun q=>[⟨rY (.r0 (jo q) (jp q) (jq q) (jr q) (js q) (jt q) (ju q) (jv q) (jw q) (jx q) (gN q)),[mU q]⟩]) (bA t.1)
theorem B3:aV prog xM:=aU fun t=>(aZ (fun h=>Gp t.1 (Gq h)) bI)
noncomputable def xN:List aK:=xM::CG
theorem cL:bo prog (bt xN):=au B3 iX
inductive aB where
  | r0 (b23:Bool)
def eL:aB→AE×az
  | .r0 b23=>(.ret,⟨an 59 [(2,.bool false b23)],[],0⟩)
theorem bV:qZ eL:=by intro x;cases x<;>(intro h;cases h)
theorem ux(id:Nat) :pF id eL:=by intro x;cases x<;>(intro h;cases h)
def iY:aB→mW
  | .r0 b23=>⟨.bool false b23,[]⟩
noncomputable def tH:List Code:=cN (qI gS)
def uy(text_0:ByteArray) :Nat×(List Int)×(List Int)×(List Int)×(List (List Int))×(List Int)×(List Int)×Int×Int→az:=fun (l1,l2,l3,l4,l5,l6,l7,n8,e9)=>⟨an 59 [(0,.str text_0),(3,.imm .free (.cols l1 [.ci .i64 l2,.ci .i64 l3,.ci .i64 l4,.cns .u64 l5,.ci .i64 l6,.ci .u64 l7]) 6 6 0 l1),(4,.int .i64 n8),(5,.int .i64 e9)],[],0⟩
def cZ(text_0:ByteArray) :T ((Nat×(List Int)×(List Int)×(List Int)×(List (List Int))×(List Int)×(List Int)×Int×Int)⊕(aB)) :=
  .ask (decide (((text_0.size:Nat):Int)>(30000:Int)))
    (.leaf (.inr (.r0 true)))
    (.alt 0
      (.need (RR (aP text_0))<|.leaf (.inl (0,([]:List Int),([]:List Int),([]:List Int),([]:List (List Int)),([]:List Int),([]:List Int),(S9 (aP text_0)),(Ta (aP text_0)))))
      (.alt 1
        (.need (RT (aP text_0))<|.leaf (.inl ((ST (aP text_0)),(Su (aP text_0)),(Sv (aP text_0)),(Sw (aP text_0)),(Sx (aP text_0)),(Sy (aP text_0)),(Sz (aP text_0)),(0:Int),(0:Int))))
        (.fail)))
def uz(l1:Nat)(l2:List Int)(l3:List Int)(l4:List Int)(l5:List (List Int))(l6:List Int)(l7:List Int)(n8:Int)(e9:Int) :Nat×Nat×Int×Nat×Nat×(List Int)×(List Int)×(List Int)×(List (List Int))×(List Int)×(List Int)→az:=fun (want10,want11,m12,no13,a14,l15,l16,l17,l18,l19,l20)=>⟨an 59 [(3,.imm .free (.cols l1 [.ci .i64 l2,.ci .i64 l3,.ci .i64 l4,.cns .u64 l5,.ci .i64 l6,.ci .u64 l7]) 6 6 0 l1),(4,.int .i64 n8),(5,.int .i64 e9),(6,.sl 0 6 6 0 want10 want11),(7,.int .i64 m12),(8,.int .i64 ((no13:Nat):Int))],[(0,.cols a14 [.ci .i64 l15,.ci .i64 l16,.ci .i64 l17,.cns .u64 l18,.ci .i64 l19,.ci .u64 l20])],1⟩
def fN(text_0:ByteArray) :T ((Nat×Nat×Int×Nat×Nat×(List Int)×(List Int)×(List Int)×(List (List Int))×(List Int)×(List Int))⊕(aB)) :=
  .need (mU (bA text_0))<|.leaf (.inl ((jo (bA text_0)),(jp (bA text_0)),(jq (bA text_0)),(jr (bA text_0)),(js (bA text_0)),(jt (bA text_0)),(ju (bA text_0)),(jv (bA text_0)),(jw (bA text_0)),(jx (bA text_0)),(gN (bA text_0))))
def uA(l1:Nat)(l2:List Int)(l3:List Int)(l4:List Int)(l5:List (List Int))(l6:List Int)(l7:List Int)(want10:Nat)(want11:Nat)(a14:Nat)(l15:List Int)(l16:List Int)(l17:List Int)(l18:List (List Int))(l19:List Int)(l20:List Int)(b21:Bool) :az:=⟨an 59 [(3,.imm .free (.cols l1 [.ci .i64 l2,.ci .i64 l3,.ci .i64 l4,.cns .u64 l5,.ci .i64 l6,.ci .u64 l7]) 6 6 0 l1),(6,.sl 0 6 6 0 want10 want11),(41,.bool false b21)],[(0,.cols a14 [.ci .i64 l15,.ci .i64 l16,.ci .i64 l17,.cns .u64 l18,.ci .i64 l19,.ci .u64 l20])],1⟩
def fO(l1:Nat)(n8:Int)(e9:Int)(want10:Nat)(m12:Int)(no13:Nat) :T ((Bool)⊕(aB)) :=
  .ask (((l1:Nat):Int) != ((want10:Nat):Int))
    (.leaf (.inl true))
    (.ask (n8 != m12)
      (.leaf (.inl true))
      (.leaf (.inl (e9 != ((no13:Nat):Int)))))
def uB(l1:Nat)(l2:List Int)(l3:List Int)(l4:List Int)(l5:List (List Int))(l6:List Int)(l7:List Int)(want10:Nat)(want11:Nat)(a14:Nat)(l15:List Int)(l16:List Int)(l17:List Int)(l18:List (List Int))(l19:List Int)(l20:List Int)(_:Unit) :az:=⟨an 59 [(3,.imm .free (.cols l1 [.ci .i64 l2,.ci .i64 l3,.ci .i64 l4,.cns .u64 l5,.ci .i64 l6,.ci .u64 l7]) 6 6 0 l1),(6,.sl 0 6 6 0 want10 want11),(9,.int .i64 (0:Int))],[(0,.cols a14 [.ci .i64 l15,.ci .i64 l16,.ci .i64 l17,.cns .u64 l18,.ci .i64 l19,.ci .u64 l20])],1⟩
def tI(b21:Bool) :T ((Unit)⊕(aB)) :=
  .ask b21
    (.leaf (.inr (.r0 false)))
    (.leaf (.inl ()))
def eD(l1:Nat)(l2:List Int)(l3:List Int)(l4:List Int)(l5:List (List Int))(l6:List Int)(l7:List Int)(want10:Nat)(want11:Nat)(a14:Nat)(l15:List Int)(l16:List Int)(l17:List Int)(l18:List (List Int))(l19:List Int)(l20:List Int)(i22:Nat) :az:=⟨an 59 [(3,.imm .free (.cols l1 [.ci .i64 l2,.ci .i64 l3,.ci .i64 l4,.cns .u64 l5,.ci .i64 l6,.ci .u64 l7]) 6 6 0 l1),(6,.sl 0 6 6 0 want10 want11),(9,.int .i64 ((i22:Nat):Int))],[(0,.cols a14 [.ci .i64 l15,.ci .i64 l16,.ci .i64 l17,.cns .u64 l18,.ci .i64 l19,.ci .u64 l20])],1⟩
def na(_:Unit) :az:=⟨an 59 [],[],0⟩
noncomputable def tJ:List Code:=cN (fA (((((((tH.drop 4).drop 1).drop 1).drop 2).take 1)).headD .skip))
def uC(l1:Nat)(l2:List Int)(l3:List Int)(l4:List Int)(l5:List (List Int))(l6:List Int)(l7:List Int)(want10:Nat)(want11:Nat)(a14:Nat)(l15:List Int)(l16:List Int)(l17:List Int)(l18:List (List Int))(l19:List Int)(l20:List Int)(i22:Nat)(_:Unit) :az:=⟨an 59 [(3,.imm .free (.cols l1 [.ci .i64 l2,.ci .i64 l3,.ci .i64 l4,.cns .u64 l5,.ci .i64 l6,.ci .u64 l7]) 6 6 0 l1),(6,.sl 0 6 6 0 want10 want11),(9,.int .i64 ((i22:Nat):Int))],[(0,.cols a14 [.ci .i64 l15,.ci .i64 l16,.ci .i64 l17,.cns .u64 l18,.ci .i64 l19,.ci .u64 l20])],1⟩
def fP(l1:Nat)(l2:List Int)(l3:List Int)(l4:List Int)(l5:List (List Int))(l6:List Int)(l7:List Int)(want10:Nat)(l15:List Int)(l16:List Int)(l17:List Int)(l18:List (List Int))(l19:List Int)(l20:List Int)(i22:Nat) :T ((Unit)⊕((Unit)⊕(aB))) :=
  .ask (decide (((i22:Nat):Int)<((l1:Nat):Int)))
    (.need (oK ((i22:Nat):Int) l1)<|.need (gO i22 (List.length l2))<|.need (gO i22 (List.length l3))<|.need (gO i22 (List.length l4))<|.need (gO i22 (List.length l5))<|.need (gO i22 (List.length l6))<|.need (gO i22 (List.length l7))<|.need (oK ((i22:Nat):Int) want10)<|.need (gO i22 (List.length l15))<|.need (gO i22 (List.length l16))<|.need (gO i22 (List.length l17))<|.need (gO i22 (List.length l18))<|.need (gO i22 (List.length l19))<|.need (gO i22 (List.length l20))<|.need (se 0 (List.length (List.getD l5 i22 [])) (List.getD l5 i22 []))<|.need (se 0 (List.length (List.getD l18 i22 [])) (List.getD l18 i22 []))<|.need (oi (jl (List.getD l2 i22 0) (List.getD l3 i22 0) (List.getD l4 i22 0) (dq 0 (List.length (List.getD l5 i22 [])) (List.getD l5 i22 [])) (List.getD l6 i22 0) (List.getD l7 i22 0) (List.getD l15 i22 0) (List.getD l16 i22 0) (List.getD l17 i22 0) (dq 0 (List.length (List.getD l18 i22 [])) (List.getD l18 i22 [])) (List.getD l19 i22 0) (List.getD l20 i22 0)))<|.ask (!(pc (jl (List.getD l2 i22 0) (List.getD l3 i22 0) (List.getD l4 i22 0) (dq 0 (List.length (List.getD l5 i22 [])) (List.getD l5 i22 [])) (List.getD l6 i22 0) (List.getD l7 i22 0) (List.getD l15 i22 0) (List.getD l16 i22 0) (List.getD l17 i22 0) (dq 0 (List.length (List.getD l18 i22 [])) (List.getD l18 i22 [])) (List.getD l19 i22 0) (List.getD l20 i22 0))))
      (.leaf (.inr (.inr (.r0 false))))
      (.leaf (.inl ())))
    (.leaf (.inr (.inl ())))
def tK(i22:Nat) :T ((Nat)⊕((Unit)⊕(aB))) :=
  .need (fw .i64 (((i22+1):Nat):Int))<|.leaf (.inl (i22+1))
noncomputable def fQ(l1:Nat)(l2:List Int)(l3:List Int)(l4:List Int)(l5:List (List Int))(l6:List Int)(l7:List Int)(want10:Nat)(l15:List Int)(l16:List Int)(l17:List Int)(l18:List (List Int))(l19:List Int)(l20:List Int) :Nat→Option ((Nat)⊕((Unit)⊕(aB))):=fun i22 =>
  aT ((fP l1 l2 l3 l4 l5 l6 l7 want10 l15 l16 l17 l18 l19 l20 i22).run) fun _ =>
  (tK i22).run
theorem tL(l1:Nat)(l2:List Int)(l3:List Int)(l4:List Int)(l5:List (List Int))(l6:List Int)(l7:List Int)(want10:Nat)(want11:Nat)(a14:Nat)(l15:List Int)(l16:List Int)(l17:List Int)(l18:List (List Int))(l19:List Int)(l20:List Int)(i22:Nat) :Sg prog [] tJ (eD l1 l2 l3 l4 l5 l6 l7 want10 want11 a14 l15 l16 l17 l18 l19 l20 i22) (fQ l1 l2 l3 l4 l5 l6 l7 want10 l15 l16 l17 l18 l19 l20 i22) (eD l1 l2 l3 l4 l5 l6 l7 want10 want11 a14 l15 l16 l17 l18 l19 l20) (eE 0 na eL):=by
  unfold fQ;exact Sg.cut 3 (cH bV) (cp cL (uC l1 l2 l3 l4 l5 l6 l7 want10 want11 a14 l15 l16 l17 l18 l19 l20 i22) [⟨[],[],[2]⟩,⟨[],[0],[3,6,9]⟩,⟨[],[],[]⟩]) (fun _=>cp cL (eD l1 l2 l3 l4 l5 l6 l7 want10 want11 a14 l15 l16 l17 l18 l19 l20) [⟨[],[0],[3,6,9]⟩])
def tM:T ((Empty)⊕(aB)) :=
  .leaf (.inr (.r0 true))
noncomputable def eM(text_0:ByteArray) :Option aB:=ur (aT ((cZ text_0).run) fun (l1,l2,l3,l4,l5,l6,l7,n8,e9) =>
  aT ((fN text_0).run) fun (want10,want11,m12,no13,a14,l15,l16,l17,l18,l19,l20) =>
  aT ((fO l1 n8 e9 want10 m12 no13).run) fun b21 =>
  aT ((tI b21).run) fun _ =>
  aT (cO (fQ l1 l2 l3 l4 l5 l6 l7 want10 l15 l16 l17 l18 l19 l20) 0) fun _ =>
  (tM).run)
theorem ng(text_0:ByteArray){x:aB}(h:eM text_0=some x) :ak prog gS [] [.str text_0] (iY x) :=
  xc false iY eL h (Sg.cut 4 bV (cp cL (uy text_0) [⟨[],[],[2]⟩,⟨[(.slot 3,.fre 6 6 (.cols 0 [.ci .i64 ([]:List Int),.ci .i64 ([]:List Int),.ci .i64 ([]:List Int),.cns .u64 ([]:List (List Int)),.ci .i64 ([]:List Int),.ci .u64 ([]:List Int)]))],[],[0,3,4,5]⟩,⟨[],[],[0,3,4,5]⟩]) (fun ⟨l1,l2,l3,l4,l5,l6,l7,n8,e9⟩=>Sg.cut 1 bV (cp cL (uz l1 l2 l3 l4 l5 l6 l7 n8 e9) [⟨[],[16],[3,4,5,6,7,8]⟩]) (fun ⟨want10,want11,m12,no13,a14,l15,l16,l17,l18,l19,l20⟩=>Sg.cut 1 bV (cp cL (uA l1 l2 l3 l4 l5 l6 l7 want10 want11 a14 l15 l16 l17 l18 l19 l20) [⟨[],[0],[3,6,41]⟩,⟨[],[0],[3,6,41]⟩,⟨[],[0],[3,6,41]⟩]) (fun b21=>Sg.cut 2 bV (cp cL (uB l1 l2 l3 l4 l5 l6 l7 want10 want11 a14 l15 l16 l17 l18 l19 l20) [⟨[],[],[2]⟩,⟨[],[0],[3,6,9]⟩]) (fun _=>Sg.cut 1 bV (LW ⟨[],[0],[3,6,9]⟩ (eD l1 l2 l3 l4 l5 l6 l7 want10 want11 a14 l15 l16 l17 l18 l19 l20) (na) 0 bV (ux _) (fun i22=>tL l1 l2 l3 l4 l5 l6 l7 want10 want11 a14 l15 l16 l17 l18 l19 l20 i22)) (fun _=>cp cL uF [⟨[],[],[2]⟩]))))))
    (fun x=>by cases x with | r0 b23=>exact ra [.bool false b23])
def gE:Option aB→Bool
  | some _=>true
  | none=>false
def lT:Option aB→Bool
  | some (.r0 x)=>x
  | _=>false
theorem uD{x:Option aB}(h:gE x=true) :x=some (.r0 (lT x)):=by
  unfold gE at h
  split at h<;>first | rfl | (cases h;done) | (rename_i y;cases y;rfl)
noncomputable def oI:aK:=cT gS (.cons .str .nil) fun t=>(fun q=>[⟨iY (.r0 (lT q)),[gE q]⟩]) (eM t.1)
theorem sE:aV prog oI:=aU fun t=>(aZ (fun h=>ng t.1 (uD h)) bI)
noncomputable def vS:List aK:=oI::xN
theorem Il:bo prog (bt vS):=au sE cL
end
end Go.Plb.Seat
namespace Go.Plb.Seat
open Go Go.Plb Go.Proofs Go.RowKit Go.Shelf
set_option maxRecDepth 100000
set_option linter.unusedSimpArgs false
set_option linter.unusedVariables false
attribute [local go_sem] Oper.semAt_some
theorem Qb(s:ByteArray)(hs:s.size≤1000000000) :cn s (ByteArray.mk #[32])=some (.r0 (aq s).length (aq s).length (aq s)):=by
  unfold cn
  refine aH (ah (a:=((aq s).length,(aq s).length,aq s)) ?_ rfl)
  simp only [sD,Cz s hs]
  exact bi rfl
theorem Mp(s:ByteArray) :ai s (ByteArray.mk #[10])=some (.r0 (Lib.indexByte s.data.toList 10)):=by
  unfold ai
  refine aH (aI ?_)
  by_cases h:s=ByteArray.mk #[10]
  · subst h
    exact bK (by rw [cY];exact decide_eq_true rfl) rfl
  · refine bm (by rw [cY];exact decide_eq_false fun q=>h q.symm) (bc (bi ?_))
    show some (Sum.inr (aC.r0 (Ke s 10)))=_
    rw [show Ke s 10=Lib.indexByte s.data.toList 10 from Lib.firstIdx_eq s 10]
def cu(s:ByteArray) :ByteArray×ByteArray×Bool :=
  if Lib.indexByte s.data.toList 10<0 then (s,ByteArray.empty,false)
  else (s.extract 0 (Lib.indexByte s.data.toList 10).toNat,s.extract ((Lib.indexByte s.data.toList 10).toNat+1) s.size,true)
theorem JK(s:ByteArray)(hs:s.size≤1000000000) :gv s (ByteArray.mk #[10])=some (.r0 (cu s).1 (cu s).2.1 (cu s).2.2):=by
  unfold gv
  refine aH (ah (a:=cu s) ?_ rfl)
  have hge:=Lib.indexByte_ge s.data.toList 10
  have hlt:=tu s.data.toList 10
  have hsz:s.data.toList.length=s.size:=by simp
  simp only [vC,Mp]
  unfold cu
  by_cases hneg:Lib.indexByte s.data.toList 10<0
  · rw [if_pos hneg]
    exact bi (bm (decide_eq_false (show ¬ Lib.indexByte s.data.toList 10≥0 by omega)) rfl)
  · rw [if_neg hneg]
    obtain ⟨n,hn⟩:=Int.eq_ofNat_of_zero_le (Int.not_lt.1 hneg)
    have hn:Lib.indexByte s.data.toList 10=(n:Int):=hn
    have hlt':n<s.size:=by
      rcases hlt with h | h
      · omega
      · rw [h] at hn
        exact absurd hn (by simp [Lib.indexByte])
    rw [hn]
    have n2:((n:Int)+(((ByteArray.mk #[10]).size:Nat):Int)).toNat=n+1:=by show ((n:Int)+1).toNat=_;omega
    refine bi (bK (decide_eq_true (show (n:Int)≥0 by omega)) (am ?_ (am ?_ (am ?_ (am ?_ (am ?_ ?_))))))
    · rw [lQ];show 0≤(n:Int)∧(n:Int)≤_;omega
    · rw [lQ];omega
    · rw [aX];show _≤(n:Int)+1∧(n:Int)+1≤_;omega
    · rw [lQ];omega
    · rw [lQ];show 0≤(n:Int)+1∧(n:Int)+1≤_;omega
    · show some (Sum.inl (s.extract 0 ((n:Int)).toNat,s.extract (((n:Int)+(((ByteArray.mk #[10]).size:Nat):Int)).toNat) s.size,true))=_
      rw [n2]
      rfl
def uE(s:ByteArray) :Int:=match F7 s with | some _=>0 | none=>4
def fu(s:ByteArray) :Nat×Int×Int:=(F7 s).getD (0,0,0)
def Nm(n:Int) :Bool:=bif decide (n≥0) then decide (n≤512) else false
theorem QP(n:Int) :co n=some (.r0 (Nm n)):=by
  unfold co Nm
  refine aH (ah (a:=bif decide (n≥0) then decide (n≤512) else false) ?_ rfl)
  cases h:decide (n≥0) with
  | true=>exact bK h rfl
  | false=>exact bm h rfl
end Go.Plb.Seat
namespace Go.Plb.Seat
open Go Go.Plb
set_option linter.unusedSimpArgs false
set_option linter.unusedVariables false
set_option maxRecDepth 100000
structure Rd where
  l:List ch
  m:Int
  n:Int
  ws:List Int
  on:Bool
  row:Int
def Gr(s:ByteArray) :Int:=db ((aq s).getD 1 ByteArray.empty)
def D0(s:ByteArray) :Int:=db ((aq s).getD 2 ByteArray.empty)
def vT(s:ByteArray) :Bool:=bif Nm (Gr s) then bif Nm (D0 s) then decide (mZ (Gr s) (D0 s)=s) else false else false
def K1(r:Rd)(s:ByteArray) :ch:=⟨(fu s).1,r.m,r.n,r.ws,(fu s).2.1,(fu s).2.2⟩
def jy(r:Rd)(s:ByteArray) :Bool:=bif decide (uE s=0) then (K1 r s).may else false
def jB(r:Rd)(s:ByteArray) :Rd×Bool :=
  bif r.on then
    bif decide (r.row<r.m)&&decide (0<r.n) then
      bif cM s then ({ r with ws:=r.ws++bd s,row:=r.row+1 },((((bd s).length:Nat):Int)==r.n)) else (r,false)
    else ({ r with l:=r.l++[K1 r s],on:=false },jy r s)
  else bif decide ((aq s).length=3) then (⟨r.l,Gr s,D0 s,[],true,0⟩,vT s) else (r,false)
theorem wu{n:Int}(h:Nm n=true) :0≤n∧n≤512:=by
  unfold Nm at h
  cases h1:decide (n≥0) with
  | false=>rw [h1] at h;cases h
  | true=>rw [h1] at h;exact ⟨of_decide_eq_true h1,of_decide_eq_true h⟩
theorem QQ{s:ByteArray}{w:List ByteArray}(hw:aq s=w)(h3:w.length=3)(hs:s.size≤1000000000) :gT (w.getD 1 ByteArray.empty).size=true∧gT (w.getD 2 ByteArray.empty).size=true:=by
  have key:∀ i,i<w.length→gT (w.getD i ByteArray.empty).size=true:=by
    intro i hi
    rw [List.getD_eq_getElem?_getD,List.getElem?_eq_getElem hi]
    have:w[i]∈aq s:=by rw [hw];exact List.getElem_mem hi
    exact Nat.ble_eq_true_of_le (Nat.le_trans (yr this) hs)
  exact ⟨key 1 (by omega),key 2 (by omega)⟩
theorem Ol(a b:ByteArray) :(a.toList==b.toList)=decide (a=b):=cY a b
theorem RV(n c:Nat)(k m nn:Int)(w:List Int)(y t row:Int)(nc:Nat)(ks ms ns:List Int)(wss:List (List Int))(ys ts:List Int)(s:ByteArray)(on:Bool)(hon:on=false)(hs:s.size≤1000000000) :
    bU n c k m nn w y t on row nc ks ms ns wss ys ts s=some (bif decide ((aq s).length=3) then .r1 (vT s) n c (Gr s) (D0 s) true nc ks ms ns wss ys ts else .r0 false n c k m nn w w.length y t false row nc ks ms ns wss ys ts):=by
  subst hon
  unfold bU
  have h16:(lI s).run=some (.inl (aq s,(aq s).length)):=by
    simp only [lI,Qb s hs]
    exact bi rfl
  by_cases h3:(aq s).length=3
  · obtain ⟨l1,l2⟩:=QQ rfl h3 hs
    rw [decide_eq_true h3,cond_true]
    have h17:(fM n c k m nn w y t false row nc ks ms ns wss ys ts s (aq s) (aq s).length).run=some (.inl (vT s,Gr s,D0 s,true)):=by
      simp only [fM,QP]
      refine bm (by rw [h3];rfl) (am (by rw [h3];rfl) (am (by rw [cq];omega) (am l1 (am (by rw [h3];rfl) (am (by rw [cq];omega) (am l2 (bi ?_)))))))
      show (T.ask (Nm (Gr s)) _ _).run=_
      unfold vT
      cases hm:Nm (Gr s) with
      | false=>exact aI rfl
      | true =>
        refine bc (bi ?_)
        show (T.ask (Nm (D0 s)) _ _).run=_
        cases hn:Nm (D0 s) with
        | false=>exact aI rfl
        | true =>
          have r1:=wu hm
          have r2:=wu hn
          have hh:=vm (Gr s) (D0 s) (by rw [aX];omega) (by rw [aX];omega)
          have hh:dV (db ((aq s).getD 1 ByteArray.empty)) (db ((aq s).getD 2 ByteArray.empty))=some (.r0 (mZ (Gr s) (D0 s))):=hh
          rw [hh]
          refine bc (bi ?_)
          show some (Sum.inl ((mZ (Gr s) (D0 s)).toList==s.toList,Gr s,D0 s,true))=_
          rw [Ol]
          rfl
    exact aH (ah rfl (aG (sk (ah rfl (aG (ah h16 (ah h17 rfl)))))))
  · rw [decide_eq_false h3,cond_false]
    have h17:(fM n c k m nn w y t false row nc ks ms ns wss ys ts s (aq s) (aq s).length).run=some (.inr (.inr (.r0 false n c k m nn w w.length y t false row nc ks ms ns wss ys ts))) :=
      bK (bne_iff_ne.2 (by omega)) rfl
    exact aH (ah rfl (aG (sk (ah rfl (aG (ah h16 (aG h17)))))))
theorem RW(n c:Nat)(k m nn:Int)(w:List Int)(y t row:Int)(ks ms ns:List Int)(wss:List (List Int))(ys ts:List Int)(s:ByteArray)(on:Bool)(hon:on=true)(hs:s.size≤1000000000)(hc:(decide (row<m)&&decide (0<nn))=false)(hn:n≤100000000)(hw:w.length≤100000000) 
    (e1:ks.length=n) (e2:ms.length=n) (e3:ns.length=n) (e4:wss.length=n) (e5:ys.length=n) (e6:ts.length=n) (l:List ch) :
    bU n c k m nn w y t on row n ks ms ns wss ys ts s=some (.r2 (jy ⟨l,m,nn,w,true,row⟩ s) (n+1) k m nn w w.length y t false row (ks++[(((fu s).1:Nat):Int)]) (ms++[m]) (ns++[nn]) (wss++[w]) (ys++[(fu s).2.1]) (ts++[(fu s).2.2])):=by
  subst hon
  unfold bU
  have h20:(lJ m nn row).run=some (.inl false):=by
    unfold lJ
    cases h1:decide (row<m) with
    | false=>exact aI rfl
    | true =>
      rw [h1,Bool.true_and] at hc
      refine bc ?_
      show some (Sum.inl (decide (nn>0)))=_
      rw [show decide (nn>0)=false from hc]
  have h0:bh s=some (.r0 (uE s).toNat (fu s).1 (fu s).2.1 (fu s).2.2):=by
    rw [B0 s hs]
    unfold uE fu
    cases F7 s with
    | none=>rfl
    | some p=>obtain ⟨k,y,t⟩:=p;rfl
  have hE:(((uE s).toNat:Nat):Int)=uE s:=by
    unfold uE
    cases F7 s<;>rfl
  have h23:(lK s).run=some (.inl ((uE s).toNat,(((fu s).1:Nat):Int),(fu s).2.1,(fu s).2.2)):=by
    simp only [lK,h0]
    exact bi rfl
  have tk:∀ {α:Type} (xs:List α),xs.length=n→List.take n xs=xs:=fun xs h=>List.take_of_length_le (by omega)
  have h24:(lL n m nn w n ks ms ns wss ys ts (uE s).toNat (((fu s).1:Nat):Int) (fu s).2.1 (fu s).2.2).run=some (.inl (jy ⟨l,m,nn,w,true,row⟩ s,n+1,false,ks++[(((fu s).1:Nat):Int)],ms++[m],ns++[nn],wss++[w],ys++[(fu s).2.1],ts++[(fu s).2.2])):=by
    simp only [lL,tk _ e1,tk _ e2,tk _ e3,tk _ e4,tk _ e5,tk _ e6,sd,xn,List.drop_zero,List.take_length,hE]
    refine am (by rw [cd];omega) (am (by rw [cd];omega) (bi (am (by rw [cd];exact Nat.le_refl _) (am (decide_eq_true (by omega)) ?_))))
    unfold jy
    by_cases he:uE s=0
    · rw [he]
      exact bc (ET (bi rfl))
    · rw [decide_eq_false he]
      exact bm (beq_eq_false_iff_ne.2 he) rfl
  exact aH (ah rfl (ah (KI (ah rfl (ah (ah h20 rfl) rfl))) (ah h23 (ah h24 rfl))))
theorem Im(s:ByteArray) :(bd s).length≤s.size+1:=by
  unfold bd
  cases hu:oQ s with
  | none=>simp
  | some x =>
    have e:eC ((aq s).map fun x=>x.data.toList)=some x:=by rw [lR,←tF,hu]
    have hw:=(FY s (s.size+1)).2
    have:∀ (l:List (List UInt8)) x,eC l=some x→x.length=l.length:=by
      intro l
      induction l with
      | nil=>intro x h;cases h;rfl
      | cons w l ih =>
        intro x h
        rw [eC] at h
        cases hb:eP w with
        | false =>
          rw [hb,cond_false] at h
          cases h
        | true =>
          rw [hb,cond_true,Option.map_eq_some_iff] at h
          obtain ⟨y,hy,rfl⟩:=h
          simp [ih y hy]
    have:=this _ _ e
    rw [List.length_map] at this
    unfold aq at this
    simp only [Option.getD_some]
    omega
theorem RX(n c:Nat)(k m nn:Int)(nw cw:Nat)(y t row:Int)(nc:Nat)(ks ms ns:List Int)(wss:List (List Int))(ys ts ws:List Int)(s:ByteArray)(on:Bool)(hon:on=true)(hs:s.size≤100000000)(hc:(decide (row<m)&&decide (0<nn))=true)(hnw:nw=ws.length)(hw:ws.length≤100000000)(hr : -10≤row∧row≤1000000000) :
    dY n c k m nn nw cw y t on row nc ks ms ns wss ys ts ws s=some (bif cM s then .r2 ((((bd s).length:Nat):Int)==nn) n c k m nn (ws.length+(bd s).length) y t true (row+1) nc ks ms ns wss ys ts (ws++bd s) else .r0 false n c k m nn nw cw y t true (row+1) nc ks ms ns wss ys ts ws):=by
  subst hon
  subst hnw
  unfold dY
  have hu:=Im s
  have h19:(lG m nn row).run=some (.inl true):=by
    unfold lG
    rw [Bool.and_eq_true] at hc
    refine bK hc.1 ?_
    show some (Sum.inl (decide (nn>0)))=_
    rw [show decide (nn>0)=true from hc.2]
  have hlo:gT s.size=true:=Nat.ble_eq_true_of_le (by omega)
  have hi:fw .i64 (row+1)=true:=by rw [aX];omega
  cases ho:cM s with
  | true =>
    have h20:(er n c k m nn ws.length cw y t true row nc ks ms ns wss ys ts ws s true).run=some (.inr (.inr (.r2 ((((bd s).length:Nat):Int)==nn) n c k m nn (ws.length+(bd s).length) y t true (row+1) nc ks ms ns wss ys ts (ws++bd s)))):=by
      simp only [er,List.take_length]
      exact bc (zD (am ho (am hlo (am (by rw [cd];omega) (am (by rw [cd];omega) (am (by rw [cd];exact Nat.le_refl _) (am (by rw [cd];exact Nat.le_refl _) (am hi (bc rfl)))))))))
    exact aH (ah rfl (aG (sk (ah rfl (aG (ah h19 h20))))))
  | false =>
    have h20:(er n c k m nn ws.length cw y t true row nc ks ms ns wss ys ts ws s true).run=some (.inr (.inr (.r0 false n c k m nn ws.length cw y t true (row+1) nc ks ms ns wss ys ts ws))):=by
      simp only [er,List.take_length]
      exact bc (ut (uu ho) (zD (am (by rw [ho];rfl) (am hlo (am hi (aI rfl))))))
    exact aH (ah rfl (aG (sk (ah rfl (aG (ah h19 h20))))))
theorem Om(n:Int)(c:Option aR)(w:List Int)(nw:Nat)(hw:nw=w.length)(hi:fw .i64 (n+1)=true)(b:Bool)(nl cl:Nat)(k m nn:Int)(w':List Int)(nw':Nat)(y t:Int)(on:Bool)(row:Int)(nc:Nat)(ks ms ns:List Int)(wss:List (List Int))(ys ts:List Int) :
    (F9 n c w nw (some (.r0 b nl cl k m nn w' nw' y t on row nc ks ms ns wss ys ts))).run=some (bif b then .inl (.off (bB c) (n+1) b ⟨nl,cl,k,m,nn,y,t,on,row,nc,ks,ms,ns,wss,ys,ts⟩ w' nw') else .inr (.inl (.bad n b))):=by
  subst hw
  cases b with
  | false=>exact zD (am (by simp) (bi (bc rfl)))
  | true=>exact zD (am (by simp) (bi (aI (am hi rfl))))
theorem On(n:Int)(c:Option aR)(w:List Int)(nw:Nat)(hw:nw=w.length)(hi:fw .i64 (n+1)=true)(b:Bool)(nl cl:Nat)(m nn:Int)(on:Bool)(nc:Nat)(ks ms ns:List Int)(wss:List (List Int))(ys ts:List Int) :
    (F9 n c w nw (some (.r1 b nl cl m nn on nc ks ms ns wss ys ts))).run=some (bif b then .inl (.on (bB c) (n+1) b ⟨nl,cl,0,m,nn,0,0,on,0,nc,ks,ms,ns,wss,ys,ts⟩ 0 0 []) else .inr (.inl (.bad n b))):=by
  subst hw
  have hb:Nat.beq w.length w.length=true:=by simp
  cases b with
  | false=>exact ut (am hb (uu rfl)) (zD (am hb (bi (bc rfl))))
  | true=>exact ut (am hb (uu rfl)) (zD (am hb (bi (aI (am hi rfl)))))
theorem Oo(n:Int)(c:Option aR)(w:List Int)(nw:Nat)(hw:nw=w.length)(hi:fw .i64 (n+1)=true)(b:Bool)(nl:Nat)(k m nn:Int)(w':List Int)(nw':Nat)(y t:Int)(on:Bool)(row:Int)(ks ms ns:List Int)(wss:List (List Int))(ys ts:List Int) :
    (F9 n c w nw (some (.r2 b nl k m nn w' nw' y t on row ks ms ns wss ys ts))).run=some (bif b then .inl (.off (bB c) (n+1) b ⟨nl,nl,k,m,nn,y,t,on,row,nl,ks,ms,ns,wss,ys,ts⟩ w' nw') else .inr (.inl (.bad n b))):=by
  subst hw
  have hb:Nat.beq w.length w.length=true:=by simp
  cases b with
  | false=>exact ut (am hb (uu rfl)) (ut (am hb (uu rfl)) (zD (am hb (bi (bc rfl)))))
  | true=>exact ut (am hb (uu rfl)) (ut (am hb (uu rfl)) (zD (am hb (bi (aI (am hi rfl))))))
theorem Qc(n:Int)(c:Option aR)(hi:fw .i64 (n+1)=true)(nl cl:Nat)(k m nn:Int)(nw' cw':Nat)(y t:Int)(on:Bool)(row:Int)(nc:Nat)(ks ms ns:List Int)(wss:List (List Int))(ys ts ws:List Int) :
    (Nk n c (some (.r0 false nl cl k m nn nw' cw' y t on row nc ks ms ns wss ys ts ws))).run=some (.inr (.inl (.bad n false))):=zD (bi (bc rfl))
theorem Qd(n:Int)(c:Option aR)(hi:fw .i64 (n+1)=true)(b:Bool)(nl cl:Nat)(k m nn:Int)(nw':Nat)(y t:Int)(on:Bool)(row:Int)(nc:Nat)(ks ms ns:List Int)(wss:List (List Int))(ys ts ws:List Int) :
    (Nk n c (some (.r2 b nl cl k m nn nw' y t on row nc ks ms ns wss ys ts ws))).run=some (bif b then .inl (.on (bB c) (n+1) b ⟨nl,cl,k,m,nn,y,t,on,row,nc,ks,ms,ns,wss,ys,ts⟩ nw' nw' ws) else .inr (.inl (.bad n b))):=by
  cases b with
  | false=>exact ut (uu rfl) (ut (uu rfl) (zD (bi (bc rfl))))
  | true=>exact ut (uu rfl) (ut (uu rfl) (zD (bi (aI (am hi rfl)))))
structure Mq (r:RS) (l:List ch):Prop where
  nl:r.nl=l.length
  nc:r.nc=l.length
  ks:r.ks=l.map ch.k
  ms:r.ms=l.map ch.m
  ns:r.ns=l.map ch.n
  wss:r.wss=l.map ch.ws
  ys:r.ys=l.map ch.y
  ts:r.ts=l.map ch.t
def SB(σ:JN)(s:ByteArray)(n:Int)(rd:Rd) :Prop :=
  match σ with
  | .off s' n' b r w nw=>s'=s∧n'=n∧b=true∧r.on=false∧rd.on=false∧nw=w.length∧Mq r rd.l
  | .on s' n' b r nw cw ws=>s'=s∧n'=n∧b=true∧r.on=true∧rd.on=true∧r.m=rd.m∧r.nn=rd.n∧r.row=rd.row∧ws=rd.ws∧nw=ws.length∧Mq r rd.l
structure Bd (s:ByteArray) (n:Int) (rd:Rd):Prop where
  n0:0≤n
  n1:n+(s.size:Int)≤10000000
  l:(rd.l.length:Int)≤n
  r0:0≤rd.row
  r1:rd.row≤n
  w:rd.ws.length+s.size≤10000000
theorem sF{s:ByteArray}(h:(cu s).2.2=true) :(cu s).1.size+1+(cu s).2.1.size=s.size:=by
  have hge:=Lib.indexByte_ge s.data.toList 10
  have hlt:=tu s.data.toList 10
  have hsz:s.data.toList.length=s.size:=by simp
  unfold cu at h ⊢
  by_cases hneg:Lib.indexByte s.data.toList 10<0
  · rw [if_pos hneg] at h;cases h
  · rw [if_neg hneg]
    have hlt':(Lib.indexByte s.data.toList 10).toNat<s.size:=by
      rcases hlt with h | h
      · omega
      · rw [h] at hneg
        exact absurd (by decide) hneg
    simp only [ByteArray.size_extract]
    omega
theorem QR{s:ByteArray}{n:Int}{rd:Rd}(hB:Bd s n rd)(hw:(cu s).2.2=true)(ht:(jB rd (cu s).1).2=true) :Bd (cu s).2.1 (n+1) (jB rd (cu s).1).1:=by
  have hc:=sF hw
  have h1:=hB.n0
  have h2:=hB.n1
  have h3:=hB.l
  have h4:=hB.r0
  have h5:=hB.r1
  have h6:=hB.w
  have hu:=Im (cu s).1
  unfold jB at ht ⊢
  cases hon:rd.on with
  | true =>
    rw [hon,cond_true] at ht
    simp only [cond_true]
    cases hr:(decide (rd.row<rd.m)&&decide (0<rd.n)) with
    | true =>
      rw [hr,cond_true] at ht
      simp only [cond_true]
      cases ho:cM (cu s).1 with
      | true=>exact ⟨by omega,by omega,by simp only [cond_true];omega,by simp only [cond_true];omega,by simp only [cond_true];omega,by simp only [cond_true,List.length_append];omega⟩
      | false=>rw [ho,cond_false] at ht;cases ht
    | false=>exact ⟨by omega,by omega,by simp only [cond_false,List.length_append,List.length_cons,List.length_nil];omega,by simp only [cond_false];omega,by simp only [cond_false];omega,by simp only [cond_false];omega⟩
  | false =>
    rw [hon,cond_false] at ht
    simp only [cond_false]
    cases h3':decide ((aq (cu s).1).length=3) with
    | true=>exact ⟨by omega,by omega,by simp only [cond_true];omega,by simp only [cond_true];omega,by simp only [cond_true];omega,by simp only [cond_true,List.length_nil];omega⟩
    | false=>rw [h3',cond_false] at ht;cases ht
theorem wv{s:ByteArray}(h:s.size≠0) :(!(s.toList==(ByteArray.mk #[]).toList))=true:=by
  rw [cY,decide_eq_false]
  · rfl
  · intro q
    subst q
    exact h rfl
theorem B4{s:ByteArray}(h:s.size=0) :(!(s.toList==(ByteArray.mk #[]).toList))=false:=by
  have:s=ByteArray.mk #[]:=by
    apply gz
    have:s.data.toList.length=0:=by simpa using h
    rw [List.eq_nil_of_length_eq_zero this]
  rw [this,cY,decide_eq_true rfl]
  rfl
theorem Gs{s:ByteArray}{n:Int}{b:Bool}{r:RS}{w:List Int}{nw:Nat}(hs:s.size≠0)(hz:s.size≤1000000000)(hw:(cu s).2.2=true){q:Option ac}(hq:bU r.nl r.cl r.k r.m r.nn w r.y r.t r.on r.row r.nc r.ks r.ms r.ns r.wss r.ys r.ts (cu s).1=q){x:Option (JN⊕(Dv⊕aw))} 
    (h:(F9 n (some (.r0 (cu s).1 (cu s).2.1 (cu s).2.2)) w nw q).run=x):(xE s n b r w nw).run=x:=by
  unfold xE Mm
  rw [JK s hz]
  refine bK (wv hs) (bi (bK hw ?_))
  rw [←h,←hq]
  rfl
theorem Nn{s:ByteArray}{n:Int}{b:Bool}{r:RS}{nw cw:Nat}{ws:List Int}(hs:s.size≠0)(hz:s.size≤1000000000)(hw:(cu s).2.2=true){q:Option aa}(hq:dY r.nl r.cl r.k r.m r.nn nw cw r.y r.t r.on r.row r.nc r.ks r.ms r.ns r.wss r.ys r.ts ws (cu s).1=q){x:Option (JN⊕(Dv⊕aw))} 
    (h:(Nk n (some (.r0 (cu s).1 (cu s).2.1 (cu s).2.2)) q).run=x):(Mn s n b r nw cw ws).run=x:=by
  unfold Mn Qa
  rw [JK s hz]
  refine bK (wv hs) (bi (bK hw ?_))
  rw [←h,←hq]
  rfl
theorem Oq{r:RS}{l:List ch}(h:Mq r l)(a:ch)(cl:Nat)(k m n:Int)(y t:Int)(on:Bool)(row:Int) :Mq ⟨r.nl+1,cl,k,m,n,y,t,on,row,r.nl+1,r.ks++[a.k],r.ms++[a.m],r.ns++[a.n],r.wss++[a.ws],r.ys++[a.y],r.ts++[a.t]⟩ (l++[a]):=by
  obtain ⟨h1,h2,h3,h4,h5,h6,h7,h8⟩:=h
  refine ⟨?_,?_,?_,?_,?_,?_,?_,?_⟩<;>simp [h1,h3,h4,h5,h6,h7,h8]
theorem QS{σ:JN}{s:ByteArray}{n:Int}{rd:Rd}(hR:SB σ s n rd)(hB:Bd s n rd)(hs:s.size≠0)(hw:(cu s).2.2=true) :
    ((jB rd (cu s).1).2=true∧∃ σ',pB σ=some (.inl σ')∧SB σ' (cu s).2.1 (n+1) (jB rd (cu s).1).1)∨((jB rd (cu s).1).2=false∧pB σ=some (.inr (.inl (.bad n false)))):=by
  have h1:=hB.n0
  have h2:=hB.n1
  have h3:=hB.l
  have h4:=hB.r0
  have h5:=hB.r1
  have h6:=hB.w
  have hc:=sF hw
  have hi:fw .i64 (n+1)=true:=by rw [aX];omega
  have hz:(cu s).1.size≤100000000:=by omega
  cases σ with
  | off s' n' b r w nw =>
    obtain ⟨rfl,rfl,rfl,hon,hon',hnw,hC⟩:=hR
    have hA:=RV r.nl r.cl r.k r.m r.nn w r.y r.t r.row r.nc r.ks r.ms r.ns r.wss r.ys r.ts (cu s').1 r.on hon (by omega)
    unfold jB
    rw [hon',cond_false]
    by_cases h3:(aq (cu s').1).length=3
    · rw [decide_eq_true h3] at hA ⊢
      rw [cond_true] at hA ⊢
      have h:=Gs (b:=true) hs (by omega) hw hA (On n' _ w nw hnw hi _ _ _ _ _ _ _ _ _ _ _ _ _)
      cases hh:vT (cu s').1 with
      | true =>
        rw [hh] at h
        exact .inl ⟨rfl,_,h,rfl,rfl,rfl,rfl,rfl,rfl,rfl,rfl,rfl,rfl,⟨hC.nl,hC.nc,hC.ks,hC.ms,hC.ns,hC.wss,hC.ys,hC.ts⟩⟩
      | false =>
        rw [hh] at h
        exact .inr ⟨rfl,h⟩
    · rw [decide_eq_false h3] at hA ⊢
      rw [cond_false] at hA ⊢
      exact .inr ⟨rfl,Gs (b:=true) hs (by omega) hw hA (Om n' _ w nw hnw hi _ _ _ _ _ _ _ _ _ _ _ _ _ _ _ _ _ _ _)⟩
  | on s' n' b r nw cw ws =>
    obtain ⟨rfl,rfl,rfl,hon,hon',hm,hn,hrow,rfl,rfl,hC⟩:=hR
    unfold jB
    rw [hon',cond_true]
    cases hr:(decide (rd.row<rd.m)&&decide (0<rd.n)) with
    | true =>
      rw [cond_true]
      have hr':(decide (r.row<r.m)&&decide (0<r.nn))=true:=by rw [hm,hn,hrow];exact hr
      have hBt:=RX r.nl r.cl r.k r.m r.nn rd.ws.length cw r.y r.t r.row r.nc r.ks r.ms r.ns r.wss r.ys r.ts rd.ws (cu s').1 r.on hon hz hr' rfl (by omega) (by omega)
      have hp:pB (.on s' n' true r rd.ws.length cw rd.ws)=(Mn s' n' true r rd.ws.length cw rd.ws).run:=by
        show (bif decide (r.row<r.m)&&decide (0<r.nn) then _ else _)=_
        rw [hr',cond_true]
      cases ho:cM (cu s').1 with
      | true =>
        rw [ho,cond_true] at hBt
        rw [cond_true]
        have h:=Nn (b:=true) hs (by omega) hw hBt (Qd n' _ hi _ _ _ _ _ _ _ _ _ _ _ _ _ _ _ _ _ _ _)
        rw [←hp] at h
        cases hh:((((bd (cu s').1).length:Nat):Int)==r.nn) with
        | true =>
          rw [hh] at h
          exact .inl ⟨by rw [←hn];exact hh,_,h,rfl,rfl,rfl,rfl,rfl,hm,hn,by rw [hrow],rfl,by rw [List.length_append],⟨hC.nl,hC.nc,hC.ks,hC.ms,hC.ns,hC.wss,hC.ys,hC.ts⟩⟩
        | false =>
          rw [hh] at h
          exact .inr ⟨by rw [←hn];exact hh,h⟩
      | false =>
        rw [ho,cond_false] at hBt
        have h:=Nn (b:=true) hs (by omega) hw hBt (Qc n' _ hi _ _ _ _ _ _ _ _ _ _ _ _ _ _ _ _ _ _ _)
        rw [←hp] at h
        exact .inr ⟨rfl,h⟩
    | false =>
      rw [cond_false]
      have hr':(decide (r.row<r.m)&&decide (0<r.nn))=false:=by rw [hm,hn,hrow];exact hr
      have e:∀ {α:Type} (xs:List α) (f:ch→α),xs=rd.l.map f→xs.length=r.nl:=fun xs f h=>by rw [h,List.length_map,hC.nl]
      have hCt:=RW r.nl r.cl r.k r.m r.nn rd.ws r.y r.t r.row r.ks r.ms r.ns r.wss r.ys r.ts (cu s').1 r.on hon (by omega) hr' (by rw [hC.nl];omega) (by omega) (e _ _ hC.ks) (e _ _ hC.ms) (e _ _ hC.ns) (e _ _ hC.wss) (e _ _ hC.ys) (e _ _ hC.ts) rd.l
      have hnc:r.nl=r.nc:=by rw [hC.nl,hC.nc]
      rw [show bU r.nl r.cl r.k r.m r.nn rd.ws r.y r.t r.on r.row r.nl r.ks r.ms r.ns r.wss r.ys r.ts (cu s').1=bU r.nl r.cl r.k r.m r.nn rd.ws r.y r.t r.on r.row r.nc r.ks r.ms r.ns r.wss r.ys r.ts (cu s').1 by rw [←hnc]] at hCt
      have hp:pB (.on s' n' true r rd.ws.length cw rd.ws)=(xE s' n' true r rd.ws rd.ws.length).run:=by
        show (bif decide (r.row<r.m)&&decide (0<r.nn) then _ else _)=_
        rw [hr',cond_false]
      have h:=Gs (b:=true) hs (by omega) hw hCt (Oo n' _ rd.ws rd.ws.length rfl hi _ _ _ _ _ _ _ _ _ _ _ _ _ _ _ _ _)
      rw [←hp] at h
      have hg:jy ⟨rd.l,r.m,r.nn,rd.ws,true,r.row⟩ (cu s').1=jy rd (cu s').1:=by
        unfold jy K1
        rw [hm,hn]
      rw [hg] at h
      cases hh:jy rd (cu s').1 with
      | true =>
        rw [hh] at h
        refine .inl ⟨rfl,_,h,rfl,rfl,rfl,rfl,rfl,rfl,?_⟩
        rw [hm,hn]
        exact Oq hC (K1 rd (cu s').1) _ _ _ _ _ _ _ _
      | false =>
        rw [hh] at h
        exact .inr ⟨rfl,h⟩
theorem QT{σ:JN}{s:ByteArray}{n:Int}{rd:Rd}(hR:SB σ s n rd)(hB:Bd s n rd)(hs:s.size≠0)(hw:(cu s).2.2=false) :pB σ=some (.inr (.inl (.bad n false))):=by
  have h2:=hB.n1
  have h1:=hB.n0
  have key:∀ (b:Bool) (r:RS) (w:List Int) (nw:Nat),(xE s n b r w nw).run=some (.inr (.inl (.bad n false))):=by
    intro b r w nw
    unfold xE Mm
    rw [JK s (by omega)]
    exact bK (wv hs) (bi (bm hw rfl))
  cases σ with
  | off s' n' b r w nw =>
    obtain ⟨rfl,rfl,_⟩:=hR
    exact key _ _ _ _
  | on s' n' b r nw cw ws =>
    obtain ⟨rfl,rfl,_⟩:=hR
    show (bif decide (r.row<r.m)&&decide (0<r.nn) then _ else _)=_
    cases (decide (r.row<r.m)&&decide (0<r.nn)) with
    | true =>
      rw [cond_true]
      unfold Mn Qa
      rw [JK s' (by omega)]
      exact bK (wv hs) (bi (bm hw rfl))
    | false=>exact key _ _ _ _
theorem RY{σ:JN}{s:ByteArray}{n:Int}{rd:Rd}(hR:SB σ s n rd)(hs:s.size=0) :∃ e r,pB σ=some (.inr (.inl e))∧SH e=(Ga n true r).run∧r.on=rd.on∧Mq r rd.l:=by
  cases σ with
  | off s' n' b r w nw =>
    obtain ⟨rfl,rfl,rfl,hon,hon',hnw,hC⟩:=hR
    exact ⟨.doff n' true r w nw,r,bm (B4 hs) rfl,rfl,by rw [hon,hon'],hC⟩
  | on s' n' b r nw cw ws =>
    obtain ⟨rfl,rfl,rfl,hon,hon',hm,hn,hrow,rfl,rfl,hC⟩:=hR
    cases hr:(decide (r.row<r.m)&&decide (0<r.nn)) with
    | true =>
      refine ⟨.don n' true r,r,?_,rfl,by rw [hon,hon'],hC⟩
      show (bif decide (r.row<r.m)&&decide (0<r.nn) then _ else _)=_
      rw [hr,cond_true]
      exact bm (B4 hs) rfl
    | false =>
      refine ⟨.doff n' true r rd.ws rd.ws.length,r,?_,rfl,by rw [hon,hon'],hC⟩
      show (bif decide (r.row<r.m)&&decide (0<r.nn) then _ else _)=_
      rw [hr,cond_false]
      exact bm (B4 hs) rfl
def fR:Nat→ByteArray→List ByteArray×ByteArray
  | 0,s=>([],s)
  | f+1,s=>bif (cu s).2.2 then ((cu s).1::(fR f (cu s).2.1).1,(fR f (cu s).2.1).2) else ([],s)
def cE(s:ByteArray) :List ByteArray×ByteArray:=fR (s.size+1) s
def dn:Rd→Int→List ByteArray→Rd×Int×Bool
  | r,n,[]=>(r,n,true)
  | r,n,s::l=>bif (jB r s).2 then dn (jB r s).1 (n+1) l else (r,n,false)
inductive QU where
  | fail (n e:Int)
  | ok (l:List ch)
def Ot:Rd:=⟨[],0,0,[],false,0⟩
def Gt(p:Rd×Int×Bool)(rest:ByteArray) :QU :=
  bif p.2.2 then bif Nat.beq rest.size 0 then bif p.1.on then .fail p.2.1 4 else bif Nat.blt 64 p.1.l.length then .fail 0 3 else .ok p.1.l else .fail p.2.1 4 else .fail p.2.1 4
def lM(s:ByteArray) :QU:=bif decide (8388608<s.size) then .fail 0 3 else Gt (dn Ot 0 (cE s).1) (cE s).2
def SC:aw→QU→Prop
  | .fail n e,.fail n' e'=>n=n'∧e=e'
  | .ok r,.ok l=>Mq r l
  | _,_=>False
theorem Gu:∀ (f:Nat) (s:ByteArray) (σ:JN) (n:Int) (rd:Rd),s.size<f→SB σ s n rd→Bd s n rd→∃ e x,cO pB σ=some (.inl e)∧SH e=some (.inr x)∧SC x (Gt (dn rd n (fR f s).1) (fR f s).2)
  | 0,s,σ,n,rd,hf,hR,hB=>by omega
  | f + 1, s, σ, n, rd, hf, hR, hB => by
    by_cases hs:s.size=0
    · obtain ⟨e,r,h1,h2,h3,hC⟩:=RY hR hs
      have hcut:(cu s).2.2=false:=by
        have:s.data.toList=[]:=List.eq_nil_of_length_eq_zero (by simpa using hs)
        unfold cu
        rw [this,if_pos (by decide)]
      have he:fR (f+1) s=([],s):=by rw [fR,hcut];rfl
      rw [he]
      have hs0:Nat.beq s.size 0=true:=by rw [hs];rfl
      simp only [dn,Gt,hs0,cond_true]
      cases hon:rd.on with
      | true =>
        refine ⟨e,.fail n 4,jc h1,?_,?_⟩
        · rw [h2];exact aI (bK (by rw [h3,hon]) rfl)
        · simp only [cond_true];exact ⟨rfl,rfl⟩
      | false =>
        simp only [cond_false]
        by_cases h64:64<rd.l.length
        · refine ⟨e,.fail 0 3,jc h1,?_,?_⟩
          · rw [h2];exact aI (bm (by rw [h3,hon]) (bK (decide_eq_true (by rw [hC.nl];omega)) rfl))
          · rw [show Nat.blt 64 rd.l.length=true from zE.2 h64];exact ⟨rfl,rfl⟩
        · refine ⟨e,.ok r,jc h1,?_,?_⟩
          · rw [h2];exact aI (bm (by rw [h3,hon]) (bm (decide_eq_false (by rw [hC.nl];omega)) rfl))
          · rw [show Nat.blt 64 rd.l.length=false by rw [←Bool.not_eq_true,zE];exact h64];exact hC
    · cases hw:(cu s).2.2 with
      | false =>
        have h1:=QT hR hB hs hw
        have he:fR (f+1) s=([],s):=by rw [fR,hw];rfl
        rw [he]
        refine ⟨_,.fail n 4,jc h1,bc rfl,?_⟩
        have hs0:Nat.beq s.size 0=false:=by rw [←Bool.not_eq_true,Nat.beq_eq];exact hs
        simp only [dn,Gt,hs0,cond_true,cond_false]
        exact ⟨rfl,rfl⟩
      | true =>
        have he:fR (f+1) s=((cu s).1::(fR f (cu s).2.1).1,(fR f (cu s).2.1).2):=by rw [fR,hw];rfl
        have hc:=sF hw
        rw [he]
        rcases QS hR hB hs hw with ⟨ht,σ',h1,hR'⟩ | ⟨ht,h1⟩
        · obtain ⟨e,x,q1,q2,q3⟩:=Gu f (cu s).2.1 σ' (n+1) _ (by omega) hR' (QR hB hw ht)
          refine ⟨e,x,by rw [zA h1];exact q1,q2,?_⟩
          simp only [dn,ht,cond_true]
          exact q3
        · refine ⟨_,.fail n 4,jc h1,bc rfl,?_⟩
          simp only [dn,ht,cond_false,Gt]
          exact ⟨rfl,rfl⟩
theorem DN(s:ByteArray) :∃ x,aP s=some x∧SC x (lM s):=by
  unfold aP lM
  by_cases h:8388608<s.size
  · rw [decide_eq_true h]
    exact ⟨.fail 0 3,aH (ah rfl (aG (bK (decide_eq_true (by omega)) rfl))),rfl,rfl⟩
  · rw [decide_eq_false h,cond_false]
    obtain ⟨e,x,q1,q2,q3⟩:=Gu (s.size+1) s (.off s 0 true R2 [] 0) 0 Ot (by omega) ⟨rfl,rfl,rfl,rfl,rfl,rfl,⟨rfl,rfl,rfl,rfl,rfl,rfl,rfl,rfl⟩⟩ ⟨by decide,by omega,by decide,by decide,by decide,by show 0+s.size≤_;omega⟩
    exact ⟨x,aH (ah rfl (ah (bm (decide_eq_false (by omega)) rfl) (ah q1 q2))),q3⟩
theorem CH:∀ (a b:List UInt8),(∀ c∈a,c≠10)→Lib.indexByte (a++10::b) 10=(a.length:Int)
  | [],b,_=>by simp [Lib.indexByte]
  | c::a,b,h=>by
    have ih:=CH a b fun x hx=>h x (List.mem_cons_of_mem _ hx)
    have hc:(c==10)=false:=beq_eq_false_iff_ne.2 (h c (List.mem_cons_self ..))
    rw [List.cons_append,Lib.indexByte,hc,ih]
    have:((a.length:Int) == -1)=false:=by rw [beq_eq_false_iff_ne];omega
    rw [this]
    simp
theorem AC:∀ (a:List UInt8),(∀ c∈a,c≠10)→Lib.indexByte a 10<0
  | [],_=>by decide
  | c::a,h=>by
    have ih:=AC a fun x hx=>h x (List.mem_cons_of_mem _ hx)
    have hge:=Lib.indexByte_ge a 10
    have hc:(c==10)=false:=beq_eq_false_iff_ne.2 (h c (List.mem_cons_self ..))
    rw [Lib.indexByte,hc]
    have e:Lib.indexByte a 10 = -1:=by omega
    rw [e]
    decide
theorem AD:∀ (l:List UInt8) (n:Nat),Lib.indexByte l 10=(n:Int)→n<l.length∧l=l.take n++10::l.drop (n+1)
  | [],n,h=>by simp [Lib.indexByte] at h
  | b::l,n,h=>by
    unfold Lib.indexByte at h
    have hge:=Lib.indexByte_ge l 10
    split at h
    · rename_i hb
      have hb:b=10:=eq_of_beq hb
      have:n=0:=by omega
      subst this
      subst hb
      exact ⟨by simp,by simp⟩
    · split at h
      · omega
      · rename_i h1
        obtain ⟨m,rfl⟩:∃ m,n=m+1:=⟨n-1,by
          have h2:Lib.indexByte l 10 ≠ -1:=fun e=>h1 (by rw [e];rfl)
          omega⟩
        obtain ⟨g1,g2⟩:=AD l m (by omega)
        refine ⟨by simp;omega,?_⟩
        rw [List.take_succ_cons,List.drop_succ_cons,List.cons_append,←g2]
def Qe(s:ByteArray) :Prop:=∀ c∈s.data.toList,c≠10
theorem Qf{s x t:ByteArray}(h:s.data.toList=x.data.toList++10::t.data.toList)(hx:Qe x) :cu s=(x,t,true):=by
  have hi:=CH x.data.toList t.data.toList hx
  rw [←h] at hi
  have hxs:x.data.toList.length=x.size:=by simp
  have hts:t.data.toList.length=t.size:=by simp
  have hss:s.data.toList.length=s.size:=by simp
  have hl:=congrArg List.length h
  rw [List.length_append,List.length_cons,hxs,hts,hss] at hl
  unfold cu
  rw [hi,if_neg (by omega)]
  have e1:s.extract 0 ((x.data.toList.length:Int)).toNat=x:=by
    apply gz
    rw [bT,h]
    simp
  have e2:s.extract (((x.data.toList.length:Int)).toNat+1) s.size=t:=by
    apply gz
    rw [bT,h,Int.toNat_natCast]
    have:(x.data.toList++10::t.data.toList).drop (x.data.toList.length+1)=t.data.toList:=by
      rw [List.drop_append]
      simp
    rw [this,List.take_of_length_le (by omega)]
  rw [e1,e2]
theorem Ou{s:ByteArray}(h:Qe s) :(cu s).2.2=false:=by
  unfold cu
  rw [if_pos (AC _ h)]
theorem AF:∀ (L:List ByteArray) (f:Nat) (s rest:ByteArray),s.size<f→s.data.toList=gW L++rest.data.toList→(∀ x∈L,Qe x)→Qe rest→fR f s=(L,rest)
  | [],0,s,rest,hf,h,hL,hr=>by omega
  | [],f+1,s,rest,hf,h,hL,hr=>by
    have e:s=rest:=gz (by simpa [gW] using h)
    subst e
    rw [fR,Ou hr]
    rfl
  | x::L,0,s,rest,hf,h,hL,hr=>by omega
  | x::L,f+1,s,rest,hf,h,hL,hr=>by
    have h':s.data.toList=x.data.toList++10::(⟨(gW L++rest.data.toList).toArray⟩:ByteArray).data.toList:=by
      rw [h]
      simp [gW,OD]
    have hc:=Qf h' (hL x (List.mem_cons_self ..))
    have hz:=sF (s:=s) (by rw [hc])
    rw [hc] at hz
    have ih:=AF L f ⟨(gW L++rest.data.toList).toArray⟩ rest (by simp only [] at hz;omega) (by simp) (fun y hy=>hL y (List.mem_cons_of_mem _ hy)) hr
    rw [fR,hc]
    simp only [cond_true,ih]
theorem CI:∀ (f:Nat) (s:ByteArray),s.size<f→s.data.toList=gW (fR f s).1++(fR f s).2.data.toList
  | 0,s,h=>by omega
  | f + 1, s, h => by
    rw [fR]
    cases hw:(cu s).2.2 with
    | false=>simp [gW]
    | true =>
      have hz:=sF hw
      have ih:=CI f (cu s).2.1 (by omega)
      have e:s.data.toList=(cu s).1.data.toList++10::(cu s).2.1.data.toList:=by
        have hge:=Lib.indexByte_ge s.data.toList 10
        unfold cu at hw ⊢
        by_cases hneg:Lib.indexByte s.data.toList 10<0
        · rw [if_pos hneg] at hw;cases hw
        · rw [if_neg hneg]
          obtain ⟨n,hn⟩:=Int.eq_ofNat_of_zero_le (Int.not_lt.1 hneg)
          have hn:Lib.indexByte s.data.toList 10=(n:Int):=hn
          obtain ⟨g1,g2⟩:=AD _ n hn
          have hss:s.data.toList.length=s.size:=by simp
          simp only [hn,Int.toNat_natCast,bT,Nat.sub_zero,List.drop_zero]
          rw [List.take_of_length_le (l:=List.drop (n+1) s.data.toList) (by rw [List.length_drop];omega)]
          exact g2
      simp only [cond_true]
      conv=>lhs;rw [e,ih]
      simp [gW,OD]
theorem AG(s:ByteArray) :s.data.toList=gW (cE s).1++(cE s).2.data.toList:=CI (s.size+1) s (by omega)
def sG:List (List UInt8)→List UInt8
  | []=>[]
  | [x]=>x
  | x::y::r=>x++32::sG (y::r)
theorem D1:∀ l:List ByteArray,sn l=sG (l.map fun x=>x.data.toList)
  | []=>rfl
  | [x]=>rfl
  | x::y::r=>by
    have:=D1 (y::r)
    simp only [List.map_cons] at this ⊢
    rw [sn,sG,this]
theorem vU:∀ l:List UInt8,sG (aJ l)=l
  | []=>rfl
  | c::r=>by
    have ih:=vU r
    have hc:=vG r
    by_cases h:c=32
    · subst h
      rw [BZ,hc,sG,←hc,ih]
      rfl
    · rw [vF h]
      cases hr:(aJ r).tail with
      | nil =>
        rw [hr] at hc
        rw [hc,sG] at ih
        rw [sG,ih]
      | cons y t =>
        rw [hr] at hc
        rw [hc,sG] at ih
        rw [sG,List.cons_append,ih]
theorem CL:∀ l:List (List UInt8),l≠[]→(∀ x∈l,∀ c∈x,c≠32)→aJ (sG l)=l
  | [],h,_=>absurd rfl h
  | [x],_,h=>hX x (h x (List.mem_cons_self ..))
  | x::y::r,_,h=>by
    have ih:=CL (y::r) (by simp) fun z hz=>h z (List.mem_cons_of_mem _ hz)
    rw [sG,nG _ _ (h x (List.mem_cons_self ..)),ih]
theorem K2(s:ByteArray) :qi (aq s)=s:=by
  apply gz
  rw [qi,D1]
  have:=vU s.data.toList
  rw [←lR] at this
  simpa using this
theorem Mr{w:List UInt8}(h:eP w=true) :bF ((fq w:Nat):Int)=⟨w.toArray⟩:=by
  unfold eP at h
  rw [Bool.and_eq_true,List.all_eq_true] at h
  have h16:=of_decide_eq_true h.1
  have:=KV (s:=⟨w.toArray⟩) (by simpa using h.2) (by show w.toArray.size=16;simpa using h16)
  simpa using this
theorem AH:∀ (l:List (List UInt8)) (x:List Int),eC l=some x→(x.map bF).map (fun s=>s.data.toList)=l
  | [],x,h=>by cases h;rfl
  | w::l,x,h=>by
    rw [eC] at h
    cases hb:eP w with
    | false=>rw [hb,cond_false] at h;cases h
    | true =>
      rw [hb,cond_true,Option.map_eq_some_iff] at h
      obtain ⟨y,hy,rfl⟩:=h
      have ih:=AH l y hy
      simp only [List.map_cons,ih,Mr hb]
theorem Ms{s:ByteArray}(h:cM s=true) :zN (bd s)=s:=by
  unfold cM at h
  obtain ⟨x,hx⟩:=Option.isSome_iff_exists.1 h
  have hf:bd s=x:=by rw [bd,hx];rfl
  rw [tF] at hx
  have:=AH _ _ hx
  rw [hf]
  apply gz
  rw [zN,qi,D1,this]
  simpa using vU s.data.toList
theorem Gv{v:Int}(h:0≤v∧v≤512) :db (bj v)=v∧(∀ c∈(bj v).data.toList,c≠32)∧∀ c∈(bj v).data.toList,c≠10:=by
  have hall:∀ i:Fin 513,db (bj ((i.val:Nat):Int))=((i.val:Nat):Int)∧(∀ c∈(bj ((i.val:Nat):Int)).data.toList,c≠32)∧∀ c∈(bj ((i.val:Nat):Int)).data.toList,c≠10:=by decide +kernel
  obtain ⟨n,rfl⟩:=Int.eq_ofNat_of_zero_le h.1
  exact hall ⟨n,by omega⟩
def Mt:ByteArray:=ByteArray.mk #[109,97,116,114,105,120]
theorem Gw(m n:Int) :(mZ m n).data.toList=sG [Mt.data.toList,(bj m).data.toList,(bj n).data.toList]:=by
  simp [mZ,yh,Mt,sG]
theorem Mu{m n:Int}(hm:0≤m∧m≤512)(hn:0≤n∧n≤512) :aq (mZ m n)=[Mt,bj m,bj n]:=by
  symm
  apply vH
  rw [Gw,CL]
  · rfl
  · simp
  · intro x hx
    simp only [List.mem_cons,List.not_mem_nil,or_false] at hx
    rcases hx with rfl | rfl | rfl
    · decide
    · exact (Gv hm).2.1
    · exact (Gv hn).2.1
theorem Qg{n:Int}(h:0≤n∧n≤512) :Nm n=true:=by
  unfold Nm
  rw [decide_eq_true (show n≥0 from h.1),decide_eq_true h.2]
  rfl
theorem sH{s:ByteArray}(h:vT s=true) :(0≤Gr s∧Gr s≤512)∧(0≤D0 s∧D0 s≤512)∧mZ (Gr s) (D0 s)=s:=by
  unfold vT at h
  cases hm:Nm (Gr s) with
  | false=>rw [hm] at h;cases h
  | true =>
    cases hn:Nm (D0 s) with
    | false=>rw [hm,hn] at h;cases h
    | true =>
      rw [hm,hn] at h
      exact ⟨wu hm,wu hn,of_decide_eq_true h⟩
def In(ws:List Int)(n:Nat)(i:Nat) :ByteArray:=zN ((ws.drop (i*n)).take n)
def SU(ws:List Int) :Prop:=∀ w∈ws,0≤w∧w<18446744073709551616
def ch.u64(a:ch) :Prop:=SU a.ws∧0≤a.t∧a.t<18446744073709551616
theorem Io{k m n:Int}{len:Nat}{y t:Int}(h:nu k m n len y t=true) :(0≤m∧m≤512)∧(0≤n∧n≤512)∧(len:Int)=m*n∧df k y t=true:=by
  obtain ⟨h1,h2,h3,h4,h5,_,_⟩:=oz h
  refine ⟨⟨h1,h2⟩,⟨h3,h4⟩,h5,?_⟩
  unfold nu at h
  simp only [Bool.cond_eq_ite,Bool.if_false_right,Bool.and_eq_true,decide_eq_true_eq,beq_iff_eq,ge_iff_le] at h
  exact h.2.2.2.2.2.1
theorem Ov(L:List (List ByteArray)) :gW L.flatten=(L.map gW).flatten:=by
  induction L with
  | nil=>rfl
  | cons x L ih=>simp only [List.flatten_cons,List.map_cons,←ih,gW,List.map_append,List.flatten_append]
def Rd.lines(r:Rd) :List ByteArray:=(r.l.map ch.lines).flatten++(bif r.on then mZ r.m r.n::(bif decide (r.n>0) then (List.range r.row.toNat).map (In r.ws r.n.toNat) else []) else [])
structure QV (r:Rd):Prop where
  may:∀ a∈r.l,a.may=true
  on:r.on=true→(0≤r.m∧r.m≤512)∧(0≤r.n∧r.n≤512)∧0≤r.row∧r.row≤r.m∧(r.ws.length:Int)=r.row*r.n∧(r.n=0→r.row=0)
theorem Ow{s:ByteArray}(h:uE s=0) :jA (fu s).1 (fu s).2.1 (fu s).2.2=s:=by
  unfold uE at h
  unfold fu
  cases hu:F7 s with
  | none=>rw [hu] at h;exact absurd h (by decide)
  | some p =>
    unfold F7 at hu
    simp only [] at hu
    cases hc:Oi s (mD ((aq s).getD 0 ByteArray.empty)) (yS (mD ((aq s).getD 0 ByteArray.empty)) (aq s)) (tS (mD ((aq s).getD 0 ByteArray.empty)) (aq s)) with
    | false=>rw [hc,cond_false] at hu;cases hu
    | true =>
      rw [hc,cond_true] at hu
      cases hu
      unfold Oi at hc
      rw [Bool.and_eq_true] at hc
      exact of_decide_eq_true hc.2
theorem Mv{r:Rd}(hO:QV r){s:ByteArray}(ht:(jB r s).2=true) :QV (jB r s).1∧(jB r s).1.lines=r.lines++[s]:=by
  unfold jB at ht ⊢
  cases hon:r.on with
  | false =>
    rw [hon,cond_false] at ht
    rw [cond_false]
    cases h3:decide ((aq s).length=3) with
    | false=>rw [h3,cond_false] at ht;cases ht
    | true =>
      rw [h3,cond_true] at ht
      rw [cond_true]
      obtain ⟨h1,h2,h4⟩:=sH ht
      refine ⟨⟨hO.may,fun _=>⟨h1,h2,Int.le_refl 0,h1.1,by simp,fun _=>rfl⟩⟩,?_⟩
      unfold Rd.lines
      rw [hon,cond_true,cond_false,h4]
      cases decide (D0 s>0)<;>simp
  | true =>
    rw [hon,cond_true] at ht
    rw [cond_true]
    obtain ⟨hm,hn,hr0,hr1,hw,hz⟩:=hO.on hon
    cases hr:(decide (r.row<r.m)&&decide (0<r.n)) with
    | true =>
      rw [hr,cond_true] at ht
      rw [cond_true]
      rw [Bool.and_eq_true] at hr
      have hlt:=of_decide_eq_true hr.1
      have hpos:=of_decide_eq_true hr.2
      cases ho:cM s with
      | false=>rw [ho,cond_false] at ht;cases ht
      | true =>
        rw [ho,cond_true] at ht
        rw [cond_true]
        have hlen:(((bd s).length:Nat):Int)=r.n:=eq_of_beq ht
        obtain ⟨n',hn'⟩:=Int.eq_ofNat_of_zero_le hn.1
        obtain ⟨j,hj⟩:=Int.eq_ofNat_of_zero_le hr0
        have hwl:r.ws.length=j*n':=by
          have:((r.ws.length:Nat):Int)=((j*n':Nat):Int):=by rw [Int.natCast_mul,hw,hn',hj]
          omega
        have hul:(bd s).length=n':=by omega
        refine ⟨⟨hO.may,fun _=>⟨hm,hn,by show 0≤r.row+1;omega,by show r.row+1≤r.m;omega,?_,fun h=>by
          have h:r.n=0:=h
          omega⟩⟩,?_⟩
        · show ((r.ws++bd s).length:Int)=(r.row+1)*r.n
          rw [List.length_append,Int.natCast_add,hw,hlen,Int.add_mul,Int.one_mul]
        · unfold Rd.lines
          simp only [cond_true,hon]
          have hd:decide (r.n>0)=true:=decide_eq_true hpos
          rw [hd]
          simp only [cond_true]
          have e1:(r.row+1).toNat=j+1:=by omega
          have e2:r.row.toNat=j:=by omega
          have e3:r.n.toNat=n':=by omega
          rw [e1,e2,e3,List.range_succ,List.map_append]
          have hA:(List.range j).map (In (r.ws++bd s) n')=(List.range j).map (In r.ws n'):=by
            apply List.map_congr_left
            intro i hi
            have hi:=List.mem_range.1 hi
            have hle:(i+1)*n'≤j*n':=Nat.mul_le_mul_right _ hi
            rw [Nat.add_mul,Nat.one_mul] at hle
            unfold In
            rw [List.drop_append_of_le_length (by omega),List.take_append_of_le_length (by rw [List.length_drop];omega)]
          have hB:In (r.ws++bd s) n' j=s:=by
            unfold In
            rw [List.drop_append_of_le_length (by omega),List.drop_of_length_le (by omega),List.nil_append,List.take_of_length_le (by omega)]
            exact Ms ho
          rw [hA]
          simp [hB]
    | false =>
      rw [hr,cond_false] at ht
      rw [cond_false]
      have hg:uE s=0∧(K1 r s).may=true:=by
        unfold jy at ht
        cases he:decide (uE s=0) with
        | false=>rw [he] at ht;cases ht
        | true=>rw [he] at ht;exact ⟨of_decide_eq_true he,ht⟩
      obtain ⟨hE,hmay⟩:=hg
      refine ⟨⟨fun a ha=>?_,fun h=>by cases h⟩,?_⟩
      · rcases List.mem_append.1 ha with ha | ha
        · exact hO.may a ha
        · rw [List.mem_singleton] at ha
          subst ha
          exact hmay
      · unfold Rd.lines
        rw [hon]
        simp only [cond_true,cond_false,List.append_nil,List.map_append,List.map_cons,List.map_nil,List.flatten_append,List.flatten_cons,List.flatten_nil,List.append_assoc]
        congr 1
        show ei (fu s).1 r.m r.n r.ws (fu s).2.1 (fu s).2.2=_
        have hmay':nu (fu s).1 r.m r.n r.ws.length (fu s).2.1 (fu s).2.2=true:=hmay
        obtain ⟨_,_,hlen,_⟩:=Io hmay'
        unfold ei
        rw [hmay',Ow hE]
        simp only [cond_true,List.cons_append]
        congr 2
        by_cases h0:0<r.n
        · have hd:decide (r.n>0)=true:=decide_eq_true h0
          have hrow:r.row=r.m:=by
            rw [decide_eq_true h0,Bool.and_true] at hr
            have:=of_decide_eq_false hr
            omega
          rw [hd,hrow]
          rfl
        · have hd:decide (r.n>0)=false:=decide_eq_false h0
          rw [hd]
          rfl
theorem CM:∀ (L:List ByteArray) (r:Rd) (n:Int) (r':Rd) (n':Int),QV r→dn r n L=(r',n',true)→QV r'∧r'.lines=r.lines++L
  | [],r,n,r',n',hO,h=>by cases h;exact ⟨hO,by simp⟩
  | s::L,r,n,r',n',hO,h=>by
    rw [dn] at h
    cases ht:(jB r s).2 with
    | false=>rw [ht,cond_false] at h;cases h
    | true =>
      rw [ht,cond_true] at h
      obtain ⟨h1,h2⟩:=Mv hO ht
      obtain ⟨g1,g2⟩:=CM L _ _ _ _ h1 h
      exact ⟨g1,by rw [g2,h2];simp⟩
theorem Mw{s : ByteArray}{l : List ch}(h : lM s = .ok l) : (∀ a ∈ l, a.may = true) ∧ l.length ≤ 64 ∧ s.data.toList = gG l ∧ s.size ≤ 8388608 := by
  unfold lM at h
  by_cases hz:8388608<s.size
  · rw [decide_eq_true hz] at h;cases h
  · rw [decide_eq_false hz,cond_false] at h
    cases hr:dn Ot 0 (cE s).1 with | mk r p =>
    obtain ⟨n,g⟩:=p
    rw [hr] at h
    unfold Gt at h
    simp only [] at h
    cases g with
    | false=>rw [cond_false] at h;cases h
    | true =>
      rw [cond_true] at h
      cases hb:Nat.beq (cE s).2.size 0 with
      | false=>rw [hb,cond_false] at h;cases h
      | true =>
        rw [hb,cond_true] at h
        cases hon:r.on with
        | true=>rw [hon,cond_true] at h;cases h
        | false =>
          rw [hon,cond_false] at h
          cases h6:Nat.blt 64 r.l.length with
          | true=>rw [h6,cond_true] at h;cases h
          | false =>
            rw [h6,cond_false] at h
            cases h
            obtain ⟨g1,g2⟩:=CM _ Ot 0 r n ⟨fun a ha=>(by cases ha),fun h=>(by cases h)⟩ hr
            refine ⟨g1.may,?_,?_,by omega⟩
            · have : ¬ 64<r.l.length:=fun q=>by rw [zE.2 q] at h6;cases h6
              omega
            · have ht:=AG s
              have hn:(cE s).2.data.toList=[]:=List.eq_nil_of_length_eq_zero (by
                have:=Nat.eq_of_beq_eq_true hb
                simpa using this)
              rw [hn,List.append_nil] at ht
              have e:r.lines=(r.l.map ch.lines).flatten:=by unfold Rd.lines;rw [hon];simp
              have e0:Ot.lines=[]:=rfl
              rw [e,e0,List.nil_append] at g2
              rw [ht,←g2,Ov,List.map_map]
              rfl
def mV(s:ByteArray) :Nat→Nat×List ByteArray
  | 0=>(0,[])
  | j+1=>if aD s j=10 then (j+1,(mV s j).2++[s.extract (mV s j).1 j]) else mV s j
theorem JL(s:ByteArray) :∀ j,(mV s j).1≤j∧(mV s j).2.length≤j
  | 0=>⟨Nat.le_refl _,Nat.le_refl _⟩
  | j+1=>by
    have:=JL s j
    unfold mV
    split
    · exact ⟨Nat.le_refl _,by simp;omega⟩
    · exact ⟨by omega,by omega⟩
theorem No(s:ByteArray) :∀ j,j≤s.size→s.data.toList.take j=gW (mV s j).2++(s.data.toList.drop (mV s j).1).take (j-(mV s j).1)∧(∀ x∈(mV s j).2,Qe x)∧∀ c∈(s.data.toList.drop (mV s j).1).take (j-(mV s j).1),c≠10
  | 0,_=>by simp [mV,gW]
  | j + 1, h => by
    obtain ⟨h1,h2,h3⟩:=No s j (by omega)
    have hle:=(JL s j).1
    have hlen:s.data.toList.length=s.size:=rfl
    obtain ⟨b,hb⟩:∃ b,s.data.toList[j]? = some b:=⟨_,List.getElem?_eq_getElem (by omega)⟩
    have hB:=tG hb
    have hpc:(s.data.toList.drop (mV s j).1).take (j+1-(mV s j).1)=(s.data.toList.drop (mV s j).1).take (j-(mV s j).1)++[b]:=by
      rw [show j+1-(mV s j).1=(j-(mV s j).1)+1 by omega,List.take_add_one,List.getElem?_drop,show (mV s j).1+(j-(mV s j).1)=j by omega,hb]
      rfl
    by_cases h10:b=10
    · subst h10
      have e1:mV s (j+1)=(j+1,(mV s j).2++[s.extract (mV s j).1 j]):=by rw [mV,if_pos (by rw [hB];rfl)]
      rw [e1]
      refine ⟨?_,fun x hx=>?_,by simp⟩
      · rw [List.take_add_one,hb,h1,Ig,OD,bT]
        simp
      · rcases List.mem_append.1 hx with hx | hx
        · exact h2 x hx
        · obtain rfl:x=s.extract (mV s j).1 j:=by simpa using hx
          intro c hc
          rw [bT] at hc
          exact h3 c hc
    · have hne : ¬ aD s j=10:=by
        rw [hB]
        intro q
        apply h10
        apply UInt8.toNat.inj
        show b.toNat=10
        omega
      have e1:mV s (j+1)=mV s j:=by rw [mV,if_neg hne]
      rw [e1,hpc]
      refine ⟨?_,h2,fun c hc=>?_⟩
      · rw [List.take_add_one,hb,h1]
        simp
      · rcases List.mem_append.1 hc with hc | hc
        · exact h3 c hc
        · obtain rfl:c=b:=by simpa using hc
          exact h10
theorem Ox(s:ByteArray) :cE s=((mV s s.size).2,s.extract (mV s s.size).1 s.size):=by
  obtain ⟨h1,h2,h3⟩:=No s s.size (Nat.le_refl _)
  refine AF _ (s.size+1) s _ (by omega) ?_ h2 ?_
  · rw [bT,←h1,List.take_of_length_le (by simp)]
  · intro c hc
    rw [bT] at hc
    exact h3 c hc
theorem Mx(s:ByteArray)(hs:s.size≤1000000000) :dw s=some (.r0 (cE s).1.length (cE s).1.length (cE s).2 (cE s).1):=by
  unfold dw
  rw [Ox]
  have hend:=JL s s.size
  refine aH (ah rfl (ah (a:=((mV s s.size).2.length,(mV s s.size).2.length,(mV s s.size).1,(mV s s.size).2)) (cV (fun j=>((mV s j).2.length,(mV s j).2.length,(mV s j).1,j,(mV s j).2)) s.size rfl (fun j hj=>?_) ?_) (am (by rw [lQ];omega) (am (by rw [lQ];omega) rfl))))
  · have hw:=JL s j
    have hi:fw .i64 (((j+1:Nat)):Int)=true:=by rw [aX];omega
    have hz:List.take (mV s j).2.length (mV s j).2++List.take 1 [s.extract (mV s j).1 j]=(mV s j).2++[s.extract (mV s j).1 j]:=by rw [List.take_length];rfl
    by_cases h10:aD s j=10
    · have e1:mV s (j+1)=(j+1,(mV s j).2++[s.extract (mV s j).1 j]):=by rw [mV,if_pos h10]
      refine ah (a:=((mV s j).2.length+1,(mV s j).2.length+1,j+1,(mV s j).2++[s.extract (mV s j).1 j])) ?_ ?_
      · rw [←hz]
        exact bK (decide_eq_true (by omega)) (am (by rw [dc];omega) (bK (beq_iff_eq.2 h10) (am (by rw [lQ];omega) (am (by rw [lQ];omega) (am (by rw [cd];omega) (am (by rw [cd];omega) (bi (am (by rw [cd];exact Nat.le_refl _) (am hi rfl)))))))))
      · rw [e1]
        simp only [List.length_append,List.length_cons,List.length_nil]
        exact am hi rfl
    · have e1:mV s (j+1)=mV s j:=by rw [mV,if_neg h10]
      refine ah (a:=((mV s j).2.length,(mV s j).2.length,(mV s j).1,(mV s j).2)) ?_ ?_
      · exact bK (decide_eq_true (by omega)) (am (by rw [dc];omega) (bm (beq_eq_false_iff_ne.2 h10) rfl))
      · rw [e1]
        exact am hi rfl
  · exact aG (bm (decide_eq_false (by omega)) rfl)
def dv(l:List UInt8) :Int:=l.foldl (fun a b=>a*10+((b.toNat:Int)-48)) 0
theorem Np(l:List UInt8)(b:UInt8) :dv (l++[b])=dv l*10+((b.toNat:Int)-48):=by simp [dv]
def K3(b:UInt8) :Bool:=decide (48≤b.toNat)&&decide (b.toNat≤57)
theorem Gx{b:UInt8} :K3 b=true↔48≤b.toNat∧b.toNat≤57:=by simp [K3]
theorem Gy(l:List UInt8) :∀ j,j≤l.length→(∀ c∈l.take j,K3 c=true)→0≤dv (l.take j)∧dv (l.take j)<10^j
  | 0,_,_=>by simp [dv]
  | j+1,h,hd=>by
    obtain ⟨b,hb⟩:∃ b,l[j]? = some b:=⟨_,List.getElem?_eq_getElem (by omega)⟩
    have e:l.take (j+1)=l.take j++[b]:=by rw [List.take_add_one,hb];rfl
    rw [e] at hd ⊢
    obtain ⟨h1,h2⟩:=Gy l j (by omega) fun c hc=>hd c (List.mem_append_left _ hc)
    have h3:=Gx.1 (hd b (List.mem_append_right _ (List.mem_singleton.2 rfl)))
    rw [Np,Int.pow_succ]
    omega
theorem qH{v:Int}(h:0≤v∧v≤512) :1≤(bj v).size∧(bj v).size≤3∧(∀ c∈(bj v).data.toList,K3 c=true)∧dv (bj v).data.toList=v:=by
  have hall:∀ i:Fin 513,1≤(bj ((i.val:Nat):Int)).size∧(bj ((i.val:Nat):Int)).size≤3∧(∀ c∈(bj ((i.val:Nat):Int)).data.toList,K3 c=true)∧dv (bj ((i.val:Nat):Int)).data.toList=((i.val:Nat):Int):=by decide +kernel
  obtain ⟨n,rfl⟩:=Int.eq_ofNat_of_zero_le h.1
  exact hall ⟨n,by omega⟩
def Gz(s:ByteArray) :Int:=if 0≤db s∧db s≤512∧bj (db s)=s then db s else -1
theorem GA{s:ByteArray}{v:Int}(h:0≤v∧v≤512)(e:bj v=s) :Gz s=v∧db s=v:=by
  have h1:=(Gv h).1
  rw [e] at h1
  unfold Gz
  rw [h1,if_pos ⟨h.1,h.2,e⟩]
  exact ⟨rfl,rfl⟩
theorem B5(s:ByteArray) :Gz s = -1∨(0≤Gz s∧Gz s≤512∧bj (Gz s)=s∧db s=Gz s):=by
  unfold Gz
  split
  · rename_i h
    exact .inr ⟨h.1,h.2.1,h.2.2,rfl⟩
  · exact .inl rfl
theorem AI{s:ByteArray}(h:∀ v,0≤v∧v≤512→bj v=s→False) :Gz s = -1:=by
  rcases B5 s with q | ⟨h1,h2,h3,_⟩
  · exact q
  · exact (h _ ⟨h1,h2⟩ h3).elim
theorem Qh(s:ByteArray) :fv s=some (.r0 (Gz s)):=by
  unfold fv
  have hlen:s.data.toList.length=s.size:=rfl
  by_cases c1:s.size<1
  · rw [AI fun v hv e=>by have:=(qH hv).1;rw [e] at this;omega]
    exact aH (ah (bK (decide_eq_true (by omega)) rfl) (aG (bc rfl)))
  by_cases c2:s.size>3
  · rw [AI fun v hv e=>by have:=(qH hv).2.1;rw [e] at this;omega]
    exact aH (ah (a:=true) (bm (decide_eq_false (by omega)) (congrArg (fun b=>some (Sum.inl b)) (decide_eq_true (by omega)))) (aG (bc rfl)))
  have h10:(xH s).run=some (.inl false):=bm (decide_eq_false (by omega)) (congrArg (fun b=>some (Sum.inl b)) (decide_eq_false (by omega)))
  have h11:(xI false).run=some (.inl ()):=aI rfl
  have step:∀ j,j<s.size→(∀ c∈s.data.toList.take (j+1),K3 c=true)→eN s (dv (s.data.toList.take j),j)=some (.inl (dv (s.data.toList.take (j+1)),j+1)):=by
    intro j hj hd
    obtain ⟨b,hb⟩:∃ b,s.data.toList[j]? = some b:=⟨_,List.getElem?_eq_getElem (by omega)⟩
    have hB:=tG hb
    have e:s.data.toList.take (j+1)=s.data.toList.take j++[b]:=by rw [List.take_add_one,hb];rfl
    have hr:=Gy s.data.toList j (by omega) fun c hc=>hd c (by rw [e];exact List.mem_append_left _ hc)
    have h3:=Gx.1 (hd b (by rw [e];exact List.mem_append_right _ (List.mem_singleton.2 rfl)))
    have hp:(10:Int)^j≤100:=by
      have hj3:j=0∨j=1∨j=2:=by omega
      rcases hj3 with rfl | rfl | rfl<;>decide
    rw [e,Np]
    generalize dv (s.data.toList.take j)=D at hr ⊢
    have hw:IntKind.i64.wrap (IntKind.u8.wrap ((b.toNat:Int)-48))=(b.toNat:Int)-48:=by
      rw [w8 (by omega) (by omega),Ik (by omega) (by omega)]
    simp only [eN,rU,hB,hw]
    exact bK (decide_eq_true (by omega)) (am (by rw [dc];omega) (bm (decide_eq_false (by omega)) (am (by rw [dc];omega) (bm (decide_eq_false (by omega)) (am (by rw [aX];omega) (am (by rw [dc];omega) (am (by rw [aX];omega) (am (by rw [aX];omega) rfl))))))))
  by_cases hall:∀ i,i<s.size→K3 (s.data.toList.getD i 0)=true
  · have hd:∀ c∈s.data.toList,K3 c=true:=by
      intro c hc
      obtain ⟨i,hi,rfl⟩:=List.getElem_of_mem hc
      have:=hall i (by omega)
      rw [List.getD_eq_getElem?_getD,List.getElem?_eq_getElem hi] at this
      exact this
    have hr:=Gy s.data.toList s.size (by omega) fun c hc=>hd c (List.mem_of_mem_take hc)
    have hp:(10:Int)^s.size≤1000:=by
      have hj3:s.size=1∨s.size=2∨s.size=3:=by omega
      rcases hj3 with q | q | q<;>rw [q]<;>decide
    have hfull:s.data.toList.take s.size=s.data.toList:=List.take_of_length_le (by omega)
    rw [hfull] at hr
    refine aH (ah h10 (ah h11 (ah (a:=dv s.data.toList) (cV (fun j=>(dv (s.data.toList.take j),j)) s.size rfl (fun j hj=>step j hj fun c hc=>hd c (List.mem_of_mem_take hc)) ?_) ?_)))
    · show eN s (dv (s.data.toList.take s.size),s.size)=_
      rw [hfull]
      exact bm (decide_eq_false (by omega)) rfl
    · generalize hD:dv s.data.toList=D at hr
      by_cases h5:D>512
      · rw [AI fun v hv e=>by have:=(qH hv).2.2.2;rw [e,hD] at this;omega]
        exact ah (a:=true) (bK (decide_eq_true h5) rfl) (bc rfl)
      · have ht:(xJ s D).run=some (.inl (!decide (bj D=s))):=by
          refine bm (decide_eq_false h5) (am (by rw [aX];omega) ?_)
          show some (Sum.inl (!((bj D).toList==s.toList)))=_
          rw [cY]
        refine ah ht ?_
        by_cases he:bj D=s
        · rw [decide_eq_true he,(GA ⟨hr.1,by omega⟩ he).1]
          exact aI rfl
        · rw [decide_eq_false he,AI fun v hv e=>he (by have:=(qH hv).2.2.2;rw [e,hD] at this;rw [this];exact e)]
          exact bc rfl
  · obtain ⟨k,hk,hb,hg⟩:=Go.Plb.first_bad hall
    obtain ⟨b,hbk⟩:∃ b,s.data.toList[k]? = some b:=⟨_,List.getElem?_eq_getElem (by omega)⟩
    have hB:=tG hbk
    rw [List.getD_eq_getElem?_getD,hbk,Option.getD_some] at hb
    rw [AI fun v hv e=>hb (by have:=(qH hv).2.2.1;rw [e] at this;exact this b (List.mem_of_getElem? hbk))]
    refine aH (ah h10 (ah h11 (aG (cV (fun j=>(dv (s.data.toList.take j),j)) k rfl (fun j hj=>step j (by omega) fun c hc=>?_) ?_))))
    · obtain ⟨i,hi,rfl⟩:=List.getElem_of_mem hc
      rw [List.getElem_take]
      rw [List.length_take] at hi
      have:=hg i (by omega)
      rw [List.getD_eq_getElem?_getD,List.getElem?_eq_getElem (by omega)] at this
      exact this
    · simp only [eN,rU,hB]
      refine bK (decide_eq_true (by omega)) (am (by rw [dc];omega) ?_)
      by_cases h48:(b.toNat:Int)<48
      · exact bK (decide_eq_true h48) rfl
      · refine bm (decide_eq_false h48) (am (by rw [dc];omega) (bK (decide_eq_true ?_) rfl))
        have : ¬ (48≤b.toNat∧b.toNat≤57):=fun q=>hb (Gx.2 q)
        omega
def Qn(s:ByteArray) :Bool:=bif decide ((aq s).length=3) then vT s else false
theorem yM{s:ByteArray}(h:vT s=true) :aq s=[Mt,bj (Gr s),bj (D0 s)]:=by
  obtain ⟨h1,h2,h3⟩:=sH h
  have:=Mu h1 h2
  rw [h3] at this
  exact this
theorem Oy(s : ByteArray)(hs : s.size ≤ 1000000000) : ∃ m n, dA s = some (.r0 m n (Qn s)) ∧ (Qn s = true → m = Gr s ∧ n = D0 s) := by
  unfold dA
  have h6:(pj s).run=some (.inl ((aq s).length,(aq s).length,aq s)):=by
    simp only [pj,qx s hs]
    exact bi rfl
  by_cases h3:(aq s).length=3
  · have hh : Qn s = vT s := by unfold Qn; rw [decide_eq_true h3]; rfl
    rw [hh]
    obtain ⟨w0,w1,w2,hw⟩:∃ w0 w1 w2,aq s=[w0,w1,w2]:=by
      match aq s,h3 with
      | [a,b,c],_=>exact ⟨a,b,c,rfl⟩
    have hM:Gr s=db w1:=by unfold Gr;rw [hw];rfl
    have hN:D0 s=db w2:=by unfold D0;rw [hw];rfl
    have h7:(un (aq s).length (aq s)).run=some (.inl (!decide (w0=Mt))):=by
      rw [hw]
      refine aI (bi (bi ?_))
      show some (Sum.inl (!(w0.toList==Mt.toList)))=_
      rw [cY]
    by_cases h0:w0=Mt
    · rw [decide_eq_true h0] at h7
      have h8:(pk (aq s).length (aq s) false).run=some (.inl (Gz w1,Gz w2)):=by
        rw [hw]
        simp only [pk,Qh]
        exact aI (bi (bi (am (by rw [show ([w0,w1,w2]:List ByteArray).getD 1 ByteArray.empty=w1 from rfl];rfl) (bi (bi (bi rfl))))))
      have h9:(uo (Gz w1) (Gz w2)).run=some (.inl (decide (Gz w1≥0)&&decide (Gz w2≥0))):=by
        cases hd:decide (Gz w1≥0) with
        | true=>exact bK hd (by rw [Bool.true_and];rfl)
        | false=>exact bm hd rfl
      refine ⟨Gz w1,Gz w2,?_,fun hk=>?_⟩
      · have : vT s = (decide (Gz w1 ≥ 0) && decide (Gz w2 ≥ 0)) := by
          cases hk:vT s with
          | true =>
            obtain ⟨g1,g2,g3⟩:=sH hk
            have:=yM hk
            rw [hw] at this
            cases this
            rw [(GA g1 rfl).1,(GA g2 rfl).1,decide_eq_true (show Gr s≥0 from g1.1),decide_eq_true (show D0 s≥0 from g2.1)]
            rfl
          | false =>
            rcases B5 w1 with q1 | ⟨a1,a2,a3,a4⟩
            · rw [q1];rfl
            · rcases B5 w2 with q2 | ⟨b1,b2,b3,b4⟩
              · rw [q2,decide_eq_false (show ¬ (-1:Int)≥0 by decide),Bool.and_false]
              · have hhead:mZ (Gz w1) (Gz w2)=s:=by
                  apply gz
                  have:=K2 s
                  rw [Gw,a3,b3,←h0,←this,qi,D1,hw]
                  rfl
                rw [←a4,←hM] at a1 a2
                rw [←b4,←hN] at b1 b2
                rw [←a4,←b4,←hM,←hN] at hhead
                unfold vT at hk
                rw [Qg ⟨a1,a2⟩,Qg ⟨b1,b2⟩,decide_eq_true hhead] at hk
                cases hk
        rw [this]
        exact aH (ah h6 (ah h7 (ah h8 (ah h9 rfl))))
      · obtain ⟨g1,g2,g3⟩:=sH hk
        have:=yM hk
        rw [hw] at this
        cases this
        exact ⟨(GA g1 rfl).1,(GA g2 rfl).1⟩
    · have hk:vT s=false:=by
        cases hk:vT s with
        | false=>rfl
        | true =>
          have:=yM hk
          rw [hw] at this
          cases this
          exact (h0 rfl).elim
      rw [decide_eq_false h0] at h7
      rw [hk]
      exact ⟨0,0,aH (ah h6 (ah h7 (aG (bc rfl)))),fun h=>by cases h⟩
  · have hh:Qn s=false:=by unfold Qn;rw [decide_eq_false h3];rfl
    rw [hh]
    exact ⟨0,0,aH (ah h6 (ah (a:=true) (bK (bne_iff_ne.2 (by omega)) rfl) (aG (bc rfl)))),fun h=>by cases h⟩
theorem Oz{s:ByteArray}{n e:Int}(h:lM s=.fail n e) :e=3∨e=4:=by
  unfold lM at h
  by_cases hz:8388608<s.size
  · rw [decide_eq_true hz] at h;cases h;exact .inl rfl
  · rw [decide_eq_false hz,cond_false] at h
    unfold Gt at h
    repeat' (first | (cases h;first | done | (exact .inl rfl) | (exact .inr rfl)) | (generalize (dn Ot 0 (cE s).1).2.2=b1 at h;cases b1<;>simp only [cond_true,cond_false] at h) | (generalize Nat.beq (cE s).2.size 0=b2 at h;cases b2<;>simp only [cond_true,cond_false] at h) | (generalize (dn Ot 0 (cE s).1).1.on=b3 at h;cases b3<;>simp only [cond_true,cond_false] at h) | (generalize Nat.blt 64 (dn Ot 0 (cE s).1).1.l.length=b4 at h;cases b4<;>simp only [cond_true,cond_false] at h))
theorem K4(s:ByteArray) :(∃ n e,aP s=some (.fail n e)∧lM s=.fail n e)∨∃ r l,aP s=some (.ok r)∧lM s=.ok l∧Mq r l:=by
  obtain ⟨x,h1,h2⟩:=DN s
  cases hp:lM s with
  | fail n e =>
    rw [hp] at h2
    cases x with
    | fail n' e' =>
      obtain ⟨rfl,rfl⟩:=h2
      exact .inl ⟨_,_,h1,rfl⟩
    | ok r=>exact h2.elim
  | ok l =>
    rw [hp] at h2
    cases x with
    | fail n' e'=>exact h2.elim
    | ok r=>exact .inr ⟨r,l,h1,rfl,h2⟩
theorem Qi(n:Nat) :Nat.beq n n=true:=by simp
theorem OA(k m n:Int)(ws:List Int)(y t:Int) :lS k m n ws y t=some (.r0 (nu k m n ws.length y t)):=by
  have out:(pO k m n ws y t).run=some (.inl true)→nu k m n ws.length y t=false→lS k m n ws y t=some (.r0 (nu k m n ws.length y t)):=by
    intro h1 h2
    rw [h2]
    exact aH (ah h1 (aG (bc rfl)))
  by_cases c1:m<0
  · exact out (bK (decide_eq_true c1) rfl) (by unfold nu;rw [decide_eq_false (show ¬ m≥0 by omega)];rfl)
  have d1:decide (m≥0)=true:=decide_eq_true (by omega)
  by_cases c2:m>512
  · exact out (bm (decide_eq_false c1) (bK (decide_eq_true c2) rfl)) (by unfold nu;rw [d1,decide_eq_false (show ¬ m≤512 by omega)];rfl)
  have d2:decide (m≤512)=true:=decide_eq_true (by omega)
  by_cases c3:n<0
  · exact out (bm (decide_eq_false c1) (bm (decide_eq_false c2) (bK (decide_eq_true c3) rfl))) (by unfold nu;rw [d1,d2,decide_eq_false (show ¬ n≥0 by omega)];rfl)
  have d3:decide (n≥0)=true:=decide_eq_true (by omega)
  by_cases c4:n>512
  · exact out (bm (decide_eq_false c1) (bm (decide_eq_false c2) (bm (decide_eq_false c3) (bK (decide_eq_true c4) rfl)))) (by unfold nu;rw [d1,d2,d3,decide_eq_false (show ¬ n≤512 by omega)];rfl)
  have d4:decide (n≤512)=true:=decide_eq_true (by omega)
  have hmn:fw .i64 (m*n)=true:=by
    have h1:=Int.mul_nonneg (show 0≤m by omega) (show 0≤n by omega)
    have h2:=Int.mul_le_mul (show m≤512 by omega) (show n≤512 by omega) (show 0≤n by omega) (by omega)
    rw [aX]
    omega
  by_cases c5:((ws.length:Nat):Int)=m*n
  · have d5 : (((ws.length : Nat) : Int) == m * n) = true := beq_iff_eq.2 c5
    have h4:(pO k m n ws y t).run=some (.inl (!df k y t)):=by
      simp only [pO,F2]
      exact bm (decide_eq_false c1) (bm (decide_eq_false c2) (bm (decide_eq_false c3) (bm (decide_eq_false c4) (am hmn (bm (bne_eq_false_iff_eq.2 c5) (ET (bi rfl)))))))
    cases ha:df k y t with
    | false=>exact out (by rw [h4,ha];rfl) (by unfold nu;rw [d1,d2,d3,d4,d5,ha];rfl)
    | true =>
      have hv:nu k m n ws.length y t=(bif m==n then true else !(oS k).2.2.2.2):=by unfold nu;rw [d1,d2,d3,d4,d5,ha];rfl
      rw [hv]
      rw [ha] at h4
      by_cases e:m=n
      · rw [beq_iff_eq.2 e,cond_true]
        exact aH (ah h4 (ah (a:=true) (aI (bK (beq_iff_eq.2 e) rfl)) rfl))
      · rw [beq_eq_false_iff_ne.2 e,cond_false]
        by_cases k1:k=1
        · subst k1
          exact aH (ah h4 (ah (a:=false) (aI (bm (beq_eq_false_iff_ne.2 e) (aI rfl))) rfl))
        · by_cases k2:k=2
          · subst k2
            exact aH (ah h4 (ah (a:=false) (aI (bm (beq_eq_false_iff_ne.2 e) (bc rfl))) rfl))
          · have hs:(oS k).2.2.2.2=false:=by
              unfold oS
              rw [if_neg k1,if_neg k2]
              repeat' split
              all_goals rfl
            rw [hs]
            exact aH (ah h4 (ah (a:=true) (aI (bm (beq_eq_false_iff_ne.2 e) (bK (bne_iff_ne.2 k1) (congrArg (fun b=>some (Sum.inl b)) (bne_iff_ne.2 k2))))) rfl))
  · exact out (bm (decide_eq_false c1) (bm (decide_eq_false c2) (bm (decide_eq_false c3) (bm (decide_eq_false c4) (am hmn (bK (bne_iff_ne.2 c5) rfl)))))) (by unfold nu;rw [d1,d2,d3,d4,beq_eq_false_iff_ne.2 c5];rfl)
theorem K5(s:ByteArray) :s.data.toList.length=s.size:=rfl
theorem QW{l:List ByteArray}{i:Nat}(h:i<l.length) :l[i]? = some (l.getD i ByteArray.empty):=by
  rw [List.getD_eq_getElem?_getD,List.getElem?_eq_getElem h];rfl
theorem AJ{l:List ByteArray}{i:Nat}(h:i<l.length) :l.drop i=l.getD i ByteArray.empty::l.drop (i+1):=by
  rw [List.drop_eq_getElem_cons h,List.getD_eq_getElem?_getD,List.getElem?_eq_getElem h];rfl
def bQ(l:List ByteArray)(p:Nat) :Nat→List Int
  | 0=>[]
  | j+1=>bQ l p j++bd (l.getD (p+j) ByteArray.empty)
def CN(l:List ByteArray)(p:Nat)(N:Int)(i:Nat) :Prop:=p+i<l.length∧cM (l.getD (p+i) ByteArray.empty)=true∧(((bd (l.getD (p+i) ByteArray.empty)).length:Nat):Int)=N
theorem B6(l:List ByteArray)(p:Nat)(N:Nat) :∀ j,(∀ i,i<j→CN l p N i)→(bQ l p j).length=j*N
  | 0,_=>by simp [bQ]
  | j+1,h=>by
    have ih:=B6 l p N j fun i hi=>h i (by omega)
    have h3:=(h j (by omega)).2.2
    rw [bQ,List.length_append,ih,Nat.succ_mul]
    omega
theorem yN(l:List ByteArray)(p:Nat)(A:List ch)(M N:Int)(K:Nat)(hK:(K:Int)≤M)(hN:0<N) :∀ j,j≤K→(∀ i,i<j→CN l p N i) →
    dn ⟨A,M,N,[],true,0⟩ (p:Int) (l.drop p)=dn ⟨A,M,N,bQ l p j,true,(j:Int)⟩ ((p+j:Nat):Int) (l.drop (p+j))
  | 0,_,_=>rfl
  | j+1,hj,h=>by
    rw [yN l p A M N K hK hN j (by omega) fun i hi=>h i (by omega)]
    obtain ⟨h1,h2,h3⟩:=h j (by omega)
    rw [AJ h1,dn]
    have hc:(decide (((j:Nat):Int)<M)&&decide (0<N))=true:=by
      rw [decide_eq_true (by omega),decide_eq_true hN];rfl
    have ht:jB ⟨A,M,N,bQ l p j,true,(j:Int)⟩ (l.getD (p+j) ByteArray.empty)=(⟨A,M,N,bQ l p (j+1),true,(j:Int)+1⟩,true):=by
      unfold jB
      simp only [cond_true,hc,h2,h3,bQ]
      rw [beq_self_eq_true]
    rw [ht]
    simp only [cond_true]
    have e:((p+j:Nat):Int)+1=((p+(j+1):Nat):Int):=by omega
    rw [e]
    rfl
theorem Qj(s:ByteArray)(hs:s.size≤1000000000) :cy s=some (.r0 (decide (uE s=0)) (fu s).1 (fu s).2.1 (fu s).2.2):=by
  rw [Du s hs]
  unfold uE fu
  rw [←RL]
  cases F7 s with
  | none=>rfl
  | some x=>rfl
theorem Nq(s:ByteArray)(hs:s.size≤1000000000) :bG s=some (.r0 (bd s).length (bd s).length (cM s) (bd s)):=by
  rw [FZ s hs]
  unfold bd cM
  cases oQ s with
  | none=>rfl
  | some x=>rfl
set_option maxHeartbeats 1000000 in
theorem RZ (l : List ByteArray) (hl : l.length ≤ 10000000) (hx : ∀ x ∈ l, x.size ≤ 10000000) (at' : Nat) (hat : at' < l.length) (r : Rd) (hr : r.on = false) :
    (∃ (a : ch) (kn : Nat) (next : Nat) (r' : Rd), a.k = (kn : Int) ∧ aW l (at' : Int) = some (.r0 (next : Int) true kn a.m a.n a.ws.length a.ws.length a.y a.t a.ws) ∧ at' < next ∧ next ≤ l.length ∧ r'.on = false ∧ r'.l = r.l ++ [a] ∧ dn r (at' : Int) (l.drop at') = dn r' (next : Int) (l.drop next))
    ∨ (∃ next : Nat, aW l (at' : Int) = some (.r0 (next : Int) false 0 0 0 0 0 0 0 []) ∧ ((∃ r', dn r (at' : Int) (l.drop at') = (r', (next : Int), false)) ∨ (next = l.length ∧ ∃ r', r'.on = true ∧ dn r (at' : Int) (l.drop at') = (r', ((l.length : Nat) : Int), true)))) := by
  have hsz : ∀ i, (l.getD i ByteArray.empty).size ≤ 1000000000 := by
    intro i
    by_cases hi : i < l.length
    · have := hx _ (List.mem_of_getElem? (QW hi)); omega
    · rw [List.getD_eq_getElem?_getD, List.getElem?_eq_none (by omega)]; decide
  obtain ⟨m, n, hu, hmn⟩ := Oy (l.getD at' ByteArray.empty) (hsz at')
  have h17 : (rV l (at' : Int)).run = some (.inl (m, n, Qn (l.getD at' ByteArray.empty))) := by
    simp only [rV, tr, hu]
    exact am (by rw [dc]; omega) (am (by rw [cq]; omega) (bi rfl))
  have ht0 : (jB r (l.getD at' ByteArray.empty)) = bif decide ((aq (l.getD at' ByteArray.empty)).length = 3) then (⟨r.l, Gr (l.getD at' ByteArray.empty), D0 (l.getD at' ByteArray.empty), [], true, 0⟩, vT (l.getD at' ByteArray.empty)) else (r, false) := by
    unfold jB
    rw [hr, cond_false]
  cases hh : Qn (l.getD at' ByteArray.empty) with
  | false =>
    rw [hh] at h17
    refine .inr ⟨at', ?_, .inl ⟨r, ?_⟩⟩
    · unfold aW
      exact aH (ah h17 (aG (bc rfl)))
    · rw [AJ hat, dn, ht0]
      unfold Qn at hh
      cases h3 : decide ((aq (l.getD at' ByteArray.empty)).length = 3) with
      | true => rw [h3, cond_true] at hh; rw [cond_true, hh]; rfl
      | false => rfl
  | true =>
    obtain ⟨rfl, rfl⟩ := hmn hh
    rw [hh] at h17
    have h3 : decide ((aq (l.getD at' ByteArray.empty)).length = 3) = true ∧ vT (l.getD at' ByteArray.empty) = true := by
      unfold Qn at hh
      cases h3 : decide ((aq (l.getD at' ByteArray.empty)).length = 3) with
      | true => rw [h3, cond_true] at hh; exact ⟨rfl, hh⟩
      | false => rw [h3, cond_false] at hh; cases hh
    obtain ⟨⟨M0, M1⟩, ⟨N0, N1⟩, -⟩ := sH h3.2
    have hrun0 : dn r (at' : Int) (l.drop at') = dn ⟨r.l, Gr (l.getD at' ByteArray.empty), D0 (l.getD at' ByteArray.empty), [], true, 0⟩ ((at' + 1 : Nat) : Int) (l.drop (at' + 1)) := by
      rw [AJ hat, dn, ht0, h3.1, cond_true, h3.2, cond_true]
      rfl
    rw [hrun0]
    have h18 : (xK (at' : Int) true).run = some (.inl ((at' + 1 : Nat) : Int)) := aI (am (by rw [aX]; omega) rfl)
    generalize Gr (l.getD at' ByteArray.empty) = mm at *
    generalize D0 (l.getD at' ByteArray.empty) = nn at *
    obtain ⟨M, rfl⟩ := Int.eq_ofNat_of_zero_le M0
    obtain ⟨N, rfl⟩ := Int.eq_ofNat_of_zero_le N0
    obtain ⟨K, hK⟩ : ∃ K, K = (if 0 < N then M else 0) := ⟨_, rfl⟩
    have hK5 : K ≤ 512 := by rw [hK]; split <;> omega
    obtain ⟨p, hp⟩ : ∃ p, p = at' + 1 := ⟨_, rfl⟩
    rw [← hp] at h18 ⊢

    have step : ∀ j, j < K → (∀ i, i < j → CN l p N i) → CN l p N j → ld l (M : Int) (N : Int) (((p + j : Nat) : Int), (bQ l p j).length, (bQ l p j).length, j, bQ l p j) = some (.inl (((p + (j + 1) : Nat) : Int), (bQ l p (j + 1)).length, (bQ l p (j + 1)).length, j + 1, bQ l p (j + 1))) := by
      intro j hj hg hgj
      have hN0 : 0 < N := by
        by_cases h0 : 0 < N
        · exact h0
        · rw [if_neg h0] at hK; omega
      have hjM : j < M := by rw [if_pos hN0] at hK; omega
      obtain ⟨g1, g2, g3⟩ := hgj
      have hlen := B6 l p N j hg
      have hle := Nat.mul_le_mul (show j ≤ 512 by omega) (show N ≤ 512 by omega)
      have t20 : (ol (M : Int) (N : Int) j).run = some (.inl true) := bK (decide_eq_true (by omega)) (congrArg (fun b => some (Sum.inl b)) (decide_eq_true (by omega)))
      have e5 : List.take (bQ l p j).length (bQ l p j) = bQ l p j := List.take_length
      have e6 : List.take (bd (l.getD (p + j) ByteArray.empty)).length (bd (l.getD (p + j) ByteArray.empty)) = bd (l.getD (p + j) ByteArray.empty) := List.take_length
      have hlN : (bd (l.getD (p + j) ByteArray.empty)).length = N := by omega
      refine ah t20 (ah (a := (((p + (j + 1) : Nat) : Int), (bQ l p (j + 1)).length, bQ l p (j + 1))) ?_ (am (by rw [aX]; omega) rfl))
      simp only [om, tr, Nq _ (hsz (p + j))]
      refine bc (bm (decide_eq_false (by omega)) (am (by rw [dc]; omega) (am (by rw [cq]; omega) (bi (bm (by show (!cM (l.getD (p + j) ByteArray.empty)) = false; rw [g2]; rfl) (bm (bne_eq_false_iff_eq.2 g3) (am ?_ (am ?_ (am (EU _) (am (EU _) (am (by rw [aX]; omega) ?_)))))))))))
      · rw [cd]; show ((bQ l p j).length + (bd (l.getD (p + j) ByteArray.empty)).length) * 8 ≤ _; omega
      · rw [cd]; show (bQ l p j).length + (bd (l.getD (p + j) ByteArray.empty)).length ≤ _; omega
      · show some (Sum.inl (((p + j : Nat) : Int) + 1, (bQ l p j).length + (bd (l.getD (p + j) ByteArray.empty)).length, List.take (bQ l p j).length (bQ l p j) ++ List.take (bd (l.getD (p + j) ByteArray.empty)).length (bd (l.getD (p + j) ByteArray.empty)))) = _
        rw [e5, e6, bQ, List.length_append, show ((p + j : Nat) : Int) + 1 = ((p + (j + 1) : Nat) : Int) by omega]
    by_cases hall : ∀ i, i < K → CN l p N i
    ·
      have hlen := B6 l p N K hall
      have hle := Nat.mul_le_mul (show K ≤ 512 by omega) (show N ≤ 512 by omega)
      have hrun : dn ⟨r.l, (M : Int), (N : Int), [], true, 0⟩ (p : Int) (l.drop p) = dn ⟨r.l, (M : Int), (N : Int), bQ l p K, true, (K : Int)⟩ ((p + K : Nat) : Int) (l.drop (p + K)) := by
        by_cases hN0 : 0 < N
        · exact yN l p r.l M N K (by rw [if_pos hN0] at hK; omega) (by omega) K (Nat.le_refl _) hall
        · rw [if_neg hN0] at hK
          subst hK
          rfl
      have hcond : (decide (((K : Nat) : Int) < (M : Int)) && decide (0 < (N : Int))) = false := by
        by_cases hN0 : 0 < N
        · rw [if_pos hN0] at hK
          rw [decide_eq_false (show ¬ ((K : Nat) : Int) < (M : Int) by omega)]; rfl
        · rw [decide_eq_false (show ¬ 0 < (N : Int) by omega), Bool.and_false]
      have t20 : (ol (M : Int) (N : Int) K).run = some (.inl false) := by
        by_cases hM : ((K : Nat) : Int) < (M : Int)
        · rw [decide_eq_true hM, Bool.true_and] at hcond
          exact bK (decide_eq_true hM) (congrArg (fun b => some (Sum.inl b)) hcond)
        · exact bm (decide_eq_false hM) rfl
      have hloop : cO (ld l (M : Int) (N : Int)) (((p : Nat) : Int), 0, 0, 0, ([] : List Int)) = some (.inl (((p + K : Nat) : Int), (bQ l p K).length, (bQ l p K).length, bQ l p K)) :=
        cV (fun j => (((p + j : Nat) : Int), (bQ l p j).length, (bQ l p j).length, j, bQ l p j)) K rfl (fun j hj => step j hj (fun i hi => hall i (by omega)) (hall j hj)) (ah t20 (aG (aI rfl)))
      rw [hrun]
      have hpK : p + K ≤ l.length := by
        by_cases h0 : K = 0
        · subst h0; omega
        · have := (hall (K - 1) (by omega)).1; omega
      by_cases hend : p + K < l.length
      ·
        obtain ⟨x, hxe⟩ : ∃ x, l.getD (p + K) ByteArray.empty = x := ⟨_, rfl⟩
        have hxs := hsz (p + K)
        rw [hxe] at hxs
        have h24 : (rW l ((p + K : Nat) : Int)).run = some (.inl (decide (uE x = 0), (fu x).1, (fu x).2.1, (fu x).2.2)) := by
          simp only [rW, tr, hxe, Qj x hxs]
          exact bm (decide_eq_false (by omega)) (am (by rw [dc]; omega) (am (by rw [cq]; omega) (bi rfl)))
        have h25 : (rX (M : Int) (N : Int) (bQ l p K).length (bQ l p K) (decide (uE x = 0)) (fu x).1 (fu x).2.1 (fu x).2.2).run = some (.inl (!jy ⟨r.l, M, N, bQ l p K, true, K⟩ x)) := by
          unfold jy
          cases decide (uE x = 0) with
          | false => exact bc rfl
          | true =>
            simp only [rX, sd, OA]
            exact aI (ET (bi rfl))
        have htk : jB ⟨r.l, (M : Int), (N : Int), bQ l p K, true, (K : Int)⟩ x = (⟨r.l ++ [K1 ⟨r.l, M, N, bQ l p K, true, K⟩ x], (M : Int), (N : Int), bQ l p K, false, (K : Int)⟩, jy ⟨r.l, M, N, bQ l p K, true, K⟩ x) := by
          unfold jB
          simp only [cond_true, hcond, cond_false]
        rw [AJ hend, dn, hxe, htk]
        cases hg : jy ⟨r.l, M, N, bQ l p K, true, K⟩ x with
        | true =>
          rw [hg] at h25
          refine .inl ⟨K1 ⟨r.l, M, N, bQ l p K, true, K⟩ x, (fu x).1, p + K + 1, ⟨r.l ++ [K1 ⟨r.l, M, N, bQ l p K, true, K⟩ x], (M : Int), (N : Int), bQ l p K, false, (K : Int)⟩, rfl, ?_, by omega, by omega, rfl, rfl, rfl⟩
          unfold aW
          exact aH (ah h17 (ah h18 (ah hloop (ah h24 (ah h25 (aI (am (by rw [aX]; omega) rfl)))))))
        | false =>
          rw [hg] at h25
          refine .inr ⟨p + K, ?_, .inl ⟨_, rfl⟩⟩
          unfold aW
          exact aH (ah h17 (ah h18 (ah hloop (ah h24 (ah h25 (bc rfl))))))
      · have hpe : p + K = l.length := by omega
        refine .inr ⟨p + K, ?_, .inr ⟨hpe, ⟨r.l, (M : Int), (N : Int), bQ l p K, true, (K : Int)⟩, rfl, ?_⟩⟩
        · unfold aW
          exact aH (ah h17 (ah h18 (ah hloop (aG (bK (decide_eq_true (by omega)) rfl)))))
        · rw [hpe, List.drop_length]
          rfl
    ·
      obtain ⟨k, hk, hb, hg⟩ : ∃ k, k < K ∧ ¬ CN l p (N : Int) k ∧ ∀ j, j < k → CN l p (N : Int) j := by
        letI : DecidablePred (CN l p (N : Int)) := fun _ => Classical.propDecidable _
        exact Go.Plb.first_bad hall
      have hN0 : 0 < N := by
        by_cases h0 : 0 < N
        · exact h0
        · rw [if_neg h0] at hK; omega
      have hkM : k < M := by rw [if_pos hN0] at hK; omega
      have hrun := yN l p r.l M N K (by rw [if_pos hN0] at hK; omega) (by omega) k (by omega) hg
      rw [hrun]
      have hpk : p + k ≤ l.length := by
        by_cases h0 : k = 0
        · subst h0; omega
        · have := (hg (k - 1) (by omega)).1; omega
      have t20 : (ol (M : Int) (N : Int) k).run = some (.inl true) := bK (decide_eq_true (by omega)) (congrArg (fun b => some (Sum.inl b)) (decide_eq_true (by omega)))
      have out : (om l (N : Int) ((p + k : Nat) : Int) (bQ l p k).length (bQ l p k).length (bQ l p k) true).run = some (.inr (.inr (.r0 ((p + k : Nat) : Int) false 0 0 0 0 0 0 0 []))) → aW l (at' : Int) = some (.r0 ((p + k : Nat) : Int) false 0 0 0 0 0 0 0 []) := by
        intro h21
        unfold aW
        exact aH (ah h17 (ah h18 (aG (cV (fun j => (((p + j : Nat) : Int), (bQ l p j).length, (bQ l p j).length, j, bQ l p j)) k rfl (fun j hj => step j (by omega) (fun i hi => hg i (by omega)) (hg j hj)) (ah t20 (aG h21))))))
      by_cases hend : p + k < l.length
      · have hcond : (decide (((k : Nat) : Int) < (M : Int)) && decide (0 < (N : Int))) = true := by
          rw [decide_eq_true (by omega), decide_eq_true (by omega)]; rfl
        refine .inr ⟨p + k, out ?_, .inl ?_⟩
        · simp only [om, tr, Nq _ (hsz (p + k))]
          refine bc (bm (decide_eq_false (by omega)) (am (by rw [dc]; omega) (am (by rw [cq]; omega) (bi ?_))))
          cases ho : cM (l.getD (p + k) ByteArray.empty) with
          | false => exact bc rfl
          | true => exact aI (bK (bne_iff_ne.2 fun q => hb ⟨hend, ho, q⟩) rfl)
        · rw [AJ hend, dn]
          unfold jB
          simp only [cond_true, hcond]
          cases ho : cM (l.getD (p + k) ByteArray.empty) with
          | false => exact ⟨_, rfl⟩
          | true =>
            rw [cond_true]
            simp only []
            rw [beq_eq_false_iff_ne.2 fun q => hb ⟨hend, ho, q⟩]
            exact ⟨_, rfl⟩
      · have hpe : p + k = l.length := by omega
        refine .inr ⟨p + k, out (bc (bK (decide_eq_true (by omega)) rfl)), .inr ⟨hpe, ⟨r.l, (M : Int), (N : Int), bQ l p k, true, (k : Int)⟩, rfl, ?_⟩⟩
        rw [hpe, List.drop_length]
        rfl
def K6(p:Rd×Int×Bool) :(Nat×Nat×Nat×(List Int)×(List Int)×(List Int)×(List (List Int))×(List Int)×(List Int))⊕aE :=
  bif p.2.2 && !p.1.on then .inl (p.1.l.length,p.1.l.length,p.1.l.length,p.1.l.map ch.k,p.1.l.map ch.m,p.1.l.map ch.n,p.1.l.map ch.ws,p.1.l.map ch.y,p.1.l.map ch.t)
  else .inr (.r0 0 0 p.2.1 4 0 [] [] [] [] [] [])
theorem Qk(l:List ByteArray)(acc:List ch)(a:ch)(kn next at':Nat)(hk:a.k=(kn:Int))(hat:at'<l.length)(hacc:acc.length≤20000000)(h:aW l (at':Int)=some (.r0 (next:Int) true kn a.m a.n a.ws.length a.ws.length a.y a.t a.ws)) :
    cD l.length l (acc.length,acc.length,(at':Int),acc.length,acc.map ch.k,acc.map ch.m,acc.map ch.n,acc.map ch.ws,acc.map ch.y,acc.map ch.t)=some (.inl ((acc++[a]).length,(acc++[a]).length,(next:Int),(acc++[a]).length,(acc++[a]).map ch.k,(acc++[a]).map ch.m,(acc++[a]).map ch.n,(acc++[a]).map ch.ws,(acc++[a]).map ch.y,(acc++[a]).map ch.t)):=by
  have e:∀ {β:Type} (f:ch→β) (y:β),f a=y→List.take acc.length (acc.map f)++[y]=(acc++[a]).map f:=by
    intro β f y hy
    rw [List.take_of_length_le (by simp),List.map_append,←hy];rfl
  simp only [cD,pn,sd,h]
  refine bK (decide_eq_true (by omega)) (ET (bi (aI (am (by rw [cd];omega) (am (by rw [cd];omega) (bi (am (EU _) (am (decide_eq_true (by show 0+a.ws.length≤a.ws.length;omega)) ?_))))))))
  show some (Sum.inl (acc.length+1,acc.length+1,(next:Int),acc.length+1,List.take acc.length (acc.map ch.k)++[((kn:Nat):Int)],List.take acc.length (acc.map ch.m)++[a.m],List.take acc.length (acc.map ch.n)++[a.n],List.take acc.length (acc.map ch.ws)++[List.take a.ws.length (List.drop 0 a.ws)],List.take acc.length (acc.map ch.y)++[a.y],List.take acc.length (acc.map ch.t)++[a.t]))=_
  rw [e ch.k _ hk,e ch.m _ rfl,e ch.n _ rfl,e ch.ws _ (by rw [List.drop_zero,List.take_length]),e ch.y _ rfl,e ch.t _ rfl]
  simp
theorem GB(l:List ByteArray)(hl:l.length≤10000000)(hx:∀ x∈l,x.size≤10000000) :∀ (f at':Nat) (r:Rd),l.length-at'<f→at'≤l.length→r.on=false→r.l.length≤at' →
    cO (cD l.length l) (r.l.length,r.l.length,(at':Int),r.l.length,r.l.map ch.k,r.l.map ch.m,r.l.map ch.n,r.l.map ch.ws,r.l.map ch.y,r.l.map ch.t)=some (K6 (dn r (at':Int) (l.drop at'))) ∧
    ((dn r (at':Int) (l.drop at')).2.2=true→(dn r (at':Int) (l.drop at')).2.1=(l.length:Int))
  | 0,at',r,h,_,_,_=>by omega
  | f + 1, at', r, h, hle, hon, hlen => by
    by_cases hat:at'<l.length
    · rcases RZ l hl hx at' hat r hon with ⟨a,kn,next,r',hk,h1,h2,h3,h4,h5,h6⟩ | ⟨next,h1,h2⟩
      · have ih:=GB l hl hx f next r' (by omega) h3 h4 (by rw [h5,List.length_append];simp;omega)
        rw [h6]
        refine ⟨?_,ih.2⟩
        rw [zA (Qk l r.l a kn next at' hk hat (by omega) h1),←h5]
        exact ih.1
      · have hout:cD l.length l (r.l.length,r.l.length,(at':Int),r.l.length,r.l.map ch.k,r.l.map ch.m,r.l.map ch.n,r.l.map ch.ws,r.l.map ch.y,r.l.map ch.t)=some (.inr (.inr (.r0 0 0 (next:Int) 4 0 [] [] [] [] [] []))):=by
          simp only [cD,pn,sd,h1]
          exact bK (decide_eq_true (by omega)) (ET (bi (bc rfl)))
        rw [jc hout]
        rcases h2 with ⟨r',q⟩ | ⟨hn,r',q0,q⟩
        · rw [q]
          exact ⟨rfl,fun h=>by cases h⟩
        · rw [q]
          refine ⟨?_,fun _=>rfl⟩
          unfold K6
          rw [q0,hn]
          rfl
    · have he:at'=l.length:=by omega
      subst he
      rw [List.drop_length]
      refine ⟨?_,fun _=>rfl⟩
      refine (jc (bm (decide_eq_false (by omega)) rfl)).trans ?_
      simp only [dn]
      unfold K6
      rw [hon]
      rfl
def DO:QU→aE
  | .fail n e=>.r0 0 0 n e.toNat 0 [] [] [] [] [] []
  | .ok l=>.r0 l.length l.length 0 0 l.length (l.map ch.k) (l.map ch.m) (l.map ch.n) (l.map ch.ws) (l.map ch.y) (l.map ch.t)
theorem My(s:ByteArray) :bA s=some (DO (lM s)):=by
  unfold bA
  by_cases hz:s.size>8388608
  · have hp:lM s=.fail 0 3:=by unfold lM;rw [decide_eq_true hz];rfl
    rw [hp]
    exact aH (aG (bK (decide_eq_true (by omega)) rfl))
  · have hp : lM s = Gt (dn Ot 0 (cE s).1) (cE s).2 := by unfold lM; rw [decide_eq_false hz]; rfl
    have h10:(pm s).run=some (.inl ((cE s).1.length,(cE s).1.length,(cE s).2,(cE s).1)):=by
      simp only [pm,Mx s (by omega)]
      exact bm (decide_eq_false (by omega)) (bi rfl)
    have hb:=AG s
    have hlB:∀ L:List ByteArray,L.length≤(gW L).length∧∀ x∈L,x.size≤(gW L).length:=by
      intro L
      induction L with
      | nil=>exact ⟨Nat.le_refl _,fun x hx=>by cases hx⟩
      | cons y L ih =>
        have e:(gW (y::L)).length=y.size+1+(gW L).length:=by
          show ((OD y)++gW L).length=_
          rw [List.length_append,OD,List.length_append,K5];rfl
        refine ⟨by rw [List.length_cons];omega,fun x hx=>?_⟩
        rcases List.mem_cons.1 hx with rfl | hx
        · omega
        · have:=ih.2 x hx;omega
    have hsz:(gW (cE s).1).length≤s.size:=by
      have:=congrArg List.length hb
      rw [List.length_append,K5] at this
      omega
    generalize hL:(cE s).1=L at *
    generalize hR:(cE s).2=rest at *
    have g:=hlB L
    obtain ⟨k1,k2⟩:=GB L (by omega) (fun x hx=>by have:=g.2 x hx;omega) (L.length+1) 0 Ot (by omega) (Nat.zero_le _) rfl (Nat.le_refl _)
    have h0:dn Ot ((0:Nat):Int) (L.drop 0)=dn Ot 0 L:=rfl
    rw [h0] at k1 k2
    rw [hp]
    generalize dn Ot 0 L=P at k1 k2 ⊢
    obtain ⟨r,n,b⟩:=P
    have k1:cO (cD L.length L) (0,0,(0:Int),0,([]:List Int),([]:List Int),([]:List Int),([]:List (List Int)),([]:List Int),([]:List Int))=some (K6 (r,n,b)):=k1
    cases b with
    | false=>exact aH (ah h10 (ah rfl (aG k1)))
    | true =>
      have hn:n=(L.length:Int):=k2 rfl
      cases hon:r.on with
      | true =>
        have e:K6 (r,n,true)=.inr (.r0 0 0 n 4 0 [] [] [] [] [] []):=by unfold K6;rw [hon];rfl
        rw [e] at k1
        have e2:Gt (r,n,true) rest=.fail n 4:=by
          unfold Gt
          simp only [hon,cond_true]
          cases Nat.beq rest.size 0<;>rfl
        rw [e2]
        exact aH (ah h10 (ah rfl (aG k1)))
      | false =>
        have e:K6 (r,n,true)=.inl (r.l.length,r.l.length,r.l.length,r.l.map ch.k,r.l.map ch.m,r.l.map ch.n,r.l.map ch.ws,r.l.map ch.y,r.l.map ch.t):=by unfold K6;rw [hon];rfl
        rw [e] at k1
        refine aH (ah h10 (ah rfl (ah k1 ?_)))
        have hem:(rest.toList==ByteArray.empty.toList)=Nat.beq rest.size 0:=by
          rw [cY]
          by_cases h:rest.size=0
          · have:rest=ByteArray.empty:=by
              apply gz
              rw [List.length_eq_zero_iff.1 (show rest.data.toList.length=0 from h)]
              rfl
            subst this
            rfl
          · rw [decide_eq_false (fun q=>h (by rw [q];rfl))]
            exact (Bool.eq_false_iff.2 fun q=>h (Nat.eq_of_beq_eq_true q)).symm
        unfold Gt
        simp only [hon,cond_true,cond_false]
        cases hq:Nat.beq rest.size 0 with
        | false =>
          rw [cond_false,hn]
          exact bK (by rw [hem,hq];rfl) rfl
        | true =>
          rw [cond_true]
          refine (bm (by rw [hem,hq];rfl) ?_:(uq L.length rest r.l.length r.l.length r.l.length (r.l.map ch.k) (r.l.map ch.m) (r.l.map ch.n) (r.l.map ch.ws) (r.l.map ch.y) (r.l.map ch.t)).run=_)
          by_cases h64:64<r.l.length
          · rw [zE.2 h64,cond_true]
            exact bK (decide_eq_true (by omega)) rfl
          · rw [show Nat.blt 64 r.l.length=false by rw [←Bool.not_eq_true,zE];exact h64,cond_false]
            exact bm (decide_eq_false (by omega)) rfl
set_option maxHeartbeats 1000000 in
theorem Mz (s : ByteArray) : eM s = some (.r0 true) := by
  unfold eM
  by_cases hz : s.size > 30000
  · exact aH (aG (bK (decide_eq_true (by omega)) rfl))
  · have h13 : ∀ {p}, lM s = p → (fN s).run = some (.inl (jo (some (DO p)), jp (some (DO p)), jq (some (DO p)), jr (some (DO p)), js (some (DO p)), jt (some (DO p)), ju (some (DO p)), jv (some (DO p)), jw (some (DO p)), jx (some (DO p)), gN (some (DO p)))) := by
      intro p hp
      simp only [fN, My, hp]
      refine am ?_ rfl
      cases p <;> rfl
    rcases K4 s with ⟨n, e, hF, hP⟩ | ⟨r, l, hF, hP, hc⟩
    · have he : 0 ≤ e := by rcases Oz hP with rfl | rfl <;> decide
      have h12 : (cZ s).run = some (.inl (0, [], [], [], [], [], [], n, e)) := by
        simp only [cZ, hF]
        exact bm (decide_eq_false (by omega)) (zD (bi rfl))
      have h14 : (fO 0 n e 0 n e.toNat).run = some (.inl false) := by
        refine aI (bm (bne_eq_false_iff_eq.2 rfl) ?_)
        exact congrArg (fun b => some (Sum.inl b)) (bne_eq_false_iff_eq.2 (by omega))
      exact aH (ah h12 (ah (h13 hP) (ah h14 (ah (aI rfl) (ah (a := ()) (cV (fun j => j) 0 rfl (fun j hj => by omega) (aG (aI rfl))) rfl)))))
    · obtain ⟨c1, c2, c3, c4, c5, c6, c7, c8⟩ := hc
      have h12 : (cZ s).run = some (.inl (l.length, l.map ch.k, l.map ch.m, l.map ch.n, l.map ch.ws, l.map ch.y, l.map ch.t, 0, 0)) := by
        simp only [cZ, hF]
        refine bm (decide_eq_false (by omega)) (ut (uu rfl) (zD (am ?_ ?_)))
        · show Nat.beq r.nl r.nc = true
          rw [c1, c2]
          exact Qi _
        · show some (Sum.inl (r.nl, r.ks, r.ms, r.ns, r.wss, r.ys, r.ts, (0 : Int), (0 : Int))) = _
          rw [c1, c3, c4, c5, c6, c7, c8]
      have h14 : (fO l.length 0 0 l.length 0 0).run = some (.inl false) := bm (bne_eq_false_iff_eq.2 rfl) (aI rfl)
      obtain ⟨hmay, hl64, hbs, hbz⟩ := Mw hP
      refine aH (ah h12 (ah (h13 hP) (ah h14 (ah (aI rfl) (ah (a := ()) (cV (fun j => j) l.length rfl (fun j hj => ?_) (aG (bm (decide_eq_false (by omega)) rfl))) rfl)))))
      refine ah (a := ()) ?_ (am (by rw [aX]; omega) rfl)
      show (fP l.length (l.map ch.k) (l.map ch.m) (l.map ch.n) (l.map ch.ws) (l.map ch.y) (l.map ch.t) l.length (l.map ch.k) (l.map ch.m) (l.map ch.n) (l.map ch.ws) (l.map ch.y) (l.map ch.t) j).run = _
      have hws : ((l.map ch.ws).getD j []).length ≤ 1000000000 := by
        obtain ⟨a, ha⟩ : ∃ a, l[j]? = some a := ⟨_, List.getElem?_eq_getElem hj⟩
        rw [List.getD_eq_getElem?_getD, List.getElem?_map, ha]
        obtain ⟨hm, hn, hlen, _⟩ := Io (hmay a (List.mem_of_getElem? ha))
        have := Int.mul_le_mul hm.2 hn.2 hn.1 (by decide)
        show a.ws.length ≤ _
        omega
      have hsm := HB ((l.map ch.k).getD j 0) ((l.map ch.m).getD j 0) ((l.map ch.n).getD j 0) ((l.map ch.ws).getD j []) ((l.map ch.y).getD j 0) ((l.map ch.t).getD j 0) ((l.map ch.k).getD j 0) ((l.map ch.m).getD j 0) ((l.map ch.n).getD j 0) ((l.map ch.ws).getD j []) ((l.map ch.y).getD j 0) ((l.map ch.t).getD j 0) hws
      have hse : ∀ (a0 a1 a2 : Int) (a3 : List Int) (a4 a5 : Int), Nj a0 a1 a2 a3 a4 a5 a0 a1 a2 a3 a4 a5 = true := fun a0 a1 a2 a3 a4 a5 => by simp [Nj]
      rw [hse] at hsm
      simp only [fP, sd, hsm]
      have q : ∀ {β : Type} (f : ch → β), gO j (l.map f).length = true := fun f => by rw [cq, List.length_map]; exact hj
      have i0 : oK (j : Int) l.length = true := by rw [dc]; omega
      exact bK (decide_eq_true (by omega)) (am i0 (am (q _) (am (q _) (am (q _) (am (q _) (am (q _) (am (q _) (am i0 (am (q _) (am (q _) (am (q _) (am (q _) (am (q _) (am (q _) (ET (ET (bi (aI rfl))))))))))))))))))
end Go.Plb.Seat
