/-
  Part 4 of what the claim leans on: an evaluator of the model, proved sound; the contracts of the functions.
-/
import Derived.Test.YtacdcghekbbjiaaDoorA3
namespace Go.Plb.Seat
open Go Go.Plb
set_option linter.unusedSimpArgs false
set_option linter.unusedVariables false
set_option maxRecDepth 100000
theorem FG{n:Nat}(h:n<16) :hv (UInt8.ofNat (aA hH n).toNat)=n:=by
  have hall:∀ i:Fin 16,hv (UInt8.ofNat (aA hH i.val).toNat)=i.val:=by decide +kernel
  exact hall ⟨n,h⟩
theorem pk(w:Int) :(aN w).data.toList=(List.range 16).map fun j=>UInt8.ofNat (aA hH (dg w j)).toNat:=by
  rw [aN,nt,eS,List.map_map]
  rfl
theorem Ei{w:Int}(h1:0≤w)(h2:w<18446744073709551616) :dJ (aN w).data.toList=w.toNat:=by
  have key:∀ j,j≤16→dJ ((aN w).data.toList.take j)=w.toNat/16^(16-j):=by
    intro j
    induction j with
    | zero =>
      intro _
      have:(16:Nat)^16=18446744073709551616:=by decide
      rw [List.take_zero,Nat.sub_zero,this,Nat.div_eq_of_lt (by omega)]
      rfl
    | succ j ih =>
      intro hj
      have hg:(aN w).data.toList[j]? = some (UInt8.ofNat (aA hH (dg w j)).toNat):=by
        rw [pk];simp [show j<16 by omega]
      have e:(aN w).data.toList.take (j+1)=(aN w).data.toList.take j++[UInt8.ofNat (aA hH (dg w j)).toNat]:=by rw [List.take_add_one,hg];rfl
      rw [e,nr,ih (by omega)]
      have hs:dJ [UInt8.ofNat (aA hH (dg w j)).toNat]=dg w j:=by
        have:=FG (BI w j)
        simp [dJ,this]
      rw [hs]
      have hd:dg w j=w.toNat/16^(16-(j+1))%16:=by
        unfold dg
        have e1:(2:Int)^(60-4*j)=((16^(16-(j+1)):Nat):Int):=by
          have:(60-4*j)=4*(16-(j+1)):=by omega
          rw [this,Int.pow_mul]
          simp
        obtain ⟨n,rfl⟩:=Int.eq_ofNat_of_zero_le h1
        rw [e1,Int.fdiv_eq_ediv_of_nonneg _ (Int.natCast_nonneg _),←Int.natCast_ediv,Int.toNat_natCast]
        omega
      have hp:16^(16-j)=16^(16-(j+1))*16:=by rw [←Nat.pow_succ];congr 1;omega
      rw [hd,hp,←Nat.div_div_eq_div_mul,List.length_singleton,Nat.pow_one]
      omega
  have:=key 16 (Nat.le_refl _)
  have hl:(aN w).data.toList.length=16:=by rw [pk];simp
  rw [List.take_of_length_le (by omega)] at this
  simpa using this
theorem EP(w:Int) :jQ (aN w).data.toList=true:=by
  have hl:(aN w).data.toList.length=16:=by rw [pk];simp
  unfold jQ
  rw [decide_eq_true hl,List.all_eq_true.2 (rN w)]
  rfl
theorem xq{w:Int}(h1:0≤w)(h2:w<18446744073709551616) :zR (aN w)=w:=by
  unfold zR
  rw [EP,cond_true,Ei h1 h2]
  omega
theorem vu(x:ByteArray) :0≤zR x∧zR x<18446744073709551616:=by
  unfold zR
  cases h:jQ x.data.toList with
  | false=>exact ⟨Int.le_refl 0,by show (0:Int)<_;decide⟩
  | true =>
    unfold jQ at h
    rw [Bool.and_eq_true,List.all_eq_true] at h
    have h1:=of_decide_eq_true h.1
    have h2:=qr _ h.2
    rw [h1] at h2
    have:(16:Nat)^16=18446744073709551616:=by decide
    rw [cond_true]
    omega
theorem vv(s:ByteArray) :d9 s=zR s:=by
  unfold zR
  rw [←yA]
  cases h:cF s with
  | true=>exact Ed h
  | false=>rw [d9,h];rfl
theorem ij{k y t:Int}(h:cp k y t=true) :(k=1∧(y=1∨y=2∨y=3)∧t=0)∨(k=2∧y=0∧t=0)∨(k=3∧(y=1∨y=2)∧t=0)∨(k=4∧(y=1∨y=2))∨(k=5∧(y=1∨y=2))∨(k=6∧(y=1∨y=2)∧t=0):=by
  have g:∀ {a b:Bool},(bif a then b else false)=true→a=true∧b=true:=by intro a b;cases a<;>cases b<;>simp
  have m3:fw 1 ((3:Nat):Int)=1:=by decide
  have m2:fw 1 ((2:Nat):Int)=1:=by decide
  have m0:fw 1 ((0:Nat):Int)=0:=by decide
  unfold cp at h
  obtain ⟨h1,h⟩:=g h
  obtain ⟨h2,h⟩:=g h
  obtain ⟨h3,h⟩:=g h
  have h2:=of_decide_eq_true h2
  have h3:=of_decide_eq_true h3
  by_cases k1:k=1
  · subst k1
    have e:iZ 1=(true,ByteArray.mk #[101,105,103,101,110],3,false,true):=rfl
    rw [e] at h h2 h3
    simp only [m3,cond_false,beq_iff_eq] at h h2 h3
    exact .inl ⟨rfl,by omega,h⟩
  by_cases k2:k=2
  · subst k2
    have e:iZ 2=(true,ByteArray.mk #[118,97,108,117,101,115],0,false,true):=rfl
    rw [e] at h h2 h3
    simp only [m0,cond_false,beq_iff_eq] at h h2 h3
    exact .inr (.inl ⟨rfl,by omega,h⟩)
  by_cases k3:k=3
  · subst k3
    have e:iZ 3=(true,ByteArray.mk #[115,118,100],2,false,false):=rfl
    rw [e] at h h2 h3
    simp only [m2,cond_false,beq_iff_eq] at h h2 h3
    exact .inr (.inr (.inl ⟨rfl,by omega,h⟩))
  by_cases k4:k=4
  · subst k4
    have e:iZ 4=(true,ByteArray.mk #[114,97,110,107],2,true,false):=rfl
    rw [e] at h h2 h3
    simp only [m2] at h h2 h3
    exact .inr (.inr (.inr (.inl ⟨rfl,by omega⟩)))
  by_cases k5:k=5
  · subst k5
    have e:iZ 5=(true,ByteArray.mk #[105,110,118,101,114,115,101],2,true,false):=rfl
    rw [e] at h h2 h3
    simp only [m2] at h h2 h3
    exact .inr (.inr (.inr (.inr (.inl ⟨rfl,by omega⟩))))
  by_cases k6:k=6
  · subst k6
    have e:iZ 6=(true,ByteArray.mk #[99,111,110,100],2,false,false):=rfl
    rw [e] at h h2 h3
    simp only [m2,cond_false,beq_iff_eq] at h h2 h3
    exact .inr (.inr (.inr (.inr (.inr ⟨rfl,by omega,h⟩))))
  simp [iZ,k1,k2,k3,k4,k5,k6] at h1
theorem A6(k y t:Int) :cS k y t=some (.r0 (cp k y t)):=by
  unfold cS
  have m3:fw 1 ((3:Nat):Int)=1:=by decide
  have m2:fw 1 ((2:Nat):Int)=1:=by decide
  have m0:fw 1 ((0:Nat):Int)=0:=by decide
  have b2:∀ (b:Bool),(kH b).run=some (.inr (.r0 b)):=fun _=>rfl
  by_cases k1:k=1
  · subst k1
    refine bG (ak (a:=3) (bJ rfl) (ak (a:=cp 1 y t) ?_ rfl))
    show _=some (Sum.inl (bif decide (y≥fw 1 ((3:Nat):Int)) then bif decide (y≤((3:Nat):Int)) then t==0 else false else false))
    rw [m3]
    cases h1:decide (y≥1) with
    | false=>exact cW h1 rfl
    | true =>
      refine d5 h1 ?_
      cases h2:decide (y≤((3:Nat):Int)) with
      | false=>exact aP rfl
      | true =>
        refine bJ ?_
        cases h3:(t==0) with
        | false=>exact aP (aP rfl)
        | true=>exact bJ rfl
  by_cases k2:k=2
  · subst k2
    refine bG (cE (aP (bJ ?_)))
    show _=some (Sum.inr (aW.r0 (bif decide (y≥fw 1 ((0:Nat):Int)) then bif decide (y≤((0:Nat):Int)) then t==0 else false else false)))
    rw [m0]
    by_cases hy:y=0
    · subst hy
      exact bJ rfl
    · refine cW (beq_eq_false_iff_ne.2 hy) ?_
      by_cases h1:y≥0
      · have : ¬ y≤((0:Nat):Int):=by omega
        rw [decide_eq_true h1,decide_eq_false this];rfl
      · rw [decide_eq_false h1];rfl
  by_cases k3:k=3
  · subst k3
    refine bG (ak (a:=2) (aP (aP (bJ rfl))) (ak (a:=cp 3 y t) ?_ rfl))
    show _=some (Sum.inl (bif decide (y≥fw 1 ((2:Nat):Int)) then bif decide (y≤((2:Nat):Int)) then t==0 else false else false))
    rw [m2]
    cases h1:decide (y≥1) with
    | false=>exact cW h1 rfl
    | true =>
      refine d5 h1 ?_
      cases h2:decide (y≤((2:Nat):Int)) with
      | false=>exact aP rfl
      | true =>
        refine bJ ?_
        cases h3:(t==0) with
        | false=>exact aP (aP rfl)
        | true=>exact bJ rfl
  by_cases k4:k=4
  · subst k4
    refine bG (ak (a:=2) (aP (aP (aP (aP (bJ rfl))))) (ak (a:=cp 4 y t) ?_ rfl))
    show _=some (Sum.inl (bif decide (y≥fw 1 ((2:Nat):Int)) then bif decide (y≤((2:Nat):Int)) then true else false else false))
    rw [m2]
    cases h1:decide (y≥1) with
    | false=>exact cW h1 rfl
    | true =>
      refine d5 h1 ?_
      cases h2:decide (y≤((2:Nat):Int)) with
      | false=>exact aP rfl
      | true =>
        refine bJ ?_
        cases h3:(t==0) with
        | false=>exact aP (bJ rfl)
        | true=>exact bJ rfl
  by_cases k5:k=5
  · subst k5
    refine bG (ak (a:=2) (aP (aP (aP (aP (aP (bJ rfl)))))) (ak (a:=cp 5 y t) ?_ rfl))
    show _=some (Sum.inl (bif decide (y≥fw 1 ((2:Nat):Int)) then bif decide (y≤((2:Nat):Int)) then true else false else false))
    rw [m2]
    cases h1:decide (y≥1) with
    | false=>exact cW h1 rfl
    | true =>
      refine d5 h1 ?_
      cases h2:decide (y≤((2:Nat):Int)) with
      | false=>exact aP rfl
      | true =>
        refine bJ ?_
        cases h3:(t==0) with
        | false=>exact aP (aP rfl)
        | true=>exact bJ rfl
  by_cases k6:k=6
  · subst k6
    refine bG (ak (a:=2) (aP (aP (aP (bJ rfl)))) (ak (a:=cp 6 y t) ?_ rfl))
    show _=some (Sum.inl (bif decide (y≥fw 1 ((2:Nat):Int)) then bif decide (y≤((2:Nat):Int)) then t==0 else false else false))
    rw [m2]
    cases h1:decide (y≥1) with
    | false=>exact cW h1 rfl
    | true =>
      refine d5 h1 ?_
      cases h2:decide (y≤((2:Nat):Int)) with
      | false=>exact aP rfl
      | true =>
        refine bJ ?_
        cases h3:(t==0) with
        | false=>exact aP (aP rfl)
        | true=>exact bJ rfl
  have q:∀ j:Int,¬ k=j→(k==j)=false:=fun j h=>beq_eq_false_iff_ne.2 h
  have e:cp k y t=false:=by
    cases h:cp k y t with
    | false=>rfl
    | true =>
      have:=ij h
      omega
  rw [e]
  exact bG (cE (cW (q _ k1) (cW (q _ k2) (cW (q _ k3) (cW (q _ k6) (cW (q _ k4) (cW (q _ k5) rfl)))))))
def iD(w:ByteArray) :Nat:=if w=ByteArray.mk #[101,105,103,101,110] then 1 else if w=ByteArray.mk #[118,97,108,117,101,115] then 2 else if w=ByteArray.mk #[115,118,100] then 3 else if w=ByteArray.mk #[114,97,110,107] then 4 else if w=ByteArray.mk #[105,110,118,101,114,115,101] then 5 else if w=ByteArray.mk #[99,111,110,100] then 6 else 0
theorem A7{k y t:Int}(h:cp k y t=true) :eD k y t=some (.r0 (eU k y t)):=by
  have e2:(ByteArray.mk #[32]).size=1:=rfl
  have h1:=fg y
  have h2:=jo t
  have asc:∀ a b c:ByteArray,a++b++c=a++(b++c):=fun a b c=>ByteArray.append_assoc
  have hy:iS .i64 y=true:=by
    have:=ij h
    rw [bt];omega
  have hT:=wN t
  unfold eD
  have gen:∀ (w:ByteArray),w.size≤7→(ke k).run=some (.inl w)→k≠2→(eU k y t=bif (k==4||k==5) then (w++(pn++bO y))++(pn++aN t) else w++(pn++bO y))→tq (bA ((ke k).run) fun s1=>bA ((kf k y s1).run) fun s2=>bA ((kg k).run) fun b3=>bA ((kh t s2 b3).run) fun s4=>(nn s4).run)=some (.r0 (eU k y t)):=by
    intro w hw h6 hk hl
    have h7:(kf k y w).run=some (.inl (w++(pn++bO y))):=by
      rw [←asc]
      refine d5 (bne_iff_ne.2 hk) (au ?_ (au hy (au ?_ rfl)))
      all_goals simp only [ByteArray.size_append,e2,decide_eq_true_eq];omega
    have h8:(kg k).run=some (.inl (k==4||k==5)):=by
      cases h4:(k==4) with
      | true=>exact d5 h4 rfl
      | false=>exact cW h4 rfl
    refine bG (ak h6 (ak h7 (ak h8 (ak (a:=eU k y t) ?_ rfl))))
    rw [hl]
    cases (k==4||k==5) with
    | false=>exact aP rfl
    | true =>
      simp only [kh,hT]
      have e3:pn.size=1:=rfl
      refine bJ (au ?_ (dX (au ?_ ?_)))
      · simp only [ByteArray.size_append,e2,e3,decide_eq_true_eq];omega
      · show decide ((w++(pn++bO y)++ByteArray.mk #[32]).size+(aN t).size≤_)=true
        simp only [ByteArray.size_append,e2,e3,decide_eq_true_eq];omega
      · show some (Sum.inl (w++(pn++bO y)++pn++aN t))=_
        rw [asc (w++(pn++bO y))]
        rfl
  rcases ij h with ⟨rfl,hh,rfl⟩ | ⟨rfl,rfl,rfl⟩ | ⟨rfl,hh,rfl⟩ | ⟨rfl,hh⟩ | ⟨rfl,hh⟩ | ⟨rfl,hh,rfl⟩
  · exact gen (ByteArray.mk #[101,105,103,101,110]) (by decide) rfl (by decide) rfl
  · exact bG (ak (a:=ByteArray.mk #[118,97,108,117,101,115]) rfl (ak (a:=ByteArray.mk #[118,97,108,117,101,115]) (aP rfl) (ak (a:=false) (aP rfl) (ak (a:=ByteArray.mk #[118,97,108,117,101,115]) (aP rfl) rfl))))
  · exact gen (ByteArray.mk #[115,118,100]) (by decide) rfl (by decide) rfl
  · exact gen (ByteArray.mk #[114,97,110,107]) (by decide) rfl (by decide) rfl
  · exact gen (ByteArray.mk #[105,110,118,101,114,115,101]) (by decide) rfl (by decide) rfl
  · exact gen (ByteArray.mk #[99,111,110,100]) (by decide) rfl (by decide) rfl
theorem vx(a b:List UInt8)(ha:∀ c∈a,c≠32)(hb:∀ c∈b,c≠32) :aF (a++32::b)=[a,b]:=by rw [lR _ _ ha,ig _ hb]
theorem yB(a b d:List UInt8)(ha:∀ c∈a,c≠32)(hb:∀ c∈b,c≠32)(hd:∀ c∈d,c≠32) :aF (a++32::(b++32::d))=[a,b,d]:=by rw [lR _ _ ha,vx _ _ hb hd]
theorem vy{y:Int}(h:y=1∨y=2∨y=3) :∀ c∈(bO y).data.toList,c≠32:=by
  rcases h with rfl | rfl | rfl<;>decide +kernel
theorem A8(t:Int) :∀ c∈(aN t).data.toList,c≠32:=by
  intro c hc q
  subst q
  have:=rN t _ hc
  revert this
  decide
theorem CO(w v:ByteArray)(hw:∀ c∈w.data.toList,c≠32)(hv:∀ c∈v.data.toList,c≠32) :aB (w++(pn++v))=[w,v]:=by
  symm
  apply qt
  have e:(w++(pn++v)).data.toList=w.data.toList++32::v.data.toList:=by simp [pn]
  rw [e,vx _ _ hw hv]
  rfl
theorem zU(w v u:ByteArray)(hw:∀ c∈w.data.toList,c≠32)(hv:∀ c∈v.data.toList,c≠32)(hu:∀ c∈u.data.toList,c≠32) :aB ((w++(pn++v))++(pn++u))=[w,v,u]:=by
  symm
  apply qt
  have e:((w++(pn++v))++(pn++u)).data.toList=w.data.toList++32::(v.data.toList++32::u.data.toList):=by simp [pn]
  rw [e,yB _ _ _ hw hv hu]
  rfl
theorem CQ(w:ByteArray)(hw:∀ c∈w.data.toList,c≠32) :aB w=[w]:=by
  symm
  apply qt
  rw [ig _ hw]
  rfl
def yS(k:Nat)(l:List ByteArray) :Int:=bif decide (((iZ k).2.2.1:Int)>0)&&decide (((l.length-1:Nat):Int)>0) then nT (l.getD 1 ByteArray.empty) else 0
def tS(k:Nat)(l:List ByteArray) :Int:=bif (iZ k).2.2.2.1&&decide (((l.length-1:Nat):Int)>1) then d9 (l.getD 2 ByteArray.empty) else 0
def yR(l:List ByteArray) :Int:=bif decide ((l.length:Int)>1)&&(((l.getD 1 ByteArray.empty).size:Int)==1) then IntKind.i64.wrap (aA (l.getD 1 ByteArray.empty) 0)-48 else 0
def tR(l:List ByteArray) :Int:=bif decide ((l.length:Int)>2) then zR (l.getD 2 ByteArray.empty) else 0
theorem BP{y:Int}(h:y=1∨y=2∨y=3) :nT (bO y)=y∧((bO y).size:Int)=1∧IntKind.i64.wrap (aA (bO y) 0)-48=y:=by
  rcases h with rfl | rfl | rfl<;>decide +kernel
def A9(k:Nat)(y t:Int)(l:List ByteArray) :Prop:=iD (l.getD 0 ByteArray.empty)=k∧yS k l=y∧tS k l=t∧yR l=y∧tR l=t
theorem vz{k:Nat}{y t:Int}(w:ByteArray)(hw:∀ c∈w.data.toList,c≠32)(hk:iD w=k)(hy:y=1∨y=2∨y=3)(ht:t=0)(hn:(iZ k).2.2.1≠0)(hb:(iZ k).2.2.2.1=false) :A9 k y t (aB (w++(pn++bO y))):=by
  obtain ⟨n1,n2,n3⟩:=BP hy
  rw [CO _ _ hw (vy hy)]
  refine ⟨hk,?_,?_,?_,?_⟩
  · unfold yS
    rw [decide_eq_true (show ((iZ (k:Int)).2.2.1:Int)>0 by omega)]
    exact n1
  · unfold tS
    rw [hb,ht]
    rfl
  · unfold yR
    simp only [List.getD_cons_succ,List.getD_cons_zero,n2,n3]
    rfl
  · rw [ht]
    rfl
theorem vA{k:Nat}{y t:Int}(w:ByteArray)(hw:∀ c∈w.data.toList,c≠32)(hk:iD w=k)(hy:y=1∨y=2∨y=3)(h1:0≤t)(h2:t<18446744073709551616)(hn:(iZ k).2.2.1≠0)(hb:(iZ k).2.2.2.1=true) :A9 k y t (aB ((w++(pn++bO y))++(pn++aN t))):=by
  obtain ⟨n1,n2,n3⟩:=BP hy
  rw [zU _ _ _ hw (vy hy) (A8 t)]
  refine ⟨hk,?_,?_,?_,?_⟩
  · unfold yS
    rw [decide_eq_true (show ((iZ (k:Int)).2.2.1:Int)>0 by omega)]
    exact n1
  · unfold tS
    simp only [hb,List.length_cons,List.length_nil,List.getD_cons_succ,List.getD_cons_zero,vv,xq h1 h2]
    rfl
  · unfold yR
    simp only [List.getD_cons_succ,List.getD_cons_zero,n2,n3]
    rfl
  · unfold tR
    simp only [List.length_cons,List.length_nil,List.getD_cons_succ,List.getD_cons_zero,xq h1 h2]
    rfl
theorem Gb{k:Nat}{y t:Int}(h:cp k y t=true)(h1:0≤t)(h2:t<18446744073709551616) :A9 k y t (aB (eU k y t)):=by
  rcases ij h with ⟨e,hh,ht⟩ | ⟨e,rfl,rfl⟩ | ⟨e,hh,ht⟩ | ⟨e,hh⟩ | ⟨e,hh⟩ | ⟨e,hh,ht⟩
  · have e:k=1:=by omega
    subst e
    exact vz (ByteArray.mk #[101,105,103,101,110]) (by decide) rfl hh ht (by decide) rfl
  · have e:k=2:=by omega
    subst e
    have hl:eU ((2:Nat):Int) 0 0=ByteArray.mk #[118,97,108,117,101,115]:=rfl
    rw [hl,CQ _ (by decide)]
    exact ⟨rfl,rfl,rfl,rfl,rfl⟩
  · have e:k=3:=by omega
    subst e
    exact vz (ByteArray.mk #[115,118,100]) (by decide) rfl (by omega) ht (by decide) rfl
  · have e:k=4:=by omega
    subst e
    exact vA (ByteArray.mk #[114,97,110,107]) (by decide) rfl (by omega) h1 h2 (by decide) rfl
  · have e:k=5:=by omega
    subst e
    exact vA (ByteArray.mk #[105,110,118,101,114,115,101]) (by decide) rfl (by omega) h1 h2 (by decide) rfl
  · have e:k=6:=by omega
    subst e
    exact vz (ByteArray.mk #[99,111,110,100]) (by decide) rfl (by omega) ht (by decide) rfl
def Ej(s:ByteArray)(k:Nat)(y t:Int) :Bool:=cp k y t&&decide (eU k y t=s)
def EQ(s:ByteArray) :Option (Nat×Int×Int) :=
  let l:=aB s
  let k:=iD (l.getD 0 ByteArray.empty)
  bif Ej s k (yS k l) (tS k l) then some (k,yS k l,tS k l) else none
def Ek(s:ByteArray) :Option (Nat×Int×Int) :=
  let l:=aB s
  let k:=iD (l.getD 0 ByteArray.empty)
  bif Ej s k (yR l) (tR l) then some (k,yR l,tR l) else none
theorem El(k:Nat)(l:List ByteArray) :0≤tS k l∧tS k l<18446744073709551616:=by
  unfold tS
  rw [vv]
  cases ((iZ k).2.2.2.1&&decide (((l.length-1:Nat):Int)>1)) with
  | true=>exact vu _
  | false=>exact ⟨Int.le_refl 0,by show (0:Int)<_;decide⟩
theorem Em(l:List ByteArray) :0≤tR l∧tR l<18446744073709551616:=by
  unfold tR
  cases decide ((l.length:Int)>2) with
  | true=>exact vu _
  | false=>exact ⟨Int.le_refl 0,by show (0:Int)<_;decide⟩
theorem FH(s:ByteArray) :EQ s=Ek s:=by
  unfold EQ Ek
  simp only []
  generalize hk:iD ((aB s).getD 0 ByteArray.empty)=k
  cases h1:Ej s k (yS k (aB s)) (tS k (aB s)) with
  | true =>
    have g:=h1
    unfold Ej at g
    rw [Bool.and_eq_true] at g
    have gl:=of_decide_eq_true g.2
    have hr:=El k (aB s)
    have:=Gb g.1 hr.1 hr.2
    rw [gl] at this
    obtain ⟨_,_,_,q1,q2⟩:=this
    rw [q1,q2,h1]
  | false =>
    cases h2:Ej s k (yR (aB s)) (tR (aB s)) with
    | false=>rfl
    | true =>
      have g:=h2
      unfold Ej at g
      rw [Bool.and_eq_true] at g
      have gl:=of_decide_eq_true g.2
      have hr:=Em (aB s)
      have:=Gb g.1 hr.1 hr.2
      rw [gl] at this
      obtain ⟨_,q1,q2,_,_⟩:=this
      rw [q1,q2,h2] at h1
      cases h1
end Go.Plb.Seat
namespace Go.Plb.Seat
open Go Go.Plb
set_option linter.unusedVariables false
set_option maxRecDepth 100000
noncomputable section
end
end Go.Plb.Seat
namespace Go.Plb.Seat
open Go Go.Plb
set_option linter.unusedSimpArgs false
set_option linter.unusedVariables false
set_option maxRecDepth 100000
theorem vB:∀ (a b:List Int),a.length=b.length→a=b∨∃ n,n<a.length∧(∀ j,j<n→a.getD j 0=b.getD j 0)∧a.getD n 0≠b.getD n 0
  | [],[],_=>.inl rfl
  | x::a,y::b,h=>by
    by_cases hxy:x=y
    · subst hxy
      rcases vB a b (by simpa using h) with rfl | ⟨n,h1,h2,h3⟩
      · exact .inl rfl
      · refine .inr ⟨n+1,by simp;omega,fun j hj=>?_,by simpa using h3⟩
        cases j with
        | zero=>rfl
        | succ j=>simpa using h2 j (by omega)
    · exact .inr ⟨0,by simp,fun j hj=>by omega,by simpa using hxy⟩
  | [],_::_,h=>by simp at h
  | _::_,[],h=>by simp at h
def En(a0 a1 a2:Int)(a4:List Int)(a5 a6 b0 b1 b2:Int)(b4:List Int)(b5 b6:Int) :Bool :=
  bif a0==b0 then bif a1==b1 then bif a2==b2 then bif a5==b5 then bif a6==b6 then decide (a4=b4) else false else false else false else false else false
theorem wO(a0 a1 a2:Int)(a4:List Int)(a5 a6 b0 b1 b2:Int)(b4:List Int)(b5 b6:Int)(h:a4.length≤1000000000) :cx a0 a1 a2 a4 a5 a6 b0 b1 b2 b4 b5 b6=some (.r0 (En a0 a1 a2 a4 a5 a6 b0 b1 b2 b4 b5 b6)):=by
  unfold cx
  have hn:∀ x y:Int,(x != y) = !(x==y):=fun _ _=>rfl
  have h8:(ki a0 a1 a2 a4 a5 a6 b0 b1 b2 b4 b5 b6).run=some (.inl (!(bif a0==b0 then bif a1==b1 then bif a2==b2 then bif a5==b5 then bif a6==b6 then ((a4.length:Int)==(b4.length:Int)) else false else false else false else false else false))):=by
    unfold ki
    simp only [hn]
    cases (a0==b0)<;>cases (a1==b1)<;>cases (a2==b2)<;>cases (a5==b5)<;>cases (a6==b6)<;>rfl
  refine bG (ak h8 ?_)
  unfold En
  have fl:∀ {k:Unit→Option (Empty⊕bo)},bA (oM (!false)).run k=some (.inr (.r0 false)):=fun {k}=>cE rfl
  cases (a0==b0) with
  | false=>exact fl
  | true =>
    cases (a1==b1) with
    | false=>exact fl
    | true =>
      cases (a2==b2) with
      | false=>exact fl
      | true =>
        cases (a5==b5) with
        | false=>exact fl
        | true =>
          cases (a6==b6) with
          | false=>exact fl
          | true =>
            simp only [cond_true]
            by_cases hl:a4.length=b4.length
            · have hb:((a4.length:Int)==(b4.length:Int))=true:=by simp [hl]
              rw [hb]
              refine ak (a:=()) rfl ?_
              rcases vB a4 b4 hl with rfl | ⟨n,h1,h2,h3⟩
              · rw [decide_eq_true rfl]
                refine ak (a:=()) (eR (fun j=>j) a4.length rfl (fun j hj=>?_) ?_) rfl
                · exact d5 (by simp;omega) (au (by rw [dY];omega) (au (by rw [cM];omega) (au (by rw [dY];omega) (au (by rw [cM];omega) (cW (by simp) (au (by rw [bt];omega) rfl))))))
                · exact cW (by simp) rfl
              · have hne:a4≠b4:=fun e=>h3 (by rw [e])
                rw [decide_eq_false hne]
                refine cE (eR (fun j=>j) n rfl (fun j hj=>?_) ?_)
                · exact d5 (by simp;omega) (au (by rw [dY];omega) (au (by rw [cM];omega) (au (by rw [dY];omega) (au (by rw [cM];omega) (cW (by rw [h2 j hj];simp) (au (by rw [bt];omega) rfl))))))
                · exact d5 (by simp;omega) (au (by rw [dY];omega) (au (by rw [cM];omega) (au (by rw [dY];omega) (au (by rw [cM];omega) (d5 (bne_iff_ne.2 h3) rfl)))))
            · have hb:((a4.length:Int)==(b4.length:Int))=false:=by rw [beq_eq_false_iff_ne];omega
              have hne:a4≠b4:=fun e=>hl (by rw [e])
              rw [hb,decide_eq_false hne]
              exact fl
theorem FI(n:Nat)(l:List ByteArray)(hn:0<n)(hl:0<l.length) :(kF n l).run=if iD (l.getD 0 ByteArray.empty)=0 then some (.inr (.r0 4 0 0 0)) else some (.inl (iD (l.getD 0 ByteArray.empty),(iZ (iD (l.getD 0 ByteArray.empty))).2)):=by
  refine au (by rw [dY];omega) (au (by rw [cM];exact hl) ?_)
  generalize l.getD 0 ByteArray.empty=w
  by_cases h1:w=ByteArray.mk #[101,105,103,101,110]
  · subst h1;rfl
  by_cases h2:w=ByteArray.mk #[118,97,108,117,101,115]
  · subst h2;rfl
  by_cases h3:w=ByteArray.mk #[115,118,100]
  · subst h3;rfl
  by_cases h4:w=ByteArray.mk #[114,97,110,107]
  · subst h4;rfl
  by_cases h5:w=ByteArray.mk #[105,110,118,101,114,115,101]
  · subst h5;rfl
  by_cases h6:w=ByteArray.mk #[99,111,110,100]
  · subst h6;rfl
  have e:iD w=0:=by unfold iD;rw [if_neg h1,if_neg h2,if_neg h3,if_neg h4,if_neg h5,if_neg h6]
  rw [e,if_pos rfl]
  refine Cs (Ct (decide_eq_false h1)) (Cs (Ct (decide_eq_false h2)) (Cs (Ct (decide_eq_false h3)) (Cs (Ct (decide_eq_false h4)) (Cs (Ct (decide_eq_false h5)) (Cs (Ct (decide_eq_false h6)) (Gm ?_))))))
  have q:∀ b:ByteArray,¬ w=b→(!decide (w=b))=true:=fun b h=>by rw [decide_eq_false h];rfl
  exact au (q _ h1) (au (q _ h2) (au (q _ h3) (au (q _ h4) (au (q _ h5) (au (q _ h6) rfl)))))
theorem yC(l:List ByteArray)(k:Int)(n:Nat)(b:Bool)(hl:∀ x∈l,x.size≤1000000000) :bh l k ((n:Nat):Int) b=some (.r0 k (bif decide ((n:Int)>0)&&decide ((l.length:Int)>0) then nT (l.getD 0 ByteArray.empty) else 0) (bif b&&decide ((l.length:Int)>1) then d9 (l.getD 1 ByteArray.empty) else 0)):=by
  unfold bh
  have h6:(iB l ((n:Nat):Int)).run=some (.inl (decide ((n:Int)>0)&&decide ((l.length:Int)>0))):=by
    cases h:decide ((n:Int)>0) with
    | true=>exact d5 h rfl
    | false=>exact cW h rfl
  have h8:(iC l b).run=some (.inl (b&&decide ((l.length:Int)>1))):=by
    cases b with
    | true=>exact bJ rfl
    | false=>exact aP rfl
  refine bG (ak h6 (ak (a:=bif decide ((n:Int)>0)&&decide ((l.length:Int)>0) then nT (l.getD 0 ByteArray.empty) else 0) ?_ (ak h8 (ak (a:=bif b&&decide ((l.length:Int)>1) then d9 (l.getD 1 ByteArray.empty) else 0) ?_ rfl))))
  · by_cases h0:(l.length:Int)>0
    · rw [decide_eq_true h0]
      cases hz:(decide ((n:Int)>0)&&true) with
      | false=>exact aP rfl
      | true =>
        have hm:(l.getD 0 ByteArray.empty).size≤1000000000:=by
          rw [List.getD_eq_getElem?_getD,List.getElem?_eq_getElem (by omega)]
          exact hl _ (List.getElem_mem (by omega))
        exact bJ (au (by rw [dY];omega) (au (by rw [cM];omega) (au (Nat.ble_eq_true_of_le hm) rfl)))
    · rw [decide_eq_false h0,Bool.and_false]
      exact aP rfl
  · by_cases h0:(l.length:Int)>1
    · rw [decide_eq_true h0]
      cases hz:(b&&true) with
      | false=>exact aP rfl
      | true =>
        have hm:(l.getD 1 ByteArray.empty).size≤1000000000:=by
          rw [List.getD_eq_getElem?_getD,List.getElem?_eq_getElem (by omega)]
          exact hl _ (List.getElem_mem (by omega))
        exact bJ (au (by rw [dY];omega) (au (by rw [cM];omega) (au (Nat.ble_eq_true_of_le hm) rfl)))
    · rw [decide_eq_false h0,Bool.and_false]
      exact aP rfl
theorem FJ(s:ByteArray)(k y t:Int) :(gu s k y t).run=some (.inl (!(cp k y t&&decide (eU k y t=s)))):=by
  have hA:=eZ k y t
  simp only [gu,hA]
  refine dX ?_
  show (T.ask (!(cp k y t)) _ _).run=_
  cases ha:cp k y t with
  | false=>exact bJ rfl
  | true =>
    have hy:iS .i64 y=true:=by
      have:=ij ha
      rw [bt];omega
    rw [m8 k y t hy]
    refine aP (dX ?_)
    show some (Sum.inl (!((eU k y t).toList==s.toList)))=_
    rw [gD,Bool.true_and]
theorem vC{s x:ByteArray}(h:x∈aB s) :x.size≤s.size:=by
  have h1:x.data.toList∈aF s.data.toList:=by rw [←nu];exact List.mem_map_of_mem h
  have key:∀ l:List UInt8,∀ w∈aF l,w.length≤l.length:=by
    intro l
    induction l with
    | nil=>intro w hw;simp [aF] at hw;simp [hw]
    | cons c r ih =>
      intro w hw
      by_cases hc:c=32
      · subst hc
        rw [xm,List.mem_cons] at hw
        rcases hw with rfl | hw
        · simp
        · have:=ih w hw;simp;omega
      · rw [qs hc,List.mem_cons] at hw
        rcases hw with rfl | hw
        · have:(aF r).headD []∈aF r:=by rw [so r];simp
          have:=ih _ this
          rw [List.length_cons,List.length_cons];omega
        · have:=ih w (List.mem_of_mem_tail hw);rw [List.length_cons];omega
  have:=key _ _ h1
  simpa using this
theorem rP(s:ByteArray)(hs:s.size≤1000000000) :bB s=some (match EQ s with | some (k,y,t)=>.r0 0 k y t | none=>.r0 4 0 0 0):=by
  unfold bB
  have hw:=i8 s
  have h6:(gq s).run=some (.inl ((aB s).length,(aB s).length,aB s)):=by
    simp only [gq,zT s hs]
    exact dX rfl
  have h7:=FI (aB s).length (aB s) (by omega) (by omega)
  have hz:∀ x∈aB s,x.size≤1000000000:=fun x hx=>Nat.le_trans (vC hx) hs
  unfold EQ
  simp only []
  generalize hk:iD ((aB s).getD 0 ByteArray.empty)=k at *
  by_cases h0:k=0
  · rw [if_pos h0] at h7
    have:Ej s k (yS k (aB s)) (tS k (aB s))=false:=by
      subst h0
      rfl
    rw [this]
    exact bG (ak h6 (cE h7))
  · rw [if_neg h0] at h7
    have h8:∀ (a b:ByteArray) (n:Nat) (tt sq:Bool),(iZ k).2=(a,n,tt,sq)→(gr (aB s).length (aB s).length (aB s) k n tt).run=some (.inl ((k:Int),yS k (aB s),tS k (aB s))):=by
      intro a b n tt sq he
      have hc:eF 1 ((aB s).length-1) (aB s)=(aB s).drop 1:=by
        unfold eF
        rw [mC,List.take_of_length_le (by simp)]
      have hr:=yC ((aB s).drop 1) (k:Int) n tt fun x hx=>hz x (List.mem_of_mem_drop hx)
      simp only [gr,hc,hr]
      refine au (by rw [lY];omega) (au (by rw [lY];omega) (au (by rw [mQ];omega) (dX ?_)))
      have ew:∀ i,((aB s).drop 1).getD i ByteArray.empty=(aB s).getD (i+1) ByteArray.empty:=fun i=>by
        rw [List.getD_eq_getElem?_getD,List.getD_eq_getElem?_getD,List.getElem?_drop,Nat.add_comm]
      show some (Sum.inl ((k:Int),_,_))=_
      unfold yS tS
      rw [he]
      simp only [ew,List.length_drop]
      rfl
    cases he:(iZ k).2 with | mk a p =>
    obtain ⟨n,tt,sq⟩:=p
    rw [he] at h7
    refine bG (ak h6 (ak h7 (ak (h8 a a n tt sq he) (ak (FJ s k _ _) ?_))))
    unfold Ej
    cases (cp (k:Int) (yS k (aB s)) (tS k (aB s))&&decide (eU (k:Int) (yS k (aB s)) (tS k (aB s))=s)) with
    | true=>exact aP rfl
    | false=>exact bJ rfl
def zf:List ByteArray:=[ByteArray.empty,ByteArray.mk #[101,105,103,101,110],ByteArray.mk #[118,97,108,117,101,115],ByteArray.mk #[115,118,100],ByteArray.mk #[114,97,110,107],ByteArray.mk #[105,110,118,101,114,115,101],ByteArray.mk #[99,111,110,100]]
def Fd(w:ByteArray) :Nat→Nat
  | 0=>0
  | j+1=>bif decide (w=zf.getD (j+1) ByteArray.empty) then j+1 else Fd w j
theorem Eo(w:ByteArray) :Fd w 6=iD w:=by
  by_cases h1:w=ByteArray.mk #[101,105,103,101,110]
  · subst h1;rfl
  by_cases h2:w=ByteArray.mk #[118,97,108,117,101,115]
  · subst h2;rfl
  by_cases h3:w=ByteArray.mk #[115,118,100]
  · subst h3;rfl
  by_cases h4:w=ByteArray.mk #[114,97,110,107]
  · subst h4;rfl
  by_cases h5:w=ByteArray.mk #[105,110,118,101,114,115,101]
  · subst h5;rfl
  by_cases h6:w=ByteArray.mk #[99,111,110,100]
  · subst h6;rfl
  simp only [Fd,zf,List.getD_cons_succ,List.getD_cons_zero,iD,decide_eq_false h1,decide_eq_false h2,decide_eq_false h3,decide_eq_false h4,decide_eq_false h5,decide_eq_false h6,if_neg h1,if_neg h2,if_neg h3,if_neg h4,if_neg h5,if_neg h6,cond_false]
theorem CR{z:Int}(h1:0≤z)(h2:z<256) :IntKind.i64.wrap z=z:=by
  have hall:∀ i:Fin 256,IntKind.i64.wrap ((i.val:Nat):Int)=((i.val:Nat):Int):=by decide +kernel
  obtain ⟨n,rfl⟩:=Int.eq_ofNat_of_zero_le h1
  exact hall ⟨n,by omega⟩
theorem tf(s:ByteArray)(hs:s.size≤1000000000) :bR s=some (match Ek s with | some (k,y,t)=>.r0 true k y t | none=>.r0 false 0 0 0):=by
  unfold bR
  have hw:=i8 s
  have h14:(gA s).run=some (.inl ((aB s).length,(aB s).length,aB s)):=by
    simp only [gA,vt s hs]
    exact dX rfl
  have hz:∀ x∈aB s,x.size≤1000000000:=fun x hx=>Nat.le_trans (vC hx) hs
  unfold Ek
  simp only []
  generalize aB s=l at *
  have hloop:cV (dk l.length l) (1,0)=some (.inl (iD (l.getD 0 ByteArray.empty))):=by
    rw [←Eo]
    refine eR (fun j=>(j+1,Fd (l.getD 0 ByteArray.empty) j)) 6 rfl (fun j hj=>?_) ?_
    · refine ak (a:=Fd (l.getD 0 ByteArray.empty) (j+1)) ?_ (au (by rw [bt];omega) rfl)
      refine d5 (decide_eq_true (by omega)) (au (by rw [dY];omega) (au (by rw [cM];omega) (au (by rw [dY];omega) (au (by rw [cM];show j+1<7;omega) ?_))))
      rw [gD]
      show (T.ask (decide (l.getD 0 ByteArray.empty=zf.getD (j+1) ByteArray.empty)) _ _).run=_
      rw [Fd]
      cases decide (l.getD 0 ByteArray.empty=zf.getD (j+1) ByteArray.empty) with
      | true=>exact bJ rfl
      | false=>exact aP rfl
    · have h9:(kI l.length l 7 (Fd (l.getD 0 ByteArray.empty) 6)).run=some (.inr (.inl (Fd (l.getD 0 ByteArray.empty) 6))):=cW (decide_eq_false (show ¬ (((7:Nat):Int)≤6) by decide)) rfl
      simp only [dk]
      exact cE h9
  have h20:(kJ l.length l).run=some (.inl (decide ((l.length:Int)>1)&&(((l.getD 1 ByteArray.empty).size:Int)==1))):=by
    by_cases h1:(l.length:Int)>1
    · rw [decide_eq_true h1]
      exact d5 (decide_eq_true h1) (au (by rw [dY];omega) (au (by rw [cM];omega) rfl))
    · rw [decide_eq_false h1]
      exact cW (decide_eq_false h1) rfl
  have h21:(kK l.length l (decide ((l.length:Int)>1)&&(((l.getD 1 ByteArray.empty).size:Int)==1))).run=some (.inl (yR l)):=by
    unfold yR
    by_cases h1:(l.length:Int)>1
    · rw [decide_eq_true h1,Bool.true_and]
      cases hq:(((l.getD 1 ByteArray.empty).size:Int)==1) with
      | false=>exact aP rfl
      | true =>
        have hq:=eq_of_beq hq
        have hb:0≤aA (l.getD 1 ByteArray.empty) 0∧aA (l.getD 1 ByteArray.empty) 0<256:=by
          unfold aA
          have:=(((l.getD 1 ByteArray.empty).data[0]?).getD 0).toNat_lt
          omega
        have hwr:IntKind.i64.wrap (aA (l.getD 1 ByteArray.empty) 0)=aA (l.getD 1 ByteArray.empty) 0:=by
          exact CR hb.1 hb.2
        rw [hwr]
        refine bJ (au (by rw [dY];omega) (au (by rw [cM];omega) (au (by rw [dY];omega) (au ?_ ?_))))
        · rw [hwr,bt];omega
        · rw [hwr];rfl
    · rw [decide_eq_false h1,Bool.false_and]
      exact aP rfl
  have h22:(gB l.length l).run=some (.inl (tR l)):=by
    unfold tR
    by_cases h1:(l.length:Int)>2
    · rw [decide_eq_true h1]
      simp only [gB,wM]
      exact d5 (decide_eq_true h1) (au (by rw [dY];omega) (au (by rw [cM];omega) (dX rfl)))
    · rw [decide_eq_false h1]
      exact cW (decide_eq_false h1) rfl
  generalize iD (l.getD 0 ByteArray.empty)=k at *
  have h23:(gC s k (yR l) (tR l)).run=some (.inl (!Ej s k (yR l) (tR l))):=by
    unfold Ej
    simp only [gC,A6]
    refine dX ?_
    show (T.ask (!(cp (k:Int) (yR l) (tR l))) _ _).run=_
    cases ha:cp (k:Int) (yR l) (tR l) with
    | false=>exact bJ rfl
    | true =>
      have hL:=A7 ha
      rw [hL]
      refine aP (dX ?_)
      show some (Sum.inl (!((eU (k:Int) (yR l) (tR l)).toList==s.toList)))=_
      rw [gD,Bool.true_and]
  refine bG (ak h14 (ak rfl (ak hloop (ak h20 (ak h21 (ak h22 (ak h23 ?_)))))))
  cases Ej s k (yR l) (tR l) with
  | true=>exact aP rfl
  | false=>exact bJ rfl
theorem qu(k y t:Int) :cx k 0 0 [] y t k 0 0 [] y t=some (.r0 true):=by
  rw [wO _ _ _ _ _ _ _ _ _ _ _ _ (by simp)]
  simp [En]
theorem zV(s:ByteArray) :cN s=some (.r0 true):=by
  unfold cN
  by_cases h1:(s.size:Int)>9000
  · exact bG (cE (d5 (decide_eq_true h1) rfl))
  have hS:=rP s (by omega)
  have hR:=tf s (by omega)
  rw [FH] at hS
  cases hu:Ek s with
  | none =>
    rw [hu] at hS hR
    have h8:(bS s).run=some (.inl (4,0,0,0)):=by
      simp only [bS,hS]
      exact cW (decide_eq_false h1) (dX rfl)
    have h9:(bT s).run=some (.inl (false,0,0,0)):=by
      simp only [bT,hR]
      exact dX rfl
    have h12:(dl 4 0 0 0).run=some (.inl true):=by
      simp only [dl,qu]
      exact dX (bJ (bJ rfl))
    exact bG (ak h8 (ak h9 (ak rfl (cE (ak h12 rfl)))))
  | some p =>
    obtain ⟨k,y,t⟩:=p
    rw [hu] at hS hR
    have h8:(bS s).run=some (.inl (0,k,y,t)):=by
      simp only [bS,hS]
      exact cW (decide_eq_false h1) (dX rfl)
    have h9:(bT s).run=some (.inl (true,k,y,t)):=by
      simp only [bT,hR]
      exact dX rfl
    have h16:(dm 0 k y t k y t).run=some (.inl true):=by
      simp only [dm,qu]
      exact dX (bJ (bJ rfl))
    exact bG (ak h8 (ak h9 (ak rfl (ak rfl (ak h16 rfl)))))
end Go.Plb.Seat
