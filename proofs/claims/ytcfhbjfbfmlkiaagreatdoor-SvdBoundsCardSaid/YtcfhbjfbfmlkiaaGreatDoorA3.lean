/-
  Part 3 of what the claim leans on: an evaluator of the model, proved sound; the contracts of the functions.
-/
import Derived.LoopN
import Derived.Scope
import Derived.RangeFuncIn
import Derived.Laws.Externs
import Derived.WalkKit
import Derived.ProofKit
import Derived.OpenShut
import Derived.Deep.Slices
import Derived.Test.YtcfhbjfbfmlkiaaGreatDoorChecked
import Derived.KernelRfl
import Derived.Test.YtcfhbjfbfmlkiaaGreatDoorRows
import Derived.LaidLaws
import Derived.LaidHandle
import Derived.Lib.LaidTab
import Derived.JoinedOf
import Derived.Test.YtcfhbjfbfmlkiaaGreatDoorA2
namespace Go.Plb
noncomputable section
set_option linter.unusedSimpArgs false
set_option linter.unusedVariables false
set_option linter.unusedSectionVars false
variable [Rom]
theorem J9{l:List Operand}{t:Nat}(h:Operand.tmp t∈l) :t∈J7 l:=by
  simp only [J7,List.mem_filterMap];exact ⟨_,h,rfl⟩
theorem F9{C:ki}{run:co}{ops:Array Oper}{n0 i:Nat}{o:Oper}{T T':List AV}{h h':aM}{p p':bY}{r:iB}{obs:List Bool}(hr:sm C run ops n0 i o T h p=some (r,obs,p')) 
    (hT:∀ t∈fL ops o,T'[t]? = T[t]?) (hh:∀ b∈r.reads,aB h' b=aB h b):sm C run ops n0 i o T' h' p=some (r,obs,p'):=by
  have hw:mj ops o T'=mj ops o T:=by
    unfold mj
    simp only [Di]
    cases hg:o.guard with
    | none=>rfl
    | some x =>
      obtain ⟨j,want⟩:=x
      simp only
      cases hs:py ops j with
      | none=>rfl
      | some d=>simp only;rw [hT d (by simp [fL,hg,hs])]
  unfold sm at hr ⊢
  simp only [Qv] at hr ⊢
  rw [hw]
  split at hr
  · cases hr
  · exact hr
  · split at hr
    · cases hr
    · rename_i r' hop
      have:J1 C run (OI T') (aB h') (n0+i*iP) p o.op=some r':=by
        refine OY hop (fun x hx=>?_) (fun b hb=>?_)
        · cases x with
          | tmp t=>simp only [OI,Dh];rw [hT t (by simp only [fL,List.mem_append];exact .inr (.inl (J9 (by simpa using hx))))]
          | _=>rfl
        · apply hh
          split at hr
          · cases hr
          · simp only [Option.some.injEq,Prod.mk.injEq] at hr;rw [←hr.1];exact hb
      simp only [this]
      exact hr
def xa(C:ki)(run:co)(ops:Array Oper)(n0:Nat) :Nat→List Oper→List AV→aM→bY→Option (List iB×List AV×aM×List Bool×bY)
  | _,[],T,h,p=>some ([],T,h,[],p)
  | i,o::l,T,h,p =>
    match sm C run ops n0 i o T h p with
    | none=>none
    | some (r,obs,p') =>
      match xa C run ops n0 (i+1) l (qW T o.dst r.v) (bf r.sets h) p' with
      | none=>none
      | some (rs,T',h',obs',p'')=>some (r::rs,T',h',obs++obs',p'')
theorem uZ{C:ki}{run:co}{ops:Array Oper}{n0:Nat} :∀ (l:List Oper) (i:Nat) {T T':List AV} {h h':aM} {p p':bY} {obs:List Bool} {rs:List iB},xa C run ops n0 i l T h p=some (rs,T',h',obs,p')→ap obs →
    rs.length=l.length∧bt (l.zip rs) (T,h)=(T',h')∧∀ (j:Nat) (o:Oper),l[j]? = some o→∃ r obs' q q',rs[j]? = some r∧ap obs' ∧
      sm C run ops n0 (i+j) o (bt ((l.zip rs).take j) (T,h)).1 (bt ((l.zip rs).take j) (T,h)).2 q=some (r,obs',q')
  | [],i,T,T',h,h',p,p',obs,rs,hr,_=>by
    simp only [xa,Option.some.injEq,Prod.mk.injEq] at hr;obtain ⟨rfl,rfl,rfl,rfl,rfl⟩:=hr
    exact ⟨rfl,rfl,fun j o h=>by simp at h⟩
  | o::l,i,T,T',h,h',p,p',obs,rs,hr,ho=>by
    simp only [xa] at hr
    split at hr
    case h_1=>cases hr
    rename_i r obs1 p1 h1
    split at hr
    case h_1=>cases hr
    rename_i rs2 T2 h2 obs2 p2 h3
    simp only [Option.some.injEq,Prod.mk.injEq] at hr;obtain ⟨rfl,rfl,rfl,rfl,rfl⟩:=hr
    rw [aE] at ho
    obtain ⟨a1,a2,a3⟩:=uZ l (i+1) h3 ho.2
    refine ⟨by simp [a1],by simpa [bt] using a2,fun j o' hj=>?_⟩
    cases j with
    | zero=>simp at hj;subst hj;exact ⟨r,obs1,p,p1,by simp,ho.1,by simpa [bt] using h1⟩
    | succ j =>
      obtain ⟨r',ob,q,q',b1,b2,b3⟩:=a3 j o' (by simpa using hj)
      refine ⟨r',ob,q,q',by simpa using b1,b2,?_⟩
      rw [show i+(j+1)=i+1+j from by omega]
      simpa [bt] using b3
theorem Bl{p q:Nat→Bool} :∀ {l:List Nat} {j:Nat},j∈l→p j=true→q j=false→(∀ i,q i=true→p i=true)→l.countP q<l.countP p
  | [],_,h,_,_,_=>by cases h
  | x::l,j,h,hp,hq,hi=>by
    have mono:∀ l:List Nat,l.countP q≤l.countP p:=fun l=>List.countP_mono_left fun x _=>hi x
    simp only [List.countP_cons]
    rcases List.mem_cons.1 h with rfl | h
    · rw [hp,hq];have:=mono l;simp;omega
    · have:=Bl h hp hq hi
      by_cases hx:q x=true
      · rw [hx,hi x hx];omega
      · have hq':q x=false:=by simpa using hx
        rw [hq'];simp only [Bool.false_eq_true,if_false];split<;>omega
theorem Uj{i j y:Nat}(h1:i*iP≤y)(h2:y<i*iP+iP)(h3:j*iP≤y)(h4:y<j*iP+iP) :i=j:=by
  have hS:0<iP:=by decide
  have a:y/iP=i:=by rw [Nat.div_eq_iff hS];omega
  have b:y/iP=j:=by rw [Nat.div_eq_iff hS];omega
  omega
theorem Qx{C:ki}(hC:C.Ok){run:co}(hrun:wH C.P run){ops:Array Oper}{n0:Nat}{T0:List AV}{h0:aM}{rs:List iB}{ms:List Nat}(D:Qw ops (ops.toList.zip rs) ms)(hlen:rs.length=ops.size) 
    (each:∀ (j:Nat) (o:Oper),ops.toList[j]? = some o→∃ r obs' q q',rs[j]? = some r∧ap obs' ∧
      sm C run ops n0 j o (bt ((ops.toList.zip rs).take j) (T0,h0)).1 (bt ((ops.toList.zip rs).take j) (T0,h0)).2 q=some (r,obs',q'))
    {ro:Option Nat} {nn:Nat} {Q:Exit→Act→World→Prop}:∀ (fuel:Nat) (listed:Array Bool),listed.size=ops.size→(∀ (j:Nat) (o:Oper),ops[j]? = some o→listed.getD j false=true→∀ e∈o.after,Region.binds .any e=true→listed.getD e.on false=true) →
      (List.range ops.size).countP (fun i=>!listed.getD i false)≤fuel→∀ {ρ:af} {w:World} {a:Act},HR ρ w (gA (fun i=>listed.getD i false) 0 (ops.toList.zip rs) (T0,h0)).2 (n0+ops.size*iP) →
      (∀ b,ρ.ok b→b<n0∨∃ i,listed.getD i false=true∧n0+i*iP≤b∧b<n0+i*iP+iP)→bh ρ w (gA (fun i=>listed.getD i false) 0 (ops.toList.zip rs) (T0,h0)).1 a.tmps.toList →
      (∀ ρ' w' a',eI ρ ρ' w→dx ρ.live w w'→HR ρ' w' (bt (ops.toList.zip rs) (T0,h0)).2 (n0+ops.size*iP)→a'.defers=a.defers→bh ρ' w' (bt (ops.toList.zip rs) (T0,h0)).1 a'.tmps.toList→(∀ b,ρ'.ok b→ρ.ok b∨n0≤b)→Q .normal a' w') →
      wpAnyIn (FW ro) nn C.P .any ops Q fuel listed a w:=by
  have hzl:(ops.toList.zip rs).length=ops.size:=by simp [hlen]
  have zget:∀ (j:Nat) (o:Oper) (r:iB),ops[j]? = some o→rs[j]? = some r→(ops.toList.zip rs)[j]? = some (o,r):=by
    intro j o r h1 h2
    rw [List.getElem?_zip_eq_some];exact ⟨by simpa using h1,h2⟩
  have zinv:∀ (j:Nat) (x:Oper×iB),(ops.toList.zip rs)[j]? = some x→ops[j]? = some x.1∧rs[j]? = some x.2:=by
    intro j x hx
    have:=List.getElem?_zip_eq_some.1 (show (ops.toList.zip rs)[j]? = some (x.1,x.2) from hx)
    exact ⟨by simpa using this.1,this.2⟩

  have allL:∀ (listed:Array Bool),listed.size=ops.size→(∀ i,i<ops.size→listed.getD i false=true)→gA (fun i=>listed.getD i false) 0 (ops.toList.zip rs) (T0,h0)=bt (ops.toList.zip rs) (T0,h0):=by
    intro listed hs hall
    have:∀ (l:List (Oper×iB)) (i:Nat) (s:List AV×aM),i+l.length≤ops.size→gA (fun i=>listed.getD i false) i l s=bt l s:=by
      intro l
      induction l with
      | nil=>intro _ _ _;rfl
      | cons x l ih =>
        intro i s hi
        simp only [List.length_cons] at hi
        simp only [gA,bt]
        rw [hall i (by omega)]
        exact ih (i+1) _ (by omega)
    exact this _ 0 _ (by rw [hzl];omega)

  have down:∀ (listed:Array Bool),(∀ (j:Nat) (o:Oper),ops[j]? = some o→listed.getD j false=true→∀ e∈o.after,Region.binds .any e=true→listed.getD e.on false=true) →
      ∀ (j:Nat) (o:Oper),ops[j]? = some o→(∀ e∈o.after,Region.binds .any e=true→listed.getD e.on false=true)→∀ (i m:Nat),ms[j]? = some m→m.testBit i=true→listed.getD i false=true:=by
    intro listed hcl j
    induction j using Nat.strongRecOn with
    | _ j ih =>
      intro o ho hpre i m hm hbit
      have hlt:j<ops.size:=(Array.getElem?_eq_some_iff.1 ho).1
      obtain ⟨r,hr⟩:∃ r,rs[j]? = some r:=⟨rs[j]'(by omega),List.getElem?_eq_getElem (by omega)⟩
      have hz:=zget j o r ho hr
      obtain ⟨m',k1,k2⟩:=D.mask j _ hz
      rw [hm] at k1;cases k1
      obtain ⟨e,e1,e2,e3⟩:=k2 i hbit
      have hL:=hpre e e1 e2
      rcases e3 with rfl | ⟨m'',q1,q2⟩
      · exact hL
      · have hej:=D.edge j _ hz e e1 e2
        have hon:e.on<ops.size:=by omega
        exact ih e.on hej _ (Array.getElem?_eq_getElem hon) (hcl e.on _ (Array.getElem?_eq_getElem hon) hL) i m'' q1 q2
  intro fuel
  induction fuel with
  | zero =>
    intro listed hs hcl hcnt ρ w a hh hok hT hQ
    have hall:∀ i,i<ops.size→listed.getD i false=true:=by
      intro i hi
      have h0:=List.countP_eq_zero.1 (Nat.le_zero.1 hcnt) i (List.mem_range.2 hi)
      simpa using h0
    simp only [wpAnyIn]
    refine ⟨?_,?_⟩
    · cases hr:Region.ready .any ops listed with
      | nil=>rfl
      | cons x xs =>
        have hx:x∈Region.ready .any ops listed:=by rw [hr];simp
        obtain ⟨k1,o,k2,_⟩:=mem_ready.1 hx
        have hlt:x<ops.size:=(Array.getElem?_eq_some_iff.1 k2).1
        have:=hall x hlt
        rw [Array.getD_eq_getD_getElem?,Array.getElem?_eq_getElem (by omega)] at this k1
        simp only [Option.getD_some] at this k1
        rw [this] at k1;cases k1
    · rw [allL listed hs hall] at hh hT
      exact hQ ρ w a (eI.refl _ _) (dx.refl _ _) hh rfl hT (fun b q=>.inl q)
  | succ fuel ih =>
    intro listed hs hcl hcnt ρ w a hh hok hT hQ
    simp only [wpAnyIn]
    have sameD:∀ j,j<ops.size→listed.getD j true=listed.getD j false:=by
      intro j hj
      rw [Array.getD_eq_getD_getElem?,Array.getD_eq_getD_getElem?,Array.getElem?_eq_getElem (by omega)];rfl
    refine ⟨fun hr=>?_,fun j hj=>?_⟩
    · have hall:∀ i,i<ops.size→listed.getD i false=true:=by
        intro i
        induction i using Nat.strongRecOn with
        | _ i ihi =>
          intro hi
          cases hl:listed.getD i false with
          | true=>rfl
          | false =>
            have ho:=Array.getElem?_eq_getElem hi
            obtain ⟨r,hrr⟩:∃ r,rs[i]? = some r:=⟨rs[i]'(by omega),List.getElem?_eq_getElem (by omega)⟩
            have hz:=zget i _ r ho hrr
            have:i∈Region.ready .any ops listed:=mem_ready.2 ⟨by rw [sameD i hi];exact hl,_,ho,fun e he hb=>ihi e.on (D.edge i _ hz e he hb) (by have:=D.edge i _ hz e he hb;omega)⟩
            rw [hr] at this;cases this
      rw [allL listed hs hall] at hh hT
      exact hQ ρ w a (eI.refl _ _) (dx.refl _ _) hh rfl hT (fun b q=>.inl q)
    · obtain ⟨k1,o,ho,hpre⟩:=mem_ready.1 hj
      have hlt:j<ops.size:=(Array.getElem?_eq_some_iff.1 ho).1
      rw [sameD j hlt] at k1
      obtain ⟨r,obs',q,q',hr,hob,hone⟩:=each j o (by simpa using ho)
      have hz:=zget j o r ho hr

      have agree:∀ (i:Nat) (x:Oper×iB),(ops.toList.zip rs)[i]? = some x→i≠j→gL ops x.1 x.2 o r=false→gL ops o r x.1 x.2=false→listed.getD i false=decide (i<j):=by
        intro i x hx hne n1 n2
        have hxi:=zinv i x hx
        rcases Nat.lt_or_gt_of_ne hne with hij | hij
        · rcases D.pair i j x (o,r) hx hz hij with ⟨m,hm,hb⟩ | hap
          · rw [down listed hcl j o ho hpre i m hm hb];simp [hij]
          · simp only at hap;rw [n1] at hap;cases hap
        · rcases D.pair j i (o,r) x hz hx hij with ⟨m,hm,hb⟩ | hap
          · have : ¬ i<j:=by omega
            simp only [this,decide_false]
            cases hl:listed.getD i false with
            | false=>rfl
            | true =>
              have:=down listed hcl i x.1 hxi.1 (hcl i x.1 hxi.1 hl) j m hm hb
              rw [k1] at this;cases this
          · simp only at hap;rw [n2] at hap;cases hap
      have napT:∀ (x:Oper×iB) (t:Nat),x.1.dst=some t→t∈fL ops o→gL ops x.1 x.2 o r=false∧gL ops o r x.1 x.2=false:=by
        intro x t hdst ht
        constructor
        · cases hap:gL ops x.1 x.2 o r with
          | false=>rfl
          | true=>simp only [gL,Bool.and_eq_true] at hap;exact (pA hap.1 t (by simp [hdst]) ht).elim
        · cases hap:gL ops o r x.1 x.2 with
          | false=>rfl
          | true=>simp only [gL,Bool.and_eq_true] at hap;exact (pA hap.2.1 t (by simp [hdst]) ht).elim
      have napH:∀ (x:Oper×iB) (b:Nat),b∈dU x.2.sets→b∈r.reads++dU r.sets→gL ops x.1 x.2 o r=false∧gL ops o r x.1 x.2=false:=by
        intro x b hx hb
        constructor
        · cases hap:gL ops x.1 x.2 o r with
          | false=>rfl
          | true=>simp only [gL,Bool.and_eq_true] at hap;exact (pA hap.2.2.1 b hx hb).elim
        · cases hap:gL ops o r x.1 x.2 with
          | false=>rfl
          | true=>simp only [gL,Bool.and_eq_true] at hap;exact (pA hap.2.2.2 b hx hb).elim
      have eqT:∀ t∈fL ops o,(gA (fun i=>listed.getD i false) 0 (ops.toList.zip rs) (T0,h0)).1[t]? = (bt ((ops.toList.zip rs).take j) (T0,h0)).1[t]?:=by
        intro t ht
        have:=wb (ops.toList.zip rs) 0 j (T0,h0)
        rw [←this]
        refine DS _ 0 (fun k x hx hdst=>?_) rfl
        rw [Nat.zero_add,Nat.zero_add]
        by_cases hkj:k=j
        · subst hkj;rw [k1];simp
        · obtain ⟨n1,n2⟩:=napT x t hdst ht;exact agree k x hx hkj n1 n2
      have eqH:∀ b∈r.reads++dU r.sets,aB (gA (fun i=>listed.getD i false) 0 (ops.toList.zip rs) (T0,h0)).2 b=aB (bt ((ops.toList.zip rs).take j) (T0,h0)).2 b:=by
        intro b hb
        have:=wb (ops.toList.zip rs) 0 j (T0,h0)
        rw [←this]
        refine DT _ 0 (fun k x hx cH=>?_) rfl
        rw [Nat.zero_add,Nat.zero_add]
        by_cases hkj:k=j
        · subst hkj;rw [k1];simp
        · obtain ⟨n1,n2⟩:=napH x b cH hb;exact agree k x hx hkj n1 n2
      have hloc:=F9 hone eqT (fun b hb=>eqH b (by simp [hb]))

      have L'eq:∀ i,(listed.setIfInBounds j true).getD i false=if i=j then true else listed.getD i false:=by
        intro i
        by_cases hij:i=j
        · subst hij;rw [if_pos rfl,Array.getD_eq_getD_getElem?];simp [hs,hlt]
        · rw [if_neg hij];exact getD_set_ne false (fun e=>hij e.symm)
      have step1:=wb (ops.toList.zip rs) 0 (j+1) (T0,h0)
      have hsplit:bt ((ops.toList.zip rs).take (j+1)) (T0,h0)=(qW (bt ((ops.toList.zip rs).take j) (T0,h0)).1 o.dst r.v,bf r.sets (bt ((ops.toList.zip rs).take j) (T0,h0)).2):=by
        have hjl:j<(ops.toList.zip rs).length:=by rw [hzl];exact hlt
        have:(ops.toList.zip rs).take (j+1)=(ops.toList.zip rs).take j++[(o,r)]:=by
          rw [List.take_succ_eq_append_getElem hjl]
          have:=List.getElem?_eq_getElem hjl
          rw [hz] at this
          rw [←Option.some.inj this]
        rw [this,wR];rfl
      have newT:∀ t:Nat,(qW (gA (fun i=>listed.getD i false) 0 (ops.toList.zip rs) (T0,h0)).1 o.dst r.v)[t]? = (gA (fun i=>(listed.setIfInBounds j true).getD i false) 0 (ops.toList.zip rs) (T0,h0)).1[t]?:=by
        intro t
        rw [sq]
        by_cases hdst:o.dst=some t
        · rw [if_pos hdst]
          have e1:=eqT t (by simp [fL,hdst])
          rw [e1]
          have e2:(gA (fun i=>(listed.setIfInBounds j true).getD i false) 0 (ops.toList.zip rs) (T0,h0)).1[t]? = (bt ((ops.toList.zip rs).take (j+1)) (T0,h0)).1[t]?:=by
            rw [←step1]
            refine DS _ 0 (fun k x hx hd2=>?_) rfl
            rw [Nat.zero_add,Nat.zero_add,L'eq]
            by_cases hkj:k=j
            · subst hkj;simp
            · rw [if_neg hkj]
              obtain ⟨n1,n2⟩:=napT x t hd2 (by simp [fL,hdst])
              rw [agree k x hx hkj n1 n2]
              by_cases q:k<j<;>simp [q]<;>omega
          rw [e2,hsplit,sq,if_pos hdst]
        · rw [if_neg hdst]
          refine DS _ 0 (fun k x hx hd2=>?_) rfl
          rw [Nat.zero_add,L'eq]
          by_cases hkj:k=j
          · subst hkj;rw [hz] at hx;cases hx;exact absurd hd2 hdst
          · rw [if_neg hkj]
      have newH:∀ b:Nat,aB (gA (fun i=>(listed.setIfInBounds j true).getD i false) 0 (ops.toList.zip rs) (T0,h0)).2 b=aB (bf r.sets (gA (fun i=>listed.getD i false) 0 (ops.toList.zip rs) (T0,h0)).2) b:=by
        intro b
        by_cases hb:b∈dU r.sets
        · rw [iD (h:=(gA (fun i=>listed.getD i false) 0 (ops.toList.zip rs) (T0,h0)).2) (h':=(bt ((ops.toList.zip rs).take j) (T0,h0)).2) r.sets (eqH b (by simp [hb]))]
          have e2:aB (gA (fun i=>(listed.setIfInBounds j true).getD i false) 0 (ops.toList.zip rs) (T0,h0)).2 b=aB (bt ((ops.toList.zip rs).take (j+1)) (T0,h0)).2 b:=by
            rw [←step1]
            refine DT _ 0 (fun k x hx hd2=>?_) rfl
            rw [Nat.zero_add,Nat.zero_add,L'eq]
            by_cases hkj:k=j
            · subst hkj;simp
            · rw [if_neg hkj]
              obtain ⟨n1,n2⟩:=napH x b hd2 (by simp [hb])
              rw [agree k x hx hkj n1 n2]
              by_cases q:k<j<;>simp [q]<;>omega
          rw [e2,hsplit]
        · rw [iE _ hb]
          refine DT _ 0 (fun k x hx hd2=>?_) rfl
          rw [Nat.zero_add,L'eq]
          by_cases hkj:k=j
          · subst hkj;rw [hz] at hx;cases hx;exact absurd hd2 hb
          · rw [if_neg hkj]
      have hS:j*iP+iP≤ops.size*iP:=by rw [←Nat.succ_mul];exact Nat.mul_le_mul_right _ hlt
      refine uV hC hrun ho hloc hob hh (fun x h1 h2 hbad=>?_) (by omega) hT ?_
      · rcases hok _ hbad with q | ⟨i,q1,q2,q3⟩
        · omega
        · have:i=j:=Uj (y:=x-n0) (by omega) (by omega) (by omega) (by omega)
          subst this;rw [k1] at q1;cases q1
      intro ρ' w' a' E W hh' hd' hT' hok'
      have hlist:qW (gA (fun i=>listed.getD i false) 0 (ops.toList.zip rs) (T0,h0)).1 o.dst r.v=(gA (fun i=>(listed.setIfInBounds j true).getD i false) 0 (ops.toList.zip rs) (T0,h0)).1:=List.ext_getElem? newT
      rw [hlist] at hT'
      refine ih (listed.setIfInBounds j true) (by simpa using hs) (fun i x hx hl e he hb=>?_) ?_ (hh'.congr newH) (fun b hb=>?_) hT' ?_
      · rw [L'eq] at hl ⊢
        by_cases hij:i=j
        · subst hij
          rw [ho] at hx;cases hx
          split
          · rfl
          · exact hpre e he hb
        · rw [if_neg hij] at hl
          split
          · rfl
          · exact hcl i x hx hl e he hb
      · have:=Bl (l:=List.range ops.size) (j:=j) (p:=fun i=>!listed.getD i false) (q:=fun i=>!(listed.setIfInBounds j true).getD i false) (List.mem_range.2 hlt) (by simp only [k1];rfl) (by simp only [L'eq,if_true];rfl)
          (fun i hi=>by
            simp only [L'eq] at hi ⊢
            split at hi
            · cases hi
            · exact hi)
        omega
      · rcases hok' b hb with q | q
        · rcases hok b q with q | ⟨i,q1,q2⟩
          · exact .inl q
          · refine .inr ⟨i,?_,q2⟩
            rw [L'eq];split
            · rfl
            · exact q1
        · exact .inr ⟨j,by rw [L'eq,if_pos rfl],q⟩
      · intro ρ'' w'' a'' E' W' hh'' hd'' hT'' hb''
        exact hQ ρ'' w'' a'' (E.trans E' W.size) (W.trans W' (fun x hx q=>E.new x hx q)) hh'' (hd''.trans hd') hT'' (fun b q=>by
          rcases hb'' b q with q | q
          · rcases hok' b q with q | q
            · exact .inl q
            · exact .inr (by omega)
          · exact .inr q)
theorem kZ{d:aq}(h:d.kept=true) :d.foreign=true:=by
  cases d<;>first | rfl | exact de h
mutual
def Bm (g:Nat→Option aq):Nat→AV→AV
  | 0,_=>.any
  | n+1,v =>
    match v with
    | .ptr b w i j=>match g b with
      | some d=>let d':=ox g n d;bif d'.kept then .iptr .free d' w i j else .any
      | none=>.any
    | .sl b w es i len _=>match g b with
      | some d=>let d':=ox g n d;bif d'.kept then .imm .free d' w es i len else .any
      | none=>.any
    | .fn f l1 l2=>.fn f (xb g n l1) (xb g n l2)
    | .agg l=>.agg (xb g n l)
    | .tup l=>.tup (xb g n l)
    | .iface t v=>.iface t (Bm g n v)
    | .yld _=>.any
    | v=>v
def xb (g:Nat→Option aq):Nat→List AV→List AV
  | 0,l=>l.map fun _=>.any
  | n+1,l =>
    match l with
    | []=>[]
    | v::l=>Bm g n v::xb g n l
def ox (g:Nat→Option aq):Nat→aq→aq
  | 0,_=>.vs []
  | n+1,d =>
    match d with
    | .vs l=>.vs (xb g n l)
    | d=>d
end
theorem xc(g:Nat→Option aq)(n:Nat)(d:aq)(h:d.recKept) :(ox g n d).recKept:=by
  cases n with
  | zero=>trivial
  | succ n=>cases d<;>first | exact h | trivial
structure OZ (ρ τ:af):Prop where
  out:τ.out=ρ.out
  live:∀ bl,τ.live bl→ρ.live bl
theorem OZ.avoid{ρ τ:af}(L:OZ ρ τ){l:Lv}{bl:Nat}(h:ρ.avoid l bl) :τ.avoid l bl:=by
  refine lT (d:=0) (fun j _ q=>?_) h
  cases j with
  | zero=>exact L.live bl q
  | succ j=>simp only [Nat.add_zero,af.own] at q ⊢;rw [L.out] at q;exact q
theorem cr{ρ τ:af}(L:OZ ρ τ){w:World}{v:AV}{u:Value}(h:VR ρ w v u) :v.foreign=true→VR τ w v u:=by
  induction h using VR.rec (motive_2:=fun l c _=>aN l=true→bh τ w l c) with
  | int k n=>exact fun _=>.int k n
  | bool kn b=>exact fun _=>.bool kn b
  | flt ex x y h=>exact fun _=>.flt ex x y h
  | str s=>exact fun _=>.str s
  | nptr=>exact fun _=>.nptr
  | ptr b k i j hb=>intro hk;simp [AV.foreign] at hk
  | iptr bw d k i j bl o u ha hb hc hv hr hk hg ih=>exact fun _=>.iptr bw d k i j bl o u (L.avoid ha) hb hc (fun x v hx=>ih x v hx (ay hr hg x v hx)) hr hk hg
  | nsl=>exact fun _=>.nsl
  | esl a=>exact fun _=>.esl a
  | zsl a c=>exact fun _=>.zsl a c
  | nan n h=>exact fun _=>.nan n h
  | sl b k es i len cap cap' hb hcap hl c t hh hs=>intro hk;simp [AV.foreign] at hk
  | slEnd b k es i a=>intro hk;simp [AV.foreign] at hk
  | imm bw d k es i len cap bl o u ha hb hc hv hl hr hk hg ih=>exact fun _=>.imm bw d k es i len cap bl o u (L.avoid ha) hb hc (fun x v hx=>ih x v hx (ay hr hg x v hx)) hl hr hk hg
  | immEnd bw d k es i cap a hr hk hg=>exact fun _=>.immEnd bw d k es i cap a hr hk hg
  | fn f l1 l2 c1 c2 h1 h2 i1 i2=>intro hk;simp only [AV.foreign,Bool.and_eq_true] at hk;exact .fn f l1 l2 c1 c2 (i1 hk.1) (i2 hk.2)
  | nfn=>exact fun _=>.nfn
  | gmap ks vs bl es cl u ha hb hh hin hex hv hl hk ih=>exact fun _=>.gmap ks vs bl es cl u (L.avoid ha) hb hh hin hex (fun x v hx=>ih x v hx (dh (gp hk x v hx))) hl hk
  | gvar c bl t fr ha hb hh=>exact fun _=>.gvar c bl t fr (L.avoid ha) hb hh
  | agg l c h ih=>intro hk;exact .agg l c (ih hk)
  | tup l c h ih=>intro hk;exact .tup l c (ih hk)
  | iface t v u h ih=>intro hk;exact .iface t v u (ih hk)
  | niface=>exact fun _=>.niface
  | yld b L h=>intro hk;simp [AV.foreign] at hk
  | any u=>exact fun _=>.any u
  | nil=>exact bh.nil
  | cons v u l c h t i1 i2=>rename_i hk;simp only [aN,Bool.and_eq_true] at hk;exact bh.cons v u l c (i1 hk.1) (i2 hk.2)
mutual
theorem DW {ρ τ:af} (L:OZ ρ τ) {w:World} {h:aM} {m:Nat} (hh:HR ρ w h m) (off:∀ b d,aB h b=some d→ρ.ok b→¬ τ.live (ρ.at_ b)):∀ (n:Nat) {v:AV} {u:Value},VR ρ w v u→VR τ w (Bm (aB h) n v) u
  | 0,v,u,hv=>.any u
  | n + 1, v, u, hv => by
    have free:∀ (b:Nat) (d:aq),aB h b=some d→ρ.ok b→τ.avoid .free (ρ.at_ b):=by
      intro b d hd hok j _
      cases j with
      | zero=>exact off b d hd hok
      | succ j=>simp only [af.own];rw [L.out];exact hh.fresh _ (hh.real hd hok).1 j
    have content:∀ (b:Nat) (d:aq),aB h b=some d→ρ.ok b→∀ x v,(ox (aB h) n d).cell? x=some v→w.cell? ⟨ρ.at_ b,0+x,none⟩=some ((w.cell? ⟨ρ.at_ b,x,none⟩).getD undef)∧VR τ w v ((w.cell? ⟨ρ.at_ b,x,none⟩).getD undef):=by
      intro b d hd hok x v hx
      obtain ⟨_,hrk,c,t,hc,hcv⟩:=hh.real hd hok
      obtain ⟨u,q1,q2⟩:=Ga L hh off n (ρ.at_ b) (fun x v hx=>by
        obtain ⟨u,k1,k2⟩:=hcv x v hx
        exact ⟨u,by simp [World.cell?,hc,k1],k2⟩) hrk x v hx
      rw [Nat.zero_add,q1];exact ⟨rfl,q2⟩
    cases v with
    | ptr b k i j =>
      simp only [Bm]
      split
      · rename_i d hd
        have hrk:=hh.rk hd
        cases hk:(ox (aB h) n d).kept with
        | false=>exact .any _
        | true =>
          simp only [cond_true]
          cases hv with | ptr _ _ _ _ hb =>
          have:=VR.iptr (ρ:=τ) (w:=w) .free (ox (aB h) n d) k i j (ρ.at_ b) 0 (fun x=>(w.cell? ⟨ρ.at_ b,x,none⟩).getD undef) (free b d hd hb) (hh.liveLt _ (hh.real hd hb).1)
            (fun x v hx=>(content b d hd hb x v hx).1) (fun x v hx=>(content b d hd hb x v hx).2) (xc _ _ _ hrk) (fun _=>hk) (kZ hk)
          simpa using this
      · exact .any _
    | sl b k es i len cap =>
      simp only [Bm]
      split
      · rename_i d hd
        have hrk:=hh.rk hd
        cases hk:(ox (aB h) n d).kept with
        | false=>exact .any _
        | true =>
          simp only [cond_true]
          cases hv with
          | sl _ _ _ _ _ _ cap' hb hcap hl' c t hh' hs =>
            have:=VR.imm (ρ:=τ) (w:=w) .free (ox (aB h) n d) k es i len cap' (ρ.at_ b) 0 (fun x=>(w.cell? ⟨ρ.at_ b,x,none⟩).getD undef) (free b d hd hb) (hh.liveLt _ (hh.real hd hb).1)
              (fun x v hx=>(content b d hd hb x v hx).1) (fun x v hx=>(content b d hd hb x v hx).2) (by omega) (xc _ _ _ hrk) (fun _=>hk) (kZ hk)
            simpa using this
          | slEnd=>exact .immEnd _ _ _ _ _ _ _ (xc _ _ _ hrk) (fun _=>hk) (kZ hk)
      · exact .any _
    | fn f l1 l2=>cases hv with | fn _ _ _ _ _ h1 h2=>exact .fn _ _ _ _ _ (jT L hh off n h1) (jT L hh off n h2)
    | agg l=>cases hv with | agg _ _ h1=>exact .agg _ _ (jT L hh off n h1)
    | tup l=>cases hv with | tup _ _ h1=>exact .tup _ _ (jT L hh off n h1)
    | iface t v=>cases hv with | iface _ _ _ h1=>exact .iface _ _ _ (DW L hh off n h1)
    | int=>exact cr L hv rfl
    | bool=>exact cr L hv rfl
    | flt=>exact cr L hv rfl
    | str=>exact cr L hv rfl
    | nptr=>exact cr L hv rfl
    | iptr=>exact cr L hv rfl
    | nsl=>exact cr L hv rfl
    | esl=>exact cr L hv rfl
    | zsl=>exact cr L hv rfl
    | nan=>exact cr L hv rfl
    | imm=>exact cr L hv rfl
    | nfn=>exact cr L hv rfl
    | gmap=>exact cr L hv rfl
    | gvar=>exact cr L hv rfl
    | niface=>exact cr L hv rfl
    | yld=>exact .any _
    | any=>exact .any _
theorem jT {ρ τ:af} (L:OZ ρ τ) {w:World} {h:aM} {m:Nat} (hh:HR ρ w h m) (off:∀ b d,aB h b=some d→ρ.ok b→¬ τ.live (ρ.at_ b)):∀ (n:Nat) {l:List AV} {c:List Value},bh ρ w l c→bh τ w (xb (aB h) n l) c
  | 0,[],c,hv=>by cases hv;exact .nil
  | 0,v::l,c,hv=>by
    cases hv with | cons _ u _ c' h1 h2 =>
    have:=jT L hh off 0 h2
    exact .cons _ _ _ _ (.any u) this
  | n+1,[],c,hv=>by cases hv;exact .nil
  | n+1,v::l,c,hv=>by
    cases hv with | cons _ u _ c' h1 h2=>exact .cons _ _ _ _ (DW L hh off n h1) (jT L hh off n h2)
theorem Ga {ρ τ:af} (L:OZ ρ τ) {w:World} {h:aM} {m:Nat} (hh:HR ρ w h m) (off:∀ b d,aB h b=some d→ρ.ok b→¬ τ.live (ρ.at_ b)):∀ (n:Nat) (bl:Nat) {d:aq},(∀ x v,d.cell? x=some v→∃ u,w.cell? ⟨bl,x,none⟩=some u∧VR ρ w v u)→d.recKept →
    ∀ x v,(ox (aB h) n d).cell? x=some v→∃ u,w.cell? ⟨bl,x,none⟩=some u∧VR τ w v u
  | 0,bl,d,hc,hr,x,v,hx=>by simp [ox,aq.cell?] at hx
  | n + 1, bl, d, hc, hr, x, v, hx => by
    cases d with
    | vs l =>
      simp only [ox,aq.cell?] at hx
      have hus:bh ρ w l ((List.range l.length).map fun x=>(w.cell? ⟨bl,x,none⟩).getD undef):=by
        refine jN (by simp) fun y v u q1 q2=>?_
        obtain ⟨u',k1,k2⟩:=hc y v q1
        have hlt:y<l.length:=(List.getElem?_eq_some_iff.1 q1).1
        rw [List.getElem?_map,List.getElem?_range hlt] at q2
        simp [k1] at q2;subst q2;exact k2
      have hr2:=jT L hh off n hus
      obtain ⟨u,q1,q2⟩:=hr2.get x v hx
      rw [List.getElem?_map] at q1
      have hlt:x<l.length:=by
        rcases Nat.lt_or_ge x l.length with q | q
        · exact q
        · rw [List.getElem?_eq_none (by simpa using q)] at q1;cases q1
      rw [List.getElem?_range hlt] at q1
      obtain ⟨u',k1,_⟩:=hc x (l[x]) (List.getElem?_eq_getElem hlt)
      simp [k1] at q1;subst q1
      exact ⟨u',k1,q2⟩
    | fl xs=>obtain ⟨u,q1,q2⟩:=hc x v hx;exact ⟨u,q1,cr L q2 (ay (d:=.fl xs) hr rfl x v hx)⟩
    | ns k xs=>obtain ⟨u,q1,q2⟩:=hc x v hx;exact ⟨u,q1,cr L q2 (ay (d:=.ns k xs) hr rfl x v hx)⟩
    | bs xs=>obtain ⟨u,q1,q2⟩:=hc x v hx;exact ⟨u,q1,cr L q2 (ay (d:=.bs xs) hr rfl x v hx)⟩
    | ss xs=>obtain ⟨u,q1,q2⟩:=hc x v hx;exact ⟨u,q1,cr L q2 (ay (d:=.ss xs) hr rfl x v hx)⟩
    | rows k m get=>obtain ⟨u,q1,q2⟩:=hc x v hx;exact ⟨u,q1,cr L q2 (ay (d:=.rows k m get) hr rfl x v hx)⟩
    | cols k cs=>obtain ⟨u,q1,q2⟩:=hc x v hx;exact ⟨u,q1,cr L q2 (ay (d:=.cols k cs) hr rfl x v hx)⟩
end
mutual
def T4 (σ:Nat→Option Nat):AV→AV
  | .ptr b w i j=>match σ b with | some c=>.ptr c w i j | none=>.any
  | .sl b w es i len cap=>match σ b with | some c=>.sl c w es i len cap | none=>.any
  | .fn f l1 l2=>.fn f (P6 σ l1) (P6 σ l2)
  | .agg l=>.agg (P6 σ l)
  | .tup l=>.tup (P6 σ l)
  | .iface t v=>.iface t (T4 σ v)
  | v=>v
def P6 (σ:Nat→Option Nat):List AV→List AV
  | []=>[]
  | v::l=>T4 σ v::P6 σ l
end
def af.renamed(ρ:af)(keep:List Nat) :af :=
  { at_:=fun i=>ρ.at_ ((keep[i]?).getD 0),live:=ρ.live,out:=ρ.out,ok:=fun i=>∃ b,keep[i]? = some b∧ρ.ok b,pin:=ρ.pin }
mutual
theorem Bn {ρ:af} {keep:List Nat} {w:World}:∀ (v:AV) {u:Value},VR ρ w v u→VR (ρ.renamed keep) w (T4 (eU keep 0) v) u
  | .ptr b k i j,u,h=>by
    simp only [T4]
    split
    · rename_i c hc
      cases h with | ptr _ _ _ _ hb =>
      obtain ⟨_,hg⟩:=px hc
      rw [Nat.sub_zero] at hg
      have:(ρ.renamed keep).at_ c=ρ.at_ b:=by simp [af.renamed,hg]
      rw [←this];exact .ptr _ _ _ _ ⟨b,hg,hb⟩
    · exact .any u
  | .sl b k es i len cap,u,h=>by
    simp only [T4]
    split
    · rename_i c hc
      obtain ⟨_,hg⟩:=px hc
      rw [Nat.sub_zero] at hg
      have e:(ρ.renamed keep).at_ c=ρ.at_ b:=by simp [af.renamed,hg]
      cases h with
      | sl _ _ _ _ _ _ cap' hb hcap hl ce t hh hs=>rw [←e] at hh ⊢;exact .sl _ _ _ _ _ _ _ ⟨b,hg,hb⟩ hcap hl ce t hh hs
      | slEnd=>exact .slEnd _ _ _ _ _
    · exact .any u
  | .fn f l1 l2,u,h=>by cases h with | fn _ _ _ _ _ h1 h2=>exact .fn _ _ _ _ _ (xd l1 h1) (xd l2 h2)
  | .agg l,u,h=>by cases h with | agg _ _ h1=>exact .agg _ _ (xd l h1)
  | .tup l,u,h=>by cases h with | tup _ _ h1=>exact .tup _ _ (xd l h1)
  | .iface t v,u,h=>by cases h with | iface _ _ _ h1=>exact .iface _ _ _ (Bn v h1)
  | .int ..,u,h=>ct h rfl
  | .bool ..,u,h=>ct h rfl
  | .flt ..,u,h=>ct h rfl
  | .str ..,u,h=>ct h rfl
  | .nptr,u,h=>ct h rfl
  | .iptr ..,u,h=>ct h rfl
  | .nsl,u,h=>ct h rfl
  | .esl,u,h=>ct h rfl
  | .zsl _,u,h=>ct h rfl
  | .nan,u,h=>ct h rfl
  | .imm ..,u,h=>ct h rfl
  | .nfn,u,h=>ct h rfl
  | .gmap ..,u,h=>ct h rfl
  | .gvar _,u,h=>ct h rfl
  | .niface,u,h=>ct h rfl
  | .yld _,u,h=>by cases h with | yld _ L h=>exact .yld _ L h
  | .any,u,h=>.any u
theorem xd {ρ:af} {keep:List Nat} {w:World}:∀ (l:List AV) {c:List Value},bh ρ w l c→bh (ρ.renamed keep) w (P6 (eU keep 0) l) c
  | [],c,h=>by cases h;exact .nil
  | v::l,c,h=>by cases h with | cons _ u _ c' h1 h2=>exact .cons _ _ _ _ (Bn v h1) (xd l h2)
theorem ct {ρ:af} {keep:List Nat} {w:World} {v:AV} {u:Value} (h:VR ρ w v u) (hf:v.foreign=true):VR (ρ.renamed keep) w v u :=
  cr (ρ:=ρ) (τ:=ρ.renamed keep) ⟨rfl,fun _ q=>q⟩ h hf
end
theorem ei.renamed{ρ:af}{keep:List Nat}{w:World} :∀ {ds:List Deferred},ei ρ w ds→ei (ρ.renamed keep) w ds
  | [],h=>h
  | d::ds,⟨h1,h⟩=>⟨h1,ei.renamed h⟩
def VF(σ:Nat→Option Nat) :aq→aq
  | .vs l=>.vs (P6 σ l)
  | d=>d
theorem DX(σ:Nat→Option Nat) :∀ (l:List AV) (x:Nat),(P6 σ l)[x]? = (l[x]?).map (T4 σ)
  | [],x=>by simp [P6]
  | v::l,0=>by simp [P6]
  | v::l,x+1=>by simp [P6,DX σ l x]
theorem Qy{σ:Nat→Option Nat}{d:aq}(h:d.recKept) :(VF σ d).recKept:=by
  cases d<;>first | exact h | trivial
theorem Gb{σ:Nat→Option Nat}{d:aq}{x:Nat}{v:AV}(h:(VF σ d).cell? x=some v)(hr:d.recKept) :∃ v',d.cell? x=some v'∧(v=T4 σ v'∨(v=v'∧v.foreign=true)):=by
  cases d with
  | vs l =>
    simp only [VF,aq.cell?,DX,Option.map_eq_some_iff] at h
    obtain ⟨v',h1,rfl⟩:=h
    exact ⟨v',h1,.inl rfl⟩
  | fl xs=>exact ⟨v,h,.inr ⟨rfl,ay (d:=.fl xs) hr rfl x v h⟩⟩
  | ns k xs=>exact ⟨v,h,.inr ⟨rfl,ay (d:=.ns k xs) hr rfl x v h⟩⟩
  | bs xs=>exact ⟨v,h,.inr ⟨rfl,ay (d:=.bs xs) hr rfl x v h⟩⟩
  | ss xs=>exact ⟨v,h,.inr ⟨rfl,ay (d:=.ss xs) hr rfl x v h⟩⟩
  | rows k m get=>exact ⟨v,h,.inr ⟨rfl,ay (d:=.rows k m get) hr rfl x v h⟩⟩
  | cols m cs=>exact ⟨v,h,.inr ⟨rfl,ay (d:=.cols m cs) hr rfl x v h⟩⟩
def MB(k:Nat)(R:List Nat) :List Nat:=List.range k++R.filter fun b=>Nat.ble k b
theorem O0{k i:Nat}{R:List Nat}(h:i<k) :(MB k R)[i]? = some i:=by
  unfold MB
  rw [List.getElem?_append_left (by simpa using h),List.getElem?_range h]
def iR(σ:Nat→Option Nat)(h:aM) :List Nat→List (Option aq)
  | []=>[]
  | b::l=>(aB h b).map (VF σ)::iR σ h l
theorem jp(σ:Nat→Option Nat)(h:aM) :∀ (l:List Nat) (i:Nat),(iR σ h l)[i]? = (l[i]?).map fun b=>(aB h b).map (VF σ)
  | [],i=>by simp [iR]
  | b::l,0=>by simp [iR]
  | b::l,i+1=>by simp [iR,jp σ h l i]
theorem ja(σ:Nat→Option Nat)(h:aM) :∀ (l:List Nat),(iR σ h l).length=l.length
  | []=>rfl
  | b::l=>by simp [iR,ja σ h l]
def xe(k:Nat)(keep:Bool)(h:aM)(v:AV) :Option eJ :=
  match keep,k with
  | true,0=>some ⟨Bm (aB h) dA v,[]⟩
  | _,_ =>
    let L:=MB k (fD (aB h) dA (List.range k++DM v) [])
    bif kV L then some ⟨T4 (eU L 0) v,iR (eU L 0) h L⟩ else none
theorem Gc{ρ ρ0:af}{w0 w:World}{h:aM}{m:Nat}{lent:List aq}{keep:Bool}(hh:HR ρ w h m)(hN:dF ρ0 w0 lent)(E:eI ρ0 ρ w0)(hbk:∀ i,i<lent.length→ρ.ok i→ρ0.ok i)(W:w0.heap.size≤w.heap.size){v:AV}{u:Value}(hv:VR ρ w v u){r:eJ} 
    (hr:xe lent.length keep h v=some r):r.Holds ρ0 w0 w lent.length u:=by
  unfold xe at hr
  split at hr
  · rename_i k hk
    cases hr
    have none_ok:∀ b,¬ ρ0.ok b:=fun b q=>by have:=hN.heap.lt b q;omega
    have none_live:∀ bl,¬ ρ0.live bl:=fun bl q=>by obtain ⟨i,h1,_⟩:=hN.only bl q;exact none_ok i h1
    refine ⟨ρ0,eI.refl _ _,fun i h=>by omega,⟨fun b d q=>?_,fun b c d e q=>?_,fun bl q=>(none_live bl q).elim,fun bl q=>(none_live bl q).elim,fun j bl q=>?_,fun b q=>(none_ok b q).elim,fun x hx=>cr (τ:=ρ0) ⟨E.out.symm,fun bl q=>(none_live bl q).elim⟩ (hh.rom x hx) (dh (Rom.kept x hx))⟩,?_⟩
    · simp [bX,cq,bP] at q
    · simp [bX,cq,bP] at q
    · exact Nat.lt_of_lt_of_le (hN.heap.outLt j bl q) W
    · exact DW (τ:=ρ0) ⟨E.out.symm,fun bl q=>(none_live bl q).elim⟩ hh (fun _ _ _ _ q=>none_live _ q) dA hv
  · simp only at hr
    generalize hL:MB lent.length (fD (aB h) dA (List.range lent.length++DM v) [])=L at hr
    cases hn:kV L with
    | false=>rw [hn] at hr;cases hr
    | true =>
    rw [hn] at hr
    simp only [cond_true,Option.some.injEq] at hr;subst hr
    have idL:∀ {i:Nat},i<lent.length→L[i]? = some i:=fun q=>by rw [←hL];exact O0 q
    have atL:∀ {i b:Nat},L[i]? = some b→(ρ.renamed L).at_ i=ρ.at_ b:=fun q=>by simp [af.renamed,q]
    refine ⟨ρ.renamed L,⟨fun b q=>?_,fun b q=>?_,E.live,E.new,E.out,E.pin⟩,fun i hi q=>?_,⟨fun i d q=>?_,fun i j d e q1 q2 ok1 ok2 he=>?_,hh.fresh,hh.liveLt,hh.outLt,fun i q=>?_,fun x hx=>ct (hh.rom x hx) (dh (Rom.kept x hx))⟩,Bn v hv⟩
    · rw [atL (idL (hN.heap.lt b q))];exact E.at_ b q
    · exact ⟨b,idL (hN.heap.lt b q),E.ok b q⟩
    · obtain ⟨b,h1,h2⟩:=q
      rw [idL hi] at h1;cases h1
      exact hbk i hi h2
    · have q:=eE q
      simp only at q
      rw [jp,Option.map_eq_some_iff] at q
      obtain ⟨b,h1,h2⟩:=q
      rw [Option.map_eq_some_iff] at h2
      obtain ⟨d0,h3,rfl⟩:=h2
      rcases hh.cell b d0 h3 with ⟨k1,k2,hr,c,t,r1,r2⟩ | ⟨k1,k2,k3,k4⟩
      · refine .inl ⟨⟨b,h1,k1⟩,by rw [atL h1];exact k2,Qy hr,c,t,by rw [atL h1];exact r1,fun x v hx=>?_⟩
        obtain ⟨v',s1,s2⟩:=Gb hx hr
        obtain ⟨u,t1,t2⟩:=r2 x v' s1
        refine ⟨u,t1,?_⟩
        rcases s2 with rfl | ⟨rfl,hf⟩
        · exact Bn v' t2
        · exact ct t2 hf
      · refine .inr ⟨?_,?_,Qy k3,fun x=>?_⟩
        · rintro ⟨b',q1,q2⟩
          rw [h1] at q1;cases q1
          exact k1 q2
        · rw [ja];exact (List.getElem?_eq_some_iff.1 h1).1
        · cases hc:(VF (eU L 0) d0).cell? x with
          | none=>rfl
          | some v=>obtain ⟨v',s1,_⟩:=Gb hc k3;rw [k4 x] at s1;cases s1
    · obtain ⟨b,r1,r2⟩:=ok1
      obtain ⟨c,r3,r4⟩:=ok2
      have q1:=eE q1
      have q2:=eE q2
      simp only at q1 q2
      rw [jp,r1] at q1
      rw [jp,r3] at q2
      simp only [Option.map_some,Option.some.injEq,Option.map_eq_some_iff] at q1 q2
      obtain ⟨d1,s1,_⟩:=q1
      obtain ⟨d2,s2,_⟩:=q2
      rw [atL r1,atL r3] at he
      have:=hh.inj b c d1 d2 s1 s2 r2 r4 he
      subst this
      exact mi hn r1 r3
    · obtain ⟨b,r1,_⟩:=q
      simp only [ja]
      exact (List.getElem?_eq_some_iff.1 r1).1
inductive AE where
  | normal
  | ret
  | exit (id:Nat)
def AE.real:AE→Exit
  | .normal=>.normal
  | .ret=>.ret
  | .exit id=>.exit id
abbrev Uk:=Option (AE×aF×List Bool×bY)
abbrev mp:=Code→aF→bY→Uk
def db:Code→Bool
  | .rangeFunc .. | .scope _=>false
  | .seq a b | .cond _ a b=>db a&&db b
  | .block _ a | .loop a=>db a
  | _=>true
def oy(y:Option YI) :List iB→Bool
  | []=>true
  | r::l=>jS y r.sets&&oy y l
def tZ(C:ki)(run:co)(y:Option YI)(yr:OX)(ops:Array Oper)(draw:Bool)(st:aF)(p:bY) :Uk :=
  match draw with
  | false =>
    match tV C run y yr ops st.next 0 ops.toList st.tmps st.heap (st.next+ops.size*iP) p with
    | some (T,h,nx,obs,p')=>some (.normal,⟨T,h,nx⟩,obs,p')
    | none=>none
  | true =>
    match xa C run ops st.next 0 ops.toList st.tmps st.heap p with
    | some (rs,T,h,obs,p')=>bif su ops rs&&oy y rs then some (.normal,⟨T,h,st.next+ops.size*iP⟩,obs,p') else none
    | none=>none
def jU(T:List AV)(c:Operand)(b:Bool) :List AV :=
  match c with
  | .tmp t=>OH T t (.bool true b)
  | _=>T
def we(body:aF→bY→Uk) :Nat→aF→bY→Uk
  | 0,_,_=>none
  | n+1,st,p =>
    match body st p with
    | some (.normal,st1,o1,p1) =>
      match we body n st1 p1 with
      | some (e,qK,o2,p2)=>some (e,qK,o1++o2,p2)
      | none=>none
    | r=>r
abbrev gN:=Option YI→mp
def rb:List AV→List Tmp→List AV→List AV
  | T,p::ps,v::vs=>rb (OH T p v) ps vs
  | T,_,_=>T
def pC:Option aq→Bool
  | some (.vs [])=>true
  | _=>false
def Ve(self:gN)(y:Option YI) :OX:=fun args h nx p =>
  match y with
  | none=>none
  | some yi =>
    bif pC (aB h yi.b)&&(Nat.beq args.length yi.ps.size&&(db yi.assign&&db yi.body)) then
      match self none yi.assign ⟨rb yi.saved yi.ps.toList args,h,nx⟩ p with
      | some (.normal,st1,o1,p1) =>
        match self none yi.body st1 p1 with
        | some (e,qK,o2,p2) =>
          bif pC (aB qK.heap yi.b) then
            match e with
            | .normal=>some (.bool true true,qK.heap,qK.next,o1++o2,p2)
            | .ret=>some (.bool true false,cH qK.heap yi.b (.fl []),qK.next,o1++o2,p2)
            | .exit id=>some (.bool true false,cH qK.heap yi.b (.rows id 0 fun _ _=>.nptr),qK.next,o1++o2,p2)
          else none
        | none=>none
      | _=>none
    else none
def pD:Option (LoopState×Option Code)→Option AE
  | some (.ready,none)=>some .normal
  | some (.done,some .ret)=>some .ret
  | some (.done,some (.exit id))=>some (.exit id)
  | _=>none
def xf(C : ki)(self : gN)(g : Operand)(ps : Array Tmp)(assign body : Code)(st : aF)(p : bY) : Uk :=
  match OI st.tmps g with
  | .fn (.func gf) first caps =>
    match C.P.funcs[gf]? with
    | some fn =>
      match fn.body with
      | some c =>
        bif db c&&fn.results.isEmpty then
          match self (some ⟨st.next,st.tmps,ps,assign,body⟩) c ⟨(first ++ .yld st.next::caps)++List.replicate (fn.ntmps-(first ++ .yld st.next::caps).length) (.tup []),cH st.heap st.next (.vs []),st.next+1⟩ p with
          | some (.exit _,_,_,_)=>none
          | some (_,st1,o1,p1) =>
            bif qU st1.heap then
              match pD (jo (aB st1.heap st.next)) with
              | some e=>some (e,⟨st.tmps,lU st1.heap st.next,st1.next⟩,o1,p1)
              | none=>none
            else none
          | none=>none
        else none
      | none=>none
    | none=>none
  | _=>none
def ua(C:ki)(run:co)(N:Nat)(selfY:gN)(y:Option YI)(c:Code)(st:aF)(p:bY) :Uk :=
  let self:=selfY y
  match c with
  | .skip | .label _=>some (.normal,st,[],p)
  | .region _ ops draw=>tZ C run y (Ve selfY y) ops draw st p
  | .seq a b =>
    match self a st p with
    | some (.normal,st1,o1,p1) =>
      match self b st1 p1 with
      | some (e,qK,o2,p2)=>some (e,qK,o1++o2,p2)
      | none=>none
    | r=>r
  | .cond c a b =>
    match vZ (OI st.tmps c) p with
    | some (x,o1,p1) =>
      match self (match x with | true=>a | false=>b) { st with tmps:=jU st.tmps c x } p1 with
      | some (e,qK,o2,p2)=>some (e,qK,o1++o2,p2)
      | none=>none
    | none=>none
  | .block id b =>
    match self b st p with
    | some (.exit id',st1,o1,p1)=>bif Nat.beq id' id then some (.normal,st1,o1,p1) else some (.exit id',st1,o1,p1)
    | r=>r
  | .loop b=>we (self b) N st p
  | .exit id=>some (.exit id,st,[],p)
  | .ret=>some (.ret,st,[],p)
  | .scope b=>self b st p
  | .rangeFunc g ps assign body=>match y with
    | none=>xf C selfY g ps assign body st p
    | some _=>none
  | _=>none
structure iS where
  out:eJ
  obs:List Bool
def Qz(alts:List iS)(p:bY) :Option (iS×bY) :=
  match alts,p with
  | [a],p=>some (a,p)
  | alts,none=>(alts.find? fun a=>wI a.obs).map fun a=>(a,none)
  | alts,some (k::r)=>(alts[k]?).map fun a=>(a,some r)
  | _,_=>none
theorem O1{alts:List iS}{p p':bY}{a:iS}(h:Qz alts p=some (a,p')) :a∈alts:=by
  unfold Qz at h
  split at h
  · simp only [Option.some.injEq,Prod.mk.injEq] at h;rw [←h.1];simp
  · simp only [Option.map_eq_some_iff,Prod.mk.injEq] at h;obtain ⟨b,h1,rfl,_⟩:=h;exact List.mem_of_find?_eq_some h1
  · simp only [Option.map_eq_some_iff,Prod.mk.injEq] at h;obtain ⟨b,h1,rfl,_⟩:=h;exact List.mem_of_getElem? h1
  · cases h
abbrev oz:=FuncId→List aq→List AV→Option (List iS)
def ep(P:Program)(fn:Func)(st:aF) :List ResultVar→Option (List AV×List Bool)
  | []=>some ([],[])
  | .tmp t::l =>
    match ep P fn st l with
    | some (vs,o)=>some (OG st.tmps t::vs,o)
    | none=>none
  | .cell a t::l =>
    match qc P (aB st.heap) t (OG st.tmps a),ep P fn st l with
    | some (v,o,_),some (vs,o')=>some (v::vs,o++o')
    | _,_=>none
def ub:List AV→AV
  | [v]=>v
  | vs=>.tup vs
def iF(fn:Func)(lent:List aq)(args:List AV) :aF:=⟨args++List.replicate (fn.ntmps-args.length) (.tup []),bX 0 (lent.map some),lent.length⟩
def fx(C : ki)(S : oz)(self : mp) : co := fun f lent args p =>
  match S f lent args with
  | some alts=>(Qz alts p).map fun r=>(r.1.out,r.1.obs,r.2)
  | none =>
    match C.P.funcs[f]? with
    | some fn =>
      match fn.body with
      | some c =>
        match self c (iF fn lent args) p with
        | some (e,st,o1,p1) =>
          match e,ep C.P fn st fn.results.toList with
          | .exit _,_=>none
          | _,some (vs,o2) =>
            match xe lent.length (C.mode f).keep st.heap (ub vs) with
            | some r=>some (r,o1++o2,p1)
            | none=>none
          | _,none=>none
        | none=>none
      | none=>none
    | none=>none
def sv(C:ki)(S:oz)(N:Nat) :Nat→gN
  | 0=>fun _ _ _ _=>none
  | n+1=>ua C (fx C S (sv C S N n none)) N (sv C S N n)
def cG(C:ki)(S:oz)(N:Nat)(n:Nat) :mp:=sv C S N n none
def ak(P:Program)(f:FuncId)(lent:List aq)(args:List AV)(r:eJ) :Prop :=
  ∀ (ρ:af) (w:World) (us:List Value),dF ρ w lent→bh ρ w args us →
    (∃ fn,P.funcs[f]? = some fn∧fn.body.isSome=true)∧Calls P f us.toArray w fun e w'=>∃ u,e=.returned u∧dx ρ.live w w'∧r.Holds ρ w w' lent.length u
def ao(P:Program)(S:oz) :Prop:=∀ f lent args alts a,S f lent args=some alts→a∈alts→ap a.obs→ak P f lent args a.out
def DY(P:Program)(self:mp) :Prop :=
  ∀ c st p e st' obs p',self c st p=some (e,st',obs,p')→ap obs→∀ (ρ:af) (a:Act) (w:World) (Q:Exit→Act→World→Prop),ρ.pin.2=none→SR ρ st a w →
    (∀ ρ' a' w',wN ρ w st.next st' ρ' a' w'→Q e.real a' w')→c.wp P Q a w
theorem wN.trans{ρ ρ1 ρ2:af}{w w1 w2:World}{n:Nat}{st1 qK:aF}{a1 a2:Act}(h:wN ρ w n st1 ρ1 a1 w1)(k:wN ρ1 w1 st1.next qK ρ2 a2 w2) :wN ρ w n qK ρ2 a2 w2 :=
  ⟨h.ext.trans k.ext h.wle.size,h.wle.trans k.wle (fun x hx q=>h.ext.new x hx q),k.sr,Nat.le_trans h.le k.le,fun b q=>by
    rcases k.back b q with q | q
    · exact h.back b q
    · exact .inr (Nat.le_trans h.le q)⟩
theorem wN.refl{ρ:af}{w:World}{st:aF}{a:Act}(h:SR ρ st a w) :wN ρ w st.next st ρ a w:=⟨eI.refl _ _,dx.refl _ _,h,Nat.le_refl _,fun b q=>.inl q⟩
theorem O2(n:Nat) :List.range n=List.range' 0 n:=List.range_eq_range'
theorem Gd(fn:Func)(tmps:Array Value) :results fn tmps=(do let vs ← fn.results.mapM (fun | .tmp t=>pure (tmps.getD t undef) | .cell x t=>do loadVar t (←asAddr (tmps.getD x undef)));pure (if h:vs.size=1 then vs[0] else .tuple vs)):=by
  unfold results
  congr 1
structure gO (y:Option YI) (ρ:af) (w:World) (n:Nat) (st:aF) (ρ':af) (a':Act) (w':World):Prop where
  stp:wa y ρ w ρ' w'
  sr:SR ρ' st a' w'
  le:n≤st.next
  back:∀ b,ρ'.ok b→ρ.ok b∨n≤b
  pin:gJ y ρ' w' st.heap st.next
theorem gO.old{ρ:af}{w:World}{n:Nat}{st:aF}{ρ':af}{a':Act}{w':World}(h:gO none ρ w n st ρ' a' w') :wN ρ w n st ρ' a' w':=⟨h.stp.ext,h.stp.live,h.sr,h.le,h.back⟩
theorem gO.trans{y:Option YI}{ρ ρ1 ρ2:af}{w w1 w2:World}{n:Nat}{st1 qK:aF}{a1 a2:Act}(h:gO y ρ w n st1 ρ1 a1 w1)(k:gO y ρ1 w1 st1.next qK ρ2 a2 w2) :gO y ρ w n qK ρ2 a2 w2 :=
  ⟨h.stp.trans k.stp,k.sr,Nat.le_trans h.le k.le,fun b q=>by
    rcases k.back b q with q | q
    · exact h.back b q
    · exact .inr (Nat.le_trans h.le q),k.pin⟩
theorem gO.refl{y:Option YI}{ρ:af}{w:World}{st:aF}{a:Act}(h:SR ρ st a w)(hp:gJ y ρ w st.heap st.next) :gO y ρ w st.next st ρ a w:=⟨wa.refl _ _ _,h,Nat.le_refl _,fun b q=>.inl q,hp⟩
def Ul(c:Code)(ro:Option Nat)(y:Option YI)(ρ:af) :Prop:=db c=true∨(ro=none∧y=none∧ρ.pin.2=none)
def mq(P:Program)(self:gN) :Prop :=
  ∀ y c st p e st' obs p',self y c st p=some (e,st',obs,p')→ap obs→∀ (ro:Option Nat) (nn:Nat) (ρ:af) (a:Act) (w:World) (Q:Exit→Act→World→Prop),Ul c ro y ρ→SR ρ st a w→gJ y ρ w st.heap st.next →
    (∀ ρ' a' w',gO y ρ w st.next st' ρ' a' w'→Q e.real a' w')→c.wpIn (FW ro) nn P Q a w
theorem Ul.ext{c:Code}{ro:Option Nat}{y:Option YI}{ρ ρ':af}{w:World}(h:Ul c ro y ρ)(E:eI ρ ρ' w) :Ul c ro y ρ':=h.imp id fun ⟨a,b,c⟩=>⟨a,b,by rw [E.pin];exact c⟩
theorem Ul.sub{c d:Code}{ro:Option Nat}{y:Option YI}{ρ:af}(h:Ul c ro y ρ)(k:db c=true→db d=true) :Ul d ro y ρ:=h.imp k id
theorem wf{ρ:af}{w:World} :∀ {ds:List Deferred},ei ρ w ds→ρ.pin.1≤w.heap.size
  | [],h=>h
  | _::_,⟨_,h⟩=>wf h
theorem Bo{ρ:af}{w:World} :∀ {ds:List Deferred},ei ρ w ds→∀ e∈ds,e ≠ { target:=.collected w.heap.size,args:=#[] }
  | [],_,e,he=>by cases he
  | d::ds,⟨⟨D,h1,hb,h2,h3,h4,h5⟩,h⟩,e,he=>by
    rcases List.mem_cons.1 he with rfl | q
    · intro e;rw [h1] at e
      have e:Target.collected D=.collected w.heap.size:=congrArg Deferred.target e
      simp only [Target.collected.injEq] at e
      omega
    · exact Bo h e q
theorem sw{y:Option YI} :∀ {l:List iB},oy y l=true→∀ r∈l,jS y r.sets=true
  | [],_,r,h=>by cases h
  | x::l,hk,r,h=>by
    simp only [oy,Bool.and_eq_true] at hk
    rcases List.mem_cons.1 h with rfl | q
    · exact hk.1
    · exact sw hk.2 r q
theorem sx{y:Option YI} :∀ (l:List (Oper×iB)) (s:List AV×aM),(∀ x∈l,jS y x.2.sets=true)→∀ yi,y=some yi→aB (bt l s).2 yi.b=aB s.2 yi.b
  | [],s,_,yi,_=>rfl
  | x::l,s,h,yi,e=>by
    simp only [bt]
    rw [sx l _ (fun z hz=>h z (by simp [hz])) yi e]
    exact sn (h x (by simp)) s.2 yi e
theorem DZ{C:ki}(hC:C.Ok){run:co}(hrun:wH C.P run){y:Option YI}{yr:OX}(hyr:J5 C.P y yr){id:Nat}{ops:Array Oper}{draw:Bool}{st st':aF}{p p':bY}{e:AE}{obs:List Bool}(h:tZ C run y yr ops draw st p=some (e,st',obs,p')) 
    (ho:ap obs) {ro:Option Nat} {nn:Nat} {ρ:af} {a:Act} {w:World} {Q:Exit→Act→World→Prop} (hs:SR ρ st a w) (hp:gJ y ρ w st.heap st.next) (hQ:∀ ρ' a' w',gO y ρ w st.next st' ρ' a' w'→Q e.real a' w'):(Code.region id ops draw).wpIn (FW ro) nn C.P Q a w:=by
  unfold tZ at h
  cases draw with
  | false =>
    simp only at h
    split at h
    case h_2=>cases h
    rename_i T hp' nx obs' p1 hr
    simp only [Option.some.injEq,Prod.mk.injEq] at h;obtain ⟨rfl,rfl,rfl,rfl⟩:=h
    refine wpIn_region ?_
    rw [O2,←Array.length_toList]
    refine mn hC hrun hyr ops.toList 0 (fun j=>by simp) hr ho (hs.heap.le (by omega)) (Nat.le_refl _) hp (wf hs.defers) (fun b hb=>.inl (by have:=hs.heap.lt b hb;omega)) hs.tmps ?_
    intro ρ' w' a' S hh hle hpin hd hT hb
    exact hQ ρ' a' w' ⟨S,⟨by rw [hd];exact S.marks _ hs.defers,hT,hh⟩,by show st.next≤nx;omega,hb,hpin.le (by show st.next≤nx;omega)⟩
  | true =>
    simp only at h
    split at h
    case h_2=>cases h
    rename_i rs T hp' obs' p1 hr
    cases hd:(su ops rs&&oy y rs) with
    | false=>rw [hd] at h;cases h
    | true =>
      rw [hd] at h
      rw [Bool.and_eq_true] at hd
      simp only [cond_true,Option.some.injEq,Prod.mk.injEq] at h;obtain ⟨rfl,rfl,rfl,rfl⟩:=h
      obtain ⟨s1,s2,s3⟩:=uZ _ _ hr ho
      obtain ⟨ms,D⟩:=uW (ops.toList.zip rs) [] [] rfl (F8 s1 hd.1) ⟨fun j x hx=>by simp at hx,fun j x hx=>by simp at hx,fun i j x y hx=>by simp at hx⟩
      rw [List.nil_append] at D
      refine wpIn_region_any hC.mixed ?_
      have W0:=dx.drawn ρ.live w (w.drawn+1)
      have E0:=eI.refl ρ w
      have notL:∀ i,(Array.replicate ops.size false).getD i false=false:=by
        intro i;rw [Array.getD_eq_getD_getElem?]
        cases hq:(Array.replicate ops.size false)[i]? with
        | none=>rfl
        | some b=>rw [Array.getElem?_replicate] at hq;split at hq<;>simp_all
      have a0:∀ (l:List (Oper×iB)) (i:Nat) (s:List AV×aM),gA (fun i=>(Array.replicate ops.size false).getD i false) i l s=s:=by
        intro l
        induction l with
        | nil=>intro _ _;rfl
        | cons x l ih=>intro i s;simp only [gA];rw [notL i];exact ih _ _
      refine Qx hC hrun D (by rw [s1];simp) (fun j o hj=>by have:=s3 j o hj;rw [Nat.zero_add] at this;exact this) ops.size (Array.replicate ops.size false) (by simp) (fun j o _ hl=>by rw [notL] at hl;cases hl)
        (by have:=List.countP_le_length (p:=fun i=>!(Array.replicate ops.size false).getD i false) (l:=List.range ops.size);simpa using this) (ρ:=ρ) (a:=a) ?_ ?_ ?_ ?_
      · rw [a0];exact (hs.heap.le (by omega)).drawn _
      · intro b hb;have:=hs.heap.lt b hb;exact .inl this
      · rw [a0];exact hs.tmps.mono E0 W0
      · intro ρ' w' a' E W hh hd' hT hb
        have keep:=sx (y:=y) (ops.toList.zip rs) (st.tmps,st.heap) fun x hx=>sw hd.2 _ (List.of_mem_zip (show (x.1,x.2)∈_ from hx)).2
        rw [s2] at hh hT keep
        have E':eI ρ ρ' w:=⟨E.at_,E.ok,E.live,fun b hb=>E.new b hb,E.out,E.pin⟩
        have W':dx ρ.live w w':=W0.trans W (fun _ _ q=>q)
        refine hQ ρ' a' w' ⟨.of E' W',⟨by rw [hd'];exact hs.defers.mono E' W',hT,hh⟩,Nat.le_add_right _ _,hb,(hp.mono E' W' (fun yi _ q=>hb _ q) keep).le (Nat.le_add_right _ _)⟩
theorem xg{C:ki}{y:Option YI}{ro:Option Nat}{nn:Nat}{body:aF→bY→Uk}{b:Code}(hb:∀ st p e st' obs p',body st p=some (e,st',obs,p')→ap obs→∀ (ρ:af) (a:Act) (w:World) (Q:Exit→Act→World→Prop),Ul b ro y ρ→SR ρ st a w→gJ y ρ w st.heap st.next →
    (∀ ρ' a' w',gO y ρ w st.next st' ρ' a' w'→Q e.real a' w')→b.wpIn (FW ro) nn C.P Q a w) :∀ (n:Nat) (st:aF) (p:bY) (e:AE) (st':aF) (obs:List Bool) (p':bY),we body n st p=some (e,st',obs,p')→ap obs →
    ∀ (ρ:af) (a:Act) (w:World) (Q:Exit→Act→World→Prop),Ul b ro y ρ→SR ρ st a w→gJ y ρ w st.heap st.next→(∀ ρ' a' w',gO y ρ w st.next st' ρ' a' w'→Q e.real a' w')→Code.roundsIn (FW ro) nn C.P b Q n a w
  | 0,st,p,e,st',obs,p',h,_,_,_,_,_,_,_,_,_=>by cases h
  | n+1,st,p,e,st',obs,p',h,ho,ρ,a,w,Q,hm,hs,hp,hQ=>by
    simp only [we] at h
    rw [roundsIn_succ]
    split at h
    · rename_i st1 o1 p1 h1
      split at h
      case h_2=>cases h
      rename_i e2 qK o2 p2 h2
      simp only [Option.some.injEq,Prod.mk.injEq] at h;obtain ⟨rfl,rfl,rfl,rfl⟩:=h
      rw [aE] at ho
      refine hb st p _ _ _ _ h1 ho.1 ρ a w _ hm hs hp fun ρ1 a1 w1 P1=>?_
      exact xg hb n st1 p1 _ _ _ _ h2 ho.2 ρ1 a1 w1 Q (hm.ext P1.stp.ext) P1.sr P1.pin fun ρ2 a2 w2 P2=>hQ ρ2 a2 w2 (P1.trans P2)
    · rename_i hne
      refine hb st p _ _ _ _ h ho ρ a w _ hm hs hp fun ρ1 a1 w1 P1=>?_
      have:=hQ ρ1 a1 w1 P1
      cases e with
      | normal=>exact (hne _ _ _ h).elim
      | ret=>exact this
      | exit id=>exact this
theorem xh{ρ:af}{w:World} :∀ (ps:List Tmp) (vs:List AV) (us:List Value) {T:List AV} {c:Array Value},bh ρ w T c.toList→bh ρ w vs us→ps.length=us.length →
    bh ρ w (rb T ps vs) ((ps.zip us).foldl (fun tmps (x:Tmp×Value)=>tmps.setIfInBounds x.1 x.2) c).toList
  | [],vs,us,T,c,hT,hv,hl=>by
    cases us with
    | nil=>cases vs<;>simpa [rb] using hT
    | cons=>simp at hl
  | p::ps,vs,us,T,c,hT,hv,hl=>by
    cases hv with
    | nil=>simp at hl
    | cons v u vs us h1 h2 =>
      simp only [rb,pq,List.zip_cons_cons,List.foldl_cons]
      refine xh ps vs us ?_ h2 (by simpa using hl)
      rw [Array.toList_setIfInBounds]
      exact hT.set h1 p
theorem va{o:Option aq}(h:pC o=true) :o=some (.vs []):=by
  unfold pC at h
  split at h
  · rfl
  · cases h
theorem wa.wide{y:Option YI}{ρ ρ':af}{w w':World}(h:wa none ρ w ρ' w') :wa y ρ w ρ' w':=⟨h.ext,h.live.mono fun _ _ q=>.inl q,h.vr,h.marks⟩
theorem wa.put{yi:YI}{ρ:af}{w:World}{L k:Nat}{r r':Loop}(hp:ρ.pin.2=some (L,k))(hL:w.heap[L]? = some (.loop r)) :wa (some yi) ρ w ρ (w.putObj L (.loop r')):=by
  have S:jR w (w.putObj L (.loop r')):=jR.put hL (.inl ⟨r,rfl⟩) (.inl ⟨r',rfl⟩)
  exact ⟨eI.refl _ _,S.wle fun b _ hb=>World.putObj_heap_other (fun e=>hb (.inr ⟨rfl,k,by rw [e];exact hp⟩)),fun v u h=>h.soft S,fun ds h=>h.soft hL⟩
theorem Um{P:Program}{self:gN}(hself:mq P self)(y:Option YI) :J5 P y (Ve self y):=by
  intro args h nx p v h' nx' obs p' hr ho
  unfold Ve at hr
  cases y with
  | none=>cases hr
  | some yi =>
  refine ⟨yi,rfl,fun ρ w us m hh hbase hpin hm hv L hL=>?_⟩
  simp only at hr
  cases hc:(pC (aB h yi.b)&&(Nat.beq args.length yi.ps.size&&(db yi.assign&&db yi.body))) with
  | false=>rw [hc] at hr;cases hr
  | true =>
  rw [hc] at hr
  simp only [Bool.and_eq_true] at hc
  obtain ⟨hc1,hc2,hc3,hc4⟩:=hc
  simp only [cond_true] at hr
  split at hr
  case h_2=>cases hr
  rename_i st1 o1 p1 h1
  split at hr
  case h_2=>cases hr
  rename_i e qK o2 p2 h2
  cases hc5:pC (aB qK.heap yi.b) with
  | false=>rw [hc5] at hr;cases hr
  | true =>
  rw [hc5] at hr
  simp only [cond_true] at hr
  have hk1:=va hc1
  have hk2:=va hc5
  obtain ⟨q1,q2,L',q3,q4,s,pe,q5,rec,r1,r2,r3,r4,r5,r6,r7⟩:=hpin
  rw [hL] at q3;cases q3
  rw [hk1] at q5
  simp only [jo,Option.some.injEq,Prod.mk.injEq] at q5
  obtain ⟨rfl,rfl⟩:=q5
  have hlt:L<w.heap.size:=(Array.getElem?_eq_some_iff.1 r1).1
  have hsz:us.size=rec.params.size:=by
    have a1:=hv.length
    have a2:=Nat.eq_of_beq_eq_true hc2
    rw [r4,←a2,a1];simp
  refine ⟨rec,r1,hsz,fun ro nn R hR=>?_⟩
  have hob:ap o1∧ap o2:=by
    have:obs=o1++o2:=by cases e<;>simp only [Option.some.injEq,Prod.mk.injEq] at hr<;>exact hr.2.2.2.1.symm
    rw [this,aE] at ho;exact ho
  refine roundIn_of_wpIn (VM _ _) ?_
  rw [r5,r6,r4]
  have hfold:(yi.ps.zip us).foldl (fun tmps (x:Tmp×Value)=>tmps.setIfInBounds x.1 x.2) rec.tmps=(yi.ps.toList.zip us.toList).foldl (fun tmps (x:Tmp×Value)=>tmps.setIfInBounds x.1 x.2) rec.tmps:=by
    rw [←Array.foldl_toList,Array.toList_zip]
  have hT:bh ρ w (rb yi.saved yi.ps.toList args) ((yi.ps.zip us).foldl (fun tmps (x:Tmp×Value)=>tmps.setIfInBounds x.1 x.2) rec.tmps).toList:=by
    rw [hfold]
    exact xh _ _ _ r7 hv (by rw [←r4];simpa using hsz.symm)
  have S0:SR ρ ⟨rb yi.saved yi.ps.toList args,h,nx⟩ { tmps:=(yi.ps.zip us).foldl (fun tmps (x:Tmp×Value)=>tmps.setIfInBounds x.1 x.2) rec.tmps,defers:=[] } w:=⟨hbase,hT,hh⟩
  refine hself none yi.assign _ _ _ _ _ _ h1 hob.1 (some L) nn ρ _ w _ (.inl hc3) S0 trivial fun ρ1 a1 w1 P1=>?_
  have hL1:w1.heap[L]? = some (.loop rec):=(P1.stp.live.same L hlt q4).trans r1
  have n1 : ¬ ρ1.live L:=fun q=>q4 (P1.stp.ext.new L hlt q)
  refine ⟨_,run_beginRound hL1 r2,?_⟩
  have Sf:jR w1 (w1.putObj L (.loop { rec with state:=.busy })):=jR.put hL1 (.inl ⟨_,rfl⟩) (.inl ⟨_,rfl⟩)
  have S1:SR ρ1 st1 a1 (w1.putObj L (.loop { rec with state:=.busy })):=⟨P1.sr.defers.soft hL1,P1.sr.tmps.soft Sf,P1.sr.heap.soft Sf⟩
  have hlt1:L<(w1.putObj L (.loop { rec with state:=.busy })).heap.size:=by rw [World.putObj_size];exact Nat.lt_of_lt_of_le hlt P1.stp.wle.size
  refine hself none yi.body _ _ _ _ _ _ h2 hob.2 (some L) nn ρ1 a1 _ _ (.inl hc4) S1 trivial fun ρ2 a2 w3 P2=>?_
  have hL3:w3.heap[L]? = some (.loop { rec with state:=.busy }):=(P2.stp.live.same L hlt1 n1).trans (World.putObj_heap_same (by simpa using hlt1))
  have n2 : ¬ ρ2.live L:=fun q=>n1 (P2.stp.ext.new L hlt1 q)
  have pin1:ρ1.pin.2=some (L,yi.b):=by rw [P1.stp.ext.pin];exact hL
  have pin2:ρ2.pin.2=some (L,yi.b):=by rw [P2.stp.ext.pin];exact pin1
  have Sall:∀ (r':Loop),wa (some yi) ρ w ρ2 (w3.putObj L (.loop r')):=fun r' =>
    (((P1.stp.wide).trans (wa.put pin1 hL1)).trans P2.stp.wide).trans (wa.put pin2 hL3)
  have hback:∀ b,ρ2.ok b→ρ.ok b∨nx≤b:=by
    intro b q
    rcases P2.back b q with q | q
    · exact P1.back b q
    · exact .inr (Nat.le_trans P1.le q)
  have hnok : ¬ ρ2.ok yi.b:=fun q=>(hback _ q).elim q1 (by omega)
  have hle:nx≤qK.next:=Nat.le_trans P1.le P2.le
  have S2:∀ (r':Loop),jR w3 (w3.putObj L (.loop r')):=fun r'=>jR.put hL3 (.inl ⟨_,rfl⟩) (.inl ⟨_,rfl⟩)
  have hlt3:L<w3.heap.size:=(Array.getElem?_eq_some_iff.1 hL3).1
  have hrec:∀ (s:LoopState) (pe:Option Code),F1 ρ2 (w3.putObj L (.loop { rec with state:=s,pending:=pe })) L yi s pe:=fun s pe =>
    ⟨_,World.putObj_heap_same hlt3,rfl,rfl,r4,r5,r6,bh.stp (Sall _).vr r7⟩
  cases e with
  | normal =>
    simp only [Option.some.injEq,Prod.mk.injEq] at hr
    obtain ⟨rfl,rfl,rfl,_,_⟩:=hr
    refine ⟨_,_,run_endRound none hL3,hR ρ2 _ _ (Sall _) (P2.sr.heap.soft (S2 _)) ⟨hnok,q2,L,pin2,n2,.ready,none,by rw [hk2];rfl,hrec _ _⟩ (.bool _ _) hback hle⟩
  | ret =>
    simp only [Option.some.injEq,Prod.mk.injEq] at hr
    obtain ⟨rfl,rfl,rfl,_,_⟩:=hr
    refine ⟨_,_,run_endRound (some .ret) hL3,hR ρ2 _ _ (Sall _) ((P2.sr.heap.soft (S2 _)).ghost hnok (by omega) trivial (fun x=>rfl)) ⟨hnok,q2,L,pin2,n2,.done,some .ret,by rw [be,if_pos rfl];rfl,hrec _ _⟩ (.bool _ _) hback hle⟩
  | exit id =>
    simp only [Option.some.injEq,Prod.mk.injEq] at hr
    obtain ⟨rfl,rfl,rfl,_,_⟩:=hr
    refine ⟨_,_,run_endRound (some (.exit id)) hL3,hR ρ2 _ _ (Sall _) ((P2.sr.heap.soft (S2 _)).ghost hnok (by omega) (fun i j=>⟨rfl,rfl⟩) (fun x=>by simp [aq.cell?])) ⟨hnok,q2,L,pin2,n2,.done,some (.exit id),by rw [be,if_pos rfl];rfl,hrec _ _⟩ (.bool _ _) hback hle⟩
theorem zH{d:Option aq}{e:AE}(h:pD (jo d)=some e) :∃ s pe,jo d=some (s,pe)∧s ≠ .busy∧((e=.normal∧pe=none)∨(e=.ret∧pe=some .ret)∨∃ id,e=.exit id∧pe=some (.exit id)):=by
  unfold pD at h
  split at h
  · rename_i q;cases h;exact ⟨_,_,q,by simp,.inl ⟨rfl,rfl⟩⟩
  · rename_i q;cases h;exact ⟨_,_,q,by simp,.inr (.inl ⟨rfl,rfl⟩)⟩
  · rename_i id q;cases h;exact ⟨_,_,q,by simp,.inr (.inr ⟨id,rfl,rfl⟩)⟩
  · cases h
def Ka(st:aF)(fn:Func)(first caps:List AV) :aF:=⟨(first ++ .yld st.next::caps)++List.replicate (fn.ntmps-(first ++ .yld st.next::caps).length) (.tup []),cH st.heap st.next (.vs []),st.next+1⟩
theorem O3{C:ki}(hC:C.Ok){g:Operand}{ps:Array Tmp}{assign body:Code}{st:aF}{gf:FuncId}{fn:Func}{c:Code}{first caps:List AV}{e1 e2:AE}{st1:aF}(hev:OI st.tmps g=.fn (.func gf) first caps)(hfn:C.P.funcs[gf]? = some fn)(hbody:fn.body=some c) 
    (hc2:fn.results.isEmpty=true) (hne:∀ id,e1 ≠ .exit id) (hcl:qU st1.heap=true) (hend:pD (jo (aB st1.heap st.next))=some e2)
    {nn:Nat} {ρ:af} {a:Act} {w:World} {Q:Exit→Act→World→Prop} (hpn:ρ.pin.2=none) (hs:SR ρ st a w)
    (hgo:∀ (ρi:af) (wi:World) (ai:Act) (Qi:Exit→Act→World→Prop),SR ρi (Ka st fn first caps) ai wi→gJ (some ⟨st.next,st.tmps,ps,assign,body⟩) ρi wi (Ka st fn first caps).heap (Ka st fn first caps).next→(∀ b,ρi.ok b→b<st.next+1) →
      (∀ ρ' a' w',eI ρi ρ' wi→dx (ρi.wm (some ⟨st.next,st.tmps,ps,assign,body⟩)) wi w'→SR ρ' st1 a' w'→st.next+1≤st1.next→(∀ b,ρ'.ok b→ρi.ok b∨st.next+1≤b)→gJ (some ⟨st.next,st.tmps,ps,assign,body⟩) ρ' w' st1.heap st1.next→Qi e1.real a' w')→c.wpIn (FW none) (nn-1) C.P Qi ai wi)
    (hQ:∀ ρ' a' w',gO none ρ w st.next ⟨st.tmps,lU st1.heap st.next,st1.next⟩ ρ' a' w'→Q e2.real a' w'):(Code.rangeFunc g ps assign body).wpIn (FW none) nn C.P Q a w:=by
  refine wpIn_rangeFunc ?_
  intro f0 _
  have hg:=oe hs.heap.rom hs.tmps g
  rw [hev] at hg
  generalize hgv:a.eval g=gv at hg
  cases hg with | fn _ _ _ c1 c2 v1 v2 =>
  obtain ⟨w1,hw1⟩:∃ w1,(w.alloc (.deferred (some []))).alloc (.loop { state:=.ready,pending:=none,fn:=f0,tmps:=a.tmps,params:=ps,assign,body,defers:=w.heap.size })=w1:=⟨_,rfl⟩
  refine ⟨w.heap.size+1,[{ target:=.collected w.heap.size,args:=#[] }],w1,{ target:=.fn (.func gf) c2,args:=c1 ++ #[Value.func (.yield (w.heap.size+1)) #[] #[]] },w1,gf,c1 ++ #[Value.func (.yield (w.heap.size+1)) #[] #[]]++c2,w1,?_,?_,fun _ _=>trivial,?_,vY,?_⟩
  · rw [←hw1];exact run_enterLoop_outer _ _ _ _ _
  · simp only [resolve,hgv]
    simp [Deferred.ofValue,Act.eval]
  · have eg:=hC.enter gf fn (c1 ++ #[Value.func (.yield (w.heap.size+1)) #[] #[]]++c2) w1 hfn (by rw [hbody];rfl)
    simp only [invoke]
    exact eg
  have hsz1:w1.heap.size=w.heap.size+2:=by rw [←hw1];simp
  have hD1:w1.heap[w.heap.size]? = some (.deferred (some [])):=by
    rw [←hw1,bW (by simp),aR]
  have hL1:w1.heap[w.heap.size+1]? = some (.loop { state:=.ready,pending:=none,fn:=f0,tmps:=a.tmps,params:=ps,assign,body,defers:=w.heap.size }):=by
    rw [←hw1]
    have:=aR (w.alloc (.deferred (some []))) (.loop { state:=.ready,pending:=none,fn:=f0,tmps:=a.tmps,params:=ps,assign,body,defers:=w.heap.size })
    simpa using this
  have W1:dx ρ.live w w1:=by rw [←hw1];exact (dx.alloc _ _ _).trans (dx.alloc _ _ _) (fun _ _ q=>q)
  have same1:∀ b,b<w.heap.size→w1.heap[b]? = w.heap[b]?:=fun b hb=>by
    rw [←hw1,bW (by simp;omega),bW hb]
  have nlive:∀ b,w.heap.size≤b→¬ ρ.live b:=fun b hb q=>by have:=hs.heap.liveLt b q;omega
  have nok : ¬ ρ.ok st.next:=fun q=>by have:=hs.heap.lt _ q;omega
  have tmps1:∀ {l:List AV} {us:List Value},bh ρ w l us→bh (ρ.pinned (w1.heap.size,some (w.heap.size+1,st.next))) w1 l us:=fun hv=>(hv.mono (eI.refl _ _) W1).noPin hpn _
  have hH1:HR (ρ.pinned (w1.heap.size,some (w.heap.size+1,st.next))) w1 (cH st.heap st.next (.vs [])) (st.next+1):=by
    refine HR.ghost ((((hs.heap.step W1 (fun bl hl=>same1 bl (hs.heap.liveLt bl hl))).noPin hpn _)).le (Nat.le_succ _)) nok (Nat.lt_succ_self _) trivial (fun x=>rfl)
  have hargs:bh (ρ.pinned (w1.heap.size,some (w.heap.size+1,st.next))) w1 ((first ++ .yld st.next::caps)++List.replicate (fn.ntmps-(first ++ .yld st.next::caps).length) (.tup []))
      ((c1 ++ #[Value.func (.yield (w.heap.size+1)) #[] #[]]++c2)++Array.replicate (fn.ntmps-(c1 ++ #[Value.func (.yield (w.heap.size+1)) #[] #[]]++c2).size) undef).toList:=by
    have l1:=v1.length
    have l2:=v2.length
    have e:(first++AV.yld st.next::caps).length=(c1 ++ #[Value.func (.yield (w.heap.size+1)) #[] #[]]++c2).size:=by simp at l1 l2 ⊢;omega
    rw [e]
    have hrep:∀ n,bh (ρ.pinned (w1.heap.size,some (w.heap.size+1,st.next))) w1 (List.replicate n (.tup [])) (List.replicate n undef):=by
      intro n
      induction n with
      | zero=>exact .nil
      | succ n ih=>exact .cons _ _ _ _ (.tup [] #[] .nil) ih
    have hmid:bh (ρ.pinned (w1.heap.size,some (w.heap.size+1,st.next))) w1 (.yld st.next::caps) (Value.func (.yield (w.heap.size+1)) #[] #[]::c2.toList):=.cons _ _ _ _ (.yld _ _ rfl) (tmps1 v2)
    have hall:=bh.append (hrep (fn.ntmps-(c1 ++ #[Value.func (.yield (w.heap.size+1)) #[] #[]]++c2).size)) (bh.append hmid (tmps1 v1))
    simpa using hall
  refine callsIn_of_wp_marks hfn hbody trivial ?_ rfl
  have S0:SR (ρ.pinned (w1.heap.size,some (w.heap.size+1,st.next))) ⟨(first ++ .yld st.next::caps)++List.replicate (fn.ntmps-(first ++ .yld st.next::caps).length) (.tup []),cH st.heap st.next (.vs []),st.next+1⟩
      { tmps:=(c1 ++ #[Value.func (.yield (w.heap.size+1)) #[] #[]]++c2)++Array.replicate (fn.ntmps-(c1 ++ #[Value.func (.yield (w.heap.size+1)) #[] #[]]++c2).size) undef,defers:=[] } w1:=⟨Nat.le_refl _,hargs,hH1⟩
  have P0:gJ (some ⟨st.next,st.tmps,ps,assign,body⟩) (ρ.pinned (w1.heap.size,some (w.heap.size+1,st.next))) w1 (cH st.heap st.next (.vs [])) (st.next+1) :=
    ⟨nok,Nat.lt_succ_self _,w.heap.size+1,rfl,nlive _ (by omega),.ready,none,by rw [be,if_pos rfl];rfl,_,hL1,rfl,rfl,rfl,rfl,rfl,tmps1 hs.tmps⟩
  refine hgo _ _ _ _ S0 P0 (fun b q=>Nat.lt_succ_of_lt (hs.heap.lt b q)) fun ρ1 a1 w2 P1e P1w P1s P1l P1b P1p=>?_
  obtain ⟨s,pe,hst,hbusy,hcase⟩:=zH hend
  have E1:=P1e
  have pin1:ρ1.pin=(w1.heap.size,some (w.heap.size+1,st.next)):=E1.pin
  have key:LeavesInM (FW none) (nn-1) C.P fn a1.tmps (rangePost (FW none) nn C.P (w.heap.size+1) Q { a with defers:=[{ target:=.collected w.heap.size,args:=#[] }]++a.defers }) a1.defers .returning w2:=by
    refine ot (ρ:=ρ1) a1.defers P1s.defers fun w3 S3 hb3 hl3=>?_
    refine ⟨.tuple #[],?_,?_⟩
    · have:fn.results = #[]:=by simpa using hc2
      rw [Gd,this]
      simp [Array.mapM_eq_mapM_toList]
    rw [pin1] at hb3
    have same2:∀ b,b<w1.heap.size→¬ ρ.live b→b≠w.heap.size+1→w2.heap[b]? = w1.heap[b]?:=fun b hb hnl hne=>P1w.same b hb (by
      rintro (q | ⟨_,k,q⟩)
      · exact hnl q
      · have:(some (w.heap.size+1,st.next):Option (Nat×Nat))=some (b,k):=q
        cases this;exact hne rfl)
    obtain ⟨_,_,L',q3,q4,s',pe',q5,rec,r1,r2,r3,r4,r5,r6,r7⟩:=P1p
    have:L'=w.heap.size+1:=by
      rw [show ρ1.pin.2=some (w.heap.size+1,st.next) from by rw [pin1]] at q3;cases q3;rfl
    subst this
    rw [hst] at q5;cases q5
    have hL3:w3.heap[w.heap.size+1]? = some (.loop rec):=(hb3 _ (by show _<w1.heap.size;omega)).trans r1
    refine ⟨_,_,run_endLoop hL3 (by rw [r2];exact hbusy),?_⟩
    have hlt3:w.heap.size+1<w3.heap.size:=(Array.getElem?_eq_some_iff.1 hL3).1
    have S4:jR w3 (w3.putObj (w.heap.size+1) (.loop { rec with state:=.exhausted })):=jR.put hL3 (.inl ⟨_,rfl⟩) (.inl ⟨_,rfl⟩)
    obtain ⟨w4,hw4⟩:∃ w4,w3.putObj (w.heap.size+1) (.loop { rec with state:=.exhausted })=w4:=⟨_,rfl⟩
    rw [hw4] at S4 ⊢
    have same4:∀ b,b≠w.heap.size+1→w4.heap[b]? = w3.heap[b]?:=fun b hb=>by rw [←hw4];exact World.putObj_heap_other hb
    have sameAll:∀ b,b<w1.heap.size→¬ ρ.live b→b≠w.heap.size+1→w4.heap[b]? = w1.heap[b]?:=fun b h1 h2 h3=>(same4 b h3).trans ((hb3 b h1).trans (same2 b h1 h2 h3))
    have W2:=P1w
    have W4:dx ρ.live w w4:=by
      refine ⟨S4.os.trans (S3.os.trans (W2.os.trans W1.os)),S4.tape.trans (S3.tape.trans (W2.tape.trans W1.tape)),S4.output.trans (S3.output.trans (W2.output.trans W1.output)),?_,fun b hb hnl=>(sameAll b (by omega) hnl (by omega)).trans (same1 b hb),fun b c t z hcell=>?_⟩
      · rw [S4.size,S3.size];have:=W2.size;omega
      · obtain ⟨c1,k1,k2⟩:=W1.sized b c t z hcell
        obtain ⟨c2,k3,k4⟩:=W2.sized b c1 t z k1
        exact ⟨c2,S4.cells (S3.cells k3),k4.trans k2⟩
    have E4:eI ρ (ρ1.pinned ρ.pin) w:=⟨E1.at_,E1.ok,E1.live,fun b hb q=>E1.new b (by omega) q,E1.out,rfl⟩
    have P4:gO none ρ w st.next ⟨st.tmps,lU st1.heap st.next,st1.next⟩ (ρ1.pinned ρ.pin) { a with defers:=[{ target:=.collected w.heap.size,args:=#[] }]++a.defers } w4:=by
      refine ⟨.of E4 W4,⟨⟨⟨w.heap.size,rfl,(show ρ.pin.1≤_ from wf hs.defers),?_,fun q=>nlive _ (Nat.le_refl _) (E1.new w.heap.size (by omega) q),?_,Bo hs.defers⟩,hs.defers.mono E4 W4⟩,hs.tmps.mono E4 W4,?_⟩,Nat.le_trans (Nat.le_succ _) P1l,fun b q=>?_,trivial⟩
      · have:=W4.size;have:=W2.size;rw [S4.size,S3.size];omega
      · exact (sameAll _ (by omega) (nlive _ (Nat.le_refl _)) (by omega)).trans hD1
      · exact (((P1s.heap.soft S3).soft S4).pinned ρ.pin hcl).del _
      · rcases P1b b q with q | q
        · exact .inl q
        · exact .inr (Nat.le_trans (Nat.le_succ _) q)
    rcases hcase with ⟨rfl,rfl⟩ | ⟨rfl,rfl⟩ | ⟨id,rfl,rfl⟩
    · rw [r3];exact hQ _ _ _ P4
    · rw [r3];exact wpIn_ret (hQ _ _ _ P4)
    · rw [r3];exact wpIn_exit (hQ _ _ _ P4)
  cases e1 with
  | normal=>exact key
  | ret=>exact key
  | exit id=>exact (hne id rfl).elim
theorem Ge{C:ki}(hC:C.Ok){self:gN}(hself:mq C.P self){g:Operand}{ps:Array Tmp}{assign body:Code}{st st':aF}{p p':bY}{e:AE}{obs:List Bool}(h:xf C self g ps assign body st p=some (e,st',obs,p'))(ho:ap obs) 
    {nn:Nat} {ρ:af} {a:Act} {w:World} {Q:Exit→Act→World→Prop} (hpn:ρ.pin.2=none) (hs:SR ρ st a w) (hQ:∀ ρ' a' w',gO none ρ w st.next st' ρ' a' w'→Q e.real a' w'):(Code.rangeFunc g ps assign body).wpIn (FW none) nn C.P Q a w:=by
  unfold xf at h
  split at h
  case h_2=>cases h
  rename_i gf first caps hev
  split at h
  case h_2=>cases h
  rename_i fn hfn
  split at h
  case h_2=>cases h
  rename_i c hbody
  cases hc:(db c&&fn.results.isEmpty) with
  | false=>rw [hc] at h;cases h
  | true =>
  rw [hc] at h
  rw [Bool.and_eq_true] at hc
  simp only [cond_true] at h
  split at h
  · cases h
  case h_3=>cases h
  rename_i e1 st1 o1 p1 hne h1
  cases hcl:qU st1.heap with
  | false=>rw [hcl] at h;cases h
  | true =>
  rw [hcl] at h
  simp only [cond_true] at h
  split at h
  case h_2=>cases h
  rename_i e2 hend
  simp only [Option.some.injEq,Prod.mk.injEq] at h;obtain ⟨rfl,rfl,rfl,rfl⟩:=h
  exact O3 hC hev hfn hbody hc.2 hne hcl hend hpn hs (fun ρi wi ai Qi S0 P0 _ hQi=>hself (some ⟨st.next,st.tmps,ps,assign,body⟩) c _ _ _ _ _ _ h1 ho none _ ρi ai wi _ (.inl hc.1) S0 P0 fun ρ' a' w' P1=>hQi ρ' a' w' P1.stp.ext P1.stp.wle P1.sr P1.le P1.back P1.pin) hQ
theorem D0{C:ki}(hC:C.Ok){run:co}(hrun:wH C.P run){N:Nat}{self:gN}(hself:mq C.P self) :mq C.P (ua C run N self):=by
  intro y c st p e st' obs p' h ho ro nn ρ a w Q hm hs hp hQ
  unfold ua at h
  simp only at h
  split at h
  · simp only [Option.some.injEq,Prod.mk.injEq] at h;obtain ⟨rfl,rfl,rfl,rfl⟩:=h
    exact wpIn_skip (hQ ρ a w (gO.refl hs hp))
  · simp only [Option.some.injEq,Prod.mk.injEq] at h;obtain ⟨rfl,rfl,rfl,rfl⟩:=h
    exact wpIn_label (hQ ρ a w (gO.refl hs hp))
  · exact DZ hC hrun (Um hself y) h ho hs hp hQ
  · rename_i x z
    refine wpIn_seq ?_
    split at h
    · rename_i st1 o1 p1 h1
      split at h
      case h_2=>cases h
      rename_i e2 qK o2 p2 h2
      simp only [Option.some.injEq,Prod.mk.injEq] at h;obtain ⟨rfl,rfl,rfl,rfl⟩:=h
      rw [aE] at ho
      refine hself y x st p _ _ _ _ h1 ho.1 ro nn ρ a w _ (hm.sub fun q=>by simp only [db,Bool.and_eq_true] at q;exact q.1) hs hp fun ρ1 a1 w1 P1=>?_
      exact hself y z st1 p1 _ _ _ _ h2 ho.2 ro nn ρ1 a1 w1 Q ((hm.sub fun q=>by simp only [db,Bool.and_eq_true] at q;exact q.2).ext P1.stp.ext) P1.sr P1.pin fun ρ2 a2 w2 P2=>hQ ρ2 a2 w2 (P1.trans P2)
    · rename_i hne
      refine hself y x st p _ _ _ _ h ho ro nn ρ a w _ (hm.sub fun q=>by simp only [db,Bool.and_eq_true] at q;exact q.1) hs hp fun ρ1 a1 w1 P1=>?_
      have:=hQ ρ1 a1 w1 P1
      cases e with
      | normal=>exact (hne _ _ _ h).elim
      | ret=>exact this
      | exit id=>exact this
  · rename_i cc x z
    split at h
    case h_2=>cases h
    rename_i b o1 p1 h1
    split at h
    case h_2=>cases h
    rename_i e2 qK o2 p2 h2
    simp only [Option.some.injEq,Prod.mk.injEq] at h;obtain ⟨rfl,rfl,rfl,rfl⟩:=h
    rw [aE] at ho
    have hb:=qV (oe hs.heap.rom hs.tmps cc) h1 ho.1
    refine wpIn_cond hb ?_
    have hs':SR ρ { st with tmps:=jU st.tmps cc b } a w:=by
      refine ⟨hs.defers,?_,hs.heap⟩
      cases cc with
      | tmp t =>
        simp only [jU,pq]
        have:bh ρ w (st.tmps.set t (.bool true b)) (a.tmps.toList.set t (.bool b)):=hs.tmps.set (.bool _ _) t
        have e:a.tmps.toList.set t (.bool b)=a.tmps.toList:=by
          apply List.ext_getElem?
          intro j
          rw [List.getElem?_set]
          split
          · rename_i q;subst q
            split
            · rename_i hlt
              simp only [Act.eval] at hb
              rw [Array.getD_eq_getD_getElem?] at hb
              have hlt':t<a.tmps.size:=by simpa using hlt
              rw [Array.getElem?_eq_getElem hlt'] at hb
              simp only [Option.getD_some] at hb
              simp [hlt',hb]
            · rename_i hge
              rw [List.getElem?_eq_none (by omega)]
          · rfl
        rw [e] at this;exact this
      | const v=>exact hs.tmps
      | global g=>exact hs.tmps
      | func f=>exact hs.tmps
    have:=hself y _ _ p1 _ _ _ _ h2 ho.2 ro nn ρ a w Q (hm.sub fun q=>by simp only [db,Bool.and_eq_true] at q;cases b<;>first | exact q.1 | exact q.2) hs' hp hQ
    cases b<;>exact this
  · rename_i id b
    refine wpIn_block ?_
    split at h
    · rename_i id' st1 o1 p1 h1
      cases hid:Nat.beq id' id with
      | true =>
        rw [hid] at h
        simp only [cond_true,Option.some.injEq,Prod.mk.injEq] at h;obtain ⟨rfl,rfl,rfl,rfl⟩:=h
        refine hself y b st p _ _ _ _ h1 ho ro nn ρ a w _ (hm.sub fun q=>by simpa only [db] using q) hs hp fun ρ1 a1 w1 P1=>?_
        simp only [AE.real,Exit.inBlock,Nat.eq_of_beq_eq_true hid,if_true]
        exact hQ ρ1 a1 w1 P1
      | false =>
        rw [hid] at h
        simp only [cond_false,Option.some.injEq,Prod.mk.injEq] at h;obtain ⟨rfl,rfl,rfl,rfl⟩:=h
        refine hself y b st p _ _ _ _ h1 ho ro nn ρ a w _ (hm.sub fun q=>by simpa only [db] using q) hs hp fun ρ1 a1 w1 P1=>?_
        have hne : ¬ id'=id:=fun e=>by subst e;simp [gB] at hid
        simp only [AE.real,Exit.inBlock,hne,if_false]
        exact hQ ρ1 a1 w1 P1
    · rename_i hne
      refine hself y b st p _ _ _ _ h ho ro nn ρ a w _ (hm.sub fun q=>by simpa only [db] using q) hs hp fun ρ1 a1 w1 P1=>?_
      have:=hQ ρ1 a1 w1 P1
      cases e with
      | normal=>exact this
      | ret=>exact this
      | exit id=>exact (hne _ _ _ _ h).elim
  · rename_i b
    exact wpIn_loop_rounds N (xg (C:=C) (b:=b) (fun st p e st' obs p' h1 h2 ρ a w Q hm=>hself y b st p e st' obs p' h1 h2 ro nn ρ a w Q hm) N st p e st' obs p' h ho ρ a w Q (hm.sub fun q=>by simpa only [db] using q) hs hp hQ)
  · simp only [Option.some.injEq,Prod.mk.injEq] at h;obtain ⟨rfl,rfl,rfl,rfl⟩:=h
    exact wpIn_exit (hQ ρ a w (gO.refl hs hp))
  · simp only [Option.some.injEq,Prod.mk.injEq] at h;obtain ⟨rfl,rfl,rfl,rfl⟩:=h
    exact wpIn_ret (hQ ρ a w (gO.refl hs hp))
  · rename_i b
    rcases hm with q | ⟨rfl,rfl,hpn⟩
    · cases q
    refine wpIn_wide.2 (wp_scope_straight (wpIn_wide.1 (hself none b st p _ _ _ _ h ho none nn ρ a w _ (.inr ⟨rfl,rfl,hpn⟩) hs hp fun ρ1 a1 w1 P1=>?_)))
    have:=hQ ρ1 a1 w1 P1
    cases e<;>exact this
  · rename_i g ps assign body
    split at h
    case h_2=>cases h
    rcases hm with q | ⟨rfl,_,q⟩
    · cases q
    · exact Ge hC hself h ho q hs hQ
  · cases h
theorem mq.old{P:Program}{self:gN}(h:mq P self) :DY P (self none):=by
  intro c st p e st' obs p' hr ho ρ a w Q hpn hs hQ
  exact wpIn_wide.1 (h none c st p e st' obs p' hr ho none 0 ρ a w Q (.inr ⟨rfl,rfl,hpn⟩) hs trivial fun ρ' a' w' P1=>hQ ρ' a' w' P1.old)
theorem xi{P:Program}{w:World}{t:TypeId}{x:Value}{u:Value}(hx:∃ a,x=.pointer (some a))(h:(Instr.loadAt t x).run P w=.ok u w) :(do loadVar t (←asAddr x):Sem Value).run P w=.ok u w:=by
  obtain ⟨a,rfl⟩:=hx
  simpa [Instr.loadAt,Instr.sureAddr,asAddr] using h
def xj(tmps:Array Value) :ResultVar→Sem Value
  | .tmp t=>pure (tmps.getD t undef)
  | .cell x t=>do loadVar t (←asAddr (tmps.getD x undef))
theorem Kb(fn:Func)(tmps:Array Value) :results fn tmps=(do let vs ← fn.results.mapM (xj tmps);pure (if h:vs.size=1 then vs[0] else .tuple vs)):=by
  unfold results
  congr 1
theorem oA{P:Program}{fn:Func}{st:aF}{ρ:af}{a:Act}{w:World}(hs:SR ρ st a w) :∀ (l:List ResultVar) {vs:List AV} {obs:List Bool},ep P fn st l=some (vs,obs)→ap obs →
    ∃ us:List Value,(l.mapM (xj a.tmps)).run P w=.ok us w∧bh ρ w vs us
  | [],vs,obs,h,ho=>by
    simp only [ep,Option.some.injEq,Prod.mk.injEq] at h;obtain ⟨rfl,rfl⟩:=h
    exact ⟨[],by simp,.nil⟩
  | .tmp t::l,vs,obs,h,ho=>by
    simp only [ep] at h
    split at h
    case h_2=>cases h
    rename_i vs' o' h1
    simp only [Option.some.injEq,Prod.mk.injEq] at h;obtain ⟨rfl,rfl⟩:=h
    obtain ⟨us,q1,q2⟩:=oA hs l h1 ho
    refine ⟨a.tmps.getD t undef::us,?_,.cons _ _ _ _ (oe hs.heap.rom hs.tmps (.tmp t)) q2⟩
    simp only [List.mapM_cons,xj,Sem.run_bind,Sem.run_pure,Result.andThen_ok,q1]
  | .cell x t::l,vs,obs,h,ho=>by
    simp only [ep] at h
    split at h
    case h_2=>cases h
    rename_i v o rs vs' o' h1 h2
    simp only [Option.some.injEq,Prod.mk.injEq] at h;obtain ⟨rfl,rfl⟩:=h
    rw [aE] at ho
    obtain ⟨us,q1,q2⟩:=oA hs l h2 ho.2
    have hv:=oe hs.heap.rom hs.tmps (.tmp x)
    simp only [OI,Act.eval] at hv
    obtain ⟨u,r1,r2⟩:=uO (P:=P) hs.heap hv h1 ho.1
    have hp:∃ ad,a.tmps.getD x undef=.pointer (some ad):=by
      generalize a.tmps.getD x undef=z at hv
      unfold qc at h1
      simp only at h1
      split at h1
      · rename_i e;rw [e] at hv;cases hv;exact ⟨_,rfl⟩
      · rename_i e;rw [e] at hv;cases hv;exact ⟨_,rfl⟩
      · cases h1
    have:=xi hp r1
    refine ⟨u::us,?_,.cons _ _ _ _ r2 q2⟩
    simp only [List.mapM_cons,xj,Sem.run_bind] at this ⊢
    rw [this]
    simp only [Result.andThen_ok,Sem.run_bind,q1,Sem.run_pure]
theorem Gf{P:Program}{fn:Func}{st:aF}{ρ:af}{a:Act}{w:World}(hs:SR ρ st a w){vs:List AV}{obs:List Bool}(h:ep P fn st fn.results.toList=some (vs,obs))(ho:ap obs) :
    ∃ v,(results fn a.tmps).run P w=.ok v w∧VR ρ w (ub vs) v:=by
  obtain ⟨us,q1,q2⟩:=oA hs fn.results.toList h ho
  have hl:=q2.length
  have hm:(fn.results.mapM (xj a.tmps)).run P w=.ok us.toArray w:=by
    rw [Array.mapM_eq_mapM_toList,map_eq_pure_bind,Sem.run_bind,q1,Result.andThen_ok,Sem.run_pure]
  rw [Kb,Sem.run_bind,hm,Result.andThen_ok]
  match vs,us,q2,hl with
  | [],[],q2,_=>exact ⟨.tuple #[],rfl,.tup _ _ .nil⟩
  | [v],[u],q2,_=>cases q2 with | cons _ _ _ _ h1 _=>exact ⟨u,rfl,h1⟩
  | v::v'::vs,u::u'::us,q2,_ =>
    refine ⟨.tuple (u::u'::us).toArray,?_,.tup _ _ q2⟩
    simp
theorem oB{P:Program}{f:FuncId}{fn:Func}{c:Code}(hf:P.funcs[f]? = some fn)(hc:fn.body=some c){lent:List aq}{args:List AV}{r:eJ}{keep:Bool} 
    (h:∀ (ρ:af) (w:World) (a:Act),dF ρ w lent→SR ρ (iF fn lent args) a w →
      c.wp P (fun e a' w'=>(e=.normal∨e=.ret)∧∃ ρ' st' vs obs,eI ρ ρ' w∧dx ρ.live w w'∧(∀ i,i<lent.length→ρ'.ok i→ρ.ok i)∧SR ρ' st' a' w'∧ep P fn st' fn.results.toList=some (vs,obs)∧ap obs∧xe lent.length keep st'.heap (ub vs)=some r) a w):ak P f lent args r:=by
  intro ρ0 w us hN0 hv0
  refine ⟨⟨fn,hf,by rw [hc];rfl⟩,?_⟩
  have hv:=hv0.noPin hN0.pin (w.heap.size,none)
  have hN:dF (ρ0.pinned (w.heap.size,none)) w lent:=⟨hN0.heap.noPin hN0.pin _,hN0.only,rfl⟩
  generalize hρ:ρ0.pinned (w.heap.size,none)=ρ at hv hN
  have hb0:ρ.pin.1=w.heap.size:=by rw [←hρ];rfl
  have hlive:ρ.live=ρ0.live:=by rw [←hρ];rfl
  refine callsIn_wide.1 (callsIn_of_wp_marks (F:=FW none) (n:=0) hf hc trivial (wpIn_wide.2 ?_) rfl)
  have hlen:=hv.length
  have hs:SR ρ (iF fn lent args) { tmps:=us.toArray++Array.replicate (fn.ntmps-us.toArray.size) undef,defers:=[] } w:=by
    refine ⟨Nat.le_of_eq hb0,?_,hN.heap⟩
    simp only [iF,Array.toList_append,Array.toList_replicate,List.size_toArray,hlen]
    refine bh.append ?_ hv
    have:∀ n,bh ρ w (List.replicate n (.tup [])) (List.replicate n undef):=by
      intro n
      induction n with
      | zero=>exact .nil
      | succ n ih=>exact .cons _ _ _ _ (.tup [] #[] .nil) ih
    exact this _
  refine wp_mono (h ρ w _ hN hs) ?_
  rintro e a' w' ⟨he,ρ',st',vs,obs,E,W,hbk,S,hr,hob,hkeep⟩
  have fin:LeavesInM (FW none) 0 P fn a'.tmps (fun e w'=>∃ u,e=.returned u∧dx ρ0.live w w'∧r.Holds ρ0 w w' lent.length u) a'.defers .returning w':=by
    refine ot a'.defers S.defers fun w'' Sf hb _=>?_
    have S':SR ρ' st' { a' with defers:=[] } w'':=⟨by show ρ'.pin.1≤_;rw [Sf.size];exact wf S.defers,S.tmps.soft Sf,S.heap.soft Sf⟩
    have W':dx ρ.live w w'':=⟨Sf.os.trans W.os,Sf.tape.trans W.tape,Sf.output.trans W.output,by rw [Sf.size];exact W.size,fun b hlt hnl=>(hb b (by rw [E.pin,hb0];exact hlt)).trans (W.same b hlt hnl),fun b c t z q=>by
      obtain ⟨c',k1,k2⟩:=W.sized b c t z q
      exact ⟨c',Sf.cells k1,k2⟩⟩
    obtain ⟨v,q1,q2⟩:=Gf S' hr hob
    refine ⟨v,q1,v,rfl,by rw [←hlive];exact W',?_⟩
    obtain ⟨ρ2,E2,k2,H2,v2⟩:=Gc S'.heap hN E hbk W'.size q2 hkeep
    have hp2:ρ2.pin.2=none:=by rw [E2.pin];exact hN.pin
    subst hρ
    exact ⟨ρ2.pinned ρ0.pin,⟨E2.at_,E2.ok,E2.live,E2.new,E2.out,rfl⟩,k2,H2.noPin hp2 _,v2.noPin hp2 _⟩
  rcases he with rfl | rfl
  · exact fin
  · exact fin
theorem Gg{C:ki}{S:oz}(hS:ao C.P S){self:mp}(hself:DY C.P self) :wH C.P (fx C S self):=by
  intro f lent args p r obs p' h ho
  unfold fx at h
  split at h
  · rename_i alts hs
    simp only [Option.map_eq_some_iff,Prod.mk.injEq] at h
    obtain ⟨⟨alt,q⟩,h1,rfl,rfl,rfl⟩:=h
    exact hS f lent args alts alt hs (O1 h1) ho
  · split at h
    case h_2=>cases h
    rename_i fn hf
    split at h
    case h_2=>cases h
    rename_i c hc
    split at h
    case h_2=>cases h
    rename_i e st o1 p1 hr
    cases hres:ep C.P fn st fn.results.toList with
    | none=>rw [hres] at h;cases e<;>cases h
    | some x =>
      obtain ⟨vs,o2⟩:=x
      rw [hres] at h
      have key:∀ (he:e=.normal∨e=.ret),(match xe lent.length (C.mode f).keep st.heap (ub vs) with | some r=>some (r,o1++o2,p1) | none=>none)=some (r,obs,p')→ak C.P f lent args r:=by
        intro he h
        split at h
        case h_2=>cases h
        rename_i r' hk
        simp only [Option.some.injEq,Prod.mk.injEq] at h;obtain ⟨rfl,rfl,rfl⟩:=h
        rw [aE] at ho
        refine oB (keep:=(C.mode f).keep) hf hc fun ρ w a hN hs=>?_
        refine hself c _ p e st o1 p1 hr ho.1 ρ a w _ hN.pin hs fun ρ' a' w' P1=>⟨?_,ρ',st,vs,o2,P1.ext,P1.wle,fun i hi q=>?_,P1.sr,hres,ho.2,hk⟩
        · rcases he with rfl | rfl
          · exact .inl rfl
          · exact .inr rfl
        · rcases P1.back i q with q | q
          · exact q
          · simp only [iF] at q;omega
      cases e with
      | normal=>exact key (.inl rfl) h
      | ret=>exact key (.inr rfl) h
      | exit id=>cases h
theorem oC{C:ki}(hC:C.Ok){S:oz}(hS:ao C.P S)(N:Nat) :∀ n,mq C.P (sv C S N n)
  | 0=>fun y c st p e st' obs p' h=>by cases h
  | n+1=>D0 hC (Gg hS (oC hC hS N n).old) (oC hC hS N n)
theorem xk{C:ki}(hC:C.Ok){S:oz}(hS:ao C.P S)(N:Nat)(n:Nat) :DY C.P (cG C S N n):=(oC hC hS N n).old
theorem vA{C:ki}(hC:C.Ok){S:oz}(hS:ao C.P S)(N n:Nat){f:FuncId}{lent:List aq}{args:List AV}{p p':bY}{r:eJ}{obs:List Bool}(h:fx C S (cG C S N n) f lent args p=some (r,obs,p'))(ho:ap obs) :
    ak C.P f lent args r:=Gg hS (xk hC hS N n) f lent args p r obs p' h ho
def wg:List (Nat×vz)→Nat→Option vz
  | [],_=>none
  | (k,e)::l,f=>bif Nat.beq k f then some e else wg l f
def Gh:List (Nat×Qu)→Nat→Qu
  | [],_=>⟨[],false⟩
  | (k,m)::l,f=>bif Nat.beq k f then m else Gh l f
def MC(P:Program)(l:List (Nat×vz))(ms:List (Nat×Qu)) :ki:={ P,ext:=wg l,mode:=Gh ms,wrap:=false }
theorem vb:∀ {l:List (Nat×vz)} {f:Nat} {k:vz},wg l f=some k→(f,k)∈l
  | [],f,k,h=>by cases h
  | (a,e)::l,f,k,h=>by
    simp only [wg] at h
    cases hb:Nat.beq a f with
    | true=>rw [hb] at h;simp only [cond_true,Option.some.injEq] at h;have:=Nat.eq_of_beq_eq_true hb;subst this;subst h;simp
    | false=>rw [hb] at h;simp only [cond_false] at h;exact List.mem_cons_of_mem _ (vb h)
structure Bp (P:Program) (f:Nat) (k:vz):Prop where
  fn : ∃ fn, P.funcs[f]? = some fn ∧ (fn.name == "runtime.NumGoroutine") = false ∧ fn.body.isNone = true ∧ Extern.findNext fn = none ∧ Extern.find fn = some (oo k)
def MD(P : Program) : Bool := P.funcs.toList.all fun fn => !(fn.name == "runtime.NumGoroutine")
theorem QA{P:Program}{l:List (Nat×vz)}{ms:List (Nat×Qu)}(hm:P.follows .mixedOrders=true)(hn:MD P=true)(he:∀ x∈l,Bp P x.1 x.2) :(MC P l ms).Ok:=by
  refine ⟨hm,fun f fn args w hf hb=>?_,fun f k args w hk=>?_⟩
  · have h1 : fn.name ≠ "runtime.NumGoroutine" := by
      have hmem:fn∈P.funcs.toList:=by
        have:fn∈P.funcs:=Array.mem_of_getElem? hf
        simpa using this
      have:=List.all_eq_true.1 hn fn hmem
      simpa using this
    have h2:fn.body≠none:=by intro q;rw [q] at hb;cases hb
    have hf':P.funcs[f]? = some fn:=hf
    have h3:fn.body.isNone=false:=by cases hq:fn.body<;>simp_all
    simp only [MC,callFunc,Sem.run_bind,run_program,Result.andThen_ok,hf',beq_eq_false_iff_ne.2 h1,Bool.false_eq_true,if_false,h3,Sem.run_pure]
  · obtain ⟨fn,h1,h2,h3,h4,h5⟩:=(he _ (vb hk)).fn
    have:=run_callFunc_extern (P:=P) h1 h2 h3 h4 h5 args w
    simp only [MC]
    rw [this,Sem.run_bind]
    rfl
def At(k:Nat)(ρ0:af)(w0:World)(st:aF)(a:Act)(w:World) :Prop:=∃ ρ,eI ρ0 ρ w0∧dx ρ0.live w0 w∧SR ρ st a w∧(∀ i,i<k→ρ.ok i→ρ0.ok i)∧k≤st.next
def QB(lent:List aq)(st st':aF) :Prop:=∀ ρ0 w0 a w,dF ρ0 w0 lent→At lent.length ρ0 w0 st a w→At lent.length ρ0 w0 st' a w
theorem QB.refl(lent:List aq)(st:aF) :QB lent st st:=fun _ _ _ _ _ h=>h
theorem QB.trans{lent:List aq}{a b c:aF}(h:QB lent a b)(k:QB lent b c) :QB lent a c:=fun _ _ _ _ hN q=>k _ _ _ _ hN (h _ _ _ _ hN q)
def Gi:AV→AV
  | .flt _ x=>.flt false x
  | .bool _ b=>.bool false b
  | v=>v
def Vf(σ:Nat→Option Nat) :aq→aq
  | .vs l=>.vs ((P6 σ l).map Gi)
  | d=>d
def rc(σ:Nat→Option Nat)(h:aM) :Nat→List Nat→aM
  | _,[]=>[]
  | i,b::l=>match aB h b with
    | some d=>(i,Vf σ d)::rc σ h (i+1) l
    | none=>rc σ h (i+1) l
def VN(b:Bool)(v u:AV) :AV :=
  match b with
  | true=>v
  | false=>u
def UM:List (Nat×AV)→Nat→AV
  | [],_=>.any
  | (k,v)::l,t=>VN (Nat.beq k t) v (UM l t)
def Bq(L:List (Nat×AV)) :Nat→Nat→List AV
  | _,0=>[]
  | t,n+1=>UM L t::Bq L (t+1) n
def aw(n:Nat)(L:List (Nat×AV)) :List AV:=Bq L 0 n
def V7(σ:Nat→Option Nat)(ks:List Nat) :Nat→List AV→List AV
  | _,[]=>[]
  | t,v::l=>(bif iZ ks t then Gi (T4 σ v) else .any)::V7 σ ks (t+1) l
def norm(keep ks:List Nat)(st:aF) :aF :=
  ⟨V7 (eU keep 0) ks 0 st.tmps,rc (eU keep 0) st.heap 0 keep,keep.length⟩
theorem Gj{ρ:af}{w:World}{v:AV}{u:Value}(h:VR ρ w v u) :VR ρ w (Gi v) u:=by
  cases h<;>simp only [Gi]<;>first | exact .bool _ _ | (rename_i hf;refine .flt _ _ _ ?_;rcases hf with rfl | ⟨_,h2,h3⟩;exact .inl rfl;exact .inr ⟨rfl,h2,h3⟩) | skip
  case int=>exact .int _ _
  case str=>exact .str _
  case nptr=>exact .nptr
  case ptr hb=>exact .ptr _ _ _ _ hb
  case iptr=>rename_i bw d k i j bl o u' ha hb hr hg hc hv hk;exact .iptr bw d k i j bl o _ (by assumption) (by assumption) (by assumption) (by assumption) (by assumption) (by assumption) (by assumption)
  case nsl=>exact .nsl
  case esl=>exact .esl _
  case zsl=>exact .zsl _ _
  case nan=>exact .nan _ (by assumption)
  case sl=>exact .sl _ _ _ _ _ _ _ (by assumption) (by assumption) (by assumption) _ _ (by assumption) (by assumption)
  case slEnd=>exact .slEnd _ _ _ _ _
  case imm=>exact .imm _ _ _ _ _ _ _ _ _ _ (by assumption) (by assumption) (by assumption) (by assumption) (by assumption) (by assumption) (by assumption) (by assumption)
  case immEnd=>exact .immEnd _ _ _ _ _ _ _ (by assumption) (by assumption) (by assumption)
  case fn=>exact .fn _ _ _ _ _ (by assumption) (by assumption)
  case nfn=>exact .nfn
  case gmap=>exact .gmap _ _ _ _ _ _ (by assumption) (by assumption) (by assumption) (by assumption) (by assumption) (by assumption) (by assumption) (by assumption)
  case gvar=>exact .gvar _ _ _ _ (by assumption) (by assumption) (by assumption)
  case agg=>exact .agg _ _ (by assumption)
  case tup=>exact .tup _ _ (by assumption)
  case iface=>exact .iface _ _ _ (by assumption)
  case niface=>exact .niface
  case yld=>exact .yld _ _ (by assumption)
  case any=>exact .any _
theorem QC{ρ:af}{keep ks:List Nat}{w:World} :∀ (l:List AV) (t:Nat) {c:List Value},bh ρ w l c→bh (ρ.renamed keep) w (V7 (eU keep 0) ks t l) c
  | [],t,c,h=>by cases h;exact .nil
  | v::l,t,c,h=>by
    cases h with | cons _ u _ c' h1 h2 =>
    simp only [V7]
    refine .cons _ _ _ _ ?_ (QC l (t+1) h2)
    cases iZ ks t with
    | true=>exact Gj (Bn v h1)
    | false=>exact .any u
theorem mr{σ:Nat→Option Nat}{h:aM} :∀ {l:List Nat} {i c:Nat} {d:aq},aB (rc σ h i l) c=some d→i≤c∧∃ b e,l[c-i]? = some b∧aB h b=some e∧d=Vf σ e
  | [],i,c,d,q=>by cases q
  | b::l,i,c,d,q=>by
    simp only [rc] at q
    have next:aB (rc σ h (i+1) l) c=some d→i≤c∧∃ b' e,(b::l)[c-i]? = some b'∧aB h b'=some e∧d=Vf σ e:=by
      intro q
      obtain ⟨h1,b',e,h2,h3,h4⟩:=mr q
      refine ⟨by omega,b',e,?_,h3,h4⟩
      have:c-i=(c-(i+1))+1:=by omega
      rw [this];simpa using h2
    split at q
    · rename_i e he
      simp only [cq,bP] at q
      cases hc:Nat.beq i c with
      | true =>
        rw [hc] at q;simp only [cond_true,Option.some.injEq] at q
        have:=Nat.eq_of_beq_eq_true hc;subst this
        exact ⟨Nat.le_refl _,b,e,by simp,he,q.symm⟩
      | false=>rw [hc] at q;exact next q
    · exact next q
theorem QD{σ:Nat→Option Nat}{d:aq}(h:d.recKept) :(Vf σ d).recKept:=by
  cases d<;>first | exact h | trivial
theorem Gk{σ:Nat→Option Nat}{d:aq}{x:Nat}{v:AV}(h:(Vf σ d).cell? x=some v)(hr:d.recKept) :∃ v',d.cell? x=some v'∧(v=Gi (T4 σ v')∨(v=v'∧v.foreign=true)):=by
  cases d with
  | vs l =>
    simp only [Vf,aq.cell?,List.getElem?_map,DX,Option.map_map,Option.map_eq_some_iff,Function.comp] at h
    obtain ⟨v',h1,rfl⟩:=h
    exact ⟨v',h1,.inl rfl⟩
  | fl xs=>exact ⟨v,h,.inr ⟨rfl,ay (d:=.fl xs) hr rfl x v h⟩⟩
  | ns k xs=>exact ⟨v,h,.inr ⟨rfl,ay (d:=.ns k xs) hr rfl x v h⟩⟩
  | bs xs=>exact ⟨v,h,.inr ⟨rfl,ay (d:=.bs xs) hr rfl x v h⟩⟩
  | ss xs=>exact ⟨v,h,.inr ⟨rfl,ay (d:=.ss xs) hr rfl x v h⟩⟩
  | rows k m get=>exact ⟨v,h,.inr ⟨rfl,ay (d:=.rows k m get) hr rfl x v h⟩⟩
  | cols m cs=>exact ⟨v,h,.inr ⟨rfl,ay (d:=.cols m cs) hr rfl x v h⟩⟩
def D1:Nat→Nat→List Nat→Bool
  | 0,_,_=>true
  | _+1,_,[]=>false
  | k+1,i,b::l=>Nat.beq b i&&D1 k (i+1) l
theorem xl:∀ {k i:Nat} {l:List Nat},D1 k i l=true→∀ j,j<k→l[j]? = some (i+j)
  | 0,i,l,_,j,hj=>by omega
  | k+1,i,[],h,j,hj=>by cases h
  | k+1,i,b::l,h,j,hj=>by
    simp only [D1,Bool.and_eq_true] at h
    cases j with
    | zero=>simp;exact Nat.eq_of_beq_eq_true h.1
    | succ j=>simp only [List.getElem?_cons_succ];rw [xl h.2 j (by omega)];congr 1;omega
def Kc(k:Nat)(keep:List Nat) :Bool:=kV keep&&D1 k 0 keep
theorem xm{ρ:af}{keep:List Nat}{i b:Nat}(q:keep[i]? = some b) :(ρ.renamed keep).at_ i=ρ.at_ b:=by simp [af.renamed,q]
theorem Un{keep:List Nat}(hn:kV keep=true){ρ:af}{w:World}{h:aM}{n:Nat}(hh:HR ρ w h n) :HR (ρ.renamed keep) w (rc (eU keep 0) h 0 keep) keep.length:=by
  have atL:∀ {i b:Nat},keep[i]? = some b→(ρ.renamed keep).at_ i=ρ.at_ b:=fun q=>xm q
  refine ⟨fun c d q=>?_,fun c c' d d' q q' ok1 ok2 he=>?_,hh.fresh,hh.liveLt,hh.outLt,fun c q=>?_,fun x hx=>ct (hh.rom x hx) (dh (Rom.kept x hx))⟩
  · obtain ⟨_,b,e,h1,h2,rfl⟩:=mr q
    rw [Nat.sub_zero] at h1
    rcases hh.cell b e h2 with ⟨k1,k2,hr,ce,t,r1,r2⟩ | ⟨k1,k2,k3,k4⟩
    · refine .inl ⟨⟨b,h1,k1⟩,by rw [atL h1];exact k2,QD hr,ce,t,by rw [atL h1];exact r1,fun x v hx=>?_⟩
      obtain ⟨v',s1,s2⟩:=Gk hx hr
      obtain ⟨u,t1,t2⟩:=r2 x v' s1
      refine ⟨u,t1,?_⟩
      rcases s2 with rfl | ⟨rfl,hf⟩
      · exact Gj (Bn v' t2)
      · exact ct t2 hf
    · refine .inr ⟨?_,(List.getElem?_eq_some_iff.1 h1).1,QD k3,fun x=>?_⟩
      · rintro ⟨b',q1,q2⟩
        rw [h1] at q1;cases q1
        exact k1 q2
      · cases hc:(Vf (eU keep 0) e).cell? x with
        | none=>rfl
        | some v=>obtain ⟨v',s1,_⟩:=Gk hc k3;rw [k4 x] at s1;cases s1
  · obtain ⟨_,b,e,h1,h2,rfl⟩:=mr q
    obtain ⟨_,b',e',h1',h2',rfl⟩:=mr q'
    rw [Nat.sub_zero] at h1 h1'
    obtain ⟨x,x1,x2⟩:=ok1
    obtain ⟨y,y1,y2⟩:=ok2
    rw [h1] at x1;cases x1
    rw [h1'] at y1;cases y1
    rw [atL h1,atL h1'] at he
    have:=hh.inj b b' e e' h2 h2' x2 y2 he
    subst this
    exact mi hn h1 h1'
  · obtain ⟨b,h1,_⟩:=q
    exact (List.getElem?_eq_some_iff.1 h1).1
theorem QE{lent:List aq}{keep ks:List Nat}(hk:Kc lent.length keep=true)(st:aF) :QB lent st (norm keep ks st):=by
  unfold Kc at hk
  rw [Bool.and_eq_true] at hk
  obtain ⟨hn,hid⟩:=hk
  have idL:∀ {i:Nat},i<lent.length→keep[i]? = some i:=fun q=>by have:=xl hid _ q;simpa using this
  rintro ρ0 w0 a w hN ⟨ρ,E,W,S,hbk,hle⟩
  refine ⟨ρ.renamed keep,⟨fun b q=>?_,fun b q=>⟨b,idL (hN.heap.lt b q),E.ok b q⟩,E.live,E.new,E.out,E.pin⟩,W,⟨S.defers.renamed,QC _ _ S.tmps,Un hn S.heap⟩,fun i hi q=>?_,?_⟩
  · rw [xm (idL (hN.heap.lt b q))];exact E.at_ b q
  · obtain ⟨b,q1,q2⟩:=q
    rw [idL hi] at q1;cases q1
    exact hbk i hi q2
  · simp only [norm]
    rcases Nat.lt_or_ge keep.length lent.length with q | q
    · have:=idL q
      rw [List.getElem?_eq_none (Nat.le_refl _)] at this;cases this
    · exact q
inductive GP where
  | slot (t:Nat)
  | part (t i:Nat)
  | cell (b i:Nat)
def dd.empty:dd→Bool
  | .cf [] | .ci _ [] | .cb [] | .cs [] | .cfl [] | .cns _ []=>true
  | _=>false
def sy:List dd→Bool
  | []=>true
  | c::l=>c.empty&&sy l
def aq.isVoid:aq→Bool
  | .fl [] | .ns _ [] | .bs [] | .ss [] | .vs []=>true
  | .cols 0 cs=>sy cs
  | _=>false
theorem xn{c:dd}(h:c.empty=true) :c.len=0:=by
  unfold dd.empty at h
  split at h<;>first | rfl | cases h
theorem lc:∀ {l:List dd},sy l=true→∀ c∈l,c.len=0
  | [],_,c,hc=>by cases hc
  | c::l,h,x,hx=>by
    simp only [sy,Bool.and_eq_true] at h
    rcases List.mem_cons.1 hx with rfl | q
    · exact xn h.1
    · exact lc h.2 x q
theorem oD{d:aq}(h:d.isVoid=true) :d.recKept∧d.void:=by
  unfold aq.isVoid at h
  split at h
  case h_6 =>
    rename_i cs
    have:=lc h
    refine ⟨this,fun x=>?_⟩
    cases hc:(aq.cols 0 cs).cell? x with
    | none=>rfl
    | some v =>
      obtain ⟨c,_,h2,h3⟩:=dq hc
      have:=oa h3
      rw [lc h c h2] at this;exact absurd this (Nat.not_lt_zero _)
  case h_7=>cases h
  all_goals exact ⟨trivial,fun x=>by simp [aq.cell?]⟩
theorem xo(b w es:Nat) :aH .nsl (.sl b w es 0 0 0):=by
  intro ρ w' u h;cases h;exact .slEnd _ _ _ _ _
theorem HR.weaken{ρ:af}{w:World}{h:aM}{n b:Nat}{d d':aq}(hh:HR ρ w h n)(hg:aB h b=some d)(hr:d'.recKept)(hw:∀ x v',d'.cell? x=some v'→∃ v,d.cell? x=some v∧aH v v') :HR ρ w (cH h b d') n:=by
  have look:∀ x e,aB (cH h b d') x=some e→(x=b∧e=d')∨(x≠b∧aB h x=some e):=by
    intro x e hx
    rw [be] at hx
    by_cases q:b=x
    · rw [if_pos q] at hx;cases hx;exact .inl ⟨q.symm,rfl⟩
    · rw [if_neg q] at hx;exact .inr ⟨fun e=>q e.symm,hx⟩
  have had:∀ x e,aB (cH h b d') x=some e→∃ e',aB h x=some e':=by
    intro x e hx
    rcases look x e hx with ⟨rfl,_⟩ | ⟨_,q⟩
    · exact ⟨d,hg⟩
    · exact ⟨e,q⟩
  refine ⟨fun x e hx=>?_,fun x y e f h1 h2 ok1 ok2 he=>?_,hh.fresh,hh.liveLt,hh.outLt,hh.lt,hh.rom⟩
  · rcases look x e hx with ⟨rfl,rfl⟩ | ⟨_,q⟩
    · rcases hh.cell x d hg with ⟨k1,k2,_,c,t,r1,r2⟩ | ⟨k1,k2,_,k4⟩
      · refine .inl ⟨k1,k2,hr,c,t,r1,fun y v' hy=>?_⟩
        obtain ⟨v,q1,q2⟩:=hw y v' hy
        obtain ⟨u,t1,t2⟩:=r2 y v q1
        exact ⟨u,t1,q2 _ _ _ t2⟩
      · refine .inr ⟨k1,k2,hr,fun y=>?_⟩
        cases hc:e.cell? y with
        | none=>rfl
        | some v'=>obtain ⟨v,q1,_⟩:=hw y v' hc;rw [k4 y] at q1;cases q1
    · exact hh.cell x e q
  · obtain ⟨e',q1⟩:=had x e h1
    obtain ⟨f',q2⟩:=had y f h2
    exact hh.inj x y e' f' q1 q2 ok1 ok2 he
def Kd(st:aF)(pos:GP)(w es:Nat)(d:aq) :aF :=
  match pos with
  | .slot t =>
    match st.tmps[t]? with
    | some .nsl=>⟨st.tmps.set t (.sl st.next w es 0 0 0),cH st.heap st.next d,st.next+1⟩
    | some .esl=>⟨st.tmps.set t (.sl st.next w es 0 0 0),cH st.heap st.next d,st.next+1⟩
    | _=>st
  | .part t i =>
    match st.tmps[t]? with
    | some (.agg l) =>
      match l[i]? with
      | some .nsl=>⟨st.tmps.set t (.agg (l.set i (.sl st.next w es 0 0 0))),cH st.heap st.next d,st.next+1⟩
      | _=>st
    | _=>st
  | .cell b i =>
    match aB st.heap b with
    | some (.vs l) =>
      match l[i]? with
      | some .nsl=>⟨st.tmps,cH (cH st.heap b (.vs (l.set i (.sl st.next w es 0 0 0)))) st.next d,st.next+1⟩
      | _=>st
    | _=>st
theorem QF(b w es:Nat) :aH .esl (.sl b w es 0 0 0):=by
  intro ρ w' u h;cases h;exact .slEnd _ _ _ _ _
theorem ku{ρ:af}{w:World} :∀ {l:List AV} {c:List Value} {i:Nat} {v v':AV},bh ρ w l c→l[i]? = some v→aH v v'→bh ρ w (l.set i v') c
  | _,_,i,v,v',.nil,h,_=>by simp at h
  | _,_,0,v,v',.cons a u l c h t,hi,hw=>by simp at hi;subst hi;exact .cons _ _ _ _ (hw _ _ _ h) t
  | _,_,i+1,v,v',.cons a u l c h t,hi,hw=>.cons _ _ _ _ h (ku t (by simpa using hi) hw)
structure vB (st st':aF):Prop where
  sr:∀ (ρ:af) (a:Act) (w:World),SR ρ st a w→SR ρ st' a w
  le:st.next≤st'.next
  mark:∀ b,b<st.next→(jo (aB st.heap b)).isSome=true→aB st'.heap b=aB st.heap b
theorem vB.refl(st:aF) :vB st st:=⟨fun _ _ _ h=>h,Nat.le_refl _,fun _ _ _=>rfl⟩
theorem vB.trans{a b c:aF}(h:vB a b)(k:vB b c) :vB a c:=⟨fun ρ x w q=>k.sr ρ x w (h.sr ρ x w q),Nat.le_trans h.le k.le,fun x hx hs=>by
  have:=h.mark x hx hs
  exact (k.mark x (Nat.lt_of_lt_of_le hx h.le) (by rw [this];exact hs)).trans this⟩
theorem vB.sub{lent:List aq}{st st':aF}(h:vB st st') :QB lent st st':=by
  rintro ρ0 w0 a w' hN ⟨ρ,E,W,S,hbk,hle⟩
  exact ⟨ρ,E,W,h.sr _ _ _ S,hbk,Nat.le_trans hle h.le⟩
theorem Br{h:aM}{b c i:Nat}{l:List AV}{v:AV}{d:aq}(hg:aB h b=some (.vs l))(hi:l[i]? = some v)(hs:(jo (aB h c)).isSome=true) :aB (cH h b d) c=aB h c:=by
  rw [be]
  by_cases e:b=c
  · subst e
    rw [hg] at hs
    cases l with
    | nil=>simp at hi
    | cons x l=>simp [jo] at hs
  · rw [if_neg e]
theorem Ke{st:aF}{pos:GP}{w es:Nat}{d:aq}(hd:d.isVoid=true) :vB st (Kd st pos w es d):=by
  obtain ⟨d1,d2⟩:=oD hd
  have hset1:∀ {h:aM} {b:Nat},b<st.next→aB (cH h st.next d) b=aB h b:=fun hb=>by rw [be,if_neg (by omega)]
  have hno:∀ {ρ:af} {a:Act} {w':World},SR ρ st a w'→¬ ρ.ok st.next:=fun S q=>Nat.lt_irrefl _ (S.heap.lt _ q)
  have h1:∀ {ρ:af} {a:Act} {w':World},SR ρ st a w'→HR ρ w' (cH st.heap st.next d) (st.next+1):=fun S=>(S.heap.le (Nat.le_succ _)).ghost (hno S) (Nat.lt_succ_self _) d1 d2
  unfold Kd
  split
  · split
    · rename_i t h
      exact ⟨fun ρ a w' S=>⟨S.defers,ku S.tmps h (xo _ _ _),h1 S⟩,Nat.le_succ _,fun b hb _=>hset1 hb⟩
    · rename_i t h
      exact ⟨fun ρ a w' S=>⟨S.defers,ku S.tmps h (QF _ _ _),h1 S⟩,Nat.le_succ _,fun b hb _=>hset1 hb⟩
    · exact vB.refl _
  · split
    · rename_i t i l h
      split
      · rename_i h2
        refine ⟨fun ρ a w' S=>⟨S.defers,ku S.tmps h ?_,h1 S⟩,Nat.le_succ _,fun b hb _=>hset1 hb⟩
        intro ρ w u hu
        cases hu with | agg _ c hc=>exact .agg _ _ (ku hc h2 (xo _ _ _))
      · exact vB.refl _
    · exact vB.refl _
  · split
    · rename_i b i _ l h
      split
      · rename_i h2
        refine ⟨fun ρ a w' S=>?_,Nat.le_succ _,fun c hc hs=>by rw [hset1 hc];exact Br h h2 hs⟩
        have hw:HR ρ w' (cH st.heap b (.vs (l.set i (.sl st.next w es 0 0 0)))) st.next:=by
          refine S.heap.weaken h trivial fun x v' hx=>?_
          simp only [aq.cell?,List.getElem?_set] at hx ⊢
          by_cases hi:i=x
          · subst hi
            rw [if_pos rfl] at hx
            split at hx
            · cases hx;exact ⟨_,h2,xo _ _ _⟩
            · cases hx
          · rw [if_neg hi] at hx;exact ⟨v',hx,aH.refl _⟩
        exact ⟨S.defers,S.tmps,(hw.le (Nat.le_succ _)).ghost (hno S) (Nat.lt_succ_self _) d1 d2⟩
      · exact vB.refl _
    · exact vB.refl _
def xp(f:AV→Option AV)(st:aF)(pos:GP) :aF :=
  match pos with
  | .slot t =>
    match st.tmps[t]? with
    | some v=>match f v with
      | some v'=>⟨st.tmps.set t v',st.heap,st.next⟩
      | none=>st
    | none=>st
  | .part t i =>
    match st.tmps[t]? with
    | some (.agg l) =>
      match l[i]? with
      | some v=>match f v with
        | some v'=>⟨st.tmps.set t (.agg (l.set i v')),st.heap,st.next⟩
        | none=>st
      | none=>st
    | _=>st
  | .cell b i =>
    match aB st.heap b with
    | some (.vs l) =>
      match l[i]? with
      | some v=>match f v with
        | some v'=>⟨st.tmps,cH st.heap b (.vs (l.set i v')),st.next⟩
        | none=>st
      | none=>st
    | _=>st
theorem re{st:aF}{pos:GP}{f:AV→Option AV}(hf:∀ v v',f v=some v'→aH v v') :vB st (xp f st pos):=by
  unfold xp
  split
  · split
    · rename_i t v h
      split
      · rename_i v' hv
        exact ⟨fun ρ a w' S=>⟨S.defers,ku S.tmps h (hf _ _ hv),S.heap⟩,Nat.le_refl _,fun _ _ _=>rfl⟩
      · exact vB.refl _
    · exact vB.refl _
  · split
    · rename_i t i l h
      split
      · rename_i v h2
        split
        · rename_i v' hv
          refine ⟨fun ρ a w' S=>⟨S.defers,ku S.tmps h ?_,S.heap⟩,Nat.le_refl _,fun _ _ _=>rfl⟩
          intro ρ w u hu
          cases hu with | agg _ c hc=>exact .agg _ _ (ku hc h2 (hf _ _ hv))
        · exact vB.refl _
      · exact vB.refl _
    · exact vB.refl _
  · split
    · rename_i b i _ l h
      split
      · rename_i v h2
        split
        · rename_i v' hv
          refine ⟨fun ρ a w' S=>?_,Nat.le_refl _,fun c hc hs=>Br h h2 hs⟩
          have hw:HR ρ w' (cH st.heap b (.vs (l.set i v'))) st.next:=by
            refine S.heap.weaken h trivial fun x u hx=>?_
            simp only [aq.cell?,List.getElem?_set] at hx ⊢
            by_cases hi:i=x
            · subst hi
              rw [if_pos rfl] at hx
              split at hx
              · cases hx;exact ⟨_,h2,hf _ _ hv⟩
              · cases hx
            · rw [if_neg hi] at hx;exact ⟨u,hx,aH.refl _⟩
          exact ⟨S.defers,S.tmps,hw⟩
        · exact vB.refl _
      · exact vB.refl _
    · exact vB.refl _
theorem kv{d:aq}(h:d.isVoid=true) :d.kept=true∧d.foreign=true:=by
  unfold aq.isVoid at h
  split at h<;>first | exact ⟨rfl,rfl⟩ | cases h
theorem O4{d:aq}(w es:Nat)(hd:d.isVoid=true) :aH .nsl (.imm .free d w es 0 0):=by
  intro ρ w' u h;cases h;exact .immEnd _ _ _ _ _ _ _ (oD hd).1 (fun _=>(kv hd).1) (kv hd).2
theorem O5{d:aq}(w es:Nat)(hd:d.isVoid=true) :aH .esl (.imm .free d w es 0 0):=by
  intro ρ w' u h;cases h;exact .immEnd _ _ _ _ _ _ _ (oD hd).1 (fun _=>(kv hd).1) (kv hd).2
def Kf(w es:Nat)(d:aq) :AV→Option AV
  | .nsl | .esl=>some (.imm .free d w es 0 0)
  | _=>none
theorem Gl{w es:Nat}{d:aq}(hd:d.isVoid=true) :∀ v v',Kf w es d v=some v'→aH v v':=by
  intro v v' h
  unfold Kf at h
  split at h
  · cases h;exact O4 _ _ hd
  · cases h;exact O5 _ _ hd
  · cases h
theorem ME{l:Lv}{ρ:af}{bl:Nat}(ha:ρ.avoid .free bl) :ρ.avoid l bl:=eC (fun j=>ha j (Nat.zero_le _)) _ _
def Vg(l:Lv) :AV→Option AV
  | .imm .free d w es i n=>some (.imm l d w es i n)
  | .iptr .free d w i j=>some (.iptr l d w i j)
  | _=>none
theorem O6{l:Lv} :∀ v v',Vg l v=some v'→aH v v':=by
  intro v v' h
  unfold Vg at h
  split at h
  · cases h
    intro ρ w' u hu
    cases hu with
    | imm _ _ _ _ _ _ cap bl o u ha hb hc hv hn hr hk hg=>exact .imm _ _ _ _ _ _ cap bl o u (ME ha) hb hc hv hn hr (fun _=>hk rfl) hg
    | immEnd _ _ _ _ _ cap a hr hk hg=>exact .immEnd _ _ _ _ _ cap a hr (fun _=>hk rfl) hg
  · cases h
    intro ρ w' u hu
    cases hu with
    | iptr _ _ _ _ _ bl o u ha hb hc hv hr hk hg=>exact .iptr _ _ _ _ _ bl o u (ME ha) hb hc hv hr (fun _=>hk rfl) hg
  · cases h
def QG:AV→Option AV
  | .imm _ d w es i n=>some (.imm .lent d w es i n)
  | .iptr _ d w i j=>some (.iptr .lent d w i j)
  | _=>none
theorem Kg:∀ v v',QG v=some v'→aH v v':=by
  intro v v' h
  unfold QG at h
  split at h
  · cases h
    intro ρ w' u hu
    cases hu with
    | imm _ _ _ _ _ _ cap bl o u ha hb hc hv hn hr hk hg=>exact .imm _ _ _ _ _ _ cap bl o u (qL (O:=ρ.own) ha) hb hc hv hn hr (fun q=>by cases q) hg
    | immEnd _ _ _ _ _ cap a hr hk hg=>exact .immEnd _ _ _ _ _ cap a hr (fun q=>by cases q) hg
  · cases h
    intro ρ w' u hu
    cases hu with
    | iptr _ _ _ _ _ bl o u ha hb hc hv hr hk hg=>exact .iptr _ _ _ _ _ bl o u (qL (O:=ρ.own) ha) hb hc hv hr (fun q=>by cases q) hg
  · cases h
inductive GK where
  | own (w es:Nat) (d:aq)
  | fre (w es:Nat) (d:aq)
  | lev (l:Lv)
  | low
abbrev GL:=List (GP×GK)
def rf:GL→aF→aF
  | [],st=>st
  | (p,.fre w es d)::l,st=>rf l (xp (Kf w es d) st p)
  | (p,.own w es d)::l,st=>rf l (Kd st p w es d)
  | (p,.lev v)::l,st=>rf l (xp (Vg v) st p)
  | (p,.low)::l,st=>rf l (xp QG st p)
def eW:GL→Bool
  | []=>true
  | (_,.own _ _ d)::l=>d.isVoid&&eW l
  | (_,.fre _ _ d)::l=>d.isVoid&&eW l
  | (_,.lev _)::l=>eW l
  | (_,.low)::l=>eW l
theorem jV:∀ {l:GL} {st:aF},eW l=true→vB st (rf l st)
  | [],st,_=>vB.refl _
  | (p,.fre w es d)::l,st,h=>by
    simp only [eW,Bool.and_eq_true] at h
    exact (re (Gl h.1)).trans (jV h.2)
  | (p,.own w es d)::l,st,h=>by
    simp only [eW,Bool.and_eq_true] at h
    exact (Ke h.1).trans (jV h.2)
  | (p,.lev v)::l,st,h=>(re O6).trans (jV (l:=l) (by simpa [eW] using h))
  | (p,.low)::l,st,h=>(re Kg).trans (jV (l:=l) (by simpa [eW] using h))
theorem Kh{lent:List aq}{l:GL}{st:aF}(h:eW l=true) :QB lent st (rf l st):=(jV h).sub
structure NS where
  gs:GL
  keep:List Nat
  ks:List Nat
def NS.ok(k:Nat)(s:NS) :Bool:=eW s.gs&&Kc k s.keep
def NS.on(s:NS)(st:aF) :aF:=norm s.keep s.ks (rf s.gs st)
theorem QH{lent:List aq}{s:NS}(h:s.ok lent.length=true)(st:aF) :QB lent st (s.on st):=by
  unfold NS.ok at h
  rw [Bool.and_eq_true] at h
  exact (Kh h.1).trans (QE h.2 _)
def dN:Code→List Code
  | .seq a b=>dN a++dN b
  | .skip=>[]
  | .label _=>[]
  | c=>[c]
def zp(P:Program) :List Code→(Exit→Act→World→Prop)→Act→World→Prop
  | [],K,a,w=>K .normal a w
  | c::l,K,a,w=>c.wp P (fun e a' w'=>match e with | .normal=>zp P l K a' w' | e=>K e a' w') a w
theorem rg{P:Program}{K:Exit→Act→World→Prop} :∀ (l l':List Code) (a:Act) (w:World),zp P l (fun e a' w'=>match e with | .normal=>zp P l' K a' w' | e=>K e a' w') a w→zp P (l++l') K a w
  | [],l',a,w,h=>h
  | c::l,l',a,w,h=>by
    simp only [List.cons_append,zp] at h ⊢
    refine wp_mono h ?_
    intro e a' w' q
    cases e<;>first | exact rg l l' a' w' q | exact q
theorem ld{P:Program}{c:Code}{K:Exit→Act→World→Prop}{a:Act}{w:World}(h:zp P [c] K a w) :c.wp P K a w:=by
  simp only [zp] at h
  refine wp_mono h ?_
  intro e a' w' q
  cases e<;>exact q
theorem mt{P:Program} :∀ (c:Code) {K:Exit→Act→World→Prop} {a:Act} {w:World},zp P (dN c) K a w→c.wp P K a w
  | .seq x y,K,a,w,h=>by
    simp only [dN] at h
    refine wp_seq (mt x ?_)
    have app:∀ (l l':List Code) (a:Act) (w:World),zp P (l++l') K a w→zp P l (fun e a' w'=>match e with | .normal=>zp P l' K a' w' | e=>K e a' w') a w:=by
      intro l
      induction l with
      | nil=>intro l' a w h;exact h
      | cons c l ih =>
        intro l' a w h
        simp only [List.cons_append,zp] at h ⊢
        refine wp_mono h ?_
        intro e a' w' q
        cases e<;>first | exact ih l' a' w' q | exact q
    have:=app _ _ _ _ h
    have mono:∀ (l:List Code) (K K':Exit→Act→World→Prop) (a:Act) (w:World),(∀ e a w,K e a w→K' e a w)→zp P l K a w→zp P l K' a w:=by
      intro l
      induction l with
      | nil=>intro K K' a w hK h;exact hK _ _ _ h
      | cons c l ih =>
        intro K K' a w hK h
        simp only [zp] at h ⊢
        refine wp_mono h ?_
        intro e a' w' q
        cases e<;>first | exact ih K K' a' w' hK q | exact hK _ _ _ q
    refine mono _ _ _ _ _ ?_ this
    intro e a' w' q
    cases e<;>first | exact mt y q | exact q
  | .skip,K,a,w,h=>wp_skip h
  | .label _,K,a,w,h=>wp_label h
  | .region ..,K,a,w,h=>ld h
  | .cond ..,K,a,w,h=>ld h
  | .block ..,K,a,w,h=>ld h
  | .loop ..,K,a,w,h=>ld h
  | .exit ..,K,a,w,h=>ld h
  | .ret,K,a,w,h=>ld h
  | .scope ..,K,a,w,h=>ld h
  | .goto ..,K,a,w,h=>ld h
  | .rangeFunc ..,K,a,w,h=>ld h
  | .refuse ..,K,a,w,h=>ld h
def dB(P:Program)(lent:List aq)(cs:List Code)(st:aF)(Q:AE→aF→Prop) :Prop :=
  ∀ (ρ0:af) (w0:World),dF ρ0 w0 lent→∀ (K:Exit→Act→World→Prop),(∀ e st' a' w',Q e st'→At lent.length ρ0 w0 st' a' w'→K e.real a' w')→∀ a w,At lent.length ρ0 w0 st a w→zp P cs K a w
def O7(self:mp) :List Code→aF→bY→Uk
  | [],st,p=>some (.normal,st,[],p)
  | c::l,st,p =>
    match self c st p with
    | some (.normal,st1,o1,p1) =>
      match O7 self l st1 p1 with
      | some (e,qK,o2,p2)=>some (e,qK,o1++o2,p2)
      | none=>none
    | r=>r
theorem MF{P:Program}{self:mp}(hself:DY P self) :∀ (cs:List Code) {st st':aF} {p p':bY} {e:AE} {obs:List Bool},O7 self cs st p=some (e,st',obs,p')→ap obs→∀ {ρ:af} {a:Act} {w:World} {Q:Exit→Act→World→Prop},ρ.pin.2=none→SR ρ st a w →
    (∀ ρ' a' w',wN ρ w st.next st' ρ' a' w'→Q e.real a' w')→zp P cs Q a w
  | [],st,st',p,p',e,obs,h,ho,ρ,a,w,Q,hpn,hs,hQ=>by
    simp only [O7,Option.some.injEq,Prod.mk.injEq] at h;obtain ⟨rfl,rfl,rfl,rfl⟩:=h
    exact hQ ρ a w (wN.refl hs)
  | c::l,st,st',p,p',e,obs,h,ho,ρ,a,w,Q,hpn,hs,hQ=>by
    simp only [O7] at h
    split at h
    · rename_i st1 o1 p1 h1
      split at h
      case h_2=>cases h
      rename_i e2 qK o2 p2 h2
      simp only [Option.some.injEq,Prod.mk.injEq] at h;obtain ⟨rfl,rfl,rfl,rfl⟩:=h
      rw [aE] at ho
      refine hself c st p _ _ _ _ h1 ho.1 ρ a w _ hpn hs fun ρ1 a1 w1 P1=>?_
      exact MF hself l h2 ho.2 (by rw [P1.ext.pin];exact hpn) P1.sr fun ρ2 a2 w2 P2=>hQ ρ2 a2 w2 (P1.trans P2)
    · rename_i hne
      refine hself c st p _ _ _ _ h ho ρ a w _ hpn hs fun ρ1 a1 w1 P1=>?_
      have:=hQ ρ1 a1 w1 P1
      cases e with
      | normal=>exact (hne _ _ _ h).elim
      | ret=>exact this
      | exit id=>exact this
theorem At.post{lent:List aq}{ρ0 ρ ρ':af}{w0 w w':World}{st st':aF}{a a':Act}(E:eI ρ0 ρ w0)(W:dx ρ0.live w0 w)(hbk:∀ i,i<lent.length→ρ.ok i→ρ0.ok i)(hle:lent.length≤st.next)(h:wN ρ w st.next st' ρ' a' w') :At lent.length ρ0 w0 st' a' w' :=
  ⟨ρ',E.trans h.ext W.size,W.trans h.wle (fun x hx q=>E.new x hx q),h.sr,fun i hi q=>(h.back i q).elim (hbk i hi) (fun r=>by omega),Nat.le_trans hle h.le⟩
theorem dB.weak{P:Program}{lent:List aq}{cs:List Code}{st st1:aF}{Q:AE→aF→Prop}(hs:QB lent st st1)(h:dB P lent cs st1 Q) :dB P lent cs st Q :=
  fun ρ0 w0 hN K hK a w hA=>h ρ0 w0 hN K hK a w (hs _ _ _ _ hN hA)
theorem dB.nil{P:Program}{lent:List aq}{st:aF}{Q:AE→aF→Prop}(h:Q .normal st) :dB P lent [] st Q :=
  fun ρ0 w0 hN K hK a w hA=>hK .normal st a w h hA
def zI(P:Program)(lent:List aq)(rest:List Code)(e:AE)(st:aF)(Q:AE→aF→Prop) :Prop :=
  match e with
  | .normal=>dB P lent rest st Q
  | e=>Q e st
theorem zI.exit{P:Program}{lent:List aq}{rest:List Code}{id:Nat}{st:aF}{Q:AE→aF→Prop}(h:Q (.exit id) st) :zI P lent rest (.exit id) st Q:=h
theorem zI.ret{P:Program}{lent:List aq}{rest:List Code}{st:aF}{Q:AE→aF→Prop}(h:Q .ret st) :zI P lent rest .ret st Q:=h
theorem zI.normal{P:Program}{lent:List aq}{rest:List Code}{st:aF}{Q:AE→aF→Prop}(h:dB P lent rest st Q) :zI P lent rest .normal st Q:=h
def QI(s:NS)(r:Uk) :Option (AE×aF×List Bool) :=
  match r with
  | some (e,st,obs,_)=>some (e,s.on st,obs)
  | none=>none
theorem dB.seg{C:ki}(hC:C.Ok){S:oz}(hS:ao C.P S){lent:List aq}{N n:Nat}(k:Nat)(p:bY)(s:NS){cs:List Code}{st st1:aF}{e:AE}{obs:List Bool}{Q:AE→aF→Prop} 
    (h:QI s (O7 (cG C S N n) (cs.take k) st p)=some (e,st1,obs)) (hn:s.ok lent.length=true) (ho:ap obs) (hr:zI C.P lent (cs.drop k) e st1 Q):dB C.P lent cs st Q:=by
  intro ρ0 w0 hN K hK a w ⟨ρ,E,W,S1,hbk,hle⟩
  rw [←List.take_append_drop k cs]
  apply rg
  unfold QI at h
  split at h
  case h_2=>cases h
  rename_i e' qK obs' p' hrun
  simp only [Option.some.injEq,Prod.mk.injEq] at h;obtain ⟨rfl,rfl,rfl⟩:=h
  refine MF (xk hC hS N n) _ hrun ho (by rw [E.pin];exact hN.pin) S1 fun ρ' a' w' P1=>?_
  have hA:=QH hn qK ρ0 w0 a' w' hN (At.post (st:=st) (a:=a) E W hbk hle P1)
  cases e' with
  | normal=>exact hr ρ0 w0 hN K hK a' w' hA
  | ret=>exact hK _ _ _ _ hr hA
  | exit id=>exact hK _ _ _ _ hr hA
def sA(P:Program)(lent:List aq){σ:Type}(I:σ→aF)(G:σ→Prop)(m:σ→Nat)(s:σ)(id:Nat)(rest:List Code)(Q:AE→aF→Prop)(e:AE)(st:aF) :Prop :=
  match e with
  | .normal=>∃ s',G s'∧m s'<m s∧st=I s'
  | .exit j=>if j=id then dB P lent rest st Q else Q (.exit j) st
  | .ret=>Q .ret st
theorem sA.out{P:Program}{lent:List aq}{σ:Type}{I:σ→aF}{G:σ→Prop}{m:σ→Nat}{s:σ}{id:Nat}{rest:List Code}{Q:AE→aF→Prop}{st:aF}(h:dB P lent rest st Q) :sA P lent I G m s id rest Q (.exit id) st:=by
  simp only [sA,if_true];exact h
theorem sA.on{P:Program}{lent:List aq}{σ:Type}{I:σ→aF}{G:σ→Prop}{m:σ→Nat}{s:σ}{id:Nat}{rest:List Code}{Q:AE→aF→Prop}{st:aF}(s':σ)(hs:st=I s')(hm:m s'<m s)(hG:G s') :dB P lent [] st (sA P lent I G m s id rest Q) :=
  dB.nil ⟨s',hG,hm,hs⟩
theorem dB.loop{P:Program}{lent:List aq}{σ:Type}(I:σ→aF)(G:σ→Prop)(m:σ→Nat){id:Nat}{b:Code}{cs rest:List Code}{Q:AE→aF→Prop}(hcs:cs=.block id (.loop b)::rest) 
    (body:∀ s,G s→dB P lent (dN b) (I s) (sA P lent I G m s id rest Q)) (s:σ) (hs:G s):dB P lent cs (I s) Q:=by
  subst hcs
  intro ρ0 w0 hN K hK a w hA
  simp only [zp]
  refine wp_block ?_
  refine wp_loop_rounds (m s+1) ?_
  have key:∀ n s,m s<n→G s→∀ a w,At lent.length ρ0 w0 (I s) a w→Code.rounds P b (Exit.inBlock id fun (e:Exit) a' w'=>match e with | .normal=>zp P rest K a' w' | e=>K e a' w') n a w:=by
    intro n
    induction n with
    | zero=>intro s h;omega
    | succ n ih =>
      intro s hm hs a w hA
      rw [rounds_succ]
      refine mt b ?_
      refine body s hs ρ0 w0 hN _ ?_ a w hA
      intro e st' a' w' hR hA'
      cases e with
      | normal =>
        obtain ⟨s',h1,h2,rfl⟩:=hR
        exact ih s' (by omega) h1 a' w' hA'
      | ret=>exact hK _ _ _ _ hR hA'
      | exit j =>
        simp only [sA] at hR
        by_cases hj:j=id
        · subst hj
          rw [if_pos rfl] at hR
          simp only [AE.real,Exit.then,Exit.inBlock,if_true]
          exact hR ρ0 w0 hN K hK a' w' hA'
        · rw [if_neg hj] at hR
          simp only [AE.real,Exit.then,Exit.inBlock,hj,if_false]
          exact hK _ _ _ _ hR hA'
  exact key _ s (Nat.lt_succ_self _) hs a w hA
theorem dB.mono{P:Program}{lent:List aq}{cs:List Code}{st:aF}{Q Q':AE→aF→Prop}(hQ:∀ e st,Q e st→Q' e st)(h:dB P lent cs st Q) :dB P lent cs st Q' :=
  fun ρ0 w0 hN K hK a w hA=>h ρ0 w0 hN K (fun e st' a' w' q hA'=>hK e st' a' w' (hQ e st' q) hA') a w hA
theorem dB.block{P:Program}{lent:List aq}{id:Nat}{b:Code}{cs rest:List Code}{st:aF}{Q:AE→aF→Prop}(hcs:cs=.block id b::rest) 
    (h:dB P lent (dN b) st fun e st'=>match e with | .normal=>dB P lent rest st' Q | .exit j=>if j=id then dB P lent rest st' Q else Q (.exit j) st' | .ret=>Q .ret st'):dB P lent cs st Q:=by
  subst hcs
  intro ρ0 w0 hN K hK a w hA
  simp only [zp]
  refine wp_block (mt b ?_)
  refine h ρ0 w0 hN _ ?_ a w hA
  intro e st' a' w' hR hA'
  cases e with
  | normal=>exact hR ρ0 w0 hN K hK a' w' hA'
  | ret=>exact hK _ _ _ _ hR hA'
  | exit j =>
    simp only at hR
    by_cases hj:j=id
    · subst hj
      rw [if_pos rfl] at hR
      simp only [AE.real,Exit.inBlock,if_true]
      exact hR ρ0 w0 hN K hK a' w' hA'
    · rw [if_neg hj] at hR
      simp only [AE.real,Exit.inBlock,hj,if_false]
      exact hK _ _ _ _ hR hA'
theorem dB.scope{P:Program}{lent:List aq}{b:Code}{cs rest:List Code}{st:aF}{Q:AE→aF→Prop}(hcs:cs=.scope b::rest) 
    (h:dB P lent (dN b) st fun e st'=>zI P lent rest e st' Q):dB P lent cs st Q:=by
  subst hcs
  intro ρ0 w0 hN K hK a w hA
  simp only [zp]
  refine wp_scope_straight (mt b ?_)
  refine h ρ0 w0 hN _ ?_ a w hA
  intro e st' a' w' hR hA'
  cases e with
  | normal=>exact hR ρ0 w0 hN K hK a' w' hA'
  | ret=>exact hK _ _ _ _ hR hA'
  | exit j=>exact hK _ _ _ _ hR hA'
def MG(P:Program)(fn:Func)(k:Nat)(keep:Bool)(r:eJ)(e:AE)(st:aF) :Prop :=
  (e=.normal∨e=.ret)∧∃ vs obs,ep P fn st fn.results.toList=some (vs,obs)∧ap obs∧xe k keep st.heap (ub vs)=some r
theorem dB.contract{P:Program}{f:FuncId}{fn:Func}{c:Code}(hf:P.funcs[f]? = some fn)(hc:fn.body=some c){lent:List aq}{args:List AV}{r:eJ}{keep:Bool} 
    (h:dB P lent (dN c) (iF fn lent args) (MG P fn lent.length keep r)):ak P f lent args r:=by
  refine oB (keep:=keep) hf hc ?_
  intro ρ w a hN hs
  refine mt c ?_
  refine h ρ w hN _ ?_ a w ⟨ρ,eI.refl _ _,dx.refl _ _,hs,fun _ _ q=>q,Nat.le_refl _⟩
  rintro e st' a' w' ⟨he,vs,obs,h1,h2,h3⟩ ⟨ρ',E,W,S,hbk,_⟩
  refine ⟨?_,ρ',st',vs,obs,E,W,hbk,S,h1,h2,h3⟩
  rcases he with rfl | rfl
  · exact .inl rfl
  · exact .inr rfl
def lQ(x:Nat) :Nat:=x%9223372036854775808
def ia(x y:Nat) :Nat:=x%9223372036854775808+y/9223372036854775808%2*9223372036854775808
def QJ(x y:Nat) :Bool:=(isNaN x&&isNaN y)||x==y
theorem pE(x:Nat) :BitVec.ofInt 64 (x:Int)=BitVec.ofNat 64 x:=by simp
theorem Uo : ~~~ BitVec.ofInt 64 9223372036854775808=BitVec.ofNat 64 (2^63-1):=by decide
theorem gP(n:Nat) :IntKind.u64.wrap (n:Int)=((n%18446744073709551616:Nat):Int):=by
  simp [IntKind.wrap,IntKind.signed,IntKind.bits]
theorem QK(x:Nat) :(cj .andNot .u64 (x:Int) 9223372036854775808)=((lQ x:Nat):Int):=by
  have e:(BitVec.ofInt IntKind.u64.bits (x:Int) &&& ~~~ BitVec.ofInt IntKind.u64.bits 9223372036854775808).toNat=x%9223372036854775808:=by
    show (BitVec.ofInt 64 (x:Int) &&& ~~~ BitVec.ofInt 64 9223372036854775808).toNat=_
    rw [Uo,pE,BitVec.toNat_and,BitVec.toNat_ofNat,BitVec.toNat_ofNat]
    have:(2^63-1)%2^64=2^63-1:=by decide
    rw [this,Nat.and_two_pow_sub_one_eq_mod]
    omega
  unfold cj
  simp only
  rw [e,gP]
  congr 1
  unfold lQ
  omega
theorem Vh(y:Nat) :(cj .and .u64 (y:Int) 9223372036854775808)=((y/9223372036854775808%2*9223372036854775808:Nat):Int):=by
  have e:(BitVec.ofInt IntKind.u64.bits (y:Int) &&& BitVec.ofInt IntKind.u64.bits 9223372036854775808).toNat=y/9223372036854775808%2*9223372036854775808:=by
    show (BitVec.ofInt 64 (y:Int) &&& BitVec.ofInt 64 9223372036854775808).toNat=_
    have h1:BitVec.ofInt 64 9223372036854775808=BitVec.ofNat 64 (2^63):=by decide
    rw [h1,pE,BitVec.toNat_and,BitVec.toNat_ofNat,BitVec.toNat_ofNat]
    have:2^63%2^64=2^63:=by decide
    rw [this]
    apply Nat.eq_of_testBit_eq;intro i
    have e2:(9223372036854775808:Nat)=2^63:=by decide
    rw [e2,Nat.testBit_and,Nat.testBit_two_pow,Nat.testBit_mod_two_pow,Nat.testBit_mul_two_pow]
    by_cases hi:63=i
    · subst hi
      simp [Nat.testBit_eq_decide_div_mod_eq]
    · by_cases h2:63≤i
      · have h3:∃ j,i-63=j+1:=⟨i-64,by omega⟩
        obtain ⟨j,hj⟩:=h3
        have:(y/2^63%2).testBit (i-63)=false:=by
          have:=Nat.mod_lt (y/2^63) (by decide:2>0)
          apply Nat.testBit_lt_two_pow
          calc y/2^63%2<2:=this
            _=2^1:=rfl
            _≤2^(i-63):=Nat.pow_le_pow_right (by decide) (by omega)
        simp [hi,this]
      · simp [hi,h2]
  unfold cj
  simp only
  rw [e,gP]
  congr 1
  omega
theorem MH(x:Nat) :(IntKind.u64.wrap ((x:Int)*2^min (Int.toNat 1) IntKind.u64.bits)).fdiv (2^min (Int.toNat 1) IntKind.u64.bits)=((lQ x:Nat):Int):=by
  have h1:min (Int.toNat 1) IntKind.u64.bits=1:=by decide
  have h2:(2:Int)^1=2:=by decide
  rw [h1,h2]
  have h3:(x:Int)*2=((x*2:Nat):Int):=by push_cast;rfl
  rw [h3,gP,Int.fdiv_eq_ediv_of_nonneg _ (by decide:(0:Int)≤2)]
  unfold lQ
  omega
theorem Up(y:Nat) :IntKind.u64.wrap ((y:Int).fdiv (2^min (Int.toNat 63) IntKind.u64.bits)*2^min (Int.toNat 63) IntKind.u64.bits)=((y/9223372036854775808%2*9223372036854775808:Nat):Int):=by
  have h1:min (Int.toNat 63) IntKind.u64.bits=63:=by decide
  have h2:(2:Int)^63=9223372036854775808:=by decide
  rw [h1,h2,Int.fdiv_eq_ediv_of_nonneg _ (by decide:(0:Int)≤9223372036854775808)]
  have h3:(y:Int)/9223372036854775808*9223372036854775808=((y/9223372036854775808*9223372036854775808:Nat):Int):=by rw [Int.natCast_mul,Int.natCast_ediv];rfl
  rw [h3,gP]
  congr 1
  omega
theorem UN(x y:Nat) :cj .or .u64 ((lQ x:Nat):Int) ((y/9223372036854775808%2*9223372036854775808:Nat):Int)=((ia x y:Nat):Int):=by
  have e:(BitVec.ofInt IntKind.u64.bits ((lQ x:Nat):Int) ||| BitVec.ofInt IntKind.u64.bits ((y/9223372036854775808%2*9223372036854775808:Nat):Int)).toNat=ia x y:=by
    show (BitVec.ofInt 64 ((lQ x:Nat):Int) ||| BitVec.ofInt 64 ((y/9223372036854775808%2*9223372036854775808:Nat):Int)).toNat=_
    rw [pE,pE,BitVec.toNat_or,BitVec.toNat_ofNat,BitVec.toNat_ofNat]
    unfold lQ ia
    have hb0:=Nat.mod_lt (y/9223372036854775808) (by decide:2>0)
    generalize y/9223372036854775808%2=b at *
    have e2:(9223372036854775808:Nat)=2^63:=by decide
    have l1:x%9223372036854775808%2^64=x%9223372036854775808:=by omega
    rw [l1]
    rcases Nat.lt_or_ge b 2 with hb | hb
    · have l2:b*9223372036854775808%2^64=b*9223372036854775808:=by omega
      rw [l2,Nat.or_comm,Nat.add_comm,e2,Nat.mul_comm b,Nat.two_pow_add_eq_or_of_lt (Nat.mod_lt _ (by decide))]
    · omega
  unfold cj
  simp only
  rw [e,gP]
  congr 1
  unfold ia
  have:=Nat.mod_lt x (by decide:9223372036854775808>0)
  have:=Nat.mod_lt (y/9223372036854775808) (by decide:2>0)
  omega
theorem xq(x:Nat) :isNaN (lQ x)=isNaN x:=by
  rw [fA,fA];unfold lQ;rw [Nat.mod_mod]
theorem kw(x y:Nat) :isNaN (ia x y)=isNaN x:=by
  rw [fA,fA];unfold ia
  rw [Nat.add_mul_mod_self_right,Nat.mod_mod]
theorem QL{ex:Bool}{x y:Nat}(h:FR ex x y) :FR false (lQ x) (lQ y):=by
  rcases h with rfl | ⟨h1,h2,h3⟩
  · exact .inl rfl
  · exact .inr ⟨rfl,by rw [xq];exact h2,by rw [xq];exact h3⟩
theorem FR.copy{e1 e2:Bool}{x y x' y':Nat}(h:FR e1 x x')(k:FR e2 y y')(hn:isNaN y=true→isNaN x=true) :FR false (ia x y) (ia x' y'):=by
  rcases h with rfl | ⟨h1,h2,h3⟩
  · rcases k with rfl | ⟨k1,k2,k3⟩
    · exact .inl rfl
    · exact .inr ⟨rfl,by rw [kw];exact hn k2,by rw [kw];exact hn k2⟩
  · exact .inr ⟨rfl,by rw [kw];exact h2,by rw [kw];exact h3⟩
theorem FR.same{e1 e2:Bool}{x y x' y':Nat}(h:FR e1 x x')(k:FR e2 y y') :QJ x' y'=QJ x y:=by
  unfold QJ
  rcases h with rfl | ⟨h1,h2,h3⟩
  · rcases k with rfl | ⟨k1,k2,k3⟩
    · rfl
    · rw [k2,k3]
      cases hx:isNaN x' with
      | true=>rfl
      | false =>
        have a:(x'==y')=false:=by
          rw [beq_eq_false_iff_ne];intro e;rw [e] at hx;rw [hx] at k3;cases k3
        have b:(x'==y)=false:=by
          rw [beq_eq_false_iff_ne];intro e;rw [e] at hx;rw [hx] at k2;cases k2
        rw [a,b]
  · rcases k with rfl | ⟨k1,k2,k3⟩
    · rw [h2,h3]
      cases hx:isNaN y' with
      | true=>rfl
      | false =>
        have a:(x'==y')=false:=by
          rw [beq_eq_false_iff_ne];intro e;rw [e] at h3;rw [hx] at h3;cases h3
        have b:(x==y')=false:=by
          rw [beq_eq_false_iff_ne];intro e;rw [e] at h2;rw [hx] at h2;cases h2
        rw [a,b]
    · rw [h2,h3,k2,k3];rfl
theorem eJ.Holds.weak{ρ:af}{w w':World}{k:Nat}{v v':AV}{own:List (Option aq)}{u:Value}(h:(⟨v,own⟩:eJ).Holds ρ w w' k u)(hw:∀ ρ w,VR ρ w v u→VR ρ w v' u) :(⟨v',own⟩:eJ).Holds ρ w w' k u:=by
  obtain ⟨ρ',h1,h2,h3,h4⟩:=h
  exact ⟨ρ',h1,h2,h3,hw _ _ h4⟩
theorem nG{P:Program}{f:FuncId}{ex:Bool}{x:Nat}{r:Nat→AV}{r':AV}(h:∀ y,ak P f [] [.flt true y] ⟨r y,[]⟩) 
    (hw:∀ y,FR ex x y→∀ ρ w u,VR ρ w (r y) u→VR ρ w r' u):ak P f [] [.flt ex x] ⟨r',[]⟩:=by
  intro ρ w us hN hv
  cases hv with | cons _ u _ _ h1 h2 =>
  cases h2
  cases h1 with | flt _ _ y hf =>
  obtain ⟨q1,q2⟩:=h y ρ w [.float .f64 y] hN (.cons _ _ _ _ (.flt _ _ _ (.inl rfl)) .nil)
  refine ⟨q1,q2.mono ?_⟩
  rintro e w' ⟨u,rfl,W,hu⟩
  exact ⟨u,rfl,W,hu.weak fun ρ w=>hw y hf ρ w u⟩
theorem nH{P:Program}{f:FuncId}{e1 e2:Bool}{x1 x2:Nat}{r:Nat→Nat→AV}{r':AV}(h:∀ y1 y2,ak P f [] [.flt true y1,.flt true y2] ⟨r y1 y2,[]⟩) 
    (hw:∀ y1 y2,FR e1 x1 y1→FR e2 x2 y2→∀ ρ w u,VR ρ w (r y1 y2) u→VR ρ w r' u):ak P f [] [.flt e1 x1,.flt e2 x2] ⟨r',[]⟩:=by
  intro ρ w us hN hv
  cases hv with | cons _ u _ _ h1 h2 =>
  cases h2 with | cons _ u _ _ h3 h4 =>
  cases h4
  cases h1 with | flt _ _ y1 hf1 =>
  cases h3 with | flt _ _ y2 hf2 =>
  obtain ⟨q1,q2⟩:=h y1 y2 ρ w [.float .f64 y1,.float .f64 y2] hN (.cons _ _ _ _ (.flt _ _ _ (.inl rfl)) (.cons _ _ _ _ (.flt _ _ _ (.inl rfl)) .nil))
  refine ⟨q1,q2.mono ?_⟩
  rintro e w' ⟨u,rfl,W,hu⟩
  exact ⟨u,rfl,W,hu.weak fun ρ w=>hw y1 y2 hf1 hf2 ρ w u⟩
theorem VR.flt_weak{ρ:af}{w:World}{x y:Nat}{u:Value}(h:VR ρ w (.flt true y) u)(hf:FR false x y) :VR ρ w (.flt false x) u:=by
  cases h with | flt _ _ z hz =>
  rcases hz with rfl | ⟨h1,_⟩
  · exact .flt _ _ _ hf
  · cases h1
structure ae where
  f:FuncId
  on:List aq→List AV→Option (List iS)
def oE:List ae→oz
  | [],_,_,_=>none
  | e::l,f,lent,args=>bif Nat.beq e.f f then (match e.on lent args with | some r=>some r | none=>oE l f lent args) else oE l f lent args
def Gm:List ae→Nat
  | []=>0
  | e::l=>Nat.lor (Nat.shiftLeft 1 e.f) (Gm l)
def aj(L:List ae) :oz:=fun f lent args=>bif wT (Gm L) f then oE L f lent args else none
def ah(P:Program)(e:ae) :Prop:=∀ lent args alts a,e.on lent args=some alts→a∈alts→ap a.obs→ak P e.f lent args a.out
theorem Bs:∀ {L:List ae} {e:ae},e∈L→wT (Gm L) e.f=true
  | x::l,e,h=>by
    rw [pB]
    show ((1 <<< x.f) ||| Gm l).testBit e.f=true
    rw [Nat.testBit_or,Bool.or_eq_true]
    rcases List.mem_cons.1 h with rfl | h
    · left;rw [Nat.one_shiftLeft,Nat.testBit_two_pow];simp
    · right;rw [←pB];exact Bs h
theorem rh:∀ {L:List ae} {f:FuncId} {lent:List aq} {args:List AV} {alts:List iS},oE L f lent args=some alts→∃ e∈L,e.f=f∧e.on lent args=some alts
  | e::l,f,lent,args,alts,h=>by
    simp only [oE] at h
    cases hb:Nat.beq e.f f with
    | false=>rw [hb] at h;obtain ⟨x,h1,h2⟩:=rh h;exact ⟨x,by simp [h1],h2⟩
    | true =>
      rw [hb] at h
      have:=Nat.eq_of_beq_eq_true hb
      simp only [cond_true] at h
      split at h
      · rename_i r hr;cases h;exact ⟨e,by simp,this,hr⟩
      · obtain ⟨x,h1,h2⟩:=rh h;exact ⟨x,by simp [h1],h2⟩
theorem Bt{L:List ae}{f:FuncId}{lent:List aq}{args:List AV}{alts:List iS}(h:oE L f lent args=some alts) :aj L f lent args=some alts:=by
  obtain ⟨e,h1,h2,_⟩:=rh h
  have:=Bs h1
  rw [h2] at this
  simp only [aj,this,cond_true];exact h
theorem xr{L:List ae}{f:FuncId}{lent:List aq}{args:List AV}{alts:List iS}(h:aj L f lent args=some alts) :oE L f lent args=some alts:=by
  unfold aj at h
  cases hb:wT (Gm L) f with
  | false=>rw [hb] at h;cases h
  | true=>rw [hb] at h;exact h
theorem xt(P:Program) :ao P (aj []):=fun f lent args alts a h=>by have:=xr h;cases this
theorem aa{P:Program}{e:ae}{l:List ae}(he:ah P e)(hl:ao P (aj l)) :ao P (aj (e::l)):=by
  intro f lent args alts a h ha ho
  replace h:=xr h
  simp only [oE] at h
  cases hb:Nat.beq e.f f with
  | false=>rw [hb] at h;exact hl f lent args alts a (Bt h) ha ho
  | true =>
    rw [hb] at h
    have:=Nat.eq_of_beq_eq_true hb
    subst this
    simp only [cond_true] at h
    split at h
    · rename_i r hr
      cases h
      exact he lent args alts a hr ha ho
    · exact hl _ lent args alts a (Bt h) ha ho
def one(v:AV)(obs:List Bool) :Option (List iS):=some [⟨⟨v,[]⟩,obs⟩]
def QM(v:AV)(own:List (Option aq))(obs:List Bool) :Option (List iS):=some [⟨⟨v,own⟩,obs⟩]
theorem O8{P:Program}{f:FuncId}{lent:List aq}{args:List AV}{alts:List iS}{a:iS}{v:AV}{own:List (Option aq)}{obs:List Bool}(h:QM v own obs=some alts)(ha:a∈alts)(ho:ap a.obs) 
    (hc:ap obs→ak P f lent args ⟨v,own⟩):ak P f lent args a.out:=by
  simp only [QM,Option.some.injEq] at h;subst h
  simp only [List.mem_singleton] at ha;subst ha
  exact hc ho
theorem jE{P:Program}{f:FuncId}{lent:List aq}{args:List AV}{alts:List iS}{a:iS}{v:AV}{obs:List Bool}(h:one v obs=some alts)(ha:a∈alts)(ho:ap a.obs) 
    (hc:ap obs→ak P f lent args ⟨v,[]⟩):ak P f lent args a.out:=O8 (own:=[]) h ha ho hc
theorem ak.run{C:ki}(hC:C.Ok){S:oz}(hS:ao C.P S)(p:bY){f:FuncId}{lent:List aq}{args:List AV}{p':bY}{r:eJ}{obs:List Bool}(N n:Nat)(h:fx C S (cG C S N n) f lent args p=some (r,obs,p'))(ho:ap obs) :
    ak C.P f lent args r:=vA hC hS N n h ho
theorem ob{b:Bool}{l:List Bool}(h:b=true)(t:ap l) :ap (b::l):=⟨h,t⟩
theorem V8:ap []:=trivial
inductive dj:List AV→List AV→Prop
  | nil:dj [] []
  | cons {v v':AV} {l l':List AV} (h:aH v v') (t:dj l l'):dj (v::l) (v'::l')
theorem dj.vrs{ρ:af}{w:World} :∀ {l l':List AV} {c:List Value},dj l l'→bh ρ w l c→bh ρ w l' c
  | _,_,_,.nil,.nil=>.nil
  | _,_,_,.cons h t,.cons _ _ _ _ hv tv=>.cons _ _ _ _ (h _ _ _ hv) (dj.vrs t tv)
theorem dj.refl:∀ l:List AV,dj l l
  | []=>.nil
  | v::l=>.cons (aH.refl v) (dj.refl l)
theorem aH.agg{l l':List AV}(h:dj l l') :aH (.agg l) (.agg l'):=by
  intro ρ w u hv;cases hv with | agg _ _ hl=>exact .agg _ _ (h.vrs hl)
theorem aH.tup{l l':List AV}(h:dj l l') :aH (.tup l) (.tup l'):=by
  intro ρ w u hv;cases hv with | tup _ _ hl=>exact .tup _ _ (h.vrs hl)
theorem ak.args{P:Program}{f:FuncId}{lent:List aq}{a a':List AV}{r:eJ}(h:ak P f lent a' r)(ha:dj a a') :ak P f lent a r :=
  fun ρ w us hN hv=>h ρ w us hN (ha.vrs hv)
theorem ak.weak{P:Program}{f:FuncId}{lent:List aq}{a:List AV}{v v':AV}{own:List (Option aq)}(h:ak P f lent a ⟨v,own⟩)(hw:aH v v') :ak P f lent a ⟨v',own⟩:=by
  intro ρ w us hN hv
  obtain ⟨q1,q2⟩:=h ρ w us hN hv
  refine ⟨q1,q2.mono ?_⟩
  rintro e w' ⟨u,rfl,W,hu⟩
  exact ⟨u,rfl,W,hu.weak fun ρ w=>hw ρ w u⟩
theorem mu(k k' b:Bool) :aH (.bool k b) (.bool k' b):=by
  intro ρ w u h;cases h;exact .bool _ _
end
end Go.Plb
namespace Go.Plb
noncomputable section
open Go.ChangeShapes Go.WideShapes Go.ChangeAt Go.RowKit Go.Deep
set_option linter.unusedSimpArgs false
set_option linter.unusedVariables false
set_option linter.unusedSectionVars false
variable [Rom]
def af.none_:af:={ at_:=fun _=>0,live:=fun _=>False,out:=fun _ _=>False,ok:=fun _=>False,pin:=(0,none) }
theorem Uq(w:World)(hr:∀ x∈Rom.tab,VR af.none_ w x.2 (.pointer (some ⟨x.1,0,none⟩))) :dF af.none_ w [] :=
  ⟨⟨fun b d q=>by simp [bX,cq,bP] at q,fun b c d e q=>by simp [bX,cq,bP] at q,fun bl q=>q.elim,fun bl q=>q.elim,fun j bl q=>q.elim,fun b q=>q.elim,hr⟩,fun bl q=>q.elim,rfl⟩
theorem Ki(l:Lv)(bl:Nat) :af.none_.avoid l bl:=eC (fun j=>by cases j<;>exact id) l 0
inductive FA where
  | i (k:IntKind) (n:Int)
  | f (x:Nat)
  | s (b:ByteArray)
  | b (b:Bool)
  | fl (xs:List Nat)
  | ns (k:IntKind) (xs:List Int)
def FA.av:FA→AV
  | .i k n=>.int k n
  | .f x=>.flt true x
  | .s z=>.str z
  | .b z=>.bool false z
  | .fl xs=>.imm .free (.fl xs) 1 1 0 xs.length
  | .ns k xs=>.imm .free (.ns k xs) 1 1 0 xs.length
theorem FA.kept(a:FA) :a.av.kept=true:=by cases a<;>rfl
variable {H : Type} {enc : TypeId × Value → H} {P : Program} {W : World}
def FA.avs:List FA→List AV
  | []=>[]
  | a::l=>a.av::FA.avs l
theorem QN{W W':World}(h:dx (fun _=>False) W W') :Below W.heap.size W W' :=
  ⟨h.os,h.tape,h.output,h.size,fun k hk=>h.same k hk (fun q=>q)⟩
def kx(P:Program)(ts:List TypeId) :Bool:=ts.all fun t=>P.readableRec t&&decide (t<P.types.size)
theorem Bu{W W':World}(hl:laidOutB P=true)(hb:Below W.heap.size W W') :∀ {ts:List TypeId} {vs:List Value} {ds:List (DataW H)} {ps:List MemPlace},kx P ts=true →
    DataW.TrodAll enc P W 0 (fun _=>true) true ts vs ds ps→(∀ x∈ps,x.block<W.heap.size)→∀ sp:Nat→Bool,(∀ p∈ps,sp p.block=true)→DataW.TrodAll enc P W' 0 sp true ts vs ds ps
  | [],vs,ds,ps,_,h,_,_,_=>by obtain ⟨rfl,rfl,rfl⟩:=trodAll_nil h;rfl
  | t::ts,vs,ds,ps,hp,h,hlt,sp,hsp=>by
    obtain ⟨v,vs',d,ds',p,q,rfl,rfl,rfl,h1,h2⟩:=trodAll_cons h
    simp only [kx,List.all_cons,Bool.and_eq_true,decide_eq_true_eq] at hp
    exact ⟨p,q,WideElems.Trod_stays hl hp.1.1 hp.1.2 h1 (fun x hx=>hb.same (hlt x (by simp [hx]))) (fun x hx=>hsp x (by simp [hx])),
      Bu hl hb (by simpa [kx] using hp.2) h2 (fun x hx=>hlt x (by simp [hx])) sp (fun x hx=>hsp x (by simp [hx])),rfl⟩
theorem QO{f:Func}{s:ChangeSpec}{W W':World}{args:Array Value}{ds gs:List (DataW H)}{before:List MemPlace}{tb:TypeId}(hl:laidOutB P=true) 
    (hW:DataW.Whole enc P f.params.toList s.vars false W args.toList ds gs before) (hv:s.vars=[]) (hp:kx P f.params.toList=true)
    (hs:s.fn H (ds++gs) = { results:=[.lit (.bool true)],args:=ds }) (hr:f.resultTypes = #[tb]) (ht:P.underlying tb=some .bool) (hw:dx (fun _=>False) W W') :
    s.post enc P f false true false false W args (.bool true) W':=by
  have hb:=QN hw
  have hlt:∀ p∈before,p.block<W.heap.size:=fun p hp=>hW.lt p hp
  have hW':=hW
  obtain ⟨p,q,hA,hV,rfl,hfz,mC⟩:=hW'
  rw [hv] at hV
  obtain ⟨rfl,rfl⟩:=trodVars_none hV
  simp only [List.append_nil] at hlt hs hW
  have harg:=Bu hl hb hp hA hlt (fun b=>decide (b<W.heap.size)) (fun x hx=>by simpa using hlt x hx)
  refine ⟨ds,[],p,[],p,[],hW,?_,?_,?_,World.keptBut_mono (fun x hx=>⟨hx,.inr (.inl hx)⟩) (hb.frame (· ∈ p)),fun e=>(by cases e)⟩
  · rw [List.append_nil,hs,hr]
    exact trodAll_mk1 (shut_bool ht true)
  · rw [List.append_nil,hs];exact harg
  · rw [hv];simp only [List.append_nil,hs];exact rfl
theorem QP{ρ:af}{w w':World}{k b:Bool}{u:Value}(h:(⟨.bool k b,[]⟩:eJ).Holds ρ w w' 0 u) :u=.bool b:=by
  obtain ⟨ρ',_,_,_,h4⟩:=h
  cases h4;rfl
end
end Go.Plb
namespace Go.Plb.Seat
open Go Go.Plb Go.Proofs
noncomputable abbrev prog:Program:=Tryz.prog
def aA:List Int:=[0,1,56,2,57,49,28,3,61,58,42,50,38,29,17,4,62,47,59,36,45,43,51,22,53,39,33,30,24,18,12,5,63,55,48,27,60,41,37,16,46,35,44,21,52,32,23,11,54,26,40,15,34,20,31,10,25,14,19,9,13,8,7,6]
instance:Rom:=⟨[(1,.iptr .free (.ns .u8 aA) 1 0 0)],by intro x hx;simp only [List.mem_cons,List.not_mem_nil,or_false] at hx;rcases hx with rfl<;>rfl⟩
abbrev ky:FuncId:=5
abbrev lf:FuncId:=16
abbrev uc:FuncId:=22
abbrev Gn:FuncId:=23
abbrev dV:FuncId:=36
abbrev mv:FuncId:=60
abbrev Kj:FuncId:=63
abbrev gQ:FuncId:=65
abbrev zJ:FuncId:=69
abbrev zK:FuncId:=70
abbrev D3:FuncId:=71
abbrev D4:FuncId:=72
abbrev D5:FuncId:=73
abbrev ud:FuncId:=74
abbrev xu:FuncId:=75
abbrev gd:FuncId:=76
abbrev mw:FuncId:=78
abbrev zL:FuncId:=82
abbrev ue:FuncId:=100
abbrev ri:FuncId:=101
abbrev rj:FuncId:=104
abbrev Gp:FuncId:=106
abbrev Gq:FuncId:=108
abbrev rl:FuncId:=110
abbrev sB:FuncId:=112
abbrev sC:FuncId:=113
abbrev xv:FuncId:=117
abbrev vC:FuncId:=118
abbrev D6:FuncId:=127
abbrev Kk:FuncId:=131
abbrev O9:FuncId:=132
abbrev zM:FuncId:=133
abbrev D7:FuncId:=134
abbrev Gr:FuncId:=135
abbrev my:FuncId:=136
abbrev Kl:FuncId:=137
abbrev Gs:FuncId:=139
abbrev D8:FuncId:=140
abbrev vD:FuncId:=143
abbrev zN:FuncId:=145
abbrev zO:FuncId:=146
abbrev zP:FuncId:=147
abbrev Gt:FuncId:=148
abbrev D9:FuncId:=149
abbrev fM:FuncId:=152
abbrev nX:FuncId:=163
abbrev jq:FuncId:=167
abbrev gR:FuncId:=169
abbrev sD:FuncId:=171
abbrev oF:FuncId:=173
abbrev xw:FuncId:=174
abbrev Gu:FuncId:=175
abbrev pF:FuncId:=176
abbrev oG:FuncId:=177
abbrev mz:FuncId:=178
abbrev uf:FuncId:=179
abbrev oH:FuncId:=180
abbrev Gv:FuncId:=181
abbrev Ea:FuncId:=182
abbrev Eb:FuncId:=183
abbrev Gw:FuncId:=184
abbrev Ec:FuncId:=185
abbrev Gx:FuncId:=186
abbrev Ed:FuncId:=187
abbrev zQ:FuncId:=188
abbrev Gy:FuncId:=189
abbrev sE:FuncId:=194
abbrev xx:FuncId:=197
abbrev ug:FuncId:=198
abbrev sF:FuncId:=201
abbrev xy:FuncId:=202
abbrev sG:FuncId:=204
abbrev mA:FuncId:=219
abbrev xz:FuncId:=220
abbrev Ee:FuncId:=221
abbrev xA:FuncId:=222
abbrev Km:FuncId:=224
abbrev Gz:FuncId:=225
abbrev rm:FuncId:=226
abbrev GA:FuncId:=228
abbrev GB:FuncId:=229
abbrev kz:FuncId:=237
abbrev bp:FuncId:=246
abbrev sH:FuncId:=251
abbrev rn:FuncId:=252
abbrev kA:FuncId:=253
abbrev uh:FuncId:=254
abbrev gg:FuncId:=255
abbrev rp:FuncId:=256
abbrev Kn:FuncId:=257
abbrev pG:FuncId:=258
abbrev jW:FuncId:=259
abbrev ui:FuncId:=261
abbrev GC:FuncId:=262
abbrev Ef:FuncId:=263
abbrev zR:FuncId:=264
abbrev GD:FuncId:=265
abbrev GE:FuncId:=266
abbrev Eg:FuncId:=267
abbrev GF:FuncId:=269
abbrev pU:FuncId:=291
abbrev Eh:FuncId:=292
abbrev pV:FuncId:=294
abbrev xB:FuncId:=299
abbrev vE:FuncId:=300
abbrev zS:FuncId:=301
abbrev zT:FuncId:=302
abbrev rq:FuncId:=304
abbrev GG:FuncId:=305
abbrev GH:FuncId:=306
abbrev Ei:FuncId:=307
abbrev oI:FuncId:=313
abbrev aQ:FuncId:=314
abbrev eN:FuncId:=315
abbrev pH:FuncId:=316
abbrev zU:FuncId:=317
abbrev kB:FuncId:=318
abbrev gS:FuncId:=319
abbrev uj:FuncId:=320
abbrev Ej:FuncId:=321
abbrev GI:FuncId:=322
abbrev Ek:FuncId:=323
abbrev vF:FuncId:=326
abbrev rr:FuncId:=334
abbrev rt:FuncId:=335
abbrev zV:FuncId:=338
abbrev xC:FuncId:=339
abbrev vG:FuncId:=340
abbrev xD:FuncId:=341
abbrev ru:FuncId:=342
abbrev fm:FuncId:=343
abbrev pI:FuncId:=344
abbrev uk:FuncId:=345
abbrev zW:FuncId:=346
abbrev pJ:FuncId:=347
abbrev ul:FuncId:=351
abbrev dI:FuncId:=352
abbrev um:FuncId:=353
abbrev sI:FuncId:=354
abbrev kC:FuncId:=355
abbrev pK:FuncId:=356
abbrev gT:FuncId:=358
noncomputable def FN(f:FuncId) :Func:=(prog.funcs[f]?).getD default
noncomputable def oJ(f:FuncId) :Code:=((FN f).body).getD .skip
noncomputable def C0:ki:=MC prog [(dV,.frombits),(gd,.bits),(oI,.sqrt),(gS,.add64),(gT,.sub64)] [(uc,⟨[],true⟩),(Gn,⟨[],true⟩),(Kj,⟨[],true⟩),(zJ,⟨[],true⟩),(zK,⟨[],true⟩),(D3,⟨[],true⟩),(D4,⟨[],true⟩),(D5,⟨[],true⟩),(ud,⟨[],true⟩),(xu,⟨[],true⟩),(zL,⟨[],true⟩),(ue,⟨[],true⟩),(ri,⟨[],true⟩),(rj,⟨[],true⟩),(Gp,⟨[],true⟩),(Gq,⟨[],true⟩),(rl,⟨[true,true,true,true,true,true,true,true,true,true],false⟩),(sB,⟨[true,true,true,true,true,true,true,true,true,true],false⟩),(sC,⟨[true,true,true,true,true,true,true,true,true,true],false⟩),(xv,⟨[true,true,true,true,true,true,true,true,true,true],false⟩),(vC,⟨[true,true,true,true,true,true,true,true,true,true],false⟩),(Kk,⟨[],true⟩),(O9,⟨[],true⟩),(zM,⟨[],true⟩),(D7,⟨[],true⟩),(Gr,⟨[],true⟩),(my,⟨[],true⟩),(Kl,⟨[],true⟩),(Gs,⟨[],true⟩),(D8,⟨[],true⟩),(vD,⟨[],true⟩),(zN,⟨[],true⟩),(zO,⟨[],true⟩),(zP,⟨[],true⟩),(Gt,⟨[],true⟩),(D9,⟨[],true⟩),(nX,⟨[true,true,true,true,true,true,true,true,true,true],false⟩),(oF,⟨[],true⟩),(xw,⟨[],true⟩),(Gu,⟨[true],false⟩),(pF,⟨[],true⟩),(oG,⟨[],true⟩),(mz,⟨[],true⟩),(uf,⟨[],true⟩),(oH,⟨[],true⟩),(Gv,⟨[],true⟩),(Ea,⟨[],true⟩),(Eb,⟨[],true⟩),(Gw,⟨[],true⟩),(Ec,⟨[],true⟩),(Gx,⟨[],true⟩),(Ed,⟨[],true⟩),(zQ,⟨[],true⟩),(Gy,⟨[],true⟩),(sE,⟨[true,true,true,true,true,true,true,true,true,true],false⟩),(xx,⟨[true,true,true,true,true,true,true,true,true,true],false⟩),(ug,⟨[true,true,true,true,true,true,true,true,true,true],false⟩),(sF,⟨[true,true,true,true,true,true,true,true,true,true],false⟩),(xy,⟨[true,true,true,true,true,true,true,true,true,true],false⟩),(sG,⟨[true,true,true,true,true,true,true,true,true,true],false⟩),(mA,⟨[],true⟩),(xz,⟨[],true⟩),(Ee,⟨[],true⟩),(xA,⟨[],true⟩),(Km,⟨[],true⟩),(Gz,⟨[],true⟩),(rm,⟨[],true⟩),(GA,⟨[],true⟩),(GB,⟨[],true⟩),(rn,⟨[],true⟩),(kA,⟨[],true⟩),(uh,⟨[],true⟩),(gg,⟨[true],false⟩),(rp,⟨[],true⟩),(Kn,⟨[true],false⟩),(pG,⟨[true],false⟩),(jW,⟨[true],false⟩),(GC,⟨[],true⟩),(Ef,⟨[],true⟩),(zR,⟨[],true⟩),(GD,⟨[],true⟩),(GE,⟨[],true⟩),(Eg,⟨[],true⟩),(GF,⟨[],true⟩),(pU,⟨[true,true,true,true,true,true,true,true,true,true],false⟩),(Eh,⟨[true,true,true,true,true,true,true,true,true,true],false⟩),(pV,⟨[true,true,true,true,true,true,true,true,true,true],false⟩),(xB,⟨[true,true,true,true,true,true,true,true,true,true],false⟩),(vE,⟨[true,true,true,true,true,true,true,true,true,true],false⟩),(zS,⟨[true,true,true,true,true,true,true,true,true,true],false⟩),(zT,⟨[true,true,true,true,true,true,true,true,true,true],false⟩),(rq,⟨[],true⟩),(GG,⟨[],true⟩),(GH,⟨[],true⟩),(Ei,⟨[],true⟩),(pH,⟨[],true⟩),(zU,⟨[],true⟩),(uj,⟨[],true⟩),(Ej,⟨[],true⟩),(GI,⟨[],true⟩),(Ek,⟨[],true⟩),(vF,⟨[true,true,true,true,true,true,true,true,true,true],false⟩),(rr,⟨[true,true,true,true,true,true,true,true,true,true],false⟩),(rt,⟨[true,true,true,true,true,true,true,true,true,true],false⟩),(zV,⟨[true,true,true,true,true,true,true,true,true,true],false⟩),(xC,⟨[true,true,true,true,true,true,true,true,true,true],false⟩),(vG,⟨[true,true,true,true,true,true,true,true,true,true],false⟩),(xD,⟨[true,true,true,true,true,true,true,true,true,true],false⟩),(ru,⟨[true,true,true,true,true,true,true,true,true,true],false⟩),(pI,⟨[],true⟩),(uk,⟨[],true⟩),(zW,⟨[],true⟩),(pJ,⟨[],true⟩),(ul,⟨[true,true,true,true,true,true,true,true,true,true],false⟩),(dI,⟨[true,true,true,true,true,true,true,true,true,true],false⟩),(um,⟨[true,true,true,true,true,true,true,true,true,true],false⟩),(sI,⟨[true,true,true,true,true,true,true,true,true,true],false⟩),(kC,⟨[false,false,true],false⟩),(pK,⟨[],true⟩)]
theorem lg:Bp prog dV .frombits:=⟨FN dV,by kernel_rfl,by kernel_rfl,by kernel_rfl,by kernel_rfl,by kernel_rfl⟩
theorem oK:Bp prog gd .bits:=⟨FN gd,by kernel_rfl,by kernel_rfl,by kernel_rfl,by kernel_rfl,by kernel_rfl⟩
theorem zX:Bp prog oI .sqrt:=⟨FN oI,by kernel_rfl,by kernel_rfl,by kernel_rfl,by kernel_rfl,by kernel_rfl⟩
theorem pW:Bp prog gS .add64:=⟨FN gS,by kernel_rfl,by kernel_rfl,by kernel_rfl,by kernel_rfl,by kernel_rfl⟩
theorem pX:Bp prog gT .sub64:=⟨FN gT,by kernel_rfl,by kernel_rfl,by kernel_rfl,by kernel_rfl,by kernel_rfl⟩
theorem mixed:prog.follows .mixedOrders=true:=by kernel_rfl
theorem VO:MD prog=true:=by kernel_rfl
theorem ax:C0.Ok:=QA mixed VO (by
  intro x hx
  simp only [List.mem_cons,List.not_mem_nil,or_false] at hx
  rcases hx with rfl | rfl | rfl | rfl | rfl
  · exact lg
  · exact oK
  · exact zX
  · exact pW
  · exact pX
  )
end Go.Plb.Seat
namespace Go.Proofs.YtcfhbjfbfmlkiaaGreatDoor
open Go.ChangeShapes Go.WideShapes Go.ChangeAt Go.RowKit Go.Plb Go.Plb.Seat
theorem Vi:ownKnob Tryz.prog.godebug=none:=by kernel_rfl
theorem Ur:laidOutB Tryz.prog=true:=by kernel_rfl
theorem MI : Tryz.prog.globalNamed "math/bits.deBruijn64tab" = some 1 := by kernel_rfl
def sJ : List (String × DataW Unit) := [("math/bits.deBruijn64tab", Rows.laid_math_bits_deBruijn64tab)]
theorem Us:(Rows.laid_math_bits_deBruijn64tab:DataW Unit)=Lib.tabData .u8 aA:=by rfl
theorem Vj{W : World}(h : laidMetH Tryz.prog sJ W) : Lib.TabIs Tryz.prog W "math/bits.deBruijn64tab" .u8 aA := by
  have h':laidMet Tryz.prog sJ W:=h
  unfold sJ at h'
  rw [Us] at h'
  exact Lib.tabIs_of_head MI (t:=333) (e:=5) (n:=64) (by kernel_rfl) (by kernel_rfl) (by kernel_rfl) (by kernel_rfl) (by kernel_rfl) h'
theorem Ut{W:World}(h:laidMetH Tryz.prog sJ W) :∀ x∈Rom.tab,VR af.none_ W x.2 (.pointer (some ⟨x.1,0,none⟩)):=by
  intro x hx
  obtain rfl:=List.mem_singleton.1 hx
  have ht:=Vj h
  have cell:∀ i,i<64→W.cell? ⟨1,i,none⟩=some (.int .u8 (aA.getD i 0)):=fun i hi=>ht.cell MI i hi
  have hb:1<W.heap.size:=by
    have h0:=cell 0 (by decide)
    unfold World.cell? at h0
    rcases Nat.lt_or_ge 1 W.heap.size with q | q
    · exact q
    · have e:W.heap[1]? = none:=Array.getElem?_eq_none q
      rw [e] at h0;cases h0
  have look:∀ (y:Nat) v,(aq.ns .u8 aA).cell? y=some v→y<64∧v=.int .u8 (aA.getD y 0):=by
    intro y v hv
    have hv':(aA[y]?).map (fun z=>AV.int .u8 z)=some v:=hv
    cases e:aA[y]? with
    | none=>rw [e] at hv';cases hv'
    | some z =>
      rw [e] at hv'
      have hy:=(List.getElem?_eq_some_iff.1 e).1
      refine ⟨hy,?_⟩
      rw [List.getD_eq_getElem?_getD,e]
      exact (Option.some.inj hv').symm
  exact .iptr .free _ 1 0 0 1 0 (fun y=>.int .u8 (aA.getD y 0)) (Ki _ _) hb
    (fun y v hv=>by rw [Nat.zero_add];exact cell y (look y v hv).1) (fun y v hv=>by rw [(look y v hv).2];exact .int _ _) trivial (fun _=>rfl) rfl
noncomputable def Bv(os:Os) :World :=
  { World.holding Tryz.prog os ⟨#[],#[],[]⟩ with heap:=(World.holding Tryz.prog os ⟨#[],#[],[]⟩).heap.modify 1 fun
      | .cells _ t frozen=>.cells (aA.map fun z=>Value.int .u8 z).toArray t frozen
      | o=>o }
theorem QQ(os:Os)(args:Array Value) :laidMetH Tryz.prog sJ ((Bv os).forCall (fun _ _=>0) ⟨#[],args,[]⟩).memory :=
  (laidMet_of_run' 8 (by kernel_rfl) (by kernel_rfl):laidMet Tryz.prog sJ _)
end Go.Proofs.YtcfhbjfbfmlkiaaGreatDoor
namespace Go.Plb
noncomputable section
set_option linter.unusedSimpArgs false
set_option linter.unusedVariables false
set_option linter.unusedSectionVars false
variable [Rom]
inductive T (α:Type) where
  | fail
  | leaf (a:α)
  | ask (b:Bool) (t f:T α)
  | need (b:Bool) (t:T α)
  | alt (k:Nat) (t e:T α)
def T.run{α:Type} :T α→Option α
  | .fail=>none
  | .leaf a=>some a
  | .ask b t f=>bif b then t.run else f.run
  | .need b t=>bif b then t.run else none
  | .alt _ t e=>match t.run with
    | some a=>some a
    | none=>e.run
structure pY (α:Type) where
  path:List Nat
  obs:List Bool
  val:α
def pY.ask{α:Type}(n:Nat)(b:Bool)(l:pY α) :pY α:=⟨n::l.path,b::l.obs,l.val⟩
def pY.need{α:Type}(b:Bool)(l:pY α) :pY α:=⟨l.path,b::l.obs,l.val⟩
def pY.alt{α:Type}(n:Nat)(l:pY α) :pY α:=⟨n::l.path,l.obs,l.val⟩
def T.leaves{α:Type} :T α→List (pY α)
  | .fail=>[]
  | .leaf a=>[⟨[],[],a⟩]
  | .ask b t f=>t.leaves.map (pY.ask 1 (b==true))++f.leaves.map (pY.ask 0 (b==false))
  | .need b t=>t.leaves.map (pY.need b)
  | .alt k t e=>t.leaves.map (pY.alt k)++e.leaves
theorem ik{α:Type} :∀ (t:T α) {a:α},t.run=some a→∃ l∈t.leaves,l.val=a∧ap l.obs
  | .fail,a,h=>by cases h
  | .leaf b,a,h=>by
    simp only [T.run,Option.some.injEq] at h;subst h
    exact ⟨⟨[],[],b⟩,by simp [T.leaves],rfl,trivial⟩
  | .ask b t f,a,h=>by
    simp only [T.run] at h
    cases b with
    | true =>
      simp only [cond_true] at h
      obtain ⟨l,h1,h2,h3⟩:=ik t h
      exact ⟨l.ask 1 (true==true),by simp only [T.leaves,List.mem_append];exact .inl (List.mem_map_of_mem h1),h2,⟨rfl,h3⟩⟩
    | false =>
      simp only [cond_false] at h
      obtain ⟨l,h1,h2,h3⟩:=ik f h
      exact ⟨l.ask 0 (false==false),by simp only [T.leaves,List.mem_append];exact .inr (List.mem_map_of_mem h1),h2,⟨rfl,h3⟩⟩
  | .need b t,a,h=>by
    simp only [T.run] at h
    cases b with
    | true =>
      simp only [cond_true] at h
      obtain ⟨l,h1,h2,h3⟩:=ik t h
      exact ⟨l.need true,by simp only [T.leaves];exact List.mem_map_of_mem h1,h2,⟨rfl,h3⟩⟩
    | false=>cases h
  | .alt k t e,a,h=>by
    simp only [T.run] at h
    split at h
    · rename_i a' ht
      cases h
      obtain ⟨l,h1,h2,h3⟩:=ik t ht
      exact ⟨l.alt k,by simp only [T.leaves,List.mem_append];exact .inl (List.mem_map_of_mem h1),h2,h3⟩
    · obtain ⟨l,h1,h2,h3⟩:=ik e h
      exact ⟨l,by simp only [T.leaves,List.mem_append];exact .inr h1,h2,h3⟩
def oL{α X:Type}(N:α→aF)(E:X→AE×aF) :α⊕X→AE×aF
  | .inl a=>(.normal,N a)
  | .inr x=>E x
def Sg{α X:Type}(P:Program)(lent:List aq)(cs:List Code)(st:aF)(m:Option (α⊕X))(N:α→aF)(E:X→AE×aF) :Prop :=
  ∀ r,m=some r→dB P lent cs st fun e st'=>(e,st')=oL N E r
def QR{α X:Type}(C:ki)(S:oz)(n:Nat)(cs:List Code)(st:aF)(ls:List (pY (α⊕X)))(ks:List NS)(k:Nat) :List (Bool×Option (AE×aF×List Bool)) :=
  List.zipWith (fun l s=>(s.ok k,QI s (O7 (cG C S 12 n) cs st (some l.path)))) ls ks
def MJ{α X:Type}(N:α→aF)(E:X→AE×aF)(ls:List (pY (α⊕X))) :List (Bool×Option (AE×aF×List Bool)) :=
  ls.map fun l=>(true,some ((oL N E l.val).1,(oL N E l.val).2,l.obs))
theorem MK{α β γ:Type}{f:α→β→γ}{g:α→γ} :∀ {l:List α} {k:List β},List.zipWith f l k=l.map g→∀ a∈l,∃ b,f a b=g a
  | [],_,_,a,ha=>by cases ha
  | x::l,[],h,a,ha=>by simp at h
  | x::l,y::k,h,a,ha=>by
    simp only [List.zipWith_cons_cons,List.map_cons,List.cons.injEq] at h
    rcases List.mem_cons.1 ha with rfl | ha
    · exact ⟨y,h.1⟩
    · exact MK h.2 a ha
theorem Sg.seg{C:ki}(hC:C.Ok){S:oz}(hS:ao C.P S){lent:List aq}{α X:Type}(n:Nat)(cs:List Code)(st:aF)(t:T (α⊕X))(N:α→aF)(E:X→AE×aF)(ks:List NS) 
    (h:QR C S n cs st t.leaves ks lent.length=MJ N E t.leaves):Sg C.P lent cs st t.run N E:=by
  intro r hr
  obtain ⟨l,h1,h2,h3⟩:=ik t hr
  obtain ⟨k,hk⟩:=MK h l h1
  simp only [Prod.mk.injEq] at hk
  obtain ⟨hn,he⟩:=hk
  have:=dB.seg hC hS (lent:=lent) (Q:=fun e st'=>(e,st')=oL N E r) cs.length (some l.path) k (cs:=cs) (st:=st) (by rw [List.take_length];exact he) hn h3
  refine this ?_
  rw [h2,List.drop_length]
  generalize hg:oL N E r=x
  obtain ⟨e,s⟩:=x
  cases e with
  | normal=>exact dB.nil rfl
  | ret=>rfl
  | exit id=>rfl
theorem dB.append{P:Program}{lent:List aq}{cs1 cs2:List Code}{st:aF}{Q1 Q:AE→aF→Prop}(h:dB P lent cs1 st Q1)(k:∀ e st',Q1 e st'→zI P lent cs2 e st' Q) :dB P lent (cs1++cs2) st Q:=by
  intro ρ0 w0 hN K hK a w hA
  apply rg
  refine h ρ0 w0 hN _ ?_ a w hA
  intro e st' a' w' q hA'
  have:=k e st' q
  cases e with
  | normal=>exact this ρ0 w0 hN K hK a' w' hA'
  | ret=>exact hK _ _ _ _ this hA'
  | exit id=>exact hK _ _ _ _ this hA'
def lh{X:Type}(E:X→AE×aF) :Prop:=∀ x,(E x).1 ≠ .normal
theorem ML{P:Program}{lent:List aq}{cs:List Code}{e:AE}{st:aF}{Q:AE→aF→Prop}(hn:e ≠ .normal)(h:Q e st) :zI P lent cs e st Q:=by
  cases e with
  | normal=>exact (hn rfl).elim
  | ret=>exact h
  | exit id=>exact h
def aV{α β X:Type}(m:Option (α⊕X))(k:α→Option (β⊕X)) :Option (β⊕X) :=
  match m with
  | none=>none
  | some (.inl a)=>k a
  | some (.inr x)=>some (.inr x)
theorem Sg.seq{P:Program}{lent:List aq}{α β X:Type}{cs1 cs2:List Code}{st:aF}{m:Option (α⊕X)}{N1:α→aF}{E:X→AE×aF}{k:α→Option (β⊕X)}{N:β→aF}(hE:lh E) 
    (h:Sg P lent cs1 st m N1 E) (hk:∀ a,Sg P lent cs2 (N1 a) (k a) N E):Sg P lent (cs1++cs2) st (aV m k) N E:=by
  intro r hr
  unfold aV at hr
  split at hr
  · cases hr
  · rename_i a
    refine dB.append (h _ rfl) ?_
    intro e st' q
    simp only [oL,Prod.mk.injEq] at q
    obtain ⟨rfl,rfl⟩:=q
    exact hk a r hr
  · rename_i x
    simp only [Option.some.injEq] at hr;subst hr
    refine dB.append (h _ rfl) ?_
    intro e st' q
    simp only [oL] at q
    refine ML ?_ q
    have:=hE x
    rw [←q] at this;exact this
def nI{σ Y:Type}(B:σ→Option (σ⊕Y)) :Nat→σ→Option Y
  | 0,_=>none
  | n+1,s=>match B s with
    | none=>none
    | some (.inl s')=>nI B n s'
    | some (.inr y)=>some y
theorem jX{σ Y:Type}{B:σ→Option (σ⊕Y)} :∀ (n:Nat) {s:σ} {y:Y},nI B n s=some y→∀ m,n≤m→nI B m s=some y
  | 0,s,y,h,_,_=>by cases h
  | n+1,s,y,h,m,hm=>by
    obtain ⟨m',rfl⟩:∃ m',m=m'+1:=⟨m-1,by omega⟩
    simp only [nI] at h ⊢
    split at h
    · cases h
    · exact jX n h m' (by omega)
    · exact h
open Classical in
noncomputable def QS {σ Y : Type} (B : σ → Option (σ ⊕ Y)) (s : σ) : Option Y :=
  if h : ∃ n y, nI B n s = some y then some h.choose_spec.choose else none
theorem Pa{σ Y:Type}{B:σ→Option (σ⊕Y)}{s:σ}{y:Y} :QS B s=some y↔∃ n,nI B n s=some y:=by
  unfold QS
  constructor
  · intro h
    split at h
    · rename_i q
      simp only [Option.some.injEq] at h
      exact ⟨q.choose,by rw [←h];exact q.choose_spec.choose_spec⟩
    · cases h
  · rintro ⟨n,h⟩
    rw [dif_pos ⟨n,y,h⟩]
    generalize hq:(⟨n,y,h⟩:∃ n y,nI B n s=some y)=q
    have h1:=q.choose_spec.choose_spec
    have a1:=jX n h (max n q.choose) (by omega)
    have a2:=jX _ h1 (max n q.choose) (by omega)
    rw [a1] at a2
    exact a2.symm
noncomputable def ji{σ Y:Type}(B:σ→Option (σ⊕Y))(s:σ) :Option Y :=
  match nI B 1000000000000 s with
  | some y=>some y
  | none=>QS B s
theorem Pb{σ Y:Type}{B:σ→Option (σ⊕Y)}{s:σ}{y:Y} :ji B s=some y↔∃ n,nI B n s=some y:=by
  unfold ji
  generalize 1000000000000=k
  cases h:nI B k s with
  | none=>exact Pa
  | some z =>
    constructor
    · intro e;cases e;exact ⟨k,h⟩
    · rintro ⟨n,hn⟩
      have a1:=jX n hn (max n k) (by omega)
      have a2:=jX _ h (max n k) (by omega)
      rw [a1] at a2
      exact a2.symm
def gr{ρ X:Type}(id:Nat)(J:ρ→aF)(E:X→AE×aF) :ρ⊕X→AE×aF
  | .inl r=>(.exit id,J r)
  | .inr x=>E x
def sK{X:Type}(id:Nat)(E:X→AE×aF) :Prop:=∀ x,(E x).1 ≠ .exit id
theorem Sg.loop{P:Program}{lent:List aq}{σ ρ X:Type}{I:σ→aF}{J:ρ→aF}{E:X→AE×aF}{B:σ→Option (σ⊕(ρ⊕X))}{id:Nat}{b:Code}(hE:lh E)(hI:sK id E) 
    (hb:∀ s,Sg P lent (dN b) (I s) (B s) I (gr id J E)) (s:σ):Sg P lent [.block id (.loop b)] (I s) (ji B s) J E:=by
  intro y hy
  obtain ⟨n,hn⟩:=Pb.1 hy

  have:=dB.loop (P:=P) (lent:=lent) (id:=id) (b:=b) (rest:=[]) (Q:=fun e st'=>(e,st')=oL J E y) (σ:=Nat×σ) (fun s=>I s.2) (fun s=>nI B s.1 s.2=some y) (fun s=>s.1) rfl (fun s hs=>?_) (n,s) hn
  · exact this
  · obtain ⟨n,s⟩:=s
    simp only at hs ⊢
    cases n with
    | zero=>cases hs
    | succ n =>
      simp only [nI] at hs
      split at hs
      · cases hs
      · rename_i s' hB
        refine (hb s _ hB).mono ?_
        intro e st' q
        simp only [oL,Prod.mk.injEq] at q
        obtain ⟨rfl,rfl⟩:=q
        exact ⟨(n,s'),hs,by simp,rfl⟩
      · rename_i y' hB
        simp only [Option.some.injEq] at hs;subst hs
        refine (hb s _ hB).mono ?_
        intro e st' q
        cases y' with
        | inl r =>
          simp only [oL,gr,Prod.mk.injEq] at q
          obtain ⟨rfl,rfl⟩:=q
          simp only [sA,if_true]
          exact dB.nil rfl
        | inr x =>
          simp only [oL,gr] at q
          have h1:=hE x
          have h2:=hI x
          rw [←q] at h1 h2
          simp only at h1 h2
          cases e with
          | normal=>exact (h1 rfl).elim
          | ret=>exact q
          | exit j =>
            have hj : ¬ j=id:=fun h=>h2 (by rw [h])
            simp only [sA,hj,if_false]
            exact q
def UO{κ X:Type}(m:Option (κ⊕(κ⊕X))) :Option (κ⊕X) :=
  match m with
  | none=>none
  | some (.inl a)=>some (.inl a)
  | some (.inr (.inl a))=>some (.inl a)
  | some (.inr (.inr x))=>some (.inr x)
theorem Sg.block{P:Program}{lent:List aq}{κ X:Type}{K:κ→aF}{E:X→AE×aF}{m:Option (κ⊕(κ⊕X))}{id:Nat}{b:Code}{st:aF}(hE:lh E)(hI:sK id E) 
    (hb:Sg P lent (dN b) st m K (gr id K E)):Sg P lent [.block id b] st (UO m) K E:=by
  intro r hr
  unfold UO at hr
  refine dB.block (rest:=[]) rfl ?_
  split at hr
  · cases hr
  · simp only [Option.some.injEq] at hr;subst hr
    refine (hb _ rfl).mono ?_
    intro e st' q
    simp only [oL,Prod.mk.injEq] at q
    obtain ⟨rfl,rfl⟩:=q
    exact dB.nil rfl
  · simp only [Option.some.injEq] at hr;subst hr
    refine (hb _ rfl).mono ?_
    intro e st' q
    simp only [oL,gr,Prod.mk.injEq] at q
    obtain ⟨rfl,rfl⟩:=q
    simp only [if_true]
    exact dB.nil rfl
  · rename_i x
    simp only [Option.some.injEq] at hr;subst hr
    refine (hb _ rfl).mono ?_
    intro e st' q
    simp only [oL,gr] at q
    have h1:=hE x
    have h2:=hI x
    rw [←q] at h1 h2
    simp only at h1 h2
    cases e with
    | normal=>exact (h1 rfl).elim
    | ret=>exact q
    | exit j =>
      have hj : ¬ j=id:=fun h=>h2 (by rw [h])
      simp only [hj,if_false]
      exact q
theorem Sg.scope{P:Program}{lent:List aq}{α X:Type}{N:α→aF}{E:X→AE×aF}{m:Option (α⊕X)}{b:Code}{st:aF}(hE:lh E)(hb:Sg P lent (dN b) st m N E) :Sg P lent [.scope b] st m N E:=by
  intro r hr
  refine dB.scope (rest:=[]) rfl ((hb r hr).mono ?_)
  intro e st' q
  cases r with
  | inl a =>
    simp only [oL,Prod.mk.injEq] at q
    obtain ⟨rfl,rfl⟩:=q
    exact dB.nil rfl
  | inr x =>
    refine ML ?_ q
    have:=hE x
    simp only [oL] at q
    rw [←q] at this;exact this
theorem GJ{k:Nat}{ρ0:af}{w0:World}{st:aF}{a:Act}{w:World}{c:Operand}{b kn:Bool}(h:At k ρ0 w0 st a w)(hc:OI st.tmps c=.bool kn b) :At k ρ0 w0 { st with tmps:=jU st.tmps c b } a w∧a.eval c=.bool b:=by
  obtain ⟨ρ,E,W,hs,hbk,hle⟩:=h
  have hb:a.eval c=.bool b:=by
    have:=oe hs.heap.rom hs.tmps c
    rw [hc] at this
    generalize a.eval c=z at this
    cases this;rfl
  refine ⟨⟨ρ,E,W,⟨hs.defers,?_,hs.heap⟩,hbk,hle⟩,hb⟩
  cases c with
  | tmp t =>
    simp only [jU,pq]
    have:bh ρ w (st.tmps.set t (.bool true b)) (a.tmps.toList.set t (.bool b)):=hs.tmps.set (.bool _ _) t
    have e:a.tmps.toList.set t (.bool b)=a.tmps.toList:=by
      apply List.ext_getElem?
      intro j
      rw [List.getElem?_set]
      split
      · rename_i q;subst q
        split
        · rename_i hlt
          simp only [Act.eval] at hb
          rw [Array.getD_eq_getD_getElem?] at hb
          have hlt':t<a.tmps.size:=by simpa using hlt
          rw [Array.getElem?_eq_getElem hlt'] at hb
          simp only [Option.getD_some] at hb
          simp [hlt',hb]
        · rename_i hge
          rw [List.getElem?_eq_none (by omega)]
      · rfl
    rw [e] at this;exact this
  | const v=>exact hs.tmps
  | global g=>exact hs.tmps
  | func f=>exact hs.tmps
theorem Sg.cond{P:Program}{lent:List aq}{α X:Type}{N:α→aF}{E:X→AE×aF}{m1 m2:Option (α⊕X)}{c:Operand}{A B:Code}{st:aF}{kn b:Bool}(hE:lh E)(hc:OI st.tmps c=.bool kn b) 
    (h1:Sg P lent (dN A) { st with tmps:=jU st.tmps c true } m1 N E) (h2:Sg P lent (dN B) { st with tmps:=jU st.tmps c false } m2 N E):Sg P lent [.cond c A B] st (bif b then m1 else m2) N E:=by
  intro r hr
  intro ρ0 w0 hN K hK a w hA
  simp only [zp]
  obtain ⟨hA',hb⟩:=GJ hA hc
  refine wp_cond hb ?_
  have fin:∀ (D:Code) (m:Option (α⊕X)) (st1:aF),Sg P lent (dN D) st1 m N E→m=some r→At lent.length ρ0 w0 st1 a w→D.wp P (fun e a' w'=>match e with | .normal=>K .normal a' w' | e=>K e a' w') a w:=by
    intro D m st1 hS hm hA1
    refine mt D (hS r hm ρ0 w0 hN _ ?_ a w hA1)
    intro e st' a' w' q hA2
    cases e with
    | normal=>exact hK .normal st' a' w' q hA2
    | ret=>exact hK .ret st' a' w' q hA2
    | exit id=>exact hK (.exit id) st' a' w' q hA2
  cases b with
  | true=>exact fin A m1 _ h1 hr hA'
  | false=>exact fin B m2 _ h2 hr hA'
theorem Sg.pre{P:Program}{lent:List aq}{α X:Type}{N:α→aF}{E:X→AE×aF}{m:Option (α⊕X)}{cs:List Code}{st st1:aF}(s:NS)(hn:s.ok lent.length=true)(h1:s.on st=st1)(h:Sg P lent cs st1 m N E) :Sg P lent cs st m N E :=
  fun r hr=>dB.weak (by rw [←h1];exact QH hn st) (h r hr)
def nJ{X:Type} :Option (Empty⊕X)→Option X
  | some (.inr x)=>some x
  | _=>none
theorem Sg.contract{P:Program}{f:FuncId}{fn:Func}{c:Code}{X:Type}{N:Empty→aF}{E:X→AE×aF}{m:Option (Empty⊕X)}{lent:List aq}{args:List AV}(keep:Bool)(o:X→eJ)(hf:P.funcs[f]? = some fn)(hc:fn.body=some c) 
    (h:Sg P lent (dN c) (iF fn lent args) m N E) (hE:∀ x,MG P fn lent.length keep (o x) (E x).1 (E x).2) {x:X} (hx:nJ m=some x):ak P f lent args (o x):=by
  unfold nJ at hx
  split at hx
  · rename_i x'
    simp only [Option.some.injEq] at hx;subst hx
    refine dB.contract (keep:=keep) hf hc ((h _ rfl).mono ?_)
    intro e st' q
    simp only [oL] at q
    have:=hE x'
    rw [←q] at this;exact this
  · cases hx
end
end Go.Plb
namespace Go.Plb
set_option linter.unusedSectionVars false
variable [Rom]
theorem gU{ρ X:Type}{id:Nat}{J:ρ→aF}{E:X→AE×aF}(h:lh E) :lh (gr id J E):=by
  intro x
  cases x with
  | inl r=>intro q;cases q
  | inr x=>exact h x
def il:Code→Code
  | .block _ (.loop b)=>b
  | _=>.skip
theorem Sg.cut{P:Program}{lent:List aq}{α β X:Type}{cs:List Code}{st:aF}{m:Option (α⊕X)}{N1:α→aF}{E:X→AE×aF}{k:α→Option (β⊕X)}{N:β→aF}(n:Nat)(hE:lh E) 
    (h:Sg P lent (cs.take n) st m N1 E) (hk:∀ a,Sg P lent (cs.drop n) (N1 a) (k a) N E):Sg P lent cs st (aV m k) N E:=by
  have:=Sg.seq hE h hk
  rwa [List.take_append_drop] at this
theorem Pc{P:Program}{lent:List aq}{σ ρ X:Type}{I:σ→aF}{J:ρ→aF}{E:X→AE×aF}{B:σ→Option (σ⊕(ρ⊕X))}{id:Nat}{b:Code}{cs:List Code}(hcs:cs=[.block id (.loop b)])(hE:lh E)(hI:sK id E) 
    (hb:∀ s,Sg P lent (dN b) (I s) (B s) I (gr id J E)) (s:σ):Sg P lent cs (I s) (ji B s) J E:=by rw [hcs];exact Sg.loop hE hI hb s
end Go.Plb
namespace Go.Plb.Seat
open Go Go.Plb
set_option linter.unusedSimpArgs false
set_option linter.unusedVariables false
noncomputable abbrev E0:oz:=aj []
theorem nK:ao prog E0:=xt prog
theorem QT(y:Nat) :ak prog mw [] [.flt true y] ⟨.flt true (lQ y),[]⟩:=by
  have h:fx C0 E0 (cG C0 E0 0 50) mw [] [.flt true y] (some [])=some (⟨.flt true (cj .andNot .u64 (y:Int) 9223372036854775808).toNat,[]⟩,[],some []):=by kernel_rfl
  have:=ak.run ax nK _ _ _ h trivial
  rw [QK,Int.toNat_natCast] at this;exact this
theorem VP(ex:Bool)(x:Nat) :ak prog mw [] [.flt ex x] ⟨.flt ex (lQ x),[]⟩:=by
  cases ex with
  | true=>exact QT x
  | false=>exact nG (r:=fun y=>.flt true (lQ y)) QT (fun y hf ρ w u h=>h.flt_weak (QL hf))
theorem MM(y:Nat) :ak prog kz [] [.flt true y] ⟨.flt true (lQ y),[]⟩:=by
  have h:fx C0 E0 (cG C0 E0 0 50) kz [] [.flt true y] (some [])=some (⟨.flt true ((IntKind.u64.wrap ((y:Int)*2^min (Int.toNat 1) IntKind.u64.bits)).fdiv (2^min (Int.toNat 1) IntKind.u64.bits)).toNat,[]⟩,[true,true],some []):=by kernel_rfl
  have:=ak.run ax nK _ _ _ h ⟨rfl,rfl,trivial⟩
  rw [MH,Int.toNat_natCast] at this;exact this
theorem Vk(ex:Bool)(x:Nat) :ak prog kz [] [.flt ex x] ⟨.flt ex (lQ x),[]⟩:=by
  cases ex with
  | true=>exact MM x
  | false=>exact nG (r:=fun y=>.flt true (lQ y)) MM (fun y hf ρ w u h=>h.flt_weak (QL hf))
theorem vc(x y:Nat) :ak prog fM [] [.flt true x,.flt true y] ⟨.flt true (ia x y),[]⟩:=by
  have h:fx C0 E0 (cG C0 E0 0 50) fM [] [.flt true x,.flt true y] (some [])=some (⟨.flt true (cj .or .u64 (cj .andNot .u64 (x:Int) 9223372036854775808) (cj .and .u64 (y:Int) 9223372036854775808)).toNat,[]⟩,[],some []):=by kernel_rfl
  have:=ak.run ax nK _ _ _ h trivial
  rw [QK,Vh,UN,Int.toNat_natCast] at this;exact this
theorem Ko(e1 e2:Bool)(x y:Nat)(hn:isNaN y=true→isNaN x=true) :ak prog fM [] [.flt e1 x,.flt e2 y] ⟨.flt false (ia x y),[]⟩ :=
  nH (r:=fun x y=>.flt true (ia x y)) vc (fun x' y' h1 h2 ρ w u h=>h.flt_weak (FR.copy h1 h2 hn))
theorem GM(x y:Nat) :ak prog jq [] [.flt true x,.flt true y] ⟨.flt true (ia x y),[]⟩:=by
  have h:fx C0 E0 (cG C0 E0 0 50) jq [] [.flt true x,.flt true y] (some [])=some (⟨.flt true (cj .or .u64
      ((IntKind.u64.wrap ((x:Int)*2^min (Int.toNat 1) IntKind.u64.bits)).fdiv (2^min (Int.toNat 1) IntKind.u64.bits))
      (IntKind.u64.wrap ((y:Int).fdiv (2^min (Int.toNat 63) IntKind.u64.bits)*2^min (Int.toNat 63) IntKind.u64.bits))).toNat,[]⟩,[true,true,true,true],some []):=by kernel_rfl
  have:=ak.run ax nK _ _ _ h ⟨rfl,rfl,rfl,rfl,trivial⟩
  rw [MH,Up,UN,Int.toNat_natCast] at this;exact this
theorem Uu(e1 e2:Bool)(x y:Nat)(hn:isNaN y=true→isNaN x=true) :ak prog jq [] [.flt e1 x,.flt e2 y] ⟨.flt false (ia x y),[]⟩ :=
  nH (r:=fun x y=>.flt true (ia x y)) GM (fun x' y' h1 h2 ρ w u h=>h.flt_weak (FR.copy h1 h2 hn))
def El(L:List aq)(args:List AV) :Option (List iS) :=
  match L,args with
  | [],[.flt e1 x,.flt e2 y]=>bif e1&&e2 then one (.flt true (ia x y)) [] else one (.flt false (ia x y)) [!isNaN y||isNaN x]
  | _,_=>none
def QU:ae:=⟨mw,fun L args=>match L,args with | [],[.flt e x]=>one (.flt e (lQ x)) [] | _,_=>none⟩
def Kp:ae:=⟨kz,fun L args=>match L,args with | [],[.flt e x]=>one (.flt e (lQ x)) [] | _,_=>none⟩
def xE:ae:=⟨fM,El⟩
def MN:ae:=⟨jq,El⟩
theorem QV:ah prog QU:=by
  intro L args alts a h ha ho
  simp only [QU] at h
  split at h
  · exact jE h ha ho fun _=>VP _ _
  · cases h
theorem Pd:ah prog Kp:=by
  intro L args alts a h ha ho
  simp only [Kp] at h
  split at h
  · exact jE h ha ho fun _=>Vk _ _
  · cases h
theorem Vl{x y:Nat}(h:ap [!isNaN y||isNaN x]) :isNaN y=true→isNaN x=true:=by
  intro hy;have:=h.1;rw [hy] at this;simpa using this
theorem MO{f:FuncId}(hT:∀ x y,ak prog f [] [.flt true x,.flt true y] ⟨.flt true (ia x y),[]⟩) 
    (hF:∀ e1 e2 x y,(isNaN y=true→isNaN x=true)→ak prog f [] [.flt e1 x,.flt e2 y] ⟨.flt false (ia x y),[]⟩):ah prog ⟨f,El⟩:=by
  intro L args alts a h ha ho
  simp only [El] at h
  split at h
  · rename_i e1 x e2 y
    cases e1<;>cases e2<;>first | exact jE h ha ho fun q=>hF _ _ _ _ (Vl q) | exact jE h ha ho fun q=>hT _ _
  · cases h
theorem zY:ah prog xE:=MO vc Ko
theorem Kq:ah prog MN:=MO GM Uu
def L1:List ae:=[QU,Kp,xE,MN]
def S1:oz:=aj L1
theorem VQ:ao prog S1:=aa QV (aa Pd (aa zY (aa Kq (xt _))))
end Go.Plb.Seat
namespace Go.Plb
noncomputable section
set_option linter.unusedSimpArgs false
set_option linter.unusedVariables false
set_option linter.unusedSectionVars false
variable [Rom]
def ac{α:Type}(o n:Nat)(l:List α) :List α:=(gE o l).take n
theorem MP{α:Type}(o n:Nat)(l:List α) :ac o n l=(l.drop o).take n:=by
  unfold ac gE;cases o<;>rfl
theorem fE{α:Type}{o n:Nat}{l:List α}(h:o+n≤l.length) :(ac o n l).length=n:=by rw [MP];simp;omega
theorem QW{α:Type}{o n:Nat}{l:List α}{i:Nat}{v:α}(h:(ac o n l)[i]? = some v) :l[o+i]? = some v:=by
  rw [MP,List.getElem?_take] at h
  split at h
  · rw [List.getElem?_drop] at h;exact h
  · cases h
def bb{α:Type}(o n:Nat)(xs:List α) :Bool:=Nat.ble (o+n) xs.length
theorem sL{α:Type}{o n:Nat}{xs:List α} :bb o n xs=true↔o+n≤xs.length:=by unfold bb;rw [Nat.ble_eq]
theorem vH{l:Lv}{d d':aq}{w es o n:Nat}(h:∀ x v,d'.cell? x=some v→d.cell? (o*w+x)=some v)(hr:d.recKept→d'.recKept)(hk:d'.kept=true)(hg:d'.foreign=true) :
    aH (.imm l d w es o n) (.imm l d' w es 0 n):=by
  intro ρ w' u hv
  cases hv with
  | imm _ _ _ _ _ _ cap bl o' u' ha hb hc hv' hl' hr' _ _ =>
    have:=VR.imm (ρ:=ρ) (w:=w') l d' w es 0 n cap bl (o'+o*w) (fun x=>u' (o*w+x)) ha hb
      (fun x v hx=>by rw [Nat.add_assoc];exact hc _ v (h x v hx)) (fun x v hx=>hv' _ v (h x v hx)) hl' (hr hr') (fun _=>hk) hg
    simpa using this
  | immEnd _ _ _ _ _ _ _ hr'=>exact .immEnd _ _ _ _ _ _ _ (hr hr') (fun _=>hk) hg
theorem vI{l:Lv}{d':aq}{w es:Nat}(hr:d'.recKept)(hk:d'.kept=true)(hg:d'.foreign=true) :aH .nsl (.imm l d' w es 0 0):=by
  intro ρ w' u hv;cases hv;exact .immEnd _ _ _ _ _ _ _ hr (fun _=>hk) hg
theorem vJ{l:Lv}{d':aq}{w es:Nat}(hr:d'.recKept)(hk:d'.kept=true)(hg:d'.foreign=true) :aH .esl (.imm l d' w es 0 0):=by
  intro ρ w' u hv;cases hv;exact .immEnd _ _ _ _ _ _ _ hr (fun _=>hk) hg
theorem dj.get:∀ {l1 l2:List AV},dj l1 l2→∀ {x:Nat} {v:AV},l2[x]? = some v→∃ v0,l1[x]? = some v0∧aH v0 v
  | _,_,.nil,x,v,h=>by simp at h
  | _,_,.cons a t,0,v,h=>by simp at h;subst h;exact ⟨_,rfl,a⟩
  | _,_,.cons a t,x+1,v,h=>by
    obtain ⟨v0,h1,h2⟩:=dj.get t (by simpa using h)
    exact ⟨v0,by simpa using h1,h2⟩
theorem xF{lv:Lv}{l1 l2:List AV}{k i j:Nat}(h:dj l1 l2)(hk:bK l1=true→bK l2=true)(hg:aN l1=true→aN l2=true) :aH (.iptr lv (.vs l1) k i j) (.iptr lv (.vs l2) k i j):=by
  intro ρ w u hv
  cases hv with | iptr _ _ _ _ _ bl o u' ha hb hc hv' hr hk' hg' =>
  refine .iptr _ _ _ _ _ bl o u' ha hb (fun x v hx=>?_) (fun x v hx=>?_) trivial (fun q=>hk (hk' q)) (hg hg')
  · obtain ⟨v0,h1,h2⟩:=h.get hx
    exact hc x v0 h1
  · obtain ⟨v0,h1,h2⟩:=h.get hx
    exact h2 _ _ _ (hv' x v0 h1)
theorem aH.fn{f:Fn}{a b a' b':List AV}(h:dj a a')(k:dj b b') :aH (.fn f a b) (.fn f a' b'):=by
  intro ρ w u hv
  cases hv with | fn _ _ _ c1 c2 h1 h2=>exact .fn _ _ _ _ _ (h.vrs h1) (k.vrs h2)
theorem aH.iface{t:TypeId}{a b:AV}(h:aH a b) :aH (.iface t a) (.iface t b):=by
  intro ρ w u hv
  cases hv with | iface _ _ u h1=>exact .iface _ _ _ (h _ _ _ h1)
theorem aH.any(v:AV) :aH v .any:=fun _ _ u _=>.any u
inductive CK where
  | cf
  | ci (k:IntKind)
  | cb
  | cs
  | cfl
  | cns (k:IntKind)
def CK.Ty:CK→Type
  | .cf=>List Nat
  | .ci _=>List Int
  | .cb=>List Bool
  | .cs=>List ByteArray
  | .cfl=>List (List Nat)
  | .cns _=>List (List Int)
def CK.fit:(k:CK)→(o n:Nat)→dd→Option k.Ty
  | .cf,o,n,.cf xs=>some (ac o n xs)
  | .ci k,o,n,.ci k' xs=>bif bc k k' then some (ac o n xs) else none
  | .cb,o,n,.cb xs=>some (ac o n xs)
  | .cs,o,n,.cs xs=>some (ac o n xs)
  | .cfl,o,n,.cfl xs=>some (ac o n xs)
  | .cns k,o,n,.cns k' xs=>bif bc k k' then some (ac o n xs) else none
  | _,_,_,_=>none
def CK.emp:(k:CK)→k.Ty
  | .cf=>([]:List Nat)
  | .ci _=>([]:List Int)
  | .cb=>([]:List Bool)
  | .cs=>([]:List ByteArray)
  | .cfl=>([]:List (List Nat))
  | .cns _=>([]:List (List Int))
def CK.col:(k:CK)→k.Ty→dd
  | .cf,xs=>.cf xs
  | .ci k,xs=>.ci k xs
  | .cb,xs=>.cb xs
  | .cs,xs=>.cs xs
  | .cfl,xs=>.cfl xs
  | .cns k,xs=>.cns k xs
theorem jF{a b:IntKind} :bc a b=true↔a=b:=by simp [bc]
theorem iG{α:Type}{f:α→AV}{o n i:Nat}{xs:List α}{v:AV}(h:((ac o n xs)[i]?).map f=some v) :(xs[o+i]?).map f=some v:=by
  simp only [Option.map_eq_some_iff] at h ⊢
  obtain ⟨y,h1,h2⟩:=h
  exact ⟨y,QW h1,h2⟩
theorem CK.fit_spec:∀ {k:CK} {o n:Nat} {c:dd} {t:k.Ty},k.fit o n c=some t→(o+n≤c.len→(k.col t).len=n)∧∀ i v,(k.col t).cell? i=some v→c.cell? (o+i)=some v:=by
  intro k o n c t h
  cases k<;>cases c<;>simp only [CK.fit] at h<;>try (cases h;done)
  case cf.cf xs=>cases h;exact ⟨fun q=>fE q,fun i v q=>iG q⟩
  case ci.ci k k' xs =>
    cases e:bc k k' with
    | false=>rw [e] at h;cases h
    | true=>rw [e] at h;cases h;cases (jF.1 e);exact ⟨fun q=>fE q,fun i v q=>iG q⟩
  case cb.cb xs=>cases h;exact ⟨fun q=>fE q,fun i v q=>iG q⟩
  case cs.cs xs=>cases h;exact ⟨fun q=>fE q,fun i v q=>iG q⟩
  case cfl.cfl xs=>cases h;exact ⟨fun q=>fE q,fun i v q=>iG q⟩
  case cns.cns k k' xs =>
    cases e:bc k k' with
    | false=>rw [e] at h;cases h
    | true=>rw [e] at h;cases h;cases (jF.1 e);exact ⟨fun q=>fE q,fun i v q=>iG q⟩
theorem CK.emp_len:∀ (k:CK),(k.col k.emp).len=0:=by intro k;cases k<;>rfl
def CKs.Ty:List CK→Type
  | []=>Unit
  | k::l=>k.Ty×CKs.Ty l
def CKs.fit:(l:List CK)→(o n:Nat)→List dd→Option (CKs.Ty l)
  | [],_,_,[]=>some ()
  | k::l,o,n,c::cs=>(k.fit o n c).bind fun t=>(CKs.fit l o n cs).map fun r=>(t,r)
  | _,_,_,_=>none
def CKs.emp:(l:List CK)→CKs.Ty l
  | []=>()
  | k::l=>(k.emp,CKs.emp l)
def CKs.cols:(l:List CK)→CKs.Ty l→List dd
  | [],_=>[]
  | k::l,t=>k.col t.1::CKs.cols l t.2
theorem CKs.len:∀ {l:List CK} {t:CKs.Ty l},(CKs.cols l t).length=l.length
  | [],t=>rfl
  | k::l,t=>by simp [CKs.cols,CKs.len]
theorem ve:∀ {l:List CK} {o n:Nat} {cs:List dd} {t:CKs.Ty l},CKs.fit l o n cs=some t→cs.length=l.length
  | [],o,n,[],t,h=>rfl
  | [],o,n,c::cs,t,h=>by simp [CKs.fit] at h
  | k::l,o,n,[],t,h=>by simp [CKs.fit] at h
  | k::l,o,n,c::cs,t,h=>by
    simp only [CKs.fit] at h
    cases e1:k.fit o n c with
    | none=>rw [e1] at h;cases h
    | some a =>
      rw [e1] at h
      cases e2:CKs.fit l o n cs with
      | none=>simp only [Option.bind_some,e2] at h;cases h
      | some b=>simp [ve e2]
theorem CKs.fit_spec:∀ {l:List CK} {o n:Nat} {cs:List dd} {t:CKs.Ty l},CKs.fit l o n cs=some t→∀ (j:Nat) (c':dd),(CKs.cols l t)[j]? = some c'→∃ c:dd,cs[j]? = some c∧(o+n≤c.len→c'.len=n)∧∀ i v,c'.cell? i=some v→c.cell? (o+i)=some v
  | [],o,n,cs,t,h,j,c',q=>by simp [CKs.cols] at q
  | k::l,o,n,[],t,h,j,c',q=>by simp [CKs.fit] at h
  | k::l,o,n,c::cs,t,h,j,c',q=>by
    simp only [CKs.fit] at h
    cases e1:k.fit o n c with
    | none=>rw [e1] at h;cases h
    | some a =>
      rw [e1] at h
      cases e2:CKs.fit l o n cs with
      | none=>simp only [Option.bind_some,e2] at h;cases h
      | some b =>
        simp only [Option.bind_some,e2] at h
        cases h
        cases j with
        | zero=>simp [CKs.cols] at q;subst q;exact ⟨c,rfl,CK.fit_spec e1⟩
        | succ j=>exact CKs.fit_spec e2 j c' (by simpa [CKs.cols] using q)
theorem CKs.emp_len:∀ (l:List CK),∀ c∈CKs.cols l (CKs.emp l),c.len=0
  | [],c,h=>by cases h
  | k::l,c,h=>by
    simp only [CKs.cols,CKs.emp,List.mem_cons] at h
    rcases h with rfl | h
    · exact CK.emp_len k
    · exact CKs.emp_len l c h
mutual
inductive rO where
  | int (k:IntKind)
  | flt (ex:Bool)
  | bool
  | kbool (b:Bool)
  | str
  | fl
  | ns (k:IntKind)
  | bs
  | ss
  | cols (l:List CK)
  | ivs (ps:hZ) (w i j:Nat)
  | fn (f:FuncId) (a b:hZ)
  | nfn
  | nptr
  | nsl
  | agg (ps:hZ)
  | tup (ps:hZ)
  | iface (t:TypeId) (p:rO)
  | niface
  | any
  | lsl (b:Nat)
  | lptr (b w i j:Nat)
inductive hZ where
  | nil
  | cons (p:rO) (ps:hZ)
end
mutual
def rO.Ty:rO→Type
  | .int _=>Int
  | .flt _=>Nat
  | .bool=>Bool
  | .str=>ByteArray
  | .fl=>Lv×List Nat
  | .ns _=>Lv×List Int
  | .bs=>Lv×List Bool
  | .ss=>Lv×List ByteArray
  | .cols l=>Lv×Nat×CKs.Ty l
  | .ivs ps _ _ _=>Lv×ps.Ty
  | .fn _ a b=>a.Ty×b.Ty
  | .agg ps=>ps.Ty
  | .tup ps=>ps.Ty
  | .iface _ p=>p.Ty
  | .kbool _=>Unit
  | .nfn=>Unit
  | .nptr=>Unit
  | .nsl=>Unit
  | .niface=>Unit
  | .any=>Unit
  | .lsl _=>Nat×Nat×Nat
  | .lptr _ _ _ _=>Unit
def hZ.Ty:hZ→Type
  | .nil=>Unit
  | .cons p ps=>p.Ty×ps.Ty
end
mutual
def rO.av:(p:rO)→p.Ty→AV
  | .int k,n=>.int k n
  | .flt ex,x=>.flt ex x
  | .bool,b=>.bool false b
  | .str,s=>.str s
  | .fl,t=>.imm t.1 (.fl t.2) 1 1 0 t.2.length
  | .ns k,t=>.imm t.1 (.ns k t.2) 1 1 0 t.2.length
  | .bs,t=>.imm t.1 (.bs t.2) 1 1 0 t.2.length
  | .ss,t=>.imm t.1 (.ss t.2) 1 1 0 t.2.length
  | .cols l,t=>.imm t.1 (.cols t.2.1 (CKs.cols l t.2.2)) l.length l.length 0 t.2.1
  | .ivs ps w i j,t=>.iptr t.1 (.vs (ps.avs t.2)) w i j
  | .fn f a b,t=>.fn (.func f) (a.avs t.1) (b.avs t.2)
  | .agg ps,t=>.agg (ps.avs t)
  | .tup ps,t=>.tup (ps.avs t)
  | .iface y p,t=>.iface y (p.av t)
  | .kbool b,_=>.bool true b
  | .nfn,_=>.nfn
  | .nptr,_=>.nptr
  | .nsl,_=>.nsl
  | .niface,_=>.niface
  | .any,_=>.any
  | .lsl b,t=>.sl b 1 1 t.1 t.2.1 t.2.2
  | .lptr b w i j,_=>.ptr b w i j
def hZ.avs:(ps:hZ)→ps.Ty→List AV
  | .nil,_=>[]
  | .cons p ps,t=>p.av t.1::ps.avs t.2
end
def Kr(a b:Bool) :Bool:=bif a then b else !b
theorem Ks{a b:Bool} :Kr a b=true↔a=b:=by cases a<;>cases b<;>simp [Kr]
def CKs.ok(n:Nat)(m:Nat) :Bool:=Nat.ble n m
def QX(k:IntKind) :AV→Option (Int×List Bool)
  | .int k' n=>bif bc k k' then some (n,[]) else none
  | _=>none
def QY(ex:Bool) :AV→Option (Nat×List Bool)
  | .flt ex' x=>bif ex && !ex' then none else some (x,[])
  | _=>none
def MQ:AV→Option (Bool×List Bool)
  | .bool kn b=>bif kn then none else some (b,[])
  | _=>none
def GN(b:Bool) :AV→Option (Unit×List Bool)
  | .bool kn b'=>bif kn&&Kr b b' then some ((),[]) else none
  | _=>none
def QZ:AV→Option (ByteArray×List Bool)
  | .str s=>some (s,[])
  | _=>none
def Bw{α:Type}(f:aq→Option (List α)) :AV→Option ((Lv×List α)×List Bool)
  | .imm l d w es o n=>(f d).bind fun xs=>bif Nat.beq w 1&&Nat.beq es 1 then some ((l,ac o n xs),[bb o n xs]) else none
  | .nsl=>some ((.free,[]),[])
  | .esl=>some ((.free,[]),[])
  | _=>none
def Q0:aq→Option (List Nat)
  | .fl xs=>some xs
  | _=>none
def Q2(k:IntKind) :aq→Option (List Int)
  | .ns k' xs=>bif bc k k' then some xs else none
  | _=>none
def Q3:aq→Option (List Bool)
  | .bs xs=>some xs
  | _=>none
def UP:aq→Option (List ByteArray)
  | .ss xs=>some xs
  | _=>none
def UQ:aq→Option (List AV)
  | .vs xs=>some xs
  | _=>none
def MR:aq→Option (Nat×List dd)
  | .cols m cs=>some (m,cs)
  | _=>none
def Em(ks:List CK) :AV→Option ((Lv×Nat×CKs.Ty ks)×List Bool)
  | .imm l d w es o n=>(MR d).bind fun q=>bif Nat.beq w ks.length&&Nat.beq es ks.length then (CKs.fit ks o n q.2).map fun t=>((l,n,t),[Nat.ble (o+n) q.1]) else none
  | .nsl=>some ((.free,0,CKs.emp ks),[])
  | .esl=>some ((.free,0,CKs.emp ks),[])
  | _=>none
def UR(w i j:Nat) :AV→Option (Lv×List AV)
  | .iptr l d w' i' j'=>(UQ d).bind fun xs=>bif Nat.beq w w'&&(Nat.beq i i'&&Nat.beq j j') then some (l,xs) else none
  | _=>none
def VS(f:FuncId) :AV→Option (List AV×List AV)
  | .fn (.func f') x y=>bif Nat.beq f f' then some (x,y) else none
  | _=>none
def US:AV→Option (List AV)
  | .agg l=>some l
  | _=>none
def UT:AV→Option (List AV)
  | .tup l=>some l
  | _=>none
def MS(t:TypeId) :AV→Option AV
  | .iface t' v=>bif Nat.beq t t' then some v else none
  | _=>none
def UU:AV→Option (Unit×List Bool)
  | .nfn=>some ((),[])
  | _=>none
def Q4:AV→Option (Unit×List Bool)
  | .nptr=>some ((),[])
  | _=>none
def UV:AV→Option (Unit×List Bool)
  | .nsl=>some ((),[])
  | _=>none
def Q5(b:Nat) :AV→Option ((Nat×Nat×Nat)×List Bool)
  | .sl b' w es i len cap=>bif Nat.beq b b'&&(Nat.beq w 1&&Nat.beq es 1) then some ((i,len,cap),[]) else none
  | _=>none
def MT(b w i j:Nat) :AV→Option (Unit×List Bool)
  | .ptr b' w' i' j'=>bif (Nat.beq b b'&&Nat.beq w w')&&(Nat.beq i i'&&Nat.beq j j') then some ((),[]) else none
  | _=>none
def GO:AV→Option (Unit×List Bool)
  | .niface=>some ((),[])
  | _=>none
mutual
def rO.fit:(p:rO)→AV→Option (p.Ty×List Bool)
  | .int k=>QX k
  | .flt ex=>QY ex
  | .bool=>MQ
  | .kbool b=>GN b
  | .str=>QZ
  | .fl=>Bw Q0
  | .ns k=>Bw (Q2 k)
  | .bs=>Bw Q3
  | .ss=>Bw UP
  | .cols ks=>Em ks
  | .ivs ps w i j=>fun v=>match UR w i j v with
    | some q=>match ps.fit q.2 with
      | some r=>some ((q.1,r.1),r.2)
      | none=>none
    | none=>none
  | .fn f a b=>fun v=>match VS f v with
    | some q=>match a.fit q.1 with
      | some r=>match b.fit q.2 with
        | some s=>some ((r.1,s.1),r.2++s.2)
        | none=>none
      | none=>none
    | none=>none
  | .agg ps=>fun v=>match US v with
    | some l=>ps.fit l
    | none=>none
  | .tup ps=>fun v=>match UT v with
    | some l=>ps.fit l
    | none=>none
  | .iface t p=>fun v=>match MS t v with
    | some u=>p.fit u
    | none=>none
  | .nfn=>UU
  | .nptr=>Q4
  | .nsl=>UV
  | .niface=>GO
  | .any=>fun _=>some ((),[])
  | .lsl b=>Q5 b
  | .lptr b w i j=>MT b w i j
def hZ.fit:(ps:hZ)→List AV→Option (ps.Ty×List Bool)
  | .nil=>fun l=>match l with
    | []=>some ((),[])
    | _::_=>none
  | .cons p ps=>fun l=>match l with
    | []=>none
    | v::l=>match p.fit v with
      | some r=>match ps.fit l with
        | some s=>some ((r.1,s.1),r.2++s.2)
        | none=>none
      | none=>none
end
theorem Pe{ks:List CK}{o n m:Nat}{cs:List dd}{t:CKs.Ty ks}(h:CKs.fit ks o n cs=some t) :∀ x v,(aq.cols n (CKs.cols ks t)).cell? x=some v→(aq.cols m cs).cell? (o*ks.length+x)=some v:=by
  intro x v hx
  have hl:=ve h
  obtain ⟨c',h1,_,h3⟩:=dq hx
  obtain ⟨c,q1,_,q3⟩:=CKs.fit_spec h _ _ h1
  rw [CKs.len] at h1 h3 q1
  have hpos:0<ks.length:=by
    have:=(List.getElem?_eq_some_iff.1 q1).1
    omega
  simp only [aq.cell?,hl,Option.bind_eq_some_iff]
  refine ⟨c,?_,?_⟩
  · rw [Nat.add_comm,Nat.add_mul_mod_self_right];exact q1
  · rw [Nat.add_comm,Nat.add_mul_div_right _ _ hpos,Nat.add_comm];exact q3 _ _ h3
structure Wk (v v':AV):Prop where
  weak:aH v v'
  kept:v.kept=true→v'.kept=true
  foreign:v.foreign=true→v'.foreign=true
structure V9 (v v':List AV):Prop where
  weak:dj v v'
  kept:bK v=true→bK v'=true
  foreign:aN v=true→aN v'=true
theorem Wk.refl(v:AV) :Wk v v:=⟨aH.refl v,id,id⟩
theorem Wk.fltL(x:Nat) :Wk (.flt true x) (.flt false x):=⟨fun ρ w u h=>(by
  cases h with | flt _ _ y hf =>
  rcases hf with rfl | ⟨q,_⟩
  · exact .flt _ _ _ (.inl rfl)
  · cases q),id,id⟩
theorem V9.cons{v v':AV}{l l':List AV}(h:Wk v v')(k:V9 l l') :V9 (v::l) (v'::l') :=
  ⟨.cons h.weak k.weak,fun q=>by simp only [bK,Bool.and_eq_true] at q ⊢;exact ⟨h.kept q.1,k.kept q.2⟩,fun q=>by simp only [aN,Bool.and_eq_true] at q ⊢;exact ⟨h.foreign q.1,k.foreign q.2⟩⟩
theorem Wk.part{l:Lv}{d d':aq}{w es o n:Nat}(h:∀ x v,d'.cell? x=some v→d.cell? (o*w+x)=some v)(hr:d.recKept→d'.recKept)(hk:d'.kept=true)(hg:d'.foreign=true) :Wk (.imm l d w es o n) (.imm l d' w es 0 n) :=
  ⟨vH h hr hk hg,id,id⟩
theorem Wk.nsl{d':aq}{w es:Nat}(hr:d'.recKept)(hk:d'.kept=true)(hg:d'.foreign=true) :Wk .nsl (.imm .free d' w es 0 0):=⟨vI hr hk hg,id,id⟩
theorem Wk.esl{d':aq}{w es:Nat}(hr:d'.recKept)(hk:d'.kept=true)(hg:d'.foreign=true) :Wk .esl (.imm .free d' w es 0 0):=⟨vJ hr hk hg,id,id⟩
theorem Wk.fl{l:Lv}{xs:List Nat}{o n:Nat}(h:bb o n xs=true) :Wk (.imm l (.fl xs) 1 1 o n) (.imm l (.fl (ac o n xs)) 1 1 0 (ac o n xs).length):=by
  rw [fE (sL.1 h)];exact .part (fun x v q=>by rw [Nat.mul_one];exact iG q) (fun _=>trivial) rfl rfl
theorem Wk.ns{k:IntKind}{l:Lv}{xs:List Int}{o n:Nat}(h:bb o n xs=true) :Wk (.imm l (.ns k xs) 1 1 o n) (.imm l (.ns k (ac o n xs)) 1 1 0 (ac o n xs).length):=by
  rw [fE (sL.1 h)];exact .part (fun x v q=>by rw [Nat.mul_one];exact iG q) (fun _=>trivial) rfl rfl
theorem Wk.bs{l:Lv}{xs:List Bool}{o n:Nat}(h:bb o n xs=true) :Wk (.imm l (.bs xs) 1 1 o n) (.imm l (.bs (ac o n xs)) 1 1 0 (ac o n xs).length):=by
  rw [fE (sL.1 h)];exact .part (fun x v q=>by rw [Nat.mul_one];exact iG q) (fun _=>trivial) rfl rfl
theorem Wk.ss{l:Lv}{xs:List ByteArray}{o n:Nat}(h:bb o n xs=true) :Wk (.imm l (.ss xs) 1 1 o n) (.imm l (.ss (ac o n xs)) 1 1 0 (ac o n xs).length):=by
  rw [fE (sL.1 h)];exact .part (fun x v q=>by rw [Nat.mul_one];exact iG q) (fun _=>trivial) rfl rfl
theorem Q6{ks:List CK}{o n m:Nat}{cs:List dd}{t:CKs.Ty ks}(h:CKs.fit ks o n cs=some t)(hm:o+n≤m) :(aq.cols m cs).recKept→(aq.cols n (CKs.cols ks t)).recKept:=by
  intro hr c hc
  obtain ⟨j,hj⟩:=List.getElem?_of_mem hc
  obtain ⟨c0,q1,q2,_⟩:=CKs.fit_spec h j c hj
  exact q2 (by rw [hr c0 (List.mem_of_getElem? q1)];exact hm)
theorem VT{w es n:Nat}(h:(Nat.beq w n&&Nat.beq es n)=true) :w=n∧es=n:=by
  rw [Bool.and_eq_true] at h;exact ⟨Nat.eq_of_beq_eq_true h.1,Nat.eq_of_beq_eq_true h.2⟩
theorem jr{α:Type}{c:Bool}{a:α}{x:α}(h:(bif c then some a else none)=some x) :c=true∧a=x:=by
  cases c with
  | true=>exact ⟨rfl,by simpa using h⟩
  | false=>cases h
theorem VU{α:Type}{c:Bool}{a:Option α}{x:α}(h:(bif c then a else none)=some x) :c=true∧a=some x:=by
  cases c with
  | true=>exact ⟨rfl,h⟩
  | false=>cases h
theorem mB{α:Type}{f:aq→Option (List α)}{g:List α→aq}(hg:∀ {d xs},f d=some xs→d=g xs) 
    (hw:∀ {l xs o n},bb o n xs=true→Wk (.imm l (g xs) 1 1 o n) (.imm l (g (ac o n xs)) 1 1 0 (ac o n xs).length)) (h0:(g []).recKept∧(g []).kept=true∧(g []).foreign=true)
    {v:AV} {t:Lv×List α} {o:List Bool} (h:Bw f v=some (t,o)) (ho:ap o):Wk v (.imm t.1 (g t.2) 1 1 0 t.2.length):=by
  unfold Bw at h
  split at h
  · rename_i l d w es i n
    cases e:f d with
    | none=>rw [e] at h;cases h
    | some xs =>
      rw [e] at h
      obtain ⟨e2,h⟩:=jr h
      obtain ⟨rfl,rfl⟩:=VT e2
      cases h;cases hg e;exact hw ho.1
  · cases h;exact .nsl h0.1 h0.2.1 h0.2.2
  · cases h;exact .esl h0.1 h0.2.1 h0.2.2
  · cases h
theorem En{ks:List CK}{v:AV}{t:Lv×Nat×CKs.Ty ks}{o:List Bool}(h:Em ks v=some (t,o))(ho:ap o) :Wk v (.imm t.1 (.cols t.2.1 (CKs.cols ks t.2.2)) ks.length ks.length 0 t.2.1):=by
  unfold Em at h
  split at h
  · rename_i l d w es i n
    cases d<;>simp only [MR,Option.bind_none,Option.bind_some,reduceCtorEq] at h
    rename_i m cs
    have e:=(VU h).1;replace h:=(VU h).2
    obtain ⟨rfl,rfl⟩:=VT e
    cases e2:CKs.fit ks i n cs with
    | none=>rw [e2] at h;cases h
    | some r =>
      rw [e2] at h;cases h
      have:i+n≤m:=Nat.le_of_ble_eq_true ho.1
      exact .part (Pe e2) (Q6 e2 this) rfl rfl
  · cases h;exact .nsl (CKs.emp_len ks) rfl rfl
  · cases h;exact .esl (CKs.emp_len ks) rfl rfl
  · cases h
mutual
theorem rO.fit_spec:∀ (p:rO) (v:AV) {t:p.Ty} {o:List Bool},p.fit v=some (t,o)→ap o→Wk v (p.av t)
  | .int k,v,t,o,h,ho=>by
    simp only [rO.fit,QX] at h
    split at h
    · obtain ⟨e,h⟩:=jr h
      cases h;cases jF.1 e;exact .refl _
    · cases h
  | .flt ex,v,t,o,h,ho=>by
    simp only [rO.fit,QY] at h
    split at h
    · rename_i ex' x
      cases ex with
      | true =>
        cases ex' with
        | true=>cases h;exact .refl _
        | false=>cases h
      | false =>
        cases ex' with
        | true=>cases h;exact .fltL x
        | false=>cases h;exact .refl _
    · cases h
  | .bool,v,t,o,h,ho=>by
    simp only [rO.fit,MQ] at h
    split at h
    · rename_i kn b
      cases kn with
      | true=>cases h
      | false=>cases h;exact .refl _
    · cases h
  | .kbool b,v,t,o,h,ho=>by
    simp only [rO.fit,GN] at h
    split at h
    · obtain ⟨e,h⟩:=jr h
      rw [Bool.and_eq_true] at e
      cases e.1;cases Ks.1 e.2;exact .refl _
    · cases h
  | .str,v,t,o,h,ho=>by
    simp only [rO.fit,QZ] at h
    split at h
    · cases h;exact .refl _
    · cases h
  | .fl,v,t,o,h,ho=>mB (g:=.fl) (f:=Q0) (fun {d xs} e=>by cases d<;>cases e;rfl) (fun q=>.fl q) ⟨trivial,rfl,rfl⟩ h ho
  | .ns k,v,t,o,h,ho=>mB (g:=.ns k) (f:=Q2 k) (fun {d xs} e=>by
      cases d<;>try (cases e;done)
      have e1:=(jr e).1;replace e:=(jr e).2
      cases jF.1 e1;cases e;rfl) (fun q=>.ns q) ⟨trivial,rfl,rfl⟩ h ho
  | .bs,v,t,o,h,ho=>mB (g:=.bs) (f:=Q3) (fun {d xs} e=>by cases d<;>cases e;rfl) (fun q=>.bs q) ⟨trivial,rfl,rfl⟩ h ho
  | .ss,v,t,o,h,ho=>mB (g:=.ss) (f:=UP) (fun {d xs} e=>by cases d<;>cases e;rfl) (fun q=>.ss q) ⟨trivial,rfl,rfl⟩ h ho
  | .cols ks,v,t,o,h,ho=>En h ho
  | .ivs ps w i j,v,t,o,h,ho=>by
    simp only [rO.fit] at h
    split at h
    case h_2=>cases h
    rename_i q hq
    split at h
    case h_2=>cases h
    rename_i r hr
    cases h
    unfold UR at hq
    split at hq
    case h_2=>cases hq
    rename_i l d w' i' j'
    cases d<;>simp only [UQ,Option.bind_none,Option.bind_some,reduceCtorEq] at hq
    rename_i xs
    have e:=(jr hq).1;replace hq:=(jr hq).2
    rw [Bool.and_eq_true,Bool.and_eq_true] at e
    cases Nat.eq_of_beq_eq_true e.1
    cases Nat.eq_of_beq_eq_true e.2.1
    cases Nat.eq_of_beq_eq_true e.2.2
    cases hq
    have:=hZ.fit_spec ps xs hr ho
    exact ⟨xF this.weak this.kept this.foreign,id,id⟩
  | .fn f a b,v,t,o,h,ho=>by
    simp only [rO.fit] at h
    split at h
    case h_2=>cases h
    rename_i q hq
    split at h
    case h_2=>cases h
    rename_i r hr
    split at h
    case h_2=>cases h
    rename_i s hs
    cases h
    unfold VS at hq
    split at hq
    case h_2=>cases hq
    have e:=(jr hq).1;replace hq:=(jr hq).2
    cases Nat.eq_of_beq_eq_true e
    cases hq
    rw [aE] at ho
    have h1:=hZ.fit_spec a _ hr ho.1
    have h2:=hZ.fit_spec b _ hs ho.2
    refine ⟨aH.fn h1.weak h2.weak,fun q=>?_,fun q=>?_⟩
    · simp only [rO.av,AV.kept,Bool.and_eq_true] at q ⊢;exact ⟨h1.kept q.1,h2.kept q.2⟩
    · simp only [rO.av,AV.foreign,Bool.and_eq_true] at q ⊢;exact ⟨h1.foreign q.1,h2.foreign q.2⟩
  | .agg ps,v,t,o,h,ho=>by
    simp only [rO.fit] at h
    split at h
    case h_2=>cases h
    rename_i l hl
    cases v<;>simp only [US,reduceCtorEq,Option.some.injEq] at hl
    subst hl
    have:=hZ.fit_spec ps _ h ho
    exact ⟨aH.agg this.weak,this.kept,this.foreign⟩
  | .tup ps,v,t,o,h,ho=>by
    simp only [rO.fit] at h
    split at h
    case h_2=>cases h
    rename_i l hl
    cases v<;>simp only [UT,reduceCtorEq,Option.some.injEq] at hl
    subst hl
    have:=hZ.fit_spec ps _ h ho
    exact ⟨aH.tup this.weak,this.kept,this.foreign⟩
  | .iface y p,v,t,o,h,ho=>by
    simp only [rO.fit] at h
    split at h
    case h_2=>cases h
    rename_i u hu
    unfold MS at hu
    split at hu
    case h_2=>cases hu
    have e:=(jr hu).1;replace hu:=(jr hu).2
    cases Nat.eq_of_beq_eq_true e
    subst hu
    have:=rO.fit_spec p _ h ho
    exact ⟨aH.iface this.weak,this.kept,this.foreign⟩
  | .nfn,v,t,o,h,ho=>by
    cases v<;>simp only [rO.fit,UU,reduceCtorEq] at h
    exact .refl _
  | .nptr,v,t,o,h,ho=>by
    cases v<;>simp only [rO.fit,Q4,reduceCtorEq] at h
    exact .refl _
  | .nsl,v,t,o,h,ho=>by
    cases v<;>simp only [rO.fit,UV,reduceCtorEq] at h
    exact .refl _
  | .niface,v,t,o,h,ho=>by
    cases v<;>simp only [rO.fit,GO,reduceCtorEq] at h
    exact .refl _
  | .any,v,t,o,h,ho=>⟨aH.any v,fun _=>rfl,fun _=>rfl⟩
  | .lsl b,v,t,o,h,ho=>by
    simp only [rO.fit,Q5] at h
    split at h
    · have e:=(jr h).1;replace h:=(jr h).2
      rw [Bool.and_eq_true,Bool.and_eq_true] at e
      cases Nat.eq_of_beq_eq_true e.1
      cases Nat.eq_of_beq_eq_true e.2.1
      cases Nat.eq_of_beq_eq_true e.2.2
      cases h;exact .refl _
    · cases h
  | .lptr b w i j,v,t,o,h,ho=>by
    simp only [rO.fit,MT] at h
    split at h
    · have e:=(jr h).1;replace h:=(jr h).2
      rw [Bool.and_eq_true,Bool.and_eq_true,Bool.and_eq_true] at e
      cases Nat.eq_of_beq_eq_true e.1.1
      cases Nat.eq_of_beq_eq_true e.1.2
      cases Nat.eq_of_beq_eq_true e.2.1
      cases Nat.eq_of_beq_eq_true e.2.2
      exact .refl _
    · cases h
theorem hZ.fit_spec:∀ (ps:hZ) (l:List AV) {t:ps.Ty} {o:List Bool},ps.fit l=some (t,o)→ap o→V9 l (ps.avs t)
  | .nil,[],t,o,h,ho=>⟨.nil,id,id⟩
  | .nil,v::l,t,o,h,ho=>by simp [hZ.fit] at h
  | .cons p ps,[],t,o,h,ho=>by simp [hZ.fit] at h
  | .cons p ps,v::l,t,o,h,ho=>by
    simp only [hZ.fit] at h
    split at h
    case h_2=>cases h
    rename_i r hr
    split at h
    case h_2=>cases h
    rename_i s hs
    cases h
    rw [aE] at ho
    exact .cons (rO.fit_spec p v hr ho.1) (hZ.fit_spec ps l hs ho.2)
end
def cR(f:FuncId)(ps:hZ)(alts:ps.Ty→List iS) :ae :=
  ⟨f, fun L args => match L with
    | []=>match ps.fit args with
      | some r=>some ((alts r.1).map fun a=>⟨a.out,r.2++a.obs⟩)
      | none=>none
    | _=>none⟩
theorem aT{P:Program}{f:FuncId}{ps:hZ}{alts:ps.Ty→List iS}(h:∀ t,∀ a∈alts t,ap a.obs→ak P f [] (ps.avs t) a.out) :ah P (cR f ps alts):=by
  intro L args al a hal ha ho
  simp only [cR] at hal
  split at hal
  case h_2=>cases hal
  split at hal
  case h_2=>cases hal
  rename_i r hr
  obtain ⟨t,o⟩:=r
  simp only [Option.some.injEq] at hal
  subst hal
  simp only [List.mem_map] at ha
  obtain ⟨b,hb,rfl⟩:=ha
  simp only [aE] at ho
  exact (h t b hb ho.2).args (hZ.fit_spec ps args hr ho.1).weak
inductive CP where
  | int (k:IntKind)
  | flt
  | fltx
  | bool
  | str
  | lsl (b:Nat)
  | lsl0 (b:Nat)
  | lptr (b w i j:Nat)
  | nsl
  | nptr
def CP.Ty:CP→Type
  | .int _=>Int
  | .flt=>Nat
  | .fltx=>Nat
  | .bool=>Bool
  | .str=>ByteArray
  | .lsl _=>Nat×Nat×Nat
  | .lsl0 _=>Nat×Nat
  | .lptr _ _ _ _=>Unit
  | .nsl=>Unit
  | .nptr=>Unit
def CP.av:(p:CP)→p.Ty→AV
  | .int k,n=>.int k n
  | .flt,x=>.flt false x
  | .fltx,x=>.flt true x
  | .bool,b=>.bool false b
  | .str,s=>.str s
  | .lsl b,t=>.sl b 1 1 t.1 t.2.1 t.2.2
  | .lsl0 b,t=>.sl b 1 1 0 t.1 t.2
  | .lptr b w i j,_=>.ptr b w i j
  | .nsl,_=>.nsl
  | .nptr,_=>.nptr
def UW(k:IntKind) :AV→Option Int
  | .int k' n=>bif bc k k' then some n else none
  | _=>none
def UX:AV→Option Nat
  | .flt ex x=>bif ex then none else some x
  | _=>none
def Q7:AV→Option Nat
  | .flt ex x=>bif ex then some x else none
  | _=>none
def Q8:AV→Option Bool
  | .bool kn b=>bif kn then none else some b
  | _=>none
def UY:AV→Option ByteArray
  | .str s=>some s
  | _=>none
def UZ(b:Nat) :AV→Option (Nat×Nat×Nat)
  | .sl b' w es i len cap=>bif Nat.beq b b'&&(Nat.beq w 1&&Nat.beq es 1) then some (i,len,cap) else none
  | _=>none
def Q9(b:Nat) :AV→Option (Nat×Nat)
  | .sl b' w es i len cap=>bif Nat.beq b b'&&(Nat.beq w 1&&Nat.beq es 1)&&Nat.beq i 0 then some (len,cap) else none
  | _=>none
def Ra(b w i j:Nat) :AV→Option Unit
  | .ptr b' w' i' j'=>bif (Nat.beq b b'&&Nat.beq w w')&&(Nat.beq i i'&&Nat.beq j j') then some () else none
  | _=>none
def U0:AV→Option Unit
  | .nsl=>some ()
  | _=>none
def Rb:AV→Option Unit
  | .nptr=>some ()
  | _=>none
def CP.fit:(p:CP)→AV→Option p.Ty
  | .int k=>UW k
  | .flt=>UX
  | .fltx=>Q7
  | .bool=>Q8
  | .str=>UY
  | .lsl b=>UZ b
  | .lsl0 b=>Q9 b
  | .lptr b w i j=>Ra b w i j
  | .nsl=>U0
  | .nptr=>Rb
theorem VV{c:Bool}{α:Type}{a x:α}(h:(bif c then none else some a)=some x) :c=false∧a=x:=by
  cases c with
  | true=>cases h
  | false=>exact ⟨rfl,by simpa using h⟩
theorem CP.fit_spec:∀ (p:CP) {v:AV} {t:p.Ty},p.fit v=some t→v=p.av t
  | .int k,v,t,h=>by
    simp only [CP.fit,UW] at h
    split at h
    · obtain ⟨e,h⟩:=jr h
      cases h;cases jF.1 e;rfl
    · cases h
  | .flt,v,t,h=>by
    simp only [CP.fit,UX] at h
    split at h
    · obtain ⟨e,h⟩:=VV h
      cases h;cases e;rfl
    · cases h
  | .fltx,v,t,h=>by
    simp only [CP.fit,Q7] at h
    split at h
    · obtain ⟨e,h⟩:=jr h
      cases h;cases e;rfl
    · cases h
  | .bool,v,t,h=>by
    simp only [CP.fit,Q8] at h
    split at h
    · obtain ⟨e,h⟩:=VV h
      cases h;cases e;rfl
    · cases h
  | .str,v,t,h=>by
    simp only [CP.fit,UY] at h
    split at h
    · cases h;rfl
    · cases h
  | .lsl b,v,t,h=>by
    simp only [CP.fit,UZ] at h
    split at h
    · have e:=(jr h).1;replace h:=(jr h).2
      rw [Bool.and_eq_true,Bool.and_eq_true] at e
      cases Nat.eq_of_beq_eq_true e.1
      cases Nat.eq_of_beq_eq_true e.2.1
      cases Nat.eq_of_beq_eq_true e.2.2
      cases h;rfl
    · cases h
  | .lsl0 b,v,t,h=>by
    simp only [CP.fit,Q9] at h
    split at h
    · have e:=(jr h).1;replace h:=(jr h).2
      rw [Bool.and_eq_true,Bool.and_eq_true,Bool.and_eq_true] at e
      cases Nat.eq_of_beq_eq_true e.1.1
      cases Nat.eq_of_beq_eq_true e.1.2.1
      cases Nat.eq_of_beq_eq_true e.1.2.2
      cases Nat.eq_of_beq_eq_true e.2
      cases h;rfl
    · cases h
  | .lptr b w i j,v,t,h=>by
    simp only [CP.fit,Ra] at h
    split at h
    · have e:=(jr h).1;clear h
      rw [Bool.and_eq_true,Bool.and_eq_true,Bool.and_eq_true] at e
      cases Nat.eq_of_beq_eq_true e.1.1
      cases Nat.eq_of_beq_eq_true e.1.2
      cases Nat.eq_of_beq_eq_true e.2.1
      cases Nat.eq_of_beq_eq_true e.2.2
      rfl
    · cases h
  | .nsl,v,t,h=>by
    simp only [CP.fit,U0] at h
    split at h
    · rfl
    · cases h
  | .nptr,v,t,h=>by
    simp only [CP.fit,Rb] at h
    split at h
    · rfl
    · cases h
def CPs.Ty:List CP→Type
  | []=>Unit
  | p::l=>p.Ty×CPs.Ty l
def CPs.avs:(l:List CP)→CPs.Ty l→List AV
  | [],_=>[]
  | p::l,t=>p.av t.1::CPs.avs l t.2
def CPs.fit:(l:List CP)→List AV→Option (CPs.Ty l)
  | []=>fun vs=>match vs with
    | []=>some ()
    | _::_=>none
  | p::l=>fun vs=>match vs with
    | []=>none
    | v::vs=>match p.fit v with
      | some t=>match CPs.fit l vs with
        | some r=>some (t,r)
        | none=>none
      | none=>none
theorem CPs.fit_spec:∀ (l:List CP) {vs:List AV} {t:CPs.Ty l},CPs.fit l vs=some t→vs=CPs.avs l t
  | [],[],t,h=>rfl
  | [],_::_,t,h=>by cases h
  | _::_,[],t,h=>by cases h
  | p::l,v::vs,t,h=>by
    simp only [CPs.fit] at h
    split at h
    case h_2=>cases h
    rename_i x hx
    split at h
    case h_2=>cases h
    rename_i r hr
    cases h
    simp only [CPs.avs]
    rw [←CP.fit_spec p hx,←CPs.fit_spec l hr]
inductive BK where
  | fl
  | ns (k:IntKind)
  | bs
  | vs (l:List CP)
def BK.Ty:BK→Type
  | .fl=>List Nat
  | .ns _=>List Int
  | .bs=>List Bool
  | .vs l=>CPs.Ty l
def BK.blk:(k:BK)→k.Ty→aq
  | .fl,xs=>.fl xs
  | .ns k,xs=>.ns k xs
  | .bs,xs=>.bs xs
  | .vs l,t=>.vs (CPs.avs l t)
def Wi(l:List CP) :aq→Option (CPs.Ty l)
  | .vs xs=>CPs.fit l xs
  | _=>none
def BK.fit:(k:BK)→aq→Option k.Ty
  | .fl=>Q0
  | .ns k=>Q2 k
  | .bs=>Q3
  | .vs l=>Wi l
theorem BK.fit_spec:∀ (k:BK) {d:aq} {t:k.Ty},k.fit d=some t→d=k.blk t
  | .fl,d,t,h=>by cases d<;>cases h;rfl
  | .ns k,d,t,h=>by
    cases d<;>try (cases h;done)
    have e1:=(jr h).1;replace h:=(jr h).2
    cases jF.1 e1;cases h;rfl
  | .bs,d,t,h=>by cases d<;>cases h;rfl
  | .vs l,d,t,h=>by
    cases d<;>try (cases h;done)
    exact congrArg aq.vs (CPs.fit_spec l h)
def BKs.Ty:List BK→Type
  | []=>Unit
  | k::l=>k.Ty×BKs.Ty l
def sM:(l:List BK)→BKs.Ty l→List aq
  | [],_=>[]
  | k::l,t=>k.blk t.1::sM l t.2
def BKs.fit:(l:List BK)→List aq→Option (BKs.Ty l)
  | [],[]=>some ()
  | [],_::_=>none
  | _::_,[]=>none
  | k::l,d::ds=>match k.fit d with
    | some t=>match BKs.fit l ds with
      | some r=>some (t,r)
      | none=>none
    | none=>none
theorem BKs.fit_spec:∀ (l:List BK) {ds:List aq} {t:BKs.Ty l},BKs.fit l ds=some t→ds=sM l t
  | [],[],t,h=>rfl
  | [],_::_,t,h=>by cases h
  | _::_,[],t,h=>by cases h
  | k::l,d::ds,t,h=>by
    simp only [BKs.fit] at h
    split at h
    case h_2=>cases h
    rename_i x hx
    split at h
    case h_2=>cases h
    rename_i r hr
    cases h
    simp only [sM]
    rw [←BK.fit_spec k hx,←BKs.fit_spec l hr]
def GQ(f:FuncId)(bs:List BK)(ps:hZ)(alts:BKs.Ty bs→ps.Ty→List iS) :ae :=
  ⟨f, fun L args => match BKs.fit bs L with
    | some x=>match ps.fit args with
      | some r=>some ((alts x r.1).map fun a=>⟨a.out,r.2++a.obs⟩)
      | none=>none
    | none=>none⟩
theorem xG{P:Program}{f:FuncId}{bs:List BK}{ps:hZ}{alts:BKs.Ty bs→ps.Ty→List iS}(h:∀ x t,∀ a∈alts x t,ap a.obs→ak P f (sM bs x) (ps.avs t) a.out) :ah P (GQ f bs ps alts):=by
  intro L args al a hal ha ho
  simp only [GQ] at hal
  split at hal
  case h_2=>cases hal
  rename_i x hx
  split at hal
  case h_2=>cases hal
  rename_i r hr
  obtain ⟨t,o⟩:=r
  simp only [Option.some.injEq] at hal
  subst hal
  simp only [List.mem_map] at ha
  obtain ⟨b,hb,rfl⟩:=ha
  simp only [aE] at ho
  have:=(h x t b hb ho.2).args (hZ.fit_spec ps args hr ho.1).weak
  rwa [←BKs.fit_spec bs hx] at this
theorem xH{P:Program}{f:FuncId}{L:List aq}{l:List AV} :∀ a∈([]:List iS),ap a.obs→ak P f L l a.out:=fun a h=>by cases h
theorem pL{P:Program}{f:FuncId}{L:List aq}{l:List AV}{o:eJ}{b:Bool}{al:List iS}(h:b=true→ak P f L l o)(t:∀ a∈al,ap a.obs→ak P f L l a.out) :∀ a∈(⟨o,[b]⟩:iS)::al,ap a.obs→ak P f L l a.out:=by
  intro a ha ho
  rcases List.mem_cons.1 ha with rfl | ha
  · exact h ho.1
  · exact t a ha ho
theorem bg{P:Program}{f:FuncId}{l:List AV} :∀ a∈([]:List iS),ap a.obs→ak P f [] l a.out:=fun a h=>by cases h
theorem aU{P:Program}{f:FuncId}{l:List AV}{o:eJ}{b:Bool}{al:List iS}(h:b=true→ak P f [] l o)(t:∀ a∈al,ap a.obs→ak P f [] l a.out) :∀ a∈(⟨o,[b]⟩:iS)::al,ap a.obs→ak P f [] l a.out:=by
  intro a ha ho
  rcases List.mem_cons.1 ha with rfl | ha
  · exact h ho.1
  · exact t a ha ho
end
end Go.Plb
namespace Go.Plb.Seat
open Go Go.Plb
set_option linter.unusedSimpArgs false
set_option linter.unusedVariables false
set_option maxRecDepth 100000
def MU(n:Nat) :Bool:=Nat.ble n 1000000000
noncomputable def VW:Empty→aF:=fun a=>a.elim
noncomputable def VX:Unit→AE×aF:=fun _=>(.ret,⟨aw 8 [(2,.sl 0 1 1 0 0 0)],[(0,.fl [])],1⟩)
noncomputable def Wj:Unit→eJ:=fun _=>⟨.sl 0 1 1 0 0 0,[some (.fl [])]⟩
theorem Uv:ak prog bp [] [.zsl true] ⟨.sl 0 1 1 0 0 0,[some (.fl [])]⟩ :=
  Sg.contract (x:=()) (X:=Unit) (N:=VW) (E:=VX) (m:=some (.inr ())) false Wj (by kernel_rfl:prog.funcs[bp]? = some (FN bp)) (by kernel_rfl:(FN bp).body=some (oJ bp))
    (Sg.seg (C:=C0) ax nK 60 (dN (oJ bp)) (iF (FN bp) [] [.zsl true]) (.leaf (.inr ())) VW VX [⟨[(.slot 2,.own 1 1 (.fl []))],[64],[2]⟩] (by kernel_rfl))
    (fun _=>⟨.inr rfl,[.sl 0 1 1 0 0 0],[],by kernel_rfl,trivial,by kernel_rfl⟩) rfl
theorem Rc:ak prog bp [] [.zsl false] ⟨.sl 0 1 1 0 0 0,[some (.fl [])]⟩ :=
  ak.run ax nK (some []) 0 60 (p':=some []) (obs:=[]) (by kernel_rfl) V8
theorem Uw(l:Lv) :ak prog bp [] [.imm l (.fl []) 1 1 0 0] ⟨.sl 0 1 1 0 0 0,[some (.fl [])]⟩:=by
  intro ρ w us hN hv
  cases hv with | cons _ u _ _ h1 h2 =>
  cases h2
  have key:∀ (a:Option Addr) cap,bh ρ w [.zsl a.isNone] [.slice a 0 cap]:=fun a cap=>.cons _ _ _ _ (.zsl a cap) .nil
  have all:∀ b,ak prog bp [] [.zsl b] ⟨.sl 0 1 1 0 0 0,[some (.fl [])]⟩:=fun b=>by
    cases b
    · exact Rc
    · exact Uv
  cases h1 with
  | imm _ _ _ _ _ _ cap bl o u'=>exact all _ ρ w _ hN (key _ cap)
  | immEnd _ _ _ _ _ cap a=>exact all _ ρ w _ hN (key a cap)
theorem Ux(l:Lv)(xs:List Nat)(hl:xs.length≤1000000000) :ak prog bp [] [.imm l (.fl xs) 1 1 0 xs.length] ⟨.sl 0 1 1 0 xs.length xs.length,[some (.fl xs)]⟩:=by
  rcases Nat.eq_zero_or_pos xs.length with h0 | h0
  · have:xs=[]:=List.length_eq_zero_iff.1 h0
    subst this
    exact Uw l
  · have h:fx C0 E0 (cG C0 E0 0 60) bp [] [.imm l (.fl xs) 1 1 0 xs.length] (some [])=some (⟨.sl 0 1 1 0 (0+xs.length) (0+xs.length),[some (.fl (List.take 0 []++List.take xs.length xs))]⟩,
        [Nat.blt 0 xs.length,jl ((0+xs.length)*8) 140737488355328,jl (0+xs.length) 9223372036854775807,jl xs.length xs.length,jl 0 ([]:List Nat).length],some []):=by kernel_rfl
    have:=ak.run ax nK _ _ _ h (ob (by rw [Nat.blt_eq];exact h0)<|ob (by simp [jl];omega)<|ob (by simp [jl];omega)<|ob (by simp [jl])<|ob rfl V8)
    simp only [Nat.zero_add,List.take_zero,List.nil_append,List.take_length] at this
    exact this
noncomputable def MV:ae:=cR bp (.cons .fl .nil) fun t=>[⟨⟨.sl 0 1 1 0 t.1.2.length t.1.2.length,[some (.fl t.1.2)]⟩,[MU t.1.2.length]⟩]
theorem Kt:ah prog MV:=aT fun t=>aU (fun h=>Ux t.1.1 t.1.2 (Nat.le_of_ble_eq_true h)) bg
noncomputable def Wy:List ae:=MV::L1
theorem Vm:ao prog (aj Wy):=aa Kt VQ
noncomputable def GR:Empty→aF:=fun a=>a.elim
noncomputable def GS:Unit→AE×aF:=fun _=>(.ret,⟨aw 8 [(2,.sl 0 1 1 0 0 0)],[(0,.ns .u64 [])],1⟩)
noncomputable def Rd:Unit→eJ:=fun _=>⟨.sl 0 1 1 0 0 0,[some (.ns .u64 [])]⟩
theorem GT:ak prog aQ [] [.zsl true] ⟨.sl 0 1 1 0 0 0,[some (.ns .u64 [])]⟩ :=
  Sg.contract (x:=()) (X:=Unit) (N:=GR) (E:=GS) (m:=some (.inr ())) false Rd (by kernel_rfl:prog.funcs[aQ]? = some (FN aQ)) (by kernel_rfl:(FN aQ).body=some (oJ aQ))
    (Sg.seg (C:=C0) ax nK 60 (dN (oJ aQ)) (iF (FN aQ) [] [.zsl true]) (.leaf (.inr ())) GR GS [⟨[(.slot 2,.own 1 1 (.ns .u64 []))],[64],[2]⟩] (by kernel_rfl))
    (fun _=>⟨.inr rfl,[.sl 0 1 1 0 0 0],[],by kernel_rfl,trivial,by kernel_rfl⟩) rfl
theorem Eo:ak prog aQ [] [.zsl false] ⟨.sl 0 1 1 0 0 0,[some (.ns .u64 [])]⟩ :=
  ak.run ax nK (some []) 0 60 (p':=some []) (obs:=[]) (by kernel_rfl) V8
theorem GU(l:Lv) :ak prog aQ [] [.imm l (.ns .u64 []) 1 1 0 0] ⟨.sl 0 1 1 0 0 0,[some (.ns .u64 [])]⟩:=by
  intro ρ w us hN hv
  cases hv with | cons _ u _ _ h1 h2 =>
  cases h2
  have key:∀ (a:Option Addr) cap,bh ρ w [.zsl a.isNone] [.slice a 0 cap]:=fun a cap=>.cons _ _ _ _ (.zsl a cap) .nil
  have all:∀ b,ak prog aQ [] [.zsl b] ⟨.sl 0 1 1 0 0 0,[some (.ns .u64 [])]⟩:=fun b=>by
    cases b
    · exact Eo
    · exact GT
  cases h1 with
  | imm _ _ _ _ _ _ cap bl o u'=>exact all _ ρ w _ hN (key _ cap)
  | immEnd _ _ _ _ _ cap a=>exact all _ ρ w _ hN (key a cap)
theorem GV(l:Lv)(xs:List Int)(hl:xs.length≤1000000000) :ak prog aQ [] [.imm l (.ns .u64 xs) 1 1 0 xs.length] ⟨.sl 0 1 1 0 xs.length xs.length,[some (.ns .u64 xs)]⟩:=by
  rcases Nat.eq_zero_or_pos xs.length with h0 | h0
  · have:xs=[]:=List.length_eq_zero_iff.1 h0
    subst this
    exact GU l
  · have h:fx C0 E0 (cG C0 E0 0 60) aQ [] [.imm l (.ns .u64 xs) 1 1 0 xs.length] (some [])=some (⟨.sl 0 1 1 0 (0+xs.length) (0+xs.length),[some (.ns .u64 (List.take 0 ([]:List Int)++List.take xs.length xs))]⟩,
        [Nat.blt 0 xs.length,jl ((0+xs.length)*8) 140737488355328,jl (0+xs.length) 9223372036854775807,jl xs.length xs.length,jl 0 ([]:List Int).length],some []):=by kernel_rfl
    have:=ak.run ax nK _ _ _ h (ob (by rw [Nat.blt_eq];exact h0)<|ob (by simp [jl];omega)<|ob (by simp [jl];omega)<|ob (by simp [jl])<|ob rfl V8)
    simp only [Nat.zero_add,List.take_zero,List.nil_append,List.take_length] at this
    exact this
noncomputable def vf:ae:=cR aQ (.cons (.ns .u64) .nil) fun t=>[⟨⟨.sl 0 1 1 0 t.1.2.length t.1.2.length,[some (.ns .u64 t.1.2)]⟩,[MU t.1.2.length]⟩]
theorem xI:ah prog vf:=aT fun t=>aU (fun h=>GV t.1.1 t.1.2 (Nat.le_of_ble_eq_true h)) bg
noncomputable def MW:List ae:=vf::Wy
theorem Ku:ao prog (aj MW):=aa xI Vm
noncomputable def L2:List ae:=MW
theorem VY:ao prog (aj L2):=Ku
end Go.Plb.Seat
namespace Go.Plb.Seat
open Go Go.Plb
set_option linter.unusedSimpArgs false
set_option linter.unusedVariables false
theorem Re{n:Nat}(h:isNaN n=true) :n/4503599627370496%2048=2047:=by
  rw [fA,decide_eq_true_eq] at h;omega
theorem Rf(n:Nat) :Int.tmod (Int.fdiv (n:Int) (2^min (Int.toNat 52) IntKind.u64.bits)) 2048=((n/4503599627370496%2048:Nat):Int):=by
  have e:(2^min (Int.toNat 52) IntKind.u64.bits:Int)=((4503599627370496:Nat):Int):=by decide
  rw [e,Int.fdiv_eq_ediv_of_nonneg _ (by omega)];exact Int.tmod_eq_emod_of_nonneg (Int.natCast_nonneg _)
theorem ak.nan{f:FuncId}{g:Nat→eJ}{r:eJ}(h:∀ n:Nat,ak prog f [] [.int .u64 (n:Int)] (g n))(e:∀ n:Nat,isNaN n=true→g n=r) :ak prog f [] [.nan] r:=by
  intro ρ w us hN hv
  cases hv with | cons _ u _ _ h1 h2 =>
  cases h2
  cases h1 with | nan n hn =>
  rw [←e n hn]
  exact h n ρ w _ hN (.cons _ _ _ _ (.int _ _) .nil)
theorem Pf:ak prog gQ [] [.nan] ⟨.bool false false,[]⟩:=by
  refine ak.nan (g:=fun n=>⟨.bool false ((Int.tmod (Int.fdiv (n:Int) (2^min (Int.toNat 52) IntKind.u64.bits)) 2048) != 2047),[]⟩) (fun n=>?_) (fun n hn=>?_)
  · have h:fx C0 E0 (cG C0 E0 0 50) gQ [] [.int .u64 n] (some [])=some (⟨.bool false ((Int.tmod (Int.fdiv (n:Int) (2^min (Int.toNat 52) IntKind.u64.bits)) 2048) != 2047),[]⟩,[(decide ((0:Int)≤52)),((2048:Int) != 0)],some []):=by kernel_rfl
    exact ak.run ax nK _ _ _ h ⟨rfl,rfl,trivial⟩
  · simp only [Rf,Re hn];rfl
theorem Kv:ak prog gQ [] [.nan] ⟨.bool true false,[]⟩:=Pf.weak (mu _ _ _)
def un:ae:=⟨gQ,fun L args=>match L,args with | [],[.nan]=>one (.bool true false) [] | _,_=>none⟩
theorem Ep:ah prog un:=by
  intro L args alts a h ha ho
  simp only [un] at h
  split at h
  · exact jE h ha ho fun q=>Kv
  · cases h
noncomputable def L3:List ae:=un::L2
theorem U1:ao prog (aj L3):=aa Ep VY
end Go.Plb.Seat
namespace Go.Plb.Seat
noncomputable section
open Go Go.Plb
set_option linter.unusedVariables false
set_option maxRecDepth 100000
theorem ck{S:oz}(hS:ao prog S){lent:List aq}{α X:Type}{cs:List Code}{st:aF}{t:T (α⊕X)}(N:α→aF){E:X→AE×aF}(ks:List NS) 
    (h:QR C0 S 60 cs st t.leaves ks lent.length=MJ N E t.leaves:=by kernel_rfl):Sg prog lent cs st t.run N E:=Sg.seg ax hS 60 cs st t N E ks h
theorem Rg{lent:List aq}{σ ρ X:Type}{cs:List Code}{st:aF}{E:X→AE×aF}{B:σ→Option (σ⊕(ρ⊕X))}{ent:σ}(s:NS)(I:σ→aF)(J:ρ→aF)(id:Nat)(hE:lh E)(hI:sK id E) 
    (hb:∀ a,Sg prog lent (dN (il (cs.headD .skip))) (I a) (B a) I (gr id J E)) (hn:s.ok lent.length=true:=by exact rfl) (h1:s.on st=I ent:=by kernel_rfl) (hcs:cs=[.block id (.loop (il (cs.headD .skip)))]:=by kernel_rfl) :
    Sg prog lent cs st (ji B ent) J E:=Sg.pre s hn h1 (Pc hcs hE hI hb ent)
def nY:Empty→aF:=fun a=>a.elim
theorem mC{fn:Func}{k:Nat}{keep:Bool}{o:eJ}{st:aF}(vs:List AV)(h1:ep prog fn st fn.results.toList=some (vs,[]):=by kernel_rfl)(h2:xe k keep st.heap (ub vs)=some o:=by kernel_rfl) :MG prog fn k keep o .ret st :=
  ⟨.inr rfl,vs,[],h1,trivial,h2⟩
theorem oM{f:FuncId}{X:Type}{m:Option (Empty⊕X)}{lent:List aq}{args:List AV}{x:X}(keep:Bool)(o:X→eJ)(E:X→AE×aF)(hx:nJ m=some x) 
    (h:Sg prog lent (dN (oJ f)) (iF (FN f) lent args) m nY E) (hE:∀ x,MG prog (FN f) lent.length keep (o x) (E x).1 (E x).2)
    (hf:prog.funcs[f]? = some (FN f):=by kernel_rfl) (hc:(FN f).body=some (oJ f):=by kernel_rfl):ak prog f lent args (o x) :=
  Sg.contract (P:=prog) (f:=f) (fn:=FN f) (c:=oJ f) (N:=nY) (E:=E) (lent:=lent) (args:=args) keep o hf hc h hE hx
end
end Go.Plb.Seat
