/-
  Part 2 of what the claim leans on: an evaluator of the model, proved sound; the contracts of the functions.
-/
import Derived.LoopN
import Derived.Scope
import Derived.Laws.Externs
import Derived.WalkKit
import Derived.ProofKit
import Derived.OpenShut
import Derived.Deep.Slices
import Derived.Test.YthikcnkmglbbbaaGreatDoorChecked
import Derived.KernelRfl
import Derived.Test.YthikcnkmglbbbaaGreatDoorRows
import Derived.LaidLaws
import Derived.LaidHandle
import Derived.Lib.LaidTab
import Derived.JoinedOf
import Derived.Test.YthikcnkmglbbbaaGreatDoorA1
namespace Go.Plb
set_option linter.unusedSimpArgs false
set_option linter.unusedVariables false
set_option linter.unusedSectionVars false
variable [Rom]
structure LC where
  v:AV
  sets:List (Nat×Option bt)
  reads:List Nat
def LD(ops:Array Oper)(j:Nat) :Option Nat:=(ops[j]?).bind (·.dst)
def LE(ops:Array Oper)(o:Oper)(T:List AV) :Option Bool :=
  match o.guard with
  | none=>some true
  | some (j,want) =>
    match LD ops j with
    | none=>some false
    | some d =>
      match T[d]? with
      | some (.bool true b)=>some (b==want)
      | some (.tup _) | none=>some false
      | _=>none
def arV(ops:Array Oper)(i:Nat) :Bool:=ops.toList.any fun o=>match o.guard with | some (j,_)=>Nat.beq j i | none=>false
def XS(v:AV)(p:mS) :Option (Bool×List Bool×mS) :=
  match v,p with
  | .bool true b,p=>some (b,[],p)
  | .bool false b,none=>some (b,[],none)
  | .bool false b,some (k::r)=>some (Nat.beq k 1,[b==Nat.beq k 1],some r)
  | _,_=>none
theorem Yo{ρ:aO}{w:World}{v:AV}{u:Value}{p p':mS}{b:Bool}{obs:List Bool}(hv:VR ρ w v u)(h:XS v p=some (b,obs,p'))(ho:bu obs) :u=.bool b:=by
  unfold XS at h
  split at h
  · simp only [Option.some.injEq,Prod.mk.injEq] at h;obtain ⟨rfl,rfl,rfl⟩:=h;cases hv;rfl
  · simp only [Option.some.injEq,Prod.mk.injEq] at h;obtain ⟨rfl,rfl,rfl⟩:=h;cases hv;rfl
  · simp only [Option.some.injEq,Prod.mk.injEq] at h;obtain ⟨rfl,rfl,rfl⟩:=h;cases hv
    have:=ho.1
    simp only [beq_iff_eq] at this
    rw [this]
  · cases h
def UM(ops:Array Oper)(i:Nat)(v:AV)(p:mS) :Option (AV×List Bool×mS) :=
  bif arV ops i then (XS v p).map fun r=>(.bool true r.1,r.2.1,r.2.2) else some (v,[],p)
def Qd(C:Ol)(run:lH)(ops:Array Oper)(n0 i:Nat)(o:Oper)(T:List AV)(h:d5)(p:mS) :Option (LC×List Bool×mS) :=
  match LE ops o T with
  | none=>none
  | some false=>some ({ v:=.tup [],sets:=[],reads:=[] },[],p)
  | some true =>
    match opM C run (evA T) (cn h) (n0+i*y6) p o.op with
    | none=>none
    | some r =>
      match UM ops i r.v r.path with
      | none=>none
      | some (v,obs,p')=>some ({ v,sets:=r.sets,reads:=r.reads },r.obs++obs,p')
def Qe(T:List AV)(d:Option Nat)(v:AV) :List AV :=
  match d with
  | some d=>T.set d v
  | none=>T
theorem arW{ρ:aO}{w:World}{T:List AV}{a:Act}{v:AV}{u:Value}(h:jf ρ w T a.tmps.toList)(hv:VR ρ w v u)(d:Option Nat) :jf ρ w (Qe T d v) (a.put d u).tmps.toList:=by
  cases d with
  | none=>exact h
  | some d=>simp only [Qe,Act.put,Array.toList_setIfInBounds];exact h.set hv d
theorem Qf{ρ:aO}{w:World}{ops:Array Oper}{o:Oper}{T:List AV}{a:Act}(h:jf ρ w T a.tmps.toList){b:Bool}(hw:LE ops o T=some b) :Region.wanted o (yielded ops a.tmps)=b:=by
  unfold LE at hw
  unfold Region.wanted
  split at hw
  · rename_i hg;cases hw;simp [hg]
  · rename_i j want hg
    simp only [hg]
    unfold LD at hw
    split at hw
    · rename_i hs;cases hw;simp [yielded,hs]
    · rename_i d hs
      split at hw
      · rename_i b' hT
        cases hw
        obtain ⟨u,h1,h2⟩:=h.get d _ hT
        rw [Array.getElem?_toList] at h1
        cases h2
        simp only [yielded,hs,Option.bind_some,h1]
        cases b'<;>cases want<;>rfl
      · rename_i l hT
        cases hw
        obtain ⟨u,h1,h2⟩:=h.get d _ hT
        rw [Array.getElem?_toList] at h1
        cases h2
        simp [yielded,hs,h1]
      · rename_i hT
        cases hw
        have : a.tmps[d]? = none := by
          have hl:=h.length
          rw [Array.getElem?_eq_none]
          have : T.length ≤ d := by rcases Nat.lt_or_ge d T.length with q | q; · rw [List.getElem?_eq_getElem q] at hT; cases hT
                                    · exact q
          simp at hl;omega
        simp [yielded,hs,this]
      · cases hw
theorem HR.congr{ρ:aO}{w:World}{h h':d5}{n:Nat}(hh:HR ρ w h n)(e:∀ b,cn h' b=cn h b) :HR ρ w h' n :=
  ⟨fun b d q=>hh.cell b d (by rw [←e];exact q),fun b c d f q r=>hh.inj b c d f (by rw [←e];exact q) (by rw [←e];exact r),hh.fresh,hh.liveLt,hh.outLt,hh.lt,hh.rom⟩
theorem UN{C:Ol}(hC:C.Ok){run:lH}(hrun:Ym C.P run){ops:Array Oper}{n0 i:Nat}{o:Oper}(hi:ops[i]? = some o){T:List AV}{h:d5}{p p':mS}{r:LC}{obs:List Bool} 
    (hr:Qd C run ops n0 i o T h p=some (r,obs,p')) (ho:bu obs) {ρ:aO} {w:World} {n:Nat} (hh:HR ρ w h n) (hid:∀ x,n0+i*y6≤x→x<n0+i*y6+y6→¬ ρ.ok x) (hn:n0+i*y6+y6≤n) {a:Act} (hd:a.defers=[]) (hT:jf ρ w T a.tmps.toList)
    {K:Act→World→Prop} {Q:Exit→Act→World→Prop}
    (hK:∀ ρ' w' a',va ρ ρ' w→pX ρ.live w w'→HR ρ' w' (fM r.sets h) n→a'.defers=[]→jf ρ' w' (Qe T o.dst r.v) a'.tmps.toList→(∀ b,ρ'.ok b→ρ.ok b∨(n0+i*y6≤b∧b<n0+i*y6+y6))→K a' w'):wpOp C.P ops Q i K a w:=by
  have dput:∀ u,(a.put o.dst u).defers=[]:=by intro u;cases hdst:o.dst<;>simp [Act.put,hd]
  unfold Qd at hr
  unfold wpOp
  simp only [hi]
  split at hr
  · cases hr
  · rename_i hw
    simp only [Option.some.injEq,Prod.mk.injEq] at hr;obtain ⟨rfl,rfl,rfl⟩:=hr
    rw [Qf hT hw]
    simp only [Bool.false_eq_true,if_false]
    exact hK ρ w _ (va.refl _ _) (pX.refl _ _) hh (dput _) (arW hT (.tup _ _ .nil) o.dst) (fun b q=>.inl q)
  · rename_i hw
    rw [Qf hT hw]
    simp only [if_true]
    split at hr
    · cases hr
    · rename_i r' hop
      split at hr
      · cases hr
      · rename_i v obs' p'' hg
        simp only [Option.some.injEq,Prod.mk.injEq] at hr;obtain ⟨rfl,rfl,rfl⟩:=hr
        rw [cC] at ho
        refine .inl (asL hC hrun hop ho.1 hh hid hn (fun x=>X8 hh.rom hT x) ?_)
        intro ρ' w' u E W hh' hv hok
        refine hK ρ' w' _ E W hh' (dput _) (arW (hT.mono E W) ?_ o.dst) hok
        unfold UM at hg
        cases hgd:arV ops i with
        | false=>rw [hgd] at hg;simp only [cond_false,Option.some.injEq,Prod.mk.injEq] at hg;rw [←hg.1];exact hv
        | true =>
          rw [hgd] at hg
          simp only [cond_true,Option.map_eq_some_iff,Prod.mk.injEq] at hg
          obtain ⟨⟨b,ob,pp⟩,hd',rfl,rfl,rfl⟩:=hg
          rw [Yo hv hd' ho.2]
          exact .bool _ _
def Yp(C:Ol)(run:lH)(ops:Array Oper)(n0:Nat) :Nat→List Oper→List AV→d5→mS→Option (List AV×d5×List Bool×mS)
  | _,[],T,h,p=>some (T,h,[],p)
  | i,o::l,T,h,p =>
    match Qd C run ops n0 i o T h p with
    | none=>none
    | some (r,obs,p') =>
      match Yp C run ops n0 (i+1) l (Qe T o.dst r.v) (fM r.sets h) p' with
      | none=>none
      | some (T',h',obs',p'')=>some (T',h',obs++obs',p'')
structure Jq (ρ:aO) (w:World) (n:Nat) (st:aQ) (ρ':aO) (a':Act) (w':World):Prop where
  ext:va ρ ρ' w
  wle:pX ρ.live w w'
  sr:SR ρ' st a' w'
  le:n≤st.next
  back:∀ b,ρ'.ok b→ρ.ok b∨n≤b
theorem Qg{C:Ol}(hC:C.Ok){run:lH}(hrun:Ym C.P run){ops:Array Oper}{n0:Nat}{Q:Exit→Act→World→Prop} :∀ (l:List Oper) (i:Nat) {T T':List AV} {h h':d5} {p p':mS} {obs:List Bool},
    (∀ j,l[j]? = ops[i+j]?)→Yp C run ops n0 i l T h p=some (T',h',obs,p')→bu obs→∀ {ρ:aO} {w:World},HR ρ w h (n0+ops.size*y6)→(∀ b,ρ.ok b→b<n0+i*y6)→∀ {a:Act},a.defers=[]→jf ρ w T a.tmps.toList →
    (∀ ρ' w' a',va ρ ρ' w→pX ρ.live w w'→HR ρ' w' h' (n0+ops.size*y6)→a'.defers=[]→jf ρ' w' T' a'.tmps.toList→(∀ b,ρ'.ok b→ρ.ok b∨n0≤b)→Q .normal a' w')→wpOps C.P ops Q (List.range' i l.length) a w
  | [],i,T,T',h,h',p,p',obs,hl,hr,ho,ρ,w,hh,hok,a,hd,hT,hQ=>by
    simp only [Yp,Option.some.injEq,Prod.mk.injEq] at hr;obtain ⟨rfl,rfl,rfl,rfl⟩:=hr
    simp only [List.length_nil,List.range'_zero,wpOps]
    exact hQ ρ w a (va.refl _ _) (pX.refl _ _) hh hd hT (fun b q=>.inl q)
  | o::l,i,T,T',h,h',p,p',obs,hl,hr,ho,ρ,w,hh,hok,a,hd,hT,hQ=>by
    simp only [Yp] at hr
    split at hr
    case h_1=>cases hr
    rename_i r obs1 p1 h1
    split at hr
    case h_1=>cases hr
    rename_i T2 h2 obs2 p2 h3
    simp only [Option.some.injEq,Prod.mk.injEq] at hr;obtain ⟨rfl,rfl,rfl,rfl⟩:=hr
    rw [cC] at ho
    have hi:ops[i]? = some o:=by have:=hl 0;simpa using this.symm
    have hlt:i<ops.size:=(Array.getElem?_eq_some_iff.1 hi).1
    simp only [List.length_cons,List.range'_succ]
    rw [wpOps_cons]
    have hS:i*y6+y6≤ops.size*y6:=by rw [←Nat.succ_mul];exact Nat.mul_le_mul_right _ hlt
    have hi1:(i+1)*y6=i*y6+y6:=Nat.succ_mul _ _
    refine UN hC hrun hi h1 ho.1 hh (fun x h1 h2 q=>by have:=hok _ q;omega) (by omega) hd hT ?_
    intro ρ' w' a' E W hh' hd' hT' hok'
    refine Qg hC hrun l (i+1) (fun j=>by have:=hl (j+1);rw [show i+1+j=i+(j+1) from by omega];simpa using this) h3 ho.2 hh' (fun b q=>by
      rcases hok' b q with q | q
      · have:=hok b q;omega
      · omega) hd' hT' ?_
    intro ρ'' w'' a'' E' W' hh'' hd'' hT'' hb''
    exact hQ ρ'' w'' a'' (E.trans E' W.size) (W.trans W' (fun x hx q=>E.new x hx q)) hh'' hd'' hT'' (fun b q=>by
      rcases hb'' b q with q | q
      · rcases hok' b q with q | q
        · exact .inl q
        · exact .inr (by omega)
      · exact .inr q)
theorem LF{e e':Operand→AV}{l:List Operand}(h:∀ x∈l,e x=e' x) :l.map e=l.map e':=List.map_congr_left h
theorem aii{wr:Bool}{P:Program}{e e':Operand→AV}{op:Op}(h:∀ x∈op.operands,e x=e' x) :S9 wr P e op=S9 wr P e' op:=by
  unfold S9
  split
  all_goals simp only [Op.operands,Call.operands] at h
  case h_1=>rw [h _ (by simp)]
  case h_2=>rw [h _ (by simp)]
  case h_3=>rw [h _ (by simp),h _ (by simp),h _ (by simp)]
  case h_4=>rw [h _ (by simp)]
  case h_5=>rw [h _ (by simp),h _ (by simp)]
  case h_6=>rw [h _ (by simp)]
  case h_7=>rw [h _ (by simp)]
  case h_8=>rw [h _ (by simp)]
  case h_9 =>
    rename_i fn first caps
    rw [LF (l:=first.toList) (fun x hx=>h x (by simp at hx;simp [hx])),LF (l:=caps.toList) (fun x hx=>h x (by simp at hx;simp [hx]))]
  case h_10 =>
    rename_i t x lo hi
    rw [h x (by simp)]
    cases lo<;>cases hi<;>simp only [Option.map_none,Option.map_some]<;>first | rfl | (rw [h _ (by simp),h _ (by simp)]) | (rw [h _ (by simp)])
  case h_11 =>
    rename_i t x lo hi mx
    rw [h x (by simp),h mx (by simp)]
    cases lo<;>cases hi<;>simp only [Option.map_none,Option.map_some]<;>first | rfl | (rw [h _ (by simp),h _ (by simp)]) | (rw [h _ (by simp)])
  case h_12=>rw [h _ (by simp)]
  case h_13=>rw [h _ (by simp)]
  case h_14=>rw [h _ (by simp),h _ (by simp)]
  case h_15=>rw [h _ (by simp),h _ (by simp)]
  case h_16=>rw [h _ (by simp)]
  case h_17 =>
    rename_i xs ts
    split
    · rename_i x t hx ht
      have:xs = #[x]:=by rw [←hx]
      subst this
      rw [h x (by simp)]
    · rfl
  case h_18 =>
    rename_i xs ts
    split
    · rename_i x l hx
      have:xs=(x::l).toArray:=by rw [←hx]
      subst this
      rw [h x (by simp),LF (l:=l) (fun y hy=>h y (by simp [hy]))]
    · rfl
  case h_19 =>
    rename_i xs ts
    split
    · rename_i x l hx
      have:xs=(x::l).toArray:=by rw [←hx]
      subst this
      rw [h x (by simp),LF (l:=l) (fun y hy=>h y (by simp [hy]))]
    · rfl
  case h_20=>rfl
theorem amm{P:Program}{g g':Nat→Option bt}{t:TypeId}{x:AV}{r:AV×List Bool×List Nat}(h:P0 P g t x=some r)(hg:∀ b∈r.2.2,g' b=g b) :P0 P g' t x=some r:=by
  unfold P0 at h ⊢
  simp only at h ⊢
  split at h
  · rename_i b w i j
    split at h
    · rename_i d hd
      simp only [Option.map_eq_some_iff] at h
      obtain ⟨r',h1,rfl⟩:=h
      have:g' b=some d:=by rw [hg b (by simp)];exact hd
      simp only [this,h1];rfl
    · cases h
  · exact h
  · cases h
theorem aij{P:Program}{g g':Nat→Option bt}{t:TypeId}{x v:AV}{r:Nat×bt×List Bool}(h:Tc P g t x v=some r)(hg:g' r.1=g r.1) :Tc P g' t x v=some r:=by
  unfold Tc at h ⊢
  split at h
  · rename_i b w i j l inf h1 h2
    split at h
    · rename_i d hd
      cases e:Nat.beq l.length inf.size with
      | false=>rw [e] at h;cases h
      | true =>
        rw [e] at h
        simp only [cond_true,Option.map_eq_some_iff] at h
        obtain ⟨r',h3,rfl⟩:=h
        have:g' b=some d:=by rw [hg];exact hd
        simp only [h1,this,e,cond_true,h3];rfl
    · cases h
  · cases h
theorem On{g g':Nat→Option bt}{x:AV}{r:Nat×Nat×bt×List Bool×List Nat}(h:aie g x=some r)(hg:∀ b∈r.2.2.2.2,g' b=g b) :aie g' x=some r:=by
  unfold aie at h ⊢
  split at h
  · rename_i b w es i len cap
    split at h
    · rename_i d hd
      simp only [Option.map_eq_some_iff] at h
      obtain ⟨r',h1,rfl⟩:=h
      have:g' b=some d:=by rw [hg b (by simp)];exact hd
      simp only [this,h1];rfl
    · cases h
  · exact h
  · cases h
theorem acG{P:Program}{g g':Nat→Option bt}{nid:Nat}{t:TypeId}{s x:AV}{r:List Wt×List Nat}(h:LA P g nid t s x=some r)(hg:∀ b∈r.2,g' b=g b) :LA P g' nid t s x=some r:=by
  unfold LA at h ⊢
  split at h
  case h_2=>cases h
  rename_i e ht
  split at h
  case h_2=>cases h
  rename_i inf hi
  split at h
  case h_2=>cases h
  rename_i z hz
  cases hzs:Nat.beq z.cells.size inf.size with
  | false=>rw [hzs] at h;cases h
  | true =>
  rw [hzs] at h
  simp only [cond_true] at h ⊢
  split at h
  · exact h
  · exact h
  · exact h
  · rename_i hx0
    split at h
    case h_2=>cases h
    rename_i m es nb obs rs hs
    cases hes:Nat.beq es inf.size with
    | false=>rw [hes] at h;cases h
    | true =>
    rw [hes] at h
    simp only [cond_true,Option.some.injEq] at h;subst h
    have:=On (g':=g') hs hg
    simp only [this,hes,cond_true]
  · exact h
  · rename_i hx0
    split at h
    case h_2=>cases h
    rename_i m es nb obs rs hs
    cases hes:Nat.beq es inf.size with
    | false=>rw [hes] at h;cases h
    | true =>
    rw [hes] at h
    simp only [cond_true,Option.some.injEq] at h;subst h
    have:=On (g':=g') hs hg
    simp only [this,hes,cond_true]
  · rename_i b w es len cap hx0 _
    split at h
    case h_2=>cases h
    rename_i d m es' nb obs rs hd hs
    cases hes:(Nat.beq es inf.size&&Nat.beq es' es) with
    | false=>rw [hes] at h;cases h
    | true =>
    rw [hes] at h
    simp only [cond_true] at h
    split at h
    case h_2=>cases h
    rename_i old obs' hsub
    simp only [Option.map_eq_some_iff] at h
    obtain ⟨d',happ,rfl⟩:=h
    have h1:=On (g':=g') hs (fun b' hb=>hg b' (by simp only [List.mem_cons];exact .inr hb))
    have h2:g' b=some d:=by rw [hg b (by simp)];exact hd
    simp only [h1,h2,hes,cond_true,hsub,happ];rfl
  · cases h
mutual
theorem GH {σ:Nat→Option Nat} {g g':Nat→Option bt}:∀ (n:Nat) (v:AV),(∀ b∈(Tg σ g n v).2,g' b=g b)→Tg σ g' n v=Tg σ g n v
  | 0,_,_=>rfl
  | n + 1, v, h => by
    cases v<;>simp only [Tg] at h ⊢
    · rename_i b w i j
      cases hs:σ b with
      | some c=>rfl
      | none =>
      rw [hs] at h
      simp only at h ⊢
      have hb:g' b=g b:=by
        cases q:g b with
        | none=>rw [q] at h;have:=h b (by simp);rw [this,q]
        | some d=>rw [q] at h;have:=h b (by simp);rw [this,q]
      rw [hb]
      cases q:g b with
      | none=>rfl
      | some d =>
        rw [q] at h
        have:=Yq (σ:=σ) (g:=g) (g':=g') n d (fun b' hb'=>h b' (by simp only [List.mem_cons];exact .inr hb'))
        simp only [this]
    · rename_i b w es i len cap
      cases hs:σ b with
      | some c=>rfl
      | none =>
      rw [hs] at h
      simp only at h ⊢
      have hb:g' b=g b:=by
        cases q:g b with
        | none=>rw [q] at h;have:=h b (by simp);rw [this,q]
        | some d=>rw [q] at h;have:=h b (by simp);rw [this,q]
      rw [hb]
      cases q:g b with
      | none=>rfl
      | some d =>
        rw [q] at h
        have:=Yq (σ:=σ) (g:=g) (g':=g') n d (fun b' hb'=>h b' (by simp only [List.mem_cons];exact .inr hb'))
        simp only [this]
    · rename_i f l1 l2
      rw [xd n l1 (fun b hb=>h b (by simp [hb])),xd n l2 (fun b hb=>h b (by simp [hb]))]
    · rename_i l;rw [xd n l h]
    · rename_i l;rw [xd n l h]
    · rename_i t v;rw [GH n v h]
theorem xd {σ:Nat→Option Nat} {g g':Nat→Option bt}:∀ (n:Nat) (l:List AV),(∀ b∈(Qb σ g n l).2,g' b=g b)→Qb σ g' n l=Qb σ g n l
  | 0,_,_=>rfl
  | n+1,[],_=>rfl
  | n+1,v::l,h=>by
    simp only [Qb] at h ⊢
    rw [GH n v (fun b hb=>h b (by simp [hb])),xd n l (fun b hb=>h b (by simp [hb]))]
theorem Yq {σ:Nat→Option Nat} {g g':Nat→Option bt}:∀ (n:Nat) (d:bt),(∀ b∈(Oi σ g n d).2,g' b=g b)→Oi σ g' n d=Oi σ g n d
  | 0,_,_=>rfl
  | n+1,d,h=>by
    cases d<;>simp only [Oi] at h ⊢
    rename_i l;rw [xd n l h]
end
theorem vg{σ:Nat→Option Nat}{g g':Nat→Option bt} :∀ (m:List Bool) (l:List AV),(∀ b∈(px σ g m l).2,g' b=g b)→px σ g' m l=px σ g m l
  | m,[],_=>by cases m<;>rfl
  | true::m,v::l,h=>by
    simp only [px] at h ⊢
    rw [vg m l h]
  | false::m,v::l,h=>by
    simp only [px] at h ⊢
    rw [GH _ v (fun b hb=>h b (by simp [hb])),vg m l (fun b hb=>h b (by simp [hb]))]
  | [],v::l,h=>by
    simp only [px] at h ⊢
    rw [GH _ v (fun b hb=>h b (by simp [hb])),vg [] l (fun b hb=>h b (by simp [hb]))]
theorem Tj{g:Nat→Option bt} :∀ (n:Nat) (t acc:List Nat),∀ b∈acc,b∈r7 g n t acc
  | 0,t,acc,b,h=>h
  | n+1,[],acc,b,h=>h
  | n+1,x::t,acc,b,h=>by
    simp only [r7]
    split
    · exact Tj n _ _ b h
    · exact Tj n _ _ b (by simp [h])
theorem Jr{g g':Nat→Option bt} :∀ (n:Nat) (t acc:List Nat),(∀ b∈r7 g n t acc,g' b=g b)→r7 g' n t acc=r7 g n t acc
  | 0,t,acc,_=>rfl
  | n+1,[],acc,_=>rfl
  | n+1,x::t,acc,h=>by
    simp only [r7] at h ⊢
    split
    · rename_i e;rw [e] at h;exact Jr n _ _ h
    · rename_i e
      rw [e] at h
      simp only at h
      have hx:g' x=g x:=h x (Tj n _ _ x (by simp))
      rw [hx]
      exact Jr n _ _ h
theorem Qh{σ:Nat→Option Nat}{g g':Nat→Option bt} :∀ (l:List Nat),(∀ b∈l,g' b=g b)→zp σ g' l=zp σ g l
  | [],_=>rfl
  | b::l,h=>by simp only [zp];rw [h b (by simp),Qh l (fun x hx=>h x (by simp [hx]))]
theorem Js{g g':Nat→Option bt}{nid:Nat} :∀ (l:List Nat),(∀ b∈l,g' b=g b)→vf g' nid l=vf g nid l
  | [],_=>rfl
  | b::l,h=>by simp only [vf];rw [h b (by simp),Js l (fun x hx=>h x (by simp [hx]))]
theorem amn{C:Ol}{run:lH}{g g':Nat→Option bt}{nid:Nat}{p:mS}{fid:FuncId}{vals:List AV}{r:OpR}(h:agQ C run g nid p fid vals=some r)(hg:∀ b∈r.reads,g' b=g b) :agQ C run g' nid p fid vals=some r:=by
  have hreads:r.reads=r7 g mN (np (ve (C.mode fid).mask vals)) []++(px (rU (r7 g mN (np (ve (C.mode fid).mask vals)) []) 0) g (C.mode fid).mask vals).2:=by
    unfold agQ at h
    simp only at h
    generalize (GF (r7 g mN (np (ve (C.mode fid).mask vals)) [])&&vf g nid (r7 g mN (np (ve (C.mode fid).mask vals)) []))=c at h
    cases c with
    | false=>cases h
    | true =>
      simp only [cond_true] at h
      split at h
      case h_2=>cases h
      rename_i r' obs p' hl
      cases hle:Nat.ble r'.own.length ((r7 g mN (np (ve (C.mode fid).mask vals)) []).length+y6) with
      | false=>rw [hle] at h;cases h
      | true=>rw [hle] at h;simp only [cond_true,Option.some.injEq] at h;rw [←h]
  rw [hreads] at hg
  have e1:=Jr (g:=g) (g':=g') mN (np (ve (C.mode fid).mask vals)) [] (fun b hb=>hg b (by simp [hb]))
  have e2:=vg (σ:=rU (r7 g mN (np (ve (C.mode fid).mask vals)) []) 0) (g:=g) (g':=g') (C.mode fid).mask vals (fun b hb=>hg b (by simp [hb]))
  have e3:=Qh (σ:=rU (r7 g mN (np (ve (C.mode fid).mask vals)) []) 0) (g:=g) (g':=g') (r7 g mN (np (ve (C.mode fid).mask vals)) []) (fun b hb=>hg b (by simp [hb]))
  have e4:=Js (nid:=nid) (g:=g) (g':=g') (r7 g mN (np (ve (C.mode fid).mask vals)) []) (fun b hb=>hg b (by simp [hb]))
  unfold agQ at h ⊢
  simp only at h ⊢
  rw [e1,e2,e3,e4]
  exact h
theorem asM{C:Ol}{run:lH}{e e':Operand→AV}{g g':Nat→Option bt}{nid:Nat}{p:mS}{op:Op}{r:OpR}(h:opM C run e g nid p op=some r)(he:∀ x∈op.operands,e' x=e x)(hg:∀ b∈r.reads,g' b=g b) :
    opM C run e' g' nid p op=some r:=by
  unfold opM at h ⊢
  rw [aii he]
  split at h
  · exact h
  · rename_i hp
    clear hp
    split at h
    all_goals simp only [Op.operands,Call.operands] at he
    · rename_i t x
      simp only [Option.map_eq_some_iff] at h ⊢
      obtain ⟨r',h1,rfl⟩:=h
      exact ⟨r',by rw [he x (by simp)];exact amm h1 hg,rfl⟩
    · rename_i t x v
      simp only [Option.map_eq_some_iff] at h ⊢
      obtain ⟨r',h1,rfl⟩:=h
      exact ⟨r',by rw [he x (by simp),he v (by simp)];exact aij h1 (hg _ (by simp)),rfl⟩
    · exact h
    · rename_i t x;rw [he x (by simp)];exact h
    · rename_i t l c;rw [he l (by simp),he c (by simp)];exact h
    · rename_i t parts
      have:(parts.toList.map fun x=>(x.1,e' x.2))=(parts.toList.map fun x=>(x.1,e x.2)):=List.map_congr_left fun x hx=>by rw [he x.2 (by simp;exact ⟨x.1,by simpa using hx⟩)]
      rw [this];exact h
    · rename_i t len parts
      have:(parts.toList.map fun x=>(x.1,e' x.2))=(parts.toList.map fun x=>(x.1,e x.2)):=List.map_congr_left fun x hx=>by rw [he x.2 (by simp;exact ⟨x.1,by simpa using hx⟩)]
      rw [this];exact h
    · rename_i args ats
      split at h
      case h_2=>cases h
      rename_i s x t t' e1 e2
      cases ht:Nat.beq t t' with
      | false=>rw [ht] at h;cases h
      | true =>
      rw [ht] at h
      simp only [cond_true] at h ⊢
      have ea:args = #[s,x]:=by rw [←e1]
      subst ea
      rw [he s (by simp),he x (by simp)]
      split at h
      case h_2=>cases h
      rename_i alts rs ha
      simp only [Option.map_eq_some_iff] at h ⊢
      obtain ⟨r',h1,rfl⟩:=h
      have:=acG (g':=g') ha hg
      simp only [this,Option.map_eq_some_iff]
      exact ⟨r',h1,rfl⟩
    · rename_i f args ats
      have hf:e' f=e f:=he f (by simp)
      have hargs:args.toList.map e'=args.toList.map e:=List.map_congr_left fun x hx=>he x (by simp at hx;simp [hx])
      split at h
      case h_2=>cases h
      rename_i fid l hca
      have:Qc e' f args=some (fid,l):=by
        unfold Qc at hca ⊢
        rw [hf,hargs];exact hca
      simp only [this]
      split at h
      · exact h
      · exact amn h hg
    · cases h
def apL(l:List Operand) :List Nat:=l.filterMap fun | .tmp t=>some t | _=>none
def As(ops:Array Oper)(o:Oper) :List Nat :=
  (match o.dst with | some d=>[d] | none=>[])++(apL o.op.operands.toList++(match o.guard with | some (j,_)=>(match LD ops j with | some d=>[d] | none=>[]) | none=>[]))
def xe(s:List (Nat×Option bt)) :List Nat:=s.map Prod.fst
def LG(ms:List Nat)(o:Oper) :Nat:=o.after.toList.foldl (fun m e=>bif Region.binds .any e then m ||| (2^e.on ||| ms.getD e.on 0) else m) 0
def at1(x:Nat) :List Nat→Bool
  | []=>false
  | y::l=>Nat.beq x y||at1 x l
def apM:List Nat→List Nat→Bool
  | [],_=>true
  | x::l,m=>!at1 x m&&apM l m
theorem amo{x:Nat} :∀ {l:List Nat},at1 x l=true↔x∈l
  | []=>by simp [at1]
  | y::l=>by simp [at1,amo (l:=l)]
theorem LH{l m:List Nat}(h:apM l m=true) :∀ x,x∈l→x∈m→False:=by
  induction l with
  | nil=>intro x hx;cases hx
  | cons y l ih =>
    simp only [apM,Bool.and_eq_true,Bool.not_eq_true'] at h
    intro x hx hm
    rcases List.mem_cons.1 hx with rfl | hx
    · have:=amo.2 hm;rw [this] at h;cases h.1
    · exact ih h.2 x hx hm
def wW(ops:Array Oper)(o:Oper)(r:LC)(o':Oper)(r':LC) :Bool :=
  apM o.dst.toList (As ops o')&&(apM o'.dst.toList (As ops o)&&(apM (xe r.sets) (r'.reads++xe r'.sets)&&apM (xe r'.sets) (r.reads++xe r.sets)))
def Jt(ops:Array Oper)(mask:Nat)(o':Oper)(r':LC) :Nat→List (Oper×LC)→Bool
  | _,[]=>true
  | i,x::l=>(mask.testBit i||wW ops x.1 x.2 o' r')&&Jt ops mask o' r' (i+1) l
def Yr(ops:Array Oper) :List (Oper×LC)→List Nat→List (Oper×LC)→Bool
  | _,_,[]=>true
  | pre,ms,x::l =>
    x.1.after.toList.all (fun e=>!Region.binds .any e||Nat.blt e.on pre.length) &&
    (Jt ops (LG ms x.1) x.1 x.2 0 pre&&Yr ops (pre++[x]) (ms++[LG ms x.1]) l)
def u7(L:Nat→Bool) :Nat→List (Oper×LC)→List AV×d5→List AV×d5
  | _,[],s=>s
  | i,x::l,s=>u7 L (i+1) l (bif L i then (Qe s.1 x.1.dst x.2.v,fM x.2.sets s.2) else s)
theorem Qi(T:List AV)(d:Option Nat)(v:AV)(t:Nat) :(Qe T d v)[t]? = if d=some t then (T[t]?).map (fun _=>v) else T[t]?:=by
  cases d with
  | none=>simp [Qe]
  | some d =>
    simp only [Qe,Option.some.injEq]
    rw [List.getElem?_set]
    by_cases h:d=t
    · subst h
      simp only [if_true]
      by_cases hl:d<T.length
      · simp [hl]
      · simp [hl]
    · simp [h]
theorem yn{h h':d5}{b:Nat} :∀ (s:List (Nat×Option bt)) {h h':d5},cn h b=cn h' b→cn (fM s h) b=cn (fM s h') b
  | [],_,_,e=>e
  | (c,some d)::s,h,h',e=>by
    simp only [fM]
    exact yn (h:=h) (h':=h') s (by rw [i0,i0,e])
  | (c,none)::s,h,h',e=>by
    simp only [fM]
    exact yn (h:=h) (h':=h') s (by rw [w8,w8,e])
theorem yo{b:Nat} :∀ (s:List (Nat×Option bt)) {h:d5},b ∉ xe s→cn (fM s h) b=cn h b
  | [],_,_=>rfl
  | (c,some d)::s,h,hb=>by
    simp only [xe,List.map_cons,List.mem_cons,not_or] at hb
    simp only [fM]
    rw [yo s hb.2,i0,if_neg (fun e=>hb.1 e.symm)]
  | (c,none)::s,h,hb=>by
    simp only [xe,List.map_cons,List.mem_cons,not_or] at hb
    simp only [fM]
    rw [yo s hb.2,w8,if_neg (fun e=>hb.1 e.symm)]
theorem aik{L L':Nat→Bool}{t:Nat} :∀ (l:List (Oper×LC)) (i:Nat) {s s':List AV×d5},(∀ k x,l[k]? = some x→x.1.dst=some t→L (i+k)=L' (i+k))→s.1[t]? = s'.1[t]?→(u7 L i l s).1[t]? = (u7 L' i l s').1[t]?
  | [],_,_,_,_,e=>e
  | x::l,i,s,s',h,e=>by
    simp only [u7]
    refine aik l (i+1) (fun k y hy hd=>by have:=h (k+1) y (by simpa using hy) hd;rw [show i+1+k=i+(k+1) from by omega];exact this) ?_
    by_cases hd:x.1.dst=some t
    · have:=h 0 x (by simp) hd
      simp only [Nat.add_zero] at this
      rw [this]
      cases L' i with
      | true=>simp only [cond_true,Qi,hd,if_true,e]
      | false=>exact e
    · cases L i<;>cases L' i<;>simp only [cond_true,cond_false,Qi,if_neg hd,e]
theorem ail{L L':Nat→Bool}{b:Nat} :∀ (l:List (Oper×LC)) (i:Nat) {s s':List AV×d5},(∀ k x,l[k]? = some x→b∈xe x.2.sets→L (i+k)=L' (i+k))→cn s.2 b=cn s'.2 b→cn (u7 L i l s).2 b=cn (u7 L' i l s').2 b
  | [],_,_,_,_,e=>e
  | x::l,i,s,s',h,e=>by
    simp only [u7]
    refine ail l (i+1) (fun k y hy hd=>by have:=h (k+1) y (by simpa using hy) hd;rw [show i+1+k=i+(k+1) from by omega];exact this) ?_
    by_cases hd:b∈xe x.2.sets
    · have:=h 0 x (by simp) hd
      simp only [Nat.add_zero] at this
      rw [this]
      cases L' i with
      | true=>simp only [cond_true];exact yn (h:=s.2) (h':=s'.2) _ e
      | false=>exact e
    · cases L i<;>cases L' i<;>simp only [cond_true,cond_false,yo _ hd,e]
def fh:List (Oper×LC)→List AV×d5→List AV×d5
  | [],s=>s
  | x::l,s=>fh l (Qe s.1 x.1.dst x.2.v,fM x.2.sets s.2)
theorem Ys(l m:List (Oper×LC))(s:List AV×d5) :fh (l++m) s=fh m (fh l s):=by
  induction l generalizing s with
  | nil=>rfl
  | cons x l ih=>simp only [List.cons_append,fh,ih]
theorem XT:∀ (l:List (Oper×LC)) (i j:Nat) (s:List AV×d5),u7 (fun k=>decide (k<i+j)) i l s=fh (l.take j) s
  | [],i,j,s=>by simp [u7,fh]
  | x::l,i,0,s=>by
    have:∀ (l:List (Oper×LC)) (i':Nat),i≤i'→∀ s,u7 (fun k=>decide (k<i+0)) i' l s=s:=by
      intro l
      induction l with
      | nil=>intro _ _ s;rfl
      | cons y l ih =>
        intro i' hi s
        simp only [u7]
        have:decide (i'<i+0)=false:=by simp;omega
        rw [this];exact ih (i'+1) (by omega) s
    simp only [List.take_zero,fh]
    exact this _ i (Nat.le_refl _) s
  | x::l,i,j+1,s=>by
    simp only [u7,List.take_succ_cons,fh]
    have h1:decide (i<i+(j+1))=true:=by simp
    rw [h1]
    simp only [cond_true]
    have:=XT l (i+1) j (Qe s.1 x.1.dst x.2.v,fM x.2.sets s.2)
    rw [show i+1+j=i+(j+1) from by omega] at this
    exact this
structure at2 (ops:Array Oper) (l:List (Oper×LC)) (ms:List Nat):Prop where
  edge:∀ (j:Nat) (x:Oper×LC),l[j]? = some x→∀ e∈x.1.after,Region.binds .any e=true→e.on<j
  mask:∀ (j:Nat) (x:Oper×LC),l[j]? = some x→∃ m:Nat,ms[j]? = some m∧∀ i:Nat,m.testBit i=true→∃ e∈x.1.after,Region.binds .any e=true∧(e.on=i∨∃ m':Nat,ms[e.on]? = some m'∧m'.testBit i=true)
  pair:∀ (i j:Nat) (x y:Oper×LC),l[i]? = some x→l[j]? = some y→i<j→(∃ m:Nat,ms[j]? = some m∧m.testBit i=true)∨wW ops x.1 x.2 y.1 y.2=true
theorem Yt(ms:List Nat) :∀ (es:List Edge) (m0 i:Nat),(es.foldl (fun m e=>bif Region.binds .any e then m ||| (2^e.on ||| ms.getD e.on 0) else m) m0).testBit i=true →
    m0.testBit i=true∨∃ e∈es,Region.binds .any e=true∧(e.on=i∨(ms.getD e.on 0).testBit i=true)
  | [],m0,i,h=>.inl h
  | e::es,m0,i,h=>by
    simp only [List.foldl_cons] at h
    rcases Yt ms es _ i h with h | ⟨e',h1,h2,h3⟩
    · cases hb:Region.binds .any e with
      | false=>rw [hb] at h;exact .inl h
      | true =>
        rw [hb] at h
        simp only [cond_true,Nat.testBit_or,Bool.or_eq_true,Nat.testBit_two_pow,decide_eq_true_eq] at h
        rcases h with h | h | h
        · exact .inl h
        · exact .inr ⟨e,by simp,hb,.inl h⟩
        · exact .inr ⟨e,by simp,hb,.inr h⟩
    · exact .inr ⟨e',by simp [h1],h2,h3⟩
theorem Mt{ops:Array Oper}{mask:Nat}{o':Oper}{r':LC} :∀ {l:List (Oper×LC)} {i:Nat},Jt ops mask o' r' i l=true→∀ k x,l[k]? = some x→mask.testBit (i+k)=true∨wW ops x.1 x.2 o' r'=true
  | [],_,_,k,x,h=>by simp at h
  | y::l,i,h,0,x,hx=>by
    simp only [Jt,Bool.and_eq_true,Bool.or_eq_true] at h
    simp at hx;subst hx;simpa using h.1
  | y::l,i,h,k+1,x,hx=>by
    simp only [Jt,Bool.and_eq_true,Bool.or_eq_true] at h
    have:=Mt h.2 k x (by simpa using hx)
    rw [show i+1+k=i+(k+1) from by omega] at this;exact this
theorem UO{ops:Array Oper} :∀ (l pre:List (Oper×LC)) (ms:List Nat),ms.length=pre.length→Yr ops pre ms l=true→at2 ops pre ms→∃ ms',at2 ops (pre++l) ms'
  | [],pre,ms,_,_,D=>⟨ms,by simpa using D⟩
  | x::l,pre,ms,hl,h,D=>by
    simp only [Yr,Bool.and_eq_true] at h
    obtain ⟨h1,h2,h3⟩:=h
    have:=UO l (pre++[x]) (ms++[LG ms x.1]) (by simp [hl]) h3 ?_
    · simpa using this
    have old:∀ (j:Nat) (y:Oper×LC),(pre++[x])[j]? = some y→(j<pre.length∧pre[j]? = some y)∨(j=pre.length∧y=x):=by
      intro j y hy
      rw [List.getElem?_append] at hy
      split at hy
      · rename_i q;exact .inl ⟨q,hy⟩
      · rename_i q
        have:j-pre.length=0:=by
          rcases Nat.eq_zero_or_pos (j-pre.length) with r | r
          · exact r
          · rw [List.getElem?_eq_none (by simp;omega)] at hy;cases hy
        rw [this] at hy;simp at hy;exact .inr ⟨by omega,hy.symm⟩
    have msl:∀ (j m:Nat),ms[j]? = some m→(ms++[LG ms x.1])[j]? = some m:=by
      intro j m hm
      rw [List.getElem?_append_left (List.getElem?_eq_some_iff.1 hm).1];exact hm
    have msn:(ms++[LG ms x.1])[pre.length]? = some (LG ms x.1):=by
      rw [←hl,List.getElem?_append_right (Nat.le_refl _)];simp
    have hedge:∀ e∈x.1.after,Region.binds .any e=true→e.on<pre.length:=by
      intro e he hb
      have:=List.all_eq_true.1 h1 e (by simpa using he)
      rw [hb] at this
      simpa [Nat.blt_eq] using this
    refine ⟨fun j y hy=>?_,fun j y hy=>?_,fun i j a b ha hb hij=>?_⟩
    · rcases old j y hy with ⟨q,hy⟩ | ⟨rfl,rfl⟩
      · exact D.edge j y hy
      · exact hedge
    · rcases old j y hy with ⟨q,hy⟩ | ⟨rfl,rfl⟩
      · obtain ⟨m,k1,k2⟩:=D.mask j y hy
        refine ⟨m,msl j m k1,fun i hi=>?_⟩
        obtain ⟨e,e1,e2,e3⟩:=k2 i hi
        exact ⟨e,e1,e2,e3.imp id fun ⟨m',q1,q2⟩=>⟨m',msl _ m' q1,q2⟩⟩
      · refine ⟨_,msn,fun i hi=>?_⟩
        rcases Yt ms y.1.after.toList 0 i hi with q | ⟨e,e1,e2,e3⟩
        · simp at q
        · refine ⟨e,by simpa using e1,e2,e3.imp id fun q=>?_⟩
          rw [List.getD_eq_getElem?_getD] at q
          cases hm:ms[e.on]? with
          | none=>rw [hm] at q;simp at q
          | some m'=>rw [hm] at q;exact ⟨m',msl _ m' hm,q⟩
    · rcases old j b hb with ⟨q,hb⟩ | ⟨rfl,rfl⟩
      · rcases old i a ha with ⟨q',ha⟩ | ⟨rfl,rfl⟩
        · exact (D.pair i j a b ha hb hij).imp (fun ⟨m,k1,k2⟩=>⟨m,msl j m k1,k2⟩) id
        · omega
      · rcases old i a ha with ⟨q',ha⟩ | ⟨rfl,rfl⟩
        · have:=Mt h2 i a ha
          rw [Nat.zero_add] at this
          exact this.imp (fun k=>⟨_,msn,k⟩) id
        · omega
theorem apN{l:List Operand}{t:Nat}(h:Operand.tmp t∈l) :t∈apL l:=by
  simp only [apL,List.mem_filterMap];exact ⟨_,h,rfl⟩
theorem amp{C:Ol}{run:lH}{ops:Array Oper}{n0 i:Nat}{o:Oper}{T T':List AV}{h h':d5}{p p':mS}{r:LC}{obs:List Bool}(hr:Qd C run ops n0 i o T h p=some (r,obs,p')) 
    (hT:∀ t∈As ops o,T'[t]? = T[t]?) (hh:∀ b∈r.reads,cn h' b=cn h b):Qd C run ops n0 i o T' h' p=some (r,obs,p'):=by
  have hw:LE ops o T'=LE ops o T:=by
    unfold LE
    cases hg:o.guard with
    | none=>rfl
    | some x =>
      obtain ⟨j,want⟩:=x
      simp only
      cases hs:LD ops j with
      | none=>rfl
      | some d=>simp only;rw [hT d (by simp [As,hg,hs])]
  unfold Qd at hr ⊢
  rw [hw]
  split at hr
  · cases hr
  · exact hr
  · split at hr
    · cases hr
    · rename_i r' hop
      have:opM C run (evA T') (cn h') (n0+i*y6) p o.op=some r':=by
        refine asM hop (fun x hx=>?_) (fun b hb=>?_)
        · cases x with
          | tmp t=>simp only [evA];rw [hT t (by simp only [As,List.mem_append];exact .inr (.inl (apN (by simpa using hx))))]
          | _=>rfl
        · apply hh
          split at hr
          · cases hr
          · simp only [Option.some.injEq,Prod.mk.injEq] at hr;rw [←hr.1];exact hb
      simp only [this]
      exact hr
def Yu(C:Ol)(run:lH)(ops:Array Oper)(n0:Nat) :Nat→List Oper→List AV→d5→mS→Option (List LC×List AV×d5×List Bool×mS)
  | _,[],T,h,p=>some ([],T,h,[],p)
  | i,o::l,T,h,p =>
    match Qd C run ops n0 i o T h p with
    | none=>none
    | some (r,obs,p') =>
      match Yu C run ops n0 (i+1) l (Qe T o.dst r.v) (fM r.sets h) p' with
      | none=>none
      | some (rs,T',h',obs',p'')=>some (r::rs,T',h',obs++obs',p'')
theorem UP{C:Ol}{run:lH}{ops:Array Oper}{n0:Nat} :∀ (l:List Oper) (i:Nat) {T T':List AV} {h h':d5} {p p':mS} {obs:List Bool} {rs:List LC},Yu C run ops n0 i l T h p=some (rs,T',h',obs,p')→bu obs →
    rs.length=l.length∧fh (l.zip rs) (T,h)=(T',h')∧∀ (j:Nat) (o:Oper),l[j]? = some o→∃ r obs' q q',rs[j]? = some r∧bu obs' ∧
      Qd C run ops n0 (i+j) o (fh ((l.zip rs).take j) (T,h)).1 (fh ((l.zip rs).take j) (T,h)).2 q=some (r,obs',q')
  | [],i,T,T',h,h',p,p',obs,rs,hr,_=>by
    simp only [Yu,Option.some.injEq,Prod.mk.injEq] at hr;obtain ⟨rfl,rfl,rfl,rfl,rfl⟩:=hr
    exact ⟨rfl,rfl,fun j o h=>by simp at h⟩
  | o::l,i,T,T',h,h',p,p',obs,rs,hr,ho=>by
    simp only [Yu] at hr
    split at hr
    case h_1=>cases hr
    rename_i r obs1 p1 h1
    split at hr
    case h_1=>cases hr
    rename_i rs2 T2 h2 obs2 p2 h3
    simp only [Option.some.injEq,Prod.mk.injEq] at hr;obtain ⟨rfl,rfl,rfl,rfl,rfl⟩:=hr
    rw [cC] at ho
    obtain ⟨a1,a2,a3⟩:=UP l (i+1) h3 ho.2
    refine ⟨by simp [a1],by simpa [fh] using a2,fun j o' hj=>?_⟩
    cases j with
    | zero=>simp at hj;subst hj;exact ⟨r,obs1,p,p1,by simp,ho.1,by simpa [fh] using h1⟩
    | succ j =>
      obtain ⟨r',ob,q,q',b1,b2,b3⟩:=a3 j o' (by simpa using hj)
      refine ⟨r',ob,q,q',by simpa using b1,b2,?_⟩
      rw [show i+(j+1)=i+1+j from by omega]
      simpa [fh] using b3
theorem agS{p q:Nat→Bool} :∀ {l:List Nat} {j:Nat},j∈l→p j=true→q j=false→(∀ i,q i=true→p i=true)→l.countP q<l.countP p
  | [],_,h,_,_,_=>by cases h
  | x::l,j,h,hp,hq,hi=>by
    have mono:∀ l:List Nat,l.countP q≤l.countP p:=fun l=>List.countP_mono_left fun x _=>hi x
    simp only [List.countP_cons]
    rcases List.mem_cons.1 h with rfl | h
    · rw [hp,hq];have:=mono l;simp;omega
    · have:=agS h hp hq hi
      by_cases hx:q x=true
      · rw [hx,hi x hx];omega
      · have hq':q x=false:=by simpa using hx
        rw [hq'];simp only [Bool.false_eq_true,if_false];split<;>omega
theorem avp{i j y:Nat}(h1:i*y6≤y)(h2:y<i*y6+y6)(h3:j*y6≤y)(h4:y<j*y6+y6) :i=j:=by
  have hS:0<y6:=by decide
  have a:y/y6=i:=by rw [Nat.div_eq_iff hS];omega
  have b:y/y6=j:=by rw [Nat.div_eq_iff hS];omega
  omega
theorem at3{C:Ol}(hC:C.Ok){run:lH}(hrun:Ym C.P run){ops:Array Oper}{n0:Nat}{T0:List AV}{h0:d5}{rs:List LC}{ms:List Nat}(D:at2 ops (ops.toList.zip rs) ms)(hlen:rs.length=ops.size) 
    (each:∀ (j:Nat) (o:Oper),ops.toList[j]? = some o→∃ r obs' q q',rs[j]? = some r∧bu obs' ∧
      Qd C run ops n0 j o (fh ((ops.toList.zip rs).take j) (T0,h0)).1 (fh ((ops.toList.zip rs).take j) (T0,h0)).2 q=some (r,obs',q'))
    {Q:Exit→Act→World→Prop}:∀ (fuel:Nat) (listed:Array Bool),listed.size=ops.size→(∀ (j:Nat) (o:Oper),ops[j]? = some o→listed.getD j false=true→∀ e∈o.after,Region.binds .any e=true→listed.getD e.on false=true) →
      (List.range ops.size).countP (fun i=>!listed.getD i false)≤fuel→∀ {ρ:aO} {w:World} {a:Act},HR ρ w (u7 (fun i=>listed.getD i false) 0 (ops.toList.zip rs) (T0,h0)).2 (n0+ops.size*y6) →
      (∀ b,ρ.ok b→b<n0∨∃ i,listed.getD i false=true∧n0+i*y6≤b∧b<n0+i*y6+y6)→a.defers=[]→jf ρ w (u7 (fun i=>listed.getD i false) 0 (ops.toList.zip rs) (T0,h0)).1 a.tmps.toList →
      (∀ ρ' w' a',va ρ ρ' w→pX ρ.live w w'→HR ρ' w' (fh (ops.toList.zip rs) (T0,h0)).2 (n0+ops.size*y6)→a'.defers=[]→jf ρ' w' (fh (ops.toList.zip rs) (T0,h0)).1 a'.tmps.toList→(∀ b,ρ'.ok b→ρ.ok b∨n0≤b)→Q .normal a' w') →
      wpAny C.P .any ops Q fuel listed a w:=by
  have hzl:(ops.toList.zip rs).length=ops.size:=by simp [hlen]
  have zget:∀ (j:Nat) (o:Oper) (r:LC),ops[j]? = some o→rs[j]? = some r→(ops.toList.zip rs)[j]? = some (o,r):=by
    intro j o r h1 h2
    rw [List.getElem?_zip_eq_some];exact ⟨by simpa using h1,h2⟩
  have zinv:∀ (j:Nat) (x:Oper×LC),(ops.toList.zip rs)[j]? = some x→ops[j]? = some x.1∧rs[j]? = some x.2:=by
    intro j x hx
    have:=List.getElem?_zip_eq_some.1 (show (ops.toList.zip rs)[j]? = some (x.1,x.2) from hx)
    exact ⟨by simpa using this.1,this.2⟩

  have allL:∀ (listed:Array Bool),listed.size=ops.size→(∀ i,i<ops.size→listed.getD i false=true)→u7 (fun i=>listed.getD i false) 0 (ops.toList.zip rs) (T0,h0)=fh (ops.toList.zip rs) (T0,h0):=by
    intro listed hs hall
    have:∀ (l:List (Oper×LC)) (i:Nat) (s:List AV×d5),i+l.length≤ops.size→u7 (fun i=>listed.getD i false) i l s=fh l s:=by
      intro l
      induction l with
      | nil=>intro _ _ _;rfl
      | cons x l ih =>
        intro i s hi
        simp only [List.length_cons] at hi
        simp only [u7,fh]
        rw [hall i (by omega)]
        exact ih (i+1) _ (by omega)
    exact this _ 0 _ (by rw [hzl];omega)

  have down:∀ (listed:Array Bool),(∀ (j:Nat) (o:Oper),ops[j]? = some o→listed.getD j false=true→∀ e∈o.after,Region.binds .any e=true→listed.getD e.on false=true) →
      ∀ (j:Nat) (o:Oper),ops[j]? = some o→(∀ e∈o.after,Region.binds .any e=true→listed.getD e.on false=true)→∀ (i m:Nat),ms[j]? = some m→m.testBit i=true→listed.getD i false=true:=by
    intro listed hcl j
    induction j using Nat.strongRecOn with
    | _ j ih =>
      intro o ho hpre i m hm hbit
      have hlt:j<ops.size:=(Array.getElem?_eq_some_iff.1 ho).1
      obtain ⟨r,hr⟩:∃ r,rs[j]? = some r:=⟨rs[j]'(by omega),List.getElem?_eq_getElem (by omega)⟩
      have hz:=zget j o r ho hr
      obtain ⟨m',k1,k2⟩:=D.mask j _ hz
      rw [hm] at k1;cases k1
      obtain ⟨e,e1,e2,e3⟩:=k2 i hbit
      have hL:=hpre e e1 e2
      rcases e3 with rfl | ⟨m'',q1,q2⟩
      · exact hL
      · have hej:=D.edge j _ hz e e1 e2
        have hon:e.on<ops.size:=by omega
        exact ih e.on hej _ (Array.getElem?_eq_getElem hon) (hcl e.on _ (Array.getElem?_eq_getElem hon) hL) i m'' q1 q2
  intro fuel
  induction fuel with
  | zero =>
    intro listed hs hcl hcnt ρ w a hh hok hd hT hQ
    have hall:∀ i,i<ops.size→listed.getD i false=true:=by
      intro i hi
      have h0:=List.countP_eq_zero.1 (Nat.le_zero.1 hcnt) i (List.mem_range.2 hi)
      simpa using h0
    simp only [wpAny]
    refine ⟨?_,?_⟩
    · cases hr:Region.ready .any ops listed with
      | nil=>rfl
      | cons x xs =>
        have hx:x∈Region.ready .any ops listed:=by rw [hr];simp
        obtain ⟨k1,o,k2,_⟩:=mem_ready.1 hx
        have hlt:x<ops.size:=(Array.getElem?_eq_some_iff.1 k2).1
        have:=hall x hlt
        rw [Array.getD_eq_getD_getElem?,Array.getElem?_eq_getElem (by omega)] at this k1
        simp only [Option.getD_some] at this k1
        rw [this] at k1;cases k1
    · rw [allL listed hs hall] at hh hT
      exact hQ ρ w a (va.refl _ _) (pX.refl _ _) hh hd hT (fun b q=>.inl q)
  | succ fuel ih =>
    intro listed hs hcl hcnt ρ w a hh hok hd hT hQ
    simp only [wpAny]
    have sameD:∀ j,j<ops.size→listed.getD j true=listed.getD j false:=by
      intro j hj
      rw [Array.getD_eq_getD_getElem?,Array.getD_eq_getD_getElem?,Array.getElem?_eq_getElem (by omega)];rfl
    refine ⟨fun hr=>?_,fun j hj=>?_⟩
    · have hall:∀ i,i<ops.size→listed.getD i false=true:=by
        intro i
        induction i using Nat.strongRecOn with
        | _ i ihi =>
          intro hi
          cases hl:listed.getD i false with
          | true=>rfl
          | false =>
            have ho:=Array.getElem?_eq_getElem hi
            obtain ⟨r,hrr⟩:∃ r,rs[i]? = some r:=⟨rs[i]'(by omega),List.getElem?_eq_getElem (by omega)⟩
            have hz:=zget i _ r ho hrr
            have:i∈Region.ready .any ops listed:=mem_ready.2 ⟨by rw [sameD i hi];exact hl,_,ho,fun e he hb=>ihi e.on (D.edge i _ hz e he hb) (by have:=D.edge i _ hz e he hb;omega)⟩
            rw [hr] at this;cases this
      rw [allL listed hs hall] at hh hT
      exact hQ ρ w a (va.refl _ _) (pX.refl _ _) hh hd hT (fun b q=>.inl q)
    · obtain ⟨k1,o,ho,hpre⟩:=mem_ready.1 hj
      have hlt:j<ops.size:=(Array.getElem?_eq_some_iff.1 ho).1
      rw [sameD j hlt] at k1
      obtain ⟨r,obs',q,q',hr,hob,hone⟩:=each j o (by simpa using ho)
      have hz:=zget j o r ho hr

      have agree:∀ (i:Nat) (x:Oper×LC),(ops.toList.zip rs)[i]? = some x→i≠j→wW ops x.1 x.2 o r=false→wW ops o r x.1 x.2=false→listed.getD i false=decide (i<j):=by
        intro i x hx hne n1 n2
        have hxi:=zinv i x hx
        rcases Nat.lt_or_gt_of_ne hne with hij | hij
        · rcases D.pair i j x (o,r) hx hz hij with ⟨m,hm,hb⟩ | hap
          · rw [down listed hcl j o ho hpre i m hm hb];simp [hij]
          · simp only at hap;rw [n1] at hap;cases hap
        · rcases D.pair j i (o,r) x hz hx hij with ⟨m,hm,hb⟩ | hap
          · have : ¬ i<j:=by omega
            simp only [this,decide_false]
            cases hl:listed.getD i false with
            | false=>rfl
            | true =>
              have:=down listed hcl i x.1 hxi.1 (hcl i x.1 hxi.1 hl) j m hm hb
              rw [k1] at this;cases this
          · simp only at hap;rw [n2] at hap;cases hap
      have napT:∀ (x:Oper×LC) (t:Nat),x.1.dst=some t→t∈As ops o→wW ops x.1 x.2 o r=false∧wW ops o r x.1 x.2=false:=by
        intro x t hdst ht
        constructor
        · cases hap:wW ops x.1 x.2 o r with
          | false=>rfl
          | true=>simp only [wW,Bool.and_eq_true] at hap;exact (LH hap.1 t (by simp [hdst]) ht).elim
        · cases hap:wW ops o r x.1 x.2 with
          | false=>rfl
          | true=>simp only [wW,Bool.and_eq_true] at hap;exact (LH hap.2.1 t (by simp [hdst]) ht).elim
      have napH:∀ (x:Oper×LC) (b:Nat),b∈xe x.2.sets→b∈r.reads++xe r.sets→wW ops x.1 x.2 o r=false∧wW ops o r x.1 x.2=false:=by
        intro x b hx hb
        constructor
        · cases hap:wW ops x.1 x.2 o r with
          | false=>rfl
          | true=>simp only [wW,Bool.and_eq_true] at hap;exact (LH hap.2.2.1 b hx hb).elim
        · cases hap:wW ops o r x.1 x.2 with
          | false=>rfl
          | true=>simp only [wW,Bool.and_eq_true] at hap;exact (LH hap.2.2.2 b hx hb).elim
      have eqT:∀ t∈As ops o,(u7 (fun i=>listed.getD i false) 0 (ops.toList.zip rs) (T0,h0)).1[t]? = (fh ((ops.toList.zip rs).take j) (T0,h0)).1[t]?:=by
        intro t ht
        have:=XT (ops.toList.zip rs) 0 j (T0,h0)
        rw [←this]
        refine aik _ 0 (fun k x hx hdst=>?_) rfl
        rw [Nat.zero_add,Nat.zero_add]
        by_cases hkj:k=j
        · subst hkj;rw [k1];simp
        · obtain ⟨n1,n2⟩:=napT x t hdst ht;exact agree k x hx hkj n1 n2
      have eqH:∀ b∈r.reads++xe r.sets,cn (u7 (fun i=>listed.getD i false) 0 (ops.toList.zip rs) (T0,h0)).2 b=cn (fh ((ops.toList.zip rs).take j) (T0,h0)).2 b:=by
        intro b hb
        have:=XT (ops.toList.zip rs) 0 j (T0,h0)
        rw [←this]
        refine ail _ 0 (fun k x hx g8=>?_) rfl
        rw [Nat.zero_add,Nat.zero_add]
        by_cases hkj:k=j
        · subst hkj;rw [k1];simp
        · obtain ⟨n1,n2⟩:=napH x b g8 hb;exact agree k x hx hkj n1 n2
      have hloc:=amp hone eqT (fun b hb=>eqH b (by simp [hb]))

      have L'eq:∀ i,(listed.setIfInBounds j true).getD i false=if i=j then true else listed.getD i false:=by
        intro i
        by_cases hij:i=j
        · subst hij;rw [if_pos rfl,Array.getD_eq_getD_getElem?];simp [hs,hlt]
        · rw [if_neg hij];exact getD_set_ne false (fun e=>hij e.symm)
      have step1:=XT (ops.toList.zip rs) 0 (j+1) (T0,h0)
      have hsplit:fh ((ops.toList.zip rs).take (j+1)) (T0,h0)=(Qe (fh ((ops.toList.zip rs).take j) (T0,h0)).1 o.dst r.v,fM r.sets (fh ((ops.toList.zip rs).take j) (T0,h0)).2):=by
        have hjl:j<(ops.toList.zip rs).length:=by rw [hzl];exact hlt
        have:(ops.toList.zip rs).take (j+1)=(ops.toList.zip rs).take j++[(o,r)]:=by
          rw [List.take_succ_eq_append_getElem hjl]
          have:=List.getElem?_eq_getElem hjl
          rw [hz] at this
          rw [←Option.some.inj this]
        rw [this,Ys];rfl
      have newT:∀ t:Nat,(Qe (u7 (fun i=>listed.getD i false) 0 (ops.toList.zip rs) (T0,h0)).1 o.dst r.v)[t]? = (u7 (fun i=>(listed.setIfInBounds j true).getD i false) 0 (ops.toList.zip rs) (T0,h0)).1[t]?:=by
        intro t
        rw [Qi]
        by_cases hdst:o.dst=some t
        · rw [if_pos hdst]
          have e1:=eqT t (by simp [As,hdst])
          rw [e1]
          have e2:(u7 (fun i=>(listed.setIfInBounds j true).getD i false) 0 (ops.toList.zip rs) (T0,h0)).1[t]? = (fh ((ops.toList.zip rs).take (j+1)) (T0,h0)).1[t]?:=by
            rw [←step1]
            refine aik _ 0 (fun k x hx hd2=>?_) rfl
            rw [Nat.zero_add,Nat.zero_add,L'eq]
            by_cases hkj:k=j
            · subst hkj;simp
            · rw [if_neg hkj]
              obtain ⟨n1,n2⟩:=napT x t hd2 (by simp [As,hdst])
              rw [agree k x hx hkj n1 n2]
              by_cases q:k<j<;>simp [q]<;>omega
          rw [e2,hsplit,Qi,if_pos hdst]
        · rw [if_neg hdst]
          refine aik _ 0 (fun k x hx hd2=>?_) rfl
          rw [Nat.zero_add,L'eq]
          by_cases hkj:k=j
          · subst hkj;rw [hz] at hx;cases hx;exact absurd hd2 hdst
          · rw [if_neg hkj]
      have newH:∀ b:Nat,cn (u7 (fun i=>(listed.setIfInBounds j true).getD i false) 0 (ops.toList.zip rs) (T0,h0)).2 b=cn (fM r.sets (u7 (fun i=>listed.getD i false) 0 (ops.toList.zip rs) (T0,h0)).2) b:=by
        intro b
        by_cases hb:b∈xe r.sets
        · rw [yn (h:=(u7 (fun i=>listed.getD i false) 0 (ops.toList.zip rs) (T0,h0)).2) (h':=(fh ((ops.toList.zip rs).take j) (T0,h0)).2) r.sets (eqH b (by simp [hb]))]
          have e2:cn (u7 (fun i=>(listed.setIfInBounds j true).getD i false) 0 (ops.toList.zip rs) (T0,h0)).2 b=cn (fh ((ops.toList.zip rs).take (j+1)) (T0,h0)).2 b:=by
            rw [←step1]
            refine ail _ 0 (fun k x hx hd2=>?_) rfl
            rw [Nat.zero_add,Nat.zero_add,L'eq]
            by_cases hkj:k=j
            · subst hkj;simp
            · rw [if_neg hkj]
              obtain ⟨n1,n2⟩:=napH x b hd2 (by simp [hb])
              rw [agree k x hx hkj n1 n2]
              by_cases q:k<j<;>simp [q]<;>omega
          rw [e2,hsplit]
        · rw [yo _ hb]
          refine ail _ 0 (fun k x hx hd2=>?_) rfl
          rw [Nat.zero_add,L'eq]
          by_cases hkj:k=j
          · subst hkj;rw [hz] at hx;cases hx;exact absurd hd2 hb
          · rw [if_neg hkj]
      have hS:j*y6+y6≤ops.size*y6:=by rw [←Nat.succ_mul];exact Nat.mul_le_mul_right _ hlt
      refine UN hC hrun ho hloc hob hh (fun x h1 h2 hbad=>?_) (by omega) hd hT ?_
      · rcases hok _ hbad with q | ⟨i,q1,q2,q3⟩
        · omega
        · have:i=j:=avp (y:=x-n0) (by omega) (by omega) (by omega) (by omega)
          subst this;rw [k1] at q1;cases q1
      intro ρ' w' a' E W hh' hd' hT' hok'
      have hlist:Qe (u7 (fun i=>listed.getD i false) 0 (ops.toList.zip rs) (T0,h0)).1 o.dst r.v=(u7 (fun i=>(listed.setIfInBounds j true).getD i false) 0 (ops.toList.zip rs) (T0,h0)).1:=List.ext_getElem? newT
      rw [hlist] at hT'
      refine ih (listed.setIfInBounds j true) (by simpa using hs) (fun i x hx hl e he hb=>?_) ?_ (hh'.congr newH) (fun b hb=>?_) hd' hT' ?_
      · rw [L'eq] at hl ⊢
        by_cases hij:i=j
        · subst hij
          rw [ho] at hx;cases hx
          split
          · rfl
          · exact hpre e he hb
        · rw [if_neg hij] at hl
          split
          · rfl
          · exact hcl i x hx hl e he hb
      · have:=agS (l:=List.range ops.size) (j:=j) (p:=fun i=>!listed.getD i false) (q:=fun i=>!(listed.setIfInBounds j true).getD i false) (List.mem_range.2 hlt) (by simp only [k1];rfl) (by simp only [L'eq,if_true];rfl)
          (fun i hi=>by
            simp only [L'eq] at hi ⊢
            split at hi
            · cases hi
            · exact hi)
        omega
      · rcases hok' b hb with q | q
        · rcases hok b q with q | ⟨i,q1,q2⟩
          · exact .inl q
          · refine .inr ⟨i,?_,q2⟩
            rw [L'eq];split
            · rfl
            · exact q1
        · exact .inr ⟨j,by rw [L'eq,if_pos rfl],q⟩
      · intro ρ'' w'' a'' E' W' hh'' hd'' hT'' hb''
        exact hQ ρ'' w'' a'' (E.trans E' W.size) (W.trans W' (fun x hx q=>E.new x hx q)) hh'' hd'' hT'' (fun b q=>by
          rcases hb'' b q with q | q
          · rcases hok' b q with q | q
            · exact .inl q
            · exact .inr (by omega)
          · exact .inr q)
theorem DW{d:bt}(h:d.kept=true) :d.foreign=true:=by
  cases d<;>first | rfl | exact m7 h
mutual
def agT (g:Nat→Option bt):Nat→AV→AV
  | 0,_=>.any
  | n+1,v =>
    match v with
    | .ptr b w i j=>match g b with
      | some d=>let d':=Ju g n d;bif d'.kept then .iptr .free d' w i j else .any
      | none=>.any
    | .sl b w es i len _=>match g b with
      | some d=>let d':=Ju g n d;bif d'.kept then .imm .free d' w es i len else .any
      | none=>.any
    | .fn f l1 l2=>.fn f (Yv g n l1) (Yv g n l2)
    | .agg l=>.agg (Yv g n l)
    | .tup l=>.tup (Yv g n l)
    | .iface t v=>.iface t (agT g n v)
    | v=>v
def Yv (g:Nat→Option bt):Nat→List AV→List AV
  | 0,l=>l.map fun _=>.any
  | n+1,l =>
    match l with
    | []=>[]
    | v::l=>agT g n v::Yv g n l
def Ju (g:Nat→Option bt):Nat→bt→bt
  | 0,_=>.vs []
  | n+1,d =>
    match d with
    | .vs l=>.vs (Yv g n l)
    | d=>d
end
theorem Yw(g:Nat→Option bt)(n:Nat)(d:bt)(h:d.recKept) :(Ju g n d).recKept:=by
  cases n with
  | zero=>trivial
  | succ n=>cases d<;>first | exact h | trivial
structure asN (ρ τ:aO):Prop where
  out:τ.out=ρ.out
  live:∀ bl,τ.live bl→ρ.live bl
theorem asN.avoid{ρ τ:aO}(L:asN ρ τ){l:Lv}{bl:Nat}(h:ρ.avoid l bl) :τ.avoid l bl:=by
  refine Gv (d:=0) (fun j _ q=>?_) h
  cases j with
  | zero=>exact L.live bl q
  | succ j=>simp only [Nat.add_zero,aO.own] at q ⊢;rw [L.out] at q;exact q
theorem kB{ρ τ:aO}(L:asN ρ τ){w:World}{v:AV}{u:Value}(h:VR ρ w v u) :v.foreign=true→VR τ w v u:=by
  induction h using VR.rec (motive_2:=fun l c _=>dj l=true→jf τ w l c) with
  | int k n=>exact fun _=>.int k n
  | bool kn b=>exact fun _=>.bool kn b
  | flt ex x y h=>exact fun _=>.flt ex x y h
  | str s=>exact fun _=>.str s
  | nptr=>exact fun _=>.nptr
  | ptr b k i j hb=>intro hk;simp [AV.foreign] at hk
  | iptr bw d k i j bl o u ha hb hc hv hr hk hg ih=>exact fun _=>.iptr bw d k i j bl o u (L.avoid ha) hb hc (fun x v hx=>ih x v hx (cq hr hg x v hx)) hr hk hg
  | nsl=>exact fun _=>.nsl
  | esl a=>exact fun _=>.esl a
  | zsl a c=>exact fun _=>.zsl a c
  | nan n h=>exact fun _=>.nan n h
  | sl b k es i len cap cap' hb hcap hl c t hh hs=>intro hk;simp [AV.foreign] at hk
  | slEnd b k es i a=>intro hk;simp [AV.foreign] at hk
  | imm bw d k es i len cap bl o u ha hb hc hv hl hr hk hg ih=>exact fun _=>.imm bw d k es i len cap bl o u (L.avoid ha) hb hc (fun x v hx=>ih x v hx (cq hr hg x v hx)) hl hr hk hg
  | immEnd bw d k es i cap a hr hk hg=>exact fun _=>.immEnd bw d k es i cap a hr hk hg
  | fn f l1 l2 c1 c2 h1 h2 i1 i2=>intro hk;simp only [AV.foreign,Bool.and_eq_true] at hk;exact .fn f l1 l2 c1 c2 (i1 hk.1) (i2 hk.2)
  | nfn=>exact fun _=>.nfn
  | agg l c h ih=>intro hk;exact .agg l c (ih hk)
  | tup l c h ih=>intro hk;exact .tup l c (ih hk)
  | iface t v u h ih=>intro hk;exact .iface t v u (ih hk)
  | niface=>exact fun _=>.niface
  | any u=>exact fun _=>.any u
  | nil=>exact jf.nil
  | cons v u l c h t i1 i2=>rename_i hk;simp only [dj,Bool.and_eq_true] at hk;exact jf.cons v u l c (i1 hk.1) (i2 hk.2)
mutual
theorem aim {ρ τ:aO} (L:asN ρ τ) {w:World} {h:d5} {m:Nat} (hh:HR ρ w h m) (off:∀ b d,cn h b=some d→ρ.ok b→¬ τ.live (ρ.at_ b)):∀ (n:Nat) {v:AV} {u:Value},VR ρ w v u→VR τ w (agT (cn h) n v) u
  | 0,v,u,hv=>.any u
  | n + 1, v, u, hv => by
    have free:∀ (b:Nat) (d:bt),cn h b=some d→ρ.ok b→τ.avoid .free (ρ.at_ b):=by
      intro b d hd hok j _
      cases j with
      | zero=>exact off b d hd hok
      | succ j=>simp only [aO.own];rw [L.out];exact hh.fresh _ (hh.real hd hok).1 j
    have content:∀ (b:Nat) (d:bt),cn h b=some d→ρ.ok b→∀ x v,(Ju (cn h) n d).cell? x=some v→w.cell? ⟨ρ.at_ b,0+x,none⟩=some ((w.cell? ⟨ρ.at_ b,x,none⟩).getD undef)∧VR τ w v ((w.cell? ⟨ρ.at_ b,x,none⟩).getD undef):=by
      intro b d hd hok x v hx
      obtain ⟨_,hrk,c,t,hc,hcv⟩:=hh.real hd hok
      obtain ⟨u,q1,q2⟩:=amq L hh off n (ρ.at_ b) (fun x v hx=>by
        obtain ⟨u,k1,k2⟩:=hcv x v hx
        exact ⟨u,by simp [World.cell?,hc,k1],k2⟩) hrk x v hx
      rw [Nat.zero_add,q1];exact ⟨rfl,q2⟩
    cases v with
    | ptr b k i j =>
      simp only [agT]
      split
      · rename_i d hd
        have hrk:=hh.rk hd
        cases hk:(Ju (cn h) n d).kept with
        | false=>exact .any _
        | true =>
          simp only [cond_true]
          cases hv with | ptr _ _ _ _ hb =>
          have:=VR.iptr (ρ:=τ) (w:=w) .free (Ju (cn h) n d) k i j (ρ.at_ b) 0 (fun x=>(w.cell? ⟨ρ.at_ b,x,none⟩).getD undef) (free b d hd hb) (hh.liveLt _ (hh.real hd hb).1)
            (fun x v hx=>(content b d hd hb x v hx).1) (fun x v hx=>(content b d hd hb x v hx).2) (Yw _ _ _ hrk) (fun _=>hk) (DW hk)
          simpa using this
      · exact .any _
    | sl b k es i len cap =>
      simp only [agT]
      split
      · rename_i d hd
        have hrk:=hh.rk hd
        cases hk:(Ju (cn h) n d).kept with
        | false=>exact .any _
        | true =>
          simp only [cond_true]
          cases hv with
          | sl _ _ _ _ _ _ cap' hb hcap hl' c t hh' hs =>
            have:=VR.imm (ρ:=τ) (w:=w) .free (Ju (cn h) n d) k es i len cap' (ρ.at_ b) 0 (fun x=>(w.cell? ⟨ρ.at_ b,x,none⟩).getD undef) (free b d hd hb) (hh.liveLt _ (hh.real hd hb).1)
              (fun x v hx=>(content b d hd hb x v hx).1) (fun x v hx=>(content b d hd hb x v hx).2) (by omega) (Yw _ _ _ hrk) (fun _=>hk) (DW hk)
            simpa using this
          | slEnd=>exact .immEnd _ _ _ _ _ _ _ (Yw _ _ _ hrk) (fun _=>hk) (DW hk)
      · exact .any _
    | fn f l1 l2=>cases hv with | fn _ _ _ _ _ h1 h2=>exact .fn _ _ _ _ _ (Bn L hh off n h1) (Bn L hh off n h2)
    | agg l=>cases hv with | agg _ _ h1=>exact .agg _ _ (Bn L hh off n h1)
    | tup l=>cases hv with | tup _ _ h1=>exact .tup _ _ (Bn L hh off n h1)
    | iface t v=>cases hv with | iface _ _ _ h1=>exact .iface _ _ _ (aim L hh off n h1)
    | int=>exact kB L hv rfl
    | bool=>exact kB L hv rfl
    | flt=>exact kB L hv rfl
    | str=>exact kB L hv rfl
    | nptr=>exact kB L hv rfl
    | iptr=>exact kB L hv rfl
    | nsl=>exact kB L hv rfl
    | esl=>exact kB L hv rfl
    | zsl=>exact kB L hv rfl
    | nan=>exact kB L hv rfl
    | imm=>exact kB L hv rfl
    | nfn=>exact kB L hv rfl
    | niface=>exact kB L hv rfl
    | any=>exact .any _
theorem Bn {ρ τ:aO} (L:asN ρ τ) {w:World} {h:d5} {m:Nat} (hh:HR ρ w h m) (off:∀ b d,cn h b=some d→ρ.ok b→¬ τ.live (ρ.at_ b)):∀ (n:Nat) {l:List AV} {c:List Value},jf ρ w l c→jf τ w (Yv (cn h) n l) c
  | 0,[],c,hv=>by cases hv;exact .nil
  | 0,v::l,c,hv=>by
    cases hv with | cons _ u _ c' h1 h2 =>
    have:=Bn L hh off 0 h2
    exact .cons _ _ _ _ (.any u) this
  | n+1,[],c,hv=>by cases hv;exact .nil
  | n+1,v::l,c,hv=>by
    cases hv with | cons _ u _ c' h1 h2=>exact .cons _ _ _ _ (aim L hh off n h1) (Bn L hh off n h2)
theorem amq {ρ τ:aO} (L:asN ρ τ) {w:World} {h:d5} {m:Nat} (hh:HR ρ w h m) (off:∀ b d,cn h b=some d→ρ.ok b→¬ τ.live (ρ.at_ b)):∀ (n:Nat) (bl:Nat) {d:bt},(∀ x v,d.cell? x=some v→∃ u,w.cell? ⟨bl,x,none⟩=some u∧VR ρ w v u)→d.recKept →
    ∀ x v,(Ju (cn h) n d).cell? x=some v→∃ u,w.cell? ⟨bl,x,none⟩=some u∧VR τ w v u
  | 0,bl,d,hc,hr,x,v,hx=>by simp [Ju,bt.cell?] at hx
  | n + 1, bl, d, hc, hr, x, v, hx => by
    cases d with
    | vs l =>
      simp only [Ju,bt.cell?] at hx
      have hus:jf ρ w l ((List.range l.length).map fun x=>(w.cell? ⟨bl,x,none⟩).getD undef):=by
        refine Bl (by simp) fun y v u q1 q2=>?_
        obtain ⟨u',k1,k2⟩:=hc y v q1
        have hlt:y<l.length:=(List.getElem?_eq_some_iff.1 q1).1
        rw [List.getElem?_map,List.getElem?_range hlt] at q2
        simp [k1] at q2;subst q2;exact k2
      have hr2:=Bn L hh off n hus
      obtain ⟨u,q1,q2⟩:=hr2.get x v hx
      rw [List.getElem?_map] at q1
      have hlt:x<l.length:=by
        rcases Nat.lt_or_ge x l.length with q | q
        · exact q
        · rw [List.getElem?_eq_none (by simpa using q)] at q1;cases q1
      rw [List.getElem?_range hlt] at q1
      obtain ⟨u',k1,_⟩:=hc x (l[x]) (List.getElem?_eq_getElem hlt)
      simp [k1] at q1;subst q1
      exact ⟨u',k1,q2⟩
    | fl xs=>obtain ⟨u,q1,q2⟩:=hc x v hx;exact ⟨u,q1,kB L q2 (cq (d:=.fl xs) hr rfl x v hx)⟩
    | ns k xs=>obtain ⟨u,q1,q2⟩:=hc x v hx;exact ⟨u,q1,kB L q2 (cq (d:=.ns k xs) hr rfl x v hx)⟩
    | bs xs=>obtain ⟨u,q1,q2⟩:=hc x v hx;exact ⟨u,q1,kB L q2 (cq (d:=.bs xs) hr rfl x v hx)⟩
    | ss xs=>obtain ⟨u,q1,q2⟩:=hc x v hx;exact ⟨u,q1,kB L q2 (cq (d:=.ss xs) hr rfl x v hx)⟩
    | rows k m get=>obtain ⟨u,q1,q2⟩:=hc x v hx;exact ⟨u,q1,kB L q2 (cq (d:=.rows k m get) hr rfl x v hx)⟩
    | cols k cs=>obtain ⟨u,q1,q2⟩:=hc x v hx;exact ⟨u,q1,kB L q2 (cq (d:=.cols k cs) hr rfl x v hx)⟩
end
mutual
def nmA (σ:Nat→Option Nat):AV→AV
  | .ptr b w i j=>match σ b with | some c=>.ptr c w i j | none=>.any
  | .sl b w es i len cap=>match σ b with | some c=>.sl c w es i len cap | none=>.any
  | .fn f l1 l2=>.fn f (nmL σ l1) (nmL σ l2)
  | .agg l=>.agg (nmL σ l)
  | .tup l=>.tup (nmL σ l)
  | .iface t v=>.iface t (nmA σ v)
  | v=>v
def nmL (σ:Nat→Option Nat):List AV→List AV
  | []=>[]
  | v::l=>nmA σ v::nmL σ l
end
def aO.renamed(ρ:aO)(keep:List Nat) :aO :=
  { at_:=fun i=>ρ.at_ ((keep[i]?).getD 0),live:=ρ.live,out:=ρ.out,ok:=fun i=>∃ b,keep[i]? = some b∧ρ.ok b }
mutual
theorem UQ {ρ:aO} {keep:List Nat} {w:World}:∀ (v:AV) {u:Value},VR ρ w v u→VR (ρ.renamed keep) w (nmA (rU keep 0) v) u
  | .ptr b k i j,u,h=>by
    simp only [nmA]
    split
    · rename_i c hc
      cases h with | ptr _ _ _ _ hb =>
      obtain ⟨_,hg⟩:=LB hc
      rw [Nat.sub_zero] at hg
      have:(ρ.renamed keep).at_ c=ρ.at_ b:=by simp [aO.renamed,hg]
      rw [←this];exact .ptr _ _ _ _ ⟨b,hg,hb⟩
    · exact .any u
  | .sl b k es i len cap,u,h=>by
    simp only [nmA]
    split
    · rename_i c hc
      obtain ⟨_,hg⟩:=LB hc
      rw [Nat.sub_zero] at hg
      have e:(ρ.renamed keep).at_ c=ρ.at_ b:=by simp [aO.renamed,hg]
      cases h with
      | sl _ _ _ _ _ _ cap' hb hcap hl ce t hh hs=>rw [←e] at hh ⊢;exact .sl _ _ _ _ _ _ _ ⟨b,hg,hb⟩ hcap hl ce t hh hs
      | slEnd=>exact .slEnd _ _ _ _ _
    · exact .any u
  | .fn f l1 l2,u,h=>by cases h with | fn _ _ _ _ _ h1 h2=>exact .fn _ _ _ _ _ (Yx l1 h1) (Yx l2 h2)
  | .agg l,u,h=>by cases h with | agg _ _ h1=>exact .agg _ _ (Yx l h1)
  | .tup l,u,h=>by cases h with | tup _ _ h1=>exact .tup _ _ (Yx l h1)
  | .iface t v,u,h=>by cases h with | iface _ _ _ h1=>exact .iface _ _ _ (UQ v h1)
  | .int ..,u,h=>mt h rfl
  | .bool ..,u,h=>mt h rfl
  | .flt ..,u,h=>mt h rfl
  | .str ..,u,h=>mt h rfl
  | .nptr,u,h=>mt h rfl
  | .iptr ..,u,h=>mt h rfl
  | .nsl,u,h=>mt h rfl
  | .esl,u,h=>mt h rfl
  | .zsl _,u,h=>mt h rfl
  | .nan,u,h=>mt h rfl
  | .imm ..,u,h=>mt h rfl
  | .nfn,u,h=>mt h rfl
  | .niface,u,h=>mt h rfl
  | .any,u,h=>.any u
theorem Yx {ρ:aO} {keep:List Nat} {w:World}:∀ (l:List AV) {c:List Value},jf ρ w l c→jf (ρ.renamed keep) w (nmL (rU keep 0) l) c
  | [],c,h=>by cases h;exact .nil
  | v::l,c,h=>by cases h with | cons _ u _ c' h1 h2=>exact .cons _ _ _ _ (UQ v h1) (Yx l h2)
theorem mt {ρ:aO} {keep:List Nat} {w:World} {v:AV} {u:Value} (h:VR ρ w v u) (hf:v.foreign=true):VR (ρ.renamed keep) w v u :=
  kB (ρ:=ρ) (τ:=ρ.renamed keep) ⟨rfl,fun _ q=>q⟩ h hf
end
def reB(σ:Nat→Option Nat) :bt→bt
  | .vs l=>.vs (nmL σ l)
  | d=>d
theorem ain(σ:Nat→Option Nat) :∀ (l:List AV) (x:Nat),(nmL σ l)[x]? = (l[x]?).map (nmA σ)
  | [],x=>by simp [nmL]
  | v::l,0=>by simp [nmL]
  | v::l,x+1=>by simp [nmL,ain σ l x]
theorem at4{σ:Nat→Option Nat}{d:bt}(h:d.recKept) :(reB σ d).recKept:=by
  cases d<;>first | exact h | trivial
theorem amr{σ:Nat→Option Nat}{d:bt}{x:Nat}{v:AV}(h:(reB σ d).cell? x=some v)(hr:d.recKept) :∃ v',d.cell? x=some v'∧(v=nmA σ v'∨(v=v'∧v.foreign=true)):=by
  cases d with
  | vs l =>
    simp only [reB,bt.cell?,ain,Option.map_eq_some_iff] at h
    obtain ⟨v',h1,rfl⟩:=h
    exact ⟨v',h1,.inl rfl⟩
  | fl xs=>exact ⟨v,h,.inr ⟨rfl,cq (d:=.fl xs) hr rfl x v h⟩⟩
  | ns k xs=>exact ⟨v,h,.inr ⟨rfl,cq (d:=.ns k xs) hr rfl x v h⟩⟩
  | bs xs=>exact ⟨v,h,.inr ⟨rfl,cq (d:=.bs xs) hr rfl x v h⟩⟩
  | ss xs=>exact ⟨v,h,.inr ⟨rfl,cq (d:=.ss xs) hr rfl x v h⟩⟩
  | rows k m get=>exact ⟨v,h,.inr ⟨rfl,cq (d:=.rows k m get) hr rfl x v h⟩⟩
  | cols m cs=>exact ⟨v,h,.inr ⟨rfl,cq (d:=.cols m cs) hr rfl x v h⟩⟩
def arX(k:Nat)(R:List Nat) :List Nat:=List.range k++R.filter fun b=>Nat.ble k b
theorem asO{k i:Nat}{R:List Nat}(h:i<k) :(arX k R)[i]? = some i:=by
  unfold arX
  rw [List.getElem?_append_left (by simpa using h),List.getElem?_range h]
def y7(σ:Nat→Option Nat)(h:d5) :List Nat→List (Option bt)
  | []=>[]
  | b::l=>(cn h b).map (reB σ)::y7 σ h l
theorem Au(σ:Nat→Option Nat)(h:d5) :∀ (l:List Nat) (i:Nat),(y7 σ h l)[i]? = (l[i]?).map fun b=>(cn h b).map (reB σ)
  | [],i=>by simp [y7]
  | b::l,0=>by simp [y7]
  | b::l,i+1=>by simp [y7,Au σ h l i]
theorem zq(σ:Nat→Option Nat)(h:d5) :∀ (l:List Nat),(y7 σ h l).length=l.length
  | []=>rfl
  | b::l=>by simp [y7,zq σ h l]
def Yy(k:Nat)(keep:Bool)(h:d5)(v:AV) :Option gM :=
  match keep,k with
  | true,0=>some ⟨agT (cn h) mN v,[]⟩
  | _,_ =>
    let L:=arX k (r7 (cn h) mN (List.range k++aih v) [])
    bif GF L then some ⟨nmA (rU L 0) v,y7 (rU L 0) h L⟩ else none
theorem ams{ρ ρ0:aO}{w0 w:World}{h:d5}{m:Nat}{lent:List bt}{keep:Bool}(hh:HR ρ w h m)(hN:uQ ρ0 w0 lent)(E:va ρ0 ρ w0)(hbk:∀ i,i<lent.length→ρ.ok i→ρ0.ok i)(W:w0.heap.size≤w.heap.size){v:AV}{u:Value}(hv:VR ρ w v u){r:gM} 
    (hr:Yy lent.length keep h v=some r):r.Holds ρ0 w0 w lent.length u:=by
  unfold Yy at hr
  split at hr
  · rename_i k hk
    cases hr
    have none_ok:∀ b,¬ ρ0.ok b:=fun b q=>by have:=hN.heap.lt b q;omega
    have none_live:∀ bl,¬ ρ0.live bl:=fun bl q=>by obtain ⟨i,h1,_⟩:=hN.only bl q;exact none_ok i h1
    refine ⟨ρ0,va.refl _ _,fun i h=>by omega,⟨fun b d q=>?_,fun b c d e q=>?_,fun bl q=>(none_live bl q).elim,fun bl q=>(none_live bl q).elim,fun j bl q=>?_,fun b q=>(none_ok b q).elim,fun x hx=>kB (τ:=ρ0) ⟨E.out.symm,fun bl q=>(none_live bl q).elim⟩ (hh.rom x hx) rfl⟩,?_⟩
    · simp [i5,cn] at q
    · simp [i5,cn] at q
    · exact Nat.lt_of_lt_of_le (hN.heap.outLt j bl q) W
    · exact aim (τ:=ρ0) ⟨E.out.symm,fun bl q=>(none_live bl q).elim⟩ hh (fun _ _ _ _ q=>none_live _ q) mN hv
  · simp only at hr
    generalize hL:arX lent.length (r7 (cn h) mN (List.range lent.length++aih v) [])=L at hr
    cases hn:GF L with
    | false=>rw [hn] at hr;cases hr
    | true =>
    rw [hn] at hr
    simp only [cond_true,Option.some.injEq] at hr;subst hr
    have idL:∀ {i:Nat},i<lent.length→L[i]? = some i:=fun q=>by rw [←hL];exact asO q
    have atL:∀ {i b:Nat},L[i]? = some b→(ρ.renamed L).at_ i=ρ.at_ b:=fun q=>by simp [aO.renamed,q]
    refine ⟨ρ.renamed L,⟨fun b q=>?_,fun b q=>?_,E.live,E.new,E.out⟩,fun i hi q=>?_,⟨fun i d q=>?_,fun i j d e q1 q2 ok1 ok2 he=>?_,hh.fresh,hh.liveLt,hh.outLt,fun i q=>?_,fun x hx=>UQ _ (hh.rom x hx)⟩,UQ v hv⟩
    · rw [atL (idL (hN.heap.lt b q))];exact E.at_ b q
    · exact ⟨b,idL (hN.heap.lt b q),E.ok b q⟩
    · obtain ⟨b,h1,h2⟩:=q
      rw [idL hi] at h1;cases h1
      exact hbk i hi h2
    · have q:=pZ q
      simp only at q
      rw [Au,Option.map_eq_some_iff] at q
      obtain ⟨b,h1,h2⟩:=q
      rw [Option.map_eq_some_iff] at h2
      obtain ⟨d0,h3,rfl⟩:=h2
      rcases hh.cell b d0 h3 with ⟨k1,k2,hr,c,t,r1,r2⟩ | ⟨k1,k2,k3,k4⟩
      · refine .inl ⟨⟨b,h1,k1⟩,by rw [atL h1];exact k2,at4 hr,c,t,by rw [atL h1];exact r1,fun x v hx=>?_⟩
        obtain ⟨v',s1,s2⟩:=amr hx hr
        obtain ⟨u,t1,t2⟩:=r2 x v' s1
        refine ⟨u,t1,?_⟩
        rcases s2 with rfl | ⟨rfl,hf⟩
        · exact UQ v' t2
        · exact mt t2 hf
      · refine .inr ⟨?_,?_,at4 k3,fun x=>?_⟩
        · rintro ⟨b',q1,q2⟩
          rw [h1] at q1;cases q1
          exact k1 q2
        · rw [zq];exact (List.getElem?_eq_some_iff.1 h1).1
        · cases hc:(reB (rU L 0) d0).cell? x with
          | none=>rfl
          | some v=>obtain ⟨v',s1,_⟩:=amr hc k3;rw [k4 x] at s1;cases s1
    · obtain ⟨b,r1,r2⟩:=ok1
      obtain ⟨c,r3,r4⟩:=ok2
      have q1:=pZ q1
      have q2:=pZ q2
      simp only at q1 q2
      rw [Au,r1] at q1
      rw [Au,r3] at q2
      simp only [Option.map_some,Option.some.injEq,Option.map_eq_some_iff] at q1 q2
      obtain ⟨d1,s1,_⟩:=q1
      obtain ⟨d2,s2,_⟩:=q2
      rw [atL r1,atL r3] at he
      have:=hh.inj b c d1 d2 s1 s2 r2 r4 he
      subst this
      exact GG hn r1 r3
    · obtain ⟨b,r1,_⟩:=q
      simp only [zq]
      exact (List.getElem?_eq_some_iff.1 r1).1
inductive AE where
  | normal
  | ret
  | exit (id:Nat)
def AE.real:AE→Exit
  | .normal=>.normal
  | .ret=>.ret
  | .exit id=>.exit id
abbrev Res:=Option (AE×aQ×List Bool×mS)
abbrev C2:=Code→aQ→mS→Res
def Tk(C:Ol)(run:lH)(ops:Array Oper)(draw:Bool)(st:aQ)(p:mS) :Res :=
  match draw with
  | false =>
    match Yp C run ops st.next 0 ops.toList st.tmps st.heap p with
    | some (T,h,obs,p')=>some (.normal,⟨T,h,st.next+ops.size*y6⟩,obs,p')
    | none=>none
  | true =>
    match Yu C run ops st.next 0 ops.toList st.tmps st.heap p with
    | some (rs,T,h,obs,p')=>bif Yr ops [] [] (ops.toList.zip rs) then some (.normal,⟨T,h,st.next+ops.size*y6⟩,obs,p') else none
    | none=>none
def Bo(T:List AV)(c:Operand)(b:Bool) :List AV :=
  match c with
  | .tmp t=>T.set t (.bool true b)
  | _=>T
def XU(body:aQ→mS→Res) :Nat→aQ→mS→Res
  | 0,_,_=>none
  | n+1,st,p =>
    match body st p with
    | some (.normal,st1,o1,p1) =>
      match XU body n st1 p1 with
      | some (e,st2,o2,p2)=>some (e,st2,o1++o2,p2)
      | none=>none
    | r=>r
def Yz(C:Ol)(run:lH)(N:Nat)(self:C2)(c:Code)(st:aQ)(p:mS) :Res :=
  match c with
  | .skip | .label _=>some (.normal,st,[],p)
  | .region _ ops draw=>Tk C run ops draw st p
  | .seq a b =>
    match self a st p with
    | some (.normal,st1,o1,p1) =>
      match self b st1 p1 with
      | some (e,st2,o2,p2)=>some (e,st2,o1++o2,p2)
      | none=>none
    | r=>r
  | .cond c a b =>
    match XS (evA st.tmps c) p with
    | some (x,o1,p1) =>
      match self (match x with | true=>a | false=>b) { st with tmps:=Bo st.tmps c x } p1 with
      | some (e,st2,o2,p2)=>some (e,st2,o1++o2,p2)
      | none=>none
    | none=>none
  | .block id b =>
    match self b st p with
    | some (.exit id',st1,o1,p1)=>bif Nat.beq id' id then some (.normal,st1,o1,p1) else some (.exit id',st1,o1,p1)
    | r=>r
  | .loop b=>XU (self b) N st p
  | .exit id=>some (.exit id,st,[],p)
  | .ret=>some (.ret,st,[],p)
  | .scope b=>self b st p
  | _=>none
structure CU where
  out:gM
  obs:List Bool
def at5(alts:List CU)(p:mS) :Option (CU×mS) :=
  match alts,p with
  | [a],p=>some (a,p)
  | alts,none=>(alts.find? fun a=>awn a.obs).map fun a=>(a,none)
  | alts,some (k::r)=>(alts[k]?).map fun a=>(a,some r)
  | _,_=>none
theorem asP{alts:List CU}{p p':mS}{a:CU}(h:at5 alts p=some (a,p')) :a∈alts:=by
  unfold at5 at h
  split at h
  · simp only [Option.some.injEq,Prod.mk.injEq] at h;rw [←h.1];simp
  · simp only [Option.map_eq_some_iff,Prod.mk.injEq] at h;obtain ⟨b,h1,rfl,_⟩:=h;exact List.mem_of_find?_eq_some h1
  · simp only [Option.map_eq_some_iff,Prod.mk.injEq] at h;obtain ⟨b,h1,rfl,_⟩:=h;exact List.mem_of_getElem? h1
  · cases h
abbrev Qj:=FuncId→List bt→List AV→Option (List CU)
def py(P:Program)(fn:Func)(st:aQ) :List ResultVar→Option (List AV×List Bool)
  | []=>some ([],[])
  | .tmp t::l =>
    match py P fn st l with
    | some (vs,o)=>some ((st.tmps[t]?).getD .any::vs,o)
    | none=>none
  | .cell a t::l =>
    match P0 P (cn st.heap) t ((st.tmps[a]?).getD .any),py P fn st l with
    | some (v,o,_),some (vs,o')=>some (v::vs,o++o')
    | _,_=>none
def Tl:List AV→AV
  | [v]=>v
  | vs=>.tup vs
def Av(fn:Func)(lent:List bt)(args:List AV) :aQ:=⟨args++List.replicate (fn.ntmps-args.length) (.tup []),i5 0 (lent.map some),lent.length⟩
def Jv(C : Ol)(S : Qj)(self : C2) : lH := fun f lent args p =>
  match S f lent args with
  | some alts=>(at5 alts p).map fun r=>(r.1.out,r.1.obs,r.2)
  | none =>
    match C.P.funcs[f]? with
    | some fn =>
      match fn.body with
      | some c =>
        match self c (Av fn lent args) p with
        | some (e,st,o1,p1) =>
          match e,py C.P fn st fn.results.toList with
          | .exit _,_=>none
          | _,some (vs,o2) =>
            match Yy lent.length (C.mode f).keep st.heap (Tl vs) with
            | some r=>some (r,o1++o2,p1)
            | none=>none
          | _,none=>none
        | none=>none
      | none=>none
    | none=>none
def rq(C:Ol)(S:Qj)(N:Nat) :Nat→C2
  | 0=>fun _ _ _=>none
  | n+1=>Yz C (Jv C S (rq C S N n)) N (rq C S N n)
def ay(P:Program)(f:FuncId)(lent:List bt)(args:List AV)(r:gM) :Prop :=
  ∀ (ρ:aO) (w:World) (us:List Value),uQ ρ w lent→jf ρ w args us →
    (∃ fn,P.funcs[f]? = some fn∧fn.body.isSome=true)∧Calls P f us.toArray w fun e w'=>∃ u,e=.returned u∧pX ρ.live w w'∧r.Holds ρ w w' lent.length u
def be(P:Program)(S:Qj) :Prop:=∀ f lent args alts a,S f lent args=some alts→a∈alts→bu a.obs→ay P f lent args a.out
def YA(P:Program)(self:C2) :Prop :=
  ∀ c st p e st' obs p',self c st p=some (e,st',obs,p')→bu obs→∀ (ρ:aO) (a:Act) (w:World) (Q:Exit→Act→World→Prop),SR ρ st a w →
    (∀ ρ' a' w',Jq ρ w st.next st' ρ' a' w'→Q e.real a' w')→c.wp P Q a w
theorem Jq.trans{ρ ρ1 ρ2:aO}{w w1 w2:World}{n:Nat}{st1 st2:aQ}{a1 a2:Act}(h:Jq ρ w n st1 ρ1 a1 w1)(k:Jq ρ1 w1 st1.next st2 ρ2 a2 w2) :Jq ρ w n st2 ρ2 a2 w2 :=
  ⟨h.ext.trans k.ext h.wle.size,h.wle.trans k.wle (fun x hx q=>h.ext.new x hx q),k.sr,Nat.le_trans h.le k.le,fun b q=>by
    rcases k.back b q with q | q
    · exact h.back b q
    · exact .inr (Nat.le_trans h.le q)⟩
theorem Jq.refl{ρ:aO}{w:World}{st:aQ}{a:Act}(h:SR ρ st a w) :Jq ρ w st.next st ρ a w:=⟨va.refl _ _,pX.refl _ _,h,Nat.le_refl _,fun b q=>.inl q⟩
theorem asQ(n:Nat) :List.range n=List.range' 0 n:=List.range_eq_range'
theorem aio{C:Ol}(hC:C.Ok){run:lH}(hrun:Ym C.P run){id:Nat}{ops:Array Oper}{draw:Bool}{st st':aQ}{p p':mS}{e:AE}{obs:List Bool}(h:Tk C run ops draw st p=some (e,st',obs,p')) 
    (ho:bu obs) {ρ:aO} {a:Act} {w:World} {Q:Exit→Act→World→Prop} (hs:SR ρ st a w) (hQ:∀ ρ' a' w',Jq ρ w st.next st' ρ' a' w'→Q e.real a' w'):(Code.region id ops draw).wp C.P Q a w:=by
  unfold Tk at h
  cases draw with
  | false =>
    simp only at h
    split at h
    case h_2=>cases h
    rename_i T hp obs' p1 hr
    simp only [Option.some.injEq,Prod.mk.injEq] at h;obtain ⟨rfl,rfl,rfl,rfl⟩:=h
    refine wp_region ?_
    rw [asQ,←Array.length_toList]
    refine Qg hC hrun ops.toList 0 (fun j=>by simp) hr ho (hs.heap.le (by omega)) (fun b hb=>by have:=hs.heap.lt b hb;omega) hs.defers hs.tmps ?_
    intro ρ' w' a' E W hh hd hT hb
    exact hQ ρ' a' w' ⟨E,W,⟨hd,hT,hh⟩,Nat.le_add_right _ _,hb⟩
  | true =>
    simp only at h
    split at h
    case h_2=>cases h
    rename_i rs T hp obs' p1 hr
    cases hd:Yr ops [] [] (ops.toList.zip rs) with
    | false=>rw [hd] at h;cases h
    | true =>
      rw [hd] at h
      simp only [cond_true,Option.some.injEq,Prod.mk.injEq] at h;obtain ⟨rfl,rfl,rfl,rfl⟩:=h
      obtain ⟨s1,s2,s3⟩:=UP _ _ hr ho
      obtain ⟨ms,D⟩:=UO (ops.toList.zip rs) [] [] rfl hd ⟨fun j x hx=>by simp at hx,fun j x hx=>by simp at hx,fun i j x y hx=>by simp at hx⟩
      rw [List.nil_append] at D
      refine wp_region_any hC.mixed ?_
      have W0:=pX.drawn ρ.live w (w.drawn+1)
      have E0:=va.refl ρ w
      have notL:∀ i,(Array.replicate ops.size false).getD i false=false:=by
        intro i;rw [Array.getD_eq_getD_getElem?]
        cases hq:(Array.replicate ops.size false)[i]? with
        | none=>rfl
        | some b=>rw [Array.getElem?_replicate] at hq;split at hq<;>simp_all
      have a0:∀ (l:List (Oper×LC)) (i:Nat) (s:List AV×d5),u7 (fun i=>(Array.replicate ops.size false).getD i false) i l s=s:=by
        intro l
        induction l with
        | nil=>intro _ _;rfl
        | cons x l ih=>intro i s;simp only [u7];rw [notL i];exact ih _ _
      refine at3 hC hrun D (by rw [s1];simp) (fun j o hj=>by have:=s3 j o hj;rw [Nat.zero_add] at this;exact this) ops.size (Array.replicate ops.size false) (by simp) (fun j o _ hl=>by rw [notL] at hl;cases hl)
        (by have:=List.countP_le_length (p:=fun i=>!(Array.replicate ops.size false).getD i false) (l:=List.range ops.size);simpa using this) (ρ:=ρ) (a:=a) ?_ ?_ hs.defers ?_ ?_
      · rw [a0];exact (hs.heap.le (by omega)).drawn _
      · intro b hb;have:=hs.heap.lt b hb;exact .inl this
      · rw [a0];exact hs.tmps.mono E0 W0
      · intro ρ' w' a' E W hh hd' hT hb
        rw [s2] at hh hT
        exact hQ ρ' a' w' ⟨⟨E.at_,E.ok,E.live,fun b hb=>E.new b hb,E.out⟩,W0.trans W (fun _ _ q=>q),⟨hd',hT,hh⟩,Nat.le_add_right _ _,hb⟩
theorem YB{C:Ol}{body:aQ→mS→Res}{b:Code}(hb:∀ st p e st' obs p',body st p=some (e,st',obs,p')→bu obs→∀ (ρ:aO) (a:Act) (w:World) (Q:Exit→Act→World→Prop),SR ρ st a w →
    (∀ ρ' a' w',Jq ρ w st.next st' ρ' a' w'→Q e.real a' w')→b.wp C.P Q a w) :∀ (n:Nat) (st:aQ) (p:mS) (e:AE) (st':aQ) (obs:List Bool) (p':mS),XU body n st p=some (e,st',obs,p')→bu obs →
    ∀ (ρ:aO) (a:Act) (w:World) (Q:Exit→Act→World→Prop),SR ρ st a w→(∀ ρ' a' w',Jq ρ w st.next st' ρ' a' w'→Q e.real a' w')→Code.rounds C.P b Q n a w
  | 0,st,p,e,st',obs,p',h,_,_,_,_,_,_,_=>by cases h
  | n+1,st,p,e,st',obs,p',h,ho,ρ,a,w,Q,hs,hQ=>by
    simp only [XU] at h
    rw [rounds_succ]
    split at h
    · rename_i st1 o1 p1 h1
      split at h
      case h_2=>cases h
      rename_i e2 st2 o2 p2 h2
      simp only [Option.some.injEq,Prod.mk.injEq] at h;obtain ⟨rfl,rfl,rfl,rfl⟩:=h
      rw [cC] at ho
      refine hb st p _ _ _ _ h1 ho.1 ρ a w _ hs fun ρ1 a1 w1 P1=>?_
      exact YB hb n st1 p1 _ _ _ _ h2 ho.2 ρ1 a1 w1 Q P1.sr fun ρ2 a2 w2 P2=>hQ ρ2 a2 w2 (P1.trans P2)
    · rename_i hne
      refine hb st p _ _ _ _ h ho ρ a w _ hs fun ρ1 a1 w1 P1=>?_
      have:=hQ ρ1 a1 w1 P1
      cases e with
      | normal=>exact (hne _ _ _ h).elim
      | ret=>exact this
      | exit id=>exact this
theorem amt{C:Ol}(hC:C.Ok){run:lH}(hrun:Ym C.P run){N:Nat}{self:C2}(hself:YA C.P self) :YA C.P (Yz C run N self):=by
  intro c st p e st' obs p' h ho ρ a w Q hs hQ
  unfold Yz at h
  split at h
  · simp only [Option.some.injEq,Prod.mk.injEq] at h;obtain ⟨rfl,rfl,rfl,rfl⟩:=h
    exact wp_skip (hQ ρ a w (Jq.refl hs))
  · simp only [Option.some.injEq,Prod.mk.injEq] at h;obtain ⟨rfl,rfl,rfl,rfl⟩:=h
    exact wp_label (hQ ρ a w (Jq.refl hs))
  · exact aio hC hrun h ho hs hQ
  · rename_i x y
    refine wp_seq ?_
    split at h
    · rename_i st1 o1 p1 h1
      split at h
      case h_2=>cases h
      rename_i e2 st2 o2 p2 h2
      simp only [Option.some.injEq,Prod.mk.injEq] at h;obtain ⟨rfl,rfl,rfl,rfl⟩:=h
      rw [cC] at ho
      refine hself x st p _ _ _ _ h1 ho.1 ρ a w _ hs fun ρ1 a1 w1 P1=>?_
      exact hself y st1 p1 _ _ _ _ h2 ho.2 ρ1 a1 w1 Q P1.sr fun ρ2 a2 w2 P2=>hQ ρ2 a2 w2 (P1.trans P2)
    · rename_i hne
      refine hself x st p _ _ _ _ h ho ρ a w _ hs fun ρ1 a1 w1 P1=>?_
      have:=hQ ρ1 a1 w1 P1
      cases e with
      | normal=>exact (hne _ _ _ h).elim
      | ret=>exact this
      | exit id=>exact this
  · rename_i cc x y
    split at h
    case h_2=>cases h
    rename_i b o1 p1 h1
    split at h
    case h_2=>cases h
    rename_i e2 st2 o2 p2 h2
    simp only [Option.some.injEq,Prod.mk.injEq] at h;obtain ⟨rfl,rfl,rfl,rfl⟩:=h
    rw [cC] at ho
    have hb:=Yo (X8 hs.heap.rom hs.tmps cc) h1 ho.1
    refine wp_cond hb ?_
    have hs':SR ρ { st with tmps:=Bo st.tmps cc b } a w:=by
      refine ⟨hs.defers,?_,hs.heap⟩
      cases cc with
      | tmp t =>
        simp only [Bo]
        have:jf ρ w (st.tmps.set t (.bool true b)) (a.tmps.toList.set t (.bool b)):=hs.tmps.set (.bool _ _) t
        have e:a.tmps.toList.set t (.bool b)=a.tmps.toList:=by
          apply List.ext_getElem?
          intro j
          rw [List.getElem?_set]
          split
          · rename_i q;subst q
            split
            · rename_i hlt
              simp only [Act.eval] at hb
              rw [Array.getD_eq_getD_getElem?] at hb
              have hlt':t<a.tmps.size:=by simpa using hlt
              rw [Array.getElem?_eq_getElem hlt'] at hb
              simp only [Option.getD_some] at hb
              simp [hlt',hb]
            · rename_i hge
              rw [List.getElem?_eq_none (by omega)]
          · rfl
        rw [e] at this;exact this
      | const v=>exact hs.tmps
      | global g=>exact hs.tmps
      | func f=>exact hs.tmps
    have:=hself _ _ p1 _ _ _ _ h2 ho.2 ρ a w Q hs' hQ
    cases b<;>exact this
  · rename_i id b
    refine wp_block ?_
    split at h
    · rename_i id' st1 o1 p1 h1
      cases hid:Nat.beq id' id with
      | true =>
        rw [hid] at h
        simp only [cond_true,Option.some.injEq,Prod.mk.injEq] at h;obtain ⟨rfl,rfl,rfl,rfl⟩:=h
        refine hself b st p _ _ _ _ h1 ho ρ a w _ hs fun ρ1 a1 w1 P1=>?_
        simp only [AE.real,Exit.inBlock,Nat.eq_of_beq_eq_true hid,if_true]
        exact hQ ρ1 a1 w1 P1
      | false =>
        rw [hid] at h
        simp only [cond_false,Option.some.injEq,Prod.mk.injEq] at h;obtain ⟨rfl,rfl,rfl,rfl⟩:=h
        refine hself b st p _ _ _ _ h1 ho ρ a w _ hs fun ρ1 a1 w1 P1=>?_
        have hne : ¬ id'=id:=fun e=>by subst e;simp [w7] at hid
        simp only [AE.real,Exit.inBlock,hne,if_false]
        exact hQ ρ1 a1 w1 P1
    · rename_i hne
      refine hself b st p _ _ _ _ h ho ρ a w _ hs fun ρ1 a1 w1 P1=>?_
      have:=hQ ρ1 a1 w1 P1
      cases e with
      | normal=>exact this
      | ret=>exact this
      | exit id=>exact (hne _ _ _ _ h).elim
  · rename_i b
    exact wp_loop_rounds N (YB (C:=C) (b:=b) (fun st p e st' obs p' h1 h2=>hself b st p e st' obs p' h1 h2) N st p e st' obs p' h ho ρ a w Q hs hQ)
  · simp only [Option.some.injEq,Prod.mk.injEq] at h;obtain ⟨rfl,rfl,rfl,rfl⟩:=h
    exact wp_exit (hQ ρ a w (Jq.refl hs))
  · simp only [Option.some.injEq,Prod.mk.injEq] at h;obtain ⟨rfl,rfl,rfl,rfl⟩:=h
    exact wp_ret (hQ ρ a w (Jq.refl hs))
  · rename_i b
    refine wp_scope_straight (hself b st p _ _ _ _ h ho ρ a w _ hs fun ρ1 a1 w1 P1=>?_)
    have:=hQ ρ1 a1 w1 P1
    cases e<;>exact this
  · cases h
theorem YC{P:Program}{w:World}{t:TypeId}{x:Value}{u:Value}(hx:∃ a,x=.pointer (some a))(h:(Instr.loadAt t x).run P w=.ok u w) :(do loadVar t (←asAddr x):Sem Value).run P w=.ok u w:=by
  obtain ⟨a,rfl⟩:=hx
  simpa [Instr.loadAt,Instr.sureAddr,asAddr] using h
def YD(tmps:Array Value) :ResultVar→Sem Value
  | .tmp t=>pure (tmps.getD t undef)
  | .cell x t=>do loadVar t (←asAddr (tmps.getD x undef))
theorem apO(fn:Func)(tmps:Array Value) :results fn tmps=(do let vs ← fn.results.mapM (YD tmps);pure (if h:vs.size=1 then vs[0] else .tuple vs)):=by
  unfold results
  congr 1
theorem Jw{P:Program}{fn:Func}{st:aQ}{ρ:aO}{a:Act}{w:World}(hs:SR ρ st a w) :∀ (l:List ResultVar) {vs:List AV} {obs:List Bool},py P fn st l=some (vs,obs)→bu obs →
    ∃ us:List Value,(l.mapM (YD a.tmps)).run P w=.ok us w∧jf ρ w vs us
  | [],vs,obs,h,ho=>by
    simp only [py,Option.some.injEq,Prod.mk.injEq] at h;obtain ⟨rfl,rfl⟩:=h
    exact ⟨[],by simp,.nil⟩
  | .tmp t::l,vs,obs,h,ho=>by
    simp only [py] at h
    split at h
    case h_2=>cases h
    rename_i vs' o' h1
    simp only [Option.some.injEq,Prod.mk.injEq] at h;obtain ⟨rfl,rfl⟩:=h
    obtain ⟨us,q1,q2⟩:=Jw hs l h1 ho
    refine ⟨a.tmps.getD t undef::us,?_,.cons _ _ _ _ (X8 hs.heap.rom hs.tmps (.tmp t)) q2⟩
    simp only [List.mapM_cons,YD,Sem.run_bind,Sem.run_pure,Result.andThen_ok,q1]
  | .cell x t::l,vs,obs,h,ho=>by
    simp only [py] at h
    split at h
    case h_2=>cases h
    rename_i v o rs vs' o' h1 h2
    simp only [Option.some.injEq,Prod.mk.injEq] at h;obtain ⟨rfl,rfl⟩:=h
    rw [cC] at ho
    obtain ⟨us,q1,q2⟩:=Jw hs l h2 ho.2
    have hv:=X8 hs.heap.rom hs.tmps (.tmp x)
    simp only [evA,Act.eval] at hv
    obtain ⟨u,r1,r2⟩:=UF (P:=P) hs.heap hv h1 ho.1
    have hp:∃ ad,a.tmps.getD x undef=.pointer (some ad):=by
      generalize a.tmps.getD x undef=z at hv
      unfold P0 at h1
      simp only at h1
      split at h1
      · rename_i e;rw [e] at hv;cases hv;exact ⟨_,rfl⟩
      · rename_i e;rw [e] at hv;cases hv;exact ⟨_,rfl⟩
      · cases h1
    have:=YC hp r1
    refine ⟨u::us,?_,.cons _ _ _ _ r2 q2⟩
    simp only [List.mapM_cons,YD,Sem.run_bind] at this ⊢
    rw [this]
    simp only [Result.andThen_ok,Sem.run_bind,q1,Sem.run_pure]
theorem amu{P:Program}{fn:Func}{st:aQ}{ρ:aO}{a:Act}{w:World}(hs:SR ρ st a w){vs:List AV}{obs:List Bool}(h:py P fn st fn.results.toList=some (vs,obs))(ho:bu obs) :
    ∃ v,(results fn a.tmps).run P w=.ok v w∧VR ρ w (Tl vs) v:=by
  obtain ⟨us,q1,q2⟩:=Jw hs fn.results.toList h ho
  have hl:=q2.length
  have hm:(fn.results.mapM (YD a.tmps)).run P w=.ok us.toArray w:=by
    rw [Array.mapM_eq_mapM_toList,map_eq_pure_bind,Sem.run_bind,q1,Result.andThen_ok,Sem.run_pure]
  rw [apO,Sem.run_bind,hm,Result.andThen_ok]
  match vs,us,q2,hl with
  | [],[],q2,_=>exact ⟨.tuple #[],rfl,.tup _ _ .nil⟩
  | [v],[u],q2,_=>cases q2 with | cons _ _ _ _ h1 _=>exact ⟨u,rfl,h1⟩
  | v::v'::vs,u::u'::us,q2,_ =>
    refine ⟨.tuple (u::u'::us).toArray,?_,.tup _ _ q2⟩
    simp
theorem Jx{P:Program}{f:FuncId}{fn:Func}{c:Code}(hf:P.funcs[f]? = some fn)(hc:fn.body=some c){lent:List bt}{args:List AV}{r:gM}{keep:Bool} 
    (h:∀ (ρ:aO) (w:World) (a:Act),uQ ρ w lent→SR ρ (Av fn lent args) a w →
      c.wp P (fun e a' w'=>(e=.normal∨e=.ret)∧∃ ρ' st' vs obs,va ρ ρ' w∧pX ρ.live w w'∧(∀ i,i<lent.length→ρ'.ok i→ρ.ok i)∧SR ρ' st' a' w'∧py P fn st' fn.results.toList=some (vs,obs)∧bu obs∧Yy lent.length keep st'.heap (Tl vs)=some r) a w):ay P f lent args r:=by
  intro ρ w us hN hv
  refine ⟨⟨fn,hf,by rw [hc];rfl⟩,?_⟩
  refine calls_of_wp hf hc ?_
  have hlen:=hv.length
  have hs:SR ρ (Av fn lent args) { tmps:=us.toArray++Array.replicate (fn.ntmps-us.toArray.size) undef,defers:=[] } w:=by
    refine ⟨rfl,?_,hN.heap⟩
    simp only [Av,Array.toList_append,Array.toList_replicate,List.size_toArray,hlen]
    refine jf.append ?_ hv
    have:∀ n,jf ρ w (List.replicate n (.tup [])) (List.replicate n undef):=by
      intro n
      induction n with
      | zero=>exact .nil
      | succ n ih=>exact .cons _ _ _ _ (.tup [] #[] .nil) ih
    exact this _
  refine wp_mono (h ρ w _ hN hs) ?_
  rintro e a' w' ⟨he,ρ',st',vs,obs,E,W,hbk,S,hr,hob,hkeep⟩
  have vv:a'.defers=[]∧∃ v,(results fn a'.tmps).run P w'=.ok v w'∧∃ u,Ending.returned v=.returned u∧pX ρ.live w w'∧r.Holds ρ w w' lent.length u:=by
    refine ⟨S.defers,?_⟩
    obtain ⟨v,q1,q2⟩:=amu S hr hob
    exact ⟨v,q1,v,rfl,W,ams S.heap hN E hbk W.size q2 hkeep⟩
  rcases he with rfl | rfl
  · exact vv
  · exact vv
theorem amv{C:Ol}{S:Qj}(hS:be C.P S){self:C2}(hself:YA C.P self) :Ym C.P (Jv C S self):=by
  intro f lent args p r obs p' h ho
  unfold Jv at h
  split at h
  · rename_i alts hs
    simp only [Option.map_eq_some_iff,Prod.mk.injEq] at h
    obtain ⟨⟨alt,q⟩,h1,rfl,rfl,rfl⟩:=h
    exact hS f lent args alts alt hs (asP h1) ho
  · split at h
    case h_2=>cases h
    rename_i fn hf
    split at h
    case h_2=>cases h
    rename_i c hc
    split at h
    case h_2=>cases h
    rename_i e st o1 p1 hr
    cases hres:py C.P fn st fn.results.toList with
    | none=>rw [hres] at h;cases e<;>cases h
    | some x =>
      obtain ⟨vs,o2⟩:=x
      rw [hres] at h
      have key:∀ (he:e=.normal∨e=.ret),(match Yy lent.length (C.mode f).keep st.heap (Tl vs) with | some r=>some (r,o1++o2,p1) | none=>none)=some (r,obs,p')→ay C.P f lent args r:=by
        intro he h
        split at h
        case h_2=>cases h
        rename_i r' hk
        simp only [Option.some.injEq,Prod.mk.injEq] at h;obtain ⟨rfl,rfl,rfl⟩:=h
        rw [cC] at ho
        refine Jx (keep:=(C.mode f).keep) hf hc fun ρ w a hN hs=>?_
        refine hself c _ p e st o1 p1 hr ho.1 ρ a w _ hs fun ρ' a' w' P1=>⟨?_,ρ',st,vs,o2,P1.ext,P1.wle,fun i hi q=>?_,P1.sr,hres,ho.2,hk⟩
        · rcases he with rfl | rfl
          · exact .inl rfl
          · exact .inr rfl
        · rcases P1.back i q with q | q
          · exact q
          · simp only [Av] at q;omega
      cases e with
      | normal=>exact key (.inl rfl) h
      | ret=>exact key (.inr rfl) h
      | exit id=>cases h
theorem GI{C:Ol}(hC:C.Ok){S:Qj}(hS:be C.P S)(N:Nat) :∀ n,YA C.P (rq C S N n)
  | 0=>fun c st p e st' obs p' h=>by cases h
  | n+1=>amt hC (amv hS (GI hC hS N n)) (GI hC hS N n)
theorem Wv{C:Ol}(hC:C.Ok){S:Qj}(hS:be C.P S)(N n:Nat){f:FuncId}{lent:List bt}{args:List AV}{p p':mS}{r:gM}{obs:List Bool}(h:Jv C S (rq C S N n) f lent args p=some (r,obs,p'))(ho:bu obs) :
    ay C.P f lent args r:=amv hS (GI hC hS N n) f lent args p r obs p' h ho
def XV:List (Nat×Wu)→Nat→Option Wu
  | [],_=>none
  | (k,e)::l,f=>bif Nat.beq k f then some e else XV l f
def amw:List (Nat×at0)→Nat→at0
  | [],_=>⟨[],false⟩
  | (k,m)::l,f=>bif Nat.beq k f then m else amw l f
def arY(P:Program)(l:List (Nat×Wu))(ms:List (Nat×at0)) :Ol:={ P,ext:=XV l,mode:=amw ms,wrap:=false }
theorem UR:∀ {l:List (Nat×Wu)} {f:Nat} {k:Wu},XV l f=some k→(f,k)∈l
  | [],f,k,h=>by cases h
  | (a,e)::l,f,k,h=>by
    simp only [XV] at h
    cases hb:Nat.beq a f with
    | true=>rw [hb] at h;simp only [cond_true,Option.some.injEq] at h;have:=Nat.eq_of_beq_eq_true hb;subst this;subst h;simp
    | false=>rw [hb] at h;simp only [cond_false] at h;exact List.mem_cons_of_mem _ (UR h)
structure amx (P:Program) (f:Nat) (k:Wu):Prop where
  fn : ∃ fn, P.funcs[f]? = some fn ∧ (fn.name == "runtime.NumGoroutine") = false ∧ fn.body.isNone = true ∧ Extern.findNext fn = none ∧ Extern.find fn = some (Ti k)
def arZ(P : Program) : Bool := P.funcs.toList.all fun fn => !(fn.name == "runtime.NumGoroutine")
theorem at6{P:Program}{l:List (Nat×Wu)}{ms:List (Nat×at0)}(hm:P.follows .mixedOrders=true)(hn:arZ P=true)(he:∀ x∈l,amx P x.1 x.2) :(arY P l ms).Ok:=by
  refine ⟨hm,fun f fn args w hf hb=>?_,fun f k args w hk=>?_⟩
  · have h1 : fn.name ≠ "runtime.NumGoroutine" := by
      have hmem:fn∈P.funcs.toList:=by
        have:fn∈P.funcs:=Array.mem_of_getElem? hf
        simpa using this
      have:=List.all_eq_true.1 hn fn hmem
      simpa using this
    have h2:fn.body≠none:=by intro q;rw [q] at hb;cases hb
    have hf':P.funcs[f]? = some fn:=hf
    have h3:fn.body.isNone=false:=by cases hq:fn.body<;>simp_all
    simp only [arY,callFunc,Sem.run_bind,run_program,Result.andThen_ok,hf',beq_eq_false_iff_ne.2 h1,Bool.false_eq_true,if_false,h3,Sem.run_pure]
  · obtain ⟨fn,h1,h2,h3,h4,h5⟩:=(he _ (UR hk)).fn
    have:=run_callFunc_extern (P:=P) h1 h2 h3 h4 h5 args w
    simp only [arY]
    rw [this,Sem.run_bind]
    rfl
def At(k:Nat)(ρ0:aO)(w0:World)(st:aQ)(a:Act)(w:World) :Prop:=∃ ρ,va ρ0 ρ w0∧pX ρ0.live w0 w∧SR ρ st a w∧(∀ i,i<k→ρ.ok i→ρ0.ok i)∧k≤st.next
def Sub(lent:List bt)(st st':aQ) :Prop:=∀ ρ0 w0 a w,uQ ρ0 w0 lent→At lent.length ρ0 w0 st a w→At lent.length ρ0 w0 st' a w
theorem Sub.refl(lent:List bt)(st:aQ) :Sub lent st st:=fun _ _ _ _ _ h=>h
theorem Sub.trans{lent:List bt}{a b c:aQ}(h:Sub lent a b)(k:Sub lent b c) :Sub lent a c:=fun _ _ _ _ hN q=>k _ _ _ _ hN (h _ _ _ _ hN q)
def amy:AV→AV
  | .flt _ x=>.flt false x
  | .bool _ b=>.bool false b
  | v=>v
def nmB(σ:Nat→Option Nat) :bt→bt
  | .vs l=>.vs ((nmL σ l).map amy)
  | d=>d
def Tm(σ:Nat→Option Nat)(h:d5) :Nat→List Nat→d5
  | _,[]=>[]
  | i,b::l=>match cn h b with
    | some d=>(i,nmB σ d)::Tm σ h (i+1) l
    | none=>Tm σ h (i+1) l
def awZ(b:Bool)(v u:AV) :AV :=
  match b with
  | true=>v
  | false=>u
def avY:List (Nat×AV)→Nat→AV
  | [],_=>.any
  | (k,v)::l,t=>awZ (Nat.beq k t) v (avY l t)
def agU(L:List (Nat×AV)) :Nat→Nat→List AV
  | _,0=>[]
  | t,n+1=>avY L t::agU L (t+1) n
def an(n:Nat)(L:List (Nat×AV)) :List AV:=agU L 0 n
def nmT(σ:Nat→Option Nat)(ks:List Nat) :Nat→List AV→List AV
  | _,[]=>[]
  | t,v::l=>(bif GE ks t then amy (nmA σ v) else .any)::nmT σ ks (t+1) l
def norm(keep ks:List Nat)(st:aQ) :aQ :=
  ⟨nmT (rU keep 0) ks 0 st.tmps,Tm (rU keep 0) st.heap 0 keep,keep.length⟩
theorem amz{ρ:aO}{w:World}{v:AV}{u:Value}(h:VR ρ w v u) :VR ρ w (amy v) u:=by
  cases h<;>simp only [amy]<;>first | exact .bool _ _ | (rename_i hf;refine .flt _ _ _ ?_;rcases hf with rfl | ⟨_,h2,h3⟩;exact .inl rfl;exact .inr ⟨rfl,h2,h3⟩) | skip
  case int=>exact .int _ _
  case str=>exact .str _
  case nptr=>exact .nptr
  case ptr hb=>exact .ptr _ _ _ _ hb
  case iptr=>rename_i bw d k i j bl o u' ha hb hr hg hc hv hk;exact .iptr bw d k i j bl o _ (by assumption) (by assumption) (by assumption) (by assumption) (by assumption) (by assumption) (by assumption)
  case nsl=>exact .nsl
  case esl=>exact .esl _
  case zsl=>exact .zsl _ _
  case nan=>exact .nan _ (by assumption)
  case sl=>exact .sl _ _ _ _ _ _ _ (by assumption) (by assumption) (by assumption) _ _ (by assumption) (by assumption)
  case slEnd=>exact .slEnd _ _ _ _ _
  case imm=>exact .imm _ _ _ _ _ _ _ _ _ _ (by assumption) (by assumption) (by assumption) (by assumption) (by assumption) (by assumption) (by assumption) (by assumption)
  case immEnd=>exact .immEnd _ _ _ _ _ _ _ (by assumption) (by assumption) (by assumption)
  case fn=>exact .fn _ _ _ _ _ (by assumption) (by assumption)
  case nfn=>exact .nfn
  case agg=>exact .agg _ _ (by assumption)
  case tup=>exact .tup _ _ (by assumption)
  case iface=>exact .iface _ _ _ (by assumption)
  case niface=>exact .niface
  case any=>exact .any _
theorem at7{ρ:aO}{keep ks:List Nat}{w:World} :∀ (l:List AV) (t:Nat) {c:List Value},jf ρ w l c→jf (ρ.renamed keep) w (nmT (rU keep 0) ks t l) c
  | [],t,c,h=>by cases h;exact .nil
  | v::l,t,c,h=>by
    cases h with | cons _ u _ c' h1 h2 =>
    simp only [nmT]
    refine .cons _ _ _ _ ?_ (at7 l (t+1) h2)
    cases GE ks t with
    | true=>exact amz (UQ v h1)
    | false=>exact .any u
theorem GJ{σ:Nat→Option Nat}{h:d5} :∀ {l:List Nat} {i c:Nat} {d:bt},cn (Tm σ h i l) c=some d→i≤c∧∃ b e,l[c-i]? = some b∧cn h b=some e∧d=nmB σ e
  | [],i,c,d,q=>by cases q
  | b::l,i,c,d,q=>by
    simp only [Tm] at q
    have next:cn (Tm σ h (i+1) l) c=some d→i≤c∧∃ b' e,(b::l)[c-i]? = some b'∧cn h b'=some e∧d=nmB σ e:=by
      intro q
      obtain ⟨h1,b',e,h2,h3,h4⟩:=GJ q
      refine ⟨by omega,b',e,?_,h3,h4⟩
      have:c-i=(c-(i+1))+1:=by omega
      rw [this];simpa using h2
    split at q
    · rename_i e he
      simp only [cn] at q
      cases hc:Nat.beq i c with
      | true =>
        rw [hc] at q;simp only [cond_true,Option.some.injEq] at q
        have:=Nat.eq_of_beq_eq_true hc;subst this
        exact ⟨Nat.le_refl _,b,e,by simp,he,q.symm⟩
      | false=>rw [hc] at q;exact next q
    · exact next q
theorem at8{σ:Nat→Option Nat}{d:bt}(h:d.recKept) :(nmB σ d).recKept:=by
  cases d<;>first | exact h | trivial
theorem amA{σ:Nat→Option Nat}{d:bt}{x:Nat}{v:AV}(h:(nmB σ d).cell? x=some v)(hr:d.recKept) :∃ v',d.cell? x=some v'∧(v=amy (nmA σ v')∨(v=v'∧v.foreign=true)):=by
  cases d with
  | vs l =>
    simp only [nmB,bt.cell?,List.getElem?_map,ain,Option.map_map,Option.map_eq_some_iff,Function.comp] at h
    obtain ⟨v',h1,rfl⟩:=h
    exact ⟨v',h1,.inl rfl⟩
  | fl xs=>exact ⟨v,h,.inr ⟨rfl,cq (d:=.fl xs) hr rfl x v h⟩⟩
  | ns k xs=>exact ⟨v,h,.inr ⟨rfl,cq (d:=.ns k xs) hr rfl x v h⟩⟩
  | bs xs=>exact ⟨v,h,.inr ⟨rfl,cq (d:=.bs xs) hr rfl x v h⟩⟩
  | ss xs=>exact ⟨v,h,.inr ⟨rfl,cq (d:=.ss xs) hr rfl x v h⟩⟩
  | rows k m get=>exact ⟨v,h,.inr ⟨rfl,cq (d:=.rows k m get) hr rfl x v h⟩⟩
  | cols m cs=>exact ⟨v,h,.inr ⟨rfl,cq (d:=.cols m cs) hr rfl x v h⟩⟩
def aip:Nat→Nat→List Nat→Bool
  | 0,_,_=>true
  | _+1,_,[]=>false
  | k+1,i,b::l=>Nat.beq b i&&aip k (i+1) l
theorem YE:∀ {k i:Nat} {l:List Nat},aip k i l=true→∀ j,j<k→l[j]? = some (i+j)
  | 0,i,l,_,j,hj=>by omega
  | k+1,i,[],h,j,hj=>by cases h
  | k+1,i,b::l,h,j,hj=>by
    simp only [aip,Bool.and_eq_true] at h
    cases j with
    | zero=>simp;exact Nat.eq_of_beq_eq_true h.1
    | succ j=>simp only [List.getElem?_cons_succ];rw [YE h.2 j (by omega)];congr 1;omega
def apP(k:Nat)(keep:List Nat) :Bool:=GF keep&&aip k 0 keep
theorem at9{lent:List bt}{keep ks:List Nat}(hk:apP lent.length keep=true)(st:aQ) :Sub lent st (norm keep ks st):=by
  unfold apP at hk
  rw [Bool.and_eq_true] at hk
  obtain ⟨hn,hid⟩:=hk
  have idL:∀ {i:Nat},i<lent.length→keep[i]? = some i:=fun q=>by have:=YE hid _ q;simpa using this
  have atL:∀ {ρ:aO} {i b:Nat},keep[i]? = some b→(ρ.renamed keep).at_ i=ρ.at_ b:=fun q=>by simp [aO.renamed,q]
  rintro ρ0 w0 a w hN ⟨ρ,E,W,S,hbk,hle⟩
  refine ⟨ρ.renamed keep,⟨fun b q=>?_,fun b q=>⟨b,idL (hN.heap.lt b q),E.ok b q⟩,E.live,E.new,E.out⟩,W,⟨S.defers,at7 _ _ S.tmps,?_⟩,fun i hi q=>?_,?_⟩
  · rw [atL (idL (hN.heap.lt b q))];exact E.at_ b q
  · have hh:=S.heap
    refine ⟨fun c d q=>?_,fun c c' d d' q q' ok1 ok2 he=>?_,hh.fresh,hh.liveLt,hh.outLt,fun c q=>?_,fun x hx=>UQ _ (hh.rom x hx)⟩
    · obtain ⟨_,b,e,h1,h2,rfl⟩:=GJ q
      rw [Nat.sub_zero] at h1
      rcases hh.cell b e h2 with ⟨k1,k2,hr,ce,t,r1,r2⟩ | ⟨k1,k2,k3,k4⟩
      · refine .inl ⟨⟨b,h1,k1⟩,by rw [atL h1];exact k2,at8 hr,ce,t,by rw [atL h1];exact r1,fun x v hx=>?_⟩
        obtain ⟨v',s1,s2⟩:=amA hx hr
        obtain ⟨u,t1,t2⟩:=r2 x v' s1
        refine ⟨u,t1,?_⟩
        rcases s2 with rfl | ⟨rfl,hf⟩
        · exact amz (UQ v' t2)
        · exact mt t2 hf
      · refine .inr ⟨?_,(List.getElem?_eq_some_iff.1 h1).1,at8 k3,fun x=>?_⟩
        · rintro ⟨b',q1,q2⟩
          rw [h1] at q1;cases q1
          exact k1 q2
        · cases hc:(nmB (rU keep 0) e).cell? x with
          | none=>rfl
          | some v=>obtain ⟨v',s1,_⟩:=amA hc k3;rw [k4 x] at s1;cases s1
    · obtain ⟨_,b,e,h1,h2,rfl⟩:=GJ q
      obtain ⟨_,b',e',h1',h2',rfl⟩:=GJ q'
      rw [Nat.sub_zero] at h1 h1'
      obtain ⟨x,x1,x2⟩:=ok1
      obtain ⟨y,y1,y2⟩:=ok2
      rw [h1] at x1;cases x1
      rw [h1'] at y1;cases y1
      rw [atL h1,atL h1'] at he
      have:=hh.inj b b' e e' h2 h2' x2 y2 he
      subst this
      exact GG hn h1 h1'
    · obtain ⟨b,h1,_⟩:=q
      exact (List.getElem?_eq_some_iff.1 h1).1
  · obtain ⟨b,q1,q2⟩:=q
    rw [idL hi] at q1;cases q1
    exact hbk i hi q2
  · simp only [norm]
    rcases Nat.lt_or_ge keep.length lent.length with q | q
    · have:=idL q
      rw [List.getElem?_eq_none (Nat.le_refl _)] at this;cases this
    · exact q
inductive GP where
  | slot (t:Nat)
  | part (t i:Nat)
  | cell (b i:Nat)
def lp.empty:lp→Bool
  | .cf [] | .ci _ [] | .cb [] | .cs [] | .cfl [] | .cns _ []=>true
  | _=>false
def Qk:List lp→Bool
  | []=>true
  | c::l=>c.empty&&Qk l
def bt.isVoid:bt→Bool
  | .fl [] | .ns _ [] | .bs [] | .ss [] | .vs []=>true
  | .cols 0 cs=>Qk cs
  | _=>false
theorem YF{c:lp}(h:c.empty=true) :c.len=0:=by
  unfold lp.empty at h
  split at h<;>first | rfl | cases h
theorem DX:∀ {l:List lp},Qk l=true→∀ c∈l,c.len=0
  | [],_,c,hc=>by cases hc
  | c::l,h,x,hx=>by
    simp only [Qk,Bool.and_eq_true] at h
    rcases List.mem_cons.1 hx with rfl | q
    · exact YF h.1
    · exact DX h.2 x q
theorem Jy{d:bt}(h:d.isVoid=true) :d.recKept∧d.void:=by
  unfold bt.isVoid at h
  split at h
  case h_6 =>
    rename_i cs
    have:=DX h
    refine ⟨this,fun x=>?_⟩
    cases hc:(bt.cols 0 cs).cell? x with
    | none=>rfl
    | some v =>
      obtain ⟨c,_,h2,h3⟩:=lW hc
      have:=Ji h3
      rw [DX h c h2] at this;exact absurd this (Nat.not_lt_zero _)
  case h_7=>cases h
  all_goals exact ⟨trivial,fun x=>by simp [bt.cell?]⟩
theorem YG(b w es:Nat) :cg .nsl (.sl b w es 0 0 0):=by
  intro ρ w' u h;cases h;exact .slEnd _ _ _ _ _
theorem HR.weaken{ρ:aO}{w:World}{h:d5}{n b:Nat}{d d':bt}(hh:HR ρ w h n)(hg:cn h b=some d)(hr:d'.recKept)(hw:∀ x v',d'.cell? x=some v'→∃ v,d.cell? x=some v∧cg v v') :HR ρ w (g8 h b d') n:=by
  have look:∀ x e,cn (g8 h b d') x=some e→(x=b∧e=d')∨(x≠b∧cn h x=some e):=by
    intro x e hx
    rw [i0] at hx
    by_cases q:b=x
    · rw [if_pos q] at hx;cases hx;exact .inl ⟨q.symm,rfl⟩
    · rw [if_neg q] at hx;exact .inr ⟨fun e=>q e.symm,hx⟩
  have had:∀ x e,cn (g8 h b d') x=some e→∃ e',cn h x=some e':=by
    intro x e hx
    rcases look x e hx with ⟨rfl,_⟩ | ⟨_,q⟩
    · exact ⟨d,hg⟩
    · exact ⟨e,q⟩
  refine ⟨fun x e hx=>?_,fun x y e f h1 h2 ok1 ok2 he=>?_,hh.fresh,hh.liveLt,hh.outLt,hh.lt,hh.rom⟩
  · rcases look x e hx with ⟨rfl,rfl⟩ | ⟨_,q⟩
    · rcases hh.cell x d hg with ⟨k1,k2,_,c,t,r1,r2⟩ | ⟨k1,k2,_,k4⟩
      · refine .inl ⟨k1,k2,hr,c,t,r1,fun y v' hy=>?_⟩
        obtain ⟨v,q1,q2⟩:=hw y v' hy
        obtain ⟨u,t1,t2⟩:=r2 y v q1
        exact ⟨u,t1,q2 _ _ _ t2⟩
      · refine .inr ⟨k1,k2,hr,fun y=>?_⟩
        cases hc:e.cell? y with
        | none=>rfl
        | some v'=>obtain ⟨v,q1,_⟩:=hw y v' hc;rw [k4 y] at q1;cases q1
    · exact hh.cell x e q
  · obtain ⟨e',q1⟩:=had x e h1
    obtain ⟨f',q2⟩:=had y f h2
    exact hh.inj x y e' f' q1 q2 ok1 ok2 he
def apQ(st:aQ)(pos:GP)(w es:Nat)(d:bt) :aQ :=
  match pos with
  | .slot t =>
    match st.tmps[t]? with
    | some .nsl=>⟨st.tmps.set t (.sl st.next w es 0 0 0),g8 st.heap st.next d,st.next+1⟩
    | some .esl=>⟨st.tmps.set t (.sl st.next w es 0 0 0),g8 st.heap st.next d,st.next+1⟩
    | _=>st
  | .part t i =>
    match st.tmps[t]? with
    | some (.agg l) =>
      match l[i]? with
      | some .nsl=>⟨st.tmps.set t (.agg (l.set i (.sl st.next w es 0 0 0))),g8 st.heap st.next d,st.next+1⟩
      | _=>st
    | _=>st
  | .cell b i =>
    match cn st.heap b with
    | some (.vs l) =>
      match l[i]? with
      | some .nsl=>⟨st.tmps,g8 (g8 st.heap b (.vs (l.set i (.sl st.next w es 0 0 0)))) st.next d,st.next+1⟩
      | _=>st
    | _=>st
theorem aua(b w es:Nat) :cg .esl (.sl b w es 0 0 0):=by
  intro ρ w' u h;cases h;exact .slEnd _ _ _ _ _
theorem C3{ρ:aO}{w:World} :∀ {l:List AV} {c:List Value} {i:Nat} {v v':AV},jf ρ w l c→l[i]? = some v→cg v v'→jf ρ w (l.set i v') c
  | _,_,i,v,v',.nil,h,_=>by simp at h
  | _,_,0,v,v',.cons a u l c h t,hi,hw=>by simp at hi;subst hi;exact .cons _ _ _ _ (hw _ _ _ h) t
  | _,_,i+1,v,v',.cons a u l c h t,hi,hw=>.cons _ _ _ _ h (C3 t (by simpa using hi) hw)
theorem apR{lent:List bt}{st:aQ}{pos:GP}{w es:Nat}{d:bt}(hd:d.isVoid=true) :Sub lent st (apQ st pos w es d):=by
  obtain ⟨d1,d2⟩:=Jy hd
  rintro ρ0 w0 a w' hN ⟨ρ,E,W,S,hbk,hle⟩
  have hh:=S.heap
  have hno : ¬ ρ.ok st.next:=fun q=>Nat.lt_irrefl _ (hh.lt _ q)
  have h1:HR ρ w' (g8 st.heap st.next d) (st.next+1):=(hh.le (Nat.le_succ _)).ghost hno (Nat.lt_succ_self _) d1 d2
  have id_:At lent.length ρ0 w0 st a w':=⟨ρ,E,W,S,hbk,hle⟩
  unfold apQ
  split
  · split
    · rename_i t h
      exact ⟨ρ,E,W,⟨S.defers,C3 S.tmps h (YG _ _ _),h1⟩,hbk,Nat.le_succ_of_le hle⟩
    · rename_i t h
      exact ⟨ρ,E,W,⟨S.defers,C3 S.tmps h (aua _ _ _),h1⟩,hbk,Nat.le_succ_of_le hle⟩
    · exact id_
  · split
    · rename_i t i l h
      split
      · rename_i h2
        refine ⟨ρ,E,W,⟨S.defers,C3 S.tmps h ?_,h1⟩,hbk,Nat.le_succ_of_le hle⟩
        intro ρ w u hu
        cases hu with | agg _ c hc=>exact .agg _ _ (C3 hc h2 (YG _ _ _))
      · exact id_
    · exact id_
  · split
    · rename_i b i _ l h
      split
      · rename_i h2
        have hw:HR ρ w' (g8 st.heap b (.vs (l.set i (.sl st.next w es 0 0 0)))) st.next:=by
          refine hh.weaken h trivial fun x v' hx=>?_
          simp only [bt.cell?,List.getElem?_set] at hx ⊢
          by_cases hi:i=x
          · subst hi
            rw [if_pos rfl] at hx
            split at hx
            · cases hx;exact ⟨_,h2,YG _ _ _⟩
            · cases hx
          · rw [if_neg hi] at hx;exact ⟨v',hx,cg.refl _⟩
        exact ⟨ρ,E,W,⟨S.defers,S.tmps,(hw.le (Nat.le_succ _)).ghost hno (Nat.lt_succ_self _) d1 d2⟩,hbk,Nat.le_succ_of_le hle⟩
      · exact id_
    · exact id_
def YH(f:AV→Option AV)(st:aQ)(pos:GP) :aQ :=
  match pos with
  | .slot t =>
    match st.tmps[t]? with
    | some v=>match f v with
      | some v'=>⟨st.tmps.set t v',st.heap,st.next⟩
      | none=>st
    | none=>st
  | .part t i =>
    match st.tmps[t]? with
    | some (.agg l) =>
      match l[i]? with
      | some v=>match f v with
        | some v'=>⟨st.tmps.set t (.agg (l.set i v')),st.heap,st.next⟩
        | none=>st
      | none=>st
    | _=>st
  | .cell b i =>
    match cn st.heap b with
    | some (.vs l) =>
      match l[i]? with
      | some v=>match f v with
        | some v'=>⟨st.tmps,g8 st.heap b (.vs (l.set i v')),st.next⟩
        | none=>st
      | none=>st
    | _=>st
theorem Oo{lent:List bt}{st:aQ}{pos:GP}{f:AV→Option AV}(hf:∀ v v',f v=some v'→cg v v') :Sub lent st (YH f st pos):=by
  rintro ρ0 w0 a w' hN ⟨ρ,E,W,S,hbk,hle⟩
  have hh:=S.heap
  have id_:At lent.length ρ0 w0 st a w':=⟨ρ,E,W,S,hbk,hle⟩
  unfold YH
  split
  · split
    · rename_i t v h
      split
      · rename_i v' hv
        exact ⟨ρ,E,W,⟨S.defers,C3 S.tmps h (hf _ _ hv),hh⟩,hbk,hle⟩
      · exact id_
    · exact id_
  · split
    · rename_i t i l h
      split
      · rename_i v h2
        split
        · rename_i v' hv
          refine ⟨ρ,E,W,⟨S.defers,C3 S.tmps h ?_,hh⟩,hbk,hle⟩
          intro ρ w u hu
          cases hu with | agg _ c hc=>exact .agg _ _ (C3 hc h2 (hf _ _ hv))
        · exact id_
      · exact id_
    · exact id_
  · split
    · rename_i b i _ l h
      split
      · rename_i v h2
        split
        · rename_i v' hv
          have hw:HR ρ w' (g8 st.heap b (.vs (l.set i v'))) st.next:=by
            refine hh.weaken h trivial fun x u hx=>?_
            simp only [bt.cell?,List.getElem?_set] at hx ⊢
            by_cases hi:i=x
            · subst hi
              rw [if_pos rfl] at hx
              split at hx
              · cases hx;exact ⟨_,h2,hf _ _ hv⟩
              · cases hx
            · rw [if_neg hi] at hx;exact ⟨u,hx,cg.refl _⟩
          exact ⟨ρ,E,W,⟨S.defers,S.tmps,hw⟩,hbk,hle⟩
        · exact id_
      · exact id_
    · exact id_
theorem C4{d:bt}(h:d.isVoid=true) :d.kept=true∧d.foreign=true:=by
  unfold bt.isVoid at h
  split at h<;>first | exact ⟨rfl,rfl⟩ | cases h
theorem asS{d:bt}(w es:Nat)(hd:d.isVoid=true) :cg .nsl (.imm .free d w es 0 0):=by
  intro ρ w' u h;cases h;exact .immEnd _ _ _ _ _ _ _ (Jy hd).1 (fun _=>(C4 hd).1) (C4 hd).2
theorem asT{d:bt}(w es:Nat)(hd:d.isVoid=true) :cg .esl (.imm .free d w es 0 0):=by
  intro ρ w' u h;cases h;exact .immEnd _ _ _ _ _ _ _ (Jy hd).1 (fun _=>(C4 hd).1) (C4 hd).2
def apS(w es:Nat)(d:bt) :AV→Option AV
  | .nsl | .esl=>some (.imm .free d w es 0 0)
  | _=>none
theorem amB{w es:Nat}{d:bt}(hd:d.isVoid=true) :∀ v v',apS w es d v=some v'→cg v v':=by
  intro v v' h
  unfold apS at h
  split at h
  · cases h;exact asS _ _ hd
  · cases h;exact asT _ _ hd
  · cases h
theorem ar0{l:Lv}{ρ:aO}{bl:Nat}(ha:ρ.avoid .free bl) :ρ.avoid l bl:=pY (fun j=>ha j (Nat.zero_le _)) _ _
def awq(l:Lv) :AV→Option AV
  | .imm .free d w es i n=>some (.imm l d w es i n)
  | .iptr .free d w i j=>some (.iptr l d w i j)
  | _=>none
theorem asU{l:Lv} :∀ v v',awq l v=some v'→cg v v':=by
  intro v v' h
  unfold awq at h
  split at h
  · cases h
    intro ρ w' u hu
    cases hu with
    | imm _ _ _ _ _ _ cap bl o u ha hb hc hv hn hr hk hg=>exact .imm _ _ _ _ _ _ cap bl o u (ar0 ha) hb hc hv hn hr (fun _=>hk rfl) hg
    | immEnd _ _ _ _ _ cap a hr hk hg=>exact .immEnd _ _ _ _ _ cap a hr (fun _=>hk rfl) hg
  · cases h
    intro ρ w' u hu
    cases hu with
    | iptr _ _ _ _ _ bl o u ha hb hc hv hr hk hg=>exact .iptr _ _ _ _ _ bl o u (ar0 ha) hb hc hv hr (fun _=>hk rfl) hg
  · cases h
def aub:AV→Option AV
  | .imm _ d w es i n=>some (.imm .lent d w es i n)
  | .iptr _ d w i j=>some (.iptr .lent d w i j)
  | _=>none
theorem apT:∀ v v',aub v=some v'→cg v v':=by
  intro v v' h
  unfold aub at h
  split at h
  · cases h
    intro ρ w' u hu
    cases hu with
    | imm _ _ _ _ _ _ cap bl o u ha hb hc hv hn hr hk hg=>exact .imm _ _ _ _ _ _ cap bl o u (Oa (O:=ρ.own) ha) hb hc hv hn hr (fun q=>by cases q) hg
    | immEnd _ _ _ _ _ cap a hr hk hg=>exact .immEnd _ _ _ _ _ cap a hr (fun q=>by cases q) hg
  · cases h
    intro ρ w' u hu
    cases hu with
    | iptr _ _ _ _ _ bl o u ha hb hc hv hr hk hg=>exact .iptr _ _ _ _ _ bl o u (Oa (O:=ρ.own) ha) hb hc hv hr (fun q=>by cases q) hg
  · cases h
inductive GK where
  | own (w es:Nat) (d:bt)
  | fre (w es:Nat) (d:bt)
  | lev (l:Lv)
  | low
abbrev GL:=List (GP×GK)
def Tn:GL→aQ→aQ
  | [],st=>st
  | (p,.fre w es d)::l,st=>Tn l (YH (apS w es d) st p)
  | (p,.own w es d)::l,st=>Tn l (apQ st p w es d)
  | (p,.lev v)::l,st=>Tn l (YH (awq v) st p)
  | (p,.low)::l,st=>Tn l (YH aub st p)
def r8:GL→Bool
  | []=>true
  | (_,.own _ _ d)::l=>d.isVoid&&r8 l
  | (_,.fre _ _ d)::l=>d.isVoid&&r8 l
  | (_,.lev _)::l=>r8 l
  | (_,.low)::l=>r8 l
theorem Bp{lent:List bt} :∀ {l:GL} {st:aQ},r8 l=true→Sub lent st (Tn l st)
  | [],st,_=>Sub.refl _ _
  | (p,.fre w es d)::l,st,h=>by
    simp only [r8,Bool.and_eq_true] at h
    exact (Oo (amB h.1)).trans (Bp h.2)
  | (p,.own w es d)::l,st,h=>by
    simp only [r8,Bool.and_eq_true] at h
    exact (apR h.1).trans (Bp h.2)
  | (p,.lev v)::l,st,h=>(Oo asU).trans (Bp (l:=l) (by simpa [r8] using h))
  | (p,.low)::l,st,h=>(Oo apT).trans (Bp (l:=l) (by simpa [r8] using h))
structure NS where
  gs:GL
  keep:List Nat
  ks:List Nat
def NS.ok(k:Nat)(s:NS) :Bool:=r8 s.gs&&apP k s.keep
def NS.on(s:NS)(st:aQ) :aQ:=norm s.keep s.ks (Tn s.gs st)
theorem auc{lent:List bt}{s:NS}(h:s.ok lent.length=true)(st:aQ) :Sub lent st (s.on st):=by
  unfold NS.ok at h
  rw [Bool.and_eq_true] at h
  exact (Bp h.1).trans (at9 h.2 _)
def cN:Code→List Code
  | .seq a b=>cN a++cN b
  | .skip=>[]
  | .label _=>[]
  | c=>[c]
def wpL(P:Program) :List Code→(Exit→Act→World→Prop)→Act→World→Prop
  | [],K,a,w=>K .normal a w
  | c::l,K,a,w=>c.wp P (fun e a' w'=>match e with | .normal=>wpL P l K a' w' | e=>K e a' w') a w
theorem Oq{P:Program}{K:Exit→Act→World→Prop} :∀ (l l':List Code) (a:Act) (w:World),wpL P l (fun e a' w'=>match e with | .normal=>wpL P l' K a' w' | e=>K e a' w') a w→wpL P (l++l') K a w
  | [],l',a,w,h=>h
  | c::l,l',a,w,h=>by
    simp only [List.cons_append,wpL] at h ⊢
    refine wp_mono h ?_
    intro e a' w' q
    cases e<;>first | exact Oq l l' a' w' q | exact q
theorem DY{P:Program}{c:Code}{K:Exit→Act→World→Prop}{a:Act}{w:World}(h:wpL P [c] K a w) :c.wp P K a w:=by
  simp only [wpL] at h
  refine wp_mono h ?_
  intro e a' w' q
  cases e<;>exact q
theorem GM{P:Program} :∀ (c:Code) {K:Exit→Act→World→Prop} {a:Act} {w:World},wpL P (cN c) K a w→c.wp P K a w
  | .seq x y,K,a,w,h=>by
    simp only [cN] at h
    refine wp_seq (GM x ?_)
    have app:∀ (l l':List Code) (a:Act) (w:World),wpL P (l++l') K a w→wpL P l (fun e a' w'=>match e with | .normal=>wpL P l' K a' w' | e=>K e a' w') a w:=by
      intro l
      induction l with
      | nil=>intro l' a w h;exact h
      | cons c l ih =>
        intro l' a w h
        simp only [List.cons_append,wpL] at h ⊢
        refine wp_mono h ?_
        intro e a' w' q
        cases e<;>first | exact ih l' a' w' q | exact q
    have:=app _ _ _ _ h
    have mono:∀ (l:List Code) (K K':Exit→Act→World→Prop) (a:Act) (w:World),(∀ e a w,K e a w→K' e a w)→wpL P l K a w→wpL P l K' a w:=by
      intro l
      induction l with
      | nil=>intro K K' a w hK h;exact hK _ _ _ h
      | cons c l ih =>
        intro K K' a w hK h
        simp only [wpL] at h ⊢
        refine wp_mono h ?_
        intro e a' w' q
        cases e<;>first | exact ih K K' a' w' hK q | exact hK _ _ _ q
    refine mono _ _ _ _ _ ?_ this
    intro e a' w' q
    cases e<;>first | exact GM y q | exact q
  | .skip,K,a,w,h=>wp_skip h
  | .label _,K,a,w,h=>wp_label h
  | .region ..,K,a,w,h=>DY h
  | .cond ..,K,a,w,h=>DY h
  | .block ..,K,a,w,h=>DY h
  | .loop ..,K,a,w,h=>DY h
  | .exit ..,K,a,w,h=>DY h
  | .ret,K,a,w,h=>DY h
  | .scope ..,K,a,w,h=>DY h
  | .goto ..,K,a,w,h=>DY h
  | .rangeFunc ..,K,a,w,h=>DY h
  | .refuse ..,K,a,w,h=>DY h
def mO(P:Program)(lent:List bt)(cs:List Code)(st:aQ)(Q:AE→aQ→Prop) :Prop :=
  ∀ (ρ0:aO) (w0:World),uQ ρ0 w0 lent→∀ (K:Exit→Act→World→Prop),(∀ e st' a' w',Q e st'→At lent.length ρ0 w0 st' a' w'→K e.real a' w')→∀ a w,At lent.length ρ0 w0 st a w→wpL P cs K a w
def asV(self:C2) :List Code→aQ→mS→Res
  | [],st,p=>some (.normal,st,[],p)
  | c::l,st,p =>
    match self c st p with
    | some (.normal,st1,o1,p1) =>
      match asV self l st1 p1 with
      | some (e,st2,o2,p2)=>some (e,st2,o1++o2,p2)
      | none=>none
    | r=>r
theorem ar1{P:Program}{self:C2}(hself:YA P self) :∀ (cs:List Code) {st st':aQ} {p p':mS} {e:AE} {obs:List Bool},asV self cs st p=some (e,st',obs,p')→bu obs→∀ {ρ:aO} {a:Act} {w:World} {Q:Exit→Act→World→Prop},SR ρ st a w →
    (∀ ρ' a' w',Jq ρ w st.next st' ρ' a' w'→Q e.real a' w')→wpL P cs Q a w
  | [],st,st',p,p',e,obs,h,ho,ρ,a,w,Q,hs,hQ=>by
    simp only [asV,Option.some.injEq,Prod.mk.injEq] at h;obtain ⟨rfl,rfl,rfl,rfl⟩:=h
    exact hQ ρ a w (Jq.refl hs)
  | c::l,st,st',p,p',e,obs,h,ho,ρ,a,w,Q,hs,hQ=>by
    simp only [asV] at h
    split at h
    · rename_i st1 o1 p1 h1
      split at h
      case h_2=>cases h
      rename_i e2 st2 o2 p2 h2
      simp only [Option.some.injEq,Prod.mk.injEq] at h;obtain ⟨rfl,rfl,rfl,rfl⟩:=h
      rw [cC] at ho
      refine hself c st p _ _ _ _ h1 ho.1 ρ a w _ hs fun ρ1 a1 w1 P1=>?_
      exact ar1 hself l h2 ho.2 P1.sr fun ρ2 a2 w2 P2=>hQ ρ2 a2 w2 (P1.trans P2)
    · rename_i hne
      refine hself c st p _ _ _ _ h ho ρ a w _ hs fun ρ1 a1 w1 P1=>?_
      have:=hQ ρ1 a1 w1 P1
      cases e with
      | normal=>exact (hne _ _ _ h).elim
      | ret=>exact this
      | exit id=>exact this
theorem At.post{lent:List bt}{ρ0 ρ ρ':aO}{w0 w w':World}{st st':aQ}{a a':Act}(E:va ρ0 ρ w0)(W:pX ρ0.live w0 w)(hbk:∀ i,i<lent.length→ρ.ok i→ρ0.ok i)(hle:lent.length≤st.next)(h:Jq ρ w st.next st' ρ' a' w') :At lent.length ρ0 w0 st' a' w' :=
  ⟨ρ',E.trans h.ext W.size,W.trans h.wle (fun x hx q=>E.new x hx q),h.sr,fun i hi q=>(h.back i q).elim (hbk i hi) (fun r=>by omega),Nat.le_trans hle h.le⟩
theorem mO.weak{P:Program}{lent:List bt}{cs:List Code}{st st1:aQ}{Q:AE→aQ→Prop}(hs:Sub lent st st1)(h:mO P lent cs st1 Q) :mO P lent cs st Q :=
  fun ρ0 w0 hN K hK a w hA=>h ρ0 w0 hN K hK a w (hs _ _ _ _ hN hA)
theorem mO.nil{P:Program}{lent:List bt}{st:aQ}{Q:AE→aQ→Prop}(h:Q .normal st) :mO P lent [] st Q :=
  fun ρ0 w0 hN K hK a w hA=>hK .normal st a w h hA
def acH(P:Program)(lent:List bt)(rest:List Code)(e:AE)(st:aQ)(Q:AE→aQ→Prop) :Prop :=
  match e with
  | .normal=>mO P lent rest st Q
  | e=>Q e st
theorem acH.exit{P:Program}{lent:List bt}{rest:List Code}{id:Nat}{st:aQ}{Q:AE→aQ→Prop}(h:Q (.exit id) st) :acH P lent rest (.exit id) st Q:=h
theorem acH.ret{P:Program}{lent:List bt}{rest:List Code}{st:aQ}{Q:AE→aQ→Prop}(h:Q .ret st) :acH P lent rest .ret st Q:=h
theorem acH.normal{P:Program}{lent:List bt}{rest:List Code}{st:aQ}{Q:AE→aQ→Prop}(h:mO P lent rest st Q) :acH P lent rest .normal st Q:=h
def aud(s:NS)(r:Res) :Option (AE×aQ×List Bool) :=
  match r with
  | some (e,st,obs,_)=>some (e,s.on st,obs)
  | none=>none
theorem mO.seg{C:Ol}(hC:C.Ok){S:Qj}(hS:be C.P S){lent:List bt}{N n:Nat}(k:Nat)(p:mS)(s:NS){cs:List Code}{st st1:aQ}{e:AE}{obs:List Bool}{Q:AE→aQ→Prop} 
    (h:aud s (asV (rq C S N n) (cs.take k) st p)=some (e,st1,obs)) (hn:s.ok lent.length=true) (ho:bu obs) (hr:acH C.P lent (cs.drop k) e st1 Q):mO C.P lent cs st Q:=by
  intro ρ0 w0 hN K hK a w ⟨ρ,E,W,S1,hbk,hle⟩
  rw [←List.take_append_drop k cs]
  apply Oq
  unfold aud at h
  split at h
  case h_2=>cases h
  rename_i e' st2 obs' p' hrun
  simp only [Option.some.injEq,Prod.mk.injEq] at h;obtain ⟨rfl,rfl,rfl⟩:=h
  refine ar1 (GI hC hS N n) _ hrun ho S1 fun ρ' a' w' P1=>?_
  have hA:=auc hn st2 ρ0 w0 a' w' hN (At.post (st:=st) (a:=a) E W hbk hle P1)
  cases e' with
  | normal=>exact hr ρ0 w0 hN K hK a' w' hA
  | ret=>exact hK _ _ _ _ hr hA
  | exit id=>exact hK _ _ _ _ hr hA
def Ql(P:Program)(lent:List bt){σ:Type}(I:σ→aQ)(G:σ→Prop)(m:σ→Nat)(s:σ)(id:Nat)(rest:List Code)(Q:AE→aQ→Prop)(e:AE)(st:aQ) :Prop :=
  match e with
  | .normal=>∃ s',G s'∧m s'<m s∧st=I s'
  | .exit j=>if j=id then mO P lent rest st Q else Q (.exit j) st
  | .ret=>Q .ret st
theorem Ql.out{P:Program}{lent:List bt}{σ:Type}{I:σ→aQ}{G:σ→Prop}{m:σ→Nat}{s:σ}{id:Nat}{rest:List Code}{Q:AE→aQ→Prop}{st:aQ}(h:mO P lent rest st Q) :Ql P lent I G m s id rest Q (.exit id) st:=by
  simp only [Ql,if_true];exact h
theorem Ql.on{P:Program}{lent:List bt}{σ:Type}{I:σ→aQ}{G:σ→Prop}{m:σ→Nat}{s:σ}{id:Nat}{rest:List Code}{Q:AE→aQ→Prop}{st:aQ}(s':σ)(hs:st=I s')(hm:m s'<m s)(hG:G s') :mO P lent [] st (Ql P lent I G m s id rest Q) :=
  mO.nil ⟨s',hG,hm,hs⟩
theorem mO.loop{P:Program}{lent:List bt}{σ:Type}(I:σ→aQ)(G:σ→Prop)(m:σ→Nat){id:Nat}{b:Code}{cs rest:List Code}{Q:AE→aQ→Prop}(hcs:cs=.block id (.loop b)::rest) 
    (body:∀ s,G s→mO P lent (cN b) (I s) (Ql P lent I G m s id rest Q)) (s:σ) (hs:G s):mO P lent cs (I s) Q:=by
  subst hcs
  intro ρ0 w0 hN K hK a w hA
  simp only [wpL]
  refine wp_block ?_
  refine wp_loop_rounds (m s+1) ?_
  have key:∀ n s,m s<n→G s→∀ a w,At lent.length ρ0 w0 (I s) a w→Code.rounds P b (Exit.inBlock id fun (e:Exit) a' w'=>match e with | .normal=>wpL P rest K a' w' | e=>K e a' w') n a w:=by
    intro n
    induction n with
    | zero=>intro s h;omega
    | succ n ih =>
      intro s hm hs a w hA
      rw [rounds_succ]
      refine GM b ?_
      refine body s hs ρ0 w0 hN _ ?_ a w hA
      intro e st' a' w' hR hA'
      cases e with
      | normal =>
        obtain ⟨s',h1,h2,rfl⟩:=hR
        exact ih s' (by omega) h1 a' w' hA'
      | ret=>exact hK _ _ _ _ hR hA'
      | exit j =>
        simp only [Ql] at hR
        by_cases hj:j=id
        · subst hj
          rw [if_pos rfl] at hR
          simp only [AE.real,Exit.then,Exit.inBlock,if_true]
          exact hR ρ0 w0 hN K hK a' w' hA'
        · rw [if_neg hj] at hR
          simp only [AE.real,Exit.then,Exit.inBlock,hj,if_false]
          exact hK _ _ _ _ hR hA'
  exact key _ s (Nat.lt_succ_self _) hs a w hA
theorem mO.mono{P:Program}{lent:List bt}{cs:List Code}{st:aQ}{Q Q':AE→aQ→Prop}(hQ:∀ e st,Q e st→Q' e st)(h:mO P lent cs st Q) :mO P lent cs st Q' :=
  fun ρ0 w0 hN K hK a w hA=>h ρ0 w0 hN K (fun e st' a' w' q hA'=>hK e st' a' w' (hQ e st' q) hA') a w hA
theorem mO.block{P:Program}{lent:List bt}{id:Nat}{b:Code}{cs rest:List Code}{st:aQ}{Q:AE→aQ→Prop}(hcs:cs=.block id b::rest) 
    (h:mO P lent (cN b) st fun e st'=>match e with | .normal=>mO P lent rest st' Q | .exit j=>if j=id then mO P lent rest st' Q else Q (.exit j) st' | .ret=>Q .ret st'):mO P lent cs st Q:=by
  subst hcs
  intro ρ0 w0 hN K hK a w hA
  simp only [wpL]
  refine wp_block (GM b ?_)
  refine h ρ0 w0 hN _ ?_ a w hA
  intro e st' a' w' hR hA'
  cases e with
  | normal=>exact hR ρ0 w0 hN K hK a' w' hA'
  | ret=>exact hK _ _ _ _ hR hA'
  | exit j =>
    simp only at hR
    by_cases hj:j=id
    · subst hj
      rw [if_pos rfl] at hR
      simp only [AE.real,Exit.inBlock,if_true]
      exact hR ρ0 w0 hN K hK a' w' hA'
    · rw [if_neg hj] at hR
      simp only [AE.real,Exit.inBlock,hj,if_false]
      exact hK _ _ _ _ hR hA'
theorem mO.scope{P:Program}{lent:List bt}{b:Code}{cs rest:List Code}{st:aQ}{Q:AE→aQ→Prop}(hcs:cs=.scope b::rest) 
    (h:mO P lent (cN b) st fun e st'=>acH P lent rest e st' Q):mO P lent cs st Q:=by
  subst hcs
  intro ρ0 w0 hN K hK a w hA
  simp only [wpL]
  refine wp_scope_straight (GM b ?_)
  refine h ρ0 w0 hN _ ?_ a w hA
  intro e st' a' w' hR hA'
  cases e with
  | normal=>exact hR ρ0 w0 hN K hK a' w' hA'
  | ret=>exact hK _ _ _ _ hR hA'
  | exit j=>exact hK _ _ _ _ hR hA'
def ar2(P:Program)(fn:Func)(k:Nat)(keep:Bool)(r:gM)(e:AE)(st:aQ) :Prop :=
  (e=.normal∨e=.ret)∧∃ vs obs,py P fn st fn.results.toList=some (vs,obs)∧bu obs∧Yy k keep st.heap (Tl vs)=some r
theorem mO.contract{P:Program}{f:FuncId}{fn:Func}{c:Code}(hf:P.funcs[f]? = some fn)(hc:fn.body=some c){lent:List bt}{args:List AV}{r:gM}{keep:Bool} 
    (h:mO P lent (cN c) (Av fn lent args) (ar2 P fn lent.length keep r)):ay P f lent args r:=by
  refine Jx (keep:=keep) hf hc ?_
  intro ρ w a hN hs
  refine GM c ?_
  refine h ρ w hN _ ?_ a w ⟨ρ,va.refl _ _,pX.refl _ _,hs,fun _ _ q=>q,Nat.le_refl _⟩
  rintro e st' a' w' ⟨he,vs,obs,h1,h2,h3⟩ ⟨ρ',E,W,S,hbk,_⟩
  refine ⟨?_,ρ',st',vs,obs,E,W,hbk,S,h1,h2,h3⟩
  rcases he with rfl | rfl
  · exact .inl rfl
  · exact .inr rfl
def Ot(x:Nat) :Nat:=x%9223372036854775808
def Mu(x y:Nat) :Bool:=(isNaN x&&isNaN y)||x==y
theorem FV(x:Nat) :BitVec.ofInt 64 (x:Int)=BitVec.ofNat 64 x:=by simp
theorem avq : ~~~ BitVec.ofInt 64 9223372036854775808=BitVec.ofNat 64 (2^63-1):=by decide
theorem o0(n:Nat) :IntKind.u64.wrap (n:Int)=((n%18446744073709551616:Nat):Int):=by
  simp [IntKind.wrap,IntKind.signed,IntKind.bits]
theorem awr(x:Nat) :(fc .andNot .u64 (x:Int) 9223372036854775808)=((Ot x:Nat):Int):=by
  have e:(BitVec.ofInt IntKind.u64.bits (x:Int) &&& ~~~ BitVec.ofInt IntKind.u64.bits 9223372036854775808).toNat=x%9223372036854775808:=by
    show (BitVec.ofInt 64 (x:Int) &&& ~~~ BitVec.ofInt 64 9223372036854775808).toNat=_
    rw [avq,FV,BitVec.toNat_and,BitVec.toNat_ofNat,BitVec.toNat_ofNat]
    have:(2^63-1)%2^64=2^63-1:=by decide
    rw [this,Nat.and_two_pow_sub_one_eq_mod]
    omega
  unfold fc
  simp only
  rw [e,o0]
  congr 1
  unfold Ot
  omega
theorem YI(x:Nat) :isNaN (Ot x)=isNaN x:=by
  rw [FO,FO];unfold Ot;rw [Nat.mod_mod]
theorem aws{ex:Bool}{x y:Nat}(h:FR ex x y) :FR false (Ot x) (Ot y):=by
  rcases h with rfl | ⟨h1,h2,h3⟩
  · exact .inl rfl
  · exact .inr ⟨rfl,by rw [YI];exact h2,by rw [YI];exact h3⟩
theorem FR.same{e1 e2:Bool}{x y x' y':Nat}(h:FR e1 x x')(k:FR e2 y y') :Mu x' y'=Mu x y:=by
  unfold Mu
  rcases h with rfl | ⟨h1,h2,h3⟩
  · rcases k with rfl | ⟨k1,k2,k3⟩
    · rfl
    · rw [k2,k3]
      cases hx:isNaN x' with
      | true=>rfl
      | false =>
        have a:(x'==y')=false:=by
          rw [beq_eq_false_iff_ne];intro e;rw [e] at hx;rw [hx] at k3;cases k3
        have b:(x'==y)=false:=by
          rw [beq_eq_false_iff_ne];intro e;rw [e] at hx;rw [hx] at k2;cases k2
        rw [a,b]
  · rcases k with rfl | ⟨k1,k2,k3⟩
    · rw [h2,h3]
      cases hx:isNaN y' with
      | true=>rfl
      | false =>
        have a:(x'==y')=false:=by
          rw [beq_eq_false_iff_ne];intro e;rw [e] at h3;rw [hx] at h3;cases h3
        have b:(x==y')=false:=by
          rw [beq_eq_false_iff_ne];intro e;rw [e] at h2;rw [hx] at h2;cases h2
        rw [a,b]
    · rw [h2,h3,k2,k3];rfl
theorem gM.Holds.weak{ρ:aO}{w w':World}{k:Nat}{v v':AV}{own:List (Option bt)}{u:Value}(h:(⟨v,own⟩:gM).Holds ρ w w' k u)(hw:∀ ρ w,VR ρ w v u→VR ρ w v' u) :(⟨v',own⟩:gM).Holds ρ w w' k u:=by
  obtain ⟨ρ',h1,h2,h3,h4⟩:=h
  exact ⟨ρ',h1,h2,h3,hw _ _ h4⟩
theorem Ww{P:Program}{f:FuncId}{ex:Bool}{x:Nat}{r:Nat→AV}{r':AV}(h:∀ y,ay P f [] [.flt true y] ⟨r y,[]⟩) 
    (hw:∀ y,FR ex x y→∀ ρ w u,VR ρ w (r y) u→VR ρ w r' u):ay P f [] [.flt ex x] ⟨r',[]⟩:=by
  intro ρ w us hN hv
  cases hv with | cons _ u _ _ h1 h2 =>
  cases h2
  cases h1 with | flt _ _ y hf =>
  obtain ⟨q1,q2⟩:=h y ρ w [.float .f64 y] hN (.cons _ _ _ _ (.flt _ _ _ (.inl rfl)) .nil)
  refine ⟨q1,q2.mono ?_⟩
  rintro e w' ⟨u,rfl,W,hu⟩
  exact ⟨u,rfl,W,hu.weak fun ρ w=>hw y hf ρ w u⟩
theorem Wx{P:Program}{f:FuncId}{e1 e2:Bool}{x1 x2:Nat}{r:Nat→Nat→AV}{r':AV}(h:∀ y1 y2,ay P f [] [.flt true y1,.flt true y2] ⟨r y1 y2,[]⟩) 
    (hw:∀ y1 y2,FR e1 x1 y1→FR e2 x2 y2→∀ ρ w u,VR ρ w (r y1 y2) u→VR ρ w r' u):ay P f [] [.flt e1 x1,.flt e2 x2] ⟨r',[]⟩:=by
  intro ρ w us hN hv
  cases hv with | cons _ u _ _ h1 h2 =>
  cases h2 with | cons _ u _ _ h3 h4 =>
  cases h4
  cases h1 with | flt _ _ y1 hf1 =>
  cases h3 with | flt _ _ y2 hf2 =>
  obtain ⟨q1,q2⟩:=h y1 y2 ρ w [.float .f64 y1,.float .f64 y2] hN (.cons _ _ _ _ (.flt _ _ _ (.inl rfl)) (.cons _ _ _ _ (.flt _ _ _ (.inl rfl)) .nil))
  refine ⟨q1,q2.mono ?_⟩
  rintro e w' ⟨u,rfl,W,hu⟩
  exact ⟨u,rfl,W,hu.weak fun ρ w=>hw y1 y2 hf1 hf2 ρ w u⟩
theorem VR.flt_weak{ρ:aO}{w:World}{x y:Nat}{u:Value}(h:VR ρ w (.flt true y) u)(hf:FR false x y) :VR ρ w (.flt false x) u:=by
  cases h with | flt _ _ z hz =>
  rcases hz with rfl | ⟨h1,_⟩
  · exact .flt _ _ _ hf
  · cases h1
theorem Jz(x:Nat) :X4 x x=isNaN x:=by
  cases h:isNaN x with
  | true=>unfold X4;rw [PU (.inl h)];rfl
  | false =>
    simp only [X4,w9]
    unfold isNaN FloatKind.decode at h
    unfold Ieee.Format.order
    generalize FloatKind.f64.format.read x=d at h
    cases d with
    | nan=>simp [Ieee.Datum.isNaN] at h
    | infinity s=>simp [Ieee.Datum.order]
    | number s m i=>simp [Ieee.Datum.order]
structure aM where
  f:FuncId
  on:List bt→List AV→Option (List CU)
def bh:List aM→Qj
  | [],_,_,_=>none
  | e::l,f,lent,args=>bif Nat.beq e.f f then (match e.on lent args with | some r=>some r | none=>bh l f lent args) else bh l f lent args
def aY(P:Program)(e:aM) :Prop:=∀ lent args alts a,e.on lent args=some alts→a∈alts→bu a.obs→ay P e.f lent args a.out
theorem YJ(P:Program) :be P (bh []):=fun f lent args alts a h=>by cases h
theorem ax{P:Program}{e:aM}{l:List aM}(he:aY P e)(hl:be P (bh l)) :be P (bh (e::l)):=by
  intro f lent args alts a h ha ho
  simp only [bh] at h
  cases hb:Nat.beq e.f f with
  | false=>rw [hb] at h;exact hl f lent args alts a h ha ho
  | true =>
    rw [hb] at h
    have:=Nat.eq_of_beq_eq_true hb
    subst this
    simp only [cond_true] at h
    split at h
    · rename_i r hr
      cases h
      exact he lent args alts a hr ha ho
    · exact hl _ lent args alts a h ha ho
def one(v:AV)(obs:List Bool) :Option (List CU):=some [⟨⟨v,[]⟩,obs⟩]
def aue(v:AV)(own:List (Option bt))(obs:List Bool) :Option (List CU):=some [⟨⟨v,own⟩,obs⟩]
theorem asW{P:Program}{f:FuncId}{lent:List bt}{args:List AV}{alts:List CU}{a:CU}{v:AV}{own:List (Option bt)}{obs:List Bool}(h:aue v own obs=some alts)(ha:a∈alts)(ho:bu a.obs) 
    (hc:bu obs→ay P f lent args ⟨v,own⟩):ay P f lent args a.out:=by
  simp only [aue,Option.some.injEq] at h;subst h
  simp only [List.mem_singleton] at ha;subst ha
  exact hc ho
theorem To{P:Program}{f:FuncId}{lent:List bt}{args:List AV}{alts:List CU}{a:CU}{v:AV}{obs:List Bool}(h:one v obs=some alts)(ha:a∈alts)(ho:bu a.obs) 
    (hc:bu obs→ay P f lent args ⟨v,[]⟩):ay P f lent args a.out:=asW (own:=[]) h ha ho hc
theorem ay.run{C:Ol}(hC:C.Ok){S:Qj}(hS:be C.P S)(p:mS){f:FuncId}{lent:List bt}{args:List AV}{p':mS}{r:gM}{obs:List Bool}(N n:Nat)(h:Jv C S (rq C S N n) f lent args p=some (r,obs,p'))(ho:bu obs) :
    ay C.P f lent args r:=Wv hC hS N n h ho
theorem ob{b:Bool}{l:List Bool}(h:b=true)(t:bu l) :bu (b::l):=⟨h,t⟩
theorem nob:bu []:=trivial
inductive lI:List AV→List AV→Prop
  | nil:lI [] []
  | cons {v v':AV} {l l':List AV} (h:cg v v') (t:lI l l'):lI (v::l) (v'::l')
theorem lI.vrs{ρ:aO}{w:World} :∀ {l l':List AV} {c:List Value},lI l l'→jf ρ w l c→jf ρ w l' c
  | _,_,_,.nil,.nil=>.nil
  | _,_,_,.cons h t,.cons _ _ _ _ hv tv=>.cons _ _ _ _ (h _ _ _ hv) (lI.vrs t tv)
theorem lI.refl:∀ l:List AV,lI l l
  | []=>.nil
  | v::l=>.cons (cg.refl v) (lI.refl l)
theorem cg.agg{l l':List AV}(h:lI l l') :cg (.agg l) (.agg l'):=by
  intro ρ w u hv;cases hv with | agg _ _ hl=>exact .agg _ _ (h.vrs hl)
theorem cg.tup{l l':List AV}(h:lI l l') :cg (.tup l) (.tup l'):=by
  intro ρ w u hv;cases hv with | tup _ _ hl=>exact .tup _ _ (h.vrs hl)
theorem ay.args{P:Program}{f:FuncId}{lent:List bt}{a a':List AV}{r:gM}(h:ay P f lent a' r)(ha:lI a a') :ay P f lent a r :=
  fun ρ w us hN hv=>h ρ w us hN (ha.vrs hv)
theorem ay.weak{P:Program}{f:FuncId}{lent:List bt}{a:List AV}{v v':AV}{own:List (Option bt)}(h:ay P f lent a ⟨v,own⟩)(hw:cg v v') :ay P f lent a ⟨v',own⟩:=by
  intro ρ w us hN hv
  obtain ⟨q1,q2⟩:=h ρ w us hN hv
  refine ⟨q1,q2.mono ?_⟩
  rintro e w' ⟨u,rfl,W,hu⟩
  exact ⟨u,rfl,W,hu.weak fun ρ w=>hw ρ w u⟩
theorem YK(k k' b:Bool) :cg (.bool k b) (.bool k' b):=by
  intro ρ w u h;cases h;exact .bool _ _
end Go.Plb
namespace Go.Plb
open Go.ChangeShapes Go.WideShapes Go.ChangeAt Go.RowKit Go.Deep
set_option linter.unusedSimpArgs false
set_option linter.unusedVariables false
set_option linter.unusedSectionVars false
variable [Rom]
def aO.none_:aO:={ at_:=fun _=>0,live:=fun _=>False,out:=fun _ _=>False,ok:=fun _=>False }
theorem avr(w:World)(hr:∀ x∈Rom.tab,VR aO.none_ w (.iptr .free x.2 1 0 0) (.pointer (some ⟨x.1,0,none⟩))) :uQ aO.none_ w [] :=
  ⟨⟨fun b d q=>by simp [i5,cn] at q,fun b c d e q=>by simp [i5,cn] at q,fun bl q=>q.elim,fun bl q=>q.elim,fun j bl q=>q.elim,fun b q=>q.elim,hr⟩,fun bl q=>q.elim⟩
theorem Ou(l:Lv)(bl:Nat) :aO.none_.avoid l bl:=pY (fun j=>by cases j<;>exact id) l 0
inductive FA where
  | i (k:IntKind) (n:Int)
  | f (x:Nat)
  | s (b:ByteArray)
  | b (b:Bool)
  | fl (xs:List Nat)
  | ns (k:IntKind) (xs:List Int)
def FA.av:FA→AV
  | .i k n=>.int k n
  | .f x=>.flt true x
  | .s z=>.str z
  | .b z=>.bool false z
  | .fl xs=>.imm .free (.fl xs) 1 1 0 xs.length
  | .ns k xs=>.imm .free (.ns k xs) 1 1 0 xs.length
theorem FA.kept(a:FA) :a.av.kept=true:=by cases a<;>rfl
inductive FT where
  | i (k:IntKind)
  | f
  | s
  | b
  | fl
  | ns (k:IntKind)
def FA.has:FT→FA→Prop
  | .i k,.i k' n=>k'=k∧(Lit.int k n).wf=true
  | .f,.f x=>(Lit.float .f64 x).wf=true
  | .s,.s z=>z.size≤maxLen
  | .b,.b _=>True
  | .fl,.fl xs=>xs.length≤maxLen∧∀ x∈xs,(Lit.float .f64 x).wf=true
  | .ns k,.ns k' xs=>k'=k∧xs.length≤maxLen∧∀ n∈xs,(Lit.int k n).wf=true
  | _,_=>False
def asX(P:Program)(t:TypeId) :Option FT :=
  match P.underlying t with
  | some (.int k)=>some (.i k)
  | some (.float .f64)=>some .f
  | some .string=>some .s
  | some .bool=>some .b
  | some (.slice e) =>
    match P.underlying e,P.cellsOf e with
    | some (.float .f64),1=>some .fl
    | some (.int k),1=>some (.ns k)
    | _,_=>none
  | _=>none
def aiq:Value→Nat
  | .float _ b=>b
  | _=>0
def air:Value→Int
  | .int _ n=>n
  | _=>0
theorem US{W:World}{a:Addr}{i:Nat}{v:Value}(c:W.cell? (a.add i)=some v)(h0:a.spot=none) :a.add i=⟨a.block,a.off+i,none⟩:=by
  cases a;simp only at h0;subst h0
  unfold Addr.add;split
  · rename_i q;subst q;rfl
  · rfl
theorem Qm{W:World}{a:Addr}{v:Value}(c:W.cell? a=some v) :a.spot=none:=by
  unfold World.cell? at c
  split at c
  · cases q:a.spot with
    | none=>rfl
    | some s=>rw [q] at c;simp at c
  · cases c
theorem YL{W:World}{a:Addr}{v:Value}(c:W.cell? a=some v) :a.block<W.heap.size:=by
  unfold World.cell? at c
  split at c
  · rename_i q;exact (Array.getElem?_eq_some_iff.1 q).1
  · cases c
theorem vh{α:Type}(f:Nat→α)(n x:Nat)(y:α)(h:((List.range n).map f)[x]? = some y) :x<n∧y=f x:=by
  rw [List.getElem?_map] at h
  rcases Nat.lt_or_ge x n with q | q
  · rw [List.getElem?_range q] at h;simp only [Option.map_some,Option.some.injEq] at h;exact ⟨q,h.symm⟩
  · rw [List.getElem?_eq_none (by simpa using q)] at h;cases h
variable {H : Type} {enc : TypeId × Value → H} {P : Program} {W : World}
theorem agV{t:TypeId}{ft:FT}{fuel:Nat}{v:Value}{x:DataW H×List MemPlace}(ht:asX P t=some ft)(h:DataW.trod enc P W 0 (fun _=>true) true fuel t [v]=some x) :
    ∃ a:FA,a.has ft∧VR aO.none_ W a.av v:=by
  cases fuel with
  | zero=>simp [DataW.trod] at h
  | succ fuel =>
  have h0:=h
  unfold asX at ht
  split at ht
  · rename_i k hk
    cases ht
    simp only [DataW.trod,hk] at h
    cases v<;>simp at h
    rename_i k' n
    obtain ⟨⟨rfl,hw⟩,_⟩:=h
    exact ⟨.i k' n,⟨rfl,hw⟩,.int _ _⟩
  · rename_i hk
    cases ht
    simp only [DataW.trod,hk] at h
    cases v<;>simp at h
    rename_i k b
    obtain ⟨⟨rfl,hw⟩,_⟩:=h
    exact ⟨.f b,hw,.flt _ _ _ (.inl rfl)⟩
  · rename_i hk
    cases ht
    simp only [DataW.trod,hk] at h
    cases v<;>simp at h
    exact ⟨.s _,h.1,.str _⟩
  · rename_i hk
    cases ht
    simp only [DataW.trod,hk] at h
    cases v<;>simp at h
    exact ⟨.b _,trivial,.bool _ _⟩
  · rename_i e hk
    have key:∀ (he:P.cellsOf e=1),(v=.slice none 0 0)∨∃ (a:Addr) (len cap n:Nat) (V:Nat→Value),v=.slice (some a) len cap∧len≤cap∧cap≤maxLen ∧
        ∀ i,i<len→∃ y,W.cell? (a.add i)=some (V i)∧DataW.trod enc P W 0 (fun _=>true) true n e [V i]=some y:=by
      intro he
      rcases open_slice1 hk he h0 with ⟨h1,_⟩ | ⟨a,len,cap,m,n,V,D,Pl,h1,hb,hl,hm,hmm,_,hx⟩
      · simp only [List.cons.injEq,and_true] at h1
        exact .inl h1
      · simp only [List.cons.injEq,and_true] at h1
        refine .inr ⟨a,len,cap,n,V,h1,hl,hm,fun i hi=>⟨_,hx i (by rw [hmm,if_pos rfl];omega)⟩⟩
    split at ht
    · rename_i he hc
      cases ht
      rcases key hc with rfl | ⟨a,len,cap,n,V,rfl,hl,hm,hx⟩
      · exact ⟨.fl [],⟨Nat.zero_le _,fun x hx=>by cases hx⟩,.immEnd _ _ _ _ _ _ _ trivial (fun _=>rfl) rfl⟩
      · have hV:∀ i,i<len→V i=.float .f64 (aiq (V i))∧(Lit.float .f64 (aiq (V i))).wf=true:=by
          intro i hi
          obtain ⟨y,c1,c2⟩:=hx i hi
          cases n with
          | zero=>simp [DataW.trod] at c2
          | succ n =>
            simp only [DataW.trod,he] at c2
            cases hV:V i<;>rw [hV] at c2<;>simp at c2
            obtain ⟨⟨rfl,hw⟩,_⟩:=c2
            exact ⟨rfl,hw⟩
        refine ⟨.fl ((List.range len).map fun i=>aiq (V i)),⟨by simp;omega,fun x hx=>?_⟩,?_⟩
        · simp only [List.mem_map,List.mem_range] at hx
          obtain ⟨i,hi,rfl⟩:=hx
          exact (hV i hi).2
        · simp only [FA.av,List.length_map,List.length_range]
          rcases Nat.eq_zero_or_pos len with rfl | hz
          · exact .immEnd _ _ _ _ _ _ _ trivial (fun _=>rfl) rfl
          · have h0:=Qm (hx 0 hz).choose_spec.1
            have hs:a.spot=none:=by
              have e:a.add 0=a:=by simp [Addr.add]
              rw [e] at h0;exact h0
            have hcell:∀ i,i<len→W.cell? ⟨a.block,a.off+i,none⟩=some (V i):=fun i hi=>by
              obtain ⟨y,c1,_⟩:=hx i hi
              rw [US c1 hs] at c1;exact c1
            have ha:a=⟨a.block,a.off+0*1,none⟩:=by cases a;simp only at hs;subst hs;rfl
            have:=VR.imm (ρ:=aO.none_) (w:=W) .free (.fl ((List.range len).map fun i=>aiq (V i))) 1 1 0 len cap a.block a.off V (Ou _ _) (YL (a:=⟨a.block,a.off+0,none⟩) (hcell 0 hz))
              (fun x v hx'=>by
                simp only [bt.cell?,Option.map_eq_some_iff] at hx'
                obtain ⟨y,h1,h2⟩:=hx'
                exact hcell x (vh _ _ _ _ h1).1)
              (fun x v hx'=>by
                simp only [bt.cell?,Option.map_eq_some_iff] at hx'
                obtain ⟨y,h1,rfl⟩:=hx'
                obtain ⟨q1,rfl⟩:=vh _ _ _ _ h1
                rw [(hV x q1).1]
                exact .flt _ _ _ (.inl rfl)) hl trivial (fun _=>rfl) rfl
            rw [ha];exact this
    · rename_i k he hc
      cases ht
      rcases key hc with rfl | ⟨a,len,cap,n,V,rfl,hl,hm,hx⟩
      · exact ⟨.ns k [],⟨rfl,Nat.zero_le _,fun x hx=>by cases hx⟩,.immEnd _ _ _ _ _ _ _ trivial (fun _=>rfl) rfl⟩
      · have hV:∀ i,i<len→V i=.int k (air (V i))∧(Lit.int k (air (V i))).wf=true:=by
          intro i hi
          obtain ⟨y,c1,c2⟩:=hx i hi
          cases n with
          | zero=>simp [DataW.trod] at c2
          | succ n =>
            simp only [DataW.trod,he] at c2
            cases hV:V i<;>rw [hV] at c2<;>simp at c2
            obtain ⟨⟨rfl,hw⟩,_⟩:=c2
            exact ⟨rfl,hw⟩
        refine ⟨.ns k ((List.range len).map fun i=>air (V i)),⟨rfl,by simp;omega,fun x hx=>?_⟩,?_⟩
        · simp only [List.mem_map,List.mem_range] at hx
          obtain ⟨i,hi,rfl⟩:=hx
          exact (hV i hi).2
        · simp only [FA.av,List.length_map,List.length_range]
          rcases Nat.eq_zero_or_pos len with rfl | hz
          · exact .immEnd _ _ _ _ _ _ _ trivial (fun _=>rfl) rfl
          · have h0:=Qm (hx 0 hz).choose_spec.1
            have hs:a.spot=none:=by
              have e:a.add 0=a:=by simp [Addr.add]
              rw [e] at h0;exact h0
            have hcell:∀ i,i<len→W.cell? ⟨a.block,a.off+i,none⟩=some (V i):=fun i hi=>by
              obtain ⟨y,c1,_⟩:=hx i hi
              rw [US c1 hs] at c1;exact c1
            have ha:a=⟨a.block,a.off+0*1,none⟩:=by cases a;simp only at hs;subst hs;rfl
            have:=VR.imm (ρ:=aO.none_) (w:=W) .free (.ns k ((List.range len).map fun i=>air (V i))) 1 1 0 len cap a.block a.off V (Ou _ _) (YL (a:=⟨a.block,a.off+0,none⟩) (hcell 0 hz))
              (fun x v hx'=>by
                simp only [bt.cell?,Option.map_eq_some_iff] at hx'
                obtain ⟨y,h1,h2⟩:=hx'
                exact hcell x (vh _ _ _ _ h1).1)
              (fun x v hx'=>by
                simp only [bt.cell?,Option.map_eq_some_iff] at hx'
                obtain ⟨y,h1,rfl⟩:=hx'
                obtain ⟨q1,rfl⟩:=vh _ _ _ _ h1
                rw [(hV x q1).1]
                exact .int _ _) hl trivial (fun _=>rfl) rfl
            rw [ha];exact this
    · cases ht
  · cases ht
theorem auf{t:TypeId}{ft:FT}{v:Value}{d:DataW H}{p:List MemPlace}{base:Nat}(ht:asX P t=some ft)(ho:Value.okWide P W .any base t v)(h:DataW.Trod enc P W 0 (fun _=>true) true t v d p) :
    ∃ a:FA,a.has ft∧VR aO.none_ W a.av v:=by
  obtain ⟨fuel,hf⟩:=h
  have hc:v.cells.toList=[v]:=by
    have hne:∀ c,v ≠ .agg c:=by
      rintro c rfl
      unfold asX at ht
      unfold Value.okWide at ho
      split at ht
      case h_6=>cases ht
      all_goals (rename_i hk;rw [hk] at ho;simp [Cell.okWide,Cell.ok,hk] at ho)
    cases v<;>first | rfl | exact (hne _ rfl).elim
  rw [hc] at hf
  exact agV ht hf
def FA.avs:List FA→List AV
  | []=>[]
  | a::l=>a.av::FA.avs l
def FW:List FT→List FA→Prop
  | [],[]=>True
  | t::ts,a::fas=>a.has t∧FW ts fas
  | _,_=>False
def avt(P:Program)(t:TypeId) :Option (List FT) :=
  match P.underlying t with
  | some (.struct fs)=>bif P.cellsOf t==fs.size&&fs.toList.zipIdx.all (fun x=>x.1.offset==x.2&&P.cellsOf x.1.type==1) then fs.toList.mapM fun f=>asX P f.type else none
  | _=>none
theorem UT{n:Nat} :∀ (fs:List Field) (o:Nat) {fts:List FT} {cs:List Value} {xs:List (DataW H×List MemPlace)},cs.length=o+fs.length→(∀ (j:Nat) (f:Field),fs[j]? = some f→f.offset=o+j∧P.cellsOf f.type=1)→fs.mapM (fun f=>asX P f.type)=some fts →
    fs.mapM (fun f=>DataW.trod enc P W 0 (fun _=>true) true n f.type ((cs.drop f.offset).take (P.cellsOf f.type)))=some xs→∃ fas:List FA,FW fts fas∧jf aO.none_ W (FA.avs fas) (cs.drop o)
  | [],o,fts,cs,xs,hl,_,h1,h2=>by
    simp at h1;subst h1
    exact ⟨[],trivial,by rw [List.drop_eq_nil_of_le (by simp at hl;omega)];exact .nil⟩
  | f::fs,o,fts,cs,xs,hl,hf,h1,h2=>by
    simp only [List.mapM_cons,Option.pure_def,Option.bind_eq_bind,Option.bind_eq_some_iff,Option.some.injEq] at h1 h2
    obtain ⟨ft,a1,fts',a2,rfl⟩:=h1
    obtain ⟨x,b1,xs',b2,rfl⟩:=h2
    obtain ⟨e1,e2⟩:=hf 0 f rfl
    simp only [List.length_cons] at hl
    have hlt:o<cs.length:=by omega
    have hd:(cs.drop f.offset).take (P.cellsOf f.type)=[cs[o]]:=by
      rw [e1,e2,Nat.add_zero,List.drop_eq_getElem_cons hlt];rfl
    rw [hd] at b1
    obtain ⟨a,k1,k2⟩:=agV a1 b1
    obtain ⟨fas,k3,k4⟩:=UT fs (o+1) (cs:=cs) (by omega) (fun j f' hj=>by have:=hf (j+1) f' (by simpa using hj);exact ⟨by omega,this.2⟩) a2 b2
    refine ⟨a::fas,⟨k1,k3⟩,?_⟩
    rw [List.drop_eq_getElem_cons hlt]
    exact .cons _ _ _ _ k2 k4
theorem ais{t:TypeId}{fts:List FT}{fuel:Nat}{cs:List Value}{x:DataW H×List MemPlace}(ht:avt P t=some fts)(h:DataW.trod enc P W 0 (fun _=>true) true fuel t cs=some x) :
    ∃ fas:List FA,FW fts fas∧jf aO.none_ W (FA.avs fas) cs:=by
  unfold avt at ht
  split at ht
  case h_2=>cases ht
  rename_i fs hk
  cases hb:(P.cellsOf t==fs.size&&fs.toList.zipIdx.all (fun x=>x.1.offset==x.2&&P.cellsOf x.1.type==1)) with
  | false=>rw [hb] at ht;cases ht
  | true =>
  rw [hb] at ht
  simp only [cond_true] at ht
  simp only [Bool.and_eq_true,beq_iff_eq,List.all_eq_true] at hb
  cases fuel with
  | zero=>simp [DataW.trod] at h
  | succ fuel =>
  simp only [DataW.trod,hk] at h
  split at h
  case isFalse=>cases h
  rename_i hlen
  simp only [Option.map_eq_some_iff] at h
  obtain ⟨xs,h1,_⟩:=h
  have:=UT fs.toList 0 (cs:=cs) (by rw [hlen,hb.1];simp) (fun j f hj=>by
    have:=hb.2 (f,j) (by rw [List.mem_zipIdx_iff_getElem?];exact hj)
    simp only at this
    exact ⟨by omega,this.2⟩) ht h1
  simpa using this
theorem JA{t:TypeId}{fts:List FT}{v:Value}{d:DataW H}{p:List MemPlace}{base:Nat}(ht:avt P t=some fts)(ho:Value.okWide P W .any base t v)(h:DataW.Trod enc P W 0 (fun _=>true) true t v d p) :
    ∃ fas:List FA,FW fts fas∧VR aO.none_ W (.agg (FA.avs fas)) v:=by
  obtain ⟨fuel,hf⟩:=h
  have hs:∃ cs,v=.agg cs:=by
    unfold avt at ht
    split at ht
    case h_2=>cases ht
    rename_i fs hk
    unfold Value.okWide at ho
    rw [hk] at ho
    obtain ⟨cs,rfl,_⟩:=ho
    exact ⟨cs,rfl⟩
  obtain ⟨cs,rfl⟩:=hs
  obtain ⟨fas,k1,k2⟩:=ais ht hf
  exact ⟨fas,k1,.agg _ _ k2⟩
theorem aug{W W':World}(h:pX (fun _=>False) W W') :Below W.heap.size W W' :=
  ⟨h.os,h.tape,h.output,h.size,fun k hk=>h.same k hk (fun q=>q)⟩
def C5(P:Program)(ts:List TypeId) :Bool:=ts.all fun t=>P.readableRec t&&decide (t<P.types.size)
theorem agW{W W':World}(hl:laidOutB P=true)(hb:Below W.heap.size W W') :∀ {ts:List TypeId} {vs:List Value} {ds:List (DataW H)} {ps:List MemPlace},C5 P ts=true →
    DataW.TrodAll enc P W 0 (fun _=>true) true ts vs ds ps→(∀ x∈ps,x.block<W.heap.size)→∀ sp:Nat→Bool,(∀ p∈ps,sp p.block=true)→DataW.TrodAll enc P W' 0 sp true ts vs ds ps
  | [],vs,ds,ps,_,h,_,_,_=>by obtain ⟨rfl,rfl,rfl⟩:=trodAll_nil h;rfl
  | t::ts,vs,ds,ps,hp,h,hlt,sp,hsp=>by
    obtain ⟨v,vs',d,ds',p,q,rfl,rfl,rfl,h1,h2⟩:=trodAll_cons h
    simp only [C5,List.all_cons,Bool.and_eq_true,decide_eq_true_eq] at hp
    exact ⟨p,q,WideElems.Trod_stays hl hp.1.1 hp.1.2 h1 (fun x hx=>hb.same (hlt x (by simp [hx]))) (fun x hx=>hsp x (by simp [hx])),
      agW hl hb (by simpa [C5] using hp.2) h2 (fun x hx=>hlt x (by simp [hx])) sp (fun x hx=>hsp x (by simp [hx])),rfl⟩
theorem auh{f:Func}{s:ChangeSpec}{W W':World}{args:Array Value}{ds gs:List (DataW H)}{before:List MemPlace}{tb:TypeId}(hl:laidOutB P=true) 
    (hW:DataW.Whole enc P f.params.toList s.vars false W args.toList ds gs before) (hv:s.vars=[]) (hp:C5 P f.params.toList=true)
    (hs:s.fn H (ds++gs) = { results:=[.lit (.bool true)],args:=ds }) (hr:f.resultTypes = #[tb]) (ht:P.underlying tb=some .bool) (hw:pX (fun _=>False) W W') :
    s.post enc P f false true false false W args (.bool true) W':=by
  have hb:=aug hw
  have hlt:∀ p∈before,p.block<W.heap.size:=fun p hp=>hW.lt p hp
  have hW':=hW
  obtain ⟨p,q,hA,hV,rfl,hfz,jN⟩:=hW'
  rw [hv] at hV
  obtain ⟨rfl,rfl⟩:=trodVars_none hV
  simp only [List.append_nil] at hlt hs hW
  have harg:=agW hl hb hp hA hlt (fun b=>decide (b<W.heap.size)) (fun x hx=>by simpa using hlt x hx)
  refine ⟨ds,[],p,[],p,[],hW,?_,?_,?_,World.keptBut_mono (fun x hx=>⟨hx,.inr (.inl hx)⟩) (hb.frame (· ∈ p)),fun e=>(by cases e)⟩
  · rw [List.append_nil,hs,hr]
    exact trodAll_mk1 (shut_bool ht true)
  · rw [List.append_nil,hs];exact harg
  · rw [hv];simp only [List.append_nil,hs];exact rfl
theorem avZ{k:IntKind}{a:FA}(h:a.has (.i k)) :∃ n,a=.i k n:=by
  cases a<;>simp only [FA.has] at h
  obtain ⟨rfl,_⟩:=h;exact ⟨_,rfl⟩
theorem aui{a:FA}(h:a.has .fl) :∃ x,a=.fl x:=by
  cases a<;>simp only [FA.has] at h
  exact ⟨_,rfl⟩
theorem ait{k k':IntKind}{l:List FA}(h:FW [.i k,.i k',.fl] l) :∃ r c xs,l=[.i k r,.i k' c,.fl xs]:=by
  match l,h with
  | [a,b,c],⟨h1,h2,h3,_⟩ =>
    obtain ⟨r,rfl⟩:=avZ h1;obtain ⟨s,rfl⟩:=avZ h2;obtain ⟨xs,rfl⟩:=aui h3
    exact ⟨r,s,xs,rfl⟩
theorem auj{ρ:aO}{w w':World}{k b:Bool}{u:Value}(h:(⟨.bool k b,[]⟩:gM).Holds ρ w w' 0 u) :u=.bool b:=by
  obtain ⟨ρ',_,_,_,h4⟩:=h
  cases h4;rfl
end Go.Plb
namespace Go.Plb
set_option linter.unusedSimpArgs false
set_option linter.unusedVariables false
set_option linter.unusedSectionVars false
variable [Rom]
def ab{α:Type}(o n:Nat)(l:List α) :List α:=(vc o l).take n
theorem LI{α:Type}(o n:Nat)(l:List α) :ab o n l=(l.drop o).take n:=by
  unfold ab vc;cases o<;>rfl
theorem aw{α:Type}(l:List α) :ab 0 l.length l=l:=by simp [LI]
theorem qy{α:Type}{o n:Nat}{l:List α}(h:o+n≤l.length) :(ab o n l).length=n:=by rw [LI];simp;omega
theorem auk{α:Type}{o n:Nat}{l:List α}{i:Nat}{v:α}(h:(ab o n l)[i]? = some v) :l[o+i]? = some v:=by
  rw [LI,List.getElem?_take] at h
  split at h
  · rw [List.getElem?_drop] at h;exact h
  · cases h
def aG{α:Type}(o n:Nat)(xs:List α) :Bool:=Nat.ble (o+n) xs.length
theorem hJ{α:Type}{o n:Nat}{xs:List α} :aG o n xs=true↔o+n≤xs.length:=by unfold aG;rw [Nat.ble_eq]
theorem Wy{l:Lv}{d d':bt}{w es o n:Nat}(h:∀ x v,d'.cell? x=some v→d.cell? (o*w+x)=some v)(hr:d.recKept→d'.recKept)(hk:d'.kept=true)(hg:d'.foreign=true) :
    cg (.imm l d w es o n) (.imm l d' w es 0 n):=by
  intro ρ w' u hv
  cases hv with
  | imm _ _ _ _ _ _ cap bl o' u' ha hb hc hv' hl' hr' _ _ =>
    have:=VR.imm (ρ:=ρ) (w:=w') l d' w es 0 n cap bl (o'+o*w) (fun x=>u' (o*w+x)) ha hb
      (fun x v hx=>by rw [Nat.add_assoc];exact hc _ v (h x v hx)) (fun x v hx=>hv' _ v (h x v hx)) hl' (hr hr') (fun _=>hk) hg
    simpa using this
  | immEnd _ _ _ _ _ _ _ hr'=>exact .immEnd _ _ _ _ _ _ _ (hr hr') (fun _=>hk) hg
theorem Wz{l:Lv}{d':bt}{w es:Nat}(hr:d'.recKept)(hk:d'.kept=true)(hg:d'.foreign=true) :cg .nsl (.imm l d' w es 0 0):=by
  intro ρ w' u hv;cases hv;exact .immEnd _ _ _ _ _ _ _ hr (fun _=>hk) hg
theorem WA{l:Lv}{d':bt}{w es:Nat}(hr:d'.recKept)(hk:d'.kept=true)(hg:d'.foreign=true) :cg .esl (.imm l d' w es 0 0):=by
  intro ρ w' u hv;cases hv;exact .immEnd _ _ _ _ _ _ _ hr (fun _=>hk) hg
theorem lI.get:∀ {l1 l2:List AV},lI l1 l2→∀ {x:Nat} {v:AV},l2[x]? = some v→∃ v0,l1[x]? = some v0∧cg v0 v
  | _,_,.nil,x,v,h=>by simp at h
  | _,_,.cons a t,0,v,h=>by simp at h;subst h;exact ⟨_,rfl,a⟩
  | _,_,.cons a t,x+1,v,h=>by
    obtain ⟨v0,h1,h2⟩:=lI.get t (by simpa using h)
    exact ⟨v0,by simpa using h1,h2⟩
theorem YM{lv:Lv}{l1 l2:List AV}{k i j:Nat}(h:lI l1 l2)(hk:gX l1=true→gX l2=true)(hg:dj l1=true→dj l2=true) :cg (.iptr lv (.vs l1) k i j) (.iptr lv (.vs l2) k i j):=by
  intro ρ w u hv
  cases hv with | iptr _ _ _ _ _ bl o u' ha hb hc hv' hr hk' hg' =>
  refine .iptr _ _ _ _ _ bl o u' ha hb (fun x v hx=>?_) (fun x v hx=>?_) trivial (fun q=>hk (hk' q)) (hg hg')
  · obtain ⟨v0,h1,h2⟩:=h.get hx
    exact hc x v0 h1
  · obtain ⟨v0,h1,h2⟩:=h.get hx
    exact h2 _ _ _ (hv' x v0 h1)
theorem cg.fn{f:Fn}{a b a' b':List AV}(h:lI a a')(k:lI b b') :cg (.fn f a b) (.fn f a' b'):=by
  intro ρ w u hv
  cases hv with | fn _ _ _ c1 c2 h1 h2=>exact .fn _ _ _ _ _ (h.vrs h1) (k.vrs h2)
theorem cg.iface{t:TypeId}{a b:AV}(h:cg a b) :cg (.iface t a) (.iface t b):=by
  intro ρ w u hv
  cases hv with | iface _ _ u h1=>exact .iface _ _ _ (h _ _ _ h1)
theorem cg.any(v:AV) :cg v .any:=fun _ _ u _=>.any u
inductive CK where
  | cf
  | ci (k:IntKind)
  | cb
  | cs
  | cfl
  | cns (k:IntKind)
def CK.Ty:CK→Type
  | .cf=>List Nat
  | .ci _=>List Int
  | .cb=>List Bool
  | .cs=>List ByteArray
  | .cfl=>List (List Nat)
  | .cns _=>List (List Int)
def CK.fit:(k:CK)→(o n:Nat)→lp→Option k.Ty
  | .cf,o,n,.cf xs=>some (ab o n xs)
  | .ci k,o,n,.ci k' xs=>bif kd k k' then some (ab o n xs) else none
  | .cb,o,n,.cb xs=>some (ab o n xs)
  | .cs,o,n,.cs xs=>some (ab o n xs)
  | .cfl,o,n,.cfl xs=>some (ab o n xs)
  | .cns k,o,n,.cns k' xs=>bif kd k k' then some (ab o n xs) else none
  | _,_,_,_=>none
def CK.emp:(k:CK)→k.Ty
  | .cf=>([]:List Nat)
  | .ci _=>([]:List Int)
  | .cb=>([]:List Bool)
  | .cs=>([]:List ByteArray)
  | .cfl=>([]:List (List Nat))
  | .cns _=>([]:List (List Int))
def CK.col:(k:CK)→k.Ty→lp
  | .cf,xs=>.cf xs
  | .ci k,xs=>.ci k xs
  | .cb,xs=>.cb xs
  | .cs,xs=>.cs xs
  | .cfl,xs=>.cfl xs
  | .cns k,xs=>.cns k xs
theorem FX{a b:IntKind} :kd a b=true↔a=b:=by simp [kd]
theorem yp{α:Type}{f:α→AV}{o n i:Nat}{xs:List α}{v:AV}(h:((ab o n xs)[i]?).map f=some v) :(xs[o+i]?).map f=some v:=by
  simp only [Option.map_eq_some_iff] at h ⊢
  obtain ⟨y,h1,h2⟩:=h
  exact ⟨y,auk h1,h2⟩
theorem CK.fit_spec:∀ {k:CK} {o n:Nat} {c:lp} {t:k.Ty},k.fit o n c=some t→(o+n≤c.len→(k.col t).len=n)∧∀ i v,(k.col t).cell? i=some v→c.cell? (o+i)=some v:=by
  intro k o n c t h
  cases k<;>cases c<;>simp only [CK.fit] at h<;>try (cases h;done)
  case cf.cf xs=>cases h;exact ⟨fun q=>qy q,fun i v q=>yp q⟩
  case ci.ci k k' xs =>
    cases e:kd k k' with
    | false=>rw [e] at h;cases h
    | true=>rw [e] at h;cases h;cases (FX.1 e);exact ⟨fun q=>qy q,fun i v q=>yp q⟩
  case cb.cb xs=>cases h;exact ⟨fun q=>qy q,fun i v q=>yp q⟩
  case cs.cs xs=>cases h;exact ⟨fun q=>qy q,fun i v q=>yp q⟩
  case cfl.cfl xs=>cases h;exact ⟨fun q=>qy q,fun i v q=>yp q⟩
  case cns.cns k k' xs =>
    cases e:kd k k' with
    | false=>rw [e] at h;cases h
    | true=>rw [e] at h;cases h;cases (FX.1 e);exact ⟨fun q=>qy q,fun i v q=>yp q⟩
theorem CK.emp_len:∀ (k:CK),(k.col k.emp).len=0:=by intro k;cases k<;>rfl
def CKs.Ty:List CK→Type
  | []=>Unit
  | k::l=>k.Ty×CKs.Ty l
def CKs.fit:(l:List CK)→(o n:Nat)→List lp→Option (CKs.Ty l)
  | [],_,_,[]=>some ()
  | k::l,o,n,c::cs=>(k.fit o n c).bind fun t=>(CKs.fit l o n cs).map fun r=>(t,r)
  | _,_,_,_=>none
def CKs.emp:(l:List CK)→CKs.Ty l
  | []=>()
  | k::l=>(k.emp,CKs.emp l)
def CKs.cols:(l:List CK)→CKs.Ty l→List lp
  | [],_=>[]
  | k::l,t=>k.col t.1::CKs.cols l t.2
theorem CKs.len:∀ {l:List CK} {t:CKs.Ty l},(CKs.cols l t).length=l.length
  | [],t=>rfl
  | k::l,t=>by simp [CKs.cols,CKs.len]
theorem UU:∀ {l:List CK} {o n:Nat} {cs:List lp} {t:CKs.Ty l},CKs.fit l o n cs=some t→cs.length=l.length
  | [],o,n,[],t,h=>rfl
  | [],o,n,c::cs,t,h=>by simp [CKs.fit] at h
  | k::l,o,n,[],t,h=>by simp [CKs.fit] at h
  | k::l,o,n,c::cs,t,h=>by
    simp only [CKs.fit] at h
    cases e1:k.fit o n c with
    | none=>rw [e1] at h;cases h
    | some a =>
      rw [e1] at h
      cases e2:CKs.fit l o n cs with
      | none=>simp only [Option.bind_some,e2] at h;cases h
      | some b=>simp [UU e2]
theorem CKs.fit_spec:∀ {l:List CK} {o n:Nat} {cs:List lp} {t:CKs.Ty l},CKs.fit l o n cs=some t→∀ (j:Nat) (c':lp),(CKs.cols l t)[j]? = some c'→∃ c:lp,cs[j]? = some c∧(o+n≤c.len→c'.len=n)∧∀ i v,c'.cell? i=some v→c.cell? (o+i)=some v
  | [],o,n,cs,t,h,j,c',q=>by simp [CKs.cols] at q
  | k::l,o,n,[],t,h,j,c',q=>by simp [CKs.fit] at h
  | k::l,o,n,c::cs,t,h,j,c',q=>by
    simp only [CKs.fit] at h
    cases e1:k.fit o n c with
    | none=>rw [e1] at h;cases h
    | some a =>
      rw [e1] at h
      cases e2:CKs.fit l o n cs with
      | none=>simp only [Option.bind_some,e2] at h;cases h
      | some b =>
        simp only [Option.bind_some,e2] at h
        cases h
        cases j with
        | zero=>simp [CKs.cols] at q;subst q;exact ⟨c,rfl,CK.fit_spec e1⟩
        | succ j=>exact CKs.fit_spec e2 j c' (by simpa [CKs.cols] using q)
theorem CKs.emp_len:∀ (l:List CK),∀ c∈CKs.cols l (CKs.emp l),c.len=0
  | [],c,h=>by cases h
  | k::l,c,h=>by
    simp only [CKs.cols,CKs.emp,List.mem_cons] at h
    rcases h with rfl | h
    · exact CK.emp_len k
    · exact CKs.emp_len l c h
mutual
inductive Qn where
  | int (k:IntKind)
  | flt (ex:Bool)
  | bool
  | kbool (b:Bool)
  | str
  | fl
  | ns (k:IntKind)
  | bs
  | ss
  | cols (l:List CK)
  | ivs (ps:wC) (w i j:Nat)
  | fn (f:FuncId) (a b:wC)
  | nfn
  | nptr
  | agg (ps:wC)
  | tup (ps:wC)
  | iface (t:TypeId) (p:Qn)
  | niface
  | any
  | lsl (b:Nat)
  | lptr (b w i j:Nat)
inductive wC where
  | nil
  | cons (p:Qn) (ps:wC)
end
mutual
def Qn.Ty:Qn→Type
  | .int _=>Int
  | .flt _=>Nat
  | .bool=>Bool
  | .str=>ByteArray
  | .fl=>Lv×List Nat
  | .ns _=>Lv×List Int
  | .bs=>Lv×List Bool
  | .ss=>Lv×List ByteArray
  | .cols l=>Lv×Nat×CKs.Ty l
  | .ivs ps _ _ _=>Lv×ps.Ty
  | .fn _ a b=>a.Ty×b.Ty
  | .agg ps=>ps.Ty
  | .tup ps=>ps.Ty
  | .iface _ p=>p.Ty
  | .kbool _=>Unit
  | .nfn=>Unit
  | .nptr=>Unit
  | .niface=>Unit
  | .any=>Unit
  | .lsl _=>Nat×Nat×Nat
  | .lptr _ _ _ _=>Unit
def wC.Ty:wC→Type
  | .nil=>Unit
  | .cons p ps=>p.Ty×ps.Ty
end
mutual
def Qn.av:(p:Qn)→p.Ty→AV
  | .int k,n=>.int k n
  | .flt ex,x=>.flt ex x
  | .bool,b=>.bool false b
  | .str,s=>.str s
  | .fl,t=>.imm t.1 (.fl t.2) 1 1 0 t.2.length
  | .ns k,t=>.imm t.1 (.ns k t.2) 1 1 0 t.2.length
  | .bs,t=>.imm t.1 (.bs t.2) 1 1 0 t.2.length
  | .ss,t=>.imm t.1 (.ss t.2) 1 1 0 t.2.length
  | .cols l,t=>.imm t.1 (.cols t.2.1 (CKs.cols l t.2.2)) l.length l.length 0 t.2.1
  | .ivs ps w i j,t=>.iptr t.1 (.vs (ps.avs t.2)) w i j
  | .fn f a b,t=>.fn (.func f) (a.avs t.1) (b.avs t.2)
  | .agg ps,t=>.agg (ps.avs t)
  | .tup ps,t=>.tup (ps.avs t)
  | .iface y p,t=>.iface y (p.av t)
  | .kbool b,_=>.bool true b
  | .nfn,_=>.nfn
  | .nptr,_=>.nptr
  | .niface,_=>.niface
  | .any,_=>.any
  | .lsl b,t=>.sl b 1 1 t.1 t.2.1 t.2.2
  | .lptr b w i j,_=>.ptr b w i j
def wC.avs:(ps:wC)→ps.Ty→List AV
  | .nil,_=>[]
  | .cons p ps,t=>p.av t.1::ps.avs t.2
end
def apU(a b:Bool) :Bool:=bif a then b else !b
theorem apV{a b:Bool} :apU a b=true↔a=b:=by cases a<;>cases b<;>simp [apU]
def CKs.ok(n:Nat)(m:Nat) :Bool:=Nat.ble n m
def aul(k:IntKind) :AV→Option (Int×List Bool)
  | .int k' n=>bif kd k k' then some (n,[]) else none
  | _=>none
def aum(ex:Bool) :AV→Option (Nat×List Bool)
  | .flt ex' x=>bif ex && !ex' then none else some (x,[])
  | _=>none
def ar3:AV→Option (Bool×List Bool)
  | .bool kn b=>bif kn then none else some (b,[])
  | _=>none
def amC(b:Bool) :AV→Option (Unit×List Bool)
  | .bool kn b'=>bif kn&&apU b b' then some ((),[]) else none
  | _=>none
def aun:AV→Option (ByteArray×List Bool)
  | .str s=>some (s,[])
  | _=>none
def agX{α:Type}(f:bt→Option (List α)) :AV→Option ((Lv×List α)×List Bool)
  | .imm l d w es o n=>(f d).bind fun xs=>bif Nat.beq w 1&&Nat.beq es 1 then some ((l,ab o n xs),[aG o n xs]) else none
  | .nsl=>some ((.free,[]),[])
  | .esl=>some ((.free,[]),[])
  | _=>none
def auo:bt→Option (List Nat)
  | .fl xs=>some xs
  | _=>none
def aup(k:IntKind) :bt→Option (List Int)
  | .ns k' xs=>bif kd k k' then some xs else none
  | _=>none
def auq:bt→Option (List Bool)
  | .bs xs=>some xs
  | _=>none
def av0:bt→Option (List ByteArray)
  | .ss xs=>some xs
  | _=>none
def av1:bt→Option (List AV)
  | .vs xs=>some xs
  | _=>none
def ar4:bt→Option (Nat×List lp)
  | .cols m cs=>some (m,cs)
  | _=>none
def aiu(ks:List CK) :AV→Option ((Lv×Nat×CKs.Ty ks)×List Bool)
  | .imm l d w es o n=>(ar4 d).bind fun q=>bif Nat.beq w ks.length&&Nat.beq es ks.length then (CKs.fit ks o n q.2).map fun t=>((l,n,t),[Nat.ble (o+n) q.1]) else none
  | .nsl=>some ((.free,0,CKs.emp ks),[])
  | .esl=>some ((.free,0,CKs.emp ks),[])
  | _=>none
def av2(w i j:Nat) :AV→Option (Lv×List AV)
  | .iptr l d w' i' j'=>(av1 d).bind fun xs=>bif Nat.beq w w'&&(Nat.beq i i'&&Nat.beq j j') then some (l,xs) else none
  | _=>none
def aw0(f:FuncId) :AV→Option (List AV×List AV)
  | .fn (.func f') x y=>bif Nat.beq f f' then some (x,y) else none
  | _=>none
def av3:AV→Option (List AV)
  | .agg l=>some l
  | _=>none
def av4:AV→Option (List AV)
  | .tup l=>some l
  | _=>none
def ar5(t:TypeId) :AV→Option AV
  | .iface t' v=>bif Nat.beq t t' then some v else none
  | _=>none
def av5:AV→Option (Unit×List Bool)
  | .nfn=>some ((),[])
  | _=>none
def aur:AV→Option (Unit×List Bool)
  | .nptr=>some ((),[])
  | _=>none
def aus(b:Nat) :AV→Option ((Nat×Nat×Nat)×List Bool)
  | .sl b' w es i len cap=>bif Nat.beq b b'&&(Nat.beq w 1&&Nat.beq es 1) then some ((i,len,cap),[]) else none
  | _=>none
def ar6(b w i j:Nat) :AV→Option (Unit×List Bool)
  | .ptr b' w' i' j'=>bif (Nat.beq b b'&&Nat.beq w w')&&(Nat.beq i i'&&Nat.beq j j') then some ((),[]) else none
  | _=>none
def amD:AV→Option (Unit×List Bool)
  | .niface=>some ((),[])
  | _=>none
mutual
def Qn.fit:(p:Qn)→AV→Option (p.Ty×List Bool)
  | .int k=>aul k
  | .flt ex=>aum ex
  | .bool=>ar3
  | .kbool b=>amC b
  | .str=>aun
  | .fl=>agX auo
  | .ns k=>agX (aup k)
  | .bs=>agX auq
  | .ss=>agX av0
  | .cols ks=>aiu ks
  | .ivs ps w i j=>fun v=>match av2 w i j v with
    | some q=>match ps.fit q.2 with
      | some r=>some ((q.1,r.1),r.2)
      | none=>none
    | none=>none
  | .fn f a b=>fun v=>match aw0 f v with
    | some q=>match a.fit q.1 with
      | some r=>match b.fit q.2 with
        | some s=>some ((r.1,s.1),r.2++s.2)
        | none=>none
      | none=>none
    | none=>none
  | .agg ps=>fun v=>match av3 v with
    | some l=>ps.fit l
    | none=>none
  | .tup ps=>fun v=>match av4 v with
    | some l=>ps.fit l
    | none=>none
  | .iface t p=>fun v=>match ar5 t v with
    | some u=>p.fit u
    | none=>none
  | .nfn=>av5
  | .nptr=>aur
  | .niface=>amD
  | .any=>fun _=>some ((),[])
  | .lsl b=>aus b
  | .lptr b w i j=>ar6 b w i j
def wC.fit:(ps:wC)→List AV→Option (ps.Ty×List Bool)
  | .nil=>fun l=>match l with
    | []=>some ((),[])
    | _::_=>none
  | .cons p ps=>fun l=>match l with
    | []=>none
    | v::l=>match p.fit v with
      | some r=>match ps.fit l with
        | some s=>some ((r.1,s.1),r.2++s.2)
        | none=>none
      | none=>none
end
theorem asY{ks:List CK}{o n m:Nat}{cs:List lp}{t:CKs.Ty ks}(h:CKs.fit ks o n cs=some t) :∀ x v,(bt.cols n (CKs.cols ks t)).cell? x=some v→(bt.cols m cs).cell? (o*ks.length+x)=some v:=by
  intro x v hx
  have hl:=UU h
  obtain ⟨c',h1,_,h3⟩:=lW hx
  obtain ⟨c,q1,_,q3⟩:=CKs.fit_spec h _ _ h1
  rw [CKs.len] at h1 h3 q1
  have hpos:0<ks.length:=by
    have:=(List.getElem?_eq_some_iff.1 q1).1
    omega
  simp only [bt.cell?,hl,Option.bind_eq_some_iff]
  refine ⟨c,?_,?_⟩
  · rw [Nat.add_comm,Nat.add_mul_mod_self_right];exact q1
  · rw [Nat.add_comm,Nat.add_mul_div_right _ _ hpos,Nat.add_comm];exact q3 _ _ h3
structure Wk (v v':AV):Prop where
  weak:cg v v'
  kept:v.kept=true→v'.kept=true
  foreign:v.foreign=true→v'.foreign=true
structure WkL (v v':List AV):Prop where
  weak:lI v v'
  kept:gX v=true→gX v'=true
  foreign:dj v=true→dj v'=true
theorem Wk.refl(v:AV) :Wk v v:=⟨cg.refl v,id,id⟩
theorem Wk.fltL(x:Nat) :Wk (.flt true x) (.flt false x):=⟨fun ρ w u h=>(by
  cases h with | flt _ _ y hf =>
  rcases hf with rfl | ⟨q,_⟩
  · exact .flt _ _ _ (.inl rfl)
  · cases q),id,id⟩
theorem WkL.cons{v v':AV}{l l':List AV}(h:Wk v v')(k:WkL l l') :WkL (v::l) (v'::l') :=
  ⟨.cons h.weak k.weak,fun q=>by simp only [gX,Bool.and_eq_true] at q ⊢;exact ⟨h.kept q.1,k.kept q.2⟩,fun q=>by simp only [dj,Bool.and_eq_true] at q ⊢;exact ⟨h.foreign q.1,k.foreign q.2⟩⟩
theorem Wk.part{l:Lv}{d d':bt}{w es o n:Nat}(h:∀ x v,d'.cell? x=some v→d.cell? (o*w+x)=some v)(hr:d.recKept→d'.recKept)(hk:d'.kept=true)(hg:d'.foreign=true) :Wk (.imm l d w es o n) (.imm l d' w es 0 n) :=
  ⟨Wy h hr hk hg,id,id⟩
theorem Wk.nsl{d':bt}{w es:Nat}(hr:d'.recKept)(hk:d'.kept=true)(hg:d'.foreign=true) :Wk .nsl (.imm .free d' w es 0 0):=⟨Wz hr hk hg,id,id⟩
theorem Wk.esl{d':bt}{w es:Nat}(hr:d'.recKept)(hk:d'.kept=true)(hg:d'.foreign=true) :Wk .esl (.imm .free d' w es 0 0):=⟨WA hr hk hg,id,id⟩
theorem Wk.fl{l:Lv}{xs:List Nat}{o n:Nat}(h:aG o n xs=true) :Wk (.imm l (.fl xs) 1 1 o n) (.imm l (.fl (ab o n xs)) 1 1 0 (ab o n xs).length):=by
  rw [qy (hJ.1 h)];exact .part (fun x v q=>by rw [Nat.mul_one];exact yp q) (fun _=>trivial) rfl rfl
theorem Wk.ns{k:IntKind}{l:Lv}{xs:List Int}{o n:Nat}(h:aG o n xs=true) :Wk (.imm l (.ns k xs) 1 1 o n) (.imm l (.ns k (ab o n xs)) 1 1 0 (ab o n xs).length):=by
  rw [qy (hJ.1 h)];exact .part (fun x v q=>by rw [Nat.mul_one];exact yp q) (fun _=>trivial) rfl rfl
theorem Wk.bs{l:Lv}{xs:List Bool}{o n:Nat}(h:aG o n xs=true) :Wk (.imm l (.bs xs) 1 1 o n) (.imm l (.bs (ab o n xs)) 1 1 0 (ab o n xs).length):=by
  rw [qy (hJ.1 h)];exact .part (fun x v q=>by rw [Nat.mul_one];exact yp q) (fun _=>trivial) rfl rfl
theorem Wk.ss{l:Lv}{xs:List ByteArray}{o n:Nat}(h:aG o n xs=true) :Wk (.imm l (.ss xs) 1 1 o n) (.imm l (.ss (ab o n xs)) 1 1 0 (ab o n xs).length):=by
  rw [qy (hJ.1 h)];exact .part (fun x v q=>by rw [Nat.mul_one];exact yp q) (fun _=>trivial) rfl rfl
theorem aut{ks:List CK}{o n m:Nat}{cs:List lp}{t:CKs.Ty ks}(h:CKs.fit ks o n cs=some t)(hm:o+n≤m) :(bt.cols m cs).recKept→(bt.cols n (CKs.cols ks t)).recKept:=by
  intro hr c hc
  obtain ⟨j,hj⟩:=List.getElem?_of_mem hc
  obtain ⟨c0,q1,q2,_⟩:=CKs.fit_spec h j c hj
  exact q2 (by rw [hr c0 (List.mem_of_getElem? q1)];exact hm)
theorem aw1{w es n:Nat}(h:(Nat.beq w n&&Nat.beq es n)=true) :w=n∧es=n:=by
  rw [Bool.and_eq_true] at h;exact ⟨Nat.eq_of_beq_eq_true h.1,Nat.eq_of_beq_eq_true h.2⟩
theorem JB{α:Type}{c:Bool}{a:α}{x:α}(h:(bif c then some a else none)=some x) :c=true∧a=x:=by
  cases c with
  | true=>exact ⟨rfl,by simpa using h⟩
  | false=>cases h
theorem aw2{α:Type}{c:Bool}{a:Option α}{x:α}(h:(bif c then a else none)=some x) :c=true∧a=some x:=by
  cases c with
  | true=>exact ⟨rfl,h⟩
  | false=>cases h
theorem GN{α:Type}{f:bt→Option (List α)}{g:List α→bt}(hg:∀ {d xs},f d=some xs→d=g xs) 
    (hw:∀ {l xs o n},aG o n xs=true→Wk (.imm l (g xs) 1 1 o n) (.imm l (g (ab o n xs)) 1 1 0 (ab o n xs).length)) (h0:(g []).recKept∧(g []).kept=true∧(g []).foreign=true)
    {v:AV} {t:Lv×List α} {o:List Bool} (h:agX f v=some (t,o)) (ho:bu o):Wk v (.imm t.1 (g t.2) 1 1 0 t.2.length):=by
  unfold agX at h
  split at h
  · rename_i l d w es i n
    cases e:f d with
    | none=>rw [e] at h;cases h
    | some xs =>
      rw [e] at h
      obtain ⟨e2,h⟩:=JB h
      obtain ⟨rfl,rfl⟩:=aw1 e2
      cases h;cases hg e;exact hw ho.1
  · cases h;exact .nsl h0.1 h0.2.1 h0.2.2
  · cases h;exact .esl h0.1 h0.2.1 h0.2.2
  · cases h
theorem aiv{ks:List CK}{v:AV}{t:Lv×Nat×CKs.Ty ks}{o:List Bool}(h:aiu ks v=some (t,o))(ho:bu o) :Wk v (.imm t.1 (.cols t.2.1 (CKs.cols ks t.2.2)) ks.length ks.length 0 t.2.1):=by
  unfold aiu at h
  split at h
  · rename_i l d w es i n
    cases d<;>simp only [ar4,Option.bind_none,Option.bind_some,reduceCtorEq] at h
    rename_i m cs
    have e:=(aw2 h).1;replace h:=(aw2 h).2
    obtain ⟨rfl,rfl⟩:=aw1 e
    cases e2:CKs.fit ks i n cs with
    | none=>rw [e2] at h;cases h
    | some r =>
      rw [e2] at h;cases h
      have:i+n≤m:=Nat.le_of_ble_eq_true ho.1
      exact .part (asY e2) (aut e2 this) rfl rfl
  · cases h;exact .nsl (CKs.emp_len ks) rfl rfl
  · cases h;exact .esl (CKs.emp_len ks) rfl rfl
  · cases h
mutual
theorem Qn.fit_spec:∀ (p:Qn) (v:AV) {t:p.Ty} {o:List Bool},p.fit v=some (t,o)→bu o→Wk v (p.av t)
  | .int k,v,t,o,h,ho=>by
    simp only [Qn.fit,aul] at h
    split at h
    · obtain ⟨e,h⟩:=JB h
      cases h;cases FX.1 e;exact .refl _
    · cases h
  | .flt ex,v,t,o,h,ho=>by
    simp only [Qn.fit,aum] at h
    split at h
    · rename_i ex' x
      cases ex with
      | true =>
        cases ex' with
        | true=>cases h;exact .refl _
        | false=>cases h
      | false =>
        cases ex' with
        | true=>cases h;exact .fltL x
        | false=>cases h;exact .refl _
    · cases h
  | .bool,v,t,o,h,ho=>by
    simp only [Qn.fit,ar3] at h
    split at h
    · rename_i kn b
      cases kn with
      | true=>cases h
      | false=>cases h;exact .refl _
    · cases h
  | .kbool b,v,t,o,h,ho=>by
    simp only [Qn.fit,amC] at h
    split at h
    · obtain ⟨e,h⟩:=JB h
      rw [Bool.and_eq_true] at e
      cases e.1;cases apV.1 e.2;exact .refl _
    · cases h
  | .str,v,t,o,h,ho=>by
    simp only [Qn.fit,aun] at h
    split at h
    · cases h;exact .refl _
    · cases h
  | .fl,v,t,o,h,ho=>GN (g:=.fl) (f:=auo) (fun {d xs} e=>by cases d<;>cases e;rfl) (fun q=>.fl q) ⟨trivial,rfl,rfl⟩ h ho
  | .ns k,v,t,o,h,ho=>GN (g:=.ns k) (f:=aup k) (fun {d xs} e=>by
      cases d<;>try (cases e;done)
      have e1:=(JB e).1;replace e:=(JB e).2
      cases FX.1 e1;cases e;rfl) (fun q=>.ns q) ⟨trivial,rfl,rfl⟩ h ho
  | .bs,v,t,o,h,ho=>GN (g:=.bs) (f:=auq) (fun {d xs} e=>by cases d<;>cases e;rfl) (fun q=>.bs q) ⟨trivial,rfl,rfl⟩ h ho
  | .ss,v,t,o,h,ho=>GN (g:=.ss) (f:=av0) (fun {d xs} e=>by cases d<;>cases e;rfl) (fun q=>.ss q) ⟨trivial,rfl,rfl⟩ h ho
  | .cols ks,v,t,o,h,ho=>aiv h ho
  | .ivs ps w i j,v,t,o,h,ho=>by
    simp only [Qn.fit] at h
    split at h
    case h_2=>cases h
    rename_i q hq
    split at h
    case h_2=>cases h
    rename_i r hr
    cases h
    unfold av2 at hq
    split at hq
    case h_2=>cases hq
    rename_i l d w' i' j'
    cases d<;>simp only [av1,Option.bind_none,Option.bind_some,reduceCtorEq] at hq
    rename_i xs
    have e:=(JB hq).1;replace hq:=(JB hq).2
    rw [Bool.and_eq_true,Bool.and_eq_true] at e
    cases Nat.eq_of_beq_eq_true e.1
    cases Nat.eq_of_beq_eq_true e.2.1
    cases Nat.eq_of_beq_eq_true e.2.2
    cases hq
    have:=wC.fit_spec ps xs hr ho
    exact ⟨YM this.weak this.kept this.foreign,id,id⟩
  | .fn f a b,v,t,o,h,ho=>by
    simp only [Qn.fit] at h
    split at h
    case h_2=>cases h
    rename_i q hq
    split at h
    case h_2=>cases h
    rename_i r hr
    split at h
    case h_2=>cases h
    rename_i s hs
    cases h
    unfold aw0 at hq
    split at hq
    case h_2=>cases hq
    have e:=(JB hq).1;replace hq:=(JB hq).2
    cases Nat.eq_of_beq_eq_true e
    cases hq
    rw [cC] at ho
    have h1:=wC.fit_spec a _ hr ho.1
    have h2:=wC.fit_spec b _ hs ho.2
    refine ⟨cg.fn h1.weak h2.weak,fun q=>?_,fun q=>?_⟩
    · simp only [Qn.av,AV.kept,Bool.and_eq_true] at q ⊢;exact ⟨h1.kept q.1,h2.kept q.2⟩
    · simp only [Qn.av,AV.foreign,Bool.and_eq_true] at q ⊢;exact ⟨h1.foreign q.1,h2.foreign q.2⟩
  | .agg ps,v,t,o,h,ho=>by
    simp only [Qn.fit] at h
    split at h
    case h_2=>cases h
    rename_i l hl
    cases v<;>simp only [av3,reduceCtorEq,Option.some.injEq] at hl
    subst hl
    have:=wC.fit_spec ps _ h ho
    exact ⟨cg.agg this.weak,this.kept,this.foreign⟩
  | .tup ps,v,t,o,h,ho=>by
    simp only [Qn.fit] at h
    split at h
    case h_2=>cases h
    rename_i l hl
    cases v<;>simp only [av4,reduceCtorEq,Option.some.injEq] at hl
    subst hl
    have:=wC.fit_spec ps _ h ho
    exact ⟨cg.tup this.weak,this.kept,this.foreign⟩
  | .iface y p,v,t,o,h,ho=>by
    simp only [Qn.fit] at h
    split at h
    case h_2=>cases h
    rename_i u hu
    unfold ar5 at hu
    split at hu
    case h_2=>cases hu
    have e:=(JB hu).1;replace hu:=(JB hu).2
    cases Nat.eq_of_beq_eq_true e
    subst hu
    have:=Qn.fit_spec p _ h ho
    exact ⟨cg.iface this.weak,this.kept,this.foreign⟩
  | .nfn,v,t,o,h,ho=>by
    cases v<;>simp only [Qn.fit,av5,reduceCtorEq] at h
    exact .refl _
  | .nptr,v,t,o,h,ho=>by
    cases v<;>simp only [Qn.fit,aur,reduceCtorEq] at h
    exact .refl _
  | .niface,v,t,o,h,ho=>by
    cases v<;>simp only [Qn.fit,amD,reduceCtorEq] at h
    exact .refl _
  | .any,v,t,o,h,ho=>⟨cg.any v,fun _=>rfl,fun _=>rfl⟩
  | .lsl b,v,t,o,h,ho=>by
    simp only [Qn.fit,aus] at h
    split at h
    · have e:=(JB h).1;replace h:=(JB h).2
      rw [Bool.and_eq_true,Bool.and_eq_true] at e
      cases Nat.eq_of_beq_eq_true e.1
      cases Nat.eq_of_beq_eq_true e.2.1
      cases Nat.eq_of_beq_eq_true e.2.2
      cases h;exact .refl _
    · cases h
  | .lptr b w i j,v,t,o,h,ho=>by
    simp only [Qn.fit,ar6] at h
    split at h
    · have e:=(JB h).1;replace h:=(JB h).2
      rw [Bool.and_eq_true,Bool.and_eq_true,Bool.and_eq_true] at e
      cases Nat.eq_of_beq_eq_true e.1.1
      cases Nat.eq_of_beq_eq_true e.1.2
      cases Nat.eq_of_beq_eq_true e.2.1
      cases Nat.eq_of_beq_eq_true e.2.2
      exact .refl _
    · cases h
theorem wC.fit_spec:∀ (ps:wC) (l:List AV) {t:ps.Ty} {o:List Bool},ps.fit l=some (t,o)→bu o→WkL l (ps.avs t)
  | .nil,[],t,o,h,ho=>⟨.nil,id,id⟩
  | .nil,v::l,t,o,h,ho=>by simp [wC.fit] at h
  | .cons p ps,[],t,o,h,ho=>by simp [wC.fit] at h
  | .cons p ps,v::l,t,o,h,ho=>by
    simp only [wC.fit] at h
    split at h
    case h_2=>cases h
    rename_i r hr
    split at h
    case h_2=>cases h
    rename_i s hs
    cases h
    rw [cC] at ho
    exact .cons (Qn.fit_spec p v hr ho.1) (wC.fit_spec ps l hs ho.2)
end
def bK(f:FuncId)(ps:wC)(alts:ps.Ty→List CU) :aM :=
  ⟨f, fun L args => match L with
    | []=>match ps.fit args with
      | some r=>some ((alts r.1).map fun a=>⟨a.out,r.2++a.obs⟩)
      | none=>none
    | _=>none⟩
theorem aR{P:Program}{f:FuncId}{ps:wC}{alts:ps.Ty→List CU}(h:∀ t,∀ a∈alts t,bu a.obs→ay P f [] (ps.avs t) a.out) :aY P (bK f ps alts):=by
  intro L args al a hal ha ho
  simp only [bK] at hal
  split at hal
  case h_2=>cases hal
  split at hal
  case h_2=>cases hal
  rename_i r hr
  obtain ⟨t,o⟩:=r
  simp only [Option.some.injEq] at hal
  subst hal
  simp only [List.mem_map] at ha
  obtain ⟨b,hb,rfl⟩:=ha
  simp only [cC] at ho
  exact (h t b hb ho.2).args (wC.fit_spec ps args hr ho.1).weak
inductive BK where
  | fl
  | ns (k:IntKind)
  | bs
def BK.Ty:BK→Type
  | .fl=>List Nat
  | .ns _=>List Int
  | .bs=>List Bool
def BK.blk:(k:BK)→k.Ty→bt
  | .fl,xs=>.fl xs
  | .ns k,xs=>.ns k xs
  | .bs,xs=>.bs xs
def BK.fit:(k:BK)→bt→Option k.Ty
  | .fl=>auo
  | .ns k=>aup k
  | .bs=>auq
theorem BK.fit_spec:∀ (k:BK) {d:bt} {t:k.Ty},k.fit d=some t→d=k.blk t
  | .fl,d,t,h=>by cases d<;>cases h;rfl
  | .ns k,d,t,h=>by
    cases d<;>try (cases h;done)
    have e1:=(JB h).1;replace h:=(JB h).2
    cases FX.1 e1;cases h;rfl
  | .bs,d,t,h=>by cases d<;>cases h;rfl
def BKs.Ty:List BK→Type
  | []=>Unit
  | k::l=>k.Ty×BKs.Ty l
def Qo:(l:List BK)→BKs.Ty l→List bt
  | [],_=>[]
  | k::l,t=>k.blk t.1::Qo l t.2
def BKs.fit:(l:List BK)→List bt→Option (BKs.Ty l)
  | [],[]=>some ()
  | [],_::_=>none
  | _::_,[]=>none
  | k::l,d::ds=>match k.fit d with
    | some t=>match BKs.fit l ds with
      | some r=>some (t,r)
      | none=>none
    | none=>none
theorem BKs.fit_spec:∀ (l:List BK) {ds:List bt} {t:BKs.Ty l},BKs.fit l ds=some t→ds=Qo l t
  | [],[],t,h=>rfl
  | [],_::_,t,h=>by cases h
  | _::_,[],t,h=>by cases h
  | k::l,d::ds,t,h=>by
    simp only [BKs.fit] at h
    split at h
    case h_2=>cases h
    rename_i x hx
    split at h
    case h_2=>cases h
    rename_i r hr
    cases h
    simp only [Qo]
    rw [←BK.fit_spec k hx,←BKs.fit_spec l hr]
def amE(f:FuncId)(bs:List BK)(ps:wC)(alts:BKs.Ty bs→ps.Ty→List CU) :aM :=
  ⟨f, fun L args => match BKs.fit bs L with
    | some x=>match ps.fit args with
      | some r=>some ((alts x r.1).map fun a=>⟨a.out,r.2++a.obs⟩)
      | none=>none
    | none=>none⟩
theorem YN{P:Program}{f:FuncId}{bs:List BK}{ps:wC}{alts:BKs.Ty bs→ps.Ty→List CU}(h:∀ x t,∀ a∈alts x t,bu a.obs→ay P f (Qo bs x) (ps.avs t) a.out) :aY P (amE f bs ps alts):=by
  intro L args al a hal ha ho
  simp only [amE] at hal
  split at hal
  case h_2=>cases hal
  rename_i x hx
  split at hal
  case h_2=>cases hal
  rename_i r hr
  obtain ⟨t,o⟩:=r
  simp only [Option.some.injEq] at hal
  subst hal
  simp only [List.mem_map] at ha
  obtain ⟨b,hb,rfl⟩:=ha
  simp only [cC] at ho
  have:=(h x t b hb ho.2).args (wC.fit_spec ps args hr ho.1).weak
  rwa [←BKs.fit_spec bs hx] at this
theorem YO{P:Program}{f:FuncId}{L:List bt}{l:List AV} :∀ a∈([]:List CU),bu a.obs→ay P f L l a.out:=fun a h=>by cases h
theorem LJ{P:Program}{f:FuncId}{L:List bt}{l:List AV}{o:gM}{b:Bool}{al:List CU}(h:b=true→ay P f L l o)(t:∀ a∈al,bu a.obs→ay P f L l a.out) :∀ a∈(⟨o,[b]⟩:CU)::al,bu a.obs→ay P f L l a.out:=by
  intro a ha ho
  rcases List.mem_cons.1 ha with rfl | ha
  · exact h ho.1
  · exact t a ha ho
theorem bc{P:Program}{f:FuncId}{l:List AV} :∀ a∈([]:List CU),bu a.obs→ay P f [] l a.out:=fun a h=>by cases h
theorem aS{P:Program}{f:FuncId}{l:List AV}{o:gM}{b:Bool}{al:List CU}(h:b=true→ay P f [] l o)(t:∀ a∈al,bu a.obs→ay P f [] l a.out) :∀ a∈(⟨o,[b]⟩:CU)::al,bu a.obs→ay P f [] l a.out:=by
  intro a ha ho
  rcases List.mem_cons.1 ha with rfl | ha
  · exact h ho.1
  · exact t a ha ho
end Go.Plb
namespace Go.Plb
open Go.ChangeShapes Go.WideShapes Go.ChangeAt Go.RowKit Go.Deep
set_option linter.unusedSimpArgs false
set_option linter.unusedVariables false
set_option linter.unusedSectionVars false
variable [Rom]
def FA.n:FA→Nat
  | .f x=>x
  | _=>0
def FA.ss:FA→ByteArray
  | .s x=>x
  | _=>ByteArray.empty
variable {H : Type} {enc : TypeId × Value → H} {P : Program} {W : World}
instance:Inhabited FA:=⟨.b false⟩
end Go.Plb
namespace Go.Plb.Seat
open Go Go.Plb Go.Proofs
noncomputable abbrev prog:Program:=Tryz.prog
def bx:List Int:=[0,1,56,2,57,49,28,3,61,58,42,50,38,29,17,4,62,47,59,36,45,43,51,22,53,39,33,30,24,18,12,5,63,55,48,27,60,41,37,16,46,35,44,21,52,32,23,11,54,26,40,15,34,20,31,10,25,14,19,9,13,8,7,6]
instance:Rom:=⟨[(1,.ns .u8 bx)]⟩
abbrev IX:FuncId:=7
abbrev Mv:FuncId:=9
abbrev JC:FuncId:=10
abbrev JD:FuncId:=11
abbrev UV:FuncId:=12
abbrev GO:FuncId:=14
abbrev Aw:FuncId:=15
abbrev Ax:FuncId:=16
abbrev zr:FuncId:=17
abbrev Bq:FuncId:=18
abbrev rr:FuncId:=19
abbrev Ov:FuncId:=20
abbrev Tp:FuncId:=21
abbrev amF:FuncId:=22
abbrev GQ:FuncId:=23
abbrev DZ:FuncId:=24
abbrev yq:FuncId:=25
abbrev vi:FuncId:=27
abbrev GR:FuncId:=28
abbrev xf:FuncId:=29
abbrev C6:FuncId:=30
abbrev JE:FuncId:=32
abbrev GS:FuncId:=33
abbrev D0:FuncId:=34
abbrev apW:FuncId:=35
abbrev acI:FuncId:=36
abbrev Br:FuncId:=37
abbrev Ay:FuncId:=38
abbrev GT:FuncId:=39
abbrev mu:FuncId:=40
abbrev fj:FuncId:=41
abbrev GU:FuncId:=42
abbrev C7:FuncId:=43
abbrev Ow:FuncId:=44
abbrev vj:FuncId:=45
abbrev ul:FuncId:=46
abbrev Az:FuncId:=47
abbrev D1:FuncId:=48
abbrev JF:FuncId:=49
abbrev D2:FuncId:=50
abbrev GV:FuncId:=51
abbrev asZ:FuncId:=52
abbrev dl:FuncId:=53
abbrev Ox:FuncId:=54
abbrev vk:FuncId:=55
abbrev apX:FuncId:=56
abbrev Qp:FuncId:=57
abbrev GW:FuncId:=58
abbrev Qq:FuncId:=59
abbrev GX:FuncId:=60
abbrev GY:FuncId:=61
abbrev D3:FuncId:=62
abbrev Qr:FuncId:=64
abbrev Qs:FuncId:=65
abbrev Qt:FuncId:=66
abbrev Qu:FuncId:=67
abbrev GZ:FuncId:=68
abbrev Qv:FuncId:=70
abbrev tA:FuncId:=72
abbrev Tq:FuncId:=75
abbrev JG:FuncId:=76
abbrev YP:FuncId:=77
abbrev Oy:FuncId:=78
abbrev G0:FuncId:=79
abbrev JH:FuncId:=80
abbrev JI:FuncId:=81
abbrev JJ:FuncId:=82
abbrev amG:FuncId:=83
abbrev LK:FuncId:=84
abbrev JK:FuncId:=85
abbrev YQ:FuncId:=86
abbrev Oz:FuncId:=87
abbrev JL:FuncId:=88
abbrev JM:FuncId:=89
abbrev G1:FuncId:=90
abbrev vl:FuncId:=91
abbrev AA:FuncId:=92
abbrev yr:FuncId:=93
abbrev C8:FuncId:=94
abbrev qc:FuncId:=96
abbrev G2:FuncId:=97
abbrev Qw:FuncId:=98
abbrev OA:FuncId:=100
abbrev C9:FuncId:=101
abbrev Tr:FuncId:=102
abbrev um:FuncId:=103
abbrev G3:FuncId:=104
abbrev rt:FuncId:=105
abbrev LL:FuncId:=106
abbrev Ts:FuncId:=107
abbrev Tt:FuncId:=108
abbrev Mw:FuncId:=109
abbrev JN:FuncId:=110
abbrev D4:FuncId:=111
abbrev Da:FuncId:=112
abbrev Db:FuncId:=113
abbrev Dc:FuncId:=114
abbrev Dd:FuncId:=115
abbrev G4:FuncId:=116
abbrev OB:FuncId:=117
abbrev apY:FuncId:=118
abbrev LM:FuncId:=119
abbrev Bs:FuncId:=120
abbrev JO:FuncId:=122
abbrev G5:FuncId:=123
abbrev De:FuncId:=124
abbrev AB:FuncId:=125
abbrev JP:FuncId:=126
abbrev o5:FuncId:=127
abbrev Qx:FuncId:=128
abbrev eL:FuncId:=129
abbrev qf:FuncId:=130
abbrev LN:FuncId:=131
abbrev Df:FuncId:=133
abbrev vm:FuncId:=134
abbrev Tu:FuncId:=135
abbrev LO:FuncId:=136
abbrev Mx:FuncId:=137
abbrev JQ:FuncId:=138
abbrev Dg:FuncId:=139
abbrev D5:FuncId:=140
abbrev AC:FuncId:=141
abbrev acJ:FuncId:=142
abbrev Dh:FuncId:=143
abbrev Tv:FuncId:=144
abbrev vn:FuncId:=145
abbrev G6:FuncId:=146
abbrev LP:FuncId:=147
noncomputable def FN(f:FuncId) :Func:=(prog.funcs[f]?).getD default
noncomputable def oa(f:FuncId) :Code:=((FN f).body).getD .skip
noncomputable def C0:Ol:=arY prog [(ul,.bits),(o5,.frombits),(vm,.add64),(vn,.sub64)] [(JC,⟨[],true⟩),(JD,⟨[],true⟩),(GO,⟨[],true⟩),(Aw,⟨[],true⟩),(Ax,⟨[],true⟩),(zr,⟨[],true⟩),(rr,⟨[],true⟩),(Ov,⟨[],true⟩),(Tp,⟨[],true⟩),(amF,⟨[],true⟩),(GQ,⟨[],true⟩),(DZ,⟨[],true⟩),(yq,⟨[],true⟩),(vi,⟨[],true⟩),(GR,⟨[],true⟩),(xf,⟨[],true⟩),(C6,⟨[],true⟩),(GS,⟨[],true⟩),(D0,⟨[],true⟩),(apW,⟨[],true⟩),(acI,⟨[],true⟩),(Br,⟨[],true⟩),(Ay,⟨[],true⟩),(GT,⟨[],true⟩),(mu,⟨[],true⟩),(GU,⟨[],true⟩),(C7,⟨[],true⟩),(Ow,⟨[],true⟩),(Az,⟨[],true⟩),(D1,⟨[],true⟩),(JF,⟨[],true⟩),(D2,⟨[],true⟩),(GV,⟨[],true⟩),(asZ,⟨[],true⟩),(Ox,⟨[],true⟩),(apX,⟨[],true⟩),(GW,⟨[],true⟩),(GX,⟨[],true⟩),(GY,⟨[],true⟩),(D3,⟨[],true⟩),(GZ,⟨[],true⟩),(Tq,⟨[],true⟩),(JG,⟨[],true⟩),(YP,⟨[],true⟩),(Oy,⟨[],true⟩),(G0,⟨[],true⟩),(JH,⟨[],true⟩),(JI,⟨[],true⟩),(JJ,⟨[],true⟩),(amG,⟨[true],false⟩),(LK,⟨[],true⟩),(JK,⟨[],true⟩),(Oz,⟨[],true⟩),(JL,⟨[],true⟩),(JM,⟨[],true⟩),(G1,⟨[],true⟩),(AA,⟨[],true⟩),(yr,⟨[],true⟩),(C8,⟨[],true⟩),(OA,⟨[],true⟩),(C9,⟨[],true⟩),(Tr,⟨[],true⟩),(um,⟨[true],false⟩),(G3,⟨[],true⟩),(LL,⟨[],true⟩),(Ts,⟨[],true⟩),(Tt,⟨[],true⟩),(JN,⟨[],true⟩),(D4,⟨[],true⟩),(Da,⟨[],true⟩),(Db,⟨[],true⟩),(Dc,⟨[],true⟩),(Dd,⟨[],true⟩),(G4,⟨[],true⟩),(OB,⟨[],true⟩),(apY,⟨[true],false⟩),(LM,⟨[true],false⟩),(Bs,⟨[true],false⟩),(JO,⟨[],true⟩),(G5,⟨[],true⟩),(De,⟨[],true⟩),(AB,⟨[],true⟩),(JP,⟨[],true⟩),(LN,⟨[],true⟩),(Df,⟨[false,false,true],false⟩),(LO,⟨[],true⟩),(JQ,⟨[],true⟩),(Dg,⟨[],true⟩),(D5,⟨[],true⟩),(AC,⟨[],true⟩),(acJ,⟨[],true⟩),(Tv,⟨[],true⟩),(G6,⟨[],true⟩),(LP,⟨[],true⟩)]
theorem JR:amx prog ul .bits:=⟨FN ul,by kernel_rfl,by kernel_rfl,by kernel_rfl,by kernel_rfl,by kernel_rfl⟩
theorem D6:amx prog o5 .frombits:=⟨FN o5,by kernel_rfl,by kernel_rfl,by kernel_rfl,by kernel_rfl,by kernel_rfl⟩
theorem L9:amx prog vm .add64:=⟨FN vm,by kernel_rfl,by kernel_rfl,by kernel_rfl,by kernel_rfl,by kernel_rfl⟩
theorem Ma:amx prog vn .sub64:=⟨FN vn,by kernel_rfl,by kernel_rfl,by kernel_rfl,by kernel_rfl,by kernel_rfl⟩
theorem mixed:prog.follows .mixedOrders=true:=by kernel_rfl
theorem aw3:arZ prog=true:=by kernel_rfl
theorem Qy:C0.Ok:=at6 mixed aw3 (by
  intro x hx
  simp only [List.mem_cons,List.not_mem_nil,or_false] at hx
  rcases hx with rfl | rfl | rfl | rfl
  · exact JR
  · exact D6
  · exact L9
  · exact Ma
  )
end Go.Plb.Seat
namespace Go.Plb
set_option linter.unusedSimpArgs false
set_option linter.unusedVariables false
set_option linter.unusedSectionVars false
variable [Rom]
inductive T (α:Type) where
  | fail
  | leaf (a:α)
  | ask (b:Bool) (t f:T α)
  | need (b:Bool) (t:T α)
  | alt (k:Nat) (t e:T α)
def T.run{α:Type} :T α→Option α
  | .fail=>none
  | .leaf a=>some a
  | .ask b t f=>bif b then t.run else f.run
  | .need b t=>bif b then t.run else none
  | .alt _ t e=>match t.run with
    | some a=>some a
    | none=>e.run
structure Mb (α:Type) where
  path:List Nat
  obs:List Bool
  val:α
def Mb.ask{α:Type}(n:Nat)(b:Bool)(l:Mb α) :Mb α:=⟨n::l.path,b::l.obs,l.val⟩
def Mb.need{α:Type}(b:Bool)(l:Mb α) :Mb α:=⟨l.path,b::l.obs,l.val⟩
def Mb.alt{α:Type}(n:Nat)(l:Mb α) :Mb α:=⟨n::l.path,l.obs,l.val⟩
def T.leaves{α:Type} :T α→List (Mb α)
  | .fail=>[]
  | .leaf a=>[⟨[],[],a⟩]
  | .ask b t f=>t.leaves.map (Mb.ask 1 (b==true))++f.leaves.map (Mb.ask 0 (b==false))
  | .need b t=>t.leaves.map (Mb.need b)
  | .alt k t e=>t.leaves.map (Mb.alt k)++e.leaves
theorem xg{α:Type} :∀ (t:T α) {a:α},t.run=some a→∃ l∈t.leaves,l.val=a∧bu l.obs
  | .fail,a,h=>by cases h
  | .leaf b,a,h=>by
    simp only [T.run,Option.some.injEq] at h;subst h
    exact ⟨⟨[],[],b⟩,by simp [T.leaves],rfl,trivial⟩
  | .ask b t f,a,h=>by
    simp only [T.run] at h
    cases b with
    | true =>
      simp only [cond_true] at h
      obtain ⟨l,h1,h2,h3⟩:=xg t h
      exact ⟨l.ask 1 (true==true),by simp only [T.leaves,List.mem_append];exact .inl (List.mem_map_of_mem h1),h2,⟨rfl,h3⟩⟩
    | false =>
      simp only [cond_false] at h
      obtain ⟨l,h1,h2,h3⟩:=xg f h
      exact ⟨l.ask 0 (false==false),by simp only [T.leaves,List.mem_append];exact .inr (List.mem_map_of_mem h1),h2,⟨rfl,h3⟩⟩
  | .need b t,a,h=>by
    simp only [T.run] at h
    cases b with
    | true =>
      simp only [cond_true] at h
      obtain ⟨l,h1,h2,h3⟩:=xg t h
      exact ⟨l.need true,by simp only [T.leaves];exact List.mem_map_of_mem h1,h2,⟨rfl,h3⟩⟩
    | false=>cases h
  | .alt k t e,a,h=>by
    simp only [T.run] at h
    split at h
    · rename_i a' ht
      cases h
      obtain ⟨l,h1,h2,h3⟩:=xg t ht
      exact ⟨l.alt k,by simp only [T.leaves,List.mem_append];exact .inl (List.mem_map_of_mem h1),h2,h3⟩
    · obtain ⟨l,h1,h2,h3⟩:=xg e h
      exact ⟨l,by simp only [T.leaves,List.mem_append];exact .inr h1,h2,h3⟩
def JS{α X:Type}(N:α→aQ)(E:X→AE×aQ) :α⊕X→AE×aQ
  | .inl a=>(.normal,N a)
  | .inr x=>E x
def Sg{α X:Type}(P:Program)(lent:List bt)(cs:List Code)(st:aQ)(m:Option (α⊕X))(N:α→aQ)(E:X→AE×aQ) :Prop :=
  ∀ r,m=some r→mO P lent cs st fun e st'=>(e,st')=JS N E r
def auu{α X:Type}(C:Ol)(S:Qj)(n:Nat)(cs:List Code)(st:aQ)(ls:List (Mb (α⊕X)))(ks:List NS)(k:Nat) :List (Bool×Option (AE×aQ×List Bool)) :=
  List.zipWith (fun l s=>(s.ok k,aud s (asV (rq C S 12 n) cs st (some l.path)))) ls ks
def ar7{α X:Type}(N:α→aQ)(E:X→AE×aQ)(ls:List (Mb (α⊕X))) :List (Bool×Option (AE×aQ×List Bool)) :=
  ls.map fun l=>(true,some ((JS N E l.val).1,(JS N E l.val).2,l.obs))
theorem ar8{α β γ:Type}{f:α→β→γ}{g:α→γ} :∀ {l:List α} {k:List β},List.zipWith f l k=l.map g→∀ a∈l,∃ b,f a b=g a
  | [],_,_,a,ha=>by cases ha
  | x::l,[],h,a,ha=>by simp at h
  | x::l,y::k,h,a,ha=>by
    simp only [List.zipWith_cons_cons,List.map_cons,List.cons.injEq] at h
    rcases List.mem_cons.1 ha with rfl | ha
    · exact ⟨y,h.1⟩
    · exact ar8 h.2 a ha
theorem Sg.seg{C:Ol}(hC:C.Ok){S:Qj}(hS:be C.P S){lent:List bt}{α X:Type}(n:Nat)(cs:List Code)(st:aQ)(t:T (α⊕X))(N:α→aQ)(E:X→AE×aQ)(ks:List NS) 
    (h:auu C S n cs st t.leaves ks lent.length=ar7 N E t.leaves):Sg C.P lent cs st t.run N E:=by
  intro r hr
  obtain ⟨l,h1,h2,h3⟩:=xg t hr
  obtain ⟨k,hk⟩:=ar8 h l h1
  simp only [Prod.mk.injEq] at hk
  obtain ⟨hn,he⟩:=hk
  have:=mO.seg hC hS (lent:=lent) (Q:=fun e st'=>(e,st')=JS N E r) cs.length (some l.path) k (cs:=cs) (st:=st) (by rw [List.take_length];exact he) hn h3
  refine this ?_
  rw [h2,List.drop_length]
  generalize hg:JS N E r=x
  obtain ⟨e,s⟩:=x
  cases e with
  | normal=>exact mO.nil rfl
  | ret=>rfl
  | exit id=>rfl
theorem mO.append{P:Program}{lent:List bt}{cs1 cs2:List Code}{st:aQ}{Q1 Q:AE→aQ→Prop}(h:mO P lent cs1 st Q1)(k:∀ e st',Q1 e st'→acH P lent cs2 e st' Q) :mO P lent (cs1++cs2) st Q:=by
  intro ρ0 w0 hN K hK a w hA
  apply Oq
  refine h ρ0 w0 hN _ ?_ a w hA
  intro e st' a' w' q hA'
  have:=k e st' q
  cases e with
  | normal=>exact this ρ0 w0 hN K hK a' w' hA'
  | ret=>exact hK _ _ _ _ this hA'
  | exit id=>exact hK _ _ _ _ this hA'
def jJ{X:Type}(E:X→AE×aQ) :Prop:=∀ x,(E x).1 ≠ .normal
theorem ar9{P:Program}{lent:List bt}{cs:List Code}{e:AE}{st:aQ}{Q:AE→aQ→Prop}(hn:e ≠ .normal)(h:Q e st) :acH P lent cs e st Q:=by
  cases e with
  | normal=>exact (hn rfl).elim
  | ret=>exact h
  | exit id=>exact h
def aC{α β X:Type}(m:Option (α⊕X))(k:α→Option (β⊕X)) :Option (β⊕X) :=
  match m with
  | none=>none
  | some (.inl a)=>k a
  | some (.inr x)=>some (.inr x)
theorem Sg.seq{P:Program}{lent:List bt}{α β X:Type}{cs1 cs2:List Code}{st:aQ}{m:Option (α⊕X)}{N1:α→aQ}{E:X→AE×aQ}{k:α→Option (β⊕X)}{N:β→aQ}(hE:jJ E) 
    (h:Sg P lent cs1 st m N1 E) (hk:∀ a,Sg P lent cs2 (N1 a) (k a) N E):Sg P lent (cs1++cs2) st (aC m k) N E:=by
  intro r hr
  unfold aC at hr
  split at hr
  · cases hr
  · rename_i a
    refine mO.append (h _ rfl) ?_
    intro e st' q
    simp only [JS,Prod.mk.injEq] at q
    obtain ⟨rfl,rfl⟩:=q
    exact hk a r hr
  · rename_i x
    simp only [Option.some.injEq] at hr;subst hr
    refine mO.append (h _ rfl) ?_
    intro e st' q
    simp only [JS] at q
    refine ar9 ?_ q
    have:=hE x
    rw [←q] at this;exact this
def IY{σ Y:Type}(B:σ→Option (σ⊕Y)) :Nat→σ→Option Y
  | 0,_=>none
  | n+1,s=>match B s with
    | none=>none
    | some (.inl s')=>IY B n s'
    | some (.inr y)=>some y
theorem OC{σ Y:Type}{B:σ→Option (σ⊕Y)} :∀ (n:Nat) {s:σ} {y:Y},IY B n s=some y→∀ m,n≤m→IY B m s=some y
  | 0,s,y,h,_,_=>by cases h
  | n+1,s,y,h,m,hm=>by
    obtain ⟨m',rfl⟩:∃ m',m=m'+1:=⟨m-1,by omega⟩
    simp only [IY] at h ⊢
    split at h
    · cases h
    · exact OC n h m' (by omega)
    · exact h
open Classical in
noncomputable def dh{σ Y:Type}(B:σ→Option (σ⊕Y))(s:σ) :Option Y :=
  if h:∃ n y,IY B n s=some y then some h.choose_spec.choose else none
theorem LQ{σ Y:Type}{B:σ→Option (σ⊕Y)}{s:σ}{y:Y} :dh B s=some y↔∃ n,IY B n s=some y:=by
  unfold dh
  constructor
  · intro h
    split at h
    · rename_i q
      simp only [Option.some.injEq] at h
      exact ⟨q.choose,by rw [←h];exact q.choose_spec.choose_spec⟩
    · cases h
  · rintro ⟨n,h⟩
    rw [dif_pos ⟨n,y,h⟩]
    generalize hq:(⟨n,y,h⟩:∃ n y,IY B n s=some y)=q
    have h1:=q.choose_spec.choose_spec
    have a1:=OC n h (max n q.choose) (by omega)
    have a2:=OC _ h1 (max n q.choose) (by omega)
    rw [a1] at a2
    exact a2.symm
theorem amH{σ Y:Type}(B:σ→Option (σ⊕Y))(s:σ) :dh B s=match B s with
    | none=>none
    | some (.inl s')=>dh B s'
    | some (.inr y)=>some y:=by
  have key:∀ y,dh B s=some y↔(match B s with | none=>none | some (.inl s')=>dh B s' | some (.inr y)=>some y)=some y:=by
    intro y
    rw [LQ]
    constructor
    · rintro ⟨n,h⟩
      cases n with
      | zero=>cases h
      | succ n =>
        simp only [IY] at h
        cases q:B s with
        | none=>rw [q] at h;cases h
        | some z=>cases z with
          | inl s'=>rw [q] at h;exact LQ.2 ⟨n,h⟩
          | inr z=>rw [q] at h;exact h
    · intro h
      split at h<;>rename_i q
      · cases h
      · obtain ⟨n,hn⟩:=LQ.1 h
        exact ⟨n+1,by simp only [IY,q];exact hn⟩
      · exact ⟨1,by simp only [IY,q];exact h⟩
  generalize (match B s with | none=>none | some (.inl s')=>dh B s' | some (.inr y)=>some y)=x at key
  cases hl:dh B s with
  | none=>cases x with
    | none=>rfl
    | some y=>rw [(key y).2 rfl] at hl;cases hl
  | some y=>rw [hl] at key;exact ((key y).1 rfl).symm
theorem amI{σ Y:Type}{B:σ→Option (σ⊕Y)}{s s':σ}(h:B s=some (.inl s')) :dh B s=dh B s':=by rw [amH,h]
theorem agY{σ Y:Type}{B:σ→Option (σ⊕Y)}{s:σ}{y:Y}(h:B s=some (.inr y)) :dh B s=some y:=by rw [amH,h]
def cy{ρ X:Type}(id:Nat)(J:ρ→aQ)(E:X→AE×aQ) :ρ⊕X→AE×aQ
  | .inl r=>(.exit id,J r)
  | .inr x=>E x
def mP{X:Type}(id:Nat)(E:X→AE×aQ) :Prop:=∀ x,(E x).1 ≠ .exit id
theorem Sg.loop{P:Program}{lent:List bt}{σ ρ X:Type}{I:σ→aQ}{J:ρ→aQ}{E:X→AE×aQ}{B:σ→Option (σ⊕(ρ⊕X))}{id:Nat}{b:Code}(hE:jJ E)(hI:mP id E) 
    (hb:∀ s,Sg P lent (cN b) (I s) (B s) I (cy id J E)) (s:σ):Sg P lent [.block id (.loop b)] (I s) (dh B s) J E:=by
  intro y hy
  obtain ⟨n,hn⟩:=LQ.1 hy

  have:=mO.loop (P:=P) (lent:=lent) (id:=id) (b:=b) (rest:=[]) (Q:=fun e st'=>(e,st')=JS J E y) (σ:=Nat×σ) (fun s=>I s.2) (fun s=>IY B s.1 s.2=some y) (fun s=>s.1) rfl (fun s hs=>?_) (n,s) hn
  · exact this
  · obtain ⟨n,s⟩:=s
    simp only at hs ⊢
    cases n with
    | zero=>cases hs
    | succ n =>
      simp only [IY] at hs
      split at hs
      · cases hs
      · rename_i s' hB
        refine (hb s _ hB).mono ?_
        intro e st' q
        simp only [JS,Prod.mk.injEq] at q
        obtain ⟨rfl,rfl⟩:=q
        exact ⟨(n,s'),hs,by simp,rfl⟩
      · rename_i y' hB
        simp only [Option.some.injEq] at hs;subst hs
        refine (hb s _ hB).mono ?_
        intro e st' q
        cases y' with
        | inl r =>
          simp only [JS,cy,Prod.mk.injEq] at q
          obtain ⟨rfl,rfl⟩:=q
          simp only [Ql,if_true]
          exact mO.nil rfl
        | inr x =>
          simp only [JS,cy] at q
          have h1:=hE x
          have h2:=hI x
          rw [←q] at h1 h2
          simp only at h1 h2
          cases e with
          | normal=>exact (h1 rfl).elim
          | ret=>exact q
          | exit j =>
            have hj : ¬ j=id:=fun h=>h2 (by rw [h])
            simp only [Ql,hj,if_false]
            exact q
def Di{κ X:Type}(m:Option (κ⊕(κ⊕X))) :Option (κ⊕X) :=
  match m with
  | none=>none
  | some (.inl a)=>some (.inl a)
  | some (.inr (.inl a))=>some (.inl a)
  | some (.inr (.inr x))=>some (.inr x)
theorem Sg.block{P:Program}{lent:List bt}{κ X:Type}{K:κ→aQ}{E:X→AE×aQ}{m:Option (κ⊕(κ⊕X))}{id:Nat}{b:Code}{st:aQ}(hE:jJ E)(hI:mP id E) 
    (hb:Sg P lent (cN b) st m K (cy id K E)):Sg P lent [.block id b] st (Di m) K E:=by
  intro r hr
  unfold Di at hr
  refine mO.block (rest:=[]) rfl ?_
  split at hr
  · cases hr
  · simp only [Option.some.injEq] at hr;subst hr
    refine (hb _ rfl).mono ?_
    intro e st' q
    simp only [JS,Prod.mk.injEq] at q
    obtain ⟨rfl,rfl⟩:=q
    exact mO.nil rfl
  · simp only [Option.some.injEq] at hr;subst hr
    refine (hb _ rfl).mono ?_
    intro e st' q
    simp only [JS,cy,Prod.mk.injEq] at q
    obtain ⟨rfl,rfl⟩:=q
    simp only [if_true]
    exact mO.nil rfl
  · rename_i x
    simp only [Option.some.injEq] at hr;subst hr
    refine (hb _ rfl).mono ?_
    intro e st' q
    simp only [JS,cy] at q
    have h1:=hE x
    have h2:=hI x
    rw [←q] at h1 h2
    simp only at h1 h2
    cases e with
    | normal=>exact (h1 rfl).elim
    | ret=>exact q
    | exit j =>
      have hj : ¬ j=id:=fun h=>h2 (by rw [h])
      simp only [hj,if_false]
      exact q
theorem Sg.scope{P:Program}{lent:List bt}{α X:Type}{N:α→aQ}{E:X→AE×aQ}{m:Option (α⊕X)}{b:Code}{st:aQ}(hE:jJ E)(hb:Sg P lent (cN b) st m N E) :Sg P lent [.scope b] st m N E:=by
  intro r hr
  refine mO.scope (rest:=[]) rfl ((hb r hr).mono ?_)
  intro e st' q
  cases r with
  | inl a =>
    simp only [JS,Prod.mk.injEq] at q
    obtain ⟨rfl,rfl⟩:=q
    exact mO.nil rfl
  | inr x =>
    refine ar9 ?_ q
    have:=hE x
    simp only [JS] at q
    rw [←q] at this;exact this
theorem amJ{k:Nat}{ρ0:aO}{w0:World}{st:aQ}{a:Act}{w:World}{c:Operand}{b kn:Bool}(h:At k ρ0 w0 st a w)(hc:evA st.tmps c=.bool kn b) :At k ρ0 w0 { st with tmps:=Bo st.tmps c b } a w∧a.eval c=.bool b:=by
  obtain ⟨ρ,E,W,hs,hbk,hle⟩:=h
  have hb:a.eval c=.bool b:=by
    have:=X8 hs.heap.rom hs.tmps c
    rw [hc] at this
    generalize a.eval c=z at this
    cases this;rfl
  refine ⟨⟨ρ,E,W,⟨hs.defers,?_,hs.heap⟩,hbk,hle⟩,hb⟩
  cases c with
  | tmp t =>
    simp only [Bo]
    have:jf ρ w (st.tmps.set t (.bool true b)) (a.tmps.toList.set t (.bool b)):=hs.tmps.set (.bool _ _) t
    have e:a.tmps.toList.set t (.bool b)=a.tmps.toList:=by
      apply List.ext_getElem?
      intro j
      rw [List.getElem?_set]
      split
      · rename_i q;subst q
        split
        · rename_i hlt
          simp only [Act.eval] at hb
          rw [Array.getD_eq_getD_getElem?] at hb
          have hlt':t<a.tmps.size:=by simpa using hlt
          rw [Array.getElem?_eq_getElem hlt'] at hb
          simp only [Option.getD_some] at hb
          simp [hlt',hb]
        · rename_i hge
          rw [List.getElem?_eq_none (by omega)]
      · rfl
    rw [e] at this;exact this
  | const v=>exact hs.tmps
  | global g=>exact hs.tmps
  | func f=>exact hs.tmps
theorem Sg.cond{P:Program}{lent:List bt}{α X:Type}{N:α→aQ}{E:X→AE×aQ}{m1 m2:Option (α⊕X)}{c:Operand}{A B:Code}{st:aQ}{kn b:Bool}(hE:jJ E)(hc:evA st.tmps c=.bool kn b) 
    (h1:Sg P lent (cN A) { st with tmps:=Bo st.tmps c true } m1 N E) (h2:Sg P lent (cN B) { st with tmps:=Bo st.tmps c false } m2 N E):Sg P lent [.cond c A B] st (bif b then m1 else m2) N E:=by
  intro r hr
  intro ρ0 w0 hN K hK a w hA
  simp only [wpL]
  obtain ⟨hA',hb⟩:=amJ hA hc
  refine wp_cond hb ?_
  have vv:∀ (D:Code) (m:Option (α⊕X)) (st1:aQ),Sg P lent (cN D) st1 m N E→m=some r→At lent.length ρ0 w0 st1 a w→D.wp P (fun e a' w'=>match e with | .normal=>K .normal a' w' | e=>K e a' w') a w:=by
    intro D m st1 hS hm hA1
    refine GM D (hS r hm ρ0 w0 hN _ ?_ a w hA1)
    intro e st' a' w' q hA2
    cases e with
    | normal=>exact hK .normal st' a' w' q hA2
    | ret=>exact hK .ret st' a' w' q hA2
    | exit id=>exact hK (.exit id) st' a' w' q hA2
  cases b with
  | true=>exact vv A m1 _ h1 hr hA'
  | false=>exact vv B m2 _ h2 hr hA'
theorem Sg.pre{P:Program}{lent:List bt}{α X:Type}{N:α→aQ}{E:X→AE×aQ}{m:Option (α⊕X)}{cs:List Code}{st st1:aQ}(s:NS)(hn:s.ok lent.length=true)(h1:s.on st=st1)(h:Sg P lent cs st1 m N E) :Sg P lent cs st m N E :=
  fun r hr=>mO.weak (by rw [←h1];exact auc hn st) (h r hr)
def jM{X:Type} :Option (Empty⊕X)→Option X
  | some (.inr x)=>some x
  | _=>none
theorem Sg.contract{P:Program}{f:FuncId}{fn:Func}{c:Code}{X:Type}{N:Empty→aQ}{E:X→AE×aQ}{m:Option (Empty⊕X)}{lent:List bt}{args:List AV}(keep:Bool)(o:X→gM)(hf:P.funcs[f]? = some fn)(hc:fn.body=some c) 
    (h:Sg P lent (cN c) (Av fn lent args) m N E) (hE:∀ x,ar2 P fn lent.length keep (o x) (E x).1 (E x).2) {x:X} (hx:jM m=some x):ay P f lent args (o x):=by
  unfold jM at hx
  split at hx
  · rename_i x'
    simp only [Option.some.injEq] at hx;subst hx
    refine mO.contract (keep:=keep) hf hc ((h _ rfl).mono ?_)
    intro e st' q
    simp only [JS] at q
    have:=hE x'
    rw [←q] at this;exact this
  · cases hx
end Go.Plb
namespace Go.Plb
set_option linter.unusedSectionVars false
variable [Rom]
theorem az{ρ X:Type}{id:Nat}{J:ρ→aQ}{E:X→AE×aQ}(h:jJ E) :jJ (cy id J E):=by
  intro x
  cases x with
  | inl r=>intro q;cases q
  | inr x=>exact h x
theorem cD{ρ X:Type}{id j:Nat}{J:ρ→aQ}{E:X→AE×aQ}(hj:(j==id)=false)(h:mP id E) :mP id (cy j J E):=by
  intro x
  cases x with
  | inl r =>
    intro q
    simp only [cy,AE.exit.injEq] at q
    subst q
    simp at hj
  | inr x=>exact h x
def dn:Code→Code
  | .block _ (.loop b)=>b
  | _=>.skip
def inBlock:Code→Code
  | .block _ b=>b
  | _=>.skip
def LR:Code→Code
  | .scope b=>b
  | _=>.skip
theorem Sg.cut{P:Program}{lent:List bt}{α β X:Type}{cs:List Code}{st:aQ}{m:Option (α⊕X)}{N1:α→aQ}{E:X→AE×aQ}{k:α→Option (β⊕X)}{N:β→aQ}(n:Nat)(hE:jJ E) 
    (h:Sg P lent (cs.take n) st m N1 E) (hk:∀ a,Sg P lent (cs.drop n) (N1 a) (k a) N E):Sg P lent cs st (aC m k) N E:=by
  have:=Sg.seq hE h hk
  rwa [List.take_append_drop] at this
theorem as0{P:Program}{lent:List bt}{σ ρ X:Type}{I:σ→aQ}{J:ρ→aQ}{E:X→AE×aQ}{B:σ→Option (σ⊕(ρ⊕X))}{id:Nat}{b:Code}{cs:List Code}(hcs:cs=[.block id (.loop b)])(hE:jJ E)(hI:mP id E) 
    (hb:∀ s,Sg P lent (cN b) (I s) (B s) I (cy id J E)) (s:σ):Sg P lent cs (I s) (dh B s) J E:=by rw [hcs];exact Sg.loop hE hI hb s
theorem apZ{P:Program}{lent:List bt}{κ X:Type}{K:κ→aQ}{E:X→AE×aQ}{m:Option (κ⊕(κ⊕X))}{id:Nat}{b:Code}{st:aQ}{cs:List Code}(hcs:cs=[.block id b])(hE:jJ E)(hI:mP id E) 
    (hb:Sg P lent (cN b) st m K (cy id K E)):Sg P lent cs st (Di m) K E:=by rw [hcs];exact Sg.block hE hI hb
theorem OD{P:Program}{lent:List bt}{α X:Type}{N:α→aQ}{E:X→AE×aQ}{m:Option (α⊕X)}{b:Code}{st:aQ}{cs:List Code}(hcs:cs=[.scope b])(hE:jJ E)(hb:Sg P lent (cN b) st m N E) :Sg P lent cs st m N E:=by
  rw [hcs];exact Sg.scope hE hb
end Go.Plb
namespace Go.Plb
set_option linter.unusedSimpArgs false
set_option linter.unusedVariables false
set_option linter.unusedSectionVars false
variable [Rom]
theorem bW{α:Type}{b:Bool}{t:T α}{x:Option α}(h:b=true)(k:t.run=x) :(T.need b t).run=x:=by subst h;exact k
theorem jh{α:Type}{b:Bool}{t f:T α}{x:Option α}(h:b=true)(k:t.run=x) :(T.ask b t f).run=x:=by subst h;exact k
theorem cV{α:Type}{b:Bool}{t f:T α}{x:Option α}(h:b=false)(k:f.run=x) :(T.ask b t f).run=x:=by subst h;exact k
theorem avu{α:Type}{k:Nat}{t f:T α}{a:α}(h:t.run=some a) :(T.alt k t f).run=some a:=by simp only [T.run,h]
theorem aw4{α:Type}{k:Nat}{t f:T α}{x:Option α}(h:t.run=none)(q:f.run=x) :(T.alt k t f).run=x:=by simp only [T.run,h];exact q
theorem aw5{α:Type}{b:Bool}{t:T α}(h:b=false) :(T.need b t).run=none:=by subst h;rfl
theorem aj{α:Type}{b:Bool}{t:T α}{x:Option α}(k:t.run=x)(h:b=true:=by exact rfl) :(T.need b t).run=x:=bW h k
theorem aZ{α:Type}{b:Bool}{t f:T α}{x:Option α}(k:t.run=x)(h:b=true:=by exact rfl) :(T.ask b t f).run=x:=jh h k
theorem aI{α:Type}{b:Bool}{t f:T α}{x:Option α}(k:f.run=x)(h:b=false:=by exact rfl) :(T.ask b t f).run=x:=cV h k
theorem ai{α β X:Type}{m:Option (α⊕X)}{k:α→Option (β⊕X)}{a:α}{x:Option (β⊕X)}(h:m=some (.inl a))(q:k a=x) :aC m k=x:=by subst h;exact q
theorem bk{α β X:Type}{m:Option (α⊕X)}{k:α→Option (β⊕X)}{y:X}(h:m=some (.inr y)) :aC m k=some (.inr y):=by subst h;rfl
theorem vo{κ X:Type}{m:Option (κ⊕(κ⊕X))}{a:κ}(h:m=some (.inl a)) :Di m=some (.inl a):=by subst h;rfl
theorem bb{X:Type}{m:Option (Empty⊕X)}{x:X}(h:m=some (.inr x)) :jM m=some x:=by subst h;rfl
theorem as1{σ Y:Type}{B:σ→Option (σ⊕Y)}(st:Nat→σ)(n:Nat){y:Y}(i:Nat)(hi:i≤n)(step:∀ j,i≤j→j<n→B (st j)=some (.inl (st (j+1))))(done:B (st n)=some (.inr y)) :dh B (st i)=some y:=by
  obtain ⟨d,rfl⟩:∃ d,n=i+d:=⟨n-i,by omega⟩
  clear hi
  induction d generalizing i with
  | zero=>exact agY done
  | succ d ih =>
    rw [amI (step i (Nat.le_refl _) (by omega))]
    have e:i+(d+1)=i+1+d:=by omega
    rw [e] at step done
    exact ih (i+1) (fun j h1 h2=>step j (by omega) h2) done
theorem bL{σ Y:Type}{B:σ→Option (σ⊕Y)}(st:Nat→σ)(n:Nat){y:Y}{s0:σ}(h0:s0=st 0)(step:∀ j,j<n→B (st j)=some (.inl (st (j+1))))(done:B (st n)=some (.inr y)) :dh B s0=some y:=by
  rw [h0];exact as1 st n 0 (Nat.zero_le _) (fun j _=>step j) done
theorem cM{n:Int} :di .i64 n=true↔-9223372036854775808≤n∧n≤9223372036854775807:=by
  have e1:IntKind.i64.min = -9223372036854775808:=by decide
  have e2:IntKind.i64.max=9223372036854775807:=by decide
  simp only [di,e1,e2,Bool.and_eq_true,decide_eq_true_eq]
theorem Ao{k:Int}{n:Nat} :fv k n=true↔0≤k∧k<n:=by simp only [fv,Bool.and_eq_true,decide_eq_true_eq]
theorem Bt{k:Int}{n:Nat} :Mk k n=true↔0≤k∧k≤n:=by simp only [Mk,Bool.and_eq_true,decide_eq_true_eq]
theorem oq{k n:Nat} :g9 k n=true↔k<n:=by simp [g9]
theorem o6{k n:Nat} :qt k n=true↔k≤n:=by simp [qt]
theorem o7{k n:Nat} :Nat.ble k n=true↔k≤n:=by rw [Nat.ble_eq]
theorem o8{k n:Nat} :Nat.blt k n=true↔k<n:=by rw [Nat.blt_eq]
def awt{α:Type}(pos:Nat→Nat)(val:Nat→α)(l:List α) :Nat→List α
  | 0=>l
  | n+1=>(awt pos val l n).set (pos n) (val n)
theorem lG{α:Type}{pos:Nat→Nat}{val:Nat→α}{l:List α} :∀ {n:Nat},(awt pos val l n).length=l.length
  | 0=>rfl
  | n+1=>by simp only [awt,List.length_set];exact lG
theorem un{i k r c:Nat}(hi:i<r)(hk:k<c) :i*c+k<r*c:=by
  have:(i+1)*c≤r*c:=Nat.mul_le_mul_right c hi
  rw [Nat.add_mul,Nat.one_mul] at this
  omega
theorem amK{α:Type}(l:List α) :aG 0 l.length l=true:=by rw [hJ];omega
theorem aB{α:Type}{b:Bool}{t:T α}{x:Option α}(k:t.run=x)(h:b=true:=by exact amK _) :(T.need b t).run=x:=bW h k
theorem bf{α:Type}{n:Nat}{l:List α}(h:l.length=n) :ab 0 n l=l:=by rw [←h];exact aw l
theorem awu(n:Nat) :Nat.ble (0+n) n=true:=by rw [Nat.ble_eq];omega
theorem qz{α:Type}{b:Bool}{t:T α}{x:Option α}(k:t.run=x)(h:b=true:=by exact awu _) :(T.need b t).run=x:=bW h k
theorem uR{p:Nat→Prop} [DecidablePred p]:∀ {n:Nat},(¬ ∀ i,i<n→p i)→∃ k,k<n∧¬ p k∧∀ j,j<k→p j
  | 0,h=>(h fun i hi=>absurd hi (Nat.not_lt_zero _)).elim
  | n+1,h=>by
    by_cases q:∀ i,i<n→p i
    · refine ⟨n,Nat.lt_succ_self _,fun r=>h fun i hi=>?_,q⟩
      rcases Nat.lt_succ_iff_lt_or_eq.1 hi with a | rfl
      · exact q i a
      · exact r
    · obtain ⟨k,h1,h2,h3⟩:=uR q
      exact ⟨k,by omega,h2,h3⟩
theorem ch(n:Nat) :Int.toNat (n:Int)=n:=rfl
def D7(x:Nat) :Nat:=if x<4503599627370496 then x else 4503599627370496+x%4503599627370496
def mT(x:Nat) :Nat:=x/4503599627370496-1
theorem YR{x:Nat}(h:x<9218868437227405312) :FloatKind.f64.format.read x=.number false (D7 x) (-1074+(mT x:Int)):=by
  have e1:Ieee.double.signWeight=9223372036854775808:=by decide
  have e2:Ieee.double.binade=4503599627370496:=by decide
  have e3:Ieee.double.infRung=9218868437227405312:=by decide
  have e4:Ieee.double.leastPlace = -1074:=by decide
  show Ieee.double.read x=_
  unfold Ieee.Format.read
  simp only [e1,e2,e3,e4]
  have h1:x/9223372036854775808%2=0:=by omega
  have h2:x%9223372036854775808=x:=by omega
  rw [h1,h2]
  by_cases h3:x<4503599627370496
  · rw [if_pos h3]
    have:mT x=0:=by unfold mT;omega
    simp only [D7,if_pos h3,this];rfl
  · rw [if_neg h3,if_pos h]
    simp only [D7,if_neg h3,mT];rfl
theorem asa(x:Nat) :D7 x<9007199254740992:=by unfold D7;split<;>omega
theorem avv{x:Nat}(h:0<mT x) :4503599627370496≤D7 x:=by unfold mT at h;unfold D7;rw [if_neg (by omega)];omega
theorem Qz{x y:Nat}(hx:x<9218868437227405312)(hy:y<9218868437227405312) :
    w9 x y=some (compare ((D7 x*2^(mT x-min (mT x) (mT y)):Nat):Int) ((D7 y*2^(mT y-min (mT x) (mT y)):Nat):Int)):=by
  unfold w9 Ieee.Format.order
  rw [YR hx,YR hy]
  simp only [Ieee.Datum.order,Ieee.signed,Bool.false_eq_true,if_false,Nat.shiftLeft_eq]
  have e1:((-1074+(mT x:Int))-min (-1074+(mT x:Int)) (-1074+(mT y:Int))).toNat=mT x-min (mT x) (mT y):=by omega
  have e2:((-1074+(mT y:Int))-min (-1074+(mT x:Int)) (-1074+(mT y:Int))).toNat=mT y-min (mT x) (mT y):=by omega
  rw [e1,e2]
theorem avw{x y:Nat}(hx:x<9218868437227405312)(hy:y<9218868437227405312) :w9 x y=some .gt↔w9 y x=some .lt:=by
  rw [Qz hx hy,Qz hy hx,Nat.min_comm]
  simp only [Option.some.injEq]
  rw [Int.compare_eq_gt,Int.compare_eq_lt]
theorem asb{x y:Nat}(hx:x<9218868437227405312)(hy:y<9218868437227405312)(h:x<y) :w9 x y=some .lt:=by
  rw [Qz hx hy]
  have hle:mT x≤mT y:=by unfold mT;omega
  rw [Nat.min_eq_left hle,Nat.sub_self,Nat.pow_zero,Nat.mul_one]
  have key:D7 x<D7 y*2^(mT y-mT x):=by
    rcases Nat.eq_or_lt_of_le hle with h1 | h1
    · rw [h1,Nat.sub_self,Nat.pow_zero,Nat.mul_one]
      unfold mT at h1;unfold D7
      split<;>split<;>omega
    · have a:=avv (x:=y) (by omega)
      have b:=asa x
      have c:2^1≤2^(mT y-mT x):=Nat.pow_le_pow_right (by decide) (by omega)
      have d:4503599627370496*2≤D7 y*2^(mT y-mT x):=Nat.mul_le_mul a c
      omega
  rw [Int.compare_eq_lt.2 (by exact_mod_cast key)]
theorem auv{x y:Nat}(hx:x<9218868437227405312)(hy:y<9218868437227405312) :w9 x y=some (compare x y):=by
  rcases Nat.lt_trichotomy x y with h | rfl | h
  · rw [asb hx hy h,Nat.compare_eq_lt.2 h]
  · rw [Qz hx hx];simp
  · rw [(avw hx hy).2 (asb hy hx h),Nat.compare_eq_gt.2 h]
theorem auw:FloatKind.f64.format.read 9218868437227405312=.infinity false:=by decide
theorem ap0{y:Nat}(hy:y<9218868437227405312) :w9 9218868437227405312 y=some .gt:=by
  unfold w9 Ieee.Format.order;rw [auw,YR hy];rfl
def eY{α:Type}(f:Nat→α) :Nat→List α
  | 0=>[]
  | n+1=>eY f n++[f n]
theorem dS{α:Type}{f:Nat→α} :∀ {n:Nat},(eY f n).length=n
  | 0=>rfl
  | n+1=>by simp only [eY,List.length_append,List.length_singleton,dS (n:=n)]
theorem YS{α:Type}{f:Nat→α}{n:Nat} :(eY f n).take n=eY f n:=by
  rw [List.take_of_length_le];rw [dS];exact Nat.le_refl n
theorem as2{α:Type}{f:Nat→α}{n:Nat} :List.take n (eY f n)++List.take 1 [f n]=eY f (n+1):=by
  rw [YS];rfl
theorem OE{α:Type}{f:Nat→α}{n:Nat} :List.take n (eY f n)++[f n]=eY f (n+1):=by
  rw [YS];rfl
theorem FY{α:Type}{f:Nat→α} :∀ {n i:Nat},i<n→(eY f n)[i]? = some (f i)
  | 0,i,h=>absurd h (Nat.not_lt_zero _)
  | n+1,i,h=>by
    simp only [eY]
    by_cases e:i=n
    · subst e;rw [List.getElem?_append_right (by rw [dS];exact Nat.le_refl _),dS,Nat.sub_self];rfl
    · rw [List.getElem?_append_left (by rw [dS];omega)];exact FY (by omega)
theorem qA{α:Type}{f:Nat→α}{n i:Nat}{d:α}(h:i<n) :(eY f n).getD i d=f i:=by
  rw [List.getD_eq_getElem?_getD,FY h];rfl
theorem cE{α:Type}{f g:Nat→α} :∀ {n:Nat},(∀ i,i<n→f i=g i)→eY f n=eY g n
  | 0,_=>rfl
  | n+1,h=>by simp only [eY];rw [cE fun i hi=>h i (by omega),h n (by omega)]
theorem Tw{α:Type}{f:Nat→α}{n:Nat}{l:List α}(hl:l.length=n)(h:∀ i,i<n→l[i]? = some (f i)) :l=eY f n:=by
  apply List.ext_getElem?
  intro i
  by_cases hi:i<n
  · rw [h i hi,FY hi]
  · rw [List.getElem?_eq_none (by omega),List.getElem?_eq_none (by rw [dS];omega)]
theorem ru{α:Type}{f:Nat→α}{n i:Nat}{x:α}(h:i<n) :(eY f n).set i x=eY (fun j=>if j=i then x else f j) n:=by
  refine Tw (by rw [List.length_set,dS]) fun j hj=>?_
  rw [List.getElem?_set,dS]
  by_cases e:i=j
  · subst e;rw [if_pos rfl,if_pos h,if_pos rfl]
  · rw [if_neg e,FY hj,if_neg fun q=>e q.symm]
theorem pz{α:Type}{n:Nat}{x:α} :List.replicate n x=eY (fun _=>x) n :=
  Tw List.length_replicate fun i hi=>by rw [List.getElem?_replicate,if_pos hi]
theorem agZ{α:Type}{f:Nat→α}{n m:Nat}(h:m≤n) :ab 0 m (eY f n)=eY f m:=by
  refine Tw (qy (by rw [dS];omega)) fun i hi=>?_
  rw [LI,List.drop_zero,List.getElem?_take,if_pos hi,FY (by omega)]
abbrev W:Nat:=18446744073709551616
def lm(v i:Nat) :Int:=((v/W^i%W:Nat):Int)
def aA(v n:Nat) :List Int:=eY (lm v) n
theorem gY(n:Nat) :0<W^n:=Nat.pow_pos (by decide)
theorem aq{v n:Nat} :(aA v n).length=n:=dS
theorem JT{v i:Nat} :(lm v i).toNat=v/W^i%W:=rfl
theorem Dj{v i:Nat}(h:v<W^i) :lm v i=0:=by unfold lm;rw [Nat.div_eq_of_lt h];rfl
theorem XW{v n i:Nat}(h:i<n) :(aA v n).getD i 0=lm v i:=qA h
theorem cF{v n:Nat}(h:v<W^n)(i:Nat) :(aA v n).getD i 0=lm v i:=by
  by_cases hi:i<n
  · exact XW hi
  · rw [List.getD_eq_getElem?_getD,List.getElem?_eq_none (by rw [aq];omega)]
    exact (Dj (Nat.lt_of_lt_of_le h (Nat.pow_le_pow_right (by decide) (by omega)))).symm
theorem bM{v n m:Nat}(h:m≤n) :ab 0 m (aA v n)=aA v m:=agZ h
theorem FZ{n:Nat} :List.replicate n (0:Int)=aA 0 n:=by
  rw [pz];exact cE fun i _=>(Dj (gY i)).symm
theorem OF{u x j:Nat}(hu:u<W^j)(hx:x<W)(i:Nat) :lm (u+x*W^j) i=if i=j then (x:Int) else lm u i:=by
  unfold lm
  by_cases e:i=j
  · subst e
    rw [if_pos rfl,Nat.add_mul_div_right _ _ (gY i),Nat.div_eq_of_lt hu,Nat.zero_add,Nat.mod_eq_of_lt hx]
  · rw [if_neg e]
    congr 1
    rcases Nat.lt_or_ge i j with h | h
    · obtain ⟨d,rfl⟩:∃ d,j=i+1+d:=⟨j-i-1,by omega⟩
      have:x*W^(i+1+d)=(x*W^d*W)*W^i:=by
        rw [Nat.pow_add,Nat.pow_succ];simp only [Nat.mul_assoc,Nat.mul_comm,Nat.mul_left_comm]
      rw [this,Nat.add_mul_div_right _ _ (gY i),Nat.add_mul_mod_self_right]
    · have h1:W^(j+1)≤W^i:=Nat.pow_le_pow_right (by decide) (by omega)
      have h2:u+x*W^j<W^(j+1):=by
        rw [Nat.pow_succ,Nat.mul_comm (W^j)]
        have:(x+1)*W^j≤W*W^j:=Nat.mul_le_mul_right _ hx
        rw [Nat.add_mul,Nat.one_mul] at this
        omega
      have h3:W^j≤W^(j+1):=Nat.pow_le_pow_right (by decide) (by omega)
      rw [Nat.div_eq_of_lt (Nat.lt_of_lt_of_le h2 h1),Nat.div_eq_of_lt (by omega)]
theorem vp{u x j n:Nat}(hu:u<W^j)(hx:x<W)(hj:j<n) :(aA u n).set j (x:Int)=aA (u+x*W^j) n:=by
  unfold aA
  rw [ru hj]
  exact cE fun i _=>(OF hu hx i).symm
theorem vq(v j:Nat) :v%W^(j+1)=v%W^j+(v/W^j%W)*W^j:=by
  rw [Nat.pow_succ,Nat.mod_mul,Nat.mul_comm (W^j)]
theorem aux{v n:Nat} :aA (v%W^n) n=aA v n:=by
  refine cE fun i hi=>?_
  unfold lm
  obtain ⟨d,rfl⟩:∃ d,n=i+1+d:=⟨n-i-1,by omega⟩
  congr 1
  have h:=Nat.mod_mul (a:=W^i) (b:=W^(d+1)) (x:=v)
  have e:W^(i+1+d)=W^i*W^(d+1):=by rw [←Nat.pow_add];congr 1;omega
  rw [e,h,Nat.add_mul_div_left _ _ (gY i),Nat.div_eq_of_lt (Nat.mod_lt _ (gY i)),Nat.zero_add,Nat.pow_succ,Nat.mod_mul_left_mod]
def nl(v:Nat) :Nat:=if h:v=0 then 0 else nl (v/W)+1
termination_by v
decreasing_by exact Nat.div_lt_self (Nat.pos_of_ne_zero h) (by decide)
theorem eS:nl 0=0:=by rw [nl];rfl
theorem cG:∀ (v:Nat),v<W^nl v:=by
  intro v
  induction v using Nat.strongRecOn with
  | _ v ih =>
    rw [nl]
    split
    · rename_i h;subst h;decide
    · rename_i h
      have:=ih (v/W) (Nat.div_lt_self (Nat.pos_of_ne_zero h) (by decide))
      rw [Nat.pow_succ]
      exact (Nat.div_lt_iff_lt_mul (by decide)).1 this
theorem auy:∀ {v:Nat},v≠0→W^(nl v-1)≤v:=by
  intro v
  induction v using Nat.strongRecOn with
  | _ v ih =>
    intro h
    rw [nl,dif_neg h,Nat.add_sub_cancel]
    by_cases h2:v/W=0
    · rw [h2,eS];simp;omega
    · have:=ih (v/W) (Nat.div_lt_self (Nat.pos_of_ne_zero h) (by decide)) h2
      have e:W^nl (v/W)=W^(nl (v/W)-1)*W:=by
        rw [←Nat.pow_succ];congr 1
        have:nl (v/W)≠0:=by rw [nl,dif_neg h2];exact Nat.succ_ne_zero _
        omega
      rw [e]
      exact Nat.le_trans (Nat.mul_le_mul_right _ this) (Nat.div_mul_le_self v W)
theorem zt{v:Nat}(h:v≠0) :0<nl v:=by rw [nl,dif_neg h];exact Nat.succ_pos _
theorem i6{v n:Nat}(h:v<W^n) :nl v≤n:=by
  by_cases h0:v=0
  · rw [h0,eS];exact Nat.zero_le _
  · have:=auy h0
    have h1:W^(nl v-1)<W^n:=Nat.lt_of_le_of_lt this h
    have:=(Nat.pow_lt_pow_iff_right (show 1<W by decide)).1 h1
    omega
theorem jk{v:Nat} :nl v=0↔v=0:=by
  constructor
  · intro h
    by_cases h0:v=0
    · exact h0
    · have:=zt h0;omega
  · intro h;rw [h,eS]
theorem aiw{v:Nat}(h:v≠0) :lm v (nl v-1)≠0:=by
  have h1:=auy h
  have h2:=cG v
  have h3:=zt h
  unfold lm
  have e:W^nl v=W^(nl v-1)*W:=by rw [←Nat.pow_succ];congr 1;omega
  have q:v/W^(nl v-1)<W:=by
    rw [Nat.div_lt_iff_lt_mul (gY _),Nat.mul_comm,←e];exact h2
  have p:0<v/W^(nl v-1):=Nat.div_pos h1 (gY _)
  rw [Nat.mod_eq_of_lt q];omega
theorem OG{S t j:Nat}(hS:S<W^j) :(S+t*W^j)/W^(j+1)=t/W∧(S+t*W^j)%W^(j+1)=S+(t%W)*W^j:=by
  have e1:(S+t*W^j)/W^j=t:=by rw [Nat.add_mul_div_right _ _ (gY j),Nat.div_eq_of_lt hS,Nat.zero_add]
  have e2:(S+t*W^j)%W^j=S:=by rw [Nat.add_mul_mod_self_right,Nat.mod_eq_of_lt hS]
  constructor
  · rw [Nat.pow_succ,←Nat.div_div_eq_div_mul,e1]
  · rw [vq,e1,e2]
theorem vr(v i:Nat) :lm v i=((v/W^i%W:Nat):Int):=rfl
theorem QA(v j:Nat) :v/W^j=v/W^(j+1)*W+v/W^j%W:=by
  rw [Nat.pow_succ,←Nat.div_div_eq_div_mul,Nat.mul_comm,Nat.div_add_mod]
theorem as3{a b i:Nat} :lm a i=lm b i↔a/W^i%W=b/W^i%W:=by unfold lm;omega
theorem JU{a b n:Nat}(ha:a<W^n)(hb:b<W^n) :∀ {d:Nat},d≤n→(∀ k,n-d≤k→k<n→lm a k=lm b k)→a/W^(n-d)=b/W^(n-d)
  | 0,_,_=>by rw [Nat.sub_zero,Nat.div_eq_of_lt ha,Nat.div_eq_of_lt hb]
  | d+1,hd,h=>by
    have ih:=JU ha hb (d:=d) (by omega) fun k h1 h2=>h k (by omega) h2
    have e:n-d=n-(d+1)+1:=by omega
    rw [QA a,QA b,←e,ih,as3.1 (h (n-(d+1)) (Nat.le_refl _) (by omega))]
theorem G7{a b i:Nat}(h:a/W^(i+1)=b/W^(i+1))(hl:lm a i<lm b i) :a<b:=by
  have hl':a/W^i%W<b/W^i%W:=by unfold lm at hl;omega
  have:a/W^i<b/W^i:=by rw [QA a,QA b,h];omega
  rcases Nat.lt_or_ge a b with q | q
  · exact q
  · have:=Nat.div_le_div_right (c:=W^i) q
    omega
theorem QB{a b:Nat}(h:nl a<nl b) :a<b:=by
  have hb:b≠0:=fun e=>by rw [e,eS] at h;omega
  exact Nat.lt_of_lt_of_le (Nat.lt_of_lt_of_le (cG a) (Nat.pow_le_pow_right (by decide) (by omega))) (auy hb)
def oR(a b:Nat) :Int:=if a<b then -1 else if b<a then 1 else 0
def F0(x y j:Nat) :Nat:=x%W^j+y%W^j
theorem as4(x y j:Nat) :F0 x y (j+1)=F0 x y j%W^j+(x/W^j%W+y/W^j%W+F0 x y j/W^j)*W^j:=by
  have h:=Nat.div_add_mod (F0 x y j) (W^j)
  unfold F0 at h ⊢
  rw [vq x,vq y]
  rw [Nat.add_mul,Nat.add_mul,Nat.mul_comm ((x%W^j+y%W^j)/W^j)]
  omega
theorem YT{x y j:Nat} :F0 x y j/W^j≤1:=by
  have h1:=Nat.mod_lt x (gY j)
  have h2:=Nat.mod_lt y (gY j)
  have:F0 x y j<2*W^j:=by unfold F0;omega
  have:=(Nat.div_lt_iff_lt_mul (gY j)).2 this
  omega
def YU(a b j:Nat) :Nat:=if a%W^j<b%W^j then 1 else 0
def WB(a b j:Nat) :Nat:=a%W^j+YU a b j*W^j-b%W^j
theorem asc{a b j:Nat} :WB a b j<W^j∧b%W^j≤a%W^j+YU a b j*W^j:=by
  have h1:=Nat.mod_lt a (gY j)
  have h2:=Nat.mod_lt b (gY j)
  unfold WB YU
  generalize a%W^j=A at *
  generalize b%W^j=B at *
  generalize W^j=P at *
  split
  · rw [Nat.one_mul];omega
  · rw [Nat.zero_mul];omega
theorem amL(a b j:Nat) :YU a b (j+1)=(if a/W^j%W<b/W^j%W+YU a b j then 1 else 0) ∧
    WB a b (j+1)=WB a b j+((a/W^j%W+W-b/W^j%W-YU a b j)%W)*W^j:=by
  obtain ⟨hD,hle⟩:=asc (a:=a) (b:=b) (j:=j)
  have hbr:YU a b j≤1:=by unfold YU;split<;>omega
  have hla:=Nat.mod_lt (a/W^j) (show W>0 by decide)
  have hlb:=Nat.mod_lt (b/W^j) (show W>0 by decide)
  have eD:WB a b j+b%W^j=a%W^j+YU a b j*W^j:=by unfold WB at hD ⊢;omega
  have eW:W^(j+1)=W*W^j:=by rw [Nat.pow_succ,Nat.mul_comm]
  have ea:=vq a j
  have eb:=vq b j
  generalize a/W^j%W=la at *
  generalize b/W^j%W=lb at *
  generalize YU a b j=br at *
  generalize WB a b j=D at *
  by_cases h:la<lb+br
  · obtain ⟨d,hd⟩:∃ d,la+W=lb+br+d:=⟨la+W-lb-br,by omega⟩
    have hdW:d<W:=by omega
    have e3:la*W^j+W^(j+1)=lb*W^j+br*W^j+d*W^j:=by rw [eW,←Nat.add_mul,←Nat.add_mul,←Nat.add_mul,hd]
    have hlt:a%W^(j+1)<b%W^(j+1):=by
      have:(d+1)*W^j≤W*W^j:=Nat.mul_le_mul_right _ hdW
      rw [Nat.add_mul,Nat.one_mul] at this
      rw [ea,eb];omega
    have e1:YU a b (j+1)=1:=by unfold YU;rw [if_pos hlt]
    refine ⟨by rw [if_pos h,e1],?_⟩
    have e4:(la+W-lb-br)%W=d:=by
      have:la+W-lb-br=d:=by omega
      rw [this,Nat.mod_eq_of_lt hdW]
    unfold WB
    rw [e1,e4,ea,eb,Nat.one_mul];omega
  · obtain ⟨d,hd⟩:∃ d,la=lb+br+d:=⟨la-lb-br,by omega⟩
    have hdW:d<W:=by omega
    have e3:la*W^j=lb*W^j+br*W^j+d*W^j:=by rw [←Nat.add_mul,←Nat.add_mul,hd]
    have hlt : ¬ a%W^(j+1)<b%W^(j+1):=by rw [ea,eb];omega
    have e1:YU a b (j+1)=0:=by unfold YU;rw [if_neg hlt]
    refine ⟨by rw [if_neg h,e1],?_⟩
    have e4:(la+W-lb-br)%W=d:=by
      have:la+W-lb-br=d+W:=by omega
      rw [this,Nat.add_mod_right,Nat.mod_eq_of_lt hdW]
    unfold WB
    rw [e1,e4,ea,eb,Nat.zero_mul];omega
theorem QC(x y:Nat) :fc .and .u64 (x:Int) (y:Int)=((x%W &&& y%W:Nat):Int):=by
  have e:(BitVec.ofInt IntKind.u64.bits (x:Int) &&& BitVec.ofInt IntKind.u64.bits (y:Int)).toNat=(x%W &&& y%W):=by
    show (BitVec.ofInt 64 (x:Int) &&& BitVec.ofInt 64 (y:Int)).toNat=_
    rw [FV,FV,BitVec.toNat_and,BitVec.toNat_ofNat,BitVec.toNat_ofNat]
  unfold fc
  simp only
  rw [e,o0]
  congr 1
  exact Nat.mod_eq_of_lt (Nat.lt_of_le_of_lt Nat.and_le_left (Nat.mod_lt _ (by decide)))
theorem aix(x y:Nat) :fc .or .u64 (x:Int) (y:Int)=((x%W ||| y%W:Nat):Int):=by
  have e:(BitVec.ofInt IntKind.u64.bits (x:Int) ||| BitVec.ofInt IntKind.u64.bits (y:Int)).toNat=(x%W ||| y%W):=by
    show (BitVec.ofInt 64 (x:Int) ||| BitVec.ofInt 64 (y:Int)).toNat=_
    rw [FV,FV,BitVec.toNat_or,BitVec.toNat_ofNat,BitVec.toNat_ofNat]
  unfold fc
  simp only
  rw [e,o0]
  congr 1
  exact Nat.mod_eq_of_lt (Nat.or_lt_two_pow (n:=64) (Nat.mod_lt _ (by decide)) (Nat.mod_lt _ (by decide)))
theorem amM{k:Nat}(h:k≤64) :min (Int.toNat (k:Int)) IntKind.u64.bits=k:=by
  show min k 64=k;omega
theorem amN(k:Nat) :(2:Int)^k=((2^k:Nat):Int):=by rw [Int.natCast_pow];rfl
theorem auz(x y:Nat) :Int.fdiv (x:Int) (y:Int)=((x/y:Nat):Int):=by
  rw [Int.fdiv_eq_ediv_of_nonneg _ (Int.natCast_nonneg y),Int.natCast_ediv]
theorem Dk(x:Nat){k:Nat}(h:k≤64) :Int.fdiv (x:Int) (2^(min (Int.toNat (k:Int)) IntKind.u64.bits))=((x/2^k:Nat):Int):=by
  rw [amM h,amN,auz]
theorem QD(x:Nat){k:Nat}(h:k≤64) :IntKind.u64.wrap ((x:Int)*2^(min (Int.toNat (k:Int)) IntKind.u64.bits))=((x*2^k%W:Nat):Int):=by
  rw [amM h,amN,←Int.natCast_mul,o0]
theorem kg{x:Nat}(h:x<W) :IntKind.u64.wrap (x:Int)=(x:Int):=by rw [o0,Nat.mod_eq_of_lt h]
theorem ow(x y:Nat) :IntKind.u64.wrap ((x:Int)+(y:Int))=(((x+y)%W:Nat):Int):=by rw [←Int.natCast_add,o0]
theorem y8(x y:Nat) :IntKind.u64.wrap ((x:Int)*(y:Int))=(((x*y)%W:Nat):Int):=by rw [←Int.natCast_mul,o0]
theorem aiy{x:Nat}(h:x<W) :fc .and .u64 (x:Int) 4294967295=((x%4294967296:Nat):Int):=by
  show fc .and .u64 (x:Int) ((4294967295:Nat):Int)=_
  rw [QC,Nat.mod_eq_of_lt h,Nat.mod_eq_of_lt (by decide:4294967295<W)]
  congr 1
  exact Nat.and_two_pow_sub_one_eq_mod x 32
theorem ap1{x y:Nat}(hx:x<W)(hy:y<W) :
    (x/4294967296*(y%4294967296)+x%4294967296*(y%4294967296)/4294967296)<W ∧
    x%4294967296*(y%4294967296)<W∧x/4294967296*(y%4294967296)<W∧x/4294967296*(y/4294967296)<W∧x%4294967296*(y/4294967296)<W ∧
    (x/4294967296*(y%4294967296)+x%4294967296*(y%4294967296)/4294967296)%4294967296+x%4294967296*(y/4294967296)<W ∧
    x/4294967296*(y/4294967296)+(x/4294967296*(y%4294967296)+x%4294967296*(y%4294967296)/4294967296)/4294967296<W ∧
    x/4294967296*(y/4294967296)+(x/4294967296*(y%4294967296)+x%4294967296*(y%4294967296)/4294967296)/4294967296 +
      ((x/4294967296*(y%4294967296)+x%4294967296*(y%4294967296)/4294967296)%4294967296+x%4294967296*(y/4294967296))/4294967296=x*y/W∧x*y/W<W:=by
  have hx:x<18446744073709551616:=hx
  have hy:y<18446744073709551616:=hy
  have hx1:x/4294967296≤4294967295:=by omega
  have hy1:y/4294967296≤4294967295:=by omega
  have hx0:x%4294967296≤4294967295:=by omega
  have hy0:y%4294967296≤4294967295:=by omega
  have e:x*y=x/4294967296*(y/4294967296)*(4294967296*4294967296)+x/4294967296*(y%4294967296)*4294967296+(x%4294967296*(y/4294967296)*4294967296+x%4294967296*(y%4294967296)):=by
    have ex:x=x/4294967296*4294967296+x%4294967296:=by omega
    have ey:y=y/4294967296*4294967296+y%4294967296:=by omega
    generalize x/4294967296=a at *
    generalize x%4294967296=b at *
    generalize y/4294967296=c at *
    generalize y%4294967296=d at *
    rw [ex,ey,Nat.add_mul,Nat.mul_add,Nat.mul_add]
    generalize 4294967296=H
    ac_rfl
  have p1:=Nat.mul_le_mul hx1 hy1
  have p2:=Nat.mul_le_mul hx1 hy0
  have p3:=Nat.mul_le_mul hx0 hy1
  have p4:=Nat.mul_le_mul hx0 hy0
  rw [e]
  generalize x/4294967296*(y/4294967296)=s at *
  generalize x/4294967296*(y%4294967296)=p at *
  generalize x%4294967296*(y/4294967296)=q at *
  generalize x%4294967296*(y%4294967296)=r at *
  clear e hx hy hx1 hy1 hx0 hy0
  have eW:W=18446744073709551616:=rfl
  rw [eW]
  refine ⟨?_,?_,?_,?_,?_,?_,?_,?_,?_⟩<;>omega
def vt(O a m k i:Nat) :Nat:=O%W^(k+i)+a%W^i*m*W^k
theorem ag0(O a m k i:Nat) :vt O a m k (i+1)=vt O a m k i%W^(k+i)+(O/W^(k+i)%W+a/W^i%W*m+vt O a m k i/W^(k+i))*W^(k+i):=by
  have h:=Nat.div_add_mod (vt O a m k i) (W^(k+i))
  have e:W^i*W^k=W^(k+i):=by rw [Nat.pow_add,Nat.mul_comm]
  have e2:(a/W^i%W)*W^i*m*W^k=a/W^i%W*m*W^(k+i):=by
    rw [←e];generalize a/W^i%W=x;ac_rfl
  have e3:vt O a m k (i+1)=vt O a m k i+(O/W^(k+i)%W*W^(k+i)+a/W^i%W*m*W^(k+i)):=by
    unfold vt
    rw [←Nat.add_assoc k i 1,vq O,vq a,Nat.add_mul,Nat.add_mul,e2]
    omega
  rw [e3,Nat.add_mul,Nat.add_mul,Nat.mul_comm (vt O a m k i/W^(k+i))]
  omega
theorem ap2{O a m k i:Nat} :vt O a m k i/W^(k+i)≤m:=by
  have h1:=Nat.mod_lt O (gY (k+i))
  have h2:=Nat.mod_lt a (gY i)
  have e:W^i*W^k=W^(k+i):=by rw [Nat.pow_add,Nat.mul_comm]
  have h3:a%W^i*m*W^k≤W^(k+i)*m:=by
    have:a%W^i*(m*W^k)≤W^i*(m*W^k):=Nat.mul_le_mul_right _ (by omega)
    have e4:W^i*(m*W^k)=W^(k+i)*m:=by rw [←e];ac_rfl
    rw [Nat.mul_assoc];omega
  have:vt O a m k i<(m+1)*W^(k+i):=by
    rw [Nat.add_mul,Nat.one_mul,Nat.mul_comm m]
    unfold vt;omega
  have:=(Nat.div_lt_iff_lt_mul (gY (k+i))).2 this
  omega
def acK(O a m k n i:Nat) :List Int:=eY (fun q=>if q<k+i then lm (vt O a m k i%W^(k+i)) q else lm O q) n
theorem auA{O a m k n i:Nat} :(acK O a m k n i).length=n:=dS
theorem avx{O a m k n i:Nat}(h:k+i<n) :(acK O a m k n i).getD (k+i) 0=lm O (k+i):=by
  unfold acK;rw [qA h,if_neg (Nat.lt_irrefl _)]
theorem as5{O a m k n:Nat} :acK O a m k n 0=aA O n:=by
  refine cE fun q hq=>?_
  by_cases h:q<k+0
  · rw [if_pos h]
    have e:vt O a m k 0%W^(k+0)=O%W^k:=by unfold vt;rw [Nat.pow_zero,Nat.mod_one,Nat.zero_mul,Nat.zero_mul,Nat.add_zero,Nat.add_zero,Nat.mod_mod]
    rw [e]
    have:(aA (O%W^k) k).getD q 0=(aA O k).getD q 0:=by rw [aux]
    rwa [XW (by omega),XW (by omega)] at this
  · rw [if_neg h]
theorem as6{O a m k n i:Nat}(h:k+i<n) :(acK O a m k n i).set (k+i) (((O/W^(k+i)%W+a/W^i%W*m+vt O a m k i/W^(k+i))%W:Nat):Int)=acK O a m k n (i+1):=by
  unfold acK
  rw [ru h]
  refine cE fun q hq=>?_
  have hS:=Nat.mod_lt (vt O a m k i) (gY (k+i))
  obtain ⟨_,d2⟩:=OG (t:=O/W^(k+i)%W+a/W^i%W*m+vt O a m k i/W^(k+i)) hS
  rw [←ag0] at d2
  have hl:=OF hS (Nat.mod_lt (O/W^(k+i)%W+a/W^i%W*m+vt O a m k i/W^(k+i)) (show W>0 by decide)) q
  rw [←d2] at hl
  rw [←Nat.add_assoc k i 1]
  by_cases e:q=k+i
  · rw [if_pos e] at hl ⊢
    rw [if_pos (by omega),hl]
  · rw [if_neg e] at hl ⊢
    by_cases r:q<k+i
    · rw [if_pos r,if_pos (by omega),hl]
    · rw [if_neg r,if_neg (by omega)]
theorem amO{O a m k n:Nat}(hO:O<W^(k+n))(ha:a<W^n) :vt O a m k n=O+a*m*W^k:=by
  unfold vt;rw [Nat.mod_eq_of_lt hO,Nat.mod_eq_of_lt ha]
theorem auB{O a m k n N:Nat}(hO:O<W^(k+n)) :acK O a m k N n=aA (vt O a m k n%W^(k+n)) N:=by
  refine cE fun q hq=>?_
  by_cases h:q<k+n
  · rw [if_pos h]
  · rw [if_neg h,Dj (Nat.lt_of_lt_of_le hO (Nat.pow_le_pow_right (by decide) (by omega))),Dj (Nat.lt_of_lt_of_le (Nat.mod_lt _ (gY _)) (Nat.pow_le_pow_right (by decide) (by omega)))]
theorem auC{x y c o:Nat}(hx:x<W)(hy:y<W)(hc:c<W)(ho:o<W) :
    (o+(x*y%W+c)%W)%W=(o+x*y+c)%W∧(x*y/W+(x*y%W+c)/W)<W∧x*y/W+(x*y%W+c)/W+(o+(x*y%W+c)%W)/W=(o+x*y+c)/W∧(o+x*y+c)/W<W:=by
  have hp:x*y≤18446744073709551615*18446744073709551615:=Nat.mul_le_mul (by have:x<18446744073709551616:=hx;omega) (by have:y<18446744073709551616:=hy;omega)
  have hc:c<18446744073709551616:=hc
  have ho:o<18446744073709551616:=ho
  generalize x*y=p at *
  have eW:W=18446744073709551616:=rfl
  rw [eW]
  refine ⟨?_,?_,?_,?_⟩<;>omega
def tz(v:Nat) :Nat:=if h:v%2=1∨v=0 then 0 else tz (v/2)+1
termination_by v
decreasing_by omega
theorem kC(n:Nat) :0<2^n:=Nat.pow_pos (by decide)
theorem LS:∀ {z v:Nat},v%2^z=0→v/2^z%2=1→tz v=z
  | 0,v,h0,h1=>by rw [Nat.pow_zero,Nat.div_one] at h1;rw [tz,dif_pos (.inl h1)]
  | z+1,v,h0,h1=>by
    have p:=kC z
    rw [Nat.pow_succ] at h0 h1
    rw [Nat.mul_comm (2^z),Nat.mod_mul] at h0
    rw [Nat.mul_comm (2^z),←Nat.div_div_eq_div_mul] at h1
    have a0:v%2=0:=by omega
    have a1:v/2%2^z=0:=by omega
    have a2:v≠0:=by intro e;subst e;simp at h1
    rw [tz,dif_neg (by omega),LS a1 h1]
theorem Dl:∀ (v:Nat),v≠0→v%2^tz v=0∧v/2^tz v%2=1:=by
  intro v
  induction v using Nat.strongRecOn with
  | _ v ih =>
    intro h
    rw [tz]
    split
    · rename_i q;rw [Nat.pow_zero,Nat.mod_one,Nat.div_one];omega
    · rename_i q
      obtain ⟨h1,h2⟩:=ih (v/2) (by omega) (by omega)
      rw [Nat.pow_succ,Nat.mul_comm (2^_),Nat.mod_mul,←Nat.div_div_eq_div_mul,h1,h2]
      omega
theorem avy:tz 0=0:=by rw [tz,dif_pos (.inr rfl)]
theorem ap3{v:Nat}(h:v≠0)(k:Nat) :tz (v*2^k)=tz v+k:=by
  obtain ⟨h1,h2⟩:=Dl v h
  refine LS ?_ ?_
  · rw [Nat.pow_add,Nat.mul_mod_mul_right,h1,Nat.zero_mul]
  · rw [Nat.pow_add,Nat.mul_div_mul_right _ _ (kC k),h2]
theorem ag1{v n:Nat}(h:v≠0)(hv:v<2^n) :tz v<n:=by
  obtain ⟨h1,h2⟩:=Dl v h
  rcases Nat.lt_or_ge (tz v) n with q | q
  · exact q
  · rw [Nat.div_eq_of_lt (Nat.lt_of_lt_of_le hv (Nat.pow_le_pow_right (by decide) q))] at h2;omega
theorem asd{v:Nat}(h:v≠0) :v/2^tz v*2^tz v=v:=Nat.div_mul_cancel (Nat.dvd_of_mod_eq_zero (Dl v h).1)
theorem auD{v:Nat}(h:v≠0) :v/2^tz v≠0:=by intro e;have:=(Dl v h).2;rw [e] at this;omega
theorem avz{x:Nat}(h0:x≠0)(h:x<W) :x &&& (W-x)=2^tz x:=by
  have hz:=ag1 (n:=64) h0 h
  have ho:=(Dl x h0).2
  have hb:=asd h0
  have hno:=auD h0
  revert ho hb hno
  generalize x/2^tz x=o
  revert hz
  generalize tz x=z
  intro hz ho hb hno
  have e64:W=2^(64-z)*2^z:=by rw [←Nat.pow_add];show 2^64=_;congr 1;omega
  have hlt:o<2^(64-z):=by
    rw [←hb,e64] at h
    exact Nat.lt_of_mul_lt_mul_right h
  have e1:x=o <<< z:=by rw [Nat.shiftLeft_eq,hb]
  have e2:W-x=(2^(64-z)-o) <<< z:=by rw [Nat.shiftLeft_eq,Nat.sub_mul,hb,←e64]
  rw [e2,e1,←Nat.shiftLeft_and_distrib,Nat.shiftLeft_eq]
  have:o &&& (2^(64-z)-o)=1:=by
    apply Nat.eq_of_testBit_eq
    intro i
    obtain ⟨p,rfl⟩:∃ p,o=p+1:=⟨o-1,by omega⟩
    rw [Nat.testBit_and,Nat.testBit_two_pow_sub_succ (by omega)]
    rcases i with _ | i
    · have:(p+1).testBit 0=true:=by rw [Nat.testBit_zero];exact decide_eq_true ho
      have q:p.testBit 0=false:=by rw [Nat.testBit_zero];exact decide_eq_false (by omega)
      rw [this,q];simp;omega
    · rw [Nat.testBit_succ,Nat.testBit_succ,show (p+1)/2=p/2 by omega,Nat.testBit_succ]
      simp
      intro a b;exact a
  rw [this,Nat.one_mul]
theorem Bd{z:Nat}(h:z<64) :2^z<W:=Nat.pow_lt_pow_right (by decide) h
theorem ag2{a x m:Nat}(h:a%m+x<m) :(a+x)%m=a%m+x∧(a+x)/m=a/m:=by
  have e:a+x=(a%m+x)+m*(a/m):=by have:=Nat.mod_add_div a m;omega
  have hm:0<m:=by omega
  constructor
  · rw [e,Nat.add_mul_mod_self_left,Nat.mod_eq_of_lt h]
  · rw [e,Nat.add_mul_div_left _ _ hm,Nat.div_eq_of_lt h,Nat.zero_add]
theorem awv{u x j:Nat}(hx:u/W^j%W+x<W)(i:Nat) :lm (u+x*W^j) i=if i=j then lm u j+(x:Int) else lm u i:=by
  unfold lm
  by_cases e:i=j
  · subst e
    rw [if_pos rfl,Nat.add_mul_div_right _ _ (gY i)]
    rw [(ag2 hx).1,Int.natCast_add]
  · rw [if_neg e]
    congr 1
    rcases Nat.lt_or_ge i j with h | h
    · obtain ⟨d,rfl⟩:∃ d,j=i+1+d:=⟨j-i-1,by omega⟩
      have:x*W^(i+1+d)=(x*W^d*W)*W^i:=by
        rw [Nat.pow_add,Nat.pow_succ];simp only [Nat.mul_assoc,Nat.mul_comm,Nat.mul_left_comm]
      rw [this,Nat.add_mul_div_right _ _ (gY i),Nat.add_mul_mod_self_right]
    · have e2:i=j+1+(i-j-1):=by omega
      have key:(u+x*W^j)/W^(j+1)=u/W^(j+1):=by
        rw [Nat.pow_succ,←Nat.div_div_eq_div_mul,←Nat.div_div_eq_div_mul,Nat.add_mul_div_right _ _ (gY j),(ag2 hx).2]
      rw [e2,Nat.pow_add,←Nat.div_div_eq_div_mul,←Nat.div_div_eq_div_mul,key]
theorem amP{u x j n:Nat}(hx:u/W^j%W+x<W)(hj:j<n) :(aA u n).set j (((u/W^j%W+x:Nat)):Int)=aA (u+x*W^j) n:=by
  unfold aA
  rw [ru hj]
  refine cE fun i _=>?_
  rw [awv hx]
  by_cases e:i=j
  · subst e;rw [if_pos rfl,if_pos rfl,vr,Int.natCast_add]
  · rw [if_neg e,if_neg e]
theorem auE{x r:Nat}(hx:x<W)(hr:r<64) :x*2^r=x*2^r%W+x/2/2^(63-r)*W∧x/2/2^(63-r)<2^r∧x/2/2^(63-r)=x*2^r/W:=by
  have e:W=2^r*2^(64-r):=by rw [←Nat.pow_add];show 2^64=_;congr 1;omega
  have h1:x/2/2^(63-r)=x*2^r/W:=by
    rw [Nat.div_div_eq_div_mul,show 2*2^(63-r)=2^(64-r) by rw [show 64-r=(63-r)+1 by omega,Nat.pow_succ,Nat.mul_comm],e,Nat.mul_comm x,Nat.mul_div_mul_left _ _ (kC r)]
  refine ⟨?_,?_,h1⟩
  · rw [h1];have:=Nat.div_add_mod (x*2^r) W;rw [Nat.mul_comm W] at this;omega
  · rw [h1]
    refine Nat.div_lt_of_lt_mul ?_
    exact Nat.mul_lt_mul_of_pos_right hx (kC r)
theorem ap4{h x r:Nat}(hh:h<2^r) :h ||| x*2^r=h+x*2^r:=by
  rw [Nat.or_comm,Nat.mul_comm,Nat.add_comm]
  exact (Nat.two_pow_add_eq_or_of_lt hh x).symm
theorem auF{V r:Nat}(hr:r<64) :V/2^r%W=V%W/2^r+(V/W%W)*2%W*2^(63-r)%W ∧
    (V%W/2^r ||| (V/W%W)*2%W*2^(63-r)%W)=V%W/2^r+(V/W%W)*2%W*2^(63-r)%W:=by
  have e:W=2^r*2^(64-r):=by rw [←Nat.pow_add];show 2^64=_;congr 1;omega
  have e':2^(64-r)=2^(63-r)*2:=by rw [←Nat.pow_succ];congr 1;omega
  have hlo:V%W/2^r<2^(64-r):=by
    refine Nat.div_lt_of_lt_mul ?_
    rw [←e];exact Nat.mod_lt _ (by decide)
  have f:(V/W%W)*2%W*2^(63-r)%W=(V/W%2^r)*2^(64-r):=by
    rw [Nat.mod_mul_mod,Nat.mul_assoc,Nat.mul_comm 2,←e']
    have:(V/W%W)%2^r=V/W%2^r:=by rw [e,Nat.mod_mul_right_mod]
    rw [←this]
    rw [e]
    rw [Nat.mul_mod_mul_right]
  have g:V/2^r=V%W/2^r+V/W*2^(64-r):=by
    have h:=Nat.mod_add_div V W
    have:V=V%W+(V/W*2^(64-r))*2^r:=by
      rw [Nat.mul_assoc,Nat.mul_comm (2^(64-r)),←e,Nat.mul_comm (V/W)];exact h.symm
    rw [this,Nat.add_mul_div_right _ _ (kC r)]
    rw [←this]
  refine ⟨?_,?_⟩
  · rw [f,g]
    have:V/W*2^(64-r)=(V/W%2^r)*2^(64-r)+(V/W/2^r)*W:=by
      have q:=Nat.mod_add_div (V/W) (2^r)
      rw [show (V/W/2^r)*W=2^r*(V/W/2^r)*2^(64-r) by rw [Nat.mul_comm (2^r),Nat.mul_assoc,←e],←Nat.add_mul,q]
    rw [this,←Nat.add_assoc,Nat.add_mul_mod_self_right]
    refine Nat.mod_eq_of_lt ?_
    have a:V/W%2^r<2^r:=Nat.mod_lt _ (kC r)
    have b:(V/W%2^r+1)*2^(64-r)≤2^r*2^(64-r):=Nat.mul_le_mul_right _ a
    rw [←e,Nat.add_mul,Nat.one_mul] at b
    omega
  · rw [f];exact ap4 hlo
theorem auG{x:Nat}(h0:x≠0)(h:x<W) :IntKind.u64.wrap ((0:Int)-(x:Int))=((W-x:Nat):Int):=by
  have h':x<18446744073709551616:=h
  simp only [IntKind.wrap,IntKind.signed,IntKind.bits]
  simp
  show -(x:Int)%18446744073709551616=((18446744073709551616-x:Nat):Int)
  omega
theorem YV{r:Nat}(hr:r<64) :IntKind.u64.wrap ((63:Int)-(r:Int))=((63-r:Nat):Int):=by
  have e:(63:Int)-(r:Int)=((63-r:Nat):Int):=by omega
  rw [e,kg (Nat.lt_of_le_of_lt (Nat.sub_le 63 r) (by decide))]
theorem auH{v q r i n:Nat}(hr:r<64)(hi:i+q+1<n) :
    ((aA (v%W^i*2^r*W^q) n).set (i+q) (fc .or .u64 ((aA (v%W^i*2^r*W^q) n).getD (i+q) 0) (((v/W^i%W)*2^r%W:Nat):Int))).set (i+q+1) (((v/W^i%W)/2/2^(63-r):Nat):Int)=aA (v%W^(i+1)*2^r*W^q) n:=by
  have hL:v/W^i%W<W:=Nat.mod_lt _ (by decide)
  have ev:v%W^(i+1)=v%W^i+(v/W^i%W)*W^i:=vq v i
  rw [ev]
  generalize v/W^i%W=L at hL
  have hu:v%W^i<W^i:=Nat.mod_lt _ (gY i)
  generalize v%W^i=u at hu
  obtain ⟨s1,s2,s3⟩:=auE hL hr
  have pr:2^r<W:=Bd hr
  have hh:u*2^r/W^i<2^r:=Nat.div_lt_of_lt_mul (Nat.mul_lt_mul_of_pos_right hu (kC r))
  have hd:u*2^r*W^q/W^(i+q)=u*2^r/W^i:=by rw [Nat.pow_add,Nat.mul_div_mul_right _ _ (gY q)]
  have e64:W=2^(64-r)*2^r:=by rw [←Nat.pow_add];show 2^64=_;congr 1;omega
  have hlow:L*2^r%W=(L%2^(64-r))*2^r:=by rw [e64,Nat.mul_mod_mul_right]
  have hsum:u*2^r/W^i+L*2^r%W<W:=by
    have a:L%2^(64-r)<2^(64-r):=Nat.mod_lt _ (kC _)
    have b:(L%2^(64-r)+1)*2^r≤2^(64-r)*2^r:=Nat.mul_le_mul_right _ a
    rw [←e64,Nat.add_mul,Nat.one_mul,←hlow] at b
    omega
  have hm:u*2^r/W^i%W=u*2^r/W^i:=Nat.mod_eq_of_lt (by omega)
  have hl:L*2^r%W<W:=Nat.mod_lt _ (by decide)
  rw [XW (by omega),vr,hd,aix,Nat.mod_mod,hm,Nat.mod_eq_of_lt hl]
  rw [hlow,ap4 hh,←hlow]
  have hx:u*2^r*W^q/W^(i+q)%W+L*2^r%W<W:=by rw [hd,hm];exact hsum
  have e:=amP (n:=n) hx (show i+q<n by omega)
  rw [hd,hm] at e
  rw [e]
  have hU:u*2^r*W^q+L*2^r%W*W^(i+q)<W^(i+q+1):=by
    have a:=Nat.mod_add_div (u*2^r*W^q) (W^(i+q))
    have b:=Nat.mod_lt (u*2^r*W^q) (gY (i+q))
    rw [hd] at a
    have c:(u*2^r/W^i+L*2^r%W+1)*W^(i+q)≤W*W^(i+q):=Nat.mul_le_mul_right _ hsum
    rw [Nat.add_mul,Nat.add_mul,Nat.one_mul,Nat.mul_comm _ (W^(i+q))] at c
    rw [Nat.pow_succ,Nat.mul_comm _ W]
    omega
  rw [vp hU (by omega) hi]
  congr 1
  rw [Nat.pow_succ,Nat.mul_comm (W^(i+q)),←Nat.mul_assoc,Nat.add_assoc,←Nat.add_mul,←s1,Nat.pow_add,Nat.add_mul,Nat.add_mul]
  congr 1
  simp only [Nat.mul_assoc,Nat.mul_comm,Nat.mul_left_comm]
theorem JV(k:Nat) :2^k=2^(k%64)*W^(k/64):=by
  show 2^k=2^(k%64)*(2^64)^(k/64)
  rw [←Nat.pow_mul,←Nat.pow_add];congr 1;omega
theorem auI{v k i:Nat} :lm (v/2^k) i=((v/W^(i+k/64)/2^(k%64)%W:Nat):Int):=by
  unfold lm
  rw [JV k,Nat.div_div_eq_div_mul,Nat.div_div_eq_div_mul,Nat.pow_add]
  congr 3
  simp only [Nat.mul_assoc,Nat.mul_comm,Nat.mul_left_comm]
theorem aww{v k n:Nat}(h:v<W^n)(hq:k/64≤n) :v/2^k<W^(n-k/64):=by
  refine Nat.div_lt_of_lt_mul (Nat.lt_of_lt_of_le h ?_)
  rw [JV k,Nat.mul_assoc,←Nat.pow_add]
  have:k/64+(n-k/64)=n:=by omega
  rw [this]
  exact Nat.le_mul_of_pos_left _ (kC _)
theorem auJ{v k n:Nat}(h:v<W^n) :v*2^k<W^(n+k/64+1):=by
  rw [JV k,Nat.pow_succ,Nat.pow_add,←Nat.mul_assoc,Nat.mul_right_comm]
  have a:v*W^(k/64)<W^n*W^(k/64):=Nat.mul_lt_mul_of_pos_right h (gY _)
  have b:2^(k%64)<W:=Bd (Nat.mod_lt _ (by decide))
  exact Nat.mul_lt_mul_of_lt_of_le a (Nat.le_of_lt b) (by decide)
theorem amQ{v k n:Nat}(h:v<W^n)(hq:n≤k/64) :v/2^k=0:=by
  refine Nat.div_eq_of_lt (Nat.lt_of_lt_of_le h ?_)
  rw [JV k]
  exact Nat.le_trans (Nat.pow_le_pow_right (by decide) hq) (Nat.le_mul_of_pos_left _ (kC _))
def sg(s:Bool)(v:Nat) :Int:=if s then -(v:Int) else (v:Int)
def nS(z:Int) :Bool:=decide (z<0)
def nM(z:Int) :Nat:=z.natAbs/2^tz z.natAbs
def nE(z e:Int) :Int:=if z=0 then 0 else e+(tz z.natAbs:Nat)
theorem JW{s:Bool}{v:Nat} :(sg s v).natAbs=v:=by cases s<;>simp [sg]
theorem ase(z:Int) :sg (nS z) z.natAbs=z:=by
  unfold sg nS
  by_cases h:z<0
  · rw [decide_eq_true h];simp;omega
  · rw [decide_eq_false h];simp;omega
theorem vu{s:Bool}{v:Nat} :sg s v=0↔v=0:=by cases s<;>simp [sg]
theorem ap5{s:Bool}{v w:Nat} :sg s (v*w)=sg s v*(w:Int):=by
  cases s
  · simp [sg]
  · simp [sg,Int.neg_mul]
theorem av6{s:Bool}{v:Nat}(h:v≠0) :nS (sg s v)=s:=by
  unfold nS sg
  cases s
  · simp
  · simp;omega
theorem ag3{s t:Bool}{v w:Nat} :sg s v*sg t w=sg (s != t) (v*w):=by
  cases s<;>cases t<;>simp [sg,Int.neg_mul,Int.mul_neg]
theorem jl:nM 0=0:=by unfold nM;rw [Int.natAbs_zero,Nat.zero_div]
theorem fi{e:Int} :nE 0 e=0:=by unfold nE;rw [if_pos rfl]
theorem XX:nS 0=false:=by decide
theorem iU{z e:Int}(h:z≠0) :nE z e=e+(tz z.natAbs:Nat):=if_neg h
theorem ap6{z:Int}(h:z≠0) :z.natAbs≠0:=by omega
theorem F1{z:Int}(h:z≠0) :nM z≠0:=auD (ap6 h)
theorem av7{z:Int} :nM z≤z.natAbs:=Nat.div_le_self _ _
theorem auK{z:Int} :nM (-z)=nM z:=by unfold nM;rw [Int.natAbs_neg]
theorem auL{z e:Int} :nE (-z) e=nE z e:=by unfold nE;rw [Int.natAbs_neg];by_cases h:z=0<;>simp [h]
theorem asf(z:Int) :nM z*2^tz z.natAbs=z.natAbs:=by
  by_cases h:z=0
  · subst h;rw [jl];simp
  · exact asd (ap6 h)
theorem QE(z:Int) :sg (nS z) (nM z)*((2^tz z.natAbs:Nat):Int)=z:=by
  rw [←ap5,asf,ase]
theorem F2{z z':Int}{m:Nat}(h:z=z'*((2^m:Nat):Int))(e:Int) :nS z=nS z'∧nM z=nM z'∧nE z e=nE z' (e+m):=by
  have p:=kC m
  have ha:z.natAbs=z'.natAbs*2^m:=by rw [h,Int.natAbs_mul,Int.natAbs_natCast]
  by_cases h0:z'=0
  · subst h0
    rw [Int.zero_mul] at h;subst h
    exact ⟨rfl,rfl,by rw [fi,fi]⟩
  · have hn:=ap6 h0
    have hz:z≠0:=by
      intro q
      rw [q,Int.natAbs_zero] at ha
      rcases Nat.mul_eq_zero.1 ha.symm with w | w
      · exact hn w
      · omega
    refine ⟨?_,?_,?_⟩
    · unfold nS
      congr 1
      rw [h]
      have pp:(0:Int)<((2^m:Nat):Int):=Int.natCast_pos.2 p
      refine propext ⟨fun q=>?_,fun q=>Int.mul_neg_of_neg_of_pos q pp⟩
      rcases Int.lt_trichotomy z' 0 with w | w | w
      · exact w
      · exact absurd w h0
      · exact absurd q (Int.not_lt.2 (Int.le_of_lt (Int.mul_pos w pp)))
    · unfold nM
      rw [ha,ap3 hn,Nat.pow_add,Nat.mul_div_mul_right _ _ p]
    · rw [iU hz,iU h0,ha,ap3 hn];omega
theorem QF{z e:Int}{s:Bool}(hs:z≠0→s=nS z) :nS (sg s (nM z))=nS z∧nM (sg s (nM z))=nM z∧nE (sg s (nM z)) (nE z e)=nE z e:=by
  by_cases h0:z=0
  · subst h0
    rw [jl]
    have:sg s 0=0:=by cases s<;>rfl
    rw [this]
    exact ⟨rfl,jl,by rw [fi,fi]⟩
  · rw [hs h0]
    obtain ⟨a,b,c⟩:=F2 (QE z).symm e
    refine ⟨a.symm,b.symm,?_⟩
    rw [iU h0,←c,iU h0]
theorem ot{a b:Nat}(h:a≤b) :nl a≤nl b:=i6 (Nat.lt_of_le_of_lt h (cG b))
theorem amR{v:Nat} :tz v≤64*nl v:=by
  by_cases h:v=0
  · subst h;rw [avy];exact Nat.zero_le _
  · have:=cG v
    have e:W^nl v=2^(64*nl v):=by rw [Nat.pow_mul]
    rw [e] at this
    exact Nat.le_of_lt (ag1 h this)
theorem ap7{a b:Nat} :nl (a*b)≤nl a+nl b:=by
  refine i6 ?_
  rw [Nat.pow_add]
  rcases Nat.eq_zero_or_pos b with h | h
  · rw [h,Nat.mul_zero];exact Nat.mul_pos (gY _) (gY _)
  · exact Nat.mul_lt_mul_of_lt_of_le (cG a) (Nat.le_of_lt (cG b)) (gY _)
theorem aiz{a b n:Nat}(ha:nl a≤n)(hb:nl b≤n) :nl (a+b)≤n+1:=by
  refine i6 ?_
  have h1:=Nat.lt_of_lt_of_le (cG a) (Nat.pow_le_pow_right (n:=W) (by decide) ha)
  have h2:=Nat.lt_of_lt_of_le (cG b) (Nat.pow_le_pow_right (n:=W) (by decide) hb)
  rw [Nat.pow_succ]
  have:W^n*2≤W^n*W:=Nat.mul_le_mul_left _ (by decide)
  omega
theorem av8{z:Int} :nl (nM z)≤nl z.natAbs:=ot av7
def Sm(z e:Int) :Prop:=nl z.natAbs≤300∧-30000≤e∧e≤30000
theorem Sm.l{z e:Int}(h:Sm z e) :nl z.natAbs≤300:=h.1
theorem Sm.m{z e:Int}(h:Sm z e) :nl (nM z)≤300:=Nat.le_trans av8 h.1
theorem Sm.t{z e:Int}(h:Sm z e) :tz z.natAbs≤19200:=Nat.le_trans amR (by have:=h.1;omega)
theorem Sm.b{z e:Int}(h:Sm z e) : -30000≤nE z e∧nE z e≤49200:=by
  have ht:=Sm.t h
  obtain ⟨_,h2,h3⟩:=h
  unfold nE
  split<;>omega
theorem Sm.n{z e:Int}(h:Sm z e) :Sm (-z) e:=by unfold Sm;rw [Int.natAbs_neg];exact h
def Jg(x y:Int) :Int:=if x<y then -1 else if y<x then 1 else 0
theorem auM{s:Bool}{v w:Nat} :sg s v+sg s w=sg s (v+w):=by cases s<;>simp [sg]<;>omega
theorem Tx{s:Bool}{v:Nat} :sg (!s) v = -(sg s v):=by cases s<;>simp [sg]
theorem aiA{s:Bool}{v w:Nat}(h:w≤v) :sg s v-sg s w=sg s (v-w):=by cases s<;>simp [sg]<;>omega
theorem asg{z:Int}{X p:Nat}(h:X*p=z.natAbs) :z=sg (nS z) X*(p:Int):=by rw [←ap5,h,ase]
abbrev PT:Nat:=18446744073709551616
def Tz(x:Nat) :Nat:=x/4503599627370496%2048
def vv(x:Nat) :Bool:=Tz x != 2047
theorem YW{x:Nat}(hx:x<PT)(h:vv x=true) :FloatKind.f64.format.read x=.number (x/9223372036854775808%2==1) (D7 (x%9223372036854775808)) (-1074+(mT (x%9223372036854775808):Int)):=by
  have e1:Ieee.double.signWeight=9223372036854775808:=by decide
  have e2:Ieee.double.binade=4503599627370496:=by decide
  have e3:Ieee.double.infRung=9218868437227405312:=by decide
  have e4:Ieee.double.leastPlace = -1074:=by decide
  have hx:x<18446744073709551616:=hx
  have h':x%9223372036854775808<9218868437227405312:=by
    unfold vv Tz at h;simp only [bne_iff_ne,ne_eq] at h;omega
  show Ieee.double.read x=_
  unfold Ieee.Format.read
  simp only [e1,e2,e3,e4]
  by_cases h3:x%9223372036854775808<4503599627370496
  · rw [if_pos h3]
    have:mT (x%9223372036854775808)=0:=by unfold mT;omega
    simp only [D7,if_pos h3,this];rfl
  · rw [if_neg h3,if_pos h']
    simp only [D7,if_neg h3,mT]
theorem ag4{x:Nat}(hx:x<PT)(h:x%9223372036854775808=9218868437227405312) :FloatKind.f64.format.read x=.infinity (x/9223372036854775808%2==1):=by
  have e1:Ieee.double.signWeight=9223372036854775808:=by decide
  have e2:Ieee.double.binade=4503599627370496:=by decide
  have e3:Ieee.double.infRung=9218868437227405312:=by decide
  have e4:Ieee.double.leastPlace = -1074:=by decide
  show Ieee.double.read x=_
  unfold Ieee.Format.read
  simp only [e1,e2,e3,e4]
  rw [h,if_neg (by decide),if_neg (by decide),if_pos rfl]
theorem as7{x:Nat}(hx:x<PT)(h:9218868437227405312<x%9223372036854775808) :isNaN x=true:=by
  have e1:Ieee.double.signWeight=9223372036854775808:=by decide
  have e2:Ieee.double.binade=4503599627370496:=by decide
  have e3:Ieee.double.infRung=9218868437227405312:=by decide
  have e4:Ieee.double.leastPlace = -1074:=by decide
  show (Ieee.double.read x).isNaN=true
  unfold Ieee.Format.read
  simp only [e1,e2,e3,e4]
  rw [if_neg (by omega),if_neg (by omega),if_neg (by omega)];rfl
theorem ash{x:Nat}(hx:x<PT)(h:vv x=true) :isNaN x=false:=by
  show (Ieee.double.read x).isNaN=false
  have e:=YW hx h
  have e':Ieee.double.read x=_:=e
  rw [e'];rfl
theorem aiB{x:Nat}(hx:x<PT)(h:vv x=true) :X4 x x=false:=by
  unfold X4 w9 Ieee.Format.order
  rw [YW hx h]
  simp [Ieee.Datum.order,Int.min_self]
theorem asi{x y:Nat}(h:isNaN x=true) :X4 x y=true:=by
  obtain ⟨s,t,e⟩:=Bj h
  unfold X4 w9 Ieee.Format.order
  rw [e];rfl
theorem ag5{x:Nat}(hx:x<PT)(h:vv x=false) :isNaN x=true∨(isNaN x=false∧x%9223372036854775808=9218868437227405312∧X4 x x=false):=by
  have hx':x<18446744073709551616:=hx
  have h':9218868437227405312≤x%9223372036854775808:=by
    unfold vv Tz at h;simp only [bne_eq_false_iff_eq] at h;omega
  rcases Nat.lt_or_ge 9218868437227405312 (x%9223372036854775808) with q | q
  · exact .inl (as7 hx q)
  · have e:x%9223372036854775808=9218868437227405312:=by omega
    have r:=ag4 hx e
    refine .inr ⟨?_,e,?_⟩
    · show (Ieee.double.read x).isNaN=false
      have r':Ieee.double.read x=_:=r
      rw [r'];rfl
    · unfold X4 w9 Ieee.Format.order
      rw [r]
      simp [Ieee.Datum.order]
theorem amS{x:Nat}(hx:x<PT) :Ot x=x%9223372036854775808:=by
  unfold Ot;rfl
theorem avA{x:Nat}(hx:x<PT)(h:vv x=true) :fgt (Ot x) 9218868437227405311=false:=by
  have hx':x<18446744073709551616:=hx
  have h':x%9223372036854775808<9218868437227405312:=by
    unfold vv Tz at h;simp only [bne_iff_ne,ne_eq] at h;omega
  unfold fgt
  rw [amS hx,auv h' (by decide)]
  rcases Nat.lt_trichotomy (x%9223372036854775808) 9218868437227405311 with q | q | q
  · rw [Nat.compare_eq_lt.2 q];rfl
  · rw [q];rfl
  · omega
theorem avB{x:Nat}(hx:x<PT)(h:x%9223372036854775808=9218868437227405312) :fgt (Ot x) 9218868437227405311=true:=by
  unfold fgt
  rw [amS hx,h,ap0 (by decide)];rfl
theorem ap8(s:Bool)(m k:Nat) :Ieee.signed s m k+Ieee.signed (!s) m k=0:=by
  cases s<;>simp [Ieee.signed]<;>omega
theorem auN{x:Nat}(hx:x<PT)(h:vv x=true) :alW x x=0:=by
  unfold alW Ieee.Format.sub
  rw [YW hx h]
  simp only [Ieee.Datum.opposite,Ieee.Datum.sum,Int.min_self,Int.sub_self,ap8,if_true]
  cases (x/9223372036854775808%2==1)<;>rfl
theorem auO{x:Nat}(hx:x<PT)(h:vv x=false) :X4 (alW x x) 0=true:=by
  have q:alW x x=alU:=by
    unfold alW Ieee.Format.sub
    rcases ag5 hx h with h1 | ⟨_,h1,_⟩
    · obtain ⟨s,t,e⟩:=Bj h1
      rw [e];rfl
    · rw [ag4 hx h1]
      cases (x/9223372036854775808%2==1)<;>rfl
  rw [q]
  exact asi Ob
theorem amT{x:Nat}(hx:x<PT) :X4 (alW x x) 0 = !(vv x):=by
  cases h:vv x
  · rw [auO hx h];rfl
  · rw [auN hx h];decide +kernel
def fz(x:Nat) :Int:=sg (x/9223372036854775808==1) (D7 (x%9223372036854775808)*2^mT (x%9223372036854775808))
theorem awx{a b:Nat}(h:a≤b) :2^a≤2^b:=Nat.pow_le_pow_right (by decide) h
theorem awy{x a b c:Nat}(hc:c=53+b)(h1:x<9007199254740992)(h2:a≤b) :x*2^a<2^c:=by
  subst hc
  rw [Nat.pow_add]
  exact Nat.mul_lt_mul_of_lt_of_le h1 (awx h2) (kC _)
theorem awz{a b:Nat}(h:a<b) :2^a<2^b:=Nat.pow_lt_pow_right (by decide) h
theorem aw6{x:Nat}(hx:x<PT)(h:vv x=true) :(fz x).natAbs<2^2098:=by
  have hx':x<18446744073709551616:=hx
  unfold fz
  rw [JW]
  have h1:=asa (x%9223372036854775808)
  have h2:mT (x%9223372036854775808)≤2045:=by
    unfold vv Tz at h;simp only [bne_iff_ne,ne_eq] at h;unfold mT;omega
  exact awy (b:=2045) (c:=2098) rfl h1 h2
theorem av9{x:Nat}(hx:x<PT)(h:vv x=true) :nl (fz x).natAbs≤33:=by
  refine i6 (Nat.lt_of_lt_of_le (aw6 hx h) ?_)
  decide +kernel
theorem aw7{x:Nat}(hx:x<PT)(h:vv x=true) :Sm (fz x) (-1074):=⟨Nat.le_trans (av9 hx h) (by decide),by decide,by decide⟩
theorem ap9{σ Y:Type}{B:σ→Option (σ⊕Y)}(I:Nat→σ→Prop)(n:Nat){s0:σ}{Q:Y→Prop}(h0:I 0 s0) 
    (step:∀ j s,j<n→I j s→∃ s',B s=some (.inl s')∧I (j+1) s') (done:∀ s,I n s→∃ y,B s=some (.inr y)∧Q y):∃ y,dh B s0=some y∧Q y:=by
  have key:∀ d i s,i+d=n→I i s→∃ y,dh B s=some y∧Q y:=by
    intro d
    induction d with
    | zero =>
      intro i s e h
      obtain ⟨y,h1,h2⟩:=done s (by rw [Nat.add_zero] at e;rw [←e];exact h)
      exact ⟨y,agY h1,h2⟩
    | succ d ih =>
      intro i s e h
      obtain ⟨s',h1,h2⟩:=step i s (by omega) h
      obtain ⟨y,h3,h4⟩:=ih (i+1) s' (by omega) h2
      exact ⟨y,by rw [amI h1];exact h3,h4⟩
  exact key n 0 s0 (Nat.zero_add n) h0
def cH(f:Nat→Int) :Nat→Int
  | 0=>0
  | n+1=>cH f n+f n
theorem OH{f g:Nat→Int} :∀ {n:Nat},(∀ i,i<n→f i=g i)→cH f n=cH g n
  | 0,_=>rfl
  | n+1,h=>by simp only [cH];rw [OH fun i hi=>h i (by omega),h n (by omega)]
theorem amU{f:Nat→Int}{b:Nat} :∀ {n:Nat},(∀ i,i<n→(f i).natAbs≤b)→(cH f n).natAbs≤n*b
  | 0,_=>by simp [cH]
  | n+1,h=>by
    have h1:=amU (f:=f) (b:=b) (n:=n) fun i hi=>h i (by omega)
    have h2:=h n (by omega)
    simp only [cH]
    rw [Nat.add_mul,Nat.one_mul]
    omega
theorem G8{f:Nat→Int}{k n:Nat}(h:∀ i,i<n→nl (f i).natAbs≤k)(hn:n≤1000000) :nl (cH f n).natAbs≤k+1:=by
  refine i6 ?_
  have h1:=amU (f:=f) (b:=W^k) (n:=n) fun i hi=>Nat.le_of_lt (Nat.lt_of_lt_of_le (cG _) (Nat.pow_le_pow_right (by decide) (h i hi)))
  have h2:n*W^k≤1000000*W^k:=Nat.mul_le_mul_right _ hn
  have h3:1000000*W^k<W*W^k:=Nat.mul_lt_mul_of_pos_right (by decide) (gY k)
  rw [Nat.pow_succ,Nat.mul_comm (W^k)]
  omega
theorem lJ{x y:Int}{a b:Nat}(hx:nl x.natAbs≤a)(hy:nl y.natAbs≤b) :nl (x*y).natAbs≤a+b:=by
  rw [Int.natAbs_mul];exact Nat.le_trans ap7 (by omega)
theorem asj{x y:Int}{a:Nat}(hx:nl x.natAbs≤a)(hy:nl y.natAbs≤a) :nl (x-y).natAbs≤a+1 :=
  Nat.le_trans (ot (show (x-y).natAbs≤x.natAbs+y.natAbs by omega)) (aiz hx hy)
theorem hZ{z e:Int}{k:Nat}(h:nl z.natAbs≤k)(hk:k≤300)(he : -30000≤e∧e≤30000) :Sm z e:=⟨Nat.le_trans h hk,he.1,he.2⟩
theorem asl(z:Int)(k:Nat)(e:Int) :nS z=nS (z*((2^k:Nat):Int))∧nM z=nM (z*((2^k:Nat):Int))∧nE z (e+k)=nE (z*((2^k:Nat):Int)) e:=by
  obtain ⟨a,b,c⟩:=F2 (z:=z*((2^k:Nat):Int)) (z':=z) (m:=k) rfl e
  exact ⟨a.symm,b.symm,c.symm⟩
def r9{α:Type}(f:Nat→α)(d:α)(j n:Nat) :List α:=eY (fun i=>if i<j then f i else d) n
theorem Be{α:Type}{f:Nat→α}{d:α}{n:Nat} :List.replicate n d=r9 f d 0 n:=by
  rw [pz];exact cE fun i _=>(if_neg (Nat.not_lt_zero i)).symm
theorem F3{α:Type}{f:Nat→α}{d:α}{j n:Nat} :(r9 f d j n).length=n:=dS
theorem Bf{α:Type}{f:Nat→α}{d:α}{j n:Nat}(h:j<n) :(r9 f d j n).set j (f j)=r9 f d (j+1) n:=by
  unfold r9
  rw [ru h]
  refine cE fun i _=>?_
  by_cases e:i=j
  · subst e;rw [if_pos rfl,if_pos (Nat.lt_succ_self _)]
  · rw [if_neg e]
    by_cases q:i<j
    · rw [if_pos q,if_pos (by omega)]
    · rw [if_neg q,if_neg (by omega)]
theorem F4{α:Type}{f:Nat→α}{d:α}{n:Nat} :r9 f d n n=eY f n:=cE fun i h=>if_pos h
def mW(g:Nat→Int)(n:Nat) :List Bool:=eY (fun i=>nS (g i)) n
def YX(z:Int) :List Int:=aA (nM z) (nl (nM z))
def m5(g:Nat→Int)(n:Nat) :List (List Int):=eY (fun i=>YX (g i)) n
def m6(g:Nat→Int)(e:Int)(n:Nat) :List Int:=eY (fun i=>nE (g i) e) n
theorem F5{g:Nat→Int}{n:Nat} :(mW g n).length=n:=dS
theorem F6{g:Nat→Int}{n:Nat} :(m5 g n).length=n:=dS
theorem F7{g:Nat→Int}{e:Int}{n:Nat} :(m6 g e n).length=n:=dS
theorem QG{g:Nat→Int}{n i:Nat}(h:i<n) :(mW g n).getD i false=nS (g i):=qA h
theorem QH{g:Nat→Int}{n i:Nat}(h:i<n) :(m5 g n).getD i []=YX (g i):=qA h
theorem QI{g:Nat→Int}{e:Int}{n i:Nat}(h:i<n) :(m6 g e n).getD i 0=nE (g i) e:=qA h
theorem ia{g:Nat→Int}{n:Nat} :ab 0 n (mW g n)=mW g n:=bf F5
theorem ib{g:Nat→Int}{n:Nat} :ab 0 n (m5 g n)=m5 g n:=bf F6
theorem ic{g:Nat→Int}{e:Int}{n:Nat} :ab 0 n (m6 g e n)=m6 g e n:=bf F7
def gz(l:List Nat)(i:Nat) :Int:=fz (l.getD i 0)
def Wd(l:List Nat) :Prop:=∀ i,l.getD i 0<PT
def Fn(l:List Nat) :Prop:=∀ i,i<l.length→vv (l.getD i 0)=true
theorem F8{l:List Nat}(hw:Wd l)(hf:Fn l){i:Nat}(h:i<l.length) :Sm (gz l i) (-1074):=aw7 (hw i) (hf i h)
theorem sa{l:List Nat}(hw:Wd l)(hf:Fn l){i:Nat}(h:i<l.length) :nl (gz l i).natAbs≤33:=av9 (hw i) (hf i h)
end Go.Plb
namespace Go.Proofs.YthikcnkmglbbbaaGreatDoor
open Go.ChangeShapes Go.WideShapes Go.ChangeAt Go.RowKit Go.Plb Go.Plb.Seat
theorem awA:ownKnob Tryz.prog.godebug=none:=by kernel_rfl
theorem avC:laidOutB Tryz.prog=true:=by kernel_rfl
theorem asm : Tryz.prog.globalNamed "math/bits.deBruijn64tab" = some 1 := by kernel_rfl
def QJ : List (String × DataW Unit) := [("math/bits.deBruijn64tab", Rows.laid_math_bits_deBruijn64tab)]
theorem avD:(Rows.laid_math_bits_deBruijn64tab:DataW Unit)=Lib.tabData .u8 bx:=by rfl
theorem awB{W : World}(h : laidMetH Tryz.prog QJ W) : Lib.TabIs Tryz.prog W "math/bits.deBruijn64tab" .u8 bx := by
  have h':laidMet Tryz.prog QJ W:=h
  unfold QJ at h'
  rw [avD] at h'
  exact Lib.tabIs_of_head asm (t:=158) (e:=5) (n:=64) (by kernel_rfl) (by kernel_rfl) (by kernel_rfl) (by kernel_rfl) (by kernel_rfl) h'
theorem avE{W:World}(h:laidMetH Tryz.prog QJ W) :∀ x∈Rom.tab,VR aO.none_ W (.iptr .free x.2 1 0 0) (.pointer (some ⟨x.1,0,none⟩)):=by
  intro x hx
  obtain rfl:=List.mem_singleton.1 hx
  have ht:=awB h
  have cell:∀ i,i<64→W.cell? ⟨1,i,none⟩=some (.int .u8 (bx.getD i 0)):=fun i hi=>ht.cell asm i hi
  have hb:1<W.heap.size:=by
    have h0:=cell 0 (by decide)
    unfold World.cell? at h0
    rcases Nat.lt_or_ge 1 W.heap.size with q | q
    · exact q
    · have e:W.heap[1]? = none:=Array.getElem?_eq_none q
      rw [e] at h0;cases h0
  have look:∀ (y:Nat) v,(bt.ns .u8 bx).cell? y=some v→y<64∧v=.int .u8 (bx.getD y 0):=by
    intro y v hv
    have hv':(bx[y]?).map (fun z=>AV.int .u8 z)=some v:=hv
    cases e:bx[y]? with
    | none=>rw [e] at hv';cases hv'
    | some z =>
      rw [e] at hv'
      have hy:=(List.getElem?_eq_some_iff.1 e).1
      refine ⟨hy,?_⟩
      rw [List.getD_eq_getElem?_getD,e]
      exact (Option.some.inj hv').symm
  exact .iptr .free _ 1 0 0 1 0 (fun y=>.int .u8 (bx.getD y 0)) (Ou _ _) hb
    (fun y v hv=>by rw [Nat.zero_add];exact cell y (look y v hv).1) (fun y v hv=>by rw [(look y v hv).2];exact .int _ _) trivial (fun _=>rfl) rfl
noncomputable def ag6(os:Os) :World :=
  { World.holding Tryz.prog os ⟨#[],#[],[]⟩ with heap:=(World.holding Tryz.prog os ⟨#[],#[],[]⟩).heap.modify 1 fun
      | .cells _ t frozen=>.cells (bx.map fun z=>Value.int .u8 z).toArray t frozen
      | o=>o }
theorem auP(os:Os)(args:Array Value) :laidMetH Tryz.prog QJ ((ag6 os).forCall (fun _ _=>0) ⟨#[],args,[]⟩).memory :=
  (laidMet_of_run' 8 (by kernel_rfl) (by kernel_rfl):laidMet Tryz.prog QJ _)
theorem asn{xs:List Nat}(h:(FA.fl xs).has .fl) :Wd xs:=by
  intro i
  rw [List.getD_eq_getElem?_getD]
  cases e:xs[i]? with
  | none=>decide
  | some x =>
    have hx:=h.2 x (List.mem_of_getElem? e)
    have h2:=hx
    simp only [Lit.wf] at h2
    exact of_decide_eq_true h2
end Go.Proofs.YthikcnkmglbbbaaGreatDoor
namespace Go.Plb.Seat
open Go Go.Plb
set_option linter.unusedSimpArgs false
set_option linter.unusedVariables false
noncomputable abbrev E0:Qj:=bh []
theorem UW:be prog E0:=YJ prog
theorem auQ(y:Nat) :ay prog G2 [] [.flt true y] ⟨.flt true (Ot y),[]⟩:=by
  have h:Jv C0 E0 (rq C0 E0 0 50) G2 [] [.flt true y] (some [])=some (⟨.flt true (fc .andNot .u64 (y:Int) 9223372036854775808).toNat,[]⟩,[],some []):=by kernel_rfl
  have:=ay.run Qy UW _ _ _ h trivial
  rw [awr,Int.toNat_natCast] at this;exact this
theorem aw8(ex:Bool)(x:Nat) :ay prog G2 [] [.flt ex x] ⟨.flt ex (Ot x),[]⟩:=by
  cases ex with
  | true=>exact auQ x
  | false=>exact Ww (r:=fun y=>.flt true (Ot y)) auQ (fun y hf ρ w u h=>h.flt_weak (aws hf))
theorem avF(e1 e2:Bool)(x y:Nat) :ay prog vl [] [.flt e1 x,.flt e2 y] ⟨.bool false (Mu x y),[]⟩:=by
  refine Wx (r:=fun x y=>.bool false (Mu x y)) (fun x y=>?_) (fun x' y' h1 h2 ρ w u h=>by rw [←FR.same h1 h2];exact h)
  have hb:((x:Int)==(y:Int))=(x==y):=by
    rw [Bool.eq_iff_iff];simp;omega
  cases hx:isNaN x with
  | false =>
    have h:Jv C0 E0 (rq C0 E0 0 50) vl [] [.flt true x,.flt true y] (some [0])=some (⟨.bool false ((x:Int)==(y:Int)),[]⟩,[X4 x x==false],some []):=by kernel_rfl
    have:=ay.run Qy UW _ _ _ h ⟨by rw [Jz,hx];rfl,trivial⟩
    rw [hb] at this
    simp only [Mu,hx,Bool.false_and,Bool.false_or];exact this
  | true =>
    cases hy:isNaN y with
    | false =>
      have h:Jv C0 E0 (rq C0 E0 0 50) vl [] [.flt true x,.flt true y] (some [1,0])=some (⟨.bool false ((x:Int)==(y:Int)),[]⟩,[X4 x x==true,X4 y y==false],some []):=by kernel_rfl
      have:=ay.run Qy UW _ _ _ h ⟨by rw [Jz,hx];rfl,by rw [Jz,hy];rfl,trivial⟩
      rw [hb] at this
      simp only [Mu,hx,hy,Bool.and_false,Bool.false_or];exact this
    | true =>
      have h:Jv C0 E0 (rq C0 E0 0 50) vl [] [.flt true x,.flt true y] (some [1,1])=some (⟨.bool true true,[]⟩,[X4 x x==true,X4 y y==true],some []):=by kernel_rfl
      have:=ay.run Qy UW _ _ _ h ⟨by rw [Jz,hx];rfl,by rw [Jz,hy];rfl,trivial⟩
      have e:Mu x y=true:=by simp [Mu,hx,hy]
      rw [e]
      exact this.weak (YK _ _ _)
def auR:aM:=⟨G2,fun L args=>match L,args with | [],[.flt e x]=>one (.flt e (Ot x)) [] | _,_=>none⟩
def aiC:aM:=⟨vl,fun L args=>match L,args with | [],[.flt _ x,.flt _ y]=>one (.bool false (Mu x y)) [] | _,_=>none⟩
theorem auS:aY prog auR:=by
  intro L args alts a h ha ho
  simp only [auR] at h
  split at h
  · exact To h ha ho fun _=>aw8 _ _
  · cases h
theorem aqa:aY prog aiC:=by
  intro L args alts a h ha ho
  simp only [aiC] at h
  split at h
  · exact To h ha ho fun q=>avF _ _ _ _
  · cases h
def L1:List aM:=[auR,aiC]
def S1:Qj:=bh L1
theorem aw9:be prog S1:=ax auS (ax aqa (YJ _))
end Go.Plb.Seat
namespace Go.Plb.Seat
open Go Go.Plb
set_option linter.unusedSimpArgs false
set_option linter.unusedVariables false
set_option maxRecDepth 100000
def wZ(n:Nat) :Bool:=Nat.ble n 1000000000
noncomputable def axa:Empty→aQ:=fun a=>a.elim
noncomputable def axb:Unit→AE×aQ:=fun _=>(.ret,⟨an 8 [(2,.sl 0 1 1 0 0 0)],[(0,.ns .u64 [])],1⟩)
noncomputable def axo:Unit→gM:=fun _=>⟨.sl 0 1 1 0 0 0,[some (.ns .u64 [])]⟩
theorem avG:ay prog eL [] [.zsl true] ⟨.sl 0 1 1 0 0 0,[some (.ns .u64 [])]⟩ :=
  Sg.contract (x:=()) (X:=Unit) (N:=axa) (E:=axb) (m:=some (.inr ())) false axo (by kernel_rfl:prog.funcs[eL]? = some (FN eL)) (by kernel_rfl:(FN eL).body=some (oa eL))
    (Sg.seg (C:=C0) Qy UW 60 (cN (oa eL)) (Av (FN eL) [] [.zsl true]) (.leaf (.inr ())) axa axb [⟨[(.slot 2,.own 1 1 (.ns .u64 []))],[64],[2]⟩] (by kernel_rfl))
    (fun _=>⟨.inr rfl,[.sl 0 1 1 0 0 0],[],by kernel_rfl,trivial,by kernel_rfl⟩) rfl
theorem auT:ay prog eL [] [.zsl false] ⟨.sl 0 1 1 0 0 0,[some (.ns .u64 [])]⟩ :=
  ay.run Qy UW (some []) 0 60 (p':=some []) (obs:=[]) (by kernel_rfl) nob
theorem avH(l:Lv) :ay prog eL [] [.imm l (.ns .u64 []) 1 1 0 0] ⟨.sl 0 1 1 0 0 0,[some (.ns .u64 [])]⟩:=by
  intro ρ w us hN hv
  cases hv with | cons _ u _ _ h1 h2 =>
  cases h2
  have key:∀ (a:Option Addr) cap,jf ρ w [.zsl a.isNone] [.slice a 0 cap]:=fun a cap=>.cons _ _ _ _ (.zsl a cap) .nil
  have all:∀ b,ay prog eL [] [.zsl b] ⟨.sl 0 1 1 0 0 0,[some (.ns .u64 [])]⟩:=fun b=>by
    cases b
    · exact auT
    · exact avG
  cases h1 with
  | imm _ _ _ _ _ _ cap bl o u'=>exact all _ ρ w _ hN (key _ cap)
  | immEnd _ _ _ _ _ cap a=>exact all _ ρ w _ hN (key a cap)
theorem avI(l:Lv)(xs:List Int)(hl:xs.length≤1000000000) :ay prog eL [] [.imm l (.ns .u64 xs) 1 1 0 xs.length] ⟨.sl 0 1 1 0 xs.length xs.length,[some (.ns .u64 xs)]⟩:=by
  rcases Nat.eq_zero_or_pos xs.length with h0 | h0
  · have:xs=[]:=List.length_eq_zero_iff.1 h0
    subst this
    exact avH l
  · have h:Jv C0 E0 (rq C0 E0 0 60) eL [] [.imm l (.ns .u64 xs) 1 1 0 xs.length] (some [])=some (⟨.sl 0 1 1 0 (0+xs.length) (0+xs.length),[some (.ns .u64 (List.take 0 ([]:List Int)++List.take xs.length xs))]⟩,
        [Nat.blt 0 xs.length,qt ((0+xs.length)*8) 140737488355328,qt (0+xs.length) 9223372036854775807,qt xs.length xs.length,qt 0 ([]:List Int).length],some []):=by kernel_rfl
    have:=ay.run Qy UW _ _ _ h (ob (by rw [Nat.blt_eq];exact h0)<|ob (by simp [qt];omega)<|ob (by simp [qt];omega)<|ob (by simp [qt])<|ob rfl nob)
    simp only [Nat.zero_add,List.take_zero,List.nil_append,List.take_length] at this
    exact this
noncomputable def aso:aM:=bK eL (.cons (.ns .u64) .nil) fun t=>[⟨⟨.sl 0 1 1 0 t.1.2.length t.1.2.length,[some (.ns .u64 t.1.2)]⟩,[wZ t.1.2.length]⟩]
theorem aqb:aY prog aso:=aR fun t=>aS (fun h=>avI t.1.1 t.1.2 (Nat.le_of_ble_eq_true h)) bc
noncomputable def L2c:List aM:=aso::L1
theorem awC:be prog (bh L2c):=ax aqb aw9
noncomputable def L2:List aM:=L2c
theorem axc:be prog (bh L2):=awC
end Go.Plb.Seat
namespace Go.Plb.Seat
open Go Go.Plb
set_option linter.unusedSimpArgs false
set_option linter.unusedVariables false
theorem auU{n:Nat}(h:isNaN n=true) :n/4503599627370496%2048=2047:=by
  rw [FO,decide_eq_true_eq] at h;omega
theorem auV(n:Nat) :Int.tmod (Int.fdiv (n:Int) (2^min (Int.toNat 52) IntKind.u64.bits)) 2048=((n/4503599627370496%2048:Nat):Int):=by
  have e:(2^min (Int.toNat 52) IntKind.u64.bits:Int)=((4503599627370496:Nat):Int):=by decide
  rw [e,Int.fdiv_eq_ediv_of_nonneg _ (by omega)];exact Int.tmod_eq_emod_of_nonneg (Int.natCast_nonneg _)
theorem ay.nan{f:FuncId}{g:Nat→gM}{r:gM}(h:∀ n:Nat,ay prog f [] [.int .u64 (n:Int)] (g n))(e:∀ n:Nat,isNaN n=true→g n=r) :ay prog f [] [.nan] r:=by
  intro ρ w us hN hv
  cases hv with | cons _ u _ _ h1 h2 =>
  cases h2
  cases h1 with | nan n hn =>
  rw [←e n hn]
  exact h n ρ w _ hN (.cons _ _ _ _ (.int _ _) .nil)
theorem as8:ay prog vj [] [.nan] ⟨.bool false false,[]⟩:=by
  refine ay.nan (g:=fun n=>⟨.bool false ((Int.tmod (Int.fdiv (n:Int) (2^min (Int.toNat 52) IntKind.u64.bits)) 2048) != 2047),[]⟩) (fun n=>?_) (fun n hn=>?_)
  · have h:Jv C0 E0 (rq C0 E0 0 50) vj [] [.int .u64 n] (some [])=some (⟨.bool false ((Int.tmod (Int.fdiv (n:Int) (2^min (Int.toNat 52) IntKind.u64.bits)) 2048) != 2047),[]⟩,[(decide ((0:Int)≤52)),((2048:Int) != 0)],some []):=by kernel_rfl
    exact ay.run Qy UW _ _ _ h ⟨rfl,rfl,trivial⟩
  · simp only [auV,auU hn];rfl
theorem aqc:ay prog vj [] [.nan] ⟨.bool true false,[]⟩:=as8.weak (YK _ _ _)
def TA:aM:=⟨vj,fun L args=>match L,args with | [],[.nan]=>one (.bool true false) [] | _,_=>none⟩
theorem aiD:aY prog TA:=by
  intro L args alts a h ha ho
  simp only [TA] at h
  split at h
  · exact To h ha ho fun q=>aqc
  · cases h
noncomputable def L3:List aM:=TA::L2
theorem awa:be prog (bh L3):=ax aiD axc
end Go.Plb.Seat
namespace Go.Plb.Seat
open Go Go.Plb
set_option linter.unusedVariables false
set_option maxRecDepth 100000
theorem bj{S:Qj}(hS:be prog S){lent:List bt}{α X:Type}{cs:List Code}{st:aQ}{t:T (α⊕X)}(N:α→aQ){E:X→AE×aQ}(ks:List NS) 
    (h:auu C0 S 60 cs st t.leaves ks lent.length=ar7 N E t.leaves:=by kernel_rfl):Sg prog lent cs st t.run N E:=Sg.seg Qy hS 60 cs st t N E ks h
theorem AD{lent:List bt}{σ ρ X:Type}{cs:List Code}{st:aQ}{E:X→AE×aQ}{B:σ→Option (σ⊕(ρ⊕X))}{ent:σ}(s:NS)(I:σ→aQ)(J:ρ→aQ)(id:Nat)(hE:jJ E)(hI:mP id E) 
    (hb:∀ a,Sg prog lent (cN (dn (cs.headD .skip))) (I a) (B a) I (cy id J E)) (hn:s.ok lent.length=true:=by exact rfl) (h1:s.on st=I ent:=by kernel_rfl) (hcs:cs=[.block id (.loop (dn (cs.headD .skip)))]:=by kernel_rfl) :
    Sg prog lent cs st (dh B ent) J E:=Sg.pre s hn h1 (as0 hcs hE hI hb ent)
theorem sgb{lent:List bt}{κ X:Type}{cs:List Code}{st:aQ}{E:X→AE×aQ}{m:Option (κ⊕(κ⊕X))}(K:κ→aQ)(id:Nat)(hE:jJ E)(hI:mP id E) 
    (hb:Sg prog lent (cN (inBlock (cs.headD .skip))) st m K (cy id K E)) (hcs:cs=[.block id (inBlock (cs.headD .skip))]:=by kernel_rfl):Sg prog lent cs st (Di m) K E:=apZ hcs hE hI hb
def noE:Empty→aQ:=fun a=>a.elim
theorem jN{fn:Func}{k:Nat}{keep:Bool}{o:gM}{st:aQ}(vs:List AV)(h1:py prog fn st fn.results.toList=some (vs,[]):=by kernel_rfl)(h2:Yy k keep st.heap (Tl vs)=some o:=by kernel_rfl) :ar2 prog fn k keep o .ret st :=
  ⟨.inr rfl,vs,[],h1,trivial,h2⟩
theorem kf{f:FuncId}{X:Type}{m:Option (Empty⊕X)}{lent:List bt}{args:List AV}{x:X}(keep:Bool)(o:X→gM)(E:X→AE×aQ)(hx:jM m=some x) 
    (h:Sg prog lent (cN (oa f)) (Av (FN f) lent args) m noE E) (hE:∀ x,ar2 prog (FN f) lent.length keep (o x) (E x).1 (E x).2)
    (hf:prog.funcs[f]? = some (FN f):=by kernel_rfl) (hc:(FN f).body=some (oa f):=by kernel_rfl):ay prog f lent args (o x) :=
  Sg.contract (P:=prog) (f:=f) (fn:=FN f) (c:=oa f) (N:=noE) (E:=E) (lent:=lent) (args:=args) keep o hf hc h hE hx
end Go.Plb.Seat
