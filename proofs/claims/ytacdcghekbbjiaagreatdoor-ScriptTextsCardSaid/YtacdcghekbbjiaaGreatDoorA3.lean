/-
  Part 3 of what the claim leans on: an evaluator of the model, proved sound; the contracts of the functions.
-/
import Derived.Lib.OthersKept
import Derived.Lib.Hide
import Derived.Lib.Strings
import Derived.Laws.RangeAny
import Derived.WalkKit
import Derived.WalkSpells
import Derived.Lib.AtoiAllCases
import Derived.Lib.AtoiErrMem
import Derived.RangeFuncBox
import Derived.RangeFuncLeaves
import Derived.RangeFuncNested
import Derived.Shelf.Abstract
import Derived.Shelf.RegionOpen
import Derived.OwnWalkIn
import Derived.TacticsInMore
import Derived.LoopNIn
import Derived.LoopIn
import Derived.RegionIn
import Derived.Stop.RegionWithIn
import Derived.Lib.Bytealg
import Derived.Test.YtacdcghekbbjiaaGreatDoorA2
namespace Go.Plb
set_option linter.unusedSimpArgs false
set_option linter.unusedVariables false
set_option linter.unusedSectionVars false
variable [Rom]
inductive T (α:Type) where
  | fail
  | leaf (a:α)
  | ask (b:Bool) (t f:T α)
  | need (b:Bool) (t:T α)
  | alt (k:Nat) (t e:T α)
def T.run{α:Type} :T α→Option α
  | .fail=>none
  | .leaf a=>some a
  | .ask b t f=>bif b then t.run else f.run
  | .need b t=>bif b then t.run else none
  | .alt _ t e=>match t.run with
    | some a=>some a
    | none=>e.run
structure sJ (α:Type) where
  path:List Nat
  obs:List Bool
  val:α
def sJ.ask{α:Type}(n:Nat)(b:Bool)(l:sJ α) :sJ α:=⟨n::l.path,b::l.obs,l.val⟩
def sJ.need{α:Type}(b:Bool)(l:sJ α) :sJ α:=⟨l.path,b::l.obs,l.val⟩
def sJ.alt{α:Type}(n:Nat)(l:sJ α) :sJ α:=⟨n::l.path,l.obs,l.val⟩
def T.leaves{α:Type} :T α→List (sJ α)
  | .fail=>[]
  | .leaf a=>[⟨[],[],a⟩]
  | .ask b t f=>t.leaves.map (sJ.ask 1 (b==true))++f.leaves.map (sJ.ask 0 (b==false))
  | .need b t=>t.leaves.map (sJ.need b)
  | .alt k t e=>t.leaves.map (sJ.alt k)++e.leaves
theorem kR{α:Type} :∀ (t:T α) {a:α},t.run=some a→∃ l∈t.leaves,l.val=a∧ak l.obs
  | .fail,a,h=>by cases h
  | .leaf b,a,h=>by
    simp only [T.run,Option.some.injEq] at h;subst h
    exact ⟨⟨[],[],b⟩,by simp [T.leaves],rfl,trivial⟩
  | .ask b t f,a,h=>by
    simp only [T.run] at h
    cases b with
    | true =>
      simp only [cond_true] at h
      obtain ⟨l,h1,h2,h3⟩:=kR t h
      exact ⟨l.ask 1 (true==true),by simp only [T.leaves,List.mem_append];exact .inl (List.mem_map_of_mem h1),h2,⟨rfl,h3⟩⟩
    | false =>
      simp only [cond_false] at h
      obtain ⟨l,h1,h2,h3⟩:=kR f h
      exact ⟨l.ask 0 (false==false),by simp only [T.leaves,List.mem_append];exact .inr (List.mem_map_of_mem h1),h2,⟨rfl,h3⟩⟩
  | .need b t,a,h=>by
    simp only [T.run] at h
    cases b with
    | true =>
      simp only [cond_true] at h
      obtain ⟨l,h1,h2,h3⟩:=kR t h
      exact ⟨l.need true,by simp only [T.leaves];exact List.mem_map_of_mem h1,h2,⟨rfl,h3⟩⟩
    | false=>cases h
  | .alt k t e,a,h=>by
    simp only [T.run] at h
    split at h
    · rename_i a' ht
      cases h
      obtain ⟨l,h1,h2,h3⟩:=kR t ht
      exact ⟨l.alt k,by simp only [T.leaves,List.mem_append];exact .inl (List.mem_map_of_mem h1),h2,h3⟩
    · obtain ⟨l,h1,h2,h3⟩:=kR e h
      exact ⟨l,by simp only [T.leaves,List.mem_append];exact .inr h1,h2,h3⟩
def rz{α X:Type}(N:α→az)(E:X→AE×az) :α⊕X→AE×az
  | .inl a=>(.normal,N a)
  | .inr x=>E x
def Sg{α X:Type}(P:Program)(lent:List aj)(cs:List Code)(st:az)(m:Option (α⊕X))(N:α→az)(E:X→AE×az) :Prop :=
  ∀ r,m=some r→dm P lent cs st fun e st'=>(e,st')=rz N E r
def JT{α X:Type}(C:ui)(S:vL)(n:Nat)(cs:List Code)(st:az)(ls:List (sJ (α⊕X)))(ks:List NS)(k:Nat) :List (Bool×Option (AE×az×List Bool)) :=
  List.zipWith (fun l s=>(s.ok k,Jr s (In (nQ C S 12 n) cs st (some l.path)))) ls ks
def HI{α X:Type}(N:α→az)(E:X→AE×az)(ls:List (sJ (α⊕X))) :List (Bool×Option (AE×az×List Bool)) :=
  ls.map fun l=>(true,some ((rz N E l.val).1,(rz N E l.val).2,l.obs))
theorem HJ{α β γ:Type}{f:α→β→γ}{g:α→γ} :∀ {l:List α} {k:List β},List.zipWith f l k=l.map g→∀ a∈l,∃ b,f a b=g a
  | [],_,_,a,ha=>by cases ha
  | x::l,[],h,a,ha=>by simp at h
  | x::l,y::k,h,a,ha=>by
    simp only [List.zipWith_cons_cons,List.map_cons,List.cons.injEq] at h
    rcases List.mem_cons.1 ha with rfl | ha
    · exact ⟨y,h.1⟩
    · exact HJ h.2 a ha
theorem Sg.seg{C:ui}(hC:C.Ok){S:vL}(hS:ba C.P S){lent:List aj}{α X:Type}(n:Nat)(cs:List Code)(st:az)(t:T (α⊕X))(N:α→az)(E:X→AE×az)(ks:List NS) 
    (h:JT C S n cs st t.leaves ks lent.length=HI N E t.leaves):Sg C.P lent cs st t.run N E:=by
  intro r hr
  obtain ⟨l,h1,h2,h3⟩:=kR t hr
  obtain ⟨k,hk⟩:=HJ h l h1
  simp only [Prod.mk.injEq] at hk
  obtain ⟨hn,he⟩:=hk
  have:=dm.seg hC hS (lent:=lent) (Q:=fun e st'=>(e,st')=rz N E r) cs.length (some l.path) k (cs:=cs) (st:=st) (by rw [List.take_length];exact he) hn h3
  refine this ?_
  rw [h2,List.drop_length]
  generalize hg:rz N E r=x
  obtain ⟨e,s⟩:=x
  cases e with
  | normal=>exact dm.nil rfl
  | ret=>rfl
  | exit id=>rfl
theorem dm.append{P:Program}{lent:List aj}{cs1 cs2:List Code}{st:az}{Q1 Q:AE→az→Prop}(h:dm P lent cs1 st Q1)(k:∀ e st',Q1 e st'→B1 P lent cs2 e st' Q) :dm P lent (cs1++cs2) st Q:=by
  intro ρ0 w0 hN K hK a w hA
  apply um
  refine h ρ0 w0 hN _ ?_ a w hA
  intro e st' a' w' q hA'
  have:=k e st' q
  cases e with
  | normal=>exact this ρ0 w0 hN K hK a' w' hA'
  | ret=>exact hK _ _ _ _ this hA'
  | exit id=>exact hK _ _ _ _ this hA'
def qm{X:Type}(E:X→AE×az) :Prop:=∀ x,(E x).1 ≠ .normal
theorem HK{P:Program}{lent:List aj}{cs:List Code}{e:AE}{st:az}{Q:AE→az→Prop}(hn:e ≠ .normal)(h:Q e st) :B1 P lent cs e st Q:=by
  cases e with
  | normal=>exact (hn rfl).elim
  | ret=>exact h
  | exit id=>exact h
def aQ{α β X:Type}(m:Option (α⊕X))(k:α→Option (β⊕X)) :Option (β⊕X) :=
  match m with
  | none=>none
  | some (.inl a)=>k a
  | some (.inr x)=>some (.inr x)
theorem Sg.seq{P:Program}{lent:List aj}{α β X:Type}{cs1 cs2:List Code}{st:az}{m:Option (α⊕X)}{N1:α→az}{E:X→AE×az}{k:α→Option (β⊕X)}{N:β→az}(hE:qm E) 
    (h:Sg P lent cs1 st m N1 E) (hk:∀ a,Sg P lent cs2 (N1 a) (k a) N E):Sg P lent (cs1++cs2) st (aQ m k) N E:=by
  intro r hr
  unfold aQ at hr
  split at hr
  · cases hr
  · rename_i a
    refine dm.append (h _ rfl) ?_
    intro e st' q
    simp only [rz,Prod.mk.injEq] at q
    obtain ⟨rfl,rfl⟩:=q
    exact hk a r hr
  · rename_i x
    simp only [Option.some.injEq] at hr;subst hr
    refine dm.append (h _ rfl) ?_
    intro e st' q
    simp only [rz] at q
    refine HK ?_ q
    have:=hE x
    rw [←q] at this;exact this
def qn{σ Y:Type}(B:σ→Option (σ⊕Y)) :Nat→σ→Option Y
  | 0,_=>none
  | n+1,s=>match B s with
    | none=>none
    | some (.inl s')=>qn B n s'
    | some (.inr y)=>some y
theorem ut{σ Y:Type}{B:σ→Option (σ⊕Y)} :∀ (n:Nat) {s:σ} {y:Y},qn B n s=some y→∀ m,n≤m→qn B m s=some y
  | 0,s,y,h,_,_=>by cases h
  | n+1,s,y,h,m,hm=>by
    obtain ⟨m',rfl⟩:∃ m',m=m'+1:=⟨m-1,by omega⟩
    simp only [qn] at h ⊢
    split at h
    · cases h
    · exact ut n h m' (by omega)
    · exact h
open Classical in
noncomputable def dn {σ Y : Type} (B : σ → Option (σ ⊕ Y)) (s : σ) : Option Y :=
  if h : ∃ n y, qn B n s = some y then some h.choose_spec.choose else none
theorem sF{σ Y:Type}{B:σ→Option (σ⊕Y)}{s:σ}{y:Y} :dn B s=some y↔∃ n,qn B n s=some y:=by
  unfold dn
  constructor
  · intro h
    split at h
    · rename_i q
      simp only [Option.some.injEq] at h
      exact ⟨q.choose,by rw [←h];exact q.choose_spec.choose_spec⟩
    · cases h
  · rintro ⟨n,h⟩
    rw [dif_pos ⟨n,y,h⟩]
    generalize hq:(⟨n,y,h⟩:∃ n y,qn B n s=some y)=q
    have h1:=q.choose_spec.choose_spec
    have a1:=ut n h (max n q.choose) (by omega)
    have a2:=ut _ h1 (max n q.choose) (by omega)
    rw [a1] at a2
    exact a2.symm
theorem Fz{σ Y:Type}(B:σ→Option (σ⊕Y))(s:σ) :dn B s=match B s with
    | none=>none
    | some (.inl s')=>dn B s'
    | some (.inr y)=>some y:=by
  have key:∀ y,dn B s=some y↔(match B s with | none=>none | some (.inl s')=>dn B s' | some (.inr y)=>some y)=some y:=by
    intro y
    rw [sF]
    constructor
    · rintro ⟨n,h⟩
      cases n with
      | zero=>cases h
      | succ n =>
        simp only [qn] at h
        cases q:B s with
        | none=>rw [q] at h;cases h
        | some z=>cases z with
          | inl s'=>rw [q] at h;exact sF.2 ⟨n,h⟩
          | inr z=>rw [q] at h;exact h
    · intro h
      split at h<;>rename_i q
      · cases h
      · obtain ⟨n,hn⟩:=sF.1 h
        exact ⟨n+1,by simp only [qn,q];exact hn⟩
      · exact ⟨1,by simp only [qn,q];exact h⟩
  generalize (match B s with | none=>none | some (.inl s')=>dn B s' | some (.inr y)=>some y)=x at key
  cases hl:dn B s with
  | none=>cases x with
    | none=>rfl
    | some y=>rw [(key y).2 rfl] at hl;cases hl
  | some y=>rw [hl] at key;exact ((key y).1 rfl).symm
theorem FB{σ Y:Type}{B:σ→Option (σ⊕Y)}{s s':σ}(h:B s=some (.inl s')) :dn B s=dn B s':=by rw [Fz,h]
theorem Dc{σ Y:Type}{B:σ→Option (σ⊕Y)}{s:σ}{y:Y}(h:B s=some (.inr y)) :dn B s=some y:=by rw [Fz,h]
theorem Iy{σ Y:Type}{B:σ→Option (σ⊕Y)}(G:σ→Prop)(m:σ→Nat)(Q:Y→Prop)(h:∀ s,G s→(∃ s',B s=some (.inl s')∧G s'∧m s'<m s)∨∃ y,B s=some (.inr y)∧Q y) :
    ∀ s,G s→∃ y,dn B s=some y∧Q y:=by
  have key:∀ n s,m s<n→G s→∃ y,dn B s=some y∧Q y:=by
    intro n
    induction n with
    | zero=>intro s q;omega
    | succ n ih =>
      intro s q hs
      rcases h s hs with ⟨s',h1,h2,h3⟩ | ⟨y,h1,h2⟩
      · obtain ⟨y,k1,k2⟩:=ih s' (by omega) h2
        exact ⟨y,by rw [FB h1];exact k1,k2⟩
      · exact ⟨y,Dc h1,h2⟩
  exact fun s hs=>key _ s (Nat.lt_succ_self _) hs
def dz{ρ X:Type}(id:Nat)(J:ρ→az)(E:X→AE×az) :ρ⊕X→AE×az
  | .inl r=>(.exit id,J r)
  | .inr x=>E x
def ow{X:Type}(id:Nat)(E:X→AE×az) :Prop:=∀ x,(E x).1 ≠ .exit id
theorem Sg.loop{P:Program}{lent:List aj}{σ ρ X:Type}{I:σ→az}{J:ρ→az}{E:X→AE×az}{B:σ→Option (σ⊕(ρ⊕X))}{id:Nat}{b:Code}(hE:qm E)(hI:ow id E) 
    (hb:∀ s,Sg P lent (cJ b) (I s) (B s) I (dz id J E)) (s:σ):Sg P lent [.block id (.loop b)] (I s) (dn B s) J E:=by
  intro y hy
  obtain ⟨n,hn⟩:=sF.1 hy

  have:=dm.loop (P:=P) (lent:=lent) (id:=id) (b:=b) (rest:=[]) (Q:=fun e st'=>(e,st')=rz J E y) (σ:=Nat×σ) (fun s=>I s.2) (fun s=>qn B s.1 s.2=some y) (fun s=>s.1) rfl (fun s hs=>?_) (n,s) hn
  · exact this
  · obtain ⟨n,s⟩:=s
    simp only at hs ⊢
    cases n with
    | zero=>cases hs
    | succ n =>
      simp only [qn] at hs
      split at hs
      · cases hs
      · rename_i s' hB
        refine (hb s _ hB).mono ?_
        intro e st' q
        simp only [rz,Prod.mk.injEq] at q
        obtain ⟨rfl,rfl⟩:=q
        exact ⟨(n,s'),hs,by simp,rfl⟩
      · rename_i y' hB
        simp only [Option.some.injEq] at hs;subst hs
        refine (hb s _ hB).mono ?_
        intro e st' q
        cases y' with
        | inl r =>
          simp only [rz,dz,Prod.mk.injEq] at q
          obtain ⟨rfl,rfl⟩:=q
          simp only [vN,if_true]
          exact dm.nil rfl
        | inr x =>
          simp only [rz,dz] at q
          have h1:=hE x
          have h2:=hI x
          rw [←q] at h1 h2
          simp only at h1 h2
          cases e with
          | normal=>exact (h1 rfl).elim
          | ret=>exact q
          | exit j =>
            have hj : ¬ j=id:=fun h=>h2 (by rw [h])
            simp only [vN,hj,if_false]
            exact q
def rA{κ X:Type}(m:Option (κ⊕(κ⊕X))) :Option (κ⊕X) :=
  match m with
  | none=>none
  | some (.inl a)=>some (.inl a)
  | some (.inr (.inl a))=>some (.inl a)
  | some (.inr (.inr x))=>some (.inr x)
theorem Sg.block{P:Program}{lent:List aj}{κ X:Type}{K:κ→az}{E:X→AE×az}{m:Option (κ⊕(κ⊕X))}{id:Nat}{b:Code}{st:az}(hE:qm E)(hI:ow id E) 
    (hb:Sg P lent (cJ b) st m K (dz id K E)):Sg P lent [.block id b] st (rA m) K E:=by
  intro r hr
  unfold rA at hr
  refine dm.block (rest:=[]) rfl ?_
  split at hr
  · cases hr
  · simp only [Option.some.injEq] at hr;subst hr
    refine (hb _ rfl).mono ?_
    intro e st' q
    simp only [rz,Prod.mk.injEq] at q
    obtain ⟨rfl,rfl⟩:=q
    exact dm.nil rfl
  · simp only [Option.some.injEq] at hr;subst hr
    refine (hb _ rfl).mono ?_
    intro e st' q
    simp only [rz,dz,Prod.mk.injEq] at q
    obtain ⟨rfl,rfl⟩:=q
    simp only [if_true]
    exact dm.nil rfl
  · rename_i x
    simp only [Option.some.injEq] at hr;subst hr
    refine (hb _ rfl).mono ?_
    intro e st' q
    simp only [rz,dz] at q
    have h1:=hE x
    have h2:=hI x
    rw [←q] at h1 h2
    simp only at h1 h2
    cases e with
    | normal=>exact (h1 rfl).elim
    | ret=>exact q
    | exit j =>
      have hj : ¬ j=id:=fun h=>h2 (by rw [h])
      simp only [hj,if_false]
      exact q
theorem Sg.scope{P:Program}{lent:List aj}{α X:Type}{N:α→az}{E:X→AE×az}{m:Option (α⊕X)}{b:Code}{st:az}(hE:qm E)(hb:Sg P lent (cJ b) st m N E) :Sg P lent [.scope b] st m N E:=by
  intro r hr
  refine dm.scope (rest:=[]) rfl ((hb r hr).mono ?_)
  intro e st' q
  cases r with
  | inl a =>
    simp only [rz,Prod.mk.injEq] at q
    obtain ⟨rfl,rfl⟩:=q
    exact dm.nil rfl
  | inr x =>
    refine HK ?_ q
    have:=hE x
    simp only [rz] at q
    rw [←q] at this;exact this
theorem FC{k:Nat}{ρ0:ae}{w0:World}{st:az}{a:Act}{w:World}{c:Operand}{b kn:Bool}(h:At k ρ0 w0 st a w)(hc:Kl st.tmps c=.bool kn b) :At k ρ0 w0 { st with tmps:=jZ st.tmps c b } a w∧a.eval c=.bool b:=by
  obtain ⟨ρ,E,W,hs,hbk,hle⟩:=h
  have hb:a.eval c=.bool b:=by
    have:=zE hs.heap.rom hs.tmps c
    rw [hc] at this
    generalize a.eval c=z at this
    cases this;rfl
  refine ⟨⟨ρ,E,W,⟨hs.defers,?_,hs.heap⟩,hbk,hle⟩,hb⟩
  cases c with
  | tmp t =>
    simp only [jZ]
    have:bL ρ w (st.tmps.set t (.bool true b)) (a.tmps.toList.set t (.bool b)):=hs.tmps.set (.bool _ _) t
    have e:a.tmps.toList.set t (.bool b)=a.tmps.toList:=by
      apply List.ext_getElem?
      intro j
      rw [List.getElem?_set]
      split
      · rename_i q;subst q
        split
        · rename_i hlt
          simp only [Act.eval] at hb
          rw [Array.getD_eq_getD_getElem?] at hb
          have hlt':t<a.tmps.size:=by simpa using hlt
          rw [Array.getElem?_eq_getElem hlt'] at hb
          simp only [Option.getD_some] at hb
          simp [hlt',hb]
        · rename_i hge
          rw [List.getElem?_eq_none (by omega)]
      · rfl
    rw [e] at this;exact this
  | const v=>exact hs.tmps
  | global g=>exact hs.tmps
  | func f=>exact hs.tmps
theorem Sg.cond{P:Program}{lent:List aj}{α X:Type}{N:α→az}{E:X→AE×az}{m1 m2:Option (α⊕X)}{c:Operand}{A B:Code}{st:az}{kn b:Bool}(hE:qm E)(hc:Kl st.tmps c=.bool kn b) 
    (h1:Sg P lent (cJ A) { st with tmps:=jZ st.tmps c true } m1 N E) (h2:Sg P lent (cJ B) { st with tmps:=jZ st.tmps c false } m2 N E):Sg P lent [.cond c A B] st (bif b then m1 else m2) N E:=by
  intro r hr
  intro ρ0 w0 hN K hK a w hA
  simp only [BM]
  obtain ⟨hA',hb⟩:=FC hA hc
  refine wp_cond hb ?_
  have fin:∀ (D:Code) (m:Option (α⊕X)) (st1:az),Sg P lent (cJ D) st1 m N E→m=some r→At lent.length ρ0 w0 st1 a w→D.wp P (fun e a' w'=>match e with | .normal=>K .normal a' w' | e=>K e a' w') a w:=by
    intro D m st1 hS hm hA1
    refine pE D (hS r hm ρ0 w0 hN _ ?_ a w hA1)
    intro e st' a' w' q hA2
    cases e with
    | normal=>exact hK .normal st' a' w' q hA2
    | ret=>exact hK .ret st' a' w' q hA2
    | exit id=>exact hK (.exit id) st' a' w' q hA2
  cases b with
  | true=>exact fin A m1 _ h1 hr hA'
  | false=>exact fin B m2 _ h2 hr hA'
theorem Sg.pre{P:Program}{lent:List aj}{α X:Type}{N:α→az}{E:X→AE×az}{m:Option (α⊕X)}{cs:List Code}{st st1:az}(s:NS)(hn:s.ok lent.length=true)(h1:s.on st=st1)(h:Sg P lent cs st1 m N E) :Sg P lent cs st m N E :=
  fun r hr=>dm.weak (by rw [←h1];exact Jq hn st) (h r hr)
def uu{X:Type} :Option (Empty⊕X)→Option X
  | some (.inr x)=>some x
  | _=>none
theorem Sg.contract{P:Program}{f:FuncId}{fn:Func}{c:Code}{X:Type}{N:Empty→az}{E:X→AE×az}{m:Option (Empty⊕X)}{lent:List aj}{args:List AV}(keep:Bool)(o:X→lX)(hf:P.funcs[f]? = some fn)(hc:fn.body=some c) 
    (h:Sg P lent (cJ c) (nP fn lent args) m N E) (hE:∀ x,Hw P fn lent.length keep (o x) (E x).1 (E x).2) {x:X} (hx:uu m=some x):am P f lent args (o x):=by
  unfold uu at hx
  split at hx
  · rename_i x'
    simp only [Option.some.injEq] at hx;subst hx
    refine dm.contract (keep:=keep) hf hc ((h _ rfl).mono ?_)
    intro e st' q
    simp only [rz] at q
    have:=hE x'
    rw [←q] at this;exact this
  · cases hx
end Go.Plb
namespace Go.Plb
set_option linter.unusedSectionVars false
variable [Rom]
theorem aZ{ρ X:Type}{id:Nat}{J:ρ→az}{E:X→AE×az}(h:qm E) :qm (dz id J E):=by
  intro x
  cases x with
  | inl r=>intro q;cases q
  | inr x=>exact h x
theorem xo{ρ X:Type}{id j:Nat}{J:ρ→az}{E:X→AE×az}(hj:(j==id)=false)(h:ow id E) :ow id (dz j J E):=by
  intro x
  cases x with
  | inl r =>
    intro q
    simp only [dz,AE.exit.injEq] at q
    subst q
    simp at hj
  | inr x=>exact h x
def jD:Code→Code
  | .block _ (.loop b)=>b
  | _=>.skip
def inBlock:Code→Code
  | .block _ b=>b
  | _=>.skip
def HL:Code→Code
  | .scope b=>b
  | _=>.skip
def GM:Code→Code
  | .cond _ a _=>a
  | _=>.skip
def GN:Code→Code
  | .cond _ _ b=>b
  | _=>.skip
theorem Sg.cut{P:Program}{lent:List aj}{α β X:Type}{cs:List Code}{st:az}{m:Option (α⊕X)}{N1:α→az}{E:X→AE×az}{k:α→Option (β⊕X)}{N:β→az}(n:Nat)(hE:qm E) 
    (h:Sg P lent (cs.take n) st m N1 E) (hk:∀ a,Sg P lent (cs.drop n) (N1 a) (k a) N E):Sg P lent cs st (aQ m k) N E:=by
  have:=Sg.seq hE h hk
  rwa [List.take_append_drop] at this
theorem Dd{P:Program}{lent:List aj}{σ ρ X:Type}{I:σ→az}{J:ρ→az}{E:X→AE×az}{B:σ→Option (σ⊕(ρ⊕X))}{id:Nat}{b:Code}{cs:List Code}(hcs:cs=[.block id (.loop b)])(hE:qm E)(hI:ow id E) 
    (hb:∀ s,Sg P lent (cJ b) (I s) (B s) I (dz id J E)) (s:σ):Sg P lent cs (I s) (dn B s) J E:=by rw [hcs];exact Sg.loop hE hI hb s
theorem GO{P:Program}{lent:List aj}{κ X:Type}{K:κ→az}{E:X→AE×az}{m:Option (κ⊕(κ⊕X))}{id:Nat}{b:Code}{st:az}{cs:List Code}(hcs:cs=[.block id b])(hE:qm E)(hI:ow id E) 
    (hb:Sg P lent (cJ b) st m K (dz id K E)):Sg P lent cs st (rA m) K E:=by rw [hcs];exact Sg.block hE hI hb
theorem GQ{P:Program}{lent:List aj}{α X:Type}{N:α→az}{E:X→AE×az}{m:Option (α⊕X)}{b:Code}{st:az}{cs:List Code}(hcs:cs=[.scope b])(hE:qm E)(hb:Sg P lent (cJ b) st m N E) :Sg P lent cs st m N E:=by
  rw [hcs];exact Sg.scope hE hb
theorem xp{P:Program}{lent:List aj}{α X:Type}{N:α→az}{E:X→AE×az}{m1 m2:Option (α⊕X)}{c:Operand}{A B:Code}{st:az}{kn b:Bool}{cs:List Code}(hcs:cs=[.cond c A B])(hE:qm E)(hc:Kl st.tmps c=.bool kn b) 
    (h1:Sg P lent (cJ A) { st with tmps:=jZ st.tmps c true } m1 N E) (h2:Sg P lent (cJ B) { st with tmps:=jZ st.tmps c false } m2 N E):Sg P lent cs st (bif b then m1 else m2) N E:=by rw [hcs];exact Sg.cond hE hc h1 h2
end Go.Plb
namespace Go.Plb.Seat
open Go Go.Plb
set_option linter.unusedSimpArgs false
set_option linter.unusedVariables false
noncomputable abbrev E0:vL:=bh []
def L1:List aH:=[]
def S1:vL:=bh L1
theorem L7:ba prog S1:=un _
end Go.Plb.Seat
namespace Go.Plb.Seat
open Go Go.Plb
set_option linter.unusedSimpArgs false
set_option linter.unusedVariables false
set_option maxRecDepth 100000
def jO(n:Nat) :Bool:=Nat.ble n 1000000000
noncomputable def L2:List aH:=L1
theorem L8:ba prog (bh L2):=L7
end Go.Plb.Seat
namespace Go.Plb.Seat
open Go Go.Plb
set_option linter.unusedSimpArgs false
set_option linter.unusedVariables false
theorem am.nan{f:FuncId}{g:Nat→lX}{r:lX}(h:∀ n:Nat,am prog f [] [.int .u64 (n:Int)] (g n))(e:∀ n:Nat,isNaN n=true→g n=r) :am prog f [] [.nan] r:=by
  intro ρ w us hN hv
  cases hv with | cons _ u _ _ h1 h2 =>
  cases h2
  cases h1 with | nan n hn =>
  rw [←e n hn]
  exact h n ρ w _ hN (.cons _ _ _ _ (.int _ _) .nil)
noncomputable def L3:List aH:=L2
theorem MT:ba prog (bh L3):=L8
end Go.Plb.Seat
namespace Go.Plb.Seat
open Go Go.Plb
set_option linter.unusedVariables false
set_option maxRecDepth 100000
theorem cu{S:vL}(hS:ba prog S){lent:List aj}{α X:Type}{cs:List Code}{st:az}{t:T (α⊕X)}(N:α→az){E:X→AE×az}(ks:List NS) 
    (h:JT C0 S 60 cs st t.leaves ks lent.length=HI N E t.leaves:=by kernel_rfl):Sg prog lent cs st t.run N E:=Sg.seg K7 hS 60 cs st t N E ks h
theorem JU{lent:List aj}{σ ρ X:Type}{cs:List Code}{st:az}{E:X→AE×az}{B:σ→Option (σ⊕(ρ⊕X))}{ent:σ}(s:NS)(I:σ→az)(J:ρ→az)(id:Nat)(hE:qm E)(hI:ow id E) 
    (hb:∀ a,Sg prog lent (cJ (jD (cs.headD .skip))) (I a) (B a) I (dz id J E)) (hn:s.ok lent.length=true:=by exact rfl) (h1:s.on st=I ent:=by kernel_rfl) (hcs:cs=[.block id (.loop (jD (cs.headD .skip)))]:=by kernel_rfl) :
    Sg prog lent cs st (dn B ent) J E:=Sg.pre s hn h1 (Dd hcs hE hI hb ent)
theorem MB{lent:List aj}{κ X:Type}{cs:List Code}{st:az}{E:X→AE×az}{m:Option (κ⊕(κ⊕X))}(K:κ→az)(id:Nat)(hE:qm E)(hI:ow id E) 
    (hb:Sg prog lent (cJ (inBlock (cs.headD .skip))) st m K (dz id K E)) (hcs:cs=[.block id (inBlock (cs.headD .skip))]:=by kernel_rfl):Sg prog lent cs st (rA m) K E:=GO hcs hE hI hb
def vi:Empty→az:=fun a=>a.elim
theorem qo{fn:Func}{k:Nat}{keep:Bool}{o:lX}{st:az}(vs:List AV)(h1:eK prog fn st fn.results.toList=some (vs,[]):=by kernel_rfl)(h2:Aj k keep st.heap (xh vs)=some o:=by kernel_rfl) :Hw prog fn k keep o .ret st :=
  ⟨.inr rfl,vs,[],h1,trivial,h2⟩
theorem yD{f:FuncId}{X:Type}{m:Option (Empty⊕X)}{lent:List aj}{args:List AV}{x:X}(keep:Bool)(o:X→lX)(E:X→AE×az)(hx:uu m=some x) 
    (h:Sg prog lent (cJ (rx f)) (nP (FN f) lent args) m vi E) (hE:∀ x,Hw prog (FN f) lent.length keep (o x) (E x).1 (E x).2)
    (hf:prog.funcs[f]? = some (FN f):=by kernel_rfl) (hc:(FN f).body=some (rx f):=by kernel_rfl):am prog f lent args (o x) :=
  Sg.contract (P:=prog) (f:=f) (fn:=FN f) (c:=rx f) (N:=vi) (E:=E) (lent:=lent) (args:=args) keep o hf hc h hE hx
end Go.Plb.Seat
namespace Go.Plb.Seat
open Go Go.Plb
noncomputable def L9:List aH:=[]
theorem zz:ba prog (bh L9):=un prog
end Go.Plb.Seat
namespace Go.Plb.Seat
open Go Go.Plb
set_option linter.unusedVariables false
set_option maxRecDepth 100000
noncomputable section
inductive cK where
  | r0 (s5:ByteArray)
def nX:cK→AE×az
  | .r0 s5=>(.ret,⟨ao 20 [(2,.str s5)],[],0⟩)
theorem pQ:qm nX:=by intro x;cases x<;>(intro h;cases h)
theorem Ea(id:Nat) :ow id nX:=by intro x;cases x<;>(intro h;cases h)
def rB:cK→lX
  | .r0 s5=>⟨.str s5,[]⟩
noncomputable def Eb:List Code:=cJ (rx lL)
def Ec(w_0:Int)(l1:(List Int)) :az:=⟨ao 20 [(0,.int .u64 w_0),(3,.ptr 0 1 0 0),(5,.int .i64 (0:Int))],[(0,.ns .u8 l1)],1⟩
def Ed:T (((List Int))⊕(cK)) :=
  .leaf (.inl [(0:Int),(0:Int),(0:Int),(0:Int),(0:Int),(0:Int),(0:Int),(0:Int),(0:Int),(0:Int),(0:Int),(0:Int),(0:Int),(0:Int),(0:Int),(0:Int)])
def mG(w_0:Int) :Nat×(List Int)→az:=fun (a2,l3)=>⟨ao 20 [(0,.int .u64 w_0),(3,.ptr 0 1 0 0),(5,.int .i64 ((a2:Nat):Int))],[(0,.ns .u8 l3)],1⟩
def vS(l4:(List Int)) :az:=⟨ao 20 [(3,.ptr 0 1 0 0)],[(0,.ns .u8 l4)],1⟩
noncomputable def Ee:List Code:=cJ (jD ((((Eb.drop 3).take 1)).headD .skip))
def pR(w_0:Int)(a2:Nat)(l3:List Int) :T ((Nat×(List Int))⊕(((List Int))⊕(cK))) :=
  .ask (decide (((a2:Nat):Int)<(16:Int)))
    (.need (jQ .i64 (((4*a2):Nat):Int))<|.need (jQ .i64 ((60:Int)-(((4*a2):Nat):Int)))<|.need (decide ((0:Int)≤((60:Int)-(((4*a2):Nat):Int))))<|.need (th (tk .and .u64 (Int.fdiv w_0 (2^(min (Int.toNat ((60:Int)-(((4*a2):Nat):Int))) (IntKind.u64.bits)))) (15:Int)) (ByteArray.mk #[48,49,50,51,52,53,54,55,56,57,65,66,67,68,69,70]).size)<|.need (th ((a2:Nat):Int) 16)<|.need (jo (cN (cN 0 (yO a2 1)) 0) (List.length l3))<|.need (jQ .i64 (((a2+1):Nat):Int))<|.leaf (.inl ((a2+1),(List.set l3 (cN (cN 0 (yO a2 1)) 0) (cy (ByteArray.mk #[48,49,50,51,52,53,54,55,56,57,65,66,67,68,69,70]) (Int.toNat (tk .and .u64 (Int.fdiv w_0 (2^(min (Int.toNat ((60:Int)-(((4*a2):Nat):Int))) (IntKind.u64.bits)))) (15:Int))))))))
    (.leaf (.inr (.inl l3)))
noncomputable def jv(w_0:Int) :Nat×(List Int)→Option ((Nat×(List Int))⊕(((List Int))⊕(cK))):=fun (a2,l3) =>
  (pR w_0 a2 l3).run
theorem B7(w_0:Int)(a2:Nat)(l3:List Int) :Sg prog [] Ee (mG w_0 (a2,l3)) (jv w_0 (a2,l3)) (mG w_0) (dz 0 vS nX):=by
  unfold jv;exact cu zz (mG w_0) [⟨[],[0],[0,3,5]⟩,⟨[],[0],[3]⟩]
def tD(l4:List Int) :T ((Empty)⊕(cK)) :=
  .need (mw (16:Int) 16)<|.need (mw (0:Int) 16)<|.need (eH 16 (List.length l4))<|.need (eH 16 (List.length l4))<|.leaf (.inr (.r0 (qi (List.take 16 l4))))
noncomputable def nY(w_0:Int) :Option cK:=uu (aQ ((Ed).run) fun l1 =>
  aQ (dn (jv w_0) (0,l1)) fun l4 =>
  (tD l4).run)
theorem vT(w_0:Int){x:cK}(h:nY w_0=some x) :am prog lL [] [.int .u64 w_0] (rB x) :=
  yD false rB nX h (Sg.cut 3 pQ (cu zz (Ec w_0) [⟨[],[16],[0,3,5]⟩]) (fun l1=>Sg.cut 1 pQ (JU ⟨[],[0],[0,3,5]⟩ (mG w_0) (vS) 0 pQ (Ea _) (fun ⟨a2,l3⟩=>B7 w_0 a2 l3)) (fun l4=>cu zz vi [⟨[],[],[2]⟩])))
    (fun x=>by cases x with | r0 s5=>exact qo [.str s5])
def pS:Option cK→Bool
  | some _=>true
  | none=>false
def rC:Option cK→ByteArray
  | some (.r0 x)=>x
  | _=>ByteArray.empty
theorem Ef{x:Option cK}(h:pS x=true) :x=some (.r0 (rC x)):=by
  unfold pS at h
  split at h<;>first | rfl | (cases h;done) | (rename_i y;cases y;rfl)
noncomputable def yE:aH:=cT lL (.cons (.int .u64) .nil) fun t=>(fun q=>[⟨rB (.r0 (rC q)),[pS q]⟩]) (nY t.1)
theorem AC:aM prog yE:=aO fun t=>(aS (fun h=>vT t.1 (Ef h)) bG)
noncomputable def FD:List aH:=yE::L9
theorem JV:ba prog (bh FD):=aw AC zz
end
end Go.Plb.Seat
namespace Go.Plb
set_option linter.unusedSimpArgs false
set_option linter.unusedVariables false
set_option linter.unusedSectionVars false
variable [Rom]
theorem aB{α:Type}{b:Bool}{t:T α}{x:Option α}(h:b=true)(k:t.run=x) :(T.need b t).run=x:=by subst h;exact k
theorem eN{α:Type}{b:Bool}{t f:T α}{x:Option α}(h:b=true)(k:t.run=x) :(T.ask b t f).run=x:=by subst h;exact k
theorem di{α:Type}{b:Bool}{t f:T α}{x:Option α}(h:b=false)(k:f.run=x) :(T.ask b t f).run=x:=by subst h;exact k
theorem kH{α:Type}{b:Bool}{t:T α}{x:Option α}(k:t.run=x)(h:b=true:=by exact rfl) :(T.need b t).run=x:=aB h k
theorem cD{α:Type}{b:Bool}{t f:T α}{x:Option α}(k:t.run=x)(h:b=true:=by exact rfl) :(T.ask b t f).run=x:=eN h k
theorem bA{α:Type}{b:Bool}{t f:T α}{x:Option α}(k:f.run=x)(h:b=false:=by exact rfl) :(T.ask b t f).run=x:=di h k
theorem an{α β X:Type}{m:Option (α⊕X)}{k:α→Option (β⊕X)}{a:α}{x:Option (β⊕X)}(h:m=some (.inl a))(q:k a=x) :aQ m k=x:=by subst h;exact q
theorem cU{α β X:Type}{m:Option (α⊕X)}{k:α→Option (β⊕X)}{y:X}(h:m=some (.inr y)) :aQ m k=some (.inr y):=by subst h;rfl
theorem FE{κ X:Type}{m:Option (κ⊕(κ⊕X))}{a:κ}(h:m=some (.inl a)) :rA m=some (.inl a):=by subst h;rfl
theorem Iz{κ X:Type}{m:Option (κ⊕(κ⊕X))}{a:κ}(h:m=some (.inr (.inl a))) :rA m=some (.inl a):=by subst h;rfl
theorem IA{κ X:Type}{m:Option (κ⊕(κ⊕X))}{a:X}(h:m=some (.inr (.inr a))) :rA m=some (.inr a):=by subst h;rfl
theorem cd{X:Type}{m:Option (Empty⊕X)}{x:X}(h:m=some (.inr x)) :uu m=some x:=by subst h;rfl
theorem IB{σ Y:Type}{B:σ→Option (σ⊕Y)}(st:Nat→σ)(n:Nat){y:Y}(i:Nat)(hi:i≤n)(step:∀ j,i≤j→j<n→B (st j)=some (.inl (st (j+1))))(done:B (st n)=some (.inr y)) :dn B (st i)=some y:=by
  obtain ⟨d,rfl⟩:∃ d,n=i+d:=⟨n-i,by omega⟩
  clear hi
  induction d generalizing i with
  | zero=>exact Dc done
  | succ d ih =>
    rw [FB (step i (Nat.le_refl _) (by omega))]
    have e:i+(d+1)=i+1+d:=by omega
    rw [e] at step done
    exact ih (i+1) (fun j h1 h2=>step j (by omega) h2) done
theorem fD{σ Y:Type}{B:σ→Option (σ⊕Y)}(st:Nat→σ)(n:Nat){y:Y}{s0:σ}(h0:s0=st 0)(step:∀ j,j<n→B (st j)=some (.inl (st (j+1))))(done:B (st n)=some (.inr y)) :dn B s0=some y:=by
  rw [h0];exact IB st n 0 (Nat.zero_le _) (fun j _=>step j) done
theorem bT{n:Int} :jQ .i64 n=true↔-9223372036854775808≤n∧n≤9223372036854775807:=by
  have e1:IntKind.i64.min = -9223372036854775808:=by decide
  have e2:IntKind.i64.max=9223372036854775807:=by decide
  simp only [jQ,e1,e2,Bool.and_eq_true,decide_eq_true_eq]
theorem rD{k:Int}{n:Nat} :th k n=true↔0≤k∧k<n:=by simp only [th,Bool.and_eq_true,decide_eq_true_eq]
theorem K9{k:Int}{n:Nat} :mw k n=true↔0≤k∧k≤n:=by simp only [mw,Bool.and_eq_true,decide_eq_true_eq]
theorem bC{k n:Nat} :jo k n=true↔k<n:=by simp [jo]
theorem bz{k n:Nat} :eH k n=true↔k≤n:=by simp [eH]
theorem Eg{k n:Nat} :Nat.ble k n=true↔k≤n:=by rw [Nat.ble_eq]
theorem HM{k n:Nat} :Nat.blt k n=true↔k<n:=by rw [Nat.blt_eq]
def B8{α:Type}(pos:Nat→Nat)(val:Nat→α)(l:List α) :Nat→List α
  | 0=>l
  | n+1=>(B8 pos val l n).set (pos n) (val n)
theorem vU{α:Type}{pos:Nat→Nat}{val:Nat→α}{l:List α} :∀ {n:Nat},(B8 pos val l n).length=l.length
  | 0=>rfl
  | n+1=>by simp only [B8,List.length_set];exact vU
theorem JW{α:Type}(l:List α) :oT 0 l.length l=true:=by rw [oU];omega
theorem HN{α:Type}{b:Bool}{t:T α}{x:Option α}(k:t.run=x)(h:b=true:=by exact JW _) :(T.need b t).run=x:=aB h k
theorem KA{α:Type}{n:Nat}{l:List α}(h:l.length=n) :bo 0 n l=l:=by rw [←h];exact rt l
theorem first_bad{p:Nat→Prop} [DecidablePred p]:∀ {n:Nat},(¬ ∀ i,i<n→p i)→∃ k,k<n∧¬ p k∧∀ j,j<k→p j
  | 0,h=>(h fun i hi=>absurd hi (Nat.not_lt_zero _)).elim
  | n+1,h=>by
    by_cases q:∀ i,i<n→p i
    · refine ⟨n,Nat.lt_succ_self _,fun r=>h fun i hi=>?_,q⟩
      rcases Nat.lt_succ_iff_lt_or_eq.1 hi with a | rfl
      · exact q i a
      · exact r
    · obtain ⟨k,h1,h2,h3⟩:=first_bad q
      exact ⟨k,by omega,h2,h3⟩
theorem uv(n:Nat) :Int.toNat (n:Int)=n:=rfl
def EF{α:Type}(m:Option α)(Q:α→Prop) :Prop:=∃ r,m=some r∧Q r
theorem EF.mono{α:Type}{m:Option α}{Q R:α→Prop}(h:EF m Q)(k:∀ r,Q r→R r) :EF m R:=by
  obtain ⟨r,a,b⟩:=h
  exact ⟨r,a,k r b⟩
def T.wp{α:Type}(Q:α→Prop) :T α→Prop
  | .fail=>False
  | .leaf a=>Q a
  | .ask b t f=>(b=true→t.wp Q)∧(b=false→f.wp Q)
  | .need b t=>b=true∧t.wp Q
  | .alt _ t e=>t.wp Q∨(t.run=none∧e.wp Q)
theorem EF.seq{α β X:Type}{m:Option (α⊕X)}{k:α→Option (β⊕X)}{N:β→Prop}{E:X→Prop}(h:EF m (Sum.elim (fun a=>EF (k a) (Sum.elim N E)) E)) :EF (aQ m k) (Sum.elim N E):=by
  obtain ⟨r,a,b⟩:=h
  cases r with
  | inl x =>
    obtain ⟨r',a',b'⟩:=b
    exact ⟨r',an a a',b'⟩
  | inr x=>exact ⟨.inr x,cU a,b⟩
theorem EF.join{κ X:Type}{m:Option (κ⊕(κ⊕X))}{N:κ→Prop}{E:X→Prop}(h:EF m (Sum.elim N (Sum.elim N E))) :EF (rA m) (Sum.elim N E):=by
  obtain ⟨r,a,b⟩:=h
  rcases r with x | x | x
  · exact ⟨.inl x,FE a,b⟩
  · exact ⟨.inl x,Iz a,b⟩
  · exact ⟨.inr x,IA a,b⟩
theorem EF.loop{σ Y:Type}{B:σ→Option (σ⊕Y)}(I:σ→Prop)(m:σ→Nat){Q:Y→Prop}{s:σ}(h0:I s)(h:∀ s,I s→EF (B s) (Sum.elim (fun s'=>I s'∧m s'<m s) Q)) :EF (dn B s) Q:=by
  obtain ⟨y,a,b⟩:=Iy I m Q (fun s hs=>by
    obtain ⟨r,a,b⟩:=h s hs
    cases r with
    | inl x=>exact .inl ⟨x,a,b.1,b.2⟩
    | inr y=>exact .inr ⟨y,a,b⟩) s h0
  exact ⟨y,a,b⟩
theorem EF.map{α R:Type}{m:Option α}{g:α→R}{E:R→Prop}(h:EF m fun a=>E (g a)) :EF (Option.map g m) E:=by
  obtain ⟨r,a,b⟩:=h
  exact ⟨g r,by rw [a];rfl,b⟩
theorem EF.some{α:Type}{a:α}{Q:α→Prop}(h:Q a) :EF (some a) Q:=⟨a,rfl,h⟩
end Go.Plb
namespace Go.Plb.Seat
open Go Go.Plb
set_option linter.unusedSimpArgs false
set_option linter.unusedVariables false
set_option maxRecDepth 100000
def pT:ByteArray:=ByteArray.mk #[48,49,50,51,52,53,54,55,56,57,65,66,67,68,69,70]
def dg(w:Int)(j:Nat) :Nat:=((Int.fdiv w (2^(60-4*j)))%16).toNat
theorem La(w:Int)(j:Nat) :dg w j<16:=by unfold dg;omega
def lM(w:Int) :List Int:=(List.range 16).map fun j=>cy pT (dg w j)
def bi(w:Int) :ByteArray:=qi (lM w)
theorem Lu(x:Int) :tk .and .u64 x (15:Int)=(x%16):=by
  have e:tk .and .u64 x (15:Int)=IntKind.u64.wrap ((BitVec.ofInt 64 x &&& BitVec.ofInt 64 15).toNat:Int):=rfl
  rw [e,BitVec.toNat_and]
  have h15:(BitVec.ofInt 64 15).toNat=15:=by decide
  rw [h15]
  have hm:∀ n:Nat,n &&& 15=n%16:=fun n=>Nat.and_two_pow_sub_one_eq_mod n 4
  rw [hm]
  have hx:(BitVec.ofInt 64 x).toNat=(x%18446744073709551616).toNat:=by rw [BitVec.toNat_ofInt];rfl
  rw [hx]
  have:IntKind.u64.wrap (((x%18446744073709551616).toNat%16:Nat):Int)=(((x%18446744073709551616).toNat%16:Nat):Int):=by
    show ((((x%18446744073709551616).toNat%16:Nat):Int)%18446744073709551616)=_
    omega
  rw [this]
  omega
theorem HO(w:Int){j:Nat}(hj:j<16) :tk .and .u64 (Int.fdiv w (2^(min (Int.toNat ((60:Int)-(((4*j):Nat):Int))) (IntKind.u64.bits)))) (15:Int)=((dg w j:Nat):Int):=by
  rw [Lu]
  have e:min (Int.toNat ((60:Int)-(((4*j):Nat):Int))) (IntKind.u64.bits)=60-4*j:=by
    have:IntKind.u64.bits=64:=rfl
    rw [this];omega
  rw [e]
  unfold dg
  omega
theorem De{α:Type}(val:Nat→α)(l:List α) :∀ (n:Nat),n≤l.length→List.take n (B8 (fun j=>j) val l n)=(List.range n).map val
  | 0,_=>rfl
  | n+1,h=>by
    have ih:=De val l n (by omega)
    have hl:(B8 (fun j=>j) val l n).length=l.length:=vU
    simp only [B8]
    rw [List.take_add_one,List.take_set_of_le (Nat.le_refl _),ih,List.getElem?_set,if_pos rfl,if_pos (by omega),List.range_succ,List.map_append]
    rfl
theorem Eh(w:Int) :nY w=some (.r0 (bi w)):=by
  unfold nY
  refine cd (an rfl (an (a:=B8 (fun j=>j) (fun j=>cy pT (dg w j)) (List.replicate 16 (0:Int)) 16) (fD (fun j=>(j,B8 (fun j=>j) (fun j=>cy pT (dg w j)) (List.replicate 16 (0:Int)) j)) 16 rfl (fun j hj=>?_) ?_) ?_))
  · simp only [jv,pR]
    have hl:(B8 (fun j=>j) (fun j=>cy pT (dg w j)) (List.replicate 16 (0:Int)) j).length=16:=by rw [vU];rfl
    have hd:=La w j
    have ha:cN (cN 0 (yO j 1)) 0=j:=by cases j<;>simp [cN,yO]
    rw [HO w hj,ha,hl]
    refine eN (by simp;omega) (aB (by rw [bT];omega) (aB (by rw [bT];omega) (aB (by simp;omega) (aB ?_ (aB (by rw [rD];omega) (aB (by rw [bC];omega) (aB (by rw [bT];omega) rfl)))))))
    rw [rD]
    exact ⟨by omega,by show ((dg w j:Nat):Int)<((16:Nat):Int);omega⟩
  · simp only [jv,pR]
    exact di (by simp) rfl
  · simp only [tD]
    have hl:(B8 (fun j=>j) (fun j=>cy pT (dg w j)) (List.replicate 16 (0:Int)) 16).length=16:=by rw [vU];rfl
    rw [hl]
    refine aB (by decide) (aB (by decide) (aB (by decide) (aB (by decide) ?_)))
    rw [De _ _ 16 (by decide)]
    rfl
theorem JX(w:Int) :am prog lL [] [.int .u64 w] ⟨.str (bi w),[]⟩:=vT w (Eh w)
end Go.Plb.Seat
namespace Go.Plb.Seat
open Go Go.Plb Go.Proofs Go.RowKit
set_option maxRecDepth 100000
set_option linter.unusedSimpArgs false
set_option linter.unusedVariables false
theorem yF(s:ByteArray)(pos:Nat)(h:pos<s.size) :1≤(Utf8.decode s pos).2:=by
  by_cases ha:(s[pos]'h).toNat<128
  · rw [decode_ascii s pos h ha]
    exact Nat.le_refl _
  · exact (decode_high s pos h (by omega)).2
theorem GR(n:Int)(w:World)(hr:eM w) :Calls prog 49 #[.int .u64 n] w fun e w'=>e=.returned (.string (bi n))∧Below w.heap.size w w':=by
  refine ((JX n).calls w hr (us:=[.int .u64 n]) (.cons _ _ _ _ (.int _ _) .nil)).mono ?_
  rintro e w' ⟨u,ρ',rfl,hb,hu⟩
  cases hu
  exact ⟨rfl,hb⟩
def Kn(r:Int) :Nat:=if 48≤r∧r≤57 then (r-48).toNat else if 65≤r∧r≤70 then (r-55).toNat else 16
def Lb(acc:Int)(r:Int) :Int:=bits .or .u64 (IntKind.u64.wrap (acc*16)) (IntKind.u64.wrap (bits .and .i64 (Kn r:Int) 15))
def oZ(s:ByteArray) :Nat→Nat→Int→Int
  | 0,_,acc=>acc
  | f+1,pos,acc=>if pos<s.size then oZ s f (pos+(Utf8.decode s pos).2) (Lb acc (Utf8.decode s pos).1) else acc
def ic(s:ByteArray) :Bool:=decide (s.size=16)&&decide (bi (oZ s s.size 0 0)=s)
def mp(s:ByteArray) :Int:=bif ic s then oZ s s.size 0 0 else 0
def pa(s:ByteArray) :Int:=bif ic s then 0 else 4
theorem Lw(r:Int) :Kn r≤16:=by unfold Kn;split<;>(try split)<;>omega
theorem JY{n:Nat}(h:n<16) :(cy pT n=if n<10 then (48+n:Int) else (55+n:Int)):=by
  rcases n with _ | _ | _ | _ | _ | _ | _ | _ | _ | _ | _ | _ | _ | _ | _ | _ | n
  all_goals first | rfl | omega
theorem KB{n:Nat}(h:n<16)(r:Int) :cy pT n=r↔n=Kn r:=by
  rw [JY h]
  unfold Kn
  split<;>split<;>(try split)<;>omega
theorem JZ{n:Nat}(h:n<16) :∃ b:UInt8,(⟨#[48,49,50,51,52,53,54,55,56,57,65,66,67,68,69,70]⟩:ByteArray)[n]? = some b∧(b.toNat:Int)=cy pT n:=by
  have:∀ n:Fin 16,∃ b:UInt8,(⟨#[48,49,50,51,52,53,54,55,56,57,65,66,67,68,69,70]⟩:ByteArray)[n.val]? = some b∧(b.toNat:Int)=cy pT n.val:=by
    intro n
    rcases n with ⟨_ | _ | _ | _ | _ | _ | _ | _ | _ | _ | _ | _ | _ | _ | _ | _ | n,h⟩
    all_goals first | exact ⟨_,rfl,rfl⟩ | omega
  exact this ⟨n,h⟩
theorem KC(n:Nat)(h:n<16)(W:World) :(Instr.index 9 (.string ⟨#[48,49,50,51,52,53,54,55,56,57,65,66,67,68,69,70]⟩) (.int .i64 n)).run prog W=.ok (.int .u8 (cy pT n)) W:=by
  have u9:prog.underlying 9=some .string:=by kernel_rfl
  obtain ⟨b,h1,h2⟩:=JZ h
  have ha:(asIntOf (.int .i64 n)).run prog W=.ok (.i64,(n:Int)) W:=rfl
  unfold Instr.index
  simp only [Sem.run_bind,ha,Result.andThen_ok,run_underlying u9]
  rw [if_pos (Int.natCast_nonneg n),Int.toNat_natCast,h1,←h2]
  rfl
theorem IC(s:ByteArray) :∀ (f pos:Nat) (acc:Int),¬ pos<s.size→oZ s f pos acc=acc
  | 0,_,_,_=>rfl
  | f+1,pos,acc,h=>by simp only [oZ,h,if_false]
theorem toList_inj{a b:ByteArray}(h:a.toList=b.toList) :a=b:=by
  have ha:=Go.Lib.toList_data a
  have hb:=Go.Lib.toList_data b
  rw [h] at ha
  have:a.data.toList=b.data.toList:=ha.symm.trans hb
  cases a;cases b
  simp only [ByteArray.mk.injEq]
  exact Array.toList_inj.1 this
set_option maxHeartbeats 2000000 in
theorem AD (s : ByteArray) (hs : s.size ≤ 1000000000) (w : World) (hR : Hid (eM w)) : Calls prog nV #[.string s] w fun e w' => e = .returned (.tuple #[.int .u64 (mp s), .int .i64 (pa s)]) ∧ Below w.heap.size w w' := by
  go_enter Tryz.func46, Tryz.ntmps46
  go_wp2
  go_loopw [4] (fun t wr => ∃ (pos fuel : Nat) (acc : Int), t = .int .u64 acc ∧ wr.heap[w.heap.size]? = some (.stringIter s pos) ∧ Below w.heap.size w wr ∧ oZ s fuel pos acc = oZ s s.size 0 0 ∧ s.size ≤ pos + fuel) (fun _ wr => s.size - wr.iterPos w.heap.size)
  case atStart =>
    exact ⟨0, s.size, 0, rfl, World.iter_heap w s 0, (Below.refl _ w).alloc (Nat.le_refl _) _, rfl, by omega⟩
  case round =>
    obtain ⟨pos, fuel, acc, rfl, hit, hbw, hacc, hfu⟩ := hrel
    by_cases hp : pos < s.size
    · have hnx : ∀ ty, (Instr.next (.pointer (some ⟨w.heap.size, 0, none⟩)) true ty).run prog wr = _ := fun ty => Lib.run_next_any_at wr w.heap.size s pos ty hit hp
      obtain ⟨r, hr⟩ : ∃ r : Nat, (Utf8.decode s pos).1 = r := ⟨_, rfl⟩
      obtain ⟨wd, hwd⟩ : ∃ wd : Nat, (Utf8.decode s pos).2 = wd := ⟨_, rfl⟩
      rw [hr, hwd] at hnx
      have hit2 := Lib.iterAt_heap wr w.heap.size s pos (pos + wd) hit
      have hbw2 := Lib.below_iterAt hbw (k := w.heap.size) (Nat.le_refl _) s (pos + wd)
      obtain ⟨W1, hW1⟩ : ∃ W1, wr.iterAt w.heap.size s (pos + wd) = W1 := ⟨_, rfl⟩
      rw [hW1] at hnx hit2 hbw2
      go_wp2
      go_loopw [7] (fun t W => W = W1 ∧ ∃ n : Nat, t = .int .i64 n ∧ n ≤ Kn r) (fun t _ => 16 - (intOf t).toNat)
      case atStart => exact ⟨rfl, 0, rfl, Nat.zero_le _⟩
      case round =>
        obtain ⟨hWW, n, rfl, hn⟩ := hrel
        replace hWW := hWW.symm
        subst hWW
        have hd := Lw r
        have hstep : n = Kn r → ∃ (pos' fuel' : Nat) (acc' : Int), Value.int .u64 (bits .or .u64 (IntKind.u64.wrap (acc * 16)) (IntKind.u64.wrap (bits .and .i64 (n : Int) 15))) = .int .u64 acc' ∧
            W1.heap[w.heap.size]? = some (.stringIter s pos') ∧ Below w.heap.size w W1 ∧ oZ s fuel' pos' acc' = oZ s s.size 0 0 ∧ s.size ≤ pos' + fuel' := fun e => by
          obtain ⟨f, rfl⟩ : ∃ f, fuel = f + 1 := ⟨fuel - 1, by omega⟩
          have hw1 := yF s pos hp
          refine ⟨pos + wd, f, Lb acc r, by rw [e]; rfl, hit2, hbw2, ?_, by omega⟩
          rw [← hacc]
          simp only [oZ, hp, if_true, hr, hwd]
        have hmeas : s.size - W1.iterPos w.heap.size < s.size - wr.iterPos w.heap.size := by
          have hw1 := yF s pos hp
          simp only [World.iterPos, hit, hit2]
          omega
        have HS := Lib.hid hstep
        clear hstep
        by_cases h16 : n < 16
        · have hix := KC n h16
          have hdi := Lib.hid (KB h16 r)
          have hb : 0 ≤ cy pT n ∧ cy pT n < 256 := by rw [JY h16]; split <;> omega
          have hwr : wrap32 (cy pT n) = cy pT n := by simp only [wrap32]; omega
          go_wp2
          · have ht : (cy pT n != (r : Int)) = true := by assumption
            have hne : ¬ n = Kn r := fun c => by
              have := hdi.out.2 c
              rw [this] at ht
              simp at ht
            exact ⟨⟨trivial, n + 1, by go_num, by omega⟩, by simp [intOf]; omega⟩
          · have ht : (cy pT n != (r : Int)) = false := by assumption
            have he : n = Kn r := hdi.out.1 (by simpa using ht)
            exact ⟨HS.out he, hmeas⟩
        · have h16' : ¬ ((n : Int) < 16) := by omega
          have he : Hid (n = Kn r) := Lib.hid (by omega)
          go_wp2
          exact ⟨HS.out he.out, hmeas⟩
    · have hnx : ∀ ty, (Instr.next (.pointer (some ⟨w.heap.size, 0, none⟩)) true ty).run prog wr = _ := fun ty => Lib.run_next_end_at wr w.heap.size s pos ty hit hp
      have hR2 : Hid (eM wr) := Lib.hid (hR.out.below hbw (Nat.le_refl _))
      go_wp2_with (go_at_call 49; refine (GR _ _ hR2.out).mono ?_; rintro e W1 ⟨rfl, hb1⟩)
      all_goals clear hnx
      all_goals have hacc' : acc = oZ s s.size 0 0 := (IC s fuel pos acc hp).symm.trans hacc
      · have h2 : (!(bi acc).toList == s.toList) = true := by assumption
        have ho : ic s = false := by
          unfold ic
          have : ¬ bi (oZ s s.size 0 0) = s := fun c => by
            rw [← hacc'] at c
            rw [c] at h2
            simp at h2
          rw [decide_eq_false this, Bool.and_false]
        have hW : mp s = 0 := by rw [mp, ho]; rfl
        have hE : pa s = 4 := by rw [pa, ho]; rfl
        go_ret2
        exact ⟨by rw [hW, hE]; rfl, hbw.trans (hb1.mono hbw.size)⟩
      · have h1 : (s.size : Int) = 16 := by assumption
        have h2 : (!(bi acc).toList == s.toList) = false := by assumption
        have ho : ic s = true := by
          unfold ic
          have h3 : bi (oZ s s.size 0 0) = s := by
            rw [← hacc']
            exact toList_inj (by simpa using h2)
          rw [decide_eq_true h3, decide_eq_true (show s.size = 16 by omega)]; rfl
        have hW : mp s = acc := by rw [mp, ho, hacc']; rfl
        have hE : pa s = 0 := by rw [pa, ho]; rfl
        go_ret2
        exact ⟨by rw [hW, hE]; rfl, hbw.trans (hb1.mono hbw.size)⟩
      · have h1 : ¬ (s.size : Int) = 16 := by assumption
        have ho : ic s = false := by
          unfold ic
          rw [decide_eq_false (show ¬ s.size = 16 by omega)]; rfl
        have hW : mp s = 0 := by rw [mp, ho]; rfl
        have hE : pa s = 4 := by rw [pa, ho]; rfl
        go_ret2
        exact ⟨by rw [hW, hE]; rfl, hbw⟩
theorem Lx(s:ByteArray)(hs:s.size≤1000000000) :am prog nV [] [.str s] ⟨.tup [.int .u64 (mp s),.int .i64 (pa s)],[]⟩:=by
  refine ca ⟨FN nV,by kernel_rfl,by kernel_rfl⟩ fun ρ w us hN hv=>?_
  cases hv with | cons _ u _ _ h1 h2 =>
  cases h2;cases h1
  refine (AD s hs w (Lib.hid hN.romOk)).mono ?_
  rintro e w' ⟨rfl,hb⟩
  exact ⟨_,rfl,hb,.tup _ _ (.cons _ _ _ _ (.int _ _) (.cons _ _ _ _ (.int _ _) .nil))⟩
noncomputable def J0:aH:=cT nV (.cons .str .nil) fun t=>[⟨⟨.tup [.int .u64 (mp t.1),.int .i64 (pa t.1)],[]⟩,[jO t.1.size]⟩]
theorem ID:aM prog J0:=aO fun t=>aS (fun h=>Lx t.1 (Nat.le_of_ble_eq_true h)) bG
end Go.Plb.Seat
namespace Go.Plb.Seat
open Go Go.Plb Go.Proofs Go.RowKit Go.Shelf
set_option maxRecDepth 100000
set_option linter.unusedSimpArgs false
set_option linter.unusedVariables false
theorem KD:(1,AV.gvar (aK.map fun z=>Value.int .u64 z).toArray)∈(Rom.tab:List (Nat×AV)):=by simp [Rom.tab]
theorem KE:(4,AV.iptr .free (.vs [.iface 158 .any]) 1 0 0)∈(Rom.tab:List (Nat×AV)):=by simp [Rom.tab]
theorem KF:(5,AV.iptr .free (.vs [.iface 158 .any]) 1 0 0)∈(Rom.tab:List (Nat×AV)):=by simp [Rom.tab]
theorem Ly{w : World}(h : eM w) : Lib.TabIs prog w "internal/strconv.uint64pow10" .u64 Lib.pow10Tab := by
  have h1:=h _ KD
  cases h1 with | gvar _ _ t fr ha hb hh =>
  have hg : prog.globalNamed "internal/strconv.uint64pow10" = some 1 := by kernel_rfl
  have e:aK=Lib.pow10Tab:=by decide
  unfold Lib.TabIs World.var?
  rw [hg,←e]
  simp [hh]
theorem J1{w:World}{g:Nat}(h:VR ae.none_ w (.iptr .free (.vs [.iface 158 .any]) 1 0 0) (.pointer (some ⟨g,0,none⟩))) :∃ v,w.cell? ⟨g,0,none⟩=some (.iface 158 v):=by
  generalize hu:Value.pointer (some ⟨g,0,none⟩)=u at h
  cases h with | iptr _ _ _ _ _ bl o u' ha hb hc hv hr hk hg =>
  simp only [Value.pointer.injEq,Option.some.injEq,Addr.mk.injEq] at hu
  obtain ⟨rfl,ho,_⟩:=hu
  have ho:o=0:=by omega
  subst ho
  have h1:=hc 0 _ rfl
  have h2:=hv 0 _ rfl
  generalize u' 0=x at h1 h2
  cases h2 with | iface _ _ v hv'=>exact ⟨v,by simpa using h1⟩
def B2:Nat→Nat→List UInt8
  | 0,_=>[]
  | f+1,n=>if n<10 then [UInt8.ofNat (48+n)] else B2 f (n/10)++[UInt8.ofNat (48+n%10)]
def FF(n:Int) :List UInt8:=if n<0 then 45::B2 20 n.natAbs else B2 20 n.toNat
def cg(n:Int) :ByteArray:=⟨(FF n).toArray⟩
theorem Ei:∀ (f n:Nat),n<10^(f+1)→B2 (f+1) n=Lib.decDigits n
  | 0,n,h=>by
    have hn:n<10:=by simpa using h
    rw [Lib.decDigits]
    simp [B2,hn]
  | f+1,n,h=>by
    rw [Lib.decDigits]
    rw [B2]
    split
    · rfl
    · rw [Ei f (n/10) (by rw [Nat.pow_succ] at h;omega)]
theorem J2{n:Int}(h1 : -9223372036854775808≤n)(h2:n≤9223372036854775807) :FF n=Lib.itoa n:=by
  have hp:10^20=100000000000000000000:=by decide
  unfold FF Lib.itoa
  split
  · rw [Ei 19 _ (by rw [hp];omega)]
  · rw [Ei 19 _ (by rw [hp];omega)]
theorem AF(n:Int)(h1 : -9223372036854775808≤n)(h2:n≤9223372036854775807)(w:World)(hr:eM w) :Calls prog ke #[.int .i64 n] w fun e w'=>e=.returned (.string (cg n))∧Below w.heap.size w w':=by
  refine (Tryz.strconv_Itoa n h1 h2 w (Ly hr)).mono ?_
  rintro e w' ⟨rfl,k,os,rfl⟩
  rw [cg,J2 h1 h2]
  refine ⟨rfl,rfl,rfl,rfl,by simp [Go.Sort.grow],fun i hi=>?_⟩
  show ((w.drewN k).heap++os)[i]? = _
  rw [Array.getElem?_append_left (by simpa using hi)]
  rfl
theorem Lz(n:Int)(hk:jQ .i64 n=true) :am prog ke [] [.int .i64 n] ⟨.str (cg n),[]⟩:=by
  rw [bT] at hk
  refine ca ⟨FN ke,by kernel_rfl,by kernel_rfl⟩ fun ρ w us hN hv=>?_
  cases hv with | cons _ u _ _ h1 h2 =>
  cases h2;cases h1
  refine (AF n hk.1 hk.2 w hN.romOk).mono ?_
  rintro e w' ⟨rfl,hb⟩
  exact ⟨_,rfl,hb,.str _⟩
noncomputable def J3:aH:=cT ke (.cons (.int .i64) .nil) fun t=>[⟨⟨.str (cg t.1),[]⟩,[jQ .i64 t.1]⟩]
theorem IE:aM prog J3:=aO fun t=>aS (fun h=>Lz t.1 h) bG
def eh(s:ByteArray) :Int:=match Lib.atoiAll s.data.toList with
  | .ok v=>if cg v=s then v else -1
  | _=>-1
theorem KG{a b:ByteArray}(h:(!a.toList==b.toList)=true) :a≠b:=fun c=>by subst c;simp at h
set_option maxHeartbeats 2000000 in
theorem Ej (s : ByteArray) (hs : s.size ≤ 1000000000) (w : World) (hR : Hid (eM w)) : Calls prog jx #[.string s] w fun e w' => e = .returned (.int .i64 (eh s)) ∧ Below w.heap.size w w' := by
  cases h : Lib.atoiAll s.data.toList with
  | ok v =>
    have hv := Lib.atoiAll_bounds h
    have cA := Tryz.strconv_Atoi_ok s (by omega) v h w
    go_enter Tryz.func57, Tryz.ntmps57
    go_wp2_with (go_at_call 69; refine cA.mono ?_; rintro e W1 ⟨rfl, hw1⟩; refine Hid.out ?_)
    refine Lib.hid ?_
    have hb1 : Below w.heap.size w W1 := by
      rcases hw1 with rfl | ⟨t, rfl⟩
      · exact Below.refl _ _
      · exact Go.Lib.bytesWorld_below _ _ _
    have hR1 : Hid (eM W1) := Lib.hid (hR.out.below hb1 (Nat.le_refl _))
    clear hw1 cA
    go_wp2_with (go_at_call 43; refine (AF v hv.1 hv.2 _ hR1.out).mono ?_; rintro e W2 ⟨rfl, hb2⟩)
    · have h2 : (!(cg v).toList == s.toList) = true := by assumption
      have hn : eh s = -1 := by simp only [eh, h]; rw [if_neg (KG h2)]
      go_ret
      exact ⟨by rw [hn]; rfl, hb1.trans (hb2.mono hb1.size)⟩
    · have h2 : (!(cg v).toList == s.toList) = false := by assumption
      have hn : eh s = v := by simp only [eh, h]; rw [if_pos (toList_inj (by simpa using h2))]
      go_ret
      exact ⟨by rw [hn]; rfl, hb1.trans (hb2.mono hb1.size)⟩
  | range =>
    obtain ⟨ev, hev⟩ := J1 (hR.out _ KF)
    have hn : eh s = -1 := by simp only [eh, h]
    have cA := Tryz.strconv_Atoi_range s (by omega) h (.iface 158 ev) w hev (.inr ⟨_, _, rfl⟩)
    go_enter Tryz.func57, Tryz.ntmps57
    go_wp2_with (go_at_call 69; refine cA.mono ?_; rintro e W1 ⟨N, rfl, _, _, hb⟩)
    go_ret
    exact ⟨by rw [hn]; rfl, hb⟩
  | _ =>
    obtain ⟨ev, hev⟩ := J1 (hR.out _ KE)
    have hn : eh s = -1 := by simp only [eh, h]
    have cA := Tryz.strconv_Atoi_syntax s (by omega) h (.iface 158 ev) w hev (.inr ⟨_, _, rfl⟩)
    go_enter Tryz.func57, Tryz.ntmps57
    go_wp2_with (go_at_call 69; refine cA.mono ?_; rintro e W1 ⟨N, rfl, _, _, hb⟩)
    go_ret
    exact ⟨by rw [hn]; rfl, hb⟩
theorem J4(s:ByteArray)(hs:s.size≤1000000000) :am prog jx [] [.str s] ⟨.int .i64 (eh s),[]⟩:=by
  refine ca ⟨FN jx,by kernel_rfl,by kernel_rfl⟩ fun ρ w us hN hv=>?_
  cases hv with | cons _ u _ _ h1 h2 =>
  cases h2;cases h1
  refine (Ej s hs w (Lib.hid hN.romOk)).mono ?_
  rintro e w' ⟨rfl,hb⟩
  exact ⟨_,rfl,hb,.int _ _⟩
noncomputable def FG:aH:=cT jx (.cons .str .nil) fun t=>[⟨⟨.int .i64 (eh t.1),[]⟩,[jO t.1.size]⟩]
theorem FH:aM prog FG:=aO fun t=>aS (fun h=>J4 t.1 (Nat.le_of_ble_eq_true h)) bG
def kI:List ByteArray→List UInt8
  | []=>[]
  | [x]=>x.data.toList
  | x::y::r=>x.data.toList++32::kI (y::r)
def qp(l:List ByteArray) :ByteArray:=⟨(kI l).toArray⟩
theorem AG:∀ l:List ByteArray,kI l=Lib.join (l.map (·.data.toList)) [32]
  | []=>rfl
  | [x]=>by rw [List.map_cons,List.map_nil,Lib.join_one];rfl
  | x::y::r=>by
    rw [List.map_cons,Lib.join_cons,kI,AG (y::r),List.map_cons,Lib.join_cons]
    simp [Lib.joinTail]
theorem LA(l:Lv)(xs:List ByteArray)(h1:(qp xs).size≤1000000000)(h2:xs.length≤1000000000) :am prog ng [] [.imm l (.ss xs) 1 1 0 xs.length,.str ⟨#[32]⟩] ⟨.str (qp xs),[]⟩:=by
  refine ca ⟨FN ng,by kernel_rfl,by kernel_rfl⟩ fun ρ w us hN hv=>?_
  cases hv with | cons _ u _ _ v1 v2 =>
  cases v2 with | cons _ u2 _ _ v3 v4 =>
  cases v4;cases v3
  have hz:(kI xs).length≤1000000000:=by
    have:(qp xs).size=(kI xs).length:=by simp [qp,ByteArray.size]
    omega
  generalize hn:xs.length=n at v1
  cases v1 with
  | imm _ _ _ _ _ _ cap bl o u' ha hb hc hv' hl hr hk hg =>
    have:=Tryz.strings_Join bl (o+0*1) cap xs ⟨#[32]⟩ w (fun j x hj=>by
      have hcell:(aj.ss xs).cell? j=some (.str x):=by show (xs[j]?).map AV.str=_;rw [hj];rfl
      have q1:=hc j _ hcell
      have q2:=hv' j _ hcell
      cases hu:u' j<;>rw [hu] at q2<;>cases q2
      rw [hu] at q1
      simpa using q1) hb (by omega) (by omega) (by
        rw [←AG];omega)
    rw [hn] at this
    refine this.mono ?_
    rintro e w' ⟨rfl,hb⟩
    refine ⟨_,rfl,hb,?_⟩
    rw [←AG]
    exact .str _
  | immEnd _ _ _ _ _ cap a hr hk hg =>
    have hx:xs=[]:=List.length_eq_zero_iff.1 hn
    subst hx
    refine (Tryz.strings_Join_none a cap ⟨#[32]⟩ w).mono ?_
    rintro e w' ⟨rfl,rfl⟩
    exact ⟨_,rfl,Below.refl _ _,.str _⟩
def LB(z:ByteArray) :Bool:=decide (z=⟨#[32]⟩)
theorem KH{z:ByteArray}(h:LB z=true) :z=⟨#[32]⟩:=of_decide_eq_true h
noncomputable def J5:aH:=cT ng (.cons .ss (.cons .str .nil)) fun t=>[⟨⟨.str (qp t.1.2),[]⟩,[LB t.2.1,jO (qp t.1.2).size,jO t.1.2.length]⟩]
theorem IF:aM prog J5:=aO fun t a ha ho=>by
  simp only [List.mem_singleton] at ha
  subst ha
  obtain ⟨⟨l,xs⟩,z,_⟩:=t
  have hz:=KH ho.1
  subst hz
  exact LA l xs (Nat.le_of_ble_eq_true ho.2.1) (Nat.le_of_ble_eq_true ho.2.2.1)
end Go.Plb.Seat
namespace Go.Plb.Seat
open Go Go.Plb Go.Proofs Go.RowKit Go.Shelf
set_option maxRecDepth 100000
set_option linter.unusedSimpArgs false
set_option linter.unusedVariables false
attribute [local go_sem] Oper.semAt_some
theorem yU(s sep:ByteArray)(w:World) :Calls prog 62 #[.string s,.string sep,.int .i64 0] w fun e w' =>
    e=.returned (.func (.func 74) #[] #[.pointer (some ⟨w.heap.size+1,0,none⟩),.pointer (some ⟨w.heap.size,0,none⟩),.pointer (some ⟨w.heap.size+2,0,none⟩)]) ∧
    w'=((w.alloc (.cells #[.string s] 9)).alloc (.cells #[.string sep] 9)).alloc (.cells #[.int .i64 0] 3):=by
  have hmf:∀ (fn:Fn) (first cap:Array Value) (w:World),(Instr.makeFunc fn first cap).run prog w=.ok (.func fn first cap) w:=fun _ _ _ _=>rfl
  go_enter Tryz.func62,Tryz.ntmps62
  go_wp2
  go_ret
  exact ⟨rfl,rfl⟩
theorem AH(s sep:ByteArray)(w:World) :Calls prog 45 #[.string s,.string sep] w fun e w' =>
    e=.returned (.func (.func 74) #[] #[.pointer (some ⟨w.heap.size+1,0,none⟩),.pointer (some ⟨w.heap.size,0,none⟩),.pointer (some ⟨w.heap.size+2,0,none⟩)]) ∧
    w'=((w.alloc (.cells #[.string s] 9)).alloc (.cells #[.string sep] 9)).alloc (.cells #[.int .i64 0] 3):=by
  go_enter Tryz.func45,Tryz.ntmps45
  go_wp2_with (go_at_call 62;refine (yU s sep _).mono ?_;rintro e w' ⟨rfl,rfl⟩)
  go_ret
  exact ⟨rfl,rfl⟩
theorem uw{g:Operand}{ps:Array Tmp}{assign body:Code}{Q:Exit→Act→World→Prop}{a:Act}{w:World}{gf m:Nat}{lb:Array Value}(hg:a.eval g=.func (.func gf) #[] lb)(eg:∀ args w,(callFunc gf args).run prog w=.ok (.enter gf args) w) 
    (h : ∀ (fn : FuncId) (rec : LoopState → Option Code → Loop), (∀ st pe, (rec st pe).state = st ∧ (rec st pe).pending = pe) →
      (∀ (m':Nat) (args:Array Value) (W:World) (R:Ending→World→Prop),W.heap[w.heap.size+1]? = some (.loop (rec .ready none))→args.size=ps.size →
        assign.wpIn (Fence.wide.inRound (w.heap.size+1)) m' prog (Exit.then (fun a₁ w₁=>w₁.heap[w.heap.size+1]? = some (.loop (rec .ready none))∧body.wpIn (Fence.wide.inRound (w.heap.size+1)) m' prog
            (fun x _ w'=>match x with
              | .normal=>w'.heap[w.heap.size+1]? = some (.loop (rec .busy none))∧R (.returned (.bool true)) (w'.putObj (w.heap.size+1) (.loop (rec .ready none)))
              | .ret=>w'.heap[w.heap.size+1]? = some (.loop (rec .busy none))∧R (.returned (.bool false)) (w'.putObj (w.heap.size+1) (.loop (rec .done (some .ret))))
              | _=>False) a₁ (w₁.putObj (w.heap.size+1) (.loop (rec .busy none)))) (fun _ _ _=>False))
          { tmps:=(ps.zip args).foldl (fun t (p,v)=>t.setIfInBounds p v) a.tmps,defers:=[] } W →
        YieldAt Fence.wide m' prog (w.heap.size+1) args W R) →
      CallsIn Fence.wide m prog gf (#[.func (.yield (w.heap.size+1)) #[] #[]]++lb) ((w.alloc (.deferred (some []))).alloc (.loop (rec .ready none))) (fun e W'=>(∃ v,e=.returned v) ∧
        ((W'.heap[w.heap.size+1]? = some (.loop (rec .ready none))∧Q .normal { a with defers:={ target:=.collected w.heap.size,args:=#[] }::a.defers } (W'.putObj (w.heap.size+1) (.loop (rec .exhausted none)))) ∨
         (∃ c,W'.heap[w.heap.size+1]? = some (.loop (rec .done (some c)))∧c.wpIn Fence.wide (m+1) prog Q { a with defers:={ target:=.collected w.heap.size,args:=#[] }::a.defers } (W'.putObj (w.heap.size+1) (.loop (rec .exhausted (some c)))))))) :
    (Code.rangeFunc g ps assign body).wpIn Fence.wide (m+1) prog Q a w:=by
  refine wpIn_rangeFunc ?_
  intro fn hfn
  obtain ⟨rec,hrec⟩:∃ rec:LoopState→Option Code→Loop,rec=fun st pe=>{ state:=st,pending:=pe,fn,tmps:=a.tmps,params:=ps,assign,body,defers:=w.heap.size }:=⟨_,rfl⟩
  have key:=h fn rec (by intro st pe;rw [hrec];exact ⟨rfl,rfl⟩) (fun m' args W R hl hs hr=>by
    have hy:=run_yield (P:=prog) (args:=args) hl (by rw [hrec];exact hs)
    rw [hrec] at hy
    refine ⟨fn,_,assign,body,hy,roundIn_of_wpIn hfn (wpIn_mono hr ?_)⟩
    rintro e a1 w1 hp
    cases e<;>first | exact hp.elim | skip
    obtain ⟨h1,h2⟩:=hp
    refine ⟨_,run_beginRound h1 (by rw [hrec]),?_⟩
    have hb:({ rec .ready none with state:=.busy }:Loop)=rec .busy none:=by rw [hrec]
    rw [hb]
    refine wpIn_mono h2 ?_
    rintro e a2 w2 hp
    have hput:∀ jump,(Instr.endRound (w.heap.size+1) jump).run prog w2=_:=fun jump=>run_endRound (P:=prog) jump (r:=rec .busy none) (by cases e<;>first | exact hp.1 | exact hp.elim)
    cases e with
    | normal=>exact ⟨_,_,hput none,by have:=hp.2;rw [hrec] at this ⊢;exact this⟩
    | ret=>exact ⟨_,_,hput (some .ret),by have:=hp.2;rw [hrec] at this ⊢;exact this⟩
    | exit id=>exact hp.elim
    | goto t=>exact hp.elim
    | panic c=>exact hp.elim
    | outgrown=>exact hp.elim)
  refine ⟨w.heap.size+1,[{ target:=.collected w.heap.size,args:=#[] }],(w.alloc (.deferred (some []))).alloc (.loop (rec .ready none)),{ target:=.fn (.func gf) lb,args:=#[.func (.yield (w.heap.size+1)) #[] #[]] },(w.alloc (.deferred (some []))).alloc (.loop (rec .ready none)),gf,
    #[.func (.yield (w.heap.size+1)) #[] #[]]++lb,(w.alloc (.deferred (some []))).alloc (.loop (rec .ready none)),?_,?_,fun _ _=>trivial,?_,fun _=>by omega,?_⟩
  · rw [hrec];exact run_enterLoop_outer _ _ _ _ _
  · simp only [resolve,hg]
    simp [go_sem]
  · simp [invoke,go_sem,eg]
  · refine key.mono ?_
    rintro e W2 ⟨⟨v,rfl⟩,⟨hl,hq⟩ | ⟨c,hl,hq⟩⟩
    · exact ⟨none,W2.putObj (w.heap.size+1) (.loop (rec .exhausted none)),by have:=run_endLoop (P:=prog) hl (by rw [hrec];simp);rw [hrec] at this ⊢;exact this,hq⟩
    · exact ⟨some c,W2.putObj (w.heap.size+1) (.loop (rec .exhausted (some c))),by have:=run_endLoop (P:=prog) hl (by rw [hrec];simp);rw [hrec] at this ⊢;exact this,hq⟩
theorem yG{P:Program}{t:TypeId}{W:World}{a:Addr}{v:Value}(h:yh P t=some false)(hc:W.cell? a=some v) :(loadVar t a).run P W=.ok v W:=by
  unfold loadVar
  rw [Sem.run_bind,mQ h]
  simp [Result.andThen,hc]
theorem tE{P:Program}{fn:Func}{p q:Tmp}{t u:TypeId}(h:fn.results = #[.cell p t,.cell q u]){tmps:Array Value}{W:World}{a b:Addr}{v v':Value}(hp:tmps.getD p undef=.pointer (some a))(hq:tmps.getD q undef=.pointer (some b)) 
    (ht:yh P t=some false) (hu:yh P u=some false) (hc:W.cell? a=some v) (hd:W.cell? b=some v'):(results fn tmps).run P W=.ok (.tuple #[v,v']) W:=by
  have h1:=yG ht hc
  have h2:=yG hu hd
  rw [Ao,h]
  simp [xi,hp,hq,asAddr,Sem.run_bind,Result.andThen,h1,h2]
theorem gP{B:Nat}{a w:World}(h:Below B a w){r:Nat}(hr:B≤r)(o:Obj) :Below B a (w.putObj r o) :=
  ⟨h.os,h.tape,h.output,by simp only [World.putObj_size];exact h.size,fun k hk=>(World.putObj_heap_other (by omega)).trans (h.block k hk)⟩
theorem mH{W W':World}{base:Nat}{e:TypeId}{size:Nat}{v:Value}{n:Nat}{xs:List Value}(h:W.ownsRow base e size v n xs)(hb:∀ k,base≤k→k<W.heap.size→W'.heap[k]? = W.heap[k]?) :W'.ownsRow base e size v n xs:=by
  refine ⟨h.1,?_⟩
  rcases h.2 with q | ⟨g,cap,cur,h1,h2,h3,h4⟩
  · exact .inl q
  · exact .inr ⟨g,cap,cur,h1,h2,(hb g h2 (Array.getElem?_eq_some_iff.1 h3).1).trans h3,h4⟩
structure Lc (w:World) (rec:LoopState→Option Code→Loop) (pre:List Int) (W:World):Prop where
  r:Boxed W w.heap.size 30 (.slice none 0 0)
  e:Boxed W (w.heap.size+1) 25 (.int .i64 0)
  l:∃ v,Boxed W (w.heap.size+1+1) 30 v∧W.ownsRow (w.heap.size+8) 31 1 v pre.length (pre.map (Value.int .u64))
  d:W.heap[w.heap.size+6]? = some (.deferred (some []))
  o:W.heap[w.heap.size+6+1]? = some (.loop (rec .ready none))
  low:Below w.heap.size w W
theorem Lc.set{w:World}{rec:LoopState→Option Code→Loop}{pre:List Int}{W:World}(h:Lc w rec pre W)(k:Nat)(h1:w.heap.size+3≤k)(h2:k<w.heap.size+6)(u:Value) :Lc w rec pre (W.setCell ⟨k,0,none⟩ u):=by
  have hk:∀ j,j≠k→(W.setCell ⟨k,0,none⟩ u).heap[j]? = W.heap[j]?:=fun j hj=>Below.heap_setCell _ _ _ _ hj
  obtain ⟨v,hv,ho⟩:=h.l
  exact ⟨(hk _ (by omega)).trans h.r,(hk _ (by omega)).trans h.e,⟨v,(hk _ (by omega)).trans hv,mH ho fun j hj _=>hk j (by omega)⟩,(hk _ (by omega)).trans h.d,(hk _ (by omega)).trans h.o,h.low.setCell (by show w.heap.size≤k;omega) _⟩
def GS(W:World)(k:Nat) :Nat:=match W.cell? ⟨k,0,none⟩ with
  | some (.string r)=>r.size
  | _=>0
theorem Df{W:World}{k:Nat}{t:TypeId}{r:ByteArray}(h:Boxed W k t (.string r)) :GS W k=r.size:=by
  unfold GS
  rw [h.cell]
structure MU (w:World) (rec:LoopState→Option Code→Loop) (W:World):Prop where
  r:Boxed W w.heap.size 30 (.slice none 0 0)
  e:Boxed W (w.heap.size+1) 25 (.int .i64 4)
  d:W.heap[w.heap.size+6]? = some (.deferred (some []))
  o:W.heap[w.heap.size+6+1]? = some (.loop (rec .done (some .ret)))
  low:Below w.heap.size w W
theorem Ek(l:List UInt8)(c:UInt8) :Lib.indexByte l c<l.length∨l=[]:=by
  induction l with
  | nil=>exact .inr rfl
  | cons b l ih =>
    left
    unfold Lib.indexByte
    simp only [List.length_cons]
    split
    · omega
    · split
      · omega
      · rcases ih with h | rfl
        · omega
        · exact absurd rfl ‹¬ (Lib.indexByte [] c == -1)=true›
theorem Ma{α:Type}(h:Array α)(a b c d e f g i:α)(k:Nat) :((((((((h.push a).push b).push c).push d).push e).push f).push g).push i)[h.size+k]? = #[a,b,c,d,e,f,g,i][k]?:=by
  have e1:((((((((h.push a).push b).push c).push d).push e).push f).push g).push i)=h ++ #[a,b,c,d,e,f,g,i]:=by
    apply Array.toList_inj.1
    simp
  rw [e1,Array.getElem?_append_right (Nat.le_add_right _ _),Nat.add_sub_cancel_left]
def El:Nat→ByteArray→List Int→Option (List Int)
  | 0,_,_=>none
  | f+1,s,acc =>
    if Lib.indexByte s.data.toList 32<0 then (if ic s=true then some (acc++[mp s]) else none)
    else if ic (s.extract 0 (Lib.indexByte s.data.toList 32).toNat)=true then El f (s.extract ((Lib.indexByte s.data.toList 32).toNat+1) s.size) (acc++[mp (s.extract 0 (Lib.indexByte s.data.toList 32).toNat)]) else none
def ux(s:ByteArray) :Option (List Int):=El (s.size+1) s []
set_option maxHeartbeats 2000000 in
theorem yH (s : ByteArray) (hs : s.size ≤ 1000000000) (w : World) (hR : Hid (eM w)) : Calls prog dV #[.string s] w fun e w' => Below w.heap.size w w' ∧
    ((∃ xs v, ux s = some xs ∧ e = .returned (.tuple #[v, .int .i64 0]) ∧ w'.ownsRow (w.heap.size + 8) 31 1 v xs.length (xs.map (Value.int .u64))) ∨ (ux s = none ∧ e = .returned (.tuple #[.slice none 0 0, .int .i64 4]))) := by
  refine (callsIn_wide (n := 6)).1 (callsIn_of_wp_marks Tryz.func21 rfl trivial ?_)
  simp only [Tryz.ntmps21, List.size_toArray, List.length_cons, List.length_nil, Nat.reduceAdd, Nat.reduceSub, Array.replicate_succ, Array.replicate_zero, List.push_toArray, List.append_toArray, List.nil_append, List.cons_append]
  gi_wp2_with (refine ⟨trivial, ?_⟩; gi_at_call 45; refine (callsIn_wide.2 (AH s _ _)).mono ?_; rintro e w' ⟨rfl, rfl⟩)
  obtain ⟨w0, hw0⟩ : ∃ w0, (((((w.alloc (.cells #[.slice none 0 0] 30)).alloc (.cells #[.int .i64 0] 25)).alloc (.cells #[.slice none 0 0] 30)).alloc (.cells #[.string s] 9)).alloc (.cells #[.string ⟨#[32]⟩] 9)).alloc (.cells #[.int .i64 0] 3) = w0 := ⟨_, rfl⟩
  rw [hw0]
  have hsz : w0.heap.size = w.heap.size + 6 := by rw [← hw0]; simp
  refine uw (gf := 74) (m := 5) rfl (enters_of Tryz.func74 (by kernel_rfl) rfl) fun fn rec hrec hy => ?_
  rw [hsz] at hy ⊢
  have round : ∀ (pre : List Int) (x : ByteArray) (W : World), x.size ≤ 1000000000 → pre.length ≤ 1000000000 → Lc w rec pre W → YieldAt Fence.wide 4 prog (w.heap.size + 6 + 1) #[.string x] W (fun e W' =>
      (∀ k, w.heap.size + 3 ≤ k → k < w.heap.size + 6 → W'.heap[k]? = W.heap[k]?) ∧ ((ic x = true ∧ e = .returned (.bool true) ∧ Lc w rec (pre ++ [mp x]) W') ∨ (ic x = false ∧ e = .returned (.bool false) ∧ MU w rec W'))) := by
    intro pre x W hx hlen hS
    refine hy 4 _ W _ hS.o rfl ?_
    clear hy
    have cR := AD x hx
    gi_wp2
    refine ⟨hS.o, ?_⟩
    obtain ⟨W1, hW1⟩ : ∃ W1, W.putObj (w.heap.size + 6 + 1) (.loop (rec .busy none)) = W1 := ⟨_, rfl⟩
    rw [hW1]
    have hlt : w.heap.size + 6 + 1 < W.heap.size := (Array.getElem?_eq_some_iff.1 hS.o).1
    have hs1 : W1.heap.size = W.heap.size := by rw [← hW1]; simp
    have hk1 : ∀ k, k ≠ w.heap.size + 6 + 1 → W1.heap[k]? = W.heap[k]? := fun k hk => by rw [← hW1]; exact World.putObj_heap_other hk
    have ho1 : W1.heap[w.heap.size + 6 + 1]? = some (.loop (rec .busy none)) := by rw [← hW1]; exact World.putObj_heap_same hlt
    have hb1 : Below w.heap.size w W1 := hS.low.trans (by rw [← hW1]; exact ⟨rfl, rfl, rfl, by simp, fun k hk => World.putObj_heap_other (by omega)⟩)
    have hr1 : Hid (eM W1) := Lib.hid (hR.out.below hb1 (Nat.le_refl _))
    obtain ⟨v0, hv0, hown0⟩ := hS.l
    have hown1 : W1.ownsRow (w.heap.size + 8) 31 1 v0 pre.length (pre.map (Value.int .u64)) := by rw [← hW1]; exact ownsRow_putObj hown0 _ hS.o rfl
    obtain ⟨i0, hi, hz0, hz1, hz2⟩ := info_parts (show (prog.info? 31).map (fun i => (i.zero, i.size, i.bytes)) = some (some (.int .u64 0), 1, 8) by kernel_rfl)
    gi_wp2_with first
      | (refine ⟨trivial, ?_⟩; gi_at_call 46; refine (callsIn_wide.2 (cR _ hr1)).mono ?_; rintro e W2 ⟨rfl, hb2⟩
         have hkb : ∀ k, k < w.heap.size + 6 + 1 → W2.heap[k]? = W.heap[k]? := (fun k hk => (hb2.block k (by omega)).trans (hk1 k (by omega)))
         have hbr : Boxed W2 w.heap.size 30 (.slice none 0 0) := (hkb _ (by omega)).trans hS.r
         have hbe : Boxed W2 (w.heap.size + 1) 25 (.int .i64 0) := (hkb _ (by omega)).trans hS.e
         have hbl : Boxed W2 (w.heap.size + 1 + 1) 30 v0 := (hkb _ (by omega)).trans hv0
         have hbe2 : Boxed (W2.setCell ⟨w.heap.size, 0, none⟩ (.slice none 0 0)) (w.heap.size + 1) 25 (.int .i64 0) := (Below.heap_setCell _ _ _ _ (by first | (simp; done) | (simp; omega))).trans hbe
         have hcl := hbl.cell
         have hcr := hbr.cell
         have hfr := hbr.frozen
         have hce := hbe2.cell
         have hfe := hbe2.frozen
         have hown2 : W2.ownsRow (w.heap.size + 8) 31 1 v0 pre.length (pre.map (Value.int .u64)) := mH hown1 fun k _ hk => hb2.block k hk
         have ho2 := (hb2.block _ (by omega)).trans ho1)
      | (gi_at_builtin; refine wpListIn_append_own _ rfl _ _ 30 rfl (w.heap.size + 8) 31 i0 (.int .u64 0) 1 8 (by kernel_rfl) hi hz0 hz1 hz2 rfl (by decide) _ _ _ rfl (hown2.alloc _) ⟨W2.heap.size, 0, none⟩ 1 1 [.int .u64 (mp x)] rfl rfl (cell_one_new _ _ _) (by simp [Value.oneCell']) (by unfold maxLen; omega) (by omega) (by have := hb2.size; simp; omega) ?_
         intro v' w3 hown3 hgrow _
         obtain ⟨g', cap', rfl⟩ := ownsRow_succ hown3
         have hsz2 := hb2.size
         have hb3 : Below (w.heap.size + 8) W2 w3 := ((Below.refl _ W2).alloc (by omega) _).grown (show (W2.alloc (.cells #[.int .u64 (mp x)] 31)).grownBy w3 v0.ownBlock from hgrow) (by simp; omega) (fun j ej => by
           rcases hown2.2 with ⟨rfl, _⟩ | ⟨g, cap, cur, rfl, hb, _, _⟩
           · simp [Value.ownBlock] at ej
           · obtain rfl : g = j := by simpa [Value.ownBlock] using ej
             exact hb)
         have hbl3 : Boxed w3 (w.heap.size + 1 + 1) 30 v0 := (hb3.block _ (by omega)).trans hbl
         have hcl3 := hbl3.cell
         have hfl3 := hbl3.frozen)
    · have ho : ic x = false := by
        cases q : ic x with
        | false => rfl
        | true =>
          have h1 : (pa x != 0) = true := by assumption
          rw [pa, q] at h1
          exact absurd h1 (by decide)
      have hlow : Below w.heap.size w W2 := hb1.trans (hb2.mono (by omega))
      have hlt2 : w.heap.size + 6 + 1 < W2.heap.size := by have := hb2.size; omega
      have hd2 : W2.heap[w.heap.size + 6]? = some (.deferred (some [])) := (hkb _ (by omega)).trans hS.d
      refine ⟨?_, fun k h1 h2 => ?_, ho, ?_⟩
      · rw [Below.heap_setCell _ _ _ _ (by first | (simp; done) | (simp; omega)), Below.heap_setCell _ _ _ _ (by first | (simp; done) | (simp; omega))]; exact ho2
      · rw [World.putObj_heap_other (by omega), Below.heap_setCell _ _ _ _ (by first | (simp; done) | (simp; omega)), Below.heap_setCell _ _ _ _ (by first | (simp; done) | (simp; omega))]; exact hkb k (by omega)
      · refine ⟨?_, ?_, ?_, ?_, ?_⟩
        · unfold Boxed
          rw [World.putObj_heap_other (by omega), Below.heap_setCell _ _ _ _ (by first | (simp; done) | (simp; omega))]
          exact hbr.set _
        · unfold Boxed
          rw [World.putObj_heap_other (by omega)]
          exact hbe2.set _
        · rw [World.putObj_heap_other (by omega), Below.heap_setCell _ _ _ _ (by first | (simp; done) | (simp; omega)), Below.heap_setCell _ _ _ _ (by first | (simp; done) | (simp; omega))]; exact hd2
        · exact World.putObj_heap_same (by simpa using hlt2)
        · exact gP ((hlow.setCell (p := ⟨w.heap.size, 0, none⟩) (by simp) _).setCell (p := ⟨w.heap.size + 1, 0, none⟩) (by simp) _) (by omega) _
    · have ho : ic x = true := by
        cases q : ic x with
        | true => rfl
        | false =>
          have h1 : (pa x != 0) = false := by assumption
          rw [pa, q] at h1
          exact absurd h1 (by decide)
      have hlow : Below w.heap.size w w3 := (hb1.trans (hb2.mono (by omega))).trans (hb3.mono (by omega))
      have hlt3 : w.heap.size + 6 + 1 < w3.heap.size := by have := hb2.size; have := hb3.size; omega
      have hk3 : ∀ k, k < w.heap.size + 6 + 1 → w3.heap[k]? = W.heap[k]? := fun k hk => (hb3.block k (by omega)).trans (hkb k hk)
      refine ⟨?_, fun k h1 h2 => ?_, ho, ?_⟩
      · rw [Below.heap_setCell _ _ _ _ (by first | (simp; done) | (simp; omega)), hb3.block _ (by omega)]; exact ho2
      · rw [World.putObj_heap_other (by omega), Below.heap_setCell _ _ _ _ (by first | (simp; done) | (simp; omega))]; exact hk3 k (by omega)
      · refine ⟨?_, ?_, ⟨.slice (some ⟨g', 0, none⟩) (pre.length + 1) cap', ?_, ?_⟩, ?_, ?_, ?_⟩
        · unfold Boxed
          rw [World.putObj_heap_other (by omega), Below.heap_setCell _ _ _ _ (by first | (simp; done) | (simp; omega))]
          exact (hk3 _ (by omega)).trans hS.r
        · unfold Boxed
          rw [World.putObj_heap_other (by omega), Below.heap_setCell _ _ _ _ (by first | (simp; done) | (simp; omega))]
          exact (hk3 _ (by omega)).trans hS.e
        · unfold Boxed
          rw [World.putObj_heap_other (by omega)]
          exact hbl3.set _
        · have h9 := ownsRow_setCell_below hown3 (a := ⟨w.heap.size + 1 + 1, 0, none⟩) (by first | (simp; done) | (simp; omega)) (.slice (some ⟨g', 0, none⟩) (pre.length + 1) cap')
          refine mH ?_ fun k hk _ => World.putObj_heap_other (by omega)
          simpa using h9
        · rw [World.putObj_heap_other (by omega), Below.heap_setCell _ _ _ _ (by first | (simp; done) | (simp; omega))]; exact (hk3 _ (by omega)).trans hS.d
        · exact World.putObj_heap_same (by simpa using hlt3)
        · exact gP (hlow.setCell (p := ⟨w.heap.size + 1 + 1, 0, none⟩) (by show w.heap.size ≤ w.heap.size + 1 + 1; omega) _) (by omega) _
  obtain ⟨W0, hW0⟩ : ∃ W0, (w0.alloc (.deferred (some []))).alloc (.loop (rec .ready none)) = W0 := ⟨_, rfl⟩
  have it : CallsIn Fence.wide 5 prog 74 #[.func (.yield (w.heap.size + 6 + 1)) #[] #[], .pointer (some ⟨w.heap.size + 1 + 1 + 1 + 1, 0, none⟩), .pointer (some ⟨w.heap.size + 1 + 1 + 1, 0, none⟩), .pointer (some ⟨w.heap.size + 1 + 1 + 1 + 2, 0, none⟩)] W0
      (fun e W' => (∃ v, e = .returned v) ∧ ((∃ xs, ux s = some xs ∧ Lc w rec xs W') ∨ (ux s = none ∧ MU w rec W'))) := by
    refine callsIn_of_wp Tryz.func74 rfl trivial ?_ rfl
    simp only [Tryz.ntmps74, List.size_toArray, List.length_cons, List.length_nil, Nat.reduceAdd, Nat.reduceSub, Array.replicate_succ, Array.replicate_zero, List.push_toArray, List.append_toArray, List.nil_append, List.cons_append]
    have hat : ∀ k, k < 8 → W0.heap[w.heap.size + k]? = #[Obj.cells #[.slice none 0 0] 30, .cells #[.int .i64 0] 25, .cells #[.slice none 0 0] 30, .cells #[.string s] 9, .cells #[.string ⟨#[32]⟩] 9, .cells #[.int .i64 0] 3, .deferred (some []), .loop (rec .ready none)][k]? := fun k hk => by
      rw [← hW0, ← hw0]
      exact Ma w.heap _ _ _ _ _ _ _ _ k
    have hlow0 : Below w.heap.size w W0 := by
      rw [← hW0, ← hw0]
      refine Below.alloc (Below.alloc (Below.alloc (Below.alloc (Below.alloc (Below.alloc (Below.alloc (Below.alloc (Below.refl _ w) ?_ _) ?_ _) ?_ _) ?_ _) ?_ _) ?_ _) ?_ _) ?_ _
      all_goals simp
      all_goals try omega
    have hSt : Lc w rec [] W0 := ⟨hat 0 (by omega), hat 1 (by omega), ⟨_, hat 2 (by omega), World.ownsRow_nil _ _ _ _⟩, hat 6 (by omega), hat 7 (by omega), hlow0⟩
    have hq0 : Boxed W0 (w.heap.size + 3) 9 (.string s) := hat 3 (by omega)
    have hq1 : Boxed W0 (w.heap.size + 4) 9 (.string ⟨#[32]⟩) := hat 4 (by omega)
    have hq2 : Boxed W0 (w.heap.size + 5) 3 (.int .i64 0) := hat 5 (by omega)
    clear hat hlow0 hy
    have hc1 : W0.cell? ⟨w.heap.size + 1 + 1 + 1 + 1, 0, none⟩ = some (.string ⟨#[32]⟩) := hq1.cell
    gi_wp2
    gi_loopw [7] (fun _ W => ∃ (r : ByteArray) (pre : List Int) (f : Nat), Boxed W (w.heap.size + 3) 9 (.string r) ∧ Boxed W (w.heap.size + 4) 9 (.string ⟨#[32]⟩) ∧ Boxed W (w.heap.size + 5) 3 (.int .i64 0) ∧
        El f r pre = ux s ∧ r.size < f ∧ pre.length + r.size ≤ s.size ∧ Lc w rec pre W) (fun _ W => GS W (w.heap.size + 3))
    case atStart => exact ⟨s, [], s.size + 1, hq0, hq1, hq2, rfl, by omega, by simp, hSt⟩
    case round =>
      obtain ⟨r, pre, f, hb3, hb4, hb5, hu, hf, hl, hS⟩ := hrel
      have cI := fun w' => callsIn_wide (n := 3).2 (Tryz.strings_Index_one r 32 w')
      have h9 : Lib.indexByte r.data.toList 32 < r.size ∨ Lib.indexByte r.data.toList 32 = -1 := by
        rcases Ek r.data.toList 32 with h | h
        · exact .inl (by simpa using h)
        · rw [h]; exact .inr rfl
      have hge := Lib.indexByte_ge r.data.toList 32
      obtain ⟨i, hi⟩ : ∃ i, Lib.indexByte r.data.toList 32 = i := ⟨_, rfl⟩
      have cIx : Calls prog 76 #[.string r, .string ⟨#[32]⟩] wr (fun e w' => e = .returned (.int .i64 i) ∧ w' = wr) := by rw [← hi]; exact Tryz.strings_Index_one r 32 wr
      obtain ⟨f, rfl⟩ : ∃ g, f = g + 1 := ⟨f - 1, by omega⟩
      simp only [El, hi] at hu
      rw [hi] at h9 hge
      clear cI
      have hc3 := hb3.cell
      have hc4 := hb4.cell
      have hc5 := hb5.cell
      by_cases hneg : i < 0
      · obtain ⟨fn', tmps', assign', body', hy', hR'⟩ := round pre r wr (by omega) (by omega) hS
        gi_wp2_with (refine ⟨trivial, ?_⟩; gi_at_call 76; refine (callsIn_wide.2 cIx).mono ?_; rintro e w' ⟨rfl, rfl⟩)
        refine hR'.mono ?_
        rintro e W3 ⟨_, ⟨ho, rfl, hS3⟩ | ⟨ho, rfl, hS3⟩⟩
        · gi_wp2
          go_end0
          exact ⟨⟨_, rfl⟩, .inl ⟨_, by rw [← hu, if_pos hneg, if_pos ho], hS3⟩⟩
        · gi_wp2
          go_end0
          exact ⟨⟨_, rfl⟩, .inr ⟨by rw [← hu, if_pos hneg, if_neg (by rw [ho]; decide)], hS3⟩⟩
      · obtain ⟨n, rfl⟩ := Int.eq_ofNat_of_zero_le (Int.not_lt.1 hneg)
        obtain ⟨fn', tmps', assign', body', hy', hR'⟩ := round pre (r.extract 0 n) wr (by simp; omega) (by omega) hS
        gi_wp2_with (refine ⟨trivial, ?_⟩; gi_at_call 76; refine (callsIn_wide.2 cIx).mono ?_; rintro e w' ⟨rfl, rfl⟩)
        rw [if_neg (show ¬ ((n : Int) < 0) by omega), Int.toNat_natCast] at hu
        refine hR'.mono ?_
        rintro e W3 ⟨hk, ⟨ho, rfl, hS3⟩ | ⟨ho, rfl, hS3⟩⟩
        · rw [if_pos ho] at hu
          have hb3' : Boxed W3 (w.heap.size + 3) 9 (.string r) := (hk _ (by omega) (by omega)).trans hb3
          have hb4' : Boxed W3 (w.heap.size + 4) 9 (.string ⟨#[32]⟩) := (hk _ (by omega) (by omega)).trans hb4
          have hb5' : Boxed W3 (w.heap.size + 5) 3 (.int .i64 0) := (hk _ (by omega) (by omega)).trans hb5
          have hc3' := hb3'.cell
          have hc4' := hb4'.cell
          have hf3' := hb3'.frozen
          gi_wp2
          have hb6 := hb3'.set (.string (r.extract (n + 1) r.size))
          go_roundw
          case rel =>
            refine ⟨r.extract (n + 1) r.size, pre ++ [mp (r.extract 0 n)], f, hb6, ?_, ?_, hu, ?_, ?_, hS3.set _ (by omega) (by omega) _⟩
            · exact (Below.heap_setCell _ _ _ _ (show w.heap.size + 4 ≠ w.heap.size + 1 + 1 + 1 by omega)).trans hb4'
            · exact (Below.heap_setCell _ _ _ _ (show w.heap.size + 5 ≠ w.heap.size + 1 + 1 + 1 by omega)).trans hb5'
            · simp; omega
            · simp; omega
          case measure =>
            rw [Df hb6, Df hb3]
            simp
            omega
        · rw [if_neg (by rw [ho]; decide)] at hu
          gi_wp2
          refine bodyPost_ret (results_none rfl _ _ _) rfl ?_
          exact ⟨⟨_, rfl⟩, .inr ⟨hu.symm, hS3⟩⟩
  clear round hy
  rw [hW0]
  refine it.mono ?_
  rintro e W' ⟨hv, ⟨xs, hxs, hS⟩ | ⟨hxs, hS⟩⟩
  · refine ⟨hv, .inl ⟨hS.o, ?_⟩⟩
    have hlt : w.heap.size + 6 + 1 < W'.heap.size := (Array.getElem?_eq_some_iff.1 hS.o).1
    obtain ⟨W2, hW2⟩ : ∃ W2, W'.putObj (w.heap.size + 6 + 1) (.loop (rec .exhausted none)) = W2 := ⟨_, rfl⟩
    rw [hW2]
    have hk : ∀ k, k ≠ w.heap.size + 6 + 1 → W2.heap[k]? = W'.heap[k]? := fun k hk => by rw [← hW2]; exact World.putObj_heap_other hk
    obtain ⟨v, hv, ho⟩ := hS.l
    have br : Boxed W2 w.heap.size 30 (.slice none 0 0) := (hk _ (by omega)).trans hS.r
    have be : Boxed W2 (w.heap.size + 1) 25 (.int .i64 0) := (hk _ (by omega)).trans hS.e
    have bl : Boxed W2 (w.heap.size + 1 + 1) 30 v := (hk _ (by omega)).trans hv
    have hcl := bl.cell
    have hcr := br.cell
    have hfr := br.frozen
    obtain ⟨p, n, cap, rfl⟩ : ∃ p n cap, v = .slice p n cap := by
      rcases ho.2 with ⟨rfl, _⟩ | ⟨g, cap, cur, rfl, _⟩
      · exact ⟨_, _, _, rfl⟩
      · exact ⟨_, _, _, rfl⟩
    have be2 : Boxed (W2.setCell ⟨w.heap.size, 0, none⟩ (.slice p n cap)) (w.heap.size + 1) 25 (.int .i64 0) := (Below.heap_setCell _ _ _ _ (by first | (simp; done) | (simp; omega))).trans be
    have hce := be2.cell
    have hfe := be2.frozen
    gi_wp2
    obtain ⟨W3, hW3⟩ : ∃ W3, (W2.setCell ⟨w.heap.size, 0, none⟩ (.slice p n cap)).setCell ⟨w.heap.size + 1, 0, none⟩ (.int .i64 0) = W3 := ⟨_, rfl⟩
    rw [hW3]
    have be3 : Boxed W3 (w.heap.size + 1) 25 (.int .i64 0) := by rw [← hW3]; exact be2.set _
    have br3 : Boxed W3 w.heap.size 30 (.slice p n cap) := by
      rw [← hW3]
      exact (Below.heap_setCell _ _ _ _ (by first | (simp; done) | (simp; omega))).trans (br.set _)
    have hk3 : ∀ k, w.heap.size + 2 ≤ k → k ≠ w.heap.size + 6 + 1 → W3.heap[k]? = W'.heap[k]? := fun k h1 h2 => by
      rw [← hW3, Below.heap_setCell _ _ _ _ (by show k ≠ w.heap.size + 1; omega), Below.heap_setCell _ _ _ _ (by show k ≠ w.heap.size; omega)]; exact hk k h2
    have hd : W3.heap[w.heap.size + 6]? = some (.deferred (some [])) := (hk3 _ (by omega) (by omega)).trans hS.d
    have hlow : Below w.heap.size w W3 := by
      rw [← hW3, ← hW2]
      exact ((gP hS.low (by omega) _).setCell (p := ⟨w.heap.size, 0, none⟩) (by simp) _).setCell (p := ⟨w.heap.size + 1, 0, none⟩) (by simp) _
    have hown : (W3.putObj (w.heap.size + 6) (.deferred none)).ownsRow (w.heap.size + 8) 31 1 (.slice p n cap) xs.length (xs.map (Value.int .u64)) :=
      mH ho fun k h1 _ => (World.putObj_heap_other (by omega)).trans (hk3 k (by omega) (by omega))
    refine ⟨by simp, .inl ⟨_, _, rfl, run_takeDeferred hd, ?_⟩⟩
    exact ⟨_, tE (a := ⟨w.heap.size, 0, none⟩) (b := ⟨w.heap.size + 1, 0, none⟩) rfl rfl rfl (by kernel_rfl) (by kernel_rfl) (Boxed.cell ((World.putObj_heap_other (by omega)).trans br3)) (Boxed.cell ((World.putObj_heap_other (by omega)).trans be3)), gP hlow (by omega) _, .inl ⟨xs, _, hxs, rfl, hown⟩⟩
  · refine ⟨hv, .inr ⟨_, hS.o, ?_⟩⟩
    have hlt : w.heap.size + 6 + 1 < W'.heap.size := (Array.getElem?_eq_some_iff.1 hS.o).1
    obtain ⟨W2, hW2⟩ : ∃ W2, W'.putObj (w.heap.size + 6 + 1) (.loop (rec .exhausted (some .ret))) = W2 := ⟨_, rfl⟩
    rw [hW2]
    have hk : ∀ k, k ≠ w.heap.size + 6 + 1 → W2.heap[k]? = W'.heap[k]? := fun k hk => by rw [← hW2]; exact World.putObj_heap_other hk
    have br : Boxed W2 w.heap.size 30 (.slice none 0 0) := (hk _ (by omega)).trans hS.r
    have be : Boxed W2 (w.heap.size + 1) 25 (.int .i64 4) := (hk _ (by omega)).trans hS.e
    have hcr := br.cell
    have hce := be.cell
    have hd : W2.heap[w.heap.size + 6]? = some (.deferred (some [])) := (hk _ (by omega)).trans hS.d
    have hlow : Below w.heap.size w W2 := by rw [← hW2]; exact gP hS.low (by omega) _
    gi_wp2
    refine ⟨by simp, .inl ⟨_, _, rfl, run_takeDeferred hd, ?_⟩⟩
    exact ⟨_, tE (a := ⟨w.heap.size, 0, none⟩) (b := ⟨w.heap.size + 1, 0, none⟩) rfl rfl rfl (by kernel_rfl) (by kernel_rfl) (Boxed.cell ((World.putObj_heap_other (by omega)).trans br)) (Boxed.cell ((World.putObj_heap_other (by omega)).trans be)), gP hlow (by omega) _, .inr ⟨hxs, rfl⟩⟩
def lr(s:ByteArray) :Bool:=(ux s).isSome
def fE(s:ByteArray) :List Int:=(ux s).getD []
theorem GT{ρ:ae}{W:World}{base:Nat}{t:TypeId}{k:IntKind}{v:Value}{xs:List Int}(h:W.ownsRow base t 1 v xs.length (xs.map (Value.int k)))(ha:∀ bl,base≤bl→ρ.avoid .free bl) :
    VR ρ W (.imm .free (.ns k xs) 1 1 0 xs.length) v:=by
  rcases h.2 with ⟨rfl,h0⟩ | ⟨g,cap,cur,rfl,hg,hc,hn,_,hs,ht⟩
  · rw [h0];exact .immEnd _ _ _ _ _ _ _ trivial (fun _=>rfl) rfl
  · refine .imm .free (.ns k xs) 1 1 0 xs.length cap g 0 (fun x=>.int k (xs.getD x 0)) (ha g hg) (Array.getElem?_eq_some_iff.1 hc).1 (fun x v hx=>?_) (fun x v hx=>?_) hn trivial (fun _=>rfl) rfl
    · simp only [aj.cell?] at hx
      cases hq:xs[x]? with
      | none=>rw [hq] at hx;cases hx
      | some z =>
        have hlt:=(List.getElem?_eq_some_iff.1 hq).1
        have h1:(cur.toList.take (xs.length*1))[x]? = some (.int k z):=by rw [ht,List.getElem?_map,hq];rfl
        rw [List.getElem?_take,if_pos (by omega)] at h1
        simp only [World.cell?,hc,Nat.zero_add]
        rw [List.getD_eq_getElem?_getD,hq]
        simpa using h1
    · simp only [aj.cell?] at hx
      cases hq:xs[x]? with
      | none=>rw [hq] at hx;cases hx
      | some z =>
        rw [hq] at hx
        cases hx
        rw [List.getD_eq_getElem?_getD,hq]
        exact .int _ _
theorem HP(s:ByteArray)(hs:s.size≤1000000000) :(∀ h:lr s=true,am prog dV [] [.str s] ⟨.tup [.imm .free (.ns .u64 (fE s)) 1 1 0 (fE s).length,.int .i64 0],[]⟩) ∧
    (∀ h:(!lr s)=true,am prog dV [] [.str s] ⟨.tup [.nsl,.int .i64 4],[]⟩):=by
  refine ⟨fun ho=>?_,fun ho=>?_⟩
  · refine ca ⟨FN dV,by kernel_rfl,by kernel_rfl⟩ fun ρ w us hN hv=>?_
    cases hv with | cons _ u _ _ h1 h2 =>
    cases h2;cases h1
    refine (yH s hs w (Lib.hid hN.romOk)).mono ?_
    rintro e w' ⟨hb,⟨xs,v,hx,rfl,hown⟩ | ⟨hx,rfl⟩⟩
    · have e1:fE s=xs:=by unfold fE;rw [hx];rfl
      rw [e1]
      exact ⟨_,rfl,hb,.tup _ _ (.cons _ _ _ _ (GT hown fun bl hbl=>cP.new hN bl (by omega)) (.cons _ _ _ _ (.int _ _) .nil))⟩
    · unfold lr at ho;rw [hx] at ho;cases ho
  · refine ca ⟨FN dV,by kernel_rfl,by kernel_rfl⟩ fun ρ w us hN hv=>?_
    cases hv with | cons _ u _ _ h1 h2 =>
    cases h2;cases h1
    refine (yH s hs w (Lib.hid hN.romOk)).mono ?_
    rintro e w' ⟨hb,⟨xs,v,hx,rfl,hown⟩ | ⟨hx,rfl⟩⟩
    · unfold lr at ho;rw [hx] at ho;cases ho
    · exact ⟨_,rfl,hb,.tup _ _ (.cons _ _ _ _ .nsl (.cons _ _ _ _ (.int _ _) .nil))⟩
noncomputable def HQ:aH:=cT dV (.cons .str .nil) fun t =>
  [⟨⟨.tup [.imm .free (.ns .u64 (fE t.1)) 1 1 0 (fE t.1).length,.int .i64 0],[]⟩,[lr t.1,jO t.1.size]⟩,⟨⟨.tup [.nsl,.int .i64 4],[]⟩,[!lr t.1,jO t.1.size]⟩]
theorem GU:aM prog HQ:=aO fun t a ha ho=>by
  simp only [List.mem_cons,List.not_mem_nil,or_false] at ha
  rcases ha with rfl | rfl
  · exact (HP t.1 (Nat.le_of_ble_eq_true ho.2.1)).1 ho.1
  · exact (HP t.1 (Nat.le_of_ble_eq_true ho.2.1)).2 ho.1
end Go.Plb.Seat
namespace Go.Plb.Seat
open Go Go.Plb
noncomputable def J6:aH:=cT lL (.cons (.int .u64) .nil) fun t=>[⟨⟨.str (bi t.1),[]⟩,[]⟩]
theorem IG:aM prog J6:=aO fun t a ha ho=>by
  simp only [List.mem_singleton] at ha
  subst ha
  exact JX t.1
noncomputable def LC:List aH:=[D4,xl,J0,J3,FG,J5,HQ,J6]
theorem vV:ba prog (bh LC):=aw GF (aw D6 (aw ID (aw IE (aw FH (aw IF (aw GU (aw IG (un prog))))))))
end Go.Plb.Seat
namespace Go.Plb.Seat
open Go Go.Plb
set_option linter.unusedVariables false
set_option maxRecDepth 100000
noncomputable section
inductive ch where
  | r0 (s9:ByteArray)
def mI:ch→AE×az
  | .r0 s9=>(.ret,⟨ao 20 [(2,.str s9)],[],0⟩)
theorem ox:qm mI:=by intro x;cases x<;>(intro h;cases h)
theorem B9(id:Nat) :ow id mI:=by intro x;cases x<;>(intro h;cases h)
def pU:ch→lX
  | .r0 s9=>⟨.str s9,[]⟩
noncomputable def Ca:List Code:=cJ (rx pM)
def Cb(v_0:Lv)(words_1:List Int)(_:Unit) :az:=⟨ao 20 [(3,.nsl),(6,.imm v_0 (.ns .u64 words_1) 1 1 0 (List.length words_1)),(7,.int .i64 (((List.length words_1):Nat):Int)),(8,.int .i64 (0:Int))],[],0⟩
def Cc:T ((Unit)⊕(ch)) :=
  .leaf (.inl ())
def lu(v_0:Lv)(words_1:List Int) :Nat×Nat×Nat×(List ByteArray)→az:=fun (l2,l3,a4,l5)=>⟨ao 20 [(3,.sl 0 1 1 0 l2 l3),(6,.imm v_0 (.ns .u64 words_1) 1 1 0 (List.length words_1)),(7,.int .i64 (((List.length words_1):Nat):Int)),(8,.int .i64 ((a4:Nat):Int))],[(0,.ss l5)],1⟩
def tF:Nat×Nat×(List ByteArray)→az:=fun (l6,l7,l8)=>⟨ao 20 [(3,.sl 0 1 1 0 l6 l7)],[(0,.ss l8)],1⟩
noncomputable def Cd:List Code:=cJ (jD ((((Ca.drop 3).take 1)).headD .skip))
def AI(words_1:List Int)(l2:Nat)(l3:Nat)(a4:Nat)(l5:List ByteArray) :T ((Nat×Nat×Nat×(List ByteArray))⊕((Nat×Nat×(List ByteArray))⊕(ch))) :=
  .ask (decide (((a4:Nat):Int)<(((List.length words_1):Nat):Int)))
    (.need (th ((a4:Nat):Int) (List.length words_1))<|.need (jo a4 (List.length words_1))<|.need (eH ((l2+1)*16) 140737488355328)<|.need (eH (l2+1) 9223372036854775807)<|.need (eH 1 (List.length [(bi (List.getD words_1 a4 0))]))<|.need (eH l2 (List.length l5))<|.need (jQ .i64 (((a4+1):Nat):Int))<|.leaf (.inl ((l2+1),(l2+1),(a4+1),((List.take l2 l5)++(List.take 1 [(bi (List.getD words_1 a4 0))])))))
    (.leaf (.inr (.inl (l2,l3,l5))))
noncomputable def nh(words_1:List Int) :Nat×Nat×Nat×(List ByteArray)→Option ((Nat×Nat×Nat×(List ByteArray))⊕((Nat×Nat×(List ByteArray))⊕(ch))):=fun (l2,l3,a4,l5) =>
  (AI words_1 l2 l3 a4 l5).run
theorem AJ(v_0:Lv)(words_1:List Int)(l2:Nat)(l3:Nat)(a4:Nat)(l5:List ByteArray) :Sg prog [] Cd (lu v_0 words_1 (l2,l3,a4,l5)) (nh words_1 (l2,l3,a4,l5)) (lu v_0 words_1) (dz 0 tF mI):=by
  unfold nh;exact cu vV (lu v_0 words_1) [⟨[],[129],[3,6,7,8]⟩,⟨[],[0],[3]⟩]
def ni(l6:Nat)(l8:List ByteArray) :T ((Empty)⊕(ch)) :=
  .need (oT 0 l6 l8)<|.need (LB (ByteArray.mk #[32]))<|.need (jO (qp (bo 0 l6 l8)).size)<|.need (jO (List.length (bo 0 l6 l8)))<|.leaf (.inr (.r0 (qp (bo 0 l6 l8))))
noncomputable def pV(words_1:List Int) :Option ch:=uu (aQ ((Cc).run) fun _ =>
  aQ (dn (nh words_1) (0,0,0,([]:List ByteArray))) fun (l6,l7,l8) =>
  (ni l6 l8).run)
theorem tG(v_0:Lv)(words_1:List Int){x:ch}(h:pV words_1=some x) :am prog pM [] [.imm v_0 (.ns .u64 words_1) 1 1 0 (List.length words_1)] (pU x) :=
  yD false pU mI h (Sg.cut 3 ox (cu vV (Cb v_0 words_1) [⟨[],[],[3,6,7,8]⟩]) (fun _=>Sg.cut 1 ox (JU ⟨[(.slot 3,.own 1 1 (.ss ([]:List ByteArray)))],[0],[3,6,7,8]⟩ (lu v_0 words_1) (tF) 0 ox (B9 _) (fun ⟨l2,l3,a4,l5⟩=>AJ v_0 words_1 l2 l3 a4 l5)) (fun ⟨l6,l7,l8⟩=>cu vV vi [⟨[],[],[2]⟩])))
    (fun x=>by cases x with | r0 s9=>exact qo [.str s9])
def oy:Option ch→Bool
  | some _=>true
  | none=>false
def qq:Option ch→ByteArray
  | some (.r0 x)=>x
  | _=>ByteArray.empty
theorem Ce{x:Option ch}(h:oy x=true) :x=some (.r0 (qq x)):=by
  unfold oy at h
  split at h<;>first | rfl | (cases h;done) | (rename_i y;cases y;rfl)
noncomputable def vW:aH:=cT pM (.cons (.ns .u64) .nil) fun t=>(fun q=>[⟨pU (.r0 (qq q)),[oy q]⟩]) (pV t.1.2)
theorem yV:aM prog vW:=aO fun t=>(aS (fun h=>tG t.1.1 t.1.2 (Ce h)) bG)
noncomputable def vX:List aH:=vW::LC
theorem qr:ba prog (bh vX):=aw yV vV
inductive df where
  | r0 (s1:ByteArray)
def Cf:df→AE×az
  | .r0 s1=>(.ret,⟨ao 12 [(4,.str s1)],[],0⟩)
def oz:df→lX
  | .r0 s1=>⟨.str s1,[]⟩
def AK(m_0:Int)(n_1:Int) :T ((Empty)⊕(df)) :=
  .need (jQ .i64 m_0)<|.need (decide ((ByteArray.mk #[109,97,116,114,105,120,32]).size+(cg m_0).size≤9223372036854775807))<|.need (decide (((ByteArray.mk #[109,97,116,114,105,120,32])++(cg m_0)).size+(ByteArray.mk #[32]).size≤9223372036854775807))<|.need (jQ .i64 n_1)<|.need (decide ((((ByteArray.mk #[109,97,116,114,105,120,32])++(cg m_0))++(ByteArray.mk #[32])).size+(cg n_1).size≤9223372036854775807))<|.leaf (.inr (.r0 ((((ByteArray.mk #[109,97,116,114,105,120,32])++(cg m_0))++(ByteArray.mk #[32]))++(cg n_1))))
noncomputable def dH(m_0:Int)(n_1:Int) :Option df:=uu ((AK m_0 n_1).run)
theorem rE(m_0:Int)(n_1:Int){x:df}(h:dH m_0 n_1=some x) :am prog tC [] [.int .i64 m_0,.int .i64 n_1] (oz x) :=
  yD false oz Cf h (cu qr vi [⟨[],[],[4]⟩])
    (fun x=>by cases x with | r0 s1=>exact qo [.str s1])
def fF:Option df→Bool
  | some _=>true
  | none=>false
def gQ:Option df→ByteArray
  | some (.r0 x)=>x
  | _=>ByteArray.empty
theorem AL{x:Option df}(h:fF x=true) :x=some (.r0 (gQ x)):=by
  unfold fF at h
  split at h<;>first | rfl | (cases h;done) | (rename_i y;cases y;rfl)
noncomputable def tH:aH:=cT tC (.cons (.int .i64) (.cons (.int .i64) .nil)) fun t=>(fun q=>[⟨oz (.r0 (gQ q)),[fF q]⟩]) (dH t.1 t.2.1)
theorem xq:aM prog tH:=aO fun t=>(aS (fun h=>rE t.1 t.2.1 (AL h)) bG)
noncomputable def tI:List aH:=tH::vX
theorem gR:ba prog (bh tI):=aw xq qr
inductive bH where
  | r0 (b7:Bool)
def rF:bH→AE×az
  | .r0 b7=>(.ret,⟨ao 37 [(2,.bool false b7)],[],0⟩)
theorem qs:qm rF:=by intro x;cases x<;>(intro h;cases h)
def nj:bH→lX
  | .r0 b7=>⟨.bool false b7,[]⟩
def yW(a_0:Int)(a_1:Int)(a_2:Int)(v_3:Lv)(a_4:List Int)(a_5:Int)(a_6:Int) :Bool×ByteArray×Nat×Bool×Bool→az:=fun (is1,s2,a3,b4,b5)=>⟨ao 37 [(1,.ptr 0 1 0 0),(3,.ptr 1 1 0 0),(4,.bool false is1)],[(0,.vs [.int .i64 a_0,.int .i64 a_1,.int .i64 a_2,.imm v_3 (.ns .u64 a_4) 1 1 0 (List.length a_4),.int .i64 a_5,.int .u64 a_6]),(1,.vs [.str s2,.int .i64 ((a3:Nat):Int),.bool false b4,.bool false b5])],2⟩
def yX(a_0 : Int) : T ((Bool × ByteArray × Nat × Bool × Bool) ⊕ (bH)) :=
  .alt 0
    (.need (a_0==(1:Int))<|.leaf (.inl (true,(ByteArray.mk #[101,105,103,101,110]),3,false,true)))
    (.alt 1
      (.need (a_0==(2:Int))<|.leaf (.inl (true,(ByteArray.mk #[118,97,108,117,101,115]),0,false,true)))
      (.alt 2
        (.need (a_0==(3:Int))<|.leaf (.inl (true,(ByteArray.mk #[115,118,100]),2,false,false)))
        (.alt 3
          (.need (a_0==(4:Int))<|.leaf (.inl (true,(ByteArray.mk #[114,97,110,107]),2,true,false)))
          (.alt 4
            (.need (a_0==(5:Int))<|.leaf (.inl (true,(ByteArray.mk #[105,110,118,101,114,115,101]),2,true,false)))
            (.alt 5
              (.need (a_0==(6:Int))<|.leaf (.inl (true,(ByteArray.mk #[99,111,110,100]),2,false,false)))
              (.alt 6
                (.need (!(a_0==(1:Int)))<|.need (!(a_0==(2:Int)))<|.need (!(a_0==(3:Int)))<|.need (!(a_0==(4:Int)))<|.need (!(a_0==(5:Int)))<|.need (!(a_0==(6:Int)))<|.leaf (.inl (false,ByteArray.empty,0,false,false)))
                (.fail)))))))
def yY(b6:Bool) :az:=⟨ao 37 [(2,.bool false b6)],[],0⟩
def qt(a_5:Int)(a_6:Int)(is1:Bool)(a3:Nat)(b4:Bool) :T ((Bool)⊕(bH)) :=
  .ask is1
    (.ask (decide (a_5≥(kD (1:Int) ((a3:Nat):Int))))
      (.ask (decide (a_5≤((a3:Nat):Int)))
        (.ask b4
          (.leaf (.inl true))
          (.leaf (.inl (a_6==(0:Int)))))
        (.leaf (.inl false)))
      (.leaf (.inl false)))
    (.leaf (.inl false))
def yZ(b6:Bool) :T ((Empty)⊕(bH)) :=
  .leaf (.inr (.r0 b6))
noncomputable def dp(a_0:Int)(a_5:Int)(a_6:Int) :Option bH:=uu (aQ ((yX a_0).run) fun (is1,s2,a3,b4,b5) =>
  aQ ((qt a_5 a_6 is1 a3 b4).run) fun b6 =>
  (yZ b6).run)
theorem za(a_0:Int)(a_1:Int)(a_2:Int)(v_3:Lv)(a_4:List Int)(a_5:Int)(a_6:Int){x:bH}(h:dp a_0 a_5 a_6=some x) :am prog ru [] [.agg [.int .i64 a_0,.int .i64 a_1,.int .i64 a_2,.imm v_3 (.ns .u64 a_4) 1 1 0 (List.length a_4),.int .i64 a_5,.int .u64 a_6]] (nj x) :=
  yD false nj rF h (Sg.cut 2 qs (cu gR (yW a_0 a_1 a_2 v_3 a_4 a_5 a_6) [⟨[],[0,144],[1,3,4]⟩,⟨[],[0,144],[1,3,4]⟩,⟨[],[0,144],[1,3,4]⟩,⟨[],[0,144],[1,3,4]⟩,⟨[],[0,144],[1,3,4]⟩,⟨[],[0,144],[1,3,4]⟩,⟨[],[0,144],[1,3,4]⟩]) (fun ⟨is1,s2,a3,b4,b5⟩=>Sg.cut 1 qs (cu gR yY [⟨[],[],[2]⟩,⟨[],[],[2]⟩,⟨[],[],[2]⟩,⟨[],[],[2]⟩,⟨[],[],[2]⟩]) (fun b6=>cu gR vi [⟨[],[],[2]⟩])))
    (fun x=>by cases x with | r0 b7=>exact qo [.bool false b7])
def eO:Option bH→Bool
  | some _=>true
  | none=>false
def fo:Option bH→Bool
  | some (.r0 x)=>x
  | _=>false
theorem zb{x:Option bH}(h:eO x=true) :x=some (.r0 (fo x)):=by
  unfold eO at h
  split at h<;>first | rfl | (cases h;done) | (rename_i y;cases y;rfl)
noncomputable def rG:aH:=cT ru (.cons (.agg (.cons (.int .i64) (.cons (.int .i64) (.cons (.int .i64) (.cons (.ns .u64) (.cons (.int .i64) (.cons (.int .u64) .nil))))))) .nil) fun t=>(fun q=>[⟨nj (.r0 (fo q)),[eO q]⟩]) (dp t.1.1 t.1.2.2.2.2.1 t.1.2.2.2.2.2.1)
theorem vY:aM prog rG:=aO fun t=>(aS (fun h=>za t.1.1 t.1.2.1 t.1.2.2.1 t.1.2.2.2.1.1 t.1.2.2.2.1.2 t.1.2.2.2.2.1 t.1.2.2.2.2.2.1 (zb h)) bG)
noncomputable def rH:List aH:=rG::tI
theorem kh:ba prog (bh rH):=aw vY gR
inductive cF where
  | r0 (b2:Bool)
def vZ:cF→AE×az
  | .r0 b2=>(.ret,⟨ao 41 [(2,.bool false b2)],[],0⟩)
theorem Cg:qm vZ:=by intro x;cases x<;>(intro h;cases h)
def pW:cF→lX
  | .r0 b2=>⟨.bool false b2,[]⟩
def Ch(b1:Bool) :az:=⟨ao 41 [(2,.bool false b1)],[],0⟩
def Ci(a_0 : Int)(a_1 : Int)(a_2 : Int)(a_4 : List Int)(a_5 : Int)(a_6 : Int) : T ((Bool) ⊕ (cF)) :=
  .ask (decide (a_1 ≥ (0 : Int)))
    (.ask (decide (a_1 ≤ (512 : Int)))
      (.ask (decide (a_2 ≥ (0 : Int)))
        (.ask (decide (a_2≤(512:Int)))
          (.need (jQ .i64 (a_1*a_2))<|.ask ((((List.length a_4):Nat):Int)==(a_1*a_2))
            (.need (oT 0 (List.length a_4) a_4)<|.need (eO (dp a_0 a_5 a_6))<|.ask (fo (dp a_0 a_5 a_6))
              (.ask (a_1 == a_2)
                (.leaf (.inl true))
                (.alt 0
                  (.need (a_0==(1:Int))<|.leaf (.inl false))
                  (.alt 1
                    (.need (a_0==(2:Int))<|.leaf (.inl false))
                    (.alt 2
                      (.need (a_0==(3:Int))<|.leaf (.inl true))
                      (.alt 3
                        (.need (a_0==(4:Int))<|.leaf (.inl true))
                        (.alt 4
                          (.need (a_0==(5:Int))<|.leaf (.inl true))
                          (.alt 5
                            (.need (a_0==(6:Int))<|.leaf (.inl true))
                            (.alt 6
                              (.need (!(a_0==(1:Int)))<|.need (!(a_0==(2:Int)))<|.need (!(a_0==(3:Int)))<|.need (!(a_0==(4:Int)))<|.need (!(a_0==(5:Int)))<|.need (!(a_0==(6:Int)))<|.leaf (.inl true))
                              (.fail)))))))))
              (.leaf (.inl false)))
            (.leaf (.inl false)))
          (.leaf (.inl false)))
        (.leaf (.inl false)))
      (.leaf (.inl false)))
    (.leaf (.inl false))
def Cj(b1:Bool) :T ((Empty)⊕(cF)) :=
  .leaf (.inr (.r0 b1))
noncomputable def ki(a_0:Int)(a_1:Int)(a_2:Int)(a_4:List Int)(a_5:Int)(a_6:Int) :Option cF:=uu (aQ ((Ci a_0 a_1 a_2 a_4 a_5 a_6).run) fun b1 =>
  (Cj b1).run)
theorem tJ(a_0:Int)(a_1:Int)(a_2:Int)(v_3:Lv)(a_4:List Int)(a_5:Int)(a_6:Int){x:cF}(h:ki a_0 a_1 a_2 a_4 a_5 a_6=some x) :am prog vO [] [.agg [.int .i64 a_0,.int .i64 a_1,.int .i64 a_2,.imm v_3 (.ns .u64 a_4) 1 1 0 (List.length a_4),.int .i64 a_5,.int .u64 a_6]] (pW x) :=
  yD false pW vZ h (Sg.cut 2 Cg (cu kh Ch [⟨[],[],[2]⟩,⟨[],[],[2]⟩,⟨[],[],[2]⟩,⟨[],[],[2]⟩,⟨[],[],[2]⟩,⟨[],[],[2]⟩,⟨[],[],[2]⟩,⟨[],[],[2]⟩,⟨[],[],[2]⟩,⟨[],[],[2]⟩,⟨[],[],[2]⟩,⟨[],[],[2]⟩,⟨[],[],[2]⟩,⟨[],[],[2]⟩]) (fun b1=>cu kh vi [⟨[],[],[2]⟩]))
    (fun x=>by cases x with | r0 b2=>exact qo [.bool false b2])
def lw:Option cF→Bool
  | some _=>true
  | none=>false
def md:Option cF→Bool
  | some (.r0 x)=>x
  | _=>false
theorem Ck{x:Option cF}(h:lw x=true) :x=some (.r0 (md x)):=by
  unfold lw at h
  split at h<;>first | rfl | (cases h;done) | (rename_i y;cases y;rfl)
noncomputable def wa:aH:=cT vO (.cons (.agg (.cons (.int .i64) (.cons (.int .i64) (.cons (.int .i64) (.cons (.ns .u64) (.cons (.int .i64) (.cons (.int .u64) .nil))))))) .nil) fun t=>(fun q=>[⟨pW (.r0 (md q)),[lw q]⟩]) (ki t.1.1 t.1.2.1 t.1.2.2.1 t.1.2.2.2.1.2 t.1.2.2.2.2.1 t.1.2.2.2.2.2.1)
theorem zc:aM prog wa:=aO fun t=>(aS (fun h=>tJ t.1.1 t.1.2.1 t.1.2.2.1 t.1.2.2.2.1.1 t.1.2.2.2.1.2 t.1.2.2.2.2.1 t.1.2.2.2.2.2.1 (Ck h)) bG)
noncomputable def wb:List aH:=wa::rH
theorem eP:ba prog (bh wb):=aw zc kh
inductive bI where
  | r0 (s7:ByteArray)
def tK:bI→AE×az
  | .r0 s7=>(.ret,⟨ao 29 [(2,.str s7)],[],0⟩)
theorem nk:qm tK:=by intro x;cases x<;>(intro h;cases h)
def oA:bI→lX
  | .r0 s7=>⟨.str s7,[]⟩
def AM(a_0:Int)(a_1:Int)(a_2:Int)(v_3:Lv)(a_4:List Int)(a_5:Int)(a_6:Int) :ByteArray×Nat×Bool×Bool→az:=fun (s1,a2,b3,b4)=>⟨ao 29 [(1,.ptr 0 1 0 0),(3,.ptr 1 1 0 0)],[(0,.vs [.int .i64 a_0,.int .i64 a_1,.int .i64 a_2,.imm v_3 (.ns .u64 a_4) 1 1 0 (List.length a_4),.int .i64 a_5,.int .u64 a_6]),(1,.vs [.str s1,.int .i64 ((a2:Nat):Int),.bool false b3,.bool false b4])],2⟩
def AN(a_0 : Int) : T ((ByteArray × Nat × Bool × Bool) ⊕ (bI)) :=
  .alt 0
    (.need (a_0==(1:Int))<|.leaf (.inl ((ByteArray.mk #[101,105,103,101,110]),3,false,true)))
    (.alt 1
      (.need (a_0==(2:Int))<|.leaf (.inl ((ByteArray.mk #[118,97,108,117,101,115]),0,false,true)))
      (.alt 2
        (.need (a_0==(3:Int))<|.leaf (.inl ((ByteArray.mk #[115,118,100]),2,false,false)))
        (.alt 3
          (.need (a_0==(4:Int))<|.leaf (.inl ((ByteArray.mk #[114,97,110,107]),2,true,false)))
          (.alt 4
            (.need (a_0==(5:Int))<|.leaf (.inl ((ByteArray.mk #[105,110,118,101,114,115,101]),2,true,false)))
            (.alt 5
              (.need (a_0==(6:Int))<|.leaf (.inl ((ByteArray.mk #[99,111,110,100]),2,false,false)))
              (.alt 6
                (.need (!(a_0==(1:Int)))<|.need (!(a_0==(2:Int)))<|.need (!(a_0==(3:Int)))<|.need (!(a_0==(4:Int)))<|.need (!(a_0==(5:Int)))<|.need (!(a_0==(6:Int)))<|.leaf (.inl (ByteArray.empty,0,false,false)))
                (.fail)))))))
def AO(a_0:Int)(a_1:Int)(a_2:Int)(v_3:Lv)(a_4:List Int)(a_5:Int)(a_6:Int)(s1:ByteArray)(a2:Nat)(b3:Bool)(b4:Bool)(s5:ByteArray) :az:=⟨ao 29 [(1,.ptr 0 1 0 0),(3,.ptr 1 1 0 0),(4,.str s5)],[(0,.vs [.int .i64 a_0,.int .i64 a_1,.int .i64 a_2,.imm v_3 (.ns .u64 a_4) 1 1 0 (List.length a_4),.int .i64 a_5,.int .u64 a_6]),(1,.vs [.str s1,.int .i64 ((a2:Nat):Int),.bool false b3,.bool false b4])],2⟩
def rI(a_5:Int)(s1:ByteArray)(a2:Nat) :T ((ByteArray)⊕(bI)) :=
  .ask (decide (((a2:Nat):Int)>(0:Int)))
    (.need (jQ .i64 a_5)<|.need (decide ((ByteArray.mk #[32]).size+(cg a_5).size≤9223372036854775807))<|.need (decide (s1.size+((ByteArray.mk #[32])++(cg a_5)).size≤9223372036854775807))<|.leaf (.inl (s1++((ByteArray.mk #[32])++(cg a_5)))))
    (.leaf (.inl s1))
def AP(s6:ByteArray) :az:=⟨ao 29 [(4,.str s6)],[],0⟩
def AQ(a_6:Int)(b3:Bool)(s5:ByteArray) :T ((ByteArray)⊕(bI)) :=
  .ask b3
    (.need (decide ((ByteArray.mk #[32]).size+(bi a_6).size≤9223372036854775807))<|.need (decide (s5.size+((ByteArray.mk #[32])++(bi a_6)).size≤9223372036854775807))<|.leaf (.inl (s5++((ByteArray.mk #[32])++(bi a_6)))))
    (.leaf (.inl s5))
def AR(s6:ByteArray) :T ((Empty)⊕(bI)) :=
  .leaf (.inr (.r0 s6))
noncomputable def jw(a_0:Int)(a_5:Int)(a_6:Int) :Option bI:=uu (aQ ((AN a_0).run) fun (s1,a2,b3,b4) =>
  aQ ((rI a_5 s1 a2).run) fun s5 =>
  aQ ((AQ a_6 b3 s5).run) fun s6 =>
  (AR s6).run)
theorem rJ(a_0:Int)(a_1:Int)(a_2:Int)(v_3:Lv)(a_4:List Int)(a_5:Int)(a_6:Int){x:bI}(h:jw a_0 a_5 a_6=some x) :am prog tA [] [.agg [.int .i64 a_0,.int .i64 a_1,.int .i64 a_2,.imm v_3 (.ns .u64 a_4) 1 1 0 (List.length a_4),.int .i64 a_5,.int .u64 a_6]] (oA x) :=
  yD false oA tK h (Sg.cut 2 nk (cu eP (AM a_0 a_1 a_2 v_3 a_4 a_5 a_6) [⟨[],[0,96],[1,3]⟩,⟨[],[0,96],[1,3]⟩,⟨[],[0,96],[1,3]⟩,⟨[],[0,96],[1,3]⟩,⟨[],[0,96],[1,3]⟩,⟨[],[0,96],[1,3]⟩,⟨[],[0,96],[1,3]⟩]) (fun ⟨s1,a2,b3,b4⟩=>Sg.cut 3 nk (cu eP (AO a_0 a_1 a_2 v_3 a_4 a_5 a_6 s1 a2 b3 b4) [⟨[],[0,1],[1,3,4]⟩,⟨[],[0,1],[1,3,4]⟩]) (fun s5=>Sg.cut 2 nk (cu eP AP [⟨[],[],[4]⟩,⟨[],[],[4]⟩]) (fun s6=>cu eP vi [⟨[],[],[2]⟩]))))
    (fun x=>by cases x with | r0 s7=>exact qo [.str s7])
def kj:Option bI→Bool
  | some _=>true
  | none=>false
def kS:Option bI→ByteArray
  | some (.r0 x)=>x
  | _=>ByteArray.empty
theorem AS{x:Option bI}(h:kj x=true) :x=some (.r0 (kS x)):=by
  unfold kj at h
  split at h<;>first | rfl | (cases h;done) | (rename_i y;cases y;rfl)
noncomputable def tL:aH:=cT tA (.cons (.agg (.cons (.int .i64) (.cons (.int .i64) (.cons (.int .i64) (.cons (.ns .u64) (.cons (.int .i64) (.cons (.int .u64) .nil))))))) .nil) fun t=>(fun q=>[⟨oA (.r0 (kS q)),[kj q]⟩]) (jw t.1.1 t.1.2.2.2.2.1 t.1.2.2.2.2.2.1)
theorem xr:aM prog tL:=aO fun t=>(aS (fun h=>rJ t.1.1 t.1.2.1 t.1.2.2.1 t.1.2.2.2.1.1 t.1.2.2.2.1.2 t.1.2.2.2.2.1 t.1.2.2.2.2.2.1 (AS h)) bG)
noncomputable def tM:List aH:=tL::wb
theorem xt:ba prog (bh tM):=aw xr eP
end
end Go.Plb.Seat
namespace Go.Plb.Seat
open Go Go.Plb
set_option linter.unusedSimpArgs false
set_option linter.unusedVariables false
set_option maxRecDepth 100000
def pX(k:Int) :Bool×ByteArray×Nat×Bool×Bool :=
  if k=1 then (true,ByteArray.mk #[101,105,103,101,110],3,false,true)
  else if k=2 then (true,ByteArray.mk #[118,97,108,117,101,115],0,false,true)
  else if k=3 then (true,ByteArray.mk #[115,118,100],2,false,false)
  else if k=4 then (true,ByteArray.mk #[114,97,110,107],2,true,false)
  else if k=5 then (true,ByteArray.mk #[105,110,118,101,114,115,101],2,true,false)
  else if k=6 then (true,ByteArray.mk #[99,111,110,100],2,false,false)
  else (false,ByteArray.empty,0,false,false)
def dW(k y t:Int) :Bool:=bif (pX k).1 then bif decide (y≥kD 1 ((pX k).2.2.1:Nat)) then bif decide (y≤((pX k).2.2.1:Nat)) then bif (pX k).2.2.2.1 then true else t==0 else false else false else false
def gS(k m n:Int)(len:Nat)(y t:Int) :Bool :=
  bif decide (m≥0) then bif decide (m≤512) then bif decide (n≥0) then bif decide (n≤512) then bif (len:Int)==m*n then bif dW k y t then bif m==n then true else !(pX k).2.2.2.2 else false else false else false else false else false else false
def Em:ByteArray:=ByteArray.mk #[32]
def mq(k y t:Int) :ByteArray :=
  let s:=bif decide (((pX k).2.2.1:Int)>0) then (pX k).2.1++(Em++cg y) else (pX k).2.1
  bif (pX k).2.2.2.1 then s++(Em++bi t) else s
def fp(m n:Int) :ByteArray:=((ByteArray.mk #[109,97,116,114,105,120,32]++cg m)++Em)++cg n
def qK(ws:List Int) :ByteArray:=qp (ws.map bi)
theorem xu{α:Type}(f:Bool×ByteArray×Nat×Bool×Bool→α)(k:Int) :(T.alt 0 (.need (k==(1:Int))<|.leaf (f (pX 1))) (.alt 1 (.need (k==(2:Int))<|.leaf (f (pX 2))) (.alt 2 (.need (k==(3:Int))<|.leaf (f (pX 3))) (.alt 3 (.need (k==(4:Int))<|.leaf (f (pX 4))) (.alt 4 (.need (k==(5:Int))<|.leaf (f (pX 5))) (.alt 5 (.need (k==(6:Int))<|.leaf (f (pX 6)))
    (.alt 6 (.need (!(k==(1:Int)))<|.need (!(k==(2:Int)))<|.need (!(k==(3:Int)))<|.need (!(k==(4:Int)))<|.need (!(k==(5:Int)))<|.need (!(k==(6:Int)))<|.leaf (f (false,ByteArray.empty,0,false,false))) .fail))))))).run=some (f (pX k)):=by
  by_cases h1:k=1
  · subst h1;rfl
  by_cases h2:k=2
  · subst h2;rfl
  by_cases h3:k=3
  · subst h3;rfl
  by_cases h4:k=4
  · subst h4;rfl
  by_cases h5:k=5
  · subst h5;rfl
  by_cases h6:k=6
  · subst h6;rfl
  have e:pX k=(false,ByteArray.empty,0,false,false):=by simp [pX,h1,h2,h3,h4,h5,h6]
  rw [e]
  have q:∀ j:Int,¬ k=j→(k==j)=false:=fun j h=>beq_eq_false_iff_ne.2 h
  simp [T.run,q _ h1,q _ h2,q _ h3,q _ h4,q _ h5,q _ h6]
theorem me(k y t:Int) :dp k y t=some (.r0 (dW k y t)):=by
  refine cd (an (a:=pX k) (xu (fun x=>(Sum.inl x:(Bool×ByteArray×Nat×Bool×Bool)⊕bH)) k) ?_)
  generalize h:pX k=p
  obtain ⟨b,w,n,tt,sq⟩:=p
  refine an (a:=dW k y t) ?_ rfl
  unfold dW
  rw [h]
  simp only [qt,T.run]
  generalize decide (y≥kD (1:Int) (n:Int))=z1
  generalize decide (y≤(n:Int))=z2
  cases b<;>cases z1<;>cases z2<;>cases tt<;>rfl
theorem Cl(k m n:Int)(ws:List Int)(y t:Int) :ki k m n ws y t=some (.r0 (gS k m n ws.length y t)):=by
  refine cd (an (a:=gS k m n ws.length y t) ?_ rfl)
  unfold gS
  cases h1:decide (m≥0) with
  | false=>exact di h1 rfl
  | true =>
    refine eN h1 ?_
    cases h2:decide (m≤512) with
    | false=>exact bA rfl
    | true =>
      refine cD ?_
      cases h3:decide (n≥0) with
      | false=>exact bA rfl
      | true =>
        refine cD ?_
        cases h4:decide (n≤512) with
        | false=>exact bA rfl
        | true =>
          refine cD (aB ?_ ?_)
          · have g1:=of_decide_eq_true h1
            have g2:=of_decide_eq_true h2
            have g3:=of_decide_eq_true h3
            have g4:=of_decide_eq_true h4
            have:=Int.mul_le_mul g2 g4 g3 (by omega)
            have:=Int.mul_nonneg g1 g3
            rw [bT];omega
          cases h5:((ws.length:Int)==m*n) with
          | false=>exact bA rfl
          | true =>
            refine cD (aB (by simp [oT]) (aB (by rw [me];rfl) ?_))
            cases h6:dW k y t with
            | false=>exact di (by rw [me];exact h6) rfl
            | true =>
              refine eN (by rw [me];exact h6) ?_
              cases h7:(m==n) with
              | true=>exact cD rfl
              | false=>exact bA (xu (fun x=>(Sum.inl (!x.2.2.2.2):Bool⊕cF)) k)
theorem pb(w:Int) :(lM w).length=16:=by simp [lM]
theorem GV(l:List Int) :(qi l).size=l.length:=by
  have key:∀ (l:List Int) (r:ByteArray),(l.foldl (fun r n=>r.push (UInt8.ofNat n.toNat)) r).size=r.size+l.length:=by
    intro l
    induction l with
    | nil=>intro r;rfl
    | cons x l ih=>intro r;rw [List.foldl_cons,ih,ByteArray.size_push,List.length_cons];omega
  have:=key l ByteArray.empty
  simpa [qi] using this
theorem jE(w:Int) :(bi w).size=16:=by rw [bi,GV,pb]
theorem xv:∀ l:List ByteArray,(kI l).length≤(l.map fun s=>s.size+1).sum
  | []=>by simp [kI]
  | [x]=>by
    simp only [kI,List.map_cons,List.map_nil,List.sum_cons,List.sum_nil,Array.length_toList]
    show x.size≤_
    omega
  | x::y::r=>by
    have:=xv (y::r)
    simp only [kI,List.map_cons,List.sum_cons,List.length_append,List.length_cons] at this ⊢
    simp only [ByteArray.size,Array.length_toList] at this ⊢
    omega
theorem AT(l:List ByteArray) :(qp l).size=(kI l).length:=by simp [qp,ByteArray.size]
theorem AU:∀ f n,(B2 f n).length≤f
  | 0,_=>by simp [B2]
  | f+1,n=>by
    have:=AU f (n/10)
    rw [B2]
    split<;>simp<;>omega
theorem em(n:Int) :(cg n).size≤21:=by
  have:(cg n).size=(FF n).length:=by simp [cg,ByteArray.size]
  rw [this,FF]
  have h1:=AU 20 n.natAbs
  have h2:=AU 20 n.toNat
  split<;>simp<;>omega
theorem AW(m n:Int)(hm:jQ .i64 m=true)(hn:jQ .i64 n=true) :dH m n=some (.r0 (fp m n)):=by
  refine cd ?_
  have h1:=em m
  have h2:=em n
  have e1:(ByteArray.mk #[109,97,116,114,105,120,32]).size=7:=rfl
  have e2:(ByteArray.mk #[32]).size=1:=rfl
  refine aB hm (aB ?_ (aB ?_ (aB hn (aB ?_ rfl))))
  all_goals simp only [ByteArray.size_append,e1,e2,decide_eq_true_eq];omega
theorem FI(k:Int) :(pX k).2.1.size≤7:=by
  unfold pX
  repeat' split
  all_goals decide
theorem AX(k y t:Int)(hy:jQ .i64 y=true) :jw k y t=some (.r0 (mq k y t)):=by
  have hw:=FI k
  refine cd (an (a:=(pX k).2) (xu (fun x=>(Sum.inl x.2:(ByteArray×Nat×Bool×Bool)⊕bI)) k) ?_)
  generalize h:pX k=p at hw
  obtain ⟨b,w,n,tt,sq⟩:=p
  have hw:w.size≤7:=hw
  have h1:=em y
  have h2:=jE t
  have e2:(ByteArray.mk #[32]).size=1:=rfl
  have hs1:(rI y w n).run=some (.inl (bif decide ((n:Int)>0) then w++(Em++cg y) else w)):=by
    cases hz:decide ((n:Int)>0) with
    | false=>exact di hz rfl
    | true =>
      refine eN hz (aB hy (aB ?_ (aB ?_ rfl)))
      all_goals simp only [ByteArray.size_append,e2,decide_eq_true_eq];omega
  have hsz:(bif decide ((n:Int)>0) then w++(Em++cg y) else w).size≤29:=by
    have e3:Em.size=1:=rfl
    cases decide ((n:Int)>0)<;>simp only [cond_true,cond_false,ByteArray.size_append,e3]<;>omega
  unfold mq
  rw [h]
  refine an hs1 ?_
  generalize (bif decide ((n:Int)>0) then w++(Em++cg y) else w)=s5 at hsz
  refine an (a:=bif tt then s5++(Em++bi t) else s5) ?_ rfl
  cases tt with
  | false=>exact bA rfl
  | true =>
    refine cD (aB ?_ (aB ?_ rfl))
    all_goals simp only [ByteArray.size_append,e2,decide_eq_true_eq];omega
theorem Cm(ws:List Int)(h:ws.length≤1000000) :pV ws=some (.r0 (qK ws)):=by
  have hsz:(qK ws).size≤17*ws.length:=by
    have:=xv (ws.map bi)
    rw [qK,AT]
    have e:((ws.map bi).map fun s=>s.size+1).sum=17*ws.length:=by
      clear this h
      induction ws with
      | nil=>rfl
      | cons x l ih=>simp only [List.map_cons,List.sum_cons,List.length_cons,jE] at ih ⊢;omega
    omega
  refine cd (an rfl (an (a:=(ws.length,ws.length,ws.map bi)) (fD (fun j=>(j,j,j,(ws.take j).map bi)) ws.length rfl (fun j hj=>?_) ?_) ?_))
  · have hl:((ws.take j).map bi).length=j:=by rw [List.length_map,List.length_take];omega
    have hg:ws[j]? = some (ws.getD j 0):=by rw [List.getD_eq_getElem?_getD,List.getElem?_eq_getElem hj];rfl
    have hn:List.take j ((ws.take j).map bi)++List.take 1 [bi (ws.getD j 0)]=(ws.take (j+1)).map bi:=by
      rw [List.take_of_length_le (by omega),List.take_add_one (l:=ws),hg,List.map_append];rfl
    rw [←hn]
    refine eN (by simp;omega) (aB (by rw [rD];omega) (aB (by rw [bC];omega) (aB (by rw [bz];omega) (aB (by rw [bz];omega) (kH (aB (by rw [bz];omega) (aB (by rw [bT];omega) rfl)))))))
  · rw [List.take_length]
    exact di (by simp) rfl
  · show (ni ws.length (ws.map bi)).run=_
    have hc:bo 0 ws.length (ws.map bi)=ws.map bi:=by
      have:=rt (ws.map bi)
      rwa [List.length_map] at this
    rw [ni,hc]
    refine aB (by simp [oT]) (kH (aB ?_ (aB ?_ rfl)))
    · show Nat.ble (qK ws).size 1000000000=true
      exact Nat.ble_eq_true_of_le (by omega)
    · show Nat.ble (ws.map bi).length 1000000000=true
      rw [List.length_map]
      exact Nat.ble_eq_true_of_le (by omega)
end Go.Plb.Seat
namespace Go.Plb.Seat
open Go Go.Plb Go.Proofs Go.RowKit Go.Shelf
set_option maxRecDepth 100000
set_option linter.unusedSimpArgs false
set_option linter.unusedVariables false
attribute [local go_sem] Oper.semAt_some
set_option maxHeartbeats 2000000 in
theorem J7 (d l cb nb : Nat) (p : Option Addr) (m n cap : Nat) (hn : 1 ≤ n) (hL : m * n ≤ 1000000) (hcap : m * n ≤ cap) (hp : 1 ≤ m → p.isSome = true) (W : World) (J : Option Nat → World → Prop)
    (hJb : ∀ i W', J (some i) W' → W'.heap[cb]? = W.heap[cb]? ∧ W'.heap[nb]? = W.heap[nb]?) (hJm : ∀ i W' W'', J i W' → Below W'.heap.size W' W'' → J i W'')
    (hY : ∀ j a W', j < m → p = some a → J (some j) W' → YieldAt Fence.wide d prog l #[.slice (some (a.add (j * n))) n n] W' (fun e W'' => (e = .returned (.bool true) ∧ J (some (j + 1)) W'') ∨ (e = .returned (.bool false) ∧ J none W'')))
    (hc : Boxed W cb 30 (.slice p (m * n) cap)) (hnb : Boxed W nb 3 (.int .i64 n)) (h0 : J (some 0) W) :
    CallsIn Fence.wide (d + 1) prog 66 #[.func (.yield l) #[] #[], .pointer (some ⟨cb, 0, none⟩), .pointer (some ⟨nb, 0, none⟩)] W (fun e W' => (∃ v, e = .returned v) ∧ (J (some m) W' ∨ J none W')) := by
  refine callsIn_of_wp Tryz.func66 rfl trivial ?_ rfl
  simp only [Tryz.ntmps66, List.size_toArray, List.length_cons, List.length_nil, Nat.reduceAdd, Nat.reduceSub, Array.replicate_succ, Array.replicate_zero, List.push_toArray, List.append_toArray, List.nil_append, List.cons_append]
  gi_wp2
  gi_loopw [4] (fun t W' => ∃ (j i : Nat), t = .int .i64 (i : Nat) ∧ i = j * n ∧ j ≤ m ∧ J (some j) W') (fun t _ => m * n - (intOf t).toNat)
  case atStart => exact ⟨0, 0, rfl, by simp, Nat.zero_le _, h0⟩
  case round =>
    obtain ⟨j, i, rfl, hi, hj, hJ⟩ := hrel
    have hb := hJb j wr hJ
    have hc' : Boxed wr cb 30 (.slice p (m * n) cap) := hb.1.trans hc
    have hn' : Boxed wr nb 3 (.int .i64 n) := hb.2.trans hnb
    have c1 := hc'.cell
    have c2 := hn'.cell
    generalize hLe : m * n = L at *
    have hlt : i < L ↔ j < m := by
      rw [hi, ← hLe]
      exact ⟨fun h => Nat.lt_of_mul_lt_mul_right h, fun h => Nat.mul_lt_mul_of_pos_right h (by omega)⟩
    by_cases hjm : j < m
    · have h1 : i < L := hlt.2 hjm
      have h2 : i + n ≤ L := by
        rw [hi, ← hLe]
        calc j * n + n = (j + 1) * n := by rw [Nat.add_mul, Nat.one_mul]
          _ ≤ m * n := Nat.mul_le_mul_right n hjm
      obtain ⟨a, rfl⟩ := Option.isSome_iff_exists.1 (hp (by omega))
      have hJ' : J (some j) wr.drew := hJm _ _ _ hJ (Below.refl _ _).drew
      have hY' := hY j a wr.drew hjm rfl hJ'
      rw [← hi] at hY'
      obtain ⟨fn', tmps', assign', body', hy', hR'⟩ := hY'
      replace hi := Lib.hid hi
      clear hlt
      gi_wp2
      gi_region
      rw [show min (n : Int) ((L - i : Nat) : Int) = (n : Int) by omega]
      gi_wp2
      refine hR'.mono ?_
      rintro e W3 (⟨rfl, hJ3⟩ | ⟨rfl, hJ3⟩)
      · have hb3 := hJb (j + 1) W3 hJ3
        have c3 := (show Boxed W3 nb 3 (.int .i64 n) from hb3.2.trans hnb).cell
        gi_wp2
        go_roundw
        case rel => exact ⟨j + 1, i + n, by go_num, by rw [hi.out, Nat.add_mul, Nat.one_mul], by omega, hJ3⟩
        case measure => simp [intOf]; omega
      · gi_wp2
        refine bodyPost_ret (results_none rfl _ _ _) rfl ?_
        exact ⟨⟨_, rfl⟩, .inr hJ3⟩
    · have h1 : ¬ i < L := fun h => hjm (hlt.1 h)
      have hjm' : j = m := by omega
      gi_wp2
      go_end0
      exact ⟨⟨_, rfl⟩, .inl (hjm' ▸ hJ)⟩
theorem FJ(p:Option Addr)(len cap n:Nat)(hn:1≤n)(w:World) :Calls prog 54 #[.slice p len cap,.int .i64 n] w fun e w' =>
    e=.returned (.func (.func 66) #[] #[.pointer (some ⟨w.heap.size,0,none⟩),.pointer (some ⟨w.heap.size+1,0,none⟩)])∧w'=(w.alloc (.cells #[.slice p len cap] 30)).alloc (.cells #[.int .i64 n] 3):=by
  have hmf:∀ (fn:Fn) (first cap:Array Value) (w:World),(Instr.makeFunc fn first cap).run prog w=.ok (.func fn first cap) w:=fun _ _ _ _=>rfl
  go_enter Tryz.func54,Tryz.ntmps54
  go_wp2
  go_ret
  exact ⟨rfl,rfl⟩
def cp(k m n:Int)(ws:List Int)(y t:Int) :List ByteArray :=
  bif gS k m n ws.length y t then fp m n::((bif decide (n>0) then (List.range m.toNat).map (fun i=>qK ((ws.drop (i*n.toNat)).take n.toNat)) else [])++[mq k y t]) else []
abbrev GW(k m n:Int)(vw:Value)(y t:Int) :Array Value:=#[.int .i64 k,.int .i64 m,.int .i64 n,vw,.int .i64 y,.int .u64 t]
abbrev ig(ws:List Int) :AV:=.imm .free (.ns .u64 ws) 1 1 0 ws.length
theorem Dg(k m n:Int)(ws:List Int)(vw:Value)(y t:Int)(w:World)(hr:eM w)(hv:VR ae.none_ w (ig ws) vw) :
    Calls prog 17 #[.agg (GW k m n vw y t)] w fun e w'=>e=.returned (.bool (gS k m n ws.length y t))∧Below w.heap.size w w':=by
  have h:=tJ k m n .free ws y t (Cl k m n ws y t)
  refine (am.calls (v:=.bool false (gS k m n ws.length y t)) h w hr (us:=[.agg (GW k m n vw y t)]) (.cons _ _ _ _ (.agg _ _ (.cons _ _ _ _ (.int _ _) (.cons _ _ _ _ (.int _ _) (.cons _ _ _ _ (.int _ _) (.cons _ _ _ _ hv (.cons _ _ _ _ (.int _ _) (.cons _ _ _ _ (.int _ _) .nil))))))) .nil)).mono ?_
  rintro e w' ⟨u,ρ',rfl,hb,hu⟩
  cases hu
  exact ⟨rfl,hb⟩
theorem GX(k m n:Int)(ws:List Int)(vw:Value)(y t:Int)(hy:jQ .i64 y=true)(w:World)(hr:eM w)(hv:VR ae.none_ w (ig ws) vw) :
    Calls prog 36 #[.agg (GW k m n vw y t)] w fun e w'=>e=.returned (.string (mq k y t))∧Below w.heap.size w w':=by
  have h:=rJ k m n .free ws y t (AX k y t hy)
  refine (am.calls (v:=.str (mq k y t)) h w hr (us:=[.agg (GW k m n vw y t)]) (.cons _ _ _ _ (.agg _ _ (.cons _ _ _ _ (.int _ _) (.cons _ _ _ _ (.int _ _) (.cons _ _ _ _ (.int _ _) (.cons _ _ _ _ hv (.cons _ _ _ _ (.int _ _) (.cons _ _ _ _ (.int _ _) .nil))))))) .nil)).mono ?_
  rintro e w' ⟨u,ρ',rfl,hb,hu⟩
  cases hu
  exact ⟨rfl,hb⟩
theorem GY(m n:Int)(hm:jQ .i64 m=true)(hn:jQ .i64 n=true)(w:World)(hr:eM w) :Calls prog 53 #[.int .i64 m,.int .i64 n] w fun e w'=>e=.returned (.string (fp m n))∧Below w.heap.size w w':=by
  have h:=rE m n (AW m n hm hn)
  refine (am.calls (v:=.str (fp m n)) h w hr (us:=[.int .i64 m,.int .i64 n]) (.cons _ _ _ _ (.int _ _) (.cons _ _ _ _ (.int _ _) .nil))).mono ?_
  rintro e w' ⟨u,ρ',rfl,hb,hu⟩
  cases hu
  exact ⟨rfl,hb⟩
theorem IH(ws:List Int)(h6:ws.length≤1000000)(vw:Value)(w:World)(hr:eM w)(hv:VR ae.none_ w (ig ws) vw) :Calls prog 23 #[vw] w fun e w'=>e=.returned (.string (qK ws))∧Below w.heap.size w w':=by
  have h:=tG .free ws (Cm ws h6)
  refine (am.calls (v:=.str (qK ws)) h w hr (us:=[vw]) (.cons _ _ _ _ hv .nil)).mono ?_
  rintro e w' ⟨u,ρ',rfl,hb,hu⟩
  cases hu
  exact ⟨rfl,hb⟩
theorem lN{k m n:Int}{len:Nat}{y t:Int}(h:gS k m n len y t=true) :0≤m∧m≤512∧0≤n∧n≤512∧(len:Int)=m*n∧0≤y∧y≤3:=by
  unfold gS at h
  simp only [Bool.cond_eq_ite,Bool.if_false_right,Bool.and_eq_true,decide_eq_true_eq,beq_iff_eq,ge_iff_le] at h
  obtain ⟨h1,h2,h3,h4,h5,h6,_⟩:=h
  refine ⟨h1,h2,h3,h4,h5,?_⟩
  unfold dW at h6
  simp only [Bool.cond_eq_ite,Bool.if_false_right,Bool.and_eq_true,decide_eq_true_eq,beq_iff_eq,ge_iff_le] at h6
  obtain ⟨_,g1,g2,_⟩:=h6
  have hk:(pX k).2.2.1≤3:=by
    unfold pX
    repeat' split
    all_goals decide
  have g3:kD 1 ((pX k).2.2.1:Nat)≥0:=by unfold kD;split<;>omega
  omega
theorem wc(w:World) :(isAgg 33).run prog w=.ok true w:=mQ (by kernel_rfl)
theorem rK(w:World) :(sizeOf 33).run prog w=.ok 6 w:=by
  have hi:(prog.info? 33).map (·.size)=some 6:=by kernel_rfl
  cases hq:prog.info? 33 with
  | none=>rw [hq] at hi;cases hi
  | some i =>
    rw [hq] at hi
    simp only [Option.map_some,Option.some.injEq] at hi
    simp [sizeOf,Sem.run_bind,typeInfo,hq,hi]
theorem cv{W:World}{k:Nat}{o:Obj}(h:W.heap[k]? = some o) :k<W.heap.size:=(Array.getElem?_eq_some_iff.1 h).1
structure II (B ab:Nat) (k m n:Int) (ws:List Int) (vw:Value) (y t:Int) (J:Option Nat→World→Prop):Prop where
  ask:∀ i W,J (some i) W→W.heap[ab]? = some (.cells (GW k m n vw y t) 33 (0,0))∧eM W∧VR ae.none_ W (ig ws) vw
  mono:∀ i W W',J i W→Below W.heap.size W W'→J i W'
  put:∀ i W r o o',J i W→B≤r→W.heap[r]? = some o'→o'.isCells=false→J i (W.putObj r o)
def FK(o:Obj) :Prop:=∀ c fz,o ≠ .cells c 5 fz
def xw(B:Nat)(W W':World) :Prop:=W.heap.size≤W'.heap.size∧∀ r o,B≤r→W.heap[r]? = some o→FK o→W'.heap[r]? = some o
theorem lO{c:Array Value}{t:TypeId}{fz:Nat×Nat}(h:t≠5) :FK (.cells c t fz):=fun _ _ e=>by injection e with _ e;exact h e
theorem sG(l:Option (List Deferred)) :FK (.deferred l):=fun _ _ e=>by cases e
theorem AY(l:Loop) :FK (.loop l):=fun _ _ e=>by cases e
structure LF (ab bx:Nat) (l:Nat) (k m n:Int) (ws:List Int) (vw:Value) (y t:Int) (W:World):Prop where
  c0:W.cell? ⟨ab,0,none⟩=some (.int .i64 k)
  c1:W.cell? ⟨ab,1,none⟩=some (.int .i64 m)
  c2:W.cell? ⟨ab,2,none⟩=some (.int .i64 n)
  c3:W.cell? ⟨ab,3,none⟩=some vw
  c4:W.cell? ⟨ab,4,none⟩=some (.int .i64 y)
  c5:W.cell? ⟨ab,5,none⟩=some (.int .u64 t)
  cb:W.cell? ⟨bx,0,none⟩=some (.func (.yield l) #[] #[])
  rom:eM W
  hv:VR ae.none_ W (ig ws) vw
theorem Mb{ab bx l:Nat}{k m n:Int}{ws:List Int}{vw:Value}{y t:Int}{W:World}(h:W.heap[ab]? = some (.cells (GW k m n vw y t) 33 (0,0))∧eM W∧VR ae.none_ W (ig ws) vw)(hbx:Boxed W bx 41 (.func (.yield l) #[] #[])) :
    LF ab bx l k m n ws vw y t W:=by
  obtain ⟨h1,h2,h3⟩:=h
  exact ⟨by simp [World.cell?,h1],by simp [World.cell?,h1],by simp [World.cell?,h1],by simp [World.cell?,h1],by simp [World.cell?,h1],by simp [World.cell?,h1],hbx.cell,h2,h3⟩
theorem II.lf{B ab bx l:Nat}{k m n:Int}{ws:List Int}{vw:Value}{y t:Int}{J:Option Nat→World→Prop}(hI:II B ab k m n ws vw y t J){i:Nat}{W W':World}(hJ:J (some i) W)(hbx:Boxed W bx 41 (.func (.yield l) #[] #[]))(hb:Below W.heap.size W W') :
    LF ab bx l k m n ws vw y t W':=Mb (hI.ask i W' (hI.mono _ _ _ hJ hb)) ((hb.block bx hbx.lt).trans hbx)
theorem Dh{ρ:ae}{W:World}{ws:List Int}{v:Value}(hv:VR ρ W (ig ws) v) :∃ p cap,v=.slice p ws.length cap∧ws.length≤cap∧(1≤ws.length→p.isSome=true):=by
  generalize hA:ig ws=A at hv
  cases hv with
  | imm bw d k es i len cap bl o u ha hb hc hv hl hr hk hg=>cases hA;exact ⟨_,_,rfl,hl,fun _=>rfl⟩
  | immEnd bw d k es i cap a hr hk hg =>
    simp only [ig,AV.imm.injEq] at hA
    obtain ⟨_,_,_,_,_,h0⟩:=hA
    rw [h0]
    exact ⟨_,_,rfl,Nat.zero_le _,fun h=>by omega⟩
  | _=>cases hA
theorem IJ{ρ:ae}{W:World}{ws:List Int}{a:Addr}{cap:Nat}(hv:VR ρ W (ig ws) (.slice (some a) ws.length cap))(j c:Nat)(h:j+c≤ws.length) :VR ρ W (ig ((ws.drop j).take c)) (.slice (some (a.add j)) c c):=by
  have hlen:((ws.drop j).take c).length=c:=by rw [List.length_take,List.length_drop];omega
  by_cases hc0:c=0
  · subst hc0
    show VR ρ W (.imm .free (.ns .u64 _) 1 1 0 _) _
    rw [List.take_zero]
    exact .immEnd _ _ _ _ _ _ _ trivial (fun _=>rfl) rfl
  generalize hA:ig ws=A at hv
  generalize hV:Value.slice (some a) ws.length cap=V at hv
  cases hv with
  | imm bw d k es i len cap bl o u ha hb hc hv hl hr hk hg =>
    cases hA
    cases hV
    have:=VR.imm (ρ:=ρ) (w:=W) .free (.ns .u64 ((ws.drop j).take c)) 1 1 0 c c bl (o+0*1+j) (fun x=>u (j+x)) ha hb (fun x v hx=>?_) (fun x v hx=>?_) (Nat.le_refl _) trivial (fun _=>rfl) rfl
    · show VR ρ W (.imm .free (.ns .u64 ((ws.drop j).take c)) 1 1 0 ((ws.drop j).take c).length) _
      rw [hlen]
      have e1:(Addr.mk bl (o+0*1) none).add j=Addr.mk bl (o+0*1+j+0*1) none:=by simp [Addr.add]
      rw [e1]
      exact this
    all_goals
      simp only [aj.cell?,List.getElem?_take,List.getElem?_drop] at hx
      split at hx
      case isFalse=>cases hx
    · have:=hc (j+x) v (by simpa [aj.cell?] using hx)
      rw [show o+0*1+j+x=o+(j+x) by omega]
      exact this
    · exact hv (j+x) v (by simpa [aj.cell?] using hx)
  | immEnd bw d k es i cap a hr hk hg =>
    simp only [ig,AV.imm.injEq] at hA
    obtain ⟨_,_,_,_,_,h0⟩:=hA
    omega
  | _=>cases hA
noncomputable def AZ:Code:=match Tryz.f52.body with
  | some (.seq _ (.seq _ t))=>t
  | _=>.skip
noncomputable def J8:Code:=match AZ with
  | .seq _ t=>t
  | _=>.skip
set_option maxHeartbeats 4000000 in
theorem A0 (d l ab bx B : Nat) (k m n : Int) (ws : List Int) (vw : Value) (y t : Int) (J : Option Nat → World → Prop) (hI : II B ab k m n ws vw y t J)
    (hm : gS k m n ws.length y t = true) (hbx : B ≤ bx)
    (hY : ∀ d' j x W', (cp k m n ws y t)[j]? = some x → J (some j) W' → YieldAt Fence.wide (d' + 4) prog l #[.string x] W' (fun e W'' => ∃ b : Bool, e = .returned (.bool b) ∧ J (bif b then some (j + 1) else none) W'' ∧ xw B W' W''))
    (Q : Exit → Act → World → Prop) (D : List Deferred) (W3 : World) (hQ : ∀ a W', a.defers = D → xw B W3 W' → J (some (cp k m n ws y t).length) W' ∨ J none W' → Q .normal a W' ∧ Q .ret a W')
    (j : Nat) (hj : (cp k m n ws y t).length = j + 1) (hl : (cp k m n ws y t)[j]? = some (mq k y t)) (h1 : J (some j) W3) (hx : Boxed W3 bx 41 (.func (.yield l) #[] #[])) (u3 u4 u5 u6 u7 u8 u9 u10 u11 u12 u13 u14 u15 u16 u17 u18 u19 u20 u21 u22 u23 u24 u25 u26 u27 u28 u29 u30 u31 u32 u33 LP : Value) : Code.wpIn Fence.wide (d + 10) prog J8 Q { tmps := #[.func (.yield l) #[] #[], .pointer (some ⟨ab, 0, none⟩), .pointer (some ⟨bx, 0, none⟩), u3, u4, u5, u6, u7, u8, u9, u10, u11, u12, u13, u14, u15, u16, u17, u18, u19, u20, u21, u22, u23, u24, u25, u26, u27, u28, u29, u30, u31, u32, u33, LP], defers := D } W3 := by
  obtain ⟨hm0, hm5, hn0, hn5, hlen, hy0, hy3⟩ := lN hm
  have ky : jQ .i64 y = true := bT.2 (by omega)
  delta J8 AZ Tryz.f52
  dsimp only
  obtain ⟨c0, c1, c2, c3, c4, c5, cb, rom, hv⟩ := hI.lf h1 hx (Below.refl _ W3).drew
  have ag := wc
  have sz := rK
  have hline := GX k m n ws vw y t ky _ rom hv
  have hY1 := fun W' h => hY (d + 5) j _ W' hl h
  first
    | gi_region_with first
        | (refine ⟨trivial, ?_⟩; gi_at_call 36; refine (callsIn_wide.2 hline).mono ?_; rintro e W1 ⟨rfl, hb1⟩; have hb13 := (Below.refl _ W3).drew.trans hb1; obtain ⟨c10, c11, c12, c13, c14, c15, c1b, rom1, hv1⟩ := hI.lf h1 hx hb13; obtain ⟨fn', tmps', assign', body', hy', hR'⟩ := hY1 W1 (hI.mono _ _ _ h1 hb13))
        | (refine hR'.mono ?_; rintro e W4 ⟨b, rfl, hJ3, hK3⟩)
    | fail
  all_goals
    have hk3 : xw B W3 W4 := ⟨Nat.le_trans hb13.size hK3.1, fun r o h2 h3 h4 => hK3.2 r o h2 ((hb13.block r (cv h3)).trans h3) h4⟩
    refine (hQ _ _ rfl hk3 ?_).1
    rw [hj]
    cases b
    · exact .inr hJ3
    · exact .inl hJ3
theorem Ld{α:Type}(h:Array α)(a b c d:α)(k:Nat) :((((h.push a).push b).push c).push d)[h.size+k]? = #[a,b,c,d][k]?:=by
  have e1:((((h.push a).push b).push c).push d)=h ++ #[a,b,c,d]:=by
    apply Array.toList_inj.1
    simp
  rw [e1,Array.getElem?_append_right (Nat.le_add_right _ _),Nat.add_sub_cancel_left]
structure Mc (S bx l:Nat) (p:Option Addr) (L cap N:Nat) (rec:LoopState→Option Code→Loop) (J:Option Nat→World→Prop) (j:Nat) (W:World):Prop where
  j:J (some (1+j)) W
  x:Boxed W bx 41 (.func (.yield l) #[] #[])
  c:Boxed W S 30 (.slice p L cap)
  n:Boxed W (S+1) 3 (.int .i64 N)
  d:W.heap[S+2]? = some (.deferred (some []))
  o:W.heap[S+2+1]? = some (.loop (rec .ready none))
structure MC (S:Nat) (rec:LoopState→Option Code→Loop) (J:Option Nat→World→Prop) (W:World):Prop where
  j:J none W
  d:W.heap[S+2]? = some (.deferred (some []))
  o:W.heap[S+2+1]? = some (.loop (rec .done (some .ret)))
def CJ(S bx l:Nat)(p:Option Addr)(L cap N:Nat)(rec:LoopState→Option Code→Loop)(J:Option Nat→World→Prop) :Option Nat→World→Prop
  | some j,W=>Mc S bx l p L cap N rec J j W
  | none,W=>MC S rec J W
theorem CJ.mono{S bx l:Nat}{p:Option Addr}{L cap N:Nat}{rec:LoopState→Option Code→Loop}{J:Option Nat→World→Prop}(hJ:∀ i W W',J i W→Below W.heap.size W W'→J i W') :
    ∀ i W W',CJ S bx l p L cap N rec J i W→Below W.heap.size W W'→CJ S bx l p L cap N rec J i W'
  | some j,W,W',h,hb=>⟨hJ _ _ _ h.j hb,(hb.block _ h.x.lt).trans h.x,(hb.block _ h.c.lt).trans h.c,(hb.block _ h.n.lt).trans h.n,(hb.block _ (cv h.d)).trans h.d,(hb.block _ (cv h.o)).trans h.o⟩
  | none,W,W',h,hb=>⟨hJ _ _ _ h.j hb,(hb.block _ (cv h.d)).trans h.d,(hb.block _ (cv h.o)).trans h.o⟩
set_option maxHeartbeats 4000000 in
theorem GZ (d l ab bx B : Nat) (k m n : Int) (ws : List Int) (vw : Value) (y t : Int) (J : Option Nat → World → Prop) (hI : II B ab k m n ws vw y t J)
    (hm : gS k m n ws.length y t = true) (hbx : B ≤ bx)
    (hY : ∀ d' j x W', (cp k m n ws y t)[j]? = some x → J (some j) W' → YieldAt Fence.wide (d' + 4) prog l #[.string x] W' (fun e W'' => ∃ b : Bool, e = .returned (.bool b) ∧ J (bif b then some (j + 1) else none) W'' ∧ xw B W' W''))
    (Q : Exit → Act → World → Prop) (W3 : World)
    (hQ : ∀ a W', (a.defers = [] ∨ ∃ D, B ≤ D ∧ a.defers = [{ target := .collected D, args := #[] }] ∧ W'.heap[D]? = some (.deferred (some []))) → J (some (cp k m n ws y t).length) W' ∨ J none W' → Q .normal a W' ∧ Q .ret a W')
    (h1 : J (some 1) W3) (hx : Boxed W3 bx 41 (.func (.yield l) #[] #[])) (u3 u4 u5 u6 u7 u8 u9 u10 u11 u12 u13 u14 u15 u16 u17 u18 u19 u20 u21 u22 u23 u24 u25 u26 u27 u28 u29 u30 u31 u32 u33 LP : Value) : Code.wpIn Fence.wide (d + 10) prog AZ Q { tmps := #[.func (.yield l) #[] #[], .pointer (some ⟨ab, 0, none⟩), .pointer (some ⟨bx, 0, none⟩), u3, u4, u5, u6, u7, u8, u9, u10, u11, u12, u13, u14, u15, u16, u17, u18, u19, u20, u21, u22, u23, u24, u25, u26, u27, u28, u29, u30, u31, u32, u33, LP], defers := [] } W3 := by
  obtain ⟨hm0, hm5, hn0, hn5, hlen, hy0, hy3⟩ := lN hm
  have hch : ∃ x, AZ = .seq x J8 ∧ x = (match AZ with | .seq x _ => x | _ => .skip) := ⟨_, rfl, rfl⟩
  obtain ⟨x, hx', he⟩ := hch
  rw [hx']
  delta AZ Tryz.f52 at he
  dsimp only at he
  rw [he]
  obtain ⟨c0, c1, c2, c3, c4, c5, cb, rom, hv⟩ := hI.lf h1 hx (Below.refl _ W3)
  obtain ⟨N, rfl⟩ := Int.eq_ofNat_of_zero_le hn0
  obtain ⟨M, rfl⟩ := Int.eq_ofNat_of_zero_le hm0
  clear he hx'
  by_cases hN : N = 0
  · subst hN
    have hlin : cp k M ((0 : Nat) : Int) ws y t = [fp M ((0 : Nat) : Int), mq k y t] := by rw [cp, hm]; rfl
    gi_wp2
    exact A0 d l ab bx B k M ((0 : Nat) : Int) ws vw y t J hI hm hbx hY Q [] W3 (fun a W' h2 _ h4 => hQ a W' (.inl h2) h4) 1 (by rw [hlin]; rfl) (by rw [hlin]; rfl) h1 hx _ _ _ _ _ _ _ _ _ _ _ _ _ _ _ _ _ _ _ _ _ _ _ _ _ _ _ _ _ _ _ _
  · have hN1 : (0 : Int) < (N : Int) := by omega
    obtain ⟨p, cap, rfl, hcap, hp⟩ := Dh hv
    have hle : ws.length = M * N := by
      have : ((M * N : Nat) : Int) = (ws.length : Int) := by rw [hlen, Int.natCast_mul]
      omega
    rw [hle] at hcap hp hv
    gi_wp2_with (refine ⟨trivial, ?_⟩; gi_at_call 54; refine (callsIn_wide.2 (FJ p (M * N) cap N (by omega) W3)).mono ?_; rintro e w' ⟨rfl, rfl⟩)
    obtain ⟨W4, hW4⟩ : ∃ W4, (W3.alloc (.cells #[.slice p (M * N) cap] 30)).alloc (.cells #[.int .i64 N] 3) = W4 := ⟨_, rfl⟩
    rw [hW4]
    have hs4 : W4.heap.size = W3.heap.size + 2 := by rw [← hW4]; simp
    refine uw (gf := 66) (m := d + 9) rfl (enters_of Tryz.func66 (by kernel_rfl) rfl) fun fn rec hrec hy => ?_
    rw [hs4] at hy ⊢
    have hlin : cp k M N ws y t = fp M N :: (((List.range M).map (fun i => qK ((ws.drop (i * N)).take N))) ++ [mq k y t]) := by
      have hd0 : decide ((N : Int) > 0) = true := decide_eq_true hN1
      rw [cp, hm, hd0]
      rfl
    have hBS : B ≤ W3.heap.size := Nat.le_trans hbx (Nat.le_of_lt hx.lt)
    have hlen1 : (cp k M N ws y t).length = M + 1 + 1 := by rw [hlin]; simp
    have round : ∀ j a W', j < M → p = some a → Mc W3.heap.size bx l p (M * N) cap N rec J j W' → YieldAt Fence.wide (d + 8) prog (W3.heap.size + 2 + 1) #[.slice (some (a.add (j * N))) N N] W' (fun e W'' =>
        (e = .returned (.bool true) ∧ Mc W3.heap.size bx l p (M * N) cap N rec J (j + 1) W'') ∨ (e = .returned (.bool false) ∧ MC W3.heap.size rec J W'')) := by
      rintro j a W' hj rfl hS
      refine hy (d + 8) _ W' _ hS.o rfl ?_
      clear hy
      have hL1 : (cp k M N ws y t)[1 + j]? = some (qK ((ws.drop (j * N)).take N)) := by
        rw [hlin, Nat.add_comm, List.getElem?_cons_succ, List.getElem?_append_left (by simpa using hj), List.getElem?_map, List.getElem?_range hj]
        rfl
      have hjN : j * N + N ≤ ws.length := by
        rw [hle]
        calc j * N + N = (j + 1) * N := by rw [Nat.add_mul, Nat.one_mul]
          _ ≤ M * N := Nat.mul_le_mul_right N hj
      gi_wp2
      refine ⟨hS.o, ?_⟩
      obtain ⟨V1, hV1⟩ : ∃ V1, W'.putObj (W3.heap.size + 2 + 1) (.loop (rec .busy none)) = V1 := ⟨_, rfl⟩
      rw [hV1]
      have hlt := cv hS.o
      have hs1 : V1.heap.size = W'.heap.size := by rw [← hV1]; simp
      have hk1 : ∀ r, r ≠ W3.heap.size + 2 + 1 → V1.heap[r]? = W'.heap[r]? := fun r hr => by rw [← hV1]; exact World.putObj_heap_other hr
      have ho1 : V1.heap[W3.heap.size + 2 + 1]? = some (.loop (rec .busy none)) := by rw [← hV1]; exact World.putObj_heap_same hlt
      have hp1 := hI.put _ W' (W3.heap.size + 2 + 1) (.loop (rec .busy none)) _ hS.j (by omega) hS.o rfl
      rw [hV1] at hp1
      have hx1 : Boxed V1 bx 41 (.func (.yield l) #[] #[]) := (hk1 bx (by have := hx.lt; omega)).trans hS.x
      have hbd : Below V1.heap.size V1 V1.drew := (Below.refl _ V1).drew
      obtain ⟨c10, c11, c12, c13, c14, c15, c1b, rom1, hv1⟩ := hI.lf hp1 hx1 hbd
      rw [hle] at hv1
      have hw1 := IJ (ws := ws) (a := a) (cap := cap) (by rw [hle]; exact hv1) (j * N) N hjN
      have hrow := IH _ (by rw [List.length_take, List.length_drop]; have := Nat.mul_le_mul (show M ≤ 512 by omega) (show N ≤ 512 by omega); omega) _ _ rom1 hw1
      have hY1 := fun W' h => hY (d + 3) (1 + j) _ W' hL1 h
      gi_wp2
      first
        | gi_region_with first
            | (refine ⟨trivial, ?_⟩; gi_at_call 23; refine (callsIn_wide.2 hrow).mono ?_; rintro e W5 ⟨rfl, hb5⟩; have hb15 := hbd.trans hb5; have hm5 := hI.mono _ _ _ hp1 hb15; obtain ⟨c50, c51, c52, c53, c54, c55, c5b, rom5, hv5⟩ := hI.lf hp1 hx1 hb15; obtain ⟨fn', tmps', assign', body', hy', hR'⟩ := hY1 W5 hm5)
            | (refine hR'.mono ?_; rintro e W6 ⟨b, rfl, hJ6, hK6⟩)
        | fail
      all_goals
        have hk6 : ∀ r o, B ≤ r → r ≠ W3.heap.size + 2 + 1 → W'.heap[r]? = some o → FK o → W6.heap[r]? = some o := fun r o h1 h2 h3 h4 =>
          hK6.2 r o h1 ((hb15.block r (by rw [hs1]; exact cv h3)).trans ((hk1 r h2).trans h3)) h4
        have hs6 : Hid (W3.heap.size + 2 + 1 < W6.heap.size) := Lib.hid (Nat.lt_of_lt_of_le (by omega) (Nat.le_trans hb15.size hK6.1))
        have ho6 : W6.heap[W3.heap.size + 2 + 1]? = some (.loop (rec .busy none)) := hK6.2 _ _ (by omega) ((hb15.block _ (by omega)).trans ho1) (AY _)
        have hxl := hx.lt
        have g1 := hk6 _ _ (by omega) (by omega) hS.d (sG _)
        have g2 := hk6 _ _ hbx (by omega) hS.x (lO (by decide))
        have g3 := hk6 _ _ (by omega) (by omega) hS.c (lO (by decide))
        have g4 := hk6 _ _ (by omega) (by omega) hS.n (lO (by decide))
        replace g1 := Lib.hid g1
        replace g2 := Lib.hid g2
        replace g3 := Lib.hid g3
        replace g4 := Lib.hid g4
        cases b
        · have hp6 := hI.put _ W6 (W3.heap.size + 2 + 1) (.loop (rec .done (some .ret))) _ hJ6 (by omega) ho6 rfl
          have hfin : MC W3.heap.size rec J (W6.putObj (W3.heap.size + 2 + 1) (.loop (rec .done (some .ret)))) := ⟨hp6, (World.putObj_heap_other (by omega)).trans g1.out, World.putObj_heap_same hs6.out⟩
          gi_wp2
          all_goals first
            | exact ⟨ho6, hfin⟩
            | exact hfin
        · have hp6 := hI.put _ W6 (W3.heap.size + 2 + 1) (.loop (rec .ready none)) _ hJ6 (by omega) ho6 rfl
          have hfin : Mc W3.heap.size bx l (some a) (M * N) cap N rec J (j + 1) (W6.putObj (W3.heap.size + 2 + 1) (.loop (rec .ready none))) := ⟨hp6, (World.putObj_heap_other (by omega)).trans g2.out,
            (World.putObj_heap_other (by omega)).trans g3.out, (World.putObj_heap_other (by omega)).trans g4.out, (World.putObj_heap_other (by omega)).trans g1.out, World.putObj_heap_same hs6.out⟩
          gi_wp2
          all_goals first
            | exact ⟨ho6, hfin⟩
            | exact hfin
    clear hy
    have hlow : Below W3.heap.size W3 ((W4.alloc (.deferred (some []))).alloc (.loop (rec .ready none))) := by
      rw [← hW4]
      refine Below.alloc (Below.alloc (Below.alloc (Below.alloc (Below.refl _ W3) ?_ _) ?_ _) ?_ _) ?_ _
      all_goals simp
      all_goals try omega
    obtain ⟨W0, hW0⟩ : ∃ W0, (W4.alloc (.deferred (some []))).alloc (.loop (rec .ready none)) = W0 := ⟨_, rfl⟩
    rw [hW0] at hlow
    have hat : ∀ r, r < 4 → W0.heap[W3.heap.size + r]? = #[Obj.cells #[.slice p (M * N) cap] 30, .cells #[.int .i64 N] 3, .deferred (some []), .loop (rec .ready none)][r]? := fun r hr => by
      have hh : W0.heap = (((W3.heap.push (.cells #[.slice p (M * N) cap] 30)).push (.cells #[.int .i64 N] 3)).push (.deferred (some []))).push (.loop (rec .ready none)) := by rw [← hW0, ← hW4]; rfl
      rw [hh]
      exact Ld W3.heap _ _ _ _ r
    have hJ0 := hI.mono _ _ _ h1 hlow
    have hS0 : Mc W3.heap.size bx l p (M * N) cap N rec J 0 W0 := ⟨hJ0, (hlow.block bx hx.lt).trans hx, hat 0 (by omega), hat 1 (by omega), hat 2 (by omega), hat 3 (by omega)⟩
    rw [hW0]
    refine (J7 (d + 8) (W3.heap.size + 2 + 1) W3.heap.size (W3.heap.size + 1) p M N cap (by omega) (by have := Nat.mul_le_mul (show M ≤ 512 by omega) (show N ≤ 512 by omega); omega) hcap (fun hM => hp (Nat.mul_pos hM (by omega))) W0
      (CJ W3.heap.size bx l p (M * N) cap N rec J) (fun i W' h => ⟨h.c.trans hS0.c.symm, h.n.trans hS0.n.symm⟩) (CJ.mono hI.mono) (fun j a W' h1 h2 h3 => round j a W' h1 h2 h3) hS0.c hS0.n hS0).mono ?_
    rintro e W' ⟨hv', hS | hS⟩
    · refine ⟨hv', .inl ⟨hS.o, ?_⟩⟩
      have hpe := hI.put _ W' (W3.heap.size + 2 + 1) (.loop (rec .exhausted none)) _ hS.j (by omega) hS.o rfl
      have hxl := hx.lt
      have hde : (W'.putObj (W3.heap.size + 2 + 1) (.loop (rec .exhausted none))).heap[W3.heap.size + 2]? = some (.deferred (some [])) := (World.putObj_heap_other (by omega)).trans hS.d
      have hxe : Boxed (W'.putObj (W3.heap.size + 2 + 1) (.loop (rec .exhausted none))) bx 41 (.func (.yield l) #[] #[]) := (World.putObj_heap_other (by omega)).trans hS.x
      obtain ⟨W7, hW7⟩ : ∃ W7, W'.putObj (W3.heap.size + 2 + 1) (.loop (rec .exhausted none)) = W7 := ⟨_, rfl⟩
      rw [hW7] at hpe hde hxe ⊢
      gi_wp2
      exact A0 d l ab bx B k M N ws _ y t J hI hm hbx hY Q [{ target := .collected (W3.heap.size + 2), args := #[] }] W7
        (fun a W8 h2 h3 h4 => hQ a W8 (.inr ⟨W3.heap.size + 2, by omega, h2, h3.2 _ _ (by omega) hde (sG _)⟩) h4) (M + 1) hlen1
        (by rw [hlin, List.getElem?_cons_succ, List.getElem?_append_right (by simp)]; simp) (by rw [Nat.add_comm]; exact hpe) hxe _ _ _ _ _ _ _ _ _ _ _ _ _ _ _ _ _ _ _ _ _ _ _ _ _ _ _ _ _ _ _ _
    · refine ⟨hv', .inr ⟨_, hS.o, ?_⟩⟩
      have hpe := hI.put _ W' (W3.heap.size + 2 + 1) (.loop (rec .exhausted (some .ret))) _ hS.j (by omega) hS.o rfl
      have hde : (W'.putObj (W3.heap.size + 2 + 1) (.loop (rec .exhausted (some .ret)))).heap[W3.heap.size + 2]? = some (.deferred (some [])) := (World.putObj_heap_other (by omega)).trans hS.d
      obtain ⟨W7, hW7⟩ : ∃ W7, W'.putObj (W3.heap.size + 2 + 1) (.loop (rec .exhausted (some .ret))) = W7 := ⟨_, rfl⟩
      rw [hW7] at hpe hde ⊢
      gi_wp2
      exact (hQ _ W7 (.inr ⟨W3.heap.size + 2, by omega, rfl, hde⟩) (.inr hpe)).2
set_option maxHeartbeats 4000000 in
theorem J9 (d l ab B : Nat) (k m n : Int) (ws : List Int) (vw : Value) (y t : Int) (J : Option Nat → World → Prop) (hI : II B ab k m n ws vw y t J)
    (hY : ∀ d' j x W', (cp k m n ws y t)[j]? = some x → J (some j) W' → YieldAt Fence.wide (d' + 4) prog l #[.string x] W' (fun e W'' => ∃ b : Bool, e = .returned (.bool b) ∧ J (bif b then some (j + 1) else none) W'' ∧ xw B W' W''))
    (W : World) (hB : B = W.heap.size) (h0 : J (some 0) W) :
    CallsIn Fence.wide (d + 10) prog 52 #[.func (.yield l) #[] #[], .pointer (some ⟨ab, 0, none⟩)] W (fun e W' => (∃ v, e = .returned v) ∧ (J (some (cp k m n ws y t).length) W' ∨ J none W')) := by
  refine callsIn_of_wp_marks Tryz.func52 rfl trivial ?_ rfl
  simp only [Tryz.ntmps52, List.size_toArray, List.length_cons, List.length_nil, Nat.reduceAdd, Nat.reduceSub, Array.replicate_succ, Array.replicate_zero, List.push_toArray, List.append_toArray, List.nil_append, List.cons_append]
  obtain ⟨W0, hW0⟩ : ∃ W0, W.alloc (.cells #[.func (.yield l) #[] #[]] 41) = W0 := ⟨_, rfl⟩
  have hs0 : W0.heap.size = W.heap.size + 1 := by rw [← hW0]; simp
  have hb0 : Below W.heap.size W W0 := by rw [← hW0]; exact (Below.refl _ _).alloc (Nat.le_refl _) _
  have hx0 : Boxed W0 W.heap.size 41 (.func (.yield l) #[] #[]) := by rw [← hW0]; exact Boxed.new _ _ _
  have hJ0 := hI.mono _ _ _ h0 hb0
  obtain ⟨c0, c1, c2, c3, c4, c5, cb, rom, hv⟩ := hI.lf hJ0 hx0 (Below.refl _ W0).drew
  have ag := wc
  have sz := rK
  have hmay := Dg k m n ws vw y t _ rom hv
  cases hm : gS k m n ws.length y t with
  | false =>
    have hlin : cp k m n ws y t = [] := by simp [cp, hm]
    rw [hlin] at hY ⊢
    rw [hm] at hmay
    gi_wp2
    first
      | gi_region_with first
          | (refine ⟨trivial, ?_⟩; gi_at_call 17; refine (callsIn_wide.2 hmay).mono ?_; rintro e W1 ⟨rfl, hb1⟩)
          | (refine (⟨trivial, ?_⟩ : Fence.wide.fn 53 ∧ _))
          | (refine (⟨by simp, ?_⟩ : (∀ (f : FuncId), none = some f → Fence.wide.fn f) ∧ _))
      | fail
    all_goals gi_wp2
    all_goals exact ⟨_, results_none rfl _ _ _, ⟨_, rfl⟩, .inl (hI.mono _ _ _ hJ0 ((Below.refl _ W0).drew.trans hb1))⟩
  | true =>
    rw [hm] at hmay
    obtain ⟨hm0, hm5, hn0, hn5, hlen, hy0, hy3⟩ := lN hm
    have km : jQ .i64 m = true := bT.2 (by omega)
    have kn : jQ .i64 n = true := bT.2 (by omega)
    have hl1 : (cp k m n ws y t)[0]? = some (fp m n) := by rw [cp, hm]; rfl
    have hY1 := fun W' h => hY (d + 5) 0 _ W' hl1 h
    change Code.wpIn _ _ _ (.seq _ (.seq _ AZ)) _ _ _
    gi_wp2
    first
      | gi_region_with first
          | (refine ⟨trivial, ?_⟩; gi_at_call 17; refine (callsIn_wide.2 hmay).mono ?_; rintro e W1 ⟨rfl, hb1⟩; have hb01 := (Below.refl _ W0).drew.trans hb1; obtain ⟨c10, c11, c12, c13, c14, c15, c1b, rom1, hv1⟩ := hI.lf hJ0 hx0 hb01; have hhead := GY m n km kn _ rom1)
          | (refine ⟨trivial, ?_⟩; gi_at_call 53; refine (callsIn_wide.2 hhead).mono ?_; rintro e W2 ⟨rfl, hb2⟩; have hb02 := hb01.trans (hb2.mono (show W0.heap.size ≤ W1.heap.size from hb01.size)); have hJ2 := hI.mono _ _ _ hJ0 hb02; obtain ⟨c20, c21, c22, c23, c24, c25, c2b, rom2, hv2⟩ := hI.lf hJ0 hx0 hb02; obtain ⟨fn', tmps', assign', body', hy', hR'⟩ := hY1 W2 hJ2)
          | (refine hR'.mono ?_; rintro e W3 ⟨b, rfl, hJ3, hK3⟩)
      | fail
    all_goals
      cases b
      · gi_wp2
        exact ⟨_, results_none rfl _ _ _, ⟨_, rfl⟩, .inr hJ3⟩
      · gi_wp2
        have hx3 : Boxed W3 W.heap.size 41 (.func (.yield l) #[] #[]) := hK3.2 _ _ (by omega) ((hb02.block _ hx0.lt).trans hx0) (lO (by decide))
        refine GZ d l ab W.heap.size B k m n ws vw y t J hI hm (by omega) hY _ W3 (fun a W' h1 h2 => ?_) hJ3 hx3 _ _ _ _ _ _ _ _ _ _ _ _ _ _ _ _ _ _ _ _ _ _ _ _ _ _ _ _ _ _ _ _
        have key : LeavesInM Fence.wide (d + 10) prog Tryz.f52 a.tmps (fun e W' => (∃ v, e = .returned v) ∧ (J (some (cp k m n ws y t).length) W' ∨ J none W')) a.defers .returning W' := by
          rcases h1 with h1 | ⟨D, h3, h1, h4⟩
          · rw [h1]
            exact ⟨_, results_none rfl _ _ _, ⟨_, rfl⟩, h2⟩
          · rw [h1]
            refine ⟨by simp, .inl ⟨_, _, rfl, run_takeDeferred h4, ?_⟩⟩
            refine ⟨_, results_none rfl _ _ _, ⟨_, rfl⟩, ?_⟩
            rcases h2 with h2 | h2
            · exact .inl (hI.put _ _ _ _ _ h2 h3 h4 rfl)
            · exact .inr (hI.put _ _ _ _ _ h2 h3 h4 rfl)
        exact ⟨key, key⟩
structure tN where
  k:Int
  m:Int
  n:Int
  ws:List Int
  y:Int
  t:Int
def tN.may(a:tN) :Bool:=gS a.k a.m a.n a.ws.length a.y a.t
def tN.lines(a:tN) :List ByteArray:=cp a.k a.m a.n a.ws a.y a.t
def LD(s:ByteArray) :List UInt8:=s.data.toList++[10]
def kT(l:List ByteArray) :List UInt8:=(l.map LD).flatten
def bU(l:List tN) :List UInt8:=(l.map fun a=>kT a.lines).flatten
def hX(l:List tN) :ByteArray:=if l.any (fun a=>!a.may)=true then ByteArray.empty else if 64<l.length then ByteArray.empty else if 8388608<(bU l).length then ByteArray.empty else ⟨(bU l).toArray⟩
def hZ(l:List tN) :Int:=if l.any (fun a=>!a.may)=true then 2 else if 64<l.length then 3 else if 8388608<(bU l).length then 3 else 0
structure HT (W:World) (bl o:Nat) (a:tN) (vw:Value):Prop where
  c0:W.cell? ⟨bl,o,none⟩=some (.int .i64 a.k)
  c1:W.cell? ⟨bl,o+1,none⟩=some (.int .i64 a.m)
  c2:W.cell? ⟨bl,o+2,none⟩=some (.int .i64 a.n)
  c3:W.cell? ⟨bl,o+3,none⟩=some vw
  c4:W.cell? ⟨bl,o+4,none⟩=some (.int .i64 a.y)
  c5:W.cell? ⟨bl,o+5,none⟩=some (.int .u64 a.t)
  v:VR ae.none_ W (ig a.ws) vw
  lt:bl<W.heap.size
abbrev tN.V(a:tN)(vw:Value) :Array Value:=GW a.k a.m a.n vw a.y a.t
theorem HT.below{W W':World}{bl o:Nat}{a:tN}{vw:Value}(h:HT W bl o a vw)(hb:Below W.heap.size W W') :HT W' bl o a vw:=by
  have e:∀ j,W'.cell? ⟨bl,j,none⟩=W.cell? ⟨bl,j,none⟩:=fun j=>hb.cell (p:=⟨bl,j,none⟩) h.lt
  exact ⟨(e _).trans h.c0,(e _).trans h.c1,(e _).trans h.c2,(e _).trans h.c3,(e _).trans h.c4,(e _).trans h.c5,h.v.mono (jn.refl _ _) (oV hb),Nat.lt_of_lt_of_le h.lt hb.size⟩
def uy(W:World)(bl o:Nat)(l:List tN) :Prop:=∀ i a,l[i]? = some a→∃ vw,HT W bl (o+i*6) a vw
theorem uy.below{W W':World}{bl o:Nat}{l:List tN}(h:uy W bl o l)(hb:Below W.heap.size W W') :uy W' bl o l:=fun i a hi=>(h i a hi).imp fun _ q=>q.below hb
set_option maxHeartbeats 2000000 in
theorem En (a : tN) (vw : Value) (w : World) (hR : eM w) (hv : VR ae.none_ w (ig a.ws) vw) : Calls prog 26 #[.agg (a.V vw)] w fun e w' => e = .returned (.bool (!a.may)) ∧ Below w.heap.size w w' := by
  have hb : Below w.heap.size w (w.alloc (.cells (a.V vw) 33)) := (Below.refl _ w).alloc (Nat.le_refl _) _
  have hmay := Dg a.k a.m a.n a.ws vw a.y a.t (w.alloc (.cells (a.V vw) 33)) (hR.below hb (Nat.le_refl _)) (hv.mono (jn.refl _ _) (oV hb))
  have ag := wc
  have sz := rK
  go_enter Tryz.func26, Tryz.ntmps26
  go_wp2_with (go_at_call 17; refine hmay.mono ?_; rintro e w' ⟨rfl, hb1⟩)
  go_ret
  exact ⟨rfl, hb.trans (hb1.mono (by simp))⟩
theorem rL{F:Fence}{n:Nat}{P:Program}{fn:Func}{tmps:Array Value}{R:Ending→World→Prop}{v:Value}(n0:Nat)(hr:∀ W,(results fn tmps).run P W=.ok v W)(Pw:World→Prop) 
    (hP:∀ W D,n0≤D→Pw W→Pw (W.putObj D (.deferred none))) (hR:∀ W,Pw W→R (.returned v) W):∀ (Ds:List Nat) (W:World),Ds.Nodup→(∀ D∈Ds,n0≤D∧W.heap[D]? = some (.deferred (some [])))→Pw W →
      LeavesInM F n P fn tmps R (Ds.map fun D=>({ target:=.collected D,args:=#[] }:Deferred)) .returning W
  | [],W,_,_,h=>⟨_,hr W,hR W h⟩
  | D::Ds,W,hn,hD,h=>by
    have h1:=hD D (List.mem_cons_self ..)
    obtain ⟨hn1,hn2⟩:=List.nodup_cons.1 hn
    refine ⟨by simp,.inl ⟨_,_,rfl,run_takeDeferred h1.2,?_⟩⟩
    refine rL n0 hr Pw hP hR Ds _ hn2 (fun D' h'=>?_) (hP W D h1.1 h)
    have h2:=hD D' (List.mem_cons_of_mem _ h')
    exact ⟨h2.1,(World.putObj_heap_other (fun e=>hn1 (by rw [←e];exact h'))).trans h2.2⟩
set_option maxHeartbeats 2000000 in
theorem IK (bl o cap : Nat) (l : List tN) (hl : l.length ≤ 1000000000) (w : World) (hR : eM w) (hA : uy w bl o l) (p : Option Addr) (hp : 1 ≤ l.length → p = some ⟨bl, o, none⟩) :
    Calls prog 51 #[.slice p l.length cap, .func (.func 26) #[] #[]] w fun e w' => (∃ r : Int, e = .returned (.int .i64 r) ∧ (0 ≤ r ↔ l.any (fun a => !a.may) = true)) ∧ Below w.heap.size w w' := by
  have ag := wc
  have sz := rK
  go_enter Tryz.func51, Tryz.ntmps51
  go_wp2
  go_loopw [8] (fun t W => ∃ i : Nat, t = .int .i64 i ∧ i ≤ l.length ∧ (l.take i).any (fun a => !a.may) = false ∧ Below w.heap.size w W) (fun t _ => l.length - (intOf t).toNat)
  case atStart => exact ⟨0, rfl, Nat.zero_le _, rfl, Below.refl _ _⟩
  case round =>
    obtain ⟨i, rfl, hi, hany, hb⟩ := hrel
    by_cases hlt : i < l.length
    · obtain ⟨a, ha⟩ : ∃ a, l[i]? = some a := ⟨_, List.getElem?_eq_getElem hlt⟩
      have hA' := hA.below hb
      obtain ⟨vw, hk⟩ := hA' i a ha
      obtain ⟨c0, c1, c2, c3, c4, c5, hv, hbl⟩ := hk
      have hcall := En a vw wr (hR.below hb (Nat.le_refl _)) hv
      have hpp := hp (by omega)
      subst hpp
      go_wp2_with (go_at_call 26; refine hcall.mono ?_; rintro e w' ⟨rfl, hb1⟩)
      · go_ret
        have h1 : (!a.may) = true := by assumption
        exact ⟨⟨i, rfl, fun _ => List.any_eq_true.2 ⟨a, List.mem_of_getElem? ha, h1⟩, fun _ => Int.natCast_nonneg _⟩, hb.trans (hb1.mono hb.size)⟩
      · have h1 : (!a.may) = false := by assumption
        refine ⟨⟨i + 1, by go_num, by omega, ?_, hb.trans (hb1.mono hb.size)⟩, by simp [intOf]; omega⟩
        rw [List.take_add_one, ha, List.any_append, hany]
        simpa using h1
    · have he : i = l.length := by omega
      rw [he, List.take_length] at hany
      go_wp2
      go_ret
      exact ⟨⟨-1, rfl, fun h => absurd h (by decide), fun h => by rw [hany] at h; cases h⟩, hb⟩
theorem A1(bl o cap:Nat)(l:List tN)(hl:l.length≤1000000000)(w:World)(hR:eM w)(hA:uy w bl o l)(p:Option Addr)(hp:1≤l.length→p=some ⟨bl,o,none⟩) :
    Calls prog 25 #[.slice p l.length cap,.func (.func 26) #[] #[]] w fun e w'=>e=.returned (.bool (l.any fun a=>!a.may))∧Below w.heap.size w w':=by
  have h:=IK bl o cap l hl w hR hA p hp
  go_enter Tryz.func25,Tryz.ntmps25
  go_wp2_with (go_at_call 51;refine h.mono ?_;rintro e w' ⟨⟨r,rfl,hr⟩,hb⟩;replace hr:=Lib.hid hr)
  go_ret
  replace hr:=hr.out
  refine ⟨?_,hb⟩
  show Ending.returned (Value.bool (decide (r≥0)))=_
  cases hq:l.any (fun a=>!a.may) with
  | true=>rw [decide_eq_true (show r≥0 from hr.2 hq)]
  | false =>
    have : ¬ r≥0:=fun c=>by rw [hr.1 c] at hq;cases hq
    rw [decide_eq_false this]
theorem IL(ws:List Int) :(qK ws).size≤17*ws.length:=by
  have:=xv (ws.map bi)
  rw [qK,AT]
  have e:((ws.map bi).map fun s=>s.size+1).sum=17*ws.length:=by
    clear this
    induction ws with
    | nil=>rfl
    | cons x l ih=>simp only [List.map_cons,List.sum_cons,List.length_cons,jE] at ih ⊢;omega
  omega
theorem A2(m n:Int) :(fp m n).size≤50:=by
  have h1:=em m
  have h2:=em n
  have e1:(ByteArray.mk #[109,97,116,114,105,120,32]).size=7:=rfl
  have e2:Em.size=1:=rfl
  unfold fp
  simp only [ByteArray.size_append,e1,e2]
  omega
theorem A3(k y t:Int) :(mq k y t).size≤46:=by
  have hw:=FI k
  have h1:=em y
  have h2:=jE t
  have e3:Em.size=1:=rfl
  unfold mq
  cases decide (((pX k).2.2.1:Int)>0)<;>cases (pX k).2.2.2.1<;>simp only [cond_true,cond_false,ByteArray.size_append,e3]<;>omega
theorem uz{a:tN}(h:a.may=true) :a.lines.length≤514∧∀ x∈a.lines,x.size≤9000:=by
  obtain ⟨h1,h2,h3,h4,h5,_⟩:=lN h
  unfold tN.lines cp
  rw [show gS a.k a.m a.n a.ws.length a.y a.t=true from h]
  simp only [cond_true]
  cases hd:decide (a.n>0) with
  | false =>
    refine ⟨by simp,fun x hx=>?_⟩
    simp only [cond_false,List.nil_append,List.mem_cons,List.not_mem_nil,or_false] at hx
    rcases hx with rfl | rfl
    · have:=A2 a.m a.n;omega
    · have:=A3 a.k a.y a.t;omega
  | true =>
    refine ⟨by simp;omega,fun x hx=>?_⟩
    simp only [cond_true,List.mem_cons,List.mem_append,List.mem_map,List.not_mem_nil,or_false] at hx
    rcases hx with rfl | ⟨i,_,rfl⟩ | rfl
    · have:=A2 a.m a.n;omega
    · have h9:=IL ((a.ws.drop (i*a.n.toNat)).take a.n.toNat)
      have:=List.length_take_le a.n.toNat (a.ws.drop (i*a.n.toNat))
      omega
    · have:=A3 a.k a.y a.t;omega
theorem A4{L:List ByteArray}(h:∀ x∈L,x.size≤9000) :(kT L).length≤L.length*9001:=by
  induction L with
  | nil=>simp [kT]
  | cons x L ih =>
    have h1:=h x (List.mem_cons_self ..)
    have h2:=ih fun y hy=>h y (List.mem_cons_of_mem _ hy)
    have h3:(LD x).length=x.size+1:=by simp [LD]
    unfold kT at h2 ⊢
    simp only [List.map_cons,List.flatten_cons,List.length_append,List.length_cons,h3]
    omega
theorem Di{l:List tN}(hm:∀ a∈l,a.may=true) :(bU l).length≤l.length*5000000:=by
  induction l with
  | nil=>simp [bU]
  | cons a l ih =>
    have h1:=uz (hm a (List.mem_cons_self ..))
    have h2:=ih fun y hy=>hm y (List.mem_cons_of_mem _ hy)
    have h3:=A4 h1.2
    unfold bU at h2 ⊢
    simp only [List.map_cons,List.flatten_cons,List.length_append,List.length_cons]
    omega
theorem Dj(L:List ByteArray)(x:ByteArray) :kT (L++[x])=kT L++LD x:=by simp [kT]
theorem A5(L:List tN)(a:tN) :bU (L++[a])=bU L++kT a.lines:=by simp [bU]
theorem xx(x y:List UInt8) :Lib.byteCells (x++y)=Lib.byteCells x++Lib.byteCells y:=by simp [Lib.byteCells]
theorem FL(a:tN)(vw:Value)(w:World) :Calls prog 27 #[.agg (a.V vw)] w fun e w'=>e=.returned (.func (.func 52) #[] #[.pointer (some ⟨w.heap.size,0,none⟩)])∧w'=w.alloc (.cells (a.V vw) 33):=by
  have hmf:∀ (fn:Fn) (first cap:Array Value) (w:World),(Instr.makeFunc fn first cap).run prog w=.ok (.func fn first cap) w:=fun _ _ _ _=>rfl
  go_enter Tryz.func27,Tryz.ntmps27
  go_wp2
  go_ret
  exact ⟨rfl,rfl⟩
theorem pY{T e:TypeId}{B b:Nat}{bs:List Value}{W W':World}(h:Lib.IsBuilderF T e B b bs W)(hk:∀ (k:Nat) (c:Array Value) (t:TypeId) (fz:Nat×Nat),W.heap[k]? = some (Obj.cells c t fz)→W'.heap[k]? = some (Obj.cells c t fz)) :Lib.IsBuilderF T e B b bs W':=by
  have key:∀ p,Lib.BuilderAtF T e B b p bs W→Lib.BuilderAtF T e B b p bs W':=by
    rintro p ⟨h1,v,h2,h3,h4⟩
    refine ⟨h1,v,hk _ _ _ _ h2,⟨h3.1,?_⟩,h4⟩
    rcases h3.2 with q | ⟨g,cap,cur,fz,q1,q2,q3,q4⟩
    · exact .inl q
    · exact .inr ⟨g,cap,cur,fz,q1,q2,hk _ _ _ _ q3,q4⟩
  exact h.imp (key _) (key _)
theorem uA{T e:TypeId}{B b:Nat}{bs:List Value}{W:World}(h:Lib.IsBuilderF T e B b bs W) :b<W.heap.size:=by
  rcases h with ⟨_,v,h,_⟩ | ⟨_,v,h,_⟩
  · exact cv h
  · exact cv h
theorem FM(W:World) :Lib.IsBuilderF 58 5 W.heap.size W.heap.size (Lib.byteCells []) (W.alloc (.cells #[.pointer none,.slice none 0 0] 58)):=by
  refine .inl ⟨Nat.le_refl _,.slice none 0 0,World.alloc_heap_new W _,⟨rfl,.inl ⟨rfl,rfl⟩⟩,by simp [Value.ownBlock]⟩
abbrev Ka(D:Nat) :Deferred:={ target:=.collected D,args:=#[] }
theorem we(B b:Nat)(bs:List Value)(s:ByteArray)(w:World)(h:Lib.IsBuilderF 58 5 B b bs w)(hlen:bs.length+s.size≤140737488355328)(hBw:B≤w.heap.size) :
    Calls Tryz.prog 28 #[.pointer (some ⟨b,0,none⟩),.string s] w fun e w'=>e=.returned (.tuple #[.int .i64 s.size,.nilIface])∧(Lib.BuilderAtF 58 5 B b (.pointer (some ⟨b,0,none⟩)) (bs++Lib.strCells s) w'∧Below B w w'∧Lib.OthersKept 5 (some b) w w') :=
  Any.Builder_WriteString_k { pP with } ek B b bs s w h hlen hBw
structure TJ (w:World) (bb ab L:Nat) (cs:Array Value) (Ds:List Nat) (obj:Obj) (pre:List UInt8) (W:World):Prop where
  b:Lib.IsBuilderF 58 5 bb bb (Lib.byteCells pre) W
  a:W.heap[ab]? = some (.cells cs 33 (0,0))
  low:Below w.heap.size w W
  ds:∀ D∈Ds,W.heap[D]? = some (.deferred (some []))
  o:W.heap[L]? = some obj
def M1(w:World)(bb ab L:Nat)(cs:Array Value)(Ds:List Nat)(obj:Obj)(pre:List UInt8)(lines:List ByteArray) :Option Nat→World→Prop
  | some j,W=>TJ w bb ab L cs Ds obj (pre++kT (lines.take j)) W
  | none,_=>False
theorem TJ.below{w:World}{bb ab L:Nat}{cs:Array Value}{Ds:List Nat}{obj:Obj}{pre:List UInt8}{W W':World}(h:TJ w bb ab L cs Ds obj pre W)(hb:Below W.heap.size W W') :TJ w bb ab L cs Ds obj pre W' :=
  ⟨pY h.b fun k c t fz q=>(hb.block k (cv q)).trans q,(hb.block _ (cv h.a)).trans h.a,h.low.trans (hb.mono h.low.size),fun D hD=>(hb.block _ (cv (h.ds D hD))).trans (h.ds D hD),(hb.block _ (cv h.o)).trans h.o⟩
theorem TJ.put{w:World}{bb ab L:Nat}{cs:Array Value}{Ds:List Nat}{obj obj':Obj}{pre:List UInt8}{W:World}(h:TJ w bb ab L cs Ds obj pre W)(r:Nat)(ob o':Obj)(hw:w.heap.size≤r)(ho:W.heap[r]? = some o')(hc:o'.isCells=false)(hD:∀ D∈Ds,r≠D) 
    (hL:(r≠L∧obj'=obj)∨(r=L∧obj'=ob)):TJ w bb ab L cs Ds obj' pre (W.putObj r ob):=by
  have nc:∀ k c t fz,W.heap[k]? = some (.cells c t fz)→k≠r:=fun k c t fz q e=>by
    rw [e,ho] at q;cases q;cases hc
  refine ⟨pY h.b fun k c t fz q=>(World.putObj_heap_other (nc k c t fz q)).trans q,(World.putObj_heap_other (nc _ _ _ _ h.a)).trans h.a,gP h.low hw _,fun D q=>(World.putObj_heap_other (fun e=>hD D q e.symm)).trans (h.ds D q),?_⟩
  rcases hL with ⟨h1,rfl⟩ | ⟨rfl,rfl⟩
  · exact (World.putObj_heap_other (fun e=>h1 e.symm)).trans h.o
  · exact World.putObj_heap_same (cv ho)
def Md(w:World)(bb:Nat)(p:Option Addr)(cap:Nat)(l:List tN)(a:Act)(W:World) :Prop :=
  ∃ (i:Nat) (Ds:List Nat) (u6 u7 u12 u16 u17 u18 u19 u20 u21 u22 u23 u24 u25:Value),a = { tmps:=#[.slice p l.length cap,undef,.string ⟨#[]⟩,.int .i64 0,.pointer (some ⟨bb,0,none⟩),undef,u6,u7,.slice p l.length cap,.bool false,.slice p l.length cap,.int .i64 l.length,u12,.slice p l.length cap,.int .i64 l.length,.int .i64 i,u16,u17,u18,u19,u20,u21,u22,u23,u24,u25,undef,undef,undef],defers:=Ds.map Ka }∧i≤l.length∧Lib.IsBuilderF 58 5 bb bb (Lib.byteCells (bU (l.take i))) W∧Below w.heap.size w W∧Ds.Nodup ∧
    ∀ D∈Ds,w.heap.size≤D∧W.heap[D]? = some (.deferred (some []))
set_option maxHeartbeats 4000000 in
theorem FO (bl o cap : Nat) (l : List tN) (hl : l.length ≤ 1000000000) (w : World) (hR : eM w) (hA : uy w bl o l) (p : Option Addr) (hp : 1 ≤ l.length → p = some ⟨bl, o, none⟩) :
    Calls prog fa #[.slice p l.length cap] w fun e w' => e = .returned (.tuple #[.string (hX l), .int .i64 (hZ l)]) ∧ Below w.heap.size w w' := by
  have hany := A1 bl o cap l hl w hR hA p hp
  refine (callsIn_wide (n := 20)).1 (callsIn_of_wp_marks Tryz.func8 rfl trivial ?_)
  simp only [Tryz.ntmps8, List.size_toArray, List.length_cons, List.length_nil, Nat.reduceAdd, Nat.reduceSub, Array.replicate_succ, Array.replicate_zero, List.push_toArray, List.append_toArray, List.nil_append, List.cons_append]
  cases ha : l.any (fun a => !a.may) with
  | true =>
    have e1 : hX l = ByteArray.empty ∧ hZ l = 2 := ⟨if_pos ha, if_pos ha⟩
    rw [ha] at hany
    rw [e1.1, e1.2]
    gi_wp2_with (refine ⟨trivial, ?_⟩; gi_at_call 25; refine (callsIn_wide.2 hany).mono ?_; rintro e w' ⟨rfl, hb⟩)
    exact ⟨_, results_tmp2 rfl _ _ _, rfl, hb⟩
  | false =>
    have hf : ¬ l.any (fun a => !a.may) = true := by rw [ha]; decide
    rw [ha] at hany
    by_cases h64 : 64 < l.length
    · have e1 : hX l = ByteArray.empty ∧ hZ l = 3 := by unfold hX hZ; rw [if_neg hf, if_neg hf, if_pos h64, if_pos h64]; exact ⟨rfl, rfl⟩
      rw [e1.1, e1.2]
      gi_wp2_with (refine ⟨trivial, ?_⟩; gi_at_call 25; refine (callsIn_wide.2 hany).mono ?_; rintro e w' ⟨rfl, hb⟩)
      exact ⟨_, results_tmp2 rfl _ _ _, rfl, hb⟩
    · have e1 : hX l = (if 8388608 < (bU l).length then ByteArray.empty else ⟨(bU l).toArray⟩) ∧ hZ l = (if 8388608 < (bU l).length then 3 else 0) := by unfold hX hZ; rw [if_neg hf, if_neg hf, if_neg h64, if_neg h64]; exact ⟨rfl, rfl⟩
      rw [e1.1, e1.2]
      clear hf e1
      gi_wp2_with (refine ⟨trivial, ?_⟩; gi_at_call 25; refine (callsIn_wide.2 hany).mono ?_; rintro e w1 ⟨rfl, hb⟩)
      have hbn := FM w1
      have hbw : Below w.heap.size w (w1.alloc (.cells #[.pointer none, .slice none 0 0] 58)) := hb.alloc hb.size _
      have hwb : w.heap.size ≤ w1.heap.size := hb.size
      obtain ⟨W1, hW1⟩ : ∃ W1, w1.alloc (.cells #[.pointer none, .slice none 0 0] 58) = W1 := ⟨_, rfl⟩
      obtain ⟨bb, hbb⟩ : ∃ bb, w1.heap.size = bb := ⟨_, rfl⟩
      have hs1 : W1.heap.size = bb + 1 := by rw [← hW1, ← hbb]; simp
      rw [hW1, hbb] at hbn ⊢
      rw [hW1] at hbw
      rw [hbb] at hwb
      clear hW1 hbb hb hany
      refine wpIn_loop (Md w bb p cap l) (fun a _ => l.length - (intOf (a.tmps.getD 15 undef)).toNat) ⟨0, [], _, _, _, _, _, _, _, _, _, _, _, _, _, rfl, Nat.zero_le _, hbn, hbw, List.nodup_nil, by simp⟩ ?_
      rintro a W ⟨i, Ds, u6, u7, u12, u16, u17, u18, u19, u20, u21, u22, u23, u24, u25, rfl, hi, hbld, hlow, qo, hds⟩
      by_cases hlt : i < l.length
      · obtain ⟨a, hai⟩ : ∃ a, l[i]? = some a := ⟨_, List.getElem?_eq_getElem hlt⟩
        obtain ⟨vw, hk0⟩ := hA i a hai
        have hk := hk0.below (hlow.mono (Nat.le_refl _))
        have hv0 := hk0.v
        obtain ⟨c0, c1, c2, c3, c4, c5, hv, hbl⟩ := hk
        have hpp := hp (by omega)
        subst hpp
        obtain ⟨pw, cw, rfl, hcw, hpw⟩ := Dh hv
        have ag := wc
        have sz := rK
        gi_wp2_with (refine ⟨trivial, ?_⟩; gi_at_call 27; refine (callsIn_wide.2 (FL a (.slice pw a.ws.length cw) _)).mono ?_; rintro e w' ⟨rfl, rfl⟩)
        have hin : a ∈ l := List.mem_of_getElem? hai
        have hmay : ∀ b ∈ l, b.may = true := fun b hb => by
          have := List.any_eq_false.1 ha b hb
          simpa using this
        have hsz := uz (hmay a hin)
        have hpre : (bU (l.take i)).length ≤ 64 * 5000000 := by
          have := Di (l := l.take i) fun b hb => hmay b (List.mem_of_mem_take hb)
          have h2 : (l.take i).length ≤ 64 := by rw [List.length_take]; omega
          exact Nat.le_trans this (Nat.mul_le_mul_right _ h2)
        obtain ⟨W2, hW2⟩ : ∃ W2, (W.alloc (.cells (a.V (.slice pw a.ws.length cw)) 33)).alloc (.cells (a.V (.slice pw a.ws.length cw)) 33) = W2 := ⟨_, rfl⟩
        rw [hW2]
        have hs2 : W2.heap.size = W.heap.size + 2 := by rw [← hW2]; simp
        refine uw (gf := 52) (m := 19) rfl (enters_of Tryz.func52 (by kernel_rfl) rfl) fun fn rec hrec hy => ?_
        rw [hs2] at hy ⊢
        have hWb : bb < W.heap.size := uA hbld
        obtain ⟨W0, hW0⟩ : ∃ W0, (W2.alloc (.deferred (some []))).alloc (.loop (rec .ready none)) = W0 := ⟨_, rfl⟩
        have hs0 : W0.heap.size = W.heap.size + 4 := by rw [← hW0]; simp [hs2]
        have hlow0 : Below W.heap.size W W0 := by
          rw [← hW0, ← hW2]
          refine Below.alloc (Below.alloc (Below.alloc (Below.alloc (Below.refl _ W) ?_ _) ?_ _) ?_ _) ?_ _
          all_goals simp
          all_goals try omega
        have hat : ∀ r, W0.heap[W.heap.size + r]? = #[Obj.cells (a.V (.slice pw a.ws.length cw)) 33, .cells (a.V (.slice pw a.ws.length cw)) 33, .deferred (some []), .loop (rec .ready none)][r]? := fun r => by
          rw [← hW0, ← hW2]
          exact Ld W.heap _ _ _ _ r
        obtain ⟨T, hT⟩ : ∃ T, M1 w bb (W.heap.size + 1) (W.heap.size + 2 + 1) (a.V (.slice pw a.ws.length cw)) ((W.heap.size + 2) :: Ds) (.loop (rec .ready none)) (bU (l.take i)) a.lines = T := ⟨_, rfl⟩
        have hI : II W0.heap.size (W.heap.size + 1) a.k a.m a.n a.ws (.slice pw a.ws.length cw) a.y a.t T := by
          rw [← hT]
          refine ⟨fun j V h => ⟨h.a, hR.below h.low (Nat.le_refl _), hv0.mono (jn.refl _ _) (oV h.low)⟩, fun j V V' h hb => ?_, fun j V r ob o' h h1 h2 h3 => ?_⟩
          · cases j with
            | none => exact h
            | some j => exact TJ.below h hb
          · cases j with
            | none => exact h
            | some j =>
              refine TJ.put h r ob o' (by have := hlow.size; omega) h2 h3 (fun D hD => ?_) (.inl ⟨by omega, rfl⟩)
              rcases List.mem_cons.1 hD with rfl | hD
              · omega
              · have := cv (hds D hD).2
                omega
        have h0 : T (some 0) W0 := by
          rw [← hT]
          refine ⟨?_, hat 1, hlow.trans (hlow0.mono hlow.size), fun D hD => ?_, hat 3⟩
          · rw [List.take_zero, show bU (l.take i) ++ kT [] = bU (l.take i) by simp [kT]]
            exact pY hbld fun k c t fz q => (hlow0.block k (cv q)).trans q
          · rcases List.mem_cons.1 hD with rfl | hD
            · exact hat 2
            · exact (hlow0.block _ (cv (hds D hD).2)).trans (hds D hD).2
        have hY : ∀ d' j x W', a.lines[j]? = some x → T (some j) W' → YieldAt Fence.wide (d' + 4) prog (W.heap.size + 2 + 1) #[.string x] W' (fun e W'' => ∃ b : Bool, e = .returned (.bool b) ∧ T (bif b then some (j + 1) else none) W'' ∧ xw W0.heap.size W' W'') := by
          intro d' j x W' hx hS
          rw [← hT] at hS ⊢
          refine hy (d' + 4) _ W' _ hS.o rfl ?_
          clear hy
          have hxm := hsz.2 x (List.mem_of_getElem? hx)
          have hpl : (bU (l.take i) ++ kT (a.lines.take j)).length ≤ 140737488355328 - 20000 := by
            have h1 := A4 (L := a.lines.take j) fun y hy => hsz.2 y (List.mem_of_mem_take hy)
            have h2 := List.length_take_le j a.lines
            have h3 : (a.lines.take j).length ≤ 514 := by rw [List.length_take]; omega
            have h4 := Nat.mul_le_mul_right 9001 h3
            rw [List.length_append]
            omega
          gi_wp2
          refine ⟨hS.o, ?_⟩
          have hSb := TJ.put (obj' := .loop (rec .busy none)) hS (W.heap.size + 2 + 1) (.loop (rec .busy none)) _ (by have := hlow.size; omega) hS.o rfl (fun D hD => by
            rcases List.mem_cons.1 hD with rfl | hD
            · omega
            · have := cv (hds D hD).2
              omega) (.inr ⟨rfl, rfl⟩)
          have hlt := cv hS.o
          obtain ⟨V1, hV1⟩ : ∃ V1, W'.putObj (W.heap.size + 2 + 1) (.loop (rec .busy none)) = V1 := ⟨_, rfl⟩
          have hs1 : V1.heap.size = W'.heap.size := by rw [← hV1]; simp
          have hk1 : ∀ r, r ≠ W.heap.size + 2 + 1 → V1.heap[r]? = W'.heap[r]? := fun r hr => by rw [← hV1]; exact World.putObj_heap_other hr
          rw [hV1] at hSb ⊢
          have hWS := we bb bb (Lib.byteCells (bU (l.take i) ++ kT (a.lines.take j))) (x ++ ⟨#[10]⟩) V1 hSb.b
            (by rw [Lib.byteCells_length, ByteArray.size_append]; have : (ByteArray.mk #[10]).size = 1 := rfl; omega) (by have := uA hSb.b; omega)
          gi_wp2_with (refine ⟨trivial, ?_⟩; gi_at_call 28; refine (callsIn_wide.2 hWS).mono ?_; rintro e W6 ⟨rfl, hb6, hlow6, hot6⟩)
          have hnb : ∀ r, bb < r → some r ≠ some bb := fun r h e => by cases e; omega
          have hj : a.lines.take (j + 1) = a.lines.take j ++ [x] := by rw [List.take_add_one, hx]; rfl
          have hS6 : TJ w bb (W.heap.size + 1) (W.heap.size + 2 + 1) (a.V (.slice pw a.ws.length cw)) ((W.heap.size + 2) :: Ds) (.loop (rec .busy none)) (bU (l.take i) ++ kT (a.lines.take (j + 1))) W6 := by
            refine ⟨.inr ?_, hot6 _ _ hSb.a (hnb _ (by omega)) (lO (by decide)), hSb.low.trans (hlow6.mono hwb), fun D hD => hot6 _ _ (hSb.ds D hD) (fun e => ?_) (sG _), hot6 _ _ hSb.o (hnb _ (by omega)) (AY _)⟩
            · rw [hj, Dj, ← List.append_assoc, xx _ (LD x)]
              have e1 : Lib.strCells (x ++ ⟨#[10]⟩) = Lib.byteCells (LD x) := by
                simp [Lib.strCells, Lib.byteCells, LD, ByteArray.data_append]
              rw [← e1]
              exact hb6
            · have h1 := hSb.ds D hD
              have h2 := hSb.b
              cases e
              rcases h2 with ⟨_, v, h2, _⟩ | ⟨_, v, h2, _⟩ <;> (rw [h1] at h2; cases h2)
          have hD' : ∀ D ∈ (W.heap.size + 2) :: Ds, W.heap.size + 2 + 1 ≠ D := fun D hD => by
            rcases List.mem_cons.1 hD with rfl | hD
            · omega
            · have := cv (hds D hD).2
              omega
          have hS7 := TJ.put (obj' := .loop (rec .ready none)) hS6 (W.heap.size + 2 + 1) (.loop (rec .ready none)) _ (by have := hlow.size; omega) hS6.o rfl hD' (.inr ⟨rfl, rfl⟩)
          refine ⟨hS6.o, ?_, ?_, fun r ob h1 h2 h3 => ?_⟩
          · rw [← hT]; exact hS7
          · have := hlow6.size
            simp only [World.putObj_size]
            omega
          · exact (World.putObj_heap_other (by omega)).trans (hot6 _ _ ((hk1 r (by omega)).trans h2) (hnb _ (by omega)) h3)
        rw [hW0]
        refine (J9 9 (W.heap.size + 2 + 1) (W.heap.size + 1) W0.heap.size a.k a.m a.n a.ws (.slice pw a.ws.length cw) a.y a.t T hI hY W0 rfl h0).mono ?_
        rintro e W' ⟨hv', hS | hS⟩
        · rw [← hT] at hS
          have hS : TJ w bb (W.heap.size + 1) (W.heap.size + 2 + 1) (a.V (.slice pw a.ws.length cw)) ((W.heap.size + 2) :: Ds) (.loop (rec .ready none)) (bU (l.take i) ++ kT (a.lines.take a.lines.length)) W' := hS
          refine ⟨hv', .inl ⟨hS.o, ?_⟩⟩
          have hD' : ∀ D ∈ (W.heap.size + 2) :: Ds, W.heap.size + 2 + 1 ≠ D := fun D hD => by
            rcases List.mem_cons.1 hD with rfl | hD
            · omega
            · have := cv (hds D hD).2
              omega
          have hS7 := TJ.put (obj' := .loop (rec .exhausted none)) hS (W.heap.size + 2 + 1) (.loop (rec .exhausted none)) _ (by have := hlow.size; omega) hS.o rfl hD' (.inr ⟨rfl, rfl⟩)
          obtain ⟨W8, hW8⟩ : ∃ W8, W'.putObj (W.heap.size + 2 + 1) (.loop (rec .exhausted none)) = W8 := ⟨_, rfl⟩
          rw [hW8] at hS7 ⊢
          have hnd' : ((W.heap.size + 2) :: Ds).Nodup := List.nodup_cons.2 ⟨fun h => by have := cv (hds _ h).2; omega, qo⟩
          have hfin : ∀ u6 u7 u12 u16 u17 u18 u19 u20 u21 u22 u23 u24 u25 : Value, Md w bb (some ⟨bl, o, none⟩) cap l { tmps := #[.slice (some ⟨bl, o, none⟩) l.length cap, undef, .string ⟨#[]⟩, .int .i64 0, .pointer (some ⟨bb, 0, none⟩), undef, u6, u7, .slice (some ⟨bl, o, none⟩) l.length cap, .bool false, .slice (some ⟨bl, o, none⟩) l.length cap, .int .i64 l.length, u12, .slice (some ⟨bl, o, none⟩) l.length cap, .int .i64 l.length, .int .i64 ((i : Int) + 1), u16, u17, u18, u19, u20, u21, u22, u23, u24, u25, undef, undef, undef], defers := { target := .collected (W.heap.size + 2), args := #[] } :: Ds.map Ka } W8 := by
            intro u6 u7 u12 u16 u17 u18 u19 u20 u21 u22 u23 u24 u25
            refine ⟨i + 1, (W.heap.size + 2) :: Ds, u6, u7, u12, u16, u17, u18, u19, u20, u21, u22, u23, u24, u25, rfl, by omega, ?_, hS7.low, hnd', fun D hD => ⟨?_, hS7.ds D hD⟩⟩
            · have h1 := hS7.b
              rw [List.take_length] at h1
              rw [List.take_add_one, hai]
              show Lib.IsBuilderF 58 5 bb bb (Lib.byteCells (bU (l.take i ++ [a]))) W8
              rw [A5]
              exact h1
            · have := hlow.size
              rcases List.mem_cons.1 hD with rfl | hD
              · omega
              · exact (hds D hD).1
          gi_wp2
          simp [intOf]
          omega
        · rw [← hT] at hS
          exact hS.elim
      · have hil : i = l.length := by omega
        rw [hil, List.take_length] at hbld
        have hLen := Tryz.Builder_Len_f bb bb _ W hbld
        rw [Lib.byteCells_length] at hLen
        have hStr := Any.Builder_String_any_k D8 pO bb bb (bU l) W hbld (Nat.le_of_lt (uA hbld))
        gi_wp2_with first
          | (refine ⟨trivial, ?_⟩; gi_at_call 29; refine (callsIn_wide.2 hLen).mono ?_; rintro e w' ⟨rfl, rfl⟩)
          | (refine ⟨trivial, ?_⟩; gi_at_call 30; refine (callsIn_wide.2 hStr).mono ?_; rintro e W5 ⟨rfl, _, hb5, ho5⟩)
        · exact rL w.heap.size (fun W => results_tmp2 rfl _ _ _) (fun W => Below w.heap.size w W) (fun W D h1 h2 => gP h2 h1 _) (fun W h => ⟨rfl, h⟩) Ds _ qo hds hlow
        · exact rL w.heap.size (fun W => results_tmp2 rfl _ _ _) (fun W => Below w.heap.size w W) (fun W D h1 h2 => gP h2 h1 _) (fun W h => ⟨rfl, h⟩) Ds W5 qo (fun D hD => ⟨(hds D hD).1, ho5 _ _ (hds D hD).2 (fun e => by
            cases e
            rcases hbld with ⟨_, v, h2, _⟩ | ⟨_, v, h2, _⟩ <;> (rw [(hds _ hD).2] at h2; cases h2)) (sG _)⟩) (hlow.trans (hb5.mono hwb))
end Go.Plb.Seat
namespace Go.Plb.Seat
open Go Go.Plb Go.Proofs Go.RowKit
set_option maxRecDepth 100000
set_option linter.unusedSimpArgs false
set_option linter.unusedVariables false
theorem sH{ρ:ae}{W:World}{k:IntKind}{n:Int}{u:Value}(h:VR ρ W (.int k n) u) :u=.int k n:=by cases h;rfl
theorem G1{ρ:ae}{W:World}{lv:Lv}{ws:List Int}{len:Nat}(hlen:len=ws.length){v:Value}(hv:VR ρ W (.imm lv (.ns .u64 ws) 1 1 0 len) v) :VR ae.none_ W (ig ws) v:=by
  have av:∀ bl,ae.none_.avoid .free bl:=fun bl j _=>by cases j<;>exact fun h=>h
  generalize hA:AV.imm lv (.ns .u64 ws) 1 1 0 len=A at hv
  cases hv with
  | imm bw d k es i len' cap bl o u ha hb hc hv hl hr hk hg =>
    cases hA
    subst hlen
    refine .imm .free (.ns .u64 ws) 1 1 0 ws.length cap bl o u (av bl) hb hc (fun x v hx=>?_) hl trivial (fun _=>rfl) rfl
    have h1:=hv x v hx
    simp only [aj.cell?,Option.map_eq_some_iff] at hx
    obtain ⟨z,_,rfl⟩:=hx
    rw [sH h1]
    exact .int _ _
  | immEnd bw d k es i cap a hr hk hg =>
    simp only [AV.imm.injEq] at hA
    obtain ⟨_,_,_,_,_,h0⟩:=hA
    subst h0
    show VR ae.none_ W (.imm .free (.ns .u64 ws) 1 1 0 ws.length) _
    rw [←hlen]
    exact .immEnd _ _ _ _ _ _ _ trivial (fun _=>rfl) rfl
  | _=>cases hA
def Kb(d:aj)(l:List tN) :Prop:=∀ i a,l[i]? = some a→∃ lv,d.cell? (i*6)=some (.int .i64 a.k)∧d.cell? (i*6+1)=some (.int .i64 a.m)∧d.cell? (i*6+2)=some (.int .i64 a.n) ∧
  d.cell? (i*6+3)=some (.imm lv (.ns .u64 a.ws) 1 1 0 a.ws.length)∧d.cell? (i*6+4)=some (.int .i64 a.y)∧d.cell? (i*6+5)=some (.int .u64 a.t)
theorem HU(bw:Lv)(d:aj)(k es:Nat)(l:List tN)(hd:Kb d l)(hl:l.length≤1000000000) :am prog fa [] [.imm bw d k es 0 l.length] ⟨.tup [.str (hX l),.int .i64 (hZ l)],[]⟩:=by
  refine ca ⟨FN fa,by kernel_rfl,by kernel_rfl⟩ fun ρ w us hN hv=>?_
  cases hv with | cons _ u _ _ h1 h2 =>
  cases h2
  have key:∃ p bl o cap,u=.slice p l.length cap∧(1≤l.length→p=some ⟨bl,o,none⟩)∧uy w bl o l:=by
    generalize hA:AV.imm bw d k es 0 l.length=A at h1
    cases h1 with
    | imm bw d k es i len cap bl o u ha hb hc hv hl hr hk hg =>
      cases hA
      refine ⟨_,bl,o+0*k,cap,rfl,fun _=>rfl,fun i a hi=>?_⟩
      obtain ⟨lv,g0,g1,g2,g3,g4,g5⟩:=hd i a hi
      refine ⟨u (i*6+3),?_,?_,?_,?_,?_,?_,G1 rfl (hv _ _ g3),hb⟩
      · have:=hc _ _ g0;rw [sH (hv _ _ g0)] at this;rw [show o+0*k+i*6=o+i*6 by omega];exact this
      · have:=hc _ _ g1;rw [sH (hv _ _ g1)] at this;rw [show o+0*k+i*6+1=o+(i*6+1) by omega];exact this
      · have:=hc _ _ g2;rw [sH (hv _ _ g2)] at this;rw [show o+0*k+i*6+2=o+(i*6+2) by omega];exact this
      · have:=hc _ _ g3;rw [show o+0*k+i*6+3=o+(i*6+3) by omega];exact this
      · have:=hc _ _ g4;rw [sH (hv _ _ g4)] at this;rw [show o+0*k+i*6+4=o+(i*6+4) by omega];exact this
      · have:=hc _ _ g5;rw [sH (hv _ _ g5)] at this;rw [show o+0*k+i*6+5=o+(i*6+5) by omega];exact this
    | immEnd bw d k es i cap a hr hk hg =>
      simp only [AV.imm.injEq] at hA
      obtain ⟨_,_,_,_,_,h0⟩:=hA
      rw [h0]
      refine ⟨a,0,0,cap,rfl,fun h=>by omega,fun i a hi=>?_⟩
      have:=(List.getElem?_eq_some_iff.1 hi).1
      omega
    | _=>cases hA
  obtain ⟨p,bl,o,cap,rfl,hp,hA⟩:=key
  refine (FO bl o cap l hl w hN.romOk hA p hp).mono ?_
  rintro e w' ⟨rfl,hb⟩
  exact ⟨_,rfl,hb,.tup _ _ (.cons _ _ _ _ (.str _) (.cons _ _ _ _ (.int _ _) .nil))⟩
def Eo:aH:=⟨fa,fun lent args=>match lent,args with
  | [],[.imm bw (.vs [.int .i64 k,.int .i64 m,.int .i64 n,.imm lv (.ns .u64 ws) 1 1 0 len,.int .i64 y,.int .u64 t]) 1 6 0 1] =>
    some [⟨⟨.tup [.str (hX [⟨k,m,n,ws,y,t⟩]),.int .i64 (hZ [⟨k,m,n,ws,y,t⟩])],[]⟩,[Nat.beq len ws.length]⟩]
  | _,_=>none⟩
theorem G2:aM prog Eo:=by
  intro lent args alts a h ha ho
  simp only [Eo] at h
  split at h
  · simp only [Option.some.injEq] at h;subst h
    simp only [List.mem_singleton] at ha;subst ha
    rename_i bw k m n lv ws len y t
    have hlen:len=ws.length:=Nat.eq_of_beq_eq_true ho.1
    subst hlen
    refine HU bw _ 1 6 [⟨k,m,n,ws,y,t⟩] (fun i a hi=>?_) (show 1≤1000000000 by omega)
    cases i with
    | zero=>cases hi;exact ⟨lv,rfl,rfl,rfl,rfl,rfl,rfl⟩
    | succ i=>simp at hi
  · cases h
end Go.Plb.Seat
namespace Go.Plb.Seat
open Go Go.Plb
set_option linter.unusedSimpArgs false
set_option linter.unusedVariables false
set_option maxRecDepth 100000
noncomputable def LE:List aH:=Eo::LC
theorem KI:ba prog (bh LE):=aw G2 vV
def MD:Option (lX×List Bool×dl)→Bool
  | some (⟨.bool _ true,[]⟩,o,_)=>Id o
  | _=>false
theorem Kc{r:Option (lX×List Bool×dl)}(h:MD r=true) :∃ k o p,r=some (⟨.bool k true,[]⟩,o,p)∧ak o:=by
  unfold MD at h
  split at h
  · exact ⟨_,_,_,rfl,CY h⟩
  · cases h
theorem IM:MD (C5 C0 (bh LE) (nQ C0 (bh LE) 50 100) oq [] [] none)=true:=by kernel_rfl
theorem KJ:am prog oq [] [] ⟨.bool false true,[]⟩:=by
  obtain ⟨k,o,p,h,ho⟩:=Kc IM
  exact (am.run K7 KI none _ _ h ho).weak (GA _ _ _)
def Ep:aH:=⟨oq,fun L args=>match L,args with | [],[]=>one (.bool false true) [] | _,_=>none⟩
theorem G3:aM prog Ep:=by
  intro L args alts a h ha ho
  simp only [Ep] at h
  split at h
  · exact Ip h ha ho fun q=>KJ
  · cases h
end Go.Plb.Seat
namespace Go.Plb.Seat
open Go Go.Plb
noncomputable def Me:List aH:=Ep::tM
theorem HV:ba prog (bh Me):=aw G3 xt
end Go.Plb.Seat
namespace Go.Plb.Seat
open Go Go.Plb
set_option linter.unusedVariables false
set_option maxRecDepth 100000
noncomputable section
inductive aF where
  | r0 (i1:Int)
def mf:aF→AE×az
  | .r0 i1=>(.ret,⟨ao 143 [(4,.int .i64 i1)],[],0⟩)
def cS:aF→lX
  | .r0 i1=>⟨.int .i64 i1,[]⟩
def lP(s_0:ByteArray)(substr_1:ByteArray) :T ((Empty)⊕(aF)) :=
  .ask (((substr_1.size:Nat):Int)==(0:Int))
    (.leaf (.inr (.r0 (0:Int))))
    (.ask (substr_1.toList==s_0.toList)
      (.leaf (.inr (.r0 (0:Int))))
      (.ask (((substr_1.size:Nat):Int)==(1:Int))
        (.need (th (0:Int) substr_1.size)<|.leaf (.inr (.r0 (Kr s_0 (cy substr_1 0)))))
        (.ask (decide (((substr_1.size:Nat):Int)≥((s_0.size:Nat):Int)))
          (.leaf (.inr (.r0 (-1:Int))))
          (.fail))))
noncomputable def ah(s_0:ByteArray)(substr_1:ByteArray) :Option aF:=uu ((lP s_0 substr_1).run)
theorem lQ(s_0:ByteArray)(substr_1:ByteArray){x:aF}(h:ah s_0 substr_1=some x) :am prog eL [] [.str s_0,.str substr_1] (cS x) :=
  yD false cS mf h (cu HV vi [⟨[],[],[4]⟩,⟨[],[],[4]⟩,⟨[],[],[4]⟩,⟨[],[],[4]⟩])
    (fun x=>by cases x with | r0 i1=>exact qo [.int .i64 i1])
def aP:Option aF→Bool
  | some _=>true
  | none=>false
def ai:Option aF→Int
  | some (.r0 x)=>x
  | _=>0
theorem lR{x:Option aF}(h:aP x=true) :x=some (.r0 (ai x)):=by
  unfold aP at h
  split at h<;>first | rfl | (cases h;done) | (rename_i y;cases y;rfl)
noncomputable def eQ:aH:=cT eL (.cons .str (.cons .str .nil)) fun t=>(fun q=>[⟨cS (.r0 (ai q)),[aP q]⟩]) (ah t.1 t.2.1)
theorem kF:aM prog eQ:=aO fun t=>(aS (fun h=>lQ t.1 t.2.1 (lR h)) bG)
noncomputable def eR:List aH:=eQ::Me
theorem cq:ba prog (bh eR):=aw kF HV
inductive bJ where
  | r0 (i3:Int)
def jy:bJ→AE×az
  | .r0 i3=>(.ret,⟨ao 34 [(4,.int .i64 i3)],[],0⟩)
theorem pc:qm jy:=by intro x;cases x<;>(intro h;cases h)
theorem xy(id:Nat) :ow id jy:=by intro x;cases x<;>(intro h;cases h)
def mg:bJ→lX
  | .r0 i3=>⟨.int .i64 i3,[]⟩
noncomputable def xz:List Code:=cJ (rx mc)
def xA(s_0:ByteArray)(substr_1:ByteArray)(_:Unit) :az:=⟨ao 34 [(0,.str s_0),(1,.str substr_1),(5,.int .i64 (0:Int))],[],0⟩
def xB(s_0:ByteArray)(substr_1:ByteArray) :T ((Unit)⊕(bJ)) :=
  .ask (((substr_1.size:Nat):Int)==(0:Int))
    (.fail)
    (.ask (((substr_1.size:Nat):Int)==(1:Int))
      (.need (th (0:Int) substr_1.size)<|.leaf (.inr (.r0 (Ks s_0 (cy substr_1 0)))))
      (.leaf (.inl ())))
def gT(substr_1:ByteArray) :ByteArray×Nat→az:=fun (s1,n2)=>⟨ao 34 [(0,.str s1),(1,.str substr_1),(5,.int .i64 ((n2:Nat):Int))],[],0⟩
noncomputable def xC:List Code:=cJ (jD (((xz.drop 6)).headD .skip))
def xD(substr_1:ByteArray)(s1:ByteArray)(n2:Nat) :T ((ByteArray×Nat)⊕((Empty)⊕(bJ))) :=
  .need (aP (ah s1 substr_1))<|.ask ((ai (ah s1 substr_1))==(-1:Int))
    (.leaf (.inr (.inr (.r0 ((n2:Nat):Int)))))
    (.need (jQ .i64 (((n2+1):Nat):Int))<|.need (jQ .i64 ((ai (ah s1 substr_1))+((substr_1.size:Nat):Int)))<|.need (mw ((s1.size:Nat):Int) s1.size)<|.need (mw ((ai (ah s1 substr_1))+((substr_1.size:Nat):Int)) s1.size)<|.leaf (.inl ((s1.extract (Int.toNat ((ai (ah s1 substr_1))+((substr_1.size:Nat):Int))) s1.size),(n2+1))))
noncomputable def kU(substr_1:ByteArray) :ByteArray×Nat→Option ((ByteArray×Nat)⊕((Empty)⊕(bJ))):=fun (s1,n2) =>
  (xD substr_1 s1 n2).run
theorem xE(substr_1:ByteArray)(s1:ByteArray)(n2:Nat) :Sg prog [] xC (gT substr_1 (s1,n2)) (kU substr_1 (s1,n2)) (gT substr_1) (dz (ρ:=Empty) 0 (fun a=>a.elim) jy):=by
  unfold kU;exact cu cq (gT substr_1) [⟨[],[],[4]⟩,⟨[],[],[0,1,5]⟩]
noncomputable def eT(s_0:ByteArray)(substr_1:ByteArray) :Option bJ:=uu (aQ ((xB s_0 substr_1).run) fun _ =>
  dn (kU substr_1) (s_0,0))
theorem xF(s_0:ByteArray)(substr_1:ByteArray){x:bJ}(h:eT s_0 substr_1=some x) :am prog mc [] [.str s_0,.str substr_1] (mg x) :=
  yD false mg jy h (Sg.cut 6 pc (cu cq (xA s_0 substr_1) [⟨[],[],[4]⟩,⟨[],[],[0,1,5]⟩]) (fun _=>JU ⟨[],[],[0,1,5]⟩ (gT substr_1) (fun a:Empty=>a.elim) 0 pc (xy _) (fun ⟨s1,n2⟩=>xE substr_1 s1 n2)))
    (fun x=>by cases x with | r0 i3=>exact qo [.int .i64 i3])
def gU:Option bJ→Bool
  | some _=>true
  | none=>false
def en:Option bJ→Int
  | some (.r0 x)=>x
  | _=>0
theorem xG{x:Option bJ}(h:gU x=true) :x=some (.r0 (en x)):=by
  unfold gU at h
  split at h<;>first | rfl | (cases h;done) | (rename_i y;cases y;rfl)
noncomputable def qu:aH:=cT mc (.cons .str (.cons .str .nil)) fun t=>(fun q=>[⟨mg (.r0 (en q)),[gU q]⟩]) (eT t.1 t.2.1)
theorem uB:aM prog qu:=aO fun t=>(aS (fun h=>xF t.1 t.2.1 (xG h)) bG)
noncomputable def qv:List aH:=qu::eR
theorem dq:ba prog (bh qv):=aw uB cq
inductive aD where
  | r0 (a11:Nat) (a12:Nat) (l13:List ByteArray)
def ep:aD→AE×az
  | .r0 a11 a12 l13=>(.ret,⟨ao 66 [(8,.sl 0 1 1 0 a11 a12)],[(0,.ss l13)],1⟩)
theorem dL:qm ep:=by intro x;cases x<;>(intro h;cases h)
theorem sK(id:Nat) :ow id ep:=by intro x;cases x<;>(intro h;cases h)
def jF:aD→lX
  | .r0 a11 a12 l13=>⟨.sl 0 1 1 0 a11 a12,[some (.ss l13)]⟩
noncomputable def sL:List Code:=cJ (rx jB)
def sM(s_0:ByteArray)(sep_1:ByteArray)(sepSave_2:Int)(n1:Int) :az:=⟨ao 66 [(0,.str s_0),(1,.str sep_1),(2,.int .i64 sepSave_2),(3,.int .i64 n1)],[],0⟩
def sN(s_0:ByteArray)(sep_1:ByteArray)(n_3:Int) :T ((Int)⊕(aD)) :=
  .ask (n_3==(0:Int))
    (.leaf (.inr (.r0 0 0 ([]:List ByteArray))))
    (.ask (sep_1.toList==ByteArray.empty.toList)
      (.fail)
      (.ask (decide (n_3<(0:Int)))
        (.need (gU (eT s_0 sep_1))<|.need (jQ .i64 ((en (eT s_0 sep_1))+(1:Int)))<|.leaf (.inl ((en (eT s_0 sep_1))+(1:Int))))
        (.leaf (.inl n_3))))
def sO(s_0:ByteArray)(sep_1:ByteArray)(sepSave_2:Int) :Int×Nat×(List ByteArray)→az:=fun (n2,a3,l4)=>⟨ao 66 [(0,.str s_0),(1,.str sep_1),(2,.int .i64 sepSave_2),(3,.int .i64 n2),(9,.sl 0 1 1 0 a3 a3),(10,.int .i64 (0:Int))],[(0,.ss l4)],1⟩
def sP(s_0:ByteArray)(n1:Int) :T ((Int×Nat×(List ByteArray))⊕(aD)) :=
  .need (jQ .i64 (((s_0.size+1):Nat):Int))<|.need (decide ((0:Int)≤(kD n1 (((s_0.size+1):Nat):Int))))<|.need (decide ((kD n1 (((s_0.size+1):Nat):Int))≤(kD n1 (((s_0.size+1):Nat):Int))))<|.need (decide ((16:Int)*(kD n1 (((s_0.size+1):Nat):Int))≤140737488355328))<|.need (jQ .i64 (kD n1 (((s_0.size+1):Nat):Int)))<|.need (jQ .i64 ((kD n1 (((s_0.size+1):Nat):Int))-(1:Int)))<|.leaf (.inl (((kD n1 (((s_0.size+1):Nat):Int))-(1:Int)),(Int.toNat (kD n1 (((s_0.size+1):Nat):Int))),(List.replicate (Int.toNat (kD n1 (((s_0.size+1):Nat):Int))) ByteArray.empty)))
def dM(sep_1:ByteArray)(sepSave_2:Int)(n2:Int)(a3:Nat) :ByteArray×Nat×(List ByteArray)→az:=fun (s5,i6,l7)=>⟨ao 66 [(0,.str s5),(1,.str sep_1),(2,.int .i64 sepSave_2),(3,.int .i64 n2),(9,.sl 0 1 1 0 a3 a3),(10,.int .i64 ((i6:Nat):Int))],[(0,.ss l7)],1⟩
def mr(a3:Nat) :ByteArray×Nat×(List ByteArray)→az:=fun (s8,i9,l10)=>⟨ao 66 [(0,.str s8),(9,.sl 0 1 1 0 a3 a3),(10,.int .i64 ((i9:Nat):Int))],[(0,.ss l10)],1⟩
noncomputable def rM:List Code:=cJ (jD (((((sL.drop 7).drop 4).take 1)).headD .skip))
def rN(sep_1:ByteArray)(sepSave_2:Int)(n2:Int)(a3:Nat)(s5:ByteArray)(i6:Nat)(l7:List ByteArray) :T ((ByteArray×Nat×(List ByteArray))⊕((ByteArray×Nat×(List ByteArray))⊕(aD))) :=
  .ask (decide (((i6:Nat):Int)<n2))
    (.need (aP (ah s5 sep_1))<|.ask (decide ((ai (ah s5 sep_1))<(0:Int)))
      (.leaf (.inr (.inl (s5,i6,l7))))
      (.need (jQ .i64 ((ai (ah s5 sep_1))+sepSave_2))<|.need (mw ((ai (ah s5 sep_1))+sepSave_2) s5.size)<|.need (mw (0:Int) (Int.toNat ((ai (ah s5 sep_1))+sepSave_2)))<|.need (th ((i6:Nat):Int) a3)<|.need (jo i6 (List.length l7))<|.need (jQ .i64 ((ai (ah s5 sep_1))+((sep_1.size:Nat):Int)))<|.need (mw ((s5.size:Nat):Int) s5.size)<|.need (mw ((ai (ah s5 sep_1))+((sep_1.size:Nat):Int)) s5.size)<|.need (jQ .i64 (((i6+1):Nat):Int))<|.leaf (.inl ((s5.extract (Int.toNat ((ai (ah s5 sep_1))+((sep_1.size:Nat):Int))) s5.size),(i6+1),(List.set l7 i6 (s5.extract 0 (Int.toNat ((ai (ah s5 sep_1))+sepSave_2))))))))
    (.leaf (.inr (.inl (s5,i6,l7))))
noncomputable def fG(sep_1:ByteArray)(sepSave_2:Int)(n2:Int)(a3:Nat) :ByteArray×Nat×(List ByteArray)→Option ((ByteArray×Nat×(List ByteArray))⊕((ByteArray×Nat×(List ByteArray))⊕(aD))):=fun (s5,i6,l7) =>
  (rN sep_1 sepSave_2 n2 a3 s5 i6 l7).run
theorem rO(sep_1:ByteArray)(sepSave_2:Int)(n2:Int)(a3:Nat)(s5:ByteArray)(i6:Nat)(l7:List ByteArray) :Sg prog [] rM (dM sep_1 sepSave_2 n2 a3 (s5,i6,l7)) (fG sep_1 sepSave_2 n2 a3 (s5,i6,l7)) (dM sep_1 sepSave_2 n2 a3) (dz 0 (mr a3) ep):=by
  unfold fG;exact cu dq (dM sep_1 sepSave_2 n2 a3) [⟨[],[0],[0,9,10]⟩,⟨[],[0],[0,1,2,3,9,10]⟩,⟨[],[0],[0,9,10]⟩]
def rP(a3:Nat)(s8:ByteArray)(i9:Nat)(l10:List ByteArray) :T ((Empty)⊕(aD)) :=
  .need (th ((i9:Nat):Int) a3)<|.need (jo i9 (List.length l10))<|.need (jQ .i64 (((i9+1):Nat):Int))<|.need (mw (((i9+1):Nat):Int) a3)<|.need (mw (0:Int) (i9+1))<|.leaf (.inr (.r0 (i9+1) a3 (List.set l10 i9 s8)))
noncomputable def aW(s_0:ByteArray)(sep_1:ByteArray)(sepSave_2:Int)(n_3:Int) :Option aD:=uu (aQ ((sN s_0 sep_1 n_3).run) fun n1 =>
  aQ ((sP s_0 n1).run) fun (n2,a3,l4) =>
  aQ (dn (fG sep_1 sepSave_2 n2 a3) (s_0,0,l4)) fun (s8,i9,l10) =>
  (rP a3 s8 i9 l10).run)
theorem sQ(s_0:ByteArray)(sep_1:ByteArray)(sepSave_2:Int)(n_3:Int){x:aD}(h:aW s_0 sep_1 sepSave_2 n_3=some x) :am prog jB [] [.str s_0,.str sep_1,.int .i64 sepSave_2,.int .i64 n_3] (jF x) :=
  yD false jF ep h (Sg.cut 7 dL (cu dq (sM s_0 sep_1 sepSave_2) [⟨[(.slot 8,.own 1 1 (.ss ([]:List ByteArray)))],[64],[8]⟩,⟨[],[],[0,1,2,3]⟩,⟨[],[],[0,1,2,3]⟩]) (fun n1=>Sg.cut 4 dL (cu dq (sO s_0 sep_1 sepSave_2) [⟨[],[112],[0,1,2,3,9,10]⟩]) (fun ⟨n2,a3,l4⟩=>Sg.cut 1 dL (JU ⟨[],[0],[0,1,2,3,9,10]⟩ (dM sep_1 sepSave_2 n2 a3) (mr a3) 0 dL (sK _) (fun ⟨s5,i6,l7⟩=>rO sep_1 sepSave_2 n2 a3 s5 i6 l7)) (fun ⟨s8,i9,l10⟩=>cu dq vi [⟨[],[0],[8]⟩]))))
    (fun x=>by cases x with | r0 a11 a12 l13=>exact qo [.sl 0 1 1 0 a11 a12])
def cV:Option aD→Bool
  | some _=>true
  | none=>false
def dv:Option aD→Nat
  | some (.r0 x _ _)=>x
  | _=>0
def dw:Option aD→Nat
  | some (.r0 _ x _)=>x
  | _=>0
def dx:Option aD→List ByteArray
  | some (.r0 _ _ x)=>x
  | _=>[]
theorem sR{x:Option aD}(h:cV x=true) :x=some (.r0 (dv x) (dw x) (dx x)):=by
  unfold cV at h
  split at h<;>first | rfl | (cases h;done) | (rename_i y;cases y;rfl)
noncomputable def np:aH:=cT jB (.cons .str (.cons .str (.cons (.int .i64) (.cons (.int .i64) .nil)))) fun t=>(fun q=>[⟨jF (.r0 (dv q) (dw q) (dx q)),[cV q]⟩]) (aW t.1 t.2.1 t.2.2.1 t.2.2.2.1)
theorem qL:aM prog np:=aO fun t=>(aS (fun h=>sQ t.1 t.2.1 t.2.2.1 t.2.2.2.1 (sR h)) bG)
noncomputable def nq:List aH:=np::qv
theorem bM:ba prog (bh nq):=aw qL dq
inductive aE where
  | r0 (i5:Int) (i6:Int) (i7:Int)
def nr:aE→AE×az
  | .r0 i5 i6 i7=>(.ret,⟨ao 37 [(4,.ptr 0 1 0 0)],[(0,.vs [.int .i64 i5,.int .i64 (0:Int),.int .i64 (0:Int),.nsl,.int .i64 i6,.int .u64 i7])],1⟩)
theorem dN:qm nr:=by intro x;cases x<;>(intro h;cases h)
def jG:aE→lX
  | .r0 i5 i6 i7=>⟨.agg [.int .i64 i5,.int .i64 (0:Int),.int .i64 (0:Int),.nsl,.int .i64 i6,.int .u64 i7],[]⟩
def sS(v_0:Lv)(w_1:List ByteArray)(i_3:Int)(v_4:Lv)(s_5:ByteArray)(i_6:Int)(b_7:Bool)(b_8:Bool)(b1:Bool) :az:=⟨ao 37 [(0,.imm v_0 (.ss w_1) 1 1 0 (List.length w_1)),(2,.iptr v_4 (.vs [.str s_5,.int .i64 i_6,.bool false b_7,.bool false b_8]) 1 0 0),(4,.ptr 0 1 0 0),(5,.ptr 1 1 0 0),(15,.bool false b1)],[(0,.vs [.int .i64 (0:Int),.int .i64 (0:Int),.int .i64 (0:Int),.nsl,.int .i64 (0:Int),.int .u64 (0:Int)]),(1,.vs [.int .i64 i_3,.int .i64 (0:Int),.int .i64 (0:Int),.nsl,.int .i64 (0:Int),.int .u64 (0:Int)])],2⟩
def sT(w_1:List ByteArray)(i_6:Int) :T ((Bool)⊕(aE)) :=
  .ask (decide (i_6>(0:Int)))
    (.leaf (.inl (decide ((((List.length w_1):Nat):Int)>(0:Int)))))
    (.leaf (.inl false))
def sU(v_0:Lv)(w_1:List ByteArray)(i_3:Int)(v_4:Lv)(s_5:ByteArray)(i_6:Int)(b_7:Bool)(b_8:Bool)(i2:Int) :az:=⟨ao 37 [(0,.imm v_0 (.ss w_1) 1 1 0 (List.length w_1)),(2,.iptr v_4 (.vs [.str s_5,.int .i64 i_6,.bool false b_7,.bool false b_8]) 1 0 0),(4,.ptr 0 1 0 0),(5,.ptr 1 1 0 0)],[(0,.vs [.int .i64 (0:Int),.int .i64 (0:Int),.int .i64 (0:Int),.nsl,.int .i64 (0:Int),.int .u64 (0:Int)]),(1,.vs [.int .i64 i_3,.int .i64 (0:Int),.int .i64 (0:Int),.nsl,.int .i64 i2,.int .u64 (0:Int)])],2⟩
def sV(w_1:List ByteArray)(b1:Bool) :T ((Int)⊕(aE)) :=
  .ask b1
    (.need (th (0:Int) (List.length w_1))<|.need (jo 0 (List.length w_1))<|.need (jO (List.getD w_1 0 ByteArray.empty).size)<|.leaf (.inl (eh (List.getD w_1 0 ByteArray.empty))))
    (.leaf (.inl (0:Int)))
def sW(v_0:Lv)(w_1:List ByteArray)(i_3:Int)(i2:Int)(b3:Bool) :az:=⟨ao 37 [(0,.imm v_0 (.ss w_1) 1 1 0 (List.length w_1)),(4,.ptr 0 1 0 0),(5,.ptr 1 1 0 0),(27,.bool false b3)],[(0,.vs [.int .i64 (0:Int),.int .i64 (0:Int),.int .i64 (0:Int),.nsl,.int .i64 (0:Int),.int .u64 (0:Int)]),(1,.vs [.int .i64 i_3,.int .i64 (0:Int),.int .i64 (0:Int),.nsl,.int .i64 i2,.int .u64 (0:Int)])],2⟩
def sX(w_1:List ByteArray)(b_7:Bool) :T ((Bool)⊕(aE)) :=
  .ask b_7
    (.leaf (.inl (decide ((((List.length w_1):Nat):Int)>(1:Int)))))
    (.leaf (.inl false))
def sY(i_3:Int)(i2:Int)(i4:Int) :az:=⟨ao 37 [(4,.ptr 0 1 0 0),(5,.ptr 1 1 0 0)],[(0,.vs [.int .i64 (0:Int),.int .i64 (0:Int),.int .i64 (0:Int),.nsl,.int .i64 (0:Int),.int .u64 (0:Int)]),(1,.vs [.int .i64 i_3,.int .i64 (0:Int),.int .i64 (0:Int),.nsl,.int .i64 i2,.int .u64 i4])],2⟩
def sZ(w_1:List ByteArray)(b3:Bool) :T ((Int)⊕(aE)) :=
  .ask b3
    (.need (th (1:Int) (List.length w_1))<|.need (jo 1 (List.length w_1))<|.need (jO (List.getD w_1 1 ByteArray.empty).size)<|.leaf (.inl (mp (List.getD w_1 1 ByteArray.empty))))
    (.leaf (.inl (0:Int)))
def rQ(i_3:Int)(i2:Int)(i4:Int) :T ((Empty)⊕(aE)) :=
  .leaf (.inr (.r0 i_3 i2 i4))
noncomputable def cC(w_1:List ByteArray)(i_3:Int)(i_6:Int)(b_7:Bool) :Option aE:=uu (aQ ((sT w_1 i_6).run) fun b1 =>
  aQ ((sV w_1 b1).run) fun i2 =>
  aQ ((sX w_1 b_7).run) fun b3 =>
  aQ ((sZ w_1 b3).run) fun i4 =>
  (rQ i_3 i2 i4).run)
theorem ta(v_0:Lv)(w_1:List ByteArray)(v_2:Lv)(i_3:Int)(v_4:Lv)(s_5:ByteArray)(i_6:Int)(b_7:Bool)(b_8:Bool){x:aE}(h:cC w_1 i_3 i_6 b_7=some x) :am prog cz [] [.imm v_0 (.ss w_1) 1 1 0 (List.length w_1),.iptr v_2 (.vs [.int .i64 i_3]) 1 0 0,.iptr v_4 (.vs [.str s_5,.int .i64 i_6,.bool false b_7,.bool false b_8]) 1 0 0] (jG x) :=
  yD false jG nr h (Sg.cut 3 dN (cu bM (sS v_0 w_1 i_3 v_4 s_5 i_6 b_7 b_8) [⟨[],[0,48],[0,2,4,5,15]⟩,⟨[],[0,48],[0,2,4,5,15]⟩]) (fun b1=>Sg.cut 1 dN (cu bM (sU v_0 w_1 i_3 v_4 s_5 i_6 b_7 b_8) [⟨[],[0,1],[0,2,4,5]⟩,⟨[],[0,1],[0,2,4,5]⟩]) (fun i2=>Sg.cut 1 dN (cu bM (sW v_0 w_1 i_3 i2) [⟨[],[0,1],[0,4,5,27]⟩,⟨[],[0,1],[0,4,5,27]⟩]) (fun b3=>Sg.cut 1 dN (cu bM (sY i_3 i2) [⟨[],[0,1],[4,5]⟩,⟨[],[0,1],[4,5]⟩]) (fun i4=>cu bM vi [⟨[],[0],[4]⟩])))))
    (fun x=>by cases x with | r0 i5 i6 i7=>exact qo [.agg [.int .i64 i5,.int .i64 (0:Int),.int .i64 (0:Int),.nsl,.int .i64 i6,.int .u64 i7]])
def dO:Option aE→Bool
  | some _=>true
  | none=>false
def fe:Option aE→Int
  | some (.r0 x _ _)=>x
  | _=>0
def ff:Option aE→Int
  | some (.r0 _ x _)=>x
  | _=>0
def fg:Option aE→Int
  | some (.r0 _ _ x)=>x
  | _=>0
theorem tc{x:Option aE}(h:dO x=true) :x=some (.r0 (fe x) (ff x) (fg x)):=by
  unfold dO at h
  split at h<;>first | rfl | (cases h;done) | (rename_i y;cases y;rfl)
noncomputable def nt:aH:=cT cz (.cons .ss (.cons (.ivs (.cons (.int .i64) .nil) 1 0 0) (.cons (.ivs (.cons .str (.cons (.int .i64) (.cons .bool (.cons .bool .nil)))) 1 0 0) .nil))) fun t=>(fun q=>[⟨jG (.r0 (fe q) (ff q) (fg q)),[dO q]⟩]) (cC t.1.2 t.2.1.2.1 t.2.2.1.2.2.1 t.2.2.1.2.2.2.1)
theorem qM:aM prog nt:=aO fun t=>(aS (fun h=>ta t.1.1 t.1.2 t.2.1.1 t.2.1.2.1 t.2.2.1.1 t.2.2.1.2.1 t.2.2.1.2.2.1 t.2.2.1.2.2.2.1 t.2.2.1.2.2.2.2.1 (tc h)) bG)
noncomputable def nu:List aH:=nt::nq
theorem bN:ba prog (bh nu):=aw qM bM
inductive aL where
  | r0 (a13:Nat) (i14:Int) (i15:Int) (i17:Int)
def qw:aL→AE×az
  | .r0 a13 i14 i15 i17=>(.ret,⟨ao 32 [(2,.ptr 0 1 0 0),(3,.int .i64 ((a13:Nat):Int))],[(0,.vs [.int .i64 i14,.int .i64 (0:Int),.int .i64 (0:Int),.nsl,.int .i64 i15,.int .u64 i17])],1⟩)
theorem gV:qm qw:=by intro x;cases x<;>(intro h;cases h)
def mh:aL→lX
  | .r0 a13 i14 i15 i17=>⟨.tup [.agg [.int .i64 i14,.int .i64 (0:Int),.int .i64 (0:Int),.nsl,.int .i64 i15,.int .u64 i17],.int .i64 ((a13:Nat):Int)],[]⟩
def xH(s_0:ByteArray) :Nat×Nat×(List ByteArray)→az:=fun (w1,w2,l3)=>⟨ao 32 [(0,.str s_0),(2,.ptr 0 1 0 0),(4,.sl 1 1 1 0 w1 w2)],[(0,.vs [.int .i64 (0:Int),.int .i64 (0:Int),.int .i64 (0:Int),.nsl,.int .i64 (0:Int),.int .u64 (0:Int)]),(1,.ss l3)],2⟩
def xI(s_0:ByteArray) :T ((Nat×Nat×(List ByteArray))⊕(aL)) :=
  .need (cV (aW s_0 (ByteArray.mk #[32]) (0:Int) (-1:Int)))<|.leaf (.inl ((dv (aW s_0 (ByteArray.mk #[32]) (0:Int) (-1:Int))),(dw (aW s_0 (ByteArray.mk #[32]) (0:Int) (-1:Int))),(dx (aW s_0 (ByteArray.mk #[32]) (0:Int) (-1:Int)))))
def xJ(s_0:ByteArray)(w1:Nat)(w2:Nat)(l3:List ByteArray) :Nat×ByteArray×Nat×Bool×Bool→az:=fun (read4,read5,read6,read7,read8)=>⟨ao 32 [(0,.str s_0),(2,.ptr 0 1 0 0),(4,.sl 1 1 1 0 w1 w2),(5,.fn (.func cz) [] [.iptr .free (.vs [.int .i64 ((read4:Nat):Int)]) 1 0 0,.iptr .free (.vs [.str read5,.int .i64 ((read6:Nat):Int),.bool false read7,.bool false read8]) 1 0 0])],[(0,.vs [.int .i64 (0:Int),.int .i64 (0:Int),.int .i64 (0:Int),.nsl,.int .i64 (0:Int),.int .u64 (0:Int)]),(1,.ss l3)],2⟩
def xK(w1:Nat)(l3:List ByteArray) :T ((Nat×ByteArray×Nat×Bool×Bool)⊕(aL)) :=
  .need (th (0:Int) w1)<|.need (jo 0 (List.length l3))<|.alt 0
    (.need (decide ((List.getD l3 0 ByteArray.empty)=(ByteArray.mk #[101,105,103,101,110])))<|.leaf (.inl (1,(ByteArray.mk #[101,105,103,101,110]),3,false,true)))
    (.alt 1
      (.need (decide ((List.getD l3 0 ByteArray.empty)=(ByteArray.mk #[118,97,108,117,101,115])))<|.leaf (.inl (2,(ByteArray.mk #[118,97,108,117,101,115]),0,false,true)))
      (.alt 2
        (.need (decide ((List.getD l3 0 ByteArray.empty)=(ByteArray.mk #[115,118,100])))<|.leaf (.inl (3,(ByteArray.mk #[115,118,100]),2,false,false)))
        (.alt 3
          (.need (decide ((List.getD l3 0 ByteArray.empty)=(ByteArray.mk #[114,97,110,107])))<|.leaf (.inl (4,(ByteArray.mk #[114,97,110,107]),2,true,false)))
          (.alt 4
            (.need (decide ((List.getD l3 0 ByteArray.empty)=(ByteArray.mk #[105,110,118,101,114,115,101])))<|.leaf (.inl (5,(ByteArray.mk #[105,110,118,101,114,115,101]),2,true,false)))
            (.alt 5
              (.need (decide ((List.getD l3 0 ByteArray.empty)=(ByteArray.mk #[99,111,110,100])))<|.leaf (.inl (6,(ByteArray.mk #[99,111,110,100]),2,false,false)))
              (.alt 6
                (.need (!(decide ((List.getD l3 0 ByteArray.empty)=(ByteArray.mk #[101,105,103,101,110]))))<|.need (!(decide ((List.getD l3 0 ByteArray.empty)=(ByteArray.mk #[118,97,108,117,101,115]))))<|.need (!(decide ((List.getD l3 0 ByteArray.empty)=(ByteArray.mk #[115,118,100]))))<|.need (!(decide ((List.getD l3 0 ByteArray.empty)=(ByteArray.mk #[114,97,110,107]))))<|.need (!(decide ((List.getD l3 0 ByteArray.empty)=(ByteArray.mk #[105,110,118,101,114,115,101]))))<|.need (!(decide ((List.getD l3 0 ByteArray.empty)=(ByteArray.mk #[99,111,110,100]))))<|.leaf (.inr (.r0 4 (0:Int) (0:Int) (0:Int))))
                (.fail)))))))
def xL(s_0:ByteArray) :Int×Int×Int→az:=fun (i9,i10,i11)=>⟨ao 32 [(0,.str s_0),(2,.ptr 0 1 0 0),(6,.ptr 1 1 0 0)],[(0,.vs [.int .i64 (0:Int),.int .i64 (0:Int),.int .i64 (0:Int),.nsl,.int .i64 (0:Int),.int .u64 (0:Int)]),(1,.vs [.int .i64 i9,.int .i64 (0:Int),.int .i64 (0:Int),.nsl,.int .i64 i10,.int .u64 i11])],2⟩
def xM(w1:Nat)(w2:Nat)(l3:List ByteArray)(read4:Nat)(read6:Nat)(read7:Bool) :T ((Int×Int×Int)⊕(aL)) :=
  .need (mw ((w1:Nat):Int) w2)<|.need (mw (1:Int) w1)<|.need (oT 1 (w1-1) l3)<|.need (dO (cC (bo 1 (w1-1) l3) ((read4:Nat):Int) ((read6:Nat):Int) read7))<|.leaf (.inl ((fe (cC (bo 1 (w1-1) l3) ((read4:Nat):Int) ((read6:Nat):Int) read7)),(ff (cC (bo 1 (w1-1) l3) ((read4:Nat):Int) ((read6:Nat):Int) read7)),(fg (cC (bo 1 (w1-1) l3) ((read4:Nat):Int) ((read6:Nat):Int) read7))))
def xN(i9:Int)(i10:Int)(i11:Int)(b12:Bool) :az:=⟨ao 32 [(2,.ptr 0 1 0 0),(6,.ptr 1 1 0 0),(29,.bool false b12)],[(0,.vs [.int .i64 (0:Int),.int .i64 (0:Int),.int .i64 (0:Int),.nsl,.int .i64 (0:Int),.int .u64 (0:Int)]),(1,.vs [.int .i64 i9,.int .i64 (0:Int),.int .i64 (0:Int),.nsl,.int .i64 i10,.int .u64 i11])],2⟩
def xO(s_0:ByteArray)(i9:Int)(i10:Int)(i11:Int) :T ((Bool)⊕(aL)) :=
  .need (eO (dp i9 i10 i11))<|.ask (!(fo (dp i9 i10 i11)))
    (.leaf (.inl true))
    (.need (kj (jw i9 i10 i11))<|.leaf (.inl (!((kS (jw i9 i10 i11)).toList==s_0.toList))))
def wg(i9:Int)(i10:Int)(i11:Int)(b12:Bool) :T ((Empty)⊕(aL)) :=
  .ask b12
    (.leaf (.inr (.r0 4 (0:Int) (0:Int) (0:Int))))
    (.leaf (.inr (.r0 0 i9 i10 i11)))
noncomputable def bc(s_0:ByteArray) :Option aL:=uu (aQ ((xI s_0).run) fun (w1,w2,l3) =>
  aQ ((xK w1 l3).run) fun (read4,read5,read6,read7,read8) =>
  aQ ((xM w1 w2 l3 read4 read6 read7).run) fun (i9,i10,i11) =>
  aQ ((xO s_0 i9 i10 i11).run) fun b12 =>
  (wg i9 i10 i11 b12).run)
theorem xP(s_0:ByteArray){x:aL}(h:bc s_0=some x) :am prog qj [] [.str s_0] (mh x) :=
  yD false mh qw h (Sg.cut 2 gV (cu bN (xH s_0) [⟨[],[0,48],[0,2,4]⟩]) (fun ⟨w1,w2,l3⟩=>Sg.cut 3 gV (cu bN (xJ s_0 w1 w2 l3) [⟨[],[0,1],[0,2,4,5]⟩,⟨[],[0,1],[0,2,4,5]⟩,⟨[],[0,1],[0,2,4,5]⟩,⟨[],[0,1],[0,2,4,5]⟩,⟨[],[0,1],[0,2,4,5]⟩,⟨[],[0,1],[0,2,4,5]⟩,⟨[],[0],[2,3]⟩]) (fun ⟨read4,read5,read6,read7,read8⟩=>Sg.cut 1 gV (cu bN (xL s_0) [⟨[],[0,66],[0,2,6]⟩]) (fun ⟨i9,i10,i11⟩=>Sg.cut 1 gV (cu bN (xN i9 i10 i11) [⟨[],[0,1],[2,6,29]⟩,⟨[],[0,1],[2,6,29]⟩]) (fun b12=>cu bN vi [⟨[],[0],[2,3]⟩,⟨[],[0],[2,3]⟩])))))
    (fun x=>by cases x with | r0 a13 i14 i15 i17=>exact qo [.agg [.int .i64 i14,.int .i64 (0:Int),.int .i64 (0:Int),.nsl,.int .i64 i15,.int .u64 i17],.int .i64 ((a13:Nat):Int)])
def dX:Option aL→Bool
  | some _=>true
  | none=>false
def er:Option aL→Nat
  | some (.r0 x _ _ _)=>x
  | _=>0
def eu:Option aL→Int
  | some (.r0 _ x _ _)=>x
  | _=>0
def ew:Option aL→Int
  | some (.r0 _ _ x _)=>x
  | _=>0
def ez:Option aL→Int
  | some (.r0 _ _ _ x)=>x
  | _=>0
theorem xQ{x:Option aL}(h:dX x=true) :x=some (.r0 (er x) (eu x) (ew x) (ez x)):=by
  unfold dX at h
  split at h<;>first | rfl | (cases h;done) | (rename_i y;cases y;rfl)
noncomputable def qx:aH:=cT qj (.cons .str .nil) fun t=>(fun q=>[⟨mh (.r0 (er q) (eu q) (ew q) (ez q)),[dX q]⟩]) (bc t.1)
theorem uC:aM prog qx:=aO fun t=>(aS (fun h=>xP t.1 (xQ h)) bG)
noncomputable def qy:List aH:=qx::nu
theorem eA:ba prog (bh qy):=aw uC bN
inductive bp where
  | r0 (b3:Bool)
def qz:bp→AE×az
  | .r0 b3=>(.ret,⟨ao 47 [(2,.bool false b3)],[],0⟩)
theorem pd:qm qz:=by intro x;cases x<;>(intro h;cases h)
def mi:bp→lX
  | .r0 b3=>⟨.bool false b3,[]⟩
def xR(a_0:Int)(a_1:Int)(a_2:Int)(v_3:Lv)(a_4:List Int)(a_5:Int)(a_6:Int)(way1:Nat) :az:=⟨ao 47 [(1,.ptr 0 1 0 0),(3,.int .i64 ((way1:Nat):Int))],[(0,.vs [.int .i64 a_0,.int .i64 a_1,.int .i64 a_2,.imm v_3 (.ns .u64 a_4) 1 1 0 (List.length a_4),.int .i64 a_5,.int .u64 a_6])],1⟩
def xS(a_0 : Int)(a_5 : Int)(a_6 : Int) : T ((Nat) ⊕ (bp)) :=
  .ask (a_0==(1:Int))
    (.leaf (.inl 3))
    (.ask (a_0==(2:Int))
      (.ask (a_5==(0:Int))
        (.leaf (.inr (.r0 (a_6==(0:Int)))))
        (.leaf (.inr (.r0 false))))
      (.ask (a_0==(3:Int))
        (.leaf (.inl 2))
        (.ask (a_0==(6:Int))
          (.leaf (.inl 2))
          (.ask (a_0==(4:Int))
            (.leaf (.inl 2))
            (.ask (a_0==(5:Int))
              (.leaf (.inl 2))
              (.leaf (.inr (.r0 false))))))))
def xT(b2:Bool) :az:=⟨ao 47 [(2,.bool false b2)],[],0⟩
def xU(a_0:Int)(a_5:Int)(a_6:Int)(way1:Nat) :T ((Bool)⊕(bp)) :=
  .ask (decide (a_5≥(1:Int)))
    (.ask (decide (a_5≤((way1:Nat):Int)))
      (.ask (a_6==(0:Int))
        (.leaf (.inl true))
        (.ask (a_0==(4:Int))
          (.leaf (.inl true))
          (.leaf (.inl (a_0==(5:Int))))))
      (.leaf (.inl false)))
    (.leaf (.inl false))
def pf(b2:Bool) :T ((Empty)⊕(bp)) :=
  .leaf (.inr (.r0 b2))
noncomputable def dC(a_0:Int)(a_5:Int)(a_6:Int) :Option bp:=uu (aQ ((xS a_0 a_5 a_6).run) fun way1 =>
  aQ ((xU a_0 a_5 a_6 way1).run) fun b2 =>
  (pf b2).run)
theorem xV(a_0:Int)(a_1:Int)(a_2:Int)(v_3:Lv)(a_4:List Int)(a_5:Int)(a_6:Int){x:bp}(h:dC a_0 a_5 a_6=some x) :am prog qk [] [.agg [.int .i64 a_0,.int .i64 a_1,.int .i64 a_2,.imm v_3 (.ns .u64 a_4) 1 1 0 (List.length a_4),.int .i64 a_5,.int .u64 a_6]] (mi x) :=
  yD false mi qz h (Sg.cut 4 pd (cu eA (xR a_0 a_1 a_2 v_3 a_4 a_5 a_6) [⟨[],[0],[1,3]⟩,⟨[],[],[2]⟩,⟨[],[],[2]⟩,⟨[],[0],[1,3]⟩,⟨[],[0],[1,3]⟩,⟨[],[0],[1,3]⟩,⟨[],[0],[1,3]⟩,⟨[],[],[2]⟩]) (fun way1=>Sg.cut 1 pd (cu eA xT [⟨[],[],[2]⟩,⟨[],[],[2]⟩,⟨[],[],[2]⟩,⟨[],[],[2]⟩,⟨[],[],[2]⟩]) (fun b2=>cu eA vi [⟨[],[],[2]⟩])))
    (fun x=>by cases x with | r0 b3=>exact qo [.bool false b3])
def gW:Option bp→Bool
  | some _=>true
  | none=>false
def jH:Option bp→Bool
  | some (.r0 x)=>x
  | _=>false
theorem xW{x:Option bp}(h:gW x=true) :x=some (.r0 (jH x)):=by
  unfold gW at h
  split at h<;>first | rfl | (cases h;done) | (rename_i y;cases y;rfl)
noncomputable def qA:aH:=cT qk (.cons (.agg (.cons (.int .i64) (.cons (.int .i64) (.cons (.int .i64) (.cons (.ns .u64) (.cons (.int .i64) (.cons (.int .u64) .nil))))))) .nil) fun t=>(fun q=>[⟨mi (.r0 (jH q)),[gW q]⟩]) (dC t.1.1 t.1.2.2.2.2.1 t.1.2.2.2.2.2.1)
theorem uD:aM prog qA:=aO fun t=>(aS (fun h=>xV t.1.1 t.1.2.1 t.1.2.2.1 t.1.2.2.2.1.1 t.1.2.2.2.1.2 t.1.2.2.2.2.1 t.1.2.2.2.2.2.1 (xW h)) bG)
noncomputable def qB:List aH:=qA::qy
theorem eB:ba prog (bh qB):=aw uD eA
inductive cj where
  | r0 (s14:ByteArray)
def mJ:cj→AE×az
  | .r0 s14=>(.ret,⟨ao 20 [(2,.str s14)],[],0⟩)
theorem oB:qm mJ:=by intro x;cases x<;>(intro h;cases h)
theorem Cn(id:Nat) :ow id mJ:=by intro x;cases x<;>(intro h;cases h)
def pZ:cj→lX
  | .r0 s14=>⟨.str s14,[]⟩
noncomputable def Co:List Code:=cJ (rx pN)
def Cp(w_0:Int)(_:Unit) :az:=⟨ao 20 [(0,.int .u64 w_0),(3,.nsl),(4,.int .i64 (60:Int))],[],0⟩
def Cq:T ((Unit)⊕(cj)) :=
  .leaf (.inl ())
def lx(w_0:Int) :Nat×Nat×Int×(List Int)→az:=fun (b6,b7,i9,l10)=>⟨ao 20 [(0,.int .u64 w_0),(3,.sl 0 1 1 0 b6 b7),(4,.int .i64 i9)],[(0,.ns .u8 l10)],1⟩
def tO:Nat×Nat×(List Int)→az:=fun (b11,b12,l13)=>⟨ao 20 [(3,.sl 0 1 1 0 b11 b12)],[(0,.ns .u8 l13)],1⟩
noncomputable def A6:List Code:=cJ (jD ((((Co.drop 3).take 1)).headD .skip))
def nv(w_0:Int)(b6:Nat)(b7:Nat)(i9:Int)(l10:List Int) :T ((Nat×Nat×Int×(List Int))⊕((Nat×Nat×(List Int))⊕(cj))) :=
  .ask (decide (i9≥(0:Int)))
    (.need (decide ((0:Int)≤(IntKind.u64.wrap i9)))<|.need (th (tk .and .u64 (Int.fdiv w_0 (2^(min (Int.toNat (IntKind.u64.wrap i9)) (IntKind.u64.bits)))) (15:Int)) (ByteArray.mk #[48,49,50,51,52,53,54,55,56,57,65,66,67,68,69,70]).size)<|.need (eH ((b6+1)*1) 140737488355328)<|.need (eH (b6+1) 9223372036854775807)<|.need (eH 1 (List.length [(cy (ByteArray.mk #[48,49,50,51,52,53,54,55,56,57,65,66,67,68,69,70]) (Int.toNat (tk .and .u64 (Int.fdiv w_0 (2^(min (Int.toNat (IntKind.u64.wrap i9)) (IntKind.u64.bits)))) (15:Int))))]))<|.need (eH b6 (List.length l10))<|.need (jQ .i64 (i9-(4:Int)))<|.leaf (.inl ((b6+1),(b6+1),(i9-(4:Int)),((List.take b6 l10)++(List.take 1 [(cy (ByteArray.mk #[48,49,50,51,52,53,54,55,56,57,65,66,67,68,69,70]) (Int.toNat (tk .and .u64 (Int.fdiv w_0 (2^(min (Int.toNat (IntKind.u64.wrap i9)) (IntKind.u64.bits)))) (15:Int))))])))))
    (.leaf (.inr (.inl (b6,b7,l10))))
noncomputable def fH(w_0:Int) :Nat×Nat×Int×(List Int)→Option ((Nat×Nat×Int×(List Int))⊕((Nat×Nat×(List Int))⊕(cj))):=fun (b6,b7,i9,l10) =>
  (nv w_0 b6 b7 i9 l10).run
theorem A7(w_0:Int)(b6:Nat)(b7:Nat)(i9:Int)(l10:List Int) :Sg prog [] A6 (lx w_0 (b6,b7,i9,l10)) (fH w_0 (b6,b7,i9,l10)) (lx w_0) (dz 0 tO mJ):=by
  unfold fH;exact cu eB (lx w_0) [⟨[],[161],[0,3,4]⟩,⟨[],[0],[3]⟩]
def rR(b11:Nat)(l13:List Int) :T ((Empty)⊕(cj)) :=
  .need (eH b11 (List.length l13))<|.leaf (.inr (.r0 (qi (List.take b11 l13))))
noncomputable def aT(w_0:Int) :Option cj:=uu (aQ ((Cq).run) fun _ =>
  aQ (dn (fH w_0) (0,0,(60:Int),([]:List Int))) fun (b11,b12,l13) =>
  (rR b11 l13).run)
theorem Cr(w_0:Int){x:cj}(h:aT w_0=some x) :am prog pN [] [.int .u64 w_0] (pZ x) :=
  yD false pZ mJ h (Sg.cut 3 oB (cu eB (Cp w_0) [⟨[],[],[0,3,4]⟩]) (fun _=>Sg.cut 1 oB (JU ⟨[(.slot 3,.own 1 1 (.ns .u8 ([]:List Int)))],[0],[0,3,4]⟩ (lx w_0) (tO) 0 oB (Cn _) (fun ⟨b6,b7,i9,l10⟩=>A7 w_0 b6 b7 i9 l10)) (fun ⟨b11,b12,l13⟩=>cu eB vi [⟨[],[],[2]⟩])))
    (fun x=>by cases x with | r0 s14=>exact qo [.str s14])
def fb:Option cj→Bool
  | some _=>true
  | none=>false
def bd:Option cj→ByteArray
  | some (.r0 x)=>x
  | _=>ByteArray.empty
theorem Cs{x:Option cj}(h:fb x=true) :x=some (.r0 (bd x)):=by
  unfold fb at h
  split at h<;>first | rfl | (cases h;done) | (rename_i y;cases y;rfl)
noncomputable def wh:aH:=cT pN (.cons (.int .u64) .nil) fun t=>(fun q=>[⟨pZ (.r0 (bd q)),[fb q]⟩]) (aT t.1)
theorem zd:aM prog wh:=aO fun t=>(aS (fun h=>Cr t.1 (Cs h)) bG)
noncomputable def wi:List aH:=wh::qB
theorem dD:ba prog (bh wi):=aw zd eB
inductive bO where
  | r0 (s5:ByteArray)
def wj:bO→AE×az
  | .r0 s5=>(.ret,⟨ao 31 [(2,.str s5)],[],0⟩)
theorem ly:qm wj:=by intro x;cases x<;>(intro h;cases h)
def qa:bO→lX
  | .r0 s5=>⟨.str s5,[]⟩
def Ct(a_0:Int)(a_1:Int)(a_2:Int)(v_3:Lv)(a_4:List Int)(a_5:Int)(a_6:Int)(s1:ByteArray) :az:=⟨ao 31 [(1,.ptr 0 1 0 0),(3,.str s1)],[(0,.vs [.int .i64 a_0,.int .i64 a_1,.int .i64 a_2,.imm v_3 (.ns .u64 a_4) 1 1 0 (List.length a_4),.int .i64 a_5,.int .u64 a_6])],1⟩
def oC(a_0:Int) :T ((ByteArray)⊕(bO)) :=
  .need (th a_0 7)<|.need (jo (Int.toNat a_0) (List.length [ByteArray.empty,(ByteArray.mk #[101,105,103,101,110]),(ByteArray.mk #[118,97,108,117,101,115]),(ByteArray.mk #[115,118,100]),(ByteArray.mk #[114,97,110,107]),(ByteArray.mk #[105,110,118,101,114,115,101]),(ByteArray.mk #[99,111,110,100])]))<|.leaf (.inl (List.getD [ByteArray.empty,(ByteArray.mk #[101,105,103,101,110]),(ByteArray.mk #[118,97,108,117,101,115]),(ByteArray.mk #[115,118,100]),(ByteArray.mk #[114,97,110,107]),(ByteArray.mk #[105,110,118,101,114,115,101]),(ByteArray.mk #[99,111,110,100])] (Int.toNat a_0) ByteArray.empty))
def Cu(a_0:Int)(a_1:Int)(a_2:Int)(v_3:Lv)(a_4:List Int)(a_5:Int)(a_6:Int)(s2:ByteArray) :az:=⟨ao 31 [(1,.ptr 0 1 0 0),(3,.str s2)],[(0,.vs [.int .i64 a_0,.int .i64 a_1,.int .i64 a_2,.imm v_3 (.ns .u64 a_4) 1 1 0 (List.length a_4),.int .i64 a_5,.int .u64 a_6])],1⟩
def oD(a_0:Int)(a_5:Int)(s1:ByteArray) :T ((ByteArray)⊕(bO)) :=
  .ask (a_0 != (2:Int))
    (.need (decide (s1.size+(ByteArray.mk #[32]).size≤9223372036854775807))<|.need (jQ .i64 a_5)<|.need (decide ((s1++(ByteArray.mk #[32])).size+(cg a_5).size≤9223372036854775807))<|.leaf (.inl ((s1++(ByteArray.mk #[32]))++(cg a_5))))
    (.leaf (.inl s1))
def Cv(a_0:Int)(a_1:Int)(a_2:Int)(v_3:Lv)(a_4:List Int)(a_5:Int)(a_6:Int)(s2:ByteArray)(b3:Bool) :az:=⟨ao 31 [(1,.ptr 0 1 0 0),(3,.str s2),(23,.bool false b3)],[(0,.vs [.int .i64 a_0,.int .i64 a_1,.int .i64 a_2,.imm v_3 (.ns .u64 a_4) 1 1 0 (List.length a_4),.int .i64 a_5,.int .u64 a_6])],1⟩
def oE(a_0:Int) :T ((Bool)⊕(bO)) :=
  .ask (a_0==(4:Int))
    (.leaf (.inl true))
    (.leaf (.inl (a_0==(5:Int))))
def Cw(s4:ByteArray) :az:=⟨ao 31 [(3,.str s4)],[],0⟩
def oF(a_6:Int)(s2:ByteArray)(b3:Bool) :T ((ByteArray)⊕(bO)) :=
  .ask b3
    (.need (decide (s2.size+(ByteArray.mk #[32]).size≤9223372036854775807))<|.need (fb (aT a_6))<|.need (decide ((s2++(ByteArray.mk #[32])).size+(bd (aT a_6)).size≤9223372036854775807))<|.leaf (.inl ((s2++(ByteArray.mk #[32]))++(bd (aT a_6)))))
    (.leaf (.inl s2))
def rS(s4:ByteArray) :T ((Empty)⊕(bO)) :=
  .leaf (.inr (.r0 s4))
noncomputable def eC(a_0:Int)(a_5:Int)(a_6:Int) :Option bO:=uu (aQ ((oC a_0).run) fun s1 =>
  aQ ((oD a_0 a_5 s1).run) fun s2 =>
  aQ ((oE a_0).run) fun b3 =>
  aQ ((oF a_6 s2 b3).run) fun s4 =>
  (rS s4).run)
theorem Cx(a_0:Int)(a_1:Int)(a_2:Int)(v_3:Lv)(a_4:List Int)(a_5:Int)(a_6:Int){x:bO}(h:eC a_0 a_5 a_6=some x) :am prog vP [] [.agg [.int .i64 a_0,.int .i64 a_1,.int .i64 a_2,.imm v_3 (.ns .u64 a_4) 1 1 0 (List.length a_4),.int .i64 a_5,.int .u64 a_6]] (qa x) :=
  yD false qa wj h (Sg.cut 2 ly (cu dD (Ct a_0 a_1 a_2 v_3 a_4 a_5 a_6) [⟨[],[0],[1,3]⟩]) (fun s1=>Sg.cut 2 ly (cu dD (Cu a_0 a_1 a_2 v_3 a_4 a_5 a_6) [⟨[],[0],[1,3]⟩,⟨[],[0],[1,3]⟩]) (fun s2=>Sg.cut 1 ly (cu dD (Cv a_0 a_1 a_2 v_3 a_4 a_5 a_6 s2) [⟨[],[0],[1,3,23]⟩,⟨[],[0],[1,3,23]⟩]) (fun b3=>Sg.cut 1 ly (cu dD Cw [⟨[],[],[3]⟩,⟨[],[],[3]⟩]) (fun s4=>cu dD vi [⟨[],[],[2]⟩])))))
    (fun x=>by cases x with | r0 s5=>exact qo [.str s5])
def lA:Option bO→Bool
  | some _=>true
  | none=>false
def jz:Option bO→ByteArray
  | some (.r0 x)=>x
  | _=>ByteArray.empty
theorem Cy{x:Option bO}(h:lA x=true) :x=some (.r0 (jz x)):=by
  unfold lA at h
  split at h<;>first | rfl | (cases h;done) | (rename_i y;cases y;rfl)
noncomputable def wk:aH:=cT vP (.cons (.agg (.cons (.int .i64) (.cons (.int .i64) (.cons (.int .i64) (.cons (.ns .u64) (.cons (.int .i64) (.cons (.int .u64) .nil))))))) .nil) fun t=>(fun q=>[⟨qa (.r0 (jz q)),[lA q]⟩]) (eC t.1.1 t.1.2.2.2.2.1 t.1.2.2.2.2.2.1)
theorem ze:aM prog wk:=aO fun t=>(aS (fun h=>Cx t.1.1 t.1.2.1 t.1.2.2.1 t.1.2.2.2.1.1 t.1.2.2.2.1.2 t.1.2.2.2.2.1 t.1.2.2.2.2.2.1 (Cy h)) bG)
noncomputable def wl:List aH:=wk::wi
theorem eU:ba prog (bh wl):=aw ze dD
inductive cm where
  | r0 (s16:ByteArray)
def nZ:cm→AE×az
  | .r0 s16=>(.ret,⟨ao 25 [(2,.str s16)],[],0⟩)
theorem mK:qm nZ:=by intro x;cases x<;>(intro h;cases h)
theorem Eq(id:Nat) :ow id nZ:=by intro x;cases x<;>(intro h;cases h)
def rT:cm→lX
  | .r0 s16=>⟨.str s16,[]⟩
noncomputable def Cz:List Code:=cJ (rx rv)
def Er(v_0:Lv)(words_1:List Int)(_:Unit) :az:=⟨ao 25 [(0,.imm v_0 (.ns .u64 words_1) 1 1 0 (List.length words_1)),(3,.nsl),(4,.int .i64 (0:Int))],[],0⟩
def CA:T ((Unit)⊕(cm)) :=
  .leaf (.inl ())
def mL(v_0:Lv)(words_1:List Int) :Nat×Nat×Nat×(List Int)→az:=fun (b6,b7,i9,l10)=>⟨ao 25 [(0,.imm v_0 (.ns .u64 words_1) 1 1 0 (List.length words_1)),(3,.sl 0 1 1 0 b6 b7),(4,.int .i64 ((i9:Nat):Int))],[(0,.ns .u8 l10)],1⟩
def wm:Nat×Nat×(List Int)→az:=fun (b13,b14,l15)=>⟨ao 25 [(3,.sl 0 1 1 0 b13 b14)],[(0,.ns .u8 l15)],1⟩
noncomputable def CB:List Code:=cJ (jD ((((Cz.drop 3).take 1)).headD .skip))
def Es(v_0:Lv)(words_1:List Int)(i9:Nat) :Nat×(List Int)→az:=fun (b11,l12)=>⟨ao 25 [(0,.imm v_0 (.ns .u64 words_1) 1 1 0 (List.length words_1)),(3,.sl 0 1 1 0 b11 b11),(4,.int .i64 ((i9:Nat):Int))],[(0,.ns .u8 l12)],1⟩
def oG(words_1:List Int)(b6:Nat)(b7:Nat)(i9:Nat)(l10:List Int) :T ((Nat×(List Int))⊕((Nat×Nat×(List Int))⊕(cm))) :=
  .ask (decide (((i9:Nat):Int)<(((List.length words_1):Nat):Int)))
    (.ask (decide (((i9:Nat):Int)>(0:Int)))
      (.need (eH ((b6+1)*1) 140737488355328)<|.need (eH (b6+1) 9223372036854775807)<|.need (eH 1 (List.length [(32:Int)]))<|.need (eH b6 (List.length l10))<|.need (th ((i9:Nat):Int) (List.length words_1))<|.need (jo i9 (List.length words_1))<|.need (fb (aT (List.getD words_1 i9 0)))<|.need (eH (((b6+1)+(bd (aT (List.getD words_1 i9 0))).size)*1) 140737488355328)<|.need (eH ((b6+1)+(bd (aT (List.getD words_1 i9 0))).size) 9223372036854775807)<|.need (eH (b6+1) (List.length ((List.take b6 l10)++(List.take 1 [(32:Int)]))))<|.leaf (.inl (((b6+1)+(bd (aT (List.getD words_1 i9 0))).size),((List.take (b6+1) ((List.take b6 l10)++(List.take 1 [(32:Int)])))++(cH (bd (aT (List.getD words_1 i9 0))))))))
      (.need (th ((i9:Nat):Int) (List.length words_1))<|.need (jo i9 (List.length words_1))<|.need (fb (aT (List.getD words_1 i9 0)))<|.need (eH ((b6+(bd (aT (List.getD words_1 i9 0))).size)*1) 140737488355328)<|.need (eH (b6+(bd (aT (List.getD words_1 i9 0))).size) 9223372036854775807)<|.need (eH b6 (List.length l10))<|.leaf (.inl ((b6+(bd (aT (List.getD words_1 i9 0))).size),((List.take b6 l10)++(cH (bd (aT (List.getD words_1 i9 0)))))))))
    (.leaf (.inr (.inl (b6,b7,l10))))
def CC(i9:Nat)(b11:Nat)(l12:List Int) :T ((Nat×Nat×Nat×(List Int))⊕((Nat×Nat×(List Int))⊕(cm))) :=
  .need (jQ .i64 (((i9+1):Nat):Int))<|.leaf (.inl (b11,b11,(i9+1),l12))
noncomputable def oH(words_1:List Int) :Nat×Nat×Nat×(List Int)→Option ((Nat×Nat×Nat×(List Int))⊕((Nat×Nat×(List Int))⊕(cm))):=fun (b6,b7,i9,l10) =>
  aQ ((oG words_1 b6 b7 i9 l10).run) fun (b11,l12) =>
  (CC i9 b11 l12).run
theorem CD(v_0:Lv)(words_1:List Int)(b6:Nat)(b7:Nat)(i9:Nat)(l10:List Int) :Sg prog [] CB (mL v_0 words_1 (b6,b7,i9,l10)) (oH words_1 (b6,b7,i9,l10)) (mL v_0 words_1) (dz 0 wm nZ):=by
  unfold oH;exact Sg.cut 3 (aZ mK) (cu eU (Es v_0 words_1 i9) [⟨[],[257],[0,3,4]⟩,⟨[],[193],[0,3,4]⟩,⟨[],[0],[3]⟩]) (fun ⟨b11,l12⟩=>cu eU (mL v_0 words_1) [⟨[],[0],[0,3,4]⟩])
def tP(b13:Nat)(l15:List Int) :T ((Empty)⊕(cm)) :=
  .need (eH b13 (List.length l15))<|.leaf (.inr (.r0 (qi (List.take b13 l15))))
noncomputable def fI(words_1:List Int) :Option cm:=uu (aQ ((CA).run) fun _ =>
  aQ (dn (oH words_1) (0,0,0,([]:List Int))) fun (b13,b14,l15) =>
  (tP b13 l15).run)
theorem Et(v_0:Lv)(words_1:List Int){x:cm}(h:fI words_1=some x) :am prog rv [] [.imm v_0 (.ns .u64 words_1) 1 1 0 (List.length words_1)] (rT x) :=
  yD false rT nZ h (Sg.cut 3 mK (cu eU (Er v_0 words_1) [⟨[],[],[0,3,4]⟩]) (fun _=>Sg.cut 1 mK (JU ⟨[(.slot 3,.own 1 1 (.ns .u8 ([]:List Int)))],[0],[0,3,4]⟩ (mL v_0 words_1) (wm) 0 mK (Eq _) (fun ⟨b6,b7,i9,l10⟩=>CD v_0 words_1 b6 b7 i9 l10)) (fun ⟨b13,b14,l15⟩=>cu eU vi [⟨[],[],[2]⟩])))
    (fun x=>by cases x with | r0 s16=>exact qo [.str s16])
def mM:Option cm→Bool
  | some _=>true
  | none=>false
def ko:Option cm→ByteArray
  | some (.r0 x)=>x
  | _=>ByteArray.empty
theorem Eu{x:Option cm}(h:mM x=true) :x=some (.r0 (ko x)):=by
  unfold mM at h
  split at h<;>first | rfl | (cases h;done) | (rename_i y;cases y;rfl)
noncomputable def yI:aH:=cT rv (.cons (.ns .u64) .nil) fun t=>(fun q=>[⟨rT (.r0 (ko q)),[mM q]⟩]) (fI t.1.2)
theorem A8:aM prog yI:=aO fun t=>(aS (fun h=>Et t.1.1 t.1.2 (Eu h)) bG)
noncomputable def yJ:List aH:=yI::wl
theorem nx:ba prog (bh yJ):=aw A8 eU
inductive bt where
  | r0 (a4:Nat) (a5:Nat) (l6:List ByteArray)
def qC:bt→AE×az
  | .r0 a4 a5 l6=>(.ret,⟨ao 8 [(4,.sl 0 1 1 0 a4 a5)],[(0,.ss l6)],1⟩)
theorem xX:qm qC:=by intro x;cases x<;>(intro h;cases h)
def mj:bt→lX
  | .r0 a4 a5 l6=>⟨.imm .free (.ss l6) 1 1 0 a4,[]⟩
def xY:Nat×Nat×(List ByteArray)→az:=fun (a1,a2,l3)=>⟨ao 8 [(4,.sl 0 1 1 0 a1 a2)],[(0,.ss l3)],1⟩
def xZ(s_0:ByteArray)(sep_1:ByteArray) :T ((Nat×Nat×(List ByteArray))⊕(bt)) :=
  .need (cV (aW s_0 sep_1 (0:Int) (-1:Int)))<|.leaf (.inl ((dv (aW s_0 sep_1 (0:Int) (-1:Int))),(dw (aW s_0 sep_1 (0:Int) (-1:Int))),(dx (aW s_0 sep_1 (0:Int) (-1:Int)))))
def ya(a1:Nat)(a2:Nat)(l3:List ByteArray) :T ((Empty)⊕(bt)) :=
  .leaf (.inr (.r0 a1 a2 l3))
noncomputable def cn(s_0:ByteArray)(sep_1:ByteArray) :Option bt:=uu (aQ ((xZ s_0 sep_1).run) fun (a1,a2,l3) =>
  (ya a1 a2 l3).run)
theorem yb(s_0:ByteArray)(sep_1:ByteArray){x:bt}(h:cn s_0 sep_1=some x) :am prog ql [] [.str s_0,.str sep_1] (mj x) :=
  yD true mj qC h (Sg.cut 2 xX (cu nx xY [⟨[],[48],[4]⟩]) (fun ⟨a1,a2,l3⟩=>cu nx vi [⟨[],[0],[4]⟩]))
    (fun x=>by cases x with | r0 a4 a5 l6=>exact qo [.sl 0 1 1 0 a4 a5])
def dY:Option bt→Bool
  | some _=>true
  | none=>false
def eD:Option bt→Nat
  | some (.r0 x _ _)=>x
  | _=>0
def ny:Option bt→Nat
  | some (.r0 _ x _)=>x
  | _=>0
def eF:Option bt→List ByteArray
  | some (.r0 _ _ x)=>x
  | _=>[]
theorem yc{x:Option bt}(h:dY x=true) :x=some (.r0 (eD x) (ny x) (eF x)):=by
  unfold dY at h
  split at h<;>first | rfl | (cases h;done) | (rename_i y;cases y;rfl)
noncomputable def qD:aH:=cT ql (.cons .str (.cons .str .nil)) fun t=>(fun q=>[⟨mj (.r0 (eD q) (ny q) (eF q)),[dY q]⟩]) (cn t.1 t.2.1)
theorem uE:aM prog qD:=aO fun t=>(aS (fun h=>yb t.1 t.2.1 (yc h)) bG)
noncomputable def qE:List aH:=qD::yJ
theorem jI:ba prog (bh qE):=aw uE nx
inductive aX where
  | r0 (before4:ByteArray) (after5:ByteArray) (found6:Bool)
def tQ:aX→AE×az
  | .r0 before4 after5 found6=>(.ret,⟨ao 13 [(4,.str before4),(5,.str after5),(6,.bool false found6)],[],0⟩)
theorem A9:qm tQ:=by intro x;cases x<;>(intro h;cases h)
def oI:aX→lX
  | .r0 before4 after5 found6=>⟨.tup [.str before4,.str after5,.bool false found6],[]⟩
def Ba:ByteArray×ByteArray×Bool→az:=fun (before1,after2,found3)=>⟨ao 13 [(4,.str before1),(5,.str after2),(6,.bool false found3)],[],0⟩
def Bb(s_0:ByteArray)(sep_1:ByteArray) :T ((ByteArray×ByteArray×Bool)⊕(aX)) :=
  .need (aP (ah s_0 sep_1))<|.ask (decide ((ai (ah s_0 sep_1))≥(0:Int)))
    (.need (mw (ai (ah s_0 sep_1)) s_0.size)<|.need (mw (0:Int) (Int.toNat (ai (ah s_0 sep_1))))<|.need (jQ .i64 ((ai (ah s_0 sep_1))+((sep_1.size:Nat):Int)))<|.need (mw ((s_0.size:Nat):Int) s_0.size)<|.need (mw ((ai (ah s_0 sep_1))+((sep_1.size:Nat):Int)) s_0.size)<|.leaf (.inl ((s_0.extract 0 (Int.toNat (ai (ah s_0 sep_1)))),(s_0.extract (Int.toNat ((ai (ah s_0 sep_1))+((sep_1.size:Nat):Int))) s_0.size),true)))
    (.leaf (.inl (s_0,ByteArray.empty,false)))
def Bc(before1:ByteArray)(after2:ByteArray)(found3:Bool) :T ((Empty)⊕(aX)) :=
  .leaf (.inr (.r0 before1 after2 found3))
noncomputable def lB(s_0:ByteArray)(sep_1:ByteArray) :Option aX:=uu (aQ ((Bb s_0 sep_1).run) fun (before1,after2,found3) =>
  (Bc before1 after2 found3).run)
theorem Bd(s_0:ByteArray)(sep_1:ByteArray){x:aX}(h:lB s_0 sep_1=some x) :am prog tz [] [.str s_0,.str sep_1] (oI x) :=
  yD false oI tQ h (Sg.cut 2 A9 (cu jI Ba [⟨[],[],[4,5,6]⟩,⟨[],[],[4,5,6]⟩]) (fun ⟨before1,after2,found3⟩=>cu jI vi [⟨[],[],[4,5,6]⟩]))
    (fun x=>by cases x with | r0 before4 after5 found6=>exact qo [.str before4,.str after5,.bool false found6])
def fJ:Option aX→Bool
  | some _=>true
  | none=>false
def gX:Option aX→ByteArray
  | some (.r0 x _ _)=>x
  | _=>ByteArray.empty
def bS:Option aX→ByteArray
  | some (.r0 _ x _)=>x
  | _=>ByteArray.empty
def gY:Option aX→Bool
  | some (.r0 _ _ x)=>x
  | _=>false
theorem Be{x:Option aX}(h:fJ x=true) :x=some (.r0 (gX x) (bS x) (gY x)):=by
  unfold fJ at h
  split at h<;>first | rfl | (cases h;done) | (rename_i y;cases y;rfl)
noncomputable def tR:aH:=cT tz (.cons .str (.cons .str .nil)) fun t=>(fun q=>[⟨oI (.r0 (gX q) (bS q) (gY q)),[fJ q]⟩]) (lB t.1 t.2.1)
theorem yd:aM prog tR:=aO fun t=>(aS (fun h=>Bd t.1 t.2.1 (Be h)) bG)
noncomputable def tS:List aH:=tR::qE
theorem kV:ba prog (bh tS):=aw yd jI
inductive cG where
  | r0 (b2:Bool)
def tT:cG→AE×az
  | .r0 b2=>(.ret,⟨ao 9 [(2,.bool false b2)],[],0⟩)
theorem Bf:qm tT:=by intro x;cases x<;>(intro h;cases h)
def oJ:cG→lX
  | .r0 b2=>⟨.bool false b2,[]⟩
def Bg(b1:Bool) :az:=⟨ao 9 [(2,.bool false b1)],[],0⟩
def Bh(n_0:Int) :T ((Bool)⊕(cG)) :=
  .ask (decide (n_0≥(0:Int)))
    (.leaf (.inl (decide (n_0≤(512:Int)))))
    (.leaf (.inl false))
def Bi(b1:Bool) :T ((Empty)⊕(cG)) :=
  .leaf (.inr (.r0 b1))
noncomputable def bV(n_0:Int) :Option cG:=uu (aQ ((Bh n_0).run) fun b1 =>
  (Bi b1).run)
theorem Bj(n_0:Int){x:cG}(h:bV n_0=some x) :am prog tB [] [.int .i64 n_0] (oJ x) :=
  yD false oJ tT h (Sg.cut 2 Bf (cu kV Bg [⟨[],[],[2]⟩,⟨[],[],[2]⟩]) (fun b1=>cu kV vi [⟨[],[],[2]⟩]))
    (fun x=>by cases x with | r0 b2=>exact qo [.bool false b2])
def dr:Option cG→Bool
  | some _=>true
  | none=>false
def dj:Option cG→Bool
  | some (.r0 x)=>x
  | _=>false
theorem Bk{x:Option cG}(h:dr x=true) :x=some (.r0 (dj x)):=by
  unfold dr at h
  split at h<;>first | rfl | (cases h;done) | (rename_i y;cases y;rfl)
noncomputable def tU:aH:=cT tB (.cons (.int .i64) .nil) fun t=>(fun q=>[⟨oJ (.r0 (dj q)),[dr q]⟩]) (bV t.1)
theorem ye:aM prog tU:=aO fun t=>(aS (fun h=>Bj t.1 (Bk h)) bG)
noncomputable def oK:List aH:=tU::tS
theorem au:ba prog (bh oK):=aw ye kV
end
end Go.Plb.Seat
namespace Go.Plb.Seat
open Go Go.Plb
set_option linter.unusedSimpArgs false
set_option linter.unusedVariables false
set_option maxRecDepth 100000
def HW(b:UInt8) :Bool:=(decide (48≤b.toNat)&&decide (b.toNat≤57))||(decide (65≤b.toNat)&&decide (b.toNat≤70))
def hv(b:UInt8) :Nat:=if b.toNat≤57 then b.toNat-48 else b.toNat-55
theorem yK(l:List Int) :(qi l).data.toList=l.map fun n=>UInt8.ofNat n.toNat:=by
  have key:∀ (l:List Int) (r:ByteArray),(l.foldl (fun r n=>r.push (UInt8.ofNat n.toNat)) r).data.toList=r.data.toList++l.map fun n=>UInt8.ofNat n.toNat:=by
    intro l
    induction l with
    | nil=>intro r;simp
    | cons x l ih =>
      intro r
      rw [List.foldl_cons,ih]
      simp [ByteArray.push]
  have:=key l ByteArray.empty
  simpa [qi] using this
end Go.Plb.Seat
namespace Go.Plb
set_option linter.unusedSimpArgs false
set_option linter.unusedVariables false
end Go.Plb
namespace Go.Plb.Seat
open Go Go.Plb
set_option linter.unusedSimpArgs false
set_option linter.unusedVariables false
set_option maxRecDepth 100000
theorem ME{z:Int}(h:0≤z)(h2:z<18446744073709551616) :IntKind.u64.wrap z=z:=by
  show z%18446744073709551616=z
  omega
theorem first_bad:∀ l:List UInt8,(∀ c∈l,HW c=true)∨∃ n c,l[n]? = some c∧¬ HW c=true∧∀ x∈l.take n,HW x=true
  | []=>.inl fun _ h=>by cases h
  | c::l=>by
    by_cases hc:HW c=true
    · rcases first_bad l with h | ⟨n,d,h1,h2,h3⟩
      · exact .inl fun x hx=>by
          rcases List.mem_cons.1 hx with rfl | hx
          · exact hc
          · exact h x hx
      · exact .inr ⟨n+1,d,by simpa using h1,h2,fun x hx=>by
          rw [List.take_succ_cons] at hx
          rcases List.mem_cons.1 hx with rfl | hx
          · exact hc
          · exact h3 x hx⟩
    · exact .inr ⟨0,c,rfl,hc,fun x hx=>by simp at hx⟩
theorem Kd(w:Int){j:Nat}(hj:j<16) :(lM w).take (j+1)=(lM w).take j++[cy pT (dg w j)]:=by
  have h:(lM w)[j]? = some (cy pT (dg w j)):=by simp [lM,hj]
  rw [List.take_add_one,h]
  rfl
theorem oL(w:Int) :aT w=some (.r0 (bi w)):=by
  unfold aT
  refine cd (an rfl (an (a:=(16,16,lM w)) (fD (fun j=>(j,j,(60:Int)-((4*j:Nat):Int),(lM w).take j)) 16 rfl (fun j hj=>?_) ?_) ?_))
  · have hd:=La w j
    have e1:IntKind.u64.wrap ((60:Int)-((4*j:Nat):Int))=(60:Int)-((4*j:Nat):Int):=ME (by omega) (by omega)
    have hl:((lM w).take j).length=j:=by rw [List.length_take,pb];omega
    have hn:List.take j ((lM w).take j)++List.take 1 [cy pT (dg w j)]=(lM w).take (j+1):=by
      rw [Kd w hj,List.take_of_length_le (by omega)];rfl
    have e2:(60:Int)-((4*(j+1):Nat):Int)=(60:Int)-((4*j:Nat):Int)-4:=by omega
    simp only [fH,nv]
    rw [e1,HO w hj,e2,←hn]
    exact eN (decide_eq_true (by omega)) (aB (decide_eq_true (by omega)) (aB (by rw [rD];exact ⟨by omega,by show ((dg w j:Nat):Int)<((16:Nat):Int);omega⟩) (aB (by rw [bz];omega) (aB (by rw [bz];omega) (kH (aB (by rw [bz,hl];exact Nat.le_refl _) (aB (by rw [bT];omega) rfl)))))))
  · have e:(lM w).take 16=lM w:=List.take_of_length_le (by rw [pb];exact Nat.le_refl _)
    simp only [fH,nv]
    rw [e]
    exact di (decide_eq_false (by omega)) rfl
  · show (rR 16 (lM w)).run=_
    have e:(lM w).take 16=lM w:=List.take_of_length_le (by rw [pb];exact Nat.le_refl _)
    refine aB (by rw [bz,pb];exact Nat.le_refl _) ?_
    rw [e]
    rfl
def nH(ws:List Int) :Nat→List Int
  | 0=>[]
  | j+1=>(bif Nat.blt 0 j then nH ws j++[32] else nH ws j)++cH (bi (ws.getD j 0))
theorem qb(s:ByteArray) :(cH s).length=s.size:=by simp [cH]
theorem HX(ws:List Int) :∀ j,(nH ws j).length≤17*j
  | 0=>by simp [nH]
  | j+1=>by
    have:=HX ws j
    rw [nH,List.length_append,qb,jE]
    cases Nat.blt 0 j<;>simp<;>omega
theorem uF(s:ByteArray) :(cH s).map (fun n=>UInt8.ofNat n.toNat)=s.data.toList:=by
  simp only [cH,List.map_map]
  conv=>rhs;rw [←List.map_id s.data.toList]
  apply List.map_congr_left
  intro b _
  show UInt8.ofNat ((b.toNat:Int)).toNat=b
  rw [Int.toNat_natCast]
  exact UInt8.ofNat_toNat
theorem Bl:∀ (l:List ByteArray) (x:ByteArray),l≠[]→kI (l++[x])=kI l++32::x.data.toList
  | [],_,h=>absurd rfl h
  | [y],x,_=>by simp [kI]
  | y::z::r,x,_=>by
    have:=Bl (z::r) x (by simp)
    simp only [List.cons_append] at this ⊢
    simp only [kI,this]
    simp
theorem FP(ws:List Int) :∀ j,j≤ws.length→(nH ws j).map (fun n=>UInt8.ofNat n.toNat)=kI ((ws.take j).map bi)
  | 0,_=>by simp [nH,kI]
  | j + 1, h => by
    have ih:=FP ws j (by omega)
    have hg:ws[j]? = some (ws.getD j 0):=by rw [List.getD_eq_getElem?_getD,List.getElem?_eq_getElem (by omega)];rfl
    have ht:(ws.take (j+1)).map bi=(ws.take j).map bi++[bi (ws.getD j 0)]:=by rw [List.take_add_one,hg,List.map_append];rfl
    rw [nH,ht]
    by_cases h0:j=0
    · subst h0
      simp only [List.map_append,uF]
      simp [nH,kI,show Nat.blt 0 0=false from rfl]
    · have hb:Nat.blt 0 j=true:=by rw [HM];omega
      have hne:(ws.take j).map bi≠[]:=by
        intro q
        have:=congrArg List.length q
        rw [List.length_map,List.length_take,List.length_nil] at this
        omega
      rw [hb,cond_true,Bl _ _ hne,List.map_append,List.map_append,ih,uF]
      simp
theorem KK(ws:List Int) :qi (nH ws ws.length)=qK ws:=by
  have h:=FP ws ws.length (Nat.le_refl _)
  rw [List.take_length] at h
  have h2:=yK (nH ws ws.length)
  rw [h] at h2
  have e:∀ a b:ByteArray,a.data.toList=b.data.toList→a=b:=by
    rintro ⟨a⟩ ⟨b⟩ q
    exact congrArg ByteArray.mk (Array.toList_inj.1 q)
  apply e
  rw [h2,qK,qp]
theorem Ev(ws:List Int)(h:ws.length≤1000000) :fI ws=some (.r0 (qK ws)):=by
  unfold fI
  refine cd (an rfl (an (a:=((nH ws ws.length).length,(nH ws ws.length).length,nH ws ws.length)) (fD (fun j=>((nH ws j).length,(nH ws j).length,j,nH ws j)) ws.length rfl (fun j hj=>?_) ?_) ?_))
  · have hl:=HX ws j
    have hs:=jE (ws.getD j 0)
    have hb:=qb (bi (ws.getD j 0))
    by_cases h0:j=0
    · subst h0
      have e:nH ws 1=List.take 0 (nH ws 0)++cH (bi (ws.getD 0 0)):=rfl
      refine an (a:=((nH ws 1).length,nH ws 1)) ?_ (kH rfl)
      have el:(nH ws 1).length=(nH ws 0).length+(bi (ws.getD 0 0)).size:=by rw [e,List.length_append,hb];rfl
      rw [el,e]
      simp only [oG,oL]
      refine eN (decide_eq_true (by omega)) (bA (aB (by rw [rD];omega) (aB (by rw [bC];omega) (kH (aB ?_ (aB ?_ (aB (by rw [bz];exact Nat.le_refl _) rfl)))))))
      · rw [bz];show ((nH ws 0).length+(bi (ws.getD 0 0)).size)*1≤_;omega
      · rw [bz];show (nH ws 0).length+(bi (ws.getD 0 0)).size≤_;omega
    · have hb0:Nat.blt 0 j=true:=by rw [HM];omega
      have e0:nH ws (j+1)=(nH ws j++[32])++cH (bi (ws.getD j 0)):=by rw [nH,hb0,cond_true]
      have e1:List.take (nH ws j).length (nH ws j)++List.take 1 [(32:Int)]=nH ws j++[32]:=by rw [List.take_length];rfl
      have e2:List.take ((nH ws j).length+1) (nH ws j++[(32:Int)])=nH ws j++[32]:=List.take_of_length_le (by simp)
      have el:(nH ws (j+1)).length=(nH ws j).length+1+(bi (ws.getD j 0)).size:=by rw [e0,List.length_append,hb];simp
      refine an (a:=((nH ws (j+1)).length,nH ws (j+1))) ?_ (aB (by rw [bT];omega) rfl)
      rw [el,e0]
      simp only [oG,oL,e1]
      refine eN (decide_eq_true (by omega)) (eN (decide_eq_true (by omega)) (aB (by rw [bz];omega) (aB (by rw [bz];omega) (kH (aB (by rw [bz];exact Nat.le_refl _) (aB (by rw [rD];omega) (aB (by rw [bC];omega) (kH (aB ?_ (aB ?_ (aB ?_ ?_)))))))))))
      · rw [bz];show ((nH ws j).length+1+(bi (ws.getD j 0)).size)*1≤_;omega
      · rw [bz];show (nH ws j).length+1+(bi (ws.getD j 0)).size≤_;omega
      · rw [bz];simp
      · show some (Sum.inl ((nH ws j).length+1+(bi (ws.getD j 0)).size,List.take ((nH ws j).length+1) (nH ws j++[32])++cH (bi (ws.getD j 0))))=_
        rw [e2]
  · exact cU (di (decide_eq_false (by omega)) rfl)
  · show (tP (nH ws ws.length).length (nH ws ws.length)).run=_
    refine aB (by rw [bz];exact Nat.le_refl _) ?_
    rw [List.take_length,KK]
    rfl
theorem Dk{a b:ByteArray}(h:a.data.toList=b.data.toList) :a=b:=by
  obtain ⟨a⟩:=a
  obtain ⟨b⟩:=b
  exact congrArg ByteArray.mk (Array.toList_inj.1 h)
theorem uG(a b:ByteArray) :(a.toList==b.toList)=decide (a=b):=by
  rw [Lib.toList_data,Lib.toList_data]
  by_cases h:a=b
  · rw [h,decide_eq_true rfl];simp
  · rw [decide_eq_false h,beq_eq_false_iff_ne]
    exact fun q=>h (Dk q)
theorem rU{k y t:Int}(h:dW k y t=true) :(k=1∧(y=1∨y=2∨y=3)∧t=0)∨(k=2∧y=0∧t=0)∨(k=3∧(y=1∨y=2)∧t=0)∨(k=4∧(y=1∨y=2))∨(k=5∧(y=1∨y=2))∨(k=6∧(y=1∨y=2)∧t=0):=by
  have g:∀ {a b:Bool},(bif a then b else false)=true→a=true∧b=true:=by intro a b;cases a<;>cases b<;>simp
  have m3:kD 1 ((3:Nat):Int)=1:=by decide
  have m2:kD 1 ((2:Nat):Int)=1:=by decide
  have m0:kD 1 ((0:Nat):Int)=0:=by decide
  unfold dW at h
  obtain ⟨h1,h⟩:=g h
  obtain ⟨h2,h⟩:=g h
  obtain ⟨h3,h⟩:=g h
  have h2:=of_decide_eq_true h2
  have h3:=of_decide_eq_true h3
  by_cases k1:k=1
  · subst k1
    have e:pX 1=(true,ByteArray.mk #[101,105,103,101,110],3,false,true):=rfl
    rw [e] at h h2 h3
    simp only [m3,cond_false,beq_iff_eq] at h h2 h3
    exact .inl ⟨rfl,by omega,h⟩
  by_cases k2:k=2
  · subst k2
    have e:pX 2=(true,ByteArray.mk #[118,97,108,117,101,115],0,false,true):=rfl
    rw [e] at h h2 h3
    simp only [m0,cond_false,beq_iff_eq] at h h2 h3
    exact .inr (.inl ⟨rfl,by omega,h⟩)
  by_cases k3:k=3
  · subst k3
    have e:pX 3=(true,ByteArray.mk #[115,118,100],2,false,false):=rfl
    rw [e] at h h2 h3
    simp only [m2,cond_false,beq_iff_eq] at h h2 h3
    exact .inr (.inr (.inl ⟨rfl,by omega,h⟩))
  by_cases k4:k=4
  · subst k4
    have e:pX 4=(true,ByteArray.mk #[114,97,110,107],2,true,false):=rfl
    rw [e] at h h2 h3
    simp only [m2] at h h2 h3
    exact .inr (.inr (.inr (.inl ⟨rfl,by omega⟩)))
  by_cases k5:k=5
  · subst k5
    have e:pX 5=(true,ByteArray.mk #[105,110,118,101,114,115,101],2,true,false):=rfl
    rw [e] at h h2 h3
    simp only [m2] at h h2 h3
    exact .inr (.inr (.inr (.inr (.inl ⟨rfl,by omega⟩))))
  by_cases k6:k=6
  · subst k6
    have e:pX 6=(true,ByteArray.mk #[99,111,110,100],2,false,false):=rfl
    rw [e] at h h2 h3
    simp only [m2,cond_false,beq_iff_eq] at h h2 h3
    exact .inr (.inr (.inr (.inr (.inr ⟨rfl,by omega,h⟩))))
  simp [pX,k1,k2,k3,k4,k5,k6] at h1
theorem G4(k y t:Int) :dC k y t=some (.r0 (dW k y t)):=by
  unfold dC
  have m3:kD 1 ((3:Nat):Int)=1:=by decide
  have m2:kD 1 ((2:Nat):Int)=1:=by decide
  have m0:kD 1 ((0:Nat):Int)=0:=by decide
  have b2:∀ (b:Bool),(pf b).run=some (.inr (.r0 b)):=fun _=>rfl
  by_cases k1:k=1
  · subst k1
    refine cd (an (a:=3) (cD rfl) (an (a:=dW 1 y t) ?_ rfl))
    show _=some (Sum.inl (bif decide (y≥kD 1 ((3:Nat):Int)) then bif decide (y≤((3:Nat):Int)) then t==0 else false else false))
    rw [m3]
    cases h1:decide (y≥1) with
    | false=>exact di h1 rfl
    | true =>
      refine eN h1 ?_
      cases h2:decide (y≤((3:Nat):Int)) with
      | false=>exact bA rfl
      | true =>
        refine cD ?_
        cases h3:(t==0) with
        | false=>exact bA (bA rfl)
        | true=>exact cD rfl
  by_cases k2:k=2
  · subst k2
    refine cd (cU (bA (cD ?_)))
    show _=some (Sum.inr (bp.r0 (bif decide (y≥kD 1 ((0:Nat):Int)) then bif decide (y≤((0:Nat):Int)) then t==0 else false else false)))
    rw [m0]
    by_cases hy:y=0
    · subst hy
      exact cD rfl
    · refine di (beq_eq_false_iff_ne.2 hy) ?_
      by_cases h1:y≥0
      · have : ¬ y≤((0:Nat):Int):=by omega
        rw [decide_eq_true h1,decide_eq_false this];rfl
      · rw [decide_eq_false h1];rfl
  by_cases k3:k=3
  · subst k3
    refine cd (an (a:=2) (bA (bA (cD rfl))) (an (a:=dW 3 y t) ?_ rfl))
    show _=some (Sum.inl (bif decide (y≥kD 1 ((2:Nat):Int)) then bif decide (y≤((2:Nat):Int)) then t==0 else false else false))
    rw [m2]
    cases h1:decide (y≥1) with
    | false=>exact di h1 rfl
    | true =>
      refine eN h1 ?_
      cases h2:decide (y≤((2:Nat):Int)) with
      | false=>exact bA rfl
      | true =>
        refine cD ?_
        cases h3:(t==0) with
        | false=>exact bA (bA rfl)
        | true=>exact cD rfl
  by_cases k4:k=4
  · subst k4
    refine cd (an (a:=2) (bA (bA (bA (bA (cD rfl))))) (an (a:=dW 4 y t) ?_ rfl))
    show _=some (Sum.inl (bif decide (y≥kD 1 ((2:Nat):Int)) then bif decide (y≤((2:Nat):Int)) then true else false else false))
    rw [m2]
    cases h1:decide (y≥1) with
    | false=>exact di h1 rfl
    | true =>
      refine eN h1 ?_
      cases h2:decide (y≤((2:Nat):Int)) with
      | false=>exact bA rfl
      | true =>
        refine cD ?_
        cases h3:(t==0) with
        | false=>exact bA (cD rfl)
        | true=>exact cD rfl
  by_cases k5:k=5
  · subst k5
    refine cd (an (a:=2) (bA (bA (bA (bA (bA (cD rfl)))))) (an (a:=dW 5 y t) ?_ rfl))
    show _=some (Sum.inl (bif decide (y≥kD 1 ((2:Nat):Int)) then bif decide (y≤((2:Nat):Int)) then true else false else false))
    rw [m2]
    cases h1:decide (y≥1) with
    | false=>exact di h1 rfl
    | true =>
      refine eN h1 ?_
      cases h2:decide (y≤((2:Nat):Int)) with
      | false=>exact bA rfl
      | true =>
        refine cD ?_
        cases h3:(t==0) with
        | false=>exact bA (bA rfl)
        | true=>exact cD rfl
  by_cases k6:k=6
  · subst k6
    refine cd (an (a:=2) (bA (bA (bA (cD rfl)))) (an (a:=dW 6 y t) ?_ rfl))
    show _=some (Sum.inl (bif decide (y≥kD 1 ((2:Nat):Int)) then bif decide (y≤((2:Nat):Int)) then t==0 else false else false))
    rw [m2]
    cases h1:decide (y≥1) with
    | false=>exact di h1 rfl
    | true =>
      refine eN h1 ?_
      cases h2:decide (y≤((2:Nat):Int)) with
      | false=>exact bA rfl
      | true =>
        refine cD ?_
        cases h3:(t==0) with
        | false=>exact bA (bA rfl)
        | true=>exact cD rfl
  have q:∀ j:Int,¬ k=j→(k==j)=false:=fun j h=>beq_eq_false_iff_ne.2 h
  have e:dW k y t=false:=by
    cases h:dW k y t with
    | false=>rfl
    | true =>
      have:=rU h
      omega
  rw [e]
  exact cd (cU (di (q _ k1) (di (q _ k2) (di (q _ k3) (di (q _ k6) (di (q _ k4) (di (q _ k5) rfl)))))))
theorem G5{k y t:Int}(h:dW k y t=true) :eC k y t=some (.r0 (mq k y t)):=by
  have e2:(ByteArray.mk #[32]).size=1:=rfl
  have h1:=em y
  have h2:=jE t
  have asc:∀ a b c:ByteArray,a++b++c=a++(b++c):=fun a b c=>ByteArray.append_assoc
  have hy:jQ .i64 y=true:=by
    have:=rU h
    rw [bT];omega
  have hT:=oL t
  unfold eC
  have gen:∀ (w:ByteArray),w.size≤7→(oC k).run=some (.inl w)→k≠2→(mq k y t=bif (k==4||k==5) then (w++(Em++cg y))++(Em++bi t) else w++(Em++cg y))→uu (aQ ((oC k).run) fun s1=>aQ ((oD k y s1).run) fun s2=>aQ ((oE k).run) fun b3=>aQ ((oF t s2 b3).run) fun s4=>(rS s4).run)=some (.r0 (mq k y t)):=by
    intro w hw h6 hk hl
    have h7:(oD k y w).run=some (.inl (w++(Em++cg y))):=by
      rw [←asc]
      refine eN (bne_iff_ne.2 hk) (aB ?_ (aB hy (aB ?_ rfl)))
      all_goals simp only [ByteArray.size_append,e2,decide_eq_true_eq];omega
    have h8:(oE k).run=some (.inl (k==4||k==5)):=by
      cases h4:(k==4) with
      | true=>exact eN h4 rfl
      | false=>exact di h4 rfl
    refine cd (an h6 (an h7 (an h8 (an (a:=mq k y t) ?_ rfl))))
    rw [hl]
    cases (k==4||k==5) with
    | false=>exact bA rfl
    | true =>
      simp only [oF,hT]
      have e3:Em.size=1:=rfl
      refine cD (aB ?_ (kH (aB ?_ ?_)))
      · simp only [ByteArray.size_append,e2,e3,decide_eq_true_eq];omega
      · show decide ((w++(Em++cg y)++ByteArray.mk #[32]).size+(bi t).size≤_)=true
        simp only [ByteArray.size_append,e2,e3,decide_eq_true_eq];omega
      · show some (Sum.inl (w++(Em++cg y)++Em++bi t))=_
        rw [asc (w++(Em++cg y))]
        rfl
  rcases rU h with ⟨rfl,hh,rfl⟩ | ⟨rfl,rfl,rfl⟩ | ⟨rfl,hh,rfl⟩ | ⟨rfl,hh⟩ | ⟨rfl,hh⟩ | ⟨rfl,hh,rfl⟩
  · exact gen (ByteArray.mk #[101,105,103,101,110]) (by decide) rfl (by decide) rfl
  · exact cd (an (a:=ByteArray.mk #[118,97,108,117,101,115]) rfl (an (a:=ByteArray.mk #[118,97,108,117,101,115]) (bA rfl) (an (a:=false) (bA rfl) (an (a:=ByteArray.mk #[118,97,108,117,101,115]) (bA rfl) rfl))))
  · exact gen (ByteArray.mk #[115,118,100]) (by decide) rfl (by decide) rfl
  · exact gen (ByteArray.mk #[114,97,110,107]) (by decide) rfl (by decide) rfl
  · exact gen (ByteArray.mk #[105,110,118,101,114,115,101]) (by decide) rfl (by decide) rfl
  · exact gen (ByteArray.mk #[99,111,110,100]) (by decide) rfl (by decide) rfl
def Ig:List ByteArray:=[ByteArray.empty,ByteArray.mk #[101,105,103,101,110],ByteArray.mk #[118,97,108,117,101,115],ByteArray.mk #[115,118,100],ByteArray.mk #[114,97,110,107],ByteArray.mk #[105,110,118,101,114,115,101],ByteArray.mk #[99,111,110,100]]
end Go.Plb.Seat
namespace Go.Plb
set_option linter.unusedSimpArgs false
set_option linter.unusedVariables false
set_option linter.unusedSectionVars false
variable [Rom]
def ae.less(ρ:ae)(L:Nat→Prop) :ae:={ ρ with live:=fun bl=>ρ.live bl∧¬ L bl }
theorem ae.less_less(ρ:ae)(L:Nat→Prop) :Gt ρ (ρ.less L):=⟨rfl,fun _ h=>h.1⟩
theorem zA{ρ:ae}{L:Nat→Prop}{w:World}{v:AV}{u:Value}(h:VR ρ w v u) :VR (ρ.less L) w v u:=by
  induction h using VR.rec (motive_2:=fun l c _=>bL (ρ.less L) w l c) with
  | int k n=>exact .int k n
  | bool kn b=>exact .bool kn b
  | flt ex x y h=>exact .flt ex x y h
  | str s=>exact .str s
  | nptr=>exact .nptr
  | ptr b k i j hb=>exact VR.ptr (ρ:=ρ.less L) b k i j hb
  | iptr bw d k i j bl o u ha hb hc hv hr hk hg ih=>exact .iptr bw d k i j bl o u ((ρ.less_less L).avoid ha) hb hc ih hr hk hg
  | nsl=>exact .nsl
  | esl a=>exact .esl a
  | zsl a c=>exact .zsl a c
  | nan n h=>exact .nan n h
  | sl b k es i len cap cap' hb hcap hl c t hh hs=>exact VR.sl (ρ:=ρ.less L) b k es i len cap cap' hb hcap hl c t hh hs
  | slEnd b k es i a=>exact .slEnd b k es i a
  | imm bw d k es i len cap bl o u ha hb hc hv hl hr hk hg ih=>exact .imm bw d k es i len cap bl o u ((ρ.less_less L).avoid ha) hb hc ih hl hr hk hg
  | immEnd bw d k es i cap a hr hk hg=>exact .immEnd bw d k es i cap a hr hk hg
  | fn f l1 l2 c1 c2 h1 h2 i1 i2=>exact .fn f l1 l2 c1 c2 i1 i2
  | nfn=>exact .nfn
  | gmap ks vs bl es cl u ha hb hh hin hex hv hl hk ih=>exact .gmap ks vs bl es cl u ((ρ.less_less L).avoid ha) hb hh hin hex ih hl hk
  | gvar c bl t fr ha hb hh=>exact .gvar c bl t fr ((ρ.less_less L).avoid ha) hb hh
  | agg l c h ih=>exact .agg l c ih
  | tup l c h ih=>exact .tup l c ih
  | iface t v u h ih=>exact .iface t v u ih
  | niface=>exact .niface
  | any u=>exact .any u
  | nil=>exact bL.nil
  | cons v u l c h t i1 i2=>exact bL.cons v u l c i1 i2
theorem FQ{ρ:ae}{L:Nat→Prop}{w:World} :∀ {l:List AV} {c:List Value},bL ρ w l c→bL (ρ.less L) w l c
  | _,_,.nil=>.nil
  | _,_,.cons v u l c h t=>.cons v u l c (zA h) (FQ t)
theorem KL{ρ:ae}{L:Nat→Prop}{w:World}{h:aN}{n:Nat}(hh:HR ρ w h n)(hL:∀ b d,ax h b=some d→ρ.ok b→¬ L (ρ.at_ b)) :HR (ρ.less L) w h n:=by
  refine ⟨fun b d hb=>?_,hh.inj,fun bl q j=>hh.fresh bl q.1 j,fun bl q=>hh.liveLt bl q.1,hh.outLt,hh.lt,fun x hx=>zA (hh.rom x hx)⟩
  rcases hh.cell b d hb with ⟨k1,k2,hr,c,t,r1,r2⟩ | q
  · exact .inl ⟨k1,⟨k2,hL b d hb k1⟩,hr,c,t,r1,fun x v hx=>(r2 x v hx).imp fun u g=>⟨g.1,zA g.2⟩⟩
  · exact .inr q
def aj.plain:aj→Bool
  | .fl _ | .ns .. | .bs _ | .ss _ | .cols ..=>true
  | _=>false
theorem G6{d:aj}(h:d.plain=true) :d.kept=true:=by cases d<;>first | rfl | cases h
def G7(st:az)(b i x:Nat) :az :=
  match ax st.heap b with
  | some (.vs l)=>match l[i]? with
    | some (.sl y w es j n c)=>match ax st.heap x with
      | some d=>bif Nat.beq y x&&(!Nat.beq b x&&d.plain) then ⟨st.tmps,cM (lV st.heap x) b (.vs (l.set i (.imm .free d w es j n))),st.next⟩ else st
      | none=>st
    | _=>st
  | _=>st
theorem Ke{st:az}{b i x:Nat} :Gu [] st (G7 st b i x):=by
  intro ρ0 w0 a w hN hA
  unfold G7
  split
  case h_2=>exact hA
  rename_i l hl
  split
  case h_2=>exact hA
  rename_i y wd es j n c hi
  split
  case h_2=>exact hA
  rename_i d hd
  cases hc:(Nat.beq y x&&(!Nat.beq b x&&d.plain)) with
  | false=>exact hA
  | true =>
  simp only [cond_true]
  simp only [Bool.and_eq_true,Bool.not_eq_true'] at hc
  obtain ⟨e1,e2,hp⟩:=hc
  have e1:=Nat.eq_of_beq_eq_true e1
  subst e1
  have hne:b≠y:=fun q=>by subst q;rw [jS] at e2;cases e2
  obtain ⟨ρ,E,W,S,hbk,hle⟩:=hA
  have hh:=S.heap
  have hk:=G6 hp

  have key:∃ L:Nat→Prop,(∀ z e,z≠y→ax st.heap z=some e→ρ.ok z→¬ L (ρ.at_ z))∧(∀ bl,ρ0.live bl→¬ L bl)∧(ρ.ok y→L (ρ.at_ y)):=by
    by_cases ok:ρ.ok y
    · refine ⟨fun bl=>bl=ρ.at_ y,fun z e hz he hz2 q=>hz (hh.inj z y e d he hd hz2 ok q),fun bl q=>?_,fun _=>rfl⟩
      obtain ⟨k,k1,_⟩:=hN.only bl q
      exact absurd (hN.heap.lt k k1) (Nat.not_lt_zero _)
    · exact ⟨fun _=>False,fun _ _ _ _ _ q=>q,fun _ _ q=>q,fun q=>ok q⟩
  obtain ⟨L,L1,L2,L3⟩:=key
  have hget':∀ z e,ax (lV st.heap y) z=some e→z≠y∧ax st.heap z=some e:=by
    intro z e hz
    rw [eW] at hz
    split at hz
    · cases hz
    · rename_i q;exact ⟨fun r=>q r.symm,hz⟩
  have h1:HR (ρ.less L) w (lV st.heap y) st.next:=KL (hh.del y) fun z e hz ok=>by
    obtain ⟨q1,q2⟩:=hget' z e hz
    exact L1 z e q1 q2 ok
  have hb1:ax (lV st.heap y) b=some (.vs l):=by
    rw [eW,if_neg (fun q=>hne q.symm)];exact hl
  have hv:∀ u,VR ρ w (.sl y wd es j n c) u→VR (ρ.less L) w (.imm .free d wd es j n) u:=by
    intro u hu
    cases hu with
    | sl _ _ _ _ _ _ cap' hb hcap hl' c' t hh' hs =>
      obtain ⟨hlv,hrk,cc,t2,hcc,hcv⟩:=hh.real hd hb
      have:=VR.imm (ρ:=ρ.less L) (w:=w) .free d wd es j n cap' (ρ.at_ y) 0 (fun z=>(cc[z]?).getD undef) (fun k _=>by
          cases k with
          | zero=>exact fun q=>q.2 (L3 hb)
          | succ k=>exact hh.fresh _ hlv k) (hh.liveLt _ hlv)
        (fun z v hz=>by
          obtain ⟨u,q1,q2⟩:=hcv z v hz
          simp [World.cell?,hcc,q1]) (fun z v hz=>by
          obtain ⟨u,q1,q2⟩:=hcv z v hz
          simp only [q1,Option.getD_some]
          exact zA q2) (by omega) hrk (fun _=>hk) (js hk)
      simpa using this
    | slEnd=>exact .immEnd _ _ _ _ _ _ _ (hh.rk hd) (fun _=>hk) (js hk)
  refine ⟨ρ.less L,⟨E.at_,E.ok,fun bl q=>⟨E.live bl q,L2 bl q⟩,fun bl q r=>E.new bl q r.1,E.out⟩,W,⟨S.defers,FQ S.tmps,?_⟩,hbk,hle⟩
  have look:∀ z e,ax (cM (lV st.heap y) b (.vs (l.set i (.imm .free d wd es j n)))) z=some e→(z=b∧e=.vs (l.set i (.imm .free d wd es j n)))∨(z≠b∧z≠y∧ax st.heap z=some e):=by
    intro z e hz
    rw [bD] at hz
    by_cases q:b=z
    · rw [if_pos q] at hz;cases hz;exact .inl ⟨q.symm,rfl⟩
    · rw [if_neg q] at hz;exact .inr ⟨fun r=>q r.symm,hget' z e hz⟩
  have had:∀ z e,ax (cM (lV st.heap y) b (.vs (l.set i (.imm .free d wd es j n)))) z=some e→∃ e',ax (lV st.heap y) z=some e':=by
    intro z e hz
    rw [bD] at hz
    by_cases q:b=z
    · subst q;exact ⟨_,hb1⟩
    · rw [if_neg q] at hz;exact ⟨e,hz⟩
  refine ⟨fun z e hz=>?_,fun z z' e e' hz hz' ok ok' he=>?_,h1.fresh,h1.liveLt,h1.outLt,h1.lt,h1.rom⟩
  · rcases look z e hz with ⟨rfl,rfl⟩ | ⟨q1,q2,q3⟩
    · rcases h1.cell z _ hb1 with ⟨k1,k2,_,cc,t,r1,r2⟩ | ⟨k1,k2,_,k4⟩
      · refine .inl ⟨k1,k2,trivial,cc,t,r1,fun m v hm=>?_⟩
        simp only [aj.cell?,List.getElem?_set] at hm
        by_cases hq:i=m
        · subst hq
          rw [if_pos rfl] at hm
          split at hm
          · cases hm
            rcases hh.cell z _ hl with ⟨_,_,_,c3,t3,s1,s2⟩ | ⟨g1,_⟩
            · have ec:c3=cc:=by
                have r1':w.heap[ρ.at_ z]? = some (.cells cc t (0,0)):=r1
                rw [s1] at r1';cases r1';rfl
              subst ec
              obtain ⟨u,t1,t2⟩:=s2 i _ hi
              exact ⟨u,t1,hv u t2⟩
            · exact absurd k1 g1
          · cases hm
        · rw [if_neg hq] at hm
          exact r2 m v hm
      · refine .inr ⟨k1,k2,trivial,fun m=>?_⟩
        have:=k4 i
        simp only [aj.cell?] at this
        rw [hi] at this
        cases this
    · exact h1.cell z e (by rw [eW,if_neg (fun q=>q2 q.symm)];exact q3)
  · obtain ⟨f,hf⟩:=had z e hz
    obtain ⟨f',hf'⟩:=had z' e' hz'
    exact h1.inj z z' f f' hf hf' ok ok' he
theorem Sg.sub{P:Program}{α X:Type}{N:α→az}{E:X→AE×az}{m:Option (α⊕X)}{cs:List Code}{st st1:az}(hs:Gu [] st st1)(h:Sg P [] cs st1 m N E) :Sg P [] cs st m N E :=
  fun r hr=>dm.weak hs (h r hr)
end Go.Plb
