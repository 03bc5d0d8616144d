/-
  Part 3 of what the claim leans on: an evaluator of the model, proved sound; the contracts of the functions.
-/
import Derived.Lib.OthersKept
import Derived.Lib.Hide
import Derived.Lib.Strings
import Derived.Laws.RangeAny
import Derived.WalkKit
import Derived.WalkSpells
import Derived.Lib.AtoiAllCases
import Derived.Lib.AtoiErrMem
import Derived.RangeFuncBox
import Derived.RangeFuncLeaves
import Derived.RangeFuncNested
import Derived.Shelf.Abstract
import Derived.Shelf.RegionOpen
import Derived.OwnWalkIn
import Derived.TacticsInMore
import Derived.LoopNIn
import Derived.LoopIn
import Derived.RegionIn
import Derived.Stop.RegionWithIn
import Derived.Lib.Bytealg
import Derived.Test.YtacdcghekbbjiaaDoorA2
namespace Go.Plb
set_option linter.unusedSimpArgs false
set_option linter.unusedVariables false
set_option linter.unusedSectionVars false
variable [Rom]
inductive T (α:Type) where
  | fail
  | leaf (a:α)
  | ask (b:Bool) (t f:T α)
  | need (b:Bool) (t:T α)
  | alt (k:Nat) (t e:T α)
def T.run{α:Type} :T α→Option α
  | .fail=>none
  | .leaf a=>some a
  | .ask b t f=>bif b then t.run else f.run
  | .need b t=>bif b then t.run else none
  | .alt _ t e=>match t.run with
    | some a=>some a
    | none=>e.run
structure kW (α:Type) where
  path:List Nat
  obs:List Bool
  val:α
def kW.ask{α:Type}(n:Nat)(b:Bool)(l:kW α) :kW α:=⟨n::l.path,b::l.obs,l.val⟩
def kW.need{α:Type}(b:Bool)(l:kW α) :kW α:=⟨l.path,b::l.obs,l.val⟩
def kW.alt{α:Type}(n:Nat)(l:kW α) :kW α:=⟨n::l.path,l.obs,l.val⟩
def T.leaves{α:Type} :T α→List (kW α)
  | .fail=>[]
  | .leaf a=>[⟨[],[],a⟩]
  | .ask b t f=>t.leaves.map (kW.ask 1 (b==true))++f.leaves.map (kW.ask 0 (b==false))
  | .need b t=>t.leaves.map (kW.need b)
  | .alt k t e=>t.leaves.map (kW.alt k)++e.leaves
theorem eD{α:Type} :∀ (t:T α) {a:α},t.run=some a→∃ l∈t.leaves,l.val=a∧ac l.obs
  | .fail,a,h=>by cases h
  | .leaf b,a,h=>by
    simp only [T.run,Option.some.injEq] at h;subst h
    exact ⟨⟨[],[],b⟩,by simp [T.leaves],rfl,trivial⟩
  | .ask b t f,a,h=>by
    simp only [T.run] at h
    cases b with
    | true =>
      simp only [cond_true] at h
      obtain ⟨l,h1,h2,h3⟩:=eD t h
      exact ⟨l.ask 1 (true==true),by simp only [T.leaves,List.mem_append];exact .inl (List.mem_map_of_mem h1),h2,⟨rfl,h3⟩⟩
    | false =>
      simp only [cond_false] at h
      obtain ⟨l,h1,h2,h3⟩:=eD f h
      exact ⟨l.ask 0 (false==false),by simp only [T.leaves,List.mem_append];exact .inr (List.mem_map_of_mem h1),h2,⟨rfl,h3⟩⟩
  | .need b t,a,h=>by
    simp only [T.run] at h
    cases b with
    | true =>
      simp only [cond_true] at h
      obtain ⟨l,h1,h2,h3⟩:=eD t h
      exact ⟨l.need true,by simp only [T.leaves];exact List.mem_map_of_mem h1,h2,⟨rfl,h3⟩⟩
    | false=>cases h
  | .alt k t e,a,h=>by
    simp only [T.run] at h
    split at h
    · rename_i a' ht
      cases h
      obtain ⟨l,h1,h2,h3⟩:=eD t ht
      exact ⟨l.alt k,by simp only [T.leaves,List.mem_append];exact .inl (List.mem_map_of_mem h1),h2,h3⟩
    · obtain ⟨l,h1,h2,h3⟩:=eD e h
      exact ⟨l,by simp only [T.leaves,List.mem_append];exact .inr h1,h2,h3⟩
def j9{α X:Type}(N:α→ax)(E:X→AE×ax) :α⊕X→AE×ax
  | .inl a=>(.normal,N a)
  | .inr x=>E x
def Sg{α X:Type}(P:Program)(lent:List ae)(cs:List Code)(st:ax)(m:Option (α⊕X))(N:α→ax)(E:X→AE×ax) :Prop :=
  ∀ r,m=some r→bT P lent cs st fun e st'=>(e,st')=j9 N E r
def AO{α X:Type}(C:mi)(S:m6)(n:Nat)(cs:List Code)(st:ax)(ls:List (kW (α⊕X)))(ks:List NS)(k:Nat) :List (Bool×Option (AE×ax×List Bool)) :=
  List.zipWith (fun l s=>(s.ok k,Ak s (y8 (gO C S 12 n) cs st (some l.path)))) ls ks
def yy{α X:Type}(N:α→ax)(E:X→AE×ax)(ls:List (kW (α⊕X))) :List (Bool×Option (AE×ax×List Bool)) :=
  ls.map fun l=>(true,some ((j9 N E l.val).1,(j9 N E l.val).2,l.obs))
theorem yz{α β γ:Type}{f:α→β→γ}{g:α→γ} :∀ {l:List α} {k:List β},List.zipWith f l k=l.map g→∀ a∈l,∃ b,f a b=g a
  | [],_,_,a,ha=>by cases ha
  | x::l,[],h,a,ha=>by simp at h
  | x::l,y::k,h,a,ha=>by
    simp only [List.zipWith_cons_cons,List.map_cons,List.cons.injEq] at h
    rcases List.mem_cons.1 ha with rfl | ha
    · exact ⟨y,h.1⟩
    · exact yz h.2 a ha
theorem Sg.seg{C:mi}(hC:C.Ok){S:m6}(hS:aX C.P S){lent:List ae}{α X:Type}(n:Nat)(cs:List Code)(st:ax)(t:T (α⊕X))(N:α→ax)(E:X→AE×ax)(ks:List NS) 
    (h:AO C S n cs st t.leaves ks lent.length=yy N E t.leaves):Sg C.P lent cs st t.run N E:=by
  intro r hr
  obtain ⟨l,h1,h2,h3⟩:=eD t hr
  obtain ⟨k,hk⟩:=yz h l h1
  simp only [Prod.mk.injEq] at hk
  obtain ⟨hn,he⟩:=hk
  have:=bT.seg hC hS (lent:=lent) (Q:=fun e st'=>(e,st')=j9 N E r) cs.length (some l.path) k (cs:=cs) (st:=st) (by rw [List.take_length];exact he) hn h3
  refine this ?_
  rw [h2,List.drop_length]
  generalize hg:j9 N E r=x
  obtain ⟨e,s⟩:=x
  cases e with
  | normal=>exact bT.nil rfl
  | ret=>rfl
  | exit id=>rfl
theorem bT.append{P:Program}{lent:List ae}{cs1 cs2:List Code}{st:ax}{Q1 Q:AE→ax→Prop}(h:bT P lent cs1 st Q1)(k:∀ e st',Q1 e st'→sm P lent cs2 e st' Q) :bT P lent (cs1++cs2) st Q:=by
  intro ρ0 w0 hN K hK a w hA
  apply mo
  refine h ρ0 w0 hN _ ?_ a w hA
  intro e st' a' w' q hA'
  have:=k e st' q
  cases e with
  | normal=>exact this ρ0 w0 hN K hK a' w' hA'
  | ret=>exact hK _ _ _ _ this hA'
  | exit id=>exact hK _ _ _ _ this hA'
def r7{X:Type}(E:X→AE×ax) :Prop:=∀ x,(E x).1 ≠ .normal
theorem yA{P:Program}{lent:List ae}{cs:List Code}{e:AE}{st:ax}{Q:AE→ax→Prop}(hn:e ≠ .normal)(h:Q e st) :sm P lent cs e st Q:=by
  cases e with
  | normal=>exact (hn rfl).elim
  | ret=>exact h
  | exit id=>exact h
def cF{α β X:Type}(m:Option (α⊕X))(k:α→Option (β⊕X)) :Option (β⊕X) :=
  match m with
  | none=>none
  | some (.inl a)=>k a
  | some (.inr x)=>some (.inr x)
theorem Sg.seq{P:Program}{lent:List ae}{α β X:Type}{cs1 cs2:List Code}{st:ax}{m:Option (α⊕X)}{N1:α→ax}{E:X→AE×ax}{k:α→Option (β⊕X)}{N:β→ax}(hE:r7 E) 
    (h:Sg P lent cs1 st m N1 E) (hk:∀ a,Sg P lent cs2 (N1 a) (k a) N E):Sg P lent (cs1++cs2) st (cF m k) N E:=by
  intro r hr
  unfold cF at hr
  split at hr
  · cases hr
  · rename_i a
    refine bT.append (h _ rfl) ?_
    intro e st' q
    simp only [j9,Prod.mk.injEq] at q
    obtain ⟨rfl,rfl⟩:=q
    exact hk a r hr
  · rename_i x
    simp only [Option.some.injEq] at hr;subst hr
    refine bT.append (h _ rfl) ?_
    intro e st' q
    simp only [j9] at q
    refine yA ?_ q
    have:=hE x
    rw [←q] at this;exact this
def jD{σ Y:Type}(B:σ→Option (σ⊕Y)) :Nat→σ→Option Y
  | 0,_=>none
  | n+1,s=>match B s with
    | none=>none
    | some (.inl s')=>jD B n s'
    | some (.inr y)=>some y
theorem mr{σ Y:Type}{B:σ→Option (σ⊕Y)} :∀ (n:Nat) {s:σ} {y:Y},jD B n s=some y→∀ m,n≤m→jD B m s=some y
  | 0,s,y,h,_,_=>by cases h
  | n+1,s,y,h,m,hm=>by
    obtain ⟨m',rfl⟩:∃ m',m=m'+1:=⟨m-1,by omega⟩
    simp only [jD] at h ⊢
    split at h
    · cases h
    · exact mr n h m' (by omega)
    · exact h
open Classical in
noncomputable def cm {σ Y : Type} (B : σ → Option (σ ⊕ Y)) (s : σ) : Option Y :=
  if h : ∃ n y, jD B n s = some y then some h.choose_spec.choose else none
theorem kT{σ Y:Type}{B:σ→Option (σ⊕Y)}{s:σ}{y:Y} :cm B s=some y↔∃ n,jD B n s=some y:=by
  unfold cm
  constructor
  · intro h
    split at h
    · rename_i q
      simp only [Option.some.injEq] at h
      exact ⟨q.choose,by rw [←h];exact q.choose_spec.choose_spec⟩
    · cases h
  · rintro ⟨n,h⟩
    rw [dif_pos ⟨n,y,h⟩]
    generalize hq:(⟨n,y,h⟩:∃ n y,jD B n s=some y)=q
    have h1:=q.choose_spec.choose_spec
    have a1:=mr n h (max n q.choose) (by omega)
    have a2:=mr _ h1 (max n q.choose) (by omega)
    rw [a1] at a2
    exact a2.symm
theorem wo{σ Y:Type}(B:σ→Option (σ⊕Y))(s:σ) :cm B s=match B s with
    | none=>none
    | some (.inl s')=>cm B s'
    | some (.inr y)=>some y:=by
  have key:∀ y,cm B s=some y↔(match B s with | none=>none | some (.inl s')=>cm B s' | some (.inr y)=>some y)=some y:=by
    intro y
    rw [kT]
    constructor
    · rintro ⟨n,h⟩
      cases n with
      | zero=>cases h
      | succ n =>
        simp only [jD] at h
        cases q:B s with
        | none=>rw [q] at h;cases h
        | some z=>cases z with
          | inl s'=>rw [q] at h;exact kT.2 ⟨n,h⟩
          | inr z=>rw [q] at h;exact h
    · intro h
      split at h<;>rename_i q
      · cases h
      · obtain ⟨n,hn⟩:=kT.1 h
        exact ⟨n+1,by simp only [jD,q];exact hn⟩
      · exact ⟨1,by simp only [jD,q];exact h⟩
  generalize (match B s with | none=>none | some (.inl s')=>cm B s' | some (.inr y)=>some y)=x at key
  cases hl:cm B s with
  | none=>cases x with
    | none=>rfl
    | some y=>rw [(key y).2 rfl] at hl;cases hl
  | some y=>rw [hl] at key;exact ((key y).1 rfl).symm
theorem wq{σ Y:Type}{B:σ→Option (σ⊕Y)}{s s':σ}(h:B s=some (.inl s')) :cm B s=cm B s':=by rw [wo,h]
theorem tK{σ Y:Type}{B:σ→Option (σ⊕Y)}{s:σ}{y:Y}(h:B s=some (.inr y)) :cm B s=some y:=by rw [wo,h]
theorem zh{σ Y:Type}{B:σ→Option (σ⊕Y)}(G:σ→Prop)(m:σ→Nat)(Q:Y→Prop)(h:∀ s,G s→(∃ s',B s=some (.inl s')∧G s'∧m s'<m s)∨∃ y,B s=some (.inr y)∧Q y) :
    ∀ s,G s→∃ y,cm B s=some y∧Q y:=by
  have key:∀ n s,m s<n→G s→∃ y,cm B s=some y∧Q y:=by
    intro n
    induction n with
    | zero=>intro s q;omega
    | succ n ih =>
      intro s q hs
      rcases h s hs with ⟨s',h1,h2,h3⟩ | ⟨y,h1,h2⟩
      · obtain ⟨y,k1,k2⟩:=ih s' (by omega) h2
        exact ⟨y,by rw [wq h1];exact k1,k2⟩
      · exact ⟨y,tK h1,h2⟩
  exact fun s hs=>key _ s (Nat.lt_succ_self _) hs
def fi{ρ X:Type}(id:Nat)(J:ρ→ax)(E:X→AE×ax) :ρ⊕X→AE×ax
  | .inl r=>(.exit id,J r)
  | .inr x=>E x
def pg{X:Type}(id:Nat)(E:X→AE×ax) :Prop:=∀ x,(E x).1 ≠ .exit id
theorem Sg.loop{P:Program}{lent:List ae}{σ ρ X:Type}{I:σ→ax}{J:ρ→ax}{E:X→AE×ax}{B:σ→Option (σ⊕(ρ⊕X))}{id:Nat}{b:Code}(hE:r7 E)(hI:pg id E) 
    (hb:∀ s,Sg P lent (c8 b) (I s) (B s) I (fi id J E)) (s:σ):Sg P lent [.block id (.loop b)] (I s) (cm B s) J E:=by
  intro y hy
  obtain ⟨n,hn⟩:=kT.1 hy

  have:=bT.loop (P:=P) (lent:=lent) (id:=id) (b:=b) (rest:=[]) (Q:=fun e st'=>(e,st')=j9 J E y) (σ:=Nat×σ) (fun s=>I s.2) (fun s=>jD B s.1 s.2=some y) (fun s=>s.1) rfl (fun s hs=>?_) (n,s) hn
  · exact this
  · obtain ⟨n,s⟩:=s
    simp only at hs ⊢
    cases n with
    | zero=>cases hs
    | succ n =>
      simp only [jD] at hs
      split at hs
      · cases hs
      · rename_i s' hB
        refine (hb s _ hB).mono ?_
        intro e st' q
        simp only [j9,Prod.mk.injEq] at q
        obtain ⟨rfl,rfl⟩:=q
        exact ⟨(n,s'),hs,by simp,rfl⟩
      · rename_i y' hB
        simp only [Option.some.injEq] at hs;subst hs
        refine (hb s _ hB).mono ?_
        intro e st' q
        cases y' with
        | inl r =>
          simp only [j9,fi,Prod.mk.injEq] at q
          obtain ⟨rfl,rfl⟩:=q
          simp only [m8,if_true]
          exact bT.nil rfl
        | inr x =>
          simp only [j9,fi] at q
          have h1:=hE x
          have h2:=hI x
          rw [←q] at h1 h2
          simp only at h1 h2
          cases e with
          | normal=>exact (h1 rfl).elim
          | ret=>exact q
          | exit j =>
            have hj : ¬ j=id:=fun h=>h2 (by rw [h])
            simp only [m8,hj,if_false]
            exact q
def tL{κ X:Type}(m:Option (κ⊕(κ⊕X))) :Option (κ⊕X) :=
  match m with
  | none=>none
  | some (.inl a)=>some (.inl a)
  | some (.inr (.inl a))=>some (.inl a)
  | some (.inr (.inr x))=>some (.inr x)
theorem Sg.block{P:Program}{lent:List ae}{κ X:Type}{K:κ→ax}{E:X→AE×ax}{m:Option (κ⊕(κ⊕X))}{id:Nat}{b:Code}{st:ax}(hE:r7 E)(hI:pg id E) 
    (hb:Sg P lent (c8 b) st m K (fi id K E)):Sg P lent [.block id b] st (tL m) K E:=by
  intro r hr
  unfold tL at hr
  refine bT.block (rest:=[]) rfl ?_
  split at hr
  · cases hr
  · simp only [Option.some.injEq] at hr;subst hr
    refine (hb _ rfl).mono ?_
    intro e st' q
    simp only [j9,Prod.mk.injEq] at q
    obtain ⟨rfl,rfl⟩:=q
    exact bT.nil rfl
  · simp only [Option.some.injEq] at hr;subst hr
    refine (hb _ rfl).mono ?_
    intro e st' q
    simp only [j9,fi,Prod.mk.injEq] at q
    obtain ⟨rfl,rfl⟩:=q
    simp only [if_true]
    exact bT.nil rfl
  · rename_i x
    simp only [Option.some.injEq] at hr;subst hr
    refine (hb _ rfl).mono ?_
    intro e st' q
    simp only [j9,fi] at q
    have h1:=hE x
    have h2:=hI x
    rw [←q] at h1 h2
    simp only at h1 h2
    cases e with
    | normal=>exact (h1 rfl).elim
    | ret=>exact q
    | exit j =>
      have hj : ¬ j=id:=fun h=>h2 (by rw [h])
      simp only [hj,if_false]
      exact q
theorem Sg.scope{P:Program}{lent:List ae}{α X:Type}{N:α→ax}{E:X→AE×ax}{m:Option (α⊕X)}{b:Code}{st:ax}(hE:r7 E)(hb:Sg P lent (c8 b) st m N E) :Sg P lent [.scope b] st m N E:=by
  intro r hr
  refine bT.scope (rest:=[]) rfl ((hb r hr).mono ?_)
  intro e st' q
  cases r with
  | inl a =>
    simp only [j9,Prod.mk.injEq] at q
    obtain ⟨rfl,rfl⟩:=q
    exact bT.nil rfl
  | inr x =>
    refine yA ?_ q
    have:=hE x
    simp only [j9] at q
    rw [←q] at this;exact this
theorem wt{k:Nat}{ρ0:aa}{w0:World}{st:ax}{a:Act}{w:World}{c:Operand}{b kn:Bool}(h:At k ρ0 w0 st a w)(hc:Bd st.tmps c=.bool kn b) :At k ρ0 w0 { st with tmps:=gi st.tmps c b } a w∧a.eval c=.bool b:=by
  obtain ⟨ρ,E,W,hs,hbk,hle⟩:=h
  have hb:a.eval c=.bool b:=by
    have:=pY hs.heap.rom hs.tmps c
    rw [hc] at this
    generalize a.eval c=z at this
    cases this;rfl
  refine ⟨⟨ρ,E,W,⟨hs.defers,?_,hs.heap⟩,hbk,hle⟩,hb⟩
  cases c with
  | tmp t =>
    simp only [gi]
    have:aV ρ w (st.tmps.set t (.bool true b)) (a.tmps.toList.set t (.bool b)):=hs.tmps.set (.bool _ _) t
    have e:a.tmps.toList.set t (.bool b)=a.tmps.toList:=by
      apply List.ext_getElem?
      intro j
      rw [List.getElem?_set]
      split
      · rename_i q;subst q
        split
        · rename_i hlt
          simp only [Act.eval] at hb
          rw [Array.getD_eq_getD_getElem?] at hb
          have hlt':t<a.tmps.size:=by simpa using hlt
          rw [Array.getElem?_eq_getElem hlt'] at hb
          simp only [Option.getD_some] at hb
          simp [hlt',hb]
        · rename_i hge
          rw [List.getElem?_eq_none (by omega)]
      · rfl
    rw [e] at this;exact this
  | const v=>exact hs.tmps
  | global g=>exact hs.tmps
  | func f=>exact hs.tmps
theorem Sg.cond{P:Program}{lent:List ae}{α X:Type}{N:α→ax}{E:X→AE×ax}{m1 m2:Option (α⊕X)}{c:Operand}{A B:Code}{st:ax}{kn b:Bool}(hE:r7 E)(hc:Bd st.tmps c=.bool kn b) 
    (h1:Sg P lent (c8 A) { st with tmps:=gi st.tmps c true } m1 N E) (h2:Sg P lent (c8 B) { st with tmps:=gi st.tmps c false } m2 N E):Sg P lent [.cond c A B] st (bif b then m1 else m2) N E:=by
  intro r hr
  intro ρ0 w0 hN K hK a w hA
  simp only [r6]
  obtain ⟨hA',hb⟩:=wt hA hc
  refine wp_cond hb ?_
  have fin:∀ (D:Code) (m:Option (α⊕X)) (st1:ax),Sg P lent (c8 D) st1 m N E→m=some r→At lent.length ρ0 w0 st1 a w→D.wp P (fun e a' w'=>match e with | .normal=>K .normal a' w' | e=>K e a' w') a w:=by
    intro D m st1 hS hm hA1
    refine jg D (hS r hm ρ0 w0 hN _ ?_ a w hA1)
    intro e st' a' w' q hA2
    cases e with
    | normal=>exact hK .normal st' a' w' q hA2
    | ret=>exact hK .ret st' a' w' q hA2
    | exit id=>exact hK (.exit id) st' a' w' q hA2
  cases b with
  | true=>exact fin A m1 _ h1 hr hA'
  | false=>exact fin B m2 _ h2 hr hA'
theorem Sg.pre{P:Program}{lent:List ae}{α X:Type}{N:α→ax}{E:X→AE×ax}{m:Option (α⊕X)}{cs:List Code}{st st1:ax}(s:NS)(hn:s.ok lent.length=true)(h1:s.on st=st1)(h:Sg P lent cs st1 m N E) :Sg P lent cs st m N E :=
  fun r hr=>bT.weak (by rw [←h1];exact Aj hn st) (h r hr)
def wu{X:Type} :Option (Empty⊕X)→Option X
  | some (.inr x)=>some x
  | _=>none
theorem Sg.contract{P:Program}{f:FuncId}{fn:Func}{c:Code}{X:Type}{N:Empty→ax}{E:X→AE×ax}{m:Option (Empty⊕X)}{lent:List ae}{args:List AV}(keep:Bool)(o:X→jB)(hf:P.funcs[f]? = some fn)(hc:fn.body=some c) 
    (h:Sg P lent (c8 c) (gN fn lent args) m N E) (hE:∀ x,ym P fn lent.length keep (o x) (E x).1 (E x).2) {x:X} (hx:wu m=some x):ah P f lent args (o x):=by
  unfold wu at hx
  split at hx
  · rename_i x'
    simp only [Option.some.injEq] at hx;subst hx
    refine bT.contract (keep:=keep) hf hc ((h _ rfl).mono ?_)
    intro e st' q
    simp only [j9] at q
    have:=hE x'
    rw [←q] at this;exact this
  · cases hx
end Go.Plb
namespace Go.Plb
set_option linter.unusedSectionVars false
variable [Rom]
theorem ni{ρ X:Type}{id:Nat}{J:ρ→ax}{E:X→AE×ax}(h:r7 E) :r7 (fi id J E):=by
  intro x
  cases x with
  | inl r=>intro q;cases q
  | inr x=>exact h x
def ii:Code→Code
  | .block _ (.loop b)=>b
  | _=>.skip
theorem Sg.cut{P:Program}{lent:List ae}{α β X:Type}{cs:List Code}{st:ax}{m:Option (α⊕X)}{N1:α→ax}{E:X→AE×ax}{k:α→Option (β⊕X)}{N:β→ax}(n:Nat)(hE:r7 E) 
    (h:Sg P lent (cs.take n) st m N1 E) (hk:∀ a,Sg P lent (cs.drop n) (N1 a) (k a) N E):Sg P lent cs st (cF m k) N E:=by
  have:=Sg.seq hE h hk
  rwa [List.take_append_drop] at this
theorem zi{P:Program}{lent:List ae}{σ ρ X:Type}{I:σ→ax}{J:ρ→ax}{E:X→AE×ax}{B:σ→Option (σ⊕(ρ⊕X))}{id:Nat}{b:Code}{cs:List Code}(hcs:cs=[.block id (.loop b)])(hE:r7 E)(hI:pg id E) 
    (hb:∀ s,Sg P lent (c8 b) (I s) (B s) I (fi id J E)) (s:σ):Sg P lent cs (I s) (cm B s) J E:=by rw [hcs];exact Sg.loop hE hI hb s
end Go.Plb
namespace Go.Plb.Seat
open Go Go.Plb
set_option linter.unusedSimpArgs false
set_option linter.unusedVariables false
noncomputable abbrev E0:m6:=a7 []
def L1:List aM:=[]
def S1:m6:=a7 L1
theorem CE:aX prog S1:=mp _
end Go.Plb.Seat
namespace Go.Plb.Seat
open Go Go.Plb
set_option linter.unusedSimpArgs false
set_option linter.unusedVariables false
set_option maxRecDepth 100000
def ka(n:Nat) :Bool:=Nat.ble n 1000000000
noncomputable def L2:List aM:=L1
theorem CF:aX prog (a7 L2):=CE
end Go.Plb.Seat
namespace Go.Plb.Seat
open Go Go.Plb
set_option linter.unusedSimpArgs false
set_option linter.unusedVariables false
theorem ah.nan{f:FuncId}{g:Nat→jB}{r:jB}(h:∀ n:Nat,ah prog f [] [.int .u64 (n:Int)] (g n))(e:∀ n:Nat,isNaN n=true→g n=r) :ah prog f [] [.nan] r:=by
  intro ρ w us hN hv
  cases hv with | cons _ u _ _ h1 h2 =>
  cases h2
  cases h1 with | nan n hn =>
  rw [←e n hn]
  exact h n ρ w _ hN (.cons _ _ _ _ (.int _ _) .nil)
noncomputable def L3:List aM:=L2
theorem De:aX prog (a7 L3):=CF
end Go.Plb.Seat
namespace Go.Plb.Seat
open Go Go.Plb
set_option linter.unusedVariables false
set_option maxRecDepth 100000
theorem gE{S:m6}(hS:aX prog S){lent:List ae}{α X:Type}{cs:List Code}{st:ax}{t:T (α⊕X)}(N:α→ax){E:X→AE×ax}(ks:List NS) 
    (h:AO C0 S 60 cs st t.leaves ks lent.length=yy N E t.leaves:=by kernel_rfl):Sg prog lent cs st t.run N E:=Sg.seg BS hS 60 cs st t N E ks h
theorem BU{lent:List ae}{σ ρ X:Type}{cs:List Code}{st:ax}{E:X→AE×ax}{B:σ→Option (σ⊕(ρ⊕X))}{ent:σ}(s:NS)(I:σ→ax)(J:ρ→ax)(id:Nat)(hE:r7 E)(hI:pg id E) 
    (hb:∀ a,Sg prog lent (c8 (ii (cs.headD .skip))) (I a) (B a) I (fi id J E)) (hn:s.ok lent.length=true:=by exact rfl) (h1:s.on st=I ent:=by kernel_rfl) (hcs:cs=[.block id (.loop (ii (cs.headD .skip)))]:=by kernel_rfl) :
    Sg prog lent cs st (cm B ent) J E:=Sg.pre s hn h1 (zi hcs hE hI hb ent)
def xF:Empty→ax:=fun a=>a.elim
theorem tM{fn:Func}{k:Nat}{keep:Bool}{o:jB}{st:ax}(vs:List AV)(h1:cD prog fn st fn.results.toList=some (vs,[]):=by kernel_rfl)(h2:qy k keep st.heap (n7 vs)=some o:=by kernel_rfl) :ym prog fn k keep o .ret st :=
  ⟨.inr rfl,vs,[],h1,trivial,h2⟩
theorem zj{f:FuncId}{X:Type}{m:Option (Empty⊕X)}{lent:List ae}{args:List AV}{x:X}(keep:Bool)(o:X→jB)(E:X→AE×ax)(hx:wu m=some x) 
    (h:Sg prog lent (c8 (qM f)) (gN (FN f) lent args) m xF E) (hE:∀ x,ym prog (FN f) lent.length keep (o x) (E x).1 (E x).2)
    (hf:prog.funcs[f]? = some (FN f):=by kernel_rfl) (hc:(FN f).body=some (qM f):=by kernel_rfl):ah prog f lent args (o x) :=
  Sg.contract (P:=prog) (f:=f) (fn:=FN f) (c:=qM f) (N:=xF) (E:=E) (lent:=lent) (args:=args) keep o hf hc h hE hx
end Go.Plb.Seat
namespace Go.Plb.Seat
open Go Go.Plb
noncomputable def CG:List aM:=[]
theorem pT:aX prog (a7 CG):=mp prog
end Go.Plb.Seat
namespace Go.Plb.Seat
open Go Go.Plb
set_option linter.unusedVariables false
set_option maxRecDepth 100000
noncomputable section
inductive bz where
  | r0 (s5:ByteArray)
def gV:bz→AE×ax
  | .r0 s5=>(.ret,⟨aH 20 [(2,.str s5)],[],0⟩)
theorem jp:r7 gV:=by intro x;cases x<;>(intro h;cases h)
theorem uQ(id:Nat) :pg id gV:=by intro x;cases x<;>(intro h;cases h)
def kb:bz→jB
  | .r0 s5=>⟨.str s5,[]⟩
noncomputable def uR:List Code:=c8 (qM fh)
def uS(w_0:Int)(l1:(List Int)) :ax:=⟨aH 20 [(0,.int .u64 w_0),(3,.ptr 0 1 0 0),(5,.int .i64 (0:Int))],[(0,.ns .u8 l1)],1⟩
def uT:T (((List Int))⊕(bz)) :=
  .leaf (.inl [(0:Int),(0:Int),(0:Int),(0:Int),(0:Int),(0:Int),(0:Int),(0:Int),(0:Int),(0:Int),(0:Int),(0:Int),(0:Int),(0:Int),(0:Int),(0:Int)])
def fQ(w_0:Int) :Nat×(List Int)→ax:=fun (a2,l3)=>⟨aH 20 [(0,.int .u64 w_0),(3,.ptr 0 1 0 0),(5,.int .i64 ((a2:Nat):Int))],[(0,.ns .u8 l3)],1⟩
def nj(l4:(List Int)) :ax:=⟨aH 20 [(3,.ptr 0 1 0 0)],[(0,.ns .u8 l4)],1⟩
noncomputable def uU:List Code:=c8 (ii ((((uR.drop 3).take 1)).headD .skip))
def jq(w_0:Int)(a2:Nat)(l3:List Int) :T ((Nat×(List Int))⊕(((List Int))⊕(bz))) :=
  .ask (decide (((a2:Nat):Int)<(16:Int)))
    (.need (jO .i64 (((4*a2):Nat):Int))<|.need (jO .i64 ((60:Int)-(((4*a2):Nat):Int)))<|.need (decide ((0:Int)≤((60:Int)-(((4*a2):Nat):Int))))<|.need (r5 (lh .and .u64 (Int.fdiv w_0 (2^(min (Int.toNat ((60:Int)-(((4*a2):Nat):Int))) (IntKind.u64.bits)))) (15:Int)) (ByteArray.mk #[48,49,50,51,52,53,54,55,56,57,65,66,67,68,69,70]).size)<|.need (r5 ((a2:Nat):Int) 16)<|.need (iQ (bA (bA 0 (o9 a2 1)) 0) (List.length l3))<|.need (jO .i64 (((a2+1):Nat):Int))<|.leaf (.inl ((a2+1),(List.set l3 (bA (bA 0 (o9 a2 1)) 0) (aC (ByteArray.mk #[48,49,50,51,52,53,54,55,56,57,65,66,67,68,69,70]) (Int.toNat (lh .and .u64 (Int.fdiv w_0 (2^(min (Int.toNat ((60:Int)-(((4*a2):Nat):Int))) (IntKind.u64.bits)))) (15:Int))))))))
    (.leaf (.inr (.inl l3)))
noncomputable def du(w_0:Int) :Nat×(List Int)→Option ((Nat×(List Int))⊕(((List Int))⊕(bz))):=fun (a2,l3) =>
  (jq w_0 a2 l3).run
theorem sw(w_0:Int)(a2:Nat)(l3:List Int) :Sg prog [] uU (fQ w_0 (a2,l3)) (du w_0 (a2,l3)) (fQ w_0) (fi 0 nj gV):=by
  unfold du;exact gE pT (fQ w_0) [⟨[],[0],[0,3,5]⟩,⟨[],[0],[3]⟩]
def lC(l4:List Int) :T ((Empty)⊕(bz)) :=
  .need (mA (16:Int) 16)<|.need (mA (0:Int) 16)<|.need (dd 16 (List.length l4))<|.need (dd 16 (List.length l4))<|.leaf (.inr (.r0 (ly (List.take 16 l4))))
noncomputable def gW(w_0:Int) :Option bz:=wu (cF ((uT).run) fun l1 =>
  cF (cm (du w_0) (0,l1)) fun l4 =>
  (lC l4).run)
theorem nk(w_0:Int){x:bz}(h:gW w_0=some x) :ah prog fh [] [.int .u64 w_0] (kb x) :=
  zj false kb gV h (Sg.cut 3 jp (gE pT (uS w_0) [⟨[],[16],[0,3,5]⟩]) (fun l1=>Sg.cut 1 jp (BU ⟨[],[0],[0,3,5]⟩ (fQ w_0) (nj) 0 jp (uQ _) (fun ⟨a2,l3⟩=>sw w_0 a2 l3)) (fun l4=>gE pT xF [⟨[],[],[2]⟩])))
    (fun x=>by cases x with | r0 s5=>exact tM [.str s5])
def jr:Option bz→Bool
  | some _=>true
  | none=>false
def ke:Option bz→ByteArray
  | some (.r0 x)=>x
  | _=>ByteArray.empty
theorem uV{x:Option bz}(h:jr x=true) :x=some (.r0 (ke x)):=by
  unfold jr at h
  split at h<;>first | rfl | (cases h;done) | (rename_i y;cases y;rfl)
noncomputable def oR:aM:=dt fh (.cons (.int .u64) .nil) fun t=>(fun q=>[⟨kb (.r0 (ke q)),[jr q]⟩]) (gW t.1)
theorem qS:aT prog oR:=a8 fun t=>(bH (fun h=>nk t.1 (uV h)) b8)
noncomputable def wv:List aM:=oR::CG
theorem AP:aX prog (a7 wv):=au qS pT
end
end Go.Plb.Seat
namespace Go.Plb
set_option linter.unusedSimpArgs false
set_option linter.unusedVariables false
set_option linter.unusedSectionVars false
variable [Rom]
theorem az{α:Type}{b:Bool}{t:T α}{x:Option α}(h:b=true)(k:t.run=x) :(T.need b t).run=x:=by subst h;exact k
theorem fx{α:Type}{b:Bool}{t f:T α}{x:Option α}(h:b=true)(k:t.run=x) :(T.ask b t f).run=x:=by subst h;exact k
theorem fj{α:Type}{b:Bool}{t f:T α}{x:Option α}(h:b=false)(k:f.run=x) :(T.ask b t f).run=x:=by subst h;exact k
theorem CH{α:Type}{k:Nat}{t f:T α}{a:α}(h:t.run=some a) :(T.alt k t f).run=some a:=by simp only [T.run,h]
theorem C1{α:Type}{k:Nat}{t f:T α}{x:Option α}(h:t.run=none)(q:f.run=x) :(T.alt k t f).run=x:=by simp only [T.run,h];exact q
theorem C2{α:Type}{b:Bool}{t:T α}(h:b=false) :(T.need b t).run=none:=by subst h;rfl
theorem ek{α:Type}{b:Bool}{t:T α}{x:Option α}(k:t.run=x)(h:b=true:=by exact rfl) :(T.need b t).run=x:=az h k
theorem iJ{α:Type}{b:Bool}{t f:T α}{x:Option α}(k:t.run=x)(h:b=true:=by exact rfl) :(T.ask b t f).run=x:=fx h k
theorem gX{α:Type}{b:Bool}{t f:T α}{x:Option α}(k:f.run=x)(h:b=false:=by exact rfl) :(T.ask b t f).run=x:=fj h k
theorem ao{α β X:Type}{m:Option (α⊕X)}{k:α→Option (β⊕X)}{a:α}{x:Option (β⊕X)}(h:m=some (.inl a))(q:k a=x) :cF m k=x:=by subst h;exact q
theorem cn{α β X:Type}{m:Option (α⊕X)}{k:α→Option (β⊕X)}{y:X}(h:m=some (.inr y)) :cF m k=some (.inr y):=by subst h;rfl
theorem AQ{κ X:Type}{m:Option (κ⊕(κ⊕X))}{a:κ}(h:m=some (.inl a)) :tL m=some (.inl a):=by subst h;rfl
theorem zk{κ X:Type}{m:Option (κ⊕(κ⊕X))}{a:κ}(h:m=some (.inr (.inl a))) :tL m=some (.inl a):=by subst h;rfl
theorem zl{κ X:Type}{m:Option (κ⊕(κ⊕X))}{a:X}(h:m=some (.inr (.inr a))) :tL m=some (.inr a):=by subst h;rfl
theorem cu{X:Type}{m:Option (Empty⊕X)}{x:X}(h:m=some (.inr x)) :wu m=some x:=by subst h;rfl
theorem zm{σ Y:Type}{B:σ→Option (σ⊕Y)}(st:Nat→σ)(n:Nat){y:Y}(i:Nat)(hi:i≤n)(step:∀ j,i≤j→j<n→B (st j)=some (.inl (st (j+1))))(done:B (st n)=some (.inr y)) :cm B (st i)=some y:=by
  obtain ⟨d,rfl⟩:∃ d,n=i+d:=⟨n-i,by omega⟩
  clear hi
  induction d generalizing i with
  | zero=>exact tK done
  | succ d ih =>
    rw [wq (step i (Nat.le_refl _) (by omega))]
    have e:i+(d+1)=i+1+d:=by omega
    rw [e] at step done
    exact ih (i+1) (fun j h1 h2=>step j (by omega) h2) done
theorem dv{σ Y:Type}{B:σ→Option (σ⊕Y)}(st:Nat→σ)(n:Nat){y:Y}{s0:σ}(h0:s0=st 0)(step:∀ j,j<n→B (st j)=some (.inl (st (j+1))))(done:B (st n)=some (.inr y)) :cm B s0=some y:=by
  rw [h0];exact zm st n 0 (Nat.zero_le _) (fun j _=>step j) done
theorem cv{n:Int} :jO .i64 n=true↔-9223372036854775808≤n∧n≤9223372036854775807:=by
  have e1:IntKind.i64.min = -9223372036854775808:=by decide
  have e2:IntKind.i64.max=9223372036854775807:=by decide
  simp only [jO,e1,e2,Bool.and_eq_true,decide_eq_true_eq]
theorem iK{k:Int}{n:Nat} :r5 k n=true↔0≤k∧k<n:=by simp only [r5,Bool.and_eq_true,decide_eq_true_eq]
theorem yB{k:Int}{n:Nat} :mA k n=true↔0≤k∧k≤n:=by simp only [mA,Bool.and_eq_true,decide_eq_true_eq]
theorem gY{k n:Nat} :iQ k n=true↔k<n:=by simp [iQ]
theorem bc{k n:Nat} :dd k n=true↔k≤n:=by simp [dd]
theorem yC{k n:Nat} :Nat.blt k n=true↔k<n:=by rw [Nat.blt_eq]
def sx{α:Type}(pos:Nat→Nat)(val:Nat→α)(l:List α) :Nat→List α
  | 0=>l
  | n+1=>(sx pos val l n).set (pos n) (val n)
theorem nl{α:Type}{pos:Nat→Nat}{val:Nat→α}{l:List α} :∀ {n:Nat},(sx pos val l n).length=l.length
  | 0=>rfl
  | n+1=>by simp only [sx,List.length_set];exact nl
theorem AR{α:Type}(l:List α) :j4 0 l.length l=true:=by rw [j5];omega
theorem yD{α:Type}{b:Bool}{t:T α}{x:Option α}(k:t.run=x)(h:b=true:=by exact AR _) :(T.need b t).run=x:=az h k
theorem first_bad{p:Nat→Prop} [DecidablePred p]:∀ {n:Nat},(¬ ∀ i,i<n→p i)→∃ k,k<n∧¬ p k∧∀ j,j<k→p j
  | 0,h=>(h fun i hi=>absurd hi (Nat.not_lt_zero _)).elim
  | n+1,h=>by
    by_cases q:∀ i,i<n→p i
    · refine ⟨n,Nat.lt_succ_self _,fun r=>h fun i hi=>?_,q⟩
      rcases Nat.lt_succ_iff_lt_or_eq.1 hi with a | rfl
      · exact q i a
      · exact r
    · obtain ⟨k,h1,h2,h3⟩:=first_bad q
      exact ⟨k,by omega,h2,h3⟩
def vl{α:Type}(m:Option α)(Q:α→Prop) :Prop:=∃ r,m=some r∧Q r
theorem vl.mono{α:Type}{m:Option α}{Q R:α→Prop}(h:vl m Q)(k:∀ r,Q r→R r) :vl m R:=by
  obtain ⟨r,a,b⟩:=h
  exact ⟨r,a,k r b⟩
def T.wp{α:Type}(Q:α→Prop) :T α→Prop
  | .fail=>False
  | .leaf a=>Q a
  | .ask b t f=>(b=true→t.wp Q)∧(b=false→f.wp Q)
  | .need b t=>b=true∧t.wp Q
  | .alt _ t e=>t.wp Q∨(t.run=none∧e.wp Q)
theorem vl.seq{α β X:Type}{m:Option (α⊕X)}{k:α→Option (β⊕X)}{N:β→Prop}{E:X→Prop}(h:vl m (Sum.elim (fun a=>vl (k a) (Sum.elim N E)) E)) :vl (cF m k) (Sum.elim N E):=by
  obtain ⟨r,a,b⟩:=h
  cases r with
  | inl x =>
    obtain ⟨r',a',b'⟩:=b
    exact ⟨r',ao a a',b'⟩
  | inr x=>exact ⟨.inr x,cn a,b⟩
theorem vl.join{κ X:Type}{m:Option (κ⊕(κ⊕X))}{N:κ→Prop}{E:X→Prop}(h:vl m (Sum.elim N (Sum.elim N E))) :vl (tL m) (Sum.elim N E):=by
  obtain ⟨r,a,b⟩:=h
  rcases r with x | x | x
  · exact ⟨.inl x,AQ a,b⟩
  · exact ⟨.inl x,zk a,b⟩
  · exact ⟨.inr x,zl a,b⟩
theorem vl.loop{σ Y:Type}{B:σ→Option (σ⊕Y)}(I:σ→Prop)(m:σ→Nat){Q:Y→Prop}{s:σ}(h0:I s)(h:∀ s,I s→vl (B s) (Sum.elim (fun s'=>I s'∧m s'<m s) Q)) :vl (cm B s) Q:=by
  obtain ⟨y,a,b⟩:=zh I m Q (fun s hs=>by
    obtain ⟨r,a,b⟩:=h s hs
    cases r with
    | inl x=>exact .inl ⟨x,a,b.1,b.2⟩
    | inr y=>exact .inr ⟨y,a,b⟩) s h0
  exact ⟨y,a,b⟩
theorem vl.map{α R:Type}{m:Option α}{g:α→R}{E:R→Prop}(h:vl m fun a=>E (g a)) :vl (Option.map g m) E:=by
  obtain ⟨r,a,b⟩:=h
  exact ⟨g r,by rw [a];rfl,b⟩
theorem vl.some{α:Type}{a:α}{Q:α→Prop}(h:Q a) :vl (some a) Q:=⟨a,rfl,h⟩
end Go.Plb
namespace Go.Plb.Seat
open Go Go.Plb
set_option linter.unusedSimpArgs false
set_option linter.unusedVariables false
set_option maxRecDepth 100000
def iL:ByteArray:=ByteArray.mk #[48,49,50,51,52,53,54,55,56,57,65,66,67,68,69,70]
def dg(w:Int)(j:Nat) :Nat:=((Int.fdiv w (2^(60-4*j)))%16).toNat
theorem AS(w:Int)(j:Nat) :dg w j<16:=by unfold dg;omega
def dL(w:Int) :List Int:=(List.range 16).map fun j=>aC iL (dg w j)
def aD(w:Int) :ByteArray:=ly (dL w)
theorem Cd(x:Int) :lh .and .u64 x (15:Int)=(x%16):=by
  have e:lh .and .u64 x (15:Int)=IntKind.u64.wrap ((BitVec.ofInt 64 x &&& BitVec.ofInt 64 15).toNat:Int):=rfl
  rw [e,BitVec.toNat_and]
  have h15:(BitVec.ofInt 64 15).toNat=15:=by decide
  rw [h15]
  have hm:∀ n:Nat,n &&& 15=n%16:=fun n=>Nat.and_two_pow_sub_one_eq_mod n 4
  rw [hm]
  have hx:(BitVec.ofInt 64 x).toNat=(x%18446744073709551616).toNat:=by rw [BitVec.toNat_ofInt];rfl
  rw [hx]
  have:IntKind.u64.wrap (((x%18446744073709551616).toNat%16:Nat):Int)=(((x%18446744073709551616).toNat%16:Nat):Int):=by
    show ((((x%18446744073709551616).toNat%16:Nat):Int)%18446744073709551616)=_
    omega
  rw [this]
  omega
theorem yE(w:Int){j:Nat}(hj:j<16) :lh .and .u64 (Int.fdiv w (2^(min (Int.toNat ((60:Int)-(((4*j):Nat):Int))) (IntKind.u64.bits)))) (15:Int)=((dg w j:Nat):Int):=by
  rw [Cd]
  have e:min (Int.toNat ((60:Int)-(((4*j):Nat):Int))) (IntKind.u64.bits)=60-4*j:=by
    have:IntKind.u64.bits=64:=rfl
    rw [this];omega
  rw [e]
  unfold dg
  omega
theorem tN{α:Type}(val:Nat→α)(l:List α) :∀ (n:Nat),n≤l.length→List.take n (sx (fun j=>j) val l n)=(List.range n).map val
  | 0,_=>rfl
  | n+1,h=>by
    have ih:=tN val l n (by omega)
    have hl:(sx (fun j=>j) val l n).length=l.length:=nl
    simp only [sx]
    rw [List.take_add_one,List.take_set_of_le (Nat.le_refl _),ih,List.getElem?_set,if_pos rfl,if_pos (by omega),List.range_succ,List.map_append]
    rfl
theorem uW(w:Int) :gW w=some (.r0 (aD w)):=by
  unfold gW
  refine cu (ao rfl (ao (a:=sx (fun j=>j) (fun j=>aC iL (dg w j)) (List.replicate 16 (0:Int)) 16) (dv (fun j=>(j,sx (fun j=>j) (fun j=>aC iL (dg w j)) (List.replicate 16 (0:Int)) j)) 16 rfl (fun j hj=>?_) ?_) ?_))
  · simp only [du,jq]
    have hl:(sx (fun j=>j) (fun j=>aC iL (dg w j)) (List.replicate 16 (0:Int)) j).length=16:=by rw [nl];rfl
    have hd:=AS w j
    have ha:bA (bA 0 (o9 j 1)) 0=j:=by cases j<;>simp [bA,o9]
    rw [yE w hj,ha,hl]
    refine fx (by simp;omega) (az (by rw [cv];omega) (az (by rw [cv];omega) (az (by simp;omega) (az ?_ (az (by rw [iK];omega) (az (by rw [gY];omega) (az (by rw [cv];omega) rfl)))))))
    rw [iK]
    exact ⟨by omega,by show ((dg w j:Nat):Int)<((16:Nat):Int);omega⟩
  · simp only [du,jq]
    exact fj (by simp) rfl
  · simp only [lC]
    have hl:(sx (fun j=>j) (fun j=>aC iL (dg w j)) (List.replicate 16 (0:Int)) 16).length=16:=by rw [nl];rfl
    rw [hl]
    refine az (by decide) (az (by decide) (az (by decide) (az (by decide) ?_)))
    rw [tN _ _ 16 (by decide)]
    rfl
theorem AT(w:Int) :ah prog fh [] [.int .u64 w] ⟨.str (aD w),[]⟩:=nk w (uW w)
end Go.Plb.Seat
namespace Go.Plb.Seat
open Go Go.Plb Go.Proofs Go.RowKit
set_option maxRecDepth 100000
set_option linter.unusedSimpArgs false
set_option linter.unusedVariables false
theorem oS(s:ByteArray)(pos:Nat)(h:pos<s.size) :1≤(Utf8.decode s pos).2:=by
  by_cases ha:(s[pos]'h).toNat<128
  · rw [decode_ascii s pos h ha]
    exact Nat.le_refl _
  · exact (decode_high s pos h (by omega)).2
theorem xG(n:Int)(w:World)(hr:cE w) :Calls prog 29 #[.int .u64 n] w fun e w'=>e=.returned (.string (aD n))∧Below w.heap.size w w':=by
  refine ((AT n).calls w hr (us:=[.int .u64 n]) (.cons _ _ _ _ (.int _ _) .nil)).mono ?_
  rintro e w' ⟨u,ρ',rfl,hb,hu⟩
  cases hu
  exact ⟨rfl,hb⟩
def zH(r:Int) :Nat:=if 48≤r∧r≤57 then (r-48).toNat else if 65≤r∧r≤70 then (r-55).toNat else 16
def ww(acc:Int)(r:Int) :Int:=bits .or .u64 (IntKind.u64.wrap (acc*16)) (IntKind.u64.wrap (bits .and .i64 (zH r:Int) 15))
def fk(s:ByteArray) :Nat→Nat→Int→Int
  | 0,_,acc=>acc
  | f+1,pos,acc=>if pos<s.size then fk s f (pos+(Utf8.decode s pos).2) (ww acc (Utf8.decode s pos).1) else acc
def bF(s:ByteArray) :Bool:=decide (s.size=16)&&decide (aD (fk s s.size 0 0)=s)
def fm(s:ByteArray) :Int:=bif bF s then fk s s.size 0 0 else 0
def iM(s:ByteArray) :Int:=bif bF s then 0 else 4
theorem Ce(r:Int) :zH r≤16:=by unfold zH;split<;>(try split)<;>omega
theorem uX{n:Nat}(h:n<16) :(aC iL n=if n<10 then (48+n:Int) else (55+n:Int)):=by
  rcases n with _ | _ | _ | _ | _ | _ | _ | _ | _ | _ | _ | _ | _ | _ | _ | _ | n
  all_goals first | rfl | omega
theorem Bo{n:Nat}(h:n<16)(r:Int) :aC iL n=r↔n=zH r:=by
  rw [uX h]
  unfold zH
  split<;>split<;>(try split)<;>omega
theorem AU{n:Nat}(h:n<16) :∃ b:UInt8,(⟨#[48,49,50,51,52,53,54,55,56,57,65,66,67,68,69,70]⟩:ByteArray)[n]? = some b∧(b.toNat:Int)=aC iL n:=by
  have:∀ n:Fin 16,∃ b:UInt8,(⟨#[48,49,50,51,52,53,54,55,56,57,65,66,67,68,69,70]⟩:ByteArray)[n.val]? = some b∧(b.toNat:Int)=aC iL n.val:=by
    intro n
    rcases n with ⟨_ | _ | _ | _ | _ | _ | _ | _ | _ | _ | _ | _ | _ | _ | _ | _ | n,h⟩
    all_goals first | exact ⟨_,rfl,rfl⟩ | omega
  exact this ⟨n,h⟩
theorem Bp(n:Nat)(h:n<16)(W:World) :(Instr.index 9 (.string ⟨#[48,49,50,51,52,53,54,55,56,57,65,66,67,68,69,70]⟩) (.int .i64 n)).run prog W=.ok (.int .u8 (aC iL n)) W:=by
  have u9:prog.underlying 9=some .string:=by kernel_rfl
  obtain ⟨b,h1,h2⟩:=AU h
  have ha:(asIntOf (.int .i64 n)).run prog W=.ok (.i64,(n:Int)) W:=rfl
  unfold Instr.index
  simp only [Sem.run_bind,ha,Result.andThen_ok,run_underlying u9]
  rw [if_pos (Int.natCast_nonneg n),Int.toNat_natCast,h1,←h2]
  rfl
theorem tO(s:ByteArray) :∀ (f pos:Nat) (acc:Int),¬ pos<s.size→fk s f pos acc=acc
  | 0,_,_,_=>rfl
  | f+1,pos,acc,h=>by simp only [fk,h,if_false]
theorem toList_inj{a b:ByteArray}(h:a.toList=b.toList) :a=b:=by
  have ha:=Go.Lib.toList_data a
  have hb:=Go.Lib.toList_data b
  rw [h] at ha
  have:a.data.toList=b.data.toList:=ha.symm.trans hb
  cases a;cases b
  simp only [ByteArray.mk.injEq]
  exact Array.toList_inj.1 this
set_option maxHeartbeats 2000000 in
theorem qT (s : ByteArray) (hs : s.size ≤ 1000000000) (w : World) (hR : Hid (cE w)) : Calls prog gT #[.string s] w fun e w' => e = .returned (.tuple #[.int .u64 (fm s), .int .i64 (iM s)]) ∧ Below w.heap.size w w' := by
  go_enter Tryd.func26, Tryd.ntmps26
  go_wp2
  go_loopw [4] (fun t wr => ∃ (pos fuel : Nat) (acc : Int), t = .int .u64 acc ∧ wr.heap[w.heap.size]? = some (.stringIter s pos) ∧ Below w.heap.size w wr ∧ fk s fuel pos acc = fk s s.size 0 0 ∧ s.size ≤ pos + fuel) (fun _ wr => s.size - wr.iterPos w.heap.size)
  case atStart =>
    exact ⟨0, s.size, 0, rfl, World.iter_heap w s 0, (Below.refl _ w).alloc (Nat.le_refl _) _, rfl, by omega⟩
  case round =>
    obtain ⟨pos, fuel, acc, rfl, hit, hbw, hacc, hfu⟩ := hrel
    by_cases hp : pos < s.size
    · have hnx : ∀ ty, (Instr.next (.pointer (some ⟨w.heap.size, 0, none⟩)) true ty).run prog wr = _ := fun ty => Lib.run_next_any_at wr w.heap.size s pos ty hit hp
      obtain ⟨r, hr⟩ : ∃ r : Nat, (Utf8.decode s pos).1 = r := ⟨_, rfl⟩
      obtain ⟨wd, hwd⟩ : ∃ wd : Nat, (Utf8.decode s pos).2 = wd := ⟨_, rfl⟩
      rw [hr, hwd] at hnx
      have hit2 := Lib.iterAt_heap wr w.heap.size s pos (pos + wd) hit
      have hbw2 := Lib.below_iterAt hbw (k := w.heap.size) (Nat.le_refl _) s (pos + wd)
      obtain ⟨W1, hW1⟩ : ∃ W1, wr.iterAt w.heap.size s (pos + wd) = W1 := ⟨_, rfl⟩
      rw [hW1] at hnx hit2 hbw2
      go_wp2
      go_loopw [7] (fun t W => W = W1 ∧ ∃ n : Nat, t = .int .i64 n ∧ n ≤ zH r) (fun t _ => 16 - (intOf t).toNat)
      case atStart => exact ⟨rfl, 0, rfl, Nat.zero_le _⟩
      case round =>
        obtain ⟨hWW, n, rfl, hn⟩ := hrel
        replace hWW := hWW.symm
        subst hWW
        have hd := Ce r
        have hstep : n = zH r → ∃ (pos' fuel' : Nat) (acc' : Int), Value.int .u64 (bits .or .u64 (IntKind.u64.wrap (acc * 16)) (IntKind.u64.wrap (bits .and .i64 (n : Int) 15))) = .int .u64 acc' ∧
            W1.heap[w.heap.size]? = some (.stringIter s pos') ∧ Below w.heap.size w W1 ∧ fk s fuel' pos' acc' = fk s s.size 0 0 ∧ s.size ≤ pos' + fuel' := fun e => by
          obtain ⟨f, rfl⟩ : ∃ f, fuel = f + 1 := ⟨fuel - 1, by omega⟩
          have hw1 := oS s pos hp
          refine ⟨pos + wd, f, ww acc r, by rw [e]; rfl, hit2, hbw2, ?_, by omega⟩
          rw [← hacc]
          simp only [fk, hp, if_true, hr, hwd]
        have hmeas : s.size - W1.iterPos w.heap.size < s.size - wr.iterPos w.heap.size := by
          have hw1 := oS s pos hp
          simp only [World.iterPos, hit, hit2]
          omega
        have HS := Lib.hid hstep
        clear hstep
        by_cases h16 : n < 16
        · have hix := Bp n h16
          have hdi := Lib.hid (Bo h16 r)
          have hb : 0 ≤ aC iL n ∧ aC iL n < 256 := by rw [uX h16]; split <;> omega
          have hwr : wrap32 (aC iL n) = aC iL n := by simp only [wrap32]; omega
          go_wp2
          · have ht : (aC iL n != (r : Int)) = true := by assumption
            have hne : ¬ n = zH r := fun c => by
              have := hdi.out.2 c
              rw [this] at ht
              simp at ht
            exact ⟨⟨trivial, n + 1, by go_num, by omega⟩, by simp [intOf]; omega⟩
          · have ht : (aC iL n != (r : Int)) = false := by assumption
            have he : n = zH r := hdi.out.1 (by simpa using ht)
            exact ⟨HS.out he, hmeas⟩
        · have h16' : ¬ ((n : Int) < 16) := by omega
          have he : Hid (n = zH r) := Lib.hid (by omega)
          go_wp2
          exact ⟨HS.out he.out, hmeas⟩
    · have hnx : ∀ ty, (Instr.next (.pointer (some ⟨w.heap.size, 0, none⟩)) true ty).run prog wr = _ := fun ty => Lib.run_next_end_at wr w.heap.size s pos ty hit hp
      have hR2 : Hid (cE wr) := Lib.hid (hR.out.below hbw (Nat.le_refl _))
      go_wp2_with (go_at_call 29; refine (xG _ _ hR2.out).mono ?_; rintro e W1 ⟨rfl, hb1⟩)
      all_goals clear hnx
      all_goals have hacc' : acc = fk s s.size 0 0 := (tO s fuel pos acc hp).symm.trans hacc
      · have h2 : (!(aD acc).toList == s.toList) = true := by assumption
        have ho : bF s = false := by
          unfold bF
          have : ¬ aD (fk s s.size 0 0) = s := fun c => by
            rw [← hacc'] at c
            rw [c] at h2
            simp at h2
          rw [decide_eq_false this, Bool.and_false]
        have hW : fm s = 0 := by rw [fm, ho]; rfl
        have hE : iM s = 4 := by rw [iM, ho]; rfl
        go_ret2
        exact ⟨by rw [hW, hE]; rfl, hbw.trans (hb1.mono hbw.size)⟩
      · have h1 : (s.size : Int) = 16 := by assumption
        have h2 : (!(aD acc).toList == s.toList) = false := by assumption
        have ho : bF s = true := by
          unfold bF
          have h3 : aD (fk s s.size 0 0) = s := by
            rw [← hacc']
            exact toList_inj (by simpa using h2)
          rw [decide_eq_true h3, decide_eq_true (show s.size = 16 by omega)]; rfl
        have hW : fm s = acc := by rw [fm, ho, hacc']; rfl
        have hE : iM s = 0 := by rw [iM, ho]; rfl
        go_ret2
        exact ⟨by rw [hW, hE]; rfl, hbw.trans (hb1.mono hbw.size)⟩
      · have h1 : ¬ (s.size : Int) = 16 := by assumption
        have ho : bF s = false := by
          unfold bF
          rw [decide_eq_false (show ¬ s.size = 16 by omega)]; rfl
        have hW : fm s = 0 := by rw [fm, ho]; rfl
        have hE : iM s = 4 := by rw [iM, ho]; rfl
        go_ret2
        exact ⟨by rw [hW, hE]; rfl, hbw⟩
theorem Cf(s:ByteArray)(hs:s.size≤1000000000) :ah prog gT [] [.str s] ⟨.tup [.int .u64 (fm s),.int .i64 (iM s)],[]⟩:=by
  refine ba ⟨FN gT,by kernel_rfl,by kernel_rfl⟩ fun ρ w us hN hv=>?_
  cases hv with | cons _ u _ _ h1 h2 =>
  cases h2;cases h1
  refine (qT s hs w (Lib.hid hN.romOk)).mono ?_
  rintro e w' ⟨rfl,hb⟩
  exact ⟨_,rfl,hb,.tup _ _ (.cons _ _ _ _ (.int _ _) (.cons _ _ _ _ (.int _ _) .nil))⟩
noncomputable def AW:aM:=dt gT (.cons .str .nil) fun t=>[⟨⟨.tup [.int .u64 (fm t.1),.int .i64 (iM t.1)],[]⟩,[ka t.1.size]⟩]
theorem zn:aT prog AW:=a8 fun t=>bH (fun h=>Cf t.1 (Nat.le_of_ble_eq_true h)) b8
end Go.Plb.Seat
namespace Go.Plb.Seat
open Go Go.Plb Go.Proofs Go.RowKit Go.Shelf
set_option maxRecDepth 100000
set_option linter.unusedSimpArgs false
set_option linter.unusedVariables false
theorem Bq:(5,AV.gvar (aw.map fun z=>Value.int .u64 z).toArray)∈(Rom.tab:List (Nat×AV)):=by simp [Rom.tab]
theorem Br:(3,AV.iptr .free (.vs [.iface 147 .any]) 1 0 0)∈(Rom.tab:List (Nat×AV)):=by simp [Rom.tab]
theorem Bs:(4,AV.iptr .free (.vs [.iface 147 .any]) 1 0 0)∈(Rom.tab:List (Nat×AV)):=by simp [Rom.tab]
theorem Cg{w : World}(h : cE w) : Lib.TabIs prog w "internal/strconv.uint64pow10" .u64 Lib.pow10Tab := by
  have h1:=h _ Bq
  cases h1 with | gvar _ _ t fr ha hb hh =>
  have hg : prog.globalNamed "internal/strconv.uint64pow10" = some 5 := by kernel_rfl
  have e:aw=Lib.pow10Tab:=by decide
  unfold Lib.TabIs World.var?
  rw [hg,←e]
  simp [hh]
theorem AX{w:World}{g:Nat}(h:VR aa.none_ w (.iptr .free (.vs [.iface 147 .any]) 1 0 0) (.pointer (some ⟨g,0,none⟩))) :∃ v,w.cell? ⟨g,0,none⟩=some (.iface 147 v):=by
  generalize hu:Value.pointer (some ⟨g,0,none⟩)=u at h
  cases h with | iptr _ _ _ _ _ bl o u' ha hb hc hv hr hk hg =>
  simp only [Value.pointer.injEq,Option.some.injEq,Addr.mk.injEq] at hu
  obtain ⟨rfl,ho,_⟩:=hu
  have ho:o=0:=by omega
  subst ho
  have h1:=hc 0 _ rfl
  have h2:=hv 0 _ rfl
  generalize u' 0=x at h1 h2
  cases h2 with | iface _ _ v hv'=>exact ⟨v,by simpa using h1⟩
def sn:Nat→Nat→List UInt8
  | 0,_=>[]
  | f+1,n=>if n<10 then [UInt8.ofNat (48+n)] else sn f (n/10)++[UInt8.ofNat (48+n%10)]
def wx(n:Int) :List UInt8:=if n<0 then 45::sn 20 n.natAbs else sn 20 n.toNat
def cG(n:Int) :ByteArray:=⟨(wx n).toArray⟩
theorem uY:∀ (f n:Nat),n<10^(f+1)→sn (f+1) n=Lib.decDigits n
  | 0,n,h=>by
    have hn:n<10:=by simpa using h
    rw [Lib.decDigits]
    simp [sn,hn]
  | f+1,n,h=>by
    rw [Lib.decDigits]
    rw [sn]
    split
    · rfl
    · rw [uY f (n/10) (by rw [Nat.pow_succ] at h;omega)]
theorem AY{n:Int}(h1 : -9223372036854775808≤n)(h2:n≤9223372036854775807) :wx n=Lib.itoa n:=by
  have hp:10^20=100000000000000000000:=by decide
  unfold wx Lib.itoa
  split
  · rw [uY 19 _ (by rw [hp];omega)]
  · rw [uY 19 _ (by rw [hp];omega)]
theorem qU(n:Int)(h1 : -9223372036854775808≤n)(h2:n≤9223372036854775807)(w:World)(hr:cE w) :Calls prog dW #[.int .i64 n] w fun e w'=>e=.returned (.string (cG n))∧Below w.heap.size w w':=by
  refine (Tryd.strconv_Itoa n h1 h2 w (Cg hr)).mono ?_
  rintro e w' ⟨rfl,k,os,rfl⟩
  rw [cG,AY h1 h2]
  refine ⟨rfl,rfl,rfl,rfl,by simp [Go.Sort.grow],fun i hi=>?_⟩
  show ((w.drewN k).heap++os)[i]? = _
  rw [Array.getElem?_append_left (by simpa using hi)]
  rfl
theorem Ch(n:Int)(hk:jO .i64 n=true) :ah prog dW [] [.int .i64 n] ⟨.str (cG n),[]⟩:=by
  rw [cv] at hk
  refine ba ⟨FN dW,by kernel_rfl,by kernel_rfl⟩ fun ρ w us hN hv=>?_
  cases hv with | cons _ u _ _ h1 h2 =>
  cases h2;cases h1
  refine (qU n hk.1 hk.2 w hN.romOk).mono ?_
  rintro e w' ⟨rfl,hb⟩
  exact ⟨_,rfl,hb,.str _⟩
noncomputable def AZ:aM:=dt dW (.cons (.int .i64) .nil) fun t=>[⟨⟨.str (cG t.1),[]⟩,[jO .i64 t.1]⟩]
theorem zo:aT prog AZ:=a8 fun t=>bH (fun h=>Ch t.1 h) b8
def qV(s:ByteArray) :Int:=match Lib.atoiAll s.data.toList with
  | .ok v=>if cG v=s then v else -1
  | _=>-1
theorem Bt{a b:ByteArray}(h:(!a.toList==b.toList)=true) :a≠b:=fun c=>by subst c;simp at h
set_option maxHeartbeats 2000000 in
theorem uZ (s : ByteArray) (hs : s.size ≤ 1000000000) (w : World) (hR : Hid (cE w)) : Calls prog dz #[.string s] w fun e w' => e = .returned (.int .i64 (qV s)) ∧ Below w.heap.size w w' := by
  cases h : Lib.atoiAll s.data.toList with
  | ok v =>
    have hv := Lib.atoiAll_bounds h
    have cA := Tryd.strconv_Atoi_ok s (by omega) v h w
    go_enter Tryd.func54, Tryd.ntmps54
    go_wp2_with (go_at_call 69; refine cA.mono ?_; rintro e W1 ⟨rfl, hw1⟩; refine Hid.out ?_)
    refine Lib.hid ?_
    have hb1 : Below w.heap.size w W1 := by
      rcases hw1 with rfl | ⟨t, rfl⟩
      · exact Below.refl _ _
      · exact Go.Lib.bytesWorld_below _ _ _
    have hR1 : Hid (cE W1) := Lib.hid (hR.out.below hb1 (Nat.le_refl _))
    clear hw1 cA
    go_wp2_with (go_at_call 55; refine (qU v hv.1 hv.2 _ hR1.out).mono ?_; rintro e W2 ⟨rfl, hb2⟩)
    · have h2 : (!(cG v).toList == s.toList) = true := by assumption
      have hn : qV s = -1 := by simp only [qV, h]; rw [if_neg (Bt h2)]
      go_ret
      exact ⟨by rw [hn]; rfl, hb1.trans (hb2.mono hb1.size)⟩
    · have h2 : (!(cG v).toList == s.toList) = false := by assumption
      have hn : qV s = v := by simp only [qV, h]; rw [if_pos (toList_inj (by simpa using h2))]
      go_ret
      exact ⟨by rw [hn]; rfl, hb1.trans (hb2.mono hb1.size)⟩
  | range =>
    obtain ⟨ev, hev⟩ := AX (hR.out _ Bs)
    have hn : qV s = -1 := by simp only [qV, h]
    have cA := Tryd.strconv_Atoi_range s (by omega) h (.iface 147 ev) w hev (.inr ⟨_, _, rfl⟩)
    go_enter Tryd.func54, Tryd.ntmps54
    go_wp2_with (go_at_call 69; refine cA.mono ?_; rintro e W1 ⟨N, rfl, _, _, hb⟩)
    go_ret
    exact ⟨by rw [hn]; rfl, hb⟩
  | _ =>
    obtain ⟨ev, hev⟩ := AX (hR.out _ Br)
    have hn : qV s = -1 := by simp only [qV, h]
    have cA := Tryd.strconv_Atoi_syntax s (by omega) h (.iface 147 ev) w hev (.inr ⟨_, _, rfl⟩)
    go_enter Tryd.func54, Tryd.ntmps54
    go_wp2_with (go_at_call 69; refine cA.mono ?_; rintro e W1 ⟨N, rfl, _, _, hb⟩)
    go_ret
    exact ⟨by rw [hn]; rfl, hb⟩
theorem A0(s:ByteArray)(hs:s.size≤1000000000) :ah prog dz [] [.str s] ⟨.int .i64 (qV s),[]⟩:=by
  refine ba ⟨FN dz,by kernel_rfl,by kernel_rfl⟩ fun ρ w us hN hv=>?_
  cases hv with | cons _ u _ _ h1 h2 =>
  cases h2;cases h1
  refine (uZ s hs w (Lib.hid hN.romOk)).mono ?_
  rintro e w' ⟨rfl,hb⟩
  exact ⟨_,rfl,hb,.int _ _⟩
noncomputable def wy:aM:=dt dz (.cons .str .nil) fun t=>[⟨⟨.int .i64 (qV t.1),[]⟩,[ka t.1.size]⟩]
theorem wz:aT prog wy:=a8 fun t=>bH (fun h=>A0 t.1 (Nat.le_of_ble_eq_true h)) b8
def em:List ByteArray→List UInt8
  | []=>[]
  | [x]=>x.data.toList
  | x::y::r=>x.data.toList++32::em (y::r)
def jE(l:List ByteArray) :ByteArray:=⟨(em l).toArray⟩
theorem qW:∀ l:List ByteArray,em l=Lib.join (l.map (·.data.toList)) [32]
  | []=>rfl
  | [x]=>by rw [List.map_cons,List.map_nil,Lib.join_one];rfl
  | x::y::r=>by
    rw [List.map_cons,Lib.join_cons,em,qW (y::r),List.map_cons,Lib.join_cons]
    simp [Lib.joinTail]
theorem Ci(l:Lv)(xs:List ByteArray)(h1:(jE xs).size≤1000000000)(h2:xs.length≤1000000000) :ah prog gl [] [.imm l (.ss xs) 1 1 0 xs.length,.str ⟨#[32]⟩] ⟨.str (jE xs),[]⟩:=by
  refine ba ⟨FN gl,by kernel_rfl,by kernel_rfl⟩ fun ρ w us hN hv=>?_
  cases hv with | cons _ u _ _ v1 v2 =>
  cases v2 with | cons _ u2 _ _ v3 v4 =>
  cases v4;cases v3
  have hz:(em xs).length≤1000000000:=by
    have:(jE xs).size=(em xs).length:=by simp [jE,ByteArray.size]
    omega
  generalize hn:xs.length=n at v1
  cases v1 with
  | imm _ _ _ _ _ _ cap bl o u' ha hb hc hv' hl hr hk hg =>
    have:=Tryd.strings_Join bl (o+0*1) cap xs ⟨#[32]⟩ w (fun j x hj=>by
      have hcell:(ae.ss xs).cell? j=some (.str x):=by show (xs[j]?).map AV.str=_;rw [hj];rfl
      have q1:=hc j _ hcell
      have q2:=hv' j _ hcell
      cases hu:u' j<;>rw [hu] at q2<;>cases q2
      rw [hu] at q1
      simpa using q1) hb (by omega) (by omega) (by
        rw [←qW];omega)
    rw [hn] at this
    refine this.mono ?_
    rintro e w' ⟨rfl,hb⟩
    refine ⟨_,rfl,hb,?_⟩
    rw [←qW]
    exact .str _
  | immEnd _ _ _ _ _ cap a hr hk hg =>
    have hx:xs=[]:=List.length_eq_zero_iff.1 hn
    subst hx
    refine (Tryd.strings_Join_none a cap ⟨#[32]⟩ w).mono ?_
    rintro e w' ⟨rfl,rfl⟩
    exact ⟨_,rfl,Below.refl _ _,.str _⟩
def Cj(z:ByteArray) :Bool:=decide (z=⟨#[32]⟩)
theorem Bu{z:ByteArray}(h:Cj z=true) :z=⟨#[32]⟩:=of_decide_eq_true h
noncomputable def A1:aM:=dt gl (.cons .ss (.cons .str .nil)) fun t=>[⟨⟨.str (jE t.1.2),[]⟩,[Cj t.2.1,ka (jE t.1.2).size,ka t.1.2.length]⟩]
theorem zp:aT prog A1:=a8 fun t a ha ho=>by
  simp only [List.mem_singleton] at ha
  subst ha
  obtain ⟨⟨l,xs⟩,z,_⟩:=t
  have hz:=Bu ho.1
  subst hz
  exact Ci l xs (Nat.le_of_ble_eq_true ho.2.1) (Nat.le_of_ble_eq_true ho.2.2.1)
end Go.Plb.Seat
namespace Go.Plb.Seat
open Go Go.Plb Go.Proofs Go.RowKit Go.Shelf
set_option maxRecDepth 100000
set_option linter.unusedSimpArgs false
set_option linter.unusedVariables false
attribute [local go_sem] Oper.semAt_some
theorem ph(s sep:ByteArray)(w:World) :Calls prog 49 #[.string s,.string sep,.int .i64 0] w fun e w' =>
    e=.returned (.func (.func 63) #[] #[.pointer (some ⟨w.heap.size+1,0,none⟩),.pointer (some ⟨w.heap.size,0,none⟩),.pointer (some ⟨w.heap.size+2,0,none⟩)]) ∧
    w'=((w.alloc (.cells #[.string s] 9)).alloc (.cells #[.string sep] 9)).alloc (.cells #[.int .i64 0] 3):=by
  have hmf:∀ (fn:Fn) (first cap:Array Value) (w:World),(Instr.makeFunc fn first cap).run prog w=.ok (.func fn first cap) w:=fun _ _ _ _=>rfl
  go_enter Tryd.func49,Tryd.ntmps49
  go_wp2
  go_ret
  exact ⟨rfl,rfl⟩
theorem qX(s sep:ByteArray)(w:World) :Calls prog 25 #[.string s,.string sep] w fun e w' =>
    e=.returned (.func (.func 63) #[] #[.pointer (some ⟨w.heap.size+1,0,none⟩),.pointer (some ⟨w.heap.size,0,none⟩),.pointer (some ⟨w.heap.size+2,0,none⟩)]) ∧
    w'=((w.alloc (.cells #[.string s] 9)).alloc (.cells #[.string sep] 9)).alloc (.cells #[.int .i64 0] 3):=by
  go_enter Tryd.func25,Tryd.ntmps25
  go_wp2_with (go_at_call 49;refine (ph s sep _).mono ?_;rintro e w' ⟨rfl,rfl⟩)
  go_ret
  exact ⟨rfl,rfl⟩
theorem mt{g:Operand}{ps:Array Tmp}{assign body:Code}{Q:Exit→Act→World→Prop}{a:Act}{w:World}{gf m:Nat}{lb:Array Value}(hg:a.eval g=.func (.func gf) #[] lb)(eg:∀ args w,(callFunc gf args).run prog w=.ok (.enter gf args) w) 
    (h : ∀ (fn : FuncId) (rec : LoopState → Option Code → Loop), (∀ st pe, (rec st pe).state = st ∧ (rec st pe).pending = pe) →
      (∀ (m':Nat) (args:Array Value) (W:World) (R:Ending→World→Prop),W.heap[w.heap.size+1]? = some (.loop (rec .ready none))→args.size=ps.size →
        assign.wpIn (Fence.wide.inRound (w.heap.size+1)) m' prog (Exit.then (fun a₁ w₁=>w₁.heap[w.heap.size+1]? = some (.loop (rec .ready none))∧body.wpIn (Fence.wide.inRound (w.heap.size+1)) m' prog
            (fun x _ w'=>match x with
              | .normal=>w'.heap[w.heap.size+1]? = some (.loop (rec .busy none))∧R (.returned (.bool true)) (w'.putObj (w.heap.size+1) (.loop (rec .ready none)))
              | .ret=>w'.heap[w.heap.size+1]? = some (.loop (rec .busy none))∧R (.returned (.bool false)) (w'.putObj (w.heap.size+1) (.loop (rec .done (some .ret))))
              | _=>False) a₁ (w₁.putObj (w.heap.size+1) (.loop (rec .busy none)))) (fun _ _ _=>False))
          { tmps:=(ps.zip args).foldl (fun t (p,v)=>t.setIfInBounds p v) a.tmps,defers:=[] } W →
        YieldAt Fence.wide m' prog (w.heap.size+1) args W R) →
      CallsIn Fence.wide m prog gf (#[.func (.yield (w.heap.size+1)) #[] #[]]++lb) ((w.alloc (.deferred (some []))).alloc (.loop (rec .ready none))) (fun e W'=>(∃ v,e=.returned v) ∧
        ((W'.heap[w.heap.size+1]? = some (.loop (rec .ready none))∧Q .normal { a with defers:={ target:=.collected w.heap.size,args:=#[] }::a.defers } (W'.putObj (w.heap.size+1) (.loop (rec .exhausted none)))) ∨
         (∃ c,W'.heap[w.heap.size+1]? = some (.loop (rec .done (some c)))∧c.wpIn Fence.wide (m+1) prog Q { a with defers:={ target:=.collected w.heap.size,args:=#[] }::a.defers } (W'.putObj (w.heap.size+1) (.loop (rec .exhausted (some c)))))))) :
    (Code.rangeFunc g ps assign body).wpIn Fence.wide (m+1) prog Q a w:=by
  refine wpIn_rangeFunc ?_
  intro fn hfn
  obtain ⟨rec,hrec⟩:∃ rec:LoopState→Option Code→Loop,rec=fun st pe=>{ state:=st,pending:=pe,fn,tmps:=a.tmps,params:=ps,assign,body,defers:=w.heap.size }:=⟨_,rfl⟩
  have key:=h fn rec (by intro st pe;rw [hrec];exact ⟨rfl,rfl⟩) (fun m' args W R hl hs hr=>by
    have hy:=run_yield (P:=prog) (args:=args) hl (by rw [hrec];exact hs)
    rw [hrec] at hy
    refine ⟨fn,_,assign,body,hy,roundIn_of_wpIn hfn (wpIn_mono hr ?_)⟩
    rintro e a1 w1 hp
    cases e<;>first | exact hp.elim | skip
    obtain ⟨h1,h2⟩:=hp
    refine ⟨_,run_beginRound h1 (by rw [hrec]),?_⟩
    have hb:({ rec .ready none with state:=.busy }:Loop)=rec .busy none:=by rw [hrec]
    rw [hb]
    refine wpIn_mono h2 ?_
    rintro e a2 w2 hp
    have hput:∀ jump,(Instr.endRound (w.heap.size+1) jump).run prog w2=_:=fun jump=>run_endRound (P:=prog) jump (r:=rec .busy none) (by cases e<;>first | exact hp.1 | exact hp.elim)
    cases e with
    | normal=>exact ⟨_,_,hput none,by have:=hp.2;rw [hrec] at this ⊢;exact this⟩
    | ret=>exact ⟨_,_,hput (some .ret),by have:=hp.2;rw [hrec] at this ⊢;exact this⟩
    | exit id=>exact hp.elim
    | goto t=>exact hp.elim
    | panic c=>exact hp.elim
    | outgrown=>exact hp.elim)
  refine ⟨w.heap.size+1,[{ target:=.collected w.heap.size,args:=#[] }],(w.alloc (.deferred (some []))).alloc (.loop (rec .ready none)),{ target:=.fn (.func gf) lb,args:=#[.func (.yield (w.heap.size+1)) #[] #[]] },(w.alloc (.deferred (some []))).alloc (.loop (rec .ready none)),gf,
    #[.func (.yield (w.heap.size+1)) #[] #[]]++lb,(w.alloc (.deferred (some []))).alloc (.loop (rec .ready none)),?_,?_,fun _ _=>trivial,?_,fun _=>by omega,?_⟩
  · rw [hrec];exact run_enterLoop_outer _ _ _ _ _
  · simp only [resolve,hg]
    simp [go_sem]
  · simp [invoke,go_sem,eg]
  · refine key.mono ?_
    rintro e W2 ⟨⟨v,rfl⟩,⟨hl,hq⟩ | ⟨c,hl,hq⟩⟩
    · exact ⟨none,W2.putObj (w.heap.size+1) (.loop (rec .exhausted none)),by have:=run_endLoop (P:=prog) hl (by rw [hrec];simp);rw [hrec] at this ⊢;exact this,hq⟩
    · exact ⟨some c,W2.putObj (w.heap.size+1) (.loop (rec .exhausted (some c))),by have:=run_endLoop (P:=prog) hl (by rw [hrec];simp);rw [hrec] at this ⊢;exact this,hq⟩
theorem oT{P:Program}{t:TypeId}{W:World}{a:Addr}{v:Value}(h:oz P t=some false)(hc:W.cell? a=some v) :(loadVar t a).run P W=.ok v W:=by
  unfold loadVar
  rw [Sem.run_bind,f0 h]
  simp [Result.andThen,hc]
theorem lD{P:Program}{fn:Func}{p q:Tmp}{t u:TypeId}(h:fn.results = #[.cell p t,.cell q u]){tmps:Array Value}{W:World}{a b:Addr}{v v':Value}(hp:tmps.getD p undef=.pointer (some a))(hq:tmps.getD q undef=.pointer (some b)) 
    (ht:oz P t=some false) (hu:oz P u=some false) (hc:W.cell? a=some v) (hd:W.cell? b=some v'):(results fn tmps).run P W=.ok (.tuple #[v,v']) W:=by
  have h1:=oT ht hc
  have h2:=oT hu hd
  rw [qD,h]
  simp [n8,hp,hq,asAddr,Sem.run_bind,Result.andThen,h1,h2]
theorem db{B:Nat}{a w:World}(h:Below B a w){r:Nat}(hr:B≤r)(o:Obj) :Below B a (w.putObj r o) :=
  ⟨h.os,h.tape,h.output,by simp only [World.putObj_size];exact h.size,fun k hk=>(World.putObj_heap_other (by omega)).trans (h.block k hk)⟩
theorem fR{W W':World}{base:Nat}{e:TypeId}{size:Nat}{v:Value}{n:Nat}{xs:List Value}(h:W.ownsRow base e size v n xs)(hb:∀ k,base≤k→k<W.heap.size→W'.heap[k]? = W.heap[k]?) :W'.ownsRow base e size v n xs:=by
  refine ⟨h.1,?_⟩
  rcases h.2 with q | ⟨g,cap,cur,h1,h2,h3,h4⟩
  · exact .inl q
  · exact .inr ⟨g,cap,cur,h1,h2,(hb g h2 (Array.getElem?_eq_some_iff.1 h3).1).trans h3,h4⟩
structure BV (w:World) (rec:LoopState→Option Code→Loop) (pre:List Int) (W:World):Prop where
  r:Boxed W w.heap.size 22 (.slice none 0 0)
  e:Boxed W (w.heap.size+1) 24 (.int .i64 0)
  l:∃ v,Boxed W (w.heap.size+1+1) 22 v∧W.ownsRow (w.heap.size+8) 35 1 v pre.length (pre.map (Value.int .u64))
  d:W.heap[w.heap.size+6]? = some (.deferred (some []))
  o:W.heap[w.heap.size+6+1]? = some (.loop (rec .ready none))
  low:Below w.heap.size w W
theorem BV.set{w:World}{rec:LoopState→Option Code→Loop}{pre:List Int}{W:World}(h:BV w rec pre W)(k:Nat)(h1:w.heap.size+3≤k)(h2:k<w.heap.size+6)(u:Value) :BV w rec pre (W.setCell ⟨k,0,none⟩ u):=by
  have hk:∀ j,j≠k→(W.setCell ⟨k,0,none⟩ u).heap[j]? = W.heap[j]?:=fun j hj=>Below.heap_setCell _ _ _ _ hj
  obtain ⟨v,hv,ho⟩:=h.l
  exact ⟨(hk _ (by omega)).trans h.r,(hk _ (by omega)).trans h.e,⟨v,(hk _ (by omega)).trans hv,fR ho fun j hj _=>hk j (by omega)⟩,(hk _ (by omega)).trans h.d,(hk _ (by omega)).trans h.o,h.low.setCell (by show w.heap.size≤k;omega) _⟩
def xH(W:World)(k:Nat) :Nat:=match W.cell? ⟨k,0,none⟩ with
  | some (.string r)=>r.size
  | _=>0
theorem tP{W:World}{k:Nat}{t:TypeId}{r:ByteArray}(h:Boxed W k t (.string r)) :xH W k=r.size:=by
  unfold xH
  rw [h.cell]
structure Df (w:World) (rec:LoopState→Option Code→Loop) (W:World):Prop where
  r:Boxed W w.heap.size 22 (.slice none 0 0)
  e:Boxed W (w.heap.size+1) 24 (.int .i64 4)
  d:W.heap[w.heap.size+6]? = some (.deferred (some []))
  o:W.heap[w.heap.size+6+1]? = some (.loop (rec .done (some .ret)))
  low:Below w.heap.size w W
theorem va(l:List UInt8)(c:UInt8) :Lib.indexByte l c<l.length∨l=[]:=by
  induction l with
  | nil=>exact .inr rfl
  | cons b l ih =>
    left
    unfold Lib.indexByte
    simp only [List.length_cons]
    split
    · omega
    · split
      · omega
      · rcases ih with h | rfl
        · omega
        · exact absurd rfl ‹¬ (Lib.indexByte [] c == -1)=true›
theorem CI{α:Type}(h:Array α)(a b c d e f g i:α)(k:Nat) :((((((((h.push a).push b).push c).push d).push e).push f).push g).push i)[h.size+k]? = #[a,b,c,d,e,f,g,i][k]?:=by
  have e1:((((((((h.push a).push b).push c).push d).push e).push f).push g).push i)=h ++ #[a,b,c,d,e,f,g,i]:=by
    apply Array.toList_inj.1
    simp
  rw [e1,Array.getElem?_append_right (Nat.le_add_right _ _),Nat.add_sub_cancel_left]
def og:Nat→ByteArray→List Int→Option (List Int)
  | 0,_,_=>none
  | f+1,s,acc =>
    if Lib.indexByte s.data.toList 32<0 then (if bF s=true then some (acc++[fm s]) else none)
    else if bF (s.extract 0 (Lib.indexByte s.data.toList 32).toNat)=true then og f (s.extract ((Lib.indexByte s.data.toList 32).toNat+1) s.size) (acc++[fm (s.extract 0 (Lib.indexByte s.data.toList 32).toNat)]) else none
def gn(s:ByteArray) :Option (List Int):=og (s.size+1) s []
set_option maxHeartbeats 2000000 in
theorem oU (s : ByteArray) (hs : s.size ≤ 1000000000) (w : World) (hR : Hid (cE w)) : Calls prog ck #[.string s] w fun e w' => Below w.heap.size w w' ∧
    ((∃ xs v, gn s = some xs ∧ e = .returned (.tuple #[v, .int .i64 0]) ∧ w'.ownsRow (w.heap.size + 8) 35 1 v xs.length (xs.map (Value.int .u64))) ∨ (gn s = none ∧ e = .returned (.tuple #[.slice none 0 0, .int .i64 4]))) := by
  refine (callsIn_wide (n := 6)).1 (callsIn_of_wp_marks Tryd.func9 rfl trivial ?_)
  simp only [Tryd.ntmps9, List.size_toArray, List.length_cons, List.length_nil, Nat.reduceAdd, Nat.reduceSub, Array.replicate_succ, Array.replicate_zero, List.push_toArray, List.append_toArray, List.nil_append, List.cons_append]
  gi_wp2_with (refine ⟨trivial, ?_⟩; gi_at_call 25; refine (callsIn_wide.2 (qX s _ _)).mono ?_; rintro e w' ⟨rfl, rfl⟩)
  obtain ⟨w0, hw0⟩ : ∃ w0, (((((w.alloc (.cells #[.slice none 0 0] 22)).alloc (.cells #[.int .i64 0] 24)).alloc (.cells #[.slice none 0 0] 22)).alloc (.cells #[.string s] 9)).alloc (.cells #[.string ⟨#[32]⟩] 9)).alloc (.cells #[.int .i64 0] 3) = w0 := ⟨_, rfl⟩
  rw [hw0]
  have hsz : w0.heap.size = w.heap.size + 6 := by rw [← hw0]; simp
  refine mt (gf := 63) (m := 5) rfl (enters_of Tryd.func63 (by kernel_rfl) rfl) fun fn rec hrec hy => ?_
  rw [hsz] at hy ⊢
  have round : ∀ (pre : List Int) (x : ByteArray) (W : World), x.size ≤ 1000000000 → pre.length ≤ 1000000000 → BV w rec pre W → YieldAt Fence.wide 4 prog (w.heap.size + 6 + 1) #[.string x] W (fun e W' =>
      (∀ k, w.heap.size + 3 ≤ k → k < w.heap.size + 6 → W'.heap[k]? = W.heap[k]?) ∧ ((bF x = true ∧ e = .returned (.bool true) ∧ BV w rec (pre ++ [fm x]) W') ∨ (bF x = false ∧ e = .returned (.bool false) ∧ Df w rec W'))) := by
    intro pre x W hx hlen hS
    refine hy 4 _ W _ hS.o rfl ?_
    clear hy
    have cR := qT x hx
    gi_wp2
    refine ⟨hS.o, ?_⟩
    obtain ⟨W1, hW1⟩ : ∃ W1, W.putObj (w.heap.size + 6 + 1) (.loop (rec .busy none)) = W1 := ⟨_, rfl⟩
    rw [hW1]
    have hlt : w.heap.size + 6 + 1 < W.heap.size := (Array.getElem?_eq_some_iff.1 hS.o).1
    have hs1 : W1.heap.size = W.heap.size := by rw [← hW1]; simp
    have hk1 : ∀ k, k ≠ w.heap.size + 6 + 1 → W1.heap[k]? = W.heap[k]? := fun k hk => by rw [← hW1]; exact World.putObj_heap_other hk
    have ho1 : W1.heap[w.heap.size + 6 + 1]? = some (.loop (rec .busy none)) := by rw [← hW1]; exact World.putObj_heap_same hlt
    have hb1 : Below w.heap.size w W1 := hS.low.trans (by rw [← hW1]; exact ⟨rfl, rfl, rfl, by simp, fun k hk => World.putObj_heap_other (by omega)⟩)
    have hr1 : Hid (cE W1) := Lib.hid (hR.out.below hb1 (Nat.le_refl _))
    obtain ⟨v0, hv0, hown0⟩ := hS.l
    have hown1 : W1.ownsRow (w.heap.size + 8) 35 1 v0 pre.length (pre.map (Value.int .u64)) := by rw [← hW1]; exact ownsRow_putObj hown0 _ hS.o rfl
    obtain ⟨i0, hi, hz0, hz1, hz2⟩ := info_parts (show (prog.info? 35).map (fun i => (i.zero, i.size, i.bytes)) = some (some (.int .u64 0), 1, 8) by kernel_rfl)
    gi_wp2_with first
      | (refine ⟨trivial, ?_⟩; gi_at_call 26; refine (callsIn_wide.2 (cR _ hr1)).mono ?_; rintro e W2 ⟨rfl, hb2⟩
         have hkb : ∀ k, k < w.heap.size + 6 + 1 → W2.heap[k]? = W.heap[k]? := (fun k hk => (hb2.block k (by omega)).trans (hk1 k (by omega)))
         have hbr : Boxed W2 w.heap.size 22 (.slice none 0 0) := (hkb _ (by omega)).trans hS.r
         have hbe : Boxed W2 (w.heap.size + 1) 24 (.int .i64 0) := (hkb _ (by omega)).trans hS.e
         have hbl : Boxed W2 (w.heap.size + 1 + 1) 22 v0 := (hkb _ (by omega)).trans hv0
         have hbe2 : Boxed (W2.setCell ⟨w.heap.size, 0, none⟩ (.slice none 0 0)) (w.heap.size + 1) 24 (.int .i64 0) := (Below.heap_setCell _ _ _ _ (by first | (simp; done) | (simp; omega))).trans hbe
         have hcl := hbl.cell
         have hcr := hbr.cell
         have hfr := hbr.frozen
         have hce := hbe2.cell
         have hfe := hbe2.frozen
         have hown2 : W2.ownsRow (w.heap.size + 8) 35 1 v0 pre.length (pre.map (Value.int .u64)) := fR hown1 fun k _ hk => hb2.block k hk
         have ho2 := (hb2.block _ (by omega)).trans ho1)
      | (gi_at_builtin; refine wpListIn_append_own _ rfl _ _ 22 rfl (w.heap.size + 8) 35 i0 (.int .u64 0) 1 8 (by kernel_rfl) hi hz0 hz1 hz2 rfl (by decide) _ _ _ rfl (hown2.alloc _) ⟨W2.heap.size, 0, none⟩ 1 1 [.int .u64 (fm x)] rfl rfl (cell_one_new _ _ _) (by simp [Value.oneCell']) (by unfold maxLen; omega) (by omega) (by have := hb2.size; simp; omega) ?_
         intro v' w3 hown3 hgrow _
         obtain ⟨g', cap', rfl⟩ := ownsRow_succ hown3
         have hsz2 := hb2.size
         have hb3 : Below (w.heap.size + 8) W2 w3 := ((Below.refl _ W2).alloc (by omega) _).grown (show (W2.alloc (.cells #[.int .u64 (fm x)] 35)).grownBy w3 v0.ownBlock from hgrow) (by simp; omega) (fun j ej => by
           rcases hown2.2 with ⟨rfl, _⟩ | ⟨g, cap, cur, rfl, hb, _, _⟩
           · simp [Value.ownBlock] at ej
           · obtain rfl : g = j := by simpa [Value.ownBlock] using ej
             exact hb)
         have hbl3 : Boxed w3 (w.heap.size + 1 + 1) 22 v0 := (hb3.block _ (by omega)).trans hbl
         have hcl3 := hbl3.cell
         have hfl3 := hbl3.frozen)
    · have ho : bF x = false := by
        cases q : bF x with
        | false => rfl
        | true =>
          have h1 : (iM x != 0) = true := by assumption
          rw [iM, q] at h1
          exact absurd h1 (by decide)
      have hlow : Below w.heap.size w W2 := hb1.trans (hb2.mono (by omega))
      have hlt2 : w.heap.size + 6 + 1 < W2.heap.size := by have := hb2.size; omega
      have hd2 : W2.heap[w.heap.size + 6]? = some (.deferred (some [])) := (hkb _ (by omega)).trans hS.d
      refine ⟨?_, fun k h1 h2 => ?_, ho, ?_⟩
      · rw [Below.heap_setCell _ _ _ _ (by first | (simp; done) | (simp; omega)), Below.heap_setCell _ _ _ _ (by first | (simp; done) | (simp; omega))]; exact ho2
      · rw [World.putObj_heap_other (by omega), Below.heap_setCell _ _ _ _ (by first | (simp; done) | (simp; omega)), Below.heap_setCell _ _ _ _ (by first | (simp; done) | (simp; omega))]; exact hkb k (by omega)
      · refine ⟨?_, ?_, ?_, ?_, ?_⟩
        · unfold Boxed
          rw [World.putObj_heap_other (by omega), Below.heap_setCell _ _ _ _ (by first | (simp; done) | (simp; omega))]
          exact hbr.set _
        · unfold Boxed
          rw [World.putObj_heap_other (by omega)]
          exact hbe2.set _
        · rw [World.putObj_heap_other (by omega), Below.heap_setCell _ _ _ _ (by first | (simp; done) | (simp; omega)), Below.heap_setCell _ _ _ _ (by first | (simp; done) | (simp; omega))]; exact hd2
        · exact World.putObj_heap_same (by simpa using hlt2)
        · exact db ((hlow.setCell (p := ⟨w.heap.size, 0, none⟩) (by simp) _).setCell (p := ⟨w.heap.size + 1, 0, none⟩) (by simp) _) (by omega) _
    · have ho : bF x = true := by
        cases q : bF x with
        | true => rfl
        | false =>
          have h1 : (iM x != 0) = false := by assumption
          rw [iM, q] at h1
          exact absurd h1 (by decide)
      have hlow : Below w.heap.size w w3 := (hb1.trans (hb2.mono (by omega))).trans (hb3.mono (by omega))
      have hlt3 : w.heap.size + 6 + 1 < w3.heap.size := by have := hb2.size; have := hb3.size; omega
      have hk3 : ∀ k, k < w.heap.size + 6 + 1 → w3.heap[k]? = W.heap[k]? := fun k hk => (hb3.block k (by omega)).trans (hkb k hk)
      refine ⟨?_, fun k h1 h2 => ?_, ho, ?_⟩
      · rw [Below.heap_setCell _ _ _ _ (by first | (simp; done) | (simp; omega)), hb3.block _ (by omega)]; exact ho2
      · rw [World.putObj_heap_other (by omega), Below.heap_setCell _ _ _ _ (by first | (simp; done) | (simp; omega))]; exact hk3 k (by omega)
      · refine ⟨?_, ?_, ⟨.slice (some ⟨g', 0, none⟩) (pre.length + 1) cap', ?_, ?_⟩, ?_, ?_, ?_⟩
        · unfold Boxed
          rw [World.putObj_heap_other (by omega), Below.heap_setCell _ _ _ _ (by first | (simp; done) | (simp; omega))]
          exact (hk3 _ (by omega)).trans hS.r
        · unfold Boxed
          rw [World.putObj_heap_other (by omega), Below.heap_setCell _ _ _ _ (by first | (simp; done) | (simp; omega))]
          exact (hk3 _ (by omega)).trans hS.e
        · unfold Boxed
          rw [World.putObj_heap_other (by omega)]
          exact hbl3.set _
        · have h9 := ownsRow_setCell_below hown3 (a := ⟨w.heap.size + 1 + 1, 0, none⟩) (by first | (simp; done) | (simp; omega)) (.slice (some ⟨g', 0, none⟩) (pre.length + 1) cap')
          refine fR ?_ fun k hk _ => World.putObj_heap_other (by omega)
          simpa using h9
        · rw [World.putObj_heap_other (by omega), Below.heap_setCell _ _ _ _ (by first | (simp; done) | (simp; omega))]; exact (hk3 _ (by omega)).trans hS.d
        · exact World.putObj_heap_same (by simpa using hlt3)
        · exact db (hlow.setCell (p := ⟨w.heap.size + 1 + 1, 0, none⟩) (by show w.heap.size ≤ w.heap.size + 1 + 1; omega) _) (by omega) _
  obtain ⟨W0, hW0⟩ : ∃ W0, (w0.alloc (.deferred (some []))).alloc (.loop (rec .ready none)) = W0 := ⟨_, rfl⟩
  have it : CallsIn Fence.wide 5 prog 63 #[.func (.yield (w.heap.size + 6 + 1)) #[] #[], .pointer (some ⟨w.heap.size + 1 + 1 + 1 + 1, 0, none⟩), .pointer (some ⟨w.heap.size + 1 + 1 + 1, 0, none⟩), .pointer (some ⟨w.heap.size + 1 + 1 + 1 + 2, 0, none⟩)] W0
      (fun e W' => (∃ v, e = .returned v) ∧ ((∃ xs, gn s = some xs ∧ BV w rec xs W') ∨ (gn s = none ∧ Df w rec W'))) := by
    refine callsIn_of_wp Tryd.func63 rfl trivial ?_ rfl
    simp only [Tryd.ntmps63, List.size_toArray, List.length_cons, List.length_nil, Nat.reduceAdd, Nat.reduceSub, Array.replicate_succ, Array.replicate_zero, List.push_toArray, List.append_toArray, List.nil_append, List.cons_append]
    have hat : ∀ k, k < 8 → W0.heap[w.heap.size + k]? = #[Obj.cells #[.slice none 0 0] 22, .cells #[.int .i64 0] 24, .cells #[.slice none 0 0] 22, .cells #[.string s] 9, .cells #[.string ⟨#[32]⟩] 9, .cells #[.int .i64 0] 3, .deferred (some []), .loop (rec .ready none)][k]? := fun k hk => by
      rw [← hW0, ← hw0]
      exact CI w.heap _ _ _ _ _ _ _ _ k
    have hlow0 : Below w.heap.size w W0 := by
      rw [← hW0, ← hw0]
      refine Below.alloc (Below.alloc (Below.alloc (Below.alloc (Below.alloc (Below.alloc (Below.alloc (Below.alloc (Below.refl _ w) ?_ _) ?_ _) ?_ _) ?_ _) ?_ _) ?_ _) ?_ _) ?_ _
      all_goals simp
      all_goals try omega
    have hSt : BV w rec [] W0 := ⟨hat 0 (by omega), hat 1 (by omega), ⟨_, hat 2 (by omega), World.ownsRow_nil _ _ _ _⟩, hat 6 (by omega), hat 7 (by omega), hlow0⟩
    have hq0 : Boxed W0 (w.heap.size + 3) 9 (.string s) := hat 3 (by omega)
    have hq1 : Boxed W0 (w.heap.size + 4) 9 (.string ⟨#[32]⟩) := hat 4 (by omega)
    have hq2 : Boxed W0 (w.heap.size + 5) 3 (.int .i64 0) := hat 5 (by omega)
    clear hat hlow0 hy
    have hc1 : W0.cell? ⟨w.heap.size + 1 + 1 + 1 + 1, 0, none⟩ = some (.string ⟨#[32]⟩) := hq1.cell
    gi_wp2
    gi_loopw [7] (fun _ W => ∃ (r : ByteArray) (pre : List Int) (f : Nat), Boxed W (w.heap.size + 3) 9 (.string r) ∧ Boxed W (w.heap.size + 4) 9 (.string ⟨#[32]⟩) ∧ Boxed W (w.heap.size + 5) 3 (.int .i64 0) ∧
        og f r pre = gn s ∧ r.size < f ∧ pre.length + r.size ≤ s.size ∧ BV w rec pre W) (fun _ W => xH W (w.heap.size + 3))
    case atStart => exact ⟨s, [], s.size + 1, hq0, hq1, hq2, rfl, by omega, by simp, hSt⟩
    case round =>
      obtain ⟨r, pre, f, hb3, hb4, hb5, hu, hf, hl, hS⟩ := hrel
      have cI := fun w' => callsIn_wide (n := 3).2 (Tryd.strings_Index_one r 32 w')
      have h9 : Lib.indexByte r.data.toList 32 < r.size ∨ Lib.indexByte r.data.toList 32 = -1 := by
        rcases va r.data.toList 32 with h | h
        · exact .inl (by simpa using h)
        · rw [h]; exact .inr rfl
      have hge := Lib.indexByte_ge r.data.toList 32
      obtain ⟨i, hi⟩ : ∃ i, Lib.indexByte r.data.toList 32 = i := ⟨_, rfl⟩
      have cIx : Calls prog 65 #[.string r, .string ⟨#[32]⟩] wr (fun e w' => e = .returned (.int .i64 i) ∧ w' = wr) := by rw [← hi]; exact Tryd.strings_Index_one r 32 wr
      obtain ⟨f, rfl⟩ : ∃ g, f = g + 1 := ⟨f - 1, by omega⟩
      simp only [og, hi] at hu
      rw [hi] at h9 hge
      clear cI
      have hc3 := hb3.cell
      have hc4 := hb4.cell
      have hc5 := hb5.cell
      by_cases hneg : i < 0
      · obtain ⟨fn', tmps', assign', body', hy', hR'⟩ := round pre r wr (by omega) (by omega) hS
        gi_wp2_with (refine ⟨trivial, ?_⟩; gi_at_call 65; refine (callsIn_wide.2 cIx).mono ?_; rintro e w' ⟨rfl, rfl⟩)
        refine hR'.mono ?_
        rintro e W3 ⟨_, ⟨ho, rfl, hS3⟩ | ⟨ho, rfl, hS3⟩⟩
        · gi_wp2
          go_end0
          exact ⟨⟨_, rfl⟩, .inl ⟨_, by rw [← hu, if_pos hneg, if_pos ho], hS3⟩⟩
        · gi_wp2
          go_end0
          exact ⟨⟨_, rfl⟩, .inr ⟨by rw [← hu, if_pos hneg, if_neg (by rw [ho]; decide)], hS3⟩⟩
      · obtain ⟨n, rfl⟩ := Int.eq_ofNat_of_zero_le (Int.not_lt.1 hneg)
        obtain ⟨fn', tmps', assign', body', hy', hR'⟩ := round pre (r.extract 0 n) wr (by simp; omega) (by omega) hS
        gi_wp2_with (refine ⟨trivial, ?_⟩; gi_at_call 65; refine (callsIn_wide.2 cIx).mono ?_; rintro e w' ⟨rfl, rfl⟩)
        rw [if_neg (show ¬ ((n : Int) < 0) by omega), Int.toNat_natCast] at hu
        refine hR'.mono ?_
        rintro e W3 ⟨hk, ⟨ho, rfl, hS3⟩ | ⟨ho, rfl, hS3⟩⟩
        · rw [if_pos ho] at hu
          have hb3' : Boxed W3 (w.heap.size + 3) 9 (.string r) := (hk _ (by omega) (by omega)).trans hb3
          have hb4' : Boxed W3 (w.heap.size + 4) 9 (.string ⟨#[32]⟩) := (hk _ (by omega) (by omega)).trans hb4
          have hb5' : Boxed W3 (w.heap.size + 5) 3 (.int .i64 0) := (hk _ (by omega) (by omega)).trans hb5
          have hc3' := hb3'.cell
          have hc4' := hb4'.cell
          have hf3' := hb3'.frozen
          gi_wp2
          have hb6 := hb3'.set (.string (r.extract (n + 1) r.size))
          go_roundw
          case rel =>
            refine ⟨r.extract (n + 1) r.size, pre ++ [fm (r.extract 0 n)], f, hb6, ?_, ?_, hu, ?_, ?_, hS3.set _ (by omega) (by omega) _⟩
            · exact (Below.heap_setCell _ _ _ _ (show w.heap.size + 4 ≠ w.heap.size + 1 + 1 + 1 by omega)).trans hb4'
            · exact (Below.heap_setCell _ _ _ _ (show w.heap.size + 5 ≠ w.heap.size + 1 + 1 + 1 by omega)).trans hb5'
            · simp; omega
            · simp; omega
          case measure =>
            rw [tP hb6, tP hb3]
            simp
            omega
        · rw [if_neg (by rw [ho]; decide)] at hu
          gi_wp2
          refine bodyPost_ret (results_none rfl _ _ _) rfl ?_
          exact ⟨⟨_, rfl⟩, .inr ⟨hu.symm, hS3⟩⟩
  clear round hy
  rw [hW0]
  refine it.mono ?_
  rintro e W' ⟨hv, ⟨xs, hxs, hS⟩ | ⟨hxs, hS⟩⟩
  · refine ⟨hv, .inl ⟨hS.o, ?_⟩⟩
    have hlt : w.heap.size + 6 + 1 < W'.heap.size := (Array.getElem?_eq_some_iff.1 hS.o).1
    obtain ⟨W2, hW2⟩ : ∃ W2, W'.putObj (w.heap.size + 6 + 1) (.loop (rec .exhausted none)) = W2 := ⟨_, rfl⟩
    rw [hW2]
    have hk : ∀ k, k ≠ w.heap.size + 6 + 1 → W2.heap[k]? = W'.heap[k]? := fun k hk => by rw [← hW2]; exact World.putObj_heap_other hk
    obtain ⟨v, hv, ho⟩ := hS.l
    have br : Boxed W2 w.heap.size 22 (.slice none 0 0) := (hk _ (by omega)).trans hS.r
    have be : Boxed W2 (w.heap.size + 1) 24 (.int .i64 0) := (hk _ (by omega)).trans hS.e
    have bl : Boxed W2 (w.heap.size + 1 + 1) 22 v := (hk _ (by omega)).trans hv
    have hcl := bl.cell
    have hcr := br.cell
    have hfr := br.frozen
    obtain ⟨p, n, cap, rfl⟩ : ∃ p n cap, v = .slice p n cap := by
      rcases ho.2 with ⟨rfl, _⟩ | ⟨g, cap, cur, rfl, _⟩
      · exact ⟨_, _, _, rfl⟩
      · exact ⟨_, _, _, rfl⟩
    have be2 : Boxed (W2.setCell ⟨w.heap.size, 0, none⟩ (.slice p n cap)) (w.heap.size + 1) 24 (.int .i64 0) := (Below.heap_setCell _ _ _ _ (by first | (simp; done) | (simp; omega))).trans be
    have hce := be2.cell
    have hfe := be2.frozen
    gi_wp2
    obtain ⟨W3, hW3⟩ : ∃ W3, (W2.setCell ⟨w.heap.size, 0, none⟩ (.slice p n cap)).setCell ⟨w.heap.size + 1, 0, none⟩ (.int .i64 0) = W3 := ⟨_, rfl⟩
    rw [hW3]
    have be3 : Boxed W3 (w.heap.size + 1) 24 (.int .i64 0) := by rw [← hW3]; exact be2.set _
    have br3 : Boxed W3 w.heap.size 22 (.slice p n cap) := by
      rw [← hW3]
      exact (Below.heap_setCell _ _ _ _ (by first | (simp; done) | (simp; omega))).trans (br.set _)
    have hk3 : ∀ k, w.heap.size + 2 ≤ k → k ≠ w.heap.size + 6 + 1 → W3.heap[k]? = W'.heap[k]? := fun k h1 h2 => by
      rw [← hW3, Below.heap_setCell _ _ _ _ (by show k ≠ w.heap.size + 1; omega), Below.heap_setCell _ _ _ _ (by show k ≠ w.heap.size; omega)]; exact hk k h2
    have hd : W3.heap[w.heap.size + 6]? = some (.deferred (some [])) := (hk3 _ (by omega) (by omega)).trans hS.d
    have hlow : Below w.heap.size w W3 := by
      rw [← hW3, ← hW2]
      exact ((db hS.low (by omega) _).setCell (p := ⟨w.heap.size, 0, none⟩) (by simp) _).setCell (p := ⟨w.heap.size + 1, 0, none⟩) (by simp) _
    have hown : (W3.putObj (w.heap.size + 6) (.deferred none)).ownsRow (w.heap.size + 8) 35 1 (.slice p n cap) xs.length (xs.map (Value.int .u64)) :=
      fR ho fun k h1 _ => (World.putObj_heap_other (by omega)).trans (hk3 k (by omega) (by omega))
    refine ⟨by simp, .inl ⟨_, _, rfl, run_takeDeferred hd, ?_⟩⟩
    exact ⟨_, lD (a := ⟨w.heap.size, 0, none⟩) (b := ⟨w.heap.size + 1, 0, none⟩) rfl rfl rfl (by kernel_rfl) (by kernel_rfl) (Boxed.cell ((World.putObj_heap_other (by omega)).trans br3)) (Boxed.cell ((World.putObj_heap_other (by omega)).trans be3)), db hlow (by omega) _, .inl ⟨xs, _, hxs, rfl, hown⟩⟩
  · refine ⟨hv, .inr ⟨_, hS.o, ?_⟩⟩
    have hlt : w.heap.size + 6 + 1 < W'.heap.size := (Array.getElem?_eq_some_iff.1 hS.o).1
    obtain ⟨W2, hW2⟩ : ∃ W2, W'.putObj (w.heap.size + 6 + 1) (.loop (rec .exhausted (some .ret))) = W2 := ⟨_, rfl⟩
    rw [hW2]
    have hk : ∀ k, k ≠ w.heap.size + 6 + 1 → W2.heap[k]? = W'.heap[k]? := fun k hk => by rw [← hW2]; exact World.putObj_heap_other hk
    have br : Boxed W2 w.heap.size 22 (.slice none 0 0) := (hk _ (by omega)).trans hS.r
    have be : Boxed W2 (w.heap.size + 1) 24 (.int .i64 4) := (hk _ (by omega)).trans hS.e
    have hcr := br.cell
    have hce := be.cell
    have hd : W2.heap[w.heap.size + 6]? = some (.deferred (some [])) := (hk _ (by omega)).trans hS.d
    have hlow : Below w.heap.size w W2 := by rw [← hW2]; exact db hS.low (by omega) _
    gi_wp2
    refine ⟨by simp, .inl ⟨_, _, rfl, run_takeDeferred hd, ?_⟩⟩
    exact ⟨_, lD (a := ⟨w.heap.size, 0, none⟩) (b := ⟨w.heap.size + 1, 0, none⟩) rfl rfl rfl (by kernel_rfl) (by kernel_rfl) (Boxed.cell ((World.putObj_heap_other (by omega)).trans br)) (Boxed.cell ((World.putObj_heap_other (by omega)).trans be)), db hlow (by omega) _, .inr ⟨hxs, rfl⟩⟩
def dA(s:ByteArray) :Bool:=(gn s).isSome
def ij(s:ByteArray) :List Int:=(gn s).getD []
theorem xI{ρ:aa}{W:World}{base:Nat}{t:TypeId}{k:IntKind}{v:Value}{xs:List Int}(h:W.ownsRow base t 1 v xs.length (xs.map (Value.int k)))(ha:∀ bl,base≤bl→ρ.avoid .free bl) :
    VR ρ W (.imm .free (.ns k xs) 1 1 0 xs.length) v:=by
  rcases h.2 with ⟨rfl,h0⟩ | ⟨g,cap,cur,rfl,hg,hc,hn,_,hs,ht⟩
  · rw [h0];exact .immEnd _ _ _ _ _ _ _ trivial (fun _=>rfl) rfl
  · refine .imm .free (.ns k xs) 1 1 0 xs.length cap g 0 (fun x=>.int k (xs.getD x 0)) (ha g hg) (Array.getElem?_eq_some_iff.1 hc).1 (fun x v hx=>?_) (fun x v hx=>?_) hn trivial (fun _=>rfl) rfl
    · simp only [ae.cell?] at hx
      cases hq:xs[x]? with
      | none=>rw [hq] at hx;cases hx
      | some z =>
        have hlt:=(List.getElem?_eq_some_iff.1 hq).1
        have h1:(cur.toList.take (xs.length*1))[x]? = some (.int k z):=by rw [ht,List.getElem?_map,hq];rfl
        rw [List.getElem?_take,if_pos (by omega)] at h1
        simp only [World.cell?,hc,Nat.zero_add]
        rw [List.getD_eq_getElem?_getD,hq]
        simpa using h1
    · simp only [ae.cell?] at hx
      cases hq:xs[x]? with
      | none=>rw [hq] at hx;cases hx
      | some z =>
        rw [hq] at hx
        cases hx
        rw [List.getD_eq_getElem?_getD,hq]
        exact .int _ _
theorem yF(s:ByteArray)(hs:s.size≤1000000000) :(∀ h:dA s=true,ah prog ck [] [.str s] ⟨.tup [.imm .free (.ns .u64 (ij s)) 1 1 0 (ij s).length,.int .i64 0],[]⟩) ∧
    (∀ h:(!dA s)=true,ah prog ck [] [.str s] ⟨.tup [.nsl,.int .i64 4],[]⟩):=by
  refine ⟨fun ho=>?_,fun ho=>?_⟩
  · refine ba ⟨FN ck,by kernel_rfl,by kernel_rfl⟩ fun ρ w us hN hv=>?_
    cases hv with | cons _ u _ _ h1 h2 =>
    cases h2;cases h1
    refine (oU s hs w (Lib.hid hN.romOk)).mono ?_
    rintro e w' ⟨hb,⟨xs,v,hx,rfl,hown⟩ | ⟨hx,rfl⟩⟩
    · have e1:ij s=xs:=by unfold ij;rw [hx];rfl
      rw [e1]
      exact ⟨_,rfl,hb,.tup _ _ (.cons _ _ _ _ (xI hown fun bl hbl=>bC.new hN bl (by omega)) (.cons _ _ _ _ (.int _ _) .nil))⟩
    · unfold dA at ho;rw [hx] at ho;cases ho
  · refine ba ⟨FN ck,by kernel_rfl,by kernel_rfl⟩ fun ρ w us hN hv=>?_
    cases hv with | cons _ u _ _ h1 h2 =>
    cases h2;cases h1
    refine (oU s hs w (Lib.hid hN.romOk)).mono ?_
    rintro e w' ⟨hb,⟨xs,v,hx,rfl,hown⟩ | ⟨hx,rfl⟩⟩
    · unfold dA at ho;rw [hx] at ho;cases ho
    · exact ⟨_,rfl,hb,.tup _ _ (.cons _ _ _ _ .nsl (.cons _ _ _ _ (.int _ _) .nil))⟩
noncomputable def yG:aM:=dt ck (.cons .str .nil) fun t =>
  [⟨⟨.tup [.imm .free (.ns .u64 (ij t.1)) 1 1 0 (ij t.1).length,.int .i64 0],[]⟩,[dA t.1,ka t.1.size]⟩,⟨⟨.tup [.nsl,.int .i64 4],[]⟩,[!dA t.1,ka t.1.size]⟩]
theorem xJ:aT prog yG:=a8 fun t a ha ho=>by
  simp only [List.mem_cons,List.not_mem_nil,or_false] at ha
  rcases ha with rfl | rfl
  · exact (yF t.1 (Nat.le_of_ble_eq_true ho.2.1)).1 ho.1
  · exact (yF t.1 (Nat.le_of_ble_eq_true ho.2.1)).2 ho.1
end Go.Plb.Seat
namespace Go.Plb.Seat
open Go Go.Plb
noncomputable def A2:aM:=dt fh (.cons (.int .u64) .nil) fun t=>[⟨⟨.str (aD t.1),[]⟩,[]⟩]
theorem zq:aT prog A2:=a8 fun t a ha ho=>by
  simp only [List.mem_singleton] at ha
  subst ha
  exact AT t.1
noncomputable def Ck:List aM:=[uK,oc,AW,AZ,wy,A1,yG,A2]
theorem nn:aX prog (a7 Ck):=au xA (au uM (au zn (au zo (au wz (au zp (au xJ (au zq (mp prog))))))))
end Go.Plb.Seat
namespace Go.Plb.Seat
open Go Go.Plb
set_option linter.unusedVariables false
set_option maxRecDepth 100000
noncomputable section
inductive bd where
  | r0 (s9:ByteArray)
def fS:bd→AE×ax
  | .r0 s9=>(.ret,⟨aH 20 [(2,.str s9)],[],0⟩)
theorem ik:r7 fS:=by intro x;cases x<;>(intro h;cases h)
theorem sy(id:Nat) :pg id fS:=by intro x;cases x<;>(intro h;cases h)
def js:bd→jB
  | .r0 s9=>⟨.str s9,[]⟩
noncomputable def sA:List Code:=c8 (qM jj)
def sB(v_0:Lv)(words_1:List Int)(_:Unit) :ax:=⟨aH 20 [(3,.nsl),(6,.imm v_0 (.ns .u64 words_1) 1 1 0 (List.length words_1)),(7,.int .i64 (((List.length words_1):Nat):Int)),(8,.int .i64 (0:Int))],[],0⟩
def sC:T ((Unit)⊕(bd)) :=
  .leaf (.inl ())
def eU(v_0:Lv)(words_1:List Int) :Nat×Nat×Nat×(List ByteArray)→ax:=fun (l2,l3,a4,l5)=>⟨aH 20 [(3,.sl 0 1 1 0 l2 l3),(6,.imm v_0 (.ns .u64 words_1) 1 1 0 (List.length words_1)),(7,.int .i64 (((List.length words_1):Nat):Int)),(8,.int .i64 ((a4:Nat):Int))],[(0,.ss l5)],1⟩
def lE:Nat×Nat×(List ByteArray)→ax:=fun (l6,l7,l8)=>⟨aH 20 [(3,.sl 0 1 1 0 l6 l7)],[(0,.ss l8)],1⟩
noncomputable def sD:List Code:=c8 (ii ((((sA.drop 3).take 1)).headD .skip))
def qY(words_1:List Int)(l2:Nat)(l3:Nat)(a4:Nat)(l5:List ByteArray) :T ((Nat×Nat×Nat×(List ByteArray))⊕((Nat×Nat×(List ByteArray))⊕(bd))) :=
  .ask (decide (((a4:Nat):Int)<(((List.length words_1):Nat):Int)))
    (.need (r5 ((a4:Nat):Int) (List.length words_1))<|.need (iQ a4 (List.length words_1))<|.need (dd ((l2+1)*16) 140737488355328)<|.need (dd (l2+1) 9223372036854775807)<|.need (dd 1 (List.length [(aD (List.getD words_1 a4 0))]))<|.need (dd l2 (List.length l5))<|.need (jO .i64 (((a4+1):Nat):Int))<|.leaf (.inl ((l2+1),(l2+1),(a4+1),((List.take l2 l5)++(List.take 1 [(aD (List.getD words_1 a4 0))])))))
    (.leaf (.inr (.inl (l2,l3,l5))))
noncomputable def gp(words_1:List Int) :Nat×Nat×Nat×(List ByteArray)→Option ((Nat×Nat×Nat×(List ByteArray))⊕((Nat×Nat×(List ByteArray))⊕(bd))):=fun (l2,l3,a4,l5) =>
  (qY words_1 l2 l3 a4 l5).run
theorem qZ(v_0:Lv)(words_1:List Int)(l2:Nat)(l3:Nat)(a4:Nat)(l5:List ByteArray) :Sg prog [] sD (eU v_0 words_1 (l2,l3,a4,l5)) (gp words_1 (l2,l3,a4,l5)) (eU v_0 words_1) (fi 0 lE fS):=by
  unfold gp;exact gE nn (eU v_0 words_1) [⟨[],[129],[3,6,7,8]⟩,⟨[],[0],[3]⟩]
def gq(l6:Nat)(l8:List ByteArray) :T ((Empty)⊕(bd)) :=
  .need (j4 0 l6 l8)<|.need (Cj (ByteArray.mk #[32]))<|.need (ka (jE (cO 0 l6 l8)).size)<|.need (ka (List.length (cO 0 l6 l8)))<|.leaf (.inr (.r0 (jE (cO 0 l6 l8))))
noncomputable def dZ(words_1:List Int) :Option bd:=wu (cF ((sC).run) fun _ =>
  cF (cm (gp words_1) (0,0,0,([]:List ByteArray))) fun (l6,l7,l8) =>
  (gq l6 l8).run)
theorem lF(v_0:Lv)(words_1:List Int){x:bd}(h:dZ words_1=some x) :ah prog jj [] [.imm v_0 (.ns .u64 words_1) 1 1 0 (List.length words_1)] (js x) :=
  zj false js fS h (Sg.cut 3 ik (gE nn (sB v_0 words_1) [⟨[],[],[3,6,7,8]⟩]) (fun _=>Sg.cut 1 ik (BU ⟨[(.slot 3,.own 1 1 (.ss ([]:List ByteArray)))],[0],[3,6,7,8]⟩ (eU v_0 words_1) (lE) 0 ik (sy _) (fun ⟨l2,l3,a4,l5⟩=>qZ v_0 words_1 l2 l3 a4 l5)) (fun ⟨l6,l7,l8⟩=>gE nn xF [⟨[],[],[2]⟩])))
    (fun x=>by cases x with | r0 s9=>exact tM [.str s9])
def eV:Option bd→Bool
  | some _=>true
  | none=>false
def fy:Option bd→ByteArray
  | some (.r0 x)=>x
  | _=>ByteArray.empty
theorem sE{x:Option bd}(h:eV x=true) :x=some (.r0 (fy x)):=by
  unfold eV at h
  split at h<;>first | rfl | (cases h;done) | (rename_i y;cases y;rfl)
noncomputable def np:aM:=dt jj (.cons (.ns .u64) .nil) fun t=>(fun q=>[⟨js (.r0 (fy q)),[eV q]⟩]) (dZ t.1.2)
theorem pj:aT prog np:=a8 fun t=>(bH (fun h=>lF t.1.1 t.1.2 (sE h)) b8)
noncomputable def nq:List aM:=np::Ck
theorem jF:aX prog (a7 nq):=au pj nn
inductive bN where
  | r0 (s1:ByteArray)
def sF:bN→AE×ax
  | .r0 s1=>(.ret,⟨aH 12 [(4,.str s1)],[],0⟩)
def il:bN→jB
  | .r0 s1=>⟨.str s1,[]⟩
def q7(m_0:Int)(n_1:Int) :T ((Empty)⊕(bN)) :=
  .need (jO .i64 m_0)<|.need (decide ((ByteArray.mk #[109,97,116,114,105,120,32]).size+(cG m_0).size≤9223372036854775807))<|.need (decide (((ByteArray.mk #[109,97,116,114,105,120,32])++(cG m_0)).size+(ByteArray.mk #[32]).size≤9223372036854775807))<|.need (jO .i64 n_1)<|.need (decide ((((ByteArray.mk #[109,97,116,114,105,120,32])++(cG m_0))++(ByteArray.mk #[32])).size+(cG n_1).size≤9223372036854775807))<|.leaf (.inr (.r0 ((((ByteArray.mk #[109,97,116,114,105,120,32])++(cG m_0))++(ByteArray.mk #[32]))++(cG n_1))))
noncomputable def im(m_0:Int)(n_1:Int) :Option bN:=wu ((q7 m_0 n_1).run)
theorem kf(m_0:Int)(n_1:Int){x:bN}(h:im m_0 n_1=some x) :ah prog lB [] [.int .i64 m_0,.int .i64 n_1] (il x) :=
  zj false il sF h (gE jF xF [⟨[],[],[4]⟩])
    (fun x=>by cases x with | r0 s1=>exact tM [.str s1])
def gr:Option bN→Bool
  | some _=>true
  | none=>false
def iN:Option bN→ByteArray
  | some (.r0 x)=>x
  | _=>ByteArray.empty
theorem q8{x:Option bN}(h:gr x=true) :x=some (.r0 (iN x)):=by
  unfold gr at h
  split at h<;>first | rfl | (cases h;done) | (rename_i y;cases y;rfl)
noncomputable def lG:aM:=dt lB (.cons (.int .i64) (.cons (.int .i64) .nil)) fun t=>(fun q=>[⟨il (.r0 (iN q)),[gr q]⟩]) (im t.1 t.2.1)
theorem oh:aT prog lG:=a8 fun t=>(bH (fun h=>kf t.1 t.2.1 (q8 h)) b8)
noncomputable def lH:List aM:=lG::nq
theorem dc:aX prog (a7 lH):=au oh jF
inductive aO where
  | r0 (b7:Bool)
def kg:aO→AE×ax
  | .r0 b7=>(.ret,⟨aH 37 [(2,.bool false b7)],[],0⟩)
theorem jG:r7 kg:=by intro x;cases x<;>(intro h;cases h)
def gu:aO→jB
  | .r0 b7=>⟨.bool false b7,[]⟩
def pk(a_0:Int)(a_1:Int)(a_2:Int)(v_3:Lv)(a_4:List Int)(a_5:Int)(a_6:Int) :Bool×ByteArray×Nat×Bool×Bool→ax:=fun (is1,s2,a3,b4,b5)=>⟨aH 37 [(1,.ptr 0 1 0 0),(3,.ptr 1 1 0 0),(4,.bool false is1)],[(0,.vs [.int .i64 a_0,.int .i64 a_1,.int .i64 a_2,.imm v_3 (.ns .u64 a_4) 1 1 0 (List.length a_4),.int .i64 a_5,.int .u64 a_6]),(1,.vs [.str s2,.int .i64 ((a3:Nat):Int),.bool false b4,.bool false b5])],2⟩
def pm(a_0 : Int) : T ((Bool × ByteArray × Nat × Bool × Bool) ⊕ (aO)) :=
  .alt 0
    (.need (a_0==(1:Int))<|.leaf (.inl (true,(ByteArray.mk #[101,105,103,101,110]),3,false,true)))
    (.alt 1
      (.need (a_0==(2:Int))<|.leaf (.inl (true,(ByteArray.mk #[118,97,108,117,101,115]),0,false,true)))
      (.alt 2
        (.need (a_0==(3:Int))<|.leaf (.inl (true,(ByteArray.mk #[115,118,100]),2,false,false)))
        (.alt 3
          (.need (a_0==(4:Int))<|.leaf (.inl (true,(ByteArray.mk #[114,97,110,107]),2,true,false)))
          (.alt 4
            (.need (a_0==(5:Int))<|.leaf (.inl (true,(ByteArray.mk #[105,110,118,101,114,115,101]),2,true,false)))
            (.alt 5
              (.need (a_0==(6:Int))<|.leaf (.inl (true,(ByteArray.mk #[99,111,110,100]),2,false,false)))
              (.alt 6
                (.need (!(a_0==(1:Int)))<|.need (!(a_0==(2:Int)))<|.need (!(a_0==(3:Int)))<|.need (!(a_0==(4:Int)))<|.need (!(a_0==(5:Int)))<|.need (!(a_0==(6:Int)))<|.leaf (.inl (false,ByteArray.empty,0,false,false)))
                (.fail)))))))
def pn(b6:Bool) :ax:=⟨aH 37 [(2,.bool false b6)],[],0⟩
def jH(a_5:Int)(a_6:Int)(is1:Bool)(a3:Nat)(b4:Bool) :T ((Bool)⊕(aO)) :=
  .ask is1
    (.ask (decide (a_5≥(wU (1:Int) ((a3:Nat):Int))))
      (.ask (decide (a_5≤((a3:Nat):Int)))
        (.ask b4
          (.leaf (.inl true))
          (.leaf (.inl (a_6==(0:Int)))))
        (.leaf (.inl false)))
      (.leaf (.inl false)))
    (.leaf (.inl false))
def po(b6:Bool) :T ((Empty)⊕(aO)) :=
  .leaf (.inr (.r0 b6))
noncomputable def cT(a_0:Int)(a_5:Int)(a_6:Int) :Option aO:=wu (cF ((pm a_0).run) fun (is1,s2,a3,b4,b5) =>
  cF ((jH a_5 a_6 is1 a3 b4).run) fun b6 =>
  (po b6).run)
theorem pq(a_0:Int)(a_1:Int)(a_2:Int)(v_3:Lv)(a_4:List Int)(a_5:Int)(a_6:Int){x:aO}(h:cT a_0 a_5 a_6=some x) :ah prog j7 [] [.agg [.int .i64 a_0,.int .i64 a_1,.int .i64 a_2,.imm v_3 (.ns .u64 a_4) 1 1 0 (List.length a_4),.int .i64 a_5,.int .u64 a_6]] (gu x) :=
  zj false gu kg h (Sg.cut 2 jG (gE dc (pk a_0 a_1 a_2 v_3 a_4 a_5 a_6) [⟨[],[0,144],[1,3,4]⟩,⟨[],[0,144],[1,3,4]⟩,⟨[],[0,144],[1,3,4]⟩,⟨[],[0,144],[1,3,4]⟩,⟨[],[0,144],[1,3,4]⟩,⟨[],[0,144],[1,3,4]⟩,⟨[],[0,144],[1,3,4]⟩]) (fun ⟨is1,s2,a3,b4,b5⟩=>Sg.cut 1 jG (gE dc pn [⟨[],[],[2]⟩,⟨[],[],[2]⟩,⟨[],[],[2]⟩,⟨[],[],[2]⟩,⟨[],[],[2]⟩]) (fun b6=>gE dc xF [⟨[],[],[2]⟩])))
    (fun x=>by cases x with | r0 b7=>exact tM [.bool false b7])
def dB:Option aO→Bool
  | some _=>true
  | none=>false
def d4:Option aO→Bool
  | some (.r0 x)=>x
  | _=>false
theorem pr{x:Option aO}(h:dB x=true) :x=some (.r0 (d4 x)):=by
  unfold dB at h
  split at h<;>first | rfl | (cases h;done) | (rename_i y;cases y;rfl)
noncomputable def kh:aM:=dt j7 (.cons (.agg (.cons (.int .i64) (.cons (.int .i64) (.cons (.int .i64) (.cons (.ns .u64) (.cons (.int .i64) (.cons (.int .u64) .nil))))))) .nil) fun t=>(fun q=>[⟨gu (.r0 (d4 q)),[dB q]⟩]) (cT t.1.1 t.1.2.2.2.2.1 t.1.2.2.2.2.2.1)
theorem nr:aT prog kh:=a8 fun t=>(bH (fun h=>pq t.1.1 t.1.2.1 t.1.2.2.1 t.1.2.2.2.1.1 t.1.2.2.2.1.2 t.1.2.2.2.2.1 t.1.2.2.2.2.2.1 (pr h)) b8)
noncomputable def ki:List aM:=kh::lH
theorem d5:aX prog (a7 ki):=au nr dc
inductive bu where
  | r0 (b2:Bool)
def nt:bu→AE×ax
  | .r0 b2=>(.ret,⟨aH 41 [(2,.bool false b2)],[],0⟩)
theorem sG:r7 nt:=by intro x;cases x<;>(intro h;cases h)
def jt:bu→jB
  | .r0 b2=>⟨.bool false b2,[]⟩
def sH(b1:Bool) :ax:=⟨aH 41 [(2,.bool false b1)],[],0⟩
def sI(a_0 : Int)(a_1 : Int)(a_2 : Int)(a_4 : List Int)(a_5 : Int)(a_6 : Int) : T ((Bool) ⊕ (bu)) :=
  .ask (decide (a_1 ≥ (0 : Int)))
    (.ask (decide (a_1 ≤ (512 : Int)))
      (.ask (decide (a_2 ≥ (0 : Int)))
        (.ask (decide (a_2≤(512:Int)))
          (.need (jO .i64 (a_1*a_2))<|.ask ((((List.length a_4):Nat):Int)==(a_1*a_2))
            (.need (j4 0 (List.length a_4) a_4)<|.need (dB (cT a_0 a_5 a_6))<|.ask (d4 (cT a_0 a_5 a_6))
              (.ask (a_1 == a_2)
                (.leaf (.inl true))
                (.alt 0
                  (.need (a_0==(1:Int))<|.leaf (.inl false))
                  (.alt 1
                    (.need (a_0==(2:Int))<|.leaf (.inl false))
                    (.alt 2
                      (.need (a_0==(3:Int))<|.leaf (.inl true))
                      (.alt 3
                        (.need (a_0==(4:Int))<|.leaf (.inl true))
                        (.alt 4
                          (.need (a_0==(5:Int))<|.leaf (.inl true))
                          (.alt 5
                            (.need (a_0==(6:Int))<|.leaf (.inl true))
                            (.alt 6
                              (.need (!(a_0==(1:Int)))<|.need (!(a_0==(2:Int)))<|.need (!(a_0==(3:Int)))<|.need (!(a_0==(4:Int)))<|.need (!(a_0==(5:Int)))<|.need (!(a_0==(6:Int)))<|.leaf (.inl true))
                              (.fail)))))))))
              (.leaf (.inl false)))
            (.leaf (.inl false)))
          (.leaf (.inl false)))
        (.leaf (.inl false)))
      (.leaf (.inl false)))
    (.leaf (.inl false))
def sJ(b1:Bool) :T ((Empty)⊕(bu)) :=
  .leaf (.inr (.r0 b1))
noncomputable def ju(a_0:Int)(a_1:Int)(a_2:Int)(a_4:List Int)(a_5:Int)(a_6:Int) :Option bu:=wu (cF ((sI a_0 a_1 a_2 a_4 a_5 a_6).run) fun b1 =>
  (sJ b1).run)
theorem lI(a_0:Int)(a_1:Int)(a_2:Int)(v_3:Lv)(a_4:List Int)(a_5:Int)(a_6:Int){x:bu}(h:ju a_0 a_1 a_2 a_4 a_5 a_6=some x) :ah prog na [] [.agg [.int .i64 a_0,.int .i64 a_1,.int .i64 a_2,.imm v_3 (.ns .u64 a_4) 1 1 0 (List.length a_4),.int .i64 a_5,.int .u64 a_6]] (jt x) :=
  zj false jt nt h (Sg.cut 2 sG (gE d5 sH [⟨[],[],[2]⟩,⟨[],[],[2]⟩,⟨[],[],[2]⟩,⟨[],[],[2]⟩,⟨[],[],[2]⟩,⟨[],[],[2]⟩,⟨[],[],[2]⟩,⟨[],[],[2]⟩,⟨[],[],[2]⟩,⟨[],[],[2]⟩,⟨[],[],[2]⟩,⟨[],[],[2]⟩,⟨[],[],[2]⟩,⟨[],[],[2]⟩]) (fun b1=>gE d5 xF [⟨[],[],[2]⟩]))
    (fun x=>by cases x with | r0 b2=>exact tM [.bool false b2])
def io:Option bu→Bool
  | some _=>true
  | none=>false
def jI:Option bu→Bool
  | some (.r0 x)=>x
  | _=>false
theorem sK{x:Option bu}(h:io x=true) :x=some (.r0 (jI x)):=by
  unfold io at h
  split at h<;>first | rfl | (cases h;done) | (rename_i y;cases y;rfl)
noncomputable def nu:aM:=dt na (.cons (.agg (.cons (.int .i64) (.cons (.int .i64) (.cons (.int .i64) (.cons (.ns .u64) (.cons (.int .i64) (.cons (.int .u64) .nil))))))) .nil) fun t=>(fun q=>[⟨jt (.r0 (jI q)),[io q]⟩]) (ju t.1.1 t.1.2.1 t.1.2.2.1 t.1.2.2.2.1.2 t.1.2.2.2.2.1 t.1.2.2.2.2.2.1)
theorem pt:aT prog nu:=a8 fun t=>(bH (fun h=>lI t.1.1 t.1.2.1 t.1.2.2.1 t.1.2.2.2.1.1 t.1.2.2.2.1.2 t.1.2.2.2.2.1 t.1.2.2.2.2.2.1 (sK h)) b8)
noncomputable def nv:List aM:=nu::ki
theorem cH:aX prog (a7 nv):=au pt d5
inductive aP where
  | r0 (s7:ByteArray)
def lJ:aP→AE×ax
  | .r0 s7=>(.ret,⟨aH 29 [(2,.str s7)],[],0⟩)
theorem gv:r7 lJ:=by intro x;cases x<;>(intro h;cases h)
def ip:aP→jB
  | .r0 s7=>⟨.str s7,[]⟩
def q9(a_0:Int)(a_1:Int)(a_2:Int)(v_3:Lv)(a_4:List Int)(a_5:Int)(a_6:Int) :ByteArray×Nat×Bool×Bool→ax:=fun (s1,a2,b3,b4)=>⟨aH 29 [(1,.ptr 0 1 0 0),(3,.ptr 1 1 0 0)],[(0,.vs [.int .i64 a_0,.int .i64 a_1,.int .i64 a_2,.imm v_3 (.ns .u64 a_4) 1 1 0 (List.length a_4),.int .i64 a_5,.int .u64 a_6]),(1,.vs [.str s1,.int .i64 ((a2:Nat):Int),.bool false b3,.bool false b4])],2⟩
def ra(a_0 : Int) : T ((ByteArray × Nat × Bool × Bool) ⊕ (aP)) :=
  .alt 0
    (.need (a_0==(1:Int))<|.leaf (.inl ((ByteArray.mk #[101,105,103,101,110]),3,false,true)))
    (.alt 1
      (.need (a_0==(2:Int))<|.leaf (.inl ((ByteArray.mk #[118,97,108,117,101,115]),0,false,true)))
      (.alt 2
        (.need (a_0==(3:Int))<|.leaf (.inl ((ByteArray.mk #[115,118,100]),2,false,false)))
        (.alt 3
          (.need (a_0==(4:Int))<|.leaf (.inl ((ByteArray.mk #[114,97,110,107]),2,true,false)))
          (.alt 4
            (.need (a_0==(5:Int))<|.leaf (.inl ((ByteArray.mk #[105,110,118,101,114,115,101]),2,true,false)))
            (.alt 5
              (.need (a_0==(6:Int))<|.leaf (.inl ((ByteArray.mk #[99,111,110,100]),2,false,false)))
              (.alt 6
                (.need (!(a_0==(1:Int)))<|.need (!(a_0==(2:Int)))<|.need (!(a_0==(3:Int)))<|.need (!(a_0==(4:Int)))<|.need (!(a_0==(5:Int)))<|.need (!(a_0==(6:Int)))<|.leaf (.inl (ByteArray.empty,0,false,false)))
                (.fail)))))))
def rb(a_0:Int)(a_1:Int)(a_2:Int)(v_3:Lv)(a_4:List Int)(a_5:Int)(a_6:Int)(s1:ByteArray)(a2:Nat)(b3:Bool)(b4:Bool)(s5:ByteArray) :ax:=⟨aH 29 [(1,.ptr 0 1 0 0),(3,.ptr 1 1 0 0),(4,.str s5)],[(0,.vs [.int .i64 a_0,.int .i64 a_1,.int .i64 a_2,.imm v_3 (.ns .u64 a_4) 1 1 0 (List.length a_4),.int .i64 a_5,.int .u64 a_6]),(1,.vs [.str s1,.int .i64 ((a2:Nat):Int),.bool false b3,.bool false b4])],2⟩
def kj(a_5:Int)(s1:ByteArray)(a2:Nat) :T ((ByteArray)⊕(aP)) :=
  .ask (decide (((a2:Nat):Int)>(0:Int)))
    (.need (jO .i64 a_5)<|.need (decide ((ByteArray.mk #[32]).size+(cG a_5).size≤9223372036854775807))<|.need (decide (s1.size+((ByteArray.mk #[32])++(cG a_5)).size≤9223372036854775807))<|.leaf (.inl (s1++((ByteArray.mk #[32])++(cG a_5)))))
    (.leaf (.inl s1))
def rc(s6:ByteArray) :ax:=⟨aH 29 [(4,.str s6)],[],0⟩
def re(a_6:Int)(b3:Bool)(s5:ByteArray) :T ((ByteArray)⊕(aP)) :=
  .ask b3
    (.need (decide ((ByteArray.mk #[32]).size+(aD a_6).size≤9223372036854775807))<|.need (decide (s5.size+((ByteArray.mk #[32])++(aD a_6)).size≤9223372036854775807))<|.leaf (.inl (s5++((ByteArray.mk #[32])++(aD a_6)))))
    (.leaf (.inl s5))
def rf(s6:ByteArray) :T ((Empty)⊕(aP)) :=
  .leaf (.inr (.r0 s6))
noncomputable def iq(a_0:Int)(a_5:Int)(a_6:Int) :Option aP:=wu (cF ((ra a_0).run) fun (s1,a2,b3,b4) =>
  cF ((kj a_5 s1 a2).run) fun s5 =>
  cF ((re a_6 b3 s5).run) fun s6 =>
  (rf s6).run)
theorem ko(a_0:Int)(a_1:Int)(a_2:Int)(v_3:Lv)(a_4:List Int)(a_5:Int)(a_6:Int){x:aP}(h:iq a_0 a_5 a_6=some x) :ah prog lA [] [.agg [.int .i64 a_0,.int .i64 a_1,.int .i64 a_2,.imm v_3 (.ns .u64 a_4) 1 1 0 (List.length a_4),.int .i64 a_5,.int .u64 a_6]] (ip x) :=
  zj false ip lJ h (Sg.cut 2 gv (gE cH (q9 a_0 a_1 a_2 v_3 a_4 a_5 a_6) [⟨[],[0,96],[1,3]⟩,⟨[],[0,96],[1,3]⟩,⟨[],[0,96],[1,3]⟩,⟨[],[0,96],[1,3]⟩,⟨[],[0,96],[1,3]⟩,⟨[],[0,96],[1,3]⟩,⟨[],[0,96],[1,3]⟩]) (fun ⟨s1,a2,b3,b4⟩=>Sg.cut 3 gv (gE cH (rb a_0 a_1 a_2 v_3 a_4 a_5 a_6 s1 a2 b3 b4) [⟨[],[0,1],[1,3,4]⟩,⟨[],[0,1],[1,3,4]⟩]) (fun s5=>Sg.cut 2 gv (gE cH rc [⟨[],[],[4]⟩,⟨[],[],[4]⟩]) (fun s6=>gE cH xF [⟨[],[],[2]⟩]))))
    (fun x=>by cases x with | r0 s7=>exact tM [.str s7])
def gw:Option aP→Bool
  | some _=>true
  | none=>false
def iO:Option aP→ByteArray
  | some (.r0 x)=>x
  | _=>ByteArray.empty
theorem rg{x:Option aP}(h:gw x=true) :x=some (.r0 (iO x)):=by
  unfold gw at h
  split at h<;>first | rfl | (cases h;done) | (rename_i y;cases y;rfl)
noncomputable def lK:aM:=dt lA (.cons (.agg (.cons (.int .i64) (.cons (.int .i64) (.cons (.int .i64) (.cons (.ns .u64) (.cons (.int .i64) (.cons (.int .u64) .nil))))))) .nil) fun t=>(fun q=>[⟨ip (.r0 (iO q)),[gw q]⟩]) (iq t.1.1 t.1.2.2.2.2.1 t.1.2.2.2.2.2.1)
theorem oi:aT prog lK:=a8 fun t=>(bH (fun h=>ko t.1.1 t.1.2.1 t.1.2.2.1 t.1.2.2.2.1.1 t.1.2.2.2.1.2 t.1.2.2.2.2.1 t.1.2.2.2.2.2.1 (rg h)) b8)
noncomputable def lL:List aM:=lK::nv
theorem oj:aX prog (a7 lL):=au oi cH
end
end Go.Plb.Seat
namespace Go.Plb.Seat
open Go Go.Plb
set_option linter.unusedSimpArgs false
set_option linter.unusedVariables false
set_option maxRecDepth 100000
def nw(k:Int) :Bool×ByteArray×Nat×Bool×Bool :=
  if k=1 then (true,ByteArray.mk #[101,105,103,101,110],3,false,true)
  else if k=2 then (true,ByteArray.mk #[118,97,108,117,101,115],0,false,true)
  else if k=3 then (true,ByteArray.mk #[115,118,100],2,false,false)
  else if k=4 then (true,ByteArray.mk #[114,97,110,107],2,true,false)
  else if k=5 then (true,ByteArray.mk #[105,110,118,101,114,115,101],2,true,false)
  else if k=6 then (true,ByteArray.mk #[99,111,110,100],2,false,false)
  else (false,ByteArray.empty,0,false,false)
def ol(k y t:Int) :Bool:=bif (nw k).1 then bif decide (y≥wU 1 ((nw k).2.2.1:Nat)) then bif decide (y≤((nw k).2.2.1:Nat)) then bif (nw k).2.2.2.1 then true else t==0 else false else false else false
def om(k m n:Int)(len:Nat)(y t:Int) :Bool :=
  bif decide (m≥0) then bif decide (m≤512) then bif decide (n≥0) then bif decide (n≤512) then bif (len:Int)==m*n then bif ol k y t then bif m==n then true else !(nw k).2.2.2.2 else false else false else false else false else false else false
def Bc:ByteArray:=ByteArray.mk #[32]
def lM(k y t:Int) :ByteArray :=
  let s:=bif decide (((nw k).2.2.1:Int)>0) then (nw k).2.1++(Bc++cG y) else (nw k).2.1
  bif (nw k).2.2.2.1 then s++(Bc++aD t) else s
def nx(m n:Int) :ByteArray:=((ByteArray.mk #[109,97,116,114,105,120,32]++cG m)++Bc)++cG n
def kX(ws:List Int) :ByteArray:=jE (ws.map aD)
theorem oo{α:Type}(f:Bool×ByteArray×Nat×Bool×Bool→α)(k:Int) :(T.alt 0 (.need (k==(1:Int))<|.leaf (f (nw 1))) (.alt 1 (.need (k==(2:Int))<|.leaf (f (nw 2))) (.alt 2 (.need (k==(3:Int))<|.leaf (f (nw 3))) (.alt 3 (.need (k==(4:Int))<|.leaf (f (nw 4))) (.alt 4 (.need (k==(5:Int))<|.leaf (f (nw 5))) (.alt 5 (.need (k==(6:Int))<|.leaf (f (nw 6)))
    (.alt 6 (.need (!(k==(1:Int)))<|.need (!(k==(2:Int)))<|.need (!(k==(3:Int)))<|.need (!(k==(4:Int)))<|.need (!(k==(5:Int)))<|.need (!(k==(6:Int)))<|.leaf (f (false,ByteArray.empty,0,false,false))) .fail))))))).run=some (f (nw k)):=by
  by_cases h1:k=1
  · subst h1;rfl
  by_cases h2:k=2
  · subst h2;rfl
  by_cases h3:k=3
  · subst h3;rfl
  by_cases h4:k=4
  · subst h4;rfl
  by_cases h5:k=5
  · subst h5;rfl
  by_cases h6:k=6
  · subst h6;rfl
  have e:nw k=(false,ByteArray.empty,0,false,false):=by simp [nw,h1,h2,h3,h4,h5,h6]
  rw [e]
  have q:∀ j:Int,¬ k=j→(k==j)=false:=fun j h=>beq_eq_false_iff_ne.2 h
  simp [T.run,q _ h1,q _ h2,q _ h3,q _ h4,q _ h5,q _ h6]
theorem fA(k y t:Int) :cT k y t=some (.r0 (ol k y t)):=by
  refine cu (ao (a:=nw k) (oo (fun x=>(Sum.inl x:(Bool×ByteArray×Nat×Bool×Bool)⊕aO)) k) ?_)
  generalize h:nw k=p
  obtain ⟨b,w,n,tt,sq⟩:=p
  refine ao (a:=ol k y t) ?_ rfl
  unfold ol
  rw [h]
  simp only [jH,T.run]
  generalize decide (y≥wU (1:Int) (n:Int))=z1
  generalize decide (y≤(n:Int))=z2
  cases b<;>cases z1<;>cases z2<;>cases tt<;>rfl
theorem sL(k m n:Int)(ws:List Int)(y t:Int) :ju k m n ws y t=some (.r0 (om k m n ws.length y t)):=by
  refine cu (ao (a:=om k m n ws.length y t) ?_ rfl)
  unfold om
  cases h1:decide (m≥0) with
  | false=>exact fj h1 rfl
  | true =>
    refine fx h1 ?_
    cases h2:decide (m≤512) with
    | false=>exact gX rfl
    | true =>
      refine iJ ?_
      cases h3:decide (n≥0) with
      | false=>exact gX rfl
      | true =>
        refine iJ ?_
        cases h4:decide (n≤512) with
        | false=>exact gX rfl
        | true =>
          refine iJ (az ?_ ?_)
          · have g1:=of_decide_eq_true h1
            have g2:=of_decide_eq_true h2
            have g3:=of_decide_eq_true h3
            have g4:=of_decide_eq_true h4
            have:=Int.mul_le_mul g2 g4 g3 (by omega)
            have:=Int.mul_nonneg g1 g3
            rw [cv];omega
          cases h5:((ws.length:Int)==m*n) with
          | false=>exact gX rfl
          | true =>
            refine iJ (az (by simp [j4]) (az (by rw [fA];rfl) ?_))
            cases h6:ol k y t with
            | false=>exact fj (by rw [fA];exact h6) rfl
            | true =>
              refine fx (by rw [fA];exact h6) ?_
              cases h7:(m==n) with
              | true=>exact iJ rfl
              | false=>exact gX (oo (fun x=>(Sum.inl (!x.2.2.2.2):Bool⊕bu)) k)
theorem iP(w:Int) :(dL w).length=16:=by simp [dL]
theorem xK(l:List Int) :(ly l).size=l.length:=by
  have key:∀ (l:List Int) (r:ByteArray),(l.foldl (fun r n=>r.push (UInt8.ofNat n.toNat)) r).size=r.size+l.length:=by
    intro l
    induction l with
    | nil=>intro r;rfl
    | cons x l ih=>intro r;rw [List.foldl_cons,ih,ByteArray.size_push,List.length_cons];omega
  have:=key l ByteArray.empty
  simpa [ly] using this
theorem eE(w:Int) :(aD w).size=16:=by rw [aD,xK,iP]
theorem oq:∀ l:List ByteArray,(em l).length≤(l.map fun s=>s.size+1).sum
  | []=>by simp [em]
  | [x]=>by
    simp only [em,List.map_cons,List.map_nil,List.sum_cons,List.sum_nil,Array.length_toList]
    show x.size≤_
    omega
  | x::y::r=>by
    have:=oq (y::r)
    simp only [em,List.map_cons,List.sum_cons,List.length_append,List.length_cons] at this ⊢
    simp only [ByteArray.size,Array.length_toList] at this ⊢
    omega
theorem rh(l:List ByteArray) :(jE l).size=(em l).length:=by simp [jE,ByteArray.size]
theorem ri:∀ f n,(sn f n).length≤f
  | 0,_=>by simp [sn]
  | f+1,n=>by
    have:=ri f (n/10)
    rw [sn]
    split<;>simp<;>omega
theorem eF(n:Int) :(cG n).size≤21:=by
  have:(cG n).size=(wx n).length:=by simp [cG,ByteArray.size]
  rw [this,wx]
  have h1:=ri 20 n.natAbs
  have h2:=ri 20 n.toNat
  split<;>simp<;>omega
theorem rj(m n:Int)(hm:jO .i64 m=true)(hn:jO .i64 n=true) :im m n=some (.r0 (nx m n)):=by
  refine cu ?_
  have h1:=eF m
  have h2:=eF n
  have e1:(ByteArray.mk #[109,97,116,114,105,120,32]).size=7:=rfl
  have e2:(ByteArray.mk #[32]).size=1:=rfl
  refine az hm (az ?_ (az ?_ (az hn (az ?_ rfl))))
  all_goals simp only [ByteArray.size_append,e1,e2,decide_eq_true_eq];omega
theorem wA(k:Int) :(nw k).2.1.size≤7:=by
  unfold nw
  repeat' split
  all_goals decide
theorem rl(k y t:Int)(hy:jO .i64 y=true) :iq k y t=some (.r0 (lM k y t)):=by
  have hw:=wA k
  refine cu (ao (a:=(nw k).2) (oo (fun x=>(Sum.inl x.2:(ByteArray×Nat×Bool×Bool)⊕aP)) k) ?_)
  generalize h:nw k=p at hw
  obtain ⟨b,w,n,tt,sq⟩:=p
  have hw:w.size≤7:=hw
  have h1:=eF y
  have h2:=eE t
  have e2:(ByteArray.mk #[32]).size=1:=rfl
  have hs1:(kj y w n).run=some (.inl (bif decide ((n:Int)>0) then w++(Bc++cG y) else w)):=by
    cases hz:decide ((n:Int)>0) with
    | false=>exact fj hz rfl
    | true =>
      refine fx hz (az hy (az ?_ (az ?_ rfl)))
      all_goals simp only [ByteArray.size_append,e2,decide_eq_true_eq];omega
  have hsz:(bif decide ((n:Int)>0) then w++(Bc++cG y) else w).size≤29:=by
    have e3:Bc.size=1:=rfl
    cases decide ((n:Int)>0)<;>simp only [cond_true,cond_false,ByteArray.size_append,e3]<;>omega
  unfold lM
  rw [h]
  refine ao hs1 ?_
  generalize (bif decide ((n:Int)>0) then w++(Bc++cG y) else w)=s5 at hsz
  refine ao (a:=bif tt then s5++(Bc++aD t) else s5) ?_ rfl
  cases tt with
  | false=>exact gX rfl
  | true =>
    refine iJ (az ?_ (az ?_ rfl))
    all_goals simp only [ByteArray.size_append,e2,decide_eq_true_eq];omega
theorem lN(ws:List Int)(h:ws.length≤1000000) :dZ ws=some (.r0 (kX ws)):=by
  have hsz:(kX ws).size≤17*ws.length:=by
    have:=oq (ws.map aD)
    rw [kX,rh]
    have e:((ws.map aD).map fun s=>s.size+1).sum=17*ws.length:=by
      clear this h
      induction ws with
      | nil=>rfl
      | cons x l ih=>simp only [List.map_cons,List.sum_cons,List.length_cons,eE] at ih ⊢;omega
    omega
  refine cu (ao rfl (ao (a:=(ws.length,ws.length,ws.map aD)) (dv (fun j=>(j,j,j,(ws.take j).map aD)) ws.length rfl (fun j hj=>?_) ?_) ?_))
  · have hl:((ws.take j).map aD).length=j:=by rw [List.length_map,List.length_take];omega
    have hg:ws[j]? = some (ws.getD j 0):=by rw [List.getD_eq_getElem?_getD,List.getElem?_eq_getElem hj];rfl
    have hn:List.take j ((ws.take j).map aD)++List.take 1 [aD (ws.getD j 0)]=(ws.take (j+1)).map aD:=by
      rw [List.take_of_length_le (by omega),List.take_add_one (l:=ws),hg,List.map_append];rfl
    rw [←hn]
    refine fx (by simp;omega) (az (by rw [iK];omega) (az (by rw [gY];omega) (az (by rw [bc];omega) (az (by rw [bc];omega) (ek (az (by rw [bc];omega) (az (by rw [cv];omega) rfl)))))))
  · rw [List.take_length]
    exact fj (by simp) rfl
  · show (gq ws.length (ws.map aD)).run=_
    have hc:cO 0 ws.length (ws.map aD)=ws.map aD:=by
      have:=qJ (ws.map aD)
      rwa [List.length_map] at this
    rw [gq,hc]
    refine az (by simp [j4]) (ek (az ?_ (az ?_ rfl)))
    · show Nat.ble (kX ws).size 1000000000=true
      exact Nat.ble_eq_true_of_le (by omega)
    · show Nat.ble (ws.map aD).length 1000000000=true
      rw [List.length_map]
      exact Nat.ble_eq_true_of_le (by omega)
end Go.Plb.Seat
namespace Go.Plb.Seat
open Go Go.Plb Go.Proofs Go.RowKit Go.Shelf
set_option maxRecDepth 100000
set_option linter.unusedSimpArgs false
set_option linter.unusedVariables false
attribute [local go_sem] Oper.semAt_some
set_option maxHeartbeats 2000000 in
theorem A3 (d l cb nb : Nat) (p : Option Addr) (m n cap : Nat) (hn : 1 ≤ n) (hL : m * n ≤ 1000000) (hcap : m * n ≤ cap) (hp : 1 ≤ m → p.isSome = true) (W : World) (J : Option Nat → World → Prop)
    (hJb : ∀ i W', J (some i) W' → W'.heap[cb]? = W.heap[cb]? ∧ W'.heap[nb]? = W.heap[nb]?) (hJm : ∀ i W' W'', J i W' → Below W'.heap.size W' W'' → J i W'')
    (hY : ∀ j a W', j < m → p = some a → J (some j) W' → YieldAt Fence.wide d prog l #[.slice (some (a.add (j * n))) n n] W' (fun e W'' => (e = .returned (.bool true) ∧ J (some (j + 1)) W'') ∨ (e = .returned (.bool false) ∧ J none W'')))
    (hc : Boxed W cb 22 (.slice p (m * n) cap)) (hnb : Boxed W nb 3 (.int .i64 n)) (h0 : J (some 0) W) :
    CallsIn Fence.wide (d + 1) prog 71 #[.func (.yield l) #[] #[], .pointer (some ⟨cb, 0, none⟩), .pointer (some ⟨nb, 0, none⟩)] W (fun e W' => (∃ v, e = .returned v) ∧ (J (some m) W' ∨ J none W')) := by
  refine callsIn_of_wp Tryd.func71 rfl trivial ?_ rfl
  simp only [Tryd.ntmps71, List.size_toArray, List.length_cons, List.length_nil, Nat.reduceAdd, Nat.reduceSub, Array.replicate_succ, Array.replicate_zero, List.push_toArray, List.append_toArray, List.nil_append, List.cons_append]
  gi_wp2
  gi_loopw [4] (fun t W' => ∃ (j i : Nat), t = .int .i64 (i : Nat) ∧ i = j * n ∧ j ≤ m ∧ J (some j) W') (fun t _ => m * n - (intOf t).toNat)
  case atStart => exact ⟨0, 0, rfl, by simp, Nat.zero_le _, h0⟩
  case round =>
    obtain ⟨j, i, rfl, hi, hj, hJ⟩ := hrel
    have hb := hJb j wr hJ
    have hc' : Boxed wr cb 22 (.slice p (m * n) cap) := hb.1.trans hc
    have hn' : Boxed wr nb 3 (.int .i64 n) := hb.2.trans hnb
    have c1 := hc'.cell
    have c2 := hn'.cell
    generalize hLe : m * n = L at *
    have hlt : i < L ↔ j < m := by
      rw [hi, ← hLe]
      exact ⟨fun h => Nat.lt_of_mul_lt_mul_right h, fun h => Nat.mul_lt_mul_of_pos_right h (by omega)⟩
    by_cases hjm : j < m
    · have h1 : i < L := hlt.2 hjm
      have h2 : i + n ≤ L := by
        rw [hi, ← hLe]
        calc j * n + n = (j + 1) * n := by rw [Nat.add_mul, Nat.one_mul]
          _ ≤ m * n := Nat.mul_le_mul_right n hjm
      obtain ⟨a, rfl⟩ := Option.isSome_iff_exists.1 (hp (by omega))
      have hJ' : J (some j) wr.drew := hJm _ _ _ hJ (Below.refl _ _).drew
      have hY' := hY j a wr.drew hjm rfl hJ'
      rw [← hi] at hY'
      obtain ⟨fn', tmps', assign', body', hy', hR'⟩ := hY'
      replace hi := Lib.hid hi
      clear hlt
      gi_wp2
      gi_region
      rw [show min (n : Int) ((L - i : Nat) : Int) = (n : Int) by omega]
      gi_wp2
      refine hR'.mono ?_
      rintro e W3 (⟨rfl, hJ3⟩ | ⟨rfl, hJ3⟩)
      · have hb3 := hJb (j + 1) W3 hJ3
        have c3 := (show Boxed W3 nb 3 (.int .i64 n) from hb3.2.trans hnb).cell
        gi_wp2
        go_roundw
        case rel => exact ⟨j + 1, i + n, by go_num, by rw [hi.out, Nat.add_mul, Nat.one_mul], by omega, hJ3⟩
        case measure => simp [intOf]; omega
      · gi_wp2
        refine bodyPost_ret (results_none rfl _ _ _) rfl ?_
        exact ⟨⟨_, rfl⟩, .inr hJ3⟩
    · have h1 : ¬ i < L := fun h => hjm (hlt.1 h)
      have hjm' : j = m := by omega
      gi_wp2
      go_end0
      exact ⟨⟨_, rfl⟩, .inl (hjm' ▸ hJ)⟩
theorem wB(p:Option Addr)(len cap n:Nat)(hn:1≤n)(w:World) :Calls prog 60 #[.slice p len cap,.int .i64 n] w fun e w' =>
    e=.returned (.func (.func 71) #[] #[.pointer (some ⟨w.heap.size,0,none⟩),.pointer (some ⟨w.heap.size+1,0,none⟩)])∧w'=(w.alloc (.cells #[.slice p len cap] 22)).alloc (.cells #[.int .i64 n] 3):=by
  have hmf:∀ (fn:Fn) (first cap:Array Value) (w:World),(Instr.makeFunc fn first cap).run prog w=.ok (.func fn first cap) w:=fun _ _ _ _=>rfl
  go_enter Tryd.func60,Tryd.ntmps60
  go_wp2
  go_ret
  exact ⟨rfl,rfl⟩
def bZ(k m n:Int)(ws:List Int)(y t:Int) :List ByteArray :=
  bif om k m n ws.length y t then nx m n::((bif decide (n>0) then (List.range m.toNat).map (fun i=>kX ((ws.drop (i*n.toNat)).take n.toNat)) else [])++[lM k y t]) else []
abbrev xL(k m n:Int)(vw:Value)(y t:Int) :Array Value:=#[.int .i64 k,.int .i64 m,.int .i64 n,vw,.int .i64 y,.int .u64 t]
abbrev dh(ws:List Int) :AV:=.imm .free (.ns .u64 ws) 1 1 0 ws.length
theorem tQ(k m n:Int)(ws:List Int)(vw:Value)(y t:Int)(w:World)(hr:cE w)(hv:VR aa.none_ w (dh ws) vw) :
    Calls prog 41 #[.agg (xL k m n vw y t)] w fun e w'=>e=.returned (.bool (om k m n ws.length y t))∧Below w.heap.size w w':=by
  have h:=lI k m n .free ws y t (sL k m n ws y t)
  refine (ah.calls (v:=.bool false (om k m n ws.length y t)) h w hr (us:=[.agg (xL k m n vw y t)]) (.cons _ _ _ _ (.agg _ _ (.cons _ _ _ _ (.int _ _) (.cons _ _ _ _ (.int _ _) (.cons _ _ _ _ (.int _ _) (.cons _ _ _ _ hv (.cons _ _ _ _ (.int _ _) (.cons _ _ _ _ (.int _ _) .nil))))))) .nil)).mono ?_
  rintro e w' ⟨u,ρ',rfl,hb,hu⟩
  cases hu
  exact ⟨rfl,hb⟩
theorem xM(k m n:Int)(ws:List Int)(vw:Value)(y t:Int)(hy:jO .i64 y=true)(w:World)(hr:cE w)(hv:VR aa.none_ w (dh ws) vw) :
    Calls prog 35 #[.agg (xL k m n vw y t)] w fun e w'=>e=.returned (.string (lM k y t))∧Below w.heap.size w w':=by
  have h:=ko k m n .free ws y t (rl k y t hy)
  refine (ah.calls (v:=.str (lM k y t)) h w hr (us:=[.agg (xL k m n vw y t)]) (.cons _ _ _ _ (.agg _ _ (.cons _ _ _ _ (.int _ _) (.cons _ _ _ _ (.int _ _) (.cons _ _ _ _ (.int _ _) (.cons _ _ _ _ hv (.cons _ _ _ _ (.int _ _) (.cons _ _ _ _ (.int _ _) .nil))))))) .nil)).mono ?_
  rintro e w' ⟨u,ρ',rfl,hb,hu⟩
  cases hu
  exact ⟨rfl,hb⟩
theorem xN(m n:Int)(hm:jO .i64 m=true)(hn:jO .i64 n=true)(w:World)(hr:cE w) :Calls prog 59 #[.int .i64 m,.int .i64 n] w fun e w'=>e=.returned (.string (nx m n))∧Below w.heap.size w w':=by
  have h:=kf m n (rj m n hm hn)
  refine (ah.calls (v:=.str (nx m n)) h w hr (us:=[.int .i64 m,.int .i64 n]) (.cons _ _ _ _ (.int _ _) (.cons _ _ _ _ (.int _ _) .nil))).mono ?_
  rintro e w' ⟨u,ρ',rfl,hb,hu⟩
  cases hu
  exact ⟨rfl,hb⟩
theorem zr(ws:List Int)(h6:ws.length≤1000000)(vw:Value)(w:World)(hr:cE w)(hv:VR aa.none_ w (dh ws) vw) :Calls prog 11 #[vw] w fun e w'=>e=.returned (.string (kX ws))∧Below w.heap.size w w':=by
  have h:=lF .free ws (lN ws h6)
  refine (ah.calls (v:=.str (kX ws)) h w hr (us:=[vw]) (.cons _ _ _ _ hv .nil)).mono ?_
  rintro e w' ⟨u,ρ',rfl,hb,hu⟩
  cases hu
  exact ⟨rfl,hb⟩
theorem gZ{k m n:Int}{len:Nat}{y t:Int}(h:om k m n len y t=true) :0≤m∧m≤512∧0≤n∧n≤512∧(len:Int)=m*n∧0≤y∧y≤3:=by
  unfold om at h
  simp only [Bool.cond_eq_ite,Bool.if_false_right,Bool.and_eq_true,decide_eq_true_eq,beq_iff_eq,ge_iff_le] at h
  obtain ⟨h1,h2,h3,h4,h5,h6,_⟩:=h
  refine ⟨h1,h2,h3,h4,h5,?_⟩
  unfold ol at h6
  simp only [Bool.cond_eq_ite,Bool.if_false_right,Bool.and_eq_true,decide_eq_true_eq,beq_iff_eq,ge_iff_le] at h6
  obtain ⟨_,g1,g2,_⟩:=h6
  have hk:(nw k).2.2.1≤3:=by
    unfold nw
    repeat' split
    all_goals decide
  have g3:wU 1 ((nw k).2.2.1:Nat)≥0:=by unfold wU;split<;>omega
  omega
theorem ny(w:World) :(isAgg 37).run prog w=.ok true w:=f0 (by kernel_rfl)
theorem kp(w:World) :(sizeOf 37).run prog w=.ok 6 w:=by
  have hi:(prog.info? 37).map (·.size)=some 6:=by kernel_rfl
  cases hq:prog.info? 37 with
  | none=>rw [hq] at hi;cases hi
  | some i =>
    rw [hq] at hi
    simp only [Option.map_some,Option.some.injEq] at hi
    simp [sizeOf,Sem.run_bind,typeInfo,hq,hi]
theorem bo{W:World}{k:Nat}{o:Obj}(h:W.heap[k]? = some o) :k<W.heap.size:=(Array.getElem?_eq_some_iff.1 h).1
structure zt (B ab:Nat) (k m n:Int) (ws:List Int) (vw:Value) (y t:Int) (J:Option Nat→World→Prop):Prop where
  ask:∀ i W,J (some i) W→W.heap[ab]? = some (.cells (xL k m n vw y t) 37 (0,0))∧cE W∧VR aa.none_ W (dh ws) vw
  mono:∀ i W W',J i W→Below W.heap.size W W'→J i W'
  put:∀ i W r o o',J i W→B≤r→W.heap[r]? = some o'→o'.isCells=false→J i (W.putObj r o)
def wC(o:Obj) :Prop:=∀ c fz,o ≠ .cells c 5 fz
def ot(B:Nat)(W W':World) :Prop:=W.heap.size≤W'.heap.size∧∀ r o,B≤r→W.heap[r]? = some o→wC o→W'.heap[r]? = some o
theorem fo{c:Array Value}{t:TypeId}{fz:Nat×Nat}(h:t≠5) :wC (.cells c t fz):=fun _ _ e=>by injection e with _ e;exact h e
theorem kU(l:Option (List Deferred)) :wC (.deferred l):=fun _ _ e=>by cases e
theorem rm(l:Loop) :wC (.loop l):=fun _ _ e=>by cases e
structure LF (ab bx:Nat) (l:Nat) (k m n:Int) (ws:List Int) (vw:Value) (y t:Int) (W:World):Prop where
  c0:W.cell? ⟨ab,0,none⟩=some (.int .i64 k)
  c1:W.cell? ⟨ab,1,none⟩=some (.int .i64 m)
  c2:W.cell? ⟨ab,2,none⟩=some (.int .i64 n)
  c3:W.cell? ⟨ab,3,none⟩=some vw
  c4:W.cell? ⟨ab,4,none⟩=some (.int .i64 y)
  c5:W.cell? ⟨ab,5,none⟩=some (.int .u64 t)
  cb:W.cell? ⟨bx,0,none⟩=some (.func (.yield l) #[] #[])
  rom:cE W
  hv:VR aa.none_ W (dh ws) vw
theorem CL{ab bx l:Nat}{k m n:Int}{ws:List Int}{vw:Value}{y t:Int}{W:World}(h:W.heap[ab]? = some (.cells (xL k m n vw y t) 37 (0,0))∧cE W∧VR aa.none_ W (dh ws) vw)(hbx:Boxed W bx 44 (.func (.yield l) #[] #[])) :
    LF ab bx l k m n ws vw y t W:=by
  obtain ⟨h1,h2,h3⟩:=h
  exact ⟨by simp [World.cell?,h1],by simp [World.cell?,h1],by simp [World.cell?,h1],by simp [World.cell?,h1],by simp [World.cell?,h1],by simp [World.cell?,h1],hbx.cell,h2,h3⟩
theorem zt.lf{B ab bx l:Nat}{k m n:Int}{ws:List Int}{vw:Value}{y t:Int}{J:Option Nat→World→Prop}(hI:zt B ab k m n ws vw y t J){i:Nat}{W W':World}(hJ:J (some i) W)(hbx:Boxed W bx 44 (.func (.yield l) #[] #[]))(hb:Below W.heap.size W W') :
    LF ab bx l k m n ws vw y t W':=CL (hI.ask i W' (hI.mono _ _ _ hJ hb)) ((hb.block bx hbx.lt).trans hbx)
theorem tR{ρ:aa}{W:World}{ws:List Int}{v:Value}(hv:VR ρ W (dh ws) v) :∃ p cap,v=.slice p ws.length cap∧ws.length≤cap∧(1≤ws.length→p.isSome=true):=by
  generalize hA:dh ws=A at hv
  cases hv with
  | imm bw d k es i len cap bl o u ha hb hc hv hl hr hk hg=>cases hA;exact ⟨_,_,rfl,hl,fun _=>rfl⟩
  | immEnd bw d k es i cap a hr hk hg =>
    simp only [dh,AV.imm.injEq] at hA
    obtain ⟨_,_,_,_,_,h0⟩:=hA
    rw [h0]
    exact ⟨_,_,rfl,Nat.zero_le _,fun h=>by omega⟩
  | _=>cases hA
theorem zu{ρ:aa}{W:World}{ws:List Int}{a:Addr}{cap:Nat}(hv:VR ρ W (dh ws) (.slice (some a) ws.length cap))(j c:Nat)(h:j+c≤ws.length) :VR ρ W (dh ((ws.drop j).take c)) (.slice (some (a.add j)) c c):=by
  have hlen:((ws.drop j).take c).length=c:=by rw [List.length_take,List.length_drop];omega
  by_cases hc0:c=0
  · subst hc0
    show VR ρ W (.imm .free (.ns .u64 _) 1 1 0 _) _
    rw [List.take_zero]
    exact .immEnd _ _ _ _ _ _ _ trivial (fun _=>rfl) rfl
  generalize hA:dh ws=A at hv
  generalize hV:Value.slice (some a) ws.length cap=V at hv
  cases hv with
  | imm bw d k es i len cap bl o u ha hb hc hv hl hr hk hg =>
    cases hA
    cases hV
    have:=VR.imm (ρ:=ρ) (w:=W) .free (.ns .u64 ((ws.drop j).take c)) 1 1 0 c c bl (o+0*1+j) (fun x=>u (j+x)) ha hb (fun x v hx=>?_) (fun x v hx=>?_) (Nat.le_refl _) trivial (fun _=>rfl) rfl
    · show VR ρ W (.imm .free (.ns .u64 ((ws.drop j).take c)) 1 1 0 ((ws.drop j).take c).length) _
      rw [hlen]
      have e1:(Addr.mk bl (o+0*1) none).add j=Addr.mk bl (o+0*1+j+0*1) none:=by simp [Addr.add]
      rw [e1]
      exact this
    all_goals
      simp only [ae.cell?,List.getElem?_take,List.getElem?_drop] at hx
      split at hx
      case isFalse=>cases hx
    · have:=hc (j+x) v (by simpa [ae.cell?] using hx)
      rw [show o+0*1+j+x=o+(j+x) by omega]
      exact this
    · exact hv (j+x) v (by simpa [ae.cell?] using hx)
  | immEnd bw d k es i cap a hr hk hg =>
    simp only [dh,AV.imm.injEq] at hA
    obtain ⟨_,_,_,_,_,h0⟩:=hA
    omega
  | _=>cases hA
noncomputable def rn:Code:=match Tryd.f58.body with
  | some (.seq _ (.seq _ t))=>t
  | _=>.skip
noncomputable def A4:Code:=match rn with
  | .seq _ t=>t
  | _=>.skip
set_option maxHeartbeats 4000000 in
theorem rp (d l ab bx B : Nat) (k m n : Int) (ws : List Int) (vw : Value) (y t : Int) (J : Option Nat → World → Prop) (hI : zt B ab k m n ws vw y t J)
    (hm : om k m n ws.length y t = true) (hbx : B ≤ bx)
    (hY : ∀ d' j x W', (bZ k m n ws y t)[j]? = some x → J (some j) W' → YieldAt Fence.wide (d' + 4) prog l #[.string x] W' (fun e W'' => ∃ b : Bool, e = .returned (.bool b) ∧ J (bif b then some (j + 1) else none) W'' ∧ ot B W' W''))
    (Q : Exit → Act → World → Prop) (D : List Deferred) (W3 : World) (hQ : ∀ a W', a.defers = D → ot B W3 W' → J (some (bZ k m n ws y t).length) W' ∨ J none W' → Q .normal a W' ∧ Q .ret a W')
    (j : Nat) (hj : (bZ k m n ws y t).length = j + 1) (hl : (bZ k m n ws y t)[j]? = some (lM k y t)) (h1 : J (some j) W3) (hx : Boxed W3 bx 44 (.func (.yield l) #[] #[])) (u3 u4 u5 u6 u7 u8 u9 u10 u11 u12 u13 u14 u15 u16 u17 u18 u19 u20 u21 u22 u23 u24 u25 u26 u27 u28 u29 u30 u31 u32 u33 Cp : Value) : Code.wpIn Fence.wide (d + 10) prog A4 Q { tmps := #[.func (.yield l) #[] #[], .pointer (some ⟨ab, 0, none⟩), .pointer (some ⟨bx, 0, none⟩), u3, u4, u5, u6, u7, u8, u9, u10, u11, u12, u13, u14, u15, u16, u17, u18, u19, u20, u21, u22, u23, u24, u25, u26, u27, u28, u29, u30, u31, u32, u33, Cp], defers := D } W3 := by
  obtain ⟨hm0, hm5, hn0, hn5, hlen, hy0, hy3⟩ := gZ hm
  have ky : jO .i64 y = true := cv.2 (by omega)
  delta A4 rn Tryd.f58
  dsimp only
  obtain ⟨c0, c1, c2, c3, c4, c5, cb, rom, hv⟩ := hI.lf h1 hx (Below.refl _ W3).drew
  have ag := ny
  have sz := kp
  have hline := xM k m n ws vw y t ky _ rom hv
  have hY1 := fun W' h => hY (d + 5) j _ W' hl h
  first
    | gi_region_with first
        | (refine ⟨trivial, ?_⟩; gi_at_call 35; refine (callsIn_wide.2 hline).mono ?_; rintro e W1 ⟨rfl, hb1⟩; have hb13 := (Below.refl _ W3).drew.trans hb1; obtain ⟨c10, c11, c12, c13, c14, c15, c1b, rom1, hv1⟩ := hI.lf h1 hx hb13; obtain ⟨fn', tmps', assign', body', hy', hR'⟩ := hY1 W1 (hI.mono _ _ _ h1 hb13))
        | (refine hR'.mono ?_; rintro e W4 ⟨b, rfl, hJ3, hK3⟩)
    | fail
  all_goals
    have hk3 : ot B W3 W4 := ⟨Nat.le_trans hb13.size hK3.1, fun r o h2 h3 h4 => hK3.2 r o h2 ((hb13.block r (bo h3)).trans h3) h4⟩
    refine (hQ _ _ rfl hk3 ?_).1
    rw [hj]
    cases b
    · exact .inr hJ3
    · exact .inl hJ3
theorem BW{α:Type}(h:Array α)(a b c d:α)(k:Nat) :((((h.push a).push b).push c).push d)[h.size+k]? = #[a,b,c,d][k]?:=by
  have e1:((((h.push a).push b).push c).push d)=h ++ #[a,b,c,d]:=by
    apply Array.toList_inj.1
    simp
  rw [e1,Array.getElem?_append_right (Nat.le_add_right _ _),Nat.add_sub_cancel_left]
structure CM (S bx l:Nat) (p:Option Addr) (L cap N:Nat) (rec:LoopState→Option Code→Loop) (J:Option Nat→World→Prop) (j:Nat) (W:World):Prop where
  j:J (some (1+j)) W
  x:Boxed W bx 44 (.func (.yield l) #[] #[])
  c:Boxed W S 22 (.slice p L cap)
  n:Boxed W (S+1) 3 (.int .i64 N)
  d:W.heap[S+2]? = some (.deferred (some []))
  o:W.heap[S+2+1]? = some (.loop (rec .ready none))
structure C3 (S:Nat) (rec:LoopState→Option Code→Loop) (J:Option Nat→World→Prop) (W:World):Prop where
  j:J none W
  d:W.heap[S+2]? = some (.deferred (some []))
  o:W.heap[S+2+1]? = some (.loop (rec .done (some .ret)))
def CJ(S bx l:Nat)(p:Option Addr)(L cap N:Nat)(rec:LoopState→Option Code→Loop)(J:Option Nat→World→Prop) :Option Nat→World→Prop
  | some j,W=>CM S bx l p L cap N rec J j W
  | none,W=>C3 S rec J W
theorem CJ.mono{S bx l:Nat}{p:Option Addr}{L cap N:Nat}{rec:LoopState→Option Code→Loop}{J:Option Nat→World→Prop}(hJ:∀ i W W',J i W→Below W.heap.size W W'→J i W') :
    ∀ i W W',CJ S bx l p L cap N rec J i W→Below W.heap.size W W'→CJ S bx l p L cap N rec J i W'
  | some j,W,W',h,hb=>⟨hJ _ _ _ h.j hb,(hb.block _ h.x.lt).trans h.x,(hb.block _ h.c.lt).trans h.c,(hb.block _ h.n.lt).trans h.n,(hb.block _ (bo h.d)).trans h.d,(hb.block _ (bo h.o)).trans h.o⟩
  | none,W,W',h,hb=>⟨hJ _ _ _ h.j hb,(hb.block _ (bo h.d)).trans h.d,(hb.block _ (bo h.o)).trans h.o⟩
set_option maxHeartbeats 4000000 in
theorem xO (d l ab bx B : Nat) (k m n : Int) (ws : List Int) (vw : Value) (y t : Int) (J : Option Nat → World → Prop) (hI : zt B ab k m n ws vw y t J)
    (hm : om k m n ws.length y t = true) (hbx : B ≤ bx)
    (hY : ∀ d' j x W', (bZ k m n ws y t)[j]? = some x → J (some j) W' → YieldAt Fence.wide (d' + 4) prog l #[.string x] W' (fun e W'' => ∃ b : Bool, e = .returned (.bool b) ∧ J (bif b then some (j + 1) else none) W'' ∧ ot B W' W''))
    (Q : Exit → Act → World → Prop) (W3 : World)
    (hQ : ∀ a W', (a.defers = [] ∨ ∃ D, B ≤ D ∧ a.defers = [{ target := .collected D, args := #[] }] ∧ W'.heap[D]? = some (.deferred (some []))) → J (some (bZ k m n ws y t).length) W' ∨ J none W' → Q .normal a W' ∧ Q .ret a W')
    (h1 : J (some 1) W3) (hx : Boxed W3 bx 44 (.func (.yield l) #[] #[])) (u3 u4 u5 u6 u7 u8 u9 u10 u11 u12 u13 u14 u15 u16 u17 u18 u19 u20 u21 u22 u23 u24 u25 u26 u27 u28 u29 u30 u31 u32 u33 Cp : Value) : Code.wpIn Fence.wide (d + 10) prog rn Q { tmps := #[.func (.yield l) #[] #[], .pointer (some ⟨ab, 0, none⟩), .pointer (some ⟨bx, 0, none⟩), u3, u4, u5, u6, u7, u8, u9, u10, u11, u12, u13, u14, u15, u16, u17, u18, u19, u20, u21, u22, u23, u24, u25, u26, u27, u28, u29, u30, u31, u32, u33, Cp], defers := [] } W3 := by
  obtain ⟨hm0, hm5, hn0, hn5, hlen, hy0, hy3⟩ := gZ hm
  have hch : ∃ x, rn = .seq x A4 ∧ x = (match rn with | .seq x _ => x | _ => .skip) := ⟨_, rfl, rfl⟩
  obtain ⟨x, hx', he⟩ := hch
  rw [hx']
  delta rn Tryd.f58 at he
  dsimp only at he
  rw [he]
  obtain ⟨c0, c1, c2, c3, c4, c5, cb, rom, hv⟩ := hI.lf h1 hx (Below.refl _ W3)
  obtain ⟨N, rfl⟩ := Int.eq_ofNat_of_zero_le hn0
  obtain ⟨M, rfl⟩ := Int.eq_ofNat_of_zero_le hm0
  clear he hx'
  by_cases hN : N = 0
  · subst hN
    have hlin : bZ k M ((0 : Nat) : Int) ws y t = [nx M ((0 : Nat) : Int), lM k y t] := by rw [bZ, hm]; rfl
    gi_wp2
    exact rp d l ab bx B k M ((0 : Nat) : Int) ws vw y t J hI hm hbx hY Q [] W3 (fun a W' h2 _ h4 => hQ a W' (.inl h2) h4) 1 (by rw [hlin]; rfl) (by rw [hlin]; rfl) h1 hx _ _ _ _ _ _ _ _ _ _ _ _ _ _ _ _ _ _ _ _ _ _ _ _ _ _ _ _ _ _ _ _
  · have hN1 : (0 : Int) < (N : Int) := by omega
    obtain ⟨p, cap, rfl, hcap, hp⟩ := tR hv
    have hle : ws.length = M * N := by
      have : ((M * N : Nat) : Int) = (ws.length : Int) := by rw [hlen, Int.natCast_mul]
      omega
    rw [hle] at hcap hp hv
    gi_wp2_with (refine ⟨trivial, ?_⟩; gi_at_call 60; refine (callsIn_wide.2 (wB p (M * N) cap N (by omega) W3)).mono ?_; rintro e w' ⟨rfl, rfl⟩)
    obtain ⟨W4, hW4⟩ : ∃ W4, (W3.alloc (.cells #[.slice p (M * N) cap] 22)).alloc (.cells #[.int .i64 N] 3) = W4 := ⟨_, rfl⟩
    rw [hW4]
    have hs4 : W4.heap.size = W3.heap.size + 2 := by rw [← hW4]; simp
    refine mt (gf := 71) (m := d + 9) rfl (enters_of Tryd.func71 (by kernel_rfl) rfl) fun fn rec hrec hy => ?_
    rw [hs4] at hy ⊢
    have hlin : bZ k M N ws y t = nx M N :: (((List.range M).map (fun i => kX ((ws.drop (i * N)).take N))) ++ [lM k y t]) := by
      have hd0 : decide ((N : Int) > 0) = true := decide_eq_true hN1
      rw [bZ, hm, hd0]
      rfl
    have hBS : B ≤ W3.heap.size := Nat.le_trans hbx (Nat.le_of_lt hx.lt)
    have hlen1 : (bZ k M N ws y t).length = M + 1 + 1 := by rw [hlin]; simp
    have round : ∀ j a W', j < M → p = some a → CM W3.heap.size bx l p (M * N) cap N rec J j W' → YieldAt Fence.wide (d + 8) prog (W3.heap.size + 2 + 1) #[.slice (some (a.add (j * N))) N N] W' (fun e W'' =>
        (e = .returned (.bool true) ∧ CM W3.heap.size bx l p (M * N) cap N rec J (j + 1) W'') ∨ (e = .returned (.bool false) ∧ C3 W3.heap.size rec J W'')) := by
      rintro j a W' hj rfl hS
      refine hy (d + 8) _ W' _ hS.o rfl ?_
      clear hy
      have hL1 : (bZ k M N ws y t)[1 + j]? = some (kX ((ws.drop (j * N)).take N)) := by
        rw [hlin, Nat.add_comm, List.getElem?_cons_succ, List.getElem?_append_left (by simpa using hj), List.getElem?_map, List.getElem?_range hj]
        rfl
      have hjN : j * N + N ≤ ws.length := by
        rw [hle]
        calc j * N + N = (j + 1) * N := by rw [Nat.add_mul, Nat.one_mul]
          _ ≤ M * N := Nat.mul_le_mul_right N hj
      gi_wp2
      refine ⟨hS.o, ?_⟩
      obtain ⟨V1, hV1⟩ : ∃ V1, W'.putObj (W3.heap.size + 2 + 1) (.loop (rec .busy none)) = V1 := ⟨_, rfl⟩
      rw [hV1]
      have hlt := bo hS.o
      have hs1 : V1.heap.size = W'.heap.size := by rw [← hV1]; simp
      have hk1 : ∀ r, r ≠ W3.heap.size + 2 + 1 → V1.heap[r]? = W'.heap[r]? := fun r hr => by rw [← hV1]; exact World.putObj_heap_other hr
      have ho1 : V1.heap[W3.heap.size + 2 + 1]? = some (.loop (rec .busy none)) := by rw [← hV1]; exact World.putObj_heap_same hlt
      have hp1 := hI.put _ W' (W3.heap.size + 2 + 1) (.loop (rec .busy none)) _ hS.j (by omega) hS.o rfl
      rw [hV1] at hp1
      have hx1 : Boxed V1 bx 44 (.func (.yield l) #[] #[]) := (hk1 bx (by have := hx.lt; omega)).trans hS.x
      have hbd : Below V1.heap.size V1 V1.drew := (Below.refl _ V1).drew
      obtain ⟨c10, c11, c12, c13, c14, c15, c1b, rom1, hv1⟩ := hI.lf hp1 hx1 hbd
      rw [hle] at hv1
      have hw1 := zu (ws := ws) (a := a) (cap := cap) (by rw [hle]; exact hv1) (j * N) N hjN
      have hrow := zr _ (by rw [List.length_take, List.length_drop]; have := Nat.mul_le_mul (show M ≤ 512 by omega) (show N ≤ 512 by omega); omega) _ _ rom1 hw1
      have hY1 := fun W' h => hY (d + 3) (1 + j) _ W' hL1 h
      gi_wp2
      first
        | gi_region_with first
            | (refine ⟨trivial, ?_⟩; gi_at_call 11; refine (callsIn_wide.2 hrow).mono ?_; rintro e W5 ⟨rfl, hb5⟩; have hb15 := hbd.trans hb5; have hm5 := hI.mono _ _ _ hp1 hb15; obtain ⟨c50, c51, c52, c53, c54, c55, c5b, rom5, hv5⟩ := hI.lf hp1 hx1 hb15; obtain ⟨fn', tmps', assign', body', hy', hR'⟩ := hY1 W5 hm5)
            | (refine hR'.mono ?_; rintro e W6 ⟨b, rfl, hJ6, hK6⟩)
        | fail
      all_goals
        have hk6 : ∀ r o, B ≤ r → r ≠ W3.heap.size + 2 + 1 → W'.heap[r]? = some o → wC o → W6.heap[r]? = some o := fun r o h1 h2 h3 h4 =>
          hK6.2 r o h1 ((hb15.block r (by rw [hs1]; exact bo h3)).trans ((hk1 r h2).trans h3)) h4
        have hs6 : Hid (W3.heap.size + 2 + 1 < W6.heap.size) := Lib.hid (Nat.lt_of_lt_of_le (by omega) (Nat.le_trans hb15.size hK6.1))
        have ho6 : W6.heap[W3.heap.size + 2 + 1]? = some (.loop (rec .busy none)) := hK6.2 _ _ (by omega) ((hb15.block _ (by omega)).trans ho1) (rm _)
        have hxl := hx.lt
        have g1 := hk6 _ _ (by omega) (by omega) hS.d (kU _)
        have g2 := hk6 _ _ hbx (by omega) hS.x (fo (by decide))
        have g3 := hk6 _ _ (by omega) (by omega) hS.c (fo (by decide))
        have g4 := hk6 _ _ (by omega) (by omega) hS.n (fo (by decide))
        replace g1 := Lib.hid g1
        replace g2 := Lib.hid g2
        replace g3 := Lib.hid g3
        replace g4 := Lib.hid g4
        cases b
        · have hp6 := hI.put _ W6 (W3.heap.size + 2 + 1) (.loop (rec .done (some .ret))) _ hJ6 (by omega) ho6 rfl
          have hfin : C3 W3.heap.size rec J (W6.putObj (W3.heap.size + 2 + 1) (.loop (rec .done (some .ret)))) := ⟨hp6, (World.putObj_heap_other (by omega)).trans g1.out, World.putObj_heap_same hs6.out⟩
          gi_wp2
          all_goals first
            | exact ⟨ho6, hfin⟩
            | exact hfin
        · have hp6 := hI.put _ W6 (W3.heap.size + 2 + 1) (.loop (rec .ready none)) _ hJ6 (by omega) ho6 rfl
          have hfin : CM W3.heap.size bx l (some a) (M * N) cap N rec J (j + 1) (W6.putObj (W3.heap.size + 2 + 1) (.loop (rec .ready none))) := ⟨hp6, (World.putObj_heap_other (by omega)).trans g2.out,
            (World.putObj_heap_other (by omega)).trans g3.out, (World.putObj_heap_other (by omega)).trans g4.out, (World.putObj_heap_other (by omega)).trans g1.out, World.putObj_heap_same hs6.out⟩
          gi_wp2
          all_goals first
            | exact ⟨ho6, hfin⟩
            | exact hfin
    clear hy
    have hlow : Below W3.heap.size W3 ((W4.alloc (.deferred (some []))).alloc (.loop (rec .ready none))) := by
      rw [← hW4]
      refine Below.alloc (Below.alloc (Below.alloc (Below.alloc (Below.refl _ W3) ?_ _) ?_ _) ?_ _) ?_ _
      all_goals simp
      all_goals try omega
    obtain ⟨W0, hW0⟩ : ∃ W0, (W4.alloc (.deferred (some []))).alloc (.loop (rec .ready none)) = W0 := ⟨_, rfl⟩
    rw [hW0] at hlow
    have hat : ∀ r, r < 4 → W0.heap[W3.heap.size + r]? = #[Obj.cells #[.slice p (M * N) cap] 22, .cells #[.int .i64 N] 3, .deferred (some []), .loop (rec .ready none)][r]? := fun r hr => by
      have hh : W0.heap = (((W3.heap.push (.cells #[.slice p (M * N) cap] 22)).push (.cells #[.int .i64 N] 3)).push (.deferred (some []))).push (.loop (rec .ready none)) := by rw [← hW0, ← hW4]; rfl
      rw [hh]
      exact BW W3.heap _ _ _ _ r
    have hJ0 := hI.mono _ _ _ h1 hlow
    have hS0 : CM W3.heap.size bx l p (M * N) cap N rec J 0 W0 := ⟨hJ0, (hlow.block bx hx.lt).trans hx, hat 0 (by omega), hat 1 (by omega), hat 2 (by omega), hat 3 (by omega)⟩
    rw [hW0]
    refine (A3 (d + 8) (W3.heap.size + 2 + 1) W3.heap.size (W3.heap.size + 1) p M N cap (by omega) (by have := Nat.mul_le_mul (show M ≤ 512 by omega) (show N ≤ 512 by omega); omega) hcap (fun hM => hp (Nat.mul_pos hM (by omega))) W0
      (CJ W3.heap.size bx l p (M * N) cap N rec J) (fun i W' h => ⟨h.c.trans hS0.c.symm, h.n.trans hS0.n.symm⟩) (CJ.mono hI.mono) (fun j a W' h1 h2 h3 => round j a W' h1 h2 h3) hS0.c hS0.n hS0).mono ?_
    rintro e W' ⟨hv', hS | hS⟩
    · refine ⟨hv', .inl ⟨hS.o, ?_⟩⟩
      have hpe := hI.put _ W' (W3.heap.size + 2 + 1) (.loop (rec .exhausted none)) _ hS.j (by omega) hS.o rfl
      have hxl := hx.lt
      have hde : (W'.putObj (W3.heap.size + 2 + 1) (.loop (rec .exhausted none))).heap[W3.heap.size + 2]? = some (.deferred (some [])) := (World.putObj_heap_other (by omega)).trans hS.d
      have hxe : Boxed (W'.putObj (W3.heap.size + 2 + 1) (.loop (rec .exhausted none))) bx 44 (.func (.yield l) #[] #[]) := (World.putObj_heap_other (by omega)).trans hS.x
      obtain ⟨W7, hW7⟩ : ∃ W7, W'.putObj (W3.heap.size + 2 + 1) (.loop (rec .exhausted none)) = W7 := ⟨_, rfl⟩
      rw [hW7] at hpe hde hxe ⊢
      gi_wp2
      exact rp d l ab bx B k M N ws _ y t J hI hm hbx hY Q [{ target := .collected (W3.heap.size + 2), args := #[] }] W7
        (fun a W8 h2 h3 h4 => hQ a W8 (.inr ⟨W3.heap.size + 2, by omega, h2, h3.2 _ _ (by omega) hde (kU _)⟩) h4) (M + 1) hlen1
        (by rw [hlin, List.getElem?_cons_succ, List.getElem?_append_right (by simp)]; simp) (by rw [Nat.add_comm]; exact hpe) hxe _ _ _ _ _ _ _ _ _ _ _ _ _ _ _ _ _ _ _ _ _ _ _ _ _ _ _ _ _ _ _ _
    · refine ⟨hv', .inr ⟨_, hS.o, ?_⟩⟩
      have hpe := hI.put _ W' (W3.heap.size + 2 + 1) (.loop (rec .exhausted (some .ret))) _ hS.j (by omega) hS.o rfl
      have hde : (W'.putObj (W3.heap.size + 2 + 1) (.loop (rec .exhausted (some .ret)))).heap[W3.heap.size + 2]? = some (.deferred (some [])) := (World.putObj_heap_other (by omega)).trans hS.d
      obtain ⟨W7, hW7⟩ : ∃ W7, W'.putObj (W3.heap.size + 2 + 1) (.loop (rec .exhausted (some .ret))) = W7 := ⟨_, rfl⟩
      rw [hW7] at hpe hde ⊢
      gi_wp2
      exact (hQ _ W7 (.inr ⟨W3.heap.size + 2, by omega, rfl, hde⟩) (.inr hpe)).2
set_option maxHeartbeats 4000000 in
theorem A5 (d l ab B : Nat) (k m n : Int) (ws : List Int) (vw : Value) (y t : Int) (J : Option Nat → World → Prop) (hI : zt B ab k m n ws vw y t J)
    (hY : ∀ d' j x W', (bZ k m n ws y t)[j]? = some x → J (some j) W' → YieldAt Fence.wide (d' + 4) prog l #[.string x] W' (fun e W'' => ∃ b : Bool, e = .returned (.bool b) ∧ J (bif b then some (j + 1) else none) W'' ∧ ot B W' W''))
    (W : World) (hB : B = W.heap.size) (h0 : J (some 0) W) :
    CallsIn Fence.wide (d + 10) prog 58 #[.func (.yield l) #[] #[], .pointer (some ⟨ab, 0, none⟩)] W (fun e W' => (∃ v, e = .returned v) ∧ (J (some (bZ k m n ws y t).length) W' ∨ J none W')) := by
  refine callsIn_of_wp_marks Tryd.func58 rfl trivial ?_ rfl
  simp only [Tryd.ntmps58, List.size_toArray, List.length_cons, List.length_nil, Nat.reduceAdd, Nat.reduceSub, Array.replicate_succ, Array.replicate_zero, List.push_toArray, List.append_toArray, List.nil_append, List.cons_append]
  obtain ⟨W0, hW0⟩ : ∃ W0, W.alloc (.cells #[.func (.yield l) #[] #[]] 44) = W0 := ⟨_, rfl⟩
  have hs0 : W0.heap.size = W.heap.size + 1 := by rw [← hW0]; simp
  have hb0 : Below W.heap.size W W0 := by rw [← hW0]; exact (Below.refl _ _).alloc (Nat.le_refl _) _
  have hx0 : Boxed W0 W.heap.size 44 (.func (.yield l) #[] #[]) := by rw [← hW0]; exact Boxed.new _ _ _
  have hJ0 := hI.mono _ _ _ h0 hb0
  obtain ⟨c0, c1, c2, c3, c4, c5, cb, rom, hv⟩ := hI.lf hJ0 hx0 (Below.refl _ W0).drew
  have ag := ny
  have sz := kp
  have hmay := tQ k m n ws vw y t _ rom hv
  cases hm : om k m n ws.length y t with
  | false =>
    have hlin : bZ k m n ws y t = [] := by simp [bZ, hm]
    rw [hlin] at hY ⊢
    rw [hm] at hmay
    gi_wp2
    first
      | gi_region_with first
          | (refine ⟨trivial, ?_⟩; gi_at_call 41; refine (callsIn_wide.2 hmay).mono ?_; rintro e W1 ⟨rfl, hb1⟩)
          | (refine (⟨trivial, ?_⟩ : Fence.wide.fn 59 ∧ _))
          | (refine (⟨by simp, ?_⟩ : (∀ (f : FuncId), none = some f → Fence.wide.fn f) ∧ _))
      | fail
    all_goals gi_wp2
    all_goals exact ⟨_, results_none rfl _ _ _, ⟨_, rfl⟩, .inl (hI.mono _ _ _ hJ0 ((Below.refl _ W0).drew.trans hb1))⟩
  | true =>
    rw [hm] at hmay
    obtain ⟨hm0, hm5, hn0, hn5, hlen, hy0, hy3⟩ := gZ hm
    have km : jO .i64 m = true := cv.2 (by omega)
    have kn : jO .i64 n = true := cv.2 (by omega)
    have hl1 : (bZ k m n ws y t)[0]? = some (nx m n) := by rw [bZ, hm]; rfl
    have hY1 := fun W' h => hY (d + 5) 0 _ W' hl1 h
    change Code.wpIn _ _ _ (.seq _ (.seq _ rn)) _ _ _
    gi_wp2
    first
      | gi_region_with first
          | (refine ⟨trivial, ?_⟩; gi_at_call 41; refine (callsIn_wide.2 hmay).mono ?_; rintro e W1 ⟨rfl, hb1⟩; have hb01 := (Below.refl _ W0).drew.trans hb1; obtain ⟨c10, c11, c12, c13, c14, c15, c1b, rom1, hv1⟩ := hI.lf hJ0 hx0 hb01; have hhead := xN m n km kn _ rom1)
          | (refine ⟨trivial, ?_⟩; gi_at_call 59; refine (callsIn_wide.2 hhead).mono ?_; rintro e W2 ⟨rfl, hb2⟩; have hb02 := hb01.trans (hb2.mono (show W0.heap.size ≤ W1.heap.size from hb01.size)); have hJ2 := hI.mono _ _ _ hJ0 hb02; obtain ⟨c20, c21, c22, c23, c24, c25, c2b, rom2, hv2⟩ := hI.lf hJ0 hx0 hb02; obtain ⟨fn', tmps', assign', body', hy', hR'⟩ := hY1 W2 hJ2)
          | (refine hR'.mono ?_; rintro e W3 ⟨b, rfl, hJ3, hK3⟩)
      | fail
    all_goals
      cases b
      · gi_wp2
        exact ⟨_, results_none rfl _ _ _, ⟨_, rfl⟩, .inr hJ3⟩
      · gi_wp2
        have hx3 : Boxed W3 W.heap.size 44 (.func (.yield l) #[] #[]) := hK3.2 _ _ (by omega) ((hb02.block _ hx0.lt).trans hx0) (fo (by decide))
        refine xO d l ab W.heap.size B k m n ws vw y t J hI hm (by omega) hY _ W3 (fun a W' h1 h2 => ?_) hJ3 hx3 _ _ _ _ _ _ _ _ _ _ _ _ _ _ _ _ _ _ _ _ _ _ _ _ _ _ _ _ _ _ _ _
        have key : LeavesInM Fence.wide (d + 10) prog Tryd.f58 a.tmps (fun e W' => (∃ v, e = .returned v) ∧ (J (some (bZ k m n ws y t).length) W' ∨ J none W')) a.defers .returning W' := by
          rcases h1 with h1 | ⟨D, h3, h1, h4⟩
          · rw [h1]
            exact ⟨_, results_none rfl _ _ _, ⟨_, rfl⟩, h2⟩
          · rw [h1]
            refine ⟨by simp, .inl ⟨_, _, rfl, run_takeDeferred h4, ?_⟩⟩
            refine ⟨_, results_none rfl _ _ _, ⟨_, rfl⟩, ?_⟩
            rcases h2 with h2 | h2
            · exact .inl (hI.put _ _ _ _ _ h2 h3 h4 rfl)
            · exact .inr (hI.put _ _ _ _ _ h2 h3 h4 rfl)
        exact ⟨key, key⟩
structure oV where
  k:Int
  m:Int
  n:Int
  ws:List Int
  y:Int
  t:Int
def oV.may(a:oV) :Bool:=om a.k a.m a.n a.ws.length a.y a.t
def oV.lines(a:oV) :List ByteArray:=bZ a.k a.m a.n a.ws a.y a.t
def Cl(s:ByteArray) :List UInt8:=s.data.toList++[10]
def mu(l:List ByteArray) :List UInt8:=(l.map Cl).flatten
def cU(l:List oV) :List UInt8:=(l.map fun a=>mu a.lines).flatten
def oW(l:List oV) :ByteArray:=if l.any (fun a=>!a.may)=true then ByteArray.empty else if 64<l.length then ByteArray.empty else if 8388608<(cU l).length then ByteArray.empty else ⟨(cU l).toArray⟩
def oX(l:List oV) :Int:=if l.any (fun a=>!a.may)=true then 2 else if 64<l.length then 3 else if 8388608<(cU l).length then 3 else 0
structure yH (W:World) (bl o:Nat) (a:oV) (vw:Value):Prop where
  c0:W.cell? ⟨bl,o,none⟩=some (.int .i64 a.k)
  c1:W.cell? ⟨bl,o+1,none⟩=some (.int .i64 a.m)
  c2:W.cell? ⟨bl,o+2,none⟩=some (.int .i64 a.n)
  c3:W.cell? ⟨bl,o+3,none⟩=some vw
  c4:W.cell? ⟨bl,o+4,none⟩=some (.int .i64 a.y)
  c5:W.cell? ⟨bl,o+5,none⟩=some (.int .u64 a.t)
  v:VR aa.none_ W (dh a.ws) vw
  lt:bl<W.heap.size
abbrev oV.V(a:oV)(vw:Value) :Array Value:=xL a.k a.m a.n vw a.y a.t
theorem yH.below{W W':World}{bl o:Nat}{a:oV}{vw:Value}(h:yH W bl o a vw)(hb:Below W.heap.size W W') :yH W' bl o a vw:=by
  have e:∀ j,W'.cell? ⟨bl,j,none⟩=W.cell? ⟨bl,j,none⟩:=fun j=>hb.cell (p:=⟨bl,j,none⟩) h.lt
  exact ⟨(e _).trans h.c0,(e _).trans h.c1,(e _).trans h.c2,(e _).trans h.c3,(e _).trans h.c4,(e _).trans h.c5,h.v.mono (dl.refl _ _) (iF hb),Nat.lt_of_lt_of_le h.lt hb.size⟩
def mv(W:World)(bl o:Nat)(l:List oV) :Prop:=∀ i a,l[i]? = some a→∃ vw,yH W bl (o+i*6) a vw
theorem mv.below{W W':World}{bl o:Nat}{l:List oV}(h:mv W bl o l)(hb:Below W.heap.size W W') :mv W' bl o l:=fun i a hi=>(h i a hi).imp fun _ q=>q.below hb
set_option maxHeartbeats 2000000 in
theorem vb (a : oV) (vw : Value) (w : World) (hR : cE w) (hv : VR aa.none_ w (dh a.ws) vw) : Calls prog 40 #[.agg (a.V vw)] w fun e w' => e = .returned (.bool (!a.may)) ∧ Below w.heap.size w w' := by
  have hb : Below w.heap.size w (w.alloc (.cells (a.V vw) 37)) := (Below.refl _ w).alloc (Nat.le_refl _) _
  have hmay := tQ a.k a.m a.n a.ws vw a.y a.t (w.alloc (.cells (a.V vw) 37)) (hR.below hb (Nat.le_refl _)) (hv.mono (dl.refl _ _) (iF hb))
  have ag := ny
  have sz := kp
  go_enter Tryd.func40, Tryd.ntmps40
  go_wp2_with (go_at_call 41; refine hmay.mono ?_; rintro e w' ⟨rfl, hb1⟩)
  go_ret
  exact ⟨rfl, hb.trans (hb1.mono (by simp))⟩
theorem kq{F:Fence}{n:Nat}{P:Program}{fn:Func}{tmps:Array Value}{R:Ending→World→Prop}{v:Value}(n0:Nat)(hr:∀ W,(results fn tmps).run P W=.ok v W)(Pw:World→Prop) 
    (hP:∀ W D,n0≤D→Pw W→Pw (W.putObj D (.deferred none))) (hR:∀ W,Pw W→R (.returned v) W):∀ (Ds:List Nat) (W:World),Ds.Nodup→(∀ D∈Ds,n0≤D∧W.heap[D]? = some (.deferred (some [])))→Pw W →
      LeavesInM F n P fn tmps R (Ds.map fun D=>({ target:=.collected D,args:=#[] }:Deferred)) .returning W
  | [],W,_,_,h=>⟨_,hr W,hR W h⟩
  | D::Ds,W,hn,hD,h=>by
    have h1:=hD D (List.mem_cons_self ..)
    obtain ⟨hn1,hn2⟩:=List.nodup_cons.1 hn
    refine ⟨by simp,.inl ⟨_,_,rfl,run_takeDeferred h1.2,?_⟩⟩
    refine kq n0 hr Pw hP hR Ds _ hn2 (fun D' h'=>?_) (hP W D h1.1 h)
    have h2:=hD D' (List.mem_cons_of_mem _ h')
    exact ⟨h2.1,(World.putObj_heap_other (fun e=>hn1 (by rw [←e];exact h'))).trans h2.2⟩
set_option maxHeartbeats 2000000 in
theorem zw (bl o cap : Nat) (l : List oV) (hl : l.length ≤ 1000000000) (w : World) (hR : cE w) (hA : mv w bl o l) (p : Option Addr) (hp : 1 ≤ l.length → p = some ⟨bl, o, none⟩) :
    Calls prog 56 #[.slice p l.length cap, .func (.func 40) #[] #[]] w fun e w' => (∃ r : Int, e = .returned (.int .i64 r) ∧ (0 ≤ r ↔ l.any (fun a => !a.may) = true)) ∧ Below w.heap.size w w' := by
  have ag := ny
  have sz := kp
  go_enter Tryd.func56, Tryd.ntmps56
  go_wp2
  go_loopw [8] (fun t W => ∃ i : Nat, t = .int .i64 i ∧ i ≤ l.length ∧ (l.take i).any (fun a => !a.may) = false ∧ Below w.heap.size w W) (fun t _ => l.length - (intOf t).toNat)
  case atStart => exact ⟨0, rfl, Nat.zero_le _, rfl, Below.refl _ _⟩
  case round =>
    obtain ⟨i, rfl, hi, hany, hb⟩ := hrel
    by_cases hlt : i < l.length
    · obtain ⟨a, ha⟩ : ∃ a, l[i]? = some a := ⟨_, List.getElem?_eq_getElem hlt⟩
      have hA' := hA.below hb
      obtain ⟨vw, hk⟩ := hA' i a ha
      obtain ⟨c0, c1, c2, c3, c4, c5, hv, hbl⟩ := hk
      have hcall := vb a vw wr (hR.below hb (Nat.le_refl _)) hv
      have hpp := hp (by omega)
      subst hpp
      go_wp2_with (go_at_call 40; refine hcall.mono ?_; rintro e w' ⟨rfl, hb1⟩)
      · go_ret
        have h1 : (!a.may) = true := by assumption
        exact ⟨⟨i, rfl, fun _ => List.any_eq_true.2 ⟨a, List.mem_of_getElem? ha, h1⟩, fun _ => Int.natCast_nonneg _⟩, hb.trans (hb1.mono hb.size)⟩
      · have h1 : (!a.may) = false := by assumption
        refine ⟨⟨i + 1, by go_num, by omega, ?_, hb.trans (hb1.mono hb.size)⟩, by simp [intOf]; omega⟩
        rw [List.take_add_one, ha, List.any_append, hany]
        simpa using h1
    · have he : i = l.length := by omega
      rw [he, List.take_length] at hany
      go_wp2
      go_ret
      exact ⟨⟨-1, rfl, fun h => absurd h (by decide), fun h => by rw [hany] at h; cases h⟩, hb⟩
theorem rq(bl o cap:Nat)(l:List oV)(hl:l.length≤1000000000)(w:World)(hR:cE w)(hA:mv w bl o l)(p:Option Addr)(hp:1≤l.length→p=some ⟨bl,o,none⟩) :
    Calls prog 39 #[.slice p l.length cap,.func (.func 40) #[] #[]] w fun e w'=>e=.returned (.bool (l.any fun a=>!a.may))∧Below w.heap.size w w':=by
  have h:=zw bl o cap l hl w hR hA p hp
  go_enter Tryd.func39,Tryd.ntmps39
  go_wp2_with (go_at_call 56;refine h.mono ?_;rintro e w' ⟨⟨r,rfl,hr⟩,hb⟩;replace hr:=Lib.hid hr)
  go_ret
  replace hr:=hr.out
  refine ⟨?_,hb⟩
  show Ending.returned (Value.bool (decide (r≥0)))=_
  cases hq:l.any (fun a=>!a.may) with
  | true=>rw [decide_eq_true (show r≥0 from hr.2 hq)]
  | false =>
    have : ¬ r≥0:=fun c=>by rw [hr.1 c] at hq;cases hq
    rw [decide_eq_false this]
theorem zx(ws:List Int) :(kX ws).size≤17*ws.length:=by
  have:=oq (ws.map aD)
  rw [kX,rh]
  have e:((ws.map aD).map fun s=>s.size+1).sum=17*ws.length:=by
    clear this
    induction ws with
    | nil=>rfl
    | cons x l ih=>simp only [List.map_cons,List.sum_cons,List.length_cons,eE] at ih ⊢;omega
  omega
theorem rr(m n:Int) :(nx m n).size≤50:=by
  have h1:=eF m
  have h2:=eF n
  have e1:(ByteArray.mk #[109,97,116,114,105,120,32]).size=7:=rfl
  have e2:Bc.size=1:=rfl
  unfold nx
  simp only [ByteArray.size_append,e1,e2]
  omega
theorem rt(k y t:Int) :(lM k y t).size≤46:=by
  have hw:=wA k
  have h1:=eF y
  have h2:=eE t
  have e3:Bc.size=1:=rfl
  unfold lM
  cases decide (((nw k).2.2.1:Int)>0)<;>cases (nw k).2.2.2.1<;>simp only [cond_true,cond_false,ByteArray.size_append,e3]<;>omega
theorem ru{a:oV}(h:a.may=true) :a.lines.length≤514∧∀ x∈a.lines,x.size≤9000:=by
  obtain ⟨h1,h2,h3,h4,h5,_⟩:=gZ h
  unfold oV.lines bZ
  rw [show om a.k a.m a.n a.ws.length a.y a.t=true from h]
  simp only [cond_true]
  cases hd:decide (a.n>0) with
  | false =>
    refine ⟨by simp,fun x hx=>?_⟩
    simp only [cond_false,List.nil_append,List.mem_cons,List.not_mem_nil,or_false] at hx
    rcases hx with rfl | rfl
    · have:=rr a.m a.n;omega
    · have:=rt a.k a.y a.t;omega
  | true =>
    refine ⟨by simp;omega,fun x hx=>?_⟩
    simp only [cond_true,List.mem_cons,List.mem_append,List.mem_map,List.not_mem_nil,or_false] at hx
    rcases hx with rfl | ⟨i,_,rfl⟩ | rfl
    · have:=rr a.m a.n;omega
    · have h9:=zx ((a.ws.drop (i*a.n.toNat)).take a.n.toNat)
      have:=List.length_take_le a.n.toNat (a.ws.drop (i*a.n.toNat))
      omega
    · have:=rt a.k a.y a.t;omega
theorem wD{L:List ByteArray}(h:∀ x∈L,x.size≤9000) :(mu L).length≤L.length*9001:=by
  induction L with
  | nil=>simp [mu]
  | cons x L ih =>
    have h1:=h x (List.mem_cons_self ..)
    have h2:=ih fun y hy=>h y (List.mem_cons_of_mem _ hy)
    have h3:(Cl x).length=x.size+1:=by simp [Cl]
    unfold mu at h2 ⊢
    simp only [List.map_cons,List.flatten_cons,List.length_append,List.length_cons,h3]
    omega
theorem zy{l:List oV}(hm:∀ a∈l,a.may=true) :(cU l).length≤l.length*5000000:=by
  induction l with
  | nil=>simp [cU]
  | cons a l ih =>
    have h1:=ru (hm a (List.mem_cons_self ..))
    have h2:=ih fun y hy=>hm y (List.mem_cons_of_mem _ hy)
    have h3:=wD h1.2
    unfold cU at h2 ⊢
    simp only [List.map_cons,List.flatten_cons,List.length_append,List.length_cons]
    omega
theorem zz(L:List ByteArray)(x:ByteArray) :mu (L++[x])=mu L++Cl x:=by simp [mu]
theorem xP(L:List oV)(a:oV) :cU (L++[a])=cU L++mu a.lines:=by simp [cU]
theorem ou(x y:List UInt8) :Lib.byteCells (x++y)=Lib.byteCells x++Lib.byteCells y:=by simp [Lib.byteCells]
theorem wE(a:oV)(vw:Value)(w:World) :Calls prog 42 #[.agg (a.V vw)] w fun e w'=>e=.returned (.func (.func 58) #[] #[.pointer (some ⟨w.heap.size,0,none⟩)])∧w'=w.alloc (.cells (a.V vw) 37):=by
  have hmf:∀ (fn:Fn) (first cap:Array Value) (w:World),(Instr.makeFunc fn first cap).run prog w=.ok (.func fn first cap) w:=fun _ _ _ _=>rfl
  go_enter Tryd.func42,Tryd.ntmps42
  go_wp2
  go_ret
  exact ⟨rfl,rfl⟩
theorem jv{T e:TypeId}{B b:Nat}{bs:List Value}{W W':World}(h:Lib.IsBuilderF T e B b bs W)(hk:∀ (k:Nat) (c:Array Value) (t:TypeId) (fz:Nat×Nat),W.heap[k]? = some (Obj.cells c t fz)→W'.heap[k]? = some (Obj.cells c t fz)) :Lib.IsBuilderF T e B b bs W':=by
  have key:∀ p,Lib.BuilderAtF T e B b p bs W→Lib.BuilderAtF T e B b p bs W':=by
    rintro p ⟨h1,v,h2,h3,h4⟩
    refine ⟨h1,v,hk _ _ _ _ h2,⟨h3.1,?_⟩,h4⟩
    rcases h3.2 with q | ⟨g,cap,cur,fz,q1,q2,q3,q4⟩
    · exact .inl q
    · exact .inr ⟨g,cap,cur,fz,q1,q2,hk _ _ _ _ q3,q4⟩
  exact h.imp (key _) (key _)
theorem mw{T e:TypeId}{B b:Nat}{bs:List Value}{W:World}(h:Lib.IsBuilderF T e B b bs W) :b<W.heap.size:=by
  rcases h with ⟨_,v,h,_⟩ | ⟨_,v,h,_⟩
  · exact bo h
  · exact bo h
theorem wF(W:World) :Lib.IsBuilderF 74 5 W.heap.size W.heap.size (Lib.byteCells []) (W.alloc (.cells #[.pointer none,.slice none 0 0] 74)):=by
  refine .inl ⟨Nat.le_refl _,.slice none 0 0,World.alloc_heap_new W _,⟨rfl,.inl ⟨rfl,rfl⟩⟩,by simp [Value.ownBlock]⟩
abbrev A6(D:Nat) :Deferred:={ target:=.collected D,args:=#[] }
theorem nA(B b:Nat)(bs:List Value)(s:ByteArray)(w:World)(h:Lib.IsBuilderF 74 5 B b bs w)(hlen:bs.length+s.size≤140737488355328)(hBw:B≤w.heap.size) :
    Calls Tryd.prog 43 #[.pointer (some ⟨b,0,none⟩),.string s] w fun e w'=>e=.returned (.tuple #[.int .i64 s.size,.nilIface])∧(Lib.BuilderAtF 74 5 B b (.pointer (some ⟨b,0,none⟩)) (bs++Lib.strCells s) w'∧Below B w w'∧Lib.OthersKept 5 (some b) w w') :=
  Any.Builder_WriteString_k { jo with } ct B b bs s w h hlen hBw
structure TJ (w:World) (bb ab L:Nat) (cs:Array Value) (Ds:List Nat) (obj:Obj) (pre:List UInt8) (W:World):Prop where
  b:Lib.IsBuilderF 74 5 bb bb (Lib.byteCells pre) W
  a:W.heap[ab]? = some (.cells cs 37 (0,0))
  low:Below w.heap.size w W
  ds:∀ D∈Ds,W.heap[D]? = some (.deferred (some []))
  o:W.heap[L]? = some obj
def Di(w:World)(bb ab L:Nat)(cs:Array Value)(Ds:List Nat)(obj:Obj)(pre:List UInt8)(lines:List ByteArray) :Option Nat→World→Prop
  | some j,W=>TJ w bb ab L cs Ds obj (pre++mu (lines.take j)) W
  | none,_=>False
theorem TJ.below{w:World}{bb ab L:Nat}{cs:Array Value}{Ds:List Nat}{obj:Obj}{pre:List UInt8}{W W':World}(h:TJ w bb ab L cs Ds obj pre W)(hb:Below W.heap.size W W') :TJ w bb ab L cs Ds obj pre W' :=
  ⟨jv h.b fun k c t fz q=>(hb.block k (bo q)).trans q,(hb.block _ (bo h.a)).trans h.a,h.low.trans (hb.mono h.low.size),fun D hD=>(hb.block _ (bo (h.ds D hD))).trans (h.ds D hD),(hb.block _ (bo h.o)).trans h.o⟩
theorem TJ.put{w:World}{bb ab L:Nat}{cs:Array Value}{Ds:List Nat}{obj obj':Obj}{pre:List UInt8}{W:World}(h:TJ w bb ab L cs Ds obj pre W)(r:Nat)(ob o':Obj)(hw:w.heap.size≤r)(ho:W.heap[r]? = some o')(hc:o'.isCells=false)(hD:∀ D∈Ds,r≠D) 
    (hL:(r≠L∧obj'=obj)∨(r=L∧obj'=ob)):TJ w bb ab L cs Ds obj' pre (W.putObj r ob):=by
  have nc:∀ k c t fz,W.heap[k]? = some (.cells c t fz)→k≠r:=fun k c t fz q e=>by
    rw [e,ho] at q;cases q;cases hc
  refine ⟨jv h.b fun k c t fz q=>(World.putObj_heap_other (nc k c t fz q)).trans q,(World.putObj_heap_other (nc _ _ _ _ h.a)).trans h.a,db h.low hw _,fun D q=>(World.putObj_heap_other (fun e=>hD D q e.symm)).trans (h.ds D q),?_⟩
  rcases hL with ⟨h1,rfl⟩ | ⟨rfl,rfl⟩
  · exact (World.putObj_heap_other (fun e=>h1 e.symm)).trans h.o
  · exact World.putObj_heap_same (bo ho)
def CN(w:World)(bb:Nat)(p:Option Addr)(cap:Nat)(l:List oV)(a:Act)(W:World) :Prop :=
  ∃ (i:Nat) (Ds:List Nat) (u6 u7 u12 u16 u17 u18 u19 u20 u21 u22 u23 u24 u25:Value),a = { tmps:=#[.slice p l.length cap,undef,.string ⟨#[]⟩,.int .i64 0,.pointer (some ⟨bb,0,none⟩),undef,u6,u7,.slice p l.length cap,.bool false,.slice p l.length cap,.int .i64 l.length,u12,.slice p l.length cap,.int .i64 l.length,.int .i64 i,u16,u17,u18,u19,u20,u21,u22,u23,u24,u25,undef,undef,undef],defers:=Ds.map A6 }∧i≤l.length∧Lib.IsBuilderF 74 5 bb bb (Lib.byteCells (cU (l.take i))) W∧Below w.heap.size w W∧Ds.Nodup ∧
    ∀ D∈Ds,w.heap.size≤D∧W.heap[D]? = some (.deferred (some []))
set_option maxHeartbeats 4000000 in
theorem wG (bl o cap : Nat) (l : List oV) (hl : l.length ≤ 1000000000) (w : World) (hR : cE w) (hA : mv w bl o l) (p : Option Addr) (hp : 1 ≤ l.length → p = some ⟨bl, o, none⟩) :
    Calls prog eT #[.slice p l.length cap] w fun e w' => e = .returned (.tuple #[.string (oW l), .int .i64 (oX l)]) ∧ Below w.heap.size w w' := by
  have hany := rq bl o cap l hl w hR hA p hp
  refine (callsIn_wide (n := 20)).1 (callsIn_of_wp_marks Tryd.func19 rfl trivial ?_)
  simp only [Tryd.ntmps19, List.size_toArray, List.length_cons, List.length_nil, Nat.reduceAdd, Nat.reduceSub, Array.replicate_succ, Array.replicate_zero, List.push_toArray, List.append_toArray, List.nil_append, List.cons_append]
  cases ha : l.any (fun a => !a.may) with
  | true =>
    have e1 : oW l = ByteArray.empty ∧ oX l = 2 := ⟨if_pos ha, if_pos ha⟩
    rw [ha] at hany
    rw [e1.1, e1.2]
    gi_wp2_with (refine ⟨trivial, ?_⟩; gi_at_call 39; refine (callsIn_wide.2 hany).mono ?_; rintro e w' ⟨rfl, hb⟩)
    exact ⟨_, results_tmp2 rfl _ _ _, rfl, hb⟩
  | false =>
    have hf : ¬ l.any (fun a => !a.may) = true := by rw [ha]; decide
    rw [ha] at hany
    by_cases h64 : 64 < l.length
    · have e1 : oW l = ByteArray.empty ∧ oX l = 3 := by unfold oW oX; rw [if_neg hf, if_neg hf, if_pos h64, if_pos h64]; exact ⟨rfl, rfl⟩
      rw [e1.1, e1.2]
      gi_wp2_with (refine ⟨trivial, ?_⟩; gi_at_call 39; refine (callsIn_wide.2 hany).mono ?_; rintro e w' ⟨rfl, hb⟩)
      exact ⟨_, results_tmp2 rfl _ _ _, rfl, hb⟩
    · have e1 : oW l = (if 8388608 < (cU l).length then ByteArray.empty else ⟨(cU l).toArray⟩) ∧ oX l = (if 8388608 < (cU l).length then 3 else 0) := by unfold oW oX; rw [if_neg hf, if_neg hf, if_neg h64, if_neg h64]; exact ⟨rfl, rfl⟩
      rw [e1.1, e1.2]
      clear hf e1
      gi_wp2_with (refine ⟨trivial, ?_⟩; gi_at_call 39; refine (callsIn_wide.2 hany).mono ?_; rintro e w1 ⟨rfl, hb⟩)
      have hbn := wF w1
      have hbw : Below w.heap.size w (w1.alloc (.cells #[.pointer none, .slice none 0 0] 74)) := hb.alloc hb.size _
      have hwb : w.heap.size ≤ w1.heap.size := hb.size
      obtain ⟨W1, hW1⟩ : ∃ W1, w1.alloc (.cells #[.pointer none, .slice none 0 0] 74) = W1 := ⟨_, rfl⟩
      obtain ⟨bb, hbb⟩ : ∃ bb, w1.heap.size = bb := ⟨_, rfl⟩
      have hs1 : W1.heap.size = bb + 1 := by rw [← hW1, ← hbb]; simp
      rw [hW1, hbb] at hbn ⊢
      rw [hW1] at hbw
      rw [hbb] at hwb
      clear hW1 hbb hb hany
      refine wpIn_loop (CN w bb p cap l) (fun a _ => l.length - (intOf (a.tmps.getD 15 undef)).toNat) ⟨0, [], _, _, _, _, _, _, _, _, _, _, _, _, _, rfl, Nat.zero_le _, hbn, hbw, List.nodup_nil, by simp⟩ ?_
      rintro a W ⟨i, Ds, u6, u7, u12, u16, u17, u18, u19, u20, u21, u22, u23, u24, u25, rfl, hi, hbld, hlow, tM, hds⟩
      by_cases hlt : i < l.length
      · obtain ⟨a, hai⟩ : ∃ a, l[i]? = some a := ⟨_, List.getElem?_eq_getElem hlt⟩
        obtain ⟨vw, hk0⟩ := hA i a hai
        have hk := hk0.below (hlow.mono (Nat.le_refl _))
        have hv0 := hk0.v
        obtain ⟨c0, c1, c2, c3, c4, c5, hv, hbl⟩ := hk
        have hpp := hp (by omega)
        subst hpp
        obtain ⟨pw, cw, rfl, hcw, hpw⟩ := tR hv
        have ag := ny
        have sz := kp
        gi_wp2_with (refine ⟨trivial, ?_⟩; gi_at_call 42; refine (callsIn_wide.2 (wE a (.slice pw a.ws.length cw) _)).mono ?_; rintro e w' ⟨rfl, rfl⟩)
        have hin : a ∈ l := List.mem_of_getElem? hai
        have hmay : ∀ b ∈ l, b.may = true := fun b hb => by
          have := List.any_eq_false.1 ha b hb
          simpa using this
        have hsz := ru (hmay a hin)
        have hpre : (cU (l.take i)).length ≤ 64 * 5000000 := by
          have := zy (l := l.take i) fun b hb => hmay b (List.mem_of_mem_take hb)
          have h2 : (l.take i).length ≤ 64 := by rw [List.length_take]; omega
          exact Nat.le_trans this (Nat.mul_le_mul_right _ h2)
        obtain ⟨W2, hW2⟩ : ∃ W2, (W.alloc (.cells (a.V (.slice pw a.ws.length cw)) 37)).alloc (.cells (a.V (.slice pw a.ws.length cw)) 37) = W2 := ⟨_, rfl⟩
        rw [hW2]
        have hs2 : W2.heap.size = W.heap.size + 2 := by rw [← hW2]; simp
        refine mt (gf := 58) (m := 19) rfl (enters_of Tryd.func58 (by kernel_rfl) rfl) fun fn rec hrec hy => ?_
        rw [hs2] at hy ⊢
        have hWb : bb < W.heap.size := mw hbld
        obtain ⟨W0, hW0⟩ : ∃ W0, (W2.alloc (.deferred (some []))).alloc (.loop (rec .ready none)) = W0 := ⟨_, rfl⟩
        have hs0 : W0.heap.size = W.heap.size + 4 := by rw [← hW0]; simp [hs2]
        have hlow0 : Below W.heap.size W W0 := by
          rw [← hW0, ← hW2]
          refine Below.alloc (Below.alloc (Below.alloc (Below.alloc (Below.refl _ W) ?_ _) ?_ _) ?_ _) ?_ _
          all_goals simp
          all_goals try omega
        have hat : ∀ r, W0.heap[W.heap.size + r]? = #[Obj.cells (a.V (.slice pw a.ws.length cw)) 37, .cells (a.V (.slice pw a.ws.length cw)) 37, .deferred (some []), .loop (rec .ready none)][r]? := fun r => by
          rw [← hW0, ← hW2]
          exact BW W.heap _ _ _ _ r
        obtain ⟨T, hT⟩ : ∃ T, Di w bb (W.heap.size + 1) (W.heap.size + 2 + 1) (a.V (.slice pw a.ws.length cw)) ((W.heap.size + 2) :: Ds) (.loop (rec .ready none)) (cU (l.take i)) a.lines = T := ⟨_, rfl⟩
        have hI : zt W0.heap.size (W.heap.size + 1) a.k a.m a.n a.ws (.slice pw a.ws.length cw) a.y a.t T := by
          rw [← hT]
          refine ⟨fun j V h => ⟨h.a, hR.below h.low (Nat.le_refl _), hv0.mono (dl.refl _ _) (iF h.low)⟩, fun j V V' h hb => ?_, fun j V r ob o' h h1 h2 h3 => ?_⟩
          · cases j with
            | none => exact h
            | some j => exact TJ.below h hb
          · cases j with
            | none => exact h
            | some j =>
              refine TJ.put h r ob o' (by have := hlow.size; omega) h2 h3 (fun D hD => ?_) (.inl ⟨by omega, rfl⟩)
              rcases List.mem_cons.1 hD with rfl | hD
              · omega
              · have := bo (hds D hD).2
                omega
        have h0 : T (some 0) W0 := by
          rw [← hT]
          refine ⟨?_, hat 1, hlow.trans (hlow0.mono hlow.size), fun D hD => ?_, hat 3⟩
          · rw [List.take_zero, show cU (l.take i) ++ mu [] = cU (l.take i) by simp [mu]]
            exact jv hbld fun k c t fz q => (hlow0.block k (bo q)).trans q
          · rcases List.mem_cons.1 hD with rfl | hD
            · exact hat 2
            · exact (hlow0.block _ (bo (hds D hD).2)).trans (hds D hD).2
        have hY : ∀ d' j x W', a.lines[j]? = some x → T (some j) W' → YieldAt Fence.wide (d' + 4) prog (W.heap.size + 2 + 1) #[.string x] W' (fun e W'' => ∃ b : Bool, e = .returned (.bool b) ∧ T (bif b then some (j + 1) else none) W'' ∧ ot W0.heap.size W' W'') := by
          intro d' j x W' hx hS
          rw [← hT] at hS ⊢
          refine hy (d' + 4) _ W' _ hS.o rfl ?_
          clear hy
          have hxm := hsz.2 x (List.mem_of_getElem? hx)
          have hpl : (cU (l.take i) ++ mu (a.lines.take j)).length ≤ 140737488355328 - 20000 := by
            have h1 := wD (L := a.lines.take j) fun y hy => hsz.2 y (List.mem_of_mem_take hy)
            have h2 := List.length_take_le j a.lines
            have h3 : (a.lines.take j).length ≤ 514 := by rw [List.length_take]; omega
            have h4 := Nat.mul_le_mul_right 9001 h3
            rw [List.length_append]
            omega
          gi_wp2
          refine ⟨hS.o, ?_⟩
          have hSb := TJ.put (obj' := .loop (rec .busy none)) hS (W.heap.size + 2 + 1) (.loop (rec .busy none)) _ (by have := hlow.size; omega) hS.o rfl (fun D hD => by
            rcases List.mem_cons.1 hD with rfl | hD
            · omega
            · have := bo (hds D hD).2
              omega) (.inr ⟨rfl, rfl⟩)
          have hlt := bo hS.o
          obtain ⟨V1, hV1⟩ : ∃ V1, W'.putObj (W.heap.size + 2 + 1) (.loop (rec .busy none)) = V1 := ⟨_, rfl⟩
          have hs1 : V1.heap.size = W'.heap.size := by rw [← hV1]; simp
          have hk1 : ∀ r, r ≠ W.heap.size + 2 + 1 → V1.heap[r]? = W'.heap[r]? := fun r hr => by rw [← hV1]; exact World.putObj_heap_other hr
          rw [hV1] at hSb ⊢
          have hWS := nA bb bb (Lib.byteCells (cU (l.take i) ++ mu (a.lines.take j))) (x ++ ⟨#[10]⟩) V1 hSb.b
            (by rw [Lib.byteCells_length, ByteArray.size_append]; have : (ByteArray.mk #[10]).size = 1 := rfl; omega) (by have := mw hSb.b; omega)
          gi_wp2_with (refine ⟨trivial, ?_⟩; gi_at_call 43; refine (callsIn_wide.2 hWS).mono ?_; rintro e W6 ⟨rfl, hb6, hlow6, hot6⟩)
          have hnb : ∀ r, bb < r → some r ≠ some bb := fun r h e => by cases e; omega
          have hj : a.lines.take (j + 1) = a.lines.take j ++ [x] := by rw [List.take_add_one, hx]; rfl
          have hS6 : TJ w bb (W.heap.size + 1) (W.heap.size + 2 + 1) (a.V (.slice pw a.ws.length cw)) ((W.heap.size + 2) :: Ds) (.loop (rec .busy none)) (cU (l.take i) ++ mu (a.lines.take (j + 1))) W6 := by
            refine ⟨.inr ?_, hot6 _ _ hSb.a (hnb _ (by omega)) (fo (by decide)), hSb.low.trans (hlow6.mono hwb), fun D hD => hot6 _ _ (hSb.ds D hD) (fun e => ?_) (kU _), hot6 _ _ hSb.o (hnb _ (by omega)) (rm _)⟩
            · rw [hj, zz, ← List.append_assoc, ou _ (Cl x)]
              have e1 : Lib.strCells (x ++ ⟨#[10]⟩) = Lib.byteCells (Cl x) := by
                simp [Lib.strCells, Lib.byteCells, Cl, ByteArray.data_append]
              rw [← e1]
              exact hb6
            · have h1 := hSb.ds D hD
              have h2 := hSb.b
              cases e
              rcases h2 with ⟨_, v, h2, _⟩ | ⟨_, v, h2, _⟩ <;> (rw [h1] at h2; cases h2)
          have hD' : ∀ D ∈ (W.heap.size + 2) :: Ds, W.heap.size + 2 + 1 ≠ D := fun D hD => by
            rcases List.mem_cons.1 hD with rfl | hD
            · omega
            · have := bo (hds D hD).2
              omega
          have hS7 := TJ.put (obj' := .loop (rec .ready none)) hS6 (W.heap.size + 2 + 1) (.loop (rec .ready none)) _ (by have := hlow.size; omega) hS6.o rfl hD' (.inr ⟨rfl, rfl⟩)
          refine ⟨hS6.o, ?_, ?_, fun r ob h1 h2 h3 => ?_⟩
          · rw [← hT]; exact hS7
          · have := hlow6.size
            simp only [World.putObj_size]
            omega
          · exact (World.putObj_heap_other (by omega)).trans (hot6 _ _ ((hk1 r (by omega)).trans h2) (hnb _ (by omega)) h3)
        rw [hW0]
        refine (A5 9 (W.heap.size + 2 + 1) (W.heap.size + 1) W0.heap.size a.k a.m a.n a.ws (.slice pw a.ws.length cw) a.y a.t T hI hY W0 rfl h0).mono ?_
        rintro e W' ⟨hv', hS | hS⟩
        · rw [← hT] at hS
          have hS : TJ w bb (W.heap.size + 1) (W.heap.size + 2 + 1) (a.V (.slice pw a.ws.length cw)) ((W.heap.size + 2) :: Ds) (.loop (rec .ready none)) (cU (l.take i) ++ mu (a.lines.take a.lines.length)) W' := hS
          refine ⟨hv', .inl ⟨hS.o, ?_⟩⟩
          have hD' : ∀ D ∈ (W.heap.size + 2) :: Ds, W.heap.size + 2 + 1 ≠ D := fun D hD => by
            rcases List.mem_cons.1 hD with rfl | hD
            · omega
            · have := bo (hds D hD).2
              omega
          have hS7 := TJ.put (obj' := .loop (rec .exhausted none)) hS (W.heap.size + 2 + 1) (.loop (rec .exhausted none)) _ (by have := hlow.size; omega) hS.o rfl hD' (.inr ⟨rfl, rfl⟩)
          obtain ⟨W8, hW8⟩ : ∃ W8, W'.putObj (W.heap.size + 2 + 1) (.loop (rec .exhausted none)) = W8 := ⟨_, rfl⟩
          rw [hW8] at hS7 ⊢
          have hnd' : ((W.heap.size + 2) :: Ds).Nodup := List.nodup_cons.2 ⟨fun h => by have := bo (hds _ h).2; omega, tM⟩
          have hfin : ∀ u6 u7 u12 u16 u17 u18 u19 u20 u21 u22 u23 u24 u25 : Value, CN w bb (some ⟨bl, o, none⟩) cap l { tmps := #[.slice (some ⟨bl, o, none⟩) l.length cap, undef, .string ⟨#[]⟩, .int .i64 0, .pointer (some ⟨bb, 0, none⟩), undef, u6, u7, .slice (some ⟨bl, o, none⟩) l.length cap, .bool false, .slice (some ⟨bl, o, none⟩) l.length cap, .int .i64 l.length, u12, .slice (some ⟨bl, o, none⟩) l.length cap, .int .i64 l.length, .int .i64 ((i : Int) + 1), u16, u17, u18, u19, u20, u21, u22, u23, u24, u25, undef, undef, undef], defers := { target := .collected (W.heap.size + 2), args := #[] } :: Ds.map A6 } W8 := by
            intro u6 u7 u12 u16 u17 u18 u19 u20 u21 u22 u23 u24 u25
            refine ⟨i + 1, (W.heap.size + 2) :: Ds, u6, u7, u12, u16, u17, u18, u19, u20, u21, u22, u23, u24, u25, rfl, by omega, ?_, hS7.low, hnd', fun D hD => ⟨?_, hS7.ds D hD⟩⟩
            · have h1 := hS7.b
              rw [List.take_length] at h1
              rw [List.take_add_one, hai]
              show Lib.IsBuilderF 74 5 bb bb (Lib.byteCells (cU (l.take i ++ [a]))) W8
              rw [xP]
              exact h1
            · have := hlow.size
              rcases List.mem_cons.1 hD with rfl | hD
              · omega
              · exact (hds D hD).1
          gi_wp2
          simp [intOf]
          omega
        · rw [← hT] at hS
          exact hS.elim
      · have hil : i = l.length := by omega
        rw [hil, List.take_length] at hbld
        have hLen := Tryd.Builder_Len_f bb bb _ W hbld
        rw [Lib.byteCells_length] at hLen
        have hStr := Any.Builder_String_any_k uO jn bb bb (cU l) W hbld (Nat.le_of_lt (mw hbld))
        gi_wp2_with first
          | (refine ⟨trivial, ?_⟩; gi_at_call 44; refine (callsIn_wide.2 hLen).mono ?_; rintro e w' ⟨rfl, rfl⟩)
          | (refine ⟨trivial, ?_⟩; gi_at_call 45; refine (callsIn_wide.2 hStr).mono ?_; rintro e W5 ⟨rfl, _, hb5, ho5⟩)
        · exact kq w.heap.size (fun W => results_tmp2 rfl _ _ _) (fun W => Below w.heap.size w W) (fun W D h1 h2 => db h2 h1 _) (fun W h => ⟨rfl, h⟩) Ds _ tM hds hlow
        · exact kq w.heap.size (fun W => results_tmp2 rfl _ _ _) (fun W => Below w.heap.size w W) (fun W D h1 h2 => db h2 h1 _) (fun W h => ⟨rfl, h⟩) Ds W5 tM (fun D hD => ⟨(hds D hD).1, ho5 _ _ (hds D hD).2 (fun e => by
            cases e
            rcases hbld with ⟨_, v, h2, _⟩ | ⟨_, v, h2, _⟩ <;> (rw [(hds _ hD).2] at h2; cases h2)) (kU _)⟩) (hlow.trans (hb5.mono hwb))
end Go.Plb.Seat
namespace Go.Plb.Seat
open Go Go.Plb Go.Proofs Go.RowKit
set_option maxRecDepth 100000
set_option linter.unusedSimpArgs false
set_option linter.unusedVariables false
theorem kV{ρ:aa}{W:World}{k:IntKind}{n:Int}{u:Value}(h:VR ρ W (.int k n) u) :u=.int k n:=by cases h;rfl
theorem xQ{ρ:aa}{W:World}{lv:Lv}{ws:List Int}{len:Nat}(hlen:len=ws.length){v:Value}(hv:VR ρ W (.imm lv (.ns .u64 ws) 1 1 0 len) v) :VR aa.none_ W (dh ws) v:=by
  have av:∀ bl,aa.none_.avoid .free bl:=fun bl j _=>by cases j<;>exact fun h=>h
  generalize hA:AV.imm lv (.ns .u64 ws) 1 1 0 len=A at hv
  cases hv with
  | imm bw d k es i len' cap bl o u ha hb hc hv hl hr hk hg =>
    cases hA
    subst hlen
    refine .imm .free (.ns .u64 ws) 1 1 0 ws.length cap bl o u (av bl) hb hc (fun x v hx=>?_) hl trivial (fun _=>rfl) rfl
    have h1:=hv x v hx
    simp only [ae.cell?,Option.map_eq_some_iff] at hx
    obtain ⟨z,_,rfl⟩:=hx
    rw [kV h1]
    exact .int _ _
  | immEnd bw d k es i cap a hr hk hg =>
    simp only [AV.imm.injEq] at hA
    obtain ⟨_,_,_,_,_,h0⟩:=hA
    subst h0
    show VR aa.none_ W (.imm .free (.ns .u64 ws) 1 1 0 ws.length) _
    rw [←hlen]
    exact .immEnd _ _ _ _ _ _ _ trivial (fun _=>rfl) rfl
  | _=>cases hA
def Cm(d:ae)(l:List oV) :Prop:=∀ i a,l[i]? = some a→∃ lv,d.cell? (i*6)=some (.int .i64 a.k)∧d.cell? (i*6+1)=some (.int .i64 a.m)∧d.cell? (i*6+2)=some (.int .i64 a.n) ∧
  d.cell? (i*6+3)=some (.imm lv (.ns .u64 a.ws) 1 1 0 a.ws.length)∧d.cell? (i*6+4)=some (.int .i64 a.y)∧d.cell? (i*6+5)=some (.int .u64 a.t)
theorem Bv(bw:Lv)(d:ae)(k es:Nat)(l:List oV)(hd:Cm d l)(hl:l.length≤1000000000) :ah prog eT [] [.imm bw d k es 0 l.length] ⟨.tup [.str (oW l),.int .i64 (oX l)],[]⟩:=by
  refine ba ⟨FN eT,by kernel_rfl,by kernel_rfl⟩ fun ρ w us hN hv=>?_
  cases hv with | cons _ u _ _ h1 h2 =>
  cases h2
  have key:∃ p bl o cap,u=.slice p l.length cap∧(1≤l.length→p=some ⟨bl,o,none⟩)∧mv w bl o l:=by
    generalize hA:AV.imm bw d k es 0 l.length=A at h1
    cases h1 with
    | imm bw d k es i len cap bl o u ha hb hc hv hl hr hk hg =>
      cases hA
      refine ⟨_,bl,o+0*k,cap,rfl,fun _=>rfl,fun i a hi=>?_⟩
      obtain ⟨lv,g0,g1,g2,g3,g4,g5⟩:=hd i a hi
      refine ⟨u (i*6+3),?_,?_,?_,?_,?_,?_,xQ rfl (hv _ _ g3),hb⟩
      · have:=hc _ _ g0;rw [kV (hv _ _ g0)] at this;rw [show o+0*k+i*6=o+i*6 by omega];exact this
      · have:=hc _ _ g1;rw [kV (hv _ _ g1)] at this;rw [show o+0*k+i*6+1=o+(i*6+1) by omega];exact this
      · have:=hc _ _ g2;rw [kV (hv _ _ g2)] at this;rw [show o+0*k+i*6+2=o+(i*6+2) by omega];exact this
      · have:=hc _ _ g3;rw [show o+0*k+i*6+3=o+(i*6+3) by omega];exact this
      · have:=hc _ _ g4;rw [kV (hv _ _ g4)] at this;rw [show o+0*k+i*6+4=o+(i*6+4) by omega];exact this
      · have:=hc _ _ g5;rw [kV (hv _ _ g5)] at this;rw [show o+0*k+i*6+5=o+(i*6+5) by omega];exact this
    | immEnd bw d k es i cap a hr hk hg =>
      simp only [AV.imm.injEq] at hA
      obtain ⟨_,_,_,_,_,h0⟩:=hA
      rw [h0]
      refine ⟨a,0,0,cap,rfl,fun h=>by omega,fun i a hi=>?_⟩
      have:=(List.getElem?_eq_some_iff.1 hi).1
      omega
    | _=>cases hA
  obtain ⟨p,bl,o,cap,rfl,hp,hA⟩:=key
  refine (wG bl o cap l hl w hN.romOk hA p hp).mono ?_
  rintro e w' ⟨rfl,hb⟩
  exact ⟨_,rfl,hb,.tup _ _ (.cons _ _ _ _ (.str _) (.cons _ _ _ _ (.int _ _) .nil))⟩
def vc:aM:=⟨eT,fun lent args=>match lent,args with
  | [],[.imm bw (.vs [.int .i64 k,.int .i64 m,.int .i64 n,.imm lv (.ns .u64 ws) 1 1 0 len,.int .i64 y,.int .u64 t]) 1 6 0 1] =>
    some [⟨⟨.tup [.str (oW [⟨k,m,n,ws,y,t⟩]),.int .i64 (oX [⟨k,m,n,ws,y,t⟩])],[]⟩,[Nat.beq len ws.length]⟩]
  | _,_=>none⟩
theorem xR:aT prog vc:=by
  intro lent args alts a h ha ho
  simp only [vc] at h
  split at h
  · simp only [Option.some.injEq] at h;subst h
    simp only [List.mem_singleton] at ha;subst ha
    rename_i bw k m n lv ws len y t
    have hlen:len=ws.length:=Nat.eq_of_beq_eq_true ho.1
    subst hlen
    refine Bv bw _ 1 6 [⟨k,m,n,ws,y,t⟩] (fun i a hi=>?_) (show 1≤1000000000 by omega)
    cases i with
    | zero=>cases hi;exact ⟨lv,rfl,rfl,rfl,rfl,rfl,rfl⟩
    | succ i=>simp at hi
  · cases h
end Go.Plb.Seat
namespace Go.Plb.Seat
open Go Go.Plb
set_option linter.unusedSimpArgs false
set_option linter.unusedVariables false
set_option maxRecDepth 100000
noncomputable def Cn:List aM:=vc::Ck
theorem Bw:aX prog (a7 Cn):=au xR nn
def C4:Option (jB×List Bool×bQ)→Bool
  | some (⟨.bool _ true,[]⟩,o,_)=>yV o
  | _=>false
theorem A7{r:Option (jB×List Bool×bQ)}(h:C4 r=true) :∃ k o p,r=some (⟨.bool k true,[]⟩,o,p)∧ac o:=by
  unfold C4 at h
  split at h
  · exact ⟨_,_,_,rfl,tx h⟩
  · cases h
theorem zA:C4 (tE C0 (a7 Cn) (gO C0 (a7 Cn) 50 100) h8 [] [] none)=true:=by kernel_rfl
theorem Bx:ah prog h8 [] [] ⟨.bool false true,[]⟩:=by
  obtain ⟨k,o,p,h,ho⟩:=A7 zA
  exact (ah.run BS Bw none _ _ h ho).weak (xw _ _ _)
def ve:aM:=⟨h8,fun L args=>match L,args with | [],[]=>one (.bool false true) [] | _,_=>none⟩
theorem xS:aT prog ve:=by
  intro L args alts a h ha ho
  simp only [ve] at h
  split at h
  · exact za h ha ho fun q=>Bx
  · cases h
end Go.Plb.Seat
namespace Go.Plb.Seat
open Go Go.Plb
noncomputable def CO:List aM:=ve::lL
theorem nB:aX prog (a7 CO):=au xS oj
end Go.Plb.Seat
namespace Go.Plb.Seat
open Go Go.Plb
set_option linter.unusedVariables false
set_option maxRecDepth 100000
noncomputable section
inductive aF where
  | r0 (a20:Nat) (a21:Nat) (l22:List ByteArray)
def eW:aF→AE×ax
  | .r0 a20 a21 l22=>(.ret,⟨aH 32 [(2,.sl 0 1 1 0 a20 a21)],[(0,.ss l22)],1⟩)
theorem d6:r7 eW:=by intro x;cases x<;>(intro h;cases h)
theorem rv(id:Nat) :pg id eW:=by intro x;cases x<;>(intro h;cases h)
def ir:aF→jB
  | .r0 a20 a21 l22=>⟨.sl 0 1 1 0 a20 a21,[some (.ss l22)]⟩
noncomputable def pu:List Code:=c8 (qM ib)
def rx(s_0:ByteArray)(_:Unit) :ax:=⟨aH 32 [(0,.str s_0),(3,.nsl),(4,.int .i64 (0:Int)),(5,.int .i64 (0:Int))],[],0⟩
def pv:T ((Unit)⊕(aF)) :=
  .leaf (.inl ())
def d7(s_0:ByteArray) :Nat×Nat×Nat×Nat×(List ByteArray)→ax:=fun (l8,l9,at10,i11,l12)=>⟨aH 32 [(0,.str s_0),(3,.sl 0 1 1 0 l8 l9),(4,.int .i64 ((at10:Nat):Int)),(5,.int .i64 ((i11:Nat):Int))],[(0,.ss l12)],1⟩
def kr:Nat×Nat×(List ByteArray)→ax:=fun (l17,l18,l19)=>⟨aH 32 [(3,.sl 0 1 1 0 l17 l18)],[(0,.ss l19)],1⟩
noncomputable def px:List Code:=c8 (ii ((((pu.drop 4).take 1)).headD .skip))
def ry(s_0:ByteArray)(i11:Nat) :Nat×Nat×Nat×(List ByteArray)→ax:=fun (l13,l14,at15,l16)=>⟨aH 32 [(0,.str s_0),(3,.sl 0 1 1 0 l13 l14),(4,.int .i64 ((at15:Nat):Int)),(5,.int .i64 ((i11:Nat):Int))],[(0,.ss l16)],1⟩
def py(s_0:ByteArray)(l8:Nat)(l9:Nat)(at10:Nat)(i11:Nat)(l12:List ByteArray) :T ((Nat×Nat×Nat×(List ByteArray))⊕((Nat×Nat×(List ByteArray))⊕(aF))) :=
  .ask (decide (((i11:Nat):Int)≤((s_0.size:Nat):Int)))
    (.ask (((i11:Nat):Int)==((s_0.size:Nat):Int))
      (.need (mA ((i11:Nat):Int) s_0.size)<|.need (mA ((at10:Nat):Int) i11)<|.need (dd ((l8+1)*16) 140737488355328)<|.need (dd (l8+1) 9223372036854775807)<|.need (dd 1 (List.length [(s_0.extract at10 i11)]))<|.need (dd l8 (List.length l12))<|.need (jO .i64 (((i11+1):Nat):Int))<|.leaf (.inl ((l8+1),(l8+1),(i11+1),((List.take l8 l12)++(List.take 1 [(s_0.extract at10 i11)])))))
      (.need (r5 ((i11:Nat):Int) s_0.size)<|.ask ((aC s_0 i11)==(32:Int))
        (.need (mA ((i11:Nat):Int) s_0.size)<|.need (mA ((at10:Nat):Int) i11)<|.need (dd ((l8+1)*16) 140737488355328)<|.need (dd (l8+1) 9223372036854775807)<|.need (dd 1 (List.length [(s_0.extract at10 i11)]))<|.need (dd l8 (List.length l12))<|.need (jO .i64 (((i11+1):Nat):Int))<|.leaf (.inl ((l8+1),(l8+1),(i11+1),((List.take l8 l12)++(List.take 1 [(s_0.extract at10 i11)])))))
        (.leaf (.inl (l8,l9,at10,l12)))))
    (.leaf (.inr (.inl (l8,l9,l12))))
def pz(i11:Nat)(l13:Nat)(l14:Nat)(at15:Nat)(l16:List ByteArray) :T ((Nat×Nat×Nat×Nat×(List ByteArray))⊕((Nat×Nat×(List ByteArray))⊕(aF))) :=
  .need (jO .i64 (((i11+1):Nat):Int))<|.leaf (.inl (l13,l14,at15,(i11+1),l16))
noncomputable def fB(s_0:ByteArray) :Nat×Nat×Nat×Nat×(List ByteArray)→Option ((Nat×Nat×Nat×Nat×(List ByteArray))⊕((Nat×Nat×(List ByteArray))⊕(aF))):=fun (l8,l9,at10,i11,l12) =>
  cF ((py s_0 l8 l9 at10 i11 l12).run) fun (l13,l14,at15,l16) =>
  (pz i11 l13 l14 at15 l16).run
theorem pA(s_0:ByteArray)(l8:Nat)(l9:Nat)(at10:Nat)(i11:Nat)(l12:List ByteArray) :Sg prog [] px (d7 s_0 (l8,l9,at10,i11,l12)) (fB s_0 (l8,l9,at10,i11,l12)) (d7 s_0) (fi 0 kr eW):=by
  unfold fB;exact Sg.cut 3 (ni d6) (gE nB (ry s_0 i11) [⟨[],[321],[0,3,4,5]⟩,⟨[],[321],[0,3,4,5]⟩,⟨[],[0],[0,3,4,5]⟩,⟨[],[0],[3]⟩]) (fun ⟨l13,l14,at15,l16⟩=>gE nB (d7 s_0) [⟨[],[0],[0,3,4,5]⟩])
def pB(l17:Nat)(l18:Nat)(l19:List ByteArray) :T ((Empty)⊕(aF)) :=
  .leaf (.inr (.r0 l17 l18 l19))
noncomputable def bO(s_0:ByteArray) :Option aF:=wu (cF ((pv).run) fun _ =>
  cF (cm (fB s_0) (0,0,0,0,([]:List ByteArray))) fun (l17,l18,l19) =>
  (pB l17 l18 l19).run)
theorem rz(s_0:ByteArray){x:aF}(h:bO s_0=some x) :ah prog ib [] [.str s_0] (ir x) :=
  zj false ir eW h (Sg.cut 4 d6 (gE nB (rx s_0) [⟨[],[],[0,3,4,5]⟩]) (fun _=>Sg.cut 1 d6 (BU ⟨[(.slot 3,.own 1 1 (.ss ([]:List ByteArray)))],[0],[0,3,4,5]⟩ (d7 s_0) (kr) 0 d6 (rv _) (fun ⟨l8,l9,at10,i11,l12⟩=>pA s_0 l8 l9 at10 i11 l12)) (fun ⟨l17,l18,l19⟩=>gE nB xF [⟨[],[0],[2]⟩])))
    (fun x=>by cases x with | r0 a20 a21 l22=>exact tM [.sl 0 1 1 0 a20 a21])
def d8:Option aF→Bool
  | some _=>true
  | none=>false
def eG:Option aF→Nat
  | some (.r0 x _ _)=>x
  | _=>0
def eH:Option aF→Nat
  | some (.r0 _ x _)=>x
  | _=>0
def eI:Option aF→List ByteArray
  | some (.r0 _ _ x)=>x
  | _=>[]
theorem rA{x:Option aF}(h:d8 x=true) :x=some (.r0 (eG x) (eH x) (eI x)):=by
  unfold d8 at h
  split at h<;>first | rfl | (cases h;done) | (rename_i y;cases y;rfl)
noncomputable def lO:aM:=dt ib (.cons .str .nil) fun t=>(fun q=>[⟨ir (.r0 (eG q) (eH q) (eI q)),[d8 q]⟩]) (bO t.1)
theorem ov:aT prog lO:=a8 fun t=>(bH (fun h=>rz t.1 (rA h)) b8)
noncomputable def lP:List aM:=lO::CO
theorem co:aX prog (a7 lP):=au ov nB
inductive aR where
  | r0 (i9:Int) (a10:Nat)
def fT:aR→AE×ax
  | .r0 i9 a10=>(.ret,⟨aH 45 [(2,.int .u64 i9),(3,.int .i64 ((a10:Nat):Int))],[],0⟩)
theorem eX:r7 fT:=by intro x;cases x<;>(intro h;cases h)
theorem sM(id:Nat) :pg id fT:=by intro x;cases x<;>(intro h;cases h)
def jw:aR→jB
  | .r0 i9 a10=>⟨.tup [.int .u64 i9,.int .i64 ((a10:Nat):Int)],[]⟩
noncomputable def rB:List Code:=c8 (qM jl)
def sN(s_0:ByteArray)(_:Unit) :ax:=⟨aH 45 [(0,.str s_0),(4,.int .u64 (0:Int)),(5,.int .i64 (0:Int))],[],0⟩
def ku(s_0:ByteArray) :T ((Unit)⊕(aR)) :=
  .ask (((s_0.size:Nat):Int) != (16:Int))
    (.leaf (.inr (.r0 (0:Int) 4)))
    (.leaf (.inl ()))
def eY(s_0:ByteArray) :Int×Nat→ax:=fun (w5,i6)=>⟨aH 45 [(0,.str s_0),(4,.int .u64 w5),(5,.int .i64 ((i6:Nat):Int))],[],0⟩
def lQ(w8:Int) :ax:=⟨aH 45 [(4,.int .u64 w8)],[],0⟩
noncomputable def rC:List Code:=c8 (ii ((((rB.drop 5).take 1)).headD .skip))
def sO(s_0:ByteArray)(i6:Nat)(w7:Int) :ax:=⟨aH 45 [(0,.str s_0),(4,.int .u64 w7),(5,.int .i64 ((i6:Nat):Int))],[],0⟩
def d9(s_0:ByteArray)(w5:Int)(i6:Nat) :T ((Int)⊕((Int)⊕(aR))) :=
  .ask (decide (((i6:Nat):Int)<(16:Int)))
    (.need (r5 ((i6:Nat):Int) s_0.size)<|.ask (decide ((aC s_0 i6)≥(48:Int)))
      (.ask (decide ((aC s_0 i6)≤(57:Int)))
        (.leaf (.inl (IntKind.u64.wrap ((IntKind.u64.wrap (w5*(16:Int)))+(IntKind.u64.wrap (IntKind.u8.wrap ((aC s_0 i6)-(48:Int))))))))
        (.ask (decide ((aC s_0 i6)≥(65:Int)))
          (.ask (decide ((aC s_0 i6)≤(70:Int)))
            (.leaf (.inl (IntKind.u64.wrap ((IntKind.u64.wrap (w5*(16:Int)))+(IntKind.u64.wrap (IntKind.u8.wrap ((IntKind.u8.wrap ((aC s_0 i6)-(65:Int)))+(10:Int))))))))
            (.leaf (.inr (.inr (.r0 (0:Int) 4)))))
          (.leaf (.inr (.inr (.r0 (0:Int) 4))))))
      (.ask (decide ((aC s_0 i6)≥(65:Int)))
        (.ask (decide ((aC s_0 i6)≤(70:Int)))
          (.leaf (.inl (IntKind.u64.wrap ((IntKind.u64.wrap (w5*(16:Int)))+(IntKind.u64.wrap (IntKind.u8.wrap ((IntKind.u8.wrap ((aC s_0 i6)-(65:Int)))+(10:Int))))))))
          (.leaf (.inr (.inr (.r0 (0:Int) 4)))))
        (.leaf (.inr (.inr (.r0 (0:Int) 4))))))
    (.leaf (.inr (.inl w5)))
def rD(i6:Nat)(w7:Int) :T ((Int×Nat)⊕((Int)⊕(aR))) :=
  .need (jO .i64 (((i6+1):Nat):Int))<|.leaf (.inl (w7,(i6+1)))
noncomputable def cV(s_0:ByteArray) :Int×Nat→Option ((Int×Nat)⊕((Int)⊕(aR))):=fun (w5,i6) =>
  cF ((d9 s_0 w5 i6).run) fun w7 =>
  (rD i6 w7).run
theorem rE(s_0:ByteArray)(w5:Int)(i6:Nat) :Sg prog [] rC (eY s_0 (w5,i6)) (cV s_0 (w5,i6)) (eY s_0) (fi 0 lQ fT):=by
  unfold cV;exact Sg.cut 3 (ni eX) (gE co (sO s_0 i6) [⟨[],[],[0,4,5]⟩,⟨[],[],[0,4,5]⟩,⟨[],[],[2,3]⟩,⟨[],[],[2,3]⟩,⟨[],[],[0,4,5]⟩,⟨[],[],[2,3]⟩,⟨[],[],[2,3]⟩,⟨[],[],[4]⟩]) (fun w7=>gE co (eY s_0) [⟨[],[],[0,4,5]⟩])
def rF(w8:Int) :T ((Empty)⊕(aR)) :=
  .leaf (.inr (.r0 w8 0))
noncomputable def bY(s_0:ByteArray) :Option aR:=wu (cF ((ku s_0).run) fun _ =>
  cF (cm (cV s_0) ((0:Int),0)) fun w8 =>
  (rF w8).run)
theorem sP(s_0:ByteArray){x:aR}(h:bY s_0=some x) :ah prog jl [] [.str s_0] (jw x) :=
  zj false jw fT h (Sg.cut 5 eX (gE co (sN s_0) [⟨[],[],[2,3]⟩,⟨[],[],[0,4,5]⟩]) (fun _=>Sg.cut 1 eX (BU ⟨[],[],[0,4,5]⟩ (eY s_0) (lQ) 0 eX (sM _) (fun ⟨w5,i6⟩=>rE s_0 w5 i6)) (fun w8=>gE co xF [⟨[],[],[2,3]⟩])))
    (fun x=>by cases x with | r0 i9 a10=>exact tM [.int .u64 i9,.int .i64 ((a10:Nat):Int)])
def eZ:Option aR→Bool
  | some _=>true
  | none=>false
def dC:Option aR→Int
  | some (.r0 x _)=>x
  | _=>0
def fC:Option aR→Nat
  | some (.r0 _ x)=>x
  | _=>0
theorem sQ{x:Option aR}(h:eZ x=true) :x=some (.r0 (dC x) (fC x)):=by
  unfold eZ at h
  split at h<;>first | rfl | (cases h;done) | (rename_i y;cases y;rfl)
noncomputable def nC:aM:=dt jl (.cons .str .nil) fun t=>(fun q=>[⟨jw (.r0 (dC q) (fC q)),[eZ q]⟩]) (bY t.1)
theorem pC:aT prog nC:=a8 fun t=>(bH (fun h=>sP t.1 (sQ h)) b8)
noncomputable def nD:List aM:=nC::lP
theorem dD:aX prog (a7 nD):=au pC co
inductive bf where
  | r0 (s14:ByteArray)
def fU:bf→AE×ax
  | .r0 s14=>(.ret,⟨aH 20 [(2,.str s14)],[],0⟩)
theorem iu:r7 fU:=by intro x;cases x<;>(intro h;cases h)
theorem sR(id:Nat) :pg id fU:=by intro x;cases x<;>(intro h;cases h)
def jx:bf→jB
  | .r0 s14=>⟨.str s14,[]⟩
noncomputable def sS:List Code:=c8 (qM jm)
def sT(w_0:Int)(_:Unit) :ax:=⟨aH 20 [(0,.int .u64 w_0),(3,.nsl),(4,.int .i64 (60:Int))],[],0⟩
def sU:T ((Unit)⊕(bf)) :=
  .leaf (.inl ())
def e7(w_0:Int) :Nat×Nat×Int×(List Int)→ax:=fun (b6,b7,i9,l10)=>⟨aH 20 [(0,.int .u64 w_0),(3,.sl 0 1 1 0 b6 b7),(4,.int .i64 i9)],[(0,.ns .u8 l10)],1⟩
def lR:Nat×Nat×(List Int)→ax:=fun (b11,b12,l13)=>⟨aH 20 [(3,.sl 0 1 1 0 b11 b12)],[(0,.ns .u8 l13)],1⟩
noncomputable def rG:List Code:=c8 (ii ((((sS.drop 3).take 1)).headD .skip))
def gz(w_0:Int)(b6:Nat)(b7:Nat)(i9:Int)(l10:List Int) :T ((Nat×Nat×Int×(List Int))⊕((Nat×Nat×(List Int))⊕(bf))) :=
  .ask (decide (i9≥(0:Int)))
    (.need (decide ((0:Int)≤(IntKind.u64.wrap i9)))<|.need (r5 (lh .and .u64 (Int.fdiv w_0 (2^(min (Int.toNat (IntKind.u64.wrap i9)) (IntKind.u64.bits)))) (15:Int)) (ByteArray.mk #[48,49,50,51,52,53,54,55,56,57,65,66,67,68,69,70]).size)<|.need (dd ((b6+1)*1) 140737488355328)<|.need (dd (b6+1) 9223372036854775807)<|.need (dd 1 (List.length [(aC (ByteArray.mk #[48,49,50,51,52,53,54,55,56,57,65,66,67,68,69,70]) (Int.toNat (lh .and .u64 (Int.fdiv w_0 (2^(min (Int.toNat (IntKind.u64.wrap i9)) (IntKind.u64.bits)))) (15:Int))))]))<|.need (dd b6 (List.length l10))<|.need (jO .i64 (i9-(4:Int)))<|.leaf (.inl ((b6+1),(b6+1),(i9-(4:Int)),((List.take b6 l10)++(List.take 1 [(aC (ByteArray.mk #[48,49,50,51,52,53,54,55,56,57,65,66,67,68,69,70]) (Int.toNat (lh .and .u64 (Int.fdiv w_0 (2^(min (Int.toNat (IntKind.u64.wrap i9)) (IntKind.u64.bits)))) (15:Int))))])))))
    (.leaf (.inr (.inl (b6,b7,l10))))
noncomputable def cW(w_0:Int) :Nat×Nat×Int×(List Int)→Option ((Nat×Nat×Int×(List Int))⊕((Nat×Nat×(List Int))⊕(bf))):=fun (b6,b7,i9,l10) =>
  (gz w_0 b6 b7 i9 l10).run
theorem rH(w_0:Int)(b6:Nat)(b7:Nat)(i9:Int)(l10:List Int) :Sg prog [] rG (e7 w_0 (b6,b7,i9,l10)) (cW w_0 (b6,b7,i9,l10)) (e7 w_0) (fi 0 lR fU):=by
  unfold cW;exact gE dD (e7 w_0) [⟨[],[161],[0,3,4]⟩,⟨[],[0],[3]⟩]
def kv(b11:Nat)(l13:List Int) :T ((Empty)⊕(bf)) :=
  .need (dd b11 (List.length l13))<|.leaf (.inr (.r0 (ly (List.take b11 l13))))
noncomputable def aL(w_0:Int) :Option bf:=wu (cF ((sU).run) fun _ =>
  cF (cm (cW w_0) (0,0,(60:Int),([]:List Int))) fun (b11,b12,l13) =>
  (kv b11 l13).run)
theorem sV(w_0:Int){x:bf}(h:aL w_0=some x) :ah prog jm [] [.int .u64 w_0] (jx x) :=
  zj false jx fU h (Sg.cut 3 iu (gE dD (sT w_0) [⟨[],[],[0,3,4]⟩]) (fun _=>Sg.cut 1 iu (BU ⟨[(.slot 3,.own 1 1 (.ns .u8 ([]:List Int)))],[0],[0,3,4]⟩ (e7 w_0) (lR) 0 iu (sR _) (fun ⟨b6,b7,i9,l10⟩=>rH w_0 b6 b7 i9 l10)) (fun ⟨b11,b12,l13⟩=>gE dD xF [⟨[],[],[2]⟩])))
    (fun x=>by cases x with | r0 s14=>exact tM [.str s14])
def dw:Option bf→Bool
  | some _=>true
  | none=>false
def aQ:Option bf→ByteArray
  | some (.r0 x)=>x
  | _=>ByteArray.empty
theorem sW{x:Option bf}(h:dw x=true) :x=some (.r0 (aQ x)):=by
  unfold dw at h
  split at h<;>first | rfl | (cases h;done) | (rename_i y;cases y;rfl)
noncomputable def nE:aM:=dt jm (.cons (.int .u64) .nil) fun t=>(fun q=>[⟨jx (.r0 (aQ q)),[dw q]⟩]) (aL t.1)
theorem pD:aT prog nE:=a8 fun t=>(bH (fun h=>sV t.1 (sW h)) b8)
noncomputable def nF:List aM:=nE::nD
theorem bW:aX prog (a7 nF):=au pD dD
inductive aA where
  | r0 (a16:Nat) (a17:Nat) (b18:Bool) (l19:List Int)
def e8:aA→AE×ax
  | .r0 a16 a17 b18 l19=>(.ret,⟨aH 32 [(2,.sl 0 1 1 0 a16 a17),(3,.bool false b18)],[(0,.ns .u64 l19)],1⟩)
theorem cX:r7 e8:=by intro x;cases x<;>(intro h;cases h)
theorem rI(id:Nat) :pg id e8:=by intro x;cases x<;>(intro h;cases h)
def iv:aA→jB
  | .r0 a16 a17 b18 l19=>⟨.tup [.sl 0 1 1 0 a16 a17,.bool false b18],[some (.ns .u64 l19)]⟩
noncomputable def pE:List Code:=c8 (qM ia)
def rJ:Nat×Nat×(List ByteArray)→ax:=fun (w1,w2,l3)=>⟨aH 32 [(4,.sl 0 1 1 0 w1 w2)],[(0,.ss l3)],1⟩
def fD(s_0:ByteArray) :T ((Nat×Nat×(List ByteArray))⊕(aA)) :=
  .need (d8 (bO s_0))<|.leaf (.inl ((eG (bO s_0)),(eH (bO s_0)),(eI (bO s_0))))
def rK(w1:Nat)(w2:Nat)(l3:List ByteArray)(_:Unit) :ax:=⟨aH 32 [(4,.sl 0 1 1 0 w1 w2),(5,.nsl),(6,.int .i64 (0:Int))],[(0,.ss l3)],1⟩
def pF:T ((Unit)⊕(aA)) :=
  .leaf (.inl ())
def ed(w1:Nat)(w2:Nat)(l3:List ByteArray) :Nat×Nat×Nat×(List Int)→ax:=fun (l7,l8,i9,l10)=>⟨aH 32 [(4,.sl 0 1 1 0 w1 w2),(5,.sl 1 1 1 0 l7 l8),(6,.int .i64 ((i9:Nat):Int))],[(0,.ss l3),(1,.ns .u64 l10)],2⟩
def kw:Nat×Nat×(List Int)→ax:=fun (l13,l14,l15)=>⟨aH 32 [(5,.sl 0 1 1 0 l13 l14)],[(0,.ns .u64 l15)],1⟩
noncomputable def pG:List Code:=c8 (ii (((((pE.drop 2).drop 2).take 1)).headD .skip))
def rL(w1:Nat)(w2:Nat)(l3:List ByteArray)(i9:Nat) :Nat×(List Int)→ax:=fun (l11,l12)=>⟨aH 32 [(4,.sl 0 1 1 0 w1 w2),(5,.sl 1 1 1 0 l11 l11),(6,.int .i64 ((i9:Nat):Int))],[(0,.ss l3),(1,.ns .u64 l12)],2⟩
def fE(w1:Nat)(l3:List ByteArray)(l7:Nat)(l8:Nat)(i9:Nat)(l10:List Int) :T ((Nat×(List Int))⊕((Nat×Nat×(List Int))⊕(aA))) :=
  .ask (decide (((i9:Nat):Int)<((w1:Nat):Int)))
    (.need (r5 ((i9:Nat):Int) w1)<|.need (iQ i9 (List.length l3))<|.need (eZ (bY (List.getD l3 i9 ByteArray.empty)))<|.ask ((((fC (bY (List.getD l3 i9 ByteArray.empty))):Nat):Int) != (0:Int))
      (.leaf (.inr (.inr (.r0 0 0 false ([]:List Int)))))
      (.need (dd ((l7+1)*8) 140737488355328)<|.need (dd (l7+1) 9223372036854775807)<|.need (dd 1 (List.length [(dC (bY (List.getD l3 i9 ByteArray.empty)))]))<|.need (dd l7 (List.length l10))<|.leaf (.inl ((l7+1),((List.take l7 l10)++(List.take 1 [(dC (bY (List.getD l3 i9 ByteArray.empty)))]))))))
    (.leaf (.inr (.inl (l7,l8,l10))))
def pH(i9:Nat)(l11:Nat)(l12:List Int) :T ((Nat×Nat×Nat×(List Int))⊕((Nat×Nat×(List Int))⊕(aA))) :=
  .need (jO .i64 (((i9+1):Nat):Int))<|.leaf (.inl (l11,l11,(i9+1),l12))
noncomputable def dE(w1:Nat)(l3:List ByteArray) :Nat×Nat×Nat×(List Int)→Option ((Nat×Nat×Nat×(List Int))⊕((Nat×Nat×(List Int))⊕(aA))):=fun (l7,l8,i9,l10) =>
  cF ((fE w1 l3 l7 l8 i9 l10).run) fun (l11,l12) =>
  (pH i9 l11 l12).run
theorem pI(w1:Nat)(w2:Nat)(l3:List ByteArray)(l7:Nat)(l8:Nat)(i9:Nat)(l10:List Int) :Sg prog [] pG (ed w1 w2 l3 (l7,l8,i9,l10)) (dE w1 l3 (l7,l8,i9,l10)) (ed w1 w2 l3) (fi 0 kw e8):=by
  unfold dE;exact Sg.cut 3 (ni cX) (gE bW (rL w1 w2 l3 i9) [⟨[(.slot 2,.own 1 1 (.ns .u64 ([]:List Int)))],[290],[2,3]⟩,⟨[],[0,306],[4,5,6]⟩,⟨[],[1],[5]⟩]) (fun ⟨l11,l12⟩=>gE bW (ed w1 w2 l3) [⟨[],[0,1],[4,5,6]⟩])
def pJ(l13:Nat)(l14:Nat)(l15:List Int) :T ((Empty)⊕(aA)) :=
  .leaf (.inr (.r0 l13 l14 true l15))
noncomputable def bv(s_0:ByteArray) :Option aA:=wu (cF ((fD s_0).run) fun (w1,w2,l3) =>
  cF ((pF).run) fun _ =>
  cF (cm (dE w1 l3) (0,0,0,([]:List Int))) fun (l13,l14,l15) =>
  (pJ l13 l14 l15).run)
theorem rM(s_0:ByteArray){x:aA}(h:bv s_0=some x) :ah prog ia [] [.str s_0] (iv x) :=
  zj false iv e8 h (Sg.cut 2 cX (gE bW rJ [⟨[],[48],[4]⟩]) (fun ⟨w1,w2,l3⟩=>Sg.cut 2 cX (gE bW (rK w1 w2 l3) [⟨[],[0],[4,5,6]⟩]) (fun _=>Sg.cut 1 cX (BU ⟨[(.slot 5,.own 1 1 (.ns .u64 ([]:List Int)))],[0,1],[4,5,6]⟩ (ed w1 w2 l3) (kw) 0 cX (rI _) (fun ⟨l7,l8,i9,l10⟩=>pI w1 w2 l3 l7 l8 i9 l10)) (fun ⟨l13,l14,l15⟩=>gE bW xF [⟨[],[0],[2,3]⟩]))))
    (fun x=>by cases x with | r0 a16 a17 b18 l19=>exact tM [.sl 0 1 1 0 a16 a17,.bool false b18])
def ee:Option aA→Bool
  | some _=>true
  | none=>false
def eJ:Option aA→Nat
  | some (.r0 x _ _ _)=>x
  | _=>0
def eK:Option aA→Nat
  | some (.r0 _ x _ _)=>x
  | _=>0
def eL:Option aA→Bool
  | some (.r0 _ _ x _)=>x
  | _=>false
def eM:Option aA→List Int
  | some (.r0 _ _ _ x)=>x
  | _=>[]
theorem rN{x:Option aA}(h:ee x=true) :x=some (.r0 (eJ x) (eK x) (eL x) (eM x)):=by
  unfold ee at h
  split at h<;>first | rfl | (cases h;done) | (rename_i y;cases y;rfl)
noncomputable def lS:aM:=dt ia (.cons .str .nil) fun t=>(fun q=>[⟨iv (.r0 (eJ q) (eK q) (eL q) (eM q)),[ee q]⟩]) (bv t.1)
theorem ow:aT prog lS:=a8 fun t=>(bH (fun h=>rM t.1 (rN h)) b8)
noncomputable def lT:List aM:=lS::nF
theorem cp:aX prog (a7 lT):=au ow bW
inductive bi where
  | r0 (s16:ByteArray)
def g6:bi→AE×ax
  | .r0 s16=>(.ret,⟨aH 25 [(2,.str s16)],[],0⟩)
theorem fV:r7 g6:=by intro x;cases x<;>(intro h;cases h)
theorem vf(id:Nat) :pg id g6:=by intro x;cases x<;>(intro h;cases h)
def kx:bi→jB
  | .r0 s16=>⟨.str s16,[]⟩
noncomputable def sX:List Code:=c8 (qM j6)
def vg(v_0:Lv)(words_1:List Int)(_:Unit) :ax:=⟨aH 25 [(0,.imm v_0 (.ns .u64 words_1) 1 1 0 (List.length words_1)),(3,.nsl),(4,.int .i64 (0:Int))],[],0⟩
def sY:T ((Unit)⊕(bi)) :=
  .leaf (.inl ())
def fW(v_0:Lv)(words_1:List Int) :Nat×Nat×Nat×(List Int)→ax:=fun (b6,b7,i9,l10)=>⟨aH 25 [(0,.imm v_0 (.ns .u64 words_1) 1 1 0 (List.length words_1)),(3,.sl 0 1 1 0 b6 b7),(4,.int .i64 ((i9:Nat):Int))],[(0,.ns .u8 l10)],1⟩
def nG:Nat×Nat×(List Int)→ax:=fun (b13,b14,l15)=>⟨aH 25 [(3,.sl 0 1 1 0 b13 b14)],[(0,.ns .u8 l15)],1⟩
noncomputable def sZ:List Code:=c8 (ii ((((sX.drop 3).take 1)).headD .skip))
def vh(v_0:Lv)(words_1:List Int)(i9:Nat) :Nat×(List Int)→ax:=fun (b11,l12)=>⟨aH 25 [(0,.imm v_0 (.ns .u64 words_1) 1 1 0 (List.length words_1)),(3,.sl 0 1 1 0 b11 b11),(4,.int .i64 ((i9:Nat):Int))],[(0,.ns .u8 l12)],1⟩
def iw(words_1:List Int)(b6:Nat)(b7:Nat)(i9:Nat)(l10:List Int) :T ((Nat×(List Int))⊕((Nat×Nat×(List Int))⊕(bi))) :=
  .ask (decide (((i9:Nat):Int)<(((List.length words_1):Nat):Int)))
    (.ask (decide (((i9:Nat):Int)>(0:Int)))
      (.need (dd ((b6+1)*1) 140737488355328)<|.need (dd (b6+1) 9223372036854775807)<|.need (dd 1 (List.length [(32:Int)]))<|.need (dd b6 (List.length l10))<|.need (r5 ((i9:Nat):Int) (List.length words_1))<|.need (iQ i9 (List.length words_1))<|.need (dw (aL (List.getD words_1 i9 0)))<|.need (dd (((b6+1)+(aQ (aL (List.getD words_1 i9 0))).size)*1) 140737488355328)<|.need (dd ((b6+1)+(aQ (aL (List.getD words_1 i9 0))).size) 9223372036854775807)<|.need (dd (b6+1) (List.length ((List.take b6 l10)++(List.take 1 [(32:Int)]))))<|.leaf (.inl (((b6+1)+(aQ (aL (List.getD words_1 i9 0))).size),((List.take (b6+1) ((List.take b6 l10)++(List.take 1 [(32:Int)])))++(cj (aQ (aL (List.getD words_1 i9 0))))))))
      (.need (r5 ((i9:Nat):Int) (List.length words_1))<|.need (iQ i9 (List.length words_1))<|.need (dw (aL (List.getD words_1 i9 0)))<|.need (dd ((b6+(aQ (aL (List.getD words_1 i9 0))).size)*1) 140737488355328)<|.need (dd (b6+(aQ (aL (List.getD words_1 i9 0))).size) 9223372036854775807)<|.need (dd b6 (List.length l10))<|.leaf (.inl ((b6+(aQ (aL (List.getD words_1 i9 0))).size),((List.take b6 l10)++(cj (aQ (aL (List.getD words_1 i9 0)))))))))
    (.leaf (.inr (.inl (b6,b7,l10))))
def s8(i9:Nat)(b11:Nat)(l12:List Int) :T ((Nat×Nat×Nat×(List Int))⊕((Nat×Nat×(List Int))⊕(bi))) :=
  .need (jO .i64 (((i9+1):Nat):Int))<|.leaf (.inl (b11,b11,(i9+1),l12))
noncomputable def iy(words_1:List Int) :Nat×Nat×Nat×(List Int)→Option ((Nat×Nat×Nat×(List Int))⊕((Nat×Nat×(List Int))⊕(bi))):=fun (b6,b7,i9,l10) =>
  cF ((iw words_1 b6 b7 i9 l10).run) fun (b11,l12) =>
  (s8 i9 b11 l12).run
theorem ta(v_0:Lv)(words_1:List Int)(b6:Nat)(b7:Nat)(i9:Nat)(l10:List Int) :Sg prog [] sZ (fW v_0 words_1 (b6,b7,i9,l10)) (iy words_1 (b6,b7,i9,l10)) (fW v_0 words_1) (fi 0 nG g6):=by
  unfold iy;exact Sg.cut 3 (ni fV) (gE cp (vh v_0 words_1 i9) [⟨[],[257],[0,3,4]⟩,⟨[],[193],[0,3,4]⟩,⟨[],[0],[3]⟩]) (fun ⟨b11,l12⟩=>gE cp (fW v_0 words_1) [⟨[],[0],[0,3,4]⟩])
def lU(b13:Nat)(l15:List Int) :T ((Empty)⊕(bi)) :=
  .need (dd b13 (List.length l15))<|.leaf (.inr (.r0 (ly (List.take b13 l15))))
noncomputable def dM(words_1:List Int) :Option bi:=wu (cF ((sY).run) fun _ =>
  cF (cm (iy words_1) (0,0,0,([]:List Int))) fun (b13,b14,l15) =>
  (lU b13 l15).run)
theorem vi(v_0:Lv)(words_1:List Int){x:bi}(h:dM words_1=some x) :ah prog j6 [] [.imm v_0 (.ns .u64 words_1) 1 1 0 (List.length words_1)] (kx x) :=
  zj false kx g6 h (Sg.cut 3 fV (gE cp (vg v_0 words_1) [⟨[],[],[0,3,4]⟩]) (fun _=>Sg.cut 1 fV (BU ⟨[(.slot 3,.own 1 1 (.ns .u8 ([]:List Int)))],[0],[0,3,4]⟩ (fW v_0 words_1) (nG) 0 fV (vf _) (fun ⟨b6,b7,i9,l10⟩=>ta v_0 words_1 b6 b7 i9 l10)) (fun ⟨b13,b14,l15⟩=>gE cp xF [⟨[],[],[2]⟩])))
    (fun x=>by cases x with | r0 s16=>exact tM [.str s16])
def fX:Option bi→Bool
  | some _=>true
  | none=>false
def gA:Option bi→ByteArray
  | some (.r0 x)=>x
  | _=>ByteArray.empty
theorem vj{x:Option bi}(h:fX x=true) :x=some (.r0 (gA x)):=by
  unfold fX at h
  split at h<;>first | rfl | (cases h;done) | (rename_i y;cases y;rfl)
noncomputable def oY:aM:=dt j6 (.cons (.ns .u64) .nil) fun t=>(fun q=>[⟨kx (.r0 (gA q)),[fX q]⟩]) (dM t.1.2)
theorem rO:aT prog oY:=a8 fun t=>(bH (fun h=>vi t.1.1 t.1.2 (vj h)) b8)
noncomputable def oZ:List aM:=oY::lT
theorem ef:aX prog (a7 oZ):=au rO cp
inductive bg where
  | r0 (b2:Bool)
def fY:bg→AE×ax
  | .r0 b2=>(.ret,⟨aH 26 [(4,.bool false b2)],[],0⟩)
theorem iz:r7 fY:=by intro x;cases x<;>(intro h;cases h)
theorem tc(id:Nat) :pg id fY:=by intro x;cases x<;>(intro h;cases h)
def jy:bg→jB
  | .r0 b2=>⟨.bool false b2,[]⟩
noncomputable def td:List Code:=c8 (qM jk)
def tf(v_0:Lv)(a_1:List Int)(v_2:Lv)(b_3:List Int)(_:Unit) :ax:=⟨aH 26 [(0,.imm v_0 (.ns .u64 a_1) 1 1 0 (List.length a_1)),(1,.imm v_2 (.ns .u64 b_3) 1 1 0 (List.length b_3)),(5,.int .i64 (0:Int))],[],0⟩
def tg(a_1:List Int)(b_3:List Int) :T ((Unit)⊕(bg)) :=
  .ask ((((List.length a_1):Nat):Int) != (((List.length b_3):Nat):Int))
    (.leaf (.inr (.r0 false)))
    (.leaf (.inl ()))
def e9(v_0:Lv)(a_1:List Int)(v_2:Lv)(b_3:List Int)(i1:Nat) :ax:=⟨aH 26 [(0,.imm v_0 (.ns .u64 a_1) 1 1 0 (List.length a_1)),(1,.imm v_2 (.ns .u64 b_3) 1 1 0 (List.length b_3)),(5,.int .i64 ((i1:Nat):Int))],[],0⟩
def lV(_:Unit) :ax:=⟨aH 26 [],[],0⟩
noncomputable def th:List Code:=c8 (ii ((((td.drop 4).take 1)).headD .skip))
def tj(a_1:List Int)(b_3:List Int)(i1:Nat) :T ((Nat)⊕((Unit)⊕(bg))) :=
  .ask (decide (((i1:Nat):Int)<(((List.length a_1):Nat):Int)))
    (.need (r5 ((i1:Nat):Int) (List.length a_1))<|.need (iQ i1 (List.length a_1))<|.need (r5 ((i1:Nat):Int) (List.length b_3))<|.need (iQ i1 (List.length b_3))<|.ask ((List.getD a_1 i1 0) != (List.getD b_3 i1 0))
      (.leaf (.inr (.inr (.r0 false))))
      (.need (jO .i64 (((i1+1):Nat):Int))<|.leaf (.inl (i1+1))))
    (.leaf (.inr (.inl ())))
noncomputable def gB(a_1:List Int)(b_3:List Int) :Nat→Option ((Nat)⊕((Unit)⊕(bg))):=fun i1 =>
  (tj a_1 b_3 i1).run
theorem rP(v_0:Lv)(a_1:List Int)(v_2:Lv)(b_3:List Int)(i1:Nat) :Sg prog [] th (e9 v_0 a_1 v_2 b_3 i1) (gB a_1 b_3 i1) (e9 v_0 a_1 v_2 b_3) (fi 0 lV fY):=by
  unfold gB;exact gE ef (e9 v_0 a_1 v_2 b_3) [⟨[],[],[4]⟩,⟨[],[],[0,1,5]⟩,⟨[],[],[]⟩]
def rQ:T ((Empty)⊕(bg)) :=
  .leaf (.inr (.r0 true))
noncomputable def cx(a_1:List Int)(b_3:List Int) :Option bg:=wu (cF ((tg a_1 b_3).run) fun _ =>
  cF (cm (gB a_1 b_3) 0) fun _ =>
  (rQ).run)
theorem tk(v_0:Lv)(a_1:List Int)(v_2:Lv)(b_3:List Int){x:bg}(h:cx a_1 b_3=some x) :ah prog jk [] [.imm v_0 (.ns .u64 a_1) 1 1 0 (List.length a_1),.imm v_2 (.ns .u64 b_3) 1 1 0 (List.length b_3)] (jy x) :=
  zj false jy fY h (Sg.cut 4 iz (gE ef (tf v_0 a_1 v_2 b_3) [⟨[],[],[4]⟩,⟨[],[],[0,1,5]⟩]) (fun _=>Sg.cut 1 iz (BU ⟨[],[],[0,1,5]⟩ (e9 v_0 a_1 v_2 b_3) (lV) 0 iz (tc _) (fun i1=>rP v_0 a_1 v_2 b_3 i1)) (fun _=>gE ef xF [⟨[],[],[4]⟩])))
    (fun x=>by cases x with | r0 b2=>exact tM [.bool false b2])
def fa:Option bg→Bool
  | some _=>true
  | none=>false
def fF:Option bg→Bool
  | some (.r0 x)=>x
  | _=>false
theorem tl{x:Option bg}(h:fa x=true) :x=some (.r0 (fF x)):=by
  unfold fa at h
  split at h<;>first | rfl | (cases h;done) | (rename_i y;cases y;rfl)
noncomputable def nH:aM:=dt jk (.cons (.ns .u64) (.cons (.ns .u64) .nil)) fun t=>(fun q=>[⟨jy (.r0 (fF q)),[fa q]⟩]) (cx t.1.2 t.2.1.2)
theorem pK:aT prog nH:=a8 fun t=>(bH (fun h=>tk t.1.1 t.1.2 t.2.1.1 t.2.1.2 (tl h)) b8)
noncomputable def nI:List aM:=nH::oZ
theorem bG:aX prog (a7 nI):=au pK ef
inductive ap where
  | r0 (b11:Bool)
def gC:ap→AE×ax
  | .r0 b11=>(.ret,⟨aH 64 [(4,.bool false b11)],[],0⟩)
theorem bI:r7 gC:=by intro x;cases x<;>(intro h;cases h)
def dH:ap→jB
  | .r0 b11=>⟨.bool false b11,[]⟩
def kY(v_0:Lv)(l_1:List Int)(s_2:ByteArray)(b1:Bool) :ax:=⟨aH 64 [(0,.imm v_0 (.ns .u64 l_1) 1 1 0 (List.length l_1)),(1,.str s_2),(16,.bool false b1)],[],0⟩
def fG(l_1:List Int)(s_2:ByteArray) :T ((Bool)⊕(ap)) :=
  .ask (decide ((((List.length l_1):Nat):Int)>(200:Int)))
    (.leaf (.inl true))
    (.leaf (.inl (decide (((s_2.size:Nat):Int)>(9000:Int)))))
def kZ(v_0:Lv)(l_1:List Int)(s_2:ByteArray) :(List Int)×Nat×Int→ax:=fun (w2,w3,e4)=>⟨aH 64 [(0,.imm v_0 (.ns .u64 l_1) 1 1 0 (List.length l_1)),(1,.str s_2),(5,.imm .free (.ns .u64 w2) 1 1 0 w3),(6,.int .i64 e4)],[],0⟩
def k6(s_2:ByteArray)(b1:Bool) :T (((List Int)×Nat×Int)⊕(ap)) :=
  .ask b1
    (.leaf (.inr (.r0 true)))
    (.alt 0
      (.need (dA s_2)<|.need (ka s_2.size)<|.leaf (.inl ((ij s_2),(List.length (ij s_2)),0)))
      (.alt 1
        (.need (!dA s_2)<|.need (ka s_2.size)<|.leaf (.inl (([]:List Int),0,4)))
        (.fail)))
def k7(v_0:Lv)(l_1:List Int)(w2:List Int)(w3:Nat)(e4:Int) :Nat×Nat×Bool×(List Int)→ax:=fun (x5,x6,ok7,l8)=>⟨aH 64 [(0,.imm v_0 (.ns .u64 l_1) 1 1 0 (List.length l_1)),(5,.imm .free (.ns .u64 w2) 1 1 0 w3),(6,.int .i64 e4),(7,.sl 0 1 1 0 x5 x6),(8,.bool false ok7)],[(0,.ns .u64 l8)],1⟩
def di(s_2:ByteArray) :T ((Nat×Nat×Bool×(List Int))⊕(ap)) :=
  .need (ee (bv s_2))<|.leaf (.inl ((eJ (bv s_2)),(eK (bv s_2)),(eL (bv s_2)),(eM (bv s_2))))
def k8(w2:List Int)(w3:Nat)(x5:Nat)(x6:Nat)(ok7:Bool)(l8:List Int)(b9:Bool) :ax:=⟨aH 64 [(5,.imm .free (.ns .u64 w2) 1 1 0 w3),(7,.sl 0 1 1 0 x5 x6),(8,.bool false ok7),(49,.bool false b9)],[(0,.ns .u64 l8)],1⟩
def cY(l_1:List Int)(e4:Int)(ok7:Bool) :T ((Bool)⊕(ap)) :=
  .need (j4 0 (List.length l_1) l_1)<|.need (eV (dZ (cO 0 (List.length l_1) l_1)))<|.need (j4 0 (List.length l_1) l_1)<|.need (fX (dM (cO 0 (List.length l_1) l_1)))<|.ask (!((fy (dZ (cO 0 (List.length l_1) l_1))).toList==(gA (dM (cO 0 (List.length l_1) l_1))).toList))
    (.leaf (.inl true))
    (.ask (!((e4==(0:Int))==ok7))
      (.leaf (.inl true))
      (.ask (e4 != (0:Int))
        (.leaf (.inl (e4 != (4:Int))))
        (.leaf (.inl false))))
def k9(b10:Bool) :ax:=⟨aH 64 [(4,.bool false b10)],[],0⟩
def fp(w2:List Int)(w3:Nat)(x5:Nat)(ok7:Bool)(l8:List Int)(b9:Bool) :T ((Bool)⊕(ap)) :=
  .ask b9
    (.leaf (.inr (.r0 false)))
    (.ask (!ok7)
      (.ask (((w3:Nat):Int)==(0:Int))
        (.leaf (.inr (.r0 true)))
        (.leaf (.inr (.r0 false))))
      (.need (j4 0 w3 w2)<|.need (j4 0 x5 l8)<|.need (fa (cx (cO 0 w3 w2) (cO 0 x5 l8)))<|.ask (fF (cx (cO 0 w3 w2) (cO 0 x5 l8)))
        (.leaf (.inl true))
        (.leaf (.inl false))))
def kz(b10:Bool) :T ((Empty)⊕(ap)) :=
  .leaf (.inr (.r0 b10))
noncomputable def cy(l_1:List Int)(s_2:ByteArray) :Option ap:=wu (cF ((fG l_1 s_2).run) fun b1 =>
  cF ((k6 s_2 b1).run) fun (w2,w3,e4) =>
  cF ((di s_2).run) fun (x5,x6,ok7,l8) =>
  cF ((cY l_1 e4 ok7).run) fun b9 =>
  cF ((fp w2 w3 x5 ok7 l8 b9).run) fun b10 =>
  (kz b10).run)
theorem fH(v_0:Lv)(l_1:List Int)(s_2:ByteArray){x:ap}(h:cy l_1 s_2=some x) :ah prog gk [] [.imm v_0 (.ns .u64 l_1) 1 1 0 (List.length l_1),.str s_2] (dH x) :=
  zj false dH gC h (Sg.cut 2 bI (gE bG (kY v_0 l_1 s_2) [⟨[],[],[0,1,16]⟩,⟨[],[],[0,1,16]⟩]) (fun b1=>Sg.cut 2 bI (gE bG (kZ v_0 l_1 s_2) [⟨[],[],[4]⟩,⟨[],[],[0,1,5,6]⟩,⟨[(.slot 5,.fre 1 1 (.ns .u64 ([]:List Int)))],[],[0,1,5,6]⟩]) (fun ⟨w2,w3,e4⟩=>Sg.cut 1 bI (gE bG (k7 v_0 l_1 w2 w3 e4) [⟨[],[16],[0,5,6,7,8]⟩]) (fun ⟨x5,x6,ok7,l8⟩=>Sg.cut 1 bI (gE bG (k8 w2 w3 x5 x6 ok7 l8) [⟨[],[0],[5,7,8,49]⟩,⟨[],[0],[5,7,8,49]⟩,⟨[],[0],[5,7,8,49]⟩,⟨[],[0],[5,7,8,49]⟩]) (fun b9=>Sg.cut 4 bI (gE bG k9 [⟨[],[],[4]⟩,⟨[],[],[4]⟩,⟨[],[],[4]⟩,⟨[],[],[4]⟩,⟨[],[],[4]⟩]) (fun b10=>gE bG xF [⟨[],[],[4]⟩]))))))
    (fun x=>by cases x with | r0 b11=>exact tM [.bool false b11])
def dj:Option ap→Bool
  | some _=>true
  | none=>false
def en:Option ap→Bool
  | some (.r0 x)=>x
  | _=>false
theorem lc{x:Option ap}(h:dj x=true) :x=some (.r0 (en x)):=by
  unfold dj at h
  split at h<;>first | rfl | (cases h;done) | (rename_i y;cases y;rfl)
noncomputable def gD:aM:=dt gk (.cons (.ns .u64) (.cons .str .nil)) fun t=>(fun q=>[⟨dH (.r0 (en q)),[dj q]⟩]) (cy t.1.2 t.2.1)
theorem jK:aT prog gD:=a8 fun t=>(bH (fun h=>fH t.1.1 t.1.2 t.2.1 (lc h)) b8)
noncomputable def my:List aM:=gD::nI
theorem vm:aX prog (a7 my):=au jK bG
end
end Go.Plb.Seat
namespace Go.Plb.Seat
open Go Go.Plb
set_option linter.unusedSimpArgs false
set_option linter.unusedVariables false
set_option maxRecDepth 100000
def bR(b:UInt8) :Bool:=(decide (48≤b.toNat)&&decide (b.toNat≤57))||(decide (65≤b.toNat)&&decide (b.toNat≤70))
def hv(b:UInt8) :Nat:=if b.toNat≤57 then b.toNat-48 else b.toNat-55
def cZ(l:List UInt8) :Nat:=l.foldl (fun a b=>a*16+hv b) 0
theorem cM(b:UInt8) :bR b=true↔(48≤b.toNat∧b.toNat≤57)∨(65≤b.toNat∧b.toNat≤70):=by simp [bR]
theorem wH{b:UInt8}(h:bR b=true) :hv b<16:=by
  rw [cM] at h
  unfold hv
  split<;>omega
theorem C5(l:List UInt8)(a:Nat) :l.foldl (fun a b=>a*16+hv b) a=a*16^l.length+cZ l:=by
  unfold cZ
  induction l generalizing a with
  | nil=>simp
  | cons b l ih =>
    rw [List.foldl_cons,List.foldl_cons,ih,ih (0*16+hv b),List.length_cons,Nat.pow_succ,Nat.add_mul,Nat.zero_mul,Nat.zero_add]
    have:a*16*16^l.length=a*(16^l.length*16):=by rw [Nat.mul_assoc,Nat.mul_comm 16]
    omega
theorem nJ(a b:List UInt8) :cZ (a++b)=cZ a*16^b.length+cZ b:=by
  rw [cZ,List.foldl_append,C5]
  rfl
theorem pU:∀ l:List UInt8,(∀ c∈l,bR c=true)→cZ l<16^l.length
  | [],_=>by simp [cZ]
  | c::l,h=>by
    have h1:=pU l fun x hx=>h x (List.mem_cons_of_mem _ hx)
    have h2:=wH (h c (List.mem_cons_self ..))
    have e:cZ (c::l)=hv c*16^l.length+cZ l:=by
      have:=nJ [c] l
      simpa [cZ] using this
    rw [e,List.length_cons,Nat.pow_succ]
    have:hv c*16^l.length≤15*16^l.length:=Nat.mul_le_mul_right _ (by omega)
    omega
theorem xT{l:List UInt8}(h:∀ c∈l,bR c=true){j:Nat}{c:UInt8}(hj:l[j]? = some c) :cZ l/16^(l.length-1-j)%16=hv c:=by
  have hlt:=(List.getElem?_eq_some_iff.1 hj).1
  have e:l=l.take j++[c]++l.drop (j+1):=by
    have h1:l.take (j+1)=l.take j++[c]:=by rw [List.take_add_one,hj];rfl
    rw [←h1,List.take_append_drop]
  have hd:=pU (l.drop (j+1)) fun x hx=>h x (List.mem_of_mem_drop hx)
  have hl:(l.drop (j+1)).length=l.length-1-j:=by rw [List.length_drop];omega
  rw [hl] at hd
  have e2:cZ l=(cZ (l.take j)*16+hv c)*16^(l.length-1-j)+cZ (l.drop (j+1)):=by
    conv=>lhs;rw [e]
    rw [nJ,nJ,hl]
    simp [cZ]
  rw [e2,Nat.add_comm,Nat.add_mul_div_right _ _ (Nat.pow_pos (by decide)),Nat.div_eq_of_lt hd,Nat.zero_add,Nat.mul_comm,Nat.mul_add_mod]
  exact Nat.mod_eq_of_lt (wH (h c (List.mem_of_getElem? hj)))
theorem zB(w:Int) :∀ z∈dL w,∃ b:UInt8,bR b=true∧z=(b.toNat:Int):=by
  intro z hz
  simp only [dL,List.mem_map,List.mem_range] at hz
  obtain ⟨j,hj,rfl⟩:=hz
  have h:=AS w j
  rw [uX h]
  refine ⟨UInt8.ofNat (if dg w j<10 then 48+dg w j else 55+dg w j),?_,?_⟩
  · rw [cM]
    split<;>(rw [UInt8.toNat_ofNat'];omega)
  · split<;>(rw [UInt8.toNat_ofNat'];omega)
theorem kA(l:List Int) :(ly l).data.toList=l.map fun n=>UInt8.ofNat n.toNat:=by
  have key:∀ (l:List Int) (r:ByteArray),(l.foldl (fun r n=>r.push (UInt8.ofNat n.toNat)) r).data.toList=r.data.toList++l.map fun n=>UInt8.ofNat n.toNat:=by
    intro l
    induction l with
    | nil=>intro r;simp
    | cons x l ih =>
      intro r
      rw [List.foldl_cons,ih]
      simp [ByteArray.push]
  have:=key l ByteArray.empty
  simpa [ly] using this
theorem zC(w:Int) :∀ c∈(aD w).data.toList,bR c=true:=by
  intro c hc
  rw [aD,kA,List.mem_map] at hc
  obtain ⟨z,hz,rfl⟩:=hc
  obtain ⟨b,hb,rfl⟩:=zB w z hz
  simpa using hb
theorem By{b:UInt8}(h:bR b=true) :zH (b.toNat:Int)=hv b:=by
  rw [cM] at h
  unfold zH hv
  repeat' split
  all_goals omega
theorem zD{a:Nat}(ha:a*16+15<18446744073709551616){b:UInt8}(h:bR b=true) :ww (a:Int) (b.toNat:Int)=((a*16+hv b:Nat):Int):=by
  have hb:=wH h
  unfold ww
  rw [By h]
  have w64:∀ n:Nat,n<18446744073709551616→IntKind.u64.wrap (n:Int)=(n:Int):=fun n hn=>by
    show ((n:Int)%18446744073709551616)=_
    omega
  have e1:bits .and .i64 ((hv b:Nat):Int) 15=((hv b:Nat):Int):=by
    have hall:∀ n:Fin 16,bits .and .i64 ((n.val:Nat):Int) 15=((n.val:Nat):Int):=by decide +kernel
    exact hall ⟨hv b,hb⟩
  have e2:((a:Int)*16)=((a*16:Nat):Int):=by omega
  rw [e1,e2,w64 _ (by omega),w64 _ (by omega)]
  show IntKind.u64.wrap ((BitVec.ofInt 64 ((a*16:Nat):Int) ||| BitVec.ofInt 64 ((hv b:Nat):Int)).toNat:Int)=_
  have e3:(BitVec.ofInt 64 ((a*16:Nat):Int) ||| BitVec.ofInt 64 ((hv b:Nat):Int)).toNat=a*16+hv b:=by
    rw [BitVec.toNat_or,BitVec.toNat_ofInt,BitVec.toNat_ofInt]
    have f1:(((a*16:Nat):Int)%((2^64:Nat):Int)).toNat=a*16:=by
      have:((2^64:Nat):Int)=18446744073709551616:=by decide
      rw [this];omega
    have f2:(((hv b:Nat):Int)%((2^64:Nat):Int)).toNat=hv b:=by
      have:((2^64:Nat):Int)=18446744073709551616:=by decide
      rw [this];omega
    rw [f1,f2]
    have:=Nat.two_pow_add_eq_or_of_lt (i:=4) (b:=hv b) (by omega) a
    rw [Nat.mul_comm a 16]
    exact this.symm
  rw [e3]
  exact w64 _ (by omega)
theorem ox(s:ByteArray)(hs:∀ c∈s.data.toList,bR c=true)(h16:s.size≤16) :∀ (f pos:Nat) (a:Nat),s.size≤pos+f→a<16^pos→fk s f pos (a:Int)=(((s.data.toList.drop pos).foldl (fun a b=>a*16+hv b) a:Nat):Int)
  | 0,pos,a,hf,_=>by
    rw [List.drop_of_length_le (by simp only [Array.length_toList];exact hf)]
    rfl
  | f + 1, pos, a, hf, ha => by
    by_cases hp:pos<s.size
    · have hp':pos<s.data.toList.length:=by simpa using hp
      have hc:bR (s[pos]'hp)=true:=hs _ (by simp [ByteArray.getElem_eq_getElem_data])
      have h1:=(cM _).1 hc
      have hdec:=decode_ascii s pos hp (by omega)
      have hlt:a*16+hv (s[pos]'hp)<16^(pos+1):=by
        have:=wH hc
        rw [Nat.pow_succ]
        omega
      have hbig:a*16+15<18446744073709551616:=by
        have h3:16^(pos+1)≤16^16:=Nat.pow_le_pow_right (by decide) (by omega)
        have h4:(16:Nat)^16=18446744073709551616:=by decide
        rw [Nat.pow_succ] at h3
        omega
      have ih:=ox s hs h16 f (pos+1) (a*16+hv (s[pos]'hp)) (by omega) hlt
      rw [fk,if_pos hp,hdec]
      show fk s f (pos+1) (ww (a:Int) (((s[pos]'hp).toNat:Nat):Int))=_
      rw [zD hbig hc,ih,List.drop_eq_getElem_cons hp',List.foldl_cons]
      rfl
    · rw [tO s _ pos _ hp,List.drop_of_length_le (by simp only [Array.length_toList];exact Nat.le_of_not_lt hp)]
      rfl
theorem A8{s:ByteArray}(hs:∀ c∈s.data.toList,bR c=true)(h16:s.size=16) :aD ((cZ s.data.toList:Nat):Int)=s:=by
  apply toList_inj
  rw [Lib.toList_data,Lib.toList_data,aD,kA,dL]
  have hl:s.data.toList.length=16:=by simpa using h16
  apply List.ext_getElem?
  intro j
  by_cases hj:j<16
  · obtain ⟨c,hc⟩:∃ c,s.data.toList[j]? = some c:=⟨_,List.getElem?_eq_getElem (by omega)⟩
    have hx:=hs c (List.mem_of_getElem? hc)
    have hd:=xT hs hc
    rw [hl] at hd
    have hdg:dg ((cZ s.data.toList:Nat):Int) j=hv c:=by
      unfold dg
      have e1:(2:Int)^(60-4*j)=((16^(16-1-j):Nat):Int):=by
        have:(60-4*j)=4*(16-1-j):=by omega
        rw [this,Int.pow_mul]
        simp
      rw [e1,Int.fdiv_eq_ediv_of_nonneg _ (Int.natCast_nonneg _),←Int.natCast_ediv,←hd]
      omega
    rw [hc,List.getElem?_map,List.getElem?_map,List.getElem?_range hj]
    show some (UInt8.ofNat (aC iL (dg _ j)).toNat)=some c
    rw [hdg,uX (wH hx)]
    congr 1
    have hi:=(cM c).1 hx
    have e2:(if hv c<10 then (48+(hv c:Int)) else 55+(hv c:Int)).toNat=c.toNat:=by
      unfold hv
      split<;>split<;>omega
    rw [e2]
    exact UInt8.ofNat_toNat
  · rw [List.getElem?_eq_none (by simp;omega),List.getElem?_eq_none (by omega)]
theorem wI(s:ByteArray) :bF s=(decide (s.size=16)&&s.data.toList.all bR):=by
  by_cases h16:s.size=16
  · by_cases hs:∀ c∈s.data.toList,bR c=true
    · have hf:=ox s hs (by omega) s.size 0 0 (by omega) (by decide)
      have ht:=A8 hs h16
      unfold bF
      rw [show ((0:Nat):Int)=0 from rfl] at hf
      rw [hf,List.drop_zero]
      rw [show (s.data.toList.foldl (fun a b=>a*16+hv b) 0)=cZ s.data.toList from rfl,ht,decide_eq_true h16,decide_eq_true rfl,List.all_eq_true.2 hs]
    · have hn : ¬ aD (fk s s.size 0 0)=s:=fun e=>hs (e ▸ zC _)
      unfold bF
      rw [decide_eq_false hn,Bool.and_false]
      have:s.data.toList.all bR=false:=by
        cases hq:s.data.toList.all bR with
        | false=>rfl
        | true=>exact absurd (List.all_eq_true.1 hq) hs
      rw [this,Bool.and_false]
  · unfold bF
    rw [decide_eq_false h16]
    rfl
theorem wJ{s:ByteArray}(h:bF s=true) :fm s=(cZ s.data.toList:Nat):=by
  have h1:=h
  rw [wI,Bool.and_eq_true,List.all_eq_true] at h1
  have h16:=of_decide_eq_true h1.1
  have hf:=ox s h1.2 (by omega) s.size 0 0 (by omega) (by decide)
  rw [show ((0:Nat):Int)=0 from rfl,List.drop_zero] at hf
  rw [fm,h]
  exact hf
end Go.Plb.Seat
namespace Go.Plb
set_option linter.unusedSimpArgs false
set_option linter.unusedVariables false
def aG:List UInt8→List (List UInt8)
  | []=>[[]]
  | c::r=>if c=32 then []::aG r else (c::(aG r).headD [])::(aG r).tail
theorem wK{b:UInt8}(h:b≠32)(r:List UInt8) :aG (b::r)=(b::(aG r).headD [])::(aG r).tail:=by rw [aG,if_neg h]
theorem zE:∀ l,aG l≠[]
  | []=>by simp [aG]
  | c::r=>by unfold aG;split<;>simp
theorem wL(l:List UInt8) :aG l=(aG l).headD []::(aG l).tail:=by
  have:=zE l
  cases h:aG l with
  | nil=>exact absurd h this
  | cons a b=>rfl
theorem o0:∀ l:List UInt8,(∀ c∈l,c≠32)→aG l=[l]
  | [],_=>rfl
  | c::r,h=>by
    have h1:=o0 r fun x hx=>h x (List.mem_cons_of_mem _ hx)
    rw [wK (h c (List.mem_cons_self ..)),h1]
    rfl
theorem rR:∀ (a b:List UInt8),(∀ c∈a,c≠32)→aG (a++32::b)=a::aG b
  | [],b,_=>by simp [aG]
  | c::a,b,h=>by
    have h1:=rR a b fun x hx=>h x (List.mem_cons_of_mem _ hx)
    rw [List.cons_append,wK (h c (List.mem_cons_self ..)),h1]
    rfl
theorem rS:∀ l:List UInt8,Lib.indexByte l 32<0→∀ c∈l,c≠32
  | [],_,c,hc=>by cases hc
  | b::l,h,c,hc=>by
    unfold Lib.indexByte at h
    have hge:=Lib.indexByte_ge l 32
    split at h
    · omega
    · rename_i hb
      split at h
      · rename_i h1
        have h2:Lib.indexByte l 32<0:=by
          have:=eq_of_beq h1
          omega
        rcases List.mem_cons.1 hc with rfl | hc
        · simpa using hb
        · exact rS l h2 c hc
      · rename_i h1
        have h2:Lib.indexByte l 32 ≠ -1:=fun e=>h1 (by rw [e];rfl)
        omega
theorem rT:∀ (l:List UInt8) (n:Nat),Lib.indexByte l 32=(n:Int)→n<l.length∧l=l.take n++32::l.drop (n+1)∧∀ c∈l.take n,c≠32
  | [],n,h=>by simp [Lib.indexByte] at h
  | b::l,n,h=>by
    unfold Lib.indexByte at h
    have hge:=Lib.indexByte_ge l 32
    split at h
    · rename_i hb
      have hb:b=32:=eq_of_beq hb
      have:n=0:=by omega
      subst this
      subst hb
      exact ⟨by simp,by simp,fun c hc=>by simp at hc⟩
    · rename_i hb
      split at h
      · omega
      · rename_i h1
        obtain ⟨m,rfl⟩:∃ m,n=m+1:=⟨n-1,by
          have h2:Lib.indexByte l 32 ≠ -1:=fun e=>h1 (by rw [e];rfl)
          omega⟩
        obtain ⟨g1,g2,g3⟩:=rT l m (by omega)
        refine ⟨by simp;omega,?_,fun c hc=>?_⟩
        · rw [List.take_succ_cons,List.drop_succ_cons,List.cons_append,←g2]
        · rw [List.take_succ_cons] at hc
          rcases List.mem_cons.1 hc with rfl | hc
          · simpa using hb
          · exact g3 c hc
theorem o5:∀ (l:List UInt8) (c:UInt8),aG (l++[c])=if c=32 then aG l++[[]] else (aG l).dropLast++[((aG l).getLastD [])++[c]]
  | [],c=>by
    by_cases h:c=32
    · subst h;rfl
    · simp [aG,h]
  | b::l,c=>by
    have ih:=o5 l c
    have hl:=wL l
    by_cases hb:b=32
    · subst hb
      have e1:∀ r,aG ((32:UInt8)::r)=[]::aG r:=fun r=>by rw [aG];simp
      rw [List.cons_append,e1,e1,ih]
      by_cases h:c=32
      · rw [if_pos h,if_pos h];rfl
      · rw [if_neg h,if_neg h,hl]
        simp [List.dropLast,List.getLastD]
    · have e1:∀ r,aG (b::r)=(b::(aG r).headD [])::(aG r).tail:=fun r=>by rw [aG,if_neg hb]
      rw [List.cons_append,e1,e1,ih]
      by_cases h:c=32
      · rw [if_pos h,if_pos h,hl]
        simp
      · rw [if_neg h,if_neg h,hl]
        generalize (aG l).headD []=x
        generalize (aG l).tail=y
        cases y with
        | nil=>simp
        | cons z y=>simp [List.dropLast,List.getLastD]
end Go.Plb
namespace Go.Plb.Seat
open Go Go.Plb
set_option linter.unusedSimpArgs false
set_option linter.unusedVariables false
set_option maxRecDepth 100000
def dx(l:List UInt8) :Bool:=decide (l.length=16)&&l.all bR
def cd:List (List UInt8)→Option (List Int)
  | []=>some []
  | w::r=>bif dx w then (cd r).map fun x=>((cZ w:Nat):Int)::x else none
theorem fZ(s:ByteArray) :bF s=dx s.data.toList:=by
  rw [wI]
  rfl
theorem fb(s:ByteArray)(a b:Nat) :(s.extract a b).data.toList=(s.data.toList.drop a).take (b-a):=by
  rw [ByteArray.data_extract,Array.toList_extract]
theorem nK:∀ (f:Nat) (s:ByteArray) (acc:List Int),s.size<f→og f s acc=(cd (aG s.data.toList)).map fun x=>acc++x
  | 0,s,acc,h=>by omega
  | f + 1, s, acc, h => by
    unfold og
    have hge:=Lib.indexByte_ge s.data.toList 32
    by_cases hneg:Lib.indexByte s.data.toList 32<0
    · rw [if_pos hneg,o0 _ (rS _ hneg)]
      cases hr:bF s with
      | true =>
        have h1:=wJ hr
        rw [fZ] at hr
        simp only [cd,hr,cond_true,if_true,Option.map_some,h1]
      | false =>
        rw [fZ] at hr
        simp [cd,hr]
    · obtain ⟨n,hn⟩:=Int.eq_ofNat_of_zero_le (Int.not_lt.1 hneg)
      rw [if_neg hneg]
      simp only [hn,Int.toNat_natCast]
      obtain ⟨g1,g2,g3⟩:=rT _ n hn
      have hx:(s.extract 0 n).data.toList=s.data.toList.take n:=by rw [fb];simp
      have hy:(s.extract (n+1) s.size).data.toList=s.data.toList.drop (n+1):=by
        rw [fb]
        apply List.take_of_length_le
        rw [List.length_drop,Array.length_toList]
        exact Nat.le_refl _
      have hs:aG s.data.toList=s.data.toList.take n::aG (s.data.toList.drop (n+1)):=by
        conv=>lhs;rw [g2]
        exact rR _ _ g3
      show (if bF (s.extract 0 n)=true then _ else none)=_
      have hsz:(s.extract (n+1) s.size).size<f:=by
        have:s.data.toList.length=s.size:=by simp
        simp
        omega
      rw [hs]
      cases hr:bF (s.extract 0 n) with
      | true =>
        have h1:=wJ hr
        have h2:=hr
        rw [fZ,hx] at h2
        rw [if_pos rfl,nK f _ _ hsz,hy,h1,hx]
        simp only [cd,h2,cond_true,Option.map_map]
        congr 1
        funext x
        simp
      | false =>
        have h2:=hr
        rw [fZ,hx] at h2
        simp [cd,h2]
theorem nL(s:ByteArray) :gn s=cd (aG s.data.toList):=by
  unfold gn
  rw [nK _ _ _ (by omega)]
  cases cd (aG s.data.toList)<;>simp
def eh(s:ByteArray) :Nat→Nat×List ByteArray
  | 0=>(0,[])
  | j+1=>if j=s.size∨aC s j=32 then (j+1,(eh s j).2++[s.extract (eh s j).1 j]) else eh s j
def dk(s:ByteArray) :List ByteArray:=(eh s (s.size+1)).2
theorem rU(s:ByteArray) :∀ j,(eh s j).1≤j∧(eh s j).2.length≤j
  | 0=>⟨Nat.le_refl _,Nat.le_refl _⟩
  | j+1=>by
    have:=rU s j
    unfold eh
    split
    · exact ⟨Nat.le_refl _,by simp;omega⟩
    · exact ⟨by omega,by omega⟩
theorem rV(s:ByteArray)(hs:s.size≤1000000000) :bO s=some (.r0 (dk s).length (dk s).length (dk s)):=by
  unfold bO
  refine cu (ao rfl (ao (a:=((dk s).length,(dk s).length,dk s)) (dv (fun j=>((eh s j).2.length,(eh s j).2.length,(eh s j).1,j,(eh s j).2)) (s.size+1) rfl (fun j hj=>?_) ?_) rfl))
  · have hw:=rU s j
    have hi:jO .i64 (((j+1:Nat)):Int)=true:=by rw [cv];omega
    have g1:dd (((eh s j).2.length+1)*16) 140737488355328=true:=by rw [bc];omega
    have g2:dd ((eh s j).2.length+1) 9223372036854775807=true:=by rw [bc];omega
    have g3:dd (eh s j).2.length (List.length (eh s j).2)=true:=by rw [bc];exact Nat.le_refl _
    have hz:List.take (eh s j).2.length (eh s j).2++List.take 1 [s.extract (eh s j).1 j]=(eh s j).2++[s.extract (eh s j).1 j]:=by rw [List.take_length];rfl
    by_cases he:j=s.size
    · have e1:eh s (j+1)=(j+1,(eh s j).2++[s.extract (eh s j).1 j]):=by rw [eh,if_pos (.inl he)]
      refine ao (a:=((eh s j).2.length+1,(eh s j).2.length+1,j+1,(eh s j).2++[s.extract (eh s j).1 j])) ?_ ?_
      · rw [←hz]
        exact fx (decide_eq_true (by omega)) (fx (beq_iff_eq.2 (by omega)) (az (by rw [yB];omega) (az (by rw [yB];omega) (az g1 (az g2 (ek (az g3 (az hi rfl))))))))
      · rw [e1]
        simp only [List.length_append,List.length_cons,List.length_nil]
        exact az hi rfl
    · have hb1 : ¬ ((j:Int)==(s.size:Int))=true:=by rw [beq_iff_eq];omega
      have hb:((j:Int)==(s.size:Int))=false:=by simpa using hb1
      by_cases h32:aC s j=32
      · have e1:eh s (j+1)=(j+1,(eh s j).2++[s.extract (eh s j).1 j]):=by rw [eh,if_pos (.inr h32)]
        refine ao (a:=((eh s j).2.length+1,(eh s j).2.length+1,j+1,(eh s j).2++[s.extract (eh s j).1 j])) ?_ ?_
        · rw [←hz]
          exact fx (decide_eq_true (by omega)) (fj hb (az (by rw [iK];omega) (fx (beq_iff_eq.2 h32) (az (by rw [yB];omega) (az (by rw [yB];omega) (az g1 (az g2 (ek (az g3 (az hi rfl))))))))))
        · rw [e1]
          simp only [List.length_append,List.length_cons,List.length_nil]
          exact az hi rfl
      · have e1:eh s (j+1)=eh s j:=by rw [eh,if_neg (fun c=>c.elim he h32)]
        refine ao (a:=((eh s j).2.length,(eh s j).2.length,(eh s j).1,(eh s j).2)) ?_ ?_
        · exact fx (decide_eq_true (by omega)) (fj hb (az (by rw [iK];omega) (fj (beq_eq_false_iff_ne.2 h32) rfl)))
        · rw [e1]
          exact az hi rfl
  · refine cn (fj (decide_eq_false (by omega)) rfl)
theorem tS(s:ByteArray) :∀ j,j≤s.size→aG (s.data.toList.take j)=(eh s j).2.map (fun x=>x.data.toList)++[(s.data.toList.drop (eh s j).1).take (j-(eh s j).1)]
  | 0,_=>by simp [aG,eh]
  | j + 1, h => by
    have ih:=tS s j (by omega)
    have hw:=rU s j
    have hl:j<s.data.toList.length:=by simp;omega
    obtain ⟨b,hb⟩:∃ b,s.data.toList[j]? = some b:=⟨_,List.getElem?_eq_getElem hl⟩
    have ht:s.data.toList.take (j+1)=s.data.toList.take j++[b]:=by rw [List.take_add_one,hb];rfl
    have hby:aC s j=(b.toNat:Int):=by
      unfold aC
      rw [←Array.getElem?_toList,hb]
      rfl
    rw [ht,o5,ih]
    by_cases h32:b=32
    · have e1:eh s (j+1)=(j+1,(eh s j).2++[s.extract (eh s j).1 j]):=by rw [eh,if_pos (.inr (by rw [hby,h32];rfl))]
      rw [if_pos h32,e1]
      simp [fb]
    · have hne : ¬ (j=s.size∨aC s j=32):=by
        rintro (q | q)
        · omega
        · rw [hby] at q
          exact h32 (UInt8.toNat_inj.1 (by show b.toNat=32;omega))
      have e1:eh s (j+1)=eh s j:=by rw [eh,if_neg hne]
      rw [if_neg h32,e1,List.dropLast_concat]
      congr 1
      have e2:j+1-(eh s j).1=(j-(eh s j).1)+1:=by omega
      rw [e2,List.take_add_one,List.getElem?_drop]
      rw [show (eh s j).1+(j-(eh s j).1)=j by omega,hb]
      simp
theorem o6(s:ByteArray) :(dk s).map (fun x=>x.data.toList)=aG s.data.toList:=by
  have h:=tS s s.size (Nat.le_refl _)
  rw [List.take_of_length_le (by simp)] at h
  unfold dk
  rw [eh,if_pos (.inl rfl),h]
  simp [fb]
theorem xU{s:ByteArray}{i:Nat}{b:UInt8}(h:s.data.toList[i]? = some b) :aC s i=(b.toNat:Int):=by
  unfold aC
  rw [←Array.getElem?_toList,h]
  rfl
theorem w8{z:Int}(h:0≤z)(h2:z<256) :IntKind.u8.wrap z=z:=by
  show z%256=z
  omega
theorem xV{z:Int}(h:0≤z)(h2:z<18446744073709551616) :IntKind.u64.wrap z=z:=by
  show z%18446744073709551616=z
  omega
theorem tT{s:ByteArray}{i:Nat}{b:UInt8}(hs:s.size=16)(hi:i<16)(hb:s.data.toList[i]? = some b)(w:Nat)(hw:w*16+15<18446744073709551616) :
    (d9 s (w:Int) i).run=if bR b=true then some (.inl ((w*16+hv b:Nat):Int)) else some (.inr (.inr (.r0 0 4))):=by
  have hby:=xU hb
  have h0:decide ((i:Int)<16)=true:=decide_eq_true (by omega)
  have h1:r5 (i:Int) s.size=true:=by rw [iK];omega
  have hlt:b.toNat<256:=b.toNat_lt
  unfold d9
  rw [hby]
  refine fx h0 (az h1 ?_)
  by_cases c1:48≤b.toNat
  · refine fx (decide_eq_true (by omega)) ?_
    by_cases c2:b.toNat≤57
    · have hx:bR b=true:=(cM b).2 (.inl ⟨c1,c2⟩)
      rw [if_pos hx]
      refine fx (decide_eq_true (by omega)) ?_
      have e:hv b=b.toNat-48:=by unfold hv;rw [if_pos c2]
      rw [T.run]
      congr 2
      have q1:=xV (z:=(w:Int)*16) (by omega) (by omega)
      have q2:=xV (z:=(b.toNat:Int)-48) (by omega) (by omega)
      rw [w8 (by omega) (by omega),q1,q2,xV (by omega) (by omega),e]
      omega
    · refine fj (decide_eq_false (by omega)) ?_
      by_cases c3:65≤b.toNat
      · refine fx (decide_eq_true (by omega)) ?_
        by_cases c4:b.toNat≤70
        · have hx:bR b=true:=(cM b).2 (.inr ⟨c3,c4⟩)
          rw [if_pos hx]
          refine fx (decide_eq_true (by omega)) ?_
          have e:hv b=b.toNat-55:=by unfold hv;rw [if_neg c2]
          rw [T.run]
          congr 2
          have q1:=xV (z:=(w:Int)*16) (by omega) (by omega)
          have q2:=xV (z:=(b.toNat:Int)-65+10) (by omega) (by omega)
          rw [w8 (z:=(b.toNat:Int)-65) (by omega) (by omega),w8 (by omega) (by omega),q1,q2,xV (by omega) (by omega),e]
          omega
        · have hx : ¬ bR b=true:=fun q=>by rw [cM] at q;omega
          rw [if_neg hx]
          exact fj (decide_eq_false (by omega)) rfl
      · have hx : ¬ bR b=true:=fun q=>by rw [cM] at q;omega
        rw [if_neg hx]
        exact fj (decide_eq_false (by omega)) rfl
  · have hx : ¬ bR b=true:=fun q=>by rw [cM] at q;omega
    rw [if_neg hx]
    exact fj (decide_eq_false (by omega)) (fj (decide_eq_false (by omega)) rfl)
theorem first_bad:∀ l:List UInt8,(∀ c∈l,bR c=true)∨∃ n c,l[n]? = some c∧¬ bR c=true∧∀ x∈l.take n,bR x=true
  | []=>.inl fun _ h=>by cases h
  | c::l=>by
    by_cases hc:bR c=true
    · rcases first_bad l with h | ⟨n,d,h1,h2,h3⟩
      · exact .inl fun x hx=>by
          rcases List.mem_cons.1 hx with rfl | hx
          · exact hc
          · exact h x hx
      · exact .inr ⟨n+1,d,by simpa using h1,h2,fun x hx=>by
          rw [List.take_succ_cons] at hx
          rcases List.mem_cons.1 hx with rfl | hx
          · exact hc
          · exact h3 x hx⟩
    · exact .inr ⟨0,c,rfl,hc,fun x hx=>by simp at hx⟩
theorem lW(s:ByteArray) :bY s=some (.r0 (bif dx s.data.toList then ((cZ s.data.toList:Nat):Int) else 0) (bif dx s.data.toList then 0 else 4)):=by
  unfold bY
  by_cases hs:s.size=16
  · have hl:s.data.toList.length=16:=by simpa using hs
    have h11:(ku s).run=some (.inl ()):=fj (bne_eq_false_iff_eq.2 (by omega)) rfl
    have step:∀ j,j<16→(∀ x∈s.data.toList.take (j+1),bR x=true)→cV s (((cZ (s.data.toList.take j):Nat):Int),j)=some (.inl (((cZ (s.data.toList.take (j+1)):Nat):Int),j+1)):=by
      intro j hj hx
      obtain ⟨b,hb⟩:∃ b,s.data.toList[j]? = some b:=⟨_,List.getElem?_eq_getElem (by omega)⟩
      have ht:s.data.toList.take (j+1)=s.data.toList.take j++[b]:=by rw [List.take_add_one,hb];rfl
      have hxb:bR b=true:=hx b (by rw [ht];simp)
      have hlt:=pU (s.data.toList.take j) fun x q=>hx x (by rw [ht];exact List.mem_append_left _ q)
      have hp:16^(s.data.toList.take j).length≤16^15:=Nat.pow_le_pow_right (by decide) (by rw [List.length_take];omega)
      have h15:(16:Nat)^15=1152921504606846976:=by decide
      have hr:=tT hs hj hb (cZ (s.data.toList.take j)) (by omega)
      rw [if_pos hxb] at hr
      refine ao hr ?_
      have e:cZ (s.data.toList.take (j+1))=cZ (s.data.toList.take j)*16+hv b:=by rw [ht,nJ];simp [cZ]
      rw [e]
      exact az (by rw [cv];omega) rfl
    rcases first_bad s.data.toList with hall | ⟨n,c,h1,h2,h3⟩
    · have ho:dx s.data.toList=true:=by unfold dx;rw [decide_eq_true hl,List.all_eq_true.2 hall];rfl
      rw [ho]
      refine cu (ao h11 (ao (a:=((cZ s.data.toList:Nat):Int)) (dv (fun j=>(((cZ (s.data.toList.take j):Nat):Int),j)) 16 rfl (fun j hj=>step j hj fun x hx=>hall x (List.mem_of_mem_take hx)) ?_) rfl))
      rw [List.take_of_length_le (by omega)]
      have h9:(d9 s ((cZ s.data.toList:Nat):Int) 16).run=some (.inr (.inl ((cZ s.data.toList:Nat):Int))):=fj (decide_eq_false (show ¬ (((16:Nat):Int)<16) by decide)) rfl
      simp only [cV]
      exact cn h9
    · have hn:n<16:=by have:=(List.getElem?_eq_some_iff.1 h1).1;omega
      have ho:dx s.data.toList=false:=by
        unfold dx
        have:s.data.toList.all bR=false:=by
          cases hq:s.data.toList.all bR with
          | false=>rfl
          | true=>exact absurd (List.all_eq_true.1 hq c (List.mem_of_getElem? h1)) h2
        rw [this,Bool.and_false]
      rw [ho]
      refine cu (ao h11 (cn (dv (fun j=>(((cZ (s.data.toList.take j):Nat):Int),j)) n rfl (fun j hj=>step j (by omega) fun x hx=>h3 x ?_) ?_)))
      · have:s.data.toList.take (j+1)=(s.data.toList.take n).take (j+1):=by rw [List.take_take];congr 1;omega
        rw [this] at hx
        exact List.mem_of_mem_take hx
      · have hlt:=pU (s.data.toList.take n) h3
        have hp:16^(s.data.toList.take n).length≤16^15:=Nat.pow_le_pow_right (by decide) (by rw [List.length_take];omega)
        have h15:(16:Nat)^15=1152921504606846976:=by decide
        have hr:=tT hs hn h1 (cZ (s.data.toList.take n)) (by omega)
        rw [if_neg h2] at hr
        exact cn hr
  · have ho:dx s.data.toList=false:=by
      unfold dx
      rw [decide_eq_false (by simpa using hs)]
      rfl
    rw [ho]
    exact cu (cn (fx (bne_iff_ne.2 (by omega)) rfl))
theorem A9(w:Int){j:Nat}(hj:j<16) :(dL w).take (j+1)=(dL w).take j++[aC iL (dg w j)]:=by
  have h:(dL w)[j]? = some (aC iL (dg w j)):=by simp [dL,hj]
  rw [List.take_add_one,h]
  rfl
theorem lX(w:Int) :aL w=some (.r0 (aD w)):=by
  unfold aL
  refine cu (ao rfl (ao (a:=(16,16,dL w)) (dv (fun j=>(j,j,(60:Int)-((4*j:Nat):Int),(dL w).take j)) 16 rfl (fun j hj=>?_) ?_) ?_))
  · have hd:=AS w j
    have e1:IntKind.u64.wrap ((60:Int)-((4*j:Nat):Int))=(60:Int)-((4*j:Nat):Int):=xV (by omega) (by omega)
    have hl:((dL w).take j).length=j:=by rw [List.length_take,iP];omega
    have hn:List.take j ((dL w).take j)++List.take 1 [aC iL (dg w j)]=(dL w).take (j+1):=by
      rw [A9 w hj,List.take_of_length_le (by omega)];rfl
    have e2:(60:Int)-((4*(j+1):Nat):Int)=(60:Int)-((4*j:Nat):Int)-4:=by omega
    simp only [cW,gz]
    rw [e1,yE w hj,e2,←hn]
    exact fx (decide_eq_true (by omega)) (az (decide_eq_true (by omega)) (az (by rw [iK];exact ⟨by omega,by show ((dg w j:Nat):Int)<((16:Nat):Int);omega⟩) (az (by rw [bc];omega) (az (by rw [bc];omega) (ek (az (by rw [bc,hl];exact Nat.le_refl _) (az (by rw [cv];omega) rfl)))))))
  · have e:(dL w).take 16=dL w:=List.take_of_length_le (by rw [iP];exact Nat.le_refl _)
    simp only [cW,gz]
    rw [e]
    exact fj (decide_eq_false (by omega)) rfl
  · show (kv 16 (dL w)).run=_
    have e:(dL w).take 16=dL w:=List.take_of_length_le (by rw [iP];exact Nat.le_refl _)
    refine az (by rw [bc,iP];exact Nat.le_refl _) ?_
    rw [e]
    rfl
def gF(ws:List Int) :Nat→List Int
  | 0=>[]
  | j+1=>(bif Nat.blt 0 j then gF ws j++[32] else gF ws j)++cj (aD (ws.getD j 0))
theorem rW(s:ByteArray) :(cj s).length=s.size:=by simp [cj]
theorem yI(ws:List Int) :∀ j,(gF ws j).length≤17*j
  | 0=>by simp [gF]
  | j+1=>by
    have:=yI ws j
    rw [gF,List.length_append,rW,eE]
    cases Nat.blt 0 j<;>simp<;>omega
theorem rX(s:ByteArray) :(cj s).map (fun n=>UInt8.ofNat n.toNat)=s.data.toList:=by
  simp only [cj,List.map_map]
  conv=>rhs;rw [←List.map_id s.data.toList]
  apply List.map_congr_left
  intro b _
  show UInt8.ofNat ((b.toNat:Int)).toNat=b
  rw [Int.toNat_natCast]
  exact UInt8.ofNat_toNat
theorem rY:∀ (l:List ByteArray) (x:ByteArray),l≠[]→em (l++[x])=em l++32::x.data.toList
  | [],_,h=>absurd rfl h
  | [y],x,_=>by simp [em]
  | y::z::r,x,_=>by
    have:=rY (z::r) x (by simp)
    simp only [List.cons_append] at this ⊢
    simp only [em,this]
    simp
theorem wM(ws:List Int) :∀ j,j≤ws.length→(gF ws j).map (fun n=>UInt8.ofNat n.toNat)=em ((ws.take j).map aD)
  | 0,_=>by simp [gF,em]
  | j + 1, h => by
    have ih:=wM ws j (by omega)
    have hg:ws[j]? = some (ws.getD j 0):=by rw [List.getD_eq_getElem?_getD,List.getElem?_eq_getElem (by omega)];rfl
    have ht:(ws.take (j+1)).map aD=(ws.take j).map aD++[aD (ws.getD j 0)]:=by rw [List.take_add_one,hg,List.map_append];rfl
    rw [gF,ht]
    by_cases h0:j=0
    · subst h0
      simp only [List.map_append,rX]
      simp [gF,em,show Nat.blt 0 0=false from rfl]
    · have hb:Nat.blt 0 j=true:=by rw [yC];omega
      have hne:(ws.take j).map aD≠[]:=by
        intro q
        have:=congrArg List.length q
        rw [List.length_map,List.length_take,List.length_nil] at this
        omega
      rw [hb,cond_true,rY _ _ hne,List.map_append,List.map_append,ih,rX]
      simp
theorem Bz(ws:List Int) :ly (gF ws ws.length)=kX ws:=by
  have h:=wM ws ws.length (Nat.le_refl _)
  rw [List.take_length] at h
  have h2:=kA (gF ws ws.length)
  rw [h] at h2
  have e:∀ a b:ByteArray,a.data.toList=b.data.toList→a=b:=by
    rintro ⟨a⟩ ⟨b⟩ q
    exact congrArg ByteArray.mk (Array.toList_inj.1 q)
  apply e
  rw [h2,kX,jE]
theorem vk(ws:List Int)(h:ws.length≤1000000) :dM ws=some (.r0 (kX ws)):=by
  unfold dM
  refine cu (ao rfl (ao (a:=((gF ws ws.length).length,(gF ws ws.length).length,gF ws ws.length)) (dv (fun j=>((gF ws j).length,(gF ws j).length,j,gF ws j)) ws.length rfl (fun j hj=>?_) ?_) ?_))
  · have hl:=yI ws j
    have hs:=eE (ws.getD j 0)
    have hb:=rW (aD (ws.getD j 0))
    by_cases h0:j=0
    · subst h0
      have e:gF ws 1=List.take 0 (gF ws 0)++cj (aD (ws.getD 0 0)):=rfl
      refine ao (a:=((gF ws 1).length,gF ws 1)) ?_ (ek rfl)
      have el:(gF ws 1).length=(gF ws 0).length+(aD (ws.getD 0 0)).size:=by rw [e,List.length_append,hb];rfl
      rw [el,e]
      simp only [iw,lX]
      refine fx (decide_eq_true (by omega)) (gX (az (by rw [iK];omega) (az (by rw [gY];omega) (ek (az ?_ (az ?_ (az (by rw [bc];exact Nat.le_refl _) rfl)))))))
      · rw [bc];show ((gF ws 0).length+(aD (ws.getD 0 0)).size)*1≤_;omega
      · rw [bc];show (gF ws 0).length+(aD (ws.getD 0 0)).size≤_;omega
    · have hb0:Nat.blt 0 j=true:=by rw [yC];omega
      have e0:gF ws (j+1)=(gF ws j++[32])++cj (aD (ws.getD j 0)):=by rw [gF,hb0,cond_true]
      have e1:List.take (gF ws j).length (gF ws j)++List.take 1 [(32:Int)]=gF ws j++[32]:=by rw [List.take_length];rfl
      have e2:List.take ((gF ws j).length+1) (gF ws j++[(32:Int)])=gF ws j++[32]:=List.take_of_length_le (by simp)
      have el:(gF ws (j+1)).length=(gF ws j).length+1+(aD (ws.getD j 0)).size:=by rw [e0,List.length_append,hb];simp
      refine ao (a:=((gF ws (j+1)).length,gF ws (j+1))) ?_ (az (by rw [cv];omega) rfl)
      rw [el,e0]
      simp only [iw,lX,e1]
      refine fx (decide_eq_true (by omega)) (fx (decide_eq_true (by omega)) (az (by rw [bc];omega) (az (by rw [bc];omega) (ek (az (by rw [bc];exact Nat.le_refl _) (az (by rw [iK];omega) (az (by rw [gY];omega) (ek (az ?_ (az ?_ (az ?_ ?_)))))))))))
      · rw [bc];show ((gF ws j).length+1+(aD (ws.getD j 0)).size)*1≤_;omega
      · rw [bc];show (gF ws j).length+1+(aD (ws.getD j 0)).size≤_;omega
      · rw [bc];simp
      · show some (Sum.inl ((gF ws j).length+1+(aD (ws.getD j 0)).size,List.take ((gF ws j).length+1) (gF ws j++[32])++cj (aD (ws.getD j 0))))=_
        rw [e2]
  · exact cn (fj (decide_eq_false (by omega)) rfl)
  · show (lU (gF ws ws.length).length (gF ws ws.length)).run=_
    refine az (by rw [bc];exact Nat.le_refl _) ?_
    rw [List.take_length,Bz]
    rfl
def kB(x:ByteArray) :Int:=bif dx x.data.toList then ((cZ x.data.toList:Nat):Int) else 0
theorem o7:∀ l:List ByteArray,(∀ x∈l,dx x.data.toList=true)→cd (l.map fun x=>x.data.toList)=some (l.map kB)
  | [],_=>rfl
  | x::l,h=>by
    have h1:=h x (List.mem_cons_self ..)
    have h2:=o7 l fun y hy=>h y (List.mem_cons_of_mem _ hy)
    simp only [List.map_cons,cd,h1,cond_true,h2,Option.map_some,kB]
theorem o8:∀ (l:List ByteArray) (n:Nat),(h:n<l.length)→dx l[n].data.toList=false→cd (l.map fun x=>x.data.toList)=none
  | [],n,h,_=>by simp at h
  | x::l,0,h,hb=>by
    have hb:dx x.data.toList=false:=hb
    simp only [List.map_cons,cd,hb,cond_false]
  | x::l,n+1,h,hb=>by
    have:=o8 l n (by simpa using h) (by simpa using hb)
    simp only [List.map_cons,cd,this]
    cases dx x.data.toList<;>rfl
theorem rZ(s:ByteArray)(hs:s.size≤1000000000) :bv s=some (match gn s with | some l=>.r0 l.length l.length true l | none=>.r0 0 0 false []):=by
  unfold bv
  rw [nL,←o6]
  have hw:=(rU s (s.size+1)).2
  have hW:(dk s).length≤1000000001:=by unfold dk;omega
  have h12:(fD s).run=some (.inl ((dk s).length,(dk s).length,dk s)):=by
    simp only [fD,rV s hs]
    exact ek rfl
  generalize dk s=W at *
  have step:∀ j,(hj:j<W.length)→dx W[j].data.toList=true→dE W.length W (j,j,j,(W.take j).map kB)=some (.inl (j+1,j+1,j+1,(W.take (j+1)).map kB)):=by
    intro j hj ho
    have hg:W.getD j ByteArray.empty=W[j]:=by rw [List.getD_eq_getElem?_getD,List.getElem?_eq_getElem hj];rfl
    have ht:(W.take (j+1)).map kB=(W.take j).map kB++[kB W[j]]:=by rw [List.take_add_one,List.getElem?_eq_getElem hj,List.map_append];rfl
    have hl:((W.take j).map kB).length=j:=by rw [List.length_map,List.length_take];omega
    have hn:List.take j ((W.take j).map kB)++List.take 1 [kB W[j]]=(W.take j).map kB++[kB W[j]]:=by rw [List.take_of_length_le (by omega)];rfl
    refine ao (a:=(j+1,(W.take (j+1)).map kB)) ?_ (az (by rw [cv];omega) rfl)
    rw [ht,←hn]
    simp only [fE,hg,lW,ho,cond_true,cond_false,kB]
    exact fx (decide_eq_true (by omega)) (az (by rw [iK];omega) (az (by rw [gY];omega) (ek (gX (az (by rw [bc];omega) (az (by rw [bc];omega) (ek (az (by rw [bc];exact Nat.le_of_eq hl.symm) rfl))))))))
  by_cases hall:∀ j,(hj:j<W.length)→dx W[j].data.toList=true
  · have hm:∀ x∈W,dx x.data.toList=true:=by
      intro x hx
      obtain ⟨j,hj,rfl⟩:=List.getElem_of_mem hx
      exact hall j hj
    rw [o7 W hm]
    simp only [List.length_map]
    refine cu (ao h12 (ao rfl (ao (a:=(W.length,W.length,W.map kB)) (dv (fun j=>(j,j,j,(W.take j).map kB)) W.length rfl (fun j hj=>step j hj (hall j hj)) ?_) rfl)))
    rw [List.take_length]
    exact cn (fj (decide_eq_false (by omega)) rfl)
  · have hall' : ¬ ∀ j,j<W.length→dx (W.getD j ByteArray.empty).data.toList=true:=by
      intro q
      apply hall
      intro j hj
      have:=q j hj
      rwa [List.getD_eq_getElem?_getD,List.getElem?_eq_getElem hj] at this
    obtain ⟨k,hk,hb,hg⟩:=Go.Plb.first_bad hall'
    have hgk:W.getD k ByteArray.empty=W[k]:=by rw [List.getD_eq_getElem?_getD,List.getElem?_eq_getElem hk];rfl
    have hb:dx W[k].data.toList=false:=by rw [←hgk];simpa using hb
    rw [o8 W k hk hb]
    refine cu (ao h12 (ao rfl (cn (dv (fun j=>(j,j,j,(W.take j).map kB)) k rfl (fun j hj=>step j (by omega) ?_) ?_))))
    · have:=hg j hj
      rwa [List.getD_eq_getElem?_getD,List.getElem?_eq_getElem (by omega)] at this
    · refine cn ?_
      simp only [fE,hgk,lW,hb,cond_true,cond_false]
      exact fx (decide_eq_true (by omega)) (az (by rw [iK];omega) (az (by rw [gY];omega) (ek (iJ rfl))))
theorem tm(a b:List Int)(h:a.length≤1000000000)(hab:a=b) :cx a b=some (.r0 true):=by
  subst hab
  unfold cx
  refine cu (ao (fj (by simp) rfl) (ao (a:=()) (dv (fun j=>j) a.length rfl (fun j hj=>?_) ?_) rfl))
  · exact fx (by simp;omega) (az (by rw [iK];omega) (az (by rw [gY];omega) (az (by rw [iK];omega) (az (by rw [gY];omega) (fj (by simp) (az (by rw [cv];omega) rfl))))))
  · exact fj (by simp) rfl
theorem Ba(l:List Int)(s:ByteArray) :cy l s=some (.r0 true):=by
  unfold cy
  by_cases h1:(l.length:Int)>200
  · exact cu (ao (fx (decide_eq_true h1) rfl) (cn (iJ rfl)))
  have h7:(fG l s).run=some (.inl (decide ((s.size:Int)>9000))):=fj (decide_eq_false h1) rfl
  by_cases h2:(s.size:Int)>9000
  · rw [decide_eq_true h2] at h7
    exact cu (ao h7 (cn (iJ rfl)))
  rw [decide_eq_false h2] at h7
  have hs:s.size≤1000000000:=by omega
  have hlo:ka s.size=true:=Nat.ble_eq_true_of_le hs
  have h10:∀ (e:Int) (ok:Bool),((e==(0:Int))==ok)=true→(e=0∨e=4)→(cY l e ok).run=some (.inl false):=by
    intro e ok q1 q2
    simp only [cY,qJ]
    rw [lN l (by omega),vk l (by omega)]
    refine yD (ek (yD (ek (fj ?_ (fj ?_ ?_)))))
    · show (!((kX l).toList==(kX l).toList))=false
      simp
    · rw [q1];rfl
    · rcases q2 with rfl | rfl
      · exact gX rfl
      · exact iJ rfl
  have h9:=rZ s hs
  cases hu:gn s with
  | some x =>
    rw [hu] at h9
    have ho:dA s=true:=by rw [dA,hu];rfl
    have hf:ij s=x:=by rw [ij,hu];rfl
    have hx:x.length≤9001:=by
      have e:cd ((dk s).map fun x=>x.data.toList)=some x:=by rw [o6,←nL,hu]
      have hw:=(rU s (s.size+1)).2
      have:∀ (l:List (List UInt8)) x,cd l=some x→x.length=l.length:=by
        intro l
        induction l with
        | nil=>intro x h;cases h;rfl
        | cons w l ih =>
          intro x h
          rw [cd] at h
          cases hb:dx w with
          | false =>
            rw [hb,cond_false] at h
            cases h
          | true =>
            rw [hb,cond_true,Option.map_eq_some_iff] at h
            obtain ⟨y,hy,rfl⟩:=h
            simp [ih y hy]
      have:=this _ _ e
      rw [List.length_map] at this
      unfold dk at this
      omega
    refine cu (ao h7 (ao (a:=(x,x.length,0)) ?_ (ao (a:=(x.length,x.length,true,x)) ?_ (ao (h10 0 true rfl (.inl rfl)) (ao (a:=true) ?_ rfl)))))
    · refine gX (CH (az ho (az hlo ?_)))
      rw [hf];rfl
    · simp only [di,h9]
      exact ek rfl
    · have hc:cx (cO 0 x.length x) (cO 0 x.length x)=some (.r0 true):=by rw [qJ];exact tm x x (by omega) rfl
      simp only [fp,hc]
      exact gX (gX (yD (yD (ek (iJ rfl)))))
  | none =>
    rw [hu] at h9
    have ho:dA s=false:=by rw [dA,hu];rfl
    refine cu (ao h7 (ao (a:=([],0,4)) ?_ (ao (a:=(0,0,false,[])) ?_ (ao (h10 4 false rfl (.inr rfl)) (cn ?_)))))
    · refine gX (C1 (C2 ho) (CH (az (by rw [ho];rfl) (az hlo rfl))))
    · simp only [di,h9]
      exact ek rfl
    · exact gX (iJ (iJ rfl))
end Go.Plb.Seat
