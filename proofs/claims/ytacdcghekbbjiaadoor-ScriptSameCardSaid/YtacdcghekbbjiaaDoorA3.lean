/-
  Part 3 of what the claim leans on: an evaluator of the model, proved sound; the contracts of the functions.
-/
import Derived.Lib.OthersKept
import Derived.Lib.Hide
import Derived.Lib.Strings
import Derived.Laws.RangeAny
import Derived.WalkKit
import Derived.WalkSpells
import Derived.Lib.AtoiAllCases
import Derived.Lib.AtoiErrMem
import Derived.RangeFuncBox
import Derived.RangeFuncLeaves
import Derived.RangeFuncNested
import Derived.Shelf.Abstract
import Derived.Shelf.RegionOpen
import Derived.OwnWalkIn
import Derived.TacticsInMore
import Derived.LoopNIn
import Derived.LoopIn
import Derived.RegionIn
import Derived.Stop.RegionWithIn
import Derived.Test.YtacdcghekbbjiaaDoorA2
namespace Go.Plb
set_option linter.unusedSimpArgs false
set_option linter.unusedVariables false
set_option linter.unusedSectionVars false
variable [Rom]
inductive T (α:Type) where
  | fail
  | leaf (a:α)
  | ask (b:Bool) (t f:T α)
  | need (b:Bool) (t:T α)
  | alt (k:Nat) (t e:T α)
def T.run{α:Type} :T α→Option α
  | .fail=>none
  | .leaf a=>some a
  | .ask b t f=>bif b then t.run else f.run
  | .need b t=>bif b then t.run else none
  | .alt _ t e=>match t.run with
    | some a=>some a
    | none=>e.run
structure jx (α:Type) where
  path:List Nat
  obs:List Bool
  val:α
def jx.ask{α:Type}(n:Nat)(b:Bool)(l:jx α) :jx α:=⟨n::l.path,b::l.obs,l.val⟩
def jx.need{α:Type}(b:Bool)(l:jx α) :jx α:=⟨l.path,b::l.obs,l.val⟩
def jx.alt{α:Type}(n:Nat)(l:jx α) :jx α:=⟨n::l.path,l.obs,l.val⟩
def T.leaves{α:Type} :T α→List (jx α)
  | .fail=>[]
  | .leaf a=>[⟨[],[],a⟩]
  | .ask b t f=>t.leaves.map (jx.ask 1 (b==true))++f.leaves.map (jx.ask 0 (b==false))
  | .need b t=>t.leaves.map (jx.need b)
  | .alt k t e=>t.leaves.map (jx.alt k)++e.leaves
theorem dK{α:Type} :∀ (t:T α) {a:α},t.run=some a→∃ l∈t.leaves,l.val=a∧ac l.obs
  | .fail,a,h=>by cases h
  | .leaf b,a,h=>by
    simp only [T.run,Option.some.injEq] at h;subst h
    exact ⟨⟨[],[],b⟩,by simp [T.leaves],rfl,trivial⟩
  | .ask b t f,a,h=>by
    simp only [T.run] at h
    cases b with
    | true =>
      simp only [cond_true] at h
      obtain ⟨l,h1,h2,h3⟩:=dK t h
      exact ⟨l.ask 1 (true==true),by simp only [T.leaves,List.mem_append];exact .inl (List.mem_map_of_mem h1),h2,⟨rfl,h3⟩⟩
    | false =>
      simp only [cond_false] at h
      obtain ⟨l,h1,h2,h3⟩:=dK f h
      exact ⟨l.ask 0 (false==false),by simp only [T.leaves,List.mem_append];exact .inr (List.mem_map_of_mem h1),h2,⟨rfl,h3⟩⟩
  | .need b t,a,h=>by
    simp only [T.run] at h
    cases b with
    | true =>
      simp only [cond_true] at h
      obtain ⟨l,h1,h2,h3⟩:=dK t h
      exact ⟨l.need true,by simp only [T.leaves];exact List.mem_map_of_mem h1,h2,⟨rfl,h3⟩⟩
    | false=>cases h
  | .alt k t e,a,h=>by
    simp only [T.run] at h
    split at h
    · rename_i a' ht
      cases h
      obtain ⟨l,h1,h2,h3⟩:=dK t ht
      exact ⟨l.alt k,by simp only [T.leaves,List.mem_append];exact .inl (List.mem_map_of_mem h1),h2,h3⟩
    · obtain ⟨l,h1,h2,h3⟩:=dK e h
      exact ⟨l,by simp only [T.leaves,List.mem_append];exact .inr h1,h2,h3⟩
def iN{α X:Type}(N:α→ax)(E:X→AE×ax) :α⊕X→AE×ax
  | .inl a=>(.normal,N a)
  | .inr x=>E x
def Sg{α X:Type}(P:Program)(lent:List ae)(cs:List Code)(st:ax)(m:Option (α⊕X))(N:α→ax)(E:X→AE×ax) :Prop :=
  ∀ r,m=some r→bF P lent cs st fun e st'=>(e,st')=iN N E r
def xR{α X:Type}(C:ko)(S:ln)(n:Nat)(cs:List Code)(st:ax)(ls:List (jx (α⊕X)))(ks:List NS)(k:Nat) :List (Bool×Option (AE×ax×List Bool)) :=
  List.zipWith (fun l s=>(s.ok k,xo s (wh (fw C S 12 n) cs st (some l.path)))) ls ks
def vE{α X:Type}(N:α→ax)(E:X→AE×ax)(ls:List (jx (α⊕X))) :List (Bool×Option (AE×ax×List Bool)) :=
  ls.map fun l=>(true,some ((iN N E l.val).1,(iN N E l.val).2,l.obs))
theorem vF{α β γ:Type}{f:α→β→γ}{g:α→γ} :∀ {l:List α} {k:List β},List.zipWith f l k=l.map g→∀ a∈l,∃ b,f a b=g a
  | [],_,_,a,ha=>by cases ha
  | x::l,[],h,a,ha=>by simp at h
  | x::l,y::k,h,a,ha=>by
    simp only [List.zipWith_cons_cons,List.map_cons,List.cons.injEq] at h
    rcases List.mem_cons.1 ha with rfl | ha
    · exact ⟨y,h.1⟩
    · exact vF h.2 a ha
theorem Sg.seg{C:ko}(hC:C.Ok){S:ln}(hS:aZ C.P S){lent:List ae}{α X:Type}(n:Nat)(cs:List Code)(st:ax)(t:T (α⊕X))(N:α→ax)(E:X→AE×ax)(ks:List NS) 
    (h:xR C S n cs st t.leaves ks lent.length=vE N E t.leaves):Sg C.P lent cs st t.run N E:=by
  intro r hr
  obtain ⟨l,h1,h2,h3⟩:=dK t hr
  obtain ⟨k,hk⟩:=vF h l h1
  simp only [Prod.mk.injEq] at hk
  obtain ⟨hn,he⟩:=hk
  have:=bF.seg hC hS (lent:=lent) (Q:=fun e st'=>(e,st')=iN N E r) cs.length (some l.path) k (cs:=cs) (st:=st) (by rw [List.take_length];exact he) hn h3
  refine this ?_
  rw [h2,List.drop_length]
  generalize hg:iN N E r=x
  obtain ⟨e,s⟩:=x
  cases e with
  | normal=>exact bF.nil rfl
  | ret=>rfl
  | exit id=>rfl
theorem bF.append{P:Program}{lent:List ae}{cs1 cs2:List Code}{st:ax}{Q1 Q:AE→ax→Prop}(h:bF P lent cs1 st Q1)(k:∀ e st',Q1 e st'→pY P lent cs2 e st' Q) :bF P lent (cs1++cs2) st Q:=by
  intro ρ0 w0 hN K hK a w hA
  apply ku
  refine h ρ0 w0 hN _ ?_ a w hA
  intro e st' a' w' q hA'
  have:=k e st' q
  cases e with
  | normal=>exact this ρ0 w0 hN K hK a' w' hA'
  | ret=>exact hK _ _ _ _ this hA'
  | exit id=>exact hK _ _ _ _ this hA'
def tw{X:Type}(E:X→AE×ax) :Prop:=∀ x,(E x).1 ≠ .normal
theorem vG{P:Program}{lent:List ae}{cs:List Code}{e:AE}{st:ax}{Q:AE→ax→Prop}(hn:e ≠ .normal)(h:Q e st) :pY P lent cs e st Q:=by
  cases e with
  | normal=>exact (hn rfl).elim
  | ret=>exact h
  | exit id=>exact h
def eF{α β X:Type}(m:Option (α⊕X))(k:α→Option (β⊕X)) :Option (β⊕X) :=
  match m with
  | none=>none
  | some (.inl a)=>k a
  | some (.inr x)=>some (.inr x)
theorem Sg.seq{P:Program}{lent:List ae}{α β X:Type}{cs1 cs2:List Code}{st:ax}{m:Option (α⊕X)}{N1:α→ax}{E:X→AE×ax}{k:α→Option (β⊕X)}{N:β→ax}(hE:tw E) 
    (h:Sg P lent cs1 st m N1 E) (hk:∀ a,Sg P lent cs2 (N1 a) (k a) N E):Sg P lent (cs1++cs2) st (eF m k) N E:=by
  intro r hr
  unfold eF at hr
  split at hr
  · cases hr
  · rename_i a
    refine bF.append (h _ rfl) ?_
    intro e st' q
    simp only [iN,Prod.mk.injEq] at q
    obtain ⟨rfl,rfl⟩:=q
    exact hk a r hr
  · rename_i x
    simp only [Option.some.injEq] at hr;subst hr
    refine bF.append (h _ rfl) ?_
    intro e st' q
    simp only [iN] at q
    refine vG ?_ q
    have:=hE x
    rw [←q] at this;exact this
def hU{σ Y:Type}(B:σ→Option (σ⊕Y)) :Nat→σ→Option Y
  | 0,_=>none
  | n+1,s=>match B s with
    | none=>none
    | some (.inl s')=>hU B n s'
    | some (.inr y)=>some y
theorem kx{σ Y:Type}{B:σ→Option (σ⊕Y)} :∀ (n:Nat) {s:σ} {y:Y},hU B n s=some y→∀ m,n≤m→hU B m s=some y
  | 0,s,y,h,_,_=>by cases h
  | n+1,s,y,h,m,hm=>by
    obtain ⟨m',rfl⟩:∃ m',m=m'+1:=⟨m-1,by omega⟩
    simp only [hU] at h ⊢
    split at h
    · cases h
    · exact kx n h m' (by omega)
    · exact h
open Classical in
noncomputable def cq {σ Y : Type} (B : σ → Option (σ ⊕ Y)) (s : σ) : Option Y :=
  if h : ∃ n y, hU B n s = some y then some h.choose_spec.choose else none
theorem jt{σ Y:Type}{B:σ→Option (σ⊕Y)}{s:σ}{y:Y} :cq B s=some y↔∃ n,hU B n s=some y:=by
  unfold cq
  constructor
  · intro h
    split at h
    · rename_i q
      simp only [Option.some.injEq] at h
      exact ⟨q.choose,by rw [←h];exact q.choose_spec.choose_spec⟩
    · cases h
  · rintro ⟨n,h⟩
    rw [dif_pos ⟨n,y,h⟩]
    generalize hq:(⟨n,y,h⟩:∃ n y,hU B n s=some y)=q
    have h1:=q.choose_spec.choose_spec
    have a1:=kx n h (max n q.choose) (by omega)
    have a2:=kx _ h1 (max n q.choose) (by omega)
    rw [a1] at a2
    exact a2.symm
theorem tx{σ Y:Type}(B:σ→Option (σ⊕Y))(s:σ) :cq B s=match B s with
    | none=>none
    | some (.inl s')=>cq B s'
    | some (.inr y)=>some y:=by
  have key:∀ y,cq B s=some y↔(match B s with | none=>none | some (.inl s')=>cq B s' | some (.inr y)=>some y)=some y:=by
    intro y
    rw [jt]
    constructor
    · rintro ⟨n,h⟩
      cases n with
      | zero=>cases h
      | succ n =>
        simp only [hU] at h
        cases q:B s with
        | none=>rw [q] at h;cases h
        | some z=>cases z with
          | inl s'=>rw [q] at h;exact jt.2 ⟨n,h⟩
          | inr z=>rw [q] at h;exact h
    · intro h
      split at h<;>rename_i q
      · cases h
      · obtain ⟨n,hn⟩:=jt.1 h
        exact ⟨n+1,by simp only [hU,q];exact hn⟩
      · exact ⟨1,by simp only [hU,q];exact h⟩
  generalize (match B s with | none=>none | some (.inl s')=>cq B s' | some (.inr y)=>some y)=x at key
  cases hl:cq B s with
  | none=>cases x with
    | none=>rfl
    | some y=>rw [(key y).2 rfl] at hl;cases hl
  | some y=>rw [hl] at key;exact ((key y).1 rfl).symm
theorem tz{σ Y:Type}{B:σ→Option (σ⊕Y)}{s s':σ}(h:B s=some (.inl s')) :cq B s=cq B s':=by rw [tx,h]
theorem qN{σ Y:Type}{B:σ→Option (σ⊕Y)}{s:σ}{y:Y}(h:B s=some (.inr y)) :cq B s=some y:=by rw [tx,h]
theorem wt{σ Y:Type}{B:σ→Option (σ⊕Y)}(G:σ→Prop)(m:σ→Nat)(Q:Y→Prop)(h:∀ s,G s→(∃ s',B s=some (.inl s')∧G s'∧m s'<m s)∨∃ y,B s=some (.inr y)∧Q y) :
    ∀ s,G s→∃ y,cq B s=some y∧Q y:=by
  have key:∀ n s,m s<n→G s→∃ y,cq B s=some y∧Q y:=by
    intro n
    induction n with
    | zero=>intro s q;omega
    | succ n ih =>
      intro s q hs
      rcases h s hs with ⟨s',h1,h2,h3⟩ | ⟨y,h1,h2⟩
      · obtain ⟨y,k1,k2⟩:=ih s' (by omega) h2
        exact ⟨y,by rw [tz h1];exact k1,k2⟩
      · exact ⟨y,qN h1,h2⟩
  exact fun s hs=>key _ s (Nat.lt_succ_self _) hs
def hX{ρ X:Type}(id:Nat)(J:ρ→ax)(E:X→AE×ax) :ρ⊕X→AE×ax
  | .inl r=>(.exit id,J r)
  | .inr x=>E x
def tA{X:Type}(id:Nat)(E:X→AE×ax) :Prop:=∀ x,(E x).1 ≠ .exit id
theorem Sg.loop{P:Program}{lent:List ae}{σ ρ X:Type}{I:σ→ax}{J:ρ→ax}{E:X→AE×ax}{B:σ→Option (σ⊕(ρ⊕X))}{id:Nat}{b:Code}(hE:tw E)(hI:tA id E) 
    (hb:∀ s,Sg P lent (d7 b) (I s) (B s) I (hX id J E)) (s:σ):Sg P lent [.block id (.loop b)] (I s) (cq B s) J E:=by
  intro y hy
  obtain ⟨n,hn⟩:=jt.1 hy

  have:=bF.loop (P:=P) (lent:=lent) (id:=id) (b:=b) (rest:=[]) (Q:=fun e st'=>(e,st')=iN J E y) (σ:=Nat×σ) (fun s=>I s.2) (fun s=>hU B s.1 s.2=some y) (fun s=>s.1) rfl (fun s hs=>?_) (n,s) hn
  · exact this
  · obtain ⟨n,s⟩:=s
    simp only at hs ⊢
    cases n with
    | zero=>cases hs
    | succ n =>
      simp only [hU] at hs
      split at hs
      · cases hs
      · rename_i s' hB
        refine (hb s _ hB).mono ?_
        intro e st' q
        simp only [iN,Prod.mk.injEq] at q
        obtain ⟨rfl,rfl⟩:=q
        exact ⟨(n,s'),hs,by simp,rfl⟩
      · rename_i y' hB
        simp only [Option.some.injEq] at hs;subst hs
        refine (hb s _ hB).mono ?_
        intro e st' q
        cases y' with
        | inl r =>
          simp only [iN,hX,Prod.mk.injEq] at q
          obtain ⟨rfl,rfl⟩:=q
          simp only [lq,if_true]
          exact bF.nil rfl
        | inr x =>
          simp only [iN,hX] at q
          have h1:=hE x
          have h2:=hI x
          rw [←q] at h1 h2
          simp only at h1 h2
          cases e with
          | normal=>exact (h1 rfl).elim
          | ret=>exact q
          | exit j =>
            have hj : ¬ j=id:=fun h=>h2 (by rw [h])
            simp only [lq,hj,if_false]
            exact q
def qO{κ X:Type}(m:Option (κ⊕(κ⊕X))) :Option (κ⊕X) :=
  match m with
  | none=>none
  | some (.inl a)=>some (.inl a)
  | some (.inr (.inl a))=>some (.inl a)
  | some (.inr (.inr x))=>some (.inr x)
theorem Sg.block{P:Program}{lent:List ae}{κ X:Type}{K:κ→ax}{E:X→AE×ax}{m:Option (κ⊕(κ⊕X))}{id:Nat}{b:Code}{st:ax}(hE:tw E)(hI:tA id E) 
    (hb:Sg P lent (d7 b) st m K (hX id K E)):Sg P lent [.block id b] st (qO m) K E:=by
  intro r hr
  unfold qO at hr
  refine bF.block (rest:=[]) rfl ?_
  split at hr
  · cases hr
  · simp only [Option.some.injEq] at hr;subst hr
    refine (hb _ rfl).mono ?_
    intro e st' q
    simp only [iN,Prod.mk.injEq] at q
    obtain ⟨rfl,rfl⟩:=q
    exact bF.nil rfl
  · simp only [Option.some.injEq] at hr;subst hr
    refine (hb _ rfl).mono ?_
    intro e st' q
    simp only [iN,hX,Prod.mk.injEq] at q
    obtain ⟨rfl,rfl⟩:=q
    simp only [if_true]
    exact bF.nil rfl
  · rename_i x
    simp only [Option.some.injEq] at hr;subst hr
    refine (hb _ rfl).mono ?_
    intro e st' q
    simp only [iN,hX] at q
    have h1:=hE x
    have h2:=hI x
    rw [←q] at h1 h2
    simp only at h1 h2
    cases e with
    | normal=>exact (h1 rfl).elim
    | ret=>exact q
    | exit j =>
      have hj : ¬ j=id:=fun h=>h2 (by rw [h])
      simp only [hj,if_false]
      exact q
theorem Sg.scope{P:Program}{lent:List ae}{α X:Type}{N:α→ax}{E:X→AE×ax}{m:Option (α⊕X)}{b:Code}{st:ax}(hE:tw E)(hb:Sg P lent (d7 b) st m N E) :Sg P lent [.scope b] st m N E:=by
  intro r hr
  refine bF.scope (rest:=[]) rfl ((hb r hr).mono ?_)
  intro e st' q
  cases r with
  | inl a =>
    simp only [iN,Prod.mk.injEq] at q
    obtain ⟨rfl,rfl⟩:=q
    exact bF.nil rfl
  | inr x =>
    refine vG ?_ q
    have:=hE x
    simp only [iN] at q
    rw [←q] at this;exact this
theorem tB{k:Nat}{ρ0:aa}{w0:World}{st:ax}{a:Act}{w:World}{c:Operand}{b kn:Bool}(h:At k ρ0 w0 st a w)(hc:yi st.tmps c=.bool kn b) :At k ρ0 w0 { st with tmps:=eU st.tmps c b } a w∧a.eval c=.bool b:=by
  obtain ⟨ρ,E,W,hs,hbk,hle⟩:=h
  have hb:a.eval c=.bool b:=by
    have:=nZ hs.heap.rom hs.tmps c
    rw [hc] at this
    generalize a.eval c=z at this
    cases this;rfl
  refine ⟨⟨ρ,E,W,⟨hs.defers,?_,hs.heap⟩,hbk,hle⟩,hb⟩
  cases c with
  | tmp t =>
    simp only [eU]
    have:aL ρ w (st.tmps.set t (.bool true b)) (a.tmps.toList.set t (.bool b)):=hs.tmps.set (.bool _ _) t
    have e:a.tmps.toList.set t (.bool b)=a.tmps.toList:=by
      apply List.ext_getElem?
      intro j
      rw [List.getElem?_set]
      split
      · rename_i q;subst q
        split
        · rename_i hlt
          simp only [Act.eval] at hb
          rw [Array.getD_eq_getD_getElem?] at hb
          have hlt':t<a.tmps.size:=by simpa using hlt
          rw [Array.getElem?_eq_getElem hlt'] at hb
          simp only [Option.getD_some] at hb
          simp [hlt',hb]
        · rename_i hge
          rw [List.getElem?_eq_none (by omega)]
      · rfl
    rw [e] at this;exact this
  | const v=>exact hs.tmps
  | global g=>exact hs.tmps
  | func f=>exact hs.tmps
theorem Sg.cond{P:Program}{lent:List ae}{α X:Type}{N:α→ax}{E:X→AE×ax}{m1 m2:Option (α⊕X)}{c:Operand}{A B:Code}{st:ax}{kn b:Bool}(hE:tw E)(hc:yi st.tmps c=.bool kn b) 
    (h1:Sg P lent (d7 A) { st with tmps:=eU st.tmps c true } m1 N E) (h2:Sg P lent (d7 B) { st with tmps:=eU st.tmps c false } m2 N E):Sg P lent [.cond c A B] st (bif b then m1 else m2) N E:=by
  intro r hr
  intro ρ0 w0 hN K hK a w hA
  simp only [pK]
  obtain ⟨hA',hb⟩:=tB hA hc
  refine wp_cond hb ?_
  have fin:∀ (D:Code) (m:Option (α⊕X)) (st1:ax),Sg P lent (d7 D) st1 m N E→m=some r→At lent.length ρ0 w0 st1 a w→D.wp P (fun e a' w'=>match e with | .normal=>K .normal a' w' | e=>K e a' w') a w:=by
    intro D m st1 hS hm hA1
    refine gL D (hS r hm ρ0 w0 hN _ ?_ a w hA1)
    intro e st' a' w' q hA2
    cases e with
    | normal=>exact hK .normal st' a' w' q hA2
    | ret=>exact hK .ret st' a' w' q hA2
    | exit id=>exact hK (.exit id) st' a' w' q hA2
  cases b with
  | true=>exact fin A m1 _ h1 hr hA'
  | false=>exact fin B m2 _ h2 hr hA'
theorem Sg.pre{P:Program}{lent:List ae}{α X:Type}{N:α→ax}{E:X→AE×ax}{m:Option (α⊕X)}{cs:List Code}{st st1:ax}(s:NS)(hn:s.ok lent.length=true)(h1:s.on st=st1)(h:Sg P lent cs st1 m N E) :Sg P lent cs st m N E :=
  fun r hr=>bF.weak (by rw [←h1];exact xn hn st) (h r hr)
def vH{X:Type} :Option (Empty⊕X)→Option X
  | some (.inr x)=>some x
  | _=>none
theorem Sg.contract{P:Program}{f:FuncId}{fn:Func}{c:Code}{X:Type}{N:Empty→ax}{E:X→AE×ax}{m:Option (Empty⊕X)}{lent:List ae}{args:List AV}(keep:Bool)(o:X→iy)(hf:P.funcs[f]? = some fn)(hc:fn.body=some c) 
    (h:Sg P lent (d7 c) (fv fn lent args) m N E) (hE:∀ x,vr P fn lent.length keep (o x) (E x).1 (E x).2) {x:X} (hx:vH m=some x):ah P f lent args (o x):=by
  unfold vH at hx
  split at hx
  · rename_i x'
    simp only [Option.some.injEq] at hx;subst hx
    refine bF.contract (keep:=keep) hf hc ((h _ rfl).mono ?_)
    intro e st' q
    simp only [iN] at q
    have:=hE x'
    rw [←q] at this;exact this
  · cases hx
end Go.Plb
namespace Go.Plb
set_option linter.unusedSectionVars false
variable [Rom]
def mt:Code→Code
  | .block _ (.loop b)=>b
  | _=>.skip
theorem Sg.cut{P:Program}{lent:List ae}{α β X:Type}{cs:List Code}{st:ax}{m:Option (α⊕X)}{N1:α→ax}{E:X→AE×ax}{k:α→Option (β⊕X)}{N:β→ax}(n:Nat)(hE:tw E) 
    (h:Sg P lent (cs.take n) st m N1 E) (hk:∀ a,Sg P lent (cs.drop n) (N1 a) (k a) N E):Sg P lent cs st (eF m k) N E:=by
  have:=Sg.seq hE h hk
  rwa [List.take_append_drop] at this
theorem wu{P:Program}{lent:List ae}{σ ρ X:Type}{I:σ→ax}{J:ρ→ax}{E:X→AE×ax}{B:σ→Option (σ⊕(ρ⊕X))}{id:Nat}{b:Code}{cs:List Code}(hcs:cs=[.block id (.loop b)])(hE:tw E)(hI:tA id E) 
    (hb:∀ s,Sg P lent (d7 b) (I s) (B s) I (hX id J E)) (s:σ):Sg P lent cs (I s) (cq B s) J E:=by rw [hcs];exact Sg.loop hE hI hb s
end Go.Plb
namespace Go.Plb.Seat
open Go Go.Plb
set_option linter.unusedSimpArgs false
set_option linter.unusedVariables false
noncomputable abbrev E0:ln:=bc []
def L1:List aK:=[]
def S1:ln:=bc L1
theorem zN:aZ prog S1:=kv _
end Go.Plb.Seat
namespace Go.Plb.Seat
open Go Go.Plb
set_option linter.unusedSimpArgs false
set_option linter.unusedVariables false
set_option maxRecDepth 100000
def m8(n:Nat) :Bool:=Nat.ble n 1000000000
noncomputable def L2:List aK:=L1
theorem zO:aZ prog (bc L2):=zN
end Go.Plb.Seat
namespace Go.Plb.Seat
open Go Go.Plb
set_option linter.unusedSimpArgs false
set_option linter.unusedVariables false
theorem ah.nan{f:FuncId}{g:Nat→iy}{r:iy}(h:∀ n:Nat,ah prog f [] [.int .u64 (n:Int)] (g n))(e:∀ n:Nat,isNaN n=true→g n=r) :ah prog f [] [.nan] r:=by
  intro ρ w us hN hv
  cases hv with | cons _ u _ _ h1 h2 =>
  cases h2
  cases h1 with | nan n hn =>
  rw [←e n hn]
  exact h n ρ w _ hN (.cons _ _ _ _ (.int _ _) .nil)
noncomputable def L3:List aK:=L2
theorem Ao:aZ prog (bc L3):=zO
end Go.Plb.Seat
namespace Go.Plb.Seat
open Go Go.Plb
set_option linter.unusedVariables false
set_option maxRecDepth 100000
theorem mu{S:ln}(hS:aZ prog S){lent:List ae}{α X:Type}{cs:List Code}{st:ax}{t:T (α⊕X)}(N:α→ax){E:X→AE×ax}(ks:List NS) 
    (h:xR C0 S 60 cs st t.leaves ks lent.length=vE N E t.leaves:=by kernel_rfl):Sg prog lent cs st t.run N E:=Sg.seg yX hS 60 cs st t N E ks h
theorem zZ{lent:List ae}{σ ρ X:Type}{cs:List Code}{st:ax}{E:X→AE×ax}{B:σ→Option (σ⊕(ρ⊕X))}{ent:σ}(s:NS)(I:σ→ax)(J:ρ→ax)(id:Nat)(hE:tw E)(hI:tA id E) 
    (hb:∀ a,Sg prog lent (d7 (mt (cs.headD .skip))) (I a) (B a) I (hX id J E)) (hn:s.ok lent.length=true:=by exact rfl) (h1:s.on st=I ent:=by kernel_rfl) (hcs:cs=[.block id (.loop (mt (cs.headD .skip)))]:=by kernel_rfl) :
    Sg prog lent cs st (cq B ent) J E:=Sg.pre s hn h1 (wu hcs hE hI hb ent)
def wO:Empty→ax:=fun a=>a.elim
theorem tC{fn:Func}{k:Nat}{keep:Bool}{o:iy}{st:ax}(vs:List AV)(h1:b8 prog fn st fn.results.toList=some (vs,[]):=by kernel_rfl)(h2:oG k keep st.heap (mj vs)=some o:=by kernel_rfl) :vr prog fn k keep o .ret st :=
  ⟨.inr rfl,vs,[],h1,trivial,h2⟩
theorem yf{f:FuncId}{X:Type}{m:Option (Empty⊕X)}{lent:List ae}{args:List AV}{x:X}(keep:Bool)(o:X→iy)(E:X→AE×ax)(hx:vH m=some x) 
    (h:Sg prog lent (d7 (uB f)) (fv (FN f) lent args) m wO E) (hE:∀ x,vr prog (FN f) lent.length keep (o x) (E x).1 (E x).2)
    (hf:prog.funcs[f]? = some (FN f):=by kernel_rfl) (hc:(FN f).body=some (uB f):=by kernel_rfl):ah prog f lent args (o x) :=
  Sg.contract (P:=prog) (f:=f) (fn:=FN f) (c:=uB f) (N:=wO) (E:=E) (lent:=lent) (args:=args) keep o hf hc h hE hx
end Go.Plb.Seat
namespace Go.Plb.Seat
open Go Go.Plb
noncomputable def zP:List aK:=[]
theorem nV:aZ prog (bc zP):=kv prog
end Go.Plb.Seat
namespace Go.Plb.Seat
open Go Go.Plb
set_option linter.unusedVariables false
set_option maxRecDepth 100000
noncomputable section
inductive bd where
  | r0 (s5:ByteArray)
def fE:bd→AE×ax
  | .r0 s5=>(.ret,⟨bD 20 [(2,.str s5)],[],0⟩)
theorem gS:tw fE:=by intro x;cases x<;>(intro h;cases h)
theorem rV(id:Nat) :tA id fE:=by intro x;cases x<;>(intro h;cases h)
def iO:bd→iy
  | .r0 s5=>⟨.str s5,[]⟩
noncomputable def rW:List Code:=d7 (uB d8)
def rX(w_0:Int)(l1:(List Int)) :ax:=⟨bD 20 [(0,.int .u64 w_0),(3,.ptr 0 1 0 0),(5,.int .i64 (0:Int))],[(0,.ns .u8 l1)],1⟩
def rY:T (((List Int))⊕(bd)) :=
  .leaf (.inl [(0:Int),(0:Int),(0:Int),(0:Int),(0:Int),(0:Int),(0:Int),(0:Int),(0:Int),(0:Int),(0:Int),(0:Int),(0:Int),(0:Int),(0:Int),(0:Int)])
def eG(w_0:Int) :Nat×(List Int)→ax:=fun (a2,l3)=>⟨bD 20 [(0,.int .u64 w_0),(3,.ptr 0 1 0 0),(5,.int .i64 ((a2:Nat):Int))],[(0,.ns .u8 l3)],1⟩
def lz(l4:(List Int)) :ax:=⟨bD 20 [(3,.ptr 0 1 0 0)],[(0,.ns .u8 l4)],1⟩
noncomputable def rZ:List Code:=d7 (mt ((((rW.drop 3).take 1)).headD .skip))
def gT(w_0:Int)(a2:Nat)(l3:List Int) :T ((Nat×(List Int))⊕(((List Int))⊕(bd))) :=
  .ask (decide (((a2:Nat):Int)<(16:Int)))
    (.need (lS .i64 (((4*a2):Nat):Int))<|.need (lS .i64 ((60:Int)-(((4*a2):Nat):Int)))<|.need (decide ((0:Int)≤((60:Int)-(((4*a2):Nat):Int))))<|.need (sk (n4 .and .u64 (Int.fdiv w_0 (2^(min (Int.toNat ((60:Int)-(((4*a2):Nat):Int))) (IntKind.u64.bits)))) (15:Int)) (ByteArray.mk #[48,49,50,51,52,53,54,55,56,57,65,66,67,68,69,70]).size)<|.need (sk ((a2:Nat):Int) 16)<|.need (gq (bf (bf 0 (nk a2 1)) 0) (List.length l3))<|.need (lS .i64 (((a2+1):Nat):Int))<|.leaf (.inl ((a2+1),(List.set l3 (bf (bf 0 (nk a2 1)) 0) (bQ (ByteArray.mk #[48,49,50,51,52,53,54,55,56,57,65,66,67,68,69,70]) (Int.toNat (n4 .and .u64 (Int.fdiv w_0 (2^(min (Int.toNat ((60:Int)-(((4*a2):Nat):Int))) (IntKind.u64.bits)))) (15:Int))))))))
    (.leaf (.inr (.inl l3)))
noncomputable def cT(w_0:Int) :Nat×(List Int)→Option ((Nat×(List Int))⊕(((List Int))⊕(bd))):=fun (a2,l3) =>
  (gT w_0 a2 l3).run
theorem p8(w_0:Int)(a2:Nat)(l3:List Int) :Sg prog [] rZ (eG w_0 (a2,l3)) (cT w_0 (a2,l3)) (eG w_0) (hX 0 lz fE):=by
  unfold cT;exact mu nV (eG w_0) [⟨[],[0],[0,3,5]⟩,⟨[],[0],[3]⟩]
def jS(l4:List Int) :T ((Empty)⊕(bd)) :=
  .need (nO (16:Int) 16)<|.need (nO (0:Int) 16)<|.need (il 16 (List.length l4))<|.need (il 16 (List.length l4))<|.leaf (.inr (.r0 (sO (List.take 16 l4))))
noncomputable def fF(w_0:Int) :Option bd:=vH (eF ((rY).run) fun l1 =>
  eF (cq (cT w_0) (0,l1)) fun l4 =>
  (jS l4).run)
theorem lA(w_0:Int){x:bd}(h:fF w_0=some x) :ah prog d8 [] [.int .u64 w_0] (iO x) :=
  yf false iO fE h (Sg.cut 3 gS (mu nV (rX w_0) [⟨[],[16],[0,3,5]⟩]) (fun l1=>Sg.cut 1 gS (zZ ⟨[],[0],[0,3,5]⟩ (eG w_0) (lz) 0 gS (rV _) (fun ⟨a2,l3⟩=>p8 w_0 a2 l3)) (fun l4=>mu nV wO [⟨[],[],[2]⟩])))
    (fun x=>by cases x with | r0 s5=>exact tC [.str s5])
def gU:Option bd→Bool
  | some _=>true
  | none=>false
def iP:Option bd→ByteArray
  | some (.r0 x)=>x
  | _=>ByteArray.empty
theorem r5{x:Option bd}(h:gU x=true) :x=some (.r0 (iP x)):=by
  unfold gU at h
  split at h<;>first | rfl | (cases h;done) | (rename_i y;cases y;rfl)
noncomputable def m9:aK:=dA d8 (.cons (.int .u64) .nil) fun t=>(fun q=>[⟨iO (.r0 (iP q)),[gU q]⟩]) (fF t.1)
theorem oY:aW prog m9:=bo fun t=>(bR (fun h=>lA t.1 (r5 h)) cy)
noncomputable def tD:List aK:=m9::zP
theorem xS:aZ prog (bc tD):=au oY nV
end
end Go.Plb.Seat
namespace Go.Plb
set_option linter.unusedSimpArgs false
set_option linter.unusedVariables false
set_option linter.unusedSectionVars false
variable [Rom]
theorem aH{α:Type}{b:Bool}{t:T α}{x:Option α}(h:b=true)(k:t.run=x) :(T.need b t).run=x:=by subst h;exact k
theorem gV{α:Type}{b:Bool}{t f:T α}{x:Option α}(h:b=true)(k:t.run=x) :(T.ask b t f).run=x:=by subst h;exact k
theorem jy{α:Type}{b:Bool}{t f:T α}{x:Option α}(h:b=false)(k:f.run=x) :(T.ask b t f).run=x:=by subst h;exact k
theorem qP{α:Type}{b:Bool}{t:T α}{x:Option α}(k:t.run=x)(h:b=true:=by exact rfl) :(T.need b t).run=x:=aH h k
theorem iQ{α:Type}{b:Bool}{t f:T α}{x:Option α}(k:t.run=x)(h:b=true:=by exact rfl) :(T.ask b t f).run=x:=gV h k
theorem qQ{α:Type}{b:Bool}{t f:T α}{x:Option α}(k:f.run=x)(h:b=false:=by exact rfl) :(T.ask b t f).run=x:=jy h k
theorem bv{α β X:Type}{m:Option (α⊕X)}{k:α→Option (β⊕X)}{a:α}{x:Option (β⊕X)}(h:m=some (.inl a))(q:k a=x) :eF m k=x:=by subst h;exact q
theorem iR{α β X:Type}{m:Option (α⊕X)}{k:α→Option (β⊕X)}{y:X}(h:m=some (.inr y)) :eF m k=some (.inr y):=by subst h;rfl
theorem xT{κ X:Type}{m:Option (κ⊕(κ⊕X))}{a:κ}(h:m=some (.inl a)) :qO m=some (.inl a):=by subst h;rfl
theorem wv{κ X:Type}{m:Option (κ⊕(κ⊕X))}{a:κ}(h:m=some (.inr (.inl a))) :qO m=some (.inl a):=by subst h;rfl
theorem ww{κ X:Type}{m:Option (κ⊕(κ⊕X))}{a:X}(h:m=some (.inr (.inr a))) :qO m=some (.inr a):=by subst h;rfl
theorem ei{X:Type}{m:Option (Empty⊕X)}{x:X}(h:m=some (.inr x)) :vH m=some x:=by subst h;rfl
theorem wx{σ Y:Type}{B:σ→Option (σ⊕Y)}(st:Nat→σ)(n:Nat){y:Y}(i:Nat)(hi:i≤n)(step:∀ j,i≤j→j<n→B (st j)=some (.inl (st (j+1))))(done:B (st n)=some (.inr y)) :cq B (st i)=some y:=by
  obtain ⟨d,rfl⟩:∃ d,n=i+d:=⟨n-i,by omega⟩
  clear hi
  induction d generalizing i with
  | zero=>exact qN done
  | succ d ih =>
    rw [tz (step i (Nat.le_refl _) (by omega))]
    have e:i+(d+1)=i+1+d:=by omega
    rw [e] at step done
    exact ih (i+1) (fun j h1 h2=>step j (by omega) h2) done
theorem gi{σ Y:Type}{B:σ→Option (σ⊕Y)}(st:Nat→σ)(n:Nat){y:Y}{s0:σ}(h0:s0=st 0)(step:∀ j,j<n→B (st j)=some (.inl (st (j+1))))(done:B (st n)=some (.inr y)) :cq B s0=some y:=by
  rw [h0];exact wx st n 0 (Nat.zero_le _) (fun j _=>step j) done
theorem cB{n:Int} :lS .i64 n=true↔-9223372036854775808≤n∧n≤9223372036854775807:=by
  have e1:IntKind.i64.min = -9223372036854775808:=by decide
  have e2:IntKind.i64.max=9223372036854775807:=by decide
  simp only [lS,e1,e2,Bool.and_eq_true,decide_eq_true_eq]
theorem eZ{k:Int}{n:Nat} :sk k n=true↔0≤k∧k<n:=by simp only [sk,Bool.and_eq_true,decide_eq_true_eq]
theorem cm{k n:Nat} :gq k n=true↔k<n:=by simp [gq]
theorem r6{k n:Nat} :il k n=true↔k≤n:=by simp [il]
def p9{α:Type}(pos:Nat→Nat)(val:Nat→α)(l:List α) :Nat→List α
  | 0=>l
  | n+1=>(p9 pos val l n).set (pos n) (val n)
theorem lB{α:Type}{pos:Nat→Nat}{val:Nat→α}{l:List α} :∀ {n:Nat},(p9 pos val l n).length=l.length
  | 0=>rfl
  | n+1=>by simp only [p9,List.length_set];exact lB
def sf{α:Type}(m:Option α)(Q:α→Prop) :Prop:=∃ r,m=some r∧Q r
theorem sf.mono{α:Type}{m:Option α}{Q R:α→Prop}(h:sf m Q)(k:∀ r,Q r→R r) :sf m R:=by
  obtain ⟨r,a,b⟩:=h
  exact ⟨r,a,k r b⟩
def T.wp{α:Type}(Q:α→Prop) :T α→Prop
  | .fail=>False
  | .leaf a=>Q a
  | .ask b t f=>(b=true→t.wp Q)∧(b=false→f.wp Q)
  | .need b t=>b=true∧t.wp Q
  | .alt _ t e=>t.wp Q∨(t.run=none∧e.wp Q)
theorem sf.seq{α β X:Type}{m:Option (α⊕X)}{k:α→Option (β⊕X)}{N:β→Prop}{E:X→Prop}(h:sf m (Sum.elim (fun a=>sf (k a) (Sum.elim N E)) E)) :sf (eF m k) (Sum.elim N E):=by
  obtain ⟨r,a,b⟩:=h
  cases r with
  | inl x =>
    obtain ⟨r',a',b'⟩:=b
    exact ⟨r',bv a a',b'⟩
  | inr x=>exact ⟨.inr x,iR a,b⟩
theorem sf.join{κ X:Type}{m:Option (κ⊕(κ⊕X))}{N:κ→Prop}{E:X→Prop}(h:sf m (Sum.elim N (Sum.elim N E))) :sf (qO m) (Sum.elim N E):=by
  obtain ⟨r,a,b⟩:=h
  rcases r with x | x | x
  · exact ⟨.inl x,xT a,b⟩
  · exact ⟨.inl x,wv a,b⟩
  · exact ⟨.inr x,ww a,b⟩
theorem sf.loop{σ Y:Type}{B:σ→Option (σ⊕Y)}(I:σ→Prop)(m:σ→Nat){Q:Y→Prop}{s:σ}(h0:I s)(h:∀ s,I s→sf (B s) (Sum.elim (fun s'=>I s'∧m s'<m s) Q)) :sf (cq B s) Q:=by
  obtain ⟨y,a,b⟩:=wt I m Q (fun s hs=>by
    obtain ⟨r,a,b⟩:=h s hs
    cases r with
    | inl x=>exact .inl ⟨x,a,b.1,b.2⟩
    | inr y=>exact .inr ⟨y,a,b⟩) s h0
  exact ⟨y,a,b⟩
theorem sf.map{α R:Type}{m:Option α}{g:α→R}{E:R→Prop}(h:sf m fun a=>E (g a)) :sf (Option.map g m) E:=by
  obtain ⟨r,a,b⟩:=h
  exact ⟨g r,by rw [a];rfl,b⟩
theorem sf.some{α:Type}{a:α}{Q:α→Prop}(h:Q a) :sf (some a) Q:=⟨a,rfl,h⟩
end Go.Plb
namespace Go.Plb.Seat
open Go Go.Plb
set_option linter.unusedSimpArgs false
set_option linter.unusedVariables false
set_option maxRecDepth 100000
def jz:ByteArray:=ByteArray.mk #[48,49,50,51,52,53,54,55,56,57,65,66,67,68,69,70]
def dg(w:Int)(j:Nat) :Nat:=((Int.fdiv w (2^(60-4*j)))%16).toNat
theorem zQ(w:Int)(j:Nat) :dg w j<16:=by unfold dg;omega
def xU(w:Int) :List Int:=(List.range 16).map fun j=>bQ jz (dg w j)
def bi(w:Int) :ByteArray:=sO (xU w)
theorem zl(x:Int) :n4 .and .u64 x (15:Int)=(x%16):=by
  have e:n4 .and .u64 x (15:Int)=IntKind.u64.wrap ((BitVec.ofInt 64 x &&& BitVec.ofInt 64 15).toNat:Int):=rfl
  rw [e,BitVec.toNat_and]
  have h15:(BitVec.ofInt 64 15).toNat=15:=by decide
  rw [h15]
  have hm:∀ n:Nat,n &&& 15=n%16:=fun n=>Nat.and_two_pow_sub_one_eq_mod n 4
  rw [hm]
  have hx:(BitVec.ofInt 64 x).toNat=(x%18446744073709551616).toNat:=by rw [BitVec.toNat_ofInt];rfl
  rw [hx]
  have:IntKind.u64.wrap (((x%18446744073709551616).toNat%16:Nat):Int)=(((x%18446744073709551616).toNat%16:Nat):Int):=by
    show ((((x%18446744073709551616).toNat%16:Nat):Int)%18446744073709551616)=_
    omega
  rw [this]
  omega
theorem yw(w:Int){j:Nat}(hj:j<16) :n4 .and .u64 (Int.fdiv w (2^(min (Int.toNat ((60:Int)-(((4*j):Nat):Int))) (IntKind.u64.bits)))) (15:Int)=((dg w j:Nat):Int):=by
  rw [zl]
  have e:min (Int.toNat ((60:Int)-(((4*j):Nat):Int))) (IntKind.u64.bits)=60-4*j:=by
    have:IntKind.u64.bits=64:=rfl
    rw [this];omega
  rw [e]
  unfold dg
  omega
theorem qR{α:Type}(val:Nat→α)(l:List α) :∀ (n:Nat),n≤l.length→List.take n (p9 (fun j=>j) val l n)=(List.range n).map val
  | 0,_=>rfl
  | n+1,h=>by
    have ih:=qR val l n (by omega)
    have hl:(p9 (fun j=>j) val l n).length=l.length:=lB
    simp only [p9]
    rw [List.take_add_one,List.take_set_of_le (Nat.le_refl _),ih,List.getElem?_set,if_pos rfl,if_pos (by omega),List.range_succ,List.map_append]
    rfl
theorem r7(w:Int) :fF w=some (.r0 (bi w)):=by
  unfold fF
  refine ei (bv rfl (bv (a:=p9 (fun j=>j) (fun j=>bQ jz (dg w j)) (List.replicate 16 (0:Int)) 16) (gi (fun j=>(j,p9 (fun j=>j) (fun j=>bQ jz (dg w j)) (List.replicate 16 (0:Int)) j)) 16 rfl (fun j hj=>?_) ?_) ?_))
  · simp only [cT,gT]
    have hl:(p9 (fun j=>j) (fun j=>bQ jz (dg w j)) (List.replicate 16 (0:Int)) j).length=16:=by rw [lB];rfl
    have hd:=zQ w j
    have ha:bf (bf 0 (nk j 1)) 0=j:=by cases j<;>simp [bf,nk]
    rw [yw w hj,ha,hl]
    refine gV (by simp;omega) (aH (by rw [cB];omega) (aH (by rw [cB];omega) (aH (by simp;omega) (aH ?_ (aH (by rw [eZ];omega) (aH (by rw [cm];omega) (aH (by rw [cB];omega) rfl)))))))
    rw [eZ]
    exact ⟨by omega,by show ((dg w j:Nat):Int)<((16:Nat):Int);omega⟩
  · simp only [cT,gT]
    exact jy (by simp) rfl
  · simp only [jS]
    have hl:(p9 (fun j=>j) (fun j=>bQ jz (dg w j)) (List.replicate 16 (0:Int)) 16).length=16:=by rw [lB];rfl
    rw [hl]
    refine aH (by decide) (aH (by decide) (aH (by decide) (aH (by decide) ?_)))
    rw [qR _ _ 16 (by decide)]
    rfl
theorem xV(w:Int) :ah prog d8 [] [.int .u64 w] ⟨.str (bi w),[]⟩:=lA w (r7 w)
end Go.Plb.Seat
namespace Go.Plb.Seat
open Go Go.Plb Go.Proofs Go.RowKit
set_option maxRecDepth 100000
set_option linter.unusedSimpArgs false
set_option linter.unusedVariables false
theorem na(s:ByteArray)(pos:Nat)(h:pos<s.size) :1≤(Utf8.decode s pos).2:=by
  by_cases ha:(s[pos]'h).toNat<128
  · rw [decode_ascii s pos h ha]
    exact Nat.le_refl _
  · exact (decode_high s pos h (by omega)).2
theorem uI(n:Int)(w:World)(hr:b9 w) :Calls prog 29 #[.int .u64 n] w fun e w'=>e=.returned (.string (bi n))∧Below w.heap.size w w':=by
  refine ((xV n).calls w hr (us:=[.int .u64 n]) (.cons _ _ _ _ (.int _ _) .nil)).mono ?_
  rintro e w' ⟨u,ρ',rfl,hb,hu⟩
  cases hu
  exact ⟨rfl,hb⟩
def yg(r:Int) :Nat:=if 48≤r∧r≤57 then (r-48).toNat else if 65≤r∧r≤70 then (r-55).toNat else 16
def yZ(acc:Int)(r:Int) :Int:=bits .or .u64 (IntKind.u64.wrap (acc*16)) (IntKind.u64.wrap (bits .and .i64 (yg r:Int) 15))
def gj(s:ByteArray) :Nat→Nat→Int→Int
  | 0,_,acc=>acc
  | f+1,pos,acc=>if pos<s.size then gj s f (pos+(Utf8.decode s pos).2) (yZ acc (Utf8.decode s pos).1) else acc
def cJ(s:ByteArray) :Bool:=decide (s.size=16)&&decide (bi (gj s s.size 0 0)=s)
def e7(s:ByteArray) :Int:=bif cJ s then gj s s.size 0 0 else 0
def gk(s:ByteArray) :Int:=bif cJ s then 0 else 4
theorem zm(r:Int) :yg r≤16:=by unfold yg;split<;>(try split)<;>omega
theorem xW{n:Nat}(h:n<16) :(bQ jz n=if n<10 then (48+n:Int) else (55+n:Int)):=by
  rcases n with _ | _ | _ | _ | _ | _ | _ | _ | _ | _ | _ | _ | _ | _ | _ | _ | n
  all_goals first | rfl | omega
theorem yx{n:Nat}(h:n<16)(r:Int) :bQ jz n=r↔n=yg r:=by
  rw [xW h]
  unfold yg
  split<;>split<;>(try split)<;>omega
theorem xX{n:Nat}(h:n<16) :∃ b:UInt8,(⟨#[48,49,50,51,52,53,54,55,56,57,65,66,67,68,69,70]⟩:ByteArray)[n]? = some b∧(b.toNat:Int)=bQ jz n:=by
  have:∀ n:Fin 16,∃ b:UInt8,(⟨#[48,49,50,51,52,53,54,55,56,57,65,66,67,68,69,70]⟩:ByteArray)[n.val]? = some b∧(b.toNat:Int)=bQ jz n.val:=by
    intro n
    rcases n with ⟨_ | _ | _ | _ | _ | _ | _ | _ | _ | _ | _ | _ | _ | _ | _ | _ | n,h⟩
    all_goals first | exact ⟨_,rfl,rfl⟩ | omega
  exact this ⟨n,h⟩
theorem yy(n:Nat)(h:n<16)(W:World) :(Instr.index 9 (.string ⟨#[48,49,50,51,52,53,54,55,56,57,65,66,67,68,69,70]⟩) (.int .i64 n)).run prog W=.ok (.int .u8 (bQ jz n)) W:=by
  have u9:prog.underlying 9=some .string:=by kernel_rfl
  obtain ⟨b,h1,h2⟩:=xX h
  have ha:(asIntOf (.int .i64 n)).run prog W=.ok (.i64,(n:Int)) W:=rfl
  unfold Instr.index
  simp only [Sem.run_bind,ha,Result.andThen_ok,run_underlying u9]
  rw [if_pos (Int.natCast_nonneg n),Int.toNat_natCast,h1,←h2]
  rfl
theorem wy(s:ByteArray) :∀ (f pos:Nat) (acc:Int),¬ pos<s.size→gj s f pos acc=acc
  | 0,_,_,_=>rfl
  | f+1,pos,acc,h=>by simp only [gj,h,if_false]
theorem toList_inj{a b:ByteArray}(h:a.toList=b.toList) :a=b:=by
  have ha:=Go.Lib.toList_data a
  have hb:=Go.Lib.toList_data b
  rw [h] at ha
  have:a.data.toList=b.data.toList:=ha.symm.trans hb
  cases a;cases b
  simp only [ByteArray.mk.injEq]
  exact Array.toList_inj.1 this
set_option maxHeartbeats 2000000 in
theorem oZ (s : ByteArray) (hs : s.size ≤ 1000000000) (w : World) (hR : Hid (b9 w)) : Calls prog fC #[.string s] w fun e w' => e = .returned (.tuple #[.int .u64 (e7 s), .int .i64 (gk s)]) ∧ Below w.heap.size w w' := by
  go_enter Tryd.func26, Tryd.ntmps26
  go_wp2
  go_loopw [4] (fun t wr => ∃ (pos fuel : Nat) (acc : Int), t = .int .u64 acc ∧ wr.heap[w.heap.size]? = some (.stringIter s pos) ∧ Below w.heap.size w wr ∧ gj s fuel pos acc = gj s s.size 0 0 ∧ s.size ≤ pos + fuel) (fun _ wr => s.size - wr.iterPos w.heap.size)
  case atStart =>
    exact ⟨0, s.size, 0, rfl, World.iter_heap w s 0, (Below.refl _ w).alloc (Nat.le_refl _) _, rfl, by omega⟩
  case round =>
    obtain ⟨pos, fuel, acc, rfl, hit, hbw, hacc, hfu⟩ := hrel
    by_cases hp : pos < s.size
    · have hnx : ∀ ty, (Instr.next (.pointer (some ⟨w.heap.size, 0, none⟩)) true ty).run prog wr = _ := fun ty => Lib.run_next_any_at wr w.heap.size s pos ty hit hp
      obtain ⟨r, hr⟩ : ∃ r : Nat, (Utf8.decode s pos).1 = r := ⟨_, rfl⟩
      obtain ⟨wd, hwd⟩ : ∃ wd : Nat, (Utf8.decode s pos).2 = wd := ⟨_, rfl⟩
      rw [hr, hwd] at hnx
      have hit2 := Lib.iterAt_heap wr w.heap.size s pos (pos + wd) hit
      have hbw2 := Lib.below_iterAt hbw (k := w.heap.size) (Nat.le_refl _) s (pos + wd)
      obtain ⟨W1, hW1⟩ : ∃ W1, wr.iterAt w.heap.size s (pos + wd) = W1 := ⟨_, rfl⟩
      rw [hW1] at hnx hit2 hbw2
      go_wp2
      go_loopw [7] (fun t W => W = W1 ∧ ∃ n : Nat, t = .int .i64 n ∧ n ≤ yg r) (fun t _ => 16 - (intOf t).toNat)
      case atStart => exact ⟨rfl, 0, rfl, Nat.zero_le _⟩
      case round =>
        obtain ⟨hWW, n, rfl, hn⟩ := hrel
        replace hWW := hWW.symm
        subst hWW
        have hd := zm r
        have hstep : n = yg r → ∃ (pos' fuel' : Nat) (acc' : Int), Value.int .u64 (bits .or .u64 (IntKind.u64.wrap (acc * 16)) (IntKind.u64.wrap (bits .and .i64 (n : Int) 15))) = .int .u64 acc' ∧
            W1.heap[w.heap.size]? = some (.stringIter s pos') ∧ Below w.heap.size w W1 ∧ gj s fuel' pos' acc' = gj s s.size 0 0 ∧ s.size ≤ pos' + fuel' := fun e => by
          obtain ⟨f, rfl⟩ : ∃ f, fuel = f + 1 := ⟨fuel - 1, by omega⟩
          have hw1 := na s pos hp
          refine ⟨pos + wd, f, yZ acc r, by rw [e]; rfl, hit2, hbw2, ?_, by omega⟩
          rw [← hacc]
          simp only [gj, hp, if_true, hr, hwd]
        have hmeas : s.size - W1.iterPos w.heap.size < s.size - wr.iterPos w.heap.size := by
          have hw1 := na s pos hp
          simp only [World.iterPos, hit, hit2]
          omega
        have HS := Lib.hid hstep
        clear hstep
        by_cases h16 : n < 16
        · have hix := yy n h16
          have hdi := Lib.hid (yx h16 r)
          have hb : 0 ≤ bQ jz n ∧ bQ jz n < 256 := by rw [xW h16]; split <;> omega
          have hwr : wrap32 (bQ jz n) = bQ jz n := by simp only [wrap32]; omega
          go_wp2
          · have ht : (bQ jz n != (r : Int)) = true := by assumption
            have hne : ¬ n = yg r := fun c => by
              have := hdi.out.2 c
              rw [this] at ht
              simp at ht
            exact ⟨⟨trivial, n + 1, by go_num, by omega⟩, by simp [intOf]; omega⟩
          · have ht : (bQ jz n != (r : Int)) = false := by assumption
            have he : n = yg r := hdi.out.1 (by simpa using ht)
            exact ⟨HS.out he, hmeas⟩
        · have h16' : ¬ ((n : Int) < 16) := by omega
          have he : Hid (n = yg r) := Lib.hid (by omega)
          go_wp2
          exact ⟨HS.out he.out, hmeas⟩
    · have hnx : ∀ ty, (Instr.next (.pointer (some ⟨w.heap.size, 0, none⟩)) true ty).run prog wr = _ := fun ty => Lib.run_next_end_at wr w.heap.size s pos ty hit hp
      have hR2 : Hid (b9 wr) := Lib.hid (hR.out.below hbw (Nat.le_refl _))
      go_wp2_with (go_at_call 29; refine (uI _ _ hR2.out).mono ?_; rintro e W1 ⟨rfl, hb1⟩)
      all_goals clear hnx
      all_goals have hacc' : acc = gj s s.size 0 0 := (wy s fuel pos acc hp).symm.trans hacc
      · have h2 : (!(bi acc).toList == s.toList) = true := by assumption
        have ho : cJ s = false := by
          unfold cJ
          have : ¬ bi (gj s s.size 0 0) = s := fun c => by
            rw [← hacc'] at c
            rw [c] at h2
            simp at h2
          rw [decide_eq_false this, Bool.and_false]
        have hW : e7 s = 0 := by rw [e7, ho]; rfl
        have hE : gk s = 4 := by rw [gk, ho]; rfl
        go_ret2
        exact ⟨by rw [hW, hE]; rfl, hbw.trans (hb1.mono hbw.size)⟩
      · have h1 : (s.size : Int) = 16 := by assumption
        have h2 : (!(bi acc).toList == s.toList) = false := by assumption
        have ho : cJ s = true := by
          unfold cJ
          have h3 : bi (gj s s.size 0 0) = s := by
            rw [← hacc']
            exact toList_inj (by simpa using h2)
          rw [decide_eq_true h3, decide_eq_true (show s.size = 16 by omega)]; rfl
        have hW : e7 s = acc := by rw [e7, ho, hacc']; rfl
        have hE : gk s = 0 := by rw [gk, ho]; rfl
        go_ret2
        exact ⟨by rw [hW, hE]; rfl, hbw.trans (hb1.mono hbw.size)⟩
      · have h1 : ¬ (s.size : Int) = 16 := by assumption
        have ho : cJ s = false := by
          unfold cJ
          rw [decide_eq_false (show ¬ s.size = 16 by omega)]; rfl
        have hW : e7 s = 0 := by rw [e7, ho]; rfl
        have hE : gk s = 4 := by rw [gk, ho]; rfl
        go_ret2
        exact ⟨by rw [hW, hE]; rfl, hbw⟩
theorem zn(s:ByteArray)(hs:s.size≤1000000000) :ah prog fC [] [.str s] ⟨.tup [.int .u64 (e7 s),.int .i64 (gk s)],[]⟩:=by
  refine aR ⟨FN fC,by kernel_rfl,by kernel_rfl⟩ fun ρ w us hN hv=>?_
  cases hv with | cons _ u _ _ h1 h2 =>
  cases h2;cases h1
  refine (oZ s hs w (Lib.hid hN.romOk)).mono ?_
  rintro e w' ⟨rfl,hb⟩
  exact ⟨_,rfl,hb,.tup _ _ (.cons _ _ _ _ (.int _ _) (.cons _ _ _ _ (.int _ _) .nil))⟩
noncomputable def xY:aK:=dA fC (.cons .str .nil) fun t=>[⟨⟨.tup [.int .u64 (e7 t.1),.int .i64 (gk t.1)],[]⟩,[m8 t.1.size]⟩]
theorem wz:aW prog xY:=bo fun t=>bR (fun h=>zn t.1 (Nat.le_of_ble_eq_true h)) cy
end Go.Plb.Seat
namespace Go.Plb.Seat
open Go Go.Plb Go.Proofs Go.RowKit Go.Shelf
set_option maxRecDepth 100000
set_option linter.unusedSimpArgs false
set_option linter.unusedVariables false
theorem yz:(5,AV.gvar (ap.map fun z=>Value.int .u64 z).toArray)∈(Rom.tab:List (Nat×AV)):=by simp [Rom.tab]
theorem yA:(3,AV.iptr .free (.vs [.iface 147 .any]) 1 0 0)∈(Rom.tab:List (Nat×AV)):=by simp [Rom.tab]
theorem yB:(4,AV.iptr .free (.vs [.iface 147 .any]) 1 0 0)∈(Rom.tab:List (Nat×AV)):=by simp [Rom.tab]
theorem zo{w : World}(h : b9 w) : Lib.TabIs prog w "internal/strconv.uint64pow10" .u64 Lib.pow10Tab := by
  have h1:=h _ yz
  cases h1 with | gvar _ _ t fr ha hb hh =>
  have hg : prog.globalNamed "internal/strconv.uint64pow10" = some 5 := by kernel_rfl
  have e:ap=Lib.pow10Tab:=by decide
  unfold Lib.TabIs World.var?
  rw [hg,←e]
  simp [hh]
theorem xZ{w:World}{g:Nat}(h:VR aa.none_ w (.iptr .free (.vs [.iface 147 .any]) 1 0 0) (.pointer (some ⟨g,0,none⟩))) :∃ v,w.cell? ⟨g,0,none⟩=some (.iface 147 v):=by
  generalize hu:Value.pointer (some ⟨g,0,none⟩)=u at h
  cases h with | iptr _ _ _ _ _ bl o u' ha hb hc hv hr hk hg =>
  simp only [Value.pointer.injEq,Option.some.injEq,Addr.mk.injEq] at hu
  obtain ⟨rfl,ho,_⟩:=hu
  have ho:o=0:=by omega
  subst ho
  have h1:=hc 0 _ rfl
  have h2:=hv 0 _ rfl
  generalize u' 0=x at h1 h2
  cases h2 with | iface _ _ v hv'=>exact ⟨v,by simpa using h1⟩
def pZ:Nat→Nat→List UInt8
  | 0,_=>[]
  | f+1,n=>if n<10 then [UInt8.ofNat (48+n)] else pZ f (n/10)++[UInt8.ofNat (48+n%10)]
def tE(n:Int) :List UInt8:=if n<0 then 45::pZ 20 n.natAbs else pZ 20 n.toNat
def ca(n:Int) :ByteArray:=⟨(tE n).toArray⟩
theorem r8:∀ (f n:Nat),n<10^(f+1)→pZ (f+1) n=Lib.decDigits n
  | 0,n,h=>by
    have hn:n<10:=by simpa using h
    rw [Lib.decDigits]
    simp [pZ,hn]
  | f+1,n,h=>by
    rw [Lib.decDigits]
    rw [pZ]
    split
    · rfl
    · rw [r8 f (n/10) (by rw [Nat.pow_succ] at h;omega)]
theorem x3{n:Int}(h1 : -9223372036854775808≤n)(h2:n≤9223372036854775807) :tE n=Lib.itoa n:=by
  have hp:10^20=100000000000000000000:=by decide
  unfold tE Lib.itoa
  split
  · rw [r8 19 _ (by rw [hp];omega)]
  · rw [r8 19 _ (by rw [hp];omega)]
theorem o0(n:Int)(h1 : -9223372036854775808≤n)(h2:n≤9223372036854775807)(w:World)(hr:b9 w) :Calls prog dp #[.int .i64 n] w fun e w'=>e=.returned (.string (ca n))∧Below w.heap.size w w':=by
  refine (Tryd.strconv_Itoa n h1 h2 w (zo hr)).mono ?_
  rintro e w' ⟨rfl,k,os,rfl⟩
  rw [ca,x3 h1 h2]
  refine ⟨rfl,rfl,rfl,rfl,by simp [Go.Sort.grow],fun i hi=>?_⟩
  show ((w.drewN k).heap++os)[i]? = _
  rw [Array.getElem?_append_left (by simpa using hi)]
  rfl
theorem zp(n:Int)(hk:lS .i64 n=true) :ah prog dp [] [.int .i64 n] ⟨.str (ca n),[]⟩:=by
  rw [cB] at hk
  refine aR ⟨FN dp,by kernel_rfl,by kernel_rfl⟩ fun ρ w us hN hv=>?_
  cases hv with | cons _ u _ _ h1 h2 =>
  cases h2;cases h1
  refine (o0 n hk.1 hk.2 w hN.romOk).mono ?_
  rintro e w' ⟨rfl,hb⟩
  exact ⟨_,rfl,hb,.str _⟩
noncomputable def x4:aK:=dA dp (.cons (.int .i64) .nil) fun t=>[⟨⟨.str (ca t.1),[]⟩,[lS .i64 t.1]⟩]
theorem wA:aW prog x4:=bo fun t=>bR (fun h=>zp t.1 h) cy
def o5(s:ByteArray) :Int:=match Lib.atoiAll s.data.toList with
  | .ok v=>if ca v=s then v else -1
  | _=>-1
theorem yC{a b:ByteArray}(h:(!a.toList==b.toList)=true) :a≠b:=fun c=>by subst c;simp at h
set_option maxHeartbeats 2000000 in
theorem r9 (s : ByteArray) (hs : s.size ≤ 1000000000) (w : World) (hR : Hid (b9 w)) : Calls prog cV #[.string s] w fun e w' => e = .returned (.int .i64 (o5 s)) ∧ Below w.heap.size w w' := by
  cases h : Lib.atoiAll s.data.toList with
  | ok v =>
    have hv := Lib.atoiAll_bounds h
    have cA := Tryd.strconv_Atoi_ok s (by omega) v h w
    go_enter Tryd.func54, Tryd.ntmps54
    go_wp2_with (go_at_call 69; refine cA.mono ?_; rintro e W1 ⟨rfl, hw1⟩; refine Hid.out ?_)
    refine Lib.hid ?_
    have hb1 : Below w.heap.size w W1 := by
      rcases hw1 with rfl | ⟨t, rfl⟩
      · exact Below.refl _ _
      · exact Go.Lib.bytesWorld_below _ _ _
    have hR1 : Hid (b9 W1) := Lib.hid (hR.out.below hb1 (Nat.le_refl _))
    clear hw1 cA
    go_wp2_with (go_at_call 55; refine (o0 v hv.1 hv.2 _ hR1.out).mono ?_; rintro e W2 ⟨rfl, hb2⟩)
    · have h2 : (!(ca v).toList == s.toList) = true := by assumption
      have hn : o5 s = -1 := by simp only [o5, h]; rw [if_neg (yC h2)]
      go_ret
      exact ⟨by rw [hn]; rfl, hb1.trans (hb2.mono hb1.size)⟩
    · have h2 : (!(ca v).toList == s.toList) = false := by assumption
      have hn : o5 s = v := by simp only [o5, h]; rw [if_pos (toList_inj (by simpa using h2))]
      go_ret
      exact ⟨by rw [hn]; rfl, hb1.trans (hb2.mono hb1.size)⟩
  | range =>
    obtain ⟨ev, hev⟩ := xZ (hR.out _ yB)
    have hn : o5 s = -1 := by simp only [o5, h]
    have cA := Tryd.strconv_Atoi_range s (by omega) h (.iface 147 ev) w hev (.inr ⟨_, _, rfl⟩)
    go_enter Tryd.func54, Tryd.ntmps54
    go_wp2_with (go_at_call 69; refine cA.mono ?_; rintro e W1 ⟨N, rfl, _, _, hb⟩)
    go_ret
    exact ⟨by rw [hn]; rfl, hb⟩
  | _ =>
    obtain ⟨ev, hev⟩ := xZ (hR.out _ yA)
    have hn : o5 s = -1 := by simp only [o5, h]
    have cA := Tryd.strconv_Atoi_syntax s (by omega) h (.iface 147 ev) w hev (.inr ⟨_, _, rfl⟩)
    go_enter Tryd.func54, Tryd.ntmps54
    go_wp2_with (go_at_call 69; refine cA.mono ?_; rintro e W1 ⟨N, rfl, _, _, hb⟩)
    go_ret
    exact ⟨by rw [hn]; rfl, hb⟩
theorem x5(s:ByteArray)(hs:s.size≤1000000000) :ah prog cV [] [.str s] ⟨.int .i64 (o5 s),[]⟩:=by
  refine aR ⟨FN cV,by kernel_rfl,by kernel_rfl⟩ fun ρ w us hN hv=>?_
  cases hv with | cons _ u _ _ h1 h2 =>
  cases h2;cases h1
  refine (r9 s hs w (Lib.hid hN.romOk)).mono ?_
  rintro e w' ⟨rfl,hb⟩
  exact ⟨_,rfl,hb,.int _ _⟩
noncomputable def tF:aK:=dA cV (.cons .str .nil) fun t=>[⟨⟨.int .i64 (o5 t.1),[]⟩,[m8 t.1.size]⟩]
theorem tG:aW prog tF:=bo fun t=>bR (fun h=>x5 t.1 (Nat.le_of_ble_eq_true h)) cy
def iS:List ByteArray→List UInt8
  | []=>[]
  | [x]=>x.data.toList
  | x::y::r=>x.data.toList++32::iS (y::r)
def iT(l:List ByteArray) :ByteArray:=⟨(iS l).toArray⟩
theorem o6:∀ l:List ByteArray,iS l=Lib.join (l.map (·.data.toList)) [32]
  | []=>rfl
  | [x]=>by rw [List.map_cons,List.map_nil,Lib.join_one];rfl
  | x::y::r=>by
    rw [List.map_cons,Lib.join_cons,iS,o6 (y::r),List.map_cons,Lib.join_cons]
    simp [Lib.joinTail]
theorem zq(l:Lv)(xs:List ByteArray)(h1:(iT xs).size≤1000000000)(h2:xs.length≤1000000000) :ah prog eX [] [.imm l (.ss xs) 1 1 0 xs.length,.str ⟨#[32]⟩] ⟨.str (iT xs),[]⟩:=by
  refine aR ⟨FN eX,by kernel_rfl,by kernel_rfl⟩ fun ρ w us hN hv=>?_
  cases hv with | cons _ u _ _ v1 v2 =>
  cases v2 with | cons _ u2 _ _ v3 v4 =>
  cases v4;cases v3
  have hz:(iS xs).length≤1000000000:=by
    have:(iT xs).size=(iS xs).length:=by simp [iT,ByteArray.size]
    omega
  generalize hn:xs.length=n at v1
  cases v1 with
  | imm _ _ _ _ _ _ cap bl o u' ha hb hc hv' hl hr hk hg =>
    have:=Tryd.strings_Join bl (o+0*1) cap xs ⟨#[32]⟩ w (fun j x hj=>by
      have hcell:(ae.ss xs).cell? j=some (.str x):=by show (xs[j]?).map AV.str=_;rw [hj];rfl
      have q1:=hc j _ hcell
      have q2:=hv' j _ hcell
      cases hu:u' j<;>rw [hu] at q2<;>cases q2
      rw [hu] at q1
      simpa using q1) hb (by omega) (by omega) (by
        rw [←o6];omega)
    rw [hn] at this
    refine this.mono ?_
    rintro e w' ⟨rfl,hb⟩
    refine ⟨_,rfl,hb,?_⟩
    rw [←o6]
    exact .str _
  | immEnd _ _ _ _ _ cap a hr hk hg =>
    have hx:xs=[]:=List.length_eq_zero_iff.1 hn
    subst hx
    refine (Tryd.strings_Join_none a cap ⟨#[32]⟩ w).mono ?_
    rintro e w' ⟨rfl,rfl⟩
    exact ⟨_,rfl,Below.refl _ _,.str _⟩
def zr(z:ByteArray) :Bool:=decide (z=⟨#[32]⟩)
theorem yD{z:ByteArray}(h:zr z=true) :z=⟨#[32]⟩:=of_decide_eq_true h
noncomputable def x6:aK:=dA eX (.cons .ss (.cons .str .nil)) fun t=>[⟨⟨.str (iT t.1.2),[]⟩,[zr t.2.1,m8 (iT t.1.2).size,m8 t.1.2.length]⟩]
theorem wB:aW prog x6:=bo fun t a ha ho=>by
  simp only [List.mem_singleton] at ha
  subst ha
  obtain ⟨⟨l,xs⟩,z,_⟩:=t
  have hz:=yD ho.1
  subst hz
  exact zq l xs (Nat.le_of_ble_eq_true ho.2.1) (Nat.le_of_ble_eq_true ho.2.2.1)
end Go.Plb.Seat
namespace Go.Plb.Seat
open Go Go.Plb Go.Proofs Go.RowKit Go.Shelf
set_option maxRecDepth 100000
set_option linter.unusedSimpArgs false
set_option linter.unusedVariables false
attribute [local go_sem] Oper.semAt_some
theorem nt(s sep:ByteArray)(w:World) :Calls prog 49 #[.string s,.string sep,.int .i64 0] w fun e w' =>
    e=.returned (.func (.func 63) #[] #[.pointer (some ⟨w.heap.size+1,0,none⟩),.pointer (some ⟨w.heap.size,0,none⟩),.pointer (some ⟨w.heap.size+2,0,none⟩)]) ∧
    w'=((w.alloc (.cells #[.string s] 9)).alloc (.cells #[.string sep] 9)).alloc (.cells #[.int .i64 0] 3):=by
  have hmf:∀ (fn:Fn) (first cap:Array Value) (w:World),(Instr.makeFunc fn first cap).run prog w=.ok (.func fn first cap) w:=fun _ _ _ _=>rfl
  go_enter Tryd.func49,Tryd.ntmps49
  go_wp2
  go_ret
  exact ⟨rfl,rfl⟩
theorem o7(s sep:ByteArray)(w:World) :Calls prog 25 #[.string s,.string sep] w fun e w' =>
    e=.returned (.func (.func 63) #[] #[.pointer (some ⟨w.heap.size+1,0,none⟩),.pointer (some ⟨w.heap.size,0,none⟩),.pointer (some ⟨w.heap.size+2,0,none⟩)]) ∧
    w'=((w.alloc (.cells #[.string s] 9)).alloc (.cells #[.string sep] 9)).alloc (.cells #[.int .i64 0] 3):=by
  go_enter Tryd.func25,Tryd.ntmps25
  go_wp2_with (go_at_call 49;refine (nt s sep _).mono ?_;rintro e w' ⟨rfl,rfl⟩)
  go_ret
  exact ⟨rfl,rfl⟩
theorem kz{g:Operand}{ps:Array Tmp}{assign body:Code}{Q:Exit→Act→World→Prop}{a:Act}{w:World}{gf m:Nat}{lb:Array Value}(hg:a.eval g=.func (.func gf) #[] lb)(eg:∀ args w,(callFunc gf args).run prog w=.ok (.enter gf args) w) 
    (h : ∀ (fn : FuncId) (rec : LoopState → Option Code → Loop), (∀ st pe, (rec st pe).state = st ∧ (rec st pe).pending = pe) →
      (∀ (m':Nat) (args:Array Value) (W:World) (R:Ending→World→Prop),W.heap[w.heap.size+1]? = some (.loop (rec .ready none))→args.size=ps.size →
        assign.wpIn (Fence.wide.inRound (w.heap.size+1)) m' prog (Exit.then (fun a₁ w₁=>w₁.heap[w.heap.size+1]? = some (.loop (rec .ready none))∧body.wpIn (Fence.wide.inRound (w.heap.size+1)) m' prog
            (fun x _ w'=>match x with
              | .normal=>w'.heap[w.heap.size+1]? = some (.loop (rec .busy none))∧R (.returned (.bool true)) (w'.putObj (w.heap.size+1) (.loop (rec .ready none)))
              | .ret=>w'.heap[w.heap.size+1]? = some (.loop (rec .busy none))∧R (.returned (.bool false)) (w'.putObj (w.heap.size+1) (.loop (rec .done (some .ret))))
              | _=>False) a₁ (w₁.putObj (w.heap.size+1) (.loop (rec .busy none)))) (fun _ _ _=>False))
          { tmps:=(ps.zip args).foldl (fun t (p,v)=>t.setIfInBounds p v) a.tmps,defers:=[] } W →
        YieldAt Fence.wide m' prog (w.heap.size+1) args W R) →
      CallsIn Fence.wide m prog gf (#[.func (.yield (w.heap.size+1)) #[] #[]]++lb) ((w.alloc (.deferred (some []))).alloc (.loop (rec .ready none))) (fun e W'=>(∃ v,e=.returned v) ∧
        ((W'.heap[w.heap.size+1]? = some (.loop (rec .ready none))∧Q .normal { a with defers:={ target:=.collected w.heap.size,args:=#[] }::a.defers } (W'.putObj (w.heap.size+1) (.loop (rec .exhausted none)))) ∨
         (∃ c,W'.heap[w.heap.size+1]? = some (.loop (rec .done (some c)))∧c.wpIn Fence.wide (m+1) prog Q { a with defers:={ target:=.collected w.heap.size,args:=#[] }::a.defers } (W'.putObj (w.heap.size+1) (.loop (rec .exhausted (some c)))))))) :
    (Code.rangeFunc g ps assign body).wpIn Fence.wide (m+1) prog Q a w:=by
  refine wpIn_rangeFunc ?_
  intro fn hfn
  obtain ⟨rec,hrec⟩:∃ rec:LoopState→Option Code→Loop,rec=fun st pe=>{ state:=st,pending:=pe,fn,tmps:=a.tmps,params:=ps,assign,body,defers:=w.heap.size }:=⟨_,rfl⟩
  have key:=h fn rec (by intro st pe;rw [hrec];exact ⟨rfl,rfl⟩) (fun m' args W R hl hs hr=>by
    have hy:=run_yield (P:=prog) (args:=args) hl (by rw [hrec];exact hs)
    rw [hrec] at hy
    refine ⟨fn,_,assign,body,hy,roundIn_of_wpIn hfn (wpIn_mono hr ?_)⟩
    rintro e a1 w1 hp
    cases e<;>first | exact hp.elim | skip
    obtain ⟨h1,h2⟩:=hp
    refine ⟨_,run_beginRound h1 (by rw [hrec]),?_⟩
    have hb:({ rec .ready none with state:=.busy }:Loop)=rec .busy none:=by rw [hrec]
    rw [hb]
    refine wpIn_mono h2 ?_
    rintro e a2 w2 hp
    have hput:∀ jump,(Instr.endRound (w.heap.size+1) jump).run prog w2=_:=fun jump=>run_endRound (P:=prog) jump (r:=rec .busy none) (by cases e<;>first | exact hp.1 | exact hp.elim)
    cases e with
    | normal=>exact ⟨_,_,hput none,by have:=hp.2;rw [hrec] at this ⊢;exact this⟩
    | ret=>exact ⟨_,_,hput (some .ret),by have:=hp.2;rw [hrec] at this ⊢;exact this⟩
    | exit id=>exact hp.elim
    | goto t=>exact hp.elim
    | panic c=>exact hp.elim
    | outgrown=>exact hp.elim)
  refine ⟨w.heap.size+1,[{ target:=.collected w.heap.size,args:=#[] }],(w.alloc (.deferred (some []))).alloc (.loop (rec .ready none)),{ target:=.fn (.func gf) lb,args:=#[.func (.yield (w.heap.size+1)) #[] #[]] },(w.alloc (.deferred (some []))).alloc (.loop (rec .ready none)),gf,
    #[.func (.yield (w.heap.size+1)) #[] #[]]++lb,(w.alloc (.deferred (some []))).alloc (.loop (rec .ready none)),?_,?_,fun _ _=>trivial,?_,fun _=>by omega,?_⟩
  · rw [hrec];exact run_enterLoop_outer _ _ _ _ _
  · simp only [resolve,hg]
    simp [go_sem]
  · simp [invoke,go_sem,eg]
  · refine key.mono ?_
    rintro e W2 ⟨⟨v,rfl⟩,⟨hl,hq⟩ | ⟨c,hl,hq⟩⟩
    · exact ⟨none,W2.putObj (w.heap.size+1) (.loop (rec .exhausted none)),by have:=run_endLoop (P:=prog) hl (by rw [hrec];simp);rw [hrec] at this ⊢;exact this,hq⟩
    · exact ⟨some c,W2.putObj (w.heap.size+1) (.loop (rec .exhausted (some c))),by have:=run_endLoop (P:=prog) hl (by rw [hrec];simp);rw [hrec] at this ⊢;exact this,hq⟩
theorem nf{P:Program}{t:TypeId}{W:World}{a:Addr}{v:Value}(h:mK P t=some false)(hc:W.cell? a=some v) :(loadVar t a).run P W=.ok v W:=by
  unfold loadVar
  rw [Sem.run_bind,eK h]
  simp [Result.andThen,hc]
theorem jT{P:Program}{fn:Func}{p q:Tmp}{t u:TypeId}(h:fn.results = #[.cell p t,.cell q u]){tmps:Array Value}{W:World}{a b:Addr}{v v':Value}(hp:tmps.getD p undef=.pointer (some a))(hq:tmps.getD q undef=.pointer (some b)) 
    (ht:mK P t=some false) (hu:mK P u=some false) (hc:W.cell? a=some v) (hd:W.cell? b=some v'):(results fn tmps).run P W=.ok (.tuple #[v,v']) W:=by
  have h1:=nf ht hc
  have h2:=nf hu hd
  rw [oL,h]
  simp [ml,hp,hq,asAddr,Sem.run_bind,Result.andThen,h1,h2]
theorem cC{B:Nat}{a w:World}(h:Below B a w){r:Nat}(hr:B≤r)(o:Obj) :Below B a (w.putObj r o) :=
  ⟨h.os,h.tape,h.output,by simp only [World.putObj_size];exact h.size,fun k hk=>(World.putObj_heap_other (by omega)).trans (h.block k hk)⟩
theorem eH{W W':World}{base:Nat}{e:TypeId}{size:Nat}{v:Value}{n:Nat}{xs:List Value}(h:W.ownsRow base e size v n xs)(hb:∀ k,base≤k→k<W.heap.size→W'.heap[k]? = W.heap[k]?) :W'.ownsRow base e size v n xs:=by
  refine ⟨h.1,?_⟩
  rcases h.2 with q | ⟨g,cap,cur,h1,h2,h3,h4⟩
  · exact .inl q
  · exact .inr ⟨g,cap,cur,h1,h2,(hb g h2 (Array.getElem?_eq_some_iff.1 h3).1).trans h3,h4⟩
structure y3 (w:World) (rec:LoopState→Option Code→Loop) (pre:List Int) (W:World):Prop where
  r:Boxed W w.heap.size 22 (.slice none 0 0)
  e:Boxed W (w.heap.size+1) 24 (.int .i64 0)
  l:∃ v,Boxed W (w.heap.size+1+1) 22 v∧W.ownsRow (w.heap.size+8) 35 1 v pre.length (pre.map (Value.int .u64))
  d:W.heap[w.heap.size+6]? = some (.deferred (some []))
  o:W.heap[w.heap.size+6+1]? = some (.loop (rec .ready none))
  low:Below w.heap.size w W
theorem y3.set{w:World}{rec:LoopState→Option Code→Loop}{pre:List Int}{W:World}(h:y3 w rec pre W)(k:Nat)(h1:w.heap.size+3≤k)(h2:k<w.heap.size+6)(u:Value) :y3 w rec pre (W.setCell ⟨k,0,none⟩ u):=by
  have hk:∀ j,j≠k→(W.setCell ⟨k,0,none⟩ u).heap[j]? = W.heap[j]?:=fun j hj=>Below.heap_setCell _ _ _ _ hj
  obtain ⟨v,hv,ho⟩:=h.l
  exact ⟨(hk _ (by omega)).trans h.r,(hk _ (by omega)).trans h.e,⟨v,(hk _ (by omega)).trans hv,eH ho fun j hj _=>hk j (by omega)⟩,(hk _ (by omega)).trans h.d,(hk _ (by omega)).trans h.o,h.low.setCell (by show w.heap.size≤k;omega) _⟩
def uJ(W:World)(k:Nat) :Nat:=match W.cell? ⟨k,0,none⟩ with
  | some (.string r)=>r.size
  | _=>0
theorem qS{W:World}{k:Nat}{t:TypeId}{r:ByteArray}(h:Boxed W k t (.string r)) :uJ W k=r.size:=by
  unfold uJ
  rw [h.cell]
structure Ap (w:World) (rec:LoopState→Option Code→Loop) (W:World):Prop where
  r:Boxed W w.heap.size 22 (.slice none 0 0)
  e:Boxed W (w.heap.size+1) 24 (.int .i64 4)
  d:W.heap[w.heap.size+6]? = some (.deferred (some []))
  o:W.heap[w.heap.size+6+1]? = some (.loop (rec .done (some .ret)))
  low:Below w.heap.size w W
theorem sa(l:List UInt8)(c:UInt8) :Lib.indexByte l c<l.length∨l=[]:=by
  induction l with
  | nil=>exact .inr rfl
  | cons b l ih =>
    left
    unfold Lib.indexByte
    simp only [List.length_cons]
    split
    · omega
    · split
      · omega
      · rcases ih with h | rfl
        · omega
        · exact absurd rfl ‹¬ (Lib.indexByte [] c == -1)=true›
theorem zR{α:Type}(h:Array α)(a b c d e f g i:α)(k:Nat) :((((((((h.push a).push b).push c).push d).push e).push f).push g).push i)[h.size+k]? = #[a,b,c,d,e,f,g,i][k]?:=by
  have e1:((((((((h.push a).push b).push c).push d).push e).push f).push g).push i)=h ++ #[a,b,c,d,e,f,g,i]:=by
    apply Array.toList_inj.1
    simp
  rw [e1,Array.getElem?_append_right (Nat.le_add_right _ _),Nat.add_sub_cancel_left]
def sb:Nat→ByteArray→List Int→Option (List Int)
  | 0,_,_=>none
  | f+1,s,acc =>
    if Lib.indexByte s.data.toList 32<0 then (if cJ s=true then some (acc++[e7 s]) else none)
    else if cJ (s.extract 0 (Lib.indexByte s.data.toList 32).toNat)=true then sb f (s.extract ((Lib.indexByte s.data.toList 32).toNat+1) s.size) (acc++[e7 (s.extract 0 (Lib.indexByte s.data.toList 32).toNat)]) else none
def kA(s:ByteArray) :Option (List Int):=sb (s.size+1) s []
set_option maxHeartbeats 2000000 in
theorem ng (s : ByteArray) (hs : s.size ≤ 1000000000) (w : World) (hR : Hid (b9 w)) : Calls prog bS #[.string s] w fun e w' => Below w.heap.size w w' ∧
    ((∃ xs v, kA s = some xs ∧ e = .returned (.tuple #[v, .int .i64 0]) ∧ w'.ownsRow (w.heap.size + 8) 35 1 v xs.length (xs.map (Value.int .u64))) ∨ (kA s = none ∧ e = .returned (.tuple #[.slice none 0 0, .int .i64 4]))) := by
  refine (callsIn_wide (n := 6)).1 (callsIn_of_wp_marks Tryd.func9 rfl trivial ?_)
  simp only [Tryd.ntmps9, List.size_toArray, List.length_cons, List.length_nil, Nat.reduceAdd, Nat.reduceSub, Array.replicate_succ, Array.replicate_zero, List.push_toArray, List.append_toArray, List.nil_append, List.cons_append]
  gi_wp2_with (refine ⟨trivial, ?_⟩; gi_at_call 25; refine (callsIn_wide.2 (o7 s _ _)).mono ?_; rintro e w' ⟨rfl, rfl⟩)
  obtain ⟨w0, hw0⟩ : ∃ w0, (((((w.alloc (.cells #[.slice none 0 0] 22)).alloc (.cells #[.int .i64 0] 24)).alloc (.cells #[.slice none 0 0] 22)).alloc (.cells #[.string s] 9)).alloc (.cells #[.string ⟨#[32]⟩] 9)).alloc (.cells #[.int .i64 0] 3) = w0 := ⟨_, rfl⟩
  rw [hw0]
  have hsz : w0.heap.size = w.heap.size + 6 := by rw [← hw0]; simp
  refine kz (gf := 63) (m := 5) rfl (enters_of Tryd.func63 (by kernel_rfl) rfl) fun fn rec hrec hy => ?_
  rw [hsz] at hy ⊢
  have round : ∀ (pre : List Int) (x : ByteArray) (W : World), x.size ≤ 1000000000 → pre.length ≤ 1000000000 → y3 w rec pre W → YieldAt Fence.wide 4 prog (w.heap.size + 6 + 1) #[.string x] W (fun e W' =>
      (∀ k, w.heap.size + 3 ≤ k → k < w.heap.size + 6 → W'.heap[k]? = W.heap[k]?) ∧ ((cJ x = true ∧ e = .returned (.bool true) ∧ y3 w rec (pre ++ [e7 x]) W') ∨ (cJ x = false ∧ e = .returned (.bool false) ∧ Ap w rec W'))) := by
    intro pre x W hx hlen hS
    refine hy 4 _ W _ hS.o rfl ?_
    clear hy
    have cR := oZ x hx
    gi_wp2
    refine ⟨hS.o, ?_⟩
    obtain ⟨W1, hW1⟩ : ∃ W1, W.putObj (w.heap.size + 6 + 1) (.loop (rec .busy none)) = W1 := ⟨_, rfl⟩
    rw [hW1]
    have hlt : w.heap.size + 6 + 1 < W.heap.size := (Array.getElem?_eq_some_iff.1 hS.o).1
    have hs1 : W1.heap.size = W.heap.size := by rw [← hW1]; simp
    have hk1 : ∀ k, k ≠ w.heap.size + 6 + 1 → W1.heap[k]? = W.heap[k]? := fun k hk => by rw [← hW1]; exact World.putObj_heap_other hk
    have ho1 : W1.heap[w.heap.size + 6 + 1]? = some (.loop (rec .busy none)) := by rw [← hW1]; exact World.putObj_heap_same hlt
    have hb1 : Below w.heap.size w W1 := hS.low.trans (by rw [← hW1]; exact ⟨rfl, rfl, rfl, by simp, fun k hk => World.putObj_heap_other (by omega)⟩)
    have hr1 : Hid (b9 W1) := Lib.hid (hR.out.below hb1 (Nat.le_refl _))
    obtain ⟨v0, hv0, hown0⟩ := hS.l
    have hown1 : W1.ownsRow (w.heap.size + 8) 35 1 v0 pre.length (pre.map (Value.int .u64)) := by rw [← hW1]; exact ownsRow_putObj hown0 _ hS.o rfl
    obtain ⟨i0, hi, hz0, hz1, hz2⟩ := info_parts (show (prog.info? 35).map (fun i => (i.zero, i.size, i.bytes)) = some (some (.int .u64 0), 1, 8) by kernel_rfl)
    gi_wp2_with first
      | (refine ⟨trivial, ?_⟩; gi_at_call 26; refine (callsIn_wide.2 (cR _ hr1)).mono ?_; rintro e W2 ⟨rfl, hb2⟩
         have hkb : ∀ k, k < w.heap.size + 6 + 1 → W2.heap[k]? = W.heap[k]? := (fun k hk => (hb2.block k (by omega)).trans (hk1 k (by omega)))
         have hbr : Boxed W2 w.heap.size 22 (.slice none 0 0) := (hkb _ (by omega)).trans hS.r
         have hbe : Boxed W2 (w.heap.size + 1) 24 (.int .i64 0) := (hkb _ (by omega)).trans hS.e
         have hbl : Boxed W2 (w.heap.size + 1 + 1) 22 v0 := (hkb _ (by omega)).trans hv0
         have hbe2 : Boxed (W2.setCell ⟨w.heap.size, 0, none⟩ (.slice none 0 0)) (w.heap.size + 1) 24 (.int .i64 0) := (Below.heap_setCell _ _ _ _ (by first | (simp; done) | (simp; omega))).trans hbe
         have hcl := hbl.cell
         have hcr := hbr.cell
         have hfr := hbr.frozen
         have hce := hbe2.cell
         have hfe := hbe2.frozen
         have hown2 : W2.ownsRow (w.heap.size + 8) 35 1 v0 pre.length (pre.map (Value.int .u64)) := eH hown1 fun k _ hk => hb2.block k hk
         have ho2 := (hb2.block _ (by omega)).trans ho1)
      | (gi_at_builtin; refine wpListIn_append_own _ rfl _ _ 22 rfl (w.heap.size + 8) 35 i0 (.int .u64 0) 1 8 (by kernel_rfl) hi hz0 hz1 hz2 rfl (by decide) _ _ _ rfl (hown2.alloc _) ⟨W2.heap.size, 0, none⟩ 1 1 [.int .u64 (e7 x)] rfl rfl (cell_one_new _ _ _) (by simp [Value.oneCell']) (by unfold maxLen; omega) (by omega) (by have := hb2.size; simp; omega) ?_
         intro v' w3 hown3 hgrow _
         obtain ⟨g', cap', rfl⟩ := ownsRow_succ hown3
         have hsz2 := hb2.size
         have hb3 : Below (w.heap.size + 8) W2 w3 := ((Below.refl _ W2).alloc (by omega) _).grown (show (W2.alloc (.cells #[.int .u64 (e7 x)] 35)).grownBy w3 v0.ownBlock from hgrow) (by simp; omega) (fun j ej => by
           rcases hown2.2 with ⟨rfl, _⟩ | ⟨g, cap, cur, rfl, hb, _, _⟩
           · simp [Value.ownBlock] at ej
           · obtain rfl : g = j := by simpa [Value.ownBlock] using ej
             exact hb)
         have hbl3 : Boxed w3 (w.heap.size + 1 + 1) 22 v0 := (hb3.block _ (by omega)).trans hbl
         have hcl3 := hbl3.cell
         have hfl3 := hbl3.frozen)
    · have ho : cJ x = false := by
        cases q : cJ x with
        | false => rfl
        | true =>
          have h1 : (gk x != 0) = true := by assumption
          rw [gk, q] at h1
          exact absurd h1 (by decide)
      have hlow : Below w.heap.size w W2 := hb1.trans (hb2.mono (by omega))
      have hlt2 : w.heap.size + 6 + 1 < W2.heap.size := by have := hb2.size; omega
      have hd2 : W2.heap[w.heap.size + 6]? = some (.deferred (some [])) := (hkb _ (by omega)).trans hS.d
      refine ⟨?_, fun k h1 h2 => ?_, ho, ?_⟩
      · rw [Below.heap_setCell _ _ _ _ (by first | (simp; done) | (simp; omega)), Below.heap_setCell _ _ _ _ (by first | (simp; done) | (simp; omega))]; exact ho2
      · rw [World.putObj_heap_other (by omega), Below.heap_setCell _ _ _ _ (by first | (simp; done) | (simp; omega)), Below.heap_setCell _ _ _ _ (by first | (simp; done) | (simp; omega))]; exact hkb k (by omega)
      · refine ⟨?_, ?_, ?_, ?_, ?_⟩
        · unfold Boxed
          rw [World.putObj_heap_other (by omega), Below.heap_setCell _ _ _ _ (by first | (simp; done) | (simp; omega))]
          exact hbr.set _
        · unfold Boxed
          rw [World.putObj_heap_other (by omega)]
          exact hbe2.set _
        · rw [World.putObj_heap_other (by omega), Below.heap_setCell _ _ _ _ (by first | (simp; done) | (simp; omega)), Below.heap_setCell _ _ _ _ (by first | (simp; done) | (simp; omega))]; exact hd2
        · exact World.putObj_heap_same (by simpa using hlt2)
        · exact cC ((hlow.setCell (p := ⟨w.heap.size, 0, none⟩) (by simp) _).setCell (p := ⟨w.heap.size + 1, 0, none⟩) (by simp) _) (by omega) _
    · have ho : cJ x = true := by
        cases q : cJ x with
        | true => rfl
        | false =>
          have h1 : (gk x != 0) = false := by assumption
          rw [gk, q] at h1
          exact absurd h1 (by decide)
      have hlow : Below w.heap.size w w3 := (hb1.trans (hb2.mono (by omega))).trans (hb3.mono (by omega))
      have hlt3 : w.heap.size + 6 + 1 < w3.heap.size := by have := hb2.size; have := hb3.size; omega
      have hk3 : ∀ k, k < w.heap.size + 6 + 1 → w3.heap[k]? = W.heap[k]? := fun k hk => (hb3.block k (by omega)).trans (hkb k hk)
      refine ⟨?_, fun k h1 h2 => ?_, ho, ?_⟩
      · rw [Below.heap_setCell _ _ _ _ (by first | (simp; done) | (simp; omega)), hb3.block _ (by omega)]; exact ho2
      · rw [World.putObj_heap_other (by omega), Below.heap_setCell _ _ _ _ (by first | (simp; done) | (simp; omega))]; exact hk3 k (by omega)
      · refine ⟨?_, ?_, ⟨.slice (some ⟨g', 0, none⟩) (pre.length + 1) cap', ?_, ?_⟩, ?_, ?_, ?_⟩
        · unfold Boxed
          rw [World.putObj_heap_other (by omega), Below.heap_setCell _ _ _ _ (by first | (simp; done) | (simp; omega))]
          exact (hk3 _ (by omega)).trans hS.r
        · unfold Boxed
          rw [World.putObj_heap_other (by omega), Below.heap_setCell _ _ _ _ (by first | (simp; done) | (simp; omega))]
          exact (hk3 _ (by omega)).trans hS.e
        · unfold Boxed
          rw [World.putObj_heap_other (by omega)]
          exact hbl3.set _
        · have h9 := ownsRow_setCell_below hown3 (a := ⟨w.heap.size + 1 + 1, 0, none⟩) (by first | (simp; done) | (simp; omega)) (.slice (some ⟨g', 0, none⟩) (pre.length + 1) cap')
          refine eH ?_ fun k hk _ => World.putObj_heap_other (by omega)
          simpa using h9
        · rw [World.putObj_heap_other (by omega), Below.heap_setCell _ _ _ _ (by first | (simp; done) | (simp; omega))]; exact (hk3 _ (by omega)).trans hS.d
        · exact World.putObj_heap_same (by simpa using hlt3)
        · exact cC (hlow.setCell (p := ⟨w.heap.size + 1 + 1, 0, none⟩) (by show w.heap.size ≤ w.heap.size + 1 + 1; omega) _) (by omega) _
  obtain ⟨W0, hW0⟩ : ∃ W0, (w0.alloc (.deferred (some []))).alloc (.loop (rec .ready none)) = W0 := ⟨_, rfl⟩
  have it : CallsIn Fence.wide 5 prog 63 #[.func (.yield (w.heap.size + 6 + 1)) #[] #[], .pointer (some ⟨w.heap.size + 1 + 1 + 1 + 1, 0, none⟩), .pointer (some ⟨w.heap.size + 1 + 1 + 1, 0, none⟩), .pointer (some ⟨w.heap.size + 1 + 1 + 1 + 2, 0, none⟩)] W0
      (fun e W' => (∃ v, e = .returned v) ∧ ((∃ xs, kA s = some xs ∧ y3 w rec xs W') ∨ (kA s = none ∧ Ap w rec W'))) := by
    refine callsIn_of_wp Tryd.func63 rfl trivial ?_ rfl
    simp only [Tryd.ntmps63, List.size_toArray, List.length_cons, List.length_nil, Nat.reduceAdd, Nat.reduceSub, Array.replicate_succ, Array.replicate_zero, List.push_toArray, List.append_toArray, List.nil_append, List.cons_append]
    have hat : ∀ k, k < 8 → W0.heap[w.heap.size + k]? = #[Obj.cells #[.slice none 0 0] 22, .cells #[.int .i64 0] 24, .cells #[.slice none 0 0] 22, .cells #[.string s] 9, .cells #[.string ⟨#[32]⟩] 9, .cells #[.int .i64 0] 3, .deferred (some []), .loop (rec .ready none)][k]? := fun k hk => by
      rw [← hW0, ← hw0]
      exact zR w.heap _ _ _ _ _ _ _ _ k
    have hlow0 : Below w.heap.size w W0 := by
      rw [← hW0, ← hw0]
      refine Below.alloc (Below.alloc (Below.alloc (Below.alloc (Below.alloc (Below.alloc (Below.alloc (Below.alloc (Below.refl _ w) ?_ _) ?_ _) ?_ _) ?_ _) ?_ _) ?_ _) ?_ _) ?_ _
      all_goals simp
      all_goals try omega
    have hSt : y3 w rec [] W0 := ⟨hat 0 (by omega), hat 1 (by omega), ⟨_, hat 2 (by omega), World.ownsRow_nil _ _ _ _⟩, hat 6 (by omega), hat 7 (by omega), hlow0⟩
    have hq0 : Boxed W0 (w.heap.size + 3) 9 (.string s) := hat 3 (by omega)
    have hq1 : Boxed W0 (w.heap.size + 4) 9 (.string ⟨#[32]⟩) := hat 4 (by omega)
    have hq2 : Boxed W0 (w.heap.size + 5) 3 (.int .i64 0) := hat 5 (by omega)
    clear hat hlow0 hy
    have hc1 : W0.cell? ⟨w.heap.size + 1 + 1 + 1 + 1, 0, none⟩ = some (.string ⟨#[32]⟩) := hq1.cell
    gi_wp2
    gi_loopw [7] (fun _ W => ∃ (r : ByteArray) (pre : List Int) (f : Nat), Boxed W (w.heap.size + 3) 9 (.string r) ∧ Boxed W (w.heap.size + 4) 9 (.string ⟨#[32]⟩) ∧ Boxed W (w.heap.size + 5) 3 (.int .i64 0) ∧
        sb f r pre = kA s ∧ r.size < f ∧ pre.length + r.size ≤ s.size ∧ y3 w rec pre W) (fun _ W => uJ W (w.heap.size + 3))
    case atStart => exact ⟨s, [], s.size + 1, hq0, hq1, hq2, rfl, by omega, by simp, hSt⟩
    case round =>
      obtain ⟨r, pre, f, hb3, hb4, hb5, hu, hf, hl, hS⟩ := hrel
      have cI := fun w' => callsIn_wide (n := 3).2 (Tryd.strings_Index_one r 32 w')
      have h9 : Lib.indexByte r.data.toList 32 < r.size ∨ Lib.indexByte r.data.toList 32 = -1 := by
        rcases sa r.data.toList 32 with h | h
        · exact .inl (by simpa using h)
        · rw [h]; exact .inr rfl
      have hge := Lib.indexByte_ge r.data.toList 32
      obtain ⟨i, hi⟩ : ∃ i, Lib.indexByte r.data.toList 32 = i := ⟨_, rfl⟩
      have cIx : Calls prog 65 #[.string r, .string ⟨#[32]⟩] wr (fun e w' => e = .returned (.int .i64 i) ∧ w' = wr) := by rw [← hi]; exact Tryd.strings_Index_one r 32 wr
      obtain ⟨f, rfl⟩ : ∃ g, f = g + 1 := ⟨f - 1, by omega⟩
      simp only [sb, hi] at hu
      rw [hi] at h9 hge
      clear cI
      have hc3 := hb3.cell
      have hc4 := hb4.cell
      have hc5 := hb5.cell
      by_cases hneg : i < 0
      · obtain ⟨fn', tmps', assign', body', hy', hR'⟩ := round pre r wr (by omega) (by omega) hS
        gi_wp2_with (refine ⟨trivial, ?_⟩; gi_at_call 65; refine (callsIn_wide.2 cIx).mono ?_; rintro e w' ⟨rfl, rfl⟩)
        refine hR'.mono ?_
        rintro e W3 ⟨_, ⟨ho, rfl, hS3⟩ | ⟨ho, rfl, hS3⟩⟩
        · gi_wp2
          go_end0
          exact ⟨⟨_, rfl⟩, .inl ⟨_, by rw [← hu, if_pos hneg, if_pos ho], hS3⟩⟩
        · gi_wp2
          go_end0
          exact ⟨⟨_, rfl⟩, .inr ⟨by rw [← hu, if_pos hneg, if_neg (by rw [ho]; decide)], hS3⟩⟩
      · obtain ⟨n, rfl⟩ := Int.eq_ofNat_of_zero_le (Int.not_lt.1 hneg)
        obtain ⟨fn', tmps', assign', body', hy', hR'⟩ := round pre (r.extract 0 n) wr (by simp; omega) (by omega) hS
        gi_wp2_with (refine ⟨trivial, ?_⟩; gi_at_call 65; refine (callsIn_wide.2 cIx).mono ?_; rintro e w' ⟨rfl, rfl⟩)
        rw [if_neg (show ¬ ((n : Int) < 0) by omega), Int.toNat_natCast] at hu
        refine hR'.mono ?_
        rintro e W3 ⟨hk, ⟨ho, rfl, hS3⟩ | ⟨ho, rfl, hS3⟩⟩
        · rw [if_pos ho] at hu
          have hb3' : Boxed W3 (w.heap.size + 3) 9 (.string r) := (hk _ (by omega) (by omega)).trans hb3
          have hb4' : Boxed W3 (w.heap.size + 4) 9 (.string ⟨#[32]⟩) := (hk _ (by omega) (by omega)).trans hb4
          have hb5' : Boxed W3 (w.heap.size + 5) 3 (.int .i64 0) := (hk _ (by omega) (by omega)).trans hb5
          have hc3' := hb3'.cell
          have hc4' := hb4'.cell
          have hf3' := hb3'.frozen
          gi_wp2
          have hb6 := hb3'.set (.string (r.extract (n + 1) r.size))
          go_roundw
          case rel =>
            refine ⟨r.extract (n + 1) r.size, pre ++ [e7 (r.extract 0 n)], f, hb6, ?_, ?_, hu, ?_, ?_, hS3.set _ (by omega) (by omega) _⟩
            · exact (Below.heap_setCell _ _ _ _ (show w.heap.size + 4 ≠ w.heap.size + 1 + 1 + 1 by omega)).trans hb4'
            · exact (Below.heap_setCell _ _ _ _ (show w.heap.size + 5 ≠ w.heap.size + 1 + 1 + 1 by omega)).trans hb5'
            · simp; omega
            · simp; omega
          case measure =>
            rw [qS hb6, qS hb3]
            simp
            omega
        · rw [if_neg (by rw [ho]; decide)] at hu
          gi_wp2
          refine bodyPost_ret (results_none rfl _ _ _) rfl ?_
          exact ⟨⟨_, rfl⟩, .inr ⟨hu.symm, hS3⟩⟩
  clear round hy
  rw [hW0]
  refine it.mono ?_
  rintro e W' ⟨hv, ⟨xs, hxs, hS⟩ | ⟨hxs, hS⟩⟩
  · refine ⟨hv, .inl ⟨hS.o, ?_⟩⟩
    have hlt : w.heap.size + 6 + 1 < W'.heap.size := (Array.getElem?_eq_some_iff.1 hS.o).1
    obtain ⟨W2, hW2⟩ : ∃ W2, W'.putObj (w.heap.size + 6 + 1) (.loop (rec .exhausted none)) = W2 := ⟨_, rfl⟩
    rw [hW2]
    have hk : ∀ k, k ≠ w.heap.size + 6 + 1 → W2.heap[k]? = W'.heap[k]? := fun k hk => by rw [← hW2]; exact World.putObj_heap_other hk
    obtain ⟨v, hv, ho⟩ := hS.l
    have br : Boxed W2 w.heap.size 22 (.slice none 0 0) := (hk _ (by omega)).trans hS.r
    have be : Boxed W2 (w.heap.size + 1) 24 (.int .i64 0) := (hk _ (by omega)).trans hS.e
    have bl : Boxed W2 (w.heap.size + 1 + 1) 22 v := (hk _ (by omega)).trans hv
    have hcl := bl.cell
    have hcr := br.cell
    have hfr := br.frozen
    obtain ⟨p, n, cap, rfl⟩ : ∃ p n cap, v = .slice p n cap := by
      rcases ho.2 with ⟨rfl, _⟩ | ⟨g, cap, cur, rfl, _⟩
      · exact ⟨_, _, _, rfl⟩
      · exact ⟨_, _, _, rfl⟩
    have be2 : Boxed (W2.setCell ⟨w.heap.size, 0, none⟩ (.slice p n cap)) (w.heap.size + 1) 24 (.int .i64 0) := (Below.heap_setCell _ _ _ _ (by first | (simp; done) | (simp; omega))).trans be
    have hce := be2.cell
    have hfe := be2.frozen
    gi_wp2
    obtain ⟨W3, hW3⟩ : ∃ W3, (W2.setCell ⟨w.heap.size, 0, none⟩ (.slice p n cap)).setCell ⟨w.heap.size + 1, 0, none⟩ (.int .i64 0) = W3 := ⟨_, rfl⟩
    rw [hW3]
    have be3 : Boxed W3 (w.heap.size + 1) 24 (.int .i64 0) := by rw [← hW3]; exact be2.set _
    have br3 : Boxed W3 w.heap.size 22 (.slice p n cap) := by
      rw [← hW3]
      exact (Below.heap_setCell _ _ _ _ (by first | (simp; done) | (simp; omega))).trans (br.set _)
    have hk3 : ∀ k, w.heap.size + 2 ≤ k → k ≠ w.heap.size + 6 + 1 → W3.heap[k]? = W'.heap[k]? := fun k h1 h2 => by
      rw [← hW3, Below.heap_setCell _ _ _ _ (by show k ≠ w.heap.size + 1; omega), Below.heap_setCell _ _ _ _ (by show k ≠ w.heap.size; omega)]; exact hk k h2
    have hd : W3.heap[w.heap.size + 6]? = some (.deferred (some [])) := (hk3 _ (by omega) (by omega)).trans hS.d
    have hlow : Below w.heap.size w W3 := by
      rw [← hW3, ← hW2]
      exact ((cC hS.low (by omega) _).setCell (p := ⟨w.heap.size, 0, none⟩) (by simp) _).setCell (p := ⟨w.heap.size + 1, 0, none⟩) (by simp) _
    have hown : (W3.putObj (w.heap.size + 6) (.deferred none)).ownsRow (w.heap.size + 8) 35 1 (.slice p n cap) xs.length (xs.map (Value.int .u64)) :=
      eH ho fun k h1 _ => (World.putObj_heap_other (by omega)).trans (hk3 k (by omega) (by omega))
    refine ⟨by simp, .inl ⟨_, _, rfl, run_takeDeferred hd, ?_⟩⟩
    exact ⟨_, jT (a := ⟨w.heap.size, 0, none⟩) (b := ⟨w.heap.size + 1, 0, none⟩) rfl rfl rfl (by kernel_rfl) (by kernel_rfl) (Boxed.cell ((World.putObj_heap_other (by omega)).trans br3)) (Boxed.cell ((World.putObj_heap_other (by omega)).trans be3)), cC hlow (by omega) _, .inl ⟨xs, _, hxs, rfl, hown⟩⟩
  · refine ⟨hv, .inr ⟨_, hS.o, ?_⟩⟩
    have hlt : w.heap.size + 6 + 1 < W'.heap.size := (Array.getElem?_eq_some_iff.1 hS.o).1
    obtain ⟨W2, hW2⟩ : ∃ W2, W'.putObj (w.heap.size + 6 + 1) (.loop (rec .exhausted (some .ret))) = W2 := ⟨_, rfl⟩
    rw [hW2]
    have hk : ∀ k, k ≠ w.heap.size + 6 + 1 → W2.heap[k]? = W'.heap[k]? := fun k hk => by rw [← hW2]; exact World.putObj_heap_other hk
    have br : Boxed W2 w.heap.size 22 (.slice none 0 0) := (hk _ (by omega)).trans hS.r
    have be : Boxed W2 (w.heap.size + 1) 24 (.int .i64 4) := (hk _ (by omega)).trans hS.e
    have hcr := br.cell
    have hce := be.cell
    have hd : W2.heap[w.heap.size + 6]? = some (.deferred (some [])) := (hk _ (by omega)).trans hS.d
    have hlow : Below w.heap.size w W2 := by rw [← hW2]; exact cC hS.low (by omega) _
    gi_wp2
    refine ⟨by simp, .inl ⟨_, _, rfl, run_takeDeferred hd, ?_⟩⟩
    exact ⟨_, jT (a := ⟨w.heap.size, 0, none⟩) (b := ⟨w.heap.size + 1, 0, none⟩) rfl rfl rfl (by kernel_rfl) (by kernel_rfl) (Boxed.cell ((World.putObj_heap_other (by omega)).trans br)) (Boxed.cell ((World.putObj_heap_other (by omega)).trans be)), cC hlow (by omega) _, .inr ⟨hxs, rfl⟩⟩
def ju(s:ByteArray) :Bool:=(kA s).isSome
def mv(s:ByteArray) :List Int:=(kA s).getD []
theorem uK{ρ:aa}{W:World}{base:Nat}{t:TypeId}{k:IntKind}{v:Value}{xs:List Int}(h:W.ownsRow base t 1 v xs.length (xs.map (Value.int k)))(ha:∀ bl,base≤bl→ρ.avoid .free bl) :
    VR ρ W (.imm .free (.ns k xs) 1 1 0 xs.length) v:=by
  rcases h.2 with ⟨rfl,h0⟩ | ⟨g,cap,cur,rfl,hg,hc,hn,_,hs,ht⟩
  · rw [h0];exact .immEnd _ _ _ _ _ _ _ trivial (fun _=>rfl) rfl
  · refine .imm .free (.ns k xs) 1 1 0 xs.length cap g 0 (fun x=>.int k (xs.getD x 0)) (ha g hg) (Array.getElem?_eq_some_iff.1 hc).1 (fun x v hx=>?_) (fun x v hx=>?_) hn trivial (fun _=>rfl) rfl
    · simp only [ae.cell?] at hx
      cases hq:xs[x]? with
      | none=>rw [hq] at hx;cases hx
      | some z =>
        have hlt:=(List.getElem?_eq_some_iff.1 hq).1
        have h1:(cur.toList.take (xs.length*1))[x]? = some (.int k z):=by rw [ht,List.getElem?_map,hq];rfl
        rw [List.getElem?_take,if_pos (by omega)] at h1
        simp only [World.cell?,hc,Nat.zero_add]
        rw [List.getD_eq_getElem?_getD,hq]
        simpa using h1
    · simp only [ae.cell?] at hx
      cases hq:xs[x]? with
      | none=>rw [hq] at hx;cases hx
      | some z =>
        rw [hq] at hx
        cases hx
        rw [List.getD_eq_getElem?_getD,hq]
        exact .int _ _
theorem vI(s:ByteArray)(hs:s.size≤1000000000) :(∀ h:ju s=true,ah prog bS [] [.str s] ⟨.tup [.imm .free (.ns .u64 (mv s)) 1 1 0 (mv s).length,.int .i64 0],[]⟩) ∧
    (∀ h:(!ju s)=true,ah prog bS [] [.str s] ⟨.tup [.nsl,.int .i64 4],[]⟩):=by
  refine ⟨fun ho=>?_,fun ho=>?_⟩
  · refine aR ⟨FN bS,by kernel_rfl,by kernel_rfl⟩ fun ρ w us hN hv=>?_
    cases hv with | cons _ u _ _ h1 h2 =>
    cases h2;cases h1
    refine (ng s hs w (Lib.hid hN.romOk)).mono ?_
    rintro e w' ⟨hb,⟨xs,v,hx,rfl,hown⟩ | ⟨hx,rfl⟩⟩
    · have e1:mv s=xs:=by unfold mv;rw [hx];rfl
      rw [e1]
      exact ⟨_,rfl,hb,.tup _ _ (.cons _ _ _ _ (uK hown fun bl hbl=>bh.new hN bl (by omega)) (.cons _ _ _ _ (.int _ _) .nil))⟩
    · unfold ju at ho;rw [hx] at ho;cases ho
  · refine aR ⟨FN bS,by kernel_rfl,by kernel_rfl⟩ fun ρ w us hN hv=>?_
    cases hv with | cons _ u _ _ h1 h2 =>
    cases h2;cases h1
    refine (ng s hs w (Lib.hid hN.romOk)).mono ?_
    rintro e w' ⟨hb,⟨xs,v,hx,rfl,hown⟩ | ⟨hx,rfl⟩⟩
    · unfold ju at ho;rw [hx] at ho;cases ho
    · exact ⟨_,rfl,hb,.tup _ _ (.cons _ _ _ _ .nsl (.cons _ _ _ _ (.int _ _) .nil))⟩
noncomputable def vJ:aK:=dA bS (.cons .str .nil) fun t =>
  [⟨⟨.tup [.imm .free (.ns .u64 (mv t.1)) 1 1 0 (mv t.1).length,.int .i64 0],[]⟩,[ju t.1,m8 t.1.size]⟩,⟨⟨.tup [.nsl,.int .i64 4],[]⟩,[!ju t.1,m8 t.1.size]⟩]
theorem uL:aW prog vJ:=bo fun t a ha ho=>by
  simp only [List.mem_cons,List.not_mem_nil,or_false] at ha
  rcases ha with rfl | rfl
  · exact (vI t.1 (Nat.le_of_ble_eq_true ho.2.1)).1 ho.1
  · exact (vI t.1 (Nat.le_of_ble_eq_true ho.2.1)).2 ho.1
end Go.Plb.Seat
namespace Go.Plb.Seat
open Go Go.Plb
noncomputable def x7:aK:=dA d8 (.cons (.int .u64) .nil) fun t=>[⟨⟨.str (bi t.1),[]⟩,[]⟩]
theorem wC:aW prog x7:=bo fun t a ha ho=>by
  simp only [List.mem_singleton] at ha
  subst ha
  exact xV t.1
noncomputable def zt:List aK:=[rP,mp,xY,x4,tF,x6,vJ,x7]
theorem lC:aZ prog (bc zt):=au uD (au rR (au wz (au wA (au tG (au wB (au uL (au wC (kv prog))))))))
end Go.Plb.Seat
namespace Go.Plb.Seat
open Go Go.Plb
set_option linter.unusedVariables false
set_option maxRecDepth 100000
noncomputable section
inductive aS where
  | r0 (s9:ByteArray)
def eI:aS→AE×ax
  | .r0 s9=>(.ret,⟨bD 20 [(2,.str s9)],[],0⟩)
theorem fT:tw eI:=by intro x;cases x<;>(intro h;cases h)
theorem qa(id:Nat) :tA id eI:=by intro x;cases x<;>(intro h;cases h)
def gW:aS→iy
  | .r0 s9=>⟨.str s9,[]⟩
noncomputable def qb:List Code:=d7 (uB gO)
def qc(v_0:Lv)(words_1:List Int)(_:Unit) :ax:=⟨bD 20 [(3,.nsl),(6,.imm v_0 (.ns .u64 words_1) 1 1 0 (List.length words_1)),(7,.int .i64 (((List.length words_1):Nat):Int)),(8,.int .i64 (0:Int))],[],0⟩
def qd:T ((Unit)⊕(aS)) :=
  .leaf (.inl ())
def dV(v_0:Lv)(words_1:List Int) :Nat×Nat×Nat×(List ByteArray)→ax:=fun (l2,l3,a4,l5)=>⟨bD 20 [(3,.sl 0 1 1 0 l2 l3),(6,.imm v_0 (.ns .u64 words_1) 1 1 0 (List.length words_1)),(7,.int .i64 (((List.length words_1):Nat):Int)),(8,.int .i64 ((a4:Nat):Int))],[(0,.ss l5)],1⟩
def jU:Nat×Nat×(List ByteArray)→ax:=fun (l6,l7,l8)=>⟨bD 20 [(3,.sl 0 1 1 0 l6 l7)],[(0,.ss l8)],1⟩
noncomputable def qe:List Code:=d7 (mt ((((qb.drop 3).take 1)).headD .skip))
def o8(words_1:List Int)(l2:Nat)(l3:Nat)(a4:Nat)(l5:List ByteArray) :T ((Nat×Nat×Nat×(List ByteArray))⊕((Nat×Nat×(List ByteArray))⊕(aS))) :=
  .ask (decide (((a4:Nat):Int)<(((List.length words_1):Nat):Int)))
    (.need (sk ((a4:Nat):Int) (List.length words_1))<|.need (gq a4 (List.length words_1))<|.need (il ((l2+1)*16) 140737488355328)<|.need (il (l2+1) 9223372036854775807)<|.need (il 1 (List.length [(bi (List.getD words_1 a4 0))]))<|.need (il l2 (List.length l5))<|.need (lS .i64 (((a4+1):Nat):Int))<|.leaf (.inl ((l2+1),(l2+1),(a4+1),((List.take l2 l5)++(List.take 1 [(bi (List.getD words_1 a4 0))])))))
    (.leaf (.inr (.inl (l2,l3,l5))))
noncomputable def e8(words_1:List Int) :Nat×Nat×Nat×(List ByteArray)→Option ((Nat×Nat×Nat×(List ByteArray))⊕((Nat×Nat×(List ByteArray))⊕(aS))):=fun (l2,l3,a4,l5) =>
  (o8 words_1 l2 l3 a4 l5).run
theorem o9(v_0:Lv)(words_1:List Int)(l2:Nat)(l3:Nat)(a4:Nat)(l5:List ByteArray) :Sg prog [] qe (dV v_0 words_1 (l2,l3,a4,l5)) (e8 words_1 (l2,l3,a4,l5)) (dV v_0 words_1) (hX 0 jU eI):=by
  unfold e8;exact mu lC (dV v_0 words_1) [⟨[],[129],[3,6,7,8]⟩,⟨[],[0],[3]⟩]
def e9(l6:Nat)(l8:List ByteArray) :T ((Empty)⊕(aS)) :=
  .need (dy 0 l6 l8)<|.need (zr (ByteArray.mk #[32]))<|.need (m8 (iT (bJ 0 l6 l8)).size)<|.need (m8 (List.length (bJ 0 l6 l8)))<|.leaf (.inr (.r0 (iT (bJ 0 l6 l8))))
noncomputable def gX(words_1:List Int) :Option aS:=vH (eF ((qd).run) fun _ =>
  eF (cq (e8 words_1) (0,0,0,([]:List ByteArray))) fun (l6,l7,l8) =>
  (e9 l6 l8).run)
theorem jV(v_0:Lv)(words_1:List Int){x:aS}(h:gX words_1=some x) :ah prog gO [] [.imm v_0 (.ns .u64 words_1) 1 1 0 (List.length words_1)] (gW x) :=
  yf false gW eI h (Sg.cut 3 fT (mu lC (qc v_0 words_1) [⟨[],[],[3,6,7,8]⟩]) (fun _=>Sg.cut 1 fT (zZ ⟨[(.slot 3,.own 1 1 (.ss ([]:List ByteArray)))],[0],[3,6,7,8]⟩ (dV v_0 words_1) (jU) 0 fT (qa _) (fun ⟨l2,l3,a4,l5⟩=>o9 v_0 words_1 l2 l3 a4 l5)) (fun ⟨l6,l7,l8⟩=>mu lC wO [⟨[],[],[2]⟩])))
    (fun x=>by cases x with | r0 s9=>exact tC [.str s9])
def fU:Option aS→Bool
  | some _=>true
  | none=>false
def hZ:Option aS→ByteArray
  | some (.r0 x)=>x
  | _=>ByteArray.empty
theorem qf{x:Option aS}(h:fU x=true) :x=some (.r0 (hZ x)):=by
  unfold fU at h
  split at h<;>first | rfl | (cases h;done) | (rename_i y;cases y;rfl)
noncomputable def lD:aK:=dA gO (.cons (.ns .u64) .nil) fun t=>(fun q=>[⟨gW (.r0 (hZ q)),[fU q]⟩]) (gX t.1.2)
theorem nu:aW prog lD:=bo fun t=>(bR (fun h=>jV t.1.1 t.1.2 (qf h)) cy)
noncomputable def lE:List aK:=lD::zt
theorem ia:aZ prog (bc lE):=au nu lC
inductive bA where
  | r0 (s1:ByteArray)
def qg:bA→AE×ax
  | .r0 s1=>(.ret,⟨bD 12 [(4,.str s1)],[],0⟩)
def fV:bA→iy
  | .r0 s1=>⟨.str s1,[]⟩
def pa(m_0:Int)(n_1:Int) :T ((Empty)⊕(bA)) :=
  .need (lS .i64 m_0)<|.need (decide ((ByteArray.mk #[109,97,116,114,105,120,32]).size+(ca m_0).size≤9223372036854775807))<|.need (decide (((ByteArray.mk #[109,97,116,114,105,120,32])++(ca m_0)).size+(ByteArray.mk #[32]).size≤9223372036854775807))<|.need (lS .i64 n_1)<|.need (decide ((((ByteArray.mk #[109,97,116,114,105,120,32])++(ca m_0))++(ByteArray.mk #[32])).size+(ca n_1).size≤9223372036854775807))<|.leaf (.inr (.r0 ((((ByteArray.mk #[109,97,116,114,105,120,32])++(ca m_0))++(ByteArray.mk #[32]))++(ca n_1))))
noncomputable def fW(m_0:Int)(n_1:Int) :Option bA:=vH ((pa m_0 n_1).run)
theorem iU(m_0:Int)(n_1:Int){x:bA}(h:fW m_0 n_1=some x) :ah prog jR [] [.int .i64 m_0,.int .i64 n_1] (fV x) :=
  yf false fV qg h (mu ia wO [⟨[],[],[4]⟩])
    (fun x=>by cases x with | r0 s1=>exact tC [.str s1])
def fa:Option bA→Bool
  | some _=>true
  | none=>false
def gl:Option bA→ByteArray
  | some (.r0 x)=>x
  | _=>ByteArray.empty
theorem pb{x:Option bA}(h:fa x=true) :x=some (.r0 (gl x)):=by
  unfold fa at h
  split at h<;>first | rfl | (cases h;done) | (rename_i y;cases y;rfl)
noncomputable def jW:aK:=dA jR (.cons (.int .i64) (.cons (.int .i64) .nil)) fun t=>(fun q=>[⟨fV (.r0 (gl q)),[fa q]⟩]) (fW t.1 t.2.1)
theorem mw:aW prog jW:=bo fun t=>(bR (fun h=>iU t.1 t.2.1 (pb h)) cy)
noncomputable def jX:List aK:=jW::lE
theorem cD:aZ prog (bc jX):=au mw ia
inductive aE where
  | r0 (b7:Bool)
def iV:aE→AE×ax
  | .r0 b7=>(.ret,⟨bD 37 [(2,.bool false b7)],[],0⟩)
theorem ib:tw iV:=by intro x;cases x<;>(intro h;cases h)
def fb:aE→iy
  | .r0 b7=>⟨.bool false b7,[]⟩
def nv(a_0:Int)(a_1:Int)(a_2:Int)(v_3:Lv)(a_4:List Int)(a_5:Int)(a_6:Int) :Bool×ByteArray×Nat×Bool×Bool→ax:=fun (is1,s2,a3,b4,b5)=>⟨bD 37 [(1,.ptr 0 1 0 0),(3,.ptr 1 1 0 0),(4,.bool false is1)],[(0,.vs [.int .i64 a_0,.int .i64 a_1,.int .i64 a_2,.imm v_3 (.ns .u64 a_4) 1 1 0 (List.length a_4),.int .i64 a_5,.int .u64 a_6]),(1,.vs [.str s2,.int .i64 ((a3:Nat):Int),.bool false b4,.bool false b5])],2⟩
def nw(a_0 : Int) : T ((Bool × ByteArray × Nat × Bool × Bool) ⊕ (aE)) :=
  .alt 0
    (.need (a_0==(1:Int))<|.leaf (.inl (true,(ByteArray.mk #[101,105,103,101,110]),3,false,true)))
    (.alt 1
      (.need (a_0==(2:Int))<|.leaf (.inl (true,(ByteArray.mk #[118,97,108,117,101,115]),0,false,true)))
      (.alt 2
        (.need (a_0==(3:Int))<|.leaf (.inl (true,(ByteArray.mk #[115,118,100]),2,false,false)))
        (.alt 3
          (.need (a_0==(4:Int))<|.leaf (.inl (true,(ByteArray.mk #[114,97,110,107]),2,true,false)))
          (.alt 4
            (.need (a_0==(5:Int))<|.leaf (.inl (true,(ByteArray.mk #[105,110,118,101,114,115,101]),2,true,false)))
            (.alt 5
              (.need (a_0==(6:Int))<|.leaf (.inl (true,(ByteArray.mk #[99,111,110,100]),2,false,false)))
              (.alt 6
                (.need (!(a_0==(1:Int)))<|.need (!(a_0==(2:Int)))<|.need (!(a_0==(3:Int)))<|.need (!(a_0==(4:Int)))<|.need (!(a_0==(5:Int)))<|.need (!(a_0==(6:Int)))<|.leaf (.inl (false,ByteArray.empty,0,false,false)))
                (.fail)))))))
def nx(b6:Bool) :ax:=⟨bD 37 [(2,.bool false b6)],[],0⟩
def ic(a_5:Int)(a_6:Int)(is1:Bool)(a3:Nat)(b4:Bool) :T ((Bool)⊕(aE)) :=
  .ask is1
    (.ask (decide (a_5≥(tV (1:Int) ((a3:Nat):Int))))
      (.ask (decide (a_5≤((a3:Nat):Int)))
        (.ask b4
          (.leaf (.inl true))
          (.leaf (.inl (a_6==(0:Int)))))
        (.leaf (.inl false)))
      (.leaf (.inl false)))
    (.leaf (.inl false))
def ny(b6:Bool) :T ((Empty)⊕(aE)) :=
  .leaf (.inr (.r0 b6))
noncomputable def cr(a_0:Int)(a_5:Int)(a_6:Int) :Option aE:=vH (eF ((nw a_0).run) fun (is1,s2,a3,b4,b5) =>
  eF ((ic a_5 a_6 is1 a3 b4).run) fun b6 =>
  (ny b6).run)
theorem nA(a_0:Int)(a_1:Int)(a_2:Int)(v_3:Lv)(a_4:List Int)(a_5:Int)(a_6:Int){x:aE}(h:cr a_0 a_5 a_6=some x) :ah prog iL [] [.agg [.int .i64 a_0,.int .i64 a_1,.int .i64 a_2,.imm v_3 (.ns .u64 a_4) 1 1 0 (List.length a_4),.int .i64 a_5,.int .u64 a_6]] (fb x) :=
  yf false fb iV h (Sg.cut 2 ib (mu cD (nv a_0 a_1 a_2 v_3 a_4 a_5 a_6) [⟨[],[0,144],[1,3,4]⟩,⟨[],[0,144],[1,3,4]⟩,⟨[],[0,144],[1,3,4]⟩,⟨[],[0,144],[1,3,4]⟩,⟨[],[0,144],[1,3,4]⟩,⟨[],[0,144],[1,3,4]⟩,⟨[],[0,144],[1,3,4]⟩]) (fun ⟨is1,s2,a3,b4,b5⟩=>Sg.cut 1 ib (mu cD nx [⟨[],[],[2]⟩,⟨[],[],[2]⟩,⟨[],[],[2]⟩,⟨[],[],[2]⟩,⟨[],[],[2]⟩]) (fun b6=>mu cD wO [⟨[],[],[2]⟩])))
    (fun x=>by cases x with | r0 b7=>exact tC [.bool false b7])
def cW:Option aE→Bool
  | some _=>true
  | none=>false
def dt:Option aE→Bool
  | some (.r0 x)=>x
  | _=>false
theorem nB{x:Option aE}(h:cW x=true) :x=some (.r0 (dt x)):=by
  unfold cW at h
  split at h<;>first | rfl | (cases h;done) | (rename_i y;cases y;rfl)
noncomputable def iW:aK:=dA iL (.cons (.agg (.cons (.int .i64) (.cons (.int .i64) (.cons (.int .i64) (.cons (.ns .u64) (.cons (.int .i64) (.cons (.int .u64) .nil))))))) .nil) fun t=>(fun q=>[⟨fb (.r0 (dt q)),[cW q]⟩]) (cr t.1.1 t.1.2.2.2.2.1 t.1.2.2.2.2.2.1)
theorem lF:aW prog iW:=bo fun t=>(bR (fun h=>nA t.1.1 t.1.2.1 t.1.2.2.1 t.1.2.2.2.1.1 t.1.2.2.2.1.2 t.1.2.2.2.2.1 t.1.2.2.2.2.2.1 (nB h)) cy)
noncomputable def iX:List aK:=iW::jX
theorem du:aZ prog (bc iX):=au lF cD
inductive a8 where
  | r0 (b2:Bool)
def lG:a8→AE×ax
  | .r0 b2=>(.ret,⟨bD 41 [(2,.bool false b2)],[],0⟩)
theorem qh:tw lG:=by intro x;cases x<;>(intro h;cases h)
def gY:a8→iy
  | .r0 b2=>⟨.bool false b2,[]⟩
def qi(b1:Bool) :ax:=⟨bD 41 [(2,.bool false b1)],[],0⟩
def qj(a_0 : Int)(a_1 : Int)(a_2 : Int)(a_4 : List Int)(a_5 : Int)(a_6 : Int) : T ((Bool) ⊕ (a8)) :=
  .ask (decide (a_1 ≥ (0 : Int)))
    (.ask (decide (a_1 ≤ (512 : Int)))
      (.ask (decide (a_2 ≥ (0 : Int)))
        (.ask (decide (a_2≤(512:Int)))
          (.need (lS .i64 (a_1*a_2))<|.ask ((((List.length a_4):Nat):Int)==(a_1*a_2))
            (.need (dy 0 (List.length a_4) a_4)<|.need (cW (cr a_0 a_5 a_6))<|.ask (dt (cr a_0 a_5 a_6))
              (.ask (a_1 == a_2)
                (.leaf (.inl true))
                (.alt 0
                  (.need (a_0==(1:Int))<|.leaf (.inl false))
                  (.alt 1
                    (.need (a_0==(2:Int))<|.leaf (.inl false))
                    (.alt 2
                      (.need (a_0==(3:Int))<|.leaf (.inl true))
                      (.alt 3
                        (.need (a_0==(4:Int))<|.leaf (.inl true))
                        (.alt 4
                          (.need (a_0==(5:Int))<|.leaf (.inl true))
                          (.alt 5
                            (.need (a_0==(6:Int))<|.leaf (.inl true))
                            (.alt 6
                              (.need (!(a_0==(1:Int)))<|.need (!(a_0==(2:Int)))<|.need (!(a_0==(3:Int)))<|.need (!(a_0==(4:Int)))<|.need (!(a_0==(5:Int)))<|.need (!(a_0==(6:Int)))<|.leaf (.inl true))
                              (.fail)))))))))
              (.leaf (.inl false)))
            (.leaf (.inl false)))
          (.leaf (.inl false)))
        (.leaf (.inl false)))
      (.leaf (.inl false)))
    (.leaf (.inl false))
def qk(b1:Bool) :T ((Empty)⊕(a8)) :=
  .leaf (.inr (.r0 b1))
noncomputable def gZ(a_0:Int)(a_1:Int)(a_2:Int)(a_4:List Int)(a_5:Int)(a_6:Int) :Option a8:=vH (eF ((qj a_0 a_1 a_2 a_4 a_5 a_6).run) fun b1 =>
  (qk b1).run)
theorem jY(a_0:Int)(a_1:Int)(a_2:Int)(v_3:Lv)(a_4:List Int)(a_5:Int)(a_6:Int){x:a8}(h:gZ a_0 a_1 a_2 a_4 a_5 a_6=some x) :ah prog lw [] [.agg [.int .i64 a_0,.int .i64 a_1,.int .i64 a_2,.imm v_3 (.ns .u64 a_4) 1 1 0 (List.length a_4),.int .i64 a_5,.int .u64 a_6]] (gY x) :=
  yf false gY lG h (Sg.cut 2 qh (mu du qi [⟨[],[],[2]⟩,⟨[],[],[2]⟩,⟨[],[],[2]⟩,⟨[],[],[2]⟩,⟨[],[],[2]⟩,⟨[],[],[2]⟩,⟨[],[],[2]⟩,⟨[],[],[2]⟩,⟨[],[],[2]⟩,⟨[],[],[2]⟩,⟨[],[],[2]⟩,⟨[],[],[2]⟩,⟨[],[],[2]⟩,⟨[],[],[2]⟩]) (fun b1=>mu du wO [⟨[],[],[2]⟩]))
    (fun x=>by cases x with | r0 b2=>exact tC [.bool false b2])
def fX:Option a8→Bool
  | some _=>true
  | none=>false
def ig:Option a8→Bool
  | some (.r0 x)=>x
  | _=>false
theorem ql{x:Option a8}(h:fX x=true) :x=some (.r0 (ig x)):=by
  unfold fX at h
  split at h<;>first | rfl | (cases h;done) | (rename_i y;cases y;rfl)
noncomputable def lH:aK:=dA lw (.cons (.agg (.cons (.int .i64) (.cons (.int .i64) (.cons (.int .i64) (.cons (.ns .u64) (.cons (.int .i64) (.cons (.int .u64) .nil))))))) .nil) fun t=>(fun q=>[⟨gY (.r0 (ig q)),[fX q]⟩]) (gZ t.1.1 t.1.2.1 t.1.2.2.1 t.1.2.2.2.1.2 t.1.2.2.2.2.1 t.1.2.2.2.2.2.1)
theorem nC:aW prog lH:=bo fun t=>(bR (fun h=>jY t.1.1 t.1.2.1 t.1.2.2.1 t.1.2.2.2.1.1 t.1.2.2.2.1.2 t.1.2.2.2.2.1 t.1.2.2.2.2.2.1 (ql h)) cy)
noncomputable def lI:List aK:=lH::iX
theorem cd:aZ prog (bc lI):=au nC du
inductive aG where
  | r0 (s7:ByteArray)
def jZ:aG→AE×ax
  | .r0 s7=>(.ret,⟨bD 29 [(2,.str s7)],[],0⟩)
theorem fc:tw jZ:=by intro x;cases x<;>(intro h;cases h)
def fY:aG→iy
  | .r0 s7=>⟨.str s7,[]⟩
def pc(a_0:Int)(a_1:Int)(a_2:Int)(v_3:Lv)(a_4:List Int)(a_5:Int)(a_6:Int) :ByteArray×Nat×Bool×Bool→ax:=fun (s1,a2,b3,b4)=>⟨bD 29 [(1,.ptr 0 1 0 0),(3,.ptr 1 1 0 0)],[(0,.vs [.int .i64 a_0,.int .i64 a_1,.int .i64 a_2,.imm v_3 (.ns .u64 a_4) 1 1 0 (List.length a_4),.int .i64 a_5,.int .u64 a_6]),(1,.vs [.str s1,.int .i64 ((a2:Nat):Int),.bool false b3,.bool false b4])],2⟩
def pd(a_0 : Int) : T ((ByteArray × Nat × Bool × Bool) ⊕ (aG)) :=
  .alt 0
    (.need (a_0==(1:Int))<|.leaf (.inl ((ByteArray.mk #[101,105,103,101,110]),3,false,true)))
    (.alt 1
      (.need (a_0==(2:Int))<|.leaf (.inl ((ByteArray.mk #[118,97,108,117,101,115]),0,false,true)))
      (.alt 2
        (.need (a_0==(3:Int))<|.leaf (.inl ((ByteArray.mk #[115,118,100]),2,false,false)))
        (.alt 3
          (.need (a_0==(4:Int))<|.leaf (.inl ((ByteArray.mk #[114,97,110,107]),2,true,false)))
          (.alt 4
            (.need (a_0==(5:Int))<|.leaf (.inl ((ByteArray.mk #[105,110,118,101,114,115,101]),2,true,false)))
            (.alt 5
              (.need (a_0==(6:Int))<|.leaf (.inl ((ByteArray.mk #[99,111,110,100]),2,false,false)))
              (.alt 6
                (.need (!(a_0==(1:Int)))<|.need (!(a_0==(2:Int)))<|.need (!(a_0==(3:Int)))<|.need (!(a_0==(4:Int)))<|.need (!(a_0==(5:Int)))<|.need (!(a_0==(6:Int)))<|.leaf (.inl (ByteArray.empty,0,false,false)))
                (.fail)))))))
def pf(a_0:Int)(a_1:Int)(a_2:Int)(v_3:Lv)(a_4:List Int)(a_5:Int)(a_6:Int)(s1:ByteArray)(a2:Nat)(b3:Bool)(b4:Bool)(s5:ByteArray) :ax:=⟨bD 29 [(1,.ptr 0 1 0 0),(3,.ptr 1 1 0 0),(4,.str s5)],[(0,.vs [.int .i64 a_0,.int .i64 a_1,.int .i64 a_2,.imm v_3 (.ns .u64 a_4) 1 1 0 (List.length a_4),.int .i64 a_5,.int .u64 a_6]),(1,.vs [.str s1,.int .i64 ((a2:Nat):Int),.bool false b3,.bool false b4])],2⟩
def iY(a_5:Int)(s1:ByteArray)(a2:Nat) :T ((ByteArray)⊕(aG)) :=
  .ask (decide (((a2:Nat):Int)>(0:Int)))
    (.need (lS .i64 a_5)<|.need (decide ((ByteArray.mk #[32]).size+(ca a_5).size≤9223372036854775807))<|.need (decide (s1.size+((ByteArray.mk #[32])++(ca a_5)).size≤9223372036854775807))<|.leaf (.inl (s1++((ByteArray.mk #[32])++(ca a_5)))))
    (.leaf (.inl s1))
def pg(s6:ByteArray) :ax:=⟨bD 29 [(4,.str s6)],[],0⟩
def ph(a_6:Int)(b3:Bool)(s5:ByteArray) :T ((ByteArray)⊕(aG)) :=
  .ask b3
    (.need (decide ((ByteArray.mk #[32]).size+(bi a_6).size≤9223372036854775807))<|.need (decide (s5.size+((ByteArray.mk #[32])++(bi a_6)).size≤9223372036854775807))<|.leaf (.inl (s5++((ByteArray.mk #[32])++(bi a_6)))))
    (.leaf (.inl s5))
def pj(s6:ByteArray) :T ((Empty)⊕(aG)) :=
  .leaf (.inr (.r0 s6))
noncomputable def fZ(a_0:Int)(a_5:Int)(a_6:Int) :Option aG:=vH (eF ((pd a_0).run) fun (s1,a2,b3,b4) =>
  eF ((iY a_5 s1 a2).run) fun s5 =>
  eF ((ph a_6 b3 s5).run) fun s6 =>
  (pj s6).run)
theorem iZ(a_0:Int)(a_1:Int)(a_2:Int)(v_3:Lv)(a_4:List Int)(a_5:Int)(a_6:Int){x:aG}(h:fZ a_0 a_5 a_6=some x) :ah prog jQ [] [.agg [.int .i64 a_0,.int .i64 a_1,.int .i64 a_2,.imm v_3 (.ns .u64 a_4) 1 1 0 (List.length a_4),.int .i64 a_5,.int .u64 a_6]] (fY x) :=
  yf false fY jZ h (Sg.cut 2 fc (mu cd (pc a_0 a_1 a_2 v_3 a_4 a_5 a_6) [⟨[],[0,96],[1,3]⟩,⟨[],[0,96],[1,3]⟩,⟨[],[0,96],[1,3]⟩,⟨[],[0,96],[1,3]⟩,⟨[],[0,96],[1,3]⟩,⟨[],[0,96],[1,3]⟩,⟨[],[0,96],[1,3]⟩]) (fun ⟨s1,a2,b3,b4⟩=>Sg.cut 3 fc (mu cd (pf a_0 a_1 a_2 v_3 a_4 a_5 a_6 s1 a2 b3 b4) [⟨[],[0,1],[1,3,4]⟩,⟨[],[0,1],[1,3,4]⟩]) (fun s5=>Sg.cut 2 fc (mu cd pg [⟨[],[],[4]⟩,⟨[],[],[4]⟩]) (fun s6=>mu cd wO [⟨[],[],[2]⟩]))))
    (fun x=>by cases x with | r0 s7=>exact tC [.str s7])
def fe:Option aG→Bool
  | some _=>true
  | none=>false
def gn:Option aG→ByteArray
  | some (.r0 x)=>x
  | _=>ByteArray.empty
theorem pk{x:Option aG}(h:fe x=true) :x=some (.r0 (gn x)):=by
  unfold fe at h
  split at h<;>first | rfl | (cases h;done) | (rename_i y;cases y;rfl)
noncomputable def j0:aK:=dA jQ (.cons (.agg (.cons (.int .i64) (.cons (.int .i64) (.cons (.int .i64) (.cons (.ns .u64) (.cons (.int .i64) (.cons (.int .u64) .nil))))))) .nil) fun t=>(fun q=>[⟨fY (.r0 (gn q)),[fe q]⟩]) (fZ t.1.1 t.1.2.2.2.2.1 t.1.2.2.2.2.2.1)
theorem my:aW prog j0:=bo fun t=>(bR (fun h=>iZ t.1.1 t.1.2.1 t.1.2.2.1 t.1.2.2.2.1.1 t.1.2.2.2.1.2 t.1.2.2.2.2.1 t.1.2.2.2.2.2.1 (pk h)) cy)
noncomputable def j1:List aK:=j0::lI
theorem mz:aZ prog (bc j1):=au my cd
end
end Go.Plb.Seat
namespace Go.Plb.Seat
open Go Go.Plb
set_option linter.unusedSimpArgs false
set_option linter.unusedVariables false
set_option maxRecDepth 100000
def lJ(k:Int) :Bool×ByteArray×Nat×Bool×Bool :=
  if k=1 then (true,ByteArray.mk #[101,105,103,101,110],3,false,true)
  else if k=2 then (true,ByteArray.mk #[118,97,108,117,101,115],0,false,true)
  else if k=3 then (true,ByteArray.mk #[115,118,100],2,false,false)
  else if k=4 then (true,ByteArray.mk #[114,97,110,107],2,true,false)
  else if k=5 then (true,ByteArray.mk #[105,110,118,101,114,115,101],2,true,false)
  else if k=6 then (true,ByteArray.mk #[99,111,110,100],2,false,false)
  else (false,ByteArray.empty,0,false,false)
def mA(k y t:Int) :Bool:=bif (lJ k).1 then bif decide (y≥tV 1 ((lJ k).2.2.1:Nat)) then bif decide (y≤((lJ k).2.2.1:Nat)) then bif (lJ k).2.2.2.1 then true else t==0 else false else false else false
def mB(k m n:Int)(len:Nat)(y t:Int) :Bool :=
  bif decide (m≥0) then bif decide (m≤512) then bif decide (n≥0) then bif decide (n≤512) then bif (len:Int)==m*n then bif mA k y t then bif m==n then true else !(lJ k).2.2.2.2 else false else false else false else false else false else false
def yh:ByteArray:=ByteArray.mk #[32]
def j2(k y t:Int) :ByteArray :=
  let s:=bif decide (((lJ k).2.2.1:Int)>0) then (lJ k).2.1++(yh++ca y) else (lJ k).2.1
  bif (lJ k).2.2.2.1 then s++(yh++bi t) else s
def lK(m n:Int) :ByteArray:=((ByteArray.mk #[109,97,116,114,105,120,32]++ca m)++yh)++ca n
def pm(ws:List Int) :ByteArray:=iT (ws.map bi)
theorem mC{α:Type}(f:Bool×ByteArray×Nat×Bool×Bool→α)(k:Int) :(T.alt 0 (.need (k==(1:Int))<|.leaf (f (lJ 1))) (.alt 1 (.need (k==(2:Int))<|.leaf (f (lJ 2))) (.alt 2 (.need (k==(3:Int))<|.leaf (f (lJ 3))) (.alt 3 (.need (k==(4:Int))<|.leaf (f (lJ 4))) (.alt 4 (.need (k==(5:Int))<|.leaf (f (lJ 5))) (.alt 5 (.need (k==(6:Int))<|.leaf (f (lJ 6)))
    (.alt 6 (.need (!(k==(1:Int)))<|.need (!(k==(2:Int)))<|.need (!(k==(3:Int)))<|.need (!(k==(4:Int)))<|.need (!(k==(5:Int)))<|.need (!(k==(6:Int)))<|.leaf (f (false,ByteArray.empty,0,false,false))) .fail))))))).run=some (f (lJ k)):=by
  by_cases h1:k=1
  · subst h1;rfl
  by_cases h2:k=2
  · subst h2;rfl
  by_cases h3:k=3
  · subst h3;rfl
  by_cases h4:k=4
  · subst h4;rfl
  by_cases h5:k=5
  · subst h5;rfl
  by_cases h6:k=6
  · subst h6;rfl
  have e:lJ k=(false,ByteArray.empty,0,false,false):=by simp [lJ,h1,h2,h3,h4,h5,h6]
  rw [e]
  have q:∀ j:Int,¬ k=j→(k==j)=false:=fun j h=>beq_eq_false_iff_ne.2 h
  simp [T.run,q _ h1,q _ h2,q _ h3,q _ h4,q _ h5,q _ h6]
theorem ek(k y t:Int) :cr k y t=some (.r0 (mA k y t)):=by
  refine ei (bv (a:=lJ k) (mC (fun x=>(Sum.inl x:(Bool×ByteArray×Nat×Bool×Bool)⊕aE)) k) ?_)
  generalize h:lJ k=p
  obtain ⟨b,w,n,tt,sq⟩:=p
  refine bv (a:=mA k y t) ?_ rfl
  unfold mA
  rw [h]
  simp only [ic,T.run]
  generalize decide (y≥tV (1:Int) (n:Int))=z1
  generalize decide (y≤(n:Int))=z2
  cases b<;>cases z1<;>cases z2<;>cases tt<;>rfl
theorem qm(k m n:Int)(ws:List Int)(y t:Int) :gZ k m n ws y t=some (.r0 (mB k m n ws.length y t)):=by
  refine ei (bv (a:=mB k m n ws.length y t) ?_ rfl)
  unfold mB
  cases h1:decide (m≥0) with
  | false=>exact jy h1 rfl
  | true =>
    refine gV h1 ?_
    cases h2:decide (m≤512) with
    | false=>exact qQ rfl
    | true =>
      refine iQ ?_
      cases h3:decide (n≥0) with
      | false=>exact qQ rfl
      | true =>
        refine iQ ?_
        cases h4:decide (n≤512) with
        | false=>exact qQ rfl
        | true =>
          refine iQ (aH ?_ ?_)
          · have g1:=of_decide_eq_true h1
            have g2:=of_decide_eq_true h2
            have g3:=of_decide_eq_true h3
            have g4:=of_decide_eq_true h4
            have:=Int.mul_le_mul g2 g4 g3 (by omega)
            have:=Int.mul_nonneg g1 g3
            rw [cB];omega
          cases h5:((ws.length:Int)==m*n) with
          | false=>exact qQ rfl
          | true =>
            refine iQ (aH (by simp [dy]) (aH (by rw [ek];rfl) ?_))
            cases h6:mA k y t with
            | false=>exact jy (by rw [ek];exact h6) rfl
            | true =>
              refine gV (by rw [ek];exact h6) ?_
              cases h7:(m==n) with
              | true=>exact iQ rfl
              | false=>exact qQ (mC (fun x=>(Sum.inl (!x.2.2.2.2):Bool⊕a8)) k)
theorem wD(w:Int) :(xU w).length=16:=by simp [xU]
theorem uM(l:List Int) :(sO l).size=l.length:=by
  have key:∀ (l:List Int) (r:ByteArray),(l.foldl (fun r n=>r.push (UInt8.ofNat n.toNat)) r).size=r.size+l.length:=by
    intro l
    induction l with
    | nil=>intro r;rfl
    | cons x l ih=>intro r;rw [List.foldl_cons,ih,ByteArray.size_push,List.length_cons];omega
  have:=key l ByteArray.empty
  simpa [sO] using this
theorem g6(w:Int) :(bi w).size=16:=by rw [bi,uM,wD]
theorem mD:∀ l:List ByteArray,(iS l).length≤(l.map fun s=>s.size+1).sum
  | []=>by simp [iS]
  | [x]=>by
    simp only [iS,List.map_cons,List.map_nil,List.sum_cons,List.sum_nil,Array.length_toList]
    show x.size≤_
    omega
  | x::y::r=>by
    have:=mD (y::r)
    simp only [iS,List.map_cons,List.sum_cons,List.length_append,List.length_cons] at this ⊢
    simp only [ByteArray.size,Array.length_toList] at this ⊢
    omega
theorem pn(l:List ByteArray) :(iT l).size=(iS l).length:=by simp [iT,ByteArray.size]
theorem po:∀ f n,(pZ f n).length≤f
  | 0,_=>by simp [pZ]
  | f+1,n=>by
    have:=po f (n/10)
    rw [pZ]
    split<;>simp<;>omega
theorem dL(n:Int) :(ca n).size≤21:=by
  have:(ca n).size=(tE n).length:=by simp [ca,ByteArray.size]
  rw [this,tE]
  have h1:=po 20 n.natAbs
  have h2:=po 20 n.toNat
  split<;>simp<;>omega
theorem pq(m n:Int)(hm:lS .i64 m=true)(hn:lS .i64 n=true) :fW m n=some (.r0 (lK m n)):=by
  refine ei ?_
  have h1:=dL m
  have h2:=dL n
  have e1:(ByteArray.mk #[109,97,116,114,105,120,32]).size=7:=rfl
  have e2:(ByteArray.mk #[32]).size=1:=rfl
  refine aH hm (aH ?_ (aH ?_ (aH hn (aH ?_ rfl))))
  all_goals simp only [ByteArray.size_append,e1,e2,decide_eq_true_eq];omega
theorem tH(k:Int) :(lJ k).2.1.size≤7:=by
  unfold lJ
  repeat' split
  all_goals decide
theorem pr(k y t:Int)(hy:lS .i64 y=true) :fZ k y t=some (.r0 (j2 k y t)):=by
  have hw:=tH k
  refine ei (bv (a:=(lJ k).2) (mC (fun x=>(Sum.inl x.2:(ByteArray×Nat×Bool×Bool)⊕aG)) k) ?_)
  generalize h:lJ k=p at hw
  obtain ⟨b,w,n,tt,sq⟩:=p
  have hw:w.size≤7:=hw
  have h1:=dL y
  have h2:=g6 t
  have e2:(ByteArray.mk #[32]).size=1:=rfl
  have hs1:(iY y w n).run=some (.inl (bif decide ((n:Int)>0) then w++(yh++ca y) else w)):=by
    cases hz:decide ((n:Int)>0) with
    | false=>exact jy hz rfl
    | true =>
      refine gV hz (aH hy (aH ?_ (aH ?_ rfl)))
      all_goals simp only [ByteArray.size_append,e2,decide_eq_true_eq];omega
  have hsz:(bif decide ((n:Int)>0) then w++(yh++ca y) else w).size≤29:=by
    have e3:yh.size=1:=rfl
    cases decide ((n:Int)>0)<;>simp only [cond_true,cond_false,ByteArray.size_append,e3]<;>omega
  unfold j2
  rw [h]
  refine bv hs1 ?_
  generalize (bif decide ((n:Int)>0) then w++(yh++ca y) else w)=s5 at hsz
  refine bv (a:=bif tt then s5++(yh++bi t) else s5) ?_ rfl
  cases tt with
  | false=>exact qQ rfl
  | true =>
    refine iQ (aH ?_ (aH ?_ rfl))
    all_goals simp only [ByteArray.size_append,e2,decide_eq_true_eq];omega
theorem qn(ws:List Int)(h:ws.length≤1000000) :gX ws=some (.r0 (pm ws)):=by
  have hsz:(pm ws).size≤17*ws.length:=by
    have:=mD (ws.map bi)
    rw [pm,pn]
    have e:((ws.map bi).map fun s=>s.size+1).sum=17*ws.length:=by
      clear this h
      induction ws with
      | nil=>rfl
      | cons x l ih=>simp only [List.map_cons,List.sum_cons,List.length_cons,g6] at ih ⊢;omega
    omega
  refine ei (bv rfl (bv (a:=(ws.length,ws.length,ws.map bi)) (gi (fun j=>(j,j,j,(ws.take j).map bi)) ws.length rfl (fun j hj=>?_) ?_) ?_))
  · have hl:((ws.take j).map bi).length=j:=by rw [List.length_map,List.length_take];omega
    have hg:ws[j]? = some (ws.getD j 0):=by rw [List.getD_eq_getElem?_getD,List.getElem?_eq_getElem hj];rfl
    have hn:List.take j ((ws.take j).map bi)++List.take 1 [bi (ws.getD j 0)]=(ws.take (j+1)).map bi:=by
      rw [List.take_of_length_le (by omega),List.take_add_one (l:=ws),hg,List.map_append];rfl
    rw [←hn]
    refine gV (by simp;omega) (aH (by rw [eZ];omega) (aH (by rw [cm];omega) (aH (by rw [r6];omega) (aH (by rw [r6];omega) (qP (aH (by rw [r6];omega) (aH (by rw [cB];omega) rfl)))))))
  · rw [List.take_length]
    exact jy (by simp) rfl
  · show (e9 ws.length (ws.map bi)).run=_
    have hc:bJ 0 ws.length (ws.map bi)=ws.map bi:=by
      have:=iK (ws.map bi)
      rwa [List.length_map] at this
    rw [e9,hc]
    refine aH (by simp [dy]) (qP (aH ?_ (aH ?_ rfl)))
    · show Nat.ble (pm ws).size 1000000000=true
      exact Nat.ble_eq_true_of_le (by omega)
    · show Nat.ble (ws.map bi).length 1000000000=true
      rw [List.length_map]
      exact Nat.ble_eq_true_of_le (by omega)
end Go.Plb.Seat
namespace Go.Plb.Seat
open Go Go.Plb Go.Proofs Go.RowKit Go.Shelf
set_option maxRecDepth 100000
set_option linter.unusedSimpArgs false
set_option linter.unusedVariables false
attribute [local go_sem] Oper.semAt_some
set_option maxHeartbeats 2000000 in
theorem x8 (d l cb nb : Nat) (p : Option Addr) (m n cap : Nat) (hn : 1 ≤ n) (hL : m * n ≤ 1000000) (hcap : m * n ≤ cap) (hp : 1 ≤ m → p.isSome = true) (W : World) (J : Option Nat → World → Prop)
    (hJb : ∀ i W', J (some i) W' → W'.heap[cb]? = W.heap[cb]? ∧ W'.heap[nb]? = W.heap[nb]?) (hJm : ∀ i W' W'', J i W' → Below W'.heap.size W' W'' → J i W'')
    (hY : ∀ j a W', j < m → p = some a → J (some j) W' → YieldAt Fence.wide d prog l #[.slice (some (a.add (j * n))) n n] W' (fun e W'' => (e = .returned (.bool true) ∧ J (some (j + 1)) W'') ∨ (e = .returned (.bool false) ∧ J none W'')))
    (hc : Boxed W cb 22 (.slice p (m * n) cap)) (hnb : Boxed W nb 3 (.int .i64 n)) (h0 : J (some 0) W) :
    CallsIn Fence.wide (d + 1) prog 71 #[.func (.yield l) #[] #[], .pointer (some ⟨cb, 0, none⟩), .pointer (some ⟨nb, 0, none⟩)] W (fun e W' => (∃ v, e = .returned v) ∧ (J (some m) W' ∨ J none W')) := by
  refine callsIn_of_wp Tryd.func71 rfl trivial ?_ rfl
  simp only [Tryd.ntmps71, List.size_toArray, List.length_cons, List.length_nil, Nat.reduceAdd, Nat.reduceSub, Array.replicate_succ, Array.replicate_zero, List.push_toArray, List.append_toArray, List.nil_append, List.cons_append]
  gi_wp2
  gi_loopw [4] (fun t W' => ∃ (j i : Nat), t = .int .i64 (i : Nat) ∧ i = j * n ∧ j ≤ m ∧ J (some j) W') (fun t _ => m * n - (intOf t).toNat)
  case atStart => exact ⟨0, 0, rfl, by simp, Nat.zero_le _, h0⟩
  case round =>
    obtain ⟨j, i, rfl, hi, hj, hJ⟩ := hrel
    have hb := hJb j wr hJ
    have hc' : Boxed wr cb 22 (.slice p (m * n) cap) := hb.1.trans hc
    have hn' : Boxed wr nb 3 (.int .i64 n) := hb.2.trans hnb
    have c1 := hc'.cell
    have c2 := hn'.cell
    generalize hLe : m * n = L at *
    have hlt : i < L ↔ j < m := by
      rw [hi, ← hLe]
      exact ⟨fun h => Nat.lt_of_mul_lt_mul_right h, fun h => Nat.mul_lt_mul_of_pos_right h (by omega)⟩
    by_cases hjm : j < m
    · have h1 : i < L := hlt.2 hjm
      have h2 : i + n ≤ L := by
        rw [hi, ← hLe]
        calc j * n + n = (j + 1) * n := by rw [Nat.add_mul, Nat.one_mul]
          _ ≤ m * n := Nat.mul_le_mul_right n hjm
      obtain ⟨a, rfl⟩ := Option.isSome_iff_exists.1 (hp (by omega))
      have hJ' : J (some j) wr.drew := hJm _ _ _ hJ (Below.refl _ _).drew
      have hY' := hY j a wr.drew hjm rfl hJ'
      rw [← hi] at hY'
      obtain ⟨fn', tmps', assign', body', hy', hR'⟩ := hY'
      replace hi := Lib.hid hi
      clear hlt
      gi_wp2
      gi_region
      rw [show min (n : Int) ((L - i : Nat) : Int) = (n : Int) by omega]
      gi_wp2
      refine hR'.mono ?_
      rintro e W3 (⟨rfl, hJ3⟩ | ⟨rfl, hJ3⟩)
      · have hb3 := hJb (j + 1) W3 hJ3
        have c3 := (show Boxed W3 nb 3 (.int .i64 n) from hb3.2.trans hnb).cell
        gi_wp2
        go_roundw
        case rel => exact ⟨j + 1, i + n, by go_num, by rw [hi.out, Nat.add_mul, Nat.one_mul], by omega, hJ3⟩
        case measure => simp [intOf]; omega
      · gi_wp2
        refine bodyPost_ret (results_none rfl _ _ _) rfl ?_
        exact ⟨⟨_, rfl⟩, .inr hJ3⟩
    · have h1 : ¬ i < L := fun h => hjm (hlt.1 h)
      have hjm' : j = m := by omega
      gi_wp2
      go_end0
      exact ⟨⟨_, rfl⟩, .inl (hjm' ▸ hJ)⟩
theorem tI(p:Option Addr)(len cap n:Nat)(hn:1≤n)(w:World) :Calls prog 60 #[.slice p len cap,.int .i64 n] w fun e w' =>
    e=.returned (.func (.func 71) #[] #[.pointer (some ⟨w.heap.size,0,none⟩),.pointer (some ⟨w.heap.size+1,0,none⟩)])∧w'=(w.alloc (.cells #[.slice p len cap] 22)).alloc (.cells #[.int .i64 n] 3):=by
  have hmf:∀ (fn:Fn) (first cap:Array Value) (w:World),(Instr.makeFunc fn first cap).run prog w=.ok (.func fn first cap) w:=fun _ _ _ _=>rfl
  go_enter Tryd.func60,Tryd.ntmps60
  go_wp2
  go_ret
  exact ⟨rfl,rfl⟩
def bK(k m n:Int)(ws:List Int)(y t:Int) :List ByteArray :=
  bif mB k m n ws.length y t then lK m n::((bif decide (n>0) then (List.range m.toNat).map (fun i=>pm ((ws.drop (i*n.toNat)).take n.toNat)) else [])++[j2 k y t]) else []
abbrev uN(k m n:Int)(vw:Value)(y t:Int) :Array Value:=#[.int .i64 k,.int .i64 m,.int .i64 n,vw,.int .i64 y,.int .u64 t]
abbrev cK(ws:List Int) :AV:=.imm .free (.ns .u64 ws) 1 1 0 ws.length
theorem qT(k m n:Int)(ws:List Int)(vw:Value)(y t:Int)(w:World)(hr:b9 w)(hv:VR aa.none_ w (cK ws) vw) :
    Calls prog 41 #[.agg (uN k m n vw y t)] w fun e w'=>e=.returned (.bool (mB k m n ws.length y t))∧Below w.heap.size w w':=by
  have h:=jY k m n .free ws y t (qm k m n ws y t)
  refine (ah.calls (v:=.bool false (mB k m n ws.length y t)) h w hr (us:=[.agg (uN k m n vw y t)]) (.cons _ _ _ _ (.agg _ _ (.cons _ _ _ _ (.int _ _) (.cons _ _ _ _ (.int _ _) (.cons _ _ _ _ (.int _ _) (.cons _ _ _ _ hv (.cons _ _ _ _ (.int _ _) (.cons _ _ _ _ (.int _ _) .nil))))))) .nil)).mono ?_
  rintro e w' ⟨u,ρ',rfl,hb,hu⟩
  cases hu
  exact ⟨rfl,hb⟩
theorem uO(k m n:Int)(ws:List Int)(vw:Value)(y t:Int)(hy:lS .i64 y=true)(w:World)(hr:b9 w)(hv:VR aa.none_ w (cK ws) vw) :
    Calls prog 35 #[.agg (uN k m n vw y t)] w fun e w'=>e=.returned (.string (j2 k y t))∧Below w.heap.size w w':=by
  have h:=iZ k m n .free ws y t (pr k y t hy)
  refine (ah.calls (v:=.str (j2 k y t)) h w hr (us:=[.agg (uN k m n vw y t)]) (.cons _ _ _ _ (.agg _ _ (.cons _ _ _ _ (.int _ _) (.cons _ _ _ _ (.int _ _) (.cons _ _ _ _ (.int _ _) (.cons _ _ _ _ hv (.cons _ _ _ _ (.int _ _) (.cons _ _ _ _ (.int _ _) .nil))))))) .nil)).mono ?_
  rintro e w' ⟨u,ρ',rfl,hb,hu⟩
  cases hu
  exact ⟨rfl,hb⟩
theorem uP(m n:Int)(hm:lS .i64 m=true)(hn:lS .i64 n=true)(w:World)(hr:b9 w) :Calls prog 59 #[.int .i64 m,.int .i64 n] w fun e w'=>e=.returned (.string (lK m n))∧Below w.heap.size w w':=by
  have h:=iU m n (pq m n hm hn)
  refine (ah.calls (v:=.str (lK m n)) h w hr (us:=[.int .i64 m,.int .i64 n]) (.cons _ _ _ _ (.int _ _) (.cons _ _ _ _ (.int _ _) .nil))).mono ?_
  rintro e w' ⟨u,ρ',rfl,hb,hu⟩
  cases hu
  exact ⟨rfl,hb⟩
theorem wE(ws:List Int)(h6:ws.length≤1000000)(vw:Value)(w:World)(hr:b9 w)(hv:VR aa.none_ w (cK ws) vw) :Calls prog 11 #[vw] w fun e w'=>e=.returned (.string (pm ws))∧Below w.heap.size w w':=by
  have h:=jV .free ws (qn ws h6)
  refine (ah.calls (v:=.str (pm ws)) h w hr (us:=[vw]) (.cons _ _ _ _ hv .nil)).mono ?_
  rintro e w' ⟨u,ρ',rfl,hb,hu⟩
  cases hu
  exact ⟨rfl,hb⟩
theorem fG{k m n:Int}{len:Nat}{y t:Int}(h:mB k m n len y t=true) :0≤m∧m≤512∧0≤n∧n≤512∧(len:Int)=m*n∧0≤y∧y≤3:=by
  unfold mB at h
  simp only [Bool.cond_eq_ite,Bool.if_false_right,Bool.and_eq_true,decide_eq_true_eq,beq_iff_eq,ge_iff_le] at h
  obtain ⟨h1,h2,h3,h4,h5,h6,_⟩:=h
  refine ⟨h1,h2,h3,h4,h5,?_⟩
  unfold mA at h6
  simp only [Bool.cond_eq_ite,Bool.if_false_right,Bool.and_eq_true,decide_eq_true_eq,beq_iff_eq,ge_iff_le] at h6
  obtain ⟨_,g1,g2,_⟩:=h6
  have hk:(lJ k).2.2.1≤3:=by
    unfold lJ
    repeat' split
    all_goals decide
  have g3:tV 1 ((lJ k).2.2.1:Nat)≥0:=by unfold tV;split<;>omega
  omega
theorem lL(w:World) :(isAgg 37).run prog w=.ok true w:=eK (by kernel_rfl)
theorem i6(w:World) :(sizeOf 37).run prog w=.ok 6 w:=by
  have hi:(prog.info? 37).map (·.size)=some 6:=by kernel_rfl
  cases hq:prog.info? 37 with
  | none=>rw [hq] at hi;cases hi
  | some i =>
    rw [hq] at hi
    simp only [Option.map_some,Option.some.injEq] at hi
    simp [sizeOf,Sem.run_bind,typeInfo,hq,hi]
theorem aX{W:World}{k:Nat}{o:Obj}(h:W.heap[k]? = some o) :k<W.heap.size:=(Array.getElem?_eq_some_iff.1 h).1
structure wF (B ab:Nat) (k m n:Int) (ws:List Int) (vw:Value) (y t:Int) (J:Option Nat→World→Prop):Prop where
  ask:∀ i W,J (some i) W→W.heap[ab]? = some (.cells (uN k m n vw y t) 37 (0,0))∧b9 W∧VR aa.none_ W (cK ws) vw
  mono:∀ i W W',J i W→Below W.heap.size W W'→J i W'
  put:∀ i W r o o',J i W→B≤r→W.heap[r]? = some o'→o'.isCells=false→J i (W.putObj r o)
def tJ(o:Obj) :Prop:=∀ c fz,o ≠ .cells c 5 fz
def mE(B:Nat)(W W':World) :Prop:=W.heap.size≤W'.heap.size∧∀ r o,B≤r→W.heap[r]? = some o→tJ o→W'.heap[r]? = some o
theorem d9{c:Array Value}{t:TypeId}{fz:Nat×Nat}(h:t≠5) :tJ (.cells c t fz):=fun _ _ e=>by injection e with _ e;exact h e
theorem jv(l:Option (List Deferred)) :tJ (.deferred l):=fun _ _ e=>by cases e
theorem pt(l:Loop) :tJ (.loop l):=fun _ _ e=>by cases e
structure LF (ab bx:Nat) (l:Nat) (k m n:Int) (ws:List Int) (vw:Value) (y t:Int) (W:World):Prop where
  c0:W.cell? ⟨ab,0,none⟩=some (.int .i64 k)
  c1:W.cell? ⟨ab,1,none⟩=some (.int .i64 m)
  c2:W.cell? ⟨ab,2,none⟩=some (.int .i64 n)
  c3:W.cell? ⟨ab,3,none⟩=some vw
  c4:W.cell? ⟨ab,4,none⟩=some (.int .i64 y)
  c5:W.cell? ⟨ab,5,none⟩=some (.int .u64 t)
  cb:W.cell? ⟨bx,0,none⟩=some (.func (.yield l) #[] #[])
  rom:b9 W
  hv:VR aa.none_ W (cK ws) vw
theorem zS{ab bx l:Nat}{k m n:Int}{ws:List Int}{vw:Value}{y t:Int}{W:World}(h:W.heap[ab]? = some (.cells (uN k m n vw y t) 37 (0,0))∧b9 W∧VR aa.none_ W (cK ws) vw)(hbx:Boxed W bx 44 (.func (.yield l) #[] #[])) :
    LF ab bx l k m n ws vw y t W:=by
  obtain ⟨h1,h2,h3⟩:=h
  exact ⟨by simp [World.cell?,h1],by simp [World.cell?,h1],by simp [World.cell?,h1],by simp [World.cell?,h1],by simp [World.cell?,h1],by simp [World.cell?,h1],hbx.cell,h2,h3⟩
theorem wF.lf{B ab bx l:Nat}{k m n:Int}{ws:List Int}{vw:Value}{y t:Int}{J:Option Nat→World→Prop}(hI:wF B ab k m n ws vw y t J){i:Nat}{W W':World}(hJ:J (some i) W)(hbx:Boxed W bx 44 (.func (.yield l) #[] #[]))(hb:Below W.heap.size W W') :
    LF ab bx l k m n ws vw y t W':=zS (hI.ask i W' (hI.mono _ _ _ hJ hb)) ((hb.block bx hbx.lt).trans hbx)
theorem qU{ρ:aa}{W:World}{ws:List Int}{v:Value}(hv:VR ρ W (cK ws) v) :∃ p cap,v=.slice p ws.length cap∧ws.length≤cap∧(1≤ws.length→p.isSome=true):=by
  generalize hA:cK ws=A at hv
  cases hv with
  | imm bw d k es i len cap bl o u ha hb hc hv hl hr hk hg=>cases hA;exact ⟨_,_,rfl,hl,fun _=>rfl⟩
  | immEnd bw d k es i cap a hr hk hg =>
    simp only [cK,AV.imm.injEq] at hA
    obtain ⟨_,_,_,_,_,h0⟩:=hA
    rw [h0]
    exact ⟨_,_,rfl,Nat.zero_le _,fun h=>by omega⟩
  | _=>cases hA
theorem wG{ρ:aa}{W:World}{ws:List Int}{a:Addr}{cap:Nat}(hv:VR ρ W (cK ws) (.slice (some a) ws.length cap))(j c:Nat)(h:j+c≤ws.length) :VR ρ W (cK ((ws.drop j).take c)) (.slice (some (a.add j)) c c):=by
  have hlen:((ws.drop j).take c).length=c:=by rw [List.length_take,List.length_drop];omega
  by_cases hc0:c=0
  · subst hc0
    show VR ρ W (.imm .free (.ns .u64 _) 1 1 0 _) _
    rw [List.take_zero]
    exact .immEnd _ _ _ _ _ _ _ trivial (fun _=>rfl) rfl
  generalize hA:cK ws=A at hv
  generalize hV:Value.slice (some a) ws.length cap=V at hv
  cases hv with
  | imm bw d k es i len cap bl o u ha hb hc hv hl hr hk hg =>
    cases hA
    cases hV
    have:=VR.imm (ρ:=ρ) (w:=W) .free (.ns .u64 ((ws.drop j).take c)) 1 1 0 c c bl (o+0*1+j) (fun x=>u (j+x)) ha hb (fun x v hx=>?_) (fun x v hx=>?_) (Nat.le_refl _) trivial (fun _=>rfl) rfl
    · show VR ρ W (.imm .free (.ns .u64 ((ws.drop j).take c)) 1 1 0 ((ws.drop j).take c).length) _
      rw [hlen]
      have e1:(Addr.mk bl (o+0*1) none).add j=Addr.mk bl (o+0*1+j+0*1) none:=by simp [Addr.add]
      rw [e1]
      exact this
    all_goals
      simp only [ae.cell?,List.getElem?_take,List.getElem?_drop] at hx
      split at hx
      case isFalse=>cases hx
    · have:=hc (j+x) v (by simpa [ae.cell?] using hx)
      rw [show o+0*1+j+x=o+(j+x) by omega]
      exact this
    · exact hv (j+x) v (by simpa [ae.cell?] using hx)
  | immEnd bw d k es i cap a hr hk hg =>
    simp only [cK,AV.imm.injEq] at hA
    obtain ⟨_,_,_,_,_,h0⟩:=hA
    omega
  | _=>cases hA
noncomputable def pu:Code:=match Tryd.f58.body with
  | some (.seq _ (.seq _ t))=>t
  | _=>.skip
noncomputable def x9:Code:=match pu with
  | .seq _ t=>t
  | _=>.skip
set_option maxHeartbeats 4000000 in
theorem pv (d l ab bx B : Nat) (k m n : Int) (ws : List Int) (vw : Value) (y t : Int) (J : Option Nat → World → Prop) (hI : wF B ab k m n ws vw y t J)
    (hm : mB k m n ws.length y t = true) (hbx : B ≤ bx)
    (hY : ∀ d' j x W', (bK k m n ws y t)[j]? = some x → J (some j) W' → YieldAt Fence.wide (d' + 4) prog l #[.string x] W' (fun e W'' => ∃ b : Bool, e = .returned (.bool b) ∧ J (bif b then some (j + 1) else none) W'' ∧ mE B W' W''))
    (Q : Exit → Act → World → Prop) (D : List Deferred) (W3 : World) (hQ : ∀ a W', a.defers = D → mE B W3 W' → J (some (bK k m n ws y t).length) W' ∨ J none W' → Q .normal a W' ∧ Q .ret a W')
    (j : Nat) (hj : (bK k m n ws y t).length = j + 1) (hl : (bK k m n ws y t)[j]? = some (j2 k y t)) (h1 : J (some j) W3) (hx : Boxed W3 bx 44 (.func (.yield l) #[] #[])) (u3 u4 u5 u6 u7 u8 u9 u10 u11 u12 u13 u14 u15 u16 u17 u18 u19 u20 u21 u22 u23 u24 u25 u26 u27 u28 u29 u30 u31 u32 u33 zz : Value) : Code.wpIn Fence.wide (d + 10) prog x9 Q { tmps := #[.func (.yield l) #[] #[], .pointer (some ⟨ab, 0, none⟩), .pointer (some ⟨bx, 0, none⟩), u3, u4, u5, u6, u7, u8, u9, u10, u11, u12, u13, u14, u15, u16, u17, u18, u19, u20, u21, u22, u23, u24, u25, u26, u27, u28, u29, u30, u31, u32, u33, zz], defers := D } W3 := by
  obtain ⟨hm0, hm5, hn0, hn5, hlen, hy0, hy3⟩ := fG hm
  have ky : lS .i64 y = true := cB.2 (by omega)
  delta x9 pu Tryd.f58
  dsimp only
  obtain ⟨c0, c1, c2, c3, c4, c5, cb, rom, hv⟩ := hI.lf h1 hx (Below.refl _ W3).drew
  have ag := lL
  have sz := i6
  have hline := uO k m n ws vw y t ky _ rom hv
  have hY1 := fun W' h => hY (d + 5) j _ W' hl h
  first
    | gi_region_with first
        | (refine ⟨trivial, ?_⟩; gi_at_call 35; refine (callsIn_wide.2 hline).mono ?_; rintro e W1 ⟨rfl, hb1⟩; have hb13 := (Below.refl _ W3).drew.trans hb1; obtain ⟨c10, c11, c12, c13, c14, c15, c1b, rom1, hv1⟩ := hI.lf h1 hx hb13; obtain ⟨fn', tmps', assign', body', hy', hR'⟩ := hY1 W1 (hI.mono _ _ _ h1 hb13))
        | (refine hR'.mono ?_; rintro e W4 ⟨b, rfl, hJ3, hK3⟩)
    | fail
  all_goals
    have hk3 : mE B W3 W4 := ⟨Nat.le_trans hb13.size hK3.1, fun r o h2 h3 h4 => hK3.2 r o h2 ((hb13.block r (aX h3)).trans h3) h4⟩
    refine (hQ _ _ rfl hk3 ?_).1
    rw [hj]
    cases b
    · exact .inr hJ3
    · exact .inl hJ3
theorem y4{α:Type}(h:Array α)(a b c d:α)(k:Nat) :((((h.push a).push b).push c).push d)[h.size+k]? = #[a,b,c,d][k]?:=by
  have e1:((((h.push a).push b).push c).push d)=h ++ #[a,b,c,d]:=by
    apply Array.toList_inj.1
    simp
  rw [e1,Array.getElem?_append_right (Nat.le_add_right _ _),Nat.add_sub_cancel_left]
structure zT (S bx l:Nat) (p:Option Addr) (L cap N:Nat) (rec:LoopState→Option Code→Loop) (J:Option Nat→World→Prop) (j:Nat) (W:World):Prop where
  j:J (some (1+j)) W
  x:Boxed W bx 44 (.func (.yield l) #[] #[])
  c:Boxed W S 22 (.slice p L cap)
  n:Boxed W (S+1) 3 (.int .i64 N)
  d:W.heap[S+2]? = some (.deferred (some []))
  o:W.heap[S+2+1]? = some (.loop (rec .ready none))
structure Ae (S:Nat) (rec:LoopState→Option Code→Loop) (J:Option Nat→World→Prop) (W:World):Prop where
  j:J none W
  d:W.heap[S+2]? = some (.deferred (some []))
  o:W.heap[S+2+1]? = some (.loop (rec .done (some .ret)))
def CJ(S bx l:Nat)(p:Option Addr)(L cap N:Nat)(rec:LoopState→Option Code→Loop)(J:Option Nat→World→Prop) :Option Nat→World→Prop
  | some j,W=>zT S bx l p L cap N rec J j W
  | none,W=>Ae S rec J W
theorem CJ.mono{S bx l:Nat}{p:Option Addr}{L cap N:Nat}{rec:LoopState→Option Code→Loop}{J:Option Nat→World→Prop}(hJ:∀ i W W',J i W→Below W.heap.size W W'→J i W') :
    ∀ i W W',CJ S bx l p L cap N rec J i W→Below W.heap.size W W'→CJ S bx l p L cap N rec J i W'
  | some j,W,W',h,hb=>⟨hJ _ _ _ h.j hb,(hb.block _ h.x.lt).trans h.x,(hb.block _ h.c.lt).trans h.c,(hb.block _ h.n.lt).trans h.n,(hb.block _ (aX h.d)).trans h.d,(hb.block _ (aX h.o)).trans h.o⟩
  | none,W,W',h,hb=>⟨hJ _ _ _ h.j hb,(hb.block _ (aX h.d)).trans h.d,(hb.block _ (aX h.o)).trans h.o⟩
set_option maxHeartbeats 4000000 in
theorem uQ (d l ab bx B : Nat) (k m n : Int) (ws : List Int) (vw : Value) (y t : Int) (J : Option Nat → World → Prop) (hI : wF B ab k m n ws vw y t J)
    (hm : mB k m n ws.length y t = true) (hbx : B ≤ bx)
    (hY : ∀ d' j x W', (bK k m n ws y t)[j]? = some x → J (some j) W' → YieldAt Fence.wide (d' + 4) prog l #[.string x] W' (fun e W'' => ∃ b : Bool, e = .returned (.bool b) ∧ J (bif b then some (j + 1) else none) W'' ∧ mE B W' W''))
    (Q : Exit → Act → World → Prop) (W3 : World)
    (hQ : ∀ a W', (a.defers = [] ∨ ∃ D, B ≤ D ∧ a.defers = [{ target := .collected D, args := #[] }] ∧ W'.heap[D]? = some (.deferred (some []))) → J (some (bK k m n ws y t).length) W' ∨ J none W' → Q .normal a W' ∧ Q .ret a W')
    (h1 : J (some 1) W3) (hx : Boxed W3 bx 44 (.func (.yield l) #[] #[])) (u3 u4 u5 u6 u7 u8 u9 u10 u11 u12 u13 u14 u15 u16 u17 u18 u19 u20 u21 u22 u23 u24 u25 u26 u27 u28 u29 u30 u31 u32 u33 zz : Value) : Code.wpIn Fence.wide (d + 10) prog pu Q { tmps := #[.func (.yield l) #[] #[], .pointer (some ⟨ab, 0, none⟩), .pointer (some ⟨bx, 0, none⟩), u3, u4, u5, u6, u7, u8, u9, u10, u11, u12, u13, u14, u15, u16, u17, u18, u19, u20, u21, u22, u23, u24, u25, u26, u27, u28, u29, u30, u31, u32, u33, zz], defers := [] } W3 := by
  obtain ⟨hm0, hm5, hn0, hn5, hlen, hy0, hy3⟩ := fG hm
  have hch : ∃ x, pu = .seq x x9 ∧ x = (match pu with | .seq x _ => x | _ => .skip) := ⟨_, rfl, rfl⟩
  obtain ⟨x, hx', he⟩ := hch
  rw [hx']
  delta pu Tryd.f58 at he
  dsimp only at he
  rw [he]
  obtain ⟨c0, c1, c2, c3, c4, c5, cb, rom, hv⟩ := hI.lf h1 hx (Below.refl _ W3)
  obtain ⟨N, rfl⟩ := Int.eq_ofNat_of_zero_le hn0
  obtain ⟨M, rfl⟩ := Int.eq_ofNat_of_zero_le hm0
  clear he hx'
  by_cases hN : N = 0
  · subst hN
    have hlin : bK k M ((0 : Nat) : Int) ws y t = [lK M ((0 : Nat) : Int), j2 k y t] := by rw [bK, hm]; rfl
    gi_wp2
    exact pv d l ab bx B k M ((0 : Nat) : Int) ws vw y t J hI hm hbx hY Q [] W3 (fun a W' h2 _ h4 => hQ a W' (.inl h2) h4) 1 (by rw [hlin]; rfl) (by rw [hlin]; rfl) h1 hx _ _ _ _ _ _ _ _ _ _ _ _ _ _ _ _ _ _ _ _ _ _ _ _ _ _ _ _ _ _ _ _
  · have hN1 : (0 : Int) < (N : Int) := by omega
    obtain ⟨p, cap, rfl, hcap, hp⟩ := qU hv
    have hle : ws.length = M * N := by
      have : ((M * N : Nat) : Int) = (ws.length : Int) := by rw [hlen, Int.natCast_mul]
      omega
    rw [hle] at hcap hp hv
    gi_wp2_with (refine ⟨trivial, ?_⟩; gi_at_call 60; refine (callsIn_wide.2 (tI p (M * N) cap N (by omega) W3)).mono ?_; rintro e w' ⟨rfl, rfl⟩)
    obtain ⟨W4, hW4⟩ : ∃ W4, (W3.alloc (.cells #[.slice p (M * N) cap] 22)).alloc (.cells #[.int .i64 N] 3) = W4 := ⟨_, rfl⟩
    rw [hW4]
    have hs4 : W4.heap.size = W3.heap.size + 2 := by rw [← hW4]; simp
    refine kz (gf := 71) (m := d + 9) rfl (enters_of Tryd.func71 (by kernel_rfl) rfl) fun fn rec hrec hy => ?_
    rw [hs4] at hy ⊢
    have hlin : bK k M N ws y t = lK M N :: (((List.range M).map (fun i => pm ((ws.drop (i * N)).take N))) ++ [j2 k y t]) := by
      have hd0 : decide ((N : Int) > 0) = true := decide_eq_true hN1
      rw [bK, hm, hd0]
      rfl
    have hBS : B ≤ W3.heap.size := Nat.le_trans hbx (Nat.le_of_lt hx.lt)
    have hlen1 : (bK k M N ws y t).length = M + 1 + 1 := by rw [hlin]; simp
    have round : ∀ j a W', j < M → p = some a → zT W3.heap.size bx l p (M * N) cap N rec J j W' → YieldAt Fence.wide (d + 8) prog (W3.heap.size + 2 + 1) #[.slice (some (a.add (j * N))) N N] W' (fun e W'' =>
        (e = .returned (.bool true) ∧ zT W3.heap.size bx l p (M * N) cap N rec J (j + 1) W'') ∨ (e = .returned (.bool false) ∧ Ae W3.heap.size rec J W'')) := by
      rintro j a W' hj rfl hS
      refine hy (d + 8) _ W' _ hS.o rfl ?_
      clear hy
      have hL1 : (bK k M N ws y t)[1 + j]? = some (pm ((ws.drop (j * N)).take N)) := by
        rw [hlin, Nat.add_comm, List.getElem?_cons_succ, List.getElem?_append_left (by simpa using hj), List.getElem?_map, List.getElem?_range hj]
        rfl
      have hjN : j * N + N ≤ ws.length := by
        rw [hle]
        calc j * N + N = (j + 1) * N := by rw [Nat.add_mul, Nat.one_mul]
          _ ≤ M * N := Nat.mul_le_mul_right N hj
      gi_wp2
      refine ⟨hS.o, ?_⟩
      obtain ⟨V1, hV1⟩ : ∃ V1, W'.putObj (W3.heap.size + 2 + 1) (.loop (rec .busy none)) = V1 := ⟨_, rfl⟩
      rw [hV1]
      have hlt := aX hS.o
      have hs1 : V1.heap.size = W'.heap.size := by rw [← hV1]; simp
      have hk1 : ∀ r, r ≠ W3.heap.size + 2 + 1 → V1.heap[r]? = W'.heap[r]? := fun r hr => by rw [← hV1]; exact World.putObj_heap_other hr
      have ho1 : V1.heap[W3.heap.size + 2 + 1]? = some (.loop (rec .busy none)) := by rw [← hV1]; exact World.putObj_heap_same hlt
      have hp1 := hI.put _ W' (W3.heap.size + 2 + 1) (.loop (rec .busy none)) _ hS.j (by omega) hS.o rfl
      rw [hV1] at hp1
      have hx1 : Boxed V1 bx 44 (.func (.yield l) #[] #[]) := (hk1 bx (by have := hx.lt; omega)).trans hS.x
      have hbd : Below V1.heap.size V1 V1.drew := (Below.refl _ V1).drew
      obtain ⟨c10, c11, c12, c13, c14, c15, c1b, rom1, hv1⟩ := hI.lf hp1 hx1 hbd
      rw [hle] at hv1
      have hw1 := wG (ws := ws) (a := a) (cap := cap) (by rw [hle]; exact hv1) (j * N) N hjN
      have hrow := wE _ (by rw [List.length_take, List.length_drop]; have := Nat.mul_le_mul (show M ≤ 512 by omega) (show N ≤ 512 by omega); omega) _ _ rom1 hw1
      have hY1 := fun W' h => hY (d + 3) (1 + j) _ W' hL1 h
      gi_wp2
      first
        | gi_region_with first
            | (refine ⟨trivial, ?_⟩; gi_at_call 11; refine (callsIn_wide.2 hrow).mono ?_; rintro e W5 ⟨rfl, hb5⟩; have hb15 := hbd.trans hb5; have hm5 := hI.mono _ _ _ hp1 hb15; obtain ⟨c50, c51, c52, c53, c54, c55, c5b, rom5, hv5⟩ := hI.lf hp1 hx1 hb15; obtain ⟨fn', tmps', assign', body', hy', hR'⟩ := hY1 W5 hm5)
            | (refine hR'.mono ?_; rintro e W6 ⟨b, rfl, hJ6, hK6⟩)
        | fail
      all_goals
        have hk6 : ∀ r o, B ≤ r → r ≠ W3.heap.size + 2 + 1 → W'.heap[r]? = some o → tJ o → W6.heap[r]? = some o := fun r o h1 h2 h3 h4 =>
          hK6.2 r o h1 ((hb15.block r (by rw [hs1]; exact aX h3)).trans ((hk1 r h2).trans h3)) h4
        have hs6 : Hid (W3.heap.size + 2 + 1 < W6.heap.size) := Lib.hid (Nat.lt_of_lt_of_le (by omega) (Nat.le_trans hb15.size hK6.1))
        have ho6 : W6.heap[W3.heap.size + 2 + 1]? = some (.loop (rec .busy none)) := hK6.2 _ _ (by omega) ((hb15.block _ (by omega)).trans ho1) (pt _)
        have hxl := hx.lt
        have g1 := hk6 _ _ (by omega) (by omega) hS.d (jv _)
        have g2 := hk6 _ _ hbx (by omega) hS.x (d9 (by decide))
        have g3 := hk6 _ _ (by omega) (by omega) hS.c (d9 (by decide))
        have g4 := hk6 _ _ (by omega) (by omega) hS.n (d9 (by decide))
        replace g1 := Lib.hid g1
        replace g2 := Lib.hid g2
        replace g3 := Lib.hid g3
        replace g4 := Lib.hid g4
        cases b
        · have hp6 := hI.put _ W6 (W3.heap.size + 2 + 1) (.loop (rec .done (some .ret))) _ hJ6 (by omega) ho6 rfl
          have hfin : Ae W3.heap.size rec J (W6.putObj (W3.heap.size + 2 + 1) (.loop (rec .done (some .ret)))) := ⟨hp6, (World.putObj_heap_other (by omega)).trans g1.out, World.putObj_heap_same hs6.out⟩
          gi_wp2
          all_goals first
            | exact ⟨ho6, hfin⟩
            | exact hfin
        · have hp6 := hI.put _ W6 (W3.heap.size + 2 + 1) (.loop (rec .ready none)) _ hJ6 (by omega) ho6 rfl
          have hfin : zT W3.heap.size bx l (some a) (M * N) cap N rec J (j + 1) (W6.putObj (W3.heap.size + 2 + 1) (.loop (rec .ready none))) := ⟨hp6, (World.putObj_heap_other (by omega)).trans g2.out,
            (World.putObj_heap_other (by omega)).trans g3.out, (World.putObj_heap_other (by omega)).trans g4.out, (World.putObj_heap_other (by omega)).trans g1.out, World.putObj_heap_same hs6.out⟩
          gi_wp2
          all_goals first
            | exact ⟨ho6, hfin⟩
            | exact hfin
    clear hy
    have hlow : Below W3.heap.size W3 ((W4.alloc (.deferred (some []))).alloc (.loop (rec .ready none))) := by
      rw [← hW4]
      refine Below.alloc (Below.alloc (Below.alloc (Below.alloc (Below.refl _ W3) ?_ _) ?_ _) ?_ _) ?_ _
      all_goals simp
      all_goals try omega
    obtain ⟨W0, hW0⟩ : ∃ W0, (W4.alloc (.deferred (some []))).alloc (.loop (rec .ready none)) = W0 := ⟨_, rfl⟩
    rw [hW0] at hlow
    have hat : ∀ r, r < 4 → W0.heap[W3.heap.size + r]? = #[Obj.cells #[.slice p (M * N) cap] 22, .cells #[.int .i64 N] 3, .deferred (some []), .loop (rec .ready none)][r]? := fun r hr => by
      have hh : W0.heap = (((W3.heap.push (.cells #[.slice p (M * N) cap] 22)).push (.cells #[.int .i64 N] 3)).push (.deferred (some []))).push (.loop (rec .ready none)) := by rw [← hW0, ← hW4]; rfl
      rw [hh]
      exact y4 W3.heap _ _ _ _ r
    have hJ0 := hI.mono _ _ _ h1 hlow
    have hS0 : zT W3.heap.size bx l p (M * N) cap N rec J 0 W0 := ⟨hJ0, (hlow.block bx hx.lt).trans hx, hat 0 (by omega), hat 1 (by omega), hat 2 (by omega), hat 3 (by omega)⟩
    rw [hW0]
    refine (x8 (d + 8) (W3.heap.size + 2 + 1) W3.heap.size (W3.heap.size + 1) p M N cap (by omega) (by have := Nat.mul_le_mul (show M ≤ 512 by omega) (show N ≤ 512 by omega); omega) hcap (fun hM => hp (Nat.mul_pos hM (by omega))) W0
      (CJ W3.heap.size bx l p (M * N) cap N rec J) (fun i W' h => ⟨h.c.trans hS0.c.symm, h.n.trans hS0.n.symm⟩) (CJ.mono hI.mono) (fun j a W' h1 h2 h3 => round j a W' h1 h2 h3) hS0.c hS0.n hS0).mono ?_
    rintro e W' ⟨hv', hS | hS⟩
    · refine ⟨hv', .inl ⟨hS.o, ?_⟩⟩
      have hpe := hI.put _ W' (W3.heap.size + 2 + 1) (.loop (rec .exhausted none)) _ hS.j (by omega) hS.o rfl
      have hxl := hx.lt
      have hde : (W'.putObj (W3.heap.size + 2 + 1) (.loop (rec .exhausted none))).heap[W3.heap.size + 2]? = some (.deferred (some [])) := (World.putObj_heap_other (by omega)).trans hS.d
      have hxe : Boxed (W'.putObj (W3.heap.size + 2 + 1) (.loop (rec .exhausted none))) bx 44 (.func (.yield l) #[] #[]) := (World.putObj_heap_other (by omega)).trans hS.x
      obtain ⟨W7, hW7⟩ : ∃ W7, W'.putObj (W3.heap.size + 2 + 1) (.loop (rec .exhausted none)) = W7 := ⟨_, rfl⟩
      rw [hW7] at hpe hde hxe ⊢
      gi_wp2
      exact pv d l ab bx B k M N ws _ y t J hI hm hbx hY Q [{ target := .collected (W3.heap.size + 2), args := #[] }] W7
        (fun a W8 h2 h3 h4 => hQ a W8 (.inr ⟨W3.heap.size + 2, by omega, h2, h3.2 _ _ (by omega) hde (jv _)⟩) h4) (M + 1) hlen1
        (by rw [hlin, List.getElem?_cons_succ, List.getElem?_append_right (by simp)]; simp) (by rw [Nat.add_comm]; exact hpe) hxe _ _ _ _ _ _ _ _ _ _ _ _ _ _ _ _ _ _ _ _ _ _ _ _ _ _ _ _ _ _ _ _
    · refine ⟨hv', .inr ⟨_, hS.o, ?_⟩⟩
      have hpe := hI.put _ W' (W3.heap.size + 2 + 1) (.loop (rec .exhausted (some .ret))) _ hS.j (by omega) hS.o rfl
      have hde : (W'.putObj (W3.heap.size + 2 + 1) (.loop (rec .exhausted (some .ret)))).heap[W3.heap.size + 2]? = some (.deferred (some [])) := (World.putObj_heap_other (by omega)).trans hS.d
      obtain ⟨W7, hW7⟩ : ∃ W7, W'.putObj (W3.heap.size + 2 + 1) (.loop (rec .exhausted (some .ret))) = W7 := ⟨_, rfl⟩
      rw [hW7] at hpe hde ⊢
      gi_wp2
      exact (hQ _ W7 (.inr ⟨W3.heap.size + 2, by omega, rfl, hde⟩) (.inr hpe)).2
set_option maxHeartbeats 4000000 in
theorem ya (d l ab B : Nat) (k m n : Int) (ws : List Int) (vw : Value) (y t : Int) (J : Option Nat → World → Prop) (hI : wF B ab k m n ws vw y t J)
    (hY : ∀ d' j x W', (bK k m n ws y t)[j]? = some x → J (some j) W' → YieldAt Fence.wide (d' + 4) prog l #[.string x] W' (fun e W'' => ∃ b : Bool, e = .returned (.bool b) ∧ J (bif b then some (j + 1) else none) W'' ∧ mE B W' W''))
    (W : World) (hB : B = W.heap.size) (h0 : J (some 0) W) :
    CallsIn Fence.wide (d + 10) prog 58 #[.func (.yield l) #[] #[], .pointer (some ⟨ab, 0, none⟩)] W (fun e W' => (∃ v, e = .returned v) ∧ (J (some (bK k m n ws y t).length) W' ∨ J none W')) := by
  refine callsIn_of_wp_marks Tryd.func58 rfl trivial ?_ rfl
  simp only [Tryd.ntmps58, List.size_toArray, List.length_cons, List.length_nil, Nat.reduceAdd, Nat.reduceSub, Array.replicate_succ, Array.replicate_zero, List.push_toArray, List.append_toArray, List.nil_append, List.cons_append]
  obtain ⟨W0, hW0⟩ : ∃ W0, W.alloc (.cells #[.func (.yield l) #[] #[]] 44) = W0 := ⟨_, rfl⟩
  have hs0 : W0.heap.size = W.heap.size + 1 := by rw [← hW0]; simp
  have hb0 : Below W.heap.size W W0 := by rw [← hW0]; exact (Below.refl _ _).alloc (Nat.le_refl _) _
  have hx0 : Boxed W0 W.heap.size 44 (.func (.yield l) #[] #[]) := by rw [← hW0]; exact Boxed.new _ _ _
  have hJ0 := hI.mono _ _ _ h0 hb0
  obtain ⟨c0, c1, c2, c3, c4, c5, cb, rom, hv⟩ := hI.lf hJ0 hx0 (Below.refl _ W0).drew
  have ag := lL
  have sz := i6
  have hmay := qT k m n ws vw y t _ rom hv
  cases hm : mB k m n ws.length y t with
  | false =>
    have hlin : bK k m n ws y t = [] := by simp [bK, hm]
    rw [hlin] at hY ⊢
    rw [hm] at hmay
    gi_wp2
    first
      | gi_region_with first
          | (refine ⟨trivial, ?_⟩; gi_at_call 41; refine (callsIn_wide.2 hmay).mono ?_; rintro e W1 ⟨rfl, hb1⟩)
          | (refine (⟨trivial, ?_⟩ : Fence.wide.fn 59 ∧ _))
          | (refine (⟨by simp, ?_⟩ : (∀ (f : FuncId), none = some f → Fence.wide.fn f) ∧ _))
      | fail
    all_goals gi_wp2
    all_goals exact ⟨_, results_none rfl _ _ _, ⟨_, rfl⟩, .inl (hI.mono _ _ _ hJ0 ((Below.refl _ W0).drew.trans hb1))⟩
  | true =>
    rw [hm] at hmay
    obtain ⟨hm0, hm5, hn0, hn5, hlen, hy0, hy3⟩ := fG hm
    have km : lS .i64 m = true := cB.2 (by omega)
    have kn : lS .i64 n = true := cB.2 (by omega)
    have hl1 : (bK k m n ws y t)[0]? = some (lK m n) := by rw [bK, hm]; rfl
    have hY1 := fun W' h => hY (d + 5) 0 _ W' hl1 h
    change Code.wpIn _ _ _ (.seq _ (.seq _ pu)) _ _ _
    gi_wp2
    first
      | gi_region_with first
          | (refine ⟨trivial, ?_⟩; gi_at_call 41; refine (callsIn_wide.2 hmay).mono ?_; rintro e W1 ⟨rfl, hb1⟩; have hb01 := (Below.refl _ W0).drew.trans hb1; obtain ⟨c10, c11, c12, c13, c14, c15, c1b, rom1, hv1⟩ := hI.lf hJ0 hx0 hb01; have hhead := uP m n km kn _ rom1)
          | (refine ⟨trivial, ?_⟩; gi_at_call 59; refine (callsIn_wide.2 hhead).mono ?_; rintro e W2 ⟨rfl, hb2⟩; have hb02 := hb01.trans (hb2.mono (show W0.heap.size ≤ W1.heap.size from hb01.size)); have hJ2 := hI.mono _ _ _ hJ0 hb02; obtain ⟨c20, c21, c22, c23, c24, c25, c2b, rom2, hv2⟩ := hI.lf hJ0 hx0 hb02; obtain ⟨fn', tmps', assign', body', hy', hR'⟩ := hY1 W2 hJ2)
          | (refine hR'.mono ?_; rintro e W3 ⟨b, rfl, hJ3, hK3⟩)
      | fail
    all_goals
      cases b
      · gi_wp2
        exact ⟨_, results_none rfl _ _ _, ⟨_, rfl⟩, .inr hJ3⟩
      · gi_wp2
        have hx3 : Boxed W3 W.heap.size 44 (.func (.yield l) #[] #[]) := hK3.2 _ _ (by omega) ((hb02.block _ hx0.lt).trans hx0) (d9 (by decide))
        refine uQ d l ab W.heap.size B k m n ws vw y t J hI hm (by omega) hY _ W3 (fun a W' h1 h2 => ?_) hJ3 hx3 _ _ _ _ _ _ _ _ _ _ _ _ _ _ _ _ _ _ _ _ _ _ _ _ _ _ _ _ _ _ _ _
        have key : LeavesInM Fence.wide (d + 10) prog Tryd.f58 a.tmps (fun e W' => (∃ v, e = .returned v) ∧ (J (some (bK k m n ws y t).length) W' ∨ J none W')) a.defers .returning W' := by
          rcases h1 with h1 | ⟨D, h3, h1, h4⟩
          · rw [h1]
            exact ⟨_, results_none rfl _ _ _, ⟨_, rfl⟩, h2⟩
          · rw [h1]
            refine ⟨by simp, .inl ⟨_, _, rfl, run_takeDeferred h4, ?_⟩⟩
            refine ⟨_, results_none rfl _ _ _, ⟨_, rfl⟩, ?_⟩
            rcases h2 with h2 | h2
            · exact .inl (hI.put _ _ _ _ _ h2 h3 h4 rfl)
            · exact .inr (hI.put _ _ _ _ _ h2 h3 h4 rfl)
        exact ⟨key, key⟩
structure nh where
  k:Int
  m:Int
  n:Int
  ws:List Int
  y:Int
  t:Int
def nh.may(a:nh) :Bool:=mB a.k a.m a.n a.ws.length a.y a.t
def nh.lines(a:nh) :List ByteArray:=bK a.k a.m a.n a.ws a.y a.t
def zu(s:ByteArray) :List UInt8:=s.data.toList++[10]
def kB(l:List ByteArray) :List UInt8:=(l.map zu).flatten
def ct(l:List nh) :List UInt8:=(l.map fun a=>kB a.lines).flatten
def ni(l:List nh) :ByteArray:=if l.any (fun a=>!a.may)=true then ByteArray.empty else if 64<l.length then ByteArray.empty else if 8388608<(ct l).length then ByteArray.empty else ⟨(ct l).toArray⟩
def nj(l:List nh) :Int:=if l.any (fun a=>!a.may)=true then 2 else if 64<l.length then 3 else if 8388608<(ct l).length then 3 else 0
structure vK (W:World) (bl o:Nat) (a:nh) (vw:Value):Prop where
  c0:W.cell? ⟨bl,o,none⟩=some (.int .i64 a.k)
  c1:W.cell? ⟨bl,o+1,none⟩=some (.int .i64 a.m)
  c2:W.cell? ⟨bl,o+2,none⟩=some (.int .i64 a.n)
  c3:W.cell? ⟨bl,o+3,none⟩=some vw
  c4:W.cell? ⟨bl,o+4,none⟩=some (.int .i64 a.y)
  c5:W.cell? ⟨bl,o+5,none⟩=some (.int .u64 a.t)
  v:VR aa.none_ W (cK a.ws) vw
  lt:bl<W.heap.size
abbrev nh.V(a:nh)(vw:Value) :Array Value:=uN a.k a.m a.n vw a.y a.t
theorem vK.below{W W':World}{bl o:Nat}{a:nh}{vw:Value}(h:vK W bl o a vw)(hb:Below W.heap.size W W') :vK W' bl o a vw:=by
  have e:∀ j,W'.cell? ⟨bl,j,none⟩=W.cell? ⟨bl,j,none⟩:=fun j=>hb.cell (p:=⟨bl,j,none⟩) h.lt
  exact ⟨(e _).trans h.c0,(e _).trans h.c1,(e _).trans h.c2,(e _).trans h.c3,(e _).trans h.c4,(e _).trans h.c5,h.v.mono (cM.refl _ _) (f9 hb),Nat.lt_of_lt_of_le h.lt hb.size⟩
def kC(W:World)(bl o:Nat)(l:List nh) :Prop:=∀ i a,l[i]? = some a→∃ vw,vK W bl (o+i*6) a vw
theorem kC.below{W W':World}{bl o:Nat}{l:List nh}(h:kC W bl o l)(hb:Below W.heap.size W W') :kC W' bl o l:=fun i a hi=>(h i a hi).imp fun _ q=>q.below hb
set_option maxHeartbeats 2000000 in
theorem sc (a : nh) (vw : Value) (w : World) (hR : b9 w) (hv : VR aa.none_ w (cK a.ws) vw) : Calls prog 40 #[.agg (a.V vw)] w fun e w' => e = .returned (.bool (!a.may)) ∧ Below w.heap.size w w' := by
  have hb : Below w.heap.size w (w.alloc (.cells (a.V vw) 37)) := (Below.refl _ w).alloc (Nat.le_refl _) _
  have hmay := qT a.k a.m a.n a.ws vw a.y a.t (w.alloc (.cells (a.V vw) 37)) (hR.below hb (Nat.le_refl _)) (hv.mono (cM.refl _ _) (f9 hb))
  have ag := lL
  have sz := i6
  go_enter Tryd.func40, Tryd.ntmps40
  go_wp2_with (go_at_call 41; refine hmay.mono ?_; rintro e w' ⟨rfl, hb1⟩)
  go_ret
  exact ⟨rfl, hb.trans (hb1.mono (by simp))⟩
theorem i7{F:Fence}{n:Nat}{P:Program}{fn:Func}{tmps:Array Value}{R:Ending→World→Prop}{v:Value}(n0:Nat)(hr:∀ W,(results fn tmps).run P W=.ok v W)(Pw:World→Prop) 
    (hP:∀ W D,n0≤D→Pw W→Pw (W.putObj D (.deferred none))) (hR:∀ W,Pw W→R (.returned v) W):∀ (Ds:List Nat) (W:World),Ds.Nodup→(∀ D∈Ds,n0≤D∧W.heap[D]? = some (.deferred (some [])))→Pw W →
      LeavesInM F n P fn tmps R (Ds.map fun D=>({ target:=.collected D,args:=#[] }:Deferred)) .returning W
  | [],W,_,_,h=>⟨_,hr W,hR W h⟩
  | D::Ds,W,hn,hD,h=>by
    have h1:=hD D (List.mem_cons_self ..)
    obtain ⟨hn1,hn2⟩:=List.nodup_cons.1 hn
    refine ⟨by simp,.inl ⟨_,_,rfl,run_takeDeferred h1.2,?_⟩⟩
    refine i7 n0 hr Pw hP hR Ds _ hn2 (fun D' h'=>?_) (hP W D h1.1 h)
    have h2:=hD D' (List.mem_cons_of_mem _ h')
    exact ⟨h2.1,(World.putObj_heap_other (fun e=>hn1 (by rw [←e];exact h'))).trans h2.2⟩
set_option maxHeartbeats 2000000 in
theorem wH (bl o cap : Nat) (l : List nh) (hl : l.length ≤ 1000000000) (w : World) (hR : b9 w) (hA : kC w bl o l) (p : Option Addr) (hp : 1 ≤ l.length → p = some ⟨bl, o, none⟩) :
    Calls prog 56 #[.slice p l.length cap, .func (.func 40) #[] #[]] w fun e w' => (∃ r : Int, e = .returned (.int .i64 r) ∧ (0 ≤ r ↔ l.any (fun a => !a.may) = true)) ∧ Below w.heap.size w w' := by
  have ag := lL
  have sz := i6
  go_enter Tryd.func56, Tryd.ntmps56
  go_wp2
  go_loopw [8] (fun t W => ∃ i : Nat, t = .int .i64 i ∧ i ≤ l.length ∧ (l.take i).any (fun a => !a.may) = false ∧ Below w.heap.size w W) (fun t _ => l.length - (intOf t).toNat)
  case atStart => exact ⟨0, rfl, Nat.zero_le _, rfl, Below.refl _ _⟩
  case round =>
    obtain ⟨i, rfl, hi, hany, hb⟩ := hrel
    by_cases hlt : i < l.length
    · obtain ⟨a, ha⟩ : ∃ a, l[i]? = some a := ⟨_, List.getElem?_eq_getElem hlt⟩
      have hA' := hA.below hb
      obtain ⟨vw, hk⟩ := hA' i a ha
      obtain ⟨c0, c1, c2, c3, c4, c5, hv, hbl⟩ := hk
      have hcall := sc a vw wr (hR.below hb (Nat.le_refl _)) hv
      have hpp := hp (by omega)
      subst hpp
      go_wp2_with (go_at_call 40; refine hcall.mono ?_; rintro e w' ⟨rfl, hb1⟩)
      · go_ret
        have h1 : (!a.may) = true := by assumption
        exact ⟨⟨i, rfl, fun _ => List.any_eq_true.2 ⟨a, List.mem_of_getElem? ha, h1⟩, fun _ => Int.natCast_nonneg _⟩, hb.trans (hb1.mono hb.size)⟩
      · have h1 : (!a.may) = false := by assumption
        refine ⟨⟨i + 1, by go_num, by omega, ?_, hb.trans (hb1.mono hb.size)⟩, by simp [intOf]; omega⟩
        rw [List.take_add_one, ha, List.any_append, hany]
        simpa using h1
    · have he : i = l.length := by omega
      rw [he, List.take_length] at hany
      go_wp2
      go_ret
      exact ⟨⟨-1, rfl, fun h => absurd h (by decide), fun h => by rw [hany] at h; cases h⟩, hb⟩
theorem px(bl o cap:Nat)(l:List nh)(hl:l.length≤1000000000)(w:World)(hR:b9 w)(hA:kC w bl o l)(p:Option Addr)(hp:1≤l.length→p=some ⟨bl,o,none⟩) :
    Calls prog 39 #[.slice p l.length cap,.func (.func 40) #[] #[]] w fun e w'=>e=.returned (.bool (l.any fun a=>!a.may))∧Below w.heap.size w w':=by
  have h:=wH bl o cap l hl w hR hA p hp
  go_enter Tryd.func39,Tryd.ntmps39
  go_wp2_with (go_at_call 56;refine h.mono ?_;rintro e w' ⟨⟨r,rfl,hr⟩,hb⟩;replace hr:=Lib.hid hr)
  go_ret
  replace hr:=hr.out
  refine ⟨?_,hb⟩
  show Ending.returned (Value.bool (decide (r≥0)))=_
  cases hq:l.any (fun a=>!a.may) with
  | true=>rw [decide_eq_true (show r≥0 from hr.2 hq)]
  | false =>
    have : ¬ r≥0:=fun c=>by rw [hr.1 c] at hq;cases hq
    rw [decide_eq_false this]
theorem wI(ws:List Int) :(pm ws).size≤17*ws.length:=by
  have:=mD (ws.map bi)
  rw [pm,pn]
  have e:((ws.map bi).map fun s=>s.size+1).sum=17*ws.length:=by
    clear this
    induction ws with
    | nil=>rfl
    | cons x l ih=>simp only [List.map_cons,List.sum_cons,List.length_cons,g6] at ih ⊢;omega
  omega
theorem py(m n:Int) :(lK m n).size≤50:=by
  have h1:=dL m
  have h2:=dL n
  have e1:(ByteArray.mk #[109,97,116,114,105,120,32]).size=7:=rfl
  have e2:yh.size=1:=rfl
  unfold lK
  simp only [ByteArray.size_append,e1,e2]
  omega
theorem pz(k y t:Int) :(j2 k y t).size≤46:=by
  have hw:=tH k
  have h1:=dL y
  have h2:=g6 t
  have e3:yh.size=1:=rfl
  unfold j2
  cases decide (((lJ k).2.2.1:Int)>0)<;>cases (lJ k).2.2.2.1<;>simp only [cond_true,cond_false,ByteArray.size_append,e3]<;>omega
theorem pA{a:nh}(h:a.may=true) :a.lines.length≤514∧∀ x∈a.lines,x.size≤9000:=by
  obtain ⟨h1,h2,h3,h4,h5,_⟩:=fG h
  unfold nh.lines bK
  rw [show mB a.k a.m a.n a.ws.length a.y a.t=true from h]
  simp only [cond_true]
  cases hd:decide (a.n>0) with
  | false =>
    refine ⟨by simp,fun x hx=>?_⟩
    simp only [cond_false,List.nil_append,List.mem_cons,List.not_mem_nil,or_false] at hx
    rcases hx with rfl | rfl
    · have:=py a.m a.n;omega
    · have:=pz a.k a.y a.t;omega
  | true =>
    refine ⟨by simp;omega,fun x hx=>?_⟩
    simp only [cond_true,List.mem_cons,List.mem_append,List.mem_map,List.not_mem_nil,or_false] at hx
    rcases hx with rfl | ⟨i,_,rfl⟩ | rfl
    · have:=py a.m a.n;omega
    · have h9:=wI ((a.ws.drop (i*a.n.toNat)).take a.n.toNat)
      have:=List.length_take_le a.n.toNat (a.ws.drop (i*a.n.toNat))
      omega
    · have:=pz a.k a.y a.t;omega
theorem tK{L:List ByteArray}(h:∀ x∈L,x.size≤9000) :(kB L).length≤L.length*9001:=by
  induction L with
  | nil=>simp [kB]
  | cons x L ih =>
    have h1:=h x (List.mem_cons_self ..)
    have h2:=ih fun y hy=>h y (List.mem_cons_of_mem _ hy)
    have h3:(zu x).length=x.size+1:=by simp [zu]
    unfold kB at h2 ⊢
    simp only [List.map_cons,List.flatten_cons,List.length_append,List.length_cons,h3]
    omega
theorem wJ{l:List nh}(hm:∀ a∈l,a.may=true) :(ct l).length≤l.length*5000000:=by
  induction l with
  | nil=>simp [ct]
  | cons a l ih =>
    have h1:=pA (hm a (List.mem_cons_self ..))
    have h2:=ih fun y hy=>hm y (List.mem_cons_of_mem _ hy)
    have h3:=tK h1.2
    unfold ct at h2 ⊢
    simp only [List.map_cons,List.flatten_cons,List.length_append,List.length_cons]
    omega
theorem wK(L:List ByteArray)(x:ByteArray) :kB (L++[x])=kB L++zu x:=by simp [kB]
theorem uR(L:List nh)(a:nh) :ct (L++[a])=ct L++kB a.lines:=by simp [ct]
theorem mF(x y:List UInt8) :Lib.byteCells (x++y)=Lib.byteCells x++Lib.byteCells y:=by simp [Lib.byteCells]
theorem tL(a:nh)(vw:Value)(w:World) :Calls prog 42 #[.agg (a.V vw)] w fun e w'=>e=.returned (.func (.func 58) #[] #[.pointer (some ⟨w.heap.size,0,none⟩)])∧w'=w.alloc (.cells (a.V vw) 37):=by
  have hmf:∀ (fn:Fn) (first cap:Array Value) (w:World),(Instr.makeFunc fn first cap).run prog w=.ok (.func fn first cap) w:=fun _ _ _ _=>rfl
  go_enter Tryd.func42,Tryd.ntmps42
  go_wp2
  go_ret
  exact ⟨rfl,rfl⟩
theorem g7{T e:TypeId}{B b:Nat}{bs:List Value}{W W':World}(h:Lib.IsBuilderF T e B b bs W)(hk:∀ (k:Nat) (c:Array Value) (t:TypeId) (fz:Nat×Nat),W.heap[k]? = some (Obj.cells c t fz)→W'.heap[k]? = some (Obj.cells c t fz)) :Lib.IsBuilderF T e B b bs W':=by
  have key:∀ p,Lib.BuilderAtF T e B b p bs W→Lib.BuilderAtF T e B b p bs W':=by
    rintro p ⟨h1,v,h2,h3,h4⟩
    refine ⟨h1,v,hk _ _ _ _ h2,⟨h3.1,?_⟩,h4⟩
    rcases h3.2 with q | ⟨g,cap,cur,fz,q1,q2,q3,q4⟩
    · exact .inl q
    · exact .inr ⟨g,cap,cur,fz,q1,q2,hk _ _ _ _ q3,q4⟩
  exact h.imp (key _) (key _)
theorem kD{T e:TypeId}{B b:Nat}{bs:List Value}{W:World}(h:Lib.IsBuilderF T e B b bs W) :b<W.heap.size:=by
  rcases h with ⟨_,v,h,_⟩ | ⟨_,v,h,_⟩
  · exact aX h
  · exact aX h
theorem tM(W:World) :Lib.IsBuilderF 74 5 W.heap.size W.heap.size (Lib.byteCells []) (W.alloc (.cells #[.pointer none,.slice none 0 0] 74)):=by
  refine .inl ⟨Nat.le_refl _,.slice none 0 0,World.alloc_heap_new W _,⟨rfl,.inl ⟨rfl,rfl⟩⟩,by simp [Value.ownBlock]⟩
abbrev yb(D:Nat) :Deferred:={ target:=.collected D,args:=#[] }
theorem lM(B b:Nat)(bs:List Value)(s:ByteArray)(w:World)(h:Lib.IsBuilderF 74 5 B b bs w)(hlen:bs.length+s.size≤140737488355328)(hBw:B≤w.heap.size) :
    Calls Tryd.prog 43 #[.pointer (some ⟨b,0,none⟩),.string s] w fun e w'=>e=.returned (.tuple #[.int .i64 s.size,.nilIface])∧(Lib.BuilderAtF 74 5 B b (.pointer (some ⟨b,0,none⟩)) (bs++Lib.strCells s) w'∧Below B w w'∧Lib.OthersKept 5 (some b) w w') :=
  Any.Builder_WriteString_k { gR with } bW B b bs s w h hlen hBw
structure TJ (w:World) (bb ab L:Nat) (cs:Array Value) (Ds:List Nat) (obj:Obj) (pre:List UInt8) (W:World):Prop where
  b:Lib.IsBuilderF 74 5 bb bb (Lib.byteCells pre) W
  a:W.heap[ab]? = some (.cells cs 37 (0,0))
  low:Below w.heap.size w W
  ds:∀ D∈Ds,W.heap[D]? = some (.deferred (some []))
  o:W.heap[L]? = some obj
def As(w:World)(bb ab L:Nat)(cs:Array Value)(Ds:List Nat)(obj:Obj)(pre:List UInt8)(lines:List ByteArray) :Option Nat→World→Prop
  | some j,W=>TJ w bb ab L cs Ds obj (pre++kB (lines.take j)) W
  | none,_=>False
theorem TJ.below{w:World}{bb ab L:Nat}{cs:Array Value}{Ds:List Nat}{obj:Obj}{pre:List UInt8}{W W':World}(h:TJ w bb ab L cs Ds obj pre W)(hb:Below W.heap.size W W') :TJ w bb ab L cs Ds obj pre W' :=
  ⟨g7 h.b fun k c t fz q=>(hb.block k (aX q)).trans q,(hb.block _ (aX h.a)).trans h.a,h.low.trans (hb.mono h.low.size),fun D hD=>(hb.block _ (aX (h.ds D hD))).trans (h.ds D hD),(hb.block _ (aX h.o)).trans h.o⟩
theorem TJ.put{w:World}{bb ab L:Nat}{cs:Array Value}{Ds:List Nat}{obj obj':Obj}{pre:List UInt8}{W:World}(h:TJ w bb ab L cs Ds obj pre W)(r:Nat)(ob o':Obj)(hw:w.heap.size≤r)(ho:W.heap[r]? = some o')(hc:o'.isCells=false)(hD:∀ D∈Ds,r≠D) 
    (hL:(r≠L∧obj'=obj)∨(r=L∧obj'=ob)):TJ w bb ab L cs Ds obj' pre (W.putObj r ob):=by
  have nc:∀ k c t fz,W.heap[k]? = some (.cells c t fz)→k≠r:=fun k c t fz q e=>by
    rw [e,ho] at q;cases q;cases hc
  refine ⟨g7 h.b fun k c t fz q=>(World.putObj_heap_other (nc k c t fz q)).trans q,(World.putObj_heap_other (nc _ _ _ _ h.a)).trans h.a,cC h.low hw _,fun D q=>(World.putObj_heap_other (fun e=>hD D q e.symm)).trans (h.ds D q),?_⟩
  rcases hL with ⟨h1,rfl⟩ | ⟨rfl,rfl⟩
  · exact (World.putObj_heap_other (fun e=>h1 e.symm)).trans h.o
  · exact World.putObj_heap_same (aX ho)
def zU(w:World)(bb:Nat)(p:Option Addr)(cap:Nat)(l:List nh)(a:Act)(W:World) :Prop :=
  ∃ (i:Nat) (Ds:List Nat) (u6 u7 u12 u16 u17 u18 u19 u20 u21 u22 u23 u24 u25:Value),a = { tmps:=#[.slice p l.length cap,undef,.string ⟨#[]⟩,.int .i64 0,.pointer (some ⟨bb,0,none⟩),undef,u6,u7,.slice p l.length cap,.bool false,.slice p l.length cap,.int .i64 l.length,u12,.slice p l.length cap,.int .i64 l.length,.int .i64 i,u16,u17,u18,u19,u20,u21,u22,u23,u24,u25,undef,undef,undef],defers:=Ds.map yb }∧i≤l.length∧Lib.IsBuilderF 74 5 bb bb (Lib.byteCells (ct (l.take i))) W∧Below w.heap.size w W∧Ds.Nodup ∧
    ∀ D∈Ds,w.heap.size≤D∧W.heap[D]? = some (.deferred (some []))
set_option maxHeartbeats 4000000 in
theorem tN (bl o cap : Nat) (l : List nh) (hl : l.length ≤ 1000000000) (w : World) (hR : b9 w) (hA : kC w bl o l) (p : Option Addr) (hp : 1 ≤ l.length → p = some ⟨bl, o, none⟩) :
    Calls prog dU #[.slice p l.length cap] w fun e w' => e = .returned (.tuple #[.string (ni l), .int .i64 (nj l)]) ∧ Below w.heap.size w w' := by
  have hany := px bl o cap l hl w hR hA p hp
  refine (callsIn_wide (n := 20)).1 (callsIn_of_wp_marks Tryd.func19 rfl trivial ?_)
  simp only [Tryd.ntmps19, List.size_toArray, List.length_cons, List.length_nil, Nat.reduceAdd, Nat.reduceSub, Array.replicate_succ, Array.replicate_zero, List.push_toArray, List.append_toArray, List.nil_append, List.cons_append]
  cases ha : l.any (fun a => !a.may) with
  | true =>
    have e1 : ni l = ByteArray.empty ∧ nj l = 2 := ⟨if_pos ha, if_pos ha⟩
    rw [ha] at hany
    rw [e1.1, e1.2]
    gi_wp2_with (refine ⟨trivial, ?_⟩; gi_at_call 39; refine (callsIn_wide.2 hany).mono ?_; rintro e w' ⟨rfl, hb⟩)
    exact ⟨_, results_tmp2 rfl _ _ _, rfl, hb⟩
  | false =>
    have hf : ¬ l.any (fun a => !a.may) = true := by rw [ha]; decide
    rw [ha] at hany
    by_cases h64 : 64 < l.length
    · have e1 : ni l = ByteArray.empty ∧ nj l = 3 := by unfold ni nj; rw [if_neg hf, if_neg hf, if_pos h64, if_pos h64]; exact ⟨rfl, rfl⟩
      rw [e1.1, e1.2]
      gi_wp2_with (refine ⟨trivial, ?_⟩; gi_at_call 39; refine (callsIn_wide.2 hany).mono ?_; rintro e w' ⟨rfl, hb⟩)
      exact ⟨_, results_tmp2 rfl _ _ _, rfl, hb⟩
    · have e1 : ni l = (if 8388608 < (ct l).length then ByteArray.empty else ⟨(ct l).toArray⟩) ∧ nj l = (if 8388608 < (ct l).length then 3 else 0) := by unfold ni nj; rw [if_neg hf, if_neg hf, if_neg h64, if_neg h64]; exact ⟨rfl, rfl⟩
      rw [e1.1, e1.2]
      clear hf e1
      gi_wp2_with (refine ⟨trivial, ?_⟩; gi_at_call 39; refine (callsIn_wide.2 hany).mono ?_; rintro e w1 ⟨rfl, hb⟩)
      have hbn := tM w1
      have hbw : Below w.heap.size w (w1.alloc (.cells #[.pointer none, .slice none 0 0] 74)) := hb.alloc hb.size _
      have hwb : w.heap.size ≤ w1.heap.size := hb.size
      obtain ⟨W1, hW1⟩ : ∃ W1, w1.alloc (.cells #[.pointer none, .slice none 0 0] 74) = W1 := ⟨_, rfl⟩
      obtain ⟨bb, hbb⟩ : ∃ bb, w1.heap.size = bb := ⟨_, rfl⟩
      have hs1 : W1.heap.size = bb + 1 := by rw [← hW1, ← hbb]; simp
      rw [hW1, hbb] at hbn ⊢
      rw [hW1] at hbw
      rw [hbb] at hwb
      clear hW1 hbb hb hany
      refine wpIn_loop (zU w bb p cap l) (fun a _ => l.length - (intOf (a.tmps.getD 15 undef)).toNat) ⟨0, [], _, _, _, _, _, _, _, _, _, _, _, _, _, rfl, Nat.zero_le _, hbn, hbw, List.nodup_nil, by simp⟩ ?_
      rintro a W ⟨i, Ds, u6, u7, u12, u16, u17, u18, u19, u20, u21, u22, u23, u24, u25, rfl, hi, hbld, hlow, tC, hds⟩
      by_cases hlt : i < l.length
      · obtain ⟨a, hai⟩ : ∃ a, l[i]? = some a := ⟨_, List.getElem?_eq_getElem hlt⟩
        obtain ⟨vw, hk0⟩ := hA i a hai
        have hk := hk0.below (hlow.mono (Nat.le_refl _))
        have hv0 := hk0.v
        obtain ⟨c0, c1, c2, c3, c4, c5, hv, hbl⟩ := hk
        have hpp := hp (by omega)
        subst hpp
        obtain ⟨pw, cw, rfl, hcw, hpw⟩ := qU hv
        have ag := lL
        have sz := i6
        gi_wp2_with (refine ⟨trivial, ?_⟩; gi_at_call 42; refine (callsIn_wide.2 (tL a (.slice pw a.ws.length cw) _)).mono ?_; rintro e w' ⟨rfl, rfl⟩)
        have hin : a ∈ l := List.mem_of_getElem? hai
        have hmay : ∀ b ∈ l, b.may = true := fun b hb => by
          have := List.any_eq_false.1 ha b hb
          simpa using this
        have hsz := pA (hmay a hin)
        have hpre : (ct (l.take i)).length ≤ 64 * 5000000 := by
          have := wJ (l := l.take i) fun b hb => hmay b (List.mem_of_mem_take hb)
          have h2 : (l.take i).length ≤ 64 := by rw [List.length_take]; omega
          exact Nat.le_trans this (Nat.mul_le_mul_right _ h2)
        obtain ⟨W2, hW2⟩ : ∃ W2, (W.alloc (.cells (a.V (.slice pw a.ws.length cw)) 37)).alloc (.cells (a.V (.slice pw a.ws.length cw)) 37) = W2 := ⟨_, rfl⟩
        rw [hW2]
        have hs2 : W2.heap.size = W.heap.size + 2 := by rw [← hW2]; simp
        refine kz (gf := 58) (m := 19) rfl (enters_of Tryd.func58 (by kernel_rfl) rfl) fun fn rec hrec hy => ?_
        rw [hs2] at hy ⊢
        have hWb : bb < W.heap.size := kD hbld
        obtain ⟨W0, hW0⟩ : ∃ W0, (W2.alloc (.deferred (some []))).alloc (.loop (rec .ready none)) = W0 := ⟨_, rfl⟩
        have hs0 : W0.heap.size = W.heap.size + 4 := by rw [← hW0]; simp [hs2]
        have hlow0 : Below W.heap.size W W0 := by
          rw [← hW0, ← hW2]
          refine Below.alloc (Below.alloc (Below.alloc (Below.alloc (Below.refl _ W) ?_ _) ?_ _) ?_ _) ?_ _
          all_goals simp
          all_goals try omega
        have hat : ∀ r, W0.heap[W.heap.size + r]? = #[Obj.cells (a.V (.slice pw a.ws.length cw)) 37, .cells (a.V (.slice pw a.ws.length cw)) 37, .deferred (some []), .loop (rec .ready none)][r]? := fun r => by
          rw [← hW0, ← hW2]
          exact y4 W.heap _ _ _ _ r
        obtain ⟨T, hT⟩ : ∃ T, As w bb (W.heap.size + 1) (W.heap.size + 2 + 1) (a.V (.slice pw a.ws.length cw)) ((W.heap.size + 2) :: Ds) (.loop (rec .ready none)) (ct (l.take i)) a.lines = T := ⟨_, rfl⟩
        have hI : wF W0.heap.size (W.heap.size + 1) a.k a.m a.n a.ws (.slice pw a.ws.length cw) a.y a.t T := by
          rw [← hT]
          refine ⟨fun j V h => ⟨h.a, hR.below h.low (Nat.le_refl _), hv0.mono (cM.refl _ _) (f9 h.low)⟩, fun j V V' h hb => ?_, fun j V r ob o' h h1 h2 h3 => ?_⟩
          · cases j with
            | none => exact h
            | some j => exact TJ.below h hb
          · cases j with
            | none => exact h
            | some j =>
              refine TJ.put h r ob o' (by have := hlow.size; omega) h2 h3 (fun D hD => ?_) (.inl ⟨by omega, rfl⟩)
              rcases List.mem_cons.1 hD with rfl | hD
              · omega
              · have := aX (hds D hD).2
                omega
        have h0 : T (some 0) W0 := by
          rw [← hT]
          refine ⟨?_, hat 1, hlow.trans (hlow0.mono hlow.size), fun D hD => ?_, hat 3⟩
          · rw [List.take_zero, show ct (l.take i) ++ kB [] = ct (l.take i) by simp [kB]]
            exact g7 hbld fun k c t fz q => (hlow0.block k (aX q)).trans q
          · rcases List.mem_cons.1 hD with rfl | hD
            · exact hat 2
            · exact (hlow0.block _ (aX (hds D hD).2)).trans (hds D hD).2
        have hY : ∀ d' j x W', a.lines[j]? = some x → T (some j) W' → YieldAt Fence.wide (d' + 4) prog (W.heap.size + 2 + 1) #[.string x] W' (fun e W'' => ∃ b : Bool, e = .returned (.bool b) ∧ T (bif b then some (j + 1) else none) W'' ∧ mE W0.heap.size W' W'') := by
          intro d' j x W' hx hS
          rw [← hT] at hS ⊢
          refine hy (d' + 4) _ W' _ hS.o rfl ?_
          clear hy
          have hxm := hsz.2 x (List.mem_of_getElem? hx)
          have hpl : (ct (l.take i) ++ kB (a.lines.take j)).length ≤ 140737488355328 - 20000 := by
            have h1 := tK (L := a.lines.take j) fun y hy => hsz.2 y (List.mem_of_mem_take hy)
            have h2 := List.length_take_le j a.lines
            have h3 : (a.lines.take j).length ≤ 514 := by rw [List.length_take]; omega
            have h4 := Nat.mul_le_mul_right 9001 h3
            rw [List.length_append]
            omega
          gi_wp2
          refine ⟨hS.o, ?_⟩
          have hSb := TJ.put (obj' := .loop (rec .busy none)) hS (W.heap.size + 2 + 1) (.loop (rec .busy none)) _ (by have := hlow.size; omega) hS.o rfl (fun D hD => by
            rcases List.mem_cons.1 hD with rfl | hD
            · omega
            · have := aX (hds D hD).2
              omega) (.inr ⟨rfl, rfl⟩)
          have hlt := aX hS.o
          obtain ⟨V1, hV1⟩ : ∃ V1, W'.putObj (W.heap.size + 2 + 1) (.loop (rec .busy none)) = V1 := ⟨_, rfl⟩
          have hs1 : V1.heap.size = W'.heap.size := by rw [← hV1]; simp
          have hk1 : ∀ r, r ≠ W.heap.size + 2 + 1 → V1.heap[r]? = W'.heap[r]? := fun r hr => by rw [← hV1]; exact World.putObj_heap_other hr
          rw [hV1] at hSb ⊢
          have hWS := lM bb bb (Lib.byteCells (ct (l.take i) ++ kB (a.lines.take j))) (x ++ ⟨#[10]⟩) V1 hSb.b
            (by rw [Lib.byteCells_length, ByteArray.size_append]; have : (ByteArray.mk #[10]).size = 1 := rfl; omega) (by have := kD hSb.b; omega)
          gi_wp2_with (refine ⟨trivial, ?_⟩; gi_at_call 43; refine (callsIn_wide.2 hWS).mono ?_; rintro e W6 ⟨rfl, hb6, hlow6, hot6⟩)
          have hnb : ∀ r, bb < r → some r ≠ some bb := fun r h e => by cases e; omega
          have hj : a.lines.take (j + 1) = a.lines.take j ++ [x] := by rw [List.take_add_one, hx]; rfl
          have hS6 : TJ w bb (W.heap.size + 1) (W.heap.size + 2 + 1) (a.V (.slice pw a.ws.length cw)) ((W.heap.size + 2) :: Ds) (.loop (rec .busy none)) (ct (l.take i) ++ kB (a.lines.take (j + 1))) W6 := by
            refine ⟨.inr ?_, hot6 _ _ hSb.a (hnb _ (by omega)) (d9 (by decide)), hSb.low.trans (hlow6.mono hwb), fun D hD => hot6 _ _ (hSb.ds D hD) (fun e => ?_) (jv _), hot6 _ _ hSb.o (hnb _ (by omega)) (pt _)⟩
            · rw [hj, wK, ← List.append_assoc, mF _ (zu x)]
              have e1 : Lib.strCells (x ++ ⟨#[10]⟩) = Lib.byteCells (zu x) := by
                simp [Lib.strCells, Lib.byteCells, zu, ByteArray.data_append]
              rw [← e1]
              exact hb6
            · have h1 := hSb.ds D hD
              have h2 := hSb.b
              cases e
              rcases h2 with ⟨_, v, h2, _⟩ | ⟨_, v, h2, _⟩ <;> (rw [h1] at h2; cases h2)
          have hD' : ∀ D ∈ (W.heap.size + 2) :: Ds, W.heap.size + 2 + 1 ≠ D := fun D hD => by
            rcases List.mem_cons.1 hD with rfl | hD
            · omega
            · have := aX (hds D hD).2
              omega
          have hS7 := TJ.put (obj' := .loop (rec .ready none)) hS6 (W.heap.size + 2 + 1) (.loop (rec .ready none)) _ (by have := hlow.size; omega) hS6.o rfl hD' (.inr ⟨rfl, rfl⟩)
          refine ⟨hS6.o, ?_, ?_, fun r ob h1 h2 h3 => ?_⟩
          · rw [← hT]; exact hS7
          · have := hlow6.size
            simp only [World.putObj_size]
            omega
          · exact (World.putObj_heap_other (by omega)).trans (hot6 _ _ ((hk1 r (by omega)).trans h2) (hnb _ (by omega)) h3)
        rw [hW0]
        refine (ya 9 (W.heap.size + 2 + 1) (W.heap.size + 1) W0.heap.size a.k a.m a.n a.ws (.slice pw a.ws.length cw) a.y a.t T hI hY W0 rfl h0).mono ?_
        rintro e W' ⟨hv', hS | hS⟩
        · rw [← hT] at hS
          have hS : TJ w bb (W.heap.size + 1) (W.heap.size + 2 + 1) (a.V (.slice pw a.ws.length cw)) ((W.heap.size + 2) :: Ds) (.loop (rec .ready none)) (ct (l.take i) ++ kB (a.lines.take a.lines.length)) W' := hS
          refine ⟨hv', .inl ⟨hS.o, ?_⟩⟩
          have hD' : ∀ D ∈ (W.heap.size + 2) :: Ds, W.heap.size + 2 + 1 ≠ D := fun D hD => by
            rcases List.mem_cons.1 hD with rfl | hD
            · omega
            · have := aX (hds D hD).2
              omega
          have hS7 := TJ.put (obj' := .loop (rec .exhausted none)) hS (W.heap.size + 2 + 1) (.loop (rec .exhausted none)) _ (by have := hlow.size; omega) hS.o rfl hD' (.inr ⟨rfl, rfl⟩)
          obtain ⟨W8, hW8⟩ : ∃ W8, W'.putObj (W.heap.size + 2 + 1) (.loop (rec .exhausted none)) = W8 := ⟨_, rfl⟩
          rw [hW8] at hS7 ⊢
          have hnd' : ((W.heap.size + 2) :: Ds).Nodup := List.nodup_cons.2 ⟨fun h => by have := aX (hds _ h).2; omega, tC⟩
          have hfin : ∀ u6 u7 u12 u16 u17 u18 u19 u20 u21 u22 u23 u24 u25 : Value, zU w bb (some ⟨bl, o, none⟩) cap l { tmps := #[.slice (some ⟨bl, o, none⟩) l.length cap, undef, .string ⟨#[]⟩, .int .i64 0, .pointer (some ⟨bb, 0, none⟩), undef, u6, u7, .slice (some ⟨bl, o, none⟩) l.length cap, .bool false, .slice (some ⟨bl, o, none⟩) l.length cap, .int .i64 l.length, u12, .slice (some ⟨bl, o, none⟩) l.length cap, .int .i64 l.length, .int .i64 ((i : Int) + 1), u16, u17, u18, u19, u20, u21, u22, u23, u24, u25, undef, undef, undef], defers := { target := .collected (W.heap.size + 2), args := #[] } :: Ds.map yb } W8 := by
            intro u6 u7 u12 u16 u17 u18 u19 u20 u21 u22 u23 u24 u25
            refine ⟨i + 1, (W.heap.size + 2) :: Ds, u6, u7, u12, u16, u17, u18, u19, u20, u21, u22, u23, u24, u25, rfl, by omega, ?_, hS7.low, hnd', fun D hD => ⟨?_, hS7.ds D hD⟩⟩
            · have h1 := hS7.b
              rw [List.take_length] at h1
              rw [List.take_add_one, hai]
              show Lib.IsBuilderF 74 5 bb bb (Lib.byteCells (ct (l.take i ++ [a]))) W8
              rw [uR]
              exact h1
            · have := hlow.size
              rcases List.mem_cons.1 hD with rfl | hD
              · omega
              · exact (hds D hD).1
          gi_wp2
          simp [intOf]
          omega
        · rw [← hT] at hS
          exact hS.elim
      · have hil : i = l.length := by omega
        rw [hil, List.take_length] at hbld
        have hLen := Tryd.Builder_Len_f bb bb _ W hbld
        rw [Lib.byteCells_length] at hLen
        have hStr := Any.Builder_String_any_k rT gQ bb bb (ct l) W hbld (Nat.le_of_lt (kD hbld))
        gi_wp2_with first
          | (refine ⟨trivial, ?_⟩; gi_at_call 44; refine (callsIn_wide.2 hLen).mono ?_; rintro e w' ⟨rfl, rfl⟩)
          | (refine ⟨trivial, ?_⟩; gi_at_call 45; refine (callsIn_wide.2 hStr).mono ?_; rintro e W5 ⟨rfl, _, hb5, ho5⟩)
        · exact i7 w.heap.size (fun W => results_tmp2 rfl _ _ _) (fun W => Below w.heap.size w W) (fun W D h1 h2 => cC h2 h1 _) (fun W h => ⟨rfl, h⟩) Ds _ tC hds hlow
        · exact i7 w.heap.size (fun W => results_tmp2 rfl _ _ _) (fun W => Below w.heap.size w W) (fun W D h1 h2 => cC h2 h1 _) (fun W h => ⟨rfl, h⟩) Ds W5 tC (fun D hD => ⟨(hds D hD).1, ho5 _ _ (hds D hD).2 (fun e => by
            cases e
            rcases hbld with ⟨_, v, h2, _⟩ | ⟨_, v, h2, _⟩ <;> (rw [(hds _ hD).2] at h2; cases h2)) (jv _)⟩) (hlow.trans (hb5.mono hwb))
end Go.Plb.Seat
namespace Go.Plb.Seat
open Go Go.Plb Go.Proofs Go.RowKit
set_option maxRecDepth 100000
set_option linter.unusedSimpArgs false
set_option linter.unusedVariables false
theorem jw{ρ:aa}{W:World}{k:IntKind}{n:Int}{u:Value}(h:VR ρ W (.int k n) u) :u=.int k n:=by cases h;rfl
theorem uS{ρ:aa}{W:World}{lv:Lv}{ws:List Int}{len:Nat}(hlen:len=ws.length){v:Value}(hv:VR ρ W (.imm lv (.ns .u64 ws) 1 1 0 len) v) :VR aa.none_ W (cK ws) v:=by
  have av:∀ bl,aa.none_.avoid .free bl:=fun bl j _=>by cases j<;>exact fun h=>h
  generalize hA:AV.imm lv (.ns .u64 ws) 1 1 0 len=A at hv
  cases hv with
  | imm bw d k es i len' cap bl o u ha hb hc hv hl hr hk hg =>
    cases hA
    subst hlen
    refine .imm .free (.ns .u64 ws) 1 1 0 ws.length cap bl o u (av bl) hb hc (fun x v hx=>?_) hl trivial (fun _=>rfl) rfl
    have h1:=hv x v hx
    simp only [ae.cell?,Option.map_eq_some_iff] at hx
    obtain ⟨z,_,rfl⟩:=hx
    rw [jw h1]
    exact .int _ _
  | immEnd bw d k es i cap a hr hk hg =>
    simp only [AV.imm.injEq] at hA
    obtain ⟨_,_,_,_,_,h0⟩:=hA
    subst h0
    show VR aa.none_ W (.imm .free (.ns .u64 ws) 1 1 0 ws.length) _
    rw [←hlen]
    exact .immEnd _ _ _ _ _ _ _ trivial (fun _=>rfl) rfl
  | _=>cases hA
def zw(d:ae)(l:List nh) :Prop:=∀ i a,l[i]? = some a→∃ lv,d.cell? (i*6)=some (.int .i64 a.k)∧d.cell? (i*6+1)=some (.int .i64 a.m)∧d.cell? (i*6+2)=some (.int .i64 a.n) ∧
  d.cell? (i*6+3)=some (.imm lv (.ns .u64 a.ws) 1 1 0 a.ws.length)∧d.cell? (i*6+4)=some (.int .i64 a.y)∧d.cell? (i*6+5)=some (.int .u64 a.t)
theorem yE(bw:Lv)(d:ae)(k es:Nat)(l:List nh)(hd:zw d l)(hl:l.length≤1000000000) :ah prog dU [] [.imm bw d k es 0 l.length] ⟨.tup [.str (ni l),.int .i64 (nj l)],[]⟩:=by
  refine aR ⟨FN dU,by kernel_rfl,by kernel_rfl⟩ fun ρ w us hN hv=>?_
  cases hv with | cons _ u _ _ h1 h2 =>
  cases h2
  have key:∃ p bl o cap,u=.slice p l.length cap∧(1≤l.length→p=some ⟨bl,o,none⟩)∧kC w bl o l:=by
    generalize hA:AV.imm bw d k es 0 l.length=A at h1
    cases h1 with
    | imm bw d k es i len cap bl o u ha hb hc hv hl hr hk hg =>
      cases hA
      refine ⟨_,bl,o+0*k,cap,rfl,fun _=>rfl,fun i a hi=>?_⟩
      obtain ⟨lv,g0,g1,g2,g3,g4,g5⟩:=hd i a hi
      refine ⟨u (i*6+3),?_,?_,?_,?_,?_,?_,uS rfl (hv _ _ g3),hb⟩
      · have:=hc _ _ g0;rw [jw (hv _ _ g0)] at this;rw [show o+0*k+i*6=o+i*6 by omega];exact this
      · have:=hc _ _ g1;rw [jw (hv _ _ g1)] at this;rw [show o+0*k+i*6+1=o+(i*6+1) by omega];exact this
      · have:=hc _ _ g2;rw [jw (hv _ _ g2)] at this;rw [show o+0*k+i*6+2=o+(i*6+2) by omega];exact this
      · have:=hc _ _ g3;rw [show o+0*k+i*6+3=o+(i*6+3) by omega];exact this
      · have:=hc _ _ g4;rw [jw (hv _ _ g4)] at this;rw [show o+0*k+i*6+4=o+(i*6+4) by omega];exact this
      · have:=hc _ _ g5;rw [jw (hv _ _ g5)] at this;rw [show o+0*k+i*6+5=o+(i*6+5) by omega];exact this
    | immEnd bw d k es i cap a hr hk hg =>
      simp only [AV.imm.injEq] at hA
      obtain ⟨_,_,_,_,_,h0⟩:=hA
      rw [h0]
      refine ⟨a,0,0,cap,rfl,fun h=>by omega,fun i a hi=>?_⟩
      have:=(List.getElem?_eq_some_iff.1 hi).1
      omega
    | _=>cases hA
  obtain ⟨p,bl,o,cap,rfl,hp,hA⟩:=key
  refine (tN bl o cap l hl w hN.romOk hA p hp).mono ?_
  rintro e w' ⟨rfl,hb⟩
  exact ⟨_,rfl,hb,.tup _ _ (.cons _ _ _ _ (.str _) (.cons _ _ _ _ (.int _ _) .nil))⟩
def sd:aK:=⟨dU,fun lent args=>match lent,args with
  | [],[.imm bw (.vs [.int .i64 k,.int .i64 m,.int .i64 n,.imm lv (.ns .u64 ws) 1 1 0 len,.int .i64 y,.int .u64 t]) 1 6 0 1] =>
    some [⟨⟨.tup [.str (ni [⟨k,m,n,ws,y,t⟩]),.int .i64 (nj [⟨k,m,n,ws,y,t⟩])],[]⟩,[Nat.beq len ws.length]⟩]
  | _,_=>none⟩
theorem uT:aW prog sd:=by
  intro lent args alts a h ha ho
  simp only [sd] at h
  split at h
  · simp only [Option.some.injEq] at h;subst h
    simp only [List.mem_singleton] at ha;subst ha
    rename_i bw k m n lv ws len y t
    have hlen:len=ws.length:=Nat.eq_of_beq_eq_true ho.1
    subst hlen
    refine yE bw _ 1 6 [⟨k,m,n,ws,y,t⟩] (fun i a hi=>?_) (show 1≤1000000000 by omega)
    cases i with
    | zero=>cases hi;exact ⟨lv,rfl,rfl,rfl,rfl,rfl,rfl⟩
    | succ i=>simp at hi
  · cases h
end Go.Plb.Seat
namespace Go.Plb.Seat
open Go Go.Plb
set_option linter.unusedSimpArgs false
set_option linter.unusedVariables false
set_option maxRecDepth 100000
noncomputable def zx:List aK:=sd::zt
theorem yF:aZ prog (bc zx):=au uT lC
def Af:Option (iy×List Bool×bC)→Bool
  | some (⟨.bool _ true,[]⟩,o,_)=>vX o
  | _=>false
theorem yc{r:Option (iy×List Bool×bC)}(h:Af r=true) :∃ k o p,r=some (⟨.bool k true,[]⟩,o,p)∧ac o:=by
  unfold Af at h
  split at h
  · exact ⟨_,_,_,rfl,qB h⟩
  · cases h
theorem wL:Af (qH C0 (bc zx) (fw C0 (bc zx) 50 100) fQ [] [] none)=true:=by kernel_rfl
theorem yG:ah prog fQ [] [] ⟨.bool false true,[]⟩:=by
  obtain ⟨k,o,p,h,ho⟩:=yc wL
  exact (ah.run yX yF none _ _ h ho).weak (uy _ _ _)
def se:aK:=⟨fQ,fun L args=>match L,args with | [],[]=>one (.bool false true) [] | _,_=>none⟩
theorem uU:aW prog se:=by
  intro L args alts a h ha ho
  simp only [se] at h
  split at h
  · exact wj h ha ho fun q=>yG
  · cases h
end Go.Plb.Seat
namespace Go.Plb.Seat
open Go Go.Plb
noncomputable def zV:List aK:=se::j1
theorem lN:aZ prog (bc zV):=au uU mz
end Go.Plb.Seat
namespace Go.Plb.Seat
open Go Go.Plb
set_option linter.unusedVariables false
set_option maxRecDepth 100000
noncomputable section
inductive aI where
  | r0 (b3:Bool)
def eJ:aI→AE×ax
  | .r0 b3=>(.ret,⟨bD 66 [(4,.bool false b3)],[],0⟩)
theorem dW:tw eJ:=by intro x;cases x<;>(intro h;cases h)
theorem qo(id:Nat) :tA id eJ:=by intro x;cases x<;>(intro h;cases h)
def g8:aI→iy
  | .r0 b3=>⟨.bool false b3,[]⟩
noncomputable def qp:List Code:=d7 (uB gP)
def qq(a_0:Int)(a_1:Int)(a_2:Int)(v_3:Lv)(a_4:List Int)(a_5:Int)(a_6:Int)(b_7:Int)(b_8:Int)(b_9:Int)(v_10:Lv)(b_11:List Int)(b_12:Int)(b_13:Int)(b1:Bool) :ax:=⟨bD 66 [(2,.ptr 0 1 0 0),(3,.ptr 1 1 0 0),(47,.bool false b1)],[(0,.vs [.int .i64 a_0,.int .i64 a_1,.int .i64 a_2,.imm v_3 (.ns .u64 a_4) 1 1 0 (List.length a_4),.int .i64 a_5,.int .u64 a_6]),(1,.vs [.int .i64 b_7,.int .i64 b_8,.int .i64 b_9,.imm v_10 (.ns .u64 b_11) 1 1 0 (List.length b_11),.int .i64 b_12,.int .u64 b_13])],2⟩
def f0(a_0:Int)(a_1:Int)(a_2:Int)(a_4:List Int)(a_5:Int)(a_6:Int)(b_7:Int)(b_8:Int)(b_9:Int)(b_11:List Int)(b_12:Int)(b_13:Int) :T ((Bool)⊕(aI)) :=
  .ask (a_0 != b_7)
    (.leaf (.inl true))
    (.ask (a_1 != b_8)
      (.leaf (.inl true))
      (.ask (a_2 != b_9)
        (.leaf (.inl true))
        (.ask (a_5 != b_12)
          (.leaf (.inl true))
          (.ask (a_6 != b_13)
            (.leaf (.inl true))
            (.leaf (.inl ((((List.length a_4):Nat):Int) != (((List.length b_11):Nat):Int))))))))
def qr(a_0:Int)(a_1:Int)(a_2:Int)(v_3:Lv)(a_4:List Int)(a_5:Int)(a_6:Int)(b_7:Int)(b_8:Int)(b_9:Int)(v_10:Lv)(b_11:List Int)(b_12:Int)(b_13:Int)(_:Unit) :ax:=⟨bD 66 [(2,.ptr 0 1 0 0),(3,.ptr 1 1 0 0),(5,.int .i64 (0:Int))],[(0,.vs [.int .i64 a_0,.int .i64 a_1,.int .i64 a_2,.imm v_3 (.ns .u64 a_4) 1 1 0 (List.length a_4),.int .i64 a_5,.int .u64 a_6]),(1,.vs [.int .i64 b_7,.int .i64 b_8,.int .i64 b_9,.imm v_10 (.ns .u64 b_11) 1 1 0 (List.length b_11),.int .i64 b_12,.int .u64 b_13])],2⟩
def j3(b1:Bool) :T ((Unit)⊕(aI)) :=
  .ask b1
    (.leaf (.inr (.r0 false)))
    (.leaf (.inl ()))
def dX(a_0:Int)(a_1:Int)(a_2:Int)(v_3:Lv)(a_4:List Int)(a_5:Int)(a_6:Int)(b_7:Int)(b_8:Int)(b_9:Int)(v_10:Lv)(b_11:List Int)(b_12:Int)(b_13:Int)(i2:Nat) :ax:=⟨bD 66 [(2,.ptr 0 1 0 0),(3,.ptr 1 1 0 0),(5,.int .i64 ((i2:Nat):Int))],[(0,.vs [.int .i64 a_0,.int .i64 a_1,.int .i64 a_2,.imm v_3 (.ns .u64 a_4) 1 1 0 (List.length a_4),.int .i64 a_5,.int .u64 a_6]),(1,.vs [.int .i64 b_7,.int .i64 b_8,.int .i64 b_9,.imm v_10 (.ns .u64 b_11) 1 1 0 (List.length b_11),.int .i64 b_12,.int .u64 b_13])],2⟩
def j4(_:Unit) :ax:=⟨bD 66 [],[],0⟩
noncomputable def pB:List Code:=d7 (mt (((((qp.drop 2).drop 2).take 1)).headD .skip))
def pC(a_4:List Int)(b_11:List Int)(i2:Nat) :T ((Nat)⊕((Unit)⊕(aI))) :=
  .ask (decide (((i2:Nat):Int)<(((List.length a_4):Nat):Int)))
    (.need (sk ((i2:Nat):Int) (List.length a_4))<|.need (gq i2 (List.length a_4))<|.need (sk ((i2:Nat):Int) (List.length b_11))<|.need (gq i2 (List.length b_11))<|.ask ((List.getD a_4 i2 0) != (List.getD b_11 i2 0))
      (.leaf (.inr (.inr (.r0 false))))
      (.need (lS .i64 (((i2+1):Nat):Int))<|.leaf (.inl (i2+1))))
    (.leaf (.inr (.inl ())))
noncomputable def ff(a_4:List Int)(b_11:List Int) :Nat→Option ((Nat)⊕((Unit)⊕(aI))):=fun i2 =>
  (pC a_4 b_11 i2).run
theorem pD(a_0:Int)(a_1:Int)(a_2:Int)(v_3:Lv)(a_4:List Int)(a_5:Int)(a_6:Int)(b_7:Int)(b_8:Int)(b_9:Int)(v_10:Lv)(b_11:List Int)(b_12:Int)(b_13:Int)(i2:Nat) :Sg prog [] pB (dX a_0 a_1 a_2 v_3 a_4 a_5 a_6 b_7 b_8 b_9 v_10 b_11 b_12 b_13 i2) (ff a_4 b_11 i2) (dX a_0 a_1 a_2 v_3 a_4 a_5 a_6 b_7 b_8 b_9 v_10 b_11 b_12 b_13) (hX 0 j4 eJ):=by
  unfold ff;exact mu lN (dX a_0 a_1 a_2 v_3 a_4 a_5 a_6 b_7 b_8 b_9 v_10 b_11 b_12 b_13) [⟨[],[],[4]⟩,⟨[],[0,1],[2,3,5]⟩,⟨[],[],[]⟩]
def pE:T ((Empty)⊕(aI)) :=
  .leaf (.inr (.r0 true))
noncomputable def cE(a_0:Int)(a_1:Int)(a_2:Int)(a_4:List Int)(a_5:Int)(a_6:Int)(b_7:Int)(b_8:Int)(b_9:Int)(b_11:List Int)(b_12:Int)(b_13:Int) :Option aI:=vH (eF ((f0 a_0 a_1 a_2 a_4 a_5 a_6 b_7 b_8 b_9 b_11 b_12 b_13).run) fun b1 =>
  eF ((j3 b1).run) fun _ =>
  eF (cq (ff a_4 b_11) 0) fun _ =>
  (pE).run)
theorem qs(a_0:Int)(a_1:Int)(a_2:Int)(v_3:Lv)(a_4:List Int)(a_5:Int)(a_6:Int)(b_7:Int)(b_8:Int)(b_9:Int)(v_10:Lv)(b_11:List Int)(b_12:Int)(b_13:Int){x:aI}(h:cE a_0 a_1 a_2 a_4 a_5 a_6 b_7 b_8 b_9 b_11 b_12 b_13=some x) :ah prog gP [] [.agg [.int .i64 a_0,.int .i64 a_1,.int .i64 a_2,.imm v_3 (.ns .u64 a_4) 1 1 0 (List.length a_4),.int .i64 a_5,.int .u64 a_6],.agg [.int .i64 b_7,.int .i64 b_8,.int .i64 b_9,.imm v_10 (.ns .u64 b_11) 1 1 0 (List.length b_11),.int .i64 b_12,.int .u64 b_13]] (g8 x) :=
  yf false g8 eJ h (Sg.cut 2 dW (mu lN (qq a_0 a_1 a_2 v_3 a_4 a_5 a_6 b_7 b_8 b_9 v_10 b_11 b_12 b_13) [⟨[],[0,16],[2,3,47]⟩,⟨[],[0,16],[2,3,47]⟩,⟨[],[0,16],[2,3,47]⟩,⟨[],[0,16],[2,3,47]⟩,⟨[],[0,16],[2,3,47]⟩,⟨[],[0,16],[2,3,47]⟩]) (fun b1=>Sg.cut 2 dW (mu lN (qr a_0 a_1 a_2 v_3 a_4 a_5 a_6 b_7 b_8 b_9 v_10 b_11 b_12 b_13) [⟨[],[],[4]⟩,⟨[],[0,1],[2,3,5]⟩]) (fun _=>Sg.cut 1 dW (zZ ⟨[],[0,1],[2,3,5]⟩ (dX a_0 a_1 a_2 v_3 a_4 a_5 a_6 b_7 b_8 b_9 v_10 b_11 b_12 b_13) (j4) 0 dW (qo _) (fun i2=>pD a_0 a_1 a_2 v_3 a_4 a_5 a_6 b_7 b_8 b_9 v_10 b_11 b_12 b_13 i2)) (fun _=>mu lN wO [⟨[],[],[4]⟩]))))
    (fun x=>by cases x with | r0 b3=>exact tC [.bool false b3])
def dY:Option aI→Bool
  | some _=>true
  | none=>false
def em:Option aI→Bool
  | some (.r0 x)=>x
  | _=>false
theorem qt{x:Option aI}(h:dY x=true) :x=some (.r0 (em x)):=by
  unfold dY at h
  split at h<;>first | rfl | (cases h;done) | (rename_i y;cases y;rfl)
noncomputable def lO:aK:=dA gP (.cons (.agg (.cons (.int .i64) (.cons (.int .i64) (.cons (.int .i64) (.cons (.ns .u64) (.cons (.int .i64) (.cons (.int .u64) .nil))))))) (.cons (.agg (.cons (.int .i64) (.cons (.int .i64) (.cons (.int .i64) (.cons (.ns .u64) (.cons (.int .i64) (.cons (.int .u64) .nil))))))) .nil)) fun t=>(fun q=>[⟨g8 (.r0 (em q)),[dY q]⟩]) (cE t.1.1 t.1.2.1 t.1.2.2.1 t.1.2.2.2.1.2 t.1.2.2.2.2.1 t.1.2.2.2.2.2.1 t.2.1.1 t.2.1.2.1 t.2.1.2.2.1 t.2.1.2.2.2.1.2 t.2.1.2.2.2.2.1 t.2.1.2.2.2.2.2.1)
theorem nD:aW prog lO:=bo fun t=>(bR (fun h=>qs t.1.1 t.1.2.1 t.1.2.2.1 t.1.2.2.2.1.1 t.1.2.2.2.1.2 t.1.2.2.2.2.1 t.1.2.2.2.2.2.1 t.2.1.1 t.2.1.2.1 t.2.1.2.2.1 t.2.1.2.2.2.1.1 t.2.1.2.2.2.1.2 t.2.1.2.2.2.2.1 t.2.1.2.2.2.2.2.1 (qt h)) cy)
noncomputable def lP:List aK:=lO::zV
theorem cX:aZ prog (bc lP):=au nD lN
inductive aF where
  | r0 (b2:Bool)
def dv:aF→AE×ax
  | .r0 b2=>(.ret,⟨bD 26 [(4,.bool false b2)],[],0⟩)
theorem en:tw dv:=by intro x;cases x<;>(intro h;cases h)
theorem nE(id:Nat) :tA id dv:=by intro x;cases x<;>(intro h;cases h)
def fg:aF→iy
  | .r0 b2=>⟨.bool false b2,[]⟩
noncomputable def nF:List Code:=d7 (uB eY)
def nG(v_0:Lv)(s_1:List Int)(v_2:Lv)(s_3:List Int)(_:Unit) :ax:=⟨bD 26 [(0,.imm v_0 (.ns .u64 s_1) 1 1 0 (List.length s_1)),(1,.imm v_2 (.ns .u64 s_3) 1 1 0 (List.length s_3)),(12,.int .i64 (((List.length s_1):Nat):Int)),(13,.int .i64 (0:Int))],[],0⟩
def ii(s_1:List Int)(s_3:List Int) :T ((Unit)⊕(aF)) :=
  .ask ((((List.length s_1):Nat):Int) != (((List.length s_3):Nat):Int))
    (.leaf (.inr (.r0 false)))
    (.leaf (.inl ()))
def cY(v_0:Lv)(s_1:List Int)(v_2:Lv)(s_3:List Int)(a1:Nat) :ax:=⟨bD 26 [(0,.imm v_0 (.ns .u64 s_1) 1 1 0 (List.length s_1)),(1,.imm v_2 (.ns .u64 s_3) 1 1 0 (List.length s_3)),(12,.int .i64 (((List.length s_1):Nat):Int)),(13,.int .i64 ((a1:Nat):Int))],[],0⟩
def ij(_:Unit) :ax:=⟨bD 26 [],[],0⟩
noncomputable def nH:List Code:=d7 (mt ((((nF.drop 4).take 1)).headD .skip))
def nI(s_1:List Int)(s_3:List Int)(a1:Nat) :T ((Nat)⊕((Unit)⊕(aF))) :=
  .ask (decide (((a1:Nat):Int)<(((List.length s_1):Nat):Int)))
    (.need (sk ((a1:Nat):Int) (List.length s_1))<|.need (gq a1 (List.length s_1))<|.need (sk ((a1:Nat):Int) (List.length s_3))<|.need (gq a1 (List.length s_3))<|.ask ((List.getD s_1 a1 0) != (List.getD s_3 a1 0))
      (.leaf (.inr (.inr (.r0 false))))
      (.need (lS .i64 (((a1+1):Nat):Int))<|.leaf (.inl (a1+1))))
    (.leaf (.inr (.inl ())))
noncomputable def dM(s_1:List Int)(s_3:List Int) :Nat→Option ((Nat)⊕((Unit)⊕(aF))):=fun a1 =>
  (nI s_1 s_3 a1).run
theorem mG(v_0:Lv)(s_1:List Int)(v_2:Lv)(s_3:List Int)(a1:Nat) :Sg prog [] nH (cY v_0 s_1 v_2 s_3 a1) (dM s_1 s_3 a1) (cY v_0 s_1 v_2 s_3) (hX 0 ij dv):=by
  unfold dM;exact mu cX (cY v_0 s_1 v_2 s_3) [⟨[],[],[4]⟩,⟨[],[],[0,1,12,13]⟩,⟨[],[],[]⟩]
def mH:T ((Empty)⊕(aF)) :=
  .leaf (.inr (.r0 true))
noncomputable def bT(s_1:List Int)(s_3:List Int) :Option aF:=vH (eF ((ii s_1 s_3).run) fun _ =>
  eF (cq (dM s_1 s_3) 0) fun _ =>
  (mH).run)
theorem nJ(v_0:Lv)(s_1:List Int)(v_2:Lv)(s_3:List Int){x:aF}(h:bT s_1 s_3=some x) :ah prog eY [] [.imm v_0 (.ns .u64 s_1) 1 1 0 (List.length s_1),.imm v_2 (.ns .u64 s_3) 1 1 0 (List.length s_3)] (fg x) :=
  yf false fg dv h (Sg.cut 4 en (mu cX (nG v_0 s_1 v_2 s_3) [⟨[],[],[4]⟩,⟨[],[],[0,1,12,13]⟩]) (fun _=>Sg.cut 1 en (zZ ⟨[],[],[0,1,12,13]⟩ (cY v_0 s_1 v_2 s_3) (ij) 0 en (nE _) (fun a1=>mG v_0 s_1 v_2 s_3 a1)) (fun _=>mu cX wO [⟨[],[],[4]⟩])))
    (fun x=>by cases x with | r0 b2=>exact tC [.bool false b2])
def cZ:Option aF→Bool
  | some _=>true
  | none=>false
def dw:Option aF→Bool
  | some (.r0 x)=>x
  | _=>false
theorem nK{x:Option aF}(h:cZ x=true) :x=some (.r0 (dw x)):=by
  unfold cZ at h
  split at h<;>first | rfl | (cases h;done) | (rename_i y;cases y;rfl)
noncomputable def i8:aK:=dA eY (.cons (.ns .u64) (.cons (.ns .u64) .nil)) fun t=>(fun q=>[⟨fg (.r0 (dw q)),[cZ q]⟩]) (bT t.1.2 t.2.1.2)
theorem lQ:aW prog i8:=bo fun t=>(bR (fun h=>nJ t.1.1 t.1.2 t.2.1.1 t.2.1.2 (nK h)) cy)
noncomputable def ja:List aK:=i8::lP
theorem dx:aZ prog (bc ja):=au lQ cX
inductive ba where
  | r0 (b2:Bool)
def j5:ba→AE×ax
  | .r0 b2=>(.ret,⟨bD 45 [(4,.bool false b2)],[],0⟩)
theorem pF:tw j5:=by intro x;cases x<;>(intro h;cases h)
def f1:ba→iy
  | .r0 b2=>⟨.bool false b2,[]⟩
def pG(b1:Bool) :ax:=⟨bD 45 [(4,.bool false b1)],[],0⟩
def jb(a_0:Int)(a_1:Int)(a_2:Int)(a_4:List Int)(a_5:Int)(a_6:Int)(b_7:Int)(b_8:Int)(b_9:Int)(b_11:List Int)(b_12:Int)(b_13:Int) :T ((Bool)⊕(ba)) :=
  .ask (a_0==b_7)
    (.ask (a_1==b_8)
      (.ask (a_2==b_9)
        (.ask (a_5==b_12)
          (.ask (a_6==b_13)
            (.need (dy 0 (List.length a_4) a_4)<|.need (dy 0 (List.length b_11) b_11)<|.need (cZ (bT (bJ 0 (List.length a_4) a_4) (bJ 0 (List.length b_11) b_11)))<|.leaf (.inl (dw (bT (bJ 0 (List.length a_4) a_4) (bJ 0 (List.length b_11) b_11)))))
            (.leaf (.inl false)))
          (.leaf (.inl false)))
        (.leaf (.inl false)))
      (.leaf (.inl false)))
    (.leaf (.inl false))
def pH(b1:Bool) :T ((Empty)⊕(ba)) :=
  .leaf (.inr (.r0 b1))
noncomputable def bL(a_0:Int)(a_1:Int)(a_2:Int)(a_4:List Int)(a_5:Int)(a_6:Int)(b_7:Int)(b_8:Int)(b_9:Int)(b_11:List Int)(b_12:Int)(b_13:Int) :Option ba:=vH (eF ((jb a_0 a_1 a_2 a_4 a_5 a_6 b_7 b_8 b_9 b_11 b_12 b_13).run) fun b1 =>
  (pH b1).run)
theorem pI(a_0:Int)(a_1:Int)(a_2:Int)(v_3:Lv)(a_4:List Int)(a_5:Int)(a_6:Int)(b_7:Int)(b_8:Int)(b_9:Int)(v_10:Lv)(b_11:List Int)(b_12:Int)(b_13:Int){x:ba}(h:bL a_0 a_1 a_2 a_4 a_5 a_6 b_7 b_8 b_9 b_11 b_12 b_13=some x) :ah prog jP [] [.agg [.int .i64 a_0,.int .i64 a_1,.int .i64 a_2,.imm v_3 (.ns .u64 a_4) 1 1 0 (List.length a_4),.int .i64 a_5,.int .u64 a_6],.agg [.int .i64 b_7,.int .i64 b_8,.int .i64 b_9,.imm v_10 (.ns .u64 b_11) 1 1 0 (List.length b_11),.int .i64 b_12,.int .u64 b_13]] (f1 x) :=
  yf false f1 j5 h (Sg.cut 2 pF (mu dx pG [⟨[],[],[4]⟩,⟨[],[],[4]⟩,⟨[],[],[4]⟩,⟨[],[],[4]⟩,⟨[],[],[4]⟩,⟨[],[],[4]⟩]) (fun b1=>mu dx wO [⟨[],[],[4]⟩]))
    (fun x=>by cases x with | r0 b2=>exact tC [.bool false b2])
def cu:Option ba→Bool
  | some _=>true
  | none=>false
def cF:Option ba→Bool
  | some (.r0 x)=>x
  | _=>false
theorem pJ{x:Option ba}(h:cu x=true) :x=some (.r0 (cF x)):=by
  unfold cu at h
  split at h<;>first | rfl | (cases h;done) | (rename_i y;cases y;rfl)
noncomputable def j6:aK:=dA jP (.cons (.agg (.cons (.int .i64) (.cons (.int .i64) (.cons (.int .i64) (.cons (.ns .u64) (.cons (.int .i64) (.cons (.int .u64) .nil))))))) (.cons (.agg (.cons (.int .i64) (.cons (.int .i64) (.cons (.int .i64) (.cons (.ns .u64) (.cons (.int .i64) (.cons (.int .u64) .nil))))))) .nil)) fun t=>(fun q=>[⟨f1 (.r0 (cF q)),[cu q]⟩]) (bL t.1.1 t.1.2.1 t.1.2.2.1 t.1.2.2.2.1.2 t.1.2.2.2.2.1 t.1.2.2.2.2.2.1 t.2.1.1 t.2.1.2.1 t.2.1.2.2.1 t.2.1.2.2.2.1.2 t.2.1.2.2.2.2.1 t.2.1.2.2.2.2.2.1)
theorem mI:aW prog j6:=bo fun t=>(bR (fun h=>pI t.1.1 t.1.2.1 t.1.2.2.1 t.1.2.2.2.1.1 t.1.2.2.2.1.2 t.1.2.2.2.2.1 t.1.2.2.2.2.2.1 t.2.1.1 t.2.1.2.1 t.2.1.2.2.1 t.2.1.2.2.2.1.1 t.2.1.2.2.2.1.2 t.2.1.2.2.2.2.1 t.2.1.2.2.2.2.2.1 (pJ h)) cy)
noncomputable def j7:List aK:=j6::ja
theorem dN:aZ prog (bc j7):=au mI dx
inductive az where
  | r0 (b2:Bool)
def fh:az→AE×ax
  | .r0 b2=>(.ret,⟨bD 28 [(4,.bool false b2)],[],0⟩)
theorem jA:tw fh:=by intro x;cases x<;>(intro h;cases h)
def c8:az→iy
  | .r0 b2=>⟨.bool false b2,[]⟩
def jB(b1:Bool) :ax:=⟨bD 28 [(4,.bool false b1)],[],0⟩
def ep(a_0:Int)(a_1:Int)(a_2:Int)(a_4:List Int)(a_5:Int)(a_6:Int)(b_7:Int)(b_8:Int)(b_9:Int)(b_11:List Int)(b_12:Int)(b_13:Int) :T ((Bool)⊕(az)) :=
  .ask (decide ((((List.length a_4):Nat):Int)>(200:Int)))
    (.leaf (.inl true))
    (.ask (decide ((((List.length b_11):Nat):Int)>(200:Int)))
      (.leaf (.inl true))
      (.need (dy 0 (List.length a_4) a_4)<|.need (dy 0 (List.length b_11) b_11)<|.need (cu (bL a_0 a_1 a_2 (bJ 0 (List.length a_4) a_4) a_5 a_6 b_7 b_8 b_9 (bJ 0 (List.length b_11) b_11) b_12 b_13))<|.need (dy 0 (List.length a_4) a_4)<|.need (dy 0 (List.length b_11) b_11)<|.need (dY (cE a_0 a_1 a_2 (bJ 0 (List.length a_4) a_4) a_5 a_6 b_7 b_8 b_9 (bJ 0 (List.length b_11) b_11) b_12 b_13))<|.ask ((cF (bL a_0 a_1 a_2 (bJ 0 (List.length a_4) a_4) a_5 a_6 b_7 b_8 b_9 (bJ 0 (List.length b_11) b_11) b_12 b_13))==(em (cE a_0 a_1 a_2 (bJ 0 (List.length a_4) a_4) a_5 a_6 b_7 b_8 b_9 (bJ 0 (List.length b_11) b_11) b_12 b_13)))
        (.need (dy 0 (List.length a_4) a_4)<|.need (dy 0 (List.length a_4) a_4)<|.need (cu (bL a_0 a_1 a_2 (bJ 0 (List.length a_4) a_4) a_5 a_6 a_0 a_1 a_2 (bJ 0 (List.length a_4) a_4) a_5 a_6))<|.ask (cF (bL a_0 a_1 a_2 (bJ 0 (List.length a_4) a_4) a_5 a_6 a_0 a_1 a_2 (bJ 0 (List.length a_4) a_4) a_5 a_6))
          (.leaf (.inl true))
          (.leaf (.inl false)))
        (.leaf (.inl false))))
def jC(b1:Bool) :T ((Empty)⊕(az)) :=
  .leaf (.inr (.r0 b1))
noncomputable def da(a_0:Int)(a_1:Int)(a_2:Int)(a_4:List Int)(a_5:Int)(a_6:Int)(b_7:Int)(b_8:Int)(b_9:Int)(b_11:List Int)(b_12:Int)(b_13:Int) :Option az:=vH (eF ((ep a_0 a_1 a_2 a_4 a_5 a_6 b_7 b_8 b_9 b_11 b_12 b_13).run) fun b1 =>
  (jC b1).run)
theorem er(a_0:Int)(a_1:Int)(a_2:Int)(v_3:Lv)(a_4:List Int)(a_5:Int)(a_6:Int)(b_7:Int)(b_8:Int)(b_9:Int)(v_10:Lv)(b_11:List Int)(b_12:Int)(b_13:Int){x:az}(h:da a_0 a_1 a_2 a_4 a_5 a_6 b_7 b_8 b_9 b_11 b_12 b_13=some x) :ah prog eW [] [.agg [.int .i64 a_0,.int .i64 a_1,.int .i64 a_2,.imm v_3 (.ns .u64 a_4) 1 1 0 (List.length a_4),.int .i64 a_5,.int .u64 a_6],.agg [.int .i64 b_7,.int .i64 b_8,.int .i64 b_9,.imm v_10 (.ns .u64 b_11) 1 1 0 (List.length b_11),.int .i64 b_12,.int .u64 b_13]] (c8 x) :=
  yf false c8 fh h (Sg.cut 2 jA (mu dN jB [⟨[],[],[4]⟩,⟨[],[],[4]⟩,⟨[],[],[4]⟩,⟨[],[],[4]⟩,⟨[],[],[4]⟩]) (fun b1=>mu dN wO [⟨[],[],[4]⟩]))
    (fun x=>by cases x with | r0 b2=>exact tC [.bool false b2])
def cL:Option az→Bool
  | some _=>true
  | none=>false
def dB:Option az→Bool
  | some (.r0 x)=>x
  | _=>false
theorem jD{x:Option az}(h:cL x=true) :x=some (.r0 (dB x)):=by
  unfold cL at h
  split at h<;>first | rfl | (cases h;done) | (rename_i y;cases y;rfl)
noncomputable def fi:aK:=dA eW (.cons (.agg (.cons (.int .i64) (.cons (.int .i64) (.cons (.int .i64) (.cons (.ns .u64) (.cons (.int .i64) (.cons (.int .u64) .nil))))))) (.cons (.agg (.cons (.int .i64) (.cons (.int .i64) (.cons (.int .i64) (.cons (.ns .u64) (.cons (.int .i64) (.cons (.int .u64) .nil))))))) .nil)) fun t=>(fun q=>[⟨c8 (.r0 (dB q)),[cL q]⟩]) (da t.1.1 t.1.2.1 t.1.2.2.1 t.1.2.2.2.1.2 t.1.2.2.2.2.1 t.1.2.2.2.2.2.1 t.2.1.1 t.2.1.2.1 t.2.1.2.2.1 t.2.1.2.2.2.1.2 t.2.1.2.2.2.2.1 t.2.1.2.2.2.2.2.1)
theorem im:aW prog fi:=bo fun t=>(bR (fun h=>er t.1.1 t.1.2.1 t.1.2.2.1 t.1.2.2.2.1.1 t.1.2.2.2.1.2 t.1.2.2.2.2.1 t.1.2.2.2.2.2.1 t.2.1.1 t.2.1.2.1 t.2.1.2.2.1 t.2.1.2.2.2.1.1 t.2.1.2.2.2.1.2 t.2.1.2.2.2.2.1 t.2.1.2.2.2.2.2.1 (jD h)) cy)
noncomputable def kF:List aK:=fi::j7
theorem sg:aZ prog (bc kF):=au im dN
end
end Go.Plb.Seat
namespace Go.Plb.Seat
open Go Go.Plb
set_option linter.unusedSimpArgs false
set_option linter.unusedVariables false
set_option maxRecDepth 100000
theorem kG:∀ (a b:List Int),a.length=b.length→a=b∨∃ n,n<a.length∧(∀ j,j<n→a.getD j 0=b.getD j 0)∧a.getD n 0≠b.getD n 0
  | [],[],_=>.inl rfl
  | x::a,y::b,h=>by
    by_cases hxy:x=y
    · subst hxy
      rcases kG a b (by simpa using h) with rfl | ⟨n,h1,h2,h3⟩
      · exact .inl rfl
      · refine .inr ⟨n+1,by simp;omega,fun j hj=>?_,by simpa using h3⟩
        cases j with
        | zero=>rfl
        | succ j=>simpa using h2 j (by omega)
    · exact .inr ⟨0,by simp,fun j hj=>by omega,by simpa using hxy⟩
  | [],_::_,h=>by simp at h
  | _::_,[],h=>by simp at h
theorem nL(a b:List Int)(h:a.length≤1000000000) :bT a b=some (.r0 (decide (a=b))):=by
  unfold bT
  by_cases hl:a.length=b.length
  · have h0:(ii a b).run=some (.inl ()):=jy (by simp [hl]) rfl
    rcases kG a b hl with rfl | ⟨n,h1,h2,h3⟩
    · rw [decide_eq_true rfl]
      refine ei (bv h0 (bv (a:=()) (gi (fun j=>j) a.length rfl (fun j hj=>?_) ?_) rfl))
      · exact gV (by simp;omega) (aH (by rw [eZ];omega) (aH (by rw [cm];omega) (aH (by rw [eZ];omega) (aH (by rw [cm];omega) (jy (by simp) (aH (by rw [cB];omega) rfl))))))
      · exact jy (by simp) rfl
    · have hne:a≠b:=fun e=>h3 (by rw [e])
      rw [decide_eq_false hne]
      refine ei (bv h0 (iR (gi (fun j=>j) n rfl (fun j hj=>?_) ?_)))
      · exact gV (by simp;omega) (aH (by rw [eZ];omega) (aH (by rw [cm];omega) (aH (by rw [eZ];omega) (aH (by rw [cm];omega) (jy (by rw [h2 j hj];simp) (aH (by rw [cB];omega) rfl))))))
      · exact gV (by simp;omega) (aH (by rw [eZ];omega) (aH (by rw [cm];omega) (aH (by rw [eZ];omega) (aH (by rw [cm];omega) (gV (bne_iff_ne.2 h3) rfl)))))
  · have hne:a≠b:=fun e=>hl (by rw [e])
    rw [decide_eq_false hne]
    exact ei (iR (gV (bne_iff_ne.2 (by omega)) rfl))
def lR(a0 a1 a2:Int)(a4:List Int)(a5 a6 b0 b1 b2:Int)(b4:List Int)(b5 b6:Int) :Bool :=
  bif a0==b0 then bif a1==b1 then bif a2==b2 then bif a5==b5 then bif a6==b6 then decide (a4=b4) else false else false else false else false else false
theorem jc(a0 a1 a2:Int)(a4:List Int)(a5 a6 b0 b1 b2:Int)(b4:List Int)(b5 b6:Int)(h:a4.length≤1000000000) :bL a0 a1 a2 a4 a5 a6 b0 b1 b2 b4 b5 b6=some (.r0 (lR a0 a1 a2 a4 a5 a6 b0 b1 b2 b4 b5 b6)):=by
  refine ei (bv (a:=lR a0 a1 a2 a4 a5 a6 b0 b1 b2 b4 b5 b6) ?_ rfl)
  unfold lR jb
  rw [iK,iK,nL a4 b4 h]
  cases (a0==b0) with
  | false=>rfl
  | true =>
    cases (a1==b1) with
    | false=>rfl
    | true =>
      cases (a2==b2) with
      | false=>rfl
      | true =>
        cases (a5==b5) with
        | false=>rfl
        | true =>
          cases (a6==b6) with
          | false=>rfl
          | true=>exact iQ (iQ (iQ (iQ (iQ (aH (by simp [dy]) (aH (by simp [dy]) (qP rfl)))))))
theorem qu(a0 a1 a2:Int)(a4:List Int)(a5 a6 b0 b1 b2:Int)(b4:List Int)(b5 b6:Int)(h:a4.length≤1000000000) :cE a0 a1 a2 a4 a5 a6 b0 b1 b2 b4 b5 b6=some (.r0 (lR a0 a1 a2 a4 a5 a6 b0 b1 b2 b4 b5 b6)):=by
  unfold cE
  have hn:∀ x y:Int,(x != y) = !(x==y):=fun _ _=>rfl
  have h8:(f0 a0 a1 a2 a4 a5 a6 b0 b1 b2 b4 b5 b6).run=some (.inl (!(bif a0==b0 then bif a1==b1 then bif a2==b2 then bif a5==b5 then bif a6==b6 then ((a4.length:Int)==(b4.length:Int)) else false else false else false else false else false))):=by
    unfold f0
    simp only [hn]
    cases (a0==b0)<;>cases (a1==b1)<;>cases (a2==b2)<;>cases (a5==b5)<;>cases (a6==b6)<;>rfl
  refine ei (bv h8 ?_)
  unfold lR
  have fl:∀ {k:Unit→Option (Empty⊕aI)},eF (j3 (!false)).run k=some (.inr (.r0 false)):=fun {k}=>iR rfl
  cases (a0==b0) with
  | false=>exact fl
  | true =>
    cases (a1==b1) with
    | false=>exact fl
    | true =>
      cases (a2==b2) with
      | false=>exact fl
      | true =>
        cases (a5==b5) with
        | false=>exact fl
        | true =>
          cases (a6==b6) with
          | false=>exact fl
          | true =>
            simp only [cond_true]
            by_cases hl:a4.length=b4.length
            · have hb:((a4.length:Int)==(b4.length:Int))=true:=by simp [hl]
              rw [hb]
              refine bv (a:=()) rfl ?_
              rcases kG a4 b4 hl with rfl | ⟨n,h1,h2,h3⟩
              · rw [decide_eq_true rfl]
                refine bv (a:=()) (gi (fun j=>j) a4.length rfl (fun j hj=>?_) ?_) rfl
                · exact gV (by simp;omega) (aH (by rw [eZ];omega) (aH (by rw [cm];omega) (aH (by rw [eZ];omega) (aH (by rw [cm];omega) (jy (by simp) (aH (by rw [cB];omega) rfl))))))
                · exact jy (by simp) rfl
              · have hne:a4≠b4:=fun e=>h3 (by rw [e])
                rw [decide_eq_false hne]
                refine iR (gi (fun j=>j) n rfl (fun j hj=>?_) ?_)
                · exact gV (by simp;omega) (aH (by rw [eZ];omega) (aH (by rw [cm];omega) (aH (by rw [eZ];omega) (aH (by rw [cm];omega) (jy (by rw [h2 j hj];simp) (aH (by rw [cB];omega) rfl))))))
                · exact gV (by simp;omega) (aH (by rw [eZ];omega) (aH (by rw [cm];omega) (aH (by rw [eZ];omega) (aH (by rw [cm];omega) (gV (bne_iff_ne.2 h3) rfl)))))
            · have hb:((a4.length:Int)==(b4.length:Int))=false:=by rw [beq_eq_false_iff_ne];omega
              have hne:a4≠b4:=fun e=>hl (by rw [e])
              rw [hb,decide_eq_false hne]
              exact fl
theorem yd(a0 a1 a2:Int)(a4:List Int)(a5 a6 b0 b1 b2:Int)(b4:List Int)(b5 b6:Int) :da a0 a1 a2 a4 a5 a6 b0 b1 b2 b4 b5 b6=some (.r0 true):=by
  refine ei (bv (a:=true) ?_ rfl)
  unfold ep
  by_cases h1:(a4.length:Int)>200
  · exact gV (decide_eq_true h1) rfl
  by_cases h2:(b4.length:Int)>200
  · exact jy (decide_eq_false h1) (gV (decide_eq_true h2) rfl)
  rw [iK,iK,jc _ _ _ _ _ _ _ _ _ _ _ _ (by omega),jc _ _ _ _ _ _ _ _ _ _ _ _ (by omega),qu _ _ _ _ _ _ _ _ _ _ _ _ (by omega)]
  refine jy (decide_eq_false h1) (jy (decide_eq_false h2) (aH (by simp [dy]) (aH (by simp [dy]) (qP (aH (by simp [dy]) (aH (by simp [dy]) (qP (gV ?_ (aH (by simp [dy]) (aH (by simp [dy]) (qP (gV ?_ rfl))))))))))))
  · show (lR _ _ _ _ _ _ _ _ _ _ _ _==lR _ _ _ _ _ _ _ _ _ _ _ _)=true
    exact beq_self_eq_true _
  · show lR _ _ _ _ _ _ _ _ _ _ _ _=true
    simp [lR]
end Go.Plb.Seat
