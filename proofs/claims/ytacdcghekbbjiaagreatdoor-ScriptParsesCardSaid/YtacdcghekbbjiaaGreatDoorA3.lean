/-
  Part 3 of what the claim leans on: an evaluator of the model, proved sound; the contracts of the functions.
-/
import Derived.Lib.OthersKept
import Derived.Lib.Hide
import Derived.Lib.Strings
import Derived.Laws.RangeAny
import Derived.WalkKit
import Derived.WalkSpells
import Derived.Lib.AtoiAllCases
import Derived.Lib.AtoiErrMem
import Derived.RangeFuncBox
import Derived.RangeFuncLeaves
import Derived.RangeFuncNested
import Derived.Shelf.Abstract
import Derived.Shelf.RegionOpen
import Derived.OwnWalkIn
import Derived.TacticsInMore
import Derived.LoopNIn
import Derived.LoopIn
import Derived.RegionIn
import Derived.Stop.RegionWithIn
import Derived.Lib.Bytealg
import Derived.Test.YtacdcghekbbjiaaGreatDoorA2
namespace Go.Plb
set_option linter.unusedSimpArgs false
set_option linter.unusedVariables false
set_option linter.unusedSectionVars false
variable [Rom]
inductive T (α:Type) where
  | fail
  | leaf (a:α)
  | ask (b:Bool) (t f:T α)
  | need (b:Bool) (t:T α)
  | alt (k:Nat) (t e:T α)
def T.run{α:Type} :T α→Option α
  | .fail=>none
  | .leaf a=>some a
  | .ask b t f=>bif b then t.run else f.run
  | .need b t=>bif b then t.run else none
  | .alt _ t e=>match t.run with
    | some a=>some a
    | none=>e.run
structure ww (α:Type) where
  path:List Nat
  obs:List Bool
  val:α
def ww.ask{α:Type}(n:Nat)(b:Bool)(l:ww α) :ww α:=⟨n::l.path,b::l.obs,l.val⟩
def ww.need{α:Type}(b:Bool)(l:ww α) :ww α:=⟨l.path,b::l.obs,l.val⟩
def ww.alt{α:Type}(n:Nat)(l:ww α) :ww α:=⟨n::l.path,l.obs,l.val⟩
def T.leaves{α:Type} :T α→List (ww α)
  | .fail=>[]
  | .leaf a=>[⟨[],[],a⟩]
  | .ask b t f=>t.leaves.map (ww.ask 1 (b==true))++f.leaves.map (ww.ask 0 (b==false))
  | .need b t=>t.leaves.map (ww.need b)
  | .alt k t e=>t.leaves.map (ww.alt k)++e.leaves
theorem nr{α:Type} :∀ (t:T α) {a:α},t.run=some a→∃ l∈t.leaves,l.val=a∧ap l.obs
  | .fail,a,h=>by cases h
  | .leaf b,a,h=>by
    simp only [T.run,Option.some.injEq] at h;subst h
    exact ⟨⟨[],[],b⟩,by simp [T.leaves],rfl,trivial⟩
  | .ask b t f,a,h=>by
    simp only [T.run] at h
    cases b with
    | true =>
      simp only [cond_true] at h
      obtain ⟨l,h1,h2,h3⟩:=nr t h
      exact ⟨l.ask 1 (true==true),by simp only [T.leaves,List.mem_append];exact .inl (List.mem_map_of_mem h1),h2,⟨rfl,h3⟩⟩
    | false =>
      simp only [cond_false] at h
      obtain ⟨l,h1,h2,h3⟩:=nr f h
      exact ⟨l.ask 0 (false==false),by simp only [T.leaves,List.mem_append];exact .inr (List.mem_map_of_mem h1),h2,⟨rfl,h3⟩⟩
  | .need b t,a,h=>by
    simp only [T.run] at h
    cases b with
    | true =>
      simp only [cond_true] at h
      obtain ⟨l,h1,h2,h3⟩:=nr t h
      exact ⟨l.need true,by simp only [T.leaves];exact List.mem_map_of_mem h1,h2,⟨rfl,h3⟩⟩
    | false=>cases h
  | .alt k t e,a,h=>by
    simp only [T.run] at h
    split at h
    · rename_i a' ht
      cases h
      obtain ⟨l,h1,h2,h3⟩:=nr t ht
      exact ⟨l.alt k,by simp only [T.leaves,List.mem_append];exact .inl (List.mem_map_of_mem h1),h2,h3⟩
    · obtain ⟨l,h1,h2,h3⟩:=nr e h
      exact ⟨l,by simp only [T.leaves,List.mem_append];exact .inr h1,h2,h3⟩
def vc{α X:Type}(N:α→az)(E:X→AE×az) :α⊕X→AE×az
  | .inl a=>(.normal,N a)
  | .inr x=>E x
def Sg{α X:Type}(P:Program)(lent:List ao)(cs:List Code)(st:az)(m:Option (α⊕X))(N:α→az)(E:X→AE×az) :Prop :=
  ∀ r,m=some r→ef P lent cs st fun e st'=>(e,st')=vc N E r
def PE{α X:Type}(C:xY)(S:zq)(n:Nat)(cs:List Code)(st:az)(ls:List (ww (α⊕X)))(ks:List NS)(k:Nat) :List (Bool×Option (AE×az×List Bool)) :=
  List.zipWith (fun l s=>(s.ok k,O9 s (NN (qR C S 12 n) cs st (some l.path)))) ls ks
def M7{α X:Type}(N:α→az)(E:X→AE×az)(ls:List (ww (α⊕X))) :List (Bool×Option (AE×az×List Bool)) :=
  ls.map fun l=>(true,some ((vc N E l.val).1,(vc N E l.val).2,l.obs))
theorem M8{α β γ:Type}{f:α→β→γ}{g:α→γ} :∀ {l:List α} {k:List β},List.zipWith f l k=l.map g→∀ a∈l,∃ b,f a b=g a
  | [],_,_,a,ha=>by cases ha
  | x::l,[],h,a,ha=>by simp at h
  | x::l,y::k,h,a,ha=>by
    simp only [List.zipWith_cons_cons,List.map_cons,List.cons.injEq] at h
    rcases List.mem_cons.1 ha with rfl | ha
    · exact ⟨y,h.1⟩
    · exact M8 h.2 a ha
theorem Sg.seg{C:xY}(hC:C.Ok){S:zq}(hS:bo C.P S){lent:List ao}{α X:Type}(n:Nat)(cs:List Code)(st:az)(t:T (α⊕X))(N:α→az)(E:X→AE×az)(ks:List NS) 
    (h:PE C S n cs st t.leaves ks lent.length=M7 N E t.leaves):Sg C.P lent cs st t.run N E:=by
  intro r hr
  obtain ⟨l,h1,h2,h3⟩:=nr t hr
  obtain ⟨k,hk⟩:=M8 h l h1
  simp only [Prod.mk.injEq] at hk
  obtain ⟨hn,he⟩:=hk
  have:=ef.seg hC hS (lent:=lent) (Q:=fun e st'=>(e,st')=vc N E r) cs.length (some l.path) k (cs:=cs) (st:=st) (by rw [List.take_length];exact he) hn h3
  refine this ?_
  rw [h2,List.drop_length]
  generalize hg:vc N E r=x
  obtain ⟨e,s⟩:=x
  cases e with
  | normal=>exact ef.nil rfl
  | ret=>rfl
  | exit id=>rfl
theorem ef.append{P:Program}{lent:List ao}{cs1 cs2:List Code}{st:az}{Q1 Q:AE→az→Prop}(h:ef P lent cs1 st Q1)(k:∀ e st',Q1 e st'→GT P lent cs2 e st' Q) :ef P lent (cs1++cs2) st Q:=by
  intro ρ0 w0 hN K hK a w hA
  apply yc
  refine h ρ0 w0 hN _ ?_ a w hA
  intro e st' a' w' q hA'
  have:=k e st' q
  cases e with
  | normal=>exact this ρ0 w0 hN K hK a' w' hA'
  | ret=>exact hK _ _ _ _ this hA'
  | exit id=>exact hK _ _ _ _ this hA'
def qZ{X:Type}(E:X→AE×az) :Prop:=∀ x,(E x).1 ≠ .normal
theorem M9{P:Program}{lent:List ao}{cs:List Code}{e:AE}{st:az}{Q:AE→az→Prop}(hn:e ≠ .normal)(h:Q e st) :GT P lent cs e st Q:=by
  cases e with
  | normal=>exact (hn rfl).elim
  | ret=>exact h
  | exit id=>exact h
def aT{α β X:Type}(m:Option (α⊕X))(k:α→Option (β⊕X)) :Option (β⊕X) :=
  match m with
  | none=>none
  | some (.inl a)=>k a
  | some (.inr x)=>some (.inr x)
theorem Sg.seq{P:Program}{lent:List ao}{α β X:Type}{cs1 cs2:List Code}{st:az}{m:Option (α⊕X)}{N1:α→az}{E:X→AE×az}{k:α→Option (β⊕X)}{N:β→az}(hE:qZ E) 
    (h:Sg P lent cs1 st m N1 E) (hk:∀ a,Sg P lent cs2 (N1 a) (k a) N E):Sg P lent (cs1++cs2) st (aT m k) N E:=by
  intro r hr
  unfold aT at hr
  split at hr
  · cases hr
  · rename_i a
    refine ef.append (h _ rfl) ?_
    intro e st' q
    simp only [vc,Prod.mk.injEq] at q
    obtain ⟨rfl,rfl⟩:=q
    exact hk a r hr
  · rename_i x
    simp only [Option.some.injEq] at hr;subst hr
    refine ef.append (h _ rfl) ?_
    intro e st' q
    simp only [vc] at q
    refine M9 ?_ q
    have:=hE x
    rw [←q] at this;exact this
def tV{σ Y:Type}(B:σ→Option (σ⊕Y)) :Nat→σ→Option Y
  | 0,_=>none
  | n+1,s=>match B s with
    | none=>none
    | some (.inl s')=>tV B n s'
    | some (.inr y)=>some y
theorem yf{σ Y:Type}{B:σ→Option (σ⊕Y)} :∀ (n:Nat) {s:σ} {y:Y},tV B n s=some y→∀ m,n≤m→tV B m s=some y
  | 0,s,y,h,_,_=>by cases h
  | n+1,s,y,h,m,hm=>by
    obtain ⟨m',rfl⟩:∃ m',m=m'+1:=⟨m-1,by omega⟩
    simp only [tV] at h ⊢
    split at h
    · cases h
    · exact yf n h m' (by omega)
    · exact h
open Classical in
noncomputable def cO {σ Y : Type} (B : σ → Option (σ ⊕ Y)) (s : σ) : Option Y :=
  if h : ∃ n y, tV B n s = some y then some h.choose_spec.choose else none
theorem wo{σ Y:Type}{B:σ→Option (σ⊕Y)}{s:σ}{y:Y} :cO B s=some y↔∃ n,tV B n s=some y:=by
  unfold cO
  constructor
  · intro h
    split at h
    · rename_i q
      simp only [Option.some.injEq] at h
      exact ⟨q.choose,by rw [←h];exact q.choose_spec.choose_spec⟩
    · cases h
  · rintro ⟨n,h⟩
    rw [dif_pos ⟨n,y,h⟩]
    generalize hq:(⟨n,y,h⟩:∃ n y,tV B n s=some y)=q
    have h1:=q.choose_spec.choose_spec
    have a1:=yf n h (max n q.choose) (by omega)
    have a2:=yf _ h1 (max n q.choose) (by omega)
    rw [a1] at a2
    exact a2.symm
theorem KF{σ Y:Type}(B:σ→Option (σ⊕Y))(s:σ) :cO B s=match B s with
    | none=>none
    | some (.inl s')=>cO B s'
    | some (.inr y)=>some y:=by
  have key:∀ y,cO B s=some y↔(match B s with | none=>none | some (.inl s')=>cO B s' | some (.inr y)=>some y)=some y:=by
    intro y
    rw [wo]
    constructor
    · rintro ⟨n,h⟩
      cases n with
      | zero=>cases h
      | succ n =>
        simp only [tV] at h
        cases q:B s with
        | none=>rw [q] at h;cases h
        | some z=>cases z with
          | inl s'=>rw [q] at h;exact wo.2 ⟨n,h⟩
          | inr z=>rw [q] at h;exact h
    · intro h
      split at h<;>rename_i q
      · cases h
      · obtain ⟨n,hn⟩:=wo.1 h
        exact ⟨n+1,by simp only [tV,q];exact hn⟩
      · exact ⟨1,by simp only [tV,q];exact h⟩
  generalize (match B s with | none=>none | some (.inl s')=>cO B s' | some (.inr y)=>some y)=x at key
  cases hl:cO B s with
  | none=>cases x with
    | none=>rfl
    | some y=>rw [(key y).2 rfl] at hl;cases hl
  | some y=>rw [hl] at key;exact ((key y).1 rfl).symm
theorem zA{σ Y:Type}{B:σ→Option (σ⊕Y)}{s s':σ}(h:B s=some (.inl s')) :cO B s=cO B s':=by rw [KF,h]
theorem jc{σ Y:Type}{B:σ→Option (σ⊕Y)}{s:σ}{y:Y}(h:B s=some (.inr y)) :cO B s=some y:=by rw [KF,h]
theorem NX{σ Y:Type}{B:σ→Option (σ⊕Y)}(G:σ→Prop)(m:σ→Nat)(Q:Y→Prop)(h:∀ s,G s→(∃ s',B s=some (.inl s')∧G s'∧m s'<m s)∨∃ y,B s=some (.inr y)∧Q y) :
    ∀ s,G s→∃ y,cO B s=some y∧Q y:=by
  have key:∀ n s,m s<n→G s→∃ y,cO B s=some y∧Q y:=by
    intro n
    induction n with
    | zero=>intro s q;omega
    | succ n ih =>
      intro s q hs
      rcases h s hs with ⟨s',h1,h2,h3⟩ | ⟨y,h1,h2⟩
      · obtain ⟨y,k1,k2⟩:=ih s' (by omega) h2
        exact ⟨y,by rw [zA h1];exact k1,k2⟩
      · exact ⟨y,jc h1,h2⟩
  exact fun s hs=>key _ s (Nat.lt_succ_self _) hs
def eE{ρ X:Type}(id:Nat)(J:ρ→az)(E:X→AE×az) :ρ⊕X→AE×az
  | .inl r=>(.exit id,J r)
  | .inr x=>E x
def pF{X:Type}(id:Nat)(E:X→AE×az) :Prop:=∀ x,(E x).1 ≠ .exit id
theorem Sg.loop{P:Program}{lent:List ao}{σ ρ X:Type}{I:σ→az}{J:ρ→az}{E:X→AE×az}{B:σ→Option (σ⊕(ρ⊕X))}{id:Nat}{b:Code}(hE:qZ E)(hI:pF id E) 
    (hb:∀ s,Sg P lent (cN b) (I s) (B s) I (eE id J E)) (s:σ):Sg P lent [.block id (.loop b)] (I s) (cO B s) J E:=by
  intro y hy
  obtain ⟨n,hn⟩:=wo.1 hy

  have:=ef.loop (P:=P) (lent:=lent) (id:=id) (b:=b) (rest:=[]) (Q:=fun e st'=>(e,st')=vc J E y) (σ:=Nat×σ) (fun s=>I s.2) (fun s=>tV B s.1 s.2=some y) (fun s=>s.1) rfl (fun s hs=>?_) (n,s) hn
  · exact this
  · obtain ⟨n,s⟩:=s
    simp only at hs ⊢
    cases n with
    | zero=>cases hs
    | succ n =>
      simp only [tV] at hs
      split at hs
      · cases hs
      · rename_i s' hB
        refine (hb s _ hB).mono ?_
        intro e st' q
        simp only [vc,Prod.mk.injEq] at q
        obtain ⟨rfl,rfl⟩:=q
        exact ⟨(n,s'),hs,by simp,rfl⟩
      · rename_i y' hB
        simp only [Option.some.injEq] at hs;subst hs
        refine (hb s _ hB).mono ?_
        intro e st' q
        cases y' with
        | inl r =>
          simp only [vc,eE,Prod.mk.injEq] at q
          obtain ⟨rfl,rfl⟩:=q
          simp only [zt,if_true]
          exact ef.nil rfl
        | inr x =>
          simp only [vc,eE] at q
          have h1:=hE x
          have h2:=hI x
          rw [←q] at h1 h2
          simp only at h1 h2
          cases e with
          | normal=>exact (h1 rfl).elim
          | ret=>exact q
          | exit j =>
            have hj : ¬ j=id:=fun h=>h2 (by rw [h])
            simp only [zt,hj,if_false]
            exact q
def xb{κ X:Type}(m:Option (κ⊕(κ⊕X))) :Option (κ⊕X) :=
  match m with
  | none=>none
  | some (.inl a)=>some (.inl a)
  | some (.inr (.inl a))=>some (.inl a)
  | some (.inr (.inr x))=>some (.inr x)
theorem Sg.block{P:Program}{lent:List ao}{κ X:Type}{K:κ→az}{E:X→AE×az}{m:Option (κ⊕(κ⊕X))}{id:Nat}{b:Code}{st:az}(hE:qZ E)(hI:pF id E) 
    (hb:Sg P lent (cN b) st m K (eE id K E)):Sg P lent [.block id b] st (xb m) K E:=by
  intro r hr
  unfold xb at hr
  refine ef.block (rest:=[]) rfl ?_
  split at hr
  · cases hr
  · simp only [Option.some.injEq] at hr;subst hr
    refine (hb _ rfl).mono ?_
    intro e st' q
    simp only [vc,Prod.mk.injEq] at q
    obtain ⟨rfl,rfl⟩:=q
    exact ef.nil rfl
  · simp only [Option.some.injEq] at hr;subst hr
    refine (hb _ rfl).mono ?_
    intro e st' q
    simp only [vc,eE,Prod.mk.injEq] at q
    obtain ⟨rfl,rfl⟩:=q
    simp only [if_true]
    exact ef.nil rfl
  · rename_i x
    simp only [Option.some.injEq] at hr;subst hr
    refine (hb _ rfl).mono ?_
    intro e st' q
    simp only [vc,eE] at q
    have h1:=hE x
    have h2:=hI x
    rw [←q] at h1 h2
    simp only at h1 h2
    cases e with
    | normal=>exact (h1 rfl).elim
    | ret=>exact q
    | exit j =>
      have hj : ¬ j=id:=fun h=>h2 (by rw [h])
      simp only [hj,if_false]
      exact q
theorem Sg.scope{P:Program}{lent:List ao}{α X:Type}{N:α→az}{E:X→AE×az}{m:Option (α⊕X)}{b:Code}{st:az}(hE:qZ E)(hb:Sg P lent (cN b) st m N E) :Sg P lent [.scope b] st m N E:=by
  intro r hr
  refine ef.scope (rest:=[]) rfl ((hb r hr).mono ?_)
  intro e st' q
  cases r with
  | inl a =>
    simp only [vc,Prod.mk.injEq] at q
    obtain ⟨rfl,rfl⟩:=q
    exact ef.nil rfl
  | inr x =>
    refine M9 ?_ q
    have:=hE x
    simp only [vc] at q
    rw [←q] at this;exact this
theorem KG{k:Nat}{ρ0:ae}{w0:World}{st:az}{a:Act}{w:World}{c:Operand}{b kn:Bool}(h:At k ρ0 w0 st a w)(hc:Ql st.tmps c=.bool kn b) :At k ρ0 w0 { st with tmps:=md st.tmps c b } a w∧a.eval c=.bool b:=by
  obtain ⟨ρ,E,W,hs,hbk,hle⟩:=h
  have hb:a.eval c=.bool b:=by
    have:=D5 hs.heap.rom hs.tmps c
    rw [hc] at this
    generalize a.eval c=z at this
    cases this;rfl
  refine ⟨⟨ρ,E,W,⟨hs.defers,?_,hs.heap⟩,hbk,hle⟩,hb⟩
  cases c with
  | tmp t =>
    simp only [md]
    have:cz ρ w (st.tmps.set t (.bool true b)) (a.tmps.toList.set t (.bool b)):=hs.tmps.set (.bool _ _) t
    have e:a.tmps.toList.set t (.bool b)=a.tmps.toList:=by
      apply List.ext_getElem?
      intro j
      rw [List.getElem?_set]
      split
      · rename_i q;subst q
        split
        · rename_i hlt
          simp only [Act.eval] at hb
          rw [Array.getD_eq_getD_getElem?] at hb
          have hlt':t<a.tmps.size:=by simpa using hlt
          rw [Array.getElem?_eq_getElem hlt'] at hb
          simp only [Option.getD_some] at hb
          simp [hlt',hb]
        · rename_i hge
          rw [List.getElem?_eq_none (by omega)]
      · rfl
    rw [e] at this;exact this
  | const v=>exact hs.tmps
  | global g=>exact hs.tmps
  | func f=>exact hs.tmps
theorem Sg.cond{P:Program}{lent:List ao}{α X:Type}{N:α→az}{E:X→AE×az}{m1 m2:Option (α⊕X)}{c:Operand}{A B:Code}{st:az}{kn b:Bool}(hE:qZ E)(hc:Ql st.tmps c=.bool kn b) 
    (h1:Sg P lent (cN A) { st with tmps:=md st.tmps c true } m1 N E) (h2:Sg P lent (cN B) { st with tmps:=md st.tmps c false } m2 N E):Sg P lent [.cond c A B] st (bif b then m1 else m2) N E:=by
  intro r hr
  intro ρ0 w0 hN K hK a w hA
  simp only [GC]
  obtain ⟨hA',hb⟩:=KG hA hc
  refine wp_cond hb ?_
  have fin:∀ (D:Code) (m:Option (α⊕X)) (st1:az),Sg P lent (cN D) st1 m N E→m=some r→At lent.length ρ0 w0 st1 a w→D.wp P (fun e a' w'=>match e with | .normal=>K .normal a' w' | e=>K e a' w') a w:=by
    intro D m st1 hS hm hA1
    refine ta D (hS r hm ρ0 w0 hN _ ?_ a w hA1)
    intro e st' a' w' q hA2
    cases e with
    | normal=>exact hK .normal st' a' w' q hA2
    | ret=>exact hK .ret st' a' w' q hA2
    | exit id=>exact hK (.exit id) st' a' w' q hA2
  cases b with
  | true=>exact fin A m1 _ h1 hr hA'
  | false=>exact fin B m2 _ h2 hr hA'
theorem Sg.pre{P:Program}{lent:List ao}{α X:Type}{N:α→az}{E:X→AE×az}{m:Option (α⊕X)}{cs:List Code}{st st1:az}(s:NS)(hn:s.ok lent.length=true)(h1:s.on st=st1)(h:Sg P lent cs st1 m N E) :Sg P lent cs st m N E :=
  fun r hr=>ef.weak (by rw [←h1];exact O8 hn st) (h r hr)
def ur{X:Type} :Option (Empty⊕X)→Option X
  | some (.inr x)=>some x
  | _=>none
theorem Sg.contract{P:Program}{f:FuncId}{fn:Func}{c:Code}{X:Type}{N:Empty→az}{E:X→AE×az}{m:Option (Empty⊕X)}{lent:List ao}{args:List AV}(keep:Bool)(o:X→mW)(hf:P.funcs[f]? = some fn)(hc:fn.body=some c) 
    (h:Sg P lent (cN c) (qQ fn lent args) m N E) (hE:∀ x,MV P fn lent.length keep (o x) (E x).1 (E x).2) {x:X} (hx:ur m=some x):ak P f lent args (o x):=by
  unfold ur at hx
  split at hx
  · rename_i x'
    simp only [Option.some.injEq] at hx;subst hx
    refine ef.contract (keep:=keep) hf hc ((h _ rfl).mono ?_)
    intro e st' q
    simp only [vc] at q
    have:=hE x'
    rw [←q] at this;exact this
  · cases hx
end Go.Plb
namespace Go.Plb
set_option linter.unusedSectionVars false
variable [Rom]
theorem cH{ρ X:Type}{id:Nat}{J:ρ→az}{E:X→AE×az}(h:qZ E) :qZ (eE id J E):=by
  intro x
  cases x with
  | inl r=>intro q;cases q
  | inr x=>exact h x
def fA:Code→Code
  | .block _ (.loop b)=>b
  | _=>.skip
def inBlock:Code→Code
  | .block _ b=>b
  | _=>.skip
def Na:Code→Code
  | .scope b=>b
  | _=>.skip
def PF:Code→Code
  | .cond _ a _=>a
  | _=>.skip
def PG:Code→Code
  | .cond _ _ b=>b
  | _=>.skip
theorem Sg.cut{P:Program}{lent:List ao}{α β X:Type}{cs:List Code}{st:az}{m:Option (α⊕X)}{N1:α→az}{E:X→AE×az}{k:α→Option (β⊕X)}{N:β→az}(n:Nat)(hE:qZ E) 
    (h:Sg P lent (cs.take n) st m N1 E) (hk:∀ a,Sg P lent (cs.drop n) (N1 a) (k a) N E):Sg P lent cs st (aT m k) N E:=by
  have:=Sg.seq hE h hk
  rwa [List.take_append_drop] at this
theorem H9{P:Program}{lent:List ao}{σ ρ X:Type}{I:σ→az}{J:ρ→az}{E:X→AE×az}{B:σ→Option (σ⊕(ρ⊕X))}{id:Nat}{b:Code}{cs:List Code}(hcs:cs=[.block id (.loop b)])(hE:qZ E)(hI:pF id E) 
    (hb:∀ s,Sg P lent (cN b) (I s) (B s) I (eE id J E)) (s:σ):Sg P lent cs (I s) (cO B s) J E:=by rw [hcs];exact Sg.loop hE hI hb s
theorem LU{P:Program}{lent:List ao}{κ X:Type}{K:κ→az}{E:X→AE×az}{m:Option (κ⊕(κ⊕X))}{id:Nat}{b:Code}{st:az}{cs:List Code}(hcs:cs=[.block id b])(hE:qZ E)(hI:pF id E) 
    (hb:Sg P lent (cN b) st m K (eE id K E)):Sg P lent cs st (xb m) K E:=by rw [hcs];exact Sg.block hE hI hb
theorem LV{P:Program}{lent:List ao}{α X:Type}{N:α→az}{E:X→AE×az}{m:Option (α⊕X)}{b:Code}{st:az}{cs:List Code}(hcs:cs=[.scope b])(hE:qZ E)(hb:Sg P lent (cN b) st m N E) :Sg P lent cs st m N E:=by
  rw [hcs];exact Sg.scope hE hb
theorem Ia{P:Program}{lent:List ao}{α X:Type}{N:α→az}{E:X→AE×az}{m1 m2:Option (α⊕X)}{c:Operand}{A B:Code}{st:az}{kn b:Bool}{cs:List Code}(hcs:cs=[.cond c A B])(hE:qZ E)(hc:Ql st.tmps c=.bool kn b) 
    (h1:Sg P lent (cN A) { st with tmps:=md st.tmps c true } m1 N E) (h2:Sg P lent (cN B) { st with tmps:=md st.tmps c false } m2 N E):Sg P lent cs st (bif b then m1 else m2) N E:=by rw [hcs];exact Sg.cond hE hc h1 h2
end Go.Plb
namespace Go.Plb.Seat
open Go Go.Plb
set_option linter.unusedSimpArgs false
set_option linter.unusedVariables false
noncomputable abbrev E0:zq:=bt []
def L1:List aK:=[]
def S1:zq:=bt L1
theorem Si:bo prog S1:=yd _
end Go.Plb.Seat
namespace Go.Plb.Seat
open Go Go.Plb
set_option linter.unusedSimpArgs false
set_option linter.unusedVariables false
set_option maxRecDepth 100000
def gT(n:Nat) :Bool:=Nat.ble n 1000000000
noncomputable def L2:List aK:=L1
theorem Sj:bo prog (bt L2):=Si
end Go.Plb.Seat
namespace Go.Plb.Seat
open Go Go.Plb
set_option linter.unusedSimpArgs false
set_option linter.unusedVariables false
theorem ak.nan{f:FuncId}{g:Nat→mW}{r:mW}(h:∀ n:Nat,ak prog f [] [.int .u64 (n:Int)] (g n))(e:∀ n:Nat,isNaN n=true→g n=r) :ak prog f [] [.nan] r:=by
  intro ρ w us hN hv
  cases hv with | cons _ u _ _ h1 h2 =>
  cases h2
  cases h1 with | nan n hn =>
  rw [←e n hn]
  exact h n ρ w _ hN (.cons _ _ _ _ (.int _ _) .nil)
noncomputable def L3:List aK:=L2
theorem S4:bo prog (bt L3):=Sj
end Go.Plb.Seat
namespace Go.Plb.Seat
open Go Go.Plb
set_option linter.unusedVariables false
set_option maxRecDepth 100000
theorem cp{S:zq}(hS:bo prog S){lent:List ao}{α X:Type}{cs:List Code}{st:az}{t:T (α⊕X)}(N:α→az){E:X→AE×az}(ks:List NS) 
    (h:PE C0 S 60 cs st t.leaves ks lent.length=M7 N E t.leaves:=by kernel_rfl):Sg prog lent cs st t.run N E:=Sg.seg Rf hS 60 cs st t N E ks h
theorem LW{lent:List ao}{σ ρ X:Type}{cs:List Code}{st:az}{E:X→AE×az}{B:σ→Option (σ⊕(ρ⊕X))}{ent:σ}(s:NS)(I:σ→az)(J:ρ→az)(id:Nat)(hE:qZ E)(hI:pF id E) 
    (hb:∀ a,Sg prog lent (cN (fA (cs.headD .skip))) (I a) (B a) I (eE id J E)) (hn:s.ok lent.length=true:=by exact rfl) (h1:s.on st=I ent:=by kernel_rfl) (hcs:cs=[.block id (.loop (fA (cs.headD .skip)))]:=by kernel_rfl) :
    Sg prog lent cs st (cO B ent) J E:=Sg.pre s hn h1 (H9 hcs hE hI hb ent)
theorem S5{lent:List ao}{κ X:Type}{cs:List Code}{st:az}{E:X→AE×az}{m:Option (κ⊕(κ⊕X))}(K:κ→az)(id:Nat)(hE:qZ E)(hI:pF id E) 
    (hb:Sg prog lent (cN (inBlock (cs.headD .skip))) st m K (eE id K E)) (hcs:cs=[.block id (inBlock (cs.headD .skip))]:=by kernel_rfl):Sg prog lent cs st (xb m) K E:=LU hcs hE hI hb
def uF:Empty→az:=fun a=>a.elim
theorem ra{fn:Func}{k:Nat}{keep:Bool}{o:mW}{st:az}(vs:List AV)(h1:fW prog fn st fn.results.toList=some (vs,[]):=by kernel_rfl)(h2:EA k keep st.heap (A2 vs)=some o:=by kernel_rfl) :MV prog fn k keep o .ret st :=
  ⟨.inr rfl,vs,[],h1,trivial,h2⟩
theorem xc{f:FuncId}{X:Type}{m:Option (Empty⊕X)}{lent:List ao}{args:List AV}{x:X}(keep:Bool)(o:X→mW)(E:X→AE×az)(hx:ur m=some x) 
    (h:Sg prog lent (cN (qI f)) (qQ (FN f) lent args) m uF E) (hE:∀ x,MV prog (FN f) lent.length keep (o x) (E x).1 (E x).2)
    (hf:prog.funcs[f]? = some (FN f):=by kernel_rfl) (hc:(FN f).body=some (qI f):=by kernel_rfl):ak prog f lent args (o x) :=
  Sg.contract (P:=prog) (f:=f) (fn:=FN f) (c:=qI f) (N:=uF) (E:=E) (lent:=lent) (args:=args) keep o hf hc h hE hx
end Go.Plb.Seat
namespace Go.Plb.Seat
open Go Go.Plb
noncomputable def Sk:List aK:=[]
theorem DX:bo prog (bt Sk):=yd prog
end Go.Plb.Seat
namespace Go.Plb.Seat
open Go Go.Plb
set_option linter.unusedVariables false
set_option maxRecDepth 100000
noncomputable section
inductive dx where
  | r0 (s5:ByteArray)
def rb:dx→AE×az
  | .r0 s5=>(.ret,⟨an 20 [(2,.str s5)],[],0⟩)
theorem tn:qZ rb:=by intro x;cases x<;>(intro h;cases h)
theorem Jc(id:Nat) :pF id rb:=by intro x;cases x<;>(intro h;cases h)
def ve:dx→mW
  | .r0 s5=>⟨.str s5,[]⟩
noncomputable def Jd:List Code:=cN (qI ow)
def Je(w_0:Int)(l1:(List Int)) :az:=⟨an 20 [(0,.int .u64 w_0),(3,.ptr 0 1 0 0),(5,.int .i64 (0:Int))],[(0,.ns .u8 l1)],1⟩
def Jf:T (((List Int))⊕(dx)) :=
  .leaf (.inl [(0:Int),(0:Int),(0:Int),(0:Int),(0:Int),(0:Int),(0:Int),(0:Int),(0:Int),(0:Int),(0:Int),(0:Int),(0:Int),(0:Int),(0:Int),(0:Int)])
def pG(w_0:Int) :Nat×(List Int)→az:=fun (a2,l3)=>⟨an 20 [(0,.int .u64 w_0),(3,.ptr 0 1 0 0),(5,.int .i64 ((a2:Nat):Int))],[(0,.ns .u8 l3)],1⟩
def zB(l4:(List Int)) :az:=⟨an 20 [(3,.ptr 0 1 0 0)],[(0,.ns .u8 l4)],1⟩
noncomputable def Jg:List Code:=cN (fA ((((Jd.drop 3).take 1)).headD .skip))
def tp(w_0:Int)(a2:Nat)(l3:List Int) :T ((Nat×(List Int))⊕(((List Int))⊕(dx))) :=
  .ask (decide (((a2:Nat):Int)<(16:Int)))
    (.need (fw .i64 (((4*a2):Nat):Int))<|.need (fw .i64 ((60:Int)-(((4*a2):Nat):Int)))<|.need (decide ((0:Int)≤((60:Int)-(((4*a2):Nat):Int))))<|.need (oK (wN .and .u64 (Int.fdiv w_0 (2^(min (Int.toNat ((60:Int)-(((4*a2):Nat):Int))) (IntKind.u64.bits)))) (15:Int)) (ByteArray.mk #[48,49,50,51,52,53,54,55,56,57,65,66,67,68,69,70]).size)<|.need (oK ((a2:Nat):Int) 16)<|.need (gO (dC (dC 0 (CO a2 1)) 0) (List.length l3))<|.need (fw .i64 (((a2+1):Nat):Int))<|.leaf (.inl ((a2+1),(List.set l3 (dC (dC 0 (CO a2 1)) 0) (aD (ByteArray.mk #[48,49,50,51,52,53,54,55,56,57,65,66,67,68,69,70]) (Int.toNat (wN .and .u64 (Int.fdiv w_0 (2^(min (Int.toNat ((60:Int)-(((4*a2):Nat):Int))) (IntKind.u64.bits)))) (15:Int))))))))
    (.leaf (.inr (.inl l3)))
noncomputable def kX(w_0:Int) :Nat×(List Int)→Option ((Nat×(List Int))⊕(((List Int))⊕(dx))):=fun (a2,l3) =>
  (tp w_0 a2 l3).run
theorem GY(w_0:Int)(a2:Nat)(l3:List Int) :Sg prog [] Jg (pG w_0 (a2,l3)) (kX w_0 (a2,l3)) (pG w_0) (eE 0 zB rb):=by
  unfold kX;exact cp DX (pG w_0) [⟨[],[0],[0,3,5]⟩,⟨[],[0],[3]⟩]
def xd(l4:List Int) :T ((Empty)⊕(dx)) :=
  .need (pT (16:Int) 16)<|.need (pT (0:Int) 16)<|.need (fS 16 (List.length l4))<|.need (fS 16 (List.length l4))<|.leaf (.inr (.r0 (Ci (List.take 16 l4))))
noncomputable def rc(w_0:Int) :Option dx:=ur (aT ((Jf).run) fun l1 =>
  aT (cO (kX w_0) (0,l1)) fun l4 =>
  (xd l4).run)
theorem zC(w_0:Int){x:dx}(h:rc w_0=some x) :ak prog ow [] [.int .u64 w_0] (ve x) :=
  xc false ve rb h (Sg.cut 3 tn (cp DX (Je w_0) [⟨[],[16],[0,3,5]⟩]) (fun l1=>Sg.cut 1 tn (LW ⟨[],[0],[0,3,5]⟩ (pG w_0) (zB) 0 tn (Jc _) (fun ⟨a2,l3⟩=>GY w_0 a2 l3)) (fun l4=>cp DX uF [⟨[],[],[2]⟩])))
    (fun x=>by cases x with | r0 s5=>exact ra [.str s5])
def tq:Option dx→Bool
  | some _=>true
  | none=>false
def vf:Option dx→ByteArray
  | some (.r0 x)=>x
  | _=>ByteArray.empty
theorem Jh{x:Option dx}(h:tq x=true) :x=some (.r0 (vf x)):=by
  unfold tq at h
  split at h<;>first | rfl | (cases h;done) | (rename_i y;cases y;rfl)
noncomputable def Cs:aK:=cT ow (.cons (.int .u64) .nil) fun t=>(fun q=>[⟨ve (.r0 (vf q)),[tq q]⟩]) (rc t.1)
theorem ES:aV prog Cs:=aU fun t=>(aZ (fun h=>zC t.1 (Jh h)) bI)
noncomputable def KH:List aK:=Cs::Sk
theorem PH:bo prog (bt KH):=au ES DX
end
end Go.Plb.Seat
namespace Go.Plb
set_option linter.unusedSimpArgs false
set_option linter.unusedVariables false
set_option linter.unusedSectionVars false
variable [Rom]
theorem am{α:Type}{b:Bool}{t:T α}{x:Option α}(h:b=true)(k:t.run=x) :(T.need b t).run=x:=by subst h;exact k
theorem bK{α:Type}{b:Bool}{t f:T α}{x:Option α}(h:b=true)(k:t.run=x) :(T.ask b t f).run=x:=by subst h;exact k
theorem bm{α:Type}{b:Bool}{t f:T α}{x:Option α}(h:b=false)(k:f.run=x) :(T.ask b t f).run=x:=by subst h;exact k
theorem zD{α:Type}{k:Nat}{t f:T α}{a:α}(h:t.run=some a) :(T.alt k t f).run=some a:=by simp only [T.run,h]
theorem ut{α:Type}{k:Nat}{t f:T α}{x:Option α}(h:t.run=none)(q:f.run=x) :(T.alt k t f).run=x:=by simp only [T.run,h];exact q
theorem uu{α:Type}{b:Bool}{t:T α}(h:b=false) :(T.need b t).run=none:=by subst h;rfl
theorem bi{α:Type}{b:Bool}{t:T α}{x:Option α}(k:t.run=x)(h:b=true:=by exact rfl) :(T.need b t).run=x:=am h k
theorem bc{α:Type}{b:Bool}{t f:T α}{x:Option α}(k:t.run=x)(h:b=true:=by exact rfl) :(T.ask b t f).run=x:=bK h k
theorem aI{α:Type}{b:Bool}{t f:T α}{x:Option α}(k:f.run=x)(h:b=false:=by exact rfl) :(T.ask b t f).run=x:=bm h k
theorem ah{α β X:Type}{m:Option (α⊕X)}{k:α→Option (β⊕X)}{a:α}{x:Option (β⊕X)}(h:m=some (.inl a))(q:k a=x) :aT m k=x:=by subst h;exact q
theorem aG{α β X:Type}{m:Option (α⊕X)}{k:α→Option (β⊕X)}{y:X}(h:m=some (.inr y)) :aT m k=some (.inr y):=by subst h;rfl
theorem KI{κ X:Type}{m:Option (κ⊕(κ⊕X))}{a:κ}(h:m=some (.inl a)) :xb m=some (.inl a):=by subst h;rfl
theorem NY{κ X:Type}{m:Option (κ⊕(κ⊕X))}{a:κ}(h:m=some (.inr (.inl a))) :xb m=some (.inl a):=by subst h;rfl
theorem sk{κ X:Type}{m:Option (κ⊕(κ⊕X))}{a:X}(h:m=some (.inr (.inr a))) :xb m=some (.inr a):=by subst h;rfl
theorem aH{X:Type}{m:Option (Empty⊕X)}{x:X}(h:m=some (.inr x)) :ur m=some x:=by subst h;rfl
theorem NZ{σ Y:Type}{B:σ→Option (σ⊕Y)}(st:Nat→σ)(n:Nat){y:Y}(i:Nat)(hi:i≤n)(step:∀ j,i≤j→j<n→B (st j)=some (.inl (st (j+1))))(done:B (st n)=some (.inr y)) :cO B (st i)=some y:=by
  obtain ⟨d,rfl⟩:∃ d,n=i+d:=⟨n-i,by omega⟩
  clear hi
  induction d generalizing i with
  | zero=>exact jc done
  | succ d ih =>
    rw [zA (step i (Nat.le_refl _) (by omega))]
    have e:i+(d+1)=i+1+d:=by omega
    rw [e] at step done
    exact ih (i+1) (fun j h1 h2=>step j (by omega) h2) done
theorem cV{σ Y:Type}{B:σ→Option (σ⊕Y)}(st:Nat→σ)(n:Nat){y:Y}{s0:σ}(h0:s0=st 0)(step:∀ j,j<n→B (st j)=some (.inl (st (j+1))))(done:B (st n)=some (.inr y)) :cO B s0=some y:=by
  rw [h0];exact NZ st n 0 (Nat.zero_le _) (fun j _=>step j) done
theorem aX{n:Int} :fw .i64 n=true↔-9223372036854775808≤n∧n≤9223372036854775807:=by
  have e1:IntKind.i64.min = -9223372036854775808:=by decide
  have e2:IntKind.i64.max=9223372036854775807:=by decide
  simp only [fw,e1,e2,Bool.and_eq_true,decide_eq_true_eq]
theorem dc{k:Int}{n:Nat} :oK k n=true↔0≤k∧k<n:=by simp only [oK,Bool.and_eq_true,decide_eq_true_eq]
theorem lQ{k:Int}{n:Nat} :pT k n=true↔0≤k∧k≤n:=by simp only [pT,Bool.and_eq_true,decide_eq_true_eq]
theorem cq{k n:Nat} :gO k n=true↔k<n:=by simp [gO]
theorem cd{k n:Nat} :fS k n=true↔k≤n:=by simp [fS]
theorem zE{k n:Nat} :Nat.blt k n=true↔k<n:=by rw [Nat.blt_eq]
def GZ{α:Type}(pos:Nat→Nat)(val:Nat→α)(l:List α) :Nat→List α
  | 0=>l
  | n+1=>(GZ pos val l n).set (pos n) (val n)
theorem zF{α:Type}{pos:Nat→Nat}{val:Nat→α}{l:List α} :∀ {n:Nat},(GZ pos val l n).length=l.length
  | 0=>rfl
  | n+1=>by simp only [GZ,List.length_set];exact zF
theorem PI{α:Type}(l:List α) :se 0 l.length l=true:=by rw [sf];omega
theorem ET{α:Type}{b:Bool}{t:T α}{x:Option α}(k:t.run=x)(h:b=true:=by exact PI _) :(T.need b t).run=x:=am h k
theorem EU(n:Nat) :fS n n=true:=by rw [cd];exact Nat.le_refl n
theorem first_bad{p:Nat→Prop} [DecidablePred p]:∀ {n:Nat},(¬ ∀ i,i<n→p i)→∃ k,k<n∧¬ p k∧∀ j,j<k→p j
  | 0,h=>(h fun i hi=>absurd hi (Nat.not_lt_zero _)).elim
  | n+1,h=>by
    by_cases q:∀ i,i<n→p i
    · refine ⟨n,Nat.lt_succ_self _,fun r=>h fun i hi=>?_,q⟩
      rcases Nat.lt_succ_iff_lt_or_eq.1 hi with a | rfl
      · exact q i a
      · exact r
    · obtain ⟨k,h1,h2,h3⟩:=first_bad q
      exact ⟨k,by omega,h2,h3⟩
theorem tr(n:Nat) :Int.toNat (n:Int)=n:=rfl
def JM{α:Type}(m:Option α)(Q:α→Prop) :Prop:=∃ r,m=some r∧Q r
theorem JM.mono{α:Type}{m:Option α}{Q R:α→Prop}(h:JM m Q)(k:∀ r,Q r→R r) :JM m R:=by
  obtain ⟨r,a,b⟩:=h
  exact ⟨r,a,k r b⟩
def T.wp{α:Type}(Q:α→Prop) :T α→Prop
  | .fail=>False
  | .leaf a=>Q a
  | .ask b t f=>(b=true→t.wp Q)∧(b=false→f.wp Q)
  | .need b t=>b=true∧t.wp Q
  | .alt _ t e=>t.wp Q∨(t.run=none∧e.wp Q)
theorem JM.seq{α β X:Type}{m:Option (α⊕X)}{k:α→Option (β⊕X)}{N:β→Prop}{E:X→Prop}(h:JM m (Sum.elim (fun a=>JM (k a) (Sum.elim N E)) E)) :JM (aT m k) (Sum.elim N E):=by
  obtain ⟨r,a,b⟩:=h
  cases r with
  | inl x =>
    obtain ⟨r',a',b'⟩:=b
    exact ⟨r',ah a a',b'⟩
  | inr x=>exact ⟨.inr x,aG a,b⟩
theorem JM.join{κ X:Type}{m:Option (κ⊕(κ⊕X))}{N:κ→Prop}{E:X→Prop}(h:JM m (Sum.elim N (Sum.elim N E))) :JM (xb m) (Sum.elim N E):=by
  obtain ⟨r,a,b⟩:=h
  rcases r with x | x | x
  · exact ⟨.inl x,KI a,b⟩
  · exact ⟨.inl x,NY a,b⟩
  · exact ⟨.inr x,sk a,b⟩
theorem JM.loop{σ Y:Type}{B:σ→Option (σ⊕Y)}(I:σ→Prop)(m:σ→Nat){Q:Y→Prop}{s:σ}(h0:I s)(h:∀ s,I s→JM (B s) (Sum.elim (fun s'=>I s'∧m s'<m s) Q)) :JM (cO B s) Q:=by
  obtain ⟨y,a,b⟩:=NX I m Q (fun s hs=>by
    obtain ⟨r,a,b⟩:=h s hs
    cases r with
    | inl x=>exact .inl ⟨x,a,b.1,b.2⟩
    | inr y=>exact .inr ⟨y,a,b⟩) s h0
  exact ⟨y,a,b⟩
theorem JM.map{α R:Type}{m:Option α}{g:α→R}{E:R→Prop}(h:JM m fun a=>E (g a)) :JM (Option.map g m) E:=by
  obtain ⟨r,a,b⟩:=h
  exact ⟨g r,by rw [a];rfl,b⟩
theorem JM.some{α:Type}{a:α}{Q:α→Prop}(h:Q a) :JM (some a) Q:=⟨a,rfl,h⟩
end Go.Plb
namespace Go.Plb.Seat
open Go Go.Plb
set_option linter.unusedSimpArgs false
set_option linter.unusedVariables false
set_option maxRecDepth 100000
def ox:ByteArray:=ByteArray.mk #[48,49,50,51,52,53,54,55,56,57,65,66,67,68,69,70]
def dg(w:Int)(j:Nat) :Nat:=((Int.fdiv w (2^(60-4*j)))%16).toNat
theorem Nb(w:Int)(j:Nat) :dg w j<16:=by unfold dg;omega
def kY(w:Int) :List Int:=(List.range 16).map fun j=>aD ox (dg w j)
def bF(w:Int) :ByteArray:=Ci (kY w)
theorem Rz(x:Int) :wN .and .u64 x (15:Int)=(x%16):=by
  have e:wN .and .u64 x (15:Int)=IntKind.u64.wrap ((BitVec.ofInt 64 x &&& BitVec.ofInt 64 15).toNat:Int):=rfl
  rw [e,BitVec.toNat_and]
  have h15:(BitVec.ofInt 64 15).toNat=15:=by decide
  rw [h15]
  have hm:∀ n:Nat,n &&& 15=n%16:=fun n=>Nat.and_two_pow_sub_one_eq_mod n 4
  rw [hm]
  have hx:(BitVec.ofInt 64 x).toNat=(x%18446744073709551616).toNat:=by rw [BitVec.toNat_ofInt];rfl
  rw [hx]
  have:IntKind.u64.wrap (((x%18446744073709551616).toNat%16:Nat):Int)=(((x%18446744073709551616).toNat%16:Nat):Int):=by
    show ((((x%18446744073709551616).toNat%16:Nat):Int)%18446744073709551616)=_
    omega
  rw [this]
  omega
theorem Nc(w:Int){j:Nat}(hj:j<16) :wN .and .u64 (Int.fdiv w (2^(min (Int.toNat ((60:Int)-(((4*j):Nat):Int))) (IntKind.u64.bits)))) (15:Int)=((dg w j:Nat):Int):=by
  rw [Rz]
  have e:min (Int.toNat ((60:Int)-(((4*j):Nat):Int))) (IntKind.u64.bits)=60-4*j:=by
    have:IntKind.u64.bits=64:=rfl
    rw [this];omega
  rw [e]
  unfold dg
  omega
theorem Ib{α:Type}(val:Nat→α)(l:List α) :∀ (n:Nat),n≤l.length→List.take n (GZ (fun j=>j) val l n)=(List.range n).map val
  | 0,_=>rfl
  | n+1,h=>by
    have ih:=Ib val l n (by omega)
    have hl:(GZ (fun j=>j) val l n).length=l.length:=zF
    simp only [GZ]
    rw [List.take_add_one,List.take_set_of_le (Nat.le_refl _),ih,List.getElem?_set,if_pos rfl,if_pos (by omega),List.range_succ,List.map_append]
    rfl
theorem Ji(w:Int) :rc w=some (.r0 (bF w)):=by
  unfold rc
  refine aH (ah rfl (ah (a:=GZ (fun j=>j) (fun j=>aD ox (dg w j)) (List.replicate 16 (0:Int)) 16) (cV (fun j=>(j,GZ (fun j=>j) (fun j=>aD ox (dg w j)) (List.replicate 16 (0:Int)) j)) 16 rfl (fun j hj=>?_) ?_) ?_))
  · simp only [kX,tp]
    have hl:(GZ (fun j=>j) (fun j=>aD ox (dg w j)) (List.replicate 16 (0:Int)) j).length=16:=by rw [zF];rfl
    have hd:=Nb w j
    have ha:dC (dC 0 (CO j 1)) 0=j:=by cases j<;>simp [dC,CO]
    rw [Nc w hj,ha,hl]
    refine bK (by simp;omega) (am (by rw [aX];omega) (am (by rw [aX];omega) (am (by simp;omega) (am ?_ (am (by rw [dc];omega) (am (by rw [cq];omega) (am (by rw [aX];omega) rfl)))))))
    rw [dc]
    exact ⟨by omega,by show ((dg w j:Nat):Int)<((16:Nat):Int);omega⟩
  · simp only [kX,tp]
    exact bm (by simp) rfl
  · simp only [xd]
    have hl:(GZ (fun j=>j) (fun j=>aD ox (dg w j)) (List.replicate 16 (0:Int)) 16).length=16:=by rw [zF];rfl
    rw [hl]
    refine am (by decide) (am (by decide) (am (by decide) (am (by decide) ?_)))
    rw [Ib _ _ 16 (by decide)]
    rfl
theorem PJ(w:Int) :ak prog ow [] [.int .u64 w] ⟨.str (bF w),[]⟩:=zC w (Ji w)
end Go.Plb.Seat
namespace Go.Plb.Seat
open Go Go.Plb Go.Proofs Go.RowKit
set_option maxRecDepth 100000
set_option linter.unusedSimpArgs false
set_option linter.unusedVariables false
theorem Ct(s:ByteArray)(pos:Nat)(h:pos<s.size) :1≤(Utf8.decode s pos).2:=by
  by_cases ha:(s[pos]'h).toNat<128
  · rw [decode_ascii s pos h ha]
    exact Nat.le_refl _
  · exact (decode_high s pos h (by omega)).2
theorem LX(n:Int)(w:World)(hr:fY w) :Calls prog 49 #[.int .u64 n] w fun e w'=>e=.returned (.string (bF n))∧Below w.heap.size w w':=by
  refine ((PJ n).calls w hr (us:=[.int .u64 n]) (.cons _ _ _ _ (.int _ _) .nil)).mono ?_
  rintro e w' ⟨u,ρ',rfl,hb,hu⟩
  cases hu
  exact ⟨rfl,hb⟩
def OC(r:Int) :Nat:=if 48≤r∧r≤57 then (r-48).toNat else if 65≤r∧r≤70 then (r-55).toNat else 16
def KJ(acc:Int)(r:Int) :Int:=bits .or .u64 (IntKind.u64.wrap (acc*16)) (IntKind.u64.wrap (bits .and .i64 (OC r:Int) 15))
def oy(s:ByteArray) :Nat→Nat→Int→Int
  | 0,_,acc=>acc
  | f+1,pos,acc=>if pos<s.size then oy s f (pos+(Utf8.decode s pos).2) (KJ acc (Utf8.decode s pos).1) else acc
def dy(s:ByteArray) :Bool:=decide (s.size=16)&&decide (bF (oy s s.size 0 0)=s)
def gU(s:ByteArray) :Int:=bif dy s then oy s s.size 0 0 else 0
def sm(s:ByteArray) :Int:=bif dy s then 0 else 4
theorem RA(r:Int) :OC r≤16:=by unfold OC;split<;>(try split)<;>omega
theorem Jj{n:Nat}(h:n<16) :(aD ox n=if n<10 then (48+n:Int) else (55+n:Int)):=by
  rcases n with _ | _ | _ | _ | _ | _ | _ | _ | _ | _ | _ | _ | _ | _ | _ | _ | n
  all_goals first | rfl | omega
theorem Qy{n:Nat}(h:n<16)(r:Int) :aD ox n=r↔n=OC r:=by
  rw [Jj h]
  unfold OC
  split<;>split<;>(try split)<;>omega
theorem PK{n:Nat}(h:n<16) :∃ b:UInt8,(⟨#[48,49,50,51,52,53,54,55,56,57,65,66,67,68,69,70]⟩:ByteArray)[n]? = some b∧(b.toNat:Int)=aD ox n:=by
  have:∀ n:Fin 16,∃ b:UInt8,(⟨#[48,49,50,51,52,53,54,55,56,57,65,66,67,68,69,70]⟩:ByteArray)[n.val]? = some b∧(b.toNat:Int)=aD ox n.val:=by
    intro n
    rcases n with ⟨_ | _ | _ | _ | _ | _ | _ | _ | _ | _ | _ | _ | _ | _ | _ | _ | n,h⟩
    all_goals first | exact ⟨_,rfl,rfl⟩ | omega
  exact this ⟨n,h⟩
theorem Qz(n:Nat)(h:n<16)(W:World) :(Instr.index 9 (.string ⟨#[48,49,50,51,52,53,54,55,56,57,65,66,67,68,69,70]⟩) (.int .i64 n)).run prog W=.ok (.int .u8 (aD ox n)) W:=by
  have u9:prog.underlying 9=some .string:=by kernel_rfl
  obtain ⟨b,h1,h2⟩:=PK h
  have ha:(asIntOf (.int .i64 n)).run prog W=.ok (.i64,(n:Int)) W:=rfl
  unfold Instr.index
  simp only [Sem.run_bind,ha,Result.andThen_ok,run_underlying u9]
  rw [if_pos (Int.natCast_nonneg n),Int.toNat_natCast,h1,←h2]
  rfl
theorem Ic(s:ByteArray) :∀ (f pos:Nat) (acc:Int),¬ pos<s.size→oy s f pos acc=acc
  | 0,_,_,_=>rfl
  | f+1,pos,acc,h=>by simp only [oy,h,if_false]
theorem toList_inj{a b:ByteArray}(h:a.toList=b.toList) :a=b:=by
  have ha:=Go.Lib.toList_data a
  have hb:=Go.Lib.toList_data b
  rw [h] at ha
  have:a.data.toList=b.data.toList:=ha.symm.trans hb
  cases a;cases b
  simp only [ByteArray.mk.injEq]
  exact Array.toList_inj.1 this
set_option maxHeartbeats 2000000 in
theorem EV (s : ByteArray) (hs : s.size ≤ 1000000000) (w : World) (hR : Hid (fY w)) : Calls prog qX #[.string s] w fun e w' => e = .returned (.tuple #[.int .u64 (gU s), .int .i64 (sm s)]) ∧ Below w.heap.size w w' := by
  go_enter Tryz.func46, Tryz.ntmps46
  go_wp2
  go_loopw [4] (fun t wr => ∃ (pos fuel : Nat) (acc : Int), t = .int .u64 acc ∧ wr.heap[w.heap.size]? = some (.stringIter s pos) ∧ Below w.heap.size w wr ∧ oy s fuel pos acc = oy s s.size 0 0 ∧ s.size ≤ pos + fuel) (fun _ wr => s.size - wr.iterPos w.heap.size)
  case atStart =>
    exact ⟨0, s.size, 0, rfl, World.iter_heap w s 0, (Below.refl _ w).alloc (Nat.le_refl _) _, rfl, by omega⟩
  case round =>
    obtain ⟨pos, fuel, acc, rfl, hit, hbw, hacc, hfu⟩ := hrel
    by_cases hp : pos < s.size
    · have hnx : ∀ ty, (Instr.next (.pointer (some ⟨w.heap.size, 0, none⟩)) true ty).run prog wr = _ := fun ty => Lib.run_next_any_at wr w.heap.size s pos ty hit hp
      obtain ⟨r, hr⟩ : ∃ r : Nat, (Utf8.decode s pos).1 = r := ⟨_, rfl⟩
      obtain ⟨wd, hwd⟩ : ∃ wd : Nat, (Utf8.decode s pos).2 = wd := ⟨_, rfl⟩
      rw [hr, hwd] at hnx
      have hit2 := Lib.iterAt_heap wr w.heap.size s pos (pos + wd) hit
      have hbw2 := Lib.below_iterAt hbw (k := w.heap.size) (Nat.le_refl _) s (pos + wd)
      obtain ⟨W1, hW1⟩ : ∃ W1, wr.iterAt w.heap.size s (pos + wd) = W1 := ⟨_, rfl⟩
      rw [hW1] at hnx hit2 hbw2
      go_wp2
      go_loopw [7] (fun t W => W = W1 ∧ ∃ n : Nat, t = .int .i64 n ∧ n ≤ OC r) (fun t _ => 16 - (intOf t).toNat)
      case atStart => exact ⟨rfl, 0, rfl, Nat.zero_le _⟩
      case round =>
        obtain ⟨hWW, n, rfl, hn⟩ := hrel
        replace hWW := hWW.symm
        subst hWW
        have hd := RA r
        have hstep : n = OC r → ∃ (pos' fuel' : Nat) (acc' : Int), Value.int .u64 (bits .or .u64 (IntKind.u64.wrap (acc * 16)) (IntKind.u64.wrap (bits .and .i64 (n : Int) 15))) = .int .u64 acc' ∧
            W1.heap[w.heap.size]? = some (.stringIter s pos') ∧ Below w.heap.size w W1 ∧ oy s fuel' pos' acc' = oy s s.size 0 0 ∧ s.size ≤ pos' + fuel' := fun e => by
          obtain ⟨f, rfl⟩ : ∃ f, fuel = f + 1 := ⟨fuel - 1, by omega⟩
          have hw1 := Ct s pos hp
          refine ⟨pos + wd, f, KJ acc r, by rw [e]; rfl, hit2, hbw2, ?_, by omega⟩
          rw [← hacc]
          simp only [oy, hp, if_true, hr, hwd]
        have hmeas : s.size - W1.iterPos w.heap.size < s.size - wr.iterPos w.heap.size := by
          have hw1 := Ct s pos hp
          simp only [World.iterPos, hit, hit2]
          omega
        have HS := Lib.hid hstep
        clear hstep
        by_cases h16 : n < 16
        · have hix := Qz n h16
          have hdi := Lib.hid (Qy h16 r)
          have hb : 0 ≤ aD ox n ∧ aD ox n < 256 := by rw [Jj h16]; split <;> omega
          have hwr : wrap32 (aD ox n) = aD ox n := by simp only [wrap32]; omega
          go_wp2
          · have ht : (aD ox n != (r : Int)) = true := by assumption
            have hne : ¬ n = OC r := fun c => by
              have := hdi.out.2 c
              rw [this] at ht
              simp at ht
            exact ⟨⟨trivial, n + 1, by go_num, by omega⟩, by simp [intOf]; omega⟩
          · have ht : (aD ox n != (r : Int)) = false := by assumption
            have he : n = OC r := hdi.out.1 (by simpa using ht)
            exact ⟨HS.out he, hmeas⟩
        · have h16' : ¬ ((n : Int) < 16) := by omega
          have he : Hid (n = OC r) := Lib.hid (by omega)
          go_wp2
          exact ⟨HS.out he.out, hmeas⟩
    · have hnx : ∀ ty, (Instr.next (.pointer (some ⟨w.heap.size, 0, none⟩)) true ty).run prog wr = _ := fun ty => Lib.run_next_end_at wr w.heap.size s pos ty hit hp
      have hR2 : Hid (fY wr) := Lib.hid (hR.out.below hbw (Nat.le_refl _))
      go_wp2_with (go_at_call 49; refine (LX _ _ hR2.out).mono ?_; rintro e W1 ⟨rfl, hb1⟩)
      all_goals clear hnx
      all_goals have hacc' : acc = oy s s.size 0 0 := (Ic s fuel pos acc hp).symm.trans hacc
      · have h2 : (!(bF acc).toList == s.toList) = true := by assumption
        have ho : dy s = false := by
          unfold dy
          have : ¬ bF (oy s s.size 0 0) = s := fun c => by
            rw [← hacc'] at c
            rw [c] at h2
            simp at h2
          rw [decide_eq_false this, Bool.and_false]
        have hW : gU s = 0 := by rw [gU, ho]; rfl
        have hE : sm s = 4 := by rw [sm, ho]; rfl
        go_ret2
        exact ⟨by rw [hW, hE]; rfl, hbw.trans (hb1.mono hbw.size)⟩
      · have h1 : (s.size : Int) = 16 := by assumption
        have h2 : (!(bF acc).toList == s.toList) = false := by assumption
        have ho : dy s = true := by
          unfold dy
          have h3 : bF (oy s s.size 0 0) = s := by
            rw [← hacc']
            exact toList_inj (by simpa using h2)
          rw [decide_eq_true h3, decide_eq_true (show s.size = 16 by omega)]; rfl
        have hW : gU s = acc := by rw [gU, ho, hacc']; rfl
        have hE : sm s = 0 := by rw [sm, ho]; rfl
        go_ret2
        exact ⟨by rw [hW, hE]; rfl, hbw.trans (hb1.mono hbw.size)⟩
      · have h1 : ¬ (s.size : Int) = 16 := by assumption
        have ho : dy s = false := by
          unfold dy
          rw [decide_eq_false (show ¬ s.size = 16 by omega)]; rfl
        have hW : gU s = 0 := by rw [gU, ho]; rfl
        have hE : sm s = 4 := by rw [sm, ho]; rfl
        go_ret2
        exact ⟨by rw [hW, hE]; rfl, hbw⟩
theorem RB(s:ByteArray)(hs:s.size≤1000000000) :ak prog qX [] [.str s] ⟨.tup [.int .u64 (gU s),.int .i64 (sm s)],[]⟩:=by
  refine cU ⟨FN qX,by kernel_rfl,by kernel_rfl⟩ fun ρ w us hN hv=>?_
  cases hv with | cons _ u _ _ h1 h2 =>
  cases h2;cases h1
  refine (EV s hs w (Lib.hid hN.romOk)).mono ?_
  rintro e w' ⟨rfl,hb⟩
  exact ⟨_,rfl,hb,.tup _ _ (.cons _ _ _ _ (.int _ _) (.cons _ _ _ _ (.int _ _) .nil))⟩
noncomputable def PL:aK:=cT qX (.cons .str .nil) fun t=>[⟨⟨.tup [.int .u64 (gU t.1),.int .i64 (sm t.1)],[]⟩,[gT t.1.size]⟩]
theorem N2:aV prog PL:=aU fun t=>aZ (fun h=>RB t.1 (Nat.le_of_ble_eq_true h)) bI
end Go.Plb.Seat
namespace Go.Plb.Seat
open Go Go.Plb Go.Proofs Go.RowKit Go.Shelf
set_option maxRecDepth 100000
set_option linter.unusedSimpArgs false
set_option linter.unusedVariables false
theorem QA:(1,AV.gvar (ba.map fun z=>Value.int .u64 z).toArray)∈(Rom.tab:List (Nat×AV)):=by simp [Rom.tab]
theorem QB:(4,AV.iptr .free (.vs [.iface 158 .any]) 1 0 0)∈(Rom.tab:List (Nat×AV)):=by simp [Rom.tab]
theorem QC:(5,AV.iptr .free (.vs [.iface 158 .any]) 1 0 0)∈(Rom.tab:List (Nat×AV)):=by simp [Rom.tab]
theorem RC{w : World}(h : fY w) : Lib.TabIs prog w "internal/strconv.uint64pow10" .u64 Lib.pow10Tab := by
  have h1:=h _ QA
  cases h1 with | gvar _ _ t fr ha hb hh =>
  have hg : prog.globalNamed "internal/strconv.uint64pow10" = some 1 := by kernel_rfl
  have e:ba=Lib.pow10Tab:=by decide
  unfold Lib.TabIs World.var?
  rw [hg,←e]
  simp [hh]
theorem PM{w:World}{g:Nat}(h:VR ae.none_ w (.iptr .free (.vs [.iface 158 .any]) 1 0 0) (.pointer (some ⟨g,0,none⟩))) :∃ v,w.cell? ⟨g,0,none⟩=some (.iface 158 v):=by
  generalize hu:Value.pointer (some ⟨g,0,none⟩)=u at h
  cases h with | iptr _ _ _ _ _ bl o u' ha hb hc hv hr hk hg =>
  simp only [Value.pointer.injEq,Option.some.injEq,Addr.mk.injEq] at hu
  obtain ⟨rfl,ho,_⟩:=hu
  have ho:o=0:=by omega
  subst ho
  have h1:=hc 0 _ rfl
  have h2:=hv 0 _ rfl
  generalize u' 0=x at h1 h2
  cases h2 with | iface _ _ v hv'=>exact ⟨v,by simpa using h1⟩
def GU:Nat→Nat→List UInt8
  | 0,_=>[]
  | f+1,n=>if n<10 then [UInt8.ofNat (48+n)] else GU f (n/10)++[UInt8.ofNat (48+n%10)]
def KK(n:Int) :List UInt8:=if n<0 then 45::GU 20 n.natAbs else GU 20 n.toNat
def bj(n:Int) :ByteArray:=⟨(KK n).toArray⟩
theorem Jk:∀ (f n:Nat),n<10^(f+1)→GU (f+1) n=Lib.decDigits n
  | 0,n,h=>by
    have hn:n<10:=by simpa using h
    rw [Lib.decDigits]
    simp [GU,hn]
  | f+1,n,h=>by
    rw [Lib.decDigits]
    rw [GU]
    split
    · rfl
    · rw [Jk f (n/10) (by rw [Nat.pow_succ] at h;omega)]
theorem PN{n:Int}(h1 : -9223372036854775808≤n)(h2:n≤9223372036854775807) :KK n=Lib.itoa n:=by
  have hp:10^20=100000000000000000000:=by decide
  unfold KK Lib.itoa
  split
  · rw [Jk 19 _ (by rw [hp];omega)]
  · rw [Jk 19 _ (by rw [hp];omega)]
theorem EW(n:Int)(h1 : -9223372036854775808≤n)(h2:n≤9223372036854775807)(w:World)(hr:fY w) :Calls prog mh #[.int .i64 n] w fun e w'=>e=.returned (.string (bj n))∧Below w.heap.size w w':=by
  refine (Tryz.strconv_Itoa n h1 h2 w (RC hr)).mono ?_
  rintro e w' ⟨rfl,k,os,rfl⟩
  rw [bj,PN h1 h2]
  refine ⟨rfl,rfl,rfl,rfl,by simp [Go.Sort.grow],fun i hi=>?_⟩
  show ((w.drewN k).heap++os)[i]? = _
  rw [Array.getElem?_append_left (by simpa using hi)]
  rfl
theorem RD(n:Int)(hk:fw .i64 n=true) :ak prog mh [] [.int .i64 n] ⟨.str (bj n),[]⟩:=by
  rw [aX] at hk
  refine cU ⟨FN mh,by kernel_rfl,by kernel_rfl⟩ fun ρ w us hN hv=>?_
  cases hv with | cons _ u _ _ h1 h2 =>
  cases h2;cases h1
  refine (EW n hk.1 hk.2 w hN.romOk).mono ?_
  rintro e w' ⟨rfl,hb⟩
  exact ⟨_,rfl,hb,.str _⟩
noncomputable def PO:aK:=cT mh (.cons (.int .i64) .nil) fun t=>[⟨⟨.str (bj t.1),[]⟩,[fw .i64 t.1]⟩]
theorem N3:aV prog PO:=aU fun t=>aZ (fun h=>RD t.1 h) bI
def db(s:ByteArray) :Int:=match Lib.atoiAll s.data.toList with
  | .ok v=>if bj v=s then v else -1
  | _=>-1
theorem QD{a b:ByteArray}(h:(!a.toList==b.toList)=true) :a≠b:=fun c=>by subst c;simp at h
set_option maxHeartbeats 2000000 in
theorem Jl (s : ByteArray) (hs : s.size ≤ 1000000000) (w : World) (hR : Hid (fY w)) : Calls prog lh #[.string s] w fun e w' => e = .returned (.int .i64 (db s)) ∧ Below w.heap.size w w' := by
  cases h : Lib.atoiAll s.data.toList with
  | ok v =>
    have hv := Lib.atoiAll_bounds h
    have cA := Tryz.strconv_Atoi_ok s (by omega) v h w
    go_enter Tryz.func57, Tryz.ntmps57
    go_wp2_with (go_at_call 69; refine cA.mono ?_; rintro e W1 ⟨rfl, hw1⟩; refine Hid.out ?_)
    refine Lib.hid ?_
    have hb1 : Below w.heap.size w W1 := by
      rcases hw1 with rfl | ⟨t, rfl⟩
      · exact Below.refl _ _
      · exact Go.Lib.bytesWorld_below _ _ _
    have hR1 : Hid (fY W1) := Lib.hid (hR.out.below hb1 (Nat.le_refl _))
    clear hw1 cA
    go_wp2_with (go_at_call 43; refine (EW v hv.1 hv.2 _ hR1.out).mono ?_; rintro e W2 ⟨rfl, hb2⟩)
    · have h2 : (!(bj v).toList == s.toList) = true := by assumption
      have hn : db s = -1 := by simp only [db, h]; rw [if_neg (QD h2)]
      go_ret
      exact ⟨by rw [hn]; rfl, hb1.trans (hb2.mono hb1.size)⟩
    · have h2 : (!(bj v).toList == s.toList) = false := by assumption
      have hn : db s = v := by simp only [db, h]; rw [if_pos (toList_inj (by simpa using h2))]
      go_ret
      exact ⟨by rw [hn]; rfl, hb1.trans (hb2.mono hb1.size)⟩
  | range =>
    obtain ⟨ev, hev⟩ := PM (hR.out _ QC)
    have hn : db s = -1 := by simp only [db, h]
    have cA := Tryz.strconv_Atoi_range s (by omega) h (.iface 158 ev) w hev (.inr ⟨_, _, rfl⟩)
    go_enter Tryz.func57, Tryz.ntmps57
    go_wp2_with (go_at_call 69; refine cA.mono ?_; rintro e W1 ⟨N, rfl, _, _, hb⟩)
    go_ret
    exact ⟨by rw [hn]; rfl, hb⟩
  | _ =>
    obtain ⟨ev, hev⟩ := PM (hR.out _ QB)
    have hn : db s = -1 := by simp only [db, h]
    have cA := Tryz.strconv_Atoi_syntax s (by omega) h (.iface 158 ev) w hev (.inr ⟨_, _, rfl⟩)
    go_enter Tryz.func57, Tryz.ntmps57
    go_wp2_with (go_at_call 69; refine cA.mono ?_; rintro e W1 ⟨N, rfl, _, _, hb⟩)
    go_ret
    exact ⟨by rw [hn]; rfl, hb⟩
theorem PP(s:ByteArray)(hs:s.size≤1000000000) :ak prog lh [] [.str s] ⟨.int .i64 (db s),[]⟩:=by
  refine cU ⟨FN lh,by kernel_rfl,by kernel_rfl⟩ fun ρ w us hN hv=>?_
  cases hv with | cons _ u _ _ h1 h2 =>
  cases h2;cases h1
  refine (Jl s hs w (Lib.hid hN.romOk)).mono ?_
  rintro e w' ⟨rfl,hb⟩
  exact ⟨_,rfl,hb,.int _ _⟩
noncomputable def KL:aK:=cT lh (.cons .str .nil) fun t=>[⟨⟨.int .i64 (db t.1),[]⟩,[gT t.1.size]⟩]
theorem KM:aV prog KL:=aU fun t=>aZ (fun h=>PP t.1 (Nat.le_of_ble_eq_true h)) bI
def sn:List ByteArray→List UInt8
  | []=>[]
  | [x]=>x.data.toList
  | x::y::r=>x.data.toList++32::sn (y::r)
def qi(l:List ByteArray) :ByteArray:=⟨(sn l).toArray⟩
theorem EX:∀ l:List ByteArray,sn l=Lib.join (l.map (·.data.toList)) [32]
  | []=>rfl
  | [x]=>by rw [List.map_cons,List.map_nil,Lib.join_one];rfl
  | x::y::r=>by
    rw [List.map_cons,Lib.join_cons,sn,EX (y::r),List.map_cons,Lib.join_cons]
    simp [Lib.joinTail]
theorem RF(l:Lv)(xs:List ByteArray)(h1:(qi xs).size≤1000000000)(h2:xs.length≤1000000000) :ak prog qg [] [.imm l (.ss xs) 1 1 0 xs.length,.str ⟨#[32]⟩] ⟨.str (qi xs),[]⟩:=by
  refine cU ⟨FN qg,by kernel_rfl,by kernel_rfl⟩ fun ρ w us hN hv=>?_
  cases hv with | cons _ u _ _ v1 v2 =>
  cases v2 with | cons _ u2 _ _ v3 v4 =>
  cases v4;cases v3
  have hz:(sn xs).length≤1000000000:=by
    have:(qi xs).size=(sn xs).length:=by simp [qi,ByteArray.size]
    omega
  generalize hn:xs.length=n at v1
  cases v1 with
  | imm _ _ _ _ _ _ cap bl o u' ha hb hc hv' hl hr hk hg =>
    have:=Tryz.strings_Join bl (o+0*1) cap xs ⟨#[32]⟩ w (fun j x hj=>by
      have hcell:(ao.ss xs).cell? j=some (.str x):=by show (xs[j]?).map AV.str=_;rw [hj];rfl
      have q1:=hc j _ hcell
      have q2:=hv' j _ hcell
      cases hu:u' j<;>rw [hu] at q2<;>cases q2
      rw [hu] at q1
      simpa using q1) hb (by omega) (by omega) (by
        rw [←EX];omega)
    rw [hn] at this
    refine this.mono ?_
    rintro e w' ⟨rfl,hb⟩
    refine ⟨_,rfl,hb,?_⟩
    rw [←EX]
    exact .str _
  | immEnd _ _ _ _ _ cap a hr hk hg =>
    have hx:xs=[]:=List.length_eq_zero_iff.1 hn
    subst hx
    refine (Tryz.strings_Join_none a cap ⟨#[32]⟩ w).mono ?_
    rintro e w' ⟨rfl,rfl⟩
    exact ⟨_,rfl,Below.refl _ _,.str _⟩
def RG(z:ByteArray) :Bool:=decide (z=⟨#[32]⟩)
theorem QE{z:ByteArray}(h:RG z=true) :z=⟨#[32]⟩:=of_decide_eq_true h
noncomputable def PQ:aK:=cT qg (.cons .ss (.cons .str .nil)) fun t=>[⟨⟨.str (qi t.1.2),[]⟩,[RG t.2.1,gT (qi t.1.2).size,gT t.1.2.length]⟩]
theorem N4:aV prog PQ:=aU fun t a ha ho=>by
  simp only [List.mem_singleton] at ha
  subst ha
  obtain ⟨⟨l,xs⟩,z,_⟩:=t
  have hz:=QE ho.1
  subst hz
  exact RF l xs (Nat.le_of_ble_eq_true ho.2.1) (Nat.le_of_ble_eq_true ho.2.2.1)
end Go.Plb.Seat
namespace Go.Plb.Seat
open Go Go.Plb Go.Proofs Go.RowKit Go.Shelf
set_option maxRecDepth 100000
set_option linter.unusedSimpArgs false
set_option linter.unusedVariables false
attribute [local go_sem] Oper.semAt_some
theorem CV(s sep:ByteArray)(w:World) :Calls prog 62 #[.string s,.string sep,.int .i64 0] w fun e w' =>
    e=.returned (.func (.func 74) #[] #[.pointer (some ⟨w.heap.size+1,0,none⟩),.pointer (some ⟨w.heap.size,0,none⟩),.pointer (some ⟨w.heap.size+2,0,none⟩)]) ∧
    w'=((w.alloc (.cells #[.string s] 9)).alloc (.cells #[.string sep] 9)).alloc (.cells #[.int .i64 0] 3):=by
  have hmf:∀ (fn:Fn) (first cap:Array Value) (w:World),(Instr.makeFunc fn first cap).run prog w=.ok (.func fn first cap) w:=fun _ _ _ _=>rfl
  go_enter Tryz.func62,Tryz.ntmps62
  go_wp2
  go_ret
  exact ⟨rfl,rfl⟩
theorem EY(s sep:ByteArray)(w:World) :Calls prog 45 #[.string s,.string sep] w fun e w' =>
    e=.returned (.func (.func 74) #[] #[.pointer (some ⟨w.heap.size+1,0,none⟩),.pointer (some ⟨w.heap.size,0,none⟩),.pointer (some ⟨w.heap.size+2,0,none⟩)]) ∧
    w'=((w.alloc (.cells #[.string s] 9)).alloc (.cells #[.string sep] 9)).alloc (.cells #[.int .i64 0] 3):=by
  go_enter Tryz.func45,Tryz.ntmps45
  go_wp2_with (go_at_call 62;refine (CV s sep _).mono ?_;rintro e w' ⟨rfl,rfl⟩)
  go_ret
  exact ⟨rfl,rfl⟩
theorem yg{g:Operand}{ps:Array Tmp}{assign body:Code}{Q:Exit→Act→World→Prop}{a:Act}{w:World}{gf m:Nat}{lb:Array Value}(hg:a.eval g=.func (.func gf) #[] lb)(eg:∀ args w,(callFunc gf args).run prog w=.ok (.enter gf args) w) 
    (h : ∀ (fn : FuncId) (rec : LoopState → Option Code → Loop), (∀ st pe, (rec st pe).state = st ∧ (rec st pe).pending = pe) →
      (∀ (m':Nat) (args:Array Value) (W:World) (R:Ending→World→Prop),W.heap[w.heap.size+1]? = some (.loop (rec .ready none))→args.size=ps.size →
        assign.wpIn (Fence.wide.inRound (w.heap.size+1)) m' prog (Exit.then (fun a₁ w₁=>w₁.heap[w.heap.size+1]? = some (.loop (rec .ready none))∧body.wpIn (Fence.wide.inRound (w.heap.size+1)) m' prog
            (fun x _ w'=>match x with
              | .normal=>w'.heap[w.heap.size+1]? = some (.loop (rec .busy none))∧R (.returned (.bool true)) (w'.putObj (w.heap.size+1) (.loop (rec .ready none)))
              | .ret=>w'.heap[w.heap.size+1]? = some (.loop (rec .busy none))∧R (.returned (.bool false)) (w'.putObj (w.heap.size+1) (.loop (rec .done (some .ret))))
              | _=>False) a₁ (w₁.putObj (w.heap.size+1) (.loop (rec .busy none)))) (fun _ _ _=>False))
          { tmps:=(ps.zip args).foldl (fun t (p,v)=>t.setIfInBounds p v) a.tmps,defers:=[] } W →
        YieldAt Fence.wide m' prog (w.heap.size+1) args W R) →
      CallsIn Fence.wide m prog gf (#[.func (.yield (w.heap.size+1)) #[] #[]]++lb) ((w.alloc (.deferred (some []))).alloc (.loop (rec .ready none))) (fun e W'=>(∃ v,e=.returned v) ∧
        ((W'.heap[w.heap.size+1]? = some (.loop (rec .ready none))∧Q .normal { a with defers:={ target:=.collected w.heap.size,args:=#[] }::a.defers } (W'.putObj (w.heap.size+1) (.loop (rec .exhausted none)))) ∨
         (∃ c,W'.heap[w.heap.size+1]? = some (.loop (rec .done (some c)))∧c.wpIn Fence.wide (m+1) prog Q { a with defers:={ target:=.collected w.heap.size,args:=#[] }::a.defers } (W'.putObj (w.heap.size+1) (.loop (rec .exhausted (some c)))))))) :
    (Code.rangeFunc g ps assign body).wpIn Fence.wide (m+1) prog Q a w:=by
  refine wpIn_rangeFunc ?_
  intro fn hfn
  obtain ⟨rec,hrec⟩:∃ rec:LoopState→Option Code→Loop,rec=fun st pe=>{ state:=st,pending:=pe,fn,tmps:=a.tmps,params:=ps,assign,body,defers:=w.heap.size }:=⟨_,rfl⟩
  have key:=h fn rec (by intro st pe;rw [hrec];exact ⟨rfl,rfl⟩) (fun m' args W R hl hs hr=>by
    have hy:=run_yield (P:=prog) (args:=args) hl (by rw [hrec];exact hs)
    rw [hrec] at hy
    refine ⟨fn,_,assign,body,hy,roundIn_of_wpIn hfn (wpIn_mono hr ?_)⟩
    rintro e a1 w1 hp
    cases e<;>first | exact hp.elim | skip
    obtain ⟨h1,h2⟩:=hp
    refine ⟨_,run_beginRound h1 (by rw [hrec]),?_⟩
    have hb:({ rec .ready none with state:=.busy }:Loop)=rec .busy none:=by rw [hrec]
    rw [hb]
    refine wpIn_mono h2 ?_
    rintro e a2 w2 hp
    have hput:∀ jump,(Instr.endRound (w.heap.size+1) jump).run prog w2=_:=fun jump=>run_endRound (P:=prog) jump (r:=rec .busy none) (by cases e<;>first | exact hp.1 | exact hp.elim)
    cases e with
    | normal=>exact ⟨_,_,hput none,by have:=hp.2;rw [hrec] at this ⊢;exact this⟩
    | ret=>exact ⟨_,_,hput (some .ret),by have:=hp.2;rw [hrec] at this ⊢;exact this⟩
    | exit id=>exact hp.elim
    | goto t=>exact hp.elim
    | panic c=>exact hp.elim
    | outgrown=>exact hp.elim)
  refine ⟨w.heap.size+1,[{ target:=.collected w.heap.size,args:=#[] }],(w.alloc (.deferred (some []))).alloc (.loop (rec .ready none)),{ target:=.fn (.func gf) lb,args:=#[.func (.yield (w.heap.size+1)) #[] #[]] },(w.alloc (.deferred (some []))).alloc (.loop (rec .ready none)),gf,
    #[.func (.yield (w.heap.size+1)) #[] #[]]++lb,(w.alloc (.deferred (some []))).alloc (.loop (rec .ready none)),?_,?_,fun _ _=>trivial,?_,fun _=>by omega,?_⟩
  · rw [hrec];exact run_enterLoop_outer _ _ _ _ _
  · simp only [resolve,hg]
    simp [go_sem]
  · simp [invoke,go_sem,eg]
  · refine key.mono ?_
    rintro e W2 ⟨⟨v,rfl⟩,⟨hl,hq⟩ | ⟨c,hl,hq⟩⟩
    · exact ⟨none,W2.putObj (w.heap.size+1) (.loop (rec .exhausted none)),by have:=run_endLoop (P:=prog) hl (by rw [hrec];simp);rw [hrec] at this ⊢;exact this,hq⟩
    · exact ⟨some c,W2.putObj (w.heap.size+1) (.loop (rec .exhausted (some c))),by have:=run_endLoop (P:=prog) hl (by rw [hrec];simp);rw [hrec] at this ⊢;exact this,hq⟩
theorem Cu{P:Program}{t:TypeId}{W:World}{a:Addr}{v:Value}(h:B8 P t=some false)(hc:W.cell? a=some v) :(loadVar t a).run P W=.ok v W:=by
  unfold loadVar
  rw [Sem.run_bind,pU h]
  simp [Result.andThen,hc]
theorem xe{P:Program}{fn:Func}{p q:Tmp}{t u:TypeId}(h:fn.results = #[.cell p t,.cell q u]){tmps:Array Value}{W:World}{a b:Addr}{v v':Value}(hp:tmps.getD p undef=.pointer (some a))(hq:tmps.getD q undef=.pointer (some b)) 
    (ht:B8 P t=some false) (hu:B8 P u=some false) (hc:W.cell? a=some v) (hd:W.cell? b=some v'):(results fn tmps).run P W=.ok (.tuple #[v,v']) W:=by
  have h1:=Cu ht hc
  have h2:=Cu hu hd
  rw [EF,h]
  simp [A3,hp,hq,asAddr,Sem.run_bind,Result.andThen,h1,h2]
theorem jd{B:Nat}{a w:World}(h:Below B a w){r:Nat}(hr:B≤r)(o:Obj) :Below B a (w.putObj r o) :=
  ⟨h.os,h.tape,h.output,by simp only [World.putObj_size];exact h.size,fun k hk=>(World.putObj_heap_other (by omega)).trans (h.block k hk)⟩
theorem pH{W W':World}{base:Nat}{e:TypeId}{size:Nat}{v:Value}{n:Nat}{xs:List Value}(h:W.ownsRow base e size v n xs)(hb:∀ k,base≤k→k<W.heap.size→W'.heap[k]? = W.heap[k]?) :W'.ownsRow base e size v n xs:=by
  refine ⟨h.1,?_⟩
  rcases h.2 with q | ⟨g,cap,cur,h1,h2,h3,h4⟩
  · exact .inl q
  · exact .inr ⟨g,cap,cur,h1,h2,(hb g h2 (Array.getElem?_eq_some_iff.1 h3).1).trans h3,h4⟩
structure Rh (w:World) (rec:LoopState→Option Code→Loop) (pre:List Int) (W:World):Prop where
  r:Boxed W w.heap.size 30 (.slice none 0 0)
  e:Boxed W (w.heap.size+1) 25 (.int .i64 0)
  l:∃ v,Boxed W (w.heap.size+1+1) 30 v∧W.ownsRow (w.heap.size+8) 31 1 v pre.length (pre.map (Value.int .u64))
  d:W.heap[w.heap.size+6]? = some (.deferred (some []))
  o:W.heap[w.heap.size+6+1]? = some (.loop (rec .ready none))
  low:Below w.heap.size w W
theorem Rh.set{w:World}{rec:LoopState→Option Code→Loop}{pre:List Int}{W:World}(h:Rh w rec pre W)(k:Nat)(h1:w.heap.size+3≤k)(h2:k<w.heap.size+6)(u:Value) :Rh w rec pre (W.setCell ⟨k,0,none⟩ u):=by
  have hk:∀ j,j≠k→(W.setCell ⟨k,0,none⟩ u).heap[j]? = W.heap[j]?:=fun j hj=>Below.heap_setCell _ _ _ _ hj
  obtain ⟨v,hv,ho⟩:=h.l
  exact ⟨(hk _ (by omega)).trans h.r,(hk _ (by omega)).trans h.e,⟨v,(hk _ (by omega)).trans hv,pH ho fun j hj _=>hk j (by omega)⟩,(hk _ (by omega)).trans h.d,(hk _ (by omega)).trans h.o,h.low.setCell (by show w.heap.size≤k;omega) _⟩
def LY(W:World)(k:Nat) :Nat:=match W.cell? ⟨k,0,none⟩ with
  | some (.string r)=>r.size
  | _=>0
theorem Id{W:World}{k:Nat}{t:TypeId}{r:ByteArray}(h:Boxed W k t (.string r)) :LY W k=r.size:=by
  unfold LY
  rw [h.cell]
structure S6 (w:World) (rec:LoopState→Option Code→Loop) (W:World):Prop where
  r:Boxed W w.heap.size 30 (.slice none 0 0)
  e:Boxed W (w.heap.size+1) 25 (.int .i64 4)
  d:W.heap[w.heap.size+6]? = some (.deferred (some []))
  o:W.heap[w.heap.size+6+1]? = some (.loop (rec .done (some .ret)))
  low:Below w.heap.size w W
theorem tu(l:List UInt8)(c:UInt8) :Lib.indexByte l c<l.length∨l=[]:=by
  induction l with
  | nil=>exact .inr rfl
  | cons b l ih =>
    left
    unfold Lib.indexByte
    simp only [List.length_cons]
    split
    · omega
    · split
      · omega
      · rcases ih with h | rfl
        · omega
        · exact absurd rfl ‹¬ (Lib.indexByte [] c == -1)=true›
theorem Sl{α:Type}(h:Array α)(a b c d e f g i:α)(k:Nat) :((((((((h.push a).push b).push c).push d).push e).push f).push g).push i)[h.size+k]? = #[a,b,c,d,e,f,g,i][k]?:=by
  have e1:((((((((h.push a).push b).push c).push d).push e).push f).push g).push i)=h ++ #[a,b,c,d,e,f,g,i]:=by
    apply Array.toList_inj.1
    simp
  rw [e1,Array.getElem?_append_right (Nat.le_add_right _ _),Nat.add_sub_cancel_left]
def A9:Nat→ByteArray→List Int→Option (List Int)
  | 0,_,_=>none
  | f+1,s,acc =>
    if Lib.indexByte s.data.toList 32<0 then (if dy s=true then some (acc++[gU s]) else none)
    else if dy (s.extract 0 (Lib.indexByte s.data.toList 32).toNat)=true then A9 f (s.extract ((Lib.indexByte s.data.toList 32).toNat+1) s.size) (acc++[gU (s.extract 0 (Lib.indexByte s.data.toList 32).toNat)]) else none
def oQ(s:ByteArray) :Option (List Int):=A9 (s.size+1) s []
set_option maxHeartbeats 2000000 in
theorem Cv (s : ByteArray) (hs : s.size ≤ 1000000000) (w : World) (hR : Hid (fY w)) : Calls prog eY #[.string s] w fun e w' => Below w.heap.size w w' ∧
    ((∃ xs v, oQ s = some xs ∧ e = .returned (.tuple #[v, .int .i64 0]) ∧ w'.ownsRow (w.heap.size + 8) 31 1 v xs.length (xs.map (Value.int .u64))) ∨ (oQ s = none ∧ e = .returned (.tuple #[.slice none 0 0, .int .i64 4]))) := by
  refine (callsIn_wide (n := 6)).1 (callsIn_of_wp_marks Tryz.func21 rfl trivial ?_)
  simp only [Tryz.ntmps21, List.size_toArray, List.length_cons, List.length_nil, Nat.reduceAdd, Nat.reduceSub, Array.replicate_succ, Array.replicate_zero, List.push_toArray, List.append_toArray, List.nil_append, List.cons_append]
  gi_wp2_with (refine ⟨trivial, ?_⟩; gi_at_call 45; refine (callsIn_wide.2 (EY s _ _)).mono ?_; rintro e w' ⟨rfl, rfl⟩)
  obtain ⟨w0, hw0⟩ : ∃ w0, (((((w.alloc (.cells #[.slice none 0 0] 30)).alloc (.cells #[.int .i64 0] 25)).alloc (.cells #[.slice none 0 0] 30)).alloc (.cells #[.string s] 9)).alloc (.cells #[.string ⟨#[32]⟩] 9)).alloc (.cells #[.int .i64 0] 3) = w0 := ⟨_, rfl⟩
  rw [hw0]
  have hsz : w0.heap.size = w.heap.size + 6 := by rw [← hw0]; simp
  refine yg (gf := 74) (m := 5) rfl (enters_of Tryz.func74 (by kernel_rfl) rfl) fun fn rec hrec hy => ?_
  rw [hsz] at hy ⊢
  have round : ∀ (pre : List Int) (x : ByteArray) (W : World), x.size ≤ 1000000000 → pre.length ≤ 1000000000 → Rh w rec pre W → YieldAt Fence.wide 4 prog (w.heap.size + 6 + 1) #[.string x] W (fun e W' =>
      (∀ k, w.heap.size + 3 ≤ k → k < w.heap.size + 6 → W'.heap[k]? = W.heap[k]?) ∧ ((dy x = true ∧ e = .returned (.bool true) ∧ Rh w rec (pre ++ [gU x]) W') ∨ (dy x = false ∧ e = .returned (.bool false) ∧ S6 w rec W'))) := by
    intro pre x W hx hlen hS
    refine hy 4 _ W _ hS.o rfl ?_
    clear hy
    have cR := EV x hx
    gi_wp2
    refine ⟨hS.o, ?_⟩
    obtain ⟨W1, hW1⟩ : ∃ W1, W.putObj (w.heap.size + 6 + 1) (.loop (rec .busy none)) = W1 := ⟨_, rfl⟩
    rw [hW1]
    have hlt : w.heap.size + 6 + 1 < W.heap.size := (Array.getElem?_eq_some_iff.1 hS.o).1
    have hs1 : W1.heap.size = W.heap.size := by rw [← hW1]; simp
    have hk1 : ∀ k, k ≠ w.heap.size + 6 + 1 → W1.heap[k]? = W.heap[k]? := fun k hk => by rw [← hW1]; exact World.putObj_heap_other hk
    have ho1 : W1.heap[w.heap.size + 6 + 1]? = some (.loop (rec .busy none)) := by rw [← hW1]; exact World.putObj_heap_same hlt
    have hb1 : Below w.heap.size w W1 := hS.low.trans (by rw [← hW1]; exact ⟨rfl, rfl, rfl, by simp, fun k hk => World.putObj_heap_other (by omega)⟩)
    have hr1 : Hid (fY W1) := Lib.hid (hR.out.below hb1 (Nat.le_refl _))
    obtain ⟨v0, hv0, hown0⟩ := hS.l
    have hown1 : W1.ownsRow (w.heap.size + 8) 31 1 v0 pre.length (pre.map (Value.int .u64)) := by rw [← hW1]; exact ownsRow_putObj hown0 _ hS.o rfl
    obtain ⟨i0, hi, hz0, hz1, hz2⟩ := info_parts (show (prog.info? 31).map (fun i => (i.zero, i.size, i.bytes)) = some (some (.int .u64 0), 1, 8) by kernel_rfl)
    gi_wp2_with first
      | (refine ⟨trivial, ?_⟩; gi_at_call 46; refine (callsIn_wide.2 (cR _ hr1)).mono ?_; rintro e W2 ⟨rfl, hb2⟩
         have hkb : ∀ k, k < w.heap.size + 6 + 1 → W2.heap[k]? = W.heap[k]? := (fun k hk => (hb2.block k (by omega)).trans (hk1 k (by omega)))
         have hbr : Boxed W2 w.heap.size 30 (.slice none 0 0) := (hkb _ (by omega)).trans hS.r
         have hbe : Boxed W2 (w.heap.size + 1) 25 (.int .i64 0) := (hkb _ (by omega)).trans hS.e
         have hbl : Boxed W2 (w.heap.size + 1 + 1) 30 v0 := (hkb _ (by omega)).trans hv0
         have hbe2 : Boxed (W2.setCell ⟨w.heap.size, 0, none⟩ (.slice none 0 0)) (w.heap.size + 1) 25 (.int .i64 0) := (Below.heap_setCell _ _ _ _ (by first | (simp; done) | (simp; omega))).trans hbe
         have hcl := hbl.cell
         have hcr := hbr.cell
         have hfr := hbr.frozen
         have hce := hbe2.cell
         have hfe := hbe2.frozen
         have hown2 : W2.ownsRow (w.heap.size + 8) 31 1 v0 pre.length (pre.map (Value.int .u64)) := pH hown1 fun k _ hk => hb2.block k hk
         have ho2 := (hb2.block _ (by omega)).trans ho1)
      | (gi_at_builtin; refine wpListIn_append_own _ rfl _ _ 30 rfl (w.heap.size + 8) 31 i0 (.int .u64 0) 1 8 (by kernel_rfl) hi hz0 hz1 hz2 rfl (by decide) _ _ _ rfl (hown2.alloc _) ⟨W2.heap.size, 0, none⟩ 1 1 [.int .u64 (gU x)] rfl rfl (cell_one_new _ _ _) (by simp [Value.oneCell']) (by unfold maxLen; omega) (by omega) (by have := hb2.size; simp; omega) ?_
         intro v' w3 hown3 hgrow _
         obtain ⟨g', cap', rfl⟩ := ownsRow_succ hown3
         have hsz2 := hb2.size
         have hb3 : Below (w.heap.size + 8) W2 w3 := ((Below.refl _ W2).alloc (by omega) _).grown (show (W2.alloc (.cells #[.int .u64 (gU x)] 31)).grownBy w3 v0.ownBlock from hgrow) (by simp; omega) (fun j ej => by
           rcases hown2.2 with ⟨rfl, _⟩ | ⟨g, cap, cur, rfl, hb, _, _⟩
           · simp [Value.ownBlock] at ej
           · obtain rfl : g = j := by simpa [Value.ownBlock] using ej
             exact hb)
         have hbl3 : Boxed w3 (w.heap.size + 1 + 1) 30 v0 := (hb3.block _ (by omega)).trans hbl
         have hcl3 := hbl3.cell
         have hfl3 := hbl3.frozen)
    · have ho : dy x = false := by
        cases q : dy x with
        | false => rfl
        | true =>
          have h1 : (sm x != 0) = true := by assumption
          rw [sm, q] at h1
          exact absurd h1 (by decide)
      have hlow : Below w.heap.size w W2 := hb1.trans (hb2.mono (by omega))
      have hlt2 : w.heap.size + 6 + 1 < W2.heap.size := by have := hb2.size; omega
      have hd2 : W2.heap[w.heap.size + 6]? = some (.deferred (some [])) := (hkb _ (by omega)).trans hS.d
      refine ⟨?_, fun k h1 h2 => ?_, ho, ?_⟩
      · rw [Below.heap_setCell _ _ _ _ (by first | (simp; done) | (simp; omega)), Below.heap_setCell _ _ _ _ (by first | (simp; done) | (simp; omega))]; exact ho2
      · rw [World.putObj_heap_other (by omega), Below.heap_setCell _ _ _ _ (by first | (simp; done) | (simp; omega)), Below.heap_setCell _ _ _ _ (by first | (simp; done) | (simp; omega))]; exact hkb k (by omega)
      · refine ⟨?_, ?_, ?_, ?_, ?_⟩
        · unfold Boxed
          rw [World.putObj_heap_other (by omega), Below.heap_setCell _ _ _ _ (by first | (simp; done) | (simp; omega))]
          exact hbr.set _
        · unfold Boxed
          rw [World.putObj_heap_other (by omega)]
          exact hbe2.set _
        · rw [World.putObj_heap_other (by omega), Below.heap_setCell _ _ _ _ (by first | (simp; done) | (simp; omega)), Below.heap_setCell _ _ _ _ (by first | (simp; done) | (simp; omega))]; exact hd2
        · exact World.putObj_heap_same (by simpa using hlt2)
        · exact jd ((hlow.setCell (p := ⟨w.heap.size, 0, none⟩) (by simp) _).setCell (p := ⟨w.heap.size + 1, 0, none⟩) (by simp) _) (by omega) _
    · have ho : dy x = true := by
        cases q : dy x with
        | true => rfl
        | false =>
          have h1 : (sm x != 0) = false := by assumption
          rw [sm, q] at h1
          exact absurd h1 (by decide)
      have hlow : Below w.heap.size w w3 := (hb1.trans (hb2.mono (by omega))).trans (hb3.mono (by omega))
      have hlt3 : w.heap.size + 6 + 1 < w3.heap.size := by have := hb2.size; have := hb3.size; omega
      have hk3 : ∀ k, k < w.heap.size + 6 + 1 → w3.heap[k]? = W.heap[k]? := fun k hk => (hb3.block k (by omega)).trans (hkb k hk)
      refine ⟨?_, fun k h1 h2 => ?_, ho, ?_⟩
      · rw [Below.heap_setCell _ _ _ _ (by first | (simp; done) | (simp; omega)), hb3.block _ (by omega)]; exact ho2
      · rw [World.putObj_heap_other (by omega), Below.heap_setCell _ _ _ _ (by first | (simp; done) | (simp; omega))]; exact hk3 k (by omega)
      · refine ⟨?_, ?_, ⟨.slice (some ⟨g', 0, none⟩) (pre.length + 1) cap', ?_, ?_⟩, ?_, ?_, ?_⟩
        · unfold Boxed
          rw [World.putObj_heap_other (by omega), Below.heap_setCell _ _ _ _ (by first | (simp; done) | (simp; omega))]
          exact (hk3 _ (by omega)).trans hS.r
        · unfold Boxed
          rw [World.putObj_heap_other (by omega), Below.heap_setCell _ _ _ _ (by first | (simp; done) | (simp; omega))]
          exact (hk3 _ (by omega)).trans hS.e
        · unfold Boxed
          rw [World.putObj_heap_other (by omega)]
          exact hbl3.set _
        · have h9 := ownsRow_setCell_below hown3 (a := ⟨w.heap.size + 1 + 1, 0, none⟩) (by first | (simp; done) | (simp; omega)) (.slice (some ⟨g', 0, none⟩) (pre.length + 1) cap')
          refine pH ?_ fun k hk _ => World.putObj_heap_other (by omega)
          simpa using h9
        · rw [World.putObj_heap_other (by omega), Below.heap_setCell _ _ _ _ (by first | (simp; done) | (simp; omega))]; exact (hk3 _ (by omega)).trans hS.d
        · exact World.putObj_heap_same (by simpa using hlt3)
        · exact jd (hlow.setCell (p := ⟨w.heap.size + 1 + 1, 0, none⟩) (by show w.heap.size ≤ w.heap.size + 1 + 1; omega) _) (by omega) _
  obtain ⟨W0, hW0⟩ : ∃ W0, (w0.alloc (.deferred (some []))).alloc (.loop (rec .ready none)) = W0 := ⟨_, rfl⟩
  have it : CallsIn Fence.wide 5 prog 74 #[.func (.yield (w.heap.size + 6 + 1)) #[] #[], .pointer (some ⟨w.heap.size + 1 + 1 + 1 + 1, 0, none⟩), .pointer (some ⟨w.heap.size + 1 + 1 + 1, 0, none⟩), .pointer (some ⟨w.heap.size + 1 + 1 + 1 + 2, 0, none⟩)] W0
      (fun e W' => (∃ v, e = .returned v) ∧ ((∃ xs, oQ s = some xs ∧ Rh w rec xs W') ∨ (oQ s = none ∧ S6 w rec W'))) := by
    refine callsIn_of_wp Tryz.func74 rfl trivial ?_ rfl
    simp only [Tryz.ntmps74, List.size_toArray, List.length_cons, List.length_nil, Nat.reduceAdd, Nat.reduceSub, Array.replicate_succ, Array.replicate_zero, List.push_toArray, List.append_toArray, List.nil_append, List.cons_append]
    have hat : ∀ k, k < 8 → W0.heap[w.heap.size + k]? = #[Obj.cells #[.slice none 0 0] 30, .cells #[.int .i64 0] 25, .cells #[.slice none 0 0] 30, .cells #[.string s] 9, .cells #[.string ⟨#[32]⟩] 9, .cells #[.int .i64 0] 3, .deferred (some []), .loop (rec .ready none)][k]? := fun k hk => by
      rw [← hW0, ← hw0]
      exact Sl w.heap _ _ _ _ _ _ _ _ k
    have hlow0 : Below w.heap.size w W0 := by
      rw [← hW0, ← hw0]
      refine Below.alloc (Below.alloc (Below.alloc (Below.alloc (Below.alloc (Below.alloc (Below.alloc (Below.alloc (Below.refl _ w) ?_ _) ?_ _) ?_ _) ?_ _) ?_ _) ?_ _) ?_ _) ?_ _
      all_goals simp
      all_goals try omega
    have hSt : Rh w rec [] W0 := ⟨hat 0 (by omega), hat 1 (by omega), ⟨_, hat 2 (by omega), World.ownsRow_nil _ _ _ _⟩, hat 6 (by omega), hat 7 (by omega), hlow0⟩
    have hq0 : Boxed W0 (w.heap.size + 3) 9 (.string s) := hat 3 (by omega)
    have hq1 : Boxed W0 (w.heap.size + 4) 9 (.string ⟨#[32]⟩) := hat 4 (by omega)
    have hq2 : Boxed W0 (w.heap.size + 5) 3 (.int .i64 0) := hat 5 (by omega)
    clear hat hlow0 hy
    have hc1 : W0.cell? ⟨w.heap.size + 1 + 1 + 1 + 1, 0, none⟩ = some (.string ⟨#[32]⟩) := hq1.cell
    gi_wp2
    gi_loopw [7] (fun _ W => ∃ (r : ByteArray) (pre : List Int) (f : Nat), Boxed W (w.heap.size + 3) 9 (.string r) ∧ Boxed W (w.heap.size + 4) 9 (.string ⟨#[32]⟩) ∧ Boxed W (w.heap.size + 5) 3 (.int .i64 0) ∧
        A9 f r pre = oQ s ∧ r.size < f ∧ pre.length + r.size ≤ s.size ∧ Rh w rec pre W) (fun _ W => LY W (w.heap.size + 3))
    case atStart => exact ⟨s, [], s.size + 1, hq0, hq1, hq2, rfl, by omega, by simp, hSt⟩
    case round =>
      obtain ⟨r, pre, f, hb3, hb4, hb5, hu, hf, hl, hS⟩ := hrel
      have cI := fun w' => callsIn_wide (n := 3).2 (Tryz.strings_Index_one r 32 w')
      have h9 : Lib.indexByte r.data.toList 32 < r.size ∨ Lib.indexByte r.data.toList 32 = -1 := by
        rcases tu r.data.toList 32 with h | h
        · exact .inl (by simpa using h)
        · rw [h]; exact .inr rfl
      have hge := Lib.indexByte_ge r.data.toList 32
      obtain ⟨i, hi⟩ : ∃ i, Lib.indexByte r.data.toList 32 = i := ⟨_, rfl⟩
      have cIx : Calls prog 76 #[.string r, .string ⟨#[32]⟩] wr (fun e w' => e = .returned (.int .i64 i) ∧ w' = wr) := by rw [← hi]; exact Tryz.strings_Index_one r 32 wr
      obtain ⟨f, rfl⟩ : ∃ g, f = g + 1 := ⟨f - 1, by omega⟩
      simp only [A9, hi] at hu
      rw [hi] at h9 hge
      clear cI
      have hc3 := hb3.cell
      have hc4 := hb4.cell
      have hc5 := hb5.cell
      by_cases hneg : i < 0
      · obtain ⟨fn', tmps', assign', body', hy', hR'⟩ := round pre r wr (by omega) (by omega) hS
        gi_wp2_with (refine ⟨trivial, ?_⟩; gi_at_call 76; refine (callsIn_wide.2 cIx).mono ?_; rintro e w' ⟨rfl, rfl⟩)
        refine hR'.mono ?_
        rintro e W3 ⟨_, ⟨ho, rfl, hS3⟩ | ⟨ho, rfl, hS3⟩⟩
        · gi_wp2
          go_end0
          exact ⟨⟨_, rfl⟩, .inl ⟨_, by rw [← hu, if_pos hneg, if_pos ho], hS3⟩⟩
        · gi_wp2
          go_end0
          exact ⟨⟨_, rfl⟩, .inr ⟨by rw [← hu, if_pos hneg, if_neg (by rw [ho]; decide)], hS3⟩⟩
      · obtain ⟨n, rfl⟩ := Int.eq_ofNat_of_zero_le (Int.not_lt.1 hneg)
        obtain ⟨fn', tmps', assign', body', hy', hR'⟩ := round pre (r.extract 0 n) wr (by simp; omega) (by omega) hS
        gi_wp2_with (refine ⟨trivial, ?_⟩; gi_at_call 76; refine (callsIn_wide.2 cIx).mono ?_; rintro e w' ⟨rfl, rfl⟩)
        rw [if_neg (show ¬ ((n : Int) < 0) by omega), Int.toNat_natCast] at hu
        refine hR'.mono ?_
        rintro e W3 ⟨hk, ⟨ho, rfl, hS3⟩ | ⟨ho, rfl, hS3⟩⟩
        · rw [if_pos ho] at hu
          have hb3' : Boxed W3 (w.heap.size + 3) 9 (.string r) := (hk _ (by omega) (by omega)).trans hb3
          have hb4' : Boxed W3 (w.heap.size + 4) 9 (.string ⟨#[32]⟩) := (hk _ (by omega) (by omega)).trans hb4
          have hb5' : Boxed W3 (w.heap.size + 5) 3 (.int .i64 0) := (hk _ (by omega) (by omega)).trans hb5
          have hc3' := hb3'.cell
          have hc4' := hb4'.cell
          have hf3' := hb3'.frozen
          gi_wp2
          have hb6 := hb3'.set (.string (r.extract (n + 1) r.size))
          go_roundw
          case rel =>
            refine ⟨r.extract (n + 1) r.size, pre ++ [gU (r.extract 0 n)], f, hb6, ?_, ?_, hu, ?_, ?_, hS3.set _ (by omega) (by omega) _⟩
            · exact (Below.heap_setCell _ _ _ _ (show w.heap.size + 4 ≠ w.heap.size + 1 + 1 + 1 by omega)).trans hb4'
            · exact (Below.heap_setCell _ _ _ _ (show w.heap.size + 5 ≠ w.heap.size + 1 + 1 + 1 by omega)).trans hb5'
            · simp; omega
            · simp; omega
          case measure =>
            rw [Id hb6, Id hb3]
            simp
            omega
        · rw [if_neg (by rw [ho]; decide)] at hu
          gi_wp2
          refine bodyPost_ret (results_none rfl _ _ _) rfl ?_
          exact ⟨⟨_, rfl⟩, .inr ⟨hu.symm, hS3⟩⟩
  clear round hy
  rw [hW0]
  refine it.mono ?_
  rintro e W' ⟨hv, ⟨xs, hxs, hS⟩ | ⟨hxs, hS⟩⟩
  · refine ⟨hv, .inl ⟨hS.o, ?_⟩⟩
    have hlt : w.heap.size + 6 + 1 < W'.heap.size := (Array.getElem?_eq_some_iff.1 hS.o).1
    obtain ⟨W2, hW2⟩ : ∃ W2, W'.putObj (w.heap.size + 6 + 1) (.loop (rec .exhausted none)) = W2 := ⟨_, rfl⟩
    rw [hW2]
    have hk : ∀ k, k ≠ w.heap.size + 6 + 1 → W2.heap[k]? = W'.heap[k]? := fun k hk => by rw [← hW2]; exact World.putObj_heap_other hk
    obtain ⟨v, hv, ho⟩ := hS.l
    have br : Boxed W2 w.heap.size 30 (.slice none 0 0) := (hk _ (by omega)).trans hS.r
    have be : Boxed W2 (w.heap.size + 1) 25 (.int .i64 0) := (hk _ (by omega)).trans hS.e
    have bl : Boxed W2 (w.heap.size + 1 + 1) 30 v := (hk _ (by omega)).trans hv
    have hcl := bl.cell
    have hcr := br.cell
    have hfr := br.frozen
    obtain ⟨p, n, cap, rfl⟩ : ∃ p n cap, v = .slice p n cap := by
      rcases ho.2 with ⟨rfl, _⟩ | ⟨g, cap, cur, rfl, _⟩
      · exact ⟨_, _, _, rfl⟩
      · exact ⟨_, _, _, rfl⟩
    have be2 : Boxed (W2.setCell ⟨w.heap.size, 0, none⟩ (.slice p n cap)) (w.heap.size + 1) 25 (.int .i64 0) := (Below.heap_setCell _ _ _ _ (by first | (simp; done) | (simp; omega))).trans be
    have hce := be2.cell
    have hfe := be2.frozen
    gi_wp2
    obtain ⟨W3, hW3⟩ : ∃ W3, (W2.setCell ⟨w.heap.size, 0, none⟩ (.slice p n cap)).setCell ⟨w.heap.size + 1, 0, none⟩ (.int .i64 0) = W3 := ⟨_, rfl⟩
    rw [hW3]
    have be3 : Boxed W3 (w.heap.size + 1) 25 (.int .i64 0) := by rw [← hW3]; exact be2.set _
    have br3 : Boxed W3 w.heap.size 30 (.slice p n cap) := by
      rw [← hW3]
      exact (Below.heap_setCell _ _ _ _ (by first | (simp; done) | (simp; omega))).trans (br.set _)
    have hk3 : ∀ k, w.heap.size + 2 ≤ k → k ≠ w.heap.size + 6 + 1 → W3.heap[k]? = W'.heap[k]? := fun k h1 h2 => by
      rw [← hW3, Below.heap_setCell _ _ _ _ (by show k ≠ w.heap.size + 1; omega), Below.heap_setCell _ _ _ _ (by show k ≠ w.heap.size; omega)]; exact hk k h2
    have hd : W3.heap[w.heap.size + 6]? = some (.deferred (some [])) := (hk3 _ (by omega) (by omega)).trans hS.d
    have hlow : Below w.heap.size w W3 := by
      rw [← hW3, ← hW2]
      exact ((jd hS.low (by omega) _).setCell (p := ⟨w.heap.size, 0, none⟩) (by simp) _).setCell (p := ⟨w.heap.size + 1, 0, none⟩) (by simp) _
    have hown : (W3.putObj (w.heap.size + 6) (.deferred none)).ownsRow (w.heap.size + 8) 31 1 (.slice p n cap) xs.length (xs.map (Value.int .u64)) :=
      pH ho fun k h1 _ => (World.putObj_heap_other (by omega)).trans (hk3 k (by omega) (by omega))
    refine ⟨by simp, .inl ⟨_, _, rfl, run_takeDeferred hd, ?_⟩⟩
    exact ⟨_, xe (a := ⟨w.heap.size, 0, none⟩) (b := ⟨w.heap.size + 1, 0, none⟩) rfl rfl rfl (by kernel_rfl) (by kernel_rfl) (Boxed.cell ((World.putObj_heap_other (by omega)).trans br3)) (Boxed.cell ((World.putObj_heap_other (by omega)).trans be3)), jd hlow (by omega) _, .inl ⟨xs, _, hxs, rfl, hown⟩⟩
  · refine ⟨hv, .inr ⟨_, hS.o, ?_⟩⟩
    have hlt : w.heap.size + 6 + 1 < W'.heap.size := (Array.getElem?_eq_some_iff.1 hS.o).1
    obtain ⟨W2, hW2⟩ : ∃ W2, W'.putObj (w.heap.size + 6 + 1) (.loop (rec .exhausted (some .ret))) = W2 := ⟨_, rfl⟩
    rw [hW2]
    have hk : ∀ k, k ≠ w.heap.size + 6 + 1 → W2.heap[k]? = W'.heap[k]? := fun k hk => by rw [← hW2]; exact World.putObj_heap_other hk
    have br : Boxed W2 w.heap.size 30 (.slice none 0 0) := (hk _ (by omega)).trans hS.r
    have be : Boxed W2 (w.heap.size + 1) 25 (.int .i64 4) := (hk _ (by omega)).trans hS.e
    have hcr := br.cell
    have hce := be.cell
    have hd : W2.heap[w.heap.size + 6]? = some (.deferred (some [])) := (hk _ (by omega)).trans hS.d
    have hlow : Below w.heap.size w W2 := by rw [← hW2]; exact jd hS.low (by omega) _
    gi_wp2
    refine ⟨by simp, .inl ⟨_, _, rfl, run_takeDeferred hd, ?_⟩⟩
    exact ⟨_, xe (a := ⟨w.heap.size, 0, none⟩) (b := ⟨w.heap.size + 1, 0, none⟩) rfl rfl rfl (by kernel_rfl) (by kernel_rfl) (Boxed.cell ((World.putObj_heap_other (by omega)).trans br)) (Boxed.cell ((World.putObj_heap_other (by omega)).trans be)), jd hlow (by omega) _, .inr ⟨hxs, rfl⟩⟩
def cM(s:ByteArray) :Bool:=(oQ s).isSome
def bd(s:ByteArray) :List Int:=(oQ s).getD []
theorem LZ{ρ:ae}{W:World}{base:Nat}{t:TypeId}{k:IntKind}{v:Value}{xs:List Int}(h:W.ownsRow base t 1 v xs.length (xs.map (Value.int k)))(ha:∀ bl,base≤bl→ρ.avoid .free bl) :
    VR ρ W (.imm .free (.ns k xs) 1 1 0 xs.length) v:=by
  rcases h.2 with ⟨rfl,h0⟩ | ⟨g,cap,cur,rfl,hg,hc,hn,_,hs,ht⟩
  · rw [h0];exact .immEnd _ _ _ _ _ _ _ trivial (fun _=>rfl) rfl
  · refine .imm .free (.ns k xs) 1 1 0 xs.length cap g 0 (fun x=>.int k (xs.getD x 0)) (ha g hg) (Array.getElem?_eq_some_iff.1 hc).1 (fun x v hx=>?_) (fun x v hx=>?_) hn trivial (fun _=>rfl) rfl
    · simp only [ao.cell?] at hx
      cases hq:xs[x]? with
      | none=>rw [hq] at hx;cases hx
      | some z =>
        have hlt:=(List.getElem?_eq_some_iff.1 hq).1
        have h1:(cur.toList.take (xs.length*1))[x]? = some (.int k z):=by rw [ht,List.getElem?_map,hq];rfl
        rw [List.getElem?_take,if_pos (by omega)] at h1
        simp only [World.cell?,hc,Nat.zero_add]
        rw [List.getD_eq_getElem?_getD,hq]
        simpa using h1
    · simp only [ao.cell?] at hx
      cases hq:xs[x]? with
      | none=>rw [hq] at hx;cases hx
      | some z =>
        rw [hq] at hx
        cases hx
        rw [List.getD_eq_getElem?_getD,hq]
        exact .int _ _
theorem Nd(s:ByteArray)(hs:s.size≤1000000000) :(∀ h:cM s=true,ak prog eY [] [.str s] ⟨.tup [.imm .free (.ns .u64 (bd s)) 1 1 0 (bd s).length,.int .i64 0],[]⟩) ∧
    (∀ h:(!cM s)=true,ak prog eY [] [.str s] ⟨.tup [.nsl,.int .i64 4],[]⟩):=by
  refine ⟨fun ho=>?_,fun ho=>?_⟩
  · refine cU ⟨FN eY,by kernel_rfl,by kernel_rfl⟩ fun ρ w us hN hv=>?_
    cases hv with | cons _ u _ _ h1 h2 =>
    cases h2;cases h1
    refine (Cv s hs w (Lib.hid hN.romOk)).mono ?_
    rintro e w' ⟨hb,⟨xs,v,hx,rfl,hown⟩ | ⟨hx,rfl⟩⟩
    · have e1:bd s=xs:=by unfold bd;rw [hx];rfl
      rw [e1]
      exact ⟨_,rfl,hb,.tup _ _ (.cons _ _ _ _ (LZ hown fun bl hbl=>dE.new hN bl (by omega)) (.cons _ _ _ _ (.int _ _) .nil))⟩
    · unfold cM at ho;rw [hx] at ho;cases ho
  · refine cU ⟨FN eY,by kernel_rfl,by kernel_rfl⟩ fun ρ w us hN hv=>?_
    cases hv with | cons _ u _ _ h1 h2 =>
    cases h2;cases h1
    refine (Cv s hs w (Lib.hid hN.romOk)).mono ?_
    rintro e w' ⟨hb,⟨xs,v,hx,rfl,hown⟩ | ⟨hx,rfl⟩⟩
    · unfold cM at ho;rw [hx] at ho;cases ho
    · exact ⟨_,rfl,hb,.tup _ _ (.cons _ _ _ _ .nsl (.cons _ _ _ _ (.int _ _) .nil))⟩
noncomputable def Ne:aK:=cT eY (.cons .str .nil) fun t =>
  [⟨⟨.tup [.imm .free (.ns .u64 (bd t.1)) 1 1 0 (bd t.1).length,.int .i64 0],[]⟩,[cM t.1,gT t.1.size]⟩,⟨⟨.tup [.nsl,.int .i64 4],[]⟩,[!cM t.1,gT t.1.size]⟩]
theorem L4:aV prog Ne:=aU fun t a ha ho=>by
  simp only [List.mem_cons,List.not_mem_nil,or_false] at ha
  rcases ha with rfl | rfl
  · exact (Nd t.1 (Nat.le_of_ble_eq_true ho.2.1)).1 ho.1
  · exact (Nd t.1 (Nat.le_of_ble_eq_true ho.2.1)).2 ho.1
end Go.Plb.Seat
namespace Go.Plb.Seat
open Go Go.Plb
noncomputable def PR:aK:=cT ow (.cons (.int .u64) .nil) fun t=>[⟨⟨.str (bF t.1),[]⟩,[]⟩]
theorem N5:aV prog PR:=aU fun t a ha ho=>by
  simp only [List.mem_singleton] at ha
  subst ha
  exact PJ t.1
noncomputable def RH:List aK:=[I6,A6,PL,PO,KL,PQ,Ne,PR]
theorem zG:bo prog (bt RH):=au LP (au I8 (au N2 (au N3 (au KM (au N4 (au L4 (au N5 (yd prog))))))))
end Go.Plb.Seat
namespace Go.Plb.Seat
open Go Go.Plb
set_option linter.unusedVariables false
set_option maxRecDepth 100000
noncomputable section
inductive cW where
  | r0 (s9:ByteArray)
def pK:cW→AE×az
  | .r0 s9=>(.ret,⟨an 20 [(2,.str s9)],[],0⟩)
theorem rD:qZ pK:=by intro x;cases x<;>(intro h;cases h)
theorem G0(id:Nat) :pF id pK:=by intro x;cases x<;>(intro h;cases h)
def tw:cW→mW
  | .r0 s9=>⟨.str s9,[]⟩
noncomputable def G1:List Code:=cN (qI tg)
def G2(v_0:Lv)(words_1:List Int)(_:Unit) :az:=⟨an 20 [(3,.nsl),(6,.imm v_0 (.ns .u64 words_1) 1 1 0 (List.length words_1)),(7,.int .i64 (((List.length words_1):Nat):Int)),(8,.int .i64 (0:Int))],[],0⟩
def G3:T ((Unit)⊕(cW)) :=
  .leaf (.inl ())
def nU(v_0:Lv)(words_1:List Int) :Nat×Nat×Nat×(List ByteArray)→az:=fun (l2,l3,a4,l5)=>⟨an 20 [(3,.sl 0 1 1 0 l2 l3),(6,.imm v_0 (.ns .u64 words_1) 1 1 0 (List.length words_1)),(7,.int .i64 (((List.length words_1):Nat):Int)),(8,.int .i64 ((a4:Nat):Int))],[(0,.ss l5)],1⟩
def xf:Nat×Nat×(List ByteArray)→az:=fun (l6,l7,l8)=>⟨an 20 [(3,.sl 0 1 1 0 l6 l7)],[(0,.ss l8)],1⟩
noncomputable def G4:List Code:=cN (fA ((((G1.drop 3).take 1)).headD .skip))
def EZ(words_1:List Int)(l2:Nat)(l3:Nat)(a4:Nat)(l5:List ByteArray) :T ((Nat×Nat×Nat×(List ByteArray))⊕((Nat×Nat×(List ByteArray))⊕(cW))) :=
  .ask (decide (((a4:Nat):Int)<(((List.length words_1):Nat):Int)))
    (.need (oK ((a4:Nat):Int) (List.length words_1))<|.need (gO a4 (List.length words_1))<|.need (fS ((l2+1)*16) 140737488355328)<|.need (fS (l2+1) 9223372036854775807)<|.need (fS 1 (List.length [(bF (List.getD words_1 a4 0))]))<|.need (fS l2 (List.length l5))<|.need (fw .i64 (((a4+1):Nat):Int))<|.leaf (.inl ((l2+1),(l2+1),(a4+1),((List.take l2 l5)++(List.take 1 [(bF (List.getD words_1 a4 0))])))))
    (.leaf (.inr (.inl (l2,l3,l5))))
noncomputable def qj(words_1:List Int) :Nat×Nat×Nat×(List ByteArray)→Option ((Nat×Nat×Nat×(List ByteArray))⊕((Nat×Nat×(List ByteArray))⊕(cW))):=fun (l2,l3,a4,l5) =>
  (EZ words_1 l2 l3 a4 l5).run
theorem E1(v_0:Lv)(words_1:List Int)(l2:Nat)(l3:Nat)(a4:Nat)(l5:List ByteArray) :Sg prog [] G4 (nU v_0 words_1 (l2,l3,a4,l5)) (qj words_1 (l2,l3,a4,l5)) (nU v_0 words_1) (eE 0 xf pK):=by
  unfold qj;exact cp zG (nU v_0 words_1) [⟨[],[129],[3,6,7,8]⟩,⟨[],[0],[3]⟩]
def qk(l6:Nat)(l8:List ByteArray) :T ((Empty)⊕(cW)) :=
  .need (se 0 l6 l8)<|.need (RG (ByteArray.mk #[32]))<|.need (gT (qi (dq 0 l6 l8)).size)<|.need (gT (List.length (dq 0 l6 l8)))<|.leaf (.inr (.r0 (qi (dq 0 l6 l8))))
noncomputable def tx(words_1:List Int) :Option cW:=ur (aT ((G3).run) fun _ =>
  aT (cO (qj words_1) (0,0,0,([]:List ByteArray))) fun (l6,l7,l8) =>
  (qk l6 l8).run)
theorem xg(v_0:Lv)(words_1:List Int){x:cW}(h:tx words_1=some x) :ak prog tg [] [.imm v_0 (.ns .u64 words_1) 1 1 0 (List.length words_1)] (tw x) :=
  xc false tw pK h (Sg.cut 3 rD (cp zG (G2 v_0 words_1) [⟨[],[],[3,6,7,8]⟩]) (fun _=>Sg.cut 1 rD (LW ⟨[(.slot 3,.own 1 1 (.ss ([]:List ByteArray)))],[0],[3,6,7,8]⟩ (nU v_0 words_1) (xf) 0 rD (G0 _) (fun ⟨l2,l3,a4,l5⟩=>E1 v_0 words_1 l2 l3 a4 l5)) (fun ⟨l6,l7,l8⟩=>cp zG uF [⟨[],[],[2]⟩])))
    (fun x=>by cases x with | r0 s9=>exact ra [.str s9])
def rE:Option cW→Bool
  | some _=>true
  | none=>false
def tW:Option cW→ByteArray
  | some (.r0 x)=>x
  | _=>ByteArray.empty
theorem G5{x:Option cW}(h:rE x=true) :x=some (.r0 (tW x)):=by
  unfold rE at h
  split at h<;>first | rfl | (cases h;done) | (rename_i y;cases y;rfl)
noncomputable def zH:aK:=cT tg (.cons (.ns .u64) .nil) fun t=>(fun q=>[⟨tw (.r0 (tW q)),[rE q]⟩]) (tx t.1.2)
theorem CW:aV prog zH:=aU fun t=>(aZ (fun h=>xg t.1.1 t.1.2 (G5 h)) bI)
noncomputable def zI:List aK:=zH::RH
theorem tX:bo prog (bt zI):=au CW zG
inductive dU where
  | r0 (s1:ByteArray)
def G6:dU→AE×az
  | .r0 s1=>(.ret,⟨an 12 [(4,.str s1)],[],0⟩)
def rF:dU→mW
  | .r0 s1=>⟨.str s1,[]⟩
def E3(m_0:Int)(n_1:Int) :T ((Empty)⊕(dU)) :=
  .need (fw .i64 m_0)<|.need (decide ((ByteArray.mk #[109,97,116,114,105,120,32]).size+(bj m_0).size≤9223372036854775807))<|.need (decide (((ByteArray.mk #[109,97,116,114,105,120,32])++(bj m_0)).size+(ByteArray.mk #[32]).size≤9223372036854775807))<|.need (fw .i64 n_1)<|.need (decide ((((ByteArray.mk #[109,97,116,114,105,120,32])++(bj m_0))++(ByteArray.mk #[32])).size+(bj n_1).size≤9223372036854775807))<|.leaf (.inr (.r0 ((((ByteArray.mk #[109,97,116,114,105,120,32])++(bj m_0))++(ByteArray.mk #[32]))++(bj n_1))))
noncomputable def dV(m_0:Int)(n_1:Int) :Option dU:=ur ((E3 m_0 n_1).run)
theorem vg(m_0:Int)(n_1:Int){x:dU}(h:dV m_0 n_1=some x) :ak prog xa [] [.int .i64 m_0,.int .i64 n_1] (rF x) :=
  xc false rF G6 h (cp tX uF [⟨[],[],[4]⟩])
    (fun x=>by cases x with | r0 s1=>exact ra [.str s1])
def gV:Option dU→Bool
  | some _=>true
  | none=>false
def je:Option dU→ByteArray
  | some (.r0 x)=>x
  | _=>ByteArray.empty
theorem E4{x:Option dU}(h:gV x=true) :x=some (.r0 (je x)):=by
  unfold gV at h
  split at h<;>first | rfl | (cases h;done) | (rename_i y;cases y;rfl)
noncomputable def xh:aK:=cT xa (.cons (.int .i64) (.cons (.int .i64) .nil)) fun t=>(fun q=>[⟨rF (.r0 (je q)),[gV q]⟩]) (dV t.1 t.2.1)
theorem Ba:aV prog xh:=aU fun t=>(aZ (fun h=>vg t.1 t.2.1 (E4 h)) bI)
noncomputable def xi:List aK:=xh::zI
theorem jf:bo prog (bt xi):=au Ba tX
inductive cg where
  | r0 (b7:Bool)
def vh:cg→AE×az
  | .r0 b7=>(.ret,⟨an 37 [(2,.bool false b7)],[],0⟩)
theorem tY:qZ vh:=by intro x;cases x<;>(intro h;cases h)
def ql:cg→mW
  | .r0 b7=>⟨.bool false b7,[]⟩
def CX(a_0:Int)(a_1:Int)(a_2:Int)(v_3:Lv)(a_4:List Int)(a_5:Int)(a_6:Int) :Bool×ByteArray×Nat×Bool×Bool→az:=fun (is1,s2,a3,b4,b5)=>⟨an 37 [(1,.ptr 0 1 0 0),(3,.ptr 1 1 0 0),(4,.bool false is1)],[(0,.vs [.int .i64 a_0,.int .i64 a_1,.int .i64 a_2,.imm v_3 (.ns .u64 a_4) 1 1 0 (List.length a_4),.int .i64 a_5,.int .u64 a_6]),(1,.vs [.str s2,.int .i64 ((a3:Nat):Int),.bool false b4,.bool false b5])],2⟩
def CY(a_0 : Int) : T ((Bool × ByteArray × Nat × Bool × Bool) ⊕ (cg)) :=
  .alt 0
    (.need (a_0==(1:Int))<|.leaf (.inl (true,(ByteArray.mk #[101,105,103,101,110]),3,false,true)))
    (.alt 1
      (.need (a_0==(2:Int))<|.leaf (.inl (true,(ByteArray.mk #[118,97,108,117,101,115]),0,false,true)))
      (.alt 2
        (.need (a_0==(3:Int))<|.leaf (.inl (true,(ByteArray.mk #[115,118,100]),2,false,false)))
        (.alt 3
          (.need (a_0==(4:Int))<|.leaf (.inl (true,(ByteArray.mk #[114,97,110,107]),2,true,false)))
          (.alt 4
            (.need (a_0==(5:Int))<|.leaf (.inl (true,(ByteArray.mk #[105,110,118,101,114,115,101]),2,true,false)))
            (.alt 5
              (.need (a_0==(6:Int))<|.leaf (.inl (true,(ByteArray.mk #[99,111,110,100]),2,false,false)))
              (.alt 6
                (.need (!(a_0==(1:Int)))<|.need (!(a_0==(2:Int)))<|.need (!(a_0==(3:Int)))<|.need (!(a_0==(4:Int)))<|.need (!(a_0==(5:Int)))<|.need (!(a_0==(6:Int)))<|.leaf (.inl (false,ByteArray.empty,0,false,false)))
                (.fail)))))))
def CZ(b6:Bool) :az:=⟨an 37 [(2,.bool false b6)],[],0⟩
def tZ(a_5:Int)(a_6:Int)(is1:Bool)(a3:Nat)(b4:Bool) :T ((Bool)⊕(cg)) :=
  .ask is1
    (.ask (decide (a_5≥(lU (1:Int) ((a3:Nat):Int))))
      (.ask (decide (a_5≤((a3:Nat):Int)))
        (.ask b4
          (.leaf (.inl true))
          (.leaf (.inl (a_6==(0:Int)))))
        (.leaf (.inl false)))
      (.leaf (.inl false)))
    (.leaf (.inl false))
def C1(b6:Bool) :T ((Empty)⊕(cg)) :=
  .leaf (.inr (.r0 b6))
noncomputable def eh(a_0:Int)(a_5:Int)(a_6:Int) :Option cg:=ur (aT ((CY a_0).run) fun (is1,s2,a3,b4,b5) =>
  aT ((tZ a_5 a_6 is1 a3 b4).run) fun b6 =>
  (C1 b6).run)
theorem C2(a_0:Int)(a_1:Int)(a_2:Int)(v_3:Lv)(a_4:List Int)(a_5:Int)(a_6:Int){x:cg}(h:eh a_0 a_5 a_6=some x) :ak prog uY [] [.agg [.int .i64 a_0,.int .i64 a_1,.int .i64 a_2,.imm v_3 (.ns .u64 a_4) 1 1 0 (List.length a_4),.int .i64 a_5,.int .u64 a_6]] (ql x) :=
  xc false ql vh h (Sg.cut 2 tY (cp jf (CX a_0 a_1 a_2 v_3 a_4 a_5 a_6) [⟨[],[0,144],[1,3,4]⟩,⟨[],[0,144],[1,3,4]⟩,⟨[],[0,144],[1,3,4]⟩,⟨[],[0,144],[1,3,4]⟩,⟨[],[0,144],[1,3,4]⟩,⟨[],[0,144],[1,3,4]⟩,⟨[],[0,144],[1,3,4]⟩]) (fun ⟨is1,s2,a3,b4,b5⟩=>Sg.cut 1 tY (cp jf CZ [⟨[],[],[2]⟩,⟨[],[],[2]⟩,⟨[],[],[2]⟩,⟨[],[],[2]⟩,⟨[],[],[2]⟩]) (fun b6=>cp jf uF [⟨[],[],[2]⟩])))
    (fun x=>by cases x with | r0 b7=>exact ra [.bool false b7])
def fZ:Option cg→Bool
  | some _=>true
  | none=>false
def gF:Option cg→Bool
  | some (.r0 x)=>x
  | _=>false
theorem C3{x:Option cg}(h:fZ x=true) :x=some (.r0 (gF x)):=by
  unfold fZ at h
  split at h<;>first | rfl | (cases h;done) | (rename_i y;cases y;rfl)
noncomputable def vi:aK:=cT uY (.cons (.agg (.cons (.int .i64) (.cons (.int .i64) (.cons (.int .i64) (.cons (.ns .u64) (.cons (.int .i64) (.cons (.int .u64) .nil))))))) .nil) fun t=>(fun q=>[⟨ql (.r0 (gF q)),[fZ q]⟩]) (eh t.1.1 t.1.2.2.2.2.1 t.1.2.2.2.2.2.1)
theorem zJ:aV prog vi:=aU fun t=>(aZ (fun h=>C2 t.1.1 t.1.2.1 t.1.2.2.1 t.1.2.2.2.1.1 t.1.2.2.2.1.2 t.1.2.2.2.2.1 t.1.2.2.2.2.2.1 (C3 h)) bI)
noncomputable def vj:List aK:=vi::xi
theorem ml:bo prog (bt vj):=au zJ jf
inductive dr where
  | r0 (b2:Bool)
def zK:dr→AE×az
  | .r0 b2=>(.ret,⟨an 41 [(2,.bool false b2)],[],0⟩)
theorem G7:qZ zK:=by intro x;cases x<;>(intro h;cases h)
def tz:dr→mW
  | .r0 b2=>⟨.bool false b2,[]⟩
def G8(b1:Bool) :az:=⟨an 41 [(2,.bool false b1)],[],0⟩
def G9(a_0 : Int)(a_1 : Int)(a_2 : Int)(a_4 : List Int)(a_5 : Int)(a_6 : Int) : T ((Bool) ⊕ (dr)) :=
  .ask (decide (a_1 ≥ (0 : Int)))
    (.ask (decide (a_1 ≤ (512 : Int)))
      (.ask (decide (a_2 ≥ (0 : Int)))
        (.ask (decide (a_2≤(512:Int)))
          (.need (fw .i64 (a_1*a_2))<|.ask ((((List.length a_4):Nat):Int)==(a_1*a_2))
            (.need (se 0 (List.length a_4) a_4)<|.need (fZ (eh a_0 a_5 a_6))<|.ask (gF (eh a_0 a_5 a_6))
              (.ask (a_1 == a_2)
                (.leaf (.inl true))
                (.alt 0
                  (.need (a_0==(1:Int))<|.leaf (.inl false))
                  (.alt 1
                    (.need (a_0==(2:Int))<|.leaf (.inl false))
                    (.alt 2
                      (.need (a_0==(3:Int))<|.leaf (.inl true))
                      (.alt 3
                        (.need (a_0==(4:Int))<|.leaf (.inl true))
                        (.alt 4
                          (.need (a_0==(5:Int))<|.leaf (.inl true))
                          (.alt 5
                            (.need (a_0==(6:Int))<|.leaf (.inl true))
                            (.alt 6
                              (.need (!(a_0==(1:Int)))<|.need (!(a_0==(2:Int)))<|.need (!(a_0==(3:Int)))<|.need (!(a_0==(4:Int)))<|.need (!(a_0==(5:Int)))<|.need (!(a_0==(6:Int)))<|.leaf (.inl true))
                              (.fail)))))))))
              (.leaf (.inl false)))
            (.leaf (.inl false)))
          (.leaf (.inl false)))
        (.leaf (.inl false)))
      (.leaf (.inl false)))
    (.leaf (.inl false))
def Ha(b1:Bool) :T ((Empty)⊕(dr)) :=
  .leaf (.inr (.r0 b1))
noncomputable def mn(a_0:Int)(a_1:Int)(a_2:Int)(a_4:List Int)(a_5:Int)(a_6:Int) :Option dr:=ur (aT ((G9 a_0 a_1 a_2 a_4 a_5 a_6).run) fun b1 =>
  (Ha b1).run)
theorem xj(a_0:Int)(a_1:Int)(a_2:Int)(v_3:Lv)(a_4:List Int)(a_5:Int)(a_6:Int){x:dr}(h:mn a_0 a_1 a_2 a_4 a_5 a_6=some x) :ak prog zw [] [.agg [.int .i64 a_0,.int .i64 a_1,.int .i64 a_2,.imm v_3 (.ns .u64 a_4) 1 1 0 (List.length a_4),.int .i64 a_5,.int .u64 a_6]] (tz x) :=
  xc false tz zK h (Sg.cut 2 G7 (cp ml G8 [⟨[],[],[2]⟩,⟨[],[],[2]⟩,⟨[],[],[2]⟩,⟨[],[],[2]⟩,⟨[],[],[2]⟩,⟨[],[],[2]⟩,⟨[],[],[2]⟩,⟨[],[],[2]⟩,⟨[],[],[2]⟩,⟨[],[],[2]⟩,⟨[],[],[2]⟩,⟨[],[],[2]⟩,⟨[],[],[2]⟩,⟨[],[],[2]⟩]) (fun b1=>cp ml uF [⟨[],[],[2]⟩]))
    (fun x=>by cases x with | r0 b2=>exact ra [.bool false b2])
def nV:Option dr→Bool
  | some _=>true
  | none=>false
def oR:Option dr→Bool
  | some (.r0 x)=>x
  | _=>false
theorem Hb{x:Option dr}(h:nV x=true) :x=some (.r0 (oR x)):=by
  unfold nV at h
  split at h<;>first | rfl | (cases h;done) | (rename_i y;cases y;rfl)
noncomputable def zL:aK:=cT zw (.cons (.agg (.cons (.int .i64) (.cons (.int .i64) (.cons (.int .i64) (.cons (.ns .u64) (.cons (.int .i64) (.cons (.int .u64) .nil))))))) .nil) fun t=>(fun q=>[⟨tz (.r0 (oR q)),[nV q]⟩]) (mn t.1.1 t.1.2.1 t.1.2.2.1 t.1.2.2.2.1.2 t.1.2.2.2.2.1 t.1.2.2.2.2.2.1)
theorem C4:aV prog zL:=aU fun t=>(aZ (fun h=>xj t.1.1 t.1.2.1 t.1.2.2.1 t.1.2.2.2.1.1 t.1.2.2.2.1.2 t.1.2.2.2.2.1 t.1.2.2.2.2.2.1 (Hb h)) bI)
noncomputable def zM:List aK:=zL::vj
theorem gg:bo prog (bt zM):=au C4 ml
inductive ck where
  | r0 (s7:ByteArray)
def xk:ck→AE×az
  | .r0 s7=>(.ret,⟨an 29 [(2,.str s7)],[],0⟩)
theorem qm:qZ xk:=by intro x;cases x<;>(intro h;cases h)
def rG:ck→mW
  | .r0 s7=>⟨.str s7,[]⟩
def E5(a_0:Int)(a_1:Int)(a_2:Int)(v_3:Lv)(a_4:List Int)(a_5:Int)(a_6:Int) :ByteArray×Nat×Bool×Bool→az:=fun (s1,a2,b3,b4)=>⟨an 29 [(1,.ptr 0 1 0 0),(3,.ptr 1 1 0 0)],[(0,.vs [.int .i64 a_0,.int .i64 a_1,.int .i64 a_2,.imm v_3 (.ns .u64 a_4) 1 1 0 (List.length a_4),.int .i64 a_5,.int .u64 a_6]),(1,.vs [.str s1,.int .i64 ((a2:Nat):Int),.bool false b3,.bool false b4])],2⟩
def E6(a_0 : Int) : T ((ByteArray × Nat × Bool × Bool) ⊕ (ck)) :=
  .alt 0
    (.need (a_0==(1:Int))<|.leaf (.inl ((ByteArray.mk #[101,105,103,101,110]),3,false,true)))
    (.alt 1
      (.need (a_0==(2:Int))<|.leaf (.inl ((ByteArray.mk #[118,97,108,117,101,115]),0,false,true)))
      (.alt 2
        (.need (a_0==(3:Int))<|.leaf (.inl ((ByteArray.mk #[115,118,100]),2,false,false)))
        (.alt 3
          (.need (a_0==(4:Int))<|.leaf (.inl ((ByteArray.mk #[114,97,110,107]),2,true,false)))
          (.alt 4
            (.need (a_0==(5:Int))<|.leaf (.inl ((ByteArray.mk #[105,110,118,101,114,115,101]),2,true,false)))
            (.alt 5
              (.need (a_0==(6:Int))<|.leaf (.inl ((ByteArray.mk #[99,111,110,100]),2,false,false)))
              (.alt 6
                (.need (!(a_0==(1:Int)))<|.need (!(a_0==(2:Int)))<|.need (!(a_0==(3:Int)))<|.need (!(a_0==(4:Int)))<|.need (!(a_0==(5:Int)))<|.need (!(a_0==(6:Int)))<|.leaf (.inl (ByteArray.empty,0,false,false)))
                (.fail)))))))
def E7(a_0:Int)(a_1:Int)(a_2:Int)(v_3:Lv)(a_4:List Int)(a_5:Int)(a_6:Int)(s1:ByteArray)(a2:Nat)(b3:Bool)(b4:Bool)(s5:ByteArray) :az:=⟨an 29 [(1,.ptr 0 1 0 0),(3,.ptr 1 1 0 0),(4,.str s5)],[(0,.vs [.int .i64 a_0,.int .i64 a_1,.int .i64 a_2,.imm v_3 (.ns .u64 a_4) 1 1 0 (List.length a_4),.int .i64 a_5,.int .u64 a_6]),(1,.vs [.str s1,.int .i64 ((a2:Nat):Int),.bool false b3,.bool false b4])],2⟩
def vk(a_5:Int)(s1:ByteArray)(a2:Nat) :T ((ByteArray)⊕(ck)) :=
  .ask (decide (((a2:Nat):Int)>(0:Int)))
    (.need (fw .i64 a_5)<|.need (decide ((ByteArray.mk #[32]).size+(bj a_5).size≤9223372036854775807))<|.need (decide (s1.size+((ByteArray.mk #[32])++(bj a_5)).size≤9223372036854775807))<|.leaf (.inl (s1++((ByteArray.mk #[32])++(bj a_5)))))
    (.leaf (.inl s1))
def E8(s6:ByteArray) :az:=⟨an 29 [(4,.str s6)],[],0⟩
def E9(a_6:Int)(b3:Bool)(s5:ByteArray) :T ((ByteArray)⊕(ck)) :=
  .ask b3
    (.need (decide ((ByteArray.mk #[32]).size+(bF a_6).size≤9223372036854775807))<|.need (decide (s5.size+((ByteArray.mk #[32])++(bF a_6)).size≤9223372036854775807))<|.leaf (.inl (s5++((ByteArray.mk #[32])++(bF a_6)))))
    (.leaf (.inl s5))
def Fa(s6:ByteArray) :T ((Empty)⊕(ck)) :=
  .leaf (.inr (.r0 s6))
noncomputable def kZ(a_0:Int)(a_5:Int)(a_6:Int) :Option ck:=ur (aT ((E6 a_0).run) fun (s1,a2,b3,b4) =>
  aT ((vk a_5 s1 a2).run) fun s5 =>
  aT ((E9 a_6 b3 s5).run) fun s6 =>
  (Fa s6).run)
theorem vl(a_0:Int)(a_1:Int)(a_2:Int)(v_3:Lv)(a_4:List Int)(a_5:Int)(a_6:Int){x:ck}(h:kZ a_0 a_5 a_6=some x) :ak prog wY [] [.agg [.int .i64 a_0,.int .i64 a_1,.int .i64 a_2,.imm v_3 (.ns .u64 a_4) 1 1 0 (List.length a_4),.int .i64 a_5,.int .u64 a_6]] (rG x) :=
  xc false rG xk h (Sg.cut 2 qm (cp gg (E5 a_0 a_1 a_2 v_3 a_4 a_5 a_6) [⟨[],[0,96],[1,3]⟩,⟨[],[0,96],[1,3]⟩,⟨[],[0,96],[1,3]⟩,⟨[],[0,96],[1,3]⟩,⟨[],[0,96],[1,3]⟩,⟨[],[0,96],[1,3]⟩,⟨[],[0,96],[1,3]⟩]) (fun ⟨s1,a2,b3,b4⟩=>Sg.cut 3 qm (cp gg (E7 a_0 a_1 a_2 v_3 a_4 a_5 a_6 s1 a2 b3 b4) [⟨[],[0,1],[1,3,4]⟩,⟨[],[0,1],[1,3,4]⟩]) (fun s5=>Sg.cut 2 qm (cp gg E8 [⟨[],[],[4]⟩,⟨[],[],[4]⟩]) (fun s6=>cp gg uF [⟨[],[],[2]⟩]))))
    (fun x=>by cases x with | r0 s7=>exact ra [.str s7])
def mo:Option ck→Bool
  | some _=>true
  | none=>false
def nt:Option ck→ByteArray
  | some (.r0 x)=>x
  | _=>ByteArray.empty
theorem Fb{x:Option ck}(h:mo x=true) :x=some (.r0 (nt x)):=by
  unfold mo at h
  split at h<;>first | rfl | (cases h;done) | (rename_i y;cases y;rfl)
noncomputable def xl:aK:=cT wY (.cons (.agg (.cons (.int .i64) (.cons (.int .i64) (.cons (.int .i64) (.cons (.ns .u64) (.cons (.int .i64) (.cons (.int .u64) .nil))))))) .nil) fun t=>(fun q=>[⟨rG (.r0 (nt q)),[mo q]⟩]) (kZ t.1.1 t.1.2.2.2.2.1 t.1.2.2.2.2.2.1)
theorem Bb:aV prog xl:=aU fun t=>(aZ (fun h=>vl t.1.1 t.1.2.1 t.1.2.2.1 t.1.2.2.2.1.1 t.1.2.2.2.1.2 t.1.2.2.2.2.1 t.1.2.2.2.2.2.1 (Fb h)) bI)
noncomputable def xm:List aK:=xl::zM
theorem Bc:bo prog (bt xm):=au Bb gg
end
end Go.Plb.Seat
namespace Go.Plb.Seat
open Go Go.Plb
set_option linter.unusedSimpArgs false
set_option linter.unusedVariables false
set_option maxRecDepth 100000
def oS(k:Int) :Bool×ByteArray×Nat×Bool×Bool :=
  if k=1 then (true,ByteArray.mk #[101,105,103,101,110],3,false,true)
  else if k=2 then (true,ByteArray.mk #[118,97,108,117,101,115],0,false,true)
  else if k=3 then (true,ByteArray.mk #[115,118,100],2,false,false)
  else if k=4 then (true,ByteArray.mk #[114,97,110,107],2,true,false)
  else if k=5 then (true,ByteArray.mk #[105,110,118,101,114,115,101],2,true,false)
  else if k=6 then (true,ByteArray.mk #[99,111,110,100],2,false,false)
  else (false,ByteArray.empty,0,false,false)
def df(k y t:Int) :Bool:=bif (oS k).1 then bif decide (y≥lU 1 ((oS k).2.2.1:Nat)) then bif decide (y≤((oS k).2.2.1:Nat)) then bif (oS k).2.2.2.1 then true else t==0 else false else false else false
def nu(k m n:Int)(len:Nat)(y t:Int) :Bool :=
  bif decide (m≥0) then bif decide (m≤512) then bif decide (n≥0) then bif decide (n≤512) then bif (len:Int)==m*n then bif df k y t then bif m==n then true else !(oS k).2.2.2.2 else false else false else false else false else false else false
def yh:ByteArray:=ByteArray.mk #[32]
def jA(k y t:Int) :ByteArray :=
  let s:=bif decide (((oS k).2.2.1:Int)>0) then (oS k).2.1++(yh++bj y) else (oS k).2.1
  bif (oS k).2.2.2.1 then s++(yh++bF t) else s
def mZ(m n:Int) :ByteArray:=((ByteArray.mk #[109,97,116,114,105,120,32]++bj m)++yh)++bj n
def zN(ws:List Int) :ByteArray:=qi (ws.map bF)
theorem Be{α:Type}(f:Bool×ByteArray×Nat×Bool×Bool→α)(k:Int) :(T.alt 0 (.need (k==(1:Int))<|.leaf (f (oS 1))) (.alt 1 (.need (k==(2:Int))<|.leaf (f (oS 2))) (.alt 2 (.need (k==(3:Int))<|.leaf (f (oS 3))) (.alt 3 (.need (k==(4:Int))<|.leaf (f (oS 4))) (.alt 4 (.need (k==(5:Int))<|.leaf (f (oS 5))) (.alt 5 (.need (k==(6:Int))<|.leaf (f (oS 6)))
    (.alt 6 (.need (!(k==(1:Int)))<|.need (!(k==(2:Int)))<|.need (!(k==(3:Int)))<|.need (!(k==(4:Int)))<|.need (!(k==(5:Int)))<|.need (!(k==(6:Int)))<|.leaf (f (false,ByteArray.empty,0,false,false))) .fail))))))).run=some (f (oS k)):=by
  by_cases h1:k=1
  · subst h1;rfl
  by_cases h2:k=2
  · subst h2;rfl
  by_cases h3:k=3
  · subst h3;rfl
  by_cases h4:k=4
  · subst h4;rfl
  by_cases h5:k=5
  · subst h5;rfl
  by_cases h6:k=6
  · subst h6;rfl
  have e:oS k=(false,ByteArray.empty,0,false,false):=by simp [oS,h1,h2,h3,h4,h5,h6]
  rw [e]
  have q:∀ j:Int,¬ k=j→(k==j)=false:=fun j h=>beq_eq_false_iff_ne.2 h
  simp [T.run,q _ h1,q _ h2,q _ h3,q _ h4,q _ h5,q _ h6]
theorem lm(k y t:Int) :eh k y t=some (.r0 (df k y t)):=by
  refine aH (ah (a:=oS k) (Be (fun x=>(Sum.inl x:(Bool×ByteArray×Nat×Bool×Bool)⊕cg)) k) ?_)
  generalize h:oS k=p
  obtain ⟨b,w,n,tt,sq⟩:=p
  refine ah (a:=df k y t) ?_ rfl
  unfold df
  rw [h]
  simp only [tZ,T.run]
  generalize decide (y≥lU (1:Int) (n:Int))=z1
  generalize decide (y≤(n:Int))=z2
  cases b<;>cases z1<;>cases z2<;>cases tt<;>rfl
theorem xn(k m n:Int)(ws:List Int)(y t:Int) :mn k m n ws y t=some (.r0 (nu k m n ws.length y t)):=by
  refine aH (ah (a:=nu k m n ws.length y t) ?_ rfl)
  unfold nu
  cases h1:decide (m≥0) with
  | false=>exact bm h1 rfl
  | true =>
    refine bK h1 ?_
    cases h2:decide (m≤512) with
    | false=>exact aI rfl
    | true =>
      refine bc ?_
      cases h3:decide (n≥0) with
      | false=>exact aI rfl
      | true =>
        refine bc ?_
        cases h4:decide (n≤512) with
        | false=>exact aI rfl
        | true =>
          refine bc (am ?_ ?_)
          · have g1:=of_decide_eq_true h1
            have g2:=of_decide_eq_true h2
            have g3:=of_decide_eq_true h3
            have g4:=of_decide_eq_true h4
            have:=Int.mul_le_mul g2 g4 g3 (by omega)
            have:=Int.mul_nonneg g1 g3
            rw [aX];omega
          cases h5:((ws.length:Int)==m*n) with
          | false=>exact aI rfl
          | true =>
            refine bc (am (by simp [se]) (am (by rw [lm];rfl) ?_))
            cases h6:df k y t with
            | false=>exact bm (by rw [lm];exact h6) rfl
            | true =>
              refine bK (by rw [lm];exact h6) ?_
              cases h7:(m==n) with
              | true=>exact bc rfl
              | false=>exact aI (Be (fun x=>(Sum.inl (!x.2.2.2.2):Bool⊕dr)) k)
theorem so(w:Int) :(kY w).length=16:=by simp [kY]
theorem L5(l:List Int) :(Ci l).size=l.length:=by
  have key:∀ (l:List Int) (r:ByteArray),(l.foldl (fun r n=>r.push (UInt8.ofNat n.toNat)) r).size=r.size+l.length:=by
    intro l
    induction l with
    | nil=>intro r;rfl
    | cons x l ih=>intro r;rw [List.foldl_cons,ih,ByteArray.size_push,List.length_cons];omega
  have:=key l ByteArray.empty
  simpa [Ci] using this
theorem qn(w:Int) :(bF w).size=16:=by rw [bF,L5,so]
theorem Bf:∀ l:List ByteArray,(sn l).length≤(l.map fun s=>s.size+1).sum
  | []=>by simp [sn]
  | [x]=>by
    simp only [sn,List.map_cons,List.map_nil,List.sum_cons,List.sum_nil,Array.length_toList]
    show x.size≤_
    omega
  | x::y::r=>by
    have:=Bf (y::r)
    simp only [sn,List.map_cons,List.sum_cons,List.length_append,List.length_cons] at this ⊢
    simp only [ByteArray.size,Array.length_toList] at this ⊢
    omega
theorem Fc(l:List ByteArray) :(qi l).size=(sn l).length:=by simp [qi,ByteArray.size]
theorem Fd:∀ f n,(GU f n).length≤f
  | 0,_=>by simp [GU]
  | f+1,n=>by
    have:=Fd f (n/10)
    rw [GU]
    split<;>simp<;>omega
theorem lB(n:Int) :(bj n).size≤21:=by
  have:(bj n).size=(KK n).length:=by simp [bj,ByteArray.size]
  rw [this,KK]
  have h1:=Fd 20 n.natAbs
  have h2:=Fd 20 n.toNat
  split<;>simp<;>omega
theorem vm(m n:Int)(hm:fw .i64 m=true)(hn:fw .i64 n=true) :dV m n=some (.r0 (mZ m n)):=by
  refine aH ?_
  have h1:=lB m
  have h2:=lB n
  have e1:(ByteArray.mk #[109,97,116,114,105,120,32]).size=7:=rfl
  have e2:(ByteArray.mk #[32]).size=1:=rfl
  refine am hm (am ?_ (am ?_ (am hn (am ?_ rfl))))
  all_goals simp only [ByteArray.size_append,e1,e2,decide_eq_true_eq];omega
theorem KN(k:Int) :(oS k).2.1.size≤7:=by
  unfold oS
  repeat' split
  all_goals decide
theorem vn(k y t:Int)(hy:fw .i64 y=true) :kZ k y t=some (.r0 (jA k y t)):=by
  have hw:=KN k
  refine aH (ah (a:=(oS k).2) (Be (fun x=>(Sum.inl x.2:(ByteArray×Nat×Bool×Bool)⊕ck)) k) ?_)
  generalize h:oS k=p at hw
  obtain ⟨b,w,n,tt,sq⟩:=p
  have hw:w.size≤7:=hw
  have h1:=lB y
  have h2:=qn t
  have e2:(ByteArray.mk #[32]).size=1:=rfl
  have hs1:(vk y w n).run=some (.inl (bif decide ((n:Int)>0) then w++(yh++bj y) else w)):=by
    cases hz:decide ((n:Int)>0) with
    | false=>exact bm hz rfl
    | true =>
      refine bK hz (am hy (am ?_ (am ?_ rfl)))
      all_goals simp only [ByteArray.size_append,e2,decide_eq_true_eq];omega
  have hsz:(bif decide ((n:Int)>0) then w++(yh++bj y) else w).size≤29:=by
    have e3:yh.size=1:=rfl
    cases decide ((n:Int)>0)<;>simp only [cond_true,cond_false,ByteArray.size_append,e3]<;>omega
  unfold jA
  rw [h]
  refine ah hs1 ?_
  generalize (bif decide ((n:Int)>0) then w++(yh++bj y) else w)=s5 at hsz
  refine ah (a:=bif tt then s5++(yh++bF t) else s5) ?_ rfl
  cases tt with
  | false=>exact aI rfl
  | true =>
    refine bc (am ?_ (am ?_ rfl))
    all_goals simp only [ByteArray.size_append,e2,decide_eq_true_eq];omega
theorem Hc(ws:List Int)(h:ws.length≤1000000) :tx ws=some (.r0 (zN ws)):=by
  have hsz:(zN ws).size≤17*ws.length:=by
    have:=Bf (ws.map bF)
    rw [zN,Fc]
    have e:((ws.map bF).map fun s=>s.size+1).sum=17*ws.length:=by
      clear this h
      induction ws with
      | nil=>rfl
      | cons x l ih=>simp only [List.map_cons,List.sum_cons,List.length_cons,qn] at ih ⊢;omega
    omega
  refine aH (ah rfl (ah (a:=(ws.length,ws.length,ws.map bF)) (cV (fun j=>(j,j,j,(ws.take j).map bF)) ws.length rfl (fun j hj=>?_) ?_) ?_))
  · have hl:((ws.take j).map bF).length=j:=by rw [List.length_map,List.length_take];omega
    have hg:ws[j]? = some (ws.getD j 0):=by rw [List.getD_eq_getElem?_getD,List.getElem?_eq_getElem hj];rfl
    have hn:List.take j ((ws.take j).map bF)++List.take 1 [bF (ws.getD j 0)]=(ws.take (j+1)).map bF:=by
      rw [List.take_of_length_le (by omega),List.take_add_one (l:=ws),hg,List.map_append];rfl
    rw [←hn]
    refine bK (by simp;omega) (am (by rw [dc];omega) (am (by rw [cq];omega) (am (by rw [cd];omega) (am (by rw [cd];omega) (bi (am (by rw [cd];omega) (am (by rw [aX];omega) rfl)))))))
  · rw [List.take_length]
    exact bm (by simp) rfl
  · show (qk ws.length (ws.map bF)).run=_
    have hc:dq 0 ws.length (ws.map bF)=ws.map bF:=by
      have:=sd (ws.map bF)
      rwa [List.length_map] at this
    rw [qk,hc]
    refine am (by simp [se]) (bi (am ?_ (am ?_ rfl)))
    · show Nat.ble (zN ws).size 1000000000=true
      exact Nat.ble_eq_true_of_le (by omega)
    · show Nat.ble (ws.map bF).length 1000000000=true
      rw [List.length_map]
      exact Nat.ble_eq_true_of_le (by omega)
end Go.Plb.Seat
namespace Go.Plb.Seat
open Go Go.Plb Go.Proofs Go.RowKit Go.Shelf
set_option maxRecDepth 100000
set_option linter.unusedSimpArgs false
set_option linter.unusedVariables false
attribute [local go_sem] Oper.semAt_some
set_option maxHeartbeats 2000000 in
theorem PS (d l cb nb : Nat) (p : Option Addr) (m n cap : Nat) (hn : 1 ≤ n) (hL : m * n ≤ 1000000) (hcap : m * n ≤ cap) (hp : 1 ≤ m → p.isSome = true) (W : World) (J : Option Nat → World → Prop)
    (hJb : ∀ i W', J (some i) W' → W'.heap[cb]? = W.heap[cb]? ∧ W'.heap[nb]? = W.heap[nb]?) (hJm : ∀ i W' W'', J i W' → Below W'.heap.size W' W'' → J i W'')
    (hY : ∀ j a W', j < m → p = some a → J (some j) W' → YieldAt Fence.wide d prog l #[.slice (some (a.add (j * n))) n n] W' (fun e W'' => (e = .returned (.bool true) ∧ J (some (j + 1)) W'') ∨ (e = .returned (.bool false) ∧ J none W'')))
    (hc : Boxed W cb 30 (.slice p (m * n) cap)) (hnb : Boxed W nb 3 (.int .i64 n)) (h0 : J (some 0) W) :
    CallsIn Fence.wide (d + 1) prog 66 #[.func (.yield l) #[] #[], .pointer (some ⟨cb, 0, none⟩), .pointer (some ⟨nb, 0, none⟩)] W (fun e W' => (∃ v, e = .returned v) ∧ (J (some m) W' ∨ J none W')) := by
  refine callsIn_of_wp Tryz.func66 rfl trivial ?_ rfl
  simp only [Tryz.ntmps66, List.size_toArray, List.length_cons, List.length_nil, Nat.reduceAdd, Nat.reduceSub, Array.replicate_succ, Array.replicate_zero, List.push_toArray, List.append_toArray, List.nil_append, List.cons_append]
  gi_wp2
  gi_loopw [4] (fun t W' => ∃ (j i : Nat), t = .int .i64 (i : Nat) ∧ i = j * n ∧ j ≤ m ∧ J (some j) W') (fun t _ => m * n - (intOf t).toNat)
  case atStart => exact ⟨0, 0, rfl, by simp, Nat.zero_le _, h0⟩
  case round =>
    obtain ⟨j, i, rfl, hi, hj, hJ⟩ := hrel
    have hb := hJb j wr hJ
    have hc' : Boxed wr cb 30 (.slice p (m * n) cap) := hb.1.trans hc
    have hn' : Boxed wr nb 3 (.int .i64 n) := hb.2.trans hnb
    have c1 := hc'.cell
    have c2 := hn'.cell
    generalize hLe : m * n = L at *
    have hlt : i < L ↔ j < m := by
      rw [hi, ← hLe]
      exact ⟨fun h => Nat.lt_of_mul_lt_mul_right h, fun h => Nat.mul_lt_mul_of_pos_right h (by omega)⟩
    by_cases hjm : j < m
    · have h1 : i < L := hlt.2 hjm
      have h2 : i + n ≤ L := by
        rw [hi, ← hLe]
        calc j * n + n = (j + 1) * n := by rw [Nat.add_mul, Nat.one_mul]
          _ ≤ m * n := Nat.mul_le_mul_right n hjm
      obtain ⟨a, rfl⟩ := Option.isSome_iff_exists.1 (hp (by omega))
      have hJ' : J (some j) wr.drew := hJm _ _ _ hJ (Below.refl _ _).drew
      have hY' := hY j a wr.drew hjm rfl hJ'
      rw [← hi] at hY'
      obtain ⟨fn', tmps', assign', body', hy', hR'⟩ := hY'
      replace hi := Lib.hid hi
      clear hlt
      gi_wp2
      gi_region
      rw [show min (n : Int) ((L - i : Nat) : Int) = (n : Int) by omega]
      gi_wp2
      refine hR'.mono ?_
      rintro e W3 (⟨rfl, hJ3⟩ | ⟨rfl, hJ3⟩)
      · have hb3 := hJb (j + 1) W3 hJ3
        have c3 := (show Boxed W3 nb 3 (.int .i64 n) from hb3.2.trans hnb).cell
        gi_wp2
        go_roundw
        case rel => exact ⟨j + 1, i + n, by go_num, by rw [hi.out, Nat.add_mul, Nat.one_mul], by omega, hJ3⟩
        case measure => simp [intOf]; omega
      · gi_wp2
        refine bodyPost_ret (results_none rfl _ _ _) rfl ?_
        exact ⟨⟨_, rfl⟩, .inr hJ3⟩
    · have h1 : ¬ i < L := fun h => hjm (hlt.1 h)
      have hjm' : j = m := by omega
      gi_wp2
      go_end0
      exact ⟨⟨_, rfl⟩, .inl (hjm' ▸ hJ)⟩
theorem KO(p:Option Addr)(len cap n:Nat)(hn:1≤n)(w:World) :Calls prog 54 #[.slice p len cap,.int .i64 n] w fun e w' =>
    e=.returned (.func (.func 66) #[] #[.pointer (some ⟨w.heap.size,0,none⟩),.pointer (some ⟨w.heap.size+1,0,none⟩)])∧w'=(w.alloc (.cells #[.slice p len cap] 30)).alloc (.cells #[.int .i64 n] 3):=by
  have hmf:∀ (fn:Fn) (first cap:Array Value) (w:World),(Instr.makeFunc fn first cap).run prog w=.ok (.func fn first cap) w:=fun _ _ _ _=>rfl
  go_enter Tryz.func54,Tryz.ntmps54
  go_wp2
  go_ret
  exact ⟨rfl,rfl⟩
def ei(k m n:Int)(ws:List Int)(y t:Int) :List ByteArray :=
  bif nu k m n ws.length y t then mZ m n::((bif decide (n>0) then (List.range m.toNat).map (fun i=>zN ((ws.drop (i*n.toNat)).take n.toNat)) else [])++[jA k y t]) else []
abbrev L6(k m n:Int)(vw:Value)(y t:Int) :Array Value:=#[.int .i64 k,.int .i64 m,.int .i64 n,vw,.int .i64 y,.int .u64 t]
abbrev jD(ws:List Int) :AV:=.imm .free (.ns .u64 ws) 1 1 0 ws.length
theorem Ie(k m n:Int)(ws:List Int)(vw:Value)(y t:Int)(w:World)(hr:fY w)(hv:VR ae.none_ w (jD ws) vw) :
    Calls prog 17 #[.agg (L6 k m n vw y t)] w fun e w'=>e=.returned (.bool (nu k m n ws.length y t))∧Below w.heap.size w w':=by
  have h:=xj k m n .free ws y t (xn k m n ws y t)
  refine (ak.calls (v:=.bool false (nu k m n ws.length y t)) h w hr (us:=[.agg (L6 k m n vw y t)]) (.cons _ _ _ _ (.agg _ _ (.cons _ _ _ _ (.int _ _) (.cons _ _ _ _ (.int _ _) (.cons _ _ _ _ (.int _ _) (.cons _ _ _ _ hv (.cons _ _ _ _ (.int _ _) (.cons _ _ _ _ (.int _ _) .nil))))))) .nil)).mono ?_
  rintro e w' ⟨u,ρ',rfl,hb,hu⟩
  cases hu
  exact ⟨rfl,hb⟩
theorem L7(k m n:Int)(ws:List Int)(vw:Value)(y t:Int)(hy:fw .i64 y=true)(w:World)(hr:fY w)(hv:VR ae.none_ w (jD ws) vw) :
    Calls prog 36 #[.agg (L6 k m n vw y t)] w fun e w'=>e=.returned (.string (jA k y t))∧Below w.heap.size w w':=by
  have h:=vl k m n .free ws y t (vn k y t hy)
  refine (ak.calls (v:=.str (jA k y t)) h w hr (us:=[.agg (L6 k m n vw y t)]) (.cons _ _ _ _ (.agg _ _ (.cons _ _ _ _ (.int _ _) (.cons _ _ _ _ (.int _ _) (.cons _ _ _ _ (.int _ _) (.cons _ _ _ _ hv (.cons _ _ _ _ (.int _ _) (.cons _ _ _ _ (.int _ _) .nil))))))) .nil)).mono ?_
  rintro e w' ⟨u,ρ',rfl,hb,hu⟩
  cases hu
  exact ⟨rfl,hb⟩
theorem L8(m n:Int)(hm:fw .i64 m=true)(hn:fw .i64 n=true)(w:World)(hr:fY w) :Calls prog 53 #[.int .i64 m,.int .i64 n] w fun e w'=>e=.returned (.string (mZ m n))∧Below w.heap.size w w':=by
  have h:=vg m n (vm m n hm hn)
  refine (ak.calls (v:=.str (mZ m n)) h w hr (us:=[.int .i64 m,.int .i64 n]) (.cons _ _ _ _ (.int _ _) (.cons _ _ _ _ (.int _ _) .nil))).mono ?_
  rintro e w' ⟨u,ρ',rfl,hb,hu⟩
  cases hu
  exact ⟨rfl,hb⟩
theorem N6(ws:List Int)(h6:ws.length≤1000000)(vw:Value)(w:World)(hr:fY w)(hv:VR ae.none_ w (jD ws) vw) :Calls prog 23 #[vw] w fun e w'=>e=.returned (.string (zN ws))∧Below w.heap.size w w':=by
  have h:=xg .free ws (Hc ws h6)
  refine (ak.calls (v:=.str (zN ws)) h w hr (us:=[vw]) (.cons _ _ _ _ hv .nil)).mono ?_
  rintro e w' ⟨u,ρ',rfl,hb,hu⟩
  cases hu
  exact ⟨rfl,hb⟩
theorem oz{k m n:Int}{len:Nat}{y t:Int}(h:nu k m n len y t=true) :0≤m∧m≤512∧0≤n∧n≤512∧(len:Int)=m*n∧0≤y∧y≤3:=by
  unfold nu at h
  simp only [Bool.cond_eq_ite,Bool.if_false_right,Bool.and_eq_true,decide_eq_true_eq,beq_iff_eq,ge_iff_le] at h
  obtain ⟨h1,h2,h3,h4,h5,h6,_⟩:=h
  refine ⟨h1,h2,h3,h4,h5,?_⟩
  unfold df at h6
  simp only [Bool.cond_eq_ite,Bool.if_false_right,Bool.and_eq_true,decide_eq_true_eq,beq_iff_eq,ge_iff_le] at h6
  obtain ⟨_,g1,g2,_⟩:=h6
  have hk:(oS k).2.2.1≤3:=by
    unfold oS
    repeat' split
    all_goals decide
  have g3:lU 1 ((oS k).2.2.1:Nat)≥0:=by unfold lU;split<;>omega
  omega
theorem zO(w:World) :(isAgg 33).run prog w=.ok true w:=pU (by kernel_rfl)
theorem vo(w:World) :(sizeOf 33).run prog w=.ok 6 w:=by
  have hi:(prog.info? 33).map (·.size)=some 6:=by kernel_rfl
  cases hq:prog.info? 33 with
  | none=>rw [hq] at hi;cases hi
  | some i =>
    rw [hq] at hi
    simp only [Option.map_some,Option.some.injEq] at hi
    simp [sizeOf,Sem.run_bind,typeInfo,hq,hi]
theorem dj{W:World}{k:Nat}{o:Obj}(h:W.heap[k]? = some o) :k<W.heap.size:=(Array.getElem?_eq_some_iff.1 h).1
structure N7 (B ab:Nat) (k m n:Int) (ws:List Int) (vw:Value) (y t:Int) (J:Option Nat→World→Prop):Prop where
  ask:∀ i W,J (some i) W→W.heap[ab]? = some (.cells (L6 k m n vw y t) 33 (0,0))∧fY W∧VR ae.none_ W (jD ws) vw
  mono:∀ i W W',J i W→Below W.heap.size W W'→J i W'
  put:∀ i W r o o',J i W→B≤r→W.heap[r]? = some o'→o'.isCells=false→J i (W.putObj r o)
def KP(o:Obj) :Prop:=∀ c fz,o ≠ .cells c 5 fz
def Bg(B:Nat)(W W':World) :Prop:=W.heap.size≤W'.heap.size∧∀ r o,B≤r→W.heap[r]? = some o→KP o→W'.heap[r]? = some o
theorem oA{c:Array Value}{t:TypeId}{fz:Nat×Nat}(h:t≠5) :KP (.cells c t fz):=fun _ _ e=>by injection e with _ e;exact h e
theorem wq(l:Option (List Deferred)) :KP (.deferred l):=fun _ _ e=>by cases e
theorem Fe(l:Loop) :KP (.loop l):=fun _ _ e=>by cases e
structure LF (ab bx:Nat) (l:Nat) (k m n:Int) (ws:List Int) (vw:Value) (y t:Int) (W:World):Prop where
  c0:W.cell? ⟨ab,0,none⟩=some (.int .i64 k)
  c1:W.cell? ⟨ab,1,none⟩=some (.int .i64 m)
  c2:W.cell? ⟨ab,2,none⟩=some (.int .i64 n)
  c3:W.cell? ⟨ab,3,none⟩=some vw
  c4:W.cell? ⟨ab,4,none⟩=some (.int .i64 y)
  c5:W.cell? ⟨ab,5,none⟩=some (.int .u64 t)
  cb:W.cell? ⟨bx,0,none⟩=some (.func (.yield l) #[] #[])
  rom:fY W
  hv:VR ae.none_ W (jD ws) vw
theorem Sm{ab bx l:Nat}{k m n:Int}{ws:List Int}{vw:Value}{y t:Int}{W:World}(h:W.heap[ab]? = some (.cells (L6 k m n vw y t) 33 (0,0))∧fY W∧VR ae.none_ W (jD ws) vw)(hbx:Boxed W bx 41 (.func (.yield l) #[] #[])) :
    LF ab bx l k m n ws vw y t W:=by
  obtain ⟨h1,h2,h3⟩:=h
  exact ⟨by simp [World.cell?,h1],by simp [World.cell?,h1],by simp [World.cell?,h1],by simp [World.cell?,h1],by simp [World.cell?,h1],by simp [World.cell?,h1],hbx.cell,h2,h3⟩
theorem N7.lf{B ab bx l:Nat}{k m n:Int}{ws:List Int}{vw:Value}{y t:Int}{J:Option Nat→World→Prop}(hI:N7 B ab k m n ws vw y t J){i:Nat}{W W':World}(hJ:J (some i) W)(hbx:Boxed W bx 41 (.func (.yield l) #[] #[]))(hb:Below W.heap.size W W') :
    LF ab bx l k m n ws vw y t W':=Sm (hI.ask i W' (hI.mono _ _ _ hJ hb)) ((hb.block bx hbx.lt).trans hbx)
theorem If{ρ:ae}{W:World}{ws:List Int}{v:Value}(hv:VR ρ W (jD ws) v) :∃ p cap,v=.slice p ws.length cap∧ws.length≤cap∧(1≤ws.length→p.isSome=true):=by
  generalize hA:jD ws=A at hv
  cases hv with
  | imm bw d k es i len cap bl o u ha hb hc hv hl hr hk hg=>cases hA;exact ⟨_,_,rfl,hl,fun _=>rfl⟩
  | immEnd bw d k es i cap a hr hk hg =>
    simp only [jD,AV.imm.injEq] at hA
    obtain ⟨_,_,_,_,_,h0⟩:=hA
    rw [h0]
    exact ⟨_,_,rfl,Nat.zero_le _,fun h=>by omega⟩
  | _=>cases hA
theorem N8{ρ:ae}{W:World}{ws:List Int}{a:Addr}{cap:Nat}(hv:VR ρ W (jD ws) (.slice (some a) ws.length cap))(j c:Nat)(h:j+c≤ws.length) :VR ρ W (jD ((ws.drop j).take c)) (.slice (some (a.add j)) c c):=by
  have hlen:((ws.drop j).take c).length=c:=by rw [List.length_take,List.length_drop];omega
  by_cases hc0:c=0
  · subst hc0
    show VR ρ W (.imm .free (.ns .u64 _) 1 1 0 _) _
    rw [List.take_zero]
    exact .immEnd _ _ _ _ _ _ _ trivial (fun _=>rfl) rfl
  generalize hA:jD ws=A at hv
  generalize hV:Value.slice (some a) ws.length cap=V at hv
  cases hv with
  | imm bw d k es i len cap bl o u ha hb hc hv hl hr hk hg =>
    cases hA
    cases hV
    have:=VR.imm (ρ:=ρ) (w:=W) .free (.ns .u64 ((ws.drop j).take c)) 1 1 0 c c bl (o+0*1+j) (fun x=>u (j+x)) ha hb (fun x v hx=>?_) (fun x v hx=>?_) (Nat.le_refl _) trivial (fun _=>rfl) rfl
    · show VR ρ W (.imm .free (.ns .u64 ((ws.drop j).take c)) 1 1 0 ((ws.drop j).take c).length) _
      rw [hlen]
      have e1:(Addr.mk bl (o+0*1) none).add j=Addr.mk bl (o+0*1+j+0*1) none:=by simp [Addr.add]
      rw [e1]
      exact this
    all_goals
      simp only [ao.cell?,List.getElem?_take,List.getElem?_drop] at hx
      split at hx
      case isFalse=>cases hx
    · have:=hc (j+x) v (by simpa [ao.cell?] using hx)
      rw [show o+0*1+j+x=o+(j+x) by omega]
      exact this
    · exact hv (j+x) v (by simpa [ao.cell?] using hx)
  | immEnd bw d k es i cap a hr hk hg =>
    simp only [jD,AV.imm.injEq] at hA
    obtain ⟨_,_,_,_,_,h0⟩:=hA
    omega
  | _=>cases hA
noncomputable def Ff:Code:=match Tryz.f52.body with
  | some (.seq _ (.seq _ t))=>t
  | _=>.skip
noncomputable def PT:Code:=match Ff with
  | .seq _ t=>t
  | _=>.skip
set_option maxHeartbeats 4000000 in
theorem Fg (d l ab bx B : Nat) (k m n : Int) (ws : List Int) (vw : Value) (y t : Int) (J : Option Nat → World → Prop) (hI : N7 B ab k m n ws vw y t J)
    (hm : nu k m n ws.length y t = true) (hbx : B ≤ bx)
    (hY : ∀ d' j x W', (ei k m n ws y t)[j]? = some x → J (some j) W' → YieldAt Fence.wide (d' + 4) prog l #[.string x] W' (fun e W'' => ∃ b : Bool, e = .returned (.bool b) ∧ J (bif b then some (j + 1) else none) W'' ∧ Bg B W' W''))
    (Q : Exit → Act → World → Prop) (D : List Deferred) (W3 : World) (hQ : ∀ a W', a.defers = D → Bg B W3 W' → J (some (ei k m n ws y t).length) W' ∨ J none W' → Q .normal a W' ∧ Q .ret a W')
    (j : Nat) (hj : (ei k m n ws y t).length = j + 1) (hl : (ei k m n ws y t)[j]? = some (jA k y t)) (h1 : J (some j) W3) (hx : Boxed W3 bx 41 (.func (.yield l) #[] #[])) (u3 u4 u5 u6 u7 u8 u9 u10 u11 u12 u13 u14 u15 u16 u17 u18 u19 u20 u21 u22 u23 u24 u25 u26 u27 u28 u29 u30 u31 u32 u33 R1 : Value) : Code.wpIn Fence.wide (d + 10) prog PT Q { tmps := #[.func (.yield l) #[] #[], .pointer (some ⟨ab, 0, none⟩), .pointer (some ⟨bx, 0, none⟩), u3, u4, u5, u6, u7, u8, u9, u10, u11, u12, u13, u14, u15, u16, u17, u18, u19, u20, u21, u22, u23, u24, u25, u26, u27, u28, u29, u30, u31, u32, u33, R1], defers := D } W3 := by
  obtain ⟨hm0, hm5, hn0, hn5, hlen, hy0, hy3⟩ := oz hm
  have ky : fw .i64 y = true := aX.2 (by omega)
  delta PT Ff Tryz.f52
  dsimp only
  obtain ⟨c0, c1, c2, c3, c4, c5, cb, rom, hv⟩ := hI.lf h1 hx (Below.refl _ W3).drew
  have ag := zO
  have sz := vo
  have hline := L7 k m n ws vw y t ky _ rom hv
  have hY1 := fun W' h => hY (d + 5) j _ W' hl h
  first
    | gi_region_with first
        | (refine ⟨trivial, ?_⟩; gi_at_call 36; refine (callsIn_wide.2 hline).mono ?_; rintro e W1 ⟨rfl, hb1⟩; have hb13 := (Below.refl _ W3).drew.trans hb1; obtain ⟨c10, c11, c12, c13, c14, c15, c1b, rom1, hv1⟩ := hI.lf h1 hx hb13; obtain ⟨fn', tmps', assign', body', hy', hR'⟩ := hY1 W1 (hI.mono _ _ _ h1 hb13))
        | (refine hR'.mono ?_; rintro e W4 ⟨b, rfl, hJ3, hK3⟩)
    | fail
  all_goals
    have hk3 : Bg B W3 W4 := ⟨Nat.le_trans hb13.size hK3.1, fun r o h2 h3 h4 => hK3.2 r o h2 ((hb13.block r (dj h3)).trans h3) h4⟩
    refine (hQ _ _ rfl hk3 ?_).1
    rw [hj]
    cases b
    · exact .inr hJ3
    · exact .inl hJ3
theorem Ri{α:Type}(h:Array α)(a b c d:α)(k:Nat) :((((h.push a).push b).push c).push d)[h.size+k]? = #[a,b,c,d][k]?:=by
  have e1:((((h.push a).push b).push c).push d)=h ++ #[a,b,c,d]:=by
    apply Array.toList_inj.1
    simp
  rw [e1,Array.getElem?_append_right (Nat.le_add_right _ _),Nat.add_sub_cancel_left]
structure Sn (S bx l:Nat) (p:Option Addr) (L cap N:Nat) (rec:LoopState→Option Code→Loop) (J:Option Nat→World→Prop) (j:Nat) (W:World):Prop where
  j:J (some (1+j)) W
  x:Boxed W bx 41 (.func (.yield l) #[] #[])
  c:Boxed W S 30 (.slice p L cap)
  n:Boxed W (S+1) 3 (.int .i64 N)
  d:W.heap[S+2]? = some (.deferred (some []))
  o:W.heap[S+2+1]? = some (.loop (rec .ready none))
structure SP (S:Nat) (rec:LoopState→Option Code→Loop) (J:Option Nat→World→Prop) (W:World):Prop where
  j:J none W
  d:W.heap[S+2]? = some (.deferred (some []))
  o:W.heap[S+2+1]? = some (.loop (rec .done (some .ret)))
def CJ(S bx l:Nat)(p:Option Addr)(L cap N:Nat)(rec:LoopState→Option Code→Loop)(J:Option Nat→World→Prop) :Option Nat→World→Prop
  | some j,W=>Sn S bx l p L cap N rec J j W
  | none,W=>SP S rec J W
theorem CJ.mono{S bx l:Nat}{p:Option Addr}{L cap N:Nat}{rec:LoopState→Option Code→Loop}{J:Option Nat→World→Prop}(hJ:∀ i W W',J i W→Below W.heap.size W W'→J i W') :
    ∀ i W W',CJ S bx l p L cap N rec J i W→Below W.heap.size W W'→CJ S bx l p L cap N rec J i W'
  | some j,W,W',h,hb=>⟨hJ _ _ _ h.j hb,(hb.block _ h.x.lt).trans h.x,(hb.block _ h.c.lt).trans h.c,(hb.block _ h.n.lt).trans h.n,(hb.block _ (dj h.d)).trans h.d,(hb.block _ (dj h.o)).trans h.o⟩
  | none,W,W',h,hb=>⟨hJ _ _ _ h.j hb,(hb.block _ (dj h.d)).trans h.d,(hb.block _ (dj h.o)).trans h.o⟩
set_option maxHeartbeats 4000000 in
theorem L9 (d l ab bx B : Nat) (k m n : Int) (ws : List Int) (vw : Value) (y t : Int) (J : Option Nat → World → Prop) (hI : N7 B ab k m n ws vw y t J)
    (hm : nu k m n ws.length y t = true) (hbx : B ≤ bx)
    (hY : ∀ d' j x W', (ei k m n ws y t)[j]? = some x → J (some j) W' → YieldAt Fence.wide (d' + 4) prog l #[.string x] W' (fun e W'' => ∃ b : Bool, e = .returned (.bool b) ∧ J (bif b then some (j + 1) else none) W'' ∧ Bg B W' W''))
    (Q : Exit → Act → World → Prop) (W3 : World)
    (hQ : ∀ a W', (a.defers = [] ∨ ∃ D, B ≤ D ∧ a.defers = [{ target := .collected D, args := #[] }] ∧ W'.heap[D]? = some (.deferred (some []))) → J (some (ei k m n ws y t).length) W' ∨ J none W' → Q .normal a W' ∧ Q .ret a W')
    (h1 : J (some 1) W3) (hx : Boxed W3 bx 41 (.func (.yield l) #[] #[])) (u3 u4 u5 u6 u7 u8 u9 u10 u11 u12 u13 u14 u15 u16 u17 u18 u19 u20 u21 u22 u23 u24 u25 u26 u27 u28 u29 u30 u31 u32 u33 R1 : Value) : Code.wpIn Fence.wide (d + 10) prog Ff Q { tmps := #[.func (.yield l) #[] #[], .pointer (some ⟨ab, 0, none⟩), .pointer (some ⟨bx, 0, none⟩), u3, u4, u5, u6, u7, u8, u9, u10, u11, u12, u13, u14, u15, u16, u17, u18, u19, u20, u21, u22, u23, u24, u25, u26, u27, u28, u29, u30, u31, u32, u33, R1], defers := [] } W3 := by
  obtain ⟨hm0, hm5, hn0, hn5, hlen, hy0, hy3⟩ := oz hm
  have hch : ∃ x, Ff = .seq x PT ∧ x = (match Ff with | .seq x _ => x | _ => .skip) := ⟨_, rfl, rfl⟩
  obtain ⟨x, hx', he⟩ := hch
  rw [hx']
  delta Ff Tryz.f52 at he
  dsimp only at he
  rw [he]
  obtain ⟨c0, c1, c2, c3, c4, c5, cb, rom, hv⟩ := hI.lf h1 hx (Below.refl _ W3)
  obtain ⟨N, rfl⟩ := Int.eq_ofNat_of_zero_le hn0
  obtain ⟨M, rfl⟩ := Int.eq_ofNat_of_zero_le hm0
  clear he hx'
  by_cases hN : N = 0
  · subst hN
    have hlin : ei k M ((0 : Nat) : Int) ws y t = [mZ M ((0 : Nat) : Int), jA k y t] := by rw [ei, hm]; rfl
    gi_wp2
    exact Fg d l ab bx B k M ((0 : Nat) : Int) ws vw y t J hI hm hbx hY Q [] W3 (fun a W' h2 _ h4 => hQ a W' (.inl h2) h4) 1 (by rw [hlin]; rfl) (by rw [hlin]; rfl) h1 hx _ _ _ _ _ _ _ _ _ _ _ _ _ _ _ _ _ _ _ _ _ _ _ _ _ _ _ _ _ _ _ _
  · have hN1 : (0 : Int) < (N : Int) := by omega
    obtain ⟨p, cap, rfl, hcap, hp⟩ := If hv
    have hle : ws.length = M * N := by
      have : ((M * N : Nat) : Int) = (ws.length : Int) := by rw [hlen, Int.natCast_mul]
      omega
    rw [hle] at hcap hp hv
    gi_wp2_with (refine ⟨trivial, ?_⟩; gi_at_call 54; refine (callsIn_wide.2 (KO p (M * N) cap N (by omega) W3)).mono ?_; rintro e w' ⟨rfl, rfl⟩)
    obtain ⟨W4, hW4⟩ : ∃ W4, (W3.alloc (.cells #[.slice p (M * N) cap] 30)).alloc (.cells #[.int .i64 N] 3) = W4 := ⟨_, rfl⟩
    rw [hW4]
    have hs4 : W4.heap.size = W3.heap.size + 2 := by rw [← hW4]; simp
    refine yg (gf := 66) (m := d + 9) rfl (enters_of Tryz.func66 (by kernel_rfl) rfl) fun fn rec hrec hy => ?_
    rw [hs4] at hy ⊢
    have hlin : ei k M N ws y t = mZ M N :: (((List.range M).map (fun i => zN ((ws.drop (i * N)).take N))) ++ [jA k y t]) := by
      have hd0 : decide ((N : Int) > 0) = true := decide_eq_true hN1
      rw [ei, hm, hd0]
      rfl
    have hBS : B ≤ W3.heap.size := Nat.le_trans hbx (Nat.le_of_lt hx.lt)
    have hlen1 : (ei k M N ws y t).length = M + 1 + 1 := by rw [hlin]; simp
    have round : ∀ j a W', j < M → p = some a → Sn W3.heap.size bx l p (M * N) cap N rec J j W' → YieldAt Fence.wide (d + 8) prog (W3.heap.size + 2 + 1) #[.slice (some (a.add (j * N))) N N] W' (fun e W'' =>
        (e = .returned (.bool true) ∧ Sn W3.heap.size bx l p (M * N) cap N rec J (j + 1) W'') ∨ (e = .returned (.bool false) ∧ SP W3.heap.size rec J W'')) := by
      rintro j a W' hj rfl hS
      refine hy (d + 8) _ W' _ hS.o rfl ?_
      clear hy
      have hL1 : (ei k M N ws y t)[1 + j]? = some (zN ((ws.drop (j * N)).take N)) := by
        rw [hlin, Nat.add_comm, List.getElem?_cons_succ, List.getElem?_append_left (by simpa using hj), List.getElem?_map, List.getElem?_range hj]
        rfl
      have hjN : j * N + N ≤ ws.length := by
        rw [hle]
        calc j * N + N = (j + 1) * N := by rw [Nat.add_mul, Nat.one_mul]
          _ ≤ M * N := Nat.mul_le_mul_right N hj
      gi_wp2
      refine ⟨hS.o, ?_⟩
      obtain ⟨V1, hV1⟩ : ∃ V1, W'.putObj (W3.heap.size + 2 + 1) (.loop (rec .busy none)) = V1 := ⟨_, rfl⟩
      rw [hV1]
      have hlt := dj hS.o
      have hs1 : V1.heap.size = W'.heap.size := by rw [← hV1]; simp
      have hk1 : ∀ r, r ≠ W3.heap.size + 2 + 1 → V1.heap[r]? = W'.heap[r]? := fun r hr => by rw [← hV1]; exact World.putObj_heap_other hr
      have ho1 : V1.heap[W3.heap.size + 2 + 1]? = some (.loop (rec .busy none)) := by rw [← hV1]; exact World.putObj_heap_same hlt
      have hp1 := hI.put _ W' (W3.heap.size + 2 + 1) (.loop (rec .busy none)) _ hS.j (by omega) hS.o rfl
      rw [hV1] at hp1
      have hx1 : Boxed V1 bx 41 (.func (.yield l) #[] #[]) := (hk1 bx (by have := hx.lt; omega)).trans hS.x
      have hbd : Below V1.heap.size V1 V1.drew := (Below.refl _ V1).drew
      obtain ⟨c10, c11, c12, c13, c14, c15, c1b, rom1, hv1⟩ := hI.lf hp1 hx1 hbd
      rw [hle] at hv1
      have hw1 := N8 (ws := ws) (a := a) (cap := cap) (by rw [hle]; exact hv1) (j * N) N hjN
      have hrow := N6 _ (by rw [List.length_take, List.length_drop]; have := Nat.mul_le_mul (show M ≤ 512 by omega) (show N ≤ 512 by omega); omega) _ _ rom1 hw1
      have hY1 := fun W' h => hY (d + 3) (1 + j) _ W' hL1 h
      gi_wp2
      first
        | gi_region_with first
            | (refine ⟨trivial, ?_⟩; gi_at_call 23; refine (callsIn_wide.2 hrow).mono ?_; rintro e W5 ⟨rfl, hb5⟩; have hb15 := hbd.trans hb5; have hm5 := hI.mono _ _ _ hp1 hb15; obtain ⟨c50, c51, c52, c53, c54, c55, c5b, rom5, hv5⟩ := hI.lf hp1 hx1 hb15; obtain ⟨fn', tmps', assign', body', hy', hR'⟩ := hY1 W5 hm5)
            | (refine hR'.mono ?_; rintro e W6 ⟨b, rfl, hJ6, hK6⟩)
        | fail
      all_goals
        have hk6 : ∀ r o, B ≤ r → r ≠ W3.heap.size + 2 + 1 → W'.heap[r]? = some o → KP o → W6.heap[r]? = some o := fun r o h1 h2 h3 h4 =>
          hK6.2 r o h1 ((hb15.block r (by rw [hs1]; exact dj h3)).trans ((hk1 r h2).trans h3)) h4
        have hs6 : Hid (W3.heap.size + 2 + 1 < W6.heap.size) := Lib.hid (Nat.lt_of_lt_of_le (by omega) (Nat.le_trans hb15.size hK6.1))
        have ho6 : W6.heap[W3.heap.size + 2 + 1]? = some (.loop (rec .busy none)) := hK6.2 _ _ (by omega) ((hb15.block _ (by omega)).trans ho1) (Fe _)
        have hxl := hx.lt
        have g1 := hk6 _ _ (by omega) (by omega) hS.d (wq _)
        have g2 := hk6 _ _ hbx (by omega) hS.x (oA (by decide))
        have g3 := hk6 _ _ (by omega) (by omega) hS.c (oA (by decide))
        have g4 := hk6 _ _ (by omega) (by omega) hS.n (oA (by decide))
        replace g1 := Lib.hid g1
        replace g2 := Lib.hid g2
        replace g3 := Lib.hid g3
        replace g4 := Lib.hid g4
        cases b
        · have hp6 := hI.put _ W6 (W3.heap.size + 2 + 1) (.loop (rec .done (some .ret))) _ hJ6 (by omega) ho6 rfl
          have hfin : SP W3.heap.size rec J (W6.putObj (W3.heap.size + 2 + 1) (.loop (rec .done (some .ret)))) := ⟨hp6, (World.putObj_heap_other (by omega)).trans g1.out, World.putObj_heap_same hs6.out⟩
          gi_wp2
          all_goals first
            | exact ⟨ho6, hfin⟩
            | exact hfin
        · have hp6 := hI.put _ W6 (W3.heap.size + 2 + 1) (.loop (rec .ready none)) _ hJ6 (by omega) ho6 rfl
          have hfin : Sn W3.heap.size bx l (some a) (M * N) cap N rec J (j + 1) (W6.putObj (W3.heap.size + 2 + 1) (.loop (rec .ready none))) := ⟨hp6, (World.putObj_heap_other (by omega)).trans g2.out,
            (World.putObj_heap_other (by omega)).trans g3.out, (World.putObj_heap_other (by omega)).trans g4.out, (World.putObj_heap_other (by omega)).trans g1.out, World.putObj_heap_same hs6.out⟩
          gi_wp2
          all_goals first
            | exact ⟨ho6, hfin⟩
            | exact hfin
    clear hy
    have hlow : Below W3.heap.size W3 ((W4.alloc (.deferred (some []))).alloc (.loop (rec .ready none))) := by
      rw [← hW4]
      refine Below.alloc (Below.alloc (Below.alloc (Below.alloc (Below.refl _ W3) ?_ _) ?_ _) ?_ _) ?_ _
      all_goals simp
      all_goals try omega
    obtain ⟨W0, hW0⟩ : ∃ W0, (W4.alloc (.deferred (some []))).alloc (.loop (rec .ready none)) = W0 := ⟨_, rfl⟩
    rw [hW0] at hlow
    have hat : ∀ r, r < 4 → W0.heap[W3.heap.size + r]? = #[Obj.cells #[.slice p (M * N) cap] 30, .cells #[.int .i64 N] 3, .deferred (some []), .loop (rec .ready none)][r]? := fun r hr => by
      have hh : W0.heap = (((W3.heap.push (.cells #[.slice p (M * N) cap] 30)).push (.cells #[.int .i64 N] 3)).push (.deferred (some []))).push (.loop (rec .ready none)) := by rw [← hW0, ← hW4]; rfl
      rw [hh]
      exact Ri W3.heap _ _ _ _ r
    have hJ0 := hI.mono _ _ _ h1 hlow
    have hS0 : Sn W3.heap.size bx l p (M * N) cap N rec J 0 W0 := ⟨hJ0, (hlow.block bx hx.lt).trans hx, hat 0 (by omega), hat 1 (by omega), hat 2 (by omega), hat 3 (by omega)⟩
    rw [hW0]
    refine (PS (d + 8) (W3.heap.size + 2 + 1) W3.heap.size (W3.heap.size + 1) p M N cap (by omega) (by have := Nat.mul_le_mul (show M ≤ 512 by omega) (show N ≤ 512 by omega); omega) hcap (fun hM => hp (Nat.mul_pos hM (by omega))) W0
      (CJ W3.heap.size bx l p (M * N) cap N rec J) (fun i W' h => ⟨h.c.trans hS0.c.symm, h.n.trans hS0.n.symm⟩) (CJ.mono hI.mono) (fun j a W' h1 h2 h3 => round j a W' h1 h2 h3) hS0.c hS0.n hS0).mono ?_
    rintro e W' ⟨hv', hS | hS⟩
    · refine ⟨hv', .inl ⟨hS.o, ?_⟩⟩
      have hpe := hI.put _ W' (W3.heap.size + 2 + 1) (.loop (rec .exhausted none)) _ hS.j (by omega) hS.o rfl
      have hxl := hx.lt
      have hde : (W'.putObj (W3.heap.size + 2 + 1) (.loop (rec .exhausted none))).heap[W3.heap.size + 2]? = some (.deferred (some [])) := (World.putObj_heap_other (by omega)).trans hS.d
      have hxe : Boxed (W'.putObj (W3.heap.size + 2 + 1) (.loop (rec .exhausted none))) bx 41 (.func (.yield l) #[] #[]) := (World.putObj_heap_other (by omega)).trans hS.x
      obtain ⟨W7, hW7⟩ : ∃ W7, W'.putObj (W3.heap.size + 2 + 1) (.loop (rec .exhausted none)) = W7 := ⟨_, rfl⟩
      rw [hW7] at hpe hde hxe ⊢
      gi_wp2
      exact Fg d l ab bx B k M N ws _ y t J hI hm hbx hY Q [{ target := .collected (W3.heap.size + 2), args := #[] }] W7
        (fun a W8 h2 h3 h4 => hQ a W8 (.inr ⟨W3.heap.size + 2, by omega, h2, h3.2 _ _ (by omega) hde (wq _)⟩) h4) (M + 1) hlen1
        (by rw [hlin, List.getElem?_cons_succ, List.getElem?_append_right (by simp)]; simp) (by rw [Nat.add_comm]; exact hpe) hxe _ _ _ _ _ _ _ _ _ _ _ _ _ _ _ _ _ _ _ _ _ _ _ _ _ _ _ _ _ _ _ _
    · refine ⟨hv', .inr ⟨_, hS.o, ?_⟩⟩
      have hpe := hI.put _ W' (W3.heap.size + 2 + 1) (.loop (rec .exhausted (some .ret))) _ hS.j (by omega) hS.o rfl
      have hde : (W'.putObj (W3.heap.size + 2 + 1) (.loop (rec .exhausted (some .ret)))).heap[W3.heap.size + 2]? = some (.deferred (some [])) := (World.putObj_heap_other (by omega)).trans hS.d
      obtain ⟨W7, hW7⟩ : ∃ W7, W'.putObj (W3.heap.size + 2 + 1) (.loop (rec .exhausted (some .ret))) = W7 := ⟨_, rfl⟩
      rw [hW7] at hpe hde ⊢
      gi_wp2
      exact (hQ _ W7 (.inr ⟨W3.heap.size + 2, by omega, rfl, hde⟩) (.inr hpe)).2
set_option maxHeartbeats 4000000 in
theorem PU (d l ab B : Nat) (k m n : Int) (ws : List Int) (vw : Value) (y t : Int) (J : Option Nat → World → Prop) (hI : N7 B ab k m n ws vw y t J)
    (hY : ∀ d' j x W', (ei k m n ws y t)[j]? = some x → J (some j) W' → YieldAt Fence.wide (d' + 4) prog l #[.string x] W' (fun e W'' => ∃ b : Bool, e = .returned (.bool b) ∧ J (bif b then some (j + 1) else none) W'' ∧ Bg B W' W''))
    (W : World) (hB : B = W.heap.size) (h0 : J (some 0) W) :
    CallsIn Fence.wide (d + 10) prog 52 #[.func (.yield l) #[] #[], .pointer (some ⟨ab, 0, none⟩)] W (fun e W' => (∃ v, e = .returned v) ∧ (J (some (ei k m n ws y t).length) W' ∨ J none W')) := by
  refine callsIn_of_wp_marks Tryz.func52 rfl trivial ?_ rfl
  simp only [Tryz.ntmps52, List.size_toArray, List.length_cons, List.length_nil, Nat.reduceAdd, Nat.reduceSub, Array.replicate_succ, Array.replicate_zero, List.push_toArray, List.append_toArray, List.nil_append, List.cons_append]
  obtain ⟨W0, hW0⟩ : ∃ W0, W.alloc (.cells #[.func (.yield l) #[] #[]] 41) = W0 := ⟨_, rfl⟩
  have hs0 : W0.heap.size = W.heap.size + 1 := by rw [← hW0]; simp
  have hb0 : Below W.heap.size W W0 := by rw [← hW0]; exact (Below.refl _ _).alloc (Nat.le_refl _) _
  have hx0 : Boxed W0 W.heap.size 41 (.func (.yield l) #[] #[]) := by rw [← hW0]; exact Boxed.new _ _ _
  have hJ0 := hI.mono _ _ _ h0 hb0
  obtain ⟨c0, c1, c2, c3, c4, c5, cb, rom, hv⟩ := hI.lf hJ0 hx0 (Below.refl _ W0).drew
  have ag := zO
  have sz := vo
  have hmay := Ie k m n ws vw y t _ rom hv
  cases hm : nu k m n ws.length y t with
  | false =>
    have hlin : ei k m n ws y t = [] := by simp [ei, hm]
    rw [hlin] at hY ⊢
    rw [hm] at hmay
    gi_wp2
    first
      | gi_region_with first
          | (refine ⟨trivial, ?_⟩; gi_at_call 17; refine (callsIn_wide.2 hmay).mono ?_; rintro e W1 ⟨rfl, hb1⟩)
          | (refine (⟨trivial, ?_⟩ : Fence.wide.fn 53 ∧ _))
          | (refine (⟨by simp, ?_⟩ : (∀ (f : FuncId), none = some f → Fence.wide.fn f) ∧ _))
      | fail
    all_goals gi_wp2
    all_goals exact ⟨_, results_none rfl _ _ _, ⟨_, rfl⟩, .inl (hI.mono _ _ _ hJ0 ((Below.refl _ W0).drew.trans hb1))⟩
  | true =>
    rw [hm] at hmay
    obtain ⟨hm0, hm5, hn0, hn5, hlen, hy0, hy3⟩ := oz hm
    have km : fw .i64 m = true := aX.2 (by omega)
    have kn : fw .i64 n = true := aX.2 (by omega)
    have hl1 : (ei k m n ws y t)[0]? = some (mZ m n) := by rw [ei, hm]; rfl
    have hY1 := fun W' h => hY (d + 5) 0 _ W' hl1 h
    change Code.wpIn _ _ _ (.seq _ (.seq _ Ff)) _ _ _
    gi_wp2
    first
      | gi_region_with first
          | (refine ⟨trivial, ?_⟩; gi_at_call 17; refine (callsIn_wide.2 hmay).mono ?_; rintro e W1 ⟨rfl, hb1⟩; have hb01 := (Below.refl _ W0).drew.trans hb1; obtain ⟨c10, c11, c12, c13, c14, c15, c1b, rom1, hv1⟩ := hI.lf hJ0 hx0 hb01; have hhead := L8 m n km kn _ rom1)
          | (refine ⟨trivial, ?_⟩; gi_at_call 53; refine (callsIn_wide.2 hhead).mono ?_; rintro e W2 ⟨rfl, hb2⟩; have hb02 := hb01.trans (hb2.mono (show W0.heap.size ≤ W1.heap.size from hb01.size)); have hJ2 := hI.mono _ _ _ hJ0 hb02; obtain ⟨c20, c21, c22, c23, c24, c25, c2b, rom2, hv2⟩ := hI.lf hJ0 hx0 hb02; obtain ⟨fn', tmps', assign', body', hy', hR'⟩ := hY1 W2 hJ2)
          | (refine hR'.mono ?_; rintro e W3 ⟨b, rfl, hJ3, hK3⟩)
      | fail
    all_goals
      cases b
      · gi_wp2
        exact ⟨_, results_none rfl _ _ _, ⟨_, rfl⟩, .inr hJ3⟩
      · gi_wp2
        have hx3 : Boxed W3 W.heap.size 41 (.func (.yield l) #[] #[]) := hK3.2 _ _ (by omega) ((hb02.block _ hx0.lt).trans hx0) (oA (by decide))
        refine L9 d l ab W.heap.size B k m n ws vw y t J hI hm (by omega) hY _ W3 (fun a W' h1 h2 => ?_) hJ3 hx3 _ _ _ _ _ _ _ _ _ _ _ _ _ _ _ _ _ _ _ _ _ _ _ _ _ _ _ _ _ _ _ _
        have key : LeavesInM Fence.wide (d + 10) prog Tryz.f52 a.tmps (fun e W' => (∃ v, e = .returned v) ∧ (J (some (ei k m n ws y t).length) W' ∨ J none W')) a.defers .returning W' := by
          rcases h1 with h1 | ⟨D, h3, h1, h4⟩
          · rw [h1]
            exact ⟨_, results_none rfl _ _ _, ⟨_, rfl⟩, h2⟩
          · rw [h1]
            refine ⟨by simp, .inl ⟨_, _, rfl, run_takeDeferred h4, ?_⟩⟩
            refine ⟨_, results_none rfl _ _ _, ⟨_, rfl⟩, ?_⟩
            rcases h2 with h2 | h2
            · exact .inl (hI.put _ _ _ _ _ h2 h3 h4 rfl)
            · exact .inr (hI.put _ _ _ _ _ h2 h3 h4 rfl)
        exact ⟨key, key⟩
structure ch where
  k:Int
  m:Int
  n:Int
  ws:List Int
  y:Int
  t:Int
def ch.may(a:ch) :Bool:=nu a.k a.m a.n a.ws.length a.y a.t
def ch.lines(a:ch) :List ByteArray:=ei a.k a.m a.n a.ws a.y a.t
def OD(s:ByteArray) :List UInt8:=s.data.toList++[10]
def gW(l:List ByteArray) :List UInt8:=(l.map OD).flatten
def gG(l:List ch) :List UInt8:=(l.map fun a=>gW a.lines).flatten
def xo(l:List ch) :ByteArray:=if l.any (fun a=>!a.may)=true then ByteArray.empty else if 64<l.length then ByteArray.empty else if 8388608<(gG l).length then ByteArray.empty else ⟨(gG l).toArray⟩
def xp(l:List ch) :Int:=if l.any (fun a=>!a.may)=true then 2 else if 64<l.length then 3 else if 8388608<(gG l).length then 3 else 0
structure Nf (W:World) (bl o:Nat) (a:ch) (vw:Value):Prop where
  c0:W.cell? ⟨bl,o,none⟩=some (.int .i64 a.k)
  c1:W.cell? ⟨bl,o+1,none⟩=some (.int .i64 a.m)
  c2:W.cell? ⟨bl,o+2,none⟩=some (.int .i64 a.n)
  c3:W.cell? ⟨bl,o+3,none⟩=some vw
  c4:W.cell? ⟨bl,o+4,none⟩=some (.int .i64 a.y)
  c5:W.cell? ⟨bl,o+5,none⟩=some (.int .u64 a.t)
  v:VR ae.none_ W (jD a.ws) vw
  lt:bl<W.heap.size
abbrev ch.V(a:ch)(vw:Value) :Array Value:=L6 a.k a.m a.n vw a.y a.t
theorem Nf.below{W W':World}{bl o:Nat}{a:ch}{vw:Value}(h:Nf W bl o a vw)(hb:Below W.heap.size W W') :Nf W' bl o a vw:=by
  have e:∀ j,W'.cell? ⟨bl,j,none⟩=W.cell? ⟨bl,j,none⟩:=fun j=>hb.cell (p:=⟨bl,j,none⟩) h.lt
  exact ⟨(e _).trans h.c0,(e _).trans h.c1,(e _).trans h.c2,(e _).trans h.c3,(e _).trans h.c4,(e _).trans h.c5,h.v.mono (kQ.refl _ _) (sg hb),Nat.lt_of_lt_of_le h.lt hb.size⟩
def yi(W:World)(bl o:Nat)(l:List ch) :Prop:=∀ i a,l[i]? = some a→∃ vw,Nf W bl (o+i*6) a vw
theorem yi.below{W W':World}{bl o:Nat}{l:List ch}(h:yi W bl o l)(hb:Below W.heap.size W W') :yi W' bl o l:=fun i a hi=>(h i a hi).imp fun _ q=>q.below hb
set_option maxHeartbeats 2000000 in
theorem Jm (a : ch) (vw : Value) (w : World) (hR : fY w) (hv : VR ae.none_ w (jD a.ws) vw) : Calls prog 26 #[.agg (a.V vw)] w fun e w' => e = .returned (.bool (!a.may)) ∧ Below w.heap.size w w' := by
  have hb : Below w.heap.size w (w.alloc (.cells (a.V vw) 33)) := (Below.refl _ w).alloc (Nat.le_refl _) _
  have hmay := Ie a.k a.m a.n a.ws vw a.y a.t (w.alloc (.cells (a.V vw) 33)) (hR.below hb (Nat.le_refl _)) (hv.mono (kQ.refl _ _) (sg hb))
  have ag := zO
  have sz := vo
  go_enter Tryz.func26, Tryz.ntmps26
  go_wp2_with (go_at_call 17; refine hmay.mono ?_; rintro e w' ⟨rfl, hb1⟩)
  go_ret
  exact ⟨rfl, hb.trans (hb1.mono (by simp))⟩
theorem vp{F:Fence}{n:Nat}{P:Program}{fn:Func}{tmps:Array Value}{R:Ending→World→Prop}{v:Value}(n0:Nat)(hr:∀ W,(results fn tmps).run P W=.ok v W)(Pw:World→Prop) 
    (hP:∀ W D,n0≤D→Pw W→Pw (W.putObj D (.deferred none))) (hR:∀ W,Pw W→R (.returned v) W):∀ (Ds:List Nat) (W:World),Ds.Nodup→(∀ D∈Ds,n0≤D∧W.heap[D]? = some (.deferred (some [])))→Pw W →
      LeavesInM F n P fn tmps R (Ds.map fun D=>({ target:=.collected D,args:=#[] }:Deferred)) .returning W
  | [],W,_,_,h=>⟨_,hr W,hR W h⟩
  | D::Ds,W,hn,hD,h=>by
    have h1:=hD D (List.mem_cons_self ..)
    obtain ⟨hn1,hn2⟩:=List.nodup_cons.1 hn
    refine ⟨by simp,.inl ⟨_,_,rfl,run_takeDeferred h1.2,?_⟩⟩
    refine vp n0 hr Pw hP hR Ds _ hn2 (fun D' h'=>?_) (hP W D h1.1 h)
    have h2:=hD D' (List.mem_cons_of_mem _ h')
    exact ⟨h2.1,(World.putObj_heap_other (fun e=>hn1 (by rw [←e];exact h'))).trans h2.2⟩
set_option maxHeartbeats 2000000 in
theorem N9 (bl o cap : Nat) (l : List ch) (hl : l.length ≤ 1000000000) (w : World) (hR : fY w) (hA : yi w bl o l) (p : Option Addr) (hp : 1 ≤ l.length → p = some ⟨bl, o, none⟩) :
    Calls prog 51 #[.slice p l.length cap, .func (.func 26) #[] #[]] w fun e w' => (∃ r : Int, e = .returned (.int .i64 r) ∧ (0 ≤ r ↔ l.any (fun a => !a.may) = true)) ∧ Below w.heap.size w w' := by
  have ag := zO
  have sz := vo
  go_enter Tryz.func51, Tryz.ntmps51
  go_wp2
  go_loopw [8] (fun t W => ∃ i : Nat, t = .int .i64 i ∧ i ≤ l.length ∧ (l.take i).any (fun a => !a.may) = false ∧ Below w.heap.size w W) (fun t _ => l.length - (intOf t).toNat)
  case atStart => exact ⟨0, rfl, Nat.zero_le _, rfl, Below.refl _ _⟩
  case round =>
    obtain ⟨i, rfl, hi, hany, hb⟩ := hrel
    by_cases hlt : i < l.length
    · obtain ⟨a, ha⟩ : ∃ a, l[i]? = some a := ⟨_, List.getElem?_eq_getElem hlt⟩
      have hA' := hA.below hb
      obtain ⟨vw, hk⟩ := hA' i a ha
      obtain ⟨c0, c1, c2, c3, c4, c5, hv, hbl⟩ := hk
      have hcall := Jm a vw wr (hR.below hb (Nat.le_refl _)) hv
      have hpp := hp (by omega)
      subst hpp
      go_wp2_with (go_at_call 26; refine hcall.mono ?_; rintro e w' ⟨rfl, hb1⟩)
      · go_ret
        have h1 : (!a.may) = true := by assumption
        exact ⟨⟨i, rfl, fun _ => List.any_eq_true.2 ⟨a, List.mem_of_getElem? ha, h1⟩, fun _ => Int.natCast_nonneg _⟩, hb.trans (hb1.mono hb.size)⟩
      · have h1 : (!a.may) = false := by assumption
        refine ⟨⟨i + 1, by go_num, by omega, ?_, hb.trans (hb1.mono hb.size)⟩, by simp [intOf]; omega⟩
        rw [List.take_add_one, ha, List.any_append, hany]
        simpa using h1
    · have he : i = l.length := by omega
      rw [he, List.take_length] at hany
      go_wp2
      go_ret
      exact ⟨⟨-1, rfl, fun h => absurd h (by decide), fun h => by rw [hany] at h; cases h⟩, hb⟩
theorem Fh(bl o cap:Nat)(l:List ch)(hl:l.length≤1000000000)(w:World)(hR:fY w)(hA:yi w bl o l)(p:Option Addr)(hp:1≤l.length→p=some ⟨bl,o,none⟩) :
    Calls prog 25 #[.slice p l.length cap,.func (.func 26) #[] #[]] w fun e w'=>e=.returned (.bool (l.any fun a=>!a.may))∧Below w.heap.size w w':=by
  have h:=N9 bl o cap l hl w hR hA p hp
  go_enter Tryz.func25,Tryz.ntmps25
  go_wp2_with (go_at_call 51;refine h.mono ?_;rintro e w' ⟨⟨r,rfl,hr⟩,hb⟩;replace hr:=Lib.hid hr)
  go_ret
  replace hr:=hr.out
  refine ⟨?_,hb⟩
  show Ending.returned (Value.bool (decide (r≥0)))=_
  cases hq:l.any (fun a=>!a.may) with
  | true=>rw [decide_eq_true (show r≥0 from hr.2 hq)]
  | false =>
    have : ¬ r≥0:=fun c=>by rw [hr.1 c] at hq;cases hq
    rw [decide_eq_false this]
theorem Oa(ws:List Int) :(zN ws).size≤17*ws.length:=by
  have:=Bf (ws.map bF)
  rw [zN,Fc]
  have e:((ws.map bF).map fun s=>s.size+1).sum=17*ws.length:=by
    clear this
    induction ws with
    | nil=>rfl
    | cons x l ih=>simp only [List.map_cons,List.sum_cons,List.length_cons,qn] at ih ⊢;omega
  omega
theorem Fi(m n:Int) :(mZ m n).size≤50:=by
  have h1:=lB m
  have h2:=lB n
  have e1:(ByteArray.mk #[109,97,116,114,105,120,32]).size=7:=rfl
  have e2:yh.size=1:=rfl
  unfold mZ
  simp only [ByteArray.size_append,e1,e2]
  omega
theorem Fj(k y t:Int) :(jA k y t).size≤46:=by
  have hw:=KN k
  have h1:=lB y
  have h2:=qn t
  have e3:yh.size=1:=rfl
  unfold jA
  cases decide (((oS k).2.2.1:Int)>0)<;>cases (oS k).2.2.2.1<;>simp only [cond_true,cond_false,ByteArray.size_append,e3]<;>omega
theorem Fk{a:ch}(h:a.may=true) :a.lines.length≤514∧∀ x∈a.lines,x.size≤9000:=by
  obtain ⟨h1,h2,h3,h4,h5,_⟩:=oz h
  unfold ch.lines ei
  rw [show nu a.k a.m a.n a.ws.length a.y a.t=true from h]
  simp only [cond_true]
  cases hd:decide (a.n>0) with
  | false =>
    refine ⟨by simp,fun x hx=>?_⟩
    simp only [cond_false,List.nil_append,List.mem_cons,List.not_mem_nil,or_false] at hx
    rcases hx with rfl | rfl
    · have:=Fi a.m a.n;omega
    · have:=Fj a.k a.y a.t;omega
  | true =>
    refine ⟨by simp;omega,fun x hx=>?_⟩
    simp only [cond_true,List.mem_cons,List.mem_append,List.mem_map,List.not_mem_nil,or_false] at hx
    rcases hx with rfl | ⟨i,_,rfl⟩ | rfl
    · have:=Fi a.m a.n;omega
    · have h9:=Oa ((a.ws.drop (i*a.n.toNat)).take a.n.toNat)
      have:=List.length_take_le a.n.toNat (a.ws.drop (i*a.n.toNat))
      omega
    · have:=Fj a.k a.y a.t;omega
theorem KQ{L:List ByteArray}(h:∀ x∈L,x.size≤9000) :(gW L).length≤L.length*9001:=by
  induction L with
  | nil=>simp [gW]
  | cons x L ih =>
    have h1:=h x (List.mem_cons_self ..)
    have h2:=ih fun y hy=>h y (List.mem_cons_of_mem _ hy)
    have h3:(OD x).length=x.size+1:=by simp [OD]
    unfold gW at h2 ⊢
    simp only [List.map_cons,List.flatten_cons,List.length_append,List.length_cons,h3]
    omega
theorem Ob{l:List ch}(hm:∀ a∈l,a.may=true) :(gG l).length≤l.length*5000000:=by
  induction l with
  | nil=>simp [gG]
  | cons a l ih =>
    have h1:=Fk (hm a (List.mem_cons_self ..))
    have h2:=ih fun y hy=>hm y (List.mem_cons_of_mem _ hy)
    have h3:=KQ h1.2
    unfold gG at h2 ⊢
    simp only [List.map_cons,List.flatten_cons,List.length_append,List.length_cons]
    omega
theorem Ig(L:List ByteArray)(x:ByteArray) :gW (L++[x])=gW L++OD x:=by simp [gW]
theorem Ma(L:List ch)(a:ch) :gG (L++[a])=gG L++gW a.lines:=by simp [gG]
theorem Bh(x y:List UInt8) :Lib.byteCells (x++y)=Lib.byteCells x++Lib.byteCells y:=by simp [Lib.byteCells]
theorem KR(a:ch)(vw:Value)(w:World) :Calls prog 27 #[.agg (a.V vw)] w fun e w'=>e=.returned (.func (.func 52) #[] #[.pointer (some ⟨w.heap.size,0,none⟩)])∧w'=w.alloc (.cells (a.V vw) 33):=by
  have hmf:∀ (fn:Fn) (first cap:Array Value) (w:World),(Instr.makeFunc fn first cap).run prog w=.ok (.func fn first cap) w:=fun _ _ _ _=>rfl
  go_enter Tryz.func27,Tryz.ntmps27
  go_wp2
  go_ret
  exact ⟨rfl,rfl⟩
theorem tA{T e:TypeId}{B b:Nat}{bs:List Value}{W W':World}(h:Lib.IsBuilderF T e B b bs W)(hk:∀ (k:Nat) (c:Array Value) (t:TypeId) (fz:Nat×Nat),W.heap[k]? = some (Obj.cells c t fz)→W'.heap[k]? = some (Obj.cells c t fz)) :Lib.IsBuilderF T e B b bs W':=by
  have key:∀ p,Lib.BuilderAtF T e B b p bs W→Lib.BuilderAtF T e B b p bs W':=by
    rintro p ⟨h1,v,h2,h3,h4⟩
    refine ⟨h1,v,hk _ _ _ _ h2,⟨h3.1,?_⟩,h4⟩
    rcases h3.2 with q | ⟨g,cap,cur,fz,q1,q2,q3,q4⟩
    · exact .inl q
    · exact .inr ⟨g,cap,cur,fz,q1,q2,hk _ _ _ _ q3,q4⟩
  exact h.imp (key _) (key _)
theorem yj{T e:TypeId}{B b:Nat}{bs:List Value}{W:World}(h:Lib.IsBuilderF T e B b bs W) :b<W.heap.size:=by
  rcases h with ⟨_,v,h,_⟩ | ⟨_,v,h,_⟩
  · exact dj h
  · exact dj h
theorem KS(W:World) :Lib.IsBuilderF 58 5 W.heap.size W.heap.size (Lib.byteCells []) (W.alloc (.cells #[.pointer none,.slice none 0 0] 58)):=by
  refine .inl ⟨Nat.le_refl _,.slice none 0 0,World.alloc_heap_new W _,⟨rfl,.inl ⟨rfl,rfl⟩⟩,by simp [Value.ownBlock]⟩
abbrev PV(D:Nat) :Deferred:={ target:=.collected D,args:=#[] }
theorem zP(B b:Nat)(bs:List Value)(s:ByteArray)(w:World)(h:Lib.IsBuilderF 58 5 B b bs w)(hlen:bs.length+s.size≤140737488355328)(hBw:B≤w.heap.size) :
    Calls Tryz.prog 28 #[.pointer (some ⟨b,0,none⟩),.string s] w fun e w'=>e=.returned (.tuple #[.int .i64 s.size,.nilIface])∧(Lib.BuilderAtF 58 5 B b (.pointer (some ⟨b,0,none⟩)) (bs++Lib.strCells s) w'∧Below B w w'∧Lib.OthersKept 5 (some b) w w') :=
  Any.Builder_WriteString_k { tm with } fy B b bs s w h hlen hBw
structure TJ (w:World) (bb ab L:Nat) (cs:Array Value) (Ds:List Nat) (obj:Obj) (pre:List UInt8) (W:World):Prop where
  b:Lib.IsBuilderF 58 5 bb bb (Lib.byteCells pre) W
  a:W.heap[ab]? = some (.cells cs 33 (0,0))
  low:Below w.heap.size w W
  ds:∀ D∈Ds,W.heap[D]? = some (.deferred (some []))
  o:W.heap[L]? = some obj
def Td(w:World)(bb ab L:Nat)(cs:Array Value)(Ds:List Nat)(obj:Obj)(pre:List UInt8)(lines:List ByteArray) :Option Nat→World→Prop
  | some j,W=>TJ w bb ab L cs Ds obj (pre++gW (lines.take j)) W
  | none,_=>False
theorem TJ.below{w:World}{bb ab L:Nat}{cs:Array Value}{Ds:List Nat}{obj:Obj}{pre:List UInt8}{W W':World}(h:TJ w bb ab L cs Ds obj pre W)(hb:Below W.heap.size W W') :TJ w bb ab L cs Ds obj pre W' :=
  ⟨tA h.b fun k c t fz q=>(hb.block k (dj q)).trans q,(hb.block _ (dj h.a)).trans h.a,h.low.trans (hb.mono h.low.size),fun D hD=>(hb.block _ (dj (h.ds D hD))).trans (h.ds D hD),(hb.block _ (dj h.o)).trans h.o⟩
theorem TJ.put{w:World}{bb ab L:Nat}{cs:Array Value}{Ds:List Nat}{obj obj':Obj}{pre:List UInt8}{W:World}(h:TJ w bb ab L cs Ds obj pre W)(r:Nat)(ob o':Obj)(hw:w.heap.size≤r)(ho:W.heap[r]? = some o')(hc:o'.isCells=false)(hD:∀ D∈Ds,r≠D) 
    (hL:(r≠L∧obj'=obj)∨(r=L∧obj'=ob)):TJ w bb ab L cs Ds obj' pre (W.putObj r ob):=by
  have nc:∀ k c t fz,W.heap[k]? = some (.cells c t fz)→k≠r:=fun k c t fz q e=>by
    rw [e,ho] at q;cases q;cases hc
  refine ⟨tA h.b fun k c t fz q=>(World.putObj_heap_other (nc k c t fz q)).trans q,(World.putObj_heap_other (nc _ _ _ _ h.a)).trans h.a,jd h.low hw _,fun D q=>(World.putObj_heap_other (fun e=>hD D q e.symm)).trans (h.ds D q),?_⟩
  rcases hL with ⟨h1,rfl⟩ | ⟨rfl,rfl⟩
  · exact (World.putObj_heap_other (fun e=>h1 e.symm)).trans h.o
  · exact World.putObj_heap_same (dj ho)
def So(w:World)(bb:Nat)(p:Option Addr)(cap:Nat)(l:List ch)(a:Act)(W:World) :Prop :=
  ∃ (i:Nat) (Ds:List Nat) (u6 u7 u12 u16 u17 u18 u19 u20 u21 u22 u23 u24 u25:Value),a = { tmps:=#[.slice p l.length cap,undef,.string ⟨#[]⟩,.int .i64 0,.pointer (some ⟨bb,0,none⟩),undef,u6,u7,.slice p l.length cap,.bool false,.slice p l.length cap,.int .i64 l.length,u12,.slice p l.length cap,.int .i64 l.length,.int .i64 i,u16,u17,u18,u19,u20,u21,u22,u23,u24,u25,undef,undef,undef],defers:=Ds.map PV }∧i≤l.length∧Lib.IsBuilderF 58 5 bb bb (Lib.byteCells (gG (l.take i))) W∧Below w.heap.size w W∧Ds.Nodup ∧
    ∀ D∈Ds,w.heap.size≤D∧W.heap[D]? = some (.deferred (some []))
set_option maxHeartbeats 4000000 in
theorem KT (bl o cap : Nat) (l : List ch) (hl : l.length ≤ 1000000000) (w : World) (hR : fY w) (hA : yi w bl o l) (p : Option Addr) (hp : 1 ≤ l.length → p = some ⟨bl, o, none⟩) :
    Calls prog gu #[.slice p l.length cap] w fun e w' => e = .returned (.tuple #[.string (xo l), .int .i64 (xp l)]) ∧ Below w.heap.size w w' := by
  have hany := Fh bl o cap l hl w hR hA p hp
  refine (callsIn_wide (n := 20)).1 (callsIn_of_wp_marks Tryz.func8 rfl trivial ?_)
  simp only [Tryz.ntmps8, List.size_toArray, List.length_cons, List.length_nil, Nat.reduceAdd, Nat.reduceSub, Array.replicate_succ, Array.replicate_zero, List.push_toArray, List.append_toArray, List.nil_append, List.cons_append]
  cases ha : l.any (fun a => !a.may) with
  | true =>
    have e1 : xo l = ByteArray.empty ∧ xp l = 2 := ⟨if_pos ha, if_pos ha⟩
    rw [ha] at hany
    rw [e1.1, e1.2]
    gi_wp2_with (refine ⟨trivial, ?_⟩; gi_at_call 25; refine (callsIn_wide.2 hany).mono ?_; rintro e w' ⟨rfl, hb⟩)
    exact ⟨_, results_tmp2 rfl _ _ _, rfl, hb⟩
  | false =>
    have hf : ¬ l.any (fun a => !a.may) = true := by rw [ha]; decide
    rw [ha] at hany
    by_cases h64 : 64 < l.length
    · have e1 : xo l = ByteArray.empty ∧ xp l = 3 := by unfold xo xp; rw [if_neg hf, if_neg hf, if_pos h64, if_pos h64]; exact ⟨rfl, rfl⟩
      rw [e1.1, e1.2]
      gi_wp2_with (refine ⟨trivial, ?_⟩; gi_at_call 25; refine (callsIn_wide.2 hany).mono ?_; rintro e w' ⟨rfl, hb⟩)
      exact ⟨_, results_tmp2 rfl _ _ _, rfl, hb⟩
    · have e1 : xo l = (if 8388608 < (gG l).length then ByteArray.empty else ⟨(gG l).toArray⟩) ∧ xp l = (if 8388608 < (gG l).length then 3 else 0) := by unfold xo xp; rw [if_neg hf, if_neg hf, if_neg h64, if_neg h64]; exact ⟨rfl, rfl⟩
      rw [e1.1, e1.2]
      clear hf e1
      gi_wp2_with (refine ⟨trivial, ?_⟩; gi_at_call 25; refine (callsIn_wide.2 hany).mono ?_; rintro e w1 ⟨rfl, hb⟩)
      have hbn := KS w1
      have hbw : Below w.heap.size w (w1.alloc (.cells #[.pointer none, .slice none 0 0] 58)) := hb.alloc hb.size _
      have hwb : w.heap.size ≤ w1.heap.size := hb.size
      obtain ⟨W1, hW1⟩ : ∃ W1, w1.alloc (.cells #[.pointer none, .slice none 0 0] 58) = W1 := ⟨_, rfl⟩
      obtain ⟨bb, hbb⟩ : ∃ bb, w1.heap.size = bb := ⟨_, rfl⟩
      have hs1 : W1.heap.size = bb + 1 := by rw [← hW1, ← hbb]; simp
      rw [hW1, hbb] at hbn ⊢
      rw [hW1] at hbw
      rw [hbb] at hwb
      clear hW1 hbb hb hany
      refine wpIn_loop (So w bb p cap l) (fun a _ => l.length - (intOf (a.tmps.getD 15 undef)).toNat) ⟨0, [], _, _, _, _, _, _, _, _, _, _, _, _, _, rfl, Nat.zero_le _, hbn, hbw, List.nodup_nil, by simp⟩ ?_
      rintro a W ⟨i, Ds, u6, u7, u12, u16, u17, u18, u19, u20, u21, u22, u23, u24, u25, rfl, hi, hbld, hlow, ra, hds⟩
      by_cases hlt : i < l.length
      · obtain ⟨a, hai⟩ : ∃ a, l[i]? = some a := ⟨_, List.getElem?_eq_getElem hlt⟩
        obtain ⟨vw, hk0⟩ := hA i a hai
        have hk := hk0.below (hlow.mono (Nat.le_refl _))
        have hv0 := hk0.v
        obtain ⟨c0, c1, c2, c3, c4, c5, hv, hbl⟩ := hk
        have hpp := hp (by omega)
        subst hpp
        obtain ⟨pw, cw, rfl, hcw, hpw⟩ := If hv
        have ag := zO
        have sz := vo
        gi_wp2_with (refine ⟨trivial, ?_⟩; gi_at_call 27; refine (callsIn_wide.2 (KR a (.slice pw a.ws.length cw) _)).mono ?_; rintro e w' ⟨rfl, rfl⟩)
        have hin : a ∈ l := List.mem_of_getElem? hai
        have hmay : ∀ b ∈ l, b.may = true := fun b hb => by
          have := List.any_eq_false.1 ha b hb
          simpa using this
        have hsz := Fk (hmay a hin)
        have hpre : (gG (l.take i)).length ≤ 64 * 5000000 := by
          have := Ob (l := l.take i) fun b hb => hmay b (List.mem_of_mem_take hb)
          have h2 : (l.take i).length ≤ 64 := by rw [List.length_take]; omega
          exact Nat.le_trans this (Nat.mul_le_mul_right _ h2)
        obtain ⟨W2, hW2⟩ : ∃ W2, (W.alloc (.cells (a.V (.slice pw a.ws.length cw)) 33)).alloc (.cells (a.V (.slice pw a.ws.length cw)) 33) = W2 := ⟨_, rfl⟩
        rw [hW2]
        have hs2 : W2.heap.size = W.heap.size + 2 := by rw [← hW2]; simp
        refine yg (gf := 52) (m := 19) rfl (enters_of Tryz.func52 (by kernel_rfl) rfl) fun fn rec hrec hy => ?_
        rw [hs2] at hy ⊢
        have hWb : bb < W.heap.size := yj hbld
        obtain ⟨W0, hW0⟩ : ∃ W0, (W2.alloc (.deferred (some []))).alloc (.loop (rec .ready none)) = W0 := ⟨_, rfl⟩
        have hs0 : W0.heap.size = W.heap.size + 4 := by rw [← hW0]; simp [hs2]
        have hlow0 : Below W.heap.size W W0 := by
          rw [← hW0, ← hW2]
          refine Below.alloc (Below.alloc (Below.alloc (Below.alloc (Below.refl _ W) ?_ _) ?_ _) ?_ _) ?_ _
          all_goals simp
          all_goals try omega
        have hat : ∀ r, W0.heap[W.heap.size + r]? = #[Obj.cells (a.V (.slice pw a.ws.length cw)) 33, .cells (a.V (.slice pw a.ws.length cw)) 33, .deferred (some []), .loop (rec .ready none)][r]? := fun r => by
          rw [← hW0, ← hW2]
          exact Ri W.heap _ _ _ _ r
        obtain ⟨T, hT⟩ : ∃ T, Td w bb (W.heap.size + 1) (W.heap.size + 2 + 1) (a.V (.slice pw a.ws.length cw)) ((W.heap.size + 2) :: Ds) (.loop (rec .ready none)) (gG (l.take i)) a.lines = T := ⟨_, rfl⟩
        have hI : N7 W0.heap.size (W.heap.size + 1) a.k a.m a.n a.ws (.slice pw a.ws.length cw) a.y a.t T := by
          rw [← hT]
          refine ⟨fun j V h => ⟨h.a, hR.below h.low (Nat.le_refl _), hv0.mono (kQ.refl _ _) (sg h.low)⟩, fun j V V' h hb => ?_, fun j V r ob o' h h1 h2 h3 => ?_⟩
          · cases j with
            | none => exact h
            | some j => exact TJ.below h hb
          · cases j with
            | none => exact h
            | some j =>
              refine TJ.put h r ob o' (by have := hlow.size; omega) h2 h3 (fun D hD => ?_) (.inl ⟨by omega, rfl⟩)
              rcases List.mem_cons.1 hD with rfl | hD
              · omega
              · have := dj (hds D hD).2
                omega
        have h0 : T (some 0) W0 := by
          rw [← hT]
          refine ⟨?_, hat 1, hlow.trans (hlow0.mono hlow.size), fun D hD => ?_, hat 3⟩
          · rw [List.take_zero, show gG (l.take i) ++ gW [] = gG (l.take i) by simp [gW]]
            exact tA hbld fun k c t fz q => (hlow0.block k (dj q)).trans q
          · rcases List.mem_cons.1 hD with rfl | hD
            · exact hat 2
            · exact (hlow0.block _ (dj (hds D hD).2)).trans (hds D hD).2
        have hY : ∀ d' j x W', a.lines[j]? = some x → T (some j) W' → YieldAt Fence.wide (d' + 4) prog (W.heap.size + 2 + 1) #[.string x] W' (fun e W'' => ∃ b : Bool, e = .returned (.bool b) ∧ T (bif b then some (j + 1) else none) W'' ∧ Bg W0.heap.size W' W'') := by
          intro d' j x W' hx hS
          rw [← hT] at hS ⊢
          refine hy (d' + 4) _ W' _ hS.o rfl ?_
          clear hy
          have hxm := hsz.2 x (List.mem_of_getElem? hx)
          have hpl : (gG (l.take i) ++ gW (a.lines.take j)).length ≤ 140737488355328 - 20000 := by
            have h1 := KQ (L := a.lines.take j) fun y hy => hsz.2 y (List.mem_of_mem_take hy)
            have h2 := List.length_take_le j a.lines
            have h3 : (a.lines.take j).length ≤ 514 := by rw [List.length_take]; omega
            have h4 := Nat.mul_le_mul_right 9001 h3
            rw [List.length_append]
            omega
          gi_wp2
          refine ⟨hS.o, ?_⟩
          have hSb := TJ.put (obj' := .loop (rec .busy none)) hS (W.heap.size + 2 + 1) (.loop (rec .busy none)) _ (by have := hlow.size; omega) hS.o rfl (fun D hD => by
            rcases List.mem_cons.1 hD with rfl | hD
            · omega
            · have := dj (hds D hD).2
              omega) (.inr ⟨rfl, rfl⟩)
          have hlt := dj hS.o
          obtain ⟨V1, hV1⟩ : ∃ V1, W'.putObj (W.heap.size + 2 + 1) (.loop (rec .busy none)) = V1 := ⟨_, rfl⟩
          have hs1 : V1.heap.size = W'.heap.size := by rw [← hV1]; simp
          have hk1 : ∀ r, r ≠ W.heap.size + 2 + 1 → V1.heap[r]? = W'.heap[r]? := fun r hr => by rw [← hV1]; exact World.putObj_heap_other hr
          rw [hV1] at hSb ⊢
          have hWS := zP bb bb (Lib.byteCells (gG (l.take i) ++ gW (a.lines.take j))) (x ++ ⟨#[10]⟩) V1 hSb.b
            (by rw [Lib.byteCells_length, ByteArray.size_append]; have : (ByteArray.mk #[10]).size = 1 := rfl; omega) (by have := yj hSb.b; omega)
          gi_wp2_with (refine ⟨trivial, ?_⟩; gi_at_call 28; refine (callsIn_wide.2 hWS).mono ?_; rintro e W6 ⟨rfl, hb6, hlow6, hot6⟩)
          have hnb : ∀ r, bb < r → some r ≠ some bb := fun r h e => by cases e; omega
          have hj : a.lines.take (j + 1) = a.lines.take j ++ [x] := by rw [List.take_add_one, hx]; rfl
          have hS6 : TJ w bb (W.heap.size + 1) (W.heap.size + 2 + 1) (a.V (.slice pw a.ws.length cw)) ((W.heap.size + 2) :: Ds) (.loop (rec .busy none)) (gG (l.take i) ++ gW (a.lines.take (j + 1))) W6 := by
            refine ⟨.inr ?_, hot6 _ _ hSb.a (hnb _ (by omega)) (oA (by decide)), hSb.low.trans (hlow6.mono hwb), fun D hD => hot6 _ _ (hSb.ds D hD) (fun e => ?_) (wq _), hot6 _ _ hSb.o (hnb _ (by omega)) (Fe _)⟩
            · rw [hj, Ig, ← List.append_assoc, Bh _ (OD x)]
              have e1 : Lib.strCells (x ++ ⟨#[10]⟩) = Lib.byteCells (OD x) := by
                simp [Lib.strCells, Lib.byteCells, OD, ByteArray.data_append]
              rw [← e1]
              exact hb6
            · have h1 := hSb.ds D hD
              have h2 := hSb.b
              cases e
              rcases h2 with ⟨_, v, h2, _⟩ | ⟨_, v, h2, _⟩ <;> (rw [h1] at h2; cases h2)
          have hD' : ∀ D ∈ (W.heap.size + 2) :: Ds, W.heap.size + 2 + 1 ≠ D := fun D hD => by
            rcases List.mem_cons.1 hD with rfl | hD
            · omega
            · have := dj (hds D hD).2
              omega
          have hS7 := TJ.put (obj' := .loop (rec .ready none)) hS6 (W.heap.size + 2 + 1) (.loop (rec .ready none)) _ (by have := hlow.size; omega) hS6.o rfl hD' (.inr ⟨rfl, rfl⟩)
          refine ⟨hS6.o, ?_, ?_, fun r ob h1 h2 h3 => ?_⟩
          · rw [← hT]; exact hS7
          · have := hlow6.size
            simp only [World.putObj_size]
            omega
          · exact (World.putObj_heap_other (by omega)).trans (hot6 _ _ ((hk1 r (by omega)).trans h2) (hnb _ (by omega)) h3)
        rw [hW0]
        refine (PU 9 (W.heap.size + 2 + 1) (W.heap.size + 1) W0.heap.size a.k a.m a.n a.ws (.slice pw a.ws.length cw) a.y a.t T hI hY W0 rfl h0).mono ?_
        rintro e W' ⟨hv', hS | hS⟩
        · rw [← hT] at hS
          have hS : TJ w bb (W.heap.size + 1) (W.heap.size + 2 + 1) (a.V (.slice pw a.ws.length cw)) ((W.heap.size + 2) :: Ds) (.loop (rec .ready none)) (gG (l.take i) ++ gW (a.lines.take a.lines.length)) W' := hS
          refine ⟨hv', .inl ⟨hS.o, ?_⟩⟩
          have hD' : ∀ D ∈ (W.heap.size + 2) :: Ds, W.heap.size + 2 + 1 ≠ D := fun D hD => by
            rcases List.mem_cons.1 hD with rfl | hD
            · omega
            · have := dj (hds D hD).2
              omega
          have hS7 := TJ.put (obj' := .loop (rec .exhausted none)) hS (W.heap.size + 2 + 1) (.loop (rec .exhausted none)) _ (by have := hlow.size; omega) hS.o rfl hD' (.inr ⟨rfl, rfl⟩)
          obtain ⟨W8, hW8⟩ : ∃ W8, W'.putObj (W.heap.size + 2 + 1) (.loop (rec .exhausted none)) = W8 := ⟨_, rfl⟩
          rw [hW8] at hS7 ⊢
          have hnd' : ((W.heap.size + 2) :: Ds).Nodup := List.nodup_cons.2 ⟨fun h => by have := dj (hds _ h).2; omega, ra⟩
          have hfin : ∀ u6 u7 u12 u16 u17 u18 u19 u20 u21 u22 u23 u24 u25 : Value, So w bb (some ⟨bl, o, none⟩) cap l { tmps := #[.slice (some ⟨bl, o, none⟩) l.length cap, undef, .string ⟨#[]⟩, .int .i64 0, .pointer (some ⟨bb, 0, none⟩), undef, u6, u7, .slice (some ⟨bl, o, none⟩) l.length cap, .bool false, .slice (some ⟨bl, o, none⟩) l.length cap, .int .i64 l.length, u12, .slice (some ⟨bl, o, none⟩) l.length cap, .int .i64 l.length, .int .i64 ((i : Int) + 1), u16, u17, u18, u19, u20, u21, u22, u23, u24, u25, undef, undef, undef], defers := { target := .collected (W.heap.size + 2), args := #[] } :: Ds.map PV } W8 := by
            intro u6 u7 u12 u16 u17 u18 u19 u20 u21 u22 u23 u24 u25
            refine ⟨i + 1, (W.heap.size + 2) :: Ds, u6, u7, u12, u16, u17, u18, u19, u20, u21, u22, u23, u24, u25, rfl, by omega, ?_, hS7.low, hnd', fun D hD => ⟨?_, hS7.ds D hD⟩⟩
            · have h1 := hS7.b
              rw [List.take_length] at h1
              rw [List.take_add_one, hai]
              show Lib.IsBuilderF 58 5 bb bb (Lib.byteCells (gG (l.take i ++ [a]))) W8
              rw [Ma]
              exact h1
            · have := hlow.size
              rcases List.mem_cons.1 hD with rfl | hD
              · omega
              · exact (hds D hD).1
          gi_wp2
          simp [intOf]
          omega
        · rw [← hT] at hS
          exact hS.elim
      · have hil : i = l.length := by omega
        rw [hil, List.take_length] at hbld
        have hLen := Tryz.Builder_Len_f bb bb _ W hbld
        rw [Lib.byteCells_length] at hLen
        have hStr := Any.Builder_String_any_k Ja tl bb bb (gG l) W hbld (Nat.le_of_lt (yj hbld))
        gi_wp2_with first
          | (refine ⟨trivial, ?_⟩; gi_at_call 29; refine (callsIn_wide.2 hLen).mono ?_; rintro e w' ⟨rfl, rfl⟩)
          | (refine ⟨trivial, ?_⟩; gi_at_call 30; refine (callsIn_wide.2 hStr).mono ?_; rintro e W5 ⟨rfl, _, hb5, ho5⟩)
        · exact vp w.heap.size (fun W => results_tmp2 rfl _ _ _) (fun W => Below w.heap.size w W) (fun W D h1 h2 => jd h2 h1 _) (fun W h => ⟨rfl, h⟩) Ds _ ra hds hlow
        · exact vp w.heap.size (fun W => results_tmp2 rfl _ _ _) (fun W => Below w.heap.size w W) (fun W D h1 h2 => jd h2 h1 _) (fun W h => ⟨rfl, h⟩) Ds W5 ra (fun D hD => ⟨(hds D hD).1, ho5 _ _ (hds D hD).2 (fun e => by
            cases e
            rcases hbld with ⟨_, v, h2, _⟩ | ⟨_, v, h2, _⟩ <;> (rw [(hds _ hD).2] at h2; cases h2)) (wq _)⟩) (hlow.trans (hb5.mono hwb))
end Go.Plb.Seat
namespace Go.Plb.Seat
open Go Go.Plb Go.Proofs Go.RowKit
set_option maxRecDepth 100000
set_option linter.unusedSimpArgs false
set_option linter.unusedVariables false
theorem wt{ρ:ae}{W:World}{k:IntKind}{n:Int}{u:Value}(h:VR ρ W (.int k n) u) :u=.int k n:=by cases h;rfl
theorem Mb{ρ:ae}{W:World}{lv:Lv}{ws:List Int}{len:Nat}(hlen:len=ws.length){v:Value}(hv:VR ρ W (.imm lv (.ns .u64 ws) 1 1 0 len) v) :VR ae.none_ W (jD ws) v:=by
  have av:∀ bl,ae.none_.avoid .free bl:=fun bl j _=>by cases j<;>exact fun h=>h
  generalize hA:AV.imm lv (.ns .u64 ws) 1 1 0 len=A at hv
  cases hv with
  | imm bw d k es i len' cap bl o u ha hb hc hv hl hr hk hg =>
    cases hA
    subst hlen
    refine .imm .free (.ns .u64 ws) 1 1 0 ws.length cap bl o u (av bl) hb hc (fun x v hx=>?_) hl trivial (fun _=>rfl) rfl
    have h1:=hv x v hx
    simp only [ao.cell?,Option.map_eq_some_iff] at hx
    obtain ⟨z,_,rfl⟩:=hx
    rw [wt h1]
    exact .int _ _
  | immEnd bw d k es i cap a hr hk hg =>
    simp only [AV.imm.injEq] at hA
    obtain ⟨_,_,_,_,_,h0⟩:=hA
    subst h0
    show VR ae.none_ W (.imm .free (.ns .u64 ws) 1 1 0 ws.length) _
    rw [←hlen]
    exact .immEnd _ _ _ _ _ _ _ trivial (fun _=>rfl) rfl
  | _=>cases hA
def PW(d:ao)(l:List ch) :Prop:=∀ i a,l[i]? = some a→∃ lv,d.cell? (i*6)=some (.int .i64 a.k)∧d.cell? (i*6+1)=some (.int .i64 a.m)∧d.cell? (i*6+2)=some (.int .i64 a.n) ∧
  d.cell? (i*6+3)=some (.imm lv (.ns .u64 a.ws) 1 1 0 a.ws.length)∧d.cell? (i*6+4)=some (.int .i64 a.y)∧d.cell? (i*6+5)=some (.int .u64 a.t)
theorem Ng(bw:Lv)(d:ao)(k es:Nat)(l:List ch)(hd:PW d l)(hl:l.length≤1000000000) :ak prog gu [] [.imm bw d k es 0 l.length] ⟨.tup [.str (xo l),.int .i64 (xp l)],[]⟩:=by
  refine cU ⟨FN gu,by kernel_rfl,by kernel_rfl⟩ fun ρ w us hN hv=>?_
  cases hv with | cons _ u _ _ h1 h2 =>
  cases h2
  have key:∃ p bl o cap,u=.slice p l.length cap∧(1≤l.length→p=some ⟨bl,o,none⟩)∧yi w bl o l:=by
    generalize hA:AV.imm bw d k es 0 l.length=A at h1
    cases h1 with
    | imm bw d k es i len cap bl o u ha hb hc hv hl hr hk hg =>
      cases hA
      refine ⟨_,bl,o+0*k,cap,rfl,fun _=>rfl,fun i a hi=>?_⟩
      obtain ⟨lv,g0,g1,g2,g3,g4,g5⟩:=hd i a hi
      refine ⟨u (i*6+3),?_,?_,?_,?_,?_,?_,Mb rfl (hv _ _ g3),hb⟩
      · have:=hc _ _ g0;rw [wt (hv _ _ g0)] at this;rw [show o+0*k+i*6=o+i*6 by omega];exact this
      · have:=hc _ _ g1;rw [wt (hv _ _ g1)] at this;rw [show o+0*k+i*6+1=o+(i*6+1) by omega];exact this
      · have:=hc _ _ g2;rw [wt (hv _ _ g2)] at this;rw [show o+0*k+i*6+2=o+(i*6+2) by omega];exact this
      · have:=hc _ _ g3;rw [show o+0*k+i*6+3=o+(i*6+3) by omega];exact this
      · have:=hc _ _ g4;rw [wt (hv _ _ g4)] at this;rw [show o+0*k+i*6+4=o+(i*6+4) by omega];exact this
      · have:=hc _ _ g5;rw [wt (hv _ _ g5)] at this;rw [show o+0*k+i*6+5=o+(i*6+5) by omega];exact this
    | immEnd bw d k es i cap a hr hk hg =>
      simp only [AV.imm.injEq] at hA
      obtain ⟨_,_,_,_,_,h0⟩:=hA
      rw [h0]
      refine ⟨a,0,0,cap,rfl,fun h=>by omega,fun i a hi=>?_⟩
      have:=(List.getElem?_eq_some_iff.1 hi).1
      omega
    | _=>cases hA
  obtain ⟨p,bl,o,cap,rfl,hp,hA⟩:=key
  refine (KT bl o cap l hl w hN.romOk hA p hp).mono ?_
  rintro e w' ⟨rfl,hb⟩
  exact ⟨_,rfl,hb,.tup _ _ (.cons _ _ _ _ (.str _) (.cons _ _ _ _ (.int _ _) .nil))⟩
def Jn:aK:=⟨gu,fun lent args=>match lent,args with
  | [],[.imm bw (.vs [.int .i64 k,.int .i64 m,.int .i64 n,.imm lv (.ns .u64 ws) 1 1 0 len,.int .i64 y,.int .u64 t]) 1 6 0 1] =>
    some [⟨⟨.tup [.str (xo [⟨k,m,n,ws,y,t⟩]),.int .i64 (xp [⟨k,m,n,ws,y,t⟩])],[]⟩,[Nat.beq len ws.length]⟩]
  | _,_=>none⟩
theorem Mc:aV prog Jn:=by
  intro lent args alts a h ha ho
  simp only [Jn] at h
  split at h
  · simp only [Option.some.injEq] at h;subst h
    simp only [List.mem_singleton] at ha;subst ha
    rename_i bw k m n lv ws len y t
    have hlen:len=ws.length:=Nat.eq_of_beq_eq_true ho.1
    subst hlen
    refine Ng bw _ 1 6 [⟨k,m,n,ws,y,t⟩] (fun i a hi=>?_) (show 1≤1000000000 by omega)
    cases i with
    | zero=>cases hi;exact ⟨lv,rfl,rfl,rfl,rfl,rfl,rfl⟩
    | succ i=>simp at hi
  · cases h
end Go.Plb.Seat
namespace Go.Plb.Seat
open Go Go.Plb
set_option linter.unusedSimpArgs false
set_option linter.unusedVariables false
set_option maxRecDepth 100000
noncomputable def RJ:List aK:=Jn::RH
theorem QF:bo prog (bt RJ):=au Mc zG
def SQ:Option (mW×List Bool×ee)→Bool
  | some (⟨.bool _ true,[]⟩,o,_)=>NE o
  | _=>false
theorem PX{r:Option (mW×List Bool×ee)}(h:SQ r=true) :∃ k o p,r=some (⟨.bool k true,[]⟩,o,p)∧ap o:=by
  unfold SQ at h
  split at h
  · exact ⟨_,_,_,rfl,HW h⟩
  · cases h
theorem Oc:SQ (H3 C0 (bt RJ) (qR C0 (bt RJ) 50 100) rv [] [] none)=true:=by kernel_rfl
theorem QG:ak prog rv [] [] ⟨.bool false true,[]⟩:=by
  obtain ⟨k,o,p,h,ho⟩:=PX Oc
  exact (ak.run Rf QF none _ _ h ho).weak (LL _ _ _)
def Jo:aK:=⟨rv,fun L args=>match L,args with | [],[]=>one (.bool false true) [] | _,_=>none⟩
theorem Md:aV prog Jo:=by
  intro L args alts a h ha ho
  simp only [Jo] at h
  split at h
  · exact NP h ha ho fun q=>QG
  · cases h
end Go.Plb.Seat
namespace Go.Plb.Seat
open Go Go.Plb
noncomputable def Sp:List aK:=Jo::xm
theorem Nh:bo prog (bt Sp):=au Md Bc
end Go.Plb.Seat
namespace Go.Plb.Seat
open Go Go.Plb
set_option linter.unusedVariables false
set_option maxRecDepth 100000
noncomputable section
inductive aC where
  | r0 (i1:Int)
def oT:aC→AE×az
  | .r0 i1=>(.ret,⟨an 143 [(4,.int .i64 i1)],[],0⟩)
def dH:aC→mW
  | .r0 i1=>⟨.int .i64 i1,[]⟩
def oB(s_0:ByteArray)(substr_1:ByteArray) :T ((Empty)⊕(aC)) :=
  .ask (((substr_1.size:Nat):Int)==(0:Int))
    (.leaf (.inr (.r0 (0:Int))))
    (.ask (substr_1.toList==s_0.toList)
      (.leaf (.inr (.r0 (0:Int))))
      (.ask (((substr_1.size:Nat):Int)==(1:Int))
        (.need (oK (0:Int) substr_1.size)<|.leaf (.inr (.r0 (Ke s_0 (aD substr_1 0)))))
        (.ask (decide (((substr_1.size:Nat):Int)≥((s_0.size:Nat):Int)))
          (.leaf (.inr (.r0 (-1:Int))))
          (.fail))))
noncomputable def ai(s_0:ByteArray)(substr_1:ByteArray) :Option aC:=ur ((oB s_0 substr_1).run)
theorem oC(s_0:ByteArray)(substr_1:ByteArray){x:aC}(h:ai s_0 substr_1=some x) :ak prog fX [] [.str s_0,.str substr_1] (dH x) :=
  xc false dH oT h (cp Nh uF [⟨[],[],[4]⟩,⟨[],[],[4]⟩,⟨[],[],[4]⟩,⟨[],[],[4]⟩])
    (fun x=>by cases x with | r0 i1=>exact ra [.int .i64 i1])
def bu:Option aC→Bool
  | some _=>true
  | none=>false
def aj:Option aC→Int
  | some (.r0 x)=>x
  | _=>0
theorem oD{x:Option aC}(h:bu x=true) :x=some (.r0 (aj x)):=by
  unfold bu at h
  split at h<;>first | rfl | (cases h;done) | (rename_i y;cases y;rfl)
noncomputable def gh:aK:=cT fX (.cons .str (.cons .str .nil)) fun t=>(fun q=>[⟨dH (.r0 (aj q)),[bu q]⟩]) (ai t.1 t.2.1)
theorem mX:aV prog gh:=aU fun t=>(aZ (fun h=>oC t.1 t.2.1 (oD h)) bI)
noncomputable def gi:List aK:=gh::Sp
theorem dh:bo prog (bt gi):=au mX Nh
inductive bN where
  | r0 (i3:Int)
def ln:bN→AE×az
  | .r0 i3=>(.ret,⟨an 34 [(4,.int .i64 i3)],[],0⟩)
theorem su:qZ ln:=by intro x;cases x<;>(intro h;cases h)
theorem Bi(id:Nat) :pF id ln:=by intro x;cases x<;>(intro h;cases h)
def oU:bN→mW
  | .r0 i3=>⟨.int .i64 i3,[]⟩
noncomputable def Bj:List Code:=cN (qI oP)
def Bk(s_0:ByteArray)(substr_1:ByteArray)(_:Unit) :az:=⟨an 34 [(0,.str s_0),(1,.str substr_1),(5,.int .i64 (0:Int))],[],0⟩
def Bl(s_0:ByteArray)(substr_1:ByteArray) :T ((Unit)⊕(bN)) :=
  .ask (((substr_1.size:Nat):Int)==(0:Int))
    (.fail)
    (.ask (((substr_1.size:Nat):Int)==(1:Int))
      (.need (oK (0:Int) substr_1.size)<|.leaf (.inr (.r0 (ND s_0 (aD substr_1 0)))))
      (.leaf (.inl ())))
def jg(substr_1:ByteArray) :ByteArray×Nat→az:=fun (s1,n2)=>⟨an 34 [(0,.str s1),(1,.str substr_1),(5,.int .i64 ((n2:Nat):Int))],[],0⟩
noncomputable def Bm:List Code:=cN (fA (((Bj.drop 6)).headD .skip))
def Bn(substr_1:ByteArray)(s1:ByteArray)(n2:Nat) :T ((ByteArray×Nat)⊕((Empty)⊕(bN))) :=
  .need (bu (ai s1 substr_1))<|.ask ((aj (ai s1 substr_1))==(-1:Int))
    (.leaf (.inr (.inr (.r0 ((n2:Nat):Int)))))
    (.need (fw .i64 (((n2+1):Nat):Int))<|.need (fw .i64 ((aj (ai s1 substr_1))+((substr_1.size:Nat):Int)))<|.need (pT ((s1.size:Nat):Int) s1.size)<|.need (pT ((aj (ai s1 substr_1))+((substr_1.size:Nat):Int)) s1.size)<|.leaf (.inl ((s1.extract (Int.toNat ((aj (ai s1 substr_1))+((substr_1.size:Nat):Int))) s1.size),(n2+1))))
noncomputable def nv(substr_1:ByteArray) :ByteArray×Nat→Option ((ByteArray×Nat)⊕((Empty)⊕(bN))):=fun (s1,n2) =>
  (Bn substr_1 s1 n2).run
theorem Bo(substr_1:ByteArray)(s1:ByteArray)(n2:Nat) :Sg prog [] Bm (jg substr_1 (s1,n2)) (nv substr_1 (s1,n2)) (jg substr_1) (eE (ρ:=Empty) 0 (fun a=>a.elim) ln):=by
  unfold nv;exact cp dh (jg substr_1) [⟨[],[],[4]⟩,⟨[],[],[0,1,5]⟩]
noncomputable def dI(s_0:ByteArray)(substr_1:ByteArray) :Option bN:=ur (aT ((Bl s_0 substr_1).run) fun _ =>
  cO (nv substr_1) (s_0,0))
theorem Bp(s_0:ByteArray)(substr_1:ByteArray){x:bN}(h:dI s_0 substr_1=some x) :ak prog oP [] [.str s_0,.str substr_1] (oU x) :=
  xc false oU ln h (Sg.cut 6 su (cp dh (Bk s_0 substr_1) [⟨[],[],[4]⟩,⟨[],[],[0,1,5]⟩]) (fun _=>LW ⟨[],[],[0,1,5]⟩ (jg substr_1) (fun a:Empty=>a.elim) 0 su (Bi _) (fun ⟨s1,n2⟩=>Bo substr_1 s1 n2)))
    (fun x=>by cases x with | r0 i3=>exact ra [.int .i64 i3])
def jh:Option bN→Bool
  | some _=>true
  | none=>false
def fB:Option bN→Int
  | some (.r0 x)=>x
  | _=>0
theorem Bq{x:Option bN}(h:jh x=true) :x=some (.r0 (fB x)):=by
  unfold jh at h
  split at h<;>first | rfl | (cases h;done) | (rename_i y;cases y;rfl)
noncomputable def ua:aK:=cT oP (.cons .str (.cons .str .nil)) fun t=>(fun q=>[⟨oU (.r0 (fB q)),[jh q]⟩]) (dI t.1 t.2.1)
theorem yk:aV prog ua:=aU fun t=>(aZ (fun h=>Bp t.1 t.2.1 (Bq h)) bI)
noncomputable def ub:List aK:=ua::gi
theorem ek:bo prog (bt ub):=au yk dh
inductive aN where
  | r0 (a11:Nat) (a12:Nat) (l13:List ByteArray)
def fC:aN→AE×az
  | .r0 a11 a12 l13=>(.ret,⟨an 66 [(8,.sl 0 1 1 0 a11 a12)],[(0,.ss l13)],1⟩)
theorem eR:qZ fC:=by intro x;cases x<;>(intro h;cases h)
theorem wx(id:Nat) :pF id fC:=by intro x;cases x<;>(intro h;cases h)
def lC:aN→mW
  | .r0 a11 a12 l13=>⟨.sl 0 1 1 0 a11 a12,[some (.ss l13)]⟩
noncomputable def wy:List Code:=cN (qI lz)
def wz(s_0:ByteArray)(sep_1:ByteArray)(sepSave_2:Int)(n1:Int) :az:=⟨an 66 [(0,.str s_0),(1,.str sep_1),(2,.int .i64 sepSave_2),(3,.int .i64 n1)],[],0⟩
def jE(s_0:ByteArray)(sep_1:ByteArray)(n_3:Int) :T ((Int)⊕(aN)) :=
  .ask (n_3==(0:Int))
    (.leaf (.inr (.r0 0 0 ([]:List ByteArray))))
    (.ask (sep_1.toList==ByteArray.empty.toList)
      (.fail)
      (.ask (decide (n_3<(0:Int)))
        (.need (jh (dI s_0 sep_1))<|.need (fw .i64 ((fB (dI s_0 sep_1))+(1:Int)))<|.leaf (.inl ((fB (dI s_0 sep_1))+(1:Int))))
        (.leaf (.inl n_3))))
def wA(s_0:ByteArray)(sep_1:ByteArray)(sepSave_2:Int) :Int×Nat×(List ByteArray)→az:=fun (n2,a3,l4)=>⟨an 66 [(0,.str s_0),(1,.str sep_1),(2,.int .i64 sepSave_2),(3,.int .i64 n2),(9,.sl 0 1 1 0 a3 a3),(10,.int .i64 (0:Int))],[(0,.ss l4)],1⟩
def jF(s_0:ByteArray)(n1:Int) :T ((Int×Nat×(List ByteArray))⊕(aN)) :=
  .need (fw .i64 (((s_0.size+1):Nat):Int))<|.need (decide ((0:Int)≤(lU n1 (((s_0.size+1):Nat):Int))))<|.need (decide ((lU n1 (((s_0.size+1):Nat):Int))≤(lU n1 (((s_0.size+1):Nat):Int))))<|.need (decide ((16:Int)*(lU n1 (((s_0.size+1):Nat):Int))≤140737488355328))<|.need (fw .i64 (lU n1 (((s_0.size+1):Nat):Int)))<|.need (fw .i64 ((lU n1 (((s_0.size+1):Nat):Int))-(1:Int)))<|.leaf (.inl (((lU n1 (((s_0.size+1):Nat):Int))-(1:Int)),(Int.toNat (lU n1 (((s_0.size+1):Nat):Int))),(List.replicate (Int.toNat (lU n1 (((s_0.size+1):Nat):Int))) ByteArray.empty)))
def eS(sep_1:ByteArray)(sepSave_2:Int)(n2:Int)(a3:Nat) :ByteArray×Nat×(List ByteArray)→az:=fun (s5,i6,l7)=>⟨an 66 [(0,.str s5),(1,.str sep_1),(2,.int .i64 sepSave_2),(3,.int .i64 n2),(9,.sl 0 1 1 0 a3 a3),(10,.int .i64 ((i6:Nat):Int))],[(0,.ss l7)],1⟩
def po(a3:Nat) :ByteArray×Nat×(List ByteArray)→az:=fun (s8,i9,l10)=>⟨an 66 [(0,.str s8),(9,.sl 0 1 1 0 a3 a3),(10,.int .i64 ((i9:Nat):Int))],[(0,.ss l10)],1⟩
noncomputable def vq:List Code:=cN (fA (((((wy.drop 7).drop 4).take 1)).headD .skip))
def oE(sep_1:ByteArray)(sepSave_2:Int)(n2:Int)(a3:Nat)(s5:ByteArray)(i6:Nat)(l7:List ByteArray) :T ((ByteArray×Nat×(List ByteArray))⊕((ByteArray×Nat×(List ByteArray))⊕(aN))) :=
  .ask (decide (((i6:Nat):Int)<n2))
    (.need (bu (ai s5 sep_1))<|.ask (decide ((aj (ai s5 sep_1))<(0:Int)))
      (.leaf (.inr (.inl (s5,i6,l7))))
      (.need (fw .i64 ((aj (ai s5 sep_1))+sepSave_2))<|.need (pT ((aj (ai s5 sep_1))+sepSave_2) s5.size)<|.need (pT (0:Int) (Int.toNat ((aj (ai s5 sep_1))+sepSave_2)))<|.need (oK ((i6:Nat):Int) a3)<|.need (gO i6 (List.length l7))<|.need (fw .i64 ((aj (ai s5 sep_1))+((sep_1.size:Nat):Int)))<|.need (pT ((s5.size:Nat):Int) s5.size)<|.need (pT ((aj (ai s5 sep_1))+((sep_1.size:Nat):Int)) s5.size)<|.need (fw .i64 (((i6+1):Nat):Int))<|.leaf (.inl ((s5.extract (Int.toNat ((aj (ai s5 sep_1))+((sep_1.size:Nat):Int))) s5.size),(i6+1),(List.set l7 i6 (s5.extract 0 (Int.toNat ((aj (ai s5 sep_1))+sepSave_2))))))))
    (.leaf (.inr (.inl (s5,i6,l7))))
noncomputable def eJ(sep_1:ByteArray)(sepSave_2:Int)(n2:Int)(a3:Nat) :ByteArray×Nat×(List ByteArray)→Option ((ByteArray×Nat×(List ByteArray))⊕((ByteArray×Nat×(List ByteArray))⊕(aN))):=fun (s5,i6,l7) =>
  (oE sep_1 sepSave_2 n2 a3 s5 i6 l7).run
theorem vr(sep_1:ByteArray)(sepSave_2:Int)(n2:Int)(a3:Nat)(s5:ByteArray)(i6:Nat)(l7:List ByteArray) :Sg prog [] vq (eS sep_1 sepSave_2 n2 a3 (s5,i6,l7)) (eJ sep_1 sepSave_2 n2 a3 (s5,i6,l7)) (eS sep_1 sepSave_2 n2 a3) (eE 0 (po a3) fC):=by
  unfold eJ;exact cp ek (eS sep_1 sepSave_2 n2 a3) [⟨[],[0],[0,9,10]⟩,⟨[],[0],[0,1,2,3,9,10]⟩,⟨[],[0],[0,9,10]⟩]
def gX(a3:Nat)(s8:ByteArray)(i9:Nat)(l10:List ByteArray) :T ((Empty)⊕(aN)) :=
  .need (oK ((i9:Nat):Int) a3)<|.need (gO i9 (List.length l10))<|.need (fw .i64 (((i9+1):Nat):Int))<|.need (pT (((i9+1):Nat):Int) a3)<|.need (pT (0:Int) (i9+1))<|.leaf (.inr (.r0 (i9+1) a3 (List.set l10 i9 s8)))
noncomputable def bf(s_0:ByteArray)(sep_1:ByteArray)(sepSave_2:Int)(n_3:Int) :Option aN:=ur (aT ((jE s_0 sep_1 n_3).run) fun n1 =>
  aT ((jF s_0 n1).run) fun (n2,a3,l4) =>
  aT (cO (eJ sep_1 sepSave_2 n2 a3) (s_0,0,l4)) fun (s8,i9,l10) =>
  (gX a3 s8 i9 l10).run)
theorem wB(s_0:ByteArray)(sep_1:ByteArray)(sepSave_2:Int)(n_3:Int){x:aN}(h:bf s_0 sep_1 sepSave_2 n_3=some x) :ak prog lz [] [.str s_0,.str sep_1,.int .i64 sepSave_2,.int .i64 n_3] (lC x) :=
  xc false lC fC h (Sg.cut 7 eR (cp ek (wz s_0 sep_1 sepSave_2) [⟨[(.slot 8,.own 1 1 (.ss ([]:List ByteArray)))],[64],[8]⟩,⟨[],[],[0,1,2,3]⟩,⟨[],[],[0,1,2,3]⟩]) (fun n1=>Sg.cut 4 eR (cp ek (wA s_0 sep_1 sepSave_2) [⟨[],[112],[0,1,2,3,9,10]⟩]) (fun ⟨n2,a3,l4⟩=>Sg.cut 1 eR (LW ⟨[],[0],[0,1,2,3,9,10]⟩ (eS sep_1 sepSave_2 n2 a3) (po a3) 0 eR (wx _) (fun ⟨s5,i6,l7⟩=>vr sep_1 sepSave_2 n2 a3 s5 i6 l7)) (fun ⟨s8,i9,l10⟩=>cp ek uF [⟨[],[0],[8]⟩]))))
    (fun x=>by cases x with | r0 a11 a12 l13=>exact ra [.sl 0 1 1 0 a11 a12])
def dJ:Option aN→Bool
  | some _=>true
  | none=>false
def ez:Option aN→Nat
  | some (.r0 x _ _)=>x
  | _=>0
def eA:Option aN→Nat
  | some (.r0 _ x _)=>x
  | _=>0
def eB:Option aN→List ByteArray
  | some (.r0 _ _ x)=>x
  | _=>[]
theorem wC{x:Option aN}(h:dJ x=true) :x=some (.r0 (ez x) (eA x) (eB x)):=by
  unfold dJ at h
  split at h<;>first | rfl | (cases h;done) | (rename_i y;cases y;rfl)
noncomputable def qo:aK:=cT lz (.cons .str (.cons .str (.cons (.int .i64) (.cons (.int .i64) .nil)))) fun t=>(fun q=>[⟨lC (.r0 (ez q) (eA q) (eB q)),[dJ q]⟩]) (bf t.1 t.2.1 t.2.2.1 t.2.2.2.1)
theorem uv:aV prog qo:=aU fun t=>(aZ (fun h=>wB t.1 t.2.1 t.2.2.1 t.2.2.2.1 (wC h)) bI)
noncomputable def qp:List aK:=qo::ub
theorem cv:bo prog (bt qp):=au uv ek
inductive aO where
  | r0 (i5:Int) (i6:Int) (i7:Int)
def qq:aO→AE×az
  | .r0 i5 i6 i7=>(.ret,⟨an 37 [(4,.ptr 0 1 0 0)],[(0,.vs [.int .i64 i5,.int .i64 (0:Int),.int .i64 (0:Int),.nsl,.int .i64 i6,.int .u64 i7])],1⟩)
theorem eT:qZ qq:=by intro x;cases x<;>(intro h;cases h)
def lD:aO→mW
  | .r0 i5 i6 i7=>⟨.agg [.int .i64 i5,.int .i64 (0:Int),.int .i64 (0:Int),.nsl,.int .i64 i6,.int .u64 i7],[]⟩
def wD(v_0:Lv)(w_1:List ByteArray)(i_3:Int)(v_4:Lv)(s_5:ByteArray)(i_6:Int)(b_7:Bool)(b_8:Bool)(b1:Bool) :az:=⟨an 37 [(0,.imm v_0 (.ss w_1) 1 1 0 (List.length w_1)),(2,.iptr v_4 (.vs [.str s_5,.int .i64 i_6,.bool false b_7,.bool false b_8]) 1 0 0),(4,.ptr 0 1 0 0),(5,.ptr 1 1 0 0),(15,.bool false b1)],[(0,.vs [.int .i64 (0:Int),.int .i64 (0:Int),.int .i64 (0:Int),.nsl,.int .i64 (0:Int),.int .u64 (0:Int)]),(1,.vs [.int .i64 i_3,.int .i64 (0:Int),.int .i64 (0:Int),.nsl,.int .i64 (0:Int),.int .u64 (0:Int)])],2⟩
def pq(w_1:List ByteArray)(i_6:Int) :T ((Bool)⊕(aO)) :=
  .ask (decide (i_6>(0:Int)))
    (.leaf (.inl (decide ((((List.length w_1):Nat):Int)>(0:Int)))))
    (.leaf (.inl false))
def wE(v_0:Lv)(w_1:List ByteArray)(i_3:Int)(v_4:Lv)(s_5:ByteArray)(i_6:Int)(b_7:Bool)(b_8:Bool)(i2:Int) :az:=⟨an 37 [(0,.imm v_0 (.ss w_1) 1 1 0 (List.length w_1)),(2,.iptr v_4 (.vs [.str s_5,.int .i64 i_6,.bool false b_7,.bool false b_8]) 1 0 0),(4,.ptr 0 1 0 0),(5,.ptr 1 1 0 0)],[(0,.vs [.int .i64 (0:Int),.int .i64 (0:Int),.int .i64 (0:Int),.nsl,.int .i64 (0:Int),.int .u64 (0:Int)]),(1,.vs [.int .i64 i_3,.int .i64 (0:Int),.int .i64 (0:Int),.nsl,.int .i64 i2,.int .u64 (0:Int)])],2⟩
def wF(w_1:List ByteArray)(b1:Bool) :T ((Int)⊕(aO)) :=
  .ask b1
    (.need (oK (0:Int) (List.length w_1))<|.need (gO 0 (List.length w_1))<|.need (gT (List.getD w_1 0 ByteArray.empty).size)<|.leaf (.inl (db (List.getD w_1 0 ByteArray.empty))))
    (.leaf (.inl (0:Int)))
def wG(v_0:Lv)(w_1:List ByteArray)(i_3:Int)(i2:Int)(b3:Bool) :az:=⟨an 37 [(0,.imm v_0 (.ss w_1) 1 1 0 (List.length w_1)),(4,.ptr 0 1 0 0),(5,.ptr 1 1 0 0),(27,.bool false b3)],[(0,.vs [.int .i64 (0:Int),.int .i64 (0:Int),.int .i64 (0:Int),.nsl,.int .i64 (0:Int),.int .u64 (0:Int)]),(1,.vs [.int .i64 i_3,.int .i64 (0:Int),.int .i64 (0:Int),.nsl,.int .i64 i2,.int .u64 (0:Int)])],2⟩
def pr(w_1:List ByteArray)(b_7:Bool) :T ((Bool)⊕(aO)) :=
  .ask b_7
    (.leaf (.inl (decide ((((List.length w_1):Nat):Int)>(1:Int)))))
    (.leaf (.inl false))
def wH(i_3:Int)(i2:Int)(i4:Int) :az:=⟨an 37 [(4,.ptr 0 1 0 0),(5,.ptr 1 1 0 0)],[(0,.vs [.int .i64 (0:Int),.int .i64 (0:Int),.int .i64 (0:Int),.nsl,.int .i64 (0:Int),.int .u64 (0:Int)]),(1,.vs [.int .i64 i_3,.int .i64 (0:Int),.int .i64 (0:Int),.nsl,.int .i64 i2,.int .u64 i4])],2⟩
def wI(w_1:List ByteArray)(b3:Bool) :T ((Int)⊕(aO)) :=
  .ask b3
    (.need (oK (1:Int) (List.length w_1))<|.need (gO 1 (List.length w_1))<|.need (gT (List.getD w_1 1 ByteArray.empty).size)<|.leaf (.inl (gU (List.getD w_1 1 ByteArray.empty))))
    (.leaf (.inl (0:Int)))
def vt(i_3:Int)(i2:Int)(i4:Int) :T ((Empty)⊕(aO)) :=
  .leaf (.inr (.r0 i_3 i2 i4))
noncomputable def cj(w_1:List ByteArray)(i_3:Int)(i_6:Int)(b_7:Bool) :Option aO:=ur (aT ((pq w_1 i_6).run) fun b1 =>
  aT ((wF w_1 b1).run) fun i2 =>
  aT ((pr w_1 b_7).run) fun b3 =>
  aT ((wI w_1 b3).run) fun i4 =>
  (vt i_3 i2 i4).run)
theorem wJ(v_0:Lv)(w_1:List ByteArray)(v_2:Lv)(i_3:Int)(v_4:Lv)(s_5:ByteArray)(i_6:Int)(b_7:Bool)(b_8:Bool){x:aO}(h:cj w_1 i_3 i_6 b_7=some x) :ak prog dl [] [.imm v_0 (.ss w_1) 1 1 0 (List.length w_1),.iptr v_2 (.vs [.int .i64 i_3]) 1 0 0,.iptr v_4 (.vs [.str s_5,.int .i64 i_6,.bool false b_7,.bool false b_8]) 1 0 0] (lD x) :=
  xc false lD qq h (Sg.cut 3 eT (cp cv (wD v_0 w_1 i_3 v_4 s_5 i_6 b_7 b_8) [⟨[],[0,48],[0,2,4,5,15]⟩,⟨[],[0,48],[0,2,4,5,15]⟩]) (fun b1=>Sg.cut 1 eT (cp cv (wE v_0 w_1 i_3 v_4 s_5 i_6 b_7 b_8) [⟨[],[0,1],[0,2,4,5]⟩,⟨[],[0,1],[0,2,4,5]⟩]) (fun i2=>Sg.cut 1 eT (cp cv (wG v_0 w_1 i_3 i2) [⟨[],[0,1],[0,4,5,27]⟩,⟨[],[0,1],[0,4,5,27]⟩]) (fun b3=>Sg.cut 1 eT (cp cv (wH i_3 i2) [⟨[],[0,1],[4,5]⟩,⟨[],[0,1],[4,5]⟩]) (fun i4=>cp cv uF [⟨[],[0],[4]⟩])))))
    (fun x=>by cases x with | r0 i5 i6 i7=>exact ra [.agg [.int .i64 i5,.int .i64 (0:Int),.int .i64 (0:Int),.nsl,.int .i64 i6,.int .u64 i7]])
def eU:Option aO→Bool
  | some _=>true
  | none=>false
def gB:Option aO→Int
  | some (.r0 x _ _)=>x
  | _=>0
def gC:Option aO→Int
  | some (.r0 _ x _)=>x
  | _=>0
def gD:Option aO→Int
  | some (.r0 _ _ x)=>x
  | _=>0
theorem wK{x:Option aO}(h:eU x=true) :x=some (.r0 (gB x) (gC x) (gD x)):=by
  unfold eU at h
  split at h<;>first | rfl | (cases h;done) | (rename_i y;cases y;rfl)
noncomputable def qr:aK:=cT dl (.cons .ss (.cons (.ivs (.cons (.int .i64) .nil) 1 0 0) (.cons (.ivs (.cons .str (.cons (.int .i64) (.cons .bool (.cons .bool .nil)))) 1 0 0) .nil))) fun t=>(fun q=>[⟨lD (.r0 (gB q) (gC q) (gD q)),[eU q]⟩]) (cj t.1.2 t.2.1.2.1 t.2.2.1.2.2.1 t.2.2.1.2.2.2.1)
theorem uw:aV prog qr:=aU fun t=>(aZ (fun h=>wJ t.1.1 t.1.2 t.2.1.1 t.2.1.2.1 t.2.2.1.1 t.2.2.1.2.1 t.2.2.1.2.2.1 t.2.2.1.2.2.2.1 t.2.2.1.2.2.2.2.1 (wK h)) bI)
noncomputable def qs:List aK:=qr::qp
theorem cx:bo prog (bt qs):=au uw cv
inductive bg where
  | r0 (a13:Nat) (i14:Int) (i15:Int) (i17:Int)
def uc:bg→AE×az
  | .r0 a13 i14 i15 i17=>(.ret,⟨an 32 [(2,.ptr 0 1 0 0),(3,.int .i64 ((a13:Nat):Int))],[(0,.vs [.int .i64 i14,.int .i64 (0:Int),.int .i64 (0:Int),.nsl,.int .i64 i15,.int .u64 i17])],1⟩)
theorem ji:qZ uc:=by intro x;cases x<;>(intro h;cases h)
def oV:bg→mW
  | .r0 a13 i14 i15 i17=>⟨.tup [.agg [.int .i64 i14,.int .i64 (0:Int),.int .i64 (0:Int),.nsl,.int .i64 i15,.int .u64 i17],.int .i64 ((a13:Nat):Int)],[]⟩
def Br(s_0:ByteArray) :Nat×Nat×(List ByteArray)→az:=fun (w1,w2,l3)=>⟨an 32 [(0,.str s_0),(2,.ptr 0 1 0 0),(4,.sl 1 1 1 0 w1 w2)],[(0,.vs [.int .i64 (0:Int),.int .i64 (0:Int),.int .i64 (0:Int),.nsl,.int .i64 (0:Int),.int .u64 (0:Int)]),(1,.ss l3)],2⟩
def nx(s_0:ByteArray) :T ((Nat×Nat×(List ByteArray))⊕(bg)) :=
  .need (dJ (bf s_0 (ByteArray.mk #[32]) (0:Int) (-1:Int)))<|.leaf (.inl ((ez (bf s_0 (ByteArray.mk #[32]) (0:Int) (-1:Int))),(eA (bf s_0 (ByteArray.mk #[32]) (0:Int) (-1:Int))),(eB (bf s_0 (ByteArray.mk #[32]) (0:Int) (-1:Int)))))
def Bs(s_0:ByteArray)(w1:Nat)(w2:Nat)(l3:List ByteArray) :Nat×ByteArray×Nat×Bool×Bool→az:=fun (read4,read5,read6,read7,read8)=>⟨an 32 [(0,.str s_0),(2,.ptr 0 1 0 0),(4,.sl 1 1 1 0 w1 w2),(5,.fn (.func dl) [] [.iptr .free (.vs [.int .i64 ((read4:Nat):Int)]) 1 0 0,.iptr .free (.vs [.str read5,.int .i64 ((read6:Nat):Int),.bool false read7,.bool false read8]) 1 0 0])],[(0,.vs [.int .i64 (0:Int),.int .i64 (0:Int),.int .i64 (0:Int),.nsl,.int .i64 (0:Int),.int .u64 (0:Int)]),(1,.ss l3)],2⟩
def sv(w1:Nat)(l3:List ByteArray) :T ((Nat×ByteArray×Nat×Bool×Bool)⊕(bg)) :=
  .need (oK (0:Int) w1)<|.need (gO 0 (List.length l3))<|.alt 0
    (.need (decide ((List.getD l3 0 ByteArray.empty)=(ByteArray.mk #[101,105,103,101,110])))<|.leaf (.inl (1,(ByteArray.mk #[101,105,103,101,110]),3,false,true)))
    (.alt 1
      (.need (decide ((List.getD l3 0 ByteArray.empty)=(ByteArray.mk #[118,97,108,117,101,115])))<|.leaf (.inl (2,(ByteArray.mk #[118,97,108,117,101,115]),0,false,true)))
      (.alt 2
        (.need (decide ((List.getD l3 0 ByteArray.empty)=(ByteArray.mk #[115,118,100])))<|.leaf (.inl (3,(ByteArray.mk #[115,118,100]),2,false,false)))
        (.alt 3
          (.need (decide ((List.getD l3 0 ByteArray.empty)=(ByteArray.mk #[114,97,110,107])))<|.leaf (.inl (4,(ByteArray.mk #[114,97,110,107]),2,true,false)))
          (.alt 4
            (.need (decide ((List.getD l3 0 ByteArray.empty)=(ByteArray.mk #[105,110,118,101,114,115,101])))<|.leaf (.inl (5,(ByteArray.mk #[105,110,118,101,114,115,101]),2,true,false)))
            (.alt 5
              (.need (decide ((List.getD l3 0 ByteArray.empty)=(ByteArray.mk #[99,111,110,100])))<|.leaf (.inl (6,(ByteArray.mk #[99,111,110,100]),2,false,false)))
              (.alt 6
                (.need (!(decide ((List.getD l3 0 ByteArray.empty)=(ByteArray.mk #[101,105,103,101,110]))))<|.need (!(decide ((List.getD l3 0 ByteArray.empty)=(ByteArray.mk #[118,97,108,117,101,115]))))<|.need (!(decide ((List.getD l3 0 ByteArray.empty)=(ByteArray.mk #[115,118,100]))))<|.need (!(decide ((List.getD l3 0 ByteArray.empty)=(ByteArray.mk #[114,97,110,107]))))<|.need (!(decide ((List.getD l3 0 ByteArray.empty)=(ByteArray.mk #[105,110,118,101,114,115,101]))))<|.need (!(decide ((List.getD l3 0 ByteArray.empty)=(ByteArray.mk #[99,111,110,100]))))<|.leaf (.inr (.r0 4 (0:Int) (0:Int) (0:Int))))
                (.fail)))))))
def Bt(s_0:ByteArray) :Int×Int×Int→az:=fun (i9,i10,i11)=>⟨an 32 [(0,.str s_0),(2,.ptr 0 1 0 0),(6,.ptr 1 1 0 0)],[(0,.vs [.int .i64 (0:Int),.int .i64 (0:Int),.int .i64 (0:Int),.nsl,.int .i64 (0:Int),.int .u64 (0:Int)]),(1,.vs [.int .i64 i9,.int .i64 (0:Int),.int .i64 (0:Int),.nsl,.int .i64 i10,.int .u64 i11])],2⟩
def ny(w1:Nat)(w2:Nat)(l3:List ByteArray)(read4:Nat)(read6:Nat)(read7:Bool) :T ((Int×Int×Int)⊕(bg)) :=
  .need (pT ((w1:Nat):Int) w2)<|.need (pT (1:Int) w1)<|.need (se 1 (w1-1) l3)<|.need (eU (cj (dq 1 (w1-1) l3) ((read4:Nat):Int) ((read6:Nat):Int) read7))<|.leaf (.inl ((gB (cj (dq 1 (w1-1) l3) ((read4:Nat):Int) ((read6:Nat):Int) read7)),(gC (cj (dq 1 (w1-1) l3) ((read4:Nat):Int) ((read6:Nat):Int) read7)),(gD (cj (dq 1 (w1-1) l3) ((read4:Nat):Int) ((read6:Nat):Int) read7))))
def Bu(i9:Int)(i10:Int)(i11:Int)(b12:Bool) :az:=⟨an 32 [(2,.ptr 0 1 0 0),(6,.ptr 1 1 0 0),(29,.bool false b12)],[(0,.vs [.int .i64 (0:Int),.int .i64 (0:Int),.int .i64 (0:Int),.nsl,.int .i64 (0:Int),.int .u64 (0:Int)]),(1,.vs [.int .i64 i9,.int .i64 (0:Int),.int .i64 (0:Int),.nsl,.int .i64 i10,.int .u64 i11])],2⟩
def nA(s_0:ByteArray)(i9:Int)(i10:Int)(i11:Int) :T ((Bool)⊕(bg)) :=
  .need (fZ (eh i9 i10 i11))<|.ask (!(gF (eh i9 i10 i11)))
    (.leaf (.inl true))
    (.need (mo (kZ i9 i10 i11))<|.leaf (.inl (!((nt (kZ i9 i10 i11)).toList==s_0.toList))))
def zQ(i9:Int)(i10:Int)(i11:Int)(b12:Bool) :T ((Empty)⊕(bg)) :=
  .ask b12
    (.leaf (.inr (.r0 4 (0:Int) (0:Int) (0:Int))))
    (.leaf (.inr (.r0 0 i9 i10 i11)))
noncomputable def bh(s_0:ByteArray) :Option bg:=ur (aT ((nx s_0).run) fun (w1,w2,l3) =>
  aT ((sv w1 l3).run) fun (read4,read5,read6,read7,read8) =>
  aT ((ny w1 w2 l3 read4 read6 read7).run) fun (i9,i10,i11) =>
  aT ((nA s_0 i9 i10 i11).run) fun b12 =>
  (zQ i9 i10 i11 b12).run)
theorem Bv(s_0:ByteArray){x:bg}(h:bh s_0=some x) :ak prog tQ [] [.str s_0] (oV x) :=
  xc false oV uc h (Sg.cut 2 ji (cp cx (Br s_0) [⟨[],[0,48],[0,2,4]⟩]) (fun ⟨w1,w2,l3⟩=>Sg.cut 3 ji (cp cx (Bs s_0 w1 w2 l3) [⟨[],[0,1],[0,2,4,5]⟩,⟨[],[0,1],[0,2,4,5]⟩,⟨[],[0,1],[0,2,4,5]⟩,⟨[],[0,1],[0,2,4,5]⟩,⟨[],[0,1],[0,2,4,5]⟩,⟨[],[0,1],[0,2,4,5]⟩,⟨[],[0],[2,3]⟩]) (fun ⟨read4,read5,read6,read7,read8⟩=>Sg.cut 1 ji (cp cx (Bt s_0) [⟨[],[0,66],[0,2,6]⟩]) (fun ⟨i9,i10,i11⟩=>Sg.cut 1 ji (cp cx (Bu i9 i10 i11) [⟨[],[0,1],[2,6,29]⟩,⟨[],[0,1],[2,6,29]⟩]) (fun b12=>cp cx uF [⟨[],[0],[2,3]⟩,⟨[],[0],[2,3]⟩])))))
    (fun x=>by cases x with | r0 a13 i14 i15 i17=>exact ra [.agg [.int .i64 i14,.int .i64 (0:Int),.int .i64 (0:Int),.nsl,.int .i64 i15,.int .u64 i17],.int .i64 ((a13:Nat):Int)])
def eZ:Option bg→Bool
  | some _=>true
  | none=>false
def fD:Option bg→Nat
  | some (.r0 x _ _ _)=>x
  | _=>0
def fE:Option bg→Int
  | some (.r0 _ x _ _)=>x
  | _=>0
def fF:Option bg→Int
  | some (.r0 _ _ x _)=>x
  | _=>0
def fG:Option bg→Int
  | some (.r0 _ _ _ x)=>x
  | _=>0
theorem Bw{x:Option bg}(h:eZ x=true) :x=some (.r0 (fD x) (fE x) (fF x) (fG x)):=by
  unfold eZ at h
  split at h<;>first | rfl | (cases h;done) | (rename_i y;cases y;rfl)
noncomputable def ud:aK:=cT tQ (.cons .str .nil) fun t=>(fun q=>[⟨oV (.r0 (fD q) (fE q) (fF q) (fG q)),[eZ q]⟩]) (bh t.1)
theorem yl:aV prog ud:=aU fun t=>(aZ (fun h=>Bv t.1 (Bw h)) bI)
noncomputable def ue:List aK:=ud::qs
theorem em:bo prog (bt ue):=au yl cx
inductive bL where
  | r0 (a20:Nat) (a21:Nat) (l22:List ByteArray)
def nW:bL→AE×az
  | .r0 a20 a21 l22=>(.ret,⟨an 32 [(2,.sl 0 1 1 0 a20 a21)],[(0,.ss l22)],1⟩)
theorem mp:qZ nW:=by intro x;cases x<;>(intro h;cases h)
theorem Fl(id:Nat) :pF id nW:=by intro x;cases x<;>(intro h;cases h)
def rH:bL→mW
  | .r0 a20 a21 l22=>⟨.sl 0 1 1 0 a20 a21,[some (.ss l22)]⟩
noncomputable def C5:List Code:=cN (qI rA)
def Fm(s_0:ByteArray)(_:Unit) :az:=⟨an 32 [(0,.str s_0),(3,.nsl),(4,.int .i64 (0:Int)),(5,.int .i64 (0:Int))],[],0⟩
def C6:T ((Unit)⊕(bL)) :=
  .leaf (.inl ())
def mq(s_0:ByteArray) :Nat×Nat×Nat×Nat×(List ByteArray)→az:=fun (l8,l9,at10,i11,l12)=>⟨an 32 [(0,.str s_0),(3,.sl 0 1 1 0 l8 l9),(4,.int .i64 ((at10:Nat):Int)),(5,.int .i64 ((i11:Nat):Int))],[(0,.ss l12)],1⟩
def vu:Nat×Nat×(List ByteArray)→az:=fun (l17,l18,l19)=>⟨an 32 [(3,.sl 0 1 1 0 l17 l18)],[(0,.ss l19)],1⟩
noncomputable def C7:List Code:=cN (fA ((((C5.drop 4).take 1)).headD .skip))
def Fo(s_0:ByteArray)(i11:Nat) :Nat×Nat×Nat×(List ByteArray)→az:=fun (l13,l14,at15,l16)=>⟨an 32 [(0,.str s_0),(3,.sl 0 1 1 0 l13 l14),(4,.int .i64 ((at15:Nat):Int)),(5,.int .i64 ((i11:Nat):Int))],[(0,.ss l16)],1⟩
def C8(s_0:ByteArray)(l8:Nat)(l9:Nat)(at10:Nat)(i11:Nat)(l12:List ByteArray) :T ((Nat×Nat×Nat×(List ByteArray))⊕((Nat×Nat×(List ByteArray))⊕(bL))) :=
  .ask (decide (((i11:Nat):Int)≤((s_0.size:Nat):Int)))
    (.ask (((i11:Nat):Int)==((s_0.size:Nat):Int))
      (.need (pT ((i11:Nat):Int) s_0.size)<|.need (pT ((at10:Nat):Int) i11)<|.need (fS ((l8+1)*16) 140737488355328)<|.need (fS (l8+1) 9223372036854775807)<|.need (fS 1 (List.length [(s_0.extract at10 i11)]))<|.need (fS l8 (List.length l12))<|.need (fw .i64 (((i11+1):Nat):Int))<|.leaf (.inl ((l8+1),(l8+1),(i11+1),((List.take l8 l12)++(List.take 1 [(s_0.extract at10 i11)])))))
      (.need (oK ((i11:Nat):Int) s_0.size)<|.ask ((aD s_0 i11)==(32:Int))
        (.need (pT ((i11:Nat):Int) s_0.size)<|.need (pT ((at10:Nat):Int) i11)<|.need (fS ((l8+1)*16) 140737488355328)<|.need (fS (l8+1) 9223372036854775807)<|.need (fS 1 (List.length [(s_0.extract at10 i11)]))<|.need (fS l8 (List.length l12))<|.need (fw .i64 (((i11+1):Nat):Int))<|.leaf (.inl ((l8+1),(l8+1),(i11+1),((List.take l8 l12)++(List.take 1 [(s_0.extract at10 i11)])))))
        (.leaf (.inl (l8,l9,at10,l12)))))
    (.leaf (.inr (.inl (l8,l9,l12))))
def C9(i11:Nat)(l13:Nat)(l14:Nat)(at15:Nat)(l16:List ByteArray) :T ((Nat×Nat×Nat×Nat×(List ByteArray))⊕((Nat×Nat×(List ByteArray))⊕(bL))) :=
  .need (fw .i64 (((i11+1):Nat):Int))<|.leaf (.inl (l13,l14,at15,(i11+1),l16))
noncomputable def oW(s_0:ByteArray) :Nat×Nat×Nat×Nat×(List ByteArray)→Option ((Nat×Nat×Nat×Nat×(List ByteArray))⊕((Nat×Nat×(List ByteArray))⊕(bL))):=fun (l8,l9,at10,i11,l12) =>
  aT ((C8 s_0 l8 l9 at10 i11 l12).run) fun (l13,l14,at15,l16) =>
  (C9 i11 l13 l14 at15 l16).run
theorem Da(s_0:ByteArray)(l8:Nat)(l9:Nat)(at10:Nat)(i11:Nat)(l12:List ByteArray) :Sg prog [] C7 (mq s_0 (l8,l9,at10,i11,l12)) (oW s_0 (l8,l9,at10,i11,l12)) (mq s_0) (eE 0 vu nW):=by
  unfold oW;exact Sg.cut 3 (cH mp) (cp em (Fo s_0 i11) [⟨[],[321],[0,3,4,5]⟩,⟨[],[321],[0,3,4,5]⟩,⟨[],[0],[0,3,4,5]⟩,⟨[],[0],[3]⟩]) (fun ⟨l13,l14,at15,l16⟩=>cp em (mq s_0) [⟨[],[0],[0,3,4,5]⟩])
def Db(l17:Nat)(l18:Nat)(l19:List ByteArray) :T ((Empty)⊕(bL)) :=
  .leaf (.inr (.r0 l17 l18 l19))
noncomputable def bv(s_0:ByteArray) :Option bL:=ur (aT ((C6).run) fun _ =>
  aT (cO (oW s_0) (0,0,0,0,([]:List ByteArray))) fun (l17,l18,l19) =>
  (Db l17 l18 l19).run)
theorem Fp(s_0:ByteArray){x:bL}(h:bv s_0=some x) :ak prog rA [] [.str s_0] (rH x) :=
  xc false rH nW h (Sg.cut 4 mp (cp em (Fm s_0) [⟨[],[],[0,3,4,5]⟩]) (fun _=>Sg.cut 1 mp (LW ⟨[(.slot 3,.own 1 1 (.ss ([]:List ByteArray)))],[0],[0,3,4,5]⟩ (mq s_0) (vu) 0 mp (Fl _) (fun ⟨l8,l9,at10,i11,l12⟩=>Da s_0 l8 l9 at10 i11 l12)) (fun ⟨l17,l18,l19⟩=>cp em uF [⟨[],[0],[2]⟩])))
    (fun x=>by cases x with | r0 a20 a21 l22=>exact ra [.sl 0 1 1 0 a20 a21])
def fa:Option bL→Bool
  | some _=>true
  | none=>false
def fb:Option bL→Nat
  | some (.r0 x _ _)=>x
  | _=>0
def fc:Option bL→Nat
  | some (.r0 _ x _)=>x
  | _=>0
def fe:Option bL→List ByteArray
  | some (.r0 _ _ x)=>x
  | _=>[]
theorem Fq{x:Option bL}(h:fa x=true) :x=some (.r0 (fb x) (fc x) (fe x)):=by
  unfold fa at h
  split at h<;>first | rfl | (cases h;done) | (rename_i y;cases y;rfl)
noncomputable def xq:aK:=cT rA (.cons .str .nil) fun t=>(fun q=>[⟨rH (.r0 (fb q) (fc q) (fe q)),[fa q]⟩]) (bv t.1)
theorem Bx:aV prog xq:=aU fun t=>(aZ (fun h=>Fp t.1 (Fq h)) bI)
noncomputable def xr:List aK:=xq::ue
theorem ff:bo prog (bt xr):=au Bx em
inductive cr where
  | r0 (i9:Int) (a10:Nat)
def pL:cr→AE×az
  | .r0 i9 a10=>(.ret,⟨an 45 [(2,.int .u64 i9),(3,.int .i64 ((a10:Nat):Int))],[],0⟩)
theorem nX:qZ pL:=by intro x;cases x<;>(intro h;cases h)
theorem Hd(id:Nat) :pF id pL:=by intro x;cases x<;>(intro h;cases h)
def tB:cr→mW
  | .r0 i9 a10=>⟨.tup [.int .u64 i9,.int .i64 ((a10:Nat):Int)],[]⟩
noncomputable def Fr:List Code:=cN (qI tj)
def He(s_0:ByteArray)(_:Unit) :az:=⟨an 45 [(0,.str s_0),(4,.int .u64 (0:Int)),(5,.int .i64 (0:Int))],[],0⟩
def vv(s_0:ByteArray) :T ((Unit)⊕(cr)) :=
  .ask (((s_0.size:Nat):Int) != (16:Int))
    (.leaf (.inr (.r0 (0:Int) 4)))
    (.leaf (.inl ()))
def nY(s_0:ByteArray) :Int×Nat→az:=fun (w5,i6)=>⟨an 45 [(0,.str s_0),(4,.int .u64 w5),(5,.int .i64 ((i6:Nat):Int))],[],0⟩
def xt(w8:Int) :az:=⟨an 45 [(4,.int .u64 w8)],[],0⟩
noncomputable def Fs:List Code:=cN (fA ((((Fr.drop 5).take 1)).headD .skip))
def Hf(s_0:ByteArray)(i6:Nat)(w7:Int) :az:=⟨an 45 [(0,.str s_0),(4,.int .u64 w7),(5,.int .i64 ((i6:Nat):Int))],[],0⟩
def mr(s_0:ByteArray)(w5:Int)(i6:Nat) :T ((Int)⊕((Int)⊕(cr))) :=
  .ask (decide (((i6:Nat):Int)<(16:Int)))
    (.need (oK ((i6:Nat):Int) s_0.size)<|.ask (decide ((aD s_0 i6)≥(48:Int)))
      (.ask (decide ((aD s_0 i6)≤(57:Int)))
        (.leaf (.inl (IntKind.u64.wrap ((IntKind.u64.wrap (w5*(16:Int)))+(IntKind.u64.wrap (IntKind.u8.wrap ((aD s_0 i6)-(48:Int))))))))
        (.ask (decide ((aD s_0 i6)≥(65:Int)))
          (.ask (decide ((aD s_0 i6)≤(70:Int)))
            (.leaf (.inl (IntKind.u64.wrap ((IntKind.u64.wrap (w5*(16:Int)))+(IntKind.u64.wrap (IntKind.u8.wrap ((IntKind.u8.wrap ((aD s_0 i6)-(65:Int)))+(10:Int))))))))
            (.leaf (.inr (.inr (.r0 (0:Int) 4)))))
          (.leaf (.inr (.inr (.r0 (0:Int) 4))))))
      (.ask (decide ((aD s_0 i6)≥(65:Int)))
        (.ask (decide ((aD s_0 i6)≤(70:Int)))
          (.leaf (.inl (IntKind.u64.wrap ((IntKind.u64.wrap (w5*(16:Int)))+(IntKind.u64.wrap (IntKind.u8.wrap ((IntKind.u8.wrap ((aD s_0 i6)-(65:Int)))+(10:Int))))))))
          (.leaf (.inr (.inr (.r0 (0:Int) 4)))))
        (.leaf (.inr (.inr (.r0 (0:Int) 4))))))
    (.leaf (.inr (.inl w5)))
def Ft(i6:Nat)(w7:Int) :T ((Int×Nat)⊕((Int)⊕(cr))) :=
  .need (fw .i64 (((i6+1):Nat):Int))<|.leaf (.inl (w7,(i6+1)))
noncomputable def gY(s_0:ByteArray) :Int×Nat→Option ((Int×Nat)⊕((Int)⊕(cr))):=fun (w5,i6) =>
  aT ((mr s_0 w5 i6).run) fun w7 =>
  (Ft i6 w7).run
theorem Fu(s_0:ByteArray)(w5:Int)(i6:Nat) :Sg prog [] Fs (nY s_0 (w5,i6)) (gY s_0 (w5,i6)) (nY s_0) (eE 0 xt pL):=by
  unfold gY;exact Sg.cut 3 (cH nX) (cp ff (Hf s_0 i6) [⟨[],[],[0,4,5]⟩,⟨[],[],[0,4,5]⟩,⟨[],[],[2,3]⟩,⟨[],[],[2,3]⟩,⟨[],[],[0,4,5]⟩,⟨[],[],[2,3]⟩,⟨[],[],[2,3]⟩,⟨[],[],[4]⟩]) (fun w7=>cp ff (nY s_0) [⟨[],[],[0,4,5]⟩])
def Fv(w8:Int) :T ((Empty)⊕(cr)) :=
  .leaf (.inr (.r0 w8 0))
noncomputable def dt(s_0:ByteArray) :Option cr:=ur (aT ((vv s_0).run) fun _ =>
  aT (cO (gY s_0) ((0:Int),0)) fun w8 =>
  (Fv w8).run)
theorem Hg(s_0:ByteArray){x:cr}(h:dt s_0=some x) :ak prog tj [] [.str s_0] (tB x) :=
  xc false tB pL h (Sg.cut 5 nX (cp ff (He s_0) [⟨[],[],[2,3]⟩,⟨[],[],[0,4,5]⟩]) (fun _=>Sg.cut 1 nX (LW ⟨[],[],[0,4,5]⟩ (nY s_0) (xt) 0 nX (Hd _) (fun ⟨w5,i6⟩=>Fu s_0 w5 i6)) (fun w8=>cp ff uF [⟨[],[],[2,3]⟩])))
    (fun x=>by cases x with | r0 i9 a10=>exact ra [.int .u64 i9,.int .i64 ((a10:Nat):Int)])
def lc:Option cr→Bool
  | some _=>true
  | none=>false
def gj:Option cr→Int
  | some (.r0 x _)=>x
  | _=>0
def oX:Option cr→Nat
  | some (.r0 _ x)=>x
  | _=>0
theorem Hh{x:Option cr}(h:lc x=true) :x=some (.r0 (gj x) (oX x)):=by
  unfold lc at h
  split at h<;>first | rfl | (cases h;done) | (rename_i y;cases y;rfl)
noncomputable def zR:aK:=cT tj (.cons .str .nil) fun t=>(fun q=>[⟨tB (.r0 (gj q) (oX q)),[lc q]⟩]) (dt t.1)
theorem Dc:aV prog zR:=aU fun t=>(aZ (fun h=>Hg t.1 (Hh h)) bI)
noncomputable def zS:List aK:=zR::xr
theorem lp:bo prog (bt zS):=au Dc ff
inductive bO where
  | r0 (b3:Bool)
def uf:bO→AE×az
  | .r0 b3=>(.ret,⟨an 47 [(2,.bool false b3)],[],0⟩)
theorem sw:qZ uf:=by intro x;cases x<;>(intro h;cases h)
def oY:bO→mW
  | .r0 b3=>⟨.bool false b3,[]⟩
def By(a_0:Int)(a_1:Int)(a_2:Int)(v_3:Lv)(a_4:List Int)(a_5:Int)(a_6:Int)(way1:Nat) :az:=⟨an 47 [(1,.ptr 0 1 0 0),(3,.int .i64 ((way1:Nat):Int))],[(0,.vs [.int .i64 a_0,.int .i64 a_1,.int .i64 a_2,.imm v_3 (.ns .u64 a_4) 1 1 0 (List.length a_4),.int .i64 a_5,.int .u64 a_6])],1⟩
def Bz(a_0 : Int)(a_5 : Int)(a_6 : Int) : T ((Nat) ⊕ (bO)) :=
  .ask (a_0==(1:Int))
    (.leaf (.inl 3))
    (.ask (a_0==(2:Int))
      (.ask (a_5==(0:Int))
        (.leaf (.inr (.r0 (a_6==(0:Int)))))
        (.leaf (.inr (.r0 false))))
      (.ask (a_0==(3:Int))
        (.leaf (.inl 2))
        (.ask (a_0==(6:Int))
          (.leaf (.inl 2))
          (.ask (a_0==(4:Int))
            (.leaf (.inl 2))
            (.ask (a_0==(5:Int))
              (.leaf (.inl 2))
              (.leaf (.inr (.r0 false))))))))
def BA(b2:Bool) :az:=⟨an 47 [(2,.bool false b2)],[],0⟩
def BB(a_0:Int)(a_5:Int)(a_6:Int)(way1:Nat) :T ((Bool)⊕(bO)) :=
  .ask (decide (a_5≥(1:Int)))
    (.ask (decide (a_5≤((way1:Nat):Int)))
      (.ask (a_6==(0:Int))
        (.leaf (.inl true))
        (.ask (a_0==(4:Int))
          (.leaf (.inl true))
          (.leaf (.inl (a_0==(5:Int))))))
      (.leaf (.inl false)))
    (.leaf (.inl false))
def sx(b2:Bool) :T ((Empty)⊕(bO)) :=
  .leaf (.inr (.r0 b2))
noncomputable def dd(a_0:Int)(a_5:Int)(a_6:Int) :Option bO:=ur (aT ((Bz a_0 a_5 a_6).run) fun way1 =>
  aT ((BB a_0 a_5 a_6 way1).run) fun b2 =>
  (sx b2).run)
theorem BC(a_0:Int)(a_1:Int)(a_2:Int)(v_3:Lv)(a_4:List Int)(a_5:Int)(a_6:Int){x:bO}(h:dd a_0 a_5 a_6=some x) :ak prog tT [] [.agg [.int .i64 a_0,.int .i64 a_1,.int .i64 a_2,.imm v_3 (.ns .u64 a_4) 1 1 0 (List.length a_4),.int .i64 a_5,.int .u64 a_6]] (oY x) :=
  xc false oY uf h (Sg.cut 4 sw (cp lp (By a_0 a_1 a_2 v_3 a_4 a_5 a_6) [⟨[],[0],[1,3]⟩,⟨[],[],[2]⟩,⟨[],[],[2]⟩,⟨[],[0],[1,3]⟩,⟨[],[0],[1,3]⟩,⟨[],[0],[1,3]⟩,⟨[],[0],[1,3]⟩,⟨[],[],[2]⟩]) (fun way1=>Sg.cut 1 sw (cp lp BA [⟨[],[],[2]⟩,⟨[],[],[2]⟩,⟨[],[],[2]⟩,⟨[],[],[2]⟩,⟨[],[],[2]⟩]) (fun b2=>cp lp uF [⟨[],[],[2]⟩])))
    (fun x=>by cases x with | r0 b3=>exact ra [.bool false b3])
def fg:Option bO→Bool
  | some _=>true
  | none=>false
def fH:Option bO→Bool
  | some (.r0 x)=>x
  | _=>false
theorem BD{x:Option bO}(h:fg x=true) :x=some (.r0 (fH x)):=by
  unfold fg at h
  split at h<;>first | rfl | (cases h;done) | (rename_i y;cases y;rfl)
noncomputable def ug:aK:=cT tT (.cons (.agg (.cons (.int .i64) (.cons (.int .i64) (.cons (.int .i64) (.cons (.ns .u64) (.cons (.int .i64) (.cons (.int .u64) .nil))))))) .nil) fun t=>(fun q=>[⟨oY (.r0 (fH q)),[fg q]⟩]) (dd t.1.1 t.1.2.2.2.2.1 t.1.2.2.2.2.2.1)
theorem ym:aV prog ug:=aU fun t=>(aZ (fun h=>BC t.1.1 t.1.2.1 t.1.2.2.1 t.1.2.2.2.1.1 t.1.2.2.2.1.2 t.1.2.2.2.2.1 t.1.2.2.2.2.2.1 (BD h)) bI)
noncomputable def uh:List aK:=ug::zS
theorem fI:bo prog (bt uh):=au ym lp
inductive cX where
  | r0 (s14:ByteArray)
def pM:cX→AE×az
  | .r0 s14=>(.ret,⟨an 20 [(2,.str s14)],[],0⟩)
theorem rI:qZ pM:=by intro x;cases x<;>(intro h;cases h)
theorem Hi(id:Nat) :pF id pM:=by intro x;cases x<;>(intro h;cases h)
def tC:cX→mW
  | .r0 s14=>⟨.str s14,[]⟩
noncomputable def Hj:List Code:=cN (qI th)
def Hk(w_0:Int)(_:Unit) :az:=⟨an 20 [(0,.int .u64 w_0),(3,.nsl),(4,.int .i64 (60:Int))],[],0⟩
def Hl:T ((Unit)⊕(cX)) :=
  .leaf (.inl ())
def nZ(w_0:Int) :Nat×Nat×Int×(List Int)→az:=fun (b6,b7,i9,l10)=>⟨an 20 [(0,.int .u64 w_0),(3,.sl 0 1 1 0 b6 b7),(4,.int .i64 i9)],[(0,.ns .u8 l10)],1⟩
def xu:Nat×Nat×(List Int)→az:=fun (b11,b12,l13)=>⟨an 20 [(3,.sl 0 1 1 0 b11 b12)],[(0,.ns .u8 l13)],1⟩
noncomputable def Fw:List Code:=cN (fA ((((Hj.drop 3).take 1)).headD .skip))
def qt(w_0:Int)(b6:Nat)(b7:Nat)(i9:Int)(l10:List Int) :T ((Nat×Nat×Int×(List Int))⊕((Nat×Nat×(List Int))⊕(cX))) :=
  .ask (decide (i9≥(0:Int)))
    (.need (decide ((0:Int)≤(IntKind.u64.wrap i9)))<|.need (oK (wN .and .u64 (Int.fdiv w_0 (2^(min (Int.toNat (IntKind.u64.wrap i9)) (IntKind.u64.bits)))) (15:Int)) (ByteArray.mk #[48,49,50,51,52,53,54,55,56,57,65,66,67,68,69,70]).size)<|.need (fS ((b6+1)*1) 140737488355328)<|.need (fS (b6+1) 9223372036854775807)<|.need (fS 1 (List.length [(aD (ByteArray.mk #[48,49,50,51,52,53,54,55,56,57,65,66,67,68,69,70]) (Int.toNat (wN .and .u64 (Int.fdiv w_0 (2^(min (Int.toNat (IntKind.u64.wrap i9)) (IntKind.u64.bits)))) (15:Int))))]))<|.need (fS b6 (List.length l10))<|.need (fw .i64 (i9-(4:Int)))<|.leaf (.inl ((b6+1),(b6+1),(i9-(4:Int)),((List.take b6 l10)++(List.take 1 [(aD (ByteArray.mk #[48,49,50,51,52,53,54,55,56,57,65,66,67,68,69,70]) (Int.toNat (wN .and .u64 (Int.fdiv w_0 (2^(min (Int.toNat (IntKind.u64.wrap i9)) (IntKind.u64.bits)))) (15:Int))))])))))
    (.leaf (.inr (.inl (b6,b7,l10))))
noncomputable def gZ(w_0:Int) :Nat×Nat×Int×(List Int)→Option ((Nat×Nat×Int×(List Int))⊕((Nat×Nat×(List Int))⊕(cX))):=fun (b6,b7,i9,l10) =>
  (qt w_0 b6 b7 i9 l10).run
theorem Fx(w_0:Int)(b6:Nat)(b7:Nat)(i9:Int)(l10:List Int) :Sg prog [] Fw (nZ w_0 (b6,b7,i9,l10)) (gZ w_0 (b6,b7,i9,l10)) (nZ w_0) (eE 0 xu pM):=by
  unfold gZ;exact cp fI (nZ w_0) [⟨[],[161],[0,3,4]⟩,⟨[],[0],[3]⟩]
def vx(b11:Nat)(l13:List Int) :T ((Empty)⊕(cX)) :=
  .need (fS b11 (List.length l13))<|.leaf (.inr (.r0 (Ci (List.take b11 l13))))
noncomputable def fJ(w_0:Int) :Option cX:=ur (aT ((Hl).run) fun _ =>
  aT (cO (gZ w_0) (0,0,(60:Int),([]:List Int))) fun (b11,b12,l13) =>
  (vx b11 l13).run)
theorem Hm(w_0:Int){x:cX}(h:fJ w_0=some x) :ak prog th [] [.int .u64 w_0] (tC x) :=
  xc false tC pM h (Sg.cut 3 rI (cp fI (Hk w_0) [⟨[],[],[0,3,4]⟩]) (fun _=>Sg.cut 1 rI (LW ⟨[(.slot 3,.own 1 1 (.ns .u8 ([]:List Int)))],[0],[0,3,4]⟩ (nZ w_0) (xu) 0 rI (Hi _) (fun ⟨b6,b7,i9,l10⟩=>Fx w_0 b6 b7 i9 l10)) (fun ⟨b11,b12,l13⟩=>cp fI uF [⟨[],[],[2]⟩])))
    (fun x=>by cases x with | r0 s14=>exact ra [.str s14])
def oa:Option cX→Bool
  | some _=>true
  | none=>false
def lq:Option cX→ByteArray
  | some (.r0 x)=>x
  | _=>ByteArray.empty
theorem Hn{x:Option cX}(h:oa x=true) :x=some (.r0 (lq x)):=by
  unfold oa at h
  split at h<;>first | rfl | (cases h;done) | (rename_i y;cases y;rfl)
noncomputable def zT:aK:=cT th (.cons (.int .u64) .nil) fun t=>(fun q=>[⟨tC (.r0 (lq q)),[oa q]⟩]) (fJ t.1)
theorem Dd:aV prog zT:=aU fun t=>(aZ (fun h=>Hm t.1 (Hn h)) bI)
noncomputable def zU:List aK:=zT::uh
theorem eH:bo prog (bt zU):=au Dd fI
inductive cB where
  | r0 (s5:ByteArray)
def zV:cB→AE×az
  | .r0 s5=>(.ret,⟨an 31 [(2,.str s5)],[],0⟩)
theorem oc:qZ zV:=by intro x;cases x<;>(intro h;cases h)
def tD:cB→mW
  | .r0 s5=>⟨.str s5,[]⟩
def Ho(a_0:Int)(a_1:Int)(a_2:Int)(v_3:Lv)(a_4:List Int)(a_5:Int)(a_6:Int)(s1:ByteArray) :az:=⟨an 31 [(1,.ptr 0 1 0 0),(3,.str s1)],[(0,.vs [.int .i64 a_0,.int .i64 a_1,.int .i64 a_2,.imm v_3 (.ns .u64 a_4) 1 1 0 (List.length a_4),.int .i64 a_5,.int .u64 a_6])],1⟩
def rJ(a_0:Int) :T ((ByteArray)⊕(cB)) :=
  .need (oK a_0 7)<|.need (gO (Int.toNat a_0) (List.length [ByteArray.empty,(ByteArray.mk #[101,105,103,101,110]),(ByteArray.mk #[118,97,108,117,101,115]),(ByteArray.mk #[115,118,100]),(ByteArray.mk #[114,97,110,107]),(ByteArray.mk #[105,110,118,101,114,115,101]),(ByteArray.mk #[99,111,110,100])]))<|.leaf (.inl (List.getD [ByteArray.empty,(ByteArray.mk #[101,105,103,101,110]),(ByteArray.mk #[118,97,108,117,101,115]),(ByteArray.mk #[115,118,100]),(ByteArray.mk #[114,97,110,107]),(ByteArray.mk #[105,110,118,101,114,115,101]),(ByteArray.mk #[99,111,110,100])] (Int.toNat a_0) ByteArray.empty))
def Hp(a_0:Int)(a_1:Int)(a_2:Int)(v_3:Lv)(a_4:List Int)(a_5:Int)(a_6:Int)(s2:ByteArray) :az:=⟨an 31 [(1,.ptr 0 1 0 0),(3,.str s2)],[(0,.vs [.int .i64 a_0,.int .i64 a_1,.int .i64 a_2,.imm v_3 (.ns .u64 a_4) 1 1 0 (List.length a_4),.int .i64 a_5,.int .u64 a_6])],1⟩
def rK(a_0:Int)(a_5:Int)(s1:ByteArray) :T ((ByteArray)⊕(cB)) :=
  .ask (a_0 != (2:Int))
    (.need (decide (s1.size+(ByteArray.mk #[32]).size≤9223372036854775807))<|.need (fw .i64 a_5)<|.need (decide ((s1++(ByteArray.mk #[32])).size+(bj a_5).size≤9223372036854775807))<|.leaf (.inl ((s1++(ByteArray.mk #[32]))++(bj a_5))))
    (.leaf (.inl s1))
def Hq(a_0:Int)(a_1:Int)(a_2:Int)(v_3:Lv)(a_4:List Int)(a_5:Int)(a_6:Int)(s2:ByteArray)(b3:Bool) :az:=⟨an 31 [(1,.ptr 0 1 0 0),(3,.str s2),(23,.bool false b3)],[(0,.vs [.int .i64 a_0,.int .i64 a_1,.int .i64 a_2,.imm v_3 (.ns .u64 a_4) 1 1 0 (List.length a_4),.int .i64 a_5,.int .u64 a_6])],1⟩
def rL(a_0:Int) :T ((Bool)⊕(cB)) :=
  .ask (a_0==(4:Int))
    (.leaf (.inl true))
    (.leaf (.inl (a_0==(5:Int))))
def Hr(s4:ByteArray) :az:=⟨an 31 [(3,.str s4)],[],0⟩
def rM(a_6:Int)(s2:ByteArray)(b3:Bool) :T ((ByteArray)⊕(cB)) :=
  .ask b3
    (.need (decide (s2.size+(ByteArray.mk #[32]).size≤9223372036854775807))<|.need (oa (fJ a_6))<|.need (decide ((s2++(ByteArray.mk #[32])).size+(lq (fJ a_6)).size≤9223372036854775807))<|.leaf (.inl ((s2++(ByteArray.mk #[32]))++(lq (fJ a_6)))))
    (.leaf (.inl s2))
def vy(s4:ByteArray) :T ((Empty)⊕(cB)) :=
  .leaf (.inr (.r0 s4))
noncomputable def jj(a_0:Int)(a_5:Int)(a_6:Int) :Option cB:=ur (aT ((rJ a_0).run) fun s1 =>
  aT ((rK a_0 a_5 s1).run) fun s2 =>
  aT ((rL a_0).run) fun b3 =>
  aT ((rM a_6 s2 b3).run) fun s4 =>
  (vy s4).run)
theorem Hs(a_0:Int)(a_1:Int)(a_2:Int)(v_3:Lv)(a_4:List Int)(a_5:Int)(a_6:Int){x:cB}(h:jj a_0 a_5 a_6=some x) :ak prog zx [] [.agg [.int .i64 a_0,.int .i64 a_1,.int .i64 a_2,.imm v_3 (.ns .u64 a_4) 1 1 0 (List.length a_4),.int .i64 a_5,.int .u64 a_6]] (tD x) :=
  xc false tD zV h (Sg.cut 2 oc (cp eH (Ho a_0 a_1 a_2 v_3 a_4 a_5 a_6) [⟨[],[0],[1,3]⟩]) (fun s1=>Sg.cut 2 oc (cp eH (Hp a_0 a_1 a_2 v_3 a_4 a_5 a_6) [⟨[],[0],[1,3]⟩,⟨[],[0],[1,3]⟩]) (fun s2=>Sg.cut 1 oc (cp eH (Hq a_0 a_1 a_2 v_3 a_4 a_5 a_6 s2) [⟨[],[0],[1,3,23]⟩,⟨[],[0],[1,3,23]⟩]) (fun b3=>Sg.cut 1 oc (cp eH Hr [⟨[],[],[3]⟩,⟨[],[],[3]⟩]) (fun s4=>cp eH uF [⟨[],[],[2]⟩])))))
    (fun x=>by cases x with | r0 s5=>exact ra [.str s5])
def od:Option cB→Bool
  | some _=>true
  | none=>false
def oZ:Option cB→ByteArray
  | some (.r0 x)=>x
  | _=>ByteArray.empty
theorem Ht{x:Option cB}(h:od x=true) :x=some (.r0 (oZ x)):=by
  unfold od at h
  split at h<;>first | rfl | (cases h;done) | (rename_i y;cases y;rfl)
noncomputable def zW:aK:=cT zx (.cons (.agg (.cons (.int .i64) (.cons (.int .i64) (.cons (.int .i64) (.cons (.ns .u64) (.cons (.int .i64) (.cons (.int .u64) .nil))))))) .nil) fun t=>(fun q=>[⟨tD (.r0 (oZ q)),[od q]⟩]) (jj t.1.1 t.1.2.2.2.2.1 t.1.2.2.2.2.2.1)
theorem De:aV prog zW:=aU fun t=>(aZ (fun h=>Hs t.1.1 t.1.2.1 t.1.2.2.1 t.1.2.2.2.1.1 t.1.2.2.2.1.2 t.1.2.2.2.2.1 t.1.2.2.2.2.2.1 (Ht h)) bI)
noncomputable def zX:List aK:=zW::zU
theorem cm:bo prog (bt zX):=au De eH
inductive aM where
  | r0 (b13:Bool) (a14:Nat) (i15:Int) (i17:Int)
def mt:aM→AE×az
  | .r0 b13 a14 i15 i17=>(.ret,⟨an 61 [(2,.ptr 0 1 0 0),(3,.bool false b13)],[(0,.vs [.int .i64 ((a14:Nat):Int),.int .i64 (0:Int),.int .i64 (0:Int),.nsl,.int .i64 i15,.int .u64 i17])],1⟩)
theorem cC:qZ mt:=by intro x;cases x<;>(intro h;cases h)
theorem Df(id:Nat) :pF id mt:=by intro x;cases x<;>(intro h;cases h)
def qu:aM→mW
  | .r0 b13 a14 i15 i17=>⟨.tup [.agg [.int .i64 ((a14:Nat):Int),.int .i64 (0:Int),.int .i64 (0:Int),.nsl,.int .i64 i15,.int .u64 i17],.bool false b13],[]⟩
noncomputable def BE:List Code:=cN (qI qh)
def Dg(s_0:ByteArray) :Nat×Nat×(List ByteArray)→az:=fun (w1,w2,l3)=>⟨an 61 [(0,.str s_0),(2,.ptr 0 1 0 0),(4,.sl 1 1 1 0 w1 w2)],[(0,.vs [.int .i64 (0:Int),.int .i64 (0:Int),.int .i64 (0:Int),.nsl,.int .i64 (0:Int),.int .u64 (0:Int)]),(1,.ss l3)],2⟩
def nB(s_0:ByteArray) :T ((Nat×Nat×(List ByteArray))⊕(aM)) :=
  .need (fa (bv s_0))<|.leaf (.inl ((fb (bv s_0)),(fc (bv s_0)),(fe (bv s_0))))
def Dh(s_0:ByteArray)(w1:Nat)(w2:Nat)(l3:List ByteArray)(_:Unit) :az:=⟨an 61 [(0,.str s_0),(2,.ptr 0 1 0 0),(4,.sl 1 1 1 0 w1 w2),(5,.ptr 2 1 0 0),(6,.int .i64 (1:Int))],[(0,.vs [.int .i64 (0:Int),.int .i64 (0:Int),.int .i64 (0:Int),.nsl,.int .i64 (0:Int),.int .u64 (0:Int)]),(1,.ss l3),(2,.vs [.int .i64 (0:Int),.int .i64 (0:Int),.int .i64 (0:Int),.nsl,.int .i64 (0:Int),.int .u64 (0:Int)])],3⟩
def BF:T ((Unit)⊕(aM)) :=
  .leaf (.inl ())
def lr(s_0:ByteArray)(w1:Nat)(w2:Nat)(l3:List ByteArray) :Nat×Nat→az:=fun (k5,a6)=>⟨an 61 [(0,.str s_0),(2,.ptr 0 1 0 0),(4,.sl 1 1 1 0 w1 w2),(5,.ptr 2 1 0 0),(6,.int .i64 ((k5:Nat):Int))],[(0,.vs [.int .i64 (0:Int),.int .i64 (0:Int),.int .i64 (0:Int),.nsl,.int .i64 (0:Int),.int .u64 (0:Int)]),(1,.ss l3),(2,.vs [.int .i64 ((a6:Nat):Int),.int .i64 (0:Int),.int .i64 (0:Int),.nsl,.int .i64 (0:Int),.int .u64 (0:Int)])],3⟩
def ui(s_0:ByteArray)(w1:Nat)(w2:Nat)(l3:List ByteArray)(a8:Nat) :az:=⟨an 61 [(0,.str s_0),(2,.ptr 0 1 0 0),(4,.sl 1 1 1 0 w1 w2),(5,.ptr 2 1 0 0)],[(0,.vs [.int .i64 (0:Int),.int .i64 (0:Int),.int .i64 (0:Int),.nsl,.int .i64 (0:Int),.int .u64 (0:Int)]),(1,.ss l3),(2,.vs [.int .i64 ((a8:Nat):Int),.int .i64 (0:Int),.int .i64 (0:Int),.nsl,.int .i64 (0:Int),.int .u64 (0:Int)])],3⟩
noncomputable def BG:List Code:=cN (fA (((((BE.drop 2).drop 2).take 1)).headD .skip))
def Di(s_0:ByteArray)(w1:Nat)(w2:Nat)(l3:List ByteArray)(k5:Nat)(a7:Nat) :az:=⟨an 61 [(0,.str s_0),(2,.ptr 0 1 0 0),(4,.sl 1 1 1 0 w1 w2),(5,.ptr 2 1 0 0),(6,.int .i64 ((k5:Nat):Int))],[(0,.vs [.int .i64 (0:Int),.int .i64 (0:Int),.int .i64 (0:Int),.nsl,.int .i64 (0:Int),.int .u64 (0:Int)]),(1,.ss l3),(2,.vs [.int .i64 ((a7:Nat):Int),.int .i64 (0:Int),.int .i64 (0:Int),.nsl,.int .i64 (0:Int),.int .u64 (0:Int)])],3⟩
def sy(w1:Nat)(l3:List ByteArray)(k5:Nat)(a6:Nat) :T ((Nat)⊕((Nat)⊕(aM))) :=
  .ask (decide (((k5:Nat):Int)≤(6:Int)))
    (.need (oK (0:Int) w1)<|.need (gO 0 (List.length l3))<|.need (oK ((k5:Nat):Int) 7)<|.need (gO k5 (List.length [ByteArray.empty,(ByteArray.mk #[101,105,103,101,110]),(ByteArray.mk #[118,97,108,117,101,115]),(ByteArray.mk #[115,118,100]),(ByteArray.mk #[114,97,110,107]),(ByteArray.mk #[105,110,118,101,114,115,101]),(ByteArray.mk #[99,111,110,100])]))<|.ask ((List.getD l3 0 ByteArray.empty).toList==(List.getD [ByteArray.empty,(ByteArray.mk #[101,105,103,101,110]),(ByteArray.mk #[118,97,108,117,101,115]),(ByteArray.mk #[115,118,100]),(ByteArray.mk #[114,97,110,107]),(ByteArray.mk #[105,110,118,101,114,115,101]),(ByteArray.mk #[99,111,110,100])] k5 ByteArray.empty).toList)
      (.leaf (.inl k5))
      (.leaf (.inl a6)))
    (.leaf (.inr (.inl a6)))
def BH(k5:Nat)(a7:Nat) :T ((Nat×Nat)⊕((Nat)⊕(aM))) :=
  .need (fw .i64 (((k5+1):Nat):Int))<|.leaf (.inl ((k5+1),a7))
noncomputable def fh(w1:Nat)(l3:List ByteArray) :Nat×Nat→Option ((Nat×Nat)⊕((Nat)⊕(aM))):=fun (k5,a6) =>
  aT ((sy w1 l3 k5 a6).run) fun a7 =>
  (BH k5 a7).run
theorem BI(s_0:ByteArray)(w1:Nat)(w2:Nat)(l3:List ByteArray)(k5:Nat)(a6:Nat) :Sg prog [] BG (lr s_0 w1 w2 l3 (k5,a6)) (fh w1 l3 (k5,a6)) (lr s_0 w1 w2 l3) (eE 0 (ui s_0 w1 w2 l3) mt):=by
  unfold fh;exact Sg.cut 3 (cH cC) (cp cm (Di s_0 w1 w2 l3 k5) [⟨[],[0,1,2],[0,2,4,5,6]⟩,⟨[],[0,1,2],[0,2,4,5,6]⟩,⟨[],[0,1,2],[0,2,4,5]⟩]) (fun a7=>cp cm (lr s_0 w1 w2 l3) [⟨[],[0,1,2],[0,2,4,5,6]⟩])
def Dj(s_0:ByteArray)(w1:Nat)(w2:Nat)(l3:List ByteArray)(a8:Nat)(b9:Bool) :az:=⟨an 61 [(0,.str s_0),(2,.ptr 0 1 0 0),(4,.sl 1 1 1 0 w1 w2),(5,.ptr 2 1 0 0),(31,.bool false b9)],[(0,.vs [.int .i64 (0:Int),.int .i64 (0:Int),.int .i64 (0:Int),.nsl,.int .i64 (0:Int),.int .u64 (0:Int)]),(1,.ss l3),(2,.vs [.int .i64 ((a8:Nat):Int),.int .i64 (0:Int),.int .i64 (0:Int),.nsl,.int .i64 (0:Int),.int .u64 (0:Int)])],3⟩
def sA(w1:Nat)(l3:List ByteArray) :T ((Bool)⊕(aM)) :=
  .ask (decide (((w1:Nat):Int)>(1:Int)))
    (.need (oK (1:Int) w1)<|.need (gO 1 (List.length l3))<|.leaf (.inl ((((List.getD l3 1 ByteArray.empty).size:Nat):Int)==(1:Int))))
    (.leaf (.inl false))
def BJ(s_0:ByteArray)(w1:Nat)(w2:Nat)(l3:List ByteArray)(a8:Nat)(i10:Int) :az:=⟨an 61 [(0,.str s_0),(2,.ptr 0 1 0 0),(4,.sl 1 1 1 0 w1 w2),(5,.ptr 2 1 0 0)],[(0,.vs [.int .i64 (0:Int),.int .i64 (0:Int),.int .i64 (0:Int),.nsl,.int .i64 (0:Int),.int .u64 (0:Int)]),(1,.ss l3),(2,.vs [.int .i64 ((a8:Nat):Int),.int .i64 (0:Int),.int .i64 (0:Int),.nsl,.int .i64 i10,.int .u64 (0:Int)])],3⟩
def sB(w1:Nat)(l3:List ByteArray)(b9:Bool) :T ((Int)⊕(aM)) :=
  .ask b9
    (.need (oK (1:Int) w1)<|.need (gO 1 (List.length l3))<|.need (oK (0:Int) (List.getD l3 1 ByteArray.empty).size)<|.need (fw .i64 ((IntKind.i64.wrap (aD (List.getD l3 1 ByteArray.empty) 0))-(48:Int)))<|.leaf (.inl ((IntKind.i64.wrap (aD (List.getD l3 1 ByteArray.empty) 0))-(48:Int))))
    (.leaf (.inl (0:Int)))
def BL(s_0:ByteArray)(a8:Nat)(i10:Int)(i11:Int) :az:=⟨an 61 [(0,.str s_0),(2,.ptr 0 1 0 0),(5,.ptr 1 1 0 0)],[(0,.vs [.int .i64 (0:Int),.int .i64 (0:Int),.int .i64 (0:Int),.nsl,.int .i64 (0:Int),.int .u64 (0:Int)]),(1,.vs [.int .i64 ((a8:Nat):Int),.int .i64 (0:Int),.int .i64 (0:Int),.nsl,.int .i64 i10,.int .u64 i11])],2⟩
def nC(w1:Nat)(l3:List ByteArray) :T ((Int)⊕(aM)) :=
  .ask (decide (((w1:Nat):Int)>(2:Int)))
    (.need (oK (2:Int) w1)<|.need (gO 2 (List.length l3))<|.need (lc (dt (List.getD l3 2 ByteArray.empty)))<|.leaf (.inl (gj (dt (List.getD l3 2 ByteArray.empty)))))
    (.leaf (.inl (0:Int)))
def BM(a8:Nat)(i10:Int)(i11:Int)(b12:Bool) :az:=⟨an 61 [(2,.ptr 0 1 0 0),(5,.ptr 1 1 0 0),(58,.bool false b12)],[(0,.vs [.int .i64 (0:Int),.int .i64 (0:Int),.int .i64 (0:Int),.nsl,.int .i64 (0:Int),.int .u64 (0:Int)]),(1,.vs [.int .i64 ((a8:Nat):Int),.int .i64 (0:Int),.int .i64 (0:Int),.nsl,.int .i64 i10,.int .u64 i11])],2⟩
def nD(s_0:ByteArray)(a8:Nat)(i10:Int)(i11:Int) :T ((Bool)⊕(aM)) :=
  .need (fg (dd ((a8:Nat):Int) i10 i11))<|.ask (!(fH (dd ((a8:Nat):Int) i10 i11)))
    (.leaf (.inl true))
    (.need (od (jj ((a8:Nat):Int) i10 i11))<|.leaf (.inl (!((oZ (jj ((a8:Nat):Int) i10 i11)).toList==s_0.toList))))
def BN(a8:Nat)(i10:Int)(i11:Int)(b12:Bool) :T ((Empty)⊕(aM)) :=
  .ask b12
    (.leaf (.inr (.r0 false 0 (0:Int) (0:Int))))
    (.leaf (.inr (.r0 true a8 i10 i11)))
noncomputable def cy(s_0:ByteArray) :Option aM:=ur (aT ((nB s_0).run) fun (w1,w2,l3) =>
  aT ((BF).run) fun _ =>
  aT (cO (fh w1 l3) (1,0)) fun a8 =>
  aT ((sA w1 l3).run) fun b9 =>
  aT ((sB w1 l3 b9).run) fun i10 =>
  aT ((nC w1 l3).run) fun i11 =>
  aT ((nD s_0 a8 i10 i11).run) fun b12 =>
  (BN a8 i10 i11 b12).run)
theorem Dk(s_0:ByteArray){x:aM}(h:cy s_0=some x) :ak prog qh [] [.str s_0] (qu x) :=
  xc false qu mt h (Sg.cut 2 cC (cp cm (Dg s_0) [⟨[],[0,48],[0,2,4]⟩]) (fun ⟨w1,w2,l3⟩=>Sg.cut 2 cC (cp cm (Dh s_0 w1 w2 l3) [⟨[],[0,1,18],[0,2,4,5,6]⟩]) (fun _=>Sg.cut 1 cC (LW ⟨[],[0,1,2],[0,2,4,5,6]⟩ (lr s_0 w1 w2 l3) (ui s_0 w1 w2 l3) 0 cC (Df _) (fun ⟨k5,a6⟩=>BI s_0 w1 w2 l3 k5 a6)) (fun a8=>Sg.cut 1 cC (cp cm (Dj s_0 w1 w2 l3 a8) [⟨[],[0,1,2],[0,2,4,5,31]⟩,⟨[],[0,1,2],[0,2,4,5,31]⟩]) (fun b9=>Sg.cut 1 cC (cp cm (BJ s_0 w1 w2 l3 a8) [⟨[],[0,1,2],[0,2,4,5]⟩,⟨[],[0,1,2],[0,2,4,5]⟩]) (fun i10=>Sg.cut 2 cC (cp cm (BL s_0 a8 i10) [⟨[],[0,2],[0,2,5]⟩,⟨[],[0,2],[0,2,5]⟩]) (fun i11=>Sg.cut 1 cC (cp cm (BM a8 i10 i11) [⟨[],[0,1],[2,5,58]⟩,⟨[],[0,1],[2,5,58]⟩]) (fun b12=>cp cm uF [⟨[],[0],[2,3]⟩,⟨[],[0],[2,3]⟩]))))))))
    (fun x=>by cases x with | r0 b13 a14 i15 i17=>exact ra [.agg [.int .i64 ((a14:Nat):Int),.int .i64 (0:Int),.int .i64 (0:Int),.nsl,.int .i64 i15,.int .u64 i17],.bool false b13])
def lu:Option aM→Bool
  | some _=>true
  | none=>false
def mu:Option aM→Bool
  | some (.r0 x _ _ _)=>x
  | _=>false
def mv:Option aM→Nat
  | some (.r0 _ x _ _)=>x
  | _=>0
def mw:Option aM→Int
  | some (.r0 _ _ x _)=>x
  | _=>0
def my:Option aM→Int
  | some (.r0 _ _ _ x)=>x
  | _=>0
theorem Dl{x:Option aM}(h:lu x=true) :x=some (.r0 (mu x) (mv x) (mw x) (my x)):=by
  unfold lu at h
  split at h<;>first | rfl | (cases h;done) | (rename_i y;cases y;rfl)
noncomputable def vz:aK:=cT qh (.cons .str .nil) fun t=>(fun q=>[⟨qu (.r0 (mu q) (mv q) (mw q) (my q)),[lu q]⟩]) (cy t.1)
theorem zY:aV prog vz:=aU fun t=>(aZ (fun h=>Dk t.1 (Dl h)) bI)
noncomputable def vA:List aK:=vz::zX
theorem dF:bo prog (bt vA):=au zY cm
inductive bz where
  | r0 (a16:Nat) (a17:Nat) (b18:Bool) (l19:List Int)
def oe:bz→AE×az
  | .r0 a16 a17 b18 l19=>(.ret,⟨an 32 [(2,.sl 0 1 1 0 a16 a17),(3,.bool false b18)],[(0,.ns .u64 l19)],1⟩)
theorem hH:qZ oe:=by intro x;cases x<;>(intro h;cases h)
theorem Fy(id:Nat) :pF id oe:=by intro x;cases x<;>(intro h;cases h)
def rN:bz→mW
  | .r0 a16 a17 b18 l19=>⟨.tup [.sl 0 1 1 0 a16 a17,.bool false b18],[some (.ns .u64 l19)]⟩
noncomputable def Dm:List Code:=cN (qI rz)
def Fz:Nat×Nat×(List ByteArray)→az:=fun (w1,w2,l3)=>⟨an 32 [(4,.sl 0 1 1 0 w1 w2)],[(0,.ss l3)],1⟩
def pa(s_0:ByteArray) :T ((Nat×Nat×(List ByteArray))⊕(bz)) :=
  .need (fa (bv s_0))<|.leaf (.inl ((fb (bv s_0)),(fc (bv s_0)),(fe (bv s_0))))
def FB(w1:Nat)(w2:Nat)(l3:List ByteArray)(_:Unit) :az:=⟨an 32 [(4,.sl 0 1 1 0 w1 w2),(5,.nsl),(6,.int .i64 (0:Int))],[(0,.ss l3)],1⟩
def Dn:T ((Unit)⊕(bz)) :=
  .leaf (.inl ())
def mz(w1:Nat)(w2:Nat)(l3:List ByteArray) :Nat×Nat×Nat×(List Int)→az:=fun (l7,l8,i9,l10)=>⟨an 32 [(4,.sl 0 1 1 0 w1 w2),(5,.sl 1 1 1 0 l7 l8),(6,.int .i64 ((i9:Nat):Int))],[(0,.ss l3),(1,.ns .u64 l10)],2⟩
def vB:Nat×Nat×(List Int)→az:=fun (l13,l14,l15)=>⟨an 32 [(5,.sl 0 1 1 0 l13 l14)],[(0,.ns .u64 l15)],1⟩
noncomputable def Do:List Code:=cN (fA (((((Dm.drop 2).drop 2).take 1)).headD .skip))
def FC(w1:Nat)(w2:Nat)(l3:List ByteArray)(i9:Nat) :Nat×(List Int)→az:=fun (l11,l12)=>⟨an 32 [(4,.sl 0 1 1 0 w1 w2),(5,.sl 1 1 1 0 l11 l11),(6,.int .i64 ((i9:Nat):Int))],[(0,.ss l3),(1,.ns .u64 l12)],2⟩
def pb(w1:Nat)(l3:List ByteArray)(l7:Nat)(l8:Nat)(i9:Nat)(l10:List Int) :T ((Nat×(List Int))⊕((Nat×Nat×(List Int))⊕(bz))) :=
  .ask (decide (((i9:Nat):Int)<((w1:Nat):Int)))
    (.need (oK ((i9:Nat):Int) w1)<|.need (gO i9 (List.length l3))<|.need (lc (dt (List.getD l3 i9 ByteArray.empty)))<|.ask ((((oX (dt (List.getD l3 i9 ByteArray.empty))):Nat):Int) != (0:Int))
      (.leaf (.inr (.inr (.r0 0 0 false ([]:List Int)))))
      (.need (fS ((l7+1)*8) 140737488355328)<|.need (fS (l7+1) 9223372036854775807)<|.need (fS 1 (List.length [(gj (dt (List.getD l3 i9 ByteArray.empty)))]))<|.need (fS l7 (List.length l10))<|.leaf (.inl ((l7+1),((List.take l7 l10)++(List.take 1 [(gj (dt (List.getD l3 i9 ByteArray.empty)))]))))))
    (.leaf (.inr (.inl (l7,l8,l10))))
def Dp(i9:Nat)(l11:Nat)(l12:List Int) :T ((Nat×Nat×Nat×(List Int))⊕((Nat×Nat×(List Int))⊕(bz))) :=
  .need (fw .i64 (((i9+1):Nat):Int))<|.leaf (.inl (l11,l11,(i9+1),l12))
noncomputable def lw(w1:Nat)(l3:List ByteArray) :Nat×Nat×Nat×(List Int)→Option ((Nat×Nat×Nat×(List Int))⊕((Nat×Nat×(List Int))⊕(bz))):=fun (l7,l8,i9,l10) =>
  aT ((pb w1 l3 l7 l8 i9 l10).run) fun (l11,l12) =>
  (Dp i9 l11 l12).run
theorem Dq(w1:Nat)(w2:Nat)(l3:List ByteArray)(l7:Nat)(l8:Nat)(i9:Nat)(l10:List Int) :Sg prog [] Do (mz w1 w2 l3 (l7,l8,i9,l10)) (lw w1 l3 (l7,l8,i9,l10)) (mz w1 w2 l3) (eE 0 vB oe):=by
  unfold lw;exact Sg.cut 3 (cH hH) (cp dF (FC w1 w2 l3 i9) [⟨[(.slot 2,.own 1 1 (.ns .u64 ([]:List Int)))],[290],[2,3]⟩,⟨[],[0,306],[4,5,6]⟩,⟨[],[1],[5]⟩]) (fun ⟨l11,l12⟩=>cp dF (mz w1 w2 l3) [⟨[],[0,1],[4,5,6]⟩])
def Dr(l13:Nat)(l14:Nat)(l15:List Int) :T ((Empty)⊕(bz)) :=
  .leaf (.inr (.r0 l13 l14 true l15))
noncomputable def bG(s_0:ByteArray) :Option bz:=ur (aT ((pa s_0).run) fun (w1,w2,l3) =>
  aT ((Dn).run) fun _ =>
  aT (cO (lw w1 l3) (0,0,0,([]:List Int))) fun (l13,l14,l15) =>
  (Dr l13 l14 l15).run)
theorem FD(s_0:ByteArray){x:bz}(h:bG s_0=some x) :ak prog rz [] [.str s_0] (rN x) :=
  xc false rN oe h (Sg.cut 2 hH (cp dF Fz [⟨[],[48],[4]⟩]) (fun ⟨w1,w2,l3⟩=>Sg.cut 2 hH (cp dF (FB w1 w2 l3) [⟨[],[0],[4,5,6]⟩]) (fun _=>Sg.cut 1 hH (LW ⟨[(.slot 5,.own 1 1 (.ns .u64 ([]:List Int)))],[0,1],[4,5,6]⟩ (mz w1 w2 l3) (vB) 0 hH (Fy _) (fun ⟨l7,l8,i9,l10⟩=>Dq w1 w2 l3 l7 l8 i9 l10)) (fun ⟨l13,l14,l15⟩=>cp dF uF [⟨[],[0],[2,3]⟩]))))
    (fun x=>by cases x with | r0 a16 a17 b18 l19=>exact ra [.sl 0 1 1 0 a16 a17,.bool false b18])
def mA:Option bz→Bool
  | some _=>true
  | none=>false
def cJ:Option bz→Nat
  | some (.r0 x _ _ _)=>x
  | _=>0
def sC:Option bz→Nat
  | some (.r0 _ x _ _)=>x
  | _=>0
def nE:Option bz→Bool
  | some (.r0 _ _ x _)=>x
  | _=>false
def jk:Option bz→List Int
  | some (.r0 _ _ _ x)=>x
  | _=>[]
theorem FE{x:Option bz}(h:mA x=true) :x=some (.r0 (cJ x) (sC x) (nE x) (jk x)):=by
  unfold mA at h
  split at h<;>first | rfl | (cases h;done) | (rename_i y;cases y;rfl)
noncomputable def xv:aK:=cT rz (.cons .str .nil) fun t=>(fun q=>[⟨rN (.r0 (cJ q) (sC q) (nE q) (jk q)),[mA q]⟩]) (bG t.1)
theorem BO:aV prog xv:=aU fun t=>(aZ (fun h=>FD t.1 (FE h)) bI)
noncomputable def xw:List aK:=xv::vA
theorem fi:bo prog (bt xw):=au BO dF
inductive ct where
  | r0 (b3:Bool)
def pN:ct→AE×az
  | .r0 b3=>(.ret,⟨an 66 [(4,.bool false b3)],[],0⟩)
theorem og:qZ pN:=by intro x;cases x<;>(intro h;cases h)
theorem Hu(id:Nat) :pF id pN:=by intro x;cases x<;>(intro h;cases h)
def tE:ct→mW
  | .r0 b3=>⟨.bool false b3,[]⟩
noncomputable def Hv:List Code:=cN (qI tf)
def Hw(a_0:Int)(a_1:Int)(a_2:Int)(v_3:Lv)(a_4:List Int)(a_5:Int)(a_6:Int)(b_7:Int)(b_8:Int)(b_9:Int)(v_10:Lv)(b_11:List Int)(b_12:Int)(b_13:Int)(b1:Bool) :az:=⟨an 66 [(2,.ptr 0 1 0 0),(3,.ptr 1 1 0 0),(47,.bool false b1)],[(0,.vs [.int .i64 a_0,.int .i64 a_1,.int .i64 a_2,.imm v_3 (.ns .u64 a_4) 1 1 0 (List.length a_4),.int .i64 a_5,.int .u64 a_6]),(1,.vs [.int .i64 b_7,.int .i64 b_8,.int .i64 b_9,.imm v_10 (.ns .u64 b_11) 1 1 0 (List.length b_11),.int .i64 b_12,.int .u64 b_13])],2⟩
def rO(a_0:Int)(a_1:Int)(a_2:Int)(a_4:List Int)(a_5:Int)(a_6:Int)(b_7:Int)(b_8:Int)(b_9:Int)(b_11:List Int)(b_12:Int)(b_13:Int) :T ((Bool)⊕(ct)) :=
  .ask (a_0 != b_7)
    (.leaf (.inl true))
    (.ask (a_1 != b_8)
      (.leaf (.inl true))
      (.ask (a_2 != b_9)
        (.leaf (.inl true))
        (.ask (a_5 != b_12)
          (.leaf (.inl true))
          (.ask (a_6 != b_13)
            (.leaf (.inl true))
            (.leaf (.inl ((((List.length a_4):Nat):Int) != (((List.length b_11):Nat):Int))))))))
def Hx(a_0:Int)(a_1:Int)(a_2:Int)(v_3:Lv)(a_4:List Int)(a_5:Int)(a_6:Int)(b_7:Int)(b_8:Int)(b_9:Int)(v_10:Lv)(b_11:List Int)(b_12:Int)(b_13:Int)(_:Unit) :az:=⟨an 66 [(2,.ptr 0 1 0 0),(3,.ptr 1 1 0 0),(5,.int .i64 (0:Int))],[(0,.vs [.int .i64 a_0,.int .i64 a_1,.int .i64 a_2,.imm v_3 (.ns .u64 a_4) 1 1 0 (List.length a_4),.int .i64 a_5,.int .u64 a_6]),(1,.vs [.int .i64 b_7,.int .i64 b_8,.int .i64 b_9,.imm v_10 (.ns .u64 b_11) 1 1 0 (List.length b_11),.int .i64 b_12,.int .u64 b_13])],2⟩
def xx(b1:Bool) :T ((Unit)⊕(ct)) :=
  .ask b1
    (.leaf (.inr (.r0 false)))
    (.leaf (.inl ()))
def oh(a_0:Int)(a_1:Int)(a_2:Int)(v_3:Lv)(a_4:List Int)(a_5:Int)(a_6:Int)(b_7:Int)(b_8:Int)(b_9:Int)(v_10:Lv)(b_11:List Int)(b_12:Int)(b_13:Int)(i2:Nat) :az:=⟨an 66 [(2,.ptr 0 1 0 0),(3,.ptr 1 1 0 0),(5,.int .i64 ((i2:Nat):Int))],[(0,.vs [.int .i64 a_0,.int .i64 a_1,.int .i64 a_2,.imm v_3 (.ns .u64 a_4) 1 1 0 (List.length a_4),.int .i64 a_5,.int .u64 a_6]),(1,.vs [.int .i64 b_7,.int .i64 b_8,.int .i64 b_9,.imm v_10 (.ns .u64 b_11) 1 1 0 (List.length b_11),.int .i64 b_12,.int .u64 b_13])],2⟩
def xy(_:Unit) :az:=⟨an 66 [],[],0⟩
noncomputable def FF:List Code:=cN (fA (((((Hv.drop 2).drop 2).take 1)).headD .skip))
def FG(a_4:List Int)(b_11:List Int)(i2:Nat) :T ((Nat)⊕((Unit)⊕(ct))) :=
  .ask (decide (((i2:Nat):Int)<(((List.length a_4):Nat):Int)))
    (.need (oK ((i2:Nat):Int) (List.length a_4))<|.need (gO i2 (List.length a_4))<|.need (oK ((i2:Nat):Int) (List.length b_11))<|.need (gO i2 (List.length b_11))<|.ask ((List.getD a_4 i2 0) != (List.getD b_11 i2 0))
      (.leaf (.inr (.inr (.r0 false))))
      (.need (fw .i64 (((i2+1):Nat):Int))<|.leaf (.inl (i2+1))))
    (.leaf (.inr (.inl ())))
noncomputable def qv(a_4:List Int)(b_11:List Int) :Nat→Option ((Nat)⊕((Unit)⊕(ct))):=fun i2 =>
  (FG a_4 b_11 i2).run
theorem FH(a_0:Int)(a_1:Int)(a_2:Int)(v_3:Lv)(a_4:List Int)(a_5:Int)(a_6:Int)(b_7:Int)(b_8:Int)(b_9:Int)(v_10:Lv)(b_11:List Int)(b_12:Int)(b_13:Int)(i2:Nat) :Sg prog [] FF (oh a_0 a_1 a_2 v_3 a_4 a_5 a_6 b_7 b_8 b_9 v_10 b_11 b_12 b_13 i2) (qv a_4 b_11 i2) (oh a_0 a_1 a_2 v_3 a_4 a_5 a_6 b_7 b_8 b_9 v_10 b_11 b_12 b_13) (eE 0 xy pN):=by
  unfold qv;exact cp fi (oh a_0 a_1 a_2 v_3 a_4 a_5 a_6 b_7 b_8 b_9 v_10 b_11 b_12 b_13) [⟨[],[],[4]⟩,⟨[],[0,1],[2,3,5]⟩,⟨[],[],[]⟩]
def FI:T ((Empty)⊕(ct)) :=
  .leaf (.inr (.r0 true))
noncomputable def jl(a_0:Int)(a_1:Int)(a_2:Int)(a_4:List Int)(a_5:Int)(a_6:Int)(b_7:Int)(b_8:Int)(b_9:Int)(b_11:List Int)(b_12:Int)(b_13:Int) :Option ct:=ur (aT ((rO a_0 a_1 a_2 a_4 a_5 a_6 b_7 b_8 b_9 b_11 b_12 b_13).run) fun b1 =>
  aT ((xx b1).run) fun _ =>
  aT (cO (qv a_4 b_11) 0) fun _ =>
  (FI).run)
theorem Hy(a_0:Int)(a_1:Int)(a_2:Int)(v_3:Lv)(a_4:List Int)(a_5:Int)(a_6:Int)(b_7:Int)(b_8:Int)(b_9:Int)(v_10:Lv)(b_11:List Int)(b_12:Int)(b_13:Int){x:ct}(h:jl a_0 a_1 a_2 a_4 a_5 a_6 b_7 b_8 b_9 b_11 b_12 b_13=some x) :ak prog tf [] [.agg [.int .i64 a_0,.int .i64 a_1,.int .i64 a_2,.imm v_3 (.ns .u64 a_4) 1 1 0 (List.length a_4),.int .i64 a_5,.int .u64 a_6],.agg [.int .i64 b_7,.int .i64 b_8,.int .i64 b_9,.imm v_10 (.ns .u64 b_11) 1 1 0 (List.length b_11),.int .i64 b_12,.int .u64 b_13]] (tE x) :=
  xc false tE pN h (Sg.cut 2 og (cp fi (Hw a_0 a_1 a_2 v_3 a_4 a_5 a_6 b_7 b_8 b_9 v_10 b_11 b_12 b_13) [⟨[],[0,16],[2,3,47]⟩,⟨[],[0,16],[2,3,47]⟩,⟨[],[0,16],[2,3,47]⟩,⟨[],[0,16],[2,3,47]⟩,⟨[],[0,16],[2,3,47]⟩,⟨[],[0,16],[2,3,47]⟩]) (fun b1=>Sg.cut 2 og (cp fi (Hx a_0 a_1 a_2 v_3 a_4 a_5 a_6 b_7 b_8 b_9 v_10 b_11 b_12 b_13) [⟨[],[],[4]⟩,⟨[],[0,1],[2,3,5]⟩]) (fun _=>Sg.cut 1 og (LW ⟨[],[0,1],[2,3,5]⟩ (oh a_0 a_1 a_2 v_3 a_4 a_5 a_6 b_7 b_8 b_9 v_10 b_11 b_12 b_13) (xy) 0 og (Hu _) (fun i2=>FH a_0 a_1 a_2 v_3 a_4 a_5 a_6 b_7 b_8 b_9 v_10 b_11 b_12 b_13 i2)) (fun _=>cp fi uF [⟨[],[],[4]⟩]))))
    (fun x=>by cases x with | r0 b3=>exact ra [.bool false b3])
def oi:Option ct→Bool
  | some _=>true
  | none=>false
def pc:Option ct→Bool
  | some (.r0 x)=>x
  | _=>false
theorem Hz{x:Option ct}(h:oi x=true) :x=some (.r0 (pc x)):=by
  unfold oi at h
  split at h<;>first | rfl | (cases h;done) | (rename_i y;cases y;rfl)
noncomputable def zZ:aK:=cT tf (.cons (.agg (.cons (.int .i64) (.cons (.int .i64) (.cons (.int .i64) (.cons (.ns .u64) (.cons (.int .i64) (.cons (.int .u64) .nil))))))) (.cons (.agg (.cons (.int .i64) (.cons (.int .i64) (.cons (.int .i64) (.cons (.ns .u64) (.cons (.int .i64) (.cons (.int .u64) .nil))))))) .nil)) fun t=>(fun q=>[⟨tE (.r0 (pc q)),[oi q]⟩]) (jl t.1.1 t.1.2.1 t.1.2.2.1 t.1.2.2.2.1.2 t.1.2.2.2.2.1 t.1.2.2.2.2.2.1 t.2.1.1 t.2.1.2.1 t.2.1.2.2.1 t.2.1.2.2.2.1.2 t.2.1.2.2.2.2.1 t.2.1.2.2.2.2.2.1)
theorem Dt:aV prog zZ:=aU fun t=>(aZ (fun h=>Hy t.1.1 t.1.2.1 t.1.2.2.1 t.1.2.2.2.1.1 t.1.2.2.2.1.2 t.1.2.2.2.2.1 t.1.2.2.2.2.2.1 t.2.1.1 t.2.1.2.1 t.2.1.2.2.1 t.2.1.2.2.2.1.1 t.2.1.2.2.2.1.2 t.2.1.2.2.2.2.1 t.2.1.2.2.2.2.2.1 (Hz h)) bI)
noncomputable def Aa:List aK:=zZ::xw
theorem pd:bo prog (bt Aa):=au Dt fi
inductive bP where
  | r0 (a4:Nat) (a5:Nat) (l6:List ByteArray)
def uj:bP→AE×az
  | .r0 a4 a5 l6=>(.ret,⟨an 8 [(4,.sl 0 1 1 0 a4 a5)],[(0,.ss l6)],1⟩)
theorem BP:qZ uj:=by intro x;cases x<;>(intro h;cases h)
def pf:bP→mW
  | .r0 a4 a5 l6=>⟨.imm .free (.ss l6) 1 1 0 a4,[]⟩
def BQ:Nat×Nat×(List ByteArray)→az:=fun (a1,a2,l3)=>⟨an 8 [(4,.sl 0 1 1 0 a1 a2)],[(0,.ss l3)],1⟩
def sD(s_0:ByteArray)(sep_1:ByteArray) :T ((Nat×Nat×(List ByteArray))⊕(bP)) :=
  .need (dJ (bf s_0 sep_1 (0:Int) (-1:Int)))<|.leaf (.inl ((ez (bf s_0 sep_1 (0:Int) (-1:Int))),(eA (bf s_0 sep_1 (0:Int) (-1:Int))),(eB (bf s_0 sep_1 (0:Int) (-1:Int)))))
def BS(a1:Nat)(a2:Nat)(l3:List ByteArray) :T ((Empty)⊕(bP)) :=
  .leaf (.inr (.r0 a1 a2 l3))
noncomputable def cn(s_0:ByteArray)(sep_1:ByteArray) :Option bP:=ur (aT ((sD s_0 sep_1).run) fun (a1,a2,l3) =>
  (BS a1 a2 l3).run)
theorem BT(s_0:ByteArray)(sep_1:ByteArray){x:bP}(h:cn s_0 sep_1=some x) :ak prog tU [] [.str s_0,.str sep_1] (pf x) :=
  xc true pf uj h (Sg.cut 2 BP (cp pd BQ [⟨[],[48],[4]⟩]) (fun ⟨a1,a2,l3⟩=>cp pd uF [⟨[],[0],[4]⟩]))
    (fun x=>by cases x with | r0 a4 a5 l6=>exact ra [.sl 0 1 1 0 a4 a5])
def fj:Option bP→Bool
  | some _=>true
  | none=>false
def fK:Option bP→Nat
  | some (.r0 x _ _)=>x
  | _=>0
def qw:Option bP→Nat
  | some (.r0 _ x _)=>x
  | _=>0
def fL:Option bP→List ByteArray
  | some (.r0 _ _ x)=>x
  | _=>[]
theorem BU{x:Option bP}(h:fj x=true) :x=some (.r0 (fK x) (qw x) (fL x)):=by
  unfold fj at h
  split at h<;>first | rfl | (cases h;done) | (rename_i y;cases y;rfl)
noncomputable def uk:aK:=cT tU (.cons .str (.cons .str .nil)) fun t=>(fun q=>[⟨pf (.r0 (fK q) (qw q) (fL q)),[fj q]⟩]) (cn t.1 t.2.1)
theorem yn:aV prog uk:=aU fun t=>(aZ (fun h=>BT t.1 t.2.1 (BU h)) bI)
noncomputable def ul:List aK:=uk::Aa
theorem lE:bo prog (bt ul):=au yn pd
inductive aR where
  | r0 (before4:ByteArray) (after5:ByteArray) (found6:Bool)
def xz:aR→AE×az
  | .r0 before4 after5 found6=>(.ret,⟨an 13 [(4,.str before4),(5,.str after5),(6,.bool false found6)],[],0⟩)
theorem FJ:qZ xz:=by intro x;cases x<;>(intro h;cases h)
def rP:aR→mW
  | .r0 before4 after5 found6=>⟨.tup [.str before4,.str after5,.bool false found6],[]⟩
def FK:ByteArray×ByteArray×Bool→az:=fun (before1,after2,found3)=>⟨an 13 [(4,.str before1),(5,.str after2),(6,.bool false found3)],[],0⟩
def vC(s_0:ByteArray)(sep_1:ByteArray) :T ((ByteArray×ByteArray×Bool)⊕(aR)) :=
  .need (bu (ai s_0 sep_1))<|.ask (decide ((aj (ai s_0 sep_1))≥(0:Int)))
    (.need (pT (aj (ai s_0 sep_1)) s_0.size)<|.need (pT (0:Int) (Int.toNat (aj (ai s_0 sep_1))))<|.need (fw .i64 ((aj (ai s_0 sep_1))+((sep_1.size:Nat):Int)))<|.need (pT ((s_0.size:Nat):Int) s_0.size)<|.need (pT ((aj (ai s_0 sep_1))+((sep_1.size:Nat):Int)) s_0.size)<|.leaf (.inl ((s_0.extract 0 (Int.toNat (aj (ai s_0 sep_1)))),(s_0.extract (Int.toNat ((aj (ai s_0 sep_1))+((sep_1.size:Nat):Int))) s_0.size),true)))
    (.leaf (.inl (s_0,ByteArray.empty,false)))
def FL(before1:ByteArray)(after2:ByteArray)(found3:Bool) :T ((Empty)⊕(aR)) :=
  .leaf (.inr (.r0 before1 after2 found3))
noncomputable def gv(s_0:ByteArray)(sep_1:ByteArray) :Option aR:=ur (aT ((vC s_0 sep_1).run) fun (before1,after2,found3) =>
  (FL before1 after2 found3).run)
theorem FM(s_0:ByteArray)(sep_1:ByteArray){x:aR}(h:gv s_0 sep_1=some x) :ak prog wX [] [.str s_0,.str sep_1] (rP x) :=
  xc false rP xz h (Sg.cut 2 FJ (cp lE FK [⟨[],[],[4,5,6]⟩,⟨[],[],[4,5,6]⟩]) (fun ⟨before1,after2,found3⟩=>cp lE uF [⟨[],[],[4,5,6]⟩]))
    (fun x=>by cases x with | r0 before4 after5 found6=>exact ra [.str before4,.str after5,.bool false found6])
def hU:Option aR→Bool
  | some _=>true
  | none=>false
def jm:Option aR→ByteArray
  | some (.r0 x _ _)=>x
  | _=>ByteArray.empty
def bB:Option aR→ByteArray
  | some (.r0 _ x _)=>x
  | _=>ByteArray.empty
def jn:Option aR→Bool
  | some (.r0 _ _ x)=>x
  | _=>false
theorem FO{x:Option aR}(h:hU x=true) :x=some (.r0 (jm x) (bB x) (jn x)):=by
  unfold hU at h
  split at h<;>first | rfl | (cases h;done) | (rename_i y;cases y;rfl)
noncomputable def xA:aK:=cT wX (.cons .str (.cons .str .nil)) fun t=>(fun q=>[⟨rP (.r0 (jm q) (bB q) (jn q)),[hU q]⟩]) (gv t.1 t.2.1)
theorem BV:aV prog xA:=aU fun t=>(aZ (fun h=>FM t.1 t.2.1 (FO h)) bI)
noncomputable def xB:List aK:=xA::ul
theorem nF:bo prog (bt xB):=au BV lE
inductive du where
  | r0 (b2:Bool)
def xC:du→AE×az
  | .r0 b2=>(.ret,⟨an 9 [(2,.bool false b2)],[],0⟩)
theorem FP:qZ xC:=by intro x;cases x<;>(intro h;cases h)
def rQ:du→mW
  | .r0 b2=>⟨.bool false b2,[]⟩
def FQ(b1:Bool) :az:=⟨an 9 [(2,.bool false b1)],[],0⟩
def FS(n_0:Int) :T ((Bool)⊕(du)) :=
  .ask (decide (n_0≥(0:Int)))
    (.leaf (.inl (decide (n_0≤(512:Int)))))
    (.leaf (.inl false))
def FU(b1:Bool) :T ((Empty)⊕(du)) :=
  .leaf (.inr (.r0 b1))
noncomputable def co(n_0:Int) :Option du:=ur (aT ((FS n_0).run) fun b1 =>
  (FU b1).run)
theorem FV(n_0:Int){x:du}(h:co n_0=some x) :ak prog wZ [] [.int .i64 n_0] (rQ x) :=
  xc false rQ xC h (Sg.cut 2 FP (cp nF FQ [⟨[],[],[2]⟩,⟨[],[],[2]⟩]) (fun b1=>cp nF uF [⟨[],[],[2]⟩]))
    (fun x=>by cases x with | r0 b2=>exact ra [.bool false b2])
def en:Option du→Bool
  | some _=>true
  | none=>false
def dX:Option du→Bool
  | some (.r0 x)=>x
  | _=>false
theorem FW{x:Option du}(h:en x=true) :x=some (.r0 (dX x)):=by
  unfold en at h
  split at h<;>first | rfl | (cases h;done) | (rename_i y;cases y;rfl)
noncomputable def xD:aK:=cT wZ (.cons (.int .i64) .nil) fun t=>(fun q=>[⟨rQ (.r0 (dX q)),[en q]⟩]) (co t.1)
theorem BW:aV prog xD:=aU fun t=>(aZ (fun h=>FV t.1 (FW h)) bI)
noncomputable def rR:List aK:=xD::xB
theorem ax:bo prog (bt rR):=au BW nF
end
end Go.Plb.Seat
namespace Go.Plb.Seat
open Go Go.Plb
set_option linter.unusedSimpArgs false
set_option linter.unusedVariables false
set_option maxRecDepth 100000
def ep(b:UInt8) :Bool:=(decide (48≤b.toNat)&&decide (b.toNat≤57))||(decide (65≤b.toNat)&&decide (b.toNat≤70))
def hv(b:UInt8) :Nat:=if b.toNat≤57 then b.toNat-48 else b.toNat-55
def fq(l:List UInt8) :Nat:=l.foldl (fun a b=>a*16+hv b) 0
theorem gw(b:UInt8) :ep b=true↔(48≤b.toNat∧b.toNat≤57)∨(65≤b.toNat∧b.toNat≤70):=by simp [ep]
theorem KU{b:UInt8}(h:ep b=true) :hv b<16:=by
  rw [gw] at h
  unfold hv
  split<;>omega
theorem SS(l:List UInt8)(a:Nat) :l.foldl (fun a b=>a*16+hv b) a=a*16^l.length+fq l:=by
  unfold fq
  induction l generalizing a with
  | nil=>simp
  | cons b l ih =>
    rw [List.foldl_cons,List.foldl_cons,ih,ih (0*16+hv b),List.length_cons,Nat.pow_succ,Nat.add_mul,Nat.zero_mul,Nat.zero_add]
    have:a*16*16^l.length=a*(16^l.length*16):=by rw [Nat.mul_assoc,Nat.mul_comm 16]
    omega
theorem vD(a b:List UInt8) :fq (a++b)=fq a*16^b.length+fq b:=by
  rw [fq,List.foldl_append,SS]
  rfl
theorem Ab:∀ l:List UInt8,(∀ c∈l,ep c=true)→fq l<16^l.length
  | [],_=>by simp [fq]
  | c::l,h=>by
    have h1:=Ab l fun x hx=>h x (List.mem_cons_of_mem _ hx)
    have h2:=KU (h c (List.mem_cons_self ..))
    have e:fq (c::l)=hv c*16^l.length+fq l:=by
      have:=vD [c] l
      simpa [fq] using this
    rw [e,List.length_cons,Nat.pow_succ]
    have:hv c*16^l.length≤15*16^l.length:=Nat.mul_le_mul_right _ (by omega)
    omega
theorem Me{l:List UInt8}(h:∀ c∈l,ep c=true){j:Nat}{c:UInt8}(hj:l[j]? = some c) :fq l/16^(l.length-1-j)%16=hv c:=by
  have hlt:=(List.getElem?_eq_some_iff.1 hj).1
  have e:l=l.take j++[c]++l.drop (j+1):=by
    have h1:l.take (j+1)=l.take j++[c]:=by rw [List.take_add_one,hj];rfl
    rw [←h1,List.take_append_drop]
  have hd:=Ab (l.drop (j+1)) fun x hx=>h x (List.mem_of_mem_drop hx)
  have hl:(l.drop (j+1)).length=l.length-1-j:=by rw [List.length_drop];omega
  rw [hl] at hd
  have e2:fq l=(fq (l.take j)*16+hv c)*16^(l.length-1-j)+fq (l.drop (j+1)):=by
    conv=>lhs;rw [e]
    rw [vD,vD,hl]
    simp [fq]
  rw [e2,Nat.add_comm,Nat.add_mul_div_right _ _ (Nat.pow_pos (by decide)),Nat.div_eq_of_lt hd,Nat.zero_add,Nat.mul_comm,Nat.mul_add_mod]
  exact Nat.mod_eq_of_lt (KU (h c (List.mem_of_getElem? hj)))
theorem Od(w:Int) :∀ z∈kY w,∃ b:UInt8,ep b=true∧z=(b.toNat:Int):=by
  intro z hz
  simp only [kY,List.mem_map,List.mem_range] at hz
  obtain ⟨j,hj,rfl⟩:=hz
  have h:=Nb w j
  rw [Jj h]
  refine ⟨UInt8.ofNat (if dg w j<10 then 48+dg w j else 55+dg w j),?_,?_⟩
  · rw [gw]
    split<;>(rw [UInt8.toNat_ofNat'];omega)
  · split<;>(rw [UInt8.toNat_ofNat'];omega)
theorem vE(l:List Int) :(Ci l).data.toList=l.map fun n=>UInt8.ofNat n.toNat:=by
  have key:∀ (l:List Int) (r:ByteArray),(l.foldl (fun r n=>r.push (UInt8.ofNat n.toNat)) r).data.toList=r.data.toList++l.map fun n=>UInt8.ofNat n.toNat:=by
    intro l
    induction l with
    | nil=>intro r;simp
    | cons x l ih =>
      intro r
      rw [List.foldl_cons,ih]
      simp [ByteArray.push]
  have:=key l ByteArray.empty
  simpa [Ci] using this
theorem BX(w:Int) :∀ c∈(bF w).data.toList,ep c=true:=by
  intro c hc
  rw [bF,vE,List.mem_map] at hc
  obtain ⟨z,hz,rfl⟩:=hc
  obtain ⟨b,hb,rfl⟩:=Od w z hz
  simpa using hb
theorem QH{b:UInt8}(h:ep b=true) :OC (b.toNat:Int)=hv b:=by
  rw [gw] at h
  unfold OC hv
  repeat' split
  all_goals omega
theorem Oe{a:Nat}(ha:a*16+15<18446744073709551616){b:UInt8}(h:ep b=true) :KJ (a:Int) (b.toNat:Int)=((a*16+hv b:Nat):Int):=by
  have hb:=KU h
  unfold KJ
  rw [QH h]
  have w64:∀ n:Nat,n<18446744073709551616→IntKind.u64.wrap (n:Int)=(n:Int):=fun n hn=>by
    show ((n:Int)%18446744073709551616)=_
    omega
  have e1:bits .and .i64 ((hv b:Nat):Int) 15=((hv b:Nat):Int):=by
    have hall:∀ n:Fin 16,bits .and .i64 ((n.val:Nat):Int) 15=((n.val:Nat):Int):=by decide +kernel
    exact hall ⟨hv b,hb⟩
  have e2:((a:Int)*16)=((a*16:Nat):Int):=by omega
  rw [e1,e2,w64 _ (by omega),w64 _ (by omega)]
  show IntKind.u64.wrap ((BitVec.ofInt 64 ((a*16:Nat):Int) ||| BitVec.ofInt 64 ((hv b:Nat):Int)).toNat:Int)=_
  have e3:(BitVec.ofInt 64 ((a*16:Nat):Int) ||| BitVec.ofInt 64 ((hv b:Nat):Int)).toNat=a*16+hv b:=by
    rw [BitVec.toNat_or,BitVec.toNat_ofInt,BitVec.toNat_ofInt]
    have f1:(((a*16:Nat):Int)%((2^64:Nat):Int)).toNat=a*16:=by
      have:((2^64:Nat):Int)=18446744073709551616:=by decide
      rw [this];omega
    have f2:(((hv b:Nat):Int)%((2^64:Nat):Int)).toNat=hv b:=by
      have:((2^64:Nat):Int)=18446744073709551616:=by decide
      rw [this];omega
    rw [f1,f2]
    have:=Nat.two_pow_add_eq_or_of_lt (i:=4) (b:=hv b) (by omega) a
    rw [Nat.mul_comm a 16]
    exact this.symm
  rw [e3]
  exact w64 _ (by omega)
theorem BY(s:ByteArray)(hs:∀ c∈s.data.toList,ep c=true)(h16:s.size≤16) :∀ (f pos:Nat) (a:Nat),s.size≤pos+f→a<16^pos→oy s f pos (a:Int)=(((s.data.toList.drop pos).foldl (fun a b=>a*16+hv b) a:Nat):Int)
  | 0,pos,a,hf,_=>by
    rw [List.drop_of_length_le (by simp only [Array.length_toList];exact hf)]
    rfl
  | f + 1, pos, a, hf, ha => by
    by_cases hp:pos<s.size
    · have hp':pos<s.data.toList.length:=by simpa using hp
      have hc:ep (s[pos]'hp)=true:=hs _ (by simp [ByteArray.getElem_eq_getElem_data])
      have h1:=(gw _).1 hc
      have hdec:=decode_ascii s pos hp (by omega)
      have hlt:a*16+hv (s[pos]'hp)<16^(pos+1):=by
        have:=KU hc
        rw [Nat.pow_succ]
        omega
      have hbig:a*16+15<18446744073709551616:=by
        have h3:16^(pos+1)≤16^16:=Nat.pow_le_pow_right (by decide) (by omega)
        have h4:(16:Nat)^16=18446744073709551616:=by decide
        rw [Nat.pow_succ] at h3
        omega
      have ih:=BY s hs h16 f (pos+1) (a*16+hv (s[pos]'hp)) (by omega) hlt
      rw [oy,if_pos hp,hdec]
      show oy s f (pos+1) (KJ (a:Int) (((s[pos]'hp).toNat:Nat):Int))=_
      rw [Oe hbig hc,ih,List.drop_eq_getElem_cons hp',List.foldl_cons]
      rfl
    · rw [Ic s _ pos _ hp,List.drop_of_length_le (by simp only [Array.length_toList];exact Nat.le_of_not_lt hp)]
      rfl
theorem KV{s:ByteArray}(hs:∀ c∈s.data.toList,ep c=true)(h16:s.size=16) :bF ((fq s.data.toList:Nat):Int)=s:=by
  apply toList_inj
  rw [Lib.toList_data,Lib.toList_data,bF,vE,kY]
  have hl:s.data.toList.length=16:=by simpa using h16
  apply List.ext_getElem?
  intro j
  by_cases hj:j<16
  · obtain ⟨c,hc⟩:∃ c,s.data.toList[j]? = some c:=⟨_,List.getElem?_eq_getElem (by omega)⟩
    have hx:=hs c (List.mem_of_getElem? hc)
    have hd:=Me hs hc
    rw [hl] at hd
    have hdg:dg ((fq s.data.toList:Nat):Int) j=hv c:=by
      unfold dg
      have e1:(2:Int)^(60-4*j)=((16^(16-1-j):Nat):Int):=by
        have:(60-4*j)=4*(16-1-j):=by omega
        rw [this,Int.pow_mul]
        simp
      rw [e1,Int.fdiv_eq_ediv_of_nonneg _ (Int.natCast_nonneg _),←Int.natCast_ediv,←hd]
      omega
    rw [hc,List.getElem?_map,List.getElem?_map,List.getElem?_range hj]
    show some (UInt8.ofNat (aD ox (dg _ j)).toNat)=some c
    rw [hdg,Jj (KU hx)]
    congr 1
    have hi:=(gw c).1 hx
    have e2:(if hv c<10 then (48+(hv c:Int)) else 55+(hv c:Int)).toNat=c.toNat:=by
      unfold hv
      split<;>split<;>omega
    rw [e2]
    exact UInt8.ofNat_toNat
  · rw [List.getElem?_eq_none (by simp;omega),List.getElem?_eq_none (by omega)]
theorem KW(s:ByteArray) :dy s=(decide (s.size=16)&&s.data.toList.all ep):=by
  by_cases h16:s.size=16
  · by_cases hs:∀ c∈s.data.toList,ep c=true
    · have hf:=BY s hs (by omega) s.size 0 0 (by omega) (by decide)
      have ht:=KV hs h16
      unfold dy
      rw [show ((0:Nat):Int)=0 from rfl] at hf
      rw [hf,List.drop_zero]
      rw [show (s.data.toList.foldl (fun a b=>a*16+hv b) 0)=fq s.data.toList from rfl,ht,decide_eq_true h16,decide_eq_true rfl,List.all_eq_true.2 hs]
    · have hn : ¬ bF (oy s s.size 0 0)=s:=fun e=>hs (e ▸ BX _)
      unfold dy
      rw [decide_eq_false hn,Bool.and_false]
      have:s.data.toList.all ep=false:=by
        cases hq:s.data.toList.all ep with
        | false=>rfl
        | true=>exact absurd (List.all_eq_true.1 hq) hs
      rw [this,Bool.and_false]
  · unfold dy
    rw [decide_eq_false h16]
    rfl
theorem FX{s:ByteArray}(h:dy s=true) :gU s=(fq s.data.toList:Nat):=by
  have h1:=h
  rw [KW,Bool.and_eq_true,List.all_eq_true] at h1
  have h16:=of_decide_eq_true h1.1
  have hf:=BY s h1.2 (by omega) s.size 0 0 (by omega) (by decide)
  rw [show ((0:Nat):Int)=0 from rfl,List.drop_zero] at hf
  rw [gU,h]
  exact hf
end Go.Plb.Seat
namespace Go.Plb
set_option linter.unusedSimpArgs false
set_option linter.unusedVariables false
def aJ:List UInt8→List (List UInt8)
  | []=>[[]]
  | c::r=>if c=32 then []::aJ r else (c::(aJ r).headD [])::(aJ r).tail
theorem BZ(r:List UInt8) :aJ ((32:UInt8)::r)=[]::aJ r:=by rw [aJ];simp
theorem vF{b:UInt8}(h:b≠32)(r:List UInt8) :aJ (b::r)=(b::(aJ r).headD [])::(aJ r).tail:=by rw [aJ,if_neg h]
theorem Of:∀ l,aJ l≠[]
  | []=>by simp [aJ]
  | c::r=>by unfold aJ;split<;>simp
theorem vG(l:List UInt8) :aJ l=(aJ l).headD []::(aJ l).tail:=by
  have:=Of l
  cases h:aJ l with
  | nil=>exact absurd h this
  | cons a b=>rfl
theorem hX:∀ l:List UInt8,(∀ c∈l,c≠32)→aJ l=[l]
  | [],_=>rfl
  | c::r,h=>by
    have h1:=hX r fun x hx=>h x (List.mem_cons_of_mem _ hx)
    rw [vF (h c (List.mem_cons_self ..)),h1]
    rfl
theorem nG:∀ (a b:List UInt8),(∀ c∈a,c≠32)→aJ (a++32::b)=a::aJ b
  | [],b,_=>by simp [aJ]
  | c::a,b,h=>by
    have h1:=nG a b fun x hx=>h x (List.mem_cons_of_mem _ hx)
    rw [List.cons_append,vF (h c (List.mem_cons_self ..)),h1]
    rfl
theorem yo:∀ l:List UInt8,Lib.indexByte l 32<0→∀ c∈l,c≠32
  | [],_,c,hc=>by cases hc
  | b::l,h,c,hc=>by
    unfold Lib.indexByte at h
    have hge:=Lib.indexByte_ge l 32
    split at h
    · omega
    · rename_i hb
      split at h
      · rename_i h1
        have h2:Lib.indexByte l 32<0:=by
          have:=eq_of_beq h1
          omega
        rcases List.mem_cons.1 hc with rfl | hc
        · simpa using hb
        · exact yo l h2 c hc
      · rename_i h1
        have h2:Lib.indexByte l 32 ≠ -1:=fun e=>h1 (by rw [e];rfl)
        omega
theorem yp:∀ (l:List UInt8) (n:Nat),Lib.indexByte l 32=(n:Int)→n<l.length∧l=l.take n++32::l.drop (n+1)∧∀ c∈l.take n,c≠32
  | [],n,h=>by simp [Lib.indexByte] at h
  | b::l,n,h=>by
    unfold Lib.indexByte at h
    have hge:=Lib.indexByte_ge l 32
    split at h
    · rename_i hb
      have hb:b=32:=eq_of_beq hb
      have:n=0:=by omega
      subst this
      subst hb
      exact ⟨by simp,by simp,fun c hc=>by simp at hc⟩
    · rename_i hb
      split at h
      · omega
      · rename_i h1
        obtain ⟨m,rfl⟩:∃ m,n=m+1:=⟨n-1,by
          have h2:Lib.indexByte l 32 ≠ -1:=fun e=>h1 (by rw [e];rfl)
          omega⟩
        obtain ⟨g1,g2,g3⟩:=yp l m (by omega)
        refine ⟨by simp;omega,?_,fun c hc=>?_⟩
        · rw [List.take_succ_cons,List.drop_succ_cons,List.cons_append,←g2]
        · rw [List.take_succ_cons] at hc
          rcases List.mem_cons.1 hc with rfl | hc
          · simpa using hb
          · exact g3 c hc
theorem Cw:∀ (l:List UInt8) (c:UInt8),aJ (l++[c])=if c=32 then aJ l++[[]] else (aJ l).dropLast++[((aJ l).getLastD [])++[c]]
  | [],c=>by
    by_cases h:c=32
    · subst h;rfl
    · simp [aJ,h]
  | b::l,c=>by
    have ih:=Cw l c
    have hl:=vG l
    by_cases hb:b=32
    · subst hb
      have e1:∀ r,aJ ((32:UInt8)::r)=[]::aJ r:=fun r=>by rw [aJ];simp
      rw [List.cons_append,e1,e1,ih]
      by_cases h:c=32
      · rw [if_pos h,if_pos h];rfl
      · rw [if_neg h,if_neg h,hl]
        simp [List.dropLast,List.getLastD]
    · have e1:∀ r,aJ (b::r)=(b::(aJ r).headD [])::(aJ r).tail:=fun r=>by rw [aJ,if_neg hb]
      rw [List.cons_append,e1,e1,ih]
      by_cases h:c=32
      · rw [if_pos h,if_pos h,hl]
        simp
      · rw [if_neg h,if_neg h,hl]
        generalize (aJ l).headD []=x
        generalize (aJ l).tail=y
        cases y with
        | nil=>simp
        | cons z y=>simp [List.dropLast,List.getLastD]
end Go.Plb
namespace Go.Plb.Seat
open Go Go.Plb
set_option linter.unusedSimpArgs false
set_option linter.unusedVariables false
set_option maxRecDepth 100000
def eP(l:List UInt8) :Bool:=decide (l.length=16)&&l.all ep
def eC:List (List UInt8)→Option (List Int)
  | []=>some []
  | w::r=>bif eP w then (eC r).map fun x=>((fq w:Nat):Int)::x else none
theorem mB(s:ByteArray) :dy s=eP s.data.toList:=by
  rw [KW]
  rfl
theorem bT(s:ByteArray)(a b:Nat) :(s.extract a b).data.toList=(s.data.toList.drop a).take (b-a):=by
  rw [ByteArray.data_extract,Array.toList_extract]
theorem Ac:∀ (f:Nat) (s:ByteArray) (acc:List Int),s.size<f→A9 f s acc=(eC (aJ s.data.toList)).map fun x=>acc++x
  | 0,s,acc,h=>by omega
  | f + 1, s, acc, h => by
    unfold A9
    have hge:=Lib.indexByte_ge s.data.toList 32
    by_cases hneg:Lib.indexByte s.data.toList 32<0
    · rw [if_pos hneg,hX _ (yo _ hneg)]
      cases hr:dy s with
      | true =>
        have h1:=FX hr
        rw [mB] at hr
        simp only [eC,hr,cond_true,if_true,Option.map_some,h1]
      | false =>
        rw [mB] at hr
        simp [eC,hr]
    · obtain ⟨n,hn⟩:=Int.eq_ofNat_of_zero_le (Int.not_lt.1 hneg)
      rw [if_neg hneg]
      simp only [hn,Int.toNat_natCast]
      obtain ⟨g1,g2,g3⟩:=yp _ n hn
      have hx:(s.extract 0 n).data.toList=s.data.toList.take n:=by rw [bT];simp
      have hy:(s.extract (n+1) s.size).data.toList=s.data.toList.drop (n+1):=by
        rw [bT]
        apply List.take_of_length_le
        rw [List.length_drop,Array.length_toList]
        exact Nat.le_refl _
      have hs:aJ s.data.toList=s.data.toList.take n::aJ (s.data.toList.drop (n+1)):=by
        conv=>lhs;rw [g2]
        exact nG _ _ g3
      show (if dy (s.extract 0 n)=true then _ else none)=_
      have hsz:(s.extract (n+1) s.size).size<f:=by
        have:s.data.toList.length=s.size:=by simp
        simp
        omega
      rw [hs]
      cases hr:dy (s.extract 0 n) with
      | true =>
        have h1:=FX hr
        have h2:=hr
        rw [mB,hx] at h2
        rw [if_pos rfl,Ac f _ _ hsz,hy,h1,hx]
        simp only [eC,h2,cond_true,Option.map_map]
        congr 1
        funext x
        simp
      | false =>
        have h2:=hr
        rw [mB,hx] at h2
        simp [eC,h2]
theorem tF(s:ByteArray) :oQ s=eC (aJ s.data.toList):=by
  unfold oQ
  rw [Ac _ _ _ (by omega)]
  cases eC (aJ s.data.toList)<;>simp
def mC(s:ByteArray) :Nat→Nat×List ByteArray
  | 0=>(0,[])
  | j+1=>if j=s.size∨aD s j=32 then (j+1,(mC s j).2++[s.extract (mC s j).1 j]) else mC s j
def aq(s:ByteArray) :List ByteArray:=(mC s (s.size+1)).2
theorem FY(s:ByteArray) :∀ j,(mC s j).1≤j∧(mC s j).2.length≤j
  | 0=>⟨Nat.le_refl _,Nat.le_refl _⟩
  | j+1=>by
    have:=FY s j
    unfold mC
    split
    · exact ⟨Nat.le_refl _,by simp;omega⟩
    · exact ⟨by omega,by omega⟩
theorem qx(s:ByteArray)(hs:s.size≤1000000000) :bv s=some (.r0 (aq s).length (aq s).length (aq s)):=by
  unfold bv
  refine aH (ah rfl (ah (a:=((aq s).length,(aq s).length,aq s)) (cV (fun j=>((mC s j).2.length,(mC s j).2.length,(mC s j).1,j,(mC s j).2)) (s.size+1) rfl (fun j hj=>?_) ?_) rfl))
  · have hw:=FY s j
    have hi:fw .i64 (((j+1:Nat)):Int)=true:=by rw [aX];omega
    have g1:fS (((mC s j).2.length+1)*16) 140737488355328=true:=by rw [cd];omega
    have g2:fS ((mC s j).2.length+1) 9223372036854775807=true:=by rw [cd];omega
    have g3:fS (mC s j).2.length (List.length (mC s j).2)=true:=by rw [cd];exact Nat.le_refl _
    have hz:List.take (mC s j).2.length (mC s j).2++List.take 1 [s.extract (mC s j).1 j]=(mC s j).2++[s.extract (mC s j).1 j]:=by rw [List.take_length];rfl
    by_cases he:j=s.size
    · have e1:mC s (j+1)=(j+1,(mC s j).2++[s.extract (mC s j).1 j]):=by rw [mC,if_pos (.inl he)]
      refine ah (a:=((mC s j).2.length+1,(mC s j).2.length+1,j+1,(mC s j).2++[s.extract (mC s j).1 j])) ?_ ?_
      · rw [←hz]
        exact bK (decide_eq_true (by omega)) (bK (beq_iff_eq.2 (by omega)) (am (by rw [lQ];omega) (am (by rw [lQ];omega) (am g1 (am g2 (bi (am g3 (am hi rfl))))))))
      · rw [e1]
        simp only [List.length_append,List.length_cons,List.length_nil]
        exact am hi rfl
    · have hb1 : ¬ ((j:Int)==(s.size:Int))=true:=by rw [beq_iff_eq];omega
      have hb:((j:Int)==(s.size:Int))=false:=by simpa using hb1
      by_cases h32:aD s j=32
      · have e1:mC s (j+1)=(j+1,(mC s j).2++[s.extract (mC s j).1 j]):=by rw [mC,if_pos (.inr h32)]
        refine ah (a:=((mC s j).2.length+1,(mC s j).2.length+1,j+1,(mC s j).2++[s.extract (mC s j).1 j])) ?_ ?_
        · rw [←hz]
          exact bK (decide_eq_true (by omega)) (bm hb (am (by rw [dc];omega) (bK (beq_iff_eq.2 h32) (am (by rw [lQ];omega) (am (by rw [lQ];omega) (am g1 (am g2 (bi (am g3 (am hi rfl))))))))))
        · rw [e1]
          simp only [List.length_append,List.length_cons,List.length_nil]
          exact am hi rfl
      · have e1:mC s (j+1)=mC s j:=by rw [mC,if_neg (fun c=>c.elim he h32)]
        refine ah (a:=((mC s j).2.length,(mC s j).2.length,(mC s j).1,(mC s j).2)) ?_ ?_
        · exact bK (decide_eq_true (by omega)) (bm hb (am (by rw [dc];omega) (bm (beq_eq_false_iff_ne.2 h32) rfl)))
        · rw [e1]
          exact am hi rfl
  · refine aG (bm (decide_eq_false (by omega)) rfl)
theorem Ih(s:ByteArray) :∀ j,j≤s.size→aJ (s.data.toList.take j)=(mC s j).2.map (fun x=>x.data.toList)++[(s.data.toList.drop (mC s j).1).take (j-(mC s j).1)]
  | 0,_=>by simp [aJ,mC]
  | j + 1, h => by
    have ih:=Ih s j (by omega)
    have hw:=FY s j
    have hl:j<s.data.toList.length:=by simp;omega
    obtain ⟨b,hb⟩:∃ b,s.data.toList[j]? = some b:=⟨_,List.getElem?_eq_getElem hl⟩
    have ht:s.data.toList.take (j+1)=s.data.toList.take j++[b]:=by rw [List.take_add_one,hb];rfl
    have hby:aD s j=(b.toNat:Int):=by
      unfold aD
      rw [←Array.getElem?_toList,hb]
      rfl
    rw [ht,Cw,ih]
    by_cases h32:b=32
    · have e1:mC s (j+1)=(j+1,(mC s j).2++[s.extract (mC s j).1 j]):=by rw [mC,if_pos (.inr (by rw [hby,h32];rfl))]
      rw [if_pos h32,e1]
      simp [bT]
    · have hne : ¬ (j=s.size∨aD s j=32):=by
        rintro (q | q)
        · omega
        · rw [hby] at q
          exact h32 (UInt8.toNat_inj.1 (by show b.toNat=32;omega))
      have e1:mC s (j+1)=mC s j:=by rw [mC,if_neg hne]
      rw [if_neg h32,e1,List.dropLast_concat]
      congr 1
      have e2:j+1-(mC s j).1=(j-(mC s j).1)+1:=by omega
      rw [e2,List.take_add_one,List.getElem?_drop]
      rw [show (mC s j).1+(j-(mC s j).1)=j by omega,hb]
      simp
theorem lR(s:ByteArray) :(aq s).map (fun x=>x.data.toList)=aJ s.data.toList:=by
  have h:=Ih s s.size (Nat.le_refl _)
  rw [List.take_of_length_le (by simp)] at h
  unfold aq
  rw [mC,if_pos (.inl rfl),h]
  simp [bT]
theorem tG{s:ByteArray}{i:Nat}{b:UInt8}(h:s.data.toList[i]? = some b) :aD s i=(b.toNat:Int):=by
  unfold aD
  rw [←Array.getElem?_toList,h]
  rfl
theorem w8{z:Int}(h:0≤z)(h2:z<256) :IntKind.u8.wrap z=z:=by
  show z%256=z
  omega
theorem Mf{z:Int}(h:0≤z)(h2:z<18446744073709551616) :IntKind.u64.wrap z=z:=by
  show z%18446744073709551616=z
  omega
theorem Ii{s:ByteArray}{i:Nat}{b:UInt8}(hs:s.size=16)(hi:i<16)(hb:s.data.toList[i]? = some b)(w:Nat)(hw:w*16+15<18446744073709551616) :
    (mr s (w:Int) i).run=if ep b=true then some (.inl ((w*16+hv b:Nat):Int)) else some (.inr (.inr (.r0 0 4))):=by
  have hby:=tG hb
  have h0:decide ((i:Int)<16)=true:=decide_eq_true (by omega)
  have h1:oK (i:Int) s.size=true:=by rw [dc];omega
  have hlt:b.toNat<256:=b.toNat_lt
  unfold mr
  rw [hby]
  refine bK h0 (am h1 ?_)
  by_cases c1:48≤b.toNat
  · refine bK (decide_eq_true (by omega)) ?_
    by_cases c2:b.toNat≤57
    · have hx:ep b=true:=(gw b).2 (.inl ⟨c1,c2⟩)
      rw [if_pos hx]
      refine bK (decide_eq_true (by omega)) ?_
      have e:hv b=b.toNat-48:=by unfold hv;rw [if_pos c2]
      rw [T.run]
      congr 2
      have q1:=Mf (z:=(w:Int)*16) (by omega) (by omega)
      have q2:=Mf (z:=(b.toNat:Int)-48) (by omega) (by omega)
      rw [w8 (by omega) (by omega),q1,q2,Mf (by omega) (by omega),e]
      omega
    · refine bm (decide_eq_false (by omega)) ?_
      by_cases c3:65≤b.toNat
      · refine bK (decide_eq_true (by omega)) ?_
        by_cases c4:b.toNat≤70
        · have hx:ep b=true:=(gw b).2 (.inr ⟨c3,c4⟩)
          rw [if_pos hx]
          refine bK (decide_eq_true (by omega)) ?_
          have e:hv b=b.toNat-55:=by unfold hv;rw [if_neg c2]
          rw [T.run]
          congr 2
          have q1:=Mf (z:=(w:Int)*16) (by omega) (by omega)
          have q2:=Mf (z:=(b.toNat:Int)-65+10) (by omega) (by omega)
          rw [w8 (z:=(b.toNat:Int)-65) (by omega) (by omega),w8 (by omega) (by omega),q1,q2,Mf (by omega) (by omega),e]
          omega
        · have hx : ¬ ep b=true:=fun q=>by rw [gw] at q;omega
          rw [if_neg hx]
          exact bm (decide_eq_false (by omega)) rfl
      · have hx : ¬ ep b=true:=fun q=>by rw [gw] at q;omega
        rw [if_neg hx]
        exact bm (decide_eq_false (by omega)) rfl
  · have hx : ¬ ep b=true:=fun q=>by rw [gw] at q;omega
    rw [if_neg hx]
    exact bm (decide_eq_false (by omega)) (bm (decide_eq_false (by omega)) rfl)
theorem first_bad:∀ l:List UInt8,(∀ c∈l,ep c=true)∨∃ n c,l[n]? = some c∧¬ ep c=true∧∀ x∈l.take n,ep x=true
  | []=>.inl fun _ h=>by cases h
  | c::l=>by
    by_cases hc:ep c=true
    · rcases first_bad l with h | ⟨n,d,h1,h2,h3⟩
      · exact .inl fun x hx=>by
          rcases List.mem_cons.1 hx with rfl | hx
          · exact hc
          · exact h x hx
      · exact .inr ⟨n+1,d,by simpa using h1,h2,fun x hx=>by
          rw [List.take_succ_cons] at hx
          rcases List.mem_cons.1 hx with rfl | hx
          · exact hc
          · exact h3 x hx⟩
    · exact .inr ⟨0,c,rfl,hc,fun x hx=>by simp at hx⟩
theorem rS(s:ByteArray) :dt s=some (.r0 (bif eP s.data.toList then ((fq s.data.toList:Nat):Int) else 0) (bif eP s.data.toList then 0 else 4)):=by
  unfold dt
  by_cases hs:s.size=16
  · have hl:s.data.toList.length=16:=by simpa using hs
    have h11:(vv s).run=some (.inl ()):=bm (bne_eq_false_iff_eq.2 (by omega)) rfl
    have step:∀ j,j<16→(∀ x∈s.data.toList.take (j+1),ep x=true)→gY s (((fq (s.data.toList.take j):Nat):Int),j)=some (.inl (((fq (s.data.toList.take (j+1)):Nat):Int),j+1)):=by
      intro j hj hx
      obtain ⟨b,hb⟩:∃ b,s.data.toList[j]? = some b:=⟨_,List.getElem?_eq_getElem (by omega)⟩
      have ht:s.data.toList.take (j+1)=s.data.toList.take j++[b]:=by rw [List.take_add_one,hb];rfl
      have hxb:ep b=true:=hx b (by rw [ht];simp)
      have hlt:=Ab (s.data.toList.take j) fun x q=>hx x (by rw [ht];exact List.mem_append_left _ q)
      have hp:16^(s.data.toList.take j).length≤16^15:=Nat.pow_le_pow_right (by decide) (by rw [List.length_take];omega)
      have h15:(16:Nat)^15=1152921504606846976:=by decide
      have hr:=Ii hs hj hb (fq (s.data.toList.take j)) (by omega)
      rw [if_pos hxb] at hr
      refine ah hr ?_
      have e:fq (s.data.toList.take (j+1))=fq (s.data.toList.take j)*16+hv b:=by rw [ht,vD];simp [fq]
      rw [e]
      exact am (by rw [aX];omega) rfl
    rcases first_bad s.data.toList with hall | ⟨n,c,h1,h2,h3⟩
    · have ho:eP s.data.toList=true:=by unfold eP;rw [decide_eq_true hl,List.all_eq_true.2 hall];rfl
      rw [ho]
      refine aH (ah h11 (ah (a:=((fq s.data.toList:Nat):Int)) (cV (fun j=>(((fq (s.data.toList.take j):Nat):Int),j)) 16 rfl (fun j hj=>step j hj fun x hx=>hall x (List.mem_of_mem_take hx)) ?_) rfl))
      rw [List.take_of_length_le (by omega)]
      have h9:(mr s ((fq s.data.toList:Nat):Int) 16).run=some (.inr (.inl ((fq s.data.toList:Nat):Int))):=bm (decide_eq_false (show ¬ (((16:Nat):Int)<16) by decide)) rfl
      simp only [gY]
      exact aG h9
    · have hn:n<16:=by have:=(List.getElem?_eq_some_iff.1 h1).1;omega
      have ho:eP s.data.toList=false:=by
        unfold eP
        have:s.data.toList.all ep=false:=by
          cases hq:s.data.toList.all ep with
          | false=>rfl
          | true=>exact absurd (List.all_eq_true.1 hq c (List.mem_of_getElem? h1)) h2
        rw [this,Bool.and_false]
      rw [ho]
      refine aH (ah h11 (aG (cV (fun j=>(((fq (s.data.toList.take j):Nat):Int),j)) n rfl (fun j hj=>step j (by omega) fun x hx=>h3 x ?_) ?_)))
      · have:s.data.toList.take (j+1)=(s.data.toList.take n).take (j+1):=by rw [List.take_take];congr 1;omega
        rw [this] at hx
        exact List.mem_of_mem_take hx
      · have hlt:=Ab (s.data.toList.take n) h3
        have hp:16^(s.data.toList.take n).length≤16^15:=Nat.pow_le_pow_right (by decide) (by rw [List.length_take];omega)
        have h15:(16:Nat)^15=1152921504606846976:=by decide
        have hr:=Ii hs hn h1 (fq (s.data.toList.take n)) (by omega)
        rw [if_neg h2] at hr
        exact aG hr
  · have ho:eP s.data.toList=false:=by
      unfold eP
      rw [decide_eq_false (by simpa using hs)]
      rfl
    rw [ho]
    exact aH (aG (bK (bne_iff_ne.2 (by omega)) rfl))
theorem PY(w:Int){j:Nat}(hj:j<16) :(kY w).take (j+1)=(kY w).take j++[aD ox (dg w j)]:=by
  have h:(kY w)[j]? = some (aD ox (dg w j)):=by simp [kY,hj]
  rw [List.take_add_one,h]
  rfl
theorem HA(w:Int) :fJ w=some (.r0 (bF w)):=by
  unfold fJ
  refine aH (ah rfl (ah (a:=(16,16,kY w)) (cV (fun j=>(j,j,(60:Int)-((4*j:Nat):Int),(kY w).take j)) 16 rfl (fun j hj=>?_) ?_) ?_))
  · have hd:=Nb w j
    have e1:IntKind.u64.wrap ((60:Int)-((4*j:Nat):Int))=(60:Int)-((4*j:Nat):Int):=Mf (by omega) (by omega)
    have hl:((kY w).take j).length=j:=by rw [List.length_take,so];omega
    have hn:List.take j ((kY w).take j)++List.take 1 [aD ox (dg w j)]=(kY w).take (j+1):=by
      rw [PY w hj,List.take_of_length_le (by omega)];rfl
    have e2:(60:Int)-((4*(j+1):Nat):Int)=(60:Int)-((4*j:Nat):Int)-4:=by omega
    simp only [gZ,qt]
    rw [e1,Nc w hj,e2,←hn]
    exact bK (decide_eq_true (by omega)) (am (decide_eq_true (by omega)) (am (by rw [dc];exact ⟨by omega,by show ((dg w j:Nat):Int)<((16:Nat):Int);omega⟩) (am (by rw [cd];omega) (am (by rw [cd];omega) (bi (am (by rw [cd,hl];exact Nat.le_refl _) (am (by rw [aX];omega) rfl)))))))
  · have e:(kY w).take 16=kY w:=List.take_of_length_le (by rw [so];exact Nat.le_refl _)
    simp only [gZ,qt]
    rw [e]
    exact bm (decide_eq_false (by omega)) rfl
  · show (vx 16 (kY w)).run=_
    have e:(kY w).take 16=kY w:=List.take_of_length_le (by rw [so];exact Nat.le_refl _)
    refine am (by rw [cd,so];exact Nat.le_refl _) ?_
    rw [e]
    rfl
def pg(x:ByteArray) :Int:=bif eP x.data.toList then ((fq x.data.toList:Nat):Int) else 0
theorem Cx:∀ l:List ByteArray,(∀ x∈l,eP x.data.toList=true)→eC (l.map fun x=>x.data.toList)=some (l.map pg)
  | [],_=>rfl
  | x::l,h=>by
    have h1:=h x (List.mem_cons_self ..)
    have h2:=Cx l fun y hy=>h y (List.mem_cons_of_mem _ hy)
    simp only [List.map_cons,eC,h1,cond_true,h2,Option.map_some,pg]
theorem Cy:∀ (l:List ByteArray) (n:Nat),(h:n<l.length)→eP l[n].data.toList=false→eC (l.map fun x=>x.data.toList)=none
  | [],n,h,_=>by simp at h
  | x::l,0,h,hb=>by
    have hb:eP x.data.toList=false:=hb
    simp only [List.map_cons,eC,hb,cond_false]
  | x::l,n+1,h,hb=>by
    have:=Cy l n (by simpa using h) (by simpa using hb)
    simp only [List.map_cons,eC,this]
    cases eP x.data.toList<;>rfl
theorem FZ(s:ByteArray)(hs:s.size≤1000000000) :bG s=some (match oQ s with | some l=>.r0 l.length l.length true l | none=>.r0 0 0 false []):=by
  unfold bG
  rw [tF,←lR]
  have hw:=(FY s (s.size+1)).2
  have hW:(aq s).length≤1000000001:=by unfold aq;omega
  have h12:(pa s).run=some (.inl ((aq s).length,(aq s).length,aq s)):=by
    simp only [pa,qx s hs]
    exact bi rfl
  generalize aq s=W at *
  have step:∀ j,(hj:j<W.length)→eP W[j].data.toList=true→lw W.length W (j,j,j,(W.take j).map pg)=some (.inl (j+1,j+1,j+1,(W.take (j+1)).map pg)):=by
    intro j hj ho
    have hg:W.getD j ByteArray.empty=W[j]:=by rw [List.getD_eq_getElem?_getD,List.getElem?_eq_getElem hj];rfl
    have ht:(W.take (j+1)).map pg=(W.take j).map pg++[pg W[j]]:=by rw [List.take_add_one,List.getElem?_eq_getElem hj,List.map_append];rfl
    have hl:((W.take j).map pg).length=j:=by rw [List.length_map,List.length_take];omega
    have hn:List.take j ((W.take j).map pg)++List.take 1 [pg W[j]]=(W.take j).map pg++[pg W[j]]:=by rw [List.take_of_length_le (by omega)];rfl
    refine ah (a:=(j+1,(W.take (j+1)).map pg)) ?_ (am (by rw [aX];omega) rfl)
    rw [ht,←hn]
    simp only [pb,hg,rS,ho,cond_true,cond_false,pg]
    exact bK (decide_eq_true (by omega)) (am (by rw [dc];omega) (am (by rw [cq];omega) (bi (aI (am (by rw [cd];omega) (am (by rw [cd];omega) (bi (am (by rw [cd];exact Nat.le_of_eq hl.symm) rfl))))))))
  by_cases hall:∀ j,(hj:j<W.length)→eP W[j].data.toList=true
  · have hm:∀ x∈W,eP x.data.toList=true:=by
      intro x hx
      obtain ⟨j,hj,rfl⟩:=List.getElem_of_mem hx
      exact hall j hj
    rw [Cx W hm]
    simp only [List.length_map]
    refine aH (ah h12 (ah rfl (ah (a:=(W.length,W.length,W.map pg)) (cV (fun j=>(j,j,j,(W.take j).map pg)) W.length rfl (fun j hj=>step j hj (hall j hj)) ?_) rfl)))
    rw [List.take_length]
    exact aG (bm (decide_eq_false (by omega)) rfl)
  · have hall' : ¬ ∀ j,j<W.length→eP (W.getD j ByteArray.empty).data.toList=true:=by
      intro q
      apply hall
      intro j hj
      have:=q j hj
      rwa [List.getD_eq_getElem?_getD,List.getElem?_eq_getElem hj] at this
    obtain ⟨k,hk,hb,hg⟩:=Go.Plb.first_bad hall'
    have hgk:W.getD k ByteArray.empty=W[k]:=by rw [List.getD_eq_getElem?_getD,List.getElem?_eq_getElem hk];rfl
    have hb:eP W[k].data.toList=false:=by rw [←hgk];simpa using hb
    rw [Cy W k hk hb]
    refine aH (ah h12 (ah rfl (aG (cV (fun j=>(j,j,j,(W.take j).map pg)) k rfl (fun j hj=>step j (by omega) ?_) ?_))))
    · have:=hg j hj
      rwa [List.getD_eq_getElem?_getD,List.getElem?_eq_getElem (by omega)] at this
    · refine aG ?_
      simp only [pb,hgk,rS,hb,cond_true,cond_false]
      exact bK (decide_eq_true (by omega)) (am (by rw [dc];omega) (am (by rw [cq];omega) (bi (bc rfl))))
theorem gz{a b:ByteArray}(h:a.data.toList=b.data.toList) :a=b:=by
  obtain ⟨a⟩:=a
  obtain ⟨b⟩:=b
  exact congrArg ByteArray.mk (Array.toList_inj.1 h)
theorem cY(a b:ByteArray) :(a.toList==b.toList)=decide (a=b):=by
  rw [Lib.toList_data,Lib.toList_data]
  by_cases h:a=b
  · rw [h,decide_eq_true rfl];simp
  · rw [decide_eq_false h,beq_eq_false_iff_ne]
    exact fun q=>h (gz q)
theorem QI(s:ByteArray) :Ke s 32=Lib.indexByte s.data.toList 32:=Lib.firstIdx_eq s 32
theorem QJ(s:ByteArray) :ND s 32=((s.data.toList.count 32:Nat):Int):=by
  have h:=Lib.count_foldl 32 s.data.toList 0
  rw [Int.zero_add] at h
  rw [←Lib.foldl_data] at h
  exact h
theorem nH:∀ l:List UInt8,(aJ l).length=l.count 32+1
  | []=>rfl
  | c::r=>by
    have ih:=nH r
    by_cases h:c=32
    · subst h
      rw [BZ,List.length_cons,ih,List.count_cons_self]
    · rw [vF h,List.length_cons,List.length_tail,ih,List.count_cons_of_ne (fun q=>h q)]
      omega
theorem PZ(s:ByteArray) :ai s (ByteArray.mk #[32])=some (.r0 (Lib.indexByte s.data.toList 32)):=by
  unfold ai
  refine aH (aI ?_)
  by_cases h:s=ByteArray.mk #[32]
  · subst h
    exact bK (by rw [cY];exact decide_eq_true rfl) rfl
  · refine bm (by rw [cY];exact decide_eq_false fun q=>h q.symm) (bc (bi ?_))
    show some (Sum.inr (aC.r0 (Ke s 32)))=_
    rw [QI]
theorem P0(s:ByteArray) :dI s (ByteArray.mk #[32])=some (.r0 ((s.data.toList.count 32:Nat):Int)):=by
  unfold dI
  refine aH (aG (aI (bc (bi ?_))))
  show some (Sum.inr (bN.r0 (ND s 32)))=_
  rw [QJ]
def oF(s:ByteArray) :Nat→ByteArray×List ByteArray
  | 0=>(s,[])
  | j+1=>((oF s j).1.extract ((Lib.indexByte (oF s j).1.data.toList 32).toNat+1) (oF s j).1.size,(oF s j).2++[(oF s j).1.extract 0 (Lib.indexByte (oF s j).1.data.toList 32).toNat])
structure Te (s:ByteArray) (j:Nat) (p:ByteArray×List ByteArray):Prop where
  rest:aJ p.1.data.toList=(aJ s.data.toList).drop j
  done:p.2.map (fun x=>x.data.toList)=(aJ s.data.toList).take j
  len:p.2.length=j
  size:p.1.size≤s.size
theorem KX{s:ByteArray}{j:Nat}{r:ByteArray}(hr:aJ r.data.toList=(aJ s.data.toList).drop j)(hj:j<s.data.toList.count 32) :∃ n:Nat,Lib.indexByte r.data.toList 32=(n:Int)∧n<r.size∧r.data.toList=r.data.toList.take n++32::r.data.toList.drop (n+1)∧∀ c∈r.data.toList.take n,c≠32:=by
  have hge:=Lib.indexByte_ge r.data.toList 32
  by_cases hneg:Lib.indexByte r.data.toList 32<0
  · have h1:=hX _ (yo _ hneg)
    rw [hr] at h1
    have h2:=congrArg List.length h1
    rw [List.length_drop,nH] at h2
    simp only [List.length_cons,List.length_nil] at h2
    omega
  · obtain ⟨n,hn⟩:=Int.eq_ofNat_of_zero_le (Int.not_lt.1 hneg)
    have hn:Lib.indexByte r.data.toList 32=(n:Int):=hn
    obtain ⟨g1,g2,g3⟩:=yp _ n hn
    exact ⟨n,hn,by simpa using g1,g2,g3⟩
theorem P3(s:ByteArray) :∀ j,j≤s.data.toList.count 32→Te s j (oF s j)
  | 0,_=>⟨rfl,rfl,rfl,Nat.le_refl _⟩
  | j+1,h=>by
    have ih:=P3 s j (by omega)
    obtain ⟨n,hn,hl,hs,hb⟩:=KX ih.rest (by omega)
    have hsz:(oF s j).1.data.toList.length=(oF s j).1.size:=by simp
    have hx:((oF s j).1.extract 0 n).data.toList=(oF s j).1.data.toList.take n:=by rw [bT];simp
    have hy:((oF s j).1.extract (n+1) (oF s j).1.size).data.toList=(oF s j).1.data.toList.drop (n+1):=by
      rw [bT]
      apply List.take_of_length_le
      rw [List.length_drop]
      omega
    have hsp:aJ (oF s j).1.data.toList=(oF s j).1.data.toList.take n::aJ ((oF s j).1.data.toList.drop (n+1)):=by
      conv=>lhs;rw [hs]
      exact nG _ _ hb
    have hr:=ih.rest
    rw [hsp] at hr
    have hj:j<(aJ s.data.toList).length:=by rw [nH];omega
    rw [List.drop_eq_getElem_cons hj] at hr
    injection hr with hr1 hr2
    have e1:(oF s (j+1)).1=(oF s j).1.extract (n+1) (oF s j).1.size:=by rw [oF,hn];rfl
    have e2:(oF s (j+1)).2=(oF s j).2++[(oF s j).1.extract 0 n]:=by rw [oF,hn];rfl
    refine ⟨?_,?_,?_,?_⟩
    · rw [e1,hy,hr2]
    · rw [e2,List.map_append,ih.done,List.take_add_one,List.getElem?_eq_getElem hj,List.map_cons,List.map_nil,hx,hr1]
      rfl
    · rw [e2,List.length_append,ih.len];rfl
    · rw [e1]
      have:=ih.size
      simp only [ByteArray.size_extract]
      omega
theorem vH{s:ByteArray}{l:List ByteArray}(h:l.map (fun x=>x.data.toList)=aJ s.data.toList) :l=aq s:=by
  rw [←lR] at h
  exact (List.map_inj_right fun x y q=>gz q).1 h
theorem pZ(s:ByteArray) :(aq s).length=s.data.toList.count 32+1:=by
  have:=congrArg List.length (lR s)
  rwa [List.length_map,nH] at this
theorem Cz(s:ByteArray)(hs:s.size≤1000000000) :bf s (ByteArray.mk #[32]) 0 (-1)=some (.r0 (aq s).length (aq s).length (aq s)):=by
  have hc:s.data.toList.count 32≤s.size:=by
    have:=List.count_le_length (a:=(32:UInt8)) (l:=s.data.toList)
    simpa using this
  have hw:=pZ s
  have hok:=P3 s
  generalize s.data.toList.count 32=c at *
  unfold bf
  have h8:(jE s (ByteArray.mk #[32]) (-1)).run=some (.inl ((c:Int)+1)):=by
    have hC:=P0 s
    have:s.data.toList.count 32=c:=by have:=pZ s;omega
    rw [this] at hC
    simp only [jE,hC]
    exact aI (bm (by rw [cY];decide) (bc (bi (am (by rw [aX];show _≤(c:Int)+1∧(c:Int)+1≤_;omega) rfl))))
  have h9:(jF s ((c:Int)+1)).run=some (.inl ((c:Int),c+1,List.replicate (c+1) ByteArray.empty)):=by
    have him:lU ((c:Int)+1) (((s.size+1:Nat)):Int)=((c+1:Nat):Int):=by
      unfold lU
      split<;>omega
    have e1:(((c+1:Nat):Int)-1)=(c:Int):=by omega
    simp only [jF,him,e1,Int.toNat_natCast]
    exact am (by rw [aX];omega) (am (decide_eq_true (by omega)) (am (decide_eq_true (by omega)) (am (decide_eq_true (by omega)) (am (by rw [aX];omega) (am (by rw [aX];omega) rfl)))))
  refine aH (ah h8 (ah h9 (ah (a:=((oF s c).1,c,(oF s c).2++List.replicate 1 ByteArray.empty)) (cV (fun j=>((oF s j).1,j,(oF s j).2++List.replicate (c+1-j) ByteArray.empty)) c rfl (fun j hj=>?_) ?_) ?_)))
  · have H:=hok j (by omega)
    obtain ⟨n,hn,hl,hsp,hb⟩:=KX H.rest (by have:=pZ s;omega)
    have hsz:=H.size
    have hlen:=H.len
    have e1:(oF s (j+1)).1=(oF s j).1.extract (n+1) (oF s j).1.size:=by rw [oF,hn];rfl
    have e2:(oF s (j+1)).2=(oF s j).2++[(oF s j).1.extract 0 n]:=by rw [oF,hn];rfl
    have e3:c+1-j=(c+1-(j+1))+1:=by omega
    have e4:List.set ((oF s j).2++List.replicate (c+1-j) ByteArray.empty) j ((oF s j).1.extract 0 n)=((oF s j).2++[(oF s j).1.extract 0 n])++List.replicate (c+1-(j+1)) ByteArray.empty:=by
      rw [List.set_append_right _ _ (by omega),hlen,Nat.sub_self,e3,List.replicate_succ,List.set_cons_zero]
      simp
    simp only [e1,e2,←e4]
    simp only [eJ,oE,PZ,hn]
    have n1:((n:Int)+0).toNat=n:=by omega
    have n2:((n:Int)+(((ByteArray.mk #[32]).size:Nat):Int)).toNat=n+1:=by show ((n:Int)+1).toNat=_;omega
    refine bK (decide_eq_true (by omega)) (bi (bm (decide_eq_false ?_) (am ?_ (am ?_ (am ?_ (am ?_ (am ?_ (am ?_ (am ?_ (am ?_ (am ?_ ?_)))))))))))
    · show ¬ (n:Int)<0;omega
    · rw [aX];show _≤(n:Int)+0∧(n:Int)+0≤_;omega
    · rw [lQ];show 0≤(n:Int)+0∧(n:Int)+0≤_;omega
    · rw [lQ];omega
    · rw [dc];omega
    · rw [cq,List.length_append,List.length_replicate];omega
    · rw [aX];show _≤(n:Int)+1∧(n:Int)+1≤_;omega
    · rw [lQ];omega
    · rw [lQ];show 0≤(n:Int)+1∧(n:Int)+1≤_;omega
    · rw [aX];omega
    · show some (Sum.inl ((oF s j).1.extract (((n:Int)+(((ByteArray.mk #[32]).size:Nat):Int)).toNat) (oF s j).1.size,j+1,List.set ((oF s j).2++List.replicate (c+1-j) ByteArray.empty) j ((oF s j).1.extract 0 ((n:Int)+0).toNat)))=_
      rw [n1,n2]
  · rw [show c+1-c=1 by omega]
    exact bm (decide_eq_false (by omega)) rfl
  · have H:=hok c (Nat.le_refl _)
    have hlen:=H.len
    have hcc:s.data.toList.count 32=c:=by have:=pZ s;omega
    have h1:aJ (oF s c).1.data.toList=[(oF s c).1.data.toList]:=by
      apply hX
      intro x hx q
      subst q
      have h2:=congrArg List.length H.rest
      rw [nH,List.length_drop,nH,hcc] at h2
      have:=List.count_pos_iff.2 hx
      omega
    have hf:(oF s c).2++[(oF s c).1]=aq s:=by
      apply vH
      rw [List.map_append,H.done,List.map_cons,List.map_nil,←h1,H.rest,List.take_append_drop]
    have e4:List.set ((oF s c).2++List.replicate 1 ByteArray.empty) c (oF s c).1=aq s:=by
      rw [List.set_append_right _ _ (by omega),hlen,Nat.sub_self,←hf]
      rfl
    show (gX (c+1) (oF s c).1 c ((oF s c).2++List.replicate 1 ByteArray.empty)).run=_
    simp only [gX,e4,hw]
    exact am (by rw [dc];omega) (am (by rw [cq,List.length_append,List.length_replicate];omega) (am (by rw [aX];omega) (am (by rw [lQ];omega) (am (by rw [lQ];omega) rfl))))
end Go.Plb.Seat
