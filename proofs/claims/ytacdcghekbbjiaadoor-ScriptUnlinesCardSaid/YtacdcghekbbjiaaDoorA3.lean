/-
  Part 3 of what the claim leans on: an evaluator of the model, proved sound; the contracts of the functions.
-/
import Derived.Lib.OthersKept
import Derived.Lib.Hide
import Derived.Lib.Strings
import Derived.Laws.RangeAny
import Derived.WalkKit
import Derived.WalkSpells
import Derived.Lib.AtoiAllCases
import Derived.Lib.AtoiErrMem
import Derived.RangeFuncBox
import Derived.RangeFuncLeaves
import Derived.RangeFuncNested
import Derived.Shelf.Abstract
import Derived.Shelf.RegionOpen
import Derived.OwnWalkIn
import Derived.TacticsInMore
import Derived.LoopNIn
import Derived.LoopIn
import Derived.RegionIn
import Derived.Stop.RegionWithIn
import Derived.Lib.Bytealg
import Derived.Test.YtacdcghekbbjiaaDoorA2
namespace Go.Plb
set_option linter.unusedSimpArgs false
set_option linter.unusedVariables false
set_option linter.unusedSectionVars false
variable [Rom]
inductive T (α:Type) where
  | fail
  | leaf (a:α)
  | ask (b:Bool) (t f:T α)
  | need (b:Bool) (t:T α)
  | alt (k:Nat) (t e:T α)
def T.run{α:Type} :T α→Option α
  | .fail=>none
  | .leaf a=>some a
  | .ask b t f=>bif b then t.run else f.run
  | .need b t=>bif b then t.run else none
  | .alt _ t e=>match t.run with
    | some a=>some a
    | none=>e.run
structure nS (α:Type) where
  path:List Nat
  obs:List Bool
  val:α
def nS.ask{α:Type}(n:Nat)(b:Bool)(l:nS α) :nS α:=⟨n::l.path,b::l.obs,l.val⟩
def nS.need{α:Type}(b:Bool)(l:nS α) :nS α:=⟨l.path,b::l.obs,l.val⟩
def nS.alt{α:Type}(n:Nat)(l:nS α) :nS α:=⟨n::l.path,l.obs,l.val⟩
def T.leaves{α:Type} :T α→List (nS α)
  | .fail=>[]
  | .leaf a=>[⟨[],[],a⟩]
  | .ask b t f=>t.leaves.map (nS.ask 1 (b==true))++f.leaves.map (nS.ask 0 (b==false))
  | .need b t=>t.leaves.map (nS.need b)
  | .alt k t e=>t.leaves.map (nS.alt k)++e.leaves
theorem gk{α:Type} :∀ (t:T α) {a:α},t.run=some a→∃ l∈t.leaves,l.val=a∧ae l.obs
  | .fail,a,h=>by cases h
  | .leaf b,a,h=>by
    simp only [T.run,Option.some.injEq] at h;subst h
    exact ⟨⟨[],[],b⟩,by simp [T.leaves],rfl,trivial⟩
  | .ask b t f,a,h=>by
    simp only [T.run] at h
    cases b with
    | true =>
      simp only [cond_true] at h
      obtain ⟨l,h1,h2,h3⟩:=gk t h
      exact ⟨l.ask 1 (true==true),by simp only [T.leaves,List.mem_append];exact .inl (List.mem_map_of_mem h1),h2,⟨rfl,h3⟩⟩
    | false =>
      simp only [cond_false] at h
      obtain ⟨l,h1,h2,h3⟩:=gk f h
      exact ⟨l.ask 0 (false==false),by simp only [T.leaves,List.mem_append];exact .inr (List.mem_map_of_mem h1),h2,⟨rfl,h3⟩⟩
  | .need b t,a,h=>by
    simp only [T.run] at h
    cases b with
    | true =>
      simp only [cond_true] at h
      obtain ⟨l,h1,h2,h3⟩:=gk t h
      exact ⟨l.need true,by simp only [T.leaves];exact List.mem_map_of_mem h1,h2,⟨rfl,h3⟩⟩
    | false=>cases h
  | .alt k t e,a,h=>by
    simp only [T.run] at h
    split at h
    · rename_i a' ht
      cases h
      obtain ⟨l,h1,h2,h3⟩:=gk t ht
      exact ⟨l.alt k,by simp only [T.leaves,List.mem_append];exact .inl (List.mem_map_of_mem h1),h2,h3⟩
    · obtain ⟨l,h1,h2,h3⟩:=gk e h
      exact ⟨l,by simp only [T.leaves,List.mem_append];exact .inr h1,h2,h3⟩
def mT{α X:Type}(N:α→aG)(E:X→AE×aG) :α⊕X→AE×aG
  | .inl a=>(.normal,N a)
  | .inr x=>E x
def Sg{α X:Type}(P:Program)(lent:List ah)(cs:List Code)(st:aG)(m:Option (α⊕X))(N:α→aG)(E:X→AE×aG) :Prop :=
  ∀ r,m=some r→cO P lent cs st fun e st'=>(e,st')=mT N E r
def DV{α X:Type}(C:oY)(S:pQ)(n:Nat)(cs:List Code)(st:aG)(ls:List (nS (α⊕X)))(ks:List NS)(k:Nat) :List (Bool×Option (AE×aG×List Bool)) :=
  List.zipWith (fun l s=>(s.ok k,Dq s (Cg (jG C S 12 n) cs st (some l.path)))) ls ks
def BF{α X:Type}(N:α→aG)(E:X→AE×aG)(ls:List (nS (α⊕X))) :List (Bool×Option (AE×aG×List Bool)) :=
  ls.map fun l=>(true,some ((mT N E l.val).1,(mT N E l.val).2,l.obs))
theorem BG{α β γ:Type}{f:α→β→γ}{g:α→γ} :∀ {l:List α} {k:List β},List.zipWith f l k=l.map g→∀ a∈l,∃ b,f a b=g a
  | [],_,_,a,ha=>by cases ha
  | x::l,[],h,a,ha=>by simp at h
  | x::l,y::k,h,a,ha=>by
    simp only [List.zipWith_cons_cons,List.map_cons,List.cons.injEq] at h
    rcases List.mem_cons.1 ha with rfl | ha
    · exact ⟨y,h.1⟩
    · exact BG h.2 a ha
theorem Sg.seg{C:oY}(hC:C.Ok){S:pQ}(hS:ba C.P S){lent:List ah}{α X:Type}(n:Nat)(cs:List Code)(st:aG)(t:T (α⊕X))(N:α→aG)(E:X→AE×aG)(ks:List NS) 
    (h:DV C S n cs st t.leaves ks lent.length=BF N E t.leaves):Sg C.P lent cs st t.run N E:=by
  intro r hr
  obtain ⟨l,h1,h2,h3⟩:=gk t hr
  obtain ⟨k,hk⟩:=BG h l h1
  simp only [Prod.mk.injEq] at hk
  obtain ⟨hn,he⟩:=hk
  have:=cO.seg hC hS (lent:=lent) (Q:=fun e st'=>(e,st')=mT N E r) cs.length (some l.path) k (cs:=cs) (st:=st) (by rw [List.take_length];exact he) hn h3
  refine this ?_
  rw [h2,List.drop_length]
  generalize hg:mT N E r=x
  obtain ⟨e,s⟩:=x
  cases e with
  | normal=>exact cO.nil rfl
  | ret=>rfl
  | exit id=>rfl
theorem cO.append{P:Program}{lent:List ah}{cs1 cs2:List Code}{st:aG}{Q1 Q:AE→aG→Prop}(h:cO P lent cs1 st Q1)(k:∀ e st',Q1 e st'→vR P lent cs2 e st' Q) :cO P lent (cs1++cs2) st Q:=by
  intro ρ0 w0 hN K hK a w hA
  apply o6
  refine h ρ0 w0 hN _ ?_ a w hA
  intro e st' a' w' q hA'
  have:=k e st' q
  cases e with
  | normal=>exact this ρ0 w0 hN K hK a' w' hA'
  | ret=>exact hK _ _ _ _ this hA'
  | exit id=>exact hK _ _ _ _ this hA'
def qv{X:Type}(E:X→AE×aG) :Prop:=∀ x,(E x).1 ≠ .normal
theorem BH{P:Program}{lent:List ah}{cs:List Code}{e:AE}{st:aG}{Q:AE→aG→Prop}(hn:e ≠ .normal)(h:Q e st) :vR P lent cs e st Q:=by
  cases e with
  | normal=>exact (hn rfl).elim
  | ret=>exact h
  | exit id=>exact h
def bA{α β X:Type}(m:Option (α⊕X))(k:α→Option (β⊕X)) :Option (β⊕X) :=
  match m with
  | none=>none
  | some (.inl a)=>k a
  | some (.inr x)=>some (.inr x)
theorem Sg.seq{P:Program}{lent:List ah}{α β X:Type}{cs1 cs2:List Code}{st:aG}{m:Option (α⊕X)}{N1:α→aG}{E:X→AE×aG}{k:α→Option (β⊕X)}{N:β→aG}(hE:qv E) 
    (h:Sg P lent cs1 st m N1 E) (hk:∀ a,Sg P lent cs2 (N1 a) (k a) N E):Sg P lent (cs1++cs2) st (bA m k) N E:=by
  intro r hr
  unfold bA at hr
  split at hr
  · cases hr
  · rename_i a
    refine cO.append (h _ rfl) ?_
    intro e st' q
    simp only [mT,Prod.mk.injEq] at q
    obtain ⟨rfl,rfl⟩:=q
    exact hk a r hr
  · rename_i x
    simp only [Option.some.injEq] at hr;subst hr
    refine cO.append (h _ rfl) ?_
    intro e st' q
    simp only [mT] at q
    refine BH ?_ q
    have:=hE x
    rw [←q] at this;exact this
def lX{σ Y:Type}(B:σ→Option (σ⊕Y)) :Nat→σ→Option Y
  | 0,_=>none
  | n+1,s=>match B s with
    | none=>none
    | some (.inl s')=>lX B n s'
    | some (.inr y)=>some y
theorem o9{σ Y:Type}{B:σ→Option (σ⊕Y)} :∀ (n:Nat) {s:σ} {y:Y},lX B n s=some y→∀ m,n≤m→lX B m s=some y
  | 0,s,y,h,_,_=>by cases h
  | n+1,s,y,h,m,hm=>by
    obtain ⟨m',rfl⟩:∃ m',m=m'+1:=⟨m-1,by omega⟩
    simp only [lX] at h ⊢
    split at h
    · cases h
    · exact o9 n h m' (by omega)
    · exact h
open Classical in
noncomputable def cV {σ Y : Type} (B : σ → Option (σ ⊕ Y)) (s : σ) : Option Y :=
  if h : ∃ n y, lX B n s = some y then some h.choose_spec.choose else none
theorem nM{σ Y:Type}{B:σ→Option (σ⊕Y)}{s:σ}{y:Y} :cV B s=some y↔∃ n,lX B n s=some y:=by
  unfold cV
  constructor
  · intro h
    split at h
    · rename_i q
      simp only [Option.some.injEq] at h
      exact ⟨q.choose,by rw [←h];exact q.choose_spec.choose_spec⟩
    · cases h
  · rintro ⟨n,h⟩
    rw [dif_pos ⟨n,y,h⟩]
    generalize hq:(⟨n,y,h⟩:∃ n y,lX B n s=some y)=q
    have h1:=q.choose_spec.choose_spec
    have a1:=o9 n h (max n q.choose) (by omega)
    have a2:=o9 _ h1 (max n q.choose) (by omega)
    rw [a1] at a2
    exact a2.symm
theorem zA{σ Y:Type}(B:σ→Option (σ⊕Y))(s:σ) :cV B s=match B s with
    | none=>none
    | some (.inl s')=>cV B s'
    | some (.inr y)=>some y:=by
  have key:∀ y,cV B s=some y↔(match B s with | none=>none | some (.inl s')=>cV B s' | some (.inr y)=>some y)=some y:=by
    intro y
    rw [nM]
    constructor
    · rintro ⟨n,h⟩
      cases n with
      | zero=>cases h
      | succ n =>
        simp only [lX] at h
        cases q:B s with
        | none=>rw [q] at h;cases h
        | some z=>cases z with
          | inl s'=>rw [q] at h;exact nM.2 ⟨n,h⟩
          | inr z=>rw [q] at h;exact h
    · intro h
      split at h<;>rename_i q
      · cases h
      · obtain ⟨n,hn⟩:=nM.1 h
        exact ⟨n+1,by simp only [lX,q];exact hn⟩
      · exact ⟨1,by simp only [lX,q];exact h⟩
  generalize (match B s with | none=>none | some (.inl s')=>cV B s' | some (.inr y)=>some y)=x at key
  cases hl:cV B s with
  | none=>cases x with
    | none=>rfl
    | some y=>rw [(key y).2 rfl] at hl;cases hl
  | some y=>rw [hl] at key;exact ((key y).1 rfl).symm
theorem zB{σ Y:Type}{B:σ→Option (σ⊕Y)}{s s':σ}(h:B s=some (.inl s')) :cV B s=cV B s':=by rw [zA,h]
theorem xe{σ Y:Type}{B:σ→Option (σ⊕Y)}{s:σ}{y:Y}(h:B s=some (.inr y)) :cV B s=some y:=by rw [zA,h]
theorem Cp{σ Y:Type}{B:σ→Option (σ⊕Y)}(G:σ→Prop)(m:σ→Nat)(Q:Y→Prop)(h:∀ s,G s→(∃ s',B s=some (.inl s')∧G s'∧m s'<m s)∨∃ y,B s=some (.inr y)∧Q y) :
    ∀ s,G s→∃ y,cV B s=some y∧Q y:=by
  have key:∀ n s,m s<n→G s→∃ y,cV B s=some y∧Q y:=by
    intro n
    induction n with
    | zero=>intro s q;omega
    | succ n ih =>
      intro s q hs
      rcases h s hs with ⟨s',h1,h2,h3⟩ | ⟨y,h1,h2⟩
      · obtain ⟨y,k1,k2⟩:=ih s' (by omega) h2
        exact ⟨y,by rw [zB h1];exact k1,k2⟩
      · exact ⟨y,xe h1,h2⟩
  exact fun s hs=>key _ s (Nat.lt_succ_self _) hs
def f3{ρ X:Type}(id:Nat)(J:ρ→aG)(E:X→AE×aG) :ρ⊕X→AE×aG
  | .inl r=>(.exit id,J r)
  | .inr x=>E x
def qW{X:Type}(id:Nat)(E:X→AE×aG) :Prop:=∀ x,(E x).1 ≠ .exit id
theorem Sg.loop{P:Program}{lent:List ah}{σ ρ X:Type}{I:σ→aG}{J:ρ→aG}{E:X→AE×aG}{B:σ→Option (σ⊕(ρ⊕X))}{id:Nat}{b:Code}(hE:qv E)(hI:qW id E) 
    (hb:∀ s,Sg P lent (dq b) (I s) (B s) I (f3 id J E)) (s:σ):Sg P lent [.block id (.loop b)] (I s) (cV B s) J E:=by
  intro y hy
  obtain ⟨n,hn⟩:=nM.1 hy

  have:=cO.loop (P:=P) (lent:=lent) (id:=id) (b:=b) (rest:=[]) (Q:=fun e st'=>(e,st')=mT J E y) (σ:=Nat×σ) (fun s=>I s.2) (fun s=>lX B s.1 s.2=some y) (fun s=>s.1) rfl (fun s hs=>?_) (n,s) hn
  · exact this
  · obtain ⟨n,s⟩:=s
    simp only at hs ⊢
    cases n with
    | zero=>cases hs
    | succ n =>
      simp only [lX] at hs
      split at hs
      · cases hs
      · rename_i s' hB
        refine (hb s _ hB).mono ?_
        intro e st' q
        simp only [mT,Prod.mk.injEq] at q
        obtain ⟨rfl,rfl⟩:=q
        exact ⟨(n,s'),hs,by simp,rfl⟩
      · rename_i y' hB
        simp only [Option.some.injEq] at hs;subst hs
        refine (hb s _ hB).mono ?_
        intro e st' q
        cases y' with
        | inl r =>
          simp only [mT,f3,Prod.mk.injEq] at q
          obtain ⟨rfl,rfl⟩:=q
          simp only [pS,if_true]
          exact cO.nil rfl
        | inr x =>
          simp only [mT,f3] at q
          have h1:=hE x
          have h2:=hI x
          rw [←q] at h1 h2
          simp only at h1 h2
          cases e with
          | normal=>exact (h1 rfl).elim
          | ret=>exact q
          | exit j =>
            have hj : ¬ j=id:=fun h=>h2 (by rw [h])
            simp only [pS,hj,if_false]
            exact q
def xf{κ X:Type}(m:Option (κ⊕(κ⊕X))) :Option (κ⊕X) :=
  match m with
  | none=>none
  | some (.inl a)=>some (.inl a)
  | some (.inr (.inl a))=>some (.inl a)
  | some (.inr (.inr x))=>some (.inr x)
theorem Sg.block{P:Program}{lent:List ah}{κ X:Type}{K:κ→aG}{E:X→AE×aG}{m:Option (κ⊕(κ⊕X))}{id:Nat}{b:Code}{st:aG}(hE:qv E)(hI:qW id E) 
    (hb:Sg P lent (dq b) st m K (f3 id K E)):Sg P lent [.block id b] st (xf m) K E:=by
  intro r hr
  unfold xf at hr
  refine cO.block (rest:=[]) rfl ?_
  split at hr
  · cases hr
  · simp only [Option.some.injEq] at hr;subst hr
    refine (hb _ rfl).mono ?_
    intro e st' q
    simp only [mT,Prod.mk.injEq] at q
    obtain ⟨rfl,rfl⟩:=q
    exact cO.nil rfl
  · simp only [Option.some.injEq] at hr;subst hr
    refine (hb _ rfl).mono ?_
    intro e st' q
    simp only [mT,f3,Prod.mk.injEq] at q
    obtain ⟨rfl,rfl⟩:=q
    simp only [if_true]
    exact cO.nil rfl
  · rename_i x
    simp only [Option.some.injEq] at hr;subst hr
    refine (hb _ rfl).mono ?_
    intro e st' q
    simp only [mT,f3] at q
    have h1:=hE x
    have h2:=hI x
    rw [←q] at h1 h2
    simp only at h1 h2
    cases e with
    | normal=>exact (h1 rfl).elim
    | ret=>exact q
    | exit j =>
      have hj : ¬ j=id:=fun h=>h2 (by rw [h])
      simp only [hj,if_false]
      exact q
theorem Sg.scope{P:Program}{lent:List ah}{α X:Type}{N:α→aG}{E:X→AE×aG}{m:Option (α⊕X)}{b:Code}{st:aG}(hE:qv E)(hb:Sg P lent (dq b) st m N E) :Sg P lent [.scope b] st m N E:=by
  intro r hr
  refine cO.scope (rest:=[]) rfl ((hb r hr).mono ?_)
  intro e st' q
  cases r with
  | inl a =>
    simp only [mT,Prod.mk.injEq] at q
    obtain ⟨rfl,rfl⟩:=q
    exact cO.nil rfl
  | inr x =>
    refine BH ?_ q
    have:=hE x
    simp only [mT] at q
    rw [←q] at this;exact this
theorem zC{k:Nat}{ρ0:aa}{w0:World}{st:aG}{a:Act}{w:World}{c:Operand}{b kn:Bool}(h:At k ρ0 w0 st a w)(hc:Ep st.tmps c=.bool kn b) :At k ρ0 w0 { st with tmps:=fF st.tmps c b } a w∧a.eval c=.bool b:=by
  obtain ⟨ρ,E,W,hs,hbk,hle⟩:=h
  have hb:a.eval c=.bool b:=by
    have:=tz hs.heap.rom hs.tmps c
    rw [hc] at this
    generalize a.eval c=z at this
    cases this;rfl
  refine ⟨⟨ρ,E,W,⟨hs.defers,?_,hs.heap⟩,hbk,hle⟩,hb⟩
  cases c with
  | tmp t =>
    simp only [fF]
    have:bH ρ w (st.tmps.set t (.bool true b)) (a.tmps.toList.set t (.bool b)):=hs.tmps.set (.bool _ _) t
    have e:a.tmps.toList.set t (.bool b)=a.tmps.toList:=by
      apply List.ext_getElem?
      intro j
      rw [List.getElem?_set]
      split
      · rename_i q;subst q
        split
        · rename_i hlt
          simp only [Act.eval] at hb
          rw [Array.getD_eq_getD_getElem?] at hb
          have hlt':t<a.tmps.size:=by simpa using hlt
          rw [Array.getElem?_eq_getElem hlt'] at hb
          simp only [Option.getD_some] at hb
          simp [hlt',hb]
        · rename_i hge
          rw [List.getElem?_eq_none (by omega)]
      · rfl
    rw [e] at this;exact this
  | const v=>exact hs.tmps
  | global g=>exact hs.tmps
  | func f=>exact hs.tmps
theorem Sg.cond{P:Program}{lent:List ah}{α X:Type}{N:α→aG}{E:X→AE×aG}{m1 m2:Option (α⊕X)}{c:Operand}{A B:Code}{st:aG}{kn b:Bool}(hE:qv E)(hc:Ep st.tmps c=.bool kn b) 
    (h1:Sg P lent (dq A) { st with tmps:=fF st.tmps c true } m1 N E) (h2:Sg P lent (dq B) { st with tmps:=fF st.tmps c false } m2 N E):Sg P lent [.cond c A B] st (bif b then m1 else m2) N E:=by
  intro r hr
  intro ρ0 w0 hN K hK a w hA
  simp only [vD]
  obtain ⟨hA',hb⟩:=zC hA hc
  refine wp_cond hb ?_
  have fin:∀ (D:Code) (m:Option (α⊕X)) (st1:aG),Sg P lent (dq D) st1 m N E→m=some r→At lent.length ρ0 w0 st1 a w→D.wp P (fun e a' w'=>match e with | .normal=>K .normal a' w' | e=>K e a' w') a w:=by
    intro D m st1 hS hm hA1
    refine lm D (hS r hm ρ0 w0 hN _ ?_ a w hA1)
    intro e st' a' w' q hA2
    cases e with
    | normal=>exact hK .normal st' a' w' q hA2
    | ret=>exact hK .ret st' a' w' q hA2
    | exit id=>exact hK (.exit id) st' a' w' q hA2
  cases b with
  | true=>exact fin A m1 _ h1 hr hA'
  | false=>exact fin B m2 _ h2 hr hA'
theorem Sg.pre{P:Program}{lent:List ah}{α X:Type}{N:α→aG}{E:X→AE×aG}{m:Option (α⊕X)}{cs:List Code}{st st1:aG}(s:NS)(hn:s.ok lent.length=true)(h1:s.on st=st1)(h:Sg P lent cs st1 m N E) :Sg P lent cs st m N E :=
  fun r hr=>cO.weak (by rw [←h1];exact Dp hn st) (h r hr)
def tq{X:Type} :Option (Empty⊕X)→Option X
  | some (.inr x)=>some x
  | _=>none
theorem Sg.contract{P:Program}{f:FuncId}{fn:Func}{c:Code}{X:Type}{N:Empty→aG}{E:X→AE×aG}{m:Option (Empty⊕X)}{lent:List ah}{args:List AV}(keep:Bool)(o:X→jB)(hf:P.funcs[f]? = some fn)(hc:fn.body=some c) 
    (h:Sg P lent (dq c) (jF fn lent args) m N E) (hE:∀ x,Bv P fn lent.length keep (o x) (E x).1 (E x).2) {x:X} (hx:tq m=some x):aj P f lent args (o x):=by
  unfold tq at hx
  split at hx
  · rename_i x'
    simp only [Option.some.injEq] at hx;subst hx
    refine cO.contract (keep:=keep) hf hc ((h _ rfl).mono ?_)
    intro e st' q
    simp only [mT] at q
    have:=hE x'
    rw [←q] at this;exact this
  · cases hx
end Go.Plb
namespace Go.Plb
set_option linter.unusedSectionVars false
variable [Rom]
theorem ux{ρ X:Type}{id:Nat}{J:ρ→aG}{E:X→AE×aG}(h:qv E) :qv (f3 id J E):=by
  intro x
  cases x with
  | inl r=>intro q;cases q
  | inr x=>exact h x
def ji:Code→Code
  | .block _ (.loop b)=>b
  | _=>.skip
def Fs:Code→Code
  | .cond _ a _=>a
  | _=>.skip
def Ft:Code→Code
  | .cond _ _ b=>b
  | _=>.skip
theorem Sg.cut{P:Program}{lent:List ah}{α β X:Type}{cs:List Code}{st:aG}{m:Option (α⊕X)}{N1:α→aG}{E:X→AE×aG}{k:α→Option (β⊕X)}{N:β→aG}(n:Nat)(hE:qv E) 
    (h:Sg P lent (cs.take n) st m N1 E) (hk:∀ a,Sg P lent (cs.drop n) (N1 a) (k a) N E):Sg P lent cs st (bA m k) N E:=by
  have:=Sg.seq hE h hk
  rwa [List.take_append_drop] at this
theorem Cq{P:Program}{lent:List ah}{σ ρ X:Type}{I:σ→aG}{J:ρ→aG}{E:X→AE×aG}{B:σ→Option (σ⊕(ρ⊕X))}{id:Nat}{b:Code}{cs:List Code}(hcs:cs=[.block id (.loop b)])(hE:qv E)(hI:qW id E) 
    (hb:∀ s,Sg P lent (dq b) (I s) (B s) I (f3 id J E)) (s:σ):Sg P lent cs (I s) (cV B s) J E:=by rw [hcs];exact Sg.loop hE hI hb s
theorem Cr{P:Program}{lent:List ah}{α X:Type}{N:α→aG}{E:X→AE×aG}{m1 m2:Option (α⊕X)}{c:Operand}{A B:Code}{st:aG}{kn b:Bool}{cs:List Code}(hcs:cs=[.cond c A B])(hE:qv E)(hc:Ep st.tmps c=.bool kn b) 
    (h1:Sg P lent (dq A) { st with tmps:=fF st.tmps c true } m1 N E) (h2:Sg P lent (dq B) { st with tmps:=fF st.tmps c false } m2 N E):Sg P lent cs st (bif b then m1 else m2) N E:=by rw [hcs];exact Sg.cond hE hc h1 h2
end Go.Plb
namespace Go.Plb.Seat
open Go Go.Plb
set_option linter.unusedSimpArgs false
set_option linter.unusedVariables false
noncomputable abbrev E0:pQ:=bd []
def L1:List aL:=[]
def S1:pQ:=bd L1
theorem F3:ba prog S1:=o7 _
end Go.Plb.Seat
namespace Go.Plb.Seat
open Go Go.Plb
set_option linter.unusedSimpArgs false
set_option linter.unusedVariables false
set_option maxRecDepth 100000
def ox(n:Nat) :Bool:=Nat.ble n 1000000000
noncomputable def L2:List aL:=L1
theorem F4:ba prog (bd L2):=F3
end Go.Plb.Seat
namespace Go.Plb.Seat
open Go Go.Plb
set_option linter.unusedSimpArgs false
set_option linter.unusedVariables false
theorem aj.nan{f:FuncId}{g:Nat→jB}{r:jB}(h:∀ n:Nat,aj prog f [] [.int .u64 (n:Int)] (g n))(e:∀ n:Nat,isNaN n=true→g n=r) :aj prog f [] [.nan] r:=by
  intro ρ w us hN hv
  cases hv with | cons _ u _ _ h1 h2 =>
  cases h2
  cases h1 with | nan n hn =>
  rw [←e n hn]
  exact h n ρ w _ hN (.cons _ _ _ _ (.int _ _) .nil)
noncomputable def L3:List aL:=L2
theorem Gz:ba prog (bd L3):=F4
end Go.Plb.Seat
namespace Go.Plb.Seat
open Go Go.Plb
set_option linter.unusedVariables false
set_option maxRecDepth 100000
theorem d4{S:pQ}(hS:ba prog S){lent:List ah}{α X:Type}{cs:List Code}{st:aG}{t:T (α⊕X)}(N:α→aG){E:X→AE×aG}(ks:List NS) 
    (h:DV C0 S 60 cs st t.leaves ks lent.length=BF N E t.leaves:=by kernel_rfl):Sg prog lent cs st t.run N E:=Sg.seg E9 hS 60 cs st t N E ks h
theorem EB{lent:List ah}{σ ρ X:Type}{cs:List Code}{st:aG}{E:X→AE×aG}{B:σ→Option (σ⊕(ρ⊕X))}{ent:σ}(s:NS)(I:σ→aG)(J:ρ→aG)(id:Nat)(hE:qv E)(hI:qW id E) 
    (hb:∀ a,Sg prog lent (dq (ji (cs.headD .skip))) (I a) (B a) I (f3 id J E)) (hn:s.ok lent.length=true:=by exact rfl) (h1:s.on st=I ent:=by kernel_rfl) (hcs:cs=[.block id (.loop (ji (cs.headD .skip)))]:=by kernel_rfl) :
    Sg prog lent cs st (cV B ent) J E:=Sg.pre s hn h1 (Cq hcs hE hI hb ent)
def xg:Empty→aG:=fun a=>a.elim
theorem sf{fn:Func}{k:Nat}{keep:Bool}{o:jB}{st:aG}(vs:List AV)(h1:dC prog fn st fn.results.toList=some (vs,[]):=by kernel_rfl)(h2:ud k keep st.heap (qN vs)=some o:=by kernel_rfl) :Bv prog fn k keep o .ret st :=
  ⟨.inr rfl,vs,[],h1,trivial,h2⟩
theorem yi{f:FuncId}{X:Type}{m:Option (Empty⊕X)}{lent:List ah}{args:List AV}{x:X}(keep:Bool)(o:X→jB)(E:X→AE×aG)(hx:tq m=some x) 
    (h:Sg prog lent (dq (qS f)) (jF (FN f) lent args) m xg E) (hE:∀ x,Bv prog (FN f) lent.length keep (o x) (E x).1 (E x).2)
    (hf:prog.funcs[f]? = some (FN f):=by kernel_rfl) (hc:(FN f).body=some (qS f):=by kernel_rfl):aj prog f lent args (o x) :=
  Sg.contract (P:=prog) (f:=f) (fn:=FN f) (c:=qS f) (N:=xg) (E:=E) (lent:=lent) (args:=args) keep o hf hc h hE hx
end Go.Plb.Seat
namespace Go.Plb.Seat
open Go Go.Plb
noncomputable def F5:List aL:=[]
theorem tr:ba prog (bd F5):=o7 prog
end Go.Plb.Seat
namespace Go.Plb.Seat
open Go Go.Plb
set_option linter.unusedVariables false
set_option maxRecDepth 100000
noncomputable section
inductive ch where
  | r0 (s5:ByteArray)
def jN:ch→AE×aG
  | .r0 s5=>(.ret,⟨az 20 [(2,.str s5)],[],0⟩)
theorem lz:qv jN:=by intro x;cases x<;>(intro h;cases h)
theorem yj(id:Nat) :qW id jN:=by intro x;cases x<;>(intro h;cases h)
def mU:ch→jB
  | .r0 s5=>⟨.str s5,[]⟩
noncomputable def yk:List Code:=dq (qS hF)
def yl(w_0:Int)(l1:(List Int)) :aG:=⟨az 20 [(0,.int .u64 w_0),(3,.ptr 0 1 0 0),(5,.int .i64 (0:Int))],[(0,.ns .u8 l1)],1⟩
def ym:T (((List Int))⊕(ch)) :=
  .leaf (.inl [(0:Int),(0:Int),(0:Int),(0:Int),(0:Int),(0:Int),(0:Int),(0:Int),(0:Int),(0:Int),(0:Int),(0:Int),(0:Int),(0:Int),(0:Int),(0:Int)])
def iM(w_0:Int) :Nat×(List Int)→aG:=fun (a2,l3)=>⟨az 20 [(0,.int .u64 w_0),(3,.ptr 0 1 0 0),(5,.int .i64 ((a2:Nat):Int))],[(0,.ns .u8 l3)],1⟩
def pY(l4:(List Int)) :aG:=⟨az 20 [(3,.ptr 0 1 0 0)],[(0,.ns .u8 l4)],1⟩
noncomputable def yn:List Code:=dq (ji ((((yk.drop 3).take 1)).headD .skip))
def lA(w_0:Int)(a2:Nat)(l3:List Int) :T ((Nat×(List Int))⊕(((List Int))⊕(ch))) :=
  .ask (decide (((a2:Nat):Int)<(16:Int)))
    (.need (iS .i64 (((4*a2):Nat):Int))<|.need (iS .i64 ((60:Int)-(((4*a2):Nat):Int)))<|.need (decide ((0:Int)≤((60:Int)-(((4*a2):Nat):Int))))<|.need (nR (og .and .u64 (Int.fdiv w_0 (2^(min (Int.toNat ((60:Int)-(((4*a2):Nat):Int))) (IntKind.u64.bits)))) (15:Int)) (ByteArray.mk #[48,49,50,51,52,53,54,55,56,57,65,66,67,68,69,70]).size)<|.need (nR ((a2:Nat):Int) 16)<|.need (iU (cj (cj 0 (sv a2 1)) 0) (List.length l3))<|.need (iS .i64 (((a2+1):Nat):Int))<|.leaf (.inl ((a2+1),(List.set l3 (cj (cj 0 (sv a2 1)) 0) (aA (ByteArray.mk #[48,49,50,51,52,53,54,55,56,57,65,66,67,68,69,70]) (Int.toNat (og .and .u64 (Int.fdiv w_0 (2^(min (Int.toNat ((60:Int)-(((4*a2):Nat):Int))) (IntKind.u64.bits)))) (15:Int))))))))
    (.leaf (.inr (.inl l3)))
noncomputable def eQ(w_0:Int) :Nat×(List Int)→Option ((Nat×(List Int))⊕(((List Int))⊕(ch))):=fun (a2,l3) =>
  (lA w_0 a2 l3).run
theorem vW(w_0:Int)(a2:Nat)(l3:List Int) :Sg prog [] yn (iM w_0 (a2,l3)) (eQ w_0 (a2,l3)) (iM w_0) (f3 0 pY jN):=by
  unfold eQ;exact d4 tr (iM w_0) [⟨[],[0],[0,3,5]⟩,⟨[],[0],[3]⟩]
def oy(l4:List Int) :T ((Empty)⊕(ch)) :=
  .need (kP (16:Int) 16)<|.need (kP (0:Int) 16)<|.need (gZ 16 (List.length l4))<|.need (gZ 16 (List.length l4))<|.leaf (.inr (.r0 (r6 (List.take 16 l4))))
noncomputable def jO(w_0:Int) :Option ch:=tq (bA ((ym).run) fun l1 =>
  bA (cV (eQ w_0) (0,l1)) fun l4 =>
  (oy l4).run)
theorem pZ(w_0:Int){x:ch}(h:jO w_0=some x) :aj prog hF [] [.int .u64 w_0] (mU x) :=
  yi false mU jN h (Sg.cut 3 lz (d4 tr (yl w_0) [⟨[],[16],[0,3,5]⟩]) (fun l1=>Sg.cut 1 lz (EB ⟨[],[0],[0,3,5]⟩ (iM w_0) (pY) 0 lz (yj _) (fun ⟨a2,l3⟩=>vW w_0 a2 l3)) (fun l4=>d4 tr xg [⟨[],[],[2]⟩])))
    (fun x=>by cases x with | r0 s5=>exact sf [.str s5])
def lB:Option ch→Bool
  | some _=>true
  | none=>false
def mV:Option ch→ByteArray
  | some (.r0 x)=>x
  | _=>ByteArray.empty
theorem yo{x:Option ch}(h:lB x=true) :x=some (.r0 (mV x)):=by
  unfold lB at h
  split at h<;>first | rfl | (cases h;done) | (rename_i y;cases y;rfl)
noncomputable def sg:aL:=dh hF (.cons (.int .u64) .nil) fun t=>(fun q=>[⟨mU (.r0 (mV q)),[lB q]⟩]) (jO t.1)
theorem uy:aS prog sg:=aU fun t=>(bp (fun h=>pZ t.1 (yo h)) bY)
noncomputable def zD:List aL:=sg::F5
theorem DW:ba prog (bd zD):=aq uy tr
end
end Go.Plb.Seat
namespace Go.Plb
set_option linter.unusedSimpArgs false
set_option linter.unusedVariables false
set_option linter.unusedSectionVars false
variable [Rom]
theorem au{α:Type}{b:Bool}{t:T α}{x:Option α}(h:b=true)(k:t.run=x) :(T.need b t).run=x:=by subst h;exact k
theorem d5{α:Type}{b:Bool}{t f:T α}{x:Option α}(h:b=true)(k:t.run=x) :(T.ask b t f).run=x:=by subst h;exact k
theorem cW{α:Type}{b:Bool}{t f:T α}{x:Option α}(h:b=false)(k:f.run=x) :(T.ask b t f).run=x:=by subst h;exact k
theorem Gm{α:Type}{k:Nat}{t f:T α}{a:α}(h:t.run=some a) :(T.alt k t f).run=some a:=by simp only [T.run,h]
theorem Cs{α:Type}{k:Nat}{t f:T α}{x:Option α}(h:t.run=none)(q:f.run=x) :(T.alt k t f).run=x:=by simp only [T.run,h];exact q
theorem Ct{α:Type}{b:Bool}{t:T α}(h:b=false) :(T.need b t).run=none:=by subst h;rfl
theorem dX{α:Type}{b:Bool}{t:T α}{x:Option α}(k:t.run=x)(h:b=true:=by exact rfl) :(T.need b t).run=x:=au h k
theorem bJ{α:Type}{b:Bool}{t f:T α}{x:Option α}(k:t.run=x)(h:b=true:=by exact rfl) :(T.ask b t f).run=x:=d5 h k
theorem aP{α:Type}{b:Bool}{t f:T α}{x:Option α}(k:f.run=x)(h:b=false:=by exact rfl) :(T.ask b t f).run=x:=cW h k
theorem ak{α β X:Type}{m:Option (α⊕X)}{k:α→Option (β⊕X)}{a:α}{x:Option (β⊕X)}(h:m=some (.inl a))(q:k a=x) :bA m k=x:=by subst h;exact q
theorem cE{α β X:Type}{m:Option (α⊕X)}{k:α→Option (β⊕X)}{y:X}(h:m=some (.inr y)) :bA m k=some (.inr y):=by subst h;rfl
theorem DX{κ X:Type}{m:Option (κ⊕(κ⊕X))}{a:κ}(h:m=some (.inl a)) :xf m=some (.inl a):=by subst h;rfl
theorem Cu{κ X:Type}{m:Option (κ⊕(κ⊕X))}{a:κ}(h:m=some (.inr (.inl a))) :xf m=some (.inl a):=by subst h;rfl
theorem Cv{κ X:Type}{m:Option (κ⊕(κ⊕X))}{a:X}(h:m=some (.inr (.inr a))) :xf m=some (.inr a):=by subst h;rfl
theorem bG{X:Type}{m:Option (Empty⊕X)}{x:X}(h:m=some (.inr x)) :tq m=some x:=by subst h;rfl
theorem Cw{σ Y:Type}{B:σ→Option (σ⊕Y)}(st:Nat→σ)(n:Nat){y:Y}(i:Nat)(hi:i≤n)(step:∀ j,i≤j→j<n→B (st j)=some (.inl (st (j+1))))(done:B (st n)=some (.inr y)) :cV B (st i)=some y:=by
  obtain ⟨d,rfl⟩:∃ d,n=i+d:=⟨n-i,by omega⟩
  clear hi
  induction d generalizing i with
  | zero=>exact xe done
  | succ d ih =>
    rw [zB (step i (Nat.le_refl _) (by omega))]
    have e:i+(d+1)=i+1+d:=by omega
    rw [e] at step done
    exact ih (i+1) (fun j h1 h2=>step j (by omega) h2) done
theorem eR{σ Y:Type}{B:σ→Option (σ⊕Y)}(st:Nat→σ)(n:Nat){y:Y}{s0:σ}(h0:s0=st 0)(step:∀ j,j<n→B (st j)=some (.inl (st (j+1))))(done:B (st n)=some (.inr y)) :cV B s0=some y:=by
  rw [h0];exact Cw st n 0 (Nat.zero_le _) (fun j _=>step j) done
theorem bt{n:Int} :iS .i64 n=true↔-9223372036854775808≤n∧n≤9223372036854775807:=by
  have e1:IntKind.i64.min = -9223372036854775808:=by decide
  have e2:IntKind.i64.max=9223372036854775807:=by decide
  simp only [iS,e1,e2,Bool.and_eq_true,decide_eq_true_eq]
theorem dY{k:Int}{n:Nat} :nR k n=true↔0≤k∧k<n:=by simp only [nR,Bool.and_eq_true,decide_eq_true_eq]
theorem lY{k:Int}{n:Nat} :kP k n=true↔0≤k∧k≤n:=by simp only [kP,Bool.and_eq_true,decide_eq_true_eq]
theorem cM{k n:Nat} :iU k n=true↔k<n:=by simp [iU]
theorem gM{k n:Nat} :gZ k n=true↔k≤n:=by simp [gZ]
def vX{α:Type}(pos:Nat→Nat)(val:Nat→α)(l:List α) :Nat→List α
  | 0=>l
  | n+1=>(vX pos val l n).set (pos n) (val n)
theorem p5{α:Type}{pos:Nat→Nat}{val:Nat→α}{l:List α} :∀ {n:Nat},(vX pos val l n).length=l.length
  | 0=>rfl
  | n+1=>by simp only [vX,List.length_set];exact p5
theorem nN{p:Nat→Prop} [DecidablePred p]:∀ {n:Nat},(¬ ∀ i,i<n→p i)→∃ k,k<n∧¬ p k∧∀ j,j<k→p j
  | 0,h=>(h fun i hi=>absurd hi (Nat.not_lt_zero _)).elim
  | n+1,h=>by
    by_cases q:∀ i,i<n→p i
    · refine ⟨n,Nat.lt_succ_self _,fun r=>h fun i hi=>?_,q⟩
      rcases Nat.lt_succ_iff_lt_or_eq.1 hi with a | rfl
      · exact q i a
      · exact r
    · obtain ⟨k,h1,h2,h3⟩:=nN q
      exact ⟨k,by omega,h2,h3⟩
def yD{α:Type}(m:Option α)(Q:α→Prop) :Prop:=∃ r,m=some r∧Q r
theorem yD.mono{α:Type}{m:Option α}{Q R:α→Prop}(h:yD m Q)(k:∀ r,Q r→R r) :yD m R:=by
  obtain ⟨r,a,b⟩:=h
  exact ⟨r,a,k r b⟩
def T.wp{α:Type}(Q:α→Prop) :T α→Prop
  | .fail=>False
  | .leaf a=>Q a
  | .ask b t f=>(b=true→t.wp Q)∧(b=false→f.wp Q)
  | .need b t=>b=true∧t.wp Q
  | .alt _ t e=>t.wp Q∨(t.run=none∧e.wp Q)
theorem yD.seq{α β X:Type}{m:Option (α⊕X)}{k:α→Option (β⊕X)}{N:β→Prop}{E:X→Prop}(h:yD m (Sum.elim (fun a=>yD (k a) (Sum.elim N E)) E)) :yD (bA m k) (Sum.elim N E):=by
  obtain ⟨r,a,b⟩:=h
  cases r with
  | inl x =>
    obtain ⟨r',a',b'⟩:=b
    exact ⟨r',ak a a',b'⟩
  | inr x=>exact ⟨.inr x,cE a,b⟩
theorem yD.join{κ X:Type}{m:Option (κ⊕(κ⊕X))}{N:κ→Prop}{E:X→Prop}(h:yD m (Sum.elim N (Sum.elim N E))) :yD (xf m) (Sum.elim N E):=by
  obtain ⟨r,a,b⟩:=h
  rcases r with x | x | x
  · exact ⟨.inl x,DX a,b⟩
  · exact ⟨.inl x,Cu a,b⟩
  · exact ⟨.inr x,Cv a,b⟩
theorem yD.loop{σ Y:Type}{B:σ→Option (σ⊕Y)}(I:σ→Prop)(m:σ→Nat){Q:Y→Prop}{s:σ}(h0:I s)(h:∀ s,I s→yD (B s) (Sum.elim (fun s'=>I s'∧m s'<m s) Q)) :yD (cV B s) Q:=by
  obtain ⟨y,a,b⟩:=Cp I m Q (fun s hs=>by
    obtain ⟨r,a,b⟩:=h s hs
    cases r with
    | inl x=>exact .inl ⟨x,a,b.1,b.2⟩
    | inr y=>exact .inr ⟨y,a,b⟩) s h0
  exact ⟨y,a,b⟩
theorem yD.map{α R:Type}{m:Option α}{g:α→R}{E:R→Prop}(h:yD m fun a=>E (g a)) :yD (Option.map g m) E:=by
  obtain ⟨r,a,b⟩:=h
  exact ⟨g r,by rw [a];rfl,b⟩
theorem yD.some{α:Type}{a:α}{Q:α→Prop}(h:Q a) :yD (some a) Q:=⟨a,rfl,h⟩
end Go.Plb
namespace Go.Plb.Seat
open Go Go.Plb
set_option linter.unusedSimpArgs false
set_option linter.unusedVariables false
set_option maxRecDepth 100000
def hH:ByteArray:=ByteArray.mk #[48,49,50,51,52,53,54,55,56,57,65,66,67,68,69,70]
def dg(w:Int)(j:Nat) :Nat:=((Int.fdiv w (2^(60-4*j)))%16).toNat
theorem BI(w:Int)(j:Nat) :dg w j<16:=by unfold dg;omega
def eS(w:Int) :List Int:=(List.range 16).map fun j=>aA hH (dg w j)
def aN(w:Int) :ByteArray:=r6 (eS w)
theorem Fu(x:Int) :og .and .u64 x (15:Int)=(x%16):=by
  have e:og .and .u64 x (15:Int)=IntKind.u64.wrap ((BitVec.ofInt 64 x &&& BitVec.ofInt 64 15).toNat:Int):=rfl
  rw [e,BitVec.toNat_and]
  have h15:(BitVec.ofInt 64 15).toNat=15:=by decide
  rw [h15]
  have hm:∀ n:Nat,n &&& 15=n%16:=fun n=>Nat.and_two_pow_sub_one_eq_mod n 4
  rw [hm]
  have hx:(BitVec.ofInt 64 x).toNat=(x%18446744073709551616).toNat:=by rw [BitVec.toNat_ofInt];rfl
  rw [hx]
  have:IntKind.u64.wrap (((x%18446744073709551616).toNat%16:Nat):Int)=(((x%18446744073709551616).toNat%16:Nat):Int):=by
    show ((((x%18446744073709551616).toNat%16:Nat):Int)%18446744073709551616)=_
    omega
  rw [this]
  omega
theorem BJ(w:Int){j:Nat}(hj:j<16) :og .and .u64 (Int.fdiv w (2^(min (Int.toNat ((60:Int)-(((4*j):Nat):Int))) (IntKind.u64.bits)))) (15:Int)=((dg w j:Nat):Int):=by
  rw [Fu]
  have e:min (Int.toNat ((60:Int)-(((4*j):Nat):Int))) (IntKind.u64.bits)=60-4*j:=by
    have:IntKind.u64.bits=64:=rfl
    rw [this];omega
  rw [e]
  unfold dg
  omega
theorem xh{α:Type}(val:Nat→α)(l:List α) :∀ (n:Nat),n≤l.length→List.take n (vX (fun j=>j) val l n)=(List.range n).map val
  | 0,_=>rfl
  | n+1,h=>by
    have ih:=xh val l n (by omega)
    have hl:(vX (fun j=>j) val l n).length=l.length:=p5
    simp only [vX]
    rw [List.take_add_one,List.take_set_of_le (Nat.le_refl _),ih,List.getElem?_set,if_pos rfl,if_pos (by omega),List.range_succ,List.map_append]
    rfl
theorem yp(w:Int) :jO w=some (.r0 (aN w)):=by
  unfold jO
  refine bG (ak rfl (ak (a:=vX (fun j=>j) (fun j=>aA hH (dg w j)) (List.replicate 16 (0:Int)) 16) (eR (fun j=>(j,vX (fun j=>j) (fun j=>aA hH (dg w j)) (List.replicate 16 (0:Int)) j)) 16 rfl (fun j hj=>?_) ?_) ?_))
  · simp only [eQ,lA]
    have hl:(vX (fun j=>j) (fun j=>aA hH (dg w j)) (List.replicate 16 (0:Int)) j).length=16:=by rw [p5];rfl
    have hd:=BI w j
    have ha:cj (cj 0 (sv j 1)) 0=j:=by cases j<;>simp [cj,sv]
    rw [BJ w hj,ha,hl]
    refine d5 (by simp;omega) (au (by rw [bt];omega) (au (by rw [bt];omega) (au (by simp;omega) (au ?_ (au (by rw [dY];omega) (au (by rw [cM];omega) (au (by rw [bt];omega) rfl)))))))
    rw [dY]
    exact ⟨by omega,by show ((dg w j:Nat):Int)<((16:Nat):Int);omega⟩
  · simp only [eQ,lA]
    exact cW (by simp) rfl
  · simp only [oy]
    have hl:(vX (fun j=>j) (fun j=>aA hH (dg w j)) (List.replicate 16 (0:Int)) 16).length=16:=by rw [p5];rfl
    rw [hl]
    refine au (by decide) (au (by decide) (au (by decide) (au (by decide) ?_)))
    rw [xh _ _ 16 (by decide)]
    rfl
theorem DY(w:Int) :aj prog hF [] [.int .u64 w] ⟨.str (aN w),[]⟩:=pZ w (yp w)
end Go.Plb.Seat
namespace Go.Plb.Seat
open Go Go.Plb Go.Proofs Go.RowKit
set_option maxRecDepth 100000
set_option linter.unusedSimpArgs false
set_option linter.unusedVariables false
theorem sh(s:ByteArray)(pos:Nat)(h:pos<s.size) :1≤(Utf8.decode s pos).2:=by
  by_cases ha:(s[pos]'h).toNat<128
  · rw [decode_ascii s pos h ha]
    exact Nat.le_refl _
  · exact (decode_high s pos h (by omega)).2
theorem AO(n:Int)(w:World)(hr:dE w) :Calls prog 29 #[.int .u64 n] w fun e w'=>e=.returned (.string (aN n))∧Below w.heap.size w w':=by
  refine ((DY n).calls w hr (us:=[.int .u64 n]) (.cons _ _ _ _ (.int _ _) .nil)).mono ?_
  rintro e w' ⟨u,ρ',rfl,hb,hu⟩
  cases hu
  exact ⟨rfl,hb⟩
def CT(r:Int) :Nat:=if 48≤r∧r≤57 then (r-48).toNat else if 65≤r∧r≤70 then (r-55).toNat else 16
def zE(acc:Int)(r:Int) :Int:=bits .or .u64 (IntKind.u64.wrap (acc*16)) (IntKind.u64.wrap (bits .and .i64 (CT r:Int) 15))
def hU(s:ByteArray) :Nat→Nat→Int→Int
  | 0,_,acc=>acc
  | f+1,pos,acc=>if pos<s.size then hU s f (pos+(Utf8.decode s pos).2) (zE acc (Utf8.decode s pos).1) else acc
def cF(s:ByteArray) :Bool:=decide (s.size=16)&&decide (aN (hU s s.size 0 0)=s)
def d9(s:ByteArray) :Int:=bif cF s then hU s s.size 0 0 else 0
def kA(s:ByteArray) :Int:=bif cF s then 0 else 4
theorem Fv(r:Int) :CT r≤16:=by unfold CT;split<;>(try split)<;>omega
theorem yq{n:Nat}(h:n<16) :(aA hH n=if n<10 then (48+n:Int) else (55+n:Int)):=by
  rcases n with _ | _ | _ | _ | _ | _ | _ | _ | _ | _ | _ | _ | _ | _ | _ | _ | n
  all_goals first | rfl | omega
theorem EC{n:Nat}(h:n<16)(r:Int) :aA hH n=r↔n=CT r:=by
  rw [yq h]
  unfold CT
  split<;>split<;>(try split)<;>omega
theorem DZ{n:Nat}(h:n<16) :∃ b:UInt8,(⟨#[48,49,50,51,52,53,54,55,56,57,65,66,67,68,69,70]⟩:ByteArray)[n]? = some b∧(b.toNat:Int)=aA hH n:=by
  have:∀ n:Fin 16,∃ b:UInt8,(⟨#[48,49,50,51,52,53,54,55,56,57,65,66,67,68,69,70]⟩:ByteArray)[n.val]? = some b∧(b.toNat:Int)=aA hH n.val:=by
    intro n
    rcases n with ⟨_ | _ | _ | _ | _ | _ | _ | _ | _ | _ | _ | _ | _ | _ | _ | _ | n,h⟩
    all_goals first | exact ⟨_,rfl,rfl⟩ | omega
  exact this ⟨n,h⟩
theorem ED(n:Nat)(h:n<16)(W:World) :(Instr.index 9 (.string ⟨#[48,49,50,51,52,53,54,55,56,57,65,66,67,68,69,70]⟩) (.int .i64 n)).run prog W=.ok (.int .u8 (aA hH n)) W:=by
  have u9:prog.underlying 9=some .string:=by kernel_rfl
  obtain ⟨b,h1,h2⟩:=DZ h
  have ha:(asIntOf (.int .i64 n)).run prog W=.ok (.i64,(n:Int)) W:=rfl
  unfold Instr.index
  simp only [Sem.run_bind,ha,Result.andThen_ok,run_underlying u9]
  rw [if_pos (Int.natCast_nonneg n),Int.toNat_natCast,h1,←h2]
  rfl
theorem xi(s:ByteArray) :∀ (f pos:Nat) (acc:Int),¬ pos<s.size→hU s f pos acc=acc
  | 0,_,_,_=>rfl
  | f+1,pos,acc,h=>by simp only [hU,h,if_false]
theorem toList_inj{a b:ByteArray}(h:a.toList=b.toList) :a=b:=by
  have ha:=Go.Lib.toList_data a
  have hb:=Go.Lib.toList_data b
  rw [h] at ha
  have:a.data.toList=b.data.toList:=ha.symm.trans hb
  cases a;cases b
  simp only [ByteArray.mk.injEq]
  exact Array.toList_inj.1 this
set_option maxHeartbeats 2000000 in
theorem uz (s : ByteArray) (hs : s.size ≤ 1000000000) (w : World) (hR : Hid (dE w)) : Calls prog jL #[.string s] w fun e w' => e = .returned (.tuple #[.int .u64 (d9 s), .int .i64 (kA s)]) ∧ Below w.heap.size w w' := by
  go_enter Tryd.func26, Tryd.ntmps26
  go_wp2
  go_loopw [4] (fun t wr => ∃ (pos fuel : Nat) (acc : Int), t = .int .u64 acc ∧ wr.heap[w.heap.size]? = some (.stringIter s pos) ∧ Below w.heap.size w wr ∧ hU s fuel pos acc = hU s s.size 0 0 ∧ s.size ≤ pos + fuel) (fun _ wr => s.size - wr.iterPos w.heap.size)
  case atStart =>
    exact ⟨0, s.size, 0, rfl, World.iter_heap w s 0, (Below.refl _ w).alloc (Nat.le_refl _) _, rfl, by omega⟩
  case round =>
    obtain ⟨pos, fuel, acc, rfl, hit, hbw, hacc, hfu⟩ := hrel
    by_cases hp : pos < s.size
    · have hnx : ∀ ty, (Instr.next (.pointer (some ⟨w.heap.size, 0, none⟩)) true ty).run prog wr = _ := fun ty => Lib.run_next_any_at wr w.heap.size s pos ty hit hp
      obtain ⟨r, hr⟩ : ∃ r : Nat, (Utf8.decode s pos).1 = r := ⟨_, rfl⟩
      obtain ⟨wd, hwd⟩ : ∃ wd : Nat, (Utf8.decode s pos).2 = wd := ⟨_, rfl⟩
      rw [hr, hwd] at hnx
      have hit2 := Lib.iterAt_heap wr w.heap.size s pos (pos + wd) hit
      have hbw2 := Lib.below_iterAt hbw (k := w.heap.size) (Nat.le_refl _) s (pos + wd)
      obtain ⟨W1, hW1⟩ : ∃ W1, wr.iterAt w.heap.size s (pos + wd) = W1 := ⟨_, rfl⟩
      rw [hW1] at hnx hit2 hbw2
      go_wp2
      go_loopw [7] (fun t W => W = W1 ∧ ∃ n : Nat, t = .int .i64 n ∧ n ≤ CT r) (fun t _ => 16 - (intOf t).toNat)
      case atStart => exact ⟨rfl, 0, rfl, Nat.zero_le _⟩
      case round =>
        obtain ⟨hWW, n, rfl, hn⟩ := hrel
        replace hWW := hWW.symm
        subst hWW
        have hd := Fv r
        have hstep : n = CT r → ∃ (pos' fuel' : Nat) (acc' : Int), Value.int .u64 (bits .or .u64 (IntKind.u64.wrap (acc * 16)) (IntKind.u64.wrap (bits .and .i64 (n : Int) 15))) = .int .u64 acc' ∧
            W1.heap[w.heap.size]? = some (.stringIter s pos') ∧ Below w.heap.size w W1 ∧ hU s fuel' pos' acc' = hU s s.size 0 0 ∧ s.size ≤ pos' + fuel' := fun e => by
          obtain ⟨f, rfl⟩ : ∃ f, fuel = f + 1 := ⟨fuel - 1, by omega⟩
          have hw1 := sh s pos hp
          refine ⟨pos + wd, f, zE acc r, by rw [e]; rfl, hit2, hbw2, ?_, by omega⟩
          rw [← hacc]
          simp only [hU, hp, if_true, hr, hwd]
        have hmeas : s.size - W1.iterPos w.heap.size < s.size - wr.iterPos w.heap.size := by
          have hw1 := sh s pos hp
          simp only [World.iterPos, hit, hit2]
          omega
        have HS := Lib.hid hstep
        clear hstep
        by_cases h16 : n < 16
        · have hix := ED n h16
          have hdi := Lib.hid (EC h16 r)
          have hb : 0 ≤ aA hH n ∧ aA hH n < 256 := by rw [yq h16]; split <;> omega
          have hwr : wrap32 (aA hH n) = aA hH n := by simp only [wrap32]; omega
          go_wp2
          · have ht : (aA hH n != (r : Int)) = true := by assumption
            have hne : ¬ n = CT r := fun c => by
              have := hdi.out.2 c
              rw [this] at ht
              simp at ht
            exact ⟨⟨trivial, n + 1, by go_num, by omega⟩, by simp [intOf]; omega⟩
          · have ht : (aA hH n != (r : Int)) = false := by assumption
            have he : n = CT r := hdi.out.1 (by simpa using ht)
            exact ⟨HS.out he, hmeas⟩
        · have h16' : ¬ ((n : Int) < 16) := by omega
          have he : Hid (n = CT r) := Lib.hid (by omega)
          go_wp2
          exact ⟨HS.out he.out, hmeas⟩
    · have hnx : ∀ ty, (Instr.next (.pointer (some ⟨w.heap.size, 0, none⟩)) true ty).run prog wr = _ := fun ty => Lib.run_next_end_at wr w.heap.size s pos ty hit hp
      have hR2 : Hid (dE wr) := Lib.hid (hR.out.below hbw (Nat.le_refl _))
      go_wp2_with (go_at_call 29; refine (AO _ _ hR2.out).mono ?_; rintro e W1 ⟨rfl, hb1⟩)
      all_goals clear hnx
      all_goals have hacc' : acc = hU s s.size 0 0 := (xi s fuel pos acc hp).symm.trans hacc
      · have h2 : (!(aN acc).toList == s.toList) = true := by assumption
        have ho : cF s = false := by
          unfold cF
          have : ¬ aN (hU s s.size 0 0) = s := fun c => by
            rw [← hacc'] at c
            rw [c] at h2
            simp at h2
          rw [decide_eq_false this, Bool.and_false]
        have hW : d9 s = 0 := by rw [d9, ho]; rfl
        have hE : kA s = 4 := by rw [kA, ho]; rfl
        go_ret2
        exact ⟨by rw [hW, hE]; rfl, hbw.trans (hb1.mono hbw.size)⟩
      · have h1 : (s.size : Int) = 16 := by assumption
        have h2 : (!(aN acc).toList == s.toList) = false := by assumption
        have ho : cF s = true := by
          unfold cF
          have h3 : aN (hU s s.size 0 0) = s := by
            rw [← hacc']
            exact toList_inj (by simpa using h2)
          rw [decide_eq_true h3, decide_eq_true (show s.size = 16 by omega)]; rfl
        have hW : d9 s = acc := by rw [d9, ho, hacc']; rfl
        have hE : kA s = 0 := by rw [kA, ho]; rfl
        go_ret2
        exact ⟨by rw [hW, hE]; rfl, hbw.trans (hb1.mono hbw.size)⟩
      · have h1 : ¬ (s.size : Int) = 16 := by assumption
        have ho : cF s = false := by
          unfold cF
          rw [decide_eq_false (show ¬ s.size = 16 by omega)]; rfl
        have hW : d9 s = 0 := by rw [d9, ho]; rfl
        have hE : kA s = 4 := by rw [kA, ho]; rfl
        go_ret2
        exact ⟨by rw [hW, hE]; rfl, hbw⟩
theorem Fw(s:ByteArray)(hs:s.size≤1000000000) :aj prog jL [] [.str s] ⟨.tup [.int .u64 (d9 s),.int .i64 (kA s)],[]⟩:=by
  refine bN ⟨FN jL,by kernel_rfl,by kernel_rfl⟩ fun ρ w us hN hv=>?_
  cases hv with | cons _ u _ _ h1 h2 =>
  cases h2;cases h1
  refine (uz s hs w (Lib.hid hN.romOk)).mono ?_
  rintro e w' ⟨rfl,hb⟩
  exact ⟨_,rfl,hb,.tup _ _ (.cons _ _ _ _ (.int _ _) (.cons _ _ _ _ (.int _ _) .nil))⟩
noncomputable def D0:aL:=dh jL (.cons .str .nil) fun t=>[⟨⟨.tup [.int .u64 (d9 t.1),.int .i64 (kA t.1)],[]⟩,[ox t.1.size]⟩]
theorem Cx:aS prog D0:=aU fun t=>bp (fun h=>Fw t.1 (Nat.le_of_ble_eq_true h)) bY
end Go.Plb.Seat
namespace Go.Plb.Seat
open Go Go.Plb Go.Proofs Go.RowKit Go.Shelf
set_option maxRecDepth 100000
set_option linter.unusedSimpArgs false
set_option linter.unusedVariables false
theorem EE:(5,AV.gvar (aI.map fun z=>Value.int .u64 z).toArray)∈(Rom.tab:List (Nat×AV)):=by simp [Rom.tab]
theorem EF:(3,AV.iptr .free (.vs [.iface 147 .any]) 1 0 0)∈(Rom.tab:List (Nat×AV)):=by simp [Rom.tab]
theorem EG:(4,AV.iptr .free (.vs [.iface 147 .any]) 1 0 0)∈(Rom.tab:List (Nat×AV)):=by simp [Rom.tab]
theorem Fx{w : World}(h : dE w) : Lib.TabIs prog w "internal/strconv.uint64pow10" .u64 Lib.pow10Tab := by
  have h1:=h _ EE
  cases h1 with | gvar _ _ t fr ha hb hh =>
  have hg : prog.globalNamed "internal/strconv.uint64pow10" = some 5 := by kernel_rfl
  have e:aI=Lib.pow10Tab:=by decide
  unfold Lib.TabIs World.var?
  rw [hg,←e]
  simp [hh]
theorem D1{w:World}{g:Nat}(h:VR aa.none_ w (.iptr .free (.vs [.iface 147 .any]) 1 0 0) (.pointer (some ⟨g,0,none⟩))) :∃ v,w.cell? ⟨g,0,none⟩=some (.iface 147 v):=by
  generalize hu:Value.pointer (some ⟨g,0,none⟩)=u at h
  cases h with | iptr _ _ _ _ _ bl o u' ha hb hc hv hr hk hg =>
  simp only [Value.pointer.injEq,Option.some.injEq,Addr.mk.injEq] at hu
  obtain ⟨rfl,ho,_⟩:=hu
  have ho:o=0:=by omega
  subst ho
  have h1:=hc 0 _ rfl
  have h2:=hv 0 _ rfl
  generalize u' 0=x at h1 h2
  cases h2 with | iface _ _ v hv'=>exact ⟨v,by simpa using h1⟩
def vS:Nat→Nat→List UInt8
  | 0,_=>[]
  | f+1,n=>if n<10 then [UInt8.ofNat (48+n)] else vS f (n/10)++[UInt8.ofNat (48+n%10)]
def zF(n:Int) :List UInt8:=if n<0 then 45::vS 20 n.natAbs else vS 20 n.toNat
def bO(n:Int) :ByteArray:=⟨(zF n).toArray⟩
theorem yr:∀ (f n:Nat),n<10^(f+1)→vS (f+1) n=Lib.decDigits n
  | 0,n,h=>by
    have hn:n<10:=by simpa using h
    rw [Lib.decDigits]
    simp [vS,hn]
  | f+1,n,h=>by
    rw [Lib.decDigits]
    rw [vS]
    split
    · rfl
    · rw [yr f (n/10) (by rw [Nat.pow_succ] at h;omega)]
theorem D2{n:Int}(h1 : -9223372036854775808≤n)(h2:n≤9223372036854775807) :zF n=Lib.itoa n:=by
  have hp:10^20=100000000000000000000:=by decide
  unfold zF Lib.itoa
  split
  · rw [yr 19 _ (by rw [hp];omega)]
  · rw [yr 19 _ (by rw [hp];omega)]
theorem uA(n:Int)(h1 : -9223372036854775808≤n)(h2:n≤9223372036854775807)(w:World)(hr:dE w) :Calls prog fI #[.int .i64 n] w fun e w'=>e=.returned (.string (bO n))∧Below w.heap.size w w':=by
  refine (Tryd.strconv_Itoa n h1 h2 w (Fx hr)).mono ?_
  rintro e w' ⟨rfl,k,os,rfl⟩
  rw [bO,D2 h1 h2]
  refine ⟨rfl,rfl,rfl,rfl,by simp [Go.Sort.grow],fun i hi=>?_⟩
  show ((w.drewN k).heap++os)[i]? = _
  rw [Array.getElem?_append_left (by simpa using hi)]
  rfl
theorem Fy(n:Int)(hk:iS .i64 n=true) :aj prog fI [] [.int .i64 n] ⟨.str (bO n),[]⟩:=by
  rw [bt] at hk
  refine bN ⟨FN fI,by kernel_rfl,by kernel_rfl⟩ fun ρ w us hN hv=>?_
  cases hv with | cons _ u _ _ h1 h2 =>
  cases h2;cases h1
  refine (uA n hk.1 hk.2 w hN.romOk).mono ?_
  rintro e w' ⟨rfl,hb⟩
  exact ⟨_,rfl,hb,.str _⟩
noncomputable def D3:aL:=dh fI (.cons (.int .i64) .nil) fun t=>[⟨⟨.str (bO t.1),[]⟩,[iS .i64 t.1]⟩]
theorem Cy:aS prog D3:=aU fun t=>bp (fun h=>Fy t.1 h) bY
def nT(s:ByteArray) :Int:=match Lib.atoiAll s.data.toList with
  | .ok v=>if bO v=s then v else -1
  | _=>-1
theorem EH{a b:ByteArray}(h:(!a.toList==b.toList)=true) :a≠b:=fun c=>by subst c;simp at h
set_option maxHeartbeats 2000000 in
theorem yu (s : ByteArray) (hs : s.size ≤ 1000000000) (w : World) (hR : Hid (dE w)) : Calls prog eY #[.string s] w fun e w' => e = .returned (.int .i64 (nT s)) ∧ Below w.heap.size w w' := by
  cases h : Lib.atoiAll s.data.toList with
  | ok v =>
    have hv := Lib.atoiAll_bounds h
    have cA := Tryd.strconv_Atoi_ok s (by omega) v h w
    go_enter Tryd.func54, Tryd.ntmps54
    go_wp2_with (go_at_call 69; refine cA.mono ?_; rintro e W1 ⟨rfl, hw1⟩; refine Hid.out ?_)
    refine Lib.hid ?_
    have hb1 : Below w.heap.size w W1 := by
      rcases hw1 with rfl | ⟨t, rfl⟩
      · exact Below.refl _ _
      · exact Go.Lib.bytesWorld_below _ _ _
    have hR1 : Hid (dE W1) := Lib.hid (hR.out.below hb1 (Nat.le_refl _))
    clear hw1 cA
    go_wp2_with (go_at_call 55; refine (uA v hv.1 hv.2 _ hR1.out).mono ?_; rintro e W2 ⟨rfl, hb2⟩)
    · have h2 : (!(bO v).toList == s.toList) = true := by assumption
      have hn : nT s = -1 := by simp only [nT, h]; rw [if_neg (EH h2)]
      go_ret
      exact ⟨by rw [hn]; rfl, hb1.trans (hb2.mono hb1.size)⟩
    · have h2 : (!(bO v).toList == s.toList) = false := by assumption
      have hn : nT s = v := by simp only [nT, h]; rw [if_pos (toList_inj (by simpa using h2))]
      go_ret
      exact ⟨by rw [hn]; rfl, hb1.trans (hb2.mono hb1.size)⟩
  | range =>
    obtain ⟨ev, hev⟩ := D1 (hR.out _ EG)
    have hn : nT s = -1 := by simp only [nT, h]
    have cA := Tryd.strconv_Atoi_range s (by omega) h (.iface 147 ev) w hev (.inr ⟨_, _, rfl⟩)
    go_enter Tryd.func54, Tryd.ntmps54
    go_wp2_with (go_at_call 69; refine cA.mono ?_; rintro e W1 ⟨N, rfl, _, _, hb⟩)
    go_ret
    exact ⟨by rw [hn]; rfl, hb⟩
  | _ =>
    obtain ⟨ev, hev⟩ := D1 (hR.out _ EF)
    have hn : nT s = -1 := by simp only [nT, h]
    have cA := Tryd.strconv_Atoi_syntax s (by omega) h (.iface 147 ev) w hev (.inr ⟨_, _, rfl⟩)
    go_enter Tryd.func54, Tryd.ntmps54
    go_wp2_with (go_at_call 69; refine cA.mono ?_; rintro e W1 ⟨N, rfl, _, _, hb⟩)
    go_ret
    exact ⟨by rw [hn]; rfl, hb⟩
theorem D4(s:ByteArray)(hs:s.size≤1000000000) :aj prog eY [] [.str s] ⟨.int .i64 (nT s),[]⟩:=by
  refine bN ⟨FN eY,by kernel_rfl,by kernel_rfl⟩ fun ρ w us hN hv=>?_
  cases hv with | cons _ u _ _ h1 h2 =>
  cases h2;cases h1
  refine (yu s hs w (Lib.hid hN.romOk)).mono ?_
  rintro e w' ⟨rfl,hb⟩
  exact ⟨_,rfl,hb,.int _ _⟩
noncomputable def zG:aL:=dh eY (.cons .str .nil) fun t=>[⟨⟨.int .i64 (nT t.1),[]⟩,[ox t.1.size]⟩]
theorem zH:aS prog zG:=aU fun t=>bp (fun h=>D4 t.1 (Nat.le_of_ble_eq_true h)) bY
def mW:List ByteArray→List UInt8
  | []=>[]
  | [x]=>x.data.toList
  | x::y::r=>x.data.toList++32::mW (y::r)
def mX(l:List ByteArray) :ByteArray:=⟨(mW l).toArray⟩
theorem uB:∀ l:List ByteArray,mW l=Lib.join (l.map (·.data.toList)) [32]
  | []=>rfl
  | [x]=>by rw [List.map_cons,List.map_nil,Lib.join_one];rfl
  | x::y::r=>by
    rw [List.map_cons,Lib.join_cons,mW,uB (y::r),List.map_cons,Lib.join_cons]
    simp [Lib.joinTail]
theorem Fz(l:Lv)(xs:List ByteArray)(h1:(mX xs).size≤1000000000)(h2:xs.length≤1000000000) :aj prog jh [] [.imm l (.ss xs) 1 1 0 xs.length,.str ⟨#[32]⟩] ⟨.str (mX xs),[]⟩:=by
  refine bN ⟨FN jh,by kernel_rfl,by kernel_rfl⟩ fun ρ w us hN hv=>?_
  cases hv with | cons _ u _ _ v1 v2 =>
  cases v2 with | cons _ u2 _ _ v3 v4 =>
  cases v4;cases v3
  have hz:(mW xs).length≤1000000000:=by
    have:(mX xs).size=(mW xs).length:=by simp [mX,ByteArray.size]
    omega
  generalize hn:xs.length=n at v1
  cases v1 with
  | imm _ _ _ _ _ _ cap bl o u' ha hb hc hv' hl hr hk hg =>
    have:=Tryd.strings_Join bl (o+0*1) cap xs ⟨#[32]⟩ w (fun j x hj=>by
      have hcell:(ah.ss xs).cell? j=some (.str x):=by show (xs[j]?).map AV.str=_;rw [hj];rfl
      have q1:=hc j _ hcell
      have q2:=hv' j _ hcell
      cases hu:u' j<;>rw [hu] at q2<;>cases q2
      rw [hu] at q1
      simpa using q1) hb (by omega) (by omega) (by
        rw [←uB];omega)
    rw [hn] at this
    refine this.mono ?_
    rintro e w' ⟨rfl,hb⟩
    refine ⟨_,rfl,hb,?_⟩
    rw [←uB]
    exact .str _
  | immEnd _ _ _ _ _ cap a hr hk hg =>
    have hx:xs=[]:=List.length_eq_zero_iff.1 hn
    subst hx
    refine (Tryd.strings_Join_none a cap ⟨#[32]⟩ w).mono ?_
    rintro e w' ⟨rfl,rfl⟩
    exact ⟨_,rfl,Below.refl _ _,.str _⟩
def FB(z:ByteArray) :Bool:=decide (z=⟨#[32]⟩)
theorem EI{z:ByteArray}(h:FB z=true) :z=⟨#[32]⟩:=of_decide_eq_true h
noncomputable def D5:aL:=dh jh (.cons .ss (.cons .str .nil)) fun t=>[⟨⟨.str (mX t.1.2),[]⟩,[FB t.2.1,ox (mX t.1.2).size,ox t.1.2.length]⟩]
theorem Cz:aS prog D5:=aU fun t a ha ho=>by
  simp only [List.mem_singleton] at ha
  subst ha
  obtain ⟨⟨l,xs⟩,z,_⟩:=t
  have hz:=EI ho.1
  subst hz
  exact Fz l xs (Nat.le_of_ble_eq_true ho.2.1) (Nat.le_of_ble_eq_true ho.2.2.1)
end Go.Plb.Seat
namespace Go.Plb.Seat
open Go Go.Plb Go.Proofs Go.RowKit Go.Shelf
set_option maxRecDepth 100000
set_option linter.unusedSimpArgs false
set_option linter.unusedVariables false
attribute [local go_sem] Oper.semAt_some
theorem sC(s sep:ByteArray)(w:World) :Calls prog 49 #[.string s,.string sep,.int .i64 0] w fun e w' =>
    e=.returned (.func (.func 63) #[] #[.pointer (some ⟨w.heap.size+1,0,none⟩),.pointer (some ⟨w.heap.size,0,none⟩),.pointer (some ⟨w.heap.size+2,0,none⟩)]) ∧
    w'=((w.alloc (.cells #[.string s] 9)).alloc (.cells #[.string sep] 9)).alloc (.cells #[.int .i64 0] 3):=by
  have hmf:∀ (fn:Fn) (first cap:Array Value) (w:World),(Instr.makeFunc fn first cap).run prog w=.ok (.func fn first cap) w:=fun _ _ _ _=>rfl
  go_enter Tryd.func49,Tryd.ntmps49
  go_wp2
  go_ret
  exact ⟨rfl,rfl⟩
theorem uC(s sep:ByteArray)(w:World) :Calls prog 25 #[.string s,.string sep] w fun e w' =>
    e=.returned (.func (.func 63) #[] #[.pointer (some ⟨w.heap.size+1,0,none⟩),.pointer (some ⟨w.heap.size,0,none⟩),.pointer (some ⟨w.heap.size+2,0,none⟩)]) ∧
    w'=((w.alloc (.cells #[.string s] 9)).alloc (.cells #[.string sep] 9)).alloc (.cells #[.int .i64 0] 3):=by
  go_enter Tryd.func25,Tryd.ntmps25
  go_wp2_with (go_at_call 49;refine (sC s sep _).mono ?_;rintro e w' ⟨rfl,rfl⟩)
  go_ret
  exact ⟨rfl,rfl⟩
theorem pa{g:Operand}{ps:Array Tmp}{assign body:Code}{Q:Exit→Act→World→Prop}{a:Act}{w:World}{gf m:Nat}{lb:Array Value}(hg:a.eval g=.func (.func gf) #[] lb)(eg:∀ args w,(callFunc gf args).run prog w=.ok (.enter gf args) w) 
    (h : ∀ (fn : FuncId) (rec : LoopState → Option Code → Loop), (∀ st pe, (rec st pe).state = st ∧ (rec st pe).pending = pe) →
      (∀ (m':Nat) (args:Array Value) (W:World) (R:Ending→World→Prop),W.heap[w.heap.size+1]? = some (.loop (rec .ready none))→args.size=ps.size →
        assign.wpIn (Fence.wide.inRound (w.heap.size+1)) m' prog (Exit.then (fun a₁ w₁=>w₁.heap[w.heap.size+1]? = some (.loop (rec .ready none))∧body.wpIn (Fence.wide.inRound (w.heap.size+1)) m' prog
            (fun x _ w'=>match x with
              | .normal=>w'.heap[w.heap.size+1]? = some (.loop (rec .busy none))∧R (.returned (.bool true)) (w'.putObj (w.heap.size+1) (.loop (rec .ready none)))
              | .ret=>w'.heap[w.heap.size+1]? = some (.loop (rec .busy none))∧R (.returned (.bool false)) (w'.putObj (w.heap.size+1) (.loop (rec .done (some .ret))))
              | _=>False) a₁ (w₁.putObj (w.heap.size+1) (.loop (rec .busy none)))) (fun _ _ _=>False))
          { tmps:=(ps.zip args).foldl (fun t (p,v)=>t.setIfInBounds p v) a.tmps,defers:=[] } W →
        YieldAt Fence.wide m' prog (w.heap.size+1) args W R) →
      CallsIn Fence.wide m prog gf (#[.func (.yield (w.heap.size+1)) #[] #[]]++lb) ((w.alloc (.deferred (some []))).alloc (.loop (rec .ready none))) (fun e W'=>(∃ v,e=.returned v) ∧
        ((W'.heap[w.heap.size+1]? = some (.loop (rec .ready none))∧Q .normal { a with defers:={ target:=.collected w.heap.size,args:=#[] }::a.defers } (W'.putObj (w.heap.size+1) (.loop (rec .exhausted none)))) ∨
         (∃ c,W'.heap[w.heap.size+1]? = some (.loop (rec .done (some c)))∧c.wpIn Fence.wide (m+1) prog Q { a with defers:={ target:=.collected w.heap.size,args:=#[] }::a.defers } (W'.putObj (w.heap.size+1) (.loop (rec .exhausted (some c)))))))) :
    (Code.rangeFunc g ps assign body).wpIn Fence.wide (m+1) prog Q a w:=by
  refine wpIn_rangeFunc ?_
  intro fn hfn
  obtain ⟨rec,hrec⟩:∃ rec:LoopState→Option Code→Loop,rec=fun st pe=>{ state:=st,pending:=pe,fn,tmps:=a.tmps,params:=ps,assign,body,defers:=w.heap.size }:=⟨_,rfl⟩
  have key:=h fn rec (by intro st pe;rw [hrec];exact ⟨rfl,rfl⟩) (fun m' args W R hl hs hr=>by
    have hy:=run_yield (P:=prog) (args:=args) hl (by rw [hrec];exact hs)
    rw [hrec] at hy
    refine ⟨fn,_,assign,body,hy,roundIn_of_wpIn hfn (wpIn_mono hr ?_)⟩
    rintro e a1 w1 hp
    cases e<;>first | exact hp.elim | skip
    obtain ⟨h1,h2⟩:=hp
    refine ⟨_,run_beginRound h1 (by rw [hrec]),?_⟩
    have hb:({ rec .ready none with state:=.busy }:Loop)=rec .busy none:=by rw [hrec]
    rw [hb]
    refine wpIn_mono h2 ?_
    rintro e a2 w2 hp
    have hput:∀ jump,(Instr.endRound (w.heap.size+1) jump).run prog w2=_:=fun jump=>run_endRound (P:=prog) jump (r:=rec .busy none) (by cases e<;>first | exact hp.1 | exact hp.elim)
    cases e with
    | normal=>exact ⟨_,_,hput none,by have:=hp.2;rw [hrec] at this ⊢;exact this⟩
    | ret=>exact ⟨_,_,hput (some .ret),by have:=hp.2;rw [hrec] at this ⊢;exact this⟩
    | exit id=>exact hp.elim
    | goto t=>exact hp.elim
    | panic c=>exact hp.elim
    | outgrown=>exact hp.elim)
  refine ⟨w.heap.size+1,[{ target:=.collected w.heap.size,args:=#[] }],(w.alloc (.deferred (some []))).alloc (.loop (rec .ready none)),{ target:=.fn (.func gf) lb,args:=#[.func (.yield (w.heap.size+1)) #[] #[]] },(w.alloc (.deferred (some []))).alloc (.loop (rec .ready none)),gf,
    #[.func (.yield (w.heap.size+1)) #[] #[]]++lb,(w.alloc (.deferred (some []))).alloc (.loop (rec .ready none)),?_,?_,fun _ _=>trivial,?_,fun _=>by omega,?_⟩
  · rw [hrec];exact run_enterLoop_outer _ _ _ _ _
  · simp only [resolve,hg]
    simp [go_sem]
  · simp [invoke,go_sem,eg]
  · refine key.mono ?_
    rintro e W2 ⟨⟨v,rfl⟩,⟨hl,hq⟩ | ⟨c,hl,hq⟩⟩
    · exact ⟨none,W2.putObj (w.heap.size+1) (.loop (rec .exhausted none)),by have:=run_endLoop (P:=prog) hl (by rw [hrec];simp);rw [hrec] at this ⊢;exact this,hq⟩
    · exact ⟨some c,W2.putObj (w.heap.size+1) (.loop (rec .exhausted (some c))),by have:=run_endLoop (P:=prog) hl (by rw [hrec];simp);rw [hrec] at this ⊢;exact this,hq⟩
theorem si{P:Program}{t:TypeId}{W:World}{a:Addr}{v:Value}(h:rR P t=some false)(hc:W.cell? a=some v) :(loadVar t a).run P W=.ok v W:=by
  unfold loadVar
  rw [Sem.run_bind,iT h]
  simp [Result.andThen,hc]
theorem oz{P:Program}{fn:Func}{p q:Tmp}{t u:TypeId}(h:fn.results = #[.cell p t,.cell q u]){tmps:Array Value}{W:World}{a b:Addr}{v v':Value}(hp:tmps.getD p undef=.pointer (some a))(hq:tmps.getD q undef=.pointer (some b)) 
    (ht:rR P t=some false) (hu:rR P u=some false) (hc:W.cell? a=some v) (hd:W.cell? b=some v'):(results fn tmps).run P W=.ok (.tuple #[v,v']) W:=by
  have h1:=si ht hc
  have h2:=si hu hd
  rw [ui,h]
  simp [qO,hp,hq,asAddr,Sem.run_bind,Result.andThen,h1,h2]
theorem en{B:Nat}{a w:World}(h:Below B a w){r:Nat}(hr:B≤r)(o:Obj) :Below B a (w.putObj r o) :=
  ⟨h.os,h.tape,h.output,by simp only [World.putObj_size];exact h.size,fun k hk=>(World.putObj_heap_other (by omega)).trans (h.block k hk)⟩
theorem iN{W W':World}{base:Nat}{e:TypeId}{size:Nat}{v:Value}{n:Nat}{xs:List Value}(h:W.ownsRow base e size v n xs)(hb:∀ k,base≤k→k<W.heap.size→W'.heap[k]? = W.heap[k]?) :W'.ownsRow base e size v n xs:=by
  refine ⟨h.1,?_⟩
  rcases h.2 with q | ⟨g,cap,cur,h1,h2,h3,h4⟩
  · exact .inl q
  · exact .inr ⟨g,cap,cur,h1,h2,(hb g h2 (Array.getElem?_eq_some_iff.1 h3).1).trans h3,h4⟩
structure Fb (w:World) (rec:LoopState→Option Code→Loop) (pre:List Int) (W:World):Prop where
  r:Boxed W w.heap.size 22 (.slice none 0 0)
  e:Boxed W (w.heap.size+1) 24 (.int .i64 0)
  l:∃ v,Boxed W (w.heap.size+1+1) 22 v∧W.ownsRow (w.heap.size+8) 35 1 v pre.length (pre.map (Value.int .u64))
  d:W.heap[w.heap.size+6]? = some (.deferred (some []))
  o:W.heap[w.heap.size+6+1]? = some (.loop (rec .ready none))
  low:Below w.heap.size w W
theorem Fb.set{w:World}{rec:LoopState→Option Code→Loop}{pre:List Int}{W:World}(h:Fb w rec pre W)(k:Nat)(h1:w.heap.size+3≤k)(h2:k<w.heap.size+6)(u:Value) :Fb w rec pre (W.setCell ⟨k,0,none⟩ u):=by
  have hk:∀ j,j≠k→(W.setCell ⟨k,0,none⟩ u).heap[j]? = W.heap[j]?:=fun j hj=>Below.heap_setCell _ _ _ _ hj
  obtain ⟨v,hv,ho⟩:=h.l
  exact ⟨(hk _ (by omega)).trans h.r,(hk _ (by omega)).trans h.e,⟨v,(hk _ (by omega)).trans hv,iN ho fun j hj _=>hk j (by omega)⟩,(hk _ (by omega)).trans h.d,(hk _ (by omega)).trans h.o,h.low.setCell (by show w.heap.size≤k;omega) _⟩
def AP(W:World)(k:Nat) :Nat:=match W.cell? ⟨k,0,none⟩ with
  | some (.string r)=>r.size
  | _=>0
theorem xj{W:World}{k:Nat}{t:TypeId}{r:ByteArray}(h:Boxed W k t (.string r)) :AP W k=r.size:=by
  unfold AP
  rw [h.cell]
structure GA (w:World) (rec:LoopState→Option Code→Loop) (W:World):Prop where
  r:Boxed W w.heap.size 22 (.slice none 0 0)
  e:Boxed W (w.heap.size+1) 24 (.int .i64 4)
  d:W.heap[w.heap.size+6]? = some (.deferred (some []))
  o:W.heap[w.heap.size+6+1]? = some (.loop (rec .done (some .ret)))
  low:Below w.heap.size w W
theorem yv(l:List UInt8)(c:UInt8) :Lib.indexByte l c<l.length∨l=[]:=by
  induction l with
  | nil=>exact .inr rfl
  | cons b l ih =>
    left
    unfold Lib.indexByte
    simp only [List.length_cons]
    split
    · omega
    · split
      · omega
      · rcases ih with h | rfl
        · omega
        · exact absurd rfl ‹¬ (Lib.indexByte [] c == -1)=true›
theorem F6{α:Type}(h:Array α)(a b c d e f g i:α)(k:Nat) :((((((((h.push a).push b).push c).push d).push e).push f).push g).push i)[h.size+k]? = #[a,b,c,d,e,f,g,i][k]?:=by
  have e1:((((((((h.push a).push b).push c).push d).push e).push f).push g).push i)=h ++ #[a,b,c,d,e,f,g,i]:=by
    apply Array.toList_inj.1
    simp
  rw [e1,Array.getElem?_append_right (Nat.le_add_right _ _),Nat.add_sub_cancel_left]
def yw:Nat→ByteArray→List Int→Option (List Int)
  | 0,_,_=>none
  | f+1,s,acc =>
    if Lib.indexByte s.data.toList 32<0 then (if cF s=true then some (acc++[d9 s]) else none)
    else if cF (s.extract 0 (Lib.indexByte s.data.toList 32).toNat)=true then yw f (s.extract ((Lib.indexByte s.data.toList 32).toNat+1) s.size) (acc++[d9 (s.extract 0 (Lib.indexByte s.data.toList 32).toNat)]) else none
def pb(s:ByteArray) :Option (List Int):=yw (s.size+1) s []
set_option maxHeartbeats 2000000 in
theorem sj (s : ByteArray) (hs : s.size ≤ 1000000000) (w : World) (hR : Hid (dE w)) : Calls prog di #[.string s] w fun e w' => Below w.heap.size w w' ∧
    ((∃ xs v, pb s = some xs ∧ e = .returned (.tuple #[v, .int .i64 0]) ∧ w'.ownsRow (w.heap.size + 8) 35 1 v xs.length (xs.map (Value.int .u64))) ∨ (pb s = none ∧ e = .returned (.tuple #[.slice none 0 0, .int .i64 4]))) := by
  refine (callsIn_wide (n := 6)).1 (callsIn_of_wp_marks Tryd.func9 rfl trivial ?_)
  simp only [Tryd.ntmps9, List.size_toArray, List.length_cons, List.length_nil, Nat.reduceAdd, Nat.reduceSub, Array.replicate_succ, Array.replicate_zero, List.push_toArray, List.append_toArray, List.nil_append, List.cons_append]
  gi_wp2_with (refine ⟨trivial, ?_⟩; gi_at_call 25; refine (callsIn_wide.2 (uC s _ _)).mono ?_; rintro e w' ⟨rfl, rfl⟩)
  obtain ⟨w0, hw0⟩ : ∃ w0, (((((w.alloc (.cells #[.slice none 0 0] 22)).alloc (.cells #[.int .i64 0] 24)).alloc (.cells #[.slice none 0 0] 22)).alloc (.cells #[.string s] 9)).alloc (.cells #[.string ⟨#[32]⟩] 9)).alloc (.cells #[.int .i64 0] 3) = w0 := ⟨_, rfl⟩
  rw [hw0]
  have hsz : w0.heap.size = w.heap.size + 6 := by rw [← hw0]; simp
  refine pa (gf := 63) (m := 5) rfl (enters_of Tryd.func63 (by kernel_rfl) rfl) fun fn rec hrec hy => ?_
  rw [hsz] at hy ⊢
  have round : ∀ (pre : List Int) (x : ByteArray) (W : World), x.size ≤ 1000000000 → pre.length ≤ 1000000000 → Fb w rec pre W → YieldAt Fence.wide 4 prog (w.heap.size + 6 + 1) #[.string x] W (fun e W' =>
      (∀ k, w.heap.size + 3 ≤ k → k < w.heap.size + 6 → W'.heap[k]? = W.heap[k]?) ∧ ((cF x = true ∧ e = .returned (.bool true) ∧ Fb w rec (pre ++ [d9 x]) W') ∨ (cF x = false ∧ e = .returned (.bool false) ∧ GA w rec W'))) := by
    intro pre x W hx hlen hS
    refine hy 4 _ W _ hS.o rfl ?_
    clear hy
    have cR := uz x hx
    gi_wp2
    refine ⟨hS.o, ?_⟩
    obtain ⟨W1, hW1⟩ : ∃ W1, W.putObj (w.heap.size + 6 + 1) (.loop (rec .busy none)) = W1 := ⟨_, rfl⟩
    rw [hW1]
    have hlt : w.heap.size + 6 + 1 < W.heap.size := (Array.getElem?_eq_some_iff.1 hS.o).1
    have hs1 : W1.heap.size = W.heap.size := by rw [← hW1]; simp
    have hk1 : ∀ k, k ≠ w.heap.size + 6 + 1 → W1.heap[k]? = W.heap[k]? := fun k hk => by rw [← hW1]; exact World.putObj_heap_other hk
    have ho1 : W1.heap[w.heap.size + 6 + 1]? = some (.loop (rec .busy none)) := by rw [← hW1]; exact World.putObj_heap_same hlt
    have hb1 : Below w.heap.size w W1 := hS.low.trans (by rw [← hW1]; exact ⟨rfl, rfl, rfl, by simp, fun k hk => World.putObj_heap_other (by omega)⟩)
    have hr1 : Hid (dE W1) := Lib.hid (hR.out.below hb1 (Nat.le_refl _))
    obtain ⟨v0, hv0, hown0⟩ := hS.l
    have hown1 : W1.ownsRow (w.heap.size + 8) 35 1 v0 pre.length (pre.map (Value.int .u64)) := by rw [← hW1]; exact ownsRow_putObj hown0 _ hS.o rfl
    obtain ⟨i0, hi, hz0, hz1, hz2⟩ := info_parts (show (prog.info? 35).map (fun i => (i.zero, i.size, i.bytes)) = some (some (.int .u64 0), 1, 8) by kernel_rfl)
    gi_wp2_with first
      | (refine ⟨trivial, ?_⟩; gi_at_call 26; refine (callsIn_wide.2 (cR _ hr1)).mono ?_; rintro e W2 ⟨rfl, hb2⟩
         have hkb : ∀ k, k < w.heap.size + 6 + 1 → W2.heap[k]? = W.heap[k]? := (fun k hk => (hb2.block k (by omega)).trans (hk1 k (by omega)))
         have hbr : Boxed W2 w.heap.size 22 (.slice none 0 0) := (hkb _ (by omega)).trans hS.r
         have hbe : Boxed W2 (w.heap.size + 1) 24 (.int .i64 0) := (hkb _ (by omega)).trans hS.e
         have hbl : Boxed W2 (w.heap.size + 1 + 1) 22 v0 := (hkb _ (by omega)).trans hv0
         have hbe2 : Boxed (W2.setCell ⟨w.heap.size, 0, none⟩ (.slice none 0 0)) (w.heap.size + 1) 24 (.int .i64 0) := (Below.heap_setCell _ _ _ _ (by first | (simp; done) | (simp; omega))).trans hbe
         have hcl := hbl.cell
         have hcr := hbr.cell
         have hfr := hbr.frozen
         have hce := hbe2.cell
         have hfe := hbe2.frozen
         have hown2 : W2.ownsRow (w.heap.size + 8) 35 1 v0 pre.length (pre.map (Value.int .u64)) := iN hown1 fun k _ hk => hb2.block k hk
         have ho2 := (hb2.block _ (by omega)).trans ho1)
      | (gi_at_builtin; refine wpListIn_append_own _ rfl _ _ 22 rfl (w.heap.size + 8) 35 i0 (.int .u64 0) 1 8 (by kernel_rfl) hi hz0 hz1 hz2 rfl (by decide) _ _ _ rfl (hown2.alloc _) ⟨W2.heap.size, 0, none⟩ 1 1 [.int .u64 (d9 x)] rfl rfl (cell_one_new _ _ _) (by simp [Value.oneCell']) (by unfold maxLen; omega) (by omega) (by have := hb2.size; simp; omega) ?_
         intro v' w3 hown3 hgrow _
         obtain ⟨g', cap', rfl⟩ := ownsRow_succ hown3
         have hsz2 := hb2.size
         have hb3 : Below (w.heap.size + 8) W2 w3 := ((Below.refl _ W2).alloc (by omega) _).grown (show (W2.alloc (.cells #[.int .u64 (d9 x)] 35)).grownBy w3 v0.ownBlock from hgrow) (by simp; omega) (fun j ej => by
           rcases hown2.2 with ⟨rfl, _⟩ | ⟨g, cap, cur, rfl, hb, _, _⟩
           · simp [Value.ownBlock] at ej
           · obtain rfl : g = j := by simpa [Value.ownBlock] using ej
             exact hb)
         have hbl3 : Boxed w3 (w.heap.size + 1 + 1) 22 v0 := (hb3.block _ (by omega)).trans hbl
         have hcl3 := hbl3.cell
         have hfl3 := hbl3.frozen)
    · have ho : cF x = false := by
        cases q : cF x with
        | false => rfl
        | true =>
          have h1 : (kA x != 0) = true := by assumption
          rw [kA, q] at h1
          exact absurd h1 (by decide)
      have hlow : Below w.heap.size w W2 := hb1.trans (hb2.mono (by omega))
      have hlt2 : w.heap.size + 6 + 1 < W2.heap.size := by have := hb2.size; omega
      have hd2 : W2.heap[w.heap.size + 6]? = some (.deferred (some [])) := (hkb _ (by omega)).trans hS.d
      refine ⟨?_, fun k h1 h2 => ?_, ho, ?_⟩
      · rw [Below.heap_setCell _ _ _ _ (by first | (simp; done) | (simp; omega)), Below.heap_setCell _ _ _ _ (by first | (simp; done) | (simp; omega))]; exact ho2
      · rw [World.putObj_heap_other (by omega), Below.heap_setCell _ _ _ _ (by first | (simp; done) | (simp; omega)), Below.heap_setCell _ _ _ _ (by first | (simp; done) | (simp; omega))]; exact hkb k (by omega)
      · refine ⟨?_, ?_, ?_, ?_, ?_⟩
        · unfold Boxed
          rw [World.putObj_heap_other (by omega), Below.heap_setCell _ _ _ _ (by first | (simp; done) | (simp; omega))]
          exact hbr.set _
        · unfold Boxed
          rw [World.putObj_heap_other (by omega)]
          exact hbe2.set _
        · rw [World.putObj_heap_other (by omega), Below.heap_setCell _ _ _ _ (by first | (simp; done) | (simp; omega)), Below.heap_setCell _ _ _ _ (by first | (simp; done) | (simp; omega))]; exact hd2
        · exact World.putObj_heap_same (by simpa using hlt2)
        · exact en ((hlow.setCell (p := ⟨w.heap.size, 0, none⟩) (by simp) _).setCell (p := ⟨w.heap.size + 1, 0, none⟩) (by simp) _) (by omega) _
    · have ho : cF x = true := by
        cases q : cF x with
        | true => rfl
        | false =>
          have h1 : (kA x != 0) = false := by assumption
          rw [kA, q] at h1
          exact absurd h1 (by decide)
      have hlow : Below w.heap.size w w3 := (hb1.trans (hb2.mono (by omega))).trans (hb3.mono (by omega))
      have hlt3 : w.heap.size + 6 + 1 < w3.heap.size := by have := hb2.size; have := hb3.size; omega
      have hk3 : ∀ k, k < w.heap.size + 6 + 1 → w3.heap[k]? = W.heap[k]? := fun k hk => (hb3.block k (by omega)).trans (hkb k hk)
      refine ⟨?_, fun k h1 h2 => ?_, ho, ?_⟩
      · rw [Below.heap_setCell _ _ _ _ (by first | (simp; done) | (simp; omega)), hb3.block _ (by omega)]; exact ho2
      · rw [World.putObj_heap_other (by omega), Below.heap_setCell _ _ _ _ (by first | (simp; done) | (simp; omega))]; exact hk3 k (by omega)
      · refine ⟨?_, ?_, ⟨.slice (some ⟨g', 0, none⟩) (pre.length + 1) cap', ?_, ?_⟩, ?_, ?_, ?_⟩
        · unfold Boxed
          rw [World.putObj_heap_other (by omega), Below.heap_setCell _ _ _ _ (by first | (simp; done) | (simp; omega))]
          exact (hk3 _ (by omega)).trans hS.r
        · unfold Boxed
          rw [World.putObj_heap_other (by omega), Below.heap_setCell _ _ _ _ (by first | (simp; done) | (simp; omega))]
          exact (hk3 _ (by omega)).trans hS.e
        · unfold Boxed
          rw [World.putObj_heap_other (by omega)]
          exact hbl3.set _
        · have h9 := ownsRow_setCell_below hown3 (a := ⟨w.heap.size + 1 + 1, 0, none⟩) (by first | (simp; done) | (simp; omega)) (.slice (some ⟨g', 0, none⟩) (pre.length + 1) cap')
          refine iN ?_ fun k hk _ => World.putObj_heap_other (by omega)
          simpa using h9
        · rw [World.putObj_heap_other (by omega), Below.heap_setCell _ _ _ _ (by first | (simp; done) | (simp; omega))]; exact (hk3 _ (by omega)).trans hS.d
        · exact World.putObj_heap_same (by simpa using hlt3)
        · exact en (hlow.setCell (p := ⟨w.heap.size + 1 + 1, 0, none⟩) (by show w.heap.size ≤ w.heap.size + 1 + 1; omega) _) (by omega) _
  obtain ⟨W0, hW0⟩ : ∃ W0, (w0.alloc (.deferred (some []))).alloc (.loop (rec .ready none)) = W0 := ⟨_, rfl⟩
  have it : CallsIn Fence.wide 5 prog 63 #[.func (.yield (w.heap.size + 6 + 1)) #[] #[], .pointer (some ⟨w.heap.size + 1 + 1 + 1 + 1, 0, none⟩), .pointer (some ⟨w.heap.size + 1 + 1 + 1, 0, none⟩), .pointer (some ⟨w.heap.size + 1 + 1 + 1 + 2, 0, none⟩)] W0
      (fun e W' => (∃ v, e = .returned v) ∧ ((∃ xs, pb s = some xs ∧ Fb w rec xs W') ∨ (pb s = none ∧ GA w rec W'))) := by
    refine callsIn_of_wp Tryd.func63 rfl trivial ?_ rfl
    simp only [Tryd.ntmps63, List.size_toArray, List.length_cons, List.length_nil, Nat.reduceAdd, Nat.reduceSub, Array.replicate_succ, Array.replicate_zero, List.push_toArray, List.append_toArray, List.nil_append, List.cons_append]
    have hat : ∀ k, k < 8 → W0.heap[w.heap.size + k]? = #[Obj.cells #[.slice none 0 0] 22, .cells #[.int .i64 0] 24, .cells #[.slice none 0 0] 22, .cells #[.string s] 9, .cells #[.string ⟨#[32]⟩] 9, .cells #[.int .i64 0] 3, .deferred (some []), .loop (rec .ready none)][k]? := fun k hk => by
      rw [← hW0, ← hw0]
      exact F6 w.heap _ _ _ _ _ _ _ _ k
    have hlow0 : Below w.heap.size w W0 := by
      rw [← hW0, ← hw0]
      refine Below.alloc (Below.alloc (Below.alloc (Below.alloc (Below.alloc (Below.alloc (Below.alloc (Below.alloc (Below.refl _ w) ?_ _) ?_ _) ?_ _) ?_ _) ?_ _) ?_ _) ?_ _) ?_ _
      all_goals simp
      all_goals try omega
    have hSt : Fb w rec [] W0 := ⟨hat 0 (by omega), hat 1 (by omega), ⟨_, hat 2 (by omega), World.ownsRow_nil _ _ _ _⟩, hat 6 (by omega), hat 7 (by omega), hlow0⟩
    have hq0 : Boxed W0 (w.heap.size + 3) 9 (.string s) := hat 3 (by omega)
    have hq1 : Boxed W0 (w.heap.size + 4) 9 (.string ⟨#[32]⟩) := hat 4 (by omega)
    have hq2 : Boxed W0 (w.heap.size + 5) 3 (.int .i64 0) := hat 5 (by omega)
    clear hat hlow0 hy
    have hc1 : W0.cell? ⟨w.heap.size + 1 + 1 + 1 + 1, 0, none⟩ = some (.string ⟨#[32]⟩) := hq1.cell
    gi_wp2
    gi_loopw [7] (fun _ W => ∃ (r : ByteArray) (pre : List Int) (f : Nat), Boxed W (w.heap.size + 3) 9 (.string r) ∧ Boxed W (w.heap.size + 4) 9 (.string ⟨#[32]⟩) ∧ Boxed W (w.heap.size + 5) 3 (.int .i64 0) ∧
        yw f r pre = pb s ∧ r.size < f ∧ pre.length + r.size ≤ s.size ∧ Fb w rec pre W) (fun _ W => AP W (w.heap.size + 3))
    case atStart => exact ⟨s, [], s.size + 1, hq0, hq1, hq2, rfl, by omega, by simp, hSt⟩
    case round =>
      obtain ⟨r, pre, f, hb3, hb4, hb5, hu, hf, hl, hS⟩ := hrel
      have cI := fun w' => callsIn_wide (n := 3).2 (Tryd.strings_Index_one r 32 w')
      have h9 : Lib.indexByte r.data.toList 32 < r.size ∨ Lib.indexByte r.data.toList 32 = -1 := by
        rcases yv r.data.toList 32 with h | h
        · exact .inl (by simpa using h)
        · rw [h]; exact .inr rfl
      have hge := Lib.indexByte_ge r.data.toList 32
      obtain ⟨i, hi⟩ : ∃ i, Lib.indexByte r.data.toList 32 = i := ⟨_, rfl⟩
      have cIx : Calls prog 65 #[.string r, .string ⟨#[32]⟩] wr (fun e w' => e = .returned (.int .i64 i) ∧ w' = wr) := by rw [← hi]; exact Tryd.strings_Index_one r 32 wr
      obtain ⟨f, rfl⟩ : ∃ g, f = g + 1 := ⟨f - 1, by omega⟩
      simp only [yw, hi] at hu
      rw [hi] at h9 hge
      clear cI
      have hc3 := hb3.cell
      have hc4 := hb4.cell
      have hc5 := hb5.cell
      by_cases hneg : i < 0
      · obtain ⟨fn', tmps', assign', body', hy', hR'⟩ := round pre r wr (by omega) (by omega) hS
        gi_wp2_with (refine ⟨trivial, ?_⟩; gi_at_call 65; refine (callsIn_wide.2 cIx).mono ?_; rintro e w' ⟨rfl, rfl⟩)
        refine hR'.mono ?_
        rintro e W3 ⟨_, ⟨ho, rfl, hS3⟩ | ⟨ho, rfl, hS3⟩⟩
        · gi_wp2
          go_end0
          exact ⟨⟨_, rfl⟩, .inl ⟨_, by rw [← hu, if_pos hneg, if_pos ho], hS3⟩⟩
        · gi_wp2
          go_end0
          exact ⟨⟨_, rfl⟩, .inr ⟨by rw [← hu, if_pos hneg, if_neg (by rw [ho]; decide)], hS3⟩⟩
      · obtain ⟨n, rfl⟩ := Int.eq_ofNat_of_zero_le (Int.not_lt.1 hneg)
        obtain ⟨fn', tmps', assign', body', hy', hR'⟩ := round pre (r.extract 0 n) wr (by simp; omega) (by omega) hS
        gi_wp2_with (refine ⟨trivial, ?_⟩; gi_at_call 65; refine (callsIn_wide.2 cIx).mono ?_; rintro e w' ⟨rfl, rfl⟩)
        rw [if_neg (show ¬ ((n : Int) < 0) by omega), Int.toNat_natCast] at hu
        refine hR'.mono ?_
        rintro e W3 ⟨hk, ⟨ho, rfl, hS3⟩ | ⟨ho, rfl, hS3⟩⟩
        · rw [if_pos ho] at hu
          have hb3' : Boxed W3 (w.heap.size + 3) 9 (.string r) := (hk _ (by omega) (by omega)).trans hb3
          have hb4' : Boxed W3 (w.heap.size + 4) 9 (.string ⟨#[32]⟩) := (hk _ (by omega) (by omega)).trans hb4
          have hb5' : Boxed W3 (w.heap.size + 5) 3 (.int .i64 0) := (hk _ (by omega) (by omega)).trans hb5
          have hc3' := hb3'.cell
          have hc4' := hb4'.cell
          have hf3' := hb3'.frozen
          gi_wp2
          have hb6 := hb3'.set (.string (r.extract (n + 1) r.size))
          go_roundw
          case rel =>
            refine ⟨r.extract (n + 1) r.size, pre ++ [d9 (r.extract 0 n)], f, hb6, ?_, ?_, hu, ?_, ?_, hS3.set _ (by omega) (by omega) _⟩
            · exact (Below.heap_setCell _ _ _ _ (show w.heap.size + 4 ≠ w.heap.size + 1 + 1 + 1 by omega)).trans hb4'
            · exact (Below.heap_setCell _ _ _ _ (show w.heap.size + 5 ≠ w.heap.size + 1 + 1 + 1 by omega)).trans hb5'
            · simp; omega
            · simp; omega
          case measure =>
            rw [xj hb6, xj hb3]
            simp
            omega
        · rw [if_neg (by rw [ho]; decide)] at hu
          gi_wp2
          refine bodyPost_ret (results_none rfl _ _ _) rfl ?_
          exact ⟨⟨_, rfl⟩, .inr ⟨hu.symm, hS3⟩⟩
  clear round hy
  rw [hW0]
  refine it.mono ?_
  rintro e W' ⟨hv, ⟨xs, hxs, hS⟩ | ⟨hxs, hS⟩⟩
  · refine ⟨hv, .inl ⟨hS.o, ?_⟩⟩
    have hlt : w.heap.size + 6 + 1 < W'.heap.size := (Array.getElem?_eq_some_iff.1 hS.o).1
    obtain ⟨W2, hW2⟩ : ∃ W2, W'.putObj (w.heap.size + 6 + 1) (.loop (rec .exhausted none)) = W2 := ⟨_, rfl⟩
    rw [hW2]
    have hk : ∀ k, k ≠ w.heap.size + 6 + 1 → W2.heap[k]? = W'.heap[k]? := fun k hk => by rw [← hW2]; exact World.putObj_heap_other hk
    obtain ⟨v, hv, ho⟩ := hS.l
    have br : Boxed W2 w.heap.size 22 (.slice none 0 0) := (hk _ (by omega)).trans hS.r
    have be : Boxed W2 (w.heap.size + 1) 24 (.int .i64 0) := (hk _ (by omega)).trans hS.e
    have bl : Boxed W2 (w.heap.size + 1 + 1) 22 v := (hk _ (by omega)).trans hv
    have hcl := bl.cell
    have hcr := br.cell
    have hfr := br.frozen
    obtain ⟨p, n, cap, rfl⟩ : ∃ p n cap, v = .slice p n cap := by
      rcases ho.2 with ⟨rfl, _⟩ | ⟨g, cap, cur, rfl, _⟩
      · exact ⟨_, _, _, rfl⟩
      · exact ⟨_, _, _, rfl⟩
    have be2 : Boxed (W2.setCell ⟨w.heap.size, 0, none⟩ (.slice p n cap)) (w.heap.size + 1) 24 (.int .i64 0) := (Below.heap_setCell _ _ _ _ (by first | (simp; done) | (simp; omega))).trans be
    have hce := be2.cell
    have hfe := be2.frozen
    gi_wp2
    obtain ⟨W3, hW3⟩ : ∃ W3, (W2.setCell ⟨w.heap.size, 0, none⟩ (.slice p n cap)).setCell ⟨w.heap.size + 1, 0, none⟩ (.int .i64 0) = W3 := ⟨_, rfl⟩
    rw [hW3]
    have be3 : Boxed W3 (w.heap.size + 1) 24 (.int .i64 0) := by rw [← hW3]; exact be2.set _
    have br3 : Boxed W3 w.heap.size 22 (.slice p n cap) := by
      rw [← hW3]
      exact (Below.heap_setCell _ _ _ _ (by first | (simp; done) | (simp; omega))).trans (br.set _)
    have hk3 : ∀ k, w.heap.size + 2 ≤ k → k ≠ w.heap.size + 6 + 1 → W3.heap[k]? = W'.heap[k]? := fun k h1 h2 => by
      rw [← hW3, Below.heap_setCell _ _ _ _ (by show k ≠ w.heap.size + 1; omega), Below.heap_setCell _ _ _ _ (by show k ≠ w.heap.size; omega)]; exact hk k h2
    have hd : W3.heap[w.heap.size + 6]? = some (.deferred (some [])) := (hk3 _ (by omega) (by omega)).trans hS.d
    have hlow : Below w.heap.size w W3 := by
      rw [← hW3, ← hW2]
      exact ((en hS.low (by omega) _).setCell (p := ⟨w.heap.size, 0, none⟩) (by simp) _).setCell (p := ⟨w.heap.size + 1, 0, none⟩) (by simp) _
    have hown : (W3.putObj (w.heap.size + 6) (.deferred none)).ownsRow (w.heap.size + 8) 35 1 (.slice p n cap) xs.length (xs.map (Value.int .u64)) :=
      iN ho fun k h1 _ => (World.putObj_heap_other (by omega)).trans (hk3 k (by omega) (by omega))
    refine ⟨by simp, .inl ⟨_, _, rfl, run_takeDeferred hd, ?_⟩⟩
    exact ⟨_, oz (a := ⟨w.heap.size, 0, none⟩) (b := ⟨w.heap.size + 1, 0, none⟩) rfl rfl rfl (by kernel_rfl) (by kernel_rfl) (Boxed.cell ((World.putObj_heap_other (by omega)).trans br3)) (Boxed.cell ((World.putObj_heap_other (by omega)).trans be3)), en hlow (by omega) _, .inl ⟨xs, _, hxs, rfl, hown⟩⟩
  · refine ⟨hv, .inr ⟨_, hS.o, ?_⟩⟩
    have hlt : w.heap.size + 6 + 1 < W'.heap.size := (Array.getElem?_eq_some_iff.1 hS.o).1
    obtain ⟨W2, hW2⟩ : ∃ W2, W'.putObj (w.heap.size + 6 + 1) (.loop (rec .exhausted (some .ret))) = W2 := ⟨_, rfl⟩
    rw [hW2]
    have hk : ∀ k, k ≠ w.heap.size + 6 + 1 → W2.heap[k]? = W'.heap[k]? := fun k hk => by rw [← hW2]; exact World.putObj_heap_other hk
    have br : Boxed W2 w.heap.size 22 (.slice none 0 0) := (hk _ (by omega)).trans hS.r
    have be : Boxed W2 (w.heap.size + 1) 24 (.int .i64 4) := (hk _ (by omega)).trans hS.e
    have hcr := br.cell
    have hce := be.cell
    have hd : W2.heap[w.heap.size + 6]? = some (.deferred (some [])) := (hk _ (by omega)).trans hS.d
    have hlow : Below w.heap.size w W2 := by rw [← hW2]; exact en hS.low (by omega) _
    gi_wp2
    refine ⟨by simp, .inl ⟨_, _, rfl, run_takeDeferred hd, ?_⟩⟩
    exact ⟨_, oz (a := ⟨w.heap.size, 0, none⟩) (b := ⟨w.heap.size + 1, 0, none⟩) rfl rfl rfl (by kernel_rfl) (by kernel_rfl) (Boxed.cell ((World.putObj_heap_other (by omega)).trans br)) (Boxed.cell ((World.putObj_heap_other (by omega)).trans be)), en hlow (by omega) _, .inr ⟨hxs, rfl⟩⟩
def nO(s:ByteArray) :Bool:=(pb s).isSome
def qX(s:ByteArray) :List Int:=(pb s).getD []
theorem AQ{ρ:aa}{W:World}{base:Nat}{t:TypeId}{k:IntKind}{v:Value}{xs:List Int}(h:W.ownsRow base t 1 v xs.length (xs.map (Value.int k)))(ha:∀ bl,base≤bl→ρ.avoid .free bl) :
    VR ρ W (.imm .free (.ns k xs) 1 1 0 xs.length) v:=by
  rcases h.2 with ⟨rfl,h0⟩ | ⟨g,cap,cur,rfl,hg,hc,hn,_,hs,ht⟩
  · rw [h0];exact .immEnd _ _ _ _ _ _ _ trivial (fun _=>rfl) rfl
  · refine .imm .free (.ns k xs) 1 1 0 xs.length cap g 0 (fun x=>.int k (xs.getD x 0)) (ha g hg) (Array.getElem?_eq_some_iff.1 hc).1 (fun x v hx=>?_) (fun x v hx=>?_) hn trivial (fun _=>rfl) rfl
    · simp only [ah.cell?] at hx
      cases hq:xs[x]? with
      | none=>rw [hq] at hx;cases hx
      | some z =>
        have hlt:=(List.getElem?_eq_some_iff.1 hq).1
        have h1:(cur.toList.take (xs.length*1))[x]? = some (.int k z):=by rw [ht,List.getElem?_map,hq];rfl
        rw [List.getElem?_take,if_pos (by omega)] at h1
        simp only [World.cell?,hc,Nat.zero_add]
        rw [List.getD_eq_getElem?_getD,hq]
        simpa using h1
    · simp only [ah.cell?] at hx
      cases hq:xs[x]? with
      | none=>rw [hq] at hx;cases hx
      | some z =>
        rw [hq] at hx
        cases hx
        rw [List.getD_eq_getElem?_getD,hq]
        exact .int _ _
theorem BL(s:ByteArray)(hs:s.size≤1000000000) :(∀ h:nO s=true,aj prog di [] [.str s] ⟨.tup [.imm .free (.ns .u64 (qX s)) 1 1 0 (qX s).length,.int .i64 0],[]⟩) ∧
    (∀ h:(!nO s)=true,aj prog di [] [.str s] ⟨.tup [.nsl,.int .i64 4],[]⟩):=by
  refine ⟨fun ho=>?_,fun ho=>?_⟩
  · refine bN ⟨FN di,by kernel_rfl,by kernel_rfl⟩ fun ρ w us hN hv=>?_
    cases hv with | cons _ u _ _ h1 h2 =>
    cases h2;cases h1
    refine (sj s hs w (Lib.hid hN.romOk)).mono ?_
    rintro e w' ⟨hb,⟨xs,v,hx,rfl,hown⟩ | ⟨hx,rfl⟩⟩
    · have e1:qX s=xs:=by unfold qX;rw [hx];rfl
      rw [e1]
      exact ⟨_,rfl,hb,.tup _ _ (.cons _ _ _ _ (AQ hown fun bl hbl=>cm.new hN bl (by omega)) (.cons _ _ _ _ (.int _ _) .nil))⟩
    · unfold nO at ho;rw [hx] at ho;cases ho
  · refine bN ⟨FN di,by kernel_rfl,by kernel_rfl⟩ fun ρ w us hN hv=>?_
    cases hv with | cons _ u _ _ h1 h2 =>
    cases h2;cases h1
    refine (sj s hs w (Lib.hid hN.romOk)).mono ?_
    rintro e w' ⟨hb,⟨xs,v,hx,rfl,hown⟩ | ⟨hx,rfl⟩⟩
    · unfold nO at ho;rw [hx] at ho;cases ho
    · exact ⟨_,rfl,hb,.tup _ _ (.cons _ _ _ _ .nsl (.cons _ _ _ _ (.int _ _) .nil))⟩
noncomputable def BM:aL:=dh di (.cons .str .nil) fun t =>
  [⟨⟨.tup [.imm .free (.ns .u64 (qX t.1)) 1 1 0 (qX t.1).length,.int .i64 0],[]⟩,[nO t.1,ox t.1.size]⟩,⟨⟨.tup [.nsl,.int .i64 4],[]⟩,[!nO t.1,ox t.1.size]⟩]
theorem AR:aS prog BM:=aU fun t a ha ho=>by
  simp only [List.mem_cons,List.not_mem_nil,or_false] at ha
  rcases ha with rfl | rfl
  · exact (BL t.1 (Nat.le_of_ble_eq_true ho.2.1)).1 ho.1
  · exact (BL t.1 (Nat.le_of_ble_eq_true ho.2.1)).2 ho.1
end Go.Plb.Seat
namespace Go.Plb.Seat
open Go Go.Plb
noncomputable def D6:aL:=dh hF (.cons (.int .u64) .nil) fun t=>[⟨⟨.str (aN t.1),[]⟩,[]⟩]
theorem CA:aS prog D6:=aU fun t a ha ho=>by
  simp only [List.mem_singleton] at ha
  subst ha
  exact DY t.1
noncomputable def FC:List aL:=[yc,qT,D0,D3,zG,D5,BM,D6]
theorem p6:ba prog (bd FC):=aq AJ (aq ye (aq Cx (aq Cy (aq zH (aq Cz (aq AR (aq CA (o7 prog))))))))
end Go.Plb.Seat
namespace Go.Plb.Seat
open Go Go.Plb
set_option linter.unusedVariables false
set_option maxRecDepth 100000
noncomputable section
inductive bP where
  | r0 (s9:ByteArray)
def iO:bP→AE×aG
  | .r0 s9=>(.ret,⟨az 20 [(2,.str s9)],[],0⟩)
theorem j4:qv iO:=by intro x;cases x<;>(intro h;cases h)
theorem vY(id:Nat) :qW id iO:=by intro x;cases x<;>(intro h;cases h)
def lC:bP→jB
  | .r0 s9=>⟨.str s9,[]⟩
noncomputable def vZ:List Code:=dq (qS lq)
def v6(v_0:Lv)(words_1:List Int)(_:Unit) :aG:=⟨az 20 [(3,.nsl),(6,.imm v_0 (.ns .u64 words_1) 1 1 0 (List.length words_1)),(7,.int .i64 (((List.length words_1):Nat):Int)),(8,.int .i64 (0:Int))],[],0⟩
def v7:T ((Unit)⊕(bP)) :=
  .leaf (.inl ())
def gN(v_0:Lv)(words_1:List Int) :Nat×Nat×Nat×(List ByteArray)→aG:=fun (l2,l3,a4,l5)=>⟨az 20 [(3,.sl 0 1 1 0 l2 l3),(6,.imm v_0 (.ns .u64 words_1) 1 1 0 (List.length words_1)),(7,.int .i64 (((List.length words_1):Nat):Int)),(8,.int .i64 ((a4:Nat):Int))],[(0,.ss l5)],1⟩
def oA:Nat×Nat×(List ByteArray)→aG:=fun (l6,l7,l8)=>⟨az 20 [(3,.sl 0 1 1 0 l6 l7)],[(0,.ss l8)],1⟩
noncomputable def v8:List Code:=dq (ji ((((vZ.drop 3).take 1)).headD .skip))
def uD(words_1:List Int)(l2:Nat)(l3:Nat)(a4:Nat)(l5:List ByteArray) :T ((Nat×Nat×Nat×(List ByteArray))⊕((Nat×Nat×(List ByteArray))⊕(bP))) :=
  .ask (decide (((a4:Nat):Int)<(((List.length words_1):Nat):Int)))
    (.need (nR ((a4:Nat):Int) (List.length words_1))<|.need (iU a4 (List.length words_1))<|.need (gZ ((l2+1)*16) 140737488355328)<|.need (gZ (l2+1) 9223372036854775807)<|.need (gZ 1 (List.length [(aN (List.getD words_1 a4 0))]))<|.need (gZ l2 (List.length l5))<|.need (iS .i64 (((a4+1):Nat):Int))<|.leaf (.inl ((l2+1),(l2+1),(a4+1),((List.take l2 l5)++(List.take 1 [(aN (List.getD words_1 a4 0))])))))
    (.leaf (.inr (.inl (l2,l3,l5))))
noncomputable def jj(words_1:List Int) :Nat×Nat×Nat×(List ByteArray)→Option ((Nat×Nat×Nat×(List ByteArray))⊕((Nat×Nat×(List ByteArray))⊕(bP))):=fun (l2,l3,a4,l5) =>
  (uD words_1 l2 l3 a4 l5).run
theorem uE(v_0:Lv)(words_1:List Int)(l2:Nat)(l3:Nat)(a4:Nat)(l5:List ByteArray) :Sg prog [] v8 (gN v_0 words_1 (l2,l3,a4,l5)) (jj words_1 (l2,l3,a4,l5)) (gN v_0 words_1) (f3 0 oA iO):=by
  unfold jj;exact d4 p6 (gN v_0 words_1) [⟨[],[129],[3,6,7,8]⟩,⟨[],[0],[3]⟩]
def jk(l6:Nat)(l8:List ByteArray) :T ((Empty)⊕(bP)) :=
  .need (qR 0 l6 l8)<|.need (FB (ByteArray.mk #[32]))<|.need (ox (mX (eF 0 l6 l8)).size)<|.need (ox (List.length (eF 0 l6 l8)))<|.leaf (.inr (.r0 (mX (eF 0 l6 l8))))
noncomputable def lD(words_1:List Int) :Option bP:=tq (bA ((v7).run) fun _ =>
  bA (cV (jj words_1) (0,0,0,([]:List ByteArray))) fun (l6,l7,l8) =>
  (jk l6 l8).run)
theorem oB(v_0:Lv)(words_1:List Int){x:bP}(h:lD words_1=some x) :aj prog lq [] [.imm v_0 (.ns .u64 words_1) 1 1 0 (List.length words_1)] (lC x) :=
  yi false lC iO h (Sg.cut 3 j4 (d4 p6 (v6 v_0 words_1) [⟨[],[],[3,6,7,8]⟩]) (fun _=>Sg.cut 1 j4 (EB ⟨[(.slot 3,.own 1 1 (.ss ([]:List ByteArray)))],[0],[3,6,7,8]⟩ (gN v_0 words_1) (oA) 0 j4 (vY _) (fun ⟨l2,l3,a4,l5⟩=>uE v_0 words_1 l2 l3 a4 l5)) (fun ⟨l6,l7,l8⟩=>d4 p6 xg [⟨[],[],[2]⟩])))
    (fun x=>by cases x with | r0 s9=>exact sf [.str s9])
def j5:Option bP→Bool
  | some _=>true
  | none=>false
def lZ:Option bP→ByteArray
  | some (.r0 x)=>x
  | _=>ByteArray.empty
theorem wa{x:Option bP}(h:j5 x=true) :x=some (.r0 (lZ x)):=by
  unfold j5 at h
  split at h<;>first | rfl | (cases h;done) | (rename_i y;cases y;rfl)
noncomputable def p7:aL:=dh lq (.cons (.ns .u64) .nil) fun t=>(fun q=>[⟨lC (.r0 (lZ q)),[j5 q]⟩]) (lD t.1.2)
theorem sD:aS prog p7:=aU fun t=>(bp (fun h=>oB t.1.1 t.1.2 (wa h)) bY)
noncomputable def p8:List aL:=p7::FC
theorem ma:ba prog (bd p8):=aq sD p6
inductive cz where
  | r0 (s1:ByteArray)
def wb:cz→AE×aG
  | .r0 s1=>(.ret,⟨az 12 [(4,.str s1)],[],0⟩)
def j6:cz→jB
  | .r0 s1=>⟨.str s1,[]⟩
def uF(m_0:Int)(n_1:Int) :T ((Empty)⊕(cz)) :=
  .need (iS .i64 m_0)<|.need (decide ((ByteArray.mk #[109,97,116,114,105,120,32]).size+(bO m_0).size≤9223372036854775807))<|.need (decide (((ByteArray.mk #[109,97,116,114,105,120,32])++(bO m_0)).size+(ByteArray.mk #[32]).size≤9223372036854775807))<|.need (iS .i64 n_1)<|.need (decide ((((ByteArray.mk #[109,97,116,114,105,120,32])++(bO m_0))++(ByteArray.mk #[32])).size+(bO n_1).size≤9223372036854775807))<|.leaf (.inr (.r0 ((((ByteArray.mk #[109,97,116,114,105,120,32])++(bO m_0))++(ByteArray.mk #[32]))++(bO n_1))))
noncomputable def j7(m_0:Int)(n_1:Int) :Option cz:=tq ((uF m_0 n_1).run)
theorem mY(m_0:Int)(n_1:Int){x:cz}(h:j7 m_0 n_1=some x) :aj prog ow [] [.int .i64 m_0,.int .i64 n_1] (j6 x) :=
  yi false j6 wb h (d4 ma xg [⟨[],[],[4]⟩])
    (fun x=>by cases x with | r0 s1=>exact sf [.str s1])
def jl:Option cz→Bool
  | some _=>true
  | none=>false
def kB:Option cz→ByteArray
  | some (.r0 x)=>x
  | _=>ByteArray.empty
theorem uG{x:Option cz}(h:jl x=true) :x=some (.r0 (kB x)):=by
  unfold jl at h
  split at h<;>first | rfl | (cases h;done) | (rename_i y;cases y;rfl)
noncomputable def oC:aL:=dh ow (.cons (.int .i64) (.cons (.int .i64) .nil)) fun t=>(fun q=>[⟨j6 (.r0 (kB q)),[jl q]⟩]) (j7 t.1 t.2.1)
theorem qY:aS prog oC:=aU fun t=>(bp (fun h=>mY t.1 t.2.1 (uG h)) bY)
noncomputable def oD:List aL:=oC::p8
theorem ep:ba prog (bd oD):=aq qY ma
inductive bf where
  | r0 (b7:Bool)
def mZ:bf→AE×aG
  | .r0 b7=>(.ret,⟨az 37 [(2,.bool false b7)],[],0⟩)
theorem mb:qv mZ:=by intro x;cases x<;>(intro h;cases h)
def jm:bf→jB
  | .r0 b7=>⟨.bool false b7,[]⟩
def sE(a_0:Int)(a_1:Int)(a_2:Int)(v_3:Lv)(a_4:List Int)(a_5:Int)(a_6:Int) :Bool×ByteArray×Nat×Bool×Bool→aG:=fun (is1,s2,a3,b4,b5)=>⟨az 37 [(1,.ptr 0 1 0 0),(3,.ptr 1 1 0 0),(4,.bool false is1)],[(0,.vs [.int .i64 a_0,.int .i64 a_1,.int .i64 a_2,.imm v_3 (.ns .u64 a_4) 1 1 0 (List.length a_4),.int .i64 a_5,.int .u64 a_6]),(1,.vs [.str s2,.int .i64 ((a3:Nat):Int),.bool false b4,.bool false b5])],2⟩
def sF(a_0 : Int) : T ((Bool × ByteArray × Nat × Bool × Bool) ⊕ (bf)) :=
  .alt 0
    (.need (a_0==(1:Int))<|.leaf (.inl (true,(ByteArray.mk #[101,105,103,101,110]),3,false,true)))
    (.alt 1
      (.need (a_0==(2:Int))<|.leaf (.inl (true,(ByteArray.mk #[118,97,108,117,101,115]),0,false,true)))
      (.alt 2
        (.need (a_0==(3:Int))<|.leaf (.inl (true,(ByteArray.mk #[115,118,100]),2,false,false)))
        (.alt 3
          (.need (a_0==(4:Int))<|.leaf (.inl (true,(ByteArray.mk #[114,97,110,107]),2,true,false)))
          (.alt 4
            (.need (a_0==(5:Int))<|.leaf (.inl (true,(ByteArray.mk #[105,110,118,101,114,115,101]),2,true,false)))
            (.alt 5
              (.need (a_0==(6:Int))<|.leaf (.inl (true,(ByteArray.mk #[99,111,110,100]),2,false,false)))
              (.alt 6
                (.need (!(a_0==(1:Int)))<|.need (!(a_0==(2:Int)))<|.need (!(a_0==(3:Int)))<|.need (!(a_0==(4:Int)))<|.need (!(a_0==(5:Int)))<|.need (!(a_0==(6:Int)))<|.leaf (.inl (false,ByteArray.empty,0,false,false)))
                (.fail)))))))
def sG(b6:Bool) :aG:=⟨az 37 [(2,.bool false b6)],[],0⟩
def mc(a_5:Int)(a_6:Int)(is1:Bool)(a3:Nat)(b4:Bool) :T ((Bool)⊕(bf)) :=
  .ask is1
    (.ask (decide (a_5≥(fw (1:Int) ((a3:Nat):Int))))
      (.ask (decide (a_5≤((a3:Nat):Int)))
        (.ask b4
          (.leaf (.inl true))
          (.leaf (.inl (a_6==(0:Int)))))
        (.leaf (.inl false)))
      (.leaf (.inl false)))
    (.leaf (.inl false))
def sH(b6:Bool) :T ((Empty)⊕(bf)) :=
  .leaf (.inr (.r0 b6))
noncomputable def cG(a_0:Int)(a_5:Int)(a_6:Int) :Option bf:=tq (bA ((sF a_0).run) fun (is1,s2,a3,b4,b5) =>
  bA ((mc a_5 a_6 is1 a3 b4).run) fun b6 =>
  (sH b6).run)
theorem sI(a_0:Int)(a_1:Int)(a_2:Int)(v_3:Lv)(a_4:List Int)(a_5:Int)(a_6:Int){x:bf}(h:cG a_0 a_5 a_6=some x) :aj prog mR [] [.agg [.int .i64 a_0,.int .i64 a_1,.int .i64 a_2,.imm v_3 (.ns .u64 a_4) 1 1 0 (List.length a_4),.int .i64 a_5,.int .u64 a_6]] (jm x) :=
  yi false jm mZ h (Sg.cut 2 mb (d4 ep (sE a_0 a_1 a_2 v_3 a_4 a_5 a_6) [⟨[],[0,144],[1,3,4]⟩,⟨[],[0,144],[1,3,4]⟩,⟨[],[0,144],[1,3,4]⟩,⟨[],[0,144],[1,3,4]⟩,⟨[],[0,144],[1,3,4]⟩,⟨[],[0,144],[1,3,4]⟩,⟨[],[0,144],[1,3,4]⟩]) (fun ⟨is1,s2,a3,b4,b5⟩=>Sg.cut 1 mb (d4 ep sG [⟨[],[],[2]⟩,⟨[],[],[2]⟩,⟨[],[],[2]⟩,⟨[],[],[2]⟩,⟨[],[],[2]⟩]) (fun b6=>d4 ep xg [⟨[],[],[2]⟩])))
    (fun x=>by cases x with | r0 b7=>exact sf [.bool false b7])
def dF:Option bf→Bool
  | some _=>true
  | none=>false
def dZ:Option bf→Bool
  | some (.r0 x)=>x
  | _=>false
theorem sJ{x:Option bf}(h:dF x=true) :x=some (.r0 (dZ x)):=by
  unfold dF at h
  split at h<;>first | rfl | (cases h;done) | (rename_i y;cases y;rfl)
noncomputable def m4:aL:=dh mR (.cons (.agg (.cons (.int .i64) (.cons (.int .i64) (.cons (.int .i64) (.cons (.ns .u64) (.cons (.int .i64) (.cons (.int .u64) .nil))))))) .nil) fun t=>(fun q=>[⟨jm (.r0 (dZ q)),[dF q]⟩]) (cG t.1.1 t.1.2.2.2.2.1 t.1.2.2.2.2.2.1)
theorem p9:aS prog m4:=aU fun t=>(bp (fun h=>sI t.1.1 t.1.2.1 t.1.2.2.1 t.1.2.2.2.1.1 t.1.2.2.2.1.2 t.1.2.2.2.2.1 t.1.2.2.2.2.2.1 (sJ h)) bY)
noncomputable def m5:List aL:=m4::oD
theorem fL:ba prog (bd m5):=aq p9 ep
inductive cg where
  | r0 (b2:Bool)
def qa:cg→AE×aG
  | .r0 b2=>(.ret,⟨az 41 [(2,.bool false b2)],[],0⟩)
theorem wc:qv qa:=by intro x;cases x<;>(intro h;cases h)
def lE:cg→jB
  | .r0 b2=>⟨.bool false b2,[]⟩
def we(b1:Bool) :aG:=⟨az 41 [(2,.bool false b1)],[],0⟩
def wg(a_0 : Int)(a_1 : Int)(a_2 : Int)(a_4 : List Int)(a_5 : Int)(a_6 : Int) : T ((Bool) ⊕ (cg)) :=
  .ask (decide (a_1 ≥ (0 : Int)))
    (.ask (decide (a_1 ≤ (512 : Int)))
      (.ask (decide (a_2 ≥ (0 : Int)))
        (.ask (decide (a_2≤(512:Int)))
          (.need (iS .i64 (a_1*a_2))<|.ask ((((List.length a_4):Nat):Int)==(a_1*a_2))
            (.need (qR 0 (List.length a_4) a_4)<|.need (dF (cG a_0 a_5 a_6))<|.ask (dZ (cG a_0 a_5 a_6))
              (.ask (a_1 == a_2)
                (.leaf (.inl true))
                (.alt 0
                  (.need (a_0==(1:Int))<|.leaf (.inl false))
                  (.alt 1
                    (.need (a_0==(2:Int))<|.leaf (.inl false))
                    (.alt 2
                      (.need (a_0==(3:Int))<|.leaf (.inl true))
                      (.alt 3
                        (.need (a_0==(4:Int))<|.leaf (.inl true))
                        (.alt 4
                          (.need (a_0==(5:Int))<|.leaf (.inl true))
                          (.alt 5
                            (.need (a_0==(6:Int))<|.leaf (.inl true))
                            (.alt 6
                              (.need (!(a_0==(1:Int)))<|.need (!(a_0==(2:Int)))<|.need (!(a_0==(3:Int)))<|.need (!(a_0==(4:Int)))<|.need (!(a_0==(5:Int)))<|.need (!(a_0==(6:Int)))<|.leaf (.inl true))
                              (.fail)))))))))
              (.leaf (.inl false)))
            (.leaf (.inl false)))
          (.leaf (.inl false)))
        (.leaf (.inl false)))
      (.leaf (.inl false)))
    (.leaf (.inl false))
def wh(b1:Bool) :T ((Empty)⊕(cg)) :=
  .leaf (.inr (.r0 b1))
noncomputable def lF(a_0:Int)(a_1:Int)(a_2:Int)(a_4:List Int)(a_5:Int)(a_6:Int) :Option cg:=tq (bA ((wg a_0 a_1 a_2 a_4 a_5 a_6).run) fun b1 =>
  (wh b1).run)
theorem oE(a_0:Int)(a_1:Int)(a_2:Int)(v_3:Lv)(a_4:List Int)(a_5:Int)(a_6:Int){x:cg}(h:lF a_0 a_1 a_2 a_4 a_5 a_6=some x) :aj prog pV [] [.agg [.int .i64 a_0,.int .i64 a_1,.int .i64 a_2,.imm v_3 (.ns .u64 a_4) 1 1 0 (List.length a_4),.int .i64 a_5,.int .u64 a_6]] (lE x) :=
  yi false lE qa h (Sg.cut 2 wc (d4 fL we [⟨[],[],[2]⟩,⟨[],[],[2]⟩,⟨[],[],[2]⟩,⟨[],[],[2]⟩,⟨[],[],[2]⟩,⟨[],[],[2]⟩,⟨[],[],[2]⟩,⟨[],[],[2]⟩,⟨[],[],[2]⟩,⟨[],[],[2]⟩,⟨[],[],[2]⟩,⟨[],[],[2]⟩,⟨[],[],[2]⟩,⟨[],[],[2]⟩]) (fun b1=>d4 fL xg [⟨[],[],[2]⟩]))
    (fun x=>by cases x with | r0 b2=>exact sf [.bool false b2])
def j8:Option cg→Bool
  | some _=>true
  | none=>false
def md:Option cg→Bool
  | some (.r0 x)=>x
  | _=>false
theorem wi{x:Option cg}(h:j8 x=true) :x=some (.r0 (md x)):=by
  unfold j8 at h
  split at h<;>first | rfl | (cases h;done) | (rename_i y;cases y;rfl)
noncomputable def qb:aL:=dh pV (.cons (.agg (.cons (.int .i64) (.cons (.int .i64) (.cons (.int .i64) (.cons (.ns .u64) (.cons (.int .i64) (.cons (.int .u64) .nil))))))) .nil) fun t=>(fun q=>[⟨lE (.r0 (md q)),[j8 q]⟩]) (lF t.1.1 t.1.2.1 t.1.2.2.1 t.1.2.2.2.1.2 t.1.2.2.2.2.1 t.1.2.2.2.2.2.1)
theorem sK:aS prog qb:=aU fun t=>(bp (fun h=>oE t.1.1 t.1.2.1 t.1.2.2.1 t.1.2.2.2.1.1 t.1.2.2.2.1.2 t.1.2.2.2.2.1 t.1.2.2.2.2.2.1 (wi h)) bY)
noncomputable def qc:List aL:=qb::m5
theorem dG:ba prog (bd qc):=aq sK fL
inductive bi where
  | r0 (s7:ByteArray)
def oF:bi→AE×aG
  | .r0 s7=>(.ret,⟨az 29 [(2,.str s7)],[],0⟩)
theorem jn:qv oF:=by intro x;cases x<;>(intro h;cases h)
def j9:bi→jB
  | .r0 s7=>⟨.str s7,[]⟩
def uH(a_0:Int)(a_1:Int)(a_2:Int)(v_3:Lv)(a_4:List Int)(a_5:Int)(a_6:Int) :ByteArray×Nat×Bool×Bool→aG:=fun (s1,a2,b3,b4)=>⟨az 29 [(1,.ptr 0 1 0 0),(3,.ptr 1 1 0 0)],[(0,.vs [.int .i64 a_0,.int .i64 a_1,.int .i64 a_2,.imm v_3 (.ns .u64 a_4) 1 1 0 (List.length a_4),.int .i64 a_5,.int .u64 a_6]),(1,.vs [.str s1,.int .i64 ((a2:Nat):Int),.bool false b3,.bool false b4])],2⟩
def uI(a_0 : Int) : T ((ByteArray × Nat × Bool × Bool) ⊕ (bi)) :=
  .alt 0
    (.need (a_0==(1:Int))<|.leaf (.inl ((ByteArray.mk #[101,105,103,101,110]),3,false,true)))
    (.alt 1
      (.need (a_0==(2:Int))<|.leaf (.inl ((ByteArray.mk #[118,97,108,117,101,115]),0,false,true)))
      (.alt 2
        (.need (a_0==(3:Int))<|.leaf (.inl ((ByteArray.mk #[115,118,100]),2,false,false)))
        (.alt 3
          (.need (a_0==(4:Int))<|.leaf (.inl ((ByteArray.mk #[114,97,110,107]),2,true,false)))
          (.alt 4
            (.need (a_0==(5:Int))<|.leaf (.inl ((ByteArray.mk #[105,110,118,101,114,115,101]),2,true,false)))
            (.alt 5
              (.need (a_0==(6:Int))<|.leaf (.inl ((ByteArray.mk #[99,111,110,100]),2,false,false)))
              (.alt 6
                (.need (!(a_0==(1:Int)))<|.need (!(a_0==(2:Int)))<|.need (!(a_0==(3:Int)))<|.need (!(a_0==(4:Int)))<|.need (!(a_0==(5:Int)))<|.need (!(a_0==(6:Int)))<|.leaf (.inl (ByteArray.empty,0,false,false)))
                (.fail)))))))
def uJ(a_0:Int)(a_1:Int)(a_2:Int)(v_3:Lv)(a_4:List Int)(a_5:Int)(a_6:Int)(s1:ByteArray)(a2:Nat)(b3:Bool)(b4:Bool)(s5:ByteArray) :aG:=⟨az 29 [(1,.ptr 0 1 0 0),(3,.ptr 1 1 0 0),(4,.str s5)],[(0,.vs [.int .i64 a_0,.int .i64 a_1,.int .i64 a_2,.imm v_3 (.ns .u64 a_4) 1 1 0 (List.length a_4),.int .i64 a_5,.int .u64 a_6]),(1,.vs [.str s1,.int .i64 ((a2:Nat):Int),.bool false b3,.bool false b4])],2⟩
def m6(a_5:Int)(s1:ByteArray)(a2:Nat) :T ((ByteArray)⊕(bi)) :=
  .ask (decide (((a2:Nat):Int)>(0:Int)))
    (.need (iS .i64 a_5)<|.need (decide ((ByteArray.mk #[32]).size+(bO a_5).size≤9223372036854775807))<|.need (decide (s1.size+((ByteArray.mk #[32])++(bO a_5)).size≤9223372036854775807))<|.leaf (.inl (s1++((ByteArray.mk #[32])++(bO a_5)))))
    (.leaf (.inl s1))
def uK(s6:ByteArray) :aG:=⟨az 29 [(4,.str s6)],[],0⟩
def uL(a_6:Int)(b3:Bool)(s5:ByteArray) :T ((ByteArray)⊕(bi)) :=
  .ask b3
    (.need (decide ((ByteArray.mk #[32]).size+(aN a_6).size≤9223372036854775807))<|.need (decide (s5.size+((ByteArray.mk #[32])++(aN a_6)).size≤9223372036854775807))<|.leaf (.inl (s5++((ByteArray.mk #[32])++(aN a_6)))))
    (.leaf (.inl s5))
def uM(s6:ByteArray) :T ((Empty)⊕(bi)) :=
  .leaf (.inr (.r0 s6))
noncomputable def eT(a_0:Int)(a_5:Int)(a_6:Int) :Option bi:=tq (bA ((uI a_0).run) fun (s1,a2,b3,b4) =>
  bA ((m6 a_5 s1 a2).run) fun s5 =>
  bA ((uL a_6 b3 s5).run) fun s6 =>
  (uM s6).run)
theorem m7(a_0:Int)(a_1:Int)(a_2:Int)(v_3:Lv)(a_4:List Int)(a_5:Int)(a_6:Int){x:bi}(h:eT a_0 a_5 a_6=some x) :aj prog ov [] [.agg [.int .i64 a_0,.int .i64 a_1,.int .i64 a_2,.imm v_3 (.ns .u64 a_4) 1 1 0 (List.length a_4),.int .i64 a_5,.int .u64 a_6]] (j9 x) :=
  yi false j9 oF h (Sg.cut 2 jn (d4 dG (uH a_0 a_1 a_2 v_3 a_4 a_5 a_6) [⟨[],[0,96],[1,3]⟩,⟨[],[0,96],[1,3]⟩,⟨[],[0,96],[1,3]⟩,⟨[],[0,96],[1,3]⟩,⟨[],[0,96],[1,3]⟩,⟨[],[0,96],[1,3]⟩,⟨[],[0,96],[1,3]⟩]) (fun ⟨s1,a2,b3,b4⟩=>Sg.cut 3 jn (d4 dG (uJ a_0 a_1 a_2 v_3 a_4 a_5 a_6 s1 a2 b3 b4) [⟨[],[0,1],[1,3,4]⟩,⟨[],[0,1],[1,3,4]⟩]) (fun s5=>Sg.cut 2 jn (d4 dG uK [⟨[],[],[4]⟩,⟨[],[],[4]⟩]) (fun s6=>d4 dG xg [⟨[],[],[2]⟩]))))
    (fun x=>by cases x with | r0 s7=>exact sf [.str s7])
def fM:Option bi→Bool
  | some _=>true
  | none=>false
def gn:Option bi→ByteArray
  | some (.r0 x)=>x
  | _=>ByteArray.empty
theorem uN{x:Option bi}(h:fM x=true) :x=some (.r0 (gn x)):=by
  unfold fM at h
  split at h<;>first | rfl | (cases h;done) | (rename_i y;cases y;rfl)
noncomputable def oG:aL:=dh ov (.cons (.agg (.cons (.int .i64) (.cons (.int .i64) (.cons (.int .i64) (.cons (.ns .u64) (.cons (.int .i64) (.cons (.int .u64) .nil))))))) .nil) fun t=>(fun q=>[⟨j9 (.r0 (gn q)),[fM q]⟩]) (eT t.1.1 t.1.2.2.2.2.1 t.1.2.2.2.2.2.1)
theorem qZ:aS prog oG:=aU fun t=>(bp (fun h=>m7 t.1.1 t.1.2.1 t.1.2.2.1 t.1.2.2.2.1.1 t.1.2.2.2.1.2 t.1.2.2.2.2.1 t.1.2.2.2.2.2.1 (uN h)) bY)
noncomputable def oH:List aL:=oG::qc
theorem q7:ba prog (bd oH):=aq qZ dG
end
end Go.Plb.Seat
namespace Go.Plb.Seat
open Go Go.Plb
set_option linter.unusedSimpArgs false
set_option linter.unusedVariables false
set_option maxRecDepth 100000
def iZ(k:Int) :Bool×ByteArray×Nat×Bool×Bool :=
  if k=1 then (true,ByteArray.mk #[101,105,103,101,110],3,false,true)
  else if k=2 then (true,ByteArray.mk #[118,97,108,117,101,115],0,false,true)
  else if k=3 then (true,ByteArray.mk #[115,118,100],2,false,false)
  else if k=4 then (true,ByteArray.mk #[114,97,110,107],2,true,false)
  else if k=5 then (true,ByteArray.mk #[105,110,118,101,114,115,101],2,true,false)
  else if k=6 then (true,ByteArray.mk #[99,111,110,100],2,false,false)
  else (false,ByteArray.empty,0,false,false)
def cp(k y t:Int) :Bool:=bif (iZ k).1 then bif decide (y≥fw 1 ((iZ k).2.2.1:Nat)) then bif decide (y≤((iZ k).2.2.1:Nat)) then bif (iZ k).2.2.2.1 then true else t==0 else false else false else false
def q8(k m n:Int)(len:Nat)(y t:Int) :Bool :=
  bif decide (m≥0) then bif decide (m≤512) then bif decide (n≥0) then bif decide (n≤512) then bif (len:Int)==m*n then bif cp k y t then bif m==n then true else !(iZ k).2.2.2.2 else false else false else false else false else false else false
def pn:ByteArray:=ByteArray.mk #[32]
def eU(k y t:Int) :ByteArray :=
  let s:=bif decide (((iZ k).2.2.1:Int)>0) then (iZ k).2.1++(pn++bO y) else (iZ k).2.1
  bif (iZ k).2.2.2.1 then s++(pn++aN t) else s
def qd(m n:Int) :ByteArray:=((ByteArray.mk #[109,97,116,114,105,120,32]++bO m)++pn)++bO n
def uO(ws:List Int) :ByteArray:=mX (ws.map aN)
theorem q9{α:Type}(f:Bool×ByteArray×Nat×Bool×Bool→α)(k:Int) :(T.alt 0 (.need (k==(1:Int))<|.leaf (f (iZ 1))) (.alt 1 (.need (k==(2:Int))<|.leaf (f (iZ 2))) (.alt 2 (.need (k==(3:Int))<|.leaf (f (iZ 3))) (.alt 3 (.need (k==(4:Int))<|.leaf (f (iZ 4))) (.alt 4 (.need (k==(5:Int))<|.leaf (f (iZ 5))) (.alt 5 (.need (k==(6:Int))<|.leaf (f (iZ 6)))
    (.alt 6 (.need (!(k==(1:Int)))<|.need (!(k==(2:Int)))<|.need (!(k==(3:Int)))<|.need (!(k==(4:Int)))<|.need (!(k==(5:Int)))<|.need (!(k==(6:Int)))<|.leaf (f (false,ByteArray.empty,0,false,false))) .fail))))))).run=some (f (iZ k)):=by
  by_cases h1:k=1
  · subst h1;rfl
  by_cases h2:k=2
  · subst h2;rfl
  by_cases h3:k=3
  · subst h3;rfl
  by_cases h4:k=4
  · subst h4;rfl
  by_cases h5:k=5
  · subst h5;rfl
  by_cases h6:k=6
  · subst h6;rfl
  have e:iZ k=(false,ByteArray.empty,0,false,false):=by simp [iZ,h1,h2,h3,h4,h5,h6]
  rw [e]
  have q:∀ j:Int,¬ k=j→(k==j)=false:=fun j h=>beq_eq_false_iff_ne.2 h
  simp [T.run,q _ h1,q _ h2,q _ h3,q _ h4,q _ h5,q _ h6]
theorem eZ(k y t:Int) :cG k y t=some (.r0 (cp k y t)):=by
  refine bG (ak (a:=iZ k) (q9 (fun x=>(Sum.inl x:(Bool×ByteArray×Nat×Bool×Bool)⊕bf)) k) ?_)
  generalize h:iZ k=p
  obtain ⟨b,w,n,tt,sq⟩:=p
  refine ak (a:=cp k y t) ?_ rfl
  unfold cp
  rw [h]
  simp only [mc,T.run]
  generalize decide (y≥fw (1:Int) (n:Int))=z1
  generalize decide (y≤(n:Int))=z2
  cases b<;>cases z1<;>cases z2<;>cases tt<;>rfl
theorem wj(k m n:Int)(ws:List Int)(y t:Int) :lF k m n ws y t=some (.r0 (q8 k m n ws.length y t)):=by
  refine bG (ak (a:=q8 k m n ws.length y t) ?_ rfl)
  unfold q8
  cases h1:decide (m≥0) with
  | false=>exact cW h1 rfl
  | true =>
    refine d5 h1 ?_
    cases h2:decide (m≤512) with
    | false=>exact aP rfl
    | true =>
      refine bJ ?_
      cases h3:decide (n≥0) with
      | false=>exact aP rfl
      | true =>
        refine bJ ?_
        cases h4:decide (n≤512) with
        | false=>exact aP rfl
        | true =>
          refine bJ (au ?_ ?_)
          · have g1:=of_decide_eq_true h1
            have g2:=of_decide_eq_true h2
            have g3:=of_decide_eq_true h3
            have g4:=of_decide_eq_true h4
            have:=Int.mul_le_mul g2 g4 g3 (by omega)
            have:=Int.mul_nonneg g1 g3
            rw [bt];omega
          cases h5:((ws.length:Int)==m*n) with
          | false=>exact aP rfl
          | true =>
            refine bJ (au (by simp [qR]) (au (by rw [eZ];rfl) ?_))
            cases h6:cp k y t with
            | false=>exact cW (by rw [eZ];exact h6) rfl
            | true =>
              refine d5 (by rw [eZ];exact h6) ?_
              cases h7:(m==n) with
              | true=>exact bJ rfl
              | false=>exact aP (q9 (fun x=>(Sum.inl (!x.2.2.2.2):Bool⊕cg)) k)
theorem kC(w:Int) :(eS w).length=16:=by simp [eS]
theorem AS(l:List Int) :(r6 l).size=l.length:=by
  have key:∀ (l:List Int) (r:ByteArray),(l.foldl (fun r n=>r.push (UInt8.ofNat n.toNat)) r).size=r.size+l.length:=by
    intro l
    induction l with
    | nil=>intro r;rfl
    | cons x l ih=>intro r;rw [List.foldl_cons,ih,ByteArray.size_push,List.length_cons];omega
  have:=key l ByteArray.empty
  simpa [r6] using this
theorem jo(w:Int) :(aN w).size=16:=by rw [aN,AS,kC]
theorem ra:∀ l:List ByteArray,(mW l).length≤(l.map fun s=>s.size+1).sum
  | []=>by simp [mW]
  | [x]=>by
    simp only [mW,List.map_cons,List.map_nil,List.sum_cons,List.sum_nil,Array.length_toList]
    show x.size≤_
    omega
  | x::y::r=>by
    have:=ra (y::r)
    simp only [mW,List.map_cons,List.sum_cons,List.length_append,List.length_cons] at this ⊢
    simp only [ByteArray.size,Array.length_toList] at this ⊢
    omega
theorem uP(l:List ByteArray) :(mX l).size=(mW l).length:=by simp [mX,ByteArray.size]
theorem uQ:∀ f n,(vS f n).length≤f
  | 0,_=>by simp [vS]
  | f+1,n=>by
    have:=uQ f (n/10)
    rw [vS]
    split<;>simp<;>omega
theorem fg(n:Int) :(bO n).size≤21:=by
  have:(bO n).size=(zF n).length:=by simp [bO,ByteArray.size]
  rw [this,zF]
  have h1:=uQ 20 n.natAbs
  have h2:=uQ 20 n.toNat
  split<;>simp<;>omega
theorem uR(m n:Int)(hm:iS .i64 m=true)(hn:iS .i64 n=true) :j7 m n=some (.r0 (qd m n)):=by
  refine bG ?_
  have h1:=fg m
  have h2:=fg n
  have e1:(ByteArray.mk #[109,97,116,114,105,120,32]).size=7:=rfl
  have e2:(ByteArray.mk #[32]).size=1:=rfl
  refine au hm (au ?_ (au ?_ (au hn (au ?_ rfl))))
  all_goals simp only [ByteArray.size_append,e1,e2,decide_eq_true_eq];omega
theorem zI(k:Int) :(iZ k).2.1.size≤7:=by
  unfold iZ
  repeat' split
  all_goals decide
theorem m8(k y t:Int)(hy:iS .i64 y=true) :eT k y t=some (.r0 (eU k y t)):=by
  have hw:=zI k
  refine bG (ak (a:=(iZ k).2) (q9 (fun x=>(Sum.inl x.2:(ByteArray×Nat×Bool×Bool)⊕bi)) k) ?_)
  generalize h:iZ k=p at hw
  obtain ⟨b,w,n,tt,sq⟩:=p
  have hw:w.size≤7:=hw
  have h1:=fg y
  have h2:=jo t
  have e2:(ByteArray.mk #[32]).size=1:=rfl
  have hs1:(m6 y w n).run=some (.inl (bif decide ((n:Int)>0) then w++(pn++bO y) else w)):=by
    cases hz:decide ((n:Int)>0) with
    | false=>exact cW hz rfl
    | true =>
      refine d5 hz (au hy (au ?_ (au ?_ rfl)))
      all_goals simp only [ByteArray.size_append,e2,decide_eq_true_eq];omega
  have hsz:(bif decide ((n:Int)>0) then w++(pn++bO y) else w).size≤29:=by
    have e3:pn.size=1:=rfl
    cases decide ((n:Int)>0)<;>simp only [cond_true,cond_false,ByteArray.size_append,e3]<;>omega
  unfold eU
  rw [h]
  refine ak hs1 ?_
  generalize (bif decide ((n:Int)>0) then w++(pn++bO y) else w)=s5 at hsz
  refine ak (a:=bif tt then s5++(pn++aN t) else s5) ?_ rfl
  cases tt with
  | false=>exact aP rfl
  | true =>
    refine bJ (au ?_ (au ?_ rfl))
    all_goals simp only [ByteArray.size_append,e2,decide_eq_true_eq];omega
theorem wk(ws:List Int)(h:ws.length≤1000000) :lD ws=some (.r0 (uO ws)):=by
  have hsz:(uO ws).size≤17*ws.length:=by
    have:=ra (ws.map aN)
    rw [uO,uP]
    have e:((ws.map aN).map fun s=>s.size+1).sum=17*ws.length:=by
      clear this h
      induction ws with
      | nil=>rfl
      | cons x l ih=>simp only [List.map_cons,List.sum_cons,List.length_cons,jo] at ih ⊢;omega
    omega
  refine bG (ak rfl (ak (a:=(ws.length,ws.length,ws.map aN)) (eR (fun j=>(j,j,j,(ws.take j).map aN)) ws.length rfl (fun j hj=>?_) ?_) ?_))
  · have hl:((ws.take j).map aN).length=j:=by rw [List.length_map,List.length_take];omega
    have hg:ws[j]? = some (ws.getD j 0):=by rw [List.getD_eq_getElem?_getD,List.getElem?_eq_getElem hj];rfl
    have hn:List.take j ((ws.take j).map aN)++List.take 1 [aN (ws.getD j 0)]=(ws.take (j+1)).map aN:=by
      rw [List.take_of_length_le (by omega),List.take_add_one (l:=ws),hg,List.map_append];rfl
    rw [←hn]
    refine d5 (by simp;omega) (au (by rw [dY];omega) (au (by rw [cM];omega) (au (by rw [gM];omega) (au (by rw [gM];omega) (dX (au (by rw [gM];omega) (au (by rw [bt];omega) rfl)))))))
  · rw [List.take_length]
    exact cW (by simp) rfl
  · show (jk ws.length (ws.map aN)).run=_
    have hc:eF 0 ws.length (ws.map aN)=ws.map aN:=by
      have:=Dy (ws.map aN)
      rwa [List.length_map] at this
    rw [jk,hc]
    refine au (by simp [qR]) (dX (au ?_ (au ?_ rfl)))
    · show Nat.ble (uO ws).size 1000000000=true
      exact Nat.ble_eq_true_of_le (by omega)
    · show Nat.ble (ws.map aN).length 1000000000=true
      rw [List.length_map]
      exact Nat.ble_eq_true_of_le (by omega)
end Go.Plb.Seat
namespace Go.Plb.Seat
open Go Go.Plb Go.Proofs Go.RowKit Go.Shelf
set_option maxRecDepth 100000
set_option linter.unusedSimpArgs false
set_option linter.unusedVariables false
attribute [local go_sem] Oper.semAt_some
set_option maxHeartbeats 2000000 in
theorem D7 (d l cb nb : Nat) (p : Option Addr) (m n cap : Nat) (hn : 1 ≤ n) (hL : m * n ≤ 1000000) (hcap : m * n ≤ cap) (hp : 1 ≤ m → p.isSome = true) (W : World) (J : Option Nat → World → Prop)
    (hJb : ∀ i W', J (some i) W' → W'.heap[cb]? = W.heap[cb]? ∧ W'.heap[nb]? = W.heap[nb]?) (hJm : ∀ i W' W'', J i W' → Below W'.heap.size W' W'' → J i W'')
    (hY : ∀ j a W', j < m → p = some a → J (some j) W' → YieldAt Fence.wide d prog l #[.slice (some (a.add (j * n))) n n] W' (fun e W'' => (e = .returned (.bool true) ∧ J (some (j + 1)) W'') ∨ (e = .returned (.bool false) ∧ J none W'')))
    (hc : Boxed W cb 22 (.slice p (m * n) cap)) (hnb : Boxed W nb 3 (.int .i64 n)) (h0 : J (some 0) W) :
    CallsIn Fence.wide (d + 1) prog 71 #[.func (.yield l) #[] #[], .pointer (some ⟨cb, 0, none⟩), .pointer (some ⟨nb, 0, none⟩)] W (fun e W' => (∃ v, e = .returned v) ∧ (J (some m) W' ∨ J none W')) := by
  refine callsIn_of_wp Tryd.func71 rfl trivial ?_ rfl
  simp only [Tryd.ntmps71, List.size_toArray, List.length_cons, List.length_nil, Nat.reduceAdd, Nat.reduceSub, Array.replicate_succ, Array.replicate_zero, List.push_toArray, List.append_toArray, List.nil_append, List.cons_append]
  gi_wp2
  gi_loopw [4] (fun t W' => ∃ (j i : Nat), t = .int .i64 (i : Nat) ∧ i = j * n ∧ j ≤ m ∧ J (some j) W') (fun t _ => m * n - (intOf t).toNat)
  case atStart => exact ⟨0, 0, rfl, by simp, Nat.zero_le _, h0⟩
  case round =>
    obtain ⟨j, i, rfl, hi, hj, hJ⟩ := hrel
    have hb := hJb j wr hJ
    have hc' : Boxed wr cb 22 (.slice p (m * n) cap) := hb.1.trans hc
    have hn' : Boxed wr nb 3 (.int .i64 n) := hb.2.trans hnb
    have c1 := hc'.cell
    have c2 := hn'.cell
    generalize hLe : m * n = L at *
    have hlt : i < L ↔ j < m := by
      rw [hi, ← hLe]
      exact ⟨fun h => Nat.lt_of_mul_lt_mul_right h, fun h => Nat.mul_lt_mul_of_pos_right h (by omega)⟩
    by_cases hjm : j < m
    · have h1 : i < L := hlt.2 hjm
      have h2 : i + n ≤ L := by
        rw [hi, ← hLe]
        calc j * n + n = (j + 1) * n := by rw [Nat.add_mul, Nat.one_mul]
          _ ≤ m * n := Nat.mul_le_mul_right n hjm
      obtain ⟨a, rfl⟩ := Option.isSome_iff_exists.1 (hp (by omega))
      have hJ' : J (some j) wr.drew := hJm _ _ _ hJ (Below.refl _ _).drew
      have hY' := hY j a wr.drew hjm rfl hJ'
      rw [← hi] at hY'
      obtain ⟨fn', tmps', assign', body', hy', hR'⟩ := hY'
      replace hi := Lib.hid hi
      clear hlt
      gi_wp2
      gi_region
      rw [show min (n : Int) ((L - i : Nat) : Int) = (n : Int) by omega]
      gi_wp2
      refine hR'.mono ?_
      rintro e W3 (⟨rfl, hJ3⟩ | ⟨rfl, hJ3⟩)
      · have hb3 := hJb (j + 1) W3 hJ3
        have c3 := (show Boxed W3 nb 3 (.int .i64 n) from hb3.2.trans hnb).cell
        gi_wp2
        go_roundw
        case rel => exact ⟨j + 1, i + n, by go_num, by rw [hi.out, Nat.add_mul, Nat.one_mul], by omega, hJ3⟩
        case measure => simp [intOf]; omega
      · gi_wp2
        refine bodyPost_ret (results_none rfl _ _ _) rfl ?_
        exact ⟨⟨_, rfl⟩, .inr hJ3⟩
    · have h1 : ¬ i < L := fun h => hjm (hlt.1 h)
      have hjm' : j = m := by omega
      gi_wp2
      go_end0
      exact ⟨⟨_, rfl⟩, .inl (hjm' ▸ hJ)⟩
theorem zJ(p:Option Addr)(len cap n:Nat)(hn:1≤n)(w:World) :Calls prog 60 #[.slice p len cap,.int .i64 n] w fun e w' =>
    e=.returned (.func (.func 71) #[] #[.pointer (some ⟨w.heap.size,0,none⟩),.pointer (some ⟨w.heap.size+1,0,none⟩)])∧w'=(w.alloc (.cells #[.slice p len cap] 22)).alloc (.cells #[.int .i64 n] 3):=by
  have hmf:∀ (fn:Fn) (first cap:Array Value) (w:World),(Instr.makeFunc fn first cap).run prog w=.ok (.func fn first cap) w:=fun _ _ _ _=>rfl
  go_enter Tryd.func60,Tryd.ntmps60
  go_wp2
  go_ret
  exact ⟨rfl,rfl⟩
def cZ(k m n:Int)(ws:List Int)(y t:Int) :List ByteArray :=
  bif q8 k m n ws.length y t then qd m n::((bif decide (n>0) then (List.range m.toNat).map (fun i=>uO ((ws.drop (i*n.toNat)).take n.toNat)) else [])++[eU k y t]) else []
abbrev AT(k m n:Int)(vw:Value)(y t:Int) :Array Value:=#[.int .i64 k,.int .i64 m,.int .i64 n,vw,.int .i64 y,.int .u64 t]
abbrev eH(ws:List Int) :AV:=.imm .free (.ns .u64 ws) 1 1 0 ws.length
theorem xk(k m n:Int)(ws:List Int)(vw:Value)(y t:Int)(w:World)(hr:dE w)(hv:VR aa.none_ w (eH ws) vw) :
    Calls prog 41 #[.agg (AT k m n vw y t)] w fun e w'=>e=.returned (.bool (q8 k m n ws.length y t))∧Below w.heap.size w w':=by
  have h:=oE k m n .free ws y t (wj k m n ws y t)
  refine (aj.calls (v:=.bool false (q8 k m n ws.length y t)) h w hr (us:=[.agg (AT k m n vw y t)]) (.cons _ _ _ _ (.agg _ _ (.cons _ _ _ _ (.int _ _) (.cons _ _ _ _ (.int _ _) (.cons _ _ _ _ (.int _ _) (.cons _ _ _ _ hv (.cons _ _ _ _ (.int _ _) (.cons _ _ _ _ (.int _ _) .nil))))))) .nil)).mono ?_
  rintro e w' ⟨u,ρ',rfl,hb,hu⟩
  cases hu
  exact ⟨rfl,hb⟩
theorem AU(k m n:Int)(ws:List Int)(vw:Value)(y t:Int)(hy:iS .i64 y=true)(w:World)(hr:dE w)(hv:VR aa.none_ w (eH ws) vw) :
    Calls prog 35 #[.agg (AT k m n vw y t)] w fun e w'=>e=.returned (.string (eU k y t))∧Below w.heap.size w w':=by
  have h:=m7 k m n .free ws y t (m8 k y t hy)
  refine (aj.calls (v:=.str (eU k y t)) h w hr (us:=[.agg (AT k m n vw y t)]) (.cons _ _ _ _ (.agg _ _ (.cons _ _ _ _ (.int _ _) (.cons _ _ _ _ (.int _ _) (.cons _ _ _ _ (.int _ _) (.cons _ _ _ _ hv (.cons _ _ _ _ (.int _ _) (.cons _ _ _ _ (.int _ _) .nil))))))) .nil)).mono ?_
  rintro e w' ⟨u,ρ',rfl,hb,hu⟩
  cases hu
  exact ⟨rfl,hb⟩
theorem AW(m n:Int)(hm:iS .i64 m=true)(hn:iS .i64 n=true)(w:World)(hr:dE w) :Calls prog 59 #[.int .i64 m,.int .i64 n] w fun e w'=>e=.returned (.string (qd m n))∧Below w.heap.size w w':=by
  have h:=mY m n (uR m n hm hn)
  refine (aj.calls (v:=.str (qd m n)) h w hr (us:=[.int .i64 m,.int .i64 n]) (.cons _ _ _ _ (.int _ _) (.cons _ _ _ _ (.int _ _) .nil))).mono ?_
  rintro e w' ⟨u,ρ',rfl,hb,hu⟩
  cases hu
  exact ⟨rfl,hb⟩
theorem CB(ws:List Int)(h6:ws.length≤1000000)(vw:Value)(w:World)(hr:dE w)(hv:VR aa.none_ w (eH ws) vw) :Calls prog 11 #[vw] w fun e w'=>e=.returned (.string (uO ws))∧Below w.heap.size w w':=by
  have h:=oB .free ws (wk ws h6)
  refine (aj.calls (v:=.str (uO ws)) h w hr (us:=[vw]) (.cons _ _ _ _ hv .nil)).mono ?_
  rintro e w' ⟨u,ρ',rfl,hb,hu⟩
  cases hu
  exact ⟨rfl,hb⟩
theorem jP{k m n:Int}{len:Nat}{y t:Int}(h:q8 k m n len y t=true) :0≤m∧m≤512∧0≤n∧n≤512∧(len:Int)=m*n∧0≤y∧y≤3:=by
  unfold q8 at h
  simp only [Bool.cond_eq_ite,Bool.if_false_right,Bool.and_eq_true,decide_eq_true_eq,beq_iff_eq,ge_iff_le] at h
  obtain ⟨h1,h2,h3,h4,h5,h6,_⟩:=h
  refine ⟨h1,h2,h3,h4,h5,?_⟩
  unfold cp at h6
  simp only [Bool.cond_eq_ite,Bool.if_false_right,Bool.and_eq_true,decide_eq_true_eq,beq_iff_eq,ge_iff_le] at h6
  obtain ⟨_,g1,g2,_⟩:=h6
  have hk:(iZ k).2.2.1≤3:=by
    unfold iZ
    repeat' split
    all_goals decide
  have g3:fw 1 ((iZ k).2.2.1:Nat)≥0:=by unfold fw;split<;>omega
  omega
theorem qe(w:World) :(isAgg 37).run prog w=.ok true w:=iT (by kernel_rfl)
theorem m9(w:World) :(sizeOf 37).run prog w=.ok 6 w:=by
  have hi:(prog.info? 37).map (·.size)=some 6:=by kernel_rfl
  cases hq:prog.info? 37 with
  | none=>rw [hq] at hi;cases hi
  | some i =>
    rw [hq] at hi
    simp only [Option.map_some,Option.some.injEq] at hi
    simp [sizeOf,Sem.run_bind,typeInfo,hq,hi]
theorem bZ{W:World}{k:Nat}{o:Obj}(h:W.heap[k]? = some o) :k<W.heap.size:=(Array.getElem?_eq_some_iff.1 h).1
structure CC (B ab:Nat) (k m n:Int) (ws:List Int) (vw:Value) (y t:Int) (J:Option Nat→World→Prop):Prop where
  ask:∀ i W,J (some i) W→W.heap[ab]? = some (.cells (AT k m n vw y t) 37 (0,0))∧dE W∧VR aa.none_ W (eH ws) vw
  mono:∀ i W W',J i W→Below W.heap.size W W'→J i W'
  put:∀ i W r o o',J i W→B≤r→W.heap[r]? = some o'→o'.isCells=false→J i (W.putObj r o)
def zK(o:Obj) :Prop:=∀ c fz,o ≠ .cells c 5 fz
def rb(B:Nat)(W W':World) :Prop:=W.heap.size≤W'.heap.size∧∀ r o,B≤r→W.heap[r]? = some o→zK o→W'.heap[r]? = some o
theorem hX{c:Array Value}{t:TypeId}{fz:Nat×Nat}(h:t≠5) :zK (.cells c t fz):=fun _ _ e=>by injection e with _ e;exact h e
theorem nP(l:Option (List Deferred)) :zK (.deferred l):=fun _ _ e=>by cases e
theorem uS(l:Loop) :zK (.loop l):=fun _ _ e=>by cases e
structure LF (ab bx:Nat) (l:Nat) (k m n:Int) (ws:List Int) (vw:Value) (y t:Int) (W:World):Prop where
  c0:W.cell? ⟨ab,0,none⟩=some (.int .i64 k)
  c1:W.cell? ⟨ab,1,none⟩=some (.int .i64 m)
  c2:W.cell? ⟨ab,2,none⟩=some (.int .i64 n)
  c3:W.cell? ⟨ab,3,none⟩=some vw
  c4:W.cell? ⟨ab,4,none⟩=some (.int .i64 y)
  c5:W.cell? ⟨ab,5,none⟩=some (.int .u64 t)
  cb:W.cell? ⟨bx,0,none⟩=some (.func (.yield l) #[] #[])
  rom:dE W
  hv:VR aa.none_ W (eH ws) vw
theorem F7{ab bx l:Nat}{k m n:Int}{ws:List Int}{vw:Value}{y t:Int}{W:World}(h:W.heap[ab]? = some (.cells (AT k m n vw y t) 37 (0,0))∧dE W∧VR aa.none_ W (eH ws) vw)(hbx:Boxed W bx 44 (.func (.yield l) #[] #[])) :
    LF ab bx l k m n ws vw y t W:=by
  obtain ⟨h1,h2,h3⟩:=h
  exact ⟨by simp [World.cell?,h1],by simp [World.cell?,h1],by simp [World.cell?,h1],by simp [World.cell?,h1],by simp [World.cell?,h1],by simp [World.cell?,h1],hbx.cell,h2,h3⟩
theorem CC.lf{B ab bx l:Nat}{k m n:Int}{ws:List Int}{vw:Value}{y t:Int}{J:Option Nat→World→Prop}(hI:CC B ab k m n ws vw y t J){i:Nat}{W W':World}(hJ:J (some i) W)(hbx:Boxed W bx 44 (.func (.yield l) #[] #[]))(hb:Below W.heap.size W W') :
    LF ab bx l k m n ws vw y t W':=F7 (hI.ask i W' (hI.mono _ _ _ hJ hb)) ((hb.block bx hbx.lt).trans hbx)
theorem xl{ρ:aa}{W:World}{ws:List Int}{v:Value}(hv:VR ρ W (eH ws) v) :∃ p cap,v=.slice p ws.length cap∧ws.length≤cap∧(1≤ws.length→p.isSome=true):=by
  generalize hA:eH ws=A at hv
  cases hv with
  | imm bw d k es i len cap bl o u ha hb hc hv hl hr hk hg=>cases hA;exact ⟨_,_,rfl,hl,fun _=>rfl⟩
  | immEnd bw d k es i cap a hr hk hg =>
    simp only [eH,AV.imm.injEq] at hA
    obtain ⟨_,_,_,_,_,h0⟩:=hA
    rw [h0]
    exact ⟨_,_,rfl,Nat.zero_le _,fun h=>by omega⟩
  | _=>cases hA
theorem CD{ρ:aa}{W:World}{ws:List Int}{a:Addr}{cap:Nat}(hv:VR ρ W (eH ws) (.slice (some a) ws.length cap))(j c:Nat)(h:j+c≤ws.length) :VR ρ W (eH ((ws.drop j).take c)) (.slice (some (a.add j)) c c):=by
  have hlen:((ws.drop j).take c).length=c:=by rw [List.length_take,List.length_drop];omega
  by_cases hc0:c=0
  · subst hc0
    show VR ρ W (.imm .free (.ns .u64 _) 1 1 0 _) _
    rw [List.take_zero]
    exact .immEnd _ _ _ _ _ _ _ trivial (fun _=>rfl) rfl
  generalize hA:eH ws=A at hv
  generalize hV:Value.slice (some a) ws.length cap=V at hv
  cases hv with
  | imm bw d k es i len cap bl o u ha hb hc hv hl hr hk hg =>
    cases hA
    cases hV
    have:=VR.imm (ρ:=ρ) (w:=W) .free (.ns .u64 ((ws.drop j).take c)) 1 1 0 c c bl (o+0*1+j) (fun x=>u (j+x)) ha hb (fun x v hx=>?_) (fun x v hx=>?_) (Nat.le_refl _) trivial (fun _=>rfl) rfl
    · show VR ρ W (.imm .free (.ns .u64 ((ws.drop j).take c)) 1 1 0 ((ws.drop j).take c).length) _
      rw [hlen]
      have e1:(Addr.mk bl (o+0*1) none).add j=Addr.mk bl (o+0*1+j+0*1) none:=by simp [Addr.add]
      rw [e1]
      exact this
    all_goals
      simp only [ah.cell?,List.getElem?_take,List.getElem?_drop] at hx
      split at hx
      case isFalse=>cases hx
    · have:=hc (j+x) v (by simpa [ah.cell?] using hx)
      rw [show o+0*1+j+x=o+(j+x) by omega]
      exact this
    · exact hv (j+x) v (by simpa [ah.cell?] using hx)
  | immEnd bw d k es i cap a hr hk hg =>
    simp only [eH,AV.imm.injEq] at hA
    obtain ⟨_,_,_,_,_,h0⟩:=hA
    omega
  | _=>cases hA
noncomputable def uT:Code:=match Tryd.f58.body with
  | some (.seq _ (.seq _ t))=>t
  | _=>.skip
noncomputable def D8:Code:=match uT with
  | .seq _ t=>t
  | _=>.skip
set_option maxHeartbeats 4000000 in
theorem uU (d l ab bx B : Nat) (k m n : Int) (ws : List Int) (vw : Value) (y t : Int) (J : Option Nat → World → Prop) (hI : CC B ab k m n ws vw y t J)
    (hm : q8 k m n ws.length y t = true) (hbx : B ≤ bx)
    (hY : ∀ d' j x W', (cZ k m n ws y t)[j]? = some x → J (some j) W' → YieldAt Fence.wide (d' + 4) prog l #[.string x] W' (fun e W'' => ∃ b : Bool, e = .returned (.bool b) ∧ J (bif b then some (j + 1) else none) W'' ∧ rb B W' W''))
    (Q : Exit → Act → World → Prop) (D : List Deferred) (W3 : World) (hQ : ∀ a W', a.defers = D → rb B W3 W' → J (some (cZ k m n ws y t).length) W' ∨ J none W' → Q .normal a W' ∧ Q .ret a W')
    (j : Nat) (hj : (cZ k m n ws y t).length = j + 1) (hl : (cZ k m n ws y t)[j]? = some (eU k y t)) (h1 : J (some j) W3) (hx : Boxed W3 bx 44 (.func (.yield l) #[] #[])) (u3 u4 u5 u6 u7 u8 u9 u10 u11 u12 u13 u14 u15 u16 u17 u18 u19 u20 u21 u22 u23 u24 u25 u26 u27 u28 u29 u30 u31 u32 u33 FL : Value) : Code.wpIn Fence.wide (d + 10) prog D8 Q { tmps := #[.func (.yield l) #[] #[], .pointer (some ⟨ab, 0, none⟩), .pointer (some ⟨bx, 0, none⟩), u3, u4, u5, u6, u7, u8, u9, u10, u11, u12, u13, u14, u15, u16, u17, u18, u19, u20, u21, u22, u23, u24, u25, u26, u27, u28, u29, u30, u31, u32, u33, FL], defers := D } W3 := by
  obtain ⟨hm0, hm5, hn0, hn5, hlen, hy0, hy3⟩ := jP hm
  have ky : iS .i64 y = true := bt.2 (by omega)
  delta D8 uT Tryd.f58
  dsimp only
  obtain ⟨c0, c1, c2, c3, c4, c5, cb, rom, hv⟩ := hI.lf h1 hx (Below.refl _ W3).drew
  have ag := qe
  have sz := m9
  have hline := AU k m n ws vw y t ky _ rom hv
  have hY1 := fun W' h => hY (d + 5) j _ W' hl h
  first
    | gi_region_with first
        | (refine ⟨trivial, ?_⟩; gi_at_call 35; refine (callsIn_wide.2 hline).mono ?_; rintro e W1 ⟨rfl, hb1⟩; have hb13 := (Below.refl _ W3).drew.trans hb1; obtain ⟨c10, c11, c12, c13, c14, c15, c1b, rom1, hv1⟩ := hI.lf h1 hx hb13; obtain ⟨fn', tmps', assign', body', hy', hR'⟩ := hY1 W1 (hI.mono _ _ _ h1 hb13))
        | (refine hR'.mono ?_; rintro e W4 ⟨b, rfl, hJ3, hK3⟩)
    | fail
  all_goals
    have hk3 : rb B W3 W4 := ⟨Nat.le_trans hb13.size hK3.1, fun r o h2 h3 h4 => hK3.2 r o h2 ((hb13.block r (bZ h3)).trans h3) h4⟩
    refine (hQ _ _ rfl hk3 ?_).1
    rw [hj]
    cases b
    · exact .inr hJ3
    · exact .inl hJ3
theorem Fc{α:Type}(h:Array α)(a b c d:α)(k:Nat) :((((h.push a).push b).push c).push d)[h.size+k]? = #[a,b,c,d][k]?:=by
  have e1:((((h.push a).push b).push c).push d)=h ++ #[a,b,c,d]:=by
    apply Array.toList_inj.1
    simp
  rw [e1,Array.getElem?_append_right (Nat.le_add_right _ _),Nat.add_sub_cancel_left]
structure F8 (S bx l:Nat) (p:Option Addr) (L cap N:Nat) (rec:LoopState→Option Code→Loop) (J:Option Nat→World→Prop) (j:Nat) (W:World):Prop where
  j:J (some (1+j)) W
  x:Boxed W bx 44 (.func (.yield l) #[] #[])
  c:Boxed W S 22 (.slice p L cap)
  n:Boxed W (S+1) 3 (.int .i64 N)
  d:W.heap[S+2]? = some (.deferred (some []))
  o:W.heap[S+2+1]? = some (.loop (rec .ready none))
structure Gn (S:Nat) (rec:LoopState→Option Code→Loop) (J:Option Nat→World→Prop) (W:World):Prop where
  j:J none W
  d:W.heap[S+2]? = some (.deferred (some []))
  o:W.heap[S+2+1]? = some (.loop (rec .done (some .ret)))
def CJ(S bx l:Nat)(p:Option Addr)(L cap N:Nat)(rec:LoopState→Option Code→Loop)(J:Option Nat→World→Prop) :Option Nat→World→Prop
  | some j,W=>F8 S bx l p L cap N rec J j W
  | none,W=>Gn S rec J W
theorem CJ.mono{S bx l:Nat}{p:Option Addr}{L cap N:Nat}{rec:LoopState→Option Code→Loop}{J:Option Nat→World→Prop}(hJ:∀ i W W',J i W→Below W.heap.size W W'→J i W') :
    ∀ i W W',CJ S bx l p L cap N rec J i W→Below W.heap.size W W'→CJ S bx l p L cap N rec J i W'
  | some j,W,W',h,hb=>⟨hJ _ _ _ h.j hb,(hb.block _ h.x.lt).trans h.x,(hb.block _ h.c.lt).trans h.c,(hb.block _ h.n.lt).trans h.n,(hb.block _ (bZ h.d)).trans h.d,(hb.block _ (bZ h.o)).trans h.o⟩
  | none,W,W',h,hb=>⟨hJ _ _ _ h.j hb,(hb.block _ (bZ h.d)).trans h.d,(hb.block _ (bZ h.o)).trans h.o⟩
set_option maxHeartbeats 4000000 in
theorem AX (d l ab bx B : Nat) (k m n : Int) (ws : List Int) (vw : Value) (y t : Int) (J : Option Nat → World → Prop) (hI : CC B ab k m n ws vw y t J)
    (hm : q8 k m n ws.length y t = true) (hbx : B ≤ bx)
    (hY : ∀ d' j x W', (cZ k m n ws y t)[j]? = some x → J (some j) W' → YieldAt Fence.wide (d' + 4) prog l #[.string x] W' (fun e W'' => ∃ b : Bool, e = .returned (.bool b) ∧ J (bif b then some (j + 1) else none) W'' ∧ rb B W' W''))
    (Q : Exit → Act → World → Prop) (W3 : World)
    (hQ : ∀ a W', (a.defers = [] ∨ ∃ D, B ≤ D ∧ a.defers = [{ target := .collected D, args := #[] }] ∧ W'.heap[D]? = some (.deferred (some []))) → J (some (cZ k m n ws y t).length) W' ∨ J none W' → Q .normal a W' ∧ Q .ret a W')
    (h1 : J (some 1) W3) (hx : Boxed W3 bx 44 (.func (.yield l) #[] #[])) (u3 u4 u5 u6 u7 u8 u9 u10 u11 u12 u13 u14 u15 u16 u17 u18 u19 u20 u21 u22 u23 u24 u25 u26 u27 u28 u29 u30 u31 u32 u33 FL : Value) : Code.wpIn Fence.wide (d + 10) prog uT Q { tmps := #[.func (.yield l) #[] #[], .pointer (some ⟨ab, 0, none⟩), .pointer (some ⟨bx, 0, none⟩), u3, u4, u5, u6, u7, u8, u9, u10, u11, u12, u13, u14, u15, u16, u17, u18, u19, u20, u21, u22, u23, u24, u25, u26, u27, u28, u29, u30, u31, u32, u33, FL], defers := [] } W3 := by
  obtain ⟨hm0, hm5, hn0, hn5, hlen, hy0, hy3⟩ := jP hm
  have hch : ∃ x, uT = .seq x D8 ∧ x = (match uT with | .seq x _ => x | _ => .skip) := ⟨_, rfl, rfl⟩
  obtain ⟨x, hx', he⟩ := hch
  rw [hx']
  delta uT Tryd.f58 at he
  dsimp only at he
  rw [he]
  obtain ⟨c0, c1, c2, c3, c4, c5, cb, rom, hv⟩ := hI.lf h1 hx (Below.refl _ W3)
  obtain ⟨N, rfl⟩ := Int.eq_ofNat_of_zero_le hn0
  obtain ⟨M, rfl⟩ := Int.eq_ofNat_of_zero_le hm0
  clear he hx'
  by_cases hN : N = 0
  · subst hN
    have hlin : cZ k M ((0 : Nat) : Int) ws y t = [qd M ((0 : Nat) : Int), eU k y t] := by rw [cZ, hm]; rfl
    gi_wp2
    exact uU d l ab bx B k M ((0 : Nat) : Int) ws vw y t J hI hm hbx hY Q [] W3 (fun a W' h2 _ h4 => hQ a W' (.inl h2) h4) 1 (by rw [hlin]; rfl) (by rw [hlin]; rfl) h1 hx _ _ _ _ _ _ _ _ _ _ _ _ _ _ _ _ _ _ _ _ _ _ _ _ _ _ _ _ _ _ _ _
  · have hN1 : (0 : Int) < (N : Int) := by omega
    obtain ⟨p, cap, rfl, hcap, hp⟩ := xl hv
    have hle : ws.length = M * N := by
      have : ((M * N : Nat) : Int) = (ws.length : Int) := by rw [hlen, Int.natCast_mul]
      omega
    rw [hle] at hcap hp hv
    gi_wp2_with (refine ⟨trivial, ?_⟩; gi_at_call 60; refine (callsIn_wide.2 (zJ p (M * N) cap N (by omega) W3)).mono ?_; rintro e w' ⟨rfl, rfl⟩)
    obtain ⟨W4, hW4⟩ : ∃ W4, (W3.alloc (.cells #[.slice p (M * N) cap] 22)).alloc (.cells #[.int .i64 N] 3) = W4 := ⟨_, rfl⟩
    rw [hW4]
    have hs4 : W4.heap.size = W3.heap.size + 2 := by rw [← hW4]; simp
    refine pa (gf := 71) (m := d + 9) rfl (enters_of Tryd.func71 (by kernel_rfl) rfl) fun fn rec hrec hy => ?_
    rw [hs4] at hy ⊢
    have hlin : cZ k M N ws y t = qd M N :: (((List.range M).map (fun i => uO ((ws.drop (i * N)).take N))) ++ [eU k y t]) := by
      have hd0 : decide ((N : Int) > 0) = true := decide_eq_true hN1
      rw [cZ, hm, hd0]
      rfl
    have hBS : B ≤ W3.heap.size := Nat.le_trans hbx (Nat.le_of_lt hx.lt)
    have hlen1 : (cZ k M N ws y t).length = M + 1 + 1 := by rw [hlin]; simp
    have round : ∀ j a W', j < M → p = some a → F8 W3.heap.size bx l p (M * N) cap N rec J j W' → YieldAt Fence.wide (d + 8) prog (W3.heap.size + 2 + 1) #[.slice (some (a.add (j * N))) N N] W' (fun e W'' =>
        (e = .returned (.bool true) ∧ F8 W3.heap.size bx l p (M * N) cap N rec J (j + 1) W'') ∨ (e = .returned (.bool false) ∧ Gn W3.heap.size rec J W'')) := by
      rintro j a W' hj rfl hS
      refine hy (d + 8) _ W' _ hS.o rfl ?_
      clear hy
      have hL1 : (cZ k M N ws y t)[1 + j]? = some (uO ((ws.drop (j * N)).take N)) := by
        rw [hlin, Nat.add_comm, List.getElem?_cons_succ, List.getElem?_append_left (by simpa using hj), List.getElem?_map, List.getElem?_range hj]
        rfl
      have hjN : j * N + N ≤ ws.length := by
        rw [hle]
        calc j * N + N = (j + 1) * N := by rw [Nat.add_mul, Nat.one_mul]
          _ ≤ M * N := Nat.mul_le_mul_right N hj
      gi_wp2
      refine ⟨hS.o, ?_⟩
      obtain ⟨V1, hV1⟩ : ∃ V1, W'.putObj (W3.heap.size + 2 + 1) (.loop (rec .busy none)) = V1 := ⟨_, rfl⟩
      rw [hV1]
      have hlt := bZ hS.o
      have hs1 : V1.heap.size = W'.heap.size := by rw [← hV1]; simp
      have hk1 : ∀ r, r ≠ W3.heap.size + 2 + 1 → V1.heap[r]? = W'.heap[r]? := fun r hr => by rw [← hV1]; exact World.putObj_heap_other hr
      have ho1 : V1.heap[W3.heap.size + 2 + 1]? = some (.loop (rec .busy none)) := by rw [← hV1]; exact World.putObj_heap_same hlt
      have hp1 := hI.put _ W' (W3.heap.size + 2 + 1) (.loop (rec .busy none)) _ hS.j (by omega) hS.o rfl
      rw [hV1] at hp1
      have hx1 : Boxed V1 bx 44 (.func (.yield l) #[] #[]) := (hk1 bx (by have := hx.lt; omega)).trans hS.x
      have hbd : Below V1.heap.size V1 V1.drew := (Below.refl _ V1).drew
      obtain ⟨c10, c11, c12, c13, c14, c15, c1b, rom1, hv1⟩ := hI.lf hp1 hx1 hbd
      rw [hle] at hv1
      have hw1 := CD (ws := ws) (a := a) (cap := cap) (by rw [hle]; exact hv1) (j * N) N hjN
      have hrow := CB _ (by rw [List.length_take, List.length_drop]; have := Nat.mul_le_mul (show M ≤ 512 by omega) (show N ≤ 512 by omega); omega) _ _ rom1 hw1
      have hY1 := fun W' h => hY (d + 3) (1 + j) _ W' hL1 h
      gi_wp2
      first
        | gi_region_with first
            | (refine ⟨trivial, ?_⟩; gi_at_call 11; refine (callsIn_wide.2 hrow).mono ?_; rintro e W5 ⟨rfl, hb5⟩; have hb15 := hbd.trans hb5; have hm5 := hI.mono _ _ _ hp1 hb15; obtain ⟨c50, c51, c52, c53, c54, c55, c5b, rom5, hv5⟩ := hI.lf hp1 hx1 hb15; obtain ⟨fn', tmps', assign', body', hy', hR'⟩ := hY1 W5 hm5)
            | (refine hR'.mono ?_; rintro e W6 ⟨b, rfl, hJ6, hK6⟩)
        | fail
      all_goals
        have hk6 : ∀ r o, B ≤ r → r ≠ W3.heap.size + 2 + 1 → W'.heap[r]? = some o → zK o → W6.heap[r]? = some o := fun r o h1 h2 h3 h4 =>
          hK6.2 r o h1 ((hb15.block r (by rw [hs1]; exact bZ h3)).trans ((hk1 r h2).trans h3)) h4
        have hs6 : Hid (W3.heap.size + 2 + 1 < W6.heap.size) := Lib.hid (Nat.lt_of_lt_of_le (by omega) (Nat.le_trans hb15.size hK6.1))
        have ho6 : W6.heap[W3.heap.size + 2 + 1]? = some (.loop (rec .busy none)) := hK6.2 _ _ (by omega) ((hb15.block _ (by omega)).trans ho1) (uS _)
        have hxl := hx.lt
        have g1 := hk6 _ _ (by omega) (by omega) hS.d (nP _)
        have g2 := hk6 _ _ hbx (by omega) hS.x (hX (by decide))
        have g3 := hk6 _ _ (by omega) (by omega) hS.c (hX (by decide))
        have g4 := hk6 _ _ (by omega) (by omega) hS.n (hX (by decide))
        replace g1 := Lib.hid g1
        replace g2 := Lib.hid g2
        replace g3 := Lib.hid g3
        replace g4 := Lib.hid g4
        cases b
        · have hp6 := hI.put _ W6 (W3.heap.size + 2 + 1) (.loop (rec .done (some .ret))) _ hJ6 (by omega) ho6 rfl
          have hfin : Gn W3.heap.size rec J (W6.putObj (W3.heap.size + 2 + 1) (.loop (rec .done (some .ret)))) := ⟨hp6, (World.putObj_heap_other (by omega)).trans g1.out, World.putObj_heap_same hs6.out⟩
          gi_wp2
          all_goals first
            | exact ⟨ho6, hfin⟩
            | exact hfin
        · have hp6 := hI.put _ W6 (W3.heap.size + 2 + 1) (.loop (rec .ready none)) _ hJ6 (by omega) ho6 rfl
          have hfin : F8 W3.heap.size bx l (some a) (M * N) cap N rec J (j + 1) (W6.putObj (W3.heap.size + 2 + 1) (.loop (rec .ready none))) := ⟨hp6, (World.putObj_heap_other (by omega)).trans g2.out,
            (World.putObj_heap_other (by omega)).trans g3.out, (World.putObj_heap_other (by omega)).trans g4.out, (World.putObj_heap_other (by omega)).trans g1.out, World.putObj_heap_same hs6.out⟩
          gi_wp2
          all_goals first
            | exact ⟨ho6, hfin⟩
            | exact hfin
    clear hy
    have hlow : Below W3.heap.size W3 ((W4.alloc (.deferred (some []))).alloc (.loop (rec .ready none))) := by
      rw [← hW4]
      refine Below.alloc (Below.alloc (Below.alloc (Below.alloc (Below.refl _ W3) ?_ _) ?_ _) ?_ _) ?_ _
      all_goals simp
      all_goals try omega
    obtain ⟨W0, hW0⟩ : ∃ W0, (W4.alloc (.deferred (some []))).alloc (.loop (rec .ready none)) = W0 := ⟨_, rfl⟩
    rw [hW0] at hlow
    have hat : ∀ r, r < 4 → W0.heap[W3.heap.size + r]? = #[Obj.cells #[.slice p (M * N) cap] 22, .cells #[.int .i64 N] 3, .deferred (some []), .loop (rec .ready none)][r]? := fun r hr => by
      have hh : W0.heap = (((W3.heap.push (.cells #[.slice p (M * N) cap] 22)).push (.cells #[.int .i64 N] 3)).push (.deferred (some []))).push (.loop (rec .ready none)) := by rw [← hW0, ← hW4]; rfl
      rw [hh]
      exact Fc W3.heap _ _ _ _ r
    have hJ0 := hI.mono _ _ _ h1 hlow
    have hS0 : F8 W3.heap.size bx l p (M * N) cap N rec J 0 W0 := ⟨hJ0, (hlow.block bx hx.lt).trans hx, hat 0 (by omega), hat 1 (by omega), hat 2 (by omega), hat 3 (by omega)⟩
    rw [hW0]
    refine (D7 (d + 8) (W3.heap.size + 2 + 1) W3.heap.size (W3.heap.size + 1) p M N cap (by omega) (by have := Nat.mul_le_mul (show M ≤ 512 by omega) (show N ≤ 512 by omega); omega) hcap (fun hM => hp (Nat.mul_pos hM (by omega))) W0
      (CJ W3.heap.size bx l p (M * N) cap N rec J) (fun i W' h => ⟨h.c.trans hS0.c.symm, h.n.trans hS0.n.symm⟩) (CJ.mono hI.mono) (fun j a W' h1 h2 h3 => round j a W' h1 h2 h3) hS0.c hS0.n hS0).mono ?_
    rintro e W' ⟨hv', hS | hS⟩
    · refine ⟨hv', .inl ⟨hS.o, ?_⟩⟩
      have hpe := hI.put _ W' (W3.heap.size + 2 + 1) (.loop (rec .exhausted none)) _ hS.j (by omega) hS.o rfl
      have hxl := hx.lt
      have hde : (W'.putObj (W3.heap.size + 2 + 1) (.loop (rec .exhausted none))).heap[W3.heap.size + 2]? = some (.deferred (some [])) := (World.putObj_heap_other (by omega)).trans hS.d
      have hxe : Boxed (W'.putObj (W3.heap.size + 2 + 1) (.loop (rec .exhausted none))) bx 44 (.func (.yield l) #[] #[]) := (World.putObj_heap_other (by omega)).trans hS.x
      obtain ⟨W7, hW7⟩ : ∃ W7, W'.putObj (W3.heap.size + 2 + 1) (.loop (rec .exhausted none)) = W7 := ⟨_, rfl⟩
      rw [hW7] at hpe hde hxe ⊢
      gi_wp2
      exact uU d l ab bx B k M N ws _ y t J hI hm hbx hY Q [{ target := .collected (W3.heap.size + 2), args := #[] }] W7
        (fun a W8 h2 h3 h4 => hQ a W8 (.inr ⟨W3.heap.size + 2, by omega, h2, h3.2 _ _ (by omega) hde (nP _)⟩) h4) (M + 1) hlen1
        (by rw [hlin, List.getElem?_cons_succ, List.getElem?_append_right (by simp)]; simp) (by rw [Nat.add_comm]; exact hpe) hxe _ _ _ _ _ _ _ _ _ _ _ _ _ _ _ _ _ _ _ _ _ _ _ _ _ _ _ _ _ _ _ _
    · refine ⟨hv', .inr ⟨_, hS.o, ?_⟩⟩
      have hpe := hI.put _ W' (W3.heap.size + 2 + 1) (.loop (rec .exhausted (some .ret))) _ hS.j (by omega) hS.o rfl
      have hde : (W'.putObj (W3.heap.size + 2 + 1) (.loop (rec .exhausted (some .ret)))).heap[W3.heap.size + 2]? = some (.deferred (some [])) := (World.putObj_heap_other (by omega)).trans hS.d
      obtain ⟨W7, hW7⟩ : ∃ W7, W'.putObj (W3.heap.size + 2 + 1) (.loop (rec .exhausted (some .ret))) = W7 := ⟨_, rfl⟩
      rw [hW7] at hpe hde ⊢
      gi_wp2
      exact (hQ _ W7 (.inr ⟨W3.heap.size + 2, by omega, rfl, hde⟩) (.inr hpe)).2
set_option maxHeartbeats 4000000 in
theorem D9 (d l ab B : Nat) (k m n : Int) (ws : List Int) (vw : Value) (y t : Int) (J : Option Nat → World → Prop) (hI : CC B ab k m n ws vw y t J)
    (hY : ∀ d' j x W', (cZ k m n ws y t)[j]? = some x → J (some j) W' → YieldAt Fence.wide (d' + 4) prog l #[.string x] W' (fun e W'' => ∃ b : Bool, e = .returned (.bool b) ∧ J (bif b then some (j + 1) else none) W'' ∧ rb B W' W''))
    (W : World) (hB : B = W.heap.size) (h0 : J (some 0) W) :
    CallsIn Fence.wide (d + 10) prog 58 #[.func (.yield l) #[] #[], .pointer (some ⟨ab, 0, none⟩)] W (fun e W' => (∃ v, e = .returned v) ∧ (J (some (cZ k m n ws y t).length) W' ∨ J none W')) := by
  refine callsIn_of_wp_marks Tryd.func58 rfl trivial ?_ rfl
  simp only [Tryd.ntmps58, List.size_toArray, List.length_cons, List.length_nil, Nat.reduceAdd, Nat.reduceSub, Array.replicate_succ, Array.replicate_zero, List.push_toArray, List.append_toArray, List.nil_append, List.cons_append]
  obtain ⟨W0, hW0⟩ : ∃ W0, W.alloc (.cells #[.func (.yield l) #[] #[]] 44) = W0 := ⟨_, rfl⟩
  have hs0 : W0.heap.size = W.heap.size + 1 := by rw [← hW0]; simp
  have hb0 : Below W.heap.size W W0 := by rw [← hW0]; exact (Below.refl _ _).alloc (Nat.le_refl _) _
  have hx0 : Boxed W0 W.heap.size 44 (.func (.yield l) #[] #[]) := by rw [← hW0]; exact Boxed.new _ _ _
  have hJ0 := hI.mono _ _ _ h0 hb0
  obtain ⟨c0, c1, c2, c3, c4, c5, cb, rom, hv⟩ := hI.lf hJ0 hx0 (Below.refl _ W0).drew
  have ag := qe
  have sz := m9
  have hmay := xk k m n ws vw y t _ rom hv
  cases hm : q8 k m n ws.length y t with
  | false =>
    have hlin : cZ k m n ws y t = [] := by simp [cZ, hm]
    rw [hlin] at hY ⊢
    rw [hm] at hmay
    gi_wp2
    first
      | gi_region_with first
          | (refine ⟨trivial, ?_⟩; gi_at_call 41; refine (callsIn_wide.2 hmay).mono ?_; rintro e W1 ⟨rfl, hb1⟩)
          | (refine (⟨trivial, ?_⟩ : Fence.wide.fn 59 ∧ _))
          | (refine (⟨by simp, ?_⟩ : (∀ (f : FuncId), none = some f → Fence.wide.fn f) ∧ _))
      | fail
    all_goals gi_wp2
    all_goals exact ⟨_, results_none rfl _ _ _, ⟨_, rfl⟩, .inl (hI.mono _ _ _ hJ0 ((Below.refl _ W0).drew.trans hb1))⟩
  | true =>
    rw [hm] at hmay
    obtain ⟨hm0, hm5, hn0, hn5, hlen, hy0, hy3⟩ := jP hm
    have km : iS .i64 m = true := bt.2 (by omega)
    have kn : iS .i64 n = true := bt.2 (by omega)
    have hl1 : (cZ k m n ws y t)[0]? = some (qd m n) := by rw [cZ, hm]; rfl
    have hY1 := fun W' h => hY (d + 5) 0 _ W' hl1 h
    change Code.wpIn _ _ _ (.seq _ (.seq _ uT)) _ _ _
    gi_wp2
    first
      | gi_region_with first
          | (refine ⟨trivial, ?_⟩; gi_at_call 41; refine (callsIn_wide.2 hmay).mono ?_; rintro e W1 ⟨rfl, hb1⟩; have hb01 := (Below.refl _ W0).drew.trans hb1; obtain ⟨c10, c11, c12, c13, c14, c15, c1b, rom1, hv1⟩ := hI.lf hJ0 hx0 hb01; have hhead := AW m n km kn _ rom1)
          | (refine ⟨trivial, ?_⟩; gi_at_call 59; refine (callsIn_wide.2 hhead).mono ?_; rintro e W2 ⟨rfl, hb2⟩; have hb02 := hb01.trans (hb2.mono (show W0.heap.size ≤ W1.heap.size from hb01.size)); have hJ2 := hI.mono _ _ _ hJ0 hb02; obtain ⟨c20, c21, c22, c23, c24, c25, c2b, rom2, hv2⟩ := hI.lf hJ0 hx0 hb02; obtain ⟨fn', tmps', assign', body', hy', hR'⟩ := hY1 W2 hJ2)
          | (refine hR'.mono ?_; rintro e W3 ⟨b, rfl, hJ3, hK3⟩)
      | fail
    all_goals
      cases b
      · gi_wp2
        exact ⟨_, results_none rfl _ _ _, ⟨_, rfl⟩, .inr hJ3⟩
      · gi_wp2
        have hx3 : Boxed W3 W.heap.size 44 (.func (.yield l) #[] #[]) := hK3.2 _ _ (by omega) ((hb02.block _ hx0.lt).trans hx0) (hX (by decide))
        refine AX d l ab W.heap.size B k m n ws vw y t J hI hm (by omega) hY _ W3 (fun a W' h1 h2 => ?_) hJ3 hx3 _ _ _ _ _ _ _ _ _ _ _ _ _ _ _ _ _ _ _ _ _ _ _ _ _ _ _ _ _ _ _ _
        have key : LeavesInM Fence.wide (d + 10) prog Tryd.f58 a.tmps (fun e W' => (∃ v, e = .returned v) ∧ (J (some (cZ k m n ws y t).length) W' ∨ J none W')) a.defers .returning W' := by
          rcases h1 with h1 | ⟨D, h3, h1, h4⟩
          · rw [h1]
            exact ⟨_, results_none rfl _ _ _, ⟨_, rfl⟩, h2⟩
          · rw [h1]
            refine ⟨by simp, .inl ⟨_, _, rfl, run_takeDeferred h4, ?_⟩⟩
            refine ⟨_, results_none rfl _ _ _, ⟨_, rfl⟩, ?_⟩
            rcases h2 with h2 | h2
            · exact .inl (hI.put _ _ _ _ _ h2 h3 h4 rfl)
            · exact .inr (hI.put _ _ _ _ _ h2 h3 h4 rfl)
        exact ⟨key, key⟩
structure sk where
  k:Int
  m:Int
  n:Int
  ws:List Int
  y:Int
  t:Int
def sk.may(a:sk) :Bool:=q8 a.k a.m a.n a.ws.length a.y a.t
def sk.lines(a:sk) :List ByteArray:=cZ a.k a.m a.n a.ws a.y a.t
def FD(s:ByteArray) :List UInt8:=s.data.toList++[10]
def pc(l:List ByteArray) :List UInt8:=(l.map FD).flatten
def ed(l:List sk) :List UInt8:=(l.map fun a=>pc a.lines).flatten
def sm(l:List sk) :ByteArray:=if l.any (fun a=>!a.may)=true then ByteArray.empty else if 64<l.length then ByteArray.empty else if 8388608<(ed l).length then ByteArray.empty else ⟨(ed l).toArray⟩
def sn(l:List sk) :Int:=if l.any (fun a=>!a.may)=true then 2 else if 64<l.length then 3 else if 8388608<(ed l).length then 3 else 0
structure BN (W:World) (bl o:Nat) (a:sk) (vw:Value):Prop where
  c0:W.cell? ⟨bl,o,none⟩=some (.int .i64 a.k)
  c1:W.cell? ⟨bl,o+1,none⟩=some (.int .i64 a.m)
  c2:W.cell? ⟨bl,o+2,none⟩=some (.int .i64 a.n)
  c3:W.cell? ⟨bl,o+3,none⟩=some vw
  c4:W.cell? ⟨bl,o+4,none⟩=some (.int .i64 a.y)
  c5:W.cell? ⟨bl,o+5,none⟩=some (.int .u64 a.t)
  v:VR aa.none_ W (eH a.ws) vw
  lt:bl<W.heap.size
abbrev sk.V(a:sk)(vw:Value) :Array Value:=AT a.k a.m a.n vw a.y a.t
theorem BN.below{W W':World}{bl o:Nat}{a:sk}{vw:Value}(h:BN W bl o a vw)(hb:Below W.heap.size W W') :BN W' bl o a vw:=by
  have e:∀ j,W'.cell? ⟨bl,j,none⟩=W.cell? ⟨bl,j,none⟩:=fun j=>hb.cell (p:=⟨bl,j,none⟩) h.lt
  exact ⟨(e _).trans h.c0,(e _).trans h.c1,(e _).trans h.c2,(e _).trans h.c3,(e _).trans h.c4,(e _).trans h.c5,h.v.mono (eK.refl _ _) (kv hb),Nat.lt_of_lt_of_le h.lt hb.size⟩
def pd(W:World)(bl o:Nat)(l:List sk) :Prop:=∀ i a,l[i]? = some a→∃ vw,BN W bl (o+i*6) a vw
theorem pd.below{W W':World}{bl o:Nat}{l:List sk}(h:pd W bl o l)(hb:Below W.heap.size W W') :pd W' bl o l:=fun i a hi=>(h i a hi).imp fun _ q=>q.below hb
set_option maxHeartbeats 2000000 in
theorem yx (a : sk) (vw : Value) (w : World) (hR : dE w) (hv : VR aa.none_ w (eH a.ws) vw) : Calls prog 40 #[.agg (a.V vw)] w fun e w' => e = .returned (.bool (!a.may)) ∧ Below w.heap.size w w' := by
  have hb : Below w.heap.size w (w.alloc (.cells (a.V vw) 37)) := (Below.refl _ w).alloc (Nat.le_refl _) _
  have hmay := xk a.k a.m a.n a.ws vw a.y a.t (w.alloc (.cells (a.V vw) 37)) (hR.below hb (Nat.le_refl _)) (hv.mono (eK.refl _ _) (kv hb))
  have ag := qe
  have sz := m9
  go_enter Tryd.func40, Tryd.ntmps40
  go_wp2_with (go_at_call 41; refine hmay.mono ?_; rintro e w' ⟨rfl, hb1⟩)
  go_ret
  exact ⟨rfl, hb.trans (hb1.mono (by simp))⟩
theorem na{F:Fence}{n:Nat}{P:Program}{fn:Func}{tmps:Array Value}{R:Ending→World→Prop}{v:Value}(n0:Nat)(hr:∀ W,(results fn tmps).run P W=.ok v W)(Pw:World→Prop) 
    (hP:∀ W D,n0≤D→Pw W→Pw (W.putObj D (.deferred none))) (hR:∀ W,Pw W→R (.returned v) W):∀ (Ds:List Nat) (W:World),Ds.Nodup→(∀ D∈Ds,n0≤D∧W.heap[D]? = some (.deferred (some [])))→Pw W →
      LeavesInM F n P fn tmps R (Ds.map fun D=>({ target:=.collected D,args:=#[] }:Deferred)) .returning W
  | [],W,_,_,h=>⟨_,hr W,hR W h⟩
  | D::Ds,W,hn,hD,h=>by
    have h1:=hD D (List.mem_cons_self ..)
    obtain ⟨hn1,hn2⟩:=List.nodup_cons.1 hn
    refine ⟨by simp,.inl ⟨_,_,rfl,run_takeDeferred h1.2,?_⟩⟩
    refine na n0 hr Pw hP hR Ds _ hn2 (fun D' h'=>?_) (hP W D h1.1 h)
    have h2:=hD D' (List.mem_cons_of_mem _ h')
    exact ⟨h2.1,(World.putObj_heap_other (fun e=>hn1 (by rw [←e];exact h'))).trans h2.2⟩
set_option maxHeartbeats 2000000 in
theorem CE (bl o cap : Nat) (l : List sk) (hl : l.length ≤ 1000000000) (w : World) (hR : dE w) (hA : pd w bl o l) (p : Option Addr) (hp : 1 ≤ l.length → p = some ⟨bl, o, none⟩) :
    Calls prog 56 #[.slice p l.length cap, .func (.func 40) #[] #[]] w fun e w' => (∃ r : Int, e = .returned (.int .i64 r) ∧ (0 ≤ r ↔ l.any (fun a => !a.may) = true)) ∧ Below w.heap.size w w' := by
  have ag := qe
  have sz := m9
  go_enter Tryd.func56, Tryd.ntmps56
  go_wp2
  go_loopw [8] (fun t W => ∃ i : Nat, t = .int .i64 i ∧ i ≤ l.length ∧ (l.take i).any (fun a => !a.may) = false ∧ Below w.heap.size w W) (fun t _ => l.length - (intOf t).toNat)
  case atStart => exact ⟨0, rfl, Nat.zero_le _, rfl, Below.refl _ _⟩
  case round =>
    obtain ⟨i, rfl, hi, hany, hb⟩ := hrel
    by_cases hlt : i < l.length
    · obtain ⟨a, ha⟩ : ∃ a, l[i]? = some a := ⟨_, List.getElem?_eq_getElem hlt⟩
      have hA' := hA.below hb
      obtain ⟨vw, hk⟩ := hA' i a ha
      obtain ⟨c0, c1, c2, c3, c4, c5, hv, hbl⟩ := hk
      have hcall := yx a vw wr (hR.below hb (Nat.le_refl _)) hv
      have hpp := hp (by omega)
      subst hpp
      go_wp2_with (go_at_call 40; refine hcall.mono ?_; rintro e w' ⟨rfl, hb1⟩)
      · go_ret
        have h1 : (!a.may) = true := by assumption
        exact ⟨⟨i, rfl, fun _ => List.any_eq_true.2 ⟨a, List.mem_of_getElem? ha, h1⟩, fun _ => Int.natCast_nonneg _⟩, hb.trans (hb1.mono hb.size)⟩
      · have h1 : (!a.may) = false := by assumption
        refine ⟨⟨i + 1, by go_num, by omega, ?_, hb.trans (hb1.mono hb.size)⟩, by simp [intOf]; omega⟩
        rw [List.take_add_one, ha, List.any_append, hany]
        simpa using h1
    · have he : i = l.length := by omega
      rw [he, List.take_length] at hany
      go_wp2
      go_ret
      exact ⟨⟨-1, rfl, fun h => absurd h (by decide), fun h => by rw [hany] at h; cases h⟩, hb⟩
theorem uV(bl o cap:Nat)(l:List sk)(hl:l.length≤1000000000)(w:World)(hR:dE w)(hA:pd w bl o l)(p:Option Addr)(hp:1≤l.length→p=some ⟨bl,o,none⟩) :
    Calls prog 39 #[.slice p l.length cap,.func (.func 40) #[] #[]] w fun e w'=>e=.returned (.bool (l.any fun a=>!a.may))∧Below w.heap.size w w':=by
  have h:=CE bl o cap l hl w hR hA p hp
  go_enter Tryd.func39,Tryd.ntmps39
  go_wp2_with (go_at_call 56;refine h.mono ?_;rintro e w' ⟨⟨r,rfl,hr⟩,hb⟩;replace hr:=Lib.hid hr)
  go_ret
  replace hr:=hr.out
  refine ⟨?_,hb⟩
  show Ending.returned (Value.bool (decide (r≥0)))=_
  cases hq:l.any (fun a=>!a.may) with
  | true=>rw [decide_eq_true (show r≥0 from hr.2 hq)]
  | false =>
    have : ¬ r≥0:=fun c=>by rw [hr.1 c] at hq;cases hq
    rw [decide_eq_false this]
theorem CF(ws:List Int) :(uO ws).size≤17*ws.length:=by
  have:=ra (ws.map aN)
  rw [uO,uP]
  have e:((ws.map aN).map fun s=>s.size+1).sum=17*ws.length:=by
    clear this
    induction ws with
    | nil=>rfl
    | cons x l ih=>simp only [List.map_cons,List.sum_cons,List.length_cons,jo] at ih ⊢;omega
  omega
theorem uW(m n:Int) :(qd m n).size≤50:=by
  have h1:=fg m
  have h2:=fg n
  have e1:(ByteArray.mk #[109,97,116,114,105,120,32]).size=7:=rfl
  have e2:pn.size=1:=rfl
  unfold qd
  simp only [ByteArray.size_append,e1,e2]
  omega
theorem uX(k y t:Int) :(eU k y t).size≤46:=by
  have hw:=zI k
  have h1:=fg y
  have h2:=jo t
  have e3:pn.size=1:=rfl
  unfold eU
  cases decide (((iZ k).2.2.1:Int)>0)<;>cases (iZ k).2.2.2.1<;>simp only [cond_true,cond_false,ByteArray.size_append,e3]<;>omega
theorem uY{a:sk}(h:a.may=true) :a.lines.length≤514∧∀ x∈a.lines,x.size≤9000:=by
  obtain ⟨h1,h2,h3,h4,h5,_⟩:=jP h
  unfold sk.lines cZ
  rw [show q8 a.k a.m a.n a.ws.length a.y a.t=true from h]
  simp only [cond_true]
  cases hd:decide (a.n>0) with
  | false =>
    refine ⟨by simp,fun x hx=>?_⟩
    simp only [cond_false,List.nil_append,List.mem_cons,List.not_mem_nil,or_false] at hx
    rcases hx with rfl | rfl
    · have:=uW a.m a.n;omega
    · have:=uX a.k a.y a.t;omega
  | true =>
    refine ⟨by simp;omega,fun x hx=>?_⟩
    simp only [cond_true,List.mem_cons,List.mem_append,List.mem_map,List.not_mem_nil,or_false] at hx
    rcases hx with rfl | ⟨i,_,rfl⟩ | rfl
    · have:=uW a.m a.n;omega
    · have h9:=CF ((a.ws.drop (i*a.n.toNat)).take a.n.toNat)
      have:=List.length_take_le a.n.toNat (a.ws.drop (i*a.n.toNat))
      omega
    · have:=uX a.k a.y a.t;omega
theorem zL{L:List ByteArray}(h:∀ x∈L,x.size≤9000) :(pc L).length≤L.length*9001:=by
  induction L with
  | nil=>simp [pc]
  | cons x L ih =>
    have h1:=h x (List.mem_cons_self ..)
    have h2:=ih fun y hy=>h y (List.mem_cons_of_mem _ hy)
    have h3:(FD x).length=x.size+1:=by simp [FD]
    unfold pc at h2 ⊢
    simp only [List.map_cons,List.flatten_cons,List.length_append,List.length_cons,h3]
    omega
theorem CG{l:List sk}(hm:∀ a∈l,a.may=true) :(ed l).length≤l.length*5000000:=by
  induction l with
  | nil=>simp [ed]
  | cons a l ih =>
    have h1:=uY (hm a (List.mem_cons_self ..))
    have h2:=ih fun y hy=>hm y (List.mem_cons_of_mem _ hy)
    have h3:=zL h1.2
    unfold ed at h2 ⊢
    simp only [List.map_cons,List.flatten_cons,List.length_append,List.length_cons]
    omega
theorem CH(L:List ByteArray)(x:ByteArray) :pc (L++[x])=pc L++FD x:=by simp [pc]
theorem AY(L:List sk)(a:sk) :ed (L++[a])=ed L++pc a.lines:=by simp [ed]
theorem rc(x y:List UInt8) :Lib.byteCells (x++y)=Lib.byteCells x++Lib.byteCells y:=by simp [Lib.byteCells]
theorem zM(a:sk)(vw:Value)(w:World) :Calls prog 42 #[.agg (a.V vw)] w fun e w'=>e=.returned (.func (.func 58) #[] #[.pointer (some ⟨w.heap.size,0,none⟩)])∧w'=w.alloc (.cells (a.V vw) 37):=by
  have hmf:∀ (fn:Fn) (first cap:Array Value) (w:World),(Instr.makeFunc fn first cap).run prog w=.ok (.func fn first cap) w:=fun _ _ _ _=>rfl
  go_enter Tryd.func42,Tryd.ntmps42
  go_wp2
  go_ret
  exact ⟨rfl,rfl⟩
theorem lG{T e:TypeId}{B b:Nat}{bs:List Value}{W W':World}(h:Lib.IsBuilderF T e B b bs W)(hk:∀ (k:Nat) (c:Array Value) (t:TypeId) (fz:Nat×Nat),W.heap[k]? = some (Obj.cells c t fz)→W'.heap[k]? = some (Obj.cells c t fz)) :Lib.IsBuilderF T e B b bs W':=by
  have key:∀ p,Lib.BuilderAtF T e B b p bs W→Lib.BuilderAtF T e B b p bs W':=by
    rintro p ⟨h1,v,h2,h3,h4⟩
    refine ⟨h1,v,hk _ _ _ _ h2,⟨h3.1,?_⟩,h4⟩
    rcases h3.2 with q | ⟨g,cap,cur,fz,q1,q2,q3,q4⟩
    · exact .inl q
    · exact .inr ⟨g,cap,cur,fz,q1,q2,hk _ _ _ _ q3,q4⟩
  exact h.imp (key _) (key _)
theorem pf{T e:TypeId}{B b:Nat}{bs:List Value}{W:World}(h:Lib.IsBuilderF T e B b bs W) :b<W.heap.size:=by
  rcases h with ⟨_,v,h,_⟩ | ⟨_,v,h,_⟩
  · exact bZ h
  · exact bZ h
theorem zN(W:World) :Lib.IsBuilderF 74 5 W.heap.size W.heap.size (Lib.byteCells []) (W.alloc (.cells #[.pointer none,.slice none 0 0] 74)):=by
  refine .inl ⟨Nat.le_refl _,.slice none 0 0,World.alloc_heap_new W _,⟨rfl,.inl ⟨rfl,rfl⟩⟩,by simp [Value.ownBlock]⟩
abbrev Ea(D:Nat) :Deferred:={ target:=.collected D,args:=#[] }
theorem qf(B b:Nat)(bs:List Value)(s:ByteArray)(w:World)(h:Lib.IsBuilderF 74 5 B b bs w)(hlen:bs.length+s.size≤140737488355328)(hBw:B≤w.heap.size) :
    Calls Tryd.prog 43 #[.pointer (some ⟨b,0,none⟩),.string s] w fun e w'=>e=.returned (.tuple #[.int .i64 s.size,.nilIface])∧(Lib.BuilderAtF 74 5 B b (.pointer (some ⟨b,0,none⟩)) (bs++Lib.strCells s) w'∧Below B w w'∧Lib.OthersKept 5 (some b) w w') :=
  Any.Builder_WriteString_k { ly with } dr B b bs s w h hlen hBw
structure TJ (w:World) (bb ab L:Nat) (cs:Array Value) (Ds:List Nat) (obj:Obj) (pre:List UInt8) (W:World):Prop where
  b:Lib.IsBuilderF 74 5 bb bb (Lib.byteCells pre) W
  a:W.heap[ab]? = some (.cells cs 37 (0,0))
  low:Below w.heap.size w W
  ds:∀ D∈Ds,W.heap[D]? = some (.deferred (some []))
  o:W.heap[L]? = some obj
def GD(w:World)(bb ab L:Nat)(cs:Array Value)(Ds:List Nat)(obj:Obj)(pre:List UInt8)(lines:List ByteArray) :Option Nat→World→Prop
  | some j,W=>TJ w bb ab L cs Ds obj (pre++pc (lines.take j)) W
  | none,_=>False
theorem TJ.below{w:World}{bb ab L:Nat}{cs:Array Value}{Ds:List Nat}{obj:Obj}{pre:List UInt8}{W W':World}(h:TJ w bb ab L cs Ds obj pre W)(hb:Below W.heap.size W W') :TJ w bb ab L cs Ds obj pre W' :=
  ⟨lG h.b fun k c t fz q=>(hb.block k (bZ q)).trans q,(hb.block _ (bZ h.a)).trans h.a,h.low.trans (hb.mono h.low.size),fun D hD=>(hb.block _ (bZ (h.ds D hD))).trans (h.ds D hD),(hb.block _ (bZ h.o)).trans h.o⟩
theorem TJ.put{w:World}{bb ab L:Nat}{cs:Array Value}{Ds:List Nat}{obj obj':Obj}{pre:List UInt8}{W:World}(h:TJ w bb ab L cs Ds obj pre W)(r:Nat)(ob o':Obj)(hw:w.heap.size≤r)(ho:W.heap[r]? = some o')(hc:o'.isCells=false)(hD:∀ D∈Ds,r≠D) 
    (hL:(r≠L∧obj'=obj)∨(r=L∧obj'=ob)):TJ w bb ab L cs Ds obj' pre (W.putObj r ob):=by
  have nc:∀ k c t fz,W.heap[k]? = some (.cells c t fz)→k≠r:=fun k c t fz q e=>by
    rw [e,ho] at q;cases q;cases hc
  refine ⟨lG h.b fun k c t fz q=>(World.putObj_heap_other (nc k c t fz q)).trans q,(World.putObj_heap_other (nc _ _ _ _ h.a)).trans h.a,en h.low hw _,fun D q=>(World.putObj_heap_other (fun e=>hD D q e.symm)).trans (h.ds D q),?_⟩
  rcases hL with ⟨h1,rfl⟩ | ⟨rfl,rfl⟩
  · exact (World.putObj_heap_other (fun e=>h1 e.symm)).trans h.o
  · exact World.putObj_heap_same (bZ ho)
def F9(w:World)(bb:Nat)(p:Option Addr)(cap:Nat)(l:List sk)(a:Act)(W:World) :Prop :=
  ∃ (i:Nat) (Ds:List Nat) (u6 u7 u12 u16 u17 u18 u19 u20 u21 u22 u23 u24 u25:Value),a = { tmps:=#[.slice p l.length cap,undef,.string ⟨#[]⟩,.int .i64 0,.pointer (some ⟨bb,0,none⟩),undef,u6,u7,.slice p l.length cap,.bool false,.slice p l.length cap,.int .i64 l.length,u12,.slice p l.length cap,.int .i64 l.length,.int .i64 i,u16,u17,u18,u19,u20,u21,u22,u23,u24,u25,undef,undef,undef],defers:=Ds.map Ea }∧i≤l.length∧Lib.IsBuilderF 74 5 bb bb (Lib.byteCells (ed (l.take i))) W∧Below w.heap.size w W∧Ds.Nodup ∧
    ∀ D∈Ds,w.heap.size≤D∧W.heap[D]? = some (.deferred (some []))
set_option maxHeartbeats 4000000 in
theorem zO (bl o cap : Nat) (l : List sk) (hl : l.length ≤ 1000000000) (w : World) (hR : dE w) (hA : pd w bl o l) (p : Option Addr) (hp : 1 ≤ l.length → p = some ⟨bl, o, none⟩) :
    Calls prog gL #[.slice p l.length cap] w fun e w' => e = .returned (.tuple #[.string (sm l), .int .i64 (sn l)]) ∧ Below w.heap.size w w' := by
  have hany := uV bl o cap l hl w hR hA p hp
  refine (callsIn_wide (n := 20)).1 (callsIn_of_wp_marks Tryd.func19 rfl trivial ?_)
  simp only [Tryd.ntmps19, List.size_toArray, List.length_cons, List.length_nil, Nat.reduceAdd, Nat.reduceSub, Array.replicate_succ, Array.replicate_zero, List.push_toArray, List.append_toArray, List.nil_append, List.cons_append]
  cases ha : l.any (fun a => !a.may) with
  | true =>
    have e1 : sm l = ByteArray.empty ∧ sn l = 2 := ⟨if_pos ha, if_pos ha⟩
    rw [ha] at hany
    rw [e1.1, e1.2]
    gi_wp2_with (refine ⟨trivial, ?_⟩; gi_at_call 39; refine (callsIn_wide.2 hany).mono ?_; rintro e w' ⟨rfl, hb⟩)
    exact ⟨_, results_tmp2 rfl _ _ _, rfl, hb⟩
  | false =>
    have hf : ¬ l.any (fun a => !a.may) = true := by rw [ha]; decide
    rw [ha] at hany
    by_cases h64 : 64 < l.length
    · have e1 : sm l = ByteArray.empty ∧ sn l = 3 := by unfold sm sn; rw [if_neg hf, if_neg hf, if_pos h64, if_pos h64]; exact ⟨rfl, rfl⟩
      rw [e1.1, e1.2]
      gi_wp2_with (refine ⟨trivial, ?_⟩; gi_at_call 39; refine (callsIn_wide.2 hany).mono ?_; rintro e w' ⟨rfl, hb⟩)
      exact ⟨_, results_tmp2 rfl _ _ _, rfl, hb⟩
    · have e1 : sm l = (if 8388608 < (ed l).length then ByteArray.empty else ⟨(ed l).toArray⟩) ∧ sn l = (if 8388608 < (ed l).length then 3 else 0) := by unfold sm sn; rw [if_neg hf, if_neg hf, if_neg h64, if_neg h64]; exact ⟨rfl, rfl⟩
      rw [e1.1, e1.2]
      clear hf e1
      gi_wp2_with (refine ⟨trivial, ?_⟩; gi_at_call 39; refine (callsIn_wide.2 hany).mono ?_; rintro e w1 ⟨rfl, hb⟩)
      have hbn := zN w1
      have hbw : Below w.heap.size w (w1.alloc (.cells #[.pointer none, .slice none 0 0] 74)) := hb.alloc hb.size _
      have hwb : w.heap.size ≤ w1.heap.size := hb.size
      obtain ⟨W1, hW1⟩ : ∃ W1, w1.alloc (.cells #[.pointer none, .slice none 0 0] 74) = W1 := ⟨_, rfl⟩
      obtain ⟨bb, hbb⟩ : ∃ bb, w1.heap.size = bb := ⟨_, rfl⟩
      have hs1 : W1.heap.size = bb + 1 := by rw [← hW1, ← hbb]; simp
      rw [hW1, hbb] at hbn ⊢
      rw [hW1] at hbw
      rw [hbb] at hwb
      clear hW1 hbb hb hany
      refine wpIn_loop (F9 w bb p cap l) (fun a _ => l.length - (intOf (a.tmps.getD 15 undef)).toNat) ⟨0, [], _, _, _, _, _, _, _, _, _, _, _, _, _, rfl, Nat.zero_le _, hbn, hbw, List.nodup_nil, by simp⟩ ?_
      rintro a W ⟨i, Ds, u6, u7, u12, u16, u17, u18, u19, u20, u21, u22, u23, u24, u25, rfl, hi, hbld, hlow, sf, hds⟩
      by_cases hlt : i < l.length
      · obtain ⟨a, hai⟩ : ∃ a, l[i]? = some a := ⟨_, List.getElem?_eq_getElem hlt⟩
        obtain ⟨vw, hk0⟩ := hA i a hai
        have hk := hk0.below (hlow.mono (Nat.le_refl _))
        have hv0 := hk0.v
        obtain ⟨c0, c1, c2, c3, c4, c5, hv, hbl⟩ := hk
        have hpp := hp (by omega)
        subst hpp
        obtain ⟨pw, cw, rfl, hcw, hpw⟩ := xl hv
        have ag := qe
        have sz := m9
        gi_wp2_with (refine ⟨trivial, ?_⟩; gi_at_call 42; refine (callsIn_wide.2 (zM a (.slice pw a.ws.length cw) _)).mono ?_; rintro e w' ⟨rfl, rfl⟩)
        have hin : a ∈ l := List.mem_of_getElem? hai
        have hmay : ∀ b ∈ l, b.may = true := fun b hb => by
          have := List.any_eq_false.1 ha b hb
          simpa using this
        have hsz := uY (hmay a hin)
        have hpre : (ed (l.take i)).length ≤ 64 * 5000000 := by
          have := CG (l := l.take i) fun b hb => hmay b (List.mem_of_mem_take hb)
          have h2 : (l.take i).length ≤ 64 := by rw [List.length_take]; omega
          exact Nat.le_trans this (Nat.mul_le_mul_right _ h2)
        obtain ⟨W2, hW2⟩ : ∃ W2, (W.alloc (.cells (a.V (.slice pw a.ws.length cw)) 37)).alloc (.cells (a.V (.slice pw a.ws.length cw)) 37) = W2 := ⟨_, rfl⟩
        rw [hW2]
        have hs2 : W2.heap.size = W.heap.size + 2 := by rw [← hW2]; simp
        refine pa (gf := 58) (m := 19) rfl (enters_of Tryd.func58 (by kernel_rfl) rfl) fun fn rec hrec hy => ?_
        rw [hs2] at hy ⊢
        have hWb : bb < W.heap.size := pf hbld
        obtain ⟨W0, hW0⟩ : ∃ W0, (W2.alloc (.deferred (some []))).alloc (.loop (rec .ready none)) = W0 := ⟨_, rfl⟩
        have hs0 : W0.heap.size = W.heap.size + 4 := by rw [← hW0]; simp [hs2]
        have hlow0 : Below W.heap.size W W0 := by
          rw [← hW0, ← hW2]
          refine Below.alloc (Below.alloc (Below.alloc (Below.alloc (Below.refl _ W) ?_ _) ?_ _) ?_ _) ?_ _
          all_goals simp
          all_goals try omega
        have hat : ∀ r, W0.heap[W.heap.size + r]? = #[Obj.cells (a.V (.slice pw a.ws.length cw)) 37, .cells (a.V (.slice pw a.ws.length cw)) 37, .deferred (some []), .loop (rec .ready none)][r]? := fun r => by
          rw [← hW0, ← hW2]
          exact Fc W.heap _ _ _ _ r
        obtain ⟨T, hT⟩ : ∃ T, GD w bb (W.heap.size + 1) (W.heap.size + 2 + 1) (a.V (.slice pw a.ws.length cw)) ((W.heap.size + 2) :: Ds) (.loop (rec .ready none)) (ed (l.take i)) a.lines = T := ⟨_, rfl⟩
        have hI : CC W0.heap.size (W.heap.size + 1) a.k a.m a.n a.ws (.slice pw a.ws.length cw) a.y a.t T := by
          rw [← hT]
          refine ⟨fun j V h => ⟨h.a, hR.below h.low (Nat.le_refl _), hv0.mono (eK.refl _ _) (kv h.low)⟩, fun j V V' h hb => ?_, fun j V r ob o' h h1 h2 h3 => ?_⟩
          · cases j with
            | none => exact h
            | some j => exact TJ.below h hb
          · cases j with
            | none => exact h
            | some j =>
              refine TJ.put h r ob o' (by have := hlow.size; omega) h2 h3 (fun D hD => ?_) (.inl ⟨by omega, rfl⟩)
              rcases List.mem_cons.1 hD with rfl | hD
              · omega
              · have := bZ (hds D hD).2
                omega
        have h0 : T (some 0) W0 := by
          rw [← hT]
          refine ⟨?_, hat 1, hlow.trans (hlow0.mono hlow.size), fun D hD => ?_, hat 3⟩
          · rw [List.take_zero, show ed (l.take i) ++ pc [] = ed (l.take i) by simp [pc]]
            exact lG hbld fun k c t fz q => (hlow0.block k (bZ q)).trans q
          · rcases List.mem_cons.1 hD with rfl | hD
            · exact hat 2
            · exact (hlow0.block _ (bZ (hds D hD).2)).trans (hds D hD).2
        have hY : ∀ d' j x W', a.lines[j]? = some x → T (some j) W' → YieldAt Fence.wide (d' + 4) prog (W.heap.size + 2 + 1) #[.string x] W' (fun e W'' => ∃ b : Bool, e = .returned (.bool b) ∧ T (bif b then some (j + 1) else none) W'' ∧ rb W0.heap.size W' W'') := by
          intro d' j x W' hx hS
          rw [← hT] at hS ⊢
          refine hy (d' + 4) _ W' _ hS.o rfl ?_
          clear hy
          have hxm := hsz.2 x (List.mem_of_getElem? hx)
          have hpl : (ed (l.take i) ++ pc (a.lines.take j)).length ≤ 140737488355328 - 20000 := by
            have h1 := zL (L := a.lines.take j) fun y hy => hsz.2 y (List.mem_of_mem_take hy)
            have h2 := List.length_take_le j a.lines
            have h3 : (a.lines.take j).length ≤ 514 := by rw [List.length_take]; omega
            have h4 := Nat.mul_le_mul_right 9001 h3
            rw [List.length_append]
            omega
          gi_wp2
          refine ⟨hS.o, ?_⟩
          have hSb := TJ.put (obj' := .loop (rec .busy none)) hS (W.heap.size + 2 + 1) (.loop (rec .busy none)) _ (by have := hlow.size; omega) hS.o rfl (fun D hD => by
            rcases List.mem_cons.1 hD with rfl | hD
            · omega
            · have := bZ (hds D hD).2
              omega) (.inr ⟨rfl, rfl⟩)
          have hlt := bZ hS.o
          obtain ⟨V1, hV1⟩ : ∃ V1, W'.putObj (W.heap.size + 2 + 1) (.loop (rec .busy none)) = V1 := ⟨_, rfl⟩
          have hs1 : V1.heap.size = W'.heap.size := by rw [← hV1]; simp
          have hk1 : ∀ r, r ≠ W.heap.size + 2 + 1 → V1.heap[r]? = W'.heap[r]? := fun r hr => by rw [← hV1]; exact World.putObj_heap_other hr
          rw [hV1] at hSb ⊢
          have hWS := qf bb bb (Lib.byteCells (ed (l.take i) ++ pc (a.lines.take j))) (x ++ ⟨#[10]⟩) V1 hSb.b
            (by rw [Lib.byteCells_length, ByteArray.size_append]; have : (ByteArray.mk #[10]).size = 1 := rfl; omega) (by have := pf hSb.b; omega)
          gi_wp2_with (refine ⟨trivial, ?_⟩; gi_at_call 43; refine (callsIn_wide.2 hWS).mono ?_; rintro e W6 ⟨rfl, hb6, hlow6, hot6⟩)
          have hnb : ∀ r, bb < r → some r ≠ some bb := fun r h e => by cases e; omega
          have hj : a.lines.take (j + 1) = a.lines.take j ++ [x] := by rw [List.take_add_one, hx]; rfl
          have hS6 : TJ w bb (W.heap.size + 1) (W.heap.size + 2 + 1) (a.V (.slice pw a.ws.length cw)) ((W.heap.size + 2) :: Ds) (.loop (rec .busy none)) (ed (l.take i) ++ pc (a.lines.take (j + 1))) W6 := by
            refine ⟨.inr ?_, hot6 _ _ hSb.a (hnb _ (by omega)) (hX (by decide)), hSb.low.trans (hlow6.mono hwb), fun D hD => hot6 _ _ (hSb.ds D hD) (fun e => ?_) (nP _), hot6 _ _ hSb.o (hnb _ (by omega)) (uS _)⟩
            · rw [hj, CH, ← List.append_assoc, rc _ (FD x)]
              have e1 : Lib.strCells (x ++ ⟨#[10]⟩) = Lib.byteCells (FD x) := by
                simp [Lib.strCells, Lib.byteCells, FD, ByteArray.data_append]
              rw [← e1]
              exact hb6
            · have h1 := hSb.ds D hD
              have h2 := hSb.b
              cases e
              rcases h2 with ⟨_, v, h2, _⟩ | ⟨_, v, h2, _⟩ <;> (rw [h1] at h2; cases h2)
          have hD' : ∀ D ∈ (W.heap.size + 2) :: Ds, W.heap.size + 2 + 1 ≠ D := fun D hD => by
            rcases List.mem_cons.1 hD with rfl | hD
            · omega
            · have := bZ (hds D hD).2
              omega
          have hS7 := TJ.put (obj' := .loop (rec .ready none)) hS6 (W.heap.size + 2 + 1) (.loop (rec .ready none)) _ (by have := hlow.size; omega) hS6.o rfl hD' (.inr ⟨rfl, rfl⟩)
          refine ⟨hS6.o, ?_, ?_, fun r ob h1 h2 h3 => ?_⟩
          · rw [← hT]; exact hS7
          · have := hlow6.size
            simp only [World.putObj_size]
            omega
          · exact (World.putObj_heap_other (by omega)).trans (hot6 _ _ ((hk1 r (by omega)).trans h2) (hnb _ (by omega)) h3)
        rw [hW0]
        refine (D9 9 (W.heap.size + 2 + 1) (W.heap.size + 1) W0.heap.size a.k a.m a.n a.ws (.slice pw a.ws.length cw) a.y a.t T hI hY W0 rfl h0).mono ?_
        rintro e W' ⟨hv', hS | hS⟩
        · rw [← hT] at hS
          have hS : TJ w bb (W.heap.size + 1) (W.heap.size + 2 + 1) (a.V (.slice pw a.ws.length cw)) ((W.heap.size + 2) :: Ds) (.loop (rec .ready none)) (ed (l.take i) ++ pc (a.lines.take a.lines.length)) W' := hS
          refine ⟨hv', .inl ⟨hS.o, ?_⟩⟩
          have hD' : ∀ D ∈ (W.heap.size + 2) :: Ds, W.heap.size + 2 + 1 ≠ D := fun D hD => by
            rcases List.mem_cons.1 hD with rfl | hD
            · omega
            · have := bZ (hds D hD).2
              omega
          have hS7 := TJ.put (obj' := .loop (rec .exhausted none)) hS (W.heap.size + 2 + 1) (.loop (rec .exhausted none)) _ (by have := hlow.size; omega) hS.o rfl hD' (.inr ⟨rfl, rfl⟩)
          obtain ⟨W8, hW8⟩ : ∃ W8, W'.putObj (W.heap.size + 2 + 1) (.loop (rec .exhausted none)) = W8 := ⟨_, rfl⟩
          rw [hW8] at hS7 ⊢
          have hnd' : ((W.heap.size + 2) :: Ds).Nodup := List.nodup_cons.2 ⟨fun h => by have := bZ (hds _ h).2; omega, sf⟩
          have hfin : ∀ u6 u7 u12 u16 u17 u18 u19 u20 u21 u22 u23 u24 u25 : Value, F9 w bb (some ⟨bl, o, none⟩) cap l { tmps := #[.slice (some ⟨bl, o, none⟩) l.length cap, undef, .string ⟨#[]⟩, .int .i64 0, .pointer (some ⟨bb, 0, none⟩), undef, u6, u7, .slice (some ⟨bl, o, none⟩) l.length cap, .bool false, .slice (some ⟨bl, o, none⟩) l.length cap, .int .i64 l.length, u12, .slice (some ⟨bl, o, none⟩) l.length cap, .int .i64 l.length, .int .i64 ((i : Int) + 1), u16, u17, u18, u19, u20, u21, u22, u23, u24, u25, undef, undef, undef], defers := { target := .collected (W.heap.size + 2), args := #[] } :: Ds.map Ea } W8 := by
            intro u6 u7 u12 u16 u17 u18 u19 u20 u21 u22 u23 u24 u25
            refine ⟨i + 1, (W.heap.size + 2) :: Ds, u6, u7, u12, u16, u17, u18, u19, u20, u21, u22, u23, u24, u25, rfl, by omega, ?_, hS7.low, hnd', fun D hD => ⟨?_, hS7.ds D hD⟩⟩
            · have h1 := hS7.b
              rw [List.take_length] at h1
              rw [List.take_add_one, hai]
              show Lib.IsBuilderF 74 5 bb bb (Lib.byteCells (ed (l.take i ++ [a]))) W8
              rw [AY]
              exact h1
            · have := hlow.size
              rcases List.mem_cons.1 hD with rfl | hD
              · omega
              · exact (hds D hD).1
          gi_wp2
          simp [intOf]
          omega
        · rw [← hT] at hS
          exact hS.elim
      · have hil : i = l.length := by omega
        rw [hil, List.take_length] at hbld
        have hLen := Tryd.Builder_Len_f bb bb _ W hbld
        rw [Lib.byteCells_length] at hLen
        have hStr := Any.Builder_String_any_k yg lx bb bb (ed l) W hbld (Nat.le_of_lt (pf hbld))
        gi_wp2_with first
          | (refine ⟨trivial, ?_⟩; gi_at_call 44; refine (callsIn_wide.2 hLen).mono ?_; rintro e w' ⟨rfl, rfl⟩)
          | (refine ⟨trivial, ?_⟩; gi_at_call 45; refine (callsIn_wide.2 hStr).mono ?_; rintro e W5 ⟨rfl, _, hb5, ho5⟩)
        · exact na w.heap.size (fun W => results_tmp2 rfl _ _ _) (fun W => Below w.heap.size w W) (fun W D h1 h2 => en h2 h1 _) (fun W h => ⟨rfl, h⟩) Ds _ sf hds hlow
        · exact na w.heap.size (fun W => results_tmp2 rfl _ _ _) (fun W => Below w.heap.size w W) (fun W D h1 h2 => en h2 h1 _) (fun W h => ⟨rfl, h⟩) Ds W5 sf (fun D hD => ⟨(hds D hD).1, ho5 _ _ (hds D hD).2 (fun e => by
            cases e
            rcases hbld with ⟨_, v, h2, _⟩ | ⟨_, v, h2, _⟩ <;> (rw [(hds _ hD).2] at h2; cases h2)) (nP _)⟩) (hlow.trans (hb5.mono hwb))
end Go.Plb.Seat
namespace Go.Plb.Seat
open Go Go.Plb Go.Proofs Go.RowKit
set_option maxRecDepth 100000
set_option linter.unusedSimpArgs false
set_option linter.unusedVariables false
theorem nQ{ρ:aa}{W:World}{k:IntKind}{n:Int}{u:Value}(h:VR ρ W (.int k n) u) :u=.int k n:=by cases h;rfl
theorem AZ{ρ:aa}{W:World}{lv:Lv}{ws:List Int}{len:Nat}(hlen:len=ws.length){v:Value}(hv:VR ρ W (.imm lv (.ns .u64 ws) 1 1 0 len) v) :VR aa.none_ W (eH ws) v:=by
  have av:∀ bl,aa.none_.avoid .free bl:=fun bl j _=>by cases j<;>exact fun h=>h
  generalize hA:AV.imm lv (.ns .u64 ws) 1 1 0 len=A at hv
  cases hv with
  | imm bw d k es i len' cap bl o u ha hb hc hv hl hr hk hg =>
    cases hA
    subst hlen
    refine .imm .free (.ns .u64 ws) 1 1 0 ws.length cap bl o u (av bl) hb hc (fun x v hx=>?_) hl trivial (fun _=>rfl) rfl
    have h1:=hv x v hx
    simp only [ah.cell?,Option.map_eq_some_iff] at hx
    obtain ⟨z,_,rfl⟩:=hx
    rw [nQ h1]
    exact .int _ _
  | immEnd bw d k es i cap a hr hk hg =>
    simp only [AV.imm.injEq] at hA
    obtain ⟨_,_,_,_,_,h0⟩:=hA
    subst h0
    show VR aa.none_ W (.imm .free (.ns .u64 ws) 1 1 0 ws.length) _
    rw [←hlen]
    exact .immEnd _ _ _ _ _ _ _ trivial (fun _=>rfl) rfl
  | _=>cases hA
def FE(d:ah)(l:List sk) :Prop:=∀ i a,l[i]? = some a→∃ lv,d.cell? (i*6)=some (.int .i64 a.k)∧d.cell? (i*6+1)=some (.int .i64 a.m)∧d.cell? (i*6+2)=some (.int .i64 a.n) ∧
  d.cell? (i*6+3)=some (.imm lv (.ns .u64 a.ws) 1 1 0 a.ws.length)∧d.cell? (i*6+4)=some (.int .i64 a.y)∧d.cell? (i*6+5)=some (.int .u64 a.t)
theorem EJ(bw:Lv)(d:ah)(k es:Nat)(l:List sk)(hd:FE d l)(hl:l.length≤1000000000) :aj prog gL [] [.imm bw d k es 0 l.length] ⟨.tup [.str (sm l),.int .i64 (sn l)],[]⟩:=by
  refine bN ⟨FN gL,by kernel_rfl,by kernel_rfl⟩ fun ρ w us hN hv=>?_
  cases hv with | cons _ u _ _ h1 h2 =>
  cases h2
  have key:∃ p bl o cap,u=.slice p l.length cap∧(1≤l.length→p=some ⟨bl,o,none⟩)∧pd w bl o l:=by
    generalize hA:AV.imm bw d k es 0 l.length=A at h1
    cases h1 with
    | imm bw d k es i len cap bl o u ha hb hc hv hl hr hk hg =>
      cases hA
      refine ⟨_,bl,o+0*k,cap,rfl,fun _=>rfl,fun i a hi=>?_⟩
      obtain ⟨lv,g0,g1,g2,g3,g4,g5⟩:=hd i a hi
      refine ⟨u (i*6+3),?_,?_,?_,?_,?_,?_,AZ rfl (hv _ _ g3),hb⟩
      · have:=hc _ _ g0;rw [nQ (hv _ _ g0)] at this;rw [show o+0*k+i*6=o+i*6 by omega];exact this
      · have:=hc _ _ g1;rw [nQ (hv _ _ g1)] at this;rw [show o+0*k+i*6+1=o+(i*6+1) by omega];exact this
      · have:=hc _ _ g2;rw [nQ (hv _ _ g2)] at this;rw [show o+0*k+i*6+2=o+(i*6+2) by omega];exact this
      · have:=hc _ _ g3;rw [show o+0*k+i*6+3=o+(i*6+3) by omega];exact this
      · have:=hc _ _ g4;rw [nQ (hv _ _ g4)] at this;rw [show o+0*k+i*6+4=o+(i*6+4) by omega];exact this
      · have:=hc _ _ g5;rw [nQ (hv _ _ g5)] at this;rw [show o+0*k+i*6+5=o+(i*6+5) by omega];exact this
    | immEnd bw d k es i cap a hr hk hg =>
      simp only [AV.imm.injEq] at hA
      obtain ⟨_,_,_,_,_,h0⟩:=hA
      rw [h0]
      refine ⟨a,0,0,cap,rfl,fun h=>by omega,fun i a hi=>?_⟩
      have:=(List.getElem?_eq_some_iff.1 hi).1
      omega
    | _=>cases hA
  obtain ⟨p,bl,o,cap,rfl,hp,hA⟩:=key
  refine (zO bl o cap l hl w hN.romOk hA p hp).mono ?_
  rintro e w' ⟨rfl,hb⟩
  exact ⟨_,rfl,hb,.tup _ _ (.cons _ _ _ _ (.str _) (.cons _ _ _ _ (.int _ _) .nil))⟩
def yy:aL:=⟨gL,fun lent args=>match lent,args with
  | [],[.imm bw (.vs [.int .i64 k,.int .i64 m,.int .i64 n,.imm lv (.ns .u64 ws) 1 1 0 len,.int .i64 y,.int .u64 t]) 1 6 0 1] =>
    some [⟨⟨.tup [.str (sm [⟨k,m,n,ws,y,t⟩]),.int .i64 (sn [⟨k,m,n,ws,y,t⟩])],[]⟩,[Nat.beq len ws.length]⟩]
  | _,_=>none⟩
theorem A0:aS prog yy:=by
  intro lent args alts a h ha ho
  simp only [yy] at h
  split at h
  · simp only [Option.some.injEq] at h;subst h
    simp only [List.mem_singleton] at ha;subst ha
    rename_i bw k m n lv ws len y t
    have hlen:len=ws.length:=Nat.eq_of_beq_eq_true ho.1
    subst hlen
    refine EJ bw _ 1 6 [⟨k,m,n,ws,y,t⟩] (fun i a hi=>?_) (show 1≤1000000000 by omega)
    cases i with
    | zero=>cases hi;exact ⟨lv,rfl,rfl,rfl,rfl,rfl,rfl⟩
    | succ i=>simp at hi
  · cases h
end Go.Plb.Seat
namespace Go.Plb.Seat
open Go Go.Plb
set_option linter.unusedSimpArgs false
set_option linter.unusedVariables false
set_option maxRecDepth 100000
noncomputable def FF:List aL:=yy::FC
theorem EK:ba prog (bd FF):=aq A0 p6
def Gp:Option (jB×List Bool×cD)→Bool
  | some (⟨.bool _ true,[]⟩,o,_)=>B5 o
  | _=>false
theorem Eb{r:Option (jB×List Bool×cD)}(h:Gp r=true) :∃ k o p,r=some (⟨.bool k true,[]⟩,o,p)∧ae o:=by
  unfold Gp at h
  split at h
  · exact ⟨_,_,_,rfl,wV h⟩
  · cases h
theorem CI:Gp (w6 C0 (bd FF) (jG C0 (bd FF) 50 100) j0 [] [] none)=true:=by kernel_rfl
theorem EL:aj prog j0 [] [] ⟨.bool false true,[]⟩:=by
  obtain ⟨k,o,p,h,ho⟩:=Eb CI
  exact (aj.run E9 EK none _ _ h ho).weak (AF _ _ _)
def yz:aL:=⟨j0,fun L args=>match L,args with | [],[]=>one (.bool false true) [] | _,_=>none⟩
theorem A1:aS prog yz:=by
  intro L args alts a h ha ho
  simp only [yz] at h
  split at h
  · exact Ci h ha ho fun q=>EL
  · cases h
end Go.Plb.Seat
namespace Go.Plb.Seat
open Go Go.Plb
noncomputable def Ga:List aL:=yz::oH
theorem BO:ba prog (bd Ga):=aq A1 q7
end Go.Plb.Seat
namespace Go.Plb.Seat
open Go Go.Plb
set_option linter.unusedVariables false
set_option maxRecDepth 100000
noncomputable section
inductive aw where
  | r0 (i1:Int)
def iq:aw→AE×aG
  | .r0 i1=>(.ret,⟨az 143 [(4,.int .i64 i1)],[],0⟩)
def cq:aw→jB
  | .r0 i1=>⟨.int .i64 i1,[]⟩
def hZ(s_0:ByteArray)(substr_1:ByteArray) :T ((Empty)⊕(aw)) :=
  .ask (((substr_1.size:Nat):Int)==(0:Int))
    (.leaf (.inr (.r0 (0:Int))))
    (.ask (substr_1.toList==s_0.toList)
      (.leaf (.inr (.r0 (0:Int))))
      (.ask (((substr_1.size:Nat):Int)==(1:Int))
        (.need (nR (0:Int) substr_1.size)<|.leaf (.inr (.r0 (B3 s_0 (aA substr_1 0)))))
        (.ask (decide (((substr_1.size:Nat):Int)≥((s_0.size:Nat):Int)))
          (.leaf (.inr (.r0 (-1:Int))))
          (.fail))))
noncomputable def ac(s_0:ByteArray)(substr_1:ByteArray) :Option aw:=tq ((hZ s_0 substr_1).run)
theorem ia(s_0:ByteArray)(substr_1:ByteArray){x:aw}(h:ac s_0 substr_1=some x) :aj prog dD [] [.str s_0,.str substr_1] (cq x) :=
  yi false cq iq h (d4 BO xg [⟨[],[],[4]⟩,⟨[],[],[4]⟩,⟨[],[],[4]⟩,⟨[],[],[4]⟩])
    (fun x=>by cases x with | r0 i1=>exact sf [.int .i64 i1])
def aR:Option aw→Bool
  | some _=>true
  | none=>false
def ai:Option aw→Int
  | some (.r0 x)=>x
  | _=>0
theorem ib{x:Option aw}(h:aR x=true) :x=some (.r0 (ai x)):=by
  unfold aR at h
  split at h<;>first | rfl | (cases h;done) | (rename_i y;cases y;rfl)
noncomputable def dH:aL:=dh dD (.cons .str (.cons .str .nil)) fun t=>(fun q=>[⟨cq (.r0 (ai q)),[aR q]⟩]) (ac t.1 t.2.1)
theorem fZ:aS prog dH:=aU fun t=>(bp (fun h=>ia t.1 t.2.1 (ib h)) bY)
noncomputable def dI:List aL:=dH::Ga
theorem bW:ba prog (bd dI):=aq fZ BO
inductive aV where
  | r0 (i3:Int)
def e7:aV→AE×aG
  | .r0 i3=>(.ret,⟨az 34 [(4,.int .i64 i3)],[],0⟩)
theorem kD:qv e7:=by intro x;cases x<;>(intro h;cases h)
theorem re(id:Nat) :qW id e7:=by intro x;cases x<;>(intro h;cases h)
def ir:aV→jB
  | .r0 i3=>⟨.int .i64 i3,[]⟩
noncomputable def rf:List Code:=dq (qS ip)
def rg(s_0:ByteArray)(substr_1:ByteArray)(_:Unit) :aG:=⟨az 34 [(0,.str s_0),(1,.str substr_1),(5,.int .i64 (0:Int))],[],0⟩
def rh(s_0:ByteArray)(substr_1:ByteArray) :T ((Unit)⊕(aV)) :=
  .ask (((substr_1.size:Nat):Int)==(0:Int))
    (.fail)
    (.ask (((substr_1.size:Nat):Int)==(1:Int))
      (.need (nR (0:Int) substr_1.size)<|.leaf (.inr (.r0 (B4 s_0 (aA substr_1 0)))))
      (.leaf (.inl ())))
def er(substr_1:ByteArray) :ByteArray×Nat→aG:=fun (s1,n2)=>⟨az 34 [(0,.str s1),(1,.str substr_1),(5,.int .i64 ((n2:Nat):Int))],[],0⟩
noncomputable def ri:List Code:=dq (ji (((rf.drop 6)).headD .skip))
def rj(substr_1:ByteArray)(s1:ByteArray)(n2:Nat) :T ((ByteArray×Nat)⊕((Empty)⊕(aV))) :=
  .need (aR (ac s1 substr_1))<|.ask ((ai (ac s1 substr_1))==(-1:Int))
    (.leaf (.inr (.inr (.r0 ((n2:Nat):Int)))))
    (.need (iS .i64 (((n2+1):Nat):Int))<|.need (iS .i64 ((ai (ac s1 substr_1))+((substr_1.size:Nat):Int)))<|.need (kP ((s1.size:Nat):Int) s1.size)<|.need (kP ((ai (ac s1 substr_1))+((substr_1.size:Nat):Int)) s1.size)<|.leaf (.inl ((s1.extract (Int.toNat ((ai (ac s1 substr_1))+((substr_1.size:Nat):Int))) s1.size),(n2+1))))
noncomputable def gp(substr_1:ByteArray) :ByteArray×Nat→Option ((ByteArray×Nat)⊕((Empty)⊕(aV))):=fun (s1,n2) =>
  (rj substr_1 s1 n2).run
theorem rl(substr_1:ByteArray)(s1:ByteArray)(n2:Nat) :Sg prog [] ri (er substr_1 (s1,n2)) (gp substr_1 (s1,n2)) (er substr_1) (f3 (ρ:=Empty) 0 (fun a=>a.elim) e7):=by
  unfold gp;exact d4 bW (er substr_1) [⟨[],[],[4]⟩,⟨[],[],[0,1,5]⟩]
noncomputable def cr(s_0:ByteArray)(substr_1:ByteArray) :Option aV:=tq (bA ((rh s_0 substr_1).run) fun _ =>
  cV (gp substr_1) (s_0,0))
theorem rm(s_0:ByteArray)(substr_1:ByteArray){x:aV}(h:cr s_0 substr_1=some x) :aj prog ip [] [.str s_0,.str substr_1] (ir x) :=
  yi false ir e7 h (Sg.cut 6 kD (d4 bW (rg s_0 substr_1) [⟨[],[],[4]⟩,⟨[],[],[0,1,5]⟩]) (fun _=>EB ⟨[],[],[0,1,5]⟩ (er substr_1) (fun a:Empty=>a.elim) 0 kD (re _) (fun ⟨s1,n2⟩=>rl substr_1 s1 n2)))
    (fun x=>by cases x with | r0 i3=>exact sf [.int .i64 i3])
def eu:Option aV→Bool
  | some _=>true
  | none=>false
def dt:Option aV→Int
  | some (.r0 x)=>x
  | _=>0
theorem rn{x:Option aV}(h:eu x=true) :x=some (.r0 (dt x)):=by
  unfold eu at h
  split at h<;>first | rfl | (cases h;done) | (rename_i y;cases y;rfl)
noncomputable def me:aL:=dh ip (.cons .str (.cons .str .nil)) fun t=>(fun q=>[⟨ir (.r0 (dt q)),[eu q]⟩]) (cr t.1 t.2.1)
theorem pg:aS prog me:=aU fun t=>(bp (fun h=>rm t.1 t.2.1 (rn h)) bY)
noncomputable def mf:List aL:=me::dI
theorem cH:ba prog (bd mf):=aq pg bW
inductive aC where
  | r0 (a11:Nat) (a12:Nat) (l13:List ByteArray)
def du:aC→AE×aG
  | .r0 a11 a12 l13=>(.ret,⟨az 66 [(8,.sl 0 1 1 0 a11 a12)],[(0,.ss l13)],1⟩)
theorem c8:qv du:=by intro x;cases x<;>(intro h;cases h)
theorem nU(id:Nat) :qW id du:=by intro x;cases x<;>(intro h;cases h)
def fh:aC→jB
  | .r0 a11 a12 l13=>⟨.sl 0 1 1 0 a11 a12,[some (.ss l13)]⟩
noncomputable def nV:List Code:=dq (qS fe)
def nW(s_0:ByteArray)(sep_1:ByteArray)(sepSave_2:Int)(n1:Int) :aG:=⟨az 66 [(0,.str s_0),(1,.str sep_1),(2,.int .i64 sepSave_2),(3,.int .i64 n1)],[],0⟩
def eI(s_0:ByteArray)(sep_1:ByteArray)(n_3:Int) :T ((Int)⊕(aC)) :=
  .ask (n_3==(0:Int))
    (.leaf (.inr (.r0 0 0 ([]:List ByteArray))))
    (.ask (sep_1.toList==ByteArray.empty.toList)
      (.fail)
      (.ask (decide (n_3<(0:Int)))
        (.need (eu (cr s_0 sep_1))<|.need (iS .i64 ((dt (cr s_0 sep_1))+(1:Int)))<|.leaf (.inl ((dt (cr s_0 sep_1))+(1:Int))))
        (.leaf (.inl n_3))))
def nX(s_0:ByteArray)(sep_1:ByteArray)(sepSave_2:Int) :Int×Nat×(List ByteArray)→aG:=fun (n2,a3,l4)=>⟨az 66 [(0,.str s_0),(1,.str sep_1),(2,.int .i64 sepSave_2),(3,.int .i64 n2),(9,.sl 0 1 1 0 a3 a3),(10,.int .i64 (0:Int))],[(0,.ss l4)],1⟩
def eJ(s_0:ByteArray)(n1:Int) :T ((Int×Nat×(List ByteArray))⊕(aC)) :=
  .need (iS .i64 (((s_0.size+1):Nat):Int))<|.need (decide ((0:Int)≤(fw n1 (((s_0.size+1):Nat):Int))))<|.need (decide ((fw n1 (((s_0.size+1):Nat):Int))≤(fw n1 (((s_0.size+1):Nat):Int))))<|.need (decide ((16:Int)*(fw n1 (((s_0.size+1):Nat):Int))≤140737488355328))<|.need (iS .i64 (fw n1 (((s_0.size+1):Nat):Int)))<|.need (iS .i64 ((fw n1 (((s_0.size+1):Nat):Int))-(1:Int)))<|.leaf (.inl (((fw n1 (((s_0.size+1):Nat):Int))-(1:Int)),(Int.toNat (fw n1 (((s_0.size+1):Nat):Int))),(List.replicate (Int.toNat (fw n1 (((s_0.size+1):Nat):Int))) ByteArray.empty)))
def da(sep_1:ByteArray)(sepSave_2:Int)(n2:Int)(a3:Nat) :ByteArray×Nat×(List ByteArray)→aG:=fun (s5,i6,l7)=>⟨az 66 [(0,.str s5),(1,.str sep_1),(2,.int .i64 sepSave_2),(3,.int .i64 n2),(9,.sl 0 1 1 0 a3 a3),(10,.int .i64 ((i6:Nat):Int))],[(0,.ss l7)],1⟩
def iA(a3:Nat) :ByteArray×Nat×(List ByteArray)→aG:=fun (s8,i9,l10)=>⟨az 66 [(0,.str s8),(9,.sl 0 1 1 0 a3 a3),(10,.int .i64 ((i9:Nat):Int))],[(0,.ss l10)],1⟩
noncomputable def ng:List Code:=dq (ji (((((nV.drop 7).drop 4).take 1)).headD .skip))
def ic(sep_1:ByteArray)(sepSave_2:Int)(n2:Int)(a3:Nat)(s5:ByteArray)(i6:Nat)(l7:List ByteArray) :T ((ByteArray×Nat×(List ByteArray))⊕((ByteArray×Nat×(List ByteArray))⊕(aC))) :=
  .ask (decide (((i6:Nat):Int)<n2))
    (.need (aR (ac s5 sep_1))<|.ask (decide ((ai (ac s5 sep_1))<(0:Int)))
      (.leaf (.inr (.inl (s5,i6,l7))))
      (.need (iS .i64 ((ai (ac s5 sep_1))+sepSave_2))<|.need (kP ((ai (ac s5 sep_1))+sepSave_2) s5.size)<|.need (kP (0:Int) (Int.toNat ((ai (ac s5 sep_1))+sepSave_2)))<|.need (nR ((i6:Nat):Int) a3)<|.need (iU i6 (List.length l7))<|.need (iS .i64 ((ai (ac s5 sep_1))+((sep_1.size:Nat):Int)))<|.need (kP ((s5.size:Nat):Int) s5.size)<|.need (kP ((ai (ac s5 sep_1))+((sep_1.size:Nat):Int)) s5.size)<|.need (iS .i64 (((i6+1):Nat):Int))<|.leaf (.inl ((s5.extract (Int.toNat ((ai (ac s5 sep_1))+((sep_1.size:Nat):Int))) s5.size),(i6+1),(List.set l7 i6 (s5.extract 0 (Int.toNat ((ai (ac s5 sep_1))+sepSave_2))))))))
    (.leaf (.inr (.inl (s5,i6,l7))))
noncomputable def cX(sep_1:ByteArray)(sepSave_2:Int)(n2:Int)(a3:Nat) :ByteArray×Nat×(List ByteArray)→Option ((ByteArray×Nat×(List ByteArray))⊕((ByteArray×Nat×(List ByteArray))⊕(aC))):=fun (s5,i6,l7) =>
  (ic sep_1 sepSave_2 n2 a3 s5 i6 l7).run
theorem nh(sep_1:ByteArray)(sepSave_2:Int)(n2:Int)(a3:Nat)(s5:ByteArray)(i6:Nat)(l7:List ByteArray) :Sg prog [] ng (da sep_1 sepSave_2 n2 a3 (s5,i6,l7)) (cX sep_1 sepSave_2 n2 a3 (s5,i6,l7)) (da sep_1 sepSave_2 n2 a3) (f3 0 (iA a3) du):=by
  unfold cX;exact d4 cH (da sep_1 sepSave_2 n2 a3) [⟨[],[0],[0,9,10]⟩,⟨[],[0],[0,1,2,3,9,10]⟩,⟨[],[0],[0,9,10]⟩]
def ee(a3:Nat)(s8:ByteArray)(i9:Nat)(l10:List ByteArray) :T ((Empty)⊕(aC)) :=
  .need (nR ((i9:Nat):Int) a3)<|.need (iU i9 (List.length l10))<|.need (iS .i64 (((i9+1):Nat):Int))<|.need (kP (((i9+1):Nat):Int) a3)<|.need (kP (0:Int) (i9+1))<|.leaf (.inr (.r0 (i9+1) a3 (List.set l10 i9 s8)))
noncomputable def bg(s_0:ByteArray)(sep_1:ByteArray)(sepSave_2:Int)(n_3:Int) :Option aC:=tq (bA ((eI s_0 sep_1 n_3).run) fun n1 =>
  bA ((eJ s_0 n1).run) fun (n2,a3,l4) =>
  bA (cV (cX sep_1 sepSave_2 n2 a3) (s_0,0,l4)) fun (s8,i9,l10) =>
  (ee a3 s8 i9 l10).run)
theorem nY(s_0:ByteArray)(sep_1:ByteArray)(sepSave_2:Int)(n_3:Int){x:aC}(h:bg s_0 sep_1 sepSave_2 n_3=some x) :aj prog fe [] [.str s_0,.str sep_1,.int .i64 sepSave_2,.int .i64 n_3] (fh x) :=
  yi false fh du h (Sg.cut 7 c8 (d4 cH (nW s_0 sep_1 sepSave_2) [⟨[(.slot 8,.own 1 1 (.ss ([]:List ByteArray)))],[64],[8]⟩,⟨[],[],[0,1,2,3]⟩,⟨[],[],[0,1,2,3]⟩]) (fun n1=>Sg.cut 4 c8 (d4 cH (nX s_0 sep_1 sepSave_2) [⟨[],[112],[0,1,2,3,9,10]⟩]) (fun ⟨n2,a3,l4⟩=>Sg.cut 1 c8 (EB ⟨[],[0],[0,1,2,3,9,10]⟩ (da sep_1 sepSave_2 n2 a3) (iA a3) 0 c8 (nU _) (fun ⟨s5,i6,l7⟩=>nh sep_1 sepSave_2 n2 a3 s5 i6 l7)) (fun ⟨s8,i9,l10⟩=>d4 cH xg [⟨[],[0],[8]⟩]))))
    (fun x=>by cases x with | r0 a11 a12 l13=>exact sf [.sl 0 1 1 0 a11 a12])
def db:Option aC→Bool
  | some _=>true
  | none=>false
def dQ:Option aC→Nat
  | some (.r0 x _ _)=>x
  | _=>0
def dR:Option aC→Nat
  | some (.r0 _ x _)=>x
  | _=>0
def dS:Option aC→List ByteArray
  | some (.r0 _ _ x)=>x
  | _=>[]
theorem nZ{x:Option aC}(h:db x=true) :x=some (.r0 (dQ x) (dR x) (dS x)):=by
  unfold db at h
  split at h<;>first | rfl | (cases h;done) | (rename_i y;cases y;rfl)
noncomputable def jp:aL:=dh fe (.cons .str (.cons .str (.cons (.int .i64) (.cons (.int .i64) .nil)))) fun t=>(fun q=>[⟨fh (.r0 (dQ q) (dR q) (dS q)),[db q]⟩]) (bg t.1 t.2.1 t.2.2.1 t.2.2.2.1)
theorem mr:aS prog jp:=aU fun t=>(bp (fun h=>nY t.1 t.2.1 t.2.2.1 t.2.2.2.1 (nZ h)) bY)
noncomputable def jq:List aL:=jp::mf
theorem bv:ba prog (bd jq):=aq mr cH
inductive aD where
  | r0 (i5:Int) (i6:Int) (i7:Int)
def jr:aD→AE×aG
  | .r0 i5 i6 i7=>(.ret,⟨az 37 [(4,.ptr 0 1 0 0)],[(0,.vs [.int .i64 i5,.int .i64 (0:Int),.int .i64 (0:Int),.nsl,.int .i64 i6,.int .u64 i7])],1⟩)
theorem dc:qv jr:=by intro x;cases x<;>(intro h;cases h)
def fi:aD→jB
  | .r0 i5 i6 i7=>⟨.agg [.int .i64 i5,.int .i64 (0:Int),.int .i64 (0:Int),.nsl,.int .i64 i6,.int .u64 i7],[]⟩
def n4(v_0:Lv)(w_1:List ByteArray)(i_3:Int)(v_4:Lv)(s_5:ByteArray)(i_6:Int)(b_7:Bool)(b_8:Bool)(b1:Bool) :aG:=⟨az 37 [(0,.imm v_0 (.ss w_1) 1 1 0 (List.length w_1)),(2,.iptr v_4 (.vs [.str s_5,.int .i64 i_6,.bool false b_7,.bool false b_8]) 1 0 0),(4,.ptr 0 1 0 0),(5,.ptr 1 1 0 0),(15,.bool false b1)],[(0,.vs [.int .i64 (0:Int),.int .i64 (0:Int),.int .i64 (0:Int),.nsl,.int .i64 (0:Int),.int .u64 (0:Int)]),(1,.vs [.int .i64 i_3,.int .i64 (0:Int),.int .i64 (0:Int),.nsl,.int .i64 (0:Int),.int .u64 (0:Int)])],2⟩
def iB(w_1:List ByteArray)(i_6:Int) :T ((Bool)⊕(aD)) :=
  .ask (decide (i_6>(0:Int)))
    (.leaf (.inl (decide ((((List.length w_1):Nat):Int)>(0:Int)))))
    (.leaf (.inl false))
def n5(v_0:Lv)(w_1:List ByteArray)(i_3:Int)(v_4:Lv)(s_5:ByteArray)(i_6:Int)(b_7:Bool)(b_8:Bool)(i2:Int) :aG:=⟨az 37 [(0,.imm v_0 (.ss w_1) 1 1 0 (List.length w_1)),(2,.iptr v_4 (.vs [.str s_5,.int .i64 i_6,.bool false b_7,.bool false b_8]) 1 0 0),(4,.ptr 0 1 0 0),(5,.ptr 1 1 0 0)],[(0,.vs [.int .i64 (0:Int),.int .i64 (0:Int),.int .i64 (0:Int),.nsl,.int .i64 (0:Int),.int .u64 (0:Int)]),(1,.vs [.int .i64 i_3,.int .i64 (0:Int),.int .i64 (0:Int),.nsl,.int .i64 i2,.int .u64 (0:Int)])],2⟩
def n6(w_1:List ByteArray)(b1:Bool) :T ((Int)⊕(aD)) :=
  .ask b1
    (.need (nR (0:Int) (List.length w_1))<|.need (iU 0 (List.length w_1))<|.need (ox (List.getD w_1 0 ByteArray.empty).size)<|.leaf (.inl (nT (List.getD w_1 0 ByteArray.empty))))
    (.leaf (.inl (0:Int)))
def n7(v_0:Lv)(w_1:List ByteArray)(i_3:Int)(i2:Int)(b3:Bool) :aG:=⟨az 37 [(0,.imm v_0 (.ss w_1) 1 1 0 (List.length w_1)),(4,.ptr 0 1 0 0),(5,.ptr 1 1 0 0),(27,.bool false b3)],[(0,.vs [.int .i64 (0:Int),.int .i64 (0:Int),.int .i64 (0:Int),.nsl,.int .i64 (0:Int),.int .u64 (0:Int)]),(1,.vs [.int .i64 i_3,.int .i64 (0:Int),.int .i64 (0:Int),.nsl,.int .i64 i2,.int .u64 (0:Int)])],2⟩
def iC(w_1:List ByteArray)(b_7:Bool) :T ((Bool)⊕(aD)) :=
  .ask b_7
    (.leaf (.inl (decide ((((List.length w_1):Nat):Int)>(1:Int)))))
    (.leaf (.inl false))
def n8(i_3:Int)(i2:Int)(i4:Int) :aG:=⟨az 37 [(4,.ptr 0 1 0 0),(5,.ptr 1 1 0 0)],[(0,.vs [.int .i64 (0:Int),.int .i64 (0:Int),.int .i64 (0:Int),.nsl,.int .i64 (0:Int),.int .u64 (0:Int)]),(1,.vs [.int .i64 i_3,.int .i64 (0:Int),.int .i64 (0:Int),.nsl,.int .i64 i2,.int .u64 i4])],2⟩
def n9(w_1:List ByteArray)(b3:Bool) :T ((Int)⊕(aD)) :=
  .ask b3
    (.need (nR (1:Int) (List.length w_1))<|.need (iU 1 (List.length w_1))<|.need (ox (List.getD w_1 1 ByteArray.empty).size)<|.leaf (.inl (d9 (List.getD w_1 1 ByteArray.empty))))
    (.leaf (.inl (0:Int)))
def ni(i_3:Int)(i2:Int)(i4:Int) :T ((Empty)⊕(aD)) :=
  .leaf (.inr (.r0 i_3 i2 i4))
noncomputable def bh(w_1:List ByteArray)(i_3:Int)(i_6:Int)(b_7:Bool) :Option aD:=tq (bA ((iB w_1 i_6).run) fun b1 =>
  bA ((n6 w_1 b1).run) fun i2 =>
  bA ((iC w_1 b_7).run) fun b3 =>
  bA ((n9 w_1 b3).run) fun i4 =>
  (ni i_3 i2 i4).run)
theorem oa(v_0:Lv)(w_1:List ByteArray)(v_2:Lv)(i_3:Int)(v_4:Lv)(s_5:ByteArray)(i_6:Int)(b_7:Bool)(b_8:Bool){x:aD}(h:bh w_1 i_3 i_6 b_7=some x) :aj prog ca [] [.imm v_0 (.ss w_1) 1 1 0 (List.length w_1),.iptr v_2 (.vs [.int .i64 i_3]) 1 0 0,.iptr v_4 (.vs [.str s_5,.int .i64 i_6,.bool false b_7,.bool false b_8]) 1 0 0] (fi x) :=
  yi false fi jr h (Sg.cut 3 dc (d4 bv (n4 v_0 w_1 i_3 v_4 s_5 i_6 b_7 b_8) [⟨[],[0,48],[0,2,4,5,15]⟩,⟨[],[0,48],[0,2,4,5,15]⟩]) (fun b1=>Sg.cut 1 dc (d4 bv (n5 v_0 w_1 i_3 v_4 s_5 i_6 b_7 b_8) [⟨[],[0,1],[0,2,4,5]⟩,⟨[],[0,1],[0,2,4,5]⟩]) (fun i2=>Sg.cut 1 dc (d4 bv (n7 v_0 w_1 i_3 i2) [⟨[],[0,1],[0,4,5,27]⟩,⟨[],[0,1],[0,4,5,27]⟩]) (fun b3=>Sg.cut 1 dc (d4 bv (n8 i_3 i2) [⟨[],[0,1],[4,5]⟩,⟨[],[0,1],[4,5]⟩]) (fun i4=>d4 bv xg [⟨[],[0],[4]⟩])))))
    (fun x=>by cases x with | r0 i5 i6 i7=>exact sf [.agg [.int .i64 i5,.int .i64 (0:Int),.int .i64 (0:Int),.nsl,.int .i64 i6,.int .u64 i7]])
def dd:Option aD→Bool
  | some _=>true
  | none=>false
def dT:Option aD→Int
  | some (.r0 x _ _)=>x
  | _=>0
def dU:Option aD→Int
  | some (.r0 _ x _)=>x
  | _=>0
def dV:Option aD→Int
  | some (.r0 _ _ x)=>x
  | _=>0
theorem oc{x:Option aD}(h:dd x=true) :x=some (.r0 (dT x) (dU x) (dV x)):=by
  unfold dd at h
  split at h<;>first | rfl | (cases h;done) | (rename_i y;cases y;rfl)
noncomputable def js:aL:=dh ca (.cons .ss (.cons (.ivs (.cons (.int .i64) .nil) 1 0 0) (.cons (.ivs (.cons .str (.cons (.int .i64) (.cons .bool (.cons .bool .nil)))) 1 0 0) .nil))) fun t=>(fun q=>[⟨fi (.r0 (dT q) (dU q) (dV q)),[dd q]⟩]) (bh t.1.2 t.2.1.2.1 t.2.2.1.2.2.1 t.2.2.1.2.2.2.1)
theorem mt:aS prog js:=aU fun t=>(bp (fun h=>oa t.1.1 t.1.2 t.2.1.1 t.2.1.2.1 t.2.2.1.1 t.2.2.1.2.1 t.2.2.1.2.2.1 t.2.2.1.2.2.2.1 t.2.2.1.2.2.2.2.1 (oc h)) bY)
noncomputable def jt:List aL:=js::jq
theorem bz:ba prog (bd jt):=aq mt bv
inductive aJ where
  | r0 (a13:Nat) (i14:Int) (i15:Int) (i17:Int)
def mg:aJ→AE×aG
  | .r0 a13 i14 i15 i17=>(.ret,⟨az 32 [(2,.ptr 0 1 0 0),(3,.int .i64 ((a13:Nat):Int))],[(0,.vs [.int .i64 i14,.int .i64 (0:Int),.int .i64 (0:Int),.nsl,.int .i64 i15,.int .u64 i17])],1⟩)
theorem ez:qv mg:=by intro x;cases x<;>(intro h;cases h)
def iu:aJ→jB
  | .r0 a13 i14 i15 i17=>⟨.tup [.agg [.int .i64 i14,.int .i64 (0:Int),.int .i64 (0:Int),.nsl,.int .i64 i15,.int .u64 i17],.int .i64 ((a13:Nat):Int)],[]⟩
def rp(s_0:ByteArray) :Nat×Nat×(List ByteArray)→aG:=fun (w1,w2,l3)=>⟨az 32 [(0,.str s_0),(2,.ptr 0 1 0 0),(4,.sl 1 1 1 0 w1 w2)],[(0,.vs [.int .i64 (0:Int),.int .i64 (0:Int),.int .i64 (0:Int),.nsl,.int .i64 (0:Int),.int .u64 (0:Int)]),(1,.ss l3)],2⟩
def gq(s_0:ByteArray) :T ((Nat×Nat×(List ByteArray))⊕(aJ)) :=
  .need (db (bg s_0 (ByteArray.mk #[32]) (0:Int) (-1:Int)))<|.leaf (.inl ((dQ (bg s_0 (ByteArray.mk #[32]) (0:Int) (-1:Int))),(dR (bg s_0 (ByteArray.mk #[32]) (0:Int) (-1:Int))),(dS (bg s_0 (ByteArray.mk #[32]) (0:Int) (-1:Int)))))
def rq(s_0:ByteArray)(w1:Nat)(w2:Nat)(l3:List ByteArray) :Nat×ByteArray×Nat×Bool×Bool→aG:=fun (read4,read5,read6,read7,read8)=>⟨az 32 [(0,.str s_0),(2,.ptr 0 1 0 0),(4,.sl 1 1 1 0 w1 w2),(5,.fn (.func ca) [] [.iptr .free (.vs [.int .i64 ((read4:Nat):Int)]) 1 0 0,.iptr .free (.vs [.str read5,.int .i64 ((read6:Nat):Int),.bool false read7,.bool false read8]) 1 0 0])],[(0,.vs [.int .i64 (0:Int),.int .i64 (0:Int),.int .i64 (0:Int),.nsl,.int .i64 (0:Int),.int .u64 (0:Int)]),(1,.ss l3)],2⟩
def kF(w1:Nat)(l3:List ByteArray) :T ((Nat×ByteArray×Nat×Bool×Bool)⊕(aJ)) :=
  .need (nR (0:Int) w1)<|.need (iU 0 (List.length l3))<|.alt 0
    (.need (decide ((List.getD l3 0 ByteArray.empty)=(ByteArray.mk #[101,105,103,101,110])))<|.leaf (.inl (1,(ByteArray.mk #[101,105,103,101,110]),3,false,true)))
    (.alt 1
      (.need (decide ((List.getD l3 0 ByteArray.empty)=(ByteArray.mk #[118,97,108,117,101,115])))<|.leaf (.inl (2,(ByteArray.mk #[118,97,108,117,101,115]),0,false,true)))
      (.alt 2
        (.need (decide ((List.getD l3 0 ByteArray.empty)=(ByteArray.mk #[115,118,100])))<|.leaf (.inl (3,(ByteArray.mk #[115,118,100]),2,false,false)))
        (.alt 3
          (.need (decide ((List.getD l3 0 ByteArray.empty)=(ByteArray.mk #[114,97,110,107])))<|.leaf (.inl (4,(ByteArray.mk #[114,97,110,107]),2,true,false)))
          (.alt 4
            (.need (decide ((List.getD l3 0 ByteArray.empty)=(ByteArray.mk #[105,110,118,101,114,115,101])))<|.leaf (.inl (5,(ByteArray.mk #[105,110,118,101,114,115,101]),2,true,false)))
            (.alt 5
              (.need (decide ((List.getD l3 0 ByteArray.empty)=(ByteArray.mk #[99,111,110,100])))<|.leaf (.inl (6,(ByteArray.mk #[99,111,110,100]),2,false,false)))
              (.alt 6
                (.need (!(decide ((List.getD l3 0 ByteArray.empty)=(ByteArray.mk #[101,105,103,101,110]))))<|.need (!(decide ((List.getD l3 0 ByteArray.empty)=(ByteArray.mk #[118,97,108,117,101,115]))))<|.need (!(decide ((List.getD l3 0 ByteArray.empty)=(ByteArray.mk #[115,118,100]))))<|.need (!(decide ((List.getD l3 0 ByteArray.empty)=(ByteArray.mk #[114,97,110,107]))))<|.need (!(decide ((List.getD l3 0 ByteArray.empty)=(ByteArray.mk #[105,110,118,101,114,115,101]))))<|.need (!(decide ((List.getD l3 0 ByteArray.empty)=(ByteArray.mk #[99,111,110,100]))))<|.leaf (.inr (.r0 4 (0:Int) (0:Int) (0:Int))))
                (.fail)))))))
def rr(s_0:ByteArray) :Int×Int×Int→aG:=fun (i9,i10,i11)=>⟨az 32 [(0,.str s_0),(2,.ptr 0 1 0 0),(6,.ptr 1 1 0 0)],[(0,.vs [.int .i64 (0:Int),.int .i64 (0:Int),.int .i64 (0:Int),.nsl,.int .i64 (0:Int),.int .u64 (0:Int)]),(1,.vs [.int .i64 i9,.int .i64 (0:Int),.int .i64 (0:Int),.nsl,.int .i64 i10,.int .u64 i11])],2⟩
def gr(w1:Nat)(w2:Nat)(l3:List ByteArray)(read4:Nat)(read6:Nat)(read7:Bool) :T ((Int×Int×Int)⊕(aJ)) :=
  .need (kP ((w1:Nat):Int) w2)<|.need (kP (1:Int) w1)<|.need (qR 1 (w1-1) l3)<|.need (dd (bh (eF 1 (w1-1) l3) ((read4:Nat):Int) ((read6:Nat):Int) read7))<|.leaf (.inl ((dT (bh (eF 1 (w1-1) l3) ((read4:Nat):Int) ((read6:Nat):Int) read7)),(dU (bh (eF 1 (w1-1) l3) ((read4:Nat):Int) ((read6:Nat):Int) read7)),(dV (bh (eF 1 (w1-1) l3) ((read4:Nat):Int) ((read6:Nat):Int) read7))))
def rt(i9:Int)(i10:Int)(i11:Int)(b12:Bool) :aG:=⟨az 32 [(2,.ptr 0 1 0 0),(6,.ptr 1 1 0 0),(29,.bool false b12)],[(0,.vs [.int .i64 (0:Int),.int .i64 (0:Int),.int .i64 (0:Int),.nsl,.int .i64 (0:Int),.int .u64 (0:Int)]),(1,.vs [.int .i64 i9,.int .i64 (0:Int),.int .i64 (0:Int),.nsl,.int .i64 i10,.int .u64 i11])],2⟩
def gu(s_0:ByteArray)(i9:Int)(i10:Int)(i11:Int) :T ((Bool)⊕(aJ)) :=
  .need (dF (cG i9 i10 i11))<|.ask (!(dZ (cG i9 i10 i11)))
    (.leaf (.inl true))
    (.need (fM (eT i9 i10 i11))<|.leaf (.inl (!((gn (eT i9 i10 i11)).toList==s_0.toList))))
def qg(i9:Int)(i10:Int)(i11:Int)(b12:Bool) :T ((Empty)⊕(aJ)) :=
  .ask b12
    (.leaf (.inr (.r0 4 (0:Int) (0:Int) (0:Int))))
    (.leaf (.inr (.r0 0 i9 i10 i11)))
noncomputable def bB(s_0:ByteArray) :Option aJ:=tq (bA ((gq s_0).run) fun (w1,w2,l3) =>
  bA ((kF w1 l3).run) fun (read4,read5,read6,read7,read8) =>
  bA ((gr w1 w2 l3 read4 read6 read7).run) fun (i9,i10,i11) =>
  bA ((gu s_0 i9 i10 i11).run) fun b12 =>
  (qg i9 i10 i11 b12).run)
theorem ru(s_0:ByteArray){x:aJ}(h:bB s_0=some x) :aj prog lV [] [.str s_0] (iu x) :=
  yi false iu mg h (Sg.cut 2 ez (d4 bz (rp s_0) [⟨[],[0,48],[0,2,4]⟩]) (fun ⟨w1,w2,l3⟩=>Sg.cut 3 ez (d4 bz (rq s_0 w1 w2 l3) [⟨[],[0,1],[0,2,4,5]⟩,⟨[],[0,1],[0,2,4,5]⟩,⟨[],[0,1],[0,2,4,5]⟩,⟨[],[0,1],[0,2,4,5]⟩,⟨[],[0,1],[0,2,4,5]⟩,⟨[],[0,1],[0,2,4,5]⟩,⟨[],[0],[2,3]⟩]) (fun ⟨read4,read5,read6,read7,read8⟩=>Sg.cut 1 ez (d4 bz (rr s_0) [⟨[],[0,66],[0,2,6]⟩]) (fun ⟨i9,i10,i11⟩=>Sg.cut 1 ez (d4 bz (rt i9 i10 i11) [⟨[],[0,1],[2,6,29]⟩,⟨[],[0,1],[2,6,29]⟩]) (fun b12=>d4 bz xg [⟨[],[0],[2,3]⟩,⟨[],[0],[2,3]⟩])))))
    (fun x=>by cases x with | r0 a13 i14 i15 i17=>exact sf [.agg [.int .i64 i14,.int .i64 (0:Int),.int .i64 (0:Int),.nsl,.int .i64 i15,.int .u64 i17],.int .i64 ((a13:Nat):Int)])
def eA:Option aJ→Bool
  | some _=>true
  | none=>false
def fj:Option aJ→Nat
  | some (.r0 x _ _ _)=>x
  | _=>0
def fk:Option aJ→Int
  | some (.r0 _ x _ _)=>x
  | _=>0
def fm:Option aJ→Int
  | some (.r0 _ _ x _)=>x
  | _=>0
def fo:Option aJ→Int
  | some (.r0 _ _ _ x)=>x
  | _=>0
theorem rv{x:Option aJ}(h:eA x=true) :x=some (.r0 (fj x) (fk x) (fm x) (fo x)):=by
  unfold eA at h
  split at h<;>first | rfl | (cases h;done) | (rename_i y;cases y;rfl)
noncomputable def mh:aL:=dh lV (.cons .str .nil) fun t=>(fun q=>[⟨iu (.r0 (fj q) (fk q) (fm q) (fo q)),[eA q]⟩]) (bB t.1)
theorem ph:aS prog mh:=aU fun t=>(bp (fun h=>ru t.1 (rv h)) bY)
noncomputable def mi:List aL:=mh::jt
theorem cJ:ba prog (bd mi):=aq ph bz
inductive aQ where
  | r0 (a20:Nat) (a21:Nat) (l22:List ByteArray)
def gO:aQ→AE×aG
  | .r0 a20 a21 l22=>(.ret,⟨az 32 [(2,.sl 0 1 1 0 a20 a21)],[(0,.ss l22)],1⟩)
theorem fN:qv gO:=by intro x;cases x<;>(intro h;cases h)
theorem uZ(id:Nat) :qW id gO:=by intro x;cases x<;>(intro h;cases h)
def ka:aQ→jB
  | .r0 a20 a21 l22=>⟨.sl 0 1 1 0 a20 a21,[some (.ss l22)]⟩
noncomputable def sL:List Code:=dq (qS j1)
def va(s_0:ByteArray)(_:Unit) :aG:=⟨az 32 [(0,.str s_0),(3,.nsl),(4,.int .i64 (0:Int)),(5,.int .i64 (0:Int))],[],0⟩
def sM:T ((Unit)⊕(aQ)) :=
  .leaf (.inl ())
def fO(s_0:ByteArray) :Nat×Nat×Nat×Nat×(List ByteArray)→aG:=fun (l8,l9,at10,i11,l12)=>⟨az 32 [(0,.str s_0),(3,.sl 0 1 1 0 l8 l9),(4,.int .i64 ((at10:Nat):Int)),(5,.int .i64 ((i11:Nat):Int))],[(0,.ss l12)],1⟩
def nj:Nat×Nat×(List ByteArray)→aG:=fun (l17,l18,l19)=>⟨az 32 [(3,.sl 0 1 1 0 l17 l18)],[(0,.ss l19)],1⟩
noncomputable def sN:List Code:=dq (ji ((((sL.drop 4).take 1)).headD .skip))
def vb(s_0:ByteArray)(i11:Nat) :Nat×Nat×Nat×(List ByteArray)→aG:=fun (l13,l14,at15,l16)=>⟨az 32 [(0,.str s_0),(3,.sl 0 1 1 0 l13 l14),(4,.int .i64 ((at15:Nat):Int)),(5,.int .i64 ((i11:Nat):Int))],[(0,.ss l16)],1⟩
def sO(s_0:ByteArray)(l8:Nat)(l9:Nat)(at10:Nat)(i11:Nat)(l12:List ByteArray) :T ((Nat×Nat×Nat×(List ByteArray))⊕((Nat×Nat×(List ByteArray))⊕(aQ))) :=
  .ask (decide (((i11:Nat):Int)≤((s_0.size:Nat):Int)))
    (.ask (((i11:Nat):Int)==((s_0.size:Nat):Int))
      (.need (kP ((i11:Nat):Int) s_0.size)<|.need (kP ((at10:Nat):Int) i11)<|.need (gZ ((l8+1)*16) 140737488355328)<|.need (gZ (l8+1) 9223372036854775807)<|.need (gZ 1 (List.length [(s_0.extract at10 i11)]))<|.need (gZ l8 (List.length l12))<|.need (iS .i64 (((i11+1):Nat):Int))<|.leaf (.inl ((l8+1),(l8+1),(i11+1),((List.take l8 l12)++(List.take 1 [(s_0.extract at10 i11)])))))
      (.need (nR ((i11:Nat):Int) s_0.size)<|.ask ((aA s_0 i11)==(32:Int))
        (.need (kP ((i11:Nat):Int) s_0.size)<|.need (kP ((at10:Nat):Int) i11)<|.need (gZ ((l8+1)*16) 140737488355328)<|.need (gZ (l8+1) 9223372036854775807)<|.need (gZ 1 (List.length [(s_0.extract at10 i11)]))<|.need (gZ l8 (List.length l12))<|.need (iS .i64 (((i11+1):Nat):Int))<|.leaf (.inl ((l8+1),(l8+1),(i11+1),((List.take l8 l12)++(List.take 1 [(s_0.extract at10 i11)])))))
        (.leaf (.inl (l8,l9,at10,l12)))))
    (.leaf (.inr (.inl (l8,l9,l12))))
def sP(i11:Nat)(l13:Nat)(l14:Nat)(at15:Nat)(l16:List ByteArray) :T ((Nat×Nat×Nat×Nat×(List ByteArray))⊕((Nat×Nat×(List ByteArray))⊕(aQ))) :=
  .need (iS .i64 (((i11+1):Nat):Int))<|.leaf (.inl (l13,l14,at15,(i11+1),l16))
noncomputable def iv(s_0:ByteArray) :Nat×Nat×Nat×Nat×(List ByteArray)→Option ((Nat×Nat×Nat×Nat×(List ByteArray))⊕((Nat×Nat×(List ByteArray))⊕(aQ))):=fun (l8,l9,at10,i11,l12) =>
  bA ((sO s_0 l8 l9 at10 i11 l12).run) fun (l13,l14,at15,l16) =>
  (sP i11 l13 l14 at15 l16).run
theorem sQ(s_0:ByteArray)(l8:Nat)(l9:Nat)(at10:Nat)(i11:Nat)(l12:List ByteArray) :Sg prog [] sN (fO s_0 (l8,l9,at10,i11,l12)) (iv s_0 (l8,l9,at10,i11,l12)) (fO s_0) (f3 0 nj gO):=by
  unfold iv;exact Sg.cut 3 (ux fN) (d4 cJ (vb s_0 i11) [⟨[],[321],[0,3,4,5]⟩,⟨[],[321],[0,3,4,5]⟩,⟨[],[0],[0,3,4,5]⟩,⟨[],[0],[3]⟩]) (fun ⟨l13,l14,at15,l16⟩=>d4 cJ (fO s_0) [⟨[],[0],[0,3,4,5]⟩])
def sR(l17:Nat)(l18:Nat)(l19:List ByteArray) :T ((Empty)⊕(aQ)) :=
  .leaf (.inr (.r0 l17 l18 l19))
noncomputable def cB(s_0:ByteArray) :Option aQ:=tq (bA ((sM).run) fun _ =>
  bA (cV (iv s_0) (0,0,0,0,([]:List ByteArray))) fun (l17,l18,l19) =>
  (sR l17 l18 l19).run)
theorem vc(s_0:ByteArray){x:aQ}(h:cB s_0=some x) :aj prog j1 [] [.str s_0] (ka x) :=
  yi false ka gO h (Sg.cut 4 fN (d4 cJ (va s_0) [⟨[],[],[0,3,4,5]⟩]) (fun _=>Sg.cut 1 fN (EB ⟨[(.slot 3,.own 1 1 (.ss ([]:List ByteArray)))],[0],[0,3,4,5]⟩ (fO s_0) (nj) 0 fN (uZ _) (fun ⟨l8,l9,at10,i11,l12⟩=>sQ s_0 l8 l9 at10 i11 l12)) (fun ⟨l17,l18,l19⟩=>d4 cJ xg [⟨[],[0],[2]⟩])))
    (fun x=>by cases x with | r0 a20 a21 l22=>exact sf [.sl 0 1 1 0 a20 a21])
def fP:Option aQ→Bool
  | some _=>true
  | none=>false
def gv:Option aQ→Nat
  | some (.r0 x _ _)=>x
  | _=>0
def gw:Option aQ→Nat
  | some (.r0 _ x _)=>x
  | _=>0
def gz:Option aQ→List ByteArray
  | some (.r0 _ _ x)=>x
  | _=>[]
theorem ve{x:Option aQ}(h:fP x=true) :x=some (.r0 (gv x) (gw x) (gz x)):=by
  unfold fP at h
  split at h<;>first | rfl | (cases h;done) | (rename_i y;cases y;rfl)
noncomputable def oI:aL:=dh j1 (.cons .str .nil) fun t=>(fun q=>[⟨ka (.r0 (gv q) (gw q) (gz q)),[fP q]⟩]) (cB t.1)
theorem rx:aS prog oI:=aU fun t=>(bp (fun h=>vc t.1 (ve h)) bY)
noncomputable def oJ:List aL:=oI::mi
theorem dj:ba prog (bd oJ):=aq rx cJ
inductive bm where
  | r0 (i9:Int) (a10:Nat)
def iP:bm→AE×aG
  | .r0 i9 a10=>(.ret,⟨az 45 [(2,.int .u64 i9),(3,.int .i64 ((a10:Nat):Int))],[],0⟩)
theorem gP:qv iP:=by intro x;cases x<;>(intro h;cases h)
theorem wl(id:Nat) :qW id iP:=by intro x;cases x<;>(intro h;cases h)
def lH:bm→jB
  | .r0 i9 a10=>⟨.tup [.int .u64 i9,.int .i64 ((a10:Nat):Int)],[]⟩
noncomputable def vf:List Code:=dq (qS lu)
def wm(s_0:ByteArray)(_:Unit) :aG:=⟨az 45 [(0,.str s_0),(4,.int .u64 (0:Int)),(5,.int .i64 (0:Int))],[],0⟩
def nk(s_0:ByteArray) :T ((Unit)⊕(bm)) :=
  .ask (((s_0.size:Nat):Int) != (16:Int))
    (.leaf (.inr (.r0 (0:Int) 4)))
    (.leaf (.inl ()))
def gQ(s_0:ByteArray) :Int×Nat→aG:=fun (w5,i6)=>⟨az 45 [(0,.str s_0),(4,.int .u64 w5),(5,.int .i64 ((i6:Nat):Int))],[],0⟩
def oK(w8:Int) :aG:=⟨az 45 [(4,.int .u64 w8)],[],0⟩
noncomputable def vg:List Code:=dq (ji ((((vf.drop 5).take 1)).headD .skip))
def wn(s_0:ByteArray)(i6:Nat)(w7:Int) :aG:=⟨az 45 [(0,.str s_0),(4,.int .u64 w7),(5,.int .i64 ((i6:Nat):Int))],[],0⟩
def fQ(s_0:ByteArray)(w5:Int)(i6:Nat) :T ((Int)⊕((Int)⊕(bm))) :=
  .ask (decide (((i6:Nat):Int)<(16:Int)))
    (.need (nR ((i6:Nat):Int) s_0.size)<|.ask (decide ((aA s_0 i6)≥(48:Int)))
      (.ask (decide ((aA s_0 i6)≤(57:Int)))
        (.leaf (.inl (IntKind.u64.wrap ((IntKind.u64.wrap (w5*(16:Int)))+(IntKind.u64.wrap (IntKind.u8.wrap ((aA s_0 i6)-(48:Int))))))))
        (.ask (decide ((aA s_0 i6)≥(65:Int)))
          (.ask (decide ((aA s_0 i6)≤(70:Int)))
            (.leaf (.inl (IntKind.u64.wrap ((IntKind.u64.wrap (w5*(16:Int)))+(IntKind.u64.wrap (IntKind.u8.wrap ((IntKind.u8.wrap ((aA s_0 i6)-(65:Int)))+(10:Int))))))))
            (.leaf (.inr (.inr (.r0 (0:Int) 4)))))
          (.leaf (.inr (.inr (.r0 (0:Int) 4))))))
      (.ask (decide ((aA s_0 i6)≥(65:Int)))
        (.ask (decide ((aA s_0 i6)≤(70:Int)))
          (.leaf (.inl (IntKind.u64.wrap ((IntKind.u64.wrap (w5*(16:Int)))+(IntKind.u64.wrap (IntKind.u8.wrap ((IntKind.u8.wrap ((aA s_0 i6)-(65:Int)))+(10:Int))))))))
          (.leaf (.inr (.inr (.r0 (0:Int) 4)))))
        (.leaf (.inr (.inr (.r0 (0:Int) 4))))))
    (.leaf (.inr (.inl w5)))
def vh(i6:Nat)(w7:Int) :T ((Int×Nat)⊕((Int)⊕(bm))) :=
  .need (iS .i64 (((i6+1):Nat):Int))<|.leaf (.inl (w7,(i6+1)))
noncomputable def ef(s_0:ByteArray) :Int×Nat→Option ((Int×Nat)⊕((Int)⊕(bm))):=fun (w5,i6) =>
  bA ((fQ s_0 w5 i6).run) fun w7 =>
  (vh i6 w7).run
theorem vi(s_0:ByteArray)(w5:Int)(i6:Nat) :Sg prog [] vg (gQ s_0 (w5,i6)) (ef s_0 (w5,i6)) (gQ s_0) (f3 0 oK iP):=by
  unfold ef;exact Sg.cut 3 (ux gP) (d4 dj (wn s_0 i6) [⟨[],[],[0,4,5]⟩,⟨[],[],[0,4,5]⟩,⟨[],[],[2,3]⟩,⟨[],[],[2,3]⟩,⟨[],[],[0,4,5]⟩,⟨[],[],[2,3]⟩,⟨[],[],[2,3]⟩,⟨[],[],[4]⟩]) (fun w7=>d4 dj (gQ s_0) [⟨[],[],[0,4,5]⟩])
def vj(w8:Int) :T ((Empty)⊕(bm)) :=
  .leaf (.inr (.r0 w8 0))
noncomputable def eB(s_0:ByteArray) :Option bm:=tq (bA ((nk s_0).run) fun _ =>
  bA (cV (ef s_0) ((0:Int),0)) fun w8 =>
  (vj w8).run)
theorem wo(s_0:ByteArray){x:bm}(h:eB s_0=some x) :aj prog lu [] [.str s_0] (lH x) :=
  yi false lH iP h (Sg.cut 5 gP (d4 dj (wm s_0) [⟨[],[],[2,3]⟩,⟨[],[],[0,4,5]⟩]) (fun _=>Sg.cut 1 gP (EB ⟨[],[],[0,4,5]⟩ (gQ s_0) (oK) 0 gP (wl _) (fun ⟨w5,i6⟩=>vi s_0 w5 i6)) (fun w8=>d4 dj xg [⟨[],[],[2,3]⟩])))
    (fun x=>by cases x with | r0 i9 a10=>exact sf [.int .u64 i9,.int .i64 ((a10:Nat):Int)])
def gR:Option bm→Bool
  | some _=>true
  | none=>false
def iw:Option bm→Int
  | some (.r0 x _)=>x
  | _=>0
def mj:Option bm→Nat
  | some (.r0 _ x)=>x
  | _=>0
theorem wq{x:Option bm}(h:gR x=true) :x=some (.r0 (iw x) (mj x)):=by
  unfold gR at h
  split at h<;>first | rfl | (cases h;done) | (rename_i y;cases y;rfl)
noncomputable def qh:aL:=dh lu (.cons .str .nil) fun t=>(fun q=>[⟨lH (.r0 (iw q) (mj q)),[gR q]⟩]) (eB t.1)
theorem sS:aS prog qh:=aU fun t=>(bp (fun h=>wo t.1 (wq h)) bY)
noncomputable def qi:List aL:=qh::oJ
theorem e8:ba prog (bd qi):=aq sS dj
inductive aW where
  | r0 (b3:Bool)
def ml:aW→AE×aG
  | .r0 b3=>(.ret,⟨az 47 [(2,.bool false b3)],[],0⟩)
theorem kG:qv ml:=by intro x;cases x<;>(intro h;cases h)
def iy:aW→jB
  | .r0 b3=>⟨.bool false b3,[]⟩
def ry(a_0:Int)(a_1:Int)(a_2:Int)(v_3:Lv)(a_4:List Int)(a_5:Int)(a_6:Int)(way1:Nat) :aG:=⟨az 47 [(1,.ptr 0 1 0 0),(3,.int .i64 ((way1:Nat):Int))],[(0,.vs [.int .i64 a_0,.int .i64 a_1,.int .i64 a_2,.imm v_3 (.ns .u64 a_4) 1 1 0 (List.length a_4),.int .i64 a_5,.int .u64 a_6])],1⟩
def rz(a_0 : Int)(a_5 : Int)(a_6 : Int) : T ((Nat) ⊕ (aW)) :=
  .ask (a_0==(1:Int))
    (.leaf (.inl 3))
    (.ask (a_0==(2:Int))
      (.ask (a_5==(0:Int))
        (.leaf (.inr (.r0 (a_6==(0:Int)))))
        (.leaf (.inr (.r0 false))))
      (.ask (a_0==(3:Int))
        (.leaf (.inl 2))
        (.ask (a_0==(6:Int))
          (.leaf (.inl 2))
          (.ask (a_0==(4:Int))
            (.leaf (.inl 2))
            (.ask (a_0==(5:Int))
              (.leaf (.inl 2))
              (.leaf (.inr (.r0 false))))))))
def rA(b2:Bool) :aG:=⟨az 47 [(2,.bool false b2)],[],0⟩
def rB(a_0:Int)(a_5:Int)(a_6:Int)(way1:Nat) :T ((Bool)⊕(aW)) :=
  .ask (decide (a_5≥(1:Int)))
    (.ask (decide (a_5≤((way1:Nat):Int)))
      (.ask (a_6==(0:Int))
        (.leaf (.inl true))
        (.ask (a_0==(4:Int))
          (.leaf (.inl true))
          (.leaf (.inl (a_0==(5:Int))))))
      (.leaf (.inl false)))
    (.leaf (.inl false))
def kH(b2:Bool) :T ((Empty)⊕(aW)) :=
  .leaf (.inr (.r0 b2))
noncomputable def cS(a_0:Int)(a_5:Int)(a_6:Int) :Option aW:=tq (bA ((rz a_0 a_5 a_6).run) fun way1 =>
  bA ((rB a_0 a_5 a_6 way1).run) fun b2 =>
  (kH b2).run)
theorem rC(a_0:Int)(a_1:Int)(a_2:Int)(v_3:Lv)(a_4:List Int)(a_5:Int)(a_6:Int){x:aW}(h:cS a_0 a_5 a_6=some x) :aj prog lW [] [.agg [.int .i64 a_0,.int .i64 a_1,.int .i64 a_2,.imm v_3 (.ns .u64 a_4) 1 1 0 (List.length a_4),.int .i64 a_5,.int .u64 a_6]] (iy x) :=
  yi false iy ml h (Sg.cut 4 kG (d4 e8 (ry a_0 a_1 a_2 v_3 a_4 a_5 a_6) [⟨[],[0],[1,3]⟩,⟨[],[],[2]⟩,⟨[],[],[2]⟩,⟨[],[0],[1,3]⟩,⟨[],[0],[1,3]⟩,⟨[],[0],[1,3]⟩,⟨[],[0],[1,3]⟩,⟨[],[],[2]⟩]) (fun way1=>Sg.cut 1 kG (d4 e8 rA [⟨[],[],[2]⟩,⟨[],[],[2]⟩,⟨[],[],[2]⟩,⟨[],[],[2]⟩,⟨[],[],[2]⟩]) (fun b2=>d4 e8 xg [⟨[],[],[2]⟩])))
    (fun x=>by cases x with | r0 b3=>exact sf [.bool false b3])
def eC:Option aW→Bool
  | some _=>true
  | none=>false
def fp:Option aW→Bool
  | some (.r0 x)=>x
  | _=>false
theorem rD{x:Option aW}(h:eC x=true) :x=some (.r0 (fp x)):=by
  unfold eC at h
  split at h<;>first | rfl | (cases h;done) | (rename_i y;cases y;rfl)
noncomputable def mn:aL:=dh lW (.cons (.agg (.cons (.int .i64) (.cons (.int .i64) (.cons (.int .i64) (.cons (.ns .u64) (.cons (.int .i64) (.cons (.int .u64) .nil))))))) .nil) fun t=>(fun q=>[⟨iy (.r0 (fp q)),[eC q]⟩]) (cS t.1.1 t.1.2.2.2.2.1 t.1.2.2.2.2.2.1)
theorem pj:aS prog mn:=aU fun t=>(bp (fun h=>rC t.1.1 t.1.2.1 t.1.2.2.1 t.1.2.2.2.1.1 t.1.2.2.2.1.2 t.1.2.2.2.2.1 t.1.2.2.2.2.2.1 (rD h)) bY)
noncomputable def mo:List aL:=mn::qi
theorem dv:ba prog (bd mo):=aq pj e8
inductive bQ where
  | r0 (s14:ByteArray)
def iQ:bQ→AE×aG
  | .r0 s14=>(.ret,⟨az 20 [(2,.str s14)],[],0⟩)
theorem kb:qv iQ:=by intro x;cases x<;>(intro h;cases h)
theorem wt(id:Nat) :qW id iQ:=by intro x;cases x<;>(intro h;cases h)
def lI:bQ→jB
  | .r0 s14=>⟨.str s14,[]⟩
noncomputable def wu:List Code:=dq (qS lw)
def wv(w_0:Int)(_:Unit) :aG:=⟨az 20 [(0,.int .u64 w_0),(3,.nsl),(4,.int .i64 (60:Int))],[],0⟩
def ww:T ((Unit)⊕(bQ)) :=
  .leaf (.inl ())
def gS(w_0:Int) :Nat×Nat×Int×(List Int)→aG:=fun (b6,b7,i9,l10)=>⟨az 20 [(0,.int .u64 w_0),(3,.sl 0 1 1 0 b6 b7),(4,.int .i64 i9)],[(0,.ns .u8 l10)],1⟩
def oL:Nat×Nat×(List Int)→aG:=fun (b11,b12,l13)=>⟨az 20 [(3,.sl 0 1 1 0 b11 b12)],[(0,.ns .u8 l13)],1⟩
noncomputable def vk:List Code:=dq (ji ((((wu.drop 3).take 1)).headD .skip))
def ju(w_0:Int)(b6:Nat)(b7:Nat)(i9:Int)(l10:List Int) :T ((Nat×Nat×Int×(List Int))⊕((Nat×Nat×(List Int))⊕(bQ))) :=
  .ask (decide (i9≥(0:Int)))
    (.need (decide ((0:Int)≤(IntKind.u64.wrap i9)))<|.need (nR (og .and .u64 (Int.fdiv w_0 (2^(min (Int.toNat (IntKind.u64.wrap i9)) (IntKind.u64.bits)))) (15:Int)) (ByteArray.mk #[48,49,50,51,52,53,54,55,56,57,65,66,67,68,69,70]).size)<|.need (gZ ((b6+1)*1) 140737488355328)<|.need (gZ (b6+1) 9223372036854775807)<|.need (gZ 1 (List.length [(aA (ByteArray.mk #[48,49,50,51,52,53,54,55,56,57,65,66,67,68,69,70]) (Int.toNat (og .and .u64 (Int.fdiv w_0 (2^(min (Int.toNat (IntKind.u64.wrap i9)) (IntKind.u64.bits)))) (15:Int))))]))<|.need (gZ b6 (List.length l10))<|.need (iS .i64 (i9-(4:Int)))<|.leaf (.inl ((b6+1),(b6+1),(i9-(4:Int)),((List.take b6 l10)++(List.take 1 [(aA (ByteArray.mk #[48,49,50,51,52,53,54,55,56,57,65,66,67,68,69,70]) (Int.toNat (og .and .u64 (Int.fdiv w_0 (2^(min (Int.toNat (IntKind.u64.wrap i9)) (IntKind.u64.bits)))) (15:Int))))])))))
    (.leaf (.inr (.inl (b6,b7,l10))))
noncomputable def eh(w_0:Int) :Nat×Nat×Int×(List Int)→Option ((Nat×Nat×Int×(List Int))⊕((Nat×Nat×(List Int))⊕(bQ))):=fun (b6,b7,i9,l10) =>
  (ju w_0 b6 b7 i9 l10).run
theorem vl(w_0:Int)(b6:Nat)(b7:Nat)(i9:Int)(l10:List Int) :Sg prog [] vk (gS w_0 (b6,b7,i9,l10)) (eh w_0 (b6,b7,i9,l10)) (gS w_0) (f3 0 oL iQ):=by
  unfold eh;exact d4 dv (gS w_0) [⟨[],[161],[0,3,4]⟩,⟨[],[0],[3]⟩]
def nl(b11:Nat)(l13:List Int) :T ((Empty)⊕(bQ)) :=
  .need (gZ b11 (List.length l13))<|.leaf (.inr (.r0 (r6 (List.take b11 l13))))
noncomputable def dw(w_0:Int) :Option bQ:=tq (bA ((ww).run) fun _ =>
  bA (cV (eh w_0) (0,0,(60:Int),([]:List Int))) fun (b11,b12,l13) =>
  (nl b11 l13).run)
theorem wx(w_0:Int){x:bQ}(h:dw w_0=some x) :aj prog lw [] [.int .u64 w_0] (lI x) :=
  yi false lI iQ h (Sg.cut 3 kb (d4 dv (wv w_0) [⟨[],[],[0,3,4]⟩]) (fun _=>Sg.cut 1 kb (EB ⟨[(.slot 3,.own 1 1 (.ns .u8 ([]:List Int)))],[0],[0,3,4]⟩ (gS w_0) (oL) 0 kb (wt _) (fun ⟨b6,b7,i9,l10⟩=>vl w_0 b6 b7 i9 l10)) (fun ⟨b11,b12,l13⟩=>d4 dv xg [⟨[],[],[2]⟩])))
    (fun x=>by cases x with | r0 s14=>exact sf [.str s14])
def gT:Option bQ→Bool
  | some _=>true
  | none=>false
def e9:Option bQ→ByteArray
  | some (.r0 x)=>x
  | _=>ByteArray.empty
theorem wy{x:Option bQ}(h:gT x=true) :x=some (.r0 (e9 x)):=by
  unfold gT at h
  split at h<;>first | rfl | (cases h;done) | (rename_i y;cases y;rfl)
noncomputable def qj:aL:=dh lw (.cons (.int .u64) .nil) fun t=>(fun q=>[⟨lI (.r0 (e9 q)),[gT q]⟩]) (dw t.1)
theorem sT:aS prog qj:=aU fun t=>(bp (fun h=>wx t.1 (wy h)) bY)
noncomputable def qk:List aL:=qj::mo
theorem cT:ba prog (bd qk):=aq sT dv
inductive bC where
  | r0 (s5:ByteArray)
def ql:bC→AE×aG
  | .r0 s5=>(.ret,⟨az 31 [(2,.str s5)],[],0⟩)
theorem gU:qv ql:=by intro x;cases x<;>(intro h;cases h)
def lJ:bC→jB
  | .r0 s5=>⟨.str s5,[]⟩
def wz(a_0:Int)(a_1:Int)(a_2:Int)(v_3:Lv)(a_4:List Int)(a_5:Int)(a_6:Int)(s1:ByteArray) :aG:=⟨az 31 [(1,.ptr 0 1 0 0),(3,.str s1)],[(0,.vs [.int .i64 a_0,.int .i64 a_1,.int .i64 a_2,.imm v_3 (.ns .u64 a_4) 1 1 0 (List.length a_4),.int .i64 a_5,.int .u64 a_6])],1⟩
def ke(a_0:Int) :T ((ByteArray)⊕(bC)) :=
  .need (nR a_0 7)<|.need (iU (Int.toNat a_0) (List.length [ByteArray.empty,(ByteArray.mk #[101,105,103,101,110]),(ByteArray.mk #[118,97,108,117,101,115]),(ByteArray.mk #[115,118,100]),(ByteArray.mk #[114,97,110,107]),(ByteArray.mk #[105,110,118,101,114,115,101]),(ByteArray.mk #[99,111,110,100])]))<|.leaf (.inl (List.getD [ByteArray.empty,(ByteArray.mk #[101,105,103,101,110]),(ByteArray.mk #[118,97,108,117,101,115]),(ByteArray.mk #[115,118,100]),(ByteArray.mk #[114,97,110,107]),(ByteArray.mk #[105,110,118,101,114,115,101]),(ByteArray.mk #[99,111,110,100])] (Int.toNat a_0) ByteArray.empty))
def wA(a_0:Int)(a_1:Int)(a_2:Int)(v_3:Lv)(a_4:List Int)(a_5:Int)(a_6:Int)(s2:ByteArray) :aG:=⟨az 31 [(1,.ptr 0 1 0 0),(3,.str s2)],[(0,.vs [.int .i64 a_0,.int .i64 a_1,.int .i64 a_2,.imm v_3 (.ns .u64 a_4) 1 1 0 (List.length a_4),.int .i64 a_5,.int .u64 a_6])],1⟩
def kf(a_0:Int)(a_5:Int)(s1:ByteArray) :T ((ByteArray)⊕(bC)) :=
  .ask (a_0 != (2:Int))
    (.need (decide (s1.size+(ByteArray.mk #[32]).size≤9223372036854775807))<|.need (iS .i64 a_5)<|.need (decide ((s1++(ByteArray.mk #[32])).size+(bO a_5).size≤9223372036854775807))<|.leaf (.inl ((s1++(ByteArray.mk #[32]))++(bO a_5))))
    (.leaf (.inl s1))
def wB(a_0:Int)(a_1:Int)(a_2:Int)(v_3:Lv)(a_4:List Int)(a_5:Int)(a_6:Int)(s2:ByteArray)(b3:Bool) :aG:=⟨az 31 [(1,.ptr 0 1 0 0),(3,.str s2),(23,.bool false b3)],[(0,.vs [.int .i64 a_0,.int .i64 a_1,.int .i64 a_2,.imm v_3 (.ns .u64 a_4) 1 1 0 (List.length a_4),.int .i64 a_5,.int .u64 a_6])],1⟩
def kg(a_0:Int) :T ((Bool)⊕(bC)) :=
  .ask (a_0==(4:Int))
    (.leaf (.inl true))
    (.leaf (.inl (a_0==(5:Int))))
def wC(s4:ByteArray) :aG:=⟨az 31 [(3,.str s4)],[],0⟩
def kh(a_6:Int)(s2:ByteArray)(b3:Bool) :T ((ByteArray)⊕(bC)) :=
  .ask b3
    (.need (decide (s2.size+(ByteArray.mk #[32]).size≤9223372036854775807))<|.need (gT (dw a_6))<|.need (decide ((s2++(ByteArray.mk #[32])).size+(e9 (dw a_6)).size≤9223372036854775807))<|.leaf (.inl ((s2++(ByteArray.mk #[32]))++(e9 (dw a_6)))))
    (.leaf (.inl s2))
def nn(s4:ByteArray) :T ((Empty)⊕(bC)) :=
  .leaf (.inr (.r0 s4))
noncomputable def eD(a_0:Int)(a_5:Int)(a_6:Int) :Option bC:=tq (bA ((ke a_0).run) fun s1 =>
  bA ((kf a_0 a_5 s1).run) fun s2 =>
  bA ((kg a_0).run) fun b3 =>
  bA ((kh a_6 s2 b3).run) fun s4 =>
  (nn s4).run)
theorem wD(a_0:Int)(a_1:Int)(a_2:Int)(v_3:Lv)(a_4:List Int)(a_5:Int)(a_6:Int){x:bC}(h:eD a_0 a_5 a_6=some x) :aj prog pU [] [.agg [.int .i64 a_0,.int .i64 a_1,.int .i64 a_2,.imm v_3 (.ns .u64 a_4) 1 1 0 (List.length a_4),.int .i64 a_5,.int .u64 a_6]] (lJ x) :=
  yi false lJ ql h (Sg.cut 2 gU (d4 cT (wz a_0 a_1 a_2 v_3 a_4 a_5 a_6) [⟨[],[0],[1,3]⟩]) (fun s1=>Sg.cut 2 gU (d4 cT (wA a_0 a_1 a_2 v_3 a_4 a_5 a_6) [⟨[],[0],[1,3]⟩,⟨[],[0],[1,3]⟩]) (fun s2=>Sg.cut 1 gU (d4 cT (wB a_0 a_1 a_2 v_3 a_4 a_5 a_6 s2) [⟨[],[0],[1,3,23]⟩,⟨[],[0],[1,3,23]⟩]) (fun b3=>Sg.cut 1 gU (d4 cT wC [⟨[],[],[3]⟩,⟨[],[],[3]⟩]) (fun s4=>d4 cT xg [⟨[],[],[2]⟩])))))
    (fun x=>by cases x with | r0 s5=>exact sf [.str s5])
def gV:Option bC→Bool
  | some _=>true
  | none=>false
def iz:Option bC→ByteArray
  | some (.r0 x)=>x
  | _=>ByteArray.empty
theorem wE{x:Option bC}(h:gV x=true) :x=some (.r0 (iz x)):=by
  unfold gV at h
  split at h<;>first | rfl | (cases h;done) | (rename_i y;cases y;rfl)
noncomputable def qm:aL:=dh pU (.cons (.agg (.cons (.int .i64) (.cons (.int .i64) (.cons (.int .i64) (.cons (.ns .u64) (.cons (.int .i64) (.cons (.int .u64) .nil))))))) .nil) fun t=>(fun q=>[⟨lJ (.r0 (iz q)),[gV q]⟩]) (eD t.1.1 t.1.2.2.2.2.1 t.1.2.2.2.2.2.1)
theorem sU:aS prog qm:=aU fun t=>(bp (fun h=>wD t.1.1 t.1.2.1 t.1.2.2.1 t.1.2.2.2.1.1 t.1.2.2.2.1.2 t.1.2.2.2.2.1 t.1.2.2.2.2.2.1 (wE h)) bY)
noncomputable def qn:List aL:=qm::qk
theorem bj:ba prog (bd qn):=aq sU cT
inductive ay where
  | r0 (b13:Bool) (a14:Nat) (i15:Int) (i17:Int)
def fR:ay→AE×aG
  | .r0 b13 a14 i15 i17=>(.ret,⟨az 61 [(2,.ptr 0 1 0 0),(3,.bool false b13)],[(0,.vs [.int .i64 ((a14:Nat):Int),.int .i64 (0:Int),.int .i64 (0:Int),.nsl,.int .i64 i15,.int .u64 i17])],1⟩)
theorem bD:qv fR:=by intro x;cases x<;>(intro h;cases h)
theorem sV(id:Nat) :qW id fR:=by intro x;cases x<;>(intro h;cases h)
def jv:ay→jB
  | .r0 b13 a14 i15 i17=>⟨.tup [.agg [.int .i64 ((a14:Nat):Int),.int .i64 (0:Int),.int .i64 (0:Int),.nsl,.int .i64 i15,.int .u64 i17],.bool false b13],[]⟩
noncomputable def rE:List Code:=dq (qS jg)
def sW(s_0:ByteArray) :Nat×Nat×(List ByteArray)→aG:=fun (w1,w2,l3)=>⟨az 61 [(0,.str s_0),(2,.ptr 0 1 0 0),(4,.sl 1 1 1 0 w1 w2)],[(0,.vs [.int .i64 (0:Int),.int .i64 (0:Int),.int .i64 (0:Int),.nsl,.int .i64 (0:Int),.int .u64 (0:Int)]),(1,.ss l3)],2⟩
def gA(s_0:ByteArray) :T ((Nat×Nat×(List ByteArray))⊕(ay)) :=
  .need (fP (cB s_0))<|.leaf (.inl ((gv (cB s_0)),(gw (cB s_0)),(gz (cB s_0))))
def sX(s_0:ByteArray)(w1:Nat)(w2:Nat)(l3:List ByteArray)(_:Unit) :aG:=⟨az 61 [(0,.str s_0),(2,.ptr 0 1 0 0),(4,.sl 1 1 1 0 w1 w2),(5,.ptr 2 1 0 0),(6,.int .i64 (1:Int))],[(0,.vs [.int .i64 (0:Int),.int .i64 (0:Int),.int .i64 (0:Int),.nsl,.int .i64 (0:Int),.int .u64 (0:Int)]),(1,.ss l3),(2,.vs [.int .i64 (0:Int),.int .i64 (0:Int),.int .i64 (0:Int),.nsl,.int .i64 (0:Int),.int .u64 (0:Int)])],3⟩
def rF:T ((Unit)⊕(ay)) :=
  .leaf (.inl ())
def fa(s_0:ByteArray)(w1:Nat)(w2:Nat)(l3:List ByteArray) :Nat×Nat→aG:=fun (k5,a6)=>⟨az 61 [(0,.str s_0),(2,.ptr 0 1 0 0),(4,.sl 1 1 1 0 w1 w2),(5,.ptr 2 1 0 0),(6,.int .i64 ((k5:Nat):Int))],[(0,.vs [.int .i64 (0:Int),.int .i64 (0:Int),.int .i64 (0:Int),.nsl,.int .i64 (0:Int),.int .u64 (0:Int)]),(1,.ss l3),(2,.vs [.int .i64 ((a6:Nat):Int),.int .i64 (0:Int),.int .i64 (0:Int),.nsl,.int .i64 (0:Int),.int .u64 (0:Int)])],3⟩
def mp(s_0:ByteArray)(w1:Nat)(w2:Nat)(l3:List ByteArray)(a8:Nat) :aG:=⟨az 61 [(0,.str s_0),(2,.ptr 0 1 0 0),(4,.sl 1 1 1 0 w1 w2),(5,.ptr 2 1 0 0)],[(0,.vs [.int .i64 (0:Int),.int .i64 (0:Int),.int .i64 (0:Int),.nsl,.int .i64 (0:Int),.int .u64 (0:Int)]),(1,.ss l3),(2,.vs [.int .i64 ((a8:Nat):Int),.int .i64 (0:Int),.int .i64 (0:Int),.nsl,.int .i64 (0:Int),.int .u64 (0:Int)])],3⟩
noncomputable def rG:List Code:=dq (ji (((((rE.drop 2).drop 2).take 1)).headD .skip))
def sY(s_0:ByteArray)(w1:Nat)(w2:Nat)(l3:List ByteArray)(k5:Nat)(a7:Nat) :aG:=⟨az 61 [(0,.str s_0),(2,.ptr 0 1 0 0),(4,.sl 1 1 1 0 w1 w2),(5,.ptr 2 1 0 0),(6,.int .i64 ((k5:Nat):Int))],[(0,.vs [.int .i64 (0:Int),.int .i64 (0:Int),.int .i64 (0:Int),.nsl,.int .i64 (0:Int),.int .u64 (0:Int)]),(1,.ss l3),(2,.vs [.int .i64 ((a7:Nat):Int),.int .i64 (0:Int),.int .i64 (0:Int),.nsl,.int .i64 (0:Int),.int .u64 (0:Int)])],3⟩
def kI(w1:Nat)(l3:List ByteArray)(k5:Nat)(a6:Nat) :T ((Nat)⊕((Nat)⊕(ay))) :=
  .ask (decide (((k5:Nat):Int)≤(6:Int)))
    (.need (nR (0:Int) w1)<|.need (iU 0 (List.length l3))<|.need (nR ((k5:Nat):Int) 7)<|.need (iU k5 (List.length [ByteArray.empty,(ByteArray.mk #[101,105,103,101,110]),(ByteArray.mk #[118,97,108,117,101,115]),(ByteArray.mk #[115,118,100]),(ByteArray.mk #[114,97,110,107]),(ByteArray.mk #[105,110,118,101,114,115,101]),(ByteArray.mk #[99,111,110,100])]))<|.ask ((List.getD l3 0 ByteArray.empty).toList==(List.getD [ByteArray.empty,(ByteArray.mk #[101,105,103,101,110]),(ByteArray.mk #[118,97,108,117,101,115]),(ByteArray.mk #[115,118,100]),(ByteArray.mk #[114,97,110,107]),(ByteArray.mk #[105,110,118,101,114,115,101]),(ByteArray.mk #[99,111,110,100])] k5 ByteArray.empty).toList)
      (.leaf (.inl k5))
      (.leaf (.inl a6)))
    (.leaf (.inr (.inl a6)))
def rH(k5:Nat)(a7:Nat) :T ((Nat×Nat)⊕((Nat)⊕(ay))) :=
  .need (iS .i64 (((k5+1):Nat):Int))<|.leaf (.inl ((k5+1),a7))
noncomputable def dk(w1:Nat)(l3:List ByteArray) :Nat×Nat→Option ((Nat×Nat)⊕((Nat)⊕(ay))):=fun (k5,a6) =>
  bA ((kI w1 l3 k5 a6).run) fun a7 =>
  (rH k5 a7).run
theorem rI(s_0:ByteArray)(w1:Nat)(w2:Nat)(l3:List ByteArray)(k5:Nat)(a6:Nat) :Sg prog [] rG (fa s_0 w1 w2 l3 (k5,a6)) (dk w1 l3 (k5,a6)) (fa s_0 w1 w2 l3) (f3 0 (mp s_0 w1 w2 l3) fR):=by
  unfold dk;exact Sg.cut 3 (ux bD) (d4 bj (sY s_0 w1 w2 l3 k5) [⟨[],[0,1,2],[0,2,4,5,6]⟩,⟨[],[0,1,2],[0,2,4,5,6]⟩,⟨[],[0,1,2],[0,2,4,5]⟩]) (fun a7=>d4 bj (fa s_0 w1 w2 l3) [⟨[],[0,1,2],[0,2,4,5,6]⟩])
def sZ(s_0:ByteArray)(w1:Nat)(w2:Nat)(l3:List ByteArray)(a8:Nat)(b9:Bool) :aG:=⟨az 61 [(0,.str s_0),(2,.ptr 0 1 0 0),(4,.sl 1 1 1 0 w1 w2),(5,.ptr 2 1 0 0),(31,.bool false b9)],[(0,.vs [.int .i64 (0:Int),.int .i64 (0:Int),.int .i64 (0:Int),.nsl,.int .i64 (0:Int),.int .u64 (0:Int)]),(1,.ss l3),(2,.vs [.int .i64 ((a8:Nat):Int),.int .i64 (0:Int),.int .i64 (0:Int),.nsl,.int .i64 (0:Int),.int .u64 (0:Int)])],3⟩
def kJ(w1:Nat)(l3:List ByteArray) :T ((Bool)⊕(ay)) :=
  .ask (decide (((w1:Nat):Int)>(1:Int)))
    (.need (nR (1:Int) w1)<|.need (iU 1 (List.length l3))<|.leaf (.inl ((((List.getD l3 1 ByteArray.empty).size:Nat):Int)==(1:Int))))
    (.leaf (.inl false))
def rJ(s_0:ByteArray)(w1:Nat)(w2:Nat)(l3:List ByteArray)(a8:Nat)(i10:Int) :aG:=⟨az 61 [(0,.str s_0),(2,.ptr 0 1 0 0),(4,.sl 1 1 1 0 w1 w2),(5,.ptr 2 1 0 0)],[(0,.vs [.int .i64 (0:Int),.int .i64 (0:Int),.int .i64 (0:Int),.nsl,.int .i64 (0:Int),.int .u64 (0:Int)]),(1,.ss l3),(2,.vs [.int .i64 ((a8:Nat):Int),.int .i64 (0:Int),.int .i64 (0:Int),.nsl,.int .i64 i10,.int .u64 (0:Int)])],3⟩
def kK(w1:Nat)(l3:List ByteArray)(b9:Bool) :T ((Int)⊕(ay)) :=
  .ask b9
    (.need (nR (1:Int) w1)<|.need (iU 1 (List.length l3))<|.need (nR (0:Int) (List.getD l3 1 ByteArray.empty).size)<|.need (iS .i64 ((IntKind.i64.wrap (aA (List.getD l3 1 ByteArray.empty) 0))-(48:Int)))<|.leaf (.inl ((IntKind.i64.wrap (aA (List.getD l3 1 ByteArray.empty) 0))-(48:Int))))
    (.leaf (.inl (0:Int)))
def rK(s_0:ByteArray)(a8:Nat)(i10:Int)(i11:Int) :aG:=⟨az 61 [(0,.str s_0),(2,.ptr 0 1 0 0),(5,.ptr 1 1 0 0)],[(0,.vs [.int .i64 (0:Int),.int .i64 (0:Int),.int .i64 (0:Int),.nsl,.int .i64 (0:Int),.int .u64 (0:Int)]),(1,.vs [.int .i64 ((a8:Nat):Int),.int .i64 (0:Int),.int .i64 (0:Int),.nsl,.int .i64 i10,.int .u64 i11])],2⟩
def gB(w1:Nat)(l3:List ByteArray) :T ((Int)⊕(ay)) :=
  .ask (decide (((w1:Nat):Int)>(2:Int)))
    (.need (nR (2:Int) w1)<|.need (iU 2 (List.length l3))<|.need (gR (eB (List.getD l3 2 ByteArray.empty)))<|.leaf (.inl (iw (eB (List.getD l3 2 ByteArray.empty)))))
    (.leaf (.inl (0:Int)))
def rL(a8:Nat)(i10:Int)(i11:Int)(b12:Bool) :aG:=⟨az 61 [(2,.ptr 0 1 0 0),(5,.ptr 1 1 0 0),(58,.bool false b12)],[(0,.vs [.int .i64 (0:Int),.int .i64 (0:Int),.int .i64 (0:Int),.nsl,.int .i64 (0:Int),.int .u64 (0:Int)]),(1,.vs [.int .i64 ((a8:Nat):Int),.int .i64 (0:Int),.int .i64 (0:Int),.nsl,.int .i64 i10,.int .u64 i11])],2⟩
def gC(s_0:ByteArray)(a8:Nat)(i10:Int)(i11:Int) :T ((Bool)⊕(ay)) :=
  .need (eC (cS ((a8:Nat):Int) i10 i11))<|.ask (!(fp (cS ((a8:Nat):Int) i10 i11)))
    (.leaf (.inl true))
    (.need (gV (eD ((a8:Nat):Int) i10 i11))<|.leaf (.inl (!((iz (eD ((a8:Nat):Int) i10 i11)).toList==s_0.toList))))
def rM(a8:Nat)(i10:Int)(i11:Int)(b12:Bool) :T ((Empty)⊕(ay)) :=
  .ask b12
    (.leaf (.inr (.r0 false 0 (0:Int) (0:Int))))
    (.leaf (.inr (.r0 true a8 i10 i11)))
noncomputable def bR(s_0:ByteArray) :Option ay:=tq (bA ((gA s_0).run) fun (w1,w2,l3) =>
  bA ((rF).run) fun _ =>
  bA (cV (dk w1 l3) (1,0)) fun a8 =>
  bA ((kJ w1 l3).run) fun b9 =>
  bA ((kK w1 l3 b9).run) fun i10 =>
  bA ((gB w1 l3).run) fun i11 =>
  bA ((gC s_0 a8 i10 i11).run) fun b12 =>
  (rM a8 i10 i11 b12).run)
theorem ta(s_0:ByteArray){x:ay}(h:bR s_0=some x) :aj prog jg [] [.str s_0] (jv x) :=
  yi false jv fR h (Sg.cut 2 bD (d4 bj (sW s_0) [⟨[],[0,48],[0,2,4]⟩]) (fun ⟨w1,w2,l3⟩=>Sg.cut 2 bD (d4 bj (sX s_0 w1 w2 l3) [⟨[],[0,1,18],[0,2,4,5,6]⟩]) (fun _=>Sg.cut 1 bD (EB ⟨[],[0,1,2],[0,2,4,5,6]⟩ (fa s_0 w1 w2 l3) (mp s_0 w1 w2 l3) 0 bD (sV _) (fun ⟨k5,a6⟩=>rI s_0 w1 w2 l3 k5 a6)) (fun a8=>Sg.cut 1 bD (d4 bj (sZ s_0 w1 w2 l3 a8) [⟨[],[0,1,2],[0,2,4,5,31]⟩,⟨[],[0,1,2],[0,2,4,5,31]⟩]) (fun b9=>Sg.cut 1 bD (d4 bj (rJ s_0 w1 w2 l3 a8) [⟨[],[0,1,2],[0,2,4,5]⟩,⟨[],[0,1,2],[0,2,4,5]⟩]) (fun i10=>Sg.cut 2 bD (d4 bj (rK s_0 a8 i10) [⟨[],[0,2],[0,2,5]⟩,⟨[],[0,2],[0,2,5]⟩]) (fun i11=>Sg.cut 1 bD (d4 bj (rL a8 i10 i11) [⟨[],[0,1],[2,5,58]⟩,⟨[],[0,1],[2,5,58]⟩]) (fun b12=>d4 bj xg [⟨[],[0],[2,3]⟩,⟨[],[0],[2,3]⟩]))))))))
    (fun x=>by cases x with | r0 b13 a14 i15 i17=>exact sf [.agg [.int .i64 ((a14:Nat):Int),.int .i64 (0:Int),.int .i64 (0:Int),.nsl,.int .i64 i15,.int .u64 i17],.bool false b13])
def fb:Option ay→Bool
  | some _=>true
  | none=>false
def fS:Option ay→Bool
  | some (.r0 x _ _ _)=>x
  | _=>false
def fT:Option ay→Nat
  | some (.r0 _ x _ _)=>x
  | _=>0
def fU:Option ay→Int
  | some (.r0 _ _ x _)=>x
  | _=>0
def fV:Option ay→Int
  | some (.r0 _ _ _ x)=>x
  | _=>0
theorem tc{x:Option ay}(h:fb x=true) :x=some (.r0 (fS x) (fT x) (fU x) (fV x)):=by
  unfold fb at h
  split at h<;>first | rfl | (cases h;done) | (rename_i y;cases y;rfl)
noncomputable def np:aL:=dh jg (.cons .str .nil) fun t=>(fun q=>[⟨jv (.r0 (fS q) (fT q) (fU q) (fV q)),[fb q]⟩]) (bR t.1)
theorem qo:aS prog np:=aU fun t=>(bp (fun h=>ta t.1 (tc h)) bY)
noncomputable def nq:List aL:=np::qn
theorem cY:ba prog (bd nq):=aq qo bj
inductive bo where
  | r0 (b3:Bool)
def iR:bo→AE×aG
  | .r0 b3=>(.ret,⟨az 66 [(4,.bool false b3)],[],0⟩)
theorem gW:qv iR:=by intro x;cases x<;>(intro h;cases h)
theorem wF(id:Nat) :qW id iR:=by intro x;cases x<;>(intro h;cases h)
def lK:bo→jB
  | .r0 b3=>⟨.bool false b3,[]⟩
noncomputable def wG:List Code:=dq (qS lr)
def wH(a_0:Int)(a_1:Int)(a_2:Int)(v_3:Lv)(a_4:List Int)(a_5:Int)(a_6:Int)(b_7:Int)(b_8:Int)(b_9:Int)(v_10:Lv)(b_11:List Int)(b_12:Int)(b_13:Int)(b1:Bool) :aG:=⟨az 66 [(2,.ptr 0 1 0 0),(3,.ptr 1 1 0 0),(47,.bool false b1)],[(0,.vs [.int .i64 a_0,.int .i64 a_1,.int .i64 a_2,.imm v_3 (.ns .u64 a_4) 1 1 0 (List.length a_4),.int .i64 a_5,.int .u64 a_6]),(1,.vs [.int .i64 b_7,.int .i64 b_8,.int .i64 b_9,.imm v_10 (.ns .u64 b_11) 1 1 0 (List.length b_11),.int .i64 b_12,.int .u64 b_13])],2⟩
def ki(a_0:Int)(a_1:Int)(a_2:Int)(a_4:List Int)(a_5:Int)(a_6:Int)(b_7:Int)(b_8:Int)(b_9:Int)(b_11:List Int)(b_12:Int)(b_13:Int) :T ((Bool)⊕(bo)) :=
  .ask (a_0 != b_7)
    (.leaf (.inl true))
    (.ask (a_1 != b_8)
      (.leaf (.inl true))
      (.ask (a_2 != b_9)
        (.leaf (.inl true))
        (.ask (a_5 != b_12)
          (.leaf (.inl true))
          (.ask (a_6 != b_13)
            (.leaf (.inl true))
            (.leaf (.inl ((((List.length a_4):Nat):Int) != (((List.length b_11):Nat):Int))))))))
def wI(a_0:Int)(a_1:Int)(a_2:Int)(v_3:Lv)(a_4:List Int)(a_5:Int)(a_6:Int)(b_7:Int)(b_8:Int)(b_9:Int)(v_10:Lv)(b_11:List Int)(b_12:Int)(b_13:Int)(_:Unit) :aG:=⟨az 66 [(2,.ptr 0 1 0 0),(3,.ptr 1 1 0 0),(5,.int .i64 (0:Int))],[(0,.vs [.int .i64 a_0,.int .i64 a_1,.int .i64 a_2,.imm v_3 (.ns .u64 a_4) 1 1 0 (List.length a_4),.int .i64 a_5,.int .u64 a_6]),(1,.vs [.int .i64 b_7,.int .i64 b_8,.int .i64 b_9,.imm v_10 (.ns .u64 b_11) 1 1 0 (List.length b_11),.int .i64 b_12,.int .u64 b_13])],2⟩
def oM(b1:Bool) :T ((Unit)⊕(bo)) :=
  .ask b1
    (.leaf (.inr (.r0 false)))
    (.leaf (.inl ()))
def gX(a_0:Int)(a_1:Int)(a_2:Int)(v_3:Lv)(a_4:List Int)(a_5:Int)(a_6:Int)(b_7:Int)(b_8:Int)(b_9:Int)(v_10:Lv)(b_11:List Int)(b_12:Int)(b_13:Int)(i2:Nat) :aG:=⟨az 66 [(2,.ptr 0 1 0 0),(3,.ptr 1 1 0 0),(5,.int .i64 ((i2:Nat):Int))],[(0,.vs [.int .i64 a_0,.int .i64 a_1,.int .i64 a_2,.imm v_3 (.ns .u64 a_4) 1 1 0 (List.length a_4),.int .i64 a_5,.int .u64 a_6]),(1,.vs [.int .i64 b_7,.int .i64 b_8,.int .i64 b_9,.imm v_10 (.ns .u64 b_11) 1 1 0 (List.length b_11),.int .i64 b_12,.int .u64 b_13])],2⟩
def oN(_:Unit) :aG:=⟨az 66 [],[],0⟩
noncomputable def vm:List Code:=dq (ji (((((wG.drop 2).drop 2).take 1)).headD .skip))
def vn(a_4:List Int)(b_11:List Int)(i2:Nat) :T ((Nat)⊕((Unit)⊕(bo))) :=
  .ask (decide (((i2:Nat):Int)<(((List.length a_4):Nat):Int)))
    (.need (nR ((i2:Nat):Int) (List.length a_4))<|.need (iU i2 (List.length a_4))<|.need (nR ((i2:Nat):Int) (List.length b_11))<|.need (iU i2 (List.length b_11))<|.ask ((List.getD a_4 i2 0) != (List.getD b_11 i2 0))
      (.leaf (.inr (.inr (.r0 false))))
      (.need (iS .i64 (((i2+1):Nat):Int))<|.leaf (.inl (i2+1))))
    (.leaf (.inr (.inl ())))
noncomputable def jw(a_4:List Int)(b_11:List Int) :Nat→Option ((Nat)⊕((Unit)⊕(bo))):=fun i2 =>
  (vn a_4 b_11 i2).run
theorem vo(a_0:Int)(a_1:Int)(a_2:Int)(v_3:Lv)(a_4:List Int)(a_5:Int)(a_6:Int)(b_7:Int)(b_8:Int)(b_9:Int)(v_10:Lv)(b_11:List Int)(b_12:Int)(b_13:Int)(i2:Nat) :Sg prog [] vm (gX a_0 a_1 a_2 v_3 a_4 a_5 a_6 b_7 b_8 b_9 v_10 b_11 b_12 b_13 i2) (jw a_4 b_11 i2) (gX a_0 a_1 a_2 v_3 a_4 a_5 a_6 b_7 b_8 b_9 v_10 b_11 b_12 b_13) (f3 0 oN iR):=by
  unfold jw;exact d4 cY (gX a_0 a_1 a_2 v_3 a_4 a_5 a_6 b_7 b_8 b_9 v_10 b_11 b_12 b_13) [⟨[],[],[4]⟩,⟨[],[0,1],[2,3,5]⟩,⟨[],[],[]⟩]
def vp:T ((Empty)⊕(bo)) :=
  .leaf (.inr (.r0 true))
noncomputable def cx(a_0:Int)(a_1:Int)(a_2:Int)(a_4:List Int)(a_5:Int)(a_6:Int)(b_7:Int)(b_8:Int)(b_9:Int)(b_11:List Int)(b_12:Int)(b_13:Int) :Option bo:=tq (bA ((ki a_0 a_1 a_2 a_4 a_5 a_6 b_7 b_8 b_9 b_11 b_12 b_13).run) fun b1 =>
  bA ((oM b1).run) fun _ =>
  bA (cV (jw a_4 b_11) 0) fun _ =>
  (vp).run)
theorem wJ(a_0:Int)(a_1:Int)(a_2:Int)(v_3:Lv)(a_4:List Int)(a_5:Int)(a_6:Int)(b_7:Int)(b_8:Int)(b_9:Int)(v_10:Lv)(b_11:List Int)(b_12:Int)(b_13:Int){x:bo}(h:cx a_0 a_1 a_2 a_4 a_5 a_6 b_7 b_8 b_9 b_11 b_12 b_13=some x) :aj prog lr [] [.agg [.int .i64 a_0,.int .i64 a_1,.int .i64 a_2,.imm v_3 (.ns .u64 a_4) 1 1 0 (List.length a_4),.int .i64 a_5,.int .u64 a_6],.agg [.int .i64 b_7,.int .i64 b_8,.int .i64 b_9,.imm v_10 (.ns .u64 b_11) 1 1 0 (List.length b_11),.int .i64 b_12,.int .u64 b_13]] (lK x) :=
  yi false lK iR h (Sg.cut 2 gW (d4 cY (wH a_0 a_1 a_2 v_3 a_4 a_5 a_6 b_7 b_8 b_9 v_10 b_11 b_12 b_13) [⟨[],[0,16],[2,3,47]⟩,⟨[],[0,16],[2,3,47]⟩,⟨[],[0,16],[2,3,47]⟩,⟨[],[0,16],[2,3,47]⟩,⟨[],[0,16],[2,3,47]⟩,⟨[],[0,16],[2,3,47]⟩]) (fun b1=>Sg.cut 2 gW (d4 cY (wI a_0 a_1 a_2 v_3 a_4 a_5 a_6 b_7 b_8 b_9 v_10 b_11 b_12 b_13) [⟨[],[],[4]⟩,⟨[],[0,1],[2,3,5]⟩]) (fun _=>Sg.cut 1 gW (EB ⟨[],[0,1],[2,3,5]⟩ (gX a_0 a_1 a_2 v_3 a_4 a_5 a_6 b_7 b_8 b_9 v_10 b_11 b_12 b_13) (oN) 0 gW (wF _) (fun i2=>vo a_0 a_1 a_2 v_3 a_4 a_5 a_6 b_7 b_8 b_9 v_10 b_11 b_12 b_13 i2)) (fun _=>d4 cY xg [⟨[],[],[4]⟩]))))
    (fun x=>by cases x with | r0 b3=>exact sf [.bool false b3])
def eV:Option bo→Bool
  | some _=>true
  | none=>false
def fc:Option bo→Bool
  | some (.r0 x)=>x
  | _=>false
theorem wK{x:Option bo}(h:eV x=true) :x=some (.r0 (fc x)):=by
  unfold eV at h
  split at h<;>first | rfl | (cases h;done) | (rename_i y;cases y;rfl)
noncomputable def qp:aL:=dh lr (.cons (.agg (.cons (.int .i64) (.cons (.int .i64) (.cons (.int .i64) (.cons (.ns .u64) (.cons (.int .i64) (.cons (.int .u64) .nil))))))) (.cons (.agg (.cons (.int .i64) (.cons (.int .i64) (.cons (.int .i64) (.cons (.ns .u64) (.cons (.int .i64) (.cons (.int .u64) .nil))))))) .nil)) fun t=>(fun q=>[⟨lK (.r0 (fc q)),[eV q]⟩]) (cx t.1.1 t.1.2.1 t.1.2.2.1 t.1.2.2.2.1.2 t.1.2.2.2.2.1 t.1.2.2.2.2.2.1 t.2.1.1 t.2.1.2.1 t.2.1.2.2.1 t.2.1.2.2.2.1.2 t.2.1.2.2.2.2.1 t.2.1.2.2.2.2.2.1)
theorem td:aS prog qp:=aU fun t=>(bp (fun h=>wJ t.1.1 t.1.2.1 t.1.2.2.1 t.1.2.2.2.1.1 t.1.2.2.2.1.2 t.1.2.2.2.2.1 t.1.2.2.2.2.2.1 t.2.1.1 t.2.1.2.1 t.2.1.2.2.1 t.2.1.2.2.2.1.1 t.2.1.2.2.2.1.2 t.2.1.2.2.2.2.1 t.2.1.2.2.2.2.2.1 (wK h)) bY)
noncomputable def qq:List aL:=qp::nq
theorem bE:ba prog (bd qq):=aq td cY
inductive am where
  | r0 (b13:Bool)
def f5:am→AE×aG
  | .r0 b13=>(.ret,⟨az 44 [(2,.bool false b13)],[],0⟩)
theorem aT:qv f5:=by intro x;cases x<;>(intro h;cases h)
def dW:am→jB
  | .r0 b13=>⟨.bool false b13,[]⟩
noncomputable def dx:List Code:=dq (qS dP)
def lL(s_0:ByteArray) :Nat×Int×Int×Int→aG:=fun (e1,i2,i3,i4)=>⟨az 44 [(0,.str s_0),(3,.ptr 0 1 0 0),(4,.int .i64 ((e1:Nat):Int))],[(0,.vs [.int .i64 i2,.int .i64 (0:Int),.int .i64 (0:Int),.nsl,.int .i64 i3,.int .u64 i4])],1⟩
def bS(s_0:ByteArray) :T ((Nat×Int×Int×Int)⊕(am)) :=
  .ask (decide (((s_0.size:Nat):Int)>(9000:Int)))
    (.leaf (.inr (.r0 true)))
    (.need (eA (bB s_0))<|.leaf (.inl ((fj (bB s_0)),(fk (bB s_0)),(fm (bB s_0)),(fo (bB s_0)))))
def lM(e1:Nat)(i2:Int)(i3:Int)(i4:Int) :Bool×Nat×Int×Int→aG:=fun (ok5,a6,i7,i9)=>⟨az 44 [(3,.ptr 0 1 0 0),(4,.int .i64 ((e1:Nat):Int)),(5,.ptr 1 1 0 0),(6,.bool false ok5)],[(0,.vs [.int .i64 i2,.int .i64 (0:Int),.int .i64 (0:Int),.nsl,.int .i64 i3,.int .u64 i4]),(1,.vs [.int .i64 ((a6:Nat):Int),.int .i64 (0:Int),.int .i64 (0:Int),.nsl,.int .i64 i7,.int .u64 i9])],2⟩
def bT(s_0:ByteArray) :T ((Bool×Nat×Int×Int)⊕(am)) :=
  .need (fb (bR s_0))<|.leaf (.inl ((fS (bR s_0)),(fT (bR s_0)),(fU (bR s_0)),(fV (bR s_0))))
def lN(e1:Nat)(i2:Int)(i3:Int)(i4:Int)(a6:Nat)(i7:Int)(i9:Int)(b10:Bool) :aG:=⟨az 44 [(3,.ptr 0 1 0 0),(4,.int .i64 ((e1:Nat):Int)),(5,.ptr 1 1 0 0),(22,.bool false b10)],[(0,.vs [.int .i64 i2,.int .i64 (0:Int),.int .i64 (0:Int),.nsl,.int .i64 i3,.int .u64 i4]),(1,.vs [.int .i64 ((a6:Nat):Int),.int .i64 (0:Int),.int .i64 (0:Int),.nsl,.int .i64 i7,.int .u64 i9])],2⟩
def kL(ok5:Bool) :T ((Bool)⊕(am)) :=
  .leaf (.inl (!ok5))
def fW(e1:Nat)(i2:Int)(i3:Int)(i4:Int)(a6:Nat)(i7:Int)(i9:Int)(_:Unit) :aG:=⟨az 44 [(3,.ptr 0 1 0 0),(4,.int .i64 ((e1:Nat):Int)),(5,.ptr 1 1 0 0)],[(0,.vs [.int .i64 i2,.int .i64 (0:Int),.int .i64 (0:Int),.nsl,.int .i64 i3,.int .u64 i4]),(1,.vs [.int .i64 ((a6:Nat):Int),.int .i64 (0:Int),.int .i64 (0:Int),.nsl,.int .i64 i7,.int .u64 i9])],2⟩
def lO(b11:Bool) :aG:=⟨az 44 [(2,.bool false b11)],[],0⟩
def dl(e1:Nat)(i2:Int)(i3:Int)(i4:Int) :T ((Bool)⊕(am)) :=
  .need (eV (cx i2 (0:Int) (0:Int) ([]:List Int) i3 i4 (0:Int) (0:Int) (0:Int) ([]:List Int) (0:Int) (0:Int)))<|.ask (fc (cx i2 (0:Int) (0:Int) ([]:List Int) i3 i4 (0:Int) (0:Int) (0:Int) ([]:List Int) (0:Int) (0:Int)))
    (.ask (((e1:Nat):Int)==(4:Int))
      (.leaf (.inl true))
      (.leaf (.inl false)))
    (.leaf (.inl false))
def kM(b11:Bool) :T ((Unit)⊕(am)) :=
  .leaf (.inr (.r0 b11))
def kN:T ((Unit)⊕(am)) :=
  .leaf (.inl ())
def lP(b12:Bool) :aG:=⟨az 44 [(2,.bool false b12)],[],0⟩
def dm(e1:Nat)(i2:Int)(i3:Int)(i4:Int)(a6:Nat)(i7:Int)(i9:Int) :T ((Bool)⊕(am)) :=
  .need (eV (cx i2 (0:Int) (0:Int) ([]:List Int) i3 i4 ((a6:Nat):Int) (0:Int) (0:Int) ([]:List Int) i7 i9))<|.ask (fc (cx i2 (0:Int) (0:Int) ([]:List Int) i3 i4 ((a6:Nat):Int) (0:Int) (0:Int) ([]:List Int) i7 i9))
    (.ask (((e1:Nat):Int)==(0:Int))
      (.leaf (.inl true))
      (.leaf (.inl false)))
    (.leaf (.inl false))
def kO(b12:Bool) :T ((Empty)⊕(am)) :=
  .leaf (.inr (.r0 b12))
noncomputable def cN(s_0:ByteArray) :Option am:=tq (bA ((bS s_0).run) fun (e1,i2,i3,i4) =>
  bA ((bT s_0).run) fun (ok5,a6,i7,i9) =>
  bA ((kL ok5).run) fun b10 =>
  bA ((bif b10 then bA ((dl e1 i2 i3 i4).run) fun b11 =>
  (kM b11).run else (kN).run)) fun _ =>
  bA ((dm e1 i2 i3 i4 a6 i7 i9).run) fun b12 =>
  (kO b12).run)
theorem fX(s_0:ByteArray){x:am}(h:cN s_0=some x) :aj prog dP [] [.str s_0] (dW x) :=
  yi false dW f5 h (Sg.cut 4 aT (d4 bE (lL s_0) [⟨[],[],[2]⟩,⟨[],[144],[0,3,4]⟩]) (fun ⟨e1,i2,i3,i4⟩=>Sg.cut 1 aT (d4 bE (lM e1 i2 i3 i4) [⟨[],[0,81],[3,4,5,6]⟩]) (fun ⟨ok5,a6,i7,i9⟩=>Sg.cut 1 aT (d4 bE (lN e1 i2 i3 i4 a6 i7 i9) [⟨[],[0,1],[3,4,5,22]⟩]) (fun b10=>Sg.cut 1 aT (Cr (c:=.tmp 22) (kn:=false) (b:=b10) (by kernel_rfl:((((dx.drop 4).drop 1).drop 1).take 1)=[.cond (.tmp 22) (Fs ((((((dx.drop 4).drop 1).drop 1).take 1)).headD .skip)) (Ft ((((((dx.drop 4).drop 1).drop 1).take 1)).headD .skip))]) aT (by kernel_rfl) (Sg.cut 1 aT (d4 bE lO [⟨[],[],[2]⟩,⟨[],[],[2]⟩,⟨[],[],[2]⟩]) (fun b11=>d4 bE (fW e1 i2 i3 i4 a6 i7 i9) [⟨[],[],[2]⟩])) (d4 bE (fW e1 i2 i3 i4 a6 i7 i9) [⟨[],[0,1],[3,4,5]⟩])) (fun _=>Sg.cut 1 aT (d4 bE lP [⟨[],[],[2]⟩,⟨[],[],[2]⟩,⟨[],[],[2]⟩]) (fun b12=>d4 bE xg [⟨[],[],[2]⟩]))))))
    (fun x=>by cases x with | r0 b13=>exact sf [.bool false b13])
def dy:Option am→Bool
  | some _=>true
  | none=>false
def eW:Option am→Bool
  | some (.r0 x)=>x
  | _=>false
theorem lQ{x:Option am}(h:dy x=true) :x=some (.r0 (eW x)):=by
  unfold dy at h
  split at h<;>first | rfl | (cases h;done) | (rename_i y;cases y;rfl)
noncomputable def f6:aL:=dh dP (.cons .str .nil) fun t=>(fun q=>[⟨dW (.r0 (eW q)),[dy q]⟩]) (cN t.1)
theorem kj:aS prog f6:=aU fun t=>(bp (fun h=>fX t.1 (lQ h)) bY)
noncomputable def mu:List aL:=f6::qq
theorem wL:ba prog (bd mu):=aq kj bE
end
end Go.Plb.Seat
namespace Go.Plb.Seat
open Go Go.Plb
set_option linter.unusedSimpArgs false
set_option linter.unusedVariables false
set_option maxRecDepth 100000
def cK(b:UInt8) :Bool:=(decide (48≤b.toNat)&&decide (b.toNat≤57))||(decide (65≤b.toNat)&&decide (b.toNat≤70))
def hv(b:UInt8) :Nat:=if b.toNat≤57 then b.toNat-48 else b.toNat-55
def dJ(l:List UInt8) :Nat:=l.foldl (fun a b=>a*16+hv b) 0
theorem dN(b:UInt8) :cK b=true↔(48≤b.toNat∧b.toNat≤57)∨(65≤b.toNat∧b.toNat≤70):=by simp [cK]
theorem zP{b:UInt8}(h:cK b=true) :hv b<16:=by
  rw [dN] at h
  unfold hv
  split<;>omega
theorem Gq(l:List UInt8)(a:Nat) :l.foldl (fun a b=>a*16+hv b) a=a*16^l.length+dJ l:=by
  unfold dJ
  induction l generalizing a with
  | nil=>simp
  | cons b l ih =>
    rw [List.foldl_cons,List.foldl_cons,ih,ih (0*16+hv b),List.length_cons,Nat.pow_succ,Nat.add_mul,Nat.zero_mul,Nat.zero_add]
    have:a*16*16^l.length=a*(16^l.length*16):=by rw [Nat.mul_assoc,Nat.mul_comm 16]
    omega
theorem nr(a b:List UInt8) :dJ (a++b)=dJ a*16^b.length+dJ b:=by
  rw [dJ,List.foldl_append,Gq]
  rfl
theorem qr:∀ l:List UInt8,(∀ c∈l,cK c=true)→dJ l<16^l.length
  | [],_=>by simp [dJ]
  | c::l,h=>by
    have h1:=qr l fun x hx=>h x (List.mem_cons_of_mem _ hx)
    have h2:=zP (h c (List.mem_cons_self ..))
    have e:dJ (c::l)=hv c*16^l.length+dJ l:=by
      have:=nr [c] l
      simpa [dJ] using this
    rw [e,List.length_cons,Nat.pow_succ]
    have:hv c*16^l.length≤15*16^l.length:=Nat.mul_le_mul_right _ (by omega)
    omega
theorem A2{l:List UInt8}(h:∀ c∈l,cK c=true){j:Nat}{c:UInt8}(hj:l[j]? = some c) :dJ l/16^(l.length-1-j)%16=hv c:=by
  have hlt:=(List.getElem?_eq_some_iff.1 hj).1
  have e:l=l.take j++[c]++l.drop (j+1):=by
    have h1:l.take (j+1)=l.take j++[c]:=by rw [List.take_add_one,hj];rfl
    rw [←h1,List.take_append_drop]
  have hd:=qr (l.drop (j+1)) fun x hx=>h x (List.mem_of_mem_drop hx)
  have hl:(l.drop (j+1)).length=l.length-1-j:=by rw [List.length_drop];omega
  rw [hl] at hd
  have e2:dJ l=(dJ (l.take j)*16+hv c)*16^(l.length-1-j)+dJ (l.drop (j+1)):=by
    conv=>lhs;rw [e]
    rw [nr,nr,hl]
    simp [dJ]
  rw [e2,Nat.add_comm,Nat.add_mul_div_right _ _ (Nat.pow_pos (by decide)),Nat.div_eq_of_lt hd,Nat.zero_add,Nat.mul_comm,Nat.mul_add_mod]
  exact Nat.mod_eq_of_lt (zP (h c (List.mem_of_getElem? hj)))
theorem CL(w:Int) :∀ z∈eS w,∃ b:UInt8,cK b=true∧z=(b.toNat:Int):=by
  intro z hz
  simp only [eS,List.mem_map,List.mem_range] at hz
  obtain ⟨j,hj,rfl⟩:=hz
  have h:=BI w j
  rw [yq h]
  refine ⟨UInt8.ofNat (if dg w j<10 then 48+dg w j else 55+dg w j),?_,?_⟩
  · rw [dN]
    split<;>(rw [UInt8.toNat_ofNat'];omega)
  · split<;>(rw [UInt8.toNat_ofNat'];omega)
theorem nt(l:List Int) :(r6 l).data.toList=l.map fun n=>UInt8.ofNat n.toNat:=by
  have key:∀ (l:List Int) (r:ByteArray),(l.foldl (fun r n=>r.push (UInt8.ofNat n.toNat)) r).data.toList=r.data.toList++l.map fun n=>UInt8.ofNat n.toNat:=by
    intro l
    induction l with
    | nil=>intro r;simp
    | cons x l ih =>
      intro r
      rw [List.foldl_cons,ih]
      simp [ByteArray.push]
  have:=key l ByteArray.empty
  simpa [r6] using this
theorem rN(w:Int) :∀ c∈(aN w).data.toList,cK c=true:=by
  intro c hc
  rw [aN,nt,List.mem_map] at hc
  obtain ⟨z,hz,rfl⟩:=hc
  obtain ⟨b,hb,rfl⟩:=CL w z hz
  simpa using hb
theorem EM{b:UInt8}(h:cK b=true) :CT (b.toNat:Int)=hv b:=by
  rw [dN] at h
  unfold CT hv
  repeat' split
  all_goals omega
theorem CM{a:Nat}(ha:a*16+15<18446744073709551616){b:UInt8}(h:cK b=true) :zE (a:Int) (b.toNat:Int)=((a*16+hv b:Nat):Int):=by
  have hb:=zP h
  unfold zE
  rw [EM h]
  have w64:∀ n:Nat,n<18446744073709551616→IntKind.u64.wrap (n:Int)=(n:Int):=fun n hn=>by
    show ((n:Int)%18446744073709551616)=_
    omega
  have e1:bits .and .i64 ((hv b:Nat):Int) 15=((hv b:Nat):Int):=by
    have hall:∀ n:Fin 16,bits .and .i64 ((n.val:Nat):Int) 15=((n.val:Nat):Int):=by decide +kernel
    exact hall ⟨hv b,hb⟩
  have e2:((a:Int)*16)=((a*16:Nat):Int):=by omega
  rw [e1,e2,w64 _ (by omega),w64 _ (by omega)]
  show IntKind.u64.wrap ((BitVec.ofInt 64 ((a*16:Nat):Int) ||| BitVec.ofInt 64 ((hv b:Nat):Int)).toNat:Int)=_
  have e3:(BitVec.ofInt 64 ((a*16:Nat):Int) ||| BitVec.ofInt 64 ((hv b:Nat):Int)).toNat=a*16+hv b:=by
    rw [BitVec.toNat_or,BitVec.toNat_ofInt,BitVec.toNat_ofInt]
    have f1:(((a*16:Nat):Int)%((2^64:Nat):Int)).toNat=a*16:=by
      have:((2^64:Nat):Int)=18446744073709551616:=by decide
      rw [this];omega
    have f2:(((hv b:Nat):Int)%((2^64:Nat):Int)).toNat=hv b:=by
      have:((2^64:Nat):Int)=18446744073709551616:=by decide
      rw [this];omega
    rw [f1,f2]
    have:=Nat.two_pow_add_eq_or_of_lt (i:=4) (b:=hv b) (by omega) a
    rw [Nat.mul_comm a 16]
    exact this.symm
  rw [e3]
  exact w64 _ (by omega)
theorem rO(s:ByteArray)(hs:∀ c∈s.data.toList,cK c=true)(h16:s.size≤16) :∀ (f pos:Nat) (a:Nat),s.size≤pos+f→a<16^pos→hU s f pos (a:Int)=(((s.data.toList.drop pos).foldl (fun a b=>a*16+hv b) a:Nat):Int)
  | 0,pos,a,hf,_=>by
    rw [List.drop_of_length_le (by simp only [Array.length_toList];exact hf)]
    rfl
  | f + 1, pos, a, hf, ha => by
    by_cases hp:pos<s.size
    · have hp':pos<s.data.toList.length:=by simpa using hp
      have hc:cK (s[pos]'hp)=true:=hs _ (by simp [ByteArray.getElem_eq_getElem_data])
      have h1:=(dN _).1 hc
      have hdec:=decode_ascii s pos hp (by omega)
      have hlt:a*16+hv (s[pos]'hp)<16^(pos+1):=by
        have:=zP hc
        rw [Nat.pow_succ]
        omega
      have hbig:a*16+15<18446744073709551616:=by
        have h3:16^(pos+1)≤16^16:=Nat.pow_le_pow_right (by decide) (by omega)
        have h4:(16:Nat)^16=18446744073709551616:=by decide
        rw [Nat.pow_succ] at h3
        omega
      have ih:=rO s hs h16 f (pos+1) (a*16+hv (s[pos]'hp)) (by omega) hlt
      rw [hU,if_pos hp,hdec]
      show hU s f (pos+1) (zE (a:Int) (((s[pos]'hp).toNat:Nat):Int))=_
      rw [CM hbig hc,ih,List.drop_eq_getElem_cons hp',List.foldl_cons]
      rfl
    · rw [xi s _ pos _ hp,List.drop_of_length_le (by simp only [Array.length_toList];exact Nat.le_of_not_lt hp)]
      rfl
theorem Ec{s:ByteArray}(hs:∀ c∈s.data.toList,cK c=true)(h16:s.size=16) :aN ((dJ s.data.toList:Nat):Int)=s:=by
  apply toList_inj
  rw [Lib.toList_data,Lib.toList_data,aN,nt,eS]
  have hl:s.data.toList.length=16:=by simpa using h16
  apply List.ext_getElem?
  intro j
  by_cases hj:j<16
  · obtain ⟨c,hc⟩:∃ c,s.data.toList[j]? = some c:=⟨_,List.getElem?_eq_getElem (by omega)⟩
    have hx:=hs c (List.mem_of_getElem? hc)
    have hd:=A2 hs hc
    rw [hl] at hd
    have hdg:dg ((dJ s.data.toList:Nat):Int) j=hv c:=by
      unfold dg
      have e1:(2:Int)^(60-4*j)=((16^(16-1-j):Nat):Int):=by
        have:(60-4*j)=4*(16-1-j):=by omega
        rw [this,Int.pow_mul]
        simp
      rw [e1,Int.fdiv_eq_ediv_of_nonneg _ (Int.natCast_nonneg _),←Int.natCast_ediv,←hd]
      omega
    rw [hc,List.getElem?_map,List.getElem?_map,List.getElem?_range hj]
    show some (UInt8.ofNat (aA hH (dg _ j)).toNat)=some c
    rw [hdg,yq (zP hx)]
    congr 1
    have hi:=(dN c).1 hx
    have e2:(if hv c<10 then (48+(hv c:Int)) else 55+(hv c:Int)).toNat=c.toNat:=by
      unfold hv
      split<;>split<;>omega
    rw [e2]
    exact UInt8.ofNat_toNat
  · rw [List.getElem?_eq_none (by simp;omega),List.getElem?_eq_none (by omega)]
theorem zQ(s:ByteArray) :cF s=(decide (s.size=16)&&s.data.toList.all cK):=by
  by_cases h16:s.size=16
  · by_cases hs:∀ c∈s.data.toList,cK c=true
    · have hf:=rO s hs (by omega) s.size 0 0 (by omega) (by decide)
      have ht:=Ec hs h16
      unfold cF
      rw [show ((0:Nat):Int)=0 from rfl] at hf
      rw [hf,List.drop_zero]
      rw [show (s.data.toList.foldl (fun a b=>a*16+hv b) 0)=dJ s.data.toList from rfl,ht,decide_eq_true h16,decide_eq_true rfl,List.all_eq_true.2 hs]
    · have hn : ¬ aN (hU s s.size 0 0)=s:=fun e=>hs (e ▸ rN _)
      unfold cF
      rw [decide_eq_false hn,Bool.and_false]
      have:s.data.toList.all cK=false:=by
        cases hq:s.data.toList.all cK with
        | false=>rfl
        | true=>exact absurd (List.all_eq_true.1 hq) hs
      rw [this,Bool.and_false]
  · unfold cF
    rw [decide_eq_false h16]
    rfl
theorem Ed{s:ByteArray}(h:cF s=true) :d9 s=(dJ s.data.toList:Nat):=by
  have h1:=h
  rw [zQ,Bool.and_eq_true,List.all_eq_true] at h1
  have h16:=of_decide_eq_true h1.1
  have hf:=rO s h1.2 (by omega) s.size 0 0 (by omega) (by decide)
  rw [show ((0:Nat):Int)=0 from rfl,List.drop_zero] at hf
  rw [d9,h]
  exact hf
end Go.Plb.Seat
namespace Go.Plb
set_option linter.unusedSimpArgs false
set_option linter.unusedVariables false
def aF:List UInt8→List (List UInt8)
  | []=>[[]]
  | c::r=>if c=32 then []::aF r else (c::(aF r).headD [])::(aF r).tail
theorem xm(r:List UInt8) :aF ((32:UInt8)::r)=[]::aF r:=by rw [aF];simp
theorem qs{b:UInt8}(h:b≠32)(r:List UInt8) :aF (b::r)=(b::(aF r).headD [])::(aF r).tail:=by rw [aF,if_neg h]
theorem CN:∀ l,aF l≠[]
  | []=>by simp [aF]
  | c::r=>by unfold aF;split<;>simp
theorem so(l:List UInt8) :aF l=(aF l).headD []::(aF l).tail:=by
  have:=CN l
  cases h:aF l with
  | nil=>exact absurd h this
  | cons a b=>rfl
theorem ig:∀ l:List UInt8,(∀ c∈l,c≠32)→aF l=[l]
  | [],_=>rfl
  | c::r,h=>by
    have h1:=ig r fun x hx=>h x (List.mem_cons_of_mem _ hx)
    rw [qs (h c (List.mem_cons_self ..)),h1]
    rfl
theorem lR:∀ (a b:List UInt8),(∀ c∈a,c≠32)→aF (a++32::b)=a::aF b
  | [],b,_=>by simp [aF]
  | c::a,b,h=>by
    have h1:=lR a b fun x hx=>h x (List.mem_cons_of_mem _ hx)
    rw [List.cons_append,qs (h c (List.mem_cons_self ..)),h1]
    rfl
theorem vq:∀ l:List UInt8,Lib.indexByte l 32<0→∀ c∈l,c≠32
  | [],_,c,hc=>by cases hc
  | b::l,h,c,hc=>by
    unfold Lib.indexByte at h
    have hge:=Lib.indexByte_ge l 32
    split at h
    · omega
    · rename_i hb
      split at h
      · rename_i h1
        have h2:Lib.indexByte l 32<0:=by
          have:=eq_of_beq h1
          omega
        rcases List.mem_cons.1 hc with rfl | hc
        · simpa using hb
        · exact vq l h2 c hc
      · rename_i h1
        have h2:Lib.indexByte l 32 ≠ -1:=fun e=>h1 (by rw [e];rfl)
        omega
theorem vr:∀ (l:List UInt8) (n:Nat),Lib.indexByte l 32=(n:Int)→n<l.length∧l=l.take n++32::l.drop (n+1)∧∀ c∈l.take n,c≠32
  | [],n,h=>by simp [Lib.indexByte] at h
  | b::l,n,h=>by
    unfold Lib.indexByte at h
    have hge:=Lib.indexByte_ge l 32
    split at h
    · rename_i hb
      have hb:b=32:=eq_of_beq hb
      have:n=0:=by omega
      subst this
      subst hb
      exact ⟨by simp,by simp,fun c hc=>by simp at hc⟩
    · rename_i hb
      split at h
      · omega
      · rename_i h1
        obtain ⟨m,rfl⟩:∃ m,n=m+1:=⟨n-1,by
          have h2:Lib.indexByte l 32 ≠ -1:=fun e=>h1 (by rw [e];rfl)
          omega⟩
        obtain ⟨g1,g2,g3⟩:=vr l m (by omega)
        refine ⟨by simp;omega,?_,fun c hc=>?_⟩
        · rw [List.take_succ_cons,List.drop_succ_cons,List.cons_append,←g2]
        · rw [List.take_succ_cons] at hc
          rcases List.mem_cons.1 hc with rfl | hc
          · simpa using hb
          · exact g3 c hc
theorem su:∀ (l:List UInt8) (c:UInt8),aF (l++[c])=if c=32 then aF l++[[]] else (aF l).dropLast++[((aF l).getLastD [])++[c]]
  | [],c=>by
    by_cases h:c=32
    · subst h;rfl
    · simp [aF,h]
  | b::l,c=>by
    have ih:=su l c
    have hl:=so l
    by_cases hb:b=32
    · subst hb
      have e1:∀ r,aF ((32:UInt8)::r)=[]::aF r:=fun r=>by rw [aF];simp
      rw [List.cons_append,e1,e1,ih]
      by_cases h:c=32
      · rw [if_pos h,if_pos h];rfl
      · rw [if_neg h,if_neg h,hl]
        simp [List.dropLast,List.getLastD]
    · have e1:∀ r,aF (b::r)=(b::(aF r).headD [])::(aF r).tail:=fun r=>by rw [aF,if_neg hb]
      rw [List.cons_append,e1,e1,ih]
      by_cases h:c=32
      · rw [if_pos h,if_pos h,hl]
        simp
      · rw [if_neg h,if_neg h,hl]
        generalize (aF l).headD []=x
        generalize (aF l).tail=y
        cases y with
        | nil=>simp
        | cons z y=>simp [List.dropLast,List.getLastD]
end Go.Plb
namespace Go.Plb.Seat
open Go Go.Plb
set_option linter.unusedSimpArgs false
set_option linter.unusedVariables false
set_option maxRecDepth 100000
def jQ(l:List UInt8) :Bool:=decide (l.length=16)&&l.all cK
theorem yA(s:ByteArray) :cF s=jQ s.data.toList:=by
  rw [zQ]
  rfl
theorem gY(s:ByteArray)(a b:Nat) :(s.extract a b).data.toList=(s.data.toList.drop a).take (b-a):=by
  rw [ByteArray.data_extract,Array.toList_extract]
def fY(s:ByteArray) :Nat→Nat×List ByteArray
  | 0=>(0,[])
  | j+1=>if j=s.size∨aA s j=32 then (j+1,(fY s j).2++[s.extract (fY s j).1 j]) else fY s j
def aB(s:ByteArray) :List ByteArray:=(fY s (s.size+1)).2
theorem A3(s:ByteArray) :∀ j,(fY s j).1≤j∧(fY s j).2.length≤j
  | 0=>⟨Nat.le_refl _,Nat.le_refl _⟩
  | j+1=>by
    have:=A3 s j
    unfold fY
    split
    · exact ⟨Nat.le_refl _,by simp;omega⟩
    · exact ⟨by omega,by omega⟩
theorem vt(s:ByteArray)(hs:s.size≤1000000000) :cB s=some (.r0 (aB s).length (aB s).length (aB s)):=by
  unfold cB
  refine bG (ak rfl (ak (a:=((aB s).length,(aB s).length,aB s)) (eR (fun j=>((fY s j).2.length,(fY s j).2.length,(fY s j).1,j,(fY s j).2)) (s.size+1) rfl (fun j hj=>?_) ?_) rfl))
  · have hw:=A3 s j
    have hi:iS .i64 (((j+1:Nat)):Int)=true:=by rw [bt];omega
    have g1:gZ (((fY s j).2.length+1)*16) 140737488355328=true:=by rw [gM];omega
    have g2:gZ ((fY s j).2.length+1) 9223372036854775807=true:=by rw [gM];omega
    have g3:gZ (fY s j).2.length (List.length (fY s j).2)=true:=by rw [gM];exact Nat.le_refl _
    have hz:List.take (fY s j).2.length (fY s j).2++List.take 1 [s.extract (fY s j).1 j]=(fY s j).2++[s.extract (fY s j).1 j]:=by rw [List.take_length];rfl
    by_cases he:j=s.size
    · have e1:fY s (j+1)=(j+1,(fY s j).2++[s.extract (fY s j).1 j]):=by rw [fY,if_pos (.inl he)]
      refine ak (a:=((fY s j).2.length+1,(fY s j).2.length+1,j+1,(fY s j).2++[s.extract (fY s j).1 j])) ?_ ?_
      · rw [←hz]
        exact d5 (decide_eq_true (by omega)) (d5 (beq_iff_eq.2 (by omega)) (au (by rw [lY];omega) (au (by rw [lY];omega) (au g1 (au g2 (dX (au g3 (au hi rfl))))))))
      · rw [e1]
        simp only [List.length_append,List.length_cons,List.length_nil]
        exact au hi rfl
    · have hb1 : ¬ ((j:Int)==(s.size:Int))=true:=by rw [beq_iff_eq];omega
      have hb:((j:Int)==(s.size:Int))=false:=by simpa using hb1
      by_cases h32:aA s j=32
      · have e1:fY s (j+1)=(j+1,(fY s j).2++[s.extract (fY s j).1 j]):=by rw [fY,if_pos (.inr h32)]
        refine ak (a:=((fY s j).2.length+1,(fY s j).2.length+1,j+1,(fY s j).2++[s.extract (fY s j).1 j])) ?_ ?_
        · rw [←hz]
          exact d5 (decide_eq_true (by omega)) (cW hb (au (by rw [dY];omega) (d5 (beq_iff_eq.2 h32) (au (by rw [lY];omega) (au (by rw [lY];omega) (au g1 (au g2 (dX (au g3 (au hi rfl))))))))))
        · rw [e1]
          simp only [List.length_append,List.length_cons,List.length_nil]
          exact au hi rfl
      · have e1:fY s (j+1)=fY s j:=by rw [fY,if_neg (fun c=>c.elim he h32)]
        refine ak (a:=((fY s j).2.length,(fY s j).2.length,(fY s j).1,(fY s j).2)) ?_ ?_
        · exact d5 (decide_eq_true (by omega)) (cW hb (au (by rw [dY];omega) (cW (beq_eq_false_iff_ne.2 h32) rfl)))
        · rw [e1]
          exact au hi rfl
  · refine cE (cW (decide_eq_false (by omega)) rfl)
theorem xn(s:ByteArray) :∀ j,j≤s.size→aF (s.data.toList.take j)=(fY s j).2.map (fun x=>x.data.toList)++[(s.data.toList.drop (fY s j).1).take (j-(fY s j).1)]
  | 0,_=>by simp [aF,fY]
  | j + 1, h => by
    have ih:=xn s j (by omega)
    have hw:=A3 s j
    have hl:j<s.data.toList.length:=by simp;omega
    obtain ⟨b,hb⟩:∃ b,s.data.toList[j]? = some b:=⟨_,List.getElem?_eq_getElem hl⟩
    have ht:s.data.toList.take (j+1)=s.data.toList.take j++[b]:=by rw [List.take_add_one,hb];rfl
    have hby:aA s j=(b.toNat:Int):=by
      unfold aA
      rw [←Array.getElem?_toList,hb]
      rfl
    rw [ht,su,ih]
    by_cases h32:b=32
    · have e1:fY s (j+1)=(j+1,(fY s j).2++[s.extract (fY s j).1 j]):=by rw [fY,if_pos (.inr (by rw [hby,h32];rfl))]
      rw [if_pos h32,e1]
      simp [gY]
    · have hne : ¬ (j=s.size∨aA s j=32):=by
        rintro (q | q)
        · omega
        · rw [hby] at q
          exact h32 (UInt8.toNat_inj.1 (by show b.toNat=32;omega))
      have e1:fY s (j+1)=fY s j:=by rw [fY,if_neg hne]
      rw [if_neg h32,e1,List.dropLast_concat]
      congr 1
      have e2:j+1-(fY s j).1=(j-(fY s j).1)+1:=by omega
      rw [e2,List.take_add_one,List.getElem?_drop]
      rw [show (fY s j).1+(j-(fY s j).1)=j by omega,hb]
      simp
theorem nu(s:ByteArray) :(aB s).map (fun x=>x.data.toList)=aF s.data.toList:=by
  have h:=xn s s.size (Nat.le_refl _)
  rw [List.take_of_length_le (by simp)] at h
  unfold aB
  rw [fY,if_pos (.inl rfl),h]
  simp [gY]
theorem A4{s:ByteArray}{i:Nat}{b:UInt8}(h:s.data.toList[i]? = some b) :aA s i=(b.toNat:Int):=by
  unfold aA
  rw [←Array.getElem?_toList,h]
  rfl
theorem w8{z:Int}(h:0≤z)(h2:z<256) :IntKind.u8.wrap z=z:=by
  show z%256=z
  omega
theorem A5{z:Int}(h:0≤z)(h2:z<18446744073709551616) :IntKind.u64.wrap z=z:=by
  show z%18446744073709551616=z
  omega
theorem xo{s:ByteArray}{i:Nat}{b:UInt8}(hs:s.size=16)(hi:i<16)(hb:s.data.toList[i]? = some b)(w:Nat)(hw:w*16+15<18446744073709551616) :
    (fQ s (w:Int) i).run=if cK b=true then some (.inl ((w*16+hv b:Nat):Int)) else some (.inr (.inr (.r0 0 4))):=by
  have hby:=A4 hb
  have h0:decide ((i:Int)<16)=true:=decide_eq_true (by omega)
  have h1:nR (i:Int) s.size=true:=by rw [dY];omega
  have hlt:b.toNat<256:=b.toNat_lt
  unfold fQ
  rw [hby]
  refine d5 h0 (au h1 ?_)
  by_cases c1:48≤b.toNat
  · refine d5 (decide_eq_true (by omega)) ?_
    by_cases c2:b.toNat≤57
    · have hx:cK b=true:=(dN b).2 (.inl ⟨c1,c2⟩)
      rw [if_pos hx]
      refine d5 (decide_eq_true (by omega)) ?_
      have e:hv b=b.toNat-48:=by unfold hv;rw [if_pos c2]
      rw [T.run]
      congr 2
      have q1:=A5 (z:=(w:Int)*16) (by omega) (by omega)
      have q2:=A5 (z:=(b.toNat:Int)-48) (by omega) (by omega)
      rw [w8 (by omega) (by omega),q1,q2,A5 (by omega) (by omega),e]
      omega
    · refine cW (decide_eq_false (by omega)) ?_
      by_cases c3:65≤b.toNat
      · refine d5 (decide_eq_true (by omega)) ?_
        by_cases c4:b.toNat≤70
        · have hx:cK b=true:=(dN b).2 (.inr ⟨c3,c4⟩)
          rw [if_pos hx]
          refine d5 (decide_eq_true (by omega)) ?_
          have e:hv b=b.toNat-55:=by unfold hv;rw [if_neg c2]
          rw [T.run]
          congr 2
          have q1:=A5 (z:=(w:Int)*16) (by omega) (by omega)
          have q2:=A5 (z:=(b.toNat:Int)-65+10) (by omega) (by omega)
          rw [w8 (z:=(b.toNat:Int)-65) (by omega) (by omega),w8 (by omega) (by omega),q1,q2,A5 (by omega) (by omega),e]
          omega
        · have hx : ¬ cK b=true:=fun q=>by rw [dN] at q;omega
          rw [if_neg hx]
          exact cW (decide_eq_false (by omega)) rfl
      · have hx : ¬ cK b=true:=fun q=>by rw [dN] at q;omega
        rw [if_neg hx]
        exact cW (decide_eq_false (by omega)) rfl
  · have hx : ¬ cK b=true:=fun q=>by rw [dN] at q;omega
    rw [if_neg hx]
    exact cW (decide_eq_false (by omega)) (cW (decide_eq_false (by omega)) rfl)
theorem nN:∀ l:List UInt8,(∀ c∈l,cK c=true)∨∃ n c,l[n]? = some c∧¬ cK c=true∧∀ x∈l.take n,cK x=true
  | []=>.inl fun _ h=>by cases h
  | c::l=>by
    by_cases hc:cK c=true
    · rcases nN l with h | ⟨n,d,h1,h2,h3⟩
      · exact .inl fun x hx=>by
          rcases List.mem_cons.1 hx with rfl | hx
          · exact hc
          · exact h x hx
      · exact .inr ⟨n+1,d,by simpa using h1,h2,fun x hx=>by
          rw [List.take_succ_cons] at hx
          rcases List.mem_cons.1 hx with rfl | hx
          · exact hc
          · exact h3 x hx⟩
    · exact .inr ⟨0,c,rfl,hc,fun x hx=>by simp at hx⟩
theorem wM(s:ByteArray) :eB s=some (.r0 (bif jQ s.data.toList then ((dJ s.data.toList:Nat):Int) else 0) (bif jQ s.data.toList then 0 else 4)):=by
  unfold eB
  by_cases hs:s.size=16
  · have hl:s.data.toList.length=16:=by simpa using hs
    have h11:(nk s).run=some (.inl ()):=cW (bne_eq_false_iff_eq.2 (by omega)) rfl
    have step:∀ j,j<16→(∀ x∈s.data.toList.take (j+1),cK x=true)→ef s (((dJ (s.data.toList.take j):Nat):Int),j)=some (.inl (((dJ (s.data.toList.take (j+1)):Nat):Int),j+1)):=by
      intro j hj hx
      obtain ⟨b,hb⟩:∃ b,s.data.toList[j]? = some b:=⟨_,List.getElem?_eq_getElem (by omega)⟩
      have ht:s.data.toList.take (j+1)=s.data.toList.take j++[b]:=by rw [List.take_add_one,hb];rfl
      have hxb:cK b=true:=hx b (by rw [ht];simp)
      have hlt:=qr (s.data.toList.take j) fun x q=>hx x (by rw [ht];exact List.mem_append_left _ q)
      have hp:16^(s.data.toList.take j).length≤16^15:=Nat.pow_le_pow_right (by decide) (by rw [List.length_take];omega)
      have h15:(16:Nat)^15=1152921504606846976:=by decide
      have hr:=xo hs hj hb (dJ (s.data.toList.take j)) (by omega)
      rw [if_pos hxb] at hr
      refine ak hr ?_
      have e:dJ (s.data.toList.take (j+1))=dJ (s.data.toList.take j)*16+hv b:=by rw [ht,nr];simp [dJ]
      rw [e]
      exact au (by rw [bt];omega) rfl
    rcases nN s.data.toList with hall | ⟨n,c,h1,h2,h3⟩
    · have ho:jQ s.data.toList=true:=by unfold jQ;rw [decide_eq_true hl,List.all_eq_true.2 hall];rfl
      rw [ho]
      refine bG (ak h11 (ak (a:=((dJ s.data.toList:Nat):Int)) (eR (fun j=>(((dJ (s.data.toList.take j):Nat):Int),j)) 16 rfl (fun j hj=>step j hj fun x hx=>hall x (List.mem_of_mem_take hx)) ?_) rfl))
      rw [List.take_of_length_le (by omega)]
      have h9:(fQ s ((dJ s.data.toList:Nat):Int) 16).run=some (.inr (.inl ((dJ s.data.toList:Nat):Int))):=cW (decide_eq_false (show ¬ (((16:Nat):Int)<16) by decide)) rfl
      simp only [ef]
      exact cE h9
    · have hn:n<16:=by have:=(List.getElem?_eq_some_iff.1 h1).1;omega
      have ho:jQ s.data.toList=false:=by
        unfold jQ
        have:s.data.toList.all cK=false:=by
          cases hq:s.data.toList.all cK with
          | false=>rfl
          | true=>exact absurd (List.all_eq_true.1 hq c (List.mem_of_getElem? h1)) h2
        rw [this,Bool.and_false]
      rw [ho]
      refine bG (ak h11 (cE (eR (fun j=>(((dJ (s.data.toList.take j):Nat):Int),j)) n rfl (fun j hj=>step j (by omega) fun x hx=>h3 x ?_) ?_)))
      · have:s.data.toList.take (j+1)=(s.data.toList.take n).take (j+1):=by rw [List.take_take];congr 1;omega
        rw [this] at hx
        exact List.mem_of_mem_take hx
      · have hlt:=qr (s.data.toList.take n) h3
        have hp:16^(s.data.toList.take n).length≤16^15:=Nat.pow_le_pow_right (by decide) (by rw [List.length_take];omega)
        have h15:(16:Nat)^15=1152921504606846976:=by decide
        have hr:=xo hs hn h1 (dJ (s.data.toList.take n)) (by omega)
        rw [if_neg h2] at hr
        exact cE hr
  · have ho:jQ s.data.toList=false:=by
      unfold jQ
      rw [decide_eq_false (by simpa using hs)]
      rfl
    rw [ho]
    exact bG (cE (d5 (bne_iff_ne.2 (by omega)) rfl))
theorem Ee(w:Int){j:Nat}(hj:j<16) :(eS w).take (j+1)=(eS w).take j++[aA hH (dg w j)]:=by
  have h:(eS w)[j]? = some (aA hH (dg w j)):=by simp [eS,hj]
  rw [List.take_add_one,h]
  rfl
theorem wN(w:Int) :dw w=some (.r0 (aN w)):=by
  unfold dw
  refine bG (ak rfl (ak (a:=(16,16,eS w)) (eR (fun j=>(j,j,(60:Int)-((4*j:Nat):Int),(eS w).take j)) 16 rfl (fun j hj=>?_) ?_) ?_))
  · have hd:=BI w j
    have e1:IntKind.u64.wrap ((60:Int)-((4*j:Nat):Int))=(60:Int)-((4*j:Nat):Int):=A5 (by omega) (by omega)
    have hl:((eS w).take j).length=j:=by rw [List.length_take,kC];omega
    have hn:List.take j ((eS w).take j)++List.take 1 [aA hH (dg w j)]=(eS w).take (j+1):=by
      rw [Ee w hj,List.take_of_length_le (by omega)];rfl
    have e2:(60:Int)-((4*(j+1):Nat):Int)=(60:Int)-((4*j:Nat):Int)-4:=by omega
    simp only [eh,ju]
    rw [e1,BJ w hj,e2,←hn]
    exact d5 (decide_eq_true (by omega)) (au (decide_eq_true (by omega)) (au (by rw [dY];exact ⟨by omega,by show ((dg w j:Nat):Int)<((16:Nat):Int);omega⟩) (au (by rw [gM];omega) (au (by rw [gM];omega) (dX (au (by rw [gM,hl];exact Nat.le_refl _) (au (by rw [bt];omega) rfl)))))))
  · have e:(eS w).take 16=eS w:=List.take_of_length_le (by rw [kC];exact Nat.le_refl _)
    simp only [eh,ju]
    rw [e]
    exact cW (decide_eq_false (by omega)) rfl
  · show (nl 16 (eS w)).run=_
    have e:(eS w).take 16=eS w:=List.take_of_length_le (by rw [kC];exact Nat.le_refl _)
    refine au (by rw [gM,kC];exact Nat.le_refl _) ?_
    rw [e]
    rfl
def zR(x:ByteArray) :Int:=bif jQ x.data.toList then ((dJ x.data.toList:Nat):Int) else 0
theorem xp{a b:ByteArray}(h:a.data.toList=b.data.toList) :a=b:=by
  obtain ⟨a⟩:=a
  obtain ⟨b⟩:=b
  exact congrArg ByteArray.mk (Array.toList_inj.1 h)
theorem gD(a b:ByteArray) :(a.toList==b.toList)=decide (a=b):=by
  rw [Lib.toList_data,Lib.toList_data]
  by_cases h:a=b
  · rw [h,decide_eq_true rfl];simp
  · rw [decide_eq_false h,beq_eq_false_iff_ne]
    exact fun q=>h (xp q)
theorem EN(s:ByteArray) :B3 s 32=Lib.indexByte s.data.toList 32:=Lib.firstIdx_eq s 32
theorem EO(s:ByteArray) :B4 s 32=((s.data.toList.count 32:Nat):Int):=by
  have h:=Lib.count_foldl 32 s.data.toList 0
  rw [Int.zero_add] at h
  rw [←Lib.foldl_data] at h
  exact h
theorem gE:∀ l:List UInt8,(aF l).length=l.count 32+1
  | []=>rfl
  | c::r=>by
    have ih:=gE r
    by_cases h:c=32
    · subst h
      rw [xm,List.length_cons,ih,List.count_cons_self]
    · rw [qs h,List.length_cons,List.length_tail,ih,List.count_cons_of_ne (fun q=>h q)]
      omega
theorem Ef(s:ByteArray) :ac s (ByteArray.mk #[32])=some (.r0 (Lib.indexByte s.data.toList 32)):=by
  unfold ac
  refine bG (aP ?_)
  by_cases h:s=ByteArray.mk #[32]
  · subst h
    exact d5 (by rw [gD];exact decide_eq_true rfl) rfl
  · refine cW (by rw [gD];exact decide_eq_false fun q=>h q.symm) (bJ (dX ?_))
    show some (Sum.inr (aw.r0 (B3 s 32)))=_
    rw [EN]
theorem Eg(s:ByteArray) :cr s (ByteArray.mk #[32])=some (.r0 ((s.data.toList.count 32:Nat):Int)):=by
  unfold cr
  refine bG (cE (aP (bJ (dX ?_))))
  show some (Sum.inr (aV.r0 (B4 s 32)))=_
  rw [EO]
def ii(s:ByteArray) :Nat→ByteArray×List ByteArray
  | 0=>(s,[])
  | j+1=>((ii s j).1.extract ((Lib.indexByte (ii s j).1.data.toList 32).toNat+1) (ii s j).1.size,(ii s j).2++[(ii s j).1.extract 0 (Lib.indexByte (ii s j).1.data.toList 32).toNat])
structure GE (s:ByteArray) (j:Nat) (p:ByteArray×List ByteArray):Prop where
  rest:aF p.1.data.toList=(aF s.data.toList).drop j
  done:p.2.map (fun x=>x.data.toList)=(aF s.data.toList).take j
  len:p.2.length=j
  size:p.1.size≤s.size
theorem zS{s:ByteArray}{j:Nat}{r:ByteArray}(hr:aF r.data.toList=(aF s.data.toList).drop j)(hj:j<s.data.toList.count 32) :∃ n:Nat,Lib.indexByte r.data.toList 32=(n:Int)∧n<r.size∧r.data.toList=r.data.toList.take n++32::r.data.toList.drop (n+1)∧∀ c∈r.data.toList.take n,c≠32:=by
  have hge:=Lib.indexByte_ge r.data.toList 32
  by_cases hneg:Lib.indexByte r.data.toList 32<0
  · have h1:=ig _ (vq _ hneg)
    rw [hr] at h1
    have h2:=congrArg List.length h1
    rw [List.length_drop,gE] at h2
    simp only [List.length_cons,List.length_nil] at h2
    omega
  · obtain ⟨n,hn⟩:=Int.eq_ofNat_of_zero_le (Int.not_lt.1 hneg)
    have hn:Lib.indexByte r.data.toList 32=(n:Int):=hn
    obtain ⟨g1,g2,g3⟩:=vr _ n hn
    exact ⟨n,hn,by simpa using g1,g2,g3⟩
theorem Eh(s:ByteArray) :∀ j,j≤s.data.toList.count 32→GE s j (ii s j)
  | 0,_=>⟨rfl,rfl,rfl,Nat.le_refl _⟩
  | j+1,h=>by
    have ih:=Eh s j (by omega)
    obtain ⟨n,hn,hl,hs,hb⟩:=zS ih.rest (by omega)
    have hsz:(ii s j).1.data.toList.length=(ii s j).1.size:=by simp
    have hx:((ii s j).1.extract 0 n).data.toList=(ii s j).1.data.toList.take n:=by rw [gY];simp
    have hy:((ii s j).1.extract (n+1) (ii s j).1.size).data.toList=(ii s j).1.data.toList.drop (n+1):=by
      rw [gY]
      apply List.take_of_length_le
      rw [List.length_drop]
      omega
    have hsp:aF (ii s j).1.data.toList=(ii s j).1.data.toList.take n::aF ((ii s j).1.data.toList.drop (n+1)):=by
      conv=>lhs;rw [hs]
      exact lR _ _ hb
    have hr:=ih.rest
    rw [hsp] at hr
    have hj:j<(aF s.data.toList).length:=by rw [gE];omega
    rw [List.drop_eq_getElem_cons hj] at hr
    injection hr with hr1 hr2
    have e1:(ii s (j+1)).1=(ii s j).1.extract (n+1) (ii s j).1.size:=by rw [ii,hn];rfl
    have e2:(ii s (j+1)).2=(ii s j).2++[(ii s j).1.extract 0 n]:=by rw [ii,hn];rfl
    refine ⟨?_,?_,?_,?_⟩
    · rw [e1,hy,hr2]
    · rw [e2,List.map_append,ih.done,List.take_add_one,List.getElem?_eq_getElem hj,List.map_cons,List.map_nil,hx,hr1]
      rfl
    · rw [e2,List.length_append,ih.len];rfl
    · rw [e1]
      have:=ih.size
      simp only [ByteArray.size_extract]
      omega
theorem qt{s:ByteArray}{l:List ByteArray}(h:l.map (fun x=>x.data.toList)=aF s.data.toList) :l=aB s:=by
  rw [←nu] at h
  exact (List.map_inj_right fun x y q=>xp q).1 h
theorem i8(s:ByteArray) :(aB s).length=s.data.toList.count 32+1:=by
  have:=congrArg List.length (nu s)
  rwa [List.length_map,gE] at this
theorem zT(s:ByteArray)(hs:s.size≤1000000000) :bg s (ByteArray.mk #[32]) 0 (-1)=some (.r0 (aB s).length (aB s).length (aB s)):=by
  have hc:s.data.toList.count 32≤s.size:=by
    have:=List.count_le_length (a:=(32:UInt8)) (l:=s.data.toList)
    simpa using this
  have hw:=i8 s
  have hok:=Eh s
  generalize s.data.toList.count 32=c at *
  unfold bg
  have h8:(eI s (ByteArray.mk #[32]) (-1)).run=some (.inl ((c:Int)+1)):=by
    have hC:=Eg s
    have:s.data.toList.count 32=c:=by have:=i8 s;omega
    rw [this] at hC
    simp only [eI,hC]
    exact aP (cW (by rw [gD];decide) (bJ (dX (au (by rw [bt];show _≤(c:Int)+1∧(c:Int)+1≤_;omega) rfl))))
  have h9:(eJ s ((c:Int)+1)).run=some (.inl ((c:Int),c+1,List.replicate (c+1) ByteArray.empty)):=by
    have him:fw ((c:Int)+1) (((s.size+1:Nat)):Int)=((c+1:Nat):Int):=by
      unfold fw
      split<;>omega
    have e1:(((c+1:Nat):Int)-1)=(c:Int):=by omega
    simp only [eJ,him,e1,Int.toNat_natCast]
    exact au (by rw [bt];omega) (au (decide_eq_true (by omega)) (au (decide_eq_true (by omega)) (au (decide_eq_true (by omega)) (au (by rw [bt];omega) (au (by rw [bt];omega) rfl)))))
  refine bG (ak h8 (ak h9 (ak (a:=((ii s c).1,c,(ii s c).2++List.replicate 1 ByteArray.empty)) (eR (fun j=>((ii s j).1,j,(ii s j).2++List.replicate (c+1-j) ByteArray.empty)) c rfl (fun j hj=>?_) ?_) ?_)))
  · have H:=hok j (by omega)
    obtain ⟨n,hn,hl,hsp,hb⟩:=zS H.rest (by have:=i8 s;omega)
    have hsz:=H.size
    have hlen:=H.len
    have e1:(ii s (j+1)).1=(ii s j).1.extract (n+1) (ii s j).1.size:=by rw [ii,hn];rfl
    have e2:(ii s (j+1)).2=(ii s j).2++[(ii s j).1.extract 0 n]:=by rw [ii,hn];rfl
    have e3:c+1-j=(c+1-(j+1))+1:=by omega
    have e4:List.set ((ii s j).2++List.replicate (c+1-j) ByteArray.empty) j ((ii s j).1.extract 0 n)=((ii s j).2++[(ii s j).1.extract 0 n])++List.replicate (c+1-(j+1)) ByteArray.empty:=by
      rw [List.set_append_right _ _ (by omega),hlen,Nat.sub_self,e3,List.replicate_succ,List.set_cons_zero]
      simp
    simp only [e1,e2,←e4]
    simp only [cX,ic,Ef,hn]
    have n1:((n:Int)+0).toNat=n:=by omega
    have n2:((n:Int)+(((ByteArray.mk #[32]).size:Nat):Int)).toNat=n+1:=by show ((n:Int)+1).toNat=_;omega
    refine d5 (decide_eq_true (by omega)) (dX (cW (decide_eq_false ?_) (au ?_ (au ?_ (au ?_ (au ?_ (au ?_ (au ?_ (au ?_ (au ?_ (au ?_ ?_)))))))))))
    · show ¬ (n:Int)<0;omega
    · rw [bt];show _≤(n:Int)+0∧(n:Int)+0≤_;omega
    · rw [lY];show 0≤(n:Int)+0∧(n:Int)+0≤_;omega
    · rw [lY];omega
    · rw [dY];omega
    · rw [cM,List.length_append,List.length_replicate];omega
    · rw [bt];show _≤(n:Int)+1∧(n:Int)+1≤_;omega
    · rw [lY];omega
    · rw [lY];show 0≤(n:Int)+1∧(n:Int)+1≤_;omega
    · rw [bt];omega
    · show some (Sum.inl ((ii s j).1.extract (((n:Int)+(((ByteArray.mk #[32]).size:Nat):Int)).toNat) (ii s j).1.size,j+1,List.set ((ii s j).2++List.replicate (c+1-j) ByteArray.empty) j ((ii s j).1.extract 0 ((n:Int)+0).toNat)))=_
      rw [n1,n2]
  · rw [show c+1-c=1 by omega]
    exact cW (decide_eq_false (by omega)) rfl
  · have H:=hok c (Nat.le_refl _)
    have hlen:=H.len
    have hcc:s.data.toList.count 32=c:=by have:=i8 s;omega
    have h1:aF (ii s c).1.data.toList=[(ii s c).1.data.toList]:=by
      apply ig
      intro x hx q
      subst q
      have h2:=congrArg List.length H.rest
      rw [gE,List.length_drop,gE,hcc] at h2
      have:=List.count_pos_iff.2 hx
      omega
    have hf:(ii s c).2++[(ii s c).1]=aB s:=by
      apply qt
      rw [List.map_append,H.done,List.map_cons,List.map_nil,←h1,H.rest,List.take_append_drop]
    have e4:List.set ((ii s c).2++List.replicate 1 ByteArray.empty) c (ii s c).1=aB s:=by
      rw [List.set_append_right _ _ (by omega),hlen,Nat.sub_self,←hf]
      rfl
    show (ee (c+1) (ii s c).1 c ((ii s c).2++List.replicate 1 ByteArray.empty)).run=_
    simp only [ee,e4,hw]
    exact au (by rw [dY];omega) (au (by rw [cM,List.length_append,List.length_replicate];omega) (au (by rw [bt];omega) (au (by rw [lY];omega) (au (by rw [lY];omega) rfl))))
end Go.Plb.Seat
