/-
  Part 3 of what the claim leans on: an evaluator of the model, proved sound; the contracts of the functions.
-/
import Derived.Lib.OthersKept
import Derived.Lib.Hide
import Derived.Lib.Strings
import Derived.Laws.RangeAny
import Derived.WalkKit
import Derived.WalkSpells
import Derived.Lib.AtoiAllCases
import Derived.Lib.AtoiErrMem
import Derived.RangeFuncBox
import Derived.RangeFuncLeaves
import Derived.RangeFuncNested
import Derived.Shelf.Abstract
import Derived.Shelf.RegionOpen
import Derived.OwnWalkIn
import Derived.TacticsInMore
import Derived.LoopNIn
import Derived.LoopIn
import Derived.RegionIn
import Derived.Stop.RegionWithIn
import Derived.Lib.Bytealg
import Derived.Test.YtacdcghekbbjiaaDoorA2
namespace Go.Plb
set_option linter.unusedSimpArgs false
set_option linter.unusedVariables false
set_option linter.unusedSectionVars false
variable [Rom]
inductive T (α:Type) where
  | fail
  | leaf (a:α)
  | ask (b:Bool) (t f:T α)
  | need (b:Bool) (t:T α)
  | alt (k:Nat) (t e:T α)
def T.run{α:Type} :T α→Option α
  | .fail=>none
  | .leaf a=>some a
  | .ask b t f=>bif b then t.run else f.run
  | .need b t=>bif b then t.run else none
  | .alt _ t e=>match t.run with
    | some a=>some a
    | none=>e.run
structure sM (α:Type) where
  path:List Nat
  obs:List Bool
  val:α
def sM.ask{α:Type}(n:Nat)(b:Bool)(l:sM α) :sM α:=⟨n::l.path,b::l.obs,l.val⟩
def sM.need{α:Type}(b:Bool)(l:sM α) :sM α:=⟨l.path,b::l.obs,l.val⟩
def sM.alt{α:Type}(n:Nat)(l:sM α) :sM α:=⟨n::l.path,l.obs,l.val⟩
def T.leaves{α:Type} :T α→List (sM α)
  | .fail=>[]
  | .leaf a=>[⟨[],[],a⟩]
  | .ask b t f=>t.leaves.map (sM.ask 1 (b==true))++f.leaves.map (sM.ask 0 (b==false))
  | .need b t=>t.leaves.map (sM.need b)
  | .alt k t e=>t.leaves.map (sM.alt k)++e.leaves
theorem kV{α:Type} :∀ (t:T α) {a:α},t.run=some a→∃ l∈t.leaves,l.val=a∧ak l.obs
  | .fail,a,h=>by cases h
  | .leaf b,a,h=>by
    simp only [T.run,Option.some.injEq] at h;subst h
    exact ⟨⟨[],[],b⟩,by simp [T.leaves],rfl,trivial⟩
  | .ask b t f,a,h=>by
    simp only [T.run] at h
    cases b with
    | true =>
      simp only [cond_true] at h
      obtain ⟨l,h1,h2,h3⟩:=kV t h
      exact ⟨l.ask 1 (true==true),by simp only [T.leaves,List.mem_append];exact .inl (List.mem_map_of_mem h1),h2,⟨rfl,h3⟩⟩
    | false =>
      simp only [cond_false] at h
      obtain ⟨l,h1,h2,h3⟩:=kV f h
      exact ⟨l.ask 0 (false==false),by simp only [T.leaves,List.mem_append];exact .inr (List.mem_map_of_mem h1),h2,⟨rfl,h3⟩⟩
  | .need b t,a,h=>by
    simp only [T.run] at h
    cases b with
    | true =>
      simp only [cond_true] at h
      obtain ⟨l,h1,h2,h3⟩:=kV t h
      exact ⟨l.need true,by simp only [T.leaves];exact List.mem_map_of_mem h1,h2,⟨rfl,h3⟩⟩
    | false=>cases h
  | .alt k t e,a,h=>by
    simp only [T.run] at h
    split at h
    · rename_i a' ht
      cases h
      obtain ⟨l,h1,h2,h3⟩:=kV t ht
      exact ⟨l.alt k,by simp only [T.leaves,List.mem_append];exact .inl (List.mem_map_of_mem h1),h2,h3⟩
    · obtain ⟨l,h1,h2,h3⟩:=kV e h
      exact ⟨l,by simp only [T.leaves,List.mem_append];exact .inr h1,h2,h3⟩
def rv{α X:Type}(N:α→aH)(E:X→AE×aH) :α⊕X→AE×aH
  | .inl a=>(.normal,N a)
  | .inr x=>E x
def Sg{α X:Type}(P:Program)(lent:List aj)(cs:List Code)(st:aH)(m:Option (α⊕X))(N:α→aH)(E:X→AE×aH) :Prop :=
  ∀ r,m=some r→dr P lent cs st fun e st'=>(e,st')=rv N E r
def Kr{α X:Type}(C:uv)(S:vQ)(n:Nat)(cs:List Code)(st:aH)(ls:List (sM (α⊕X)))(ks:List NS)(k:Nat) :List (Bool×Option (AE×aH×List Bool)) :=
  List.zipWith (fun l s=>(s.ok k,JY s (IH (oj C S 12 n) cs st (some l.path)))) ls ks
def H3{α X:Type}(N:α→aH)(E:X→AE×aH)(ls:List (sM (α⊕X))) :List (Bool×Option (AE×aH×List Bool)) :=
  ls.map fun l=>(true,some ((rv N E l.val).1,(rv N E l.val).2,l.obs))
theorem H4{α β γ:Type}{f:α→β→γ}{g:α→γ} :∀ {l:List α} {k:List β},List.zipWith f l k=l.map g→∀ a∈l,∃ b,f a b=g a
  | [],_,_,a,ha=>by cases ha
  | x::l,[],h,a,ha=>by simp at h
  | x::l,y::k,h,a,ha=>by
    simp only [List.zipWith_cons_cons,List.map_cons,List.cons.injEq] at h
    rcases List.mem_cons.1 ha with rfl | ha
    · exact ⟨y,h.1⟩
    · exact H4 h.2 a ha
theorem Sg.seg{C:uv}(hC:C.Ok){S:vQ}(hS:bh C.P S){lent:List aj}{α X:Type}(n:Nat)(cs:List Code)(st:aH)(t:T (α⊕X))(N:α→aH)(E:X→AE×aH)(ks:List NS) 
    (h:Kr C S n cs st t.leaves ks lent.length=H3 N E t.leaves):Sg C.P lent cs st t.run N E:=by
  intro r hr
  obtain ⟨l,h1,h2,h3⟩:=kV t hr
  obtain ⟨k,hk⟩:=H4 h l h1
  simp only [Prod.mk.injEq] at hk
  obtain ⟨hn,he⟩:=hk
  have:=dr.seg hC hS (lent:=lent) (Q:=fun e st'=>(e,st')=rv N E r) cs.length (some l.path) k (cs:=cs) (st:=st) (by rw [List.take_length];exact he) hn h3
  refine this ?_
  rw [h2,List.drop_length]
  generalize hg:rv N E r=x
  obtain ⟨e,s⟩:=x
  cases e with
  | normal=>exact dr.nil rfl
  | ret=>rfl
  | exit id=>rfl
theorem dr.append{P:Program}{lent:List aj}{cs1 cs2:List Code}{st:aH}{Q1 Q:AE→aH→Prop}(h:dr P lent cs1 st Q1)(k:∀ e st',Q1 e st'→Ch P lent cs2 e st' Q) :dr P lent (cs1++cs2) st Q:=by
  intro ρ0 w0 hN K hK a w hA
  apply uz
  refine h ρ0 w0 hN _ ?_ a w hA
  intro e st' a' w' q hA'
  have:=k e st' q
  cases e with
  | normal=>exact this ρ0 w0 hN K hK a' w' hA'
  | ret=>exact hK _ _ _ _ this hA'
  | exit id=>exact hK _ _ _ _ this hA'
def sC{X:Type}(E:X→AE×aH) :Prop:=∀ x,(E x).1 ≠ .normal
theorem H5{P:Program}{lent:List aj}{cs:List Code}{e:AE}{st:aH}{Q:AE→aH→Prop}(hn:e ≠ .normal)(h:Q e st) :Ch P lent cs e st Q:=by
  cases e with
  | normal=>exact (hn rfl).elim
  | ret=>exact h
  | exit id=>exact h
def bj{α β X:Type}(m:Option (α⊕X))(k:α→Option (β⊕X)) :Option (β⊕X) :=
  match m with
  | none=>none
  | some (.inl a)=>k a
  | some (.inr x)=>some (.inr x)
theorem Sg.seq{P:Program}{lent:List aj}{α β X:Type}{cs1 cs2:List Code}{st:aH}{m:Option (α⊕X)}{N1:α→aH}{E:X→AE×aH}{k:α→Option (β⊕X)}{N:β→aH}(hE:sC E) 
    (h:Sg P lent cs1 st m N1 E) (hk:∀ a,Sg P lent cs2 (N1 a) (k a) N E):Sg P lent (cs1++cs2) st (bj m k) N E:=by
  intro r hr
  unfold bj at hr
  split at hr
  · cases hr
  · rename_i a
    refine dr.append (h _ rfl) ?_
    intro e st' q
    simp only [rv,Prod.mk.injEq] at q
    obtain ⟨rfl,rfl⟩:=q
    exact hk a r hr
  · rename_i x
    simp only [Option.some.injEq] at hr;subst hr
    refine dr.append (h _ rfl) ?_
    intro e st' q
    simp only [rv] at q
    refine H5 ?_ q
    have:=hE x
    rw [←q] at this;exact this
def qz{σ Y:Type}(B:σ→Option (σ⊕Y)) :Nat→σ→Option Y
  | 0,_=>none
  | n+1,s=>match B s with
    | none=>none
    | some (.inl s')=>qz B n s'
    | some (.inr y)=>some y
theorem uF{σ Y:Type}{B:σ→Option (σ⊕Y)} :∀ (n:Nat) {s:σ} {y:Y},qz B n s=some y→∀ m,n≤m→qz B m s=some y
  | 0,s,y,h,_,_=>by cases h
  | n+1,s,y,h,m,hm=>by
    obtain ⟨m',rfl⟩:∃ m',m=m'+1:=⟨m-1,by omega⟩
    simp only [qz] at h ⊢
    split at h
    · cases h
    · exact uF n h m' (by omega)
    · exact h
open Classical in
noncomputable def dH {σ Y : Type} (B : σ → Option (σ ⊕ Y)) (s : σ) : Option Y :=
  if h : ∃ n y, qz B n s = some y then some h.choose_spec.choose else none
theorem sD{σ Y:Type}{B:σ→Option (σ⊕Y)}{s:σ}{y:Y} :dH B s=some y↔∃ n,qz B n s=some y:=by
  unfold dH
  constructor
  · intro h
    split at h
    · rename_i q
      simp only [Option.some.injEq] at h
      exact ⟨q.choose,by rw [←h];exact q.choose_spec.choose_spec⟩
    · cases h
  · rintro ⟨n,h⟩
    rw [dif_pos ⟨n,y,h⟩]
    generalize hq:(⟨n,y,h⟩:∃ n y,qz B n s=some y)=q
    have h1:=q.choose_spec.choose_spec
    have a1:=uF n h (max n q.choose) (by omega)
    have a2:=uF _ h1 (max n q.choose) (by omega)
    rw [a1] at a2
    exact a2.symm
theorem FC{σ Y:Type}(B:σ→Option (σ⊕Y))(s:σ) :dH B s=match B s with
    | none=>none
    | some (.inl s')=>dH B s'
    | some (.inr y)=>some y:=by
  have key:∀ y,dH B s=some y↔(match B s with | none=>none | some (.inl s')=>dH B s' | some (.inr y)=>some y)=some y:=by
    intro y
    rw [sD]
    constructor
    · rintro ⟨n,h⟩
      cases n with
      | zero=>cases h
      | succ n =>
        simp only [qz] at h
        cases q:B s with
        | none=>rw [q] at h;cases h
        | some z=>cases z with
          | inl s'=>rw [q] at h;exact sD.2 ⟨n,h⟩
          | inr z=>rw [q] at h;exact h
    · intro h
      split at h<;>rename_i q
      · cases h
      · obtain ⟨n,hn⟩:=sD.1 h
        exact ⟨n+1,by simp only [qz,q];exact hn⟩
      · exact ⟨1,by simp only [qz,q];exact h⟩
  generalize (match B s with | none=>none | some (.inl s')=>dH B s' | some (.inr y)=>some y)=x at key
  cases hl:dH B s with
  | none=>cases x with
    | none=>rfl
    | some y=>rw [(key y).2 rfl] at hl;cases hl
  | some y=>rw [hl] at key;exact ((key y).1 rfl).symm
theorem AS{σ Y:Type}{B:σ→Option (σ⊕Y)}{s s':σ}(h:B s=some (.inl s')) :dH B s=dH B s':=by rw [FC,h]
theorem kW{σ Y:Type}{B:σ→Option (σ⊕Y)}{s:σ}{y:Y}(h:B s=some (.inr y)) :dH B s=some y:=by rw [FC,h]
theorem IS{σ Y:Type}{B:σ→Option (σ⊕Y)}(G:σ→Prop)(m:σ→Nat)(Q:Y→Prop)(h:∀ s,G s→(∃ s',B s=some (.inl s')∧G s'∧m s'<m s)∨∃ y,B s=some (.inr y)∧Q y) :
    ∀ s,G s→∃ y,dH B s=some y∧Q y:=by
  have key:∀ n s,m s<n→G s→∃ y,dH B s=some y∧Q y:=by
    intro n
    induction n with
    | zero=>intro s q;omega
    | succ n ih =>
      intro s q hs
      rcases h s hs with ⟨s',h1,h2,h3⟩ | ⟨y,h1,h2⟩
      · obtain ⟨y,k1,k2⟩:=ih s' (by omega) h2
        exact ⟨y,by rw [AS h1];exact k1,k2⟩
      · exact ⟨y,kW h1,h2⟩
  exact fun s hs=>key _ s (Nat.lt_succ_self _) hs
def fC{ρ X:Type}(id:Nat)(J:ρ→aH)(E:X→AE×aH) :ρ⊕X→AE×aH
  | .inl r=>(.exit id,J r)
  | .inr x=>E x
def rx{X:Type}(id:Nat)(E:X→AE×aH) :Prop:=∀ x,(E x).1 ≠ .exit id
theorem Sg.loop{P:Program}{lent:List aj}{σ ρ X:Type}{I:σ→aH}{J:ρ→aH}{E:X→AE×aH}{B:σ→Option (σ⊕(ρ⊕X))}{id:Nat}{b:Code}(hE:sC E)(hI:rx id E) 
    (hb:∀ s,Sg P lent (dk b) (I s) (B s) I (fC id J E)) (s:σ):Sg P lent [.block id (.loop b)] (I s) (dH B s) J E:=by
  intro y hy
  obtain ⟨n,hn⟩:=sD.1 hy

  have:=dr.loop (P:=P) (lent:=lent) (id:=id) (b:=b) (rest:=[]) (Q:=fun e st'=>(e,st')=rv J E y) (σ:=Nat×σ) (fun s=>I s.2) (fun s=>qz B s.1 s.2=some y) (fun s=>s.1) rfl (fun s hs=>?_) (n,s) hn
  · exact this
  · obtain ⟨n,s⟩:=s
    simp only at hs ⊢
    cases n with
    | zero=>cases hs
    | succ n =>
      simp only [qz] at hs
      split at hs
      · cases hs
      · rename_i s' hB
        refine (hb s _ hB).mono ?_
        intro e st' q
        simp only [rv,Prod.mk.injEq] at q
        obtain ⟨rfl,rfl⟩:=q
        exact ⟨(n,s'),hs,by simp,rfl⟩
      · rename_i y' hB
        simp only [Option.some.injEq] at hs;subst hs
        refine (hb s _ hB).mono ?_
        intro e st' q
        cases y' with
        | inl r =>
          simp only [rv,fC,Prod.mk.injEq] at q
          obtain ⟨rfl,rfl⟩:=q
          simp only [vS,if_true]
          exact dr.nil rfl
        | inr x =>
          simp only [rv,fC] at q
          have h1:=hE x
          have h2:=hI x
          rw [←q] at h1 h2
          simp only at h1 h2
          cases e with
          | normal=>exact (h1 rfl).elim
          | ret=>exact q
          | exit j =>
            have hj : ¬ j=id:=fun h=>h2 (by rw [h])
            simp only [vS,hj,if_false]
            exact q
def tJ{κ X:Type}(m:Option (κ⊕(κ⊕X))) :Option (κ⊕X) :=
  match m with
  | none=>none
  | some (.inl a)=>some (.inl a)
  | some (.inr (.inl a))=>some (.inl a)
  | some (.inr (.inr x))=>some (.inr x)
theorem Sg.block{P:Program}{lent:List aj}{κ X:Type}{K:κ→aH}{E:X→AE×aH}{m:Option (κ⊕(κ⊕X))}{id:Nat}{b:Code}{st:aH}(hE:sC E)(hI:rx id E) 
    (hb:Sg P lent (dk b) st m K (fC id K E)):Sg P lent [.block id b] st (tJ m) K E:=by
  intro r hr
  unfold tJ at hr
  refine dr.block (rest:=[]) rfl ?_
  split at hr
  · cases hr
  · simp only [Option.some.injEq] at hr;subst hr
    refine (hb _ rfl).mono ?_
    intro e st' q
    simp only [rv,Prod.mk.injEq] at q
    obtain ⟨rfl,rfl⟩:=q
    exact dr.nil rfl
  · simp only [Option.some.injEq] at hr;subst hr
    refine (hb _ rfl).mono ?_
    intro e st' q
    simp only [rv,fC,Prod.mk.injEq] at q
    obtain ⟨rfl,rfl⟩:=q
    simp only [if_true]
    exact dr.nil rfl
  · rename_i x
    simp only [Option.some.injEq] at hr;subst hr
    refine (hb _ rfl).mono ?_
    intro e st' q
    simp only [rv,fC] at q
    have h1:=hE x
    have h2:=hI x
    rw [←q] at h1 h2
    simp only at h1 h2
    cases e with
    | normal=>exact (h1 rfl).elim
    | ret=>exact q
    | exit j =>
      have hj : ¬ j=id:=fun h=>h2 (by rw [h])
      simp only [hj,if_false]
      exact q
theorem Sg.scope{P:Program}{lent:List aj}{α X:Type}{N:α→aH}{E:X→AE×aH}{m:Option (α⊕X)}{b:Code}{st:aH}(hE:sC E)(hb:Sg P lent (dk b) st m N E) :Sg P lent [.scope b] st m N E:=by
  intro r hr
  refine dr.scope (rest:=[]) rfl ((hb r hr).mono ?_)
  intro e st' q
  cases r with
  | inl a =>
    simp only [rv,Prod.mk.injEq] at q
    obtain ⟨rfl,rfl⟩:=q
    exact dr.nil rfl
  | inr x =>
    refine H5 ?_ q
    have:=hE x
    simp only [rv] at q
    rw [←q] at this;exact this
theorem FD{k:Nat}{ρ0:ae}{w0:World}{st:aH}{a:Act}{w:World}{c:Operand}{b kn:Bool}(h:At k ρ0 w0 st a w)(hc:K5 st.tmps c=.bool kn b) :At k ρ0 w0 { st with tmps:=ko st.tmps c b } a w∧a.eval c=.bool b:=by
  obtain ⟨ρ,E,W,hs,hbk,hle⟩:=h
  have hb:a.eval c=.bool b:=by
    have:=zR hs.heap.rom hs.tmps c
    rw [hc] at this
    generalize a.eval c=z at this
    cases this;rfl
  refine ⟨⟨ρ,E,W,⟨hs.defers,?_,hs.heap⟩,hbk,hle⟩,hb⟩
  cases c with
  | tmp t =>
    simp only [ko]
    have:bO ρ w (st.tmps.set t (.bool true b)) (a.tmps.toList.set t (.bool b)):=hs.tmps.set (.bool _ _) t
    have e:a.tmps.toList.set t (.bool b)=a.tmps.toList:=by
      apply List.ext_getElem?
      intro j
      rw [List.getElem?_set]
      split
      · rename_i q;subst q
        split
        · rename_i hlt
          simp only [Act.eval] at hb
          rw [Array.getD_eq_getD_getElem?] at hb
          have hlt':t<a.tmps.size:=by simpa using hlt
          rw [Array.getElem?_eq_getElem hlt'] at hb
          simp only [Option.getD_some] at hb
          simp [hlt',hb]
        · rename_i hge
          rw [List.getElem?_eq_none (by omega)]
      · rfl
    rw [e] at this;exact this
  | const v=>exact hs.tmps
  | global g=>exact hs.tmps
  | func f=>exact hs.tmps
theorem Sg.cond{P:Program}{lent:List aj}{α X:Type}{N:α→aH}{E:X→AE×aH}{m1 m2:Option (α⊕X)}{c:Operand}{A B:Code}{st:aH}{kn b:Bool}(hE:sC E)(hc:K5 st.tmps c=.bool kn b) 
    (h1:Sg P lent (dk A) { st with tmps:=ko st.tmps c true } m1 N E) (h2:Sg P lent (dk B) { st with tmps:=ko st.tmps c false } m2 N E):Sg P lent [.cond c A B] st (bif b then m1 else m2) N E:=by
  intro r hr
  intro ρ0 w0 hN K hK a w hA
  simp only [B2]
  obtain ⟨hA',hb⟩:=FD hA hc
  refine wp_cond hb ?_
  have fin:∀ (D:Code) (m:Option (α⊕X)) (st1:aH),Sg P lent (dk D) st1 m N E→m=some r→At lent.length ρ0 w0 st1 a w→D.wp P (fun e a' w'=>match e with | .normal=>K .normal a' w' | e=>K e a' w') a w:=by
    intro D m st1 hS hm hA1
    refine pX D (hS r hm ρ0 w0 hN _ ?_ a w hA1)
    intro e st' a' w' q hA2
    cases e with
    | normal=>exact hK .normal st' a' w' q hA2
    | ret=>exact hK .ret st' a' w' q hA2
    | exit id=>exact hK (.exit id) st' a' w' q hA2
  cases b with
  | true=>exact fin A m1 _ h1 hr hA'
  | false=>exact fin B m2 _ h2 hr hA'
theorem Sg.pre{P:Program}{lent:List aj}{α X:Type}{N:α→aH}{E:X→AE×aH}{m:Option (α⊕X)}{cs:List Code}{st st1:aH}(s:NS)(hn:s.ok lent.length=true)(h1:s.on st=st1)(h:Sg P lent cs st1 m N E) :Sg P lent cs st m N E :=
  fun r hr=>dr.weak (by rw [←h1];exact JX hn st) (h r hr)
def yF{X:Type} :Option (Empty⊕X)→Option X
  | some (.inr x)=>some x
  | _=>none
theorem Sg.contract{P:Program}{f:FuncId}{fn:Func}{c:Code}{X:Type}{N:Empty→aH}{E:X→AE×aH}{m:Option (Empty⊕X)}{lent:List aj}{args:List AV}(keep:Bool)(o:X→nu)(hf:P.funcs[f]? = some fn)(hc:fn.body=some c) 
    (h:Sg P lent (dk c) (oi fn lent args) m N E) (hE:∀ x,HO P fn lent.length keep (o x) (E x).1 (E x).2) {x:X} (hx:yF m=some x):am P f lent args (o x):=by
  unfold yF at hx
  split at hx
  · rename_i x'
    simp only [Option.some.injEq] at hx;subst hx
    refine dr.contract (keep:=keep) hf hc ((h _ rfl).mono ?_)
    intro e st' q
    simp only [rv] at q
    have:=hE x'
    rw [←q] at this;exact this
  · cases hx
end Go.Plb
namespace Go.Plb
set_option linter.unusedSectionVars false
variable [Rom]
theorem dI{ρ X:Type}{id:Nat}{J:ρ→aH}{E:X→AE×aH}(h:sC E) :sC (fC id J E):=by
  intro x
  cases x with
  | inl r=>intro q;cases q
  | inr x=>exact h x
def mw:Code→Code
  | .block _ (.loop b)=>b
  | _=>.skip
def inBlock:Code→Code
  | .block _ b=>b
  | _=>.skip
def H6:Code→Code
  | .scope b=>b
  | _=>.skip
def AT:Code→Code
  | .cond _ a _=>a
  | _=>.skip
def Ei:Code→Code
  | .cond _ _ b=>b
  | _=>.skip
theorem Sg.cut{P:Program}{lent:List aj}{α β X:Type}{cs:List Code}{st:aH}{m:Option (α⊕X)}{N1:α→aH}{E:X→AE×aH}{k:α→Option (β⊕X)}{N:β→aH}(n:Nat)(hE:sC E) 
    (h:Sg P lent (cs.take n) st m N1 E) (hk:∀ a,Sg P lent (cs.drop n) (N1 a) (k a) N E):Sg P lent cs st (bj m k) N E:=by
  have:=Sg.seq hE h hk
  rwa [List.take_append_drop] at this
theorem Dg{P:Program}{lent:List aj}{σ ρ X:Type}{I:σ→aH}{J:ρ→aH}{E:X→AE×aH}{B:σ→Option (σ⊕(ρ⊕X))}{id:Nat}{b:Code}{cs:List Code}(hcs:cs=[.block id (.loop b)])(hE:sC E)(hI:rx id E) 
    (hb:∀ s,Sg P lent (dk b) (I s) (B s) I (fC id J E)) (s:σ):Sg P lent cs (I s) (dH B s) J E:=by rw [hcs];exact Sg.loop hE hI hb s
theorem GW{P:Program}{lent:List aj}{κ X:Type}{K:κ→aH}{E:X→AE×aH}{m:Option (κ⊕(κ⊕X))}{id:Nat}{b:Code}{st:aH}{cs:List Code}(hcs:cs=[.block id b])(hE:sC E)(hI:rx id E) 
    (hb:Sg P lent (dk b) st m K (fC id K E)):Sg P lent cs st (tJ m) K E:=by rw [hcs];exact Sg.block hE hI hb
theorem GX{P:Program}{lent:List aj}{α X:Type}{N:α→aH}{E:X→AE×aH}{m:Option (α⊕X)}{b:Code}{st:aH}{cs:List Code}(hcs:cs=[.scope b])(hE:sC E)(hb:Sg P lent (dk b) st m N E) :Sg P lent cs st m N E:=by
  rw [hcs];exact Sg.scope hE hb
theorem sE{P:Program}{lent:List aj}{α X:Type}{N:α→aH}{E:X→AE×aH}{m1 m2:Option (α⊕X)}{c:Operand}{A B:Code}{st:aH}{kn b:Bool}{cs:List Code}(hcs:cs=[.cond c A B])(hE:sC E)(hc:K5 st.tmps c=.bool kn b) 
    (h1:Sg P lent (dk A) { st with tmps:=ko st.tmps c true } m1 N E) (h2:Sg P lent (dk B) { st with tmps:=ko st.tmps c false } m2 N E):Sg P lent cs st (bif b then m1 else m2) N E:=by rw [hcs];exact Sg.cond hE hc h1 h2
end Go.Plb
namespace Go.Plb.Seat
open Go Go.Plb
set_option linter.unusedSimpArgs false
set_option linter.unusedVariables false
noncomputable abbrev E0:vQ:=bA []
def L1:List aU:=[]
def S1:vQ:=bA L1
theorem Nf:bh prog S1:=uA _
end Go.Plb.Seat
namespace Go.Plb.Seat
open Go Go.Plb
set_option linter.unusedSimpArgs false
set_option linter.unusedVariables false
set_option maxRecDepth 100000
def em(n:Nat) :Bool:=Nat.ble n 1000000000
noncomputable def L2:List aU:=L1
theorem Ng:bh prog (bA L2):=Nf
end Go.Plb.Seat
namespace Go.Plb.Seat
open Go Go.Plb
set_option linter.unusedSimpArgs false
set_option linter.unusedVariables false
theorem am.nan{f:FuncId}{g:Nat→nu}{r:nu}(h:∀ n:Nat,am prog f [] [.int .u64 (n:Int)] (g n))(e:∀ n:Nat,isNaN n=true→g n=r) :am prog f [] [.nan] r:=by
  intro ρ w us hN hv
  cases hv with | cons _ u _ _ h1 h2 =>
  cases h2
  cases h1 with | nan n hn =>
  rw [←e n hn]
  exact h n ρ w _ hN (.cons _ _ _ _ (.int _ _) .nil)
noncomputable def L3:List aU:=L2
theorem NV:bh prog (bA L3):=Ng
end Go.Plb.Seat
namespace Go.Plb.Seat
open Go Go.Plb
set_option linter.unusedVariables false
set_option maxRecDepth 100000
theorem dt{S:vQ}(hS:bh prog S){lent:List aj}{α X:Type}{cs:List Code}{st:aH}{t:T (α⊕X)}(N:α→aH){E:X→AE×aH}(ks:List NS) 
    (h:Kr C0 S 60 cs st t.leaves ks lent.length=H3 N E t.leaves:=by kernel_rfl):Sg prog lent cs st t.run N E:=Sg.seg L8 hS 60 cs st t N E ks h
theorem Ma{lent:List aj}{σ ρ X:Type}{cs:List Code}{st:aH}{E:X→AE×aH}{B:σ→Option (σ⊕(ρ⊕X))}{ent:σ}(s:NS)(I:σ→aH)(J:ρ→aH)(id:Nat)(hE:sC E)(hI:rx id E) 
    (hb:∀ a,Sg prog lent (dk (mw (cs.headD .skip))) (I a) (B a) I (fC id J E)) (hn:s.ok lent.length=true:=by exact rfl) (h1:s.on st=I ent:=by kernel_rfl) (hcs:cs=[.block id (.loop (mw (cs.headD .skip)))]:=by kernel_rfl) :
    Sg prog lent cs st (dH B ent) J E:=Sg.pre s hn h1 (Dg hcs hE hI hb ent)
theorem NW{lent:List aj}{κ X:Type}{cs:List Code}{st:aH}{E:X→AE×aH}{m:Option (κ⊕(κ⊕X))}(K:κ→aH)(id:Nat)(hE:sC E)(hI:rx id E) 
    (hb:Sg prog lent (dk (inBlock (cs.headD .skip))) st m K (fC id K E)) (hcs:cs=[.block id (inBlock (cs.headD .skip))]:=by kernel_rfl):Sg prog lent cs st (tJ m) K E:=GW hcs hE hI hb
def yG:Empty→aH:=fun a=>a.elim
theorem sF{fn:Func}{k:Nat}{keep:Bool}{o:nu}{st:aH}(vs:List AV)(h1:eO prog fn st fn.results.toList=some (vs,[]):=by kernel_rfl)(h2:Az k keep st.heap (xo vs)=some o:=by kernel_rfl) :HO prog fn k keep o .ret st :=
  ⟨.inr rfl,vs,[],h1,trivial,h2⟩
theorem B3{f:FuncId}{X:Type}{m:Option (Empty⊕X)}{lent:List aj}{args:List AV}{x:X}(keep:Bool)(o:X→nu)(E:X→AE×aH)(hx:yF m=some x) 
    (h:Sg prog lent (dk (uD f)) (oi (FN f) lent args) m yG E) (hE:∀ x,HO prog (FN f) lent.length keep (o x) (E x).1 (E x).2)
    (hf:prog.funcs[f]? = some (FN f):=by kernel_rfl) (hc:(FN f).body=some (uD f):=by kernel_rfl):am prog f lent args (o x) :=
  Sg.contract (P:=prog) (f:=f) (fn:=FN f) (c:=uD f) (N:=yG) (E:=E) (lent:=lent) (args:=args) keep o hf hc h hE hx
end Go.Plb.Seat
namespace Go.Plb.Seat
open Go Go.Plb
noncomputable def Nh:List aU:=[]
theorem zJ:bh prog (bA Nh):=uA prog
end Go.Plb.Seat
namespace Go.Plb.Seat
open Go Go.Plb
set_option linter.unusedVariables false
set_option maxRecDepth 100000
noncomputable section
inductive cG where
  | r0 (s5:ByteArray)
def ov:cG→AE×aH
  | .r0 s5=>(.ret,⟨ax 20 [(2,.str s5)],[],0⟩)
theorem qg:sC ov:=by intro x;cases x<;>(intro h;cases h)
theorem Ej(id:Nat) :rx id ov:=by intro x;cases x<;>(intro h;cases h)
def ry:cG→nu
  | .r0 s5=>⟨.str s5,[]⟩
noncomputable def Ek:List Code:=dk (uD lT)
def El(w_0:Int)(l1:(List Int)) :aH:=⟨ax 20 [(0,.int .u64 w_0),(3,.ptr 0 1 0 0),(5,.int .i64 (0:Int))],[(0,.ns .u8 l1)],1⟩
def Em:T (((List Int))⊕(cG)) :=
  .leaf (.inl [(0:Int),(0:Int),(0:Int),(0:Int),(0:Int),(0:Int),(0:Int),(0:Int),(0:Int),(0:Int),(0:Int),(0:Int),(0:Int),(0:Int),(0:Int),(0:Int)])
def mX(w_0:Int) :Nat×(List Int)→aH:=fun (a2,l3)=>⟨ax 20 [(0,.int .u64 w_0),(3,.ptr 0 1 0 0),(5,.int .i64 ((a2:Nat):Int))],[(0,.ns .u8 l3)],1⟩
def vW(l4:(List Int)) :aH:=⟨ax 20 [(3,.ptr 0 1 0 0)],[(0,.ns .u8 l4)],1⟩
noncomputable def En:List Code:=dk (mw ((((Ek.drop 3).take 1)).headD .skip))
def qh(w_0:Int)(a2:Nat)(l3:List Int) :T ((Nat×(List Int))⊕(((List Int))⊕(cG))) :=
  .ask (decide (((a2:Nat):Int)<(16:Int)))
    (.need (kK .i64 (((4*a2):Nat):Int))<|.need (kK .i64 ((60:Int)-(((4*a2):Nat):Int)))<|.need (decide ((0:Int)≤((60:Int)-(((4*a2):Nat):Int))))<|.need (qW (zS .and .u64 (Int.fdiv w_0 (2^(min (Int.toNat ((60:Int)-(((4*a2):Nat):Int))) (IntKind.u64.bits)))) (15:Int)) (ByteArray.mk #[48,49,50,51,52,53,54,55,56,57,65,66,67,68,69,70]).size)<|.need (qW ((a2:Nat):Int) 16)<|.need (dn (cN (cN 0 (yW a2 1)) 0) (List.length l3))<|.need (kK .i64 (((a2+1):Nat):Int))<|.leaf (.inl ((a2+1),(List.set l3 (cN (cN 0 (yW a2 1)) 0) (bG (ByteArray.mk #[48,49,50,51,52,53,54,55,56,57,65,66,67,68,69,70]) (Int.toNat (zS .and .u64 (Int.fdiv w_0 (2^(min (Int.toNat ((60:Int)-(((4*a2):Nat):Int))) (IntKind.u64.bits)))) (15:Int))))))))
    (.leaf (.inr (.inl l3)))
noncomputable def jv(w_0:Int) :Nat×(List Int)→Option ((Nat×(List Int))⊕(((List Int))⊕(cG))):=fun (a2,l3) =>
  (qh w_0 a2 l3).run
theorem Cn(w_0:Int)(a2:Nat)(l3:List Int) :Sg prog [] En (mX w_0 (a2,l3)) (jv w_0 (a2,l3)) (mX w_0) (fC 0 vW ov):=by
  unfold jv;exact dt zJ (mX w_0) [⟨[],[0],[0,3,5]⟩,⟨[],[0],[3]⟩]
def tK(l4:List Int) :T ((Empty)⊕(cG)) :=
  .need (pC (16:Int) 16)<|.need (pC (0:Int) 16)<|.need (nY 16 (List.length l4))<|.need (nY 16 (List.length l4))<|.leaf (.inr (.r0 (Aj (List.take 16 l4))))
noncomputable def ow(w_0:Int) :Option cG:=yF (bj ((Em).run) fun l1 =>
  bj (dH (jv w_0) (0,l1)) fun l4 =>
  (tK l4).run)
theorem vX(w_0:Int){x:cG}(h:ow w_0=some x) :am prog lT [] [.int .u64 w_0] (ry x) :=
  B3 false ry ov h (Sg.cut 3 qg (dt zJ (El w_0) [⟨[],[16],[0,3,5]⟩]) (fun l1=>Sg.cut 1 qg (Ma ⟨[],[0],[0,3,5]⟩ (mX w_0) (vW) 0 qg (Ej _) (fun ⟨a2,l3⟩=>Cn w_0 a2 l3)) (fun l4=>dt zJ yG [⟨[],[],[2]⟩])))
    (fun x=>by cases x with | r0 s5=>exact sF [.str s5])
def qi:Option cG→Bool
  | some _=>true
  | none=>false
def rz:Option cG→ByteArray
  | some (.r0 x)=>x
  | _=>ByteArray.empty
theorem Eo{x:Option cG}(h:qi x=true) :x=some (.r0 (rz x)):=by
  unfold qi at h
  split at h<;>first | rfl | (cases h;done) | (rename_i y;cases y;rfl)
noncomputable def yH:aU:=dG lT (.cons (.int .u64) .nil) fun t=>(fun q=>[⟨ry (.r0 (rz q)),[qi q]⟩]) (ow t.1)
theorem AU:bc prog yH:=bf fun t=>(bi (fun h=>vX t.1 (Eo h)) bZ)
noncomputable def FE:List aU:=yH::Nh
theorem Ks:bh prog (bA FE):=aB AU zJ
end
end Go.Plb.Seat
namespace Go.Plb
set_option linter.unusedSimpArgs false
set_option linter.unusedVariables false
set_option linter.unusedSectionVars false
variable [Rom]
theorem au{α:Type}{b:Bool}{t:T α}{x:Option α}(h:b=true)(k:t.run=x) :(T.need b t).run=x:=by subst h;exact k
theorem eR{α:Type}{b:Bool}{t f:T α}{x:Option α}(h:b=true)(k:t.run=x) :(T.ask b t f).run=x:=by subst h;exact k
theorem fw{α:Type}{b:Bool}{t f:T α}{x:Option α}(h:b=false)(k:f.run=x) :(T.ask b t f).run=x:=by subst h;exact k
theorem uG{α:Type}{k:Nat}{t f:T α}{a:α}(h:t.run=some a) :(T.alt k t f).run=some a:=by simp only [T.run,h]
theorem qj{α:Type}{k:Nat}{t f:T α}{x:Option α}(h:t.run=none)(q:f.run=x) :(T.alt k t f).run=x:=by simp only [T.run,h];exact q
theorem qk{α:Type}{b:Bool}{t:T α}(h:b=false) :(T.need b t).run=none:=by subst h;rfl
theorem cj{α:Type}{b:Bool}{t:T α}{x:Option α}(k:t.run=x)(h:b=true:=by exact rfl) :(T.need b t).run=x:=au h k
theorem ct{α:Type}{b:Bool}{t f:T α}{x:Option α}(k:t.run=x)(h:b=true:=by exact rfl) :(T.ask b t f).run=x:=eR h k
theorem cu{α:Type}{b:Bool}{t f:T α}{x:Option α}(k:f.run=x)(h:b=false:=by exact rfl) :(T.ask b t f).run=x:=fw h k
theorem an{α β X:Type}{m:Option (α⊕X)}{k:α→Option (β⊕X)}{a:α}{x:Option (β⊕X)}(h:m=some (.inl a))(q:k a=x) :bj m k=x:=by subst h;exact q
theorem bT{α β X:Type}{m:Option (α⊕X)}{k:α→Option (β⊕X)}{y:X}(h:m=some (.inr y)) :bj m k=some (.inr y):=by subst h;rfl
theorem FF{κ X:Type}{m:Option (κ⊕(κ⊕X))}{a:κ}(h:m=some (.inl a)) :tJ m=some (.inl a):=by subst h;rfl
theorem IT{κ X:Type}{m:Option (κ⊕(κ⊕X))}{a:κ}(h:m=some (.inr (.inl a))) :tJ m=some (.inl a):=by subst h;rfl
theorem pn{κ X:Type}{m:Option (κ⊕(κ⊕X))}{a:X}(h:m=some (.inr (.inr a))) :tJ m=some (.inr a):=by subst h;rfl
theorem bW{X:Type}{m:Option (Empty⊕X)}{x:X}(h:m=some (.inr x)) :yF m=some x:=by subst h;rfl
theorem IU{σ Y:Type}{B:σ→Option (σ⊕Y)}(st:Nat→σ)(n:Nat){y:Y}(i:Nat)(hi:i≤n)(step:∀ j,i≤j→j<n→B (st j)=some (.inl (st (j+1))))(done:B (st n)=some (.inr y)) :dH B (st i)=some y:=by
  obtain ⟨d,rfl⟩:∃ d,n=i+d:=⟨n-i,by omega⟩
  clear hi
  induction d generalizing i with
  | zero=>exact kW done
  | succ d ih =>
    rw [AS (step i (Nat.le_refl _) (by omega))]
    have e:i+(d+1)=i+1+d:=by omega
    rw [e] at step done
    exact ih (i+1) (fun j h1 h2=>step j (by omega) h2) done
theorem jw{σ Y:Type}{B:σ→Option (σ⊕Y)}(st:Nat→σ)(n:Nat){y:Y}{s0:σ}(h0:s0=st 0)(step:∀ j,j<n→B (st j)=some (.inl (st (j+1))))(done:B (st n)=some (.inr y)) :dH B s0=some y:=by
  rw [h0];exact IU st n 0 (Nat.zero_le _) (fun j _=>step j) done
theorem bC{n:Int} :kK .i64 n=true↔-9223372036854775808≤n∧n≤9223372036854775807:=by
  have e1:IntKind.i64.min = -9223372036854775808:=by decide
  have e2:IntKind.i64.max=9223372036854775807:=by decide
  simp only [kK,e1,e2,Bool.and_eq_true,decide_eq_true_eq]
theorem fD{k:Int}{n:Nat} :qW k n=true↔0≤k∧k<n:=by simp only [qW,Bool.and_eq_true,decide_eq_true_eq]
theorem qA{k:Int}{n:Nat} :pC k n=true↔0≤k∧k≤n:=by simp only [pC,Bool.and_eq_true,decide_eq_true_eq]
theorem aT{k n:Nat} :dn k n=true↔k<n:=by simp [dn]
theorem lF{k n:Nat} :nY k n=true↔k≤n:=by simp [nY]
theorem zK{k n:Nat} :Nat.ble k n=true↔k≤n:=by rw [Nat.ble_eq]
theorem zL{k n:Nat} :Nat.blt k n=true↔k<n:=by rw [Nat.blt_eq]
def Co{α:Type}(pos:Nat→Nat)(val:Nat→α)(l:List α) :Nat→List α
  | 0=>l
  | n+1=>(Co pos val l n).set (pos n) (val n)
theorem vY{α:Type}{pos:Nat→Nat}{val:Nat→α}{l:List α} :∀ {n:Nat},(Co pos val l n).length=l.length
  | 0=>rfl
  | n+1=>by simp only [Co,List.length_set];exact vY
theorem Kt{α:Type}(l:List α) :mr 0 l.length l=true:=by rw [pg];omega
theorem Ku{α:Type}{b:Bool}{t:T α}{x:Option α}(k:t.run=x)(h:b=true:=by exact Kt _) :(T.need b t).run=x:=au h k
theorem Lg{α:Type}{n:Nat}{l:List α}(h:l.length=n) :aC 0 n l=l:=by rw [←h];exact pf l
theorem first_bad{p:Nat→Prop} [DecidablePred p]:∀ {n:Nat},(¬ ∀ i,i<n→p i)→∃ k,k<n∧¬ p k∧∀ j,j<k→p j
  | 0,h=>(h fun i hi=>absurd hi (Nat.not_lt_zero _)).elim
  | n+1,h=>by
    by_cases q:∀ i,i<n→p i
    · refine ⟨n,Nat.lt_succ_self _,fun r=>h fun i hi=>?_,q⟩
      rcases Nat.lt_succ_iff_lt_or_eq.1 hi with a | rfl
      · exact q i a
      · exact r
    · obtain ⟨k,h1,h2,h3⟩:=first_bad q
      exact ⟨k,by omega,h2,h3⟩
def EE{α:Type}(m:Option α)(Q:α→Prop) :Prop:=∃ r,m=some r∧Q r
theorem EE.mono{α:Type}{m:Option α}{Q R:α→Prop}(h:EE m Q)(k:∀ r,Q r→R r) :EE m R:=by
  obtain ⟨r,a,b⟩:=h
  exact ⟨r,a,k r b⟩
def T.wp{α:Type}(Q:α→Prop) :T α→Prop
  | .fail=>False
  | .leaf a=>Q a
  | .ask b t f=>(b=true→t.wp Q)∧(b=false→f.wp Q)
  | .need b t=>b=true∧t.wp Q
  | .alt _ t e=>t.wp Q∨(t.run=none∧e.wp Q)
theorem EE.seq{α β X:Type}{m:Option (α⊕X)}{k:α→Option (β⊕X)}{N:β→Prop}{E:X→Prop}(h:EE m (Sum.elim (fun a=>EE (k a) (Sum.elim N E)) E)) :EE (bj m k) (Sum.elim N E):=by
  obtain ⟨r,a,b⟩:=h
  cases r with
  | inl x =>
    obtain ⟨r',a',b'⟩:=b
    exact ⟨r',an a a',b'⟩
  | inr x=>exact ⟨.inr x,bT a,b⟩
theorem EE.join{κ X:Type}{m:Option (κ⊕(κ⊕X))}{N:κ→Prop}{E:X→Prop}(h:EE m (Sum.elim N (Sum.elim N E))) :EE (tJ m) (Sum.elim N E):=by
  obtain ⟨r,a,b⟩:=h
  rcases r with x | x | x
  · exact ⟨.inl x,FF a,b⟩
  · exact ⟨.inl x,IT a,b⟩
  · exact ⟨.inr x,pn a,b⟩
theorem EE.loop{σ Y:Type}{B:σ→Option (σ⊕Y)}(I:σ→Prop)(m:σ→Nat){Q:Y→Prop}{s:σ}(h0:I s)(h:∀ s,I s→EE (B s) (Sum.elim (fun s'=>I s'∧m s'<m s) Q)) :EE (dH B s) Q:=by
  obtain ⟨y,a,b⟩:=IS I m Q (fun s hs=>by
    obtain ⟨r,a,b⟩:=h s hs
    cases r with
    | inl x=>exact .inl ⟨x,a,b.1,b.2⟩
    | inr y=>exact .inr ⟨y,a,b⟩) s h0
  exact ⟨y,a,b⟩
theorem EE.map{α R:Type}{m:Option α}{g:α→R}{E:R→Prop}(h:EE m fun a=>E (g a)) :EE (Option.map g m) E:=by
  obtain ⟨r,a,b⟩:=h
  exact ⟨g r,by rw [a];rfl,b⟩
theorem EE.some{α:Type}{a:α}{Q:α→Prop}(h:Q a) :EE (some a) Q:=⟨a,rfl,h⟩
end Go.Plb
namespace Go.Plb.Seat
open Go Go.Plb
set_option linter.unusedSimpArgs false
set_option linter.unusedVariables false
set_option maxRecDepth 100000
def nD:ByteArray:=ByteArray.mk #[48,49,50,51,52,53,54,55,56,57,65,66,67,68,69,70]
def dg(w:Int)(j:Nat) :Nat:=((Int.fdiv w (2^(60-4*j)))%16).toNat
theorem Kv(w:Int)(j:Nat) :dg w j<16:=by unfold dg;omega
def AW(w:Int) :List Int:=(List.range 16).map fun j=>bG nD (dg w j)
def ba(w:Int) :ByteArray:=Aj (AW w)
theorem Mt(x:Int) :zS .and .u64 x (15:Int)=(x%16):=by
  have e:zS .and .u64 x (15:Int)=IntKind.u64.wrap ((BitVec.ofInt 64 x &&& BitVec.ofInt 64 15).toNat:Int):=rfl
  rw [e,BitVec.toNat_and]
  have h15:(BitVec.ofInt 64 15).toNat=15:=by decide
  rw [h15]
  have hm:∀ n:Nat,n &&& 15=n%16:=fun n=>Nat.and_two_pow_sub_one_eq_mod n 4
  rw [hm]
  have hx:(BitVec.ofInt 64 x).toNat=(x%18446744073709551616).toNat:=by rw [BitVec.toNat_ofInt];rfl
  rw [hx]
  have:IntKind.u64.wrap (((x%18446744073709551616).toNat%16:Nat):Int)=(((x%18446744073709551616).toNat%16:Nat):Int):=by
    show ((((x%18446744073709551616).toNat%16:Nat):Int)%18446744073709551616)=_
    omega
  rw [this]
  omega
theorem Lh(w:Int){j:Nat}(hj:j<16) :zS .and .u64 (Int.fdiv w (2^(min (Int.toNat ((60:Int)-(((4*j):Nat):Int))) (IntKind.u64.bits)))) (15:Int)=((dg w j:Nat):Int):=by
  rw [Mt]
  have e:min (Int.toNat ((60:Int)-(((4*j):Nat):Int))) (IntKind.u64.bits)=60-4*j:=by
    have:IntKind.u64.bits=64:=rfl
    rw [this];omega
  rw [e]
  unfold dg
  omega
theorem Dh{α:Type}(val:Nat→α)(l:List α) :∀ (n:Nat),n≤l.length→List.take n (Co (fun j=>j) val l n)=(List.range n).map val
  | 0,_=>rfl
  | n+1,h=>by
    have ih:=Dh val l n (by omega)
    have hl:(Co (fun j=>j) val l n).length=l.length:=vY
    simp only [Co]
    rw [List.take_add_one,List.take_set_of_le (Nat.le_refl _),ih,List.getElem?_set,if_pos rfl,if_pos (by omega),List.range_succ,List.map_append]
    rfl
theorem Ep(w:Int) :ow w=some (.r0 (ba w)):=by
  unfold ow
  refine bW (an rfl (an (a:=Co (fun j=>j) (fun j=>bG nD (dg w j)) (List.replicate 16 (0:Int)) 16) (jw (fun j=>(j,Co (fun j=>j) (fun j=>bG nD (dg w j)) (List.replicate 16 (0:Int)) j)) 16 rfl (fun j hj=>?_) ?_) ?_))
  · simp only [jv,qh]
    have hl:(Co (fun j=>j) (fun j=>bG nD (dg w j)) (List.replicate 16 (0:Int)) j).length=16:=by rw [vY];rfl
    have hd:=Kv w j
    have ha:cN (cN 0 (yW j 1)) 0=j:=by cases j<;>simp [cN,yW]
    rw [Lh w hj,ha,hl]
    refine eR (by simp;omega) (au (by rw [bC];omega) (au (by rw [bC];omega) (au (by simp;omega) (au ?_ (au (by rw [fD];omega) (au (by rw [aT];omega) (au (by rw [bC];omega) rfl)))))))
    rw [fD]
    exact ⟨by omega,by show ((dg w j:Nat):Int)<((16:Nat):Int);omega⟩
  · simp only [jv,qh]
    exact fw (by simp) rfl
  · simp only [tK]
    have hl:(Co (fun j=>j) (fun j=>bG nD (dg w j)) (List.replicate 16 (0:Int)) 16).length=16:=by rw [vY];rfl
    rw [hl]
    refine au (by decide) (au (by decide) (au (by decide) (au (by decide) ?_)))
    rw [Dh _ _ 16 (by decide)]
    rfl
theorem Kw(w:Int) :am prog lT [] [.int .u64 w] ⟨.str (ba w),[]⟩:=vX w (Ep w)
end Go.Plb.Seat
namespace Go.Plb.Seat
open Go Go.Plb Go.Proofs Go.RowKit
set_option maxRecDepth 100000
set_option linter.unusedSimpArgs false
set_option linter.unusedVariables false
theorem yI(s:ByteArray)(pos:Nat)(h:pos<s.size) :1≤(Utf8.decode s pos).2:=by
  by_cases ha:(s[pos]'h).toNat<128
  · rw [decode_ascii s pos h ha]
    exact Nat.le_refl _
  · exact (decode_high s pos h (by omega)).2
theorem GY(n:Int)(w:World)(hr:eQ w) :Calls prog 29 #[.int .u64 n] w fun e w'=>e=.returned (.string (ba n))∧Below w.heap.size w w':=by
  refine ((Kw n).calls w hr (us:=[.int .u64 n]) (.cons _ _ _ _ (.int _ _) .nil)).mono ?_
  rintro e w' ⟨u,ρ',rfl,hb,hu⟩
  cases hu
  exact ⟨rfl,hb⟩
def Js(r:Int) :Nat:=if 48≤r∧r≤57 then (r-48).toNat else if 65≤r∧r≤70 then (r-55).toNat else 16
def FG(acc:Int)(r:Int) :Int:=bits .or .u64 (IntKind.u64.wrap (acc*16)) (IntKind.u64.wrap (bits .and .i64 (Js r:Int) 15))
def lU(s:ByteArray) :Nat→Nat→Int→Int
  | 0,_,acc=>acc
  | f+1,pos,acc=>if pos<s.size then lU s f (pos+(Utf8.decode s pos).2) (FG acc (Utf8.decode s pos).1) else acc
def cH(s:ByteArray) :Bool:=decide (s.size=16)&&decide (ba (lU s s.size 0 0)=s)
def fE(s:ByteArray) :Int:=bif cH s then lU s s.size 0 0 else 0
def po(s:ByteArray) :Int:=bif cH s then 0 else 4
theorem Mu(r:Int) :Js r≤16:=by unfold Js;split<;>(try split)<;>omega
theorem Eq{n:Nat}(h:n<16) :(bG nD n=if n<10 then (48+n:Int) else (55+n:Int)):=by
  rcases n with _ | _ | _ | _ | _ | _ | _ | _ | _ | _ | _ | _ | _ | _ | _ | _ | n
  all_goals first | rfl | omega
theorem Li{n:Nat}(h:n<16)(r:Int) :bG nD n=r↔n=Js r:=by
  rw [Eq h]
  unfold Js
  split<;>split<;>(try split)<;>omega
theorem Kx{n:Nat}(h:n<16) :∃ b:UInt8,(⟨#[48,49,50,51,52,53,54,55,56,57,65,66,67,68,69,70]⟩:ByteArray)[n]? = some b∧(b.toNat:Int)=bG nD n:=by
  have:∀ n:Fin 16,∃ b:UInt8,(⟨#[48,49,50,51,52,53,54,55,56,57,65,66,67,68,69,70]⟩:ByteArray)[n.val]? = some b∧(b.toNat:Int)=bG nD n.val:=by
    intro n
    rcases n with ⟨_ | _ | _ | _ | _ | _ | _ | _ | _ | _ | _ | _ | _ | _ | _ | _ | n,h⟩
    all_goals first | exact ⟨_,rfl,rfl⟩ | omega
  exact this ⟨n,h⟩
theorem Lj(n:Nat)(h:n<16)(W:World) :(Instr.index 9 (.string ⟨#[48,49,50,51,52,53,54,55,56,57,65,66,67,68,69,70]⟩) (.int .i64 n)).run prog W=.ok (.int .u8 (bG nD n)) W:=by
  have u9:prog.underlying 9=some .string:=by kernel_rfl
  obtain ⟨b,h1,h2⟩:=Kx h
  have ha:(asIntOf (.int .i64 n)).run prog W=.ok (.i64,(n:Int)) W:=rfl
  unfold Instr.index
  simp only [Sem.run_bind,ha,Result.andThen_ok,run_underlying u9]
  rw [if_pos (Int.natCast_nonneg n),Int.toNat_natCast,h1,←h2]
  rfl
theorem Di(s:ByteArray) :∀ (f pos:Nat) (acc:Int),¬ pos<s.size→lU s f pos acc=acc
  | 0,_,_,_=>rfl
  | f+1,pos,acc,h=>by simp only [lU,h,if_false]
theorem toList_inj{a b:ByteArray}(h:a.toList=b.toList) :a=b:=by
  have ha:=Go.Lib.toList_data a
  have hb:=Go.Lib.toList_data b
  rw [h] at ha
  have:a.data.toList=b.data.toList:=ha.symm.trans hb
  cases a;cases b
  simp only [ByteArray.mk.injEq]
  exact Array.toList_inj.1 this
set_option maxHeartbeats 2000000 in
theorem AX (s : ByteArray) (hs : s.size ≤ 1000000000) (w : World) (hR : Hid (eQ w)) : Calls prog ot #[.string s] w fun e w' => e = .returned (.tuple #[.int .u64 (fE s), .int .i64 (po s)]) ∧ Below w.heap.size w w' := by
  go_enter Tryd.func26, Tryd.ntmps26
  go_wp2
  go_loopw [4] (fun t wr => ∃ (pos fuel : Nat) (acc : Int), t = .int .u64 acc ∧ wr.heap[w.heap.size]? = some (.stringIter s pos) ∧ Below w.heap.size w wr ∧ lU s fuel pos acc = lU s s.size 0 0 ∧ s.size ≤ pos + fuel) (fun _ wr => s.size - wr.iterPos w.heap.size)
  case atStart =>
    exact ⟨0, s.size, 0, rfl, World.iter_heap w s 0, (Below.refl _ w).alloc (Nat.le_refl _) _, rfl, by omega⟩
  case round =>
    obtain ⟨pos, fuel, acc, rfl, hit, hbw, hacc, hfu⟩ := hrel
    by_cases hp : pos < s.size
    · have hnx : ∀ ty, (Instr.next (.pointer (some ⟨w.heap.size, 0, none⟩)) true ty).run prog wr = _ := fun ty => Lib.run_next_any_at wr w.heap.size s pos ty hit hp
      obtain ⟨r, hr⟩ : ∃ r : Nat, (Utf8.decode s pos).1 = r := ⟨_, rfl⟩
      obtain ⟨wd, hwd⟩ : ∃ wd : Nat, (Utf8.decode s pos).2 = wd := ⟨_, rfl⟩
      rw [hr, hwd] at hnx
      have hit2 := Lib.iterAt_heap wr w.heap.size s pos (pos + wd) hit
      have hbw2 := Lib.below_iterAt hbw (k := w.heap.size) (Nat.le_refl _) s (pos + wd)
      obtain ⟨W1, hW1⟩ : ∃ W1, wr.iterAt w.heap.size s (pos + wd) = W1 := ⟨_, rfl⟩
      rw [hW1] at hnx hit2 hbw2
      go_wp2
      go_loopw [7] (fun t W => W = W1 ∧ ∃ n : Nat, t = .int .i64 n ∧ n ≤ Js r) (fun t _ => 16 - (intOf t).toNat)
      case atStart => exact ⟨rfl, 0, rfl, Nat.zero_le _⟩
      case round =>
        obtain ⟨hWW, n, rfl, hn⟩ := hrel
        replace hWW := hWW.symm
        subst hWW
        have hd := Mu r
        have hstep : n = Js r → ∃ (pos' fuel' : Nat) (acc' : Int), Value.int .u64 (bits .or .u64 (IntKind.u64.wrap (acc * 16)) (IntKind.u64.wrap (bits .and .i64 (n : Int) 15))) = .int .u64 acc' ∧
            W1.heap[w.heap.size]? = some (.stringIter s pos') ∧ Below w.heap.size w W1 ∧ lU s fuel' pos' acc' = lU s s.size 0 0 ∧ s.size ≤ pos' + fuel' := fun e => by
          obtain ⟨f, rfl⟩ : ∃ f, fuel = f + 1 := ⟨fuel - 1, by omega⟩
          have hw1 := yI s pos hp
          refine ⟨pos + wd, f, FG acc r, by rw [e]; rfl, hit2, hbw2, ?_, by omega⟩
          rw [← hacc]
          simp only [lU, hp, if_true, hr, hwd]
        have hmeas : s.size - W1.iterPos w.heap.size < s.size - wr.iterPos w.heap.size := by
          have hw1 := yI s pos hp
          simp only [World.iterPos, hit, hit2]
          omega
        have HS := Lib.hid hstep
        clear hstep
        by_cases h16 : n < 16
        · have hix := Lj n h16
          have hdi := Lib.hid (Li h16 r)
          have hb : 0 ≤ bG nD n ∧ bG nD n < 256 := by rw [Eq h16]; split <;> omega
          have hwr : wrap32 (bG nD n) = bG nD n := by simp only [wrap32]; omega
          go_wp2
          · have ht : (bG nD n != (r : Int)) = true := by assumption
            have hne : ¬ n = Js r := fun c => by
              have := hdi.out.2 c
              rw [this] at ht
              simp at ht
            exact ⟨⟨trivial, n + 1, by go_num, by omega⟩, by simp [intOf]; omega⟩
          · have ht : (bG nD n != (r : Int)) = false := by assumption
            have he : n = Js r := hdi.out.1 (by simpa using ht)
            exact ⟨HS.out he, hmeas⟩
        · have h16' : ¬ ((n : Int) < 16) := by omega
          have he : Hid (n = Js r) := Lib.hid (by omega)
          go_wp2
          exact ⟨HS.out he.out, hmeas⟩
    · have hnx : ∀ ty, (Instr.next (.pointer (some ⟨w.heap.size, 0, none⟩)) true ty).run prog wr = _ := fun ty => Lib.run_next_end_at wr w.heap.size s pos ty hit hp
      have hR2 : Hid (eQ wr) := Lib.hid (hR.out.below hbw (Nat.le_refl _))
      go_wp2_with (go_at_call 29; refine (GY _ _ hR2.out).mono ?_; rintro e W1 ⟨rfl, hb1⟩)
      all_goals clear hnx
      all_goals have hacc' : acc = lU s s.size 0 0 := (Di s fuel pos acc hp).symm.trans hacc
      · have h2 : (!(ba acc).toList == s.toList) = true := by assumption
        have ho : cH s = false := by
          unfold cH
          have : ¬ ba (lU s s.size 0 0) = s := fun c => by
            rw [← hacc'] at c
            rw [c] at h2
            simp at h2
          rw [decide_eq_false this, Bool.and_false]
        have hW : fE s = 0 := by rw [fE, ho]; rfl
        have hE : po s = 4 := by rw [po, ho]; rfl
        go_ret2
        exact ⟨by rw [hW, hE]; rfl, hbw.trans (hb1.mono hbw.size)⟩
      · have h1 : (s.size : Int) = 16 := by assumption
        have h2 : (!(ba acc).toList == s.toList) = false := by assumption
        have ho : cH s = true := by
          unfold cH
          have h3 : ba (lU s s.size 0 0) = s := by
            rw [← hacc']
            exact toList_inj (by simpa using h2)
          rw [decide_eq_true h3, decide_eq_true (show s.size = 16 by omega)]; rfl
        have hW : fE s = acc := by rw [fE, ho, hacc']; rfl
        have hE : po s = 0 := by rw [po, ho]; rfl
        go_ret2
        exact ⟨by rw [hW, hE]; rfl, hbw.trans (hb1.mono hbw.size)⟩
      · have h1 : ¬ (s.size : Int) = 16 := by assumption
        have ho : cH s = false := by
          unfold cH
          rw [decide_eq_false (show ¬ s.size = 16 by omega)]; rfl
        have hW : fE s = 0 := by rw [fE, ho]; rfl
        have hE : po s = 4 := by rw [po, ho]; rfl
        go_ret2
        exact ⟨by rw [hW, hE]; rfl, hbw⟩
theorem Mv(s:ByteArray)(hs:s.size≤1000000000) :am prog ot [] [.str s] ⟨.tup [.int .u64 (fE s),.int .i64 (po s)],[]⟩:=by
  refine ch ⟨FN ot,by kernel_rfl,by kernel_rfl⟩ fun ρ w us hN hv=>?_
  cases hv with | cons _ u _ _ h1 h2 =>
  cases h2;cases h1
  refine (AX s hs w (Lib.hid hN.romOk)).mono ?_
  rintro e w' ⟨rfl,hb⟩
  exact ⟨_,rfl,hb,.tup _ _ (.cons _ _ _ _ (.int _ _) (.cons _ _ _ _ (.int _ _) .nil))⟩
noncomputable def Ky:aU:=dG ot (.cons .str .nil) fun t=>[⟨⟨.tup [.int .u64 (fE t.1),.int .i64 (po t.1)],[]⟩,[em t.1.size]⟩]
theorem IV:bc prog Ky:=bf fun t=>bi (fun h=>Mv t.1 (Nat.le_of_ble_eq_true h)) bZ
end Go.Plb.Seat
namespace Go.Plb.Seat
open Go Go.Plb Go.Proofs Go.RowKit Go.Shelf
set_option maxRecDepth 100000
set_option linter.unusedSimpArgs false
set_option linter.unusedVariables false
theorem Lk:(5,AV.gvar (aP.map fun z=>Value.int .u64 z).toArray)∈(Rom.tab:List (Nat×AV)):=by simp [Rom.tab]
theorem Ll:(3,AV.iptr .free (.vs [.iface 147 .any]) 1 0 0)∈(Rom.tab:List (Nat×AV)):=by simp [Rom.tab]
theorem Lm:(4,AV.iptr .free (.vs [.iface 147 .any]) 1 0 0)∈(Rom.tab:List (Nat×AV)):=by simp [Rom.tab]
theorem Mw{w : World}(h : eQ w) : Lib.TabIs prog w "internal/strconv.uint64pow10" .u64 Lib.pow10Tab := by
  have h1:=h _ Lk
  cases h1 with | gvar _ _ t fr ha hb hh =>
  have hg : prog.globalNamed "internal/strconv.uint64pow10" = some 5 := by kernel_rfl
  have e:aP=Lib.pow10Tab:=by decide
  unfold Lib.TabIs World.var?
  rw [hg,←e]
  simp [hh]
theorem Kz{w:World}{g:Nat}(h:VR ae.none_ w (.iptr .free (.vs [.iface 147 .any]) 1 0 0) (.pointer (some ⟨g,0,none⟩))) :∃ v,w.cell? ⟨g,0,none⟩=some (.iface 147 v):=by
  generalize hu:Value.pointer (some ⟨g,0,none⟩)=u at h
  cases h with | iptr _ _ _ _ _ bl o u' ha hb hc hv hr hk hg =>
  simp only [Value.pointer.injEq,Option.some.injEq,Addr.mk.injEq] at hu
  obtain ⟨rfl,ho,_⟩:=hu
  have ho:o=0:=by omega
  subst ho
  have h1:=hc 0 _ rfl
  have h2:=hv 0 _ rfl
  generalize u' 0=x at h1 h2
  cases h2 with | iface _ _ v hv'=>exact ⟨v,by simpa using h1⟩
def Ci:Nat→Nat→List UInt8
  | 0,_=>[]
  | f+1,n=>if n<10 then [UInt8.ofNat (48+n)] else Ci f (n/10)++[UInt8.ofNat (48+n%10)]
def FH(n:Int) :List UInt8:=if n<0 then 45::Ci 20 n.natAbs else Ci 20 n.toNat
def bP(n:Int) :ByteArray:=⟨(FH n).toArray⟩
theorem Er:∀ (f n:Nat),n<10^(f+1)→Ci (f+1) n=Lib.decDigits n
  | 0,n,h=>by
    have hn:n<10:=by simpa using h
    rw [Lib.decDigits]
    simp [Ci,hn]
  | f+1,n,h=>by
    rw [Lib.decDigits]
    rw [Ci]
    split
    · rfl
    · rw [Er f (n/10) (by rw [Nat.pow_succ] at h;omega)]
theorem KA{n:Int}(h1 : -9223372036854775808≤n)(h2:n≤9223372036854775807) :FH n=Lib.itoa n:=by
  have hp:10^20=100000000000000000000:=by decide
  unfold FH Lib.itoa
  split
  · rw [Er 19 _ (by rw [hp];omega)]
  · rw [Er 19 _ (by rw [hp];omega)]
theorem AY(n:Int)(h1 : -9223372036854775808≤n)(h2:n≤9223372036854775807)(w:World)(hr:eQ w) :Calls prog kr #[.int .i64 n] w fun e w'=>e=.returned (.string (bP n))∧Below w.heap.size w w':=by
  refine (Tryd.strconv_Itoa n h1 h2 w (Mw hr)).mono ?_
  rintro e w' ⟨rfl,k,os,rfl⟩
  rw [bP,KA h1 h2]
  refine ⟨rfl,rfl,rfl,rfl,by simp [Go.Sort.grow],fun i hi=>?_⟩
  show ((w.drewN k).heap++os)[i]? = _
  rw [Array.getElem?_append_left (by simpa using hi)]
  rfl
theorem Mx(n:Int)(hk:kK .i64 n=true) :am prog kr [] [.int .i64 n] ⟨.str (bP n),[]⟩:=by
  rw [bC] at hk
  refine ch ⟨FN kr,by kernel_rfl,by kernel_rfl⟩ fun ρ w us hN hv=>?_
  cases hv with | cons _ u _ _ h1 h2 =>
  cases h2;cases h1
  refine (AY n hk.1 hk.2 w hN.romOk).mono ?_
  rintro e w' ⟨rfl,hb⟩
  exact ⟨_,rfl,hb,.str _⟩
noncomputable def KB:aU:=dG kr (.cons (.int .i64) .nil) fun t=>[⟨⟨.str (bP t.1),[]⟩,[kK .i64 t.1]⟩]
theorem IW:bc prog KB:=bf fun t=>bi (fun h=>Mx t.1 h) bZ
def cV(s:ByteArray) :Int:=match Lib.atoiAll s.data.toList with
  | .ok v=>if bP v=s then v else -1
  | _=>-1
theorem Ln{a b:ByteArray}(h:(!a.toList==b.toList)=true) :a≠b:=fun c=>by subst c;simp at h
set_option maxHeartbeats 2000000 in
theorem Es (s : ByteArray) (hs : s.size ≤ 1000000000) (w : World) (hR : Hid (eQ w)) : Calls prog jB #[.string s] w fun e w' => e = .returned (.int .i64 (cV s)) ∧ Below w.heap.size w w' := by
  cases h : Lib.atoiAll s.data.toList with
  | ok v =>
    have hv := Lib.atoiAll_bounds h
    have cA := Tryd.strconv_Atoi_ok s (by omega) v h w
    go_enter Tryd.func54, Tryd.ntmps54
    go_wp2_with (go_at_call 69; refine cA.mono ?_; rintro e W1 ⟨rfl, hw1⟩; refine Hid.out ?_)
    refine Lib.hid ?_
    have hb1 : Below w.heap.size w W1 := by
      rcases hw1 with rfl | ⟨t, rfl⟩
      · exact Below.refl _ _
      · exact Go.Lib.bytesWorld_below _ _ _
    have hR1 : Hid (eQ W1) := Lib.hid (hR.out.below hb1 (Nat.le_refl _))
    clear hw1 cA
    go_wp2_with (go_at_call 55; refine (AY v hv.1 hv.2 _ hR1.out).mono ?_; rintro e W2 ⟨rfl, hb2⟩)
    · have h2 : (!(bP v).toList == s.toList) = true := by assumption
      have hn : cV s = -1 := by simp only [cV, h]; rw [if_neg (Ln h2)]
      go_ret
      exact ⟨by rw [hn]; rfl, hb1.trans (hb2.mono hb1.size)⟩
    · have h2 : (!(bP v).toList == s.toList) = false := by assumption
      have hn : cV s = v := by simp only [cV, h]; rw [if_pos (toList_inj (by simpa using h2))]
      go_ret
      exact ⟨by rw [hn]; rfl, hb1.trans (hb2.mono hb1.size)⟩
  | range =>
    obtain ⟨ev, hev⟩ := Kz (hR.out _ Lm)
    have hn : cV s = -1 := by simp only [cV, h]
    have cA := Tryd.strconv_Atoi_range s (by omega) h (.iface 147 ev) w hev (.inr ⟨_, _, rfl⟩)
    go_enter Tryd.func54, Tryd.ntmps54
    go_wp2_with (go_at_call 69; refine cA.mono ?_; rintro e W1 ⟨N, rfl, _, _, hb⟩)
    go_ret
    exact ⟨by rw [hn]; rfl, hb⟩
  | _ =>
    obtain ⟨ev, hev⟩ := Kz (hR.out _ Ll)
    have hn : cV s = -1 := by simp only [cV, h]
    have cA := Tryd.strconv_Atoi_syntax s (by omega) h (.iface 147 ev) w hev (.inr ⟨_, _, rfl⟩)
    go_enter Tryd.func54, Tryd.ntmps54
    go_wp2_with (go_at_call 69; refine cA.mono ?_; rintro e W1 ⟨N, rfl, _, _, hb⟩)
    go_ret
    exact ⟨by rw [hn]; rfl, hb⟩
theorem KC(s:ByteArray)(hs:s.size≤1000000000) :am prog jB [] [.str s] ⟨.int .i64 (cV s),[]⟩:=by
  refine ch ⟨FN jB,by kernel_rfl,by kernel_rfl⟩ fun ρ w us hN hv=>?_
  cases hv with | cons _ u _ _ h1 h2 =>
  cases h2;cases h1
  refine (Es s hs w (Lib.hid hN.romOk)).mono ?_
  rintro e w' ⟨rfl,hb⟩
  exact ⟨_,rfl,hb,.int _ _⟩
noncomputable def FI:aU:=dG jB (.cons .str .nil) fun t=>[⟨⟨.int .i64 (cV t.1),[]⟩,[em t.1.size]⟩]
theorem FJ:bc prog FI:=bf fun t=>bi (fun h=>KC t.1 (Nat.le_of_ble_eq_true h)) bZ
def pq:List ByteArray→List UInt8
  | []=>[]
  | [x]=>x.data.toList
  | x::y::r=>x.data.toList++32::pq (y::r)
def ox(l:List ByteArray) :ByteArray:=⟨(pq l).toArray⟩
theorem AZ:∀ l:List ByteArray,pq l=Lib.join (l.map (·.data.toList)) [32]
  | []=>rfl
  | [x]=>by rw [List.map_cons,List.map_nil,Lib.join_one];rfl
  | x::y::r=>by
    rw [List.map_cons,Lib.join_cons,pq,AZ (y::r),List.map_cons,Lib.join_cons]
    simp [Lib.joinTail]
theorem My(l:Lv)(xs:List ByteArray)(h1:(ox xs).size≤1000000000)(h2:xs.length≤1000000000) :am prog nB [] [.imm l (.ss xs) 1 1 0 xs.length,.str ⟨#[32]⟩] ⟨.str (ox xs),[]⟩:=by
  refine ch ⟨FN nB,by kernel_rfl,by kernel_rfl⟩ fun ρ w us hN hv=>?_
  cases hv with | cons _ u _ _ v1 v2 =>
  cases v2 with | cons _ u2 _ _ v3 v4 =>
  cases v4;cases v3
  have hz:(pq xs).length≤1000000000:=by
    have:(ox xs).size=(pq xs).length:=by simp [ox,ByteArray.size]
    omega
  generalize hn:xs.length=n at v1
  cases v1 with
  | imm _ _ _ _ _ _ cap bl o u' ha hb hc hv' hl hr hk hg =>
    have:=Tryd.strings_Join bl (o+0*1) cap xs ⟨#[32]⟩ w (fun j x hj=>by
      have hcell:(aj.ss xs).cell? j=some (.str x):=by show (xs[j]?).map AV.str=_;rw [hj];rfl
      have q1:=hc j _ hcell
      have q2:=hv' j _ hcell
      cases hu:u' j<;>rw [hu] at q2<;>cases q2
      rw [hu] at q1
      simpa using q1) hb (by omega) (by omega) (by
        rw [←AZ];omega)
    rw [hn] at this
    refine this.mono ?_
    rintro e w' ⟨rfl,hb⟩
    refine ⟨_,rfl,hb,?_⟩
    rw [←AZ]
    exact .str _
  | immEnd _ _ _ _ _ cap a hr hk hg =>
    have hx:xs=[]:=List.length_eq_zero_iff.1 hn
    subst hx
    refine (Tryd.strings_Join_none a cap ⟨#[32]⟩ w).mono ?_
    rintro e w' ⟨rfl,rfl⟩
    exact ⟨_,rfl,Below.refl _ _,.str _⟩
def Mz(z:ByteArray) :Bool:=decide (z=⟨#[32]⟩)
theorem Lo{z:ByteArray}(h:Mz z=true) :z=⟨#[32]⟩:=of_decide_eq_true h
noncomputable def KD:aU:=dG nB (.cons .ss (.cons .str .nil)) fun t=>[⟨⟨.str (ox t.1.2),[]⟩,[Mz t.2.1,em (ox t.1.2).size,em t.1.2.length]⟩]
theorem IX:bc prog KD:=bf fun t a ha ho=>by
  simp only [List.mem_singleton] at ha
  subst ha
  obtain ⟨⟨l,xs⟩,z,_⟩:=t
  have hz:=Lo ho.1
  subst hz
  exact My l xs (Nat.le_of_ble_eq_true ho.2.1) (Nat.le_of_ble_eq_true ho.2.2.1)
end Go.Plb.Seat
namespace Go.Plb.Seat
open Go Go.Plb Go.Proofs Go.RowKit Go.Shelf
set_option maxRecDepth 100000
set_option linter.unusedSimpArgs false
set_option linter.unusedVariables false
attribute [local go_sem] Oper.semAt_some
theorem zc(s sep:ByteArray)(w:World) :Calls prog 49 #[.string s,.string sep,.int .i64 0] w fun e w' =>
    e=.returned (.func (.func 63) #[] #[.pointer (some ⟨w.heap.size+1,0,none⟩),.pointer (some ⟨w.heap.size,0,none⟩),.pointer (some ⟨w.heap.size+2,0,none⟩)]) ∧
    w'=((w.alloc (.cells #[.string s] 9)).alloc (.cells #[.string sep] 9)).alloc (.cells #[.int .i64 0] 3):=by
  have hmf:∀ (fn:Fn) (first cap:Array Value) (w:World),(Instr.makeFunc fn first cap).run prog w=.ok (.func fn first cap) w:=fun _ _ _ _=>rfl
  go_enter Tryd.func49,Tryd.ntmps49
  go_wp2
  go_ret
  exact ⟨rfl,rfl⟩
theorem A0(s sep:ByteArray)(w:World) :Calls prog 25 #[.string s,.string sep] w fun e w' =>
    e=.returned (.func (.func 63) #[] #[.pointer (some ⟨w.heap.size+1,0,none⟩),.pointer (some ⟨w.heap.size,0,none⟩),.pointer (some ⟨w.heap.size+2,0,none⟩)]) ∧
    w'=((w.alloc (.cells #[.string s] 9)).alloc (.cells #[.string sep] 9)).alloc (.cells #[.int .i64 0] 3):=by
  go_enter Tryd.func25,Tryd.ntmps25
  go_wp2_with (go_at_call 49;refine (zc s sep _).mono ?_;rintro e w' ⟨rfl,rfl⟩)
  go_ret
  exact ⟨rfl,rfl⟩
theorem uH{g:Operand}{ps:Array Tmp}{assign body:Code}{Q:Exit→Act→World→Prop}{a:Act}{w:World}{gf m:Nat}{lb:Array Value}(hg:a.eval g=.func (.func gf) #[] lb)(eg:∀ args w,(callFunc gf args).run prog w=.ok (.enter gf args) w) 
    (h : ∀ (fn : FuncId) (rec : LoopState → Option Code → Loop), (∀ st pe, (rec st pe).state = st ∧ (rec st pe).pending = pe) →
      (∀ (m':Nat) (args:Array Value) (W:World) (R:Ending→World→Prop),W.heap[w.heap.size+1]? = some (.loop (rec .ready none))→args.size=ps.size →
        assign.wpIn (Fence.wide.inRound (w.heap.size+1)) m' prog (Exit.then (fun a₁ w₁=>w₁.heap[w.heap.size+1]? = some (.loop (rec .ready none))∧body.wpIn (Fence.wide.inRound (w.heap.size+1)) m' prog
            (fun x _ w'=>match x with
              | .normal=>w'.heap[w.heap.size+1]? = some (.loop (rec .busy none))∧R (.returned (.bool true)) (w'.putObj (w.heap.size+1) (.loop (rec .ready none)))
              | .ret=>w'.heap[w.heap.size+1]? = some (.loop (rec .busy none))∧R (.returned (.bool false)) (w'.putObj (w.heap.size+1) (.loop (rec .done (some .ret))))
              | _=>False) a₁ (w₁.putObj (w.heap.size+1) (.loop (rec .busy none)))) (fun _ _ _=>False))
          { tmps:=(ps.zip args).foldl (fun t (p,v)=>t.setIfInBounds p v) a.tmps,defers:=[] } W →
        YieldAt Fence.wide m' prog (w.heap.size+1) args W R) →
      CallsIn Fence.wide m prog gf (#[.func (.yield (w.heap.size+1)) #[] #[]]++lb) ((w.alloc (.deferred (some []))).alloc (.loop (rec .ready none))) (fun e W'=>(∃ v,e=.returned v) ∧
        ((W'.heap[w.heap.size+1]? = some (.loop (rec .ready none))∧Q .normal { a with defers:={ target:=.collected w.heap.size,args:=#[] }::a.defers } (W'.putObj (w.heap.size+1) (.loop (rec .exhausted none)))) ∨
         (∃ c,W'.heap[w.heap.size+1]? = some (.loop (rec .done (some c)))∧c.wpIn Fence.wide (m+1) prog Q { a with defers:={ target:=.collected w.heap.size,args:=#[] }::a.defers } (W'.putObj (w.heap.size+1) (.loop (rec .exhausted (some c)))))))) :
    (Code.rangeFunc g ps assign body).wpIn Fence.wide (m+1) prog Q a w:=by
  refine wpIn_rangeFunc ?_
  intro fn hfn
  obtain ⟨rec,hrec⟩:∃ rec:LoopState→Option Code→Loop,rec=fun st pe=>{ state:=st,pending:=pe,fn,tmps:=a.tmps,params:=ps,assign,body,defers:=w.heap.size }:=⟨_,rfl⟩
  have key:=h fn rec (by intro st pe;rw [hrec];exact ⟨rfl,rfl⟩) (fun m' args W R hl hs hr=>by
    have hy:=run_yield (P:=prog) (args:=args) hl (by rw [hrec];exact hs)
    rw [hrec] at hy
    refine ⟨fn,_,assign,body,hy,roundIn_of_wpIn hfn (wpIn_mono hr ?_)⟩
    rintro e a1 w1 hp
    cases e<;>first | exact hp.elim | skip
    obtain ⟨h1,h2⟩:=hp
    refine ⟨_,run_beginRound h1 (by rw [hrec]),?_⟩
    have hb:({ rec .ready none with state:=.busy }:Loop)=rec .busy none:=by rw [hrec]
    rw [hb]
    refine wpIn_mono h2 ?_
    rintro e a2 w2 hp
    have hput:∀ jump,(Instr.endRound (w.heap.size+1) jump).run prog w2=_:=fun jump=>run_endRound (P:=prog) jump (r:=rec .busy none) (by cases e<;>first | exact hp.1 | exact hp.elim)
    cases e with
    | normal=>exact ⟨_,_,hput none,by have:=hp.2;rw [hrec] at this ⊢;exact this⟩
    | ret=>exact ⟨_,_,hput (some .ret),by have:=hp.2;rw [hrec] at this ⊢;exact this⟩
    | exit id=>exact hp.elim
    | goto t=>exact hp.elim
    | panic c=>exact hp.elim
    | outgrown=>exact hp.elim)
  refine ⟨w.heap.size+1,[{ target:=.collected w.heap.size,args:=#[] }],(w.alloc (.deferred (some []))).alloc (.loop (rec .ready none)),{ target:=.fn (.func gf) lb,args:=#[.func (.yield (w.heap.size+1)) #[] #[]] },(w.alloc (.deferred (some []))).alloc (.loop (rec .ready none)),gf,
    #[.func (.yield (w.heap.size+1)) #[] #[]]++lb,(w.alloc (.deferred (some []))).alloc (.loop (rec .ready none)),?_,?_,fun _ _=>trivial,?_,fun _=>by omega,?_⟩
  · rw [hrec];exact run_enterLoop_outer _ _ _ _ _
  · simp only [resolve,hg]
    simp [go_sem]
  · simp [invoke,go_sem,eg]
  · refine key.mono ?_
    rintro e W2 ⟨⟨v,rfl⟩,⟨hl,hq⟩ | ⟨c,hl,hq⟩⟩
    · exact ⟨none,W2.putObj (w.heap.size+1) (.loop (rec .exhausted none)),by have:=run_endLoop (P:=prog) hl (by rw [hrec];simp);rw [hrec] at this ⊢;exact this,hq⟩
    · exact ⟨some c,W2.putObj (w.heap.size+1) (.loop (rec .exhausted (some c))),by have:=run_endLoop (P:=prog) hl (by rw [hrec];simp);rw [hrec] at this ⊢;exact this,hq⟩
theorem yJ{P:Program}{t:TypeId}{W:World}{a:Addr}{v:Value}(h:yk P t=some false)(hc:W.cell? a=some v) :(loadVar t a).run P W=.ok v W:=by
  unfold loadVar
  rw [Sem.run_bind,nh h]
  simp [Result.andThen,hc]
theorem tL{P:Program}{fn:Func}{p q:Tmp}{t u:TypeId}(h:fn.results = #[.cell p t,.cell q u]){tmps:Array Value}{W:World}{a b:Addr}{v v':Value}(hp:tmps.getD p undef=.pointer (some a))(hq:tmps.getD q undef=.pointer (some b)) 
    (ht:yk P t=some false) (hu:yk P u=some false) (hc:W.cell? a=some v) (hd:W.cell? b=some v'):(results fn tmps).run P W=.ok (.tuple #[v,v']) W:=by
  have h1:=yJ ht hc
  have h2:=yJ hu hd
  rw [AF,h]
  simp [xp,hp,hq,asAddr,Sem.run_bind,Result.andThen,h1,h2]
theorem gS{B:Nat}{a w:World}(h:Below B a w){r:Nat}(hr:B≤r)(o:Obj) :Below B a (w.putObj r o) :=
  ⟨h.os,h.tape,h.output,by simp only [World.putObj_size];exact h.size,fun k hk=>(World.putObj_heap_other (by omega)).trans (h.block k hk)⟩
theorem mY{W W':World}{base:Nat}{e:TypeId}{size:Nat}{v:Value}{n:Nat}{xs:List Value}(h:W.ownsRow base e size v n xs)(hb:∀ k,base≤k→k<W.heap.size→W'.heap[k]? = W.heap[k]?) :W'.ownsRow base e size v n xs:=by
  refine ⟨h.1,?_⟩
  rcases h.2 with q | ⟨g,cap,cur,h1,h2,h3,h4⟩
  · exact .inl q
  · exact .inr ⟨g,cap,cur,h1,h2,(hb g h2 (Array.getElem?_eq_some_iff.1 h3).1).trans h3,h4⟩
structure Mb (w:World) (rec:LoopState→Option Code→Loop) (pre:List Int) (W:World):Prop where
  r:Boxed W w.heap.size 22 (.slice none 0 0)
  e:Boxed W (w.heap.size+1) 24 (.int .i64 0)
  l:∃ v,Boxed W (w.heap.size+1+1) 22 v∧W.ownsRow (w.heap.size+8) 35 1 v pre.length (pre.map (Value.int .u64))
  d:W.heap[w.heap.size+6]? = some (.deferred (some []))
  o:W.heap[w.heap.size+6+1]? = some (.loop (rec .ready none))
  low:Below w.heap.size w W
theorem Mb.set{w:World}{rec:LoopState→Option Code→Loop}{pre:List Int}{W:World}(h:Mb w rec pre W)(k:Nat)(h1:w.heap.size+3≤k)(h2:k<w.heap.size+6)(u:Value) :Mb w rec pre (W.setCell ⟨k,0,none⟩ u):=by
  have hk:∀ j,j≠k→(W.setCell ⟨k,0,none⟩ u).heap[j]? = W.heap[j]?:=fun j hj=>Below.heap_setCell _ _ _ _ hj
  obtain ⟨v,hv,ho⟩:=h.l
  exact ⟨(hk _ (by omega)).trans h.r,(hk _ (by omega)).trans h.e,⟨v,(hk _ (by omega)).trans hv,mY ho fun j hj _=>hk j (by omega)⟩,(hk _ (by omega)).trans h.d,(hk _ (by omega)).trans h.o,h.low.setCell (by show w.heap.size≤k;omega) _⟩
def GZ(W:World)(k:Nat) :Nat:=match W.cell? ⟨k,0,none⟩ with
  | some (.string r)=>r.size
  | _=>0
theorem Dj{W:World}{k:Nat}{t:TypeId}{r:ByteArray}(h:Boxed W k t (.string r)) :GZ W k=r.size:=by
  unfold GZ
  rw [h.cell]
structure NX (w:World) (rec:LoopState→Option Code→Loop) (W:World):Prop where
  r:Boxed W w.heap.size 22 (.slice none 0 0)
  e:Boxed W (w.heap.size+1) 24 (.int .i64 4)
  d:W.heap[w.heap.size+6]? = some (.deferred (some []))
  o:W.heap[w.heap.size+6+1]? = some (.loop (rec .done (some .ret)))
  low:Below w.heap.size w W
theorem ql(l:List UInt8)(c:UInt8) :Lib.indexByte l c<l.length∨l=[]:=by
  induction l with
  | nil=>exact .inr rfl
  | cons b l ih =>
    left
    unfold Lib.indexByte
    simp only [List.length_cons]
    split
    · omega
    · split
      · omega
      · rcases ih with h | rfl
        · omega
        · exact absurd rfl ‹¬ (Lib.indexByte [] c == -1)=true›
theorem Ni{α:Type}(h:Array α)(a b c d e f g i:α)(k:Nat) :((((((((h.push a).push b).push c).push d).push e).push f).push g).push i)[h.size+k]? = #[a,b,c,d,e,f,g,i][k]?:=by
  have e1:((((((((h.push a).push b).push c).push d).push e).push f).push g).push i)=h ++ #[a,b,c,d,e,f,g,i]:=by
    apply Array.toList_inj.1
    simp
  rw [e1,Array.getElem?_append_right (Nat.le_add_right _ _),Nat.add_sub_cancel_left]
def xw:Nat→ByteArray→List Int→Option (List Int)
  | 0,_,_=>none
  | f+1,s,acc =>
    if Lib.indexByte s.data.toList 32<0 then (if cH s=true then some (acc++[fE s]) else none)
    else if cH (s.extract 0 (Lib.indexByte s.data.toList 32).toNat)=true then xw f (s.extract ((Lib.indexByte s.data.toList 32).toNat+1) s.size) (acc++[fE (s.extract 0 (Lib.indexByte s.data.toList 32).toNat)]) else none
def nE(s:ByteArray) :Option (List Int):=xw (s.size+1) s []
set_option maxHeartbeats 2000000 in
theorem yK (s : ByteArray) (hs : s.size ≤ 1000000000) (w : World) (hR : Hid (eQ w)) : Calls prog dZ #[.string s] w fun e w' => Below w.heap.size w w' ∧
    ((∃ xs v, nE s = some xs ∧ e = .returned (.tuple #[v, .int .i64 0]) ∧ w'.ownsRow (w.heap.size + 8) 35 1 v xs.length (xs.map (Value.int .u64))) ∨ (nE s = none ∧ e = .returned (.tuple #[.slice none 0 0, .int .i64 4]))) := by
  refine (callsIn_wide (n := 6)).1 (callsIn_of_wp_marks Tryd.func9 rfl trivial ?_)
  simp only [Tryd.ntmps9, List.size_toArray, List.length_cons, List.length_nil, Nat.reduceAdd, Nat.reduceSub, Array.replicate_succ, Array.replicate_zero, List.push_toArray, List.append_toArray, List.nil_append, List.cons_append]
  gi_wp2_with (refine ⟨trivial, ?_⟩; gi_at_call 25; refine (callsIn_wide.2 (A0 s _ _)).mono ?_; rintro e w' ⟨rfl, rfl⟩)
  obtain ⟨w0, hw0⟩ : ∃ w0, (((((w.alloc (.cells #[.slice none 0 0] 22)).alloc (.cells #[.int .i64 0] 24)).alloc (.cells #[.slice none 0 0] 22)).alloc (.cells #[.string s] 9)).alloc (.cells #[.string ⟨#[32]⟩] 9)).alloc (.cells #[.int .i64 0] 3) = w0 := ⟨_, rfl⟩
  rw [hw0]
  have hsz : w0.heap.size = w.heap.size + 6 := by rw [← hw0]; simp
  refine uH (gf := 63) (m := 5) rfl (enters_of Tryd.func63 (by kernel_rfl) rfl) fun fn rec hrec hy => ?_
  rw [hsz] at hy ⊢
  have round : ∀ (pre : List Int) (x : ByteArray) (W : World), x.size ≤ 1000000000 → pre.length ≤ 1000000000 → Mb w rec pre W → YieldAt Fence.wide 4 prog (w.heap.size + 6 + 1) #[.string x] W (fun e W' =>
      (∀ k, w.heap.size + 3 ≤ k → k < w.heap.size + 6 → W'.heap[k]? = W.heap[k]?) ∧ ((cH x = true ∧ e = .returned (.bool true) ∧ Mb w rec (pre ++ [fE x]) W') ∨ (cH x = false ∧ e = .returned (.bool false) ∧ NX w rec W'))) := by
    intro pre x W hx hlen hS
    refine hy 4 _ W _ hS.o rfl ?_
    clear hy
    have cR := AX x hx
    gi_wp2
    refine ⟨hS.o, ?_⟩
    obtain ⟨W1, hW1⟩ : ∃ W1, W.putObj (w.heap.size + 6 + 1) (.loop (rec .busy none)) = W1 := ⟨_, rfl⟩
    rw [hW1]
    have hlt : w.heap.size + 6 + 1 < W.heap.size := (Array.getElem?_eq_some_iff.1 hS.o).1
    have hs1 : W1.heap.size = W.heap.size := by rw [← hW1]; simp
    have hk1 : ∀ k, k ≠ w.heap.size + 6 + 1 → W1.heap[k]? = W.heap[k]? := fun k hk => by rw [← hW1]; exact World.putObj_heap_other hk
    have ho1 : W1.heap[w.heap.size + 6 + 1]? = some (.loop (rec .busy none)) := by rw [← hW1]; exact World.putObj_heap_same hlt
    have hb1 : Below w.heap.size w W1 := hS.low.trans (by rw [← hW1]; exact ⟨rfl, rfl, rfl, by simp, fun k hk => World.putObj_heap_other (by omega)⟩)
    have hr1 : Hid (eQ W1) := Lib.hid (hR.out.below hb1 (Nat.le_refl _))
    obtain ⟨v0, hv0, hown0⟩ := hS.l
    have hown1 : W1.ownsRow (w.heap.size + 8) 35 1 v0 pre.length (pre.map (Value.int .u64)) := by rw [← hW1]; exact ownsRow_putObj hown0 _ hS.o rfl
    obtain ⟨i0, hi, hz0, hz1, hz2⟩ := info_parts (show (prog.info? 35).map (fun i => (i.zero, i.size, i.bytes)) = some (some (.int .u64 0), 1, 8) by kernel_rfl)
    gi_wp2_with first
      | (refine ⟨trivial, ?_⟩; gi_at_call 26; refine (callsIn_wide.2 (cR _ hr1)).mono ?_; rintro e W2 ⟨rfl, hb2⟩
         have hkb : ∀ k, k < w.heap.size + 6 + 1 → W2.heap[k]? = W.heap[k]? := (fun k hk => (hb2.block k (by omega)).trans (hk1 k (by omega)))
         have hbr : Boxed W2 w.heap.size 22 (.slice none 0 0) := (hkb _ (by omega)).trans hS.r
         have hbe : Boxed W2 (w.heap.size + 1) 24 (.int .i64 0) := (hkb _ (by omega)).trans hS.e
         have hbl : Boxed W2 (w.heap.size + 1 + 1) 22 v0 := (hkb _ (by omega)).trans hv0
         have hbe2 : Boxed (W2.setCell ⟨w.heap.size, 0, none⟩ (.slice none 0 0)) (w.heap.size + 1) 24 (.int .i64 0) := (Below.heap_setCell _ _ _ _ (by first | (simp; done) | (simp; omega))).trans hbe
         have hcl := hbl.cell
         have hcr := hbr.cell
         have hfr := hbr.frozen
         have hce := hbe2.cell
         have hfe := hbe2.frozen
         have hown2 : W2.ownsRow (w.heap.size + 8) 35 1 v0 pre.length (pre.map (Value.int .u64)) := mY hown1 fun k _ hk => hb2.block k hk
         have ho2 := (hb2.block _ (by omega)).trans ho1)
      | (gi_at_builtin; refine wpListIn_append_own _ rfl _ _ 22 rfl (w.heap.size + 8) 35 i0 (.int .u64 0) 1 8 (by kernel_rfl) hi hz0 hz1 hz2 rfl (by decide) _ _ _ rfl (hown2.alloc _) ⟨W2.heap.size, 0, none⟩ 1 1 [.int .u64 (fE x)] rfl rfl (cell_one_new _ _ _) (by simp [Value.oneCell']) (by unfold maxLen; omega) (by omega) (by have := hb2.size; simp; omega) ?_
         intro v' w3 hown3 hgrow _
         obtain ⟨g', cap', rfl⟩ := ownsRow_succ hown3
         have hsz2 := hb2.size
         have hb3 : Below (w.heap.size + 8) W2 w3 := ((Below.refl _ W2).alloc (by omega) _).grown (show (W2.alloc (.cells #[.int .u64 (fE x)] 35)).grownBy w3 v0.ownBlock from hgrow) (by simp; omega) (fun j ej => by
           rcases hown2.2 with ⟨rfl, _⟩ | ⟨g, cap, cur, rfl, hb, _, _⟩
           · simp [Value.ownBlock] at ej
           · obtain rfl : g = j := by simpa [Value.ownBlock] using ej
             exact hb)
         have hbl3 : Boxed w3 (w.heap.size + 1 + 1) 22 v0 := (hb3.block _ (by omega)).trans hbl
         have hcl3 := hbl3.cell
         have hfl3 := hbl3.frozen)
    · have ho : cH x = false := by
        cases q : cH x with
        | false => rfl
        | true =>
          have h1 : (po x != 0) = true := by assumption
          rw [po, q] at h1
          exact absurd h1 (by decide)
      have hlow : Below w.heap.size w W2 := hb1.trans (hb2.mono (by omega))
      have hlt2 : w.heap.size + 6 + 1 < W2.heap.size := by have := hb2.size; omega
      have hd2 : W2.heap[w.heap.size + 6]? = some (.deferred (some [])) := (hkb _ (by omega)).trans hS.d
      refine ⟨?_, fun k h1 h2 => ?_, ho, ?_⟩
      · rw [Below.heap_setCell _ _ _ _ (by first | (simp; done) | (simp; omega)), Below.heap_setCell _ _ _ _ (by first | (simp; done) | (simp; omega))]; exact ho2
      · rw [World.putObj_heap_other (by omega), Below.heap_setCell _ _ _ _ (by first | (simp; done) | (simp; omega)), Below.heap_setCell _ _ _ _ (by first | (simp; done) | (simp; omega))]; exact hkb k (by omega)
      · refine ⟨?_, ?_, ?_, ?_, ?_⟩
        · unfold Boxed
          rw [World.putObj_heap_other (by omega), Below.heap_setCell _ _ _ _ (by first | (simp; done) | (simp; omega))]
          exact hbr.set _
        · unfold Boxed
          rw [World.putObj_heap_other (by omega)]
          exact hbe2.set _
        · rw [World.putObj_heap_other (by omega), Below.heap_setCell _ _ _ _ (by first | (simp; done) | (simp; omega)), Below.heap_setCell _ _ _ _ (by first | (simp; done) | (simp; omega))]; exact hd2
        · exact World.putObj_heap_same (by simpa using hlt2)
        · exact gS ((hlow.setCell (p := ⟨w.heap.size, 0, none⟩) (by simp) _).setCell (p := ⟨w.heap.size + 1, 0, none⟩) (by simp) _) (by omega) _
    · have ho : cH x = true := by
        cases q : cH x with
        | true => rfl
        | false =>
          have h1 : (po x != 0) = false := by assumption
          rw [po, q] at h1
          exact absurd h1 (by decide)
      have hlow : Below w.heap.size w w3 := (hb1.trans (hb2.mono (by omega))).trans (hb3.mono (by omega))
      have hlt3 : w.heap.size + 6 + 1 < w3.heap.size := by have := hb2.size; have := hb3.size; omega
      have hk3 : ∀ k, k < w.heap.size + 6 + 1 → w3.heap[k]? = W.heap[k]? := fun k hk => (hb3.block k (by omega)).trans (hkb k hk)
      refine ⟨?_, fun k h1 h2 => ?_, ho, ?_⟩
      · rw [Below.heap_setCell _ _ _ _ (by first | (simp; done) | (simp; omega)), hb3.block _ (by omega)]; exact ho2
      · rw [World.putObj_heap_other (by omega), Below.heap_setCell _ _ _ _ (by first | (simp; done) | (simp; omega))]; exact hk3 k (by omega)
      · refine ⟨?_, ?_, ⟨.slice (some ⟨g', 0, none⟩) (pre.length + 1) cap', ?_, ?_⟩, ?_, ?_, ?_⟩
        · unfold Boxed
          rw [World.putObj_heap_other (by omega), Below.heap_setCell _ _ _ _ (by first | (simp; done) | (simp; omega))]
          exact (hk3 _ (by omega)).trans hS.r
        · unfold Boxed
          rw [World.putObj_heap_other (by omega), Below.heap_setCell _ _ _ _ (by first | (simp; done) | (simp; omega))]
          exact (hk3 _ (by omega)).trans hS.e
        · unfold Boxed
          rw [World.putObj_heap_other (by omega)]
          exact hbl3.set _
        · have h9 := ownsRow_setCell_below hown3 (a := ⟨w.heap.size + 1 + 1, 0, none⟩) (by first | (simp; done) | (simp; omega)) (.slice (some ⟨g', 0, none⟩) (pre.length + 1) cap')
          refine mY ?_ fun k hk _ => World.putObj_heap_other (by omega)
          simpa using h9
        · rw [World.putObj_heap_other (by omega), Below.heap_setCell _ _ _ _ (by first | (simp; done) | (simp; omega))]; exact (hk3 _ (by omega)).trans hS.d
        · exact World.putObj_heap_same (by simpa using hlt3)
        · exact gS (hlow.setCell (p := ⟨w.heap.size + 1 + 1, 0, none⟩) (by show w.heap.size ≤ w.heap.size + 1 + 1; omega) _) (by omega) _
  obtain ⟨W0, hW0⟩ : ∃ W0, (w0.alloc (.deferred (some []))).alloc (.loop (rec .ready none)) = W0 := ⟨_, rfl⟩
  have it : CallsIn Fence.wide 5 prog 63 #[.func (.yield (w.heap.size + 6 + 1)) #[] #[], .pointer (some ⟨w.heap.size + 1 + 1 + 1 + 1, 0, none⟩), .pointer (some ⟨w.heap.size + 1 + 1 + 1, 0, none⟩), .pointer (some ⟨w.heap.size + 1 + 1 + 1 + 2, 0, none⟩)] W0
      (fun e W' => (∃ v, e = .returned v) ∧ ((∃ xs, nE s = some xs ∧ Mb w rec xs W') ∨ (nE s = none ∧ NX w rec W'))) := by
    refine callsIn_of_wp Tryd.func63 rfl trivial ?_ rfl
    simp only [Tryd.ntmps63, List.size_toArray, List.length_cons, List.length_nil, Nat.reduceAdd, Nat.reduceSub, Array.replicate_succ, Array.replicate_zero, List.push_toArray, List.append_toArray, List.nil_append, List.cons_append]
    have hat : ∀ k, k < 8 → W0.heap[w.heap.size + k]? = #[Obj.cells #[.slice none 0 0] 22, .cells #[.int .i64 0] 24, .cells #[.slice none 0 0] 22, .cells #[.string s] 9, .cells #[.string ⟨#[32]⟩] 9, .cells #[.int .i64 0] 3, .deferred (some []), .loop (rec .ready none)][k]? := fun k hk => by
      rw [← hW0, ← hw0]
      exact Ni w.heap _ _ _ _ _ _ _ _ k
    have hlow0 : Below w.heap.size w W0 := by
      rw [← hW0, ← hw0]
      refine Below.alloc (Below.alloc (Below.alloc (Below.alloc (Below.alloc (Below.alloc (Below.alloc (Below.alloc (Below.refl _ w) ?_ _) ?_ _) ?_ _) ?_ _) ?_ _) ?_ _) ?_ _) ?_ _
      all_goals simp
      all_goals try omega
    have hSt : Mb w rec [] W0 := ⟨hat 0 (by omega), hat 1 (by omega), ⟨_, hat 2 (by omega), World.ownsRow_nil _ _ _ _⟩, hat 6 (by omega), hat 7 (by omega), hlow0⟩
    have hq0 : Boxed W0 (w.heap.size + 3) 9 (.string s) := hat 3 (by omega)
    have hq1 : Boxed W0 (w.heap.size + 4) 9 (.string ⟨#[32]⟩) := hat 4 (by omega)
    have hq2 : Boxed W0 (w.heap.size + 5) 3 (.int .i64 0) := hat 5 (by omega)
    clear hat hlow0 hy
    have hc1 : W0.cell? ⟨w.heap.size + 1 + 1 + 1 + 1, 0, none⟩ = some (.string ⟨#[32]⟩) := hq1.cell
    gi_wp2
    gi_loopw [7] (fun _ W => ∃ (r : ByteArray) (pre : List Int) (f : Nat), Boxed W (w.heap.size + 3) 9 (.string r) ∧ Boxed W (w.heap.size + 4) 9 (.string ⟨#[32]⟩) ∧ Boxed W (w.heap.size + 5) 3 (.int .i64 0) ∧
        xw f r pre = nE s ∧ r.size < f ∧ pre.length + r.size ≤ s.size ∧ Mb w rec pre W) (fun _ W => GZ W (w.heap.size + 3))
    case atStart => exact ⟨s, [], s.size + 1, hq0, hq1, hq2, rfl, by omega, by simp, hSt⟩
    case round =>
      obtain ⟨r, pre, f, hb3, hb4, hb5, hu, hf, hl, hS⟩ := hrel
      have cI := fun w' => callsIn_wide (n := 3).2 (Tryd.strings_Index_one r 32 w')
      have h9 : Lib.indexByte r.data.toList 32 < r.size ∨ Lib.indexByte r.data.toList 32 = -1 := by
        rcases ql r.data.toList 32 with h | h
        · exact .inl (by simpa using h)
        · rw [h]; exact .inr rfl
      have hge := Lib.indexByte_ge r.data.toList 32
      obtain ⟨i, hi⟩ : ∃ i, Lib.indexByte r.data.toList 32 = i := ⟨_, rfl⟩
      have cIx : Calls prog 65 #[.string r, .string ⟨#[32]⟩] wr (fun e w' => e = .returned (.int .i64 i) ∧ w' = wr) := by rw [← hi]; exact Tryd.strings_Index_one r 32 wr
      obtain ⟨f, rfl⟩ : ∃ g, f = g + 1 := ⟨f - 1, by omega⟩
      simp only [xw, hi] at hu
      rw [hi] at h9 hge
      clear cI
      have hc3 := hb3.cell
      have hc4 := hb4.cell
      have hc5 := hb5.cell
      by_cases hneg : i < 0
      · obtain ⟨fn', tmps', assign', body', hy', hR'⟩ := round pre r wr (by omega) (by omega) hS
        gi_wp2_with (refine ⟨trivial, ?_⟩; gi_at_call 65; refine (callsIn_wide.2 cIx).mono ?_; rintro e w' ⟨rfl, rfl⟩)
        refine hR'.mono ?_
        rintro e W3 ⟨_, ⟨ho, rfl, hS3⟩ | ⟨ho, rfl, hS3⟩⟩
        · gi_wp2
          go_end0
          exact ⟨⟨_, rfl⟩, .inl ⟨_, by rw [← hu, if_pos hneg, if_pos ho], hS3⟩⟩
        · gi_wp2
          go_end0
          exact ⟨⟨_, rfl⟩, .inr ⟨by rw [← hu, if_pos hneg, if_neg (by rw [ho]; decide)], hS3⟩⟩
      · obtain ⟨n, rfl⟩ := Int.eq_ofNat_of_zero_le (Int.not_lt.1 hneg)
        obtain ⟨fn', tmps', assign', body', hy', hR'⟩ := round pre (r.extract 0 n) wr (by simp; omega) (by omega) hS
        gi_wp2_with (refine ⟨trivial, ?_⟩; gi_at_call 65; refine (callsIn_wide.2 cIx).mono ?_; rintro e w' ⟨rfl, rfl⟩)
        rw [if_neg (show ¬ ((n : Int) < 0) by omega), Int.toNat_natCast] at hu
        refine hR'.mono ?_
        rintro e W3 ⟨hk, ⟨ho, rfl, hS3⟩ | ⟨ho, rfl, hS3⟩⟩
        · rw [if_pos ho] at hu
          have hb3' : Boxed W3 (w.heap.size + 3) 9 (.string r) := (hk _ (by omega) (by omega)).trans hb3
          have hb4' : Boxed W3 (w.heap.size + 4) 9 (.string ⟨#[32]⟩) := (hk _ (by omega) (by omega)).trans hb4
          have hb5' : Boxed W3 (w.heap.size + 5) 3 (.int .i64 0) := (hk _ (by omega) (by omega)).trans hb5
          have hc3' := hb3'.cell
          have hc4' := hb4'.cell
          have hf3' := hb3'.frozen
          gi_wp2
          have hb6 := hb3'.set (.string (r.extract (n + 1) r.size))
          go_roundw
          case rel =>
            refine ⟨r.extract (n + 1) r.size, pre ++ [fE (r.extract 0 n)], f, hb6, ?_, ?_, hu, ?_, ?_, hS3.set _ (by omega) (by omega) _⟩
            · exact (Below.heap_setCell _ _ _ _ (show w.heap.size + 4 ≠ w.heap.size + 1 + 1 + 1 by omega)).trans hb4'
            · exact (Below.heap_setCell _ _ _ _ (show w.heap.size + 5 ≠ w.heap.size + 1 + 1 + 1 by omega)).trans hb5'
            · simp; omega
            · simp; omega
          case measure =>
            rw [Dj hb6, Dj hb3]
            simp
            omega
        · rw [if_neg (by rw [ho]; decide)] at hu
          gi_wp2
          refine bodyPost_ret (results_none rfl _ _ _) rfl ?_
          exact ⟨⟨_, rfl⟩, .inr ⟨hu.symm, hS3⟩⟩
  clear round hy
  rw [hW0]
  refine it.mono ?_
  rintro e W' ⟨hv, ⟨xs, hxs, hS⟩ | ⟨hxs, hS⟩⟩
  · refine ⟨hv, .inl ⟨hS.o, ?_⟩⟩
    have hlt : w.heap.size + 6 + 1 < W'.heap.size := (Array.getElem?_eq_some_iff.1 hS.o).1
    obtain ⟨W2, hW2⟩ : ∃ W2, W'.putObj (w.heap.size + 6 + 1) (.loop (rec .exhausted none)) = W2 := ⟨_, rfl⟩
    rw [hW2]
    have hk : ∀ k, k ≠ w.heap.size + 6 + 1 → W2.heap[k]? = W'.heap[k]? := fun k hk => by rw [← hW2]; exact World.putObj_heap_other hk
    obtain ⟨v, hv, ho⟩ := hS.l
    have br : Boxed W2 w.heap.size 22 (.slice none 0 0) := (hk _ (by omega)).trans hS.r
    have be : Boxed W2 (w.heap.size + 1) 24 (.int .i64 0) := (hk _ (by omega)).trans hS.e
    have bl : Boxed W2 (w.heap.size + 1 + 1) 22 v := (hk _ (by omega)).trans hv
    have hcl := bl.cell
    have hcr := br.cell
    have hfr := br.frozen
    obtain ⟨p, n, cap, rfl⟩ : ∃ p n cap, v = .slice p n cap := by
      rcases ho.2 with ⟨rfl, _⟩ | ⟨g, cap, cur, rfl, _⟩
      · exact ⟨_, _, _, rfl⟩
      · exact ⟨_, _, _, rfl⟩
    have be2 : Boxed (W2.setCell ⟨w.heap.size, 0, none⟩ (.slice p n cap)) (w.heap.size + 1) 24 (.int .i64 0) := (Below.heap_setCell _ _ _ _ (by first | (simp; done) | (simp; omega))).trans be
    have hce := be2.cell
    have hfe := be2.frozen
    gi_wp2
    obtain ⟨W3, hW3⟩ : ∃ W3, (W2.setCell ⟨w.heap.size, 0, none⟩ (.slice p n cap)).setCell ⟨w.heap.size + 1, 0, none⟩ (.int .i64 0) = W3 := ⟨_, rfl⟩
    rw [hW3]
    have be3 : Boxed W3 (w.heap.size + 1) 24 (.int .i64 0) := by rw [← hW3]; exact be2.set _
    have br3 : Boxed W3 w.heap.size 22 (.slice p n cap) := by
      rw [← hW3]
      exact (Below.heap_setCell _ _ _ _ (by first | (simp; done) | (simp; omega))).trans (br.set _)
    have hk3 : ∀ k, w.heap.size + 2 ≤ k → k ≠ w.heap.size + 6 + 1 → W3.heap[k]? = W'.heap[k]? := fun k h1 h2 => by
      rw [← hW3, Below.heap_setCell _ _ _ _ (by show k ≠ w.heap.size + 1; omega), Below.heap_setCell _ _ _ _ (by show k ≠ w.heap.size; omega)]; exact hk k h2
    have hd : W3.heap[w.heap.size + 6]? = some (.deferred (some [])) := (hk3 _ (by omega) (by omega)).trans hS.d
    have hlow : Below w.heap.size w W3 := by
      rw [← hW3, ← hW2]
      exact ((gS hS.low (by omega) _).setCell (p := ⟨w.heap.size, 0, none⟩) (by simp) _).setCell (p := ⟨w.heap.size + 1, 0, none⟩) (by simp) _
    have hown : (W3.putObj (w.heap.size + 6) (.deferred none)).ownsRow (w.heap.size + 8) 35 1 (.slice p n cap) xs.length (xs.map (Value.int .u64)) :=
      mY ho fun k h1 _ => (World.putObj_heap_other (by omega)).trans (hk3 k (by omega) (by omega))
    refine ⟨by simp, .inl ⟨_, _, rfl, run_takeDeferred hd, ?_⟩⟩
    exact ⟨_, tL (a := ⟨w.heap.size, 0, none⟩) (b := ⟨w.heap.size + 1, 0, none⟩) rfl rfl rfl (by kernel_rfl) (by kernel_rfl) (Boxed.cell ((World.putObj_heap_other (by omega)).trans br3)) (Boxed.cell ((World.putObj_heap_other (by omega)).trans be3)), gS hlow (by omega) _, .inl ⟨xs, _, hxs, rfl, hown⟩⟩
  · refine ⟨hv, .inr ⟨_, hS.o, ?_⟩⟩
    have hlt : w.heap.size + 6 + 1 < W'.heap.size := (Array.getElem?_eq_some_iff.1 hS.o).1
    obtain ⟨W2, hW2⟩ : ∃ W2, W'.putObj (w.heap.size + 6 + 1) (.loop (rec .exhausted (some .ret))) = W2 := ⟨_, rfl⟩
    rw [hW2]
    have hk : ∀ k, k ≠ w.heap.size + 6 + 1 → W2.heap[k]? = W'.heap[k]? := fun k hk => by rw [← hW2]; exact World.putObj_heap_other hk
    have br : Boxed W2 w.heap.size 22 (.slice none 0 0) := (hk _ (by omega)).trans hS.r
    have be : Boxed W2 (w.heap.size + 1) 24 (.int .i64 4) := (hk _ (by omega)).trans hS.e
    have hcr := br.cell
    have hce := be.cell
    have hd : W2.heap[w.heap.size + 6]? = some (.deferred (some [])) := (hk _ (by omega)).trans hS.d
    have hlow : Below w.heap.size w W2 := by rw [← hW2]; exact gS hS.low (by omega) _
    gi_wp2
    refine ⟨by simp, .inl ⟨_, _, rfl, run_takeDeferred hd, ?_⟩⟩
    exact ⟨_, tL (a := ⟨w.heap.size, 0, none⟩) (b := ⟨w.heap.size + 1, 0, none⟩) rfl rfl rfl (by kernel_rfl) (by kernel_rfl) (Boxed.cell ((World.putObj_heap_other (by omega)).trans br)) (Boxed.cell ((World.putObj_heap_other (by omega)).trans be)), gS hlow (by omega) _, .inr ⟨hxs, rfl⟩⟩
def cQ(s:ByteArray) :Bool:=(nE s).isSome
def bo(s:ByteArray) :List Int:=(nE s).getD []
theorem G1{ρ:ae}{W:World}{base:Nat}{t:TypeId}{k:IntKind}{v:Value}{xs:List Int}(h:W.ownsRow base t 1 v xs.length (xs.map (Value.int k)))(ha:∀ bl,base≤bl→ρ.avoid .free bl) :
    VR ρ W (.imm .free (.ns k xs) 1 1 0 xs.length) v:=by
  rcases h.2 with ⟨rfl,h0⟩ | ⟨g,cap,cur,rfl,hg,hc,hn,_,hs,ht⟩
  · rw [h0];exact .immEnd _ _ _ _ _ _ _ trivial (fun _=>rfl) rfl
  · refine .imm .free (.ns k xs) 1 1 0 xs.length cap g 0 (fun x=>.int k (xs.getD x 0)) (ha g hg) (Array.getElem?_eq_some_iff.1 hc).1 (fun x v hx=>?_) (fun x v hx=>?_) hn trivial (fun _=>rfl) rfl
    · simp only [aj.cell?] at hx
      cases hq:xs[x]? with
      | none=>rw [hq] at hx;cases hx
      | some z =>
        have hlt:=(List.getElem?_eq_some_iff.1 hq).1
        have h1:(cur.toList.take (xs.length*1))[x]? = some (.int k z):=by rw [ht,List.getElem?_map,hq];rfl
        rw [List.getElem?_take,if_pos (by omega)] at h1
        simp only [World.cell?,hc,Nat.zero_add]
        rw [List.getD_eq_getElem?_getD,hq]
        simpa using h1
    · simp only [aj.cell?] at hx
      cases hq:xs[x]? with
      | none=>rw [hq] at hx;cases hx
      | some z =>
        rw [hq] at hx
        cases hx
        rw [List.getD_eq_getElem?_getD,hq]
        exact .int _ _
theorem H7(s:ByteArray)(hs:s.size≤1000000000) :(∀ h:cQ s=true,am prog dZ [] [.str s] ⟨.tup [.imm .free (.ns .u64 (bo s)) 1 1 0 (bo s).length,.int .i64 0],[]⟩) ∧
    (∀ h:(!cQ s)=true,am prog dZ [] [.str s] ⟨.tup [.nsl,.int .i64 4],[]⟩):=by
  refine ⟨fun ho=>?_,fun ho=>?_⟩
  · refine ch ⟨FN dZ,by kernel_rfl,by kernel_rfl⟩ fun ρ w us hN hv=>?_
    cases hv with | cons _ u _ _ h1 h2 =>
    cases h2;cases h1
    refine (yK s hs w (Lib.hid hN.romOk)).mono ?_
    rintro e w' ⟨hb,⟨xs,v,hx,rfl,hown⟩ | ⟨hx,rfl⟩⟩
    · have e1:bo s=xs:=by unfold bo;rw [hx];rfl
      rw [e1]
      exact ⟨_,rfl,hb,.tup _ _ (.cons _ _ _ _ (G1 hown fun bl hbl=>cP.new hN bl (by omega)) (.cons _ _ _ _ (.int _ _) .nil))⟩
    · unfold cQ at ho;rw [hx] at ho;cases ho
  · refine ch ⟨FN dZ,by kernel_rfl,by kernel_rfl⟩ fun ρ w us hN hv=>?_
    cases hv with | cons _ u _ _ h1 h2 =>
    cases h2;cases h1
    refine (yK s hs w (Lib.hid hN.romOk)).mono ?_
    rintro e w' ⟨hb,⟨xs,v,hx,rfl,hown⟩ | ⟨hx,rfl⟩⟩
    · unfold cQ at ho;rw [hx] at ho;cases ho
    · exact ⟨_,rfl,hb,.tup _ _ (.cons _ _ _ _ .nsl (.cons _ _ _ _ (.int _ _) .nil))⟩
noncomputable def H8:aU:=dG dZ (.cons .str .nil) fun t =>
  [⟨⟨.tup [.imm .free (.ns .u64 (bo t.1)) 1 1 0 (bo t.1).length,.int .i64 0],[]⟩,[cQ t.1,em t.1.size]⟩,⟨⟨.tup [.nsl,.int .i64 4],[]⟩,[!cQ t.1,em t.1.size]⟩]
theorem G2:bc prog H8:=bf fun t a ha ho=>by
  simp only [List.mem_cons,List.not_mem_nil,or_false] at ha
  rcases ha with rfl | rfl
  · exact (H7 t.1 (Nat.le_of_ble_eq_true ho.2.1)).1 ho.1
  · exact (H7 t.1 (Nat.le_of_ble_eq_true ho.2.1)).2 ho.1
end Go.Plb.Seat
namespace Go.Plb.Seat
open Go Go.Plb
noncomputable def KE:aU:=dG lT (.cons (.int .u64) .nil) fun t=>[⟨⟨.str (ba t.1),[]⟩,[]⟩]
theorem IY:bc prog KE:=bf fun t a ha ho=>by
  simp only [List.mem_singleton] at ha
  subst ha
  exact Kw t.1
noncomputable def MA:List aU:=[Ec,xt,Ky,KB,FI,KD,H8,KE]
theorem vZ:bh prog (bA MA):=aB GR (aB Ee (aB IV (aB IW (aB FJ (aB IX (aB G2 (aB IY (uA prog))))))))
end Go.Plb.Seat
namespace Go.Plb.Seat
open Go Go.Plb
set_option linter.unusedVariables false
set_option maxRecDepth 100000
noncomputable section
inductive ck where
  | r0 (s9:ByteArray)
def mZ:ck→AE×aH
  | .r0 s9=>(.ret,⟨ax 20 [(2,.str s9)],[],0⟩)
theorem oQ:sC mZ:=by intro x;cases x<;>(intro h;cases h)
theorem Cp(id:Nat) :rx id mZ:=by intro x;cases x<;>(intro h;cases h)
def qm:ck→nu
  | .r0 s9=>⟨.str s9,[]⟩
noncomputable def Cq:List Code:=dk (uD qb)
def Cr(v_0:Lv)(words_1:List Int)(_:Unit) :aH:=⟨ax 20 [(3,.nsl),(6,.imm v_0 (.ns .u64 words_1) 1 1 0 (List.length words_1)),(7,.int .i64 (((List.length words_1):Nat):Int)),(8,.int .i64 (0:Int))],[],0⟩
def Cs:T ((Unit)⊕(ck)) :=
  .leaf (.inl ())
def lG(v_0:Lv)(words_1:List Int) :Nat×Nat×Nat×(List ByteArray)→aH:=fun (l2,l3,a4,l5)=>⟨ax 20 [(3,.sl 0 1 1 0 l2 l3),(6,.imm v_0 (.ns .u64 words_1) 1 1 0 (List.length words_1)),(7,.int .i64 (((List.length words_1):Nat):Int)),(8,.int .i64 ((a4:Nat):Int))],[(0,.ss l5)],1⟩
def tM:Nat×Nat×(List ByteArray)→aH:=fun (l6,l7,l8)=>⟨ax 20 [(3,.sl 0 1 1 0 l6 l7)],[(0,.ss l8)],1⟩
noncomputable def Ct:List Code:=dk (mw ((((Cq.drop 3).take 1)).headD .skip))
def A1(words_1:List Int)(l2:Nat)(l3:Nat)(a4:Nat)(l5:List ByteArray) :T ((Nat×Nat×Nat×(List ByteArray))⊕((Nat×Nat×(List ByteArray))⊕(ck))) :=
  .ask (decide (((a4:Nat):Int)<(((List.length words_1):Nat):Int)))
    (.need (qW ((a4:Nat):Int) (List.length words_1))<|.need (dn a4 (List.length words_1))<|.need (nY ((l2+1)*16) 140737488355328)<|.need (nY (l2+1) 9223372036854775807)<|.need (nY 1 (List.length [(ba (List.getD words_1 a4 0))]))<|.need (nY l2 (List.length l5))<|.need (kK .i64 (((a4+1):Nat):Int))<|.leaf (.inl ((l2+1),(l2+1),(a4+1),((List.take l2 l5)++(List.take 1 [(ba (List.getD words_1 a4 0))])))))
    (.leaf (.inr (.inl (l2,l3,l5))))
noncomputable def nF(words_1:List Int) :Nat×Nat×Nat×(List ByteArray)→Option ((Nat×Nat×Nat×(List ByteArray))⊕((Nat×Nat×(List ByteArray))⊕(ck))):=fun (l2,l3,a4,l5) =>
  (A1 words_1 l2 l3 a4 l5).run
theorem A2(v_0:Lv)(words_1:List Int)(l2:Nat)(l3:Nat)(a4:Nat)(l5:List ByteArray) :Sg prog [] Ct (lG v_0 words_1 (l2,l3,a4,l5)) (nF words_1 (l2,l3,a4,l5)) (lG v_0 words_1) (fC 0 tM mZ):=by
  unfold nF;exact dt vZ (lG v_0 words_1) [⟨[],[129],[3,6,7,8]⟩,⟨[],[0],[3]⟩]
def nG(l6:Nat)(l8:List ByteArray) :T ((Empty)⊕(ck)) :=
  .need (mr 0 l6 l8)<|.need (Mz (ByteArray.mk #[32]))<|.need (em (ox (aC 0 l6 l8)).size)<|.need (em (List.length (aC 0 l6 l8)))<|.leaf (.inr (.r0 (ox (aC 0 l6 l8))))
noncomputable def qn(words_1:List Int) :Option ck:=yF (bj ((Cs).run) fun _ =>
  bj (dH (nF words_1) (0,0,0,([]:List ByteArray))) fun (l6,l7,l8) =>
  (nG l6 l8).run)
theorem tN(v_0:Lv)(words_1:List Int){x:ck}(h:qn words_1=some x) :am prog qb [] [.imm v_0 (.ns .u64 words_1) 1 1 0 (List.length words_1)] (qm x) :=
  B3 false qm mZ h (Sg.cut 3 oQ (dt vZ (Cr v_0 words_1) [⟨[],[],[3,6,7,8]⟩]) (fun _=>Sg.cut 1 oQ (Ma ⟨[(.slot 3,.own 1 1 (.ss ([]:List ByteArray)))],[0],[3,6,7,8]⟩ (lG v_0 words_1) (tM) 0 oQ (Cp _) (fun ⟨l2,l3,a4,l5⟩=>A2 v_0 words_1 l2 l3 a4 l5)) (fun ⟨l6,l7,l8⟩=>dt vZ yG [⟨[],[],[2]⟩])))
    (fun x=>by cases x with | r0 s9=>exact sF [.str s9])
def oR:Option ck→Bool
  | some _=>true
  | none=>false
def qB:Option ck→ByteArray
  | some (.r0 x)=>x
  | _=>ByteArray.empty
theorem Cu{x:Option ck}(h:oR x=true) :x=some (.r0 (qB x)):=by
  unfold oR at h
  split at h<;>first | rfl | (cases h;done) | (rename_i y;cases y;rfl)
noncomputable def wa:aU:=dG qb (.cons (.ns .u64) .nil) fun t=>(fun q=>[⟨qm (.r0 (qB q)),[oR q]⟩]) (qn t.1.2)
theorem zd:bc prog wa:=bf fun t=>(bi (fun h=>tN t.1.1 t.1.2 (Cu h)) bZ)
noncomputable def wb:List aU:=wa::MA
theorem qC:bh prog (bA wb):=aB zd vZ
inductive dh where
  | r0 (s1:ByteArray)
def Cv:dh→AE×aH
  | .r0 s1=>(.ret,⟨ax 12 [(4,.str s1)],[],0⟩)
def oS:dh→nu
  | .r0 s1=>⟨.str s1,[]⟩
def A3(m_0:Int)(n_1:Int) :T ((Empty)⊕(dh)) :=
  .need (kK .i64 m_0)<|.need (decide ((ByteArray.mk #[109,97,116,114,105,120,32]).size+(bP m_0).size≤9223372036854775807))<|.need (decide (((ByteArray.mk #[109,97,116,114,105,120,32])++(bP m_0)).size+(ByteArray.mk #[32]).size≤9223372036854775807))<|.need (kK .i64 n_1)<|.need (decide ((((ByteArray.mk #[109,97,116,114,105,120,32])++(bP m_0))++(ByteArray.mk #[32])).size+(bP n_1).size≤9223372036854775807))<|.leaf (.inr (.r0 ((((ByteArray.mk #[109,97,116,114,105,120,32])++(bP m_0))++(ByteArray.mk #[32]))++(bP n_1))))
noncomputable def di(m_0:Int)(n_1:Int) :Option dh:=yF ((A3 m_0 n_1).run)
theorem rA(m_0:Int)(n_1:Int){x:dh}(h:di m_0 n_1=some x) :am prog tI [] [.int .i64 m_0,.int .i64 n_1] (oS x) :=
  B3 false oS Cv h (dt qC yG [⟨[],[],[4]⟩])
    (fun x=>by cases x with | r0 s1=>exact sF [.str s1])
def fF:Option dh→Bool
  | some _=>true
  | none=>false
def gT:Option dh→ByteArray
  | some (.r0 x)=>x
  | _=>ByteArray.empty
theorem A4{x:Option dh}(h:fF x=true) :x=some (.r0 (gT x)):=by
  unfold fF at h
  split at h<;>first | rfl | (cases h;done) | (rename_i y;cases y;rfl)
noncomputable def tO:aU:=dG tI (.cons (.int .i64) (.cons (.int .i64) .nil)) fun t=>(fun q=>[⟨oS (.r0 (gT q)),[fF q]⟩]) (di t.1 t.2.1)
theorem xx:bc prog tO:=bf fun t=>(bi (fun h=>rA t.1 t.2.1 (A4 h)) bZ)
noncomputable def tP:List aU:=tO::wb
theorem gU:bh prog (bA tP):=aB xx qC
inductive bH where
  | r0 (b7:Bool)
def rB:bH→AE×aH
  | .r0 b7=>(.ret,⟨ax 37 [(2,.bool false b7)],[],0⟩)
theorem qD:sC rB:=by intro x;cases x<;>(intro h;cases h)
def nH:bH→nu
  | .r0 b7=>⟨.bool false b7,[]⟩
def ze(a_0:Int)(a_1:Int)(a_2:Int)(v_3:Lv)(a_4:List Int)(a_5:Int)(a_6:Int) :Bool×ByteArray×Nat×Bool×Bool→aH:=fun (is1,s2,a3,b4,b5)=>⟨ax 37 [(1,.ptr 0 1 0 0),(3,.ptr 1 1 0 0),(4,.bool false is1)],[(0,.vs [.int .i64 a_0,.int .i64 a_1,.int .i64 a_2,.imm v_3 (.ns .u64 a_4) 1 1 0 (List.length a_4),.int .i64 a_5,.int .u64 a_6]),(1,.vs [.str s2,.int .i64 ((a3:Nat):Int),.bool false b4,.bool false b5])],2⟩
def zf(a_0 : Int) : T ((Bool × ByteArray × Nat × Bool × Bool) ⊕ (bH)) :=
  .alt 0
    (.need (a_0==(1:Int))<|.leaf (.inl (true,(ByteArray.mk #[101,105,103,101,110]),3,false,true)))
    (.alt 1
      (.need (a_0==(2:Int))<|.leaf (.inl (true,(ByteArray.mk #[118,97,108,117,101,115]),0,false,true)))
      (.alt 2
        (.need (a_0==(3:Int))<|.leaf (.inl (true,(ByteArray.mk #[115,118,100]),2,false,false)))
        (.alt 3
          (.need (a_0==(4:Int))<|.leaf (.inl (true,(ByteArray.mk #[114,97,110,107]),2,true,false)))
          (.alt 4
            (.need (a_0==(5:Int))<|.leaf (.inl (true,(ByteArray.mk #[105,110,118,101,114,115,101]),2,true,false)))
            (.alt 5
              (.need (a_0==(6:Int))<|.leaf (.inl (true,(ByteArray.mk #[99,111,110,100]),2,false,false)))
              (.alt 6
                (.need (!(a_0==(1:Int)))<|.need (!(a_0==(2:Int)))<|.need (!(a_0==(3:Int)))<|.need (!(a_0==(4:Int)))<|.need (!(a_0==(5:Int)))<|.need (!(a_0==(6:Int)))<|.leaf (.inl (false,ByteArray.empty,0,false,false)))
                (.fail)))))))
def zg(b6:Bool) :aH:=⟨ax 37 [(2,.bool false b6)],[],0⟩
def qE(a_5:Int)(a_6:Int)(is1:Bool)(a3:Nat)(b4:Bool) :T ((Bool)⊕(bH)) :=
  .ask is1
    (.ask (decide (a_5≥(oF (1:Int) ((a3:Nat):Int))))
      (.ask (decide (a_5≤((a3:Nat):Int)))
        (.ask b4
          (.leaf (.inl true))
          (.leaf (.inl (a_6==(0:Int)))))
        (.leaf (.inl false)))
      (.leaf (.inl false)))
    (.leaf (.inl false))
def zh(b6:Bool) :T ((Empty)⊕(bH)) :=
  .leaf (.inr (.r0 b6))
noncomputable def du(a_0:Int)(a_5:Int)(a_6:Int) :Option bH:=yF (bj ((zf a_0).run) fun (is1,s2,a3,b4,b5) =>
  bj ((qE a_5 a_6 is1 a3 b4).run) fun b6 =>
  (zh b6).run)
theorem zi(a_0:Int)(a_1:Int)(a_2:Int)(v_3:Lv)(a_4:List Int)(a_5:Int)(a_6:Int){x:bH}(h:du a_0 a_5 a_6=some x) :am prog rt [] [.agg [.int .i64 a_0,.int .i64 a_1,.int .i64 a_2,.imm v_3 (.ns .u64 a_4) 1 1 0 (List.length a_4),.int .i64 a_5,.int .u64 a_6]] (nH x) :=
  B3 false nH rB h (Sg.cut 2 qD (dt gU (ze a_0 a_1 a_2 v_3 a_4 a_5 a_6) [⟨[],[0,144],[1,3,4]⟩,⟨[],[0,144],[1,3,4]⟩,⟨[],[0,144],[1,3,4]⟩,⟨[],[0,144],[1,3,4]⟩,⟨[],[0,144],[1,3,4]⟩,⟨[],[0,144],[1,3,4]⟩,⟨[],[0,144],[1,3,4]⟩]) (fun ⟨is1,s2,a3,b4,b5⟩=>Sg.cut 1 qD (dt gU zg [⟨[],[],[2]⟩,⟨[],[],[2]⟩,⟨[],[],[2]⟩,⟨[],[],[2]⟩,⟨[],[],[2]⟩]) (fun b6=>dt gU yG [⟨[],[],[2]⟩])))
    (fun x=>by cases x with | r0 b7=>exact sF [.bool false b7])
def eS:Option bH→Bool
  | some _=>true
  | none=>false
def fj:Option bH→Bool
  | some (.r0 x)=>x
  | _=>false
theorem zj{x:Option bH}(h:eS x=true) :x=some (.r0 (fj x)):=by
  unfold eS at h
  split at h<;>first | rfl | (cases h;done) | (rename_i y;cases y;rfl)
noncomputable def rC:aU:=dG rt (.cons (.agg (.cons (.int .i64) (.cons (.int .i64) (.cons (.int .i64) (.cons (.ns .u64) (.cons (.int .i64) (.cons (.int .u64) .nil))))))) .nil) fun t=>(fun q=>[⟨nH (.r0 (fj q)),[eS q]⟩]) (du t.1.1 t.1.2.2.2.2.1 t.1.2.2.2.2.2.1)
theorem wc:bc prog rC:=bf fun t=>(bi (fun h=>zi t.1.1 t.1.2.1 t.1.2.2.1 t.1.2.2.2.1.1 t.1.2.2.2.1.2 t.1.2.2.2.2.1 t.1.2.2.2.2.2.1 (zj h)) bZ)
noncomputable def rD:List aU:=rC::tP
theorem kw:bh prog (bA rD):=aB wc gU
inductive cC where
  | r0 (b2:Bool)
def we:cC→AE×aH
  | .r0 b2=>(.ret,⟨ax 41 [(2,.bool false b2)],[],0⟩)
theorem Cw:sC we:=by intro x;cases x<;>(intro h;cases h)
def qo:cC→nu
  | .r0 b2=>⟨.bool false b2,[]⟩
def Cx(b1:Bool) :aH:=⟨ax 41 [(2,.bool false b1)],[],0⟩
def Cy(a_0 : Int)(a_1 : Int)(a_2 : Int)(a_4 : List Int)(a_5 : Int)(a_6 : Int) : T ((Bool) ⊕ (cC)) :=
  .ask (decide (a_1 ≥ (0 : Int)))
    (.ask (decide (a_1 ≤ (512 : Int)))
      (.ask (decide (a_2 ≥ (0 : Int)))
        (.ask (decide (a_2≤(512:Int)))
          (.need (kK .i64 (a_1*a_2))<|.ask ((((List.length a_4):Nat):Int)==(a_1*a_2))
            (.need (mr 0 (List.length a_4) a_4)<|.need (eS (du a_0 a_5 a_6))<|.ask (fj (du a_0 a_5 a_6))
              (.ask (a_1 == a_2)
                (.leaf (.inl true))
                (.alt 0
                  (.need (a_0==(1:Int))<|.leaf (.inl false))
                  (.alt 1
                    (.need (a_0==(2:Int))<|.leaf (.inl false))
                    (.alt 2
                      (.need (a_0==(3:Int))<|.leaf (.inl true))
                      (.alt 3
                        (.need (a_0==(4:Int))<|.leaf (.inl true))
                        (.alt 4
                          (.need (a_0==(5:Int))<|.leaf (.inl true))
                          (.alt 5
                            (.need (a_0==(6:Int))<|.leaf (.inl true))
                            (.alt 6
                              (.need (!(a_0==(1:Int)))<|.need (!(a_0==(2:Int)))<|.need (!(a_0==(3:Int)))<|.need (!(a_0==(4:Int)))<|.need (!(a_0==(5:Int)))<|.need (!(a_0==(6:Int)))<|.leaf (.inl true))
                              (.fail)))))))))
              (.leaf (.inl false)))
            (.leaf (.inl false)))
          (.leaf (.inl false)))
        (.leaf (.inl false)))
      (.leaf (.inl false)))
    (.leaf (.inl false))
def Cz(b1:Bool) :T ((Empty)⊕(cC)) :=
  .leaf (.inr (.r0 b1))
noncomputable def kx(a_0:Int)(a_1:Int)(a_2:Int)(a_4:List Int)(a_5:Int)(a_6:Int) :Option cC:=yF (bj ((Cy a_0 a_1 a_2 a_4 a_5 a_6).run) fun b1 =>
  (Cz b1).run)
theorem tQ(a_0:Int)(a_1:Int)(a_2:Int)(v_3:Lv)(a_4:List Int)(a_5:Int)(a_6:Int){x:cC}(h:kx a_0 a_1 a_2 a_4 a_5 a_6=some x) :am prog vT [] [.agg [.int .i64 a_0,.int .i64 a_1,.int .i64 a_2,.imm v_3 (.ns .u64 a_4) 1 1 0 (List.length a_4),.int .i64 a_5,.int .u64 a_6]] (qo x) :=
  B3 false qo we h (Sg.cut 2 Cw (dt kw Cx [⟨[],[],[2]⟩,⟨[],[],[2]⟩,⟨[],[],[2]⟩,⟨[],[],[2]⟩,⟨[],[],[2]⟩,⟨[],[],[2]⟩,⟨[],[],[2]⟩,⟨[],[],[2]⟩,⟨[],[],[2]⟩,⟨[],[],[2]⟩,⟨[],[],[2]⟩,⟨[],[],[2]⟩,⟨[],[],[2]⟩,⟨[],[],[2]⟩]) (fun b1=>dt kw yG [⟨[],[],[2]⟩]))
    (fun x=>by cases x with | r0 b2=>exact sF [.bool false b2])
def lH:Option cC→Bool
  | some _=>true
  | none=>false
def my:Option cC→Bool
  | some (.r0 x)=>x
  | _=>false
theorem CA{x:Option cC}(h:lH x=true) :x=some (.r0 (my x)):=by
  unfold lH at h
  split at h<;>first | rfl | (cases h;done) | (rename_i y;cases y;rfl)
noncomputable def wg:aU:=dG vT (.cons (.agg (.cons (.int .i64) (.cons (.int .i64) (.cons (.int .i64) (.cons (.ns .u64) (.cons (.int .i64) (.cons (.int .u64) .nil))))))) .nil) fun t=>(fun q=>[⟨qo (.r0 (my q)),[lH q]⟩]) (kx t.1.1 t.1.2.1 t.1.2.2.1 t.1.2.2.2.1.2 t.1.2.2.2.2.1 t.1.2.2.2.2.2.1)
theorem zk:bc prog wg:=bf fun t=>(bi (fun h=>tQ t.1.1 t.1.2.1 t.1.2.2.1 t.1.2.2.2.1.1 t.1.2.2.2.1.2 t.1.2.2.2.2.1 t.1.2.2.2.2.2.1 (CA h)) bZ)
noncomputable def wh:List aU:=wg::rD
theorem eT:bh prog (bA wh):=aB zk kw
inductive bK where
  | r0 (s7:ByteArray)
def tT:bK→AE×aH
  | .r0 s7=>(.ret,⟨ax 29 [(2,.str s7)],[],0⟩)
theorem nI:sC tT:=by intro x;cases x<;>(intro h;cases h)
def oT:bK→nu
  | .r0 s7=>⟨.str s7,[]⟩
def A5(a_0:Int)(a_1:Int)(a_2:Int)(v_3:Lv)(a_4:List Int)(a_5:Int)(a_6:Int) :ByteArray×Nat×Bool×Bool→aH:=fun (s1,a2,b3,b4)=>⟨ax 29 [(1,.ptr 0 1 0 0),(3,.ptr 1 1 0 0)],[(0,.vs [.int .i64 a_0,.int .i64 a_1,.int .i64 a_2,.imm v_3 (.ns .u64 a_4) 1 1 0 (List.length a_4),.int .i64 a_5,.int .u64 a_6]),(1,.vs [.str s1,.int .i64 ((a2:Nat):Int),.bool false b3,.bool false b4])],2⟩
def A6(a_0 : Int) : T ((ByteArray × Nat × Bool × Bool) ⊕ (bK)) :=
  .alt 0
    (.need (a_0==(1:Int))<|.leaf (.inl ((ByteArray.mk #[101,105,103,101,110]),3,false,true)))
    (.alt 1
      (.need (a_0==(2:Int))<|.leaf (.inl ((ByteArray.mk #[118,97,108,117,101,115]),0,false,true)))
      (.alt 2
        (.need (a_0==(3:Int))<|.leaf (.inl ((ByteArray.mk #[115,118,100]),2,false,false)))
        (.alt 3
          (.need (a_0==(4:Int))<|.leaf (.inl ((ByteArray.mk #[114,97,110,107]),2,true,false)))
          (.alt 4
            (.need (a_0==(5:Int))<|.leaf (.inl ((ByteArray.mk #[105,110,118,101,114,115,101]),2,true,false)))
            (.alt 5
              (.need (a_0==(6:Int))<|.leaf (.inl ((ByteArray.mk #[99,111,110,100]),2,false,false)))
              (.alt 6
                (.need (!(a_0==(1:Int)))<|.need (!(a_0==(2:Int)))<|.need (!(a_0==(3:Int)))<|.need (!(a_0==(4:Int)))<|.need (!(a_0==(5:Int)))<|.need (!(a_0==(6:Int)))<|.leaf (.inl (ByteArray.empty,0,false,false)))
                (.fail)))))))
def A7(a_0:Int)(a_1:Int)(a_2:Int)(v_3:Lv)(a_4:List Int)(a_5:Int)(a_6:Int)(s1:ByteArray)(a2:Nat)(b3:Bool)(b4:Bool)(s5:ByteArray) :aH:=⟨ax 29 [(1,.ptr 0 1 0 0),(3,.ptr 1 1 0 0),(4,.str s5)],[(0,.vs [.int .i64 a_0,.int .i64 a_1,.int .i64 a_2,.imm v_3 (.ns .u64 a_4) 1 1 0 (List.length a_4),.int .i64 a_5,.int .u64 a_6]),(1,.vs [.str s1,.int .i64 ((a2:Nat):Int),.bool false b3,.bool false b4])],2⟩
def rE(a_5:Int)(s1:ByteArray)(a2:Nat) :T ((ByteArray)⊕(bK)) :=
  .ask (decide (((a2:Nat):Int)>(0:Int)))
    (.need (kK .i64 a_5)<|.need (decide ((ByteArray.mk #[32]).size+(bP a_5).size≤9223372036854775807))<|.need (decide (s1.size+((ByteArray.mk #[32])++(bP a_5)).size≤9223372036854775807))<|.leaf (.inl (s1++((ByteArray.mk #[32])++(bP a_5)))))
    (.leaf (.inl s1))
def A8(s6:ByteArray) :aH:=⟨ax 29 [(4,.str s6)],[],0⟩
def A9(a_6:Int)(b3:Bool)(s5:ByteArray) :T ((ByteArray)⊕(bK)) :=
  .ask b3
    (.need (decide ((ByteArray.mk #[32]).size+(ba a_6).size≤9223372036854775807))<|.need (decide (s5.size+((ByteArray.mk #[32])++(ba a_6)).size≤9223372036854775807))<|.leaf (.inl (s5++((ByteArray.mk #[32])++(ba a_6)))))
    (.leaf (.inl s5))
def Ba(s6:ByteArray) :T ((Empty)⊕(bK)) :=
  .leaf (.inr (.r0 s6))
noncomputable def jx(a_0:Int)(a_5:Int)(a_6:Int) :Option bK:=yF (bj ((A6 a_0).run) fun (s1,a2,b3,b4) =>
  bj ((rE a_5 s1 a2).run) fun s5 =>
  bj ((A9 a_6 b3 s5).run) fun s6 =>
  (Ba s6).run)
theorem rF(a_0:Int)(a_1:Int)(a_2:Int)(v_3:Lv)(a_4:List Int)(a_5:Int)(a_6:Int){x:bK}(h:jx a_0 a_5 a_6=some x) :am prog tF [] [.agg [.int .i64 a_0,.int .i64 a_1,.int .i64 a_2,.imm v_3 (.ns .u64 a_4) 1 1 0 (List.length a_4),.int .i64 a_5,.int .u64 a_6]] (oT x) :=
  B3 false oT tT h (Sg.cut 2 nI (dt eT (A5 a_0 a_1 a_2 v_3 a_4 a_5 a_6) [⟨[],[0,96],[1,3]⟩,⟨[],[0,96],[1,3]⟩,⟨[],[0,96],[1,3]⟩,⟨[],[0,96],[1,3]⟩,⟨[],[0,96],[1,3]⟩,⟨[],[0,96],[1,3]⟩,⟨[],[0,96],[1,3]⟩]) (fun ⟨s1,a2,b3,b4⟩=>Sg.cut 3 nI (dt eT (A7 a_0 a_1 a_2 v_3 a_4 a_5 a_6 s1 a2 b3 b4) [⟨[],[0,1],[1,3,4]⟩,⟨[],[0,1],[1,3,4]⟩]) (fun s5=>Sg.cut 2 nI (dt eT A8 [⟨[],[],[4]⟩,⟨[],[],[4]⟩]) (fun s6=>dt eT yG [⟨[],[],[2]⟩]))))
    (fun x=>by cases x with | r0 s7=>exact sF [.str s7])
def kz:Option bK→Bool
  | some _=>true
  | none=>false
def kX:Option bK→ByteArray
  | some (.r0 x)=>x
  | _=>ByteArray.empty
theorem Bb{x:Option bK}(h:kz x=true) :x=some (.r0 (kX x)):=by
  unfold kz at h
  split at h<;>first | rfl | (cases h;done) | (rename_i y;cases y;rfl)
noncomputable def tU:aU:=dG tF (.cons (.agg (.cons (.int .i64) (.cons (.int .i64) (.cons (.int .i64) (.cons (.ns .u64) (.cons (.int .i64) (.cons (.int .u64) .nil))))))) .nil) fun t=>(fun q=>[⟨oT (.r0 (kX q)),[kz q]⟩]) (jx t.1.1 t.1.2.2.2.2.1 t.1.2.2.2.2.2.1)
theorem xy:bc prog tU:=bf fun t=>(bi (fun h=>rF t.1.1 t.1.2.1 t.1.2.2.1 t.1.2.2.2.1.1 t.1.2.2.2.1.2 t.1.2.2.2.2.1 t.1.2.2.2.2.2.1 (Bb h)) bZ)
noncomputable def tV:List aU:=tU::wh
theorem xz:bh prog (bA tV):=aB xy eT
end
end Go.Plb.Seat
namespace Go.Plb.Seat
open Go Go.Plb
set_option linter.unusedSimpArgs false
set_option linter.unusedVariables false
set_option maxRecDepth 100000
def nJ(k:Int) :Bool×ByteArray×Nat×Bool×Bool :=
  if k=1 then (true,ByteArray.mk #[101,105,103,101,110],3,false,true)
  else if k=2 then (true,ByteArray.mk #[118,97,108,117,101,115],0,false,true)
  else if k=3 then (true,ByteArray.mk #[115,118,100],2,false,false)
  else if k=4 then (true,ByteArray.mk #[114,97,110,107],2,true,false)
  else if k=5 then (true,ByteArray.mk #[105,110,118,101,114,115,101],2,true,false)
  else if k=6 then (true,ByteArray.mk #[99,111,110,100],2,false,false)
  else (false,ByteArray.empty,0,false,false)
def ff(k y t:Int) :Bool:=bif (nJ k).1 then bif decide (y≥oF 1 ((nJ k).2.2.1:Nat)) then bif decide (y≤((nJ k).2.2.1:Nat)) then bif (nJ k).2.2.2.1 then true else t==0 else false else false else false
def qR(k m n:Int)(len:Nat)(y t:Int) :Bool :=
  bif decide (m≥0) then bif decide (m≤512) then bif decide (n≥0) then bif decide (n≤512) then bif (len:Int)==m*n then bif ff k y t then bif m==n then true else !(nJ k).2.2.2.2 else false else false else false else false else false else false
def xA:ByteArray:=ByteArray.mk #[32]
def fk(k y t:Int) :ByteArray :=
  let s:=bif decide (((nJ k).2.2.1:Int)>0) then (nJ k).2.1++(xA++bP y) else (nJ k).2.1
  bif (nJ k).2.2.2.1 then s++(xA++ba t) else s
def en(m n:Int) :ByteArray:=((ByteArray.mk #[109,97,116,114,105,120,32]++bP m)++xA)++bP n
def qS(ws:List Int) :ByteArray:=ox (ws.map ba)
theorem xB{α:Type}(f:Bool×ByteArray×Nat×Bool×Bool→α)(k:Int) :(T.alt 0 (.need (k==(1:Int))<|.leaf (f (nJ 1))) (.alt 1 (.need (k==(2:Int))<|.leaf (f (nJ 2))) (.alt 2 (.need (k==(3:Int))<|.leaf (f (nJ 3))) (.alt 3 (.need (k==(4:Int))<|.leaf (f (nJ 4))) (.alt 4 (.need (k==(5:Int))<|.leaf (f (nJ 5))) (.alt 5 (.need (k==(6:Int))<|.leaf (f (nJ 6)))
    (.alt 6 (.need (!(k==(1:Int)))<|.need (!(k==(2:Int)))<|.need (!(k==(3:Int)))<|.need (!(k==(4:Int)))<|.need (!(k==(5:Int)))<|.need (!(k==(6:Int)))<|.leaf (f (false,ByteArray.empty,0,false,false))) .fail))))))).run=some (f (nJ k)):=by
  by_cases h1:k=1
  · subst h1;rfl
  by_cases h2:k=2
  · subst h2;rfl
  by_cases h3:k=3
  · subst h3;rfl
  by_cases h4:k=4
  · subst h4;rfl
  by_cases h5:k=5
  · subst h5;rfl
  by_cases h6:k=6
  · subst h6;rfl
  have e:nJ k=(false,ByteArray.empty,0,false,false):=by simp [nJ,h1,h2,h3,h4,h5,h6]
  rw [e]
  have q:∀ j:Int,¬ k=j→(k==j)=false:=fun j h=>beq_eq_false_iff_ne.2 h
  simp [T.run,q _ h1,q _ h2,q _ h3,q _ h4,q _ h5,q _ h6]
theorem jC(k y t:Int) :du k y t=some (.r0 (ff k y t)):=by
  refine bW (an (a:=nJ k) (xB (fun x=>(Sum.inl x:(Bool×ByteArray×Nat×Bool×Bool)⊕bH)) k) ?_)
  generalize h:nJ k=p
  obtain ⟨b,w,n,tt,sq⟩:=p
  refine an (a:=ff k y t) ?_ rfl
  unfold ff
  rw [h]
  simp only [qE,T.run]
  generalize decide (y≥oF (1:Int) (n:Int))=z1
  generalize decide (y≤(n:Int))=z2
  cases b<;>cases z1<;>cases z2<;>cases tt<;>rfl
theorem tW(k m n:Int)(ws:List Int)(y t:Int) :kx k m n ws y t=some (.r0 (qR k m n ws.length y t)):=by
  refine bW (an (a:=qR k m n ws.length y t) ?_ rfl)
  unfold qR
  cases h1:decide (m≥0) with
  | false=>exact fw h1 rfl
  | true =>
    refine eR h1 ?_
    cases h2:decide (m≤512) with
    | false=>exact cu rfl
    | true =>
      refine ct ?_
      cases h3:decide (n≥0) with
      | false=>exact cu rfl
      | true =>
        refine ct ?_
        cases h4:decide (n≤512) with
        | false=>exact cu rfl
        | true =>
          refine ct (au ?_ ?_)
          · have g1:=of_decide_eq_true h1
            have g2:=of_decide_eq_true h2
            have g3:=of_decide_eq_true h3
            have g4:=of_decide_eq_true h4
            have:=Int.mul_le_mul g2 g4 g3 (by omega)
            have:=Int.mul_nonneg g1 g3
            rw [bC];omega
          cases h5:((ws.length:Int)==m*n) with
          | false=>exact cu rfl
          | true =>
            refine ct (au (by simp [mr]) (au (by rw [jC];rfl) ?_))
            cases h6:ff k y t with
            | false=>exact fw (by rw [jC];exact h6) rfl
            | true =>
              refine eR (by rw [jC];exact h6) ?_
              cases h7:(m==n) with
              | true=>exact ct rfl
              | false=>exact cu (xB (fun x=>(Sum.inl (!x.2.2.2.2):Bool⊕cC)) k)
theorem IZ(w:Int) :(AW w).length=16:=by simp [AW]
theorem G3(l:List Int) :(Aj l).size=l.length:=by
  have key:∀ (l:List Int) (r:ByteArray),(l.foldl (fun r n=>r.push (UInt8.ofNat n.toNat)) r).size=r.size+l.length:=by
    intro l
    induction l with
    | nil=>intro r;rfl
    | cons x l ih=>intro r;rw [List.foldl_cons,ih,ByteArray.size_push,List.length_cons];omega
  have:=key l ByteArray.empty
  simpa [Aj] using this
theorem qp(w:Int) :(ba w).size=16:=by rw [ba,G3,IZ]
theorem xC:∀ l:List ByteArray,(pq l).length≤(l.map fun s=>s.size+1).sum
  | []=>by simp [pq]
  | [x]=>by
    simp only [pq,List.map_cons,List.map_nil,List.sum_cons,List.sum_nil,Array.length_toList]
    show x.size≤_
    omega
  | x::y::r=>by
    have:=xC (y::r)
    simp only [pq,List.map_cons,List.sum_cons,List.length_append,List.length_cons] at this ⊢
    simp only [ByteArray.size,Array.length_toList] at this ⊢
    omega
theorem Bc(l:List ByteArray) :(ox l).size=(pq l).length:=by simp [ox,ByteArray.size]
theorem Be:∀ f n,(Ci f n).length≤f
  | 0,_=>by simp [Ci]
  | f+1,n=>by
    have:=Be f (n/10)
    rw [Ci]
    split<;>simp<;>omega
theorem kY(n:Int) :(bP n).size≤21:=by
  have:(bP n).size=(FH n).length:=by simp [bP,ByteArray.size]
  rw [this,FH]
  have h1:=Be 20 n.natAbs
  have h2:=Be 20 n.toNat
  split<;>simp<;>omega
theorem rG(m n:Int)(hm:kK .i64 m=true)(hn:kK .i64 n=true) :di m n=some (.r0 (en m n)):=by
  refine bW ?_
  have h1:=kY m
  have h2:=kY n
  have e1:(ByteArray.mk #[109,97,116,114,105,120,32]).size=7:=rfl
  have e2:(ByteArray.mk #[32]).size=1:=rfl
  refine au hm (au ?_ (au ?_ (au hn (au ?_ rfl))))
  all_goals simp only [ByteArray.size_append,e1,e2,decide_eq_true_eq];omega
theorem FK(k:Int) :(nJ k).2.1.size≤7:=by
  unfold nJ
  repeat' split
  all_goals decide
theorem rH(k y t:Int)(hy:kK .i64 y=true) :jx k y t=some (.r0 (fk k y t)):=by
  have hw:=FK k
  refine bW (an (a:=(nJ k).2) (xB (fun x=>(Sum.inl x.2:(ByteArray×Nat×Bool×Bool)⊕bK)) k) ?_)
  generalize h:nJ k=p at hw
  obtain ⟨b,w,n,tt,sq⟩:=p
  have hw:w.size≤7:=hw
  have h1:=kY y
  have h2:=qp t
  have e2:(ByteArray.mk #[32]).size=1:=rfl
  have hs1:(rE y w n).run=some (.inl (bif decide ((n:Int)>0) then w++(xA++bP y) else w)):=by
    cases hz:decide ((n:Int)>0) with
    | false=>exact fw hz rfl
    | true =>
      refine eR hz (au hy (au ?_ (au ?_ rfl)))
      all_goals simp only [ByteArray.size_append,e2,decide_eq_true_eq];omega
  have hsz:(bif decide ((n:Int)>0) then w++(xA++bP y) else w).size≤29:=by
    have e3:xA.size=1:=rfl
    cases decide ((n:Int)>0)<;>simp only [cond_true,cond_false,ByteArray.size_append,e3]<;>omega
  unfold fk
  rw [h]
  refine an hs1 ?_
  generalize (bif decide ((n:Int)>0) then w++(xA++bP y) else w)=s5 at hsz
  refine an (a:=bif tt then s5++(xA++ba t) else s5) ?_ rfl
  cases tt with
  | false=>exact cu rfl
  | true =>
    refine ct (au ?_ (au ?_ rfl))
    all_goals simp only [ByteArray.size_append,e2,decide_eq_true_eq];omega
theorem CB(ws:List Int)(h:ws.length≤1000000) :qn ws=some (.r0 (qS ws)):=by
  have hsz:(qS ws).size≤17*ws.length:=by
    have:=xC (ws.map ba)
    rw [qS,Bc]
    have e:((ws.map ba).map fun s=>s.size+1).sum=17*ws.length:=by
      clear this h
      induction ws with
      | nil=>rfl
      | cons x l ih=>simp only [List.map_cons,List.sum_cons,List.length_cons,qp] at ih ⊢;omega
    omega
  refine bW (an rfl (an (a:=(ws.length,ws.length,ws.map ba)) (jw (fun j=>(j,j,j,(ws.take j).map ba)) ws.length rfl (fun j hj=>?_) ?_) ?_))
  · have hl:((ws.take j).map ba).length=j:=by rw [List.length_map,List.length_take];omega
    have hg:ws[j]? = some (ws.getD j 0):=by rw [List.getD_eq_getElem?_getD,List.getElem?_eq_getElem hj];rfl
    have hn:List.take j ((ws.take j).map ba)++List.take 1 [ba (ws.getD j 0)]=(ws.take (j+1)).map ba:=by
      rw [List.take_of_length_le (by omega),List.take_add_one (l:=ws),hg,List.map_append];rfl
    rw [←hn]
    refine eR (by simp;omega) (au (by rw [fD];omega) (au (by rw [aT];omega) (au (by rw [lF];omega) (au (by rw [lF];omega) (cj (au (by rw [lF];omega) (au (by rw [bC];omega) rfl)))))))
  · rw [List.take_length]
    exact fw (by simp) rfl
  · show (nG ws.length (ws.map ba)).run=_
    have hc:aC 0 ws.length (ws.map ba)=ws.map ba:=by
      have:=pf (ws.map ba)
      rwa [List.length_map] at this
    rw [nG,hc]
    refine au (by simp [mr]) (cj (au ?_ (au ?_ rfl)))
    · show Nat.ble (qS ws).size 1000000000=true
      exact Nat.ble_eq_true_of_le (by omega)
    · show Nat.ble (ws.map ba).length 1000000000=true
      rw [List.length_map]
      exact Nat.ble_eq_true_of_le (by omega)
end Go.Plb.Seat
namespace Go.Plb.Seat
open Go Go.Plb Go.Proofs Go.RowKit Go.Shelf
set_option maxRecDepth 100000
set_option linter.unusedSimpArgs false
set_option linter.unusedVariables false
attribute [local go_sem] Oper.semAt_some
set_option maxHeartbeats 2000000 in
theorem KF (d l cb nb : Nat) (p : Option Addr) (m n cap : Nat) (hn : 1 ≤ n) (hL : m * n ≤ 1000000) (hcap : m * n ≤ cap) (hp : 1 ≤ m → p.isSome = true) (W : World) (J : Option Nat → World → Prop)
    (hJb : ∀ i W', J (some i) W' → W'.heap[cb]? = W.heap[cb]? ∧ W'.heap[nb]? = W.heap[nb]?) (hJm : ∀ i W' W'', J i W' → Below W'.heap.size W' W'' → J i W'')
    (hY : ∀ j a W', j < m → p = some a → J (some j) W' → YieldAt Fence.wide d prog l #[.slice (some (a.add (j * n))) n n] W' (fun e W'' => (e = .returned (.bool true) ∧ J (some (j + 1)) W'') ∨ (e = .returned (.bool false) ∧ J none W'')))
    (hc : Boxed W cb 22 (.slice p (m * n) cap)) (hnb : Boxed W nb 3 (.int .i64 n)) (h0 : J (some 0) W) :
    CallsIn Fence.wide (d + 1) prog 71 #[.func (.yield l) #[] #[], .pointer (some ⟨cb, 0, none⟩), .pointer (some ⟨nb, 0, none⟩)] W (fun e W' => (∃ v, e = .returned v) ∧ (J (some m) W' ∨ J none W')) := by
  refine callsIn_of_wp Tryd.func71 rfl trivial ?_ rfl
  simp only [Tryd.ntmps71, List.size_toArray, List.length_cons, List.length_nil, Nat.reduceAdd, Nat.reduceSub, Array.replicate_succ, Array.replicate_zero, List.push_toArray, List.append_toArray, List.nil_append, List.cons_append]
  gi_wp2
  gi_loopw [4] (fun t W' => ∃ (j i : Nat), t = .int .i64 (i : Nat) ∧ i = j * n ∧ j ≤ m ∧ J (some j) W') (fun t _ => m * n - (intOf t).toNat)
  case atStart => exact ⟨0, 0, rfl, by simp, Nat.zero_le _, h0⟩
  case round =>
    obtain ⟨j, i, rfl, hi, hj, hJ⟩ := hrel
    have hb := hJb j wr hJ
    have hc' : Boxed wr cb 22 (.slice p (m * n) cap) := hb.1.trans hc
    have hn' : Boxed wr nb 3 (.int .i64 n) := hb.2.trans hnb
    have c1 := hc'.cell
    have c2 := hn'.cell
    generalize hLe : m * n = L at *
    have hlt : i < L ↔ j < m := by
      rw [hi, ← hLe]
      exact ⟨fun h => Nat.lt_of_mul_lt_mul_right h, fun h => Nat.mul_lt_mul_of_pos_right h (by omega)⟩
    by_cases hjm : j < m
    · have h1 : i < L := hlt.2 hjm
      have h2 : i + n ≤ L := by
        rw [hi, ← hLe]
        calc j * n + n = (j + 1) * n := by rw [Nat.add_mul, Nat.one_mul]
          _ ≤ m * n := Nat.mul_le_mul_right n hjm
      obtain ⟨a, rfl⟩ := Option.isSome_iff_exists.1 (hp (by omega))
      have hJ' : J (some j) wr.drew := hJm _ _ _ hJ (Below.refl _ _).drew
      have hY' := hY j a wr.drew hjm rfl hJ'
      rw [← hi] at hY'
      obtain ⟨fn', tmps', assign', body', hy', hR'⟩ := hY'
      replace hi := Lib.hid hi
      clear hlt
      gi_wp2
      gi_region
      rw [show min (n : Int) ((L - i : Nat) : Int) = (n : Int) by omega]
      gi_wp2
      refine hR'.mono ?_
      rintro e W3 (⟨rfl, hJ3⟩ | ⟨rfl, hJ3⟩)
      · have hb3 := hJb (j + 1) W3 hJ3
        have c3 := (show Boxed W3 nb 3 (.int .i64 n) from hb3.2.trans hnb).cell
        gi_wp2
        go_roundw
        case rel => exact ⟨j + 1, i + n, by go_num, by rw [hi.out, Nat.add_mul, Nat.one_mul], by omega, hJ3⟩
        case measure => simp [intOf]; omega
      · gi_wp2
        refine bodyPost_ret (results_none rfl _ _ _) rfl ?_
        exact ⟨⟨_, rfl⟩, .inr hJ3⟩
    · have h1 : ¬ i < L := fun h => hjm (hlt.1 h)
      have hjm' : j = m := by omega
      gi_wp2
      go_end0
      exact ⟨⟨_, rfl⟩, .inl (hjm' ▸ hJ)⟩
theorem FL(p:Option Addr)(len cap n:Nat)(hn:1≤n)(w:World) :Calls prog 60 #[.slice p len cap,.int .i64 n] w fun e w' =>
    e=.returned (.func (.func 71) #[] #[.pointer (some ⟨w.heap.size,0,none⟩),.pointer (some ⟨w.heap.size+1,0,none⟩)])∧w'=(w.alloc (.cells #[.slice p len cap] 22)).alloc (.cells #[.int .i64 n] 3):=by
  have hmf:∀ (fn:Fn) (first cap:Array Value) (w:World),(Instr.makeFunc fn first cap).run prog w=.ok (.func fn first cap) w:=fun _ _ _ _=>rfl
  go_enter Tryd.func60,Tryd.ntmps60
  go_wp2
  go_ret
  exact ⟨rfl,rfl⟩
def cz(k m n:Int)(ws:List Int)(y t:Int) :List ByteArray :=
  bif qR k m n ws.length y t then en m n::((bif decide (n>0) then (List.range m.toNat).map (fun i=>qS ((ws.drop (i*n.toNat)).take n.toNat)) else [])++[fk k y t]) else []
abbrev G4(k m n:Int)(vw:Value)(y t:Int) :Array Value:=#[.int .i64 k,.int .i64 m,.int .i64 n,vw,.int .i64 y,.int .u64 t]
abbrev ib(ws:List Int) :AV:=.imm .free (.ns .u64 ws) 1 1 0 ws.length
theorem Dk(k m n:Int)(ws:List Int)(vw:Value)(y t:Int)(w:World)(hr:eQ w)(hv:VR ae.none_ w (ib ws) vw) :
    Calls prog 41 #[.agg (G4 k m n vw y t)] w fun e w'=>e=.returned (.bool (qR k m n ws.length y t))∧Below w.heap.size w w':=by
  have h:=tQ k m n .free ws y t (tW k m n ws y t)
  refine (am.calls (v:=.bool false (qR k m n ws.length y t)) h w hr (us:=[.agg (G4 k m n vw y t)]) (.cons _ _ _ _ (.agg _ _ (.cons _ _ _ _ (.int _ _) (.cons _ _ _ _ (.int _ _) (.cons _ _ _ _ (.int _ _) (.cons _ _ _ _ hv (.cons _ _ _ _ (.int _ _) (.cons _ _ _ _ (.int _ _) .nil))))))) .nil)).mono ?_
  rintro e w' ⟨u,ρ',rfl,hb,hu⟩
  cases hu
  exact ⟨rfl,hb⟩
theorem G5(k m n:Int)(ws:List Int)(vw:Value)(y t:Int)(hy:kK .i64 y=true)(w:World)(hr:eQ w)(hv:VR ae.none_ w (ib ws) vw) :
    Calls prog 35 #[.agg (G4 k m n vw y t)] w fun e w'=>e=.returned (.string (fk k y t))∧Below w.heap.size w w':=by
  have h:=rF k m n .free ws y t (rH k y t hy)
  refine (am.calls (v:=.str (fk k y t)) h w hr (us:=[.agg (G4 k m n vw y t)]) (.cons _ _ _ _ (.agg _ _ (.cons _ _ _ _ (.int _ _) (.cons _ _ _ _ (.int _ _) (.cons _ _ _ _ (.int _ _) (.cons _ _ _ _ hv (.cons _ _ _ _ (.int _ _) (.cons _ _ _ _ (.int _ _) .nil))))))) .nil)).mono ?_
  rintro e w' ⟨u,ρ',rfl,hb,hu⟩
  cases hu
  exact ⟨rfl,hb⟩
theorem G6(m n:Int)(hm:kK .i64 m=true)(hn:kK .i64 n=true)(w:World)(hr:eQ w) :Calls prog 59 #[.int .i64 m,.int .i64 n] w fun e w'=>e=.returned (.string (en m n))∧Below w.heap.size w w':=by
  have h:=rA m n (rG m n hm hn)
  refine (am.calls (v:=.str (en m n)) h w hr (us:=[.int .i64 m,.int .i64 n]) (.cons _ _ _ _ (.int _ _) (.cons _ _ _ _ (.int _ _) .nil))).mono ?_
  rintro e w' ⟨u,ρ',rfl,hb,hu⟩
  cases hu
  exact ⟨rfl,hb⟩
theorem I0(ws:List Int)(h6:ws.length≤1000000)(vw:Value)(w:World)(hr:eQ w)(hv:VR ae.none_ w (ib ws) vw) :Calls prog 11 #[vw] w fun e w'=>e=.returned (.string (qS ws))∧Below w.heap.size w w':=by
  have h:=tN .free ws (CB ws h6)
  refine (am.calls (v:=.str (qS ws)) h w hr (us:=[vw]) (.cons _ _ _ _ hv .nil)).mono ?_
  rintro e w' ⟨u,ρ',rfl,hb,hu⟩
  cases hu
  exact ⟨rfl,hb⟩
theorem lV{k m n:Int}{len:Nat}{y t:Int}(h:qR k m n len y t=true) :0≤m∧m≤512∧0≤n∧n≤512∧(len:Int)=m*n∧0≤y∧y≤3:=by
  unfold qR at h
  simp only [Bool.cond_eq_ite,Bool.if_false_right,Bool.and_eq_true,decide_eq_true_eq,beq_iff_eq,ge_iff_le] at h
  obtain ⟨h1,h2,h3,h4,h5,h6,_⟩:=h
  refine ⟨h1,h2,h3,h4,h5,?_⟩
  unfold ff at h6
  simp only [Bool.cond_eq_ite,Bool.if_false_right,Bool.and_eq_true,decide_eq_true_eq,beq_iff_eq,ge_iff_le] at h6
  obtain ⟨_,g1,g2,_⟩:=h6
  have hk:(nJ k).2.2.1≤3:=by
    unfold nJ
    repeat' split
    all_goals decide
  have g3:oF 1 ((nJ k).2.2.1:Nat)≥0:=by unfold oF;split<;>omega
  omega
theorem wi(w:World) :(isAgg 37).run prog w=.ok true w:=nh (by kernel_rfl)
theorem rI(w:World) :(sizeOf 37).run prog w=.ok 6 w:=by
  have hi:(prog.info? 37).map (·.size)=some 6:=by kernel_rfl
  cases hq:prog.info? 37 with
  | none=>rw [hq] at hi;cases hi
  | some i =>
    rw [hq] at hi
    simp only [Option.map_some,Option.some.injEq] at hi
    simp [sizeOf,Sem.run_bind,typeInfo,hq,hi]
theorem cr{W:World}{k:Nat}{o:Obj}(h:W.heap[k]? = some o) :k<W.heap.size:=(Array.getElem?_eq_some_iff.1 h).1
structure I1 (B ab:Nat) (k m n:Int) (ws:List Int) (vw:Value) (y t:Int) (J:Option Nat→World→Prop):Prop where
  ask:∀ i W,J (some i) W→W.heap[ab]? = some (.cells (G4 k m n vw y t) 37 (0,0))∧eQ W∧VR ae.none_ W (ib ws) vw
  mono:∀ i W W',J i W→Below W.heap.size W W'→J i W'
  put:∀ i W r o o',J i W→B≤r→W.heap[r]? = some o'→o'.isCells=false→J i (W.putObj r o)
def FM(o:Obj) :Prop:=∀ c fz,o ≠ .cells c 5 fz
def xD(B:Nat)(W W':World) :Prop:=W.heap.size≤W'.heap.size∧∀ r o,B≤r→W.heap[r]? = some o→FM o→W'.heap[r]? = some o
theorem lW{c:Array Value}{t:TypeId}{fz:Nat×Nat}(h:t≠5) :FM (.cells c t fz):=fun _ _ e=>by injection e with _ e;exact h e
theorem sG(l:Option (List Deferred)) :FM (.deferred l):=fun _ _ e=>by cases e
theorem Bf(l:Loop) :FM (.loop l):=fun _ _ e=>by cases e
structure LF (ab bx:Nat) (l:Nat) (k m n:Int) (ws:List Int) (vw:Value) (y t:Int) (W:World):Prop where
  c0:W.cell? ⟨ab,0,none⟩=some (.int .i64 k)
  c1:W.cell? ⟨ab,1,none⟩=some (.int .i64 m)
  c2:W.cell? ⟨ab,2,none⟩=some (.int .i64 n)
  c3:W.cell? ⟨ab,3,none⟩=some vw
  c4:W.cell? ⟨ab,4,none⟩=some (.int .i64 y)
  c5:W.cell? ⟨ab,5,none⟩=some (.int .u64 t)
  cb:W.cell? ⟨bx,0,none⟩=some (.func (.yield l) #[] #[])
  rom:eQ W
  hv:VR ae.none_ W (ib ws) vw
theorem Nj{ab bx l:Nat}{k m n:Int}{ws:List Int}{vw:Value}{y t:Int}{W:World}(h:W.heap[ab]? = some (.cells (G4 k m n vw y t) 37 (0,0))∧eQ W∧VR ae.none_ W (ib ws) vw)(hbx:Boxed W bx 44 (.func (.yield l) #[] #[])) :
    LF ab bx l k m n ws vw y t W:=by
  obtain ⟨h1,h2,h3⟩:=h
  exact ⟨by simp [World.cell?,h1],by simp [World.cell?,h1],by simp [World.cell?,h1],by simp [World.cell?,h1],by simp [World.cell?,h1],by simp [World.cell?,h1],hbx.cell,h2,h3⟩
theorem I1.lf{B ab bx l:Nat}{k m n:Int}{ws:List Int}{vw:Value}{y t:Int}{J:Option Nat→World→Prop}(hI:I1 B ab k m n ws vw y t J){i:Nat}{W W':World}(hJ:J (some i) W)(hbx:Boxed W bx 44 (.func (.yield l) #[] #[]))(hb:Below W.heap.size W W') :
    LF ab bx l k m n ws vw y t W':=Nj (hI.ask i W' (hI.mono _ _ _ hJ hb)) ((hb.block bx hbx.lt).trans hbx)
theorem Dl{ρ:ae}{W:World}{ws:List Int}{v:Value}(hv:VR ρ W (ib ws) v) :∃ p cap,v=.slice p ws.length cap∧ws.length≤cap∧(1≤ws.length→p.isSome=true):=by
  generalize hA:ib ws=A at hv
  cases hv with
  | imm bw d k es i len cap bl o u ha hb hc hv hl hr hk hg=>cases hA;exact ⟨_,_,rfl,hl,fun _=>rfl⟩
  | immEnd bw d k es i cap a hr hk hg =>
    simp only [ib,AV.imm.injEq] at hA
    obtain ⟨_,_,_,_,_,h0⟩:=hA
    rw [h0]
    exact ⟨_,_,rfl,Nat.zero_le _,fun h=>by omega⟩
  | _=>cases hA
theorem I2{ρ:ae}{W:World}{ws:List Int}{a:Addr}{cap:Nat}(hv:VR ρ W (ib ws) (.slice (some a) ws.length cap))(j c:Nat)(h:j+c≤ws.length) :VR ρ W (ib ((ws.drop j).take c)) (.slice (some (a.add j)) c c):=by
  have hlen:((ws.drop j).take c).length=c:=by rw [List.length_take,List.length_drop];omega
  by_cases hc0:c=0
  · subst hc0
    show VR ρ W (.imm .free (.ns .u64 _) 1 1 0 _) _
    rw [List.take_zero]
    exact .immEnd _ _ _ _ _ _ _ trivial (fun _=>rfl) rfl
  generalize hA:ib ws=A at hv
  generalize hV:Value.slice (some a) ws.length cap=V at hv
  cases hv with
  | imm bw d k es i len cap bl o u ha hb hc hv hl hr hk hg =>
    cases hA
    cases hV
    have:=VR.imm (ρ:=ρ) (w:=W) .free (.ns .u64 ((ws.drop j).take c)) 1 1 0 c c bl (o+0*1+j) (fun x=>u (j+x)) ha hb (fun x v hx=>?_) (fun x v hx=>?_) (Nat.le_refl _) trivial (fun _=>rfl) rfl
    · show VR ρ W (.imm .free (.ns .u64 ((ws.drop j).take c)) 1 1 0 ((ws.drop j).take c).length) _
      rw [hlen]
      have e1:(Addr.mk bl (o+0*1) none).add j=Addr.mk bl (o+0*1+j+0*1) none:=by simp [Addr.add]
      rw [e1]
      exact this
    all_goals
      simp only [aj.cell?,List.getElem?_take,List.getElem?_drop] at hx
      split at hx
      case isFalse=>cases hx
    · have:=hc (j+x) v (by simpa [aj.cell?] using hx)
      rw [show o+0*1+j+x=o+(j+x) by omega]
      exact this
    · exact hv (j+x) v (by simpa [aj.cell?] using hx)
  | immEnd bw d k es i cap a hr hk hg =>
    simp only [ib,AV.imm.injEq] at hA
    obtain ⟨_,_,_,_,_,h0⟩:=hA
    omega
  | _=>cases hA
noncomputable def Bg:Code:=match Tryd.f58.body with
  | some (.seq _ (.seq _ t))=>t
  | _=>.skip
noncomputable def KG:Code:=match Bg with
  | .seq _ t=>t
  | _=>.skip
set_option maxHeartbeats 4000000 in
theorem Bh (d l ab bx B : Nat) (k m n : Int) (ws : List Int) (vw : Value) (y t : Int) (J : Option Nat → World → Prop) (hI : I1 B ab k m n ws vw y t J)
    (hm : qR k m n ws.length y t = true) (hbx : B ≤ bx)
    (hY : ∀ d' j x W', (cz k m n ws y t)[j]? = some x → J (some j) W' → YieldAt Fence.wide (d' + 4) prog l #[.string x] W' (fun e W'' => ∃ b : Bool, e = .returned (.bool b) ∧ J (bif b then some (j + 1) else none) W'' ∧ xD B W' W''))
    (Q : Exit → Act → World → Prop) (D : List Deferred) (W3 : World) (hQ : ∀ a W', a.defers = D → xD B W3 W' → J (some (cz k m n ws y t).length) W' ∨ J none W' → Q .normal a W' ∧ Q .ret a W')
    (j : Nat) (hj : (cz k m n ws y t).length = j + 1) (hl : (cz k m n ws y t)[j]? = some (fk k y t)) (h1 : J (some j) W3) (hx : Boxed W3 bx 44 (.func (.yield l) #[] #[])) (u3 u4 u5 u6 u7 u8 u9 u10 u11 u12 u13 u14 u15 u16 u17 u18 u19 u20 u21 u22 u23 u24 u25 u26 u27 u28 u29 u30 u31 u32 u33 MY : Value) : Code.wpIn Fence.wide (d + 10) prog KG Q { tmps := #[.func (.yield l) #[] #[], .pointer (some ⟨ab, 0, none⟩), .pointer (some ⟨bx, 0, none⟩), u3, u4, u5, u6, u7, u8, u9, u10, u11, u12, u13, u14, u15, u16, u17, u18, u19, u20, u21, u22, u23, u24, u25, u26, u27, u28, u29, u30, u31, u32, u33, MY], defers := D } W3 := by
  obtain ⟨hm0, hm5, hn0, hn5, hlen, hy0, hy3⟩ := lV hm
  have ky : kK .i64 y = true := bC.2 (by omega)
  delta KG Bg Tryd.f58
  dsimp only
  obtain ⟨c0, c1, c2, c3, c4, c5, cb, rom, hv⟩ := hI.lf h1 hx (Below.refl _ W3).drew
  have ag := wi
  have sz := rI
  have hline := G5 k m n ws vw y t ky _ rom hv
  have hY1 := fun W' h => hY (d + 5) j _ W' hl h
  first
    | gi_region_with first
        | (refine ⟨trivial, ?_⟩; gi_at_call 35; refine (callsIn_wide.2 hline).mono ?_; rintro e W1 ⟨rfl, hb1⟩; have hb13 := (Below.refl _ W3).drew.trans hb1; obtain ⟨c10, c11, c12, c13, c14, c15, c1b, rom1, hv1⟩ := hI.lf h1 hx hb13; obtain ⟨fn', tmps', assign', body', hy', hR'⟩ := hY1 W1 (hI.mono _ _ _ h1 hb13))
        | (refine hR'.mono ?_; rintro e W4 ⟨b, rfl, hJ3, hK3⟩)
    | fail
  all_goals
    have hk3 : xD B W3 W4 := ⟨Nat.le_trans hb13.size hK3.1, fun r o h2 h3 h4 => hK3.2 r o h2 ((hb13.block r (cr h3)).trans h3) h4⟩
    refine (hQ _ _ rfl hk3 ?_).1
    rw [hj]
    cases b
    · exact .inr hJ3
    · exact .inl hJ3
theorem Mc{α:Type}(h:Array α)(a b c d:α)(k:Nat) :((((h.push a).push b).push c).push d)[h.size+k]? = #[a,b,c,d][k]?:=by
  have e1:((((h.push a).push b).push c).push d)=h ++ #[a,b,c,d]:=by
    apply Array.toList_inj.1
    simp
  rw [e1,Array.getElem?_append_right (Nat.le_add_right _ _),Nat.add_sub_cancel_left]
structure Nk (S bx l:Nat) (p:Option Addr) (L cap N:Nat) (rec:LoopState→Option Code→Loop) (J:Option Nat→World→Prop) (j:Nat) (W:World):Prop where
  j:J (some (1+j)) W
  x:Boxed W bx 44 (.func (.yield l) #[] #[])
  c:Boxed W S 22 (.slice p L cap)
  n:Boxed W (S+1) 3 (.int .i64 N)
  d:W.heap[S+2]? = some (.deferred (some []))
  o:W.heap[S+2+1]? = some (.loop (rec .ready none))
structure NH (S:Nat) (rec:LoopState→Option Code→Loop) (J:Option Nat→World→Prop) (W:World):Prop where
  j:J none W
  d:W.heap[S+2]? = some (.deferred (some []))
  o:W.heap[S+2+1]? = some (.loop (rec .done (some .ret)))
def CJ(S bx l:Nat)(p:Option Addr)(L cap N:Nat)(rec:LoopState→Option Code→Loop)(J:Option Nat→World→Prop) :Option Nat→World→Prop
  | some j,W=>Nk S bx l p L cap N rec J j W
  | none,W=>NH S rec J W
theorem CJ.mono{S bx l:Nat}{p:Option Addr}{L cap N:Nat}{rec:LoopState→Option Code→Loop}{J:Option Nat→World→Prop}(hJ:∀ i W W',J i W→Below W.heap.size W W'→J i W') :
    ∀ i W W',CJ S bx l p L cap N rec J i W→Below W.heap.size W W'→CJ S bx l p L cap N rec J i W'
  | some j,W,W',h,hb=>⟨hJ _ _ _ h.j hb,(hb.block _ h.x.lt).trans h.x,(hb.block _ h.c.lt).trans h.c,(hb.block _ h.n.lt).trans h.n,(hb.block _ (cr h.d)).trans h.d,(hb.block _ (cr h.o)).trans h.o⟩
  | none,W,W',h,hb=>⟨hJ _ _ _ h.j hb,(hb.block _ (cr h.d)).trans h.d,(hb.block _ (cr h.o)).trans h.o⟩
set_option maxHeartbeats 4000000 in
theorem G7 (d l ab bx B : Nat) (k m n : Int) (ws : List Int) (vw : Value) (y t : Int) (J : Option Nat → World → Prop) (hI : I1 B ab k m n ws vw y t J)
    (hm : qR k m n ws.length y t = true) (hbx : B ≤ bx)
    (hY : ∀ d' j x W', (cz k m n ws y t)[j]? = some x → J (some j) W' → YieldAt Fence.wide (d' + 4) prog l #[.string x] W' (fun e W'' => ∃ b : Bool, e = .returned (.bool b) ∧ J (bif b then some (j + 1) else none) W'' ∧ xD B W' W''))
    (Q : Exit → Act → World → Prop) (W3 : World)
    (hQ : ∀ a W', (a.defers = [] ∨ ∃ D, B ≤ D ∧ a.defers = [{ target := .collected D, args := #[] }] ∧ W'.heap[D]? = some (.deferred (some []))) → J (some (cz k m n ws y t).length) W' ∨ J none W' → Q .normal a W' ∧ Q .ret a W')
    (h1 : J (some 1) W3) (hx : Boxed W3 bx 44 (.func (.yield l) #[] #[])) (u3 u4 u5 u6 u7 u8 u9 u10 u11 u12 u13 u14 u15 u16 u17 u18 u19 u20 u21 u22 u23 u24 u25 u26 u27 u28 u29 u30 u31 u32 u33 MY : Value) : Code.wpIn Fence.wide (d + 10) prog Bg Q { tmps := #[.func (.yield l) #[] #[], .pointer (some ⟨ab, 0, none⟩), .pointer (some ⟨bx, 0, none⟩), u3, u4, u5, u6, u7, u8, u9, u10, u11, u12, u13, u14, u15, u16, u17, u18, u19, u20, u21, u22, u23, u24, u25, u26, u27, u28, u29, u30, u31, u32, u33, MY], defers := [] } W3 := by
  obtain ⟨hm0, hm5, hn0, hn5, hlen, hy0, hy3⟩ := lV hm
  have hch : ∃ x, Bg = .seq x KG ∧ x = (match Bg with | .seq x _ => x | _ => .skip) := ⟨_, rfl, rfl⟩
  obtain ⟨x, hx', he⟩ := hch
  rw [hx']
  delta Bg Tryd.f58 at he
  dsimp only at he
  rw [he]
  obtain ⟨c0, c1, c2, c3, c4, c5, cb, rom, hv⟩ := hI.lf h1 hx (Below.refl _ W3)
  obtain ⟨N, rfl⟩ := Int.eq_ofNat_of_zero_le hn0
  obtain ⟨M, rfl⟩ := Int.eq_ofNat_of_zero_le hm0
  clear he hx'
  by_cases hN : N = 0
  · subst hN
    have hlin : cz k M ((0 : Nat) : Int) ws y t = [en M ((0 : Nat) : Int), fk k y t] := by rw [cz, hm]; rfl
    gi_wp2
    exact Bh d l ab bx B k M ((0 : Nat) : Int) ws vw y t J hI hm hbx hY Q [] W3 (fun a W' h2 _ h4 => hQ a W' (.inl h2) h4) 1 (by rw [hlin]; rfl) (by rw [hlin]; rfl) h1 hx _ _ _ _ _ _ _ _ _ _ _ _ _ _ _ _ _ _ _ _ _ _ _ _ _ _ _ _ _ _ _ _
  · have hN1 : (0 : Int) < (N : Int) := by omega
    obtain ⟨p, cap, rfl, hcap, hp⟩ := Dl hv
    have hle : ws.length = M * N := by
      have : ((M * N : Nat) : Int) = (ws.length : Int) := by rw [hlen, Int.natCast_mul]
      omega
    rw [hle] at hcap hp hv
    gi_wp2_with (refine ⟨trivial, ?_⟩; gi_at_call 60; refine (callsIn_wide.2 (FL p (M * N) cap N (by omega) W3)).mono ?_; rintro e w' ⟨rfl, rfl⟩)
    obtain ⟨W4, hW4⟩ : ∃ W4, (W3.alloc (.cells #[.slice p (M * N) cap] 22)).alloc (.cells #[.int .i64 N] 3) = W4 := ⟨_, rfl⟩
    rw [hW4]
    have hs4 : W4.heap.size = W3.heap.size + 2 := by rw [← hW4]; simp
    refine uH (gf := 71) (m := d + 9) rfl (enters_of Tryd.func71 (by kernel_rfl) rfl) fun fn rec hrec hy => ?_
    rw [hs4] at hy ⊢
    have hlin : cz k M N ws y t = en M N :: (((List.range M).map (fun i => qS ((ws.drop (i * N)).take N))) ++ [fk k y t]) := by
      have hd0 : decide ((N : Int) > 0) = true := decide_eq_true hN1
      rw [cz, hm, hd0]
      rfl
    have hBS : B ≤ W3.heap.size := Nat.le_trans hbx (Nat.le_of_lt hx.lt)
    have hlen1 : (cz k M N ws y t).length = M + 1 + 1 := by rw [hlin]; simp
    have round : ∀ j a W', j < M → p = some a → Nk W3.heap.size bx l p (M * N) cap N rec J j W' → YieldAt Fence.wide (d + 8) prog (W3.heap.size + 2 + 1) #[.slice (some (a.add (j * N))) N N] W' (fun e W'' =>
        (e = .returned (.bool true) ∧ Nk W3.heap.size bx l p (M * N) cap N rec J (j + 1) W'') ∨ (e = .returned (.bool false) ∧ NH W3.heap.size rec J W'')) := by
      rintro j a W' hj rfl hS
      refine hy (d + 8) _ W' _ hS.o rfl ?_
      clear hy
      have hL1 : (cz k M N ws y t)[1 + j]? = some (qS ((ws.drop (j * N)).take N)) := by
        rw [hlin, Nat.add_comm, List.getElem?_cons_succ, List.getElem?_append_left (by simpa using hj), List.getElem?_map, List.getElem?_range hj]
        rfl
      have hjN : j * N + N ≤ ws.length := by
        rw [hle]
        calc j * N + N = (j + 1) * N := by rw [Nat.add_mul, Nat.one_mul]
          _ ≤ M * N := Nat.mul_le_mul_right N hj
      gi_wp2
      refine ⟨hS.o, ?_⟩
      obtain ⟨V1, hV1⟩ : ∃ V1, W'.putObj (W3.heap.size + 2 + 1) (.loop (rec .busy none)) = V1 := ⟨_, rfl⟩
      rw [hV1]
      have hlt := cr hS.o
      have hs1 : V1.heap.size = W'.heap.size := by rw [← hV1]; simp
      have hk1 : ∀ r, r ≠ W3.heap.size + 2 + 1 → V1.heap[r]? = W'.heap[r]? := fun r hr => by rw [← hV1]; exact World.putObj_heap_other hr
      have ho1 : V1.heap[W3.heap.size + 2 + 1]? = some (.loop (rec .busy none)) := by rw [← hV1]; exact World.putObj_heap_same hlt
      have hp1 := hI.put _ W' (W3.heap.size + 2 + 1) (.loop (rec .busy none)) _ hS.j (by omega) hS.o rfl
      rw [hV1] at hp1
      have hx1 : Boxed V1 bx 44 (.func (.yield l) #[] #[]) := (hk1 bx (by have := hx.lt; omega)).trans hS.x
      have hbd : Below V1.heap.size V1 V1.drew := (Below.refl _ V1).drew
      obtain ⟨c10, c11, c12, c13, c14, c15, c1b, rom1, hv1⟩ := hI.lf hp1 hx1 hbd
      rw [hle] at hv1
      have hw1 := I2 (ws := ws) (a := a) (cap := cap) (by rw [hle]; exact hv1) (j * N) N hjN
      have hrow := I0 _ (by rw [List.length_take, List.length_drop]; have := Nat.mul_le_mul (show M ≤ 512 by omega) (show N ≤ 512 by omega); omega) _ _ rom1 hw1
      have hY1 := fun W' h => hY (d + 3) (1 + j) _ W' hL1 h
      gi_wp2
      first
        | gi_region_with first
            | (refine ⟨trivial, ?_⟩; gi_at_call 11; refine (callsIn_wide.2 hrow).mono ?_; rintro e W5 ⟨rfl, hb5⟩; have hb15 := hbd.trans hb5; have hm5 := hI.mono _ _ _ hp1 hb15; obtain ⟨c50, c51, c52, c53, c54, c55, c5b, rom5, hv5⟩ := hI.lf hp1 hx1 hb15; obtain ⟨fn', tmps', assign', body', hy', hR'⟩ := hY1 W5 hm5)
            | (refine hR'.mono ?_; rintro e W6 ⟨b, rfl, hJ6, hK6⟩)
        | fail
      all_goals
        have hk6 : ∀ r o, B ≤ r → r ≠ W3.heap.size + 2 + 1 → W'.heap[r]? = some o → FM o → W6.heap[r]? = some o := fun r o h1 h2 h3 h4 =>
          hK6.2 r o h1 ((hb15.block r (by rw [hs1]; exact cr h3)).trans ((hk1 r h2).trans h3)) h4
        have hs6 : Hid (W3.heap.size + 2 + 1 < W6.heap.size) := Lib.hid (Nat.lt_of_lt_of_le (by omega) (Nat.le_trans hb15.size hK6.1))
        have ho6 : W6.heap[W3.heap.size + 2 + 1]? = some (.loop (rec .busy none)) := hK6.2 _ _ (by omega) ((hb15.block _ (by omega)).trans ho1) (Bf _)
        have hxl := hx.lt
        have g1 := hk6 _ _ (by omega) (by omega) hS.d (sG _)
        have g2 := hk6 _ _ hbx (by omega) hS.x (lW (by decide))
        have g3 := hk6 _ _ (by omega) (by omega) hS.c (lW (by decide))
        have g4 := hk6 _ _ (by omega) (by omega) hS.n (lW (by decide))
        replace g1 := Lib.hid g1
        replace g2 := Lib.hid g2
        replace g3 := Lib.hid g3
        replace g4 := Lib.hid g4
        cases b
        · have hp6 := hI.put _ W6 (W3.heap.size + 2 + 1) (.loop (rec .done (some .ret))) _ hJ6 (by omega) ho6 rfl
          have hfin : NH W3.heap.size rec J (W6.putObj (W3.heap.size + 2 + 1) (.loop (rec .done (some .ret)))) := ⟨hp6, (World.putObj_heap_other (by omega)).trans g1.out, World.putObj_heap_same hs6.out⟩
          gi_wp2
          all_goals first
            | exact ⟨ho6, hfin⟩
            | exact hfin
        · have hp6 := hI.put _ W6 (W3.heap.size + 2 + 1) (.loop (rec .ready none)) _ hJ6 (by omega) ho6 rfl
          have hfin : Nk W3.heap.size bx l (some a) (M * N) cap N rec J (j + 1) (W6.putObj (W3.heap.size + 2 + 1) (.loop (rec .ready none))) := ⟨hp6, (World.putObj_heap_other (by omega)).trans g2.out,
            (World.putObj_heap_other (by omega)).trans g3.out, (World.putObj_heap_other (by omega)).trans g4.out, (World.putObj_heap_other (by omega)).trans g1.out, World.putObj_heap_same hs6.out⟩
          gi_wp2
          all_goals first
            | exact ⟨ho6, hfin⟩
            | exact hfin
    clear hy
    have hlow : Below W3.heap.size W3 ((W4.alloc (.deferred (some []))).alloc (.loop (rec .ready none))) := by
      rw [← hW4]
      refine Below.alloc (Below.alloc (Below.alloc (Below.alloc (Below.refl _ W3) ?_ _) ?_ _) ?_ _) ?_ _
      all_goals simp
      all_goals try omega
    obtain ⟨W0, hW0⟩ : ∃ W0, (W4.alloc (.deferred (some []))).alloc (.loop (rec .ready none)) = W0 := ⟨_, rfl⟩
    rw [hW0] at hlow
    have hat : ∀ r, r < 4 → W0.heap[W3.heap.size + r]? = #[Obj.cells #[.slice p (M * N) cap] 22, .cells #[.int .i64 N] 3, .deferred (some []), .loop (rec .ready none)][r]? := fun r hr => by
      have hh : W0.heap = (((W3.heap.push (.cells #[.slice p (M * N) cap] 22)).push (.cells #[.int .i64 N] 3)).push (.deferred (some []))).push (.loop (rec .ready none)) := by rw [← hW0, ← hW4]; rfl
      rw [hh]
      exact Mc W3.heap _ _ _ _ r
    have hJ0 := hI.mono _ _ _ h1 hlow
    have hS0 : Nk W3.heap.size bx l p (M * N) cap N rec J 0 W0 := ⟨hJ0, (hlow.block bx hx.lt).trans hx, hat 0 (by omega), hat 1 (by omega), hat 2 (by omega), hat 3 (by omega)⟩
    rw [hW0]
    refine (KF (d + 8) (W3.heap.size + 2 + 1) W3.heap.size (W3.heap.size + 1) p M N cap (by omega) (by have := Nat.mul_le_mul (show M ≤ 512 by omega) (show N ≤ 512 by omega); omega) hcap (fun hM => hp (Nat.mul_pos hM (by omega))) W0
      (CJ W3.heap.size bx l p (M * N) cap N rec J) (fun i W' h => ⟨h.c.trans hS0.c.symm, h.n.trans hS0.n.symm⟩) (CJ.mono hI.mono) (fun j a W' h1 h2 h3 => round j a W' h1 h2 h3) hS0.c hS0.n hS0).mono ?_
    rintro e W' ⟨hv', hS | hS⟩
    · refine ⟨hv', .inl ⟨hS.o, ?_⟩⟩
      have hpe := hI.put _ W' (W3.heap.size + 2 + 1) (.loop (rec .exhausted none)) _ hS.j (by omega) hS.o rfl
      have hxl := hx.lt
      have hde : (W'.putObj (W3.heap.size + 2 + 1) (.loop (rec .exhausted none))).heap[W3.heap.size + 2]? = some (.deferred (some [])) := (World.putObj_heap_other (by omega)).trans hS.d
      have hxe : Boxed (W'.putObj (W3.heap.size + 2 + 1) (.loop (rec .exhausted none))) bx 44 (.func (.yield l) #[] #[]) := (World.putObj_heap_other (by omega)).trans hS.x
      obtain ⟨W7, hW7⟩ : ∃ W7, W'.putObj (W3.heap.size + 2 + 1) (.loop (rec .exhausted none)) = W7 := ⟨_, rfl⟩
      rw [hW7] at hpe hde hxe ⊢
      gi_wp2
      exact Bh d l ab bx B k M N ws _ y t J hI hm hbx hY Q [{ target := .collected (W3.heap.size + 2), args := #[] }] W7
        (fun a W8 h2 h3 h4 => hQ a W8 (.inr ⟨W3.heap.size + 2, by omega, h2, h3.2 _ _ (by omega) hde (sG _)⟩) h4) (M + 1) hlen1
        (by rw [hlin, List.getElem?_cons_succ, List.getElem?_append_right (by simp)]; simp) (by rw [Nat.add_comm]; exact hpe) hxe _ _ _ _ _ _ _ _ _ _ _ _ _ _ _ _ _ _ _ _ _ _ _ _ _ _ _ _ _ _ _ _
    · refine ⟨hv', .inr ⟨_, hS.o, ?_⟩⟩
      have hpe := hI.put _ W' (W3.heap.size + 2 + 1) (.loop (rec .exhausted (some .ret))) _ hS.j (by omega) hS.o rfl
      have hde : (W'.putObj (W3.heap.size + 2 + 1) (.loop (rec .exhausted (some .ret)))).heap[W3.heap.size + 2]? = some (.deferred (some [])) := (World.putObj_heap_other (by omega)).trans hS.d
      obtain ⟨W7, hW7⟩ : ∃ W7, W'.putObj (W3.heap.size + 2 + 1) (.loop (rec .exhausted (some .ret))) = W7 := ⟨_, rfl⟩
      rw [hW7] at hpe hde ⊢
      gi_wp2
      exact (hQ _ W7 (.inr ⟨W3.heap.size + 2, by omega, rfl, hde⟩) (.inr hpe)).2
set_option maxHeartbeats 4000000 in
theorem KH (d l ab B : Nat) (k m n : Int) (ws : List Int) (vw : Value) (y t : Int) (J : Option Nat → World → Prop) (hI : I1 B ab k m n ws vw y t J)
    (hY : ∀ d' j x W', (cz k m n ws y t)[j]? = some x → J (some j) W' → YieldAt Fence.wide (d' + 4) prog l #[.string x] W' (fun e W'' => ∃ b : Bool, e = .returned (.bool b) ∧ J (bif b then some (j + 1) else none) W'' ∧ xD B W' W''))
    (W : World) (hB : B = W.heap.size) (h0 : J (some 0) W) :
    CallsIn Fence.wide (d + 10) prog 58 #[.func (.yield l) #[] #[], .pointer (some ⟨ab, 0, none⟩)] W (fun e W' => (∃ v, e = .returned v) ∧ (J (some (cz k m n ws y t).length) W' ∨ J none W')) := by
  refine callsIn_of_wp_marks Tryd.func58 rfl trivial ?_ rfl
  simp only [Tryd.ntmps58, List.size_toArray, List.length_cons, List.length_nil, Nat.reduceAdd, Nat.reduceSub, Array.replicate_succ, Array.replicate_zero, List.push_toArray, List.append_toArray, List.nil_append, List.cons_append]
  obtain ⟨W0, hW0⟩ : ∃ W0, W.alloc (.cells #[.func (.yield l) #[] #[]] 44) = W0 := ⟨_, rfl⟩
  have hs0 : W0.heap.size = W.heap.size + 1 := by rw [← hW0]; simp
  have hb0 : Below W.heap.size W W0 := by rw [← hW0]; exact (Below.refl _ _).alloc (Nat.le_refl _) _
  have hx0 : Boxed W0 W.heap.size 44 (.func (.yield l) #[] #[]) := by rw [← hW0]; exact Boxed.new _ _ _
  have hJ0 := hI.mono _ _ _ h0 hb0
  obtain ⟨c0, c1, c2, c3, c4, c5, cb, rom, hv⟩ := hI.lf hJ0 hx0 (Below.refl _ W0).drew
  have ag := wi
  have sz := rI
  have hmay := Dk k m n ws vw y t _ rom hv
  cases hm : qR k m n ws.length y t with
  | false =>
    have hlin : cz k m n ws y t = [] := by simp [cz, hm]
    rw [hlin] at hY ⊢
    rw [hm] at hmay
    gi_wp2
    first
      | gi_region_with first
          | (refine ⟨trivial, ?_⟩; gi_at_call 41; refine (callsIn_wide.2 hmay).mono ?_; rintro e W1 ⟨rfl, hb1⟩)
          | (refine (⟨trivial, ?_⟩ : Fence.wide.fn 59 ∧ _))
          | (refine (⟨by simp, ?_⟩ : (∀ (f : FuncId), none = some f → Fence.wide.fn f) ∧ _))
      | fail
    all_goals gi_wp2
    all_goals exact ⟨_, results_none rfl _ _ _, ⟨_, rfl⟩, .inl (hI.mono _ _ _ hJ0 ((Below.refl _ W0).drew.trans hb1))⟩
  | true =>
    rw [hm] at hmay
    obtain ⟨hm0, hm5, hn0, hn5, hlen, hy0, hy3⟩ := lV hm
    have km : kK .i64 m = true := bC.2 (by omega)
    have kn : kK .i64 n = true := bC.2 (by omega)
    have hl1 : (cz k m n ws y t)[0]? = some (en m n) := by rw [cz, hm]; rfl
    have hY1 := fun W' h => hY (d + 5) 0 _ W' hl1 h
    change Code.wpIn _ _ _ (.seq _ (.seq _ Bg)) _ _ _
    gi_wp2
    first
      | gi_region_with first
          | (refine ⟨trivial, ?_⟩; gi_at_call 41; refine (callsIn_wide.2 hmay).mono ?_; rintro e W1 ⟨rfl, hb1⟩; have hb01 := (Below.refl _ W0).drew.trans hb1; obtain ⟨c10, c11, c12, c13, c14, c15, c1b, rom1, hv1⟩ := hI.lf hJ0 hx0 hb01; have hhead := G6 m n km kn _ rom1)
          | (refine ⟨trivial, ?_⟩; gi_at_call 59; refine (callsIn_wide.2 hhead).mono ?_; rintro e W2 ⟨rfl, hb2⟩; have hb02 := hb01.trans (hb2.mono (show W0.heap.size ≤ W1.heap.size from hb01.size)); have hJ2 := hI.mono _ _ _ hJ0 hb02; obtain ⟨c20, c21, c22, c23, c24, c25, c2b, rom2, hv2⟩ := hI.lf hJ0 hx0 hb02; obtain ⟨fn', tmps', assign', body', hy', hR'⟩ := hY1 W2 hJ2)
          | (refine hR'.mono ?_; rintro e W3 ⟨b, rfl, hJ3, hK3⟩)
      | fail
    all_goals
      cases b
      · gi_wp2
        exact ⟨_, results_none rfl _ _ _, ⟨_, rfl⟩, .inr hJ3⟩
      · gi_wp2
        have hx3 : Boxed W3 W.heap.size 44 (.func (.yield l) #[] #[]) := hK3.2 _ _ (by omega) ((hb02.block _ hx0.lt).trans hx0) (lW (by decide))
        refine G7 d l ab W.heap.size B k m n ws vw y t J hI hm (by omega) hY _ W3 (fun a W' h1 h2 => ?_) hJ3 hx3 _ _ _ _ _ _ _ _ _ _ _ _ _ _ _ _ _ _ _ _ _ _ _ _ _ _ _ _ _ _ _ _
        have key : LeavesInM Fence.wide (d + 10) prog Tryd.f58 a.tmps (fun e W' => (∃ v, e = .returned v) ∧ (J (some (cz k m n ws y t).length) W' ∨ J none W')) a.defers .returning W' := by
          rcases h1 with h1 | ⟨D, h3, h1, h4⟩
          · rw [h1]
            exact ⟨_, results_none rfl _ _ _, ⟨_, rfl⟩, h2⟩
          · rw [h1]
            refine ⟨by simp, .inl ⟨_, _, rfl, run_takeDeferred h4, ?_⟩⟩
            refine ⟨_, results_none rfl _ _ _, ⟨_, rfl⟩, ?_⟩
            rcases h2 with h2 | h2
            · exact .inl (hI.put _ _ _ _ _ h2 h3 h4 rfl)
            · exact .inr (hI.put _ _ _ _ _ h2 h3 h4 rfl)
        exact ⟨key, key⟩
structure jo where
  k:Int
  m:Int
  n:Int
  ws:List Int
  y:Int
  t:Int
def jo.may(a:jo) :Bool:=qR a.k a.m a.n a.ws.length a.y a.t
def jo.lines(a:jo) :List ByteArray:=cz a.k a.m a.n a.ws a.y a.t
def Lp(s:ByteArray) :List UInt8:=s.data.toList++[10]
def kA(l:List ByteArray) :List UInt8:=(l.map Lp).flatten
def dj(l:List jo) :List UInt8:=(l.map fun a=>kA a.lines).flatten
def dJ(l:List jo) :ByteArray:=if l.any (fun a=>!a.may)=true then ByteArray.empty else if 64<l.length then ByteArray.empty else if 8388608<(dj l).length then ByteArray.empty else ⟨(dj l).toArray⟩
def lX(l:List jo) :Int:=if l.any (fun a=>!a.may)=true then 2 else if 64<l.length then 3 else if 8388608<(dj l).length then 3 else 0
structure H9 (W:World) (bl o:Nat) (a:jo) (vw:Value):Prop where
  c0:W.cell? ⟨bl,o,none⟩=some (.int .i64 a.k)
  c1:W.cell? ⟨bl,o+1,none⟩=some (.int .i64 a.m)
  c2:W.cell? ⟨bl,o+2,none⟩=some (.int .i64 a.n)
  c3:W.cell? ⟨bl,o+3,none⟩=some vw
  c4:W.cell? ⟨bl,o+4,none⟩=some (.int .i64 a.y)
  c5:W.cell? ⟨bl,o+5,none⟩=some (.int .u64 a.t)
  v:VR ae.none_ W (ib a.ws) vw
  lt:bl<W.heap.size
abbrev jo.V(a:jo)(vw:Value) :Array Value:=G4 a.k a.m a.n vw a.y a.t
theorem H9.below{W W':World}{bl o:Nat}{a:jo}{vw:Value}(h:H9 W bl o a vw)(hb:Below W.heap.size W W') :H9 W' bl o a vw:=by
  have e:∀ j,W'.cell? ⟨bl,j,none⟩=W.cell? ⟨bl,j,none⟩:=fun j=>hb.cell (p:=⟨bl,j,none⟩) h.lt
  exact ⟨(e _).trans h.c0,(e _).trans h.c1,(e _).trans h.c2,(e _).trans h.c3,(e _).trans h.c4,(e _).trans h.c5,h.v.mono (jn.refl _ _) (ph hb),Nat.lt_of_lt_of_le h.lt hb.size⟩
def uI(W:World)(bl o:Nat)(l:List jo) :Prop:=∀ i a,l[i]? = some a→∃ vw,H9 W bl (o+i*6) a vw
theorem uI.below{W W':World}{bl o:Nat}{l:List jo}(h:uI W bl o l)(hb:Below W.heap.size W W') :uI W' bl o l:=fun i a hi=>(h i a hi).imp fun _ q=>q.below hb
set_option maxHeartbeats 2000000 in
theorem Et (a : jo) (vw : Value) (w : World) (hR : eQ w) (hv : VR ae.none_ w (ib a.ws) vw) : Calls prog 40 #[.agg (a.V vw)] w fun e w' => e = .returned (.bool (!a.may)) ∧ Below w.heap.size w w' := by
  have hb : Below w.heap.size w (w.alloc (.cells (a.V vw) 37)) := (Below.refl _ w).alloc (Nat.le_refl _) _
  have hmay := Dk a.k a.m a.n a.ws vw a.y a.t (w.alloc (.cells (a.V vw) 37)) (hR.below hb (Nat.le_refl _)) (hv.mono (jn.refl _ _) (ph hb))
  have ag := wi
  have sz := rI
  go_enter Tryd.func40, Tryd.ntmps40
  go_wp2_with (go_at_call 41; refine hmay.mono ?_; rintro e w' ⟨rfl, hb1⟩)
  go_ret
  exact ⟨rfl, hb.trans (hb1.mono (by simp))⟩
theorem rJ{F:Fence}{n:Nat}{P:Program}{fn:Func}{tmps:Array Value}{R:Ending→World→Prop}{v:Value}(n0:Nat)(hr:∀ W,(results fn tmps).run P W=.ok v W)(Pw:World→Prop) 
    (hP:∀ W D,n0≤D→Pw W→Pw (W.putObj D (.deferred none))) (hR:∀ W,Pw W→R (.returned v) W):∀ (Ds:List Nat) (W:World),Ds.Nodup→(∀ D∈Ds,n0≤D∧W.heap[D]? = some (.deferred (some [])))→Pw W →
      LeavesInM F n P fn tmps R (Ds.map fun D=>({ target:=.collected D,args:=#[] }:Deferred)) .returning W
  | [],W,_,_,h=>⟨_,hr W,hR W h⟩
  | D::Ds,W,hn,hD,h=>by
    have h1:=hD D (List.mem_cons_self ..)
    obtain ⟨hn1,hn2⟩:=List.nodup_cons.1 hn
    refine ⟨by simp,.inl ⟨_,_,rfl,run_takeDeferred h1.2,?_⟩⟩
    refine rJ n0 hr Pw hP hR Ds _ hn2 (fun D' h'=>?_) (hP W D h1.1 h)
    have h2:=hD D' (List.mem_cons_of_mem _ h')
    exact ⟨h2.1,(World.putObj_heap_other (fun e=>hn1 (by rw [←e];exact h'))).trans h2.2⟩
set_option maxHeartbeats 2000000 in
theorem I3 (bl o cap : Nat) (l : List jo) (hl : l.length ≤ 1000000000) (w : World) (hR : eQ w) (hA : uI w bl o l) (p : Option Addr) (hp : 1 ≤ l.length → p = some ⟨bl, o, none⟩) :
    Calls prog 56 #[.slice p l.length cap, .func (.func 40) #[] #[]] w fun e w' => (∃ r : Int, e = .returned (.int .i64 r) ∧ (0 ≤ r ↔ l.any (fun a => !a.may) = true)) ∧ Below w.heap.size w w' := by
  have ag := wi
  have sz := rI
  go_enter Tryd.func56, Tryd.ntmps56
  go_wp2
  go_loopw [8] (fun t W => ∃ i : Nat, t = .int .i64 i ∧ i ≤ l.length ∧ (l.take i).any (fun a => !a.may) = false ∧ Below w.heap.size w W) (fun t _ => l.length - (intOf t).toNat)
  case atStart => exact ⟨0, rfl, Nat.zero_le _, rfl, Below.refl _ _⟩
  case round =>
    obtain ⟨i, rfl, hi, hany, hb⟩ := hrel
    by_cases hlt : i < l.length
    · obtain ⟨a, ha⟩ : ∃ a, l[i]? = some a := ⟨_, List.getElem?_eq_getElem hlt⟩
      have hA' := hA.below hb
      obtain ⟨vw, hk⟩ := hA' i a ha
      obtain ⟨c0, c1, c2, c3, c4, c5, hv, hbl⟩ := hk
      have hcall := Et a vw wr (hR.below hb (Nat.le_refl _)) hv
      have hpp := hp (by omega)
      subst hpp
      go_wp2_with (go_at_call 40; refine hcall.mono ?_; rintro e w' ⟨rfl, hb1⟩)
      · go_ret
        have h1 : (!a.may) = true := by assumption
        exact ⟨⟨i, rfl, fun _ => List.any_eq_true.2 ⟨a, List.mem_of_getElem? ha, h1⟩, fun _ => Int.natCast_nonneg _⟩, hb.trans (hb1.mono hb.size)⟩
      · have h1 : (!a.may) = false := by assumption
        refine ⟨⟨i + 1, by go_num, by omega, ?_, hb.trans (hb1.mono hb.size)⟩, by simp [intOf]; omega⟩
        rw [List.take_add_one, ha, List.any_append, hany]
        simpa using h1
    · have he : i = l.length := by omega
      rw [he, List.take_length] at hany
      go_wp2
      go_ret
      exact ⟨⟨-1, rfl, fun h => absurd h (by decide), fun h => by rw [hany] at h; cases h⟩, hb⟩
theorem Bi(bl o cap:Nat)(l:List jo)(hl:l.length≤1000000000)(w:World)(hR:eQ w)(hA:uI w bl o l)(p:Option Addr)(hp:1≤l.length→p=some ⟨bl,o,none⟩) :
    Calls prog 39 #[.slice p l.length cap,.func (.func 40) #[] #[]] w fun e w'=>e=.returned (.bool (l.any fun a=>!a.may))∧Below w.heap.size w w':=by
  have h:=I3 bl o cap l hl w hR hA p hp
  go_enter Tryd.func39,Tryd.ntmps39
  go_wp2_with (go_at_call 56;refine h.mono ?_;rintro e w' ⟨⟨r,rfl,hr⟩,hb⟩;replace hr:=Lib.hid hr)
  go_ret
  replace hr:=hr.out
  refine ⟨?_,hb⟩
  show Ending.returned (Value.bool (decide (r≥0)))=_
  cases hq:l.any (fun a=>!a.may) with
  | true=>rw [decide_eq_true (show r≥0 from hr.2 hq)]
  | false =>
    have : ¬ r≥0:=fun c=>by rw [hr.1 c] at hq;cases hq
    rw [decide_eq_false this]
theorem I4(ws:List Int) :(qS ws).size≤17*ws.length:=by
  have:=xC (ws.map ba)
  rw [qS,Bc]
  have e:((ws.map ba).map fun s=>s.size+1).sum=17*ws.length:=by
    clear this
    induction ws with
    | nil=>rfl
    | cons x l ih=>simp only [List.map_cons,List.sum_cons,List.length_cons,qp] at ih ⊢;omega
  omega
theorem Bj(m n:Int) :(en m n).size≤50:=by
  have h1:=kY m
  have h2:=kY n
  have e1:(ByteArray.mk #[109,97,116,114,105,120,32]).size=7:=rfl
  have e2:xA.size=1:=rfl
  unfold en
  simp only [ByteArray.size_append,e1,e2]
  omega
theorem Bk(k y t:Int) :(fk k y t).size≤46:=by
  have hw:=FK k
  have h1:=kY y
  have h2:=qp t
  have e3:xA.size=1:=rfl
  unfold fk
  cases decide (((nJ k).2.2.1:Int)>0)<;>cases (nJ k).2.2.2.1<;>simp only [cond_true,cond_false,ByteArray.size_append,e3]<;>omega
theorem Bl{a:jo}(h:a.may=true) :a.lines.length≤514∧∀ x∈a.lines,x.size≤9000:=by
  obtain ⟨h1,h2,h3,h4,h5,_⟩:=lV h
  unfold jo.lines cz
  rw [show qR a.k a.m a.n a.ws.length a.y a.t=true from h]
  simp only [cond_true]
  cases hd:decide (a.n>0) with
  | false =>
    refine ⟨by simp,fun x hx=>?_⟩
    simp only [cond_false,List.nil_append,List.mem_cons,List.not_mem_nil,or_false] at hx
    rcases hx with rfl | rfl
    · have:=Bj a.m a.n;omega
    · have:=Bk a.k a.y a.t;omega
  | true =>
    refine ⟨by simp;omega,fun x hx=>?_⟩
    simp only [cond_true,List.mem_cons,List.mem_append,List.mem_map,List.not_mem_nil,or_false] at hx
    rcases hx with rfl | ⟨i,_,rfl⟩ | rfl
    · have:=Bj a.m a.n;omega
    · have h9:=I4 ((a.ws.drop (i*a.n.toNat)).take a.n.toNat)
      have:=List.length_take_le a.n.toNat (a.ws.drop (i*a.n.toNat))
      omega
    · have:=Bk a.k a.y a.t;omega
theorem FO{L:List ByteArray}(h:∀ x∈L,x.size≤9000) :(kA L).length≤L.length*9001:=by
  induction L with
  | nil=>simp [kA]
  | cons x L ih =>
    have h1:=h x (List.mem_cons_self ..)
    have h2:=ih fun y hy=>h y (List.mem_cons_of_mem _ hy)
    have h3:(Lp x).length=x.size+1:=by simp [Lp]
    unfold kA at h2 ⊢
    simp only [List.map_cons,List.flatten_cons,List.length_append,List.length_cons,h3]
    omega
theorem I5{l:List jo}(hm:∀ a∈l,a.may=true) :(dj l).length≤l.length*5000000:=by
  induction l with
  | nil=>simp [dj]
  | cons a l ih =>
    have h1:=Bl (hm a (List.mem_cons_self ..))
    have h2:=ih fun y hy=>hm y (List.mem_cons_of_mem _ hy)
    have h3:=FO h1.2
    unfold dj at h2 ⊢
    simp only [List.map_cons,List.flatten_cons,List.length_append,List.length_cons]
    omega
theorem I6(L:List ByteArray)(x:ByteArray) :kA (L++[x])=kA L++Lp x:=by simp [kA]
theorem G8(L:List jo)(a:jo) :dj (L++[a])=dj L++kA a.lines:=by simp [dj]
theorem xE(x y:List UInt8) :Lib.byteCells (x++y)=Lib.byteCells x++Lib.byteCells y:=by simp [Lib.byteCells]
theorem FP(a:jo)(vw:Value)(w:World) :Calls prog 42 #[.agg (a.V vw)] w fun e w'=>e=.returned (.func (.func 58) #[] #[.pointer (some ⟨w.heap.size,0,none⟩)])∧w'=w.alloc (.cells (a.V vw) 37):=by
  have hmf:∀ (fn:Fn) (first cap:Array Value) (w:World),(Instr.makeFunc fn first cap).run prog w=.ok (.func fn first cap) w:=fun _ _ _ _=>rfl
  go_enter Tryd.func42,Tryd.ntmps42
  go_wp2
  go_ret
  exact ⟨rfl,rfl⟩
theorem qq{T e:TypeId}{B b:Nat}{bs:List Value}{W W':World}(h:Lib.IsBuilderF T e B b bs W)(hk:∀ (k:Nat) (c:Array Value) (t:TypeId) (fz:Nat×Nat),W.heap[k]? = some (Obj.cells c t fz)→W'.heap[k]? = some (Obj.cells c t fz)) :Lib.IsBuilderF T e B b bs W':=by
  have key:∀ p,Lib.BuilderAtF T e B b p bs W→Lib.BuilderAtF T e B b p bs W':=by
    rintro p ⟨h1,v,h2,h3,h4⟩
    refine ⟨h1,v,hk _ _ _ _ h2,⟨h3.1,?_⟩,h4⟩
    rcases h3.2 with q | ⟨g,cap,cur,fz,q1,q2,q3,q4⟩
    · exact .inl q
    · exact .inr ⟨g,cap,cur,fz,q1,q2,hk _ _ _ _ q3,q4⟩
  exact h.imp (key _) (key _)
theorem uJ{T e:TypeId}{B b:Nat}{bs:List Value}{W:World}(h:Lib.IsBuilderF T e B b bs W) :b<W.heap.size:=by
  rcases h with ⟨_,v,h,_⟩ | ⟨_,v,h,_⟩
  · exact cr h
  · exact cr h
theorem FQ(W:World) :Lib.IsBuilderF 74 5 W.heap.size W.heap.size (Lib.byteCells []) (W.alloc (.cells #[.pointer none,.slice none 0 0] 74)):=by
  refine .inl ⟨Nat.le_refl _,.slice none 0 0,World.alloc_heap_new W _,⟨rfl,.inl ⟨rfl,rfl⟩⟩,by simp [Value.ownBlock]⟩
abbrev KI(D:Nat) :Deferred:={ target:=.collected D,args:=#[] }
theorem wj(B b:Nat)(bs:List Value)(s:ByteArray)(w:World)(h:Lib.IsBuilderF 74 5 B b bs w)(hlen:bs.length+s.size≤140737488355328)(hBw:B≤w.heap.size) :
    Calls Tryd.prog 43 #[.pointer (some ⟨b,0,none⟩),.string s] w fun e w'=>e=.returned (.tuple #[.int .i64 s.size,.nilIface])∧(Lib.BuilderAtF 74 5 B b (.pointer (some ⟨b,0,none⟩)) (bs++Lib.strCells s) w'∧Below B w w'∧Lib.OthersKept 5 (some b) w w') :=
  Any.Builder_WriteString_k { qf with } er B b bs s w h hlen hBw
structure TJ (w:World) (bb ab L:Nat) (cs:Array Value) (Ds:List Nat) (obj:Obj) (pre:List UInt8) (W:World):Prop where
  b:Lib.IsBuilderF 74 5 bb bb (Lib.byteCells pre) W
  a:W.heap[ab]? = some (.cells cs 37 (0,0))
  low:Below w.heap.size w W
  ds:∀ D∈Ds,W.heap[D]? = some (.deferred (some []))
  o:W.heap[L]? = some obj
def N5(w:World)(bb ab L:Nat)(cs:Array Value)(Ds:List Nat)(obj:Obj)(pre:List UInt8)(lines:List ByteArray) :Option Nat→World→Prop
  | some j,W=>TJ w bb ab L cs Ds obj (pre++kA (lines.take j)) W
  | none,_=>False
theorem TJ.below{w:World}{bb ab L:Nat}{cs:Array Value}{Ds:List Nat}{obj:Obj}{pre:List UInt8}{W W':World}(h:TJ w bb ab L cs Ds obj pre W)(hb:Below W.heap.size W W') :TJ w bb ab L cs Ds obj pre W' :=
  ⟨qq h.b fun k c t fz q=>(hb.block k (cr q)).trans q,(hb.block _ (cr h.a)).trans h.a,h.low.trans (hb.mono h.low.size),fun D hD=>(hb.block _ (cr (h.ds D hD))).trans (h.ds D hD),(hb.block _ (cr h.o)).trans h.o⟩
theorem TJ.put{w:World}{bb ab L:Nat}{cs:Array Value}{Ds:List Nat}{obj obj':Obj}{pre:List UInt8}{W:World}(h:TJ w bb ab L cs Ds obj pre W)(r:Nat)(ob o':Obj)(hw:w.heap.size≤r)(ho:W.heap[r]? = some o')(hc:o'.isCells=false)(hD:∀ D∈Ds,r≠D) 
    (hL:(r≠L∧obj'=obj)∨(r=L∧obj'=ob)):TJ w bb ab L cs Ds obj' pre (W.putObj r ob):=by
  have nc:∀ k c t fz,W.heap[k]? = some (.cells c t fz)→k≠r:=fun k c t fz q e=>by
    rw [e,ho] at q;cases q;cases hc
  refine ⟨qq h.b fun k c t fz q=>(World.putObj_heap_other (nc k c t fz q)).trans q,(World.putObj_heap_other (nc _ _ _ _ h.a)).trans h.a,gS h.low hw _,fun D q=>(World.putObj_heap_other (fun e=>hD D q e.symm)).trans (h.ds D q),?_⟩
  rcases hL with ⟨h1,rfl⟩ | ⟨rfl,rfl⟩
  · exact (World.putObj_heap_other (fun e=>h1 e.symm)).trans h.o
  · exact World.putObj_heap_same (cr ho)
def Nl(w:World)(bb:Nat)(p:Option Addr)(cap:Nat)(l:List jo)(a:Act)(W:World) :Prop :=
  ∃ (i:Nat) (Ds:List Nat) (u6 u7 u12 u16 u17 u18 u19 u20 u21 u22 u23 u24 u25:Value),a = { tmps:=#[.slice p l.length cap,undef,.string ⟨#[]⟩,.int .i64 0,.pointer (some ⟨bb,0,none⟩),undef,u6,u7,.slice p l.length cap,.bool false,.slice p l.length cap,.int .i64 l.length,u12,.slice p l.length cap,.int .i64 l.length,.int .i64 i,u16,u17,u18,u19,u20,u21,u22,u23,u24,u25,undef,undef,undef],defers:=Ds.map KI }∧i≤l.length∧Lib.IsBuilderF 74 5 bb bb (Lib.byteCells (dj (l.take i))) W∧Below w.heap.size w W∧Ds.Nodup ∧
    ∀ D∈Ds,w.heap.size≤D∧W.heap[D]? = some (.deferred (some []))
set_option maxHeartbeats 4000000 in
theorem FS (bl o cap : Nat) (l : List jo) (hl : l.length ≤ 1000000000) (w : World) (hR : eQ w) (hA : uI w bl o l) (p : Option Addr) (hp : 1 ≤ l.length → p = some ⟨bl, o, none⟩) :
    Calls prog fb #[.slice p l.length cap] w fun e w' => e = .returned (.tuple #[.string (dJ l), .int .i64 (lX l)]) ∧ Below w.heap.size w w' := by
  have hany := Bi bl o cap l hl w hR hA p hp
  refine (callsIn_wide (n := 20)).1 (callsIn_of_wp_marks Tryd.func19 rfl trivial ?_)
  simp only [Tryd.ntmps19, List.size_toArray, List.length_cons, List.length_nil, Nat.reduceAdd, Nat.reduceSub, Array.replicate_succ, Array.replicate_zero, List.push_toArray, List.append_toArray, List.nil_append, List.cons_append]
  cases ha : l.any (fun a => !a.may) with
  | true =>
    have e1 : dJ l = ByteArray.empty ∧ lX l = 2 := ⟨if_pos ha, if_pos ha⟩
    rw [ha] at hany
    rw [e1.1, e1.2]
    gi_wp2_with (refine ⟨trivial, ?_⟩; gi_at_call 39; refine (callsIn_wide.2 hany).mono ?_; rintro e w' ⟨rfl, hb⟩)
    exact ⟨_, results_tmp2 rfl _ _ _, rfl, hb⟩
  | false =>
    have hf : ¬ l.any (fun a => !a.may) = true := by rw [ha]; decide
    rw [ha] at hany
    by_cases h64 : 64 < l.length
    · have e1 : dJ l = ByteArray.empty ∧ lX l = 3 := by unfold dJ lX; rw [if_neg hf, if_neg hf, if_pos h64, if_pos h64]; exact ⟨rfl, rfl⟩
      rw [e1.1, e1.2]
      gi_wp2_with (refine ⟨trivial, ?_⟩; gi_at_call 39; refine (callsIn_wide.2 hany).mono ?_; rintro e w' ⟨rfl, hb⟩)
      exact ⟨_, results_tmp2 rfl _ _ _, rfl, hb⟩
    · have e1 : dJ l = (if 8388608 < (dj l).length then ByteArray.empty else ⟨(dj l).toArray⟩) ∧ lX l = (if 8388608 < (dj l).length then 3 else 0) := by unfold dJ lX; rw [if_neg hf, if_neg hf, if_neg h64, if_neg h64]; exact ⟨rfl, rfl⟩
      rw [e1.1, e1.2]
      clear hf e1
      gi_wp2_with (refine ⟨trivial, ?_⟩; gi_at_call 39; refine (callsIn_wide.2 hany).mono ?_; rintro e w1 ⟨rfl, hb⟩)
      have hbn := FQ w1
      have hbw : Below w.heap.size w (w1.alloc (.cells #[.pointer none, .slice none 0 0] 74)) := hb.alloc hb.size _
      have hwb : w.heap.size ≤ w1.heap.size := hb.size
      obtain ⟨W1, hW1⟩ : ∃ W1, w1.alloc (.cells #[.pointer none, .slice none 0 0] 74) = W1 := ⟨_, rfl⟩
      obtain ⟨bb, hbb⟩ : ∃ bb, w1.heap.size = bb := ⟨_, rfl⟩
      have hs1 : W1.heap.size = bb + 1 := by rw [← hW1, ← hbb]; simp
      rw [hW1, hbb] at hbn ⊢
      rw [hW1] at hbw
      rw [hbb] at hwb
      clear hW1 hbb hb hany
      refine wpIn_loop (Nl w bb p cap l) (fun a _ => l.length - (intOf (a.tmps.getD 15 undef)).toNat) ⟨0, [], _, _, _, _, _, _, _, _, _, _, _, _, _, rfl, Nat.zero_le _, hbn, hbw, List.nodup_nil, by simp⟩ ?_
      rintro a W ⟨i, Ds, u6, u7, u12, u16, u17, u18, u19, u20, u21, u22, u23, u24, u25, rfl, hi, hbld, hlow, sF, hds⟩
      by_cases hlt : i < l.length
      · obtain ⟨a, hai⟩ : ∃ a, l[i]? = some a := ⟨_, List.getElem?_eq_getElem hlt⟩
        obtain ⟨vw, hk0⟩ := hA i a hai
        have hk := hk0.below (hlow.mono (Nat.le_refl _))
        have hv0 := hk0.v
        obtain ⟨c0, c1, c2, c3, c4, c5, hv, hbl⟩ := hk
        have hpp := hp (by omega)
        subst hpp
        obtain ⟨pw, cw, rfl, hcw, hpw⟩ := Dl hv
        have ag := wi
        have sz := rI
        gi_wp2_with (refine ⟨trivial, ?_⟩; gi_at_call 42; refine (callsIn_wide.2 (FP a (.slice pw a.ws.length cw) _)).mono ?_; rintro e w' ⟨rfl, rfl⟩)
        have hin : a ∈ l := List.mem_of_getElem? hai
        have hmay : ∀ b ∈ l, b.may = true := fun b hb => by
          have := List.any_eq_false.1 ha b hb
          simpa using this
        have hsz := Bl (hmay a hin)
        have hpre : (dj (l.take i)).length ≤ 64 * 5000000 := by
          have := I5 (l := l.take i) fun b hb => hmay b (List.mem_of_mem_take hb)
          have h2 : (l.take i).length ≤ 64 := by rw [List.length_take]; omega
          exact Nat.le_trans this (Nat.mul_le_mul_right _ h2)
        obtain ⟨W2, hW2⟩ : ∃ W2, (W.alloc (.cells (a.V (.slice pw a.ws.length cw)) 37)).alloc (.cells (a.V (.slice pw a.ws.length cw)) 37) = W2 := ⟨_, rfl⟩
        rw [hW2]
        have hs2 : W2.heap.size = W.heap.size + 2 := by rw [← hW2]; simp
        refine uH (gf := 58) (m := 19) rfl (enters_of Tryd.func58 (by kernel_rfl) rfl) fun fn rec hrec hy => ?_
        rw [hs2] at hy ⊢
        have hWb : bb < W.heap.size := uJ hbld
        obtain ⟨W0, hW0⟩ : ∃ W0, (W2.alloc (.deferred (some []))).alloc (.loop (rec .ready none)) = W0 := ⟨_, rfl⟩
        have hs0 : W0.heap.size = W.heap.size + 4 := by rw [← hW0]; simp [hs2]
        have hlow0 : Below W.heap.size W W0 := by
          rw [← hW0, ← hW2]
          refine Below.alloc (Below.alloc (Below.alloc (Below.alloc (Below.refl _ W) ?_ _) ?_ _) ?_ _) ?_ _
          all_goals simp
          all_goals try omega
        have hat : ∀ r, W0.heap[W.heap.size + r]? = #[Obj.cells (a.V (.slice pw a.ws.length cw)) 37, .cells (a.V (.slice pw a.ws.length cw)) 37, .deferred (some []), .loop (rec .ready none)][r]? := fun r => by
          rw [← hW0, ← hW2]
          exact Mc W.heap _ _ _ _ r
        obtain ⟨T, hT⟩ : ∃ T, N5 w bb (W.heap.size + 1) (W.heap.size + 2 + 1) (a.V (.slice pw a.ws.length cw)) ((W.heap.size + 2) :: Ds) (.loop (rec .ready none)) (dj (l.take i)) a.lines = T := ⟨_, rfl⟩
        have hI : I1 W0.heap.size (W.heap.size + 1) a.k a.m a.n a.ws (.slice pw a.ws.length cw) a.y a.t T := by
          rw [← hT]
          refine ⟨fun j V h => ⟨h.a, hR.below h.low (Nat.le_refl _), hv0.mono (jn.refl _ _) (ph h.low)⟩, fun j V V' h hb => ?_, fun j V r ob o' h h1 h2 h3 => ?_⟩
          · cases j with
            | none => exact h
            | some j => exact TJ.below h hb
          · cases j with
            | none => exact h
            | some j =>
              refine TJ.put h r ob o' (by have := hlow.size; omega) h2 h3 (fun D hD => ?_) (.inl ⟨by omega, rfl⟩)
              rcases List.mem_cons.1 hD with rfl | hD
              · omega
              · have := cr (hds D hD).2
                omega
        have h0 : T (some 0) W0 := by
          rw [← hT]
          refine ⟨?_, hat 1, hlow.trans (hlow0.mono hlow.size), fun D hD => ?_, hat 3⟩
          · rw [List.take_zero, show dj (l.take i) ++ kA [] = dj (l.take i) by simp [kA]]
            exact qq hbld fun k c t fz q => (hlow0.block k (cr q)).trans q
          · rcases List.mem_cons.1 hD with rfl | hD
            · exact hat 2
            · exact (hlow0.block _ (cr (hds D hD).2)).trans (hds D hD).2
        have hY : ∀ d' j x W', a.lines[j]? = some x → T (some j) W' → YieldAt Fence.wide (d' + 4) prog (W.heap.size + 2 + 1) #[.string x] W' (fun e W'' => ∃ b : Bool, e = .returned (.bool b) ∧ T (bif b then some (j + 1) else none) W'' ∧ xD W0.heap.size W' W'') := by
          intro d' j x W' hx hS
          rw [← hT] at hS ⊢
          refine hy (d' + 4) _ W' _ hS.o rfl ?_
          clear hy
          have hxm := hsz.2 x (List.mem_of_getElem? hx)
          have hpl : (dj (l.take i) ++ kA (a.lines.take j)).length ≤ 140737488355328 - 20000 := by
            have h1 := FO (L := a.lines.take j) fun y hy => hsz.2 y (List.mem_of_mem_take hy)
            have h2 := List.length_take_le j a.lines
            have h3 : (a.lines.take j).length ≤ 514 := by rw [List.length_take]; omega
            have h4 := Nat.mul_le_mul_right 9001 h3
            rw [List.length_append]
            omega
          gi_wp2
          refine ⟨hS.o, ?_⟩
          have hSb := TJ.put (obj' := .loop (rec .busy none)) hS (W.heap.size + 2 + 1) (.loop (rec .busy none)) _ (by have := hlow.size; omega) hS.o rfl (fun D hD => by
            rcases List.mem_cons.1 hD with rfl | hD
            · omega
            · have := cr (hds D hD).2
              omega) (.inr ⟨rfl, rfl⟩)
          have hlt := cr hS.o
          obtain ⟨V1, hV1⟩ : ∃ V1, W'.putObj (W.heap.size + 2 + 1) (.loop (rec .busy none)) = V1 := ⟨_, rfl⟩
          have hs1 : V1.heap.size = W'.heap.size := by rw [← hV1]; simp
          have hk1 : ∀ r, r ≠ W.heap.size + 2 + 1 → V1.heap[r]? = W'.heap[r]? := fun r hr => by rw [← hV1]; exact World.putObj_heap_other hr
          rw [hV1] at hSb ⊢
          have hWS := wj bb bb (Lib.byteCells (dj (l.take i) ++ kA (a.lines.take j))) (x ++ ⟨#[10]⟩) V1 hSb.b
            (by rw [Lib.byteCells_length, ByteArray.size_append]; have : (ByteArray.mk #[10]).size = 1 := rfl; omega) (by have := uJ hSb.b; omega)
          gi_wp2_with (refine ⟨trivial, ?_⟩; gi_at_call 43; refine (callsIn_wide.2 hWS).mono ?_; rintro e W6 ⟨rfl, hb6, hlow6, hot6⟩)
          have hnb : ∀ r, bb < r → some r ≠ some bb := fun r h e => by cases e; omega
          have hj : a.lines.take (j + 1) = a.lines.take j ++ [x] := by rw [List.take_add_one, hx]; rfl
          have hS6 : TJ w bb (W.heap.size + 1) (W.heap.size + 2 + 1) (a.V (.slice pw a.ws.length cw)) ((W.heap.size + 2) :: Ds) (.loop (rec .busy none)) (dj (l.take i) ++ kA (a.lines.take (j + 1))) W6 := by
            refine ⟨.inr ?_, hot6 _ _ hSb.a (hnb _ (by omega)) (lW (by decide)), hSb.low.trans (hlow6.mono hwb), fun D hD => hot6 _ _ (hSb.ds D hD) (fun e => ?_) (sG _), hot6 _ _ hSb.o (hnb _ (by omega)) (Bf _)⟩
            · rw [hj, I6, ← List.append_assoc, xE _ (Lp x)]
              have e1 : Lib.strCells (x ++ ⟨#[10]⟩) = Lib.byteCells (Lp x) := by
                simp [Lib.strCells, Lib.byteCells, Lp, ByteArray.data_append]
              rw [← e1]
              exact hb6
            · have h1 := hSb.ds D hD
              have h2 := hSb.b
              cases e
              rcases h2 with ⟨_, v, h2, _⟩ | ⟨_, v, h2, _⟩ <;> (rw [h1] at h2; cases h2)
          have hD' : ∀ D ∈ (W.heap.size + 2) :: Ds, W.heap.size + 2 + 1 ≠ D := fun D hD => by
            rcases List.mem_cons.1 hD with rfl | hD
            · omega
            · have := cr (hds D hD).2
              omega
          have hS7 := TJ.put (obj' := .loop (rec .ready none)) hS6 (W.heap.size + 2 + 1) (.loop (rec .ready none)) _ (by have := hlow.size; omega) hS6.o rfl hD' (.inr ⟨rfl, rfl⟩)
          refine ⟨hS6.o, ?_, ?_, fun r ob h1 h2 h3 => ?_⟩
          · rw [← hT]; exact hS7
          · have := hlow6.size
            simp only [World.putObj_size]
            omega
          · exact (World.putObj_heap_other (by omega)).trans (hot6 _ _ ((hk1 r (by omega)).trans h2) (hnb _ (by omega)) h3)
        rw [hW0]
        refine (KH 9 (W.heap.size + 2 + 1) (W.heap.size + 1) W0.heap.size a.k a.m a.n a.ws (.slice pw a.ws.length cw) a.y a.t T hI hY W0 rfl h0).mono ?_
        rintro e W' ⟨hv', hS | hS⟩
        · rw [← hT] at hS
          have hS : TJ w bb (W.heap.size + 1) (W.heap.size + 2 + 1) (a.V (.slice pw a.ws.length cw)) ((W.heap.size + 2) :: Ds) (.loop (rec .ready none)) (dj (l.take i) ++ kA (a.lines.take a.lines.length)) W' := hS
          refine ⟨hv', .inl ⟨hS.o, ?_⟩⟩
          have hD' : ∀ D ∈ (W.heap.size + 2) :: Ds, W.heap.size + 2 + 1 ≠ D := fun D hD => by
            rcases List.mem_cons.1 hD with rfl | hD
            · omega
            · have := cr (hds D hD).2
              omega
          have hS7 := TJ.put (obj' := .loop (rec .exhausted none)) hS (W.heap.size + 2 + 1) (.loop (rec .exhausted none)) _ (by have := hlow.size; omega) hS.o rfl hD' (.inr ⟨rfl, rfl⟩)
          obtain ⟨W8, hW8⟩ : ∃ W8, W'.putObj (W.heap.size + 2 + 1) (.loop (rec .exhausted none)) = W8 := ⟨_, rfl⟩
          rw [hW8] at hS7 ⊢
          have hnd' : ((W.heap.size + 2) :: Ds).Nodup := List.nodup_cons.2 ⟨fun h => by have := cr (hds _ h).2; omega, sF⟩
          have hfin : ∀ u6 u7 u12 u16 u17 u18 u19 u20 u21 u22 u23 u24 u25 : Value, Nl w bb (some ⟨bl, o, none⟩) cap l { tmps := #[.slice (some ⟨bl, o, none⟩) l.length cap, undef, .string ⟨#[]⟩, .int .i64 0, .pointer (some ⟨bb, 0, none⟩), undef, u6, u7, .slice (some ⟨bl, o, none⟩) l.length cap, .bool false, .slice (some ⟨bl, o, none⟩) l.length cap, .int .i64 l.length, u12, .slice (some ⟨bl, o, none⟩) l.length cap, .int .i64 l.length, .int .i64 ((i : Int) + 1), u16, u17, u18, u19, u20, u21, u22, u23, u24, u25, undef, undef, undef], defers := { target := .collected (W.heap.size + 2), args := #[] } :: Ds.map KI } W8 := by
            intro u6 u7 u12 u16 u17 u18 u19 u20 u21 u22 u23 u24 u25
            refine ⟨i + 1, (W.heap.size + 2) :: Ds, u6, u7, u12, u16, u17, u18, u19, u20, u21, u22, u23, u24, u25, rfl, by omega, ?_, hS7.low, hnd', fun D hD => ⟨?_, hS7.ds D hD⟩⟩
            · have h1 := hS7.b
              rw [List.take_length] at h1
              rw [List.take_add_one, hai]
              show Lib.IsBuilderF 74 5 bb bb (Lib.byteCells (dj (l.take i ++ [a]))) W8
              rw [G8]
              exact h1
            · have := hlow.size
              rcases List.mem_cons.1 hD with rfl | hD
              · omega
              · exact (hds D hD).1
          gi_wp2
          simp [intOf]
          omega
        · rw [← hT] at hS
          exact hS.elim
      · have hil : i = l.length := by omega
        rw [hil, List.take_length] at hbld
        have hLen := Tryd.Builder_Len_f bb bb _ W hbld
        rw [Lib.byteCells_length] at hLen
        have hStr := Any.Builder_String_any_k Eg qe bb bb (dj l) W hbld (Nat.le_of_lt (uJ hbld))
        gi_wp2_with first
          | (refine ⟨trivial, ?_⟩; gi_at_call 44; refine (callsIn_wide.2 hLen).mono ?_; rintro e w' ⟨rfl, rfl⟩)
          | (refine ⟨trivial, ?_⟩; gi_at_call 45; refine (callsIn_wide.2 hStr).mono ?_; rintro e W5 ⟨rfl, _, hb5, ho5⟩)
        · exact rJ w.heap.size (fun W => results_tmp2 rfl _ _ _) (fun W => Below w.heap.size w W) (fun W D h1 h2 => gS h2 h1 _) (fun W h => ⟨rfl, h⟩) Ds _ sF hds hlow
        · exact rJ w.heap.size (fun W => results_tmp2 rfl _ _ _) (fun W => Below w.heap.size w W) (fun W D h1 h2 => gS h2 h1 _) (fun W h => ⟨rfl, h⟩) Ds W5 sF (fun D hD => ⟨(hds D hD).1, ho5 _ _ (hds D hD).2 (fun e => by
            cases e
            rcases hbld with ⟨_, v, h2, _⟩ | ⟨_, v, h2, _⟩ <;> (rw [(hds _ hD).2] at h2; cases h2)) (sG _)⟩) (hlow.trans (hb5.mono hwb))
end Go.Plb.Seat
namespace Go.Plb.Seat
open Go Go.Plb Go.Proofs Go.RowKit
set_option maxRecDepth 100000
set_option linter.unusedSimpArgs false
set_option linter.unusedVariables false
theorem sH{ρ:ae}{W:World}{k:IntKind}{n:Int}{u:Value}(h:VR ρ W (.int k n) u) :u=.int k n:=by cases h;rfl
theorem G9{ρ:ae}{W:World}{lv:Lv}{ws:List Int}{len:Nat}(hlen:len=ws.length){v:Value}(hv:VR ρ W (.imm lv (.ns .u64 ws) 1 1 0 len) v) :VR ae.none_ W (ib ws) v:=by
  have av:∀ bl,ae.none_.avoid .free bl:=fun bl j _=>by cases j<;>exact fun h=>h
  generalize hA:AV.imm lv (.ns .u64 ws) 1 1 0 len=A at hv
  cases hv with
  | imm bw d k es i len' cap bl o u ha hb hc hv hl hr hk hg =>
    cases hA
    subst hlen
    refine .imm .free (.ns .u64 ws) 1 1 0 ws.length cap bl o u (av bl) hb hc (fun x v hx=>?_) hl trivial (fun _=>rfl) rfl
    have h1:=hv x v hx
    simp only [aj.cell?,Option.map_eq_some_iff] at hx
    obtain ⟨z,_,rfl⟩:=hx
    rw [sH h1]
    exact .int _ _
  | immEnd bw d k es i cap a hr hk hg =>
    simp only [AV.imm.injEq] at hA
    obtain ⟨_,_,_,_,_,h0⟩:=hA
    subst h0
    show VR ae.none_ W (.imm .free (.ns .u64 ws) 1 1 0 ws.length) _
    rw [←hlen]
    exact .immEnd _ _ _ _ _ _ _ trivial (fun _=>rfl) rfl
  | _=>cases hA
def KJ(d:aj)(l:List jo) :Prop:=∀ i a,l[i]? = some a→∃ lv,d.cell? (i*6)=some (.int .i64 a.k)∧d.cell? (i*6+1)=some (.int .i64 a.m)∧d.cell? (i*6+2)=some (.int .i64 a.n) ∧
  d.cell? (i*6+3)=some (.imm lv (.ns .u64 a.ws) 1 1 0 a.ws.length)∧d.cell? (i*6+4)=some (.int .i64 a.y)∧d.cell? (i*6+5)=some (.int .u64 a.t)
theorem Ia(bw:Lv)(d:aj)(k es:Nat)(l:List jo)(hd:KJ d l)(hl:l.length≤1000000000) :am prog fb [] [.imm bw d k es 0 l.length] ⟨.tup [.str (dJ l),.int .i64 (lX l)],[]⟩:=by
  refine ch ⟨FN fb,by kernel_rfl,by kernel_rfl⟩ fun ρ w us hN hv=>?_
  cases hv with | cons _ u _ _ h1 h2 =>
  cases h2
  have key:∃ p bl o cap,u=.slice p l.length cap∧(1≤l.length→p=some ⟨bl,o,none⟩)∧uI w bl o l:=by
    generalize hA:AV.imm bw d k es 0 l.length=A at h1
    cases h1 with
    | imm bw d k es i len cap bl o u ha hb hc hv hl hr hk hg =>
      cases hA
      refine ⟨_,bl,o+0*k,cap,rfl,fun _=>rfl,fun i a hi=>?_⟩
      obtain ⟨lv,g0,g1,g2,g3,g4,g5⟩:=hd i a hi
      refine ⟨u (i*6+3),?_,?_,?_,?_,?_,?_,G9 rfl (hv _ _ g3),hb⟩
      · have:=hc _ _ g0;rw [sH (hv _ _ g0)] at this;rw [show o+0*k+i*6=o+i*6 by omega];exact this
      · have:=hc _ _ g1;rw [sH (hv _ _ g1)] at this;rw [show o+0*k+i*6+1=o+(i*6+1) by omega];exact this
      · have:=hc _ _ g2;rw [sH (hv _ _ g2)] at this;rw [show o+0*k+i*6+2=o+(i*6+2) by omega];exact this
      · have:=hc _ _ g3;rw [show o+0*k+i*6+3=o+(i*6+3) by omega];exact this
      · have:=hc _ _ g4;rw [sH (hv _ _ g4)] at this;rw [show o+0*k+i*6+4=o+(i*6+4) by omega];exact this
      · have:=hc _ _ g5;rw [sH (hv _ _ g5)] at this;rw [show o+0*k+i*6+5=o+(i*6+5) by omega];exact this
    | immEnd bw d k es i cap a hr hk hg =>
      simp only [AV.imm.injEq] at hA
      obtain ⟨_,_,_,_,_,h0⟩:=hA
      rw [h0]
      refine ⟨a,0,0,cap,rfl,fun h=>by omega,fun i a hi=>?_⟩
      have:=(List.getElem?_eq_some_iff.1 hi).1
      omega
    | _=>cases hA
  obtain ⟨p,bl,o,cap,rfl,hp,hA⟩:=key
  refine (FS bl o cap l hl w hN.romOk hA p hp).mono ?_
  rintro e w' ⟨rfl,hb⟩
  exact ⟨_,rfl,hb,.tup _ _ (.cons _ _ _ _ (.str _) (.cons _ _ _ _ (.int _ _) .nil))⟩
def Eu:aU:=⟨fb,fun lent args=>match lent,args with
  | [],[.imm bw (.vs [.int .i64 k,.int .i64 m,.int .i64 n,.imm lv (.ns .u64 ws) 1 1 0 len,.int .i64 y,.int .u64 t]) 1 6 0 1] =>
    some [⟨⟨.tup [.str (dJ [⟨k,m,n,ws,y,t⟩]),.int .i64 (lX [⟨k,m,n,ws,y,t⟩])],[]⟩,[Nat.beq len ws.length]⟩]
  | _,_=>none⟩
theorem Ha:bc prog Eu:=by
  intro lent args alts a h ha ho
  simp only [Eu] at h
  split at h
  · simp only [Option.some.injEq] at h;subst h
    simp only [List.mem_singleton] at ha;subst ha
    rename_i bw k m n lv ws len y t
    have hlen:len=ws.length:=Nat.eq_of_beq_eq_true ho.1
    subst hlen
    refine Ia bw _ 1 6 [⟨k,m,n,ws,y,t⟩] (fun i a hi=>?_) (show 1≤1000000000 by omega)
    cases i with
    | zero=>cases hi;exact ⟨lv,rfl,rfl,rfl,rfl,rfl,rfl⟩
    | succ i=>simp at hi
  · cases h
end Go.Plb.Seat
namespace Go.Plb.Seat
open Go Go.Plb
set_option linter.unusedSimpArgs false
set_option linter.unusedVariables false
set_option maxRecDepth 100000
noncomputable def MB:List aU:=Eu::MA
theorem Lq:bh prog (bA MB):=aB Ha vZ
def NI:Option (nu×List Bool×dq)→Bool
  | some (⟨.bool _ true,[]⟩,o,_)=>Ix o
  | _=>false
theorem KK{r:Option (nu×List Bool×dq)}(h:NI r=true) :∃ k o p,r=some (⟨.bool k true,[]⟩,o,p)∧ak o:=by
  unfold NI at h
  split at h
  · exact ⟨_,_,_,rfl,C2 h⟩
  · cases h
theorem I7:NI (C8 C0 (bA MB) (oj C0 (bA MB) 50 100) oN [] [] none)=true:=by kernel_rfl
theorem Lr:am prog oN [] [] ⟨.bool false true,[]⟩:=by
  obtain ⟨k,o,p,h,ho⟩:=KK I7
  exact (am.run L8 Lq none _ _ h ho).weak (GJ _ _ _)
def Ev:aU:=⟨oN,fun L args=>match L,args with | [],[]=>one (.bool false true) [] | _,_=>none⟩
theorem Hb:bc prog Ev:=by
  intro L args alts a h ha ho
  simp only [Ev] at h
  split at h
  · exact IJ h ha ho fun q=>Lr
  · cases h
end Go.Plb.Seat
namespace Go.Plb.Seat
open Go Go.Plb
noncomputable def Nm:List aU:=Ev::tV
theorem Ib:bh prog (bA Nm):=aB Hb xz
end Go.Plb.Seat
namespace Go.Plb.Seat
open Go Go.Plb
set_option linter.unusedVariables false
set_option maxRecDepth 100000
noncomputable section
inductive aD where
  | r0 (i1:Int)
def mz:aD→AE×aH
  | .r0 i1=>(.ret,⟨ax 143 [(4,.int .i64 i1)],[],0⟩)
def cT:aD→nu
  | .r0 i1=>⟨.int .i64 i1,[]⟩
def lY(s_0:ByteArray)(substr_1:ByteArray) :T ((Empty)⊕(aD)) :=
  .ask (((substr_1.size:Nat):Int)==(0:Int))
    (.leaf (.inr (.r0 (0:Int))))
    (.ask (substr_1.toList==s_0.toList)
      (.leaf (.inr (.r0 (0:Int))))
      (.ask (((substr_1.size:Nat):Int)==(1:Int))
        (.need (qW (0:Int) substr_1.size)<|.leaf (.inr (.r0 (Fa s_0 (bG substr_1 0)))))
        (.ask (decide (((substr_1.size:Nat):Int)≥((s_0.size:Nat):Int)))
          (.leaf (.inr (.r0 (-1:Int))))
          (.fail))))
noncomputable def ah(s_0:ByteArray)(substr_1:ByteArray) :Option aD:=yF ((lY s_0 substr_1).run)
theorem lZ(s_0:ByteArray)(substr_1:ByteArray){x:aD}(h:ah s_0 substr_1=some x) :am prog eP [] [.str s_0,.str substr_1] (cT x) :=
  B3 false cT mz h (dt Ib yG [⟨[],[],[4]⟩,⟨[],[],[4]⟩,⟨[],[],[4]⟩,⟨[],[],[4]⟩])
    (fun x=>by cases x with | r0 i1=>exact sF [.int .i64 i1])
def aW:Option aD→Bool
  | some _=>true
  | none=>false
def ai:Option aD→Int
  | some (.r0 x)=>x
  | _=>0
theorem ma{x:Option aD}(h:aW x=true) :x=some (.r0 (ai x)):=by
  unfold aW at h
  split at h<;>first | rfl | (cases h;done) | (rename_i y;cases y;rfl)
noncomputable def eU:aU:=dG eP (.cons .str (.cons .str .nil)) fun t=>(fun q=>[⟨cT (.r0 (ai q)),[aW q]⟩]) (ah t.1 t.2.1)
theorem kL:bc prog eU:=bf fun t=>(bi (fun h=>lZ t.1 t.2.1 (ma h)) bZ)
noncomputable def eV:List aU:=eU::Nm
theorem co:bh prog (bA eV):=aB kL Ib
inductive bp where
  | r0 (i3:Int)
def jD:bp→AE×aH
  | .r0 i3=>(.ret,⟨ax 34 [(4,.int .i64 i3)],[],0⟩)
theorem pr:sC jD:=by intro x;cases x<;>(intro h;cases h)
theorem xF(id:Nat) :rx id jD:=by intro x;cases x<;>(intro h;cases h)
def mA:bp→nu
  | .r0 i3=>⟨.int .i64 i3,[]⟩
noncomputable def xG:List Code:=dk (uD mv)
def xH(s_0:ByteArray)(substr_1:ByteArray)(_:Unit) :aH:=⟨ax 34 [(0,.str s_0),(1,.str substr_1),(5,.int .i64 (0:Int))],[],0⟩
def xI(s_0:ByteArray)(substr_1:ByteArray) :T ((Unit)⊕(bp)) :=
  .ask (((substr_1.size:Nat):Int)==(0:Int))
    (.fail)
    (.ask (((substr_1.size:Nat):Int)==(1:Int))
      (.need (qW (0:Int) substr_1.size)<|.leaf (.inr (.r0 (Iw s_0 (bG substr_1 0)))))
      (.leaf (.inl ())))
def gV(substr_1:ByteArray) :ByteArray×Nat→aH:=fun (s1,n2)=>⟨ax 34 [(0,.str s1),(1,.str substr_1),(5,.int .i64 ((n2:Nat):Int))],[],0⟩
noncomputable def xJ:List Code:=dk (mw (((xG.drop 6)).headD .skip))
def xK(substr_1:ByteArray)(s1:ByteArray)(n2:Nat) :T ((ByteArray×Nat)⊕((Empty)⊕(bp))) :=
  .need (aW (ah s1 substr_1))<|.ask ((ai (ah s1 substr_1))==(-1:Int))
    (.leaf (.inr (.inr (.r0 ((n2:Nat):Int)))))
    (.need (kK .i64 (((n2+1):Nat):Int))<|.need (kK .i64 ((ai (ah s1 substr_1))+((substr_1.size:Nat):Int)))<|.need (pC ((s1.size:Nat):Int) s1.size)<|.need (pC ((ai (ah s1 substr_1))+((substr_1.size:Nat):Int)) s1.size)<|.leaf (.inl ((s1.extract (Int.toNat ((ai (ah s1 substr_1))+((substr_1.size:Nat):Int))) s1.size),(n2+1))))
noncomputable def kZ(substr_1:ByteArray) :ByteArray×Nat→Option ((ByteArray×Nat)⊕((Empty)⊕(bp))):=fun (s1,n2) =>
  (xK substr_1 s1 n2).run
theorem xL(substr_1:ByteArray)(s1:ByteArray)(n2:Nat) :Sg prog [] xJ (gV substr_1 (s1,n2)) (kZ substr_1 (s1,n2)) (gV substr_1) (fC (ρ:=Empty) 0 (fun a=>a.elim) jD):=by
  unfold kZ;exact dt co (gV substr_1) [⟨[],[],[4]⟩,⟨[],[],[0,1,5]⟩]
noncomputable def cU(s_0:ByteArray)(substr_1:ByteArray) :Option bp:=yF (bj ((xI s_0 substr_1).run) fun _ =>
  dH (kZ substr_1) (s_0,0))
theorem xM(s_0:ByteArray)(substr_1:ByteArray){x:bp}(h:cU s_0 substr_1=some x) :am prog mv [] [.str s_0,.str substr_1] (mA x) :=
  B3 false mA jD h (Sg.cut 6 pr (dt co (xH s_0 substr_1) [⟨[],[],[4]⟩,⟨[],[],[0,1,5]⟩]) (fun _=>Ma ⟨[],[],[0,1,5]⟩ (gV substr_1) (fun a:Empty=>a.elim) 0 pr (xF _) (fun ⟨s1,n2⟩=>xL substr_1 s1 n2)))
    (fun x=>by cases x with | r0 i3=>exact sF [.int .i64 i3])
def gW:Option bp→Bool
  | some _=>true
  | none=>false
def eu:Option bp→Int
  | some (.r0 x)=>x
  | _=>0
theorem xN{x:Option bp}(h:gW x=true) :x=some (.r0 (eu x)):=by
  unfold gW at h
  split at h<;>first | rfl | (cases h;done) | (rename_i y;cases y;rfl)
noncomputable def qF:aU:=dG mv (.cons .str (.cons .str .nil)) fun t=>(fun q=>[⟨mA (.r0 (eu q)),[gW q]⟩]) (cU t.1 t.2.1)
theorem uK:bc prog qF:=bf fun t=>(bi (fun h=>xM t.1 t.2.1 (xN h)) bZ)
noncomputable def qG:List aU:=qF::eV
theorem dv:bh prog (bA qG):=aB uK co
inductive aJ where
  | r0 (a11:Nat) (a12:Nat) (l13:List ByteArray)
def ez:aJ→AE×aH
  | .r0 a11 a12 l13=>(.ret,⟨ax 66 [(8,.sl 0 1 1 0 a11 a12)],[(0,.ss l13)],1⟩)
theorem dR:sC ez:=by intro x;cases x<;>(intro h;cases h)
theorem sN(id:Nat) :rx id ez:=by intro x;cases x<;>(intro h;cases h)
def jL:aJ→nu
  | .r0 a11 a12 l13=>⟨.sl 0 1 1 0 a11 a12,[some (.ss l13)]⟩
noncomputable def sO:List Code:=dk (uD jJ)
def sP(s_0:ByteArray)(sep_1:ByteArray)(sepSave_2:Int)(n1:Int) :aH:=⟨ax 66 [(0,.str s_0),(1,.str sep_1),(2,.int .i64 sepSave_2),(3,.int .i64 n1)],[],0⟩
def ic(s_0:ByteArray)(sep_1:ByteArray)(n_3:Int) :T ((Int)⊕(aJ)) :=
  .ask (n_3==(0:Int))
    (.leaf (.inr (.r0 0 0 ([]:List ByteArray))))
    (.ask (sep_1.toList==ByteArray.empty.toList)
      (.fail)
      (.ask (decide (n_3<(0:Int)))
        (.need (gW (cU s_0 sep_1))<|.need (kK .i64 ((eu (cU s_0 sep_1))+(1:Int)))<|.leaf (.inl ((eu (cU s_0 sep_1))+(1:Int))))
        (.leaf (.inl n_3))))
def sQ(s_0:ByteArray)(sep_1:ByteArray)(sepSave_2:Int) :Int×Nat×(List ByteArray)→aH:=fun (n2,a3,l4)=>⟨ax 66 [(0,.str s_0),(1,.str sep_1),(2,.int .i64 sepSave_2),(3,.int .i64 n2),(9,.sl 0 1 1 0 a3 a3),(10,.int .i64 (0:Int))],[(0,.ss l4)],1⟩
def ig(s_0:ByteArray)(n1:Int) :T ((Int×Nat×(List ByteArray))⊕(aJ)) :=
  .need (kK .i64 (((s_0.size+1):Nat):Int))<|.need (decide ((0:Int)≤(oF n1 (((s_0.size+1):Nat):Int))))<|.need (decide ((oF n1 (((s_0.size+1):Nat):Int))≤(oF n1 (((s_0.size+1):Nat):Int))))<|.need (decide ((16:Int)*(oF n1 (((s_0.size+1):Nat):Int))≤140737488355328))<|.need (kK .i64 (oF n1 (((s_0.size+1):Nat):Int)))<|.need (kK .i64 ((oF n1 (((s_0.size+1):Nat):Int))-(1:Int)))<|.leaf (.inl (((oF n1 (((s_0.size+1):Nat):Int))-(1:Int)),(Int.toNat (oF n1 (((s_0.size+1):Nat):Int))),(List.replicate (Int.toNat (oF n1 (((s_0.size+1):Nat):Int))) ByteArray.empty)))
def dS(sep_1:ByteArray)(sepSave_2:Int)(n2:Int)(a3:Nat) :ByteArray×Nat×(List ByteArray)→aH:=fun (s5,i6,l7)=>⟨ax 66 [(0,.str s5),(1,.str sep_1),(2,.int .i64 sepSave_2),(3,.int .i64 n2),(9,.sl 0 1 1 0 a3 a3),(10,.int .i64 ((i6:Nat):Int))],[(0,.ss l7)],1⟩
def mG(a3:Nat) :ByteArray×Nat×(List ByteArray)→aH:=fun (s8,i9,l10)=>⟨ax 66 [(0,.str s8),(9,.sl 0 1 1 0 a3 a3),(10,.int .i64 ((i9:Nat):Int))],[(0,.ss l10)],1⟩
noncomputable def rK:List Code:=dk (mw (((((sO.drop 7).drop 4).take 1)).headD .skip))
def mb(sep_1:ByteArray)(sepSave_2:Int)(n2:Int)(a3:Nat)(s5:ByteArray)(i6:Nat)(l7:List ByteArray) :T ((ByteArray×Nat×(List ByteArray))⊕((ByteArray×Nat×(List ByteArray))⊕(aJ))) :=
  .ask (decide (((i6:Nat):Int)<n2))
    (.need (aW (ah s5 sep_1))<|.ask (decide ((ai (ah s5 sep_1))<(0:Int)))
      (.leaf (.inr (.inl (s5,i6,l7))))
      (.need (kK .i64 ((ai (ah s5 sep_1))+sepSave_2))<|.need (pC ((ai (ah s5 sep_1))+sepSave_2) s5.size)<|.need (pC (0:Int) (Int.toNat ((ai (ah s5 sep_1))+sepSave_2)))<|.need (qW ((i6:Nat):Int) a3)<|.need (dn i6 (List.length l7))<|.need (kK .i64 ((ai (ah s5 sep_1))+((sep_1.size:Nat):Int)))<|.need (pC ((s5.size:Nat):Int) s5.size)<|.need (pC ((ai (ah s5 sep_1))+((sep_1.size:Nat):Int)) s5.size)<|.need (kK .i64 (((i6+1):Nat):Int))<|.leaf (.inl ((s5.extract (Int.toNat ((ai (ah s5 sep_1))+((sep_1.size:Nat):Int))) s5.size),(i6+1),(List.set l7 i6 (s5.extract 0 (Int.toNat ((ai (ah s5 sep_1))+sepSave_2))))))))
    (.leaf (.inr (.inl (s5,i6,l7))))
noncomputable def dK(sep_1:ByteArray)(sepSave_2:Int)(n2:Int)(a3:Nat) :ByteArray×Nat×(List ByteArray)→Option ((ByteArray×Nat×(List ByteArray))⊕((ByteArray×Nat×(List ByteArray))⊕(aJ))):=fun (s5,i6,l7) =>
  (mb sep_1 sepSave_2 n2 a3 s5 i6 l7).run
theorem rL(sep_1:ByteArray)(sepSave_2:Int)(n2:Int)(a3:Nat)(s5:ByteArray)(i6:Nat)(l7:List ByteArray) :Sg prog [] rK (dS sep_1 sepSave_2 n2 a3 (s5,i6,l7)) (dK sep_1 sepSave_2 n2 a3 (s5,i6,l7)) (dS sep_1 sepSave_2 n2 a3) (fC 0 (mG a3) ez):=by
  unfold dK;exact dt dv (dS sep_1 sepSave_2 n2 a3) [⟨[],[0],[0,9,10]⟩,⟨[],[0],[0,1,2,3,9,10]⟩,⟨[],[0],[0,9,10]⟩]
def fG(a3:Nat)(s8:ByteArray)(i9:Nat)(l10:List ByteArray) :T ((Empty)⊕(aJ)) :=
  .need (qW ((i9:Nat):Int) a3)<|.need (dn i9 (List.length l10))<|.need (kK .i64 (((i9+1):Nat):Int))<|.need (pC (((i9+1):Nat):Int) a3)<|.need (pC (0:Int) (i9+1))<|.leaf (.inr (.r0 (i9+1) a3 (List.set l10 i9 s8)))
noncomputable def aQ(s_0:ByteArray)(sep_1:ByteArray)(sepSave_2:Int)(n_3:Int) :Option aJ:=yF (bj ((ic s_0 sep_1 n_3).run) fun n1 =>
  bj ((ig s_0 n1).run) fun (n2,a3,l4) =>
  bj (dH (dK sep_1 sepSave_2 n2 a3) (s_0,0,l4)) fun (s8,i9,l10) =>
  (fG a3 s8 i9 l10).run)
theorem sR(s_0:ByteArray)(sep_1:ByteArray)(sepSave_2:Int)(n_3:Int){x:aJ}(h:aQ s_0 sep_1 sepSave_2 n_3=some x) :am prog jJ [] [.str s_0,.str sep_1,.int .i64 sepSave_2,.int .i64 n_3] (jL x) :=
  B3 false jL ez h (Sg.cut 7 dR (dt dv (sP s_0 sep_1 sepSave_2) [⟨[(.slot 8,.own 1 1 (.ss ([]:List ByteArray)))],[64],[8]⟩,⟨[],[],[0,1,2,3]⟩,⟨[],[],[0,1,2,3]⟩]) (fun n1=>Sg.cut 4 dR (dt dv (sQ s_0 sep_1 sepSave_2) [⟨[],[112],[0,1,2,3,9,10]⟩]) (fun ⟨n2,a3,l4⟩=>Sg.cut 1 dR (Ma ⟨[],[0],[0,1,2,3,9,10]⟩ (dS sep_1 sepSave_2 n2 a3) (mG a3) 0 dR (sN _) (fun ⟨s5,i6,l7⟩=>rL sep_1 sepSave_2 n2 a3 s5 i6 l7)) (fun ⟨s8,i9,l10⟩=>dt dv yG [⟨[],[0],[8]⟩]))))
    (fun x=>by cases x with | r0 a11 a12 l13=>exact sF [.sl 0 1 1 0 a11 a12])
def cW:Option aJ→Bool
  | some _=>true
  | none=>false
def dA:Option aJ→Nat
  | some (.r0 x _ _)=>x
  | _=>0
def dB:Option aJ→Nat
  | some (.r0 _ x _)=>x
  | _=>0
def dC:Option aJ→List ByteArray
  | some (.r0 _ _ x)=>x
  | _=>[]
theorem sS{x:Option aJ}(h:cW x=true) :x=some (.r0 (dA x) (dB x) (dC x)):=by
  unfold cW at h
  split at h<;>first | rfl | (cases h;done) | (rename_i y;cases y;rfl)
noncomputable def nK:aU:=dG jJ (.cons .str (.cons .str (.cons (.int .i64) (.cons (.int .i64) .nil)))) fun t=>(fun q=>[⟨jL (.r0 (dA q) (dB q) (dC q)),[cW q]⟩]) (aQ t.1 t.2.1 t.2.2.1 t.2.2.2.1)
theorem qT:bc prog nK:=bf fun t=>(bi (fun h=>sR t.1 t.2.1 t.2.2.1 t.2.2.2.1 (sS h)) bZ)
noncomputable def nL:List aU:=nK::qG
theorem bR:bh prog (bA nL):=aB qT dv
inductive aK where
  | r0 (i5:Int) (i6:Int) (i7:Int)
def nM:aK→AE×aH
  | .r0 i5 i6 i7=>(.ret,⟨ax 37 [(4,.ptr 0 1 0 0)],[(0,.vs [.int .i64 i5,.int .i64 (0:Int),.int .i64 (0:Int),.nsl,.int .i64 i6,.int .u64 i7])],1⟩)
theorem dT:sC nM:=by intro x;cases x<;>(intro h;cases h)
def jM:aK→nu
  | .r0 i5 i6 i7=>⟨.agg [.int .i64 i5,.int .i64 (0:Int),.int .i64 (0:Int),.nsl,.int .i64 i6,.int .u64 i7],[]⟩
def sT(v_0:Lv)(w_1:List ByteArray)(i_3:Int)(v_4:Lv)(s_5:ByteArray)(i_6:Int)(b_7:Bool)(b_8:Bool)(b1:Bool) :aH:=⟨ax 37 [(0,.imm v_0 (.ss w_1) 1 1 0 (List.length w_1)),(2,.iptr v_4 (.vs [.str s_5,.int .i64 i_6,.bool false b_7,.bool false b_8]) 1 0 0),(4,.ptr 0 1 0 0),(5,.ptr 1 1 0 0),(15,.bool false b1)],[(0,.vs [.int .i64 (0:Int),.int .i64 (0:Int),.int .i64 (0:Int),.nsl,.int .i64 (0:Int),.int .u64 (0:Int)]),(1,.vs [.int .i64 i_3,.int .i64 (0:Int),.int .i64 (0:Int),.nsl,.int .i64 (0:Int),.int .u64 (0:Int)])],2⟩
def mH(w_1:List ByteArray)(i_6:Int) :T ((Bool)⊕(aK)) :=
  .ask (decide (i_6>(0:Int)))
    (.leaf (.inl (decide ((((List.length w_1):Nat):Int)>(0:Int)))))
    (.leaf (.inl false))
def sU(v_0:Lv)(w_1:List ByteArray)(i_3:Int)(v_4:Lv)(s_5:ByteArray)(i_6:Int)(b_7:Bool)(b_8:Bool)(i2:Int) :aH:=⟨ax 37 [(0,.imm v_0 (.ss w_1) 1 1 0 (List.length w_1)),(2,.iptr v_4 (.vs [.str s_5,.int .i64 i_6,.bool false b_7,.bool false b_8]) 1 0 0),(4,.ptr 0 1 0 0),(5,.ptr 1 1 0 0)],[(0,.vs [.int .i64 (0:Int),.int .i64 (0:Int),.int .i64 (0:Int),.nsl,.int .i64 (0:Int),.int .u64 (0:Int)]),(1,.vs [.int .i64 i_3,.int .i64 (0:Int),.int .i64 (0:Int),.nsl,.int .i64 i2,.int .u64 (0:Int)])],2⟩
def sV(w_1:List ByteArray)(b1:Bool) :T ((Int)⊕(aK)) :=
  .ask b1
    (.need (qW (0:Int) (List.length w_1))<|.need (dn 0 (List.length w_1))<|.need (em (List.getD w_1 0 ByteArray.empty).size)<|.leaf (.inl (cV (List.getD w_1 0 ByteArray.empty))))
    (.leaf (.inl (0:Int)))
def sW(v_0:Lv)(w_1:List ByteArray)(i_3:Int)(i2:Int)(b3:Bool) :aH:=⟨ax 37 [(0,.imm v_0 (.ss w_1) 1 1 0 (List.length w_1)),(4,.ptr 0 1 0 0),(5,.ptr 1 1 0 0),(27,.bool false b3)],[(0,.vs [.int .i64 (0:Int),.int .i64 (0:Int),.int .i64 (0:Int),.nsl,.int .i64 (0:Int),.int .u64 (0:Int)]),(1,.vs [.int .i64 i_3,.int .i64 (0:Int),.int .i64 (0:Int),.nsl,.int .i64 i2,.int .u64 (0:Int)])],2⟩
def mI(w_1:List ByteArray)(b_7:Bool) :T ((Bool)⊕(aK)) :=
  .ask b_7
    (.leaf (.inl (decide ((((List.length w_1):Nat):Int)>(1:Int)))))
    (.leaf (.inl false))
def sX(i_3:Int)(i2:Int)(i4:Int) :aH:=⟨ax 37 [(4,.ptr 0 1 0 0),(5,.ptr 1 1 0 0)],[(0,.vs [.int .i64 (0:Int),.int .i64 (0:Int),.int .i64 (0:Int),.nsl,.int .i64 (0:Int),.int .u64 (0:Int)]),(1,.vs [.int .i64 i_3,.int .i64 (0:Int),.int .i64 (0:Int),.nsl,.int .i64 i2,.int .u64 i4])],2⟩
def sY(w_1:List ByteArray)(b3:Bool) :T ((Int)⊕(aK)) :=
  .ask b3
    (.need (qW (1:Int) (List.length w_1))<|.need (dn 1 (List.length w_1))<|.need (em (List.getD w_1 1 ByteArray.empty).size)<|.leaf (.inl (fE (List.getD w_1 1 ByteArray.empty))))
    (.leaf (.inl (0:Int)))
def rM(i_3:Int)(i2:Int)(i4:Int) :T ((Empty)⊕(aK)) :=
  .leaf (.inr (.r0 i_3 i2 i4))
noncomputable def bI(w_1:List ByteArray)(i_3:Int)(i_6:Int)(b_7:Bool) :Option aK:=yF (bj ((mH w_1 i_6).run) fun b1 =>
  bj ((sV w_1 b1).run) fun i2 =>
  bj ((mI w_1 b_7).run) fun b3 =>
  bj ((sY w_1 b3).run) fun i4 =>
  (rM i_3 i2 i4).run)
theorem sZ(v_0:Lv)(w_1:List ByteArray)(v_2:Lv)(i_3:Int)(v_4:Lv)(s_5:ByteArray)(i_6:Int)(b_7:Bool)(b_8:Bool){x:aK}(h:bI w_1 i_3 i_6 b_7=some x) :am prog cx [] [.imm v_0 (.ss w_1) 1 1 0 (List.length w_1),.iptr v_2 (.vs [.int .i64 i_3]) 1 0 0,.iptr v_4 (.vs [.str s_5,.int .i64 i_6,.bool false b_7,.bool false b_8]) 1 0 0] (jM x) :=
  B3 false jM nM h (Sg.cut 3 dT (dt bR (sT v_0 w_1 i_3 v_4 s_5 i_6 b_7 b_8) [⟨[],[0,48],[0,2,4,5,15]⟩,⟨[],[0,48],[0,2,4,5,15]⟩]) (fun b1=>Sg.cut 1 dT (dt bR (sU v_0 w_1 i_3 v_4 s_5 i_6 b_7 b_8) [⟨[],[0,1],[0,2,4,5]⟩,⟨[],[0,1],[0,2,4,5]⟩]) (fun i2=>Sg.cut 1 dT (dt bR (sW v_0 w_1 i_3 i2) [⟨[],[0,1],[0,4,5,27]⟩,⟨[],[0,1],[0,4,5,27]⟩]) (fun b3=>Sg.cut 1 dT (dt bR (sX i_3 i2) [⟨[],[0,1],[4,5]⟩,⟨[],[0,1],[4,5]⟩]) (fun i4=>dt bR yG [⟨[],[0],[4]⟩])))))
    (fun x=>by cases x with | r0 i5 i6 i7=>exact sF [.agg [.int .i64 i5,.int .i64 (0:Int),.int .i64 (0:Int),.nsl,.int .i64 i6,.int .u64 i7]])
def dU:Option aK→Bool
  | some _=>true
  | none=>false
def fg:Option aK→Int
  | some (.r0 x _ _)=>x
  | _=>0
def fh:Option aK→Int
  | some (.r0 _ x _)=>x
  | _=>0
def fi:Option aK→Int
  | some (.r0 _ _ x)=>x
  | _=>0
theorem ta{x:Option aK}(h:dU x=true) :x=some (.r0 (fg x) (fh x) (fi x)):=by
  unfold dU at h
  split at h<;>first | rfl | (cases h;done) | (rename_i y;cases y;rfl)
noncomputable def nN:aU:=dG cx (.cons .ss (.cons (.ivs (.cons (.int .i64) .nil) 1 0 0) (.cons (.ivs (.cons .str (.cons (.int .i64) (.cons .bool (.cons .bool .nil)))) 1 0 0) .nil))) fun t=>(fun q=>[⟨jM (.r0 (fg q) (fh q) (fi q)),[dU q]⟩]) (bI t.1.2 t.2.1.2.1 t.2.2.1.2.2.1 t.2.2.1.2.2.2.1)
theorem qU:bc prog nN:=bf fun t=>(bi (fun h=>sZ t.1.1 t.1.2 t.2.1.1 t.2.1.2.1 t.2.2.1.1 t.2.2.1.2.1 t.2.2.1.2.2.1 t.2.2.1.2.2.2.1 t.2.2.1.2.2.2.2.1 (ta h)) bZ)
noncomputable def nO:List aU:=nN::nL
theorem bS:bh prog (bA nO):=aB qU bR
inductive aR where
  | r0 (a13:Nat) (i14:Int) (i15:Int) (i17:Int)
def qH:aR→AE×aH
  | .r0 a13 i14 i15 i17=>(.ret,⟨ax 32 [(2,.ptr 0 1 0 0),(3,.int .i64 ((a13:Nat):Int))],[(0,.vs [.int .i64 i14,.int .i64 (0:Int),.int .i64 (0:Int),.nsl,.int .i64 i15,.int .u64 i17])],1⟩)
theorem gX:sC qH:=by intro x;cases x<;>(intro h;cases h)
def mB:aR→nu
  | .r0 a13 i14 i15 i17=>⟨.tup [.agg [.int .i64 i14,.int .i64 (0:Int),.int .i64 (0:Int),.nsl,.int .i64 i15,.int .u64 i17],.int .i64 ((a13:Nat):Int)],[]⟩
def xO(s_0:ByteArray) :Nat×Nat×(List ByteArray)→aH:=fun (w1,w2,l3)=>⟨ax 32 [(0,.str s_0),(2,.ptr 0 1 0 0),(4,.sl 1 1 1 0 w1 w2)],[(0,.vs [.int .i64 (0:Int),.int .i64 (0:Int),.int .i64 (0:Int),.nsl,.int .i64 (0:Int),.int .u64 (0:Int)]),(1,.ss l3)],2⟩
def lc(s_0:ByteArray) :T ((Nat×Nat×(List ByteArray))⊕(aR)) :=
  .need (cW (aQ s_0 (ByteArray.mk #[32]) (0:Int) (-1:Int)))<|.leaf (.inl ((dA (aQ s_0 (ByteArray.mk #[32]) (0:Int) (-1:Int))),(dB (aQ s_0 (ByteArray.mk #[32]) (0:Int) (-1:Int))),(dC (aQ s_0 (ByteArray.mk #[32]) (0:Int) (-1:Int)))))
def xP(s_0:ByteArray)(w1:Nat)(w2:Nat)(l3:List ByteArray) :Nat×ByteArray×Nat×Bool×Bool→aH:=fun (read4,read5,read6,read7,read8)=>⟨ax 32 [(0,.str s_0),(2,.ptr 0 1 0 0),(4,.sl 1 1 1 0 w1 w2),(5,.fn (.func cx) [] [.iptr .free (.vs [.int .i64 ((read4:Nat):Int)]) 1 0 0,.iptr .free (.vs [.str read5,.int .i64 ((read6:Nat):Int),.bool false read7,.bool false read8]) 1 0 0])],[(0,.vs [.int .i64 (0:Int),.int .i64 (0:Int),.int .i64 (0:Int),.nsl,.int .i64 (0:Int),.int .u64 (0:Int)]),(1,.ss l3)],2⟩
def pt(w1:Nat)(l3:List ByteArray) :T ((Nat×ByteArray×Nat×Bool×Bool)⊕(aR)) :=
  .need (qW (0:Int) w1)<|.need (dn 0 (List.length l3))<|.alt 0
    (.need (decide ((List.getD l3 0 ByteArray.empty)=(ByteArray.mk #[101,105,103,101,110])))<|.leaf (.inl (1,(ByteArray.mk #[101,105,103,101,110]),3,false,true)))
    (.alt 1
      (.need (decide ((List.getD l3 0 ByteArray.empty)=(ByteArray.mk #[118,97,108,117,101,115])))<|.leaf (.inl (2,(ByteArray.mk #[118,97,108,117,101,115]),0,false,true)))
      (.alt 2
        (.need (decide ((List.getD l3 0 ByteArray.empty)=(ByteArray.mk #[115,118,100])))<|.leaf (.inl (3,(ByteArray.mk #[115,118,100]),2,false,false)))
        (.alt 3
          (.need (decide ((List.getD l3 0 ByteArray.empty)=(ByteArray.mk #[114,97,110,107])))<|.leaf (.inl (4,(ByteArray.mk #[114,97,110,107]),2,true,false)))
          (.alt 4
            (.need (decide ((List.getD l3 0 ByteArray.empty)=(ByteArray.mk #[105,110,118,101,114,115,101])))<|.leaf (.inl (5,(ByteArray.mk #[105,110,118,101,114,115,101]),2,true,false)))
            (.alt 5
              (.need (decide ((List.getD l3 0 ByteArray.empty)=(ByteArray.mk #[99,111,110,100])))<|.leaf (.inl (6,(ByteArray.mk #[99,111,110,100]),2,false,false)))
              (.alt 6
                (.need (!(decide ((List.getD l3 0 ByteArray.empty)=(ByteArray.mk #[101,105,103,101,110]))))<|.need (!(decide ((List.getD l3 0 ByteArray.empty)=(ByteArray.mk #[118,97,108,117,101,115]))))<|.need (!(decide ((List.getD l3 0 ByteArray.empty)=(ByteArray.mk #[115,118,100]))))<|.need (!(decide ((List.getD l3 0 ByteArray.empty)=(ByteArray.mk #[114,97,110,107]))))<|.need (!(decide ((List.getD l3 0 ByteArray.empty)=(ByteArray.mk #[105,110,118,101,114,115,101]))))<|.need (!(decide ((List.getD l3 0 ByteArray.empty)=(ByteArray.mk #[99,111,110,100]))))<|.leaf (.inr (.r0 4 (0:Int) (0:Int) (0:Int))))
                (.fail)))))))
def xQ(s_0:ByteArray) :Int×Int×Int→aH:=fun (i9,i10,i11)=>⟨ax 32 [(0,.str s_0),(2,.ptr 0 1 0 0),(6,.ptr 1 1 0 0)],[(0,.vs [.int .i64 (0:Int),.int .i64 (0:Int),.int .i64 (0:Int),.nsl,.int .i64 (0:Int),.int .u64 (0:Int)]),(1,.vs [.int .i64 i9,.int .i64 (0:Int),.int .i64 (0:Int),.nsl,.int .i64 i10,.int .u64 i11])],2⟩
def ld(w1:Nat)(w2:Nat)(l3:List ByteArray)(read4:Nat)(read6:Nat)(read7:Bool) :T ((Int×Int×Int)⊕(aR)) :=
  .need (pC ((w1:Nat):Int) w2)<|.need (pC (1:Int) w1)<|.need (mr 1 (w1-1) l3)<|.need (dU (bI (aC 1 (w1-1) l3) ((read4:Nat):Int) ((read6:Nat):Int) read7))<|.leaf (.inl ((fg (bI (aC 1 (w1-1) l3) ((read4:Nat):Int) ((read6:Nat):Int) read7)),(fh (bI (aC 1 (w1-1) l3) ((read4:Nat):Int) ((read6:Nat):Int) read7)),(fi (bI (aC 1 (w1-1) l3) ((read4:Nat):Int) ((read6:Nat):Int) read7))))
def xR(i9:Int)(i10:Int)(i11:Int)(b12:Bool) :aH:=⟨ax 32 [(2,.ptr 0 1 0 0),(6,.ptr 1 1 0 0),(29,.bool false b12)],[(0,.vs [.int .i64 (0:Int),.int .i64 (0:Int),.int .i64 (0:Int),.nsl,.int .i64 (0:Int),.int .u64 (0:Int)]),(1,.vs [.int .i64 i9,.int .i64 (0:Int),.int .i64 (0:Int),.nsl,.int .i64 i10,.int .u64 i11])],2⟩
def lg(s_0:ByteArray)(i9:Int)(i10:Int)(i11:Int) :T ((Bool)⊕(aR)) :=
  .need (eS (du i9 i10 i11))<|.ask (!(fj (du i9 i10 i11)))
    (.leaf (.inl true))
    (.need (kz (jx i9 i10 i11))<|.leaf (.inl (!((kX (jx i9 i10 i11)).toList==s_0.toList))))
def wk(i9:Int)(i10:Int)(i11:Int)(b12:Bool) :T ((Empty)⊕(aR)) :=
  .ask b12
    (.leaf (.inr (.r0 4 (0:Int) (0:Int) (0:Int))))
    (.leaf (.inr (.r0 0 i9 i10 i11)))
noncomputable def aS(s_0:ByteArray) :Option aR:=yF (bj ((lc s_0).run) fun (w1,w2,l3) =>
  bj ((pt w1 l3).run) fun (read4,read5,read6,read7,read8) =>
  bj ((ld w1 w2 l3 read4 read6 read7).run) fun (i9,i10,i11) =>
  bj ((lg s_0 i9 i10 i11).run) fun b12 =>
  (wk i9 i10 i11 b12).run)
theorem xS(s_0:ByteArray){x:aR}(h:aS s_0=some x) :am prog qx [] [.str s_0] (mB x) :=
  B3 false mB qH h (Sg.cut 2 gX (dt bS (xO s_0) [⟨[],[0,48],[0,2,4]⟩]) (fun ⟨w1,w2,l3⟩=>Sg.cut 3 gX (dt bS (xP s_0 w1 w2 l3) [⟨[],[0,1],[0,2,4,5]⟩,⟨[],[0,1],[0,2,4,5]⟩,⟨[],[0,1],[0,2,4,5]⟩,⟨[],[0,1],[0,2,4,5]⟩,⟨[],[0,1],[0,2,4,5]⟩,⟨[],[0,1],[0,2,4,5]⟩,⟨[],[0],[2,3]⟩]) (fun ⟨read4,read5,read6,read7,read8⟩=>Sg.cut 1 gX (dt bS (xQ s_0) [⟨[],[0,66],[0,2,6]⟩]) (fun ⟨i9,i10,i11⟩=>Sg.cut 1 gX (dt bS (xR i9 i10 i11) [⟨[],[0,1],[2,6,29]⟩,⟨[],[0,1],[2,6,29]⟩]) (fun b12=>dt bS yG [⟨[],[0],[2,3]⟩,⟨[],[0],[2,3]⟩])))))
    (fun x=>by cases x with | r0 a13 i14 i15 i17=>exact sF [.agg [.int .i64 i14,.int .i64 (0:Int),.int .i64 (0:Int),.nsl,.int .i64 i15,.int .u64 i17],.int .i64 ((a13:Nat):Int)])
def ed:Option aR→Bool
  | some _=>true
  | none=>false
def eA:Option aR→Nat
  | some (.r0 x _ _ _)=>x
  | _=>0
def eB:Option aR→Int
  | some (.r0 _ x _ _)=>x
  | _=>0
def eC:Option aR→Int
  | some (.r0 _ _ x _)=>x
  | _=>0
def eD:Option aR→Int
  | some (.r0 _ _ _ x)=>x
  | _=>0
theorem xT{x:Option aR}(h:ed x=true) :x=some (.r0 (eA x) (eB x) (eC x) (eD x)):=by
  unfold ed at h
  split at h<;>first | rfl | (cases h;done) | (rename_i y;cases y;rfl)
noncomputable def qI:aU:=dG qx (.cons .str .nil) fun t=>(fun q=>[⟨mB (.r0 (eA q) (eB q) (eC q) (eD q)),[ed q]⟩]) (aS t.1)
theorem uL:bc prog qI:=bf fun t=>(bi (fun h=>xS t.1 (xT h)) bZ)
noncomputable def qJ:List aU:=qI::nO
theorem dw:bh prog (bA qJ):=aB uL bS
inductive bN where
  | r0 (b3:Bool)
def na:bN→AE×aH
  | .r0 b3=>(.ret,⟨ax 66 [(4,.bool false b3)],[],0⟩)
theorem lI:sC na:=by intro x;cases x<;>(intro h;cases h)
theorem CC(id:Nat) :rx id na:=by intro x;cases x<;>(intro h;cases h)
def qr:bN→nu
  | .r0 b3=>⟨.bool false b3,[]⟩
noncomputable def CD:List Code:=dk (uD qc)
def CE(a_0:Int)(a_1:Int)(a_2:Int)(v_3:Lv)(a_4:List Int)(a_5:Int)(a_6:Int)(b_7:Int)(b_8:Int)(b_9:Int)(v_10:Lv)(b_11:List Int)(b_12:Int)(b_13:Int)(b1:Bool) :aH:=⟨ax 66 [(2,.ptr 0 1 0 0),(3,.ptr 1 1 0 0),(47,.bool false b1)],[(0,.vs [.int .i64 a_0,.int .i64 a_1,.int .i64 a_2,.imm v_3 (.ns .u64 a_4) 1 1 0 (List.length a_4),.int .i64 a_5,.int .u64 a_6]),(1,.vs [.int .i64 b_7,.int .i64 b_8,.int .i64 b_9,.imm v_10 (.ns .u64 b_11) 1 1 0 (List.length b_11),.int .i64 b_12,.int .u64 b_13])],2⟩
def oU(a_0:Int)(a_1:Int)(a_2:Int)(a_4:List Int)(a_5:Int)(a_6:Int)(b_7:Int)(b_8:Int)(b_9:Int)(b_11:List Int)(b_12:Int)(b_13:Int) :T ((Bool)⊕(bN)) :=
  .ask (a_0 != b_7)
    (.leaf (.inl true))
    (.ask (a_1 != b_8)
      (.leaf (.inl true))
      (.ask (a_2 != b_9)
        (.leaf (.inl true))
        (.ask (a_5 != b_12)
          (.leaf (.inl true))
          (.ask (a_6 != b_13)
            (.leaf (.inl true))
            (.leaf (.inl ((((List.length a_4):Nat):Int) != (((List.length b_11):Nat):Int))))))))
def CF(a_0:Int)(a_1:Int)(a_2:Int)(v_3:Lv)(a_4:List Int)(a_5:Int)(a_6:Int)(b_7:Int)(b_8:Int)(b_9:Int)(v_10:Lv)(b_11:List Int)(b_12:Int)(b_13:Int)(_:Unit) :aH:=⟨ax 66 [(2,.ptr 0 1 0 0),(3,.ptr 1 1 0 0),(5,.int .i64 (0:Int))],[(0,.vs [.int .i64 a_0,.int .i64 a_1,.int .i64 a_2,.imm v_3 (.ns .u64 a_4) 1 1 0 (List.length a_4),.int .i64 a_5,.int .u64 a_6]),(1,.vs [.int .i64 b_7,.int .i64 b_8,.int .i64 b_9,.imm v_10 (.ns .u64 b_11) 1 1 0 (List.length b_11),.int .i64 b_12,.int .u64 b_13])],2⟩
def tX(b1:Bool) :T ((Unit)⊕(bN)) :=
  .ask b1
    (.leaf (.inr (.r0 false)))
    (.leaf (.inl ()))
def lJ(a_0:Int)(a_1:Int)(a_2:Int)(v_3:Lv)(a_4:List Int)(a_5:Int)(a_6:Int)(b_7:Int)(b_8:Int)(b_9:Int)(v_10:Lv)(b_11:List Int)(b_12:Int)(b_13:Int)(i2:Nat) :aH:=⟨ax 66 [(2,.ptr 0 1 0 0),(3,.ptr 1 1 0 0),(5,.int .i64 ((i2:Nat):Int))],[(0,.vs [.int .i64 a_0,.int .i64 a_1,.int .i64 a_2,.imm v_3 (.ns .u64 a_4) 1 1 0 (List.length a_4),.int .i64 a_5,.int .u64 a_6]),(1,.vs [.int .i64 b_7,.int .i64 b_8,.int .i64 b_9,.imm v_10 (.ns .u64 b_11) 1 1 0 (List.length b_11),.int .i64 b_12,.int .u64 b_13])],2⟩
def tY(_:Unit) :aH:=⟨ax 66 [],[],0⟩
noncomputable def Bm:List Code:=dk (mw (((((CD.drop 2).drop 2).take 1)).headD .skip))
def Bn(a_4:List Int)(b_11:List Int)(i2:Nat) :T ((Nat)⊕((Unit)⊕(bN))) :=
  .ask (decide (((i2:Nat):Int)<(((List.length a_4):Nat):Int)))
    (.need (qW ((i2:Nat):Int) (List.length a_4))<|.need (dn i2 (List.length a_4))<|.need (qW ((i2:Nat):Int) (List.length b_11))<|.need (dn i2 (List.length b_11))<|.ask ((List.getD a_4 i2 0) != (List.getD b_11 i2 0))
      (.leaf (.inr (.inr (.r0 false))))
      (.need (kK .i64 (((i2+1):Nat):Int))<|.leaf (.inl (i2+1))))
    (.leaf (.inr (.inl ())))
noncomputable def nP(a_4:List Int)(b_11:List Int) :Nat→Option ((Nat)⊕((Unit)⊕(bN))):=fun i2 =>
  (Bn a_4 b_11 i2).run
theorem Bo(a_0:Int)(a_1:Int)(a_2:Int)(v_3:Lv)(a_4:List Int)(a_5:Int)(a_6:Int)(b_7:Int)(b_8:Int)(b_9:Int)(v_10:Lv)(b_11:List Int)(b_12:Int)(b_13:Int)(i2:Nat) :Sg prog [] Bm (lJ a_0 a_1 a_2 v_3 a_4 a_5 a_6 b_7 b_8 b_9 v_10 b_11 b_12 b_13 i2) (nP a_4 b_11 i2) (lJ a_0 a_1 a_2 v_3 a_4 a_5 a_6 b_7 b_8 b_9 v_10 b_11 b_12 b_13) (fC 0 tY na):=by
  unfold nP;exact dt dw (lJ a_0 a_1 a_2 v_3 a_4 a_5 a_6 b_7 b_8 b_9 v_10 b_11 b_12 b_13) [⟨[],[],[4]⟩,⟨[],[0,1],[2,3,5]⟩,⟨[],[],[]⟩]
def Bp:T ((Empty)⊕(bN)) :=
  .leaf (.inr (.r0 true))
noncomputable def gY(a_0:Int)(a_1:Int)(a_2:Int)(a_4:List Int)(a_5:Int)(a_6:Int)(b_7:Int)(b_8:Int)(b_9:Int)(b_11:List Int)(b_12:Int)(b_13:Int) :Option bN:=yF (bj ((oU a_0 a_1 a_2 a_4 a_5 a_6 b_7 b_8 b_9 b_11 b_12 b_13).run) fun b1 =>
  bj ((tX b1).run) fun _ =>
  bj (dH (nP a_4 b_11) 0) fun _ =>
  (Bp).run)
theorem CG(a_0:Int)(a_1:Int)(a_2:Int)(v_3:Lv)(a_4:List Int)(a_5:Int)(a_6:Int)(b_7:Int)(b_8:Int)(b_9:Int)(v_10:Lv)(b_11:List Int)(b_12:Int)(b_13:Int){x:bN}(h:gY a_0 a_1 a_2 a_4 a_5 a_6 b_7 b_8 b_9 b_11 b_12 b_13=some x) :am prog qc [] [.agg [.int .i64 a_0,.int .i64 a_1,.int .i64 a_2,.imm v_3 (.ns .u64 a_4) 1 1 0 (List.length a_4),.int .i64 a_5,.int .u64 a_6],.agg [.int .i64 b_7,.int .i64 b_8,.int .i64 b_9,.imm v_10 (.ns .u64 b_11) 1 1 0 (List.length b_11),.int .i64 b_12,.int .u64 b_13]] (qr x) :=
  B3 false qr na h (Sg.cut 2 lI (dt dw (CE a_0 a_1 a_2 v_3 a_4 a_5 a_6 b_7 b_8 b_9 v_10 b_11 b_12 b_13) [⟨[],[0,16],[2,3,47]⟩,⟨[],[0,16],[2,3,47]⟩,⟨[],[0,16],[2,3,47]⟩,⟨[],[0,16],[2,3,47]⟩,⟨[],[0,16],[2,3,47]⟩,⟨[],[0,16],[2,3,47]⟩]) (fun b1=>Sg.cut 2 lI (dt dw (CF a_0 a_1 a_2 v_3 a_4 a_5 a_6 b_7 b_8 b_9 v_10 b_11 b_12 b_13) [⟨[],[],[4]⟩,⟨[],[0,1],[2,3,5]⟩]) (fun _=>Sg.cut 1 lI (Ma ⟨[],[0,1],[2,3,5]⟩ (lJ a_0 a_1 a_2 v_3 a_4 a_5 a_6 b_7 b_8 b_9 v_10 b_11 b_12 b_13) (tY) 0 lI (CC _) (fun i2=>Bo a_0 a_1 a_2 v_3 a_4 a_5 a_6 b_7 b_8 b_9 v_10 b_11 b_12 b_13 i2)) (fun _=>dt dw yG [⟨[],[],[4]⟩]))))
    (fun x=>by cases x with | r0 b3=>exact sF [.bool false b3])
def lK:Option bN→Bool
  | some _=>true
  | none=>false
def mC:Option bN→Bool
  | some (.r0 x)=>x
  | _=>false
theorem CH{x:Option bN}(h:lK x=true) :x=some (.r0 (mC x)):=by
  unfold lK at h
  split at h<;>first | rfl | (cases h;done) | (rename_i y;cases y;rfl)
noncomputable def wl:aU:=dG qc (.cons (.agg (.cons (.int .i64) (.cons (.int .i64) (.cons (.int .i64) (.cons (.ns .u64) (.cons (.int .i64) (.cons (.int .u64) .nil))))))) (.cons (.agg (.cons (.int .i64) (.cons (.int .i64) (.cons (.int .i64) (.cons (.ns .u64) (.cons (.int .i64) (.cons (.int .u64) .nil))))))) .nil)) fun t=>(fun q=>[⟨qr (.r0 (mC q)),[lK q]⟩]) (gY t.1.1 t.1.2.1 t.1.2.2.1 t.1.2.2.2.1.2 t.1.2.2.2.2.1 t.1.2.2.2.2.2.1 t.2.1.1 t.2.1.2.1 t.2.1.2.2.1 t.2.1.2.2.2.1.2 t.2.1.2.2.2.2.1 t.2.1.2.2.2.2.2.1)
theorem zl:bc prog wl:=bf fun t=>(bi (fun h=>CG t.1.1 t.1.2.1 t.1.2.2.1 t.1.2.2.2.1.1 t.1.2.2.2.1.2 t.1.2.2.2.2.1 t.1.2.2.2.2.2.1 t.2.1.1 t.2.1.2.1 t.2.1.2.2.1 t.2.1.2.2.2.1.1 t.2.1.2.2.2.1.2 t.2.1.2.2.2.2.1 t.2.1.2.2.2.2.2.1 (CH h)) bZ)
noncomputable def wm:List aU:=wl::qJ
theorem jE:bh prog (bA wm):=aB zl dw
end
end Go.Plb.Seat
namespace Go.Plb.Seat
open Go Go.Plb
set_option linter.unusedSimpArgs false
set_option linter.unusedVariables false
set_option maxRecDepth 100000
def jy(b:UInt8) :Bool:=(decide (48≤b.toNat)&&decide (b.toNat≤57))||(decide (65≤b.toNat)&&decide (b.toNat≤70))
def hv(b:UInt8) :Nat:=if b.toNat≤57 then b.toNat-48 else b.toNat-55
def kM(l:List UInt8) :Nat:=l.foldl (fun a b=>a*16+hv b) 0
theorem pu(b:UInt8) :jy b=true↔(48≤b.toNat∧b.toNat≤57)∨(65≤b.toNat∧b.toNat≤70):=by simp [jy]
theorem FU{b:UInt8}(h:jy b=true) :hv b<16:=by
  rw [pu] at h
  unfold hv
  split<;>omega
theorem NJ(l:List UInt8)(a:Nat) :l.foldl (fun a b=>a*16+hv b) a=a*16^l.length+kM l:=by
  unfold kM
  induction l generalizing a with
  | nil=>simp
  | cons b l ih =>
    rw [List.foldl_cons,List.foldl_cons,ih,ih (0*16+hv b),List.length_cons,Nat.pow_succ,Nat.add_mul,Nat.zero_mul,Nat.zero_add]
    have:a*16*16^l.length=a*(16^l.length*16):=by rw [Nat.mul_assoc,Nat.mul_comm 16]
    omega
theorem wn(a b:List UInt8) :kM (a++b)=kM a*16^b.length+kM b:=by
  rw [kM,List.foldl_append,NJ]
  rfl
theorem Ic:∀ l:List UInt8,(∀ c∈l,jy c=true)→kM l<16^l.length
  | [],_=>by simp [kM]
  | c::l,h=>by
    have h1:=Ic l fun x hx=>h x (List.mem_cons_of_mem _ hx)
    have h2:=FU (h c (List.mem_cons_self ..))
    have e:kM (c::l)=hv c*16^l.length+kM l:=by
      have:=wn [c] l
      simpa [kM] using this
    rw [e,List.length_cons,Nat.pow_succ]
    have:hv c*16^l.length≤15*16^l.length:=Nat.mul_le_mul_right _ (by omega)
    omega
theorem Hc{l:List UInt8}(h:∀ c∈l,jy c=true){j:Nat}{c:UInt8}(hj:l[j]? = some c) :kM l/16^(l.length-1-j)%16=hv c:=by
  have hlt:=(List.getElem?_eq_some_iff.1 hj).1
  have e:l=l.take j++[c]++l.drop (j+1):=by
    have h1:l.take (j+1)=l.take j++[c]:=by rw [List.take_add_one,hj];rfl
    rw [←h1,List.take_append_drop]
  have hd:=Ic (l.drop (j+1)) fun x hx=>h x (List.mem_of_mem_drop hx)
  have hl:(l.drop (j+1)).length=l.length-1-j:=by rw [List.length_drop];omega
  rw [hl] at hd
  have e2:kM l=(kM (l.take j)*16+hv c)*16^(l.length-1-j)+kM (l.drop (j+1)):=by
    conv=>lhs;rw [e]
    rw [wn,wn,hl]
    simp [kM]
  rw [e2,Nat.add_comm,Nat.add_mul_div_right _ _ (Nat.pow_pos (by decide)),Nat.div_eq_of_lt hd,Nat.zero_add,Nat.mul_comm,Nat.mul_add_mod]
  exact Nat.mod_eq_of_lt (FU (h c (List.mem_of_getElem? hj)))
theorem I8(w:Int) :∀ z∈AW w,∃ b:UInt8,jy b=true∧z=(b.toNat:Int):=by
  intro z hz
  simp only [AW,List.mem_map,List.mem_range] at hz
  obtain ⟨j,hj,rfl⟩:=hz
  have h:=Kv w j
  rw [Eq h]
  refine ⟨UInt8.ofNat (if dg w j<10 then 48+dg w j else 55+dg w j),?_,?_⟩
  · rw [pu]
    split<;>(rw [UInt8.toNat_ofNat'];omega)
  · split<;>(rw [UInt8.toNat_ofNat'];omega)
theorem rN(l:List Int) :(Aj l).data.toList=l.map fun n=>UInt8.ofNat n.toNat:=by
  have key:∀ (l:List Int) (r:ByteArray),(l.foldl (fun r n=>r.push (UInt8.ofNat n.toNat)) r).data.toList=r.data.toList++l.map fun n=>UInt8.ofNat n.toNat:=by
    intro l
    induction l with
    | nil=>intro r;simp
    | cons x l ih =>
      intro r
      rw [List.foldl_cons,ih]
      simp [ByteArray.push]
  have:=key l ByteArray.empty
  simpa [Aj] using this
theorem sI(w:Int) :∀ c∈(ba w).data.toList,jy c=true:=by
  intro c hc
  rw [ba,rN,List.mem_map] at hc
  obtain ⟨z,hz,rfl⟩:=hc
  obtain ⟨b,hb,rfl⟩:=I8 w z hz
  simpa using hb
theorem Ls{b:UInt8}(h:jy b=true) :Js (b.toNat:Int)=hv b:=by
  rw [pu] at h
  unfold Js hv
  repeat' split
  all_goals omega
theorem I9{a:Nat}(ha:a*16+15<18446744073709551616){b:UInt8}(h:jy b=true) :FG (a:Int) (b.toNat:Int)=((a*16+hv b:Nat):Int):=by
  have hb:=FU h
  unfold FG
  rw [Ls h]
  have w64:∀ n:Nat,n<18446744073709551616→IntKind.u64.wrap (n:Int)=(n:Int):=fun n hn=>by
    show ((n:Int)%18446744073709551616)=_
    omega
  have e1:bits .and .i64 ((hv b:Nat):Int) 15=((hv b:Nat):Int):=by
    have hall:∀ n:Fin 16,bits .and .i64 ((n.val:Nat):Int) 15=((n.val:Nat):Int):=by decide +kernel
    exact hall ⟨hv b,hb⟩
  have e2:((a:Int)*16)=((a*16:Nat):Int):=by omega
  rw [e1,e2,w64 _ (by omega),w64 _ (by omega)]
  show IntKind.u64.wrap ((BitVec.ofInt 64 ((a*16:Nat):Int) ||| BitVec.ofInt 64 ((hv b:Nat):Int)).toNat:Int)=_
  have e3:(BitVec.ofInt 64 ((a*16:Nat):Int) ||| BitVec.ofInt 64 ((hv b:Nat):Int)).toNat=a*16+hv b:=by
    rw [BitVec.toNat_or,BitVec.toNat_ofInt,BitVec.toNat_ofInt]
    have f1:(((a*16:Nat):Int)%((2^64:Nat):Int)).toNat=a*16:=by
      have:((2^64:Nat):Int)=18446744073709551616:=by decide
      rw [this];omega
    have f2:(((hv b:Nat):Int)%((2^64:Nat):Int)).toNat=hv b:=by
      have:((2^64:Nat):Int)=18446744073709551616:=by decide
      rw [this];omega
    rw [f1,f2]
    have:=Nat.two_pow_add_eq_or_of_lt (i:=4) (b:=hv b) (by omega) a
    rw [Nat.mul_comm a 16]
    exact this.symm
  rw [e3]
  exact w64 _ (by omega)
theorem xU(s:ByteArray)(hs:∀ c∈s.data.toList,jy c=true)(h16:s.size≤16) :∀ (f pos:Nat) (a:Nat),s.size≤pos+f→a<16^pos→lU s f pos (a:Int)=(((s.data.toList.drop pos).foldl (fun a b=>a*16+hv b) a:Nat):Int)
  | 0,pos,a,hf,_=>by
    rw [List.drop_of_length_le (by simp only [Array.length_toList];exact hf)]
    rfl
  | f + 1, pos, a, hf, ha => by
    by_cases hp:pos<s.size
    · have hp':pos<s.data.toList.length:=by simpa using hp
      have hc:jy (s[pos]'hp)=true:=hs _ (by simp [ByteArray.getElem_eq_getElem_data])
      have h1:=(pu _).1 hc
      have hdec:=decode_ascii s pos hp (by omega)
      have hlt:a*16+hv (s[pos]'hp)<16^(pos+1):=by
        have:=FU hc
        rw [Nat.pow_succ]
        omega
      have hbig:a*16+15<18446744073709551616:=by
        have h3:16^(pos+1)≤16^16:=Nat.pow_le_pow_right (by decide) (by omega)
        have h4:(16:Nat)^16=18446744073709551616:=by decide
        rw [Nat.pow_succ] at h3
        omega
      have ih:=xU s hs h16 f (pos+1) (a*16+hv (s[pos]'hp)) (by omega) hlt
      rw [lU,if_pos hp,hdec]
      show lU s f (pos+1) (FG (a:Int) (((s[pos]'hp).toNat:Nat):Int))=_
      rw [I9 hbig hc,ih,List.drop_eq_getElem_cons hp',List.foldl_cons]
      rfl
    · rw [Di s _ pos _ hp,List.drop_of_length_le (by simp only [Array.length_toList];exact Nat.le_of_not_lt hp)]
      rfl
theorem FV{s:ByteArray}(hs:∀ c∈s.data.toList,jy c=true)(h16:s.size=16) :ba ((kM s.data.toList:Nat):Int)=s:=by
  apply toList_inj
  rw [Lib.toList_data,Lib.toList_data,ba,rN,AW]
  have hl:s.data.toList.length=16:=by simpa using h16
  apply List.ext_getElem?
  intro j
  by_cases hj:j<16
  · obtain ⟨c,hc⟩:∃ c,s.data.toList[j]? = some c:=⟨_,List.getElem?_eq_getElem (by omega)⟩
    have hx:=hs c (List.mem_of_getElem? hc)
    have hd:=Hc hs hc
    rw [hl] at hd
    have hdg:dg ((kM s.data.toList:Nat):Int) j=hv c:=by
      unfold dg
      have e1:(2:Int)^(60-4*j)=((16^(16-1-j):Nat):Int):=by
        have:(60-4*j)=4*(16-1-j):=by omega
        rw [this,Int.pow_mul]
        simp
      rw [e1,Int.fdiv_eq_ediv_of_nonneg _ (Int.natCast_nonneg _),←Int.natCast_ediv,←hd]
      omega
    rw [hc,List.getElem?_map,List.getElem?_map,List.getElem?_range hj]
    show some (UInt8.ofNat (bG nD (dg _ j)).toNat)=some c
    rw [hdg,Eq (FU hx)]
    congr 1
    have hi:=(pu c).1 hx
    have e2:(if hv c<10 then (48+(hv c:Int)) else 55+(hv c:Int)).toNat=c.toNat:=by
      unfold hv
      split<;>split<;>omega
    rw [e2]
    exact UInt8.ofNat_toNat
  · rw [List.getElem?_eq_none (by simp;omega),List.getElem?_eq_none (by omega)]
theorem FW(s:ByteArray) :cH s=(decide (s.size=16)&&s.data.toList.all jy):=by
  by_cases h16:s.size=16
  · by_cases hs:∀ c∈s.data.toList,jy c=true
    · have hf:=xU s hs (by omega) s.size 0 0 (by omega) (by decide)
      have ht:=FV hs h16
      unfold cH
      rw [show ((0:Nat):Int)=0 from rfl] at hf
      rw [hf,List.drop_zero]
      rw [show (s.data.toList.foldl (fun a b=>a*16+hv b) 0)=kM s.data.toList from rfl,ht,decide_eq_true h16,decide_eq_true rfl,List.all_eq_true.2 hs]
    · have hn : ¬ ba (lU s s.size 0 0)=s:=fun e=>hs (e ▸ sI _)
      unfold cH
      rw [decide_eq_false hn,Bool.and_false]
      have:s.data.toList.all jy=false:=by
        cases hq:s.data.toList.all jy with
        | false=>rfl
        | true=>exact absurd (List.all_eq_true.1 hq) hs
      rw [this,Bool.and_false]
  · unfold cH
    rw [decide_eq_false h16]
    rfl
theorem Bq{s:ByteArray}(h:cH s=true) :fE s=(kM s.data.toList:Nat):=by
  have h1:=h
  rw [FW,Bool.and_eq_true,List.all_eq_true] at h1
  have h16:=of_decide_eq_true h1.1
  have hf:=xU s h1.2 (by omega) s.size 0 0 (by omega) (by decide)
  rw [show ((0:Nat):Int)=0 from rfl,List.drop_zero] at hf
  rw [fE,h]
  exact hf
end Go.Plb.Seat
namespace Go.Plb
set_option linter.unusedSimpArgs false
set_option linter.unusedVariables false
def aG:List UInt8→List (List UInt8)
  | []=>[[]]
  | c::r=>if c=32 then []::aG r else (c::(aG r).headD [])::(aG r).tail
theorem xV(r:List UInt8) :aG ((32:UInt8)::r)=[]::aG r:=by rw [aG];simp
theorem rO{b:UInt8}(h:b≠32)(r:List UInt8) :aG (b::r)=(b::(aG r).headD [])::(aG r).tail:=by rw [aG,if_neg h]
theorem Ja:∀ l,aG l≠[]
  | []=>by simp [aG]
  | c::r=>by unfold aG;split<;>simp
theorem rP(l:List UInt8) :aG l=(aG l).headD []::(aG l).tail:=by
  have:=Ja l
  cases h:aG l with
  | nil=>exact absurd h this
  | cons a b=>rfl
theorem fH:∀ l:List UInt8,(∀ c∈l,c≠32)→aG l=[l]
  | [],_=>rfl
  | c::r,h=>by
    have h1:=fH r fun x hx=>h x (List.mem_cons_of_mem _ hx)
    rw [rO (h c (List.mem_cons_self ..)),h1]
    rfl
theorem lh:∀ (a b:List UInt8),(∀ c∈a,c≠32)→aG (a++32::b)=a::aG b
  | [],b,_=>by simp [aG]
  | c::a,b,h=>by
    have h1:=lh a b fun x hx=>h x (List.mem_cons_of_mem _ hx)
    rw [List.cons_append,rO (h c (List.mem_cons_self ..)),h1]
    rfl
theorem uM:∀ l:List UInt8,Lib.indexByte l 32<0→∀ c∈l,c≠32
  | [],_,c,hc=>by cases hc
  | b::l,h,c,hc=>by
    unfold Lib.indexByte at h
    have hge:=Lib.indexByte_ge l 32
    split at h
    · omega
    · rename_i hb
      split at h
      · rename_i h1
        have h2:Lib.indexByte l 32<0:=by
          have:=eq_of_beq h1
          omega
        rcases List.mem_cons.1 hc with rfl | hc
        · simpa using hb
        · exact uM l h2 c hc
      · rename_i h1
        have h2:Lib.indexByte l 32 ≠ -1:=fun e=>h1 (by rw [e];rfl)
        omega
theorem uN:∀ (l:List UInt8) (n:Nat),Lib.indexByte l 32=(n:Int)→n<l.length∧l=l.take n++32::l.drop (n+1)∧∀ c∈l.take n,c≠32
  | [],n,h=>by simp [Lib.indexByte] at h
  | b::l,n,h=>by
    unfold Lib.indexByte at h
    have hge:=Lib.indexByte_ge l 32
    split at h
    · rename_i hb
      have hb:b=32:=eq_of_beq hb
      have:n=0:=by omega
      subst this
      subst hb
      exact ⟨by simp,by simp,fun c hc=>by simp at hc⟩
    · rename_i hb
      split at h
      · omega
      · rename_i h1
        obtain ⟨m,rfl⟩:∃ m,n=m+1:=⟨n-1,by
          have h2:Lib.indexByte l 32 ≠ -1:=fun e=>h1 (by rw [e];rfl)
          omega⟩
        obtain ⟨g1,g2,g3⟩:=uN l m (by omega)
        refine ⟨by simp;omega,?_,fun c hc=>?_⟩
        · rw [List.take_succ_cons,List.drop_succ_cons,List.cons_append,←g2]
        · rw [List.take_succ_cons] at hc
          rcases List.mem_cons.1 hc with rfl | hc
          · simpa using hb
          · exact g3 c hc
theorem yL:∀ (l:List UInt8) (c:UInt8),aG (l++[c])=if c=32 then aG l++[[]] else (aG l).dropLast++[((aG l).getLastD [])++[c]]
  | [],c=>by
    by_cases h:c=32
    · subst h;rfl
    · simp [aG,h]
  | b::l,c=>by
    have ih:=yL l c
    have hl:=rP l
    by_cases hb:b=32
    · subst hb
      have e1:∀ r,aG ((32:UInt8)::r)=[]::aG r:=fun r=>by rw [aG];simp
      rw [List.cons_append,e1,e1,ih]
      by_cases h:c=32
      · rw [if_pos h,if_pos h];rfl
      · rw [if_neg h,if_neg h,hl]
        simp [List.dropLast,List.getLastD]
    · have e1:∀ r,aG (b::r)=(b::(aG r).headD [])::(aG r).tail:=fun r=>by rw [aG,if_neg hb]
      rw [List.cons_append,e1,e1,ih]
      by_cases h:c=32
      · rw [if_pos h,if_pos h,hl]
        simp
      · rw [if_neg h,if_neg h,hl]
        generalize (aG l).headD []=x
        generalize (aG l).tail=y
        cases y with
        | nil=>simp
        | cons z y=>simp [List.dropLast,List.getLastD]
end Go.Plb
namespace Go.Plb.Seat
open Go Go.Plb
set_option linter.unusedSimpArgs false
set_option linter.unusedVariables false
set_option maxRecDepth 100000
def wo(l:List UInt8) :Bool:=decide (l.length=16)&&l.all jy
def eE:List (List UInt8)→Option (List Int)
  | []=>some []
  | w::r=>bif wo w then (eE r).map fun x=>((kM w:Nat):Int)::x else none
theorem kB(s:ByteArray) :cH s=wo s.data.toList:=by
  rw [FW]
  rfl
theorem cD(s:ByteArray)(a b:Nat) :(s.extract a b).data.toList=(s.data.toList.drop a).take (b-a):=by
  rw [ByteArray.data_extract,Array.toList_extract]
theorem wq:∀ (f:Nat) (s:ByteArray) (acc:List Int),s.size<f→xw f s acc=(eE (aG s.data.toList)).map fun x=>acc++x
  | 0,s,acc,h=>by omega
  | f + 1, s, acc, h => by
    unfold xw
    have hge:=Lib.indexByte_ge s.data.toList 32
    by_cases hneg:Lib.indexByte s.data.toList 32<0
    · rw [if_pos hneg,fH _ (uM _ hneg)]
      cases hr:cH s with
      | true =>
        have h1:=Bq hr
        rw [kB] at hr
        simp only [eE,hr,cond_true,if_true,Option.map_some,h1]
      | false =>
        rw [kB] at hr
        simp [eE,hr]
    · obtain ⟨n,hn⟩:=Int.eq_ofNat_of_zero_le (Int.not_lt.1 hneg)
      rw [if_neg hneg]
      simp only [hn,Int.toNat_natCast]
      obtain ⟨g1,g2,g3⟩:=uN _ n hn
      have hx:(s.extract 0 n).data.toList=s.data.toList.take n:=by rw [cD];simp
      have hy:(s.extract (n+1) s.size).data.toList=s.data.toList.drop (n+1):=by
        rw [cD]
        apply List.take_of_length_le
        rw [List.length_drop,Array.length_toList]
        exact Nat.le_refl _
      have hs:aG s.data.toList=s.data.toList.take n::aG (s.data.toList.drop (n+1)):=by
        conv=>lhs;rw [g2]
        exact lh _ _ g3
      show (if cH (s.extract 0 n)=true then _ else none)=_
      have hsz:(s.extract (n+1) s.size).size<f:=by
        have:s.data.toList.length=s.size:=by simp
        simp
        omega
      rw [hs]
      cases hr:cH (s.extract 0 n) with
      | true =>
        have h1:=Bq hr
        have h2:=hr
        rw [kB,hx] at h2
        rw [if_pos rfl,wq f _ _ hsz,hy,h1,hx]
        simp only [eE,h2,cond_true,Option.map_map]
        congr 1
        funext x
        simp
      | false =>
        have h2:=hr
        rw [kB,hx] at h2
        simp [eE,h2]
theorem qs(s:ByteArray) :nE s=eE (aG s.data.toList):=by
  unfold nE
  rw [wq _ _ _ (by omega)]
  cases eE (aG s.data.toList)<;>simp
def Br(s:ByteArray) :Nat→Nat×List ByteArray
  | 0=>(0,[])
  | j+1=>if j=s.size∨bG s j=32 then (j+1,(Br s j).2++[s.extract (Br s j).1 j]) else Br s j
def aA(s:ByteArray) :List ByteArray:=(Br s (s.size+1)).2
theorem Hd(s:ByteArray) :∀ j,(Br s j).1≤j∧(Br s j).2.length≤j
  | 0=>⟨Nat.le_refl _,Nat.le_refl _⟩
  | j+1=>by
    have:=Hd s j
    unfold Br
    split
    · exact ⟨Nat.le_refl _,by simp;omega⟩
    · exact ⟨by omega,by omega⟩
theorem Dm(s:ByteArray) :∀ j,j≤s.size→aG (s.data.toList.take j)=(Br s j).2.map (fun x=>x.data.toList)++[(s.data.toList.drop (Br s j).1).take (j-(Br s j).1)]
  | 0,_=>by simp [aG,Br]
  | j + 1, h => by
    have ih:=Dm s j (by omega)
    have hw:=Hd s j
    have hl:j<s.data.toList.length:=by simp;omega
    obtain ⟨b,hb⟩:∃ b,s.data.toList[j]? = some b:=⟨_,List.getElem?_eq_getElem hl⟩
    have ht:s.data.toList.take (j+1)=s.data.toList.take j++[b]:=by rw [List.take_add_one,hb];rfl
    have hby:bG s j=(b.toNat:Int):=by
      unfold bG
      rw [←Array.getElem?_toList,hb]
      rfl
    rw [ht,yL,ih]
    by_cases h32:b=32
    · have e1:Br s (j+1)=(j+1,(Br s j).2++[s.extract (Br s j).1 j]):=by rw [Br,if_pos (.inr (by rw [hby,h32];rfl))]
      rw [if_pos h32,e1]
      simp [cD]
    · have hne : ¬ (j=s.size∨bG s j=32):=by
        rintro (q | q)
        · omega
        · rw [hby] at q
          exact h32 (UInt8.toNat_inj.1 (by show b.toNat=32;omega))
      have e1:Br s (j+1)=Br s j:=by rw [Br,if_neg hne]
      rw [if_neg h32,e1,List.dropLast_concat]
      congr 1
      have e2:j+1-(Br s j).1=(j-(Br s j).1)+1:=by omega
      rw [e2,List.take_add_one,List.getElem?_drop]
      rw [show (Br s j).1+(j-(Br s j).1)=j by omega,hb]
      simp
theorem oy(s:ByteArray) :(aA s).map (fun x=>x.data.toList)=aG s.data.toList:=by
  have h:=Dm s s.size (Nat.le_refl _)
  rw [List.take_of_length_le (by simp)] at h
  unfold aA
  rw [Br,if_pos (.inl rfl),h]
  simp [cD]
theorem first_bad:∀ l:List UInt8,(∀ c∈l,jy c=true)∨∃ n c,l[n]? = some c∧¬ jy c=true∧∀ x∈l.take n,jy x=true
  | []=>.inl fun _ h=>by cases h
  | c::l=>by
    by_cases hc:jy c=true
    · rcases first_bad l with h | ⟨n,d,h1,h2,h3⟩
      · exact .inl fun x hx=>by
          rcases List.mem_cons.1 hx with rfl | hx
          · exact hc
          · exact h x hx
      · exact .inr ⟨n+1,d,by simpa using h1,h2,fun x hx=>by
          rw [List.take_succ_cons] at hx
          rcases List.mem_cons.1 hx with rfl | hx
          · exact hc
          · exact h3 x hx⟩
    · exact .inr ⟨0,c,rfl,hc,fun x hx=>by simp at hx⟩
def KL(x:ByteArray) :Int:=bif wo x.data.toList then ((kM x.data.toList:Nat):Int) else 0
theorem lm{a b:ByteArray}(h:a.data.toList=b.data.toList) :a=b:=by
  obtain ⟨a⟩:=a
  obtain ⟨b⟩:=b
  exact congrArg ByteArray.mk (Array.toList_inj.1 h)
theorem dO(a b:ByteArray) :(a.toList==b.toList)=decide (a=b):=by
  rw [Lib.toList_data,Lib.toList_data]
  by_cases h:a=b
  · rw [h,decide_eq_true rfl];simp
  · rw [decide_eq_false h,beq_eq_false_iff_ne]
    exact fun q=>h (lm q)
theorem Lt(s:ByteArray) :Fa s 32=Lib.indexByte s.data.toList 32:=Lib.firstIdx_eq s 32
theorem Lu(s:ByteArray) :Iw s 32=((s.data.toList.count 32:Nat):Int):=by
  have h:=Lib.count_foldl 32 s.data.toList 0
  rw [Int.zero_add] at h
  rw [←Lib.foldl_data] at h
  exact h
theorem ln:∀ l:List UInt8,(aG l).length=l.count 32+1
  | []=>rfl
  | c::r=>by
    have ih:=ln r
    by_cases h:c=32
    · subst h
      rw [xV,List.length_cons,ih,List.count_cons_self]
    · rw [rO h,List.length_cons,List.length_tail,ih,List.count_cons_of_ne (fun q=>h q)]
      omega
theorem KM(s:ByteArray) :ah s (ByteArray.mk #[32])=some (.r0 (Lib.indexByte s.data.toList 32)):=by
  unfold ah
  refine bW (cu ?_)
  by_cases h:s=ByteArray.mk #[32]
  · subst h
    exact eR (by rw [dO];exact decide_eq_true rfl) rfl
  · refine fw (by rw [dO];exact decide_eq_false fun q=>h q.symm) (ct (cj ?_))
    show some (Sum.inr (aD.r0 (Fa s 32)))=_
    rw [Lt]
theorem KN(s:ByteArray) :cU s (ByteArray.mk #[32])=some (.r0 ((s.data.toList.count 32:Nat):Int)):=by
  unfold cU
  refine bW (bT (cu (ct (cj ?_))))
  show some (Sum.inr (bp.r0 (Iw s 32)))=_
  rw [Lu]
def mc(s:ByteArray) :Nat→ByteArray×List ByteArray
  | 0=>(s,[])
  | j+1=>((mc s j).1.extract ((Lib.indexByte (mc s j).1.data.toList 32).toNat+1) (mc s j).1.size,(mc s j).2++[(mc s j).1.extract 0 (Lib.indexByte (mc s j).1.data.toList 32).toNat])
structure N6 (s:ByteArray) (j:Nat) (p:ByteArray×List ByteArray):Prop where
  rest:aG p.1.data.toList=(aG s.data.toList).drop j
  done:p.2.map (fun x=>x.data.toList)=(aG s.data.toList).take j
  len:p.2.length=j
  size:p.1.size≤s.size
theorem FX{s:ByteArray}{j:Nat}{r:ByteArray}(hr:aG r.data.toList=(aG s.data.toList).drop j)(hj:j<s.data.toList.count 32) :∃ n:Nat,Lib.indexByte r.data.toList 32=(n:Int)∧n<r.size∧r.data.toList=r.data.toList.take n++32::r.data.toList.drop (n+1)∧∀ c∈r.data.toList.take n,c≠32:=by
  have hge:=Lib.indexByte_ge r.data.toList 32
  by_cases hneg:Lib.indexByte r.data.toList 32<0
  · have h1:=fH _ (uM _ hneg)
    rw [hr] at h1
    have h2:=congrArg List.length h1
    rw [List.length_drop,ln] at h2
    simp only [List.length_cons,List.length_nil] at h2
    omega
  · obtain ⟨n,hn⟩:=Int.eq_ofNat_of_zero_le (Int.not_lt.1 hneg)
    have hn:Lib.indexByte r.data.toList 32=(n:Int):=hn
    obtain ⟨g1,g2,g3⟩:=uN _ n hn
    exact ⟨n,hn,by simpa using g1,g2,g3⟩
theorem KO(s:ByteArray) :∀ j,j≤s.data.toList.count 32→N6 s j (mc s j)
  | 0,_=>⟨rfl,rfl,rfl,Nat.le_refl _⟩
  | j+1,h=>by
    have ih:=KO s j (by omega)
    obtain ⟨n,hn,hl,hs,hb⟩:=FX ih.rest (by omega)
    have hsz:(mc s j).1.data.toList.length=(mc s j).1.size:=by simp
    have hx:((mc s j).1.extract 0 n).data.toList=(mc s j).1.data.toList.take n:=by rw [cD];simp
    have hy:((mc s j).1.extract (n+1) (mc s j).1.size).data.toList=(mc s j).1.data.toList.drop (n+1):=by
      rw [cD]
      apply List.take_of_length_le
      rw [List.length_drop]
      omega
    have hsp:aG (mc s j).1.data.toList=(mc s j).1.data.toList.take n::aG ((mc s j).1.data.toList.drop (n+1)):=by
      conv=>lhs;rw [hs]
      exact lh _ _ hb
    have hr:=ih.rest
    rw [hsp] at hr
    have hj:j<(aG s.data.toList).length:=by rw [ln];omega
    rw [List.drop_eq_getElem_cons hj] at hr
    injection hr with hr1 hr2
    have e1:(mc s (j+1)).1=(mc s j).1.extract (n+1) (mc s j).1.size:=by rw [mc,hn];rfl
    have e2:(mc s (j+1)).2=(mc s j).2++[(mc s j).1.extract 0 n]:=by rw [mc,hn];rfl
    refine ⟨?_,?_,?_,?_⟩
    · rw [e1,hy,hr2]
    · rw [e2,List.map_append,ih.done,List.take_add_one,List.getElem?_eq_getElem hj,List.map_cons,List.map_nil,hx,hr1]
      rfl
    · rw [e2,List.length_append,ih.len];rfl
    · rw [e1]
      have:=ih.size
      simp only [ByteArray.size_extract]
      omega
theorem rQ{s:ByteArray}{l:List ByteArray}(h:l.map (fun x=>x.data.toList)=aG s.data.toList) :l=aA s:=by
  rw [←oy] at h
  exact (List.map_inj_right fun x y q=>lm q).1 h
theorem pv(s:ByteArray) :(aA s).length=s.data.toList.count 32+1:=by
  have:=congrArg List.length (oy s)
  rwa [List.length_map,ln] at this
theorem yM(s:ByteArray)(hs:s.size≤1000000000) :aQ s (ByteArray.mk #[32]) 0 (-1)=some (.r0 (aA s).length (aA s).length (aA s)):=by
  have hc:s.data.toList.count 32≤s.size:=by
    have:=List.count_le_length (a:=(32:UInt8)) (l:=s.data.toList)
    simpa using this
  have hw:=pv s
  have hok:=KO s
  generalize s.data.toList.count 32=c at *
  unfold aQ
  have h8:(ic s (ByteArray.mk #[32]) (-1)).run=some (.inl ((c:Int)+1)):=by
    have hC:=KN s
    have:s.data.toList.count 32=c:=by have:=pv s;omega
    rw [this] at hC
    simp only [ic,hC]
    exact cu (fw (by rw [dO];decide) (ct (cj (au (by rw [bC];show _≤(c:Int)+1∧(c:Int)+1≤_;omega) rfl))))
  have h9:(ig s ((c:Int)+1)).run=some (.inl ((c:Int),c+1,List.replicate (c+1) ByteArray.empty)):=by
    have him:oF ((c:Int)+1) (((s.size+1:Nat)):Int)=((c+1:Nat):Int):=by
      unfold oF
      split<;>omega
    have e1:(((c+1:Nat):Int)-1)=(c:Int):=by omega
    simp only [ig,him,e1,Int.toNat_natCast]
    exact au (by rw [bC];omega) (au (decide_eq_true (by omega)) (au (decide_eq_true (by omega)) (au (decide_eq_true (by omega)) (au (by rw [bC];omega) (au (by rw [bC];omega) rfl)))))
  refine bW (an h8 (an h9 (an (a:=((mc s c).1,c,(mc s c).2++List.replicate 1 ByteArray.empty)) (jw (fun j=>((mc s j).1,j,(mc s j).2++List.replicate (c+1-j) ByteArray.empty)) c rfl (fun j hj=>?_) ?_) ?_)))
  · have H:=hok j (by omega)
    obtain ⟨n,hn,hl,hsp,hb⟩:=FX H.rest (by have:=pv s;omega)
    have hsz:=H.size
    have hlen:=H.len
    have e1:(mc s (j+1)).1=(mc s j).1.extract (n+1) (mc s j).1.size:=by rw [mc,hn];rfl
    have e2:(mc s (j+1)).2=(mc s j).2++[(mc s j).1.extract 0 n]:=by rw [mc,hn];rfl
    have e3:c+1-j=(c+1-(j+1))+1:=by omega
    have e4:List.set ((mc s j).2++List.replicate (c+1-j) ByteArray.empty) j ((mc s j).1.extract 0 n)=((mc s j).2++[(mc s j).1.extract 0 n])++List.replicate (c+1-(j+1)) ByteArray.empty:=by
      rw [List.set_append_right _ _ (by omega),hlen,Nat.sub_self,e3,List.replicate_succ,List.set_cons_zero]
      simp
    simp only [e1,e2,←e4]
    simp only [dK,mb,KM,hn]
    have n1:((n:Int)+0).toNat=n:=by omega
    have n2:((n:Int)+(((ByteArray.mk #[32]).size:Nat):Int)).toNat=n+1:=by show ((n:Int)+1).toNat=_;omega
    refine eR (decide_eq_true (by omega)) (cj (fw (decide_eq_false ?_) (au ?_ (au ?_ (au ?_ (au ?_ (au ?_ (au ?_ (au ?_ (au ?_ (au ?_ ?_)))))))))))
    · show ¬ (n:Int)<0;omega
    · rw [bC];show _≤(n:Int)+0∧(n:Int)+0≤_;omega
    · rw [qA];show 0≤(n:Int)+0∧(n:Int)+0≤_;omega
    · rw [qA];omega
    · rw [fD];omega
    · rw [aT,List.length_append,List.length_replicate];omega
    · rw [bC];show _≤(n:Int)+1∧(n:Int)+1≤_;omega
    · rw [qA];omega
    · rw [qA];show 0≤(n:Int)+1∧(n:Int)+1≤_;omega
    · rw [bC];omega
    · show some (Sum.inl ((mc s j).1.extract (((n:Int)+(((ByteArray.mk #[32]).size:Nat):Int)).toNat) (mc s j).1.size,j+1,List.set ((mc s j).2++List.replicate (c+1-j) ByteArray.empty) j ((mc s j).1.extract 0 ((n:Int)+0).toNat)))=_
      rw [n1,n2]
  · rw [show c+1-c=1 by omega]
    exact fw (decide_eq_false (by omega)) rfl
  · have H:=hok c (Nat.le_refl _)
    have hlen:=H.len
    have hcc:s.data.toList.count 32=c:=by have:=pv s;omega
    have h1:aG (mc s c).1.data.toList=[(mc s c).1.data.toList]:=by
      apply fH
      intro x hx q
      subst q
      have h2:=congrArg List.length H.rest
      rw [ln,List.length_drop,ln,hcc] at h2
      have:=List.count_pos_iff.2 hx
      omega
    have hf:(mc s c).2++[(mc s c).1]=aA s:=by
      apply rQ
      rw [List.map_append,H.done,List.map_cons,List.map_nil,←h1,H.rest,List.take_append_drop]
    have e4:List.set ((mc s c).2++List.replicate 1 ByteArray.empty) c (mc s c).1=aA s:=by
      rw [List.set_append_right _ _ (by omega),hlen,Nat.sub_self,←hf]
      rfl
    show (fG (c+1) (mc s c).1 c ((mc s c).2++List.replicate 1 ByteArray.empty)).run=_
    simp only [fG,e4,hw]
    exact au (by rw [fD];omega) (au (by rw [aT,List.length_append,List.length_replicate];omega) (au (by rw [bC];omega) (au (by rw [qA];omega) (au (by rw [qA];omega) rfl))))
theorem MC{n:Nat}(h:n<16) :hv (UInt8.ofNat (bG nD n).toNat)=n:=by
  have hall:∀ i:Fin 16,hv (UInt8.ofNat (bG nD i.val).toNat)=i.val:=by decide +kernel
  exact hall ⟨n,h⟩
theorem uO(w:Int) :(ba w).data.toList=(List.range 16).map fun j=>UInt8.ofNat (bG nD (dg w j)).toNat:=by
  rw [ba,rN,AW,List.map_map]
  rfl
theorem FY{w:Int}(h1:0≤w)(h2:w<18446744073709551616) :kM (ba w).data.toList=w.toNat:=by
  have key:∀ j,j≤16→kM ((ba w).data.toList.take j)=w.toNat/16^(16-j):=by
    intro j
    induction j with
    | zero =>
      intro _
      have:(16:Nat)^16=18446744073709551616:=by decide
      rw [List.take_zero,Nat.sub_zero,this,Nat.div_eq_of_lt (by omega)]
      rfl
    | succ j ih =>
      intro hj
      have hg:(ba w).data.toList[j]? = some (UInt8.ofNat (bG nD (dg w j)).toNat):=by
        rw [uO];simp [show j<16 by omega]
      have e:(ba w).data.toList.take (j+1)=(ba w).data.toList.take j++[UInt8.ofNat (bG nD (dg w j)).toNat]:=by rw [List.take_add_one,hg];rfl
      rw [e,wn,ih (by omega)]
      have hs:kM [UInt8.ofNat (bG nD (dg w j)).toNat]=dg w j:=by
        have:=MC (Kv w j)
        simp [kM,this]
      rw [hs]
      have hd:dg w j=w.toNat/16^(16-(j+1))%16:=by
        unfold dg
        have e1:(2:Int)^(60-4*j)=((16^(16-(j+1)):Nat):Int):=by
          have:(60-4*j)=4*(16-(j+1)):=by omega
          rw [this,Int.pow_mul]
          simp
        obtain ⟨n,rfl⟩:=Int.eq_ofNat_of_zero_le h1
        rw [e1,Int.fdiv_eq_ediv_of_nonneg _ (Int.natCast_nonneg _),←Int.natCast_ediv,Int.toNat_natCast]
        omega
      have hp:16^(16-j)=16^(16-(j+1))*16:=by rw [←Nat.pow_succ];congr 1;omega
      rw [hd,hp,←Nat.div_div_eq_div_mul,List.length_singleton,Nat.pow_one]
      omega
  have:=key 16 (Nat.le_refl _)
  have hl:(ba w).data.toList.length=16:=by rw [uO];simp
  rw [List.take_of_length_le (by omega)] at this
  simpa using this
theorem Id(w:Int) :wo (ba w).data.toList=true:=by
  have hl:(ba w).data.toList.length=16:=by rw [uO];simp
  unfold wo
  rw [decide_eq_true hl,List.all_eq_true.2 (sI w)]
  rfl
theorem Dn{w:Int}(h1:0≤w)(h2:w<18446744073709551616) :KL (ba w)=w:=by
  unfold KL
  rw [Id,cond_true,FY h1 h2]
  omega
theorem He(s:ByteArray) :fE s=KL s:=by
  unfold KL
  rw [←kB]
  cases h:cH s with
  | true=>exact Bq h
  | false=>rw [fE,h];rfl
theorem oz{k y t:Int}(h:ff k y t=true) :(k=1∧(y=1∨y=2∨y=3)∧t=0)∨(k=2∧y=0∧t=0)∨(k=3∧(y=1∨y=2)∧t=0)∨(k=4∧(y=1∨y=2))∨(k=5∧(y=1∨y=2))∨(k=6∧(y=1∨y=2)∧t=0):=by
  have g:∀ {a b:Bool},(bif a then b else false)=true→a=true∧b=true:=by intro a b;cases a<;>cases b<;>simp
  have m3:oF 1 ((3:Nat):Int)=1:=by decide
  have m2:oF 1 ((2:Nat):Int)=1:=by decide
  have m0:oF 1 ((0:Nat):Int)=0:=by decide
  unfold ff at h
  obtain ⟨h1,h⟩:=g h
  obtain ⟨h2,h⟩:=g h
  obtain ⟨h3,h⟩:=g h
  have h2:=of_decide_eq_true h2
  have h3:=of_decide_eq_true h3
  by_cases k1:k=1
  · subst k1
    have e:nJ 1=(true,ByteArray.mk #[101,105,103,101,110],3,false,true):=rfl
    rw [e] at h h2 h3
    simp only [m3,cond_false,beq_iff_eq] at h h2 h3
    exact .inl ⟨rfl,by omega,h⟩
  by_cases k2:k=2
  · subst k2
    have e:nJ 2=(true,ByteArray.mk #[118,97,108,117,101,115],0,false,true):=rfl
    rw [e] at h h2 h3
    simp only [m0,cond_false,beq_iff_eq] at h h2 h3
    exact .inr (.inl ⟨rfl,by omega,h⟩)
  by_cases k3:k=3
  · subst k3
    have e:nJ 3=(true,ByteArray.mk #[115,118,100],2,false,false):=rfl
    rw [e] at h h2 h3
    simp only [m2,cond_false,beq_iff_eq] at h h2 h3
    exact .inr (.inr (.inl ⟨rfl,by omega,h⟩))
  by_cases k4:k=4
  · subst k4
    have e:nJ 4=(true,ByteArray.mk #[114,97,110,107],2,true,false):=rfl
    rw [e] at h h2 h3
    simp only [m2] at h h2 h3
    exact .inr (.inr (.inr (.inl ⟨rfl,by omega⟩)))
  by_cases k5:k=5
  · subst k5
    have e:nJ 5=(true,ByteArray.mk #[105,110,118,101,114,115,101],2,true,false):=rfl
    rw [e] at h h2 h3
    simp only [m2] at h h2 h3
    exact .inr (.inr (.inr (.inr (.inl ⟨rfl,by omega⟩))))
  by_cases k6:k=6
  · subst k6
    have e:nJ 6=(true,ByteArray.mk #[99,111,110,100],2,false,false):=rfl
    rw [e] at h h2 h3
    simp only [m2,cond_false,beq_iff_eq] at h h2 h3
    exact .inr (.inr (.inr (.inr (.inr ⟨rfl,by omega,h⟩))))
  simp [nJ,k1,k2,k3,k4,k5,k6] at h1
def px(w:ByteArray) :Nat:=if w=ByteArray.mk #[101,105,103,101,110] then 1 else if w=ByteArray.mk #[118,97,108,117,101,115] then 2 else if w=ByteArray.mk #[115,118,100] then 3 else if w=ByteArray.mk #[114,97,110,107] then 4 else if w=ByteArray.mk #[105,110,118,101,114,115,101] then 5 else if w=ByteArray.mk #[99,111,110,100] then 6 else 0
theorem Bs(a b:List UInt8)(ha:∀ c∈a,c≠32)(hb:∀ c∈b,c≠32) :aG (a++32::b)=[a,b]:=by rw [lh _ _ ha,fH _ hb]
theorem Ew(a b d:List UInt8)(ha:∀ c∈a,c≠32)(hb:∀ c∈b,c≠32)(hd:∀ c∈d,c≠32) :aG (a++32::(b++32::d))=[a,b,d]:=by rw [lh _ _ ha,Bs _ _ hb hd]
theorem Bt{y:Int}(h:y=1∨y=2∨y=3) :∀ c∈(bP y).data.toList,c≠32:=by
  rcases h with rfl | rfl | rfl<;>decide +kernel
theorem Bu(t:Int) :∀ c∈(ba t).data.toList,c≠32:=by
  intro c hc q
  subst q
  have:=sI t _ hc
  revert this
  decide
theorem Jb(w v:ByteArray)(hw:∀ c∈w.data.toList,c≠32)(hv:∀ c∈v.data.toList,c≠32) :aA (w++(xA++v))=[w,v]:=by
  symm
  apply rQ
  have e:(w++(xA++v)).data.toList=w.data.toList++32::v.data.toList:=by simp [xA]
  rw [e,Bs _ _ hw hv]
  rfl
theorem FZ(w v u:ByteArray)(hw:∀ c∈w.data.toList,c≠32)(hv:∀ c∈v.data.toList,c≠32)(hu:∀ c∈u.data.toList,c≠32) :aA ((w++(xA++v))++(xA++u))=[w,v,u]:=by
  symm
  apply rQ
  have e:((w++(xA++v))++(xA++u)).data.toList=w.data.toList++32::(v.data.toList++32::u.data.toList):=by simp [xA]
  rw [e,Ew _ _ _ hw hv hu]
  rfl
theorem Jc(w:ByteArray)(hw:∀ c∈w.data.toList,c≠32) :aA w=[w]:=by
  symm
  apply rQ
  rw [fH _ hw]
  rfl
def yS(k:Nat)(l:List ByteArray) :Int:=bif decide (((nJ k).2.2.1:Int)>0)&&decide (((l.length-1:Nat):Int)>0) then cV (l.getD 1 ByteArray.empty) else 0
def tS(k:Nat)(l:List ByteArray) :Int:=bif (nJ k).2.2.2.1&&decide (((l.length-1:Nat):Int)>1) then fE (l.getD 2 ByteArray.empty) else 0
def yR(l:List ByteArray) :Int:=bif decide ((l.length:Int)>1)&&(((l.getD 1 ByteArray.empty).size:Int)==1) then IntKind.i64.wrap (bG (l.getD 1 ByteArray.empty) 0)-48 else 0
def tR(l:List ByteArray) :Int:=bif decide ((l.length:Int)>2) then KL (l.getD 2 ByteArray.empty) else 0
theorem Ie{y:Int}(h:y=1∨y=2∨y=3) :cV (bP y)=y∧((bP y).size:Int)=1∧IntKind.i64.wrap (bG (bP y) 0)-48=y:=by
  rcases h with rfl | rfl | rfl<;>decide +kernel
def Hf(k:Nat)(y t:Int)(l:List ByteArray) :Prop:=px (l.getD 0 ByteArray.empty)=k∧yS k l=y∧tS k l=t∧yR l=y∧tR l=t
theorem Bv{k:Nat}{y t:Int}(w:ByteArray)(hw:∀ c∈w.data.toList,c≠32)(hk:px w=k)(hy:y=1∨y=2∨y=3)(ht:t=0)(hn:(nJ k).2.2.1≠0)(hb:(nJ k).2.2.2.1=false) :Hf k y t (aA (w++(xA++bP y))):=by
  obtain ⟨n1,n2,n3⟩:=Ie hy
  rw [Jb _ _ hw (Bt hy)]
  refine ⟨hk,?_,?_,?_,?_⟩
  · unfold yS
    rw [decide_eq_true (show ((nJ (k:Int)).2.2.1:Int)>0 by omega)]
    exact n1
  · unfold tS
    rw [hb,ht]
    rfl
  · unfold yR
    simp only [List.getD_cons_succ,List.getD_cons_zero,n2,n3]
    rfl
  · rw [ht]
    rfl
theorem Bw{k:Nat}{y t:Int}(w:ByteArray)(hw:∀ c∈w.data.toList,c≠32)(hk:px w=k)(hy:y=1∨y=2∨y=3)(h1:0≤t)(h2:t<18446744073709551616)(hn:(nJ k).2.2.1≠0)(hb:(nJ k).2.2.2.1=true) :Hf k y t (aA ((w++(xA++bP y))++(xA++ba t))):=by
  obtain ⟨n1,n2,n3⟩:=Ie hy
  rw [FZ _ _ _ hw (Bt hy) (Bu t)]
  refine ⟨hk,?_,?_,?_,?_⟩
  · unfold yS
    rw [decide_eq_true (show ((nJ (k:Int)).2.2.1:Int)>0 by omega)]
    exact n1
  · unfold tS
    simp only [hb,List.length_cons,List.length_nil,List.getD_cons_succ,List.getD_cons_zero,He,Dn h1 h2]
    rfl
  · unfold yR
    simp only [List.getD_cons_succ,List.getD_cons_zero,n2,n3]
    rfl
  · unfold tR
    simp only [List.length_cons,List.length_nil,List.getD_cons_succ,List.getD_cons_zero,Dn h1 h2]
    rfl
theorem NK{k:Nat}{y t:Int}(h:ff k y t=true)(h1:0≤t)(h2:t<18446744073709551616) :Hf k y t (aA (fk k y t)):=by
  rcases oz h with ⟨e,hh,ht⟩ | ⟨e,rfl,rfl⟩ | ⟨e,hh,ht⟩ | ⟨e,hh⟩ | ⟨e,hh⟩ | ⟨e,hh,ht⟩
  · have e:k=1:=by omega
    subst e
    exact Bv (ByteArray.mk #[101,105,103,101,110]) (by decide) rfl hh ht (by decide) rfl
  · have e:k=2:=by omega
    subst e
    have hl:fk ((2:Nat):Int) 0 0=ByteArray.mk #[118,97,108,117,101,115]:=rfl
    rw [hl,Jc _ (by decide)]
    exact ⟨rfl,rfl,rfl,rfl,rfl⟩
  · have e:k=3:=by omega
    subst e
    exact Bv (ByteArray.mk #[115,118,100]) (by decide) rfl (by omega) ht (by decide) rfl
  · have e:k=4:=by omega
    subst e
    exact Bw (ByteArray.mk #[114,97,110,107]) (by decide) rfl (by omega) h1 h2 (by decide) rfl
  · have e:k=5:=by omega
    subst e
    exact Bw (ByteArray.mk #[105,110,118,101,114,115,101]) (by decide) rfl (by omega) h1 h2 (by decide) rfl
  · have e:k=6:=by omega
    subst e
    exact Bv (ByteArray.mk #[99,111,110,100]) (by decide) rfl (by omega) ht (by decide) rfl
def MZ(s:ByteArray)(k:Nat)(y t:Int) :Bool:=ff k y t&&decide (fk k y t=s)
def CI(s:ByteArray) :Option (Nat×Int×Int) :=
  let l:=aA s
  let k:=px (l.getD 0 ByteArray.empty)
  bif MZ s k (yS k l) (tS k l) then some (k,yS k l,tS k l) else none
end Go.Plb.Seat
namespace Go.Plb.Seat
open Go Go.Plb
set_option linter.unusedVariables false
set_option maxRecDepth 100000
noncomputable section
inductive bJ where
  | r0 (b2:Bool)
def kC:bJ→AE×aH
  | .r0 b2=>(.ret,⟨ax 26 [(4,.bool false b2)],[],0⟩)
theorem mD:sC kC:=by intro x;cases x<;>(intro h;cases h)
theorem zm(id:Nat) :rx id kC:=by intro x;cases x<;>(intro h;cases h)
def nQ:bJ→nu
  | .r0 b2=>⟨.bool false b2,[]⟩
noncomputable def zn:List Code:=dk (uD nC)
def zo(v_0:Lv)(s_1:List Int)(v_2:Lv)(s_3:List Int)(_:Unit) :aH:=⟨ax 26 [(0,.imm v_0 (.ns .u64 s_1) 1 1 0 (List.length s_1)),(1,.imm v_2 (.ns .u64 s_3) 1 1 0 (List.length s_3)),(12,.int .i64 (((List.length s_1):Nat):Int)),(13,.int .i64 (0:Int))],[],0⟩
def qK(s_1:List Int)(s_3:List Int) :T ((Unit)⊕(bJ)) :=
  .ask ((((List.length s_1):Nat):Int) != (((List.length s_3):Nat):Int))
    (.leaf (.inr (.r0 false)))
    (.leaf (.inl ()))
def jF(v_0:Lv)(s_1:List Int)(v_2:Lv)(s_3:List Int)(a1:Nat) :aH:=⟨ax 26 [(0,.imm v_0 (.ns .u64 s_1) 1 1 0 (List.length s_1)),(1,.imm v_2 (.ns .u64 s_3) 1 1 0 (List.length s_3)),(12,.int .i64 (((List.length s_1):Nat):Int)),(13,.int .i64 ((a1:Nat):Int))],[],0⟩
def qL(_:Unit) :aH:=⟨ax 26 [],[],0⟩
noncomputable def zp:List Code:=dk (mw ((((zn.drop 4).take 1)).headD .skip))
def zq(s_1:List Int)(s_3:List Int)(a1:Nat) :T ((Nat)⊕((Unit)⊕(bJ))) :=
  .ask (decide (((a1:Nat):Int)<(((List.length s_1):Nat):Int)))
    (.need (qW ((a1:Nat):Int) (List.length s_1))<|.need (dn a1 (List.length s_1))<|.need (qW ((a1:Nat):Int) (List.length s_3))<|.need (dn a1 (List.length s_3))<|.ask ((List.getD s_1 a1 0) != (List.getD s_3 a1 0))
      (.leaf (.inr (.inr (.r0 false))))
      (.need (kK .i64 (((a1+1):Nat):Int))<|.leaf (.inl (a1+1))))
    (.leaf (.inr (.inl ())))
noncomputable def lp(s_1:List Int)(s_3:List Int) :Nat→Option ((Nat)⊕((Unit)⊕(bJ))):=fun a1 =>
  (zq s_1 s_3 a1).run
theorem xW(v_0:Lv)(s_1:List Int)(v_2:Lv)(s_3:List Int)(a1:Nat) :Sg prog [] zp (jF v_0 s_1 v_2 s_3 a1) (lp s_1 s_3 a1) (jF v_0 s_1 v_2 s_3) (fC 0 qL kC):=by
  unfold lp;exact dt jE (jF v_0 s_1 v_2 s_3) [⟨[],[],[4]⟩,⟨[],[],[0,1,12,13]⟩,⟨[],[],[]⟩]
def xX:T ((Empty)⊕(bJ)) :=
  .leaf (.inr (.r0 true))
noncomputable def ee(s_1:List Int)(s_3:List Int) :Option bJ:=yF (bj ((qK s_1 s_3).run) fun _ =>
  bj (dH (lp s_1 s_3) 0) fun _ =>
  (xX).run)
theorem zr(v_0:Lv)(s_1:List Int)(v_2:Lv)(s_3:List Int){x:bJ}(h:ee s_1 s_3=some x) :am prog nC [] [.imm v_0 (.ns .u64 s_1) 1 1 0 (List.length s_1),.imm v_2 (.ns .u64 s_3) 1 1 0 (List.length s_3)] (nQ x) :=
  B3 false nQ kC h (Sg.cut 4 mD (dt jE (zo v_0 s_1 v_2 s_3) [⟨[],[],[4]⟩,⟨[],[],[0,1,12,13]⟩]) (fun _=>Sg.cut 1 mD (Ma ⟨[],[],[0,1,12,13]⟩ (jF v_0 s_1 v_2 s_3) (qL) 0 mD (zm _) (fun a1=>xW v_0 s_1 v_2 s_3 a1)) (fun _=>dt jE yG [⟨[],[],[4]⟩])))
    (fun x=>by cases x with | r0 b2=>exact sF [.bool false b2])
def jG:Option bJ→Bool
  | some _=>true
  | none=>false
def kD:Option bJ→Bool
  | some (.r0 x)=>x
  | _=>false
theorem zt{x:Option bJ}(h:jG x=true) :x=some (.r0 (kD x)):=by
  unfold jG at h
  split at h<;>first | rfl | (cases h;done) | (rename_i y;cases y;rfl)
noncomputable def rR:aU:=dG nC (.cons (.ns .u64) (.cons (.ns .u64) .nil)) fun t=>(fun q=>[⟨nQ (.r0 (kD q)),[jG q]⟩]) (ee t.1.2 t.2.1.2)
theorem wt:bc prog rR:=bf fun t=>(bi (fun h=>zr t.1.1 t.1.2 t.2.1.1 t.2.1.2 (zt h)) bZ)
noncomputable def rS:List aU:=rR::wm
theorem kF:bh prog (bA rS):=aB wt jE
inductive cE where
  | r0 (b2:Bool)
def tZ:cE→AE×aH
  | .r0 b2=>(.ret,⟨ax 45 [(4,.bool false b2)],[],0⟩)
theorem Bx:sC tZ:=by intro x;cases x<;>(intro h;cases h)
def oV:cE→nu
  | .r0 b2=>⟨.bool false b2,[]⟩
def By(b1:Bool) :aH:=⟨ax 45 [(4,.bool false b1)],[],0⟩
def rT(a_0:Int)(a_1:Int)(a_2:Int)(a_4:List Int)(a_5:Int)(a_6:Int)(b_7:Int)(b_8:Int)(b_9:Int)(b_11:List Int)(b_12:Int)(b_13:Int) :T ((Bool)⊕(cE)) :=
  .ask (a_0==b_7)
    (.ask (a_1==b_8)
      (.ask (a_2==b_9)
        (.ask (a_5==b_12)
          (.ask (a_6==b_13)
            (.need (mr 0 (List.length a_4) a_4)<|.need (mr 0 (List.length b_11) b_11)<|.need (jG (ee (aC 0 (List.length a_4) a_4) (aC 0 (List.length b_11) b_11)))<|.leaf (.inl (kD (ee (aC 0 (List.length a_4) a_4) (aC 0 (List.length b_11) b_11)))))
            (.leaf (.inl false)))
          (.leaf (.inl false)))
        (.leaf (.inl false)))
      (.leaf (.inl false)))
    (.leaf (.inl false))
def Bz(b1:Bool) :T ((Empty)⊕(cE)) :=
  .leaf (.inr (.r0 b1))
noncomputable def jz(a_0:Int)(a_1:Int)(a_2:Int)(a_4:List Int)(a_5:Int)(a_6:Int)(b_7:Int)(b_8:Int)(b_9:Int)(b_11:List Int)(b_12:Int)(b_13:Int) :Option cE:=yF (bj ((rT a_0 a_1 a_2 a_4 a_5 a_6 b_7 b_8 b_9 b_11 b_12 b_13).run) fun b1 =>
  (Bz b1).run)
theorem BA(a_0:Int)(a_1:Int)(a_2:Int)(v_3:Lv)(a_4:List Int)(a_5:Int)(a_6:Int)(b_7:Int)(b_8:Int)(b_9:Int)(v_10:Lv)(b_11:List Int)(b_12:Int)(b_13:Int){x:cE}(h:jz a_0 a_1 a_2 a_4 a_5 a_6 b_7 b_8 b_9 b_11 b_12 b_13=some x) :am prog tE [] [.agg [.int .i64 a_0,.int .i64 a_1,.int .i64 a_2,.imm v_3 (.ns .u64 a_4) 1 1 0 (List.length a_4),.int .i64 a_5,.int .u64 a_6],.agg [.int .i64 b_7,.int .i64 b_8,.int .i64 b_9,.imm v_10 (.ns .u64 b_11) 1 1 0 (List.length b_11),.int .i64 b_12,.int .u64 b_13]] (oV x) :=
  B3 false oV tZ h (Sg.cut 2 Bx (dt kF By [⟨[],[],[4]⟩,⟨[],[],[4]⟩,⟨[],[],[4]⟩,⟨[],[],[4]⟩,⟨[],[],[4]⟩,⟨[],[],[4]⟩]) (fun b1=>dt kF yG [⟨[],[],[4]⟩]))
    (fun x=>by cases x with | r0 b2=>exact sF [.bool false b2])
def kG:Option cE→Bool
  | some _=>true
  | none=>false
def lq:Option cE→Bool
  | some (.r0 x)=>x
  | _=>false
theorem BB{x:Option cE}(h:kG x=true) :x=some (.r0 (lq x)):=by
  unfold kG at h
  split at h<;>first | rfl | (cases h;done) | (rename_i y;cases y;rfl)
noncomputable def ua:aU:=dG tE (.cons (.agg (.cons (.int .i64) (.cons (.int .i64) (.cons (.int .i64) (.cons (.ns .u64) (.cons (.int .i64) (.cons (.int .u64) .nil))))))) (.cons (.agg (.cons (.int .i64) (.cons (.int .i64) (.cons (.int .i64) (.cons (.ns .u64) (.cons (.int .i64) (.cons (.int .u64) .nil))))))) .nil)) fun t=>(fun q=>[⟨oV (.r0 (lq q)),[kG q]⟩]) (jz t.1.1 t.1.2.1 t.1.2.2.1 t.1.2.2.2.1.2 t.1.2.2.2.2.1 t.1.2.2.2.2.2.1 t.2.1.1 t.2.1.2.1 t.2.1.2.2.1 t.2.1.2.2.2.1.2 t.2.1.2.2.2.2.1 t.2.1.2.2.2.2.2.1)
theorem xY:bc prog ua:=bf fun t=>(bi (fun h=>BA t.1.1 t.1.2.1 t.1.2.2.1 t.1.2.2.2.1.1 t.1.2.2.2.1.2 t.1.2.2.2.2.1 t.1.2.2.2.2.2.1 t.2.1.1 t.2.1.2.1 t.2.1.2.2.1 t.2.1.2.2.2.1.1 t.2.1.2.2.2.1.2 t.2.1.2.2.2.2.1 t.2.1.2.2.2.2.2.1 (BB h)) bZ)
noncomputable def ub:List aU:=ua::rS
theorem lr:bh prog (bA ub):=aB xY kF
inductive bt where
  | r0 (a4:Nat) (a5:Nat) (l6:List ByteArray)
def qM:bt→AE×aH
  | .r0 a4 a5 l6=>(.ret,⟨ax 8 [(4,.sl 0 1 1 0 a4 a5)],[(0,.ss l6)],1⟩)
theorem xZ:sC qM:=by intro x;cases x<;>(intro h;cases h)
def mE:bt→nu
  | .r0 a4 a5 l6=>⟨.imm .free (.ss l6) 1 1 0 a4,[]⟩
def ya:Nat×Nat×(List ByteArray)→aH:=fun (a1,a2,l3)=>⟨ax 8 [(4,.sl 0 1 1 0 a1 a2)],[(0,.ss l3)],1⟩
def py(s_0:ByteArray)(sep_1:ByteArray) :T ((Nat×Nat×(List ByteArray))⊕(bt)) :=
  .need (cW (aQ s_0 sep_1 (0:Int) (-1:Int)))<|.leaf (.inl ((dA (aQ s_0 sep_1 (0:Int) (-1:Int))),(dB (aQ s_0 sep_1 (0:Int) (-1:Int))),(dC (aQ s_0 sep_1 (0:Int) (-1:Int)))))
def yb(a1:Nat)(a2:Nat)(l3:List ByteArray) :T ((Empty)⊕(bt)) :=
  .leaf (.inr (.r0 a1 a2 l3))
noncomputable def bL(s_0:ByteArray)(sep_1:ByteArray) :Option bt:=yF (bj ((py s_0 sep_1).run) fun (a1,a2,l3) =>
  (yb a1 a2 l3).run)
theorem yc(s_0:ByteArray)(sep_1:ByteArray){x:bt}(h:bL s_0 sep_1=some x) :am prog qy [] [.str s_0,.str sep_1] (mE x) :=
  B3 true mE qM h (Sg.cut 2 xZ (dt lr ya [⟨[],[48],[4]⟩]) (fun ⟨a1,a2,l3⟩=>dt lr yG [⟨[],[0],[4]⟩]))
    (fun x=>by cases x with | r0 a4 a5 l6=>exact sF [.sl 0 1 1 0 a4 a5])
def ef:Option bt→Bool
  | some _=>true
  | none=>false
def eF:Option bt→Nat
  | some (.r0 x _ _)=>x
  | _=>0
def nR:Option bt→Nat
  | some (.r0 _ x _)=>x
  | _=>0
def eG:Option bt→List ByteArray
  | some (.r0 _ _ x)=>x
  | _=>[]
theorem yd{x:Option bt}(h:ef x=true) :x=some (.r0 (eF x) (nR x) (eG x)):=by
  unfold ef at h
  split at h<;>first | rfl | (cases h;done) | (rename_i y;cases y;rfl)
noncomputable def qN:aU:=dG qy (.cons .str (.cons .str .nil)) fun t=>(fun q=>[⟨mE (.r0 (eF q) (nR q) (eG q)),[ef q]⟩]) (bL t.1 t.2.1)
theorem uP:bc prog qN:=bf fun t=>(bi (fun h=>yc t.1 t.2.1 (yd h)) bZ)
noncomputable def qO:List aU:=qN::ub
theorem jN:bh prog (bA qO):=aB uP lr
inductive aL where
  | r0 (before4:ByteArray) (after5:ByteArray) (found6:Bool)
def uc:aL→AE×aH
  | .r0 before4 after5 found6=>(.ret,⟨ax 13 [(4,.str before4),(5,.str after5),(6,.bool false found6)],[],0⟩)
theorem BC:sC uc:=by intro x;cases x<;>(intro h;cases h)
def oW:aL→nu
  | .r0 before4 after5 found6=>⟨.tup [.str before4,.str after5,.bool false found6],[]⟩
def BD:ByteArray×ByteArray×Bool→aH:=fun (before1,after2,found3)=>⟨ax 13 [(4,.str before1),(5,.str after2),(6,.bool false found3)],[],0⟩
def rU(s_0:ByteArray)(sep_1:ByteArray) :T ((ByteArray×ByteArray×Bool)⊕(aL)) :=
  .need (aW (ah s_0 sep_1))<|.ask (decide ((ai (ah s_0 sep_1))≥(0:Int)))
    (.need (pC (ai (ah s_0 sep_1)) s_0.size)<|.need (pC (0:Int) (Int.toNat (ai (ah s_0 sep_1))))<|.need (kK .i64 ((ai (ah s_0 sep_1))+((sep_1.size:Nat):Int)))<|.need (pC ((s_0.size:Nat):Int) s_0.size)<|.need (pC ((ai (ah s_0 sep_1))+((sep_1.size:Nat):Int)) s_0.size)<|.leaf (.inl ((s_0.extract 0 (Int.toNat (ai (ah s_0 sep_1)))),(s_0.extract (Int.toNat ((ai (ah s_0 sep_1))+((sep_1.size:Nat):Int))) s_0.size),true)))
    (.leaf (.inl (s_0,ByteArray.empty,false)))
def BE(before1:ByteArray)(after2:ByteArray)(found3:Bool) :T ((Empty)⊕(aL)) :=
  .leaf (.inr (.r0 before1 after2 found3))
noncomputable def fc(s_0:ByteArray)(sep_1:ByteArray) :Option aL:=yF (bj ((rU s_0 sep_1).run) fun (before1,after2,found3) =>
  (BE before1 after2 found3).run)
theorem BF(s_0:ByteArray)(sep_1:ByteArray){x:aL}(h:fc s_0 sep_1=some x) :am prog tG [] [.str s_0,.str sep_1] (oW x) :=
  B3 false oW uc h (Sg.cut 2 BC (dt jN BD [⟨[],[],[4,5,6]⟩,⟨[],[],[4,5,6]⟩]) (fun ⟨before1,after2,found3⟩=>dt jN yG [⟨[],[],[4,5,6]⟩]))
    (fun x=>by cases x with | r0 before4 after5 found6=>exact sF [.str before4,.str after5,.bool false found6])
def fI:Option aL→Bool
  | some _=>true
  | none=>false
def gZ:Option aL→ByteArray
  | some (.r0 x _ _)=>x
  | _=>ByteArray.empty
def aX:Option aL→ByteArray
  | some (.r0 _ x _)=>x
  | _=>ByteArray.empty
def hH:Option aL→Bool
  | some (.r0 _ _ x)=>x
  | _=>false
theorem BG{x:Option aL}(h:fI x=true) :x=some (.r0 (gZ x) (aX x) (hH x)):=by
  unfold fI at h
  split at h<;>first | rfl | (cases h;done) | (rename_i y;cases y;rfl)
noncomputable def ud:aU:=dG tG (.cons .str (.cons .str .nil)) fun t=>(fun q=>[⟨oW (.r0 (gZ q) (aX q) (hH q)),[fI q]⟩]) (fc t.1 t.2.1)
theorem ye:bc prog ud:=bf fun t=>(bi (fun h=>BF t.1 t.2.1 (BG h)) bZ)
noncomputable def ue:List aU:=ud::qO
theorem lu:bh prog (bA ue):=aB ye jN
inductive cF where
  | r0 (b2:Bool)
def uf:cF→AE×aH
  | .r0 b2=>(.ret,⟨ax 9 [(2,.bool false b2)],[],0⟩)
theorem BH:sC uf:=by intro x;cases x<;>(intro h;cases h)
def oX:cF→nu
  | .r0 b2=>⟨.bool false b2,[]⟩
def BI(b1:Bool) :aH:=⟨ax 9 [(2,.bool false b1)],[],0⟩
def BJ(n_0:Int) :T ((Bool)⊕(cF)) :=
  .ask (decide (n_0≥(0:Int)))
    (.leaf (.inl (decide (n_0≤(512:Int)))))
    (.leaf (.inl false))
def BL(b1:Bool) :T ((Empty)⊕(cF)) :=
  .leaf (.inr (.r0 b1))
noncomputable def bM(n_0:Int) :Option cF:=yF (bj ((BJ n_0).run) fun b1 =>
  (BL b1).run)
theorem BM(n_0:Int){x:cF}(h:bM n_0=some x) :am prog tH [] [.int .i64 n_0] (oX x) :=
  B3 false oX uf h (Sg.cut 2 BH (dt lu BI [⟨[],[],[2]⟩,⟨[],[],[2]⟩]) (fun b1=>dt lu yG [⟨[],[],[2]⟩]))
    (fun x=>by cases x with | r0 b2=>exact sF [.bool false b2])
def dx:Option cF→Bool
  | some _=>true
  | none=>false
def dl:Option cF→Bool
  | some (.r0 x)=>x
  | _=>false
theorem BN{x:Option cF}(h:dx x=true) :x=some (.r0 (dl x)):=by
  unfold dx at h
  split at h<;>first | rfl | (cases h;done) | (rename_i y;cases y;rfl)
noncomputable def ug:aU:=dG tH (.cons (.int .i64) .nil) fun t=>(fun q=>[⟨oX (.r0 (dl q)),[dx q]⟩]) (bM t.1)
theorem yf:bc prog ug:=bf fun t=>(bi (fun h=>BM t.1 (BN h)) bZ)
noncomputable def oY:List aU:=ug::ue
theorem aw:bh prog (bA oY):=aB yf lu
end
end Go.Plb.Seat
namespace Go.Plb.Seat
open Go Go.Plb
set_option linter.unusedSimpArgs false
set_option linter.unusedVariables false
set_option maxRecDepth 100000
theorem uQ:∀ (a b:List Int),a.length=b.length→a=b∨∃ n,n<a.length∧(∀ j,j<n→a.getD j 0=b.getD j 0)∧a.getD n 0≠b.getD n 0
  | [],[],_=>.inl rfl
  | x::a,y::b,h=>by
    by_cases hxy:x=y
    · subst hxy
      rcases uQ a b (by simpa using h) with rfl | ⟨n,h1,h2,h3⟩
      · exact .inl rfl
      · refine .inr ⟨n+1,by simp;omega,fun j hj=>?_,by simpa using h3⟩
        cases j with
        | zero=>rfl
        | succ j=>simpa using h2 j (by omega)
    · exact .inr ⟨0,by simp,fun j hj=>by omega,by simpa using hxy⟩
  | [],_::_,h=>by simp at h
  | _::_,[],h=>by simp at h
theorem zu(a b:List Int)(h:a.length≤1000000000) :ee a b=some (.r0 (decide (a=b))):=by
  unfold ee
  by_cases hl:a.length=b.length
  · have h0:(qK a b).run=some (.inl ()):=fw (by simp [hl]) rfl
    rcases uQ a b hl with rfl | ⟨n,h1,h2,h3⟩
    · rw [decide_eq_true rfl]
      refine bW (an h0 (an (a:=()) (jw (fun j=>j) a.length rfl (fun j hj=>?_) ?_) rfl))
      · exact eR (by simp;omega) (au (by rw [fD];omega) (au (by rw [aT];omega) (au (by rw [fD];omega) (au (by rw [aT];omega) (fw (by simp) (au (by rw [bC];omega) rfl))))))
      · exact fw (by simp) rfl
    · have hne:a≠b:=fun e=>h3 (by rw [e])
      rw [decide_eq_false hne]
      refine bW (an h0 (bT (jw (fun j=>j) n rfl (fun j hj=>?_) ?_)))
      · exact eR (by simp;omega) (au (by rw [fD];omega) (au (by rw [aT];omega) (au (by rw [fD];omega) (au (by rw [aT];omega) (fw (by rw [h2 j hj];simp) (au (by rw [bC];omega) rfl))))))
      · exact eR (by simp;omega) (au (by rw [fD];omega) (au (by rw [aT];omega) (au (by rw [fD];omega) (au (by rw [aT];omega) (eR (bne_iff_ne.2 h3) rfl)))))
  · have hne:a≠b:=fun e=>hl (by rw [e])
    rw [decide_eq_false hne]
    exact bW (bT (eR (bne_iff_ne.2 (by omega)) rfl))
def BO(a0 a1 a2:Int)(a4:List Int)(a5 a6 b0 b1 b2:Int)(b4:List Int)(b5 b6:Int) :Bool :=
  bif a0==b0 then bif a1==b1 then bif a2==b2 then bif a5==b5 then bif a6==b6 then decide (a4=b4) else false else false else false else false else false
theorem BP(a0 a1 a2:Int)(a4:List Int)(a5 a6 b0 b1 b2:Int)(b4:List Int)(b5 b6:Int)(h:a4.length≤1000000000) :jz a0 a1 a2 a4 a5 a6 b0 b1 b2 b4 b5 b6=some (.r0 (BO a0 a1 a2 a4 a5 a6 b0 b1 b2 b4 b5 b6)):=by
  refine bW (an (a:=BO a0 a1 a2 a4 a5 a6 b0 b1 b2 b4 b5 b6) ?_ rfl)
  unfold BO rT
  rw [pf,pf,zu a4 b4 h]
  cases (a0==b0) with
  | false=>rfl
  | true =>
    cases (a1==b1) with
    | false=>rfl
    | true =>
      cases (a2==b2) with
      | false=>rfl
      | true =>
        cases (a5==b5) with
        | false=>rfl
        | true =>
          cases (a6==b6) with
          | false=>rfl
          | true=>exact ct (ct (ct (ct (ct (au (by simp [mr]) (au (by simp [mr]) (cj rfl)))))))
theorem CL(a0 a1 a2:Int)(a4:List Int)(a5 a6 b0 b1 b2:Int)(b4:List Int)(b5 b6:Int)(h:a4.length≤1000000000) :gY a0 a1 a2 a4 a5 a6 b0 b1 b2 b4 b5 b6=some (.r0 (BO a0 a1 a2 a4 a5 a6 b0 b1 b2 b4 b5 b6)):=by
  unfold gY
  have hn:∀ x y:Int,(x != y) = !(x==y):=fun _ _=>rfl
  have h8:(oU a0 a1 a2 a4 a5 a6 b0 b1 b2 b4 b5 b6).run=some (.inl (!(bif a0==b0 then bif a1==b1 then bif a2==b2 then bif a5==b5 then bif a6==b6 then ((a4.length:Int)==(b4.length:Int)) else false else false else false else false else false))):=by
    unfold oU
    simp only [hn]
    cases (a0==b0)<;>cases (a1==b1)<;>cases (a2==b2)<;>cases (a5==b5)<;>cases (a6==b6)<;>rfl
  refine bW (an h8 ?_)
  unfold BO
  have fl:∀ {k:Unit→Option (Empty⊕bN)},bj (tX (!false)).run k=some (.inr (.r0 false)):=fun {k}=>bT rfl
  cases (a0==b0) with
  | false=>exact fl
  | true =>
    cases (a1==b1) with
    | false=>exact fl
    | true =>
      cases (a2==b2) with
      | false=>exact fl
      | true =>
        cases (a5==b5) with
        | false=>exact fl
        | true =>
          cases (a6==b6) with
          | false=>exact fl
          | true =>
            simp only [cond_true]
            by_cases hl:a4.length=b4.length
            · have hb:((a4.length:Int)==(b4.length:Int))=true:=by simp [hl]
              rw [hb]
              refine an (a:=()) rfl ?_
              rcases uQ a4 b4 hl with rfl | ⟨n,h1,h2,h3⟩
              · rw [decide_eq_true rfl]
                refine an (a:=()) (jw (fun j=>j) a4.length rfl (fun j hj=>?_) ?_) rfl
                · exact eR (by simp;omega) (au (by rw [fD];omega) (au (by rw [aT];omega) (au (by rw [fD];omega) (au (by rw [aT];omega) (fw (by simp) (au (by rw [bC];omega) rfl))))))
                · exact fw (by simp) rfl
              · have hne:a4≠b4:=fun e=>h3 (by rw [e])
                rw [decide_eq_false hne]
                refine bT (jw (fun j=>j) n rfl (fun j hj=>?_) ?_)
                · exact eR (by simp;omega) (au (by rw [fD];omega) (au (by rw [aT];omega) (au (by rw [fD];omega) (au (by rw [aT];omega) (fw (by rw [h2 j hj];simp) (au (by rw [bC];omega) rfl))))))
                · exact eR (by simp;omega) (au (by rw [fD];omega) (au (by rw [aT];omega) (au (by rw [fD];omega) (au (by rw [aT];omega) (eR (bne_iff_ne.2 h3) rfl)))))
            · have hb:((a4.length:Int)==(b4.length:Int))=false:=by rw [beq_eq_false_iff_ne];omega
              have hne:a4≠b4:=fun e=>hl (by rw [e])
              rw [hb,decide_eq_false hne]
              exact fl
theorem MD(n:Nat)(l:List ByteArray)(hn:0<n)(hl:0<l.length) :(pt n l).run=if px (l.getD 0 ByteArray.empty)=0 then some (.inr (.r0 4 0 0 0)) else some (.inl (px (l.getD 0 ByteArray.empty),(nJ (px (l.getD 0 ByteArray.empty))).2)):=by
  refine au (by rw [fD];omega) (au (by rw [aT];exact hl) ?_)
  generalize l.getD 0 ByteArray.empty=w
  by_cases h1:w=ByteArray.mk #[101,105,103,101,110]
  · subst h1;rfl
  by_cases h2:w=ByteArray.mk #[118,97,108,117,101,115]
  · subst h2;rfl
  by_cases h3:w=ByteArray.mk #[115,118,100]
  · subst h3;rfl
  by_cases h4:w=ByteArray.mk #[114,97,110,107]
  · subst h4;rfl
  by_cases h5:w=ByteArray.mk #[105,110,118,101,114,115,101]
  · subst h5;rfl
  by_cases h6:w=ByteArray.mk #[99,111,110,100]
  · subst h6;rfl
  have e:px w=0:=by unfold px;rw [if_neg h1,if_neg h2,if_neg h3,if_neg h4,if_neg h5,if_neg h6]
  rw [e,if_pos rfl]
  refine qj (qk (decide_eq_false h1)) (qj (qk (decide_eq_false h2)) (qj (qk (decide_eq_false h3)) (qj (qk (decide_eq_false h4)) (qj (qk (decide_eq_false h5)) (qj (qk (decide_eq_false h6)) (uG ?_))))))
  have q:∀ b:ByteArray,¬ w=b→(!decide (w=b))=true:=fun b h=>by rw [decide_eq_false h];rfl
  exact au (q _ h1) (au (q _ h2) (au (q _ h3) (au (q _ h4) (au (q _ h5) (au (q _ h6) rfl)))))
theorem Ex(l:List ByteArray)(k:Int)(n:Nat)(b:Bool)(hl:∀ x∈l,x.size≤1000000000) :bI l k ((n:Nat):Int) b=some (.r0 k (bif decide ((n:Int)>0)&&decide ((l.length:Int)>0) then cV (l.getD 0 ByteArray.empty) else 0) (bif b&&decide ((l.length:Int)>1) then fE (l.getD 1 ByteArray.empty) else 0)):=by
  unfold bI
  have h6:(mH l ((n:Nat):Int)).run=some (.inl (decide ((n:Int)>0)&&decide ((l.length:Int)>0))):=by
    cases h:decide ((n:Int)>0) with
    | true=>exact eR h rfl
    | false=>exact fw h rfl
  have h8:(mI l b).run=some (.inl (b&&decide ((l.length:Int)>1))):=by
    cases b with
    | true=>exact ct rfl
    | false=>exact cu rfl
  refine bW (an h6 (an (a:=bif decide ((n:Int)>0)&&decide ((l.length:Int)>0) then cV (l.getD 0 ByteArray.empty) else 0) ?_ (an h8 (an (a:=bif b&&decide ((l.length:Int)>1) then fE (l.getD 1 ByteArray.empty) else 0) ?_ rfl))))
  · by_cases h0:(l.length:Int)>0
    · rw [decide_eq_true h0]
      cases hz:(decide ((n:Int)>0)&&true) with
      | false=>exact cu rfl
      | true =>
        have hm:(l.getD 0 ByteArray.empty).size≤1000000000:=by
          rw [List.getD_eq_getElem?_getD,List.getElem?_eq_getElem (by omega)]
          exact hl _ (List.getElem_mem (by omega))
        exact ct (au (by rw [fD];omega) (au (by rw [aT];omega) (au (Nat.ble_eq_true_of_le hm) rfl)))
    · rw [decide_eq_false h0,Bool.and_false]
      exact cu rfl
  · by_cases h0:(l.length:Int)>1
    · rw [decide_eq_true h0]
      cases hz:(b&&true) with
      | false=>exact cu rfl
      | true =>
        have hm:(l.getD 1 ByteArray.empty).size≤1000000000:=by
          rw [List.getD_eq_getElem?_getD,List.getElem?_eq_getElem (by omega)]
          exact hl _ (List.getElem_mem (by omega))
        exact ct (au (by rw [fD];omega) (au (by rw [aT];omega) (au (Nat.ble_eq_true_of_le hm) rfl)))
    · rw [decide_eq_false h0,Bool.and_false]
      exact cu rfl
theorem ME(s:ByteArray)(k y t:Int) :(lg s k y t).run=some (.inl (!(ff k y t&&decide (fk k y t=s)))):=by
  have hA:=jC k y t
  simp only [lg,hA]
  refine cj ?_
  show (T.ask (!(ff k y t)) _ _).run=_
  cases ha:ff k y t with
  | false=>exact ct rfl
  | true =>
    have hy:kK .i64 y=true:=by
      have:=oz ha
      rw [bC];omega
    rw [rH k y t hy]
    refine cu (cj ?_)
    show some (Sum.inl (!((fk k y t).toList==s.toList)))=_
    rw [dO,Bool.true_and]
theorem BQ{s x:ByteArray}(h:x∈aA s) :x.size≤s.size:=by
  have h1:x.data.toList∈aG s.data.toList:=by rw [←oy];exact List.mem_map_of_mem h
  have key:∀ l:List UInt8,∀ w∈aG l,w.length≤l.length:=by
    intro l
    induction l with
    | nil=>intro w hw;simp [aG] at hw;simp [hw]
    | cons c r ih =>
      intro w hw
      by_cases hc:c=32
      · subst hc
        rw [xV,List.mem_cons] at hw
        rcases hw with rfl | hw
        · simp
        · have:=ih w hw;simp;omega
      · rw [rO hc,List.mem_cons] at hw
        rcases hw with rfl | hw
        · have:(aG r).headD []∈aG r:=by rw [rP r];simp
          have:=ih _ this
          rw [List.length_cons,List.length_cons];omega
        · have:=ih w (List.mem_of_mem_tail hw);rw [List.length_cons];omega
  have:=key _ _ h1
  simpa using this
theorem yg(s:ByteArray)(hs:s.size≤1000000000) :aS s=some (match CI s with | some (k,y,t)=>.r0 0 k y t | none=>.r0 4 0 0 0):=by
  unfold aS
  have hw:=pv s
  have h6:(lc s).run=some (.inl ((aA s).length,(aA s).length,aA s)):=by
    simp only [lc,yM s hs]
    exact cj rfl
  have h7:=MD (aA s).length (aA s) (by omega) (by omega)
  have hz:∀ x∈aA s,x.size≤1000000000:=fun x hx=>Nat.le_trans (BQ hx) hs
  unfold CI
  simp only []
  generalize hk:px ((aA s).getD 0 ByteArray.empty)=k at *
  by_cases h0:k=0
  · rw [if_pos h0] at h7
    have:MZ s k (yS k (aA s)) (tS k (aA s))=false:=by
      subst h0
      rfl
    rw [this]
    exact bW (an h6 (bT h7))
  · rw [if_neg h0] at h7
    have h8:∀ (a b:ByteArray) (n:Nat) (tt sq:Bool),(nJ k).2=(a,n,tt,sq)→(ld (aA s).length (aA s).length (aA s) k n tt).run=some (.inl ((k:Int),yS k (aA s),tS k (aA s))):=by
      intro a b n tt sq he
      have hc:aC 1 ((aA s).length-1) (aA s)=(aA s).drop 1:=by
        unfold aC
        rw [rc,List.take_of_length_le (by simp)]
      have hr:=Ex ((aA s).drop 1) (k:Int) n tt fun x hx=>hz x (List.mem_of_mem_drop hx)
      simp only [ld,hc,hr]
      refine au (by rw [qA];omega) (au (by rw [qA];omega) (au (by rw [pg];omega) (cj ?_)))
      have ew:∀ i,((aA s).drop 1).getD i ByteArray.empty=(aA s).getD (i+1) ByteArray.empty:=fun i=>by
        rw [List.getD_eq_getElem?_getD,List.getD_eq_getElem?_getD,List.getElem?_drop,Nat.add_comm]
      show some (Sum.inl ((k:Int),_,_))=_
      unfold yS tS
      rw [he]
      simp only [ew,List.length_drop]
      rfl
    cases he:(nJ k).2 with | mk a p =>
    obtain ⟨n,tt,sq⟩:=p
    rw [he] at h7
    refine bW (an h6 (an h7 (an (h8 a a n tt sq he) (an (ME s k _ _) ?_))))
    unfold MZ
    cases (ff (k:Int) (yS k (aA s)) (tS k (aA s))&&decide (fk (k:Int) (yS k (aA s)) (tS k (aA s))=s)) with
    | true=>exact cu rfl
    | false=>exact ct rfl
def IA:List ByteArray:=[ByteArray.empty,ByteArray.mk #[101,105,103,101,110],ByteArray.mk #[118,97,108,117,101,115],ByteArray.mk #[115,118,100],ByteArray.mk #[114,97,110,107],ByteArray.mk #[105,110,118,101,114,115,101],ByteArray.mk #[99,111,110,100]]
end Go.Plb.Seat
namespace Go.Plb
set_option linter.unusedSimpArgs false
set_option linter.unusedVariables false
set_option linter.unusedSectionVars false
variable [Rom]
def ae.less(ρ:ae)(L:Nat→Prop) :ae:={ ρ with live:=fun bl=>ρ.live bl∧¬ L bl }
theorem ae.less_less(ρ:ae)(L:Nat→Prop) :GC ρ (ρ.less L):=⟨rfl,fun _ h=>h.1⟩
theorem zM{ρ:ae}{L:Nat→Prop}{w:World}{v:AV}{u:Value}(h:VR ρ w v u) :VR (ρ.less L) w v u:=by
  induction h using VR.rec (motive_2:=fun l c _=>bO (ρ.less L) w l c) with
  | int k n=>exact .int k n
  | bool kn b=>exact .bool kn b
  | flt ex x y h=>exact .flt ex x y h
  | str s=>exact .str s
  | nptr=>exact .nptr
  | ptr b k i j hb=>exact VR.ptr (ρ:=ρ.less L) b k i j hb
  | iptr bw d k i j bl o u ha hb hc hv hr hk hg ih=>exact .iptr bw d k i j bl o u ((ρ.less_less L).avoid ha) hb hc ih hr hk hg
  | nsl=>exact .nsl
  | esl a=>exact .esl a
  | zsl a c=>exact .zsl a c
  | nan n h=>exact .nan n h
  | sl b k es i len cap cap' hb hcap hl c t hh hs=>exact VR.sl (ρ:=ρ.less L) b k es i len cap cap' hb hcap hl c t hh hs
  | slEnd b k es i a=>exact .slEnd b k es i a
  | imm bw d k es i len cap bl o u ha hb hc hv hl hr hk hg ih=>exact .imm bw d k es i len cap bl o u ((ρ.less_less L).avoid ha) hb hc ih hl hr hk hg
  | immEnd bw d k es i cap a hr hk hg=>exact .immEnd bw d k es i cap a hr hk hg
  | fn f l1 l2 c1 c2 h1 h2 i1 i2=>exact .fn f l1 l2 c1 c2 i1 i2
  | nfn=>exact .nfn
  | gmap ks vs bl es cl u ha hb hh hin hex hv hl hk ih=>exact .gmap ks vs bl es cl u ((ρ.less_less L).avoid ha) hb hh hin hex ih hl hk
  | gvar c bl t fr ha hb hh=>exact .gvar c bl t fr ((ρ.less_less L).avoid ha) hb hh
  | agg l c h ih=>exact .agg l c ih
  | tup l c h ih=>exact .tup l c ih
  | iface t v u h ih=>exact .iface t v u ih
  | niface=>exact .niface
  | any u=>exact .any u
  | nil=>exact bO.nil
  | cons v u l c h t i1 i2=>exact bO.cons v u l c i1 i2
theorem F0{ρ:ae}{L:Nat→Prop}{w:World} :∀ {l:List AV} {c:List Value},bO ρ w l c→bO (ρ.less L) w l c
  | _,_,.nil=>.nil
  | _,_,.cons v u l c h t=>.cons v u l c (zM h) (F0 t)
theorem Lw{ρ:ae}{L:Nat→Prop}{w:World}{h:aV}{n:Nat}(hh:HR ρ w h n)(hL:∀ b d,ay h b=some d→ρ.ok b→¬ L (ρ.at_ b)) :HR (ρ.less L) w h n:=by
  refine ⟨fun b d hb=>?_,hh.inj,fun bl q j=>hh.fresh bl q.1 j,fun bl q=>hh.liveLt bl q.1,hh.outLt,hh.lt,fun x hx=>zM (hh.rom x hx)⟩
  rcases hh.cell b d hb with ⟨k1,k2,hr,c,t,r1,r2⟩ | q
  · exact .inl ⟨k1,⟨k2,hL b d hb k1⟩,hr,c,t,r1,fun x v hx=>(r2 x v hx).imp fun u g=>⟨g.1,zM g.2⟩⟩
  · exact .inr q
def aj.plain:aj→Bool
  | .fl _ | .ns .. | .bs _ | .ss _ | .cols ..=>true
  | _=>false
theorem Hg{d:aj}(h:d.plain=true) :d.kept=true:=by cases d<;>first | rfl | cases h
def Hh(st:aH)(b i x:Nat) :aH :=
  match ay st.heap b with
  | some (.vs l)=>match l[i]? with
    | some (.sl y w es j n c)=>match ay st.heap x with
      | some d=>bif Nat.beq y x&&(!Nat.beq b x&&d.plain) then ⟨st.tmps,cM (mn st.heap x) b (.vs (l.set i (.imm .free d w es j n))),st.next⟩ else st
      | none=>st
    | _=>st
  | _=>st
theorem KP{st:aH}{b i x:Nat} :GD [] st (Hh st b i x):=by
  intro ρ0 w0 a w hN hA
  unfold Hh
  split
  case h_2=>exact hA
  rename_i l hl
  split
  case h_2=>exact hA
  rename_i y wd es j n c hi
  split
  case h_2=>exact hA
  rename_i d hd
  cases hc:(Nat.beq y x&&(!Nat.beq b x&&d.plain)) with
  | false=>exact hA
  | true =>
  simp only [cond_true]
  simp only [Bool.and_eq_true,Bool.not_eq_true'] at hc
  obtain ⟨e1,e2,hp⟩:=hc
  have e1:=Nat.eq_of_beq_eq_true e1
  subst e1
  have hne:b≠y:=fun q=>by subst q;rw [kb] at e2;cases e2
  obtain ⟨ρ,E,W,S,hbk,hle⟩:=hA
  have hh:=S.heap
  have hk:=Hg hp

  have key:∃ L:Nat→Prop,(∀ z e,z≠y→ay st.heap z=some e→ρ.ok z→¬ L (ρ.at_ z))∧(∀ bl,ρ0.live bl→¬ L bl)∧(ρ.ok y→L (ρ.at_ y)):=by
    by_cases ok:ρ.ok y
    · refine ⟨fun bl=>bl=ρ.at_ y,fun z e hz he hz2 q=>hz (hh.inj z y e d he hd hz2 ok q),fun bl q=>?_,fun _=>rfl⟩
      obtain ⟨k,k1,_⟩:=hN.only bl q
      exact absurd (hN.heap.lt k k1) (Nat.not_lt_zero _)
    · exact ⟨fun _=>False,fun _ _ _ _ _ q=>q,fun _ _ q=>q,fun q=>ok q⟩
  obtain ⟨L,L1,L2,L3⟩:=key
  have hget':∀ z e,ay (mn st.heap y) z=some e→z≠y∧ay st.heap z=some e:=by
    intro z e hz
    rw [eX] at hz
    split at hz
    · cases hz
    · rename_i q;exact ⟨fun r=>q r.symm,hz⟩
  have h1:HR (ρ.less L) w (mn st.heap y) st.next:=Lw (hh.del y) fun z e hz ok=>by
    obtain ⟨q1,q2⟩:=hget' z e hz
    exact L1 z e q1 q2 ok
  have hb1:ay (mn st.heap y) b=some (.vs l):=by
    rw [eX,if_neg (fun q=>hne q.symm)];exact hl
  have hv:∀ u,VR ρ w (.sl y wd es j n c) u→VR (ρ.less L) w (.imm .free d wd es j n) u:=by
    intro u hu
    cases hu with
    | sl _ _ _ _ _ _ cap' hb hcap hl' c' t hh' hs =>
      obtain ⟨hlv,hrk,cc,t2,hcc,hcv⟩:=hh.real hd hb
      have:=VR.imm (ρ:=ρ.less L) (w:=w) .free d wd es j n cap' (ρ.at_ y) 0 (fun z=>(cc[z]?).getD undef) (fun k _=>by
          cases k with
          | zero=>exact fun q=>q.2 (L3 hb)
          | succ k=>exact hh.fresh _ hlv k) (hh.liveLt _ hlv)
        (fun z v hz=>by
          obtain ⟨u,q1,q2⟩:=hcv z v hz
          simp [World.cell?,hcc,q1]) (fun z v hz=>by
          obtain ⟨u,q1,q2⟩:=hcv z v hz
          simp only [q1,Option.getD_some]
          exact zM q2) (by omega) hrk (fun _=>hk) (js hk)
      simpa using this
    | slEnd=>exact .immEnd _ _ _ _ _ _ _ (hh.rk hd) (fun _=>hk) (js hk)
  refine ⟨ρ.less L,⟨E.at_,E.ok,fun bl q=>⟨E.live bl q,L2 bl q⟩,fun bl q r=>E.new bl q r.1,E.out⟩,W,⟨S.defers,F0 S.tmps,?_⟩,hbk,hle⟩
  have look:∀ z e,ay (cM (mn st.heap y) b (.vs (l.set i (.imm .free d wd es j n)))) z=some e→(z=b∧e=.vs (l.set i (.imm .free d wd es j n)))∨(z≠b∧z≠y∧ay st.heap z=some e):=by
    intro z e hz
    rw [bD] at hz
    by_cases q:b=z
    · rw [if_pos q] at hz;cases hz;exact .inl ⟨q.symm,rfl⟩
    · rw [if_neg q] at hz;exact .inr ⟨fun r=>q r.symm,hget' z e hz⟩
  have had:∀ z e,ay (cM (mn st.heap y) b (.vs (l.set i (.imm .free d wd es j n)))) z=some e→∃ e',ay (mn st.heap y) z=some e':=by
    intro z e hz
    rw [bD] at hz
    by_cases q:b=z
    · subst q;exact ⟨_,hb1⟩
    · rw [if_neg q] at hz;exact ⟨e,hz⟩
  refine ⟨fun z e hz=>?_,fun z z' e e' hz hz' ok ok' he=>?_,h1.fresh,h1.liveLt,h1.outLt,h1.lt,h1.rom⟩
  · rcases look z e hz with ⟨rfl,rfl⟩ | ⟨q1,q2,q3⟩
    · rcases h1.cell z _ hb1 with ⟨k1,k2,_,cc,t,r1,r2⟩ | ⟨k1,k2,_,k4⟩
      · refine .inl ⟨k1,k2,trivial,cc,t,r1,fun m v hm=>?_⟩
        simp only [aj.cell?,List.getElem?_set] at hm
        by_cases hq:i=m
        · subst hq
          rw [if_pos rfl] at hm
          split at hm
          · cases hm
            rcases hh.cell z _ hl with ⟨_,_,_,c3,t3,s1,s2⟩ | ⟨g1,_⟩
            · have ec:c3=cc:=by
                have r1':w.heap[ρ.at_ z]? = some (.cells cc t (0,0)):=r1
                rw [s1] at r1';cases r1';rfl
              subst ec
              obtain ⟨u,t1,t2⟩:=s2 i _ hi
              exact ⟨u,t1,hv u t2⟩
            · exact absurd k1 g1
          · cases hm
        · rw [if_neg hq] at hm
          exact r2 m v hm
      · refine .inr ⟨k1,k2,trivial,fun m=>?_⟩
        have:=k4 i
        simp only [aj.cell?] at this
        rw [hi] at this
        cases this
    · exact h1.cell z e (by rw [eX,if_neg (fun q=>q2 q.symm)];exact q3)
  · obtain ⟨f,hf⟩:=had z e hz
    obtain ⟨f',hf'⟩:=had z' e' hz'
    exact h1.inj z z' f f' hf hf' ok ok' he
theorem Sg.sub{P:Program}{α X:Type}{N:α→aH}{E:X→AE×aH}{m:Option (α⊕X)}{cs:List Code}{st st1:aH}(hs:GD [] st st1)(h:Sg P [] cs st1 m N E) :Sg P [] cs st m N E :=
  fun r hr=>dr.weak hs (h r hr)
end Go.Plb
