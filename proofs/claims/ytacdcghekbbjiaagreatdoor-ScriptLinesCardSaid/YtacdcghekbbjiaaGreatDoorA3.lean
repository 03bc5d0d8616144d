/-
  Part 3 of what the claim leans on: an evaluator of the model, proved sound; the contracts of the functions.
-/
import Derived.Lib.OthersKept
import Derived.Lib.Hide
import Derived.Lib.Strings
import Derived.Laws.RangeAny
import Derived.WalkKit
import Derived.WalkSpells
import Derived.Lib.AtoiAllCases
import Derived.Lib.AtoiErrMem
import Derived.RangeFuncBox
import Derived.RangeFuncLeaves
import Derived.RangeFuncNested
import Derived.Shelf.Abstract
import Derived.Shelf.RegionOpen
import Derived.OwnWalkIn
import Derived.TacticsInMore
import Derived.LoopNIn
import Derived.LoopIn
import Derived.RegionIn
import Derived.Stop.RegionWithIn
import Derived.Lib.Bytealg
import Derived.Test.YtacdcghekbbjiaaGreatDoorA2
namespace Go.Plb
set_option linter.unusedSimpArgs false
set_option linter.unusedVariables false
set_option linter.unusedSectionVars false
variable [Rom]
inductive T (α:Type) where
  | fail
  | leaf (a:α)
  | ask (b:Bool) (t f:T α)
  | need (b:Bool) (t:T α)
  | alt (k:Nat) (t e:T α)
def T.run{α:Type} :T α→Option α
  | .fail=>none
  | .leaf a=>some a
  | .ask b t f=>bif b then t.run else f.run
  | .need b t=>bif b then t.run else none
  | .alt _ t e=>match t.run with
    | some a=>some a
    | none=>e.run
structure rH (α:Type) where
  path:List Nat
  obs:List Bool
  val:α
def rH.ask{α:Type}(n:Nat)(b:Bool)(l:rH α) :rH α:=⟨n::l.path,b::l.obs,l.val⟩
def rH.need{α:Type}(b:Bool)(l:rH α) :rH α:=⟨l.path,b::l.obs,l.val⟩
def rH.alt{α:Type}(n:Nat)(l:rH α) :rH α:=⟨n::l.path,l.obs,l.val⟩
def T.leaves{α:Type} :T α→List (rH α)
  | .fail=>[]
  | .leaf a=>[⟨[],[],a⟩]
  | .ask b t f=>t.leaves.map (rH.ask 1 (b==true))++f.leaves.map (rH.ask 0 (b==false))
  | .need b t=>t.leaves.map (rH.need b)
  | .alt k t e=>t.leaves.map (rH.alt k)++e.leaves
theorem kD{α:Type} :∀ (t:T α) {a:α},t.run=some a→∃ l∈t.leaves,l.val=a∧ak l.obs
  | .fail,a,h=>by cases h
  | .leaf b,a,h=>by
    simp only [T.run,Option.some.injEq] at h;subst h
    exact ⟨⟨[],[],b⟩,by simp [T.leaves],rfl,trivial⟩
  | .ask b t f,a,h=>by
    simp only [T.run] at h
    cases b with
    | true =>
      simp only [cond_true] at h
      obtain ⟨l,h1,h2,h3⟩:=kD t h
      exact ⟨l.ask 1 (true==true),by simp only [T.leaves,List.mem_append];exact .inl (List.mem_map_of_mem h1),h2,⟨rfl,h3⟩⟩
    | false =>
      simp only [cond_false] at h
      obtain ⟨l,h1,h2,h3⟩:=kD f h
      exact ⟨l.ask 0 (false==false),by simp only [T.leaves,List.mem_append];exact .inr (List.mem_map_of_mem h1),h2,⟨rfl,h3⟩⟩
  | .need b t,a,h=>by
    simp only [T.run] at h
    cases b with
    | true =>
      simp only [cond_true] at h
      obtain ⟨l,h1,h2,h3⟩:=kD t h
      exact ⟨l.need true,by simp only [T.leaves];exact List.mem_map_of_mem h1,h2,⟨rfl,h3⟩⟩
    | false=>cases h
  | .alt k t e,a,h=>by
    simp only [T.run] at h
    split at h
    · rename_i a' ht
      cases h
      obtain ⟨l,h1,h2,h3⟩:=kD t ht
      exact ⟨l.alt k,by simp only [T.leaves,List.mem_append];exact .inl (List.mem_map_of_mem h1),h2,h3⟩
    · obtain ⟨l,h1,h2,h3⟩:=kD e h
      exact ⟨l,by simp only [T.leaves,List.mem_append];exact .inr h1,h2,h3⟩
def qE{α X:Type}(N:α→aA)(E:X→AE×aA) :α⊕X→AE×aA
  | .inl a=>(.normal,N a)
  | .inr x=>E x
def Sg{α X:Type}(P:Program)(lent:List aj)(cs:List Code)(st:aA)(m:Option (α⊕X))(N:α→aA)(E:X→AE×aA) :Prop :=
  ∀ r,m=some r→da P lent cs st fun e st'=>(e,st')=qE N E r
def IA{α X:Type}(C:tn)(S:uR)(n:Nat)(cs:List Code)(st:aA)(ls:List (rH (α⊕X)))(ks:List NS)(k:Nat) :List (Bool×Option (AE×aA×List Bool)) :=
  List.zipWith (fun l s=>(s.ok k,H7 s (G4 (nj C S 12 n) cs st (some l.path)))) ls ks
def Gr{α X:Type}(N:α→aA)(E:X→AE×aA)(ls:List (rH (α⊕X))) :List (Bool×Option (AE×aA×List Bool)) :=
  ls.map fun l=>(true,some ((qE N E l.val).1,(qE N E l.val).2,l.obs))
theorem Gs{α β γ:Type}{f:α→β→γ}{g:α→γ} :∀ {l:List α} {k:List β},List.zipWith f l k=l.map g→∀ a∈l,∃ b,f a b=g a
  | [],_,_,a,ha=>by cases ha
  | x::l,[],h,a,ha=>by simp at h
  | x::l,y::k,h,a,ha=>by
    simp only [List.zipWith_cons_cons,List.map_cons,List.cons.injEq] at h
    rcases List.mem_cons.1 ha with rfl | ha
    · exact ⟨y,h.1⟩
    · exact Gs h.2 a ha
theorem Sg.seg{C:tn}(hC:C.Ok){S:uR}(hS:aZ C.P S){lent:List aj}{α X:Type}(n:Nat)(cs:List Code)(st:aA)(t:T (α⊕X))(N:α→aA)(E:X→AE×aA)(ks:List NS) 
    (h:IA C S n cs st t.leaves ks lent.length=Gr N E t.leaves):Sg C.P lent cs st t.run N E:=by
  intro r hr
  obtain ⟨l,h1,h2,h3⟩:=kD t hr
  obtain ⟨k,hk⟩:=Gs h l h1
  simp only [Prod.mk.injEq] at hk
  obtain ⟨hn,he⟩:=hk
  have:=da.seg hC hS (lent:=lent) (Q:=fun e st'=>(e,st')=qE N E r) cs.length (some l.path) k (cs:=cs) (st:=st) (by rw [List.take_length];exact he) hn h3
  refine this ?_
  rw [h2,List.drop_length]
  generalize hg:qE N E r=x
  obtain ⟨e,s⟩:=x
  cases e with
  | normal=>exact da.nil rfl
  | ret=>rfl
  | exit id=>rfl
theorem da.append{P:Program}{lent:List aj}{cs1 cs2:List Code}{st:aA}{Q1 Q:AE→aA→Prop}(h:da P lent cs1 st Q1)(k:∀ e st',Q1 e st'→A1 P lent cs2 e st' Q) :da P lent (cs1++cs2) st Q:=by
  intro ρ0 w0 hN K hK a w hA
  apply tx
  refine h ρ0 w0 hN _ ?_ a w hA
  intro e st' a' w' q hA'
  have:=k e st' q
  cases e with
  | normal=>exact this ρ0 w0 hN K hK a' w' hA'
  | ret=>exact hK _ _ _ _ this hA'
  | exit id=>exact hK _ _ _ _ this hA'
def qi{X:Type}(E:X→AE×aA) :Prop:=∀ x,(E x).1 ≠ .normal
theorem Gt{P:Program}{lent:List aj}{cs:List Code}{e:AE}{st:aA}{Q:AE→aA→Prop}(hn:e ≠ .normal)(h:Q e st) :A1 P lent cs e st Q:=by
  cases e with
  | normal=>exact (hn rfl).elim
  | ret=>exact h
  | exit id=>exact h
def bg{α β X:Type}(m:Option (α⊕X))(k:α→Option (β⊕X)) :Option (β⊕X) :=
  match m with
  | none=>none
  | some (.inl a)=>k a
  | some (.inr x)=>some (.inr x)
theorem Sg.seq{P:Program}{lent:List aj}{α β X:Type}{cs1 cs2:List Code}{st:aA}{m:Option (α⊕X)}{N1:α→aA}{E:X→AE×aA}{k:α→Option (β⊕X)}{N:β→aA}(hE:qi E) 
    (h:Sg P lent cs1 st m N1 E) (hk:∀ a,Sg P lent cs2 (N1 a) (k a) N E):Sg P lent (cs1++cs2) st (bg m k) N E:=by
  intro r hr
  unfold bg at hr
  split at hr
  · cases hr
  · rename_i a
    refine da.append (h _ rfl) ?_
    intro e st' q
    simp only [qE,Prod.mk.injEq] at q
    obtain ⟨rfl,rfl⟩:=q
    exact hk a r hr
  · rename_i x
    simp only [Option.some.injEq] at hr;subst hr
    refine da.append (h _ rfl) ?_
    intro e st' q
    simp only [qE] at q
    refine Gt ?_ q
    have:=hE x
    rw [←q] at this;exact this
def pE{σ Y:Type}(B:σ→Option (σ⊕Y)) :Nat→σ→Option Y
  | 0,_=>none
  | n+1,s=>match B s with
    | none=>none
    | some (.inl s')=>pE B n s'
    | some (.inr y)=>some y
theorem tC{σ Y:Type}{B:σ→Option (σ⊕Y)} :∀ (n:Nat) {s:σ} {y:Y},pE B n s=some y→∀ m,n≤m→pE B m s=some y
  | 0,s,y,h,_,_=>by cases h
  | n+1,s,y,h,m,hm=>by
    obtain ⟨m',rfl⟩:∃ m',m=m'+1:=⟨m-1,by omega⟩
    simp only [pE] at h ⊢
    split at h
    · cases h
    · exact tC n h m' (by omega)
    · exact h
open Classical in
noncomputable def dN {σ Y : Type} (B : σ → Option (σ ⊕ Y)) (s : σ) : Option Y :=
  if h : ∃ n y, pE B n s = some y then some h.choose_spec.choose else none
theorem rE{σ Y:Type}{B:σ→Option (σ⊕Y)}{s:σ}{y:Y} :dN B s=some y↔∃ n,pE B n s=some y:=by
  unfold dN
  constructor
  · intro h
    split at h
    · rename_i q
      simp only [Option.some.injEq] at h
      exact ⟨q.choose,by rw [←h];exact q.choose_spec.choose_spec⟩
    · cases h
  · rintro ⟨n,h⟩
    rw [dif_pos ⟨n,y,h⟩]
    generalize hq:(⟨n,y,h⟩:∃ n y,pE B n s=some y)=q
    have h1:=q.choose_spec.choose_spec
    have a1:=tC n h (max n q.choose) (by omega)
    have a2:=tC _ h1 (max n q.choose) (by omega)
    rw [a1] at a2
    exact a2.symm
theorem El{σ Y:Type}(B:σ→Option (σ⊕Y))(s:σ) :dN B s=match B s with
    | none=>none
    | some (.inl s')=>dN B s'
    | some (.inr y)=>some y:=by
  have key:∀ y,dN B s=some y↔(match B s with | none=>none | some (.inl s')=>dN B s' | some (.inr y)=>some y)=some y:=by
    intro y
    rw [rE]
    constructor
    · rintro ⟨n,h⟩
      cases n with
      | zero=>cases h
      | succ n =>
        simp only [pE] at h
        cases q:B s with
        | none=>rw [q] at h;cases h
        | some z=>cases z with
          | inl s'=>rw [q] at h;exact rE.2 ⟨n,h⟩
          | inr z=>rw [q] at h;exact h
    · intro h
      split at h<;>rename_i q
      · cases h
      · obtain ⟨n,hn⟩:=rE.1 h
        exact ⟨n+1,by simp only [pE,q];exact hn⟩
      · exact ⟨1,by simp only [pE,q];exact h⟩
  generalize (match B s with | none=>none | some (.inl s')=>dN B s' | some (.inr y)=>some y)=x at key
  cases hl:dN B s with
  | none=>cases x with
    | none=>rfl
    | some y=>rw [(key y).2 rfl] at hl;cases hl
  | some y=>rw [hl] at key;exact ((key y).1 rfl).symm
theorem Em{σ Y:Type}{B:σ→Option (σ⊕Y)}{s s':σ}(h:B s=some (.inl s')) :dN B s=dN B s':=by rw [El,h]
theorem BZ{σ Y:Type}{B:σ→Option (σ⊕Y)}{s:σ}{y:Y}(h:B s=some (.inr y)) :dN B s=some y:=by rw [El,h]
theorem Hd{σ Y:Type}{B:σ→Option (σ⊕Y)}(G:σ→Prop)(m:σ→Nat)(Q:Y→Prop)(h:∀ s,G s→(∃ s',B s=some (.inl s')∧G s'∧m s'<m s)∨∃ y,B s=some (.inr y)∧Q y) :
    ∀ s,G s→∃ y,dN B s=some y∧Q y:=by
  have key:∀ n s,m s<n→G s→∃ y,dN B s=some y∧Q y:=by
    intro n
    induction n with
    | zero=>intro s q;omega
    | succ n ih =>
      intro s q hs
      rcases h s hs with ⟨s',h1,h2,h3⟩ | ⟨y,h1,h2⟩
      · obtain ⟨y,k1,k2⟩:=ih s' (by omega) h2
        exact ⟨y,by rw [Em h1];exact k1,k2⟩
      · exact ⟨y,BZ h1,h2⟩
  exact fun s hs=>key _ s (Nat.lt_succ_self _) hs
def gY{ρ X:Type}(id:Nat)(J:ρ→aA)(E:X→AE×aA) :ρ⊕X→AE×aA
  | .inl r=>(.exit id,J r)
  | .inr x=>E x
def rI{X:Type}(id:Nat)(E:X→AE×aA) :Prop:=∀ x,(E x).1 ≠ .exit id
theorem Sg.loop{P:Program}{lent:List aj}{σ ρ X:Type}{I:σ→aA}{J:ρ→aA}{E:X→AE×aA}{B:σ→Option (σ⊕(ρ⊕X))}{id:Nat}{b:Code}(hE:qi E)(hI:rI id E) 
    (hb:∀ s,Sg P lent (dn b) (I s) (B s) I (gY id J E)) (s:σ):Sg P lent [.block id (.loop b)] (I s) (dN B s) J E:=by
  intro y hy
  obtain ⟨n,hn⟩:=rE.1 hy

  have:=da.loop (P:=P) (lent:=lent) (id:=id) (b:=b) (rest:=[]) (Q:=fun e st'=>(e,st')=qE J E y) (σ:=Nat×σ) (fun s=>I s.2) (fun s=>pE B s.1 s.2=some y) (fun s=>s.1) rfl (fun s hs=>?_) (n,s) hn
  · exact this
  · obtain ⟨n,s⟩:=s
    simp only at hs ⊢
    cases n with
    | zero=>cases hs
    | succ n =>
      simp only [pE] at hs
      split at hs
      · cases hs
      · rename_i s' hB
        refine (hb s _ hB).mono ?_
        intro e st' q
        simp only [qE,Prod.mk.injEq] at q
        obtain ⟨rfl,rfl⟩:=q
        exact ⟨(n,s'),hs,by simp,rfl⟩
      · rename_i y' hB
        simp only [Option.some.injEq] at hs;subst hs
        refine (hb s _ hB).mono ?_
        intro e st' q
        cases y' with
        | inl r =>
          simp only [qE,gY,Prod.mk.injEq] at q
          obtain ⟨rfl,rfl⟩:=q
          simp only [uT,if_true]
          exact da.nil rfl
        | inr x =>
          simp only [qE,gY] at q
          have h1:=hE x
          have h2:=hI x
          rw [←q] at h1 h2
          simp only at h1 h2
          cases e with
          | normal=>exact (h1 rfl).elim
          | ret=>exact q
          | exit j =>
            have hj : ¬ j=id:=fun h=>h2 (by rw [h])
            simp only [uT,hj,if_false]
            exact q
def sB{κ X:Type}(m:Option (κ⊕(κ⊕X))) :Option (κ⊕X) :=
  match m with
  | none=>none
  | some (.inl a)=>some (.inl a)
  | some (.inr (.inl a))=>some (.inl a)
  | some (.inr (.inr x))=>some (.inr x)
theorem Sg.block{P:Program}{lent:List aj}{κ X:Type}{K:κ→aA}{E:X→AE×aA}{m:Option (κ⊕(κ⊕X))}{id:Nat}{b:Code}{st:aA}(hE:qi E)(hI:rI id E) 
    (hb:Sg P lent (dn b) st m K (gY id K E)):Sg P lent [.block id b] st (sB m) K E:=by
  intro r hr
  unfold sB at hr
  refine da.block (rest:=[]) rfl ?_
  split at hr
  · cases hr
  · simp only [Option.some.injEq] at hr;subst hr
    refine (hb _ rfl).mono ?_
    intro e st' q
    simp only [qE,Prod.mk.injEq] at q
    obtain ⟨rfl,rfl⟩:=q
    exact da.nil rfl
  · simp only [Option.some.injEq] at hr;subst hr
    refine (hb _ rfl).mono ?_
    intro e st' q
    simp only [qE,gY,Prod.mk.injEq] at q
    obtain ⟨rfl,rfl⟩:=q
    simp only [if_true]
    exact da.nil rfl
  · rename_i x
    simp only [Option.some.injEq] at hr;subst hr
    refine (hb _ rfl).mono ?_
    intro e st' q
    simp only [qE,gY] at q
    have h1:=hE x
    have h2:=hI x
    rw [←q] at h1 h2
    simp only at h1 h2
    cases e with
    | normal=>exact (h1 rfl).elim
    | ret=>exact q
    | exit j =>
      have hj : ¬ j=id:=fun h=>h2 (by rw [h])
      simp only [hj,if_false]
      exact q
theorem Sg.scope{P:Program}{lent:List aj}{α X:Type}{N:α→aA}{E:X→AE×aA}{m:Option (α⊕X)}{b:Code}{st:aA}(hE:qi E)(hb:Sg P lent (dn b) st m N E) :Sg P lent [.scope b] st m N E:=by
  intro r hr
  refine da.scope (rest:=[]) rfl ((hb r hr).mono ?_)
  intro e st' q
  cases r with
  | inl a =>
    simp only [qE,Prod.mk.injEq] at q
    obtain ⟨rfl,rfl⟩:=q
    exact da.nil rfl
  | inr x =>
    refine Gt ?_ q
    have:=hE x
    simp only [qE] at q
    rw [←q] at this;exact this
theorem En{k:Nat}{ρ0:ae}{w0:World}{st:aA}{a:Act}{w:World}{c:Operand}{b kn:Bool}(h:At k ρ0 w0 st a w)(hc:I1 st.tmps c=.bool kn b) :At k ρ0 w0 { st with tmps:=jQ st.tmps c b } a w∧a.eval c=.bool b:=by
  obtain ⟨ρ,E,W,hs,hbk,hle⟩:=h
  have hb:a.eval c=.bool b:=by
    have:=yJ hs.heap.rom hs.tmps c
    rw [hc] at this
    generalize a.eval c=z at this
    cases this;rfl
  refine ⟨⟨ρ,E,W,⟨hs.defers,?_,hs.heap⟩,hbk,hle⟩,hb⟩
  cases c with
  | tmp t =>
    simp only [jQ]
    have:bG ρ w (st.tmps.set t (.bool true b)) (a.tmps.toList.set t (.bool b)):=hs.tmps.set (.bool _ _) t
    have e:a.tmps.toList.set t (.bool b)=a.tmps.toList:=by
      apply List.ext_getElem?
      intro j
      rw [List.getElem?_set]
      split
      · rename_i q;subst q
        split
        · rename_i hlt
          simp only [Act.eval] at hb
          rw [Array.getD_eq_getD_getElem?] at hb
          have hlt':t<a.tmps.size:=by simpa using hlt
          rw [Array.getElem?_eq_getElem hlt'] at hb
          simp only [Option.getD_some] at hb
          simp [hlt',hb]
        · rename_i hge
          rw [List.getElem?_eq_none (by omega)]
      · rfl
    rw [e] at this;exact this
  | const v=>exact hs.tmps
  | global g=>exact hs.tmps
  | func f=>exact hs.tmps
theorem Sg.cond{P:Program}{lent:List aj}{α X:Type}{N:α→aA}{E:X→AE×aA}{m1 m2:Option (α⊕X)}{c:Operand}{A B:Code}{st:aA}{kn b:Bool}(hE:qi E)(hc:I1 st.tmps c=.bool kn b) 
    (h1:Sg P lent (dn A) { st with tmps:=jQ st.tmps c true } m1 N E) (h2:Sg P lent (dn B) { st with tmps:=jQ st.tmps c false } m2 N E):Sg P lent [.cond c A B] st (bif b then m1 else m2) N E:=by
  intro r hr
  intro ρ0 w0 hN K hK a w hA
  simp only [AM]
  obtain ⟨hA',hb⟩:=En hA hc
  refine wp_cond hb ?_
  have fin:∀ (D:Code) (m:Option (α⊕X)) (st1:aA),Sg P lent (dn D) st1 m N E→m=some r→At lent.length ρ0 w0 st1 a w→D.wp P (fun e a' w'=>match e with | .normal=>K .normal a' w' | e=>K e a' w') a w:=by
    intro D m st1 hS hm hA1
    refine oX D (hS r hm ρ0 w0 hN _ ?_ a w hA1)
    intro e st' a' w' q hA2
    cases e with
    | normal=>exact hK .normal st' a' w' q hA2
    | ret=>exact hK .ret st' a' w' q hA2
    | exit id=>exact hK (.exit id) st' a' w' q hA2
  cases b with
  | true=>exact fin A m1 _ h1 hr hA'
  | false=>exact fin B m2 _ h2 hr hA'
theorem Sg.pre{P:Program}{lent:List aj}{α X:Type}{N:α→aA}{E:X→AE×aA}{m:Option (α⊕X)}{cs:List Code}{st st1:aA}(s:NS)(hn:s.ok lent.length=true)(h1:s.on st=st1)(h:Sg P lent cs st1 m N E) :Sg P lent cs st m N E :=
  fun r hr=>da.weak (by rw [←h1];exact H6 hn st) (h r hr)
def uZ{X:Type} :Option (Empty⊕X)→Option X
  | some (.inr x)=>some x
  | _=>none
theorem Sg.contract{P:Program}{f:FuncId}{fn:Func}{c:Code}{X:Type}{N:Empty→aA}{E:X→AE×aA}{m:Option (Empty⊕X)}{lent:List aj}{args:List AV}(keep:Bool)(o:X→mb)(hf:P.funcs[f]? = some fn)(hc:fn.body=some c) 
    (h:Sg P lent (dn c) (ni fn lent args) m N E) (hE:∀ x,Gg P fn lent.length keep (o x) (E x).1 (E x).2) {x:X} (hx:uZ m=some x):am P f lent args (o x):=by
  unfold uZ at hx
  split at hx
  · rename_i x'
    simp only [Option.some.injEq] at hx;subst hx
    refine da.contract (keep:=keep) hf hc ((h _ rfl).mono ?_)
    intro e st' q
    simp only [qE] at q
    have:=hE x'
    rw [←q] at this;exact this
  · cases hx
end Go.Plb
namespace Go.Plb
set_option linter.unusedSectionVars false
variable [Rom]
theorem dc{ρ X:Type}{id:Nat}{J:ρ→aA}{E:X→AE×aA}(h:qi E) :qi (gY id J E):=by
  intro x
  cases x with
  | inl r=>intro q;cases q
  | inr x=>exact h x
def mH:Code→Code
  | .block _ (.loop b)=>b
  | _=>.skip
def inBlock:Code→Code
  | .block _ b=>b
  | _=>.skip
def Gu:Code→Code
  | .scope b=>b
  | _=>.skip
def Fu:Code→Code
  | .cond _ a _=>a
  | _=>.skip
def Fv:Code→Code
  | .cond _ _ b=>b
  | _=>.skip
theorem Sg.cut{P:Program}{lent:List aj}{α β X:Type}{cs:List Code}{st:aA}{m:Option (α⊕X)}{N1:α→aA}{E:X→AE×aA}{k:α→Option (β⊕X)}{N:β→aA}(n:Nat)(hE:qi E) 
    (h:Sg P lent (cs.take n) st m N1 E) (hk:∀ a,Sg P lent (cs.drop n) (N1 a) (k a) N E):Sg P lent cs st (bg m k) N E:=by
  have:=Sg.seq hE h hk
  rwa [List.take_append_drop] at this
theorem B0{P:Program}{lent:List aj}{σ ρ X:Type}{I:σ→aA}{J:ρ→aA}{E:X→AE×aA}{B:σ→Option (σ⊕(ρ⊕X))}{id:Nat}{b:Code}{cs:List Code}(hcs:cs=[.block id (.loop b)])(hE:qi E)(hI:rI id E) 
    (hb:∀ s,Sg P lent (dn b) (I s) (B s) I (gY id J E)) (s:σ):Sg P lent cs (I s) (dN B s) J E:=by rw [hcs];exact Sg.loop hE hI hb s
theorem Fw{P:Program}{lent:List aj}{κ X:Type}{K:κ→aA}{E:X→AE×aA}{m:Option (κ⊕(κ⊕X))}{id:Nat}{b:Code}{st:aA}{cs:List Code}(hcs:cs=[.block id b])(hE:qi E)(hI:rI id E) 
    (hb:Sg P lent (dn b) st m K (gY id K E)):Sg P lent cs st (sB m) K E:=by rw [hcs];exact Sg.block hE hI hb
theorem Fx{P:Program}{lent:List aj}{α X:Type}{N:α→aA}{E:X→AE×aA}{m:Option (α⊕X)}{b:Code}{st:aA}{cs:List Code}(hcs:cs=[.scope b])(hE:qi E)(hb:Sg P lent (dn b) st m N E) :Sg P lent cs st m N E:=by
  rw [hcs];exact Sg.scope hE hb
theorem wx{P:Program}{lent:List aj}{α X:Type}{N:α→aA}{E:X→AE×aA}{m1 m2:Option (α⊕X)}{c:Operand}{A B:Code}{st:aA}{kn b:Bool}{cs:List Code}(hcs:cs=[.cond c A B])(hE:qi E)(hc:I1 st.tmps c=.bool kn b) 
    (h1:Sg P lent (dn A) { st with tmps:=jQ st.tmps c true } m1 N E) (h2:Sg P lent (dn B) { st with tmps:=jQ st.tmps c false } m2 N E):Sg P lent cs st (bif b then m1 else m2) N E:=by rw [hcs];exact Sg.cond hE hc h1 h2
end Go.Plb
namespace Go.Plb.Seat
open Go Go.Plb
set_option linter.unusedSimpArgs false
set_option linter.unusedVariables false
noncomputable abbrev E0:uR:=bf []
def L1:List aH:=[]
def S1:uR:=bf L1
theorem KJ:aZ prog S1:=tz _
end Go.Plb.Seat
namespace Go.Plb.Seat
open Go Go.Plb
set_option linter.unusedSimpArgs false
set_option linter.unusedVariables false
set_option maxRecDepth 100000
def fw(n:Nat) :Bool:=Nat.ble n 1000000000
noncomputable def L2:List aH:=L1
theorem KK:aZ prog (bf L2):=KJ
end Go.Plb.Seat
namespace Go.Plb.Seat
open Go Go.Plb
set_option linter.unusedSimpArgs false
set_option linter.unusedVariables false
theorem am.nan{f:FuncId}{g:Nat→mb}{r:mb}(h:∀ n:Nat,am prog f [] [.int .u64 (n:Int)] (g n))(e:∀ n:Nat,isNaN n=true→g n=r) :am prog f [] [.nan] r:=by
  intro ρ w us hN hv
  cases hv with | cons _ u _ _ h1 h2 =>
  cases h2
  cases h1 with | nan n hn =>
  rw [←e n hn]
  exact h n ρ w _ hN (.cons _ _ _ _ (.int _ _) .nil)
noncomputable def L3:List aH:=L2
theorem Lw:aZ prog (bf L3):=KK
end Go.Plb.Seat
namespace Go.Plb.Seat
open Go Go.Plb
set_option linter.unusedVariables false
set_option maxRecDepth 100000
theorem cN{S:uR}(hS:aZ prog S){lent:List aj}{α X:Type}{cs:List Code}{st:aA}{t:T (α⊕X)}(N:α→aA){E:X→AE×aA}(ks:List NS) 
    (h:IA C0 S 60 cs st t.leaves ks lent.length=Gr N E t.leaves:=by kernel_rfl):Sg prog lent cs st t.run N E:=Sg.seg JO hS 60 cs st t N E ks h
theorem Kc{lent:List aj}{σ ρ X:Type}{cs:List Code}{st:aA}{E:X→AE×aA}{B:σ→Option (σ⊕(ρ⊕X))}{ent:σ}(s:NS)(I:σ→aA)(J:ρ→aA)(id:Nat)(hE:qi E)(hI:rI id E) 
    (hb:∀ a,Sg prog lent (dn (mH (cs.headD .skip))) (I a) (B a) I (gY id J E)) (hn:s.ok lent.length=true:=by exact rfl) (h1:s.on st=I ent:=by kernel_rfl) (hcs:cs=[.block id (.loop (mH (cs.headD .skip)))]:=by kernel_rfl) :
    Sg prog lent cs st (dN B ent) J E:=Sg.pre s hn h1 (B0 hcs hE hI hb ent)
theorem Lx{lent:List aj}{κ X:Type}{cs:List Code}{st:aA}{E:X→AE×aA}{m:Option (κ⊕(κ⊕X))}(K:κ→aA)(id:Nat)(hE:qi E)(hI:rI id E) 
    (hb:Sg prog lent (dn (inBlock (cs.headD .skip))) st m K (gY id K E)) (hcs:cs=[.block id (inBlock (cs.headD .skip))]:=by kernel_rfl):Sg prog lent cs st (sB m) K E:=Fw hcs hE hI hb
def vS:Empty→aA:=fun a=>a.elim
theorem qj{fn:Func}{k:Nat}{keep:Bool}{o:mb}{st:aA}(vs:List AV)(h1:eB prog fn st fn.results.toList=some (vs,[]):=by kernel_rfl)(h2:zo k keep st.heap (wm vs)=some o:=by kernel_rfl) :Gg prog fn k keep o .ret st :=
  ⟨.inr rfl,vs,[],h1,trivial,h2⟩
theorem yB{f:FuncId}{X:Type}{m:Option (Empty⊕X)}{lent:List aj}{args:List AV}{x:X}(keep:Bool)(o:X→mb)(E:X→AE×aA)(hx:uZ m=some x) 
    (h:Sg prog lent (dn (tA f)) (ni (FN f) lent args) m vS E) (hE:∀ x,Gg prog (FN f) lent.length keep (o x) (E x).1 (E x).2)
    (hf:prog.funcs[f]? = some (FN f):=by kernel_rfl) (hc:(FN f).body=some (tA f):=by kernel_rfl):am prog f lent args (o x) :=
  Sg.contract (P:=prog) (f:=f) (fn:=FN f) (c:=tA f) (N:=vS) (E:=E) (lent:=lent) (args:=args) keep o hf hc h hE hx
end Go.Plb.Seat
namespace Go.Plb.Seat
open Go Go.Plb
noncomputable def KL:List aH:=[]
theorem yC:aZ prog (bf KL):=tz prog
end Go.Plb.Seat
namespace Go.Plb.Seat
open Go Go.Plb
set_option linter.unusedVariables false
set_option maxRecDepth 100000
noncomputable section
inductive cp where
  | r0 (s5:ByteArray)
def nv:cp→AE×aA
  | .r0 s5=>(.ret,⟨ap 20 [(2,.str s5)],[],0⟩)
theorem pf:qi nv:=by intro x;cases x<;>(intro h;cases h)
theorem CX(id:Nat) :rI id nv:=by intro x;cases x<;>(intro h;cases h)
def qF:cp→mb
  | .r0 s5=>⟨.str s5,[]⟩
noncomputable def CY:List Code:=dn (tA lp)
def CZ(w_0:Int)(l1:(List Int)) :aA:=⟨ap 20 [(0,.int .u64 w_0),(3,.ptr 0 1 0 0),(5,.int .i64 (0:Int))],[(0,.ns .u8 l1)],1⟩
def C1:T (((List Int))⊕(cp)) :=
  .leaf (.inl [(0:Int),(0:Int),(0:Int),(0:Int),(0:Int),(0:Int),(0:Int),(0:Int),(0:Int),(0:Int),(0:Int),(0:Int),(0:Int),(0:Int),(0:Int),(0:Int)])
def mg(w_0:Int) :Nat×(List Int)→aA:=fun (a2,l3)=>⟨ap 20 [(0,.int .u64 w_0),(3,.ptr 0 1 0 0),(5,.int .i64 ((a2:Nat):Int))],[(0,.ns .u8 l3)],1⟩
def va(l4:(List Int)) :aA:=⟨ap 20 [(3,.ptr 0 1 0 0)],[(0,.ns .u8 l4)],1⟩
noncomputable def C2:List Code:=dn (mH ((((CY.drop 3).take 1)).headD .skip))
def pg(w_0:Int)(a2:Nat)(l3:List Int) :T ((Nat×(List Int))⊕(((List Int))⊕(cp))) :=
  .ask (decide (((a2:Nat):Int)<(16:Int)))
    (.need (kp .i64 (((4*a2):Nat):Int))<|.need (kp .i64 ((60:Int)-(((4*a2):Nat):Int)))<|.need (decide ((0:Int)≤((60:Int)-(((4*a2):Nat):Int))))<|.need (vR (sf .and .u64 (Int.fdiv w_0 (2^(min (Int.toNat ((60:Int)-(((4*a2):Nat):Int))) (IntKind.u64.bits)))) (15:Int)) (ByteArray.mk #[48,49,50,51,52,53,54,55,56,57,65,66,67,68,69,70]).size)<|.need (vR ((a2:Nat):Int) 16)<|.need (mA (cv (cv 0 (xS a2 1)) 0) (List.length l3))<|.need (kp .i64 (((a2+1):Nat):Int))<|.leaf (.inl ((a2+1),(List.set l3 (cv (cv 0 (xS a2 1)) 0) (cg (ByteArray.mk #[48,49,50,51,52,53,54,55,56,57,65,66,67,68,69,70]) (Int.toNat (sf .and .u64 (Int.fdiv w_0 (2^(min (Int.toNat ((60:Int)-(((4*a2):Nat):Int))) (IntKind.u64.bits)))) (15:Int))))))))
    (.leaf (.inr (.inl l3)))
noncomputable def jn(w_0:Int) :Nat×(List Int)→Option ((Nat×(List Int))⊕(((List Int))⊕(cp))):=fun (a2,l3) =>
  (pg w_0 a2 l3).run
theorem A6(w_0:Int)(a2:Nat)(l3:List Int) :Sg prog [] C2 (mg w_0 (a2,l3)) (jn w_0 (a2,l3)) (mg w_0) (gY 0 va nv):=by
  unfold jn;exact cN yC (mg w_0) [⟨[],[0],[0,3,5]⟩,⟨[],[0],[3]⟩]
def sC(l4:List Int) :T ((Empty)⊕(cp)) :=
  .need (lW (16:Int) 16)<|.need (lW (0:Int) 16)<|.need (gK 16 (List.length l4))<|.need (gK 16 (List.length l4))<|.leaf (.inr (.r0 (su (List.take 16 l4))))
noncomputable def nx(w_0:Int) :Option cp:=uZ (bg ((C1).run) fun l1 =>
  bg (dN (jn w_0) (0,l1)) fun l4 =>
  (sC l4).run)
theorem vb(w_0:Int){x:cp}(h:nx w_0=some x) :am prog lp [] [.int .u64 w_0] (qF x) :=
  yB false qF nv h (Sg.cut 3 pf (cN yC (CZ w_0) [⟨[],[16],[0,3,5]⟩]) (fun l1=>Sg.cut 1 pf (Kc ⟨[],[0],[0,3,5]⟩ (mg w_0) (va) 0 pf (CX _) (fun ⟨a2,l3⟩=>A6 w_0 a2 l3)) (fun l4=>cN yC vS [⟨[],[],[2]⟩])))
    (fun x=>by cases x with | r0 s5=>exact qj [.str s5])
def ph:Option cp→Bool
  | some _=>true
  | none=>false
def qG:Option cp→ByteArray
  | some (.r0 x)=>x
  | _=>ByteArray.empty
theorem C3{x:Option cp}(h:ph x=true) :x=some (.r0 (qG x)):=by
  unfold ph at h
  split at h<;>first | rfl | (cases h;done) | (rename_i y;cases y;rfl)
noncomputable def xJ:aH:=db lp (.cons (.int .u64) .nil) fun t=>(fun q=>[⟨qF (.r0 (qG q)),[ph q]⟩]) (nx t.1)
theorem zH:aL prog xJ:=aP fun t=>(ba (fun h=>vb t.1 (C3 h)) bF)
noncomputable def Eo:List aH:=xJ::KL
theorem IB:aZ prog (bf Eo):=aq zH yC
end
end Go.Plb.Seat
namespace Go.Plb
set_option linter.unusedSimpArgs false
set_option linter.unusedVariables false
set_option linter.unusedSectionVars false
variable [Rom]
theorem aQ{α:Type}{b:Bool}{t:T α}{x:Option α}(h:b=true)(k:t.run=x) :(T.need b t).run=x:=by subst h;exact k
theorem jY{α:Type}{b:Bool}{t f:T α}{x:Option α}(h:b=true)(k:t.run=x) :(T.ask b t f).run=x:=by subst h;exact k
theorem dx{α:Type}{b:Bool}{t f:T α}{x:Option α}(h:b=false)(k:f.run=x) :(T.ask b t f).run=x:=by subst h;exact k
theorem jo{α:Type}{b:Bool}{t:T α}{x:Option α}(k:t.run=x)(h:b=true:=by exact rfl) :(T.need b t).run=x:=aQ h k
theorem cz{α:Type}{b:Bool}{t f:T α}{x:Option α}(k:t.run=x)(h:b=true:=by exact rfl) :(T.ask b t f).run=x:=jY h k
theorem bt{α:Type}{b:Bool}{t f:T α}{x:Option α}(k:f.run=x)(h:b=false:=by exact rfl) :(T.ask b t f).run=x:=dx h k
theorem au{α β X:Type}{m:Option (α⊕X)}{k:α→Option (β⊕X)}{a:α}{x:Option (β⊕X)}(h:m=some (.inl a))(q:k a=x) :bg m k=x:=by subst h;exact q
theorem jp{α β X:Type}{m:Option (α⊕X)}{k:α→Option (β⊕X)}{y:X}(h:m=some (.inr y)) :bg m k=some (.inr y):=by subst h;rfl
theorem IC{κ X:Type}{m:Option (κ⊕(κ⊕X))}{a:κ}(h:m=some (.inl a)) :sB m=some (.inl a):=by subst h;rfl
theorem He{κ X:Type}{m:Option (κ⊕(κ⊕X))}{a:κ}(h:m=some (.inr (.inl a))) :sB m=some (.inl a):=by subst h;rfl
theorem Hf{κ X:Type}{m:Option (κ⊕(κ⊕X))}{a:X}(h:m=some (.inr (.inr a))) :sB m=some (.inr a):=by subst h;rfl
theorem cq{X:Type}{m:Option (Empty⊕X)}{x:X}(h:m=some (.inr x)) :uZ m=some x:=by subst h;rfl
theorem Hg{σ Y:Type}{B:σ→Option (σ⊕Y)}(st:Nat→σ)(n:Nat){y:Y}(i:Nat)(hi:i≤n)(step:∀ j,i≤j→j<n→B (st j)=some (.inl (st (j+1))))(done:B (st n)=some (.inr y)) :dN B (st i)=some y:=by
  obtain ⟨d,rfl⟩:∃ d,n=i+d:=⟨n-i,by omega⟩
  clear hi
  induction d generalizing i with
  | zero=>exact BZ done
  | succ d ih =>
    rw [Em (step i (Nat.le_refl _) (by omega))]
    have e:i+(d+1)=i+1+d:=by omega
    rw [e] at step done
    exact ih (i+1) (fun j h1 h2=>step j (by omega) h2) done
theorem qH{σ Y:Type}{B:σ→Option (σ⊕Y)}(st:Nat→σ)(n:Nat){y:Y}{s0:σ}(h0:s0=st 0)(step:∀ j,j<n→B (st j)=some (.inl (st (j+1))))(done:B (st n)=some (.inr y)) :dN B s0=some y:=by
  rw [h0];exact Hg st n 0 (Nat.zero_le _) (fun j _=>step j) done
theorem cB{n:Int} :kp .i64 n=true↔-9223372036854775808≤n∧n≤9223372036854775807:=by
  have e1:IntKind.i64.min = -9223372036854775808:=by decide
  have e2:IntKind.i64.max=9223372036854775807:=by decide
  simp only [kp,e1,e2,Bool.and_eq_true,decide_eq_true_eq]
theorem B1{k:Int}{n:Nat} :vR k n=true↔0≤k∧k<n:=by simp only [vR,Bool.and_eq_true,decide_eq_true_eq]
theorem JQ{k:Int}{n:Nat} :lW k n=true↔0≤k∧k≤n:=by simp only [lW,Bool.and_eq_true,decide_eq_true_eq]
theorem yD{k n:Nat} :mA k n=true↔k<n:=by simp [mA]
theorem bR{k n:Nat} :gK k n=true↔k≤n:=by simp [gK]
theorem Gv{k n:Nat} :Nat.blt k n=true↔k<n:=by rw [Nat.blt_eq]
def A7{α:Type}(pos:Nat→Nat)(val:Nat→α)(l:List α) :Nat→List α
  | 0=>l
  | n+1=>(A7 pos val l n).set (pos n) (val n)
theorem vc{α:Type}{pos:Nat→Nat}{val:Nat→α}{l:List α} :∀ {n:Nat},(A7 pos val l n).length=l.length
  | 0=>rfl
  | n+1=>by simp only [A7,List.length_set];exact vc
theorem ID{α:Type}(l:List α) :lG 0 l.length l=true:=by rw [oo];omega
theorem sD{α:Type}{b:Bool}{t:T α}{x:Option α}(k:t.run=x)(h:b=true:=by exact ID _) :(T.need b t).run=x:=aQ h k
theorem tD(n:Nat) :Int.toNat (n:Int)=n:=rfl
def Dt{α:Type}(m:Option α)(Q:α→Prop) :Prop:=∃ r,m=some r∧Q r
theorem Dt.mono{α:Type}{m:Option α}{Q R:α→Prop}(h:Dt m Q)(k:∀ r,Q r→R r) :Dt m R:=by
  obtain ⟨r,a,b⟩:=h
  exact ⟨r,a,k r b⟩
def T.wp{α:Type}(Q:α→Prop) :T α→Prop
  | .fail=>False
  | .leaf a=>Q a
  | .ask b t f=>(b=true→t.wp Q)∧(b=false→f.wp Q)
  | .need b t=>b=true∧t.wp Q
  | .alt _ t e=>t.wp Q∨(t.run=none∧e.wp Q)
theorem Dt.seq{α β X:Type}{m:Option (α⊕X)}{k:α→Option (β⊕X)}{N:β→Prop}{E:X→Prop}(h:Dt m (Sum.elim (fun a=>Dt (k a) (Sum.elim N E)) E)) :Dt (bg m k) (Sum.elim N E):=by
  obtain ⟨r,a,b⟩:=h
  cases r with
  | inl x =>
    obtain ⟨r',a',b'⟩:=b
    exact ⟨r',au a a',b'⟩
  | inr x=>exact ⟨.inr x,jp a,b⟩
theorem Dt.join{κ X:Type}{m:Option (κ⊕(κ⊕X))}{N:κ→Prop}{E:X→Prop}(h:Dt m (Sum.elim N (Sum.elim N E))) :Dt (sB m) (Sum.elim N E):=by
  obtain ⟨r,a,b⟩:=h
  rcases r with x | x | x
  · exact ⟨.inl x,IC a,b⟩
  · exact ⟨.inl x,He a,b⟩
  · exact ⟨.inr x,Hf a,b⟩
theorem Dt.loop{σ Y:Type}{B:σ→Option (σ⊕Y)}(I:σ→Prop)(m:σ→Nat){Q:Y→Prop}{s:σ}(h0:I s)(h:∀ s,I s→Dt (B s) (Sum.elim (fun s'=>I s'∧m s'<m s) Q)) :Dt (dN B s) Q:=by
  obtain ⟨y,a,b⟩:=Hd I m Q (fun s hs=>by
    obtain ⟨r,a,b⟩:=h s hs
    cases r with
    | inl x=>exact .inl ⟨x,a,b.1,b.2⟩
    | inr y=>exact .inr ⟨y,a,b⟩) s h0
  exact ⟨y,a,b⟩
theorem Dt.map{α R:Type}{m:Option α}{g:α→R}{E:R→Prop}(h:Dt m fun a=>E (g a)) :Dt (Option.map g m) E:=by
  obtain ⟨r,a,b⟩:=h
  exact ⟨g r,by rw [a];rfl,b⟩
theorem Dt.some{α:Type}{a:α}{Q:α→Prop}(h:Q a) :Dt (some a) Q:=⟨a,rfl,h⟩
end Go.Plb
namespace Go.Plb.Seat
open Go Go.Plb
set_option linter.unusedSimpArgs false
set_option linter.unusedVariables false
set_option maxRecDepth 100000
def pj:ByteArray:=ByteArray.mk #[48,49,50,51,52,53,54,55,56,57,65,66,67,68,69,70]
def dg(w:Int)(j:Nat) :Nat:=((Int.fdiv w (2^(60-4*j)))%16).toNat
theorem JR(w:Int)(j:Nat) :dg w j<16:=by unfold dg;omega
def lq(w:Int) :List Int:=(List.range 16).map fun j=>cg pj (dg w j)
def bc(w:Int) :ByteArray:=su (lq w)
theorem Kd(x:Int) :sf .and .u64 x (15:Int)=(x%16):=by
  have e:sf .and .u64 x (15:Int)=IntKind.u64.wrap ((BitVec.ofInt 64 x &&& BitVec.ofInt 64 15).toNat:Int):=rfl
  rw [e,BitVec.toNat_and]
  have h15:(BitVec.ofInt 64 15).toNat=15:=by decide
  rw [h15]
  have hm:∀ n:Nat,n &&& 15=n%16:=fun n=>Nat.and_two_pow_sub_one_eq_mod n 4
  rw [hm]
  have hx:(BitVec.ofInt 64 x).toNat=(x%18446744073709551616).toNat:=by rw [BitVec.toNat_ofInt];rfl
  rw [hx]
  have:IntKind.u64.wrap (((x%18446744073709551616).toNat%16:Nat):Int)=(((x%18446744073709551616).toNat%16:Nat):Int):=by
    show ((((x%18446744073709551616).toNat%16:Nat):Int)%18446744073709551616)=_
    omega
  rw [this]
  omega
theorem Gw(w:Int){j:Nat}(hj:j<16) :sf .and .u64 (Int.fdiv w (2^(min (Int.toNat ((60:Int)-(((4*j):Nat):Int))) (IntKind.u64.bits)))) (15:Int)=((dg w j:Nat):Int):=by
  rw [Kd]
  have e:min (Int.toNat ((60:Int)-(((4*j):Nat):Int))) (IntKind.u64.bits)=60-4*j:=by
    have:IntKind.u64.bits=64:=rfl
    rw [this];omega
  rw [e]
  unfold dg
  omega
theorem B2{α:Type}(val:Nat→α)(l:List α) :∀ (n:Nat),n≤l.length→List.take n (A7 (fun j=>j) val l n)=(List.range n).map val
  | 0,_=>rfl
  | n+1,h=>by
    have ih:=B2 val l n (by omega)
    have hl:(A7 (fun j=>j) val l n).length=l.length:=vc
    simp only [A7]
    rw [List.take_add_one,List.take_set_of_le (Nat.le_refl _),ih,List.getElem?_set,if_pos rfl,if_pos (by omega),List.range_succ,List.map_append]
    rfl
theorem C4(w:Int) :nx w=some (.r0 (bc w)):=by
  unfold nx
  refine cq (au rfl (au (a:=A7 (fun j=>j) (fun j=>cg pj (dg w j)) (List.replicate 16 (0:Int)) 16) (qH (fun j=>(j,A7 (fun j=>j) (fun j=>cg pj (dg w j)) (List.replicate 16 (0:Int)) j)) 16 rfl (fun j hj=>?_) ?_) ?_))
  · simp only [jn,pg]
    have hl:(A7 (fun j=>j) (fun j=>cg pj (dg w j)) (List.replicate 16 (0:Int)) j).length=16:=by rw [vc];rfl
    have hd:=JR w j
    have ha:cv (cv 0 (xS j 1)) 0=j:=by cases j<;>simp [cv,xS]
    rw [Gw w hj,ha,hl]
    refine jY (by simp;omega) (aQ (by rw [cB];omega) (aQ (by rw [cB];omega) (aQ (by simp;omega) (aQ ?_ (aQ (by rw [B1];omega) (aQ (by rw [yD];omega) (aQ (by rw [cB];omega) rfl)))))))
    rw [B1]
    exact ⟨by omega,by show ((dg w j:Nat):Int)<((16:Nat):Int);omega⟩
  · simp only [jn,pg]
    exact dx (by simp) rfl
  · simp only [sC]
    have hl:(A7 (fun j=>j) (fun j=>cg pj (dg w j)) (List.replicate 16 (0:Int)) 16).length=16:=by rw [vc];rfl
    rw [hl]
    refine aQ (by decide) (aQ (by decide) (aQ (by decide) (aQ (by decide) ?_)))
    rw [B2 _ _ 16 (by decide)]
    rfl
theorem IE(w:Int) :am prog lp [] [.int .u64 w] ⟨.str (bc w),[]⟩:=vb w (C4 w)
end Go.Plb.Seat
namespace Go.Plb.Seat
open Go Go.Plb Go.Proofs Go.RowKit
set_option maxRecDepth 100000
set_option linter.unusedSimpArgs false
set_option linter.unusedVariables false
theorem xK(s:ByteArray)(pos:Nat)(h:pos<s.size) :1≤(Utf8.decode s pos).2:=by
  by_cases ha:(s[pos]'h).toNat<128
  · rw [decode_ascii s pos h ha]
    exact Nat.le_refl _
  · exact (decode_high s pos h (by omega)).2
theorem Fy(n:Int)(w:World)(hr:dW w) :Calls prog 49 #[.int .u64 n] w fun e w'=>e=.returned (.string (bc n))∧Below w.heap.size w w':=by
  refine ((IE n).calls w hr (us:=[.int .u64 n]) (.cons _ _ _ _ (.int _ _) .nil)).mono ?_
  rintro e w' ⟨u,ρ',rfl,hb,hu⟩
  cases hu
  exact ⟨rfl,hb⟩
def I3(r:Int) :Nat:=if 48≤r∧r≤57 then (r-48).toNat else if 65≤r∧r≤70 then (r-55).toNat else 16
def JS(acc:Int)(r:Int) :Int:=bits .or .u64 (IntKind.u64.wrap (acc*16)) (IntKind.u64.wrap (bits .and .i64 (I3 r:Int) 15))
def ov(s:ByteArray) :Nat→Nat→Int→Int
  | 0,_,acc=>acc
  | f+1,pos,acc=>if pos<s.size then ov s f (pos+(Utf8.decode s pos).2) (JS acc (Utf8.decode s pos).1) else acc
def hU(s:ByteArray) :Bool:=decide (s.size=16)&&decide (bc (ov s s.size 0 0)=s)
def lQ(s:ByteArray) :Int:=bif hU s then ov s s.size 0 0 else 0
def ow(s:ByteArray) :Int:=bif hU s then 0 else 4
theorem Ke(r:Int) :I3 r≤16:=by unfold I3;split<;>(try split)<;>omega
theorem IF{n:Nat}(h:n<16) :(cg pj n=if n<10 then (48+n:Int) else (55+n:Int)):=by
  rcases n with _ | _ | _ | _ | _ | _ | _ | _ | _ | _ | _ | _ | _ | _ | _ | _ | n
  all_goals first | rfl | omega
theorem Jh{n:Nat}(h:n<16)(r:Int) :cg pj n=r↔n=I3 r:=by
  rw [IF h]
  unfold I3
  split<;>split<;>(try split)<;>omega
theorem IG{n:Nat}(h:n<16) :∃ b:UInt8,(⟨#[48,49,50,51,52,53,54,55,56,57,65,66,67,68,69,70]⟩:ByteArray)[n]? = some b∧(b.toNat:Int)=cg pj n:=by
  have:∀ n:Fin 16,∃ b:UInt8,(⟨#[48,49,50,51,52,53,54,55,56,57,65,66,67,68,69,70]⟩:ByteArray)[n.val]? = some b∧(b.toNat:Int)=cg pj n.val:=by
    intro n
    rcases n with ⟨_ | _ | _ | _ | _ | _ | _ | _ | _ | _ | _ | _ | _ | _ | _ | _ | n,h⟩
    all_goals first | exact ⟨_,rfl,rfl⟩ | omega
  exact this ⟨n,h⟩
theorem Ji(n:Nat)(h:n<16)(W:World) :(Instr.index 9 (.string ⟨#[48,49,50,51,52,53,54,55,56,57,65,66,67,68,69,70]⟩) (.int .i64 n)).run prog W=.ok (.int .u8 (cg pj n)) W:=by
  have u9:prog.underlying 9=some .string:=by kernel_rfl
  obtain ⟨b,h1,h2⟩:=IG h
  have ha:(asIntOf (.int .i64 n)).run prog W=.ok (.i64,(n:Int)) W:=rfl
  unfold Instr.index
  simp only [Sem.run_bind,ha,Result.andThen_ok,run_underlying u9]
  rw [if_pos (Int.natCast_nonneg n),Int.toNat_natCast,h1,←h2]
  rfl
theorem Hh(s:ByteArray) :∀ (f pos:Nat) (acc:Int),¬ pos<s.size→ov s f pos acc=acc
  | 0,_,_,_=>rfl
  | f+1,pos,acc,h=>by simp only [ov,h,if_false]
theorem toList_inj{a b:ByteArray}(h:a.toList=b.toList) :a=b:=by
  have ha:=Go.Lib.toList_data a
  have hb:=Go.Lib.toList_data b
  rw [h] at ha
  have:a.data.toList=b.data.toList:=ha.symm.trans hb
  cases a;cases b
  simp only [ByteArray.mk.injEq]
  exact Array.toList_inj.1 this
set_option maxHeartbeats 2000000 in
theorem zI (s : ByteArray) (hs : s.size ≤ 1000000000) (w : World) (hR : Hid (dW w)) : Calls prog nt #[.string s] w fun e w' => e = .returned (.tuple #[.int .u64 (lQ s), .int .i64 (ow s)]) ∧ Below w.heap.size w w' := by
  go_enter Tryz.func46, Tryz.ntmps46
  go_wp2
  go_loopw [4] (fun t wr => ∃ (pos fuel : Nat) (acc : Int), t = .int .u64 acc ∧ wr.heap[w.heap.size]? = some (.stringIter s pos) ∧ Below w.heap.size w wr ∧ ov s fuel pos acc = ov s s.size 0 0 ∧ s.size ≤ pos + fuel) (fun _ wr => s.size - wr.iterPos w.heap.size)
  case atStart =>
    exact ⟨0, s.size, 0, rfl, World.iter_heap w s 0, (Below.refl _ w).alloc (Nat.le_refl _) _, rfl, by omega⟩
  case round =>
    obtain ⟨pos, fuel, acc, rfl, hit, hbw, hacc, hfu⟩ := hrel
    by_cases hp : pos < s.size
    · have hnx : ∀ ty, (Instr.next (.pointer (some ⟨w.heap.size, 0, none⟩)) true ty).run prog wr = _ := fun ty => Lib.run_next_any_at wr w.heap.size s pos ty hit hp
      obtain ⟨r, hr⟩ : ∃ r : Nat, (Utf8.decode s pos).1 = r := ⟨_, rfl⟩
      obtain ⟨wd, hwd⟩ : ∃ wd : Nat, (Utf8.decode s pos).2 = wd := ⟨_, rfl⟩
      rw [hr, hwd] at hnx
      have hit2 := Lib.iterAt_heap wr w.heap.size s pos (pos + wd) hit
      have hbw2 := Lib.below_iterAt hbw (k := w.heap.size) (Nat.le_refl _) s (pos + wd)
      obtain ⟨W1, hW1⟩ : ∃ W1, wr.iterAt w.heap.size s (pos + wd) = W1 := ⟨_, rfl⟩
      rw [hW1] at hnx hit2 hbw2
      go_wp2
      go_loopw [7] (fun t W => W = W1 ∧ ∃ n : Nat, t = .int .i64 n ∧ n ≤ I3 r) (fun t _ => 16 - (intOf t).toNat)
      case atStart => exact ⟨rfl, 0, rfl, Nat.zero_le _⟩
      case round =>
        obtain ⟨hWW, n, rfl, hn⟩ := hrel
        replace hWW := hWW.symm
        subst hWW
        have hd := Ke r
        have hstep : n = I3 r → ∃ (pos' fuel' : Nat) (acc' : Int), Value.int .u64 (bits .or .u64 (IntKind.u64.wrap (acc * 16)) (IntKind.u64.wrap (bits .and .i64 (n : Int) 15))) = .int .u64 acc' ∧
            W1.heap[w.heap.size]? = some (.stringIter s pos') ∧ Below w.heap.size w W1 ∧ ov s fuel' pos' acc' = ov s s.size 0 0 ∧ s.size ≤ pos' + fuel' := fun e => by
          obtain ⟨f, rfl⟩ : ∃ f, fuel = f + 1 := ⟨fuel - 1, by omega⟩
          have hw1 := xK s pos hp
          refine ⟨pos + wd, f, JS acc r, by rw [e]; rfl, hit2, hbw2, ?_, by omega⟩
          rw [← hacc]
          simp only [ov, hp, if_true, hr, hwd]
        have hmeas : s.size - W1.iterPos w.heap.size < s.size - wr.iterPos w.heap.size := by
          have hw1 := xK s pos hp
          simp only [World.iterPos, hit, hit2]
          omega
        have HS := Lib.hid hstep
        clear hstep
        by_cases h16 : n < 16
        · have hix := Ji n h16
          have hdi := Lib.hid (Jh h16 r)
          have hb : 0 ≤ cg pj n ∧ cg pj n < 256 := by rw [IF h16]; split <;> omega
          have hwr : wrap32 (cg pj n) = cg pj n := by simp only [wrap32]; omega
          go_wp2
          · have ht : (cg pj n != (r : Int)) = true := by assumption
            have hne : ¬ n = I3 r := fun c => by
              have := hdi.out.2 c
              rw [this] at ht
              simp at ht
            exact ⟨⟨trivial, n + 1, by go_num, by omega⟩, by simp [intOf]; omega⟩
          · have ht : (cg pj n != (r : Int)) = false := by assumption
            have he : n = I3 r := hdi.out.1 (by simpa using ht)
            exact ⟨HS.out he, hmeas⟩
        · have h16' : ¬ ((n : Int) < 16) := by omega
          have he : Hid (n = I3 r) := Lib.hid (by omega)
          go_wp2
          exact ⟨HS.out he.out, hmeas⟩
    · have hnx : ∀ ty, (Instr.next (.pointer (some ⟨w.heap.size, 0, none⟩)) true ty).run prog wr = _ := fun ty => Lib.run_next_end_at wr w.heap.size s pos ty hit hp
      have hR2 : Hid (dW wr) := Lib.hid (hR.out.below hbw (Nat.le_refl _))
      go_wp2_with (go_at_call 49; refine (Fy _ _ hR2.out).mono ?_; rintro e W1 ⟨rfl, hb1⟩)
      all_goals clear hnx
      all_goals have hacc' : acc = ov s s.size 0 0 := (Hh s fuel pos acc hp).symm.trans hacc
      · have h2 : (!(bc acc).toList == s.toList) = true := by assumption
        have ho : hU s = false := by
          unfold hU
          have : ¬ bc (ov s s.size 0 0) = s := fun c => by
            rw [← hacc'] at c
            rw [c] at h2
            simp at h2
          rw [decide_eq_false this, Bool.and_false]
        have hW : lQ s = 0 := by rw [lQ, ho]; rfl
        have hE : ow s = 4 := by rw [ow, ho]; rfl
        go_ret2
        exact ⟨by rw [hW, hE]; rfl, hbw.trans (hb1.mono hbw.size)⟩
      · have h1 : (s.size : Int) = 16 := by assumption
        have h2 : (!(bc acc).toList == s.toList) = false := by assumption
        have ho : hU s = true := by
          unfold hU
          have h3 : bc (ov s s.size 0 0) = s := by
            rw [← hacc']
            exact toList_inj (by simpa using h2)
          rw [decide_eq_true h3, decide_eq_true (show s.size = 16 by omega)]; rfl
        have hW : lQ s = acc := by rw [lQ, ho, hacc']; rfl
        have hE : ow s = 0 := by rw [ow, ho]; rfl
        go_ret2
        exact ⟨by rw [hW, hE]; rfl, hbw.trans (hb1.mono hbw.size)⟩
      · have h1 : ¬ (s.size : Int) = 16 := by assumption
        have ho : hU s = false := by
          unfold hU
          rw [decide_eq_false (show ¬ s.size = 16 by omega)]; rfl
        have hW : lQ s = 0 := by rw [lQ, ho]; rfl
        have hE : ow s = 4 := by rw [ow, ho]; rfl
        go_ret2
        exact ⟨by rw [hW, hE]; rfl, hbw⟩
theorem Kf(s:ByteArray)(hs:s.size≤1000000000) :am prog nt [] [.str s] ⟨.tup [.int .u64 (lQ s),.int .i64 (ow s)],[]⟩:=by
  refine bB ⟨FN nt,by kernel_rfl,by kernel_rfl⟩ fun ρ w us hN hv=>?_
  cases hv with | cons _ u _ _ h1 h2 =>
  cases h2;cases h1
  refine (zI s hs w (Lib.hid hN.romOk)).mono ?_
  rintro e w' ⟨rfl,hb⟩
  exact ⟨_,rfl,hb,.tup _ _ (.cons _ _ _ _ (.int _ _) (.cons _ _ _ _ (.int _ _) .nil))⟩
noncomputable def IH:aH:=db nt (.cons .str .nil) fun t=>[⟨⟨.tup [.int .u64 (lQ t.1),.int .i64 (ow t.1)],[]⟩,[fw t.1.size]⟩]
theorem Hi:aL prog IH:=aP fun t=>ba (fun h=>Kf t.1 (Nat.le_of_ble_eq_true h)) bF
end Go.Plb.Seat
namespace Go.Plb.Seat
open Go Go.Plb Go.Proofs Go.RowKit Go.Shelf
set_option maxRecDepth 100000
set_option linter.unusedSimpArgs false
set_option linter.unusedVariables false
theorem Jj:(1,AV.gvar (aI.map fun z=>Value.int .u64 z).toArray)∈(Rom.tab:List (Nat×AV)):=by simp [Rom.tab]
theorem Jk:(4,AV.iptr .free (.vs [.iface 158 .any]) 1 0 0)∈(Rom.tab:List (Nat×AV)):=by simp [Rom.tab]
theorem Jl:(5,AV.iptr .free (.vs [.iface 158 .any]) 1 0 0)∈(Rom.tab:List (Nat×AV)):=by simp [Rom.tab]
theorem Kg{w : World}(h : dW w) : Lib.TabIs prog w "internal/strconv.uint64pow10" .u64 Lib.pow10Tab := by
  have h1:=h _ Jj
  cases h1 with | gvar _ _ t fr ha hb hh =>
  have hg : prog.globalNamed "internal/strconv.uint64pow10" = some 1 := by kernel_rfl
  have e:aI=Lib.pow10Tab:=by decide
  unfold Lib.TabIs World.var?
  rw [hg,←e]
  simp [hh]
theorem II{w:World}{g:Nat}(h:VR ae.none_ w (.iptr .free (.vs [.iface 158 .any]) 1 0 0) (.pointer (some ⟨g,0,none⟩))) :∃ v,w.cell? ⟨g,0,none⟩=some (.iface 158 v):=by
  generalize hu:Value.pointer (some ⟨g,0,none⟩)=u at h
  cases h with | iptr _ _ _ _ _ bl o u' ha hb hc hv hr hk hg =>
  simp only [Value.pointer.injEq,Option.some.injEq,Addr.mk.injEq] at hu
  obtain ⟨rfl,ho,_⟩:=hu
  have ho:o=0:=by omega
  subst ho
  have h1:=hc 0 _ rfl
  have h2:=hv 0 _ rfl
  generalize u' 0=x at h1 h2
  cases h2 with | iface _ _ v hv'=>exact ⟨v,by simpa using h1⟩
def A2:Nat→Nat→List UInt8
  | 0,_=>[]
  | f+1,n=>if n<10 then [UInt8.ofNat (48+n)] else A2 f (n/10)++[UInt8.ofNat (48+n%10)]
def Ep(n:Int) :List UInt8:=if n<0 then 45::A2 20 n.natAbs else A2 20 n.toNat
def bS(n:Int) :ByteArray:=⟨(Ep n).toArray⟩
theorem C5:∀ (f n:Nat),n<10^(f+1)→A2 (f+1) n=Lib.decDigits n
  | 0,n,h=>by
    have hn:n<10:=by simpa using h
    rw [Lib.decDigits]
    simp [A2,hn]
  | f+1,n,h=>by
    rw [Lib.decDigits]
    rw [A2]
    split
    · rfl
    · rw [C5 f (n/10) (by rw [Nat.pow_succ] at h;omega)]
theorem IJ{n:Int}(h1 : -9223372036854775808≤n)(h2:n≤9223372036854775807) :Ep n=Lib.itoa n:=by
  have hp:10^20=100000000000000000000:=by decide
  unfold Ep Lib.itoa
  split
  · rw [C5 19 _ (by rw [hp];omega)]
  · rw [C5 19 _ (by rw [hp];omega)]
theorem zJ(n:Int)(h1 : -9223372036854775808≤n)(h2:n≤9223372036854775807)(w:World)(hr:dW w) :Calls prog jV #[.int .i64 n] w fun e w'=>e=.returned (.string (bS n))∧Below w.heap.size w w':=by
  refine (Tryz.strconv_Itoa n h1 h2 w (Kg hr)).mono ?_
  rintro e w' ⟨rfl,k,os,rfl⟩
  rw [bS,IJ h1 h2]
  refine ⟨rfl,rfl,rfl,rfl,by simp [Go.Sort.grow],fun i hi=>?_⟩
  show ((w.drewN k).heap++os)[i]? = _
  rw [Array.getElem?_append_left (by simpa using hi)]
  rfl
theorem Kh(n:Int)(hk:kp .i64 n=true) :am prog jV [] [.int .i64 n] ⟨.str (bS n),[]⟩:=by
  rw [cB] at hk
  refine bB ⟨FN jV,by kernel_rfl,by kernel_rfl⟩ fun ρ w us hN hv=>?_
  cases hv with | cons _ u _ _ h1 h2 =>
  cases h2;cases h1
  refine (zJ n hk.1 hk.2 w hN.romOk).mono ?_
  rintro e w' ⟨rfl,hb⟩
  exact ⟨_,rfl,hb,.str _⟩
noncomputable def IK:aH:=db jV (.cons (.int .i64) .nil) fun t=>[⟨⟨.str (bS t.1),[]⟩,[kp .i64 t.1]⟩]
theorem Hj:aL prog IK:=aP fun t=>ba (fun h=>Kh t.1 h) bF
def dV(s:ByteArray) :Int:=match Lib.atoiAll s.data.toList with
  | .ok v=>if bS v=s then v else -1
  | _=>-1
theorem Jm{a b:ByteArray}(h:(!a.toList==b.toList)=true) :a≠b:=fun c=>by subst c;simp at h
set_option maxHeartbeats 2000000 in
theorem C6 (s : ByteArray) (hs : s.size ≤ 1000000000) (w : World) (hR : Hid (dW w)) : Calls prog jr #[.string s] w fun e w' => e = .returned (.int .i64 (dV s)) ∧ Below w.heap.size w w' := by
  cases h : Lib.atoiAll s.data.toList with
  | ok v =>
    have hv := Lib.atoiAll_bounds h
    have cA := Tryz.strconv_Atoi_ok s (by omega) v h w
    go_enter Tryz.func57, Tryz.ntmps57
    go_wp2_with (go_at_call 69; refine cA.mono ?_; rintro e W1 ⟨rfl, hw1⟩; refine Hid.out ?_)
    refine Lib.hid ?_
    have hb1 : Below w.heap.size w W1 := by
      rcases hw1 with rfl | ⟨t, rfl⟩
      · exact Below.refl _ _
      · exact Go.Lib.bytesWorld_below _ _ _
    have hR1 : Hid (dW W1) := Lib.hid (hR.out.below hb1 (Nat.le_refl _))
    clear hw1 cA
    go_wp2_with (go_at_call 43; refine (zJ v hv.1 hv.2 _ hR1.out).mono ?_; rintro e W2 ⟨rfl, hb2⟩)
    · have h2 : (!(bS v).toList == s.toList) = true := by assumption
      have hn : dV s = -1 := by simp only [dV, h]; rw [if_neg (Jm h2)]
      go_ret
      exact ⟨by rw [hn]; rfl, hb1.trans (hb2.mono hb1.size)⟩
    · have h2 : (!(bS v).toList == s.toList) = false := by assumption
      have hn : dV s = v := by simp only [dV, h]; rw [if_pos (toList_inj (by simpa using h2))]
      go_ret
      exact ⟨by rw [hn]; rfl, hb1.trans (hb2.mono hb1.size)⟩
  | range =>
    obtain ⟨ev, hev⟩ := II (hR.out _ Jl)
    have hn : dV s = -1 := by simp only [dV, h]
    have cA := Tryz.strconv_Atoi_range s (by omega) h (.iface 158 ev) w hev (.inr ⟨_, _, rfl⟩)
    go_enter Tryz.func57, Tryz.ntmps57
    go_wp2_with (go_at_call 69; refine cA.mono ?_; rintro e W1 ⟨N, rfl, _, _, hb⟩)
    go_ret
    exact ⟨by rw [hn]; rfl, hb⟩
  | _ =>
    obtain ⟨ev, hev⟩ := II (hR.out _ Jk)
    have hn : dV s = -1 := by simp only [dV, h]
    have cA := Tryz.strconv_Atoi_syntax s (by omega) h (.iface 158 ev) w hev (.inr ⟨_, _, rfl⟩)
    go_enter Tryz.func57, Tryz.ntmps57
    go_wp2_with (go_at_call 69; refine cA.mono ?_; rintro e W1 ⟨N, rfl, _, _, hb⟩)
    go_ret
    exact ⟨by rw [hn]; rfl, hb⟩
theorem IL(s:ByteArray)(hs:s.size≤1000000000) :am prog jr [] [.str s] ⟨.int .i64 (dV s),[]⟩:=by
  refine bB ⟨FN jr,by kernel_rfl,by kernel_rfl⟩ fun ρ w us hN hv=>?_
  cases hv with | cons _ u _ _ h1 h2 =>
  cases h2;cases h1
  refine (C6 s hs w (Lib.hid hN.romOk)).mono ?_
  rintro e w' ⟨rfl,hb⟩
  exact ⟨_,rfl,hb,.int _ _⟩
noncomputable def Eq:aH:=db jr (.cons .str .nil) fun t=>[⟨⟨.int .i64 (dV t.1),[]⟩,[fw t.1.size]⟩]
theorem Er:aL prog Eq:=aP fun t=>ba (fun h=>IL t.1 (Nat.le_of_ble_eq_true h)) bF
def kv:List ByteArray→List UInt8
  | []=>[]
  | [x]=>x.data.toList
  | x::y::r=>x.data.toList++32::kv (y::r)
def pF(l:List ByteArray) :ByteArray:=⟨(kv l).toArray⟩
theorem zK:∀ l:List ByteArray,kv l=Lib.join (l.map (·.data.toList)) [32]
  | []=>rfl
  | [x]=>by rw [List.map_cons,List.map_nil,Lib.join_one];rfl
  | x::y::r=>by
    rw [List.map_cons,Lib.join_cons,kv,zK (y::r),List.map_cons,Lib.join_cons]
    simp [Lib.joinTail]
theorem Ki(l:Lv)(xs:List ByteArray)(h1:(pF xs).size≤1000000000)(h2:xs.length≤1000000000) :am prog mG [] [.imm l (.ss xs) 1 1 0 xs.length,.str ⟨#[32]⟩] ⟨.str (pF xs),[]⟩:=by
  refine bB ⟨FN mG,by kernel_rfl,by kernel_rfl⟩ fun ρ w us hN hv=>?_
  cases hv with | cons _ u _ _ v1 v2 =>
  cases v2 with | cons _ u2 _ _ v3 v4 =>
  cases v4;cases v3
  have hz:(kv xs).length≤1000000000:=by
    have:(pF xs).size=(kv xs).length:=by simp [pF,ByteArray.size]
    omega
  generalize hn:xs.length=n at v1
  cases v1 with
  | imm _ _ _ _ _ _ cap bl o u' ha hb hc hv' hl hr hk hg =>
    have:=Tryz.strings_Join bl (o+0*1) cap xs ⟨#[32]⟩ w (fun j x hj=>by
      have hcell:(aj.ss xs).cell? j=some (.str x):=by show (xs[j]?).map AV.str=_;rw [hj];rfl
      have q1:=hc j _ hcell
      have q2:=hv' j _ hcell
      cases hu:u' j<;>rw [hu] at q2<;>cases q2
      rw [hu] at q1
      simpa using q1) hb (by omega) (by omega) (by
        rw [←zK];omega)
    rw [hn] at this
    refine this.mono ?_
    rintro e w' ⟨rfl,hb⟩
    refine ⟨_,rfl,hb,?_⟩
    rw [←zK]
    exact .str _
  | immEnd _ _ _ _ _ cap a hr hk hg =>
    have hx:xs=[]:=List.length_eq_zero_iff.1 hn
    subst hx
    refine (Tryz.strings_Join_none a cap ⟨#[32]⟩ w).mono ?_
    rintro e w' ⟨rfl,rfl⟩
    exact ⟨_,rfl,Below.refl _ _,.str _⟩
def Kj(z:ByteArray) :Bool:=decide (z=⟨#[32]⟩)
theorem Jn{z:ByteArray}(h:Kj z=true) :z=⟨#[32]⟩:=of_decide_eq_true h
noncomputable def IM:aH:=db mG (.cons .ss (.cons .str .nil)) fun t=>[⟨⟨.str (pF t.1.2),[]⟩,[Kj t.2.1,fw (pF t.1.2).size,fw t.1.2.length]⟩]
theorem Hk:aL prog IM:=aP fun t a ha ho=>by
  simp only [List.mem_singleton] at ha
  subst ha
  obtain ⟨⟨l,xs⟩,z,_⟩:=t
  have hz:=Jn ho.1
  subst hz
  exact Ki l xs (Nat.le_of_ble_eq_true ho.2.1) (Nat.le_of_ble_eq_true ho.2.2.1)
end Go.Plb.Seat
namespace Go.Plb.Seat
open Go Go.Plb Go.Proofs Go.RowKit Go.Shelf
set_option maxRecDepth 100000
set_option linter.unusedSimpArgs false
set_option linter.unusedVariables false
attribute [local go_sem] Oper.semAt_some
theorem xY(s sep:ByteArray)(w:World) :Calls prog 62 #[.string s,.string sep,.int .i64 0] w fun e w' =>
    e=.returned (.func (.func 74) #[] #[.pointer (some ⟨w.heap.size+1,0,none⟩),.pointer (some ⟨w.heap.size,0,none⟩),.pointer (some ⟨w.heap.size+2,0,none⟩)]) ∧
    w'=((w.alloc (.cells #[.string s] 9)).alloc (.cells #[.string sep] 9)).alloc (.cells #[.int .i64 0] 3):=by
  have hmf:∀ (fn:Fn) (first cap:Array Value) (w:World),(Instr.makeFunc fn first cap).run prog w=.ok (.func fn first cap) w:=fun _ _ _ _=>rfl
  go_enter Tryz.func62,Tryz.ntmps62
  go_wp2
  go_ret
  exact ⟨rfl,rfl⟩
theorem zL(s sep:ByteArray)(w:World) :Calls prog 45 #[.string s,.string sep] w fun e w' =>
    e=.returned (.func (.func 74) #[] #[.pointer (some ⟨w.heap.size+1,0,none⟩),.pointer (some ⟨w.heap.size,0,none⟩),.pointer (some ⟨w.heap.size+2,0,none⟩)]) ∧
    w'=((w.alloc (.cells #[.string s] 9)).alloc (.cells #[.string sep] 9)).alloc (.cells #[.int .i64 0] 3):=by
  go_enter Tryz.func45,Tryz.ntmps45
  go_wp2_with (go_at_call 62;refine (xY s sep _).mono ?_;rintro e w' ⟨rfl,rfl⟩)
  go_ret
  exact ⟨rfl,rfl⟩
theorem pk{g:Operand}{ps:Array Tmp}{assign body:Code}{Q:Exit→Act→World→Prop}{a:Act}{w:World}{gf m:Nat}{lb:Array Value}(hg:a.eval g=.func (.func gf) #[] lb)(eg:∀ args w,(callFunc gf args).run prog w=.ok (.enter gf args) w) 
    (h : ∀ (fn : FuncId) (rec : LoopState → Option Code → Loop), (∀ st pe, (rec st pe).state = st ∧ (rec st pe).pending = pe) →
      (∀ (m':Nat) (args:Array Value) (W:World) (R:Ending→World→Prop),W.heap[w.heap.size+1]? = some (.loop (rec .ready none))→args.size=ps.size →
        assign.wpIn (Fence.wide.inRound (w.heap.size+1)) m' prog (Exit.then (fun a₁ w₁=>w₁.heap[w.heap.size+1]? = some (.loop (rec .ready none))∧body.wpIn (Fence.wide.inRound (w.heap.size+1)) m' prog
            (fun x _ w'=>match x with
              | .normal=>w'.heap[w.heap.size+1]? = some (.loop (rec .busy none))∧R (.returned (.bool true)) (w'.putObj (w.heap.size+1) (.loop (rec .ready none)))
              | .ret=>w'.heap[w.heap.size+1]? = some (.loop (rec .busy none))∧R (.returned (.bool false)) (w'.putObj (w.heap.size+1) (.loop (rec .done (some .ret))))
              | _=>False) a₁ (w₁.putObj (w.heap.size+1) (.loop (rec .busy none)))) (fun _ _ _=>False))
          { tmps:=(ps.zip args).foldl (fun t (p,v)=>t.setIfInBounds p v) a.tmps,defers:=[] } W →
        YieldAt Fence.wide m' prog (w.heap.size+1) args W R) →
      CallsIn Fence.wide m prog gf (#[.func (.yield (w.heap.size+1)) #[] #[]]++lb) ((w.alloc (.deferred (some []))).alloc (.loop (rec .ready none))) (fun e W'=>(∃ v,e=.returned v) ∧
        ((W'.heap[w.heap.size+1]? = some (.loop (rec .ready none))∧Q .normal { a with defers:={ target:=.collected w.heap.size,args:=#[] }::a.defers } (W'.putObj (w.heap.size+1) (.loop (rec .exhausted none)))) ∨
         (∃ c,W'.heap[w.heap.size+1]? = some (.loop (rec .done (some c)))∧c.wpIn Fence.wide (m+1) prog Q { a with defers:={ target:=.collected w.heap.size,args:=#[] }::a.defers } (W'.putObj (w.heap.size+1) (.loop (rec .exhausted (some c)))))))) :
    (Code.rangeFunc g ps assign body).wpIn Fence.wide (m+1) prog Q a w:=by
  refine wpIn_rangeFunc ?_
  intro fn hfn
  obtain ⟨rec,hrec⟩:∃ rec:LoopState→Option Code→Loop,rec=fun st pe=>{ state:=st,pending:=pe,fn,tmps:=a.tmps,params:=ps,assign,body,defers:=w.heap.size }:=⟨_,rfl⟩
  have key:=h fn rec (by intro st pe;rw [hrec];exact ⟨rfl,rfl⟩) (fun m' args W R hl hs hr=>by
    have hy:=run_yield (P:=prog) (args:=args) hl (by rw [hrec];exact hs)
    rw [hrec] at hy
    refine ⟨fn,_,assign,body,hy,roundIn_of_wpIn hfn (wpIn_mono hr ?_)⟩
    rintro e a1 w1 hp
    cases e<;>first | exact hp.elim | skip
    obtain ⟨h1,h2⟩:=hp
    refine ⟨_,run_beginRound h1 (by rw [hrec]),?_⟩
    have hb:({ rec .ready none with state:=.busy }:Loop)=rec .busy none:=by rw [hrec]
    rw [hb]
    refine wpIn_mono h2 ?_
    rintro e a2 w2 hp
    have hput:∀ jump,(Instr.endRound (w.heap.size+1) jump).run prog w2=_:=fun jump=>run_endRound (P:=prog) jump (r:=rec .busy none) (by cases e<;>first | exact hp.1 | exact hp.elim)
    cases e with
    | normal=>exact ⟨_,_,hput none,by have:=hp.2;rw [hrec] at this ⊢;exact this⟩
    | ret=>exact ⟨_,_,hput (some .ret),by have:=hp.2;rw [hrec] at this ⊢;exact this⟩
    | exit id=>exact hp.elim
    | goto t=>exact hp.elim
    | panic c=>exact hp.elim
    | outgrown=>exact hp.elim)
  refine ⟨w.heap.size+1,[{ target:=.collected w.heap.size,args:=#[] }],(w.alloc (.deferred (some []))).alloc (.loop (rec .ready none)),{ target:=.fn (.func gf) lb,args:=#[.func (.yield (w.heap.size+1)) #[] #[]] },(w.alloc (.deferred (some []))).alloc (.loop (rec .ready none)),gf,
    #[.func (.yield (w.heap.size+1)) #[] #[]]++lb,(w.alloc (.deferred (some []))).alloc (.loop (rec .ready none)),?_,?_,fun _ _=>trivial,?_,fun _=>by omega,?_⟩
  · rw [hrec];exact run_enterLoop_outer _ _ _ _ _
  · simp only [resolve,hg]
    simp [go_sem]
  · simp [invoke,go_sem,eg]
  · refine key.mono ?_
    rintro e W2 ⟨⟨v,rfl⟩,⟨hl,hq⟩ | ⟨c,hl,hq⟩⟩
    · exact ⟨none,W2.putObj (w.heap.size+1) (.loop (rec .exhausted none)),by have:=run_endLoop (P:=prog) hl (by rw [hrec];simp);rw [hrec] at this ⊢;exact this,hq⟩
    · exact ⟨some c,W2.putObj (w.heap.size+1) (.loop (rec .exhausted (some c))),by have:=run_endLoop (P:=prog) hl (by rw [hrec];simp);rw [hrec] at this ⊢;exact this,hq⟩
theorem qI{P:Program}{t:TypeId}{W:World}{a:Addr}{v:Value}(h:uv P t=some false)(hc:W.cell? a=some v) :(loadVar t a).run P W=.ok v W:=by
  unfold loadVar
  rw [Sem.run_bind,mr h]
  simp [Result.andThen,hc]
theorem sE{P:Program}{fn:Func}{p q:Tmp}{t u:TypeId}(h:fn.results = #[.cell p t,.cell q u]){tmps:Array Value}{W:World}{a b:Addr}{v v':Value}(hp:tmps.getD p undef=.pointer (some a))(hq:tmps.getD q undef=.pointer (some b)) 
    (ht:uv P t=some false) (hu:uv P u=some false) (hc:W.cell? a=some v) (hd:W.cell? b=some v'):(results fn tmps).run P W=.ok (.tuple #[v,v']) W:=by
  have h1:=qI ht hc
  have h2:=qI hu hd
  rw [tu,h]
  simp [tr,hp,hq,asAddr,Sem.run_bind,Result.andThen,h1,h2]
theorem dr{B:Nat}{a w:World}(h:Below B a w){r:Nat}(hr:B≤r)(o:Obj) :Below B a (w.putObj r o) :=
  ⟨h.os,h.tape,h.output,by simp only [World.putObj_size];exact h.size,fun k hk=>(World.putObj_heap_other (by omega)).trans (h.block k hk)⟩
theorem mh{W W':World}{base:Nat}{e:TypeId}{size:Nat}{v:Value}{n:Nat}{xs:List Value}(h:W.ownsRow base e size v n xs)(hb:∀ k,base≤k→k<W.heap.size→W'.heap[k]? = W.heap[k]?) :W'.ownsRow base e size v n xs:=by
  refine ⟨h.1,?_⟩
  rcases h.2 with q | ⟨g,cap,cur,h1,h2,h3,h4⟩
  · exact .inl q
  · exact .inr ⟨g,cap,cur,h1,h2,(hb g h2 (Array.getElem?_eq_some_iff.1 h3).1).trans h3,h4⟩
structure JT (w:World) (rec:LoopState→Option Code→Loop) (pre:List Int) (W:World):Prop where
  r:Boxed W w.heap.size 30 (.slice none 0 0)
  e:Boxed W (w.heap.size+1) 25 (.int .i64 0)
  l:∃ v,Boxed W (w.heap.size+1+1) 30 v∧W.ownsRow (w.heap.size+8) 31 1 v pre.length (pre.map (Value.int .u64))
  d:W.heap[w.heap.size+6]? = some (.deferred (some []))
  o:W.heap[w.heap.size+6+1]? = some (.loop (rec .ready none))
  low:Below w.heap.size w W
theorem JT.set{w:World}{rec:LoopState→Option Code→Loop}{pre:List Int}{W:World}(h:JT w rec pre W)(k:Nat)(h1:w.heap.size+3≤k)(h2:k<w.heap.size+6)(u:Value) :JT w rec pre (W.setCell ⟨k,0,none⟩ u):=by
  have hk:∀ j,j≠k→(W.setCell ⟨k,0,none⟩ u).heap[j]? = W.heap[j]?:=fun j hj=>Below.heap_setCell _ _ _ _ hj
  obtain ⟨v,hv,ho⟩:=h.l
  exact ⟨(hk _ (by omega)).trans h.r,(hk _ (by omega)).trans h.e,⟨v,(hk _ (by omega)).trans hv,mh ho fun j hj _=>hk j (by omega)⟩,(hk _ (by omega)).trans h.d,(hk _ (by omega)).trans h.o,h.low.setCell (by show w.heap.size≤k;omega) _⟩
def Fz(W:World)(k:Nat) :Nat:=match W.cell? ⟨k,0,none⟩ with
  | some (.string r)=>r.size
  | _=>0
theorem B3{W:World}{k:Nat}{t:TypeId}{r:ByteArray}(h:Boxed W k t (.string r)) :Fz W k=r.size:=by
  unfold Fz
  rw [h.cell]
structure Ly (w:World) (rec:LoopState→Option Code→Loop) (W:World):Prop where
  r:Boxed W w.heap.size 30 (.slice none 0 0)
  e:Boxed W (w.heap.size+1) 25 (.int .i64 4)
  d:W.heap[w.heap.size+6]? = some (.deferred (some []))
  o:W.heap[w.heap.size+6+1]? = some (.loop (rec .done (some .ret)))
  low:Below w.heap.size w W
theorem C7(l:List UInt8)(c:UInt8) :Lib.indexByte l c<l.length∨l=[]:=by
  induction l with
  | nil=>exact .inr rfl
  | cons b l ih =>
    left
    unfold Lib.indexByte
    simp only [List.length_cons]
    split
    · omega
    · split
      · omega
      · rcases ih with h | rfl
        · omega
        · exact absurd rfl ‹¬ (Lib.indexByte [] c == -1)=true›
theorem JU{α:Type}(h:Array α)(a b c d e f g i:α)(k:Nat) :((((((((h.push a).push b).push c).push d).push e).push f).push g).push i)[h.size+k]? = #[a,b,c,d,e,f,g,i][k]?:=by
  have e1:((((((((h.push a).push b).push c).push d).push e).push f).push g).push i)=h ++ #[a,b,c,d,e,f,g,i]:=by
    apply Array.toList_inj.1
    simp
  rw [e1,Array.getElem?_append_right (Nat.le_add_right _ _),Nat.add_sub_cancel_left]
def C8:Nat→ByteArray→List Int→Option (List Int)
  | 0,_,_=>none
  | f+1,s,acc =>
    if Lib.indexByte s.data.toList 32<0 then (if hU s=true then some (acc++[lQ s]) else none)
    else if hU (s.extract 0 (Lib.indexByte s.data.toList 32).toNat)=true then C8 f (s.extract ((Lib.indexByte s.data.toList 32).toNat+1) s.size) (acc++[lQ (s.extract 0 (Lib.indexByte s.data.toList 32).toNat)]) else none
def tE(s:ByteArray) :Option (List Int):=C8 (s.size+1) s []
set_option maxHeartbeats 2000000 in
theorem xL (s : ByteArray) (hs : s.size ≤ 1000000000) (w : World) (hR : Hid (dW w)) : Calls prog dM #[.string s] w fun e w' => Below w.heap.size w w' ∧
    ((∃ xs v, tE s = some xs ∧ e = .returned (.tuple #[v, .int .i64 0]) ∧ w'.ownsRow (w.heap.size + 8) 31 1 v xs.length (xs.map (Value.int .u64))) ∨ (tE s = none ∧ e = .returned (.tuple #[.slice none 0 0, .int .i64 4]))) := by
  refine (callsIn_wide (n := 6)).1 (callsIn_of_wp_marks Tryz.func21 rfl trivial ?_)
  simp only [Tryz.ntmps21, List.size_toArray, List.length_cons, List.length_nil, Nat.reduceAdd, Nat.reduceSub, Array.replicate_succ, Array.replicate_zero, List.push_toArray, List.append_toArray, List.nil_append, List.cons_append]
  gi_wp2_with (refine ⟨trivial, ?_⟩; gi_at_call 45; refine (callsIn_wide.2 (zL s _ _)).mono ?_; rintro e w' ⟨rfl, rfl⟩)
  obtain ⟨w0, hw0⟩ : ∃ w0, (((((w.alloc (.cells #[.slice none 0 0] 30)).alloc (.cells #[.int .i64 0] 25)).alloc (.cells #[.slice none 0 0] 30)).alloc (.cells #[.string s] 9)).alloc (.cells #[.string ⟨#[32]⟩] 9)).alloc (.cells #[.int .i64 0] 3) = w0 := ⟨_, rfl⟩
  rw [hw0]
  have hsz : w0.heap.size = w.heap.size + 6 := by rw [← hw0]; simp
  refine pk (gf := 74) (m := 5) rfl (enters_of Tryz.func74 (by kernel_rfl) rfl) fun fn rec hrec hy => ?_
  rw [hsz] at hy ⊢
  have round : ∀ (pre : List Int) (x : ByteArray) (W : World), x.size ≤ 1000000000 → pre.length ≤ 1000000000 → JT w rec pre W → YieldAt Fence.wide 4 prog (w.heap.size + 6 + 1) #[.string x] W (fun e W' =>
      (∀ k, w.heap.size + 3 ≤ k → k < w.heap.size + 6 → W'.heap[k]? = W.heap[k]?) ∧ ((hU x = true ∧ e = .returned (.bool true) ∧ JT w rec (pre ++ [lQ x]) W') ∨ (hU x = false ∧ e = .returned (.bool false) ∧ Ly w rec W'))) := by
    intro pre x W hx hlen hS
    refine hy 4 _ W _ hS.o rfl ?_
    clear hy
    have cR := zI x hx
    gi_wp2
    refine ⟨hS.o, ?_⟩
    obtain ⟨W1, hW1⟩ : ∃ W1, W.putObj (w.heap.size + 6 + 1) (.loop (rec .busy none)) = W1 := ⟨_, rfl⟩
    rw [hW1]
    have hlt : w.heap.size + 6 + 1 < W.heap.size := (Array.getElem?_eq_some_iff.1 hS.o).1
    have hs1 : W1.heap.size = W.heap.size := by rw [← hW1]; simp
    have hk1 : ∀ k, k ≠ w.heap.size + 6 + 1 → W1.heap[k]? = W.heap[k]? := fun k hk => by rw [← hW1]; exact World.putObj_heap_other hk
    have ho1 : W1.heap[w.heap.size + 6 + 1]? = some (.loop (rec .busy none)) := by rw [← hW1]; exact World.putObj_heap_same hlt
    have hb1 : Below w.heap.size w W1 := hS.low.trans (by rw [← hW1]; exact ⟨rfl, rfl, rfl, by simp, fun k hk => World.putObj_heap_other (by omega)⟩)
    have hr1 : Hid (dW W1) := Lib.hid (hR.out.below hb1 (Nat.le_refl _))
    obtain ⟨v0, hv0, hown0⟩ := hS.l
    have hown1 : W1.ownsRow (w.heap.size + 8) 31 1 v0 pre.length (pre.map (Value.int .u64)) := by rw [← hW1]; exact ownsRow_putObj hown0 _ hS.o rfl
    obtain ⟨i0, hi, hz0, hz1, hz2⟩ := info_parts (show (prog.info? 31).map (fun i => (i.zero, i.size, i.bytes)) = some (some (.int .u64 0), 1, 8) by kernel_rfl)
    gi_wp2_with first
      | (refine ⟨trivial, ?_⟩; gi_at_call 46; refine (callsIn_wide.2 (cR _ hr1)).mono ?_; rintro e W2 ⟨rfl, hb2⟩
         have hkb : ∀ k, k < w.heap.size + 6 + 1 → W2.heap[k]? = W.heap[k]? := (fun k hk => (hb2.block k (by omega)).trans (hk1 k (by omega)))
         have hbr : Boxed W2 w.heap.size 30 (.slice none 0 0) := (hkb _ (by omega)).trans hS.r
         have hbe : Boxed W2 (w.heap.size + 1) 25 (.int .i64 0) := (hkb _ (by omega)).trans hS.e
         have hbl : Boxed W2 (w.heap.size + 1 + 1) 30 v0 := (hkb _ (by omega)).trans hv0
         have hbe2 : Boxed (W2.setCell ⟨w.heap.size, 0, none⟩ (.slice none 0 0)) (w.heap.size + 1) 25 (.int .i64 0) := (Below.heap_setCell _ _ _ _ (by first | (simp; done) | (simp; omega))).trans hbe
         have hcl := hbl.cell
         have hcr := hbr.cell
         have hfr := hbr.frozen
         have hce := hbe2.cell
         have hfe := hbe2.frozen
         have hown2 : W2.ownsRow (w.heap.size + 8) 31 1 v0 pre.length (pre.map (Value.int .u64)) := mh hown1 fun k _ hk => hb2.block k hk
         have ho2 := (hb2.block _ (by omega)).trans ho1)
      | (gi_at_builtin; refine wpListIn_append_own _ rfl _ _ 30 rfl (w.heap.size + 8) 31 i0 (.int .u64 0) 1 8 (by kernel_rfl) hi hz0 hz1 hz2 rfl (by decide) _ _ _ rfl (hown2.alloc _) ⟨W2.heap.size, 0, none⟩ 1 1 [.int .u64 (lQ x)] rfl rfl (cell_one_new _ _ _) (by simp [Value.oneCell']) (by unfold maxLen; omega) (by omega) (by have := hb2.size; simp; omega) ?_
         intro v' w3 hown3 hgrow _
         obtain ⟨g', cap', rfl⟩ := ownsRow_succ hown3
         have hsz2 := hb2.size
         have hb3 : Below (w.heap.size + 8) W2 w3 := ((Below.refl _ W2).alloc (by omega) _).grown (show (W2.alloc (.cells #[.int .u64 (lQ x)] 31)).grownBy w3 v0.ownBlock from hgrow) (by simp; omega) (fun j ej => by
           rcases hown2.2 with ⟨rfl, _⟩ | ⟨g, cap, cur, rfl, hb, _, _⟩
           · simp [Value.ownBlock] at ej
           · obtain rfl : g = j := by simpa [Value.ownBlock] using ej
             exact hb)
         have hbl3 : Boxed w3 (w.heap.size + 1 + 1) 30 v0 := (hb3.block _ (by omega)).trans hbl
         have hcl3 := hbl3.cell
         have hfl3 := hbl3.frozen)
    · have ho : hU x = false := by
        cases q : hU x with
        | false => rfl
        | true =>
          have h1 : (ow x != 0) = true := by assumption
          rw [ow, q] at h1
          exact absurd h1 (by decide)
      have hlow : Below w.heap.size w W2 := hb1.trans (hb2.mono (by omega))
      have hlt2 : w.heap.size + 6 + 1 < W2.heap.size := by have := hb2.size; omega
      have hd2 : W2.heap[w.heap.size + 6]? = some (.deferred (some [])) := (hkb _ (by omega)).trans hS.d
      refine ⟨?_, fun k h1 h2 => ?_, ho, ?_⟩
      · rw [Below.heap_setCell _ _ _ _ (by first | (simp; done) | (simp; omega)), Below.heap_setCell _ _ _ _ (by first | (simp; done) | (simp; omega))]; exact ho2
      · rw [World.putObj_heap_other (by omega), Below.heap_setCell _ _ _ _ (by first | (simp; done) | (simp; omega)), Below.heap_setCell _ _ _ _ (by first | (simp; done) | (simp; omega))]; exact hkb k (by omega)
      · refine ⟨?_, ?_, ?_, ?_, ?_⟩
        · unfold Boxed
          rw [World.putObj_heap_other (by omega), Below.heap_setCell _ _ _ _ (by first | (simp; done) | (simp; omega))]
          exact hbr.set _
        · unfold Boxed
          rw [World.putObj_heap_other (by omega)]
          exact hbe2.set _
        · rw [World.putObj_heap_other (by omega), Below.heap_setCell _ _ _ _ (by first | (simp; done) | (simp; omega)), Below.heap_setCell _ _ _ _ (by first | (simp; done) | (simp; omega))]; exact hd2
        · exact World.putObj_heap_same (by simpa using hlt2)
        · exact dr ((hlow.setCell (p := ⟨w.heap.size, 0, none⟩) (by simp) _).setCell (p := ⟨w.heap.size + 1, 0, none⟩) (by simp) _) (by omega) _
    · have ho : hU x = true := by
        cases q : hU x with
        | true => rfl
        | false =>
          have h1 : (ow x != 0) = false := by assumption
          rw [ow, q] at h1
          exact absurd h1 (by decide)
      have hlow : Below w.heap.size w w3 := (hb1.trans (hb2.mono (by omega))).trans (hb3.mono (by omega))
      have hlt3 : w.heap.size + 6 + 1 < w3.heap.size := by have := hb2.size; have := hb3.size; omega
      have hk3 : ∀ k, k < w.heap.size + 6 + 1 → w3.heap[k]? = W.heap[k]? := fun k hk => (hb3.block k (by omega)).trans (hkb k hk)
      refine ⟨?_, fun k h1 h2 => ?_, ho, ?_⟩
      · rw [Below.heap_setCell _ _ _ _ (by first | (simp; done) | (simp; omega)), hb3.block _ (by omega)]; exact ho2
      · rw [World.putObj_heap_other (by omega), Below.heap_setCell _ _ _ _ (by first | (simp; done) | (simp; omega))]; exact hk3 k (by omega)
      · refine ⟨?_, ?_, ⟨.slice (some ⟨g', 0, none⟩) (pre.length + 1) cap', ?_, ?_⟩, ?_, ?_, ?_⟩
        · unfold Boxed
          rw [World.putObj_heap_other (by omega), Below.heap_setCell _ _ _ _ (by first | (simp; done) | (simp; omega))]
          exact (hk3 _ (by omega)).trans hS.r
        · unfold Boxed
          rw [World.putObj_heap_other (by omega), Below.heap_setCell _ _ _ _ (by first | (simp; done) | (simp; omega))]
          exact (hk3 _ (by omega)).trans hS.e
        · unfold Boxed
          rw [World.putObj_heap_other (by omega)]
          exact hbl3.set _
        · have h9 := ownsRow_setCell_below hown3 (a := ⟨w.heap.size + 1 + 1, 0, none⟩) (by first | (simp; done) | (simp; omega)) (.slice (some ⟨g', 0, none⟩) (pre.length + 1) cap')
          refine mh ?_ fun k hk _ => World.putObj_heap_other (by omega)
          simpa using h9
        · rw [World.putObj_heap_other (by omega), Below.heap_setCell _ _ _ _ (by first | (simp; done) | (simp; omega))]; exact (hk3 _ (by omega)).trans hS.d
        · exact World.putObj_heap_same (by simpa using hlt3)
        · exact dr (hlow.setCell (p := ⟨w.heap.size + 1 + 1, 0, none⟩) (by show w.heap.size ≤ w.heap.size + 1 + 1; omega) _) (by omega) _
  obtain ⟨W0, hW0⟩ : ∃ W0, (w0.alloc (.deferred (some []))).alloc (.loop (rec .ready none)) = W0 := ⟨_, rfl⟩
  have it : CallsIn Fence.wide 5 prog 74 #[.func (.yield (w.heap.size + 6 + 1)) #[] #[], .pointer (some ⟨w.heap.size + 1 + 1 + 1 + 1, 0, none⟩), .pointer (some ⟨w.heap.size + 1 + 1 + 1, 0, none⟩), .pointer (some ⟨w.heap.size + 1 + 1 + 1 + 2, 0, none⟩)] W0
      (fun e W' => (∃ v, e = .returned v) ∧ ((∃ xs, tE s = some xs ∧ JT w rec xs W') ∨ (tE s = none ∧ Ly w rec W'))) := by
    refine callsIn_of_wp Tryz.func74 rfl trivial ?_ rfl
    simp only [Tryz.ntmps74, List.size_toArray, List.length_cons, List.length_nil, Nat.reduceAdd, Nat.reduceSub, Array.replicate_succ, Array.replicate_zero, List.push_toArray, List.append_toArray, List.nil_append, List.cons_append]
    have hat : ∀ k, k < 8 → W0.heap[w.heap.size + k]? = #[Obj.cells #[.slice none 0 0] 30, .cells #[.int .i64 0] 25, .cells #[.slice none 0 0] 30, .cells #[.string s] 9, .cells #[.string ⟨#[32]⟩] 9, .cells #[.int .i64 0] 3, .deferred (some []), .loop (rec .ready none)][k]? := fun k hk => by
      rw [← hW0, ← hw0]
      exact JU w.heap _ _ _ _ _ _ _ _ k
    have hlow0 : Below w.heap.size w W0 := by
      rw [← hW0, ← hw0]
      refine Below.alloc (Below.alloc (Below.alloc (Below.alloc (Below.alloc (Below.alloc (Below.alloc (Below.alloc (Below.refl _ w) ?_ _) ?_ _) ?_ _) ?_ _) ?_ _) ?_ _) ?_ _) ?_ _
      all_goals simp
      all_goals try omega
    have hSt : JT w rec [] W0 := ⟨hat 0 (by omega), hat 1 (by omega), ⟨_, hat 2 (by omega), World.ownsRow_nil _ _ _ _⟩, hat 6 (by omega), hat 7 (by omega), hlow0⟩
    have hq0 : Boxed W0 (w.heap.size + 3) 9 (.string s) := hat 3 (by omega)
    have hq1 : Boxed W0 (w.heap.size + 4) 9 (.string ⟨#[32]⟩) := hat 4 (by omega)
    have hq2 : Boxed W0 (w.heap.size + 5) 3 (.int .i64 0) := hat 5 (by omega)
    clear hat hlow0 hy
    have hc1 : W0.cell? ⟨w.heap.size + 1 + 1 + 1 + 1, 0, none⟩ = some (.string ⟨#[32]⟩) := hq1.cell
    gi_wp2
    gi_loopw [7] (fun _ W => ∃ (r : ByteArray) (pre : List Int) (f : Nat), Boxed W (w.heap.size + 3) 9 (.string r) ∧ Boxed W (w.heap.size + 4) 9 (.string ⟨#[32]⟩) ∧ Boxed W (w.heap.size + 5) 3 (.int .i64 0) ∧
        C8 f r pre = tE s ∧ r.size < f ∧ pre.length + r.size ≤ s.size ∧ JT w rec pre W) (fun _ W => Fz W (w.heap.size + 3))
    case atStart => exact ⟨s, [], s.size + 1, hq0, hq1, hq2, rfl, by omega, by simp, hSt⟩
    case round =>
      obtain ⟨r, pre, f, hb3, hb4, hb5, hu, hf, hl, hS⟩ := hrel
      have cI := fun w' => callsIn_wide (n := 3).2 (Tryz.strings_Index_one r 32 w')
      have h9 : Lib.indexByte r.data.toList 32 < r.size ∨ Lib.indexByte r.data.toList 32 = -1 := by
        rcases C7 r.data.toList 32 with h | h
        · exact .inl (by simpa using h)
        · rw [h]; exact .inr rfl
      have hge := Lib.indexByte_ge r.data.toList 32
      obtain ⟨i, hi⟩ : ∃ i, Lib.indexByte r.data.toList 32 = i := ⟨_, rfl⟩
      have cIx : Calls prog 76 #[.string r, .string ⟨#[32]⟩] wr (fun e w' => e = .returned (.int .i64 i) ∧ w' = wr) := by rw [← hi]; exact Tryz.strings_Index_one r 32 wr
      obtain ⟨f, rfl⟩ : ∃ g, f = g + 1 := ⟨f - 1, by omega⟩
      simp only [C8, hi] at hu
      rw [hi] at h9 hge
      clear cI
      have hc3 := hb3.cell
      have hc4 := hb4.cell
      have hc5 := hb5.cell
      by_cases hneg : i < 0
      · obtain ⟨fn', tmps', assign', body', hy', hR'⟩ := round pre r wr (by omega) (by omega) hS
        gi_wp2_with (refine ⟨trivial, ?_⟩; gi_at_call 76; refine (callsIn_wide.2 cIx).mono ?_; rintro e w' ⟨rfl, rfl⟩)
        refine hR'.mono ?_
        rintro e W3 ⟨_, ⟨ho, rfl, hS3⟩ | ⟨ho, rfl, hS3⟩⟩
        · gi_wp2
          go_end0
          exact ⟨⟨_, rfl⟩, .inl ⟨_, by rw [← hu, if_pos hneg, if_pos ho], hS3⟩⟩
        · gi_wp2
          go_end0
          exact ⟨⟨_, rfl⟩, .inr ⟨by rw [← hu, if_pos hneg, if_neg (by rw [ho]; decide)], hS3⟩⟩
      · obtain ⟨n, rfl⟩ := Int.eq_ofNat_of_zero_le (Int.not_lt.1 hneg)
        obtain ⟨fn', tmps', assign', body', hy', hR'⟩ := round pre (r.extract 0 n) wr (by simp; omega) (by omega) hS
        gi_wp2_with (refine ⟨trivial, ?_⟩; gi_at_call 76; refine (callsIn_wide.2 cIx).mono ?_; rintro e w' ⟨rfl, rfl⟩)
        rw [if_neg (show ¬ ((n : Int) < 0) by omega), Int.toNat_natCast] at hu
        refine hR'.mono ?_
        rintro e W3 ⟨hk, ⟨ho, rfl, hS3⟩ | ⟨ho, rfl, hS3⟩⟩
        · rw [if_pos ho] at hu
          have hb3' : Boxed W3 (w.heap.size + 3) 9 (.string r) := (hk _ (by omega) (by omega)).trans hb3
          have hb4' : Boxed W3 (w.heap.size + 4) 9 (.string ⟨#[32]⟩) := (hk _ (by omega) (by omega)).trans hb4
          have hb5' : Boxed W3 (w.heap.size + 5) 3 (.int .i64 0) := (hk _ (by omega) (by omega)).trans hb5
          have hc3' := hb3'.cell
          have hc4' := hb4'.cell
          have hf3' := hb3'.frozen
          gi_wp2
          have hb6 := hb3'.set (.string (r.extract (n + 1) r.size))
          go_roundw
          case rel =>
            refine ⟨r.extract (n + 1) r.size, pre ++ [lQ (r.extract 0 n)], f, hb6, ?_, ?_, hu, ?_, ?_, hS3.set _ (by omega) (by omega) _⟩
            · exact (Below.heap_setCell _ _ _ _ (show w.heap.size + 4 ≠ w.heap.size + 1 + 1 + 1 by omega)).trans hb4'
            · exact (Below.heap_setCell _ _ _ _ (show w.heap.size + 5 ≠ w.heap.size + 1 + 1 + 1 by omega)).trans hb5'
            · simp; omega
            · simp; omega
          case measure =>
            rw [B3 hb6, B3 hb3]
            simp
            omega
        · rw [if_neg (by rw [ho]; decide)] at hu
          gi_wp2
          refine bodyPost_ret (results_none rfl _ _ _) rfl ?_
          exact ⟨⟨_, rfl⟩, .inr ⟨hu.symm, hS3⟩⟩
  clear round hy
  rw [hW0]
  refine it.mono ?_
  rintro e W' ⟨hv, ⟨xs, hxs, hS⟩ | ⟨hxs, hS⟩⟩
  · refine ⟨hv, .inl ⟨hS.o, ?_⟩⟩
    have hlt : w.heap.size + 6 + 1 < W'.heap.size := (Array.getElem?_eq_some_iff.1 hS.o).1
    obtain ⟨W2, hW2⟩ : ∃ W2, W'.putObj (w.heap.size + 6 + 1) (.loop (rec .exhausted none)) = W2 := ⟨_, rfl⟩
    rw [hW2]
    have hk : ∀ k, k ≠ w.heap.size + 6 + 1 → W2.heap[k]? = W'.heap[k]? := fun k hk => by rw [← hW2]; exact World.putObj_heap_other hk
    obtain ⟨v, hv, ho⟩ := hS.l
    have br : Boxed W2 w.heap.size 30 (.slice none 0 0) := (hk _ (by omega)).trans hS.r
    have be : Boxed W2 (w.heap.size + 1) 25 (.int .i64 0) := (hk _ (by omega)).trans hS.e
    have bl : Boxed W2 (w.heap.size + 1 + 1) 30 v := (hk _ (by omega)).trans hv
    have hcl := bl.cell
    have hcr := br.cell
    have hfr := br.frozen
    obtain ⟨p, n, cap, rfl⟩ : ∃ p n cap, v = .slice p n cap := by
      rcases ho.2 with ⟨rfl, _⟩ | ⟨g, cap, cur, rfl, _⟩
      · exact ⟨_, _, _, rfl⟩
      · exact ⟨_, _, _, rfl⟩
    have be2 : Boxed (W2.setCell ⟨w.heap.size, 0, none⟩ (.slice p n cap)) (w.heap.size + 1) 25 (.int .i64 0) := (Below.heap_setCell _ _ _ _ (by first | (simp; done) | (simp; omega))).trans be
    have hce := be2.cell
    have hfe := be2.frozen
    gi_wp2
    obtain ⟨W3, hW3⟩ : ∃ W3, (W2.setCell ⟨w.heap.size, 0, none⟩ (.slice p n cap)).setCell ⟨w.heap.size + 1, 0, none⟩ (.int .i64 0) = W3 := ⟨_, rfl⟩
    rw [hW3]
    have be3 : Boxed W3 (w.heap.size + 1) 25 (.int .i64 0) := by rw [← hW3]; exact be2.set _
    have br3 : Boxed W3 w.heap.size 30 (.slice p n cap) := by
      rw [← hW3]
      exact (Below.heap_setCell _ _ _ _ (by first | (simp; done) | (simp; omega))).trans (br.set _)
    have hk3 : ∀ k, w.heap.size + 2 ≤ k → k ≠ w.heap.size + 6 + 1 → W3.heap[k]? = W'.heap[k]? := fun k h1 h2 => by
      rw [← hW3, Below.heap_setCell _ _ _ _ (by show k ≠ w.heap.size + 1; omega), Below.heap_setCell _ _ _ _ (by show k ≠ w.heap.size; omega)]; exact hk k h2
    have hd : W3.heap[w.heap.size + 6]? = some (.deferred (some [])) := (hk3 _ (by omega) (by omega)).trans hS.d
    have hlow : Below w.heap.size w W3 := by
      rw [← hW3, ← hW2]
      exact ((dr hS.low (by omega) _).setCell (p := ⟨w.heap.size, 0, none⟩) (by simp) _).setCell (p := ⟨w.heap.size + 1, 0, none⟩) (by simp) _
    have hown : (W3.putObj (w.heap.size + 6) (.deferred none)).ownsRow (w.heap.size + 8) 31 1 (.slice p n cap) xs.length (xs.map (Value.int .u64)) :=
      mh ho fun k h1 _ => (World.putObj_heap_other (by omega)).trans (hk3 k (by omega) (by omega))
    refine ⟨by simp, .inl ⟨_, _, rfl, run_takeDeferred hd, ?_⟩⟩
    exact ⟨_, sE (a := ⟨w.heap.size, 0, none⟩) (b := ⟨w.heap.size + 1, 0, none⟩) rfl rfl rfl (by kernel_rfl) (by kernel_rfl) (Boxed.cell ((World.putObj_heap_other (by omega)).trans br3)) (Boxed.cell ((World.putObj_heap_other (by omega)).trans be3)), dr hlow (by omega) _, .inl ⟨xs, _, hxs, rfl, hown⟩⟩
  · refine ⟨hv, .inr ⟨_, hS.o, ?_⟩⟩
    have hlt : w.heap.size + 6 + 1 < W'.heap.size := (Array.getElem?_eq_some_iff.1 hS.o).1
    obtain ⟨W2, hW2⟩ : ∃ W2, W'.putObj (w.heap.size + 6 + 1) (.loop (rec .exhausted (some .ret))) = W2 := ⟨_, rfl⟩
    rw [hW2]
    have hk : ∀ k, k ≠ w.heap.size + 6 + 1 → W2.heap[k]? = W'.heap[k]? := fun k hk => by rw [← hW2]; exact World.putObj_heap_other hk
    have br : Boxed W2 w.heap.size 30 (.slice none 0 0) := (hk _ (by omega)).trans hS.r
    have be : Boxed W2 (w.heap.size + 1) 25 (.int .i64 4) := (hk _ (by omega)).trans hS.e
    have hcr := br.cell
    have hce := be.cell
    have hd : W2.heap[w.heap.size + 6]? = some (.deferred (some [])) := (hk _ (by omega)).trans hS.d
    have hlow : Below w.heap.size w W2 := by rw [← hW2]; exact dr hS.low (by omega) _
    gi_wp2
    refine ⟨by simp, .inl ⟨_, _, rfl, run_takeDeferred hd, ?_⟩⟩
    exact ⟨_, sE (a := ⟨w.heap.size, 0, none⟩) (b := ⟨w.heap.size + 1, 0, none⟩) rfl rfl rfl (by kernel_rfl) (by kernel_rfl) (Boxed.cell ((World.putObj_heap_other (by omega)).trans br)) (Boxed.cell ((World.putObj_heap_other (by omega)).trans be)), dr hlow (by omega) _, .inr ⟨hxs, rfl⟩⟩
def kT(s:ByteArray) :Bool:=(tE s).isSome
def fx(s:ByteArray) :List Int:=(tE s).getD []
theorem FB{ρ:ae}{W:World}{base:Nat}{t:TypeId}{k:IntKind}{v:Value}{xs:List Int}(h:W.ownsRow base t 1 v xs.length (xs.map (Value.int k)))(ha:∀ bl,base≤bl→ρ.avoid .free bl) :
    VR ρ W (.imm .free (.ns k xs) 1 1 0 xs.length) v:=by
  rcases h.2 with ⟨rfl,h0⟩ | ⟨g,cap,cur,rfl,hg,hc,hn,_,hs,ht⟩
  · rw [h0];exact .immEnd _ _ _ _ _ _ _ trivial (fun _=>rfl) rfl
  · refine .imm .free (.ns k xs) 1 1 0 xs.length cap g 0 (fun x=>.int k (xs.getD x 0)) (ha g hg) (Array.getElem?_eq_some_iff.1 hc).1 (fun x v hx=>?_) (fun x v hx=>?_) hn trivial (fun _=>rfl) rfl
    · simp only [aj.cell?] at hx
      cases hq:xs[x]? with
      | none=>rw [hq] at hx;cases hx
      | some z =>
        have hlt:=(List.getElem?_eq_some_iff.1 hq).1
        have h1:(cur.toList.take (xs.length*1))[x]? = some (.int k z):=by rw [ht,List.getElem?_map,hq];rfl
        rw [List.getElem?_take,if_pos (by omega)] at h1
        simp only [World.cell?,hc,Nat.zero_add]
        rw [List.getD_eq_getElem?_getD,hq]
        simpa using h1
    · simp only [aj.cell?] at hx
      cases hq:xs[x]? with
      | none=>rw [hq] at hx;cases hx
      | some z =>
        rw [hq] at hx
        cases hx
        rw [List.getD_eq_getElem?_getD,hq]
        exact .int _ _
theorem Gx(s:ByteArray)(hs:s.size≤1000000000) :(∀ h:kT s=true,am prog dM [] [.str s] ⟨.tup [.imm .free (.ns .u64 (fx s)) 1 1 0 (fx s).length,.int .i64 0],[]⟩) ∧
    (∀ h:(!kT s)=true,am prog dM [] [.str s] ⟨.tup [.nsl,.int .i64 4],[]⟩):=by
  refine ⟨fun ho=>?_,fun ho=>?_⟩
  · refine bB ⟨FN dM,by kernel_rfl,by kernel_rfl⟩ fun ρ w us hN hv=>?_
    cases hv with | cons _ u _ _ h1 h2 =>
    cases h2;cases h1
    refine (xL s hs w (Lib.hid hN.romOk)).mono ?_
    rintro e w' ⟨hb,⟨xs,v,hx,rfl,hown⟩ | ⟨hx,rfl⟩⟩
    · have e1:fx s=xs:=by unfold fx;rw [hx];rfl
      rw [e1]
      exact ⟨_,rfl,hb,.tup _ _ (.cons _ _ _ _ (FB hown fun bl hbl=>cy.new hN bl (by omega)) (.cons _ _ _ _ (.int _ _) .nil))⟩
    · unfold kT at ho;rw [hx] at ho;cases ho
  · refine bB ⟨FN dM,by kernel_rfl,by kernel_rfl⟩ fun ρ w us hN hv=>?_
    cases hv with | cons _ u _ _ h1 h2 =>
    cases h2;cases h1
    refine (xL s hs w (Lib.hid hN.romOk)).mono ?_
    rintro e w' ⟨hb,⟨xs,v,hx,rfl,hown⟩ | ⟨hx,rfl⟩⟩
    · unfold kT at ho;rw [hx] at ho;cases ho
    · exact ⟨_,rfl,hb,.tup _ _ (.cons _ _ _ _ .nsl (.cons _ _ _ _ (.int _ _) .nil))⟩
noncomputable def Gy:aH:=db dM (.cons .str .nil) fun t =>
  [⟨⟨.tup [.imm .free (.ns .u64 (fx t.1)) 1 1 0 (fx t.1).length,.int .i64 0],[]⟩,[kT t.1,fw t.1.size]⟩,⟨⟨.tup [.nsl,.int .i64 4],[]⟩,[!kT t.1,fw t.1.size]⟩]
theorem FC:aL prog Gy:=aP fun t a ha ho=>by
  simp only [List.mem_cons,List.not_mem_nil,or_false] at ha
  rcases ha with rfl | rfl
  · exact (Gx t.1 (Nat.le_of_ble_eq_true ho.2.1)).1 ho.1
  · exact (Gx t.1 (Nat.le_of_ble_eq_true ho.2.1)).2 ho.1
end Go.Plb.Seat
namespace Go.Plb.Seat
open Go Go.Plb
noncomputable def IN:aH:=db lp (.cons (.int .u64) .nil) fun t=>[⟨⟨.str (bc t.1),[]⟩,[]⟩]
theorem Hl:aL prog IN:=aP fun t a ha ho=>by
  simp only [List.mem_singleton] at ha
  subst ha
  exact IE t.1
noncomputable def Kk:List aH:=[CR,wq,IH,IK,Eq,IM,Gy,IN]
theorem ve:aZ prog (bf Kk):=aq Fp (aq CT (aq Hi (aq Hj (aq Er (aq Hk (aq FC (aq Hl (tz prog))))))))
end Go.Plb.Seat
namespace Go.Plb.Seat
open Go Go.Plb
set_option linter.unusedVariables false
set_option maxRecDepth 100000
noncomputable section
inductive bT where
  | r0 (s9:ByteArray)
def mi:bT→AE×aA
  | .r0 s9=>(.ret,⟨ap 20 [(2,.str s9)],[],0⟩)
theorem nP:qi mi:=by intro x;cases x<;>(intro h;cases h)
theorem A8(id:Nat) :rI id mi:=by intro x;cases x<;>(intro h;cases h)
def pm:bT→mb
  | .r0 s9=>⟨.str s9,[]⟩
noncomputable def A9:List Code:=dn (tA pa)
def Ba(v_0:Lv)(words_1:List Int)(_:Unit) :aA:=⟨ap 20 [(3,.nsl),(6,.imm v_0 (.ns .u64 words_1) 1 1 0 (List.length words_1)),(7,.int .i64 (((List.length words_1):Nat):Int)),(8,.int .i64 (0:Int))],[],0⟩
def Bb:T ((Unit)⊕(bT)) :=
  .leaf (.inl ())
def kU(v_0:Lv)(words_1:List Int) :Nat×Nat×Nat×(List ByteArray)→aA:=fun (l2,l3,a4,l5)=>⟨ap 20 [(3,.sl 0 1 1 0 l2 l3),(6,.imm v_0 (.ns .u64 words_1) 1 1 0 (List.length words_1)),(7,.int .i64 (((List.length words_1):Nat):Int)),(8,.int .i64 ((a4:Nat):Int))],[(0,.ss l5)],1⟩
def sF:Nat×Nat×(List ByteArray)→aA:=fun (l6,l7,l8)=>⟨ap 20 [(3,.sl 0 1 1 0 l6 l7)],[(0,.ss l8)],1⟩
noncomputable def Bc:List Code:=dn (mH ((((A9.drop 3).take 1)).headD .skip))
def zM(words_1:List Int)(l2:Nat)(l3:Nat)(a4:Nat)(l5:List ByteArray) :T ((Nat×Nat×Nat×(List ByteArray))⊕((Nat×Nat×(List ByteArray))⊕(bT))) :=
  .ask (decide (((a4:Nat):Int)<(((List.length words_1):Nat):Int)))
    (.need (vR ((a4:Nat):Int) (List.length words_1))<|.need (mA a4 (List.length words_1))<|.need (gK ((l2+1)*16) 140737488355328)<|.need (gK (l2+1) 9223372036854775807)<|.need (gK 1 (List.length [(bc (List.getD words_1 a4 0))]))<|.need (gK l2 (List.length l5))<|.need (kp .i64 (((a4+1):Nat):Int))<|.leaf (.inl ((l2+1),(l2+1),(a4+1),((List.take l2 l5)++(List.take 1 [(bc (List.getD words_1 a4 0))])))))
    (.leaf (.inr (.inl (l2,l3,l5))))
noncomputable def mI(words_1:List Int) :Nat×Nat×Nat×(List ByteArray)→Option ((Nat×Nat×Nat×(List ByteArray))⊕((Nat×Nat×(List ByteArray))⊕(bT))):=fun (l2,l3,a4,l5) =>
  (zM words_1 l2 l3 a4 l5).run
theorem zN(v_0:Lv)(words_1:List Int)(l2:Nat)(l3:Nat)(a4:Nat)(l5:List ByteArray) :Sg prog [] Bc (kU v_0 words_1 (l2,l3,a4,l5)) (mI words_1 (l2,l3,a4,l5)) (kU v_0 words_1) (gY 0 sF mi):=by
  unfold mI;exact cN ve (kU v_0 words_1) [⟨[],[129],[3,6,7,8]⟩,⟨[],[0],[3]⟩]
def mJ(l6:Nat)(l8:List ByteArray) :T ((Empty)⊕(bT)) :=
  .need (lG 0 l6 l8)<|.need (Kj (ByteArray.mk #[32]))<|.need (fw (pF (cW 0 l6 l8)).size)<|.need (fw (List.length (cW 0 l6 l8)))<|.leaf (.inr (.r0 (pF (cW 0 l6 l8))))
noncomputable def pn(words_1:List Int) :Option bT:=uZ (bg ((Bb).run) fun _ =>
  bg (dN (mI words_1) (0,0,0,([]:List ByteArray))) fun (l6,l7,l8) =>
  (mJ l6 l8).run)
theorem sG(v_0:Lv)(words_1:List Int){x:bT}(h:pn words_1=some x) :am prog pa [] [.imm v_0 (.ns .u64 words_1) 1 1 0 (List.length words_1)] (pm x) :=
  yB false pm mi h (Sg.cut 3 nP (cN ve (Ba v_0 words_1) [⟨[],[],[3,6,7,8]⟩]) (fun _=>Sg.cut 1 nP (Kc ⟨[(.slot 3,.own 1 1 (.ss ([]:List ByteArray)))],[0],[3,6,7,8]⟩ (kU v_0 words_1) (sF) 0 nP (A8 _) (fun ⟨l2,l3,a4,l5⟩=>zN v_0 words_1 l2 l3 a4 l5)) (fun ⟨l6,l7,l8⟩=>cN ve vS [⟨[],[],[2]⟩])))
    (fun x=>by cases x with | r0 s9=>exact qj [.str s9])
def nQ:Option bT→Bool
  | some _=>true
  | none=>false
def pG:Option bT→ByteArray
  | some (.r0 x)=>x
  | _=>ByteArray.empty
theorem Bd{x:Option bT}(h:nQ x=true) :x=some (.r0 (pG x)):=by
  unfold nQ at h
  split at h<;>first | rfl | (cases h;done) | (rename_i y;cases y;rfl)
noncomputable def vf:aH:=db pa (.cons (.ns .u64) .nil) fun t=>(fun q=>[⟨pm (.r0 (pG q)),[nQ q]⟩]) (pn t.1.2)
theorem xZ:aL prog vf:=aP fun t=>(ba (fun h=>sG t.1.1 t.1.2 (Bd h)) bF)
noncomputable def vg:List aH:=vf::Kk
theorem pH:aZ prog (bf vg):=aq xZ ve
inductive cU where
  | r0 (s1:ByteArray)
def Be:cU→AE×aA
  | .r0 s1=>(.ret,⟨ap 12 [(4,.str s1)],[],0⟩)
def nR:cU→mb
  | .r0 s1=>⟨.str s1,[]⟩
def zO(m_0:Int)(n_1:Int) :T ((Empty)⊕(cU)) :=
  .need (kp .i64 m_0)<|.need (decide ((ByteArray.mk #[109,97,116,114,105,120,32]).size+(bS m_0).size≤9223372036854775807))<|.need (decide (((ByteArray.mk #[109,97,116,114,105,120,32])++(bS m_0)).size+(ByteArray.mk #[32]).size≤9223372036854775807))<|.need (kp .i64 n_1)<|.need (decide ((((ByteArray.mk #[109,97,116,114,105,120,32])++(bS m_0))++(ByteArray.mk #[32])).size+(bS n_1).size≤9223372036854775807))<|.leaf (.inr (.r0 ((((ByteArray.mk #[109,97,116,114,105,120,32])++(bS m_0))++(ByteArray.mk #[32]))++(bS n_1))))
noncomputable def dy(m_0:Int)(n_1:Int) :Option cU:=uZ ((zO m_0 n_1).run)
theorem qJ(m_0:Int)(n_1:Int){x:cU}(h:dy m_0 n_1=some x) :am prog sA [] [.int .i64 m_0,.int .i64 n_1] (nR x) :=
  yB false nR Be h (cN pH vS [⟨[],[],[4]⟩])
    (fun x=>by cases x with | r0 s1=>exact qj [.str s1])
def fy:Option cU→Bool
  | some _=>true
  | none=>false
def gN:Option cU→ByteArray
  | some (.r0 x)=>x
  | _=>ByteArray.empty
theorem zP{x:Option cU}(h:fy x=true) :x=some (.r0 (gN x)):=by
  unfold fy at h
  split at h<;>first | rfl | (cases h;done) | (rename_i y;cases y;rfl)
noncomputable def sH:aH:=db sA (.cons (.int .i64) (.cons (.int .i64) .nil)) fun t=>(fun q=>[⟨nR (.r0 (gN q)),[fy q]⟩]) (dy t.1 t.2.1)
theorem wy:aL prog sH:=aP fun t=>(ba (fun h=>qJ t.1 t.2.1 (zP h)) bF)
noncomputable def sI:List aH:=sH::vg
theorem gO:aZ prog (bf sI):=aq wy pH
inductive bC where
  | r0 (b7:Bool)
def qK:bC→AE×aA
  | .r0 b7=>(.ret,⟨ap 37 [(2,.bool false b7)],[],0⟩)
theorem pK:qi qK:=by intro x;cases x<;>(intro h;cases h)
def mK:bC→mb
  | .r0 b7=>⟨.bool false b7,[]⟩
def ya(a_0:Int)(a_1:Int)(a_2:Int)(v_3:Lv)(a_4:List Int)(a_5:Int)(a_6:Int) :Bool×ByteArray×Nat×Bool×Bool→aA:=fun (is1,s2,a3,b4,b5)=>⟨ap 37 [(1,.ptr 0 1 0 0),(3,.ptr 1 1 0 0),(4,.bool false is1)],[(0,.vs [.int .i64 a_0,.int .i64 a_1,.int .i64 a_2,.imm v_3 (.ns .u64 a_4) 1 1 0 (List.length a_4),.int .i64 a_5,.int .u64 a_6]),(1,.vs [.str s2,.int .i64 ((a3:Nat):Int),.bool false b4,.bool false b5])],2⟩
def yb(a_0 : Int) : T ((Bool × ByteArray × Nat × Bool × Bool) ⊕ (bC)) :=
  .alt 0
    (.need (a_0==(1:Int))<|.leaf (.inl (true,(ByteArray.mk #[101,105,103,101,110]),3,false,true)))
    (.alt 1
      (.need (a_0==(2:Int))<|.leaf (.inl (true,(ByteArray.mk #[118,97,108,117,101,115]),0,false,true)))
      (.alt 2
        (.need (a_0==(3:Int))<|.leaf (.inl (true,(ByteArray.mk #[115,118,100]),2,false,false)))
        (.alt 3
          (.need (a_0==(4:Int))<|.leaf (.inl (true,(ByteArray.mk #[114,97,110,107]),2,true,false)))
          (.alt 4
            (.need (a_0==(5:Int))<|.leaf (.inl (true,(ByteArray.mk #[105,110,118,101,114,115,101]),2,true,false)))
            (.alt 5
              (.need (a_0==(6:Int))<|.leaf (.inl (true,(ByteArray.mk #[99,111,110,100]),2,false,false)))
              (.alt 6
                (.need (!(a_0==(1:Int)))<|.need (!(a_0==(2:Int)))<|.need (!(a_0==(3:Int)))<|.need (!(a_0==(4:Int)))<|.need (!(a_0==(5:Int)))<|.need (!(a_0==(6:Int)))<|.leaf (.inl (false,ByteArray.empty,0,false,false)))
                (.fail)))))))
def yc(b6:Bool) :aA:=⟨ap 37 [(2,.bool false b6)],[],0⟩
def pL(a_5:Int)(a_6:Int)(is1:Bool)(a3:Nat)(b4:Bool) :T ((Bool)⊕(bC)) :=
  .ask is1
    (.ask (decide (a_5≥(kq (1:Int) ((a3:Nat):Int))))
      (.ask (decide (a_5≤((a3:Nat):Int)))
        (.ask b4
          (.leaf (.inl true))
          (.leaf (.inl (a_6==(0:Int)))))
        (.leaf (.inl false)))
      (.leaf (.inl false)))
    (.leaf (.inl false))
def yd(b6:Bool) :T ((Empty)⊕(bC)) :=
  .leaf (.inr (.r0 b6))
noncomputable def dd(a_0:Int)(a_5:Int)(a_6:Int) :Option bC:=uZ (bg ((yb a_0).run) fun (is1,s2,a3,b4,b5) =>
  bg ((pL a_5 a_6 is1 a3 b4).run) fun b6 =>
  (yd b6).run)
theorem ye(a_0:Int)(a_1:Int)(a_2:Int)(v_3:Lv)(a_4:List Int)(a_5:Int)(a_6:Int){x:bC}(h:dd a_0 a_5 a_6=some x) :am prog qB [] [.agg [.int .i64 a_0,.int .i64 a_1,.int .i64 a_2,.imm v_3 (.ns .u64 a_4) 1 1 0 (List.length a_4),.int .i64 a_5,.int .u64 a_6]] (mK x) :=
  yB false mK qK h (Sg.cut 2 pK (cN gO (ya a_0 a_1 a_2 v_3 a_4 a_5 a_6) [⟨[],[0,144],[1,3,4]⟩,⟨[],[0,144],[1,3,4]⟩,⟨[],[0,144],[1,3,4]⟩,⟨[],[0,144],[1,3,4]⟩,⟨[],[0,144],[1,3,4]⟩,⟨[],[0,144],[1,3,4]⟩,⟨[],[0,144],[1,3,4]⟩]) (fun ⟨is1,s2,a3,b4,b5⟩=>Sg.cut 1 pK (cN gO yc [⟨[],[],[2]⟩,⟨[],[],[2]⟩,⟨[],[],[2]⟩,⟨[],[],[2]⟩,⟨[],[],[2]⟩]) (fun b6=>cN gO vS [⟨[],[],[2]⟩])))
    (fun x=>by cases x with | r0 b7=>exact qj [.bool false b7])
def eE:Option bC→Bool
  | some _=>true
  | none=>false
def fg:Option bC→Bool
  | some (.r0 x)=>x
  | _=>false
theorem yf{x:Option bC}(h:eE x=true) :x=some (.r0 (fg x)):=by
  unfold eE at h
  split at h<;>first | rfl | (cases h;done) | (rename_i y;cases y;rfl)
noncomputable def qL:aH:=db qB (.cons (.agg (.cons (.int .i64) (.cons (.int .i64) (.cons (.int .i64) (.cons (.ns .u64) (.cons (.int .i64) (.cons (.int .u64) .nil))))))) .nil) fun t=>(fun q=>[⟨mK (.r0 (fg q)),[eE q]⟩]) (dd t.1.1 t.1.2.2.2.2.1 t.1.2.2.2.2.2.1)
theorem vh:aL prog qL:=aP fun t=>(ba (fun h=>ye t.1.1 t.1.2.1 t.1.2.2.1 t.1.2.2.2.1.1 t.1.2.2.2.1.2 t.1.2.2.2.2.1 t.1.2.2.2.2.2.1 (yf h)) bF)
noncomputable def qM:List aH:=qL::sI
theorem jZ:aZ prog (bf qM):=aq vh gO
inductive cn where
  | r0 (b2:Bool)
def vi:cn→AE×aA
  | .r0 b2=>(.ret,⟨ap 41 [(2,.bool false b2)],[],0⟩)
theorem Bf:qi vi:=by intro x;cases x<;>(intro h;cases h)
def po:cn→mb
  | .r0 b2=>⟨.bool false b2,[]⟩
def Bg(b1:Bool) :aA:=⟨ap 41 [(2,.bool false b1)],[],0⟩
def Bh(a_0 : Int)(a_1 : Int)(a_2 : Int)(a_4 : List Int)(a_5 : Int)(a_6 : Int) : T ((Bool) ⊕ (cn)) :=
  .ask (decide (a_1 ≥ (0 : Int)))
    (.ask (decide (a_1 ≤ (512 : Int)))
      (.ask (decide (a_2 ≥ (0 : Int)))
        (.ask (decide (a_2≤(512:Int)))
          (.need (kp .i64 (a_1*a_2))<|.ask ((((List.length a_4):Nat):Int)==(a_1*a_2))
            (.need (lG 0 (List.length a_4) a_4)<|.need (eE (dd a_0 a_5 a_6))<|.ask (fg (dd a_0 a_5 a_6))
              (.ask (a_1 == a_2)
                (.leaf (.inl true))
                (.alt 0
                  (.need (a_0==(1:Int))<|.leaf (.inl false))
                  (.alt 1
                    (.need (a_0==(2:Int))<|.leaf (.inl false))
                    (.alt 2
                      (.need (a_0==(3:Int))<|.leaf (.inl true))
                      (.alt 3
                        (.need (a_0==(4:Int))<|.leaf (.inl true))
                        (.alt 4
                          (.need (a_0==(5:Int))<|.leaf (.inl true))
                          (.alt 5
                            (.need (a_0==(6:Int))<|.leaf (.inl true))
                            (.alt 6
                              (.need (!(a_0==(1:Int)))<|.need (!(a_0==(2:Int)))<|.need (!(a_0==(3:Int)))<|.need (!(a_0==(4:Int)))<|.need (!(a_0==(5:Int)))<|.need (!(a_0==(6:Int)))<|.leaf (.inl true))
                              (.fail)))))))))
              (.leaf (.inl false)))
            (.leaf (.inl false)))
          (.leaf (.inl false)))
        (.leaf (.inl false)))
      (.leaf (.inl false)))
    (.leaf (.inl false))
def Bi(b1:Bool) :T ((Empty)⊕(cn)) :=
  .leaf (.inr (.r0 b1))
noncomputable def cQ(a_0:Int)(a_1:Int)(a_2:Int)(a_4:List Int)(a_5:Int)(a_6:Int) :Option cn:=uZ (bg ((Bh a_0 a_1 a_2 a_4 a_5 a_6).run) fun b1 =>
  (Bi b1).run)
theorem sJ(a_0:Int)(a_1:Int)(a_2:Int)(v_3:Lv)(a_4:List Int)(a_5:Int)(a_6:Int){x:cn}(h:cQ a_0 a_1 a_2 a_4 a_5 a_6=some x) :am prog uV [] [.agg [.int .i64 a_0,.int .i64 a_1,.int .i64 a_2,.imm v_3 (.ns .u64 a_4) 1 1 0 (List.length a_4),.int .i64 a_5,.int .u64 a_6]] (po x) :=
  yB false po vi h (Sg.cut 2 Bf (cN jZ Bg [⟨[],[],[2]⟩,⟨[],[],[2]⟩,⟨[],[],[2]⟩,⟨[],[],[2]⟩,⟨[],[],[2]⟩,⟨[],[],[2]⟩,⟨[],[],[2]⟩,⟨[],[],[2]⟩,⟨[],[],[2]⟩,⟨[],[],[2]⟩,⟨[],[],[2]⟩,⟨[],[],[2]⟩,⟨[],[],[2]⟩,⟨[],[],[2]⟩]) (fun b1=>cN jZ vS [⟨[],[],[2]⟩]))
    (fun x=>by cases x with | r0 b2=>exact qj [.bool false b2])
def eT:Option cn→Bool
  | some _=>true
  | none=>false
def eF:Option cn→Bool
  | some (.r0 x)=>x
  | _=>false
theorem Bj{x:Option cn}(h:eT x=true) :x=some (.r0 (eF x)):=by
  unfold eT at h
  split at h<;>first | rfl | (cases h;done) | (rename_i y;cases y;rfl)
noncomputable def vj:aH:=db uV (.cons (.agg (.cons (.int .i64) (.cons (.int .i64) (.cons (.int .i64) (.cons (.ns .u64) (.cons (.int .i64) (.cons (.int .u64) .nil))))))) .nil) fun t=>(fun q=>[⟨po (.r0 (eF q)),[eT q]⟩]) (cQ t.1.1 t.1.2.1 t.1.2.2.1 t.1.2.2.2.1.2 t.1.2.2.2.2.1 t.1.2.2.2.2.2.1)
theorem yg:aL prog vj:=aP fun t=>(ba (fun h=>sJ t.1.1 t.1.2.1 t.1.2.2.1 t.1.2.2.2.1.1 t.1.2.2.2.1.2 t.1.2.2.2.2.1 t.1.2.2.2.2.2.1 (Bj h)) bF)
noncomputable def vk:List aH:=vj::qM
theorem eG:aZ prog (bf vk):=aq yg jZ
inductive bD where
  | r0 (s7:ByteArray)
def sK:bD→AE×aA
  | .r0 s7=>(.ret,⟨ap 29 [(2,.str s7)],[],0⟩)
theorem mL:qi sK:=by intro x;cases x<;>(intro h;cases h)
def nS:bD→mb
  | .r0 s7=>⟨.str s7,[]⟩
def zQ(a_0:Int)(a_1:Int)(a_2:Int)(v_3:Lv)(a_4:List Int)(a_5:Int)(a_6:Int) :ByteArray×Nat×Bool×Bool→aA:=fun (s1,a2,b3,b4)=>⟨ap 29 [(1,.ptr 0 1 0 0),(3,.ptr 1 1 0 0)],[(0,.vs [.int .i64 a_0,.int .i64 a_1,.int .i64 a_2,.imm v_3 (.ns .u64 a_4) 1 1 0 (List.length a_4),.int .i64 a_5,.int .u64 a_6]),(1,.vs [.str s1,.int .i64 ((a2:Nat):Int),.bool false b3,.bool false b4])],2⟩
def zR(a_0 : Int) : T ((ByteArray × Nat × Bool × Bool) ⊕ (bD)) :=
  .alt 0
    (.need (a_0==(1:Int))<|.leaf (.inl ((ByteArray.mk #[101,105,103,101,110]),3,false,true)))
    (.alt 1
      (.need (a_0==(2:Int))<|.leaf (.inl ((ByteArray.mk #[118,97,108,117,101,115]),0,false,true)))
      (.alt 2
        (.need (a_0==(3:Int))<|.leaf (.inl ((ByteArray.mk #[115,118,100]),2,false,false)))
        (.alt 3
          (.need (a_0==(4:Int))<|.leaf (.inl ((ByteArray.mk #[114,97,110,107]),2,true,false)))
          (.alt 4
            (.need (a_0==(5:Int))<|.leaf (.inl ((ByteArray.mk #[105,110,118,101,114,115,101]),2,true,false)))
            (.alt 5
              (.need (a_0==(6:Int))<|.leaf (.inl ((ByteArray.mk #[99,111,110,100]),2,false,false)))
              (.alt 6
                (.need (!(a_0==(1:Int)))<|.need (!(a_0==(2:Int)))<|.need (!(a_0==(3:Int)))<|.need (!(a_0==(4:Int)))<|.need (!(a_0==(5:Int)))<|.need (!(a_0==(6:Int)))<|.leaf (.inl (ByteArray.empty,0,false,false)))
                (.fail)))))))
def zS(a_0:Int)(a_1:Int)(a_2:Int)(v_3:Lv)(a_4:List Int)(a_5:Int)(a_6:Int)(s1:ByteArray)(a2:Nat)(b3:Bool)(b4:Bool)(s5:ByteArray) :aA:=⟨ap 29 [(1,.ptr 0 1 0 0),(3,.ptr 1 1 0 0),(4,.str s5)],[(0,.vs [.int .i64 a_0,.int .i64 a_1,.int .i64 a_2,.imm v_3 (.ns .u64 a_4) 1 1 0 (List.length a_4),.int .i64 a_5,.int .u64 a_6]),(1,.vs [.str s1,.int .i64 ((a2:Nat):Int),.bool false b3,.bool false b4])],2⟩
def qN(a_5:Int)(s1:ByteArray)(a2:Nat) :T ((ByteArray)⊕(bD)) :=
  .ask (decide (((a2:Nat):Int)>(0:Int)))
    (.need (kp .i64 a_5)<|.need (decide ((ByteArray.mk #[32]).size+(bS a_5).size≤9223372036854775807))<|.need (decide (s1.size+((ByteArray.mk #[32])++(bS a_5)).size≤9223372036854775807))<|.leaf (.inl (s1++((ByteArray.mk #[32])++(bS a_5)))))
    (.leaf (.inl s1))
def zT(s6:ByteArray) :aA:=⟨ap 29 [(4,.str s6)],[],0⟩
def zU(a_6:Int)(b3:Bool)(s5:ByteArray) :T ((ByteArray)⊕(bD)) :=
  .ask b3
    (.need (decide ((ByteArray.mk #[32]).size+(bc a_6).size≤9223372036854775807))<|.need (decide (s5.size+((ByteArray.mk #[32])++(bc a_6)).size≤9223372036854775807))<|.leaf (.inl (s5++((ByteArray.mk #[32])++(bc a_6)))))
    (.leaf (.inl s5))
def zV(s6:ByteArray) :T ((Empty)⊕(bD)) :=
  .leaf (.inr (.r0 s6))
noncomputable def dz(a_0:Int)(a_5:Int)(a_6:Int) :Option bD:=uZ (bg ((zR a_0).run) fun (s1,a2,b3,b4) =>
  bg ((qN a_5 s1 a2).run) fun s5 =>
  bg ((zU a_6 b3 s5).run) fun s6 =>
  (zV s6).run)
theorem qO(a_0:Int)(a_1:Int)(a_2:Int)(v_3:Lv)(a_4:List Int)(a_5:Int)(a_6:Int){x:bD}(h:dz a_0 a_5 a_6=some x) :am prog sx [] [.agg [.int .i64 a_0,.int .i64 a_1,.int .i64 a_2,.imm v_3 (.ns .u64 a_4) 1 1 0 (List.length a_4),.int .i64 a_5,.int .u64 a_6]] (nS x) :=
  yB false nS sK h (Sg.cut 2 mL (cN eG (zQ a_0 a_1 a_2 v_3 a_4 a_5 a_6) [⟨[],[0,96],[1,3]⟩,⟨[],[0,96],[1,3]⟩,⟨[],[0,96],[1,3]⟩,⟨[],[0,96],[1,3]⟩,⟨[],[0,96],[1,3]⟩,⟨[],[0,96],[1,3]⟩,⟨[],[0,96],[1,3]⟩]) (fun ⟨s1,a2,b3,b4⟩=>Sg.cut 3 mL (cN eG (zS a_0 a_1 a_2 v_3 a_4 a_5 a_6 s1 a2 b3 b4) [⟨[],[0,1],[1,3,4]⟩,⟨[],[0,1],[1,3,4]⟩]) (fun s5=>Sg.cut 2 mL (cN eG zT [⟨[],[],[4]⟩,⟨[],[],[4]⟩]) (fun s6=>cN eG vS [⟨[],[],[2]⟩]))))
    (fun x=>by cases x with | r0 s7=>exact qj [.str s7])
def fA:Option bD→Bool
  | some _=>true
  | none=>false
def gP:Option bD→ByteArray
  | some (.r0 x)=>x
  | _=>ByteArray.empty
theorem zW{x:Option bD}(h:fA x=true) :x=some (.r0 (gP x)):=by
  unfold fA at h
  split at h<;>first | rfl | (cases h;done) | (rename_i y;cases y;rfl)
noncomputable def sL:aH:=db sx (.cons (.agg (.cons (.int .i64) (.cons (.int .i64) (.cons (.int .i64) (.cons (.ns .u64) (.cons (.int .i64) (.cons (.int .u64) .nil))))))) .nil) fun t=>(fun q=>[⟨nS (.r0 (gP q)),[fA q]⟩]) (dz t.1.1 t.1.2.2.2.2.1 t.1.2.2.2.2.2.1)
theorem wz:aL prog sL:=aP fun t=>(ba (fun h=>qO t.1.1 t.1.2.1 t.1.2.2.1 t.1.2.2.2.1.1 t.1.2.2.2.1.2 t.1.2.2.2.2.1 t.1.2.2.2.2.2.1 (zW h)) bF)
noncomputable def sM:List aH:=sL::vk
theorem wA:aZ prog (bf sM):=aq wz eG
end
end Go.Plb.Seat
namespace Go.Plb.Seat
open Go Go.Plb
set_option linter.unusedSimpArgs false
set_option linter.unusedVariables false
set_option maxRecDepth 100000
def pq(k:Int) :Bool×ByteArray×Nat×Bool×Bool :=
  if k=1 then (true,ByteArray.mk #[101,105,103,101,110],3,false,true)
  else if k=2 then (true,ByteArray.mk #[118,97,108,117,101,115],0,false,true)
  else if k=3 then (true,ByteArray.mk #[115,118,100],2,false,false)
  else if k=4 then (true,ByteArray.mk #[114,97,110,107],2,true,false)
  else if k=5 then (true,ByteArray.mk #[105,110,118,101,114,115,101],2,true,false)
  else if k=6 then (true,ByteArray.mk #[99,111,110,100],2,false,false)
  else (false,ByteArray.empty,0,false,false)
def dO(k y t:Int) :Bool:=bif (pq k).1 then bif decide (y≥kq 1 ((pq k).2.2.1:Nat)) then bif decide (y≤((pq k).2.2.1:Nat)) then bif (pq k).2.2.2.1 then true else t==0 else false else false else false
def jv(k m n:Int)(len:Nat)(y t:Int) :Bool :=
  bif decide (m≥0) then bif decide (m≤512) then bif decide (n≥0) then bif decide (n≤512) then bif (len:Int)==m*n then bif dO k y t then bif m==n then true else !(pq k).2.2.2.2 else false else false else false else false else false else false
def C9:ByteArray:=ByteArray.mk #[32]
def jG(k y t:Int) :ByteArray :=
  let s:=bif decide (((pq k).2.2.1:Int)>0) then (pq k).2.1++(C9++bS y) else (pq k).2.1
  bif (pq k).2.2.2.1 then s++(C9++bc t) else s
def fh(m n:Int) :ByteArray:=((ByteArray.mk #[109,97,116,114,105,120,32]++bS m)++C9)++bS n
def qc(ws:List Int) :ByteArray:=pF (ws.map bc)
theorem wB{α:Type}(f:Bool×ByteArray×Nat×Bool×Bool→α)(k:Int) :(T.alt 0 (.need (k==(1:Int))<|.leaf (f (pq 1))) (.alt 1 (.need (k==(2:Int))<|.leaf (f (pq 2))) (.alt 2 (.need (k==(3:Int))<|.leaf (f (pq 3))) (.alt 3 (.need (k==(4:Int))<|.leaf (f (pq 4))) (.alt 4 (.need (k==(5:Int))<|.leaf (f (pq 5))) (.alt 5 (.need (k==(6:Int))<|.leaf (f (pq 6)))
    (.alt 6 (.need (!(k==(1:Int)))<|.need (!(k==(2:Int)))<|.need (!(k==(3:Int)))<|.need (!(k==(4:Int)))<|.need (!(k==(5:Int)))<|.need (!(k==(6:Int)))<|.leaf (f (false,ByteArray.empty,0,false,false))) .fail))))))).run=some (f (pq k)):=by
  by_cases h1:k=1
  · subst h1;rfl
  by_cases h2:k=2
  · subst h2;rfl
  by_cases h3:k=3
  · subst h3;rfl
  by_cases h4:k=4
  · subst h4;rfl
  by_cases h5:k=5
  · subst h5;rfl
  by_cases h6:k=6
  · subst h6;rfl
  have e:pq k=(false,ByteArray.empty,0,false,false):=by simp [pq,h1,h2,h3,h4,h5,h6]
  rw [e]
  have q:∀ j:Int,¬ k=j→(k==j)=false:=fun j h=>beq_eq_false_iff_ne.2 h
  simp [T.run,q _ h1,q _ h2,q _ h3,q _ h4,q _ h5,q _ h6]
theorem lJ(k y t:Int) :dd k y t=some (.r0 (dO k y t)):=by
  refine cq (au (a:=pq k) (wB (fun x=>(Sum.inl x:(Bool×ByteArray×Nat×Bool×Bool)⊕bC)) k) ?_)
  generalize h:pq k=p
  obtain ⟨b,w,n,tt,sq⟩:=p
  refine au (a:=dO k y t) ?_ rfl
  unfold dO
  rw [h]
  simp only [pL,T.run]
  generalize decide (y≥kq (1:Int) (n:Int))=z1
  generalize decide (y≤(n:Int))=z2
  cases b<;>cases z1<;>cases z2<;>cases tt<;>rfl
theorem kV(k m n:Int)(ws:List Int)(y t:Int) :cQ k m n ws y t=some (.r0 (jv k m n ws.length y t)):=by
  refine cq (au (a:=jv k m n ws.length y t) ?_ rfl)
  unfold jv
  cases h1:decide (m≥0) with
  | false=>exact dx h1 rfl
  | true =>
    refine jY h1 ?_
    cases h2:decide (m≤512) with
    | false=>exact bt rfl
    | true =>
      refine cz ?_
      cases h3:decide (n≥0) with
      | false=>exact bt rfl
      | true =>
        refine cz ?_
        cases h4:decide (n≤512) with
        | false=>exact bt rfl
        | true =>
          refine cz (aQ ?_ ?_)
          · have g1:=of_decide_eq_true h1
            have g2:=of_decide_eq_true h2
            have g3:=of_decide_eq_true h3
            have g4:=of_decide_eq_true h4
            have:=Int.mul_le_mul g2 g4 g3 (by omega)
            have:=Int.mul_nonneg g1 g3
            rw [cB];omega
          cases h5:((ws.length:Int)==m*n) with
          | false=>exact bt rfl
          | true =>
            refine cz (aQ (by simp [lG]) (aQ (by rw [lJ];rfl) ?_))
            cases h6:dO k y t with
            | false=>exact dx (by rw [lJ];exact h6) rfl
            | true =>
              refine jY (by rw [lJ];exact h6) ?_
              cases h7:(m==n) with
              | true=>exact cz rfl
              | false=>exact bt (wB (fun x=>(Sum.inl (!x.2.2.2.2):Bool⊕cn)) k)
theorem ox(w:Int) :(lq w).length=16:=by simp [lq]
theorem FD(l:List Int) :(su l).size=l.length:=by
  have key:∀ (l:List Int) (r:ByteArray),(l.foldl (fun r n=>r.push (UInt8.ofNat n.toNat)) r).size=r.size+l.length:=by
    intro l
    induction l with
    | nil=>intro r;rfl
    | cons x l ih=>intro r;rw [List.foldl_cons,ih,ByteArray.size_push,List.length_cons];omega
  have:=key l ByteArray.empty
  simpa [su] using this
theorem jw(w:Int) :(bc w).size=16:=by rw [bc,FD,ox]
theorem wC:∀ l:List ByteArray,(kv l).length≤(l.map fun s=>s.size+1).sum
  | []=>by simp [kv]
  | [x]=>by
    simp only [kv,List.map_cons,List.map_nil,List.sum_cons,List.sum_nil,Array.length_toList]
    show x.size≤_
    omega
  | x::y::r=>by
    have:=wC (y::r)
    simp only [kv,List.map_cons,List.sum_cons,List.length_append,List.length_cons] at this ⊢
    simp only [ByteArray.size,Array.length_toList] at this ⊢
    omega
theorem zX(l:List ByteArray) :(pF l).size=(kv l).length:=by simp [pF,ByteArray.size]
theorem zY:∀ f n,(A2 f n).length≤f
  | 0,_=>by simp [A2]
  | f+1,n=>by
    have:=zY f (n/10)
    rw [A2]
    split<;>simp<;>omega
theorem ed(n:Int) :(bS n).size≤21:=by
  have:(bS n).size=(Ep n).length:=by simp [bS,ByteArray.size]
  rw [this,Ep]
  have h1:=zY 20 n.natAbs
  have h2:=zY 20 n.toNat
  split<;>simp<;>omega
theorem zZ(m n:Int)(hm:kp .i64 m=true)(hn:kp .i64 n=true) :dy m n=some (.r0 (fh m n)):=by
  refine cq ?_
  have h1:=ed m
  have h2:=ed n
  have e1:(ByteArray.mk #[109,97,116,114,105,120,32]).size=7:=rfl
  have e2:(ByteArray.mk #[32]).size=1:=rfl
  refine aQ hm (aQ ?_ (aQ ?_ (aQ hn (aQ ?_ rfl))))
  all_goals simp only [ByteArray.size_append,e1,e2,decide_eq_true_eq];omega
theorem Es(k:Int) :(pq k).2.1.size≤7:=by
  unfold pq
  repeat' split
  all_goals decide
theorem qP(k y t:Int)(hy:kp .i64 y=true) :dz k y t=some (.r0 (jG k y t)):=by
  have hw:=Es k
  refine cq (au (a:=(pq k).2) (wB (fun x=>(Sum.inl x.2:(ByteArray×Nat×Bool×Bool)⊕bD)) k) ?_)
  generalize h:pq k=p at hw
  obtain ⟨b,w,n,tt,sq⟩:=p
  have hw:w.size≤7:=hw
  have h1:=ed y
  have h2:=jw t
  have e2:(ByteArray.mk #[32]).size=1:=rfl
  have hs1:(qN y w n).run=some (.inl (bif decide ((n:Int)>0) then w++(C9++bS y) else w)):=by
    cases hz:decide ((n:Int)>0) with
    | false=>exact dx hz rfl
    | true =>
      refine jY hz (aQ hy (aQ ?_ (aQ ?_ rfl)))
      all_goals simp only [ByteArray.size_append,e2,decide_eq_true_eq];omega
  have hsz:(bif decide ((n:Int)>0) then w++(C9++bS y) else w).size≤29:=by
    have e3:C9.size=1:=rfl
    cases decide ((n:Int)>0)<;>simp only [cond_true,cond_false,ByteArray.size_append,e3]<;>omega
  unfold jG
  rw [h]
  refine au hs1 ?_
  generalize (bif decide ((n:Int)>0) then w++(C9++bS y) else w)=s5 at hsz
  refine au (a:=bif tt then s5++(C9++bc t) else s5) ?_ rfl
  cases tt with
  | false=>exact bt rfl
  | true =>
    refine cz (aQ ?_ (aQ ?_ rfl))
    all_goals simp only [ByteArray.size_append,e2,decide_eq_true_eq];omega
theorem Bk(ws:List Int)(h:ws.length≤1000000) :pn ws=some (.r0 (qc ws)):=by
  have hsz:(qc ws).size≤17*ws.length:=by
    have:=wC (ws.map bc)
    rw [qc,zX]
    have e:((ws.map bc).map fun s=>s.size+1).sum=17*ws.length:=by
      clear this h
      induction ws with
      | nil=>rfl
      | cons x l ih=>simp only [List.map_cons,List.sum_cons,List.length_cons,jw] at ih ⊢;omega
    omega
  refine cq (au rfl (au (a:=(ws.length,ws.length,ws.map bc)) (qH (fun j=>(j,j,j,(ws.take j).map bc)) ws.length rfl (fun j hj=>?_) ?_) ?_))
  · have hl:((ws.take j).map bc).length=j:=by rw [List.length_map,List.length_take];omega
    have hg:ws[j]? = some (ws.getD j 0):=by rw [List.getD_eq_getElem?_getD,List.getElem?_eq_getElem hj];rfl
    have hn:List.take j ((ws.take j).map bc)++List.take 1 [bc (ws.getD j 0)]=(ws.take (j+1)).map bc:=by
      rw [List.take_of_length_le (by omega),List.take_add_one (l:=ws),hg,List.map_append];rfl
    rw [←hn]
    refine jY (by simp;omega) (aQ (by rw [B1];omega) (aQ (by rw [yD];omega) (aQ (by rw [bR];omega) (aQ (by rw [bR];omega) (jo (aQ (by rw [bR];omega) (aQ (by rw [cB];omega) rfl)))))))
  · rw [List.take_length]
    exact dx (by simp) rfl
  · show (mJ ws.length (ws.map bc)).run=_
    have hc:cW 0 ws.length (ws.map bc)=ws.map bc:=by
      have:=ln (ws.map bc)
      rwa [List.length_map] at this
    rw [mJ,hc]
    refine aQ (by simp [lG]) (jo (aQ ?_ (aQ ?_ rfl)))
    · show Nat.ble (qc ws).size 1000000000=true
      exact Nat.ble_eq_true_of_le (by omega)
    · show Nat.ble (ws.map bc).length 1000000000=true
      rw [List.length_map]
      exact Nat.ble_eq_true_of_le (by omega)
end Go.Plb.Seat
namespace Go.Plb.Seat
open Go Go.Plb Go.Proofs Go.RowKit Go.Shelf
set_option maxRecDepth 100000
set_option linter.unusedSimpArgs false
set_option linter.unusedVariables false
attribute [local go_sem] Oper.semAt_some
set_option maxHeartbeats 2000000 in
theorem IO (d l cb nb : Nat) (p : Option Addr) (m n cap : Nat) (hn : 1 ≤ n) (hL : m * n ≤ 1000000) (hcap : m * n ≤ cap) (hp : 1 ≤ m → p.isSome = true) (W : World) (J : Option Nat → World → Prop)
    (hJb : ∀ i W', J (some i) W' → W'.heap[cb]? = W.heap[cb]? ∧ W'.heap[nb]? = W.heap[nb]?) (hJm : ∀ i W' W'', J i W' → Below W'.heap.size W' W'' → J i W'')
    (hY : ∀ j a W', j < m → p = some a → J (some j) W' → YieldAt Fence.wide d prog l #[.slice (some (a.add (j * n))) n n] W' (fun e W'' => (e = .returned (.bool true) ∧ J (some (j + 1)) W'') ∨ (e = .returned (.bool false) ∧ J none W'')))
    (hc : Boxed W cb 30 (.slice p (m * n) cap)) (hnb : Boxed W nb 3 (.int .i64 n)) (h0 : J (some 0) W) :
    CallsIn Fence.wide (d + 1) prog 66 #[.func (.yield l) #[] #[], .pointer (some ⟨cb, 0, none⟩), .pointer (some ⟨nb, 0, none⟩)] W (fun e W' => (∃ v, e = .returned v) ∧ (J (some m) W' ∨ J none W')) := by
  refine callsIn_of_wp Tryz.func66 rfl trivial ?_ rfl
  simp only [Tryz.ntmps66, List.size_toArray, List.length_cons, List.length_nil, Nat.reduceAdd, Nat.reduceSub, Array.replicate_succ, Array.replicate_zero, List.push_toArray, List.append_toArray, List.nil_append, List.cons_append]
  gi_wp2
  gi_loopw [4] (fun t W' => ∃ (j i : Nat), t = .int .i64 (i : Nat) ∧ i = j * n ∧ j ≤ m ∧ J (some j) W') (fun t _ => m * n - (intOf t).toNat)
  case atStart => exact ⟨0, 0, rfl, by simp, Nat.zero_le _, h0⟩
  case round =>
    obtain ⟨j, i, rfl, hi, hj, hJ⟩ := hrel
    have hb := hJb j wr hJ
    have hc' : Boxed wr cb 30 (.slice p (m * n) cap) := hb.1.trans hc
    have hn' : Boxed wr nb 3 (.int .i64 n) := hb.2.trans hnb
    have c1 := hc'.cell
    have c2 := hn'.cell
    generalize hLe : m * n = L at *
    have hlt : i < L ↔ j < m := by
      rw [hi, ← hLe]
      exact ⟨fun h => Nat.lt_of_mul_lt_mul_right h, fun h => Nat.mul_lt_mul_of_pos_right h (by omega)⟩
    by_cases hjm : j < m
    · have h1 : i < L := hlt.2 hjm
      have h2 : i + n ≤ L := by
        rw [hi, ← hLe]
        calc j * n + n = (j + 1) * n := by rw [Nat.add_mul, Nat.one_mul]
          _ ≤ m * n := Nat.mul_le_mul_right n hjm
      obtain ⟨a, rfl⟩ := Option.isSome_iff_exists.1 (hp (by omega))
      have hJ' : J (some j) wr.drew := hJm _ _ _ hJ (Below.refl _ _).drew
      have hY' := hY j a wr.drew hjm rfl hJ'
      rw [← hi] at hY'
      obtain ⟨fn', tmps', assign', body', hy', hR'⟩ := hY'
      replace hi := Lib.hid hi
      clear hlt
      gi_wp2
      gi_region
      rw [show min (n : Int) ((L - i : Nat) : Int) = (n : Int) by omega]
      gi_wp2
      refine hR'.mono ?_
      rintro e W3 (⟨rfl, hJ3⟩ | ⟨rfl, hJ3⟩)
      · have hb3 := hJb (j + 1) W3 hJ3
        have c3 := (show Boxed W3 nb 3 (.int .i64 n) from hb3.2.trans hnb).cell
        gi_wp2
        go_roundw
        case rel => exact ⟨j + 1, i + n, by go_num, by rw [hi.out, Nat.add_mul, Nat.one_mul], by omega, hJ3⟩
        case measure => simp [intOf]; omega
      · gi_wp2
        refine bodyPost_ret (results_none rfl _ _ _) rfl ?_
        exact ⟨⟨_, rfl⟩, .inr hJ3⟩
    · have h1 : ¬ i < L := fun h => hjm (hlt.1 h)
      have hjm' : j = m := by omega
      gi_wp2
      go_end0
      exact ⟨⟨_, rfl⟩, .inl (hjm' ▸ hJ)⟩
theorem Et(p:Option Addr)(len cap n:Nat)(hn:1≤n)(w:World) :Calls prog 54 #[.slice p len cap,.int .i64 n] w fun e w' =>
    e=.returned (.func (.func 66) #[] #[.pointer (some ⟨w.heap.size,0,none⟩),.pointer (some ⟨w.heap.size+1,0,none⟩)])∧w'=(w.alloc (.cells #[.slice p len cap] 30)).alloc (.cells #[.int .i64 n] 3):=by
  have hmf:∀ (fn:Fn) (first cap:Array Value) (w:World),(Instr.makeFunc fn first cap).run prog w=.ok (.func fn first cap) w:=fun _ _ _ _=>rfl
  go_enter Tryz.func54,Tryz.ntmps54
  go_wp2
  go_ret
  exact ⟨rfl,rfl⟩
def aN(k m n:Int)(ws:List Int)(y t:Int) :List ByteArray :=
  bif jv k m n ws.length y t then fh m n::((bif decide (n>0) then (List.range m.toNat).map (fun i=>qc ((ws.drop (i*n.toNat)).take n.toNat)) else [])++[jG k y t]) else []
abbrev Eu(k m n:Int)(vw:Value)(y t:Int) :Array Value:=#[.int .i64 k,.int .i64 m,.int .i64 n,vw,.int .i64 y,.int .u64 t]
abbrev eW(ws:List Int) :AV:=.imm .free (.ns .u64 ws) 1 1 0 ws.length
theorem B4(k m n:Int)(ws:List Int)(vw:Value)(y t:Int)(w:World)(hr:dW w)(hv:VR ae.none_ w (eW ws) vw) :
    Calls prog 17 #[.agg (Eu k m n vw y t)] w fun e w'=>e=.returned (.bool (jv k m n ws.length y t))∧Below w.heap.size w w':=by
  have h:=sJ k m n .free ws y t (kV k m n ws y t)
  refine (am.calls (v:=.bool false (jv k m n ws.length y t)) h w hr (us:=[.agg (Eu k m n vw y t)]) (.cons _ _ _ _ (.agg _ _ (.cons _ _ _ _ (.int _ _) (.cons _ _ _ _ (.int _ _) (.cons _ _ _ _ (.int _ _) (.cons _ _ _ _ hv (.cons _ _ _ _ (.int _ _) (.cons _ _ _ _ (.int _ _) .nil))))))) .nil)).mono ?_
  rintro e w' ⟨u,ρ',rfl,hb,hu⟩
  cases hu
  exact ⟨rfl,hb⟩
theorem FE(k m n:Int)(ws:List Int)(vw:Value)(y t:Int)(hy:kp .i64 y=true)(w:World)(hr:dW w)(hv:VR ae.none_ w (eW ws) vw) :
    Calls prog 36 #[.agg (Eu k m n vw y t)] w fun e w'=>e=.returned (.string (jG k y t))∧Below w.heap.size w w':=by
  have h:=qO k m n .free ws y t (qP k y t hy)
  refine (am.calls (v:=.str (jG k y t)) h w hr (us:=[.agg (Eu k m n vw y t)]) (.cons _ _ _ _ (.agg _ _ (.cons _ _ _ _ (.int _ _) (.cons _ _ _ _ (.int _ _) (.cons _ _ _ _ (.int _ _) (.cons _ _ _ _ hv (.cons _ _ _ _ (.int _ _) (.cons _ _ _ _ (.int _ _) .nil))))))) .nil)).mono ?_
  rintro e w' ⟨u,ρ',rfl,hb,hu⟩
  cases hu
  exact ⟨rfl,hb⟩
theorem FF(m n:Int)(hm:kp .i64 m=true)(hn:kp .i64 n=true)(w:World)(hr:dW w) :Calls prog 53 #[.int .i64 m,.int .i64 n] w fun e w'=>e=.returned (.string (fh m n))∧Below w.heap.size w w':=by
  have h:=qJ m n (zZ m n hm hn)
  refine (am.calls (v:=.str (fh m n)) h w hr (us:=[.int .i64 m,.int .i64 n]) (.cons _ _ _ _ (.int _ _) (.cons _ _ _ _ (.int _ _) .nil))).mono ?_
  rintro e w' ⟨u,ρ',rfl,hb,hu⟩
  cases hu
  exact ⟨rfl,hb⟩
theorem Hm(ws:List Int)(h6:ws.length≤1000000)(vw:Value)(w:World)(hr:dW w)(hv:VR ae.none_ w (eW ws) vw) :Calls prog 23 #[vw] w fun e w'=>e=.returned (.string (qc ws))∧Below w.heap.size w w':=by
  have h:=sG .free ws (Bk ws h6)
  refine (am.calls (v:=.str (qc ws)) h w hr (us:=[vw]) (.cons _ _ _ _ hv .nil)).mono ?_
  rintro e w' ⟨u,ρ',rfl,hb,hu⟩
  cases hu
  exact ⟨rfl,hb⟩
theorem jH{k m n:Int}{len:Nat}{y t:Int}(h:jv k m n len y t=true) :0≤m∧m≤512∧0≤n∧n≤512∧(len:Int)=m*n∧0≤y∧y≤3:=by
  unfold jv at h
  simp only [Bool.cond_eq_ite,Bool.if_false_right,Bool.and_eq_true,decide_eq_true_eq,beq_iff_eq,ge_iff_le] at h
  obtain ⟨h1,h2,h3,h4,h5,h6,_⟩:=h
  refine ⟨h1,h2,h3,h4,h5,?_⟩
  unfold dO at h6
  simp only [Bool.cond_eq_ite,Bool.if_false_right,Bool.and_eq_true,decide_eq_true_eq,beq_iff_eq,ge_iff_le] at h6
  obtain ⟨_,g1,g2,_⟩:=h6
  have hk:(pq k).2.2.1≤3:=by
    unfold pq
    repeat' split
    all_goals decide
  have g3:kq 1 ((pq k).2.2.1:Nat)≥0:=by unfold kq;split<;>omega
  omega
theorem rF(w:World) :(isAgg 33).run prog w=.ok true w:=mr (by kernel_rfl)
theorem oy(w:World) :(sizeOf 33).run prog w=.ok 6 w:=by
  have hi:(prog.info? 33).map (·.size)=some 6:=by kernel_rfl
  cases hq:prog.info? 33 with
  | none=>rw [hq] at hi;cases hi
  | some i =>
    rw [hq] at hi
    simp only [Option.map_some,Option.some.injEq] at hi
    simp [sizeOf,Sem.run_bind,typeInfo,hq,hi]
theorem bi{W:World}{k:Nat}{o:Obj}(h:W.heap[k]? = some o) :k<W.heap.size:=(Array.getElem?_eq_some_iff.1 h).1
structure FG (B ab:Nat) (k m n:Int) (ws:List Int) (vw:Value) (y t:Int) (J:Option Nat→World→Prop):Prop where
  ask:∀ i W,J (some i) W→W.heap[ab]? = some (.cells (Eu k m n vw y t) 33 (0,0))∧dW W∧VR ae.none_ W (eW ws) vw
  mono:∀ i W W',J i W→Below W.heap.size W W'→J i W'
  put:∀ i W r o o',J i W→B≤r→W.heap[r]? = some o'→o'.isCells=false→J i (W.putObj r o)
def Ev(o:Obj) :Prop:=∀ c fz,o ≠ .cells c 5 fz
def mM(B:Nat)(W W':World) :Prop:=W.heap.size≤W'.heap.size∧∀ r o,B≤r→W.heap[r]? = some o→Ev o→W'.heap[r]? = some o
theorem lr{c:Array Value}{t:TypeId}{fz:Nat×Nat}(h:t≠5) :Ev (.cells c t fz):=fun _ _ e=>by injection e with _ e;exact h e
theorem rG(l:Option (List Deferred)) :Ev (.deferred l):=fun _ _ e=>by cases e
theorem Aa(l:Loop) :Ev (.loop l):=fun _ _ e=>by cases e
structure LF (ab bx:Nat) (l:Nat) (k m n:Int) (ws:List Int) (vw:Value) (y t:Int) (W:World):Prop where
  c0:W.cell? ⟨ab,0,none⟩=some (.int .i64 k)
  c1:W.cell? ⟨ab,1,none⟩=some (.int .i64 m)
  c2:W.cell? ⟨ab,2,none⟩=some (.int .i64 n)
  c3:W.cell? ⟨ab,3,none⟩=some vw
  c4:W.cell? ⟨ab,4,none⟩=some (.int .i64 y)
  c5:W.cell? ⟨ab,5,none⟩=some (.int .u64 t)
  cb:W.cell? ⟨bx,0,none⟩=some (.func (.yield l) #[] #[])
  rom:dW W
  hv:VR ae.none_ W (eW ws) vw
theorem KM{ab bx l:Nat}{k m n:Int}{ws:List Int}{vw:Value}{y t:Int}{W:World}(h:W.heap[ab]? = some (.cells (Eu k m n vw y t) 33 (0,0))∧dW W∧VR ae.none_ W (eW ws) vw)(hbx:Boxed W bx 41 (.func (.yield l) #[] #[])) :
    LF ab bx l k m n ws vw y t W:=by
  obtain ⟨h1,h2,h3⟩:=h
  exact ⟨by simp [World.cell?,h1],by simp [World.cell?,h1],by simp [World.cell?,h1],by simp [World.cell?,h1],by simp [World.cell?,h1],by simp [World.cell?,h1],hbx.cell,h2,h3⟩
theorem FG.lf{B ab bx l:Nat}{k m n:Int}{ws:List Int}{vw:Value}{y t:Int}{J:Option Nat→World→Prop}(hI:FG B ab k m n ws vw y t J){i:Nat}{W W':World}(hJ:J (some i) W)(hbx:Boxed W bx 41 (.func (.yield l) #[] #[]))(hb:Below W.heap.size W W') :
    LF ab bx l k m n ws vw y t W':=KM (hI.ask i W' (hI.mono _ _ _ hJ hb)) ((hb.block bx hbx.lt).trans hbx)
theorem wD{ρ:ae}{W:World}{ws:List Int}{v:Value}(hv:VR ρ W (eW ws) v) :∃ p cap,v=.slice p ws.length cap∧ws.length≤cap∧(1≤ws.length→p.isSome=true):=by
  generalize hA:eW ws=A at hv
  cases hv with
  | imm bw d k es i len cap bl o u ha hb hc hv hl hr hk hg=>cases hA;exact ⟨_,_,rfl,hl,fun _=>rfl⟩
  | immEnd bw d k es i cap a hr hk hg =>
    simp only [eW,AV.imm.injEq] at hA
    obtain ⟨_,_,_,_,_,h0⟩:=hA
    rw [h0]
    exact ⟨_,_,rfl,Nat.zero_le _,fun h=>by omega⟩
  | _=>cases hA
theorem Hn{ρ:ae}{W:World}{ws:List Int}{a:Addr}{cap:Nat}(hv:VR ρ W (eW ws) (.slice (some a) ws.length cap))(j c:Nat)(h:j+c≤ws.length) :VR ρ W (eW ((ws.drop j).take c)) (.slice (some (a.add j)) c c):=by
  have hlen:((ws.drop j).take c).length=c:=by rw [List.length_take,List.length_drop];omega
  by_cases hc0:c=0
  · subst hc0
    show VR ρ W (.imm .free (.ns .u64 _) 1 1 0 _) _
    rw [List.take_zero]
    exact .immEnd _ _ _ _ _ _ _ trivial (fun _=>rfl) rfl
  generalize hA:eW ws=A at hv
  generalize hV:Value.slice (some a) ws.length cap=V at hv
  cases hv with
  | imm bw d k es i len cap bl o u ha hb hc hv hl hr hk hg =>
    cases hA
    cases hV
    have:=VR.imm (ρ:=ρ) (w:=W) .free (.ns .u64 ((ws.drop j).take c)) 1 1 0 c c bl (o+0*1+j) (fun x=>u (j+x)) ha hb (fun x v hx=>?_) (fun x v hx=>?_) (Nat.le_refl _) trivial (fun _=>rfl) rfl
    · show VR ρ W (.imm .free (.ns .u64 ((ws.drop j).take c)) 1 1 0 ((ws.drop j).take c).length) _
      rw [hlen]
      have e1:(Addr.mk bl (o+0*1) none).add j=Addr.mk bl (o+0*1+j+0*1) none:=by simp [Addr.add]
      rw [e1]
      exact this
    all_goals
      simp only [aj.cell?,List.getElem?_take,List.getElem?_drop] at hx
      split at hx
      case isFalse=>cases hx
    · have:=hc (j+x) v (by simpa [aj.cell?] using hx)
      rw [show o+0*1+j+x=o+(j+x) by omega]
      exact this
    · exact hv (j+x) v (by simpa [aj.cell?] using hx)
  | immEnd bw d k es i cap a hr hk hg =>
    simp only [eW,AV.imm.injEq] at hA
    obtain ⟨_,_,_,_,_,h0⟩:=hA
    omega
  | _=>cases hA
noncomputable def Ab:Code:=match Tryz.f52.body with
  | some (.seq _ (.seq _ t))=>t
  | _=>.skip
noncomputable def IP:Code:=match Ab with
  | .seq _ t=>t
  | _=>.skip
set_option maxHeartbeats 4000000 in
theorem Ac (d l ab bx B : Nat) (k m n : Int) (ws : List Int) (vw : Value) (y t : Int) (J : Option Nat → World → Prop) (hI : FG B ab k m n ws vw y t J)
    (hm : jv k m n ws.length y t = true) (hbx : B ≤ bx)
    (hY : ∀ d' j x W', (aN k m n ws y t)[j]? = some x → J (some j) W' → YieldAt Fence.wide (d' + 4) prog l #[.string x] W' (fun e W'' => ∃ b : Bool, e = .returned (.bool b) ∧ J (bif b then some (j + 1) else none) W'' ∧ mM B W' W''))
    (Q : Exit → Act → World → Prop) (D : List Deferred) (W3 : World) (hQ : ∀ a W', a.defers = D → mM B W3 W' → J (some (aN k m n ws y t).length) W' ∨ J none W' → Q .normal a W' ∧ Q .ret a W')
    (j : Nat) (hj : (aN k m n ws y t).length = j + 1) (hl : (aN k m n ws y t)[j]? = some (jG k y t)) (h1 : J (some j) W3) (hx : Boxed W3 bx 41 (.func (.yield l) #[] #[])) (u3 u4 u5 u6 u7 u8 u9 u10 u11 u12 u13 u14 u15 u16 u17 u18 u19 u20 u21 u22 u23 u24 u25 u26 u27 u28 u29 u30 u31 u32 u33 Kv : Value) : Code.wpIn Fence.wide (d + 10) prog IP Q { tmps := #[.func (.yield l) #[] #[], .pointer (some ⟨ab, 0, none⟩), .pointer (some ⟨bx, 0, none⟩), u3, u4, u5, u6, u7, u8, u9, u10, u11, u12, u13, u14, u15, u16, u17, u18, u19, u20, u21, u22, u23, u24, u25, u26, u27, u28, u29, u30, u31, u32, u33, Kv], defers := D } W3 := by
  obtain ⟨hm0, hm5, hn0, hn5, hlen, hy0, hy3⟩ := jH hm
  have ky : kp .i64 y = true := cB.2 (by omega)
  delta IP Ab Tryz.f52
  dsimp only
  obtain ⟨c0, c1, c2, c3, c4, c5, cb, rom, hv⟩ := hI.lf h1 hx (Below.refl _ W3).drew
  have ag := rF
  have sz := oy
  have hline := FE k m n ws vw y t ky _ rom hv
  have hY1 := fun W' h => hY (d + 5) j _ W' hl h
  first
    | gi_region_with first
        | (refine ⟨trivial, ?_⟩; gi_at_call 36; refine (callsIn_wide.2 hline).mono ?_; rintro e W1 ⟨rfl, hb1⟩; have hb13 := (Below.refl _ W3).drew.trans hb1; obtain ⟨c10, c11, c12, c13, c14, c15, c1b, rom1, hv1⟩ := hI.lf h1 hx hb13; obtain ⟨fn', tmps', assign', body', hy', hR'⟩ := hY1 W1 (hI.mono _ _ _ h1 hb13))
        | (refine hR'.mono ?_; rintro e W4 ⟨b, rfl, hJ3, hK3⟩)
    | fail
  all_goals
    have hk3 : mM B W3 W4 := ⟨Nat.le_trans hb13.size hK3.1, fun r o h2 h3 h4 => hK3.2 r o h2 ((hb13.block r (bi h3)).trans h3) h4⟩
    refine (hQ _ _ rfl hk3 ?_).1
    rw [hj]
    cases b
    · exact .inr hJ3
    · exact .inl hJ3
theorem JV{α:Type}(h:Array α)(a b c d:α)(k:Nat) :((((h.push a).push b).push c).push d)[h.size+k]? = #[a,b,c,d][k]?:=by
  have e1:((((h.push a).push b).push c).push d)=h ++ #[a,b,c,d]:=by
    apply Array.toList_inj.1
    simp
  rw [e1,Array.getElem?_append_right (Nat.le_add_right _ _),Nat.add_sub_cancel_left]
structure KN (S bx l:Nat) (p:Option Addr) (L cap N:Nat) (rec:LoopState→Option Code→Loop) (J:Option Nat→World→Prop) (j:Nat) (W:World):Prop where
  j:J (some (1+j)) W
  x:Boxed W bx 41 (.func (.yield l) #[] #[])
  c:Boxed W S 30 (.slice p L cap)
  n:Boxed W (S+1) 3 (.int .i64 N)
  d:W.heap[S+2]? = some (.deferred (some []))
  o:W.heap[S+2+1]? = some (.loop (rec .ready none))
structure Ld (S:Nat) (rec:LoopState→Option Code→Loop) (J:Option Nat→World→Prop) (W:World):Prop where
  j:J none W
  d:W.heap[S+2]? = some (.deferred (some []))
  o:W.heap[S+2+1]? = some (.loop (rec .done (some .ret)))
def CJ(S bx l:Nat)(p:Option Addr)(L cap N:Nat)(rec:LoopState→Option Code→Loop)(J:Option Nat→World→Prop) :Option Nat→World→Prop
  | some j,W=>KN S bx l p L cap N rec J j W
  | none,W=>Ld S rec J W
theorem CJ.mono{S bx l:Nat}{p:Option Addr}{L cap N:Nat}{rec:LoopState→Option Code→Loop}{J:Option Nat→World→Prop}(hJ:∀ i W W',J i W→Below W.heap.size W W'→J i W') :
    ∀ i W W',CJ S bx l p L cap N rec J i W→Below W.heap.size W W'→CJ S bx l p L cap N rec J i W'
  | some j,W,W',h,hb=>⟨hJ _ _ _ h.j hb,(hb.block _ h.x.lt).trans h.x,(hb.block _ h.c.lt).trans h.c,(hb.block _ h.n.lt).trans h.n,(hb.block _ (bi h.d)).trans h.d,(hb.block _ (bi h.o)).trans h.o⟩
  | none,W,W',h,hb=>⟨hJ _ _ _ h.j hb,(hb.block _ (bi h.d)).trans h.d,(hb.block _ (bi h.o)).trans h.o⟩
set_option maxHeartbeats 4000000 in
theorem FH (d l ab bx B : Nat) (k m n : Int) (ws : List Int) (vw : Value) (y t : Int) (J : Option Nat → World → Prop) (hI : FG B ab k m n ws vw y t J)
    (hm : jv k m n ws.length y t = true) (hbx : B ≤ bx)
    (hY : ∀ d' j x W', (aN k m n ws y t)[j]? = some x → J (some j) W' → YieldAt Fence.wide (d' + 4) prog l #[.string x] W' (fun e W'' => ∃ b : Bool, e = .returned (.bool b) ∧ J (bif b then some (j + 1) else none) W'' ∧ mM B W' W''))
    (Q : Exit → Act → World → Prop) (W3 : World)
    (hQ : ∀ a W', (a.defers = [] ∨ ∃ D, B ≤ D ∧ a.defers = [{ target := .collected D, args := #[] }] ∧ W'.heap[D]? = some (.deferred (some []))) → J (some (aN k m n ws y t).length) W' ∨ J none W' → Q .normal a W' ∧ Q .ret a W')
    (h1 : J (some 1) W3) (hx : Boxed W3 bx 41 (.func (.yield l) #[] #[])) (u3 u4 u5 u6 u7 u8 u9 u10 u11 u12 u13 u14 u15 u16 u17 u18 u19 u20 u21 u22 u23 u24 u25 u26 u27 u28 u29 u30 u31 u32 u33 Kv : Value) : Code.wpIn Fence.wide (d + 10) prog Ab Q { tmps := #[.func (.yield l) #[] #[], .pointer (some ⟨ab, 0, none⟩), .pointer (some ⟨bx, 0, none⟩), u3, u4, u5, u6, u7, u8, u9, u10, u11, u12, u13, u14, u15, u16, u17, u18, u19, u20, u21, u22, u23, u24, u25, u26, u27, u28, u29, u30, u31, u32, u33, Kv], defers := [] } W3 := by
  obtain ⟨hm0, hm5, hn0, hn5, hlen, hy0, hy3⟩ := jH hm
  have hch : ∃ x, Ab = .seq x IP ∧ x = (match Ab with | .seq x _ => x | _ => .skip) := ⟨_, rfl, rfl⟩
  obtain ⟨x, hx', he⟩ := hch
  rw [hx']
  delta Ab Tryz.f52 at he
  dsimp only at he
  rw [he]
  obtain ⟨c0, c1, c2, c3, c4, c5, cb, rom, hv⟩ := hI.lf h1 hx (Below.refl _ W3)
  obtain ⟨N, rfl⟩ := Int.eq_ofNat_of_zero_le hn0
  obtain ⟨M, rfl⟩ := Int.eq_ofNat_of_zero_le hm0
  clear he hx'
  by_cases hN : N = 0
  · subst hN
    have hlin : aN k M ((0 : Nat) : Int) ws y t = [fh M ((0 : Nat) : Int), jG k y t] := by rw [aN, hm]; rfl
    gi_wp2
    exact Ac d l ab bx B k M ((0 : Nat) : Int) ws vw y t J hI hm hbx hY Q [] W3 (fun a W' h2 _ h4 => hQ a W' (.inl h2) h4) 1 (by rw [hlin]; rfl) (by rw [hlin]; rfl) h1 hx _ _ _ _ _ _ _ _ _ _ _ _ _ _ _ _ _ _ _ _ _ _ _ _ _ _ _ _ _ _ _ _
  · have hN1 : (0 : Int) < (N : Int) := by omega
    obtain ⟨p, cap, rfl, hcap, hp⟩ := wD hv
    have hle : ws.length = M * N := by
      have : ((M * N : Nat) : Int) = (ws.length : Int) := by rw [hlen, Int.natCast_mul]
      omega
    rw [hle] at hcap hp hv
    gi_wp2_with (refine ⟨trivial, ?_⟩; gi_at_call 54; refine (callsIn_wide.2 (Et p (M * N) cap N (by omega) W3)).mono ?_; rintro e w' ⟨rfl, rfl⟩)
    obtain ⟨W4, hW4⟩ : ∃ W4, (W3.alloc (.cells #[.slice p (M * N) cap] 30)).alloc (.cells #[.int .i64 N] 3) = W4 := ⟨_, rfl⟩
    rw [hW4]
    have hs4 : W4.heap.size = W3.heap.size + 2 := by rw [← hW4]; simp
    refine pk (gf := 66) (m := d + 9) rfl (enters_of Tryz.func66 (by kernel_rfl) rfl) fun fn rec hrec hy => ?_
    rw [hs4] at hy ⊢
    have hlin : aN k M N ws y t = fh M N :: (((List.range M).map (fun i => qc ((ws.drop (i * N)).take N))) ++ [jG k y t]) := by
      have hd0 : decide ((N : Int) > 0) = true := decide_eq_true hN1
      rw [aN, hm, hd0]
      rfl
    have hBS : B ≤ W3.heap.size := Nat.le_trans hbx (Nat.le_of_lt hx.lt)
    have hlen1 : (aN k M N ws y t).length = M + 1 + 1 := by rw [hlin]; simp
    have round : ∀ j a W', j < M → p = some a → KN W3.heap.size bx l p (M * N) cap N rec J j W' → YieldAt Fence.wide (d + 8) prog (W3.heap.size + 2 + 1) #[.slice (some (a.add (j * N))) N N] W' (fun e W'' =>
        (e = .returned (.bool true) ∧ KN W3.heap.size bx l p (M * N) cap N rec J (j + 1) W'') ∨ (e = .returned (.bool false) ∧ Ld W3.heap.size rec J W'')) := by
      rintro j a W' hj rfl hS
      refine hy (d + 8) _ W' _ hS.o rfl ?_
      clear hy
      have hL1 : (aN k M N ws y t)[1 + j]? = some (qc ((ws.drop (j * N)).take N)) := by
        rw [hlin, Nat.add_comm, List.getElem?_cons_succ, List.getElem?_append_left (by simpa using hj), List.getElem?_map, List.getElem?_range hj]
        rfl
      have hjN : j * N + N ≤ ws.length := by
        rw [hle]
        calc j * N + N = (j + 1) * N := by rw [Nat.add_mul, Nat.one_mul]
          _ ≤ M * N := Nat.mul_le_mul_right N hj
      gi_wp2
      refine ⟨hS.o, ?_⟩
      obtain ⟨V1, hV1⟩ : ∃ V1, W'.putObj (W3.heap.size + 2 + 1) (.loop (rec .busy none)) = V1 := ⟨_, rfl⟩
      rw [hV1]
      have hlt := bi hS.o
      have hs1 : V1.heap.size = W'.heap.size := by rw [← hV1]; simp
      have hk1 : ∀ r, r ≠ W3.heap.size + 2 + 1 → V1.heap[r]? = W'.heap[r]? := fun r hr => by rw [← hV1]; exact World.putObj_heap_other hr
      have ho1 : V1.heap[W3.heap.size + 2 + 1]? = some (.loop (rec .busy none)) := by rw [← hV1]; exact World.putObj_heap_same hlt
      have hp1 := hI.put _ W' (W3.heap.size + 2 + 1) (.loop (rec .busy none)) _ hS.j (by omega) hS.o rfl
      rw [hV1] at hp1
      have hx1 : Boxed V1 bx 41 (.func (.yield l) #[] #[]) := (hk1 bx (by have := hx.lt; omega)).trans hS.x
      have hbd : Below V1.heap.size V1 V1.drew := (Below.refl _ V1).drew
      obtain ⟨c10, c11, c12, c13, c14, c15, c1b, rom1, hv1⟩ := hI.lf hp1 hx1 hbd
      rw [hle] at hv1
      have hw1 := Hn (ws := ws) (a := a) (cap := cap) (by rw [hle]; exact hv1) (j * N) N hjN
      have hrow := Hm _ (by rw [List.length_take, List.length_drop]; have := Nat.mul_le_mul (show M ≤ 512 by omega) (show N ≤ 512 by omega); omega) _ _ rom1 hw1
      have hY1 := fun W' h => hY (d + 3) (1 + j) _ W' hL1 h
      gi_wp2
      first
        | gi_region_with first
            | (refine ⟨trivial, ?_⟩; gi_at_call 23; refine (callsIn_wide.2 hrow).mono ?_; rintro e W5 ⟨rfl, hb5⟩; have hb15 := hbd.trans hb5; have hm5 := hI.mono _ _ _ hp1 hb15; obtain ⟨c50, c51, c52, c53, c54, c55, c5b, rom5, hv5⟩ := hI.lf hp1 hx1 hb15; obtain ⟨fn', tmps', assign', body', hy', hR'⟩ := hY1 W5 hm5)
            | (refine hR'.mono ?_; rintro e W6 ⟨b, rfl, hJ6, hK6⟩)
        | fail
      all_goals
        have hk6 : ∀ r o, B ≤ r → r ≠ W3.heap.size + 2 + 1 → W'.heap[r]? = some o → Ev o → W6.heap[r]? = some o := fun r o h1 h2 h3 h4 =>
          hK6.2 r o h1 ((hb15.block r (by rw [hs1]; exact bi h3)).trans ((hk1 r h2).trans h3)) h4
        have hs6 : Hid (W3.heap.size + 2 + 1 < W6.heap.size) := Lib.hid (Nat.lt_of_lt_of_le (by omega) (Nat.le_trans hb15.size hK6.1))
        have ho6 : W6.heap[W3.heap.size + 2 + 1]? = some (.loop (rec .busy none)) := hK6.2 _ _ (by omega) ((hb15.block _ (by omega)).trans ho1) (Aa _)
        have hxl := hx.lt
        have g1 := hk6 _ _ (by omega) (by omega) hS.d (rG _)
        have g2 := hk6 _ _ hbx (by omega) hS.x (lr (by decide))
        have g3 := hk6 _ _ (by omega) (by omega) hS.c (lr (by decide))
        have g4 := hk6 _ _ (by omega) (by omega) hS.n (lr (by decide))
        replace g1 := Lib.hid g1
        replace g2 := Lib.hid g2
        replace g3 := Lib.hid g3
        replace g4 := Lib.hid g4
        cases b
        · have hp6 := hI.put _ W6 (W3.heap.size + 2 + 1) (.loop (rec .done (some .ret))) _ hJ6 (by omega) ho6 rfl
          have hfin : Ld W3.heap.size rec J (W6.putObj (W3.heap.size + 2 + 1) (.loop (rec .done (some .ret)))) := ⟨hp6, (World.putObj_heap_other (by omega)).trans g1.out, World.putObj_heap_same hs6.out⟩
          gi_wp2
          all_goals first
            | exact ⟨ho6, hfin⟩
            | exact hfin
        · have hp6 := hI.put _ W6 (W3.heap.size + 2 + 1) (.loop (rec .ready none)) _ hJ6 (by omega) ho6 rfl
          have hfin : KN W3.heap.size bx l (some a) (M * N) cap N rec J (j + 1) (W6.putObj (W3.heap.size + 2 + 1) (.loop (rec .ready none))) := ⟨hp6, (World.putObj_heap_other (by omega)).trans g2.out,
            (World.putObj_heap_other (by omega)).trans g3.out, (World.putObj_heap_other (by omega)).trans g4.out, (World.putObj_heap_other (by omega)).trans g1.out, World.putObj_heap_same hs6.out⟩
          gi_wp2
          all_goals first
            | exact ⟨ho6, hfin⟩
            | exact hfin
    clear hy
    have hlow : Below W3.heap.size W3 ((W4.alloc (.deferred (some []))).alloc (.loop (rec .ready none))) := by
      rw [← hW4]
      refine Below.alloc (Below.alloc (Below.alloc (Below.alloc (Below.refl _ W3) ?_ _) ?_ _) ?_ _) ?_ _
      all_goals simp
      all_goals try omega
    obtain ⟨W0, hW0⟩ : ∃ W0, (W4.alloc (.deferred (some []))).alloc (.loop (rec .ready none)) = W0 := ⟨_, rfl⟩
    rw [hW0] at hlow
    have hat : ∀ r, r < 4 → W0.heap[W3.heap.size + r]? = #[Obj.cells #[.slice p (M * N) cap] 30, .cells #[.int .i64 N] 3, .deferred (some []), .loop (rec .ready none)][r]? := fun r hr => by
      have hh : W0.heap = (((W3.heap.push (.cells #[.slice p (M * N) cap] 30)).push (.cells #[.int .i64 N] 3)).push (.deferred (some []))).push (.loop (rec .ready none)) := by rw [← hW0, ← hW4]; rfl
      rw [hh]
      exact JV W3.heap _ _ _ _ r
    have hJ0 := hI.mono _ _ _ h1 hlow
    have hS0 : KN W3.heap.size bx l p (M * N) cap N rec J 0 W0 := ⟨hJ0, (hlow.block bx hx.lt).trans hx, hat 0 (by omega), hat 1 (by omega), hat 2 (by omega), hat 3 (by omega)⟩
    rw [hW0]
    refine (IO (d + 8) (W3.heap.size + 2 + 1) W3.heap.size (W3.heap.size + 1) p M N cap (by omega) (by have := Nat.mul_le_mul (show M ≤ 512 by omega) (show N ≤ 512 by omega); omega) hcap (fun hM => hp (Nat.mul_pos hM (by omega))) W0
      (CJ W3.heap.size bx l p (M * N) cap N rec J) (fun i W' h => ⟨h.c.trans hS0.c.symm, h.n.trans hS0.n.symm⟩) (CJ.mono hI.mono) (fun j a W' h1 h2 h3 => round j a W' h1 h2 h3) hS0.c hS0.n hS0).mono ?_
    rintro e W' ⟨hv', hS | hS⟩
    · refine ⟨hv', .inl ⟨hS.o, ?_⟩⟩
      have hpe := hI.put _ W' (W3.heap.size + 2 + 1) (.loop (rec .exhausted none)) _ hS.j (by omega) hS.o rfl
      have hxl := hx.lt
      have hde : (W'.putObj (W3.heap.size + 2 + 1) (.loop (rec .exhausted none))).heap[W3.heap.size + 2]? = some (.deferred (some [])) := (World.putObj_heap_other (by omega)).trans hS.d
      have hxe : Boxed (W'.putObj (W3.heap.size + 2 + 1) (.loop (rec .exhausted none))) bx 41 (.func (.yield l) #[] #[]) := (World.putObj_heap_other (by omega)).trans hS.x
      obtain ⟨W7, hW7⟩ : ∃ W7, W'.putObj (W3.heap.size + 2 + 1) (.loop (rec .exhausted none)) = W7 := ⟨_, rfl⟩
      rw [hW7] at hpe hde hxe ⊢
      gi_wp2
      exact Ac d l ab bx B k M N ws _ y t J hI hm hbx hY Q [{ target := .collected (W3.heap.size + 2), args := #[] }] W7
        (fun a W8 h2 h3 h4 => hQ a W8 (.inr ⟨W3.heap.size + 2, by omega, h2, h3.2 _ _ (by omega) hde (rG _)⟩) h4) (M + 1) hlen1
        (by rw [hlin, List.getElem?_cons_succ, List.getElem?_append_right (by simp)]; simp) (by rw [Nat.add_comm]; exact hpe) hxe _ _ _ _ _ _ _ _ _ _ _ _ _ _ _ _ _ _ _ _ _ _ _ _ _ _ _ _ _ _ _ _
    · refine ⟨hv', .inr ⟨_, hS.o, ?_⟩⟩
      have hpe := hI.put _ W' (W3.heap.size + 2 + 1) (.loop (rec .exhausted (some .ret))) _ hS.j (by omega) hS.o rfl
      have hde : (W'.putObj (W3.heap.size + 2 + 1) (.loop (rec .exhausted (some .ret)))).heap[W3.heap.size + 2]? = some (.deferred (some [])) := (World.putObj_heap_other (by omega)).trans hS.d
      obtain ⟨W7, hW7⟩ : ∃ W7, W'.putObj (W3.heap.size + 2 + 1) (.loop (rec .exhausted (some .ret))) = W7 := ⟨_, rfl⟩
      rw [hW7] at hpe hde ⊢
      gi_wp2
      exact (hQ _ W7 (.inr ⟨W3.heap.size + 2, by omega, rfl, hde⟩) (.inr hpe)).2
set_option maxHeartbeats 4000000 in
theorem Ew (d l ab B : Nat) (k m n : Int) (ws : List Int) (vw : Value) (y t : Int) (J : Option Nat → World → Prop) (hI : FG B ab k m n ws vw y t J)
    (hY : ∀ d' j x W', (aN k m n ws y t)[j]? = some x → J (some j) W' → YieldAt Fence.wide (d' + 4) prog l #[.string x] W' (fun e W'' => ∃ b : Bool, e = .returned (.bool b) ∧ J (bif b then some (j + 1) else none) W'' ∧ mM B W' W''))
    (W : World) (hB : B = W.heap.size) (h0 : J (some 0) W) :
    CallsIn Fence.wide (d + 10) prog 52 #[.func (.yield l) #[] #[], .pointer (some ⟨ab, 0, none⟩)] W (fun e W' => (∃ v, e = .returned v) ∧ (J (some (aN k m n ws y t).length) W' ∨ J none W')) := by
  refine callsIn_of_wp_marks Tryz.func52 rfl trivial ?_ rfl
  simp only [Tryz.ntmps52, List.size_toArray, List.length_cons, List.length_nil, Nat.reduceAdd, Nat.reduceSub, Array.replicate_succ, Array.replicate_zero, List.push_toArray, List.append_toArray, List.nil_append, List.cons_append]
  obtain ⟨W0, hW0⟩ : ∃ W0, W.alloc (.cells #[.func (.yield l) #[] #[]] 41) = W0 := ⟨_, rfl⟩
  have hs0 : W0.heap.size = W.heap.size + 1 := by rw [← hW0]; simp
  have hb0 : Below W.heap.size W W0 := by rw [← hW0]; exact (Below.refl _ _).alloc (Nat.le_refl _) _
  have hx0 : Boxed W0 W.heap.size 41 (.func (.yield l) #[] #[]) := by rw [← hW0]; exact Boxed.new _ _ _
  have hJ0 := hI.mono _ _ _ h0 hb0
  obtain ⟨c0, c1, c2, c3, c4, c5, cb, rom, hv⟩ := hI.lf hJ0 hx0 (Below.refl _ W0).drew
  have ag := rF
  have sz := oy
  have hmay := B4 k m n ws vw y t _ rom hv
  cases hm : jv k m n ws.length y t with
  | false =>
    have hlin : aN k m n ws y t = [] := by simp [aN, hm]
    rw [hlin] at hY ⊢
    rw [hm] at hmay
    gi_wp2
    first
      | gi_region_with first
          | (refine ⟨trivial, ?_⟩; gi_at_call 17; refine (callsIn_wide.2 hmay).mono ?_; rintro e W1 ⟨rfl, hb1⟩)
          | (refine (⟨trivial, ?_⟩ : Fence.wide.fn 53 ∧ _))
          | (refine (⟨by simp, ?_⟩ : (∀ (f : FuncId), none = some f → Fence.wide.fn f) ∧ _))
      | fail
    all_goals gi_wp2
    all_goals exact ⟨_, results_none rfl _ _ _, ⟨_, rfl⟩, .inl (hI.mono _ _ _ hJ0 ((Below.refl _ W0).drew.trans hb1))⟩
  | true =>
    rw [hm] at hmay
    obtain ⟨hm0, hm5, hn0, hn5, hlen, hy0, hy3⟩ := jH hm
    have km : kp .i64 m = true := cB.2 (by omega)
    have kn : kp .i64 n = true := cB.2 (by omega)
    have hl1 : (aN k m n ws y t)[0]? = some (fh m n) := by rw [aN, hm]; rfl
    have hY1 := fun W' h => hY (d + 5) 0 _ W' hl1 h
    change Code.wpIn _ _ _ (.seq _ (.seq _ Ab)) _ _ _
    gi_wp2
    first
      | gi_region_with first
          | (refine ⟨trivial, ?_⟩; gi_at_call 17; refine (callsIn_wide.2 hmay).mono ?_; rintro e W1 ⟨rfl, hb1⟩; have hb01 := (Below.refl _ W0).drew.trans hb1; obtain ⟨c10, c11, c12, c13, c14, c15, c1b, rom1, hv1⟩ := hI.lf hJ0 hx0 hb01; have hhead := FF m n km kn _ rom1)
          | (refine ⟨trivial, ?_⟩; gi_at_call 53; refine (callsIn_wide.2 hhead).mono ?_; rintro e W2 ⟨rfl, hb2⟩; have hb02 := hb01.trans (hb2.mono (show W0.heap.size ≤ W1.heap.size from hb01.size)); have hJ2 := hI.mono _ _ _ hJ0 hb02; obtain ⟨c20, c21, c22, c23, c24, c25, c2b, rom2, hv2⟩ := hI.lf hJ0 hx0 hb02; obtain ⟨fn', tmps', assign', body', hy', hR'⟩ := hY1 W2 hJ2)
          | (refine hR'.mono ?_; rintro e W3 ⟨b, rfl, hJ3, hK3⟩)
      | fail
    all_goals
      cases b
      · gi_wp2
        exact ⟨_, results_none rfl _ _ _, ⟨_, rfl⟩, .inr hJ3⟩
      · gi_wp2
        have hx3 : Boxed W3 W.heap.size 41 (.func (.yield l) #[] #[]) := hK3.2 _ _ (by omega) ((hb02.block _ hx0.lt).trans hx0) (lr (by decide))
        refine FH d l ab W.heap.size B k m n ws vw y t J hI hm (by omega) hY _ W3 (fun a W' h1 h2 => ?_) hJ3 hx3 _ _ _ _ _ _ _ _ _ _ _ _ _ _ _ _ _ _ _ _ _ _ _ _ _ _ _ _ _ _ _ _
        have key : LeavesInM Fence.wide (d + 10) prog Tryz.f52 a.tmps (fun e W' => (∃ v, e = .returned v) ∧ (J (some (aN k m n ws y t).length) W' ∨ J none W')) a.defers .returning W' := by
          rcases h1 with h1 | ⟨D, h3, h1, h4⟩
          · rw [h1]
            exact ⟨_, results_none rfl _ _ _, ⟨_, rfl⟩, h2⟩
          · rw [h1]
            refine ⟨by simp, .inl ⟨_, _, rfl, run_takeDeferred h4, ?_⟩⟩
            refine ⟨_, results_none rfl _ _ _, ⟨_, rfl⟩, ?_⟩
            rcases h2 with h2 | h2
            · exact .inl (hI.put _ _ _ _ _ h2 h3 h4 rfl)
            · exact .inr (hI.put _ _ _ _ _ h2 h3 h4 rfl)
        exact ⟨key, key⟩
structure sN where
  k:Int
  m:Int
  n:Int
  ws:List Int
  y:Int
  t:Int
def sN.may(a:sN) :Bool:=jv a.k a.m a.n a.ws.length a.y a.t
def sN.lines(a:sN) :List ByteArray:=aN a.k a.m a.n a.ws a.y a.t
def Kl(s:ByteArray) :List UInt8:=s.data.toList++[10]
def tF(l:List ByteArray) :List UInt8:=(l.map Kl).flatten
def fB(l:List sN) :List UInt8:=(l.map fun a=>tF a.lines).flatten
def sO(l:List sN) :ByteArray:=if l.any (fun a=>!a.may)=true then ByteArray.empty else if 64<l.length then ByteArray.empty else if 8388608<(fB l).length then ByteArray.empty else ⟨(fB l).toArray⟩
def sP(l:List sN) :Int:=if l.any (fun a=>!a.may)=true then 2 else if 64<l.length then 3 else if 8388608<(fB l).length then 3 else 0
structure Gz (W:World) (bl o:Nat) (a:sN) (vw:Value):Prop where
  c0:W.cell? ⟨bl,o,none⟩=some (.int .i64 a.k)
  c1:W.cell? ⟨bl,o+1,none⟩=some (.int .i64 a.m)
  c2:W.cell? ⟨bl,o+2,none⟩=some (.int .i64 a.n)
  c3:W.cell? ⟨bl,o+3,none⟩=some vw
  c4:W.cell? ⟨bl,o+4,none⟩=some (.int .i64 a.y)
  c5:W.cell? ⟨bl,o+5,none⟩=some (.int .u64 a.t)
  v:VR ae.none_ W (eW a.ws) vw
  lt:bl<W.heap.size
abbrev sN.V(a:sN)(vw:Value) :Array Value:=Eu a.k a.m a.n vw a.y a.t
theorem Gz.below{W W':World}{bl o:Nat}{a:sN}{vw:Value}(h:Gz W bl o a vw)(hb:Below W.heap.size W W') :Gz W' bl o a vw:=by
  have e:∀ j,W'.cell? ⟨bl,j,none⟩=W.cell? ⟨bl,j,none⟩:=fun j=>hb.cell (p:=⟨bl,j,none⟩) h.lt
  exact ⟨(e _).trans h.c0,(e _).trans h.c1,(e _).trans h.c2,(e _).trans h.c3,(e _).trans h.c4,(e _).trans h.c5,h.v.mono (gZ.refl _ _) (my hb),Nat.lt_of_lt_of_le h.lt hb.size⟩
def tG(W:World)(bl o:Nat)(l:List sN) :Prop:=∀ i a,l[i]? = some a→∃ vw,Gz W bl (o+i*6) a vw
theorem tG.below{W W':World}{bl o:Nat}{l:List sN}(h:tG W bl o l)(hb:Below W.heap.size W W') :tG W' bl o l:=fun i a hi=>(h i a hi).imp fun _ q=>q.below hb
set_option maxHeartbeats 2000000 in
theorem Da (a : sN) (vw : Value) (w : World) (hR : dW w) (hv : VR ae.none_ w (eW a.ws) vw) : Calls prog 26 #[.agg (a.V vw)] w fun e w' => e = .returned (.bool (!a.may)) ∧ Below w.heap.size w w' := by
  have hb : Below w.heap.size w (w.alloc (.cells (a.V vw) 33)) := (Below.refl _ w).alloc (Nat.le_refl _) _
  have hmay := B4 a.k a.m a.n a.ws vw a.y a.t (w.alloc (.cells (a.V vw) 33)) (hR.below hb (Nat.le_refl _)) (hv.mono (gZ.refl _ _) (my hb))
  have ag := rF
  have sz := oy
  go_enter Tryz.func26, Tryz.ntmps26
  go_wp2_with (go_at_call 17; refine hmay.mono ?_; rintro e w' ⟨rfl, hb1⟩)
  go_ret
  exact ⟨rfl, hb.trans (hb1.mono (by simp))⟩
theorem qQ{F:Fence}{n:Nat}{P:Program}{fn:Func}{tmps:Array Value}{R:Ending→World→Prop}{v:Value}(n0:Nat)(hr:∀ W,(results fn tmps).run P W=.ok v W)(Pw:World→Prop) 
    (hP:∀ W D,n0≤D→Pw W→Pw (W.putObj D (.deferred none))) (hR:∀ W,Pw W→R (.returned v) W):∀ (Ds:List Nat) (W:World),Ds.Nodup→(∀ D∈Ds,n0≤D∧W.heap[D]? = some (.deferred (some [])))→Pw W →
      LeavesInM F n P fn tmps R (Ds.map fun D=>({ target:=.collected D,args:=#[] }:Deferred)) .returning W
  | [],W,_,_,h=>⟨_,hr W,hR W h⟩
  | D::Ds,W,hn,hD,h=>by
    have h1:=hD D (List.mem_cons_self ..)
    obtain ⟨hn1,hn2⟩:=List.nodup_cons.1 hn
    refine ⟨by simp,.inl ⟨_,_,rfl,run_takeDeferred h1.2,?_⟩⟩
    refine qQ n0 hr Pw hP hR Ds _ hn2 (fun D' h'=>?_) (hP W D h1.1 h)
    have h2:=hD D' (List.mem_cons_of_mem _ h')
    exact ⟨h2.1,(World.putObj_heap_other (fun e=>hn1 (by rw [←e];exact h'))).trans h2.2⟩
set_option maxHeartbeats 2000000 in
theorem Ho (bl o cap : Nat) (l : List sN) (hl : l.length ≤ 1000000000) (w : World) (hR : dW w) (hA : tG w bl o l) (p : Option Addr) (hp : 1 ≤ l.length → p = some ⟨bl, o, none⟩) :
    Calls prog 51 #[.slice p l.length cap, .func (.func 26) #[] #[]] w fun e w' => (∃ r : Int, e = .returned (.int .i64 r) ∧ (0 ≤ r ↔ l.any (fun a => !a.may) = true)) ∧ Below w.heap.size w w' := by
  have ag := rF
  have sz := oy
  go_enter Tryz.func51, Tryz.ntmps51
  go_wp2
  go_loopw [8] (fun t W => ∃ i : Nat, t = .int .i64 i ∧ i ≤ l.length ∧ (l.take i).any (fun a => !a.may) = false ∧ Below w.heap.size w W) (fun t _ => l.length - (intOf t).toNat)
  case atStart => exact ⟨0, rfl, Nat.zero_le _, rfl, Below.refl _ _⟩
  case round =>
    obtain ⟨i, rfl, hi, hany, hb⟩ := hrel
    by_cases hlt : i < l.length
    · obtain ⟨a, ha⟩ : ∃ a, l[i]? = some a := ⟨_, List.getElem?_eq_getElem hlt⟩
      have hA' := hA.below hb
      obtain ⟨vw, hk⟩ := hA' i a ha
      obtain ⟨c0, c1, c2, c3, c4, c5, hv, hbl⟩ := hk
      have hcall := Da a vw wr (hR.below hb (Nat.le_refl _)) hv
      have hpp := hp (by omega)
      subst hpp
      go_wp2_with (go_at_call 26; refine hcall.mono ?_; rintro e w' ⟨rfl, hb1⟩)
      · go_ret
        have h1 : (!a.may) = true := by assumption
        exact ⟨⟨i, rfl, fun _ => List.any_eq_true.2 ⟨a, List.mem_of_getElem? ha, h1⟩, fun _ => Int.natCast_nonneg _⟩, hb.trans (hb1.mono hb.size)⟩
      · have h1 : (!a.may) = false := by assumption
        refine ⟨⟨i + 1, by go_num, by omega, ?_, hb.trans (hb1.mono hb.size)⟩, by simp [intOf]; omega⟩
        rw [List.take_add_one, ha, List.any_append, hany]
        simpa using h1
    · have he : i = l.length := by omega
      rw [he, List.take_length] at hany
      go_wp2
      go_ret
      exact ⟨⟨-1, rfl, fun h => absurd h (by decide), fun h => by rw [hany] at h; cases h⟩, hb⟩
theorem Ad(bl o cap:Nat)(l:List sN)(hl:l.length≤1000000000)(w:World)(hR:dW w)(hA:tG w bl o l)(p:Option Addr)(hp:1≤l.length→p=some ⟨bl,o,none⟩) :
    Calls prog 25 #[.slice p l.length cap,.func (.func 26) #[] #[]] w fun e w'=>e=.returned (.bool (l.any fun a=>!a.may))∧Below w.heap.size w w':=by
  have h:=Ho bl o cap l hl w hR hA p hp
  go_enter Tryz.func25,Tryz.ntmps25
  go_wp2_with (go_at_call 51;refine h.mono ?_;rintro e w' ⟨⟨r,rfl,hr⟩,hb⟩;replace hr:=Lib.hid hr)
  go_ret
  replace hr:=hr.out
  refine ⟨?_,hb⟩
  show Ending.returned (Value.bool (decide (r≥0)))=_
  cases hq:l.any (fun a=>!a.may) with
  | true=>rw [decide_eq_true (show r≥0 from hr.2 hq)]
  | false =>
    have : ¬ r≥0:=fun c=>by rw [hr.1 c] at hq;cases hq
    rw [decide_eq_false this]
theorem Hp(ws:List Int) :(qc ws).size≤17*ws.length:=by
  have:=wC (ws.map bc)
  rw [qc,zX]
  have e:((ws.map bc).map fun s=>s.size+1).sum=17*ws.length:=by
    clear this
    induction ws with
    | nil=>rfl
    | cons x l ih=>simp only [List.map_cons,List.sum_cons,List.length_cons,jw] at ih ⊢;omega
  omega
theorem Ae(m n:Int) :(fh m n).size≤50:=by
  have h1:=ed m
  have h2:=ed n
  have e1:(ByteArray.mk #[109,97,116,114,105,120,32]).size=7:=rfl
  have e2:C9.size=1:=rfl
  unfold fh
  simp only [ByteArray.size_append,e1,e2]
  omega
theorem Af(k y t:Int) :(jG k y t).size≤46:=by
  have hw:=Es k
  have h1:=ed y
  have h2:=jw t
  have e3:C9.size=1:=rfl
  unfold jG
  cases decide (((pq k).2.2.1:Int)>0)<;>cases (pq k).2.2.2.1<;>simp only [cond_true,cond_false,ByteArray.size_append,e3]<;>omega
theorem tH{a:sN}(h:a.may=true) :a.lines.length≤514∧∀ x∈a.lines,x.size≤9000:=by
  obtain ⟨h1,h2,h3,h4,h5,_⟩:=jH h
  unfold sN.lines aN
  rw [show jv a.k a.m a.n a.ws.length a.y a.t=true from h]
  simp only [cond_true]
  cases hd:decide (a.n>0) with
  | false =>
    refine ⟨by simp,fun x hx=>?_⟩
    simp only [cond_false,List.nil_append,List.mem_cons,List.not_mem_nil,or_false] at hx
    rcases hx with rfl | rfl
    · have:=Ae a.m a.n;omega
    · have:=Af a.k a.y a.t;omega
  | true =>
    refine ⟨by simp;omega,fun x hx=>?_⟩
    simp only [cond_true,List.mem_cons,List.mem_append,List.mem_map,List.not_mem_nil,or_false] at hx
    rcases hx with rfl | ⟨i,_,rfl⟩ | rfl
    · have:=Ae a.m a.n;omega
    · have h9:=Hp ((a.ws.drop (i*a.n.toNat)).take a.n.toNat)
      have:=List.length_take_le a.n.toNat (a.ws.drop (i*a.n.toNat))
      omega
    · have:=Af a.k a.y a.t;omega
theorem Ex{L:List ByteArray}(h:∀ x∈L,x.size≤9000) :(tF L).length≤L.length*9001:=by
  induction L with
  | nil=>simp [tF]
  | cons x L ih =>
    have h1:=h x (List.mem_cons_self ..)
    have h2:=ih fun y hy=>h y (List.mem_cons_of_mem _ hy)
    have h3:(Kl x).length=x.size+1:=by simp [Kl]
    unfold tF at h2 ⊢
    simp only [List.map_cons,List.flatten_cons,List.length_append,List.length_cons,h3]
    omega
theorem Hq{l:List sN}(hm:∀ a∈l,a.may=true) :(fB l).length≤l.length*5000000:=by
  induction l with
  | nil=>simp [fB]
  | cons a l ih =>
    have h1:=tH (hm a (List.mem_cons_self ..))
    have h2:=ih fun y hy=>hm y (List.mem_cons_of_mem _ hy)
    have h3:=Ex h1.2
    unfold fB at h2 ⊢
    simp only [List.map_cons,List.flatten_cons,List.length_append,List.length_cons]
    omega
theorem Hr(L:List ByteArray)(x:ByteArray) :tF (L++[x])=tF L++Kl x:=by simp [tF]
theorem FI(L:List sN)(a:sN) :fB (L++[a])=fB L++tF a.lines:=by simp [fB]
theorem wE(x y:List UInt8) :Lib.byteCells (x++y)=Lib.byteCells x++Lib.byteCells y:=by simp [Lib.byteCells]
theorem xM(a:sN)(vw:Value)(w:World) :Calls prog 27 #[.agg (a.V vw)] w fun e w'=>e=.returned (.func (.func 52) #[] #[.pointer (some ⟨w.heap.size,0,none⟩)])∧w'=w.alloc (.cells (a.V vw) 33):=by
  have hmf:∀ (fn:Fn) (first cap:Array Value) (w:World),(Instr.makeFunc fn first cap).run prog w=.ok (.func fn first cap) w:=fun _ _ _ _=>rfl
  go_enter Tryz.func27,Tryz.ntmps27
  go_wp2
  go_ret
  exact ⟨rfl,rfl⟩
theorem pr{T e:TypeId}{B b:Nat}{bs:List Value}{W W':World}(h:Lib.IsBuilderF T e B b bs W)(hk:∀ (k:Nat) (c:Array Value) (t:TypeId) (fz:Nat×Nat),W.heap[k]? = some (Obj.cells c t fz)→W'.heap[k]? = some (Obj.cells c t fz)) :Lib.IsBuilderF T e B b bs W':=by
  have key:∀ p,Lib.BuilderAtF T e B b p bs W→Lib.BuilderAtF T e B b p bs W':=by
    rintro p ⟨h1,v,h2,h3,h4⟩
    refine ⟨h1,v,hk _ _ _ _ h2,⟨h3.1,?_⟩,h4⟩
    rcases h3.2 with q | ⟨g,cap,cur,fz,q1,q2,q3,q4⟩
    · exact .inl q
    · exact .inr ⟨g,cap,cur,fz,q1,q2,hk _ _ _ _ q3,q4⟩
  exact h.imp (key _) (key _)
theorem tI{T e:TypeId}{B b:Nat}{bs:List Value}{W:World}(h:Lib.IsBuilderF T e B b bs W) :b<W.heap.size:=by
  rcases h with ⟨_,v,h,_⟩ | ⟨_,v,h,_⟩
  · exact bi h
  · exact bi h
theorem Ey(W:World) :Lib.IsBuilderF 58 5 W.heap.size W.heap.size (Lib.byteCells []) (W.alloc (.cells #[.pointer none,.slice none 0 0] 58)):=by
  refine .inl ⟨Nat.le_refl _,.slice none 0 0,World.alloc_heap_new W _,⟨rfl,.inl ⟨rfl,rfl⟩⟩,by simp [Value.ownBlock]⟩
abbrev IQ(D:Nat) :Deferred:={ target:=.collected D,args:=#[] }
theorem vl(B b:Nat)(bs:List Value)(s:ByteArray)(w:World)(h:Lib.IsBuilderF 58 5 B b bs w)(hlen:bs.length+s.size≤140737488355328)(hBw:B≤w.heap.size) :
    Calls Tryz.prog 28 #[.pointer (some ⟨b,0,none⟩),.string s] w fun e w'=>e=.returned (.tuple #[.int .i64 s.size,.nilIface])∧(Lib.BuilderAtF 58 5 B b (.pointer (some ⟨b,0,none⟩)) (bs++Lib.strCells s) w'∧Below B w w'∧Lib.OthersKept 5 (some b) w w') :=
  Any.Builder_WriteString_k { pd with } dZ B b bs s w h hlen hBw
structure TJ (w:World) (bb ab L:Nat) (cs:Array Value) (Ds:List Nat) (obj:Obj) (pre:List UInt8) (W:World):Prop where
  b:Lib.IsBuilderF 58 5 bb bb (Lib.byteCells pre) W
  a:W.heap[ab]? = some (.cells cs 33 (0,0))
  low:Below w.heap.size w W
  ds:∀ D∈Ds,W.heap[D]? = some (.deferred (some []))
  o:W.heap[L]? = some obj
def LG(w:World)(bb ab L:Nat)(cs:Array Value)(Ds:List Nat)(obj:Obj)(pre:List UInt8)(lines:List ByteArray) :Option Nat→World→Prop
  | some j,W=>TJ w bb ab L cs Ds obj (pre++tF (lines.take j)) W
  | none,_=>False
theorem TJ.below{w:World}{bb ab L:Nat}{cs:Array Value}{Ds:List Nat}{obj:Obj}{pre:List UInt8}{W W':World}(h:TJ w bb ab L cs Ds obj pre W)(hb:Below W.heap.size W W') :TJ w bb ab L cs Ds obj pre W' :=
  ⟨pr h.b fun k c t fz q=>(hb.block k (bi q)).trans q,(hb.block _ (bi h.a)).trans h.a,h.low.trans (hb.mono h.low.size),fun D hD=>(hb.block _ (bi (h.ds D hD))).trans (h.ds D hD),(hb.block _ (bi h.o)).trans h.o⟩
theorem TJ.put{w:World}{bb ab L:Nat}{cs:Array Value}{Ds:List Nat}{obj obj':Obj}{pre:List UInt8}{W:World}(h:TJ w bb ab L cs Ds obj pre W)(r:Nat)(ob o':Obj)(hw:w.heap.size≤r)(ho:W.heap[r]? = some o')(hc:o'.isCells=false)(hD:∀ D∈Ds,r≠D) 
    (hL:(r≠L∧obj'=obj)∨(r=L∧obj'=ob)):TJ w bb ab L cs Ds obj' pre (W.putObj r ob):=by
  have nc:∀ k c t fz,W.heap[k]? = some (.cells c t fz)→k≠r:=fun k c t fz q e=>by
    rw [e,ho] at q;cases q;cases hc
  refine ⟨pr h.b fun k c t fz q=>(World.putObj_heap_other (nc k c t fz q)).trans q,(World.putObj_heap_other (nc _ _ _ _ h.a)).trans h.a,dr h.low hw _,fun D q=>(World.putObj_heap_other (fun e=>hD D q e.symm)).trans (h.ds D q),?_⟩
  rcases hL with ⟨h1,rfl⟩ | ⟨rfl,rfl⟩
  · exact (World.putObj_heap_other (fun e=>h1 e.symm)).trans h.o
  · exact World.putObj_heap_same (bi ho)
def KO(w:World)(bb:Nat)(p:Option Addr)(cap:Nat)(l:List sN)(a:Act)(W:World) :Prop :=
  ∃ (i:Nat) (Ds:List Nat) (u6 u7 u12 u16 u17 u18 u19 u20 u21 u22 u23 u24 u25:Value),a = { tmps:=#[.slice p l.length cap,undef,.string ⟨#[]⟩,.int .i64 0,.pointer (some ⟨bb,0,none⟩),undef,u6,u7,.slice p l.length cap,.bool false,.slice p l.length cap,.int .i64 l.length,u12,.slice p l.length cap,.int .i64 l.length,.int .i64 i,u16,u17,u18,u19,u20,u21,u22,u23,u24,u25,undef,undef,undef],defers:=Ds.map IQ }∧i≤l.length∧Lib.IsBuilderF 58 5 bb bb (Lib.byteCells (fB (l.take i))) W∧Below w.heap.size w W∧Ds.Nodup ∧
    ∀ D∈Ds,w.heap.size≤D∧W.heap[D]? = some (.deferred (some []))
set_option maxHeartbeats 4000000 in
theorem Ez (bl o cap : Nat) (l : List sN) (hl : l.length ≤ 1000000000) (w : World) (hR : dW w) (hA : tG w bl o l) (p : Option Addr) (hp : 1 ≤ l.length → p = some ⟨bl, o, none⟩) :
    Calls prog eS #[.slice p l.length cap] w fun e w' => e = .returned (.tuple #[.string (sO l), .int .i64 (sP l)]) ∧ Below w.heap.size w w' := by
  have hany := Ad bl o cap l hl w hR hA p hp
  refine (callsIn_wide (n := 20)).1 (callsIn_of_wp_marks Tryz.func8 rfl trivial ?_)
  simp only [Tryz.ntmps8, List.size_toArray, List.length_cons, List.length_nil, Nat.reduceAdd, Nat.reduceSub, Array.replicate_succ, Array.replicate_zero, List.push_toArray, List.append_toArray, List.nil_append, List.cons_append]
  cases ha : l.any (fun a => !a.may) with
  | true =>
    have e1 : sO l = ByteArray.empty ∧ sP l = 2 := ⟨if_pos ha, if_pos ha⟩
    rw [ha] at hany
    rw [e1.1, e1.2]
    gi_wp2_with (refine ⟨trivial, ?_⟩; gi_at_call 25; refine (callsIn_wide.2 hany).mono ?_; rintro e w' ⟨rfl, hb⟩)
    exact ⟨_, results_tmp2 rfl _ _ _, rfl, hb⟩
  | false =>
    have hf : ¬ l.any (fun a => !a.may) = true := by rw [ha]; decide
    rw [ha] at hany
    by_cases h64 : 64 < l.length
    · have e1 : sO l = ByteArray.empty ∧ sP l = 3 := by unfold sO sP; rw [if_neg hf, if_neg hf, if_pos h64, if_pos h64]; exact ⟨rfl, rfl⟩
      rw [e1.1, e1.2]
      gi_wp2_with (refine ⟨trivial, ?_⟩; gi_at_call 25; refine (callsIn_wide.2 hany).mono ?_; rintro e w' ⟨rfl, hb⟩)
      exact ⟨_, results_tmp2 rfl _ _ _, rfl, hb⟩
    · have e1 : sO l = (if 8388608 < (fB l).length then ByteArray.empty else ⟨(fB l).toArray⟩) ∧ sP l = (if 8388608 < (fB l).length then 3 else 0) := by unfold sO sP; rw [if_neg hf, if_neg hf, if_neg h64, if_neg h64]; exact ⟨rfl, rfl⟩
      rw [e1.1, e1.2]
      clear hf e1
      gi_wp2_with (refine ⟨trivial, ?_⟩; gi_at_call 25; refine (callsIn_wide.2 hany).mono ?_; rintro e w1 ⟨rfl, hb⟩)
      have hbn := Ey w1
      have hbw : Below w.heap.size w (w1.alloc (.cells #[.pointer none, .slice none 0 0] 58)) := hb.alloc hb.size _
      have hwb : w.heap.size ≤ w1.heap.size := hb.size
      obtain ⟨W1, hW1⟩ : ∃ W1, w1.alloc (.cells #[.pointer none, .slice none 0 0] 58) = W1 := ⟨_, rfl⟩
      obtain ⟨bb, hbb⟩ : ∃ bb, w1.heap.size = bb := ⟨_, rfl⟩
      have hs1 : W1.heap.size = bb + 1 := by rw [← hW1, ← hbb]; simp
      rw [hW1, hbb] at hbn ⊢
      rw [hW1] at hbw
      rw [hbb] at hwb
      clear hW1 hbb hb hany
      refine wpIn_loop (KO w bb p cap l) (fun a _ => l.length - (intOf (a.tmps.getD 15 undef)).toNat) ⟨0, [], _, _, _, _, _, _, _, _, _, _, _, _, _, rfl, Nat.zero_le _, hbn, hbw, List.nodup_nil, by simp⟩ ?_
      rintro a W ⟨i, Ds, u6, u7, u12, u16, u17, u18, u19, u20, u21, u22, u23, u24, u25, rfl, hi, hbld, hlow, qj, hds⟩
      by_cases hlt : i < l.length
      · obtain ⟨a, hai⟩ : ∃ a, l[i]? = some a := ⟨_, List.getElem?_eq_getElem hlt⟩
        obtain ⟨vw, hk0⟩ := hA i a hai
        have hk := hk0.below (hlow.mono (Nat.le_refl _))
        have hv0 := hk0.v
        obtain ⟨c0, c1, c2, c3, c4, c5, hv, hbl⟩ := hk
        have hpp := hp (by omega)
        subst hpp
        obtain ⟨pw, cw, rfl, hcw, hpw⟩ := wD hv
        have ag := rF
        have sz := oy
        gi_wp2_with (refine ⟨trivial, ?_⟩; gi_at_call 27; refine (callsIn_wide.2 (xM a (.slice pw a.ws.length cw) _)).mono ?_; rintro e w' ⟨rfl, rfl⟩)
        have hin : a ∈ l := List.mem_of_getElem? hai
        have hmay : ∀ b ∈ l, b.may = true := fun b hb => by
          have := List.any_eq_false.1 ha b hb
          simpa using this
        have hsz := tH (hmay a hin)
        have hpre : (fB (l.take i)).length ≤ 64 * 5000000 := by
          have := Hq (l := l.take i) fun b hb => hmay b (List.mem_of_mem_take hb)
          have h2 : (l.take i).length ≤ 64 := by rw [List.length_take]; omega
          exact Nat.le_trans this (Nat.mul_le_mul_right _ h2)
        obtain ⟨W2, hW2⟩ : ∃ W2, (W.alloc (.cells (a.V (.slice pw a.ws.length cw)) 33)).alloc (.cells (a.V (.slice pw a.ws.length cw)) 33) = W2 := ⟨_, rfl⟩
        rw [hW2]
        have hs2 : W2.heap.size = W.heap.size + 2 := by rw [← hW2]; simp
        refine pk (gf := 52) (m := 19) rfl (enters_of Tryz.func52 (by kernel_rfl) rfl) fun fn rec hrec hy => ?_
        rw [hs2] at hy ⊢
        have hWb : bb < W.heap.size := tI hbld
        obtain ⟨W0, hW0⟩ : ∃ W0, (W2.alloc (.deferred (some []))).alloc (.loop (rec .ready none)) = W0 := ⟨_, rfl⟩
        have hs0 : W0.heap.size = W.heap.size + 4 := by rw [← hW0]; simp [hs2]
        have hlow0 : Below W.heap.size W W0 := by
          rw [← hW0, ← hW2]
          refine Below.alloc (Below.alloc (Below.alloc (Below.alloc (Below.refl _ W) ?_ _) ?_ _) ?_ _) ?_ _
          all_goals simp
          all_goals try omega
        have hat : ∀ r, W0.heap[W.heap.size + r]? = #[Obj.cells (a.V (.slice pw a.ws.length cw)) 33, .cells (a.V (.slice pw a.ws.length cw)) 33, .deferred (some []), .loop (rec .ready none)][r]? := fun r => by
          rw [← hW0, ← hW2]
          exact JV W.heap _ _ _ _ r
        obtain ⟨T, hT⟩ : ∃ T, LG w bb (W.heap.size + 1) (W.heap.size + 2 + 1) (a.V (.slice pw a.ws.length cw)) ((W.heap.size + 2) :: Ds) (.loop (rec .ready none)) (fB (l.take i)) a.lines = T := ⟨_, rfl⟩
        have hI : FG W0.heap.size (W.heap.size + 1) a.k a.m a.n a.ws (.slice pw a.ws.length cw) a.y a.t T := by
          rw [← hT]
          refine ⟨fun j V h => ⟨h.a, hR.below h.low (Nat.le_refl _), hv0.mono (gZ.refl _ _) (my h.low)⟩, fun j V V' h hb => ?_, fun j V r ob o' h h1 h2 h3 => ?_⟩
          · cases j with
            | none => exact h
            | some j => exact TJ.below h hb
          · cases j with
            | none => exact h
            | some j =>
              refine TJ.put h r ob o' (by have := hlow.size; omega) h2 h3 (fun D hD => ?_) (.inl ⟨by omega, rfl⟩)
              rcases List.mem_cons.1 hD with rfl | hD
              · omega
              · have := bi (hds D hD).2
                omega
        have h0 : T (some 0) W0 := by
          rw [← hT]
          refine ⟨?_, hat 1, hlow.trans (hlow0.mono hlow.size), fun D hD => ?_, hat 3⟩
          · rw [List.take_zero, show fB (l.take i) ++ tF [] = fB (l.take i) by simp [tF]]
            exact pr hbld fun k c t fz q => (hlow0.block k (bi q)).trans q
          · rcases List.mem_cons.1 hD with rfl | hD
            · exact hat 2
            · exact (hlow0.block _ (bi (hds D hD).2)).trans (hds D hD).2
        have hY : ∀ d' j x W', a.lines[j]? = some x → T (some j) W' → YieldAt Fence.wide (d' + 4) prog (W.heap.size + 2 + 1) #[.string x] W' (fun e W'' => ∃ b : Bool, e = .returned (.bool b) ∧ T (bif b then some (j + 1) else none) W'' ∧ mM W0.heap.size W' W'') := by
          intro d' j x W' hx hS
          rw [← hT] at hS ⊢
          refine hy (d' + 4) _ W' _ hS.o rfl ?_
          clear hy
          have hxm := hsz.2 x (List.mem_of_getElem? hx)
          have hpl : (fB (l.take i) ++ tF (a.lines.take j)).length ≤ 140737488355328 - 20000 := by
            have h1 := Ex (L := a.lines.take j) fun y hy => hsz.2 y (List.mem_of_mem_take hy)
            have h2 := List.length_take_le j a.lines
            have h3 : (a.lines.take j).length ≤ 514 := by rw [List.length_take]; omega
            have h4 := Nat.mul_le_mul_right 9001 h3
            rw [List.length_append]
            omega
          gi_wp2
          refine ⟨hS.o, ?_⟩
          have hSb := TJ.put (obj' := .loop (rec .busy none)) hS (W.heap.size + 2 + 1) (.loop (rec .busy none)) _ (by have := hlow.size; omega) hS.o rfl (fun D hD => by
            rcases List.mem_cons.1 hD with rfl | hD
            · omega
            · have := bi (hds D hD).2
              omega) (.inr ⟨rfl, rfl⟩)
          have hlt := bi hS.o
          obtain ⟨V1, hV1⟩ : ∃ V1, W'.putObj (W.heap.size + 2 + 1) (.loop (rec .busy none)) = V1 := ⟨_, rfl⟩
          have hs1 : V1.heap.size = W'.heap.size := by rw [← hV1]; simp
          have hk1 : ∀ r, r ≠ W.heap.size + 2 + 1 → V1.heap[r]? = W'.heap[r]? := fun r hr => by rw [← hV1]; exact World.putObj_heap_other hr
          rw [hV1] at hSb ⊢
          have hWS := vl bb bb (Lib.byteCells (fB (l.take i) ++ tF (a.lines.take j))) (x ++ ⟨#[10]⟩) V1 hSb.b
            (by rw [Lib.byteCells_length, ByteArray.size_append]; have : (ByteArray.mk #[10]).size = 1 := rfl; omega) (by have := tI hSb.b; omega)
          gi_wp2_with (refine ⟨trivial, ?_⟩; gi_at_call 28; refine (callsIn_wide.2 hWS).mono ?_; rintro e W6 ⟨rfl, hb6, hlow6, hot6⟩)
          have hnb : ∀ r, bb < r → some r ≠ some bb := fun r h e => by cases e; omega
          have hj : a.lines.take (j + 1) = a.lines.take j ++ [x] := by rw [List.take_add_one, hx]; rfl
          have hS6 : TJ w bb (W.heap.size + 1) (W.heap.size + 2 + 1) (a.V (.slice pw a.ws.length cw)) ((W.heap.size + 2) :: Ds) (.loop (rec .busy none)) (fB (l.take i) ++ tF (a.lines.take (j + 1))) W6 := by
            refine ⟨.inr ?_, hot6 _ _ hSb.a (hnb _ (by omega)) (lr (by decide)), hSb.low.trans (hlow6.mono hwb), fun D hD => hot6 _ _ (hSb.ds D hD) (fun e => ?_) (rG _), hot6 _ _ hSb.o (hnb _ (by omega)) (Aa _)⟩
            · rw [hj, Hr, ← List.append_assoc, wE _ (Kl x)]
              have e1 : Lib.strCells (x ++ ⟨#[10]⟩) = Lib.byteCells (Kl x) := by
                simp [Lib.strCells, Lib.byteCells, Kl, ByteArray.data_append]
              rw [← e1]
              exact hb6
            · have h1 := hSb.ds D hD
              have h2 := hSb.b
              cases e
              rcases h2 with ⟨_, v, h2, _⟩ | ⟨_, v, h2, _⟩ <;> (rw [h1] at h2; cases h2)
          have hD' : ∀ D ∈ (W.heap.size + 2) :: Ds, W.heap.size + 2 + 1 ≠ D := fun D hD => by
            rcases List.mem_cons.1 hD with rfl | hD
            · omega
            · have := bi (hds D hD).2
              omega
          have hS7 := TJ.put (obj' := .loop (rec .ready none)) hS6 (W.heap.size + 2 + 1) (.loop (rec .ready none)) _ (by have := hlow.size; omega) hS6.o rfl hD' (.inr ⟨rfl, rfl⟩)
          refine ⟨hS6.o, ?_, ?_, fun r ob h1 h2 h3 => ?_⟩
          · rw [← hT]; exact hS7
          · have := hlow6.size
            simp only [World.putObj_size]
            omega
          · exact (World.putObj_heap_other (by omega)).trans (hot6 _ _ ((hk1 r (by omega)).trans h2) (hnb _ (by omega)) h3)
        rw [hW0]
        refine (Ew 9 (W.heap.size + 2 + 1) (W.heap.size + 1) W0.heap.size a.k a.m a.n a.ws (.slice pw a.ws.length cw) a.y a.t T hI hY W0 rfl h0).mono ?_
        rintro e W' ⟨hv', hS | hS⟩
        · rw [← hT] at hS
          have hS : TJ w bb (W.heap.size + 1) (W.heap.size + 2 + 1) (a.V (.slice pw a.ws.length cw)) ((W.heap.size + 2) :: Ds) (.loop (rec .ready none)) (fB (l.take i) ++ tF (a.lines.take a.lines.length)) W' := hS
          refine ⟨hv', .inl ⟨hS.o, ?_⟩⟩
          have hD' : ∀ D ∈ (W.heap.size + 2) :: Ds, W.heap.size + 2 + 1 ≠ D := fun D hD => by
            rcases List.mem_cons.1 hD with rfl | hD
            · omega
            · have := bi (hds D hD).2
              omega
          have hS7 := TJ.put (obj' := .loop (rec .exhausted none)) hS (W.heap.size + 2 + 1) (.loop (rec .exhausted none)) _ (by have := hlow.size; omega) hS.o rfl hD' (.inr ⟨rfl, rfl⟩)
          obtain ⟨W8, hW8⟩ : ∃ W8, W'.putObj (W.heap.size + 2 + 1) (.loop (rec .exhausted none)) = W8 := ⟨_, rfl⟩
          rw [hW8] at hS7 ⊢
          have hnd' : ((W.heap.size + 2) :: Ds).Nodup := List.nodup_cons.2 ⟨fun h => by have := bi (hds _ h).2; omega, qj⟩
          have hfin : ∀ u6 u7 u12 u16 u17 u18 u19 u20 u21 u22 u23 u24 u25 : Value, KO w bb (some ⟨bl, o, none⟩) cap l { tmps := #[.slice (some ⟨bl, o, none⟩) l.length cap, undef, .string ⟨#[]⟩, .int .i64 0, .pointer (some ⟨bb, 0, none⟩), undef, u6, u7, .slice (some ⟨bl, o, none⟩) l.length cap, .bool false, .slice (some ⟨bl, o, none⟩) l.length cap, .int .i64 l.length, u12, .slice (some ⟨bl, o, none⟩) l.length cap, .int .i64 l.length, .int .i64 ((i : Int) + 1), u16, u17, u18, u19, u20, u21, u22, u23, u24, u25, undef, undef, undef], defers := { target := .collected (W.heap.size + 2), args := #[] } :: Ds.map IQ } W8 := by
            intro u6 u7 u12 u16 u17 u18 u19 u20 u21 u22 u23 u24 u25
            refine ⟨i + 1, (W.heap.size + 2) :: Ds, u6, u7, u12, u16, u17, u18, u19, u20, u21, u22, u23, u24, u25, rfl, by omega, ?_, hS7.low, hnd', fun D hD => ⟨?_, hS7.ds D hD⟩⟩
            · have h1 := hS7.b
              rw [List.take_length] at h1
              rw [List.take_add_one, hai]
              show Lib.IsBuilderF 58 5 bb bb (Lib.byteCells (fB (l.take i ++ [a]))) W8
              rw [FI]
              exact h1
            · have := hlow.size
              rcases List.mem_cons.1 hD with rfl | hD
              · omega
              · exact (hds D hD).1
          gi_wp2
          simp [intOf]
          omega
        · rw [← hT] at hS
          exact hS.elim
      · have hil : i = l.length := by omega
        rw [hil, List.take_length] at hbld
        have hLen := Tryz.Builder_Len_f bb bb _ W hbld
        rw [Lib.byteCells_length] at hLen
        have hStr := Any.Builder_String_any_k CV pc bb bb (fB l) W hbld (Nat.le_of_lt (tI hbld))
        gi_wp2_with first
          | (refine ⟨trivial, ?_⟩; gi_at_call 29; refine (callsIn_wide.2 hLen).mono ?_; rintro e w' ⟨rfl, rfl⟩)
          | (refine ⟨trivial, ?_⟩; gi_at_call 30; refine (callsIn_wide.2 hStr).mono ?_; rintro e W5 ⟨rfl, _, hb5, ho5⟩)
        · exact qQ w.heap.size (fun W => results_tmp2 rfl _ _ _) (fun W => Below w.heap.size w W) (fun W D h1 h2 => dr h2 h1 _) (fun W h => ⟨rfl, h⟩) Ds _ qj hds hlow
        · exact qQ w.heap.size (fun W => results_tmp2 rfl _ _ _) (fun W => Below w.heap.size w W) (fun W D h1 h2 => dr h2 h1 _) (fun W h => ⟨rfl, h⟩) Ds W5 qj (fun D hD => ⟨(hds D hD).1, ho5 _ _ (hds D hD).2 (fun e => by
            cases e
            rcases hbld with ⟨_, v, h2, _⟩ | ⟨_, v, h2, _⟩ <;> (rw [(hds _ hD).2] at h2; cases h2)) (rG _)⟩) (hlow.trans (hb5.mono hwb))
end Go.Plb.Seat
namespace Go.Plb.Seat
open Go Go.Plb Go.Proofs Go.RowKit
set_option maxRecDepth 100000
set_option linter.unusedSimpArgs false
set_option linter.unusedVariables false
theorem gQ{ρ:ae}{W:World}{k:IntKind}{n:Int}{u:Value}(h:VR ρ W (.int k n) u) :u=.int k n:=by cases h;rfl
theorem Ag{ρ:ae}{W:World}{lv:Lv}{ws:List Int}{len:Nat}(hlen:len=ws.length){v:Value}(hv:VR ρ W (.imm lv (.ns .u64 ws) 1 1 0 len) v) :VR ae.none_ W (eW ws) v:=by
  have av:∀ bl,ae.none_.avoid .free bl:=fun bl j _=>by cases j<;>exact fun h=>h
  generalize hA:AV.imm lv (.ns .u64 ws) 1 1 0 len=A at hv
  cases hv with
  | imm bw d k es i len' cap bl o u ha hb hc hv hl hr hk hg =>
    cases hA
    subst hlen
    refine .imm .free (.ns .u64 ws) 1 1 0 ws.length cap bl o u (av bl) hb hc (fun x v hx=>?_) hl trivial (fun _=>rfl) rfl
    have h1:=hv x v hx
    simp only [aj.cell?,Option.map_eq_some_iff] at hx
    obtain ⟨z,_,rfl⟩:=hx
    rw [gQ h1]
    exact .int _ _
  | immEnd bw d k es i cap a hr hk hg =>
    simp only [AV.imm.injEq] at hA
    obtain ⟨_,_,_,_,_,h0⟩:=hA
    subst h0
    show VR ae.none_ W (.imm .free (.ns .u64 ws) 1 1 0 ws.length) _
    rw [←hlen]
    exact .immEnd _ _ _ _ _ _ _ trivial (fun _=>rfl) rfl
  | _=>cases hA
def IR(d:aj)(l:List sN) :Prop:=∀ i a,l[i]? = some a→∃ lv,d.cell? (i*6)=some (.int .i64 a.k)∧d.cell? (i*6+1)=some (.int .i64 a.m)∧d.cell? (i*6+2)=some (.int .i64 a.n) ∧
  d.cell? (i*6+3)=some (.imm lv (.ns .u64 a.ws) 1 1 0 a.ws.length)∧d.cell? (i*6+4)=some (.int .i64 a.y)∧d.cell? (i*6+5)=some (.int .u64 a.t)
theorem GA(bw:Lv)(d:aj)(k es:Nat)(l:List sN)(hd:IR d l)(hl:l.length≤1000000000) :am prog eS [] [.imm bw d k es 0 l.length] ⟨.tup [.str (sO l),.int .i64 (sP l)],[]⟩:=by
  refine bB ⟨FN eS,by kernel_rfl,by kernel_rfl⟩ fun ρ w us hN hv=>?_
  cases hv with | cons _ u _ _ h1 h2 =>
  cases h2
  have key:∃ p bl o cap,u=.slice p l.length cap∧(1≤l.length→p=some ⟨bl,o,none⟩)∧tG w bl o l:=by
    generalize hA:AV.imm bw d k es 0 l.length=A at h1
    cases h1 with
    | imm bw d k es i len cap bl o u ha hb hc hv hl hr hk hg =>
      cases hA
      refine ⟨_,bl,o+0*k,cap,rfl,fun _=>rfl,fun i a hi=>?_⟩
      obtain ⟨lv,g0,g1,g2,g3,g4,g5⟩:=hd i a hi
      refine ⟨u (i*6+3),?_,?_,?_,?_,?_,?_,Ag rfl (hv _ _ g3),hb⟩
      · have:=hc _ _ g0;rw [gQ (hv _ _ g0)] at this;rw [show o+0*k+i*6=o+i*6 by omega];exact this
      · have:=hc _ _ g1;rw [gQ (hv _ _ g1)] at this;rw [show o+0*k+i*6+1=o+(i*6+1) by omega];exact this
      · have:=hc _ _ g2;rw [gQ (hv _ _ g2)] at this;rw [show o+0*k+i*6+2=o+(i*6+2) by omega];exact this
      · have:=hc _ _ g3;rw [show o+0*k+i*6+3=o+(i*6+3) by omega];exact this
      · have:=hc _ _ g4;rw [gQ (hv _ _ g4)] at this;rw [show o+0*k+i*6+4=o+(i*6+4) by omega];exact this
      · have:=hc _ _ g5;rw [gQ (hv _ _ g5)] at this;rw [show o+0*k+i*6+5=o+(i*6+5) by omega];exact this
    | immEnd bw d k es i cap a hr hk hg =>
      simp only [AV.imm.injEq] at hA
      obtain ⟨_,_,_,_,_,h0⟩:=hA
      rw [h0]
      refine ⟨a,0,0,cap,rfl,fun h=>by omega,fun i a hi=>?_⟩
      have:=(List.getElem?_eq_some_iff.1 hi).1
      omega
    | _=>cases hA
  obtain ⟨p,bl,o,cap,rfl,hp,hA⟩:=key
  refine (Ez bl o cap l hl w hN.romOk hA p hp).mono ?_
  rintro e w' ⟨rfl,hb⟩
  exact ⟨_,rfl,hb,.tup _ _ (.cons _ _ _ _ (.str _) (.cons _ _ _ _ (.int _ _) .nil))⟩
def Db:aH:=⟨eS,fun lent args=>match lent,args with
  | [],[.imm bw (.vs [.int .i64 k,.int .i64 m,.int .i64 n,.imm lv (.ns .u64 ws) 1 1 0 len,.int .i64 y,.int .u64 t]) 1 6 0 1] =>
    some [⟨⟨.tup [.str (sO [⟨k,m,n,ws,y,t⟩]),.int .i64 (sP [⟨k,m,n,ws,y,t⟩])],[]⟩,[Nat.beq len ws.length]⟩]
  | _,_=>none⟩
theorem FJ:aL prog Db:=by
  intro lent args alts a h ha ho
  simp only [Db] at h
  split at h
  · simp only [Option.some.injEq] at h;subst h
    simp only [List.mem_singleton] at ha;subst ha
    rename_i bw k m n lv ws len y t
    have hlen:len=ws.length:=Nat.eq_of_beq_eq_true ho.1
    subst hlen
    refine GA bw _ 1 6 [⟨k,m,n,ws,y,t⟩] (fun i a hi=>?_) (show 1≤1000000000 by omega)
    cases i with
    | zero=>cases hi;exact ⟨lv,rfl,rfl,rfl,rfl,rfl,rfl⟩
    | succ i=>simp at hi
  · cases h
end Go.Plb.Seat
namespace Go.Plb.Seat
open Go Go.Plb
set_option linter.unusedSimpArgs false
set_option linter.unusedVariables false
set_option maxRecDepth 100000
noncomputable def Km:List aH:=Db::Kk
theorem Jo:aZ prog (bf Km):=aq FJ ve
def Le:Option (mb×List Bool×cZ)→Bool
  | some (⟨.bool _ true,[]⟩,o,_)=>GU o
  | _=>false
theorem IS{r:Option (mb×List Bool×cZ)}(h:Le r=true) :∃ k o p,r=some (⟨.bool k true,[]⟩,o,p)∧ak o:=by
  unfold Le at h
  split at h
  · exact ⟨_,_,_,rfl,BJ h⟩
  · cases h
theorem Hs:Le (BQ C0 (bf Km) (nj C0 (bf Km) 50 100) nL [] [] none)=true:=by kernel_rfl
theorem Jp:am prog nL [] [] ⟨.bool false true,[]⟩:=by
  obtain ⟨k,o,p,h,ho⟩:=IS Hs
  exact (am.run JO Jo none _ _ h ho).weak (Fk _ _ _)
def Dc:aH:=⟨nL,fun L args=>match L,args with | [],[]=>one (.bool false true) [] | _,_=>none⟩
theorem FK:aL prog Dc:=by
  intro L args alts a h ha ho
  simp only [Dc] at h
  split at h
  · exact G6 h ha ho fun q=>Jp
  · cases h
end Go.Plb.Seat
namespace Go.Plb.Seat
open Go Go.Plb
noncomputable def KP:List aH:=Dc::sM
theorem GB:aZ prog (bf KP):=aq FK wA
end Go.Plb.Seat
namespace Go.Plb.Seat
open Go Go.Plb
set_option linter.unusedVariables false
set_option maxRecDepth 100000
noncomputable section
inductive aE where
  | r0 (i1:Int)
def lK:aE→AE×aA
  | .r0 i1=>(.ret,⟨ap 143 [(4,.int .i64 i1)],[],0⟩)
def cD:aE→mb
  | .r0 i1=>⟨.int .i64 i1,[]⟩
def lu(s_0:ByteArray)(substr_1:ByteArray) :T ((Empty)⊕(aE)) :=
  .ask (((substr_1.size:Nat):Int)==(0:Int))
    (.leaf (.inr (.r0 (0:Int))))
    (.ask (substr_1.toList==s_0.toList)
      (.leaf (.inr (.r0 (0:Int))))
      (.ask (((substr_1.size:Nat):Int)==(1:Int))
        (.need (vR (0:Int) substr_1.size)<|.leaf (.inr (.r0 (I7 s_0 (cg substr_1 0)))))
        (.ask (decide (((substr_1.size:Nat):Int)≥((s_0.size:Nat):Int)))
          (.leaf (.inr (.r0 (-1:Int))))
          (.fail))))
noncomputable def ah(s_0:ByteArray)(substr_1:ByteArray) :Option aE:=uZ ((lu s_0 substr_1).run)
theorem lw(s_0:ByteArray)(substr_1:ByteArray){x:aE}(h:ah s_0 substr_1=some x) :am prog eC [] [.str s_0,.str substr_1] (cD x) :=
  yB false cD lK h (cN GB vS [⟨[],[],[4]⟩,⟨[],[],[4]⟩,⟨[],[],[4]⟩,⟨[],[],[4]⟩])
    (fun x=>by cases x with | r0 i1=>exact qj [.int .i64 i1])
def aM:Option aE→Bool
  | some _=>true
  | none=>false
def ai:Option aE→Int
  | some (.r0 x)=>x
  | _=>0
theorem lx{x:Option aE}(h:aM x=true) :x=some (.r0 (ai x)):=by
  unfold aM at h
  split at h<;>first | rfl | (cases h;done) | (rename_i y;cases y;rfl)
noncomputable def eH:aH:=db eC (.cons .str (.cons .str .nil)) fun t=>(fun q=>[⟨cD (.r0 (ai q)),[aM q]⟩]) (ah t.1 t.2.1)
theorem kr:aL prog eH:=aP fun t=>(ba (fun h=>lw t.1 t.2.1 (lx h)) bF)
noncomputable def eI:List aH:=eH::KP
theorem bZ:aZ prog (bf eI):=aq kr GB
inductive bE where
  | r0 (i3:Int)
def js:bE→AE×aA
  | .r0 i3=>(.ret,⟨ap 34 [(4,.int .i64 i3)],[],0⟩)
theorem oz:qi js:=by intro x;cases x<;>(intro h;cases h)
theorem wF(id:Nat) :rI id js:=by intro x;cases x<;>(intro h;cases h)
def lL:bE→mb
  | .r0 i3=>⟨.int .i64 i3,[]⟩
noncomputable def wG:List Code:=dn (tA lI)
def wH(s_0:ByteArray)(substr_1:ByteArray)(_:Unit) :aA:=⟨ap 34 [(0,.str s_0),(1,.str substr_1),(5,.int .i64 (0:Int))],[],0⟩
def wI(s_0:ByteArray)(substr_1:ByteArray) :T ((Unit)⊕(bE)) :=
  .ask (((substr_1.size:Nat):Int)==(0:Int))
    (.fail)
    (.ask (((substr_1.size:Nat):Int)==(1:Int))
      (.need (vR (0:Int) substr_1.size)<|.leaf (.inr (.r0 (I8 s_0 (cg substr_1 0)))))
      (.leaf (.inl ())))
def gR(substr_1:ByteArray) :ByteArray×Nat→aA:=fun (s1,n2)=>⟨ap 34 [(0,.str s1),(1,.str substr_1),(5,.int .i64 ((n2:Nat):Int))],[],0⟩
noncomputable def wJ:List Code:=dn (mH (((wG.drop 6)).headD .skip))
def wK(substr_1:ByteArray)(s1:ByteArray)(n2:Nat) :T ((ByteArray×Nat)⊕((Empty)⊕(bE))) :=
  .need (aM (ah s1 substr_1))<|.ask ((ai (ah s1 substr_1))==(-1:Int))
    (.leaf (.inr (.inr (.r0 ((n2:Nat):Int)))))
    (.need (kp .i64 (((n2+1):Nat):Int))<|.need (kp .i64 ((ai (ah s1 substr_1))+((substr_1.size:Nat):Int)))<|.need (lW ((s1.size:Nat):Int) s1.size)<|.need (lW ((ai (ah s1 substr_1))+((substr_1.size:Nat):Int)) s1.size)<|.leaf (.inl ((s1.extract (Int.toNat ((ai (ah s1 substr_1))+((substr_1.size:Nat):Int))) s1.size),(n2+1))))
noncomputable def kF(substr_1:ByteArray) :ByteArray×Nat→Option ((ByteArray×Nat)⊕((Empty)⊕(bE))):=fun (s1,n2) =>
  (wK substr_1 s1 n2).run
theorem wL(substr_1:ByteArray)(s1:ByteArray)(n2:Nat) :Sg prog [] wJ (gR substr_1 (s1,n2)) (kF substr_1 (s1,n2)) (gR substr_1) (gY (ρ:=Empty) 0 (fun a=>a.elim) js):=by
  unfold kF;exact cN bZ (gR substr_1) [⟨[],[],[4]⟩,⟨[],[],[0,1,5]⟩]
noncomputable def eJ(s_0:ByteArray)(substr_1:ByteArray) :Option bE:=uZ (bg ((wI s_0 substr_1).run) fun _ =>
  dN (kF substr_1) (s_0,0))
theorem wM(s_0:ByteArray)(substr_1:ByteArray){x:bE}(h:eJ s_0 substr_1=some x) :am prog lI [] [.str s_0,.str substr_1] (lL x) :=
  yB false lL js h (Sg.cut 6 oz (cN bZ (wH s_0 substr_1) [⟨[],[],[4]⟩,⟨[],[],[0,1,5]⟩]) (fun _=>Kc ⟨[],[],[0,1,5]⟩ (gR substr_1) (fun a:Empty=>a.elim) 0 oz (wF _) (fun ⟨s1,n2⟩=>wL substr_1 s1 n2)))
    (fun x=>by cases x with | r0 i3=>exact qj [.int .i64 i3])
def gS:Option bE→Bool
  | some _=>true
  | none=>false
def ee:Option bE→Int
  | some (.r0 x)=>x
  | _=>0
theorem wN{x:Option bE}(h:gS x=true) :x=some (.r0 (ee x)):=by
  unfold gS at h
  split at h<;>first | rfl | (cases h;done) | (rename_i y;cases y;rfl)
noncomputable def pM:aH:=db lI (.cons .str (.cons .str .nil)) fun t=>(fun q=>[⟨lL (.r0 (ee q)),[gS q]⟩]) (eJ t.1 t.2.1)
theorem tJ:aL prog pM:=aP fun t=>(ba (fun h=>wM t.1 t.2.1 (wN h)) bF)
noncomputable def pN:List aH:=pM::eI
theorem de:aZ prog (bf pN):=aq tJ bZ
inductive aC where
  | r0 (a11:Nat) (a12:Nat) (l13:List ByteArray)
def ef:aC→AE×aA
  | .r0 a11 a12 l13=>(.ret,⟨ap 66 [(8,.sl 0 1 1 0 a11 a12)],[(0,.ss l13)],1⟩)
theorem dD:qi ef:=by intro x;cases x<;>(intro h;cases h)
theorem rJ(id:Nat) :rI id ef:=by intro x;cases x<;>(intro h;cases h)
def jx:aC→mb
  | .r0 a11 a12 l13=>⟨.sl 0 1 1 0 a11 a12,[some (.ss l13)]⟩
noncomputable def rK:List Code:=dn (tA jt)
def rL(s_0:ByteArray)(sep_1:ByteArray)(sepSave_2:Int)(n1:Int) :aA:=⟨ap 66 [(0,.str s_0),(1,.str sep_1),(2,.int .i64 sepSave_2),(3,.int .i64 n1)],[],0⟩
def rM(s_0:ByteArray)(sep_1:ByteArray)(n_3:Int) :T ((Int)⊕(aC)) :=
  .ask (n_3==(0:Int))
    (.leaf (.inr (.r0 0 0 ([]:List ByteArray))))
    (.ask (sep_1.toList==ByteArray.empty.toList)
      (.fail)
      (.ask (decide (n_3<(0:Int)))
        (.need (gS (eJ s_0 sep_1))<|.need (kp .i64 ((ee (eJ s_0 sep_1))+(1:Int)))<|.leaf (.inl ((ee (eJ s_0 sep_1))+(1:Int))))
        (.leaf (.inl n_3))))
def rN(s_0:ByteArray)(sep_1:ByteArray)(sepSave_2:Int) :Int×Nat×(List ByteArray)→aA:=fun (n2,a3,l4)=>⟨ap 66 [(0,.str s_0),(1,.str sep_1),(2,.int .i64 sepSave_2),(3,.int .i64 n2),(9,.sl 0 1 1 0 a3 a3),(10,.int .i64 (0:Int))],[(0,.ss l4)],1⟩
def rO(s_0:ByteArray)(n1:Int) :T ((Int×Nat×(List ByteArray))⊕(aC)) :=
  .need (kp .i64 (((s_0.size+1):Nat):Int))<|.need (decide ((0:Int)≤(kq n1 (((s_0.size+1):Nat):Int))))<|.need (decide ((kq n1 (((s_0.size+1):Nat):Int))≤(kq n1 (((s_0.size+1):Nat):Int))))<|.need (decide ((16:Int)*(kq n1 (((s_0.size+1):Nat):Int))≤140737488355328))<|.need (kp .i64 (kq n1 (((s_0.size+1):Nat):Int)))<|.need (kp .i64 ((kq n1 (((s_0.size+1):Nat):Int))-(1:Int)))<|.leaf (.inl (((kq n1 (((s_0.size+1):Nat):Int))-(1:Int)),(Int.toNat (kq n1 (((s_0.size+1):Nat):Int))),(List.replicate (Int.toNat (kq n1 (((s_0.size+1):Nat):Int))) ByteArray.empty)))
def dE(sep_1:ByteArray)(sepSave_2:Int)(n2:Int)(a3:Nat) :ByteArray×Nat×(List ByteArray)→aA:=fun (s5,i6,l7)=>⟨ap 66 [(0,.str s5),(1,.str sep_1),(2,.int .i64 sepSave_2),(3,.int .i64 n2),(9,.sl 0 1 1 0 a3 a3),(10,.int .i64 ((i6:Nat):Int))],[(0,.ss l7)],1⟩
def lR(a3:Nat) :ByteArray×Nat×(List ByteArray)→aA:=fun (s8,i9,l10)=>⟨ap 66 [(0,.str s8),(9,.sl 0 1 1 0 a3 a3),(10,.int .i64 ((i9:Nat):Int))],[(0,.ss l10)],1⟩
noncomputable def qR:List Code:=dn (mH (((((rK.drop 7).drop 4).take 1)).headD .skip))
def qS(sep_1:ByteArray)(sepSave_2:Int)(n2:Int)(a3:Nat)(s5:ByteArray)(i6:Nat)(l7:List ByteArray) :T ((ByteArray×Nat×(List ByteArray))⊕((ByteArray×Nat×(List ByteArray))⊕(aC))) :=
  .ask (decide (((i6:Nat):Int)<n2))
    (.need (aM (ah s5 sep_1))<|.ask (decide ((ai (ah s5 sep_1))<(0:Int)))
      (.leaf (.inr (.inl (s5,i6,l7))))
      (.need (kp .i64 ((ai (ah s5 sep_1))+sepSave_2))<|.need (lW ((ai (ah s5 sep_1))+sepSave_2) s5.size)<|.need (lW (0:Int) (Int.toNat ((ai (ah s5 sep_1))+sepSave_2)))<|.need (vR ((i6:Nat):Int) a3)<|.need (mA i6 (List.length l7))<|.need (kp .i64 ((ai (ah s5 sep_1))+((sep_1.size:Nat):Int)))<|.need (lW ((s5.size:Nat):Int) s5.size)<|.need (lW ((ai (ah s5 sep_1))+((sep_1.size:Nat):Int)) s5.size)<|.need (kp .i64 (((i6+1):Nat):Int))<|.leaf (.inl ((s5.extract (Int.toNat ((ai (ah s5 sep_1))+((sep_1.size:Nat):Int))) s5.size),(i6+1),(List.set l7 i6 (s5.extract 0 (Int.toNat ((ai (ah s5 sep_1))+sepSave_2))))))))
    (.leaf (.inr (.inl (s5,i6,l7))))
noncomputable def fC(sep_1:ByteArray)(sepSave_2:Int)(n2:Int)(a3:Nat) :ByteArray×Nat×(List ByteArray)→Option ((ByteArray×Nat×(List ByteArray))⊕((ByteArray×Nat×(List ByteArray))⊕(aC))):=fun (s5,i6,l7) =>
  (qS sep_1 sepSave_2 n2 a3 s5 i6 l7).run
theorem qT(sep_1:ByteArray)(sepSave_2:Int)(n2:Int)(a3:Nat)(s5:ByteArray)(i6:Nat)(l7:List ByteArray) :Sg prog [] qR (dE sep_1 sepSave_2 n2 a3 (s5,i6,l7)) (fC sep_1 sepSave_2 n2 a3 (s5,i6,l7)) (dE sep_1 sepSave_2 n2 a3) (gY 0 (lR a3) ef):=by
  unfold fC;exact cN de (dE sep_1 sepSave_2 n2 a3) [⟨[],[0],[0,9,10]⟩,⟨[],[0],[0,1,2,3,9,10]⟩,⟨[],[0],[0,9,10]⟩]
def qU(a3:Nat)(s8:ByteArray)(i9:Nat)(l10:List ByteArray) :T ((Empty)⊕(aC)) :=
  .need (vR ((i9:Nat):Int) a3)<|.need (mA i9 (List.length l10))<|.need (kp .i64 (((i9+1):Nat):Int))<|.need (lW (((i9+1):Nat):Int) a3)<|.need (lW (0:Int) (i9+1))<|.leaf (.inr (.r0 (i9+1) a3 (List.set l10 i9 s8)))
noncomputable def aT(s_0:ByteArray)(sep_1:ByteArray)(sepSave_2:Int)(n_3:Int) :Option aC:=uZ (bg ((rM s_0 sep_1 n_3).run) fun n1 =>
  bg ((rO s_0 n1).run) fun (n2,a3,l4) =>
  bg (dN (fC sep_1 sepSave_2 n2 a3) (s_0,0,l4)) fun (s8,i9,l10) =>
  (qU a3 s8 i9 l10).run)
theorem rP(s_0:ByteArray)(sep_1:ByteArray)(sepSave_2:Int)(n_3:Int){x:aC}(h:aT s_0 sep_1 sepSave_2 n_3=some x) :am prog jt [] [.str s_0,.str sep_1,.int .i64 sepSave_2,.int .i64 n_3] (jx x) :=
  yB false jx ef h (Sg.cut 7 dD (cN de (rL s_0 sep_1 sepSave_2) [⟨[(.slot 8,.own 1 1 (.ss ([]:List ByteArray)))],[64],[8]⟩,⟨[],[],[0,1,2,3]⟩,⟨[],[],[0,1,2,3]⟩]) (fun n1=>Sg.cut 4 dD (cN de (rN s_0 sep_1 sepSave_2) [⟨[],[112],[0,1,2,3,9,10]⟩]) (fun ⟨n2,a3,l4⟩=>Sg.cut 1 dD (Kc ⟨[],[0],[0,1,2,3,9,10]⟩ (dE sep_1 sepSave_2 n2 a3) (lR a3) 0 dD (rJ _) (fun ⟨s5,i6,l7⟩=>qT sep_1 sepSave_2 n2 a3 s5 i6 l7)) (fun ⟨s8,i9,l10⟩=>cN de vS [⟨[],[0],[8]⟩]))))
    (fun x=>by cases x with | r0 a11 a12 l13=>exact qj [.sl 0 1 1 0 a11 a12])
def cE:Option aC→Bool
  | some _=>true
  | none=>false
def dk:Option aC→Nat
  | some (.r0 x _ _)=>x
  | _=>0
def dl:Option aC→Nat
  | some (.r0 _ x _)=>x
  | _=>0
def dm:Option aC→List ByteArray
  | some (.r0 _ _ x)=>x
  | _=>[]
theorem rQ{x:Option aC}(h:cE x=true) :x=some (.r0 (dk x) (dl x) (dm x)):=by
  unfold cE at h
  split at h<;>first | rfl | (cases h;done) | (rename_i y;cases y;rfl)
noncomputable def mN:aH:=db jt (.cons .str (.cons .str (.cons (.int .i64) (.cons (.int .i64) .nil)))) fun t=>(fun q=>[⟨jx (.r0 (dk q) (dl q) (dm q)),[cE q]⟩]) (aT t.1 t.2.1 t.2.2.1 t.2.2.2.1)
theorem qd:aL prog mN:=aP fun t=>(ba (fun h=>rP t.1 t.2.1 t.2.2.1 t.2.2.2.1 (rQ h)) bF)
noncomputable def mO:List aH:=mN::pN
theorem bH:aZ prog (bf mO):=aq qd de
inductive aD where
  | r0 (i5:Int) (i6:Int) (i7:Int)
def mP:aD→AE×aA
  | .r0 i5 i6 i7=>(.ret,⟨ap 37 [(4,.ptr 0 1 0 0)],[(0,.vs [.int .i64 i5,.int .i64 (0:Int),.int .i64 (0:Int),.nsl,.int .i64 i6,.int .u64 i7])],1⟩)
theorem dF:qi mP:=by intro x;cases x<;>(intro h;cases h)
def jy:aD→mb
  | .r0 i5 i6 i7=>⟨.agg [.int .i64 i5,.int .i64 (0:Int),.int .i64 (0:Int),.nsl,.int .i64 i6,.int .u64 i7],[]⟩
def rR(v_0:Lv)(w_1:List ByteArray)(i_3:Int)(v_4:Lv)(s_5:ByteArray)(i_6:Int)(b_7:Bool)(b_8:Bool)(b1:Bool) :aA:=⟨ap 37 [(0,.imm v_0 (.ss w_1) 1 1 0 (List.length w_1)),(2,.iptr v_4 (.vs [.str s_5,.int .i64 i_6,.bool false b_7,.bool false b_8]) 1 0 0),(4,.ptr 0 1 0 0),(5,.ptr 1 1 0 0),(15,.bool false b1)],[(0,.vs [.int .i64 (0:Int),.int .i64 (0:Int),.int .i64 (0:Int),.nsl,.int .i64 (0:Int),.int .u64 (0:Int)]),(1,.vs [.int .i64 i_3,.int .i64 (0:Int),.int .i64 (0:Int),.nsl,.int .i64 (0:Int),.int .u64 (0:Int)])],2⟩
def rS(w_1:List ByteArray)(i_6:Int) :T ((Bool)⊕(aD)) :=
  .ask (decide (i_6>(0:Int)))
    (.leaf (.inl (decide ((((List.length w_1):Nat):Int)>(0:Int)))))
    (.leaf (.inl false))
def rT(v_0:Lv)(w_1:List ByteArray)(i_3:Int)(v_4:Lv)(s_5:ByteArray)(i_6:Int)(b_7:Bool)(b_8:Bool)(i2:Int) :aA:=⟨ap 37 [(0,.imm v_0 (.ss w_1) 1 1 0 (List.length w_1)),(2,.iptr v_4 (.vs [.str s_5,.int .i64 i_6,.bool false b_7,.bool false b_8]) 1 0 0),(4,.ptr 0 1 0 0),(5,.ptr 1 1 0 0)],[(0,.vs [.int .i64 (0:Int),.int .i64 (0:Int),.int .i64 (0:Int),.nsl,.int .i64 (0:Int),.int .u64 (0:Int)]),(1,.vs [.int .i64 i_3,.int .i64 (0:Int),.int .i64 (0:Int),.nsl,.int .i64 i2,.int .u64 (0:Int)])],2⟩
def rU(w_1:List ByteArray)(b1:Bool) :T ((Int)⊕(aD)) :=
  .ask b1
    (.need (vR (0:Int) (List.length w_1))<|.need (mA 0 (List.length w_1))<|.need (fw (List.getD w_1 0 ByteArray.empty).size)<|.leaf (.inl (dV (List.getD w_1 0 ByteArray.empty))))
    (.leaf (.inl (0:Int)))
def rV(v_0:Lv)(w_1:List ByteArray)(i_3:Int)(i2:Int)(b3:Bool) :aA:=⟨ap 37 [(0,.imm v_0 (.ss w_1) 1 1 0 (List.length w_1)),(4,.ptr 0 1 0 0),(5,.ptr 1 1 0 0),(27,.bool false b3)],[(0,.vs [.int .i64 (0:Int),.int .i64 (0:Int),.int .i64 (0:Int),.nsl,.int .i64 (0:Int),.int .u64 (0:Int)]),(1,.vs [.int .i64 i_3,.int .i64 (0:Int),.int .i64 (0:Int),.nsl,.int .i64 i2,.int .u64 (0:Int)])],2⟩
def rW(w_1:List ByteArray)(b_7:Bool) :T ((Bool)⊕(aD)) :=
  .ask b_7
    (.leaf (.inl (decide ((((List.length w_1):Nat):Int)>(1:Int)))))
    (.leaf (.inl false))
def rX(i_3:Int)(i2:Int)(i4:Int) :aA:=⟨ap 37 [(4,.ptr 0 1 0 0),(5,.ptr 1 1 0 0)],[(0,.vs [.int .i64 (0:Int),.int .i64 (0:Int),.int .i64 (0:Int),.nsl,.int .i64 (0:Int),.int .u64 (0:Int)]),(1,.vs [.int .i64 i_3,.int .i64 (0:Int),.int .i64 (0:Int),.nsl,.int .i64 i2,.int .u64 i4])],2⟩
def rY(w_1:List ByteArray)(b3:Bool) :T ((Int)⊕(aD)) :=
  .ask b3
    (.need (vR (1:Int) (List.length w_1))<|.need (mA 1 (List.length w_1))<|.need (fw (List.getD w_1 1 ByteArray.empty).size)<|.leaf (.inl (lQ (List.getD w_1 1 ByteArray.empty))))
    (.leaf (.inl (0:Int)))
def qV(i_3:Int)(i2:Int)(i4:Int) :T ((Empty)⊕(aD)) :=
  .leaf (.inr (.r0 i_3 i2 i4))
noncomputable def ck(w_1:List ByteArray)(i_3:Int)(i_6:Int)(b_7:Bool) :Option aD:=uZ (bg ((rS w_1 i_6).run) fun b1 =>
  bg ((rU w_1 b1).run) fun i2 =>
  bg ((rW w_1 b_7).run) fun b3 =>
  bg ((rY w_1 b3).run) fun i4 =>
  (qV i_3 i2 i4).run)
theorem rZ(v_0:Lv)(w_1:List ByteArray)(v_2:Lv)(i_3:Int)(v_4:Lv)(s_5:ByteArray)(i_6:Int)(b_7:Bool)(b_8:Bool){x:aD}(h:ck w_1 i_3 i_6 b_7=some x) :am prog ch [] [.imm v_0 (.ss w_1) 1 1 0 (List.length w_1),.iptr v_2 (.vs [.int .i64 i_3]) 1 0 0,.iptr v_4 (.vs [.str s_5,.int .i64 i_6,.bool false b_7,.bool false b_8]) 1 0 0] (jy x) :=
  yB false jy mP h (Sg.cut 3 dF (cN bH (rR v_0 w_1 i_3 v_4 s_5 i_6 b_7 b_8) [⟨[],[0,48],[0,2,4,5,15]⟩,⟨[],[0,48],[0,2,4,5,15]⟩]) (fun b1=>Sg.cut 1 dF (cN bH (rT v_0 w_1 i_3 v_4 s_5 i_6 b_7 b_8) [⟨[],[0,1],[0,2,4,5]⟩,⟨[],[0,1],[0,2,4,5]⟩]) (fun i2=>Sg.cut 1 dF (cN bH (rV v_0 w_1 i_3 i2) [⟨[],[0,1],[0,4,5,27]⟩,⟨[],[0,1],[0,4,5,27]⟩]) (fun b3=>Sg.cut 1 dF (cN bH (rX i_3 i2) [⟨[],[0,1],[4,5]⟩,⟨[],[0,1],[4,5]⟩]) (fun i4=>cN bH vS [⟨[],[0],[4]⟩])))))
    (fun x=>by cases x with | r0 i5 i6 i7=>exact qj [.agg [.int .i64 i5,.int .i64 (0:Int),.int .i64 (0:Int),.nsl,.int .i64 i6,.int .u64 i7]])
def dG:Option aD→Bool
  | some _=>true
  | none=>false
def eX:Option aD→Int
  | some (.r0 x _ _)=>x
  | _=>0
def eY:Option aD→Int
  | some (.r0 _ x _)=>x
  | _=>0
def eZ:Option aD→Int
  | some (.r0 _ _ x)=>x
  | _=>0
theorem sa{x:Option aD}(h:dG x=true) :x=some (.r0 (eX x) (eY x) (eZ x)):=by
  unfold dG at h
  split at h<;>first | rfl | (cases h;done) | (rename_i y;cases y;rfl)
noncomputable def mQ:aH:=db ch (.cons .ss (.cons (.ivs (.cons (.int .i64) .nil) 1 0 0) (.cons (.ivs (.cons .str (.cons (.int .i64) (.cons .bool (.cons .bool .nil)))) 1 0 0) .nil))) fun t=>(fun q=>[⟨jy (.r0 (eX q) (eY q) (eZ q)),[dG q]⟩]) (ck t.1.2 t.2.1.2.1 t.2.2.1.2.2.1 t.2.2.1.2.2.2.1)
theorem qe:aL prog mQ:=aP fun t=>(ba (fun h=>rZ t.1.1 t.1.2 t.2.1.1 t.2.1.2.1 t.2.2.1.1 t.2.2.1.2.1 t.2.2.1.2.2.1 t.2.2.1.2.2.2.1 t.2.2.1.2.2.2.2.1 (sa h)) bF)
noncomputable def mR:List aH:=mQ::mO
theorem bI:aZ prog (bf mR):=aq qe bH
inductive aJ where
  | r0 (a13:Nat) (i14:Int) (i15:Int) (i17:Int)
def pO:aJ→AE×aA
  | .r0 a13 i14 i15 i17=>(.ret,⟨ap 32 [(2,.ptr 0 1 0 0),(3,.int .i64 ((a13:Nat):Int))],[(0,.vs [.int .i64 i14,.int .i64 (0:Int),.int .i64 (0:Int),.nsl,.int .i64 i15,.int .u64 i17])],1⟩)
theorem gT:qi pO:=by intro x;cases x<;>(intro h;cases h)
def lM:aJ→mb
  | .r0 a13 i14 i15 i17=>⟨.tup [.agg [.int .i64 i14,.int .i64 (0:Int),.int .i64 (0:Int),.nsl,.int .i64 i15,.int .u64 i17],.int .i64 ((a13:Nat):Int)],[]⟩
def wO(s_0:ByteArray) :Nat×Nat×(List ByteArray)→aA:=fun (w1,w2,l3)=>⟨ap 32 [(0,.str s_0),(2,.ptr 0 1 0 0),(4,.sl 1 1 1 0 w1 w2)],[(0,.vs [.int .i64 (0:Int),.int .i64 (0:Int),.int .i64 (0:Int),.nsl,.int .i64 (0:Int),.int .u64 (0:Int)]),(1,.ss l3)],2⟩
def wP(s_0:ByteArray) :T ((Nat×Nat×(List ByteArray))⊕(aJ)) :=
  .need (cE (aT s_0 (ByteArray.mk #[32]) (0:Int) (-1:Int)))<|.leaf (.inl ((dk (aT s_0 (ByteArray.mk #[32]) (0:Int) (-1:Int))),(dl (aT s_0 (ByteArray.mk #[32]) (0:Int) (-1:Int))),(dm (aT s_0 (ByteArray.mk #[32]) (0:Int) (-1:Int)))))
def wQ(s_0:ByteArray)(w1:Nat)(w2:Nat)(l3:List ByteArray) :Nat×ByteArray×Nat×Bool×Bool→aA:=fun (read4,read5,read6,read7,read8)=>⟨ap 32 [(0,.str s_0),(2,.ptr 0 1 0 0),(4,.sl 1 1 1 0 w1 w2),(5,.fn (.func ch) [] [.iptr .free (.vs [.int .i64 ((read4:Nat):Int)]) 1 0 0,.iptr .free (.vs [.str read5,.int .i64 ((read6:Nat):Int),.bool false read7,.bool false read8]) 1 0 0])],[(0,.vs [.int .i64 (0:Int),.int .i64 (0:Int),.int .i64 (0:Int),.nsl,.int .i64 (0:Int),.int .u64 (0:Int)]),(1,.ss l3)],2⟩
def wR(w1:Nat)(l3:List ByteArray) :T ((Nat×ByteArray×Nat×Bool×Bool)⊕(aJ)) :=
  .need (vR (0:Int) w1)<|.need (mA 0 (List.length l3))<|.alt 0
    (.need (decide ((List.getD l3 0 ByteArray.empty)=(ByteArray.mk #[101,105,103,101,110])))<|.leaf (.inl (1,(ByteArray.mk #[101,105,103,101,110]),3,false,true)))
    (.alt 1
      (.need (decide ((List.getD l3 0 ByteArray.empty)=(ByteArray.mk #[118,97,108,117,101,115])))<|.leaf (.inl (2,(ByteArray.mk #[118,97,108,117,101,115]),0,false,true)))
      (.alt 2
        (.need (decide ((List.getD l3 0 ByteArray.empty)=(ByteArray.mk #[115,118,100])))<|.leaf (.inl (3,(ByteArray.mk #[115,118,100]),2,false,false)))
        (.alt 3
          (.need (decide ((List.getD l3 0 ByteArray.empty)=(ByteArray.mk #[114,97,110,107])))<|.leaf (.inl (4,(ByteArray.mk #[114,97,110,107]),2,true,false)))
          (.alt 4
            (.need (decide ((List.getD l3 0 ByteArray.empty)=(ByteArray.mk #[105,110,118,101,114,115,101])))<|.leaf (.inl (5,(ByteArray.mk #[105,110,118,101,114,115,101]),2,true,false)))
            (.alt 5
              (.need (decide ((List.getD l3 0 ByteArray.empty)=(ByteArray.mk #[99,111,110,100])))<|.leaf (.inl (6,(ByteArray.mk #[99,111,110,100]),2,false,false)))
              (.alt 6
                (.need (!(decide ((List.getD l3 0 ByteArray.empty)=(ByteArray.mk #[101,105,103,101,110]))))<|.need (!(decide ((List.getD l3 0 ByteArray.empty)=(ByteArray.mk #[118,97,108,117,101,115]))))<|.need (!(decide ((List.getD l3 0 ByteArray.empty)=(ByteArray.mk #[115,118,100]))))<|.need (!(decide ((List.getD l3 0 ByteArray.empty)=(ByteArray.mk #[114,97,110,107]))))<|.need (!(decide ((List.getD l3 0 ByteArray.empty)=(ByteArray.mk #[105,110,118,101,114,115,101]))))<|.need (!(decide ((List.getD l3 0 ByteArray.empty)=(ByteArray.mk #[99,111,110,100]))))<|.leaf (.inr (.r0 4 (0:Int) (0:Int) (0:Int))))
                (.fail)))))))
def wS(s_0:ByteArray) :Int×Int×Int→aA:=fun (i9,i10,i11)=>⟨ap 32 [(0,.str s_0),(2,.ptr 0 1 0 0),(6,.ptr 1 1 0 0)],[(0,.vs [.int .i64 (0:Int),.int .i64 (0:Int),.int .i64 (0:Int),.nsl,.int .i64 (0:Int),.int .u64 (0:Int)]),(1,.vs [.int .i64 i9,.int .i64 (0:Int),.int .i64 (0:Int),.nsl,.int .i64 i10,.int .u64 i11])],2⟩
def wT(w1:Nat)(w2:Nat)(l3:List ByteArray)(read4:Nat)(read6:Nat)(read7:Bool) :T ((Int×Int×Int)⊕(aJ)) :=
  .need (lW ((w1:Nat):Int) w2)<|.need (lW (1:Int) w1)<|.need (lG 1 (w1-1) l3)<|.need (dG (ck (cW 1 (w1-1) l3) ((read4:Nat):Int) ((read6:Nat):Int) read7))<|.leaf (.inl ((eX (ck (cW 1 (w1-1) l3) ((read4:Nat):Int) ((read6:Nat):Int) read7)),(eY (ck (cW 1 (w1-1) l3) ((read4:Nat):Int) ((read6:Nat):Int) read7)),(eZ (ck (cW 1 (w1-1) l3) ((read4:Nat):Int) ((read6:Nat):Int) read7))))
def wU(i9:Int)(i10:Int)(i11:Int)(b12:Bool) :aA:=⟨ap 32 [(2,.ptr 0 1 0 0),(6,.ptr 1 1 0 0),(29,.bool false b12)],[(0,.vs [.int .i64 (0:Int),.int .i64 (0:Int),.int .i64 (0:Int),.nsl,.int .i64 (0:Int),.int .u64 (0:Int)]),(1,.vs [.int .i64 i9,.int .i64 (0:Int),.int .i64 (0:Int),.nsl,.int .i64 i10,.int .u64 i11])],2⟩
def wV(s_0:ByteArray)(i9:Int)(i10:Int)(i11:Int) :T ((Bool)⊕(aJ)) :=
  .need (eE (dd i9 i10 i11))<|.ask (!(fg (dd i9 i10 i11)))
    (.leaf (.inl true))
    (.need (fA (dz i9 i10 i11))<|.leaf (.inl (!((gP (dz i9 i10 i11)).toList==s_0.toList))))
def vm(i9:Int)(i10:Int)(i11:Int)(b12:Bool) :T ((Empty)⊕(aJ)) :=
  .ask b12
    (.leaf (.inr (.r0 4 (0:Int) (0:Int) (0:Int))))
    (.leaf (.inr (.r0 0 i9 i10 i11)))
noncomputable def aW(s_0:ByteArray) :Option aJ:=uZ (bg ((wP s_0).run) fun (w1,w2,l3) =>
  bg ((wR w1 l3).run) fun (read4,read5,read6,read7,read8) =>
  bg ((wT w1 w2 l3 read4 read6 read7).run) fun (i9,i10,i11) =>
  bg ((wV s_0 i9 i10 i11).run) fun b12 =>
  (vm i9 i10 i11 b12).run)
theorem wW(s_0:ByteArray){x:aJ}(h:aW s_0=some x) :am prog pA [] [.str s_0] (lM x) :=
  yB false lM pO h (Sg.cut 2 gT (cN bI (wO s_0) [⟨[],[0,48],[0,2,4]⟩]) (fun ⟨w1,w2,l3⟩=>Sg.cut 3 gT (cN bI (wQ s_0 w1 w2 l3) [⟨[],[0,1],[0,2,4,5]⟩,⟨[],[0,1],[0,2,4,5]⟩,⟨[],[0,1],[0,2,4,5]⟩,⟨[],[0,1],[0,2,4,5]⟩,⟨[],[0,1],[0,2,4,5]⟩,⟨[],[0,1],[0,2,4,5]⟩,⟨[],[0],[2,3]⟩]) (fun ⟨read4,read5,read6,read7,read8⟩=>Sg.cut 1 gT (cN bI (wS s_0) [⟨[],[0,66],[0,2,6]⟩]) (fun ⟨i9,i10,i11⟩=>Sg.cut 1 gT (cN bI (wU i9 i10 i11) [⟨[],[0,1],[2,6,29]⟩,⟨[],[0,1],[2,6,29]⟩]) (fun b12=>cN bI vS [⟨[],[0],[2,3]⟩,⟨[],[0],[2,3]⟩])))))
    (fun x=>by cases x with | r0 a13 i14 i15 i17=>exact qj [.agg [.int .i64 i14,.int .i64 (0:Int),.int .i64 (0:Int),.nsl,.int .i64 i15,.int .u64 i17],.int .i64 ((a13:Nat):Int)])
def dP:Option aJ→Bool
  | some _=>true
  | none=>false
def eh:Option aJ→Nat
  | some (.r0 x _ _ _)=>x
  | _=>0
def ei:Option aJ→Int
  | some (.r0 _ x _ _)=>x
  | _=>0
def ek:Option aJ→Int
  | some (.r0 _ _ x _)=>x
  | _=>0
def em:Option aJ→Int
  | some (.r0 _ _ _ x)=>x
  | _=>0
theorem wX{x:Option aJ}(h:dP x=true) :x=some (.r0 (eh x) (ei x) (ek x) (em x)):=by
  unfold dP at h
  split at h<;>first | rfl | (cases h;done) | (rename_i y;cases y;rfl)
noncomputable def pP:aH:=db pA (.cons .str .nil) fun t=>(fun q=>[⟨lM (.r0 (eh q) (ei q) (ek q) (em q)),[dP q]⟩]) (aW t.1)
theorem tK:aL prog pP:=aP fun t=>(ba (fun h=>wW t.1 (wX h)) bF)
noncomputable def pQ:List aH:=pP::mR
theorem en:aZ prog (bf pQ):=aq tK bI
inductive bj where
  | r0 (b3:Bool)
def pR:bj→AE×aA
  | .r0 b3=>(.ret,⟨ap 47 [(2,.bool false b3)],[],0⟩)
theorem oA:qi pR:=by intro x;cases x<;>(intro h;cases h)
def lN:bj→mb
  | .r0 b3=>⟨.bool false b3,[]⟩
def wY(a_0:Int)(a_1:Int)(a_2:Int)(v_3:Lv)(a_4:List Int)(a_5:Int)(a_6:Int)(way1:Nat) :aA:=⟨ap 47 [(1,.ptr 0 1 0 0),(3,.int .i64 ((way1:Nat):Int))],[(0,.vs [.int .i64 a_0,.int .i64 a_1,.int .i64 a_2,.imm v_3 (.ns .u64 a_4) 1 1 0 (List.length a_4),.int .i64 a_5,.int .u64 a_6])],1⟩
def wZ(a_0 : Int)(a_5 : Int)(a_6 : Int) : T ((Nat) ⊕ (bj)) :=
  .ask (a_0==(1:Int))
    (.leaf (.inl 3))
    (.ask (a_0==(2:Int))
      (.ask (a_5==(0:Int))
        (.leaf (.inr (.r0 (a_6==(0:Int)))))
        (.leaf (.inr (.r0 false))))
      (.ask (a_0==(3:Int))
        (.leaf (.inl 2))
        (.ask (a_0==(6:Int))
          (.leaf (.inl 2))
          (.ask (a_0==(4:Int))
            (.leaf (.inl 2))
            (.ask (a_0==(5:Int))
              (.leaf (.inl 2))
              (.leaf (.inr (.r0 false))))))))
def xa(b2:Bool) :aA:=⟨ap 47 [(2,.bool false b2)],[],0⟩
def xb(a_0:Int)(a_5:Int)(a_6:Int)(way1:Nat) :T ((Bool)⊕(bj)) :=
  .ask (decide (a_5≥(1:Int)))
    (.ask (decide (a_5≤((way1:Nat):Int)))
      (.ask (a_6==(0:Int))
        (.leaf (.inl true))
        (.ask (a_0==(4:Int))
          (.leaf (.inl true))
          (.leaf (.inl (a_0==(5:Int))))))
      (.leaf (.inl false)))
    (.leaf (.inl false))
def oB(b2:Bool) :T ((Empty)⊕(bj)) :=
  .leaf (.inr (.r0 b2))
noncomputable def dt(a_0:Int)(a_5:Int)(a_6:Int) :Option bj:=uZ (bg ((wZ a_0 a_5 a_6).run) fun way1 =>
  bg ((xb a_0 a_5 a_6 way1).run) fun b2 =>
  (oB b2).run)
theorem xc(a_0:Int)(a_1:Int)(a_2:Int)(v_3:Lv)(a_4:List Int)(a_5:Int)(a_6:Int){x:bj}(h:dt a_0 a_5 a_6=some x) :am prog pC [] [.agg [.int .i64 a_0,.int .i64 a_1,.int .i64 a_2,.imm v_3 (.ns .u64 a_4) 1 1 0 (List.length a_4),.int .i64 a_5,.int .u64 a_6]] (lN x) :=
  yB false lN pR h (Sg.cut 4 oA (cN en (wY a_0 a_1 a_2 v_3 a_4 a_5 a_6) [⟨[],[0],[1,3]⟩,⟨[],[],[2]⟩,⟨[],[],[2]⟩,⟨[],[0],[1,3]⟩,⟨[],[0],[1,3]⟩,⟨[],[0],[1,3]⟩,⟨[],[0],[1,3]⟩,⟨[],[],[2]⟩]) (fun way1=>Sg.cut 1 oA (cN en xa [⟨[],[],[2]⟩,⟨[],[],[2]⟩,⟨[],[],[2]⟩,⟨[],[],[2]⟩,⟨[],[],[2]⟩]) (fun b2=>cN en vS [⟨[],[],[2]⟩])))
    (fun x=>by cases x with | r0 b3=>exact qj [.bool false b3])
def gU:Option bj→Bool
  | some _=>true
  | none=>false
def jz:Option bj→Bool
  | some (.r0 x)=>x
  | _=>false
theorem xd{x:Option bj}(h:gU x=true) :x=some (.r0 (jz x)):=by
  unfold gU at h
  split at h<;>first | rfl | (cases h;done) | (rename_i y;cases y;rfl)
noncomputable def pS:aH:=db pC (.cons (.agg (.cons (.int .i64) (.cons (.int .i64) (.cons (.int .i64) (.cons (.ns .u64) (.cons (.int .i64) (.cons (.int .u64) .nil))))))) .nil) fun t=>(fun q=>[⟨lN (.r0 (jz q)),[gU q]⟩]) (dt t.1.1 t.1.2.2.2.2.1 t.1.2.2.2.2.2.1)
theorem tL:aL prog pS:=aP fun t=>(ba (fun h=>xc t.1.1 t.1.2.1 t.1.2.2.1 t.1.2.2.2.1.1 t.1.2.2.2.1.2 t.1.2.2.2.2.1 t.1.2.2.2.2.2.1 (xd h)) bF)
noncomputable def pT:List aH:=pS::pQ
theorem ep:aZ prog (bf pT):=aq tL en
inductive bU where
  | r0 (s14:ByteArray)
def mj:bU→AE×aA
  | .r0 s14=>(.ret,⟨ap 20 [(2,.str s14)],[],0⟩)
theorem nT:qi mj:=by intro x;cases x<;>(intro h;cases h)
theorem Bl(id:Nat) :rI id mj:=by intro x;cases x<;>(intro h;cases h)
def pt:bU→mb
  | .r0 s14=>⟨.str s14,[]⟩
noncomputable def Bm:List Code:=dn (tA pb)
def Bn(w_0:Int)(_:Unit) :aA:=⟨ap 20 [(0,.int .u64 w_0),(3,.nsl),(4,.int .i64 (60:Int))],[],0⟩
def Bo:T ((Unit)⊕(bU)) :=
  .leaf (.inl ())
def kW(w_0:Int) :Nat×Nat×Int×(List Int)→aA:=fun (b6,b7,i9,l10)=>⟨ap 20 [(0,.int .u64 w_0),(3,.sl 0 1 1 0 b6 b7),(4,.int .i64 i9)],[(0,.ns .u8 l10)],1⟩
def sQ:Nat×Nat×(List Int)→aA:=fun (b11,b12,l13)=>⟨ap 20 [(3,.sl 0 1 1 0 b11 b12)],[(0,.ns .u8 l13)],1⟩
noncomputable def Ah:List Code:=dn (mH ((((Bm.drop 3).take 1)).headD .skip))
def mS(w_0:Int)(b6:Nat)(b7:Nat)(i9:Int)(l10:List Int) :T ((Nat×Nat×Int×(List Int))⊕((Nat×Nat×(List Int))⊕(bU))) :=
  .ask (decide (i9≥(0:Int)))
    (.need (decide ((0:Int)≤(IntKind.u64.wrap i9)))<|.need (vR (sf .and .u64 (Int.fdiv w_0 (2^(min (Int.toNat (IntKind.u64.wrap i9)) (IntKind.u64.bits)))) (15:Int)) (ByteArray.mk #[48,49,50,51,52,53,54,55,56,57,65,66,67,68,69,70]).size)<|.need (gK ((b6+1)*1) 140737488355328)<|.need (gK (b6+1) 9223372036854775807)<|.need (gK 1 (List.length [(cg (ByteArray.mk #[48,49,50,51,52,53,54,55,56,57,65,66,67,68,69,70]) (Int.toNat (sf .and .u64 (Int.fdiv w_0 (2^(min (Int.toNat (IntKind.u64.wrap i9)) (IntKind.u64.bits)))) (15:Int))))]))<|.need (gK b6 (List.length l10))<|.need (kp .i64 (i9-(4:Int)))<|.leaf (.inl ((b6+1),(b6+1),(i9-(4:Int)),((List.take b6 l10)++(List.take 1 [(cg (ByteArray.mk #[48,49,50,51,52,53,54,55,56,57,65,66,67,68,69,70]) (Int.toNat (sf .and .u64 (Int.fdiv w_0 (2^(min (Int.toNat (IntKind.u64.wrap i9)) (IntKind.u64.bits)))) (15:Int))))])))))
    (.leaf (.inr (.inl (b6,b7,l10))))
noncomputable def fD(w_0:Int) :Nat×Nat×Int×(List Int)→Option ((Nat×Nat×Int×(List Int))⊕((Nat×Nat×(List Int))⊕(bU))):=fun (b6,b7,i9,l10) =>
  (mS w_0 b6 b7 i9 l10).run
theorem Ai(w_0:Int)(b6:Nat)(b7:Nat)(i9:Int)(l10:List Int) :Sg prog [] Ah (kW w_0 (b6,b7,i9,l10)) (fD w_0 (b6,b7,i9,l10)) (kW w_0) (gY 0 sQ mj):=by
  unfold fD;exact cN ep (kW w_0) [⟨[],[161],[0,3,4]⟩,⟨[],[0],[3]⟩]
def qW(b11:Nat)(l13:List Int) :T ((Empty)⊕(bU)) :=
  .need (gK b11 (List.length l13))<|.leaf (.inr (.r0 (su (List.take b11 l13))))
noncomputable def aR(w_0:Int) :Option bU:=uZ (bg ((Bo).run) fun _ =>
  bg (dN (fD w_0) (0,0,(60:Int),([]:List Int))) fun (b11,b12,l13) =>
  (qW b11 l13).run)
theorem Bp(w_0:Int){x:bU}(h:aR w_0=some x) :am prog pb [] [.int .u64 w_0] (pt x) :=
  yB false pt mj h (Sg.cut 3 nT (cN ep (Bn w_0) [⟨[],[],[0,3,4]⟩]) (fun _=>Sg.cut 1 nT (Kc ⟨[(.slot 3,.own 1 1 (.ns .u8 ([]:List Int)))],[0],[0,3,4]⟩ (kW w_0) (sQ) 0 nT (Bl _) (fun ⟨b6,b7,i9,l10⟩=>Ai w_0 b6 b7 i9 l10)) (fun ⟨b11,b12,l13⟩=>cN ep vS [⟨[],[],[2]⟩])))
    (fun x=>by cases x with | r0 s14=>exact qj [.str s14])
def eU:Option bU→Bool
  | some _=>true
  | none=>false
def aX:Option bU→ByteArray
  | some (.r0 x)=>x
  | _=>ByteArray.empty
theorem Bq{x:Option bU}(h:eU x=true) :x=some (.r0 (aX x)):=by
  unfold eU at h
  split at h<;>first | rfl | (cases h;done) | (rename_i y;cases y;rfl)
noncomputable def vn:aH:=db pb (.cons (.int .u64) .nil) fun t=>(fun q=>[⟨pt (.r0 (aX q)),[eU q]⟩]) (aR t.1)
theorem yh:aL prog vn:=aP fun t=>(ba (fun h=>Bp t.1 (Bq h)) bF)
noncomputable def vo:List aH:=vn::pT
theorem du:aZ prog (bf vo):=aq yh ep
inductive bJ where
  | r0 (s5:ByteArray)
def vp:bJ→AE×aA
  | .r0 s5=>(.ret,⟨ap 31 [(2,.str s5)],[],0⟩)
theorem kX:qi vp:=by intro x;cases x<;>(intro h;cases h)
def pu:bJ→mb
  | .r0 s5=>⟨.str s5,[]⟩
def Br(a_0:Int)(a_1:Int)(a_2:Int)(v_3:Lv)(a_4:List Int)(a_5:Int)(a_6:Int)(s1:ByteArray) :aA:=⟨ap 31 [(1,.ptr 0 1 0 0),(3,.str s1)],[(0,.vs [.int .i64 a_0,.int .i64 a_1,.int .i64 a_2,.imm v_3 (.ns .u64 a_4) 1 1 0 (List.length a_4),.int .i64 a_5,.int .u64 a_6])],1⟩
def nU(a_0:Int) :T ((ByteArray)⊕(bJ)) :=
  .need (vR a_0 7)<|.need (mA (Int.toNat a_0) (List.length [ByteArray.empty,(ByteArray.mk #[101,105,103,101,110]),(ByteArray.mk #[118,97,108,117,101,115]),(ByteArray.mk #[115,118,100]),(ByteArray.mk #[114,97,110,107]),(ByteArray.mk #[105,110,118,101,114,115,101]),(ByteArray.mk #[99,111,110,100])]))<|.leaf (.inl (List.getD [ByteArray.empty,(ByteArray.mk #[101,105,103,101,110]),(ByteArray.mk #[118,97,108,117,101,115]),(ByteArray.mk #[115,118,100]),(ByteArray.mk #[114,97,110,107]),(ByteArray.mk #[105,110,118,101,114,115,101]),(ByteArray.mk #[99,111,110,100])] (Int.toNat a_0) ByteArray.empty))
def Bs(a_0:Int)(a_1:Int)(a_2:Int)(v_3:Lv)(a_4:List Int)(a_5:Int)(a_6:Int)(s2:ByteArray) :aA:=⟨ap 31 [(1,.ptr 0 1 0 0),(3,.str s2)],[(0,.vs [.int .i64 a_0,.int .i64 a_1,.int .i64 a_2,.imm v_3 (.ns .u64 a_4) 1 1 0 (List.length a_4),.int .i64 a_5,.int .u64 a_6])],1⟩
def nV(a_0:Int)(a_5:Int)(s1:ByteArray) :T ((ByteArray)⊕(bJ)) :=
  .ask (a_0 != (2:Int))
    (.need (decide (s1.size+(ByteArray.mk #[32]).size≤9223372036854775807))<|.need (kp .i64 a_5)<|.need (decide ((s1++(ByteArray.mk #[32])).size+(bS a_5).size≤9223372036854775807))<|.leaf (.inl ((s1++(ByteArray.mk #[32]))++(bS a_5))))
    (.leaf (.inl s1))
def Bt(a_0:Int)(a_1:Int)(a_2:Int)(v_3:Lv)(a_4:List Int)(a_5:Int)(a_6:Int)(s2:ByteArray)(b3:Bool) :aA:=⟨ap 31 [(1,.ptr 0 1 0 0),(3,.str s2),(23,.bool false b3)],[(0,.vs [.int .i64 a_0,.int .i64 a_1,.int .i64 a_2,.imm v_3 (.ns .u64 a_4) 1 1 0 (List.length a_4),.int .i64 a_5,.int .u64 a_6])],1⟩
def nW(a_0:Int) :T ((Bool)⊕(bJ)) :=
  .ask (a_0==(4:Int))
    (.leaf (.inl true))
    (.leaf (.inl (a_0==(5:Int))))
def Bu(s4:ByteArray) :aA:=⟨ap 31 [(3,.str s4)],[],0⟩
def nX(a_6:Int)(s2:ByteArray)(b3:Bool) :T ((ByteArray)⊕(bJ)) :=
  .ask b3
    (.need (decide (s2.size+(ByteArray.mk #[32]).size≤9223372036854775807))<|.need (eU (aR a_6))<|.need (decide ((s2++(ByteArray.mk #[32])).size+(aX (aR a_6)).size≤9223372036854775807))<|.leaf (.inl ((s2++(ByteArray.mk #[32]))++(aX (aR a_6)))))
    (.leaf (.inl s2))
def qX(s4:ByteArray) :T ((Empty)⊕(bJ)) :=
  .leaf (.inr (.r0 s4))
noncomputable def cS(a_0:Int)(a_5:Int)(a_6:Int) :Option bJ:=uZ (bg ((nU a_0).run) fun s1 =>
  bg ((nV a_0 a_5 s1).run) fun s2 =>
  bg ((nW a_0).run) fun b3 =>
  bg ((nX a_6 s2 b3).run) fun s4 =>
  (qX s4).run)
theorem Bv(a_0:Int)(a_1:Int)(a_2:Int)(v_3:Lv)(a_4:List Int)(a_5:Int)(a_6:Int){x:bJ}(h:cS a_0 a_5 a_6=some x) :am prog uW [] [.agg [.int .i64 a_0,.int .i64 a_1,.int .i64 a_2,.imm v_3 (.ns .u64 a_4) 1 1 0 (List.length a_4),.int .i64 a_5,.int .u64 a_6]] (pu x) :=
  yB false pu vp h (Sg.cut 2 kX (cN du (Br a_0 a_1 a_2 v_3 a_4 a_5 a_6) [⟨[],[0],[1,3]⟩]) (fun s1=>Sg.cut 2 kX (cN du (Bs a_0 a_1 a_2 v_3 a_4 a_5 a_6) [⟨[],[0],[1,3]⟩,⟨[],[0],[1,3]⟩]) (fun s2=>Sg.cut 1 kX (cN du (Bt a_0 a_1 a_2 v_3 a_4 a_5 a_6 s2) [⟨[],[0],[1,3,23]⟩,⟨[],[0],[1,3,23]⟩]) (fun b3=>Sg.cut 1 kX (cN du Bu [⟨[],[],[3]⟩,⟨[],[],[3]⟩]) (fun s4=>cN du vS [⟨[],[],[2]⟩])))))
    (fun x=>by cases x with | r0 s5=>exact qj [.str s5])
def jq:Option bJ→Bool
  | some _=>true
  | none=>false
def eK:Option bJ→ByteArray
  | some (.r0 x)=>x
  | _=>ByteArray.empty
theorem Bw{x:Option bJ}(h:jq x=true) :x=some (.r0 (eK x)):=by
  unfold jq at h
  split at h<;>first | rfl | (cases h;done) | (rename_i y;cases y;rfl)
noncomputable def vq:aH:=db uW (.cons (.agg (.cons (.int .i64) (.cons (.int .i64) (.cons (.int .i64) (.cons (.ns .u64) (.cons (.int .i64) (.cons (.int .u64) .nil))))))) .nil) fun t=>(fun q=>[⟨pu (.r0 (eK q)),[jq q]⟩]) (cS t.1.1 t.1.2.2.2.2.1 t.1.2.2.2.2.2.1)
theorem yi:aL prog vq:=aP fun t=>(ba (fun h=>Bv t.1.1 t.1.2.1 t.1.2.2.1 t.1.2.2.2.1.1 t.1.2.2.2.1.2 t.1.2.2.2.2.1 t.1.2.2.2.2.2.1 (Bw h)) bF)
noncomputable def vr:List aH:=vq::vo
theorem eM:aZ prog (bf vr):=aq yi du
inductive bW where
  | r0 (s16:ByteArray)
def ny:bW→AE×aA
  | .r0 s16=>(.ret,⟨ap 25 [(2,.str s16)],[],0⟩)
theorem ml:qi ny:=by intro x;cases x<;>(intro h;cases h)
theorem Dd(id:Nat) :rI id ny:=by intro x;cases x<;>(intro h;cases h)
def qY:bW→mb
  | .r0 s16=>⟨.str s16,[]⟩
noncomputable def Bx:List Code:=dn (tA qC)
def De(v_0:Lv)(words_1:List Int)(_:Unit) :aA:=⟨ap 25 [(0,.imm v_0 (.ns .u64 words_1) 1 1 0 (List.length words_1)),(3,.nsl),(4,.int .i64 (0:Int))],[],0⟩
def By:T ((Unit)⊕(bW)) :=
  .leaf (.inl ())
def mn(v_0:Lv)(words_1:List Int) :Nat×Nat×Nat×(List Int)→aA:=fun (b6,b7,i9,l10)=>⟨ap 25 [(0,.imm v_0 (.ns .u64 words_1) 1 1 0 (List.length words_1)),(3,.sl 0 1 1 0 b6 b7),(4,.int .i64 ((i9:Nat):Int))],[(0,.ns .u8 l10)],1⟩
def vt:Nat×Nat×(List Int)→aA:=fun (b13,b14,l15)=>⟨ap 25 [(3,.sl 0 1 1 0 b13 b14)],[(0,.ns .u8 l15)],1⟩
noncomputable def Bz:List Code:=dn (mH ((((Bx.drop 3).take 1)).headD .skip))
def Df(v_0:Lv)(words_1:List Int)(i9:Nat) :Nat×(List Int)→aA:=fun (b11,l12)=>⟨ap 25 [(0,.imm v_0 (.ns .u64 words_1) 1 1 0 (List.length words_1)),(3,.sl 0 1 1 0 b11 b11),(4,.int .i64 ((i9:Nat):Int))],[(0,.ns .u8 l12)],1⟩
def nY(words_1:List Int)(b6:Nat)(b7:Nat)(i9:Nat)(l10:List Int) :T ((Nat×(List Int))⊕((Nat×Nat×(List Int))⊕(bW))) :=
  .ask (decide (((i9:Nat):Int)<(((List.length words_1):Nat):Int)))
    (.ask (decide (((i9:Nat):Int)>(0:Int)))
      (.need (gK ((b6+1)*1) 140737488355328)<|.need (gK (b6+1) 9223372036854775807)<|.need (gK 1 (List.length [(32:Int)]))<|.need (gK b6 (List.length l10))<|.need (vR ((i9:Nat):Int) (List.length words_1))<|.need (mA i9 (List.length words_1))<|.need (eU (aR (List.getD words_1 i9 0)))<|.need (gK (((b6+1)+(aX (aR (List.getD words_1 i9 0))).size)*1) 140737488355328)<|.need (gK ((b6+1)+(aX (aR (List.getD words_1 i9 0))).size) 9223372036854775807)<|.need (gK (b6+1) (List.length ((List.take b6 l10)++(List.take 1 [(32:Int)]))))<|.leaf (.inl (((b6+1)+(aX (aR (List.getD words_1 i9 0))).size),((List.take (b6+1) ((List.take b6 l10)++(List.take 1 [(32:Int)])))++(dL (aX (aR (List.getD words_1 i9 0))))))))
      (.need (vR ((i9:Nat):Int) (List.length words_1))<|.need (mA i9 (List.length words_1))<|.need (eU (aR (List.getD words_1 i9 0)))<|.need (gK ((b6+(aX (aR (List.getD words_1 i9 0))).size)*1) 140737488355328)<|.need (gK (b6+(aX (aR (List.getD words_1 i9 0))).size) 9223372036854775807)<|.need (gK b6 (List.length l10))<|.leaf (.inl ((b6+(aX (aR (List.getD words_1 i9 0))).size),((List.take b6 l10)++(dL (aX (aR (List.getD words_1 i9 0)))))))))
    (.leaf (.inr (.inl (b6,b7,l10))))
def BA(i9:Nat)(b11:Nat)(l12:List Int) :T ((Nat×Nat×Nat×(List Int))⊕((Nat×Nat×(List Int))⊕(bW))) :=
  .need (kp .i64 (((i9+1):Nat):Int))<|.leaf (.inl (b11,b11,(i9+1),l12))
noncomputable def nZ(words_1:List Int) :Nat×Nat×Nat×(List Int)→Option ((Nat×Nat×Nat×(List Int))⊕((Nat×Nat×(List Int))⊕(bW))):=fun (b6,b7,i9,l10) =>
  bg ((nY words_1 b6 b7 i9 l10).run) fun (b11,l12) =>
  (BA i9 b11 l12).run
theorem BB(v_0:Lv)(words_1:List Int)(b6:Nat)(b7:Nat)(i9:Nat)(l10:List Int) :Sg prog [] Bz (mn v_0 words_1 (b6,b7,i9,l10)) (nZ words_1 (b6,b7,i9,l10)) (mn v_0 words_1) (gY 0 vt ny):=by
  unfold nZ;exact Sg.cut 3 (dc ml) (cN eM (Df v_0 words_1 i9) [⟨[],[257],[0,3,4]⟩,⟨[],[193],[0,3,4]⟩,⟨[],[0],[3]⟩]) (fun ⟨b11,l12⟩=>cN eM (mn v_0 words_1) [⟨[],[0],[0,3,4]⟩])
def sR(b13:Nat)(l15:List Int) :T ((Empty)⊕(bW)) :=
  .need (gK b13 (List.length l15))<|.leaf (.inr (.r0 (su (List.take b13 l15))))
noncomputable def fE(words_1:List Int) :Option bW:=uZ (bg ((By).run) fun _ =>
  bg (dN (nZ words_1) (0,0,0,([]:List Int))) fun (b13,b14,l15) =>
  (sR b13 l15).run)
theorem Dg(v_0:Lv)(words_1:List Int){x:bW}(h:fE words_1=some x) :am prog qC [] [.imm v_0 (.ns .u64 words_1) 1 1 0 (List.length words_1)] (qY x) :=
  yB false qY ny h (Sg.cut 3 ml (cN eM (De v_0 words_1) [⟨[],[],[0,3,4]⟩]) (fun _=>Sg.cut 1 ml (Kc ⟨[(.slot 3,.own 1 1 (.ns .u8 ([]:List Int)))],[0],[0,3,4]⟩ (mn v_0 words_1) (vt) 0 ml (Dd _) (fun ⟨b6,b7,i9,l10⟩=>BB v_0 words_1 b6 b7 i9 l10)) (fun ⟨b13,b14,l15⟩=>cN eM vS [⟨[],[],[2]⟩])))
    (fun x=>by cases x with | r0 s16=>exact qj [.str s16])
def mp:Option bW→Bool
  | some _=>true
  | none=>false
def ka:Option bW→ByteArray
  | some (.r0 x)=>x
  | _=>ByteArray.empty
theorem Dh{x:Option bW}(h:mp x=true) :x=some (.r0 (ka x)):=by
  unfold mp at h
  split at h<;>first | rfl | (cases h;done) | (rename_i y;cases y;rfl)
noncomputable def xN:aH:=db qC (.cons (.ns .u64) .nil) fun t=>(fun q=>[⟨qY (.r0 (ka q)),[mp q]⟩]) (fE t.1.2)
theorem Aj:aL prog xN:=aP fun t=>(ba (fun h=>Dg t.1.1 t.1.2 (Dh h)) bF)
noncomputable def xO:List aH:=xN::vr
theorem mT:aZ prog (bf xO):=aq Aj eM
inductive bm where
  | r0 (a4:Nat) (a5:Nat) (l6:List ByteArray)
def pU:bm→AE×aA
  | .r0 a4 a5 l6=>(.ret,⟨ap 8 [(4,.sl 0 1 1 0 a4 a5)],[(0,.ss l6)],1⟩)
theorem xe:qi pU:=by intro x;cases x<;>(intro h;cases h)
def lO:bm→mb
  | .r0 a4 a5 l6=>⟨.imm .free (.ss l6) 1 1 0 a4,[]⟩
def xf:Nat×Nat×(List ByteArray)→aA:=fun (a1,a2,l3)=>⟨ap 8 [(4,.sl 0 1 1 0 a1 a2)],[(0,.ss l3)],1⟩
def xg(s_0:ByteArray)(sep_1:ByteArray) :T ((Nat×Nat×(List ByteArray))⊕(bm)) :=
  .need (cE (aT s_0 sep_1 (0:Int) (-1:Int)))<|.leaf (.inl ((dk (aT s_0 sep_1 (0:Int) (-1:Int))),(dl (aT s_0 sep_1 (0:Int) (-1:Int))),(dm (aT s_0 sep_1 (0:Int) (-1:Int)))))
def xh(a1:Nat)(a2:Nat)(l3:List ByteArray) :T ((Empty)⊕(bm)) :=
  .leaf (.inr (.r0 a1 a2 l3))
noncomputable def bX(s_0:ByteArray)(sep_1:ByteArray) :Option bm:=uZ (bg ((xg s_0 sep_1).run) fun (a1,a2,l3) =>
  (xh a1 a2 l3).run)
theorem xi(s_0:ByteArray)(sep_1:ByteArray){x:bm}(h:bX s_0 sep_1=some x) :am prog pD [] [.str s_0,.str sep_1] (lO x) :=
  yB true lO pU h (Sg.cut 2 xe (cN mT xf [⟨[],[48],[4]⟩]) (fun ⟨a1,a2,l3⟩=>cN mT vS [⟨[],[0],[4]⟩]))
    (fun x=>by cases x with | r0 a4 a5 l6=>exact qj [.sl 0 1 1 0 a4 a5])
def dQ:Option bm→Bool
  | some _=>true
  | none=>false
def er:Option bm→Nat
  | some (.r0 x _ _)=>x
  | _=>0
def mU:Option bm→Nat
  | some (.r0 _ x _)=>x
  | _=>0
def eu:Option bm→List ByteArray
  | some (.r0 _ _ x)=>x
  | _=>[]
theorem xj{x:Option bm}(h:dQ x=true) :x=some (.r0 (er x) (mU x) (eu x)):=by
  unfold dQ at h
  split at h<;>first | rfl | (cases h;done) | (rename_i y;cases y;rfl)
noncomputable def pV:aH:=db pD (.cons .str (.cons .str .nil)) fun t=>(fun q=>[⟨lO (.r0 (er q) (mU q) (eu q)),[dQ q]⟩]) (bX t.1 t.2.1)
theorem tM:aL prog pV:=aP fun t=>(ba (fun h=>xi t.1 t.2.1 (xj h)) bF)
noncomputable def pW:List aH:=pV::xO
theorem jA:aZ prog (bf pW):=aq tM mT
inductive aU where
  | r0 (before4:ByteArray) (after5:ByteArray) (found6:Bool)
def sS:aU→AE×aA
  | .r0 before4 after5 found6=>(.ret,⟨ap 13 [(4,.str before4),(5,.str after5),(6,.bool false found6)],[],0⟩)
theorem Ak:qi sS:=by intro x;cases x<;>(intro h;cases h)
def oa:aU→mb
  | .r0 before4 after5 found6=>⟨.tup [.str before4,.str after5,.bool false found6],[]⟩
def Al:ByteArray×ByteArray×Bool→aA:=fun (before1,after2,found3)=>⟨ap 13 [(4,.str before1),(5,.str after2),(6,.bool false found3)],[],0⟩
def Am(s_0:ByteArray)(sep_1:ByteArray) :T ((ByteArray×ByteArray×Bool)⊕(aU)) :=
  .need (aM (ah s_0 sep_1))<|.ask (decide ((ai (ah s_0 sep_1))≥(0:Int)))
    (.need (lW (ai (ah s_0 sep_1)) s_0.size)<|.need (lW (0:Int) (Int.toNat (ai (ah s_0 sep_1))))<|.need (kp .i64 ((ai (ah s_0 sep_1))+((sep_1.size:Nat):Int)))<|.need (lW ((s_0.size:Nat):Int) s_0.size)<|.need (lW ((ai (ah s_0 sep_1))+((sep_1.size:Nat):Int)) s_0.size)<|.leaf (.inl ((s_0.extract 0 (Int.toNat (ai (ah s_0 sep_1)))),(s_0.extract (Int.toNat ((ai (ah s_0 sep_1))+((sep_1.size:Nat):Int))) s_0.size),true)))
    (.leaf (.inl (s_0,ByteArray.empty,false)))
def An(before1:ByteArray)(after2:ByteArray)(found3:Bool) :T ((Empty)⊕(aU)) :=
  .leaf (.inr (.r0 before1 after2 found3))
noncomputable def kY(s_0:ByteArray)(sep_1:ByteArray) :Option aU:=uZ (bg ((Am s_0 sep_1).run) fun (before1,after2,found3) =>
  (An before1 after2 found3).run)
theorem Ao(s_0:ByteArray)(sep_1:ByteArray){x:aU}(h:kY s_0 sep_1=some x) :am prog sw [] [.str s_0,.str sep_1] (oa x) :=
  yB false oa sS h (Sg.cut 2 Ak (cN jA Al [⟨[],[],[4,5,6]⟩,⟨[],[],[4,5,6]⟩]) (fun ⟨before1,after2,found3⟩=>cN jA vS [⟨[],[],[4,5,6]⟩]))
    (fun x=>by cases x with | r0 before4 after5 found6=>exact qj [.str before4,.str after5,.bool false found6])
def fF:Option aU→Bool
  | some _=>true
  | none=>false
def gV:Option aU→ByteArray
  | some (.r0 x _ _)=>x
  | _=>ByteArray.empty
def bM:Option aU→ByteArray
  | some (.r0 _ x _)=>x
  | _=>ByteArray.empty
def gW:Option aU→Bool
  | some (.r0 _ _ x)=>x
  | _=>false
theorem Ap{x:Option aU}(h:fF x=true) :x=some (.r0 (gV x) (bM x) (gW x)):=by
  unfold fF at h
  split at h<;>first | rfl | (cases h;done) | (rename_i y;cases y;rfl)
noncomputable def sT:aH:=db sw (.cons .str (.cons .str .nil)) fun t=>(fun q=>[⟨oa (.r0 (gV q) (bM q) (gW q)),[fF q]⟩]) (kY t.1 t.2.1)
theorem xk:aL prog sT:=aP fun t=>(ba (fun h=>Ao t.1 t.2.1 (Ap h)) bF)
noncomputable def sU:List aH:=sT::pW
theorem kG:aZ prog (bf sU):=aq xk jA
inductive co where
  | r0 (b2:Bool)
def sV:co→AE×aA
  | .r0 b2=>(.ret,⟨ap 9 [(2,.bool false b2)],[],0⟩)
theorem Aq:qi sV:=by intro x;cases x<;>(intro h;cases h)
def oc:co→mb
  | .r0 b2=>⟨.bool false b2,[]⟩
def Ar(b1:Bool) :aA:=⟨ap 9 [(2,.bool false b1)],[],0⟩
def As(n_0:Int) :T ((Bool)⊕(co)) :=
  .ask (decide (n_0≥(0:Int)))
    (.leaf (.inl (decide (n_0≤(512:Int)))))
    (.leaf (.inl false))
def Au(b1:Bool) :T ((Empty)⊕(co)) :=
  .leaf (.inr (.r0 b1))
noncomputable def bN(n_0:Int) :Option co:=uZ (bg ((As n_0).run) fun b1 =>
  (Au b1).run)
theorem Av(n_0:Int){x:co}(h:bN n_0=some x) :am prog sy [] [.int .i64 n_0] (oc x) :=
  yB false oc sV h (Sg.cut 2 Aq (cN kG Ar [⟨[],[],[2]⟩,⟨[],[],[2]⟩]) (fun b1=>cN kG vS [⟨[],[],[2]⟩]))
    (fun x=>by cases x with | r0 b2=>exact qj [.bool false b2])
def dh:Option co→Bool
  | some _=>true
  | none=>false
def cX:Option co→Bool
  | some (.r0 x)=>x
  | _=>false
theorem Aw{x:Option co}(h:dh x=true) :x=some (.r0 (cX x)):=by
  unfold dh at h
  split at h<;>first | rfl | (cases h;done) | (rename_i y;cases y;rfl)
noncomputable def sW:aH:=db sy (.cons (.int .i64) .nil) fun t=>(fun q=>[⟨oc (.r0 (cX q)),[dh q]⟩]) (bN t.1)
theorem xl:aL prog sW:=aP fun t=>(ba (fun h=>Av t.1 (Aw h)) bF)
noncomputable def od:List aH:=sW::sU
theorem ao:aZ prog (bf od):=aq xl kG
end
end Go.Plb.Seat
namespace Go.Plb.Seat
open Go Go.Plb
set_option linter.unusedSimpArgs false
set_option linter.unusedVariables false
set_option maxRecDepth 100000
def hv(b:UInt8) :Nat:=if b.toNat≤57 then b.toNat-48 else b.toNat-55
theorem EA(l:List Int) :(su l).data.toList=l.map fun n=>UInt8.ofNat n.toNat:=by
  have key:∀ (l:List Int) (r:ByteArray),(l.foldl (fun r n=>r.push (UInt8.ofNat n.toNat)) r).data.toList=r.data.toList++l.map fun n=>UInt8.ofNat n.toNat:=by
    intro l
    induction l with
    | nil=>intro r;simp
    | cons x l ih =>
      intro r
      rw [List.foldl_cons,ih]
      simp [ByteArray.push]
  have:=key l ByteArray.empty
  simpa [su] using this
end Go.Plb.Seat
namespace Go.Plb
set_option linter.unusedSimpArgs false
set_option linter.unusedVariables false
end Go.Plb
namespace Go.Plb.Seat
open Go Go.Plb
set_option linter.unusedSimpArgs false
set_option linter.unusedVariables false
set_option maxRecDepth 100000
theorem Lf{z:Int}(h:0≤z)(h2:z<18446744073709551616) :IntKind.u64.wrap z=z:=by
  show z%18446744073709551616=z
  omega
theorem IT(w:Int){j:Nat}(hj:j<16) :(lq w).take (j+1)=(lq w).take j++[cg pj (dg w j)]:=by
  have h:(lq w)[j]? = some (cg pj (dg w j)):=by simp [lq,hj]
  rw [List.take_add_one,h]
  rfl
theorem oe(w:Int) :aR w=some (.r0 (bc w)):=by
  unfold aR
  refine cq (au rfl (au (a:=(16,16,lq w)) (qH (fun j=>(j,j,(60:Int)-((4*j:Nat):Int),(lq w).take j)) 16 rfl (fun j hj=>?_) ?_) ?_))
  · have hd:=JR w j
    have e1:IntKind.u64.wrap ((60:Int)-((4*j:Nat):Int))=(60:Int)-((4*j:Nat):Int):=Lf (by omega) (by omega)
    have hl:((lq w).take j).length=j:=by rw [List.length_take,ox];omega
    have hn:List.take j ((lq w).take j)++List.take 1 [cg pj (dg w j)]=(lq w).take (j+1):=by
      rw [IT w hj,List.take_of_length_le (by omega)];rfl
    have e2:(60:Int)-((4*(j+1):Nat):Int)=(60:Int)-((4*j:Nat):Int)-4:=by omega
    simp only [fD,mS]
    rw [e1,Gw w hj,e2,←hn]
    exact jY (decide_eq_true (by omega)) (aQ (decide_eq_true (by omega)) (aQ (by rw [B1];exact ⟨by omega,by show ((dg w j:Nat):Int)<((16:Nat):Int);omega⟩) (aQ (by rw [bR];omega) (aQ (by rw [bR];omega) (jo (aQ (by rw [bR,hl];exact Nat.le_refl _) (aQ (by rw [cB];omega) rfl)))))))
  · have e:(lq w).take 16=lq w:=List.take_of_length_le (by rw [ox];exact Nat.le_refl _)
    simp only [fD,mS]
    rw [e]
    exact dx (decide_eq_false (by omega)) rfl
  · show (qW 16 (lq w)).run=_
    have e:(lq w).take 16=lq w:=List.take_of_length_le (by rw [ox];exact Nat.le_refl _)
    refine aQ (by rw [bR,ox];exact Nat.le_refl _) ?_
    rw [e]
    rfl
def mW(ws:List Int) :Nat→List Int
  | 0=>[]
  | j+1=>(bif Nat.blt 0 j then mW ws j++[32] else mW ws j)++dL (bc (ws.getD j 0))
theorem Ax(s:ByteArray) :(dL s).length=s.size:=by simp [dL]
theorem GC(ws:List Int) :∀ j,(mW ws j).length≤17*j
  | 0=>by simp [mW]
  | j+1=>by
    have:=GC ws j
    rw [mW,List.length_append,Ax,jw]
    cases Nat.blt 0 j<;>simp<;>omega
theorem Ay(s:ByteArray) :(dL s).map (fun n=>UInt8.ofNat n.toNat)=s.data.toList:=by
  simp only [dL,List.map_map]
  conv=>rhs;rw [←List.map_id s.data.toList]
  apply List.map_congr_left
  intro b _
  show UInt8.ofNat ((b.toNat:Int)).toNat=b
  rw [Int.toNat_natCast]
  exact UInt8.ofNat_toNat
theorem Az:∀ (l:List ByteArray) (x:ByteArray),l≠[]→kv (l++[x])=kv l++32::x.data.toList
  | [],_,h=>absurd rfl h
  | [y],x,_=>by simp [kv]
  | y::z::r,x,_=>by
    have:=Az (z::r) x (by simp)
    simp only [List.cons_append] at this ⊢
    simp only [kv,this]
    simp
theorem EB(ws:List Int) :∀ j,j≤ws.length→(mW ws j).map (fun n=>UInt8.ofNat n.toNat)=kv ((ws.take j).map bc)
  | 0,_=>by simp [mW,kv]
  | j + 1, h => by
    have ih:=EB ws j (by omega)
    have hg:ws[j]? = some (ws.getD j 0):=by rw [List.getD_eq_getElem?_getD,List.getElem?_eq_getElem (by omega)];rfl
    have ht:(ws.take (j+1)).map bc=(ws.take j).map bc++[bc (ws.getD j 0)]:=by rw [List.take_add_one,hg,List.map_append];rfl
    rw [mW,ht]
    by_cases h0:j=0
    · subst h0
      simp only [List.map_append,Ay]
      simp [mW,kv,show Nat.blt 0 0=false from rfl]
    · have hb:Nat.blt 0 j=true:=by rw [Gv];omega
      have hne:(ws.take j).map bc≠[]:=by
        intro q
        have:=congrArg List.length q
        rw [List.length_map,List.length_take,List.length_nil] at this
        omega
      rw [hb,cond_true,Az _ _ hne,List.map_append,List.map_append,ih,Ay]
      simp
theorem Jq(ws:List Int) :su (mW ws ws.length)=qc ws:=by
  have h:=EB ws ws.length (Nat.le_refl _)
  rw [List.take_length] at h
  have h2:=EA (mW ws ws.length)
  rw [h] at h2
  have e:∀ a b:ByteArray,a.data.toList=b.data.toList→a=b:=by
    rintro ⟨a⟩ ⟨b⟩ q
    exact congrArg ByteArray.mk (Array.toList_inj.1 q)
  apply e
  rw [h2,qc,pF]
theorem Di(ws:List Int)(h:ws.length≤1000000) :fE ws=some (.r0 (qc ws)):=by
  unfold fE
  refine cq (au rfl (au (a:=((mW ws ws.length).length,(mW ws ws.length).length,mW ws ws.length)) (qH (fun j=>((mW ws j).length,(mW ws j).length,j,mW ws j)) ws.length rfl (fun j hj=>?_) ?_) ?_))
  · have hl:=GC ws j
    have hs:=jw (ws.getD j 0)
    have hb:=Ax (bc (ws.getD j 0))
    by_cases h0:j=0
    · subst h0
      have e:mW ws 1=List.take 0 (mW ws 0)++dL (bc (ws.getD 0 0)):=rfl
      refine au (a:=((mW ws 1).length,mW ws 1)) ?_ (jo rfl)
      have el:(mW ws 1).length=(mW ws 0).length+(bc (ws.getD 0 0)).size:=by rw [e,List.length_append,hb];rfl
      rw [el,e]
      simp only [nY,oe]
      refine jY (decide_eq_true (by omega)) (bt (aQ (by rw [B1];omega) (aQ (by rw [yD];omega) (jo (aQ ?_ (aQ ?_ (aQ (by rw [bR];exact Nat.le_refl _) rfl)))))))
      · rw [bR];show ((mW ws 0).length+(bc (ws.getD 0 0)).size)*1≤_;omega
      · rw [bR];show (mW ws 0).length+(bc (ws.getD 0 0)).size≤_;omega
    · have hb0:Nat.blt 0 j=true:=by rw [Gv];omega
      have e0:mW ws (j+1)=(mW ws j++[32])++dL (bc (ws.getD j 0)):=by rw [mW,hb0,cond_true]
      have e1:List.take (mW ws j).length (mW ws j)++List.take 1 [(32:Int)]=mW ws j++[32]:=by rw [List.take_length];rfl
      have e2:List.take ((mW ws j).length+1) (mW ws j++[(32:Int)])=mW ws j++[32]:=List.take_of_length_le (by simp)
      have el:(mW ws (j+1)).length=(mW ws j).length+1+(bc (ws.getD j 0)).size:=by rw [e0,List.length_append,hb];simp
      refine au (a:=((mW ws (j+1)).length,mW ws (j+1))) ?_ (aQ (by rw [cB];omega) rfl)
      rw [el,e0]
      simp only [nY,oe,e1]
      refine jY (decide_eq_true (by omega)) (jY (decide_eq_true (by omega)) (aQ (by rw [bR];omega) (aQ (by rw [bR];omega) (jo (aQ (by rw [bR];exact Nat.le_refl _) (aQ (by rw [B1];omega) (aQ (by rw [yD];omega) (jo (aQ ?_ (aQ ?_ (aQ ?_ ?_)))))))))))
      · rw [bR];show ((mW ws j).length+1+(bc (ws.getD j 0)).size)*1≤_;omega
      · rw [bR];show (mW ws j).length+1+(bc (ws.getD j 0)).size≤_;omega
      · rw [bR];simp
      · show some (Sum.inl ((mW ws j).length+1+(bc (ws.getD j 0)).size,List.take ((mW ws j).length+1) (mW ws j++[32])++dL (bc (ws.getD j 0))))=_
        rw [e2]
  · exact jp (dx (decide_eq_false (by omega)) rfl)
  · show (sR (mW ws ws.length).length (mW ws ws.length)).run=_
    refine aQ (by rw [bR];exact Nat.le_refl _) ?_
    rw [List.take_length,Jq]
    rfl
theorem Ht{a b:ByteArray}(h:a.data.toList=b.data.toList) :a=b:=by
  obtain ⟨a⟩:=a
  obtain ⟨b⟩:=b
  exact congrArg ByteArray.mk (Array.toList_inj.1 h)
theorem tN(a b:ByteArray) :(a.toList==b.toList)=decide (a=b):=by
  rw [Lib.toList_data,Lib.toList_data]
  by_cases h:a=b
  · rw [h,decide_eq_true rfl];simp
  · rw [decide_eq_false h,beq_eq_false_iff_ne]
    exact fun q=>h (Ht q)
theorem qZ{k y t:Int}(h:dO k y t=true) :(k=1∧(y=1∨y=2∨y=3)∧t=0)∨(k=2∧y=0∧t=0)∨(k=3∧(y=1∨y=2)∧t=0)∨(k=4∧(y=1∨y=2))∨(k=5∧(y=1∨y=2))∨(k=6∧(y=1∨y=2)∧t=0):=by
  have g:∀ {a b:Bool},(bif a then b else false)=true→a=true∧b=true:=by intro a b;cases a<;>cases b<;>simp
  have m3:kq 1 ((3:Nat):Int)=1:=by decide
  have m2:kq 1 ((2:Nat):Int)=1:=by decide
  have m0:kq 1 ((0:Nat):Int)=0:=by decide
  unfold dO at h
  obtain ⟨h1,h⟩:=g h
  obtain ⟨h2,h⟩:=g h
  obtain ⟨h3,h⟩:=g h
  have h2:=of_decide_eq_true h2
  have h3:=of_decide_eq_true h3
  by_cases k1:k=1
  · subst k1
    have e:pq 1=(true,ByteArray.mk #[101,105,103,101,110],3,false,true):=rfl
    rw [e] at h h2 h3
    simp only [m3,cond_false,beq_iff_eq] at h h2 h3
    exact .inl ⟨rfl,by omega,h⟩
  by_cases k2:k=2
  · subst k2
    have e:pq 2=(true,ByteArray.mk #[118,97,108,117,101,115],0,false,true):=rfl
    rw [e] at h h2 h3
    simp only [m0,cond_false,beq_iff_eq] at h h2 h3
    exact .inr (.inl ⟨rfl,by omega,h⟩)
  by_cases k3:k=3
  · subst k3
    have e:pq 3=(true,ByteArray.mk #[115,118,100],2,false,false):=rfl
    rw [e] at h h2 h3
    simp only [m2,cond_false,beq_iff_eq] at h h2 h3
    exact .inr (.inr (.inl ⟨rfl,by omega,h⟩))
  by_cases k4:k=4
  · subst k4
    have e:pq 4=(true,ByteArray.mk #[114,97,110,107],2,true,false):=rfl
    rw [e] at h h2 h3
    simp only [m2] at h h2 h3
    exact .inr (.inr (.inr (.inl ⟨rfl,by omega⟩)))
  by_cases k5:k=5
  · subst k5
    have e:pq 5=(true,ByteArray.mk #[105,110,118,101,114,115,101],2,true,false):=rfl
    rw [e] at h h2 h3
    simp only [m2] at h h2 h3
    exact .inr (.inr (.inr (.inr (.inl ⟨rfl,by omega⟩))))
  by_cases k6:k=6
  · subst k6
    have e:pq 6=(true,ByteArray.mk #[99,111,110,100],2,false,false):=rfl
    rw [e] at h h2 h3
    simp only [m2,cond_false,beq_iff_eq] at h h2 h3
    exact .inr (.inr (.inr (.inr (.inr ⟨rfl,by omega,h⟩))))
  simp [pq,k1,k2,k3,k4,k5,k6] at h1
theorem FL(k y t:Int) :dt k y t=some (.r0 (dO k y t)):=by
  unfold dt
  have m3:kq 1 ((3:Nat):Int)=1:=by decide
  have m2:kq 1 ((2:Nat):Int)=1:=by decide
  have m0:kq 1 ((0:Nat):Int)=0:=by decide
  have b2:∀ (b:Bool),(oB b).run=some (.inr (.r0 b)):=fun _=>rfl
  by_cases k1:k=1
  · subst k1
    refine cq (au (a:=3) (cz rfl) (au (a:=dO 1 y t) ?_ rfl))
    show _=some (Sum.inl (bif decide (y≥kq 1 ((3:Nat):Int)) then bif decide (y≤((3:Nat):Int)) then t==0 else false else false))
    rw [m3]
    cases h1:decide (y≥1) with
    | false=>exact dx h1 rfl
    | true =>
      refine jY h1 ?_
      cases h2:decide (y≤((3:Nat):Int)) with
      | false=>exact bt rfl
      | true =>
        refine cz ?_
        cases h3:(t==0) with
        | false=>exact bt (bt rfl)
        | true=>exact cz rfl
  by_cases k2:k=2
  · subst k2
    refine cq (jp (bt (cz ?_)))
    show _=some (Sum.inr (bj.r0 (bif decide (y≥kq 1 ((0:Nat):Int)) then bif decide (y≤((0:Nat):Int)) then t==0 else false else false)))
    rw [m0]
    by_cases hy:y=0
    · subst hy
      exact cz rfl
    · refine dx (beq_eq_false_iff_ne.2 hy) ?_
      by_cases h1:y≥0
      · have : ¬ y≤((0:Nat):Int):=by omega
        rw [decide_eq_true h1,decide_eq_false this];rfl
      · rw [decide_eq_false h1];rfl
  by_cases k3:k=3
  · subst k3
    refine cq (au (a:=2) (bt (bt (cz rfl))) (au (a:=dO 3 y t) ?_ rfl))
    show _=some (Sum.inl (bif decide (y≥kq 1 ((2:Nat):Int)) then bif decide (y≤((2:Nat):Int)) then t==0 else false else false))
    rw [m2]
    cases h1:decide (y≥1) with
    | false=>exact dx h1 rfl
    | true =>
      refine jY h1 ?_
      cases h2:decide (y≤((2:Nat):Int)) with
      | false=>exact bt rfl
      | true =>
        refine cz ?_
        cases h3:(t==0) with
        | false=>exact bt (bt rfl)
        | true=>exact cz rfl
  by_cases k4:k=4
  · subst k4
    refine cq (au (a:=2) (bt (bt (bt (bt (cz rfl))))) (au (a:=dO 4 y t) ?_ rfl))
    show _=some (Sum.inl (bif decide (y≥kq 1 ((2:Nat):Int)) then bif decide (y≤((2:Nat):Int)) then true else false else false))
    rw [m2]
    cases h1:decide (y≥1) with
    | false=>exact dx h1 rfl
    | true =>
      refine jY h1 ?_
      cases h2:decide (y≤((2:Nat):Int)) with
      | false=>exact bt rfl
      | true =>
        refine cz ?_
        cases h3:(t==0) with
        | false=>exact bt (cz rfl)
        | true=>exact cz rfl
  by_cases k5:k=5
  · subst k5
    refine cq (au (a:=2) (bt (bt (bt (bt (bt (cz rfl)))))) (au (a:=dO 5 y t) ?_ rfl))
    show _=some (Sum.inl (bif decide (y≥kq 1 ((2:Nat):Int)) then bif decide (y≤((2:Nat):Int)) then true else false else false))
    rw [m2]
    cases h1:decide (y≥1) with
    | false=>exact dx h1 rfl
    | true =>
      refine jY h1 ?_
      cases h2:decide (y≤((2:Nat):Int)) with
      | false=>exact bt rfl
      | true =>
        refine cz ?_
        cases h3:(t==0) with
        | false=>exact bt (bt rfl)
        | true=>exact cz rfl
  by_cases k6:k=6
  · subst k6
    refine cq (au (a:=2) (bt (bt (bt (cz rfl)))) (au (a:=dO 6 y t) ?_ rfl))
    show _=some (Sum.inl (bif decide (y≥kq 1 ((2:Nat):Int)) then bif decide (y≤((2:Nat):Int)) then t==0 else false else false))
    rw [m2]
    cases h1:decide (y≥1) with
    | false=>exact dx h1 rfl
    | true =>
      refine jY h1 ?_
      cases h2:decide (y≤((2:Nat):Int)) with
      | false=>exact bt rfl
      | true =>
        refine cz ?_
        cases h3:(t==0) with
        | false=>exact bt (bt rfl)
        | true=>exact cz rfl
  have q:∀ j:Int,¬ k=j→(k==j)=false:=fun j h=>beq_eq_false_iff_ne.2 h
  have e:dO k y t=false:=by
    cases h:dO k y t with
    | false=>rfl
    | true =>
      have:=qZ h
      omega
  rw [e]
  exact cq (jp (dx (q _ k1) (dx (q _ k2) (dx (q _ k3) (dx (q _ k6) (dx (q _ k4) (dx (q _ k5) rfl)))))))
theorem AA{k y t:Int}(h:dO k y t=true) :cS k y t=some (.r0 (jG k y t)):=by
  have e2:(ByteArray.mk #[32]).size=1:=rfl
  have h1:=ed y
  have h2:=jw t
  have asc:∀ a b c:ByteArray,a++b++c=a++(b++c):=fun a b c=>ByteArray.append_assoc
  have hy:kp .i64 y=true:=by
    have:=qZ h
    rw [cB];omega
  have hT:=oe t
  unfold cS
  have gen:∀ (w:ByteArray),w.size≤7→(nU k).run=some (.inl w)→k≠2→(jG k y t=bif (k==4||k==5) then (w++(C9++bS y))++(C9++bc t) else w++(C9++bS y))→uZ (bg ((nU k).run) fun s1=>bg ((nV k y s1).run) fun s2=>bg ((nW k).run) fun b3=>bg ((nX t s2 b3).run) fun s4=>(qX s4).run)=some (.r0 (jG k y t)):=by
    intro w hw h6 hk hl
    have h7:(nV k y w).run=some (.inl (w++(C9++bS y))):=by
      rw [←asc]
      refine jY (bne_iff_ne.2 hk) (aQ ?_ (aQ hy (aQ ?_ rfl)))
      all_goals simp only [ByteArray.size_append,e2,decide_eq_true_eq];omega
    have h8:(nW k).run=some (.inl (k==4||k==5)):=by
      cases h4:(k==4) with
      | true=>exact jY h4 rfl
      | false=>exact dx h4 rfl
    refine cq (au h6 (au h7 (au h8 (au (a:=jG k y t) ?_ rfl))))
    rw [hl]
    cases (k==4||k==5) with
    | false=>exact bt rfl
    | true =>
      simp only [nX,hT]
      have e3:C9.size=1:=rfl
      refine cz (aQ ?_ (jo (aQ ?_ ?_)))
      · simp only [ByteArray.size_append,e2,e3,decide_eq_true_eq];omega
      · show decide ((w++(C9++bS y)++ByteArray.mk #[32]).size+(bc t).size≤_)=true
        simp only [ByteArray.size_append,e2,e3,decide_eq_true_eq];omega
      · show some (Sum.inl (w++(C9++bS y)++C9++bc t))=_
        rw [asc (w++(C9++bS y))]
        rfl
  rcases qZ h with ⟨rfl,hh,rfl⟩ | ⟨rfl,rfl,rfl⟩ | ⟨rfl,hh,rfl⟩ | ⟨rfl,hh⟩ | ⟨rfl,hh⟩ | ⟨rfl,hh,rfl⟩
  · exact gen (ByteArray.mk #[101,105,103,101,110]) (by decide) rfl (by decide) rfl
  · exact cq (au (a:=ByteArray.mk #[118,97,108,117,101,115]) rfl (au (a:=ByteArray.mk #[118,97,108,117,101,115]) (bt rfl) (au (a:=false) (bt rfl) (au (a:=ByteArray.mk #[118,97,108,117,101,115]) (bt rfl) rfl))))
  · exact gen (ByteArray.mk #[115,118,100]) (by decide) rfl (by decide) rfl
  · exact gen (ByteArray.mk #[114,97,110,107]) (by decide) rfl (by decide) rfl
  · exact gen (ByteArray.mk #[105,110,118,101,114,115,101]) (by decide) rfl (by decide) rfl
  · exact gen (ByteArray.mk #[99,111,110,100]) (by decide) rfl (by decide) rfl
def GX:List ByteArray:=[ByteArray.empty,ByteArray.mk #[101,105,103,101,110],ByteArray.mk #[118,97,108,117,101,115],ByteArray.mk #[115,118,100],ByteArray.mk #[114,97,110,107],ByteArray.mk #[105,110,118,101,114,115,101],ByteArray.mk #[99,111,110,100]]
end Go.Plb.Seat
namespace Go.Plb
set_option linter.unusedSimpArgs false
set_option linter.unusedVariables false
set_option linter.unusedSectionVars false
variable [Rom]
def ae.less(ρ:ae)(L:Nat→Prop) :ae:={ ρ with live:=fun bl=>ρ.live bl∧¬ L bl }
theorem ae.less_less(ρ:ae)(L:Nat→Prop) :Fd ρ (ρ.less L):=⟨rfl,fun _ h=>h.1⟩
theorem yE{ρ:ae}{L:Nat→Prop}{w:World}{v:AV}{u:Value}(h:VR ρ w v u) :VR (ρ.less L) w v u:=by
  induction h using VR.rec (motive_2:=fun l c _=>bG (ρ.less L) w l c) with
  | int k n=>exact .int k n
  | bool kn b=>exact .bool kn b
  | flt ex x y h=>exact .flt ex x y h
  | str s=>exact .str s
  | nptr=>exact .nptr
  | ptr b k i j hb=>exact VR.ptr (ρ:=ρ.less L) b k i j hb
  | iptr bw d k i j bl o u ha hb hc hv hr hk hg ih=>exact .iptr bw d k i j bl o u ((ρ.less_less L).avoid ha) hb hc ih hr hk hg
  | nsl=>exact .nsl
  | esl a=>exact .esl a
  | zsl a c=>exact .zsl a c
  | nan n h=>exact .nan n h
  | sl b k es i len cap cap' hb hcap hl c t hh hs=>exact VR.sl (ρ:=ρ.less L) b k es i len cap cap' hb hcap hl c t hh hs
  | slEnd b k es i a=>exact .slEnd b k es i a
  | imm bw d k es i len cap bl o u ha hb hc hv hl hr hk hg ih=>exact .imm bw d k es i len cap bl o u ((ρ.less_less L).avoid ha) hb hc ih hl hr hk hg
  | immEnd bw d k es i cap a hr hk hg=>exact .immEnd bw d k es i cap a hr hk hg
  | fn f l1 l2 c1 c2 h1 h2 i1 i2=>exact .fn f l1 l2 c1 c2 i1 i2
  | nfn=>exact .nfn
  | gmap ks vs bl es cl u ha hb hh hin hex hv hl hk ih=>exact .gmap ks vs bl es cl u ((ρ.less_less L).avoid ha) hb hh hin hex ih hl hk
  | gvar c bl t fr ha hb hh=>exact .gvar c bl t fr ((ρ.less_less L).avoid ha) hb hh
  | agg l c h ih=>exact .agg l c ih
  | tup l c h ih=>exact .tup l c ih
  | iface t v u h ih=>exact .iface t v u ih
  | niface=>exact .niface
  | any u=>exact .any u
  | nil=>exact bG.nil
  | cons v u l c h t i1 i2=>exact bG.cons v u l c i1 i2
theorem EC{ρ:ae}{L:Nat→Prop}{w:World} :∀ {l:List AV} {c:List Value},bG ρ w l c→bG (ρ.less L) w l c
  | _,_,.nil=>.nil
  | _,_,.cons v u l c h t=>.cons v u l c (yE h) (EC t)
theorem Jr{ρ:ae}{L:Nat→Prop}{w:World}{h:aK}{n:Nat}(hh:HR ρ w h n)(hL:∀ b d,aw h b=some d→ρ.ok b→¬ L (ρ.at_ b)) :HR (ρ.less L) w h n:=by
  refine ⟨fun b d hb=>?_,hh.inj,fun bl q j=>hh.fresh bl q.1 j,fun bl q=>hh.liveLt bl q.1,hh.outLt,hh.lt,fun x hx=>yE (hh.rom x hx)⟩
  rcases hh.cell b d hb with ⟨k1,k2,hr,c,t,r1,r2⟩ | q
  · exact .inl ⟨k1,⟨k2,hL b d hb k1⟩,hr,c,t,r1,fun x v hx=>(r2 x v hx).imp fun u g=>⟨g.1,yE g.2⟩⟩
  · exact .inr q
def aj.plain:aj→Bool
  | .fl _ | .ns .. | .bs _ | .ss _ | .cols ..=>true
  | _=>false
theorem FM{d:aj}(h:d.plain=true) :d.kept=true:=by cases d<;>first | rfl | cases h
def FO(st:aA)(b i x:Nat) :aA :=
  match aw st.heap b with
  | some (.vs l)=>match l[i]? with
    | some (.sl y w es j n c)=>match aw st.heap x with
      | some d=>bif Nat.beq y x&&(!Nat.beq b x&&d.plain) then ⟨st.tmps,cu (lC st.heap x) b (.vs (l.set i (.imm .free d w es j n))),st.next⟩ else st
      | none=>st
    | _=>st
  | _=>st
theorem IU{st:aA}{b i x:Nat} :Fe [] st (FO st b i x):=by
  intro ρ0 w0 a w hN hA
  unfold FO
  split
  case h_2=>exact hA
  rename_i l hl
  split
  case h_2=>exact hA
  rename_i y wd es j n c hi
  split
  case h_2=>exact hA
  rename_i d hd
  cases hc:(Nat.beq y x&&(!Nat.beq b x&&d.plain)) with
  | false=>exact hA
  | true =>
  simp only [cond_true]
  simp only [Bool.and_eq_true,Bool.not_eq_true'] at hc
  obtain ⟨e1,e2,hp⟩:=hc
  have e1:=Nat.eq_of_beq_eq_true e1
  subst e1
  have hne:b≠y:=fun q=>by subst q;rw [jJ] at e2;cases e2
  obtain ⟨ρ,E,W,S,hbk,hle⟩:=hA
  have hh:=S.heap
  have hk:=FM hp

  have key:∃ L:Nat→Prop,(∀ z e,z≠y→aw st.heap z=some e→ρ.ok z→¬ L (ρ.at_ z))∧(∀ bl,ρ0.live bl→¬ L bl)∧(ρ.ok y→L (ρ.at_ y)):=by
    by_cases ok:ρ.ok y
    · refine ⟨fun bl=>bl=ρ.at_ y,fun z e hz he hz2 q=>hz (hh.inj z y e d he hd hz2 ok q),fun bl q=>?_,fun _=>rfl⟩
      obtain ⟨k,k1,_⟩:=hN.only bl q
      exact absurd (hN.heap.lt k k1) (Nat.not_lt_zero _)
    · exact ⟨fun _=>False,fun _ _ _ _ _ q=>q,fun _ _ q=>q,fun q=>ok q⟩
  obtain ⟨L,L1,L2,L3⟩:=key
  have hget':∀ z e,aw (lC st.heap y) z=some e→z≠y∧aw st.heap z=some e:=by
    intro z e hz
    rw [eO] at hz
    split at hz
    · cases hz
    · rename_i q;exact ⟨fun r=>q r.symm,hz⟩
  have h1:HR (ρ.less L) w (lC st.heap y) st.next:=Jr (hh.del y) fun z e hz ok=>by
    obtain ⟨q1,q2⟩:=hget' z e hz
    exact L1 z e q1 q2 ok
  have hb1:aw (lC st.heap y) b=some (.vs l):=by
    rw [eO,if_neg (fun q=>hne q.symm)];exact hl
  have hv:∀ u,VR ρ w (.sl y wd es j n c) u→VR (ρ.less L) w (.imm .free d wd es j n) u:=by
    intro u hu
    cases hu with
    | sl _ _ _ _ _ _ cap' hb hcap hl' c' t hh' hs =>
      obtain ⟨hlv,hrk,cc,t2,hcc,hcv⟩:=hh.real hd hb
      have:=VR.imm (ρ:=ρ.less L) (w:=w) .free d wd es j n cap' (ρ.at_ y) 0 (fun z=>(cc[z]?).getD undef) (fun k _=>by
          cases k with
          | zero=>exact fun q=>q.2 (L3 hb)
          | succ k=>exact hh.fresh _ hlv k) (hh.liveLt _ hlv)
        (fun z v hz=>by
          obtain ⟨u,q1,q2⟩:=hcv z v hz
          simp [World.cell?,hcc,q1]) (fun z v hz=>by
          obtain ⟨u,q1,q2⟩:=hcv z v hz
          simp only [q1,Option.getD_some]
          exact yE q2) (by omega) hrk (fun _=>hk) (jk hk)
      simpa using this
    | slEnd=>exact .immEnd _ _ _ _ _ _ _ (hh.rk hd) (fun _=>hk) (jk hk)
  refine ⟨ρ.less L,⟨E.at_,E.ok,fun bl q=>⟨E.live bl q,L2 bl q⟩,fun bl q r=>E.new bl q r.1,E.out⟩,W,⟨S.defers,EC S.tmps,?_⟩,hbk,hle⟩
  have look:∀ z e,aw (cu (lC st.heap y) b (.vs (l.set i (.imm .free d wd es j n)))) z=some e→(z=b∧e=.vs (l.set i (.imm .free d wd es j n)))∨(z≠b∧z≠y∧aw st.heap z=some e):=by
    intro z e hz
    rw [bv] at hz
    by_cases q:b=z
    · rw [if_pos q] at hz;cases hz;exact .inl ⟨q.symm,rfl⟩
    · rw [if_neg q] at hz;exact .inr ⟨fun r=>q r.symm,hget' z e hz⟩
  have had:∀ z e,aw (cu (lC st.heap y) b (.vs (l.set i (.imm .free d wd es j n)))) z=some e→∃ e',aw (lC st.heap y) z=some e':=by
    intro z e hz
    rw [bv] at hz
    by_cases q:b=z
    · subst q;exact ⟨_,hb1⟩
    · rw [if_neg q] at hz;exact ⟨e,hz⟩
  refine ⟨fun z e hz=>?_,fun z z' e e' hz hz' ok ok' he=>?_,h1.fresh,h1.liveLt,h1.outLt,h1.lt,h1.rom⟩
  · rcases look z e hz with ⟨rfl,rfl⟩ | ⟨q1,q2,q3⟩
    · rcases h1.cell z _ hb1 with ⟨k1,k2,_,cc,t,r1,r2⟩ | ⟨k1,k2,_,k4⟩
      · refine .inl ⟨k1,k2,trivial,cc,t,r1,fun m v hm=>?_⟩
        simp only [aj.cell?,List.getElem?_set] at hm
        by_cases hq:i=m
        · subst hq
          rw [if_pos rfl] at hm
          split at hm
          · cases hm
            rcases hh.cell z _ hl with ⟨_,_,_,c3,t3,s1,s2⟩ | ⟨g1,_⟩
            · have ec:c3=cc:=by
                have r1':w.heap[ρ.at_ z]? = some (.cells cc t (0,0)):=r1
                rw [s1] at r1';cases r1';rfl
              subst ec
              obtain ⟨u,t1,t2⟩:=s2 i _ hi
              exact ⟨u,t1,hv u t2⟩
            · exact absurd k1 g1
          · cases hm
        · rw [if_neg hq] at hm
          exact r2 m v hm
      · refine .inr ⟨k1,k2,trivial,fun m=>?_⟩
        have:=k4 i
        simp only [aj.cell?] at this
        rw [hi] at this
        cases this
    · exact h1.cell z e (by rw [eO,if_neg (fun q=>q2 q.symm)];exact q3)
  · obtain ⟨f,hf⟩:=had z e hz
    obtain ⟨f',hf'⟩:=had z' e' hz'
    exact h1.inj z z' f f' hf hf' ok ok' he
theorem Sg.sub{P:Program}{α X:Type}{N:α→aA}{E:X→AE×aA}{m:Option (α⊕X)}{cs:List Code}{st st1:aA}(hs:Fe [] st st1)(h:Sg P [] cs st1 m N E) :Sg P [] cs st m N E :=
  fun r hr=>da.weak hs (h r hr)
end Go.Plb
