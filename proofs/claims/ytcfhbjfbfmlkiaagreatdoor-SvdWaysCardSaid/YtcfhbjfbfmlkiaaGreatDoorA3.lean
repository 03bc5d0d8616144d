/-
  Part 3 of what the claim leans on: an evaluator of the model, proved sound; the contracts of the functions.
-/
import Derived.Test.YtcfhbjfbfmlkiaaGreatDoorA2
namespace Go.Plb
noncomputable section
set_option linter.unusedSimpArgs false
set_option linter.unusedVariables false
set_option linter.unusedSectionVars false
variable [Rom]
inductive T (α:Type) where
  | fail
  | leaf (a:α)
  | ask (b:Bool) (t f:T α)
  | need (b:Bool) (t:T α)
  | alt (k:Nat) (t e:T α)
def T.run{α:Type} :T α→Option α
  | .fail=>none
  | .leaf a=>some a
  | .ask b t f=>bif b then t.run else f.run
  | .need b t=>bif b then t.run else none
  | .alt _ t e=>match t.run with
    | some a=>some a
    | none=>e.run
structure wU (α:Type) where
  path:List Nat
  obs:List Bool
  val:α
def wU.ask{α:Type}(n:Nat)(b:Bool)(l:wU α) :wU α:=⟨n::l.path,b::l.obs,l.val⟩
def wU.need{α:Type}(b:Bool)(l:wU α) :wU α:=⟨l.path,b::l.obs,l.val⟩
def wU.alt{α:Type}(n:Nat)(l:wU α) :wU α:=⟨n::l.path,l.obs,l.val⟩
def T.leaves{α:Type} :T α→List (wU α)
  | .fail=>[]
  | .leaf a=>[⟨[],[],a⟩]
  | .ask b t f=>t.leaves.map (wU.ask 1 (b==true))++f.leaves.map (wU.ask 0 (b==false))
  | .need b t=>t.leaves.map (wU.need b)
  | .alt k t e=>t.leaves.map (wU.alt k)++e.leaves
theorem nI{α:Type} :∀ (t:T α) {a:α},t.run=some a→∃ l∈t.leaves,l.val=a∧aq l.obs
  | .fail,a,h=>by cases h
  | .leaf b,a,h=>by
    simp only [T.run,Option.some.injEq] at h;subst h
    exact ⟨⟨[],[],b⟩,by simp [T.leaves],rfl,trivial⟩
  | .ask b t f,a,h=>by
    simp only [T.run] at h
    cases b with
    | true =>
      simp only [cond_true] at h
      obtain ⟨l,h1,h2,h3⟩:=nI t h
      exact ⟨l.ask 1 (true==true),by simp only [T.leaves,List.mem_append];exact .inl (List.mem_map_of_mem h1),h2,⟨rfl,h3⟩⟩
    | false =>
      simp only [cond_false] at h
      obtain ⟨l,h1,h2,h3⟩:=nI f h
      exact ⟨l.ask 0 (false==false),by simp only [T.leaves,List.mem_append];exact .inr (List.mem_map_of_mem h1),h2,⟨rfl,h3⟩⟩
  | .need b t,a,h=>by
    simp only [T.run] at h
    cases b with
    | true =>
      simp only [cond_true] at h
      obtain ⟨l,h1,h2,h3⟩:=nI t h
      exact ⟨l.need true,by simp only [T.leaves];exact List.mem_map_of_mem h1,h2,⟨rfl,h3⟩⟩
    | false=>cases h
  | .alt k t e,a,h=>by
    simp only [T.run] at h
    split at h
    · rename_i a' ht
      cases h
      obtain ⟨l,h1,h2,h3⟩:=nI t ht
      exact ⟨l.alt k,by simp only [T.leaves,List.mem_append];exact .inl (List.mem_map_of_mem h1),h2,h3⟩
    · obtain ⟨l,h1,h2,h3⟩:=nI e h
      exact ⟨l,by simp only [T.leaves,List.mem_append];exact .inr h1,h2,h3⟩
def vG{α X:Type}(N:α→aC)(E:X→AE×aC) :α⊕X→AE×aC
  | .inl a=>(.normal,N a)
  | .inr x=>E x
def Sg{α X:Type}(P:Program)(lent:List aw)(cs:List Code)(st:aC)(m:Option (α⊕X))(N:α→aC)(E:X→AE×aC) :Prop :=
  ∀ r,m=some r→gd P lent cs st fun e st'=>(e,st')=vG N E r
def V5{α X:Type}(C:sy)(S:vq)(n:Nat)(cs:List Code)(st:aC)(ls:List (wU (α⊕X)))(ks:List NS)(k:Nat) :List (Bool×Option (AE×aC×List Bool)) :=
  List.zipWith (fun l s=>(s.ok k,VV s (UP (eW C S 12 n) cs st (some l.path)))) ls ks
def T3{α X:Type}(N:α→aC)(E:X→AE×aC)(ls:List (wU (α⊕X))) :List (Bool×Option (AE×aC×List Bool)) :=
  ls.map fun l=>(true,some ((vG N E l.val).1,(vG N E l.val).2,l.obs))
theorem T4{α β γ:Type}{f:α→β→γ}{g:α→γ} :∀ {l:List α} {k:List β},List.zipWith f l k=l.map g→∀ a∈l,∃ b,f a b=g a
  | [],_,_,a,ha=>by cases ha
  | x::l,[],h,a,ha=>by simp at h
  | x::l,y::k,h,a,ha=>by
    simp only [List.zipWith_cons_cons,List.map_cons,List.cons.injEq] at h
    rcases List.mem_cons.1 ha with rfl | ha
    · exact ⟨y,h.1⟩
    · exact T4 h.2 a ha
theorem Sg.seg{C:sy}(hC:C.Ok){S:vq}(hS:aO C.P S){lent:List aw}{α X:Type}(n:Nat)(cs:List Code)(st:aC)(t:T (α⊕X))(N:α→aC)(E:X→AE×aC)(ks:List NS) 
    (h:V5 C S n cs st t.leaves ks lent.length=T3 N E t.leaves):Sg C.P lent cs st t.run N E:=by
  intro r hr
  obtain ⟨l,h1,h2,h3⟩:=nI t hr
  obtain ⟨k,hk⟩:=T4 h l h1
  simp only [Prod.mk.injEq] at hk
  obtain ⟨hn,he⟩:=hk
  have:=gd.seg hC hS (lent:=lent) (Q:=fun e st'=>(e,st')=vG N E r) cs.length (some l.path) k (cs:=cs) (st:=st) (by rw [List.take_length];exact he) hn h3
  refine this ?_
  rw [h2,List.drop_length]
  generalize hg:vG N E r=x
  obtain ⟨e,s⟩:=x
  cases e with
  | normal=>exact gd.nil rfl
  | ret=>rfl
  | exit id=>rfl
theorem gd.append{P:Program}{lent:List aw}{cs1 cs2:List Code}{st:aC}{Q1 Q:AE→aC→Prop}(h:gd P lent cs1 st Q1)(k:∀ e st',Q1 e st'→G4 P lent cs2 e st' Q) :gd P lent (cs1++cs2) st Q:=by
  intro ρ0 w0 hN K hK a w hA
  apply xU
  refine h ρ0 w0 hN _ ?_ a w hA
  intro e st' a' w' q hA'
  have:=k e st' q
  cases e with
  | normal=>exact this ρ0 w0 hN K hK a' w' hA'
  | ret=>exact hK _ _ _ _ this hA'
  | exit id=>exact hK _ _ _ _ this hA'
def jU{X:Type}(E:X→AE×aC) :Prop:=∀ x,(E x).1 ≠ .normal
theorem T5{P:Program}{lent:List aw}{cs:List Code}{e:AE}{st:aC}{Q:AE→aC→Prop}(hn:e ≠ .normal)(h:Q e st) :G4 P lent cs e st Q:=by
  cases e with
  | normal=>exact (hn rfl).elim
  | ret=>exact h
  | exit id=>exact h
def aN{α β X:Type}(m:Option (α⊕X))(k:α→Option (β⊕X)) :Option (β⊕X) :=
  match m with
  | none=>none
  | some (.inl a)=>k a
  | some (.inr x)=>some (.inr x)
theorem Sg.seq{P:Program}{lent:List aw}{α β X:Type}{cs1 cs2:List Code}{st:aC}{m:Option (α⊕X)}{N1:α→aC}{E:X→AE×aC}{k:α→Option (β⊕X)}{N:β→aC}(hE:jU E) 
    (h:Sg P lent cs1 st m N1 E) (hk:∀ a,Sg P lent cs2 (N1 a) (k a) N E):Sg P lent (cs1++cs2) st (aN m k) N E:=by
  intro r hr
  unfold aN at hr
  split at hr
  · cases hr
  · rename_i a
    refine gd.append (h _ rfl) ?_
    intro e st' q
    simp only [vG,Prod.mk.injEq] at q
    obtain ⟨rfl,rfl⟩:=q
    exact hk a r hr
  · rename_i x
    simp only [Option.some.injEq] at hr;subst hr
    refine gd.append (h _ rfl) ?_
    intro e st' q
    simp only [vG] at q
    refine T5 ?_ q
    have:=hE x
    rw [←q] at this;exact this
def uN{σ Y:Type}(B:σ→Option (σ⊕Y)) :Nat→σ→Option Y
  | 0,_=>none
  | n+1,s=>match B s with
    | none=>none
    | some (.inl s')=>uN B n s'
    | some (.inr y)=>some y
theorem qJ{σ Y:Type}{B:σ→Option (σ⊕Y)} :∀ (n:Nat) {s:σ} {y:Y},uN B n s=some y→∀ m,n≤m→uN B m s=some y
  | 0,s,y,h,_,_=>by cases h
  | n+1,s,y,h,m,hm=>by
    obtain ⟨m',rfl⟩:∃ m',m=m'+1:=⟨m-1,by omega⟩
    simp only [uN] at h ⊢
    split at h
    · cases h
    · exact qJ n h m' (by omega)
    · exact h
open Classical in
noncomputable def V6 {σ Y : Type} (B : σ → Option (σ ⊕ Y)) (s : σ) : Option Y :=
  if h : ∃ n y, uN B n s = some y then some h.choose_spec.choose else none
theorem UT{σ Y:Type}{B:σ→Option (σ⊕Y)}{s:σ}{y:Y} :V6 B s=some y↔∃ n,uN B n s=some y:=by
  unfold V6
  constructor
  · intro h
    split at h
    · rename_i q
      simp only [Option.some.injEq] at h
      exact ⟨q.choose,by rw [←h];exact q.choose_spec.choose_spec⟩
    · cases h
  · rintro ⟨n,h⟩
    rw [dif_pos ⟨n,y,h⟩]
    generalize hq:(⟨n,y,h⟩:∃ n y,uN B n s=some y)=q
    have h1:=q.choose_spec.choose_spec
    have a1:=qJ n h (max n q.choose) (by omega)
    have a2:=qJ _ h1 (max n q.choose) (by omega)
    rw [a1] at a2
    exact a2.symm
noncomputable def gR{σ Y:Type}(B:σ→Option (σ⊕Y))(s:σ) :Option Y :=
  match uN B 1000000000000 s with
  | some y=>some y
  | none=>V6 B s
theorem UU{σ Y:Type}{B:σ→Option (σ⊕Y)}{s:σ}{y:Y} :gR B s=some y↔∃ n,uN B n s=some y:=by
  unfold gR
  generalize 1000000000000=k
  cases h:uN B k s with
  | none=>exact UT
  | some z =>
    constructor
    · intro e;cases e;exact ⟨k,h⟩
    · rintro ⟨n,hn⟩
      have a1:=qJ n hn (max n k) (by omega)
      have a2:=qJ _ h (max n k) (by omega)
      rw [a1] at a2
      exact a2.symm
def dS{ρ X:Type}(id:Nat)(J:ρ→aC)(E:X→AE×aC) :ρ⊕X→AE×aC
  | .inl r=>(.exit id,J r)
  | .inr x=>E x
def oV{X:Type}(id:Nat)(E:X→AE×aC) :Prop:=∀ x,(E x).1 ≠ .exit id
theorem Sg.loop{P:Program}{lent:List aw}{σ ρ X:Type}{I:σ→aC}{J:ρ→aC}{E:X→AE×aC}{B:σ→Option (σ⊕(ρ⊕X))}{id:Nat}{b:Code}(hE:jU E)(hI:oV id E) 
    (hb:∀ s,Sg P lent (dd b) (I s) (B s) I (dS id J E)) (s:σ):Sg P lent [.block id (.loop b)] (I s) (gR B s) J E:=by
  intro y hy
  obtain ⟨n,hn⟩:=UU.1 hy

  have:=gd.loop (P:=P) (lent:=lent) (id:=id) (b:=b) (rest:=[]) (Q:=fun e st'=>(e,st')=vG J E y) (σ:=Nat×σ) (fun s=>I s.2) (fun s=>uN B s.1 s.2=some y) (fun s=>s.1) rfl (fun s hs=>?_) (n,s) hn
  · exact this
  · obtain ⟨n,s⟩:=s
    simp only at hs ⊢
    cases n with
    | zero=>cases hs
    | succ n =>
      simp only [uN] at hs
      split at hs
      · cases hs
      · rename_i s' hB
        refine (hb s _ hB).mono ?_
        intro e st' q
        simp only [vG,Prod.mk.injEq] at q
        obtain ⟨rfl,rfl⟩:=q
        exact ⟨(n,s'),hs,by simp,rfl⟩
      · rename_i y' hB
        simp only [Option.some.injEq] at hs;subst hs
        refine (hb s _ hB).mono ?_
        intro e st' q
        cases y' with
        | inl r =>
          simp only [vG,dS,Prod.mk.injEq] at q
          obtain ⟨rfl,rfl⟩:=q
          simp only [zz,if_true]
          exact gd.nil rfl
        | inr x =>
          simp only [vG,dS] at q
          have h1:=hE x
          have h2:=hI x
          rw [←q] at h1 h2
          simp only at h1 h2
          cases e with
          | normal=>exact (h1 rfl).elim
          | ret=>exact q
          | exit j =>
            have hj : ¬ j=id:=fun h=>h2 (by rw [h])
            simp only [zz,hj,if_false]
            exact q
def Fd{κ X:Type}(m:Option (κ⊕(κ⊕X))) :Option (κ⊕X) :=
  match m with
  | none=>none
  | some (.inl a)=>some (.inl a)
  | some (.inr (.inl a))=>some (.inl a)
  | some (.inr (.inr x))=>some (.inr x)
theorem Sg.block{P:Program}{lent:List aw}{κ X:Type}{K:κ→aC}{E:X→AE×aC}{m:Option (κ⊕(κ⊕X))}{id:Nat}{b:Code}{st:aC}(hE:jU E)(hI:oV id E) 
    (hb:Sg P lent (dd b) st m K (dS id K E)):Sg P lent [.block id b] st (Fd m) K E:=by
  intro r hr
  unfold Fd at hr
  refine gd.block (rest:=[]) rfl ?_
  split at hr
  · cases hr
  · simp only [Option.some.injEq] at hr;subst hr
    refine (hb _ rfl).mono ?_
    intro e st' q
    simp only [vG,Prod.mk.injEq] at q
    obtain ⟨rfl,rfl⟩:=q
    exact gd.nil rfl
  · simp only [Option.some.injEq] at hr;subst hr
    refine (hb _ rfl).mono ?_
    intro e st' q
    simp only [vG,dS,Prod.mk.injEq] at q
    obtain ⟨rfl,rfl⟩:=q
    simp only [if_true]
    exact gd.nil rfl
  · rename_i x
    simp only [Option.some.injEq] at hr;subst hr
    refine (hb _ rfl).mono ?_
    intro e st' q
    simp only [vG,dS] at q
    have h1:=hE x
    have h2:=hI x
    rw [←q] at h1 h2
    simp only at h1 h2
    cases e with
    | normal=>exact (h1 rfl).elim
    | ret=>exact q
    | exit j =>
      have hj : ¬ j=id:=fun h=>h2 (by rw [h])
      simp only [hj,if_false]
      exact q
theorem Sg.scope{P:Program}{lent:List aw}{α X:Type}{N:α→aC}{E:X→AE×aC}{m:Option (α⊕X)}{b:Code}{st:aC}(hE:jU E)(hb:Sg P lent (dd b) st m N E) :Sg P lent [.scope b] st m N E:=by
  intro r hr
  refine gd.scope (rest:=[]) rfl ((hb r hr).mono ?_)
  intro e st' q
  cases r with
  | inl a =>
    simp only [vG,Prod.mk.injEq] at q
    obtain ⟨rfl,rfl⟩:=q
    exact gd.nil rfl
  | inr x =>
    refine T5 ?_ q
    have:=hE x
    simp only [vG] at q
    rw [←q] at this;exact this
theorem Ov{k:Nat}{ρ0:ae}{w0:World}{st:aC}{a:Act}{w:World}{c:Operand}{b kn:Bool}(h:At k ρ0 w0 st a w)(hc:Vk st.tmps c=.bool kn b) :At k ρ0 w0 { st with tmps:=qE st.tmps c b } a w∧a.eval c=.bool b:=by
  obtain ⟨ρ,E,W,hs,hbk,hle⟩:=h
  have hb:a.eval c=.bool b:=by
    have:=uZ hs.heap.rom hs.tmps c
    rw [hc] at this
    generalize a.eval c=z at this
    cases this;rfl
  refine ⟨⟨ρ,E,W,⟨hs.defers,?_,hs.heap⟩,hbk,hle⟩,hb⟩
  cases c with
  | tmp t =>
    simp only [qE,wk]
    have:cd ρ w (st.tmps.set t (.bool true b)) (a.tmps.toList.set t (.bool b)):=hs.tmps.set (.bool _ _) t
    have e:a.tmps.toList.set t (.bool b)=a.tmps.toList:=by
      apply List.ext_getElem?
      intro j
      rw [List.getElem?_set]
      split
      · rename_i q;subst q
        split
        · rename_i hlt
          simp only [Act.eval] at hb
          rw [Array.getD_eq_getD_getElem?] at hb
          have hlt':t<a.tmps.size:=by simpa using hlt
          rw [Array.getElem?_eq_getElem hlt'] at hb
          simp only [Option.getD_some] at hb
          simp [hlt',hb]
        · rename_i hge
          rw [List.getElem?_eq_none (by omega)]
      · rfl
    rw [e] at this;exact this
  | const v=>exact hs.tmps
  | global g=>exact hs.tmps
  | func f=>exact hs.tmps
theorem Sg.cond{P:Program}{lent:List aw}{α X:Type}{N:α→aC}{E:X→AE×aC}{m1 m2:Option (α⊕X)}{c:Operand}{A B:Code}{st:aC}{kn b:Bool}(hE:jU E)(hc:Vk st.tmps c=.bool kn b) 
    (h1:Sg P lent (dd A) { st with tmps:=qE st.tmps c true } m1 N E) (h2:Sg P lent (dd B) { st with tmps:=qE st.tmps c false } m2 N E):Sg P lent [.cond c A B] st (bif b then m1 else m2) N E:=by
  intro r hr
  intro ρ0 w0 hN K hK a w hA
  simp only [GJ]
  obtain ⟨hA',hb⟩:=Ov hA hc
  refine wp_cond hb ?_
  have fin:∀ (D:Code) (m:Option (α⊕X)) (st1:aC),Sg P lent (dd D) st1 m N E→m=some r→At lent.length ρ0 w0 st1 a w→D.wp P (fun e a' w'=>match e with | .normal=>K .normal a' w' | e=>K e a' w') a w:=by
    intro D m st1 hS hm hA1
    refine tg D (hS r hm ρ0 w0 hN _ ?_ a w hA1)
    intro e st' a' w' q hA2
    cases e with
    | normal=>exact hK .normal st' a' w' q hA2
    | ret=>exact hK .ret st' a' w' q hA2
    | exit id=>exact hK (.exit id) st' a' w' q hA2
  cases b with
  | true=>exact fin A m1 _ h1 hr hA'
  | false=>exact fin B m2 _ h2 hr hA'
theorem Sg.pre{P:Program}{lent:List aw}{α X:Type}{N:α→aC}{E:X→AE×aC}{m:Option (α⊕X)}{cs:List Code}{st st1:aC}(s:NS)(hn:s.ok lent.length=true)(h1:s.on st=st1)(h:Sg P lent cs st1 m N E) :Sg P lent cs st m N E :=
  fun r hr=>gd.weak (by rw [←h1];exact VU hn st) (h r hr)
def mC{X:Type} :Option (Empty⊕X)→Option X
  | some (.inr x)=>some x
  | _=>none
theorem Sg.contract{P:Program}{f:FuncId}{fn:Func}{c:Code}{X:Type}{N:Empty→aC}{E:X→AE×aC}{m:Option (Empty⊕X)}{lent:List aw}{args:List AV}(keep:Bool)(o:X→fZ)(hf:P.funcs[f]? = some fn)(hc:fn.body=some c) 
    (h:Sg P lent (dd c) (om fn lent args) m N E) (hE:∀ x,TY P fn lent.length keep (o x) (E x).1 (E x).2) {x:X} (hx:mC m=some x):af P f lent args (o x):=by
  unfold mC at hx
  split at hx
  · rename_i x'
    simp only [Option.some.injEq] at hx;subst hx
    refine gd.contract (keep:=keep) hf hc ((h _ rfl).mono ?_)
    intro e st' q
    simp only [vG] at q
    have:=hE x'
    rw [←q] at this;exact this
  · cases hx
end
end Go.Plb
namespace Go.Plb
set_option linter.unusedSectionVars false
variable [Rom]
theorem bb{ρ X:Type}{id:Nat}{J:ρ→aC}{E:X→AE×aC}(h:jU E) :jU (dS id J E):=by
  intro x
  cases x with
  | inl r=>intro q;cases q
  | inr x=>exact h x
theorem jG{ρ X:Type}{id j:Nat}{J:ρ→aC}{E:X→AE×aC}(hj:(j==id)=false)(h:oV id E) :oV id (dS j J E):=by
  intro x
  cases x with
  | inl r =>
    intro q
    simp only [dS,AE.exit.injEq] at q
    subst q
    simp at hj
  | inr x=>exact h x
def fB:Code→Code
  | .block _ (.loop b)=>b
  | _=>.skip
def inBlock:Code→Code
  | .block _ b=>b
  | _=>.skip
def wH:Code→Code
  | .scope b=>b
  | _=>.skip
theorem Sg.cut{P:Program}{lent:List aw}{α β X:Type}{cs:List Code}{st:aC}{m:Option (α⊕X)}{N1:α→aC}{E:X→AE×aC}{k:α→Option (β⊕X)}{N:β→aC}(n:Nat)(hE:jU E) 
    (h:Sg P lent (cs.take n) st m N1 E) (hk:∀ a,Sg P lent (cs.drop n) (N1 a) (k a) N E):Sg P lent cs st (aN m k) N E:=by
  have:=Sg.seq hE h hk
  rwa [List.take_append_drop] at this
theorem UV{P:Program}{lent:List aw}{σ ρ X:Type}{I:σ→aC}{J:ρ→aC}{E:X→AE×aC}{B:σ→Option (σ⊕(ρ⊕X))}{id:Nat}{b:Code}{cs:List Code}(hcs:cs=[.block id (.loop b)])(hE:jU E)(hI:oV id E) 
    (hb:∀ s,Sg P lent (dd b) (I s) (B s) I (dS id J E)) (s:σ):Sg P lent cs (I s) (gR B s) J E:=by rw [hcs];exact Sg.loop hE hI hb s
theorem RP{P:Program}{lent:List aw}{κ X:Type}{K:κ→aC}{E:X→AE×aC}{m:Option (κ⊕(κ⊕X))}{id:Nat}{b:Code}{st:aC}{cs:List Code}(hcs:cs=[.block id b])(hE:jU E)(hI:oV id E) 
    (hb:Sg P lent (dd b) st m K (dS id K E)):Sg P lent cs st (Fd m) K E:=by rw [hcs];exact Sg.block hE hI hb
theorem yh{P:Program}{lent:List aw}{α X:Type}{N:α→aC}{E:X→AE×aC}{m:Option (α⊕X)}{b:Code}{st:aC}{cs:List Code}(hcs:cs=[.scope b])(hE:jU E)(hb:Sg P lent (dd b) st m N E) :Sg P lent cs st m N E:=by
  rw [hcs];exact Sg.scope hE hb
end Go.Plb
namespace Go.Plb.Seat
open Go Go.Plb
set_option linter.unusedSimpArgs false
set_option linter.unusedVariables false
noncomputable abbrev E0:vq:=aK []
theorem qK:aO prog E0:=EZ prog
theorem V7(y:Nat) :af prog tj [] [.flt true y] ⟨.flt true (sa y),[]⟩:=by
  have h:km C0 E0 (eW C0 E0 0 50) tj [] [.flt true y] (some [])=some (⟨.flt true (dM .andNot .u64 (y:Int) 9223372036854775808).toNat,[]⟩,[],some []):=by kernel_rfl
  have:=af.run jn qK _ _ _ h trivial
  rw [VX,Int.toNat_natCast] at this;exact this
theorem Yi(ex:Bool)(x:Nat) :af prog tj [] [.flt ex x] ⟨.flt ex (sa x),[]⟩:=by
  cases ex with
  | true=>exact V7 x
  | false=>exact uK (r:=fun y=>.flt true (sa y)) V7 (fun y hf ρ w u h=>h.flt_weak (VY hf))
theorem T6(y:Nat) :af prog rr [] [.flt true y] ⟨.flt true (sa y),[]⟩:=by
  have h:km C0 E0 (eW C0 E0 0 50) rr [] [.flt true y] (some [])=some (⟨.flt true ((IntKind.u64.wrap ((y:Int)*2^min (Int.toNat 1) IntKind.u64.bits)).fdiv (2^min (Int.toNat 1) IntKind.u64.bits)).toNat,[]⟩,[true,true],some []):=by kernel_rfl
  have:=af.run jn qK _ _ _ h ⟨rfl,rfl,trivial⟩
  rw [TZ,Int.toNat_natCast] at this;exact this
theorem XU(ex:Bool)(x:Nat) :af prog rr [] [.flt ex x] ⟨.flt ex (sa x),[]⟩:=by
  cases ex with
  | true=>exact T6 x
  | false=>exact uK (r:=fun y=>.flt true (sa y)) T6 (fun y hf ρ w u h=>h.flt_weak (VY hf))
theorem Cs(x y:Nat) :af prog lf [] [.flt true x,.flt true y] ⟨.flt true (nA x y),[]⟩:=by
  have h:km C0 E0 (eW C0 E0 0 50) lf [] [.flt true x,.flt true y] (some [])=some (⟨.flt true (dM .or .u64 (dM .andNot .u64 (x:Int) 9223372036854775808) (dM .and .u64 (y:Int) 9223372036854775808)).toNat,[]⟩,[],some []):=by kernel_rfl
  have:=af.run jn qK _ _ _ h trivial
  rw [VX,XR,Xn,Int.toNat_natCast] at this;exact this
theorem RQ(e1 e2:Bool)(x y:Nat)(hn:isNaN y=true→isNaN x=true) :af prog lf [] [.flt e1 x,.flt e2 y] ⟨.flt false (nA x y),[]⟩ :=
  uL (r:=fun x y=>.flt true (nA x y)) Cs (fun x' y' h1 h2 ρ w u h=>h.flt_weak (FR.copy h1 h2 hn))
theorem Ow(x y:Nat) :af prog pU [] [.flt true x,.flt true y] ⟨.flt true (nA x y),[]⟩:=by
  have h:km C0 E0 (eW C0 E0 0 50) pU [] [.flt true x,.flt true y] (some [])=some (⟨.flt true (dM .or .u64
      ((IntKind.u64.wrap ((x:Int)*2^min (Int.toNat 1) IntKind.u64.bits)).fdiv (2^min (Int.toNat 1) IntKind.u64.bits))
      (IntKind.u64.wrap ((y:Int).fdiv (2^min (Int.toNat 63) IntKind.u64.bits)*2^min (Int.toNat 63) IntKind.u64.bits))).toNat,[]⟩,[true,true,true,true],some []):=by kernel_rfl
  have:=af.run jn qK _ _ _ h ⟨rfl,rfl,rfl,rfl,trivial⟩
  rw [TZ,W6,Xn,Int.toNat_natCast] at this;exact this
theorem Xc(e1 e2:Bool)(x y:Nat)(hn:isNaN y=true→isNaN x=true) :af prog pU [] [.flt e1 x,.flt e2 y] ⟨.flt false (nA x y),[]⟩ :=
  uL (r:=fun x y=>.flt true (nA x y)) Ow (fun x' y' h1 h2 ρ w u h=>h.flt_weak (FR.copy h1 h2 hn))
def Lm(L:List aw)(args:List AV) :Option (List oU) :=
  match L,args with
  | [],[.flt e1 x,.flt e2 y]=>bif e1&&e2 then one (.flt true (nA x y)) [] else one (.flt false (nA x y)) [!isNaN y||isNaN x]
  | _,_=>none
def V8:aA:=⟨tj,fun L args=>match L,args with | [],[.flt e x]=>one (.flt e (sa x)) [] | _,_=>none⟩
def RR:aA:=⟨rr,fun L args=>match L,args with | [],[.flt e x]=>one (.flt e (sa x)) [] | _,_=>none⟩
def Fe:aA:=⟨lf,Lm⟩
def T7:aA:=⟨pU,Lm⟩
theorem V9:aL prog V8:=by
  intro L args alts a h ha ho
  simp only [V8] at h
  split at h
  · exact nH h ha ho fun _=>Yi _ _
  · cases h
theorem UW:aL prog RR:=by
  intro L args alts a h ha ho
  simp only [RR] at h
  split at h
  · exact nH h ha ho fun _=>XU _ _
  · cases h
theorem XV{x y:Nat}(h:aq [!isNaN y||isNaN x]) :isNaN y=true→isNaN x=true:=by
  intro hy;have:=h.1;rw [hy] at this;simpa using this
theorem T8{f:FuncId}(hT:∀ x y,af prog f [] [.flt true x,.flt true y] ⟨.flt true (nA x y),[]⟩) 
    (hF:∀ e1 e2 x y,(isNaN y=true→isNaN x=true)→af prog f [] [.flt e1 x,.flt e2 y] ⟨.flt false (nA x y),[]⟩):aL prog ⟨f,Lm⟩:=by
  intro L args alts a h ha ho
  simp only [Lm] at h
  split at h
  · rename_i e1 x e2 y
    cases e1<;>cases e2<;>first | exact nH h ha ho fun q=>hF _ _ _ _ (XV q) | exact nH h ha ho fun q=>hT _ _
  · cases h
theorem Hj:aL prog Fe:=T8 Cs RQ
theorem RS:aL prog T7:=T8 Ow Xc
def L1:List aA:=[V8,RR,Fe,T7]
def S1:vq:=aK L1
theorem Yj:aO prog S1:=ap V9 (ap UW (ap Hj (ap RS (EZ _))))
end Go.Plb.Seat
namespace Go.Plb
noncomputable section
set_option linter.unusedSimpArgs false
set_option linter.unusedVariables false
set_option linter.unusedSectionVars false
variable [Rom]
def aa{α:Type}(o n:Nat)(l:List α) :List α:=(mi o l).take n
theorem T9{α:Type}(o n:Nat)(l:List α) :aa o n l=(l.drop o).take n:=by
  unfold aa mi;cases o<;>rfl
theorem kp{α:Type}{o n:Nat}{l:List α}(h:o+n≤l.length) :(aa o n l).length=n:=by rw [T9];simp;omega
theorem Wa{α:Type}{o n:Nat}{l:List α}{i:Nat}{v:α}(h:(aa o n l)[i]? = some v) :l[o+i]? = some v:=by
  rw [T9,List.getElem?_take] at h
  split at h
  · rw [List.getElem?_drop] at h;exact h
  · cases h
def aG{α:Type}(o n:Nat)(xs:List α) :Bool:=Nat.ble (o+n) xs.length
theorem zP{α:Type}{o n:Nat}{xs:List α} :aG o n xs=true↔o+n≤xs.length:=by unfold aG;rw [Nat.ble_eq]
theorem C5{l:Lv}{d d':aw}{w es o n:Nat}(h:∀ x v,d'.cell? x=some v→d.cell? (o*w+x)=some v)(hr:d.recKept→d'.recKept)(hk:d'.kept=true)(hg:d'.foreign=true) :
    aW (.imm l d w es o n) (.imm l d' w es 0 n):=by
  intro ρ w' u hv
  cases hv with
  | imm _ _ _ _ _ _ cap bl o' u' ha hb hc hv' hl' hr' _ _ =>
    have:=VR.imm (ρ:=ρ) (w:=w') l d' w es 0 n cap bl (o'+o*w) (fun x=>u' (o*w+x)) ha hb
      (fun x v hx=>by rw [Nat.add_assoc];exact hc _ v (h x v hx)) (fun x v hx=>hv' _ v (h x v hx)) hl' (hr hr') (fun _=>hk) hg
    simpa using this
  | immEnd _ _ _ _ _ _ _ hr'=>exact .immEnd _ _ _ _ _ _ _ (hr hr') (fun _=>hk) hg
theorem C6{l:Lv}{d':aw}{w es:Nat}(hr:d'.recKept)(hk:d'.kept=true)(hg:d'.foreign=true) :aW .nsl (.imm l d' w es 0 0):=by
  intro ρ w' u hv;cases hv;exact .immEnd _ _ _ _ _ _ _ hr (fun _=>hk) hg
theorem C7{l:Lv}{d':aw}{w es:Nat}(hr:d'.recKept)(hk:d'.kept=true)(hg:d'.foreign=true) :aW .esl (.imm l d' w es 0 0):=by
  intro ρ w' u hv;cases hv;exact .immEnd _ _ _ _ _ _ _ hr (fun _=>hk) hg
theorem fA.get:∀ {l1 l2:List AV},fA l1 l2→∀ {x:Nat} {v:AV},l2[x]? = some v→∃ v0,l1[x]? = some v0∧aW v0 v
  | _,_,.nil,x,v,h=>by simp at h
  | _,_,.cons a t,0,v,h=>by simp at h;subst h;exact ⟨_,rfl,a⟩
  | _,_,.cons a t,x+1,v,h=>by
    obtain ⟨v0,h1,h2⟩:=fA.get t (by simpa using h)
    exact ⟨v0,by simpa using h1,h2⟩
theorem Ff{lv:Lv}{l1 l2:List AV}{k i j:Nat}(h:fA l1 l2)(hk:cT l1=true→cT l2=true)(hg:bi l1=true→bi l2=true) :aW (.iptr lv (.vs l1) k i j) (.iptr lv (.vs l2) k i j):=by
  intro ρ w u hv
  cases hv with | iptr _ _ _ _ _ bl o u' ha hb hc hv' hr hk' hg' =>
  refine .iptr _ _ _ _ _ bl o u' ha hb (fun x v hx=>?_) (fun x v hx=>?_) trivial (fun q=>hk (hk' q)) (hg hg')
  · obtain ⟨v0,h1,h2⟩:=h.get hx
    exact hc x v0 h1
  · obtain ⟨v0,h1,h2⟩:=h.get hx
    exact h2 _ _ _ (hv' x v0 h1)
theorem aW.fn{f:Fn}{a b a' b':List AV}(h:fA a a')(k:fA b b') :aW (.fn f a b) (.fn f a' b'):=by
  intro ρ w u hv
  cases hv with | fn _ _ _ c1 c2 h1 h2=>exact .fn _ _ _ _ _ (h.vrs h1) (k.vrs h2)
theorem aW.iface{t:TypeId}{a b:AV}(h:aW a b) :aW (.iface t a) (.iface t b):=by
  intro ρ w u hv
  cases hv with | iface _ _ u h1=>exact .iface _ _ _ (h _ _ _ h1)
theorem aW.any(v:AV) :aW v .any:=fun _ _ u _=>.any u
inductive CK where
  | cf
  | ci (k:IntKind)
  | cb
  | cs
  | cfl
  | cns (k:IntKind)
def CK.Ty:CK→Type
  | .cf=>List Nat
  | .ci _=>List Int
  | .cb=>List Bool
  | .cs=>List ByteArray
  | .cfl=>List (List Nat)
  | .cns _=>List (List Int)
def CK.fit:(k:CK)→(o n:Nat)→fq→Option k.Ty
  | .cf,o,n,.cf xs=>some (aa o n xs)
  | .ci k,o,n,.ci k' xs=>bif bX k k' then some (aa o n xs) else none
  | .cb,o,n,.cb xs=>some (aa o n xs)
  | .cs,o,n,.cs xs=>some (aa o n xs)
  | .cfl,o,n,.cfl xs=>some (aa o n xs)
  | .cns k,o,n,.cns k' xs=>bif bX k k' then some (aa o n xs) else none
  | _,_,_,_=>none
def CK.emp:(k:CK)→k.Ty
  | .cf=>([]:List Nat)
  | .ci _=>([]:List Int)
  | .cb=>([]:List Bool)
  | .cs=>([]:List ByteArray)
  | .cfl=>([]:List (List Nat))
  | .cns _=>([]:List (List Int))
def CK.col:(k:CK)→k.Ty→fq
  | .cf,xs=>.cf xs
  | .ci k,xs=>.ci k xs
  | .cb,xs=>.cb xs
  | .cs,xs=>.cs xs
  | .cfl,xs=>.cfl xs
  | .cns k,xs=>.cns k xs
theorem qq{a b:IntKind} :bX a b=true↔a=b:=by simp [bX]
theorem oq{α:Type}{f:α→AV}{o n i:Nat}{xs:List α}{v:AV}(h:((aa o n xs)[i]?).map f=some v) :(xs[o+i]?).map f=some v:=by
  simp only [Option.map_eq_some_iff] at h ⊢
  obtain ⟨y,h1,h2⟩:=h
  exact ⟨y,Wa h1,h2⟩
theorem CK.fit_spec:∀ {k:CK} {o n:Nat} {c:fq} {t:k.Ty},k.fit o n c=some t→(o+n≤c.len→(k.col t).len=n)∧∀ i v,(k.col t).cell? i=some v→c.cell? (o+i)=some v:=by
  intro k o n c t h
  cases k<;>cases c<;>simp only [CK.fit] at h<;>try (cases h;done)
  case cf.cf xs=>cases h;exact ⟨fun q=>kp q,fun i v q=>oq q⟩
  case ci.ci k k' xs =>
    cases e:bX k k' with
    | false=>rw [e] at h;cases h
    | true=>rw [e] at h;cases h;cases (qq.1 e);exact ⟨fun q=>kp q,fun i v q=>oq q⟩
  case cb.cb xs=>cases h;exact ⟨fun q=>kp q,fun i v q=>oq q⟩
  case cs.cs xs=>cases h;exact ⟨fun q=>kp q,fun i v q=>oq q⟩
  case cfl.cfl xs=>cases h;exact ⟨fun q=>kp q,fun i v q=>oq q⟩
  case cns.cns k k' xs =>
    cases e:bX k k' with
    | false=>rw [e] at h;cases h
    | true=>rw [e] at h;cases h;cases (qq.1 e);exact ⟨fun q=>kp q,fun i v q=>oq q⟩
theorem CK.emp_len:∀ (k:CK),(k.col k.emp).len=0:=by intro k;cases k<;>rfl
def CKs.Ty:List CK→Type
  | []=>Unit
  | k::l=>k.Ty×CKs.Ty l
def CKs.fit:(l:List CK)→(o n:Nat)→List fq→Option (CKs.Ty l)
  | [],_,_,[]=>some ()
  | k::l,o,n,c::cs=>(k.fit o n c).bind fun t=>(CKs.fit l o n cs).map fun r=>(t,r)
  | _,_,_,_=>none
def CKs.emp:(l:List CK)→CKs.Ty l
  | []=>()
  | k::l=>(k.emp,CKs.emp l)
def CKs.cols:(l:List CK)→CKs.Ty l→List fq
  | [],_=>[]
  | k::l,t=>k.col t.1::CKs.cols l t.2
theorem CKs.len:∀ {l:List CK} {t:CKs.Ty l},(CKs.cols l t).length=l.length
  | [],t=>rfl
  | k::l,t=>by simp [CKs.cols,CKs.len]
theorem Ct:∀ {l:List CK} {o n:Nat} {cs:List fq} {t:CKs.Ty l},CKs.fit l o n cs=some t→cs.length=l.length
  | [],o,n,[],t,h=>rfl
  | [],o,n,c::cs,t,h=>by simp [CKs.fit] at h
  | k::l,o,n,[],t,h=>by simp [CKs.fit] at h
  | k::l,o,n,c::cs,t,h=>by
    simp only [CKs.fit] at h
    cases e1:k.fit o n c with
    | none=>rw [e1] at h;cases h
    | some a =>
      rw [e1] at h
      cases e2:CKs.fit l o n cs with
      | none=>simp only [Option.bind_some,e2] at h;cases h
      | some b=>simp [Ct e2]
theorem CKs.fit_spec:∀ {l:List CK} {o n:Nat} {cs:List fq} {t:CKs.Ty l},CKs.fit l o n cs=some t→∀ (j:Nat) (c':fq),(CKs.cols l t)[j]? = some c'→∃ c:fq,cs[j]? = some c∧(o+n≤c.len→c'.len=n)∧∀ i v,c'.cell? i=some v→c.cell? (o+i)=some v
  | [],o,n,cs,t,h,j,c',q=>by simp [CKs.cols] at q
  | k::l,o,n,[],t,h,j,c',q=>by simp [CKs.fit] at h
  | k::l,o,n,c::cs,t,h,j,c',q=>by
    simp only [CKs.fit] at h
    cases e1:k.fit o n c with
    | none=>rw [e1] at h;cases h
    | some a =>
      rw [e1] at h
      cases e2:CKs.fit l o n cs with
      | none=>simp only [Option.bind_some,e2] at h;cases h
      | some b =>
        simp only [Option.bind_some,e2] at h
        cases h
        cases j with
        | zero=>simp [CKs.cols] at q;subst q;exact ⟨c,rfl,CK.fit_spec e1⟩
        | succ j=>exact CKs.fit_spec e2 j c' (by simpa [CKs.cols] using q)
theorem CKs.emp_len:∀ (l:List CK),∀ c∈CKs.cols l (CKs.emp l),c.len=0
  | [],c,h=>by cases h
  | k::l,c,h=>by
    simp only [CKs.cols,CKs.emp,List.mem_cons] at h
    rcases h with rfl | h
    · exact CK.emp_len k
    · exact CKs.emp_len l c h
mutual
inductive yQ where
  | int (k:IntKind)
  | flt (ex:Bool)
  | bool
  | kbool (b:Bool)
  | str
  | fl
  | ns (k:IntKind)
  | bs
  | ss
  | cols (l:List CK)
  | ivs (ps:mY) (w i j:Nat)
  | fn (f:FuncId) (a b:mY)
  | nfn
  | nptr
  | nsl
  | agg (ps:mY)
  | tup (ps:mY)
  | iface (t:TypeId) (p:yQ)
  | niface
  | any
  | lsl (b:Nat)
  | lptr (b w i j:Nat)
inductive mY where
  | nil
  | cons (p:yQ) (ps:mY)
end
mutual
def yQ.Ty:yQ→Type
  | .int _=>Int
  | .flt _=>Nat
  | .bool=>Bool
  | .str=>ByteArray
  | .fl=>Lv×List Nat
  | .ns _=>Lv×List Int
  | .bs=>Lv×List Bool
  | .ss=>Lv×List ByteArray
  | .cols l=>Lv×Nat×CKs.Ty l
  | .ivs ps _ _ _=>Lv×ps.Ty
  | .fn _ a b=>a.Ty×b.Ty
  | .agg ps=>ps.Ty
  | .tup ps=>ps.Ty
  | .iface _ p=>p.Ty
  | .kbool _=>Unit
  | .nfn=>Unit
  | .nptr=>Unit
  | .nsl=>Unit
  | .niface=>Unit
  | .any=>Unit
  | .lsl _=>Nat×Nat×Nat
  | .lptr _ _ _ _=>Unit
def mY.Ty:mY→Type
  | .nil=>Unit
  | .cons p ps=>p.Ty×ps.Ty
end
mutual
def yQ.av:(p:yQ)→p.Ty→AV
  | .int k,n=>.int k n
  | .flt ex,x=>.flt ex x
  | .bool,b=>.bool false b
  | .str,s=>.str s
  | .fl,t=>.imm t.1 (.fl t.2) 1 1 0 t.2.length
  | .ns k,t=>.imm t.1 (.ns k t.2) 1 1 0 t.2.length
  | .bs,t=>.imm t.1 (.bs t.2) 1 1 0 t.2.length
  | .ss,t=>.imm t.1 (.ss t.2) 1 1 0 t.2.length
  | .cols l,t=>.imm t.1 (.cols t.2.1 (CKs.cols l t.2.2)) l.length l.length 0 t.2.1
  | .ivs ps w i j,t=>.iptr t.1 (.vs (ps.avs t.2)) w i j
  | .fn f a b,t=>.fn (.func f) (a.avs t.1) (b.avs t.2)
  | .agg ps,t=>.agg (ps.avs t)
  | .tup ps,t=>.tup (ps.avs t)
  | .iface y p,t=>.iface y (p.av t)
  | .kbool b,_=>.bool true b
  | .nfn,_=>.nfn
  | .nptr,_=>.nptr
  | .nsl,_=>.nsl
  | .niface,_=>.niface
  | .any,_=>.any
  | .lsl b,t=>.sl b 1 1 t.1 t.2.1 t.2.2
  | .lptr b w i j,_=>.ptr b w i j
def mY.avs:(ps:mY)→ps.Ty→List AV
  | .nil,_=>[]
  | .cons p ps,t=>p.av t.1::ps.avs t.2
end
def RT(a b:Bool) :Bool:=bif a then b else !b
theorem RU{a b:Bool} :RT a b=true↔a=b:=by cases a<;>cases b<;>simp [RT]
def CKs.ok(n:Nat)(m:Nat) :Bool:=Nat.ble n m
def Wb(k:IntKind) :AV→Option (Int×List Bool)
  | .int k' n=>bif bX k k' then some (n,[]) else none
  | _=>none
def Wc(ex:Bool) :AV→Option (Nat×List Bool)
  | .flt ex' x=>bif ex && !ex' then none else some (x,[])
  | _=>none
def Ua:AV→Option (Bool×List Bool)
  | .bool kn b=>bif kn then none else some (b,[])
  | _=>none
def Ox(b:Bool) :AV→Option (Unit×List Bool)
  | .bool kn b'=>bif kn&&RT b b' then some ((),[]) else none
  | _=>none
def Wd:AV→Option (ByteArray×List Bool)
  | .str s=>some (s,[])
  | _=>none
def JL{α:Type}(f:aw→Option (List α)) :AV→Option ((Lv×List α)×List Bool)
  | .imm l d w es o n=>(f d).bind fun xs=>bif Nat.beq w 1&&Nat.beq es 1 then some ((l,aa o n xs),[aG o n xs]) else none
  | .nsl=>some ((.free,[]),[])
  | .esl=>some ((.free,[]),[])
  | _=>none
def We:aw→Option (List Nat)
  | .fl xs=>some xs
  | _=>none
def Wf(k:IntKind) :aw→Option (List Int)
  | .ns k' xs=>bif bX k k' then some xs else none
  | _=>none
def Wg:aw→Option (List Bool)
  | .bs xs=>some xs
  | _=>none
def Xo:aw→Option (List ByteArray)
  | .ss xs=>some xs
  | _=>none
def Xp:aw→Option (List AV)
  | .vs xs=>some xs
  | _=>none
def Ub:aw→Option (Nat×List fq)
  | .cols m cs=>some (m,cs)
  | _=>none
def Ln(ks:List CK) :AV→Option ((Lv×Nat×CKs.Ty ks)×List Bool)
  | .imm l d w es o n=>(Ub d).bind fun q=>bif Nat.beq w ks.length&&Nat.beq es ks.length then (CKs.fit ks o n q.2).map fun t=>((l,n,t),[Nat.ble (o+n) q.1]) else none
  | .nsl=>some ((.free,0,CKs.emp ks),[])
  | .esl=>some ((.free,0,CKs.emp ks),[])
  | _=>none
def Xq(w i j:Nat) :AV→Option (Lv×List AV)
  | .iptr l d w' i' j'=>(Xp d).bind fun xs=>bif Nat.beq w w'&&(Nat.beq i i'&&Nat.beq j j') then some (l,xs) else none
  | _=>none
def Yk(f:FuncId) :AV→Option (List AV×List AV)
  | .fn (.func f') x y=>bif Nat.beq f f' then some (x,y) else none
  | _=>none
def Xr:AV→Option (List AV)
  | .agg l=>some l
  | _=>none
def Xs:AV→Option (List AV)
  | .tup l=>some l
  | _=>none
def Uc(t:TypeId) :AV→Option AV
  | .iface t' v=>bif Nat.beq t t' then some v else none
  | _=>none
def Xt:AV→Option (Unit×List Bool)
  | .nfn=>some ((),[])
  | _=>none
def Wh:AV→Option (Unit×List Bool)
  | .nptr=>some ((),[])
  | _=>none
def Xu:AV→Option (Unit×List Bool)
  | .nsl=>some ((),[])
  | _=>none
def Wi(b:Nat) :AV→Option ((Nat×Nat×Nat)×List Bool)
  | .sl b' w es i len cap=>bif Nat.beq b b'&&(Nat.beq w 1&&Nat.beq es 1) then some ((i,len,cap),[]) else none
  | _=>none
def Ud(b w i j:Nat) :AV→Option (Unit×List Bool)
  | .ptr b' w' i' j'=>bif (Nat.beq b b'&&Nat.beq w w')&&(Nat.beq i i'&&Nat.beq j j') then some ((),[]) else none
  | _=>none
def Oy:AV→Option (Unit×List Bool)
  | .niface=>some ((),[])
  | _=>none
mutual
def yQ.fit:(p:yQ)→AV→Option (p.Ty×List Bool)
  | .int k=>Wb k
  | .flt ex=>Wc ex
  | .bool=>Ua
  | .kbool b=>Ox b
  | .str=>Wd
  | .fl=>JL We
  | .ns k=>JL (Wf k)
  | .bs=>JL Wg
  | .ss=>JL Xo
  | .cols ks=>Ln ks
  | .ivs ps w i j=>fun v=>match Xq w i j v with
    | some q=>match ps.fit q.2 with
      | some r=>some ((q.1,r.1),r.2)
      | none=>none
    | none=>none
  | .fn f a b=>fun v=>match Yk f v with
    | some q=>match a.fit q.1 with
      | some r=>match b.fit q.2 with
        | some s=>some ((r.1,s.1),r.2++s.2)
        | none=>none
      | none=>none
    | none=>none
  | .agg ps=>fun v=>match Xr v with
    | some l=>ps.fit l
    | none=>none
  | .tup ps=>fun v=>match Xs v with
    | some l=>ps.fit l
    | none=>none
  | .iface t p=>fun v=>match Uc t v with
    | some u=>p.fit u
    | none=>none
  | .nfn=>Xt
  | .nptr=>Wh
  | .nsl=>Xu
  | .niface=>Oy
  | .any=>fun _=>some ((),[])
  | .lsl b=>Wi b
  | .lptr b w i j=>Ud b w i j
def mY.fit:(ps:mY)→List AV→Option (ps.Ty×List Bool)
  | .nil=>fun l=>match l with
    | []=>some ((),[])
    | _::_=>none
  | .cons p ps=>fun l=>match l with
    | []=>none
    | v::l=>match p.fit v with
      | some r=>match ps.fit l with
        | some s=>some ((r.1,s.1),r.2++s.2)
        | none=>none
      | none=>none
end
theorem UX{ks:List CK}{o n m:Nat}{cs:List fq}{t:CKs.Ty ks}(h:CKs.fit ks o n cs=some t) :∀ x v,(aw.cols n (CKs.cols ks t)).cell? x=some v→(aw.cols m cs).cell? (o*ks.length+x)=some v:=by
  intro x v hx
  have hl:=Ct h
  obtain ⟨c',h1,_,h3⟩:=fJ hx
  obtain ⟨c,q1,_,q3⟩:=CKs.fit_spec h _ _ h1
  rw [CKs.len] at h1 h3 q1
  have hpos:0<ks.length:=by
    have:=(List.getElem?_eq_some_iff.1 q1).1
    omega
  simp only [aw.cell?,hl,Option.bind_eq_some_iff]
  refine ⟨c,?_,?_⟩
  · rw [Nat.add_comm,Nat.add_mul_mod_self_right];exact q1
  · rw [Nat.add_comm,Nat.add_mul_div_right _ _ hpos,Nat.add_comm];exact q3 _ _ h3
structure Wk (v v':AV):Prop where
  weak:aW v v'
  kept:v.kept=true→v'.kept=true
  foreign:v.foreign=true→v'.foreign=true
structure Yy (v v':List AV):Prop where
  weak:fA v v'
  kept:cT v=true→cT v'=true
  foreign:bi v=true→bi v'=true
theorem Wk.refl(v:AV) :Wk v v:=⟨aW.refl v,id,id⟩
theorem Wk.fltL(x:Nat) :Wk (.flt true x) (.flt false x):=⟨fun ρ w u h=>(by
  cases h with | flt _ _ y hf =>
  rcases hf with rfl | ⟨q,_⟩
  · exact .flt _ _ _ (.inl rfl)
  · cases q),id,id⟩
theorem Yy.cons{v v':AV}{l l':List AV}(h:Wk v v')(k:Yy l l') :Yy (v::l) (v'::l') :=
  ⟨.cons h.weak k.weak,fun q=>by simp only [cT,Bool.and_eq_true] at q ⊢;exact ⟨h.kept q.1,k.kept q.2⟩,fun q=>by simp only [bi,Bool.and_eq_true] at q ⊢;exact ⟨h.foreign q.1,k.foreign q.2⟩⟩
theorem Wk.part{l:Lv}{d d':aw}{w es o n:Nat}(h:∀ x v,d'.cell? x=some v→d.cell? (o*w+x)=some v)(hr:d.recKept→d'.recKept)(hk:d'.kept=true)(hg:d'.foreign=true) :Wk (.imm l d w es o n) (.imm l d' w es 0 n) :=
  ⟨C5 h hr hk hg,id,id⟩
theorem Wk.nsl{d':aw}{w es:Nat}(hr:d'.recKept)(hk:d'.kept=true)(hg:d'.foreign=true) :Wk .nsl (.imm .free d' w es 0 0):=⟨C6 hr hk hg,id,id⟩
theorem Wk.esl{d':aw}{w es:Nat}(hr:d'.recKept)(hk:d'.kept=true)(hg:d'.foreign=true) :Wk .esl (.imm .free d' w es 0 0):=⟨C7 hr hk hg,id,id⟩
theorem Wk.fl{l:Lv}{xs:List Nat}{o n:Nat}(h:aG o n xs=true) :Wk (.imm l (.fl xs) 1 1 o n) (.imm l (.fl (aa o n xs)) 1 1 0 (aa o n xs).length):=by
  rw [kp (zP.1 h)];exact .part (fun x v q=>by rw [Nat.mul_one];exact oq q) (fun _=>trivial) rfl rfl
theorem Wk.ns{k:IntKind}{l:Lv}{xs:List Int}{o n:Nat}(h:aG o n xs=true) :Wk (.imm l (.ns k xs) 1 1 o n) (.imm l (.ns k (aa o n xs)) 1 1 0 (aa o n xs).length):=by
  rw [kp (zP.1 h)];exact .part (fun x v q=>by rw [Nat.mul_one];exact oq q) (fun _=>trivial) rfl rfl
theorem Wk.bs{l:Lv}{xs:List Bool}{o n:Nat}(h:aG o n xs=true) :Wk (.imm l (.bs xs) 1 1 o n) (.imm l (.bs (aa o n xs)) 1 1 0 (aa o n xs).length):=by
  rw [kp (zP.1 h)];exact .part (fun x v q=>by rw [Nat.mul_one];exact oq q) (fun _=>trivial) rfl rfl
theorem Wk.ss{l:Lv}{xs:List ByteArray}{o n:Nat}(h:aG o n xs=true) :Wk (.imm l (.ss xs) 1 1 o n) (.imm l (.ss (aa o n xs)) 1 1 0 (aa o n xs).length):=by
  rw [kp (zP.1 h)];exact .part (fun x v q=>by rw [Nat.mul_one];exact oq q) (fun _=>trivial) rfl rfl
theorem Wj{ks:List CK}{o n m:Nat}{cs:List fq}{t:CKs.Ty ks}(h:CKs.fit ks o n cs=some t)(hm:o+n≤m) :(aw.cols m cs).recKept→(aw.cols n (CKs.cols ks t)).recKept:=by
  intro hr c hc
  obtain ⟨j,hj⟩:=List.getElem?_of_mem hc
  obtain ⟨c0,q1,q2,_⟩:=CKs.fit_spec h j c hj
  exact q2 (by rw [hr c0 (List.mem_of_getElem? q1)];exact hm)
theorem Yl{w es n:Nat}(h:(Nat.beq w n&&Nat.beq es n)=true) :w=n∧es=n:=by
  rw [Bool.and_eq_true] at h;exact ⟨Nat.eq_of_beq_eq_true h.1,Nat.eq_of_beq_eq_true h.2⟩
theorem pW{α:Type}{c:Bool}{a:α}{x:α}(h:(bif c then some a else none)=some x) :c=true∧a=x:=by
  cases c with
  | true=>exact ⟨rfl,by simpa using h⟩
  | false=>cases h
theorem Ym{α:Type}{c:Bool}{a:Option α}{x:α}(h:(bif c then a else none)=some x) :c=true∧a=some x:=by
  cases c with
  | true=>exact ⟨rfl,h⟩
  | false=>cases h
theorem tr{α:Type}{f:aw→Option (List α)}{g:List α→aw}(hg:∀ {d xs},f d=some xs→d=g xs) 
    (hw:∀ {l xs o n},aG o n xs=true→Wk (.imm l (g xs) 1 1 o n) (.imm l (g (aa o n xs)) 1 1 0 (aa o n xs).length)) (h0:(g []).recKept∧(g []).kept=true∧(g []).foreign=true)
    {v:AV} {t:Lv×List α} {o:List Bool} (h:JL f v=some (t,o)) (ho:aq o):Wk v (.imm t.1 (g t.2) 1 1 0 t.2.length):=by
  unfold JL at h
  split at h
  · rename_i l d w es i n
    cases e:f d with
    | none=>rw [e] at h;cases h
    | some xs =>
      rw [e] at h
      obtain ⟨e2,h⟩:=pW h
      obtain ⟨rfl,rfl⟩:=Yl e2
      cases h;cases hg e;exact hw ho.1
  · cases h;exact .nsl h0.1 h0.2.1 h0.2.2
  · cases h;exact .esl h0.1 h0.2.1 h0.2.2
  · cases h
theorem Lo{ks:List CK}{v:AV}{t:Lv×Nat×CKs.Ty ks}{o:List Bool}(h:Ln ks v=some (t,o))(ho:aq o) :Wk v (.imm t.1 (.cols t.2.1 (CKs.cols ks t.2.2)) ks.length ks.length 0 t.2.1):=by
  unfold Ln at h
  split at h
  · rename_i l d w es i n
    cases d<;>simp only [Ub,Option.bind_none,Option.bind_some,reduceCtorEq] at h
    rename_i m cs
    have e:=(Ym h).1;replace h:=(Ym h).2
    obtain ⟨rfl,rfl⟩:=Yl e
    cases e2:CKs.fit ks i n cs with
    | none=>rw [e2] at h;cases h
    | some r =>
      rw [e2] at h;cases h
      have:i+n≤m:=Nat.le_of_ble_eq_true ho.1
      exact .part (UX e2) (Wj e2 this) rfl rfl
  · cases h;exact .nsl (CKs.emp_len ks) rfl rfl
  · cases h;exact .esl (CKs.emp_len ks) rfl rfl
  · cases h
mutual
theorem yQ.fit_spec:∀ (p:yQ) (v:AV) {t:p.Ty} {o:List Bool},p.fit v=some (t,o)→aq o→Wk v (p.av t)
  | .int k,v,t,o,h,ho=>by
    simp only [yQ.fit,Wb] at h
    split at h
    · obtain ⟨e,h⟩:=pW h
      cases h;cases qq.1 e;exact .refl _
    · cases h
  | .flt ex,v,t,o,h,ho=>by
    simp only [yQ.fit,Wc] at h
    split at h
    · rename_i ex' x
      cases ex with
      | true =>
        cases ex' with
        | true=>cases h;exact .refl _
        | false=>cases h
      | false =>
        cases ex' with
        | true=>cases h;exact .fltL x
        | false=>cases h;exact .refl _
    · cases h
  | .bool,v,t,o,h,ho=>by
    simp only [yQ.fit,Ua] at h
    split at h
    · rename_i kn b
      cases kn with
      | true=>cases h
      | false=>cases h;exact .refl _
    · cases h
  | .kbool b,v,t,o,h,ho=>by
    simp only [yQ.fit,Ox] at h
    split at h
    · obtain ⟨e,h⟩:=pW h
      rw [Bool.and_eq_true] at e
      cases e.1;cases RU.1 e.2;exact .refl _
    · cases h
  | .str,v,t,o,h,ho=>by
    simp only [yQ.fit,Wd] at h
    split at h
    · cases h;exact .refl _
    · cases h
  | .fl,v,t,o,h,ho=>tr (g:=.fl) (f:=We) (fun {d xs} e=>by cases d<;>cases e;rfl) (fun q=>.fl q) ⟨trivial,rfl,rfl⟩ h ho
  | .ns k,v,t,o,h,ho=>tr (g:=.ns k) (f:=Wf k) (fun {d xs} e=>by
      cases d<;>try (cases e;done)
      have e1:=(pW e).1;replace e:=(pW e).2
      cases qq.1 e1;cases e;rfl) (fun q=>.ns q) ⟨trivial,rfl,rfl⟩ h ho
  | .bs,v,t,o,h,ho=>tr (g:=.bs) (f:=Wg) (fun {d xs} e=>by cases d<;>cases e;rfl) (fun q=>.bs q) ⟨trivial,rfl,rfl⟩ h ho
  | .ss,v,t,o,h,ho=>tr (g:=.ss) (f:=Xo) (fun {d xs} e=>by cases d<;>cases e;rfl) (fun q=>.ss q) ⟨trivial,rfl,rfl⟩ h ho
  | .cols ks,v,t,o,h,ho=>Lo h ho
  | .ivs ps w i j,v,t,o,h,ho=>by
    simp only [yQ.fit] at h
    split at h
    case h_2=>cases h
    rename_i q hq
    split at h
    case h_2=>cases h
    rename_i r hr
    cases h
    unfold Xq at hq
    split at hq
    case h_2=>cases hq
    rename_i l d w' i' j'
    cases d<;>simp only [Xp,Option.bind_none,Option.bind_some,reduceCtorEq] at hq
    rename_i xs
    have e:=(pW hq).1;replace hq:=(pW hq).2
    rw [Bool.and_eq_true,Bool.and_eq_true] at e
    cases Nat.eq_of_beq_eq_true e.1
    cases Nat.eq_of_beq_eq_true e.2.1
    cases Nat.eq_of_beq_eq_true e.2.2
    cases hq
    have:=mY.fit_spec ps xs hr ho
    exact ⟨Ff this.weak this.kept this.foreign,id,id⟩
  | .fn f a b,v,t,o,h,ho=>by
    simp only [yQ.fit] at h
    split at h
    case h_2=>cases h
    rename_i q hq
    split at h
    case h_2=>cases h
    rename_i r hr
    split at h
    case h_2=>cases h
    rename_i s hs
    cases h
    unfold Yk at hq
    split at hq
    case h_2=>cases hq
    have e:=(pW hq).1;replace hq:=(pW hq).2
    cases Nat.eq_of_beq_eq_true e
    cases hq
    rw [aU] at ho
    have h1:=mY.fit_spec a _ hr ho.1
    have h2:=mY.fit_spec b _ hs ho.2
    refine ⟨aW.fn h1.weak h2.weak,fun q=>?_,fun q=>?_⟩
    · simp only [yQ.av,AV.kept,Bool.and_eq_true] at q ⊢;exact ⟨h1.kept q.1,h2.kept q.2⟩
    · simp only [yQ.av,AV.foreign,Bool.and_eq_true] at q ⊢;exact ⟨h1.foreign q.1,h2.foreign q.2⟩
  | .agg ps,v,t,o,h,ho=>by
    simp only [yQ.fit] at h
    split at h
    case h_2=>cases h
    rename_i l hl
    cases v<;>simp only [Xr,reduceCtorEq,Option.some.injEq] at hl
    subst hl
    have:=mY.fit_spec ps _ h ho
    exact ⟨aW.agg this.weak,this.kept,this.foreign⟩
  | .tup ps,v,t,o,h,ho=>by
    simp only [yQ.fit] at h
    split at h
    case h_2=>cases h
    rename_i l hl
    cases v<;>simp only [Xs,reduceCtorEq,Option.some.injEq] at hl
    subst hl
    have:=mY.fit_spec ps _ h ho
    exact ⟨aW.tup this.weak,this.kept,this.foreign⟩
  | .iface y p,v,t,o,h,ho=>by
    simp only [yQ.fit] at h
    split at h
    case h_2=>cases h
    rename_i u hu
    unfold Uc at hu
    split at hu
    case h_2=>cases hu
    have e:=(pW hu).1;replace hu:=(pW hu).2
    cases Nat.eq_of_beq_eq_true e
    subst hu
    have:=yQ.fit_spec p _ h ho
    exact ⟨aW.iface this.weak,this.kept,this.foreign⟩
  | .nfn,v,t,o,h,ho=>by
    cases v<;>simp only [yQ.fit,Xt,reduceCtorEq] at h
    exact .refl _
  | .nptr,v,t,o,h,ho=>by
    cases v<;>simp only [yQ.fit,Wh,reduceCtorEq] at h
    exact .refl _
  | .nsl,v,t,o,h,ho=>by
    cases v<;>simp only [yQ.fit,Xu,reduceCtorEq] at h
    exact .refl _
  | .niface,v,t,o,h,ho=>by
    cases v<;>simp only [yQ.fit,Oy,reduceCtorEq] at h
    exact .refl _
  | .any,v,t,o,h,ho=>⟨aW.any v,fun _=>rfl,fun _=>rfl⟩
  | .lsl b,v,t,o,h,ho=>by
    simp only [yQ.fit,Wi] at h
    split at h
    · have e:=(pW h).1;replace h:=(pW h).2
      rw [Bool.and_eq_true,Bool.and_eq_true] at e
      cases Nat.eq_of_beq_eq_true e.1
      cases Nat.eq_of_beq_eq_true e.2.1
      cases Nat.eq_of_beq_eq_true e.2.2
      cases h;exact .refl _
    · cases h
  | .lptr b w i j,v,t,o,h,ho=>by
    simp only [yQ.fit,Ud] at h
    split at h
    · have e:=(pW h).1;replace h:=(pW h).2
      rw [Bool.and_eq_true,Bool.and_eq_true,Bool.and_eq_true] at e
      cases Nat.eq_of_beq_eq_true e.1.1
      cases Nat.eq_of_beq_eq_true e.1.2
      cases Nat.eq_of_beq_eq_true e.2.1
      cases Nat.eq_of_beq_eq_true e.2.2
      exact .refl _
    · cases h
theorem mY.fit_spec:∀ (ps:mY) (l:List AV) {t:ps.Ty} {o:List Bool},ps.fit l=some (t,o)→aq o→Yy l (ps.avs t)
  | .nil,[],t,o,h,ho=>⟨.nil,id,id⟩
  | .nil,v::l,t,o,h,ho=>by simp [mY.fit] at h
  | .cons p ps,[],t,o,h,ho=>by simp [mY.fit] at h
  | .cons p ps,v::l,t,o,h,ho=>by
    simp only [mY.fit] at h
    split at h
    case h_2=>cases h
    rename_i r hr
    split at h
    case h_2=>cases h
    rename_i s hs
    cases h
    rw [aU] at ho
    exact .cons (yQ.fit_spec p v hr ho.1) (mY.fit_spec ps l hs ho.2)
end
def ca(f:FuncId)(ps:mY)(alts:ps.Ty→List oU) :aA :=
  ⟨f, fun L args => match L with
    | []=>match ps.fit args with
      | some r=>some ((alts r.1).map fun a=>⟨a.out,r.2++a.obs⟩)
      | none=>none
    | _=>none⟩
theorem aP{P:Program}{f:FuncId}{ps:mY}{alts:ps.Ty→List oU}(h:∀ t,∀ a∈alts t,aq a.obs→af P f [] (ps.avs t) a.out) :aL P (ca f ps alts):=by
  intro L args al a hal ha ho
  simp only [ca] at hal
  split at hal
  case h_2=>cases hal
  split at hal
  case h_2=>cases hal
  rename_i r hr
  obtain ⟨t,o⟩:=r
  simp only [Option.some.injEq] at hal
  subst hal
  simp only [List.mem_map] at ha
  obtain ⟨b,hb,rfl⟩:=ha
  simp only [aU] at ho
  exact (h t b hb ho.2).args (mY.fit_spec ps args hr ho.1).weak
inductive CP where
  | int (k:IntKind)
  | flt
  | fltx
  | bool
  | str
  | lsl (b:Nat)
  | lsl0 (b:Nat)
  | lptr (b w i j:Nat)
  | nsl
  | nptr
def CP.Ty:CP→Type
  | .int _=>Int
  | .flt=>Nat
  | .fltx=>Nat
  | .bool=>Bool
  | .str=>ByteArray
  | .lsl _=>Nat×Nat×Nat
  | .lsl0 _=>Nat×Nat
  | .lptr _ _ _ _=>Unit
  | .nsl=>Unit
  | .nptr=>Unit
def CP.av:(p:CP)→p.Ty→AV
  | .int k,n=>.int k n
  | .flt,x=>.flt false x
  | .fltx,x=>.flt true x
  | .bool,b=>.bool false b
  | .str,s=>.str s
  | .lsl b,t=>.sl b 1 1 t.1 t.2.1 t.2.2
  | .lsl0 b,t=>.sl b 1 1 0 t.1 t.2
  | .lptr b w i j,_=>.ptr b w i j
  | .nsl,_=>.nsl
  | .nptr,_=>.nptr
def Xv(k:IntKind) :AV→Option Int
  | .int k' n=>bif bX k k' then some n else none
  | _=>none
def Xw:AV→Option Nat
  | .flt ex x=>bif ex then none else some x
  | _=>none
def Wl:AV→Option Nat
  | .flt ex x=>bif ex then some x else none
  | _=>none
def Wm:AV→Option Bool
  | .bool kn b=>bif kn then none else some b
  | _=>none
def Xx:AV→Option ByteArray
  | .str s=>some s
  | _=>none
def Xy(b:Nat) :AV→Option (Nat×Nat×Nat)
  | .sl b' w es i len cap=>bif Nat.beq b b'&&(Nat.beq w 1&&Nat.beq es 1) then some (i,len,cap) else none
  | _=>none
def Wn(b:Nat) :AV→Option (Nat×Nat)
  | .sl b' w es i len cap=>bif Nat.beq b b'&&(Nat.beq w 1&&Nat.beq es 1)&&Nat.beq i 0 then some (len,cap) else none
  | _=>none
def Wo(b w i j:Nat) :AV→Option Unit
  | .ptr b' w' i' j'=>bif (Nat.beq b b'&&Nat.beq w w')&&(Nat.beq i i'&&Nat.beq j j') then some () else none
  | _=>none
def Xz:AV→Option Unit
  | .nsl=>some ()
  | _=>none
def Wp:AV→Option Unit
  | .nptr=>some ()
  | _=>none
def CP.fit:(p:CP)→AV→Option p.Ty
  | .int k=>Xv k
  | .flt=>Xw
  | .fltx=>Wl
  | .bool=>Wm
  | .str=>Xx
  | .lsl b=>Xy b
  | .lsl0 b=>Wn b
  | .lptr b w i j=>Wo b w i j
  | .nsl=>Xz
  | .nptr=>Wp
theorem Yn{c:Bool}{α:Type}{a x:α}(h:(bif c then none else some a)=some x) :c=false∧a=x:=by
  cases c with
  | true=>cases h
  | false=>exact ⟨rfl,by simpa using h⟩
theorem CP.fit_spec:∀ (p:CP) {v:AV} {t:p.Ty},p.fit v=some t→v=p.av t
  | .int k,v,t,h=>by
    simp only [CP.fit,Xv] at h
    split at h
    · obtain ⟨e,h⟩:=pW h
      cases h;cases qq.1 e;rfl
    · cases h
  | .flt,v,t,h=>by
    simp only [CP.fit,Xw] at h
    split at h
    · obtain ⟨e,h⟩:=Yn h
      cases h;cases e;rfl
    · cases h
  | .fltx,v,t,h=>by
    simp only [CP.fit,Wl] at h
    split at h
    · obtain ⟨e,h⟩:=pW h
      cases h;cases e;rfl
    · cases h
  | .bool,v,t,h=>by
    simp only [CP.fit,Wm] at h
    split at h
    · obtain ⟨e,h⟩:=Yn h
      cases h;cases e;rfl
    · cases h
  | .str,v,t,h=>by
    simp only [CP.fit,Xx] at h
    split at h
    · cases h;rfl
    · cases h
  | .lsl b,v,t,h=>by
    simp only [CP.fit,Xy] at h
    split at h
    · have e:=(pW h).1;replace h:=(pW h).2
      rw [Bool.and_eq_true,Bool.and_eq_true] at e
      cases Nat.eq_of_beq_eq_true e.1
      cases Nat.eq_of_beq_eq_true e.2.1
      cases Nat.eq_of_beq_eq_true e.2.2
      cases h;rfl
    · cases h
  | .lsl0 b,v,t,h=>by
    simp only [CP.fit,Wn] at h
    split at h
    · have e:=(pW h).1;replace h:=(pW h).2
      rw [Bool.and_eq_true,Bool.and_eq_true,Bool.and_eq_true] at e
      cases Nat.eq_of_beq_eq_true e.1.1
      cases Nat.eq_of_beq_eq_true e.1.2.1
      cases Nat.eq_of_beq_eq_true e.1.2.2
      cases Nat.eq_of_beq_eq_true e.2
      cases h;rfl
    · cases h
  | .lptr b w i j,v,t,h=>by
    simp only [CP.fit,Wo] at h
    split at h
    · have e:=(pW h).1;clear h
      rw [Bool.and_eq_true,Bool.and_eq_true,Bool.and_eq_true] at e
      cases Nat.eq_of_beq_eq_true e.1.1
      cases Nat.eq_of_beq_eq_true e.1.2
      cases Nat.eq_of_beq_eq_true e.2.1
      cases Nat.eq_of_beq_eq_true e.2.2
      rfl
    · cases h
  | .nsl,v,t,h=>by
    simp only [CP.fit,Xz] at h
    split at h
    · rfl
    · cases h
  | .nptr,v,t,h=>by
    simp only [CP.fit,Wp] at h
    split at h
    · rfl
    · cases h
def CPs.Ty:List CP→Type
  | []=>Unit
  | p::l=>p.Ty×CPs.Ty l
def CPs.avs:(l:List CP)→CPs.Ty l→List AV
  | [],_=>[]
  | p::l,t=>p.av t.1::CPs.avs l t.2
def CPs.fit:(l:List CP)→List AV→Option (CPs.Ty l)
  | []=>fun vs=>match vs with
    | []=>some ()
    | _::_=>none
  | p::l=>fun vs=>match vs with
    | []=>none
    | v::vs=>match p.fit v with
      | some t=>match CPs.fit l vs with
        | some r=>some (t,r)
        | none=>none
      | none=>none
theorem CPs.fit_spec:∀ (l:List CP) {vs:List AV} {t:CPs.Ty l},CPs.fit l vs=some t→vs=CPs.avs l t
  | [],[],t,h=>rfl
  | [],_::_,t,h=>by cases h
  | _::_,[],t,h=>by cases h
  | p::l,v::vs,t,h=>by
    simp only [CPs.fit] at h
    split at h
    case h_2=>cases h
    rename_i x hx
    split at h
    case h_2=>cases h
    rename_i r hr
    cases h
    simp only [CPs.avs]
    rw [←CP.fit_spec p hx,←CPs.fit_spec l hr]
inductive BK where
  | fl
  | ns (k:IntKind)
  | bs
  | vs (l:List CP)
def BK.Ty:BK→Type
  | .fl=>List Nat
  | .ns _=>List Int
  | .bs=>List Bool
  | .vs l=>CPs.Ty l
def BK.blk:(k:BK)→k.Ty→aw
  | .fl,xs=>.fl xs
  | .ns k,xs=>.ns k xs
  | .bs,xs=>.bs xs
  | .vs l,t=>.vs (CPs.avs l t)
def YF(l:List CP) :aw→Option (CPs.Ty l)
  | .vs xs=>CPs.fit l xs
  | _=>none
def BK.fit:(k:BK)→aw→Option k.Ty
  | .fl=>We
  | .ns k=>Wf k
  | .bs=>Wg
  | .vs l=>YF l
theorem BK.fit_spec:∀ (k:BK) {d:aw} {t:k.Ty},k.fit d=some t→d=k.blk t
  | .fl,d,t,h=>by cases d<;>cases h;rfl
  | .ns k,d,t,h=>by
    cases d<;>try (cases h;done)
    have e1:=(pW h).1;replace h:=(pW h).2
    cases qq.1 e1;cases h;rfl
  | .bs,d,t,h=>by cases d<;>cases h;rfl
  | .vs l,d,t,h=>by
    cases d<;>try (cases h;done)
    exact congrArg aw.vs (CPs.fit_spec l h)
def BKs.Ty:List BK→Type
  | []=>Unit
  | k::l=>k.Ty×BKs.Ty l
def zQ:(l:List BK)→BKs.Ty l→List aw
  | [],_=>[]
  | k::l,t=>k.blk t.1::zQ l t.2
def BKs.fit:(l:List BK)→List aw→Option (BKs.Ty l)
  | [],[]=>some ()
  | [],_::_=>none
  | _::_,[]=>none
  | k::l,d::ds=>match k.fit d with
    | some t=>match BKs.fit l ds with
      | some r=>some (t,r)
      | none=>none
    | none=>none
theorem BKs.fit_spec:∀ (l:List BK) {ds:List aw} {t:BKs.Ty l},BKs.fit l ds=some t→ds=zQ l t
  | [],[],t,h=>rfl
  | [],_::_,t,h=>by cases h
  | _::_,[],t,h=>by cases h
  | k::l,d::ds,t,h=>by
    simp only [BKs.fit] at h
    split at h
    case h_2=>cases h
    rename_i x hx
    split at h
    case h_2=>cases h
    rename_i r hr
    cases h
    simp only [zQ]
    rw [←BK.fit_spec k hx,←BKs.fit_spec l hr]
def Oz(f:FuncId)(bs:List BK)(ps:mY)(alts:BKs.Ty bs→ps.Ty→List oU) :aA :=
  ⟨f, fun L args => match BKs.fit bs L with
    | some x=>match ps.fit args with
      | some r=>some ((alts x r.1).map fun a=>⟨a.out,r.2++a.obs⟩)
      | none=>none
    | none=>none⟩
theorem Fg{P:Program}{f:FuncId}{bs:List BK}{ps:mY}{alts:BKs.Ty bs→ps.Ty→List oU}(h:∀ x t,∀ a∈alts x t,aq a.obs→af P f (zQ bs x) (ps.avs t) a.out) :aL P (Oz f bs ps alts):=by
  intro L args al a hal ha ho
  simp only [Oz] at hal
  split at hal
  case h_2=>cases hal
  rename_i x hx
  split at hal
  case h_2=>cases hal
  rename_i r hr
  obtain ⟨t,o⟩:=r
  simp only [Option.some.injEq] at hal
  subst hal
  simp only [List.mem_map] at ha
  obtain ⟨b,hb,rfl⟩:=ha
  simp only [aU] at ho
  have:=(h x t b hb ho.2).args (mY.fit_spec ps args hr ho.1).weak
  rwa [←BKs.fit_spec bs hx] at this
theorem Fh{P:Program}{f:FuncId}{L:List aw}{l:List AV} :∀ a∈([]:List oU),aq a.obs→af P f L l a.out:=fun a h=>by cases h
theorem wI{P:Program}{f:FuncId}{L:List aw}{l:List AV}{o:fZ}{b:Bool}{al:List oU}(h:b=true→af P f L l o)(t:∀ a∈al,aq a.obs→af P f L l a.out) :∀ a∈(⟨o,[b]⟩:oU)::al,aq a.obs→af P f L l a.out:=by
  intro a ha ho
  rcases List.mem_cons.1 ha with rfl | ha
  · exact h ho.1
  · exact t a ha ho
theorem aZ{P:Program}{f:FuncId}{l:List AV} :∀ a∈([]:List oU),aq a.obs→af P f [] l a.out:=fun a h=>by cases h
theorem aQ{P:Program}{f:FuncId}{l:List AV}{o:fZ}{b:Bool}{al:List oU}(h:b=true→af P f [] l o)(t:∀ a∈al,aq a.obs→af P f [] l a.out) :∀ a∈(⟨o,[b]⟩:oU)::al,aq a.obs→af P f [] l a.out:=by
  intro a ha ho
  rcases List.mem_cons.1 ha with rfl | ha
  · exact h ho.1
  · exact t a ha ho
end
end Go.Plb
namespace Go.Plb.Seat
open Go Go.Plb
set_option linter.unusedSimpArgs false
set_option linter.unusedVariables false
set_option maxRecDepth 100000
def Ue(n:Nat) :Bool:=Nat.ble n 1000000000
noncomputable def Yo:Empty→aC:=fun a=>a.elim
noncomputable def Yp:Unit→AE×aC:=fun _=>(.ret,⟨aj 8 [(2,.sl 0 1 1 0 0 0)],[(0,.fl [])],1⟩)
noncomputable def YG:Unit→fZ:=fun _=>⟨.sl 0 1 1 0 0 0,[some (.fl [])]⟩
theorem Xd:af prog cn [] [.zsl true] ⟨.sl 0 1 1 0 0 0,[some (.fl [])]⟩ :=
  Sg.contract (x:=()) (X:=Unit) (N:=Yo) (E:=Yp) (m:=some (.inr ())) false YG (by kernel_rfl:prog.funcs[cn]? = some (FN cn)) (by kernel_rfl:(FN cn).body=some (ph cn))
    (Sg.seg (C:=C0) jn qK 60 (dd (ph cn)) (om (FN cn) [] [.zsl true]) (.leaf (.inr ())) Yo Yp [⟨[(.slot 2,.own 1 1 (.fl []))],[64],[2]⟩] (by kernel_rfl))
    (fun _=>⟨.inr rfl,[.sl 0 1 1 0 0 0],[],by kernel_rfl,trivial,by kernel_rfl⟩) rfl
theorem Wq:af prog cn [] [.zsl false] ⟨.sl 0 1 1 0 0 0,[some (.fl [])]⟩ :=
  af.run jn qK (some []) 0 60 (p':=some []) (obs:=[]) (by kernel_rfl) Yx
theorem Xe(l:Lv) :af prog cn [] [.imm l (.fl []) 1 1 0 0] ⟨.sl 0 1 1 0 0 0,[some (.fl [])]⟩:=by
  intro ρ w us hN hv
  cases hv with | cons _ u _ _ h1 h2 =>
  cases h2
  have key:∀ (a:Option Addr) cap,cd ρ w [.zsl a.isNone] [.slice a 0 cap]:=fun a cap=>.cons _ _ _ _ (.zsl a cap) .nil
  have all:∀ b,af prog cn [] [.zsl b] ⟨.sl 0 1 1 0 0 0,[some (.fl [])]⟩:=fun b=>by
    cases b
    · exact Wq
    · exact Xd
  cases h1 with
  | imm _ _ _ _ _ _ cap bl o u'=>exact all _ ρ w _ hN (key _ cap)
  | immEnd _ _ _ _ _ cap a=>exact all _ ρ w _ hN (key a cap)
theorem Xf(l:Lv)(xs:List Nat)(hl:xs.length≤1000000000) :af prog cn [] [.imm l (.fl xs) 1 1 0 xs.length] ⟨.sl 0 1 1 0 xs.length xs.length,[some (.fl xs)]⟩:=by
  rcases Nat.eq_zero_or_pos xs.length with h0 | h0
  · have:xs=[]:=List.length_eq_zero_iff.1 h0
    subst this
    exact Xe l
  · have h:km C0 E0 (eW C0 E0 0 60) cn [] [.imm l (.fl xs) 1 1 0 xs.length] (some [])=some (⟨.sl 0 1 1 0 (0+xs.length) (0+xs.length),[some (.fl (List.take 0 []++List.take xs.length xs))]⟩,
        [Nat.blt 0 xs.length,ma ((0+xs.length)*8) 140737488355328,ma (0+xs.length) 9223372036854775807,ma xs.length xs.length,ma 0 ([]:List Nat).length],some []):=by kernel_rfl
    have:=af.run jn qK _ _ _ h (ob (by rw [Nat.blt_eq];exact h0)<|ob (by simp [ma];omega)<|ob (by simp [ma];omega)<|ob (by simp [ma])<|ob rfl Yx)
    simp only [Nat.zero_add,List.take_zero,List.nil_append,List.take_length] at this
    exact this
noncomputable def Uf:aA:=ca cn (.cons .fl .nil) fun t=>[⟨⟨.sl 0 1 1 0 t.1.2.length t.1.2.length,[some (.fl t.1.2)]⟩,[Ue t.1.2.length]⟩]
theorem RV:aL prog Uf:=aP fun t=>aQ (fun h=>Xf t.1.1 t.1.2 (Nat.le_of_ble_eq_true h)) aZ
noncomputable def YS:List aA:=Uf::L1
theorem XW:aO prog (aK YS):=ap RV Yj
noncomputable def OA:Empty→aC:=fun a=>a.elim
noncomputable def OB:Unit→AE×aC:=fun _=>(.ret,⟨aj 8 [(2,.sl 0 1 1 0 0 0)],[(0,.ns .u64 [])],1⟩)
noncomputable def Wr:Unit→fZ:=fun _=>⟨.sl 0 1 1 0 0 0,[some (.ns .u64 [])]⟩
theorem OC:af prog bv [] [.zsl true] ⟨.sl 0 1 1 0 0 0,[some (.ns .u64 [])]⟩ :=
  Sg.contract (x:=()) (X:=Unit) (N:=OA) (E:=OB) (m:=some (.inr ())) false Wr (by kernel_rfl:prog.funcs[bv]? = some (FN bv)) (by kernel_rfl:(FN bv).body=some (ph bv))
    (Sg.seg (C:=C0) jn qK 60 (dd (ph bv)) (om (FN bv) [] [.zsl true]) (.leaf (.inr ())) OA OB [⟨[(.slot 2,.own 1 1 (.ns .u64 []))],[64],[2]⟩] (by kernel_rfl))
    (fun _=>⟨.inr rfl,[.sl 0 1 1 0 0 0],[],by kernel_rfl,trivial,by kernel_rfl⟩) rfl
theorem Lp:af prog bv [] [.zsl false] ⟨.sl 0 1 1 0 0 0,[some (.ns .u64 [])]⟩ :=
  af.run jn qK (some []) 0 60 (p':=some []) (obs:=[]) (by kernel_rfl) Yx
theorem OD(l:Lv) :af prog bv [] [.imm l (.ns .u64 []) 1 1 0 0] ⟨.sl 0 1 1 0 0 0,[some (.ns .u64 [])]⟩:=by
  intro ρ w us hN hv
  cases hv with | cons _ u _ _ h1 h2 =>
  cases h2
  have key:∀ (a:Option Addr) cap,cd ρ w [.zsl a.isNone] [.slice a 0 cap]:=fun a cap=>.cons _ _ _ _ (.zsl a cap) .nil
  have all:∀ b,af prog bv [] [.zsl b] ⟨.sl 0 1 1 0 0 0,[some (.ns .u64 [])]⟩:=fun b=>by
    cases b
    · exact Lp
    · exact OC
  cases h1 with
  | imm _ _ _ _ _ _ cap bl o u'=>exact all _ ρ w _ hN (key _ cap)
  | immEnd _ _ _ _ _ cap a=>exact all _ ρ w _ hN (key a cap)
theorem OE(l:Lv)(xs:List Int)(hl:xs.length≤1000000000) :af prog bv [] [.imm l (.ns .u64 xs) 1 1 0 xs.length] ⟨.sl 0 1 1 0 xs.length xs.length,[some (.ns .u64 xs)]⟩:=by
  rcases Nat.eq_zero_or_pos xs.length with h0 | h0
  · have:xs=[]:=List.length_eq_zero_iff.1 h0
    subst this
    exact OD l
  · have h:km C0 E0 (eW C0 E0 0 60) bv [] [.imm l (.ns .u64 xs) 1 1 0 xs.length] (some [])=some (⟨.sl 0 1 1 0 (0+xs.length) (0+xs.length),[some (.ns .u64 (List.take 0 ([]:List Int)++List.take xs.length xs))]⟩,
        [Nat.blt 0 xs.length,ma ((0+xs.length)*8) 140737488355328,ma (0+xs.length) 9223372036854775807,ma xs.length xs.length,ma 0 ([]:List Int).length],some []):=by kernel_rfl
    have:=af.run jn qK _ _ _ h (ob (by rw [Nat.blt_eq];exact h0)<|ob (by simp [ma];omega)<|ob (by simp [ma];omega)<|ob (by simp [ma])<|ob rfl Yx)
    simp only [Nat.zero_add,List.take_zero,List.nil_append,List.take_length] at this
    exact this
noncomputable def Cu:aA:=ca bv (.cons (.ns .u64) .nil) fun t=>[⟨⟨.sl 0 1 1 0 t.1.2.length t.1.2.length,[some (.ns .u64 t.1.2)]⟩,[Ue t.1.2.length]⟩]
theorem Fi:aL prog Cu:=aP fun t=>aQ (fun h=>OE t.1.1 t.1.2 (Nat.le_of_ble_eq_true h)) aZ
noncomputable def Ug:List aA:=Cu::YS
theorem RW:aO prog (aK Ug):=ap Fi XW
noncomputable def L2:List aA:=Ug
theorem Yq:aO prog (aK L2):=RW
end Go.Plb.Seat
namespace Go.Plb.Seat
open Go Go.Plb
set_option linter.unusedSimpArgs false
set_option linter.unusedVariables false
theorem Ws{n:Nat}(h:isNaN n=true) :n/4503599627370496%2048=2047:=by
  rw [me,decide_eq_true_eq] at h;omega
theorem Wt(n:Nat) :Int.tmod (Int.fdiv (n:Int) (2^min (Int.toNat 52) IntKind.u64.bits)) 2048=((n/4503599627370496%2048:Nat):Int):=by
  have e:(2^min (Int.toNat 52) IntKind.u64.bits:Int)=((4503599627370496:Nat):Int):=by decide
  rw [e,Int.fdiv_eq_ediv_of_nonneg _ (by omega)];exact Int.tmod_eq_emod_of_nonneg (Int.natCast_nonneg _)
theorem af.nan{f:FuncId}{g:Nat→fZ}{r:fZ}(h:∀ n:Nat,af prog f [] [.int .u64 (n:Int)] (g n))(e:∀ n:Nat,isNaN n=true→g n=r) :af prog f [] [.nan] r:=by
  intro ρ w us hN hv
  cases hv with | cons _ u _ _ h1 h2 =>
  cases h2
  cases h1 with | nan n hn =>
  rw [←e n hn]
  exact h n ρ w _ hN (.cons _ _ _ _ (.int _ _) .nil)
theorem UY:af prog my [] [.nan] ⟨.bool false false,[]⟩:=by
  refine af.nan (g:=fun n=>⟨.bool false ((Int.tmod (Int.fdiv (n:Int) (2^min (Int.toNat 52) IntKind.u64.bits)) 2048) != 2047),[]⟩) (fun n=>?_) (fun n hn=>?_)
  · have h:km C0 E0 (eW C0 E0 0 50) my [] [.int .u64 n] (some [])=some (⟨.bool false ((Int.tmod (Int.fdiv (n:Int) (2^min (Int.toNat 52) IntKind.u64.bits)) 2048) != 2047),[]⟩,[(decide ((0:Int)≤52)),((2048:Int) != 0)],some []):=by kernel_rfl
    exact af.run jn qK _ _ _ h ⟨rfl,rfl,trivial⟩
  · simp only [Wt,Ws hn];rfl
theorem RX:af prog my [] [.nan] ⟨.bool true false,[]⟩:=UY.weak (qG _ _ _)
def BD:aA:=⟨my,fun L args=>match L,args with | [],[.nan]=>one (.bool true false) [] | _,_=>none⟩
theorem Lq:aL prog BD:=by
  intro L args alts a h ha ho
  simp only [BD] at h
  split at h
  · exact nH h ha ho fun q=>RX
  · cases h
noncomputable def L3:List aA:=BD::L2
theorem XA:aO prog (aK L3):=ap Lq Yq
end Go.Plb.Seat
namespace Go.Plb.Seat
noncomputable section
open Go Go.Plb
set_option linter.unusedVariables false
set_option maxRecDepth 100000
theorem br{S:vq}(hS:aO prog S){lent:List aw}{α X:Type}{cs:List Code}{st:aC}{t:T (α⊕X)}(N:α→aC){E:X→AE×aC}(ks:List NS) 
    (h:V5 C0 S 60 cs st t.leaves ks lent.length=T3 N E t.leaves:=by kernel_rfl):Sg prog lent cs st t.run N E:=Sg.seg jn hS 60 cs st t N E ks h
theorem GM{lent:List aw}{σ ρ X:Type}{cs:List Code}{st:aC}{E:X→AE×aC}{B:σ→Option (σ⊕(ρ⊕X))}{ent:σ}(s:NS)(I:σ→aC)(J:ρ→aC)(id:Nat)(hE:jU E)(hI:oV id E) 
    (hb:∀ a,Sg prog lent (dd (fB (cs.headD .skip))) (I a) (B a) I (dS id J E)) (hn:s.ok lent.length=true:=by exact rfl) (h1:s.on st=I ent:=by kernel_rfl) (hcs:cs=[.block id (.loop (fB (cs.headD .skip)))]:=by kernel_rfl) :
    Sg prog lent cs st (gR B ent) J E:=Sg.pre s hn h1 (UV hcs hE hI hb ent)
theorem YH{lent:List aw}{κ X:Type}{cs:List Code}{st:aC}{E:X→AE×aC}{m:Option (κ⊕(κ⊕X))}(K:κ→aC)(id:Nat)(hE:jU E)(hI:oV id E) 
    (hb:Sg prog lent (dd (inBlock (cs.headD .skip))) st m K (dS id K E)) (hcs:cs=[.block id (inBlock (cs.headD .skip))]:=by kernel_rfl):Sg prog lent cs st (Fd m) K E:=RP hcs hE hI hb
def mX:Empty→aC:=fun a=>a.elim
theorem mc{fn:Func}{k:Nat}{keep:Bool}{o:fZ}{st:aC}(vs:List AV)(h1:iD prog fn st fn.results.toList=some (vs,[]):=by kernel_rfl)(h2:EL k keep st.heap (Bp vs)=some o:=by kernel_rfl) :TY prog fn k keep o .ret st :=
  ⟨.inr rfl,vs,[],h1,trivial,h2⟩
theorem nB{f:FuncId}{X:Type}{m:Option (Empty⊕X)}{lent:List aw}{args:List AV}{x:X}(keep:Bool)(o:X→fZ)(E:X→AE×aC)(hx:mC m=some x) 
    (h:Sg prog lent (dd (ph f)) (om (FN f) lent args) m mX E) (hE:∀ x,TY prog (FN f) lent.length keep (o x) (E x).1 (E x).2)
    (hf:prog.funcs[f]? = some (FN f):=by kernel_rfl) (hc:(FN f).body=some (ph f):=by kernel_rfl):af prog f lent args (o x) :=
  Sg.contract (P:=prog) (f:=f) (fn:=FN f) (c:=ph f) (N:=mX) (E:=E) (lent:=lent) (args:=args) keep o hf hc h hE hx
end
end Go.Plb.Seat
namespace Go.Plb.Seat
open Go Go.Plb
set_option linter.unusedVariables false
set_option maxRecDepth 100000
noncomputable section
inductive bt where
  | r0 (a:Int)
def pX:bt→AE×aC
  | .r0 a=>(.ret,⟨aj 14 [(2,.int .i64 a)],[],0⟩)
def fC:bt→fZ
  | .r0 a=>⟨.int .i64 a,[]⟩
def pj(a:Int) :T ((Empty)⊕(bt)) :=
  .ask (a==(0:Int))
    (.leaf (.inr (.r0 (64:Int))))
    (.need (decide ((0:Int)≤(58:Int)))<|.need (fw (Int.fdiv (IntKind.u64.wrap ((dM .and .u64 a (IntKind.u64.wrap ((0:Int)-a)))*(285870213051353865:Int))) (2^(min (Int.toNat (58:Int)) (IntKind.u64.bits)))) 64)<|.need (fX (eE (eE 0 (GQ (Int.toNat (Int.fdiv (IntKind.u64.wrap ((dM .and .u64 a (IntKind.u64.wrap ((0:Int)-a)))*(285870213051353865:Int))) (2^(min (Int.toNat (58:Int)) (IntKind.u64.bits))))) 1)) 0) (List.length aR))<|.leaf (.inr (.r0 (IntKind.i64.wrap (List.getD aR (eE (eE 0 (GQ (Int.toNat (Int.fdiv (IntKind.u64.wrap ((dM .and .u64 a (IntKind.u64.wrap ((0:Int)-a)))*(285870213051353865:Int))) (2^(min (Int.toNat (58:Int)) (IntKind.u64.bits))))) 1)) 0) 0)))))
def cP(a:Int) :Option bt:=mC ((pj a).run)
theorem pk(a:Int){x:bt}(h:cP a=some x) :af prog je [] [.int .u64 a] (fC x) :=
  nB false fC pX h (br XA mX [⟨[],[],[2]⟩,⟨[],[],[2]⟩])
    (fun x=>by cases x with | r0 b=>exact mc [.int .i64 b])
def dH:Option bt→Bool
  | some _=>true
  | none=>false
def de:Option bt→Int
  | some (.r0 x)=>x
  | _=>0
theorem pm{x:Option bt}(h:dH x=true) :x=some (.r0 (de x)):=by
  unfold dH at h
  split at h<;>first | rfl | (cases h;done) | (rename_i y;cases y;rfl)
def jf:aA:=ca je (.cons (.int .u64) .nil) fun t=>(fun q=>[⟨fC (.r0 (de q)),[dH q]⟩]) (cP t.1)
theorem nJ:aL prog jf:=aP fun t=>(aQ (fun h=>pk t.1 (pm h)) aZ)
def jg:List aA:=jf::L3
theorem eM:aO prog (aK jg):=ap nJ XA
inductive ct where
  | r0 (a:Int) (b:Int)
def rx:ct→AE×aC
  | .r0 a b=>(.ret,⟨aj 51 [(4,.int .u64 a),(5,.int .u64 b)],[],0⟩)
theorem yj:jU rx:=by intro x;cases x<;>(intro h;cases h)
def mD:ct→fZ
  | .r0 a b=>⟨.tup [.int .u64 a,.int .u64 b],[]⟩
def yk(a:Int)(b:Int) :Int×Int×Int×Int→aC:=fun (c,d,e,f)=>⟨aj 51 [(0,.int .u64 a),(1,.int .u64 b),(6,.int .u64 c),(7,.int .u64 d),(9,.int .u64 e),(11,.int .u64 f)],[],0⟩
def yl(a:Int)(b:Int) :T ((Int×Int×Int×Int)⊕(ct)) :=
  .need (decide ((0:Int)≤(32:Int)))<|.need (decide ((0:Int)≤(32:Int)))<|.need (decide ((0:Int)≤(32:Int)))<|.leaf (.inl ((dM .and .u64 a (4294967295:Int)),(Int.fdiv a (2^(min (Int.toNat (32:Int)) (IntKind.u64.bits)))),(Int.fdiv b (2^(min (Int.toNat (32:Int)) (IntKind.u64.bits)))),(IntKind.u64.wrap ((IntKind.u64.wrap ((Int.fdiv a (2^(min (Int.toNat (32:Int)) (IntKind.u64.bits))))*(dM .and .u64 b (4294967295:Int))))+(Int.fdiv (IntKind.u64.wrap ((dM .and .u64 a (4294967295:Int))*(dM .and .u64 b (4294967295:Int)))) (2^(min (Int.toNat (32:Int)) (IntKind.u64.bits))))))))
def ym(c:Int)(d:Int)(e:Int)(f:Int)(a:Int)(b:Int) :T ((Empty)⊕(ct)) :=
  .need (decide ((0:Int)≤(32:Int)))<|.need (decide ((0:Int)≤(32:Int)))<|.leaf (.inr (.r0 (IntKind.u64.wrap ((IntKind.u64.wrap ((IntKind.u64.wrap (f*a))+(Int.fdiv b (2^(min (Int.toNat (32:Int)) (IntKind.u64.bits))))))+(Int.fdiv (IntKind.u64.wrap ((dM .and .u64 b (4294967295:Int))+(IntKind.u64.wrap (e*a)))) (2^(min (Int.toNat (32:Int)) (IntKind.u64.bits)))))) (IntKind.u64.wrap (c*d))))
def dZ(a:Int)(b:Int) :Option ct:=mC (aN ((yl a b).run) fun (c,d,e,f) =>
  (ym a b c d e f).run)
theorem yn(a:Int)(b:Int){x:ct}(h:dZ a b=some x) :af prog ru [] [.int .u64 a,.int .u64 b] (mD x) :=
  nB false mD rx h (Sg.cut 7 yj (br eM (yk a b) [⟨[],[],[0,1,6,7,9,11]⟩]) (fun ⟨e,f,g,i⟩=>br eM mX [⟨[],[],[4,5]⟩]))
    (fun x=>by cases x with | r0 c d=>exact mc [.int .u64 c,.int .u64 d])
def hX:Option ct→Bool
  | some _=>true
  | none=>false
def jo:Option ct→Int
  | some (.r0 x _)=>x
  | _=>0
def fe:Option ct→Int
  | some (.r0 _ x)=>x
  | _=>0
theorem yo{x:Option ct}(h:hX x=true) :x=some (.r0 (jo x) (fe x)):=by
  unfold hX at h
  split at h<;>first | rfl | (cases h;done) | (rename_i y;cases y;rfl)
def ry:aA:=ca ru (.cons (.int .u64) (.cons (.int .u64) .nil)) fun t=>(fun q=>[⟨mD (.r0 (jo q) (fe q)),[hX q]⟩]) (dZ t.1 t.2.1)
theorem vH:aL prog ry:=aP fun t=>(aQ (fun h=>yn t.1 t.2.1 (yo h)) aZ)
def rz:List aA:=ry::jg
theorem ff:aO prog (aK rz):=ap vH eM
inductive eN where
  | r0 (a:List Int) (b:Nat)
def tt(a:Lv) :eN→AE×aC
  | .r0 b c=>(.ret,⟨aj 21 [(2,.imm a (.ns .u64 b) 1 1 0 c)],[],0⟩)
theorem rA{a:Lv} :jU (tt a):=by intro x;cases x<;>(intro h;cases h)
theorem OF{a:Lv}(id:Nat) :oV id (tt a):=by intro x;cases x<;>(intro h;cases h)
def yp(a:Lv) :eN→fZ
  | .r0 b c=>⟨.imm a (.ns .u64 b) 1 1 0 c,[]⟩
def OG:List Code:=dd (ph lK)
def OH(b:Lv)(a:List Int)(_:Unit) :aC:=⟨aj 21 [(0,.imm b (.ns .u64 a) 1 1 0 (List.length a))],[],0⟩
def OI:T ((Unit)⊕(eN)) :=
  .leaf (.inl ())
def rB(a:Lv)(b:List Int)(c:Nat) :aC:=⟨aj 21 [(0,.imm a (.ns .u64 b) 1 1 0 c)],[],0⟩
def Cv(a:Lv)(b:List Int)(c:Nat) :aC:=⟨aj 21 [(0,.imm a (.ns .u64 b) 1 1 0 c)],[],0⟩
def Lr:List Code:=dd (fB ((((OG.drop 1).take 1)).headD .skip))
def OJ(a:Lv)(b:List Int)(c:Nat)(d:Bool) :aC:=⟨aj 21 [(0,.imm a (.ns .u64 b) 1 1 0 c),(14,.bool false d)],[],0⟩
def Ls(b:List Int)(a:Nat) :T ((Bool)⊕((Nat)⊕(eN))) :=
  .ask (decide (((a:Nat):Int)>(0:Int)))
    (.need (dN .i64 (((a:Nat):Int)-(1:Int)))<|.need (fw (((a:Nat):Int)-(1:Int)) a)<|.need (fX (Int.toNat (((a:Nat):Int)-(1:Int))) (List.length b))<|.leaf (.inl ((List.getD b (Int.toNat (((a:Nat):Int)-(1:Int))) 0)==(0:Int))))
    (.leaf (.inl false))
def Lt(a:Nat)(b:Bool) :T ((Nat)⊕((Nat)⊕(eN))) :=
  .ask b
    (.need (dN .i64 (((a:Nat):Int)-(1:Int)))<|.need (uU (((a:Nat):Int)-(1:Int)) a)<|.need (uU (0:Int) (Int.toNat (((a:Nat):Int)-(1:Int))))<|.leaf (.inl (Int.toNat (((a:Nat):Int)-(1:Int)))))
    (.leaf (.inr (.inl a)))
def tu(b:List Int) :Nat→Option ((Nat)⊕((Nat)⊕(eN))):=fun a =>
  aN ((Ls b a).run) fun c =>
  (Lt a c).run
theorem Lu(a:Lv)(b:List Int)(c:Nat) :Sg prog [] Lr (rB a b c) (tu b c) (rB a b) (dS 0 (Cv a b) (tt a)):=by
  unfold tu;exact Sg.cut 1 (bb rA) (br ff (OJ a b c) [⟨[],[],[0,14]⟩,⟨[],[],[0,14]⟩]) (fun d=>br ff (rB a b) [⟨[],[],[0]⟩,⟨[],[],[0]⟩])
def Lw(a:List Int)(b:Nat) :T ((Empty)⊕(eN)) :=
  .leaf (.inr (.r0 a b))
def an(a:List Int) :Option eN:=mC (aN ((OI).run) fun _ =>
  aN (gR (tu a) (List.length a)) fun b =>
  (Lw a b).run)
theorem OK(a:Lv)(b:List Int){x:eN}(h:an b=some x) :af prog lK [] [.imm a (.ns .u64 b) 1 1 0 (List.length b)] (yp a x) :=
  nB false (yp a) (tt a) h (Sg.cut 1 rA (br ff (OH a b) [⟨[],[],[0]⟩]) (fun _=>Sg.cut 1 rA (GM ⟨[],[],[0]⟩ (rB a b) (Cv a b) 0 rA (OF _) (fun c=>Lu a b c)) (fun f=>br ff mX [⟨[],[],[2]⟩])))
    (fun x=>by cases x with | r0 d e=>exact mc [.imm a (.ns .u64 d) 1 1 0 e])
def cI:Option eN→Bool
  | some _=>true
  | none=>false
def aM:Option eN→List Int
  | some (.r0 x _)=>x
  | _=>[]
def ax:Option eN→Nat
  | some (.r0 _ x)=>x
  | _=>0
theorem OL{x:Option eN}(h:cI x=true) :x=some (.r0 (aM x) (ax x)):=by
  unfold cI at h
  split at h<;>first | rfl | (cases h;done) | (rename_i y;cases y;rfl)
def Fj:aA:=ca lK (.cons (.ns .u64) .nil) fun t=>(fun q=>[⟨yp t.1.1 (.r0 (aM q) (ax q)),[cI q]⟩]) (an t.1.2)
theorem Hk:aL prog Fj:=aP fun t=>(aQ (fun h=>OK t.1.1 t.1.2 (OL h)) aZ)
def Fk:List aA:=Fj::rz
theorem sd:aO prog (aK Fk):=ap Hk ff
inductive fV where
  | r0 (a:Nat) (b:Nat) (c:List Int)
def Fl:fV→AE×aC
  | .r0 a b c=>(.ret,⟨aj 12 [(2,.sl 0 1 1 0 a a),(3,.int .i64 ((b:Nat):Int))],[(0,.ns .u64 c)],1⟩)
theorem OM:jU Fl:=by intro x;cases x<;>(intro h;cases h)
def yq:fV→fZ
  | .r0 a b c=>⟨.tup [.imm .free (.ns .u64 c) 1 1 0 a,.int .i64 ((b:Nat):Int)],[]⟩
def ON(a:Lv) :Nat×(List Int)×Nat→aC:=fun (b,c,d)=>⟨aj 12 [(1,.ptr 0 1 0 0),(4,.int .i64 ((b:Nat):Int))],[(0,.vs [.imm a (.ns .u64 c) 1 1 0 d])],1⟩
def OO(a:List Int) :T ((Nat×(List Int)×Nat)⊕(fV)) :=
  .ask (decide ((0:Int)<(1:Int)))
    (.need (fw (0:Int) 1)<|.need (aG 0 (List.length a) a)<|.need (cI (an (aa 0 (List.length a) a)))<|.ask (decide ((((ax (an (aa 0 (List.length a) a))):Nat):Int)>(4096:Int)))
      (.leaf (.inl (2,(aM (an (aa 0 (List.length a) a))),(ax (an (aa 0 (List.length a) a))))))
      (.need (dN .i64 (1:Int))<|.ask (decide ((1:Int)<(1:Int)))
        (.fail)
        (.leaf (.inl (0,(aM (an (aa 0 (List.length a) a))),(ax (an (aa 0 (List.length a) a))))))))
    (.fail)
def OP(c:Nat)(a:List Int)(b:Nat) :T ((Empty)⊕(fV)) :=
  .ask (((c:Nat):Int) != (0:Int))
    (.leaf (.inr (.r0 0 c ([]:List Int))))
    (.need (aG 0 b a)<|.need (Ue (List.length (aa 0 b a)))<|.leaf (.inr (.r0 (List.length (aa 0 b a)) 0 (aa 0 b a))))
def lL(a:List Int) :Option fV:=mC (aN ((OO a).run) fun (b,c,d) =>
  (OP b c d).run)
theorem OQ(b:Lv)(a:List Int){x:fV}(h:lL a=some x) :af prog yb [] [.imm b (.ns .u64 a) 1 1 0 (List.length a)] (yq x) :=
  nB true yq Fl h (Sg.cut 2 OM (br sd (ON b) [⟨[],[0],[1,4]⟩,⟨[],[0],[1,4]⟩]) (fun ⟨e,f,g⟩=>br sd mX [⟨[(.slot 2,.own 1 1 (.ns .u64 ([]:List Int)))],[81],[2,3]⟩,⟨[],[49],[2,3]⟩]))
    (fun x=>by cases x with | r0 c d i=>exact mc [.sl 0 1 1 0 c c,.int .i64 ((d:Nat):Int)])
def oW:Option fV→Bool
  | some _=>true
  | none=>false
def se:Option fV→Nat
  | some (.r0 x _ _)=>x
  | _=>0
def sf:Option fV→Nat
  | some (.r0 _ x _)=>x
  | _=>0
def sg:Option fV→List Int
  | some (.r0 _ _ x)=>x
  | _=>[]
theorem OR{x:Option fV}(h:oW x=true) :x=some (.r0 (se x) (sf x) (sg x)):=by
  unfold oW at h
  split at h<;>first | rfl | (cases h;done) | (rename_i y;cases y;rfl)
def Fm:aA:=ca yb (.cons (.ns .u64) .nil) fun t=>(fun q=>[⟨yq (.r0 (se q) (sf q) (sg q)),[oW q]⟩]) (lL t.1.2)
theorem Hl:aL prog Fm:=aP fun t=>(aQ (fun h=>OQ t.1.1 t.1.2 (OR h)) aZ)
def Fo:List aA:=Fm::Fk
theorem kq:aO prog (aK Fo):=ap Hl sd
inductive bY where
  | r0 (a:Nat) (b:Nat) (c:Nat) (d:List Int)
def ot:bY→AE×aC
  | .r0 a b c d=>(.ret,⟨aj 21 [(2,.sl 0 1 1 a b c)],[(0,.ns .u64 d)],1⟩)
theorem mE:jU ot:=by intro x;cases x<;>(intro h;cases h)
theorem Fp(id:Nat) :oV id ot:=by intro x;cases x<;>(intro h;cases h)
def sh:bY→fZ
  | .r0 a b c d=>⟨.sl 0 1 1 a b c,[some (.ns .u64 d)]⟩
def Fq:List Code:=dd (ph lK)
def Fr(a:List Int)(b:Nat)(c:Nat)(d:Nat)(_:Unit) :aC:=⟨aj 21 [(0,.sl 0 1 1 b c d)],[(0,.ns .u64 a)],1⟩
def Fs:T ((Unit)⊕(bY)) :=
  .leaf (.inl ())
def mF(a:List Int)(b:Nat) :Nat×Nat→aC:=fun (c,d)=>⟨aj 21 [(0,.sl 0 1 1 c d b)],[(0,.ns .u64 a)],1⟩
def vI(a:List Int)(b:Nat) :Nat×Nat→aC:=fun (c,d)=>⟨aj 21 [(0,.sl 0 1 1 c d b)],[(0,.ns .u64 a)],1⟩
def C8:List Code:=dd (fB ((((Fq.drop 1).take 1)).headD .skip))
def Ft(a:List Int)(b:Nat)(c:Nat)(d:Nat)(e:Bool) :aC:=⟨aj 21 [(0,.sl 0 1 1 c d b),(14,.bool false e)],[(0,.ns .u64 a)],1⟩
def C9(b:List Int)(c:Nat)(a:Nat) :T ((Bool)⊕((Nat×Nat)⊕(bY))) :=
  .ask (decide (((a:Nat):Int)>(0:Int)))
    (.need (dN .i64 (((a:Nat):Int)-(1:Int)))<|.need (fw (((a:Nat):Int)-(1:Int)) a)<|.need (fX (eE c (Int.toNat (((a:Nat):Int)-(1:Int)))) (List.length b))<|.leaf (.inl ((List.getD b (eE c (Int.toNat (((a:Nat):Int)-(1:Int)))) 0)==(0:Int))))
    (.leaf (.inl false))
def Da(c:Nat)(b:Nat)(a:Nat)(d:Bool) :T ((Nat×Nat)⊕((Nat×Nat)⊕(bY))) :=
  .ask d
    (.need (dN .i64 (((a:Nat):Int)-(1:Int)))<|.need (uU (((a:Nat):Int)-(1:Int)) c)<|.need (uU (0:Int) (Int.toNat (((a:Nat):Int)-(1:Int))))<|.leaf (.inl ((eE b 0),(Int.toNat (((a:Nat):Int)-(1:Int))))))
    (.leaf (.inr (.inl (b,a))))
def pn(c:List Int)(d:Nat) :Nat×Nat→Option ((Nat×Nat)⊕((Nat×Nat)⊕(bY))):=fun (a,b) =>
  aN ((C9 c a b).run) fun e =>
  (Da d a b e).run
theorem Db(a:List Int)(b:Nat)(c:Nat)(d:Nat) :Sg prog [.ns .u64 a] C8 (mF a b (c,d)) (pn a b (c,d)) (mF a b) (dS 0 (vI a b) ot):=by
  unfold pn;exact Sg.cut 1 (bb mE) (br kq (Ft a b c d) [⟨[],[0],[0,14]⟩,⟨[],[0],[0,14]⟩]) (fun e=>br kq (mF a b) [⟨[],[0],[0]⟩,⟨[],[0],[0]⟩])
def Dc(a:List Int)(b:Nat)(c:Nat)(d:Nat) :T ((Empty)⊕(bY)) :=
  .leaf (.inr (.r0 c d b a))
def aT(a:List Int)(c:Nat)(d:Nat)(b:Nat) :Option bY:=mC (aN ((Fs).run) fun _ =>
  aN (gR (pn a b) (c,d)) fun (e,f) =>
  (Dc a b e f).run)
theorem Fu(a:List Int)(c:Nat)(d:Nat)(b:Nat){x:bY}(h:aT a c d b=some x) :af prog lK [.ns .u64 a] [.sl 0 1 1 c d b] (sh x) :=
  nB false sh ot h (Sg.cut 1 mE (br kq (Fr a c d b) [⟨[],[0],[0]⟩]) (fun _=>Sg.cut 1 mE (GM ⟨[],[0],[0]⟩ (mF a b) (vI a b) 0 mE (Fp _) (fun ⟨e,f⟩=>Db a b e f)) (fun ⟨k,l⟩=>br kq mX [⟨[],[0],[2]⟩])))
    (fun x=>by cases x with | r0 g i j m=>exact mc [.sl 0 1 1 g i j])
def fg:Option bY→Bool
  | some _=>true
  | none=>false
def eO:Option bY→Nat
  | some (.r0 x _ _ _)=>x
  | _=>0
def eP:Option bY→Nat
  | some (.r0 _ x _ _)=>x
  | _=>0
def eQ:Option bY→Nat
  | some (.r0 _ _ x _)=>x
  | _=>0
def eR:Option bY→List Int
  | some (.r0 _ _ _ x)=>x
  | _=>[]
theorem Fv{x:Option bY}(h:fg x=true) :x=some (.r0 (eO x) (eP x) (eQ x) (eR x)):=by
  unfold fg at h
  split at h<;>first | rfl | (cases h;done) | (rename_i y;cases y;rfl)
def xf:aA:=Oz lK [.ns .u64] (.cons (.lsl 0) .nil) fun x t=>(fun q=>[⟨sh (.r0 (eO q) (eP q) (eQ q) (eR q)),[fg q]⟩]) (aT x.1 t.1.1 t.1.2.1 t.1.2.2)
theorem BE:aL prog xf:=Fg fun x t=>(wI (fun h=>Fu x.1 t.1.1 t.1.2.1 t.1.2.2 (Fv h)) Fh)
def xg:List aA:=xf::Fo
theorem nK:aO prog (aK xg):=ap BE kq
inductive iE where
  | r0 (a:Nat) (b:Nat) (c:Nat) (d:List Int)
def OS:iE→AE×aC
  | .r0 a b c d=>(.ret,⟨aj 6 [(2,.sl 0 1 1 a b c)],[(0,.ns .u64 d)],1⟩)
theorem UZ:jU OS:=by intro x;cases x<;>(intro h;cases h)
def Fw:iE→fZ
  | .r0 a b d c=>⟨.imm .free (.ns .u64 c) 1 1 a b,[]⟩
def U0:Nat×Nat×Nat×(List Int)→aC:=fun (a,b,c,d)=>⟨aj 6 [(2,.sl 0 1 1 a b c)],[(0,.ns .u64 d)],1⟩
def U1(a:Int) :T ((Nat×Nat×Nat×(List Int))⊕(iE)) :=
  .need (fg (aT [a] 0 1 1))<|.leaf (.inl ((eO (aT [a] 0 1 1)),(eP (aT [a] 0 1 1)),(eQ (aT [a] 0 1 1)),(eR (aT [a] 0 1 1))))
def U2(a:Nat)(b:Nat)(c:Nat)(d:List Int) :T ((Empty)⊕(iE)) :=
  .leaf (.inr (.r0 a b c d))
def aY(a:Int) :Option iE:=mC (aN ((U1 a).run) fun (b,c,d,e) =>
  (U2 b c d e).run)
theorem U3(a:Int){x:iE}(h:aY a=some x) :af prog E7 [] [.int .u64 a] (Fw x) :=
  nB true Fw OS h (Sg.cut 2 UZ (br nK U0 [⟨[],[32],[2]⟩]) (fun ⟨e,f,g,i⟩=>br nK mX [⟨[],[0],[2]⟩]))
    (fun x=>by cases x with | r0 b c d j=>exact mc [.sl 0 1 1 b c d])
def sF:Option iE→Bool
  | some _=>true
  | none=>false
def cJ:Option iE→Nat
  | some (.r0 x _ _ _)=>x
  | _=>0
def cK:Option iE→Nat
  | some (.r0 _ x _ _)=>x
  | _=>0
def Cw:Option iE→Nat
  | some (.r0 _ _ x _)=>x
  | _=>0
def cL:Option iE→List Int
  | some (.r0 _ _ _ x)=>x
  | _=>[]
theorem U4{x:Option iE}(h:sF x=true) :x=some (.r0 (cJ x) (cK x) (Cw x) (cL x)):=by
  unfold sF at h
  split at h<;>first | rfl | (cases h;done) | (rename_i y;cases y;rfl)
def OT:aA:=ca E7 (.cons (.int .u64) .nil) fun t=>(fun q=>[⟨Fw (.r0 (cJ q) (cK q) (Cw q) (cL q)),[sF q]⟩]) (aY t.1)
theorem OU:aL prog OT:=aP fun t=>(aQ (fun h=>U3 t.1 (U4 h)) aZ)
def OV:List aA:=OT::xg
theorem rC:aO prog (aK OV):=ap OU nK
inductive gS where
  | r0 (a:Int)
def wJ:gS→AE×aC
  | .r0 a=>(.ret,⟨aj 45 [(4,.int .i64 a)],[],0⟩)
theorem yu:jU wJ:=by intro x;cases x<;>(intro h;cases h)
theorem RY(id:Nat) :oV id wJ:=by intro x;cases x<;>(intro h;cases h)
def BF:gS→fZ
  | .r0 a=>⟨.int .i64 a,[]⟩
def RZ:List Code:=dd (ph By)
def R0(c:Lv)(a:List Int)(d:Lv)(b:List Int)(e:Int) :aC:=⟨aj 45 [(0,.imm c (.ns .u64 a) 1 1 0 (List.length a)),(1,.imm d (.ns .u64 b) 1 1 0 (List.length b)),(5,.int .i64 e)],[],0⟩
def R1(a:List Int)(b:List Int) :T ((Int)⊕(gS)) :=
  .ask (decide ((((List.length a):Nat):Int)<(((List.length b):Nat):Int)))
    (.leaf (.inr (.r0 (-1:Int))))
    (.ask (decide ((((List.length a):Nat):Int)>(((List.length b):Nat):Int)))
      (.leaf (.inr (.r0 (1:Int))))
      (.need (dN .i64 ((((List.length a):Nat):Int)-(1:Int)))<|.leaf (.inl ((((List.length a):Nat):Int)-(1:Int)))))
def tw(c:Lv)(a:List Int)(d:Lv)(b:List Int)(e:Int) :aC:=⟨aj 45 [(0,.imm c (.ns .u64 a) 1 1 0 (List.length a)),(1,.imm d (.ns .u64 b) 1 1 0 (List.length b)),(5,.int .i64 e)],[],0⟩
def Fx(_:Unit) :aC:=⟨aj 45 [],[],0⟩
def R2:List Code:=dd (fB ((((RZ.drop 3).take 1)).headD .skip))
def R3(b:List Int)(c:List Int)(a:Int) :T ((Int)⊕((Unit)⊕(gS))) :=
  .ask (decide (a≥(0:Int)))
    (.need (fw a (List.length b))<|.need (fX (Int.toNat a) (List.length b))<|.need (fw a (List.length c))<|.need (fX (Int.toNat a) (List.length c))<|.ask (decide ((List.getD b (Int.toNat a) 0)<(List.getD c (Int.toNat a) 0)))
      (.leaf (.inr (.inr (.r0 (-1:Int)))))
      (.need (fw a (List.length b))<|.need (fX (Int.toNat a) (List.length b))<|.need (fw a (List.length c))<|.need (fX (Int.toNat a) (List.length c))<|.ask (decide ((List.getD b (Int.toNat a) 0)>(List.getD c (Int.toNat a) 0)))
        (.leaf (.inr (.inr (.r0 (1:Int)))))
        (.need (dN .i64 (a-(1:Int)))<|.leaf (.inl (a-(1:Int))))))
    (.leaf (.inr (.inl ())))
def vJ(a:List Int)(b:List Int) :Int→Option ((Int)⊕((Unit)⊕(gS))):=fun c =>
  (R3 a b c).run
theorem OW(c:Lv)(a:List Int)(d:Lv)(b:List Int)(e:Int) :Sg prog [] R2 (tw c a d b e) (vJ a b e) (tw c a d b) (dS 1 Fx wJ):=by
  unfold vJ;exact br rC (tw c a d b) [⟨[],[],[4]⟩,⟨[],[],[4]⟩,⟨[],[],[0,1,5]⟩,⟨[],[],[]⟩]
def OX:T ((Empty)⊕(gS)) :=
  .leaf (.inr (.r0 (0:Int)))
def qr(a:List Int)(b:List Int) :Option gS:=mC (aN ((R1 a b).run) fun c =>
  aN (gR (vJ a b) c) fun _ =>
  (OX).run)
theorem R4(c:Lv)(a:List Int)(d:Lv)(b:List Int){x:gS}(h:qr a b=some x) :af prog By [] [.imm c (.ns .u64 a) 1 1 0 (List.length a),.imm d (.ns .u64 b) 1 1 0 (List.length b)] (BF x) :=
  nB false BF wJ h (Sg.cut 3 yu (br rC (R0 c a d b) [⟨[],[],[4]⟩,⟨[],[],[4]⟩,⟨[],[],[0,1,5]⟩]) (fun g=>Sg.cut 1 yu (GM ⟨[],[],[0,1,5]⟩ (tw c a d b) (Fx) 1 yu (RY _) (fun e=>OW c a d b e)) (fun _=>br rC mX [⟨[],[],[4]⟩])))
    (fun x=>by cases x with | r0 f=>exact mc [.int .i64 f])
def qL:Option gS→Bool
  | some _=>true
  | none=>false
def pY:Option gS→Int
  | some (.r0 x)=>x
  | _=>0
theorem R5{x:Option gS}(h:qL x=true) :x=some (.r0 (pY x)):=by
  unfold qL at h
  split at h<;>first | rfl | (cases h;done) | (rename_i y;cases y;rfl)
def JM:aA:=ca By (.cons (.ns .u64) (.cons (.ns .u64) .nil)) fun t=>(fun q=>[⟨BF (.r0 (pY q)),[qL q]⟩]) (qr t.1.2 t.2.1.2)
theorem Lx:aL prog JM:=aP fun t=>(aQ (fun h=>R4 t.1.1 t.1.2 t.2.1.1 t.2.1.2 (R5 h)) aZ)
def JN:List aA:=JM::OV
theorem pZ:aO prog (aK JN):=ap Lx rC
inductive gT where
  | r0 (a:Int) (b:Nat)
def JO:gT→AE×aC
  | .r0 a b=>(.ret,⟨aj 15 [(4,.int .i64 a),(5,.int .i64 ((b:Nat):Int))],[],0⟩)
theorem Fy:jU JO:=by intro x;cases x<;>(intro h;cases h)
def BG:gT→fZ
  | .r0 a b=>⟨.tup [.int .i64 a,.int .i64 ((b:Nat):Int)],[]⟩
def R6(a:Lv)(b:Lv) :Nat×(List Int)×Nat×(List Int)×Nat→aC:=fun (c,d,e,f,g)=>⟨aj 15 [(2,.ptr 0 1 0 0),(3,.ptr 1 1 0 0),(6,.int .i64 ((c:Nat):Int))],[(0,.vs [.imm a (.ns .u64 d) 1 1 0 e]),(1,.vs [.imm b (.ns .u64 f) 1 1 0 g])],2⟩
def R7(a : List Int)(b : List Int) : T ((Nat × (List Int) × Nat × (List Int) × Nat) ⊕ (gT)) :=
  .ask (decide ((0:Int)<(2:Int)))
    (.need (fw (0:Int) 2)<|.need (aG 0 (List.length a) a)<|.need (cI (an (aa 0 (List.length a) a)))<|.ask (decide ((((ax (an (aa 0 (List.length a) a))):Nat):Int)>(4096:Int)))
      (.leaf (.inl (2,(aM (an (aa 0 (List.length a) a))),(ax (an (aa 0 (List.length a) a))),b,(List.length b))))
      (.need (dN .i64 (1:Int))<|.ask (decide ((1:Int)<(2:Int)))
        (.need (fw (1:Int) 2)<|.need (aG 0 (List.length b) b)<|.need (cI (an (aa 0 (List.length b) b)))<|.ask (decide ((((ax (an (aa 0 (List.length b) b))):Nat):Int)>(4096:Int)))
          (.leaf (.inl (2,(aM (an (aa 0 (List.length a) a))),(ax (an (aa 0 (List.length a) a))),(aM (an (aa 0 (List.length b) b))),(ax (an (aa 0 (List.length b) b))))))
          (.need (dN .i64 (2:Int))<|.ask (decide ((2:Int)<(2:Int)))
            (.fail)
            (.leaf (.inl (0,(aM (an (aa 0 (List.length a) a))),(ax (an (aa 0 (List.length a) a))),(aM (an (aa 0 (List.length b) b))),(ax (an (aa 0 (List.length b) b))))))))
        (.fail)))
    (.fail)
def R8(a:Int) :aC:=⟨aj 15 [(4,.int .i64 a),(5,.int .i64 (0:Int))],[],0⟩
def R9(e:Nat)(a:List Int)(b:Nat)(c:List Int)(d:Nat) :T ((Int)⊕(gT)) :=
  .ask (((e:Nat):Int) != (0:Int))
    (.leaf (.inr (.r0 (0:Int) e)))
    (.need (aG 0 b a)<|.need (aG 0 d c)<|.need (qL (qr (aa 0 b a) (aa 0 d c)))<|.leaf (.inl (pY (qr (aa 0 b a) (aa 0 d c)))))
def Sa(a:Int) :T ((Empty)⊕(gT)) :=
  .leaf (.inr (.r0 a 0))
def qs(a:List Int)(b:List Int) :Option gT:=mC (aN ((R7 a b).run) fun (c,d,e,f,g) =>
  aN ((R9 c d e f g).run) fun h =>
  (Sa h).run)
theorem Sb(c:Lv)(a:List Int)(d:Lv)(b:List Int){x:gT}(h:qs a b=some x) :af prog Bv [] [.imm c (.ns .u64 a) 1 1 0 (List.length a),.imm d (.ns .u64 b) 1 1 0 (List.length b)] (BG x) :=
  nB true BG JO h (Sg.cut 2 Fy (br pZ (R6 c d) [⟨[],[0,16],[2,3,6]⟩,⟨[],[0,16],[2,3,6]⟩,⟨[],[0,16],[2,3,6]⟩]) (fun ⟨g,i,j,k,l⟩=>Sg.cut 3 Fy (br pZ R8 [⟨[],[],[4,5]⟩,⟨[],[],[4,5]⟩]) (fun m=>br pZ mX [⟨[],[],[4,5]⟩])))
    (fun x=>by cases x with | r0 e f=>exact mc [.int .i64 e,.int .i64 ((f:Nat):Int)])
def qM:Option gT→Bool
  | some _=>true
  | none=>false
def qa:Option gT→Int
  | some (.r0 x _)=>x
  | _=>0
def zR:Option gT→Nat
  | some (.r0 _ x)=>x
  | _=>0
theorem Sc{x:Option gT}(h:qM x=true) :x=some (.r0 (qa x) (zR x)):=by
  unfold qM at h
  split at h<;>first | rfl | (cases h;done) | (rename_i y;cases y;rfl)
def JP:aA:=ca Bv (.cons (.ns .u64) (.cons (.ns .u64) .nil)) fun t=>(fun q=>[⟨BG (.r0 (qa q) (zR q)),[qM q]⟩]) (qs t.1.2 t.2.1.2)
theorem Ly:aL prog JP:=aP fun t=>(aQ (fun h=>Sb t.1.1 t.1.2 t.2.1.1 t.2.1.2 (Sc h)) aZ)
def JQ:List aA:=JP::JN
theorem tx:aO prog (aK JQ):=ap Ly pZ
inductive dO where
  | r0 (a:List Int)
  | r1 (b:Nat) (c:Nat) (d:Nat) (e:List Int)
def Fz:dO→AE×aC
  | .r0 a=>(.ret,⟨aj 10 [(2,.nsl),(3,.int .i64 (3:Int))],[(0,.ns .u64 a)],1⟩)
  | .r1 b c d e=>(.ret,⟨aj 10 [(2,.sl 0 1 1 b c d),(3,.int .i64 (0:Int))],[(0,.ns .u64 e)],1⟩)
theorem OY:jU Fz:=by intro x;cases x<;>(intro h;cases h)
def tz:dO→fZ
  | .r0 a=>⟨.tup [.nsl,.int .i64 (3:Int)],[some (.ns .u64 a)]⟩
  | .r1 b c d e=>⟨.tup [.sl 0 1 1 b c d,.int .i64 (0:Int)],[some (.ns .u64 e)]⟩
def OZ:Nat×Nat×Nat×(List Int)→aC:=fun (a,b,c,d)=>⟨aj 10 [(0,.sl 0 1 1 a b c)],[(0,.ns .u64 d)],1⟩
def O0(a:List Int)(b:Nat)(c:Nat)(d:Nat) :T ((Nat×Nat×Nat×(List Int))⊕(dO)) :=
  .need (fg (aT a b c d))<|.leaf (.inl ((eO (aT a b c d)),(eP (aT a b c d)),(eQ (aT a b c d)),(eR (aT a b c d))))
def O1(c:Nat)(a:Nat)(d:Nat)(b:List Int) :T ((Empty)⊕(dO)) :=
  .ask (decide (((a:Nat):Int)>(4096:Int)))
    (.leaf (.inr (.r0 b)))
    (.leaf (.inr (.r1 c a d b)))
def ed(a:List Int)(b:Nat)(c:Nat)(d:Nat) :Option dO:=mC (aN ((O0 a b c d).run) fun (e,f,g,h) =>
  (O1 e f g h).run)
theorem Cx(a:List Int)(b:Nat)(c:Nat)(d:Nat){x:dO}(h:ed a b c d=some x) :af prog qI [.ns .u64 a] [.sl 0 1 1 b c d] (tz x) :=
  nB false tz Fz h (Sg.cut 2 OY (br tx OZ [⟨[],[0],[0]⟩]) (fun ⟨i,j,k,l⟩=>br tx mX [⟨[],[0],[2,3]⟩,⟨[],[0],[2,3]⟩]))
    (fun x=>by cases x with | r0 m=>exact mc [.nsl,.int .i64 (3:Int)] | r1 e f g n=>exact mc [.sl 0 1 1 e f g,.int .i64 (0:Int)])
def oX:Option dO→Bool
  | some (.r0 _)=>true
  | _=>false
def xh:Option dO→List Int
  | some (.r0 x)=>x
  | _=>[]
theorem O2{x:Option dO}(h:oX x=true) :x=some (.r0 (xh x)):=by
  unfold oX at h
  split at h<;>first | rfl | (cases h;done) | (rename_i y;cases y;rfl)
def oY:Option dO→Bool
  | some (.r1 _ _ _ _)=>true
  | _=>false
def ou:Option dO→Nat
  | some (.r1 x _ _ _)=>x
  | _=>0
def ov:Option dO→Nat
  | some (.r1 _ x _ _)=>x
  | _=>0
def ow:Option dO→Nat
  | some (.r1 _ _ x _)=>x
  | _=>0
def ox:Option dO→List Int
  | some (.r1 _ _ _ x)=>x
  | _=>[]
theorem O3{x:Option dO}(h:oY x=true) :x=some (.r1 (ou x) (ov x) (ow x) (ox x)):=by
  unfold oY at h
  split at h<;>first | rfl | (cases h;done) | (rename_i y;cases y;rfl)
def FB:aA:=Oz qI [.ns .u64] (.cons (.lsl 0) .nil) fun x t=>(fun q=>[⟨tz (.r0 (xh q)),[oX q]⟩,⟨tz (.r1 (ou q) (ov q) (ow q) (ox q)),[oY q]⟩]) (ed x.1 t.1.1 t.1.2.1 t.1.2.2)
theorem Hm:aL prog FB:=Fg fun x t=>(wI (fun h=>Cx x.1 t.1.1 t.1.2.1 t.1.2.2 (O2 h)) (wI (fun h=>Cx x.1 t.1.1 t.1.2.1 t.1.2.2 (O3 h)) Fh))
def FC:List aA:=FB::JQ
theorem fK:aO prog (aK FC):=ap Hm tx
inductive df where
  | r0 (a:Nat) (b:Nat) (c:Nat) (d:Nat) (e:List Int)
def wK:df→AE×aC
  | .r0 a b c d e=>(.ret,⟨aj 62 [(4,.sl 0 1 1 a b c),(5,.int .i64 ((d:Nat):Int))],[(0,.ns .u64 e)],1⟩)
theorem lM:jU wK:=by intro x;cases x<;>(intro h;cases h)
theorem Sd(id:Nat) :oV id wK:=by intro x;cases x<;>(intro h;cases h)
def BH:df→fZ
  | .r0 a b e c d=>⟨.tup [.imm .free (.ns .u64 d) 1 1 a b,.int .i64 ((c:Nat):Int)],[]⟩
def O4:List Code:=dd (ph wE)
def Se(a:Lv)(b:Lv) :Nat×(List Int)×Nat×(List Int)×Nat→aC:=fun (c,d,e,f,g)=>⟨aj 62 [(2,.ptr 0 1 0 0),(3,.ptr 1 1 0 0),(6,.int .i64 ((c:Nat):Int))],[(0,.vs [.imm a (.ns .u64 d) 1 1 0 e]),(1,.vs [.imm b (.ns .u64 f) 1 1 0 g])],2⟩
def O5(a : List Int)(b : List Int) : T ((Nat × (List Int) × Nat × (List Int) × Nat) ⊕ (df)) :=
  .ask (decide ((0:Int)<(2:Int)))
    (.need (fw (0:Int) 2)<|.need (aG 0 (List.length a) a)<|.need (cI (an (aa 0 (List.length a) a)))<|.ask (decide ((((ax (an (aa 0 (List.length a) a))):Nat):Int)>(4096:Int)))
      (.leaf (.inl (2,(aM (an (aa 0 (List.length a) a))),(ax (an (aa 0 (List.length a) a))),b,(List.length b))))
      (.need (dN .i64 (1:Int))<|.ask (decide ((1:Int)<(2:Int)))
        (.need (fw (1:Int) 2)<|.need (aG 0 (List.length b) b)<|.need (cI (an (aa 0 (List.length b) b)))<|.ask (decide ((((ax (an (aa 0 (List.length b) b))):Nat):Int)>(4096:Int)))
          (.leaf (.inl (2,(aM (an (aa 0 (List.length a) a))),(ax (an (aa 0 (List.length a) a))),(aM (an (aa 0 (List.length b) b))),(ax (an (aa 0 (List.length b) b))))))
          (.need (dN .i64 (2:Int))<|.ask (decide ((2:Int)<(2:Int)))
            (.fail)
            (.leaf (.inl (0,(aM (an (aa 0 (List.length a) a))),(ax (an (aa 0 (List.length a) a))),(aM (an (aa 0 (List.length b) b))),(ax (an (aa 0 (List.length b) b))))))))
        (.fail)))
    (.fail)
def Sh:(List Int)×Nat×(List Int)×Nat→aC:=fun (a,b,c,d)=>⟨aj 62 [(2,.ptr 0 1 0 0),(3,.ptr 1 1 0 0)],[(0,.vs [.imm .lent (.ns .u64 a) 1 1 0 b]),(1,.vs [.imm .lent (.ns .u64 c) 1 1 0 d])],2⟩
def O6(c:Nat)(d:List Int)(a:Nat)(e:List Int)(b:Nat) :T (((List Int)×Nat×(List Int)×Nat)⊕(df)) :=
  .ask (((c:Nat):Int) != (0:Int))
    (.leaf (.inr (.r0 0 0 0 c ([]:List Int))))
    (.ask (decide (((a:Nat):Int)<((b:Nat):Int)))
      (.leaf (.inl (e,b,d,a)))
      (.leaf (.inl (d,a,e,b))))
def Si(c:List Int)(a:Nat)(d:List Int)(e:Nat) :Nat×(List Int)→aC:=fun (b,f)=>⟨aj 62 [(2,.ptr 0 1 0 0),(3,.ptr 1 1 0 0),(7,.ptr 2 1 0 0),(8,.fn (.func rv) [] [.ptr 2 1 0 0]),(9,.sl 3 1 1 0 b b),(30,.int .i64 ((a:Nat):Int)),(31,.int .i64 (0:Int))],[(0,.vs [.imm .lent (.ns .u64 c) 1 1 0 a]),(1,.vs [.imm .lent (.ns .u64 d) 1 1 0 e]),(2,.vs [.int .u64 (0:Int)]),(3,.ns .u64 f)],4⟩
def O7(a:Nat) :T ((Nat×(List Int))⊕(df)) :=
  .need (dN .i64 (((a+1):Nat):Int))<|.need (decide ((0:Int)≤(((a+1):Nat):Int)))<|.need (decide ((((a+1):Nat):Int)≤(((a+1):Nat):Int)))<|.need (decide ((8:Int)*(((a+1):Nat):Int)≤140737488355328))<|.need (dN .i64 (((a+1):Nat):Int))<|.leaf (.inl ((a+1),(List.replicate (a+1) (0:Int))))
def tA(c:List Int)(a:Nat)(d:List Int)(e:Nat)(b:Nat) :Nat×Nat×(List Int)→aC:=fun (f,g,h)=>⟨aj 62 [(2,.ptr 0 1 0 0),(3,.ptr 1 1 0 0),(7,.ptr 2 1 0 0),(8,.fn (.func rv) [] [.ptr 2 1 0 0]),(9,.sl 3 1 1 0 b b),(30,.int .i64 ((a:Nat):Int)),(31,.int .i64 ((f:Nat):Int))],[(0,.vs [.imm .lent (.ns .u64 c) 1 1 0 a]),(1,.vs [.imm .lent (.ns .u64 d) 1 1 0 e]),(2,.vs [.int .u64 ((g:Nat):Int)]),(3,.ns .u64 h)],4⟩
def FD(b:List Int)(c:Nat)(a:Nat) :Nat×(List Int)→aC:=fun (d,e)=>⟨aj 62 [(2,.ptr 0 1 0 0),(7,.ptr 1 1 0 0),(9,.sl 2 1 1 0 a a)],[(0,.vs [.imm .lent (.ns .u64 b) 1 1 0 c]),(1,.vs [.int .u64 ((d:Nat):Int)]),(2,.ns .u64 e)],3⟩
def O8:List Code:=dd (fB ((((((O4.drop 2).drop 4).drop 4).take 1)).headD .skip))
def Sj(c:List Int)(a:Nat)(d:List Int)(e:Nat)(b:Nat)(f:Nat) :Nat×(List Int)→aC:=fun (g,h)=>⟨aj 62 [(2,.ptr 0 1 0 0),(3,.ptr 1 1 0 0),(7,.ptr 2 1 0 0),(8,.fn (.func rv) [] [.ptr 2 1 0 0]),(9,.sl 3 1 1 0 b b),(30,.int .i64 ((a:Nat):Int)),(31,.int .i64 ((f:Nat):Int))],[(0,.vs [.imm .lent (.ns .u64 c) 1 1 0 a]),(1,.vs [.imm .lent (.ns .u64 d) 1 1 0 e]),(2,.vs [.int .u64 ((g:Nat):Int)]),(3,.ns .u64 h)],4⟩
def O9(c:List Int)(e:Nat)(f:List Int)(g:Nat)(h:Nat)(a:Nat)(b:Nat)(d:List Int) :T ((Nat×(List Int))⊕((Nat×(List Int))⊕(df))) :=
  .ask (decide (((a:Nat):Int)<((e:Nat):Int)))
    (.ask (decide (((a:Nat):Int)<((g:Nat):Int)))
      (.need (fw ((a:Nat):Int) g)<|.need (fX a (List.length f))<|.need (fw ((a:Nat):Int) e)<|.need (fX a (List.length c))<|.need (ma b 1)<|.need (fw ((a:Nat):Int) h)<|.need (fX a (List.length d))<|.leaf (.inl ((((Int.toNat (List.getD c a 0))+(Int.toNat (List.getD f a 0))+b)/18446744073709551616),(List.set d a (((((Int.toNat (List.getD c a 0))+(Int.toNat (List.getD f a 0))+b)%18446744073709551616):Nat):Int)))))
      (.need (fw ((a:Nat):Int) e)<|.need (fX a (List.length c))<|.need (ma b 1)<|.need (fw ((a:Nat):Int) h)<|.need (fX a (List.length d))<|.leaf (.inl ((((Int.toNat (List.getD c a 0))+0+b)/18446744073709551616),(List.set d a (((((Int.toNat (List.getD c a 0))+0+b)%18446744073709551616):Nat):Int))))))
    (.leaf (.inr (.inl (b,d))))
def Pa(a:Nat)(b:Nat)(c:List Int) :T ((Nat×Nat×(List Int))⊕((Nat×(List Int))⊕(df))) :=
  .need (dN .i64 (((a+1):Nat):Int))<|.leaf (.inl ((a+1),b,c))
def vK(b:List Int)(c:Nat)(d:List Int)(e:Nat)(f:Nat) :Nat×Nat×(List Int)→Option ((Nat×Nat×(List Int))⊕((Nat×(List Int))⊕(df))):=fun (a,g,h) =>
  aN ((O9 b c d e f a g h).run) fun (i,j) =>
  (Pa a i j).run
theorem Pb(a:List Int)(b:Nat)(d:List Int)(e:Nat)(c:Nat)(f:Nat)(g:Nat)(h:List Int) :Sg prog [] O8 (tA a b d e c (f,g,h)) (vK a b d e c (f,g,h)) (tA a b d e c) (dS 0 (FD a b c) wK):=by
  unfold vK;exact Sg.cut 3 (bb lM) (br fK (Sj a b d e c f) [⟨[],[0,1,2,3],[2,3,7,8,9,30,31]⟩,⟨[],[0,1,2,3],[2,3,7,8,9,30,31]⟩,⟨[],[0,2,3],[2,7,9]⟩]) (fun ⟨i,j⟩=>br fK (tA a b d e c) [⟨[],[0,1,2,3],[2,3,7,8,9,30,31]⟩])
def Pc:Nat×Nat×Nat×Nat×(List Int)→aC:=fun (a,b,c,d,e)=>⟨aj 62 [(4,.sl 0 1 1 a b c),(5,.int .i64 ((d:Nat):Int))],[(0,.ns .u64 e)],1⟩
def Pd(b:Nat)(a:Nat)(d:Nat)(c:List Int) :T ((Nat×Nat×Nat×Nat×(List Int))⊕(df)) :=
  .need (fw ((b:Nat):Int) a)<|.need (fX b (List.length c))<|.alt 0
    (.need (oX (ed (List.set c b ((d:Nat):Int)) 0 a a))<|.leaf (.inl (0,0,0,3,([]:List Int))))
    (.alt 1
      (.need (oY (ed (List.set c b ((d:Nat):Int)) 0 a a))<|.leaf (.inl ((ou (ed (List.set c b ((d:Nat):Int)) 0 a a)),(ov (ed (List.set c b ((d:Nat):Int)) 0 a a)),(ow (ed (List.set c b ((d:Nat):Int)) 0 a a)),0,(ox (ed (List.set c b ((d:Nat):Int)) 0 a a)))))
      (.fail))
def Pe(a:Nat)(b:Nat)(c:Nat)(d:Nat)(e:List Int) :T ((Empty)⊕(df)) :=
  .leaf (.inr (.r0 a b c d e))
def bg(c:List Int)(d:List Int) :Option df:=mC (aN ((O5 c d).run) fun (e,f,g,h,i) =>
  aN ((O6 e f g h i).run) fun (j,a,k,l) =>
  aN ((O7 a).run) fun (b,m) =>
  aN (gR (vK j a k l b) (0,0,m)) fun (n,o) =>
  aN ((Pd a b n o).run) fun (p,q,r,s,t) =>
  (Pe p q r s t).run)
theorem Sk(i:Lv)(c:List Int)(j:Lv)(d:List Int){x:df}(h:bg c d=some x) :af prog wE [] [.imm i (.ns .u64 c) 1 1 0 (List.length c),.imm j (.ns .u64 d) 1 1 0 (List.length d)] (BH x) :=
  nB true BH wK h (Sg.cut 2 lM (br fK (Se i j) [⟨[],[0,16],[2,3,6]⟩,⟨[],[0,16],[2,3,6]⟩,⟨[],[0,16],[2,3,6]⟩]) (fun ⟨r,s,t,u,v⟩=>Sg.cut 4 lM (br fK Sh [⟨[(.slot 4,.own 1 1 (.ns .u64 ([]:List Int)))],[82],[4,5]⟩,⟨[(.cell 0 0,.low),(.cell 1 0,.low)],[0,1],[2,3]⟩,⟨[(.cell 0 0,.low),(.cell 1 0,.low)],[0,1],[2,3]⟩]) (fun ⟨a,b,e,f⟩=>Sg.cut 4 lM (br fK (Si a b e f) [⟨[],[0,1,2,114],[2,3,7,8,9,30,31]⟩]) (fun ⟨g,w⟩=>Sg.cut 1 lM (GM ⟨[],[0,1,2,3],[2,3,7,8,9,30,31]⟩ (tA a b e f g) (FD a b g) 0 lM (Sd _) (fun ⟨k,l,m⟩=>Pb a b e f g k l m)) (fun ⟨y,z⟩=>Sg.cut 2 lM (br fK Pc [⟨[(.slot 4,.own 1 1 (.ns .u64 ([]:List Int)))],[195],[4,5]⟩,⟨[],[2],[4,5]⟩]) (fun ⟨A,B,C,D,E⟩=>br fK mX [⟨[],[0],[4,5]⟩]))))))
    (fun x=>by cases x with | r0 n o p q F=>exact mc [.sl 0 1 1 n o p,.int .i64 ((q:Nat):Int)])
def tB:Option df→Bool
  | some _=>true
  | none=>false
def eX:Option df→Nat
  | some (.r0 x _ _ _ _)=>x
  | _=>0
def eY:Option df→Nat
  | some (.r0 _ x _ _ _)=>x
  | _=>0
def zS:Option df→Nat
  | some (.r0 _ _ x _ _)=>x
  | _=>0
def fD:Option df→Nat
  | some (.r0 _ _ _ x _)=>x
  | _=>0
def eZ:Option df→List Int
  | some (.r0 _ _ _ _ x)=>x
  | _=>[]
theorem Sl{x:Option df}(h:tB x=true) :x=some (.r0 (eX x) (eY x) (zS x) (fD x) (eZ x)):=by
  unfold tB at h
  split at h<;>first | rfl | (cases h;done) | (rename_i y;cases y;rfl)
def JR:aA:=ca wE (.cons (.ns .u64) (.cons (.ns .u64) .nil)) fun t=>(fun q=>[⟨BH (.r0 (eX q) (eY q) (zS q) (fD q) (eZ q)),[tB q]⟩]) (bg t.1.2 t.2.1.2)
theorem Lz:aL prog JR:=aP fun t=>(aQ (fun h=>Sk t.1.1 t.1.2 t.2.1.1 t.2.1.2 (Sl h)) aZ)
def JS:List aA:=JR::FC
theorem jH:aO prog (aK JS):=ap Lz fK
inductive eB where
  | r0 (a:Nat) (b:Nat) (c:Nat) (d:List Int)
def wL:eB→AE×aC
  | .r0 a b c d=>(.ret,⟨aj 40 [(4,.sl 0 1 1 a b c)],[(0,.ns .u64 d)],1⟩)
theorem qN:jU wL:=by intro x;cases x<;>(intro h;cases h)
theorem Sm(id:Nat) :oV id wL:=by intro x;cases x<;>(intro h;cases h)
def BI:eB→fZ
  | .r0 a b d c=>⟨.imm .free (.ns .u64 c) 1 1 a b,[]⟩
def Pf:List Code:=dd (ph wG)
def Sn(d:Lv)(a:List Int)(e:Lv)(b:List Int) :Nat×(List Int)→aC:=fun (c,f)=>⟨aj 40 [(0,.imm d (.ns .u64 a) 1 1 0 (List.length a)),(1,.imm e (.ns .u64 b) 1 1 0 (List.length b)),(5,.sl 0 1 1 0 c c),(6,.int .u64 (0:Int)),(12,.int .i64 (((List.length a):Nat):Int)),(13,.int .i64 (0:Int))],[(0,.ns .u64 f)],1⟩
def Pg(a:List Int) :T ((Nat×(List Int))⊕(eB)) :=
  .need (aG 0 (List.length a) a)<|.need (Ue (List.length (aa 0 (List.length a) a)))<|.leaf (.inl ((List.length (aa 0 (List.length a) a)),(aa 0 (List.length a) a)))
def tC(d:Lv)(a:List Int)(e:Lv)(b:List Int)(c:Nat) :Int×Nat×(List Int)→aC:=fun (f,g,h)=>⟨aj 40 [(0,.imm d (.ns .u64 a) 1 1 0 (List.length a)),(1,.imm e (.ns .u64 b) 1 1 0 (List.length b)),(5,.sl 0 1 1 0 c c),(6,.int .u64 f),(12,.int .i64 (((List.length a):Nat):Int)),(13,.int .i64 ((g:Nat):Int))],[(0,.ns .u64 h)],1⟩
def FE(a:Nat)(b:(List Int)) :aC:=⟨aj 40 [(5,.sl 0 1 1 0 a a)],[(0,.ns .u64 b)],1⟩
def Ph:List Code:=dd (fB ((((Pf.drop 4).take 1)).headD .skip))
def So(d:Lv)(a:List Int)(e:Lv)(b:List Int)(c:Nat)(f:Nat) :Int×(List Int)→aC:=fun (g,h)=>⟨aj 40 [(0,.imm d (.ns .u64 a) 1 1 0 (List.length a)),(1,.imm e (.ns .u64 b) 1 1 0 (List.length b)),(5,.sl 0 1 1 0 c c),(6,.int .u64 g),(12,.int .i64 (((List.length a):Nat):Int)),(13,.int .i64 ((f:Nat):Int))],[(0,.ns .u64 h)],1⟩
def Pi(b:List Int)(d:List Int)(f:Nat)(c:Int)(a:Nat)(e:List Int) :T ((Int×(List Int))⊕(((List Int))⊕(eB))) :=
  .ask (decide (((a:Nat):Int)<(((List.length b):Nat):Int)))
    (.ask (decide (((a:Nat):Int)<(((List.length d):Nat):Int)))
      (.need (fw ((a:Nat):Int) (List.length d))<|.need (fX a (List.length d))<|.need (fw ((a:Nat):Int) (List.length b))<|.need (fX a (List.length b))<|.need (ma (Int.toNat c) 1)<|.need (fw ((a:Nat):Int) f)<|.need (fX a (List.length e))<|.leaf (.inl ((bif Nat.blt (Int.toNat (List.getD b a 0)) ((Int.toNat (List.getD d a 0))+(Int.toNat c)) then (1:Int) else (0:Int)),(List.set e a (((((Int.toNat (List.getD b a 0))+18446744073709551616-(Int.toNat (List.getD d a 0))-(Int.toNat c))%18446744073709551616):Nat):Int)))))
      (.need (fw ((a:Nat):Int) (List.length b))<|.need (fX a (List.length b))<|.need (ma (Int.toNat c) 1)<|.need (fw ((a:Nat):Int) f)<|.need (fX a (List.length e))<|.leaf (.inl ((bif Nat.blt (Int.toNat (List.getD b a 0)) (0+(Int.toNat c)) then (1:Int) else (0:Int)),(List.set e a (((((Int.toNat (List.getD b a 0))+18446744073709551616-0-(Int.toNat c))%18446744073709551616):Nat):Int))))))
    (.leaf (.inr (.inl e)))
def Pj(a:Nat)(b:Int)(c:List Int) :T ((Int×Nat×(List Int))⊕(((List Int))⊕(eB))) :=
  .need (dN .i64 (((a+1):Nat):Int))<|.leaf (.inl (b,(a+1),c))
def vL(b:List Int)(c:List Int)(d:Nat) :Int×Nat×(List Int)→Option ((Int×Nat×(List Int))⊕(((List Int))⊕(eB))):=fun (e,a,f) =>
  aN ((Pi b c d e a f).run) fun (g,h) =>
  (Pj a g h).run
theorem Pk(d:Lv)(b:List Int)(e:Lv)(c:List Int)(a:Nat)(g:Int)(f:Nat)(h:List Int) :Sg prog [] Ph (tC d b e c a (g,f,h)) (vL b c a (g,f,h)) (tC d b e c a) (dS 0 (FE a) wL):=by
  unfold vL;exact Sg.cut 3 (bb qN) (br jH (So d b e c a f) [⟨[],[0],[0,1,5,6,12,13]⟩,⟨[],[0],[0,1,5,6,12,13]⟩,⟨[],[0],[5]⟩]) (fun ⟨i,j⟩=>br jH (tC d b e c a) [⟨[],[0],[0,1,5,6,12,13]⟩])
def Pm:Nat×Nat×Nat×(List Int)→aC:=fun (a,b,c,d)=>⟨aj 40 [(4,.sl 0 1 1 a b c)],[(0,.ns .u64 d)],1⟩
def Pn(a:Nat)(b:List Int) :T ((Nat×Nat×Nat×(List Int))⊕(eB)) :=
  .need (fg (aT b 0 a a))<|.leaf (.inl ((eO (aT b 0 a a)),(eP (aT b 0 a a)),(eQ (aT b 0 a a)),(eR (aT b 0 a a))))
def Po(a:Nat)(b:Nat)(c:Nat)(d:List Int) :T ((Empty)⊕(eB)) :=
  .leaf (.inr (.r0 a b c d))
def qt(a:List Int)(c:List Int) :Option eB:=mC (aN ((Pg a).run) fun (b,d) =>
  aN (gR (vL a c b) ((0:Int),0,d)) fun e =>
  aN ((Pn b e).run) fun (f,g,h,i) =>
  (Po f g h i).run)
theorem Sp(c:Lv)(a:List Int)(d:Lv)(b:List Int){x:eB}(h:qt a b=some x) :af prog wG [] [.imm c (.ns .u64 a) 1 1 0 (List.length a),.imm d (.ns .u64 b) 1 1 0 (List.length b)] (BI x) :=
  nB true BI wL h (Sg.cut 4 qN (br jH (Sn c a d b) [⟨[],[32],[0,1,5,6,12,13]⟩]) (fun ⟨e,m⟩=>Sg.cut 1 qN (GM ⟨[],[0],[0,1,5,6,12,13]⟩ (tC c a d b e) (FE e) 0 qN (Sm _) (fun ⟨f,g,i⟩=>Pk c a d b e f g i)) (fun n=>Sg.cut 1 qN (br jH Pm [⟨[],[0],[4]⟩]) (fun ⟨o,p,q,r⟩=>br jH mX [⟨[],[0],[4]⟩]))))
    (fun x=>by cases x with | r0 j k l s=>exact mc [.sl 0 1 1 j k l])
def tD:Option eB→Bool
  | some _=>true
  | none=>false
def tE:Option eB→Nat
  | some (.r0 x _ _ _)=>x
  | _=>0
def tF:Option eB→Nat
  | some (.r0 _ x _ _)=>x
  | _=>0
def zT:Option eB→Nat
  | some (.r0 _ _ x _)=>x
  | _=>0
def tG:Option eB→List Int
  | some (.r0 _ _ _ x)=>x
  | _=>[]
theorem Sq{x:Option eB}(h:tD x=true) :x=some (.r0 (tE x) (tF x) (zT x) (tG x)):=by
  unfold tD at h
  split at h<;>first | rfl | (cases h;done) | (rename_i y;cases y;rfl)
def JT:aA:=ca wG (.cons (.ns .u64) (.cons (.ns .u64) .nil)) fun t=>(fun q=>[⟨BI (.r0 (tE q) (tF q) (zT q) (tG q)),[tD q]⟩]) (qt t.1.2 t.2.1.2)
theorem LA:aL prog JT:=aP fun t=>(aQ (fun h=>Sp t.1.1 t.1.2 t.2.1.1 t.2.1.2 (Sq h)) aZ)
def JU:List aA:=JT::JS
theorem mG:aO prog (aK JU):=ap LA jH
inductive fp where
  | r0 (a:List Int) (b:Nat) (c:Nat) (d:Nat)
def JV:fp→AE×aC
  | .r0 a b c d=>(.ret,⟨aj 20 [(4,.imm .free (.ns .u64 a) 1 1 b c),(5,.int .i64 ((d:Nat):Int))],[],0⟩)
theorem yv:jU JV:=by intro x;cases x<;>(intro h;cases h)
def BJ:fp→fZ
  | .r0 a b c d=>⟨.tup [.imm .free (.ns .u64 a) 1 1 b c,.int .i64 ((d:Nat):Int)],[]⟩
def Sr(a:Lv)(b:Lv) :Nat×(List Int)×Nat×(List Int)×Nat→aC:=fun (c,d,e,f,g)=>⟨aj 20 [(2,.ptr 0 1 0 0),(3,.ptr 1 1 0 0),(6,.int .i64 ((c:Nat):Int))],[(0,.vs [.imm a (.ns .u64 d) 1 1 0 e]),(1,.vs [.imm b (.ns .u64 f) 1 1 0 g])],2⟩
def Ss(a : List Int)(b : List Int) : T ((Nat × (List Int) × Nat × (List Int) × Nat) ⊕ (fp)) :=
  .ask (decide ((0:Int)<(2:Int)))
    (.need (fw (0:Int) 2)<|.need (aG 0 (List.length a) a)<|.need (cI (an (aa 0 (List.length a) a)))<|.ask (decide ((((ax (an (aa 0 (List.length a) a))):Nat):Int)>(4096:Int)))
      (.leaf (.inl (2,(aM (an (aa 0 (List.length a) a))),(ax (an (aa 0 (List.length a) a))),b,(List.length b))))
      (.need (dN .i64 (1:Int))<|.ask (decide ((1:Int)<(2:Int)))
        (.need (fw (1:Int) 2)<|.need (aG 0 (List.length b) b)<|.need (cI (an (aa 0 (List.length b) b)))<|.ask (decide ((((ax (an (aa 0 (List.length b) b))):Nat):Int)>(4096:Int)))
          (.leaf (.inl (2,(aM (an (aa 0 (List.length a) a))),(ax (an (aa 0 (List.length a) a))),(aM (an (aa 0 (List.length b) b))),(ax (an (aa 0 (List.length b) b))))))
          (.need (dN .i64 (2:Int))<|.ask (decide ((2:Int)<(2:Int)))
            (.fail)
            (.leaf (.inl (0,(aM (an (aa 0 (List.length a) a))),(ax (an (aa 0 (List.length a) a))),(aM (an (aa 0 (List.length b) b))),(ax (an (aa 0 (List.length b) b))))))))
        (.fail)))
    (.fail)
def St(a:Lv)(b:Lv)(c:List Int)(d:Nat)(e:List Int)(f:Nat)(g:Bool) :aC:=⟨aj 20 [(2,.ptr 0 1 0 0),(3,.ptr 1 1 0 0),(16,.bool false g)],[(0,.vs [.imm a (.ns .u64 c) 1 1 0 d]),(1,.vs [.imm b (.ns .u64 e) 1 1 0 f])],2⟩
def Su(e:Nat)(a:List Int)(b:Nat)(c:List Int)(d:Nat) :T ((Bool)⊕(fp)) :=
  .ask (((e:Nat):Int) != (0:Int))
    (.leaf (.inl true))
    (.need (aG 0 b a)<|.need (aG 0 d c)<|.need (qL (qr (aa 0 b a) (aa 0 d c)))<|.leaf (.inl (decide ((pY (qr (aa 0 b a) (aa 0 d c)))<(0:Int)))))
def Sv:(List Int)×Nat×Nat→aC:=fun (a,b,c)=>⟨aj 20 [(4,.imm .free (.ns .u64 a) 1 1 b c),(5,.int .i64 (0:Int))],[],0⟩
def Sw(a:List Int)(b:Nat)(c:List Int)(d:Nat)(e:Bool) :T (((List Int)×Nat×Nat)⊕(fp)) :=
  .ask e
    (.leaf (.inr (.r0 ([]:List Int) 0 0 2)))
    (.need (aG 0 b a)<|.need (aG 0 d c)<|.need (tD (qt (aa 0 b a) (aa 0 d c)))<|.leaf (.inl ((tG (qt (aa 0 b a) (aa 0 d c))),(tE (qt (aa 0 b a) (aa 0 d c))),(tF (qt (aa 0 b a) (aa 0 d c))))))
def Sx(a:List Int)(b:Nat)(c:Nat) :T ((Empty)⊕(fp)) :=
  .leaf (.inr (.r0 a b c 0))
def ba(e:List Int)(f:List Int) :Option fp:=mC (aN ((Ss e f).run) fun (g,a,b,c,d) =>
  aN ((Su g a b c d).run) fun h =>
  aN ((Sw a b c d h).run) fun (i,j,k) =>
  (Sx i j k).run)
theorem Sy(a:Lv)(b:List Int)(c:Lv)(d:List Int){x:fp}(h:ba b d=some x) :af prog BA [] [.imm a (.ns .u64 b) 1 1 0 (List.length b),.imm c (.ns .u64 d) 1 1 0 (List.length d)] (BJ x) :=
  nB true BJ JV h (Sg.cut 2 yv (br mG (Sr a c) [⟨[],[0,16],[2,3,6]⟩,⟨[],[0,16],[2,3,6]⟩,⟨[],[0,16],[2,3,6]⟩]) (fun ⟨n,e,f,g,i⟩=>Sg.cut 1 yv (br mG (St a c e f g i) [⟨[],[0,1],[2,3,16]⟩,⟨[],[0,1],[2,3,16]⟩]) (fun o=>Sg.cut 2 yv (br mG Sv [⟨[(.slot 4,.fre 1 1 (.ns .u64 ([]:List Int)))],[],[4,5]⟩,⟨[],[],[4,5]⟩]) (fun ⟨p,q,r⟩=>br mG mX [⟨[],[],[4,5]⟩]))))
    (fun x=>by cases x with | r0 j k l m=>exact mc [.imm .free (.ns .u64 j) 1 1 k l,.int .i64 ((m:Nat):Int)])
def qO:Option fp→Bool
  | some _=>true
  | none=>false
def ee:Option fp→List Int
  | some (.r0 x _ _ _)=>x
  | _=>[]
def ef:Option fp→Nat
  | some (.r0 _ x _ _)=>x
  | _=>0
def eh:Option fp→Nat
  | some (.r0 _ _ x _)=>x
  | _=>0
def fa:Option fp→Nat
  | some (.r0 _ _ _ x)=>x
  | _=>0
theorem Sz{x:Option fp}(h:qO x=true) :x=some (.r0 (ee x) (ef x) (eh x) (fa x)):=by
  unfold qO at h
  split at h<;>first | rfl | (cases h;done) | (rename_i y;cases y;rfl)
def JW:aA:=ca BA (.cons (.ns .u64) (.cons (.ns .u64) .nil)) fun t=>(fun q=>[⟨BJ (.r0 (ee q) (ef q) (eh q) (fa q)),[qO q]⟩]) (ba t.1.2 t.2.1.2)
theorem LB:aL prog JW:=aP fun t=>(aQ (fun h=>Sy t.1.1 t.1.2 t.2.1.1 t.2.1.2 (Sz h)) aZ)
def JX:List aA:=JW::JU
theorem mH:aO prog (aK JX):=ap LB mG
inductive fQ where
  | r0 (a:Int) (b:List Int)
def wM:fQ→AE×aC
  | .r0 a b=>(.ret,⟨aj 52 [(6,.int .u64 a)],[(0,.ns .u64 b)],1⟩)
theorem tH:jU wM:=by intro x;cases x<;>(intro h;cases h)
theorem SA(id:Nat) :oV id wM:=by intro x;cases x<;>(intro h;cases h)
def BL:fQ→fZ
  | .r0 a b=>⟨.int .u64 a,[some (.ns .u64 b)]⟩
def Pp:List Code:=dd (ph wC)
def SB(b:List Int)(c:Nat)(d:Nat)(e:Nat)(f:Lv)(a:List Int)(g:Int)(_:Unit) :aC:=⟨aj 52 [(0,.sl 0 1 1 c d e),(1,.imm f (.ns .u64 a) 1 1 0 (List.length a)),(2,.int .u64 g),(7,.int .u64 (0:Int)),(13,.int .i64 (((List.length a):Nat):Int)),(14,.int .i64 (0:Int))],[(0,.ns .u64 b)],1⟩
def Pq:T ((Unit)⊕(fQ)) :=
  .leaf (.inl ())
def tI(b:Nat)(c:Nat)(d:Nat)(e:Lv)(a:List Int)(f:Int) :Int×Nat×(List Int)→aC:=fun (g,h,i)=>⟨aj 52 [(0,.sl 0 1 1 b c d),(1,.imm e (.ns .u64 a) 1 1 0 (List.length a)),(2,.int .u64 f),(7,.int .u64 g),(13,.int .i64 (((List.length a):Nat):Int)),(14,.int .i64 ((h:Nat):Int))],[(0,.ns .u64 i)],1⟩
def FF:Int×(List Int)→aC:=fun (a,b)=>⟨aj 52 [(7,.int .u64 a)],[(0,.ns .u64 b)],1⟩
def Pr:List Code:=dd (fB ((((Pp.drop 3).take 1)).headD .skip))
def SC(b:Nat)(c:Nat)(d:Nat)(e:Lv)(a:List Int)(f:Int)(g:Nat) :Int×(List Int)→aC:=fun (h,i)=>⟨aj 52 [(0,.sl 0 1 1 b c d),(1,.imm e (.ns .u64 a) 1 1 0 (List.length a)),(2,.int .u64 f),(7,.int .u64 h),(13,.int .i64 (((List.length a):Nat):Int)),(14,.int .i64 ((g:Nat):Int))],[(0,.ns .u64 i)],1⟩
def Ps(d:Nat)(g:Nat)(b:List Int)(e:Int)(f:Int)(a:Nat)(c:List Int) :T ((Int×(List Int))⊕((Int×(List Int))⊕(fQ))) :=
  .ask (decide (((a:Nat):Int)<(((List.length b):Nat):Int)))
    (.need (fw ((a:Nat):Int) (List.length b))<|.need (fX a (List.length b))<|.need (hX (dZ (List.getD b a 0) e))<|.need (ma 0 1)<|.need (fw ((a:Nat):Int) g)<|.need (fX (eE d a) (List.length c))<|.need (ma 0 1)<|.need (fw ((a:Nat):Int) g)<|.need (fX (eE d a) (List.length c))<|.leaf (.inl ((IntKind.u64.wrap ((IntKind.u64.wrap ((jo (dZ (List.getD b a 0) e))+(((((Int.toNat (fe (dZ (List.getD b a 0) e)))+(Int.toNat f)+0)/18446744073709551616):Nat):Int)))+(((((Int.toNat (List.getD c (eE d a) 0))+(((Int.toNat (fe (dZ (List.getD b a 0) e)))+(Int.toNat f)+0)%18446744073709551616)+0)/18446744073709551616):Nat):Int))),(List.set c (eE d a) (((((Int.toNat (List.getD c (eE d a) 0))+(((Int.toNat (fe (dZ (List.getD b a 0) e)))+(Int.toNat f)+0)%18446744073709551616)+0)%18446744073709551616):Nat):Int)))))
    (.leaf (.inr (.inl (f,c))))
def Pt(a:Nat)(b:Int)(c:List Int) :T ((Int×Nat×(List Int))⊕((Int×(List Int))⊕(fQ))) :=
  .need (dN .i64 (((a+1):Nat):Int))<|.leaf (.inl (b,(a+1),c))
def vM(b:Nat)(c:Nat)(d:List Int)(e:Int) :Int×Nat×(List Int)→Option ((Int×Nat×(List Int))⊕((Int×(List Int))⊕(fQ))):=fun (f,a,g) =>
  aN ((Ps b c d e f a g).run) fun (h,i) =>
  (Pt a h i).run
theorem Pu(j:List Int)(a:Nat)(b:Nat)(e:Nat)(f:Lv)(c:List Int)(d:Int)(h:Int)(g:Nat)(i:List Int) :Sg prog [.ns .u64 j] Pr (tI a b e f c d (h,g,i)) (vM a b c d (h,g,i)) (tI a b e f c d) (dS 0 FF wM):=by
  unfold vM;exact Sg.cut 3 (bb tH) (br mH (SC a b e f c d g) [⟨[],[0],[0,1,2,7,13,14]⟩,⟨[],[0],[7]⟩]) (fun ⟨k,l⟩=>br mH (tI a b e f c d) [⟨[],[0],[0,1,2,7,13,14]⟩])
def Pv(a:Int)(b:List Int) :T ((Empty)⊕(fQ)) :=
  .leaf (.inr (.r0 a b))
def qu(a:List Int)(b:Nat)(c:Nat)(d:List Int)(e:Int) :Option fQ:=mC (aN ((Pq).run) fun _ =>
  aN (gR (vM b c d e) ((0:Int),0,a)) fun (f,g) =>
  (Pv f g).run)
theorem SD(e:List Int)(b:Nat)(c:Nat)(f:Nat)(g:Lv)(a:List Int)(d:Int){x:fQ}(h:qu e b c a d=some x) :af prog wC [.ns .u64 e] [.sl 0 1 1 b c f,.imm g (.ns .u64 a) 1 1 0 (List.length a),.int .u64 d] (BL x) :=
  nB false BL wM h (Sg.cut 3 tH (br mH (SB e b c f g a d) [⟨[],[0],[0,1,2,7,13,14]⟩]) (fun _=>Sg.cut 1 tH (GM ⟨[],[0],[0,1,2,7,13,14]⟩ (tI b c f g a d) (FF) 0 tH (SA _) (fun ⟨i,j,k⟩=>Pu e b c f g a d i j k)) (fun ⟨m,n⟩=>br mH mX [⟨[],[0],[6]⟩])))
    (fun x=>by cases x with | r0 l o=>exact mc [.int .u64 l])
def tJ:Option fQ→Bool
  | some _=>true
  | none=>false
def tK:Option fQ→Int
  | some (.r0 x _)=>x
  | _=>0
def qb:Option fQ→List Int
  | some (.r0 _ x)=>x
  | _=>[]
theorem SE{x:Option fQ}(h:tJ x=true) :x=some (.r0 (tK x) (qb x)):=by
  unfold tJ at h
  split at h<;>first | rfl | (cases h;done) | (rename_i y;cases y;rfl)
def JY:aA:=Oz wC [.ns .u64] (.cons (.lsl 0) (.cons (.ns .u64) (.cons (.int .u64) .nil))) fun x t=>(fun q=>[⟨BL (.r0 (tK q) (qb q)),[tJ q]⟩]) (qu x.1 t.1.1 t.1.2.1 t.2.1.2 t.2.2.1)
theorem LC:aL prog JY:=Fg fun x t=>(wI (fun h=>SD x.1 t.1.1 t.1.2.1 t.1.2.2 t.2.1.1 t.2.1.2 t.2.2.1 (SE h)) Fh)
def JZ:List aA:=JY::JX
theorem gw:aO prog (aK JZ):=ap LC mH
inductive dg where
  | r0 (a:Nat) (b:Nat) (c:Nat) (d:Nat) (e:List Int)
def wN:dg→AE×aC
  | .r0 a b c d e=>(.ret,⟨aj 61 [(4,.sl 0 1 1 a b c),(5,.int .i64 ((d:Nat):Int))],[(0,.ns .u64 e)],1⟩)
theorem lN:jU wN:=by intro x;cases x<;>(intro h;cases h)
theorem SF(id:Nat) :oV id wN:=by intro x;cases x<;>(intro h;cases h)
def BM:dg→fZ
  | .r0 a b e c d=>⟨.tup [.imm .free (.ns .u64 d) 1 1 a b,.int .i64 ((c:Nat):Int)],[]⟩
def Pw:List Code:=dd (ph wB)
def SG(a:Lv)(b:Lv) :Nat×(List Int)×Nat×(List Int)×Nat→aC:=fun (c,d,e,f,g)=>⟨aj 61 [(2,.ptr 0 1 0 0),(3,.ptr 1 1 0 0),(6,.int .i64 ((c:Nat):Int))],[(0,.vs [.imm a (.ns .u64 d) 1 1 0 e]),(1,.vs [.imm b (.ns .u64 f) 1 1 0 g])],2⟩
def Px(a : List Int)(b : List Int) : T ((Nat × (List Int) × Nat × (List Int) × Nat) ⊕ (dg)) :=
  .ask (decide ((0:Int)<(2:Int)))
    (.need (fw (0:Int) 2)<|.need (aG 0 (List.length a) a)<|.need (cI (an (aa 0 (List.length a) a)))<|.ask (decide ((((ax (an (aa 0 (List.length a) a))):Nat):Int)>(4096:Int)))
      (.leaf (.inl (2,(aM (an (aa 0 (List.length a) a))),(ax (an (aa 0 (List.length a) a))),b,(List.length b))))
      (.need (dN .i64 (1:Int))<|.ask (decide ((1:Int)<(2:Int)))
        (.need (fw (1:Int) 2)<|.need (aG 0 (List.length b) b)<|.need (cI (an (aa 0 (List.length b) b)))<|.ask (decide ((((ax (an (aa 0 (List.length b) b))):Nat):Int)>(4096:Int)))
          (.leaf (.inl (2,(aM (an (aa 0 (List.length a) a))),(ax (an (aa 0 (List.length a) a))),(aM (an (aa 0 (List.length b) b))),(ax (an (aa 0 (List.length b) b))))))
          (.need (dN .i64 (2:Int))<|.ask (decide ((2:Int)<(2:Int)))
            (.fail)
            (.leaf (.inl (0,(aM (an (aa 0 (List.length a) a))),(ax (an (aa 0 (List.length a) a))),(aM (an (aa 0 (List.length b) b))),(ax (an (aa 0 (List.length b) b))))))))
        (.fail)))
    (.fail)
def SH(a:Lv)(b:Lv)(c:List Int)(d:Nat)(e:List Int)(f:Nat)(g:Bool) :aC:=⟨aj 61 [(2,.ptr 0 1 0 0),(3,.ptr 1 1 0 0),(29,.bool false g)],[(0,.vs [.imm a (.ns .u64 c) 1 1 0 d]),(1,.vs [.imm b (.ns .u64 e) 1 1 0 f])],2⟩
def Py(c:Nat)(a:Nat)(b:Nat) :T ((Bool)⊕(dg)) :=
  .ask (((c:Nat):Int) != (0:Int))
    (.leaf (.inr (.r0 0 0 0 c ([]:List Int))))
    (.need (dN .i64 (((a+b):Nat):Int))<|.ask (decide ((((a+b):Nat):Int)>(4097:Int)))
      (.ask (decide (((a:Nat):Int)>(0:Int)))
        (.leaf (.inl (decide (((b:Nat):Int)>(0:Int)))))
        (.leaf (.inl false)))
      (.leaf (.inl false)))
def SI(c:Lv)(d:Lv)(e:List Int)(f:Nat)(g:List Int)(a:Nat) :Nat×(List Int)→aC:=fun (b,h)=>⟨aj 61 [(2,.ptr 0 1 0 0),(3,.ptr 1 1 0 0),(7,.sl 2 1 1 0 b b),(37,.int .i64 ((a:Nat):Int)),(38,.int .i64 (0:Int))],[(0,.vs [.imm c (.ns .u64 e) 1 1 0 f]),(1,.vs [.imm d (.ns .u64 g) 1 1 0 a]),(2,.ns .u64 h)],3⟩
def Pz(a:Nat)(b:Nat)(c:Bool) :T ((Nat×(List Int))⊕(dg)) :=
  .ask c
    (.leaf (.inr (.r0 0 0 0 3 ([]:List Int))))
    (.need (dN .i64 (((a+b):Nat):Int))<|.need (decide ((0:Int)≤(((a+b):Nat):Int)))<|.need (decide ((((a+b):Nat):Int)≤(((a+b):Nat):Int)))<|.need (decide ((8:Int)*(((a+b):Nat):Int)≤140737488355328))<|.need (dN .i64 (((a+b):Nat):Int))<|.leaf (.inl ((a+b),(List.replicate (a+b) (0:Int)))))
def tL(c:Lv)(d:Lv)(e:List Int)(f:Nat)(g:List Int)(a:Nat)(b:Nat) :Nat×(List Int)→aC:=fun (h,i)=>⟨aj 61 [(2,.ptr 0 1 0 0),(3,.ptr 1 1 0 0),(7,.sl 2 1 1 0 b b),(37,.int .i64 ((a:Nat):Int)),(38,.int .i64 ((h:Nat):Int))],[(0,.vs [.imm c (.ns .u64 e) 1 1 0 f]),(1,.vs [.imm d (.ns .u64 g) 1 1 0 a]),(2,.ns .u64 i)],3⟩
def FG(a:Nat)(b:(List Int)) :aC:=⟨aj 61 [(7,.sl 0 1 1 0 a a)],[(0,.ns .u64 b)],1⟩
def PA:List Code:=dd (fB ((((((Pw.drop 2).drop 3).drop 3).take 1)).headD .skip))
def SJ(c:Lv)(d:Lv)(e:List Int)(f:Nat)(g:List Int)(a:Nat)(b:Nat)(h:Nat)(i:(List Int)) :aC:=⟨aj 61 [(2,.ptr 0 1 0 0),(3,.ptr 1 1 0 0),(7,.sl 2 1 1 0 b b),(37,.int .i64 ((a:Nat):Int)),(38,.int .i64 ((h:Nat):Int))],[(0,.vs [.imm c (.ns .u64 e) 1 1 0 f]),(1,.vs [.imm d (.ns .u64 g) 1 1 0 a]),(2,.ns .u64 i)],3⟩
def PB(d:List Int)(b:Nat)(e:List Int)(g:Nat)(c:Nat)(a:Nat)(f:List Int) :T (((List Int))⊕(((List Int))⊕(dg))) :=
  .ask (decide (((a:Nat):Int)<((g:Nat):Int)))
    (.need (dN .i64 (((a+b):Nat):Int))<|.need (uU ((c:Nat):Int) c)<|.need (uU ((a:Nat):Int) c)<|.need (fw ((a:Nat):Int) g)<|.need (fX a (List.length e))<|.need (aG 0 b d)<|.need (tJ (qu f a (c-a) (aa 0 b d) (List.getD e a 0)))<|.need (fw (((a+b):Nat):Int) c)<|.need (fX (a+b) (List.length (qb (qu f a (c-a) (aa 0 b d) (List.getD e a 0)))))<|.leaf (.inl (List.set (qb (qu f a (c-a) (aa 0 b d) (List.getD e a 0))) (a+b) (tK (qu f a (c-a) (aa 0 b d) (List.getD e a 0))))))
    (.leaf (.inr (.inl f)))
def PC(a:Nat)(b:List Int) :T ((Nat×(List Int))⊕(((List Int))⊕(dg))) :=
  .need (dN .i64 (((a+1):Nat):Int))<|.leaf (.inl ((a+1),b))
def vN(b:List Int)(c:Nat)(d:List Int)(e:Nat)(f:Nat) :Nat×(List Int)→Option ((Nat×(List Int))⊕(((List Int))⊕(dg))):=fun (a,g) =>
  aN ((PB b c d e f a g).run) fun h =>
  (PC a h).run
theorem PD(f:Lv)(g:Lv)(b:List Int)(c:Nat)(d:List Int)(e:Nat)(a:Nat)(h:Nat)(i:List Int) :Sg prog [] PA (tL f g b c d e a (h,i)) (vN b c d e a (h,i)) (tL f g b c d e a) (dS 0 (FG a) wN):=by
  unfold vN;exact Sg.cut 3 (bb lN) (br gw (SJ f g b c d e a h) [⟨[],[0,1,2],[2,3,7,37,38]⟩,⟨[],[2],[7]⟩]) (fun j=>br gw (tL f g b c d e a) [⟨[],[0,1,2],[2,3,7,37,38]⟩])
def PE:Nat×Nat×Nat×Nat×(List Int)→aC:=fun (a,b,c,d,e)=>⟨aj 61 [(4,.sl 0 1 1 a b c),(5,.int .i64 ((d:Nat):Int))],[(0,.ns .u64 e)],1⟩
def PF(a:Nat)(b:List Int) :T ((Nat×Nat×Nat×Nat×(List Int))⊕(dg)) :=
  .alt 0
    (.need (oX (ed b 0 a a))<|.leaf (.inl (0,0,0,3,([]:List Int))))
    (.alt 1
      (.need (oY (ed b 0 a a))<|.leaf (.inl ((ou (ed b 0 a a)),(ov (ed b 0 a a)),(ow (ed b 0 a a)),0,(ox (ed b 0 a a)))))
      (.fail))
def PG(a:Nat)(b:Nat)(c:Nat)(d:Nat)(e:List Int) :T ((Empty)⊕(dg)) :=
  .leaf (.inr (.r0 a b c d e))
def nL(d:List Int)(e:List Int) :Option dg:=mC (aN ((Px d e).run) fun (f,g,a,h,b) =>
  aN ((Py f a b).run) fun i =>
  aN ((Pz a b i).run) fun (c,j) =>
  aN (gR (vN g a h b c) (0,j)) fun k =>
  aN ((PF c k).run) fun (l,m,n,o,p) =>
  (PG l m n o p).run)
theorem SK(a:Lv)(g:List Int)(b:Lv)(i:List Int){x:dg}(h:nL g i=some x) :af prog wB [] [.imm a (.ns .u64 g) 1 1 0 (List.length g),.imm b (.ns .u64 i) 1 1 0 (List.length i)] (BM x) :=
  nB true BM wN h (Sg.cut 2 lN (br gw (SG a b) [⟨[],[0,16],[2,3,6]⟩,⟨[],[0,16],[2,3,6]⟩,⟨[],[0,16],[2,3,6]⟩]) (fun ⟨q,c,d,e,f⟩=>Sg.cut 3 lN (br gw (SH a b c d e f) [⟨[(.slot 4,.own 1 1 (.ns .u64 ([]:List Int)))],[82],[4,5]⟩,⟨[],[0,1],[2,3,29]⟩,⟨[],[0,1],[2,3,29]⟩,⟨[],[0,1],[2,3,29]⟩]) (fun r=>Sg.cut 3 lN (br gw (SI a b c d e f) [⟨[(.slot 4,.own 1 1 (.ns .u64 ([]:List Int)))],[34],[4,5]⟩,⟨[],[0,1,82],[2,3,7,37,38]⟩]) (fun ⟨j,s⟩=>Sg.cut 1 lN (GM ⟨[],[0,1,2],[2,3,7,37,38]⟩ (tL a b c d e f j) (FG j) 0 lN (SF _) (fun ⟨k,l⟩=>PD a b c d e f j k l)) (fun t=>Sg.cut 1 lN (br gw PE [⟨[(.slot 4,.own 1 1 (.ns .u64 ([]:List Int)))],[97],[4,5]⟩,⟨[],[0],[4,5]⟩]) (fun ⟨u,v,w,y,z⟩=>br gw mX [⟨[],[0],[4,5]⟩]))))))
    (fun x=>by cases x with | r0 m n o p A=>exact mc [.sl 0 1 1 m n o,.int .i64 ((p:Nat):Int)])
def tM:Option dg→Bool
  | some _=>true
  | none=>false
def tN:Option dg→Nat
  | some (.r0 x _ _ _ _)=>x
  | _=>0
def tO:Option dg→Nat
  | some (.r0 _ x _ _ _)=>x
  | _=>0
def zU:Option dg→Nat
  | some (.r0 _ _ x _ _)=>x
  | _=>0
def tP:Option dg→Nat
  | some (.r0 _ _ _ x _)=>x
  | _=>0
def tQ:Option dg→List Int
  | some (.r0 _ _ _ _ x)=>x
  | _=>[]
theorem SL{x:Option dg}(h:tM x=true) :x=some (.r0 (tN x) (tO x) (zU x) (tP x) (tQ x)):=by
  unfold tM at h
  split at h<;>first | rfl | (cases h;done) | (rename_i y;cases y;rfl)
def J0:aA:=ca wB (.cons (.ns .u64) (.cons (.ns .u64) .nil)) fun t=>(fun q=>[⟨BM (.r0 (tN q) (tO q) (zU q) (tP q) (tQ q)),[tM q]⟩]) (nL t.1.2 t.2.1.2)
theorem LD:aL prog J0:=aP fun t=>(aQ (fun h=>SK t.1.1 t.1.2 t.2.1.1 t.2.1.2 (SL h)) aZ)
def J1:List aA:=J0::JZ
theorem jI:aO prog (aK J1):=ap LD gw
inductive eC where
  | r0 (a:Nat) (b:Nat) (c:Nat) (d:List Int)
def wO:eC→AE×aC
  | .r0 a b c d=>(.ret,⟨aj 59 [(4,.sl 0 1 1 a b c)],[(0,.ns .u64 d)],1⟩)
theorem qP:jU wO:=by intro x;cases x<;>(intro h;cases h)
theorem SM(id:Nat) :oV id wO:=by intro x;cases x<;>(intro h;cases h)
def BN:eC→fZ
  | .r0 a b d c=>⟨.imm .free (.ns .u64 c) 1 1 a b,[]⟩
def SN:List Code:=dd (ph wF)
def SO(c:Lv)(a:List Int) :Int×Int×Nat×(List Int)→aC:=fun (d,r2,b,e)=>⟨aj 59 [(0,.imm c (.ns .u64 a) 1 1 0 (List.length a)),(5,.int .i64 d),(6,.int .u64 r2),(7,.sl 0 1 1 0 b b),(24,.int .i64 (((List.length a):Nat):Int)),(25,.int .i64 (0:Int))],[(0,.ns .u64 e)],1⟩
def PH(b:List Int)(a:Int) :T ((Int×Int×Nat×(List Int))⊕(eC)) :=
  .ask ((((List.length b):Nat):Int)==(0:Int))
    (.leaf (.inr (.r0 0 0 0 ([]:List Int))))
    (.need ((64:Int) != (0:Int))<|.need (dN .i64 (Int.tdiv a (64:Int)))<|.need ((64:Int) != (0:Int))<|.need (dN .i64 ((((List.length b):Nat):Int)+(Int.tdiv a (64:Int))))<|.need (dN .i64 (((((List.length b):Nat):Int)+(Int.tdiv a (64:Int)))+(1:Int)))<|.need (decide ((0:Int)≤(((((List.length b):Nat):Int)+(Int.tdiv a (64:Int)))+(1:Int))))<|.need (decide ((((((List.length b):Nat):Int)+(Int.tdiv a (64:Int)))+(1:Int))≤(((((List.length b):Nat):Int)+(Int.tdiv a (64:Int)))+(1:Int))))<|.need (decide ((8:Int)*(((((List.length b):Nat):Int)+(Int.tdiv a (64:Int)))+(1:Int))≤140737488355328))<|.need (dN .i64 (((((List.length b):Nat):Int)+(Int.tdiv a (64:Int)))+(1:Int)))<|.leaf (.inl ((Int.tdiv a (64:Int)),(IntKind.u64.wrap (Int.tmod a (64:Int))),(Int.toNat (((((List.length b):Nat):Int)+(Int.tdiv a (64:Int)))+(1:Int))),(List.replicate (Int.toNat (((((List.length b):Nat):Int)+(Int.tdiv a (64:Int)))+(1:Int))) (0:Int)))))
def tR(c:Lv)(a:List Int)(d:Int)(r2:Int)(b:Nat) :Nat×(List Int)→aC:=fun (e,f)=>⟨aj 59 [(0,.imm c (.ns .u64 a) 1 1 0 (List.length a)),(5,.int .i64 d),(6,.int .u64 r2),(7,.sl 0 1 1 0 b b),(24,.int .i64 (((List.length a):Nat):Int)),(25,.int .i64 ((e:Nat):Int))],[(0,.ns .u64 f)],1⟩
def FH(a:Nat)(b:(List Int)) :aC:=⟨aj 59 [(7,.sl 0 1 1 0 a a)],[(0,.ns .u64 b)],1⟩
def PI:List Code:=dd (fB ((((SN.drop 6).take 1)).headD .skip))
def SP(c:Lv)(a:List Int)(d:Int)(r2:Int)(b:Nat)(e:Nat)(f:(List Int)) :aC:=⟨aj 59 [(0,.imm c (.ns .u64 a) 1 1 0 (List.length a)),(5,.int .i64 d),(6,.int .u64 r2),(7,.sl 0 1 1 0 b b),(24,.int .i64 (((List.length a):Nat):Int)),(25,.int .i64 ((e:Nat):Int))],[(0,.ns .u64 f)],1⟩
def PJ(c:List Int)(b:Int)(r2:Int)(e:Nat)(a:Nat)(d:List Int) :T (((List Int))⊕(((List Int))⊕(eC))) :=
  .ask (decide (((a:Nat):Int)<(((List.length c):Nat):Int)))
    (.need (dN .i64 (((a:Nat):Int)+b))<|.need (fw (((a:Nat):Int)+b) e)<|.need (fX (Int.toNat (((a:Nat):Int)+b)) (List.length d))<|.need (fw ((a:Nat):Int) (List.length c))<|.need (fX a (List.length c))<|.need (decide ((0:Int)≤r2))<|.need (fw (((a:Nat):Int)+b) e)<|.need (fX (Int.toNat (((a:Nat):Int)+b)) (List.length d))<|.need (dN .i64 (((a:Nat):Int)+b))<|.need (dN .i64 ((((a:Nat):Int)+b)+(1:Int)))<|.need (fw ((a:Nat):Int) (List.length c))<|.need (fX a (List.length c))<|.need (decide ((0:Int)≤(1:Int)))<|.need (decide ((0:Int)≤(IntKind.u64.wrap ((63:Int)-r2))))<|.need (fw ((((a:Nat):Int)+b)+(1:Int)) e)<|.need (fX (Int.toNat ((((a:Nat):Int)+b)+(1:Int))) (List.length (List.set d (Int.toNat (((a:Nat):Int)+b)) (dM .or .u64 (List.getD d (Int.toNat (((a:Nat):Int)+b)) 0) (IntKind.u64.wrap ((List.getD c a 0)*2^(min (Int.toNat r2) (IntKind.u64.bits))))))))<|.leaf (.inl (List.set (List.set d (Int.toNat (((a:Nat):Int)+b)) (dM .or .u64 (List.getD d (Int.toNat (((a:Nat):Int)+b)) 0) (IntKind.u64.wrap ((List.getD c a 0)*2^(min (Int.toNat r2) (IntKind.u64.bits)))))) (Int.toNat ((((a:Nat):Int)+b)+(1:Int))) (Int.fdiv (Int.fdiv (List.getD c a 0) (2^(min (Int.toNat (1:Int)) (IntKind.u64.bits)))) (2^(min (Int.toNat (IntKind.u64.wrap ((63:Int)-r2))) (IntKind.u64.bits)))))))
    (.leaf (.inr (.inl d)))
def PK(a:Nat)(b:List Int) :T ((Nat×(List Int))⊕(((List Int))⊕(eC))) :=
  .need (dN .i64 (((a+1):Nat):Int))<|.leaf (.inl ((a+1),b))
def vO(b:List Int)(c:Int)(r2:Int)(d:Nat) :Nat×(List Int)→Option ((Nat×(List Int))⊕(((List Int))⊕(eC))):=fun (a,e) =>
  aN ((PJ b c r2 d a e).run) fun f =>
  (PK a f).run
theorem PL(d:Lv)(b:List Int)(c:Int)(r2:Int)(a:Nat)(e:Nat)(f:List Int) :Sg prog [] PI (tR d b c r2 a (e,f)) (vO b c r2 a (e,f)) (tR d b c r2 a) (dS 0 (FH a) wO):=by
  unfold vO;exact Sg.cut 3 (bb qP) (br jI (SP d b c r2 a e) [⟨[],[0],[0,5,6,7,24,25]⟩,⟨[],[0],[7]⟩]) (fun g=>br jI (tR d b c r2 a) [⟨[],[0],[0,5,6,7,24,25]⟩])
def SQ:Nat×Nat×Nat×(List Int)→aC:=fun (a,b,c,d)=>⟨aj 59 [(4,.sl 0 1 1 a b c)],[(0,.ns .u64 d)],1⟩
def PM(a:Nat)(b:List Int) :T ((Nat×Nat×Nat×(List Int))⊕(eC)) :=
  .need (fg (aT b 0 a a))<|.leaf (.inl ((eO (aT b 0 a a)),(eP (aT b 0 a a)),(eQ (aT b 0 a a)),(eR (aT b 0 a a))))
def PN(a:Nat)(b:Nat)(c:Nat)(d:List Int) :T ((Empty)⊕(eC)) :=
  .leaf (.inr (.r0 a b c d))
def dw(a:List Int)(c:Int) :Option eC:=mC (aN ((PH a c).run) fun (d,r2,b,e) =>
  aN (gR (vO a d r2 b) (0,e)) fun f =>
  aN ((PM b f).run) fun (g,h,i,j) =>
  (PN g h i j).run)
theorem SS(b:Lv)(a:List Int)(d:Int){x:eC}(h:dw a d=some x) :af prog wF [] [.imm b (.ns .u64 a) 1 1 0 (List.length a),.int .i64 d] (BN x) :=
  nB true BN wO h (Sg.cut 6 qP (br jI (SO b a) [⟨[(.slot 4,.own 1 1 (.ns .u64 ([]:List Int)))],[80],[4]⟩,⟨[],[256],[0,5,6,7,24,25]⟩]) (fun ⟨e,r2,c,l⟩=>Sg.cut 1 qP (GM ⟨[],[0],[0,5,6,7,24,25]⟩ (tR b a e r2 c) (FH c) 0 qP (SM _) (fun ⟨f,g⟩=>PL b a e r2 c f g)) (fun m=>Sg.cut 1 qP (br jI SQ [⟨[],[0],[4]⟩]) (fun ⟨n,o,p,q⟩=>br jI mX [⟨[],[0],[4]⟩]))))
    (fun x=>by cases x with | r0 i j k r=>exact mc [.sl 0 1 1 i j k])
def tS:Option eC→Bool
  | some _=>true
  | none=>false
def hY:Option eC→Nat
  | some (.r0 x _ _ _)=>x
  | _=>0
def hZ:Option eC→Nat
  | some (.r0 _ x _ _)=>x
  | _=>0
def zV:Option eC→Nat
  | some (.r0 _ _ x _)=>x
  | _=>0
def ia:Option eC→List Int
  | some (.r0 _ _ _ x)=>x
  | _=>[]
theorem SU{x:Option eC}(h:tS x=true) :x=some (.r0 (hY x) (hZ x) (zV x) (ia x)):=by
  unfold tS at h
  split at h<;>first | rfl | (cases h;done) | (rename_i y;cases y;rfl)
def J2:aA:=ca wF (.cons (.ns .u64) (.cons (.int .i64) .nil)) fun t=>(fun q=>[⟨BN (.r0 (hY q) (hZ q) (zV q) (ia q)),[tS q]⟩]) (dw t.1.2 t.2.1)
theorem LF:aL prog J2:=aP fun t=>(aQ (fun h=>SS t.1.1 t.1.2 t.2.1 (SU h)) aZ)
def J3:List aA:=J2::J1
theorem tT:aO prog (aK J3):=ap LF jI
inductive dz where
  | r0 (a:List Int) (b:Nat) (c:Nat)
def xi(a:Lv) :dz→AE×aC
  | .r0 b c d=>(.ret,⟨aj 10 [(2,.imm a (.ns .u64 b) 1 1 0 c),(3,.int .i64 ((d:Nat):Int))],[],0⟩)
theorem FI{a:Lv} :jU (xi a):=by intro x;cases x<;>(intro h;cases h)
def si(a:Lv) :dz→fZ
  | .r0 b c d=>⟨.tup [.imm a (.ns .u64 b) 1 1 0 c,.int .i64 ((d:Nat):Int)],[]⟩
def FJ(a:Lv) :(List Int)×Nat→aC:=fun (b,c)=>⟨aj 10 [(0,.imm a (.ns .u64 b) 1 1 0 c)],[],0⟩
def FK(a:List Int) :T (((List Int)×Nat)⊕(dz)) :=
  .need (aG 0 (List.length a) a)<|.need (cI (an (aa 0 (List.length a) a)))<|.leaf (.inl ((aM (an (aa 0 (List.length a) a))),(ax (an (aa 0 (List.length a) a)))))
def FL(b:List Int)(a:Nat) :T ((Empty)⊕(dz)) :=
  .ask (decide (((a:Nat):Int)>(4096:Int)))
    (.leaf (.inr (.r0 ([]:List Int) 0 3)))
    (.leaf (.inr (.r0 b a 0)))
def iZ(a:List Int) :Option dz:=mC (aN ((FK a).run) fun (b,c) =>
  (FL b c).run)
theorem FM(a:Lv)(b:List Int){x:dz}(h:iZ b=some x) :af prog qI [] [.imm a (.ns .u64 b) 1 1 0 (List.length b)] (si a x) :=
  nB false (si a) (xi a) h (Sg.cut 2 FI (br tT (FJ a) [⟨[],[],[0]⟩]) (fun ⟨f,g⟩=>br tT mX [⟨[(.slot 2,.fre 1 1 (.ns .u64 ([]:List Int))),(.slot 2,.lev a)],[],[2,3]⟩,⟨[],[],[2,3]⟩]))
    (fun x=>by cases x with | r0 c d e=>exact mc [.imm a (.ns .u64 c) 1 1 0 d,.int .i64 ((e:Nat):Int)])
def mI:Option dz→Bool
  | some _=>true
  | none=>false
def nM:Option dz→List Int
  | some (.r0 x _ _)=>x
  | _=>[]
def nN:Option dz→Nat
  | some (.r0 _ x _)=>x
  | _=>0
def nO:Option dz→Nat
  | some (.r0 _ _ x)=>x
  | _=>0
theorem FO{x:Option dz}(h:mI x=true) :x=some (.r0 (nM x) (nN x) (nO x)):=by
  unfold mI at h
  split at h<;>first | rfl | (cases h;done) | (rename_i y;cases y;rfl)
def xj:aA:=ca qI (.cons (.ns .u64) .nil) fun t=>(fun q=>[⟨si t.1.1 (.r0 (nM q) (nN q) (nO q)),[mI q]⟩]) (iZ t.1.2)
theorem BO:aL prog xj:=aP fun t=>(aQ (fun h=>FM t.1.1 t.1.2 (FO h)) aZ)
def xk:List aA:=xj::J3
theorem gU:aO prog (aK xk):=ap BO tT
inductive fR where
  | r0 (a:List Int) (b:Nat) (c:Nat)
def J4:fR→AE×aC
  | .r0 a b c=>(.ret,⟨aj 30 [(4,.imm .free (.ns .u64 a) 1 1 0 b),(5,.int .i64 ((c:Nat):Int))],[],0⟩)
theorem yw:jU J4:=by intro x;cases x<;>(intro h;cases h)
def BP:fR→fZ
  | .r0 a b c=>⟨.tup [.imm .free (.ns .u64 a) 1 1 0 b,.int .i64 ((c:Nat):Int)],[]⟩
def SV(a:Lv)(b:Int) :Nat×(List Int)×Nat→aC:=fun (c,d,e)=>⟨aj 30 [(1,.int .i64 b),(2,.ptr 0 1 0 0),(6,.int .i64 ((c:Nat):Int))],[(0,.vs [.imm a (.ns .u64 d) 1 1 0 e])],1⟩
def SW(a:List Int) :T ((Nat×(List Int)×Nat)⊕(fR)) :=
  .ask (decide ((0:Int)<(1:Int)))
    (.need (fw (0:Int) 1)<|.need (aG 0 (List.length a) a)<|.need (cI (an (aa 0 (List.length a) a)))<|.ask (decide ((((ax (an (aa 0 (List.length a) a))):Nat):Int)>(4096:Int)))
      (.leaf (.inl (2,(aM (an (aa 0 (List.length a) a))),(ax (an (aa 0 (List.length a) a))))))
      (.need (dN .i64 (1:Int))<|.ask (decide ((1:Int)<(1:Int)))
        (.fail)
        (.leaf (.inl (0,(aM (an (aa 0 (List.length a) a))),(ax (an (aa 0 (List.length a) a))))))))
    (.fail)
def SX(a:Lv)(b:Int)(c:List Int)(d:Nat)(_:Unit) :aC:=⟨aj 30 [(1,.int .i64 b),(2,.ptr 0 1 0 0)],[(0,.vs [.imm a (.ns .u64 c) 1 1 0 d])],1⟩
def SY(a:Int)(b:Nat)(c:Nat) :T ((Unit)⊕(fR)) :=
  .ask (((b:Nat):Int) != (0:Int))
    (.leaf (.inr (.r0 ([]:List Int) 0 2)))
    (.ask (decide (a<(0:Int)))
      (.leaf (.inr (.r0 ([]:List Int) 0 2)))
      (.ask (decide (((c:Nat):Int)>(0:Int)))
        (.ask (decide (a≥(262144:Int)))
          (.leaf (.inr (.r0 ([]:List Int) 0 3)))
          (.leaf (.inl ())))
        (.leaf (.inl ()))))
def SZ:(List Int)×Nat×Nat→aC:=fun (a,b,c)=>⟨aj 30 [(4,.imm .free (.ns .u64 a) 1 1 0 b),(5,.int .i64 ((c:Nat):Int))],[],0⟩
def S5(c:Int)(a:List Int)(b:Nat) :T (((List Int)×Nat×Nat)⊕(fR)) :=
  .need (aG 0 b a)<|.need (tS (dw (aa 0 b a) c))<|.need (aG (hY (dw (aa 0 b a) c)) (hZ (dw (aa 0 b a) c)) (ia (dw (aa 0 b a) c)))<|.need (mI (iZ (aa (hY (dw (aa 0 b a) c)) (hZ (dw (aa 0 b a) c)) (ia (dw (aa 0 b a) c)))))<|.leaf (.inl ((nM (iZ (aa (hY (dw (aa 0 b a) c)) (hZ (dw (aa 0 b a) c)) (ia (dw (aa 0 b a) c))))),(nN (iZ (aa (hY (dw (aa 0 b a) c)) (hZ (dw (aa 0 b a) c)) (ia (dw (aa 0 b a) c))))),(nO (iZ (aa (hY (dw (aa 0 b a) c)) (hZ (dw (aa 0 b a) c)) (ia (dw (aa 0 b a) c)))))))
def S6(a:List Int)(b:Nat)(c:Nat) :T ((Empty)⊕(fR)) :=
  .leaf (.inr (.r0 a b c))
def fS(c:List Int)(a:Int) :Option fR:=mC (aN ((SW c).run) fun (d,e,b) =>
  aN ((SY a d b).run) fun _ =>
  aN ((S5 a e b).run) fun (f,g,h) =>
  (S6 f g h).run)
theorem S7(b:Lv)(c:List Int)(a:Int){x:fR}(h:fS c a=some x) :af prog Bz [] [.imm b (.ns .u64 c) 1 1 0 (List.length c),.int .i64 a] (BP x) :=
  nB true BP J4 h (Sg.cut 2 yw (br gU (SV b a) [⟨[],[0],[1,2,6]⟩,⟨[],[0],[1,2,6]⟩]) (fun ⟨j,d,e⟩=>Sg.cut 1 yw (br gU (SX b a d e) [⟨[(.slot 4,.fre 1 1 (.ns .u64 ([]:List Int)))],[],[4,5]⟩,⟨[(.slot 4,.fre 1 1 (.ns .u64 ([]:List Int)))],[],[4,5]⟩,⟨[(.slot 4,.fre 1 1 (.ns .u64 ([]:List Int)))],[],[4,5]⟩,⟨[],[0],[1,2]⟩,⟨[],[0],[1,2]⟩]) (fun _=>Sg.cut 1 yw (br gU SZ [⟨[],[],[4,5]⟩]) (fun ⟨k,l,m⟩=>br gU mX [⟨[],[],[4,5]⟩]))))
    (fun x=>by cases x with | r0 f g i=>exact mc [.imm .free (.ns .u64 f) 1 1 0 g,.int .i64 ((i:Nat):Int)])
def nP:Option fR→Bool
  | some _=>true
  | none=>false
def jJ:Option fR→List Int
  | some (.r0 x _ _)=>x
  | _=>[]
def jK:Option fR→Nat
  | some (.r0 _ x _)=>x
  | _=>0
def zW:Option fR→Nat
  | some (.r0 _ _ x)=>x
  | _=>0
theorem S8{x:Option fR}(h:nP x=true) :x=some (.r0 (jJ x) (jK x) (zW x)):=by
  unfold nP at h
  split at h<;>first | rfl | (cases h;done) | (rename_i y;cases y;rfl)
def J5:aA:=ca Bz (.cons (.ns .u64) (.cons (.int .i64) .nil)) fun t=>(fun q=>[⟨BP (.r0 (jJ q) (jK q) (zW q)),[nP q]⟩]) (fS t.1.2 t.2.1)
theorem LG:aL prog J5:=aP fun t=>(aQ (fun h=>S7 t.1.1 t.1.2 t.2.1 (S8 h)) aZ)
def J6:List aA:=J5::xk
theorem fE:aO prog (aK J6):=ap LG gU
inductive cH where
  | r0 (a:Nat) (b:Nat) (c:Nat) (d:Bool) (e:List Int)
def sG:cH→AE×aC
  | .r0 a b c d e=>(.ret,⟨aj 97 [(4,.sl 0 1 1 a b c),(5,.bool false d)],[(0,.ns .u64 e)],1⟩)
theorem ib:jU sG:=by intro x;cases x<;>(intro h;cases h)
theorem FP(id:Nat) :oV id sG:=by intro x;cases x<;>(intro h;cases h)
def BQ:cH→fZ
  | .r0 a b e c d=>⟨.tup [.imm .free (.ns .u64 d) 1 1 a b,.bool false c],[]⟩
def Cy:List Code:=dd (ph wD)
def S9(b:Lv)(a:List Int) :Int×Int×Bool×Nat×Nat→aC:=fun (c,r2,d,e,f)=>⟨aj 97 [(0,.imm b (.ns .u64 a) 1 1 0 (List.length a)),(6,.int .i64 c),(7,.int .u64 r2),(8,.bool false d),(36,.imm b (.ns .u64 a) 1 1 0 e),(37,.int .i64 ((f:Nat):Int)),(38,.int .i64 (0:Int))],[],0⟩
def PO(b:List Int)(a:Int) :T ((Int×Int×Bool×Nat×Nat)⊕(cH)) :=
  .need ((64:Int) != (0:Int))<|.need (dN .i64 (Int.tdiv a (64:Int)))<|.need ((64:Int) != (0:Int))<|.ask (decide ((Int.tdiv a (64:Int))≥(((List.length b):Nat):Int)))
    (.leaf (.inr (.r0 0 0 0 (decide ((((List.length b):Nat):Int)>(0:Int))) ([]:List Int))))
    (.need (fw (Int.tdiv a (64:Int)) (List.length b))<|.need (fX (Int.toNat (Int.tdiv a (64:Int))) (List.length b))<|.need (decide ((0:Int)≤(IntKind.u64.wrap (Int.tmod a (64:Int)))))<|.need (uU (Int.tdiv a (64:Int)) (List.length b))<|.need (uU (0:Int) (Int.toNat (Int.tdiv a (64:Int))))<|.leaf (.inl ((Int.tdiv a (64:Int)),(IntKind.u64.wrap (Int.tmod a (64:Int))),((dM .and .u64 (List.getD b (Int.toNat (Int.tdiv a (64:Int))) 0) (IntKind.u64.wrap ((IntKind.u64.wrap ((1:Int)*2^(min (Int.toNat (IntKind.u64.wrap (Int.tmod a (64:Int)))) (IntKind.u64.bits))))-(1:Int)))) != (0:Int)),(Int.toNat (Int.tdiv a (64:Int))),(Int.toNat (Int.tdiv a (64:Int))))))
def tU(b:Lv)(a:List Int)(c:Int)(r2:Int)(d:Nat)(e:Nat) :Bool×Nat→aC:=fun (f,g)=>⟨aj 97 [(0,.imm b (.ns .u64 a) 1 1 0 (List.length a)),(6,.int .i64 c),(7,.int .u64 r2),(8,.bool false f),(36,.imm b (.ns .u64 a) 1 1 0 d),(37,.int .i64 ((e:Nat):Int)),(38,.int .i64 ((g:Nat):Int))],[],0⟩
def FQ(b:Lv)(a:List Int)(c:Int)(r2:Int)(d:Bool) :aC:=⟨aj 97 [(0,.imm b (.ns .u64 a) 1 1 0 (List.length a)),(6,.int .i64 c),(7,.int .u64 r2),(8,.bool false d)],[],0⟩
def PP:List Code:=dd (fB ((((Cy.drop 6).take 1)).headD .skip))
def Ta(b:Lv)(a:List Int)(c:Int)(r2:Int)(d:Nat)(e:Nat)(f:Nat)(g:Bool) :aC:=⟨aj 97 [(0,.imm b (.ns .u64 a) 1 1 0 (List.length a)),(6,.int .i64 c),(7,.int .u64 r2),(8,.bool false g),(36,.imm b (.ns .u64 a) 1 1 0 d),(37,.int .i64 ((e:Nat):Int)),(38,.int .i64 ((f:Nat):Int))],[],0⟩
def PQ(b:List Int)(d:Nat)(e:Nat)(c:Bool)(a:Nat) :T ((Bool)⊕((Bool)⊕(cH))) :=
  .ask (decide (((a:Nat):Int)<((e:Nat):Int)))
    (.need (fw ((a:Nat):Int) d)<|.need (fX a (List.length b))<|.ask c
      (.leaf (.inl true))
      (.leaf (.inl ((List.getD b a 0) != (0:Int)))))
    (.leaf (.inr (.inl c)))
def PR(a:Nat)(b:Bool) :T ((Bool×Nat)⊕((Bool)⊕(cH))) :=
  .need (dN .i64 (((a+1):Nat):Int))<|.leaf (.inl (b,(a+1)))
def vP(b:List Int)(c:Nat)(d:Nat) :Bool×Nat→Option ((Bool×Nat)⊕((Bool)⊕(cH))):=fun (e,a) =>
  aN ((PQ b c d e a).run) fun f =>
  (PR a f).run
theorem PS(b:Lv)(a:List Int)(c:Int)(r2:Int)(d:Nat)(e:Nat)(g:Bool)(f:Nat) :Sg prog [] PP (tU b a c r2 d e (g,f)) (vP a d e (g,f)) (tU b a c r2 d e) (dS 0 (FQ b a c r2) sG):=by
  unfold vP;exact Sg.cut 3 (bb ib) (br fE (Ta b a c r2 d e f) [⟨[],[],[0,6,7,8,36,37,38]⟩,⟨[],[],[0,6,7,8,36,37,38]⟩,⟨[],[],[0,6,7,8]⟩]) (fun h=>br fE (tU b a c r2 d e) [⟨[],[],[0,6,7,8,36,37,38]⟩])
def Tb(c:Lv)(a:List Int)(d:Int)(r2:Int)(e:Bool) :Nat×Nat×(List Int)→aC:=fun (b,f,g)=>⟨aj 97 [(0,.imm c (.ns .u64 a) 1 1 0 (List.length a)),(6,.int .i64 d),(7,.int .u64 r2),(8,.bool false e),(11,.sl 0 1 1 0 b b),(54,.int .i64 ((f:Nat):Int)),(55,.int .i64 (0:Int))],[(0,.ns .u64 g)],1⟩
def PT(a:List Int)(b:Int) :T ((Nat×Nat×(List Int))⊕(cH)) :=
  .need (dN .i64 ((((List.length a):Nat):Int)-b))<|.need (decide ((0:Int)≤((((List.length a):Nat):Int)-b)))<|.need (decide (((((List.length a):Nat):Int)-b)≤((((List.length a):Nat):Int)-b)))<|.need (decide ((8:Int)*((((List.length a):Nat):Int)-b)≤140737488355328))<|.need (dN .i64 ((((List.length a):Nat):Int)-b))<|.leaf (.inl ((Int.toNat ((((List.length a):Nat):Int)-b)),(Int.toNat ((((List.length a):Nat):Int)-b)),(List.replicate (Int.toNat ((((List.length a):Nat):Int)-b)) (0:Int))))
def rD(c:Lv)(a:List Int)(d:Int)(r2:Int)(e:Bool)(b:Nat)(f:Nat) :Nat×(List Int)→aC:=fun (g,h)=>⟨aj 97 [(0,.imm c (.ns .u64 a) 1 1 0 (List.length a)),(6,.int .i64 d),(7,.int .u64 r2),(8,.bool false e),(11,.sl 0 1 1 0 b b),(54,.int .i64 ((f:Nat):Int)),(55,.int .i64 ((g:Nat):Int))],[(0,.ns .u64 h)],1⟩
def Cz(b:Bool)(a:Nat)(c:(List Int)) :aC:=⟨aj 97 [(8,.bool false b),(11,.sl 0 1 1 0 a a)],[(0,.ns .u64 c)],1⟩
def PU:List Code:=dd (fB ((((((Cy.drop 6).drop 1).drop 2).take 1)).headD .skip))
def PV(c:Lv)(a:List Int)(d:Int)(r2:Int)(e:Bool)(b:Nat)(f:Nat)(g:Nat)(h:(List Int)) :aC:=⟨aj 97 [(0,.imm c (.ns .u64 a) 1 1 0 (List.length a)),(6,.int .i64 d),(7,.int .u64 r2),(8,.bool false e),(11,.sl 0 1 1 0 b b),(54,.int .i64 ((f:Nat):Int)),(55,.int .i64 ((g:Nat):Int))],[(0,.ns .u64 h)],1⟩
def PW(c:List Int)(b:Int)(r2:Int)(e:Nat)(f:Nat)(a:Nat)(d:List Int) :T (((List Int))⊕(((List Int))⊕(cH))) :=
  .ask (decide (((a:Nat):Int)<((f:Nat):Int)))
    (.need (dN .i64 (((a:Nat):Int)+b))<|.need (fw (((a:Nat):Int)+b) (List.length c))<|.need (fX (Int.toNat (((a:Nat):Int)+b)) (List.length c))<|.need (decide ((0:Int)≤r2))<|.need (fw ((a:Nat):Int) e)<|.need (fX a (List.length d))<|.need (dN .i64 (((a:Nat):Int)+b))<|.need (dN .i64 ((((a:Nat):Int)+b)+(1:Int)))<|.ask (decide (((((a:Nat):Int)+b)+(1:Int))<(((List.length c):Nat):Int)))
      (.need (fw ((a:Nat):Int) e)<|.need (fX a (List.length (List.set d a (Int.fdiv (List.getD c (Int.toNat (((a:Nat):Int)+b)) 0) (2^(min (Int.toNat r2) (IntKind.u64.bits)))))))<|.need (dN .i64 (((a:Nat):Int)+b))<|.need (dN .i64 ((((a:Nat):Int)+b)+(1:Int)))<|.need (fw ((((a:Nat):Int)+b)+(1:Int)) (List.length c))<|.need (fX (Int.toNat ((((a:Nat):Int)+b)+(1:Int))) (List.length c))<|.need (decide ((0:Int)≤(1:Int)))<|.need (decide ((0:Int)≤(IntKind.u64.wrap ((63:Int)-r2))))<|.need (fw ((a:Nat):Int) e)<|.need (fX a (List.length (List.set d a (Int.fdiv (List.getD c (Int.toNat (((a:Nat):Int)+b)) 0) (2^(min (Int.toNat r2) (IntKind.u64.bits)))))))<|.leaf (.inl (List.set (List.set d a (Int.fdiv (List.getD c (Int.toNat (((a:Nat):Int)+b)) 0) (2^(min (Int.toNat r2) (IntKind.u64.bits))))) a (dM .or .u64 (List.getD (List.set d a (Int.fdiv (List.getD c (Int.toNat (((a:Nat):Int)+b)) 0) (2^(min (Int.toNat r2) (IntKind.u64.bits))))) a 0) (IntKind.u64.wrap ((IntKind.u64.wrap ((List.getD c (Int.toNat ((((a:Nat):Int)+b)+(1:Int))) 0)*2^(min (Int.toNat (1:Int)) (IntKind.u64.bits))))*2^(min (Int.toNat (IntKind.u64.wrap ((63:Int)-r2))) (IntKind.u64.bits))))))))
      (.leaf (.inl (List.set d a (Int.fdiv (List.getD c (Int.toNat (((a:Nat):Int)+b)) 0) (2^(min (Int.toNat r2) (IntKind.u64.bits))))))))
    (.leaf (.inr (.inl d)))
def PX(a:Nat)(b:List Int) :T ((Nat×(List Int))⊕(((List Int))⊕(cH))) :=
  .need (dN .i64 (((a+1):Nat):Int))<|.leaf (.inl ((a+1),b))
def vQ(b:List Int)(c:Int)(r2:Int)(d:Nat)(e:Nat) :Nat×(List Int)→Option ((Nat×(List Int))⊕(((List Int))⊕(cH))):=fun (a,f) =>
  aN ((PW b c r2 d e a f).run) fun g =>
  (PX a g).run
theorem PY(f:Lv)(b:List Int)(c:Int)(r2:Int)(d:Bool)(a:Nat)(e:Nat)(g:Nat)(h:List Int) :Sg prog [] PU (rD f b c r2 d a e (g,h)) (vQ b c r2 a e (g,h)) (rD f b c r2 d a e) (dS 2 (Cz d a) sG):=by
  unfold vQ;exact Sg.cut 3 (bb ib) (br fE (PV f b c r2 d a e g) [⟨[],[0],[0,6,7,8,11,54,55]⟩,⟨[],[0],[0,6,7,8,11,54,55]⟩,⟨[],[0],[8,11]⟩]) (fun i=>br fE (rD f b c r2 d a e) [⟨[],[0],[0,6,7,8,11,54,55]⟩])
def PZ(a:Bool) :Nat×Nat×Nat×(List Int)→aC:=fun (b,c,d,e)=>⟨aj 97 [(4,.sl 0 1 1 b c d),(5,.bool false a)],[(0,.ns .u64 e)],1⟩
def P3(a:Nat)(b:List Int) :T ((Nat×Nat×Nat×(List Int))⊕(cH)) :=
  .need (fg (aT b 0 a a))<|.leaf (.inl ((eO (aT b 0 a a)),(eP (aT b 0 a a)),(eQ (aT b 0 a a)),(eR (aT b 0 a a))))
def P5(a:Bool)(b:Nat)(c:Nat)(d:Nat)(e:List Int) :T ((Empty)⊕(cH)) :=
  .leaf (.inr (.r0 b c d a e))
def nQ(a:List Int)(d:Int) :Option cH:=mC (aN ((PO a d).run) fun (b,r2,e,f,g) =>
  aN (gR (vP a f g) (e,0)) fun h =>
  aN ((PT a b).run) fun (c,i,j) =>
  aN (gR (vQ a b r2 c i) (0,j)) fun k =>
  aN ((P3 c k).run) fun (l,m,n,o) =>
  (P5 h l m n o).run)
theorem Tc(b:Lv)(a:List Int)(f:Int){x:cH}(h:nQ a f=some x) :af prog wD [] [.imm b (.ns .u64 a) 1 1 0 (List.length a),.int .i64 f] (BQ x) :=
  nB true BQ sG h (Sg.cut 6 ib (br fE (S9 b a) [⟨[(.slot 4,.own 1 1 (.ns .u64 ([]:List Int)))],[288],[4,5]⟩,⟨[],[],[0,6,7,8,36,37,38]⟩]) (fun ⟨c,r2,s,g,i⟩=>Sg.cut 1 ib (GM ⟨[],[],[0,6,7,8,36,37,38]⟩ (tU b a c r2 g i) (FQ b a c r2) 0 ib (FP _) (fun ⟨k,l⟩=>PS b a c r2 g i k l)) (fun d=>Sg.cut 2 ib (br fE (Tb b a c r2 d) [⟨[],[64],[0,6,7,8,11,54,55]⟩]) (fun ⟨e,j,t⟩=>Sg.cut 1 ib (GM ⟨[],[0],[0,6,7,8,11,54,55]⟩ (rD b a c r2 d e j) (Cz d e) 2 ib (FP _) (fun ⟨m,n⟩=>PY b a c r2 d e j m n)) (fun u=>Sg.cut 1 ib (br fE (PZ d) [⟨[],[0],[4,5]⟩]) (fun ⟨v,w,y,z⟩=>br fE mX [⟨[],[0],[4,5]⟩]))))))
    (fun x=>by cases x with | r0 o p q r A=>exact mc [.sl 0 1 1 o p q,.bool false r])
def tV:Option cH→Bool
  | some _=>true
  | none=>false
def tW:Option cH→Nat
  | some (.r0 x _ _ _ _)=>x
  | _=>0
def tX:Option cH→Nat
  | some (.r0 _ x _ _ _)=>x
  | _=>0
def zX:Option cH→Nat
  | some (.r0 _ _ x _ _)=>x
  | _=>0
def tY:Option cH→Bool
  | some (.r0 _ _ _ x _)=>x
  | _=>false
def tZ:Option cH→List Int
  | some (.r0 _ _ _ _ x)=>x
  | _=>[]
theorem Td{x:Option cH}(h:tV x=true) :x=some (.r0 (tW x) (tX x) (zX x) (tY x) (tZ x)):=by
  unfold tV at h
  split at h<;>first | rfl | (cases h;done) | (rename_i y;cases y;rfl)
def J7:aA:=ca wD (.cons (.ns .u64) (.cons (.int .i64) .nil)) fun t=>(fun q=>[⟨BQ (.r0 (tW q) (tX q) (zX q) (tY q) (tZ q)),[tV q]⟩]) (nQ t.1.2 t.2.1)
theorem LH:aL prog J7:=aP fun t=>(aQ (fun h=>Tc t.1.1 t.1.2 t.2.1 (Td h)) aZ)
def J8:List aA:=J7::J6
theorem mJ:aO prog (aK J8):=ap LH fE
inductive eS where
  | r0 (a:List Int) (b:Nat) (c:Nat) (d:Bool) (e:Nat)
def J9:eS→AE×aC
  | .r0 a b c d e=>(.ret,⟨aj 23 [(4,.imm .free (.ns .u64 a) 1 1 b c),(5,.bool false d),(6,.int .i64 ((e:Nat):Int))],[],0⟩)
theorem yx:jU J9:=by intro x;cases x<;>(intro h;cases h)
def BS:eS→fZ
  | .r0 a b c d e=>⟨.tup [.imm .free (.ns .u64 a) 1 1 b c,.bool false d,.int .i64 ((e:Nat):Int)],[]⟩
def Te(a:Lv)(b:Int) :Nat×(List Int)×Nat→aC:=fun (c,d,e)=>⟨aj 23 [(1,.int .i64 b),(2,.ptr 0 1 0 0),(6,.int .i64 ((c:Nat):Int))],[(0,.vs [.imm a (.ns .u64 d) 1 1 0 e])],1⟩
def Tf(a:List Int) :T ((Nat×(List Int)×Nat)⊕(eS)) :=
  .ask (decide ((0:Int)<(1:Int)))
    (.need (fw (0:Int) 1)<|.need (aG 0 (List.length a) a)<|.need (cI (an (aa 0 (List.length a) a)))<|.ask (decide ((((ax (an (aa 0 (List.length a) a))):Nat):Int)>(4096:Int)))
      (.leaf (.inl (2,(aM (an (aa 0 (List.length a) a))),(ax (an (aa 0 (List.length a) a))))))
      (.need (dN .i64 (1:Int))<|.ask (decide ((1:Int)<(1:Int)))
        (.fail)
        (.leaf (.inl (0,(aM (an (aa 0 (List.length a) a))),(ax (an (aa 0 (List.length a) a))))))))
    (.fail)
def Tg(a:Lv)(b:Int)(c:List Int)(d:Nat)(e:Bool) :aC:=⟨aj 23 [(1,.int .i64 b),(2,.ptr 0 1 0 0),(14,.bool false e)],[(0,.vs [.imm a (.ns .u64 c) 1 1 0 d])],1⟩
def Th(a:Int)(b:Nat) :T ((Bool)⊕(eS)) :=
  .ask (((b:Nat):Int) != (0:Int))
    (.leaf (.inl true))
    (.leaf (.inl (decide (a<(0:Int)))))
def Ti:(List Int)×Nat×Nat×Bool→aC:=fun (a,b,c,d)=>⟨aj 23 [(4,.imm .free (.ns .u64 a) 1 1 b c),(5,.bool false d)],[],0⟩
def Tj(c:Int)(a:List Int)(b:Nat)(d:Bool) :T (((List Int)×Nat×Nat×Bool)⊕(eS)) :=
  .ask d
    (.leaf (.inr (.r0 ([]:List Int) 0 0 false 2)))
    (.need (aG 0 b a)<|.need (tV (nQ (aa 0 b a) c))<|.leaf (.inl ((tZ (nQ (aa 0 b a) c)),(tW (nQ (aa 0 b a) c)),(tX (nQ (aa 0 b a) c)),(tY (nQ (aa 0 b a) c)))))
def Tk(a:List Int)(b:Nat)(c:Nat)(d:Bool) :T ((Empty)⊕(eS)) :=
  .leaf (.inr (.r0 a b c d 0))
def qv(b:List Int)(a:Int) :Option eS:=mC (aN ((Tf b).run) fun (c,d,e) =>
  aN ((Th a c).run) fun f =>
  aN ((Tj a d e f).run) fun (g,h,i,j) =>
  (Tk g h i j).run)
theorem Tl(b:Lv)(c:List Int)(a:Int){x:eS}(h:qv c a=some x) :af prog Bx [] [.imm b (.ns .u64 c) 1 1 0 (List.length c),.int .i64 a] (BS x) :=
  nB true BS J9 h (Sg.cut 2 yx (br mJ (Te b a) [⟨[],[0],[1,2,6]⟩,⟨[],[0],[1,2,6]⟩]) (fun ⟨l,d,e⟩=>Sg.cut 1 yx (br mJ (Tg b a d e) [⟨[],[0],[1,2,14]⟩,⟨[],[0],[1,2,14]⟩]) (fun m=>Sg.cut 2 yx (br mJ Ti [⟨[(.slot 4,.fre 1 1 (.ns .u64 ([]:List Int)))],[],[4,5,6]⟩,⟨[],[],[4,5]⟩]) (fun ⟨n,o,p,q⟩=>br mJ mX [⟨[],[],[4,5,6]⟩]))))
    (fun x=>by cases x with | r0 f g i j k=>exact mc [.imm .free (.ns .u64 f) 1 1 g i,.bool false j,.int .i64 ((k:Nat):Int)])
def ua:Option eS→Bool
  | some _=>true
  | none=>false
def ub:Option eS→List Int
  | some (.r0 x _ _ _ _)=>x
  | _=>[]
def uc:Option eS→Nat
  | some (.r0 _ x _ _ _)=>x
  | _=>0
def ud:Option eS→Nat
  | some (.r0 _ _ x _ _)=>x
  | _=>0
def zY:Option eS→Bool
  | some (.r0 _ _ _ x _)=>x
  | _=>false
def zZ:Option eS→Nat
  | some (.r0 _ _ _ _ x)=>x
  | _=>0
theorem Tm{x:Option eS}(h:ua x=true) :x=some (.r0 (ub x) (uc x) (ud x) (zY x) (zZ x)):=by
  unfold ua at h
  split at h<;>first | rfl | (cases h;done) | (rename_i y;cases y;rfl)
def Ka:aA:=ca Bx (.cons (.ns .u64) (.cons (.int .i64) .nil)) fun t=>(fun q=>[⟨BS (.r0 (ub q) (uc q) (ud q) (zY q) (zZ q)),[ua q]⟩]) (qv t.1.2 t.2.1)
theorem LI:aL prog Ka:=aP fun t=>(aQ (fun h=>Tl t.1.1 t.1.2 t.2.1 (Tm h)) aZ)
def Kb:List aA:=Ka::J8
theorem ic:aO prog (aK Kb):=ap LI mJ
inductive cW where
  | r0 (a:Int) (b:Nat)
def rE:cW→AE×aC
  | .r0 a b=>(.ret,⟨aj 31 [(2,.int .i64 a),(3,.int .i64 ((b:Nat):Int))],[],0⟩)
theorem jL:jU rE:=by intro x;cases x<;>(intro h;cases h)
theorem LJ(id:Nat) :oV id rE:=by intro x;cases x<;>(intro h;cases h)
def vR:cW→fZ
  | .r0 a b=>⟨.tup [.int .i64 a,.int .i64 ((b:Nat):Int)],[]⟩
def LK:List Code:=dd (ph rt)
def LL(a:Lv) :Nat×(List Int)×Nat→aC:=fun (b,c,d)=>⟨aj 31 [(1,.ptr 0 1 0 0),(4,.int .i64 ((b:Nat):Int))],[(0,.vs [.imm a (.ns .u64 c) 1 1 0 d])],1⟩
def Hn(a:List Int) :T ((Nat×(List Int)×Nat)⊕(cW)) :=
  .ask (decide ((0:Int)<(1:Int)))
    (.need (fw (0:Int) 1)<|.need (aG 0 (List.length a) a)<|.need (cI (an (aa 0 (List.length a) a)))<|.ask (decide ((((ax (an (aa 0 (List.length a) a))):Nat):Int)>(4096:Int)))
      (.leaf (.inl (2,(aM (an (aa 0 (List.length a) a))),(ax (an (aa 0 (List.length a) a))))))
      (.need (dN .i64 (1:Int))<|.ask (decide ((1:Int)<(1:Int)))
        (.fail)
        (.leaf (.inl (0,(aM (an (aa 0 (List.length a) a))),(ax (an (aa 0 (List.length a) a))))))))
    (.fail)
def LM(a:Lv)(b:Nat)(c:List Int)(d:Nat)(e:Bool) :aC:=⟨aj 31 [(1,.ptr 0 1 0 0),(4,.int .i64 ((b:Nat):Int)),(14,.bool false e)],[(0,.vs [.imm a (.ns .u64 c) 1 1 0 d])],1⟩
def Ho(a:Nat)(b:Nat) :T ((Bool)⊕(cW)) :=
  .ask (((a:Nat):Int) != (0:Int))
    (.leaf (.inl true))
    (.leaf (.inl (((b:Nat):Int)==(0:Int))))
def LN(a:Lv)(b:List Int)(c:Nat)(_:Unit) :aC:=⟨aj 31 [(1,.ptr 0 1 0 0),(5,.int .i64 (0:Int))],[(0,.vs [.imm a (.ns .u64 b) 1 1 0 c])],1⟩
def Hp(a:Nat)(b:Bool) :T ((Unit)⊕(cW)) :=
  .ask b
    (.leaf (.inr (.r0 (0:Int) a)))
    (.leaf (.inl ()))
def qc(a:Lv)(b:List Int)(c:Nat)(d:Nat) :aC:=⟨aj 31 [(1,.ptr 0 1 0 0),(5,.int .i64 ((d:Nat):Int))],[(0,.vs [.imm a (.ns .u64 b) 1 1 0 c])],1⟩
def Aa(a:Lv)(b:List Int)(c:Nat)(d:Nat) :aC:=⟨aj 31 [(1,.ptr 0 1 0 0),(5,.int .i64 ((d:Nat):Int))],[(0,.vs [.imm a (.ns .u64 b) 1 1 0 c])],1⟩
def Hq:List Code:=dd (fB ((((((LK.drop 2).drop 1).drop 2).take 1)).headD .skip))
def Hr(b:List Int)(c:Nat)(a:Nat) :T ((Nat)⊕((Nat)⊕(cW))) :=
  .need (fw ((a:Nat):Int) c)<|.need (fX a (List.length b))<|.ask ((List.getD b a 0)==(0:Int))
    (.need (dN .i64 (((a+1):Nat):Int))<|.leaf (.inl (a+1)))
    (.leaf (.inr (.inl a)))
def sj(a:List Int)(b:Nat) :Nat→Option ((Nat)⊕((Nat)⊕(cW))):=fun c =>
  (Hr a b c).run
theorem Hs(c:Lv)(a:List Int)(b:Nat)(d:Nat) :Sg prog [] Hq (qc c a b d) (sj a b d) (qc c a b) (dS 0 (Aa c a b) rE):=by
  unfold sj;exact br ic (qc c a b) [⟨[],[0],[1,5]⟩,⟨[],[0],[1,5]⟩]
def LO(a:Int) :aC:=⟨aj 31 [(2,.int .i64 a),(3,.int .i64 (0:Int))],[],0⟩
def Ht(b:List Int)(c:Nat)(a:Nat) :T ((Int)⊕(cW)) :=
  .need (dN .i64 (((64*a):Nat):Int))<|.need (fw ((a:Nat):Int) c)<|.need (fX a (List.length b))<|.need (dH (cP (List.getD b a 0)))<|.need (dN .i64 ((((64*a):Nat):Int)+(de (cP (List.getD b a 0)))))<|.leaf (.inl ((((64*a):Nat):Int)+(de (cP (List.getD b a 0)))))
def Hu(a:Int) :T ((Empty)⊕(cW)) :=
  .leaf (.inr (.r0 a 0))
def rF(d:List Int) :Option cW:=mC (aN ((Hn d).run) fun (b,c,a) =>
  aN ((Ho b a).run) fun e =>
  aN ((Hp b e).run) fun _ =>
  aN (gR (sj c a) 0) fun f =>
  aN ((Ht c a f).run) fun g =>
  (Hu g).run)
theorem LP(a:Lv)(d:List Int){x:cW}(h:rF d=some x) :af prog rt [] [.imm a (.ns .u64 d) 1 1 0 (List.length d)] (vR x) :=
  nB true vR rE h (Sg.cut 2 jL (br ic (LL a) [⟨[],[0],[1,4]⟩,⟨[],[0],[1,4]⟩]) (fun ⟨e,b,c⟩=>Sg.cut 1 jL (br ic (LM a e b c) [⟨[],[0],[1,4,14]⟩,⟨[],[0],[1,4,14]⟩]) (fun j=>Sg.cut 2 jL (br ic (LN a b c) [⟨[],[],[2,3]⟩,⟨[],[0],[1,5]⟩]) (fun _=>Sg.cut 1 jL (GM ⟨[],[0],[1,5]⟩ (qc a b c) (Aa a b c) 0 jL (LJ _) (fun f=>Hs a b c f)) (fun k=>Sg.cut 1 jL (br ic LO [⟨[],[],[2,3]⟩]) (fun l=>br ic mX [⟨[],[],[2,3]⟩]))))))
    (fun x=>by cases x with | r0 g i=>exact mc [.int .i64 g,.int .i64 ((i:Nat):Int)])
def qd:Option cW→Bool
  | some _=>true
  | none=>false
def qQ:Option cW→Int
  | some (.r0 x _)=>x
  | _=>0
def vS:Option cW→Nat
  | some (.r0 _ x)=>x
  | _=>0
theorem LQ{x:Option cW}(h:qd x=true) :x=some (.r0 (qQ x) (vS x)):=by
  unfold qd at h
  split at h<;>first | rfl | (cases h;done) | (rename_i y;cases y;rfl)
def CA:aA:=ca rt (.cons (.ns .u64) .nil) fun t=>(fun q=>[⟨vR (.r0 (qQ q) (vS q)),[qd q]⟩]) (rF t.1.2)
theorem FS:aL prog CA:=aP fun t=>(aQ (fun h=>LP t.1.1 t.1.2 (LQ h)) aZ)
def CB:List aA:=CA::Kb
theorem jp:aO prog (aK CB):=ap FS ic
inductive cX where
  | r0 (a:Bool) (b:List Int) (c:Nat) (d:Nat) (e:Int)
def CC:cX→AE×aC
  | .r0 a b c d e=>(.ret,⟨aj 37 [(2,.ptr 0 1 0 0)],[(0,.vs [.bool false a,.imm .free (.ns .u64 b) 1 1 c d,.int .i64 e])],1⟩)
theorem ue:jU CC:=by intro x;cases x<;>(intro h;cases h)
def vT:cX→fZ
  | .r0 a b c d e=>⟨.agg [.bool false a,.imm .free (.ns .u64 b) 1 1 c d,.int .i64 e],[]⟩
def LR(b:Bool)(c:Lv)(a:List Int)(d:Int) :(List Int)×Nat×Bool→aC:=fun (e,f,g)=>⟨aj 37 [(1,.ptr 0 1 0 0),(2,.ptr 1 1 0 0),(3,.imm .free (.ns .u64 e) 1 1 0 f)],[(0,.vs [.bool false b,.imm c (.ns .u64 a) 1 1 0 (List.length a),.int .i64 d]),(1,.vs [.bool false g,.nsl,.int .i64 (0:Int)])],2⟩
def LS(a:List Int) :T (((List Int)×Nat×Bool)⊕(cX)) :=
  .need (aG 0 (List.length a) a)<|.need (oW (lL (aa 0 (List.length a) a)))<|.leaf (.inl ((sg (lL (aa 0 (List.length a) a))),(se (lL (aa 0 (List.length a) a))),false))
def LU(b:Bool)(c:Lv)(a:List Int)(d:Int)(e:List Int)(f:Nat)(g:Bool)(h:Int) :aC:=⟨aj 37 [(1,.ptr 0 1 0 0),(2,.ptr 1 1 0 0),(3,.imm .free (.ns .u64 e) 1 1 0 f),(5,.int .i64 h)],[(0,.vs [.bool false b,.imm c (.ns .u64 a) 1 1 0 (List.length a),.int .i64 d]),(1,.vs [.bool false g,.nsl,.int .i64 (0:Int)])],2⟩
def LV(b:List Int)(a:Nat) :T ((Int)⊕(cX)) :=
  .ask (((a:Nat):Int)==(0:Int))
    (.leaf (.inr (.r0 false ([]:List Int) 0 0 (0:Int))))
    (.need (aG 0 a b)<|.need (qd (rF (aa 0 a b)))<|.leaf (.inl (qQ (rF (aa 0 a b)))))
def LW(b:Bool)(c:Lv)(a:List Int)(d:Int)(e:Bool)(f:Int) :(List Int)×Nat×Nat→aC:=fun (g,h,i)=>⟨aj 37 [(1,.ptr 0 1 0 0),(2,.ptr 1 1 0 0),(3,.imm .free (.ns .u64 g) 1 1 h i),(5,.int .i64 f)],[(0,.vs [.bool false b,.imm c (.ns .u64 a) 1 1 0 (List.length a),.int .i64 d]),(1,.vs [.bool false e,.nsl,.int .i64 (0:Int)])],2⟩
def LX(a:List Int)(b:Nat)(c:Int) :T (((List Int)×Nat×Nat)⊕(cX)) :=
  .need (aG 0 b a)<|.need (ua (qv (aa 0 b a) c))<|.leaf (.inl ((ub (qv (aa 0 b a) c)),(uc (qv (aa 0 b a) c)),(ud (qv (aa 0 b a) c))))
def LY(c:Bool)(a:Int)(b:Int)(d:List Int)(e:Nat)(f:Nat) :T ((Empty)⊕(cX)) :=
  .need (dN .i64 (a+b))<|.leaf (.inr (.r0 c d e f (a+b)))
def am(d:Bool)(e:List Int)(f:Int) :Option cX:=mC (aN ((LS e).run) fun (a,b,j) =>
  aN ((LV a b).run) fun c =>
  aN ((LX a b c).run) fun (g,h,i) =>
  (LY d f c g h i).run)
theorem LZ(b:Bool)(d:Lv)(a:List Int)(c:Int){x:cX}(h:am b a c=some x) :af prog vA [] [.agg [.bool false b,.imm d (.ns .u64 a) 1 1 0 (List.length a),.int .i64 c]] (vT x) :=
  nB true vT CC h (Sg.cut 2 ue (br jp (LR b d a c) [⟨[],[0,16],[1,2,3]⟩]) (fun ⟨f,g,e⟩=>Sg.cut 3 ue (br jp (LU b d a c f g e) [⟨[(.cell 1 1,.fre 1 1 (.ns .u64 ([]:List Int)))],[1],[2]⟩,⟨[],[0,1],[1,2,3,5]⟩]) (fun i=>Sg.cut 1 ue (br jp (LW b d a c e i) [⟨[],[0,1],[1,2,3,5]⟩]) (fun ⟨o,p,q⟩=>br jp mX [⟨[],[1],[2]⟩]))))
    (fun x=>by cases x with | r0 j k l m n=>exact mc [.agg [.bool false j,.imm .free (.ns .u64 k) 1 1 l m,.int .i64 n]])
def dh:Option cX→Bool
  | some _=>true
  | none=>false
def bM:Option cX→Bool
  | some (.r0 x _ _ _ _)=>x
  | _=>false
def bN:Option cX→List Int
  | some (.r0 _ x _ _ _)=>x
  | _=>[]
def bO:Option cX→Nat
  | some (.r0 _ _ x _ _)=>x
  | _=>0
def bP:Option cX→Nat
  | some (.r0 _ _ _ x _)=>x
  | _=>0
def bQ:Option cX→Int
  | some (.r0 _ _ _ _ x)=>x
  | _=>0
theorem L0{x:Option cX}(h:dh x=true) :x=some (.r0 (bM x) (bN x) (bO x) (bP x) (bQ x)):=by
  unfold dh at h
  split at h<;>first | rfl | (cases h;done) | (rename_i y;cases y;rfl)
def CD:aA:=ca vA (.cons (.agg (.cons .bool (.cons (.ns .u64) (.cons (.int .i64) .nil)))) .nil) fun t=>(fun q=>[⟨vT (.r0 (bM q) (bN q) (bO q) (bP q) (bQ q)),[dh q]⟩]) (am t.1.1 t.1.2.1.2 t.1.2.2.1)
theorem FU:aL prog CD:=aP fun t=>(aQ (fun h=>LZ t.1.1 t.1.2.1.1 t.1.2.1.2 t.1.2.2.1 (L0 h)) aZ)
def CE:List aA:=CD::CB
theorem mK:aO prog (aK CE):=ap FU jp
inductive gJ where
  | r0 (a:Bool)
def FV:gJ→AE×aC
  | .r0 a=>(.ret,⟨aj 18 [(2,.bool false a)],[],0⟩)
theorem CF:jU FV:=by intro x;cases x<;>(intro h;cases h)
def yy:gJ→fZ
  | .r0 a=>⟨.bool false a,[]⟩
def P6(b:Bool)(c:Lv)(a:List Int)(d:Int)(e:Nat) :aC:=⟨aj 18 [(1,.ptr 0 1 0 0),(4,.int .i64 ((e:Nat):Int))],[(0,.vs [.bool false b,.imm c (.ns .u64 a) 1 1 0 (List.length a),.int .i64 d])],1⟩
def P7(a:List Int) :T ((Nat)⊕(gJ)) :=
  .need (aG 0 (List.length a) a)<|.need (oW (lL (aa 0 (List.length a) a)))<|.leaf (.inl (sf (lL (aa 0 (List.length a) a))))
def P8(a:Bool) :aC:=⟨aj 18 [(2,.bool false a)],[],0⟩
def P9(a:Int)(b:Nat) :T ((Bool)⊕(gJ)) :=
  .ask (((b:Nat):Int)==(0:Int))
    (.ask (decide (a≥(-262144:Int)))
      (.leaf (.inl (decide (a≤(262144:Int)))))
      (.leaf (.inl false)))
    (.leaf (.inl false))
def Qa(a:Bool) :T ((Empty)⊕(gJ)) :=
  .leaf (.inr (.r0 a))
def cN(a:List Int)(b:Int) :Option gJ:=mC (aN ((P7 a).run) fun c =>
  aN ((P9 b c).run) fun d =>
  (Qa d).run)
theorem Qb(c:Bool)(d:Lv)(a:List Int)(b:Int){x:gJ}(h:cN a b=some x) :af prog yc [] [.agg [.bool false c,.imm d (.ns .u64 a) 1 1 0 (List.length a),.int .i64 b]] (yy x) :=
  nB true yy FV h (Sg.cut 2 CF (br mK (P6 c d a b) [⟨[],[0],[1,4]⟩]) (fun f=>Sg.cut 1 CF (br mK P8 [⟨[],[],[2]⟩,⟨[],[],[2]⟩,⟨[],[],[2]⟩]) (fun g=>br mK mX [⟨[],[],[2]⟩])))
    (fun x=>by cases x with | r0 e=>exact mc [.bool false e])
def fh:Option gJ→Bool
  | some _=>true
  | none=>false
def dV:Option gJ→Bool
  | some (.r0 x)=>x
  | _=>false
theorem Qc{x:Option gJ}(h:fh x=true) :x=some (.r0 (dV x)):=by
  unfold fh at h
  split at h<;>first | rfl | (cases h;done) | (rename_i y;cases y;rfl)
def FX:aA:=ca yc (.cons (.agg (.cons .bool (.cons (.ns .u64) (.cons (.int .i64) .nil)))) .nil) fun t=>(fun q=>[⟨yy (.r0 (dV q)),[fh q]⟩]) (cN t.1.2.1.2 t.1.2.2.1)
theorem Hv:aL prog FX:=aP fun t=>(aQ (fun h=>Qb t.1.1 t.1.2.1.1 t.1.2.1.2 t.1.2.2.1 (Qc h)) aZ)
def FY:List aA:=FX::CE
theorem oy:aO prog (aK FY):=ap Hv mK
inductive cB where
  | r0 (a:Nat) (b:Int) (c:List Int) (d:Nat) (e:List Int) (f:Nat)
def Ab:cB→AE×aC
  | .r0 a b c d e f=>(.ret,⟨aj 57 [(4,.ptr 0 1 0 0),(5,.int .i64 ((a:Nat):Int))],[(0,.vs [.int .i64 b,.imm .free (.ns .u64 c) 1 1 0 d,.imm .free (.ns .u64 e) 1 1 0 f])],1⟩)
theorem xl:jU Ab:=by intro x;cases x<;>(intro h;cases h)
def uf:cB→fZ
  | .r0 a b c d e f=>⟨.tup [.agg [.int .i64 b,.imm .free (.ns .u64 c) 1 1 0 d,.imm .free (.ns .u64 e) 1 1 0 f],.int .i64 ((a:Nat):Int)],[]⟩
def Hw(c:Bool)(d:Lv)(a:List Int)(e:Int)(f:Bool)(g:Lv)(b:List Int)(h:Int)(i:Int) :aC:=⟨aj 57 [(2,.ptr 0 1 0 0),(3,.ptr 1 1 0 0),(4,.ptr 2 1 0 0),(6,.ptr 3 1 0 0)],[(0,.vs [.bool false c,.imm d (.ns .u64 a) 1 1 0 (List.length a),.int .i64 e]),(1,.vs [.bool false f,.imm g (.ns .u64 b) 1 1 0 (List.length b),.int .i64 h]),(2,.vs [.int .i64 (0:Int),.nsl,.nsl]),(3,.vs [.int .i64 i,.nsl,.nsl])],4⟩
def Hx(c:List Int)(a:Int)(d:List Int)(b:Int) :T ((Int)⊕(cB)) :=
  .ask ((((List.length c):Nat):Int)==(0:Int))
    (.leaf (.inl b))
    (.ask ((((List.length d):Nat):Int)==(0:Int))
      (.leaf (.inl a))
      (.need (dN .i64 ((mg a b)-(vc a b)))<|.ask (decide (((mg a b)-(vc a b))>(262144:Int)))
        (.leaf (.inr (.r0 3 (0:Int) ([]:List Int) 0 ([]:List Int) 0)))
        (.leaf (.inl (vc a b)))))
def Hy(a:Int) :(List Int)×Nat×(List Int)×Nat→aC:=fun (b,c,d,e)=>⟨aj 57 [(4,.ptr 0 1 0 0),(6,.ptr 1 1 0 0)],[(0,.vs [.int .i64 (0:Int),.nsl,.nsl]),(1,.vs [.int .i64 a,.imm .free (.ns .u64 b) 1 1 0 c,.imm .free (.ns .u64 d) 1 1 0 e])],2⟩
def Hz(c:List Int)(e:Int)(a:List Int)(d:Int)(b:Int) :T (((List Int)×Nat×(List Int)×Nat)⊕(cB)) :=
  .ask ((((List.length c):Nat):Int)==(0:Int))
    (.ask ((((List.length a):Nat):Int)==(0:Int))
      (.leaf (.inl (([]:List Int),0,([]:List Int),0)))
      (.need (dN .i64 (d-b))<|.need (aG 0 (List.length a) a)<|.need (nP (fS (aa 0 (List.length a) a) (d-b)))<|.leaf (.inl (([]:List Int),0,(jJ (fS (aa 0 (List.length a) a) (d-b))),(jK (fS (aa 0 (List.length a) a) (d-b)))))))
    (.need (dN .i64 (e-b))<|.need (aG 0 (List.length c) c)<|.need (nP (fS (aa 0 (List.length c) c) (e-b)))<|.ask ((((List.length a):Nat):Int)==(0:Int))
      (.leaf (.inl ((jJ (fS (aa 0 (List.length c) c) (e-b))),(jK (fS (aa 0 (List.length c) c) (e-b))),([]:List Int),0)))
      (.need (dN .i64 (d-b))<|.need (aG 0 (List.length a) a)<|.need (nP (fS (aa 0 (List.length a) a) (d-b)))<|.leaf (.inl ((jJ (fS (aa 0 (List.length c) c) (e-b))),(jK (fS (aa 0 (List.length c) c) (e-b))),(jJ (fS (aa 0 (List.length a) a) (d-b))),(jK (fS (aa 0 (List.length a) a) (d-b)))))))
def HA(a:Int)(b:List Int)(c:Nat)(d:List Int)(e:Nat) :T ((Empty)⊕(cB)) :=
  .leaf (.inr (.r0 0 a b c d e))
def cg(a:List Int)(b:Int)(c:List Int)(d:Int) :Option cB:=mC (aN ((Hx a b c d).run) fun e =>
  aN ((Hz a b c d e).run) fun (f,g,h,i) =>
  (HA e f g h i).run)
theorem HB(e:Bool)(f:Lv)(a:List Int)(c:Int)(g:Bool)(i:Lv)(b:List Int)(d:Int){x:cB}(h:cg a c b d=some x) :af prog tn [] [.agg [.bool false e,.imm f (.ns .u64 a) 1 1 0 (List.length a),.int .i64 c],.agg [.bool false g,.imm i (.ns .u64 b) 1 1 0 (List.length b),.int .i64 d]] (uf x) :=
  nB true uf Ab h (Sg.cut 3 xl (br oy (Hw e f a c g i b d) [⟨[],[0,16,32,176],[2,3,4,6]⟩,⟨[],[0,16,32,176],[2,3,4,6]⟩,⟨[(.cell 32 1,.fre 1 1 (.ns .u64 ([]:List Int))),(.cell 32 2,.fre 1 1 (.ns .u64 ([]:List Int)))],[32],[4,5]⟩,⟨[],[0,16,32,176],[2,3,4,6]⟩]) (fun j=>Sg.cut 2 xl (br oy (Hy j) [⟨[(.cell 3 1,.fre 1 1 (.ns .u64 ([]:List Int))),(.cell 3 2,.fre 1 1 (.ns .u64 ([]:List Int)))],[2,3],[4,6]⟩,⟨[(.cell 3 1,.fre 1 1 (.ns .u64 ([]:List Int)))],[2,3],[4,6]⟩,⟨[(.cell 3 2,.fre 1 1 (.ns .u64 ([]:List Int)))],[2,3],[4,6]⟩,⟨[],[2,3],[4,6]⟩]) (fun ⟨q,r,s,t⟩=>br oy mX [⟨[],[0],[4,5]⟩])))
    (fun x=>by cases x with | r0 k l m n o p=>exact mc [.agg [.int .i64 l,.imm .free (.ns .u64 m) 1 1 0 n,.imm .free (.ns .u64 o) 1 1 0 p],.int .i64 ((k:Nat):Int)])
def kr:Option cB→Bool
  | some _=>true
  | none=>false
def lh:Option cB→Nat
  | some (.r0 x _ _ _ _ _)=>x
  | _=>0
def lm:Option cB→Int
  | some (.r0 _ x _ _ _ _)=>x
  | _=>0
def ln:Option cB→List Int
  | some (.r0 _ _ x _ _ _)=>x
  | _=>[]
def lp:Option cB→Nat
  | some (.r0 _ _ _ x _ _)=>x
  | _=>0
def lq:Option cB→List Int
  | some (.r0 _ _ _ _ x _)=>x
  | _=>[]
def lr:Option cB→Nat
  | some (.r0 _ _ _ _ _ x)=>x
  | _=>0
theorem HC{x:Option cB}(h:kr x=true) :x=some (.r0 (lh x) (lm x) (ln x) (lp x) (lq x) (lr x)):=by
  unfold kr at h
  split at h<;>first | rfl | (cases h;done) | (rename_i y;cases y;rfl)
def Ac:aA:=ca tn (.cons (.agg (.cons .bool (.cons (.ns .u64) (.cons (.int .i64) .nil)))) (.cons (.agg (.cons .bool (.cons (.ns .u64) (.cons (.int .i64) .nil)))) .nil)) fun t=>(fun q=>[⟨uf (.r0 (lh q) (lm q) (ln q) (lp q) (lq q) (lr q)),[kr q]⟩]) (cg t.1.2.1.2 t.1.2.2.1 t.2.1.2.1.2 t.2.1.2.2.1)
theorem Dd:aL prog Ac:=aP fun t=>(aQ (fun h=>HB t.1.1 t.1.2.1.1 t.1.2.1.2 t.1.2.2.1 t.2.1.1 t.2.1.2.1.1 t.2.1.2.1.2 t.2.1.2.2.1 (HC h)) aZ)
def Ad:List aA:=Ac::FY
theorem lu:aO prog (aK Ad):=ap Dd oy
inductive cY where
  | r0 (a:Nat) (b:Bool) (c:List Int) (d:Nat) (e:Nat) (f:Int)
def CG:cY→AE×aC
  | .r0 a b c d e f=>(.ret,⟨aj 11 [(2,.ptr 0 1 0 0),(3,.int .i64 ((a:Nat):Int))],[(0,.vs [.bool false b,.imm .free (.ns .u64 c) 1 1 d e,.int .i64 f])],1⟩)
theorem Ae:jU CG:=by intro x;cases x<;>(intro h;cases h)
def vU:cY→fZ
  | .r0 a b c d e f=>⟨.tup [.agg [.bool false b,.imm .free (.ns .u64 c) 1 1 d e,.int .i64 f],.int .i64 ((a:Nat):Int)],[]⟩
def L4:Bool×(List Int)×Nat×Nat×Int×Bool→aC:=fun (a,b,c,d,e,f)=>⟨aj 11 [(1,.ptr 0 1 0 0),(2,.ptr 1 1 0 0)],[(0,.vs [.bool false a,.imm .free (.ns .u64 b) 1 1 c d,.int .i64 e]),(1,.vs [.bool false f,.nsl,.int .i64 (0:Int)])],2⟩
def L5(b:Bool)(a:List Int)(c:Int) :T ((Bool×(List Int)×Nat×Nat×Int×Bool)⊕(cY)) :=
  .need (aG 0 (List.length a) a)<|.need (dh (am b (aa 0 (List.length a) a) c))<|.leaf (.inl ((bM (am b (aa 0 (List.length a) a) c)),(bN (am b (aa 0 (List.length a) a) c)),(bO (am b (aa 0 (List.length a) a) c)),(bP (am b (aa 0 (List.length a) a) c)),(bQ (am b (aa 0 (List.length a) a) c)),false))
def L6(a:Bool)(b:List Int)(c:Nat)(d:Nat)(e:Int)(f:Bool)(g:Bool) :aC:=⟨aj 11 [(1,.ptr 0 1 0 0),(2,.ptr 1 1 0 0),(8,.bool false g)],[(0,.vs [.bool false a,.imm .free (.ns .u64 b) 1 1 c d,.int .i64 e]),(1,.vs [.bool false f,.nsl,.int .i64 (0:Int)])],2⟩
def L7(a:List Int)(b:Nat)(c:Nat)(d:Int) :T ((Bool)⊕(cY)) :=
  .need (aG b c a)<|.need (fh (cN (aa b c a) d))<|.leaf (.inl (!(dV (cN (aa b c a) d))))
def L8(a:Bool)(b:List Int)(c:Nat)(d:Nat)(e:Int)(f:Bool) :T ((Empty)⊕(cY)) :=
  .ask f
    (.leaf (.inr (.r0 3 false ([]:List Int) 0 0 (0:Int))))
    (.leaf (.inr (.r0 0 a b c d e)))
def bC(e:Bool)(f:List Int)(g:Int) :Option cY:=mC (aN ((L5 e f g).run) fun (h,a,b,c,d,j) =>
  aN ((L7 a b c d).run) fun i =>
  (L8 h a b c d i).run)
theorem L9(b:Bool)(d:Lv)(a:List Int)(c:Int){x:cY}(h:bC b a c=some x) :af prog vB [] [.agg [.bool false b,.imm d (.ns .u64 a) 1 1 0 (List.length a),.int .i64 c]] (vU x) :=
  nB true vU CG h (Sg.cut 2 Ae (br lu L4 [⟨[],[0,16],[1,2]⟩]) (fun ⟨e,f,g,i,j,k⟩=>Sg.cut 1 Ae (br lu (L6 e f g i j k) [⟨[],[0,1],[1,2,8]⟩]) (fun r=>br lu mX [⟨[(.cell 1 1,.fre 1 1 (.ns .u64 ([]:List Int)))],[1],[2,3]⟩,⟨[],[1],[2,3]⟩])))
    (fun x=>by cases x with | r0 l m n o p q=>exact mc [.agg [.bool false m,.imm .free (.ns .u64 n) 1 1 o p,.int .i64 q],.int .i64 ((l:Nat):Int)])
def jM:Option cY→Bool
  | some _=>true
  | none=>false
def jq:Option cY→Nat
  | some (.r0 x _ _ _ _ _)=>x
  | _=>0
def jr:Option cY→Bool
  | some (.r0 _ x _ _ _ _)=>x
  | _=>false
def js:Option cY→List Int
  | some (.r0 _ _ x _ _ _)=>x
  | _=>[]
def jt:Option cY→Nat
  | some (.r0 _ _ _ x _ _)=>x
  | _=>0
def ju:Option cY→Nat
  | some (.r0 _ _ _ _ x _)=>x
  | _=>0
def jv:Option cY→Int
  | some (.r0 _ _ _ _ _ x)=>x
  | _=>0
theorem Ma{x:Option cY}(h:jM x=true) :x=some (.r0 (jq x) (jr x) (js x) (jt x) (ju x) (jv x)):=by
  unfold jM at h
  split at h<;>first | rfl | (cases h;done) | (rename_i y;cases y;rfl)
def CH:aA:=ca vB (.cons (.agg (.cons .bool (.cons (.ns .u64) (.cons (.int .i64) .nil)))) .nil) fun t=>(fun q=>[⟨vU (.r0 (jq q) (jr q) (js q) (jt q) (ju q) (jv q)),[jM q]⟩]) (bC t.1.1 t.1.2.1.2 t.1.2.2.1)
theorem FZ:aL prog CH:=aP fun t=>(aQ (fun h=>L9 t.1.1 t.1.2.1.1 t.1.2.1.2 t.1.2.2.1 (Ma h)) aZ)
def CI:List aA:=CH::Ad
theorem qR:aO prog (aK CI):=ap FZ lu
inductive cQ where
  | r0 (a:Nat) (b:Bool) (c:List Int) (d:Nat) (e:Nat) (f:Int)
def Af:cQ→AE×aC
  | .r0 a b c d e f=>(.ret,⟨aj 21 [(7,.ptr 0 1 0 0),(8,.int .i64 ((a:Nat):Int))],[(0,.vs [.bool false b,.imm .free (.ns .u64 c) 1 1 d e,.int .i64 f])],1⟩)
theorem HD:jU Af:=by intro x;cases x<;>(intro h;cases h)
def ug:cQ→fZ
  | .r0 a b c d e f=>⟨.tup [.agg [.bool false b,.imm .free (.ns .u64 c) 1 1 d e,.int .i64 f],.int .i64 ((a:Nat):Int)],[]⟩
def HE:Nat×Bool×(List Int)×Nat×Nat×Int→aC:=fun (a,b,c,d,e,f)=>⟨aj 21 [(7,.ptr 0 1 0 0),(8,.int .i64 ((a:Nat):Int))],[(0,.vs [.bool false b,.imm .free (.ns .u64 c) 1 1 d e,.int .i64 f])],1⟩
def HF(b:Bool)(a:List Int)(d:Int)(c:Int) :T ((Nat×Bool×(List Int)×Nat×Nat×Int)⊕(cQ)) :=
  .ask (d != (0:Int))
    (.leaf (.inr (.r0 3 false ([]:List Int) 0 0 (0:Int))))
    (.need (aG 0 (List.length a) a)<|.need (jM (bC b (aa 0 (List.length a) a) c))<|.leaf (.inl ((jq (bC b (aa 0 (List.length a) a) c)),(jr (bC b (aa 0 (List.length a) a) c)),(js (bC b (aa 0 (List.length a) a) c)),(jt (bC b (aa 0 (List.length a) a) c)),(ju (bC b (aa 0 (List.length a) a) c)),(jv (bC b (aa 0 (List.length a) a) c)))))
def HG(a:Nat)(b:Bool)(c:List Int)(d:Nat)(e:Nat)(f:Int) :T ((Empty)⊕(cQ)) :=
  .leaf (.inr (.r0 a b c d e f))
def bh(a:Bool)(b:List Int)(c:Int)(d:Int) :Option cQ:=mC (aN ((HF a b c d).run) fun (e,f,g,h,i,j) =>
  (HG e f g h i j).run)
theorem HH(b:Bool)(g:Lv)(a:List Int)(c:Int)(i:Lv)(d:Int)(j:Lv)(e:List Int)(k:Lv)(f:List Int){x:cQ}(h:bh b a c d=some x) :af prog jF [] [.bool false b,.imm g (.ns .u64 a) 1 1 0 (List.length a),.int .i64 c,.iptr i (.vs [.int .i64 d,.imm j (.ns .u64 e) 1 1 0 (List.length e),.imm k (.ns .u64 f) 1 1 0 (List.length f)]) 1 0 0] (ug x) :=
  nB false ug Af h (Sg.cut 4 HD (br qR HE [⟨[(.cell 0 1,.fre 1 1 (.ns .u64 ([]:List Int)))],[0],[7,8]⟩,⟨[],[0],[7,8]⟩]) (fun ⟨r,s,t,u,v,w⟩=>br qR mX [⟨[],[0],[7,8]⟩]))
    (fun x=>by cases x with | r0 l m n o p q=>exact mc [.agg [.bool false m,.imm .free (.ns .u64 n) 1 1 o p,.int .i64 q],.int .i64 ((l:Nat):Int)])
def ja:Option cQ→Bool
  | some _=>true
  | none=>false
def iF:Option cQ→Nat
  | some (.r0 x _ _ _ _ _)=>x
  | _=>0
def iG:Option cQ→Bool
  | some (.r0 _ x _ _ _ _)=>x
  | _=>false
def iH:Option cQ→List Int
  | some (.r0 _ _ x _ _ _)=>x
  | _=>[]
def iI:Option cQ→Nat
  | some (.r0 _ _ _ x _ _)=>x
  | _=>0
def iJ:Option cQ→Nat
  | some (.r0 _ _ _ _ x _)=>x
  | _=>0
def iK:Option cQ→Int
  | some (.r0 _ _ _ _ _ x)=>x
  | _=>0
theorem HI{x:Option cQ}(h:ja x=true) :x=some (.r0 (iF x) (iG x) (iH x) (iI x) (iJ x) (iK x)):=by
  unfold ja at h
  split at h<;>first | rfl | (cases h;done) | (rename_i y;cases y;rfl)
def Ag:aA:=ca jF (.cons .bool (.cons (.ns .u64) (.cons (.int .i64) (.cons (.ivs (.cons (.int .i64) (.cons (.ns .u64) (.cons (.ns .u64) .nil))) 1 0 0) .nil)))) fun t=>(fun q=>[⟨ug (.r0 (iF q) (iG q) (iH q) (iI q) (iJ q) (iK q)),[ja q]⟩]) (bh t.1 t.2.1.2 t.2.2.1 t.2.2.2.1.2.1)
theorem De:aL prog Ag:=aP fun t=>(aQ (fun h=>HH t.1 t.2.1.1 t.2.1.2 t.2.2.1 t.2.2.2.1.1 t.2.2.2.1.2.1 t.2.2.2.1.2.2.1.1 t.2.2.2.1.2.2.1.2 t.2.2.2.1.2.2.2.1.1 t.2.2.2.1.2.2.2.1.2 (HI h)) aZ)
def Ah:List aA:=Ag::CI
theorem dI:aO prog (aK Ah):=ap De qR
inductive co where
  | r0 (a:Nat) (b:Bool) (c:List Int) (d:Nat) (e:Nat) (f:Int)
def F0:co→AE×aC
  | .r0 a b c d e f=>(.ret,⟨aj 97 [(4,.ptr 0 1 0 0),(5,.int .i64 ((a:Nat):Int))],[(0,.vs [.bool false b,.imm .free (.ns .u64 c) 1 1 d e,.int .i64 f])],1⟩)
theorem jw:jU F0:=by intro x;cases x<;>(intro h;cases h)
def yz:co→fZ
  | .r0 a b c d e f=>⟨.tup [.agg [.bool false b,.imm .free (.ns .u64 c) 1 1 d e,.int .i64 f],.int .i64 ((a:Nat):Int)],[]⟩
def Qd(a:Lv)(b:Lv) :Nat×Bool×(List Int)×Nat×Nat×Int×Bool×(List Int)×Nat×Nat×Int×Bool→aC:=fun (c,d,e,f,g,h,i,j,k,l,m,n)=>⟨aj 97 [(2,.ptr 0 1 0 0),(3,.ptr 1 1 0 0),(4,.ptr 2 1 0 0),(6,.int .i64 ((c:Nat):Int))],[(0,.vs [.bool false d,.imm a (.ns .u64 e) 1 1 f g,.int .i64 h]),(1,.vs [.bool false i,.imm b (.ns .u64 j) 1 1 k l,.int .i64 m]),(2,.vs [.bool false n,.nsl,.int .i64 (0:Int)])],3⟩
def Qe(d : Bool)(a : List Int)(c : Int)(f : Bool)(b : List Int)(e : Int) : T ((Nat × Bool × (List Int) × Nat × Nat × Int × Bool × (List Int) × Nat × Nat × Int × Bool) ⊕ (co)) :=
  .ask (decide ((0:Int)<(2:Int)))
    (.need (fw (0:Int) 2)<|.need (aG 0 (List.length a) a)<|.need (fh (cN (aa 0 (List.length a) a) c))<|.ask (!(dV (cN (aa 0 (List.length a) a) c)))
      (.leaf (.inl (2,d,a,0,(List.length a),c,f,b,0,(List.length b),e,false)))
      (.need (aG 0 (List.length a) a)<|.need (dh (am d (aa 0 (List.length a) a) c))<|.need (dN .i64 (1:Int))<|.ask (decide ((1:Int)<(2:Int)))
        (.need (fw (1:Int) 2)<|.need (aG 0 (List.length b) b)<|.need (fh (cN (aa 0 (List.length b) b) e))<|.ask (!(dV (cN (aa 0 (List.length b) b) e)))
          (.leaf (.inl (2,(bM (am d (aa 0 (List.length a) a) c)),(bN (am d (aa 0 (List.length a) a) c)),(bO (am d (aa 0 (List.length a) a) c)),(bP (am d (aa 0 (List.length a) a) c)),(bQ (am d (aa 0 (List.length a) a) c)),f,b,0,(List.length b),e,false)))
          (.need (aG 0 (List.length b) b)<|.need (dh (am f (aa 0 (List.length b) b) e))<|.need (dN .i64 (2:Int))<|.ask (decide ((2:Int)<(2:Int)))
            (.fail)
            (.leaf (.inl (0,(bM (am d (aa 0 (List.length a) a) c)),(bN (am d (aa 0 (List.length a) a) c)),(bO (am d (aa 0 (List.length a) a) c)),(bP (am d (aa 0 (List.length a) a) c)),(bQ (am d (aa 0 (List.length a) a) c)),(bM (am f (aa 0 (List.length b) b) e)),(bN (am f (aa 0 (List.length b) b) e)),(bO (am f (aa 0 (List.length b) b) e)),(bP (am f (aa 0 (List.length b) b) e)),(bQ (am f (aa 0 (List.length b) b) e)),false)))))
        (.fail)))
    (.fail)
def Qf(a:Lv)(b:Lv)(c:Bool)(d:List Int)(e:Nat)(f:Nat)(g:Int)(h:Bool)(i:List Int)(j:Nat)(k:Nat)(l:Int)(m:Bool) :Nat×Int×(List Int)×Nat×(List Int)×Nat→aC:=fun (n,o,p,q,r,s)=>⟨aj 97 [(2,.ptr 0 1 0 0),(3,.ptr 1 1 0 0),(4,.ptr 2 1 0 0),(7,.ptr 3 1 0 0),(8,.int .i64 ((n:Nat):Int))],[(0,.vs [.bool false c,.imm a (.ns .u64 d) 1 1 e f,.int .i64 g]),(1,.vs [.bool false h,.imm b (.ns .u64 i) 1 1 j k,.int .i64 l]),(2,.vs [.bool false m,.nsl,.int .i64 (0:Int)]),(3,.vs [.int .i64 o,.imm .free (.ns .u64 p) 1 1 0 q,.imm .free (.ns .u64 r) 1 1 0 s])],4⟩
def Mb(i:Nat)(a:List Int)(b:Nat)(c:Nat)(g:Int)(d:List Int)(e:Nat)(f:Nat)(h:Int) :T ((Nat×Int×(List Int)×Nat×(List Int)×Nat)⊕(co)) :=
  .ask (((i:Nat):Int) != (0:Int))
    (.leaf (.inr (.r0 i false ([]:List Int) 0 0 (0:Int))))
    (.need (aG b c a)<|.need (aG e f d)<|.need (kr (cg (aa b c a) g (aa e f d) h))<|.leaf (.inl ((lh (cg (aa b c a) g (aa e f d) h)),(lm (cg (aa b c a) g (aa e f d) h)),(ln (cg (aa b c a) g (aa e f d) h)),(lp (cg (aa b c a) g (aa e f d) h)),(lq (cg (aa b c a) g (aa e f d) h)),(lr (cg (aa b c a) g (aa e f d) h)))))
def Qg(a:Lv)(b:Lv)(c:Bool)(d:List Int)(e:Nat)(f:Nat)(g:Int)(h:Bool)(i:List Int)(j:Nat)(k:Nat)(l:Int)(m:Bool)(n:Int)(o:List Int)(p:Nat)(q:List Int)(r:Nat)(_:Unit) :aC:=⟨aj 97 [(2,.ptr 0 1 0 0),(3,.ptr 1 1 0 0),(4,.ptr 2 1 0 0),(7,.ptr 3 1 0 0),(9,.fn (.func jF) [] [.ptr 3 1 0 0])],[(0,.vs [.bool false c,.imm a (.ns .u64 d) 1 1 e f,.int .i64 g]),(1,.vs [.bool false h,.imm b (.ns .u64 i) 1 1 j k,.int .i64 l]),(2,.vs [.bool false m,.nsl,.int .i64 (0:Int)]),(3,.vs [.int .i64 n,.imm .free (.ns .u64 o) 1 1 0 p,.imm .free (.ns .u64 q) 1 1 0 r])],4⟩
def Mc(e:Bool)(h:Bool)(g:Nat)(f:Int)(a:List Int)(b:Nat)(c:List Int)(d:Nat) :T ((Unit)⊕(co)) :=
  .ask (((g:Nat):Int) != (0:Int))
    (.leaf (.inr (.r0 g false ([]:List Int) 0 0 (0:Int))))
    (.ask (e==h)
      (.need (aG 0 b a)<|.need (aG 0 d c)<|.need (tB (bg (aa 0 b a) (aa 0 d c)))<|.need (aG (eX (bg (aa 0 b a) (aa 0 d c))) (eY (bg (aa 0 b a) (aa 0 d c))) (eZ (bg (aa 0 b a) (aa 0 d c))))<|.need (aG 0 b a)<|.need (aG 0 d c)<|.need (ja (bh e (aa (eX (bg (aa 0 b a) (aa 0 d c))) (eY (bg (aa 0 b a) (aa 0 d c))) (eZ (bg (aa 0 b a) (aa 0 d c)))) (((fD (bg (aa 0 b a) (aa 0 d c))):Nat):Int) f))<|.leaf (.inr (.r0 (iF (bh e (aa (eX (bg (aa 0 b a) (aa 0 d c))) (eY (bg (aa 0 b a) (aa 0 d c))) (eZ (bg (aa 0 b a) (aa 0 d c)))) (((fD (bg (aa 0 b a) (aa 0 d c))):Nat):Int) f)) (iG (bh e (aa (eX (bg (aa 0 b a) (aa 0 d c))) (eY (bg (aa 0 b a) (aa 0 d c))) (eZ (bg (aa 0 b a) (aa 0 d c)))) (((fD (bg (aa 0 b a) (aa 0 d c))):Nat):Int) f)) (iH (bh e (aa (eX (bg (aa 0 b a) (aa 0 d c))) (eY (bg (aa 0 b a) (aa 0 d c))) (eZ (bg (aa 0 b a) (aa 0 d c)))) (((fD (bg (aa 0 b a) (aa 0 d c))):Nat):Int) f)) (iI (bh e (aa (eX (bg (aa 0 b a) (aa 0 d c))) (eY (bg (aa 0 b a) (aa 0 d c))) (eZ (bg (aa 0 b a) (aa 0 d c)))) (((fD (bg (aa 0 b a) (aa 0 d c))):Nat):Int) f)) (iJ (bh e (aa (eX (bg (aa 0 b a) (aa 0 d c))) (eY (bg (aa 0 b a) (aa 0 d c))) (eZ (bg (aa 0 b a) (aa 0 d c)))) (((fD (bg (aa 0 b a) (aa 0 d c))):Nat):Int) f)) (iK (bh e (aa (eX (bg (aa 0 b a) (aa 0 d c))) (eY (bg (aa 0 b a) (aa 0 d c))) (eZ (bg (aa 0 b a) (aa 0 d c)))) (((fD (bg (aa 0 b a) (aa 0 d c))):Nat):Int) f)))))
      (.leaf (.inl ())))
def Qh(a:Lv)(b:Lv)(c:Bool)(d:List Int)(e:Nat)(f:Nat)(g:Int)(h:Bool)(i:List Int)(j:Nat)(k:Nat)(l:Int)(m:Bool)(n:Int)(o:List Int)(p:Nat)(q:List Int)(r:Nat)(s:Int) :aC:=⟨aj 97 [(2,.ptr 0 1 0 0),(3,.ptr 1 1 0 0),(4,.ptr 2 1 0 0),(7,.ptr 3 1 0 0),(9,.fn (.func jF) [] [.ptr 3 1 0 0]),(12,.int .i64 s)],[(0,.vs [.bool false c,.imm a (.ns .u64 d) 1 1 e f,.int .i64 g]),(1,.vs [.bool false h,.imm b (.ns .u64 i) 1 1 j k,.int .i64 l]),(2,.vs [.bool false m,.nsl,.int .i64 (0:Int)]),(3,.vs [.int .i64 n,.imm .free (.ns .u64 o) 1 1 0 p,.imm .free (.ns .u64 q) 1 1 0 r])],4⟩
def Md(a:List Int)(b:Nat)(c:List Int)(d:Nat) :T ((Int)⊕(co)) :=
  .need (aG 0 b a)<|.need (aG 0 d c)<|.need (qM (qs (aa 0 b a) (aa 0 d c)))<|.leaf (.inl (qa (qs (aa 0 b a) (aa 0 d c))))
def Qi(a:Lv)(b:Bool)(c:List Int)(d:Nat)(e:Nat)(f:Int)(g:Bool)(h:Int)(i:List Int)(j:Nat)(k:List Int)(l:Nat)(_:Unit) :aC:=⟨aj 97 [(2,.ptr 0 1 0 0),(4,.ptr 1 1 0 0),(7,.ptr 2 1 0 0),(9,.fn (.func jF) [] [.ptr 2 1 0 0])],[(0,.vs [.bool false b,.imm a (.ns .u64 c) 1 1 d e,.int .i64 f]),(1,.vs [.bool false g,.nsl,.int .i64 (0:Int)]),(2,.vs [.int .i64 h,.imm .free (.ns .u64 i) 1 1 0 j,.imm .free (.ns .u64 k) 1 1 0 l])],3⟩
def Me(e:Bool)(f:Int)(a:List Int)(b:Nat)(c:List Int)(d:Nat)(g:Int) :T ((Unit)⊕(co)) :=
  .ask (decide (g<(0:Int)))
    (.need (aG 0 d c)<|.need (aG 0 b a)<|.need (qO (ba (aa 0 d c) (aa 0 b a)))<|.need (aG (ef (ba (aa 0 d c) (aa 0 b a))) (eh (ba (aa 0 d c) (aa 0 b a))) (ee (ba (aa 0 d c) (aa 0 b a))))<|.need (aG 0 b a)<|.need (aG 0 d c)<|.need (ja (bh e (aa (ef (ba (aa 0 d c) (aa 0 b a))) (eh (ba (aa 0 d c) (aa 0 b a))) (ee (ba (aa 0 d c) (aa 0 b a)))) (((fa (ba (aa 0 d c) (aa 0 b a))):Nat):Int) f))<|.leaf (.inr (.r0 (iF (bh e (aa (ef (ba (aa 0 d c) (aa 0 b a))) (eh (ba (aa 0 d c) (aa 0 b a))) (ee (ba (aa 0 d c) (aa 0 b a)))) (((fa (ba (aa 0 d c) (aa 0 b a))):Nat):Int) f)) (iG (bh e (aa (ef (ba (aa 0 d c) (aa 0 b a))) (eh (ba (aa 0 d c) (aa 0 b a))) (ee (ba (aa 0 d c) (aa 0 b a)))) (((fa (ba (aa 0 d c) (aa 0 b a))):Nat):Int) f)) (iH (bh e (aa (ef (ba (aa 0 d c) (aa 0 b a))) (eh (ba (aa 0 d c) (aa 0 b a))) (ee (ba (aa 0 d c) (aa 0 b a)))) (((fa (ba (aa 0 d c) (aa 0 b a))):Nat):Int) f)) (iI (bh e (aa (ef (ba (aa 0 d c) (aa 0 b a))) (eh (ba (aa 0 d c) (aa 0 b a))) (ee (ba (aa 0 d c) (aa 0 b a)))) (((fa (ba (aa 0 d c) (aa 0 b a))):Nat):Int) f)) (iJ (bh e (aa (ef (ba (aa 0 d c) (aa 0 b a))) (eh (ba (aa 0 d c) (aa 0 b a))) (ee (ba (aa 0 d c) (aa 0 b a)))) (((fa (ba (aa 0 d c) (aa 0 b a))):Nat):Int) f)) (iK (bh e (aa (ef (ba (aa 0 d c) (aa 0 b a))) (eh (ba (aa 0 d c) (aa 0 b a))) (ee (ba (aa 0 d c) (aa 0 b a)))) (((fa (ba (aa 0 d c) (aa 0 b a))):Nat):Int) f)))))
    (.leaf (.inl ()))
def Qj(a:Lv)(b:Bool)(c:List Int)(d:Nat)(e:Nat)(f:Int)(g:Bool)(h:Int)(i:List Int)(j:Nat)(k:List Int)(l:Nat) :Nat×(List Int)×Nat×Nat→aC:=fun (m,n,o,p)=>⟨aj 97 [(2,.ptr 0 1 0 0),(4,.ptr 1 1 0 0),(8,.int .i64 ((m:Nat):Int)),(9,.fn (.func jF) [] [.ptr 2 1 0 0]),(16,.imm .free (.ns .u64 n) 1 1 o p)],[(0,.vs [.bool false b,.imm a (.ns .u64 c) 1 1 d e,.int .i64 f]),(1,.vs [.bool false g,.nsl,.int .i64 (0:Int)]),(2,.vs [.int .i64 h,.imm .free (.ns .u64 i) 1 1 0 j,.imm .free (.ns .u64 k) 1 1 0 l])],3⟩
def Mf(a:List Int)(b:Nat)(c:List Int)(d:Nat) :T ((Nat×(List Int)×Nat×Nat)⊕(co)) :=
  .need (aG 0 b a)<|.need (aG 0 d c)<|.need (qO (ba (aa 0 b a) (aa 0 d c)))<|.leaf (.inl ((fa (ba (aa 0 b a) (aa 0 d c))),(ee (ba (aa 0 b a) (aa 0 d c))),(ef (ba (aa 0 b a) (aa 0 d c))),(eh (ba (aa 0 b a) (aa 0 d c)))))
def Qk:Nat×Bool×(List Int)×Nat×Nat×Int→aC:=fun (a,b,c,d,e,f)=>⟨aj 97 [(4,.ptr 0 1 0 0),(5,.int .i64 ((a:Nat):Int))],[(0,.vs [.bool false b,.imm .free (.ns .u64 c) 1 1 d e,.int .i64 f])],1⟩
def Mg(d:Bool)(e:Int)(g:List Int)(h:Nat)(i:List Int)(j:Nat)(f:Nat)(a:List Int)(b:Nat)(c:Nat) :T ((Nat×Bool×(List Int)×Nat×Nat×Int)⊕(co)) :=
  .need (aG b c a)<|.need (aG 0 h g)<|.need (aG 0 j i)<|.need (ja (bh d (aa b c a) ((f:Nat):Int) e))<|.leaf (.inl ((iF (bh d (aa b c a) ((f:Nat):Int) e)),(iG (bh d (aa b c a) ((f:Nat):Int) e)),(iH (bh d (aa b c a) ((f:Nat):Int) e)),(iI (bh d (aa b c a) ((f:Nat):Int) e)),(iJ (bh d (aa b c a) ((f:Nat):Int) e)),(iK (bh d (aa b c a) ((f:Nat):Int) e))))
def Mh(a:Nat)(b:Bool)(c:List Int)(d:Nat)(e:Nat)(f:Int) :T ((Empty)⊕(co)) :=
  .leaf (.inr (.r0 a b c d e f))
def bR(h:Bool)(i:List Int)(j:Int)(k:Bool)(l:List Int)(m:Int) :Option co:=mC (aN ((Qe h i j k l m).run) fun (n,f,o,p,q,r,g,s,t,u,v,I) =>
  aN ((Mb n o p q r s t u v).run) fun (w,e,a,b,c,d) =>
  aN ((Mc f g w e a b c d).run) fun _ =>
  aN ((Md a b c d).run) fun x =>
  aN ((Me g e a b c d x).run) fun _ =>
  aN ((Mf a b c d).run) fun (y,z,A,B) =>
  aN ((Mg f e a b c d y z A B).run) fun (C,D,E,F,G,H) =>
  (Mh C D E F G H).run)
theorem Ql(v:Bool)(a:Lv)(o:List Int)(w:Int)(y:Bool)(b:Lv)(p:List Int)(z:Int){x:co}(h:bR v o w y p z=some x) :af prog yd [] [.agg [.bool false v,.imm a (.ns .u64 o) 1 1 0 (List.length o),.int .i64 w],.agg [.bool false y,.imm b (.ns .u64 p) 1 1 0 (List.length p),.int .i64 z]] (yz x) :=
  nB true yz F0 h (Sg.cut 2 jw (br dI (Qd a b) [⟨[],[0,16,32],[2,3,4,6]⟩,⟨[(.cell 0 1,.lev a)],[0,16,32],[2,3,4,6]⟩,⟨[(.cell 0 1,.lev a),(.cell 16 1,.lev b)],[0,16,32],[2,3,4,6]⟩]) (fun ⟨G,c,d,e,f,g,q,r,s,t,u,i⟩=>Sg.cut 3 jw (br dI (Qf a b c d e f g q r s t u i) [⟨[(.cell 2 1,.fre 1 1 (.ns .u64 ([]:List Int)))],[2],[4,5]⟩,⟨[],[0,1,2,131],[2,3,4,7,8]⟩]) (fun ⟨H,j,k,l,m,n⟩=>Sg.cut 5 jw (br dI (Qg a b c d e f g q r s t u i j k l m n) [⟨[(.cell 2 1,.fre 1 1 (.ns .u64 ([]:List Int)))],[2],[4,5]⟩,⟨[],[2],[4,5]⟩,⟨[],[0,1,2,3],[2,3,4,7,9]⟩]) (fun _=>Sg.cut 1 jw (br dI (Qh a b c d e f g q r s t u i j k l m n) [⟨[],[0,1,2,3],[2,3,4,7,9,12]⟩]) (fun I=>Sg.cut 2 jw (br dI (Qi a c d e f g i j k l m n) [⟨[],[2],[4,5]⟩,⟨[],[0,2,3],[2,4,7,9]⟩]) (fun _=>Sg.cut 1 jw (br dI (Qj a c d e f g i j k l m n) [⟨[],[0,1,2],[2,4,8,9,16]⟩]) (fun ⟨J,K,L,M⟩=>Sg.cut 1 jw (br dI Qk [⟨[],[1],[4,5]⟩]) (fun ⟨N,O,P,Q,R,S⟩=>br dI mX [⟨[],[0],[4,5]⟩]))))))))
    (fun x=>by cases x with | r0 A B C D E F=>exact mc [.agg [.bool false B,.imm .free (.ns .u64 C) 1 1 D E,.int .i64 F],.int .i64 ((A:Nat):Int)])
def oZ:Option co→Bool
  | some _=>true
  | none=>false
def jb:Option co→Nat
  | some (.r0 x _ _ _ _ _)=>x
  | _=>0
def ku:Option co→Bool
  | some (.r0 _ x _ _ _ _)=>x
  | _=>false
def kv:Option co→List Int
  | some (.r0 _ _ x _ _ _)=>x
  | _=>[]
def kw:Option co→Nat
  | some (.r0 _ _ _ x _ _)=>x
  | _=>0
def kx:Option co→Nat
  | some (.r0 _ _ _ _ x _)=>x
  | _=>0
def ky:Option co→Int
  | some (.r0 _ _ _ _ _ x)=>x
  | _=>0
theorem Qm{x:Option co}(h:oZ x=true) :x=some (.r0 (jb x) (ku x) (kv x) (kw x) (kx x) (ky x)):=by
  unfold oZ at h
  split at h<;>first | rfl | (cases h;done) | (rename_i y;cases y;rfl)
def F1:aA:=ca yd (.cons (.agg (.cons .bool (.cons (.ns .u64) (.cons (.int .i64) .nil)))) (.cons (.agg (.cons .bool (.cons (.ns .u64) (.cons (.int .i64) .nil)))) .nil)) fun t=>(fun q=>[⟨yz (.r0 (jb q) (ku q) (kv q) (kw q) (kx q) (ky q)),[oZ q]⟩]) (bR t.1.1 t.1.2.1.2 t.1.2.2.1 t.2.1.1 t.2.1.2.1.2 t.2.1.2.2.1)
theorem HJ:aL prog F1:=aP fun t=>(aQ (fun h=>Ql t.1.1 t.1.2.1.1 t.1.2.1.2 t.1.2.2.1 t.2.1.1 t.2.1.2.1.1 t.2.1.2.1.2 t.2.1.2.2.1 (Qm h)) aZ)
def F2:List aA:=F1::Ah
theorem sk:aO prog (aK F2):=ap HJ dI
inductive ei where
  | r0 (a:Nat) (b:Bool) (c:List Int) (d:Nat) (e:Nat) (f:Int)
def F3:ei→AE×aC
  | .r0 a b c d e f=>(.ret,⟨aj 15 [(4,.ptr 0 1 0 0),(5,.int .i64 ((a:Nat):Int))],[(0,.vs [.bool false b,.imm .free (.ns .u64 c) 1 1 d e,.int .i64 f])],1⟩)
theorem Qn:jU F3:=by intro x;cases x<;>(intro h;cases h)
def yA:ei→fZ
  | .r0 a b c d e f=>⟨.tup [.agg [.bool false b,.imm .free (.ns .u64 c) 1 1 d e,.int .i64 f],.int .i64 ((a:Nat):Int)],[]⟩
def Qo:Nat×Bool×(List Int)×Nat×Nat×Int→aC:=fun (a,b,c,d,e,f)=>⟨aj 15 [(4,.ptr 0 1 0 0),(5,.int .i64 ((a:Nat):Int))],[(0,.vs [.bool false b,.imm .free (.ns .u64 c) 1 1 d e,.int .i64 f])],1⟩
def Qp(c:Bool)(a:List Int)(d:Int)(e:Bool)(b:List Int)(f:Int) :T ((Nat×Bool×(List Int)×Nat×Nat×Int)⊕(ei)) :=
  .need (aG 0 (List.length a) a)<|.need (aG 0 (List.length b) b)<|.need (oZ (bR c (aa 0 (List.length a) a) d (!e) (aa 0 (List.length b) b) f))<|.leaf (.inl ((jb (bR c (aa 0 (List.length a) a) d (!e) (aa 0 (List.length b) b) f)),(ku (bR c (aa 0 (List.length a) a) d (!e) (aa 0 (List.length b) b) f)),(kv (bR c (aa 0 (List.length a) a) d (!e) (aa 0 (List.length b) b) f)),(kw (bR c (aa 0 (List.length a) a) d (!e) (aa 0 (List.length b) b) f)),(kx (bR c (aa 0 (List.length a) a) d (!e) (aa 0 (List.length b) b) f)),(ky (bR c (aa 0 (List.length a) a) d (!e) (aa 0 (List.length b) b) f))))
def Qq(a:Nat)(b:Bool)(c:List Int)(d:Nat)(e:Nat)(f:Int) :T ((Empty)⊕(ei)) :=
  .leaf (.inr (.r0 a b c d e f))
def dk(a:Bool)(b:List Int)(c:Int)(d:Bool)(e:List Int)(f:Int) :Option ei:=mC (aN ((Qp a b c d e f).run) fun (g,h,i,j,k,l) =>
  (Qq g h i j k l).run)
theorem Qr(c:Bool)(g:Lv)(a:List Int)(d:Int)(e:Bool)(i:Lv)(b:List Int)(f:Int){x:ei}(h:dk c a d e b f=some x) :af prog ya [] [.agg [.bool false c,.imm g (.ns .u64 a) 1 1 0 (List.length a),.int .i64 d],.agg [.bool false e,.imm i (.ns .u64 b) 1 1 0 (List.length b),.int .i64 f]] (yA x) :=
  nB true yA F3 h (Sg.cut 3 Qn (br sk Qo [⟨[],[32],[4,5]⟩]) (fun ⟨p,q,r,s,t,u⟩=>br sk mX [⟨[],[0],[4,5]⟩]))
    (fun x=>by cases x with | r0 j k l m n o=>exact mc [.agg [.bool false k,.imm .free (.ns .u64 l) 1 1 m n,.int .i64 o],.int .i64 ((j:Nat):Int)])
def pa:Option ei→Bool
  | some _=>true
  | none=>false
def oz:Option ei→Nat
  | some (.r0 x _ _ _ _ _)=>x
  | _=>0
def oA:Option ei→Bool
  | some (.r0 _ x _ _ _ _)=>x
  | _=>false
def oB:Option ei→List Int
  | some (.r0 _ _ x _ _ _)=>x
  | _=>[]
def oC:Option ei→Nat
  | some (.r0 _ _ _ x _ _)=>x
  | _=>0
def oD:Option ei→Nat
  | some (.r0 _ _ _ _ x _)=>x
  | _=>0
def oE:Option ei→Int
  | some (.r0 _ _ _ _ _ x)=>x
  | _=>0
theorem Qs{x:Option ei}(h:pa x=true) :x=some (.r0 (oz x) (oA x) (oB x) (oC x) (oD x) (oE x)):=by
  unfold pa at h
  split at h<;>first | rfl | (cases h;done) | (rename_i y;cases y;rfl)
def F4:aA:=ca ya (.cons (.agg (.cons .bool (.cons (.ns .u64) (.cons (.int .i64) .nil)))) (.cons (.agg (.cons .bool (.cons (.ns .u64) (.cons (.int .i64) .nil)))) .nil)) fun t=>(fun q=>[⟨yA (.r0 (oz q) (oA q) (oB q) (oC q) (oD q) (oE q)),[pa q]⟩]) (dk t.1.1 t.1.2.1.2 t.1.2.2.1 t.2.1.1 t.2.1.2.1.2 t.2.1.2.2.1)
theorem HK:aL prog F4:=aP fun t=>(aQ (fun h=>Qr t.1.1 t.1.2.1.1 t.1.2.1.2 t.1.2.2.1 t.2.1.1 t.2.1.2.1.1 t.2.1.2.1.2 t.2.1.2.2.1 (Qs h)) aZ)
def F5:List aA:=F4::F2
theorem kz:aO prog (aK F5):=ap HK sk
inductive dl where
  | r0 (a:Nat) (b:Bool) (c:List Int) (d:Nat) (e:Nat) (f:Int)
def F6:dl→AE×aC
  | .r0 a b c d e f=>(.ret,⟨aj 41 [(4,.ptr 0 1 0 0),(5,.int .i64 ((a:Nat):Int))],[(0,.vs [.bool false b,.imm .free (.ns .u64 c) 1 1 d e,.int .i64 f])],1⟩)
theorem vV:jU F6:=by intro x;cases x<;>(intro h;cases h)
def yB:dl→fZ
  | .r0 a b c d e f=>⟨.tup [.agg [.bool false b,.imm .free (.ns .u64 c) 1 1 d e,.int .i64 f],.int .i64 ((a:Nat):Int)],[]⟩
def Qt(a:Lv)(b:Lv) :Nat×Bool×(List Int)×Nat×Nat×Int×Bool×(List Int)×Nat×Nat×Int×Bool→aC:=fun (c,d,e,f,g,h,i,j,k,l,m,n)=>⟨aj 41 [(2,.ptr 0 1 0 0),(3,.ptr 1 1 0 0),(4,.ptr 2 1 0 0),(6,.int .i64 ((c:Nat):Int))],[(0,.vs [.bool false d,.imm a (.ns .u64 e) 1 1 f g,.int .i64 h]),(1,.vs [.bool false i,.imm b (.ns .u64 j) 1 1 k l,.int .i64 m]),(2,.vs [.bool false n,.nsl,.int .i64 (0:Int)])],3⟩
def Qu(d : Bool)(a : List Int)(c : Int)(f : Bool)(b : List Int)(e : Int) : T ((Nat × Bool × (List Int) × Nat × Nat × Int × Bool × (List Int) × Nat × Nat × Int × Bool) ⊕ (dl)) :=
  .ask (decide ((0:Int)<(2:Int)))
    (.need (fw (0:Int) 2)<|.need (aG 0 (List.length a) a)<|.need (fh (cN (aa 0 (List.length a) a) c))<|.ask (!(dV (cN (aa 0 (List.length a) a) c)))
      (.leaf (.inl (2,d,a,0,(List.length a),c,f,b,0,(List.length b),e,false)))
      (.need (aG 0 (List.length a) a)<|.need (dh (am d (aa 0 (List.length a) a) c))<|.need (dN .i64 (1:Int))<|.ask (decide ((1:Int)<(2:Int)))
        (.need (fw (1:Int) 2)<|.need (aG 0 (List.length b) b)<|.need (fh (cN (aa 0 (List.length b) b) e))<|.ask (!(dV (cN (aa 0 (List.length b) b) e)))
          (.leaf (.inl (2,(bM (am d (aa 0 (List.length a) a) c)),(bN (am d (aa 0 (List.length a) a) c)),(bO (am d (aa 0 (List.length a) a) c)),(bP (am d (aa 0 (List.length a) a) c)),(bQ (am d (aa 0 (List.length a) a) c)),f,b,0,(List.length b),e,false)))
          (.need (aG 0 (List.length b) b)<|.need (dh (am f (aa 0 (List.length b) b) e))<|.need (dN .i64 (2:Int))<|.ask (decide ((2:Int)<(2:Int)))
            (.fail)
            (.leaf (.inl (0,(bM (am d (aa 0 (List.length a) a) c)),(bN (am d (aa 0 (List.length a) a) c)),(bO (am d (aa 0 (List.length a) a) c)),(bP (am d (aa 0 (List.length a) a) c)),(bQ (am d (aa 0 (List.length a) a) c)),(bM (am f (aa 0 (List.length b) b) e)),(bN (am f (aa 0 (List.length b) b) e)),(bO (am f (aa 0 (List.length b) b) e)),(bP (am f (aa 0 (List.length b) b) e)),(bQ (am f (aa 0 (List.length b) b) e)),false)))))
        (.fail)))
    (.fail)
def Qv(a:Lv)(b:Lv)(c:Bool)(d:List Int)(e:Nat)(f:Nat)(g:Int)(h:Bool)(i:List Int)(j:Nat)(k:Nat)(l:Int)(m:Bool) :(List Int)×Nat×Nat×Nat→aC:=fun (n,o,p,q)=>⟨aj 41 [(2,.ptr 0 1 0 0),(3,.ptr 1 1 0 0),(4,.ptr 2 1 0 0),(7,.imm .free (.ns .u64 n) 1 1 o p),(8,.int .i64 ((q:Nat):Int))],[(0,.vs [.bool false c,.imm a (.ns .u64 d) 1 1 e f,.int .i64 g]),(1,.vs [.bool false h,.imm b (.ns .u64 i) 1 1 j k,.int .i64 l]),(2,.vs [.bool false m,.nsl,.int .i64 (0:Int)])],3⟩
def Qw(g:Nat)(a:List Int)(b:Nat)(c:Nat)(d:List Int)(e:Nat)(f:Nat) :T (((List Int)×Nat×Nat×Nat)⊕(dl)) :=
  .ask (((g:Nat):Int) != (0:Int))
    (.leaf (.inr (.r0 g false ([]:List Int) 0 0 (0:Int))))
    (.need (aG b c a)<|.need (aG e f d)<|.need (tM (nL (aa b c a) (aa e f d)))<|.leaf (.inl ((tQ (nL (aa b c a) (aa e f d))),(tN (nL (aa b c a) (aa e f d))),(tO (nL (aa b c a) (aa e f d))),(tP (nL (aa b c a) (aa e f d))))))
def Qx:Nat×Bool×(List Int)×Nat×Nat×Int→aC:=fun (a,b,c,d,e,f)=>⟨aj 41 [(4,.ptr 0 1 0 0),(5,.int .i64 ((a:Nat):Int))],[(0,.vs [.bool false b,.imm .free (.ns .u64 c) 1 1 d e,.int .i64 f])],1⟩
def Qy(f:Bool)(a:Int)(g:Bool)(b:Int)(c:List Int)(d:Nat)(e:Nat)(h:Nat) :T ((Nat×Bool×(List Int)×Nat×Nat×Int)⊕(dl)) :=
  .ask (((h:Nat):Int) != (0:Int))
    (.leaf (.inr (.r0 3 false ([]:List Int) 0 0 (0:Int))))
    (.need (dN .i64 (a+b))<|.need (aG d e c)<|.need (jM (bC (!(f==g)) (aa d e c) (a+b)))<|.leaf (.inl ((jq (bC (!(f==g)) (aa d e c) (a+b))),(jr (bC (!(f==g)) (aa d e c) (a+b))),(js (bC (!(f==g)) (aa d e c) (a+b))),(jt (bC (!(f==g)) (aa d e c) (a+b))),(ju (bC (!(f==g)) (aa d e c) (a+b))),(jv (bC (!(f==g)) (aa d e c) (a+b))))))
def Qz(a:Nat)(b:Bool)(c:List Int)(d:Nat)(e:Nat)(f:Int) :T ((Empty)⊕(dl)) :=
  .leaf (.inr (.r0 a b c d e f))
def ag(a:Bool)(b:List Int)(c:Int)(d:Bool)(e:List Int)(f:Int) :Option dl:=mC (aN ((Qu a b c d e f).run) fun (g,h,i,j,k,l,m,n,o,p,q,B) =>
  aN ((Qw g i j k n o p).run) fun (r,s,t,u) =>
  aN ((Qy h l m q r s t u).run) fun (v,w,x,y,z,A) =>
  (Qz v w x y z A).run)
theorem QA(e:Bool)(a:Lv)(c:List Int)(f:Int)(g:Bool)(b:Lv)(d:List Int)(i:Int){x:dl}(h:ag e c f g d i=some x) :af prog xX [] [.agg [.bool false e,.imm a (.ns .u64 c) 1 1 0 (List.length c),.int .i64 f],.agg [.bool false g,.imm b (.ns .u64 d) 1 1 0 (List.length d),.int .i64 i]] (yB x) :=
  nB true yB F6 h (Sg.cut 2 vV (br kz (Qt a b) [⟨[],[0,16,32],[2,3,4,6]⟩,⟨[(.cell 0 1,.lev a)],[0,16,32],[2,3,4,6]⟩,⟨[(.cell 0 1,.lev a),(.cell 16 1,.lev b)],[0,16,32],[2,3,4,6]⟩]) (fun ⟨B,j,k,l,m,n,o,p,q,r,s,t⟩=>Sg.cut 3 vV (br kz (Qv a b j k l m n o p q r s t) [⟨[(.cell 2 1,.fre 1 1 (.ns .u64 ([]:List Int)))],[2],[4,5]⟩,⟨[],[0,1,2],[2,3,4,7,8]⟩]) (fun ⟨C,D,E,F⟩=>Sg.cut 3 vV (br kz Qx [⟨[(.cell 2 1,.fre 1 1 (.ns .u64 ([]:List Int)))],[2],[4,5]⟩,⟨[],[2],[4,5]⟩]) (fun ⟨G,H,I,J,K,L⟩=>br kz mX [⟨[],[0],[4,5]⟩]))))
    (fun x=>by cases x with | r0 u v w y z A=>exact mc [.agg [.bool false v,.imm .free (.ns .u64 w) 1 1 y z,.int .i64 A],.int .i64 ((u:Nat):Int)])
def jx:Option dl→Bool
  | some _=>true
  | none=>false
def gK:Option dl→Nat
  | some (.r0 x _ _ _ _ _)=>x
  | _=>0
def bA:Option dl→Bool
  | some (.r0 _ x _ _ _ _)=>x
  | _=>false
def bk:Option dl→List Int
  | some (.r0 _ _ x _ _ _)=>x
  | _=>[]
def bm:Option dl→Nat
  | some (.r0 _ _ _ x _ _)=>x
  | _=>0
def bn:Option dl→Nat
  | some (.r0 _ _ _ _ x _)=>x
  | _=>0
def bB:Option dl→Int
  | some (.r0 _ _ _ _ _ x)=>x
  | _=>0
theorem QB{x:Option dl}(h:jx x=true) :x=some (.r0 (gK x) (bA x) (bk x) (bm x) (bn x) (bB x)):=by
  unfold jx at h
  split at h<;>first | rfl | (cases h;done) | (rename_i y;cases y;rfl)
def F7:aA:=ca xX (.cons (.agg (.cons .bool (.cons (.ns .u64) (.cons (.int .i64) .nil)))) (.cons (.agg (.cons .bool (.cons (.ns .u64) (.cons (.int .i64) .nil)))) .nil)) fun t=>(fun q=>[⟨yB (.r0 (gK q) (bA q) (bk q) (bm q) (bn q) (bB q)),[jx q]⟩]) (ag t.1.1 t.1.2.1.2 t.1.2.2.1 t.2.1.1 t.2.1.2.1.2 t.2.1.2.2.1)
theorem HL:aL prog F7:=aP fun t=>(aQ (fun h=>QA t.1.1 t.1.2.1.1 t.1.2.1.2 t.1.2.2.1 t.2.1.1 t.2.1.2.1.1 t.2.1.2.1.2 t.2.1.2.2.1 (QB h)) aZ)
def F8:List aA:=F7::F5
theorem xm:aO prog (aK F8):=ap HL kz
inductive gZ where
  | r0 (a:Int)
def QC:gZ→AE×aC
  | .r0 a=>(.ret,⟨aj 11 [(2,.int .i64 a)],[],0⟩)
def vW:gZ→fZ
  | .r0 a=>⟨.int .i64 a,[]⟩
def Mi(a:Bool)(b:List Int) :T ((Empty)⊕(gZ)) :=
  .ask ((((List.length b):Nat):Int)==(0:Int))
    (.leaf (.inr (.r0 (0:Int))))
    (.ask a
      (.leaf (.inr (.r0 (-1:Int))))
      (.leaf (.inr (.r0 (1:Int)))))
def eD(a:Bool)(b:List Int) :Option gZ:=mC ((Mi a b).run)
theorem Mj(b:Bool)(c:Lv)(a:List Int)(d:Int){x:gZ}(h:eD b a=some x) :af prog vC [] [.agg [.bool false b,.imm c (.ns .u64 a) 1 1 0 (List.length a),.int .i64 d]] (vW x) :=
  nB true vW QC h (br xm mX [⟨[],[],[2]⟩,⟨[],[],[2]⟩,⟨[],[],[2]⟩])
    (fun x=>by cases x with | r0 e=>exact mc [.int .i64 e])
def ig:Option gZ→Bool
  | some _=>true
  | none=>false
def fi:Option gZ→Int
  | some (.r0 x)=>x
  | _=>0
theorem Mk{x:Option gZ}(h:ig x=true) :x=some (.r0 (fi x)):=by
  unfold ig at h
  split at h<;>first | rfl | (cases h;done) | (rename_i y;cases y;rfl)
def CJ:aA:=ca vC (.cons (.agg (.cons .bool (.cons (.ns .u64) (.cons (.int .i64) .nil)))) .nil) fun t=>(fun q=>[⟨vW (.r0 (fi q)),[ig q]⟩]) (eD t.1.1 t.1.2.1.2)
theorem F9:aL prog CJ:=aP fun t=>(aQ (fun h=>Mj t.1.1 t.1.2.1.1 t.1.2.1.2 t.1.2.2.1 (Mk h)) aZ)
def CM:List aA:=CJ::F8
theorem gV:aO prog (aK CM):=ap F9 xm
inductive eT where
  | r0 (a:Int) (b:Nat)
def Ga:eT→AE×aC
  | .r0 a b=>(.ret,⟨aj 52 [(4,.int .i64 a),(5,.int .i64 ((b:Nat):Int))],[],0⟩)
theorem rG:jU Ga:=by intro x;cases x<;>(intro h;cases h)
def yC:eT→fZ
  | .r0 a b=>⟨.tup [.int .i64 a,.int .i64 ((b:Nat):Int)],[]⟩
def QD(a:Lv)(b:Lv) :Nat×Bool×(List Int)×Nat×Nat×Int×Bool×(List Int)×Nat×Nat×Int→aC:=fun (c,d,e,f,g,h,i,j,k,l,m)=>⟨aj 52 [(2,.ptr 0 1 0 0),(3,.ptr 1 1 0 0),(6,.int .i64 ((c:Nat):Int))],[(0,.vs [.bool false d,.imm a (.ns .u64 e) 1 1 f g,.int .i64 h]),(1,.vs [.bool false i,.imm b (.ns .u64 j) 1 1 k l,.int .i64 m])],2⟩
def QE(d : Bool)(a : List Int)(c : Int)(f : Bool)(b : List Int)(e : Int) : T ((Nat × Bool × (List Int) × Nat × Nat × Int × Bool × (List Int) × Nat × Nat × Int) ⊕ (eT)) :=
  .ask (decide ((0:Int)<(2:Int)))
    (.need (fw (0:Int) 2)<|.need (aG 0 (List.length a) a)<|.need (fh (cN (aa 0 (List.length a) a) c))<|.ask (!(dV (cN (aa 0 (List.length a) a) c)))
      (.leaf (.inl (2,d,a,0,(List.length a),c,f,b,0,(List.length b),e)))
      (.need (aG 0 (List.length a) a)<|.need (dh (am d (aa 0 (List.length a) a) c))<|.need (dN .i64 (1:Int))<|.ask (decide ((1:Int)<(2:Int)))
        (.need (fw (1:Int) 2)<|.need (aG 0 (List.length b) b)<|.need (fh (cN (aa 0 (List.length b) b) e))<|.ask (!(dV (cN (aa 0 (List.length b) b) e)))
          (.leaf (.inl (2,(bM (am d (aa 0 (List.length a) a) c)),(bN (am d (aa 0 (List.length a) a) c)),(bO (am d (aa 0 (List.length a) a) c)),(bP (am d (aa 0 (List.length a) a) c)),(bQ (am d (aa 0 (List.length a) a) c)),f,b,0,(List.length b),e)))
          (.need (aG 0 (List.length b) b)<|.need (dh (am f (aa 0 (List.length b) b) e))<|.need (dN .i64 (2:Int))<|.ask (decide ((2:Int)<(2:Int)))
            (.fail)
            (.leaf (.inl (0,(bM (am d (aa 0 (List.length a) a) c)),(bN (am d (aa 0 (List.length a) a) c)),(bO (am d (aa 0 (List.length a) a) c)),(bP (am d (aa 0 (List.length a) a) c)),(bQ (am d (aa 0 (List.length a) a) c)),(bM (am f (aa 0 (List.length b) b) e)),(bN (am f (aa 0 (List.length b) b) e)),(bO (am f (aa 0 (List.length b) b) e)),(bP (am f (aa 0 (List.length b) b) e)),(bQ (am f (aa 0 (List.length b) b) e)))))))
        (.fail)))
    (.fail)
def QF(a:Lv)(b:Lv)(c:Bool)(d:List Int)(e:Nat)(f:Nat)(g:Int)(h:Bool)(i:List Int)(j:Nat)(k:Nat)(l:Int) :Nat×Int×(List Int)×Nat×(List Int)×Nat→aC:=fun (m,n,o,p,q,r)=>⟨aj 52 [(2,.ptr 0 1 0 0),(3,.ptr 1 1 0 0),(7,.ptr 2 1 0 0),(8,.int .i64 ((m:Nat):Int))],[(0,.vs [.bool false c,.imm a (.ns .u64 d) 1 1 e f,.int .i64 g]),(1,.vs [.bool false h,.imm b (.ns .u64 i) 1 1 j k,.int .i64 l]),(2,.vs [.int .i64 n,.imm .free (.ns .u64 o) 1 1 0 p,.imm .free (.ns .u64 q) 1 1 0 r])],3⟩
def QG(i:Nat)(a:List Int)(b:Nat)(c:Nat)(g:Int)(d:List Int)(e:Nat)(f:Nat)(h:Int) :T ((Nat×Int×(List Int)×Nat×(List Int)×Nat)⊕(eT)) :=
  .ask (((i:Nat):Int) != (0:Int))
    (.leaf (.inr (.r0 (0:Int) i)))
    (.need (aG b c a)<|.need (aG e f d)<|.need (kr (cg (aa b c a) g (aa e f d) h))<|.leaf (.inl ((lh (cg (aa b c a) g (aa e f d) h)),(lm (cg (aa b c a) g (aa e f d) h)),(ln (cg (aa b c a) g (aa e f d) h)),(lp (cg (aa b c a) g (aa e f d) h)),(lq (cg (aa b c a) g (aa e f d) h)),(lr (cg (aa b c a) g (aa e f d) h)))))
def QH(a:Lv)(b:Lv)(c:Bool)(d:List Int)(e:Nat)(f:Nat)(g:Int)(h:Bool)(i:List Int)(j:Nat)(k:Nat)(l:Int)(m:Int) :aC:=⟨aj 52 [(2,.ptr 0 1 0 0),(3,.ptr 1 1 0 0),(9,.int .i64 m)],[(0,.vs [.bool false c,.imm a (.ns .u64 d) 1 1 e f,.int .i64 g]),(1,.vs [.bool false h,.imm b (.ns .u64 i) 1 1 j k,.int .i64 l])],2⟩
def QI(e:Nat)(a:List Int)(b:Nat)(c:List Int)(d:Nat) :T ((Int)⊕(eT)) :=
  .ask (((e:Nat):Int) != (0:Int))
    (.leaf (.inr (.r0 (0:Int) e)))
    (.need (aG 0 b a)<|.need (aG 0 d c)<|.need (qM (qs (aa 0 b a) (aa 0 d c)))<|.leaf (.inl (qa (qs (aa 0 b a) (aa 0 d c)))))
def QJ(a:Int)(_:Unit) :aC:=⟨aj 52 [(9,.int .i64 a)],[],0⟩
def QK(g:Bool)(a:List Int)(b:Nat)(c:Nat)(h:Bool)(d:List Int)(e:Nat)(f:Nat)(i:Int) :T ((Unit)⊕(eT)) :=
  .need (aG b c a)<|.need (ig (eD g (aa b c a)))<|.need (aG e f d)<|.need (ig (eD h (aa e f d)))<|.ask ((fi (eD g (aa b c a))) != (fi (eD h (aa e f d))))
    (.need (aG b c a)<|.need (ig (eD g (aa b c a)))<|.need (aG e f d)<|.need (ig (eD h (aa e f d)))<|.need (dN .i64 ((fi (eD g (aa b c a)))-(fi (eD h (aa e f d)))))<|.leaf (.inr (.r0 (mg (-1:Int) (vc (1:Int) ((fi (eD g (aa b c a)))-(fi (eD h (aa e f d)))))) 0)))
    (.ask g
      (.need (dN .i64 ((0:Int)-i))<|.leaf (.inr (.r0 ((0:Int)-i) 0)))
      (.leaf (.inl ())))
def Ml(a:Int) :T ((Empty)⊕(eT)) :=
  .leaf (.inr (.r0 a 0))
def qS(h:Bool)(i:List Int)(j:Int)(k:Bool)(l:List Int)(m:Int) :Option eT:=mC (aN ((QE h i j k l m).run) fun (n,o,a,b,c,p,q,d,e,f,r) =>
  aN ((QG n a b c p d e f r).run) fun (s,x,t,u,v,w) =>
  aN ((QI s t u v w).run) fun g =>
  aN ((QK o a b c q d e f g).run) fun _ =>
  (Ml g).run)
theorem QL(e:Bool)(a:Lv)(c:List Int)(f:Int)(g:Bool)(b:Lv)(d:List Int)(i:Int){x:eT}(h:qS e c f g d i=some x) :af prog xY [] [.agg [.bool false e,.imm a (.ns .u64 c) 1 1 0 (List.length c),.int .i64 f],.agg [.bool false g,.imm b (.ns .u64 d) 1 1 0 (List.length d),.int .i64 i]] (yC x) :=
  nB true yC Ga h (Sg.cut 2 rG (br gV (QD a b) [⟨[],[0,16],[2,3,6]⟩,⟨[(.cell 0 1,.lev a)],[0,16],[2,3,6]⟩,⟨[(.cell 0 1,.lev a),(.cell 16 1,.lev b)],[0,16],[2,3,6]⟩]) (fun ⟨w,j,k,l,m,n,o,p,q,r,s⟩=>Sg.cut 3 rG (br gV (QF a b j k l m n o p q r s) [⟨[],[],[4,5]⟩,⟨[],[0,1,130],[2,3,7,8]⟩]) (fun ⟨y,z,A,B,C,D⟩=>Sg.cut 3 rG (br gV (QH a b j k l m n o p q r s) [⟨[],[],[4,5]⟩,⟨[],[0,1],[2,3,9]⟩]) (fun t=>Sg.cut 1 rG (br gV (QJ t) [⟨[],[],[4,5]⟩,⟨[],[],[4,5]⟩,⟨[],[],[9]⟩]) (fun _=>br gV mX [⟨[],[],[4,5]⟩])))))
    (fun x=>by cases x with | r0 u v=>exact mc [.int .i64 u,.int .i64 ((v:Nat):Int)])
def rH:Option eT→Bool
  | some _=>true
  | none=>false
def sm:Option eT→Int
  | some (.r0 x _)=>x
  | _=>0
def sn:Option eT→Nat
  | some (.r0 _ x)=>x
  | _=>0
theorem QM{x:Option eT}(h:rH x=true) :x=some (.r0 (sm x) (sn x)):=by
  unfold rH at h
  split at h<;>first | rfl | (cases h;done) | (rename_i y;cases y;rfl)
def Gb:aA:=ca xY (.cons (.agg (.cons .bool (.cons (.ns .u64) (.cons (.int .i64) .nil)))) (.cons (.agg (.cons .bool (.cons (.ns .u64) (.cons (.int .i64) .nil)))) .nil)) fun t=>(fun q=>[⟨yC (.r0 (sm q) (sn q)),[rH q]⟩]) (qS t.1.1 t.1.2.1.2 t.1.2.2.1 t.2.1.1 t.2.1.2.1.2 t.2.1.2.2.1)
theorem HM:aL prog Gb:=aP fun t=>(aQ (fun h=>QL t.1.1 t.1.2.1.1 t.1.2.1.2 t.1.2.2.1 t.2.1.1 t.2.1.2.1.1 t.2.1.2.1.2 t.2.1.2.2.1 (QM h)) aZ)
def Gc:List aA:=Gb::CM
theorem kA:aO prog (aK Gc):=ap HM gV
inductive ch where
  | r0 (a:Nat) (b:Bool) (c:List Int) (d:Nat) (e:Nat) (f:Int)
def Ai:ch→AE×aC
  | .r0 a b c d e f=>(.ret,⟨aj 30 [(4,.ptr 0 1 0 0),(5,.int .i64 ((a:Nat):Int))],[(0,.vs [.bool false b,.imm .free (.ns .u64 c) 1 1 d e,.int .i64 f])],1⟩)
theorem so:jU Ai:=by intro x;cases x<;>(intro h;cases h)
def uh:ch→fZ
  | .r0 a b c d e f=>⟨.tup [.agg [.bool false b,.imm .free (.ns .u64 c) 1 1 d e,.int .i64 f],.int .i64 ((a:Nat):Int)],[]⟩
def HN(a:Lv)(b:Int) :Nat×Bool×(List Int)×Nat×Nat×Int×Bool→aC:=fun (c,d,e,f,g,h,i)=>⟨aj 30 [(1,.int .i64 b),(2,.ptr 0 1 0 0),(4,.ptr 1 1 0 0),(6,.int .i64 ((c:Nat):Int))],[(0,.vs [.bool false d,.imm a (.ns .u64 e) 1 1 f g,.int .i64 h]),(1,.vs [.bool false i,.nsl,.int .i64 (0:Int)])],2⟩
def HO(c:Bool)(a:List Int)(b:Int) :T ((Nat×Bool×(List Int)×Nat×Nat×Int×Bool)⊕(ch)) :=
  .ask (decide ((0:Int)<(1:Int)))
    (.need (fw (0:Int) 1)<|.need (aG 0 (List.length a) a)<|.need (fh (cN (aa 0 (List.length a) a) b))<|.ask (!(dV (cN (aa 0 (List.length a) a) b)))
      (.leaf (.inl (2,c,a,0,(List.length a),b,false)))
      (.need (aG 0 (List.length a) a)<|.need (dh (am c (aa 0 (List.length a) a) b))<|.need (dN .i64 (1:Int))<|.ask (decide ((1:Int)<(1:Int)))
        (.fail)
        (.leaf (.inl (0,(bM (am c (aa 0 (List.length a) a) b)),(bN (am c (aa 0 (List.length a) a) b)),(bO (am c (aa 0 (List.length a) a) b)),(bP (am c (aa 0 (List.length a) a) b)),(bQ (am c (aa 0 (List.length a) a) b)),false)))))
    (.fail)
def HP(a:Lv)(b:Int)(c:Nat)(d:Bool)(e:List Int)(f:Nat)(g:Nat)(h:Int)(i:Bool)(j:Bool) :aC:=⟨aj 30 [(1,.int .i64 b),(2,.ptr 0 1 0 0),(4,.ptr 1 1 0 0),(6,.int .i64 ((c:Nat):Int)),(16,.bool false j)],[(0,.vs [.bool false d,.imm a (.ns .u64 e) 1 1 f g,.int .i64 h]),(1,.vs [.bool false i,.nsl,.int .i64 (0:Int)])],2⟩
def HQ(a:Nat)(b:Nat) :T ((Bool)⊕(ch)) :=
  .ask (((a:Nat):Int) != (0:Int))
    (.leaf (.inl true))
    (.leaf (.inl (((b:Nat):Int)==(0:Int))))
def HS:Nat×Bool×(List Int)×Nat×Nat×Int→aC:=fun (a,b,c,d,e,f)=>⟨aj 30 [(4,.ptr 0 1 0 0),(5,.int .i64 ((a:Nat):Int))],[(0,.vs [.bool false b,.imm .free (.ns .u64 c) 1 1 d e,.int .i64 f])],1⟩
def HT(a:Int)(g:Nat)(f:Bool)(b:List Int)(c:Nat)(d:Nat)(e:Int)(h:Bool) :T ((Nat×Bool×(List Int)×Nat×Nat×Int)⊕(ch)) :=
  .ask h
    (.leaf (.inr (.r0 g false ([]:List Int) 0 0 (0:Int))))
    (.need (dN .i64 (e+(mg (-1048576:Int) (vc (1048576:Int) a))))<|.need (aG c d b)<|.need (jM (bC f (aa c d b) (e+(mg (-1048576:Int) (vc (1048576:Int) a)))))<|.leaf (.inl ((jq (bC f (aa c d b) (e+(mg (-1048576:Int) (vc (1048576:Int) a))))),(jr (bC f (aa c d b) (e+(mg (-1048576:Int) (vc (1048576:Int) a))))),(js (bC f (aa c d b) (e+(mg (-1048576:Int) (vc (1048576:Int) a))))),(jt (bC f (aa c d b) (e+(mg (-1048576:Int) (vc (1048576:Int) a))))),(ju (bC f (aa c d b) (e+(mg (-1048576:Int) (vc (1048576:Int) a))))),(jv (bC f (aa c d b) (e+(mg (-1048576:Int) (vc (1048576:Int) a))))))))
def HU(a:Nat)(b:Bool)(c:List Int)(d:Nat)(e:Nat)(f:Int) :T ((Empty)⊕(ch)) :=
  .leaf (.inr (.r0 a b c d e f))
def fF(c:Bool)(d:List Int)(e:Int)(f:Int) :Option ch:=mC (aN ((HO c d e).run) fun (a,g,h,i,b,j,r) =>
  aN ((HQ a b).run) fun k =>
  aN ((HT f a g h i b j k).run) fun (l,m,n,o,p,q) =>
  (HU l m n o p q).run)
theorem HV(d:Bool)(a:Lv)(c:List Int)(e:Int)(b:Int){x:ch}(h:fF d c e b=some x) :af prog tp [] [.agg [.bool false d,.imm a (.ns .u64 c) 1 1 0 (List.length c),.int .i64 e],.int .i64 b] (uh x) :=
  nB true uh Ai h (Sg.cut 2 so (br kA (HN a b) [⟨[],[0,16],[1,2,4,6]⟩,⟨[(.cell 0 1,.lev a)],[0,16],[1,2,4,6]⟩]) (fun ⟨f,g,i,j,k,l,m⟩=>Sg.cut 1 so (br kA (HP a b f g i j k l m) [⟨[],[0,1],[1,2,4,6,16]⟩,⟨[],[0,1],[1,2,4,6,16]⟩]) (fun t=>Sg.cut 3 so (br kA HS [⟨[(.cell 1 1,.fre 1 1 (.ns .u64 ([]:List Int)))],[1],[4,5]⟩,⟨[],[1],[4,5]⟩]) (fun ⟨u,v,w,y,z,A⟩=>br kA mX [⟨[],[0],[4,5]⟩]))))
    (fun x=>by cases x with | r0 n o p q r s=>exact mc [.agg [.bool false o,.imm .free (.ns .u64 p) 1 1 q r,.int .i64 s],.int .i64 ((n:Nat):Int)])
def oF:Option ch→Bool
  | some _=>true
  | none=>false
def po:Option ch→Nat
  | some (.r0 x _ _ _ _ _)=>x
  | _=>0
def pq:Option ch→Bool
  | some (.r0 _ x _ _ _ _)=>x
  | _=>false
def pr:Option ch→List Int
  | some (.r0 _ _ x _ _ _)=>x
  | _=>[]
def pt:Option ch→Nat
  | some (.r0 _ _ _ x _ _)=>x
  | _=>0
def pu:Option ch→Nat
  | some (.r0 _ _ _ _ x _)=>x
  | _=>0
def pv:Option ch→Int
  | some (.r0 _ _ _ _ _ x)=>x
  | _=>0
theorem HW{x:Option ch}(h:oF x=true) :x=some (.r0 (po x) (pq x) (pr x) (pt x) (pu x) (pv x)):=by
  unfold oF at h
  split at h<;>first | rfl | (cases h;done) | (rename_i y;cases y;rfl)
def Aj:aA:=ca tp (.cons (.agg (.cons .bool (.cons (.ns .u64) (.cons (.int .i64) .nil)))) (.cons (.int .i64) .nil)) fun t=>(fun q=>[⟨uh (.r0 (po q) (pq q) (pr q) (pt q) (pu q) (pv q)),[oF q]⟩]) (fF t.1.1 t.1.2.1.2 t.1.2.2.1 t.2.1)
theorem Df:aL prog Aj:=aP fun t=>(aQ (fun h=>HV t.1.1 t.1.2.1.1 t.1.2.1.2 t.1.2.2.1 t.2.1 (HW h)) aZ)
def Ak:List aA:=Aj::Gc
theorem lw:aO prog (aK Ak):=ap Df kA
inductive cR where
  | r0 (a:Bool) (b:List Int) (c:Nat) (d:Nat) (e:Int)
def Al:cR→AE×aC
  | .r0 a b c d e=>(.ret,⟨aj 16 [(2,.ptr 0 1 0 0)],[(0,.vs [.bool false a,.imm .free (.ns .u64 b) 1 1 c d,.int .i64 e])],1⟩)
theorem xn:jU Al:=by intro x;cases x<;>(intro h;cases h)
def ui:cR→fZ
  | .r0 a b c d e=>⟨.agg [.bool false a,.imm .free (.ns .u64 b) 1 1 c d,.int .i64 e],[]⟩
def HX(a:Int) :Int×Bool→aC:=fun (b,c)=>⟨aj 16 [(0,.int .i64 a),(2,.ptr 0 1 0 0),(3,.int .u64 b)],[(0,.vs [.bool false c,.nsl,.int .i64 (0:Int)])],1⟩
def HY(a:Int) :T ((Int×Bool)⊕(cR)) :=
  .ask (decide (a<(0:Int)))
    (.leaf (.inl ((IntKind.u64.wrap ((0:Int)-(IntKind.u64.wrap a))),false)))
    (.leaf (.inl ((IntKind.u64.wrap a),false)))
def HZ:Bool×(List Int)×Nat×Nat×Int→aC:=fun (a,b,c,d,e)=>⟨aj 16 [(2,.ptr 0 1 0 0)],[(0,.vs [.bool false a,.imm .free (.ns .u64 b) 1 1 c d,.int .i64 e])],1⟩
def H0(b:Int)(a:Int) :T ((Bool×(List Int)×Nat×Nat×Int)⊕(cR)) :=
  .need (sF (aY a))<|.need (aG (cJ (aY a)) (cK (aY a)) (cL (aY a)))<|.need (dh (am (decide (b<(0:Int))) (aa (cJ (aY a)) (cK (aY a)) (cL (aY a))) (0:Int)))<|.leaf (.inl ((bM (am (decide (b<(0:Int))) (aa (cJ (aY a)) (cK (aY a)) (cL (aY a))) (0:Int))),(bN (am (decide (b<(0:Int))) (aa (cJ (aY a)) (cK (aY a)) (cL (aY a))) (0:Int))),(bO (am (decide (b<(0:Int))) (aa (cJ (aY a)) (cK (aY a)) (cL (aY a))) (0:Int))),(bP (am (decide (b<(0:Int))) (aa (cJ (aY a)) (cK (aY a)) (cL (aY a))) (0:Int))),(bQ (am (decide (b<(0:Int))) (aa (cJ (aY a)) (cK (aY a)) (cL (aY a))) (0:Int)))))
def H3(a:Bool)(b:List Int)(c:Nat)(d:Nat)(e:Int) :T ((Empty)⊕(cR)) :=
  .leaf (.inr (.r0 a b c d e))
def bF(a:Int) :Option cR:=mC (aN ((HY a).run) fun (b,h) =>
  aN ((H0 a b).run) fun (c,d,e,f,g) =>
  (H3 c d e f g).run)
theorem H4(a:Int){x:cR}(h:bF a=some x) :af prog tl [] [.int .i64 a] (ui x) :=
  nB true ui Al h (Sg.cut 4 xn (br lw (HX a) [⟨[],[0],[0,2,3]⟩,⟨[],[0],[0,2,3]⟩]) (fun ⟨g,i⟩=>Sg.cut 1 xn (br lw HZ [⟨[],[0],[2]⟩]) (fun ⟨j,k,l,m,n⟩=>br lw mX [⟨[],[0],[2]⟩])))
    (fun x=>by cases x with | r0 b c d e f=>exact mc [.agg [.bool false b,.imm .free (.ns .u64 c) 1 1 d e,.int .i64 f]])
def jc:Option cR→Bool
  | some _=>true
  | none=>false
def iL:Option cR→Bool
  | some (.r0 x _ _ _ _)=>x
  | _=>false
def iM:Option cR→List Int
  | some (.r0 _ x _ _ _)=>x
  | _=>[]
def iN:Option cR→Nat
  | some (.r0 _ _ x _ _)=>x
  | _=>0
def iO:Option cR→Nat
  | some (.r0 _ _ _ x _)=>x
  | _=>0
def iP:Option cR→Int
  | some (.r0 _ _ _ _ x)=>x
  | _=>0
theorem H5{x:Option cR}(h:jc x=true) :x=some (.r0 (iL x) (iM x) (iN x) (iO x) (iP x)):=by
  unfold jc at h
  split at h<;>first | rfl | (cases h;done) | (rename_i y;cases y;rfl)
def Am:aA:=ca tl (.cons (.int .i64) .nil) fun t=>(fun q=>[⟨ui (.r0 (iL q) (iM q) (iN q) (iO q) (iP q)),[jc q]⟩]) (bF t.1)
theorem Dg:aL prog Am:=aP fun t=>(aQ (fun h=>H4 t.1 (H5 h)) aZ)
def An:List aA:=Am::Ak
theorem pw:aO prog (aK An):=ap Dg lw
inductive fG where
  | r0 (a:Nat)
def Ao:fG→AE×aC
  | .r0 a=>(.ret,⟨aj 26 [(2,.int .i64 ((a:Nat):Int))],[],0⟩)
theorem H6:jU Ao:=by intro x;cases x<;>(intro h;cases h)
def uj:fG→fZ
  | .r0 a=>⟨.int .i64 ((a:Nat):Int),[]⟩
def H7(_:Unit) :aC:=⟨aj 26 [],[],0⟩
def H8(a : Int) : T ((Unit) ⊕ (fG)) :=
  .need (decide ((0:Int)≤(52:Int)))<|.ask ((dM .and .u64 (Int.fdiv a (2^(min (Int.toNat (52:Int)) (IntKind.u64.bits)))) (2047:Int))==(2047:Int))
    (.ask ((dM .and .u64 a (4503599627370495:Int)) != (0:Int))
      (.leaf (.inr (.r0 5)))
      (.ask ((dM .and .u64 (Int.fdiv a (2^(min (Int.toNat (52:Int)) (IntKind.u64.bits)))) (2047:Int))==(2047:Int))
        (.leaf (.inr (.r0 4)))
        (.ask ((dM .and .u64 (Int.fdiv a (2^(min (Int.toNat (52:Int)) (IntKind.u64.bits)))) (2047:Int)) != (0:Int))
          (.leaf (.inr (.r0 3)))
          (.ask ((dM .and .u64 a (4503599627370495:Int)) != (0:Int))
            (.leaf (.inr (.r0 2)))
            (.leaf (.inl ()))))))
    (.ask ((dM .and .u64 (Int.fdiv a (2^(min (Int.toNat (52:Int)) (IntKind.u64.bits)))) (2047:Int))==(2047:Int))
      (.leaf (.inr (.r0 4)))
      (.ask ((dM .and .u64 (Int.fdiv a (2^(min (Int.toNat (52:Int)) (IntKind.u64.bits)))) (2047:Int)) != (0:Int))
        (.leaf (.inr (.r0 3)))
        (.ask ((dM .and .u64 a (4503599627370495:Int)) != (0:Int))
          (.leaf (.inr (.r0 2)))
          (.leaf (.inl ())))))
def H9:T ((Empty)⊕(fG)) :=
  .leaf (.inr (.r0 1))
def qe(a:Int) :Option fG:=mC (aN ((H8 a).run) fun _ =>
  (H9).run)
theorem Ia(a:Int){x:fG}(h:qe a=some x) :af prog zM [] [.int .u64 a] (uj x) :=
  nB false uj Ao h (Sg.cut 3 H6 (br pw H7 [⟨[],[],[2]⟩,⟨[],[],[2]⟩,⟨[],[],[2]⟩,⟨[],[],[2]⟩,⟨[],[],[]⟩,⟨[],[],[2]⟩,⟨[],[],[2]⟩,⟨[],[],[2]⟩,⟨[],[],[]⟩]) (fun _=>br pw mX [⟨[],[],[2]⟩]))
    (fun x=>by cases x with | r0 b=>exact mc [.int .i64 ((b:Nat):Int)])
def oG:Option fG→Bool
  | some _=>true
  | none=>false
def px:Option fG→Nat
  | some (.r0 x)=>x
  | _=>0
theorem Ib{x:Option fG}(h:oG x=true) :x=some (.r0 (px x)):=by
  unfold oG at h
  split at h<;>first | rfl | (cases h;done) | (rename_i y;cases y;rfl)
def Ap:aA:=ca zM (.cons (.int .u64) .nil) fun t=>(fun q=>[⟨uj (.r0 (px q)),[oG q]⟩]) (qe t.1)
theorem Dh:aL prog Ap:=aP fun t=>(aQ (fun h=>Ia t.1 (Ib h)) aZ)
def Aq:List aA:=Ap::An
theorem py:aO prog (aK Aq):=ap Dh pw
inductive dJ where
  | r0 (a:Nat) (b:Bool) (c:Int) (d:Int)
def Ar:dJ→AE×aC
  | .r0 a b c d=>(.ret,⟨aj 36 [(2,.ptr 0 1 0 0),(3,.int .i64 ((a:Nat):Int))],[(0,.vs [.bool false b,.int .u64 c,.int .i64 d])],1⟩)
theorem Ic:jU Ar:=by intro x;cases x<;>(intro h;cases h)
def uk:dJ→fZ
  | .r0 a b c d=>⟨.tup [.agg [.bool false b,.int .u64 c,.int .i64 d],.int .i64 ((a:Nat):Int)],[]⟩
def Ie(a:Int) :Nat×Bool×Bool×Int→aC:=fun (b,c,d,e)=>⟨aj 36 [(0,.int .u64 a),(2,.ptr 0 1 0 0),(4,.ptr 1 1 0 0),(12,.int .i64 ((b:Nat):Int))],[(0,.vs [.bool false c,.int .u64 (0:Int),.int .i64 (0:Int)]),(1,.vs [.bool false d,.int .u64 e,.int .i64 (-1074:Int)])],2⟩
def If(a:Int) :T ((Nat×Bool×Bool×Int)⊕(dJ)) :=
  .need (decide ((0:Int)≤(63:Int)))<|.need (oG (qe a))<|.leaf (.inl ((px (qe a)),false,((Int.fdiv a (2^(min (Int.toNat (63:Int)) (IntKind.u64.bits))))==(1:Int)),(dM .and .u64 a (4503599627370495:Int))))
def Ig(a:Int)(b:Nat)(c:Bool)(d:Int) :T ((Empty)⊕(dJ)) :=
  .ask (((b:Nat):Int)==(3:Int))
    (.need (decide ((0:Int)≤(52:Int)))<|.need (dN .i64 ((IntKind.i64.wrap (dM .and .u64 (Int.fdiv a (2^(min (Int.toNat (52:Int)) (IntKind.u64.bits)))) (2047:Int)))-(1:Int)))<|.need (dN .i64 ((-1074:Int)+((IntKind.i64.wrap (dM .and .u64 (Int.fdiv a (2^(min (Int.toNat (52:Int)) (IntKind.u64.bits)))) (2047:Int)))-(1:Int))))<|.leaf (.inr (.r0 0 c (dM .or .u64 d (4503599627370496:Int)) ((-1074:Int)+((IntKind.i64.wrap (dM .and .u64 (Int.fdiv a (2^(min (Int.toNat (52:Int)) (IntKind.u64.bits)))) (2047:Int)))-(1:Int))))))
    (.ask (((b:Nat):Int)==(2:Int))
      (.leaf (.inr (.r0 0 c d (-1074:Int))))
      (.ask (((b:Nat):Int)==(1:Int))
        (.leaf (.inr (.r0 0 c d (0:Int))))
        (.leaf (.inr (.r0 2 false (0:Int) (0:Int))))))
def dK(a:Int) :Option dJ:=mC (aN ((If a).run) fun (b,e,c,d) =>
  (Ig a b c d).run)
theorem Ih(a:Int){x:dJ}(h:dK a=some x) :af prog zH [] [.int .u64 a] (uk x) :=
  nB false uk Ar h (Sg.cut 3 Ic (br py (Ie a) [⟨[],[0,128],[0,2,4,12]⟩]) (fun ⟨f,g,i,j⟩=>br py mX [⟨[],[0],[2,3]⟩,⟨[],[0],[2,3]⟩,⟨[],[0],[2,3]⟩,⟨[],[0],[2,3]⟩]))
    (fun x=>by cases x with | r0 b c d e=>exact mc [.agg [.bool false c,.int .u64 d,.int .i64 e],.int .i64 ((b:Nat):Int)])
def kB:Option dJ→Bool
  | some _=>true
  | none=>false
def lx:Option dJ→Nat
  | some (.r0 x _ _ _)=>x
  | _=>0
def ly:Option dJ→Bool
  | some (.r0 _ x _ _)=>x
  | _=>false
def lz:Option dJ→Int
  | some (.r0 _ _ x _)=>x
  | _=>0
def lA:Option dJ→Int
  | some (.r0 _ _ _ x)=>x
  | _=>0
theorem Ii{x:Option dJ}(h:kB x=true) :x=some (.r0 (lx x) (ly x) (lz x) (lA x)):=by
  unfold kB at h
  split at h<;>first | rfl | (cases h;done) | (rename_i y;cases y;rfl)
def As:aA:=ca zH (.cons (.int .u64) .nil) fun t=>(fun q=>[⟨uk (.r0 (lx q) (ly q) (lz q) (lA q)),[kB q]⟩]) (dK t.1)
theorem Di:aL prog As:=aP fun t=>(aQ (fun h=>Ih t.1 (Ii h)) aZ)
def Au:List aA:=As::Aq
theorem lB:aO prog (aK Au):=ap Di py
inductive eU where
  | r0 (a:Nat) (b:Bool) (c:List Int) (d:Nat) (e:Nat) (f:Int)
def Kc:eU→AE×aC
  | .r0 a b c d e f=>(.ret,⟨aj 25 [(2,.ptr 0 1 0 0),(3,.int .i64 ((a:Nat):Int))],[(0,.vs [.bool false b,.imm .free (.ns .u64 c) 1 1 d e,.int .i64 f])],1⟩)
theorem Gd:jU Kc:=by intro x;cases x<;>(intro h;cases h)
def BT:eU→fZ
  | .r0 a b c d e f=>⟨.tup [.agg [.bool false b,.imm .free (.ns .u64 c) 1 1 d e,.int .i64 f],.int .i64 ((a:Nat):Int)],[]⟩
def Tn:Nat×Bool×Bool×Int×Int→aC:=fun (a,b,c,d,e)=>⟨aj 25 [(2,.ptr 0 1 0 0),(4,.ptr 1 1 0 0),(5,.int .i64 ((a:Nat):Int))],[(0,.vs [.bool false b,.nsl,.int .i64 (0:Int)]),(1,.vs [.bool false c,.int .u64 d,.int .i64 e])],2⟩
def To(a:Nat) :T ((Nat×Bool×Bool×Int×Int)⊕(eU)) :=
  .ask (Yt a a)
    (.need (kB (dK (9221120237041090560:Int)))<|.leaf (.inl ((lx (dK (9221120237041090560:Int))),false,(ly (dK (9221120237041090560:Int))),(lz (dK (9221120237041090560:Int))),(lA (dK (9221120237041090560:Int))))))
    (.alt 0
      (.need (!isNaN a)<|.need (kB (dK ((a:Nat):Int)))<|.leaf (.inl ((lx (dK ((a:Nat):Int))),false,(ly (dK ((a:Nat):Int))),(lz (dK ((a:Nat):Int))),(lA (dK ((a:Nat):Int))))))
      (.fail))
def Tp:Bool×(List Int)×Nat×Nat×Int→aC:=fun (a,b,c,d,e)=>⟨aj 25 [(2,.ptr 0 1 0 0),(3,.int .i64 (0:Int))],[(0,.vs [.bool false a,.imm .free (.ns .u64 b) 1 1 c d,.int .i64 e])],1⟩
def Tq(d:Nat)(b:Bool)(a:Int)(c:Int) :T ((Bool×(List Int)×Nat×Nat×Int)⊕(eU)) :=
  .ask (((d:Nat):Int) != (0:Int))
    (.leaf (.inr (.r0 d false ([]:List Int) 0 0 (0:Int))))
    (.need (sF (aY a))<|.need (aG (cJ (aY a)) (cK (aY a)) (cL (aY a)))<|.need (dh (am b (aa (cJ (aY a)) (cK (aY a)) (cL (aY a))) c))<|.leaf (.inl ((bM (am b (aa (cJ (aY a)) (cK (aY a)) (cL (aY a))) c)),(bN (am b (aa (cJ (aY a)) (cK (aY a)) (cL (aY a))) c)),(bO (am b (aa (cJ (aY a)) (cK (aY a)) (cL (aY a))) c)),(bP (am b (aa (cJ (aY a)) (cK (aY a)) (cL (aY a))) c)),(bQ (am b (aa (cJ (aY a)) (cK (aY a)) (cL (aY a))) c)))))
def Tr(a:Bool)(b:List Int)(c:Nat)(d:Nat)(e:Int) :T ((Empty)⊕(eU)) :=
  .leaf (.inr (.r0 0 a b c d e))
def gW(a:Nat) :Option eU:=mC (aN ((To a).run) fun (b,k,c,d,e) =>
  aN ((Tq b c d e).run) fun (f,g,h,i,j) =>
  (Tr f g h i j).run)
theorem Ts(a:Nat){x:eU}(h:gW a=some x) :af prog Bu [] [.flt false a] (BT x) :=
  nB true BT Kc h (Sg.cut 2 Gd (br lB Tn [⟨[],[0,128],[2,4,5]⟩,⟨[],[0,128],[2,4,5]⟩]) (fun ⟨i,j,k,l,m⟩=>Sg.cut 3 Gd (br lB Tp [⟨[(.cell 0 1,.fre 1 1 (.ns .u64 ([]:List Int)))],[0],[2,3]⟩,⟨[],[0],[2,3]⟩]) (fun ⟨n,o,p,q,r⟩=>br lB mX [⟨[],[0],[2,3]⟩])))
    (fun x=>by cases x with | r0 b c d e f g=>exact mc [.agg [.bool false c,.imm .free (.ns .u64 d) 1 1 e f,.int .i64 g],.int .i64 ((b:Nat):Int)])
def ul:Option eU→Bool
  | some _=>true
  | none=>false
def Av:Option eU→Nat
  | some (.r0 x _ _ _ _ _)=>x
  | _=>0
def um:Option eU→Bool
  | some (.r0 _ x _ _ _ _)=>x
  | _=>false
def qf:Option eU→List Int
  | some (.r0 _ _ x _ _ _)=>x
  | _=>[]
def qg:Option eU→Nat
  | some (.r0 _ _ _ x _ _)=>x
  | _=>0
def qh:Option eU→Nat
  | some (.r0 _ _ _ _ x _)=>x
  | _=>0
def un:Option eU→Int
  | some (.r0 _ _ _ _ _ x)=>x
  | _=>0
theorem Tt{x:Option eU}(h:ul x=true) :x=some (.r0 (Av x) (um x) (qf x) (qg x) (qh x) (un x)):=by
  unfold ul at h
  split at h<;>first | rfl | (cases h;done) | (rename_i y;cases y;rfl)
def Kd:aA:=ca Bu (.cons (.flt false) .nil) fun t=>(fun q=>[⟨BT (.r0 (Av q) (um q) (qf q) (qg q) (qh q) (un q)),[ul q]⟩]) (gW t.1)
theorem Mm:aL prog Kd:=aP fun t=>(aQ (fun h=>Ts t.1 (Tt h)) aZ)
def Ke:List aA:=Kd::Au
theorem uo:aO prog (aK Ke):=ap Mm lB
inductive fH where
  | r0 (a:Bool)
def Aw:fH→AE×aC
  | .r0 a=>(.ret,⟨aj 32 [(2,.bool false a)],[],0⟩)
theorem Ij:jU Aw:=by intro x;cases x<;>(intro h;cases h)
def uq:fH→fZ
  | .r0 a=>⟨.bool false a,[]⟩
def Ik(a:Bool) :aC:=⟨aj 32 [(2,.bool false a)],[],0⟩
def Il(a:Int)(b:Int)(c:List Nat) :T ((Bool)⊕(fH)) :=
  .ask (decide (a<(0:Int)))
    (.leaf (.inl true))
    (.ask (decide (a>(512:Int)))
      (.leaf (.inl true))
      (.ask (decide (b<(0:Int)))
        (.leaf (.inl true))
        (.ask (decide (b>(512:Int)))
          (.leaf (.inl true))
          (.need (dN .i64 (a*b))<|.leaf (.inl ((((List.length c):Nat):Int) != (a*b)))))))
def Im(a:Bool) :T ((Empty)⊕(fH)) :=
  .leaf (.inr (.r0 a))
def bG(a:Int)(b:Int)(c:List Nat) :Option fH:=mC (aN ((Il a b c).run) fun d =>
  (Im d).run)
theorem In(b:Int)(c:Int)(d:Lv)(a:List Nat){x:fH}(h:bG b c a=some x) :af prog zL [] [.agg [.int .i64 b,.int .i64 c,.imm d (.fl a) 1 1 0 (List.length a)]] (uq x) :=
  nB false uq Aw h (Sg.cut 2 Ij (br uo Ik [⟨[],[],[2]⟩,⟨[],[],[2]⟩,⟨[],[],[2]⟩,⟨[],[],[2]⟩,⟨[],[],[2]⟩]) (fun f=>br uo mX [⟨[],[],[2]⟩]))
    (fun x=>by cases x with | r0 e=>exact mc [.bool false e])
def db:Option fH→Bool
  | some _=>true
  | none=>false
def cE:Option fH→Bool
  | some (.r0 x)=>x
  | _=>false
theorem Io{x:Option fH}(h:db x=true) :x=some (.r0 (cE x)):=by
  unfold db at h
  split at h<;>first | rfl | (cases h;done) | (rename_i y;cases y;rfl)
def Ax:aA:=ca zL (.cons (.agg (.cons (.int .i64) (.cons (.int .i64) (.cons .fl .nil)))) .nil) fun t=>(fun q=>[⟨uq (.r0 (cE q)),[db q]⟩]) (bG t.1.1 t.1.2.1 t.1.2.2.1.2)
theorem Dj:aL prog Ax:=aP fun t=>(aQ (fun h=>In t.1.1 t.1.2.1 t.1.2.2.1.1 t.1.2.2.1.2 (Io h)) aZ)
def Ay:List aA:=Ax::Ke
theorem lC:aO prog (aK Ay):=ap Dj uo
inductive aD where
  | r0 (a:Int)
def cu:aD→AE×aC
  | .r0 a=>(.ret,⟨aj 19 [(4,.int .i64 a)],[],0⟩)
theorem dm:jU cu:=by intro x;cases x<;>(intro h;cases h)
theorem jV(id:Nat) :oV id cu:=by intro x;cases x<;>(intro h;cases h)
def dA:aD→fZ
  | .r0 a=>⟨.int .i64 a,[]⟩
def jW:List Code:=dd (ph lJ)
def jX(b:Lv)(a:List Nat)(_:Unit) :aC:=⟨aj 19 [(0,.imm b (.fl a) 1 1 0 (List.length a)),(1,.fn (.func lg) [] []),(7,.int .i64 (((List.length a):Nat):Int)),(8,.int .i64 (0:Int))],[],0⟩
def jY:T ((Unit)⊕(aD)) :=
  .leaf (.inl ())
def cj(b:Lv)(a:List Nat)(c:Nat) :aC:=⟨aj 19 [(0,.imm b (.fl a) 1 1 0 (List.length a)),(1,.fn (.func lg) [] []),(7,.int .i64 (((List.length a):Nat):Int)),(8,.int .i64 ((c:Nat):Int))],[],0⟩
def fv(_:Unit) :aC:=⟨aj 19 [],[],0⟩
def jZ:List Code:=dd (fB ((((jW.drop 2).take 1)).headD .skip))
def ka(b:List Nat)(a:Nat) :T ((Nat)⊕((Unit)⊕(aD))) :=
  .ask (decide (((a:Nat):Int)<(((List.length b):Nat):Int)))
    (.need (fw ((a:Nat):Int) (List.length b))<|.need (fX a (List.length b))<|.ask (Yt (List.getD b a 0) (List.getD b a 0))
      (.leaf (.inr (.inr (.r0 ((a:Nat):Int)))))
      (.ask ((0:Int)==(0:Int))
        (.ask (YD (sa (List.getD b a 0)) 9218868437227405311)
          (.leaf (.inr (.inr (.r0 ((a:Nat):Int)))))
          (.need (dN .i64 (((a+1):Nat):Int))<|.leaf (.inl (a+1))))
        (.fail)))
    (.leaf (.inr (.inl ())))
def di(a:List Nat) :Nat→Option ((Nat)⊕((Unit)⊕(aD))):=fun b =>
  (ka a b).run
theorem jN(b:Lv)(a:List Nat)(c:Nat) :Sg prog [] jZ (cj b a c) (di a c) (cj b a) (dS 0 fv cu):=by
  unfold di;exact br lC (cj b a) [⟨[],[],[4]⟩,⟨[],[],[4]⟩,⟨[],[],[0,1,7,8]⟩,⟨[],[],[]⟩]
def jO:T ((Empty)⊕(aD)) :=
  .leaf (.inr (.r0 (-1:Int)))
def ak(a:List Nat) :Option aD:=mC (aN ((jY).run) fun _ =>
  aN (gR (di a) 0) fun _ =>
  (jO).run)
theorem kb(b:Lv)(a:List Nat){x:aD}(h:ak a=some x) :af prog lJ [] [.imm b (.fl a) 1 1 0 (List.length a),.fn (.func lg) [] []] (dA x) :=
  nB false dA cu h (Sg.cut 2 dm (br lC (jX b a) [⟨[],[],[0,1,7,8]⟩]) (fun _=>Sg.cut 1 dm (GM ⟨[],[],[0,1,7,8]⟩ (cj b a) (fv) 0 dm (jV _) (fun c=>jN b a c)) (fun _=>br lC mX [⟨[],[],[4]⟩])))
    (fun x=>by cases x with | r0 d=>exact mc [.int .i64 d])
def ay:Option aD→Bool
  | some _=>true
  | none=>false
def az:Option aD→Int
  | some (.r0 x)=>x
  | _=>0
theorem ke{x:Option aD}(h:ay x=true) :x=some (.r0 (az x)):=by
  unfold ay at h
  split at h<;>first | rfl | (cases h;done) | (rename_i y;cases y;rfl)
def fL:aA:=ca lJ (.cons .fl (.cons (.fn lg .nil .nil) .nil)) fun t=>(fun q=>[⟨dA (.r0 (az q)),[ay q]⟩]) (ak t.1.2)
theorem jy:aL prog fL:=aP fun t=>(aQ (fun h=>kb t.1.1 t.1.2 (ke h)) aZ)
def fM:List aA:=fL::Ay
theorem bf:aO prog (aK fM):=ap jy lC
inductive bV where
  | r0 (a:Nat) (b:Bool) (c:List Int) (d:Nat) (e:Nat) (f:Int)
def Az:bV→AE×aC
  | .r0 a b c d e f=>(.ret,⟨aj 45 [(4,.ptr 0 1 0 0),(5,.int .i64 ((a:Nat):Int))],[(0,.vs [.bool false b,.imm .free (.ns .u64 c) 1 1 d e,.int .i64 f])],1⟩)
theorem oH:jU Az:=by intro x;cases x<;>(intro h;cases h)
def ur:bV→fZ
  | .r0 a b c d e f=>⟨.tup [.agg [.bool false b,.imm .free (.ns .u64 c) 1 1 d e,.int .i64 f],.int .i64 ((a:Nat):Int)],[]⟩
def Ip(a:Int)(b:Int) :Bool×Bool→aC:=fun (c,d)=>⟨aj 45 [(0,.int .i64 a),(1,.int .i64 b),(4,.ptr 0 1 0 0),(22,.bool false c)],[(0,.vs [.bool false d,.nsl,.int .i64 (0:Int)])],1⟩
def Iq(a:Int)(b:Int) :T ((Bool×Bool)⊕(bV)) :=
  .ask (decide (a<(0:Int)))
    (.leaf (.inl (true,false)))
    (.ask (decide (a>(512:Int)))
      (.leaf (.inl (true,false)))
      (.ask (decide (b<(0:Int)))
        (.leaf (.inl (true,false)))
        (.leaf (.inl ((decide (b>(512:Int))),false)))))
def Ir(a:Bool) :Bool×(List Int)×Nat×Nat×Int→aC:=fun (b,c,d,e,f)=>⟨aj 45 [(4,.ptr 0 1 0 0),(6,.ptr 1 1 0 0)],[(0,.vs [.bool false a,.nsl,.int .i64 (0:Int)]),(1,.vs [.bool false b,.imm .free (.ns .u64 c) 1 1 d e,.int .i64 f])],2⟩
def Is(a:Int)(b:Int)(c:Bool) :T ((Bool×(List Int)×Nat×Nat×Int)⊕(bV)) :=
  .ask c
    (.leaf (.inr (.r0 2 false ([]:List Int) 0 0 (0:Int))))
    (.need (dN .i64 ((64:Int)*(mg a (1:Int))))<|.need (dN .i64 (((64:Int)*(mg a (1:Int)))*(mg b (1:Int))))<|.need (jc (bF (((64:Int)*(mg a (1:Int)))*(mg b (1:Int)))))<|.leaf (.inl ((iL (bF (((64:Int)*(mg a (1:Int)))*(mg b (1:Int))))),(iM (bF (((64:Int)*(mg a (1:Int)))*(mg b (1:Int))))),(iN (bF (((64:Int)*(mg a (1:Int)))*(mg b (1:Int))))),(iO (bF (((64:Int)*(mg a (1:Int)))*(mg b (1:Int))))),(iP (bF (((64:Int)*(mg a (1:Int)))*(mg b (1:Int))))))))
def It(a:Bool) :Nat×Bool×(List Int)×Nat×Nat×Int→aC:=fun (b,c,d,e,f,g)=>⟨aj 45 [(4,.ptr 0 1 0 0),(7,.ptr 1 1 0 0),(8,.int .i64 ((b:Nat):Int))],[(0,.vs [.bool false a,.nsl,.int .i64 (0:Int)]),(1,.vs [.bool false c,.imm .free (.ns .u64 d) 1 1 e f,.int .i64 g])],2⟩
def Iu(d:Bool)(a:List Int)(b:Nat)(c:Nat)(e:Int) :T ((Nat×Bool×(List Int)×Nat×Nat×Int)⊕(bV)) :=
  .need (aG b c a)<|.need (aG b c a)<|.need (jx (ag d (aa b c a) e d (aa b c a) e))<|.leaf (.inl ((gK (ag d (aa b c a) e d (aa b c a) e)),(bA (ag d (aa b c a) e d (aa b c a) e)),(bk (ag d (aa b c a) e d (aa b c a) e)),(bm (ag d (aa b c a) e d (aa b c a) e)),(bn (ag d (aa b c a) e d (aa b c a) e)),(bB (ag d (aa b c a) e d (aa b c a) e))))
def Iv:Nat×Bool×(List Int)×Nat×Nat×Int→aC:=fun (a,b,c,d,e,f)=>⟨aj 45 [(4,.ptr 0 1 0 0),(5,.int .i64 ((a:Nat):Int))],[(0,.vs [.bool false b,.imm .free (.ns .u64 c) 1 1 d e,.int .i64 f])],1⟩
def Iw(f:Nat)(d:Bool)(a:List Int)(b:Nat)(c:Nat)(e:Int) :T ((Nat×Bool×(List Int)×Nat×Nat×Int)⊕(bV)) :=
  .ask (((f:Nat):Int) != (0:Int))
    (.leaf (.inr (.r0 f false ([]:List Int) 0 0 (0:Int))))
    (.need (aG b c a)<|.need (oF (fF d (aa b c a) e (-106:Int)))<|.leaf (.inl ((po (fF d (aa b c a) e (-106:Int))),(pq (fF d (aa b c a) e (-106:Int))),(pr (fF d (aa b c a) e (-106:Int))),(pt (fF d (aa b c a) e (-106:Int))),(pu (fF d (aa b c a) e (-106:Int))),(pv (fF d (aa b c a) e (-106:Int))))))
def Ge(a:Nat)(b:Bool)(c:List Int)(d:Nat)(e:Nat)(f:Int) :T ((Empty)⊕(bV)) :=
  .leaf (.inr (.r0 a b c d e f))
def fI(a:Int)(b:Int) :Option bV:=mC (aN ((Iq a b).run) fun (c,u) =>
  aN ((Is a b c).run) fun (d,e,f,g,h) =>
  aN ((Iu d e f g h).run) fun (i,j,k,l,m,n) =>
  aN ((Iw i j k l m n).run) fun (o,p,q,r,s,t) =>
  (Ge o p q r s t).run)
theorem Ix(a:Int)(b:Int){x:bV}(h:fI a b=some x) :af prog tk [] [.int .i64 a,.int .i64 b] (ur x) :=
  nB true ur Az h (Sg.cut 2 oH (br bf (Ip a b) [⟨[],[0],[0,1,4,22]⟩,⟨[],[0],[0,1,4,22]⟩,⟨[],[0],[0,1,4,22]⟩,⟨[],[0],[0,1,4,22]⟩]) (fun ⟨k,c⟩=>Sg.cut 2 oH (br bf (Ir c) [⟨[(.cell 0 1,.fre 1 1 (.ns .u64 ([]:List Int)))],[0],[4,5]⟩,⟨[],[0,113],[4,6]⟩]) (fun ⟨l,m,n,o,p⟩=>Sg.cut 1 oH (br bf (It c) [⟨[],[0,98],[4,7,8]⟩]) (fun ⟨q,r,s,t,u,v⟩=>Sg.cut 3 oH (br bf Iv [⟨[(.cell 0 1,.fre 1 1 (.ns .u64 ([]:List Int)))],[0],[4,5]⟩,⟨[],[0],[4,5]⟩]) (fun ⟨w,y,z,A,B,C⟩=>br bf mX [⟨[],[0],[4,5]⟩])))))
    (fun x=>by cases x with | r0 d e f g i j=>exact mc [.agg [.bool false e,.imm .free (.ns .u64 f) 1 1 g i,.int .i64 j],.int .i64 ((d:Nat):Int)])
def oI:Option bV→Bool
  | some _=>true
  | none=>false
def pz:Option bV→Nat
  | some (.r0 x _ _ _ _ _)=>x
  | _=>0
def pA:Option bV→Bool
  | some (.r0 _ x _ _ _ _)=>x
  | _=>false
def pB:Option bV→List Int
  | some (.r0 _ _ x _ _ _)=>x
  | _=>[]
def pC:Option bV→Nat
  | some (.r0 _ _ _ x _ _)=>x
  | _=>0
def pD:Option bV→Nat
  | some (.r0 _ _ _ _ x _)=>x
  | _=>0
def pE:Option bV→Int
  | some (.r0 _ _ _ _ _ x)=>x
  | _=>0
theorem Iy{x:Option bV}(h:oI x=true) :x=some (.r0 (pz x) (pA x) (pB x) (pC x) (pD x) (pE x)):=by
  unfold oI at h
  split at h<;>first | rfl | (cases h;done) | (rename_i y;cases y;rfl)
def AA:aA:=ca tk (.cons (.int .i64) (.cons (.int .i64) .nil)) fun t=>(fun q=>[⟨ur (.r0 (pz q) (pA q) (pB q) (pC q) (pD q) (pE q)),[oI q]⟩]) (fI t.1 t.2.1)
theorem Dk:aL prog AA:=aP fun t=>(aQ (fun h=>Ix t.1 t.2.1 (Iy h)) aZ)
def AB:List aA:=AA::fM
theorem iQ:aO prog (aK AB):=ap Dk bf
inductive cC where
  | r0 (a:Nat) (b:List Bool) (c:List (List Int)) (d:List Int)
def qi:cC→AE×aC
  | .r0 a b c d=>(.ret,⟨aj 26 [(2,.sl 0 3 3 0 a a)],[(0,.cols a [.cb b,.cns .u64 c,.ci .i64 d])],1⟩)
theorem oJ:jU qi:=by intro x;cases x<;>(intro h;cases h)
theorem Iz(id:Nat) :oV id qi:=by intro x;cases x<;>(intro h;cases h)
def ut:cC→fZ
  | .r0 a b c d=>⟨.imm .free (.cols a [.cb b,.cns .u64 c,.ci .i64 d]) 3 3 0 a,[]⟩
def IA:List Code:=dd (ph pV)
def IB(b:Lv)(a:List Nat) :(List Bool)×(List (List Int))×(List Int)→aC:=fun (c,d,e)=>⟨aj 26 [(3,.sl 0 3 3 0 (List.length a) (List.length a)),(9,.imm b (.fl a) 1 1 0 (List.length a)),(10,.int .i64 (((List.length a):Nat):Int)),(11,.int .i64 (0:Int))],[(0,.cols (List.length a) [.cb c,.cns .u64 d,.ci .i64 e])],1⟩
def IC(a:List Nat) :T (((List Bool)×(List (List Int))×(List Int))⊕(cC)) :=
  .need (decide ((0:Int)≤(((List.length a):Nat):Int)))<|.need (decide ((((List.length a):Nat):Int)≤(((List.length a):Nat):Int)))<|.need (decide ((40:Int)*(((List.length a):Nat):Int)≤140737488355328))<|.need (dN .i64 (((List.length a):Nat):Int))<|.leaf (.inl ((List.replicate (List.length a) false),(List.replicate (List.length a) []),(List.replicate (List.length a) (0:Int))))
def oK(b:Lv)(a:List Nat) :Nat×(List Bool)×(List (List Int))×(List Int)→aC:=fun (c,d,e,f)=>⟨aj 26 [(3,.sl 0 3 3 0 (List.length a) (List.length a)),(9,.imm b (.fl a) 1 1 0 (List.length a)),(10,.int .i64 (((List.length a):Nat):Int)),(11,.int .i64 ((c:Nat):Int))],[(0,.cols (List.length a) [.cb d,.cns .u64 e,.ci .i64 f])],1⟩
def xo(a:List Nat) :(List Bool)×(List (List Int))×(List Int)→aC:=fun (b,c,d)=>⟨aj 26 [(3,.sl 0 3 3 0 (List.length a) (List.length a))],[(0,.cols (List.length a) [.cb b,.cns .u64 c,.ci .i64 d])],1⟩
def Gf:List Code:=dd (fB ((((IA.drop 3).take 1)).headD .skip))
def ID(b:Lv)(a:List Nat)(c:Nat) :(List Bool)×(List (List Int))×(List Int)→aC:=fun (d,e,f)=>⟨aj 26 [(3,.sl 0 3 3 0 (List.length a) (List.length a)),(9,.imm b (.fl a) 1 1 0 (List.length a)),(10,.int .i64 (((List.length a):Nat):Int)),(11,.int .i64 ((c:Nat):Int))],[(0,.cols (List.length a) [.cb d,.cns .u64 e,.ci .i64 f])],1⟩
def Gg(b:List Nat)(a:Nat)(c:List Bool)(d:List (List Int))(e:List Int) :T (((List Bool)×(List (List Int))×(List Int))⊕(((List Bool)×(List (List Int))×(List Int))⊕(cC))) :=
  .ask (decide (((a:Nat):Int)<(((List.length b):Nat):Int)))
    (.need (fw ((a:Nat):Int) (List.length b))<|.need (fX a (List.length b))<|.need (ul (gW (List.getD b a 0)))<|.need (fw ((a:Nat):Int) (List.length b))<|.need (fX a (List.length c))<|.need (fX a (List.length d))<|.need (decide ((qg (gW (List.getD b a 0)))+(qh (gW (List.getD b a 0)))≤List.length (qf (gW (List.getD b a 0)))))<|.need (fX a (List.length e))<|.leaf (.inl ((List.set c a (um (gW (List.getD b a 0)))),(List.set d a (List.take (qh (gW (List.getD b a 0))) (List.drop (qg (gW (List.getD b a 0))) (qf (gW (List.getD b a 0)))))),(List.set e a (un (gW (List.getD b a 0)))))))
    (.leaf (.inr (.inl (c,d,e))))
def Gh(a:Nat)(b:List Bool)(c:List (List Int))(d:List Int) :T ((Nat×(List Bool)×(List (List Int))×(List Int))⊕(((List Bool)×(List (List Int))×(List Int))⊕(cC))) :=
  .need (dN .i64 (((a+1):Nat):Int))<|.leaf (.inl ((a+1),b,c,d))
def qT(b:List Nat) :Nat×(List Bool)×(List (List Int))×(List Int)→Option ((Nat×(List Bool)×(List (List Int))×(List Int))⊕(((List Bool)×(List (List Int))×(List Int))⊕(cC))):=fun (a,c,d,e) =>
  aN ((Gg b a c d e).run) fun (f,g,h) =>
  (Gh a f g h).run
theorem Gi(b:Lv)(a:List Nat)(c:Nat)(d:List Bool)(e:List (List Int))(f:List Int) :Sg prog [] Gf (oK b a (c,d,e,f)) (qT a (c,d,e,f)) (oK b a) (dS 0 (xo a) qi):=by
  unfold qT;exact Sg.cut 3 (bb oJ) (br iQ (ID b a c) [⟨[],[0],[3,9,10,11]⟩,⟨[],[0],[3]⟩]) (fun ⟨g,h,i⟩=>br iQ (oK b a) [⟨[],[0],[3,9,10,11]⟩])
def Gj(a:List Nat)(b:List Bool)(c:List (List Int))(d:List Int) :T ((Empty)⊕(cC)) :=
  .leaf (.inr (.r0 (List.length a) b c d))
def ah(a:List Nat) :Option cC:=mC (aN ((IC a).run) fun (b,c,d) =>
  aN (gR (qT a) (0,b,c,d)) fun (e,f,g) =>
  (Gj a e f g).run)
theorem IE(b:Lv)(a:List Nat){x:cC}(h:ah a=some x) :af prog pV [] [.imm b (.fl a) 1 1 0 (List.length a)] (ut x) :=
  nB true ut qi h (Sg.cut 3 oJ (br iQ (IB b a) [⟨[],[48],[3,9,10,11]⟩]) (fun ⟨i,j,k⟩=>Sg.cut 1 oJ (GM ⟨[],[0],[3,9,10,11]⟩ (oK b a) (xo a) 0 oJ (Iz _) (fun ⟨d,e,f,g⟩=>Gi b a d e f g)) (fun ⟨l,m,n⟩=>br iQ mX [⟨[],[0],[2]⟩])))
    (fun x=>by cases x with | r0 c o p q=>exact mc [.sl 0 3 3 0 c c])
def fb:Option cC→Bool
  | some _=>true
  | none=>false
def au:Option cC→Nat
  | some (.r0 x _ _ _)=>x
  | _=>0
def bJ:Option cC→List Bool
  | some (.r0 _ x _ _)=>x
  | _=>[]
def bK:Option cC→List (List Int)
  | some (.r0 _ _ x _)=>x
  | _=>[]
def bL:Option cC→List Int
  | some (.r0 _ _ _ x)=>x
  | _=>[]
theorem IF{x:Option cC}(h:fb x=true) :x=some (.r0 (au x) (bJ x) (bK x) (bL x)):=by
  unfold fb at h
  split at h<;>first | rfl | (cases h;done) | (rename_i y;cases y;rfl)
def AC:aA:=ca pV (.cons .fl .nil) fun t=>(fun q=>[⟨ut (.r0 (au q) (bJ q) (bK q) (bL q)),[fb q]⟩]) (ah t.1.2)
theorem Dl:aL prog AC:=aP fun t=>(aQ (fun h=>IE t.1.1 t.1.2 (IF h)) aZ)
def AD:List aA:=AC::AB
theorem gl:aO prog (aK AD):=ap Dl iQ
inductive cO where
  | r0 (a:Nat) (b:Bool) (c:List Int) (d:Nat) (e:Nat) (f:Int)
def uu:cO→AE×aC
  | .r0 a b c d e f=>(.ret,⟨aj 51 [(4,.ptr 0 1 0 0),(5,.int .i64 ((a:Nat):Int))],[(0,.vs [.bool false b,.imm .free (.ns .u64 c) 1 1 d e,.int .i64 f])],1⟩)
theorem lY:jU uu:=by intro x;cases x<;>(intro h;cases h)
theorem QN(id:Nat) :oV id uu:=by intro x;cases x<;>(intro h;cases h)
def yD:cO→fZ
  | .r0 a b c d e f=>⟨.tup [.agg [.bool false b,.imm .free (.ns .u64 c) 1 1 d e,.int .i64 f],.int .i64 ((a:Nat):Int)],[]⟩
def uv:List Code:=dd (ph tq)
def QO(c:Lv)(a:Nat)(d:List Bool)(e:List (List Int))(f:List Int)(g:Lv)(b:Nat)(h:List Bool)(i:List (List Int))(j:List Int)(k:Bool) :aC:=⟨aj 51 [(0,.imm c (.cols a [.cb d,.cns .u64 e,.ci .i64 f]) 3 3 0 a),(1,.imm g (.cols b [.cb h,.cns .u64 i,.ci .i64 j]) 3 3 0 b),(4,.ptr 0 1 0 0)],[(0,.vs [.bool false k,.nsl,.int .i64 (0:Int)])],1⟩
def Mn:T ((Bool)⊕(cO)) :=
  .leaf (.inl false)
def Mo:List Code:=dd (wH (((uv.drop 1)).headD .skip))
def QP(c:Lv)(a:Nat)(d:List Bool)(e:List (List Int))(f:List Int)(g:Lv)(b:Nat)(h:List Bool)(i:List (List Int))(j:List Int)(k:Bool)(l:Bool) :aC:=⟨aj 51 [(0,.imm c (.cols a [.cb d,.cns .u64 e,.ci .i64 f]) 3 3 0 a),(1,.imm g (.cols b [.cb h,.cns .u64 i,.ci .i64 j]) 3 3 0 b),(4,.ptr 0 1 0 0),(6,.ptr 1 1 0 0),(7,.int .i64 (0:Int)),(18,.int .i64 ((a:Nat):Int)),(19,.int .i64 (0:Int))],[(0,.vs [.bool false k,.nsl,.int .i64 (0:Int)]),(1,.vs [.bool false l,.nsl,.int .i64 (0:Int)])],2⟩
def Mp(a:Nat)(b:Nat) :T ((Bool)⊕(cO)) :=
  .ask (((a:Nat):Int) != ((b:Nat):Int))
    (.leaf (.inr (.r0 2 false ([]:List Int) 0 0 (0:Int))))
    (.leaf (.inl false))
def rI(c:Lv)(a:Nat)(d:List Bool)(e:List (List Int))(f:List Int)(g:Lv)(b:Nat)(h:List Bool)(i:List (List Int))(j:List Int)(k:Bool) :Nat×Nat×Bool×(List Int)×Nat×Nat×Int→aC:=fun (l,m,n,o,p,q,r)=>⟨aj 51 [(0,.imm c (.cols a [.cb d,.cns .u64 e,.ci .i64 f]) 3 3 0 a),(1,.imm g (.cols b [.cb h,.cns .u64 i,.ci .i64 j]) 3 3 0 b),(4,.ptr 0 1 0 0),(6,.ptr 1 1 0 0),(7,.int .i64 ((l:Nat):Int)),(18,.int .i64 ((a:Nat):Int)),(19,.int .i64 ((m:Nat):Int))],[(0,.vs [.bool false k,.nsl,.int .i64 (0:Int)]),(1,.vs [.bool false n,.imm .free (.ns .u64 o) 1 1 p q,.int .i64 r])],2⟩
def AF(a:Bool) :Nat×Bool×(List Int)×Nat×Nat×Int→aC:=fun (b,c,d,e,f,g)=>⟨aj 51 [(4,.ptr 0 1 0 0),(6,.ptr 1 1 0 0),(7,.int .i64 ((b:Nat):Int))],[(0,.vs [.bool false a,.nsl,.int .i64 (0:Int)]),(1,.vs [.bool false c,.imm .free (.ns .u64 d) 1 1 e f,.int .i64 g])],2⟩
def Mq:List Code:=dd (fB ((((Mo.drop 5).take 1)).headD .skip))
def Mr(c:Lv)(a:Nat)(d:List Bool)(e:List (List Int))(f:List Int)(g:Lv)(b:Nat)(h:List Bool)(i:List (List Int))(j:List Int)(k:Bool)(l:Nat) :Nat×Bool×(List Int)×Nat×Nat×Int→aC:=fun (m,n,o,p,q,r)=>⟨aj 51 [(0,.imm c (.cols a [.cb d,.cns .u64 e,.ci .i64 f]) 3 3 0 a),(1,.imm g (.cols b [.cb h,.cns .u64 i,.ci .i64 j]) 3 3 0 b),(4,.ptr 0 1 0 0),(6,.ptr 1 1 0 0),(7,.int .i64 ((m:Nat):Int)),(18,.int .i64 ((a:Nat):Int)),(19,.int .i64 ((l:Nat):Int))],[(0,.vs [.bool false k,.nsl,.int .i64 (0:Int)]),(1,.vs [.bool false n,.imm .free (.ns .u64 o) 1 1 p q,.int .i64 r])],2⟩
def Ms(m:Nat)(d:List Bool)(b:List (List Int))(e:List Int)(n:Nat)(f:List Bool)(c:List (List Int))(g:List Int)(o:Nat)(a:Nat)(k:Bool)(h:List Int)(i:Nat)(j:Nat)(l:Int) :T ((Nat×Bool×(List Int)×Nat×Nat×Int)⊕((Nat×Bool×(List Int)×Nat×Nat×Int)⊕(cO))) :=
  .ask (decide (((a:Nat):Int)<((m:Nat):Int)))
    (.need (fw ((a:Nat):Int) m)<|.need (fX a (List.length d))<|.need (fX a (List.length b))<|.need (fX a (List.length e))<|.need (fw ((a:Nat):Int) n)<|.need (fX a (List.length f))<|.need (fX a (List.length c))<|.need (fX a (List.length g))<|.need (aG 0 (List.length (List.getD b a [])) (List.getD b a []))<|.need (aG 0 (List.length (List.getD c a [])) (List.getD c a []))<|.need (jx (ag (List.getD d a false) (aa 0 (List.length (List.getD b a [])) (List.getD b a [])) (List.getD e a 0) (List.getD f a false) (aa 0 (List.length (List.getD c a [])) (List.getD c a [])) (List.getD g a 0)))<|.ask ((((gK (ag (List.getD d a false) (aa 0 (List.length (List.getD b a [])) (List.getD b a [])) (List.getD e a 0) (List.getD f a false) (aa 0 (List.length (List.getD c a [])) (List.getD c a [])) (List.getD g a 0))):Nat):Int) != (0:Int))
      (.leaf (.inr (.inl ((gK (ag (List.getD d a false) (aa 0 (List.length (List.getD b a [])) (List.getD b a [])) (List.getD e a 0) (List.getD f a false) (aa 0 (List.length (List.getD c a [])) (List.getD c a [])) (List.getD g a 0))),k,h,i,j,l))))
      (.need (aG i j h)<|.need (aG (bm (ag (List.getD d a false) (aa 0 (List.length (List.getD b a [])) (List.getD b a [])) (List.getD e a 0) (List.getD f a false) (aa 0 (List.length (List.getD c a [])) (List.getD c a [])) (List.getD g a 0))) (bn (ag (List.getD d a false) (aa 0 (List.length (List.getD b a [])) (List.getD b a [])) (List.getD e a 0) (List.getD f a false) (aa 0 (List.length (List.getD c a [])) (List.getD c a [])) (List.getD g a 0))) (bk (ag (List.getD d a false) (aa 0 (List.length (List.getD b a [])) (List.getD b a [])) (List.getD e a 0) (List.getD f a false) (aa 0 (List.length (List.getD c a [])) (List.getD c a [])) (List.getD g a 0))))<|.need (oZ (bR k (aa i j h) l (bA (ag (List.getD d a false) (aa 0 (List.length (List.getD b a [])) (List.getD b a [])) (List.getD e a 0) (List.getD f a false) (aa 0 (List.length (List.getD c a [])) (List.getD c a [])) (List.getD g a 0))) (aa (bm (ag (List.getD d a false) (aa 0 (List.length (List.getD b a [])) (List.getD b a [])) (List.getD e a 0) (List.getD f a false) (aa 0 (List.length (List.getD c a [])) (List.getD c a [])) (List.getD g a 0))) (bn (ag (List.getD d a false) (aa 0 (List.length (List.getD b a [])) (List.getD b a [])) (List.getD e a 0) (List.getD f a false) (aa 0 (List.length (List.getD c a [])) (List.getD c a [])) (List.getD g a 0))) (bk (ag (List.getD d a false) (aa 0 (List.length (List.getD b a [])) (List.getD b a [])) (List.getD e a 0) (List.getD f a false) (aa 0 (List.length (List.getD c a [])) (List.getD c a [])) (List.getD g a 0)))) (bB (ag (List.getD d a false) (aa 0 (List.length (List.getD b a [])) (List.getD b a [])) (List.getD e a 0) (List.getD f a false) (aa 0 (List.length (List.getD c a [])) (List.getD c a [])) (List.getD g a 0)))))<|.ask ((((jb (bR k (aa i j h) l (bA (ag (List.getD d a false) (aa 0 (List.length (List.getD b a [])) (List.getD b a [])) (List.getD e a 0) (List.getD f a false) (aa 0 (List.length (List.getD c a [])) (List.getD c a [])) (List.getD g a 0))) (aa (bm (ag (List.getD d a false) (aa 0 (List.length (List.getD b a [])) (List.getD b a [])) (List.getD e a 0) (List.getD f a false) (aa 0 (List.length (List.getD c a [])) (List.getD c a [])) (List.getD g a 0))) (bn (ag (List.getD d a false) (aa 0 (List.length (List.getD b a [])) (List.getD b a [])) (List.getD e a 0) (List.getD f a false) (aa 0 (List.length (List.getD c a [])) (List.getD c a [])) (List.getD g a 0))) (bk (ag (List.getD d a false) (aa 0 (List.length (List.getD b a [])) (List.getD b a [])) (List.getD e a 0) (List.getD f a false) (aa 0 (List.length (List.getD c a [])) (List.getD c a [])) (List.getD g a 0)))) (bB (ag (List.getD d a false) (aa 0 (List.length (List.getD b a [])) (List.getD b a [])) (List.getD e a 0) (List.getD f a false) (aa 0 (List.length (List.getD c a [])) (List.getD c a [])) (List.getD g a 0))))):Nat):Int) != (0:Int))
        (.leaf (.inr (.inl ((jb (bR k (aa i j h) l (bA (ag (List.getD d a false) (aa 0 (List.length (List.getD b a [])) (List.getD b a [])) (List.getD e a 0) (List.getD f a false) (aa 0 (List.length (List.getD c a [])) (List.getD c a [])) (List.getD g a 0))) (aa (bm (ag (List.getD d a false) (aa 0 (List.length (List.getD b a [])) (List.getD b a [])) (List.getD e a 0) (List.getD f a false) (aa 0 (List.length (List.getD c a [])) (List.getD c a [])) (List.getD g a 0))) (bn (ag (List.getD d a false) (aa 0 (List.length (List.getD b a [])) (List.getD b a [])) (List.getD e a 0) (List.getD f a false) (aa 0 (List.length (List.getD c a [])) (List.getD c a [])) (List.getD g a 0))) (bk (ag (List.getD d a false) (aa 0 (List.length (List.getD b a [])) (List.getD b a [])) (List.getD e a 0) (List.getD f a false) (aa 0 (List.length (List.getD c a [])) (List.getD c a [])) (List.getD g a 0)))) (bB (ag (List.getD d a false) (aa 0 (List.length (List.getD b a [])) (List.getD b a [])) (List.getD e a 0) (List.getD f a false) (aa 0 (List.length (List.getD c a [])) (List.getD c a [])) (List.getD g a 0))))),(ku (bR k (aa i j h) l (bA (ag (List.getD d a false) (aa 0 (List.length (List.getD b a [])) (List.getD b a [])) (List.getD e a 0) (List.getD f a false) (aa 0 (List.length (List.getD c a [])) (List.getD c a [])) (List.getD g a 0))) (aa (bm (ag (List.getD d a false) (aa 0 (List.length (List.getD b a [])) (List.getD b a [])) (List.getD e a 0) (List.getD f a false) (aa 0 (List.length (List.getD c a [])) (List.getD c a [])) (List.getD g a 0))) (bn (ag (List.getD d a false) (aa 0 (List.length (List.getD b a [])) (List.getD b a [])) (List.getD e a 0) (List.getD f a false) (aa 0 (List.length (List.getD c a [])) (List.getD c a [])) (List.getD g a 0))) (bk (ag (List.getD d a false) (aa 0 (List.length (List.getD b a [])) (List.getD b a [])) (List.getD e a 0) (List.getD f a false) (aa 0 (List.length (List.getD c a [])) (List.getD c a [])) (List.getD g a 0)))) (bB (ag (List.getD d a false) (aa 0 (List.length (List.getD b a [])) (List.getD b a [])) (List.getD e a 0) (List.getD f a false) (aa 0 (List.length (List.getD c a [])) (List.getD c a [])) (List.getD g a 0))))),(kv (bR k (aa i j h) l (bA (ag (List.getD d a false) (aa 0 (List.length (List.getD b a [])) (List.getD b a [])) (List.getD e a 0) (List.getD f a false) (aa 0 (List.length (List.getD c a [])) (List.getD c a [])) (List.getD g a 0))) (aa (bm (ag (List.getD d a false) (aa 0 (List.length (List.getD b a [])) (List.getD b a [])) (List.getD e a 0) (List.getD f a false) (aa 0 (List.length (List.getD c a [])) (List.getD c a [])) (List.getD g a 0))) (bn (ag (List.getD d a false) (aa 0 (List.length (List.getD b a [])) (List.getD b a [])) (List.getD e a 0) (List.getD f a false) (aa 0 (List.length (List.getD c a [])) (List.getD c a [])) (List.getD g a 0))) (bk (ag (List.getD d a false) (aa 0 (List.length (List.getD b a [])) (List.getD b a [])) (List.getD e a 0) (List.getD f a false) (aa 0 (List.length (List.getD c a [])) (List.getD c a [])) (List.getD g a 0)))) (bB (ag (List.getD d a false) (aa 0 (List.length (List.getD b a [])) (List.getD b a [])) (List.getD e a 0) (List.getD f a false) (aa 0 (List.length (List.getD c a [])) (List.getD c a [])) (List.getD g a 0))))),(kw (bR k (aa i j h) l (bA (ag (List.getD d a false) (aa 0 (List.length (List.getD b a [])) (List.getD b a [])) (List.getD e a 0) (List.getD f a false) (aa 0 (List.length (List.getD c a [])) (List.getD c a [])) (List.getD g a 0))) (aa (bm (ag (List.getD d a false) (aa 0 (List.length (List.getD b a [])) (List.getD b a [])) (List.getD e a 0) (List.getD f a false) (aa 0 (List.length (List.getD c a [])) (List.getD c a [])) (List.getD g a 0))) (bn (ag (List.getD d a false) (aa 0 (List.length (List.getD b a [])) (List.getD b a [])) (List.getD e a 0) (List.getD f a false) (aa 0 (List.length (List.getD c a [])) (List.getD c a [])) (List.getD g a 0))) (bk (ag (List.getD d a false) (aa 0 (List.length (List.getD b a [])) (List.getD b a [])) (List.getD e a 0) (List.getD f a false) (aa 0 (List.length (List.getD c a [])) (List.getD c a [])) (List.getD g a 0)))) (bB (ag (List.getD d a false) (aa 0 (List.length (List.getD b a [])) (List.getD b a [])) (List.getD e a 0) (List.getD f a false) (aa 0 (List.length (List.getD c a [])) (List.getD c a [])) (List.getD g a 0))))),(kx (bR k (aa i j h) l (bA (ag (List.getD d a false) (aa 0 (List.length (List.getD b a [])) (List.getD b a [])) (List.getD e a 0) (List.getD f a false) (aa 0 (List.length (List.getD c a [])) (List.getD c a [])) (List.getD g a 0))) (aa (bm (ag (List.getD d a false) (aa 0 (List.length (List.getD b a [])) (List.getD b a [])) (List.getD e a 0) (List.getD f a false) (aa 0 (List.length (List.getD c a [])) (List.getD c a [])) (List.getD g a 0))) (bn (ag (List.getD d a false) (aa 0 (List.length (List.getD b a [])) (List.getD b a [])) (List.getD e a 0) (List.getD f a false) (aa 0 (List.length (List.getD c a [])) (List.getD c a [])) (List.getD g a 0))) (bk (ag (List.getD d a false) (aa 0 (List.length (List.getD b a [])) (List.getD b a [])) (List.getD e a 0) (List.getD f a false) (aa 0 (List.length (List.getD c a [])) (List.getD c a [])) (List.getD g a 0)))) (bB (ag (List.getD d a false) (aa 0 (List.length (List.getD b a [])) (List.getD b a [])) (List.getD e a 0) (List.getD f a false) (aa 0 (List.length (List.getD c a [])) (List.getD c a [])) (List.getD g a 0))))),(ky (bR k (aa i j h) l (bA (ag (List.getD d a false) (aa 0 (List.length (List.getD b a [])) (List.getD b a [])) (List.getD e a 0) (List.getD f a false) (aa 0 (List.length (List.getD c a [])) (List.getD c a [])) (List.getD g a 0))) (aa (bm (ag (List.getD d a false) (aa 0 (List.length (List.getD b a [])) (List.getD b a [])) (List.getD e a 0) (List.getD f a false) (aa 0 (List.length (List.getD c a [])) (List.getD c a [])) (List.getD g a 0))) (bn (ag (List.getD d a false) (aa 0 (List.length (List.getD b a [])) (List.getD b a [])) (List.getD e a 0) (List.getD f a false) (aa 0 (List.length (List.getD c a [])) (List.getD c a [])) (List.getD g a 0))) (bk (ag (List.getD d a false) (aa 0 (List.length (List.getD b a [])) (List.getD b a [])) (List.getD e a 0) (List.getD f a false) (aa 0 (List.length (List.getD c a [])) (List.getD c a [])) (List.getD g a 0)))) (bB (ag (List.getD d a false) (aa 0 (List.length (List.getD b a [])) (List.getD b a [])) (List.getD e a 0) (List.getD f a false) (aa 0 (List.length (List.getD c a [])) (List.getD c a [])) (List.getD g a 0)))))))))
        (.leaf (.inl ((jb (bR k (aa i j h) l (bA (ag (List.getD d a false) (aa 0 (List.length (List.getD b a [])) (List.getD b a [])) (List.getD e a 0) (List.getD f a false) (aa 0 (List.length (List.getD c a [])) (List.getD c a [])) (List.getD g a 0))) (aa (bm (ag (List.getD d a false) (aa 0 (List.length (List.getD b a [])) (List.getD b a [])) (List.getD e a 0) (List.getD f a false) (aa 0 (List.length (List.getD c a [])) (List.getD c a [])) (List.getD g a 0))) (bn (ag (List.getD d a false) (aa 0 (List.length (List.getD b a [])) (List.getD b a [])) (List.getD e a 0) (List.getD f a false) (aa 0 (List.length (List.getD c a [])) (List.getD c a [])) (List.getD g a 0))) (bk (ag (List.getD d a false) (aa 0 (List.length (List.getD b a [])) (List.getD b a [])) (List.getD e a 0) (List.getD f a false) (aa 0 (List.length (List.getD c a [])) (List.getD c a [])) (List.getD g a 0)))) (bB (ag (List.getD d a false) (aa 0 (List.length (List.getD b a [])) (List.getD b a [])) (List.getD e a 0) (List.getD f a false) (aa 0 (List.length (List.getD c a [])) (List.getD c a [])) (List.getD g a 0))))),(ku (bR k (aa i j h) l (bA (ag (List.getD d a false) (aa 0 (List.length (List.getD b a [])) (List.getD b a [])) (List.getD e a 0) (List.getD f a false) (aa 0 (List.length (List.getD c a [])) (List.getD c a [])) (List.getD g a 0))) (aa (bm (ag (List.getD d a false) (aa 0 (List.length (List.getD b a [])) (List.getD b a [])) (List.getD e a 0) (List.getD f a false) (aa 0 (List.length (List.getD c a [])) (List.getD c a [])) (List.getD g a 0))) (bn (ag (List.getD d a false) (aa 0 (List.length (List.getD b a [])) (List.getD b a [])) (List.getD e a 0) (List.getD f a false) (aa 0 (List.length (List.getD c a [])) (List.getD c a [])) (List.getD g a 0))) (bk (ag (List.getD d a false) (aa 0 (List.length (List.getD b a [])) (List.getD b a [])) (List.getD e a 0) (List.getD f a false) (aa 0 (List.length (List.getD c a [])) (List.getD c a [])) (List.getD g a 0)))) (bB (ag (List.getD d a false) (aa 0 (List.length (List.getD b a [])) (List.getD b a [])) (List.getD e a 0) (List.getD f a false) (aa 0 (List.length (List.getD c a [])) (List.getD c a [])) (List.getD g a 0))))),(kv (bR k (aa i j h) l (bA (ag (List.getD d a false) (aa 0 (List.length (List.getD b a [])) (List.getD b a [])) (List.getD e a 0) (List.getD f a false) (aa 0 (List.length (List.getD c a [])) (List.getD c a [])) (List.getD g a 0))) (aa (bm (ag (List.getD d a false) (aa 0 (List.length (List.getD b a [])) (List.getD b a [])) (List.getD e a 0) (List.getD f a false) (aa 0 (List.length (List.getD c a [])) (List.getD c a [])) (List.getD g a 0))) (bn (ag (List.getD d a false) (aa 0 (List.length (List.getD b a [])) (List.getD b a [])) (List.getD e a 0) (List.getD f a false) (aa 0 (List.length (List.getD c a [])) (List.getD c a [])) (List.getD g a 0))) (bk (ag (List.getD d a false) (aa 0 (List.length (List.getD b a [])) (List.getD b a [])) (List.getD e a 0) (List.getD f a false) (aa 0 (List.length (List.getD c a [])) (List.getD c a [])) (List.getD g a 0)))) (bB (ag (List.getD d a false) (aa 0 (List.length (List.getD b a [])) (List.getD b a [])) (List.getD e a 0) (List.getD f a false) (aa 0 (List.length (List.getD c a [])) (List.getD c a [])) (List.getD g a 0))))),(kw (bR k (aa i j h) l (bA (ag (List.getD d a false) (aa 0 (List.length (List.getD b a [])) (List.getD b a [])) (List.getD e a 0) (List.getD f a false) (aa 0 (List.length (List.getD c a [])) (List.getD c a [])) (List.getD g a 0))) (aa (bm (ag (List.getD d a false) (aa 0 (List.length (List.getD b a [])) (List.getD b a [])) (List.getD e a 0) (List.getD f a false) (aa 0 (List.length (List.getD c a [])) (List.getD c a [])) (List.getD g a 0))) (bn (ag (List.getD d a false) (aa 0 (List.length (List.getD b a [])) (List.getD b a [])) (List.getD e a 0) (List.getD f a false) (aa 0 (List.length (List.getD c a [])) (List.getD c a [])) (List.getD g a 0))) (bk (ag (List.getD d a false) (aa 0 (List.length (List.getD b a [])) (List.getD b a [])) (List.getD e a 0) (List.getD f a false) (aa 0 (List.length (List.getD c a [])) (List.getD c a [])) (List.getD g a 0)))) (bB (ag (List.getD d a false) (aa 0 (List.length (List.getD b a [])) (List.getD b a [])) (List.getD e a 0) (List.getD f a false) (aa 0 (List.length (List.getD c a [])) (List.getD c a [])) (List.getD g a 0))))),(kx (bR k (aa i j h) l (bA (ag (List.getD d a false) (aa 0 (List.length (List.getD b a [])) (List.getD b a [])) (List.getD e a 0) (List.getD f a false) (aa 0 (List.length (List.getD c a [])) (List.getD c a [])) (List.getD g a 0))) (aa (bm (ag (List.getD d a false) (aa 0 (List.length (List.getD b a [])) (List.getD b a [])) (List.getD e a 0) (List.getD f a false) (aa 0 (List.length (List.getD c a [])) (List.getD c a [])) (List.getD g a 0))) (bn (ag (List.getD d a false) (aa 0 (List.length (List.getD b a [])) (List.getD b a [])) (List.getD e a 0) (List.getD f a false) (aa 0 (List.length (List.getD c a [])) (List.getD c a [])) (List.getD g a 0))) (bk (ag (List.getD d a false) (aa 0 (List.length (List.getD b a [])) (List.getD b a [])) (List.getD e a 0) (List.getD f a false) (aa 0 (List.length (List.getD c a [])) (List.getD c a [])) (List.getD g a 0)))) (bB (ag (List.getD d a false) (aa 0 (List.length (List.getD b a [])) (List.getD b a [])) (List.getD e a 0) (List.getD f a false) (aa 0 (List.length (List.getD c a [])) (List.getD c a [])) (List.getD g a 0))))),(ky (bR k (aa i j h) l (bA (ag (List.getD d a false) (aa 0 (List.length (List.getD b a [])) (List.getD b a [])) (List.getD e a 0) (List.getD f a false) (aa 0 (List.length (List.getD c a [])) (List.getD c a [])) (List.getD g a 0))) (aa (bm (ag (List.getD d a false) (aa 0 (List.length (List.getD b a [])) (List.getD b a [])) (List.getD e a 0) (List.getD f a false) (aa 0 (List.length (List.getD c a [])) (List.getD c a [])) (List.getD g a 0))) (bn (ag (List.getD d a false) (aa 0 (List.length (List.getD b a [])) (List.getD b a [])) (List.getD e a 0) (List.getD f a false) (aa 0 (List.length (List.getD c a [])) (List.getD c a [])) (List.getD g a 0))) (bk (ag (List.getD d a false) (aa 0 (List.length (List.getD b a [])) (List.getD b a [])) (List.getD e a 0) (List.getD f a false) (aa 0 (List.length (List.getD c a [])) (List.getD c a [])) (List.getD g a 0)))) (bB (ag (List.getD d a false) (aa 0 (List.length (List.getD b a [])) (List.getD b a [])) (List.getD e a 0) (List.getD f a false) (aa 0 (List.length (List.getD c a [])) (List.getD c a [])) (List.getD g a 0))))))))))
    (.leaf (.inr (.inl (o,k,h,i,j,l))))
def Mt(a:Nat)(b:Nat)(c:Bool)(d:List Int)(e:Nat)(f:Nat)(g:Int) :T ((Nat×Nat×Bool×(List Int)×Nat×Nat×Int)⊕((Nat×Bool×(List Int)×Nat×Nat×Int)⊕(cO))) :=
  .need (dN .i64 (((a+1):Nat):Int))<|.leaf (.inl (b,(a+1),c,d,e,f,g))
def uw(b:Nat)(c:List Bool)(d:List (List Int))(e:List Int)(f:Nat)(g:List Bool)(h:List (List Int))(i:List Int) :Nat×Nat×Bool×(List Int)×Nat×Nat×Int→Option ((Nat×Nat×Bool×(List Int)×Nat×Nat×Int)⊕((Nat×Bool×(List Int)×Nat×Nat×Int)⊕(cO))):=fun (j,a,k,l,m,n,o) =>
  aN ((Ms b c d e f g h i j a k l m n o).run) fun (p,q,r,s,t,u) =>
  (Mt a p q r s t u).run
theorem Mu(j:Lv)(a:Nat)(b:List Bool)(c:List (List Int))(d:List Int)(k:Lv)(e:Nat)(f:List Bool)(g:List (List Int))(h:List Int)(i:Bool)(m:Nat)(l:Nat)(n:Bool)(o:List Int)(p:Nat)(q:Nat)(r:Int) :Sg prog [] Mq (rI j a b c d k e f g h i (m,l,n,o,p,q,r)) (uw a b c d e f g h (m,l,n,o,p,q,r)) (rI j a b c d k e f g h i) (dS 0 (AF i) uu):=by
  unfold uw;exact Sg.cut 3 (bb lY) (br gl (Mr j a b c d k e f g h i l) [⟨[],[0,1],[4,6,7]⟩,⟨[],[0,1],[4,6,7]⟩,⟨[],[0,1],[0,1,4,6,7,18,19]⟩,⟨[],[0,1],[4,6,7]⟩]) (fun ⟨s,t,u,v,w,x⟩=>br gl (rI j a b c d k e f g h i) [⟨[],[0,1],[0,1,4,6,7,18,19]⟩])
def Mv(a:Nat)(b:Bool)(c:List Int)(d:Nat)(e:Nat)(f:Int) :T ((Empty)⊕(cO)) :=
  .ask (((a:Nat):Int) != (0:Int))
    (.leaf (.inr (.r0 a false ([]:List Int) 0 0 (0:Int))))
    (.leaf (.inr (.r0 0 b c d e f)))
def bS(a:Nat)(c:List Bool)(d:List (List Int))(e:List Int)(b:Nat)(f:List Bool)(g:List (List Int))(h:List Int) :Option cO:=mC (aN ((Mn).run) fun p =>
  aN ((Mp a b).run) fun i =>
  aN (gR (uw a c d e b f g h) (0,0,i,([]:List Int),0,0,(0:Int))) fun (j,k,l,m,n,o) =>
  (Mv j k l m n o).run)
theorem QQ(j:Lv)(a:Nat)(c:List Bool)(d:List (List Int))(e:List Int)(k:Lv)(b:Nat)(f:List Bool)(g:List (List Int))(i:List Int){x:cO}(h:bS a c d e b f g i=some x) :af prog tq [] [.imm j (.cols a [.cb c,.cns .u64 d,.ci .i64 e]) 3 3 0 a,.imm k (.cols b [.cb f,.cns .u64 g,.ci .i64 i]) 3 3 0 b] (yD x) :=
  nB true yD uu h (Sg.cut 1 lY (br gl (QO j a c d e k b f g i) [⟨[],[0],[0,1,4]⟩]) (fun l=>yh (by kernel_rfl:(uv.drop 1)=[.scope (wH (((uv.drop 1)).headD .skip))]) lY (Sg.cut 5 lY (br gl (QP j a c d e k b f g i l) [⟨[(.cell 0 1,.fre 1 1 (.ns .u64 ([]:List Int)))],[0],[4,5]⟩,⟨[],[0,81],[0,1,4,6,7,18,19]⟩]) (fun A=>Sg.cut 1 lY (GM ⟨[(.cell 1 1,.fre 1 1 (.ns .u64 ([]:List Int)))],[0,1],[0,1,4,6,7,18,19]⟩ (rI j a c d e k b f g i l) (AF l) 0 lY (QN _) (fun ⟨m,n,o,p,q,r,s⟩=>Mu j a c d e k b f g i l m n o p q r s)) (fun ⟨B,C,D,E,F,G⟩=>br gl mX [⟨[(.cell 0 1,.fre 1 1 (.ns .u64 ([]:List Int)))],[0],[4,5]⟩,⟨[],[0],[4,5]⟩])))))
    (fun x=>by cases x with | r0 t u v w y z=>exact mc [.agg [.bool false u,.imm .free (.ns .u64 v) 1 1 w y,.int .i64 z],.int .i64 ((t:Nat):Int)])
def lZ:Option cO→Bool
  | some _=>true
  | none=>false
def kC:Option cO→Nat
  | some (.r0 x _ _ _ _ _)=>x
  | _=>0
def kD:Option cO→Bool
  | some (.r0 _ x _ _ _ _)=>x
  | _=>false
def kE:Option cO→List Int
  | some (.r0 _ _ x _ _ _)=>x
  | _=>[]
def kF:Option cO→Nat
  | some (.r0 _ _ _ x _ _)=>x
  | _=>0
def kG:Option cO→Nat
  | some (.r0 _ _ _ _ x _)=>x
  | _=>0
def kH:Option cO→Int
  | some (.r0 _ _ _ _ _ x)=>x
  | _=>0
theorem QR{x:Option cO}(h:lZ x=true) :x=some (.r0 (kC x) (kD x) (kE x) (kF x) (kG x) (kH x)):=by
  unfold lZ at h
  split at h<;>first | rfl | (cases h;done) | (rename_i y;cases y;rfl)
def Gk:aA:=ca tq (.cons (.cols [.cb,.cns .u64,.ci .i64]) (.cons (.cols [.cb,.cns .u64,.ci .i64]) .nil)) fun t=>(fun q=>[⟨yD (.r0 (kC q) (kD q) (kE q) (kF q) (kG q) (kH q)),[lZ q]⟩]) (bS t.1.2.1 t.1.2.2.1 t.1.2.2.2.1 t.1.2.2.2.2.1 t.2.1.2.1 t.2.1.2.2.1 t.2.1.2.2.2.1 t.2.1.2.2.2.2.1)
theorem IG:aL prog Gk:=aP fun t=>(aQ (fun h=>QQ t.1.1 t.1.2.1 t.1.2.2.1 t.1.2.2.2.1 t.1.2.2.2.2.1 t.2.1.1 t.2.1.2.1 t.2.1.2.2.1 t.2.1.2.2.2.1 t.2.1.2.2.2.2.1 (QR h)) aZ)
def Gl:List aA:=Gk::AD
theorem sq:aO prog (aK Gl):=ap IG gl
inductive bW where
  | r0 (a:Nat) (b:Bool) (c:List Int) (d:Nat) (e:Nat) (f:Int)
def vX:bW→AE×aC
  | .r0 a b c d e f=>(.ret,⟨aj 9 [(2,.ptr 0 1 0 0),(3,.int .i64 ((a:Nat):Int))],[(0,.vs [.bool false b,.imm .free (.ns .u64 c) 1 1 d e,.int .i64 f])],1⟩)
theorem Dm:jU vX:=by intro x;cases x<;>(intro h;cases h)
def qU:bW→fZ
  | .r0 a b c d e f=>⟨.tup [.agg [.bool false b,.imm .free (.ns .u64 c) 1 1 d e,.int .i64 f],.int .i64 ((a:Nat):Int)],[]⟩
def Dn:Nat×Bool×(List Int)×Nat×Nat×Int→aC:=fun (a,b,c,d,e,f)=>⟨aj 9 [(2,.ptr 0 1 0 0),(3,.int .i64 ((a:Nat):Int))],[(0,.vs [.bool false b,.imm .free (.ns .u64 c) 1 1 d e,.int .i64 f])],1⟩
def Do(a:Nat)(b:List Bool)(c:List (List Int))(d:List Int) :T ((Nat×Bool×(List Int)×Nat×Nat×Int)⊕(bW)) :=
  .need (Nat.ble (0+a) a)<|.need (Nat.ble (0+a) a)<|.need (lZ (bS a (aa 0 a b) (aa 0 a c) (aa 0 a d) a (aa 0 a b) (aa 0 a c) (aa 0 a d)))<|.leaf (.inl ((kC (bS a (aa 0 a b) (aa 0 a c) (aa 0 a d) a (aa 0 a b) (aa 0 a c) (aa 0 a d))),(kD (bS a (aa 0 a b) (aa 0 a c) (aa 0 a d) a (aa 0 a b) (aa 0 a c) (aa 0 a d))),(kE (bS a (aa 0 a b) (aa 0 a c) (aa 0 a d) a (aa 0 a b) (aa 0 a c) (aa 0 a d))),(kF (bS a (aa 0 a b) (aa 0 a c) (aa 0 a d) a (aa 0 a b) (aa 0 a c) (aa 0 a d))),(kG (bS a (aa 0 a b) (aa 0 a c) (aa 0 a d) a (aa 0 a b) (aa 0 a c) (aa 0 a d))),(kH (bS a (aa 0 a b) (aa 0 a c) (aa 0 a d) a (aa 0 a b) (aa 0 a c) (aa 0 a d)))))
def Dp(a:Nat)(b:Bool)(c:List Int)(d:Nat)(e:Nat)(f:Int) :T ((Empty)⊕(bW)) :=
  .leaf (.inr (.r0 a b c d e f))
def aX(a:Nat)(b:List Bool)(c:List (List Int))(d:List Int) :Option bW:=mC (aN ((Do a b c d).run) fun (e,f,g,h,i,j) =>
  (Dp e f g h i j).run)
theorem Dq(e:Lv)(a:Nat)(b:List Bool)(c:List (List Int))(d:List Int){x:bW}(h:aX a b c d=some x) :af prog qH [] [.imm e (.cols a [.cb b,.cns .u64 c,.ci .i64 d]) 3 3 0 a] (qU x) :=
  nB true qU vX h (Sg.cut 2 Dm (br sq Dn [⟨[],[0],[2,3]⟩]) (fun ⟨m,n,o,p,q,r⟩=>br sq mX [⟨[],[0],[2,3]⟩]))
    (fun x=>by cases x with | r0 f g i j k l=>exact mc [.agg [.bool false g,.imm .free (.ns .u64 i) 1 1 j k,.int .i64 l],.int .i64 ((f:Nat):Int)])
def gn:Option bW→Bool
  | some _=>true
  | none=>false
def gz:Option bW→Nat
  | some (.r0 x _ _ _ _ _)=>x
  | _=>0
def gA:Option bW→Bool
  | some (.r0 _ x _ _ _ _)=>x
  | _=>false
def gB:Option bW→List Int
  | some (.r0 _ _ x _ _ _)=>x
  | _=>[]
def gC:Option bW→Nat
  | some (.r0 _ _ _ x _ _)=>x
  | _=>0
def gD:Option bW→Nat
  | some (.r0 _ _ _ _ x _)=>x
  | _=>0
def gE:Option bW→Int
  | some (.r0 _ _ _ _ _ x)=>x
  | _=>0
theorem Dr{x:Option bW}(h:gn x=true) :x=some (.r0 (gz x) (gA x) (gB x) (gC x) (gD x) (gE x)):=by
  unfold gn at h
  split at h<;>first | rfl | (cases h;done) | (rename_i y;cases y;rfl)
def vY:aA:=ca qH (.cons (.cols [.cb,.cns .u64,.ci .i64]) .nil) fun t=>(fun q=>[⟨qU (.r0 (gz q) (gA q) (gB q) (gC q) (gD q) (gE q)),[gn q]⟩]) (aX t.1.2.1 t.1.2.2.1 t.1.2.2.2.1 t.1.2.2.2.2.1)
theorem AG:aL prog vY:=aP fun t=>(aQ (fun h=>Dq t.1.1 t.1.2.1 t.1.2.2.1 t.1.2.2.2.1 t.1.2.2.2.2.1 (Dr h)) aZ)
def vZ:List aA:=vY::Gl
theorem jh:aO prog (aK vZ):=ap AG sq
end
end Go.Plb.Seat
