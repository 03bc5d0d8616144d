/-
  Part 3 of what the claim leans on: an evaluator of the model, proved sound; the contracts of the functions.
-/
import Derived.Test.YtcfhbjfbfmlkiaaGreatDoorA2
namespace Go.Plb
noncomputable section
set_option linter.unusedSimpArgs false
set_option linter.unusedVariables false
set_option linter.unusedSectionVars false
variable [Rom]
inductive T (α:Type) where
  | fail
  | leaf (a:α)
  | ask (b:Bool) (t f:T α)
  | need (b:Bool) (t:T α)
  | alt (k:Nat) (t e:T α)
def T.run{α:Type} :T α→Option α
  | .fail=>none
  | .leaf a=>some a
  | .ask b t f=>bif b then t.run else f.run
  | .need b t=>bif b then t.run else none
  | .alt _ t e=>match t.run with
    | some a=>some a
    | none=>e.run
structure wS (α:Type) where
  path:List Nat
  obs:List Bool
  val:α
def wS.ask{α:Type}(n:Nat)(b:Bool)(l:wS α) :wS α:=⟨n::l.path,b::l.obs,l.val⟩
def wS.need{α:Type}(b:Bool)(l:wS α) :wS α:=⟨l.path,b::l.obs,l.val⟩
def wS.alt{α:Type}(n:Nat)(l:wS α) :wS α:=⟨n::l.path,l.obs,l.val⟩
def T.leaves{α:Type} :T α→List (wS α)
  | .fail=>[]
  | .leaf a=>[⟨[],[],a⟩]
  | .ask b t f=>t.leaves.map (wS.ask 1 (b==true))++f.leaves.map (wS.ask 0 (b==false))
  | .need b t=>t.leaves.map (wS.need b)
  | .alt k t e=>t.leaves.map (wS.alt k)++e.leaves
theorem nG{α:Type} :∀ (t:T α) {a:α},t.run=some a→∃ l∈t.leaves,l.val=a∧aq l.obs
  | .fail,a,h=>by cases h
  | .leaf b,a,h=>by
    simp only [T.run,Option.some.injEq] at h;subst h
    exact ⟨⟨[],[],b⟩,by simp [T.leaves],rfl,trivial⟩
  | .ask b t f,a,h=>by
    simp only [T.run] at h
    cases b with
    | true =>
      simp only [cond_true] at h
      obtain ⟨l,h1,h2,h3⟩:=nG t h
      exact ⟨l.ask 1 (true==true),by simp only [T.leaves,List.mem_append];exact .inl (List.mem_map_of_mem h1),h2,⟨rfl,h3⟩⟩
    | false =>
      simp only [cond_false] at h
      obtain ⟨l,h1,h2,h3⟩:=nG f h
      exact ⟨l.ask 0 (false==false),by simp only [T.leaves,List.mem_append];exact .inr (List.mem_map_of_mem h1),h2,⟨rfl,h3⟩⟩
  | .need b t,a,h=>by
    simp only [T.run] at h
    cases b with
    | true =>
      simp only [cond_true] at h
      obtain ⟨l,h1,h2,h3⟩:=nG t h
      exact ⟨l.need true,by simp only [T.leaves];exact List.mem_map_of_mem h1,h2,⟨rfl,h3⟩⟩
    | false=>cases h
  | .alt k t e,a,h=>by
    simp only [T.run] at h
    split at h
    · rename_i a' ht
      cases h
      obtain ⟨l,h1,h2,h3⟩:=nG t ht
      exact ⟨l.alt k,by simp only [T.leaves,List.mem_append];exact .inl (List.mem_map_of_mem h1),h2,h3⟩
    · obtain ⟨l,h1,h2,h3⟩:=nG e h
      exact ⟨l,by simp only [T.leaves,List.mem_append];exact .inr h1,h2,h3⟩
def vF{α X:Type}(N:α→aC)(E:X→AE×aC) :α⊕X→AE×aC
  | .inl a=>(.normal,N a)
  | .inr x=>E x
def Sg{α X:Type}(P:Program)(lent:List ax)(cs:List Code)(st:aC)(m:Option (α⊕X))(N:α→aC)(E:X→AE×aC) :Prop :=
  ∀ r,m=some r→gd P lent cs st fun e st'=>(e,st')=vF N E r
def Wb{α X:Type}(C:sw)(S:vp)(n:Nat)(cs:List Code)(st:aC)(ls:List (wS (α⊕X)))(ks:List NS)(k:Nat) :List (Bool×Option (AE×aC×List Bool)) :=
  List.zipWith (fun l s=>(s.ok k,V2 s (UT (fY C S 12 n) cs st (some l.path)))) ls ks
def TZ{α X:Type}(N:α→aC)(E:X→AE×aC)(ls:List (wS (α⊕X))) :List (Bool×Option (AE×aC×List Bool)) :=
  ls.map fun l=>(true,some ((vF N E l.val).1,(vF N E l.val).2,l.obs))
theorem T1{α β γ:Type}{f:α→β→γ}{g:α→γ} :∀ {l:List α} {k:List β},List.zipWith f l k=l.map g→∀ a∈l,∃ b,f a b=g a
  | [],_,_,a,ha=>by cases ha
  | x::l,[],h,a,ha=>by simp at h
  | x::l,y::k,h,a,ha=>by
    simp only [List.zipWith_cons_cons,List.map_cons,List.cons.injEq] at h
    rcases List.mem_cons.1 ha with rfl | ha
    · exact ⟨y,h.1⟩
    · exact T1 h.2 a ha
theorem Sg.seg{C:sw}(hC:C.Ok){S:vp}(hS:aG C.P S){lent:List ax}{α X:Type}(n:Nat)(cs:List Code)(st:aC)(t:T (α⊕X))(N:α→aC)(E:X→AE×aC)(ks:List NS) 
    (h:Wb C S n cs st t.leaves ks lent.length=TZ N E t.leaves):Sg C.P lent cs st t.run N E:=by
  intro r hr
  obtain ⟨l,h1,h2,h3⟩:=nG t hr
  obtain ⟨k,hk⟩:=T1 h l h1
  simp only [Prod.mk.injEq] at hk
  obtain ⟨hn,he⟩:=hk
  have:=gd.seg hC hS (lent:=lent) (Q:=fun e st'=>(e,st')=vF N E r) cs.length (some l.path) k (cs:=cs) (st:=st) (by rw [List.take_length];exact he) hn h3
  refine this ?_
  rw [h2,List.drop_length]
  generalize hg:vF N E r=x
  obtain ⟨e,s⟩:=x
  cases e with
  | normal=>exact gd.nil rfl
  | ret=>rfl
  | exit id=>rfl
theorem gd.append{P:Program}{lent:List ax}{cs1 cs2:List Code}{st:aC}{Q1 Q:AE→aC→Prop}(h:gd P lent cs1 st Q1)(k:∀ e st',Q1 e st'→GX P lent cs2 e st' Q) :gd P lent (cs1++cs2) st Q:=by
  intro ρ0 w0 hN K hK a w hA
  apply xS
  refine h ρ0 w0 hN _ ?_ a w hA
  intro e st' a' w' q hA'
  have:=k e st' q
  cases e with
  | normal=>exact this ρ0 w0 hN K hK a' w' hA'
  | ret=>exact hK _ _ _ _ this hA'
  | exit id=>exact hK _ _ _ _ this hA'
def jU{X:Type}(E:X→AE×aC) :Prop:=∀ x,(E x).1 ≠ .normal
theorem T3{P:Program}{lent:List ax}{cs:List Code}{e:AE}{st:aC}{Q:AE→aC→Prop}(hn:e ≠ .normal)(h:Q e st) :GX P lent cs e st Q:=by
  cases e with
  | normal=>exact (hn rfl).elim
  | ret=>exact h
  | exit id=>exact h
def aO{α β X:Type}(m:Option (α⊕X))(k:α→Option (β⊕X)) :Option (β⊕X) :=
  match m with
  | none=>none
  | some (.inl a)=>k a
  | some (.inr x)=>some (.inr x)
theorem Sg.seq{P:Program}{lent:List ax}{α β X:Type}{cs1 cs2:List Code}{st:aC}{m:Option (α⊕X)}{N1:α→aC}{E:X→AE×aC}{k:α→Option (β⊕X)}{N:β→aC}(hE:jU E) 
    (h:Sg P lent cs1 st m N1 E) (hk:∀ a,Sg P lent cs2 (N1 a) (k a) N E):Sg P lent (cs1++cs2) st (aO m k) N E:=by
  intro r hr
  unfold aO at hr
  split at hr
  · cases hr
  · rename_i a
    refine gd.append (h _ rfl) ?_
    intro e st' q
    simp only [vF,Prod.mk.injEq] at q
    obtain ⟨rfl,rfl⟩:=q
    exact hk a r hr
  · rename_i x
    simp only [Option.some.injEq] at hr;subst hr
    refine gd.append (h _ rfl) ?_
    intro e st' q
    simp only [vF] at q
    refine T3 ?_ q
    have:=hE x
    rw [←q] at this;exact this
def uL{σ Y:Type}(B:σ→Option (σ⊕Y)) :Nat→σ→Option Y
  | 0,_=>none
  | n+1,s=>match B s with
    | none=>none
    | some (.inl s')=>uL B n s'
    | some (.inr y)=>some y
theorem qI{σ Y:Type}{B:σ→Option (σ⊕Y)} :∀ (n:Nat) {s:σ} {y:Y},uL B n s=some y→∀ m,n≤m→uL B m s=some y
  | 0,s,y,h,_,_=>by cases h
  | n+1,s,y,h,m,hm=>by
    obtain ⟨m',rfl⟩:∃ m',m=m'+1:=⟨m-1,by omega⟩
    simp only [uL] at h ⊢
    split at h
    · cases h
    · exact qI n h m' (by omega)
    · exact h
open Classical in
noncomputable def Wc {σ Y : Type} (B : σ → Option (σ ⊕ Y)) (s : σ) : Option Y :=
  if h : ∃ n y, uL B n s = some y then some h.choose_spec.choose else none
theorem UW{σ Y:Type}{B:σ→Option (σ⊕Y)}{s:σ}{y:Y} :Wc B s=some y↔∃ n,uL B n s=some y:=by
  unfold Wc
  constructor
  · intro h
    split at h
    · rename_i q
      simp only [Option.some.injEq] at h
      exact ⟨q.choose,by rw [←h];exact q.choose_spec.choose_spec⟩
    · cases h
  · rintro ⟨n,h⟩
    rw [dif_pos ⟨n,y,h⟩]
    generalize hq:(⟨n,y,h⟩:∃ n y,uL B n s=some y)=q
    have h1:=q.choose_spec.choose_spec
    have a1:=qI n h (max n q.choose) (by omega)
    have a2:=qI _ h1 (max n q.choose) (by omega)
    rw [a1] at a2
    exact a2.symm
noncomputable def gR{σ Y:Type}(B:σ→Option (σ⊕Y))(s:σ) :Option Y :=
  match uL B 1000000000000 s with
  | some y=>some y
  | none=>Wc B s
theorem UX{σ Y:Type}{B:σ→Option (σ⊕Y)}{s:σ}{y:Y} :gR B s=some y↔∃ n,uL B n s=some y:=by
  unfold gR
  generalize 1000000000000=k
  cases h:uL B k s with
  | none=>exact UW
  | some z =>
    constructor
    · intro e;cases e;exact ⟨k,h⟩
    · rintro ⟨n,hn⟩
      have a1:=qI n hn (max n k) (by omega)
      have a2:=qI _ h (max n k) (by omega)
      rw [a1] at a2
      exact a2.symm
def dR{ρ X:Type}(id:Nat)(J:ρ→aC)(E:X→AE×aC) :ρ⊕X→AE×aC
  | .inl r=>(.exit id,J r)
  | .inr x=>E x
def oT{X:Type}(id:Nat)(E:X→AE×aC) :Prop:=∀ x,(E x).1 ≠ .exit id
theorem Sg.loop{P:Program}{lent:List ax}{σ ρ X:Type}{I:σ→aC}{J:ρ→aC}{E:X→AE×aC}{B:σ→Option (σ⊕(ρ⊕X))}{id:Nat}{b:Code}(hE:jU E)(hI:oT id E) 
    (hb:∀ s,Sg P lent (dd b) (I s) (B s) I (dR id J E)) (s:σ):Sg P lent [.block id (.loop b)] (I s) (gR B s) J E:=by
  intro y hy
  obtain ⟨n,hn⟩:=UX.1 hy

  have:=gd.loop (P:=P) (lent:=lent) (id:=id) (b:=b) (rest:=[]) (Q:=fun e st'=>(e,st')=vF J E y) (σ:=Nat×σ) (fun s=>I s.2) (fun s=>uL B s.1 s.2=some y) (fun s=>s.1) rfl (fun s hs=>?_) (n,s) hn
  · exact this
  · obtain ⟨n,s⟩:=s
    simp only at hs ⊢
    cases n with
    | zero=>cases hs
    | succ n =>
      simp only [uL] at hs
      split at hs
      · cases hs
      · rename_i s' hB
        refine (hb s _ hB).mono ?_
        intro e st' q
        simp only [vF,Prod.mk.injEq] at q
        obtain ⟨rfl,rfl⟩:=q
        exact ⟨(n,s'),hs,by simp,rfl⟩
      · rename_i y' hB
        simp only [Option.some.injEq] at hs;subst hs
        refine (hb s _ hB).mono ?_
        intro e st' q
        cases y' with
        | inl r =>
          simp only [vF,dR,Prod.mk.injEq] at q
          obtain ⟨rfl,rfl⟩:=q
          simp only [zx,if_true]
          exact gd.nil rfl
        | inr x =>
          simp only [vF,dR] at q
          have h1:=hE x
          have h2:=hI x
          rw [←q] at h1 h2
          simp only at h1 h2
          cases e with
          | normal=>exact (h1 rfl).elim
          | ret=>exact q
          | exit j =>
            have hj : ¬ j=id:=fun h=>h2 (by rw [h])
            simp only [zx,hj,if_false]
            exact q
def E7{κ X:Type}(m:Option (κ⊕(κ⊕X))) :Option (κ⊕X) :=
  match m with
  | none=>none
  | some (.inl a)=>some (.inl a)
  | some (.inr (.inl a))=>some (.inl a)
  | some (.inr (.inr x))=>some (.inr x)
theorem Sg.block{P:Program}{lent:List ax}{κ X:Type}{K:κ→aC}{E:X→AE×aC}{m:Option (κ⊕(κ⊕X))}{id:Nat}{b:Code}{st:aC}(hE:jU E)(hI:oT id E) 
    (hb:Sg P lent (dd b) st m K (dR id K E)):Sg P lent [.block id b] st (E7 m) K E:=by
  intro r hr
  unfold E7 at hr
  refine gd.block (rest:=[]) rfl ?_
  split at hr
  · cases hr
  · simp only [Option.some.injEq] at hr;subst hr
    refine (hb _ rfl).mono ?_
    intro e st' q
    simp only [vF,Prod.mk.injEq] at q
    obtain ⟨rfl,rfl⟩:=q
    exact gd.nil rfl
  · simp only [Option.some.injEq] at hr;subst hr
    refine (hb _ rfl).mono ?_
    intro e st' q
    simp only [vF,dR,Prod.mk.injEq] at q
    obtain ⟨rfl,rfl⟩:=q
    simp only [if_true]
    exact gd.nil rfl
  · rename_i x
    simp only [Option.some.injEq] at hr;subst hr
    refine (hb _ rfl).mono ?_
    intro e st' q
    simp only [vF,dR] at q
    have h1:=hE x
    have h2:=hI x
    rw [←q] at h1 h2
    simp only at h1 h2
    cases e with
    | normal=>exact (h1 rfl).elim
    | ret=>exact q
    | exit j =>
      have hj : ¬ j=id:=fun h=>h2 (by rw [h])
      simp only [hj,if_false]
      exact q
theorem Sg.scope{P:Program}{lent:List ax}{α X:Type}{N:α→aC}{E:X→AE×aC}{m:Option (α⊕X)}{b:Code}{st:aC}(hE:jU E)(hb:Sg P lent (dd b) st m N E) :Sg P lent [.scope b] st m N E:=by
  intro r hr
  refine gd.scope (rest:=[]) rfl ((hb r hr).mono ?_)
  intro e st' q
  cases r with
  | inl a =>
    simp only [vF,Prod.mk.injEq] at q
    obtain ⟨rfl,rfl⟩:=q
    exact gd.nil rfl
  | inr x =>
    refine T3 ?_ q
    have:=hE x
    simp only [vF] at q
    rw [←q] at this;exact this
theorem Oi{k:Nat}{ρ0:ae}{w0:World}{st:aC}{a:Act}{w:World}{c:Operand}{b kn:Bool}(h:At k ρ0 w0 st a w)(hc:Vr st.tmps c=.bool kn b) :At k ρ0 w0 { st with tmps:=qD st.tmps c b } a w∧a.eval c=.bool b:=by
  obtain ⟨ρ,E,W,hs,hbk,hle⟩:=h
  have hb:a.eval c=.bool b:=by
    have:=uY hs.heap.rom hs.tmps c
    rw [hc] at this
    generalize a.eval c=z at this
    cases this;rfl
  refine ⟨⟨ρ,E,W,⟨hs.defers,?_,hs.heap⟩,hbk,hle⟩,hb⟩
  cases c with
  | tmp t =>
    simp only [qD,wi]
    have:cd ρ w (st.tmps.set t (.bool true b)) (a.tmps.toList.set t (.bool b)):=hs.tmps.set (.bool _ _) t
    have e:a.tmps.toList.set t (.bool b)=a.tmps.toList:=by
      apply List.ext_getElem?
      intro j
      rw [List.getElem?_set]
      split
      · rename_i q;subst q
        split
        · rename_i hlt
          simp only [Act.eval] at hb
          rw [Array.getD_eq_getD_getElem?] at hb
          have hlt':t<a.tmps.size:=by simpa using hlt
          rw [Array.getElem?_eq_getElem hlt'] at hb
          simp only [Option.getD_some] at hb
          simp [hlt',hb]
        · rename_i hge
          rw [List.getElem?_eq_none (by omega)]
      · rfl
    rw [e] at this;exact this
  | const v=>exact hs.tmps
  | global g=>exact hs.tmps
  | func f=>exact hs.tmps
theorem Sg.cond{P:Program}{lent:List ax}{α X:Type}{N:α→aC}{E:X→AE×aC}{m1 m2:Option (α⊕X)}{c:Operand}{A B:Code}{st:aC}{kn b:Bool}(hE:jU E)(hc:Vr st.tmps c=.bool kn b) 
    (h1:Sg P lent (dd A) { st with tmps:=qD st.tmps c true } m1 N E) (h2:Sg P lent (dd B) { st with tmps:=qD st.tmps c false } m2 N E):Sg P lent [.cond c A B] st (bif b then m1 else m2) N E:=by
  intro r hr
  intro ρ0 w0 hN K hK a w hA
  simp only [GC]
  obtain ⟨hA',hb⟩:=Oi hA hc
  refine wp_cond hb ?_
  have fin:∀ (D:Code) (m:Option (α⊕X)) (st1:aC),Sg P lent (dd D) st1 m N E→m=some r→At lent.length ρ0 w0 st1 a w→D.wp P (fun e a' w'=>match e with | .normal=>K .normal a' w' | e=>K e a' w') a w:=by
    intro D m st1 hS hm hA1
    refine te D (hS r hm ρ0 w0 hN _ ?_ a w hA1)
    intro e st' a' w' q hA2
    cases e with
    | normal=>exact hK .normal st' a' w' q hA2
    | ret=>exact hK .ret st' a' w' q hA2
    | exit id=>exact hK (.exit id) st' a' w' q hA2
  cases b with
  | true=>exact fin A m1 _ h1 hr hA'
  | false=>exact fin B m2 _ h2 hr hA'
theorem Sg.pre{P:Program}{lent:List ax}{α X:Type}{N:α→aC}{E:X→AE×aC}{m:Option (α⊕X)}{cs:List Code}{st st1:aC}(s:NS)(hn:s.ok lent.length=true)(h1:s.on st=st1)(h:Sg P lent cs st1 m N E) :Sg P lent cs st m N E :=
  fun r hr=>gd.weak (by rw [←h1];exact V1 hn st) (h r hr)
def mz{X:Type} :Option (Empty⊕X)→Option X
  | some (.inr x)=>some x
  | _=>none
theorem Sg.contract{P:Program}{f:FuncId}{fn:Func}{c:Code}{X:Type}{N:Empty→aC}{E:X→AE×aC}{m:Option (Empty⊕X)}{lent:List ax}{args:List AV}(keep:Bool)(o:X→fZ)(hf:P.funcs[f]? = some fn)(hc:fn.body=some c) 
    (h:Sg P lent (dd c) (oj fn lent args) m N E) (hE:∀ x,TW P fn lent.length keep (o x) (E x).1 (E x).2) {x:X} (hx:mz m=some x):af P f lent args (o x):=by
  unfold mz at hx
  split at hx
  · rename_i x'
    simp only [Option.some.injEq] at hx;subst hx
    refine gd.contract (keep:=keep) hf hc ((h _ rfl).mono ?_)
    intro e st' q
    simp only [vF] at q
    have:=hE x'
    rw [←q] at this;exact this
  · cases hx
end
end Go.Plb
namespace Go.Plb
set_option linter.unusedSectionVars false
variable [Rom]
theorem bb{ρ X:Type}{id:Nat}{J:ρ→aC}{E:X→AE×aC}(h:jU E) :jU (dR id J E):=by
  intro x
  cases x with
  | inl r=>intro q;cases q
  | inr x=>exact h x
theorem jG{ρ X:Type}{id j:Nat}{J:ρ→aC}{E:X→AE×aC}(hj:(j==id)=false)(h:oT id E) :oT id (dR j J E):=by
  intro x
  cases x with
  | inl r =>
    intro q
    simp only [dR,AE.exit.injEq] at q
    subst q
    simp at hj
  | inr x=>exact h x
def fy:Code→Code
  | .block _ (.loop b)=>b
  | _=>.skip
def inBlock:Code→Code
  | .block _ b=>b
  | _=>.skip
def wF:Code→Code
  | .scope b=>b
  | _=>.skip
theorem Sg.cut{P:Program}{lent:List ax}{α β X:Type}{cs:List Code}{st:aC}{m:Option (α⊕X)}{N1:α→aC}{E:X→AE×aC}{k:α→Option (β⊕X)}{N:β→aC}(n:Nat)(hE:jU E) 
    (h:Sg P lent (cs.take n) st m N1 E) (hk:∀ a,Sg P lent (cs.drop n) (N1 a) (k a) N E):Sg P lent cs st (aO m k) N E:=by
  have:=Sg.seq hE h hk
  rwa [List.take_append_drop] at this
theorem UY{P:Program}{lent:List ax}{σ ρ X:Type}{I:σ→aC}{J:ρ→aC}{E:X→AE×aC}{B:σ→Option (σ⊕(ρ⊕X))}{id:Nat}{b:Code}{cs:List Code}(hcs:cs=[.block id (.loop b)])(hE:jU E)(hI:oT id E) 
    (hb:∀ s,Sg P lent (dd b) (I s) (B s) I (dR id J E)) (s:σ):Sg P lent cs (I s) (gR B s) J E:=by rw [hcs];exact Sg.loop hE hI hb s
theorem RH{P:Program}{lent:List ax}{κ X:Type}{K:κ→aC}{E:X→AE×aC}{m:Option (κ⊕(κ⊕X))}{id:Nat}{b:Code}{st:aC}{cs:List Code}(hcs:cs=[.block id b])(hE:jU E)(hI:oT id E) 
    (hb:Sg P lent (dd b) st m K (dR id K E)):Sg P lent cs st (E7 m) K E:=by rw [hcs];exact Sg.block hE hI hb
theorem ye{P:Program}{lent:List ax}{α X:Type}{N:α→aC}{E:X→AE×aC}{m:Option (α⊕X)}{b:Code}{st:aC}{cs:List Code}(hcs:cs=[.scope b])(hE:jU E)(hb:Sg P lent (dd b) st m N E) :Sg P lent cs st m N E:=by
  rw [hcs];exact Sg.scope hE hb
end Go.Plb
namespace Go.Plb.Seat
open Go Go.Plb
set_option linter.unusedSimpArgs false
set_option linter.unusedVariables false
noncomputable abbrev E0:vp:=aD []
theorem uM:aG prog E0:=ET prog
theorem Wd(y:Nat) :af prog ti [] [.flt true y] ⟨.flt true (rY y),[]⟩:=by
  have h:nu C0 E0 (fY C0 E0 0 50) ti [] [.flt true y] (some [])=some (⟨.flt true (dM .andNot .u64 (y:Int) 9223372036854775808).toNat,[]⟩,[],some []):=by kernel_rfl
  have:=af.run fI uM _ _ _ h trivial
  rw [V4,Int.toNat_natCast] at this;exact this
theorem Yo(ex:Bool)(x:Nat) :af prog ti [] [.flt ex x] ⟨.flt ex (rY x),[]⟩:=by
  cases ex with
  | true=>exact Wd x
  | false=>exact uJ (r:=fun y=>.flt true (rY y)) Wd (fun y hf ρ w u h=>h.flt_weak (V5 hf))
theorem T4(y:Nat) :af prog rp [] [.flt true y] ⟨.flt true (rY y),[]⟩:=by
  have h:nu C0 E0 (fY C0 E0 0 50) rp [] [.flt true y] (some [])=some (⟨.flt true ((IntKind.u64.wrap ((y:Int)*2^min (Int.toNat 1) IntKind.u64.bits)).fdiv (2^min (Int.toNat 1) IntKind.u64.bits)).toNat,[]⟩,[true,true],some []):=by kernel_rfl
  have:=af.run fI uM _ _ _ h ⟨rfl,rfl,trivial⟩
  rw [TX,Int.toNat_natCast] at this;exact this
theorem X2(ex:Bool)(x:Nat) :af prog rp [] [.flt ex x] ⟨.flt ex (rY x),[]⟩:=by
  cases ex with
  | true=>exact T4 x
  | false=>exact uJ (r:=fun y=>.flt true (rY y)) T4 (fun y hf ρ w u h=>h.flt_weak (V5 hf))
theorem Co(x y:Nat) :af prog ld [] [.flt true x,.flt true y] ⟨.flt true (nw x y),[]⟩:=by
  have h:nu C0 E0 (fY C0 E0 0 50) ld [] [.flt true x,.flt true y] (some [])=some (⟨.flt true (dM .or .u64 (dM .andNot .u64 (x:Int) 9223372036854775808) (dM .and .u64 (y:Int) 9223372036854775808)).toNat,[]⟩,[],some []):=by kernel_rfl
  have:=af.run fI uM _ _ _ h trivial
  rw [V4,XZ,Xv,Int.toNat_natCast] at this;exact this
theorem RI(e1 e2:Bool)(x y:Nat)(hn:isNaN y=true→isNaN x=true) :af prog ld [] [.flt e1 x,.flt e2 y] ⟨.flt false (nw x y),[]⟩ :=
  uK (r:=fun x y=>.flt true (nw x y)) Co (fun x' y' h1 h2 ρ w u h=>h.flt_weak (FR.copy h1 h2 hn))
theorem Oj(x y:Nat) :af prog pS [] [.flt true x,.flt true y] ⟨.flt true (nw x y),[]⟩:=by
  have h:nu C0 E0 (fY C0 E0 0 50) pS [] [.flt true x,.flt true y] (some [])=some (⟨.flt true (dM .or .u64
      ((IntKind.u64.wrap ((x:Int)*2^min (Int.toNat 1) IntKind.u64.bits)).fdiv (2^min (Int.toNat 1) IntKind.u64.bits))
      (IntKind.u64.wrap ((y:Int).fdiv (2^min (Int.toNat 63) IntKind.u64.bits)*2^min (Int.toNat 63) IntKind.u64.bits))).toNat,[]⟩,[true,true,true,true],some []):=by kernel_rfl
  have:=af.run fI uM _ _ _ h ⟨rfl,rfl,rfl,rfl,trivial⟩
  rw [TX,Xh,Xv,Int.toNat_natCast] at this;exact this
theorem Xm(e1 e2:Bool)(x y:Nat)(hn:isNaN y=true→isNaN x=true) :af prog pS [] [.flt e1 x,.flt e2 y] ⟨.flt false (nw x y),[]⟩ :=
  uK (r:=fun x y=>.flt true (nw x y)) Oj (fun x' y' h1 h2 ρ w u h=>h.flt_weak (FR.copy h1 h2 hn))
def Lc(L:List ax)(args:List AV) :Option (List oS) :=
  match L,args with
  | [],[.flt e1 x,.flt e2 y]=>bif e1&&e2 then one (.flt true (nw x y)) [] else one (.flt false (nw x y)) [!isNaN y||isNaN x]
  | _,_=>none
def We:aw:=⟨ti,fun L args=>match L,args with | [],[.flt e x]=>one (.flt e (rY x)) [] | _,_=>none⟩
def RJ:aw:=⟨rp,fun L args=>match L,args with | [],[.flt e x]=>one (.flt e (rY x)) [] | _,_=>none⟩
def E8:aw:=⟨ld,Lc⟩
def T5:aw:=⟨pS,Lc⟩
theorem Wf:aM prog We:=by
  intro L args alts a h ha ho
  simp only [We] at h
  split at h
  · exact qo h ha ho fun _=>Yo _ _
  · cases h
theorem UZ:aM prog RJ:=by
  intro L args alts a h ha ho
  simp only [RJ] at h
  split at h
  · exact qo h ha ho fun _=>X2 _ _
  · cases h
theorem X3{x y:Nat}(h:aq [!isNaN y||isNaN x]) :isNaN y=true→isNaN x=true:=by
  intro hy;have:=h.1;rw [hy] at this;simpa using this
theorem T6{f:FuncId}(hT:∀ x y,af prog f [] [.flt true x,.flt true y] ⟨.flt true (nw x y),[]⟩) 
    (hF:∀ e1 e2 x y,(isNaN y=true→isNaN x=true)→af prog f [] [.flt e1 x,.flt e2 y] ⟨.flt false (nw x y),[]⟩):aM prog ⟨f,Lc⟩:=by
  intro L args alts a h ha ho
  simp only [Lc] at h
  split at h
  · rename_i e1 x e2 y
    cases e1<;>cases e2<;>first | exact qo h ha ho fun q=>hF _ _ _ _ (X3 q) | exact qo h ha ho fun q=>hT _ _
  · cases h
theorem Hc:aM prog E8:=T6 Co RI
theorem RK:aM prog T5:=T6 Oj Xm
def L1:List aw:=[We,RJ,E8,T5]
def S1:vp:=aD L1
theorem Yp:aG prog S1:=ap Wf (ap UZ (ap Hc (ap RK (ET _))))
end Go.Plb.Seat
namespace Go.Plb
noncomputable section
set_option linter.unusedSimpArgs false
set_option linter.unusedVariables false
set_option linter.unusedSectionVars false
variable [Rom]
def aa{α:Type}(o n:Nat)(l:List α) :List α:=(mh o l).take n
theorem T7{α:Type}(o n:Nat)(l:List α) :aa o n l=(l.drop o).take n:=by
  unfold aa mh;cases o<;>rfl
theorem ko{α:Type}{o n:Nat}{l:List α}(h:o+n≤l.length) :(aa o n l).length=n:=by rw [T7];simp;omega
theorem Wg{α:Type}{o n:Nat}{l:List α}{i:Nat}{v:α}(h:(aa o n l)[i]? = some v) :l[o+i]? = some v:=by
  rw [T7,List.getElem?_take] at h
  split at h
  · rw [List.getElem?_drop] at h;exact h
  · cases h
def aI{α:Type}(o n:Nat)(xs:List α) :Bool:=Nat.ble (o+n) xs.length
theorem zM{α:Type}{o n:Nat}{xs:List α} :aI o n xs=true↔o+n≤xs.length:=by unfold aI;rw [Nat.ble_eq]
theorem C1{l:Lv}{d d':ax}{w es o n:Nat}(h:∀ x v,d'.cell? x=some v→d.cell? (o*w+x)=some v)(hr:d.recKept→d'.recKept)(hk:d'.kept=true)(hg:d'.foreign=true) :
    aW (.imm l d w es o n) (.imm l d' w es 0 n):=by
  intro ρ w' u hv
  cases hv with
  | imm _ _ _ _ _ _ cap bl o' u' ha hb hc hv' hl' hr' _ _ =>
    have:=VR.imm (ρ:=ρ) (w:=w') l d' w es 0 n cap bl (o'+o*w) (fun x=>u' (o*w+x)) ha hb
      (fun x v hx=>by rw [Nat.add_assoc];exact hc _ v (h x v hx)) (fun x v hx=>hv' _ v (h x v hx)) hl' (hr hr') (fun _=>hk) hg
    simpa using this
  | immEnd _ _ _ _ _ _ _ hr'=>exact .immEnd _ _ _ _ _ _ _ (hr hr') (fun _=>hk) hg
theorem C2{l:Lv}{d':ax}{w es:Nat}(hr:d'.recKept)(hk:d'.kept=true)(hg:d'.foreign=true) :aW .nsl (.imm l d' w es 0 0):=by
  intro ρ w' u hv;cases hv;exact .immEnd _ _ _ _ _ _ _ hr (fun _=>hk) hg
theorem C3{l:Lv}{d':ax}{w es:Nat}(hr:d'.recKept)(hk:d'.kept=true)(hg:d'.foreign=true) :aW .esl (.imm l d' w es 0 0):=by
  intro ρ w' u hv;cases hv;exact .immEnd _ _ _ _ _ _ _ hr (fun _=>hk) hg
theorem fx.get:∀ {l1 l2:List AV},fx l1 l2→∀ {x:Nat} {v:AV},l2[x]? = some v→∃ v0,l1[x]? = some v0∧aW v0 v
  | _,_,.nil,x,v,h=>by simp at h
  | _,_,.cons a t,0,v,h=>by simp at h;subst h;exact ⟨_,rfl,a⟩
  | _,_,.cons a t,x+1,v,h=>by
    obtain ⟨v0,h1,h2⟩:=fx.get t (by simpa using h)
    exact ⟨v0,by simpa using h1,h2⟩
theorem E9{lv:Lv}{l1 l2:List AV}{k i j:Nat}(h:fx l1 l2)(hk:cT l1=true→cT l2=true)(hg:bi l1=true→bi l2=true) :aW (.iptr lv (.vs l1) k i j) (.iptr lv (.vs l2) k i j):=by
  intro ρ w u hv
  cases hv with | iptr _ _ _ _ _ bl o u' ha hb hc hv' hr hk' hg' =>
  refine .iptr _ _ _ _ _ bl o u' ha hb (fun x v hx=>?_) (fun x v hx=>?_) trivial (fun q=>hk (hk' q)) (hg hg')
  · obtain ⟨v0,h1,h2⟩:=h.get hx
    exact hc x v0 h1
  · obtain ⟨v0,h1,h2⟩:=h.get hx
    exact h2 _ _ _ (hv' x v0 h1)
theorem aW.fn{f:Fn}{a b a' b':List AV}(h:fx a a')(k:fx b b') :aW (.fn f a b) (.fn f a' b'):=by
  intro ρ w u hv
  cases hv with | fn _ _ _ c1 c2 h1 h2=>exact .fn _ _ _ _ _ (h.vrs h1) (k.vrs h2)
theorem aW.iface{t:TypeId}{a b:AV}(h:aW a b) :aW (.iface t a) (.iface t b):=by
  intro ρ w u hv
  cases hv with | iface _ _ u h1=>exact .iface _ _ _ (h _ _ _ h1)
theorem aW.any(v:AV) :aW v .any:=fun _ _ u _=>.any u
inductive CK where
  | cf
  | ci (k:IntKind)
  | cb
  | cs
  | cfl
  | cns (k:IntKind)
def CK.Ty:CK→Type
  | .cf=>List Nat
  | .ci _=>List Int
  | .cb=>List Bool
  | .cs=>List ByteArray
  | .cfl=>List (List Nat)
  | .cns _=>List (List Int)
def CK.fit:(k:CK)→(o n:Nat)→fp→Option k.Ty
  | .cf,o,n,.cf xs=>some (aa o n xs)
  | .ci k,o,n,.ci k' xs=>bif bX k k' then some (aa o n xs) else none
  | .cb,o,n,.cb xs=>some (aa o n xs)
  | .cs,o,n,.cs xs=>some (aa o n xs)
  | .cfl,o,n,.cfl xs=>some (aa o n xs)
  | .cns k,o,n,.cns k' xs=>bif bX k k' then some (aa o n xs) else none
  | _,_,_,_=>none
def CK.emp:(k:CK)→k.Ty
  | .cf=>([]:List Nat)
  | .ci _=>([]:List Int)
  | .cb=>([]:List Bool)
  | .cs=>([]:List ByteArray)
  | .cfl=>([]:List (List Nat))
  | .cns _=>([]:List (List Int))
def CK.col:(k:CK)→k.Ty→fp
  | .cf,xs=>.cf xs
  | .ci k,xs=>.ci k xs
  | .cb,xs=>.cb xs
  | .cs,xs=>.cs xs
  | .cfl,xs=>.cfl xs
  | .cns k,xs=>.cns k xs
theorem qp{a b:IntKind} :bX a b=true↔a=b:=by simp [bX]
theorem om{α:Type}{f:α→AV}{o n i:Nat}{xs:List α}{v:AV}(h:((aa o n xs)[i]?).map f=some v) :(xs[o+i]?).map f=some v:=by
  simp only [Option.map_eq_some_iff] at h ⊢
  obtain ⟨y,h1,h2⟩:=h
  exact ⟨y,Wg h1,h2⟩
theorem CK.fit_spec:∀ {k:CK} {o n:Nat} {c:fp} {t:k.Ty},k.fit o n c=some t→(o+n≤c.len→(k.col t).len=n)∧∀ i v,(k.col t).cell? i=some v→c.cell? (o+i)=some v:=by
  intro k o n c t h
  cases k<;>cases c<;>simp only [CK.fit] at h<;>try (cases h;done)
  case cf.cf xs=>cases h;exact ⟨fun q=>ko q,fun i v q=>om q⟩
  case ci.ci k k' xs =>
    cases e:bX k k' with
    | false=>rw [e] at h;cases h
    | true=>rw [e] at h;cases h;cases (qp.1 e);exact ⟨fun q=>ko q,fun i v q=>om q⟩
  case cb.cb xs=>cases h;exact ⟨fun q=>ko q,fun i v q=>om q⟩
  case cs.cs xs=>cases h;exact ⟨fun q=>ko q,fun i v q=>om q⟩
  case cfl.cfl xs=>cases h;exact ⟨fun q=>ko q,fun i v q=>om q⟩
  case cns.cns k k' xs =>
    cases e:bX k k' with
    | false=>rw [e] at h;cases h
    | true=>rw [e] at h;cases h;cases (qp.1 e);exact ⟨fun q=>ko q,fun i v q=>om q⟩
theorem CK.emp_len:∀ (k:CK),(k.col k.emp).len=0:=by intro k;cases k<;>rfl
def CKs.Ty:List CK→Type
  | []=>Unit
  | k::l=>k.Ty×CKs.Ty l
def CKs.fit:(l:List CK)→(o n:Nat)→List fp→Option (CKs.Ty l)
  | [],_,_,[]=>some ()
  | k::l,o,n,c::cs=>(k.fit o n c).bind fun t=>(CKs.fit l o n cs).map fun r=>(t,r)
  | _,_,_,_=>none
def CKs.emp:(l:List CK)→CKs.Ty l
  | []=>()
  | k::l=>(k.emp,CKs.emp l)
def CKs.cols:(l:List CK)→CKs.Ty l→List fp
  | [],_=>[]
  | k::l,t=>k.col t.1::CKs.cols l t.2
theorem CKs.len:∀ {l:List CK} {t:CKs.Ty l},(CKs.cols l t).length=l.length
  | [],t=>rfl
  | k::l,t=>by simp [CKs.cols,CKs.len]
theorem Cp:∀ {l:List CK} {o n:Nat} {cs:List fp} {t:CKs.Ty l},CKs.fit l o n cs=some t→cs.length=l.length
  | [],o,n,[],t,h=>rfl
  | [],o,n,c::cs,t,h=>by simp [CKs.fit] at h
  | k::l,o,n,[],t,h=>by simp [CKs.fit] at h
  | k::l,o,n,c::cs,t,h=>by
    simp only [CKs.fit] at h
    cases e1:k.fit o n c with
    | none=>rw [e1] at h;cases h
    | some a =>
      rw [e1] at h
      cases e2:CKs.fit l o n cs with
      | none=>simp only [Option.bind_some,e2] at h;cases h
      | some b=>simp [Cp e2]
theorem CKs.fit_spec:∀ {l:List CK} {o n:Nat} {cs:List fp} {t:CKs.Ty l},CKs.fit l o n cs=some t→∀ (j:Nat) (c':fp),(CKs.cols l t)[j]? = some c'→∃ c:fp,cs[j]? = some c∧(o+n≤c.len→c'.len=n)∧∀ i v,c'.cell? i=some v→c.cell? (o+i)=some v
  | [],o,n,cs,t,h,j,c',q=>by simp [CKs.cols] at q
  | k::l,o,n,[],t,h,j,c',q=>by simp [CKs.fit] at h
  | k::l,o,n,c::cs,t,h,j,c',q=>by
    simp only [CKs.fit] at h
    cases e1:k.fit o n c with
    | none=>rw [e1] at h;cases h
    | some a =>
      rw [e1] at h
      cases e2:CKs.fit l o n cs with
      | none=>simp only [Option.bind_some,e2] at h;cases h
      | some b =>
        simp only [Option.bind_some,e2] at h
        cases h
        cases j with
        | zero=>simp [CKs.cols] at q;subst q;exact ⟨c,rfl,CK.fit_spec e1⟩
        | succ j=>exact CKs.fit_spec e2 j c' (by simpa [CKs.cols] using q)
theorem CKs.emp_len:∀ (l:List CK),∀ c∈CKs.cols l (CKs.emp l),c.len=0
  | [],c,h=>by cases h
  | k::l,c,h=>by
    simp only [CKs.cols,CKs.emp,List.mem_cons] at h
    rcases h with rfl | h
    · exact CK.emp_len k
    · exact CKs.emp_len l c h
mutual
inductive yO where
  | int (k:IntKind)
  | flt (ex:Bool)
  | bool
  | kbool (b:Bool)
  | str
  | fl
  | ns (k:IntKind)
  | bs
  | ss
  | cols (l:List CK)
  | ivs (ps:mV) (w i j:Nat)
  | fn (f:FuncId) (a b:mV)
  | nfn
  | nptr
  | nsl
  | agg (ps:mV)
  | tup (ps:mV)
  | iface (t:TypeId) (p:yO)
  | niface
  | any
  | lsl (b:Nat)
  | lptr (b w i j:Nat)
inductive mV where
  | nil
  | cons (p:yO) (ps:mV)
end
mutual
def yO.Ty:yO→Type
  | .int _=>Int
  | .flt _=>Nat
  | .bool=>Bool
  | .str=>ByteArray
  | .fl=>Lv×List Nat
  | .ns _=>Lv×List Int
  | .bs=>Lv×List Bool
  | .ss=>Lv×List ByteArray
  | .cols l=>Lv×Nat×CKs.Ty l
  | .ivs ps _ _ _=>Lv×ps.Ty
  | .fn _ a b=>a.Ty×b.Ty
  | .agg ps=>ps.Ty
  | .tup ps=>ps.Ty
  | .iface _ p=>p.Ty
  | .kbool _=>Unit
  | .nfn=>Unit
  | .nptr=>Unit
  | .nsl=>Unit
  | .niface=>Unit
  | .any=>Unit
  | .lsl _=>Nat×Nat×Nat
  | .lptr _ _ _ _=>Unit
def mV.Ty:mV→Type
  | .nil=>Unit
  | .cons p ps=>p.Ty×ps.Ty
end
mutual
def yO.av:(p:yO)→p.Ty→AV
  | .int k,n=>.int k n
  | .flt ex,x=>.flt ex x
  | .bool,b=>.bool false b
  | .str,s=>.str s
  | .fl,t=>.imm t.1 (.fl t.2) 1 1 0 t.2.length
  | .ns k,t=>.imm t.1 (.ns k t.2) 1 1 0 t.2.length
  | .bs,t=>.imm t.1 (.bs t.2) 1 1 0 t.2.length
  | .ss,t=>.imm t.1 (.ss t.2) 1 1 0 t.2.length
  | .cols l,t=>.imm t.1 (.cols t.2.1 (CKs.cols l t.2.2)) l.length l.length 0 t.2.1
  | .ivs ps w i j,t=>.iptr t.1 (.vs (ps.avs t.2)) w i j
  | .fn f a b,t=>.fn (.func f) (a.avs t.1) (b.avs t.2)
  | .agg ps,t=>.agg (ps.avs t)
  | .tup ps,t=>.tup (ps.avs t)
  | .iface y p,t=>.iface y (p.av t)
  | .kbool b,_=>.bool true b
  | .nfn,_=>.nfn
  | .nptr,_=>.nptr
  | .nsl,_=>.nsl
  | .niface,_=>.niface
  | .any,_=>.any
  | .lsl b,t=>.sl b 1 1 t.1 t.2.1 t.2.2
  | .lptr b w i j,_=>.ptr b w i j
def mV.avs:(ps:mV)→ps.Ty→List AV
  | .nil,_=>[]
  | .cons p ps,t=>p.av t.1::ps.avs t.2
end
def RL(a b:Bool) :Bool:=bif a then b else !b
theorem RM{a b:Bool} :RL a b=true↔a=b:=by cases a<;>cases b<;>simp [RL]
def CKs.ok(n:Nat)(m:Nat) :Bool:=Nat.ble n m
def Wh(k:IntKind) :AV→Option (Int×List Bool)
  | .int k' n=>bif bX k k' then some (n,[]) else none
  | _=>none
def Wi(ex:Bool) :AV→Option (Nat×List Bool)
  | .flt ex' x=>bif ex && !ex' then none else some (x,[])
  | _=>none
def T8:AV→Option (Bool×List Bool)
  | .bool kn b=>bif kn then none else some (b,[])
  | _=>none
def Ol(b:Bool) :AV→Option (Unit×List Bool)
  | .bool kn b'=>bif kn&&RL b b' then some ((),[]) else none
  | _=>none
def Wj:AV→Option (ByteArray×List Bool)
  | .str s=>some (s,[])
  | _=>none
def JE{α:Type}(f:ax→Option (List α)) :AV→Option ((Lv×List α)×List Bool)
  | .imm l d w es o n=>(f d).bind fun xs=>bif Nat.beq w 1&&Nat.beq es 1 then some ((l,aa o n xs),[aI o n xs]) else none
  | .nsl=>some ((.free,[]),[])
  | .esl=>some ((.free,[]),[])
  | _=>none
def Wl:ax→Option (List Nat)
  | .fl xs=>some xs
  | _=>none
def Wm(k:IntKind) :ax→Option (List Int)
  | .ns k' xs=>bif bX k k' then some xs else none
  | _=>none
def Wn:ax→Option (List Bool)
  | .bs xs=>some xs
  | _=>none
def Xw:ax→Option (List ByteArray)
  | .ss xs=>some xs
  | _=>none
def Xx:ax→Option (List AV)
  | .vs xs=>some xs
  | _=>none
def T9:ax→Option (Nat×List fp)
  | .cols m cs=>some (m,cs)
  | _=>none
def Ld(ks:List CK) :AV→Option ((Lv×Nat×CKs.Ty ks)×List Bool)
  | .imm l d w es o n=>(T9 d).bind fun q=>bif Nat.beq w ks.length&&Nat.beq es ks.length then (CKs.fit ks o n q.2).map fun t=>((l,n,t),[Nat.ble (o+n) q.1]) else none
  | .nsl=>some ((.free,0,CKs.emp ks),[])
  | .esl=>some ((.free,0,CKs.emp ks),[])
  | _=>none
def Xy(w i j:Nat) :AV→Option (Lv×List AV)
  | .iptr l d w' i' j'=>(Xx d).bind fun xs=>bif Nat.beq w w'&&(Nat.beq i i'&&Nat.beq j j') then some (l,xs) else none
  | _=>none
def Yq(f:FuncId) :AV→Option (List AV×List AV)
  | .fn (.func f') x y=>bif Nat.beq f f' then some (x,y) else none
  | _=>none
def Xz:AV→Option (List AV)
  | .agg l=>some l
  | _=>none
def XA:AV→Option (List AV)
  | .tup l=>some l
  | _=>none
def Ua(t:TypeId) :AV→Option AV
  | .iface t' v=>bif Nat.beq t t' then some v else none
  | _=>none
def XB:AV→Option (Unit×List Bool)
  | .nfn=>some ((),[])
  | _=>none
def Wo:AV→Option (Unit×List Bool)
  | .nptr=>some ((),[])
  | _=>none
def XC:AV→Option (Unit×List Bool)
  | .nsl=>some ((),[])
  | _=>none
def Wp(b:Nat) :AV→Option ((Nat×Nat×Nat)×List Bool)
  | .sl b' w es i len cap=>bif Nat.beq b b'&&(Nat.beq w 1&&Nat.beq es 1) then some ((i,len,cap),[]) else none
  | _=>none
def Ub(b w i j:Nat) :AV→Option (Unit×List Bool)
  | .ptr b' w' i' j'=>bif (Nat.beq b b'&&Nat.beq w w')&&(Nat.beq i i'&&Nat.beq j j') then some ((),[]) else none
  | _=>none
def Om:AV→Option (Unit×List Bool)
  | .niface=>some ((),[])
  | _=>none
mutual
def yO.fit:(p:yO)→AV→Option (p.Ty×List Bool)
  | .int k=>Wh k
  | .flt ex=>Wi ex
  | .bool=>T8
  | .kbool b=>Ol b
  | .str=>Wj
  | .fl=>JE Wl
  | .ns k=>JE (Wm k)
  | .bs=>JE Wn
  | .ss=>JE Xw
  | .cols ks=>Ld ks
  | .ivs ps w i j=>fun v=>match Xy w i j v with
    | some q=>match ps.fit q.2 with
      | some r=>some ((q.1,r.1),r.2)
      | none=>none
    | none=>none
  | .fn f a b=>fun v=>match Yq f v with
    | some q=>match a.fit q.1 with
      | some r=>match b.fit q.2 with
        | some s=>some ((r.1,s.1),r.2++s.2)
        | none=>none
      | none=>none
    | none=>none
  | .agg ps=>fun v=>match Xz v with
    | some l=>ps.fit l
    | none=>none
  | .tup ps=>fun v=>match XA v with
    | some l=>ps.fit l
    | none=>none
  | .iface t p=>fun v=>match Ua t v with
    | some u=>p.fit u
    | none=>none
  | .nfn=>XB
  | .nptr=>Wo
  | .nsl=>XC
  | .niface=>Om
  | .any=>fun _=>some ((),[])
  | .lsl b=>Wp b
  | .lptr b w i j=>Ub b w i j
def mV.fit:(ps:mV)→List AV→Option (ps.Ty×List Bool)
  | .nil=>fun l=>match l with
    | []=>some ((),[])
    | _::_=>none
  | .cons p ps=>fun l=>match l with
    | []=>none
    | v::l=>match p.fit v with
      | some r=>match ps.fit l with
        | some s=>some ((r.1,s.1),r.2++s.2)
        | none=>none
      | none=>none
end
theorem U0{ks:List CK}{o n m:Nat}{cs:List fp}{t:CKs.Ty ks}(h:CKs.fit ks o n cs=some t) :∀ x v,(ax.cols n (CKs.cols ks t)).cell? x=some v→(ax.cols m cs).cell? (o*ks.length+x)=some v:=by
  intro x v hx
  have hl:=Cp h
  obtain ⟨c',h1,_,h3⟩:=fH hx
  obtain ⟨c,q1,_,q3⟩:=CKs.fit_spec h _ _ h1
  rw [CKs.len] at h1 h3 q1
  have hpos:0<ks.length:=by
    have:=(List.getElem?_eq_some_iff.1 q1).1
    omega
  simp only [ax.cell?,hl,Option.bind_eq_some_iff]
  refine ⟨c,?_,?_⟩
  · rw [Nat.add_comm,Nat.add_mul_mod_self_right];exact q1
  · rw [Nat.add_comm,Nat.add_mul_div_right _ _ hpos,Nat.add_comm];exact q3 _ _ h3
structure Wk (v v':AV):Prop where
  weak:aW v v'
  kept:v.kept=true→v'.kept=true
  foreign:v.foreign=true→v'.foreign=true
structure YD (v v':List AV):Prop where
  weak:fx v v'
  kept:cT v=true→cT v'=true
  foreign:bi v=true→bi v'=true
theorem Wk.refl(v:AV) :Wk v v:=⟨aW.refl v,id,id⟩
theorem Wk.fltL(x:Nat) :Wk (.flt true x) (.flt false x):=⟨fun ρ w u h=>(by
  cases h with | flt _ _ y hf =>
  rcases hf with rfl | ⟨q,_⟩
  · exact .flt _ _ _ (.inl rfl)
  · cases q),id,id⟩
theorem YD.cons{v v':AV}{l l':List AV}(h:Wk v v')(k:YD l l') :YD (v::l) (v'::l') :=
  ⟨.cons h.weak k.weak,fun q=>by simp only [cT,Bool.and_eq_true] at q ⊢;exact ⟨h.kept q.1,k.kept q.2⟩,fun q=>by simp only [bi,Bool.and_eq_true] at q ⊢;exact ⟨h.foreign q.1,k.foreign q.2⟩⟩
theorem Wk.part{l:Lv}{d d':ax}{w es o n:Nat}(h:∀ x v,d'.cell? x=some v→d.cell? (o*w+x)=some v)(hr:d.recKept→d'.recKept)(hk:d'.kept=true)(hg:d'.foreign=true) :Wk (.imm l d w es o n) (.imm l d' w es 0 n) :=
  ⟨C1 h hr hk hg,id,id⟩
theorem Wk.nsl{d':ax}{w es:Nat}(hr:d'.recKept)(hk:d'.kept=true)(hg:d'.foreign=true) :Wk .nsl (.imm .free d' w es 0 0):=⟨C2 hr hk hg,id,id⟩
theorem Wk.esl{d':ax}{w es:Nat}(hr:d'.recKept)(hk:d'.kept=true)(hg:d'.foreign=true) :Wk .esl (.imm .free d' w es 0 0):=⟨C3 hr hk hg,id,id⟩
theorem Wk.fl{l:Lv}{xs:List Nat}{o n:Nat}(h:aI o n xs=true) :Wk (.imm l (.fl xs) 1 1 o n) (.imm l (.fl (aa o n xs)) 1 1 0 (aa o n xs).length):=by
  rw [ko (zM.1 h)];exact .part (fun x v q=>by rw [Nat.mul_one];exact om q) (fun _=>trivial) rfl rfl
theorem Wk.ns{k:IntKind}{l:Lv}{xs:List Int}{o n:Nat}(h:aI o n xs=true) :Wk (.imm l (.ns k xs) 1 1 o n) (.imm l (.ns k (aa o n xs)) 1 1 0 (aa o n xs).length):=by
  rw [ko (zM.1 h)];exact .part (fun x v q=>by rw [Nat.mul_one];exact om q) (fun _=>trivial) rfl rfl
theorem Wk.bs{l:Lv}{xs:List Bool}{o n:Nat}(h:aI o n xs=true) :Wk (.imm l (.bs xs) 1 1 o n) (.imm l (.bs (aa o n xs)) 1 1 0 (aa o n xs).length):=by
  rw [ko (zM.1 h)];exact .part (fun x v q=>by rw [Nat.mul_one];exact om q) (fun _=>trivial) rfl rfl
theorem Wk.ss{l:Lv}{xs:List ByteArray}{o n:Nat}(h:aI o n xs=true) :Wk (.imm l (.ss xs) 1 1 o n) (.imm l (.ss (aa o n xs)) 1 1 0 (aa o n xs).length):=by
  rw [ko (zM.1 h)];exact .part (fun x v q=>by rw [Nat.mul_one];exact om q) (fun _=>trivial) rfl rfl
theorem Wq{ks:List CK}{o n m:Nat}{cs:List fp}{t:CKs.Ty ks}(h:CKs.fit ks o n cs=some t)(hm:o+n≤m) :(ax.cols m cs).recKept→(ax.cols n (CKs.cols ks t)).recKept:=by
  intro hr c hc
  obtain ⟨j,hj⟩:=List.getElem?_of_mem hc
  obtain ⟨c0,q1,q2,_⟩:=CKs.fit_spec h j c hj
  exact q2 (by rw [hr c0 (List.mem_of_getElem? q1)];exact hm)
theorem Yr{w es n:Nat}(h:(Nat.beq w n&&Nat.beq es n)=true) :w=n∧es=n:=by
  rw [Bool.and_eq_true] at h;exact ⟨Nat.eq_of_beq_eq_true h.1,Nat.eq_of_beq_eq_true h.2⟩
theorem pU{α:Type}{c:Bool}{a:α}{x:α}(h:(bif c then some a else none)=some x) :c=true∧a=x:=by
  cases c with
  | true=>exact ⟨rfl,by simpa using h⟩
  | false=>cases h
theorem Ys{α:Type}{c:Bool}{a:Option α}{x:α}(h:(bif c then a else none)=some x) :c=true∧a=some x:=by
  cases c with
  | true=>exact ⟨rfl,h⟩
  | false=>cases h
theorem tq{α:Type}{f:ax→Option (List α)}{g:List α→ax}(hg:∀ {d xs},f d=some xs→d=g xs) 
    (hw:∀ {l xs o n},aI o n xs=true→Wk (.imm l (g xs) 1 1 o n) (.imm l (g (aa o n xs)) 1 1 0 (aa o n xs).length)) (h0:(g []).recKept∧(g []).kept=true∧(g []).foreign=true)
    {v:AV} {t:Lv×List α} {o:List Bool} (h:JE f v=some (t,o)) (ho:aq o):Wk v (.imm t.1 (g t.2) 1 1 0 t.2.length):=by
  unfold JE at h
  split at h
  · rename_i l d w es i n
    cases e:f d with
    | none=>rw [e] at h;cases h
    | some xs =>
      rw [e] at h
      obtain ⟨e2,h⟩:=pU h
      obtain ⟨rfl,rfl⟩:=Yr e2
      cases h;cases hg e;exact hw ho.1
  · cases h;exact .nsl h0.1 h0.2.1 h0.2.2
  · cases h;exact .esl h0.1 h0.2.1 h0.2.2
  · cases h
theorem Le{ks:List CK}{v:AV}{t:Lv×Nat×CKs.Ty ks}{o:List Bool}(h:Ld ks v=some (t,o))(ho:aq o) :Wk v (.imm t.1 (.cols t.2.1 (CKs.cols ks t.2.2)) ks.length ks.length 0 t.2.1):=by
  unfold Ld at h
  split at h
  · rename_i l d w es i n
    cases d<;>simp only [T9,Option.bind_none,Option.bind_some,reduceCtorEq] at h
    rename_i m cs
    have e:=(Ys h).1;replace h:=(Ys h).2
    obtain ⟨rfl,rfl⟩:=Yr e
    cases e2:CKs.fit ks i n cs with
    | none=>rw [e2] at h;cases h
    | some r =>
      rw [e2] at h;cases h
      have:i+n≤m:=Nat.le_of_ble_eq_true ho.1
      exact .part (U0 e2) (Wq e2 this) rfl rfl
  · cases h;exact .nsl (CKs.emp_len ks) rfl rfl
  · cases h;exact .esl (CKs.emp_len ks) rfl rfl
  · cases h
mutual
theorem yO.fit_spec:∀ (p:yO) (v:AV) {t:p.Ty} {o:List Bool},p.fit v=some (t,o)→aq o→Wk v (p.av t)
  | .int k,v,t,o,h,ho=>by
    simp only [yO.fit,Wh] at h
    split at h
    · obtain ⟨e,h⟩:=pU h
      cases h;cases qp.1 e;exact .refl _
    · cases h
  | .flt ex,v,t,o,h,ho=>by
    simp only [yO.fit,Wi] at h
    split at h
    · rename_i ex' x
      cases ex with
      | true =>
        cases ex' with
        | true=>cases h;exact .refl _
        | false=>cases h
      | false =>
        cases ex' with
        | true=>cases h;exact .fltL x
        | false=>cases h;exact .refl _
    · cases h
  | .bool,v,t,o,h,ho=>by
    simp only [yO.fit,T8] at h
    split at h
    · rename_i kn b
      cases kn with
      | true=>cases h
      | false=>cases h;exact .refl _
    · cases h
  | .kbool b,v,t,o,h,ho=>by
    simp only [yO.fit,Ol] at h
    split at h
    · obtain ⟨e,h⟩:=pU h
      rw [Bool.and_eq_true] at e
      cases e.1;cases RM.1 e.2;exact .refl _
    · cases h
  | .str,v,t,o,h,ho=>by
    simp only [yO.fit,Wj] at h
    split at h
    · cases h;exact .refl _
    · cases h
  | .fl,v,t,o,h,ho=>tq (g:=.fl) (f:=Wl) (fun {d xs} e=>by cases d<;>cases e;rfl) (fun q=>.fl q) ⟨trivial,rfl,rfl⟩ h ho
  | .ns k,v,t,o,h,ho=>tq (g:=.ns k) (f:=Wm k) (fun {d xs} e=>by
      cases d<;>try (cases e;done)
      have e1:=(pU e).1;replace e:=(pU e).2
      cases qp.1 e1;cases e;rfl) (fun q=>.ns q) ⟨trivial,rfl,rfl⟩ h ho
  | .bs,v,t,o,h,ho=>tq (g:=.bs) (f:=Wn) (fun {d xs} e=>by cases d<;>cases e;rfl) (fun q=>.bs q) ⟨trivial,rfl,rfl⟩ h ho
  | .ss,v,t,o,h,ho=>tq (g:=.ss) (f:=Xw) (fun {d xs} e=>by cases d<;>cases e;rfl) (fun q=>.ss q) ⟨trivial,rfl,rfl⟩ h ho
  | .cols ks,v,t,o,h,ho=>Le h ho
  | .ivs ps w i j,v,t,o,h,ho=>by
    simp only [yO.fit] at h
    split at h
    case h_2=>cases h
    rename_i q hq
    split at h
    case h_2=>cases h
    rename_i r hr
    cases h
    unfold Xy at hq
    split at hq
    case h_2=>cases hq
    rename_i l d w' i' j'
    cases d<;>simp only [Xx,Option.bind_none,Option.bind_some,reduceCtorEq] at hq
    rename_i xs
    have e:=(pU hq).1;replace hq:=(pU hq).2
    rw [Bool.and_eq_true,Bool.and_eq_true] at e
    cases Nat.eq_of_beq_eq_true e.1
    cases Nat.eq_of_beq_eq_true e.2.1
    cases Nat.eq_of_beq_eq_true e.2.2
    cases hq
    have:=mV.fit_spec ps xs hr ho
    exact ⟨E9 this.weak this.kept this.foreign,id,id⟩
  | .fn f a b,v,t,o,h,ho=>by
    simp only [yO.fit] at h
    split at h
    case h_2=>cases h
    rename_i q hq
    split at h
    case h_2=>cases h
    rename_i r hr
    split at h
    case h_2=>cases h
    rename_i s hs
    cases h
    unfold Yq at hq
    split at hq
    case h_2=>cases hq
    have e:=(pU hq).1;replace hq:=(pU hq).2
    cases Nat.eq_of_beq_eq_true e
    cases hq
    rw [aU] at ho
    have h1:=mV.fit_spec a _ hr ho.1
    have h2:=mV.fit_spec b _ hs ho.2
    refine ⟨aW.fn h1.weak h2.weak,fun q=>?_,fun q=>?_⟩
    · simp only [yO.av,AV.kept,Bool.and_eq_true] at q ⊢;exact ⟨h1.kept q.1,h2.kept q.2⟩
    · simp only [yO.av,AV.foreign,Bool.and_eq_true] at q ⊢;exact ⟨h1.foreign q.1,h2.foreign q.2⟩
  | .agg ps,v,t,o,h,ho=>by
    simp only [yO.fit] at h
    split at h
    case h_2=>cases h
    rename_i l hl
    cases v<;>simp only [Xz,reduceCtorEq,Option.some.injEq] at hl
    subst hl
    have:=mV.fit_spec ps _ h ho
    exact ⟨aW.agg this.weak,this.kept,this.foreign⟩
  | .tup ps,v,t,o,h,ho=>by
    simp only [yO.fit] at h
    split at h
    case h_2=>cases h
    rename_i l hl
    cases v<;>simp only [XA,reduceCtorEq,Option.some.injEq] at hl
    subst hl
    have:=mV.fit_spec ps _ h ho
    exact ⟨aW.tup this.weak,this.kept,this.foreign⟩
  | .iface y p,v,t,o,h,ho=>by
    simp only [yO.fit] at h
    split at h
    case h_2=>cases h
    rename_i u hu
    unfold Ua at hu
    split at hu
    case h_2=>cases hu
    have e:=(pU hu).1;replace hu:=(pU hu).2
    cases Nat.eq_of_beq_eq_true e
    subst hu
    have:=yO.fit_spec p _ h ho
    exact ⟨aW.iface this.weak,this.kept,this.foreign⟩
  | .nfn,v,t,o,h,ho=>by
    cases v<;>simp only [yO.fit,XB,reduceCtorEq] at h
    exact .refl _
  | .nptr,v,t,o,h,ho=>by
    cases v<;>simp only [yO.fit,Wo,reduceCtorEq] at h
    exact .refl _
  | .nsl,v,t,o,h,ho=>by
    cases v<;>simp only [yO.fit,XC,reduceCtorEq] at h
    exact .refl _
  | .niface,v,t,o,h,ho=>by
    cases v<;>simp only [yO.fit,Om,reduceCtorEq] at h
    exact .refl _
  | .any,v,t,o,h,ho=>⟨aW.any v,fun _=>rfl,fun _=>rfl⟩
  | .lsl b,v,t,o,h,ho=>by
    simp only [yO.fit,Wp] at h
    split at h
    · have e:=(pU h).1;replace h:=(pU h).2
      rw [Bool.and_eq_true,Bool.and_eq_true] at e
      cases Nat.eq_of_beq_eq_true e.1
      cases Nat.eq_of_beq_eq_true e.2.1
      cases Nat.eq_of_beq_eq_true e.2.2
      cases h;exact .refl _
    · cases h
  | .lptr b w i j,v,t,o,h,ho=>by
    simp only [yO.fit,Ub] at h
    split at h
    · have e:=(pU h).1;replace h:=(pU h).2
      rw [Bool.and_eq_true,Bool.and_eq_true,Bool.and_eq_true] at e
      cases Nat.eq_of_beq_eq_true e.1.1
      cases Nat.eq_of_beq_eq_true e.1.2
      cases Nat.eq_of_beq_eq_true e.2.1
      cases Nat.eq_of_beq_eq_true e.2.2
      exact .refl _
    · cases h
theorem mV.fit_spec:∀ (ps:mV) (l:List AV) {t:ps.Ty} {o:List Bool},ps.fit l=some (t,o)→aq o→YD l (ps.avs t)
  | .nil,[],t,o,h,ho=>⟨.nil,id,id⟩
  | .nil,v::l,t,o,h,ho=>by simp [mV.fit] at h
  | .cons p ps,[],t,o,h,ho=>by simp [mV.fit] at h
  | .cons p ps,v::l,t,o,h,ho=>by
    simp only [mV.fit] at h
    split at h
    case h_2=>cases h
    rename_i r hr
    split at h
    case h_2=>cases h
    rename_i s hs
    cases h
    rw [aU] at ho
    exact .cons (yO.fit_spec p v hr ho.1) (mV.fit_spec ps l hs ho.2)
end
def ca(f:FuncId)(ps:mV)(alts:ps.Ty→List oS) :aw :=
  ⟨f, fun L args => match L with
    | []=>match ps.fit args with
      | some r=>some ((alts r.1).map fun a=>⟨a.out,r.2++a.obs⟩)
      | none=>none
    | _=>none⟩
theorem aP{P:Program}{f:FuncId}{ps:mV}{alts:ps.Ty→List oS}(h:∀ t,∀ a∈alts t,aq a.obs→af P f [] (ps.avs t) a.out) :aM P (ca f ps alts):=by
  intro L args al a hal ha ho
  simp only [ca] at hal
  split at hal
  case h_2=>cases hal
  split at hal
  case h_2=>cases hal
  rename_i r hr
  obtain ⟨t,o⟩:=r
  simp only [Option.some.injEq] at hal
  subst hal
  simp only [List.mem_map] at ha
  obtain ⟨b,hb,rfl⟩:=ha
  simp only [aU] at ho
  exact (h t b hb ho.2).args (mV.fit_spec ps args hr ho.1).weak
inductive CP where
  | int (k:IntKind)
  | flt
  | fltx
  | bool
  | str
  | lsl (b:Nat)
  | lsl0 (b:Nat)
  | lptr (b w i j:Nat)
  | nsl
  | nptr
def CP.Ty:CP→Type
  | .int _=>Int
  | .flt=>Nat
  | .fltx=>Nat
  | .bool=>Bool
  | .str=>ByteArray
  | .lsl _=>Nat×Nat×Nat
  | .lsl0 _=>Nat×Nat
  | .lptr _ _ _ _=>Unit
  | .nsl=>Unit
  | .nptr=>Unit
def CP.av:(p:CP)→p.Ty→AV
  | .int k,n=>.int k n
  | .flt,x=>.flt false x
  | .fltx,x=>.flt true x
  | .bool,b=>.bool false b
  | .str,s=>.str s
  | .lsl b,t=>.sl b 1 1 t.1 t.2.1 t.2.2
  | .lsl0 b,t=>.sl b 1 1 0 t.1 t.2
  | .lptr b w i j,_=>.ptr b w i j
  | .nsl,_=>.nsl
  | .nptr,_=>.nptr
def XD(k:IntKind) :AV→Option Int
  | .int k' n=>bif bX k k' then some n else none
  | _=>none
def XE:AV→Option Nat
  | .flt ex x=>bif ex then none else some x
  | _=>none
def Wr:AV→Option Nat
  | .flt ex x=>bif ex then some x else none
  | _=>none
def Ws:AV→Option Bool
  | .bool kn b=>bif kn then none else some b
  | _=>none
def XF:AV→Option ByteArray
  | .str s=>some s
  | _=>none
def XG(b:Nat) :AV→Option (Nat×Nat×Nat)
  | .sl b' w es i len cap=>bif Nat.beq b b'&&(Nat.beq w 1&&Nat.beq es 1) then some (i,len,cap) else none
  | _=>none
def Wt(b:Nat) :AV→Option (Nat×Nat)
  | .sl b' w es i len cap=>bif Nat.beq b b'&&(Nat.beq w 1&&Nat.beq es 1)&&Nat.beq i 0 then some (len,cap) else none
  | _=>none
def Wu(b w i j:Nat) :AV→Option Unit
  | .ptr b' w' i' j'=>bif (Nat.beq b b'&&Nat.beq w w')&&(Nat.beq i i'&&Nat.beq j j') then some () else none
  | _=>none
def XH:AV→Option Unit
  | .nsl=>some ()
  | _=>none
def Wv:AV→Option Unit
  | .nptr=>some ()
  | _=>none
def CP.fit:(p:CP)→AV→Option p.Ty
  | .int k=>XD k
  | .flt=>XE
  | .fltx=>Wr
  | .bool=>Ws
  | .str=>XF
  | .lsl b=>XG b
  | .lsl0 b=>Wt b
  | .lptr b w i j=>Wu b w i j
  | .nsl=>XH
  | .nptr=>Wv
theorem Yt{c:Bool}{α:Type}{a x:α}(h:(bif c then none else some a)=some x) :c=false∧a=x:=by
  cases c with
  | true=>cases h
  | false=>exact ⟨rfl,by simpa using h⟩
theorem CP.fit_spec:∀ (p:CP) {v:AV} {t:p.Ty},p.fit v=some t→v=p.av t
  | .int k,v,t,h=>by
    simp only [CP.fit,XD] at h
    split at h
    · obtain ⟨e,h⟩:=pU h
      cases h;cases qp.1 e;rfl
    · cases h
  | .flt,v,t,h=>by
    simp only [CP.fit,XE] at h
    split at h
    · obtain ⟨e,h⟩:=Yt h
      cases h;cases e;rfl
    · cases h
  | .fltx,v,t,h=>by
    simp only [CP.fit,Wr] at h
    split at h
    · obtain ⟨e,h⟩:=pU h
      cases h;cases e;rfl
    · cases h
  | .bool,v,t,h=>by
    simp only [CP.fit,Ws] at h
    split at h
    · obtain ⟨e,h⟩:=Yt h
      cases h;cases e;rfl
    · cases h
  | .str,v,t,h=>by
    simp only [CP.fit,XF] at h
    split at h
    · cases h;rfl
    · cases h
  | .lsl b,v,t,h=>by
    simp only [CP.fit,XG] at h
    split at h
    · have e:=(pU h).1;replace h:=(pU h).2
      rw [Bool.and_eq_true,Bool.and_eq_true] at e
      cases Nat.eq_of_beq_eq_true e.1
      cases Nat.eq_of_beq_eq_true e.2.1
      cases Nat.eq_of_beq_eq_true e.2.2
      cases h;rfl
    · cases h
  | .lsl0 b,v,t,h=>by
    simp only [CP.fit,Wt] at h
    split at h
    · have e:=(pU h).1;replace h:=(pU h).2
      rw [Bool.and_eq_true,Bool.and_eq_true,Bool.and_eq_true] at e
      cases Nat.eq_of_beq_eq_true e.1.1
      cases Nat.eq_of_beq_eq_true e.1.2.1
      cases Nat.eq_of_beq_eq_true e.1.2.2
      cases Nat.eq_of_beq_eq_true e.2
      cases h;rfl
    · cases h
  | .lptr b w i j,v,t,h=>by
    simp only [CP.fit,Wu] at h
    split at h
    · have e:=(pU h).1;clear h
      rw [Bool.and_eq_true,Bool.and_eq_true,Bool.and_eq_true] at e
      cases Nat.eq_of_beq_eq_true e.1.1
      cases Nat.eq_of_beq_eq_true e.1.2
      cases Nat.eq_of_beq_eq_true e.2.1
      cases Nat.eq_of_beq_eq_true e.2.2
      rfl
    · cases h
  | .nsl,v,t,h=>by
    simp only [CP.fit,XH] at h
    split at h
    · rfl
    · cases h
  | .nptr,v,t,h=>by
    simp only [CP.fit,Wv] at h
    split at h
    · rfl
    · cases h
def CPs.Ty:List CP→Type
  | []=>Unit
  | p::l=>p.Ty×CPs.Ty l
def CPs.avs:(l:List CP)→CPs.Ty l→List AV
  | [],_=>[]
  | p::l,t=>p.av t.1::CPs.avs l t.2
def CPs.fit:(l:List CP)→List AV→Option (CPs.Ty l)
  | []=>fun vs=>match vs with
    | []=>some ()
    | _::_=>none
  | p::l=>fun vs=>match vs with
    | []=>none
    | v::vs=>match p.fit v with
      | some t=>match CPs.fit l vs with
        | some r=>some (t,r)
        | none=>none
      | none=>none
theorem CPs.fit_spec:∀ (l:List CP) {vs:List AV} {t:CPs.Ty l},CPs.fit l vs=some t→vs=CPs.avs l t
  | [],[],t,h=>rfl
  | [],_::_,t,h=>by cases h
  | _::_,[],t,h=>by cases h
  | p::l,v::vs,t,h=>by
    simp only [CPs.fit] at h
    split at h
    case h_2=>cases h
    rename_i x hx
    split at h
    case h_2=>cases h
    rename_i r hr
    cases h
    simp only [CPs.avs]
    rw [←CP.fit_spec p hx,←CPs.fit_spec l hr]
inductive BK where
  | fl
  | ns (k:IntKind)
  | bs
  | vs (l:List CP)
def BK.Ty:BK→Type
  | .fl=>List Nat
  | .ns _=>List Int
  | .bs=>List Bool
  | .vs l=>CPs.Ty l
def BK.blk:(k:BK)→k.Ty→ax
  | .fl,xs=>.fl xs
  | .ns k,xs=>.ns k xs
  | .bs,xs=>.bs xs
  | .vs l,t=>.vs (CPs.avs l t)
def YM(l:List CP) :ax→Option (CPs.Ty l)
  | .vs xs=>CPs.fit l xs
  | _=>none
def BK.fit:(k:BK)→ax→Option k.Ty
  | .fl=>Wl
  | .ns k=>Wm k
  | .bs=>Wn
  | .vs l=>YM l
theorem BK.fit_spec:∀ (k:BK) {d:ax} {t:k.Ty},k.fit d=some t→d=k.blk t
  | .fl,d,t,h=>by cases d<;>cases h;rfl
  | .ns k,d,t,h=>by
    cases d<;>try (cases h;done)
    have e1:=(pU h).1;replace h:=(pU h).2
    cases qp.1 e1;cases h;rfl
  | .bs,d,t,h=>by cases d<;>cases h;rfl
  | .vs l,d,t,h=>by
    cases d<;>try (cases h;done)
    exact congrArg ax.vs (CPs.fit_spec l h)
def BKs.Ty:List BK→Type
  | []=>Unit
  | k::l=>k.Ty×BKs.Ty l
def zN:(l:List BK)→BKs.Ty l→List ax
  | [],_=>[]
  | k::l,t=>k.blk t.1::zN l t.2
def BKs.fit:(l:List BK)→List ax→Option (BKs.Ty l)
  | [],[]=>some ()
  | [],_::_=>none
  | _::_,[]=>none
  | k::l,d::ds=>match k.fit d with
    | some t=>match BKs.fit l ds with
      | some r=>some (t,r)
      | none=>none
    | none=>none
theorem BKs.fit_spec:∀ (l:List BK) {ds:List ax} {t:BKs.Ty l},BKs.fit l ds=some t→ds=zN l t
  | [],[],t,h=>rfl
  | [],_::_,t,h=>by cases h
  | _::_,[],t,h=>by cases h
  | k::l,d::ds,t,h=>by
    simp only [BKs.fit] at h
    split at h
    case h_2=>cases h
    rename_i x hx
    split at h
    case h_2=>cases h
    rename_i r hr
    cases h
    simp only [zN]
    rw [←BK.fit_spec k hx,←BKs.fit_spec l hr]
def On(f:FuncId)(bs:List BK)(ps:mV)(alts:BKs.Ty bs→ps.Ty→List oS) :aw :=
  ⟨f, fun L args => match BKs.fit bs L with
    | some x=>match ps.fit args with
      | some r=>some ((alts x r.1).map fun a=>⟨a.out,r.2++a.obs⟩)
      | none=>none
    | none=>none⟩
theorem Fa{P:Program}{f:FuncId}{bs:List BK}{ps:mV}{alts:BKs.Ty bs→ps.Ty→List oS}(h:∀ x t,∀ a∈alts x t,aq a.obs→af P f (zN bs x) (ps.avs t) a.out) :aM P (On f bs ps alts):=by
  intro L args al a hal ha ho
  simp only [On] at hal
  split at hal
  case h_2=>cases hal
  rename_i x hx
  split at hal
  case h_2=>cases hal
  rename_i r hr
  obtain ⟨t,o⟩:=r
  simp only [Option.some.injEq] at hal
  subst hal
  simp only [List.mem_map] at ha
  obtain ⟨b,hb,rfl⟩:=ha
  simp only [aU] at ho
  have:=(h x t b hb ho.2).args (mV.fit_spec ps args hr ho.1).weak
  rwa [←BKs.fit_spec bs hx] at this
theorem Fb{P:Program}{f:FuncId}{L:List ax}{l:List AV} :∀ a∈([]:List oS),aq a.obs→af P f L l a.out:=fun a h=>by cases h
theorem wG{P:Program}{f:FuncId}{L:List ax}{l:List AV}{o:fZ}{b:Bool}{al:List oS}(h:b=true→af P f L l o)(t:∀ a∈al,aq a.obs→af P f L l a.out) :∀ a∈(⟨o,[b]⟩:oS)::al,aq a.obs→af P f L l a.out:=by
  intro a ha ho
  rcases List.mem_cons.1 ha with rfl | ha
  · exact h ho.1
  · exact t a ha ho
theorem aZ{P:Program}{f:FuncId}{l:List AV} :∀ a∈([]:List oS),aq a.obs→af P f [] l a.out:=fun a h=>by cases h
theorem aQ{P:Program}{f:FuncId}{l:List AV}{o:fZ}{b:Bool}{al:List oS}(h:b=true→af P f [] l o)(t:∀ a∈al,aq a.obs→af P f [] l a.out) :∀ a∈(⟨o,[b]⟩:oS)::al,aq a.obs→af P f [] l a.out:=by
  intro a ha ho
  rcases List.mem_cons.1 ha with rfl | ha
  · exact h ho.1
  · exact t a ha ho
end
end Go.Plb
namespace Go.Plb.Seat
open Go Go.Plb
set_option linter.unusedSimpArgs false
set_option linter.unusedVariables false
set_option maxRecDepth 100000
def Uc(n:Nat) :Bool:=Nat.ble n 1000000000
noncomputable def Yu:Empty→aC:=fun a=>a.elim
noncomputable def Yv:Unit→AE×aC:=fun _=>(.ret,⟨aj 8 [(2,.sl 0 1 1 0 0 0)],[(0,.fl [])],1⟩)
noncomputable def YN:Unit→fZ:=fun _=>⟨.sl 0 1 1 0 0 0,[some (.fl [])]⟩
theorem Xn:af prog cn [] [.zsl true] ⟨.sl 0 1 1 0 0 0,[some (.fl [])]⟩ :=
  Sg.contract (x:=()) (X:=Unit) (N:=Yu) (E:=Yv) (m:=some (.inr ())) false YN (by kernel_rfl:prog.funcs[cn]? = some (FN cn)) (by kernel_rfl:(FN cn).body=some (pf cn))
    (Sg.seg (C:=C0) fI uM 60 (dd (pf cn)) (oj (FN cn) [] [.zsl true]) (.leaf (.inr ())) Yu Yv [⟨[(.slot 2,.own 1 1 (.fl []))],[64],[2]⟩] (by kernel_rfl))
    (fun _=>⟨.inr rfl,[.sl 0 1 1 0 0 0],[],by kernel_rfl,trivial,by kernel_rfl⟩) rfl
theorem Ww:af prog cn [] [.zsl false] ⟨.sl 0 1 1 0 0 0,[some (.fl [])]⟩ :=
  af.run fI uM (some []) 0 60 (p':=some []) (obs:=[]) (by kernel_rfl) YC
theorem Xo(l:Lv) :af prog cn [] [.imm l (.fl []) 1 1 0 0] ⟨.sl 0 1 1 0 0 0,[some (.fl [])]⟩:=by
  intro ρ w us hN hv
  cases hv with | cons _ u _ _ h1 h2 =>
  cases h2
  have key:∀ (a:Option Addr) cap,cd ρ w [.zsl a.isNone] [.slice a 0 cap]:=fun a cap=>.cons _ _ _ _ (.zsl a cap) .nil
  have all:∀ b,af prog cn [] [.zsl b] ⟨.sl 0 1 1 0 0 0,[some (.fl [])]⟩:=fun b=>by
    cases b
    · exact Ww
    · exact Xn
  cases h1 with
  | imm _ _ _ _ _ _ cap bl o u'=>exact all _ ρ w _ hN (key _ cap)
  | immEnd _ _ _ _ _ cap a=>exact all _ ρ w _ hN (key a cap)
theorem Xp(l:Lv)(xs:List Nat)(hl:xs.length≤1000000000) :af prog cn [] [.imm l (.fl xs) 1 1 0 xs.length] ⟨.sl 0 1 1 0 xs.length xs.length,[some (.fl xs)]⟩:=by
  rcases Nat.eq_zero_or_pos xs.length with h0 | h0
  · have:xs=[]:=List.length_eq_zero_iff.1 h0
    subst this
    exact Xo l
  · have h:nu C0 E0 (fY C0 E0 0 60) cn [] [.imm l (.fl xs) 1 1 0 xs.length] (some [])=some (⟨.sl 0 1 1 0 (0+xs.length) (0+xs.length),[some (.fl (List.take 0 []++List.take xs.length xs))]⟩,
        [Nat.blt 0 xs.length,lZ ((0+xs.length)*8) 140737488355328,lZ (0+xs.length) 9223372036854775807,lZ xs.length xs.length,lZ 0 ([]:List Nat).length],some []):=by kernel_rfl
    have:=af.run fI uM _ _ _ h (ob (by rw [Nat.blt_eq];exact h0)<|ob (by simp [lZ];omega)<|ob (by simp [lZ];omega)<|ob (by simp [lZ])<|ob rfl YC)
    simp only [Nat.zero_add,List.take_zero,List.nil_append,List.take_length] at this
    exact this
noncomputable def Ud:aw:=ca cn (.cons .fl .nil) fun t=>[⟨⟨.sl 0 1 1 0 t.1.2.length t.1.2.length,[some (.fl t.1.2)]⟩,[Uc t.1.2.length]⟩]
theorem RN:aM prog Ud:=aP fun t=>aQ (fun h=>Xp t.1.1 t.1.2 (Nat.le_of_ble_eq_true h)) aZ
noncomputable def YY:List aw:=Ud::L1
theorem X4:aG prog (aD YY):=ap RN Yp
noncomputable def Oo:Empty→aC:=fun a=>a.elim
noncomputable def Oq:Unit→AE×aC:=fun _=>(.ret,⟨aj 8 [(2,.sl 0 1 1 0 0 0)],[(0,.ns .u64 [])],1⟩)
noncomputable def Wx:Unit→fZ:=fun _=>⟨.sl 0 1 1 0 0 0,[some (.ns .u64 [])]⟩
theorem Ot:af prog bv [] [.zsl true] ⟨.sl 0 1 1 0 0 0,[some (.ns .u64 [])]⟩ :=
  Sg.contract (x:=()) (X:=Unit) (N:=Oo) (E:=Oq) (m:=some (.inr ())) false Wx (by kernel_rfl:prog.funcs[bv]? = some (FN bv)) (by kernel_rfl:(FN bv).body=some (pf bv))
    (Sg.seg (C:=C0) fI uM 60 (dd (pf bv)) (oj (FN bv) [] [.zsl true]) (.leaf (.inr ())) Oo Oq [⟨[(.slot 2,.own 1 1 (.ns .u64 []))],[64],[2]⟩] (by kernel_rfl))
    (fun _=>⟨.inr rfl,[.sl 0 1 1 0 0 0],[],by kernel_rfl,trivial,by kernel_rfl⟩) rfl
theorem Lf:af prog bv [] [.zsl false] ⟨.sl 0 1 1 0 0 0,[some (.ns .u64 [])]⟩ :=
  af.run fI uM (some []) 0 60 (p':=some []) (obs:=[]) (by kernel_rfl) YC
theorem Ou(l:Lv) :af prog bv [] [.imm l (.ns .u64 []) 1 1 0 0] ⟨.sl 0 1 1 0 0 0,[some (.ns .u64 [])]⟩:=by
  intro ρ w us hN hv
  cases hv with | cons _ u _ _ h1 h2 =>
  cases h2
  have key:∀ (a:Option Addr) cap,cd ρ w [.zsl a.isNone] [.slice a 0 cap]:=fun a cap=>.cons _ _ _ _ (.zsl a cap) .nil
  have all:∀ b,af prog bv [] [.zsl b] ⟨.sl 0 1 1 0 0 0,[some (.ns .u64 [])]⟩:=fun b=>by
    cases b
    · exact Lf
    · exact Ot
  cases h1 with
  | imm _ _ _ _ _ _ cap bl o u'=>exact all _ ρ w _ hN (key _ cap)
  | immEnd _ _ _ _ _ cap a=>exact all _ ρ w _ hN (key a cap)
theorem Ov(l:Lv)(xs:List Int)(hl:xs.length≤1000000000) :af prog bv [] [.imm l (.ns .u64 xs) 1 1 0 xs.length] ⟨.sl 0 1 1 0 xs.length xs.length,[some (.ns .u64 xs)]⟩:=by
  rcases Nat.eq_zero_or_pos xs.length with h0 | h0
  · have:xs=[]:=List.length_eq_zero_iff.1 h0
    subst this
    exact Ou l
  · have h:nu C0 E0 (fY C0 E0 0 60) bv [] [.imm l (.ns .u64 xs) 1 1 0 xs.length] (some [])=some (⟨.sl 0 1 1 0 (0+xs.length) (0+xs.length),[some (.ns .u64 (List.take 0 ([]:List Int)++List.take xs.length xs))]⟩,
        [Nat.blt 0 xs.length,lZ ((0+xs.length)*8) 140737488355328,lZ (0+xs.length) 9223372036854775807,lZ xs.length xs.length,lZ 0 ([]:List Int).length],some []):=by kernel_rfl
    have:=af.run fI uM _ _ _ h (ob (by rw [Nat.blt_eq];exact h0)<|ob (by simp [lZ];omega)<|ob (by simp [lZ];omega)<|ob (by simp [lZ])<|ob rfl YC)
    simp only [Nat.zero_add,List.take_zero,List.nil_append,List.take_length] at this
    exact this
noncomputable def Cq:aw:=ca bv (.cons (.ns .u64) .nil) fun t=>[⟨⟨.sl 0 1 1 0 t.1.2.length t.1.2.length,[some (.ns .u64 t.1.2)]⟩,[Uc t.1.2.length]⟩]
theorem Fc:aM prog Cq:=aP fun t=>aQ (fun h=>Ov t.1.1 t.1.2 (Nat.le_of_ble_eq_true h)) aZ
noncomputable def Ue:List aw:=Cq::YY
theorem RO:aG prog (aD Ue):=ap Fc X4
noncomputable def L2:List aw:=Ue
theorem Yw:aG prog (aD L2):=RO
end Go.Plb.Seat
namespace Go.Plb.Seat
open Go Go.Plb
set_option linter.unusedSimpArgs false
set_option linter.unusedVariables false
theorem Wy{n:Nat}(h:isNaN n=true) :n/4503599627370496%2048=2047:=by
  rw [md,decide_eq_true_eq] at h;omega
theorem Wz(n:Nat) :Int.tmod (Int.fdiv (n:Int) (2^min (Int.toNat 52) IntKind.u64.bits)) 2048=((n/4503599627370496%2048:Nat):Int):=by
  have e:(2^min (Int.toNat 52) IntKind.u64.bits:Int)=((4503599627370496:Nat):Int):=by decide
  rw [e,Int.fdiv_eq_ediv_of_nonneg _ (by omega)];exact Int.tmod_eq_emod_of_nonneg (Int.natCast_nonneg _)
theorem af.nan{f:FuncId}{g:Nat→fZ}{r:fZ}(h:∀ n:Nat,af prog f [] [.int .u64 (n:Int)] (g n))(e:∀ n:Nat,isNaN n=true→g n=r) :af prog f [] [.nan] r:=by
  intro ρ w us hN hv
  cases hv with | cons _ u _ _ h1 h2 =>
  cases h2
  cases h1 with | nan n hn =>
  rw [←e n hn]
  exact h n ρ w _ hN (.cons _ _ _ _ (.int _ _) .nil)
theorem U1:af prog mu [] [.nan] ⟨.bool false false,[]⟩:=by
  refine af.nan (g:=fun n=>⟨.bool false ((Int.tmod (Int.fdiv (n:Int) (2^min (Int.toNat 52) IntKind.u64.bits)) 2048) != 2047),[]⟩) (fun n=>?_) (fun n hn=>?_)
  · have h:nu C0 E0 (fY C0 E0 0 50) mu [] [.int .u64 n] (some [])=some (⟨.bool false ((Int.tmod (Int.fdiv (n:Int) (2^min (Int.toNat 52) IntKind.u64.bits)) 2048) != 2047),[]⟩,[(decide ((0:Int)≤52)),((2048:Int) != 0)],some []):=by kernel_rfl
    exact af.run fI uM _ _ _ h ⟨rfl,rfl,trivial⟩
  · simp only [Wz,Wy hn];rfl
theorem RP:af prog mu [] [.nan] ⟨.bool true false,[]⟩:=U1.weak (tf _ _ _)
def BA:aw:=⟨mu,fun L args=>match L,args with | [],[.nan]=>one (.bool true false) [] | _,_=>none⟩
theorem Lg:aM prog BA:=by
  intro L args alts a h ha ho
  simp only [BA] at h
  split at h
  · exact qo h ha ho fun q=>RP
  · cases h
noncomputable def L3:List aw:=BA::L2
theorem XI:aG prog (aD L3):=ap Lg Yw
end Go.Plb.Seat
namespace Go.Plb.Seat
noncomputable section
open Go Go.Plb
set_option linter.unusedVariables false
set_option maxRecDepth 100000
theorem br{S:vp}(hS:aG prog S){lent:List ax}{α X:Type}{cs:List Code}{st:aC}{t:T (α⊕X)}(N:α→aC){E:X→AE×aC}(ks:List NS) 
    (h:Wb C0 S 60 cs st t.leaves ks lent.length=TZ N E t.leaves:=by kernel_rfl):Sg prog lent cs st t.run N E:=Sg.seg fI hS 60 cs st t N E ks h
theorem GD{lent:List ax}{σ ρ X:Type}{cs:List Code}{st:aC}{E:X→AE×aC}{B:σ→Option (σ⊕(ρ⊕X))}{ent:σ}(s:NS)(I:σ→aC)(J:ρ→aC)(id:Nat)(hE:jU E)(hI:oT id E) 
    (hb:∀ a,Sg prog lent (dd (fy (cs.headD .skip))) (I a) (B a) I (dR id J E)) (hn:s.ok lent.length=true:=by exact rfl) (h1:s.on st=I ent:=by kernel_rfl) (hcs:cs=[.block id (.loop (fy (cs.headD .skip)))]:=by kernel_rfl) :
    Sg prog lent cs st (gR B ent) J E:=Sg.pre s hn h1 (UY hcs hE hI hb ent)
theorem YO{lent:List ax}{κ X:Type}{cs:List Code}{st:aC}{E:X→AE×aC}{m:Option (κ⊕(κ⊕X))}(K:κ→aC)(id:Nat)(hE:jU E)(hI:oT id E) 
    (hb:Sg prog lent (dd (inBlock (cs.headD .skip))) st m K (dR id K E)) (hcs:cs=[.block id (inBlock (cs.headD .skip))]:=by kernel_rfl):Sg prog lent cs st (E7 m) K E:=RH hcs hE hI hb
def mU:Empty→aC:=fun a=>a.elim
theorem mb{fn:Func}{k:Nat}{keep:Bool}{o:fZ}{st:aC}(vs:List AV)(h1:iE prog fn st fn.results.toList=some (vs,[]):=by kernel_rfl)(h2:EG k keep st.heap (Bm vs)=some o:=by kernel_rfl) :TW prog fn k keep o .ret st :=
  ⟨.inr rfl,vs,[],h1,trivial,h2⟩
theorem ny{f:FuncId}{X:Type}{m:Option (Empty⊕X)}{lent:List ax}{args:List AV}{x:X}(keep:Bool)(o:X→fZ)(E:X→AE×aC)(hx:mz m=some x) 
    (h:Sg prog lent (dd (pf f)) (oj (FN f) lent args) m mU E) (hE:∀ x,TW prog (FN f) lent.length keep (o x) (E x).1 (E x).2)
    (hf:prog.funcs[f]? = some (FN f):=by kernel_rfl) (hc:(FN f).body=some (pf f):=by kernel_rfl):af prog f lent args (o x) :=
  Sg.contract (P:=prog) (f:=f) (fn:=FN f) (c:=pf f) (N:=mU) (E:=E) (lent:=lent) (args:=args) keep o hf hc h hE hx
end
end Go.Plb.Seat
namespace Go.Plb.Seat
open Go Go.Plb
set_option linter.unusedVariables false
set_option maxRecDepth 100000
noncomputable section
inductive bt where
  | r0 (a:Int)
def pV:bt→AE×aC
  | .r0 a=>(.ret,⟨aj 14 [(2,.int .i64 a)],[],0⟩)
def fA:bt→fZ
  | .r0 a=>⟨.int .i64 a,[]⟩
def pg(a:Int) :T ((Empty)⊕(bt)) :=
  .ask (a==(0:Int))
    (.leaf (.inr (.r0 (64:Int))))
    (.need (decide ((0:Int)≤(58:Int)))<|.need (fu (Int.fdiv (IntKind.u64.wrap ((dM .and .u64 a (IntKind.u64.wrap ((0:Int)-a)))*(285870213051353865:Int))) (2^(min (Int.toNat (58:Int)) (IntKind.u64.bits)))) 64)<|.need (fW (eE (eE 0 (GG (Int.toNat (Int.fdiv (IntKind.u64.wrap ((dM .and .u64 a (IntKind.u64.wrap ((0:Int)-a)))*(285870213051353865:Int))) (2^(min (Int.toNat (58:Int)) (IntKind.u64.bits))))) 1)) 0) (List.length aR))<|.leaf (.inr (.r0 (IntKind.i64.wrap (List.getD aR (eE (eE 0 (GG (Int.toNat (Int.fdiv (IntKind.u64.wrap ((dM .and .u64 a (IntKind.u64.wrap ((0:Int)-a)))*(285870213051353865:Int))) (2^(min (Int.toNat (58:Int)) (IntKind.u64.bits))))) 1)) 0) 0)))))
def cP(a:Int) :Option bt:=mz ((pg a).run)
theorem ph(a:Int){x:bt}(h:cP a=some x) :af prog jf [] [.int .u64 a] (fA x) :=
  ny false fA pV h (br XI mU [⟨[],[],[2]⟩,⟨[],[],[2]⟩])
    (fun x=>by cases x with | r0 b=>exact mb [.int .i64 b])
def dH:Option bt→Bool
  | some _=>true
  | none=>false
def de:Option bt→Int
  | some (.r0 x)=>x
  | _=>0
theorem pj{x:Option bt}(h:dH x=true) :x=some (.r0 (de x)):=by
  unfold dH at h
  split at h<;>first | rfl | (cases h;done) | (rename_i y;cases y;rfl)
def jg:aw:=ca jf (.cons (.int .u64) .nil) fun t=>(fun q=>[⟨fA (.r0 (de q)),[dH q]⟩]) (cP t.1)
theorem nH:aM prog jg:=aP fun t=>(aQ (fun h=>ph t.1 (pj h)) aZ)
def jh:List aw:=jg::L3
theorem eM:aG prog (aD jh):=ap nH XI
inductive ct where
  | r0 (a:Int) (b:Int)
def ru:ct→AE×aC
  | .r0 a b=>(.ret,⟨aj 51 [(4,.int .u64 a),(5,.int .u64 b)],[],0⟩)
theorem yf:jU ru:=by intro x;cases x<;>(intro h;cases h)
def mA:ct→fZ
  | .r0 a b=>⟨.tup [.int .u64 a,.int .u64 b],[]⟩
def yg(a:Int)(b:Int) :Int×Int×Int×Int→aC:=fun (c,d,e,f)=>⟨aj 51 [(0,.int .u64 a),(1,.int .u64 b),(6,.int .u64 c),(7,.int .u64 d),(9,.int .u64 e),(11,.int .u64 f)],[],0⟩
def yh(a:Int)(b:Int) :T ((Int×Int×Int×Int)⊕(ct)) :=
  .need (decide ((0:Int)≤(32:Int)))<|.need (decide ((0:Int)≤(32:Int)))<|.need (decide ((0:Int)≤(32:Int)))<|.leaf (.inl ((dM .and .u64 a (4294967295:Int)),(Int.fdiv a (2^(min (Int.toNat (32:Int)) (IntKind.u64.bits)))),(Int.fdiv b (2^(min (Int.toNat (32:Int)) (IntKind.u64.bits)))),(IntKind.u64.wrap ((IntKind.u64.wrap ((Int.fdiv a (2^(min (Int.toNat (32:Int)) (IntKind.u64.bits))))*(dM .and .u64 b (4294967295:Int))))+(Int.fdiv (IntKind.u64.wrap ((dM .and .u64 a (4294967295:Int))*(dM .and .u64 b (4294967295:Int)))) (2^(min (Int.toNat (32:Int)) (IntKind.u64.bits))))))))
def yj(c:Int)(d:Int)(e:Int)(f:Int)(a:Int)(b:Int) :T ((Empty)⊕(ct)) :=
  .need (decide ((0:Int)≤(32:Int)))<|.need (decide ((0:Int)≤(32:Int)))<|.leaf (.inr (.r0 (IntKind.u64.wrap ((IntKind.u64.wrap ((IntKind.u64.wrap (f*a))+(Int.fdiv b (2^(min (Int.toNat (32:Int)) (IntKind.u64.bits))))))+(Int.fdiv (IntKind.u64.wrap ((dM .and .u64 b (4294967295:Int))+(IntKind.u64.wrap (e*a)))) (2^(min (Int.toNat (32:Int)) (IntKind.u64.bits)))))) (IntKind.u64.wrap (c*d))))
def dZ(a:Int)(b:Int) :Option ct:=mz (aO ((yh a b).run) fun (c,d,e,f) =>
  (yj a b c d e f).run)
theorem yk(a:Int)(b:Int){x:ct}(h:dZ a b=some x) :af prog rr [] [.int .u64 a,.int .u64 b] (mA x) :=
  ny false mA ru h (Sg.cut 7 yf (br eM (yg a b) [⟨[],[],[0,1,6,7,9,11]⟩]) (fun ⟨e,f,g,i⟩=>br eM mU [⟨[],[],[4,5]⟩]))
    (fun x=>by cases x with | r0 c d=>exact mb [.int .u64 c,.int .u64 d])
def hX:Option ct→Bool
  | some _=>true
  | none=>false
def jo:Option ct→Int
  | some (.r0 x _)=>x
  | _=>0
def fc:Option ct→Int
  | some (.r0 _ x)=>x
  | _=>0
theorem yl{x:Option ct}(h:hX x=true) :x=some (.r0 (jo x) (fc x)):=by
  unfold hX at h
  split at h<;>first | rfl | (cases h;done) | (rename_i y;cases y;rfl)
def rv:aw:=ca rr (.cons (.int .u64) (.cons (.int .u64) .nil)) fun t=>(fun q=>[⟨mA (.r0 (jo q) (fc q)),[hX q]⟩]) (dZ t.1 t.2.1)
theorem vG:aM prog rv:=aP fun t=>(aQ (fun h=>yk t.1 t.2.1 (yl h)) aZ)
def rx:List aw:=rv::jh
theorem fe:aG prog (aD rx):=ap vG eM
inductive eN where
  | r0 (a:List Int) (b:Nat)
def tr(a:Lv) :eN→AE×aC
  | .r0 b c=>(.ret,⟨aj 21 [(2,.imm a (.ns .u64 b) 1 1 0 c)],[],0⟩)
theorem ry{a:Lv} :jU (tr a):=by intro x;cases x<;>(intro h;cases h)
theorem Ow{a:Lv}(id:Nat) :oT id (tr a):=by intro x;cases x<;>(intro h;cases h)
def ym(a:Lv) :eN→fZ
  | .r0 b c=>⟨.imm a (.ns .u64 b) 1 1 0 c,[]⟩
def Ox:List Code:=dd (pf lJ)
def Oy(b:Lv)(a:List Int)(_:Unit) :aC:=⟨aj 21 [(0,.imm b (.ns .u64 a) 1 1 0 (List.length a))],[],0⟩
def Oz:T ((Unit)⊕(eN)) :=
  .leaf (.inl ())
def rz(a:Lv)(b:List Int)(c:Nat) :aC:=⟨aj 21 [(0,.imm a (.ns .u64 b) 1 1 0 c)],[],0⟩
def Cr(a:Lv)(b:List Int)(c:Nat) :aC:=⟨aj 21 [(0,.imm a (.ns .u64 b) 1 1 0 c)],[],0⟩
def Lh:List Code:=dd (fy ((((Ox.drop 1).take 1)).headD .skip))
def OA(a:Lv)(b:List Int)(c:Nat)(d:Bool) :aC:=⟨aj 21 [(0,.imm a (.ns .u64 b) 1 1 0 c),(14,.bool false d)],[],0⟩
def Li(b:List Int)(a:Nat) :T ((Bool)⊕((Nat)⊕(eN))) :=
  .ask (decide (((a:Nat):Int)>(0:Int)))
    (.need (dW .i64 (((a:Nat):Int)-(1:Int)))<|.need (fu (((a:Nat):Int)-(1:Int)) a)<|.need (fW (Int.toNat (((a:Nat):Int)-(1:Int))) (List.length b))<|.leaf (.inl ((List.getD b (Int.toNat (((a:Nat):Int)-(1:Int))) 0)==(0:Int))))
    (.leaf (.inl false))
def Lj(a:Nat)(b:Bool) :T ((Nat)⊕((Nat)⊕(eN))) :=
  .ask b
    (.need (dW .i64 (((a:Nat):Int)-(1:Int)))<|.need (uT (((a:Nat):Int)-(1:Int)) a)<|.need (uT (0:Int) (Int.toNat (((a:Nat):Int)-(1:Int))))<|.leaf (.inl (Int.toNat (((a:Nat):Int)-(1:Int)))))
    (.leaf (.inr (.inl a)))
def tt(b:List Int) :Nat→Option ((Nat)⊕((Nat)⊕(eN))):=fun a =>
  aO ((Li b a).run) fun c =>
  (Lj a c).run
theorem Lk(a:Lv)(b:List Int)(c:Nat) :Sg prog [] Lh (rz a b c) (tt b c) (rz a b) (dR 0 (Cr a b) (tr a)):=by
  unfold tt;exact Sg.cut 1 (bb ry) (br fe (OA a b c) [⟨[],[],[0,14]⟩,⟨[],[],[0,14]⟩]) (fun d=>br fe (rz a b) [⟨[],[],[0]⟩,⟨[],[],[0]⟩])
def Ll(a:List Int)(b:Nat) :T ((Empty)⊕(eN)) :=
  .leaf (.inr (.r0 a b))
def an(a:List Int) :Option eN:=mz (aO ((Oz).run) fun _ =>
  aO (gR (tt a) (List.length a)) fun b =>
  (Ll a b).run)
theorem OB(a:Lv)(b:List Int){x:eN}(h:an b=some x) :af prog lJ [] [.imm a (.ns .u64 b) 1 1 0 (List.length b)] (ym a x) :=
  ny false (ym a) (tr a) h (Sg.cut 1 ry (br fe (Oy a b) [⟨[],[],[0]⟩]) (fun _=>Sg.cut 1 ry (GD ⟨[],[],[0]⟩ (rz a b) (Cr a b) 0 ry (Ow _) (fun c=>Lk a b c)) (fun f=>br fe mU [⟨[],[],[2]⟩])))
    (fun x=>by cases x with | r0 d e=>exact mb [.imm a (.ns .u64 d) 1 1 0 e])
def cI:Option eN→Bool
  | some _=>true
  | none=>false
def aN:Option eN→List Int
  | some (.r0 x _)=>x
  | _=>[]
def ay:Option eN→Nat
  | some (.r0 _ x)=>x
  | _=>0
theorem OC{x:Option eN}(h:cI x=true) :x=some (.r0 (aN x) (ay x)):=by
  unfold cI at h
  split at h<;>first | rfl | (cases h;done) | (rename_i y;cases y;rfl)
def Fd:aw:=ca lJ (.cons (.ns .u64) .nil) fun t=>(fun q=>[⟨ym t.1.1 (.r0 (aN q) (ay q)),[cI q]⟩]) (an t.1.2)
theorem Hd:aM prog Fd:=aP fun t=>(aQ (fun h=>OB t.1.1 t.1.2 (OC h)) aZ)
def Fe:List aw:=Fd::rx
theorem sb:aG prog (aD Fe):=ap Hd fe
inductive fU where
  | r0 (a:Nat) (b:Nat) (c:List Int)
def Ff:fU→AE×aC
  | .r0 a b c=>(.ret,⟨aj 12 [(2,.sl 0 1 1 0 a a),(3,.int .i64 ((b:Nat):Int))],[(0,.ns .u64 c)],1⟩)
theorem OD:jU Ff:=by intro x;cases x<;>(intro h;cases h)
def yn:fU→fZ
  | .r0 a b c=>⟨.tup [.imm .free (.ns .u64 c) 1 1 0 a,.int .i64 ((b:Nat):Int)],[]⟩
def OE(a:Lv) :Nat×(List Int)×Nat→aC:=fun (b,c,d)=>⟨aj 12 [(1,.ptr 0 1 0 0),(4,.int .i64 ((b:Nat):Int))],[(0,.vs [.imm a (.ns .u64 c) 1 1 0 d])],1⟩
def OF(a:List Int) :T ((Nat×(List Int)×Nat)⊕(fU)) :=
  .ask (decide ((0:Int)<(1:Int)))
    (.need (fu (0:Int) 1)<|.need (aI 0 (List.length a) a)<|.need (cI (an (aa 0 (List.length a) a)))<|.ask (decide ((((ay (an (aa 0 (List.length a) a))):Nat):Int)>(4096:Int)))
      (.leaf (.inl (2,(aN (an (aa 0 (List.length a) a))),(ay (an (aa 0 (List.length a) a))))))
      (.need (dW .i64 (1:Int))<|.ask (decide ((1:Int)<(1:Int)))
        (.fail)
        (.leaf (.inl (0,(aN (an (aa 0 (List.length a) a))),(ay (an (aa 0 (List.length a) a))))))))
    (.fail)
def OG(c:Nat)(a:List Int)(b:Nat) :T ((Empty)⊕(fU)) :=
  .ask (((c:Nat):Int) != (0:Int))
    (.leaf (.inr (.r0 0 c ([]:List Int))))
    (.need (aI 0 b a)<|.need (Uc (List.length (aa 0 b a)))<|.leaf (.inr (.r0 (List.length (aa 0 b a)) 0 (aa 0 b a))))
def lK(a:List Int) :Option fU:=mz (aO ((OF a).run) fun (b,c,d) =>
  (OG b c d).run)
theorem OH(b:Lv)(a:List Int){x:fU}(h:lK a=some x) :af prog xY [] [.imm b (.ns .u64 a) 1 1 0 (List.length a)] (yn x) :=
  ny true yn Ff h (Sg.cut 2 OD (br sb (OE b) [⟨[],[0],[1,4]⟩,⟨[],[0],[1,4]⟩]) (fun ⟨e,f,g⟩=>br sb mU [⟨[(.slot 2,.own 1 1 (.ns .u64 ([]:List Int)))],[81],[2,3]⟩,⟨[],[49],[2,3]⟩]))
    (fun x=>by cases x with | r0 c d i=>exact mb [.sl 0 1 1 0 c c,.int .i64 ((d:Nat):Int)])
def oU:Option fU→Bool
  | some _=>true
  | none=>false
def sc:Option fU→Nat
  | some (.r0 x _ _)=>x
  | _=>0
def sd:Option fU→Nat
  | some (.r0 _ x _)=>x
  | _=>0
def se:Option fU→List Int
  | some (.r0 _ _ x)=>x
  | _=>[]
theorem OI{x:Option fU}(h:oU x=true) :x=some (.r0 (sc x) (sd x) (se x)):=by
  unfold oU at h
  split at h<;>first | rfl | (cases h;done) | (rename_i y;cases y;rfl)
def Fg:aw:=ca xY (.cons (.ns .u64) .nil) fun t=>(fun q=>[⟨yn (.r0 (sc q) (sd q) (se q)),[oU q]⟩]) (lK t.1.2)
theorem He:aM prog Fg:=aP fun t=>(aQ (fun h=>OH t.1.1 t.1.2 (OI h)) aZ)
def Fh:List aw:=Fg::Fe
theorem kp:aG prog (aD Fh):=ap He sb
inductive bY where
  | r0 (a:Nat) (b:Nat) (c:Nat) (d:List Int)
def oo:bY→AE×aC
  | .r0 a b c d=>(.ret,⟨aj 21 [(2,.sl 0 1 1 a b c)],[(0,.ns .u64 d)],1⟩)
theorem mB:jU oo:=by intro x;cases x<;>(intro h;cases h)
theorem Fi(id:Nat) :oT id oo:=by intro x;cases x<;>(intro h;cases h)
def sf:bY→fZ
  | .r0 a b c d=>⟨.sl 0 1 1 a b c,[some (.ns .u64 d)]⟩
def Fj:List Code:=dd (pf lJ)
def Fk(a:List Int)(b:Nat)(c:Nat)(d:Nat)(_:Unit) :aC:=⟨aj 21 [(0,.sl 0 1 1 b c d)],[(0,.ns .u64 a)],1⟩
def Fl:T ((Unit)⊕(bY)) :=
  .leaf (.inl ())
def mC(a:List Int)(b:Nat) :Nat×Nat→aC:=fun (c,d)=>⟨aj 21 [(0,.sl 0 1 1 c d b)],[(0,.ns .u64 a)],1⟩
def vH(a:List Int)(b:Nat) :Nat×Nat→aC:=fun (c,d)=>⟨aj 21 [(0,.sl 0 1 1 c d b)],[(0,.ns .u64 a)],1⟩
def C4:List Code:=dd (fy ((((Fj.drop 1).take 1)).headD .skip))
def Fm(a:List Int)(b:Nat)(c:Nat)(d:Nat)(e:Bool) :aC:=⟨aj 21 [(0,.sl 0 1 1 c d b),(14,.bool false e)],[(0,.ns .u64 a)],1⟩
def C5(b:List Int)(c:Nat)(a:Nat) :T ((Bool)⊕((Nat×Nat)⊕(bY))) :=
  .ask (decide (((a:Nat):Int)>(0:Int)))
    (.need (dW .i64 (((a:Nat):Int)-(1:Int)))<|.need (fu (((a:Nat):Int)-(1:Int)) a)<|.need (fW (eE c (Int.toNat (((a:Nat):Int)-(1:Int)))) (List.length b))<|.leaf (.inl ((List.getD b (eE c (Int.toNat (((a:Nat):Int)-(1:Int)))) 0)==(0:Int))))
    (.leaf (.inl false))
def C6(c:Nat)(b:Nat)(a:Nat)(d:Bool) :T ((Nat×Nat)⊕((Nat×Nat)⊕(bY))) :=
  .ask d
    (.need (dW .i64 (((a:Nat):Int)-(1:Int)))<|.need (uT (((a:Nat):Int)-(1:Int)) c)<|.need (uT (0:Int) (Int.toNat (((a:Nat):Int)-(1:Int))))<|.leaf (.inl ((eE b 0),(Int.toNat (((a:Nat):Int)-(1:Int))))))
    (.leaf (.inr (.inl (b,a))))
def pk(c:List Int)(d:Nat) :Nat×Nat→Option ((Nat×Nat)⊕((Nat×Nat)⊕(bY))):=fun (a,b) =>
  aO ((C5 c a b).run) fun e =>
  (C6 d a b e).run
theorem C7(a:List Int)(b:Nat)(c:Nat)(d:Nat) :Sg prog [.ns .u64 a] C4 (mC a b (c,d)) (pk a b (c,d)) (mC a b) (dR 0 (vH a b) oo):=by
  unfold pk;exact Sg.cut 1 (bb mB) (br kp (Fm a b c d) [⟨[],[0],[0,14]⟩,⟨[],[0],[0,14]⟩]) (fun e=>br kp (mC a b) [⟨[],[0],[0]⟩,⟨[],[0],[0]⟩])
def C8(a:List Int)(b:Nat)(c:Nat)(d:Nat) :T ((Empty)⊕(bY)) :=
  .leaf (.inr (.r0 c d b a))
def aT(a:List Int)(c:Nat)(d:Nat)(b:Nat) :Option bY:=mz (aO ((Fl).run) fun _ =>
  aO (gR (pk a b) (c,d)) fun (e,f) =>
  (C8 a b e f).run)
theorem Fo(a:List Int)(c:Nat)(d:Nat)(b:Nat){x:bY}(h:aT a c d b=some x) :af prog lJ [.ns .u64 a] [.sl 0 1 1 c d b] (sf x) :=
  ny false sf oo h (Sg.cut 1 mB (br kp (Fk a c d b) [⟨[],[0],[0]⟩]) (fun _=>Sg.cut 1 mB (GD ⟨[],[0],[0]⟩ (mC a b) (vH a b) 0 mB (Fi _) (fun ⟨e,f⟩=>C7 a b e f)) (fun ⟨k,l⟩=>br kp mU [⟨[],[0],[2]⟩])))
    (fun x=>by cases x with | r0 g i j m=>exact mb [.sl 0 1 1 g i j])
def ff:Option bY→Bool
  | some _=>true
  | none=>false
def eO:Option bY→Nat
  | some (.r0 x _ _ _)=>x
  | _=>0
def eP:Option bY→Nat
  | some (.r0 _ x _ _)=>x
  | _=>0
def eQ:Option bY→Nat
  | some (.r0 _ _ x _)=>x
  | _=>0
def eR:Option bY→List Int
  | some (.r0 _ _ _ x)=>x
  | _=>[]
theorem Fp{x:Option bY}(h:ff x=true) :x=some (.r0 (eO x) (eP x) (eQ x) (eR x)):=by
  unfold ff at h
  split at h<;>first | rfl | (cases h;done) | (rename_i y;cases y;rfl)
def xd:aw:=On lJ [.ns .u64] (.cons (.lsl 0) .nil) fun x t=>(fun q=>[⟨sf (.r0 (eO q) (eP q) (eQ q) (eR q)),[ff q]⟩]) (aT x.1 t.1.1 t.1.2.1 t.1.2.2)
theorem BB:aM prog xd:=Fa fun x t=>(wG (fun h=>Fo x.1 t.1.1 t.1.2.1 t.1.2.2 (Fp h)) Fb)
def xe:List aw:=xd::Fh
theorem nI:aG prog (aD xe):=ap BB kp
inductive iF where
  | r0 (a:Nat) (b:Nat) (c:Nat) (d:List Int)
def OJ:iF→AE×aC
  | .r0 a b c d=>(.ret,⟨aj 6 [(2,.sl 0 1 1 a b c)],[(0,.ns .u64 d)],1⟩)
theorem U2:jU OJ:=by intro x;cases x<;>(intro h;cases h)
def Fq:iF→fZ
  | .r0 a b d c=>⟨.imm .free (.ns .u64 c) 1 1 a b,[]⟩
def U3:Nat×Nat×Nat×(List Int)→aC:=fun (a,b,c,d)=>⟨aj 6 [(2,.sl 0 1 1 a b c)],[(0,.ns .u64 d)],1⟩
def U4(a:Int) :T ((Nat×Nat×Nat×(List Int))⊕(iF)) :=
  .need (ff (aT [a] 0 1 1))<|.leaf (.inl ((eO (aT [a] 0 1 1)),(eP (aT [a] 0 1 1)),(eQ (aT [a] 0 1 1)),(eR (aT [a] 0 1 1))))
def U5(a:Nat)(b:Nat)(c:Nat)(d:List Int) :T ((Empty)⊕(iF)) :=
  .leaf (.inr (.r0 a b c d))
def aY(a:Int) :Option iF:=mz (aO ((U4 a).run) fun (b,c,d,e) =>
  (U5 b c d e).run)
theorem U6(a:Int){x:iF}(h:aY a=some x) :af prog EX [] [.int .u64 a] (Fq x) :=
  ny true Fq OJ h (Sg.cut 2 U2 (br nI U3 [⟨[],[32],[2]⟩]) (fun ⟨e,f,g,i⟩=>br nI mU [⟨[],[0],[2]⟩]))
    (fun x=>by cases x with | r0 b c d j=>exact mb [.sl 0 1 1 b c d])
def sD:Option iF→Bool
  | some _=>true
  | none=>false
def cJ:Option iF→Nat
  | some (.r0 x _ _ _)=>x
  | _=>0
def cK:Option iF→Nat
  | some (.r0 _ x _ _)=>x
  | _=>0
def Cs:Option iF→Nat
  | some (.r0 _ _ x _)=>x
  | _=>0
def cL:Option iF→List Int
  | some (.r0 _ _ _ x)=>x
  | _=>[]
theorem U7{x:Option iF}(h:sD x=true) :x=some (.r0 (cJ x) (cK x) (Cs x) (cL x)):=by
  unfold sD at h
  split at h<;>first | rfl | (cases h;done) | (rename_i y;cases y;rfl)
def OK:aw:=ca EX (.cons (.int .u64) .nil) fun t=>(fun q=>[⟨Fq (.r0 (cJ q) (cK q) (Cs q) (cL q)),[sD q]⟩]) (aY t.1)
theorem OL:aM prog OK:=aP fun t=>(aQ (fun h=>U6 t.1 (U7 h)) aZ)
def OM:List aw:=OK::xe
theorem rA:aG prog (aD OM):=ap OL nI
inductive gS where
  | r0 (a:Int)
def wH:gS→AE×aC
  | .r0 a=>(.ret,⟨aj 45 [(4,.int .i64 a)],[],0⟩)
theorem yo:jU wH:=by intro x;cases x<;>(intro h;cases h)
theorem RQ(id:Nat) :oT id wH:=by intro x;cases x<;>(intro h;cases h)
def BC:gS→fZ
  | .r0 a=>⟨.int .i64 a,[]⟩
def RR:List Code:=dd (pf Bv)
def RS(c:Lv)(a:List Int)(d:Lv)(b:List Int)(e:Int) :aC:=⟨aj 45 [(0,.imm c (.ns .u64 a) 1 1 0 (List.length a)),(1,.imm d (.ns .u64 b) 1 1 0 (List.length b)),(5,.int .i64 e)],[],0⟩
def RT(a:List Int)(b:List Int) :T ((Int)⊕(gS)) :=
  .ask (decide ((((List.length a):Nat):Int)<(((List.length b):Nat):Int)))
    (.leaf (.inr (.r0 (-1:Int))))
    (.ask (decide ((((List.length a):Nat):Int)>(((List.length b):Nat):Int)))
      (.leaf (.inr (.r0 (1:Int))))
      (.need (dW .i64 ((((List.length a):Nat):Int)-(1:Int)))<|.leaf (.inl ((((List.length a):Nat):Int)-(1:Int)))))
def tu(c:Lv)(a:List Int)(d:Lv)(b:List Int)(e:Int) :aC:=⟨aj 45 [(0,.imm c (.ns .u64 a) 1 1 0 (List.length a)),(1,.imm d (.ns .u64 b) 1 1 0 (List.length b)),(5,.int .i64 e)],[],0⟩
def Fr(_:Unit) :aC:=⟨aj 45 [],[],0⟩
def RU:List Code:=dd (fy ((((RR.drop 3).take 1)).headD .skip))
def RV(b:List Int)(c:List Int)(a:Int) :T ((Int)⊕((Unit)⊕(gS))) :=
  .ask (decide (a≥(0:Int)))
    (.need (fu a (List.length b))<|.need (fW (Int.toNat a) (List.length b))<|.need (fu a (List.length c))<|.need (fW (Int.toNat a) (List.length c))<|.ask (decide ((List.getD b (Int.toNat a) 0)<(List.getD c (Int.toNat a) 0)))
      (.leaf (.inr (.inr (.r0 (-1:Int)))))
      (.need (fu a (List.length b))<|.need (fW (Int.toNat a) (List.length b))<|.need (fu a (List.length c))<|.need (fW (Int.toNat a) (List.length c))<|.ask (decide ((List.getD b (Int.toNat a) 0)>(List.getD c (Int.toNat a) 0)))
        (.leaf (.inr (.inr (.r0 (1:Int)))))
        (.need (dW .i64 (a-(1:Int)))<|.leaf (.inl (a-(1:Int))))))
    (.leaf (.inr (.inl ())))
def vI(a:List Int)(b:List Int) :Int→Option ((Int)⊕((Unit)⊕(gS))):=fun c =>
  (RV a b c).run
theorem ON(c:Lv)(a:List Int)(d:Lv)(b:List Int)(e:Int) :Sg prog [] RU (tu c a d b e) (vI a b e) (tu c a d b) (dR 1 Fr wH):=by
  unfold vI;exact br rA (tu c a d b) [⟨[],[],[4]⟩,⟨[],[],[4]⟩,⟨[],[],[0,1,5]⟩,⟨[],[],[]⟩]
def OO:T ((Empty)⊕(gS)) :=
  .leaf (.inr (.r0 (0:Int)))
def qq(a:List Int)(b:List Int) :Option gS:=mz (aO ((RT a b).run) fun c =>
  aO (gR (vI a b) c) fun _ =>
  (OO).run)
theorem RW(c:Lv)(a:List Int)(d:Lv)(b:List Int){x:gS}(h:qq a b=some x) :af prog Bv [] [.imm c (.ns .u64 a) 1 1 0 (List.length a),.imm d (.ns .u64 b) 1 1 0 (List.length b)] (BC x) :=
  ny false BC wH h (Sg.cut 3 yo (br rA (RS c a d b) [⟨[],[],[4]⟩,⟨[],[],[4]⟩,⟨[],[],[0,1,5]⟩]) (fun g=>Sg.cut 1 yo (GD ⟨[],[],[0,1,5]⟩ (tu c a d b) (Fr) 1 yo (RQ _) (fun e=>ON c a d b e)) (fun _=>br rA mU [⟨[],[],[4]⟩])))
    (fun x=>by cases x with | r0 f=>exact mb [.int .i64 f])
def qJ:Option gS→Bool
  | some _=>true
  | none=>false
def pW:Option gS→Int
  | some (.r0 x)=>x
  | _=>0
theorem RX{x:Option gS}(h:qJ x=true) :x=some (.r0 (pW x)):=by
  unfold qJ at h
  split at h<;>first | rfl | (cases h;done) | (rename_i y;cases y;rfl)
def JF:aw:=ca Bv (.cons (.ns .u64) (.cons (.ns .u64) .nil)) fun t=>(fun q=>[⟨BC (.r0 (pW q)),[qJ q]⟩]) (qq t.1.2 t.2.1.2)
theorem Lm:aM prog JF:=aP fun t=>(aQ (fun h=>RW t.1.1 t.1.2 t.2.1.1 t.2.1.2 (RX h)) aZ)
def JG:List aw:=JF::OM
theorem pX:aG prog (aD JG):=ap Lm rA
inductive gT where
  | r0 (a:Int) (b:Nat)
def JH:gT→AE×aC
  | .r0 a b=>(.ret,⟨aj 15 [(4,.int .i64 a),(5,.int .i64 ((b:Nat):Int))],[],0⟩)
theorem Fs:jU JH:=by intro x;cases x<;>(intro h;cases h)
def BD:gT→fZ
  | .r0 a b=>⟨.tup [.int .i64 a,.int .i64 ((b:Nat):Int)],[]⟩
def RY(a:Lv)(b:Lv) :Nat×(List Int)×Nat×(List Int)×Nat→aC:=fun (c,d,e,f,g)=>⟨aj 15 [(2,.ptr 0 1 0 0),(3,.ptr 1 1 0 0),(6,.int .i64 ((c:Nat):Int))],[(0,.vs [.imm a (.ns .u64 d) 1 1 0 e]),(1,.vs [.imm b (.ns .u64 f) 1 1 0 g])],2⟩
def RZ(a : List Int)(b : List Int) : T ((Nat × (List Int) × Nat × (List Int) × Nat) ⊕ (gT)) :=
  .ask (decide ((0:Int)<(2:Int)))
    (.need (fu (0:Int) 2)<|.need (aI 0 (List.length a) a)<|.need (cI (an (aa 0 (List.length a) a)))<|.ask (decide ((((ay (an (aa 0 (List.length a) a))):Nat):Int)>(4096:Int)))
      (.leaf (.inl (2,(aN (an (aa 0 (List.length a) a))),(ay (an (aa 0 (List.length a) a))),b,(List.length b))))
      (.need (dW .i64 (1:Int))<|.ask (decide ((1:Int)<(2:Int)))
        (.need (fu (1:Int) 2)<|.need (aI 0 (List.length b) b)<|.need (cI (an (aa 0 (List.length b) b)))<|.ask (decide ((((ay (an (aa 0 (List.length b) b))):Nat):Int)>(4096:Int)))
          (.leaf (.inl (2,(aN (an (aa 0 (List.length a) a))),(ay (an (aa 0 (List.length a) a))),(aN (an (aa 0 (List.length b) b))),(ay (an (aa 0 (List.length b) b))))))
          (.need (dW .i64 (2:Int))<|.ask (decide ((2:Int)<(2:Int)))
            (.fail)
            (.leaf (.inl (0,(aN (an (aa 0 (List.length a) a))),(ay (an (aa 0 (List.length a) a))),(aN (an (aa 0 (List.length b) b))),(ay (an (aa 0 (List.length b) b))))))))
        (.fail)))
    (.fail)
def R0(a:Int) :aC:=⟨aj 15 [(4,.int .i64 a),(5,.int .i64 (0:Int))],[],0⟩
def R1(e:Nat)(a:List Int)(b:Nat)(c:List Int)(d:Nat) :T ((Int)⊕(gT)) :=
  .ask (((e:Nat):Int) != (0:Int))
    (.leaf (.inr (.r0 (0:Int) e)))
    (.need (aI 0 b a)<|.need (aI 0 d c)<|.need (qJ (qq (aa 0 b a) (aa 0 d c)))<|.leaf (.inl (pW (qq (aa 0 b a) (aa 0 d c)))))
def R2(a:Int) :T ((Empty)⊕(gT)) :=
  .leaf (.inr (.r0 a 0))
def qr(a:List Int)(b:List Int) :Option gT:=mz (aO ((RZ a b).run) fun (c,d,e,f,g) =>
  aO ((R1 c d e f g).run) fun h =>
  (R2 h).run)
theorem R3(c:Lv)(a:List Int)(d:Lv)(b:List Int){x:gT}(h:qr a b=some x) :af prog Bs [] [.imm c (.ns .u64 a) 1 1 0 (List.length a),.imm d (.ns .u64 b) 1 1 0 (List.length b)] (BD x) :=
  ny true BD JH h (Sg.cut 2 Fs (br pX (RY c d) [⟨[],[0,16],[2,3,6]⟩,⟨[],[0,16],[2,3,6]⟩,⟨[],[0,16],[2,3,6]⟩]) (fun ⟨g,i,j,k,l⟩=>Sg.cut 3 Fs (br pX R0 [⟨[],[],[4,5]⟩,⟨[],[],[4,5]⟩]) (fun m=>br pX mU [⟨[],[],[4,5]⟩])))
    (fun x=>by cases x with | r0 e f=>exact mb [.int .i64 e,.int .i64 ((f:Nat):Int)])
def qK:Option gT→Bool
  | some _=>true
  | none=>false
def pY:Option gT→Int
  | some (.r0 x _)=>x
  | _=>0
def zO:Option gT→Nat
  | some (.r0 _ x)=>x
  | _=>0
theorem R4{x:Option gT}(h:qK x=true) :x=some (.r0 (pY x) (zO x)):=by
  unfold qK at h
  split at h<;>first | rfl | (cases h;done) | (rename_i y;cases y;rfl)
def JI:aw:=ca Bs (.cons (.ns .u64) (.cons (.ns .u64) .nil)) fun t=>(fun q=>[⟨BD (.r0 (pY q) (zO q)),[qK q]⟩]) (qr t.1.2 t.2.1.2)
theorem Ln:aM prog JI:=aP fun t=>(aQ (fun h=>R3 t.1.1 t.1.2 t.2.1.1 t.2.1.2 (R4 h)) aZ)
def JJ:List aw:=JI::JG
theorem tw:aG prog (aD JJ):=ap Ln pX
inductive dN where
  | r0 (a:List Int)
  | r1 (b:Nat) (c:Nat) (d:Nat) (e:List Int)
def Ft:dN→AE×aC
  | .r0 a=>(.ret,⟨aj 10 [(2,.nsl),(3,.int .i64 (3:Int))],[(0,.ns .u64 a)],1⟩)
  | .r1 b c d e=>(.ret,⟨aj 10 [(2,.sl 0 1 1 b c d),(3,.int .i64 (0:Int))],[(0,.ns .u64 e)],1⟩)
theorem OP:jU Ft:=by intro x;cases x<;>(intro h;cases h)
def tx:dN→fZ
  | .r0 a=>⟨.tup [.nsl,.int .i64 (3:Int)],[some (.ns .u64 a)]⟩
  | .r1 b c d e=>⟨.tup [.sl 0 1 1 b c d,.int .i64 (0:Int)],[some (.ns .u64 e)]⟩
def OQ:Nat×Nat×Nat×(List Int)→aC:=fun (a,b,c,d)=>⟨aj 10 [(0,.sl 0 1 1 a b c)],[(0,.ns .u64 d)],1⟩
def OR(a:List Int)(b:Nat)(c:Nat)(d:Nat) :T ((Nat×Nat×Nat×(List Int))⊕(dN)) :=
  .need (ff (aT a b c d))<|.leaf (.inl ((eO (aT a b c d)),(eP (aT a b c d)),(eQ (aT a b c d)),(eR (aT a b c d))))
def OS(c:Nat)(a:Nat)(d:Nat)(b:List Int) :T ((Empty)⊕(dN)) :=
  .ask (decide (((a:Nat):Int)>(4096:Int)))
    (.leaf (.inr (.r0 b)))
    (.leaf (.inr (.r1 c a d b)))
def ed(a:List Int)(b:Nat)(c:Nat)(d:Nat) :Option dN:=mz (aO ((OR a b c d).run) fun (e,f,g,h) =>
  (OS e f g h).run)
theorem Ct(a:List Int)(b:Nat)(c:Nat)(d:Nat){x:dN}(h:ed a b c d=some x) :af prog qH [.ns .u64 a] [.sl 0 1 1 b c d] (tx x) :=
  ny false tx Ft h (Sg.cut 2 OP (br tw OQ [⟨[],[0],[0]⟩]) (fun ⟨i,j,k,l⟩=>br tw mU [⟨[],[0],[2,3]⟩,⟨[],[0],[2,3]⟩]))
    (fun x=>by cases x with | r0 m=>exact mb [.nsl,.int .i64 (3:Int)] | r1 e f g n=>exact mb [.sl 0 1 1 e f g,.int .i64 (0:Int)])
def oV:Option dN→Bool
  | some (.r0 _)=>true
  | _=>false
def xf:Option dN→List Int
  | some (.r0 x)=>x
  | _=>[]
theorem OT{x:Option dN}(h:oV x=true) :x=some (.r0 (xf x)):=by
  unfold oV at h
  split at h<;>first | rfl | (cases h;done) | (rename_i y;cases y;rfl)
def oW:Option dN→Bool
  | some (.r1 _ _ _ _)=>true
  | _=>false
def oq:Option dN→Nat
  | some (.r1 x _ _ _)=>x
  | _=>0
def ot:Option dN→Nat
  | some (.r1 _ x _ _)=>x
  | _=>0
def ou:Option dN→Nat
  | some (.r1 _ _ x _)=>x
  | _=>0
def ov:Option dN→List Int
  | some (.r1 _ _ _ x)=>x
  | _=>[]
theorem OU{x:Option dN}(h:oW x=true) :x=some (.r1 (oq x) (ot x) (ou x) (ov x)):=by
  unfold oW at h
  split at h<;>first | rfl | (cases h;done) | (rename_i y;cases y;rfl)
def Fu:aw:=On qH [.ns .u64] (.cons (.lsl 0) .nil) fun x t=>(fun q=>[⟨tx (.r0 (xf q)),[oV q]⟩,⟨tx (.r1 (oq q) (ot q) (ou q) (ov q)),[oW q]⟩]) (ed x.1 t.1.1 t.1.2.1 t.1.2.2)
theorem Hf:aM prog Fu:=Fa fun x t=>(wG (fun h=>Ct x.1 t.1.1 t.1.2.1 t.1.2.2 (OT h)) (wG (fun h=>Ct x.1 t.1.1 t.1.2.1 t.1.2.2 (OU h)) Fb))
def Fv:List aw:=Fu::JJ
theorem fJ:aG prog (aD Fv):=ap Hf tw
inductive df where
  | r0 (a:Nat) (b:Nat) (c:Nat) (d:Nat) (e:List Int)
def wI:df→AE×aC
  | .r0 a b c d e=>(.ret,⟨aj 62 [(4,.sl 0 1 1 a b c),(5,.int .i64 ((d:Nat):Int))],[(0,.ns .u64 e)],1⟩)
theorem lL:jU wI:=by intro x;cases x<;>(intro h;cases h)
theorem R5(id:Nat) :oT id wI:=by intro x;cases x<;>(intro h;cases h)
def BE:df→fZ
  | .r0 a b e c d=>⟨.tup [.imm .free (.ns .u64 d) 1 1 a b,.int .i64 ((c:Nat):Int)],[]⟩
def OV:List Code:=dd (pf wC)
def R6(a:Lv)(b:Lv) :Nat×(List Int)×Nat×(List Int)×Nat→aC:=fun (c,d,e,f,g)=>⟨aj 62 [(2,.ptr 0 1 0 0),(3,.ptr 1 1 0 0),(6,.int .i64 ((c:Nat):Int))],[(0,.vs [.imm a (.ns .u64 d) 1 1 0 e]),(1,.vs [.imm b (.ns .u64 f) 1 1 0 g])],2⟩
def OW(a : List Int)(b : List Int) : T ((Nat × (List Int) × Nat × (List Int) × Nat) ⊕ (df)) :=
  .ask (decide ((0:Int)<(2:Int)))
    (.need (fu (0:Int) 2)<|.need (aI 0 (List.length a) a)<|.need (cI (an (aa 0 (List.length a) a)))<|.ask (decide ((((ay (an (aa 0 (List.length a) a))):Nat):Int)>(4096:Int)))
      (.leaf (.inl (2,(aN (an (aa 0 (List.length a) a))),(ay (an (aa 0 (List.length a) a))),b,(List.length b))))
      (.need (dW .i64 (1:Int))<|.ask (decide ((1:Int)<(2:Int)))
        (.need (fu (1:Int) 2)<|.need (aI 0 (List.length b) b)<|.need (cI (an (aa 0 (List.length b) b)))<|.ask (decide ((((ay (an (aa 0 (List.length b) b))):Nat):Int)>(4096:Int)))
          (.leaf (.inl (2,(aN (an (aa 0 (List.length a) a))),(ay (an (aa 0 (List.length a) a))),(aN (an (aa 0 (List.length b) b))),(ay (an (aa 0 (List.length b) b))))))
          (.need (dW .i64 (2:Int))<|.ask (decide ((2:Int)<(2:Int)))
            (.fail)
            (.leaf (.inl (0,(aN (an (aa 0 (List.length a) a))),(ay (an (aa 0 (List.length a) a))),(aN (an (aa 0 (List.length b) b))),(ay (an (aa 0 (List.length b) b))))))))
        (.fail)))
    (.fail)
def R7:(List Int)×Nat×(List Int)×Nat→aC:=fun (a,b,c,d)=>⟨aj 62 [(2,.ptr 0 1 0 0),(3,.ptr 1 1 0 0)],[(0,.vs [.imm .lent (.ns .u64 a) 1 1 0 b]),(1,.vs [.imm .lent (.ns .u64 c) 1 1 0 d])],2⟩
def OX(c:Nat)(d:List Int)(a:Nat)(e:List Int)(b:Nat) :T (((List Int)×Nat×(List Int)×Nat)⊕(df)) :=
  .ask (((c:Nat):Int) != (0:Int))
    (.leaf (.inr (.r0 0 0 0 c ([]:List Int))))
    (.ask (decide (((a:Nat):Int)<((b:Nat):Int)))
      (.leaf (.inl (e,b,d,a)))
      (.leaf (.inl (d,a,e,b))))
def R8(c:List Int)(a:Nat)(d:List Int)(e:Nat) :Nat×(List Int)→aC:=fun (b,f)=>⟨aj 62 [(2,.ptr 0 1 0 0),(3,.ptr 1 1 0 0),(7,.ptr 2 1 0 0),(8,.fn (.func rt) [] [.ptr 2 1 0 0]),(9,.sl 3 1 1 0 b b),(30,.int .i64 ((a:Nat):Int)),(31,.int .i64 (0:Int))],[(0,.vs [.imm .lent (.ns .u64 c) 1 1 0 a]),(1,.vs [.imm .lent (.ns .u64 d) 1 1 0 e]),(2,.vs [.int .u64 (0:Int)]),(3,.ns .u64 f)],4⟩
def OY(a:Nat) :T ((Nat×(List Int))⊕(df)) :=
  .need (dW .i64 (((a+1):Nat):Int))<|.need (decide ((0:Int)≤(((a+1):Nat):Int)))<|.need (decide ((((a+1):Nat):Int)≤(((a+1):Nat):Int)))<|.need (decide ((8:Int)*(((a+1):Nat):Int)≤140737488355328))<|.need (dW .i64 (((a+1):Nat):Int))<|.leaf (.inl ((a+1),(List.replicate (a+1) (0:Int))))
def tz(c:List Int)(a:Nat)(d:List Int)(e:Nat)(b:Nat) :Nat×Nat×(List Int)→aC:=fun (f,g,h)=>⟨aj 62 [(2,.ptr 0 1 0 0),(3,.ptr 1 1 0 0),(7,.ptr 2 1 0 0),(8,.fn (.func rt) [] [.ptr 2 1 0 0]),(9,.sl 3 1 1 0 b b),(30,.int .i64 ((a:Nat):Int)),(31,.int .i64 ((f:Nat):Int))],[(0,.vs [.imm .lent (.ns .u64 c) 1 1 0 a]),(1,.vs [.imm .lent (.ns .u64 d) 1 1 0 e]),(2,.vs [.int .u64 ((g:Nat):Int)]),(3,.ns .u64 h)],4⟩
def Fw(b:List Int)(c:Nat)(a:Nat) :Nat×(List Int)→aC:=fun (d,e)=>⟨aj 62 [(2,.ptr 0 1 0 0),(7,.ptr 1 1 0 0),(9,.sl 2 1 1 0 a a)],[(0,.vs [.imm .lent (.ns .u64 b) 1 1 0 c]),(1,.vs [.int .u64 ((d:Nat):Int)]),(2,.ns .u64 e)],3⟩
def OZ:List Code:=dd (fy ((((((OV.drop 2).drop 4).drop 4).take 1)).headD .skip))
def R9(c:List Int)(a:Nat)(d:List Int)(e:Nat)(b:Nat)(f:Nat) :Nat×(List Int)→aC:=fun (g,h)=>⟨aj 62 [(2,.ptr 0 1 0 0),(3,.ptr 1 1 0 0),(7,.ptr 2 1 0 0),(8,.fn (.func rt) [] [.ptr 2 1 0 0]),(9,.sl 3 1 1 0 b b),(30,.int .i64 ((a:Nat):Int)),(31,.int .i64 ((f:Nat):Int))],[(0,.vs [.imm .lent (.ns .u64 c) 1 1 0 a]),(1,.vs [.imm .lent (.ns .u64 d) 1 1 0 e]),(2,.vs [.int .u64 ((g:Nat):Int)]),(3,.ns .u64 h)],4⟩
def O0(c:List Int)(e:Nat)(f:List Int)(g:Nat)(h:Nat)(a:Nat)(b:Nat)(d:List Int) :T ((Nat×(List Int))⊕((Nat×(List Int))⊕(df))) :=
  .ask (decide (((a:Nat):Int)<((e:Nat):Int)))
    (.ask (decide (((a:Nat):Int)<((g:Nat):Int)))
      (.need (fu ((a:Nat):Int) g)<|.need (fW a (List.length f))<|.need (fu ((a:Nat):Int) e)<|.need (fW a (List.length c))<|.need (lZ b 1)<|.need (fu ((a:Nat):Int) h)<|.need (fW a (List.length d))<|.leaf (.inl ((((Int.toNat (List.getD c a 0))+(Int.toNat (List.getD f a 0))+b)/18446744073709551616),(List.set d a (((((Int.toNat (List.getD c a 0))+(Int.toNat (List.getD f a 0))+b)%18446744073709551616):Nat):Int)))))
      (.need (fu ((a:Nat):Int) e)<|.need (fW a (List.length c))<|.need (lZ b 1)<|.need (fu ((a:Nat):Int) h)<|.need (fW a (List.length d))<|.leaf (.inl ((((Int.toNat (List.getD c a 0))+0+b)/18446744073709551616),(List.set d a (((((Int.toNat (List.getD c a 0))+0+b)%18446744073709551616):Nat):Int))))))
    (.leaf (.inr (.inl (b,d))))
def O1(a:Nat)(b:Nat)(c:List Int) :T ((Nat×Nat×(List Int))⊕((Nat×(List Int))⊕(df))) :=
  .need (dW .i64 (((a+1):Nat):Int))<|.leaf (.inl ((a+1),b,c))
def vJ(b:List Int)(c:Nat)(d:List Int)(e:Nat)(f:Nat) :Nat×Nat×(List Int)→Option ((Nat×Nat×(List Int))⊕((Nat×(List Int))⊕(df))):=fun (a,g,h) =>
  aO ((O0 b c d e f a g h).run) fun (i,j) =>
  (O1 a i j).run
theorem O2(a:List Int)(b:Nat)(d:List Int)(e:Nat)(c:Nat)(f:Nat)(g:Nat)(h:List Int) :Sg prog [] OZ (tz a b d e c (f,g,h)) (vJ a b d e c (f,g,h)) (tz a b d e c) (dR 0 (Fw a b c) wI):=by
  unfold vJ;exact Sg.cut 3 (bb lL) (br fJ (R9 a b d e c f) [⟨[],[0,1,2,3],[2,3,7,8,9,30,31]⟩,⟨[],[0,1,2,3],[2,3,7,8,9,30,31]⟩,⟨[],[0,2,3],[2,7,9]⟩]) (fun ⟨i,j⟩=>br fJ (tz a b d e c) [⟨[],[0,1,2,3],[2,3,7,8,9,30,31]⟩])
def O3:Nat×Nat×Nat×Nat×(List Int)→aC:=fun (a,b,c,d,e)=>⟨aj 62 [(4,.sl 0 1 1 a b c),(5,.int .i64 ((d:Nat):Int))],[(0,.ns .u64 e)],1⟩
def O4(b:Nat)(a:Nat)(d:Nat)(c:List Int) :T ((Nat×Nat×Nat×Nat×(List Int))⊕(df)) :=
  .need (fu ((b:Nat):Int) a)<|.need (fW b (List.length c))<|.alt 0
    (.need (oV (ed (List.set c b ((d:Nat):Int)) 0 a a))<|.leaf (.inl (0,0,0,3,([]:List Int))))
    (.alt 1
      (.need (oW (ed (List.set c b ((d:Nat):Int)) 0 a a))<|.leaf (.inl ((oq (ed (List.set c b ((d:Nat):Int)) 0 a a)),(ot (ed (List.set c b ((d:Nat):Int)) 0 a a)),(ou (ed (List.set c b ((d:Nat):Int)) 0 a a)),0,(ov (ed (List.set c b ((d:Nat):Int)) 0 a a)))))
      (.fail))
def O5(a:Nat)(b:Nat)(c:Nat)(d:Nat)(e:List Int) :T ((Empty)⊕(df)) :=
  .leaf (.inr (.r0 a b c d e))
def bg(c:List Int)(d:List Int) :Option df:=mz (aO ((OW c d).run) fun (e,f,g,h,i) =>
  aO ((OX e f g h i).run) fun (j,a,k,l) =>
  aO ((OY a).run) fun (b,m) =>
  aO (gR (vJ j a k l b) (0,0,m)) fun (n,o) =>
  aO ((O4 a b n o).run) fun (p,q,r,s,t) =>
  (O5 p q r s t).run)
theorem Sa(i:Lv)(c:List Int)(j:Lv)(d:List Int){x:df}(h:bg c d=some x) :af prog wC [] [.imm i (.ns .u64 c) 1 1 0 (List.length c),.imm j (.ns .u64 d) 1 1 0 (List.length d)] (BE x) :=
  ny true BE wI h (Sg.cut 2 lL (br fJ (R6 i j) [⟨[],[0,16],[2,3,6]⟩,⟨[],[0,16],[2,3,6]⟩,⟨[],[0,16],[2,3,6]⟩]) (fun ⟨r,s,t,u,v⟩=>Sg.cut 4 lL (br fJ R7 [⟨[(.slot 4,.own 1 1 (.ns .u64 ([]:List Int)))],[82],[4,5]⟩,⟨[(.cell 0 0,.low),(.cell 1 0,.low)],[0,1],[2,3]⟩,⟨[(.cell 0 0,.low),(.cell 1 0,.low)],[0,1],[2,3]⟩]) (fun ⟨a,b,e,f⟩=>Sg.cut 4 lL (br fJ (R8 a b e f) [⟨[],[0,1,2,114],[2,3,7,8,9,30,31]⟩]) (fun ⟨g,w⟩=>Sg.cut 1 lL (GD ⟨[],[0,1,2,3],[2,3,7,8,9,30,31]⟩ (tz a b e f g) (Fw a b g) 0 lL (R5 _) (fun ⟨k,l,m⟩=>O2 a b e f g k l m)) (fun ⟨y,z⟩=>Sg.cut 2 lL (br fJ O3 [⟨[(.slot 4,.own 1 1 (.ns .u64 ([]:List Int)))],[195],[4,5]⟩,⟨[],[2],[4,5]⟩]) (fun ⟨A,B,C,D,E⟩=>br fJ mU [⟨[],[0],[4,5]⟩]))))))
    (fun x=>by cases x with | r0 n o p q F=>exact mb [.sl 0 1 1 n o p,.int .i64 ((q:Nat):Int)])
def tA:Option df→Bool
  | some _=>true
  | none=>false
def eW:Option df→Nat
  | some (.r0 x _ _ _ _)=>x
  | _=>0
def eX:Option df→Nat
  | some (.r0 _ x _ _ _)=>x
  | _=>0
def zP:Option df→Nat
  | some (.r0 _ _ x _ _)=>x
  | _=>0
def fB:Option df→Nat
  | some (.r0 _ _ _ x _)=>x
  | _=>0
def eY:Option df→List Int
  | some (.r0 _ _ _ _ x)=>x
  | _=>[]
theorem Sb{x:Option df}(h:tA x=true) :x=some (.r0 (eW x) (eX x) (zP x) (fB x) (eY x)):=by
  unfold tA at h
  split at h<;>first | rfl | (cases h;done) | (rename_i y;cases y;rfl)
def JK:aw:=ca wC (.cons (.ns .u64) (.cons (.ns .u64) .nil)) fun t=>(fun q=>[⟨BE (.r0 (eW q) (eX q) (zP q) (fB q) (eY q)),[tA q]⟩]) (bg t.1.2 t.2.1.2)
theorem Lo:aM prog JK:=aP fun t=>(aQ (fun h=>Sa t.1.1 t.1.2 t.2.1.1 t.2.1.2 (Sb h)) aZ)
def JL:List aw:=JK::Fv
theorem jH:aG prog (aD JL):=ap Lo fJ
inductive eB where
  | r0 (a:Nat) (b:Nat) (c:Nat) (d:List Int)
def wJ:eB→AE×aC
  | .r0 a b c d=>(.ret,⟨aj 40 [(4,.sl 0 1 1 a b c)],[(0,.ns .u64 d)],1⟩)
theorem qL:jU wJ:=by intro x;cases x<;>(intro h;cases h)
theorem Sc(id:Nat) :oT id wJ:=by intro x;cases x<;>(intro h;cases h)
def BF:eB→fZ
  | .r0 a b d c=>⟨.imm .free (.ns .u64 c) 1 1 a b,[]⟩
def O6:List Code:=dd (pf wE)
def Sd(d:Lv)(a:List Int)(e:Lv)(b:List Int) :Nat×(List Int)→aC:=fun (c,f)=>⟨aj 40 [(0,.imm d (.ns .u64 a) 1 1 0 (List.length a)),(1,.imm e (.ns .u64 b) 1 1 0 (List.length b)),(5,.sl 0 1 1 0 c c),(6,.int .u64 (0:Int)),(12,.int .i64 (((List.length a):Nat):Int)),(13,.int .i64 (0:Int))],[(0,.ns .u64 f)],1⟩
def O7(a:List Int) :T ((Nat×(List Int))⊕(eB)) :=
  .need (aI 0 (List.length a) a)<|.need (Uc (List.length (aa 0 (List.length a) a)))<|.leaf (.inl ((List.length (aa 0 (List.length a) a)),(aa 0 (List.length a) a)))
def tB(d:Lv)(a:List Int)(e:Lv)(b:List Int)(c:Nat) :Int×Nat×(List Int)→aC:=fun (f,g,h)=>⟨aj 40 [(0,.imm d (.ns .u64 a) 1 1 0 (List.length a)),(1,.imm e (.ns .u64 b) 1 1 0 (List.length b)),(5,.sl 0 1 1 0 c c),(6,.int .u64 f),(12,.int .i64 (((List.length a):Nat):Int)),(13,.int .i64 ((g:Nat):Int))],[(0,.ns .u64 h)],1⟩
def Fx(a:Nat)(b:(List Int)) :aC:=⟨aj 40 [(5,.sl 0 1 1 0 a a)],[(0,.ns .u64 b)],1⟩
def O8:List Code:=dd (fy ((((O6.drop 4).take 1)).headD .skip))
def Se(d:Lv)(a:List Int)(e:Lv)(b:List Int)(c:Nat)(f:Nat) :Int×(List Int)→aC:=fun (g,h)=>⟨aj 40 [(0,.imm d (.ns .u64 a) 1 1 0 (List.length a)),(1,.imm e (.ns .u64 b) 1 1 0 (List.length b)),(5,.sl 0 1 1 0 c c),(6,.int .u64 g),(12,.int .i64 (((List.length a):Nat):Int)),(13,.int .i64 ((f:Nat):Int))],[(0,.ns .u64 h)],1⟩
def O9(b:List Int)(d:List Int)(f:Nat)(c:Int)(a:Nat)(e:List Int) :T ((Int×(List Int))⊕(((List Int))⊕(eB))) :=
  .ask (decide (((a:Nat):Int)<(((List.length b):Nat):Int)))
    (.ask (decide (((a:Nat):Int)<(((List.length d):Nat):Int)))
      (.need (fu ((a:Nat):Int) (List.length d))<|.need (fW a (List.length d))<|.need (fu ((a:Nat):Int) (List.length b))<|.need (fW a (List.length b))<|.need (lZ (Int.toNat c) 1)<|.need (fu ((a:Nat):Int) f)<|.need (fW a (List.length e))<|.leaf (.inl ((bif Nat.blt (Int.toNat (List.getD b a 0)) ((Int.toNat (List.getD d a 0))+(Int.toNat c)) then (1:Int) else (0:Int)),(List.set e a (((((Int.toNat (List.getD b a 0))+18446744073709551616-(Int.toNat (List.getD d a 0))-(Int.toNat c))%18446744073709551616):Nat):Int)))))
      (.need (fu ((a:Nat):Int) (List.length b))<|.need (fW a (List.length b))<|.need (lZ (Int.toNat c) 1)<|.need (fu ((a:Nat):Int) f)<|.need (fW a (List.length e))<|.leaf (.inl ((bif Nat.blt (Int.toNat (List.getD b a 0)) (0+(Int.toNat c)) then (1:Int) else (0:Int)),(List.set e a (((((Int.toNat (List.getD b a 0))+18446744073709551616-0-(Int.toNat c))%18446744073709551616):Nat):Int))))))
    (.leaf (.inr (.inl e)))
def Pa(a:Nat)(b:Int)(c:List Int) :T ((Int×Nat×(List Int))⊕(((List Int))⊕(eB))) :=
  .need (dW .i64 (((a+1):Nat):Int))<|.leaf (.inl (b,(a+1),c))
def vK(b:List Int)(c:List Int)(d:Nat) :Int×Nat×(List Int)→Option ((Int×Nat×(List Int))⊕(((List Int))⊕(eB))):=fun (e,a,f) =>
  aO ((O9 b c d e a f).run) fun (g,h) =>
  (Pa a g h).run
theorem Pb(d:Lv)(b:List Int)(e:Lv)(c:List Int)(a:Nat)(g:Int)(f:Nat)(h:List Int) :Sg prog [] O8 (tB d b e c a (g,f,h)) (vK b c a (g,f,h)) (tB d b e c a) (dR 0 (Fx a) wJ):=by
  unfold vK;exact Sg.cut 3 (bb qL) (br jH (Se d b e c a f) [⟨[],[0],[0,1,5,6,12,13]⟩,⟨[],[0],[0,1,5,6,12,13]⟩,⟨[],[0],[5]⟩]) (fun ⟨i,j⟩=>br jH (tB d b e c a) [⟨[],[0],[0,1,5,6,12,13]⟩])
def Pc:Nat×Nat×Nat×(List Int)→aC:=fun (a,b,c,d)=>⟨aj 40 [(4,.sl 0 1 1 a b c)],[(0,.ns .u64 d)],1⟩
def Pd(a:Nat)(b:List Int) :T ((Nat×Nat×Nat×(List Int))⊕(eB)) :=
  .need (ff (aT b 0 a a))<|.leaf (.inl ((eO (aT b 0 a a)),(eP (aT b 0 a a)),(eQ (aT b 0 a a)),(eR (aT b 0 a a))))
def Pe(a:Nat)(b:Nat)(c:Nat)(d:List Int) :T ((Empty)⊕(eB)) :=
  .leaf (.inr (.r0 a b c d))
def qs(a:List Int)(c:List Int) :Option eB:=mz (aO ((O7 a).run) fun (b,d) =>
  aO (gR (vK a c b) ((0:Int),0,d)) fun e =>
  aO ((Pd b e).run) fun (f,g,h,i) =>
  (Pe f g h i).run)
theorem Sh(c:Lv)(a:List Int)(d:Lv)(b:List Int){x:eB}(h:qs a b=some x) :af prog wE [] [.imm c (.ns .u64 a) 1 1 0 (List.length a),.imm d (.ns .u64 b) 1 1 0 (List.length b)] (BF x) :=
  ny true BF wJ h (Sg.cut 4 qL (br jH (Sd c a d b) [⟨[],[32],[0,1,5,6,12,13]⟩]) (fun ⟨e,m⟩=>Sg.cut 1 qL (GD ⟨[],[0],[0,1,5,6,12,13]⟩ (tB c a d b e) (Fx e) 0 qL (Sc _) (fun ⟨f,g,i⟩=>Pb c a d b e f g i)) (fun n=>Sg.cut 1 qL (br jH Pc [⟨[],[0],[4]⟩]) (fun ⟨o,p,q,r⟩=>br jH mU [⟨[],[0],[4]⟩]))))
    (fun x=>by cases x with | r0 j k l s=>exact mb [.sl 0 1 1 j k l])
def tC:Option eB→Bool
  | some _=>true
  | none=>false
def tD:Option eB→Nat
  | some (.r0 x _ _ _)=>x
  | _=>0
def tE:Option eB→Nat
  | some (.r0 _ x _ _)=>x
  | _=>0
def zQ:Option eB→Nat
  | some (.r0 _ _ x _)=>x
  | _=>0
def tF:Option eB→List Int
  | some (.r0 _ _ _ x)=>x
  | _=>[]
theorem Si{x:Option eB}(h:tC x=true) :x=some (.r0 (tD x) (tE x) (zQ x) (tF x)):=by
  unfold tC at h
  split at h<;>first | rfl | (cases h;done) | (rename_i y;cases y;rfl)
def JM:aw:=ca wE (.cons (.ns .u64) (.cons (.ns .u64) .nil)) fun t=>(fun q=>[⟨BF (.r0 (tD q) (tE q) (zQ q) (tF q)),[tC q]⟩]) (qs t.1.2 t.2.1.2)
theorem Lp:aM prog JM:=aP fun t=>(aQ (fun h=>Sh t.1.1 t.1.2 t.2.1.1 t.2.1.2 (Si h)) aZ)
def JN:List aw:=JM::JL
theorem mD:aG prog (aD JN):=ap Lp jH
inductive fo where
  | r0 (a:List Int) (b:Nat) (c:Nat) (d:Nat)
def JO:fo→AE×aC
  | .r0 a b c d=>(.ret,⟨aj 20 [(4,.imm .free (.ns .u64 a) 1 1 b c),(5,.int .i64 ((d:Nat):Int))],[],0⟩)
theorem yp:jU JO:=by intro x;cases x<;>(intro h;cases h)
def BG:fo→fZ
  | .r0 a b c d=>⟨.tup [.imm .free (.ns .u64 a) 1 1 b c,.int .i64 ((d:Nat):Int)],[]⟩
def Sj(a:Lv)(b:Lv) :Nat×(List Int)×Nat×(List Int)×Nat→aC:=fun (c,d,e,f,g)=>⟨aj 20 [(2,.ptr 0 1 0 0),(3,.ptr 1 1 0 0),(6,.int .i64 ((c:Nat):Int))],[(0,.vs [.imm a (.ns .u64 d) 1 1 0 e]),(1,.vs [.imm b (.ns .u64 f) 1 1 0 g])],2⟩
def Sk(a : List Int)(b : List Int) : T ((Nat × (List Int) × Nat × (List Int) × Nat) ⊕ (fo)) :=
  .ask (decide ((0:Int)<(2:Int)))
    (.need (fu (0:Int) 2)<|.need (aI 0 (List.length a) a)<|.need (cI (an (aa 0 (List.length a) a)))<|.ask (decide ((((ay (an (aa 0 (List.length a) a))):Nat):Int)>(4096:Int)))
      (.leaf (.inl (2,(aN (an (aa 0 (List.length a) a))),(ay (an (aa 0 (List.length a) a))),b,(List.length b))))
      (.need (dW .i64 (1:Int))<|.ask (decide ((1:Int)<(2:Int)))
        (.need (fu (1:Int) 2)<|.need (aI 0 (List.length b) b)<|.need (cI (an (aa 0 (List.length b) b)))<|.ask (decide ((((ay (an (aa 0 (List.length b) b))):Nat):Int)>(4096:Int)))
          (.leaf (.inl (2,(aN (an (aa 0 (List.length a) a))),(ay (an (aa 0 (List.length a) a))),(aN (an (aa 0 (List.length b) b))),(ay (an (aa 0 (List.length b) b))))))
          (.need (dW .i64 (2:Int))<|.ask (decide ((2:Int)<(2:Int)))
            (.fail)
            (.leaf (.inl (0,(aN (an (aa 0 (List.length a) a))),(ay (an (aa 0 (List.length a) a))),(aN (an (aa 0 (List.length b) b))),(ay (an (aa 0 (List.length b) b))))))))
        (.fail)))
    (.fail)
def Sl(a:Lv)(b:Lv)(c:List Int)(d:Nat)(e:List Int)(f:Nat)(g:Bool) :aC:=⟨aj 20 [(2,.ptr 0 1 0 0),(3,.ptr 1 1 0 0),(16,.bool false g)],[(0,.vs [.imm a (.ns .u64 c) 1 1 0 d]),(1,.vs [.imm b (.ns .u64 e) 1 1 0 f])],2⟩
def Sm(e:Nat)(a:List Int)(b:Nat)(c:List Int)(d:Nat) :T ((Bool)⊕(fo)) :=
  .ask (((e:Nat):Int) != (0:Int))
    (.leaf (.inl true))
    (.need (aI 0 b a)<|.need (aI 0 d c)<|.need (qJ (qq (aa 0 b a) (aa 0 d c)))<|.leaf (.inl (decide ((pW (qq (aa 0 b a) (aa 0 d c)))<(0:Int)))))
def Sn:(List Int)×Nat×Nat→aC:=fun (a,b,c)=>⟨aj 20 [(4,.imm .free (.ns .u64 a) 1 1 b c),(5,.int .i64 (0:Int))],[],0⟩
def So(a:List Int)(b:Nat)(c:List Int)(d:Nat)(e:Bool) :T (((List Int)×Nat×Nat)⊕(fo)) :=
  .ask e
    (.leaf (.inr (.r0 ([]:List Int) 0 0 2)))
    (.need (aI 0 b a)<|.need (aI 0 d c)<|.need (tC (qs (aa 0 b a) (aa 0 d c)))<|.leaf (.inl ((tF (qs (aa 0 b a) (aa 0 d c))),(tD (qs (aa 0 b a) (aa 0 d c))),(tE (qs (aa 0 b a) (aa 0 d c))))))
def Sp(a:List Int)(b:Nat)(c:Nat) :T ((Empty)⊕(fo)) :=
  .leaf (.inr (.r0 a b c 0))
def ba(e:List Int)(f:List Int) :Option fo:=mz (aO ((Sk e f).run) fun (g,a,b,c,d) =>
  aO ((Sm g a b c d).run) fun h =>
  aO ((So a b c d h).run) fun (i,j,k) =>
  (Sp i j k).run)
theorem Sq(a:Lv)(b:List Int)(c:Lv)(d:List Int){x:fo}(h:ba b d=some x) :af prog Bx [] [.imm a (.ns .u64 b) 1 1 0 (List.length b),.imm c (.ns .u64 d) 1 1 0 (List.length d)] (BG x) :=
  ny true BG JO h (Sg.cut 2 yp (br mD (Sj a c) [⟨[],[0,16],[2,3,6]⟩,⟨[],[0,16],[2,3,6]⟩,⟨[],[0,16],[2,3,6]⟩]) (fun ⟨n,e,f,g,i⟩=>Sg.cut 1 yp (br mD (Sl a c e f g i) [⟨[],[0,1],[2,3,16]⟩,⟨[],[0,1],[2,3,16]⟩]) (fun o=>Sg.cut 2 yp (br mD Sn [⟨[(.slot 4,.fre 1 1 (.ns .u64 ([]:List Int)))],[],[4,5]⟩,⟨[],[],[4,5]⟩]) (fun ⟨p,q,r⟩=>br mD mU [⟨[],[],[4,5]⟩]))))
    (fun x=>by cases x with | r0 j k l m=>exact mb [.imm .free (.ns .u64 j) 1 1 k l,.int .i64 ((m:Nat):Int)])
def qM:Option fo→Bool
  | some _=>true
  | none=>false
def ee:Option fo→List Int
  | some (.r0 x _ _ _)=>x
  | _=>[]
def ef:Option fo→Nat
  | some (.r0 _ x _ _)=>x
  | _=>0
def eh:Option fo→Nat
  | some (.r0 _ _ x _)=>x
  | _=>0
def eZ:Option fo→Nat
  | some (.r0 _ _ _ x)=>x
  | _=>0
theorem Sr{x:Option fo}(h:qM x=true) :x=some (.r0 (ee x) (ef x) (eh x) (eZ x)):=by
  unfold qM at h
  split at h<;>first | rfl | (cases h;done) | (rename_i y;cases y;rfl)
def JP:aw:=ca Bx (.cons (.ns .u64) (.cons (.ns .u64) .nil)) fun t=>(fun q=>[⟨BG (.r0 (ee q) (ef q) (eh q) (eZ q)),[qM q]⟩]) (ba t.1.2 t.2.1.2)
theorem Lq:aM prog JP:=aP fun t=>(aQ (fun h=>Sq t.1.1 t.1.2 t.2.1.1 t.2.1.2 (Sr h)) aZ)
def JQ:List aw:=JP::JN
theorem mE:aG prog (aD JQ):=ap Lq mD
inductive fP where
  | r0 (a:Int) (b:List Int)
def wK:fP→AE×aC
  | .r0 a b=>(.ret,⟨aj 52 [(6,.int .u64 a)],[(0,.ns .u64 b)],1⟩)
theorem tG:jU wK:=by intro x;cases x<;>(intro h;cases h)
theorem Ss(id:Nat) :oT id wK:=by intro x;cases x<;>(intro h;cases h)
def BH:fP→fZ
  | .r0 a b=>⟨.int .u64 a,[some (.ns .u64 b)]⟩
def Pf:List Code:=dd (pf wA)
def St(b:List Int)(c:Nat)(d:Nat)(e:Nat)(f:Lv)(a:List Int)(g:Int)(_:Unit) :aC:=⟨aj 52 [(0,.sl 0 1 1 c d e),(1,.imm f (.ns .u64 a) 1 1 0 (List.length a)),(2,.int .u64 g),(7,.int .u64 (0:Int)),(13,.int .i64 (((List.length a):Nat):Int)),(14,.int .i64 (0:Int))],[(0,.ns .u64 b)],1⟩
def Pg:T ((Unit)⊕(fP)) :=
  .leaf (.inl ())
def tH(b:Nat)(c:Nat)(d:Nat)(e:Lv)(a:List Int)(f:Int) :Int×Nat×(List Int)→aC:=fun (g,h,i)=>⟨aj 52 [(0,.sl 0 1 1 b c d),(1,.imm e (.ns .u64 a) 1 1 0 (List.length a)),(2,.int .u64 f),(7,.int .u64 g),(13,.int .i64 (((List.length a):Nat):Int)),(14,.int .i64 ((h:Nat):Int))],[(0,.ns .u64 i)],1⟩
def Fy:Int×(List Int)→aC:=fun (a,b)=>⟨aj 52 [(7,.int .u64 a)],[(0,.ns .u64 b)],1⟩
def Ph:List Code:=dd (fy ((((Pf.drop 3).take 1)).headD .skip))
def Su(b:Nat)(c:Nat)(d:Nat)(e:Lv)(a:List Int)(f:Int)(g:Nat) :Int×(List Int)→aC:=fun (h,i)=>⟨aj 52 [(0,.sl 0 1 1 b c d),(1,.imm e (.ns .u64 a) 1 1 0 (List.length a)),(2,.int .u64 f),(7,.int .u64 h),(13,.int .i64 (((List.length a):Nat):Int)),(14,.int .i64 ((g:Nat):Int))],[(0,.ns .u64 i)],1⟩
def Pi(d:Nat)(g:Nat)(b:List Int)(e:Int)(f:Int)(a:Nat)(c:List Int) :T ((Int×(List Int))⊕((Int×(List Int))⊕(fP))) :=
  .ask (decide (((a:Nat):Int)<(((List.length b):Nat):Int)))
    (.need (fu ((a:Nat):Int) (List.length b))<|.need (fW a (List.length b))<|.need (hX (dZ (List.getD b a 0) e))<|.need (lZ 0 1)<|.need (fu ((a:Nat):Int) g)<|.need (fW (eE d a) (List.length c))<|.need (lZ 0 1)<|.need (fu ((a:Nat):Int) g)<|.need (fW (eE d a) (List.length c))<|.leaf (.inl ((IntKind.u64.wrap ((IntKind.u64.wrap ((jo (dZ (List.getD b a 0) e))+(((((Int.toNat (fc (dZ (List.getD b a 0) e)))+(Int.toNat f)+0)/18446744073709551616):Nat):Int)))+(((((Int.toNat (List.getD c (eE d a) 0))+(((Int.toNat (fc (dZ (List.getD b a 0) e)))+(Int.toNat f)+0)%18446744073709551616)+0)/18446744073709551616):Nat):Int))),(List.set c (eE d a) (((((Int.toNat (List.getD c (eE d a) 0))+(((Int.toNat (fc (dZ (List.getD b a 0) e)))+(Int.toNat f)+0)%18446744073709551616)+0)%18446744073709551616):Nat):Int)))))
    (.leaf (.inr (.inl (f,c))))
def Pj(a:Nat)(b:Int)(c:List Int) :T ((Int×Nat×(List Int))⊕((Int×(List Int))⊕(fP))) :=
  .need (dW .i64 (((a+1):Nat):Int))<|.leaf (.inl (b,(a+1),c))
def vL(b:Nat)(c:Nat)(d:List Int)(e:Int) :Int×Nat×(List Int)→Option ((Int×Nat×(List Int))⊕((Int×(List Int))⊕(fP))):=fun (f,a,g) =>
  aO ((Pi b c d e f a g).run) fun (h,i) =>
  (Pj a h i).run
theorem Pk(j:List Int)(a:Nat)(b:Nat)(e:Nat)(f:Lv)(c:List Int)(d:Int)(h:Int)(g:Nat)(i:List Int) :Sg prog [.ns .u64 j] Ph (tH a b e f c d (h,g,i)) (vL a b c d (h,g,i)) (tH a b e f c d) (dR 0 Fy wK):=by
  unfold vL;exact Sg.cut 3 (bb tG) (br mE (Su a b e f c d g) [⟨[],[0],[0,1,2,7,13,14]⟩,⟨[],[0],[7]⟩]) (fun ⟨k,l⟩=>br mE (tH a b e f c d) [⟨[],[0],[0,1,2,7,13,14]⟩])
def Pl(a:Int)(b:List Int) :T ((Empty)⊕(fP)) :=
  .leaf (.inr (.r0 a b))
def qt(a:List Int)(b:Nat)(c:Nat)(d:List Int)(e:Int) :Option fP:=mz (aO ((Pg).run) fun _ =>
  aO (gR (vL b c d e) ((0:Int),0,a)) fun (f,g) =>
  (Pl f g).run)
theorem Sv(e:List Int)(b:Nat)(c:Nat)(f:Nat)(g:Lv)(a:List Int)(d:Int){x:fP}(h:qt e b c a d=some x) :af prog wA [.ns .u64 e] [.sl 0 1 1 b c f,.imm g (.ns .u64 a) 1 1 0 (List.length a),.int .u64 d] (BH x) :=
  ny false BH wK h (Sg.cut 3 tG (br mE (St e b c f g a d) [⟨[],[0],[0,1,2,7,13,14]⟩]) (fun _=>Sg.cut 1 tG (GD ⟨[],[0],[0,1,2,7,13,14]⟩ (tH b c f g a d) (Fy) 0 tG (Ss _) (fun ⟨i,j,k⟩=>Pk e b c f g a d i j k)) (fun ⟨m,n⟩=>br mE mU [⟨[],[0],[6]⟩])))
    (fun x=>by cases x with | r0 l o=>exact mb [.int .u64 l])
def tI:Option fP→Bool
  | some _=>true
  | none=>false
def tJ:Option fP→Int
  | some (.r0 x _)=>x
  | _=>0
def pZ:Option fP→List Int
  | some (.r0 _ x)=>x
  | _=>[]
theorem Sw{x:Option fP}(h:tI x=true) :x=some (.r0 (tJ x) (pZ x)):=by
  unfold tI at h
  split at h<;>first | rfl | (cases h;done) | (rename_i y;cases y;rfl)
def JR:aw:=On wA [.ns .u64] (.cons (.lsl 0) (.cons (.ns .u64) (.cons (.int .u64) .nil))) fun x t=>(fun q=>[⟨BH (.r0 (tJ q) (pZ q)),[tI q]⟩]) (qt x.1 t.1.1 t.1.2.1 t.2.1.2 t.2.2.1)
theorem Lr:aM prog JR:=Fa fun x t=>(wG (fun h=>Sv x.1 t.1.1 t.1.2.1 t.1.2.2 t.2.1.1 t.2.1.2 t.2.2.1 (Sw h)) Fb)
def JS:List aw:=JR::JQ
theorem gw:aG prog (aD JS):=ap Lr mE
inductive dg where
  | r0 (a:Nat) (b:Nat) (c:Nat) (d:Nat) (e:List Int)
def wL:dg→AE×aC
  | .r0 a b c d e=>(.ret,⟨aj 61 [(4,.sl 0 1 1 a b c),(5,.int .i64 ((d:Nat):Int))],[(0,.ns .u64 e)],1⟩)
theorem lM:jU wL:=by intro x;cases x<;>(intro h;cases h)
theorem Sx(id:Nat) :oT id wL:=by intro x;cases x<;>(intro h;cases h)
def BI:dg→fZ
  | .r0 a b e c d=>⟨.tup [.imm .free (.ns .u64 d) 1 1 a b,.int .i64 ((c:Nat):Int)],[]⟩
def Pm:List Code:=dd (pf wz)
def Sy(a:Lv)(b:Lv) :Nat×(List Int)×Nat×(List Int)×Nat→aC:=fun (c,d,e,f,g)=>⟨aj 61 [(2,.ptr 0 1 0 0),(3,.ptr 1 1 0 0),(6,.int .i64 ((c:Nat):Int))],[(0,.vs [.imm a (.ns .u64 d) 1 1 0 e]),(1,.vs [.imm b (.ns .u64 f) 1 1 0 g])],2⟩
def Pn(a : List Int)(b : List Int) : T ((Nat × (List Int) × Nat × (List Int) × Nat) ⊕ (dg)) :=
  .ask (decide ((0:Int)<(2:Int)))
    (.need (fu (0:Int) 2)<|.need (aI 0 (List.length a) a)<|.need (cI (an (aa 0 (List.length a) a)))<|.ask (decide ((((ay (an (aa 0 (List.length a) a))):Nat):Int)>(4096:Int)))
      (.leaf (.inl (2,(aN (an (aa 0 (List.length a) a))),(ay (an (aa 0 (List.length a) a))),b,(List.length b))))
      (.need (dW .i64 (1:Int))<|.ask (decide ((1:Int)<(2:Int)))
        (.need (fu (1:Int) 2)<|.need (aI 0 (List.length b) b)<|.need (cI (an (aa 0 (List.length b) b)))<|.ask (decide ((((ay (an (aa 0 (List.length b) b))):Nat):Int)>(4096:Int)))
          (.leaf (.inl (2,(aN (an (aa 0 (List.length a) a))),(ay (an (aa 0 (List.length a) a))),(aN (an (aa 0 (List.length b) b))),(ay (an (aa 0 (List.length b) b))))))
          (.need (dW .i64 (2:Int))<|.ask (decide ((2:Int)<(2:Int)))
            (.fail)
            (.leaf (.inl (0,(aN (an (aa 0 (List.length a) a))),(ay (an (aa 0 (List.length a) a))),(aN (an (aa 0 (List.length b) b))),(ay (an (aa 0 (List.length b) b))))))))
        (.fail)))
    (.fail)
def Sz(a:Lv)(b:Lv)(c:List Int)(d:Nat)(e:List Int)(f:Nat)(g:Bool) :aC:=⟨aj 61 [(2,.ptr 0 1 0 0),(3,.ptr 1 1 0 0),(29,.bool false g)],[(0,.vs [.imm a (.ns .u64 c) 1 1 0 d]),(1,.vs [.imm b (.ns .u64 e) 1 1 0 f])],2⟩
def Po(c:Nat)(a:Nat)(b:Nat) :T ((Bool)⊕(dg)) :=
  .ask (((c:Nat):Int) != (0:Int))
    (.leaf (.inr (.r0 0 0 0 c ([]:List Int))))
    (.need (dW .i64 (((a+b):Nat):Int))<|.ask (decide ((((a+b):Nat):Int)>(4097:Int)))
      (.ask (decide (((a:Nat):Int)>(0:Int)))
        (.leaf (.inl (decide (((b:Nat):Int)>(0:Int)))))
        (.leaf (.inl false)))
      (.leaf (.inl false)))
def SA(c:Lv)(d:Lv)(e:List Int)(f:Nat)(g:List Int)(a:Nat) :Nat×(List Int)→aC:=fun (b,h)=>⟨aj 61 [(2,.ptr 0 1 0 0),(3,.ptr 1 1 0 0),(7,.sl 2 1 1 0 b b),(37,.int .i64 ((a:Nat):Int)),(38,.int .i64 (0:Int))],[(0,.vs [.imm c (.ns .u64 e) 1 1 0 f]),(1,.vs [.imm d (.ns .u64 g) 1 1 0 a]),(2,.ns .u64 h)],3⟩
def Pp(a:Nat)(b:Nat)(c:Bool) :T ((Nat×(List Int))⊕(dg)) :=
  .ask c
    (.leaf (.inr (.r0 0 0 0 3 ([]:List Int))))
    (.need (dW .i64 (((a+b):Nat):Int))<|.need (decide ((0:Int)≤(((a+b):Nat):Int)))<|.need (decide ((((a+b):Nat):Int)≤(((a+b):Nat):Int)))<|.need (decide ((8:Int)*(((a+b):Nat):Int)≤140737488355328))<|.need (dW .i64 (((a+b):Nat):Int))<|.leaf (.inl ((a+b),(List.replicate (a+b) (0:Int)))))
def tK(c:Lv)(d:Lv)(e:List Int)(f:Nat)(g:List Int)(a:Nat)(b:Nat) :Nat×(List Int)→aC:=fun (h,i)=>⟨aj 61 [(2,.ptr 0 1 0 0),(3,.ptr 1 1 0 0),(7,.sl 2 1 1 0 b b),(37,.int .i64 ((a:Nat):Int)),(38,.int .i64 ((h:Nat):Int))],[(0,.vs [.imm c (.ns .u64 e) 1 1 0 f]),(1,.vs [.imm d (.ns .u64 g) 1 1 0 a]),(2,.ns .u64 i)],3⟩
def Fz(a:Nat)(b:(List Int)) :aC:=⟨aj 61 [(7,.sl 0 1 1 0 a a)],[(0,.ns .u64 b)],1⟩
def Pq:List Code:=dd (fy ((((((Pm.drop 2).drop 3).drop 3).take 1)).headD .skip))
def SB(c:Lv)(d:Lv)(e:List Int)(f:Nat)(g:List Int)(a:Nat)(b:Nat)(h:Nat)(i:(List Int)) :aC:=⟨aj 61 [(2,.ptr 0 1 0 0),(3,.ptr 1 1 0 0),(7,.sl 2 1 1 0 b b),(37,.int .i64 ((a:Nat):Int)),(38,.int .i64 ((h:Nat):Int))],[(0,.vs [.imm c (.ns .u64 e) 1 1 0 f]),(1,.vs [.imm d (.ns .u64 g) 1 1 0 a]),(2,.ns .u64 i)],3⟩
def Pr(d:List Int)(b:Nat)(e:List Int)(g:Nat)(c:Nat)(a:Nat)(f:List Int) :T (((List Int))⊕(((List Int))⊕(dg))) :=
  .ask (decide (((a:Nat):Int)<((g:Nat):Int)))
    (.need (dW .i64 (((a+b):Nat):Int))<|.need (uT ((c:Nat):Int) c)<|.need (uT ((a:Nat):Int) c)<|.need (fu ((a:Nat):Int) g)<|.need (fW a (List.length e))<|.need (aI 0 b d)<|.need (tI (qt f a (c-a) (aa 0 b d) (List.getD e a 0)))<|.need (fu (((a+b):Nat):Int) c)<|.need (fW (a+b) (List.length (pZ (qt f a (c-a) (aa 0 b d) (List.getD e a 0)))))<|.leaf (.inl (List.set (pZ (qt f a (c-a) (aa 0 b d) (List.getD e a 0))) (a+b) (tJ (qt f a (c-a) (aa 0 b d) (List.getD e a 0))))))
    (.leaf (.inr (.inl f)))
def Ps(a:Nat)(b:List Int) :T ((Nat×(List Int))⊕(((List Int))⊕(dg))) :=
  .need (dW .i64 (((a+1):Nat):Int))<|.leaf (.inl ((a+1),b))
def vM(b:List Int)(c:Nat)(d:List Int)(e:Nat)(f:Nat) :Nat×(List Int)→Option ((Nat×(List Int))⊕(((List Int))⊕(dg))):=fun (a,g) =>
  aO ((Pr b c d e f a g).run) fun h =>
  (Ps a h).run
theorem Pt(f:Lv)(g:Lv)(b:List Int)(c:Nat)(d:List Int)(e:Nat)(a:Nat)(h:Nat)(i:List Int) :Sg prog [] Pq (tK f g b c d e a (h,i)) (vM b c d e a (h,i)) (tK f g b c d e a) (dR 0 (Fz a) wL):=by
  unfold vM;exact Sg.cut 3 (bb lM) (br gw (SB f g b c d e a h) [⟨[],[0,1,2],[2,3,7,37,38]⟩,⟨[],[2],[7]⟩]) (fun j=>br gw (tK f g b c d e a) [⟨[],[0,1,2],[2,3,7,37,38]⟩])
def Pu:Nat×Nat×Nat×Nat×(List Int)→aC:=fun (a,b,c,d,e)=>⟨aj 61 [(4,.sl 0 1 1 a b c),(5,.int .i64 ((d:Nat):Int))],[(0,.ns .u64 e)],1⟩
def Pv(a:Nat)(b:List Int) :T ((Nat×Nat×Nat×Nat×(List Int))⊕(dg)) :=
  .alt 0
    (.need (oV (ed b 0 a a))<|.leaf (.inl (0,0,0,3,([]:List Int))))
    (.alt 1
      (.need (oW (ed b 0 a a))<|.leaf (.inl ((oq (ed b 0 a a)),(ot (ed b 0 a a)),(ou (ed b 0 a a)),0,(ov (ed b 0 a a)))))
      (.fail))
def Pw(a:Nat)(b:Nat)(c:Nat)(d:Nat)(e:List Int) :T ((Empty)⊕(dg)) :=
  .leaf (.inr (.r0 a b c d e))
def nJ(d:List Int)(e:List Int) :Option dg:=mz (aO ((Pn d e).run) fun (f,g,a,h,b) =>
  aO ((Po f a b).run) fun i =>
  aO ((Pp a b i).run) fun (c,j) =>
  aO (gR (vM g a h b c) (0,j)) fun k =>
  aO ((Pv c k).run) fun (l,m,n,o,p) =>
  (Pw l m n o p).run)
theorem SC(a:Lv)(g:List Int)(b:Lv)(i:List Int){x:dg}(h:nJ g i=some x) :af prog wz [] [.imm a (.ns .u64 g) 1 1 0 (List.length g),.imm b (.ns .u64 i) 1 1 0 (List.length i)] (BI x) :=
  ny true BI wL h (Sg.cut 2 lM (br gw (Sy a b) [⟨[],[0,16],[2,3,6]⟩,⟨[],[0,16],[2,3,6]⟩,⟨[],[0,16],[2,3,6]⟩]) (fun ⟨q,c,d,e,f⟩=>Sg.cut 3 lM (br gw (Sz a b c d e f) [⟨[(.slot 4,.own 1 1 (.ns .u64 ([]:List Int)))],[82],[4,5]⟩,⟨[],[0,1],[2,3,29]⟩,⟨[],[0,1],[2,3,29]⟩,⟨[],[0,1],[2,3,29]⟩]) (fun r=>Sg.cut 3 lM (br gw (SA a b c d e f) [⟨[(.slot 4,.own 1 1 (.ns .u64 ([]:List Int)))],[34],[4,5]⟩,⟨[],[0,1,82],[2,3,7,37,38]⟩]) (fun ⟨j,s⟩=>Sg.cut 1 lM (GD ⟨[],[0,1,2],[2,3,7,37,38]⟩ (tK a b c d e f j) (Fz j) 0 lM (Sx _) (fun ⟨k,l⟩=>Pt a b c d e f j k l)) (fun t=>Sg.cut 1 lM (br gw Pu [⟨[(.slot 4,.own 1 1 (.ns .u64 ([]:List Int)))],[97],[4,5]⟩,⟨[],[0],[4,5]⟩]) (fun ⟨u,v,w,y,z⟩=>br gw mU [⟨[],[0],[4,5]⟩]))))))
    (fun x=>by cases x with | r0 m n o p A=>exact mb [.sl 0 1 1 m n o,.int .i64 ((p:Nat):Int)])
def tL:Option dg→Bool
  | some _=>true
  | none=>false
def tM:Option dg→Nat
  | some (.r0 x _ _ _ _)=>x
  | _=>0
def tN:Option dg→Nat
  | some (.r0 _ x _ _ _)=>x
  | _=>0
def zR:Option dg→Nat
  | some (.r0 _ _ x _ _)=>x
  | _=>0
def tO:Option dg→Nat
  | some (.r0 _ _ _ x _)=>x
  | _=>0
def tP:Option dg→List Int
  | some (.r0 _ _ _ _ x)=>x
  | _=>[]
theorem SD{x:Option dg}(h:tL x=true) :x=some (.r0 (tM x) (tN x) (zR x) (tO x) (tP x)):=by
  unfold tL at h
  split at h<;>first | rfl | (cases h;done) | (rename_i y;cases y;rfl)
def JT:aw:=ca wz (.cons (.ns .u64) (.cons (.ns .u64) .nil)) fun t=>(fun q=>[⟨BI (.r0 (tM q) (tN q) (zR q) (tO q) (tP q)),[tL q]⟩]) (nJ t.1.2 t.2.1.2)
theorem Ls:aM prog JT:=aP fun t=>(aQ (fun h=>SC t.1.1 t.1.2 t.2.1.1 t.2.1.2 (SD h)) aZ)
def JU:List aw:=JT::JS
theorem jI:aG prog (aD JU):=ap Ls gw
inductive eC where
  | r0 (a:Nat) (b:Nat) (c:Nat) (d:List Int)
def wM:eC→AE×aC
  | .r0 a b c d=>(.ret,⟨aj 59 [(4,.sl 0 1 1 a b c)],[(0,.ns .u64 d)],1⟩)
theorem qN:jU wM:=by intro x;cases x<;>(intro h;cases h)
theorem SE(id:Nat) :oT id wM:=by intro x;cases x<;>(intro h;cases h)
def BJ:eC→fZ
  | .r0 a b d c=>⟨.imm .free (.ns .u64 c) 1 1 a b,[]⟩
def SF:List Code:=dd (pf wD)
def SG(c:Lv)(a:List Int) :Int×Int×Nat×(List Int)→aC:=fun (d,r2,b,e)=>⟨aj 59 [(0,.imm c (.ns .u64 a) 1 1 0 (List.length a)),(5,.int .i64 d),(6,.int .u64 r2),(7,.sl 0 1 1 0 b b),(24,.int .i64 (((List.length a):Nat):Int)),(25,.int .i64 (0:Int))],[(0,.ns .u64 e)],1⟩
def Px(b:List Int)(a:Int) :T ((Int×Int×Nat×(List Int))⊕(eC)) :=
  .ask ((((List.length b):Nat):Int)==(0:Int))
    (.leaf (.inr (.r0 0 0 0 ([]:List Int))))
    (.need ((64:Int) != (0:Int))<|.need (dW .i64 (Int.tdiv a (64:Int)))<|.need ((64:Int) != (0:Int))<|.need (dW .i64 ((((List.length b):Nat):Int)+(Int.tdiv a (64:Int))))<|.need (dW .i64 (((((List.length b):Nat):Int)+(Int.tdiv a (64:Int)))+(1:Int)))<|.need (decide ((0:Int)≤(((((List.length b):Nat):Int)+(Int.tdiv a (64:Int)))+(1:Int))))<|.need (decide ((((((List.length b):Nat):Int)+(Int.tdiv a (64:Int)))+(1:Int))≤(((((List.length b):Nat):Int)+(Int.tdiv a (64:Int)))+(1:Int))))<|.need (decide ((8:Int)*(((((List.length b):Nat):Int)+(Int.tdiv a (64:Int)))+(1:Int))≤140737488355328))<|.need (dW .i64 (((((List.length b):Nat):Int)+(Int.tdiv a (64:Int)))+(1:Int)))<|.leaf (.inl ((Int.tdiv a (64:Int)),(IntKind.u64.wrap (Int.tmod a (64:Int))),(Int.toNat (((((List.length b):Nat):Int)+(Int.tdiv a (64:Int)))+(1:Int))),(List.replicate (Int.toNat (((((List.length b):Nat):Int)+(Int.tdiv a (64:Int)))+(1:Int))) (0:Int)))))
def tQ(c:Lv)(a:List Int)(d:Int)(r2:Int)(b:Nat) :Nat×(List Int)→aC:=fun (e,f)=>⟨aj 59 [(0,.imm c (.ns .u64 a) 1 1 0 (List.length a)),(5,.int .i64 d),(6,.int .u64 r2),(7,.sl 0 1 1 0 b b),(24,.int .i64 (((List.length a):Nat):Int)),(25,.int .i64 ((e:Nat):Int))],[(0,.ns .u64 f)],1⟩
def FB(a:Nat)(b:(List Int)) :aC:=⟨aj 59 [(7,.sl 0 1 1 0 a a)],[(0,.ns .u64 b)],1⟩
def Py:List Code:=dd (fy ((((SF.drop 6).take 1)).headD .skip))
def SH(c:Lv)(a:List Int)(d:Int)(r2:Int)(b:Nat)(e:Nat)(f:(List Int)) :aC:=⟨aj 59 [(0,.imm c (.ns .u64 a) 1 1 0 (List.length a)),(5,.int .i64 d),(6,.int .u64 r2),(7,.sl 0 1 1 0 b b),(24,.int .i64 (((List.length a):Nat):Int)),(25,.int .i64 ((e:Nat):Int))],[(0,.ns .u64 f)],1⟩
def Pz(c:List Int)(b:Int)(r2:Int)(e:Nat)(a:Nat)(d:List Int) :T (((List Int))⊕(((List Int))⊕(eC))) :=
  .ask (decide (((a:Nat):Int)<(((List.length c):Nat):Int)))
    (.need (dW .i64 (((a:Nat):Int)+b))<|.need (fu (((a:Nat):Int)+b) e)<|.need (fW (Int.toNat (((a:Nat):Int)+b)) (List.length d))<|.need (fu ((a:Nat):Int) (List.length c))<|.need (fW a (List.length c))<|.need (decide ((0:Int)≤r2))<|.need (fu (((a:Nat):Int)+b) e)<|.need (fW (Int.toNat (((a:Nat):Int)+b)) (List.length d))<|.need (dW .i64 (((a:Nat):Int)+b))<|.need (dW .i64 ((((a:Nat):Int)+b)+(1:Int)))<|.need (fu ((a:Nat):Int) (List.length c))<|.need (fW a (List.length c))<|.need (decide ((0:Int)≤(1:Int)))<|.need (decide ((0:Int)≤(IntKind.u64.wrap ((63:Int)-r2))))<|.need (fu ((((a:Nat):Int)+b)+(1:Int)) e)<|.need (fW (Int.toNat ((((a:Nat):Int)+b)+(1:Int))) (List.length (List.set d (Int.toNat (((a:Nat):Int)+b)) (dM .or .u64 (List.getD d (Int.toNat (((a:Nat):Int)+b)) 0) (IntKind.u64.wrap ((List.getD c a 0)*2^(min (Int.toNat r2) (IntKind.u64.bits))))))))<|.leaf (.inl (List.set (List.set d (Int.toNat (((a:Nat):Int)+b)) (dM .or .u64 (List.getD d (Int.toNat (((a:Nat):Int)+b)) 0) (IntKind.u64.wrap ((List.getD c a 0)*2^(min (Int.toNat r2) (IntKind.u64.bits)))))) (Int.toNat ((((a:Nat):Int)+b)+(1:Int))) (Int.fdiv (Int.fdiv (List.getD c a 0) (2^(min (Int.toNat (1:Int)) (IntKind.u64.bits)))) (2^(min (Int.toNat (IntKind.u64.wrap ((63:Int)-r2))) (IntKind.u64.bits)))))))
    (.leaf (.inr (.inl d)))
def PA(a:Nat)(b:List Int) :T ((Nat×(List Int))⊕(((List Int))⊕(eC))) :=
  .need (dW .i64 (((a+1):Nat):Int))<|.leaf (.inl ((a+1),b))
def vN(b:List Int)(c:Int)(r2:Int)(d:Nat) :Nat×(List Int)→Option ((Nat×(List Int))⊕(((List Int))⊕(eC))):=fun (a,e) =>
  aO ((Pz b c r2 d a e).run) fun f =>
  (PA a f).run
theorem PB(d:Lv)(b:List Int)(c:Int)(r2:Int)(a:Nat)(e:Nat)(f:List Int) :Sg prog [] Py (tQ d b c r2 a (e,f)) (vN b c r2 a (e,f)) (tQ d b c r2 a) (dR 0 (FB a) wM):=by
  unfold vN;exact Sg.cut 3 (bb qN) (br jI (SH d b c r2 a e) [⟨[],[0],[0,5,6,7,24,25]⟩,⟨[],[0],[7]⟩]) (fun g=>br jI (tQ d b c r2 a) [⟨[],[0],[0,5,6,7,24,25]⟩])
def SI:Nat×Nat×Nat×(List Int)→aC:=fun (a,b,c,d)=>⟨aj 59 [(4,.sl 0 1 1 a b c)],[(0,.ns .u64 d)],1⟩
def PC(a:Nat)(b:List Int) :T ((Nat×Nat×Nat×(List Int))⊕(eC)) :=
  .need (ff (aT b 0 a a))<|.leaf (.inl ((eO (aT b 0 a a)),(eP (aT b 0 a a)),(eQ (aT b 0 a a)),(eR (aT b 0 a a))))
def PD(a:Nat)(b:Nat)(c:Nat)(d:List Int) :T ((Empty)⊕(eC)) :=
  .leaf (.inr (.r0 a b c d))
def dw(a:List Int)(c:Int) :Option eC:=mz (aO ((Px a c).run) fun (d,r2,b,e) =>
  aO (gR (vN a d r2 b) (0,e)) fun f =>
  aO ((PC b f).run) fun (g,h,i,j) =>
  (PD g h i j).run)
theorem SJ(b:Lv)(a:List Int)(d:Int){x:eC}(h:dw a d=some x) :af prog wD [] [.imm b (.ns .u64 a) 1 1 0 (List.length a),.int .i64 d] (BJ x) :=
  ny true BJ wM h (Sg.cut 6 qN (br jI (SG b a) [⟨[(.slot 4,.own 1 1 (.ns .u64 ([]:List Int)))],[80],[4]⟩,⟨[],[256],[0,5,6,7,24,25]⟩]) (fun ⟨e,r2,c,l⟩=>Sg.cut 1 qN (GD ⟨[],[0],[0,5,6,7,24,25]⟩ (tQ b a e r2 c) (FB c) 0 qN (SE _) (fun ⟨f,g⟩=>PB b a e r2 c f g)) (fun m=>Sg.cut 1 qN (br jI SI [⟨[],[0],[4]⟩]) (fun ⟨n,o,p,q⟩=>br jI mU [⟨[],[0],[4]⟩]))))
    (fun x=>by cases x with | r0 i j k r=>exact mb [.sl 0 1 1 i j k])
def tR:Option eC→Bool
  | some _=>true
  | none=>false
def hY:Option eC→Nat
  | some (.r0 x _ _ _)=>x
  | _=>0
def hZ:Option eC→Nat
  | some (.r0 _ x _ _)=>x
  | _=>0
def zS:Option eC→Nat
  | some (.r0 _ _ x _)=>x
  | _=>0
def ia:Option eC→List Int
  | some (.r0 _ _ _ x)=>x
  | _=>[]
theorem SK{x:Option eC}(h:tR x=true) :x=some (.r0 (hY x) (hZ x) (zS x) (ia x)):=by
  unfold tR at h
  split at h<;>first | rfl | (cases h;done) | (rename_i y;cases y;rfl)
def JV:aw:=ca wD (.cons (.ns .u64) (.cons (.int .i64) .nil)) fun t=>(fun q=>[⟨BJ (.r0 (hY q) (hZ q) (zS q) (ia q)),[tR q]⟩]) (dw t.1.2 t.2.1)
theorem Lt:aM prog JV:=aP fun t=>(aQ (fun h=>SJ t.1.1 t.1.2 t.2.1 (SK h)) aZ)
def JW:List aw:=JV::JU
theorem tS:aG prog (aD JW):=ap Lt jI
inductive dz where
  | r0 (a:List Int) (b:Nat) (c:Nat)
def xg(a:Lv) :dz→AE×aC
  | .r0 b c d=>(.ret,⟨aj 10 [(2,.imm a (.ns .u64 b) 1 1 0 c),(3,.int .i64 ((d:Nat):Int))],[],0⟩)
theorem FC{a:Lv} :jU (xg a):=by intro x;cases x<;>(intro h;cases h)
def sg(a:Lv) :dz→fZ
  | .r0 b c d=>⟨.tup [.imm a (.ns .u64 b) 1 1 0 c,.int .i64 ((d:Nat):Int)],[]⟩
def FD(a:Lv) :(List Int)×Nat→aC:=fun (b,c)=>⟨aj 10 [(0,.imm a (.ns .u64 b) 1 1 0 c)],[],0⟩
def FE(a:List Int) :T (((List Int)×Nat)⊕(dz)) :=
  .need (aI 0 (List.length a) a)<|.need (cI (an (aa 0 (List.length a) a)))<|.leaf (.inl ((aN (an (aa 0 (List.length a) a))),(ay (an (aa 0 (List.length a) a)))))
def FF(b:List Int)(a:Nat) :T ((Empty)⊕(dz)) :=
  .ask (decide (((a:Nat):Int)>(4096:Int)))
    (.leaf (.inr (.r0 ([]:List Int) 0 3)))
    (.leaf (.inr (.r0 b a 0)))
def ja(a:List Int) :Option dz:=mz (aO ((FE a).run) fun (b,c) =>
  (FF b c).run)
theorem FG(a:Lv)(b:List Int){x:dz}(h:ja b=some x) :af prog qH [] [.imm a (.ns .u64 b) 1 1 0 (List.length b)] (sg a x) :=
  ny false (sg a) (xg a) h (Sg.cut 2 FC (br tS (FD a) [⟨[],[],[0]⟩]) (fun ⟨f,g⟩=>br tS mU [⟨[(.slot 2,.fre 1 1 (.ns .u64 ([]:List Int))),(.slot 2,.lev a)],[],[2,3]⟩,⟨[],[],[2,3]⟩]))
    (fun x=>by cases x with | r0 c d e=>exact mb [.imm a (.ns .u64 c) 1 1 0 d,.int .i64 ((e:Nat):Int)])
def mF:Option dz→Bool
  | some _=>true
  | none=>false
def nK:Option dz→List Int
  | some (.r0 x _ _)=>x
  | _=>[]
def nL:Option dz→Nat
  | some (.r0 _ x _)=>x
  | _=>0
def nM:Option dz→Nat
  | some (.r0 _ _ x)=>x
  | _=>0
theorem FH{x:Option dz}(h:mF x=true) :x=some (.r0 (nK x) (nL x) (nM x)):=by
  unfold mF at h
  split at h<;>first | rfl | (cases h;done) | (rename_i y;cases y;rfl)
def xh:aw:=ca qH (.cons (.ns .u64) .nil) fun t=>(fun q=>[⟨sg t.1.1 (.r0 (nK q) (nL q) (nM q)),[mF q]⟩]) (ja t.1.2)
theorem BL:aM prog xh:=aP fun t=>(aQ (fun h=>FG t.1.1 t.1.2 (FH h)) aZ)
def xi:List aw:=xh::JW
theorem gU:aG prog (aD xi):=ap BL tS
inductive fQ where
  | r0 (a:List Int) (b:Nat) (c:Nat)
def JX:fQ→AE×aC
  | .r0 a b c=>(.ret,⟨aj 30 [(4,.imm .free (.ns .u64 a) 1 1 0 b),(5,.int .i64 ((c:Nat):Int))],[],0⟩)
theorem yq:jU JX:=by intro x;cases x<;>(intro h;cases h)
def BM:fQ→fZ
  | .r0 a b c=>⟨.tup [.imm .free (.ns .u64 a) 1 1 0 b,.int .i64 ((c:Nat):Int)],[]⟩
def SL(a:Lv)(b:Int) :Nat×(List Int)×Nat→aC:=fun (c,d,e)=>⟨aj 30 [(1,.int .i64 b),(2,.ptr 0 1 0 0),(6,.int .i64 ((c:Nat):Int))],[(0,.vs [.imm a (.ns .u64 d) 1 1 0 e])],1⟩
def SM(a:List Int) :T ((Nat×(List Int)×Nat)⊕(fQ)) :=
  .ask (decide ((0:Int)<(1:Int)))
    (.need (fu (0:Int) 1)<|.need (aI 0 (List.length a) a)<|.need (cI (an (aa 0 (List.length a) a)))<|.ask (decide ((((ay (an (aa 0 (List.length a) a))):Nat):Int)>(4096:Int)))
      (.leaf (.inl (2,(aN (an (aa 0 (List.length a) a))),(ay (an (aa 0 (List.length a) a))))))
      (.need (dW .i64 (1:Int))<|.ask (decide ((1:Int)<(1:Int)))
        (.fail)
        (.leaf (.inl (0,(aN (an (aa 0 (List.length a) a))),(ay (an (aa 0 (List.length a) a))))))))
    (.fail)
def SN(a:Lv)(b:Int)(c:List Int)(d:Nat)(_:Unit) :aC:=⟨aj 30 [(1,.int .i64 b),(2,.ptr 0 1 0 0)],[(0,.vs [.imm a (.ns .u64 c) 1 1 0 d])],1⟩
def SO(a:Int)(b:Nat)(c:Nat) :T ((Unit)⊕(fQ)) :=
  .ask (((b:Nat):Int) != (0:Int))
    (.leaf (.inr (.r0 ([]:List Int) 0 2)))
    (.ask (decide (a<(0:Int)))
      (.leaf (.inr (.r0 ([]:List Int) 0 2)))
      (.ask (decide (((c:Nat):Int)>(0:Int)))
        (.ask (decide (a≥(262144:Int)))
          (.leaf (.inr (.r0 ([]:List Int) 0 3)))
          (.leaf (.inl ())))
        (.leaf (.inl ()))))
def SP:(List Int)×Nat×Nat→aC:=fun (a,b,c)=>⟨aj 30 [(4,.imm .free (.ns .u64 a) 1 1 0 b),(5,.int .i64 ((c:Nat):Int))],[],0⟩
def SQ(c:Int)(a:List Int)(b:Nat) :T (((List Int)×Nat×Nat)⊕(fQ)) :=
  .need (aI 0 b a)<|.need (tR (dw (aa 0 b a) c))<|.need (aI (hY (dw (aa 0 b a) c)) (hZ (dw (aa 0 b a) c)) (ia (dw (aa 0 b a) c)))<|.need (mF (ja (aa (hY (dw (aa 0 b a) c)) (hZ (dw (aa 0 b a) c)) (ia (dw (aa 0 b a) c)))))<|.leaf (.inl ((nK (ja (aa (hY (dw (aa 0 b a) c)) (hZ (dw (aa 0 b a) c)) (ia (dw (aa 0 b a) c))))),(nL (ja (aa (hY (dw (aa 0 b a) c)) (hZ (dw (aa 0 b a) c)) (ia (dw (aa 0 b a) c))))),(nM (ja (aa (hY (dw (aa 0 b a) c)) (hZ (dw (aa 0 b a) c)) (ia (dw (aa 0 b a) c)))))))
def SS(a:List Int)(b:Nat)(c:Nat) :T ((Empty)⊕(fQ)) :=
  .leaf (.inr (.r0 a b c))
def fR(c:List Int)(a:Int) :Option fQ:=mz (aO ((SM c).run) fun (d,e,b) =>
  aO ((SO a d b).run) fun _ =>
  aO ((SQ a e b).run) fun (f,g,h) =>
  (SS f g h).run)
theorem SU(b:Lv)(c:List Int)(a:Int){x:fQ}(h:fR c a=some x) :af prog Bw [] [.imm b (.ns .u64 c) 1 1 0 (List.length c),.int .i64 a] (BM x) :=
  ny true BM JX h (Sg.cut 2 yq (br gU (SL b a) [⟨[],[0],[1,2,6]⟩,⟨[],[0],[1,2,6]⟩]) (fun ⟨j,d,e⟩=>Sg.cut 1 yq (br gU (SN b a d e) [⟨[(.slot 4,.fre 1 1 (.ns .u64 ([]:List Int)))],[],[4,5]⟩,⟨[(.slot 4,.fre 1 1 (.ns .u64 ([]:List Int)))],[],[4,5]⟩,⟨[(.slot 4,.fre 1 1 (.ns .u64 ([]:List Int)))],[],[4,5]⟩,⟨[],[0],[1,2]⟩,⟨[],[0],[1,2]⟩]) (fun _=>Sg.cut 1 yq (br gU SP [⟨[],[],[4,5]⟩]) (fun ⟨k,l,m⟩=>br gU mU [⟨[],[],[4,5]⟩]))))
    (fun x=>by cases x with | r0 f g i=>exact mb [.imm .free (.ns .u64 f) 1 1 0 g,.int .i64 ((i:Nat):Int)])
def nN:Option fQ→Bool
  | some _=>true
  | none=>false
def jJ:Option fQ→List Int
  | some (.r0 x _ _)=>x
  | _=>[]
def jK:Option fQ→Nat
  | some (.r0 _ x _)=>x
  | _=>0
def zT:Option fQ→Nat
  | some (.r0 _ _ x)=>x
  | _=>0
theorem SV{x:Option fQ}(h:nN x=true) :x=some (.r0 (jJ x) (jK x) (zT x)):=by
  unfold nN at h
  split at h<;>first | rfl | (cases h;done) | (rename_i y;cases y;rfl)
def JY:aw:=ca Bw (.cons (.ns .u64) (.cons (.int .i64) .nil)) fun t=>(fun q=>[⟨BM (.r0 (jJ q) (jK q) (zT q)),[nN q]⟩]) (fR t.1.2 t.2.1)
theorem Lu:aM prog JY:=aP fun t=>(aQ (fun h=>SU t.1.1 t.1.2 t.2.1 (SV h)) aZ)
def JZ:List aw:=JY::xi
theorem fC:aG prog (aD JZ):=ap Lu gU
inductive cH where
  | r0 (a:Nat) (b:Nat) (c:Nat) (d:Bool) (e:List Int)
def sE:cH→AE×aC
  | .r0 a b c d e=>(.ret,⟨aj 97 [(4,.sl 0 1 1 a b c),(5,.bool false d)],[(0,.ns .u64 e)],1⟩)
theorem ib:jU sE:=by intro x;cases x<;>(intro h;cases h)
theorem FI(id:Nat) :oT id sE:=by intro x;cases x<;>(intro h;cases h)
def BN:cH→fZ
  | .r0 a b e c d=>⟨.tup [.imm .free (.ns .u64 d) 1 1 a b,.bool false c],[]⟩
def Cu:List Code:=dd (pf wB)
def SW(b:Lv)(a:List Int) :Int×Int×Bool×Nat×Nat→aC:=fun (c,r2,d,e,f)=>⟨aj 97 [(0,.imm b (.ns .u64 a) 1 1 0 (List.length a)),(6,.int .i64 c),(7,.int .u64 r2),(8,.bool false d),(36,.imm b (.ns .u64 a) 1 1 0 e),(37,.int .i64 ((f:Nat):Int)),(38,.int .i64 (0:Int))],[],0⟩
def PE(b:List Int)(a:Int) :T ((Int×Int×Bool×Nat×Nat)⊕(cH)) :=
  .need ((64:Int) != (0:Int))<|.need (dW .i64 (Int.tdiv a (64:Int)))<|.need ((64:Int) != (0:Int))<|.ask (decide ((Int.tdiv a (64:Int))≥(((List.length b):Nat):Int)))
    (.leaf (.inr (.r0 0 0 0 (decide ((((List.length b):Nat):Int)>(0:Int))) ([]:List Int))))
    (.need (fu (Int.tdiv a (64:Int)) (List.length b))<|.need (fW (Int.toNat (Int.tdiv a (64:Int))) (List.length b))<|.need (decide ((0:Int)≤(IntKind.u64.wrap (Int.tmod a (64:Int)))))<|.need (uT (Int.tdiv a (64:Int)) (List.length b))<|.need (uT (0:Int) (Int.toNat (Int.tdiv a (64:Int))))<|.leaf (.inl ((Int.tdiv a (64:Int)),(IntKind.u64.wrap (Int.tmod a (64:Int))),((dM .and .u64 (List.getD b (Int.toNat (Int.tdiv a (64:Int))) 0) (IntKind.u64.wrap ((IntKind.u64.wrap ((1:Int)*2^(min (Int.toNat (IntKind.u64.wrap (Int.tmod a (64:Int)))) (IntKind.u64.bits))))-(1:Int)))) != (0:Int)),(Int.toNat (Int.tdiv a (64:Int))),(Int.toNat (Int.tdiv a (64:Int))))))
def tT(b:Lv)(a:List Int)(c:Int)(r2:Int)(d:Nat)(e:Nat) :Bool×Nat→aC:=fun (f,g)=>⟨aj 97 [(0,.imm b (.ns .u64 a) 1 1 0 (List.length a)),(6,.int .i64 c),(7,.int .u64 r2),(8,.bool false f),(36,.imm b (.ns .u64 a) 1 1 0 d),(37,.int .i64 ((e:Nat):Int)),(38,.int .i64 ((g:Nat):Int))],[],0⟩
def FJ(b:Lv)(a:List Int)(c:Int)(r2:Int)(d:Bool) :aC:=⟨aj 97 [(0,.imm b (.ns .u64 a) 1 1 0 (List.length a)),(6,.int .i64 c),(7,.int .u64 r2),(8,.bool false d)],[],0⟩
def PF:List Code:=dd (fy ((((Cu.drop 6).take 1)).headD .skip))
def SX(b:Lv)(a:List Int)(c:Int)(r2:Int)(d:Nat)(e:Nat)(f:Nat)(g:Bool) :aC:=⟨aj 97 [(0,.imm b (.ns .u64 a) 1 1 0 (List.length a)),(6,.int .i64 c),(7,.int .u64 r2),(8,.bool false g),(36,.imm b (.ns .u64 a) 1 1 0 d),(37,.int .i64 ((e:Nat):Int)),(38,.int .i64 ((f:Nat):Int))],[],0⟩
def PG(b:List Int)(d:Nat)(e:Nat)(c:Bool)(a:Nat) :T ((Bool)⊕((Bool)⊕(cH))) :=
  .ask (decide (((a:Nat):Int)<((e:Nat):Int)))
    (.need (fu ((a:Nat):Int) d)<|.need (fW a (List.length b))<|.ask c
      (.leaf (.inl true))
      (.leaf (.inl ((List.getD b a 0) != (0:Int)))))
    (.leaf (.inr (.inl c)))
def PH(a:Nat)(b:Bool) :T ((Bool×Nat)⊕((Bool)⊕(cH))) :=
  .need (dW .i64 (((a+1):Nat):Int))<|.leaf (.inl (b,(a+1)))
def vO(b:List Int)(c:Nat)(d:Nat) :Bool×Nat→Option ((Bool×Nat)⊕((Bool)⊕(cH))):=fun (e,a) =>
  aO ((PG b c d e a).run) fun f =>
  (PH a f).run
theorem PI(b:Lv)(a:List Int)(c:Int)(r2:Int)(d:Nat)(e:Nat)(g:Bool)(f:Nat) :Sg prog [] PF (tT b a c r2 d e (g,f)) (vO a d e (g,f)) (tT b a c r2 d e) (dR 0 (FJ b a c r2) sE):=by
  unfold vO;exact Sg.cut 3 (bb ib) (br fC (SX b a c r2 d e f) [⟨[],[],[0,6,7,8,36,37,38]⟩,⟨[],[],[0,6,7,8,36,37,38]⟩,⟨[],[],[0,6,7,8]⟩]) (fun h=>br fC (tT b a c r2 d e) [⟨[],[],[0,6,7,8,36,37,38]⟩])
def SY(c:Lv)(a:List Int)(d:Int)(r2:Int)(e:Bool) :Nat×Nat×(List Int)→aC:=fun (b,f,g)=>⟨aj 97 [(0,.imm c (.ns .u64 a) 1 1 0 (List.length a)),(6,.int .i64 d),(7,.int .u64 r2),(8,.bool false e),(11,.sl 0 1 1 0 b b),(54,.int .i64 ((f:Nat):Int)),(55,.int .i64 (0:Int))],[(0,.ns .u64 g)],1⟩
def PJ(a:List Int)(b:Int) :T ((Nat×Nat×(List Int))⊕(cH)) :=
  .need (dW .i64 ((((List.length a):Nat):Int)-b))<|.need (decide ((0:Int)≤((((List.length a):Nat):Int)-b)))<|.need (decide (((((List.length a):Nat):Int)-b)≤((((List.length a):Nat):Int)-b)))<|.need (decide ((8:Int)*((((List.length a):Nat):Int)-b)≤140737488355328))<|.need (dW .i64 ((((List.length a):Nat):Int)-b))<|.leaf (.inl ((Int.toNat ((((List.length a):Nat):Int)-b)),(Int.toNat ((((List.length a):Nat):Int)-b)),(List.replicate (Int.toNat ((((List.length a):Nat):Int)-b)) (0:Int))))
def rB(c:Lv)(a:List Int)(d:Int)(r2:Int)(e:Bool)(b:Nat)(f:Nat) :Nat×(List Int)→aC:=fun (g,h)=>⟨aj 97 [(0,.imm c (.ns .u64 a) 1 1 0 (List.length a)),(6,.int .i64 d),(7,.int .u64 r2),(8,.bool false e),(11,.sl 0 1 1 0 b b),(54,.int .i64 ((f:Nat):Int)),(55,.int .i64 ((g:Nat):Int))],[(0,.ns .u64 h)],1⟩
def Cv(b:Bool)(a:Nat)(c:(List Int)) :aC:=⟨aj 97 [(8,.bool false b),(11,.sl 0 1 1 0 a a)],[(0,.ns .u64 c)],1⟩
def PK:List Code:=dd (fy ((((((Cu.drop 6).drop 1).drop 2).take 1)).headD .skip))
def PL(c:Lv)(a:List Int)(d:Int)(r2:Int)(e:Bool)(b:Nat)(f:Nat)(g:Nat)(h:(List Int)) :aC:=⟨aj 97 [(0,.imm c (.ns .u64 a) 1 1 0 (List.length a)),(6,.int .i64 d),(7,.int .u64 r2),(8,.bool false e),(11,.sl 0 1 1 0 b b),(54,.int .i64 ((f:Nat):Int)),(55,.int .i64 ((g:Nat):Int))],[(0,.ns .u64 h)],1⟩
def PM(c:List Int)(b:Int)(r2:Int)(e:Nat)(f:Nat)(a:Nat)(d:List Int) :T (((List Int))⊕(((List Int))⊕(cH))) :=
  .ask (decide (((a:Nat):Int)<((f:Nat):Int)))
    (.need (dW .i64 (((a:Nat):Int)+b))<|.need (fu (((a:Nat):Int)+b) (List.length c))<|.need (fW (Int.toNat (((a:Nat):Int)+b)) (List.length c))<|.need (decide ((0:Int)≤r2))<|.need (fu ((a:Nat):Int) e)<|.need (fW a (List.length d))<|.need (dW .i64 (((a:Nat):Int)+b))<|.need (dW .i64 ((((a:Nat):Int)+b)+(1:Int)))<|.ask (decide (((((a:Nat):Int)+b)+(1:Int))<(((List.length c):Nat):Int)))
      (.need (fu ((a:Nat):Int) e)<|.need (fW a (List.length (List.set d a (Int.fdiv (List.getD c (Int.toNat (((a:Nat):Int)+b)) 0) (2^(min (Int.toNat r2) (IntKind.u64.bits)))))))<|.need (dW .i64 (((a:Nat):Int)+b))<|.need (dW .i64 ((((a:Nat):Int)+b)+(1:Int)))<|.need (fu ((((a:Nat):Int)+b)+(1:Int)) (List.length c))<|.need (fW (Int.toNat ((((a:Nat):Int)+b)+(1:Int))) (List.length c))<|.need (decide ((0:Int)≤(1:Int)))<|.need (decide ((0:Int)≤(IntKind.u64.wrap ((63:Int)-r2))))<|.need (fu ((a:Nat):Int) e)<|.need (fW a (List.length (List.set d a (Int.fdiv (List.getD c (Int.toNat (((a:Nat):Int)+b)) 0) (2^(min (Int.toNat r2) (IntKind.u64.bits)))))))<|.leaf (.inl (List.set (List.set d a (Int.fdiv (List.getD c (Int.toNat (((a:Nat):Int)+b)) 0) (2^(min (Int.toNat r2) (IntKind.u64.bits))))) a (dM .or .u64 (List.getD (List.set d a (Int.fdiv (List.getD c (Int.toNat (((a:Nat):Int)+b)) 0) (2^(min (Int.toNat r2) (IntKind.u64.bits))))) a 0) (IntKind.u64.wrap ((IntKind.u64.wrap ((List.getD c (Int.toNat ((((a:Nat):Int)+b)+(1:Int))) 0)*2^(min (Int.toNat (1:Int)) (IntKind.u64.bits))))*2^(min (Int.toNat (IntKind.u64.wrap ((63:Int)-r2))) (IntKind.u64.bits))))))))
      (.leaf (.inl (List.set d a (Int.fdiv (List.getD c (Int.toNat (((a:Nat):Int)+b)) 0) (2^(min (Int.toNat r2) (IntKind.u64.bits))))))))
    (.leaf (.inr (.inl d)))
def PN(a:Nat)(b:List Int) :T ((Nat×(List Int))⊕(((List Int))⊕(cH))) :=
  .need (dW .i64 (((a+1):Nat):Int))<|.leaf (.inl ((a+1),b))
def vP(b:List Int)(c:Int)(r2:Int)(d:Nat)(e:Nat) :Nat×(List Int)→Option ((Nat×(List Int))⊕(((List Int))⊕(cH))):=fun (a,f) =>
  aO ((PM b c r2 d e a f).run) fun g =>
  (PN a g).run
theorem PO(f:Lv)(b:List Int)(c:Int)(r2:Int)(d:Bool)(a:Nat)(e:Nat)(g:Nat)(h:List Int) :Sg prog [] PK (rB f b c r2 d a e (g,h)) (vP b c r2 a e (g,h)) (rB f b c r2 d a e) (dR 2 (Cv d a) sE):=by
  unfold vP;exact Sg.cut 3 (bb ib) (br fC (PL f b c r2 d a e g) [⟨[],[0],[0,6,7,8,11,54,55]⟩,⟨[],[0],[0,6,7,8,11,54,55]⟩,⟨[],[0],[8,11]⟩]) (fun i=>br fC (rB f b c r2 d a e) [⟨[],[0],[0,6,7,8,11,54,55]⟩])
def PP(a:Bool) :Nat×Nat×Nat×(List Int)→aC:=fun (b,c,d,e)=>⟨aj 97 [(4,.sl 0 1 1 b c d),(5,.bool false a)],[(0,.ns .u64 e)],1⟩
def PQ(a:Nat)(b:List Int) :T ((Nat×Nat×Nat×(List Int))⊕(cH)) :=
  .need (ff (aT b 0 a a))<|.leaf (.inl ((eO (aT b 0 a a)),(eP (aT b 0 a a)),(eQ (aT b 0 a a)),(eR (aT b 0 a a))))
def PR(a:Bool)(b:Nat)(c:Nat)(d:Nat)(e:List Int) :T ((Empty)⊕(cH)) :=
  .leaf (.inr (.r0 b c d a e))
def nO(a:List Int)(d:Int) :Option cH:=mz (aO ((PE a d).run) fun (b,r2,e,f,g) =>
  aO (gR (vO a f g) (e,0)) fun h =>
  aO ((PJ a b).run) fun (c,i,j) =>
  aO (gR (vP a b r2 c i) (0,j)) fun k =>
  aO ((PQ c k).run) fun (l,m,n,o) =>
  (PR h l m n o).run)
theorem SZ(b:Lv)(a:List Int)(f:Int){x:cH}(h:nO a f=some x) :af prog wB [] [.imm b (.ns .u64 a) 1 1 0 (List.length a),.int .i64 f] (BN x) :=
  ny true BN sE h (Sg.cut 6 ib (br fC (SW b a) [⟨[(.slot 4,.own 1 1 (.ns .u64 ([]:List Int)))],[288],[4,5]⟩,⟨[],[],[0,6,7,8,36,37,38]⟩]) (fun ⟨c,r2,s,g,i⟩=>Sg.cut 1 ib (GD ⟨[],[],[0,6,7,8,36,37,38]⟩ (tT b a c r2 g i) (FJ b a c r2) 0 ib (FI _) (fun ⟨k,l⟩=>PI b a c r2 g i k l)) (fun d=>Sg.cut 2 ib (br fC (SY b a c r2 d) [⟨[],[64],[0,6,7,8,11,54,55]⟩]) (fun ⟨e,j,t⟩=>Sg.cut 1 ib (GD ⟨[],[0],[0,6,7,8,11,54,55]⟩ (rB b a c r2 d e j) (Cv d e) 2 ib (FI _) (fun ⟨m,n⟩=>PO b a c r2 d e j m n)) (fun u=>Sg.cut 1 ib (br fC (PP d) [⟨[],[0],[4,5]⟩]) (fun ⟨v,w,y,z⟩=>br fC mU [⟨[],[0],[4,5]⟩]))))))
    (fun x=>by cases x with | r0 o p q r A=>exact mb [.sl 0 1 1 o p q,.bool false r])
def tU:Option cH→Bool
  | some _=>true
  | none=>false
def tV:Option cH→Nat
  | some (.r0 x _ _ _ _)=>x
  | _=>0
def tW:Option cH→Nat
  | some (.r0 _ x _ _ _)=>x
  | _=>0
def zU:Option cH→Nat
  | some (.r0 _ _ x _ _)=>x
  | _=>0
def tX:Option cH→Bool
  | some (.r0 _ _ _ x _)=>x
  | _=>false
def tY:Option cH→List Int
  | some (.r0 _ _ _ _ x)=>x
  | _=>[]
theorem S5{x:Option cH}(h:tU x=true) :x=some (.r0 (tV x) (tW x) (zU x) (tX x) (tY x)):=by
  unfold tU at h
  split at h<;>first | rfl | (cases h;done) | (rename_i y;cases y;rfl)
def J0:aw:=ca wB (.cons (.ns .u64) (.cons (.int .i64) .nil)) fun t=>(fun q=>[⟨BN (.r0 (tV q) (tW q) (zU q) (tX q) (tY q)),[tU q]⟩]) (nO t.1.2 t.2.1)
theorem Lw:aM prog J0:=aP fun t=>(aQ (fun h=>SZ t.1.1 t.1.2 t.2.1 (S5 h)) aZ)
def J1:List aw:=J0::JZ
theorem mG:aG prog (aD J1):=ap Lw fC
inductive eS where
  | r0 (a:List Int) (b:Nat) (c:Nat) (d:Bool) (e:Nat)
def J2:eS→AE×aC
  | .r0 a b c d e=>(.ret,⟨aj 23 [(4,.imm .free (.ns .u64 a) 1 1 b c),(5,.bool false d),(6,.int .i64 ((e:Nat):Int))],[],0⟩)
theorem yu:jU J2:=by intro x;cases x<;>(intro h;cases h)
def BO:eS→fZ
  | .r0 a b c d e=>⟨.tup [.imm .free (.ns .u64 a) 1 1 b c,.bool false d,.int .i64 ((e:Nat):Int)],[]⟩
def S6(a:Lv)(b:Int) :Nat×(List Int)×Nat→aC:=fun (c,d,e)=>⟨aj 23 [(1,.int .i64 b),(2,.ptr 0 1 0 0),(6,.int .i64 ((c:Nat):Int))],[(0,.vs [.imm a (.ns .u64 d) 1 1 0 e])],1⟩
def S7(a:List Int) :T ((Nat×(List Int)×Nat)⊕(eS)) :=
  .ask (decide ((0:Int)<(1:Int)))
    (.need (fu (0:Int) 1)<|.need (aI 0 (List.length a) a)<|.need (cI (an (aa 0 (List.length a) a)))<|.ask (decide ((((ay (an (aa 0 (List.length a) a))):Nat):Int)>(4096:Int)))
      (.leaf (.inl (2,(aN (an (aa 0 (List.length a) a))),(ay (an (aa 0 (List.length a) a))))))
      (.need (dW .i64 (1:Int))<|.ask (decide ((1:Int)<(1:Int)))
        (.fail)
        (.leaf (.inl (0,(aN (an (aa 0 (List.length a) a))),(ay (an (aa 0 (List.length a) a))))))))
    (.fail)
def S8(a:Lv)(b:Int)(c:List Int)(d:Nat)(e:Bool) :aC:=⟨aj 23 [(1,.int .i64 b),(2,.ptr 0 1 0 0),(14,.bool false e)],[(0,.vs [.imm a (.ns .u64 c) 1 1 0 d])],1⟩
def S9(a:Int)(b:Nat) :T ((Bool)⊕(eS)) :=
  .ask (((b:Nat):Int) != (0:Int))
    (.leaf (.inl true))
    (.leaf (.inl (decide (a<(0:Int)))))
def Ta:(List Int)×Nat×Nat×Bool→aC:=fun (a,b,c,d)=>⟨aj 23 [(4,.imm .free (.ns .u64 a) 1 1 b c),(5,.bool false d)],[],0⟩
def Tb(c:Int)(a:List Int)(b:Nat)(d:Bool) :T (((List Int)×Nat×Nat×Bool)⊕(eS)) :=
  .ask d
    (.leaf (.inr (.r0 ([]:List Int) 0 0 false 2)))
    (.need (aI 0 b a)<|.need (tU (nO (aa 0 b a) c))<|.leaf (.inl ((tY (nO (aa 0 b a) c)),(tV (nO (aa 0 b a) c)),(tW (nO (aa 0 b a) c)),(tX (nO (aa 0 b a) c)))))
def Tc(a:List Int)(b:Nat)(c:Nat)(d:Bool) :T ((Empty)⊕(eS)) :=
  .leaf (.inr (.r0 a b c d 0))
def qu(b:List Int)(a:Int) :Option eS:=mz (aO ((S7 b).run) fun (c,d,e) =>
  aO ((S9 a c).run) fun f =>
  aO ((Tb a d e f).run) fun (g,h,i,j) =>
  (Tc g h i j).run)
theorem Td(b:Lv)(c:List Int)(a:Int){x:eS}(h:qu c a=some x) :af prog Bu [] [.imm b (.ns .u64 c) 1 1 0 (List.length c),.int .i64 a] (BO x) :=
  ny true BO J2 h (Sg.cut 2 yu (br mG (S6 b a) [⟨[],[0],[1,2,6]⟩,⟨[],[0],[1,2,6]⟩]) (fun ⟨l,d,e⟩=>Sg.cut 1 yu (br mG (S8 b a d e) [⟨[],[0],[1,2,14]⟩,⟨[],[0],[1,2,14]⟩]) (fun m=>Sg.cut 2 yu (br mG Ta [⟨[(.slot 4,.fre 1 1 (.ns .u64 ([]:List Int)))],[],[4,5,6]⟩,⟨[],[],[4,5]⟩]) (fun ⟨n,o,p,q⟩=>br mG mU [⟨[],[],[4,5,6]⟩]))))
    (fun x=>by cases x with | r0 f g i j k=>exact mb [.imm .free (.ns .u64 f) 1 1 g i,.bool false j,.int .i64 ((k:Nat):Int)])
def tZ:Option eS→Bool
  | some _=>true
  | none=>false
def ua:Option eS→List Int
  | some (.r0 x _ _ _ _)=>x
  | _=>[]
def ub:Option eS→Nat
  | some (.r0 _ x _ _ _)=>x
  | _=>0
def uc:Option eS→Nat
  | some (.r0 _ _ x _ _)=>x
  | _=>0
def zV:Option eS→Bool
  | some (.r0 _ _ _ x _)=>x
  | _=>false
def zW:Option eS→Nat
  | some (.r0 _ _ _ _ x)=>x
  | _=>0
theorem Te{x:Option eS}(h:tZ x=true) :x=some (.r0 (ua x) (ub x) (uc x) (zV x) (zW x)):=by
  unfold tZ at h
  split at h<;>first | rfl | (cases h;done) | (rename_i y;cases y;rfl)
def J3:aw:=ca Bu (.cons (.ns .u64) (.cons (.int .i64) .nil)) fun t=>(fun q=>[⟨BO (.r0 (ua q) (ub q) (uc q) (zV q) (zW q)),[tZ q]⟩]) (qu t.1.2 t.2.1)
theorem Lx:aM prog J3:=aP fun t=>(aQ (fun h=>Td t.1.1 t.1.2 t.2.1 (Te h)) aZ)
def J4:List aw:=J3::J1
theorem ic:aG prog (aD J4):=ap Lx mG
inductive cW where
  | r0 (a:Int) (b:Nat)
def rC:cW→AE×aC
  | .r0 a b=>(.ret,⟨aj 31 [(2,.int .i64 a),(3,.int .i64 ((b:Nat):Int))],[],0⟩)
theorem jL:jU rC:=by intro x;cases x<;>(intro h;cases h)
theorem Ly(id:Nat) :oT id rC:=by intro x;cases x<;>(intro h;cases h)
def vQ:cW→fZ
  | .r0 a b=>⟨.tup [.int .i64 a,.int .i64 ((b:Nat):Int)],[]⟩
def Lz:List Code:=dd (pf rq)
def LA(a:Lv) :Nat×(List Int)×Nat→aC:=fun (b,c,d)=>⟨aj 31 [(1,.ptr 0 1 0 0),(4,.int .i64 ((b:Nat):Int))],[(0,.vs [.imm a (.ns .u64 c) 1 1 0 d])],1⟩
def Hg(a:List Int) :T ((Nat×(List Int)×Nat)⊕(cW)) :=
  .ask (decide ((0:Int)<(1:Int)))
    (.need (fu (0:Int) 1)<|.need (aI 0 (List.length a) a)<|.need (cI (an (aa 0 (List.length a) a)))<|.ask (decide ((((ay (an (aa 0 (List.length a) a))):Nat):Int)>(4096:Int)))
      (.leaf (.inl (2,(aN (an (aa 0 (List.length a) a))),(ay (an (aa 0 (List.length a) a))))))
      (.need (dW .i64 (1:Int))<|.ask (decide ((1:Int)<(1:Int)))
        (.fail)
        (.leaf (.inl (0,(aN (an (aa 0 (List.length a) a))),(ay (an (aa 0 (List.length a) a))))))))
    (.fail)
def LB(a:Lv)(b:Nat)(c:List Int)(d:Nat)(e:Bool) :aC:=⟨aj 31 [(1,.ptr 0 1 0 0),(4,.int .i64 ((b:Nat):Int)),(14,.bool false e)],[(0,.vs [.imm a (.ns .u64 c) 1 1 0 d])],1⟩
def Hh(a:Nat)(b:Nat) :T ((Bool)⊕(cW)) :=
  .ask (((a:Nat):Int) != (0:Int))
    (.leaf (.inl true))
    (.leaf (.inl (((b:Nat):Int)==(0:Int))))
def LC(a:Lv)(b:List Int)(c:Nat)(_:Unit) :aC:=⟨aj 31 [(1,.ptr 0 1 0 0),(5,.int .i64 (0:Int))],[(0,.vs [.imm a (.ns .u64 b) 1 1 0 c])],1⟩
def Hi(a:Nat)(b:Bool) :T ((Unit)⊕(cW)) :=
  .ask b
    (.leaf (.inr (.r0 (0:Int) a)))
    (.leaf (.inl ()))
def qa(a:Lv)(b:List Int)(c:Nat)(d:Nat) :aC:=⟨aj 31 [(1,.ptr 0 1 0 0),(5,.int .i64 ((d:Nat):Int))],[(0,.vs [.imm a (.ns .u64 b) 1 1 0 c])],1⟩
def zX(a:Lv)(b:List Int)(c:Nat)(d:Nat) :aC:=⟨aj 31 [(1,.ptr 0 1 0 0),(5,.int .i64 ((d:Nat):Int))],[(0,.vs [.imm a (.ns .u64 b) 1 1 0 c])],1⟩
def Hj:List Code:=dd (fy ((((((Lz.drop 2).drop 1).drop 2).take 1)).headD .skip))
def Hk(b:List Int)(c:Nat)(a:Nat) :T ((Nat)⊕((Nat)⊕(cW))) :=
  .need (fu ((a:Nat):Int) c)<|.need (fW a (List.length b))<|.ask ((List.getD b a 0)==(0:Int))
    (.need (dW .i64 (((a+1):Nat):Int))<|.leaf (.inl (a+1)))
    (.leaf (.inr (.inl a)))
def sh(a:List Int)(b:Nat) :Nat→Option ((Nat)⊕((Nat)⊕(cW))):=fun c =>
  (Hk a b c).run
theorem Hl(c:Lv)(a:List Int)(b:Nat)(d:Nat) :Sg prog [] Hj (qa c a b d) (sh a b d) (qa c a b) (dR 0 (zX c a b) rC):=by
  unfold sh;exact br ic (qa c a b) [⟨[],[0],[1,5]⟩,⟨[],[0],[1,5]⟩]
def LD(a:Int) :aC:=⟨aj 31 [(2,.int .i64 a),(3,.int .i64 (0:Int))],[],0⟩
def Hm(b:List Int)(c:Nat)(a:Nat) :T ((Int)⊕(cW)) :=
  .need (dW .i64 (((64*a):Nat):Int))<|.need (fu ((a:Nat):Int) c)<|.need (fW a (List.length b))<|.need (dH (cP (List.getD b a 0)))<|.need (dW .i64 ((((64*a):Nat):Int)+(de (cP (List.getD b a 0)))))<|.leaf (.inl ((((64*a):Nat):Int)+(de (cP (List.getD b a 0)))))
def Hn(a:Int) :T ((Empty)⊕(cW)) :=
  .leaf (.inr (.r0 a 0))
def rD(d:List Int) :Option cW:=mz (aO ((Hg d).run) fun (b,c,a) =>
  aO ((Hh b a).run) fun e =>
  aO ((Hi b e).run) fun _ =>
  aO (gR (sh c a) 0) fun f =>
  aO ((Hm c a f).run) fun g =>
  (Hn g).run)
theorem LF(a:Lv)(d:List Int){x:cW}(h:rD d=some x) :af prog rq [] [.imm a (.ns .u64 d) 1 1 0 (List.length d)] (vQ x) :=
  ny true vQ rC h (Sg.cut 2 jL (br ic (LA a) [⟨[],[0],[1,4]⟩,⟨[],[0],[1,4]⟩]) (fun ⟨e,b,c⟩=>Sg.cut 1 jL (br ic (LB a e b c) [⟨[],[0],[1,4,14]⟩,⟨[],[0],[1,4,14]⟩]) (fun j=>Sg.cut 2 jL (br ic (LC a b c) [⟨[],[],[2,3]⟩,⟨[],[0],[1,5]⟩]) (fun _=>Sg.cut 1 jL (GD ⟨[],[0],[1,5]⟩ (qa a b c) (zX a b c) 0 jL (Ly _) (fun f=>Hl a b c f)) (fun k=>Sg.cut 1 jL (br ic LD [⟨[],[],[2,3]⟩]) (fun l=>br ic mU [⟨[],[],[2,3]⟩]))))))
    (fun x=>by cases x with | r0 g i=>exact mb [.int .i64 g,.int .i64 ((i:Nat):Int)])
def qb:Option cW→Bool
  | some _=>true
  | none=>false
def qO:Option cW→Int
  | some (.r0 x _)=>x
  | _=>0
def vR:Option cW→Nat
  | some (.r0 _ x)=>x
  | _=>0
theorem LG{x:Option cW}(h:qb x=true) :x=some (.r0 (qO x) (vR x)):=by
  unfold qb at h
  split at h<;>first | rfl | (cases h;done) | (rename_i y;cases y;rfl)
def Cw:aw:=ca rq (.cons (.ns .u64) .nil) fun t=>(fun q=>[⟨vQ (.r0 (qO q) (vR q)),[qb q]⟩]) (rD t.1.2)
theorem FK:aM prog Cw:=aP fun t=>(aQ (fun h=>LF t.1.1 t.1.2 (LG h)) aZ)
def Cx:List aw:=Cw::J4
theorem jp:aG prog (aD Cx):=ap FK ic
inductive cX where
  | r0 (a:Bool) (b:List Int) (c:Nat) (d:Nat) (e:Int)
def Cy:cX→AE×aC
  | .r0 a b c d e=>(.ret,⟨aj 37 [(2,.ptr 0 1 0 0)],[(0,.vs [.bool false a,.imm .free (.ns .u64 b) 1 1 c d,.int .i64 e])],1⟩)
theorem ud:jU Cy:=by intro x;cases x<;>(intro h;cases h)
def vS:cX→fZ
  | .r0 a b c d e=>⟨.agg [.bool false a,.imm .free (.ns .u64 b) 1 1 c d,.int .i64 e],[]⟩
def LH(b:Bool)(c:Lv)(a:List Int)(d:Int) :(List Int)×Nat×Bool→aC:=fun (e,f,g)=>⟨aj 37 [(1,.ptr 0 1 0 0),(2,.ptr 1 1 0 0),(3,.imm .free (.ns .u64 e) 1 1 0 f)],[(0,.vs [.bool false b,.imm c (.ns .u64 a) 1 1 0 (List.length a),.int .i64 d]),(1,.vs [.bool false g,.nsl,.int .i64 (0:Int)])],2⟩
def LI(a:List Int) :T (((List Int)×Nat×Bool)⊕(cX)) :=
  .need (aI 0 (List.length a) a)<|.need (oU (lK (aa 0 (List.length a) a)))<|.leaf (.inl ((se (lK (aa 0 (List.length a) a))),(sc (lK (aa 0 (List.length a) a))),false))
def LJ(b:Bool)(c:Lv)(a:List Int)(d:Int)(e:List Int)(f:Nat)(g:Bool)(h:Int) :aC:=⟨aj 37 [(1,.ptr 0 1 0 0),(2,.ptr 1 1 0 0),(3,.imm .free (.ns .u64 e) 1 1 0 f),(5,.int .i64 h)],[(0,.vs [.bool false b,.imm c (.ns .u64 a) 1 1 0 (List.length a),.int .i64 d]),(1,.vs [.bool false g,.nsl,.int .i64 (0:Int)])],2⟩
def LK(b:List Int)(a:Nat) :T ((Int)⊕(cX)) :=
  .ask (((a:Nat):Int)==(0:Int))
    (.leaf (.inr (.r0 false ([]:List Int) 0 0 (0:Int))))
    (.need (aI 0 a b)<|.need (qb (rD (aa 0 a b)))<|.leaf (.inl (qO (rD (aa 0 a b)))))
def LL(b:Bool)(c:Lv)(a:List Int)(d:Int)(e:Bool)(f:Int) :(List Int)×Nat×Nat→aC:=fun (g,h,i)=>⟨aj 37 [(1,.ptr 0 1 0 0),(2,.ptr 1 1 0 0),(3,.imm .free (.ns .u64 g) 1 1 h i),(5,.int .i64 f)],[(0,.vs [.bool false b,.imm c (.ns .u64 a) 1 1 0 (List.length a),.int .i64 d]),(1,.vs [.bool false e,.nsl,.int .i64 (0:Int)])],2⟩
def LM(a:List Int)(b:Nat)(c:Int) :T (((List Int)×Nat×Nat)⊕(cX)) :=
  .need (aI 0 b a)<|.need (tZ (qu (aa 0 b a) c))<|.leaf (.inl ((ua (qu (aa 0 b a) c)),(ub (qu (aa 0 b a) c)),(uc (qu (aa 0 b a) c))))
def LN(c:Bool)(a:Int)(b:Int)(d:List Int)(e:Nat)(f:Nat) :T ((Empty)⊕(cX)) :=
  .need (dW .i64 (a+b))<|.leaf (.inr (.r0 c d e f (a+b)))
def am(d:Bool)(e:List Int)(f:Int) :Option cX:=mz (aO ((LI e).run) fun (a,b,j) =>
  aO ((LK a b).run) fun c =>
  aO ((LM a b c).run) fun (g,h,i) =>
  (LN d f c g h i).run)
theorem LO(b:Bool)(d:Lv)(a:List Int)(c:Int){x:cX}(h:am b a c=some x) :af prog vz [] [.agg [.bool false b,.imm d (.ns .u64 a) 1 1 0 (List.length a),.int .i64 c]] (vS x) :=
  ny true vS Cy h (Sg.cut 2 ud (br jp (LH b d a c) [⟨[],[0,16],[1,2,3]⟩]) (fun ⟨f,g,e⟩=>Sg.cut 3 ud (br jp (LJ b d a c f g e) [⟨[(.cell 1 1,.fre 1 1 (.ns .u64 ([]:List Int)))],[1],[2]⟩,⟨[],[0,1],[1,2,3,5]⟩]) (fun i=>Sg.cut 1 ud (br jp (LL b d a c e i) [⟨[],[0,1],[1,2,3,5]⟩]) (fun ⟨o,p,q⟩=>br jp mU [⟨[],[1],[2]⟩]))))
    (fun x=>by cases x with | r0 j k l m n=>exact mb [.agg [.bool false j,.imm .free (.ns .u64 k) 1 1 l m,.int .i64 n]])
def dh:Option cX→Bool
  | some _=>true
  | none=>false
def bM:Option cX→Bool
  | some (.r0 x _ _ _ _)=>x
  | _=>false
def bN:Option cX→List Int
  | some (.r0 _ x _ _ _)=>x
  | _=>[]
def bO:Option cX→Nat
  | some (.r0 _ _ x _ _)=>x
  | _=>0
def bP:Option cX→Nat
  | some (.r0 _ _ _ x _)=>x
  | _=>0
def bQ:Option cX→Int
  | some (.r0 _ _ _ _ x)=>x
  | _=>0
theorem LP{x:Option cX}(h:dh x=true) :x=some (.r0 (bM x) (bN x) (bO x) (bP x) (bQ x)):=by
  unfold dh at h
  split at h<;>first | rfl | (cases h;done) | (rename_i y;cases y;rfl)
def Cz:aw:=ca vz (.cons (.agg (.cons .bool (.cons (.ns .u64) (.cons (.int .i64) .nil)))) .nil) fun t=>(fun q=>[⟨vS (.r0 (bM q) (bN q) (bO q) (bP q) (bQ q)),[dh q]⟩]) (am t.1.1 t.1.2.1.2 t.1.2.2.1)
theorem FL:aM prog Cz:=aP fun t=>(aQ (fun h=>LO t.1.1 t.1.2.1.1 t.1.2.1.2 t.1.2.2.1 (LP h)) aZ)
def CA:List aw:=Cz::Cx
theorem mH:aG prog (aD CA):=ap FL jp
inductive gJ where
  | r0 (a:Bool)
def FM:gJ→AE×aC
  | .r0 a=>(.ret,⟨aj 18 [(2,.bool false a)],[],0⟩)
theorem CB:jU FM:=by intro x;cases x<;>(intro h;cases h)
def yv:gJ→fZ
  | .r0 a=>⟨.bool false a,[]⟩
def PS(b:Bool)(c:Lv)(a:List Int)(d:Int)(e:Nat) :aC:=⟨aj 18 [(1,.ptr 0 1 0 0),(4,.int .i64 ((e:Nat):Int))],[(0,.vs [.bool false b,.imm c (.ns .u64 a) 1 1 0 (List.length a),.int .i64 d])],1⟩
def PT(a:List Int) :T ((Nat)⊕(gJ)) :=
  .need (aI 0 (List.length a) a)<|.need (oU (lK (aa 0 (List.length a) a)))<|.leaf (.inl (sd (lK (aa 0 (List.length a) a))))
def PU(a:Bool) :aC:=⟨aj 18 [(2,.bool false a)],[],0⟩
def PV(a:Int)(b:Nat) :T ((Bool)⊕(gJ)) :=
  .ask (((b:Nat):Int)==(0:Int))
    (.ask (decide (a≥(-262144:Int)))
      (.leaf (.inl (decide (a≤(262144:Int)))))
      (.leaf (.inl false)))
    (.leaf (.inl false))
def PW(a:Bool) :T ((Empty)⊕(gJ)) :=
  .leaf (.inr (.r0 a))
def cN(a:List Int)(b:Int) :Option gJ:=mz (aO ((PT a).run) fun c =>
  aO ((PV b c).run) fun d =>
  (PW d).run)
theorem PX(c:Bool)(d:Lv)(a:List Int)(b:Int){x:gJ}(h:cN a b=some x) :af prog xZ [] [.agg [.bool false c,.imm d (.ns .u64 a) 1 1 0 (List.length a),.int .i64 b]] (yv x) :=
  ny true yv FM h (Sg.cut 2 CB (br mH (PS c d a b) [⟨[],[0],[1,4]⟩]) (fun f=>Sg.cut 1 CB (br mH PU [⟨[],[],[2]⟩,⟨[],[],[2]⟩,⟨[],[],[2]⟩]) (fun g=>br mH mU [⟨[],[],[2]⟩])))
    (fun x=>by cases x with | r0 e=>exact mb [.bool false e])
def fg:Option gJ→Bool
  | some _=>true
  | none=>false
def dU:Option gJ→Bool
  | some (.r0 x)=>x
  | _=>false
theorem PY{x:Option gJ}(h:fg x=true) :x=some (.r0 (dU x)):=by
  unfold fg at h
  split at h<;>first | rfl | (cases h;done) | (rename_i y;cases y;rfl)
def FO:aw:=ca xZ (.cons (.agg (.cons .bool (.cons (.ns .u64) (.cons (.int .i64) .nil)))) .nil) fun t=>(fun q=>[⟨yv (.r0 (dU q)),[fg q]⟩]) (cN t.1.2.1.2 t.1.2.2.1)
theorem Ho:aM prog FO:=aP fun t=>(aQ (fun h=>PX t.1.1 t.1.2.1.1 t.1.2.1.2 t.1.2.2.1 (PY h)) aZ)
def FP:List aw:=FO::CA
theorem ow:aG prog (aD FP):=ap Ho mH
inductive cB where
  | r0 (a:Nat) (b:Int) (c:List Int) (d:Nat) (e:List Int) (f:Nat)
def zY:cB→AE×aC
  | .r0 a b c d e f=>(.ret,⟨aj 57 [(4,.ptr 0 1 0 0),(5,.int .i64 ((a:Nat):Int))],[(0,.vs [.int .i64 b,.imm .free (.ns .u64 c) 1 1 0 d,.imm .free (.ns .u64 e) 1 1 0 f])],1⟩)
theorem xj:jU zY:=by intro x;cases x<;>(intro h;cases h)
def ue:cB→fZ
  | .r0 a b c d e f=>⟨.tup [.agg [.int .i64 b,.imm .free (.ns .u64 c) 1 1 0 d,.imm .free (.ns .u64 e) 1 1 0 f],.int .i64 ((a:Nat):Int)],[]⟩
def Hp(c:Bool)(d:Lv)(a:List Int)(e:Int)(f:Bool)(g:Lv)(b:List Int)(h:Int)(i:Int) :aC:=⟨aj 57 [(2,.ptr 0 1 0 0),(3,.ptr 1 1 0 0),(4,.ptr 2 1 0 0),(6,.ptr 3 1 0 0)],[(0,.vs [.bool false c,.imm d (.ns .u64 a) 1 1 0 (List.length a),.int .i64 e]),(1,.vs [.bool false f,.imm g (.ns .u64 b) 1 1 0 (List.length b),.int .i64 h]),(2,.vs [.int .i64 (0:Int),.nsl,.nsl]),(3,.vs [.int .i64 i,.nsl,.nsl])],4⟩
def Hq(c:List Int)(a:Int)(d:List Int)(b:Int) :T ((Int)⊕(cB)) :=
  .ask ((((List.length c):Nat):Int)==(0:Int))
    (.leaf (.inl b))
    (.ask ((((List.length d):Nat):Int)==(0:Int))
      (.leaf (.inl a))
      (.need (dW .i64 ((mf a b)-(vb a b)))<|.ask (decide (((mf a b)-(vb a b))>(262144:Int)))
        (.leaf (.inr (.r0 3 (0:Int) ([]:List Int) 0 ([]:List Int) 0)))
        (.leaf (.inl (vb a b)))))
def Hr(a:Int) :(List Int)×Nat×(List Int)×Nat→aC:=fun (b,c,d,e)=>⟨aj 57 [(4,.ptr 0 1 0 0),(6,.ptr 1 1 0 0)],[(0,.vs [.int .i64 (0:Int),.nsl,.nsl]),(1,.vs [.int .i64 a,.imm .free (.ns .u64 b) 1 1 0 c,.imm .free (.ns .u64 d) 1 1 0 e])],2⟩
def Hs(c:List Int)(e:Int)(a:List Int)(d:Int)(b:Int) :T (((List Int)×Nat×(List Int)×Nat)⊕(cB)) :=
  .ask ((((List.length c):Nat):Int)==(0:Int))
    (.ask ((((List.length a):Nat):Int)==(0:Int))
      (.leaf (.inl (([]:List Int),0,([]:List Int),0)))
      (.need (dW .i64 (d-b))<|.need (aI 0 (List.length a) a)<|.need (nN (fR (aa 0 (List.length a) a) (d-b)))<|.leaf (.inl (([]:List Int),0,(jJ (fR (aa 0 (List.length a) a) (d-b))),(jK (fR (aa 0 (List.length a) a) (d-b)))))))
    (.need (dW .i64 (e-b))<|.need (aI 0 (List.length c) c)<|.need (nN (fR (aa 0 (List.length c) c) (e-b)))<|.ask ((((List.length a):Nat):Int)==(0:Int))
      (.leaf (.inl ((jJ (fR (aa 0 (List.length c) c) (e-b))),(jK (fR (aa 0 (List.length c) c) (e-b))),([]:List Int),0)))
      (.need (dW .i64 (d-b))<|.need (aI 0 (List.length a) a)<|.need (nN (fR (aa 0 (List.length a) a) (d-b)))<|.leaf (.inl ((jJ (fR (aa 0 (List.length c) c) (e-b))),(jK (fR (aa 0 (List.length c) c) (e-b))),(jJ (fR (aa 0 (List.length a) a) (d-b))),(jK (fR (aa 0 (List.length a) a) (d-b)))))))
def Ht(a:Int)(b:List Int)(c:Nat)(d:List Int)(e:Nat) :T ((Empty)⊕(cB)) :=
  .leaf (.inr (.r0 0 a b c d e))
def cg(a:List Int)(b:Int)(c:List Int)(d:Int) :Option cB:=mz (aO ((Hq a b c d).run) fun e =>
  aO ((Hs a b c d e).run) fun (f,g,h,i) =>
  (Ht e f g h i).run)
theorem Hu(e:Bool)(f:Lv)(a:List Int)(c:Int)(g:Bool)(i:Lv)(b:List Int)(d:Int){x:cB}(h:cg a c b d=some x) :af prog tm [] [.agg [.bool false e,.imm f (.ns .u64 a) 1 1 0 (List.length a),.int .i64 c],.agg [.bool false g,.imm i (.ns .u64 b) 1 1 0 (List.length b),.int .i64 d]] (ue x) :=
  ny true ue zY h (Sg.cut 3 xj (br ow (Hp e f a c g i b d) [⟨[],[0,16,32,176],[2,3,4,6]⟩,⟨[],[0,16,32,176],[2,3,4,6]⟩,⟨[(.cell 32 1,.fre 1 1 (.ns .u64 ([]:List Int))),(.cell 32 2,.fre 1 1 (.ns .u64 ([]:List Int)))],[32],[4,5]⟩,⟨[],[0,16,32,176],[2,3,4,6]⟩]) (fun j=>Sg.cut 2 xj (br ow (Hr j) [⟨[(.cell 3 1,.fre 1 1 (.ns .u64 ([]:List Int))),(.cell 3 2,.fre 1 1 (.ns .u64 ([]:List Int)))],[2,3],[4,6]⟩,⟨[(.cell 3 1,.fre 1 1 (.ns .u64 ([]:List Int)))],[2,3],[4,6]⟩,⟨[(.cell 3 2,.fre 1 1 (.ns .u64 ([]:List Int)))],[2,3],[4,6]⟩,⟨[],[2,3],[4,6]⟩]) (fun ⟨q,r,s,t⟩=>br ow mU [⟨[],[0],[4,5]⟩])))
    (fun x=>by cases x with | r0 k l m n o p=>exact mb [.agg [.int .i64 l,.imm .free (.ns .u64 m) 1 1 0 n,.imm .free (.ns .u64 o) 1 1 0 p],.int .i64 ((k:Nat):Int)])
def kq:Option cB→Bool
  | some _=>true
  | none=>false
def lg:Option cB→Nat
  | some (.r0 x _ _ _ _ _)=>x
  | _=>0
def lh:Option cB→Int
  | some (.r0 _ x _ _ _ _)=>x
  | _=>0
def lm:Option cB→List Int
  | some (.r0 _ _ x _ _ _)=>x
  | _=>[]
def ln:Option cB→Nat
  | some (.r0 _ _ _ x _ _)=>x
  | _=>0
def lp:Option cB→List Int
  | some (.r0 _ _ _ _ x _)=>x
  | _=>[]
def lq:Option cB→Nat
  | some (.r0 _ _ _ _ _ x)=>x
  | _=>0
theorem Hv{x:Option cB}(h:kq x=true) :x=some (.r0 (lg x) (lh x) (lm x) (ln x) (lp x) (lq x)):=by
  unfold kq at h
  split at h<;>first | rfl | (cases h;done) | (rename_i y;cases y;rfl)
def zZ:aw:=ca tm (.cons (.agg (.cons .bool (.cons (.ns .u64) (.cons (.int .i64) .nil)))) (.cons (.agg (.cons .bool (.cons (.ns .u64) (.cons (.int .i64) .nil)))) .nil)) fun t=>(fun q=>[⟨ue (.r0 (lg q) (lh q) (lm q) (ln q) (lp q) (lq q)),[kq q]⟩]) (cg t.1.2.1.2 t.1.2.2.1 t.2.1.2.1.2 t.2.1.2.2.1)
theorem C9:aM prog zZ:=aP fun t=>(aQ (fun h=>Hu t.1.1 t.1.2.1.1 t.1.2.1.2 t.1.2.2.1 t.2.1.1 t.2.1.2.1.1 t.2.1.2.1.2 t.2.1.2.2.1 (Hv h)) aZ)
def Aa:List aw:=zZ::FP
theorem lr:aG prog (aD Aa):=ap C9 ow
inductive cY where
  | r0 (a:Nat) (b:Bool) (c:List Int) (d:Nat) (e:Nat) (f:Int)
def CC:cY→AE×aC
  | .r0 a b c d e f=>(.ret,⟨aj 11 [(2,.ptr 0 1 0 0),(3,.int .i64 ((a:Nat):Int))],[(0,.vs [.bool false b,.imm .free (.ns .u64 c) 1 1 d e,.int .i64 f])],1⟩)
theorem Ab:jU CC:=by intro x;cases x<;>(intro h;cases h)
def vT:cY→fZ
  | .r0 a b c d e f=>⟨.tup [.agg [.bool false b,.imm .free (.ns .u64 c) 1 1 d e,.int .i64 f],.int .i64 ((a:Nat):Int)],[]⟩
def LQ:Bool×(List Int)×Nat×Nat×Int×Bool→aC:=fun (a,b,c,d,e,f)=>⟨aj 11 [(1,.ptr 0 1 0 0),(2,.ptr 1 1 0 0)],[(0,.vs [.bool false a,.imm .free (.ns .u64 b) 1 1 c d,.int .i64 e]),(1,.vs [.bool false f,.nsl,.int .i64 (0:Int)])],2⟩
def LR(b:Bool)(a:List Int)(c:Int) :T ((Bool×(List Int)×Nat×Nat×Int×Bool)⊕(cY)) :=
  .need (aI 0 (List.length a) a)<|.need (dh (am b (aa 0 (List.length a) a) c))<|.leaf (.inl ((bM (am b (aa 0 (List.length a) a) c)),(bN (am b (aa 0 (List.length a) a) c)),(bO (am b (aa 0 (List.length a) a) c)),(bP (am b (aa 0 (List.length a) a) c)),(bQ (am b (aa 0 (List.length a) a) c)),false))
def LS(a:Bool)(b:List Int)(c:Nat)(d:Nat)(e:Int)(f:Bool)(g:Bool) :aC:=⟨aj 11 [(1,.ptr 0 1 0 0),(2,.ptr 1 1 0 0),(8,.bool false g)],[(0,.vs [.bool false a,.imm .free (.ns .u64 b) 1 1 c d,.int .i64 e]),(1,.vs [.bool false f,.nsl,.int .i64 (0:Int)])],2⟩
def LU(a:List Int)(b:Nat)(c:Nat)(d:Int) :T ((Bool)⊕(cY)) :=
  .need (aI b c a)<|.need (fg (cN (aa b c a) d))<|.leaf (.inl (!(dU (cN (aa b c a) d))))
def LV(a:Bool)(b:List Int)(c:Nat)(d:Nat)(e:Int)(f:Bool) :T ((Empty)⊕(cY)) :=
  .ask f
    (.leaf (.inr (.r0 3 false ([]:List Int) 0 0 (0:Int))))
    (.leaf (.inr (.r0 0 a b c d e)))
def bC(e:Bool)(f:List Int)(g:Int) :Option cY:=mz (aO ((LR e f g).run) fun (h,a,b,c,d,j) =>
  aO ((LU a b c d).run) fun i =>
  (LV h a b c d i).run)
theorem LW(b:Bool)(d:Lv)(a:List Int)(c:Int){x:cY}(h:bC b a c=some x) :af prog vA [] [.agg [.bool false b,.imm d (.ns .u64 a) 1 1 0 (List.length a),.int .i64 c]] (vT x) :=
  ny true vT CC h (Sg.cut 2 Ab (br lr LQ [⟨[],[0,16],[1,2]⟩]) (fun ⟨e,f,g,i,j,k⟩=>Sg.cut 1 Ab (br lr (LS e f g i j k) [⟨[],[0,1],[1,2,8]⟩]) (fun r=>br lr mU [⟨[(.cell 1 1,.fre 1 1 (.ns .u64 ([]:List Int)))],[1],[2,3]⟩,⟨[],[1],[2,3]⟩])))
    (fun x=>by cases x with | r0 l m n o p q=>exact mb [.agg [.bool false m,.imm .free (.ns .u64 n) 1 1 o p,.int .i64 q],.int .i64 ((l:Nat):Int)])
def jM:Option cY→Bool
  | some _=>true
  | none=>false
def jq:Option cY→Nat
  | some (.r0 x _ _ _ _ _)=>x
  | _=>0
def jr:Option cY→Bool
  | some (.r0 _ x _ _ _ _)=>x
  | _=>false
def js:Option cY→List Int
  | some (.r0 _ _ x _ _ _)=>x
  | _=>[]
def jt:Option cY→Nat
  | some (.r0 _ _ _ x _ _)=>x
  | _=>0
def ju:Option cY→Nat
  | some (.r0 _ _ _ _ x _)=>x
  | _=>0
def jv:Option cY→Int
  | some (.r0 _ _ _ _ _ x)=>x
  | _=>0
theorem LX{x:Option cY}(h:jM x=true) :x=some (.r0 (jq x) (jr x) (js x) (jt x) (ju x) (jv x)):=by
  unfold jM at h
  split at h<;>first | rfl | (cases h;done) | (rename_i y;cases y;rfl)
def CD:aw:=ca vA (.cons (.agg (.cons .bool (.cons (.ns .u64) (.cons (.int .i64) .nil)))) .nil) fun t=>(fun q=>[⟨vT (.r0 (jq q) (jr q) (js q) (jt q) (ju q) (jv q)),[jM q]⟩]) (bC t.1.1 t.1.2.1.2 t.1.2.2.1)
theorem FQ:aM prog CD:=aP fun t=>(aQ (fun h=>LW t.1.1 t.1.2.1.1 t.1.2.1.2 t.1.2.2.1 (LX h)) aZ)
def CE:List aw:=CD::Aa
theorem qP:aG prog (aD CE):=ap FQ lr
inductive cQ where
  | r0 (a:Nat) (b:Bool) (c:List Int) (d:Nat) (e:Nat) (f:Int)
def Ac:cQ→AE×aC
  | .r0 a b c d e f=>(.ret,⟨aj 21 [(7,.ptr 0 1 0 0),(8,.int .i64 ((a:Nat):Int))],[(0,.vs [.bool false b,.imm .free (.ns .u64 c) 1 1 d e,.int .i64 f])],1⟩)
theorem Hw:jU Ac:=by intro x;cases x<;>(intro h;cases h)
def uf:cQ→fZ
  | .r0 a b c d e f=>⟨.tup [.agg [.bool false b,.imm .free (.ns .u64 c) 1 1 d e,.int .i64 f],.int .i64 ((a:Nat):Int)],[]⟩
def Hx:Nat×Bool×(List Int)×Nat×Nat×Int→aC:=fun (a,b,c,d,e,f)=>⟨aj 21 [(7,.ptr 0 1 0 0),(8,.int .i64 ((a:Nat):Int))],[(0,.vs [.bool false b,.imm .free (.ns .u64 c) 1 1 d e,.int .i64 f])],1⟩
def Hy(b:Bool)(a:List Int)(d:Int)(c:Int) :T ((Nat×Bool×(List Int)×Nat×Nat×Int)⊕(cQ)) :=
  .ask (d != (0:Int))
    (.leaf (.inr (.r0 3 false ([]:List Int) 0 0 (0:Int))))
    (.need (aI 0 (List.length a) a)<|.need (jM (bC b (aa 0 (List.length a) a) c))<|.leaf (.inl ((jq (bC b (aa 0 (List.length a) a) c)),(jr (bC b (aa 0 (List.length a) a) c)),(js (bC b (aa 0 (List.length a) a) c)),(jt (bC b (aa 0 (List.length a) a) c)),(ju (bC b (aa 0 (List.length a) a) c)),(jv (bC b (aa 0 (List.length a) a) c)))))
def Hz(a:Nat)(b:Bool)(c:List Int)(d:Nat)(e:Nat)(f:Int) :T ((Empty)⊕(cQ)) :=
  .leaf (.inr (.r0 a b c d e f))
def bh(a:Bool)(b:List Int)(c:Int)(d:Int) :Option cQ:=mz (aO ((Hy a b c d).run) fun (e,f,g,h,i,j) =>
  (Hz e f g h i j).run)
theorem HA(b:Bool)(g:Lv)(a:List Int)(c:Int)(i:Lv)(d:Int)(j:Lv)(e:List Int)(k:Lv)(f:List Int){x:cQ}(h:bh b a c d=some x) :af prog jF [] [.bool false b,.imm g (.ns .u64 a) 1 1 0 (List.length a),.int .i64 c,.iptr i (.vs [.int .i64 d,.imm j (.ns .u64 e) 1 1 0 (List.length e),.imm k (.ns .u64 f) 1 1 0 (List.length f)]) 1 0 0] (uf x) :=
  ny false uf Ac h (Sg.cut 4 Hw (br qP Hx [⟨[(.cell 0 1,.fre 1 1 (.ns .u64 ([]:List Int)))],[0],[7,8]⟩,⟨[],[0],[7,8]⟩]) (fun ⟨r,s,t,u,v,w⟩=>br qP mU [⟨[],[0],[7,8]⟩]))
    (fun x=>by cases x with | r0 l m n o p q=>exact mb [.agg [.bool false m,.imm .free (.ns .u64 n) 1 1 o p,.int .i64 q],.int .i64 ((l:Nat):Int)])
def jb:Option cQ→Bool
  | some _=>true
  | none=>false
def iG:Option cQ→Nat
  | some (.r0 x _ _ _ _ _)=>x
  | _=>0
def iH:Option cQ→Bool
  | some (.r0 _ x _ _ _ _)=>x
  | _=>false
def iI:Option cQ→List Int
  | some (.r0 _ _ x _ _ _)=>x
  | _=>[]
def iJ:Option cQ→Nat
  | some (.r0 _ _ _ x _ _)=>x
  | _=>0
def iK:Option cQ→Nat
  | some (.r0 _ _ _ _ x _)=>x
  | _=>0
def iL:Option cQ→Int
  | some (.r0 _ _ _ _ _ x)=>x
  | _=>0
theorem HB{x:Option cQ}(h:jb x=true) :x=some (.r0 (iG x) (iH x) (iI x) (iJ x) (iK x) (iL x)):=by
  unfold jb at h
  split at h<;>first | rfl | (cases h;done) | (rename_i y;cases y;rfl)
def Ad:aw:=ca jF (.cons .bool (.cons (.ns .u64) (.cons (.int .i64) (.cons (.ivs (.cons (.int .i64) (.cons (.ns .u64) (.cons (.ns .u64) .nil))) 1 0 0) .nil)))) fun t=>(fun q=>[⟨uf (.r0 (iG q) (iH q) (iI q) (iJ q) (iK q) (iL q)),[jb q]⟩]) (bh t.1 t.2.1.2 t.2.2.1 t.2.2.2.1.2.1)
theorem Da:aM prog Ad:=aP fun t=>(aQ (fun h=>HA t.1 t.2.1.1 t.2.1.2 t.2.2.1 t.2.2.2.1.1 t.2.2.2.1.2.1 t.2.2.2.1.2.2.1.1 t.2.2.2.1.2.2.1.2 t.2.2.2.1.2.2.2.1.1 t.2.2.2.1.2.2.2.1.2 (HB h)) aZ)
def Ae:List aw:=Ad::CE
theorem dI:aG prog (aD Ae):=ap Da qP
inductive co where
  | r0 (a:Nat) (b:Bool) (c:List Int) (d:Nat) (e:Nat) (f:Int)
def FS:co→AE×aC
  | .r0 a b c d e f=>(.ret,⟨aj 97 [(4,.ptr 0 1 0 0),(5,.int .i64 ((a:Nat):Int))],[(0,.vs [.bool false b,.imm .free (.ns .u64 c) 1 1 d e,.int .i64 f])],1⟩)
theorem jw:jU FS:=by intro x;cases x<;>(intro h;cases h)
def yw:co→fZ
  | .r0 a b c d e f=>⟨.tup [.agg [.bool false b,.imm .free (.ns .u64 c) 1 1 d e,.int .i64 f],.int .i64 ((a:Nat):Int)],[]⟩
def PZ(a:Lv)(b:Lv) :Nat×Bool×(List Int)×Nat×Nat×Int×Bool×(List Int)×Nat×Nat×Int×Bool→aC:=fun (c,d,e,f,g,h,i,j,k,l,m,n)=>⟨aj 97 [(2,.ptr 0 1 0 0),(3,.ptr 1 1 0 0),(4,.ptr 2 1 0 0),(6,.int .i64 ((c:Nat):Int))],[(0,.vs [.bool false d,.imm a (.ns .u64 e) 1 1 f g,.int .i64 h]),(1,.vs [.bool false i,.imm b (.ns .u64 j) 1 1 k l,.int .i64 m]),(2,.vs [.bool false n,.nsl,.int .i64 (0:Int)])],3⟩
def P3(d : Bool)(a : List Int)(c : Int)(f : Bool)(b : List Int)(e : Int) : T ((Nat × Bool × (List Int) × Nat × Nat × Int × Bool × (List Int) × Nat × Nat × Int × Bool) ⊕ (co)) :=
  .ask (decide ((0:Int)<(2:Int)))
    (.need (fu (0:Int) 2)<|.need (aI 0 (List.length a) a)<|.need (fg (cN (aa 0 (List.length a) a) c))<|.ask (!(dU (cN (aa 0 (List.length a) a) c)))
      (.leaf (.inl (2,d,a,0,(List.length a),c,f,b,0,(List.length b),e,false)))
      (.need (aI 0 (List.length a) a)<|.need (dh (am d (aa 0 (List.length a) a) c))<|.need (dW .i64 (1:Int))<|.ask (decide ((1:Int)<(2:Int)))
        (.need (fu (1:Int) 2)<|.need (aI 0 (List.length b) b)<|.need (fg (cN (aa 0 (List.length b) b) e))<|.ask (!(dU (cN (aa 0 (List.length b) b) e)))
          (.leaf (.inl (2,(bM (am d (aa 0 (List.length a) a) c)),(bN (am d (aa 0 (List.length a) a) c)),(bO (am d (aa 0 (List.length a) a) c)),(bP (am d (aa 0 (List.length a) a) c)),(bQ (am d (aa 0 (List.length a) a) c)),f,b,0,(List.length b),e,false)))
          (.need (aI 0 (List.length b) b)<|.need (dh (am f (aa 0 (List.length b) b) e))<|.need (dW .i64 (2:Int))<|.ask (decide ((2:Int)<(2:Int)))
            (.fail)
            (.leaf (.inl (0,(bM (am d (aa 0 (List.length a) a) c)),(bN (am d (aa 0 (List.length a) a) c)),(bO (am d (aa 0 (List.length a) a) c)),(bP (am d (aa 0 (List.length a) a) c)),(bQ (am d (aa 0 (List.length a) a) c)),(bM (am f (aa 0 (List.length b) b) e)),(bN (am f (aa 0 (List.length b) b) e)),(bO (am f (aa 0 (List.length b) b) e)),(bP (am f (aa 0 (List.length b) b) e)),(bQ (am f (aa 0 (List.length b) b) e)),false)))))
        (.fail)))
    (.fail)
def P5(a:Lv)(b:Lv)(c:Bool)(d:List Int)(e:Nat)(f:Nat)(g:Int)(h:Bool)(i:List Int)(j:Nat)(k:Nat)(l:Int)(m:Bool) :Nat×Int×(List Int)×Nat×(List Int)×Nat→aC:=fun (n,o,p,q,r,s)=>⟨aj 97 [(2,.ptr 0 1 0 0),(3,.ptr 1 1 0 0),(4,.ptr 2 1 0 0),(7,.ptr 3 1 0 0),(8,.int .i64 ((n:Nat):Int))],[(0,.vs [.bool false c,.imm a (.ns .u64 d) 1 1 e f,.int .i64 g]),(1,.vs [.bool false h,.imm b (.ns .u64 i) 1 1 j k,.int .i64 l]),(2,.vs [.bool false m,.nsl,.int .i64 (0:Int)]),(3,.vs [.int .i64 o,.imm .free (.ns .u64 p) 1 1 0 q,.imm .free (.ns .u64 r) 1 1 0 s])],4⟩
def LY(i:Nat)(a:List Int)(b:Nat)(c:Nat)(g:Int)(d:List Int)(e:Nat)(f:Nat)(h:Int) :T ((Nat×Int×(List Int)×Nat×(List Int)×Nat)⊕(co)) :=
  .ask (((i:Nat):Int) != (0:Int))
    (.leaf (.inr (.r0 i false ([]:List Int) 0 0 (0:Int))))
    (.need (aI b c a)<|.need (aI e f d)<|.need (kq (cg (aa b c a) g (aa e f d) h))<|.leaf (.inl ((lg (cg (aa b c a) g (aa e f d) h)),(lh (cg (aa b c a) g (aa e f d) h)),(lm (cg (aa b c a) g (aa e f d) h)),(ln (cg (aa b c a) g (aa e f d) h)),(lp (cg (aa b c a) g (aa e f d) h)),(lq (cg (aa b c a) g (aa e f d) h)))))
def P6(a:Lv)(b:Lv)(c:Bool)(d:List Int)(e:Nat)(f:Nat)(g:Int)(h:Bool)(i:List Int)(j:Nat)(k:Nat)(l:Int)(m:Bool)(n:Int)(o:List Int)(p:Nat)(q:List Int)(r:Nat)(_:Unit) :aC:=⟨aj 97 [(2,.ptr 0 1 0 0),(3,.ptr 1 1 0 0),(4,.ptr 2 1 0 0),(7,.ptr 3 1 0 0),(9,.fn (.func jF) [] [.ptr 3 1 0 0])],[(0,.vs [.bool false c,.imm a (.ns .u64 d) 1 1 e f,.int .i64 g]),(1,.vs [.bool false h,.imm b (.ns .u64 i) 1 1 j k,.int .i64 l]),(2,.vs [.bool false m,.nsl,.int .i64 (0:Int)]),(3,.vs [.int .i64 n,.imm .free (.ns .u64 o) 1 1 0 p,.imm .free (.ns .u64 q) 1 1 0 r])],4⟩
def LZ(e:Bool)(h:Bool)(g:Nat)(f:Int)(a:List Int)(b:Nat)(c:List Int)(d:Nat) :T ((Unit)⊕(co)) :=
  .ask (((g:Nat):Int) != (0:Int))
    (.leaf (.inr (.r0 g false ([]:List Int) 0 0 (0:Int))))
    (.ask (e==h)
      (.need (aI 0 b a)<|.need (aI 0 d c)<|.need (tA (bg (aa 0 b a) (aa 0 d c)))<|.need (aI (eW (bg (aa 0 b a) (aa 0 d c))) (eX (bg (aa 0 b a) (aa 0 d c))) (eY (bg (aa 0 b a) (aa 0 d c))))<|.need (aI 0 b a)<|.need (aI 0 d c)<|.need (jb (bh e (aa (eW (bg (aa 0 b a) (aa 0 d c))) (eX (bg (aa 0 b a) (aa 0 d c))) (eY (bg (aa 0 b a) (aa 0 d c)))) (((fB (bg (aa 0 b a) (aa 0 d c))):Nat):Int) f))<|.leaf (.inr (.r0 (iG (bh e (aa (eW (bg (aa 0 b a) (aa 0 d c))) (eX (bg (aa 0 b a) (aa 0 d c))) (eY (bg (aa 0 b a) (aa 0 d c)))) (((fB (bg (aa 0 b a) (aa 0 d c))):Nat):Int) f)) (iH (bh e (aa (eW (bg (aa 0 b a) (aa 0 d c))) (eX (bg (aa 0 b a) (aa 0 d c))) (eY (bg (aa 0 b a) (aa 0 d c)))) (((fB (bg (aa 0 b a) (aa 0 d c))):Nat):Int) f)) (iI (bh e (aa (eW (bg (aa 0 b a) (aa 0 d c))) (eX (bg (aa 0 b a) (aa 0 d c))) (eY (bg (aa 0 b a) (aa 0 d c)))) (((fB (bg (aa 0 b a) (aa 0 d c))):Nat):Int) f)) (iJ (bh e (aa (eW (bg (aa 0 b a) (aa 0 d c))) (eX (bg (aa 0 b a) (aa 0 d c))) (eY (bg (aa 0 b a) (aa 0 d c)))) (((fB (bg (aa 0 b a) (aa 0 d c))):Nat):Int) f)) (iK (bh e (aa (eW (bg (aa 0 b a) (aa 0 d c))) (eX (bg (aa 0 b a) (aa 0 d c))) (eY (bg (aa 0 b a) (aa 0 d c)))) (((fB (bg (aa 0 b a) (aa 0 d c))):Nat):Int) f)) (iL (bh e (aa (eW (bg (aa 0 b a) (aa 0 d c))) (eX (bg (aa 0 b a) (aa 0 d c))) (eY (bg (aa 0 b a) (aa 0 d c)))) (((fB (bg (aa 0 b a) (aa 0 d c))):Nat):Int) f)))))
      (.leaf (.inl ())))
def P7(a:Lv)(b:Lv)(c:Bool)(d:List Int)(e:Nat)(f:Nat)(g:Int)(h:Bool)(i:List Int)(j:Nat)(k:Nat)(l:Int)(m:Bool)(n:Int)(o:List Int)(p:Nat)(q:List Int)(r:Nat)(s:Int) :aC:=⟨aj 97 [(2,.ptr 0 1 0 0),(3,.ptr 1 1 0 0),(4,.ptr 2 1 0 0),(7,.ptr 3 1 0 0),(9,.fn (.func jF) [] [.ptr 3 1 0 0]),(12,.int .i64 s)],[(0,.vs [.bool false c,.imm a (.ns .u64 d) 1 1 e f,.int .i64 g]),(1,.vs [.bool false h,.imm b (.ns .u64 i) 1 1 j k,.int .i64 l]),(2,.vs [.bool false m,.nsl,.int .i64 (0:Int)]),(3,.vs [.int .i64 n,.imm .free (.ns .u64 o) 1 1 0 p,.imm .free (.ns .u64 q) 1 1 0 r])],4⟩
def L0(a:List Int)(b:Nat)(c:List Int)(d:Nat) :T ((Int)⊕(co)) :=
  .need (aI 0 b a)<|.need (aI 0 d c)<|.need (qK (qr (aa 0 b a) (aa 0 d c)))<|.leaf (.inl (pY (qr (aa 0 b a) (aa 0 d c))))
def P8(a:Lv)(b:Bool)(c:List Int)(d:Nat)(e:Nat)(f:Int)(g:Bool)(h:Int)(i:List Int)(j:Nat)(k:List Int)(l:Nat)(_:Unit) :aC:=⟨aj 97 [(2,.ptr 0 1 0 0),(4,.ptr 1 1 0 0),(7,.ptr 2 1 0 0),(9,.fn (.func jF) [] [.ptr 2 1 0 0])],[(0,.vs [.bool false b,.imm a (.ns .u64 c) 1 1 d e,.int .i64 f]),(1,.vs [.bool false g,.nsl,.int .i64 (0:Int)]),(2,.vs [.int .i64 h,.imm .free (.ns .u64 i) 1 1 0 j,.imm .free (.ns .u64 k) 1 1 0 l])],3⟩
def L4(e:Bool)(f:Int)(a:List Int)(b:Nat)(c:List Int)(d:Nat)(g:Int) :T ((Unit)⊕(co)) :=
  .ask (decide (g<(0:Int)))
    (.need (aI 0 d c)<|.need (aI 0 b a)<|.need (qM (ba (aa 0 d c) (aa 0 b a)))<|.need (aI (ef (ba (aa 0 d c) (aa 0 b a))) (eh (ba (aa 0 d c) (aa 0 b a))) (ee (ba (aa 0 d c) (aa 0 b a))))<|.need (aI 0 b a)<|.need (aI 0 d c)<|.need (jb (bh e (aa (ef (ba (aa 0 d c) (aa 0 b a))) (eh (ba (aa 0 d c) (aa 0 b a))) (ee (ba (aa 0 d c) (aa 0 b a)))) (((eZ (ba (aa 0 d c) (aa 0 b a))):Nat):Int) f))<|.leaf (.inr (.r0 (iG (bh e (aa (ef (ba (aa 0 d c) (aa 0 b a))) (eh (ba (aa 0 d c) (aa 0 b a))) (ee (ba (aa 0 d c) (aa 0 b a)))) (((eZ (ba (aa 0 d c) (aa 0 b a))):Nat):Int) f)) (iH (bh e (aa (ef (ba (aa 0 d c) (aa 0 b a))) (eh (ba (aa 0 d c) (aa 0 b a))) (ee (ba (aa 0 d c) (aa 0 b a)))) (((eZ (ba (aa 0 d c) (aa 0 b a))):Nat):Int) f)) (iI (bh e (aa (ef (ba (aa 0 d c) (aa 0 b a))) (eh (ba (aa 0 d c) (aa 0 b a))) (ee (ba (aa 0 d c) (aa 0 b a)))) (((eZ (ba (aa 0 d c) (aa 0 b a))):Nat):Int) f)) (iJ (bh e (aa (ef (ba (aa 0 d c) (aa 0 b a))) (eh (ba (aa 0 d c) (aa 0 b a))) (ee (ba (aa 0 d c) (aa 0 b a)))) (((eZ (ba (aa 0 d c) (aa 0 b a))):Nat):Int) f)) (iK (bh e (aa (ef (ba (aa 0 d c) (aa 0 b a))) (eh (ba (aa 0 d c) (aa 0 b a))) (ee (ba (aa 0 d c) (aa 0 b a)))) (((eZ (ba (aa 0 d c) (aa 0 b a))):Nat):Int) f)) (iL (bh e (aa (ef (ba (aa 0 d c) (aa 0 b a))) (eh (ba (aa 0 d c) (aa 0 b a))) (ee (ba (aa 0 d c) (aa 0 b a)))) (((eZ (ba (aa 0 d c) (aa 0 b a))):Nat):Int) f)))))
    (.leaf (.inl ()))
def P9(a:Lv)(b:Bool)(c:List Int)(d:Nat)(e:Nat)(f:Int)(g:Bool)(h:Int)(i:List Int)(j:Nat)(k:List Int)(l:Nat) :Nat×(List Int)×Nat×Nat→aC:=fun (m,n,o,p)=>⟨aj 97 [(2,.ptr 0 1 0 0),(4,.ptr 1 1 0 0),(8,.int .i64 ((m:Nat):Int)),(9,.fn (.func jF) [] [.ptr 2 1 0 0]),(16,.imm .free (.ns .u64 n) 1 1 o p)],[(0,.vs [.bool false b,.imm a (.ns .u64 c) 1 1 d e,.int .i64 f]),(1,.vs [.bool false g,.nsl,.int .i64 (0:Int)]),(2,.vs [.int .i64 h,.imm .free (.ns .u64 i) 1 1 0 j,.imm .free (.ns .u64 k) 1 1 0 l])],3⟩
def L5(a:List Int)(b:Nat)(c:List Int)(d:Nat) :T ((Nat×(List Int)×Nat×Nat)⊕(co)) :=
  .need (aI 0 b a)<|.need (aI 0 d c)<|.need (qM (ba (aa 0 b a) (aa 0 d c)))<|.leaf (.inl ((eZ (ba (aa 0 b a) (aa 0 d c))),(ee (ba (aa 0 b a) (aa 0 d c))),(ef (ba (aa 0 b a) (aa 0 d c))),(eh (ba (aa 0 b a) (aa 0 d c)))))
def Qa:Nat×Bool×(List Int)×Nat×Nat×Int→aC:=fun (a,b,c,d,e,f)=>⟨aj 97 [(4,.ptr 0 1 0 0),(5,.int .i64 ((a:Nat):Int))],[(0,.vs [.bool false b,.imm .free (.ns .u64 c) 1 1 d e,.int .i64 f])],1⟩
def L6(d:Bool)(e:Int)(g:List Int)(h:Nat)(i:List Int)(j:Nat)(f:Nat)(a:List Int)(b:Nat)(c:Nat) :T ((Nat×Bool×(List Int)×Nat×Nat×Int)⊕(co)) :=
  .need (aI b c a)<|.need (aI 0 h g)<|.need (aI 0 j i)<|.need (jb (bh d (aa b c a) ((f:Nat):Int) e))<|.leaf (.inl ((iG (bh d (aa b c a) ((f:Nat):Int) e)),(iH (bh d (aa b c a) ((f:Nat):Int) e)),(iI (bh d (aa b c a) ((f:Nat):Int) e)),(iJ (bh d (aa b c a) ((f:Nat):Int) e)),(iK (bh d (aa b c a) ((f:Nat):Int) e)),(iL (bh d (aa b c a) ((f:Nat):Int) e))))
def L7(a:Nat)(b:Bool)(c:List Int)(d:Nat)(e:Nat)(f:Int) :T ((Empty)⊕(co)) :=
  .leaf (.inr (.r0 a b c d e f))
def bR(h:Bool)(i:List Int)(j:Int)(k:Bool)(l:List Int)(m:Int) :Option co:=mz (aO ((P3 h i j k l m).run) fun (n,f,o,p,q,r,g,s,t,u,v,I) =>
  aO ((LY n o p q r s t u v).run) fun (w,e,a,b,c,d) =>
  aO ((LZ f g w e a b c d).run) fun _ =>
  aO ((L0 a b c d).run) fun x =>
  aO ((L4 g e a b c d x).run) fun _ =>
  aO ((L5 a b c d).run) fun (y,z,A,B) =>
  aO ((L6 f e a b c d y z A B).run) fun (C,D,E,F,G,H) =>
  (L7 C D E F G H).run)
theorem Qb(v:Bool)(a:Lv)(o:List Int)(w:Int)(y:Bool)(b:Lv)(p:List Int)(z:Int){x:co}(h:bR v o w y p z=some x) :af prog ya [] [.agg [.bool false v,.imm a (.ns .u64 o) 1 1 0 (List.length o),.int .i64 w],.agg [.bool false y,.imm b (.ns .u64 p) 1 1 0 (List.length p),.int .i64 z]] (yw x) :=
  ny true yw FS h (Sg.cut 2 jw (br dI (PZ a b) [⟨[],[0,16,32],[2,3,4,6]⟩,⟨[(.cell 0 1,.lev a)],[0,16,32],[2,3,4,6]⟩,⟨[(.cell 0 1,.lev a),(.cell 16 1,.lev b)],[0,16,32],[2,3,4,6]⟩]) (fun ⟨G,c,d,e,f,g,q,r,s,t,u,i⟩=>Sg.cut 3 jw (br dI (P5 a b c d e f g q r s t u i) [⟨[(.cell 2 1,.fre 1 1 (.ns .u64 ([]:List Int)))],[2],[4,5]⟩,⟨[],[0,1,2,131],[2,3,4,7,8]⟩]) (fun ⟨H,j,k,l,m,n⟩=>Sg.cut 5 jw (br dI (P6 a b c d e f g q r s t u i j k l m n) [⟨[(.cell 2 1,.fre 1 1 (.ns .u64 ([]:List Int)))],[2],[4,5]⟩,⟨[],[2],[4,5]⟩,⟨[],[0,1,2,3],[2,3,4,7,9]⟩]) (fun _=>Sg.cut 1 jw (br dI (P7 a b c d e f g q r s t u i j k l m n) [⟨[],[0,1,2,3],[2,3,4,7,9,12]⟩]) (fun I=>Sg.cut 2 jw (br dI (P8 a c d e f g i j k l m n) [⟨[],[2],[4,5]⟩,⟨[],[0,2,3],[2,4,7,9]⟩]) (fun _=>Sg.cut 1 jw (br dI (P9 a c d e f g i j k l m n) [⟨[],[0,1,2],[2,4,8,9,16]⟩]) (fun ⟨J,K,L,M⟩=>Sg.cut 1 jw (br dI Qa [⟨[],[1],[4,5]⟩]) (fun ⟨N,O,P,Q,R,S⟩=>br dI mU [⟨[],[0],[4,5]⟩]))))))))
    (fun x=>by cases x with | r0 A B C D E F=>exact mb [.agg [.bool false B,.imm .free (.ns .u64 C) 1 1 D E,.int .i64 F],.int .i64 ((A:Nat):Int)])
def oX:Option co→Bool
  | some _=>true
  | none=>false
def jc:Option co→Nat
  | some (.r0 x _ _ _ _ _)=>x
  | _=>0
def kr:Option co→Bool
  | some (.r0 _ x _ _ _ _)=>x
  | _=>false
def ku:Option co→List Int
  | some (.r0 _ _ x _ _ _)=>x
  | _=>[]
def kv:Option co→Nat
  | some (.r0 _ _ _ x _ _)=>x
  | _=>0
def kw:Option co→Nat
  | some (.r0 _ _ _ _ x _)=>x
  | _=>0
def kx:Option co→Int
  | some (.r0 _ _ _ _ _ x)=>x
  | _=>0
theorem Qc{x:Option co}(h:oX x=true) :x=some (.r0 (jc x) (kr x) (ku x) (kv x) (kw x) (kx x)):=by
  unfold oX at h
  split at h<;>first | rfl | (cases h;done) | (rename_i y;cases y;rfl)
def FT:aw:=ca ya (.cons (.agg (.cons .bool (.cons (.ns .u64) (.cons (.int .i64) .nil)))) (.cons (.agg (.cons .bool (.cons (.ns .u64) (.cons (.int .i64) .nil)))) .nil)) fun t=>(fun q=>[⟨yw (.r0 (jc q) (kr q) (ku q) (kv q) (kw q) (kx q)),[oX q]⟩]) (bR t.1.1 t.1.2.1.2 t.1.2.2.1 t.2.1.1 t.2.1.2.1.2 t.2.1.2.2.1)
theorem HC:aM prog FT:=aP fun t=>(aQ (fun h=>Qb t.1.1 t.1.2.1.1 t.1.2.1.2 t.1.2.2.1 t.2.1.1 t.2.1.2.1.1 t.2.1.2.1.2 t.2.1.2.2.1 (Qc h)) aZ)
def FU:List aw:=FT::Ae
theorem si:aG prog (aD FU):=ap HC dI
inductive ei where
  | r0 (a:Nat) (b:Bool) (c:List Int) (d:Nat) (e:Nat) (f:Int)
def FV:ei→AE×aC
  | .r0 a b c d e f=>(.ret,⟨aj 15 [(4,.ptr 0 1 0 0),(5,.int .i64 ((a:Nat):Int))],[(0,.vs [.bool false b,.imm .free (.ns .u64 c) 1 1 d e,.int .i64 f])],1⟩)
theorem Qd:jU FV:=by intro x;cases x<;>(intro h;cases h)
def yx:ei→fZ
  | .r0 a b c d e f=>⟨.tup [.agg [.bool false b,.imm .free (.ns .u64 c) 1 1 d e,.int .i64 f],.int .i64 ((a:Nat):Int)],[]⟩
def Qe:Nat×Bool×(List Int)×Nat×Nat×Int→aC:=fun (a,b,c,d,e,f)=>⟨aj 15 [(4,.ptr 0 1 0 0),(5,.int .i64 ((a:Nat):Int))],[(0,.vs [.bool false b,.imm .free (.ns .u64 c) 1 1 d e,.int .i64 f])],1⟩
def Qf(c:Bool)(a:List Int)(d:Int)(e:Bool)(b:List Int)(f:Int) :T ((Nat×Bool×(List Int)×Nat×Nat×Int)⊕(ei)) :=
  .need (aI 0 (List.length a) a)<|.need (aI 0 (List.length b) b)<|.need (oX (bR c (aa 0 (List.length a) a) d (!e) (aa 0 (List.length b) b) f))<|.leaf (.inl ((jc (bR c (aa 0 (List.length a) a) d (!e) (aa 0 (List.length b) b) f)),(kr (bR c (aa 0 (List.length a) a) d (!e) (aa 0 (List.length b) b) f)),(ku (bR c (aa 0 (List.length a) a) d (!e) (aa 0 (List.length b) b) f)),(kv (bR c (aa 0 (List.length a) a) d (!e) (aa 0 (List.length b) b) f)),(kw (bR c (aa 0 (List.length a) a) d (!e) (aa 0 (List.length b) b) f)),(kx (bR c (aa 0 (List.length a) a) d (!e) (aa 0 (List.length b) b) f))))
def Qg(a:Nat)(b:Bool)(c:List Int)(d:Nat)(e:Nat)(f:Int) :T ((Empty)⊕(ei)) :=
  .leaf (.inr (.r0 a b c d e f))
def dk(a:Bool)(b:List Int)(c:Int)(d:Bool)(e:List Int)(f:Int) :Option ei:=mz (aO ((Qf a b c d e f).run) fun (g,h,i,j,k,l) =>
  (Qg g h i j k l).run)
theorem Qh(c:Bool)(g:Lv)(a:List Int)(d:Int)(e:Bool)(i:Lv)(b:List Int)(f:Int){x:ei}(h:dk c a d e b f=some x) :af prog xX [] [.agg [.bool false c,.imm g (.ns .u64 a) 1 1 0 (List.length a),.int .i64 d],.agg [.bool false e,.imm i (.ns .u64 b) 1 1 0 (List.length b),.int .i64 f]] (yx x) :=
  ny true yx FV h (Sg.cut 3 Qd (br si Qe [⟨[],[32],[4,5]⟩]) (fun ⟨p,q,r,s,t,u⟩=>br si mU [⟨[],[0],[4,5]⟩]))
    (fun x=>by cases x with | r0 j k l m n o=>exact mb [.agg [.bool false k,.imm .free (.ns .u64 l) 1 1 m n,.int .i64 o],.int .i64 ((j:Nat):Int)])
def oY:Option ei→Bool
  | some _=>true
  | none=>false
def ox:Option ei→Nat
  | some (.r0 x _ _ _ _ _)=>x
  | _=>0
def oy:Option ei→Bool
  | some (.r0 _ x _ _ _ _)=>x
  | _=>false
def oz:Option ei→List Int
  | some (.r0 _ _ x _ _ _)=>x
  | _=>[]
def oA:Option ei→Nat
  | some (.r0 _ _ _ x _ _)=>x
  | _=>0
def oB:Option ei→Nat
  | some (.r0 _ _ _ _ x _)=>x
  | _=>0
def oC:Option ei→Int
  | some (.r0 _ _ _ _ _ x)=>x
  | _=>0
theorem Qi{x:Option ei}(h:oY x=true) :x=some (.r0 (ox x) (oy x) (oz x) (oA x) (oB x) (oC x)):=by
  unfold oY at h
  split at h<;>first | rfl | (cases h;done) | (rename_i y;cases y;rfl)
def FX:aw:=ca xX (.cons (.agg (.cons .bool (.cons (.ns .u64) (.cons (.int .i64) .nil)))) (.cons (.agg (.cons .bool (.cons (.ns .u64) (.cons (.int .i64) .nil)))) .nil)) fun t=>(fun q=>[⟨yx (.r0 (ox q) (oy q) (oz q) (oA q) (oB q) (oC q)),[oY q]⟩]) (dk t.1.1 t.1.2.1.2 t.1.2.2.1 t.2.1.1 t.2.1.2.1.2 t.2.1.2.2.1)
theorem HD:aM prog FX:=aP fun t=>(aQ (fun h=>Qh t.1.1 t.1.2.1.1 t.1.2.1.2 t.1.2.2.1 t.2.1.1 t.2.1.2.1.1 t.2.1.2.1.2 t.2.1.2.2.1 (Qi h)) aZ)
def FY:List aw:=FX::FU
theorem ky:aG prog (aD FY):=ap HD si
inductive dl where
  | r0 (a:Nat) (b:Bool) (c:List Int) (d:Nat) (e:Nat) (f:Int)
def FZ:dl→AE×aC
  | .r0 a b c d e f=>(.ret,⟨aj 41 [(4,.ptr 0 1 0 0),(5,.int .i64 ((a:Nat):Int))],[(0,.vs [.bool false b,.imm .free (.ns .u64 c) 1 1 d e,.int .i64 f])],1⟩)
theorem vU:jU FZ:=by intro x;cases x<;>(intro h;cases h)
def yy:dl→fZ
  | .r0 a b c d e f=>⟨.tup [.agg [.bool false b,.imm .free (.ns .u64 c) 1 1 d e,.int .i64 f],.int .i64 ((a:Nat):Int)],[]⟩
def Qj(a:Lv)(b:Lv) :Nat×Bool×(List Int)×Nat×Nat×Int×Bool×(List Int)×Nat×Nat×Int×Bool→aC:=fun (c,d,e,f,g,h,i,j,k,l,m,n)=>⟨aj 41 [(2,.ptr 0 1 0 0),(3,.ptr 1 1 0 0),(4,.ptr 2 1 0 0),(6,.int .i64 ((c:Nat):Int))],[(0,.vs [.bool false d,.imm a (.ns .u64 e) 1 1 f g,.int .i64 h]),(1,.vs [.bool false i,.imm b (.ns .u64 j) 1 1 k l,.int .i64 m]),(2,.vs [.bool false n,.nsl,.int .i64 (0:Int)])],3⟩
def Qk(d : Bool)(a : List Int)(c : Int)(f : Bool)(b : List Int)(e : Int) : T ((Nat × Bool × (List Int) × Nat × Nat × Int × Bool × (List Int) × Nat × Nat × Int × Bool) ⊕ (dl)) :=
  .ask (decide ((0:Int)<(2:Int)))
    (.need (fu (0:Int) 2)<|.need (aI 0 (List.length a) a)<|.need (fg (cN (aa 0 (List.length a) a) c))<|.ask (!(dU (cN (aa 0 (List.length a) a) c)))
      (.leaf (.inl (2,d,a,0,(List.length a),c,f,b,0,(List.length b),e,false)))
      (.need (aI 0 (List.length a) a)<|.need (dh (am d (aa 0 (List.length a) a) c))<|.need (dW .i64 (1:Int))<|.ask (decide ((1:Int)<(2:Int)))
        (.need (fu (1:Int) 2)<|.need (aI 0 (List.length b) b)<|.need (fg (cN (aa 0 (List.length b) b) e))<|.ask (!(dU (cN (aa 0 (List.length b) b) e)))
          (.leaf (.inl (2,(bM (am d (aa 0 (List.length a) a) c)),(bN (am d (aa 0 (List.length a) a) c)),(bO (am d (aa 0 (List.length a) a) c)),(bP (am d (aa 0 (List.length a) a) c)),(bQ (am d (aa 0 (List.length a) a) c)),f,b,0,(List.length b),e,false)))
          (.need (aI 0 (List.length b) b)<|.need (dh (am f (aa 0 (List.length b) b) e))<|.need (dW .i64 (2:Int))<|.ask (decide ((2:Int)<(2:Int)))
            (.fail)
            (.leaf (.inl (0,(bM (am d (aa 0 (List.length a) a) c)),(bN (am d (aa 0 (List.length a) a) c)),(bO (am d (aa 0 (List.length a) a) c)),(bP (am d (aa 0 (List.length a) a) c)),(bQ (am d (aa 0 (List.length a) a) c)),(bM (am f (aa 0 (List.length b) b) e)),(bN (am f (aa 0 (List.length b) b) e)),(bO (am f (aa 0 (List.length b) b) e)),(bP (am f (aa 0 (List.length b) b) e)),(bQ (am f (aa 0 (List.length b) b) e)),false)))))
        (.fail)))
    (.fail)
def Ql(a:Lv)(b:Lv)(c:Bool)(d:List Int)(e:Nat)(f:Nat)(g:Int)(h:Bool)(i:List Int)(j:Nat)(k:Nat)(l:Int)(m:Bool) :(List Int)×Nat×Nat×Nat→aC:=fun (n,o,p,q)=>⟨aj 41 [(2,.ptr 0 1 0 0),(3,.ptr 1 1 0 0),(4,.ptr 2 1 0 0),(7,.imm .free (.ns .u64 n) 1 1 o p),(8,.int .i64 ((q:Nat):Int))],[(0,.vs [.bool false c,.imm a (.ns .u64 d) 1 1 e f,.int .i64 g]),(1,.vs [.bool false h,.imm b (.ns .u64 i) 1 1 j k,.int .i64 l]),(2,.vs [.bool false m,.nsl,.int .i64 (0:Int)])],3⟩
def Qm(g:Nat)(a:List Int)(b:Nat)(c:Nat)(d:List Int)(e:Nat)(f:Nat) :T (((List Int)×Nat×Nat×Nat)⊕(dl)) :=
  .ask (((g:Nat):Int) != (0:Int))
    (.leaf (.inr (.r0 g false ([]:List Int) 0 0 (0:Int))))
    (.need (aI b c a)<|.need (aI e f d)<|.need (tL (nJ (aa b c a) (aa e f d)))<|.leaf (.inl ((tP (nJ (aa b c a) (aa e f d))),(tM (nJ (aa b c a) (aa e f d))),(tN (nJ (aa b c a) (aa e f d))),(tO (nJ (aa b c a) (aa e f d))))))
def Qn:Nat×Bool×(List Int)×Nat×Nat×Int→aC:=fun (a,b,c,d,e,f)=>⟨aj 41 [(4,.ptr 0 1 0 0),(5,.int .i64 ((a:Nat):Int))],[(0,.vs [.bool false b,.imm .free (.ns .u64 c) 1 1 d e,.int .i64 f])],1⟩
def Qo(f:Bool)(a:Int)(g:Bool)(b:Int)(c:List Int)(d:Nat)(e:Nat)(h:Nat) :T ((Nat×Bool×(List Int)×Nat×Nat×Int)⊕(dl)) :=
  .ask (((h:Nat):Int) != (0:Int))
    (.leaf (.inr (.r0 3 false ([]:List Int) 0 0 (0:Int))))
    (.need (dW .i64 (a+b))<|.need (aI d e c)<|.need (jM (bC (!(f==g)) (aa d e c) (a+b)))<|.leaf (.inl ((jq (bC (!(f==g)) (aa d e c) (a+b))),(jr (bC (!(f==g)) (aa d e c) (a+b))),(js (bC (!(f==g)) (aa d e c) (a+b))),(jt (bC (!(f==g)) (aa d e c) (a+b))),(ju (bC (!(f==g)) (aa d e c) (a+b))),(jv (bC (!(f==g)) (aa d e c) (a+b))))))
def Qp(a:Nat)(b:Bool)(c:List Int)(d:Nat)(e:Nat)(f:Int) :T ((Empty)⊕(dl)) :=
  .leaf (.inr (.r0 a b c d e f))
def ag(a:Bool)(b:List Int)(c:Int)(d:Bool)(e:List Int)(f:Int) :Option dl:=mz (aO ((Qk a b c d e f).run) fun (g,h,i,j,k,l,m,n,o,p,q,B) =>
  aO ((Qm g i j k n o p).run) fun (r,s,t,u) =>
  aO ((Qo h l m q r s t u).run) fun (v,w,x,y,z,A) =>
  (Qp v w x y z A).run)
theorem Qq(e:Bool)(a:Lv)(c:List Int)(f:Int)(g:Bool)(b:Lv)(d:List Int)(i:Int){x:dl}(h:ag e c f g d i=some x) :af prog xU [] [.agg [.bool false e,.imm a (.ns .u64 c) 1 1 0 (List.length c),.int .i64 f],.agg [.bool false g,.imm b (.ns .u64 d) 1 1 0 (List.length d),.int .i64 i]] (yy x) :=
  ny true yy FZ h (Sg.cut 2 vU (br ky (Qj a b) [⟨[],[0,16,32],[2,3,4,6]⟩,⟨[(.cell 0 1,.lev a)],[0,16,32],[2,3,4,6]⟩,⟨[(.cell 0 1,.lev a),(.cell 16 1,.lev b)],[0,16,32],[2,3,4,6]⟩]) (fun ⟨B,j,k,l,m,n,o,p,q,r,s,t⟩=>Sg.cut 3 vU (br ky (Ql a b j k l m n o p q r s t) [⟨[(.cell 2 1,.fre 1 1 (.ns .u64 ([]:List Int)))],[2],[4,5]⟩,⟨[],[0,1,2],[2,3,4,7,8]⟩]) (fun ⟨C,D,E,F⟩=>Sg.cut 3 vU (br ky Qn [⟨[(.cell 2 1,.fre 1 1 (.ns .u64 ([]:List Int)))],[2],[4,5]⟩,⟨[],[2],[4,5]⟩]) (fun ⟨G,H,I,J,K,L⟩=>br ky mU [⟨[],[0],[4,5]⟩]))))
    (fun x=>by cases x with | r0 u v w y z A=>exact mb [.agg [.bool false v,.imm .free (.ns .u64 w) 1 1 y z,.int .i64 A],.int .i64 ((u:Nat):Int)])
def jx:Option dl→Bool
  | some _=>true
  | none=>false
def gK:Option dl→Nat
  | some (.r0 x _ _ _ _ _)=>x
  | _=>0
def bA:Option dl→Bool
  | some (.r0 _ x _ _ _ _)=>x
  | _=>false
def bk:Option dl→List Int
  | some (.r0 _ _ x _ _ _)=>x
  | _=>[]
def bm:Option dl→Nat
  | some (.r0 _ _ _ x _ _)=>x
  | _=>0
def bn:Option dl→Nat
  | some (.r0 _ _ _ _ x _)=>x
  | _=>0
def bB:Option dl→Int
  | some (.r0 _ _ _ _ _ x)=>x
  | _=>0
theorem Qr{x:Option dl}(h:jx x=true) :x=some (.r0 (gK x) (bA x) (bk x) (bm x) (bn x) (bB x)):=by
  unfold jx at h
  split at h<;>first | rfl | (cases h;done) | (rename_i y;cases y;rfl)
def F0:aw:=ca xU (.cons (.agg (.cons .bool (.cons (.ns .u64) (.cons (.int .i64) .nil)))) (.cons (.agg (.cons .bool (.cons (.ns .u64) (.cons (.int .i64) .nil)))) .nil)) fun t=>(fun q=>[⟨yy (.r0 (gK q) (bA q) (bk q) (bm q) (bn q) (bB q)),[jx q]⟩]) (ag t.1.1 t.1.2.1.2 t.1.2.2.1 t.2.1.1 t.2.1.2.1.2 t.2.1.2.2.1)
theorem HE:aM prog F0:=aP fun t=>(aQ (fun h=>Qq t.1.1 t.1.2.1.1 t.1.2.1.2 t.1.2.2.1 t.2.1.1 t.2.1.2.1.1 t.2.1.2.1.2 t.2.1.2.2.1 (Qr h)) aZ)
def F1:List aw:=F0::FY
theorem xk:aG prog (aD F1):=ap HE ky
inductive gZ where
  | r0 (a:Int)
def Qs:gZ→AE×aC
  | .r0 a=>(.ret,⟨aj 11 [(2,.int .i64 a)],[],0⟩)
def vV:gZ→fZ
  | .r0 a=>⟨.int .i64 a,[]⟩
def L8(a:Bool)(b:List Int) :T ((Empty)⊕(gZ)) :=
  .ask ((((List.length b):Nat):Int)==(0:Int))
    (.leaf (.inr (.r0 (0:Int))))
    (.ask a
      (.leaf (.inr (.r0 (-1:Int))))
      (.leaf (.inr (.r0 (1:Int)))))
def eD(a:Bool)(b:List Int) :Option gZ:=mz ((L8 a b).run)
theorem L9(b:Bool)(c:Lv)(a:List Int)(d:Int){x:gZ}(h:eD b a=some x) :af prog vB [] [.agg [.bool false b,.imm c (.ns .u64 a) 1 1 0 (List.length a),.int .i64 d]] (vV x) :=
  ny true vV Qs h (br xk mU [⟨[],[],[2]⟩,⟨[],[],[2]⟩,⟨[],[],[2]⟩])
    (fun x=>by cases x with | r0 e=>exact mb [.int .i64 e])
def ig:Option gZ→Bool
  | some _=>true
  | none=>false
def fh:Option gZ→Int
  | some (.r0 x)=>x
  | _=>0
theorem Ma{x:Option gZ}(h:ig x=true) :x=some (.r0 (fh x)):=by
  unfold ig at h
  split at h<;>first | rfl | (cases h;done) | (rename_i y;cases y;rfl)
def CF:aw:=ca vB (.cons (.agg (.cons .bool (.cons (.ns .u64) (.cons (.int .i64) .nil)))) .nil) fun t=>(fun q=>[⟨vV (.r0 (fh q)),[ig q]⟩]) (eD t.1.1 t.1.2.1.2)
theorem F2:aM prog CF:=aP fun t=>(aQ (fun h=>L9 t.1.1 t.1.2.1.1 t.1.2.1.2 t.1.2.2.1 (Ma h)) aZ)
def CG:List aw:=CF::F1
theorem gV:aG prog (aD CG):=ap F2 xk
inductive eT where
  | r0 (a:Int) (b:Nat)
def F3:eT→AE×aC
  | .r0 a b=>(.ret,⟨aj 52 [(4,.int .i64 a),(5,.int .i64 ((b:Nat):Int))],[],0⟩)
theorem rE:jU F3:=by intro x;cases x<;>(intro h;cases h)
def yz:eT→fZ
  | .r0 a b=>⟨.tup [.int .i64 a,.int .i64 ((b:Nat):Int)],[]⟩
def Qt(a:Lv)(b:Lv) :Nat×Bool×(List Int)×Nat×Nat×Int×Bool×(List Int)×Nat×Nat×Int→aC:=fun (c,d,e,f,g,h,i,j,k,l,m)=>⟨aj 52 [(2,.ptr 0 1 0 0),(3,.ptr 1 1 0 0),(6,.int .i64 ((c:Nat):Int))],[(0,.vs [.bool false d,.imm a (.ns .u64 e) 1 1 f g,.int .i64 h]),(1,.vs [.bool false i,.imm b (.ns .u64 j) 1 1 k l,.int .i64 m])],2⟩
def Qu(d : Bool)(a : List Int)(c : Int)(f : Bool)(b : List Int)(e : Int) : T ((Nat × Bool × (List Int) × Nat × Nat × Int × Bool × (List Int) × Nat × Nat × Int) ⊕ (eT)) :=
  .ask (decide ((0:Int)<(2:Int)))
    (.need (fu (0:Int) 2)<|.need (aI 0 (List.length a) a)<|.need (fg (cN (aa 0 (List.length a) a) c))<|.ask (!(dU (cN (aa 0 (List.length a) a) c)))
      (.leaf (.inl (2,d,a,0,(List.length a),c,f,b,0,(List.length b),e)))
      (.need (aI 0 (List.length a) a)<|.need (dh (am d (aa 0 (List.length a) a) c))<|.need (dW .i64 (1:Int))<|.ask (decide ((1:Int)<(2:Int)))
        (.need (fu (1:Int) 2)<|.need (aI 0 (List.length b) b)<|.need (fg (cN (aa 0 (List.length b) b) e))<|.ask (!(dU (cN (aa 0 (List.length b) b) e)))
          (.leaf (.inl (2,(bM (am d (aa 0 (List.length a) a) c)),(bN (am d (aa 0 (List.length a) a) c)),(bO (am d (aa 0 (List.length a) a) c)),(bP (am d (aa 0 (List.length a) a) c)),(bQ (am d (aa 0 (List.length a) a) c)),f,b,0,(List.length b),e)))
          (.need (aI 0 (List.length b) b)<|.need (dh (am f (aa 0 (List.length b) b) e))<|.need (dW .i64 (2:Int))<|.ask (decide ((2:Int)<(2:Int)))
            (.fail)
            (.leaf (.inl (0,(bM (am d (aa 0 (List.length a) a) c)),(bN (am d (aa 0 (List.length a) a) c)),(bO (am d (aa 0 (List.length a) a) c)),(bP (am d (aa 0 (List.length a) a) c)),(bQ (am d (aa 0 (List.length a) a) c)),(bM (am f (aa 0 (List.length b) b) e)),(bN (am f (aa 0 (List.length b) b) e)),(bO (am f (aa 0 (List.length b) b) e)),(bP (am f (aa 0 (List.length b) b) e)),(bQ (am f (aa 0 (List.length b) b) e)))))))
        (.fail)))
    (.fail)
def Qv(a:Lv)(b:Lv)(c:Bool)(d:List Int)(e:Nat)(f:Nat)(g:Int)(h:Bool)(i:List Int)(j:Nat)(k:Nat)(l:Int) :Nat×Int×(List Int)×Nat×(List Int)×Nat→aC:=fun (m,n,o,p,q,r)=>⟨aj 52 [(2,.ptr 0 1 0 0),(3,.ptr 1 1 0 0),(7,.ptr 2 1 0 0),(8,.int .i64 ((m:Nat):Int))],[(0,.vs [.bool false c,.imm a (.ns .u64 d) 1 1 e f,.int .i64 g]),(1,.vs [.bool false h,.imm b (.ns .u64 i) 1 1 j k,.int .i64 l]),(2,.vs [.int .i64 n,.imm .free (.ns .u64 o) 1 1 0 p,.imm .free (.ns .u64 q) 1 1 0 r])],3⟩
def Qw(i:Nat)(a:List Int)(b:Nat)(c:Nat)(g:Int)(d:List Int)(e:Nat)(f:Nat)(h:Int) :T ((Nat×Int×(List Int)×Nat×(List Int)×Nat)⊕(eT)) :=
  .ask (((i:Nat):Int) != (0:Int))
    (.leaf (.inr (.r0 (0:Int) i)))
    (.need (aI b c a)<|.need (aI e f d)<|.need (kq (cg (aa b c a) g (aa e f d) h))<|.leaf (.inl ((lg (cg (aa b c a) g (aa e f d) h)),(lh (cg (aa b c a) g (aa e f d) h)),(lm (cg (aa b c a) g (aa e f d) h)),(ln (cg (aa b c a) g (aa e f d) h)),(lp (cg (aa b c a) g (aa e f d) h)),(lq (cg (aa b c a) g (aa e f d) h)))))
def Qx(a:Lv)(b:Lv)(c:Bool)(d:List Int)(e:Nat)(f:Nat)(g:Int)(h:Bool)(i:List Int)(j:Nat)(k:Nat)(l:Int)(m:Int) :aC:=⟨aj 52 [(2,.ptr 0 1 0 0),(3,.ptr 1 1 0 0),(9,.int .i64 m)],[(0,.vs [.bool false c,.imm a (.ns .u64 d) 1 1 e f,.int .i64 g]),(1,.vs [.bool false h,.imm b (.ns .u64 i) 1 1 j k,.int .i64 l])],2⟩
def Qy(e:Nat)(a:List Int)(b:Nat)(c:List Int)(d:Nat) :T ((Int)⊕(eT)) :=
  .ask (((e:Nat):Int) != (0:Int))
    (.leaf (.inr (.r0 (0:Int) e)))
    (.need (aI 0 b a)<|.need (aI 0 d c)<|.need (qK (qr (aa 0 b a) (aa 0 d c)))<|.leaf (.inl (pY (qr (aa 0 b a) (aa 0 d c)))))
def Qz(a:Int)(_:Unit) :aC:=⟨aj 52 [(9,.int .i64 a)],[],0⟩
def QA(g:Bool)(a:List Int)(b:Nat)(c:Nat)(h:Bool)(d:List Int)(e:Nat)(f:Nat)(i:Int) :T ((Unit)⊕(eT)) :=
  .need (aI b c a)<|.need (ig (eD g (aa b c a)))<|.need (aI e f d)<|.need (ig (eD h (aa e f d)))<|.ask ((fh (eD g (aa b c a))) != (fh (eD h (aa e f d))))
    (.need (aI b c a)<|.need (ig (eD g (aa b c a)))<|.need (aI e f d)<|.need (ig (eD h (aa e f d)))<|.need (dW .i64 ((fh (eD g (aa b c a)))-(fh (eD h (aa e f d)))))<|.leaf (.inr (.r0 (mf (-1:Int) (vb (1:Int) ((fh (eD g (aa b c a)))-(fh (eD h (aa e f d)))))) 0)))
    (.ask g
      (.need (dW .i64 ((0:Int)-i))<|.leaf (.inr (.r0 ((0:Int)-i) 0)))
      (.leaf (.inl ())))
def Mb(a:Int) :T ((Empty)⊕(eT)) :=
  .leaf (.inr (.r0 a 0))
def qQ(h:Bool)(i:List Int)(j:Int)(k:Bool)(l:List Int)(m:Int) :Option eT:=mz (aO ((Qu h i j k l m).run) fun (n,o,a,b,c,p,q,d,e,f,r) =>
  aO ((Qw n a b c p d e f r).run) fun (s,x,t,u,v,w) =>
  aO ((Qy s t u v w).run) fun g =>
  aO ((QA o a b c q d e f g).run) fun _ =>
  (Mb g).run)
theorem QB(e:Bool)(a:Lv)(c:List Int)(f:Int)(g:Bool)(b:Lv)(d:List Int)(i:Int){x:eT}(h:qQ e c f g d i=some x) :af prog xV [] [.agg [.bool false e,.imm a (.ns .u64 c) 1 1 0 (List.length c),.int .i64 f],.agg [.bool false g,.imm b (.ns .u64 d) 1 1 0 (List.length d),.int .i64 i]] (yz x) :=
  ny true yz F3 h (Sg.cut 2 rE (br gV (Qt a b) [⟨[],[0,16],[2,3,6]⟩,⟨[(.cell 0 1,.lev a)],[0,16],[2,3,6]⟩,⟨[(.cell 0 1,.lev a),(.cell 16 1,.lev b)],[0,16],[2,3,6]⟩]) (fun ⟨w,j,k,l,m,n,o,p,q,r,s⟩=>Sg.cut 3 rE (br gV (Qv a b j k l m n o p q r s) [⟨[],[],[4,5]⟩,⟨[],[0,1,130],[2,3,7,8]⟩]) (fun ⟨y,z,A,B,C,D⟩=>Sg.cut 3 rE (br gV (Qx a b j k l m n o p q r s) [⟨[],[],[4,5]⟩,⟨[],[0,1],[2,3,9]⟩]) (fun t=>Sg.cut 1 rE (br gV (Qz t) [⟨[],[],[4,5]⟩,⟨[],[],[4,5]⟩,⟨[],[],[9]⟩]) (fun _=>br gV mU [⟨[],[],[4,5]⟩])))))
    (fun x=>by cases x with | r0 u v=>exact mb [.int .i64 u,.int .i64 ((v:Nat):Int)])
def rF:Option eT→Bool
  | some _=>true
  | none=>false
def sj:Option eT→Int
  | some (.r0 x _)=>x
  | _=>0
def sk:Option eT→Nat
  | some (.r0 _ x)=>x
  | _=>0
theorem QC{x:Option eT}(h:rF x=true) :x=some (.r0 (sj x) (sk x)):=by
  unfold rF at h
  split at h<;>first | rfl | (cases h;done) | (rename_i y;cases y;rfl)
def F4:aw:=ca xV (.cons (.agg (.cons .bool (.cons (.ns .u64) (.cons (.int .i64) .nil)))) (.cons (.agg (.cons .bool (.cons (.ns .u64) (.cons (.int .i64) .nil)))) .nil)) fun t=>(fun q=>[⟨yz (.r0 (sj q) (sk q)),[rF q]⟩]) (qQ t.1.1 t.1.2.1.2 t.1.2.2.1 t.2.1.1 t.2.1.2.1.2 t.2.1.2.2.1)
theorem HF:aM prog F4:=aP fun t=>(aQ (fun h=>QB t.1.1 t.1.2.1.1 t.1.2.1.2 t.1.2.2.1 t.2.1.1 t.2.1.2.1.1 t.2.1.2.1.2 t.2.1.2.2.1 (QC h)) aZ)
def F5:List aw:=F4::CG
theorem kz:aG prog (aD F5):=ap HF gV
inductive ch where
  | r0 (a:Nat) (b:Bool) (c:List Int) (d:Nat) (e:Nat) (f:Int)
def Af:ch→AE×aC
  | .r0 a b c d e f=>(.ret,⟨aj 30 [(4,.ptr 0 1 0 0),(5,.int .i64 ((a:Nat):Int))],[(0,.vs [.bool false b,.imm .free (.ns .u64 c) 1 1 d e,.int .i64 f])],1⟩)
theorem sm:jU Af:=by intro x;cases x<;>(intro h;cases h)
def ug:ch→fZ
  | .r0 a b c d e f=>⟨.tup [.agg [.bool false b,.imm .free (.ns .u64 c) 1 1 d e,.int .i64 f],.int .i64 ((a:Nat):Int)],[]⟩
def HG(a:Lv)(b:Int) :Nat×Bool×(List Int)×Nat×Nat×Int×Bool→aC:=fun (c,d,e,f,g,h,i)=>⟨aj 30 [(1,.int .i64 b),(2,.ptr 0 1 0 0),(4,.ptr 1 1 0 0),(6,.int .i64 ((c:Nat):Int))],[(0,.vs [.bool false d,.imm a (.ns .u64 e) 1 1 f g,.int .i64 h]),(1,.vs [.bool false i,.nsl,.int .i64 (0:Int)])],2⟩
def HH(c:Bool)(a:List Int)(b:Int) :T ((Nat×Bool×(List Int)×Nat×Nat×Int×Bool)⊕(ch)) :=
  .ask (decide ((0:Int)<(1:Int)))
    (.need (fu (0:Int) 1)<|.need (aI 0 (List.length a) a)<|.need (fg (cN (aa 0 (List.length a) a) b))<|.ask (!(dU (cN (aa 0 (List.length a) a) b)))
      (.leaf (.inl (2,c,a,0,(List.length a),b,false)))
      (.need (aI 0 (List.length a) a)<|.need (dh (am c (aa 0 (List.length a) a) b))<|.need (dW .i64 (1:Int))<|.ask (decide ((1:Int)<(1:Int)))
        (.fail)
        (.leaf (.inl (0,(bM (am c (aa 0 (List.length a) a) b)),(bN (am c (aa 0 (List.length a) a) b)),(bO (am c (aa 0 (List.length a) a) b)),(bP (am c (aa 0 (List.length a) a) b)),(bQ (am c (aa 0 (List.length a) a) b)),false)))))
    (.fail)
def HI(a:Lv)(b:Int)(c:Nat)(d:Bool)(e:List Int)(f:Nat)(g:Nat)(h:Int)(i:Bool)(j:Bool) :aC:=⟨aj 30 [(1,.int .i64 b),(2,.ptr 0 1 0 0),(4,.ptr 1 1 0 0),(6,.int .i64 ((c:Nat):Int)),(16,.bool false j)],[(0,.vs [.bool false d,.imm a (.ns .u64 e) 1 1 f g,.int .i64 h]),(1,.vs [.bool false i,.nsl,.int .i64 (0:Int)])],2⟩
def HJ(a:Nat)(b:Nat) :T ((Bool)⊕(ch)) :=
  .ask (((a:Nat):Int) != (0:Int))
    (.leaf (.inl true))
    (.leaf (.inl (((b:Nat):Int)==(0:Int))))
def HK:Nat×Bool×(List Int)×Nat×Nat×Int→aC:=fun (a,b,c,d,e,f)=>⟨aj 30 [(4,.ptr 0 1 0 0),(5,.int .i64 ((a:Nat):Int))],[(0,.vs [.bool false b,.imm .free (.ns .u64 c) 1 1 d e,.int .i64 f])],1⟩
def HL(a:Int)(g:Nat)(f:Bool)(b:List Int)(c:Nat)(d:Nat)(e:Int)(h:Bool) :T ((Nat×Bool×(List Int)×Nat×Nat×Int)⊕(ch)) :=
  .ask h
    (.leaf (.inr (.r0 g false ([]:List Int) 0 0 (0:Int))))
    (.need (dW .i64 (e+(mf (-1048576:Int) (vb (1048576:Int) a))))<|.need (aI c d b)<|.need (jM (bC f (aa c d b) (e+(mf (-1048576:Int) (vb (1048576:Int) a)))))<|.leaf (.inl ((jq (bC f (aa c d b) (e+(mf (-1048576:Int) (vb (1048576:Int) a))))),(jr (bC f (aa c d b) (e+(mf (-1048576:Int) (vb (1048576:Int) a))))),(js (bC f (aa c d b) (e+(mf (-1048576:Int) (vb (1048576:Int) a))))),(jt (bC f (aa c d b) (e+(mf (-1048576:Int) (vb (1048576:Int) a))))),(ju (bC f (aa c d b) (e+(mf (-1048576:Int) (vb (1048576:Int) a))))),(jv (bC f (aa c d b) (e+(mf (-1048576:Int) (vb (1048576:Int) a))))))))
def HM(a:Nat)(b:Bool)(c:List Int)(d:Nat)(e:Nat)(f:Int) :T ((Empty)⊕(ch)) :=
  .leaf (.inr (.r0 a b c d e f))
def fD(c:Bool)(d:List Int)(e:Int)(f:Int) :Option ch:=mz (aO ((HH c d e).run) fun (a,g,h,i,b,j,r) =>
  aO ((HJ a b).run) fun k =>
  aO ((HL f a g h i b j k).run) fun (l,m,n,o,p,q) =>
  (HM l m n o p q).run)
theorem HN(d:Bool)(a:Lv)(c:List Int)(e:Int)(b:Int){x:ch}(h:fD d c e b=some x) :af prog tn [] [.agg [.bool false d,.imm a (.ns .u64 c) 1 1 0 (List.length c),.int .i64 e],.int .i64 b] (ug x) :=
  ny true ug Af h (Sg.cut 2 sm (br kz (HG a b) [⟨[],[0,16],[1,2,4,6]⟩,⟨[(.cell 0 1,.lev a)],[0,16],[1,2,4,6]⟩]) (fun ⟨f,g,i,j,k,l,m⟩=>Sg.cut 1 sm (br kz (HI a b f g i j k l m) [⟨[],[0,1],[1,2,4,6,16]⟩,⟨[],[0,1],[1,2,4,6,16]⟩]) (fun t=>Sg.cut 3 sm (br kz HK [⟨[(.cell 1 1,.fre 1 1 (.ns .u64 ([]:List Int)))],[1],[4,5]⟩,⟨[],[1],[4,5]⟩]) (fun ⟨u,v,w,y,z,A⟩=>br kz mU [⟨[],[0],[4,5]⟩]))))
    (fun x=>by cases x with | r0 n o p q r s=>exact mb [.agg [.bool false o,.imm .free (.ns .u64 p) 1 1 q r,.int .i64 s],.int .i64 ((n:Nat):Int)])
def oD:Option ch→Bool
  | some _=>true
  | none=>false
def pm:Option ch→Nat
  | some (.r0 x _ _ _ _ _)=>x
  | _=>0
def pn:Option ch→Bool
  | some (.r0 _ x _ _ _ _)=>x
  | _=>false
def po:Option ch→List Int
  | some (.r0 _ _ x _ _ _)=>x
  | _=>[]
def pq:Option ch→Nat
  | some (.r0 _ _ _ x _ _)=>x
  | _=>0
def pr:Option ch→Nat
  | some (.r0 _ _ _ _ x _)=>x
  | _=>0
def pt:Option ch→Int
  | some (.r0 _ _ _ _ _ x)=>x
  | _=>0
theorem HO{x:Option ch}(h:oD x=true) :x=some (.r0 (pm x) (pn x) (po x) (pq x) (pr x) (pt x)):=by
  unfold oD at h
  split at h<;>first | rfl | (cases h;done) | (rename_i y;cases y;rfl)
def Ag:aw:=ca tn (.cons (.agg (.cons .bool (.cons (.ns .u64) (.cons (.int .i64) .nil)))) (.cons (.int .i64) .nil)) fun t=>(fun q=>[⟨ug (.r0 (pm q) (pn q) (po q) (pq q) (pr q) (pt q)),[oD q]⟩]) (fD t.1.1 t.1.2.1.2 t.1.2.2.1 t.2.1)
theorem Db:aM prog Ag:=aP fun t=>(aQ (fun h=>HN t.1.1 t.1.2.1.1 t.1.2.1.2 t.1.2.2.1 t.2.1 (HO h)) aZ)
def Ah:List aw:=Ag::F5
theorem lu:aG prog (aD Ah):=ap Db kz
inductive cR where
  | r0 (a:Bool) (b:List Int) (c:Nat) (d:Nat) (e:Int)
def Ai:cR→AE×aC
  | .r0 a b c d e=>(.ret,⟨aj 16 [(2,.ptr 0 1 0 0)],[(0,.vs [.bool false a,.imm .free (.ns .u64 b) 1 1 c d,.int .i64 e])],1⟩)
theorem xl:jU Ai:=by intro x;cases x<;>(intro h;cases h)
def uh:cR→fZ
  | .r0 a b c d e=>⟨.agg [.bool false a,.imm .free (.ns .u64 b) 1 1 c d,.int .i64 e],[]⟩
def HP(a:Int) :Int×Bool→aC:=fun (b,c)=>⟨aj 16 [(0,.int .i64 a),(2,.ptr 0 1 0 0),(3,.int .u64 b)],[(0,.vs [.bool false c,.nsl,.int .i64 (0:Int)])],1⟩
def HQ(a:Int) :T ((Int×Bool)⊕(cR)) :=
  .ask (decide (a<(0:Int)))
    (.leaf (.inl ((IntKind.u64.wrap ((0:Int)-(IntKind.u64.wrap a))),false)))
    (.leaf (.inl ((IntKind.u64.wrap a),false)))
def HS:Bool×(List Int)×Nat×Nat×Int→aC:=fun (a,b,c,d,e)=>⟨aj 16 [(2,.ptr 0 1 0 0)],[(0,.vs [.bool false a,.imm .free (.ns .u64 b) 1 1 c d,.int .i64 e])],1⟩
def HT(b:Int)(a:Int) :T ((Bool×(List Int)×Nat×Nat×Int)⊕(cR)) :=
  .need (sD (aY a))<|.need (aI (cJ (aY a)) (cK (aY a)) (cL (aY a)))<|.need (dh (am (decide (b<(0:Int))) (aa (cJ (aY a)) (cK (aY a)) (cL (aY a))) (0:Int)))<|.leaf (.inl ((bM (am (decide (b<(0:Int))) (aa (cJ (aY a)) (cK (aY a)) (cL (aY a))) (0:Int))),(bN (am (decide (b<(0:Int))) (aa (cJ (aY a)) (cK (aY a)) (cL (aY a))) (0:Int))),(bO (am (decide (b<(0:Int))) (aa (cJ (aY a)) (cK (aY a)) (cL (aY a))) (0:Int))),(bP (am (decide (b<(0:Int))) (aa (cJ (aY a)) (cK (aY a)) (cL (aY a))) (0:Int))),(bQ (am (decide (b<(0:Int))) (aa (cJ (aY a)) (cK (aY a)) (cL (aY a))) (0:Int)))))
def HU(a:Bool)(b:List Int)(c:Nat)(d:Nat)(e:Int) :T ((Empty)⊕(cR)) :=
  .leaf (.inr (.r0 a b c d e))
def bF(a:Int) :Option cR:=mz (aO ((HQ a).run) fun (b,h) =>
  aO ((HT a b).run) fun (c,d,e,f,g) =>
  (HU c d e f g).run)
theorem HV(a:Int){x:cR}(h:bF a=some x) :af prog tk [] [.int .i64 a] (uh x) :=
  ny true uh Ai h (Sg.cut 4 xl (br lu (HP a) [⟨[],[0],[0,2,3]⟩,⟨[],[0],[0,2,3]⟩]) (fun ⟨g,i⟩=>Sg.cut 1 xl (br lu HS [⟨[],[0],[2]⟩]) (fun ⟨j,k,l,m,n⟩=>br lu mU [⟨[],[0],[2]⟩])))
    (fun x=>by cases x with | r0 b c d e f=>exact mb [.agg [.bool false b,.imm .free (.ns .u64 c) 1 1 d e,.int .i64 f]])
def jd:Option cR→Bool
  | some _=>true
  | none=>false
def iM:Option cR→Bool
  | some (.r0 x _ _ _ _)=>x
  | _=>false
def iN:Option cR→List Int
  | some (.r0 _ x _ _ _)=>x
  | _=>[]
def iO:Option cR→Nat
  | some (.r0 _ _ x _ _)=>x
  | _=>0
def iP:Option cR→Nat
  | some (.r0 _ _ _ x _)=>x
  | _=>0
def iQ:Option cR→Int
  | some (.r0 _ _ _ _ x)=>x
  | _=>0
theorem HW{x:Option cR}(h:jd x=true) :x=some (.r0 (iM x) (iN x) (iO x) (iP x) (iQ x)):=by
  unfold jd at h
  split at h<;>first | rfl | (cases h;done) | (rename_i y;cases y;rfl)
def Aj:aw:=ca tk (.cons (.int .i64) .nil) fun t=>(fun q=>[⟨uh (.r0 (iM q) (iN q) (iO q) (iP q) (iQ q)),[jd q]⟩]) (bF t.1)
theorem Dc:aM prog Aj:=aP fun t=>(aQ (fun h=>HV t.1 (HW h)) aZ)
def Ak:List aw:=Aj::Ah
theorem pu:aG prog (aD Ak):=ap Dc lu
inductive fE where
  | r0 (a:Nat)
def Al:fE→AE×aC
  | .r0 a=>(.ret,⟨aj 26 [(2,.int .i64 ((a:Nat):Int))],[],0⟩)
theorem HX:jU Al:=by intro x;cases x<;>(intro h;cases h)
def ui:fE→fZ
  | .r0 a=>⟨.int .i64 ((a:Nat):Int),[]⟩
def HY(_:Unit) :aC:=⟨aj 26 [],[],0⟩
def HZ(a : Int) : T ((Unit) ⊕ (fE)) :=
  .need (decide ((0:Int)≤(52:Int)))<|.ask ((dM .and .u64 (Int.fdiv a (2^(min (Int.toNat (52:Int)) (IntKind.u64.bits)))) (2047:Int))==(2047:Int))
    (.ask ((dM .and .u64 a (4503599627370495:Int)) != (0:Int))
      (.leaf (.inr (.r0 5)))
      (.ask ((dM .and .u64 (Int.fdiv a (2^(min (Int.toNat (52:Int)) (IntKind.u64.bits)))) (2047:Int))==(2047:Int))
        (.leaf (.inr (.r0 4)))
        (.ask ((dM .and .u64 (Int.fdiv a (2^(min (Int.toNat (52:Int)) (IntKind.u64.bits)))) (2047:Int)) != (0:Int))
          (.leaf (.inr (.r0 3)))
          (.ask ((dM .and .u64 a (4503599627370495:Int)) != (0:Int))
            (.leaf (.inr (.r0 2)))
            (.leaf (.inl ()))))))
    (.ask ((dM .and .u64 (Int.fdiv a (2^(min (Int.toNat (52:Int)) (IntKind.u64.bits)))) (2047:Int))==(2047:Int))
      (.leaf (.inr (.r0 4)))
      (.ask ((dM .and .u64 (Int.fdiv a (2^(min (Int.toNat (52:Int)) (IntKind.u64.bits)))) (2047:Int)) != (0:Int))
        (.leaf (.inr (.r0 3)))
        (.ask ((dM .and .u64 a (4503599627370495:Int)) != (0:Int))
          (.leaf (.inr (.r0 2)))
          (.leaf (.inl ())))))
def H0:T ((Empty)⊕(fE)) :=
  .leaf (.inr (.r0 1))
def qc(a:Int) :Option fE:=mz (aO ((HZ a).run) fun _ =>
  (H0).run)
theorem H3(a:Int){x:fE}(h:qc a=some x) :af prog zJ [] [.int .u64 a] (ui x) :=
  ny false ui Al h (Sg.cut 3 HX (br pu HY [⟨[],[],[2]⟩,⟨[],[],[2]⟩,⟨[],[],[2]⟩,⟨[],[],[2]⟩,⟨[],[],[]⟩,⟨[],[],[2]⟩,⟨[],[],[2]⟩,⟨[],[],[2]⟩,⟨[],[],[]⟩]) (fun _=>br pu mU [⟨[],[],[2]⟩]))
    (fun x=>by cases x with | r0 b=>exact mb [.int .i64 ((b:Nat):Int)])
def oE:Option fE→Bool
  | some _=>true
  | none=>false
def pv:Option fE→Nat
  | some (.r0 x)=>x
  | _=>0
theorem H4{x:Option fE}(h:oE x=true) :x=some (.r0 (pv x)):=by
  unfold oE at h
  split at h<;>first | rfl | (cases h;done) | (rename_i y;cases y;rfl)
def Am:aw:=ca zJ (.cons (.int .u64) .nil) fun t=>(fun q=>[⟨ui (.r0 (pv q)),[oE q]⟩]) (qc t.1)
theorem Dd:aM prog Am:=aP fun t=>(aQ (fun h=>H3 t.1 (H4 h)) aZ)
def An:List aw:=Am::Ak
theorem pw:aG prog (aD An):=ap Dd pu
inductive dJ where
  | r0 (a:Nat) (b:Bool) (c:Int) (d:Int)
def Ao:dJ→AE×aC
  | .r0 a b c d=>(.ret,⟨aj 36 [(2,.ptr 0 1 0 0),(3,.int .i64 ((a:Nat):Int))],[(0,.vs [.bool false b,.int .u64 c,.int .i64 d])],1⟩)
theorem H5:jU Ao:=by intro x;cases x<;>(intro h;cases h)
def uj:dJ→fZ
  | .r0 a b c d=>⟨.tup [.agg [.bool false b,.int .u64 c,.int .i64 d],.int .i64 ((a:Nat):Int)],[]⟩
def H6(a:Int) :Nat×Bool×Bool×Int→aC:=fun (b,c,d,e)=>⟨aj 36 [(0,.int .u64 a),(2,.ptr 0 1 0 0),(4,.ptr 1 1 0 0),(12,.int .i64 ((b:Nat):Int))],[(0,.vs [.bool false c,.int .u64 (0:Int),.int .i64 (0:Int)]),(1,.vs [.bool false d,.int .u64 e,.int .i64 (-1074:Int)])],2⟩
def H7(a:Int) :T ((Nat×Bool×Bool×Int)⊕(dJ)) :=
  .need (decide ((0:Int)≤(63:Int)))<|.need (oE (qc a))<|.leaf (.inl ((pv (qc a)),false,((Int.fdiv a (2^(min (Int.toNat (63:Int)) (IntKind.u64.bits))))==(1:Int)),(dM .and .u64 a (4503599627370495:Int))))
def H8(a:Int)(b:Nat)(c:Bool)(d:Int) :T ((Empty)⊕(dJ)) :=
  .ask (((b:Nat):Int)==(3:Int))
    (.need (decide ((0:Int)≤(52:Int)))<|.need (dW .i64 ((IntKind.i64.wrap (dM .and .u64 (Int.fdiv a (2^(min (Int.toNat (52:Int)) (IntKind.u64.bits)))) (2047:Int)))-(1:Int)))<|.need (dW .i64 ((-1074:Int)+((IntKind.i64.wrap (dM .and .u64 (Int.fdiv a (2^(min (Int.toNat (52:Int)) (IntKind.u64.bits)))) (2047:Int)))-(1:Int))))<|.leaf (.inr (.r0 0 c (dM .or .u64 d (4503599627370496:Int)) ((-1074:Int)+((IntKind.i64.wrap (dM .and .u64 (Int.fdiv a (2^(min (Int.toNat (52:Int)) (IntKind.u64.bits)))) (2047:Int)))-(1:Int))))))
    (.ask (((b:Nat):Int)==(2:Int))
      (.leaf (.inr (.r0 0 c d (-1074:Int))))
      (.ask (((b:Nat):Int)==(1:Int))
        (.leaf (.inr (.r0 0 c d (0:Int))))
        (.leaf (.inr (.r0 2 false (0:Int) (0:Int))))))
def dK(a:Int) :Option dJ:=mz (aO ((H7 a).run) fun (b,e,c,d) =>
  (H8 a b c d).run)
theorem H9(a:Int){x:dJ}(h:dK a=some x) :af prog zE [] [.int .u64 a] (uj x) :=
  ny false uj Ao h (Sg.cut 3 H5 (br pw (H6 a) [⟨[],[0,128],[0,2,4,12]⟩]) (fun ⟨f,g,i,j⟩=>br pw mU [⟨[],[0],[2,3]⟩,⟨[],[0],[2,3]⟩,⟨[],[0],[2,3]⟩,⟨[],[0],[2,3]⟩]))
    (fun x=>by cases x with | r0 b c d e=>exact mb [.agg [.bool false c,.int .u64 d,.int .i64 e],.int .i64 ((b:Nat):Int)])
def kA:Option dJ→Bool
  | some _=>true
  | none=>false
def lw:Option dJ→Nat
  | some (.r0 x _ _ _)=>x
  | _=>0
def lx:Option dJ→Bool
  | some (.r0 _ x _ _)=>x
  | _=>false
def ly:Option dJ→Int
  | some (.r0 _ _ x _)=>x
  | _=>0
def lz:Option dJ→Int
  | some (.r0 _ _ _ x)=>x
  | _=>0
theorem Ia{x:Option dJ}(h:kA x=true) :x=some (.r0 (lw x) (lx x) (ly x) (lz x)):=by
  unfold kA at h
  split at h<;>first | rfl | (cases h;done) | (rename_i y;cases y;rfl)
def Ap:aw:=ca zE (.cons (.int .u64) .nil) fun t=>(fun q=>[⟨uj (.r0 (lw q) (lx q) (ly q) (lz q)),[kA q]⟩]) (dK t.1)
theorem De:aM prog Ap:=aP fun t=>(aQ (fun h=>H9 t.1 (Ia h)) aZ)
def Aq:List aw:=Ap::An
theorem lA:aG prog (aD Aq):=ap De pw
inductive eU where
  | r0 (a:Nat) (b:Bool) (c:List Int) (d:Nat) (e:Nat) (f:Int)
def J5:eU→AE×aC
  | .r0 a b c d e f=>(.ret,⟨aj 25 [(2,.ptr 0 1 0 0),(3,.int .i64 ((a:Nat):Int))],[(0,.vs [.bool false b,.imm .free (.ns .u64 c) 1 1 d e,.int .i64 f])],1⟩)
theorem F6:jU J5:=by intro x;cases x<;>(intro h;cases h)
def BP:eU→fZ
  | .r0 a b c d e f=>⟨.tup [.agg [.bool false b,.imm .free (.ns .u64 c) 1 1 d e,.int .i64 f],.int .i64 ((a:Nat):Int)],[]⟩
def Tf:Nat×Bool×Bool×Int×Int→aC:=fun (a,b,c,d,e)=>⟨aj 25 [(2,.ptr 0 1 0 0),(4,.ptr 1 1 0 0),(5,.int .i64 ((a:Nat):Int))],[(0,.vs [.bool false b,.nsl,.int .i64 (0:Int)]),(1,.vs [.bool false c,.int .u64 d,.int .i64 e])],2⟩
def Tg(a:Nat) :T ((Nat×Bool×Bool×Int×Int)⊕(eU)) :=
  .ask (Yy a a)
    (.need (kA (dK (9221120237041090560:Int)))<|.leaf (.inl ((lw (dK (9221120237041090560:Int))),false,(lx (dK (9221120237041090560:Int))),(ly (dK (9221120237041090560:Int))),(lz (dK (9221120237041090560:Int))))))
    (.alt 0
      (.need (!isNaN a)<|.need (kA (dK ((a:Nat):Int)))<|.leaf (.inl ((lw (dK ((a:Nat):Int))),false,(lx (dK ((a:Nat):Int))),(ly (dK ((a:Nat):Int))),(lz (dK ((a:Nat):Int))))))
      (.fail))
def Th:Bool×(List Int)×Nat×Nat×Int→aC:=fun (a,b,c,d,e)=>⟨aj 25 [(2,.ptr 0 1 0 0),(3,.int .i64 (0:Int))],[(0,.vs [.bool false a,.imm .free (.ns .u64 b) 1 1 c d,.int .i64 e])],1⟩
def Ti(d:Nat)(b:Bool)(a:Int)(c:Int) :T ((Bool×(List Int)×Nat×Nat×Int)⊕(eU)) :=
  .ask (((d:Nat):Int) != (0:Int))
    (.leaf (.inr (.r0 d false ([]:List Int) 0 0 (0:Int))))
    (.need (sD (aY a))<|.need (aI (cJ (aY a)) (cK (aY a)) (cL (aY a)))<|.need (dh (am b (aa (cJ (aY a)) (cK (aY a)) (cL (aY a))) c))<|.leaf (.inl ((bM (am b (aa (cJ (aY a)) (cK (aY a)) (cL (aY a))) c)),(bN (am b (aa (cJ (aY a)) (cK (aY a)) (cL (aY a))) c)),(bO (am b (aa (cJ (aY a)) (cK (aY a)) (cL (aY a))) c)),(bP (am b (aa (cJ (aY a)) (cK (aY a)) (cL (aY a))) c)),(bQ (am b (aa (cJ (aY a)) (cK (aY a)) (cL (aY a))) c)))))
def Tj(a:Bool)(b:List Int)(c:Nat)(d:Nat)(e:Int) :T ((Empty)⊕(eU)) :=
  .leaf (.inr (.r0 0 a b c d e))
def gW(a:Nat) :Option eU:=mz (aO ((Tg a).run) fun (b,k,c,d,e) =>
  aO ((Ti b c d e).run) fun (f,g,h,i,j) =>
  (Tj f g h i j).run)
theorem Tk(a:Nat){x:eU}(h:gW a=some x) :af prog Br [] [.flt false a] (BP x) :=
  ny true BP J5 h (Sg.cut 2 F6 (br lA Tf [⟨[],[0,128],[2,4,5]⟩,⟨[],[0,128],[2,4,5]⟩]) (fun ⟨i,j,k,l,m⟩=>Sg.cut 3 F6 (br lA Th [⟨[(.cell 0 1,.fre 1 1 (.ns .u64 ([]:List Int)))],[0],[2,3]⟩,⟨[],[0],[2,3]⟩]) (fun ⟨n,o,p,q,r⟩=>br lA mU [⟨[],[0],[2,3]⟩])))
    (fun x=>by cases x with | r0 b c d e f g=>exact mb [.agg [.bool false c,.imm .free (.ns .u64 d) 1 1 e f,.int .i64 g],.int .i64 ((b:Nat):Int)])
def uk:Option eU→Bool
  | some _=>true
  | none=>false
def Ar:Option eU→Nat
  | some (.r0 x _ _ _ _ _)=>x
  | _=>0
def ul:Option eU→Bool
  | some (.r0 _ x _ _ _ _)=>x
  | _=>false
def qd:Option eU→List Int
  | some (.r0 _ _ x _ _ _)=>x
  | _=>[]
def qe:Option eU→Nat
  | some (.r0 _ _ _ x _ _)=>x
  | _=>0
def qf:Option eU→Nat
  | some (.r0 _ _ _ _ x _)=>x
  | _=>0
def um:Option eU→Int
  | some (.r0 _ _ _ _ _ x)=>x
  | _=>0
theorem Tl{x:Option eU}(h:uk x=true) :x=some (.r0 (Ar x) (ul x) (qd x) (qe x) (qf x) (um x)):=by
  unfold uk at h
  split at h<;>first | rfl | (cases h;done) | (rename_i y;cases y;rfl)
def J6:aw:=ca Br (.cons (.flt false) .nil) fun t=>(fun q=>[⟨BP (.r0 (Ar q) (ul q) (qd q) (qe q) (qf q) (um q)),[uk q]⟩]) (gW t.1)
theorem Mc:aM prog J6:=aP fun t=>(aQ (fun h=>Tk t.1 (Tl h)) aZ)
def J7:List aw:=J6::Aq
theorem un:aG prog (aD J7):=ap Mc lA
inductive fF where
  | r0 (a:Bool)
def As:fF→AE×aC
  | .r0 a=>(.ret,⟨aj 32 [(2,.bool false a)],[],0⟩)
theorem Ib:jU As:=by intro x;cases x<;>(intro h;cases h)
def uo:fF→fZ
  | .r0 a=>⟨.bool false a,[]⟩
def Ic(a:Bool) :aC:=⟨aj 32 [(2,.bool false a)],[],0⟩
def Ie(a:Int)(b:Int)(c:List Nat) :T ((Bool)⊕(fF)) :=
  .ask (decide (a<(0:Int)))
    (.leaf (.inl true))
    (.ask (decide (a>(512:Int)))
      (.leaf (.inl true))
      (.ask (decide (b<(0:Int)))
        (.leaf (.inl true))
        (.ask (decide (b>(512:Int)))
          (.leaf (.inl true))
          (.need (dW .i64 (a*b))<|.leaf (.inl ((((List.length c):Nat):Int) != (a*b)))))))
def If(a:Bool) :T ((Empty)⊕(fF)) :=
  .leaf (.inr (.r0 a))
def bG(a:Int)(b:Int)(c:List Nat) :Option fF:=mz (aO ((Ie a b c).run) fun d =>
  (If d).run)
theorem Ig(b:Int)(c:Int)(d:Lv)(a:List Nat){x:fF}(h:bG b c a=some x) :af prog zI [] [.agg [.int .i64 b,.int .i64 c,.imm d (.fl a) 1 1 0 (List.length a)]] (uo x) :=
  ny false uo As h (Sg.cut 2 Ib (br un Ic [⟨[],[],[2]⟩,⟨[],[],[2]⟩,⟨[],[],[2]⟩,⟨[],[],[2]⟩,⟨[],[],[2]⟩]) (fun f=>br un mU [⟨[],[],[2]⟩]))
    (fun x=>by cases x with | r0 e=>exact mb [.bool false e])
def db:Option fF→Bool
  | some _=>true
  | none=>false
def cE:Option fF→Bool
  | some (.r0 x)=>x
  | _=>false
theorem Ih{x:Option fF}(h:db x=true) :x=some (.r0 (cE x)):=by
  unfold db at h
  split at h<;>first | rfl | (cases h;done) | (rename_i y;cases y;rfl)
def Au:aw:=ca zI (.cons (.agg (.cons (.int .i64) (.cons (.int .i64) (.cons .fl .nil)))) .nil) fun t=>(fun q=>[⟨uo (.r0 (cE q)),[db q]⟩]) (bG t.1.1 t.1.2.1 t.1.2.2.1.2)
theorem Df:aM prog Au:=aP fun t=>(aQ (fun h=>Ig t.1.1 t.1.2.1 t.1.2.2.1.1 t.1.2.2.1.2 (Ih h)) aZ)
def Av:List aw:=Au::J7
theorem lB:aG prog (aD Av):=ap Df un
inductive aE where
  | r0 (a:Int)
def cu:aE→AE×aC
  | .r0 a=>(.ret,⟨aj 19 [(4,.int .i64 a)],[],0⟩)
theorem dm:jU cu:=by intro x;cases x<;>(intro h;cases h)
theorem jV(id:Nat) :oT id cu:=by intro x;cases x<;>(intro h;cases h)
def dA:aE→fZ
  | .r0 a=>⟨.int .i64 a,[]⟩
def jW:List Code:=dd (pf lI)
def jX(b:Lv)(a:List Nat)(_:Unit) :aC:=⟨aj 19 [(0,.imm b (.fl a) 1 1 0 (List.length a)),(1,.fn (.func lf) [] []),(7,.int .i64 (((List.length a):Nat):Int)),(8,.int .i64 (0:Int))],[],0⟩
def jY:T ((Unit)⊕(aE)) :=
  .leaf (.inl ())
def cj(b:Lv)(a:List Nat)(c:Nat) :aC:=⟨aj 19 [(0,.imm b (.fl a) 1 1 0 (List.length a)),(1,.fn (.func lf) [] []),(7,.int .i64 (((List.length a):Nat):Int)),(8,.int .i64 ((c:Nat):Int))],[],0⟩
def ft(_:Unit) :aC:=⟨aj 19 [],[],0⟩
def jZ:List Code:=dd (fy ((((jW.drop 2).take 1)).headD .skip))
def ka(b:List Nat)(a:Nat) :T ((Nat)⊕((Unit)⊕(aE))) :=
  .ask (decide (((a:Nat):Int)<(((List.length b):Nat):Int)))
    (.need (fu ((a:Nat):Int) (List.length b))<|.need (fW a (List.length b))<|.ask (Yy (List.getD b a 0) (List.getD b a 0))
      (.leaf (.inr (.inr (.r0 ((a:Nat):Int)))))
      (.ask ((0:Int)==(0:Int))
        (.ask (YK (rY (List.getD b a 0)) 9218868437227405311)
          (.leaf (.inr (.inr (.r0 ((a:Nat):Int)))))
          (.need (dW .i64 (((a+1):Nat):Int))<|.leaf (.inl (a+1))))
        (.fail)))
    (.leaf (.inr (.inl ())))
def di(a:List Nat) :Nat→Option ((Nat)⊕((Unit)⊕(aE))):=fun b =>
  (ka a b).run
theorem jN(b:Lv)(a:List Nat)(c:Nat) :Sg prog [] jZ (cj b a c) (di a c) (cj b a) (dR 0 ft cu):=by
  unfold di;exact br lB (cj b a) [⟨[],[],[4]⟩,⟨[],[],[4]⟩,⟨[],[],[0,1,7,8]⟩,⟨[],[],[]⟩]
def jO:T ((Empty)⊕(aE)) :=
  .leaf (.inr (.r0 (-1:Int)))
def ak(a:List Nat) :Option aE:=mz (aO ((jY).run) fun _ =>
  aO (gR (di a) 0) fun _ =>
  (jO).run)
theorem kb(b:Lv)(a:List Nat){x:aE}(h:ak a=some x) :af prog lI [] [.imm b (.fl a) 1 1 0 (List.length a),.fn (.func lf) [] []] (dA x) :=
  ny false dA cu h (Sg.cut 2 dm (br lB (jX b a) [⟨[],[],[0,1,7,8]⟩]) (fun _=>Sg.cut 1 dm (GD ⟨[],[],[0,1,7,8]⟩ (cj b a) (ft) 0 dm (jV _) (fun c=>jN b a c)) (fun _=>br lB mU [⟨[],[],[4]⟩])))
    (fun x=>by cases x with | r0 d=>exact mb [.int .i64 d])
def az:Option aE→Bool
  | some _=>true
  | none=>false
def aA:Option aE→Int
  | some (.r0 x)=>x
  | _=>0
theorem ke{x:Option aE}(h:az x=true) :x=some (.r0 (aA x)):=by
  unfold az at h
  split at h<;>first | rfl | (cases h;done) | (rename_i y;cases y;rfl)
def fK:aw:=ca lI (.cons .fl (.cons (.fn lf .nil .nil) .nil)) fun t=>(fun q=>[⟨dA (.r0 (aA q)),[az q]⟩]) (ak t.1.2)
theorem jy:aM prog fK:=aP fun t=>(aQ (fun h=>kb t.1.1 t.1.2 (ke h)) aZ)
def fL:List aw:=fK::Av
theorem bf:aG prog (aD fL):=ap jy lB
inductive bV where
  | r0 (a:Nat) (b:Bool) (c:List Int) (d:Nat) (e:Nat) (f:Int)
def Aw:bV→AE×aC
  | .r0 a b c d e f=>(.ret,⟨aj 45 [(4,.ptr 0 1 0 0),(5,.int .i64 ((a:Nat):Int))],[(0,.vs [.bool false b,.imm .free (.ns .u64 c) 1 1 d e,.int .i64 f])],1⟩)
theorem oF:jU Aw:=by intro x;cases x<;>(intro h;cases h)
def uq:bV→fZ
  | .r0 a b c d e f=>⟨.tup [.agg [.bool false b,.imm .free (.ns .u64 c) 1 1 d e,.int .i64 f],.int .i64 ((a:Nat):Int)],[]⟩
def Ii(a:Int)(b:Int) :Bool×Bool→aC:=fun (c,d)=>⟨aj 45 [(0,.int .i64 a),(1,.int .i64 b),(4,.ptr 0 1 0 0),(22,.bool false c)],[(0,.vs [.bool false d,.nsl,.int .i64 (0:Int)])],1⟩
def Ij(a:Int)(b:Int) :T ((Bool×Bool)⊕(bV)) :=
  .ask (decide (a<(0:Int)))
    (.leaf (.inl (true,false)))
    (.ask (decide (a>(512:Int)))
      (.leaf (.inl (true,false)))
      (.ask (decide (b<(0:Int)))
        (.leaf (.inl (true,false)))
        (.leaf (.inl ((decide (b>(512:Int))),false)))))
def Ik(a:Bool) :Bool×(List Int)×Nat×Nat×Int→aC:=fun (b,c,d,e,f)=>⟨aj 45 [(4,.ptr 0 1 0 0),(6,.ptr 1 1 0 0)],[(0,.vs [.bool false a,.nsl,.int .i64 (0:Int)]),(1,.vs [.bool false b,.imm .free (.ns .u64 c) 1 1 d e,.int .i64 f])],2⟩
def Il(a:Int)(b:Int)(c:Bool) :T ((Bool×(List Int)×Nat×Nat×Int)⊕(bV)) :=
  .ask c
    (.leaf (.inr (.r0 2 false ([]:List Int) 0 0 (0:Int))))
    (.need (dW .i64 ((64:Int)*(mf a (1:Int))))<|.need (dW .i64 (((64:Int)*(mf a (1:Int)))*(mf b (1:Int))))<|.need (jd (bF (((64:Int)*(mf a (1:Int)))*(mf b (1:Int)))))<|.leaf (.inl ((iM (bF (((64:Int)*(mf a (1:Int)))*(mf b (1:Int))))),(iN (bF (((64:Int)*(mf a (1:Int)))*(mf b (1:Int))))),(iO (bF (((64:Int)*(mf a (1:Int)))*(mf b (1:Int))))),(iP (bF (((64:Int)*(mf a (1:Int)))*(mf b (1:Int))))),(iQ (bF (((64:Int)*(mf a (1:Int)))*(mf b (1:Int))))))))
def Im(a:Bool) :Nat×Bool×(List Int)×Nat×Nat×Int→aC:=fun (b,c,d,e,f,g)=>⟨aj 45 [(4,.ptr 0 1 0 0),(7,.ptr 1 1 0 0),(8,.int .i64 ((b:Nat):Int))],[(0,.vs [.bool false a,.nsl,.int .i64 (0:Int)]),(1,.vs [.bool false c,.imm .free (.ns .u64 d) 1 1 e f,.int .i64 g])],2⟩
def In(d:Bool)(a:List Int)(b:Nat)(c:Nat)(e:Int) :T ((Nat×Bool×(List Int)×Nat×Nat×Int)⊕(bV)) :=
  .need (aI b c a)<|.need (aI b c a)<|.need (jx (ag d (aa b c a) e d (aa b c a) e))<|.leaf (.inl ((gK (ag d (aa b c a) e d (aa b c a) e)),(bA (ag d (aa b c a) e d (aa b c a) e)),(bk (ag d (aa b c a) e d (aa b c a) e)),(bm (ag d (aa b c a) e d (aa b c a) e)),(bn (ag d (aa b c a) e d (aa b c a) e)),(bB (ag d (aa b c a) e d (aa b c a) e))))
def Io:Nat×Bool×(List Int)×Nat×Nat×Int→aC:=fun (a,b,c,d,e,f)=>⟨aj 45 [(4,.ptr 0 1 0 0),(5,.int .i64 ((a:Nat):Int))],[(0,.vs [.bool false b,.imm .free (.ns .u64 c) 1 1 d e,.int .i64 f])],1⟩
def Ip(f:Nat)(d:Bool)(a:List Int)(b:Nat)(c:Nat)(e:Int) :T ((Nat×Bool×(List Int)×Nat×Nat×Int)⊕(bV)) :=
  .ask (((f:Nat):Int) != (0:Int))
    (.leaf (.inr (.r0 f false ([]:List Int) 0 0 (0:Int))))
    (.need (aI b c a)<|.need (oD (fD d (aa b c a) e (-106:Int)))<|.leaf (.inl ((pm (fD d (aa b c a) e (-106:Int))),(pn (fD d (aa b c a) e (-106:Int))),(po (fD d (aa b c a) e (-106:Int))),(pq (fD d (aa b c a) e (-106:Int))),(pr (fD d (aa b c a) e (-106:Int))),(pt (fD d (aa b c a) e (-106:Int))))))
def F7(a:Nat)(b:Bool)(c:List Int)(d:Nat)(e:Nat)(f:Int) :T ((Empty)⊕(bV)) :=
  .leaf (.inr (.r0 a b c d e f))
def fG(a:Int)(b:Int) :Option bV:=mz (aO ((Ij a b).run) fun (c,u) =>
  aO ((Il a b c).run) fun (d,e,f,g,h) =>
  aO ((In d e f g h).run) fun (i,j,k,l,m,n) =>
  aO ((Ip i j k l m n).run) fun (o,p,q,r,s,t) =>
  (F7 o p q r s t).run)
theorem Iq(a:Int)(b:Int){x:bV}(h:fG a b=some x) :af prog tj [] [.int .i64 a,.int .i64 b] (uq x) :=
  ny true uq Aw h (Sg.cut 2 oF (br bf (Ii a b) [⟨[],[0],[0,1,4,22]⟩,⟨[],[0],[0,1,4,22]⟩,⟨[],[0],[0,1,4,22]⟩,⟨[],[0],[0,1,4,22]⟩]) (fun ⟨k,c⟩=>Sg.cut 2 oF (br bf (Ik c) [⟨[(.cell 0 1,.fre 1 1 (.ns .u64 ([]:List Int)))],[0],[4,5]⟩,⟨[],[0,113],[4,6]⟩]) (fun ⟨l,m,n,o,p⟩=>Sg.cut 1 oF (br bf (Im c) [⟨[],[0,98],[4,7,8]⟩]) (fun ⟨q,r,s,t,u,v⟩=>Sg.cut 3 oF (br bf Io [⟨[(.cell 0 1,.fre 1 1 (.ns .u64 ([]:List Int)))],[0],[4,5]⟩,⟨[],[0],[4,5]⟩]) (fun ⟨w,y,z,A,B,C⟩=>br bf mU [⟨[],[0],[4,5]⟩])))))
    (fun x=>by cases x with | r0 d e f g i j=>exact mb [.agg [.bool false e,.imm .free (.ns .u64 f) 1 1 g i,.int .i64 j],.int .i64 ((d:Nat):Int)])
def oG:Option bV→Bool
  | some _=>true
  | none=>false
def px:Option bV→Nat
  | some (.r0 x _ _ _ _ _)=>x
  | _=>0
def py:Option bV→Bool
  | some (.r0 _ x _ _ _ _)=>x
  | _=>false
def pz:Option bV→List Int
  | some (.r0 _ _ x _ _ _)=>x
  | _=>[]
def pA:Option bV→Nat
  | some (.r0 _ _ _ x _ _)=>x
  | _=>0
def pB:Option bV→Nat
  | some (.r0 _ _ _ _ x _)=>x
  | _=>0
def pC:Option bV→Int
  | some (.r0 _ _ _ _ _ x)=>x
  | _=>0
theorem Ir{x:Option bV}(h:oG x=true) :x=some (.r0 (px x) (py x) (pz x) (pA x) (pB x) (pC x)):=by
  unfold oG at h
  split at h<;>first | rfl | (cases h;done) | (rename_i y;cases y;rfl)
def Ax:aw:=ca tj (.cons (.int .i64) (.cons (.int .i64) .nil)) fun t=>(fun q=>[⟨uq (.r0 (px q) (py q) (pz q) (pA q) (pB q) (pC q)),[oG q]⟩]) (fG t.1 t.2.1)
theorem Dg:aM prog Ax:=aP fun t=>(aQ (fun h=>Iq t.1 t.2.1 (Ir h)) aZ)
def Ay:List aw:=Ax::fL
theorem iR:aG prog (aD Ay):=ap Dg bf
inductive cC where
  | r0 (a:Nat) (b:List Bool) (c:List (List Int)) (d:List Int)
def qg:cC→AE×aC
  | .r0 a b c d=>(.ret,⟨aj 26 [(2,.sl 0 3 3 0 a a)],[(0,.cols a [.cb b,.cns .u64 c,.ci .i64 d])],1⟩)
theorem oH:jU qg:=by intro x;cases x<;>(intro h;cases h)
theorem Is(id:Nat) :oT id qg:=by intro x;cases x<;>(intro h;cases h)
def ur:cC→fZ
  | .r0 a b c d=>⟨.imm .free (.cols a [.cb b,.cns .u64 c,.ci .i64 d]) 3 3 0 a,[]⟩
def It:List Code:=dd (pf pT)
def Iu(b:Lv)(a:List Nat) :(List Bool)×(List (List Int))×(List Int)→aC:=fun (c,d,e)=>⟨aj 26 [(3,.sl 0 3 3 0 (List.length a) (List.length a)),(9,.imm b (.fl a) 1 1 0 (List.length a)),(10,.int .i64 (((List.length a):Nat):Int)),(11,.int .i64 (0:Int))],[(0,.cols (List.length a) [.cb c,.cns .u64 d,.ci .i64 e])],1⟩
def Iv(a:List Nat) :T (((List Bool)×(List (List Int))×(List Int))⊕(cC)) :=
  .need (decide ((0:Int)≤(((List.length a):Nat):Int)))<|.need (decide ((((List.length a):Nat):Int)≤(((List.length a):Nat):Int)))<|.need (decide ((40:Int)*(((List.length a):Nat):Int)≤140737488355328))<|.need (dW .i64 (((List.length a):Nat):Int))<|.leaf (.inl ((List.replicate (List.length a) false),(List.replicate (List.length a) []),(List.replicate (List.length a) (0:Int))))
def oI(b:Lv)(a:List Nat) :Nat×(List Bool)×(List (List Int))×(List Int)→aC:=fun (c,d,e,f)=>⟨aj 26 [(3,.sl 0 3 3 0 (List.length a) (List.length a)),(9,.imm b (.fl a) 1 1 0 (List.length a)),(10,.int .i64 (((List.length a):Nat):Int)),(11,.int .i64 ((c:Nat):Int))],[(0,.cols (List.length a) [.cb d,.cns .u64 e,.ci .i64 f])],1⟩
def xm(a:List Nat) :(List Bool)×(List (List Int))×(List Int)→aC:=fun (b,c,d)=>⟨aj 26 [(3,.sl 0 3 3 0 (List.length a) (List.length a))],[(0,.cols (List.length a) [.cb b,.cns .u64 c,.ci .i64 d])],1⟩
def F8:List Code:=dd (fy ((((It.drop 3).take 1)).headD .skip))
def Iw(b:Lv)(a:List Nat)(c:Nat) :(List Bool)×(List (List Int))×(List Int)→aC:=fun (d,e,f)=>⟨aj 26 [(3,.sl 0 3 3 0 (List.length a) (List.length a)),(9,.imm b (.fl a) 1 1 0 (List.length a)),(10,.int .i64 (((List.length a):Nat):Int)),(11,.int .i64 ((c:Nat):Int))],[(0,.cols (List.length a) [.cb d,.cns .u64 e,.ci .i64 f])],1⟩
def F9(b:List Nat)(a:Nat)(c:List Bool)(d:List (List Int))(e:List Int) :T (((List Bool)×(List (List Int))×(List Int))⊕(((List Bool)×(List (List Int))×(List Int))⊕(cC))) :=
  .ask (decide (((a:Nat):Int)<(((List.length b):Nat):Int)))
    (.need (fu ((a:Nat):Int) (List.length b))<|.need (fW a (List.length b))<|.need (uk (gW (List.getD b a 0)))<|.need (fu ((a:Nat):Int) (List.length b))<|.need (fW a (List.length c))<|.need (fW a (List.length d))<|.need (decide ((qe (gW (List.getD b a 0)))+(qf (gW (List.getD b a 0)))≤List.length (qd (gW (List.getD b a 0)))))<|.need (fW a (List.length e))<|.leaf (.inl ((List.set c a (ul (gW (List.getD b a 0)))),(List.set d a (List.take (qf (gW (List.getD b a 0))) (List.drop (qe (gW (List.getD b a 0))) (qd (gW (List.getD b a 0)))))),(List.set e a (um (gW (List.getD b a 0)))))))
    (.leaf (.inr (.inl (c,d,e))))
def Ga(a:Nat)(b:List Bool)(c:List (List Int))(d:List Int) :T ((Nat×(List Bool)×(List (List Int))×(List Int))⊕(((List Bool)×(List (List Int))×(List Int))⊕(cC))) :=
  .need (dW .i64 (((a+1):Nat):Int))<|.leaf (.inl ((a+1),b,c,d))
def qR(b:List Nat) :Nat×(List Bool)×(List (List Int))×(List Int)→Option ((Nat×(List Bool)×(List (List Int))×(List Int))⊕(((List Bool)×(List (List Int))×(List Int))⊕(cC))):=fun (a,c,d,e) =>
  aO ((F9 b a c d e).run) fun (f,g,h) =>
  (Ga a f g h).run
theorem Gb(b:Lv)(a:List Nat)(c:Nat)(d:List Bool)(e:List (List Int))(f:List Int) :Sg prog [] F8 (oI b a (c,d,e,f)) (qR a (c,d,e,f)) (oI b a) (dR 0 (xm a) qg):=by
  unfold qR;exact Sg.cut 3 (bb oH) (br iR (Iw b a c) [⟨[],[0],[3,9,10,11]⟩,⟨[],[0],[3]⟩]) (fun ⟨g,h,i⟩=>br iR (oI b a) [⟨[],[0],[3,9,10,11]⟩])
def Gc(a:List Nat)(b:List Bool)(c:List (List Int))(d:List Int) :T ((Empty)⊕(cC)) :=
  .leaf (.inr (.r0 (List.length a) b c d))
def ah(a:List Nat) :Option cC:=mz (aO ((Iv a).run) fun (b,c,d) =>
  aO (gR (qR a) (0,b,c,d)) fun (e,f,g) =>
  (Gc a e f g).run)
theorem Ix(b:Lv)(a:List Nat){x:cC}(h:ah a=some x) :af prog pT [] [.imm b (.fl a) 1 1 0 (List.length a)] (ur x) :=
  ny true ur qg h (Sg.cut 3 oH (br iR (Iu b a) [⟨[],[48],[3,9,10,11]⟩]) (fun ⟨i,j,k⟩=>Sg.cut 1 oH (GD ⟨[],[0],[3,9,10,11]⟩ (oI b a) (xm a) 0 oH (Is _) (fun ⟨d,e,f,g⟩=>Gb b a d e f g)) (fun ⟨l,m,n⟩=>br iR mU [⟨[],[0],[2]⟩])))
    (fun x=>by cases x with | r0 c o p q=>exact mb [.sl 0 3 3 0 c c])
def fa:Option cC→Bool
  | some _=>true
  | none=>false
def au:Option cC→Nat
  | some (.r0 x _ _ _)=>x
  | _=>0
def bJ:Option cC→List Bool
  | some (.r0 _ x _ _)=>x
  | _=>[]
def bK:Option cC→List (List Int)
  | some (.r0 _ _ x _)=>x
  | _=>[]
def bL:Option cC→List Int
  | some (.r0 _ _ _ x)=>x
  | _=>[]
theorem Iy{x:Option cC}(h:fa x=true) :x=some (.r0 (au x) (bJ x) (bK x) (bL x)):=by
  unfold fa at h
  split at h<;>first | rfl | (cases h;done) | (rename_i y;cases y;rfl)
def Az:aw:=ca pT (.cons .fl .nil) fun t=>(fun q=>[⟨ur (.r0 (au q) (bJ q) (bK q) (bL q)),[fa q]⟩]) (ah t.1.2)
theorem Dh:aM prog Az:=aP fun t=>(aQ (fun h=>Ix t.1.1 t.1.2 (Iy h)) aZ)
def AA:List aw:=Az::Ay
theorem gl:aG prog (aD AA):=ap Dh iR
inductive cO where
  | r0 (a:Nat) (b:Bool) (c:List Int) (d:Nat) (e:Nat) (f:Int)
def ut:cO→AE×aC
  | .r0 a b c d e f=>(.ret,⟨aj 51 [(4,.ptr 0 1 0 0),(5,.int .i64 ((a:Nat):Int))],[(0,.vs [.bool false b,.imm .free (.ns .u64 c) 1 1 d e,.int .i64 f])],1⟩)
theorem lX:jU ut:=by intro x;cases x<;>(intro h;cases h)
theorem QD(id:Nat) :oT id ut:=by intro x;cases x<;>(intro h;cases h)
def yA:cO→fZ
  | .r0 a b c d e f=>⟨.tup [.agg [.bool false b,.imm .free (.ns .u64 c) 1 1 d e,.int .i64 f],.int .i64 ((a:Nat):Int)],[]⟩
def uu:List Code:=dd (pf tp)
def QE(c:Lv)(a:Nat)(d:List Bool)(e:List (List Int))(f:List Int)(g:Lv)(b:Nat)(h:List Bool)(i:List (List Int))(j:List Int)(k:Bool) :aC:=⟨aj 51 [(0,.imm c (.cols a [.cb d,.cns .u64 e,.ci .i64 f]) 3 3 0 a),(1,.imm g (.cols b [.cb h,.cns .u64 i,.ci .i64 j]) 3 3 0 b),(4,.ptr 0 1 0 0)],[(0,.vs [.bool false k,.nsl,.int .i64 (0:Int)])],1⟩
def Md:T ((Bool)⊕(cO)) :=
  .leaf (.inl false)
def Me:List Code:=dd (wF (((uu.drop 1)).headD .skip))
def QF(c:Lv)(a:Nat)(d:List Bool)(e:List (List Int))(f:List Int)(g:Lv)(b:Nat)(h:List Bool)(i:List (List Int))(j:List Int)(k:Bool)(l:Bool) :aC:=⟨aj 51 [(0,.imm c (.cols a [.cb d,.cns .u64 e,.ci .i64 f]) 3 3 0 a),(1,.imm g (.cols b [.cb h,.cns .u64 i,.ci .i64 j]) 3 3 0 b),(4,.ptr 0 1 0 0),(6,.ptr 1 1 0 0),(7,.int .i64 (0:Int)),(18,.int .i64 ((a:Nat):Int)),(19,.int .i64 (0:Int))],[(0,.vs [.bool false k,.nsl,.int .i64 (0:Int)]),(1,.vs [.bool false l,.nsl,.int .i64 (0:Int)])],2⟩
def Mf(a:Nat)(b:Nat) :T ((Bool)⊕(cO)) :=
  .ask (((a:Nat):Int) != ((b:Nat):Int))
    (.leaf (.inr (.r0 2 false ([]:List Int) 0 0 (0:Int))))
    (.leaf (.inl false))
def rG(c:Lv)(a:Nat)(d:List Bool)(e:List (List Int))(f:List Int)(g:Lv)(b:Nat)(h:List Bool)(i:List (List Int))(j:List Int)(k:Bool) :Nat×Nat×Bool×(List Int)×Nat×Nat×Int→aC:=fun (l,m,n,o,p,q,r)=>⟨aj 51 [(0,.imm c (.cols a [.cb d,.cns .u64 e,.ci .i64 f]) 3 3 0 a),(1,.imm g (.cols b [.cb h,.cns .u64 i,.ci .i64 j]) 3 3 0 b),(4,.ptr 0 1 0 0),(6,.ptr 1 1 0 0),(7,.int .i64 ((l:Nat):Int)),(18,.int .i64 ((a:Nat):Int)),(19,.int .i64 ((m:Nat):Int))],[(0,.vs [.bool false k,.nsl,.int .i64 (0:Int)]),(1,.vs [.bool false n,.imm .free (.ns .u64 o) 1 1 p q,.int .i64 r])],2⟩
def AB(a:Bool) :Nat×Bool×(List Int)×Nat×Nat×Int→aC:=fun (b,c,d,e,f,g)=>⟨aj 51 [(4,.ptr 0 1 0 0),(6,.ptr 1 1 0 0),(7,.int .i64 ((b:Nat):Int))],[(0,.vs [.bool false a,.nsl,.int .i64 (0:Int)]),(1,.vs [.bool false c,.imm .free (.ns .u64 d) 1 1 e f,.int .i64 g])],2⟩
def Mg:List Code:=dd (fy ((((Me.drop 5).take 1)).headD .skip))
def Mh(c:Lv)(a:Nat)(d:List Bool)(e:List (List Int))(f:List Int)(g:Lv)(b:Nat)(h:List Bool)(i:List (List Int))(j:List Int)(k:Bool)(l:Nat) :Nat×Bool×(List Int)×Nat×Nat×Int→aC:=fun (m,n,o,p,q,r)=>⟨aj 51 [(0,.imm c (.cols a [.cb d,.cns .u64 e,.ci .i64 f]) 3 3 0 a),(1,.imm g (.cols b [.cb h,.cns .u64 i,.ci .i64 j]) 3 3 0 b),(4,.ptr 0 1 0 0),(6,.ptr 1 1 0 0),(7,.int .i64 ((m:Nat):Int)),(18,.int .i64 ((a:Nat):Int)),(19,.int .i64 ((l:Nat):Int))],[(0,.vs [.bool false k,.nsl,.int .i64 (0:Int)]),(1,.vs [.bool false n,.imm .free (.ns .u64 o) 1 1 p q,.int .i64 r])],2⟩
def Mi(m:Nat)(d:List Bool)(b:List (List Int))(e:List Int)(n:Nat)(f:List Bool)(c:List (List Int))(g:List Int)(o:Nat)(a:Nat)(k:Bool)(h:List Int)(i:Nat)(j:Nat)(l:Int) :T ((Nat×Bool×(List Int)×Nat×Nat×Int)⊕((Nat×Bool×(List Int)×Nat×Nat×Int)⊕(cO))) :=
  .ask (decide (((a:Nat):Int)<((m:Nat):Int)))
    (.need (fu ((a:Nat):Int) m)<|.need (fW a (List.length d))<|.need (fW a (List.length b))<|.need (fW a (List.length e))<|.need (fu ((a:Nat):Int) n)<|.need (fW a (List.length f))<|.need (fW a (List.length c))<|.need (fW a (List.length g))<|.need (aI 0 (List.length (List.getD b a [])) (List.getD b a []))<|.need (aI 0 (List.length (List.getD c a [])) (List.getD c a []))<|.need (jx (ag (List.getD d a false) (aa 0 (List.length (List.getD b a [])) (List.getD b a [])) (List.getD e a 0) (List.getD f a false) (aa 0 (List.length (List.getD c a [])) (List.getD c a [])) (List.getD g a 0)))<|.ask ((((gK (ag (List.getD d a false) (aa 0 (List.length (List.getD b a [])) (List.getD b a [])) (List.getD e a 0) (List.getD f a false) (aa 0 (List.length (List.getD c a [])) (List.getD c a [])) (List.getD g a 0))):Nat):Int) != (0:Int))
      (.leaf (.inr (.inl ((gK (ag (List.getD d a false) (aa 0 (List.length (List.getD b a [])) (List.getD b a [])) (List.getD e a 0) (List.getD f a false) (aa 0 (List.length (List.getD c a [])) (List.getD c a [])) (List.getD g a 0))),k,h,i,j,l))))
      (.need (aI i j h)<|.need (aI (bm (ag (List.getD d a false) (aa 0 (List.length (List.getD b a [])) (List.getD b a [])) (List.getD e a 0) (List.getD f a false) (aa 0 (List.length (List.getD c a [])) (List.getD c a [])) (List.getD g a 0))) (bn (ag (List.getD d a false) (aa 0 (List.length (List.getD b a [])) (List.getD b a [])) (List.getD e a 0) (List.getD f a false) (aa 0 (List.length (List.getD c a [])) (List.getD c a [])) (List.getD g a 0))) (bk (ag (List.getD d a false) (aa 0 (List.length (List.getD b a [])) (List.getD b a [])) (List.getD e a 0) (List.getD f a false) (aa 0 (List.length (List.getD c a [])) (List.getD c a [])) (List.getD g a 0))))<|.need (oX (bR k (aa i j h) l (bA (ag (List.getD d a false) (aa 0 (List.length (List.getD b a [])) (List.getD b a [])) (List.getD e a 0) (List.getD f a false) (aa 0 (List.length (List.getD c a [])) (List.getD c a [])) (List.getD g a 0))) (aa (bm (ag (List.getD d a false) (aa 0 (List.length (List.getD b a [])) (List.getD b a [])) (List.getD e a 0) (List.getD f a false) (aa 0 (List.length (List.getD c a [])) (List.getD c a [])) (List.getD g a 0))) (bn (ag (List.getD d a false) (aa 0 (List.length (List.getD b a [])) (List.getD b a [])) (List.getD e a 0) (List.getD f a false) (aa 0 (List.length (List.getD c a [])) (List.getD c a [])) (List.getD g a 0))) (bk (ag (List.getD d a false) (aa 0 (List.length (List.getD b a [])) (List.getD b a [])) (List.getD e a 0) (List.getD f a false) (aa 0 (List.length (List.getD c a [])) (List.getD c a [])) (List.getD g a 0)))) (bB (ag (List.getD d a false) (aa 0 (List.length (List.getD b a [])) (List.getD b a [])) (List.getD e a 0) (List.getD f a false) (aa 0 (List.length (List.getD c a [])) (List.getD c a [])) (List.getD g a 0)))))<|.ask ((((jc (bR k (aa i j h) l (bA (ag (List.getD d a false) (aa 0 (List.length (List.getD b a [])) (List.getD b a [])) (List.getD e a 0) (List.getD f a false) (aa 0 (List.length (List.getD c a [])) (List.getD c a [])) (List.getD g a 0))) (aa (bm (ag (List.getD d a false) (aa 0 (List.length (List.getD b a [])) (List.getD b a [])) (List.getD e a 0) (List.getD f a false) (aa 0 (List.length (List.getD c a [])) (List.getD c a [])) (List.getD g a 0))) (bn (ag (List.getD d a false) (aa 0 (List.length (List.getD b a [])) (List.getD b a [])) (List.getD e a 0) (List.getD f a false) (aa 0 (List.length (List.getD c a [])) (List.getD c a [])) (List.getD g a 0))) (bk (ag (List.getD d a false) (aa 0 (List.length (List.getD b a [])) (List.getD b a [])) (List.getD e a 0) (List.getD f a false) (aa 0 (List.length (List.getD c a [])) (List.getD c a [])) (List.getD g a 0)))) (bB (ag (List.getD d a false) (aa 0 (List.length (List.getD b a [])) (List.getD b a [])) (List.getD e a 0) (List.getD f a false) (aa 0 (List.length (List.getD c a [])) (List.getD c a [])) (List.getD g a 0))))):Nat):Int) != (0:Int))
        (.leaf (.inr (.inl ((jc (bR k (aa i j h) l (bA (ag (List.getD d a false) (aa 0 (List.length (List.getD b a [])) (List.getD b a [])) (List.getD e a 0) (List.getD f a false) (aa 0 (List.length (List.getD c a [])) (List.getD c a [])) (List.getD g a 0))) (aa (bm (ag (List.getD d a false) (aa 0 (List.length (List.getD b a [])) (List.getD b a [])) (List.getD e a 0) (List.getD f a false) (aa 0 (List.length (List.getD c a [])) (List.getD c a [])) (List.getD g a 0))) (bn (ag (List.getD d a false) (aa 0 (List.length (List.getD b a [])) (List.getD b a [])) (List.getD e a 0) (List.getD f a false) (aa 0 (List.length (List.getD c a [])) (List.getD c a [])) (List.getD g a 0))) (bk (ag (List.getD d a false) (aa 0 (List.length (List.getD b a [])) (List.getD b a [])) (List.getD e a 0) (List.getD f a false) (aa 0 (List.length (List.getD c a [])) (List.getD c a [])) (List.getD g a 0)))) (bB (ag (List.getD d a false) (aa 0 (List.length (List.getD b a [])) (List.getD b a [])) (List.getD e a 0) (List.getD f a false) (aa 0 (List.length (List.getD c a [])) (List.getD c a [])) (List.getD g a 0))))),(kr (bR k (aa i j h) l (bA (ag (List.getD d a false) (aa 0 (List.length (List.getD b a [])) (List.getD b a [])) (List.getD e a 0) (List.getD f a false) (aa 0 (List.length (List.getD c a [])) (List.getD c a [])) (List.getD g a 0))) (aa (bm (ag (List.getD d a false) (aa 0 (List.length (List.getD b a [])) (List.getD b a [])) (List.getD e a 0) (List.getD f a false) (aa 0 (List.length (List.getD c a [])) (List.getD c a [])) (List.getD g a 0))) (bn (ag (List.getD d a false) (aa 0 (List.length (List.getD b a [])) (List.getD b a [])) (List.getD e a 0) (List.getD f a false) (aa 0 (List.length (List.getD c a [])) (List.getD c a [])) (List.getD g a 0))) (bk (ag (List.getD d a false) (aa 0 (List.length (List.getD b a [])) (List.getD b a [])) (List.getD e a 0) (List.getD f a false) (aa 0 (List.length (List.getD c a [])) (List.getD c a [])) (List.getD g a 0)))) (bB (ag (List.getD d a false) (aa 0 (List.length (List.getD b a [])) (List.getD b a [])) (List.getD e a 0) (List.getD f a false) (aa 0 (List.length (List.getD c a [])) (List.getD c a [])) (List.getD g a 0))))),(ku (bR k (aa i j h) l (bA (ag (List.getD d a false) (aa 0 (List.length (List.getD b a [])) (List.getD b a [])) (List.getD e a 0) (List.getD f a false) (aa 0 (List.length (List.getD c a [])) (List.getD c a [])) (List.getD g a 0))) (aa (bm (ag (List.getD d a false) (aa 0 (List.length (List.getD b a [])) (List.getD b a [])) (List.getD e a 0) (List.getD f a false) (aa 0 (List.length (List.getD c a [])) (List.getD c a [])) (List.getD g a 0))) (bn (ag (List.getD d a false) (aa 0 (List.length (List.getD b a [])) (List.getD b a [])) (List.getD e a 0) (List.getD f a false) (aa 0 (List.length (List.getD c a [])) (List.getD c a [])) (List.getD g a 0))) (bk (ag (List.getD d a false) (aa 0 (List.length (List.getD b a [])) (List.getD b a [])) (List.getD e a 0) (List.getD f a false) (aa 0 (List.length (List.getD c a [])) (List.getD c a [])) (List.getD g a 0)))) (bB (ag (List.getD d a false) (aa 0 (List.length (List.getD b a [])) (List.getD b a [])) (List.getD e a 0) (List.getD f a false) (aa 0 (List.length (List.getD c a [])) (List.getD c a [])) (List.getD g a 0))))),(kv (bR k (aa i j h) l (bA (ag (List.getD d a false) (aa 0 (List.length (List.getD b a [])) (List.getD b a [])) (List.getD e a 0) (List.getD f a false) (aa 0 (List.length (List.getD c a [])) (List.getD c a [])) (List.getD g a 0))) (aa (bm (ag (List.getD d a false) (aa 0 (List.length (List.getD b a [])) (List.getD b a [])) (List.getD e a 0) (List.getD f a false) (aa 0 (List.length (List.getD c a [])) (List.getD c a [])) (List.getD g a 0))) (bn (ag (List.getD d a false) (aa 0 (List.length (List.getD b a [])) (List.getD b a [])) (List.getD e a 0) (List.getD f a false) (aa 0 (List.length (List.getD c a [])) (List.getD c a [])) (List.getD g a 0))) (bk (ag (List.getD d a false) (aa 0 (List.length (List.getD b a [])) (List.getD b a [])) (List.getD e a 0) (List.getD f a false) (aa 0 (List.length (List.getD c a [])) (List.getD c a [])) (List.getD g a 0)))) (bB (ag (List.getD d a false) (aa 0 (List.length (List.getD b a [])) (List.getD b a [])) (List.getD e a 0) (List.getD f a false) (aa 0 (List.length (List.getD c a [])) (List.getD c a [])) (List.getD g a 0))))),(kw (bR k (aa i j h) l (bA (ag (List.getD d a false) (aa 0 (List.length (List.getD b a [])) (List.getD b a [])) (List.getD e a 0) (List.getD f a false) (aa 0 (List.length (List.getD c a [])) (List.getD c a [])) (List.getD g a 0))) (aa (bm (ag (List.getD d a false) (aa 0 (List.length (List.getD b a [])) (List.getD b a [])) (List.getD e a 0) (List.getD f a false) (aa 0 (List.length (List.getD c a [])) (List.getD c a [])) (List.getD g a 0))) (bn (ag (List.getD d a false) (aa 0 (List.length (List.getD b a [])) (List.getD b a [])) (List.getD e a 0) (List.getD f a false) (aa 0 (List.length (List.getD c a [])) (List.getD c a [])) (List.getD g a 0))) (bk (ag (List.getD d a false) (aa 0 (List.length (List.getD b a [])) (List.getD b a [])) (List.getD e a 0) (List.getD f a false) (aa 0 (List.length (List.getD c a [])) (List.getD c a [])) (List.getD g a 0)))) (bB (ag (List.getD d a false) (aa 0 (List.length (List.getD b a [])) (List.getD b a [])) (List.getD e a 0) (List.getD f a false) (aa 0 (List.length (List.getD c a [])) (List.getD c a [])) (List.getD g a 0))))),(kx (bR k (aa i j h) l (bA (ag (List.getD d a false) (aa 0 (List.length (List.getD b a [])) (List.getD b a [])) (List.getD e a 0) (List.getD f a false) (aa 0 (List.length (List.getD c a [])) (List.getD c a [])) (List.getD g a 0))) (aa (bm (ag (List.getD d a false) (aa 0 (List.length (List.getD b a [])) (List.getD b a [])) (List.getD e a 0) (List.getD f a false) (aa 0 (List.length (List.getD c a [])) (List.getD c a [])) (List.getD g a 0))) (bn (ag (List.getD d a false) (aa 0 (List.length (List.getD b a [])) (List.getD b a [])) (List.getD e a 0) (List.getD f a false) (aa 0 (List.length (List.getD c a [])) (List.getD c a [])) (List.getD g a 0))) (bk (ag (List.getD d a false) (aa 0 (List.length (List.getD b a [])) (List.getD b a [])) (List.getD e a 0) (List.getD f a false) (aa 0 (List.length (List.getD c a [])) (List.getD c a [])) (List.getD g a 0)))) (bB (ag (List.getD d a false) (aa 0 (List.length (List.getD b a [])) (List.getD b a [])) (List.getD e a 0) (List.getD f a false) (aa 0 (List.length (List.getD c a [])) (List.getD c a [])) (List.getD g a 0)))))))))
        (.leaf (.inl ((jc (bR k (aa i j h) l (bA (ag (List.getD d a false) (aa 0 (List.length (List.getD b a [])) (List.getD b a [])) (List.getD e a 0) (List.getD f a false) (aa 0 (List.length (List.getD c a [])) (List.getD c a [])) (List.getD g a 0))) (aa (bm (ag (List.getD d a false) (aa 0 (List.length (List.getD b a [])) (List.getD b a [])) (List.getD e a 0) (List.getD f a false) (aa 0 (List.length (List.getD c a [])) (List.getD c a [])) (List.getD g a 0))) (bn (ag (List.getD d a false) (aa 0 (List.length (List.getD b a [])) (List.getD b a [])) (List.getD e a 0) (List.getD f a false) (aa 0 (List.length (List.getD c a [])) (List.getD c a [])) (List.getD g a 0))) (bk (ag (List.getD d a false) (aa 0 (List.length (List.getD b a [])) (List.getD b a [])) (List.getD e a 0) (List.getD f a false) (aa 0 (List.length (List.getD c a [])) (List.getD c a [])) (List.getD g a 0)))) (bB (ag (List.getD d a false) (aa 0 (List.length (List.getD b a [])) (List.getD b a [])) (List.getD e a 0) (List.getD f a false) (aa 0 (List.length (List.getD c a [])) (List.getD c a [])) (List.getD g a 0))))),(kr (bR k (aa i j h) l (bA (ag (List.getD d a false) (aa 0 (List.length (List.getD b a [])) (List.getD b a [])) (List.getD e a 0) (List.getD f a false) (aa 0 (List.length (List.getD c a [])) (List.getD c a [])) (List.getD g a 0))) (aa (bm (ag (List.getD d a false) (aa 0 (List.length (List.getD b a [])) (List.getD b a [])) (List.getD e a 0) (List.getD f a false) (aa 0 (List.length (List.getD c a [])) (List.getD c a [])) (List.getD g a 0))) (bn (ag (List.getD d a false) (aa 0 (List.length (List.getD b a [])) (List.getD b a [])) (List.getD e a 0) (List.getD f a false) (aa 0 (List.length (List.getD c a [])) (List.getD c a [])) (List.getD g a 0))) (bk (ag (List.getD d a false) (aa 0 (List.length (List.getD b a [])) (List.getD b a [])) (List.getD e a 0) (List.getD f a false) (aa 0 (List.length (List.getD c a [])) (List.getD c a [])) (List.getD g a 0)))) (bB (ag (List.getD d a false) (aa 0 (List.length (List.getD b a [])) (List.getD b a [])) (List.getD e a 0) (List.getD f a false) (aa 0 (List.length (List.getD c a [])) (List.getD c a [])) (List.getD g a 0))))),(ku (bR k (aa i j h) l (bA (ag (List.getD d a false) (aa 0 (List.length (List.getD b a [])) (List.getD b a [])) (List.getD e a 0) (List.getD f a false) (aa 0 (List.length (List.getD c a [])) (List.getD c a [])) (List.getD g a 0))) (aa (bm (ag (List.getD d a false) (aa 0 (List.length (List.getD b a [])) (List.getD b a [])) (List.getD e a 0) (List.getD f a false) (aa 0 (List.length (List.getD c a [])) (List.getD c a [])) (List.getD g a 0))) (bn (ag (List.getD d a false) (aa 0 (List.length (List.getD b a [])) (List.getD b a [])) (List.getD e a 0) (List.getD f a false) (aa 0 (List.length (List.getD c a [])) (List.getD c a [])) (List.getD g a 0))) (bk (ag (List.getD d a false) (aa 0 (List.length (List.getD b a [])) (List.getD b a [])) (List.getD e a 0) (List.getD f a false) (aa 0 (List.length (List.getD c a [])) (List.getD c a [])) (List.getD g a 0)))) (bB (ag (List.getD d a false) (aa 0 (List.length (List.getD b a [])) (List.getD b a [])) (List.getD e a 0) (List.getD f a false) (aa 0 (List.length (List.getD c a [])) (List.getD c a [])) (List.getD g a 0))))),(kv (bR k (aa i j h) l (bA (ag (List.getD d a false) (aa 0 (List.length (List.getD b a [])) (List.getD b a [])) (List.getD e a 0) (List.getD f a false) (aa 0 (List.length (List.getD c a [])) (List.getD c a [])) (List.getD g a 0))) (aa (bm (ag (List.getD d a false) (aa 0 (List.length (List.getD b a [])) (List.getD b a [])) (List.getD e a 0) (List.getD f a false) (aa 0 (List.length (List.getD c a [])) (List.getD c a [])) (List.getD g a 0))) (bn (ag (List.getD d a false) (aa 0 (List.length (List.getD b a [])) (List.getD b a [])) (List.getD e a 0) (List.getD f a false) (aa 0 (List.length (List.getD c a [])) (List.getD c a [])) (List.getD g a 0))) (bk (ag (List.getD d a false) (aa 0 (List.length (List.getD b a [])) (List.getD b a [])) (List.getD e a 0) (List.getD f a false) (aa 0 (List.length (List.getD c a [])) (List.getD c a [])) (List.getD g a 0)))) (bB (ag (List.getD d a false) (aa 0 (List.length (List.getD b a [])) (List.getD b a [])) (List.getD e a 0) (List.getD f a false) (aa 0 (List.length (List.getD c a [])) (List.getD c a [])) (List.getD g a 0))))),(kw (bR k (aa i j h) l (bA (ag (List.getD d a false) (aa 0 (List.length (List.getD b a [])) (List.getD b a [])) (List.getD e a 0) (List.getD f a false) (aa 0 (List.length (List.getD c a [])) (List.getD c a [])) (List.getD g a 0))) (aa (bm (ag (List.getD d a false) (aa 0 (List.length (List.getD b a [])) (List.getD b a [])) (List.getD e a 0) (List.getD f a false) (aa 0 (List.length (List.getD c a [])) (List.getD c a [])) (List.getD g a 0))) (bn (ag (List.getD d a false) (aa 0 (List.length (List.getD b a [])) (List.getD b a [])) (List.getD e a 0) (List.getD f a false) (aa 0 (List.length (List.getD c a [])) (List.getD c a [])) (List.getD g a 0))) (bk (ag (List.getD d a false) (aa 0 (List.length (List.getD b a [])) (List.getD b a [])) (List.getD e a 0) (List.getD f a false) (aa 0 (List.length (List.getD c a [])) (List.getD c a [])) (List.getD g a 0)))) (bB (ag (List.getD d a false) (aa 0 (List.length (List.getD b a [])) (List.getD b a [])) (List.getD e a 0) (List.getD f a false) (aa 0 (List.length (List.getD c a [])) (List.getD c a [])) (List.getD g a 0))))),(kx (bR k (aa i j h) l (bA (ag (List.getD d a false) (aa 0 (List.length (List.getD b a [])) (List.getD b a [])) (List.getD e a 0) (List.getD f a false) (aa 0 (List.length (List.getD c a [])) (List.getD c a [])) (List.getD g a 0))) (aa (bm (ag (List.getD d a false) (aa 0 (List.length (List.getD b a [])) (List.getD b a [])) (List.getD e a 0) (List.getD f a false) (aa 0 (List.length (List.getD c a [])) (List.getD c a [])) (List.getD g a 0))) (bn (ag (List.getD d a false) (aa 0 (List.length (List.getD b a [])) (List.getD b a [])) (List.getD e a 0) (List.getD f a false) (aa 0 (List.length (List.getD c a [])) (List.getD c a [])) (List.getD g a 0))) (bk (ag (List.getD d a false) (aa 0 (List.length (List.getD b a [])) (List.getD b a [])) (List.getD e a 0) (List.getD f a false) (aa 0 (List.length (List.getD c a [])) (List.getD c a [])) (List.getD g a 0)))) (bB (ag (List.getD d a false) (aa 0 (List.length (List.getD b a [])) (List.getD b a [])) (List.getD e a 0) (List.getD f a false) (aa 0 (List.length (List.getD c a [])) (List.getD c a [])) (List.getD g a 0))))))))))
    (.leaf (.inr (.inl (o,k,h,i,j,l))))
def Mj(a:Nat)(b:Nat)(c:Bool)(d:List Int)(e:Nat)(f:Nat)(g:Int) :T ((Nat×Nat×Bool×(List Int)×Nat×Nat×Int)⊕((Nat×Bool×(List Int)×Nat×Nat×Int)⊕(cO))) :=
  .need (dW .i64 (((a+1):Nat):Int))<|.leaf (.inl (b,(a+1),c,d,e,f,g))
def uv(b:Nat)(c:List Bool)(d:List (List Int))(e:List Int)(f:Nat)(g:List Bool)(h:List (List Int))(i:List Int) :Nat×Nat×Bool×(List Int)×Nat×Nat×Int→Option ((Nat×Nat×Bool×(List Int)×Nat×Nat×Int)⊕((Nat×Bool×(List Int)×Nat×Nat×Int)⊕(cO))):=fun (j,a,k,l,m,n,o) =>
  aO ((Mi b c d e f g h i j a k l m n o).run) fun (p,q,r,s,t,u) =>
  (Mj a p q r s t u).run
theorem Mk(j:Lv)(a:Nat)(b:List Bool)(c:List (List Int))(d:List Int)(k:Lv)(e:Nat)(f:List Bool)(g:List (List Int))(h:List Int)(i:Bool)(m:Nat)(l:Nat)(n:Bool)(o:List Int)(p:Nat)(q:Nat)(r:Int) :Sg prog [] Mg (rG j a b c d k e f g h i (m,l,n,o,p,q,r)) (uv a b c d e f g h (m,l,n,o,p,q,r)) (rG j a b c d k e f g h i) (dR 0 (AB i) ut):=by
  unfold uv;exact Sg.cut 3 (bb lX) (br gl (Mh j a b c d k e f g h i l) [⟨[],[0,1],[4,6,7]⟩,⟨[],[0,1],[4,6,7]⟩,⟨[],[0,1],[0,1,4,6,7,18,19]⟩,⟨[],[0,1],[4,6,7]⟩]) (fun ⟨s,t,u,v,w,x⟩=>br gl (rG j a b c d k e f g h i) [⟨[],[0,1],[0,1,4,6,7,18,19]⟩])
def Ml(a:Nat)(b:Bool)(c:List Int)(d:Nat)(e:Nat)(f:Int) :T ((Empty)⊕(cO)) :=
  .ask (((a:Nat):Int) != (0:Int))
    (.leaf (.inr (.r0 a false ([]:List Int) 0 0 (0:Int))))
    (.leaf (.inr (.r0 0 b c d e f)))
def bS(a:Nat)(c:List Bool)(d:List (List Int))(e:List Int)(b:Nat)(f:List Bool)(g:List (List Int))(h:List Int) :Option cO:=mz (aO ((Md).run) fun p =>
  aO ((Mf a b).run) fun i =>
  aO (gR (uv a c d e b f g h) (0,0,i,([]:List Int),0,0,(0:Int))) fun (j,k,l,m,n,o) =>
  (Ml j k l m n o).run)
theorem QG(j:Lv)(a:Nat)(c:List Bool)(d:List (List Int))(e:List Int)(k:Lv)(b:Nat)(f:List Bool)(g:List (List Int))(i:List Int){x:cO}(h:bS a c d e b f g i=some x) :af prog tp [] [.imm j (.cols a [.cb c,.cns .u64 d,.ci .i64 e]) 3 3 0 a,.imm k (.cols b [.cb f,.cns .u64 g,.ci .i64 i]) 3 3 0 b] (yA x) :=
  ny true yA ut h (Sg.cut 1 lX (br gl (QE j a c d e k b f g i) [⟨[],[0],[0,1,4]⟩]) (fun l=>ye (by kernel_rfl:(uu.drop 1)=[.scope (wF (((uu.drop 1)).headD .skip))]) lX (Sg.cut 5 lX (br gl (QF j a c d e k b f g i l) [⟨[(.cell 0 1,.fre 1 1 (.ns .u64 ([]:List Int)))],[0],[4,5]⟩,⟨[],[0,81],[0,1,4,6,7,18,19]⟩]) (fun A=>Sg.cut 1 lX (GD ⟨[(.cell 1 1,.fre 1 1 (.ns .u64 ([]:List Int)))],[0,1],[0,1,4,6,7,18,19]⟩ (rG j a c d e k b f g i l) (AB l) 0 lX (QD _) (fun ⟨m,n,o,p,q,r,s⟩=>Mk j a c d e k b f g i l m n o p q r s)) (fun ⟨B,C,D,E,F,G⟩=>br gl mU [⟨[(.cell 0 1,.fre 1 1 (.ns .u64 ([]:List Int)))],[0],[4,5]⟩,⟨[],[0],[4,5]⟩])))))
    (fun x=>by cases x with | r0 t u v w y z=>exact mb [.agg [.bool false u,.imm .free (.ns .u64 v) 1 1 w y,.int .i64 z],.int .i64 ((t:Nat):Int)])
def lY:Option cO→Bool
  | some _=>true
  | none=>false
def kB:Option cO→Nat
  | some (.r0 x _ _ _ _ _)=>x
  | _=>0
def kC:Option cO→Bool
  | some (.r0 _ x _ _ _ _)=>x
  | _=>false
def kD:Option cO→List Int
  | some (.r0 _ _ x _ _ _)=>x
  | _=>[]
def kE:Option cO→Nat
  | some (.r0 _ _ _ x _ _)=>x
  | _=>0
def kF:Option cO→Nat
  | some (.r0 _ _ _ _ x _)=>x
  | _=>0
def kG:Option cO→Int
  | some (.r0 _ _ _ _ _ x)=>x
  | _=>0
theorem QH{x:Option cO}(h:lY x=true) :x=some (.r0 (kB x) (kC x) (kD x) (kE x) (kF x) (kG x)):=by
  unfold lY at h
  split at h<;>first | rfl | (cases h;done) | (rename_i y;cases y;rfl)
def Gd:aw:=ca tp (.cons (.cols [.cb,.cns .u64,.ci .i64]) (.cons (.cols [.cb,.cns .u64,.ci .i64]) .nil)) fun t=>(fun q=>[⟨yA (.r0 (kB q) (kC q) (kD q) (kE q) (kF q) (kG q)),[lY q]⟩]) (bS t.1.2.1 t.1.2.2.1 t.1.2.2.2.1 t.1.2.2.2.2.1 t.2.1.2.1 t.2.1.2.2.1 t.2.1.2.2.2.1 t.2.1.2.2.2.2.1)
theorem Iz:aM prog Gd:=aP fun t=>(aQ (fun h=>QG t.1.1 t.1.2.1 t.1.2.2.1 t.1.2.2.2.1 t.1.2.2.2.2.1 t.2.1.1 t.2.1.2.1 t.2.1.2.2.1 t.2.1.2.2.2.1 t.2.1.2.2.2.2.1 (QH h)) aZ)
def Ge:List aw:=Gd::AA
theorem sn:aG prog (aD Ge):=ap Iz gl
inductive bW where
  | r0 (a:Nat) (b:Bool) (c:List Int) (d:Nat) (e:Nat) (f:Int)
def vW:bW→AE×aC
  | .r0 a b c d e f=>(.ret,⟨aj 9 [(2,.ptr 0 1 0 0),(3,.int .i64 ((a:Nat):Int))],[(0,.vs [.bool false b,.imm .free (.ns .u64 c) 1 1 d e,.int .i64 f])],1⟩)
theorem Di:jU vW:=by intro x;cases x<;>(intro h;cases h)
def qS:bW→fZ
  | .r0 a b c d e f=>⟨.tup [.agg [.bool false b,.imm .free (.ns .u64 c) 1 1 d e,.int .i64 f],.int .i64 ((a:Nat):Int)],[]⟩
def Dj:Nat×Bool×(List Int)×Nat×Nat×Int→aC:=fun (a,b,c,d,e,f)=>⟨aj 9 [(2,.ptr 0 1 0 0),(3,.int .i64 ((a:Nat):Int))],[(0,.vs [.bool false b,.imm .free (.ns .u64 c) 1 1 d e,.int .i64 f])],1⟩
def Dk(a:Nat)(b:List Bool)(c:List (List Int))(d:List Int) :T ((Nat×Bool×(List Int)×Nat×Nat×Int)⊕(bW)) :=
  .need (Nat.ble (0+a) a)<|.need (Nat.ble (0+a) a)<|.need (lY (bS a (aa 0 a b) (aa 0 a c) (aa 0 a d) a (aa 0 a b) (aa 0 a c) (aa 0 a d)))<|.leaf (.inl ((kB (bS a (aa 0 a b) (aa 0 a c) (aa 0 a d) a (aa 0 a b) (aa 0 a c) (aa 0 a d))),(kC (bS a (aa 0 a b) (aa 0 a c) (aa 0 a d) a (aa 0 a b) (aa 0 a c) (aa 0 a d))),(kD (bS a (aa 0 a b) (aa 0 a c) (aa 0 a d) a (aa 0 a b) (aa 0 a c) (aa 0 a d))),(kE (bS a (aa 0 a b) (aa 0 a c) (aa 0 a d) a (aa 0 a b) (aa 0 a c) (aa 0 a d))),(kF (bS a (aa 0 a b) (aa 0 a c) (aa 0 a d) a (aa 0 a b) (aa 0 a c) (aa 0 a d))),(kG (bS a (aa 0 a b) (aa 0 a c) (aa 0 a d) a (aa 0 a b) (aa 0 a c) (aa 0 a d)))))
def Dl(a:Nat)(b:Bool)(c:List Int)(d:Nat)(e:Nat)(f:Int) :T ((Empty)⊕(bW)) :=
  .leaf (.inr (.r0 a b c d e f))
def aX(a:Nat)(b:List Bool)(c:List (List Int))(d:List Int) :Option bW:=mz (aO ((Dk a b c d).run) fun (e,f,g,h,i,j) =>
  (Dl e f g h i j).run)
theorem Dm(e:Lv)(a:Nat)(b:List Bool)(c:List (List Int))(d:List Int){x:bW}(h:aX a b c d=some x) :af prog qG [] [.imm e (.cols a [.cb b,.cns .u64 c,.ci .i64 d]) 3 3 0 a] (qS x) :=
  ny true qS vW h (Sg.cut 2 Di (br sn Dj [⟨[],[0],[2,3]⟩]) (fun ⟨m,n,o,p,q,r⟩=>br sn mU [⟨[],[0],[2,3]⟩]))
    (fun x=>by cases x with | r0 f g i j k l=>exact mb [.agg [.bool false g,.imm .free (.ns .u64 i) 1 1 j k,.int .i64 l],.int .i64 ((f:Nat):Int)])
def gn:Option bW→Bool
  | some _=>true
  | none=>false
def gz:Option bW→Nat
  | some (.r0 x _ _ _ _ _)=>x
  | _=>0
def gA:Option bW→Bool
  | some (.r0 _ x _ _ _ _)=>x
  | _=>false
def gB:Option bW→List Int
  | some (.r0 _ _ x _ _ _)=>x
  | _=>[]
def gC:Option bW→Nat
  | some (.r0 _ _ _ x _ _)=>x
  | _=>0
def gD:Option bW→Nat
  | some (.r0 _ _ _ _ x _)=>x
  | _=>0
def gE:Option bW→Int
  | some (.r0 _ _ _ _ _ x)=>x
  | _=>0
theorem Dn{x:Option bW}(h:gn x=true) :x=some (.r0 (gz x) (gA x) (gB x) (gC x) (gD x) (gE x)):=by
  unfold gn at h
  split at h<;>first | rfl | (cases h;done) | (rename_i y;cases y;rfl)
def vX:aw:=ca qG (.cons (.cols [.cb,.cns .u64,.ci .i64]) .nil) fun t=>(fun q=>[⟨qS (.r0 (gz q) (gA q) (gB q) (gC q) (gD q) (gE q)),[gn q]⟩]) (aX t.1.2.1 t.1.2.2.1 t.1.2.2.2.1 t.1.2.2.2.2.1)
theorem AC:aM prog vX:=aP fun t=>(aQ (fun h=>Dm t.1.1 t.1.2.1 t.1.2.2.1 t.1.2.2.2.1 t.1.2.2.2.2.1 (Dn h)) aZ)
def vY:List aw:=vX::Ge
theorem ji:aG prog (aD vY):=ap AC sn
end
end Go.Plb.Seat
