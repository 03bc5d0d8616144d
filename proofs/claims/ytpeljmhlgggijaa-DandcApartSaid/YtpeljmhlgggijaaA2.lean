/-
  Part 2 of what the claim leans on: an evaluator of the model, proved sound; the contracts of the functions.
-/
import GoSem.Extern.MathSqrt
import GoSem.Extern.MathFloatBits
import GoSem.Extern.MathBitsCarry
import Derived.LoopN
import Derived.Scope
import Derived.Laws.Externs
import Derived.WalkKit
import Derived.ProofKit
import Derived.OpenShut
import Derived.Deep.Slices
import Derived.Test.YtpeljmhlgggijaaChecked
import Derived.KernelRfl
import Derived.Test.YtpeljmhlgggijaaA1
namespace Go.Plb
set_option linter.unusedSimpArgs false
set_option linter.unusedVariables false
set_option linter.unusedSectionVars false
variable [Rom]
inductive Lu where
  | sqrt | bits | frombits | add64 | sub64
def J5:Lu→Array Value→Sem Value
  | .sqrt=>Extern.MathSqrt.sqrt
  | .bits=>Extern.MathFloatBits.float64bits
  | .frombits=>Extern.MathFloatBits.float64frombits
  | .add64=>fun args=>do
    let (x, y, c) ← Extern.MathBitsCarry.three "Add64" args
    pure (Extern.MathBitsCarry.pair ((x+y+c)%Extern.MathBitsCarry.m64) ((x+y+c)/Extern.MathBitsCarry.m64))
  | .sub64=>fun args=>do
    let (x, y, b) ← Extern.MathBitsCarry.three "Sub64" args
    pure (Extern.MathBitsCarry.pair ((x+Extern.MathBitsCarry.m64-y-b)%Extern.MathBitsCarry.m64) (if x<y+b then 1 else 0))
def WY(k:Lu)(args:List AV) :List Lt :=
  match k,args with
  | .sqrt,[.flt _ x]=>[⟨.flt false (Eh x),[],[]⟩]
  | .bits,[.flt true x]=>[⟨.int .u64 x,[],[]⟩]
  | .bits,[.flt false x]=>[⟨.int .u64 x,[],[!isNaN x]⟩,⟨.nan,[],[isNaN x]⟩]
  | .frombits,[.int .u64 n]=>[⟨.flt true n.toNat,[],[]⟩]
  | .add64,[.int _ x,.int _ y,.int _ c]=>[⟨.tup [.int .u64 (((x.toNat+y.toNat+c.toNat)%18446744073709551616:Nat):Int),.int .u64 (((x.toNat+y.toNat+c.toNat)/18446744073709551616:Nat):Int)],[],[kj c.toNat 1]⟩]
  | .sub64,[.int _ x,.int _ y,.int _ c]=>[⟨.tup [.int .u64 (((x.toNat+18446744073709551616-y.toNat-c.toNat)%18446744073709551616:Nat):Int),.int .u64 (bif Nat.blt x.toNat (y.toNat+c.toNat) then 1 else 0)],[],[kj c.toNat 1]⟩]
  | _,_=>[]
abbrev nO:=Option (List Nat)
structure UR where
  mask:List Bool
  keep:Bool
abbrev lR:=FuncId→List ba→List AV→nO→Option (rU×List Bool×nO)
structure It where
  P:Program
  ext:FuncId→Option Lu
  mode:FuncId→UR
  wrap:Bool
structure It.Ok (C:It):Prop where
  mixed:C.P.follows .mixedOrders=true
  enter:∀ (f:FuncId) (fn:Func) (args:Array Value) (w:World),C.P.funcs[f]? = some fn→fn.body.isSome=true→(callFunc f args).run C.P w=.ok (.enter f args) w
  ext:∀ (f:FuncId) (k:Lu) (args:Array Value) (w:World),C.ext f=some k→(callFunc f args).run C.P w=(do pure (Next.value (←J5 k args)):Sem Next).run C.P w
def MW(P:Program)(run:lR) :Prop :=
  ∀ f lent args p r obs p',run f lent args p=some (r,obs,p')→aY obs→∀ (ρ:aH) (w:World) (us:List Value),vN ρ w lent→jk ρ w args us →
    (∃ fn,P.funcs[f]? = some fn∧fn.body.isSome=true)∧Calls P f us.toArray w fun e w'=>∃ u,e=.returned u∧rc ρ.live w w'∧r.Holds ρ w w' lent.length u
structure Xn where
  v:AV
  sets:List (Nat×Option ba)
  reads:List Nat
  obs:List Bool
  path:nO
def TT:List Bool→Bool
  | []=>true
  | b::l=>b&&TT l
theorem Pq:∀ {l:List Bool},TT l=true→aY l
  | [],_=>trivial
  | b::l,h=>by simp only [TT,Bool.and_eq_true] at h;exact ⟨h.1,Pq h.2⟩
def Mt(alts:List Lt)(p:nO) :Option (Lt×nO) :=
  match alts,p with
  | [a],p=>some (a,p)
  | alts,none=>(alts.find? fun a=>TT a.obs).map fun a=>(a,none)
  | alts,some (k::r)=>(alts[k]?).map fun a=>(a,some r)
  | _,_=>none
theorem K4{alts:List Lt}{p p':nO}{a:Lt}(h:Mt alts p=some (a,p')) :a∈alts:=by
  unfold Mt at h
  split at h
  · simp only [Option.some.injEq,Prod.mk.injEq] at h;rw [←h.1];simp
  · simp only [Option.map_eq_some_iff,Prod.mk.injEq] at h;obtain ⟨b,h1,rfl,_⟩:=h;exact List.mem_of_find?_eq_some h1
  · simp only [Option.map_eq_some_iff,Prod.mk.injEq] at h;obtain ⟨b,h1,rfl,_⟩:=h;exact List.mem_of_getElem? h1
  · cases h
def pb:Nat:=100000
mutual
def P8:AV→List Nat
  | .ptr b ..=>[b]
  | .sl b ..=>[b]
  | .fn _ l1 l2=>pT l1++pT l2
  | .agg l | .tup l=>pT l
  | .iface _ v=>P8 v
  | _=>[]
def pT:List AV→List Nat
  | []=>[]
  | v::l=>P8 v++pT l
end
def V2:ba→List Nat
  | .vs l=>pT l
  | _=>[]
def DQ:List Nat→Nat→Bool
  | [],_=>false
  | k::l,b=>bif Nat.beq k b then true else DQ l b
def uA(g:Nat→Option ba) :Nat→List Nat→List Nat→List Nat
  | 0,_,acc=>acc
  | _+1,[],acc=>acc
  | n+1,b::t,acc=>match DQ acc b with
    | true=>uA g n t acc
    | false=>uA g n ((match g b with | some d=>V2 d | none=>[])++t) (acc++[b])
def v6:List Bool→List AV→List AV
  | true::m,v::l=>v::v6 m l
  | false::m,_::l=>v6 m l
  | _,_=>[]
def rh(σ:Nat→Option Nat)(g:Nat→Option ba) :List Bool→List AV→List AV×List Nat
  | _,[]=>([],[])
  | true::m,v::l=>let s:=rh σ g m l;(Ms σ v::s.1,s.2)
  | false::m,v::l=>let r:=J3 σ g pb v;let s:=rh σ g m l;(r.1::s.1,r.2++s.2)
  | [],v::l=>let r:=J3 σ g pb v;let s:=rh σ g [] l;(r.1::s.1,r.2++s.2)
theorem Bq{ρ τ:aH}{w:World}{h:fj}{m:Nat}{σ:Nat→Option Nat}(hh:HR ρ w h m)(L:Rk ρ τ w h σ) :∀ (k:List Bool) {l:List AV} {c:List Value},jk ρ w l c→jk τ w (rh σ (bQ h) k l).1 c
  | k,[],c,hv=>by cases hv;cases k<;>exact .nil
  | true::k,v::l,c,hv=>by cases hv with | cons _ u _ c' h1 h2=>exact .cons _ _ _ _ (ut L h1) (Bq hh L k h2)
  | false::k,v::l,c,hv=>by cases hv with | cons _ u _ c' h1 h2=>exact .cons _ _ _ _ (P6 hh L _ h1) (Bq hh L k h2)
  | [],v::l,c,hv=>by cases hv with | cons _ u _ c' h1 h2=>exact .cons _ _ _ _ (P6 hh L _ h1) (Bq hh L [] h2)
def DR:List Nat→Bool
  | []=>true
  | k::l=>bif DQ l k then false else DR l
def v7(g:Nat→Option ba)(nid:Nat) :List Nat→Bool
  | []=>true
  | b::l=>(match g b with | some _=>Nat.blt b nid||Nat.ble (nid+yx) b | none=>false)&&v7 g nid l
theorem Iu:∀ {l:List Nat} {i b:Nat},l[i]? = some b→DQ l b=true
  | [],i,b,h=>by simp at h
  | k::l,0,b,h=>by simp at h;subst h;simp [DQ,xu]
  | k::l,i+1,b,h=>by
    simp only [DQ]
    cases Nat.beq k b with
    | true=>rfl
    | false=>simp only [cond_false];exact Iu (i:=i) (by simpa using h)
theorem DS:∀ {l:List Nat},DR l=true→∀ {i j b:Nat},l[i]? = some b→l[j]? = some b→i=j
  | [],_,i,j,b,h1,_=>by simp at h1
  | k::l,hn,i,j,b,h1,h2=>by
    simp only [DR] at hn
    cases e:DQ l k with
    | true=>rw [e] at hn;cases hn
    | false =>
      rw [e] at hn;simp only [cond_false] at hn
      cases i with
      | zero =>
        cases j with
        | zero=>rfl
        | succ j=>simp at h1 h2;subst h1;rw [Iu h2] at e;cases e
      | succ i =>
        cases j with
        | zero=>simp at h1 h2;subst h2;rw [Iu h1] at e;cases e
        | succ j=>have:=DS hn (i:=i) (j:=j) (b:=b) (by simpa using h1) (by simpa using h2);omega
theorem BH{g:Nat→Option ba}{nid:Nat} :∀ {l:List Nat},v7 g nid l=true→∀ b,b∈l→(∃ d,g b=some d)∧(b<nid∨nid+yx≤b)
  | [],_,b,hb=>by cases hb
  | k::l,h,b,hb=>by
    simp only [v7,Bool.and_eq_true] at h
    rcases List.mem_cons.1 hb with rfl | q
    · have:=h.1
      cases e:g b with
      | none=>rw [e] at this;cases this
      | some d =>
        rw [e] at this
        simp only [Bool.or_eq_true] at this
        refine ⟨⟨d,rfl⟩,this.imp (fun q=>by simpa [Nat.blt_eq] using q) (fun q=>Nat.le_of_ble_eq_true q)⟩
    · exact BH h.2 b q
def I4(e:Operand→AV)(f:Operand)(args:Array Operand) :Option (FuncId×List AV) :=
  match e f with
  | .fn (.func fid) first caps=>some (fid,first++args.toList.map e++caps)
  | _=>none
def Pr(C:It)(run:lR)(g:Nat→Option ba)(nid:Nat)(p:nO)(fid:FuncId)(vals:List AV) :Option Xn :=
  let bs:=uA g pb (pT (v6 (C.mode fid).mask vals)) []
  let la:=rh (tA bs 0) g (C.mode fid).mask vals
  bif DR bs&&v7 g nid bs then
    match run fid (yJ (tA bs 0) g bs) la.1 p with
    | some (r,obs,p') =>
      bif Nat.ble r.own.length (bs.length+yx) then
        some { v:=uz (jL bs nid) r.v,sets:=rg (jL bs nid) 0 r.own,reads:=bs++la.2,obs,path:=p' }
      else none
    | none=>none
  else none
def WZ(C:It)(run:lR)(e:Operand→AV)(g:Nat→Option ba)(nid:Nat)(p:nO)(op:Op) :Option Xn :=
  match JV C.wrap C.P e op with
  | some (v,obs)=>some { v,sets:=[],reads:=[],obs,path:=p }
  | none =>
    match op with
    | .load t x=>(IU C.P g t (e x)).map fun r=>{ v:=r.1,sets:=[],reads:=r.2.2,obs:=r.2.1,path:=p }
    | .store t x v=>(JY C.P g t (e x) (e v)).map fun r=>{ v:=.any,sets:=[(r.1,some r.2.1)],reads:=[r.1],obs:=r.2.2,path:=p }
    | .alloc t=>(St C.P nid t).map fun r=>{ v:=r.1,sets:=[(nid,some r.2)],reads:=[],obs:=[],path:=p }
    | .box t x=>(WW C.P nid t (e x)).map fun r=>{ v:=r.1,sets:=[(nid,some r.2)],reads:=[],obs:=[],path:=p }
    | .makeSlice t l c=>(UN C.P nid t (e l) (e c)).map fun r=>{ v:=r.1,sets:=[(nid,some r.2.1)],reads:=[],obs:=r.2.2,path:=p }
    | .build t parts=>(Sw C.P t (parts.toList.map fun x=>(x.1,e x.2))).map fun v=>{ v,sets:=[],reads:=[],obs:=[],path:=p }
    | .buildSlice t len parts=>(Fl C.P nid t len (parts.toList.map fun x=>(x.1,e x.2))).map fun r=>{ v:=r.1,sets:=[(nid,some r.2)],reads:=[],obs:=[],path:=p }
    | .call { callee:=.builtin .append,args,argTypes } =>
      match args.toList,argTypes.toList with
      | [s,x],[t,t']=>bif Nat.beq t t' then
          match GN C.P g nid t (e s) (e x) with
          | some (alts,rs)=>(Mt alts p).map fun r=>{ v:=r.1.v,sets:=r.1.sets,reads:=rs,obs:=r.1.obs,path:=r.2 }
          | none=>none
        else none
      | _,_=>none
    | .call { callee:=.builtin .copy,args,argTypes } =>
      match args.toList,argTypes.toList with
      | [s,x],[t,_]=>(Pp C.P g t (e s) (e x)).map fun r=>{ v:=.int .i64 (r.1:Int),sets:=[(r.2.1,some r.2.2.1)],reads:=r.2.2.2.2,obs:=r.2.2.2.1,path:=p }
      | _,_=>none
    | .call { callee:=.value f,args,.. } =>
      match I4 e f args with
      | some (fid,l) =>
        match C.ext fid with
        | some k=>(Mt (WY k l) p).map fun r=>{ v:=r.1.v,sets:=[],reads:=[],obs:=r.1.obs,path:=r.2 }
        | none=>Pr C run g nid p fid l
      | none=>none
    | _=>none
theorem Rn{x:Nat}(h:isNaN x=true) :FloatKind.f64.format.sqrt x=none:=by
  obtain ⟨s,t,e⟩:=yu h
  simp [Ieee.Format.sqrt,e,Ieee.Datum.root]
theorem MX{ρ:aH}{w:World}{k1 k2 k3:IntKind}{x y z:Int}{c:Array Value}(hl:jk ρ w [.int k1 x,.int k2 y,.int k3 z] c.toList) :c = #[.int k1 x,.int k2 y,.int k3 z]:=by
  have h:c.toList=[.int k1 x,.int k2 y,.int k3 z]:=by
    generalize c.toList=l at hl
    cases hl with | cons _ u1 _ _ h1 t1 =>
    cases t1 with | cons _ u2 _ _ h2 t2 =>
    cases t2 with | cons _ u3 _ _ h3 t3 =>
    cases t3;cases h1;cases h2;cases h3;rfl
  rw [←c.toArray_toList,h]
theorem Ps{P:Program}{w:World}(name:String){k1 k2 k3:IntKind}{x y z:Int}(hz:z.toNat≤1) :(Extern.MathBitsCarry.three name #[.int k1 x,.int k2 y,.int k3 z]).run P w=.ok (x.toNat,y.toNat,z.toNat) w:=by
  have e:Extern.MathBitsCarry.three name #[.int k1 x,.int k2 y,.int k3 z]=(do
      if z.toNat > 1 then unsupported (.noEntry ("extern/math/bits." ++ name ++ ": a carry that is neither 0 nor 1"))
      pure (x.toNat,y.toNat,z.toNat):Sem (Nat×Nat×Nat)):=rfl
  rw [e,if_neg (by omega)]
  rfl
theorem SC{P:Program}{ρ:aH}{w:World}{k:Lu}{l:List AV}{c:Array Value}{r:Lt}(hl:jk ρ w l c.toList)(h:r∈WY k l)(ho:aY r.obs) :re P ρ w (J5 k c) r.v:=by
  have one:∀ {a:AV},jk ρ w [a] c.toList→∃ u,c = #[u]∧VR ρ w a u:=by
    intro a h
    generalize hc:c.toList=l at h
    cases h with | cons _ u _ _ h1 h2=>cases h2;exact ⟨u,by rw [←hc],h1⟩
  unfold WY at h
  split at h
  · simp only [List.mem_singleton] at h;subst h
    obtain ⟨u,rfl,hu⟩:=one hl
    cases hu with | flt _ _ y hf =>
    rename_i ex x
    have es:J5 .sqrt #[.float .f64 y]=(match FloatKind.f64.format.sqrt y with
      | some r=>pure (.float .f64 r)
      | none=>do pure (.float .f64 (←choose (.nanBits .f64 y y)))):=rfl
    rw [es]
    have e:FloatKind.f64.format.sqrt y=FloatKind.f64.format.sqrt x:=by
      rcases hf with rfl | ⟨_,h2,h3⟩
      · rfl
      · rw [Rn h2,Rn h3]
    cases hr:FloatKind.f64.format.sqrt y with
    | some r=>exact ⟨.float .f64 r,w.drawn,rfl,.flt _ _ _ (.inl (by rw [e] at hr;simp [Eh,hr]))⟩
    | none=>exact ⟨_,w.drawn+1,rfl,.flt _ _ _ (.inr ⟨rfl,by rw [e] at hr;simp [Eh,hr,DH],S6 y y _⟩)⟩
  · simp only [List.mem_singleton] at h;subst h
    obtain ⟨u,rfl,hu⟩:=one hl
    cases hu with | flt _ _ y hf =>
    rcases hf with rfl | ⟨h1,_⟩
    · exact ⟨_,w.drawn,rfl,.int _ _⟩
    · cases h1
  · simp only [List.mem_cons,List.not_mem_nil,or_false] at h
    obtain ⟨u,rfl,hu⟩:=one hl
    cases hu with | flt _ _ y hf =>
    rcases h with rfl | rfl
    · rcases hf with rfl | ⟨_,h2,_⟩
      · exact ⟨_,w.drawn,rfl,.int _ _⟩
      · have:=ho.1;rw [h2] at this;cases this
    · have hy:isNaN y=true:=by
        rcases hf with rfl | ⟨_,_,h3⟩
        · exact ho.1
        · exact h3
      exact ⟨_,w.drawn,rfl,.nan _ hy⟩
  · simp only [List.mem_singleton] at h;subst h
    obtain ⟨u,rfl,hu⟩:=one hl
    cases hu
    exact ⟨_,w.drawn,rfl,.flt _ _ _ (.inl rfl)⟩
  · simp only [List.mem_singleton] at h;subst h
    have hz:=ho.1
    replace hz:=of_decide_eq_true hz
    cases MX hl
    refine ⟨_,w.drawn,?_,.tup _ #[_,_] (.cons _ _ _ _ (.int _ _) (.cons _ _ _ _ (.int _ _) .nil))⟩
    simp only [J5, Sem.run_bind, Ps "Add64" hz, Result.andThen_ok]
    rfl
  · simp only [List.mem_singleton] at h;subst h
    have hz:=ho.1
    replace hz:=of_decide_eq_true hz
    cases MX hl
    refine ⟨_,w.drawn,?_,.tup _ #[_,_] (.cons _ _ _ _ (.int _ _) (.cons _ _ _ _ (.int _ _) .nil))⟩
    simp only [J5, Sem.run_bind, Ps "Sub64" hz, Result.andThen_ok]
    rename_i x _ y _ z
    have e:(bif Nat.blt x.toNat (y.toNat+z.toNat) then (1:Int) else 0)=Int.ofNat (if x.toNat<y.toNat+z.toNat then 1 else 0):=by
      by_cases q:x.toNat<y.toNat+z.toNat
      · rw [if_pos q,show Nat.blt x.toNat (y.toNat+z.toNat)=true by rw [Nat.blt_eq];exact q];rfl
      · rw [if_neg q]
        have:Nat.blt x.toNat (y.toNat+z.toNat)=false:=by
          cases h:Nat.blt x.toNat (y.toNat+z.toNat) with
          | false=>rfl
          | true=>rw [Nat.blt_eq] at h;exact absurd h q
        rw [this];rfl
    rw [e]
    rfl
  · simp at h
theorem TU{C:It}(hC:C.Ok){run:lR}(hrun:MW C.P run){e:Operand→AV}{h:fj}{nid:Nat}{p:nO}{o:Oper}{r:Xn}(hr:WZ C run e (bQ h) nid p o.op=some r)(ho:aY r.obs) 
    {ρ:aH} {w:World} {n:Nat} (hh:HR ρ w h n) (hid:∀ x,nid≤x→x<nid+yx→¬ ρ.ok x) (hn0:nid+yx≤n) {a:Act} (hops:∀ x,VR ρ w (e x) (a.eval x)) {next:Act→World→Prop} {Q:Exit→Act→World→Prop}
    (hK:∀ ρ' w' u,vY ρ ρ' w→rc ρ.live w w'→HR ρ' w' (ib r.sets h) n→VR ρ' w' r.v u→(∀ b,ρ'.ok b→ρ.ok b∨(nid≤b∧b<nid+yx))→next (a.put o.dst u) w'):o.wp C.P a w next Q:=by
  have hS:0<yx:=by decide
  have hb : ¬ ρ.ok nid:=hid nid (Nat.le_refl _) (by omega)
  have hn:nid<n:=by omega
  have one:∀ {b:Nat},b=nid→nid≤b∧b<nid+yx:=fun e=>by omega
  have plain:∀ {v:AV},(∃ u k,(execOp a.eval o).run C.P w=.ok (.value u) { w with drawn:=k }∧VR ρ w v u)→r.v=v→r.sets=[]→o.wp C.P a w next Q:=by
    intro v ⟨u,k,h1,h2⟩ hv hs
    unfold Oper.wp
    rw [h1]
    have E:=vY.refl ρ w
    have W:=rc.drawn ρ.live w k
    exact hK ρ _ u E W (by rw [hs];exact hh.drawn k) (by rw [hv];exact h2.mono E W) (fun b q=>.inl q)
  have made:∀ {s:Sem Value} {v:AV} {h':fj},(execOp a.eval o).run C.P w=(do pure (Next.value (←s)):Sem Next).run C.P w→Hp C.P ρ w h n nid s v h'→r.v=v→ib r.sets h=h'→o.wp C.P a w next Q:=by
    intro s v h' he ⟨u,w',ρ',h1,h2,h3,h4,h5,h6⟩ hv hs
    unfold Oper.wp
    rw [he,gW h1]
    exact hK ρ' w' u h2 h3 (by rw [hs];exact h4) (by rw [hv];exact h5) (fun b q=>(h6 b q).imp id one)
  unfold WZ at hr
  split at hr
  · rename_i v obs hp
    simp only [Option.some.injEq] at hr;subst hr
    exact plain (PQ hops hp ho) rfl rfl
  · rename_i hpo
    clear hpo
    generalize hop:o.op=op at hr
    split at hr
    · rename_i t x
      simp only [Option.map_eq_some_iff] at hr
      obtain ⟨⟨v,obs,rs⟩,hl,rfl⟩:=hr
      obtain ⟨u,k,h1,h2⟩:=Q8 (P:=C.P) hh (hops x) hl ho
      exact plain ⟨u,k,by simp only [execOp,hop];exact gW h1,h2⟩ rfl rfl
    · rename_i t x v
      simp only [Option.map_eq_some_iff] at hr
      obtain ⟨⟨b,d,obs⟩,hl,rfl⟩:=hr
      obtain ⟨w',h1,h2,h3⟩:=PR (P:=C.P) hh (hops x) (hops v) hl ho
      unfold Oper.wp
      have:(execOp a.eval o).run C.P w=.ok .skip w':=by
        simp only [execOp,hop];rw [Sem.run_bind,h1];rfl
      rw [this]
      exact hK ρ w' undef (vY.refl _ _) h3 h2 (.any _) (fun b q=>.inl q)
    · rename_i t
      simp only [Option.map_eq_some_iff] at hr
      obtain ⟨⟨v,d⟩,hl,rfl⟩:=hr
      exact made (by simp only [execOp,hop]) (PU hh hb hn hl true) rfl rfl
    · rename_i t x
      simp only [Option.map_eq_some_iff] at hr
      obtain ⟨⟨v,d⟩,hl,rfl⟩:=hr
      exact made (by simp only [execOp,hop]) (Su hh hb hn (hops x) hl) rfl rfl
    · rename_i t l c
      simp only [Option.map_eq_some_iff] at hr
      obtain ⟨⟨v,d,obs⟩,hl,rfl⟩:=hr
      exact made (by simp only [execOp,hop]) (Ra hh hb hn (hops l) (hops c) hl ho) rfl rfl
    · rename_i t parts
      simp only [Option.map_eq_some_iff] at hr
      obtain ⟨v,hl,rfl⟩:=hr
      have h1:(parts.toList.map fun x=>(x.1,e x.2)).map Prod.fst=(parts.map fun (x:Nat×Operand)=>(x.1,a.eval x.2)).toList.map Prod.fst:=by simp
      have h2:jk ρ w ((parts.toList.map fun x=>(x.1,e x.2)).map Prod.snd) ((parts.map fun (x:Nat×Operand)=>(x.1,a.eval x.2)).toList.map Prod.snd):=by
        have:=jk.map hops (parts.toList.map Prod.snd)
        simpa [Function.comp_def] using this
      obtain ⟨u,k,q1,q2⟩:=PZ (P:=C.P) h1 h2 hl
      exact plain ⟨u,k,by simp only [execOp,hop];exact gW q1,q2⟩ rfl rfl
    · rename_i t len parts
      simp only [Option.map_eq_some_iff] at hr
      obtain ⟨⟨v,d⟩,hl,rfl⟩:=hr
      have h1:(parts.toList.map fun x=>(x.1,e x.2)).map Prod.fst=(parts.map fun (x:Nat×Operand)=>(x.1,a.eval x.2)).toList.map Prod.fst:=by simp
      have h2:jk ρ w ((parts.toList.map fun x=>(x.1,e x.2)).map Prod.snd) ((parts.map fun (x:Nat×Operand)=>(x.1,a.eval x.2)).toList.map Prod.snd):=by
        have:=jk.map hops (parts.toList.map Prod.snd)
        simpa [Function.comp_def] using this
      exact made (by simp only [execOp,hop]) (IZ hh hb hn h1 h2 hl) rfl rfl
    · rename_i args argTypes
      split at hr
      case h_2=>cases hr
      rename_i s x t t' e1 e2
      cases ht:Nat.beq t t' with
      | false=>rw [ht] at hr;cases hr
      | true =>
      rw [ht] at hr
      have:=Nat.eq_of_beq_eq_true ht
      subst this
      simp only [cond_true] at hr
      split at hr
      case h_2=>cases hr
      rename_i alts rs ha
      simp only [Option.map_eq_some_iff] at hr
      obtain ⟨⟨alt,p'⟩,hp,rfl⟩:=hr
      have ea:args = #[s,x]:=by rw [←e1]
      have et:argTypes = #[t,t]:=by rw [←e2]
      subst ea;subst et
      have hm:=OH hh hb hn (hops s) (hops x) ha (K4 hp) ho o.type
      refine made (s:=Builtin.append_ #[t,t] o.type #[a.eval s,a.eval x]) ?_ hm rfl rfl
      simp only [execOp,hop]
      rw [rf a.eval .append #[s,x] #[t,t] o.type _ rfl]
      simp [invoke,builtin]
    · rename_i args argTypes
      split at hr
      case h_2=>cases hr
      rename_i s x t t' e1 e2
      simp only [Option.map_eq_some_iff] at hr
      obtain ⟨⟨k,b,d,obs,rs⟩,hc,rfl⟩:=hr
      have ea:args = #[s,x]:=by rw [←e1]
      have et:argTypes = #[t,t']:=by rw [←e2]
      subst ea;subst et
      obtain ⟨w',h1,h2,h3⟩:=Rm (P:=C.P) (T:=o.type) (t':=t') hh (hops s) (hops x) hc ho
      refine made (s:=Builtin.copy_ #[t,t'] o.type #[a.eval s,a.eval x]) ?_ ⟨_,w',ρ,h1,vY.refl _ _,h3,h2,.int _ _,fun b q=>.inl q⟩ rfl rfl
      simp only [execOp,hop]
      rw [rf a.eval .copy #[s,x] #[t,t'] o.type _ rfl]
      simp [invoke,builtin]
    · rename_i f args ats
      split at hr
      case h_2=>cases hr
      rename_i fid l hca
      unfold I4 at hca
      split at hca
      case h_2=>cases hca
      rename_i fid' first caps hef
      simp only [Option.some.injEq,Prod.mk.injEq] at hca
      obtain ⟨rfl,rfl⟩:=hca
      have hf:=hops f
      rw [hef] at hf
      generalize hgf:a.eval f=gf at hf
      cases hf with | fn _ _ _ c1 c2 v1 v2 =>
      have hargs:jk ρ w (first++args.toList.map e++caps) (c1++args.map a.eval++c2).toList:=by
        simp only [Array.toList_append,Array.toList_map]
        exact jk.append v2 (jk.append (jk.map hops args.toList) v1)
      have hex:∀ w0,(execOp a.eval o).run C.P w0=(callFunc fid' (c1++args.map a.eval++c2)).run C.P w0:=by
        intro w0
        simp only [execOp,hop,resolve,hgf,Deferred.ofValue]
        rfl
      split at hr
      · rename_i k hk
        simp only [Option.map_eq_some_iff] at hr
        obtain ⟨⟨a,_⟩,hl,rfl⟩:=hr
        obtain ⟨u,kk,q1,q2⟩:=SC (P:=C.P) hargs (K4 hl) ho
        refine plain ⟨u,kk,?_,q2⟩ rfl rfl
        rw [hex,hC.ext fid' k _ w hk]
        exact gW q1
      · unfold Pr at hr
        simp only at hr
        generalize hbs:uA (bQ h) pb (pT (v6 (C.mode fid').mask (first++args.toList.map e++caps))) []=bs at hr
        cases hlen:(DR bs&&v7 (bQ h) nid bs) with
        | false=>rw [hlen] at hr;cases hr
        | true =>
        rw [hlen] at hr
        simp only [cond_true] at hr
        rw [Bool.and_eq_true] at hlen
        split at hr
        case h_2=>cases hr
        rename_i r' obs p' hl
        cases hle:Nat.ble r'.own.length (bs.length+yx) with
        | false=>rw [hle] at hr;cases hr
        | true =>
        rw [hle] at hr
        simp only [cond_true,Option.some.injEq] at hr;subst hr
        have hLs:Rl h bs:=⟨fun q1 q2=>DS hlen.1 q1 q2,fun b q=>(BH hlen.2 b q).1⟩
        have L:=Tg hh hLs
        have hcall:=hrun fid' _ _ p r' obs p' hl ho
        obtain ⟨⟨fn,hfn,hbody⟩,hcalls⟩:=hcall (ρ.lend bs) w _ (SB hh hLs) (Bq hh L _ hargs)
        unfold Oper.wp
        rw [hex,hC.enter fid' fn _ w hfn hbody]
        simp only [Oper.upon]
        have hl2:(c1++args.map a.eval++c2).toList.toArray=c1++args.map a.eval++c2:=by simp
        rw [hl2] at hcalls
        refine hcalls.mono ?_
        rintro e' w' ⟨u,rfl,W,ρ',E,hbk,H,hv⟩
        rw [xZ] at hbk
        obtain ⟨q1,q2,q3,q4,q5⟩:=UQ hh hLs hid (fun b q=>(BH hlen.2 b q).2) hn0 (Nat.le_of_ble_eq_true hle) W E hbk H hv
        exact hK _ w' u q1 q2 q3 q4 q5
    · cases hr
structure GQ where
  v:AV
  sets:List (Nat×Option ba)
  reads:List Nat
def GR(ops:Array Oper)(j:Nat) :Option Nat:=(ops[j]?).bind (·.dst)
def GS(ops:Array Oper)(o:Oper)(T:List AV) :Option Bool :=
  match o.guard with
  | none=>some true
  | some (j,want) =>
    match GR ops j with
    | none=>some false
    | some d =>
      match T[d]? with
      | some (.bool true b)=>some (b==want)
      | some (.tup _) | none=>some false
      | _=>none
def Tj(ops:Array Oper)(i:Nat) :Bool:=ops.toList.any fun o=>match o.guard with | some (j,_)=>Nat.beq j i | none=>false
def Mu(v:AV)(p:nO) :Option (Bool×List Bool×nO) :=
  match v,p with
  | .bool true b,p=>some (b,[],p)
  | .bool false b,none=>some (b,[],none)
  | .bool false b,some (k::r)=>some (Nat.beq k 1,[b==Nat.beq k 1],some r)
  | _,_=>none
theorem MY{ρ:aH}{w:World}{v:AV}{u:Value}{p p':nO}{b:Bool}{obs:List Bool}(hv:VR ρ w v u)(h:Mu v p=some (b,obs,p'))(ho:aY obs) :u=.bool b:=by
  unfold Mu at h
  split at h
  · simp only [Option.some.injEq,Prod.mk.injEq] at h;obtain ⟨rfl,rfl,rfl⟩:=h;cases hv;rfl
  · simp only [Option.some.injEq,Prod.mk.injEq] at h;obtain ⟨rfl,rfl,rfl⟩:=h;cases hv;rfl
  · simp only [Option.some.injEq,Prod.mk.injEq] at h;obtain ⟨rfl,rfl,rfl⟩:=h;cases hv
    have:=ho.1
    simp only [beq_iff_eq] at this
    rw [this]
  · cases h
def K5(ops:Array Oper)(i:Nat)(v:AV)(p:nO) :Option (AV×List Bool×nO) :=
  bif Tj ops i then (Mu v p).map fun r=>(.bool true r.1,r.2.1,r.2.2) else some (v,[],p)
def I5(C:It)(run:lR)(ops:Array Oper)(n0 i:Nat)(o:Oper)(T:List AV)(h:fj)(p:nO) :Option (GQ×List Bool×nO) :=
  match GS ops o T with
  | none=>none
  | some false=>some ({ v:=.tup [],sets:=[],reads:=[] },[],p)
  | some true =>
    match WZ C run (VY T) (bQ h) (n0+i*yx) p o.op with
    | none=>none
    | some r =>
      match K5 ops i r.v r.path with
      | none=>none
      | some (v,obs,p')=>some ({ v,sets:=r.sets,reads:=r.reads },r.obs++obs,p')
def I6(T:List AV)(d:Option Nat)(v:AV) :List AV :=
  match d with
  | some d=>T.set d v
  | none=>T
theorem Tk{ρ:aH}{w:World}{T:List AV}{a:Act}{v:AV}{u:Value}(h:jk ρ w T a.tmps.toList)(hv:VR ρ w v u)(d:Option Nat) :jk ρ w (I6 T d v) (a.put d u).tmps.toList:=by
  cases d with
  | none=>exact h
  | some d=>simp only [I6,Act.put,Array.toList_setIfInBounds];exact h.set hv d
theorem I7{ρ:aH}{w:World}{ops:Array Oper}{o:Oper}{T:List AV}{a:Act}(h:jk ρ w T a.tmps.toList){b:Bool}(hw:GS ops o T=some b) :Region.wanted o (yielded ops a.tmps)=b:=by
  unfold GS at hw
  unfold Region.wanted
  split at hw
  · rename_i hg;cases hw;simp [hg]
  · rename_i j want hg
    simp only [hg]
    unfold GR at hw
    split at hw
    · rename_i hs;cases hw;simp [yielded,hs]
    · rename_i d hs
      split at hw
      · rename_i b' hT
        cases hw
        obtain ⟨u,h1,h2⟩:=h.get d _ hT
        rw [Array.getElem?_toList] at h1
        cases h2
        simp only [yielded,hs,Option.bind_some,h1]
        cases b'<;>cases want<;>rfl
      · rename_i l hT
        cases hw
        obtain ⟨u,h1,h2⟩:=h.get d _ hT
        rw [Array.getElem?_toList] at h1
        cases h2
        simp [yielded,hs,h1]
      · rename_i hT
        cases hw
        have : a.tmps[d]? = none := by
          have hl:=h.length
          rw [Array.getElem?_eq_none]
          have : T.length ≤ d := by rcases Nat.lt_or_ge d T.length with q | q; · rw [List.getElem?_eq_getElem q] at hT; cases hT
                                    · exact q
          simp at hl;omega
        simp [yielded,hs,this]
      · cases hw
theorem HR.congr{ρ:aH}{w:World}{h h':fj}{n:Nat}(hh:HR ρ w h n)(e:∀ b,bQ h' b=bQ h b) :HR ρ w h' n :=
  ⟨fun b d q=>hh.cell b d (by rw [←e];exact q),fun b c d f q r=>hh.inj b c d f (by rw [←e];exact q) (by rw [←e];exact r),hh.fresh,hh.liveLt,hh.outLt,hh.lt,hh.rom⟩
theorem K6{C:It}(hC:C.Ok){run:lR}(hrun:MW C.P run){ops:Array Oper}{n0 i:Nat}{o:Oper}(hi:ops[i]? = some o){T:List AV}{h:fj}{p p':nO}{r:GQ}{obs:List Bool} 
    (hr:I5 C run ops n0 i o T h p=some (r,obs,p')) (ho:aY obs) {ρ:aH} {w:World} {n:Nat} (hh:HR ρ w h n) (hid:∀ x,n0+i*yx≤x→x<n0+i*yx+yx→¬ ρ.ok x) (hn:n0+i*yx+yx≤n) {a:Act} (hd:a.defers=[]) (hT:jk ρ w T a.tmps.toList)
    {K:Act→World→Prop} {Q:Exit→Act→World→Prop}
    (hK:∀ ρ' w' a',vY ρ ρ' w→rc ρ.live w w'→HR ρ' w' (ib r.sets h) n→a'.defers=[]→jk ρ' w' (I6 T o.dst r.v) a'.tmps.toList→(∀ b,ρ'.ok b→ρ.ok b∨(n0+i*yx≤b∧b<n0+i*yx+yx))→K a' w'):wpOp C.P ops Q i K a w:=by
  have dput:∀ u,(a.put o.dst u).defers=[]:=by intro u;cases hdst:o.dst<;>simp [Act.put,hd]
  unfold I5 at hr
  unfold wpOp
  simp only [hi]
  split at hr
  · cases hr
  · rename_i hw
    simp only [Option.some.injEq,Prod.mk.injEq] at hr;obtain ⟨rfl,rfl,rfl⟩:=hr
    rw [I7 hT hw]
    simp only [Bool.false_eq_true,if_false]
    exact hK ρ w _ (vY.refl _ _) (rc.refl _ _) hh (dput _) (Tk hT (.tup _ _ .nil) o.dst) (fun b q=>.inl q)
  · rename_i hw
    rw [I7 hT hw]
    simp only [if_true]
    split at hr
    · cases hr
    · rename_i r' hop
      split at hr
      · cases hr
      · rename_i v obs' p'' hg
        simp only [Option.some.injEq,Prod.mk.injEq] at hr;obtain ⟨rfl,rfl,rfl⟩:=hr
        rw [ck] at ho
        refine .inl (TU hC hrun hop ho.1 hh hid hn (fun x=>MD hh.rom hT x) ?_)
        intro ρ' w' u E W hh' hv hok
        refine hK ρ' w' _ E W hh' (dput _) (Tk (hT.mono E W) ?_ o.dst) hok
        unfold K5 at hg
        cases hgd:Tj ops i with
        | false=>rw [hgd] at hg;simp only [cond_false,Option.some.injEq,Prod.mk.injEq] at hg;rw [←hg.1];exact hv
        | true =>
          rw [hgd] at hg
          simp only [cond_true,Option.map_eq_some_iff,Prod.mk.injEq] at hg
          obtain ⟨⟨b,ob,pp⟩,hd',rfl,rfl,rfl⟩:=hg
          rw [MY hv hd' ho.2]
          exact .bool _ _
def MZ(C:It)(run:lR)(ops:Array Oper)(n0:Nat) :Nat→List Oper→List AV→fj→nO→Option (List AV×fj×List Bool×nO)
  | _,[],T,h,p=>some (T,h,[],p)
  | i,o::l,T,h,p =>
    match I5 C run ops n0 i o T h p with
    | none=>none
    | some (r,obs,p') =>
      match MZ C run ops n0 (i+1) l (I6 T o.dst r.v) (ib r.sets h) p' with
      | none=>none
      | some (T',h',obs',p'')=>some (T',h',obs++obs',p'')
structure Fr (ρ:aH) (w:World) (n:Nat) (st:aW) (ρ':aH) (a':Act) (w':World):Prop where
  ext:vY ρ ρ' w
  wle:rc ρ.live w w'
  sr:SR ρ' st a' w'
  le:n≤st.next
  back:∀ b,ρ'.ok b→ρ.ok b∨n≤b
theorem I8{C:It}(hC:C.Ok){run:lR}(hrun:MW C.P run){ops:Array Oper}{n0:Nat}{Q:Exit→Act→World→Prop} :∀ (l:List Oper) (i:Nat) {T T':List AV} {h h':fj} {p p':nO} {obs:List Bool},
    (∀ j,l[j]? = ops[i+j]?)→MZ C run ops n0 i l T h p=some (T',h',obs,p')→aY obs→∀ {ρ:aH} {w:World},HR ρ w h (n0+ops.size*yx)→(∀ b,ρ.ok b→b<n0+i*yx)→∀ {a:Act},a.defers=[]→jk ρ w T a.tmps.toList →
    (∀ ρ' w' a',vY ρ ρ' w→rc ρ.live w w'→HR ρ' w' h' (n0+ops.size*yx)→a'.defers=[]→jk ρ' w' T' a'.tmps.toList→(∀ b,ρ'.ok b→ρ.ok b∨n0≤b)→Q .normal a' w')→wpOps C.P ops Q (List.range' i l.length) a w
  | [],i,T,T',h,h',p,p',obs,hl,hr,ho,ρ,w,hh,hok,a,hd,hT,hQ=>by
    simp only [MZ,Option.some.injEq,Prod.mk.injEq] at hr;obtain ⟨rfl,rfl,rfl,rfl⟩:=hr
    simp only [List.length_nil,List.range'_zero,wpOps]
    exact hQ ρ w a (vY.refl _ _) (rc.refl _ _) hh hd hT (fun b q=>.inl q)
  | o::l,i,T,T',h,h',p,p',obs,hl,hr,ho,ρ,w,hh,hok,a,hd,hT,hQ=>by
    simp only [MZ] at hr
    split at hr
    case h_1=>cases hr
    rename_i r obs1 p1 h1
    split at hr
    case h_1=>cases hr
    rename_i T2 h2 obs2 p2 h3
    simp only [Option.some.injEq,Prod.mk.injEq] at hr;obtain ⟨rfl,rfl,rfl,rfl⟩:=hr
    rw [ck] at ho
    have hi:ops[i]? = some o:=by have:=hl 0;simpa using this.symm
    have hlt:i<ops.size:=(Array.getElem?_eq_some_iff.1 hi).1
    simp only [List.length_cons,List.range'_succ]
    rw [wpOps_cons]
    have hS:i*yx+yx≤ops.size*yx:=by rw [←Nat.succ_mul];exact Nat.mul_le_mul_right _ hlt
    have hi1:(i+1)*yx=i*yx+yx:=Nat.succ_mul _ _
    refine K6 hC hrun hi h1 ho.1 hh (fun x h1 h2 q=>by have:=hok _ q;omega) (by omega) hd hT ?_
    intro ρ' w' a' E W hh' hd' hT' hok'
    refine I8 hC hrun l (i+1) (fun j=>by have:=hl (j+1);rw [show i+1+j=i+(j+1) from by omega];simpa using this) h3 ho.2 hh' (fun b q=>by
      rcases hok' b q with q | q
      · have:=hok b q;omega
      · omega) hd' hT' ?_
    intro ρ'' w'' a'' E' W' hh'' hd'' hT'' hb''
    exact hQ ρ'' w'' a'' (E.trans E' W.size) (W.trans W' (fun x hx q=>E.new x hx q)) hh'' hd'' hT'' (fun b q=>by
      rcases hb'' b q with q | q
      · rcases hok' b q with q | q
        · exact .inl q
        · exact .inr (by omega)
      · exact .inr q)
theorem GT{e e':Operand→AV}{l:List Operand}(h:∀ x∈l,e x=e' x) :l.map e=l.map e':=List.map_congr_left h
theorem P9{wr:Bool}{P:Program}{e e':Operand→AV}{op:Op}(h:∀ x∈op.operands,e x=e' x) :JV wr P e op=JV wr P e' op:=by
  unfold JV
  split
  all_goals simp only [Op.operands,Call.operands] at h
  case h_1=>rw [h _ (by simp)]
  case h_2=>rw [h _ (by simp)]
  case h_3=>rw [h _ (by simp),h _ (by simp),h _ (by simp)]
  case h_4=>rw [h _ (by simp)]
  case h_5=>rw [h _ (by simp),h _ (by simp)]
  case h_6=>rw [h _ (by simp)]
  case h_7=>rw [h _ (by simp)]
  case h_8=>rw [h _ (by simp)]
  case h_9 =>
    rename_i fn first caps
    rw [GT (l:=first.toList) (fun x hx=>h x (by simp at hx;simp [hx])),GT (l:=caps.toList) (fun x hx=>h x (by simp at hx;simp [hx]))]
  case h_10 =>
    rename_i t x lo hi
    rw [h x (by simp)]
    cases lo<;>cases hi<;>simp only [Option.map_none,Option.map_some]<;>first | rfl | (rw [h _ (by simp),h _ (by simp)]) | (rw [h _ (by simp)])
  case h_11 =>
    rename_i t x lo hi mx
    rw [h x (by simp),h mx (by simp)]
    cases lo<;>cases hi<;>simp only [Option.map_none,Option.map_some]<;>first | rfl | (rw [h _ (by simp),h _ (by simp)]) | (rw [h _ (by simp)])
  case h_12=>rw [h _ (by simp)]
  case h_13=>rw [h _ (by simp)]
  case h_14=>rw [h _ (by simp),h _ (by simp)]
  case h_15=>rw [h _ (by simp),h _ (by simp)]
  case h_16=>rw [h _ (by simp)]
  case h_17 =>
    rename_i xs ts
    split
    · rename_i x t hx ht
      have:xs = #[x]:=by rw [←hx]
      subst this
      rw [h x (by simp)]
    · rfl
  case h_18 =>
    rename_i xs ts
    split
    · rename_i x l hx
      have:xs=(x::l).toArray:=by rw [←hx]
      subst this
      rw [h x (by simp),GT (l:=l) (fun y hy=>h y (by simp [hy]))]
    · rfl
  case h_19 =>
    rename_i xs ts
    split
    · rename_i x l hx
      have:xs=(x::l).toArray:=by rw [←hx]
      subst this
      rw [h x (by simp),GT (l:=l) (fun y hy=>h y (by simp [hy]))]
    · rfl
  case h_20=>rfl
theorem Ro{P:Program}{g g':Nat→Option ba}{t:TypeId}{x:AV}{r:AV×List Bool×List Nat}(h:IU P g t x=some r)(hg:∀ b∈r.2.2,g' b=g b) :IU P g' t x=some r:=by
  unfold IU at h ⊢
  simp only at h ⊢
  split at h
  · rename_i b w i j
    split at h
    · rename_i d hd
      simp only [Option.map_eq_some_iff] at h
      obtain ⟨r',h1,rfl⟩:=h
      have:g' b=some d:=by rw [hg b (by simp)];exact hd
      simp only [this,h1];rfl
    · cases h
  · exact h
  · cases h
theorem Qa{P:Program}{g g':Nat→Option ba}{t:TypeId}{x v:AV}{r:Nat×ba×List Bool}(h:JY P g t x v=some r)(hg:g' r.1=g r.1) :JY P g' t x v=some r:=by
  unfold JY at h ⊢
  split at h
  · rename_i b w i j l inf h1 h2
    split at h
    · rename_i d hd
      cases e:Nat.beq l.length inf.size with
      | false=>rw [e] at h;cases h
      | true =>
        rw [e] at h
        simp only [cond_true,Option.map_eq_some_iff] at h
        obtain ⟨r',h3,rfl⟩:=h
        have:g' b=some d:=by rw [hg];exact hd
        simp only [h1,this,e,cond_true,h3];rfl
    · cases h
  · cases h
theorem DT{g g':Nat→Option ba}{x:AV}{r:Nat×Nat×ba×List Bool×List Nat}(h:OG g x=some r)(hg:∀ b∈r.2.2.2.2,g' b=g b) :OG g' x=some r:=by
  unfold OG at h ⊢
  split at h
  · rename_i b w es i len cap
    split at h
    · rename_i d hd
      simp only [Option.map_eq_some_iff] at h
      obtain ⟨r',h1,rfl⟩:=h
      have:g' b=some d:=by rw [hg b (by simp)];exact hd
      simp only [this,h1];rfl
    · cases h
  · exact h
  · cases h
theorem OJ{P:Program}{g g':Nat→Option ba}{nid:Nat}{t:TypeId}{s x:AV}{r:List Lt×List Nat}(h:GN P g nid t s x=some r)(hg:∀ b∈r.2,g' b=g b) :GN P g' nid t s x=some r:=by
  unfold GN at h ⊢
  split at h
  case h_2=>cases h
  rename_i e ht
  split at h
  case h_2=>cases h
  rename_i inf hi
  split at h
  case h_2=>cases h
  rename_i z hz
  cases hzs:Nat.beq z.cells.size inf.size with
  | false=>rw [hzs] at h;cases h
  | true =>
  rw [hzs] at h
  simp only [cond_true] at h ⊢
  split at h
  · exact h
  · exact h
  · exact h
  · rename_i hx0
    split at h
    case h_2=>cases h
    rename_i m es nb obs rs hs
    cases hes:Nat.beq es inf.size with
    | false=>rw [hes] at h;cases h
    | true =>
    rw [hes] at h
    simp only [cond_true,Option.some.injEq] at h;subst h
    have:=DT (g':=g') hs hg
    simp only [this,hes,cond_true]
  · exact h
  · rename_i hx0
    split at h
    case h_2=>cases h
    rename_i m es nb obs rs hs
    cases hes:Nat.beq es inf.size with
    | false=>rw [hes] at h;cases h
    | true =>
    rw [hes] at h
    simp only [cond_true,Option.some.injEq] at h;subst h
    have:=DT (g':=g') hs hg
    simp only [this,hes,cond_true]
  · rename_i b w es len cap hx0 _
    split at h
    case h_2=>cases h
    rename_i d m es' nb obs rs hd hs
    cases hes:(Nat.beq es inf.size&&Nat.beq es' es) with
    | false=>rw [hes] at h;cases h
    | true =>
    rw [hes] at h
    simp only [cond_true] at h
    split at h
    case h_2=>cases h
    rename_i old obs' hsub
    simp only [Option.map_eq_some_iff] at h
    obtain ⟨d',happ,rfl⟩:=h
    have h1:=DT (g':=g') hs (fun b' hb=>hg b' (by simp only [List.mem_cons];exact .inr hb))
    have h2:g' b=some d:=by rw [hg b (by simp)];exact hd
    simp only [h1,h2,hes,cond_true,hsub,happ];rfl
  · cases h
mutual
theorem DU {σ:Nat→Option Nat} {g g':Nat→Option ba}:∀ (n:Nat) (v:AV),(∀ b∈(J3 σ g n v).2,g' b=g b)→J3 σ g' n v=J3 σ g n v
  | 0,_,_=>rfl
  | n + 1, v, h => by
    cases v<;>simp only [J3] at h ⊢
    · rename_i b w i j
      cases hs:σ b with
      | some c=>rfl
      | none =>
      rw [hs] at h
      simp only at h ⊢
      have hb:g' b=g b:=by
        cases q:g b with
        | none=>rw [q] at h;have:=h b (by simp);rw [this,q]
        | some d=>rw [q] at h;have:=h b (by simp);rw [this,q]
      rw [hb]
      cases q:g b with
      | none=>rfl
      | some d =>
        rw [q] at h
        have:=M0 (σ:=σ) (g:=g) (g':=g') n d (fun b' hb'=>h b' (by simp only [List.mem_cons];exact .inr hb'))
        simp only [this]
    · rename_i b w es i len cap
      cases hs:σ b with
      | some c=>rfl
      | none =>
      rw [hs] at h
      simp only at h ⊢
      have hb:g' b=g b:=by
        cases q:g b with
        | none=>rw [q] at h;have:=h b (by simp);rw [this,q]
        | some d=>rw [q] at h;have:=h b (by simp);rw [this,q]
      rw [hb]
      cases q:g b with
      | none=>rfl
      | some d =>
        rw [q] at h
        have:=M0 (σ:=σ) (g:=g) (g':=g') n d (fun b' hb'=>h b' (by simp only [List.mem_cons];exact .inr hb'))
        simp only [this]
    · rename_i f l1 l2
      rw [xA n l1 (fun b hb=>h b (by simp [hb])),xA n l2 (fun b hb=>h b (by simp [hb]))]
    · rename_i l;rw [xA n l h]
    · rename_i l;rw [xA n l h]
    · rename_i t v;rw [DU n v h]
theorem xA {σ:Nat→Option Nat} {g g':Nat→Option ba}:∀ (n:Nat) (l:List AV),(∀ b∈(I3 σ g n l).2,g' b=g b)→I3 σ g' n l=I3 σ g n l
  | 0,_,_=>rfl
  | n+1,[],_=>rfl
  | n+1,v::l,h=>by
    simp only [I3] at h ⊢
    rw [DU n v (fun b hb=>h b (by simp [hb])),xA n l (fun b hb=>h b (by simp [hb]))]
theorem M0 {σ:Nat→Option Nat} {g g':Nat→Option ba}:∀ (n:Nat) (d:ba),(∀ b∈(Ir σ g n d).2,g' b=g b)→Ir σ g' n d=Ir σ g n d
  | 0,_,_=>rfl
  | n+1,d,h=>by
    cases d<;>simp only [Ir] at h ⊢
    rename_i l;rw [xA n l h]
end
theorem v8{σ:Nat→Option Nat}{g g':Nat→Option ba} :∀ (m:List Bool) (l:List AV),(∀ b∈(rh σ g m l).2,g' b=g b)→rh σ g' m l=rh σ g m l
  | m,[],_=>by cases m<;>rfl
  | true::m,v::l,h=>by
    simp only [rh] at h ⊢
    rw [v8 m l h]
  | false::m,v::l,h=>by
    simp only [rh] at h ⊢
    rw [DU _ v (fun b hb=>h b (by simp [hb])),v8 m l (fun b hb=>h b (by simp [hb]))]
  | [],v::l,h=>by
    simp only [rh] at h ⊢
    rw [DU _ v (fun b hb=>h b (by simp [hb])),v8 [] l (fun b hb=>h b (by simp [hb]))]
theorem J6{g:Nat→Option ba} :∀ (n:Nat) (t acc:List Nat),∀ b∈acc,b∈uA g n t acc
  | 0,t,acc,b,h=>h
  | n+1,[],acc,b,h=>h
  | n+1,x::t,acc,b,h=>by
    simp only [uA]
    split
    · exact J6 n _ _ b h
    · exact J6 n _ _ b (by simp [h])
theorem Fs{g g':Nat→Option ba} :∀ (n:Nat) (t acc:List Nat),(∀ b∈uA g n t acc,g' b=g b)→uA g' n t acc=uA g n t acc
  | 0,t,acc,_=>rfl
  | n+1,[],acc,_=>rfl
  | n+1,x::t,acc,h=>by
    simp only [uA] at h ⊢
    split
    · rename_i e;rw [e] at h;exact Fs n _ _ h
    · rename_i e
      rw [e] at h
      simp only at h
      have hx:g' x=g x:=h x (J6 n _ _ x (by simp))
      rw [hx]
      exact Fs n _ _ h
theorem I9{σ:Nat→Option Nat}{g g':Nat→Option ba} :∀ (l:List Nat),(∀ b∈l,g' b=g b)→yJ σ g' l=yJ σ g l
  | [],_=>rfl
  | b::l,h=>by simp only [yJ];rw [h b (by simp),I9 l (fun x hx=>h x (by simp [hx]))]
theorem Ft{g g':Nat→Option ba}{nid:Nat} :∀ (l:List Nat),(∀ b∈l,g' b=g b)→v7 g' nid l=v7 g nid l
  | [],_=>rfl
  | b::l,h=>by simp only [v7];rw [h b (by simp),Ft l (fun x hx=>h x (by simp [hx]))]
theorem Rp{C:It}{run:lR}{g g':Nat→Option ba}{nid:Nat}{p:nO}{fid:FuncId}{vals:List AV}{r:Xn}(h:Pr C run g nid p fid vals=some r)(hg:∀ b∈r.reads,g' b=g b) :Pr C run g' nid p fid vals=some r:=by
  have hreads:r.reads=uA g pb (pT (v6 (C.mode fid).mask vals)) []++(rh (tA (uA g pb (pT (v6 (C.mode fid).mask vals)) []) 0) g (C.mode fid).mask vals).2:=by
    unfold Pr at h
    simp only at h
    generalize (DR (uA g pb (pT (v6 (C.mode fid).mask vals)) [])&&v7 g nid (uA g pb (pT (v6 (C.mode fid).mask vals)) []))=c at h
    cases c with
    | false=>cases h
    | true =>
      simp only [cond_true] at h
      split at h
      case h_2=>cases h
      rename_i r' obs p' hl
      cases hle:Nat.ble r'.own.length ((uA g pb (pT (v6 (C.mode fid).mask vals)) []).length+yx) with
      | false=>rw [hle] at h;cases h
      | true=>rw [hle] at h;simp only [cond_true,Option.some.injEq] at h;rw [←h]
  rw [hreads] at hg
  have e1:=Fs (g:=g) (g':=g') pb (pT (v6 (C.mode fid).mask vals)) [] (fun b hb=>hg b (by simp [hb]))
  have e2:=v8 (σ:=tA (uA g pb (pT (v6 (C.mode fid).mask vals)) []) 0) (g:=g) (g':=g') (C.mode fid).mask vals (fun b hb=>hg b (by simp [hb]))
  have e3:=I9 (σ:=tA (uA g pb (pT (v6 (C.mode fid).mask vals)) []) 0) (g:=g) (g':=g') (uA g pb (pT (v6 (C.mode fid).mask vals)) []) (fun b hb=>hg b (by simp [hb]))
  have e4:=Ft (nid:=nid) (g:=g) (g':=g') (uA g pb (pT (v6 (C.mode fid).mask vals)) []) (fun b hb=>hg b (by simp [hb]))
  unfold Pr at h ⊢
  simp only at h ⊢
  rw [e1,e2,e3,e4]
  exact h
theorem Rq{P:Program}{g g':Nat→Option ba}{t:TypeId}{s x:AV}{r:Nat×Nat×ba×List Bool×List Nat}(h:Pp P g t s x=some r)(hg:∀ b∈r.2.2.2.2,g' b=g b) :Pp P g' t s x=some r:=by
  unfold Pp at h ⊢
  split at h
  case h_2=>cases h
  rename_i e b w es i len cap ht
  split at h
  case h_2=>cases h
  rename_i inf blk m es' nb obs rs hi hb hsrc
  have hr:r.2.2.2.2=b::rs:=by
    cases h1:Nat.beq inf.size 1&&Nat.beq es' 1 with
    | false=>rw [h1] at h;cases h
    | true =>
      rw [h1] at h
      simp only [cond_true,Option.map_eq_some_iff] at h
      obtain ⟨_,_,rfl⟩:=h
      rfl
  have q1:g' b=some blk:=by rw [hg b (by rw [hr];simp)];exact hb
  have q2:=DT hsrc (g':=g') (fun c hc=>hg c (by rw [hr];exact List.mem_cons_of_mem _ hc))
  rw [hi,q1,q2]
  exact h
theorem TV{C:It}{run:lR}{e e':Operand→AV}{g g':Nat→Option ba}{nid:Nat}{p:nO}{op:Op}{r:Xn}(h:WZ C run e g nid p op=some r)(he:∀ x∈op.operands,e' x=e x)(hg:∀ b∈r.reads,g' b=g b) :
    WZ C run e' g' nid p op=some r:=by
  unfold WZ at h ⊢
  rw [P9 he]
  split at h
  · exact h
  · rename_i hp
    clear hp
    split at h
    all_goals simp only [Op.operands,Call.operands] at he
    · rename_i t x
      simp only [Option.map_eq_some_iff] at h ⊢
      obtain ⟨r',h1,rfl⟩:=h
      exact ⟨r',by rw [he x (by simp)];exact Ro h1 hg,rfl⟩
    · rename_i t x v
      simp only [Option.map_eq_some_iff] at h ⊢
      obtain ⟨r',h1,rfl⟩:=h
      exact ⟨r',by rw [he x (by simp),he v (by simp)];exact Qa h1 (hg _ (by simp)),rfl⟩
    · exact h
    · rename_i t x;rw [he x (by simp)];exact h
    · rename_i t l c;rw [he l (by simp),he c (by simp)];exact h
    · rename_i t parts
      have:(parts.toList.map fun x=>(x.1,e' x.2))=(parts.toList.map fun x=>(x.1,e x.2)):=List.map_congr_left fun x hx=>by rw [he x.2 (by simp;exact ⟨x.1,by simpa using hx⟩)]
      rw [this];exact h
    · rename_i t len parts
      have:(parts.toList.map fun x=>(x.1,e' x.2))=(parts.toList.map fun x=>(x.1,e x.2)):=List.map_congr_left fun x hx=>by rw [he x.2 (by simp;exact ⟨x.1,by simpa using hx⟩)]
      rw [this];exact h
    · rename_i args ats
      split at h
      case h_2=>cases h
      rename_i s x t t' e1 e2
      cases ht:Nat.beq t t' with
      | false=>rw [ht] at h;cases h
      | true =>
      rw [ht] at h
      simp only [cond_true] at h ⊢
      have ea:args = #[s,x]:=by rw [←e1]
      subst ea
      rw [he s (by simp),he x (by simp)]
      split at h
      case h_2=>cases h
      rename_i alts rs ha
      simp only [Option.map_eq_some_iff] at h ⊢
      obtain ⟨r',h1,rfl⟩:=h
      have:=OJ (g':=g') ha hg
      simp only [this,Option.map_eq_some_iff]
      exact ⟨r',h1,rfl⟩
    · rename_i args ats
      split at h
      case h_2=>cases h
      rename_i s x t t' e1 e2
      have ea:args = #[s,x]:=by rw [←e1]
      subst ea
      rw [he s (by simp),he x (by simp)]
      simp only [Option.map_eq_some_iff] at h ⊢
      obtain ⟨r',h1,rfl⟩:=h
      exact ⟨r',Rq h1 hg,rfl⟩
    · rename_i f args ats
      have hf:e' f=e f:=he f (by simp)
      have hargs:args.toList.map e'=args.toList.map e:=List.map_congr_left fun x hx=>he x (by simp at hx;simp [hx])
      split at h
      case h_2=>cases h
      rename_i fid l hca
      have:I4 e' f args=some (fid,l):=by
        unfold I4 at hca ⊢
        rw [hf,hargs];exact hca
      simp only [this]
      split at h
      · exact h
      · exact Rp h hg
    · cases h
def SD(l:List Operand) :List Nat:=l.filterMap fun | .tmp t=>some t | _=>none
def zt(ops:Array Oper)(o:Oper) :List Nat :=
  (match o.dst with | some d=>[d] | none=>[])++(SD o.op.operands.toList++(match o.guard with | some (j,_)=>(match GR ops j with | some d=>[d] | none=>[]) | none=>[]))
def xB(s:List (Nat×Option ba)) :List Nat:=s.map Prod.fst
def GU(ms:List Nat)(o:Oper) :Nat:=o.after.toList.foldl (fun m e=>bif Region.binds .any e then m ||| (2^e.on ||| ms.getD e.on 0) else m) 0
def US(x:Nat) :List Nat→Bool
  | []=>false
  | y::l=>Nat.beq x y||US x l
def SE:List Nat→List Nat→Bool
  | [],_=>true
  | x::l,m=>!US x m&&SE l m
theorem Rr{x:Nat} :∀ {l:List Nat},US x l=true↔x∈l
  | []=>by simp [US]
  | y::l=>by simp [US,Rr (l:=l)]
theorem GV{l m:List Nat}(h:SE l m=true) :∀ x,x∈l→x∈m→False:=by
  induction l with
  | nil=>intro x hx;cases hx
  | cons y l ih =>
    simp only [SE,Bool.and_eq_true,Bool.not_eq_true'] at h
    intro x hx hm
    rcases List.mem_cons.1 hx with rfl | hx
    · have:=Rr.2 hm;rw [this] at h;cases h.1
    · exact ih h.2 x hx hm
def xb(ops:Array Oper)(o:Oper)(r:GQ)(o':Oper)(r':GQ) :Bool :=
  SE o.dst.toList (zt ops o')&&(SE o'.dst.toList (zt ops o)&&(SE (xB r.sets) (r'.reads++xB r'.sets)&&SE (xB r'.sets) (r.reads++xB r.sets)))
def Fu(ops:Array Oper)(mask:Nat)(o':Oper)(r':GQ) :Nat→List (Oper×GQ)→Bool
  | _,[]=>true
  | i,x::l=>(mask.testBit i||xb ops x.1 x.2 o' r')&&Fu ops mask o' r' (i+1) l
def M1(ops:Array Oper) :List (Oper×GQ)→List Nat→List (Oper×GQ)→Bool
  | _,_,[]=>true
  | pre,ms,x::l =>
    x.1.after.toList.all (fun e=>!Region.binds .any e||Nat.blt e.on pre.length) &&
    (Fu ops (GU ms x.1) x.1 x.2 0 pre&&M1 ops (pre++[x]) (ms++[GU ms x.1]) l)
def vZ(L:Nat→Bool) :Nat→List (Oper×GQ)→List AV×fj→List AV×fj
  | _,[],s=>s
  | i,x::l,s=>vZ L (i+1) l (bif L i then (I6 s.1 x.1.dst x.2.v,ib x.2.sets s.2) else s)
theorem Ja(T:List AV)(d:Option Nat)(v:AV)(t:Nat) :(I6 T d v)[t]? = if d=some t then (T[t]?).map (fun _=>v) else T[t]?:=by
  cases d with
  | none=>simp [I6]
  | some d =>
    simp only [I6,Option.some.injEq]
    rw [List.getElem?_set]
    by_cases h:d=t
    · subst h
      simp only [if_true]
      by_cases hl:d<T.length
      · simp [hl]
      · simp [hl]
    · simp [h]
theorem ya{h h':fj}{b:Nat} :∀ (s:List (Nat×Option ba)) {h h':fj},bQ h b=bQ h' b→bQ (ib s h) b=bQ (ib s h') b
  | [],_,_,e=>e
  | (c,some d)::s,h,h',e=>by
    simp only [ib]
    exact ya (h:=h) (h':=h') s (by rw [iV,iV,e])
  | (c,none)::s,h,h',e=>by
    simp only [ib]
    exact ya (h:=h) (h':=h') s (by rw [xv,xv,e])
theorem yb{b:Nat} :∀ (s:List (Nat×Option ba)) {h:fj},b ∉ xB s→bQ (ib s h) b=bQ h b
  | [],_,_=>rfl
  | (c,some d)::s,h,hb=>by
    simp only [xB,List.map_cons,List.mem_cons,not_or] at hb
    simp only [ib]
    rw [yb s hb.2,iV,if_neg (fun e=>hb.1 e.symm)]
  | (c,none)::s,h,hb=>by
    simp only [xB,List.map_cons,List.mem_cons,not_or] at hb
    simp only [ib]
    rw [yb s hb.2,xv,if_neg (fun e=>hb.1 e.symm)]
theorem Qb{L L':Nat→Bool}{t:Nat} :∀ (l:List (Oper×GQ)) (i:Nat) {s s':List AV×fj},(∀ k x,l[k]? = some x→x.1.dst=some t→L (i+k)=L' (i+k))→s.1[t]? = s'.1[t]?→(vZ L i l s).1[t]? = (vZ L' i l s').1[t]?
  | [],_,_,_,_,e=>e
  | x::l,i,s,s',h,e=>by
    simp only [vZ]
    refine Qb l (i+1) (fun k y hy hd=>by have:=h (k+1) y (by simpa using hy) hd;rw [show i+1+k=i+(k+1) from by omega];exact this) ?_
    by_cases hd:x.1.dst=some t
    · have:=h 0 x (by simp) hd
      simp only [Nat.add_zero] at this
      rw [this]
      cases L' i with
      | true=>simp only [cond_true,Ja,hd,if_true,e]
      | false=>exact e
    · cases L i<;>cases L' i<;>simp only [cond_true,cond_false,Ja,if_neg hd,e]
theorem Qc{L L':Nat→Bool}{b:Nat} :∀ (l:List (Oper×GQ)) (i:Nat) {s s':List AV×fj},(∀ k x,l[k]? = some x→b∈xB x.2.sets→L (i+k)=L' (i+k))→bQ s.2 b=bQ s'.2 b→bQ (vZ L i l s).2 b=bQ (vZ L' i l s').2 b
  | [],_,_,_,_,e=>e
  | x::l,i,s,s',h,e=>by
    simp only [vZ]
    refine Qc l (i+1) (fun k y hy hd=>by have:=h (k+1) y (by simpa using hy) hd;rw [show i+1+k=i+(k+1) from by omega];exact this) ?_
    by_cases hd:b∈xB x.2.sets
    · have:=h 0 x (by simp) hd
      simp only [Nat.add_zero] at this
      rw [this]
      cases L' i with
      | true=>simp only [cond_true];exact ya (h:=s.2) (h':=s'.2) _ e
      | false=>exact e
    · cases L i<;>cases L' i<;>simp only [cond_true,cond_false,yb _ hd,e]
def gq:List (Oper×GQ)→List AV×fj→List AV×fj
  | [],s=>s
  | x::l,s=>gq l (I6 s.1 x.1.dst x.2.v,ib x.2.sets s.2)
theorem M2(l m:List (Oper×GQ))(s:List AV×fj) :gq (l++m) s=gq m (gq l s):=by
  induction l generalizing s with
  | nil=>rfl
  | cons x l ih=>simp only [List.cons_append,gq,ih]
theorem Mv:∀ (l:List (Oper×GQ)) (i j:Nat) (s:List AV×fj),vZ (fun k=>decide (k<i+j)) i l s=gq (l.take j) s
  | [],i,j,s=>by simp [vZ,gq]
  | x::l,i,0,s=>by
    have:∀ (l:List (Oper×GQ)) (i':Nat),i≤i'→∀ s,vZ (fun k=>decide (k<i+0)) i' l s=s:=by
      intro l
      induction l with
      | nil=>intro _ _ s;rfl
      | cons y l ih =>
        intro i' hi s
        simp only [vZ]
        have:decide (i'<i+0)=false:=by simp;omega
        rw [this];exact ih (i'+1) (by omega) s
    simp only [List.take_zero,gq]
    exact this _ i (Nat.le_refl _) s
  | x::l,i,j+1,s=>by
    simp only [vZ,List.take_succ_cons,gq]
    have h1:decide (i<i+(j+1))=true:=by simp
    rw [h1]
    simp only [cond_true]
    have:=Mv l (i+1) j (I6 s.1 x.1.dst x.2.v,ib x.2.sets s.2)
    rw [show i+1+j=i+(j+1) from by omega] at this
    exact this
structure UT (ops:Array Oper) (l:List (Oper×GQ)) (ms:List Nat):Prop where
  edge:∀ (j:Nat) (x:Oper×GQ),l[j]? = some x→∀ e∈x.1.after,Region.binds .any e=true→e.on<j
  mask:∀ (j:Nat) (x:Oper×GQ),l[j]? = some x→∃ m:Nat,ms[j]? = some m∧∀ i:Nat,m.testBit i=true→∃ e∈x.1.after,Region.binds .any e=true∧(e.on=i∨∃ m':Nat,ms[e.on]? = some m'∧m'.testBit i=true)
  pair:∀ (i j:Nat) (x y:Oper×GQ),l[i]? = some x→l[j]? = some y→i<j→(∃ m:Nat,ms[j]? = some m∧m.testBit i=true)∨xb ops x.1 x.2 y.1 y.2=true
theorem M3(ms:List Nat) :∀ (es:List Edge) (m0 i:Nat),(es.foldl (fun m e=>bif Region.binds .any e then m ||| (2^e.on ||| ms.getD e.on 0) else m) m0).testBit i=true →
    m0.testBit i=true∨∃ e∈es,Region.binds .any e=true∧(e.on=i∨(ms.getD e.on 0).testBit i=true)
  | [],m0,i,h=>.inl h
  | e::es,m0,i,h=>by
    simp only [List.foldl_cons] at h
    rcases M3 ms es _ i h with h | ⟨e',h1,h2,h3⟩
    · cases hb:Region.binds .any e with
      | false=>rw [hb] at h;exact .inl h
      | true =>
        rw [hb] at h
        simp only [cond_true,Nat.testBit_or,Bool.or_eq_true,Nat.testBit_two_pow,decide_eq_true_eq] at h
        rcases h with h | h | h
        · exact .inl h
        · exact .inr ⟨e,by simp,hb,.inl h⟩
        · exact .inr ⟨e,by simp,hb,.inr h⟩
    · exact .inr ⟨e',by simp [h1],h2,h3⟩
theorem Hu{ops:Array Oper}{mask:Nat}{o':Oper}{r':GQ} :∀ {l:List (Oper×GQ)} {i:Nat},Fu ops mask o' r' i l=true→∀ k x,l[k]? = some x→mask.testBit (i+k)=true∨xb ops x.1 x.2 o' r'=true
  | [],_,_,k,x,h=>by simp at h
  | y::l,i,h,0,x,hx=>by
    simp only [Fu,Bool.and_eq_true,Bool.or_eq_true] at h
    simp at hx;subst hx;simpa using h.1
  | y::l,i,h,k+1,x,hx=>by
    simp only [Fu,Bool.and_eq_true,Bool.or_eq_true] at h
    have:=Hu h.2 k x (by simpa using hx)
    rw [show i+1+k=i+(k+1) from by omega] at this;exact this
theorem K7{ops:Array Oper} :∀ (l pre:List (Oper×GQ)) (ms:List Nat),ms.length=pre.length→M1 ops pre ms l=true→UT ops pre ms→∃ ms',UT ops (pre++l) ms'
  | [],pre,ms,_,_,D=>⟨ms,by simpa using D⟩
  | x::l,pre,ms,hl,h,D=>by
    simp only [M1,Bool.and_eq_true] at h
    obtain ⟨h1,h2,h3⟩:=h
    have:=K7 l (pre++[x]) (ms++[GU ms x.1]) (by simp [hl]) h3 ?_
    · simpa using this
    have old:∀ (j:Nat) (y:Oper×GQ),(pre++[x])[j]? = some y→(j<pre.length∧pre[j]? = some y)∨(j=pre.length∧y=x):=by
      intro j y hy
      rw [List.getElem?_append] at hy
      split at hy
      · rename_i q;exact .inl ⟨q,hy⟩
      · rename_i q
        have:j-pre.length=0:=by
          rcases Nat.eq_zero_or_pos (j-pre.length) with r | r
          · exact r
          · rw [List.getElem?_eq_none (by simp;omega)] at hy;cases hy
        rw [this] at hy;simp at hy;exact .inr ⟨by omega,hy.symm⟩
    have msl:∀ (j m:Nat),ms[j]? = some m→(ms++[GU ms x.1])[j]? = some m:=by
      intro j m hm
      rw [List.getElem?_append_left (List.getElem?_eq_some_iff.1 hm).1];exact hm
    have msn:(ms++[GU ms x.1])[pre.length]? = some (GU ms x.1):=by
      rw [←hl,List.getElem?_append_right (Nat.le_refl _)];simp
    have hedge:∀ e∈x.1.after,Region.binds .any e=true→e.on<pre.length:=by
      intro e he hb
      have:=List.all_eq_true.1 h1 e (by simpa using he)
      rw [hb] at this
      simpa [Nat.blt_eq] using this
    refine ⟨fun j y hy=>?_,fun j y hy=>?_,fun i j a b ha hb hij=>?_⟩
    · rcases old j y hy with ⟨q,hy⟩ | ⟨rfl,rfl⟩
      · exact D.edge j y hy
      · exact hedge
    · rcases old j y hy with ⟨q,hy⟩ | ⟨rfl,rfl⟩
      · obtain ⟨m,k1,k2⟩:=D.mask j y hy
        refine ⟨m,msl j m k1,fun i hi=>?_⟩
        obtain ⟨e,e1,e2,e3⟩:=k2 i hi
        exact ⟨e,e1,e2,e3.imp id fun ⟨m',q1,q2⟩=>⟨m',msl _ m' q1,q2⟩⟩
      · refine ⟨_,msn,fun i hi=>?_⟩
        rcases M3 ms y.1.after.toList 0 i hi with q | ⟨e,e1,e2,e3⟩
        · simp at q
        · refine ⟨e,by simpa using e1,e2,e3.imp id fun q=>?_⟩
          rw [List.getD_eq_getElem?_getD] at q
          cases hm:ms[e.on]? with
          | none=>rw [hm] at q;simp at q
          | some m'=>rw [hm] at q;exact ⟨m',msl _ m' hm,q⟩
    · rcases old j b hb with ⟨q,hb⟩ | ⟨rfl,rfl⟩
      · rcases old i a ha with ⟨q',ha⟩ | ⟨rfl,rfl⟩
        · exact (D.pair i j a b ha hb hij).imp (fun ⟨m,k1,k2⟩=>⟨m,msl j m k1,k2⟩) id
        · omega
      · rcases old i a ha with ⟨q',ha⟩ | ⟨rfl,rfl⟩
        · have:=Hu h2 i a ha
          rw [Nat.zero_add] at this
          exact this.imp (fun k=>⟨_,msn,k⟩) id
        · omega
theorem SF{l:List Operand}{t:Nat}(h:Operand.tmp t∈l) :t∈SD l:=by
  simp only [SD,List.mem_filterMap];exact ⟨_,h,rfl⟩
theorem Rs{C:It}{run:lR}{ops:Array Oper}{n0 i:Nat}{o:Oper}{T T':List AV}{h h':fj}{p p':nO}{r:GQ}{obs:List Bool}(hr:I5 C run ops n0 i o T h p=some (r,obs,p')) 
    (hT:∀ t∈zt ops o,T'[t]? = T[t]?) (hh:∀ b∈r.reads,bQ h' b=bQ h b):I5 C run ops n0 i o T' h' p=some (r,obs,p'):=by
  have hw:GS ops o T'=GS ops o T:=by
    unfold GS
    cases hg:o.guard with
    | none=>rfl
    | some x =>
      obtain ⟨j,want⟩:=x
      simp only
      cases hs:GR ops j with
      | none=>rfl
      | some d=>simp only;rw [hT d (by simp [zt,hg,hs])]
  unfold I5 at hr ⊢
  rw [hw]
  split at hr
  · cases hr
  · exact hr
  · split at hr
    · cases hr
    · rename_i r' hop
      have:WZ C run (VY T') (bQ h') (n0+i*yx) p o.op=some r':=by
        refine TV hop (fun x hx=>?_) (fun b hb=>?_)
        · cases x with
          | tmp t=>simp only [VY];rw [hT t (by simp only [zt,List.mem_append];exact .inr (.inl (SF (by simpa using hx))))]
          | _=>rfl
        · apply hh
          split at hr
          · cases hr
          · simp only [Option.some.injEq,Prod.mk.injEq] at hr;rw [←hr.1];exact hb
      simp only [this]
      exact hr
def M4(C:It)(run:lR)(ops:Array Oper)(n0:Nat) :Nat→List Oper→List AV→fj→nO→Option (List GQ×List AV×fj×List Bool×nO)
  | _,[],T,h,p=>some ([],T,h,[],p)
  | i,o::l,T,h,p =>
    match I5 C run ops n0 i o T h p with
    | none=>none
    | some (r,obs,p') =>
      match M4 C run ops n0 (i+1) l (I6 T o.dst r.v) (ib r.sets h) p' with
      | none=>none
      | some (rs,T',h',obs',p'')=>some (r::rs,T',h',obs++obs',p'')
theorem K8{C:It}{run:lR}{ops:Array Oper}{n0:Nat} :∀ (l:List Oper) (i:Nat) {T T':List AV} {h h':fj} {p p':nO} {obs:List Bool} {rs:List GQ},M4 C run ops n0 i l T h p=some (rs,T',h',obs,p')→aY obs →
    rs.length=l.length∧gq (l.zip rs) (T,h)=(T',h')∧∀ (j:Nat) (o:Oper),l[j]? = some o→∃ r obs' q q',rs[j]? = some r∧aY obs' ∧
      I5 C run ops n0 (i+j) o (gq ((l.zip rs).take j) (T,h)).1 (gq ((l.zip rs).take j) (T,h)).2 q=some (r,obs',q')
  | [],i,T,T',h,h',p,p',obs,rs,hr,_=>by
    simp only [M4,Option.some.injEq,Prod.mk.injEq] at hr;obtain ⟨rfl,rfl,rfl,rfl,rfl⟩:=hr
    exact ⟨rfl,rfl,fun j o h=>by simp at h⟩
  | o::l,i,T,T',h,h',p,p',obs,rs,hr,ho=>by
    simp only [M4] at hr
    split at hr
    case h_1=>cases hr
    rename_i r obs1 p1 h1
    split at hr
    case h_1=>cases hr
    rename_i rs2 T2 h2 obs2 p2 h3
    simp only [Option.some.injEq,Prod.mk.injEq] at hr;obtain ⟨rfl,rfl,rfl,rfl,rfl⟩:=hr
    rw [ck] at ho
    obtain ⟨a1,a2,a3⟩:=K8 l (i+1) h3 ho.2
    refine ⟨by simp [a1],by simpa [gq] using a2,fun j o' hj=>?_⟩
    cases j with
    | zero=>simp at hj;subst hj;exact ⟨r,obs1,p,p1,by simp,ho.1,by simpa [gq] using h1⟩
    | succ j =>
      obtain ⟨r',ob,q,q',b1,b2,b3⟩:=a3 j o' (by simpa using hj)
      refine ⟨r',ob,q,q',by simpa using b1,b2,?_⟩
      rw [show i+(j+1)=i+1+j from by omega]
      simpa [gq] using b3
theorem Pt{p q:Nat→Bool} :∀ {l:List Nat} {j:Nat},j∈l→p j=true→q j=false→(∀ i,q i=true→p i=true)→l.countP q<l.countP p
  | [],_,h,_,_,_=>by cases h
  | x::l,j,h,hp,hq,hi=>by
    have mono:∀ l:List Nat,l.countP q≤l.countP p:=fun l=>List.countP_mono_left fun x _=>hi x
    simp only [List.countP_cons]
    rcases List.mem_cons.1 h with rfl | h
    · rw [hp,hq];have:=mono l;simp;omega
    · have:=Pt h hp hq hi
      by_cases hx:q x=true
      · rw [hx,hi x hx];omega
      · have hq':q x=false:=by simpa using hx
        rw [hq'];simp only [Bool.false_eq_true,if_false];split<;>omega
theorem V3{i j y:Nat}(h1:i*yx≤y)(h2:y<i*yx+yx)(h3:j*yx≤y)(h4:y<j*yx+yx) :i=j:=by
  have hS:0<yx:=by decide
  have a:y/yx=i:=by rw [Nat.div_eq_iff hS];omega
  have b:y/yx=j:=by rw [Nat.div_eq_iff hS];omega
  omega
theorem UU{C:It}(hC:C.Ok){run:lR}(hrun:MW C.P run){ops:Array Oper}{n0:Nat}{T0:List AV}{h0:fj}{rs:List GQ}{ms:List Nat}(D:UT ops (ops.toList.zip rs) ms)(hlen:rs.length=ops.size) 
    (each:∀ (j:Nat) (o:Oper),ops.toList[j]? = some o→∃ r obs' q q',rs[j]? = some r∧aY obs' ∧
      I5 C run ops n0 j o (gq ((ops.toList.zip rs).take j) (T0,h0)).1 (gq ((ops.toList.zip rs).take j) (T0,h0)).2 q=some (r,obs',q'))
    {Q:Exit→Act→World→Prop}:∀ (fuel:Nat) (listed:Array Bool),listed.size=ops.size→(∀ (j:Nat) (o:Oper),ops[j]? = some o→listed.getD j false=true→∀ e∈o.after,Region.binds .any e=true→listed.getD e.on false=true) →
      (List.range ops.size).countP (fun i=>!listed.getD i false)≤fuel→∀ {ρ:aH} {w:World} {a:Act},HR ρ w (vZ (fun i=>listed.getD i false) 0 (ops.toList.zip rs) (T0,h0)).2 (n0+ops.size*yx) →
      (∀ b,ρ.ok b→b<n0∨∃ i,listed.getD i false=true∧n0+i*yx≤b∧b<n0+i*yx+yx)→a.defers=[]→jk ρ w (vZ (fun i=>listed.getD i false) 0 (ops.toList.zip rs) (T0,h0)).1 a.tmps.toList →
      (∀ ρ' w' a',vY ρ ρ' w→rc ρ.live w w'→HR ρ' w' (gq (ops.toList.zip rs) (T0,h0)).2 (n0+ops.size*yx)→a'.defers=[]→jk ρ' w' (gq (ops.toList.zip rs) (T0,h0)).1 a'.tmps.toList→(∀ b,ρ'.ok b→ρ.ok b∨n0≤b)→Q .normal a' w') →
      wpAny C.P .any ops Q fuel listed a w:=by
  have hzl:(ops.toList.zip rs).length=ops.size:=by simp [hlen]
  have zget:∀ (j:Nat) (o:Oper) (r:GQ),ops[j]? = some o→rs[j]? = some r→(ops.toList.zip rs)[j]? = some (o,r):=by
    intro j o r h1 h2
    rw [List.getElem?_zip_eq_some];exact ⟨by simpa using h1,h2⟩
  have zinv:∀ (j:Nat) (x:Oper×GQ),(ops.toList.zip rs)[j]? = some x→ops[j]? = some x.1∧rs[j]? = some x.2:=by
    intro j x hx
    have:=List.getElem?_zip_eq_some.1 (show (ops.toList.zip rs)[j]? = some (x.1,x.2) from hx)
    exact ⟨by simpa using this.1,this.2⟩

  have allL:∀ (listed:Array Bool),listed.size=ops.size→(∀ i,i<ops.size→listed.getD i false=true)→vZ (fun i=>listed.getD i false) 0 (ops.toList.zip rs) (T0,h0)=gq (ops.toList.zip rs) (T0,h0):=by
    intro listed hs hall
    have:∀ (l:List (Oper×GQ)) (i:Nat) (s:List AV×fj),i+l.length≤ops.size→vZ (fun i=>listed.getD i false) i l s=gq l s:=by
      intro l
      induction l with
      | nil=>intro _ _ _;rfl
      | cons x l ih =>
        intro i s hi
        simp only [List.length_cons] at hi
        simp only [vZ,gq]
        rw [hall i (by omega)]
        exact ih (i+1) _ (by omega)
    exact this _ 0 _ (by rw [hzl];omega)

  have down:∀ (listed:Array Bool),(∀ (j:Nat) (o:Oper),ops[j]? = some o→listed.getD j false=true→∀ e∈o.after,Region.binds .any e=true→listed.getD e.on false=true) →
      ∀ (j:Nat) (o:Oper),ops[j]? = some o→(∀ e∈o.after,Region.binds .any e=true→listed.getD e.on false=true)→∀ (i m:Nat),ms[j]? = some m→m.testBit i=true→listed.getD i false=true:=by
    intro listed hcl j
    induction j using Nat.strongRecOn with
    | _ j ih =>
      intro o ho hpre i m hm hbit
      have hlt:j<ops.size:=(Array.getElem?_eq_some_iff.1 ho).1
      obtain ⟨r,hr⟩:∃ r,rs[j]? = some r:=⟨rs[j]'(by omega),List.getElem?_eq_getElem (by omega)⟩
      have hz:=zget j o r ho hr
      obtain ⟨m',k1,k2⟩:=D.mask j _ hz
      rw [hm] at k1;cases k1
      obtain ⟨e,e1,e2,e3⟩:=k2 i hbit
      have hL:=hpre e e1 e2
      rcases e3 with rfl | ⟨m'',q1,q2⟩
      · exact hL
      · have hej:=D.edge j _ hz e e1 e2
        have hon:e.on<ops.size:=by omega
        exact ih e.on hej _ (Array.getElem?_eq_getElem hon) (hcl e.on _ (Array.getElem?_eq_getElem hon) hL) i m'' q1 q2
  intro fuel
  induction fuel with
  | zero =>
    intro listed hs hcl hcnt ρ w a hh hok hd hT hQ
    have hall:∀ i,i<ops.size→listed.getD i false=true:=by
      intro i hi
      have h0:=List.countP_eq_zero.1 (Nat.le_zero.1 hcnt) i (List.mem_range.2 hi)
      simpa using h0
    simp only [wpAny]
    refine ⟨?_,?_⟩
    · cases hr:Region.ready .any ops listed with
      | nil=>rfl
      | cons x xs =>
        have hx:x∈Region.ready .any ops listed:=by rw [hr];simp
        obtain ⟨k1,o,k2,_⟩:=mem_ready.1 hx
        have hlt:x<ops.size:=(Array.getElem?_eq_some_iff.1 k2).1
        have:=hall x hlt
        rw [Array.getD_eq_getD_getElem?,Array.getElem?_eq_getElem (by omega)] at this k1
        simp only [Option.getD_some] at this k1
        rw [this] at k1;cases k1
    · rw [allL listed hs hall] at hh hT
      exact hQ ρ w a (vY.refl _ _) (rc.refl _ _) hh hd hT (fun b q=>.inl q)
  | succ fuel ih =>
    intro listed hs hcl hcnt ρ w a hh hok hd hT hQ
    simp only [wpAny]
    have sameD:∀ j,j<ops.size→listed.getD j true=listed.getD j false:=by
      intro j hj
      rw [Array.getD_eq_getD_getElem?,Array.getD_eq_getD_getElem?,Array.getElem?_eq_getElem (by omega)];rfl
    refine ⟨fun hr=>?_,fun j hj=>?_⟩
    · have hall:∀ i,i<ops.size→listed.getD i false=true:=by
        intro i
        induction i using Nat.strongRecOn with
        | _ i ihi =>
          intro hi
          cases hl:listed.getD i false with
          | true=>rfl
          | false =>
            have ho:=Array.getElem?_eq_getElem hi
            obtain ⟨r,hrr⟩:∃ r,rs[i]? = some r:=⟨rs[i]'(by omega),List.getElem?_eq_getElem (by omega)⟩
            have hz:=zget i _ r ho hrr
            have:i∈Region.ready .any ops listed:=mem_ready.2 ⟨by rw [sameD i hi];exact hl,_,ho,fun e he hb=>ihi e.on (D.edge i _ hz e he hb) (by have:=D.edge i _ hz e he hb;omega)⟩
            rw [hr] at this;cases this
      rw [allL listed hs hall] at hh hT
      exact hQ ρ w a (vY.refl _ _) (rc.refl _ _) hh hd hT (fun b q=>.inl q)
    · obtain ⟨k1,o,ho,hpre⟩:=mem_ready.1 hj
      have hlt:j<ops.size:=(Array.getElem?_eq_some_iff.1 ho).1
      rw [sameD j hlt] at k1
      obtain ⟨r,obs',q,q',hr,hob,hone⟩:=each j o (by simpa using ho)
      have hz:=zget j o r ho hr

      have agree:∀ (i:Nat) (x:Oper×GQ),(ops.toList.zip rs)[i]? = some x→i≠j→xb ops x.1 x.2 o r=false→xb ops o r x.1 x.2=false→listed.getD i false=decide (i<j):=by
        intro i x hx hne n1 n2
        have hxi:=zinv i x hx
        rcases Nat.lt_or_gt_of_ne hne with hij | hij
        · rcases D.pair i j x (o,r) hx hz hij with ⟨m,hm,hb⟩ | hap
          · rw [down listed hcl j o ho hpre i m hm hb];simp [hij]
          · simp only at hap;rw [n1] at hap;cases hap
        · rcases D.pair j i (o,r) x hz hx hij with ⟨m,hm,hb⟩ | hap
          · have : ¬ i<j:=by omega
            simp only [this,decide_false]
            cases hl:listed.getD i false with
            | false=>rfl
            | true =>
              have:=down listed hcl i x.1 hxi.1 (hcl i x.1 hxi.1 hl) j m hm hb
              rw [k1] at this;cases this
          · simp only at hap;rw [n2] at hap;cases hap
      have napT:∀ (x:Oper×GQ) (t:Nat),x.1.dst=some t→t∈zt ops o→xb ops x.1 x.2 o r=false∧xb ops o r x.1 x.2=false:=by
        intro x t hdst ht
        constructor
        · cases hap:xb ops x.1 x.2 o r with
          | false=>rfl
          | true=>simp only [xb,Bool.and_eq_true] at hap;exact (GV hap.1 t (by simp [hdst]) ht).elim
        · cases hap:xb ops o r x.1 x.2 with
          | false=>rfl
          | true=>simp only [xb,Bool.and_eq_true] at hap;exact (GV hap.2.1 t (by simp [hdst]) ht).elim
      have napH:∀ (x:Oper×GQ) (b:Nat),b∈xB x.2.sets→b∈r.reads++xB r.sets→xb ops x.1 x.2 o r=false∧xb ops o r x.1 x.2=false:=by
        intro x b hx hb
        constructor
        · cases hap:xb ops x.1 x.2 o r with
          | false=>rfl
          | true=>simp only [xb,Bool.and_eq_true] at hap;exact (GV hap.2.2.1 b hx hb).elim
        · cases hap:xb ops o r x.1 x.2 with
          | false=>rfl
          | true=>simp only [xb,Bool.and_eq_true] at hap;exact (GV hap.2.2.2 b hx hb).elim
      have eqT:∀ t∈zt ops o,(vZ (fun i=>listed.getD i false) 0 (ops.toList.zip rs) (T0,h0)).1[t]? = (gq ((ops.toList.zip rs).take j) (T0,h0)).1[t]?:=by
        intro t ht
        have:=Mv (ops.toList.zip rs) 0 j (T0,h0)
        rw [←this]
        refine Qb _ 0 (fun k x hx hdst=>?_) rfl
        rw [Nat.zero_add,Nat.zero_add]
        by_cases hkj:k=j
        · subst hkj;rw [k1];simp
        · obtain ⟨n1,n2⟩:=napT x t hdst ht;exact agree k x hx hkj n1 n2
      have eqH:∀ b∈r.reads++xB r.sets,bQ (vZ (fun i=>listed.getD i false) 0 (ops.toList.zip rs) (T0,h0)).2 b=bQ (gq ((ops.toList.zip rs).take j) (T0,h0)).2 b:=by
        intro b hb
        have:=Mv (ops.toList.zip rs) 0 j (T0,h0)
        rw [←this]
        refine Qc _ 0 (fun k x hx lQ=>?_) rfl
        rw [Nat.zero_add,Nat.zero_add]
        by_cases hkj:k=j
        · subst hkj;rw [k1];simp
        · obtain ⟨n1,n2⟩:=napH x b lQ hb;exact agree k x hx hkj n1 n2
      have hloc:=Rs hone eqT (fun b hb=>eqH b (by simp [hb]))

      have L'eq:∀ i,(listed.setIfInBounds j true).getD i false=if i=j then true else listed.getD i false:=by
        intro i
        by_cases hij:i=j
        · subst hij;rw [if_pos rfl,Array.getD_eq_getD_getElem?];simp [hs,hlt]
        · rw [if_neg hij];exact getD_set_ne false (fun e=>hij e.symm)
      have step1:=Mv (ops.toList.zip rs) 0 (j+1) (T0,h0)
      have hsplit:gq ((ops.toList.zip rs).take (j+1)) (T0,h0)=(I6 (gq ((ops.toList.zip rs).take j) (T0,h0)).1 o.dst r.v,ib r.sets (gq ((ops.toList.zip rs).take j) (T0,h0)).2):=by
        have hjl:j<(ops.toList.zip rs).length:=by rw [hzl];exact hlt
        have:(ops.toList.zip rs).take (j+1)=(ops.toList.zip rs).take j++[(o,r)]:=by
          rw [List.take_succ_eq_append_getElem hjl]
          have:=List.getElem?_eq_getElem hjl
          rw [hz] at this
          rw [←Option.some.inj this]
        rw [this,M2];rfl
      have newT:∀ t:Nat,(I6 (vZ (fun i=>listed.getD i false) 0 (ops.toList.zip rs) (T0,h0)).1 o.dst r.v)[t]? = (vZ (fun i=>(listed.setIfInBounds j true).getD i false) 0 (ops.toList.zip rs) (T0,h0)).1[t]?:=by
        intro t
        rw [Ja]
        by_cases hdst:o.dst=some t
        · rw [if_pos hdst]
          have e1:=eqT t (by simp [zt,hdst])
          rw [e1]
          have e2:(vZ (fun i=>(listed.setIfInBounds j true).getD i false) 0 (ops.toList.zip rs) (T0,h0)).1[t]? = (gq ((ops.toList.zip rs).take (j+1)) (T0,h0)).1[t]?:=by
            rw [←step1]
            refine Qb _ 0 (fun k x hx hd2=>?_) rfl
            rw [Nat.zero_add,Nat.zero_add,L'eq]
            by_cases hkj:k=j
            · subst hkj;simp
            · rw [if_neg hkj]
              obtain ⟨n1,n2⟩:=napT x t hd2 (by simp [zt,hdst])
              rw [agree k x hx hkj n1 n2]
              by_cases q:k<j<;>simp [q]<;>omega
          rw [e2,hsplit,Ja,if_pos hdst]
        · rw [if_neg hdst]
          refine Qb _ 0 (fun k x hx hd2=>?_) rfl
          rw [Nat.zero_add,L'eq]
          by_cases hkj:k=j
          · subst hkj;rw [hz] at hx;cases hx;exact absurd hd2 hdst
          · rw [if_neg hkj]
      have newH:∀ b:Nat,bQ (vZ (fun i=>(listed.setIfInBounds j true).getD i false) 0 (ops.toList.zip rs) (T0,h0)).2 b=bQ (ib r.sets (vZ (fun i=>listed.getD i false) 0 (ops.toList.zip rs) (T0,h0)).2) b:=by
        intro b
        by_cases hb:b∈xB r.sets
        · rw [ya (h:=(vZ (fun i=>listed.getD i false) 0 (ops.toList.zip rs) (T0,h0)).2) (h':=(gq ((ops.toList.zip rs).take j) (T0,h0)).2) r.sets (eqH b (by simp [hb]))]
          have e2:bQ (vZ (fun i=>(listed.setIfInBounds j true).getD i false) 0 (ops.toList.zip rs) (T0,h0)).2 b=bQ (gq ((ops.toList.zip rs).take (j+1)) (T0,h0)).2 b:=by
            rw [←step1]
            refine Qc _ 0 (fun k x hx hd2=>?_) rfl
            rw [Nat.zero_add,Nat.zero_add,L'eq]
            by_cases hkj:k=j
            · subst hkj;simp
            · rw [if_neg hkj]
              obtain ⟨n1,n2⟩:=napH x b hd2 (by simp [hb])
              rw [agree k x hx hkj n1 n2]
              by_cases q:k<j<;>simp [q]<;>omega
          rw [e2,hsplit]
        · rw [yb _ hb]
          refine Qc _ 0 (fun k x hx hd2=>?_) rfl
          rw [Nat.zero_add,L'eq]
          by_cases hkj:k=j
          · subst hkj;rw [hz] at hx;cases hx;exact absurd hd2 hb
          · rw [if_neg hkj]
      have hS:j*yx+yx≤ops.size*yx:=by rw [←Nat.succ_mul];exact Nat.mul_le_mul_right _ hlt
      refine K6 hC hrun ho hloc hob hh (fun x h1 h2 hbad=>?_) (by omega) hd hT ?_
      · rcases hok _ hbad with q | ⟨i,q1,q2,q3⟩
        · omega
        · have:i=j:=V3 (y:=x-n0) (by omega) (by omega) (by omega) (by omega)
          subst this;rw [k1] at q1;cases q1
      intro ρ' w' a' E W hh' hd' hT' hok'
      have hlist:I6 (vZ (fun i=>listed.getD i false) 0 (ops.toList.zip rs) (T0,h0)).1 o.dst r.v=(vZ (fun i=>(listed.setIfInBounds j true).getD i false) 0 (ops.toList.zip rs) (T0,h0)).1:=List.ext_getElem? newT
      rw [hlist] at hT'
      refine ih (listed.setIfInBounds j true) (by simpa using hs) (fun i x hx hl e he hb=>?_) ?_ (hh'.congr newH) (fun b hb=>?_) hd' hT' ?_
      · rw [L'eq] at hl ⊢
        by_cases hij:i=j
        · subst hij
          rw [ho] at hx;cases hx
          split
          · rfl
          · exact hpre e he hb
        · rw [if_neg hij] at hl
          split
          · rfl
          · exact hcl i x hx hl e he hb
      · have:=Pt (l:=List.range ops.size) (j:=j) (p:=fun i=>!listed.getD i false) (q:=fun i=>!(listed.setIfInBounds j true).getD i false) (List.mem_range.2 hlt) (by simp only [k1];rfl) (by simp only [L'eq,if_true];rfl)
          (fun i hi=>by
            simp only [L'eq] at hi ⊢
            split at hi
            · cases hi
            · exact hi)
        omega
      · rcases hok' b hb with q | q
        · rcases hok b q with q | ⟨i,q1,q2⟩
          · exact .inl q
          · refine .inr ⟨i,?_,q2⟩
            rw [L'eq];split
            · rfl
            · exact q1
        · exact .inr ⟨j,by rw [L'eq,if_pos rfl],q⟩
      · intro ρ'' w'' a'' E' W' hh'' hd'' hT'' hb''
        exact hQ ρ'' w'' a'' (E.trans E' W.size) (W.trans W' (fun x hx q=>E.new x hx q)) hh'' hd'' hT'' (fun b q=>by
          rcases hb'' b q with q | q
          · rcases hok' b q with q | q
            · exact .inl q
            · exact .inr (by omega)
          · exact .inr q)
theorem BJ{d:ba}(h:d.kept=true) :d.foreign=true:=by
  cases d<;>first | rfl | exact pP h
mutual
def Pu (g:Nat→Option ba):Nat→AV→AV
  | 0,_=>.any
  | n+1,v =>
    match v with
    | .ptr b w i j=>match g b with
      | some d=>let d':=Fv g n d;bif d'.kept then .iptr .free d' w i j else .any
      | none=>.any
    | .sl b w es i len _=>match g b with
      | some d=>let d':=Fv g n d;bif d'.kept then .imm .free d' w es i len else .any
      | none=>.any
    | .fn f l1 l2=>.fn f (M5 g n l1) (M5 g n l2)
    | .agg l=>.agg (M5 g n l)
    | .tup l=>.tup (M5 g n l)
    | .iface t v=>.iface t (Pu g n v)
    | v=>v
def M5 (g:Nat→Option ba):Nat→List AV→List AV
  | 0,l=>l.map fun _=>.any
  | n+1,l =>
    match l with
    | []=>[]
    | v::l=>Pu g n v::M5 g n l
def Fv (g:Nat→Option ba):Nat→ba→ba
  | 0,_=>.vs []
  | n+1,d =>
    match d with
    | .vs l=>.vs (M5 g n l)
    | d=>d
end
theorem M6(g:Nat→Option ba)(n:Nat)(d:ba)(h:d.recKept) :(Fv g n d).recKept:=by
  cases n with
  | zero=>trivial
  | succ n=>cases d<;>first | exact h | trivial
structure TW (ρ τ:aH):Prop where
  out:τ.out=ρ.out
  live:∀ bl,τ.live bl→ρ.live bl
theorem TW.avoid{ρ τ:aH}(L:TW ρ τ){l:Lv}{bl:Nat}(h:ρ.avoid l bl) :τ.avoid l bl:=by
  refine DG (d:=0) (fun j _ q=>?_) h
  cases j with
  | zero=>exact L.live bl q
  | succ j=>simp only [Nat.add_zero,aH.own] at q ⊢;rw [L.out] at q;exact q
theorem ky{ρ τ:aH}(L:TW ρ τ){w:World}{v:AV}{u:Value}(h:VR ρ w v u) :v.foreign=true→VR τ w v u:=by
  induction h using VR.rec (motive_2:=fun l c _=>dm l=true→jk τ w l c) with
  | int k n=>exact fun _=>.int k n
  | bool kn b=>exact fun _=>.bool kn b
  | flt ex x y h=>exact fun _=>.flt ex x y h
  | str s=>exact fun _=>.str s
  | nptr=>exact fun _=>.nptr
  | ptr b k i j hb=>intro hk;simp [AV.foreign] at hk
  | iptr bw d k i j bl o u ha hb hc hv hr hk hg ih=>exact fun _=>.iptr bw d k i j bl o u (L.avoid ha) hb hc (fun x v hx=>ih x v hx (bX hr hg x v hx)) hr hk hg
  | nsl=>exact fun _=>.nsl
  | esl a=>exact fun _=>.esl a
  | zsl a c=>exact fun _=>.zsl a c
  | nan n h=>exact fun _=>.nan n h
  | sl b k es i len cap cap' hb hcap hl c t hh hs=>intro hk;simp [AV.foreign] at hk
  | slEnd b k es i a=>intro hk;simp [AV.foreign] at hk
  | imm bw d k es i len cap bl o u ha hb hc hv hl hr hk hg ih=>exact fun _=>.imm bw d k es i len cap bl o u (L.avoid ha) hb hc (fun x v hx=>ih x v hx (bX hr hg x v hx)) hl hr hk hg
  | immEnd bw d k es i cap a hr hk hg=>exact fun _=>.immEnd bw d k es i cap a hr hk hg
  | fn f l1 l2 c1 c2 h1 h2 i1 i2=>intro hk;simp only [AV.foreign,Bool.and_eq_true] at hk;exact .fn f l1 l2 c1 c2 (i1 hk.1) (i2 hk.2)
  | nfn=>exact fun _=>.nfn
  | agg l c h ih=>intro hk;exact .agg l c (ih hk)
  | tup l c h ih=>intro hk;exact .tup l c (ih hk)
  | iface t v u h ih=>intro hk;exact .iface t v u (ih hk)
  | niface=>exact fun _=>.niface
  | any u=>exact fun _=>.any u
  | nil=>exact jk.nil
  | cons v u l c h t i1 i2=>rename_i hk;simp only [dm,Bool.and_eq_true] at hk;exact jk.cons v u l c (i1 hk.1) (i2 hk.2)
mutual
theorem Qd {ρ τ:aH} (L:TW ρ τ) {w:World} {h:fj} {m:Nat} (hh:HR ρ w h m) (off:∀ b d,bQ h b=some d→ρ.ok b→¬ τ.live (ρ.at_ b)):∀ (n:Nat) {v:AV} {u:Value},VR ρ w v u→VR τ w (Pu (bQ h) n v) u
  | 0,v,u,hv=>.any u
  | n + 1, v, u, hv => by
    have free:∀ (b:Nat) (d:ba),bQ h b=some d→ρ.ok b→τ.avoid .free (ρ.at_ b):=by
      intro b d hd hok j _
      cases j with
      | zero=>exact off b d hd hok
      | succ j=>simp only [aH.own];rw [L.out];exact hh.fresh _ (hh.real hd hok).1 j
    have content:∀ (b:Nat) (d:ba),bQ h b=some d→ρ.ok b→∀ x v,(Fv (bQ h) n d).cell? x=some v→w.cell? ⟨ρ.at_ b,0+x,none⟩=some ((w.cell? ⟨ρ.at_ b,x,none⟩).getD undef)∧VR τ w v ((w.cell? ⟨ρ.at_ b,x,none⟩).getD undef):=by
      intro b d hd hok x v hx
      obtain ⟨_,hrk,c,t,hc,hcv⟩:=hh.real hd hok
      obtain ⟨u,q1,q2⟩:=Rt L hh off n (ρ.at_ b) (fun x v hx=>by
        obtain ⟨u,k1,k2⟩:=hcv x v hx
        exact ⟨u,by simp [World.cell?,hc,k1],k2⟩) hrk x v hx
      rw [Nat.zero_add,q1];exact ⟨rfl,q2⟩
    cases v with
    | ptr b k i j =>
      simp only [Pu]
      split
      · rename_i d hd
        have hrk:=hh.rk hd
        cases hk:(Fv (bQ h) n d).kept with
        | false=>exact .any _
        | true =>
          simp only [cond_true]
          cases hv with | ptr _ _ _ _ hb =>
          have:=VR.iptr (ρ:=τ) (w:=w) .free (Fv (bQ h) n d) k i j (ρ.at_ b) 0 (fun x=>(w.cell? ⟨ρ.at_ b,x,none⟩).getD undef) (free b d hd hb) (hh.liveLt _ (hh.real hd hb).1)
            (fun x v hx=>(content b d hd hb x v hx).1) (fun x v hx=>(content b d hd hb x v hx).2) (M6 _ _ _ hrk) (fun _=>hk) (BJ hk)
          simpa using this
      · exact .any _
    | sl b k es i len cap =>
      simp only [Pu]
      split
      · rename_i d hd
        have hrk:=hh.rk hd
        cases hk:(Fv (bQ h) n d).kept with
        | false=>exact .any _
        | true =>
          simp only [cond_true]
          cases hv with
          | sl _ _ _ _ _ _ cap' hb hcap hl' c t hh' hs =>
            have:=VR.imm (ρ:=τ) (w:=w) .free (Fv (bQ h) n d) k es i len cap' (ρ.at_ b) 0 (fun x=>(w.cell? ⟨ρ.at_ b,x,none⟩).getD undef) (free b d hd hb) (hh.liveLt _ (hh.real hd hb).1)
              (fun x v hx=>(content b d hd hb x v hx).1) (fun x v hx=>(content b d hd hb x v hx).2) (by omega) (M6 _ _ _ hrk) (fun _=>hk) (BJ hk)
            simpa using this
          | slEnd=>exact .immEnd _ _ _ _ _ _ _ (M6 _ _ _ hrk) (fun _=>hk) (BJ hk)
      · exact .any _
    | fn f l1 l2=>cases hv with | fn _ _ _ _ _ h1 h2=>exact .fn _ _ _ _ _ (zU L hh off n h1) (zU L hh off n h2)
    | agg l=>cases hv with | agg _ _ h1=>exact .agg _ _ (zU L hh off n h1)
    | tup l=>cases hv with | tup _ _ h1=>exact .tup _ _ (zU L hh off n h1)
    | iface t v=>cases hv with | iface _ _ _ h1=>exact .iface _ _ _ (Qd L hh off n h1)
    | int=>exact ky L hv rfl
    | bool=>exact ky L hv rfl
    | flt=>exact ky L hv rfl
    | str=>exact ky L hv rfl
    | nptr=>exact ky L hv rfl
    | iptr=>exact ky L hv rfl
    | nsl=>exact ky L hv rfl
    | esl=>exact ky L hv rfl
    | zsl=>exact ky L hv rfl
    | nan=>exact ky L hv rfl
    | imm=>exact ky L hv rfl
    | nfn=>exact ky L hv rfl
    | niface=>exact ky L hv rfl
    | any=>exact .any _
theorem zU {ρ τ:aH} (L:TW ρ τ) {w:World} {h:fj} {m:Nat} (hh:HR ρ w h m) (off:∀ b d,bQ h b=some d→ρ.ok b→¬ τ.live (ρ.at_ b)):∀ (n:Nat) {l:List AV} {c:List Value},jk ρ w l c→jk τ w (M5 (bQ h) n l) c
  | 0,[],c,hv=>by cases hv;exact .nil
  | 0,v::l,c,hv=>by
    cases hv with | cons _ u _ c' h1 h2 =>
    have:=zU L hh off 0 h2
    exact .cons _ _ _ _ (.any u) this
  | n+1,[],c,hv=>by cases hv;exact .nil
  | n+1,v::l,c,hv=>by
    cases hv with | cons _ u _ c' h1 h2=>exact .cons _ _ _ _ (Qd L hh off n h1) (zU L hh off n h2)
theorem Rt {ρ τ:aH} (L:TW ρ τ) {w:World} {h:fj} {m:Nat} (hh:HR ρ w h m) (off:∀ b d,bQ h b=some d→ρ.ok b→¬ τ.live (ρ.at_ b)):∀ (n:Nat) (bl:Nat) {d:ba},(∀ x v,d.cell? x=some v→∃ u,w.cell? ⟨bl,x,none⟩=some u∧VR ρ w v u)→d.recKept →
    ∀ x v,(Fv (bQ h) n d).cell? x=some v→∃ u,w.cell? ⟨bl,x,none⟩=some u∧VR τ w v u
  | 0,bl,d,hc,hr,x,v,hx=>by simp [Fv,ba.cell?] at hx
  | n + 1, bl, d, hc, hr, x, v, hx => by
    cases d with
    | vs l =>
      simp only [Fv,ba.cell?] at hx
      have hus:jk ρ w l ((List.range l.length).map fun x=>(w.cell? ⟨bl,x,none⟩).getD undef):=by
        refine zR (by simp) fun y v u q1 q2=>?_
        obtain ⟨u',k1,k2⟩:=hc y v q1
        have hlt:y<l.length:=(List.getElem?_eq_some_iff.1 q1).1
        rw [List.getElem?_map,List.getElem?_range hlt] at q2
        simp [k1] at q2;subst q2;exact k2
      have hr2:=zU L hh off n hus
      obtain ⟨u,q1,q2⟩:=hr2.get x v hx
      rw [List.getElem?_map] at q1
      have hlt:x<l.length:=by
        rcases Nat.lt_or_ge x l.length with q | q
        · exact q
        · rw [List.getElem?_eq_none (by simpa using q)] at q1;cases q1
      rw [List.getElem?_range hlt] at q1
      obtain ⟨u',k1,_⟩:=hc x (l[x]) (List.getElem?_eq_getElem hlt)
      simp [k1] at q1;subst q1
      exact ⟨u',k1,q2⟩
    | fl xs=>obtain ⟨u,q1,q2⟩:=hc x v hx;exact ⟨u,q1,ky L q2 (bX (d:=.fl xs) hr rfl x v hx)⟩
    | ns k xs=>obtain ⟨u,q1,q2⟩:=hc x v hx;exact ⟨u,q1,ky L q2 (bX (d:=.ns k xs) hr rfl x v hx)⟩
    | bs xs=>obtain ⟨u,q1,q2⟩:=hc x v hx;exact ⟨u,q1,ky L q2 (bX (d:=.bs xs) hr rfl x v hx)⟩
    | ss xs=>obtain ⟨u,q1,q2⟩:=hc x v hx;exact ⟨u,q1,ky L q2 (bX (d:=.ss xs) hr rfl x v hx)⟩
    | rows k m get=>obtain ⟨u,q1,q2⟩:=hc x v hx;exact ⟨u,q1,ky L q2 (bX (d:=.rows k m get) hr rfl x v hx)⟩
    | cols k cs=>obtain ⟨u,q1,q2⟩:=hc x v hx;exact ⟨u,q1,ky L q2 (bX (d:=.cols k cs) hr rfl x v hx)⟩
end
mutual
def VZ (σ:Nat→Option Nat):AV→AV
  | .ptr b w i j=>match σ b with | some c=>.ptr c w i j | none=>.any
  | .sl b w es i len cap=>match σ b with | some c=>.sl c w es i len cap | none=>.any
  | .fn f l1 l2=>.fn f (UF σ l1) (UF σ l2)
  | .agg l=>.agg (UF σ l)
  | .tup l=>.tup (UF σ l)
  | .iface t v=>.iface t (VZ σ v)
  | v=>v
def UF (σ:Nat→Option Nat):List AV→List AV
  | []=>[]
  | v::l=>VZ σ v::UF σ l
end
def aH.renamed(ρ:aH)(keep:List Nat) :aH :=
  { at_:=fun i=>ρ.at_ ((keep[i]?).getD 0),live:=ρ.live,out:=ρ.out,ok:=fun i=>∃ b,keep[i]? = some b∧ρ.ok b }
mutual
theorem K9 {ρ:aH} {keep:List Nat} {w:World}:∀ (v:AV) {u:Value},VR ρ w v u→VR (ρ.renamed keep) w (VZ (tA keep 0) v) u
  | .ptr b k i j,u,h=>by
    simp only [VZ]
    split
    · rename_i c hc
      cases h with | ptr _ _ _ _ hb =>
      obtain ⟨_,hg⟩:=GO hc
      rw [Nat.sub_zero] at hg
      have:(ρ.renamed keep).at_ c=ρ.at_ b:=by simp [aH.renamed,hg]
      rw [←this];exact .ptr _ _ _ _ ⟨b,hg,hb⟩
    · exact .any u
  | .sl b k es i len cap,u,h=>by
    simp only [VZ]
    split
    · rename_i c hc
      obtain ⟨_,hg⟩:=GO hc
      rw [Nat.sub_zero] at hg
      have e:(ρ.renamed keep).at_ c=ρ.at_ b:=by simp [aH.renamed,hg]
      cases h with
      | sl _ _ _ _ _ _ cap' hb hcap hl ce t hh hs=>rw [←e] at hh ⊢;exact .sl _ _ _ _ _ _ _ ⟨b,hg,hb⟩ hcap hl ce t hh hs
      | slEnd=>exact .slEnd _ _ _ _ _
    · exact .any u
  | .fn f l1 l2,u,h=>by cases h with | fn _ _ _ _ _ h1 h2=>exact .fn _ _ _ _ _ (M7 l1 h1) (M7 l2 h2)
  | .agg l,u,h=>by cases h with | agg _ _ h1=>exact .agg _ _ (M7 l h1)
  | .tup l,u,h=>by cases h with | tup _ _ h1=>exact .tup _ _ (M7 l h1)
  | .iface t v,u,h=>by cases h with | iface _ _ _ h1=>exact .iface _ _ _ (K9 v h1)
  | .int ..,u,h=>nP h rfl
  | .bool ..,u,h=>nP h rfl
  | .flt ..,u,h=>nP h rfl
  | .str ..,u,h=>nP h rfl
  | .nptr,u,h=>nP h rfl
  | .iptr ..,u,h=>nP h rfl
  | .nsl,u,h=>nP h rfl
  | .esl,u,h=>nP h rfl
  | .zsl _,u,h=>nP h rfl
  | .nan,u,h=>nP h rfl
  | .imm ..,u,h=>nP h rfl
  | .nfn,u,h=>nP h rfl
  | .niface,u,h=>nP h rfl
  | .any,u,h=>.any u
theorem M7 {ρ:aH} {keep:List Nat} {w:World}:∀ (l:List AV) {c:List Value},jk ρ w l c→jk (ρ.renamed keep) w (UF (tA keep 0) l) c
  | [],c,h=>by cases h;exact .nil
  | v::l,c,h=>by cases h with | cons _ u _ c' h1 h2=>exact .cons _ _ _ _ (K9 v h1) (M7 l h2)
theorem nP {ρ:aH} {keep:List Nat} {w:World} {v:AV} {u:Value} (h:VR ρ w v u) (hf:v.foreign=true):VR (ρ.renamed keep) w v u :=
  ky (ρ:=ρ) (τ:=ρ.renamed keep) ⟨rfl,fun _ q=>q⟩ h hf
end
def Xh(σ:Nat→Option Nat) :ba→ba
  | .vs l=>.vs (UF σ l)
  | d=>d
theorem Qe(σ:Nat→Option Nat) :∀ (l:List AV) (x:Nat),(UF σ l)[x]? = (l[x]?).map (VZ σ)
  | [],x=>by simp [UF]
  | v::l,0=>by simp [UF]
  | v::l,x+1=>by simp [UF,Qe σ l x]
theorem UV{σ:Nat→Option Nat}{d:ba}(h:d.recKept) :(Xh σ d).recKept:=by
  cases d<;>first | exact h | trivial
theorem Ru{σ:Nat→Option Nat}{d:ba}{x:Nat}{v:AV}(h:(Xh σ d).cell? x=some v)(hr:d.recKept) :∃ v',d.cell? x=some v'∧(v=VZ σ v'∨(v=v'∧v.foreign=true)):=by
  cases d with
  | vs l =>
    simp only [Xh,ba.cell?,Qe,Option.map_eq_some_iff] at h
    obtain ⟨v',h1,rfl⟩:=h
    exact ⟨v',h1,.inl rfl⟩
  | fl xs=>exact ⟨v,h,.inr ⟨rfl,bX (d:=.fl xs) hr rfl x v h⟩⟩
  | ns k xs=>exact ⟨v,h,.inr ⟨rfl,bX (d:=.ns k xs) hr rfl x v h⟩⟩
  | bs xs=>exact ⟨v,h,.inr ⟨rfl,bX (d:=.bs xs) hr rfl x v h⟩⟩
  | ss xs=>exact ⟨v,h,.inr ⟨rfl,bX (d:=.ss xs) hr rfl x v h⟩⟩
  | rows k m get=>exact ⟨v,h,.inr ⟨rfl,bX (d:=.rows k m get) hr rfl x v h⟩⟩
  | cols m cs=>exact ⟨v,h,.inr ⟨rfl,bX (d:=.cols m cs) hr rfl x v h⟩⟩
def Tl(k:Nat)(R:List Nat) :List Nat:=List.range k++R.filter fun b=>Nat.ble k b
theorem TX{k i:Nat}{R:List Nat}(h:i<k) :(Tl k R)[i]? = some i:=by
  unfold Tl
  rw [List.getElem?_append_left (by simpa using h),List.getElem?_range h]
def yy(σ:Nat→Option Nat)(h:fj) :List Nat→List (Option ba)
  | []=>[]
  | b::l=>(bQ h b).map (Xh σ)::yy σ h l
theorem zu(σ:Nat→Option Nat)(h:fj) :∀ (l:List Nat) (i:Nat),(yy σ h l)[i]? = (l[i]?).map fun b=>(bQ h b).map (Xh σ)
  | [],i=>by simp [yy]
  | b::l,0=>by simp [yy]
  | b::l,i+1=>by simp [yy,zu σ h l i]
theorem yK(σ:Nat→Option Nat)(h:fj) :∀ (l:List Nat),(yy σ h l).length=l.length
  | []=>rfl
  | b::l=>by simp [yy,yK σ h l]
def La(k:Nat)(keep:Bool)(h:fj)(v:AV) :Option rU :=
  match keep,k with
  | true,0=>some ⟨Pu (bQ h) pb v,[]⟩
  | _,_ =>
    let L:=Tl k (uA (bQ h) pb (List.range k++P8 v) [])
    bif DR L then some ⟨VZ (tA L 0) v,yy (tA L 0) h L⟩ else none
theorem Rv{ρ ρ0:aH}{w0 w:World}{h:fj}{m:Nat}{lent:List ba}{keep:Bool}(hh:HR ρ w h m)(hN:vN ρ0 w0 lent)(E:vY ρ0 ρ w0)(hbk:∀ i,i<lent.length→ρ.ok i→ρ0.ok i)(W:w0.heap.size≤w.heap.size){v:AV}{u:Value}(hv:VR ρ w v u){r:rU} 
    (hr:La lent.length keep h v=some r):r.Holds ρ0 w0 w lent.length u:=by
  unfold La at hr
  split at hr
  · rename_i k hk
    cases hr
    have none_ok:∀ b,¬ ρ0.ok b:=fun b q=>by have:=hN.heap.lt b q;omega
    have none_live:∀ bl,¬ ρ0.live bl:=fun bl q=>by obtain ⟨i,h1,_⟩:=hN.only bl q;exact none_ok i h1
    refine ⟨ρ0,vY.refl _ _,fun i h=>by omega,⟨fun b d q=>?_,fun b c d e q=>?_,fun bl q=>(none_live bl q).elim,fun bl q=>(none_live bl q).elim,fun j bl q=>?_,fun b q=>(none_ok b q).elim,fun x hx=>ky (τ:=ρ0) ⟨E.out.symm,fun bl q=>(none_live bl q).elim⟩ (hh.rom x hx) rfl⟩,?_⟩
    · simp [jm,bQ] at q
    · simp [jm,bQ] at q
    · exact Nat.lt_of_lt_of_le (hN.heap.outLt j bl q) W
    · exact Qd (τ:=ρ0) ⟨E.out.symm,fun bl q=>(none_live bl q).elim⟩ hh (fun _ _ _ _ q=>none_live _ q) pb hv
  · simp only at hr
    generalize hL:Tl lent.length (uA (bQ h) pb (List.range lent.length++P8 v) [])=L at hr
    cases hn:DR L with
    | false=>rw [hn] at hr;cases hr
    | true =>
    rw [hn] at hr
    simp only [cond_true,Option.some.injEq] at hr;subst hr
    have idL:∀ {i:Nat},i<lent.length→L[i]? = some i:=fun q=>by rw [←hL];exact TX q
    have atL:∀ {i b:Nat},L[i]? = some b→(ρ.renamed L).at_ i=ρ.at_ b:=fun q=>by simp [aH.renamed,q]
    refine ⟨ρ.renamed L,⟨fun b q=>?_,fun b q=>?_,E.live,E.new,E.out⟩,fun i hi q=>?_,⟨fun i d q=>?_,fun i j d e q1 q2 ok1 ok2 he=>?_,hh.fresh,hh.liveLt,hh.outLt,fun i q=>?_,fun x hx=>K9 _ (hh.rom x hx)⟩,K9 v hv⟩
    · rw [atL (idL (hN.heap.lt b q))];exact E.at_ b q
    · exact ⟨b,idL (hN.heap.lt b q),E.ok b q⟩
    · obtain ⟨b,h1,h2⟩:=q
      rw [idL hi] at h1;cases h1
      exact hbk i hi h2
    · have q:=rx q
      simp only at q
      rw [zu,Option.map_eq_some_iff] at q
      obtain ⟨b,h1,h2⟩:=q
      rw [Option.map_eq_some_iff] at h2
      obtain ⟨d0,h3,rfl⟩:=h2
      rcases hh.cell b d0 h3 with ⟨k1,k2,hr,c,t,r1,r2⟩ | ⟨k1,k2,k3,k4⟩
      · refine .inl ⟨⟨b,h1,k1⟩,by rw [atL h1];exact k2,UV hr,c,t,by rw [atL h1];exact r1,fun x v hx=>?_⟩
        obtain ⟨v',s1,s2⟩:=Ru hx hr
        obtain ⟨u,t1,t2⟩:=r2 x v' s1
        refine ⟨u,t1,?_⟩
        rcases s2 with rfl | ⟨rfl,hf⟩
        · exact K9 v' t2
        · exact nP t2 hf
      · refine .inr ⟨?_,?_,UV k3,fun x=>?_⟩
        · rintro ⟨b',q1,q2⟩
          rw [h1] at q1;cases q1
          exact k1 q2
        · rw [yK];exact (List.getElem?_eq_some_iff.1 h1).1
        · cases hc:(Xh (tA L 0) d0).cell? x with
          | none=>rfl
          | some v=>obtain ⟨v',s1,_⟩:=Ru hc k3;rw [k4 x] at s1;cases s1
    · obtain ⟨b,r1,r2⟩:=ok1
      obtain ⟨c,r3,r4⟩:=ok2
      have q1:=rx q1
      have q2:=rx q2
      simp only at q1 q2
      rw [zu,r1] at q1
      rw [zu,r3] at q2
      simp only [Option.map_some,Option.some.injEq,Option.map_eq_some_iff] at q1 q2
      obtain ⟨d1,s1,_⟩:=q1
      obtain ⟨d2,s2,_⟩:=q2
      rw [atL r1,atL r3] at he
      have:=hh.inj b c d1 d2 s1 s2 r2 r4 he
      subst this
      exact DS hn r1 r3
    · obtain ⟨b,r1,_⟩:=q
      simp only [yK]
      exact (List.getElem?_eq_some_iff.1 r1).1
inductive AE where
  | normal
  | ret
  | exit (id:Nat)
def AE.real:AE→Exit
  | .normal=>.normal
  | .ret=>.ret
  | .exit id=>.exit id
abbrev WC:=Option (AE×aW×List Bool×nO)
abbrev Br:=Code→aW→nO→WC
def J7(C:It)(run:lR)(ops:Array Oper)(draw:Bool)(st:aW)(p:nO) :WC :=
  match draw with
  | false =>
    match MZ C run ops st.next 0 ops.toList st.tmps st.heap p with
    | some (T,h,obs,p')=>some (.normal,⟨T,h,st.next+ops.size*yx⟩,obs,p')
    | none=>none
  | true =>
    match M4 C run ops st.next 0 ops.toList st.tmps st.heap p with
    | some (rs,T,h,obs,p')=>bif M1 ops [] [] (ops.toList.zip rs) then some (.normal,⟨T,h,st.next+ops.size*yx⟩,obs,p') else none
    | none=>none
def v9(T:List AV)(c:Operand)(b:Bool) :List AV :=
  match c with
  | .tmp t=>T.set t (.bool true b)
  | _=>T
def Mw(body:aW→nO→WC) :Nat→aW→nO→WC
  | 0,_,_=>none
  | n+1,st,p =>
    match body st p with
    | some (.normal,st1,o1,p1) =>
      match Mw body n st1 p1 with
      | some (e,st2,o2,p2)=>some (e,st2,o1++o2,p2)
      | none=>none
    | r=>r
def M8(C:It)(run:lR)(N:Nat)(self:Br)(c:Code)(st:aW)(p:nO) :WC :=
  match c with
  | .skip | .label _=>some (.normal,st,[],p)
  | .region _ ops draw=>J7 C run ops draw st p
  | .seq a b =>
    match self a st p with
    | some (.normal,st1,o1,p1) =>
      match self b st1 p1 with
      | some (e,st2,o2,p2)=>some (e,st2,o1++o2,p2)
      | none=>none
    | r=>r
  | .cond c a b =>
    match Mu (VY st.tmps c) p with
    | some (x,o1,p1) =>
      match self (match x with | true=>a | false=>b) { st with tmps:=v9 st.tmps c x } p1 with
      | some (e,st2,o2,p2)=>some (e,st2,o1++o2,p2)
      | none=>none
    | none=>none
  | .block id b =>
    match self b st p with
    | some (.exit id',st1,o1,p1)=>bif Nat.beq id' id then some (.normal,st1,o1,p1) else some (.exit id',st1,o1,p1)
    | r=>r
  | .loop b=>Mw (self b) N st p
  | .exit id=>some (.exit id,st,[],p)
  | .ret=>some (.ret,st,[],p)
  | .scope b=>self b st p
  | _=>none
structure zV where
  out:rU
  obs:List Bool
def UW(alts:List zV)(p:nO) :Option (zV×nO) :=
  match alts,p with
  | [a],p=>some (a,p)
  | alts,none=>(alts.find? fun a=>TT a.obs).map fun a=>(a,none)
  | alts,some (k::r)=>(alts[k]?).map fun a=>(a,some r)
  | _,_=>none
theorem TY{alts:List zV}{p p':nO}{a:zV}(h:UW alts p=some (a,p')) :a∈alts:=by
  unfold UW at h
  split at h
  · simp only [Option.some.injEq,Prod.mk.injEq] at h;rw [←h.1];simp
  · simp only [Option.map_eq_some_iff,Prod.mk.injEq] at h;obtain ⟨b,h1,rfl,_⟩:=h;exact List.mem_of_find?_eq_some h1
  · simp only [Option.map_eq_some_iff,Prod.mk.injEq] at h;obtain ⟨b,h1,rfl,_⟩:=h;exact List.mem_of_getElem? h1
  · cases h
abbrev Jb:=FuncId→List ba→List AV→Option (List zV)
def qz(P:Program)(fn:Func)(st:aW) :List ResultVar→Option (List AV×List Bool)
  | []=>some ([],[])
  | .tmp t::l =>
    match qz P fn st l with
    | some (vs,o)=>some ((st.tmps[t]?).getD .any::vs,o)
    | none=>none
  | .cell a t::l =>
    match IU P (bQ st.heap) t ((st.tmps[a]?).getD .any),qz P fn st l with
    | some (v,o,_),some (vs,o')=>some (v::vs,o++o')
    | _,_=>none
def Iv:List AV→AV
  | [v]=>v
  | vs=>.tup vs
def wa(fn:Func)(lent:List ba)(args:List AV) :aW:=⟨args++List.replicate (fn.ntmps-args.length) (.tup []),jm 0 (lent.map some),lent.length⟩
def El(C : It)(S : Jb)(self : Br) : lR := fun f lent args p =>
  match S f lent args with
  | some alts=>(UW alts p).map fun r=>(r.1.out,r.1.obs,r.2)
  | none =>
    match C.P.funcs[f]? with
    | some fn =>
      match fn.body with
      | some c =>
        match self c (wa fn lent args) p with
        | some (e,st,o1,p1) =>
          match e,qz C.P fn st fn.results.toList with
          | .exit _,_=>none
          | _,some (vs,o2) =>
            match La lent.length (C.mode f).keep st.heap (Iv vs) with
            | some r=>some (r,o1++o2,p1)
            | none=>none
          | _,none=>none
        | none=>none
      | none=>none
    | none=>none
def rN(C:It)(S:Jb)(N:Nat) :Nat→Br
  | 0=>fun _ _ _=>none
  | n+1=>M8 C (El C S (rN C S N n)) N (rN C S N n)
def aI(P:Program)(f:FuncId)(lent:List ba)(args:List AV)(r:rU) :Prop :=
  ∀ (ρ:aH) (w:World) (us:List Value),vN ρ w lent→jk ρ w args us →
    (∃ fn,P.funcs[f]? = some fn∧fn.body.isSome=true)∧Calls P f us.toArray w fun e w'=>∃ u,e=.returned u∧rc ρ.live w w'∧r.Holds ρ w w' lent.length u
def cR(P:Program)(S:Jb) :Prop:=∀ f lent args alts a,S f lent args=some alts→a∈alts→aY a.obs→aI P f lent args a.out
def M9(P:Program)(self:Br) :Prop :=
  ∀ c st p e st' obs p',self c st p=some (e,st',obs,p')→aY obs→∀ (ρ:aH) (a:Act) (w:World) (Q:Exit→Act→World→Prop),SR ρ st a w →
    (∀ ρ' a' w',Fr ρ w st.next st' ρ' a' w'→Q e.real a' w')→c.wp P Q a w
theorem Fr.trans{ρ ρ1 ρ2:aH}{w w1 w2:World}{n:Nat}{st1 st2:aW}{a1 a2:Act}(h:Fr ρ w n st1 ρ1 a1 w1)(k:Fr ρ1 w1 st1.next st2 ρ2 a2 w2) :Fr ρ w n st2 ρ2 a2 w2 :=
  ⟨h.ext.trans k.ext h.wle.size,h.wle.trans k.wle (fun x hx q=>h.ext.new x hx q),k.sr,Nat.le_trans h.le k.le,fun b q=>by
    rcases k.back b q with q | q
    · exact h.back b q
    · exact .inr (Nat.le_trans h.le q)⟩
theorem Fr.refl{ρ:aH}{w:World}{st:aW}{a:Act}(h:SR ρ st a w) :Fr ρ w st.next st ρ a w:=⟨vY.refl _ _,rc.refl _ _,h,Nat.le_refl _,fun b q=>.inl q⟩
theorem TZ(n:Nat) :List.range n=List.range' 0 n:=List.range_eq_range'
theorem Qf{C:It}(hC:C.Ok){run:lR}(hrun:MW C.P run){id:Nat}{ops:Array Oper}{draw:Bool}{st st':aW}{p p':nO}{e:AE}{obs:List Bool}(h:J7 C run ops draw st p=some (e,st',obs,p')) 
    (ho:aY obs) {ρ:aH} {a:Act} {w:World} {Q:Exit→Act→World→Prop} (hs:SR ρ st a w) (hQ:∀ ρ' a' w',Fr ρ w st.next st' ρ' a' w'→Q e.real a' w'):(Code.region id ops draw).wp C.P Q a w:=by
  unfold J7 at h
  cases draw with
  | false =>
    simp only at h
    split at h
    case h_2=>cases h
    rename_i T hp obs' p1 hr
    simp only [Option.some.injEq,Prod.mk.injEq] at h;obtain ⟨rfl,rfl,rfl,rfl⟩:=h
    refine wp_region ?_
    rw [TZ,←Array.length_toList]
    refine I8 hC hrun ops.toList 0 (fun j=>by simp) hr ho (hs.heap.le (by omega)) (fun b hb=>by have:=hs.heap.lt b hb;omega) hs.defers hs.tmps ?_
    intro ρ' w' a' E W hh hd hT hb
    exact hQ ρ' a' w' ⟨E,W,⟨hd,hT,hh⟩,Nat.le_add_right _ _,hb⟩
  | true =>
    simp only at h
    split at h
    case h_2=>cases h
    rename_i rs T hp obs' p1 hr
    cases hd:M1 ops [] [] (ops.toList.zip rs) with
    | false=>rw [hd] at h;cases h
    | true =>
      rw [hd] at h
      simp only [cond_true,Option.some.injEq,Prod.mk.injEq] at h;obtain ⟨rfl,rfl,rfl,rfl⟩:=h
      obtain ⟨s1,s2,s3⟩:=K8 _ _ hr ho
      obtain ⟨ms,D⟩:=K7 (ops.toList.zip rs) [] [] rfl hd ⟨fun j x hx=>by simp at hx,fun j x hx=>by simp at hx,fun i j x y hx=>by simp at hx⟩
      rw [List.nil_append] at D
      refine wp_region_any hC.mixed ?_
      have W0:=rc.drawn ρ.live w (w.drawn+1)
      have E0:=vY.refl ρ w
      have notL:∀ i,(Array.replicate ops.size false).getD i false=false:=by
        intro i;rw [Array.getD_eq_getD_getElem?]
        cases hq:(Array.replicate ops.size false)[i]? with
        | none=>rfl
        | some b=>rw [Array.getElem?_replicate] at hq;split at hq<;>simp_all
      have a0:∀ (l:List (Oper×GQ)) (i:Nat) (s:List AV×fj),vZ (fun i=>(Array.replicate ops.size false).getD i false) i l s=s:=by
        intro l
        induction l with
        | nil=>intro _ _;rfl
        | cons x l ih=>intro i s;simp only [vZ];rw [notL i];exact ih _ _
      refine UU hC hrun D (by rw [s1];simp) (fun j o hj=>by have:=s3 j o hj;rw [Nat.zero_add] at this;exact this) ops.size (Array.replicate ops.size false) (by simp) (fun j o _ hl=>by rw [notL] at hl;cases hl)
        (by have:=List.countP_le_length (p:=fun i=>!(Array.replicate ops.size false).getD i false) (l:=List.range ops.size);simpa using this) (ρ:=ρ) (a:=a) ?_ ?_ hs.defers ?_ ?_
      · rw [a0];exact (hs.heap.le (by omega)).drawn _
      · intro b hb;have:=hs.heap.lt b hb;exact .inl this
      · rw [a0];exact hs.tmps.mono E0 W0
      · intro ρ' w' a' E W hh hd' hT hb
        rw [s2] at hh hT
        exact hQ ρ' a' w' ⟨⟨E.at_,E.ok,E.live,fun b hb=>E.new b hb,E.out⟩,W0.trans W (fun _ _ q=>q),⟨hd',hT,hh⟩,Nat.le_add_right _ _,hb⟩
theorem Na{C:It}{body:aW→nO→WC}{b:Code}(hb:∀ st p e st' obs p',body st p=some (e,st',obs,p')→aY obs→∀ (ρ:aH) (a:Act) (w:World) (Q:Exit→Act→World→Prop),SR ρ st a w →
    (∀ ρ' a' w',Fr ρ w st.next st' ρ' a' w'→Q e.real a' w')→b.wp C.P Q a w) :∀ (n:Nat) (st:aW) (p:nO) (e:AE) (st':aW) (obs:List Bool) (p':nO),Mw body n st p=some (e,st',obs,p')→aY obs →
    ∀ (ρ:aH) (a:Act) (w:World) (Q:Exit→Act→World→Prop),SR ρ st a w→(∀ ρ' a' w',Fr ρ w st.next st' ρ' a' w'→Q e.real a' w')→Code.rounds C.P b Q n a w
  | 0,st,p,e,st',obs,p',h,_,_,_,_,_,_,_=>by cases h
  | n+1,st,p,e,st',obs,p',h,ho,ρ,a,w,Q,hs,hQ=>by
    simp only [Mw] at h
    rw [rounds_succ]
    split at h
    · rename_i st1 o1 p1 h1
      split at h
      case h_2=>cases h
      rename_i e2 st2 o2 p2 h2
      simp only [Option.some.injEq,Prod.mk.injEq] at h;obtain ⟨rfl,rfl,rfl,rfl⟩:=h
      rw [ck] at ho
      refine hb st p _ _ _ _ h1 ho.1 ρ a w _ hs fun ρ1 a1 w1 P1=>?_
      exact Na hb n st1 p1 _ _ _ _ h2 ho.2 ρ1 a1 w1 Q P1.sr fun ρ2 a2 w2 P2=>hQ ρ2 a2 w2 (P1.trans P2)
    · rename_i hne
      refine hb st p _ _ _ _ h ho ρ a w _ hs fun ρ1 a1 w1 P1=>?_
      have:=hQ ρ1 a1 w1 P1
      cases e with
      | normal=>exact (hne _ _ _ h).elim
      | ret=>exact this
      | exit id=>exact this
theorem Rw{C:It}(hC:C.Ok){run:lR}(hrun:MW C.P run){N:Nat}{self:Br}(hself:M9 C.P self) :M9 C.P (M8 C run N self):=by
  intro c st p e st' obs p' h ho ρ a w Q hs hQ
  unfold M8 at h
  split at h
  · simp only [Option.some.injEq,Prod.mk.injEq] at h;obtain ⟨rfl,rfl,rfl,rfl⟩:=h
    exact wp_skip (hQ ρ a w (Fr.refl hs))
  · simp only [Option.some.injEq,Prod.mk.injEq] at h;obtain ⟨rfl,rfl,rfl,rfl⟩:=h
    exact wp_label (hQ ρ a w (Fr.refl hs))
  · exact Qf hC hrun h ho hs hQ
  · rename_i x y
    refine wp_seq ?_
    split at h
    · rename_i st1 o1 p1 h1
      split at h
      case h_2=>cases h
      rename_i e2 st2 o2 p2 h2
      simp only [Option.some.injEq,Prod.mk.injEq] at h;obtain ⟨rfl,rfl,rfl,rfl⟩:=h
      rw [ck] at ho
      refine hself x st p _ _ _ _ h1 ho.1 ρ a w _ hs fun ρ1 a1 w1 P1=>?_
      exact hself y st1 p1 _ _ _ _ h2 ho.2 ρ1 a1 w1 Q P1.sr fun ρ2 a2 w2 P2=>hQ ρ2 a2 w2 (P1.trans P2)
    · rename_i hne
      refine hself x st p _ _ _ _ h ho ρ a w _ hs fun ρ1 a1 w1 P1=>?_
      have:=hQ ρ1 a1 w1 P1
      cases e with
      | normal=>exact (hne _ _ _ h).elim
      | ret=>exact this
      | exit id=>exact this
  · rename_i cc x y
    split at h
    case h_2=>cases h
    rename_i b o1 p1 h1
    split at h
    case h_2=>cases h
    rename_i e2 st2 o2 p2 h2
    simp only [Option.some.injEq,Prod.mk.injEq] at h;obtain ⟨rfl,rfl,rfl,rfl⟩:=h
    rw [ck] at ho
    have hb:=MY (MD hs.heap.rom hs.tmps cc) h1 ho.1
    refine wp_cond hb ?_
    have hs':SR ρ { st with tmps:=v9 st.tmps cc b } a w:=by
      refine ⟨hs.defers,?_,hs.heap⟩
      cases cc with
      | tmp t =>
        simp only [v9]
        have:jk ρ w (st.tmps.set t (.bool true b)) (a.tmps.toList.set t (.bool b)):=hs.tmps.set (.bool _ _) t
        have e:a.tmps.toList.set t (.bool b)=a.tmps.toList:=by
          apply List.ext_getElem?
          intro j
          rw [List.getElem?_set]
          split
          · rename_i q;subst q
            split
            · rename_i hlt
              simp only [Act.eval] at hb
              rw [Array.getD_eq_getD_getElem?] at hb
              have hlt':t<a.tmps.size:=by simpa using hlt
              rw [Array.getElem?_eq_getElem hlt'] at hb
              simp only [Option.getD_some] at hb
              simp [hlt',hb]
            · rename_i hge
              rw [List.getElem?_eq_none (by omega)]
          · rfl
        rw [e] at this;exact this
      | const v=>exact hs.tmps
      | global g=>exact hs.tmps
      | func f=>exact hs.tmps
    have:=hself _ _ p1 _ _ _ _ h2 ho.2 ρ a w Q hs' hQ
    cases b<;>exact this
  · rename_i id b
    refine wp_block ?_
    split at h
    · rename_i id' st1 o1 p1 h1
      cases hid:Nat.beq id' id with
      | true =>
        rw [hid] at h
        simp only [cond_true,Option.some.injEq,Prod.mk.injEq] at h;obtain ⟨rfl,rfl,rfl,rfl⟩:=h
        refine hself b st p _ _ _ _ h1 ho ρ a w _ hs fun ρ1 a1 w1 P1=>?_
        simp only [AE.real,Exit.inBlock,Nat.eq_of_beq_eq_true hid,if_true]
        exact hQ ρ1 a1 w1 P1
      | false =>
        rw [hid] at h
        simp only [cond_false,Option.some.injEq,Prod.mk.injEq] at h;obtain ⟨rfl,rfl,rfl,rfl⟩:=h
        refine hself b st p _ _ _ _ h1 ho ρ a w _ hs fun ρ1 a1 w1 P1=>?_
        have hne : ¬ id'=id:=fun e=>by subst e;simp [xu] at hid
        simp only [AE.real,Exit.inBlock,hne,if_false]
        exact hQ ρ1 a1 w1 P1
    · rename_i hne
      refine hself b st p _ _ _ _ h ho ρ a w _ hs fun ρ1 a1 w1 P1=>?_
      have:=hQ ρ1 a1 w1 P1
      cases e with
      | normal=>exact this
      | ret=>exact this
      | exit id=>exact (hne _ _ _ _ h).elim
  · rename_i b
    exact wp_loop_rounds N (Na (C:=C) (b:=b) (fun st p e st' obs p' h1 h2=>hself b st p e st' obs p' h1 h2) N st p e st' obs p' h ho ρ a w Q hs hQ)
  · simp only [Option.some.injEq,Prod.mk.injEq] at h;obtain ⟨rfl,rfl,rfl,rfl⟩:=h
    exact wp_exit (hQ ρ a w (Fr.refl hs))
  · simp only [Option.some.injEq,Prod.mk.injEq] at h;obtain ⟨rfl,rfl,rfl,rfl⟩:=h
    exact wp_ret (hQ ρ a w (Fr.refl hs))
  · rename_i b
    refine wp_scope_straight (hself b st p _ _ _ _ h ho ρ a w _ hs fun ρ1 a1 w1 P1=>?_)
    have:=hQ ρ1 a1 w1 P1
    cases e<;>exact this
  · cases h
theorem Nb{P:Program}{w:World}{t:TypeId}{x:Value}{u:Value}(hx:∃ a,x=.pointer (some a))(h:(Instr.loadAt t x).run P w=.ok u w) :(do loadVar t (←asAddr x):Sem Value).run P w=.ok u w:=by
  obtain ⟨a,rfl⟩:=hx
  simpa [Instr.loadAt,Instr.sureAddr,asAddr] using h
def Nc(tmps:Array Value) :ResultVar→Sem Value
  | .tmp t=>pure (tmps.getD t undef)
  | .cell x t=>do loadVar t (←asAddr (tmps.getD x undef))
theorem SG(fn:Func)(tmps:Array Value) :results fn tmps=(do let vs ← fn.results.mapM (Nc tmps);pure (if h:vs.size=1 then vs[0] else .tuple vs)):=by
  unfold results
  congr 1
theorem Fw{P:Program}{fn:Func}{st:aW}{ρ:aH}{a:Act}{w:World}(hs:SR ρ st a w) :∀ (l:List ResultVar) {vs:List AV} {obs:List Bool},qz P fn st l=some (vs,obs)→aY obs →
    ∃ us:List Value,(l.mapM (Nc a.tmps)).run P w=.ok us w∧jk ρ w vs us
  | [],vs,obs,h,ho=>by
    simp only [qz,Option.some.injEq,Prod.mk.injEq] at h;obtain ⟨rfl,rfl⟩:=h
    exact ⟨[],by simp,.nil⟩
  | .tmp t::l,vs,obs,h,ho=>by
    simp only [qz] at h
    split at h
    case h_2=>cases h
    rename_i vs' o' h1
    simp only [Option.some.injEq,Prod.mk.injEq] at h;obtain ⟨rfl,rfl⟩:=h
    obtain ⟨us,q1,q2⟩:=Fw hs l h1 ho
    refine ⟨a.tmps.getD t undef::us,?_,.cons _ _ _ _ (MD hs.heap.rom hs.tmps (.tmp t)) q2⟩
    simp only [List.mapM_cons,Nc,Sem.run_bind,Sem.run_pure,Result.andThen_ok,q1]
  | .cell x t::l,vs,obs,h,ho=>by
    simp only [qz] at h
    split at h
    case h_2=>cases h
    rename_i v o rs vs' o' h1 h2
    simp only [Option.some.injEq,Prod.mk.injEq] at h;obtain ⟨rfl,rfl⟩:=h
    rw [ck] at ho
    obtain ⟨us,q1,q2⟩:=Fw hs l h2 ho.2
    have hv:=MD hs.heap.rom hs.tmps (.tmp x)
    simp only [VY,Act.eval] at hv
    obtain ⟨u,r1,r2⟩:=KX (P:=P) hs.heap hv h1 ho.1
    have hp:∃ ad,a.tmps.getD x undef=.pointer (some ad):=by
      generalize a.tmps.getD x undef=z at hv
      unfold IU at h1
      simp only at h1
      split at h1
      · rename_i e;rw [e] at hv;cases hv;exact ⟨_,rfl⟩
      · rename_i e;rw [e] at hv;cases hv;exact ⟨_,rfl⟩
      · cases h1
    have:=Nb hp r1
    refine ⟨u::us,?_,.cons _ _ _ _ r2 q2⟩
    simp only [List.mapM_cons,Nc,Sem.run_bind] at this ⊢
    rw [this]
    simp only [Result.andThen_ok,Sem.run_bind,q1,Sem.run_pure]
theorem Rx{P:Program}{fn:Func}{st:aW}{ρ:aH}{a:Act}{w:World}(hs:SR ρ st a w){vs:List AV}{obs:List Bool}(h:qz P fn st fn.results.toList=some (vs,obs))(ho:aY obs) :
    ∃ v,(results fn a.tmps).run P w=.ok v w∧VR ρ w (Iv vs) v:=by
  obtain ⟨us,q1,q2⟩:=Fw hs fn.results.toList h ho
  have hl:=q2.length
  have hm:(fn.results.mapM (Nc a.tmps)).run P w=.ok us.toArray w:=by
    rw [Array.mapM_eq_mapM_toList,map_eq_pure_bind,Sem.run_bind,q1,Result.andThen_ok,Sem.run_pure]
  rw [SG,Sem.run_bind,hm,Result.andThen_ok]
  match vs,us,q2,hl with
  | [],[],q2,_=>exact ⟨.tuple #[],rfl,.tup _ _ .nil⟩
  | [v],[u],q2,_=>cases q2 with | cons _ _ _ _ h1 _=>exact ⟨u,rfl,h1⟩
  | v::v'::vs,u::u'::us,q2,_ =>
    refine ⟨.tuple (u::u'::us).toArray,?_,.tup _ _ q2⟩
    simp
theorem Fx{P:Program}{f:FuncId}{fn:Func}{c:Code}(hf:P.funcs[f]? = some fn)(hc:fn.body=some c){lent:List ba}{args:List AV}{r:rU}{keep:Bool} 
    (h:∀ (ρ:aH) (w:World) (a:Act),vN ρ w lent→SR ρ (wa fn lent args) a w →
      c.wp P (fun e a' w'=>(e=.normal∨e=.ret)∧∃ ρ' st' vs obs,vY ρ ρ' w∧rc ρ.live w w'∧(∀ i,i<lent.length→ρ'.ok i→ρ.ok i)∧SR ρ' st' a' w'∧qz P fn st' fn.results.toList=some (vs,obs)∧aY obs∧La lent.length keep st'.heap (Iv vs)=some r) a w):aI P f lent args r:=by
  intro ρ w us hN hv
  refine ⟨⟨fn,hf,by rw [hc];rfl⟩,?_⟩
  refine calls_of_wp hf hc ?_
  have hlen:=hv.length
  have hs:SR ρ (wa fn lent args) { tmps:=us.toArray++Array.replicate (fn.ntmps-us.toArray.size) undef,defers:=[] } w:=by
    refine ⟨rfl,?_,hN.heap⟩
    simp only [wa,Array.toList_append,Array.toList_replicate,List.size_toArray,hlen]
    refine jk.append ?_ hv
    have:∀ n,jk ρ w (List.replicate n (.tup [])) (List.replicate n undef):=by
      intro n
      induction n with
      | zero=>exact .nil
      | succ n ih=>exact .cons _ _ _ _ (.tup [] #[] .nil) ih
    exact this _
  refine wp_mono (h ρ w _ hN hs) ?_
  rintro e a' w' ⟨he,ρ',st',vs,obs,E,W,hbk,S,hr,hob,hkeep⟩
  have Fh:a'.defers=[]∧∃ v,(results fn a'.tmps).run P w'=.ok v w'∧∃ u,Ending.returned v=.returned u∧rc ρ.live w w'∧r.Holds ρ w w' lent.length u:=by
    refine ⟨S.defers,?_⟩
    obtain ⟨v,q1,q2⟩:=Rx S hr hob
    exact ⟨v,q1,v,rfl,W,Rv S.heap hN E hbk W.size q2 hkeep⟩
  rcases he with rfl | rfl
  · exact Fh
  · exact Fh
theorem Ry{C:It}{S:Jb}(hS:cR C.P S){self:Br}(hself:M9 C.P self) :MW C.P (El C S self):=by
  intro f lent args p r obs p' h ho
  unfold El at h
  split at h
  · rename_i alts hs
    simp only [Option.map_eq_some_iff,Prod.mk.injEq] at h
    obtain ⟨⟨alt,q⟩,h1,rfl,rfl,rfl⟩:=h
    exact hS f lent args alts alt hs (TY h1) ho
  · split at h
    case h_2=>cases h
    rename_i fn hf
    split at h
    case h_2=>cases h
    rename_i c hc
    split at h
    case h_2=>cases h
    rename_i e st o1 p1 hr
    cases hres:qz C.P fn st fn.results.toList with
    | none=>rw [hres] at h;cases e<;>cases h
    | some x =>
      obtain ⟨vs,o2⟩:=x
      rw [hres] at h
      have yH:∀ (he:e=.normal∨e=.ret),(match La lent.length (C.mode f).keep st.heap (Iv vs) with | some r=>some (r,o1++o2,p1) | none=>none)=some (r,obs,p')→aI C.P f lent args r:=by
        intro he h
        split at h
        case h_2=>cases h
        rename_i r' hk
        simp only [Option.some.injEq,Prod.mk.injEq] at h;obtain ⟨rfl,rfl,rfl⟩:=h
        rw [ck] at ho
        refine Fx (keep:=(C.mode f).keep) hf hc fun ρ w a hN hs=>?_
        refine hself c _ p e st o1 p1 hr ho.1 ρ a w _ hs fun ρ' a' w' P1=>⟨?_,ρ',st,vs,o2,P1.ext,P1.wle,fun i hi q=>?_,P1.sr,hres,ho.2,hk⟩
        · rcases he with rfl | rfl
          · exact .inl rfl
          · exact .inr rfl
        · rcases P1.back i q with q | q
          · exact q
          · simp only [wa] at q;omega
      cases e with
      | normal=>exact yH (.inl rfl) h
      | ret=>exact yH (.inr rfl) h
      | exit id=>cases h
theorem DV{C:It}(hC:C.Ok){S:Jb}(hS:cR C.P S)(N:Nat) :∀ n,M9 C.P (rN C S N n)
  | 0=>fun c st p e st' obs p' h=>by cases h
  | n+1=>Rw hC (Ry hS (DV hC hS N n)) (DV hC hS N n)
theorem Lw{C:It}(hC:C.Ok){S:Jb}(hS:cR C.P S)(N n:Nat){f:FuncId}{lent:List ba}{args:List AV}{p p':nO}{r:rU}{obs:List Bool}(h:El C S (rN C S N n) f lent args p=some (r,obs,p'))(ho:aY obs) :
    aI C.P f lent args r:=Ry hS (DV hC hS N n) f lent args p r obs p' h ho
def Mx:List (Nat×Lu)→Nat→Option Lu
  | [],_=>none
  | (k,e)::l,f=>bif Nat.beq k f then some e else Mx l f
def Rz:List (Nat×UR)→Nat→UR
  | [],_=>⟨[],false⟩
  | (k,m)::l,f=>bif Nat.beq k f then m else Rz l f
def Tm(P:Program)(l:List (Nat×Lu))(ms:List (Nat×UR)) :It:={ P,ext:=Mx l,mode:=Rz ms,wrap:=false }
theorem Lb:∀ {l:List (Nat×Lu)} {f:Nat} {k:Lu},Mx l f=some k→(f,k)∈l
  | [],f,k,h=>by cases h
  | (a,e)::l,f,k,h=>by
    simp only [Mx] at h
    cases hb:Nat.beq a f with
    | true=>rw [hb] at h;simp only [cond_true,Option.some.injEq] at h;have:=Nat.eq_of_beq_eq_true hb;subst this;subst h;simp
    | false=>rw [hb] at h;simp only [cond_false] at h;exact List.mem_cons_of_mem _ (Lb h)
structure Tn (P:Program) (f:Nat) (k:Lu):Prop where
  fn : ∃ fn, P.funcs[f]? = some fn ∧ (fn.name == "runtime.NumGoroutine") = false ∧ fn.body.isNone = true ∧ Extern.findNext fn = none ∧ Extern.find fn = some (J5 k)
def To(P : Program) : Bool := P.funcs.toList.all fun fn => !(fn.name == "runtime.NumGoroutine")
theorem UX{P:Program}{l:List (Nat×Lu)}{ms:List (Nat×UR)}(hm:P.follows .mixedOrders=true)(hn:To P=true)(he:∀ x∈l,Tn P x.1 x.2) :(Tm P l ms).Ok:=by
  refine ⟨hm,fun f fn args w hf hb=>?_,fun f k args w hk=>?_⟩
  · have h1 : fn.name ≠ "runtime.NumGoroutine" := by
      have hmem:fn∈P.funcs.toList:=by
        have:fn∈P.funcs:=Array.mem_of_getElem? hf
        simpa using this
      have:=List.all_eq_true.1 hn fn hmem
      simpa using this
    have h2:fn.body≠none:=by intro q;rw [q] at hb;cases hb
    have hf':P.funcs[f]? = some fn:=hf
    have h3:fn.body.isNone=false:=by cases hq:fn.body<;>simp_all
    simp only [Tm,callFunc,Sem.run_bind,run_program,Result.andThen_ok,hf',beq_eq_false_iff_ne.2 h1,Bool.false_eq_true,if_false,h3,Sem.run_pure]
  · obtain ⟨fn,h1,h2,h3,h4,h5⟩:=(he _ (Lb hk)).fn
    have:=run_callFunc_extern (P:=P) h1 h2 h3 h4 h5 args w
    simp only [Tm]
    rw [this,Sem.run_bind]
    rfl
def At(k:Nat)(ρ0:aH)(w0:World)(st:aW)(a:Act)(w:World) :Prop:=∃ ρ,vY ρ0 ρ w0∧rc ρ0.live w0 w∧SR ρ st a w∧(∀ i,i<k→ρ.ok i→ρ0.ok i)∧k≤st.next
def T1(lent:List ba)(st st':aW) :Prop:=∀ ρ0 w0 a w,vN ρ0 w0 lent→At lent.length ρ0 w0 st a w→At lent.length ρ0 w0 st' a w
theorem T1.refl(lent:List ba)(st:aW) :T1 lent st st:=fun _ _ _ _ _ h=>h
theorem T1.trans{lent:List ba}{a b c:aW}(h:T1 lent a b)(k:T1 lent b c) :T1 lent a c:=fun _ _ _ _ hN q=>k _ _ _ _ hN (h _ _ _ _ hN q)
def RA:AV→AV
  | .flt _ x=>.flt false x
  | .bool _ b=>.bool false b
  | v=>v
def W1(σ:Nat→Option Nat) :ba→ba
  | .vs l=>.vs ((UF σ l).map RA)
  | d=>d
def J8(σ:Nat→Option Nat)(h:fj) :Nat→List Nat→fj
  | _,[]=>[]
  | i,b::l=>match bQ h b with
    | some d=>(i,W1 σ d)::J8 σ h (i+1) l
    | none=>J8 σ h (i+1) l
def Xo(b:Bool)(v u:AV) :AV :=
  match b with
  | true=>v
  | false=>u
def WD:List (Nat×AV)→Nat→AV
  | [],_=>.any
  | (k,v)::l,t=>Xo (Nat.beq k t) v (WD l t)
def Pv(L:List (Nat×AV)) :Nat→Nat→List AV
  | _,0=>[]
  | t,n+1=>WD L t::Pv L (t+1) n
def aw(n:Nat)(L:List (Nat×AV)) :List AV:=Pv L 0 n
def XH(σ:Nat→Option Nat)(ks:List Nat) :Nat→List AV→List AV
  | _,[]=>[]
  | t,v::l=>(bif DQ ks t then RA (VZ σ v) else .any)::XH σ ks (t+1) l
def norm(keep ks:List Nat)(st:aW) :aW :=
  ⟨XH (tA keep 0) ks 0 st.tmps,J8 (tA keep 0) st.heap 0 keep,keep.length⟩
theorem RB{ρ:aH}{w:World}{v:AV}{u:Value}(h:VR ρ w v u) :VR ρ w (RA v) u:=by
  cases h<;>simp only [RA]<;>first | exact .bool _ _ | (rename_i hf;refine .flt _ _ _ ?_;rcases hf with rfl | ⟨_,h2,h3⟩;exact .inl rfl;exact .inr ⟨rfl,h2,h3⟩) | skip
  case int=>exact .int _ _
  case str=>exact .str _
  case nptr=>exact .nptr
  case ptr hb=>exact .ptr _ _ _ _ hb
  case iptr=>rename_i bw d k i j bl o u' ha hb hr hg hc hv hk;exact .iptr bw d k i j bl o _ (by assumption) (by assumption) (by assumption) (by assumption) (by assumption) (by assumption) (by assumption)
  case nsl=>exact .nsl
  case esl=>exact .esl _
  case zsl=>exact .zsl _ _
  case nan=>exact .nan _ (by assumption)
  case sl=>exact .sl _ _ _ _ _ _ _ (by assumption) (by assumption) (by assumption) _ _ (by assumption) (by assumption)
  case slEnd=>exact .slEnd _ _ _ _ _
  case imm=>exact .imm _ _ _ _ _ _ _ _ _ _ (by assumption) (by assumption) (by assumption) (by assumption) (by assumption) (by assumption) (by assumption) (by assumption)
  case immEnd=>exact .immEnd _ _ _ _ _ _ _ (by assumption) (by assumption) (by assumption)
  case fn=>exact .fn _ _ _ _ _ (by assumption) (by assumption)
  case nfn=>exact .nfn
  case agg=>exact .agg _ _ (by assumption)
  case tup=>exact .tup _ _ (by assumption)
  case iface=>exact .iface _ _ _ (by assumption)
  case niface=>exact .niface
  case any=>exact .any _
theorem UY{ρ:aH}{keep ks:List Nat}{w:World} :∀ (l:List AV) (t:Nat) {c:List Value},jk ρ w l c→jk (ρ.renamed keep) w (XH (tA keep 0) ks t l) c
  | [],t,c,h=>by cases h;exact .nil
  | v::l,t,c,h=>by
    cases h with | cons _ u _ c' h1 h2 =>
    simp only [XH]
    refine .cons _ _ _ _ ?_ (UY l (t+1) h2)
    cases DQ ks t with
    | true=>exact RB (K9 v h1)
    | false=>exact .any u
theorem DW{σ:Nat→Option Nat}{h:fj} :∀ {l:List Nat} {i c:Nat} {d:ba},bQ (J8 σ h i l) c=some d→i≤c∧∃ b e,l[c-i]? = some b∧bQ h b=some e∧d=W1 σ e
  | [],i,c,d,q=>by cases q
  | b::l,i,c,d,q=>by
    simp only [J8] at q
    have next:bQ (J8 σ h (i+1) l) c=some d→i≤c∧∃ b' e,(b::l)[c-i]? = some b'∧bQ h b'=some e∧d=W1 σ e:=by
      intro q
      obtain ⟨h1,b',e,h2,h3,h4⟩:=DW q
      refine ⟨by omega,b',e,?_,h3,h4⟩
      have:c-i=(c-(i+1))+1:=by omega
      rw [this];simpa using h2
    split at q
    · rename_i e he
      simp only [bQ] at q
      cases hc:Nat.beq i c with
      | true =>
        rw [hc] at q;simp only [cond_true,Option.some.injEq] at q
        have:=Nat.eq_of_beq_eq_true hc;subst this
        exact ⟨Nat.le_refl _,b,e,by simp,he,q.symm⟩
      | false=>rw [hc] at q;exact next q
    · exact next q
theorem UZ{σ:Nat→Option Nat}{d:ba}(h:d.recKept) :(W1 σ d).recKept:=by
  cases d<;>first | exact h | trivial
theorem RC{σ:Nat→Option Nat}{d:ba}{x:Nat}{v:AV}(h:(W1 σ d).cell? x=some v)(hr:d.recKept) :∃ v',d.cell? x=some v'∧(v=RA (VZ σ v')∨(v=v'∧v.foreign=true)):=by
  cases d with
  | vs l =>
    simp only [W1,ba.cell?,List.getElem?_map,Qe,Option.map_map,Option.map_eq_some_iff,Function.comp] at h
    obtain ⟨v',h1,rfl⟩:=h
    exact ⟨v',h1,.inl rfl⟩
  | fl xs=>exact ⟨v,h,.inr ⟨rfl,bX (d:=.fl xs) hr rfl x v h⟩⟩
  | ns k xs=>exact ⟨v,h,.inr ⟨rfl,bX (d:=.ns k xs) hr rfl x v h⟩⟩
  | bs xs=>exact ⟨v,h,.inr ⟨rfl,bX (d:=.bs xs) hr rfl x v h⟩⟩
  | ss xs=>exact ⟨v,h,.inr ⟨rfl,bX (d:=.ss xs) hr rfl x v h⟩⟩
  | rows k m get=>exact ⟨v,h,.inr ⟨rfl,bX (d:=.rows k m get) hr rfl x v h⟩⟩
  | cols m cs=>exact ⟨v,h,.inr ⟨rfl,bX (d:=.cols m cs) hr rfl x v h⟩⟩
def Qg:Nat→Nat→List Nat→Bool
  | 0,_,_=>true
  | _+1,_,[]=>false
  | k+1,i,b::l=>Nat.beq b i&&Qg k (i+1) l
theorem Nd:∀ {k i:Nat} {l:List Nat},Qg k i l=true→∀ j,j<k→l[j]? = some (i+j)
  | 0,i,l,_,j,hj=>by omega
  | k+1,i,[],h,j,hj=>by cases h
  | k+1,i,b::l,h,j,hj=>by
    simp only [Qg,Bool.and_eq_true] at h
    cases j with
    | zero=>simp;exact Nat.eq_of_beq_eq_true h.1
    | succ j=>simp only [List.getElem?_cons_succ];rw [Nd h.2 j (by omega)];congr 1;omega
def SH(k:Nat)(keep:List Nat) :Bool:=DR keep&&Qg k 0 keep
theorem U0{lent:List ba}{keep ks:List Nat}(hk:SH lent.length keep=true)(st:aW) :T1 lent st (norm keep ks st):=by
  unfold SH at hk
  rw [Bool.and_eq_true] at hk
  obtain ⟨hn,hid⟩:=hk
  have idL:∀ {i:Nat},i<lent.length→keep[i]? = some i:=fun q=>by have:=Nd hid _ q;simpa using this
  have atL:∀ {ρ:aH} {i b:Nat},keep[i]? = some b→(ρ.renamed keep).at_ i=ρ.at_ b:=fun q=>by simp [aH.renamed,q]
  rintro ρ0 w0 a w hN ⟨ρ,E,W,S,hbk,hle⟩
  refine ⟨ρ.renamed keep,⟨fun b q=>?_,fun b q=>⟨b,idL (hN.heap.lt b q),E.ok b q⟩,E.live,E.new,E.out⟩,W,⟨S.defers,UY _ _ S.tmps,?_⟩,fun i hi q=>?_,?_⟩
  · rw [atL (idL (hN.heap.lt b q))];exact E.at_ b q
  · have hh:=S.heap
    refine ⟨fun c d q=>?_,fun c c' d d' q q' ok1 ok2 he=>?_,hh.fresh,hh.liveLt,hh.outLt,fun c q=>?_,fun x hx=>K9 _ (hh.rom x hx)⟩
    · obtain ⟨_,b,e,h1,h2,rfl⟩:=DW q
      rw [Nat.sub_zero] at h1
      rcases hh.cell b e h2 with ⟨k1,k2,hr,ce,t,r1,r2⟩ | ⟨k1,k2,k3,k4⟩
      · refine .inl ⟨⟨b,h1,k1⟩,by rw [atL h1];exact k2,UZ hr,ce,t,by rw [atL h1];exact r1,fun x v hx=>?_⟩
        obtain ⟨v',s1,s2⟩:=RC hx hr
        obtain ⟨u,t1,t2⟩:=r2 x v' s1
        refine ⟨u,t1,?_⟩
        rcases s2 with rfl | ⟨rfl,hf⟩
        · exact RB (K9 v' t2)
        · exact nP t2 hf
      · refine .inr ⟨?_,(List.getElem?_eq_some_iff.1 h1).1,UZ k3,fun x=>?_⟩
        · rintro ⟨b',q1,q2⟩
          rw [h1] at q1;cases q1
          exact k1 q2
        · cases hc:(W1 (tA keep 0) e).cell? x with
          | none=>rfl
          | some v=>obtain ⟨v',s1,_⟩:=RC hc k3;rw [k4 x] at s1;cases s1
    · obtain ⟨_,b,e,h1,h2,rfl⟩:=DW q
      obtain ⟨_,b',e',h1',h2',rfl⟩:=DW q'
      rw [Nat.sub_zero] at h1 h1'
      obtain ⟨x,x1,x2⟩:=ok1
      obtain ⟨y,y1,y2⟩:=ok2
      rw [h1] at x1;cases x1
      rw [h1'] at y1;cases y1
      rw [atL h1,atL h1'] at he
      have:=hh.inj b b' e e' h2 h2' x2 y2 he
      subst this
      exact DS hn h1 h1'
    · obtain ⟨b,h1,_⟩:=q
      exact (List.getElem?_eq_some_iff.1 h1).1
  · obtain ⟨b,q1,q2⟩:=q
    rw [idL hi] at q1;cases q1
    exact hbk i hi q2
  · simp only [norm]
    rcases Nat.lt_or_ge keep.length lent.length with q | q
    · have:=idL q
      rw [List.getElem?_eq_none (Nat.le_refl _)] at this;cases this
    · exact q
inductive GP where
  | slot (t:Nat)
  | part (t i:Nat)
  | cell (b i:Nat)
def lG.empty:lG→Bool
  | .cf [] | .ci _ [] | .cb [] | .cs [] | .cfl [] | .cns _ []=>true
  | _=>false
def Jc:List lG→Bool
  | []=>true
  | c::l=>c.empty&&Jc l
def ba.isVoid:ba→Bool
  | .fl [] | .ns _ [] | .bs [] | .ss [] | .vs []=>true
  | .cols 0 cs=>Jc cs
  | _=>false
theorem Ne{c:lG}(h:c.empty=true) :c.len=0:=by
  unfold lG.empty at h
  split at h<;>first | rfl | cases h
theorem BL:∀ {l:List lG},Jc l=true→∀ c∈l,c.len=0
  | [],_,c,hc=>by cases hc
  | c::l,h,x,hx=>by
    simp only [Jc,Bool.and_eq_true] at h
    rcases List.mem_cons.1 hx with rfl | q
    · exact Ne h.1
    · exact BL h.2 x q
theorem Fy{d:ba}(h:d.isVoid=true) :d.recKept∧d.void:=by
  unfold ba.isVoid at h
  split at h
  case h_6 =>
    rename_i cs
    have:=BL h
    refine ⟨this,fun x=>?_⟩
    cases hc:(ba.cols 0 cs).cell? x with
    | none=>rfl
    | some v =>
      obtain ⟨c,_,h2,h3⟩:=mV hc
      have:=Fj h3
      rw [BL h c h2] at this;exact absurd this (Nat.not_lt_zero _)
  case h_7=>cases h
  all_goals exact ⟨trivial,fun x=>by simp [ba.cell?]⟩
theorem Nf(b w es:Nat) :bL .nsl (.sl b w es 0 0 0):=by
  intro ρ w' u h;cases h;exact .slEnd _ _ _ _ _
theorem HR.weaken{ρ:aH}{w:World}{h:fj}{n b:Nat}{d d':ba}(hh:HR ρ w h n)(hg:bQ h b=some d)(hr:d'.recKept)(hw:∀ x v',d'.cell? x=some v'→∃ v,d.cell? x=some v∧bL v v') :HR ρ w (lQ h b d') n:=by
  have look:∀ x e,bQ (lQ h b d') x=some e→(x=b∧e=d')∨(x≠b∧bQ h x=some e):=by
    intro x e hx
    rw [iV] at hx
    by_cases q:b=x
    · rw [if_pos q] at hx;cases hx;exact .inl ⟨q.symm,rfl⟩
    · rw [if_neg q] at hx;exact .inr ⟨fun e=>q e.symm,hx⟩
  have had:∀ x e,bQ (lQ h b d') x=some e→∃ e',bQ h x=some e':=by
    intro x e hx
    rcases look x e hx with ⟨rfl,_⟩ | ⟨_,q⟩
    · exact ⟨d,hg⟩
    · exact ⟨e,q⟩
  refine ⟨fun x e hx=>?_,fun x y e f h1 h2 ok1 ok2 he=>?_,hh.fresh,hh.liveLt,hh.outLt,hh.lt,hh.rom⟩
  · rcases look x e hx with ⟨rfl,rfl⟩ | ⟨_,q⟩
    · rcases hh.cell x d hg with ⟨k1,k2,_,c,t,r1,r2⟩ | ⟨k1,k2,_,k4⟩
      · refine .inl ⟨k1,k2,hr,c,t,r1,fun y v' hy=>?_⟩
        obtain ⟨v,q1,q2⟩:=hw y v' hy
        obtain ⟨u,t1,t2⟩:=r2 y v q1
        exact ⟨u,t1,q2 _ _ _ t2⟩
      · refine .inr ⟨k1,k2,hr,fun y=>?_⟩
        cases hc:e.cell? y with
        | none=>rfl
        | some v'=>obtain ⟨v,q1,_⟩:=hw y v' hc;rw [k4 y] at q1;cases q1
    · exact hh.cell x e q
  · obtain ⟨e',q1⟩:=had x e h1
    obtain ⟨f',q2⟩:=had y f h2
    exact hh.inj x y e' f' q1 q2 ok1 ok2 he
def SI(st:aW)(pos:GP)(w es:Nat)(d:ba) :aW :=
  match pos with
  | .slot t =>
    match st.tmps[t]? with
    | some .nsl=>⟨st.tmps.set t (.sl st.next w es 0 0 0),lQ st.heap st.next d,st.next+1⟩
    | some .esl=>⟨st.tmps.set t (.sl st.next w es 0 0 0),lQ st.heap st.next d,st.next+1⟩
    | _=>st
  | .part t i =>
    match st.tmps[t]? with
    | some (.agg l) =>
      match l[i]? with
      | some .nsl=>⟨st.tmps.set t (.agg (l.set i (.sl st.next w es 0 0 0))),lQ st.heap st.next d,st.next+1⟩
      | _=>st
    | _=>st
  | .cell b i =>
    match bQ st.heap b with
    | some (.vs l) =>
      match l[i]? with
      | some .nsl=>⟨st.tmps,lQ (lQ st.heap b (.vs (l.set i (.sl st.next w es 0 0 0)))) st.next d,st.next+1⟩
      | _=>st
    | _=>st
theorem U1(b w es:Nat) :bL .esl (.sl b w es 0 0 0):=by
  intro ρ w' u h;cases h;exact .slEnd _ _ _ _ _
theorem Bs{ρ:aH}{w:World} :∀ {l:List AV} {c:List Value} {i:Nat} {v v':AV},jk ρ w l c→l[i]? = some v→bL v v'→jk ρ w (l.set i v') c
  | _,_,i,v,v',.nil,h,_=>by simp at h
  | _,_,0,v,v',.cons a u l c h t,hi,hw=>by simp at hi;subst hi;exact .cons _ _ _ _ (hw _ _ _ h) t
  | _,_,i+1,v,v',.cons a u l c h t,hi,hw=>.cons _ _ _ _ h (Bs t (by simpa using hi) hw)
theorem SJ{lent:List ba}{st:aW}{pos:GP}{w es:Nat}{d:ba}(hd:d.isVoid=true) :T1 lent st (SI st pos w es d):=by
  obtain ⟨d1,d2⟩:=Fy hd
  rintro ρ0 w0 a w' hN ⟨ρ,E,W,S,hbk,hle⟩
  have hh:=S.heap
  have hno : ¬ ρ.ok st.next:=fun q=>Nat.lt_irrefl _ (hh.lt _ q)
  have h1:HR ρ w' (lQ st.heap st.next d) (st.next+1):=(hh.le (Nat.le_succ _)).ghost hno (Nat.lt_succ_self _) d1 d2
  have id_:At lent.length ρ0 w0 st a w':=⟨ρ,E,W,S,hbk,hle⟩
  unfold SI
  split
  · split
    · rename_i t h
      exact ⟨ρ,E,W,⟨S.defers,Bs S.tmps h (Nf _ _ _),h1⟩,hbk,Nat.le_succ_of_le hle⟩
    · rename_i t h
      exact ⟨ρ,E,W,⟨S.defers,Bs S.tmps h (U1 _ _ _),h1⟩,hbk,Nat.le_succ_of_le hle⟩
    · exact id_
  · split
    · rename_i t i l h
      split
      · rename_i h2
        refine ⟨ρ,E,W,⟨S.defers,Bs S.tmps h ?_,h1⟩,hbk,Nat.le_succ_of_le hle⟩
        intro ρ w u hu
        cases hu with | agg _ c hc=>exact .agg _ _ (Bs hc h2 (Nf _ _ _))
      · exact id_
    · exact id_
  · split
    · rename_i b i _ l h
      split
      · rename_i h2
        have hw:HR ρ w' (lQ st.heap b (.vs (l.set i (.sl st.next w es 0 0 0)))) st.next:=by
          refine hh.weaken h trivial fun x v' hx=>?_
          simp only [ba.cell?,List.getElem?_set] at hx ⊢
          by_cases hi:i=x
          · subst hi
            rw [if_pos rfl] at hx
            split at hx
            · cases hx;exact ⟨_,h2,Nf _ _ _⟩
            · cases hx
          · rw [if_neg hi] at hx;exact ⟨v',hx,bL.refl _⟩
        exact ⟨ρ,E,W,⟨S.defers,S.tmps,(hw.le (Nat.le_succ _)).ghost hno (Nat.lt_succ_self _) d1 d2⟩,hbk,Nat.le_succ_of_le hle⟩
      · exact id_
    · exact id_
def Ng(f:AV→Option AV)(st:aW)(pos:GP) :aW :=
  match pos with
  | .slot t =>
    match st.tmps[t]? with
    | some v=>match f v with
      | some v'=>⟨st.tmps.set t v',st.heap,st.next⟩
      | none=>st
    | none=>st
  | .part t i =>
    match st.tmps[t]? with
    | some (.agg l) =>
      match l[i]? with
      | some v=>match f v with
        | some v'=>⟨st.tmps.set t (.agg (l.set i v')),st.heap,st.next⟩
        | none=>st
      | none=>st
    | _=>st
  | .cell b i =>
    match bQ st.heap b with
    | some (.vs l) =>
      match l[i]? with
      | some v=>match f v with
        | some v'=>⟨st.tmps,lQ st.heap b (.vs (l.set i v')),st.next⟩
        | none=>st
      | none=>st
    | _=>st
theorem Iw{lent:List ba}{st:aW}{pos:GP}{f:AV→Option AV}(hf:∀ v v',f v=some v'→bL v v') :T1 lent st (Ng f st pos):=by
  rintro ρ0 w0 a w' hN ⟨ρ,E,W,S,hbk,hle⟩
  have hh:=S.heap
  have id_:At lent.length ρ0 w0 st a w':=⟨ρ,E,W,S,hbk,hle⟩
  unfold Ng
  split
  · split
    · rename_i t v h
      split
      · rename_i v' hv
        exact ⟨ρ,E,W,⟨S.defers,Bs S.tmps h (hf _ _ hv),hh⟩,hbk,hle⟩
      · exact id_
    · exact id_
  · split
    · rename_i t i l h
      split
      · rename_i v h2
        split
        · rename_i v' hv
          refine ⟨ρ,E,W,⟨S.defers,Bs S.tmps h ?_,hh⟩,hbk,hle⟩
          intro ρ w u hu
          cases hu with | agg _ c hc=>exact .agg _ _ (Bs hc h2 (hf _ _ hv))
        · exact id_
      · exact id_
    · exact id_
  · split
    · rename_i b i _ l h
      split
      · rename_i v h2
        split
        · rename_i v' hv
          have hw:HR ρ w' (lQ st.heap b (.vs (l.set i v'))) st.next:=by
            refine hh.weaken h trivial fun x u hx=>?_
            simp only [ba.cell?,List.getElem?_set] at hx ⊢
            by_cases hi:i=x
            · subst hi
              rw [if_pos rfl] at hx
              split at hx
              · cases hx;exact ⟨_,h2,hf _ _ hv⟩
              · cases hx
            · rw [if_neg hi] at hx;exact ⟨u,hx,bL.refl _⟩
          exact ⟨ρ,E,W,⟨S.defers,S.tmps,hw⟩,hbk,hle⟩
        · exact id_
      · exact id_
    · exact id_
theorem Bt{d:ba}(h:d.isVoid=true) :d.kept=true∧d.foreign=true:=by
  unfold ba.isVoid at h
  split at h<;>first | exact ⟨rfl,rfl⟩ | cases h
theorem T3{d:ba}(w es:Nat)(hd:d.isVoid=true) :bL .nsl (.imm .free d w es 0 0):=by
  intro ρ w' u h;cases h;exact .immEnd _ _ _ _ _ _ _ (Fy hd).1 (fun _=>(Bt hd).1) (Bt hd).2
theorem T4{d:ba}(w es:Nat)(hd:d.isVoid=true) :bL .esl (.imm .free d w es 0 0):=by
  intro ρ w' u h;cases h;exact .immEnd _ _ _ _ _ _ _ (Fy hd).1 (fun _=>(Bt hd).1) (Bt hd).2
def SK(w es:Nat)(d:ba) :AV→Option AV
  | .nsl | .esl=>some (.imm .free d w es 0 0)
  | _=>none
theorem RD{w es:Nat}{d:ba}(hd:d.isVoid=true) :∀ v v',SK w es d v=some v'→bL v v':=by
  intro v v' h
  unfold SK at h
  split at h
  · cases h;exact T3 _ _ hd
  · cases h;exact T4 _ _ hd
  · cases h
theorem Tp{l:Lv}{ρ:aH}{bl:Nat}(ha:ρ.avoid .free bl) :ρ.avoid l bl:=rv (fun j=>ha j (Nat.zero_le _)) _ _
def W2(l:Lv) :AV→Option AV
  | .imm .free d w es i n=>some (.imm l d w es i n)
  | .iptr .free d w i j=>some (.iptr l d w i j)
  | _=>none
theorem T5{l:Lv} :∀ v v',W2 l v=some v'→bL v v':=by
  intro v v' h
  unfold W2 at h
  split at h
  · cases h
    intro ρ w' u hu
    cases hu with
    | imm _ _ _ _ _ _ cap bl o u ha hb hc hv hn hr hk hg=>exact .imm _ _ _ _ _ _ cap bl o u (Tp ha) hb hc hv hn hr (fun _=>hk rfl) hg
    | immEnd _ _ _ _ _ cap a hr hk hg=>exact .immEnd _ _ _ _ _ cap a hr (fun _=>hk rfl) hg
  · cases h
    intro ρ w' u hu
    cases hu with
    | iptr _ _ _ _ _ bl o u ha hb hc hv hr hk hg=>exact .iptr _ _ _ _ _ bl o u (Tp ha) hb hc hv hr (fun _=>hk rfl) hg
  · cases h
def U2:AV→Option AV
  | .imm _ d w es i n=>some (.imm .lent d w es i n)
  | .iptr _ d w i j=>some (.iptr .lent d w i j)
  | _=>none
theorem SL:∀ v v',U2 v=some v'→bL v v':=by
  intro v v' h
  unfold U2 at h
  split at h
  · cases h
    intro ρ w' u hu
    cases hu with
    | imm _ _ _ _ _ _ cap bl o u ha hb hc hv hn hr hk hg=>exact .imm _ _ _ _ _ _ cap bl o u (Ij (O:=ρ.own) ha) hb hc hv hn hr (fun q=>by cases q) hg
    | immEnd _ _ _ _ _ cap a hr hk hg=>exact .immEnd _ _ _ _ _ cap a hr (fun q=>by cases q) hg
  · cases h
    intro ρ w' u hu
    cases hu with
    | iptr _ _ _ _ _ bl o u ha hb hc hv hr hk hg=>exact .iptr _ _ _ _ _ bl o u (Ij (O:=ρ.own) ha) hb hc hv hr (fun q=>by cases q) hg
  · cases h
inductive GK where
  | own (w es:Nat) (d:ba)
  | fre (w es:Nat) (d:ba)
  | lev (l:Lv)
  | low
abbrev GL:=List (GP×GK)
def J9:GL→aW→aW
  | [],st=>st
  | (p,.fre w es d)::l,st=>J9 l (Ng (SK w es d) st p)
  | (p,.own w es d)::l,st=>J9 l (SI st p w es d)
  | (p,.lev v)::l,st=>J9 l (Ng (W2 v) st p)
  | (p,.low)::l,st=>J9 l (Ng U2 st p)
def uB:GL→Bool
  | []=>true
  | (_,.own _ _ d)::l=>d.isVoid&&uB l
  | (_,.fre _ _ d)::l=>d.isVoid&&uB l
  | (_,.lev _)::l=>uB l
  | (_,.low)::l=>uB l
theorem zW{lent:List ba} :∀ {l:GL} {st:aW},uB l=true→T1 lent st (J9 l st)
  | [],st,_=>T1.refl _ _
  | (p,.fre w es d)::l,st,h=>by
    simp only [uB,Bool.and_eq_true] at h
    exact (Iw (RD h.1)).trans (zW h.2)
  | (p,.own w es d)::l,st,h=>by
    simp only [uB,Bool.and_eq_true] at h
    exact (SJ h.1).trans (zW h.2)
  | (p,.lev v)::l,st,h=>(Iw T5).trans (zW (l:=l) (by simpa [uB] using h))
  | (p,.low)::l,st,h=>(Iw SL).trans (zW (l:=l) (by simpa [uB] using h))
structure NS where
  gs:GL
  keep:List Nat
  ks:List Nat
def NS.ok(k:Nat)(s:NS) :Bool:=uB s.gs&&SH k s.keep
def NS.on(s:NS)(st:aW) :aW:=norm s.keep s.ks (J9 s.gs st)
theorem U3{lent:List ba}{s:NS}(h:s.ok lent.length=true)(st:aW) :T1 lent st (s.on st):=by
  unfold NS.ok at h
  rw [Bool.and_eq_true] at h
  exact (zW h.1).trans (U0 h.2 _)
def cS:Code→List Code
  | .seq a b=>cS a++cS b
  | .skip=>[]
  | .label _=>[]
  | c=>[c]
def Oz(P:Program) :List Code→(Exit→Act→World→Prop)→Act→World→Prop
  | [],K,a,w=>K .normal a w
  | c::l,K,a,w=>c.wp P (fun e a' w'=>match e with | .normal=>Oz P l K a' w' | e=>K e a' w') a w
theorem Ix{P:Program}{K:Exit→Act→World→Prop} :∀ (l l':List Code) (a:Act) (w:World),Oz P l (fun e a' w'=>match e with | .normal=>Oz P l' K a' w' | e=>K e a' w') a w→Oz P (l++l') K a w
  | [],l',a,w,h=>h
  | c::l,l',a,w,h=>by
    simp only [List.cons_append,Oz] at h ⊢
    refine wp_mono h ?_
    intro e a' w' q
    cases e<;>first | exact Ix l l' a' w' q | exact q
theorem BM{P:Program}{c:Code}{K:Exit→Act→World→Prop}{a:Act}{w:World}(h:Oz P [c] K a w) :c.wp P K a w:=by
  simp only [Oz] at h
  refine wp_mono h ?_
  intro e a' w' q
  cases e<;>exact q
theorem DX{P:Program} :∀ (c:Code) {K:Exit→Act→World→Prop} {a:Act} {w:World},Oz P (cS c) K a w→c.wp P K a w
  | .seq x y,K,a,w,h=>by
    simp only [cS] at h
    refine wp_seq (DX x ?_)
    have app:∀ (l l':List Code) (a:Act) (w:World),Oz P (l++l') K a w→Oz P l (fun e a' w'=>match e with | .normal=>Oz P l' K a' w' | e=>K e a' w') a w:=by
      intro l
      induction l with
      | nil=>intro l' a w h;exact h
      | cons c l ih =>
        intro l' a w h
        simp only [List.cons_append,Oz] at h ⊢
        refine wp_mono h ?_
        intro e a' w' q
        cases e<;>first | exact ih l' a' w' q | exact q
    have:=app _ _ _ _ h
    have mono:∀ (l:List Code) (K K':Exit→Act→World→Prop) (a:Act) (w:World),(∀ e a w,K e a w→K' e a w)→Oz P l K a w→Oz P l K' a w:=by
      intro l
      induction l with
      | nil=>intro K K' a w hK h;exact hK _ _ _ h
      | cons c l ih =>
        intro K K' a w hK h
        simp only [Oz] at h ⊢
        refine wp_mono h ?_
        intro e a' w' q
        cases e<;>first | exact ih K K' a' w' hK q | exact hK _ _ _ q
    refine mono _ _ _ _ _ ?_ this
    intro e a' w' q
    cases e<;>first | exact DX y q | exact q
  | .skip,K,a,w,h=>wp_skip h
  | .label _,K,a,w,h=>wp_label h
  | .region ..,K,a,w,h=>BM h
  | .cond ..,K,a,w,h=>BM h
  | .block ..,K,a,w,h=>BM h
  | .loop ..,K,a,w,h=>BM h
  | .exit ..,K,a,w,h=>BM h
  | .ret,K,a,w,h=>BM h
  | .scope ..,K,a,w,h=>BM h
  | .goto ..,K,a,w,h=>BM h
  | .rangeFunc ..,K,a,w,h=>BM h
  | .refuse ..,K,a,w,h=>BM h
def nQ(P:Program)(lent:List ba)(cs:List Code)(st:aW)(Q:AE→aW→Prop) :Prop :=
  ∀ (ρ0:aH) (w0:World),vN ρ0 w0 lent→∀ (K:Exit→Act→World→Prop),(∀ e st' a' w',Q e st'→At lent.length ρ0 w0 st' a' w'→K e.real a' w')→∀ a w,At lent.length ρ0 w0 st a w→Oz P cs K a w
def T6(self:Br) :List Code→aW→nO→WC
  | [],st,p=>some (.normal,st,[],p)
  | c::l,st,p =>
    match self c st p with
    | some (.normal,st1,o1,p1) =>
      match T6 self l st1 p1 with
      | some (e,st2,o2,p2)=>some (e,st2,o1++o2,p2)
      | none=>none
    | r=>r
theorem Tq{P:Program}{self:Br}(hself:M9 P self) :∀ (cs:List Code) {st st':aW} {p p':nO} {e:AE} {obs:List Bool},T6 self cs st p=some (e,st',obs,p')→aY obs→∀ {ρ:aH} {a:Act} {w:World} {Q:Exit→Act→World→Prop},SR ρ st a w →
    (∀ ρ' a' w',Fr ρ w st.next st' ρ' a' w'→Q e.real a' w')→Oz P cs Q a w
  | [],st,st',p,p',e,obs,h,ho,ρ,a,w,Q,hs,hQ=>by
    simp only [T6,Option.some.injEq,Prod.mk.injEq] at h;obtain ⟨rfl,rfl,rfl,rfl⟩:=h
    exact hQ ρ a w (Fr.refl hs)
  | c::l,st,st',p,p',e,obs,h,ho,ρ,a,w,Q,hs,hQ=>by
    simp only [T6] at h
    split at h
    · rename_i st1 o1 p1 h1
      split at h
      case h_2=>cases h
      rename_i e2 st2 o2 p2 h2
      simp only [Option.some.injEq,Prod.mk.injEq] at h;obtain ⟨rfl,rfl,rfl,rfl⟩:=h
      rw [ck] at ho
      refine hself c st p _ _ _ _ h1 ho.1 ρ a w _ hs fun ρ1 a1 w1 P1=>?_
      exact Tq hself l h2 ho.2 P1.sr fun ρ2 a2 w2 P2=>hQ ρ2 a2 w2 (P1.trans P2)
    · rename_i hne
      refine hself c st p _ _ _ _ h ho ρ a w _ hs fun ρ1 a1 w1 P1=>?_
      have:=hQ ρ1 a1 w1 P1
      cases e with
      | normal=>exact (hne _ _ _ h).elim
      | ret=>exact this
      | exit id=>exact this
theorem At.post{lent:List ba}{ρ0 ρ ρ':aH}{w0 w w':World}{st st':aW}{a a':Act}(E:vY ρ0 ρ w0)(W:rc ρ0.live w0 w)(hbk:∀ i,i<lent.length→ρ.ok i→ρ0.ok i)(hle:lent.length≤st.next)(h:Fr ρ w st.next st' ρ' a' w') :At lent.length ρ0 w0 st' a' w' :=
  ⟨ρ',E.trans h.ext W.size,W.trans h.wle (fun x hx q=>E.new x hx q),h.sr,fun i hi q=>(h.back i q).elim (hbk i hi) (fun r=>by omega),Nat.le_trans hle h.le⟩
theorem nQ.weak{P:Program}{lent:List ba}{cs:List Code}{st st1:aW}{Q:AE→aW→Prop}(hs:T1 lent st st1)(h:nQ P lent cs st1 Q) :nQ P lent cs st Q :=
  fun ρ0 w0 hN K hK a w hA=>h ρ0 w0 hN K hK a w (hs _ _ _ _ hN hA)
theorem nQ.nil{P:Program}{lent:List ba}{st:aW}{Q:AE→aW→Prop}(h:Q .normal st) :nQ P lent [] st Q :=
  fun ρ0 w0 hN K hK a w hA=>hK .normal st a w h hA
def OK(P:Program)(lent:List ba)(rest:List Code)(e:AE)(st:aW)(Q:AE→aW→Prop) :Prop :=
  match e with
  | .normal=>nQ P lent rest st Q
  | e=>Q e st
theorem OK.exit{P:Program}{lent:List ba}{rest:List Code}{id:Nat}{st:aW}{Q:AE→aW→Prop}(h:Q (.exit id) st) :OK P lent rest (.exit id) st Q:=h
theorem OK.ret{P:Program}{lent:List ba}{rest:List Code}{st:aW}{Q:AE→aW→Prop}(h:Q .ret st) :OK P lent rest .ret st Q:=h
theorem OK.normal{P:Program}{lent:List ba}{rest:List Code}{st:aW}{Q:AE→aW→Prop}(h:nQ P lent rest st Q) :OK P lent rest .normal st Q:=h
def U4(s:NS)(r:WC) :Option (AE×aW×List Bool) :=
  match r with
  | some (e,st,obs,_)=>some (e,s.on st,obs)
  | none=>none
theorem nQ.seg{C:It}(hC:C.Ok){S:Jb}(hS:cR C.P S){lent:List ba}{N n:Nat}(k:Nat)(p:nO)(s:NS){cs:List Code}{st st1:aW}{e:AE}{obs:List Bool}{Q:AE→aW→Prop} 
    (h:U4 s (T6 (rN C S N n) (cs.take k) st p)=some (e,st1,obs)) (hn:s.ok lent.length=true) (ho:aY obs) (hr:OK C.P lent (cs.drop k) e st1 Q):nQ C.P lent cs st Q:=by
  intro ρ0 w0 hN K hK a w ⟨ρ,E,W,S1,hbk,hle⟩
  rw [←List.take_append_drop k cs]
  apply Ix
  unfold U4 at h
  split at h
  case h_2=>cases h
  rename_i e' st2 obs' p' hrun
  simp only [Option.some.injEq,Prod.mk.injEq] at h;obtain ⟨rfl,rfl,rfl⟩:=h
  refine Tq (DV hC hS N n) _ hrun ho S1 fun ρ' a' w' P1=>?_
  have hA:=U3 hn st2 ρ0 w0 a' w' hN (At.post (st:=st) (a:=a) E W hbk hle P1)
  cases e' with
  | normal=>exact hr ρ0 w0 hN K hK a' w' hA
  | ret=>exact hK _ _ _ _ hr hA
  | exit id=>exact hK _ _ _ _ hr hA
def Jd(P:Program)(lent:List ba){σ:Type}(I:σ→aW)(G:σ→Prop)(m:σ→Nat)(s:σ)(id:Nat)(rest:List Code)(Q:AE→aW→Prop)(e:AE)(st:aW) :Prop :=
  match e with
  | .normal=>∃ s',G s'∧m s'<m s∧st=I s'
  | .exit j=>if j=id then nQ P lent rest st Q else Q (.exit j) st
  | .ret=>Q .ret st
theorem Jd.out{P:Program}{lent:List ba}{σ:Type}{I:σ→aW}{G:σ→Prop}{m:σ→Nat}{s:σ}{id:Nat}{rest:List Code}{Q:AE→aW→Prop}{st:aW}(h:nQ P lent rest st Q) :Jd P lent I G m s id rest Q (.exit id) st:=by
  simp only [Jd,if_true];exact h
theorem Jd.on{P:Program}{lent:List ba}{σ:Type}{I:σ→aW}{G:σ→Prop}{m:σ→Nat}{s:σ}{id:Nat}{rest:List Code}{Q:AE→aW→Prop}{st:aW}(s':σ)(hs:st=I s')(hm:m s'<m s)(hG:G s') :nQ P lent [] st (Jd P lent I G m s id rest Q) :=
  nQ.nil ⟨s',hG,hm,hs⟩
theorem nQ.loop{P:Program}{lent:List ba}{σ:Type}(I:σ→aW)(G:σ→Prop)(m:σ→Nat){id:Nat}{b:Code}{cs rest:List Code}{Q:AE→aW→Prop}(hcs:cs=.block id (.loop b)::rest) 
    (body:∀ s,G s→nQ P lent (cS b) (I s) (Jd P lent I G m s id rest Q)) (s:σ) (hs:G s):nQ P lent cs (I s) Q:=by
  subst hcs
  intro ρ0 w0 hN K hK a w hA
  simp only [Oz]
  refine wp_block ?_
  refine wp_loop_rounds (m s+1) ?_
  have yH:∀ n s,m s<n→G s→∀ a w,At lent.length ρ0 w0 (I s) a w→Code.rounds P b (Exit.inBlock id fun (e:Exit) a' w'=>match e with | .normal=>Oz P rest K a' w' | e=>K e a' w') n a w:=by
    intro n
    induction n with
    | zero=>intro s h;omega
    | succ n ih =>
      intro s hm hs a w hA
      rw [rounds_succ]
      refine DX b ?_
      refine body s hs ρ0 w0 hN _ ?_ a w hA
      intro e st' a' w' hR hA'
      cases e with
      | normal =>
        obtain ⟨s',h1,h2,rfl⟩:=hR
        exact ih s' (by omega) h1 a' w' hA'
      | ret=>exact hK _ _ _ _ hR hA'
      | exit j =>
        simp only [Jd] at hR
        by_cases hj:j=id
        · subst hj
          rw [if_pos rfl] at hR
          simp only [AE.real,Exit.then,Exit.inBlock,if_true]
          exact hR ρ0 w0 hN K hK a' w' hA'
        · rw [if_neg hj] at hR
          simp only [AE.real,Exit.then,Exit.inBlock,hj,if_false]
          exact hK _ _ _ _ hR hA'
  exact yH _ s (Nat.lt_succ_self _) hs a w hA
theorem nQ.mono{P:Program}{lent:List ba}{cs:List Code}{st:aW}{Q Q':AE→aW→Prop}(hQ:∀ e st,Q e st→Q' e st)(h:nQ P lent cs st Q) :nQ P lent cs st Q' :=
  fun ρ0 w0 hN K hK a w hA=>h ρ0 w0 hN K (fun e st' a' w' q hA'=>hK e st' a' w' (hQ e st' q) hA') a w hA
theorem nQ.block{P:Program}{lent:List ba}{id:Nat}{b:Code}{cs rest:List Code}{st:aW}{Q:AE→aW→Prop}(hcs:cs=.block id b::rest) 
    (h:nQ P lent (cS b) st fun e st'=>match e with | .normal=>nQ P lent rest st' Q | .exit j=>if j=id then nQ P lent rest st' Q else Q (.exit j) st' | .ret=>Q .ret st'):nQ P lent cs st Q:=by
  subst hcs
  intro ρ0 w0 hN K hK a w hA
  simp only [Oz]
  refine wp_block (DX b ?_)
  refine h ρ0 w0 hN _ ?_ a w hA
  intro e st' a' w' hR hA'
  cases e with
  | normal=>exact hR ρ0 w0 hN K hK a' w' hA'
  | ret=>exact hK _ _ _ _ hR hA'
  | exit j =>
    simp only at hR
    by_cases hj:j=id
    · subst hj
      rw [if_pos rfl] at hR
      simp only [AE.real,Exit.inBlock,if_true]
      exact hR ρ0 w0 hN K hK a' w' hA'
    · rw [if_neg hj] at hR
      simp only [AE.real,Exit.inBlock,hj,if_false]
      exact hK _ _ _ _ hR hA'
theorem nQ.scope{P:Program}{lent:List ba}{b:Code}{cs rest:List Code}{st:aW}{Q:AE→aW→Prop}(hcs:cs=.scope b::rest) 
    (h:nQ P lent (cS b) st fun e st'=>OK P lent rest e st' Q):nQ P lent cs st Q:=by
  subst hcs
  intro ρ0 w0 hN K hK a w hA
  simp only [Oz]
  refine wp_scope_straight (DX b ?_)
  refine h ρ0 w0 hN _ ?_ a w hA
  intro e st' a' w' hR hA'
  cases e with
  | normal=>exact hR ρ0 w0 hN K hK a' w' hA'
  | ret=>exact hK _ _ _ _ hR hA'
  | exit j=>exact hK _ _ _ _ hR hA'
def Je(P:Program)(fn:Func)(k:Nat)(keep:Bool)(r:rU)(e:AE)(st:aW) :Prop :=
  (e=.normal∨e=.ret)∧∃ vs obs,qz P fn st fn.results.toList=some (vs,obs)∧aY obs∧La k keep st.heap (Iv vs)=some r
theorem nQ.contract{P:Program}{f:FuncId}{fn:Func}{c:Code}(hf:P.funcs[f]? = some fn)(hc:fn.body=some c){lent:List ba}{args:List AV}{r:rU}{keep:Bool} 
    (h:nQ P lent (cS c) (wa fn lent args) (Je P fn lent.length keep r)):aI P f lent args r:=by
  refine Fx (keep:=keep) hf hc ?_
  intro ρ w a hN hs
  refine DX c ?_
  refine h ρ w hN _ ?_ a w ⟨ρ,vY.refl _ _,rc.refl _ _,hs,fun _ _ q=>q,Nat.le_refl _⟩
  rintro e st' a' w' ⟨he,vs,obs,h1,h2,h3⟩ ⟨ρ',E,W,S,hbk,_⟩
  refine ⟨?_,ρ',st',vs,obs,E,W,hbk,S,h1,h2,h3⟩
  rcases he with rfl | rfl
  · exact .inl rfl
  · exact .inr rfl
def eY(x:Nat) :Nat:=x%9223372036854775808
def xc(x y:Nat) :Nat:=x%9223372036854775808+y/9223372036854775808%2*9223372036854775808
def C4(x y:Nat) :Bool:=(isNaN x&&isNaN y)||x==y
theorem GW(x:Nat) :BitVec.ofInt 64 (x:Int)=BitVec.ofNat 64 x:=by simp
theorem V4 : ~~~ BitVec.ofInt 64 9223372036854775808=BitVec.ofNat 64 (2^63-1):=by decide
theorem wb(n:Nat) :IntKind.u64.wrap (n:Int)=((n%18446744073709551616:Nat):Int):=by
  simp [IntKind.wrap,IntKind.signed,IntKind.bits]
theorem U5(x:Nat) :(Ei .andNot .u64 (x:Int) 9223372036854775808)=((eY x:Nat):Int):=by
  have e:(BitVec.ofInt IntKind.u64.bits (x:Int) &&& ~~~ BitVec.ofInt IntKind.u64.bits 9223372036854775808).toNat=x%9223372036854775808:=by
    show (BitVec.ofInt 64 (x:Int) &&& ~~~ BitVec.ofInt 64 9223372036854775808).toNat=_
    rw [V4,GW,BitVec.toNat_and,BitVec.toNat_ofNat,BitVec.toNat_ofNat]
    have:(2^63-1)%2^64=2^63-1:=by decide
    rw [this,Nat.and_two_pow_sub_one_eq_mod]
    omega
  unfold Ei
  simp only
  rw [e,wb]
  congr 1
  unfold eY
  omega
theorem W3(y:Nat) :(Ei .and .u64 (y:Int) 9223372036854775808)=((y/9223372036854775808%2*9223372036854775808:Nat):Int):=by
  have e:(BitVec.ofInt IntKind.u64.bits (y:Int) &&& BitVec.ofInt IntKind.u64.bits 9223372036854775808).toNat=y/9223372036854775808%2*9223372036854775808:=by
    show (BitVec.ofInt 64 (y:Int) &&& BitVec.ofInt 64 9223372036854775808).toNat=_
    have h1:BitVec.ofInt 64 9223372036854775808=BitVec.ofNat 64 (2^63):=by decide
    rw [h1,GW,BitVec.toNat_and,BitVec.toNat_ofNat,BitVec.toNat_ofNat]
    have:2^63%2^64=2^63:=by decide
    rw [this]
    apply Nat.eq_of_testBit_eq;intro i
    have e2:(9223372036854775808:Nat)=2^63:=by decide
    rw [e2,Nat.testBit_and,Nat.testBit_two_pow,Nat.testBit_mod_two_pow,Nat.testBit_mul_two_pow]
    by_cases hi:63=i
    · subst hi
      simp [Nat.testBit_eq_decide_div_mod_eq]
    · by_cases h2:63≤i
      · have h3:∃ j,i-63=j+1:=⟨i-64,by omega⟩
        obtain ⟨j,hj⟩:=h3
        have:(y/2^63%2).testBit (i-63)=false:=by
          have:=Nat.mod_lt (y/2^63) (by decide:2>0)
          apply Nat.testBit_lt_two_pow
          calc y/2^63%2<2:=this
            _=2^1:=rfl
            _≤2^(i-63):=Nat.pow_le_pow_right (by decide) (by omega)
        simp [hi,this]
      · simp [hi,h2]
  unfold Ei
  simp only
  rw [e,wb]
  congr 1
  omega
theorem Xp(x y:Nat) :Ei .or .u64 ((eY x:Nat):Int) ((y/9223372036854775808%2*9223372036854775808:Nat):Int)=((xc x y:Nat):Int):=by
  have e:(BitVec.ofInt IntKind.u64.bits ((eY x:Nat):Int) ||| BitVec.ofInt IntKind.u64.bits ((y/9223372036854775808%2*9223372036854775808:Nat):Int)).toNat=xc x y:=by
    show (BitVec.ofInt 64 ((eY x:Nat):Int) ||| BitVec.ofInt 64 ((y/9223372036854775808%2*9223372036854775808:Nat):Int)).toNat=_
    rw [GW,GW,BitVec.toNat_or,BitVec.toNat_ofNat,BitVec.toNat_ofNat]
    unfold eY xc
    have hb0:=Nat.mod_lt (y/9223372036854775808) (by decide:2>0)
    generalize y/9223372036854775808%2=b at *
    have e2:(9223372036854775808:Nat)=2^63:=by decide
    have l1:x%9223372036854775808%2^64=x%9223372036854775808:=by omega
    rw [l1]
    rcases Nat.lt_or_ge b 2 with hb | hb
    · have l2:b*9223372036854775808%2^64=b*9223372036854775808:=by omega
      rw [l2,Nat.or_comm,Nat.add_comm,e2,Nat.mul_comm b,Nat.two_pow_add_eq_or_of_lt (Nat.mod_lt _ (by decide))]
    · omega
  unfold Ei
  simp only
  rw [e,wb]
  congr 1
  unfold xc
  have:=Nat.mod_lt x (by decide:9223372036854775808>0)
  have:=Nat.mod_lt (y/9223372036854775808) (by decide:2>0)
  omega
theorem zX(x:Nat) :isNaN (eY x)=isNaN x:=by
  rw [zP,zP];unfold eY;rw [Nat.mod_mod]
theorem Bu(x y:Nat) :isNaN (xc x y)=isNaN x:=by
  rw [zP,zP];unfold xc
  rw [Nat.add_mul_mod_self_right,Nat.mod_mod]
theorem W4{ex:Bool}{x y:Nat}(h:FR ex x y) :FR false (eY x) (eY y):=by
  rcases h with rfl | ⟨h1,h2,h3⟩
  · exact .inl rfl
  · exact .inr ⟨rfl,by rw [zX];exact h2,by rw [zX];exact h3⟩
theorem FR.copy{e1 e2:Bool}{x y x' y':Nat}(h:FR e1 x x')(k:FR e2 y y')(hn:isNaN y=true→isNaN x=true) :FR false (xc x y) (xc x' y'):=by
  rcases h with rfl | ⟨h1,h2,h3⟩
  · rcases k with rfl | ⟨k1,k2,k3⟩
    · exact .inl rfl
    · exact .inr ⟨rfl,by rw [Bu];exact hn k2,by rw [Bu];exact hn k2⟩
  · exact .inr ⟨rfl,by rw [Bu];exact h2,by rw [Bu];exact h3⟩
theorem FR.same{e1 e2:Bool}{x y x' y':Nat}(h:FR e1 x x')(k:FR e2 y y') :C4 x' y'=C4 x y:=by
  unfold C4
  rcases h with rfl | ⟨h1,h2,h3⟩
  · rcases k with rfl | ⟨k1,k2,k3⟩
    · rfl
    · rw [k2,k3]
      cases hx:isNaN x' with
      | true=>rfl
      | false =>
        have a:(x'==y')=false:=by
          rw [beq_eq_false_iff_ne];intro e;rw [e] at hx;rw [hx] at k3;cases k3
        have b:(x'==y)=false:=by
          rw [beq_eq_false_iff_ne];intro e;rw [e] at hx;rw [hx] at k2;cases k2
        rw [a,b]
  · rcases k with rfl | ⟨k1,k2,k3⟩
    · rw [h2,h3]
      cases hx:isNaN y' with
      | true=>rfl
      | false =>
        have a:(x'==y')=false:=by
          rw [beq_eq_false_iff_ne];intro e;rw [e] at h3;rw [hx] at h3;cases h3
        have b:(x==y')=false:=by
          rw [beq_eq_false_iff_ne];intro e;rw [e] at h2;rw [hx] at h2;cases h2
        rw [a,b]
    · rw [h2,h3,k2,k3];rfl
theorem SM(x:Nat) :C4 x x=true:=by simp [C4]
theorem rU.Holds.weak{ρ:aH}{w w':World}{k:Nat}{v v':AV}{own:List (Option ba)}{u:Value}(h:(⟨v,own⟩:rU).Holds ρ w w' k u)(hw:∀ ρ w,VR ρ w v u→VR ρ w v' u) :(⟨v',own⟩:rU).Holds ρ w w' k u:=by
  obtain ⟨ρ',h1,h2,h3,h4⟩:=h
  exact ⟨ρ',h1,h2,h3,hw _ _ h4⟩
theorem Lx{P:Program}{f:FuncId}{ex:Bool}{x:Nat}{r:Nat→AV}{r':AV}(h:∀ y,aI P f [] [.flt true y] ⟨r y,[]⟩) 
    (hw:∀ y,FR ex x y→∀ ρ w u,VR ρ w (r y) u→VR ρ w r' u):aI P f [] [.flt ex x] ⟨r',[]⟩:=by
  intro ρ w us hN hv
  cases hv with | cons _ u _ _ h1 h2 =>
  cases h2
  cases h1 with | flt _ _ y hf =>
  obtain ⟨q1,q2⟩:=h y ρ w [.float .f64 y] hN (.cons _ _ _ _ (.flt _ _ _ (.inl rfl)) .nil)
  refine ⟨q1,q2.mono ?_⟩
  rintro e w' ⟨u,rfl,W,hu⟩
  exact ⟨u,rfl,W,hu.weak fun ρ w=>hw y hf ρ w u⟩
theorem Em{P:Program}{f:FuncId}{e1 e2:Bool}{x1 x2:Nat}{r:Nat→Nat→AV}{r':AV}(h:∀ y1 y2,aI P f [] [.flt true y1,.flt true y2] ⟨r y1 y2,[]⟩) 
    (hw:∀ y1 y2,FR e1 x1 y1→FR e2 x2 y2→∀ ρ w u,VR ρ w (r y1 y2) u→VR ρ w r' u):aI P f [] [.flt e1 x1,.flt e2 x2] ⟨r',[]⟩:=by
  intro ρ w us hN hv
  cases hv with | cons _ u _ _ h1 h2 =>
  cases h2 with | cons _ u _ _ h3 h4 =>
  cases h4
  cases h1 with | flt _ _ y1 hf1 =>
  cases h3 with | flt _ _ y2 hf2 =>
  obtain ⟨q1,q2⟩:=h y1 y2 ρ w [.float .f64 y1,.float .f64 y2] hN (.cons _ _ _ _ (.flt _ _ _ (.inl rfl)) (.cons _ _ _ _ (.flt _ _ _ (.inl rfl)) .nil))
  refine ⟨q1,q2.mono ?_⟩
  rintro e w' ⟨u,rfl,W,hu⟩
  exact ⟨u,rfl,W,hu.weak fun ρ w=>hw y1 y2 hf1 hf2 ρ w u⟩
theorem VR.flt_weak{ρ:aH}{w:World}{x y:Nat}{u:Value}(h:VR ρ w (.flt true y) u)(hf:FR false x y) :VR ρ w (.flt false x) u:=by
  cases h with | flt _ _ z hz =>
  rcases hz with rfl | ⟨h1,_⟩
  · exact .flt _ _ _ hf
  · cases h1
theorem wc(x:Nat) :zI x x=isNaN x:=by
  cases h:isNaN x with
  | true=>unfold zI;rw [DI (.inl h)];rfl
  | false =>
    simp only [zI,yr]
    unfold isNaN FloatKind.decode at h
    unfold Ieee.Format.order
    generalize FloatKind.f64.format.read x=d at h
    cases d with
    | nan=>simp [Ieee.Datum.isNaN] at h
    | infinity s=>simp [Ieee.Datum.order]
    | number s m i=>simp [Ieee.Datum.order]
structure bC where
  f:FuncId
  on:List ba→List AV→Option (List zV)
def cX:List bC→Jb
  | [],_,_,_=>none
  | e::l,f,lent,args=>bif Nat.beq e.f f then (match e.on lent args with | some r=>some r | none=>cX l f lent args) else cX l f lent args
def cg(P:Program)(e:bC) :Prop:=∀ lent args alts a,e.on lent args=some alts→a∈alts→aY a.obs→aI P e.f lent args a.out
theorem Nh(P:Program) :cR P (cX []):=fun f lent args alts a h=>by cases h
theorem aZ{P:Program}{e:bC}{l:List bC}(he:cg P e)(hl:cR P (cX l)) :cR P (cX (e::l)):=by
  intro f lent args alts a h ha ho
  simp only [cX] at h
  cases hb:Nat.beq e.f f with
  | false=>rw [hb] at h;exact hl f lent args alts a h ha ho
  | true =>
    rw [hb] at h
    have:=Nat.eq_of_beq_eq_true hb
    subst this
    simp only [cond_true] at h
    split at h
    · rename_i r hr
      cases h
      exact he lent args alts a hr ha ho
    · exact hl _ lent args alts a h ha ho
def one(v:AV)(obs:List Bool) :Option (List zV):=some [⟨⟨v,[]⟩,obs⟩]
def U6(v:AV)(own:List (Option ba))(obs:List Bool) :Option (List zV):=some [⟨⟨v,own⟩,obs⟩]
theorem T7{P:Program}{f:FuncId}{lent:List ba}{args:List AV}{alts:List zV}{a:zV}{v:AV}{own:List (Option ba)}{obs:List Bool}(h:U6 v own obs=some alts)(ha:a∈alts)(ho:aY a.obs) 
    (hc:aY obs→aI P f lent args ⟨v,own⟩):aI P f lent args a.out:=by
  simp only [U6,Option.some.injEq] at h;subst h
  simp only [List.mem_singleton] at ha;subst ha
  exact hc ho
theorem C5{P:Program}{f:FuncId}{lent:List ba}{args:List AV}{alts:List zV}{a:zV}{v:AV}{obs:List Bool}(h:one v obs=some alts)(ha:a∈alts)(ho:aY a.obs) 
    (hc:aY obs→aI P f lent args ⟨v,[]⟩):aI P f lent args a.out:=T7 (own:=[]) h ha ho hc
theorem aI.run{C:It}(hC:C.Ok){S:Jb}(hS:cR C.P S)(p:nO){f:FuncId}{lent:List ba}{args:List AV}{p':nO}{r:rU}{obs:List Bool}(N n:Nat)(h:El C S (rN C S N n) f lent args p=some (r,obs,p'))(ho:aY obs) :
    aI C.P f lent args r:=Lw hC hS N n h ho
theorem ob{b:Bool}{l:List Bool}(h:b=true)(t:aY l) :aY (b::l):=⟨h,t⟩
theorem XT:aY []:=trivial
inductive lS:List AV→List AV→Prop
  | nil:lS [] []
  | cons {v v':AV} {l l':List AV} (h:bL v v') (t:lS l l'):lS (v::l) (v'::l')
theorem lS.vrs{ρ:aH}{w:World} :∀ {l l':List AV} {c:List Value},lS l l'→jk ρ w l c→jk ρ w l' c
  | _,_,_,.nil,.nil=>.nil
  | _,_,_,.cons h t,.cons _ _ _ _ hv tv=>.cons _ _ _ _ (h _ _ _ hv) (lS.vrs t tv)
theorem lS.refl:∀ l:List AV,lS l l
  | []=>.nil
  | v::l=>.cons (bL.refl v) (lS.refl l)
theorem bL.agg{l l':List AV}(h:lS l l') :bL (.agg l) (.agg l'):=by
  intro ρ w u hv;cases hv with | agg _ _ hl=>exact .agg _ _ (h.vrs hl)
theorem bL.tup{l l':List AV}(h:lS l l') :bL (.tup l) (.tup l'):=by
  intro ρ w u hv;cases hv with | tup _ _ hl=>exact .tup _ _ (h.vrs hl)
theorem aI.args{P:Program}{f:FuncId}{lent:List ba}{a a':List AV}{r:rU}(h:aI P f lent a' r)(ha:lS a a') :aI P f lent a r :=
  fun ρ w us hN hv=>h ρ w us hN (ha.vrs hv)
theorem aI.weak{P:Program}{f:FuncId}{lent:List ba}{a:List AV}{v v':AV}{own:List (Option ba)}(h:aI P f lent a ⟨v,own⟩)(hw:bL v v') :aI P f lent a ⟨v',own⟩:=by
  intro ρ w us hN hv
  obtain ⟨q1,q2⟩:=h ρ w us hN hv
  refine ⟨q1,q2.mono ?_⟩
  rintro e w' ⟨u,rfl,W,hu⟩
  exact ⟨u,rfl,W,hu.weak fun ρ w=>hw ρ w u⟩
theorem Ni(k k' b:Bool) :bL (.bool k b) (.bool k' b):=by
  intro ρ w u h;cases h;exact .bool _ _
end Go.Plb
namespace Go.Plb
open Go.ChangeShapes Go.WideShapes Go.ChangeAt Go.RowKit Go.Deep
set_option linter.unusedSimpArgs false
set_option linter.unusedVariables false
set_option linter.unusedSectionVars false
variable [Rom]
def aH.none_:aH:={ at_:=fun _=>0,live:=fun _=>False,out:=fun _ _=>False,ok:=fun _=>False }
theorem V5(w:World)(hr:∀ x∈Rom.tab,VR aH.none_ w (.iptr .free x.2 1 0 0) (.pointer (some ⟨x.1,0,none⟩))) :vN aH.none_ w [] :=
  ⟨⟨fun b d q=>by simp [jm,bQ] at q,fun b c d e q=>by simp [jm,bQ] at q,fun bl q=>q.elim,fun bl q=>q.elim,fun j bl q=>q.elim,fun b q=>q.elim,hr⟩,fun bl q=>q.elim⟩
theorem Nj(l:Lv)(bl:Nat) :aH.none_.avoid l bl:=rv (fun j=>by cases j<;>exact id) l 0
inductive FA where
  | i (k:IntKind) (n:Int)
  | f (x:Nat)
  | s (b:ByteArray)
  | b (b:Bool)
  | fl (xs:List Nat)
  | ns (k:IntKind) (xs:List Int)
def FA.av:FA→AV
  | .i k n=>.int k n
  | .f x=>.flt true x
  | .s z=>.str z
  | .b z=>.bool false z
  | .fl xs=>.imm .free (.fl xs) 1 1 0 xs.length
  | .ns k xs=>.imm .free (.ns k xs) 1 1 0 xs.length
theorem FA.kept(a:FA) :a.av.kept=true:=by cases a<;>rfl
inductive FT where
  | i (k:IntKind)
  | f
  | s
  | b
  | fl
  | ns (k:IntKind)
def FA.has:FT→FA→Prop
  | .i k,.i k' n=>k'=k∧(Lit.int k n).wf=true
  | .f,.f x=>(Lit.float .f64 x).wf=true
  | .s,.s z=>z.size≤maxLen
  | .b,.b _=>True
  | .fl,.fl xs=>xs.length≤maxLen∧∀ x∈xs,(Lit.float .f64 x).wf=true
  | .ns k,.ns k' xs=>k'=k∧xs.length≤maxLen∧∀ n∈xs,(Lit.int k n).wf=true
  | _,_=>False
def V6(P:Program)(t:TypeId) :Option FT :=
  match P.underlying t with
  | some (.int k)=>some (.i k)
  | some (.float .f64)=>some .f
  | some .string=>some .s
  | some .bool=>some .b
  | some (.slice e) =>
    match P.underlying e,P.cellsOf e with
    | some (.float .f64),1=>some .fl
    | some (.int k),1=>some (.ns k)
    | _,_=>none
  | _=>none
def Qh:Value→Nat
  | .float _ b=>b
  | _=>0
def Qi:Value→Int
  | .int _ n=>n
  | _=>0
theorem Lc{W:World}{a:Addr}{i:Nat}{v:Value}(c:W.cell? (a.add i)=some v)(h0:a.spot=none) :a.add i=⟨a.block,a.off+i,none⟩:=by
  cases a;simp only at h0;subst h0
  unfold Addr.add;split
  · rename_i q;subst q;rfl
  · rfl
theorem Jf{W:World}{a:Addr}{v:Value}(c:W.cell? a=some v) :a.spot=none:=by
  unfold World.cell? at c
  split at c
  · cases q:a.spot with
    | none=>rfl
    | some s=>rw [q] at c;simp at c
  · cases c
theorem Nk{W:World}{a:Addr}{v:Value}(c:W.cell? a=some v) :a.block<W.heap.size:=by
  unfold World.cell? at c
  split at c
  · rename_i q;exact (Array.getElem?_eq_some_iff.1 q).1
  · cases c
theorem wd{α:Type}(f:Nat→α)(n x:Nat)(y:α)(h:((List.range n).map f)[x]? = some y) :x<n∧y=f x:=by
  rw [List.getElem?_map] at h
  rcases Nat.lt_or_ge x n with q | q
  · rw [List.getElem?_range q] at h;simp only [Option.map_some,Option.some.injEq] at h;exact ⟨q,h.symm⟩
  · rw [List.getElem?_eq_none (by simpa using q)] at h;cases h
variable {H : Type} {enc : TypeId × Value → H} {P : Program} {W : World}
theorem T8{t : TypeId}{ft : FT}{fuel : Nat}{v : Value}{x : DataW H × List MemPlace}(ht : V6 P t = some ft)(h : DataW.trod enc P W 0 (fun _ => true) true fuel t [v] = some x) :
    ∃ a:FA,a.has ft∧VR aH.none_ W a.av v:=by
  cases fuel with
  | zero=>simp [DataW.trod] at h
  | succ fuel =>
  have h0:=h
  unfold V6 at ht
  split at ht
  · rename_i k hk
    cases ht
    simp only [DataW.trod,hk] at h
    cases v<;>simp at h
    rename_i k' n
    obtain ⟨⟨rfl,hw⟩,_⟩:=h
    exact ⟨.i k' n,⟨rfl,hw⟩,.int _ _⟩
  · rename_i hk
    cases ht
    simp only [DataW.trod,hk] at h
    cases v<;>simp at h
    rename_i k b
    obtain ⟨⟨rfl,hw⟩,_⟩:=h
    exact ⟨.f b,hw,.flt _ _ _ (.inl rfl)⟩
  · rename_i hk
    cases ht
    simp only [DataW.trod,hk] at h
    cases v<;>simp at h
    exact ⟨.s _,h.1,.str _⟩
  · rename_i hk
    cases ht
    simp only [DataW.trod,hk] at h
    cases v<;>simp at h
    exact ⟨.b _,trivial,.bool _ _⟩
  · rename_i e hk
    have yH:∀ (he:P.cellsOf e=1),(v=.slice none 0 0)∨∃ (a:Addr) (len cap n:Nat) (V:Nat→Value),v=.slice (some a) len cap∧len≤cap∧cap≤maxLen ∧
        ∀ i,i<len→∃ y,W.cell? (a.add i)=some (V i)∧DataW.trod enc P W 0 (fun _=>true) true n e [V i]=some y:=by
      intro he
      rcases open_slice1 hk he h0 with ⟨h1,_⟩ | ⟨a,len,cap,m,n,V,D,Pl,h1,hb,hl,hm,hmm,_,hx⟩
      · simp only [List.cons.injEq,and_true] at h1
        exact .inl h1
      · simp only [List.cons.injEq,and_true] at h1
        refine .inr ⟨a,len,cap,n,V,h1,hl,hm,fun i hi=>⟨_,hx i (by rw [hmm,if_pos rfl];omega)⟩⟩
    split at ht
    · rename_i he hc
      cases ht
      rcases yH hc with rfl | ⟨a,len,cap,n,V,rfl,hl,hm,hx⟩
      · exact ⟨.fl [],⟨Nat.zero_le _,fun x hx=>by cases hx⟩,.immEnd _ _ _ _ _ _ _ trivial (fun _=>rfl) rfl⟩
      · have hV:∀ i,i<len→V i=.float .f64 (Qh (V i))∧(Lit.float .f64 (Qh (V i))).wf=true:=by
          intro i hi
          obtain ⟨y,c1,c2⟩:=hx i hi
          cases n with
          | zero=>simp [DataW.trod] at c2
          | succ n =>
            simp only [DataW.trod,he] at c2
            cases hV:V i<;>rw [hV] at c2<;>simp at c2
            obtain ⟨⟨rfl,hw⟩,_⟩:=c2
            exact ⟨rfl,hw⟩
        refine ⟨.fl ((List.range len).map fun i=>Qh (V i)),⟨by simp;omega,fun x hx=>?_⟩,?_⟩
        · simp only [List.mem_map,List.mem_range] at hx
          obtain ⟨i,hi,rfl⟩:=hx
          exact (hV i hi).2
        · simp only [FA.av,List.length_map,List.length_range]
          rcases Nat.eq_zero_or_pos len with rfl | hz
          · exact .immEnd _ _ _ _ _ _ _ trivial (fun _=>rfl) rfl
          · have h0:=Jf (hx 0 hz).choose_spec.1
            have hs:a.spot=none:=by
              have e:a.add 0=a:=by simp [Addr.add]
              rw [e] at h0;exact h0
            have hcell:∀ i,i<len→W.cell? ⟨a.block,a.off+i,none⟩=some (V i):=fun i hi=>by
              obtain ⟨y,c1,_⟩:=hx i hi
              rw [Lc c1 hs] at c1;exact c1
            have ha:a=⟨a.block,a.off+0*1,none⟩:=by cases a;simp only at hs;subst hs;rfl
            have:=VR.imm (ρ:=aH.none_) (w:=W) .free (.fl ((List.range len).map fun i=>Qh (V i))) 1 1 0 len cap a.block a.off V (Nj _ _) (Nk (a:=⟨a.block,a.off+0,none⟩) (hcell 0 hz))
              (fun x v hx'=>by
                simp only [ba.cell?,Option.map_eq_some_iff] at hx'
                obtain ⟨y,h1,h2⟩:=hx'
                exact hcell x (wd _ _ _ _ h1).1)
              (fun x v hx'=>by
                simp only [ba.cell?,Option.map_eq_some_iff] at hx'
                obtain ⟨y,h1,rfl⟩:=hx'
                obtain ⟨q1,rfl⟩:=wd _ _ _ _ h1
                rw [(hV x q1).1]
                exact .flt _ _ _ (.inl rfl)) hl trivial (fun _=>rfl) rfl
            rw [ha];exact this
    · rename_i k he hc
      cases ht
      rcases yH hc with rfl | ⟨a,len,cap,n,V,rfl,hl,hm,hx⟩
      · exact ⟨.ns k [],⟨rfl,Nat.zero_le _,fun x hx=>by cases hx⟩,.immEnd _ _ _ _ _ _ _ trivial (fun _=>rfl) rfl⟩
      · have hV:∀ i,i<len→V i=.int k (Qi (V i))∧(Lit.int k (Qi (V i))).wf=true:=by
          intro i hi
          obtain ⟨y,c1,c2⟩:=hx i hi
          cases n with
          | zero=>simp [DataW.trod] at c2
          | succ n =>
            simp only [DataW.trod,he] at c2
            cases hV:V i<;>rw [hV] at c2<;>simp at c2
            obtain ⟨⟨rfl,hw⟩,_⟩:=c2
            exact ⟨rfl,hw⟩
        refine ⟨.ns k ((List.range len).map fun i=>Qi (V i)),⟨rfl,by simp;omega,fun x hx=>?_⟩,?_⟩
        · simp only [List.mem_map,List.mem_range] at hx
          obtain ⟨i,hi,rfl⟩:=hx
          exact (hV i hi).2
        · simp only [FA.av,List.length_map,List.length_range]
          rcases Nat.eq_zero_or_pos len with rfl | hz
          · exact .immEnd _ _ _ _ _ _ _ trivial (fun _=>rfl) rfl
          · have h0:=Jf (hx 0 hz).choose_spec.1
            have hs:a.spot=none:=by
              have e:a.add 0=a:=by simp [Addr.add]
              rw [e] at h0;exact h0
            have hcell:∀ i,i<len→W.cell? ⟨a.block,a.off+i,none⟩=some (V i):=fun i hi=>by
              obtain ⟨y,c1,_⟩:=hx i hi
              rw [Lc c1 hs] at c1;exact c1
            have ha:a=⟨a.block,a.off+0*1,none⟩:=by cases a;simp only at hs;subst hs;rfl
            have:=VR.imm (ρ:=aH.none_) (w:=W) .free (.ns k ((List.range len).map fun i=>Qi (V i))) 1 1 0 len cap a.block a.off V (Nj _ _) (Nk (a:=⟨a.block,a.off+0,none⟩) (hcell 0 hz))
              (fun x v hx'=>by
                simp only [ba.cell?,Option.map_eq_some_iff] at hx'
                obtain ⟨y,h1,h2⟩:=hx'
                exact hcell x (wd _ _ _ _ h1).1)
              (fun x v hx'=>by
                simp only [ba.cell?,Option.map_eq_some_iff] at hx'
                obtain ⟨y,h1,rfl⟩:=hx'
                obtain ⟨q1,rfl⟩:=wd _ _ _ _ h1
                rw [(hV x q1).1]
                exact .int _ _) hl trivial (fun _=>rfl) rfl
            rw [ha];exact this
    · cases ht
  · cases ht
def FA.avs:List FA→List AV
  | []=>[]
  | a::l=>a.av::FA.avs l
def C6:List FT→List FA→Prop
  | [],[]=>True
  | t::ts,a::fas=>a.has t∧C6 ts fas
  | _,_=>False
def V7(P:Program)(t:TypeId) :Option (List FT) :=
  match P.underlying t with
  | some (.struct fs)=>bif P.cellsOf t==fs.size&&fs.toList.zipIdx.all (fun x=>x.1.offset==x.2&&P.cellsOf x.1.type==1) then fs.toList.mapM fun f=>V6 P f.type else none
  | _=>none
theorem Ld{n:Nat} :∀ (fs:List Field) (o:Nat) {fts:List FT} {cs:List Value} {xs:List (DataW H×List MemPlace)},cs.length=o+fs.length→(∀ (j:Nat) (f:Field),fs[j]? = some f→f.offset=o+j∧P.cellsOf f.type=1)→fs.mapM (fun f=>V6 P f.type)=some fts →
    fs.mapM (fun f=>DataW.trod enc P W 0 (fun _=>true) true n f.type ((cs.drop f.offset).take (P.cellsOf f.type)))=some xs→∃ fas:List FA,C6 fts fas∧jk aH.none_ W (FA.avs fas) (cs.drop o)
  | [],o,fts,cs,xs,hl,_,h1,h2=>by
    simp at h1;subst h1
    exact ⟨[],trivial,by rw [List.drop_eq_nil_of_le (by simp at hl;omega)];exact .nil⟩
  | f::fs,o,fts,cs,xs,hl,hf,h1,h2=>by
    simp only [List.mapM_cons,Option.pure_def,Option.bind_eq_bind,Option.bind_eq_some_iff,Option.some.injEq] at h1 h2
    obtain ⟨ft,a1,fts',a2,rfl⟩:=h1
    obtain ⟨x,b1,xs',b2,rfl⟩:=h2
    obtain ⟨e1,e2⟩:=hf 0 f rfl
    simp only [List.length_cons] at hl
    have hlt:o<cs.length:=by omega
    have hd:(cs.drop f.offset).take (P.cellsOf f.type)=[cs[o]]:=by
      rw [e1,e2,Nat.add_zero,List.drop_eq_getElem_cons hlt];rfl
    rw [hd] at b1
    obtain ⟨a,k1,k2⟩:=T8 a1 b1
    obtain ⟨fas,k3,k4⟩:=Ld fs (o+1) (cs:=cs) (by omega) (fun j f' hj=>by have:=hf (j+1) f' (by simpa using hj);exact ⟨by omega,this.2⟩) a2 b2
    refine ⟨a::fas,⟨k1,k3⟩,?_⟩
    rw [List.drop_eq_getElem_cons hlt]
    exact .cons _ _ _ _ k2 k4
theorem Qj{t:TypeId}{fts:List FT}{fuel:Nat}{cs:List Value}{x:DataW H×List MemPlace}(ht:V7 P t=some fts)(h:DataW.trod enc P W 0 (fun _=>true) true fuel t cs=some x) :
    ∃ fas:List FA,C6 fts fas∧jk aH.none_ W (FA.avs fas) cs:=by
  unfold V7 at ht
  split at ht
  case h_2=>cases ht
  rename_i fs hk
  cases hb:(P.cellsOf t==fs.size&&fs.toList.zipIdx.all (fun x=>x.1.offset==x.2&&P.cellsOf x.1.type==1)) with
  | false=>rw [hb] at ht;cases ht
  | true =>
  rw [hb] at ht
  simp only [cond_true] at ht
  simp only [Bool.and_eq_true,beq_iff_eq,List.all_eq_true] at hb
  cases fuel with
  | zero=>simp [DataW.trod] at h
  | succ fuel =>
  simp only [DataW.trod,hk] at h
  split at h
  case isFalse=>cases h
  rename_i hlen
  simp only [Option.map_eq_some_iff] at h
  obtain ⟨xs,h1,_⟩:=h
  have:=Ld fs.toList 0 (cs:=cs) (by rw [hlen,hb.1];simp) (fun j f hj=>by
    have:=hb.2 (f,j) (by rw [List.mem_zipIdx_iff_getElem?];exact hj)
    simp only at this
    exact ⟨by omega,this.2⟩) ht h1
  simpa using this
theorem Le{t:TypeId}{fts:List FT}{v:Value}{d:DataW H}{p:List MemPlace}{base:Nat}(ht:V7 P t=some fts)(ho:Value.okWide P W .any base t v)(h:DataW.Trod enc P W 0 (fun _=>true) true t v d p) :
    ∃ fas:List FA,C6 fts fas∧VR aH.none_ W (.agg (FA.avs fas)) v:=by
  obtain ⟨fuel,hf⟩:=h
  have hs:∃ cs,v=.agg cs:=by
    unfold V7 at ht
    split at ht
    case h_2=>cases ht
    rename_i fs hk
    unfold Value.okWide at ho
    rw [hk] at ho
    obtain ⟨cs,rfl,_⟩:=ho
    exact ⟨cs,rfl⟩
  obtain ⟨cs,rfl⟩:=hs
  obtain ⟨fas,k1,k2⟩:=Qj ht hf
  exact ⟨fas,k1,.agg _ _ k2⟩
theorem U7{W W':World}(h:rc (fun _=>False) W W') :Below W.heap.size W W' :=
  ⟨h.os,h.tape,h.output,h.size,fun k hk=>h.same k hk (fun q=>q)⟩
def Bv(P:Program)(ts:List TypeId) :Bool:=ts.all fun t=>P.readableRec t&&decide (t<P.types.size)
theorem Pw{W W':World}(hl:laidOutB P=true)(hb:Below W.heap.size W W') :∀ {ts:List TypeId} {vs:List Value} {ds:List (DataW H)} {ps:List MemPlace},Bv P ts=true →
    DataW.TrodAll enc P W 0 (fun _=>true) true ts vs ds ps→(∀ x∈ps,x.block<W.heap.size)→∀ sp:Nat→Bool,(∀ p∈ps,sp p.block=true)→DataW.TrodAll enc P W' 0 sp true ts vs ds ps
  | [],vs,ds,ps,_,h,_,_,_=>by obtain ⟨rfl,rfl,rfl⟩:=trodAll_nil h;rfl
  | t::ts,vs,ds,ps,hp,h,hlt,sp,hsp=>by
    obtain ⟨v,vs',d,ds',p,q,rfl,rfl,rfl,h1,h2⟩:=trodAll_cons h
    simp only [Bv,List.all_cons,Bool.and_eq_true,decide_eq_true_eq] at hp
    exact ⟨p,q,WideElems.Trod_stays hl hp.1.1 hp.1.2 h1 (fun x hx=>hb.same (hlt x (by simp [hx]))) (fun x hx=>hsp x (by simp [hx])),
      Pw hl hb (by simpa [Bv] using hp.2) h2 (fun x hx=>hlt x (by simp [hx])) sp (fun x hx=>hsp x (by simp [hx])),rfl⟩
theorem U8{f:Func}{s:ChangeSpec}{W W':World}{args:Array Value}{ds gs:List (DataW H)}{before:List MemPlace}{tb:TypeId}(hl:laidOutB P=true) 
    (hW:DataW.Whole enc P f.params.toList s.vars false W args.toList ds gs before) (hv:s.vars=[]) (hp:Bv P f.params.toList=true)
    (hs:s.fn H (ds++gs) = { results:=[.lit (.bool true)],args:=ds }) (hr:f.resultTypes = #[tb]) (ht:P.underlying tb=some .bool) (hw:rc (fun _=>False) W W') :
    s.post enc P f false true false false W args (.bool true) W':=by
  have hb:=U7 hw
  have hlt:∀ p∈before,p.block<W.heap.size:=fun p hp=>hW.lt p hp
  have hW':=hW
  obtain ⟨p,q,hA,hV,rfl,hfz,Fi⟩:=hW'
  rw [hv] at hV
  obtain ⟨rfl,rfl⟩:=trodVars_none hV
  simp only [List.append_nil] at hlt hs hW
  have harg:=Pw hl hb hp hA hlt (fun b=>decide (b<W.heap.size)) (fun x hx=>by simpa using hlt x hx)
  refine ⟨ds,[],p,[],p,[],hW,?_,?_,?_,World.keptBut_mono (fun x hx=>⟨hx,.inr (.inl hx)⟩) (hb.frame (· ∈ p)),fun e=>(by cases e)⟩
  · rw [List.append_nil,hs,hr]
    exact trodAll_mk1 (shut_bool ht true)
  · rw [List.append_nil,hs];exact harg
  · rw [hv];simp only [List.append_nil,hs];exact rfl
theorem U9{a:FA}(h:a.has .fl) :∃ x,a=.fl x:=by
  cases a<;>simp only [FA.has] at h
  exact ⟨_,rfl⟩
theorem Va{ρ:aH}{w w':World}{k b:Bool}{u:Value}(h:(⟨.bool k b,[]⟩:rU).Holds ρ w w' 0 u) :u=.bool b:=by
  obtain ⟨ρ',_,_,_,h4⟩:=h
  cases h4;rfl
end Go.Plb
namespace Go.Plb
set_option linter.unusedSimpArgs false
set_option linter.unusedVariables false
set_option linter.unusedSectionVars false
variable [Rom]
def az{α:Type}(o n:Nat)(l:List α) :List α:=(r9 o l).take n
theorem DY{α:Type}(o n:Nat)(l:List α) :az o n l=(l.drop o).take n:=by
  unfold az r9;cases o<;>rfl
theorem ak{α:Type}(l:List α) :az 0 l.length l=l:=by simp [DY]
theorem iW{α:Type}{o n:Nat}{l:List α}(h:o+n≤l.length) :(az o n l).length=n:=by rw [DY];simp;omega
theorem Vb{α:Type}{o n:Nat}{l:List α}{i:Nat}{v:α}(h:(az o n l)[i]? = some v) :l[o+i]? = some v:=by
  rw [DY,List.getElem?_take] at h
  split at h
  · rw [List.getElem?_drop] at h;exact h
  · cases h
def dg{α:Type}(o n:Nat)(xs:List α) :Bool:=Nat.ble (o+n) xs.length
theorem am{α:Type}{o n:Nat}{xs:List α} :dg o n xs=true↔o+n≤xs.length:=by unfold dg;rw [Nat.ble_eq]
theorem Ly{l:Lv}{d d':ba}{w es o n:Nat}(h:∀ x v,d'.cell? x=some v→d.cell? (o*w+x)=some v)(hr:d.recKept→d'.recKept)(hk:d'.kept=true)(hg:d'.foreign=true) :
    bL (.imm l d w es o n) (.imm l d' w es 0 n):=by
  intro ρ w' u hv
  cases hv with
  | imm _ _ _ _ _ _ cap bl o' u' ha hb hc hv' hl' hr' _ _ =>
    have:=VR.imm (ρ:=ρ) (w:=w') l d' w es 0 n cap bl (o'+o*w) (fun x=>u' (o*w+x)) ha hb
      (fun x v hx=>by rw [Nat.add_assoc];exact hc _ v (h x v hx)) (fun x v hx=>hv' _ v (h x v hx)) hl' (hr hr') (fun _=>hk) hg
    simpa using this
  | immEnd _ _ _ _ _ _ _ hr'=>exact .immEnd _ _ _ _ _ _ _ (hr hr') (fun _=>hk) hg
theorem Lz{l:Lv}{d':ba}{w es:Nat}(hr:d'.recKept)(hk:d'.kept=true)(hg:d'.foreign=true) :bL .nsl (.imm l d' w es 0 0):=by
  intro ρ w' u hv;cases hv;exact .immEnd _ _ _ _ _ _ _ hr (fun _=>hk) hg
theorem LA{l:Lv}{d':ba}{w es:Nat}(hr:d'.recKept)(hk:d'.kept=true)(hg:d'.foreign=true) :bL .esl (.imm l d' w es 0 0):=by
  intro ρ w' u hv;cases hv;exact .immEnd _ _ _ _ _ _ _ hr (fun _=>hk) hg
theorem lS.get:∀ {l1 l2:List AV},lS l1 l2→∀ {x:Nat} {v:AV},l2[x]? = some v→∃ v0,l1[x]? = some v0∧bL v0 v
  | _,_,.nil,x,v,h=>by simp at h
  | _,_,.cons a t,0,v,h=>by simp at h;subst h;exact ⟨_,rfl,a⟩
  | _,_,.cons a t,x+1,v,h=>by
    obtain ⟨v0,h1,h2⟩:=lS.get t (by simpa using h)
    exact ⟨v0,by simpa using h1,h2⟩
theorem Nl{lv:Lv}{l1 l2:List AV}{k i j:Nat}(h:lS l1 l2)(hk:iR l1=true→iR l2=true)(hg:dm l1=true→dm l2=true) :bL (.iptr lv (.vs l1) k i j) (.iptr lv (.vs l2) k i j):=by
  intro ρ w u hv
  cases hv with | iptr _ _ _ _ _ bl o u' ha hb hc hv' hr hk' hg' =>
  refine .iptr _ _ _ _ _ bl o u' ha hb (fun x v hx=>?_) (fun x v hx=>?_) trivial (fun q=>hk (hk' q)) (hg hg')
  · obtain ⟨v0,h1,h2⟩:=h.get hx
    exact hc x v0 h1
  · obtain ⟨v0,h1,h2⟩:=h.get hx
    exact h2 _ _ _ (hv' x v0 h1)
theorem bL.fn{f:Fn}{a b a' b':List AV}(h:lS a a')(k:lS b b') :bL (.fn f a b) (.fn f a' b'):=by
  intro ρ w u hv
  cases hv with | fn _ _ _ c1 c2 h1 h2=>exact .fn _ _ _ _ _ (h.vrs h1) (k.vrs h2)
theorem bL.iface{t:TypeId}{a b:AV}(h:bL a b) :bL (.iface t a) (.iface t b):=by
  intro ρ w u hv
  cases hv with | iface _ _ u h1=>exact .iface _ _ _ (h _ _ _ h1)
theorem bL.any(v:AV) :bL v .any:=fun _ _ u _=>.any u
inductive CK where
  | cf
  | ci (k:IntKind)
  | cb
  | cs
  | cfl
  | cns (k:IntKind)
def CK.Ty:CK→Type
  | .cf=>List Nat
  | .ci _=>List Int
  | .cb=>List Bool
  | .cs=>List ByteArray
  | .cfl=>List (List Nat)
  | .cns _=>List (List Int)
def CK.fit:(k:CK)→(o n:Nat)→lG→Option k.Ty
  | .cf,o,n,.cf xs=>some (az o n xs)
  | .ci k,o,n,.ci k' xs=>bif jh k k' then some (az o n xs) else none
  | .cb,o,n,.cb xs=>some (az o n xs)
  | .cs,o,n,.cs xs=>some (az o n xs)
  | .cfl,o,n,.cfl xs=>some (az o n xs)
  | .cns k,o,n,.cns k' xs=>bif jh k k' then some (az o n xs) else none
  | _,_,_,_=>none
def CK.emp:(k:CK)→k.Ty
  | .cf=>([]:List Nat)
  | .ci _=>([]:List Int)
  | .cb=>([]:List Bool)
  | .cs=>([]:List ByteArray)
  | .cfl=>([]:List (List Nat))
  | .cns _=>([]:List (List Int))
def CK.col:(k:CK)→k.Ty→lG
  | .cf,xs=>.cf xs
  | .ci k,xs=>.ci k xs
  | .cb,xs=>.cb xs
  | .cs,xs=>.cs xs
  | .cfl,xs=>.cfl xs
  | .cns k,xs=>.cns k xs
theorem zM{a b:IntKind} :jh a b=true↔a=b:=by simp [jh]
theorem yc{α:Type}{f:α→AV}{o n i:Nat}{xs:List α}{v:AV}(h:((az o n xs)[i]?).map f=some v) :(xs[o+i]?).map f=some v:=by
  simp only [Option.map_eq_some_iff] at h ⊢
  obtain ⟨y,h1,h2⟩:=h
  exact ⟨y,Vb h1,h2⟩
theorem CK.fit_spec:∀ {k:CK} {o n:Nat} {c:lG} {t:k.Ty},k.fit o n c=some t→(o+n≤c.len→(k.col t).len=n)∧∀ i v,(k.col t).cell? i=some v→c.cell? (o+i)=some v:=by
  intro k o n c t h
  cases k<;>cases c<;>simp only [CK.fit] at h<;>try (cases h;done)
  case cf.cf xs=>cases h;exact ⟨fun q=>iW q,fun i v q=>yc q⟩
  case ci.ci k k' xs =>
    cases e:jh k k' with
    | false=>rw [e] at h;cases h
    | true=>rw [e] at h;cases h;cases (zM.1 e);exact ⟨fun q=>iW q,fun i v q=>yc q⟩
  case cb.cb xs=>cases h;exact ⟨fun q=>iW q,fun i v q=>yc q⟩
  case cs.cs xs=>cases h;exact ⟨fun q=>iW q,fun i v q=>yc q⟩
  case cfl.cfl xs=>cases h;exact ⟨fun q=>iW q,fun i v q=>yc q⟩
  case cns.cns k k' xs =>
    cases e:jh k k' with
    | false=>rw [e] at h;cases h
    | true=>rw [e] at h;cases h;cases (zM.1 e);exact ⟨fun q=>iW q,fun i v q=>yc q⟩
theorem CK.emp_len:∀ (k:CK),(k.col k.emp).len=0:=by intro k;cases k<;>rfl
def CKs.Ty:List CK→Type
  | []=>Unit
  | k::l=>k.Ty×CKs.Ty l
def CKs.fit:(l:List CK)→(o n:Nat)→List lG→Option (CKs.Ty l)
  | [],_,_,[]=>some ()
  | k::l,o,n,c::cs=>(k.fit o n c).bind fun t=>(CKs.fit l o n cs).map fun r=>(t,r)
  | _,_,_,_=>none
def CKs.emp:(l:List CK)→CKs.Ty l
  | []=>()
  | k::l=>(k.emp,CKs.emp l)
def CKs.cols:(l:List CK)→CKs.Ty l→List lG
  | [],_=>[]
  | k::l,t=>k.col t.1::CKs.cols l t.2
theorem CKs.len:∀ {l:List CK} {t:CKs.Ty l},(CKs.cols l t).length=l.length
  | [],t=>rfl
  | k::l,t=>by simp [CKs.cols,CKs.len]
theorem Lf:∀ {l:List CK} {o n:Nat} {cs:List lG} {t:CKs.Ty l},CKs.fit l o n cs=some t→cs.length=l.length
  | [],o,n,[],t,h=>rfl
  | [],o,n,c::cs,t,h=>by simp [CKs.fit] at h
  | k::l,o,n,[],t,h=>by simp [CKs.fit] at h
  | k::l,o,n,c::cs,t,h=>by
    simp only [CKs.fit] at h
    cases e1:k.fit o n c with
    | none=>rw [e1] at h;cases h
    | some a =>
      rw [e1] at h
      cases e2:CKs.fit l o n cs with
      | none=>simp only [Option.bind_some,e2] at h;cases h
      | some b=>simp [Lf e2]
theorem CKs.fit_spec:∀ {l:List CK} {o n:Nat} {cs:List lG} {t:CKs.Ty l},CKs.fit l o n cs=some t→∀ (j:Nat) (c':lG),(CKs.cols l t)[j]? = some c'→∃ c:lG,cs[j]? = some c∧(o+n≤c.len→c'.len=n)∧∀ i v,c'.cell? i=some v→c.cell? (o+i)=some v
  | [],o,n,cs,t,h,j,c',q=>by simp [CKs.cols] at q
  | k::l,o,n,[],t,h,j,c',q=>by simp [CKs.fit] at h
  | k::l,o,n,c::cs,t,h,j,c',q=>by
    simp only [CKs.fit] at h
    cases e1:k.fit o n c with
    | none=>rw [e1] at h;cases h
    | some a =>
      rw [e1] at h
      cases e2:CKs.fit l o n cs with
      | none=>simp only [Option.bind_some,e2] at h;cases h
      | some b =>
        simp only [Option.bind_some,e2] at h
        cases h
        cases j with
        | zero=>simp [CKs.cols] at q;subst q;exact ⟨c,rfl,CK.fit_spec e1⟩
        | succ j=>exact CKs.fit_spec e2 j c' (by simpa [CKs.cols] using q)
theorem CKs.emp_len:∀ (l:List CK),∀ c∈CKs.cols l (CKs.emp l),c.len=0
  | [],c,h=>by cases h
  | k::l,c,h=>by
    simp only [CKs.cols,CKs.emp,List.mem_cons] at h
    rcases h with rfl | h
    · exact CK.emp_len k
    · exact CKs.emp_len l c h
mutual
inductive IO where
  | int (k:IntKind)
  | flt (ex:Bool)
  | bool
  | kbool (b:Bool)
  | str
  | fl
  | ns (k:IntKind)
  | bs
  | ss
  | cols (l:List CK)
  | ivs (ps:wX) (w i j:Nat)
  | fn (f:FuncId) (a b:wX)
  | nfn
  | nptr
  | nsl
  | agg (ps:wX)
  | tup (ps:wX)
  | iface (t:TypeId) (p:IO)
  | niface
  | any
  | lsl (b:Nat)
  | lptr (b w i j:Nat)
inductive wX where
  | nil
  | cons (p:IO) (ps:wX)
end
mutual
def IO.Ty:IO→Type
  | .int _=>Int
  | .flt _=>Nat
  | .bool=>Bool
  | .str=>ByteArray
  | .fl=>Lv×List Nat
  | .ns _=>Lv×List Int
  | .bs=>Lv×List Bool
  | .ss=>Lv×List ByteArray
  | .cols l=>Lv×Nat×CKs.Ty l
  | .ivs ps _ _ _=>Lv×ps.Ty
  | .fn _ a b=>a.Ty×b.Ty
  | .agg ps=>ps.Ty
  | .tup ps=>ps.Ty
  | .iface _ p=>p.Ty
  | .kbool _=>Unit
  | .nfn=>Unit
  | .nptr=>Unit
  | .nsl=>Unit
  | .niface=>Unit
  | .any=>Unit
  | .lsl _=>Nat×Nat×Nat
  | .lptr _ _ _ _=>Unit
def wX.Ty:wX→Type
  | .nil=>Unit
  | .cons p ps=>p.Ty×ps.Ty
end
mutual
def IO.av:(p:IO)→p.Ty→AV
  | .int k,n=>.int k n
  | .flt ex,x=>.flt ex x
  | .bool,b=>.bool false b
  | .str,s=>.str s
  | .fl,t=>.imm t.1 (.fl t.2) 1 1 0 t.2.length
  | .ns k,t=>.imm t.1 (.ns k t.2) 1 1 0 t.2.length
  | .bs,t=>.imm t.1 (.bs t.2) 1 1 0 t.2.length
  | .ss,t=>.imm t.1 (.ss t.2) 1 1 0 t.2.length
  | .cols l,t=>.imm t.1 (.cols t.2.1 (CKs.cols l t.2.2)) l.length l.length 0 t.2.1
  | .ivs ps w i j,t=>.iptr t.1 (.vs (ps.avs t.2)) w i j
  | .fn f a b,t=>.fn (.func f) (a.avs t.1) (b.avs t.2)
  | .agg ps,t=>.agg (ps.avs t)
  | .tup ps,t=>.tup (ps.avs t)
  | .iface y p,t=>.iface y (p.av t)
  | .kbool b,_=>.bool true b
  | .nfn,_=>.nfn
  | .nptr,_=>.nptr
  | .nsl,_=>.nsl
  | .niface,_=>.niface
  | .any,_=>.any
  | .lsl b,t=>.sl b 1 1 t.1 t.2.1 t.2.2
  | .lptr b w i j,_=>.ptr b w i j
def wX.avs:(ps:wX)→ps.Ty→List AV
  | .nil,_=>[]
  | .cons p ps,t=>p.av t.1::ps.avs t.2
end
def SN(a b:Bool) :Bool:=bif a then b else !b
theorem SO{a b:Bool} :SN a b=true↔a=b:=by cases a<;>cases b<;>simp [SN]
def CKs.ok(n:Nat)(m:Nat) :Bool:=Nat.ble n m
def Vc(k:IntKind) :AV→Option (Int×List Bool)
  | .int k' n=>bif jh k k' then some (n,[]) else none
  | _=>none
def Vd(ex:Bool) :AV→Option (Nat×List Bool)
  | .flt ex' x=>bif ex && !ex' then none else some (x,[])
  | _=>none
def Tr:AV→Option (Bool×List Bool)
  | .bool kn b=>bif kn then none else some (b,[])
  | _=>none
def RE(b:Bool) :AV→Option (Unit×List Bool)
  | .bool kn b'=>bif kn&&SN b b' then some ((),[]) else none
  | _=>none
def Ve:AV→Option (ByteArray×List Bool)
  | .str s=>some (s,[])
  | _=>none
def Px{α:Type}(f:ba→Option (List α)) :AV→Option ((Lv×List α)×List Bool)
  | .imm l d w es o n=>(f d).bind fun xs=>bif Nat.beq w 1&&Nat.beq es 1 then some ((l,az o n xs),[dg o n xs]) else none
  | .nsl=>some ((.free,[]),[])
  | .esl=>some ((.free,[]),[])
  | _=>none
def Vf:ba→Option (List Nat)
  | .fl xs=>some xs
  | _=>none
def Vg(k:IntKind) :ba→Option (List Int)
  | .ns k' xs=>bif jh k k' then some xs else none
  | _=>none
def Vh:ba→Option (List Bool)
  | .bs xs=>some xs
  | _=>none
def WE:ba→Option (List ByteArray)
  | .ss xs=>some xs
  | _=>none
def WF:ba→Option (List AV)
  | .vs xs=>some xs
  | _=>none
def Ts:ba→Option (Nat×List lG)
  | .cols m cs=>some (m,cs)
  | _=>none
def Qk(ks:List CK) :AV→Option ((Lv×Nat×CKs.Ty ks)×List Bool)
  | .imm l d w es o n=>(Ts d).bind fun q=>bif Nat.beq w ks.length&&Nat.beq es ks.length then (CKs.fit ks o n q.2).map fun t=>((l,n,t),[Nat.ble (o+n) q.1]) else none
  | .nsl=>some ((.free,0,CKs.emp ks),[])
  | .esl=>some ((.free,0,CKs.emp ks),[])
  | _=>none
def WG(w i j:Nat) :AV→Option (Lv×List AV)
  | .iptr l d w' i' j'=>(WF d).bind fun xs=>bif Nat.beq w w'&&(Nat.beq i i'&&Nat.beq j j') then some (l,xs) else none
  | _=>none
def Xq(f:FuncId) :AV→Option (List AV×List AV)
  | .fn (.func f') x y=>bif Nat.beq f f' then some (x,y) else none
  | _=>none
def WH:AV→Option (List AV)
  | .agg l=>some l
  | _=>none
def WI:AV→Option (List AV)
  | .tup l=>some l
  | _=>none
def Tt(t:TypeId) :AV→Option AV
  | .iface t' v=>bif Nat.beq t t' then some v else none
  | _=>none
def WJ:AV→Option (Unit×List Bool)
  | .nfn=>some ((),[])
  | _=>none
def Vi:AV→Option (Unit×List Bool)
  | .nptr=>some ((),[])
  | _=>none
def WK:AV→Option (Unit×List Bool)
  | .nsl=>some ((),[])
  | _=>none
def Vj(b:Nat) :AV→Option ((Nat×Nat×Nat)×List Bool)
  | .sl b' w es i len cap=>bif Nat.beq b b'&&(Nat.beq w 1&&Nat.beq es 1) then some ((i,len,cap),[]) else none
  | _=>none
def Tu(b w i j:Nat) :AV→Option (Unit×List Bool)
  | .ptr b' w' i' j'=>bif (Nat.beq b b'&&Nat.beq w w')&&(Nat.beq i i'&&Nat.beq j j') then some ((),[]) else none
  | _=>none
def RF:AV→Option (Unit×List Bool)
  | .niface=>some ((),[])
  | _=>none
mutual
def IO.fit:(p:IO)→AV→Option (p.Ty×List Bool)
  | .int k=>Vc k
  | .flt ex=>Vd ex
  | .bool=>Tr
  | .kbool b=>RE b
  | .str=>Ve
  | .fl=>Px Vf
  | .ns k=>Px (Vg k)
  | .bs=>Px Vh
  | .ss=>Px WE
  | .cols ks=>Qk ks
  | .ivs ps w i j=>fun v=>match WG w i j v with
    | some q=>match ps.fit q.2 with
      | some r=>some ((q.1,r.1),r.2)
      | none=>none
    | none=>none
  | .fn f a b=>fun v=>match Xq f v with
    | some q=>match a.fit q.1 with
      | some r=>match b.fit q.2 with
        | some s=>some ((r.1,s.1),r.2++s.2)
        | none=>none
      | none=>none
    | none=>none
  | .agg ps=>fun v=>match WH v with
    | some l=>ps.fit l
    | none=>none
  | .tup ps=>fun v=>match WI v with
    | some l=>ps.fit l
    | none=>none
  | .iface t p=>fun v=>match Tt t v with
    | some u=>p.fit u
    | none=>none
  | .nfn=>WJ
  | .nptr=>Vi
  | .nsl=>WK
  | .niface=>RF
  | .any=>fun _=>some ((),[])
  | .lsl b=>Vj b
  | .lptr b w i j=>Tu b w i j
def wX.fit:(ps:wX)→List AV→Option (ps.Ty×List Bool)
  | .nil=>fun l=>match l with
    | []=>some ((),[])
    | _::_=>none
  | .cons p ps=>fun l=>match l with
    | []=>none
    | v::l=>match p.fit v with
      | some r=>match ps.fit l with
        | some s=>some ((r.1,s.1),r.2++s.2)
        | none=>none
      | none=>none
end
theorem T9{ks:List CK}{o n m:Nat}{cs:List lG}{t:CKs.Ty ks}(h:CKs.fit ks o n cs=some t) :∀ x v,(ba.cols n (CKs.cols ks t)).cell? x=some v→(ba.cols m cs).cell? (o*ks.length+x)=some v:=by
  intro x v hx
  have hl:=Lf h
  obtain ⟨c',h1,_,h3⟩:=mV hx
  obtain ⟨c,q1,_,q3⟩:=CKs.fit_spec h _ _ h1
  rw [CKs.len] at h1 h3 q1
  have hpos:0<ks.length:=by
    have:=(List.getElem?_eq_some_iff.1 q1).1
    omega
  simp only [ba.cell?,hl,Option.bind_eq_some_iff]
  refine ⟨c,?_,?_⟩
  · rw [Nat.add_comm,Nat.add_mul_mod_self_right];exact q1
  · rw [Nat.add_comm,Nat.add_mul_div_right _ _ hpos,Nat.add_comm];exact q3 _ _ h3
structure Wk (v v':AV):Prop where
  weak:bL v v'
  kept:v.kept=true→v'.kept=true
  foreign:v.foreign=true→v'.foreign=true
structure XI (v v':List AV):Prop where
  weak:lS v v'
  kept:iR v=true→iR v'=true
  foreign:dm v=true→dm v'=true
theorem Wk.refl(v:AV) :Wk v v:=⟨bL.refl v,id,id⟩
theorem Wk.fltL(x:Nat) :Wk (.flt true x) (.flt false x):=⟨fun ρ w u h=>(by
  cases h with | flt _ _ y hf =>
  rcases hf with rfl | ⟨q,_⟩
  · exact .flt _ _ _ (.inl rfl)
  · cases q),id,id⟩
theorem XI.cons{v v':AV}{l l':List AV}(h:Wk v v')(k:XI l l') :XI (v::l) (v'::l') :=
  ⟨.cons h.weak k.weak,fun q=>by simp only [iR,Bool.and_eq_true] at q ⊢;exact ⟨h.kept q.1,k.kept q.2⟩,fun q=>by simp only [dm,Bool.and_eq_true] at q ⊢;exact ⟨h.foreign q.1,k.foreign q.2⟩⟩
theorem Wk.part{l:Lv}{d d':ba}{w es o n:Nat}(h:∀ x v,d'.cell? x=some v→d.cell? (o*w+x)=some v)(hr:d.recKept→d'.recKept)(hk:d'.kept=true)(hg:d'.foreign=true) :Wk (.imm l d w es o n) (.imm l d' w es 0 n) :=
  ⟨Ly h hr hk hg,id,id⟩
theorem Wk.nsl{d':ba}{w es:Nat}(hr:d'.recKept)(hk:d'.kept=true)(hg:d'.foreign=true) :Wk .nsl (.imm .free d' w es 0 0):=⟨Lz hr hk hg,id,id⟩
theorem Wk.esl{d':ba}{w es:Nat}(hr:d'.recKept)(hk:d'.kept=true)(hg:d'.foreign=true) :Wk .esl (.imm .free d' w es 0 0):=⟨LA hr hk hg,id,id⟩
theorem Wk.fl{l:Lv}{xs:List Nat}{o n:Nat}(h:dg o n xs=true) :Wk (.imm l (.fl xs) 1 1 o n) (.imm l (.fl (az o n xs)) 1 1 0 (az o n xs).length):=by
  rw [iW (am.1 h)];exact .part (fun x v q=>by rw [Nat.mul_one];exact yc q) (fun _=>trivial) rfl rfl
theorem Wk.ns{k:IntKind}{l:Lv}{xs:List Int}{o n:Nat}(h:dg o n xs=true) :Wk (.imm l (.ns k xs) 1 1 o n) (.imm l (.ns k (az o n xs)) 1 1 0 (az o n xs).length):=by
  rw [iW (am.1 h)];exact .part (fun x v q=>by rw [Nat.mul_one];exact yc q) (fun _=>trivial) rfl rfl
theorem Wk.bs{l:Lv}{xs:List Bool}{o n:Nat}(h:dg o n xs=true) :Wk (.imm l (.bs xs) 1 1 o n) (.imm l (.bs (az o n xs)) 1 1 0 (az o n xs).length):=by
  rw [iW (am.1 h)];exact .part (fun x v q=>by rw [Nat.mul_one];exact yc q) (fun _=>trivial) rfl rfl
theorem Wk.ss{l:Lv}{xs:List ByteArray}{o n:Nat}(h:dg o n xs=true) :Wk (.imm l (.ss xs) 1 1 o n) (.imm l (.ss (az o n xs)) 1 1 0 (az o n xs).length):=by
  rw [iW (am.1 h)];exact .part (fun x v q=>by rw [Nat.mul_one];exact yc q) (fun _=>trivial) rfl rfl
theorem Vk{ks:List CK}{o n m:Nat}{cs:List lG}{t:CKs.Ty ks}(h:CKs.fit ks o n cs=some t)(hm:o+n≤m) :(ba.cols m cs).recKept→(ba.cols n (CKs.cols ks t)).recKept:=by
  intro hr c hc
  obtain ⟨j,hj⟩:=List.getElem?_of_mem hc
  obtain ⟨c0,q1,q2,_⟩:=CKs.fit_spec h j c hj
  exact q2 (by rw [hr c0 (List.mem_of_getElem? q1)];exact hm)
theorem Xr{w es n:Nat}(h:(Nat.beq w n&&Nat.beq es n)=true) :w=n∧es=n:=by
  rw [Bool.and_eq_true] at h;exact ⟨Nat.eq_of_beq_eq_true h.1,Nat.eq_of_beq_eq_true h.2⟩
theorem zw{α:Type}{c:Bool}{a:α}{x:α}(h:(bif c then some a else none)=some x) :c=true∧a=x:=by
  cases c with
  | true=>exact ⟨rfl,by simpa using h⟩
  | false=>cases h
theorem Xs{α:Type}{c:Bool}{a:Option α}{x:α}(h:(bif c then a else none)=some x) :c=true∧a=some x:=by
  cases c with
  | true=>exact ⟨rfl,h⟩
  | false=>cases h
theorem DZ{α:Type}{f:ba→Option (List α)}{g:List α→ba}(hg:∀ {d xs},f d=some xs→d=g xs) 
    (hw:∀ {l xs o n},dg o n xs=true→Wk (.imm l (g xs) 1 1 o n) (.imm l (g (az o n xs)) 1 1 0 (az o n xs).length)) (h0:(g []).recKept∧(g []).kept=true∧(g []).foreign=true)
    {v:AV} {t:Lv×List α} {o:List Bool} (h:Px f v=some (t,o)) (ho:aY o):Wk v (.imm t.1 (g t.2) 1 1 0 t.2.length):=by
  unfold Px at h
  split at h
  · rename_i l d w es i n
    cases e:f d with
    | none=>rw [e] at h;cases h
    | some xs =>
      rw [e] at h
      obtain ⟨e2,h⟩:=zw h
      obtain ⟨rfl,rfl⟩:=Xr e2
      cases h;cases hg e;exact hw ho.1
  · cases h;exact .nsl h0.1 h0.2.1 h0.2.2
  · cases h;exact .esl h0.1 h0.2.1 h0.2.2
  · cases h
theorem Ql{ks:List CK}{v:AV}{t:Lv×Nat×CKs.Ty ks}{o:List Bool}(h:Qk ks v=some (t,o))(ho:aY o) :Wk v (.imm t.1 (.cols t.2.1 (CKs.cols ks t.2.2)) ks.length ks.length 0 t.2.1):=by
  unfold Qk at h
  split at h
  · rename_i l d w es i n
    cases d<;>simp only [Ts,Option.bind_none,Option.bind_some,reduceCtorEq] at h
    rename_i m cs
    have e:=(Xs h).1;replace h:=(Xs h).2
    obtain ⟨rfl,rfl⟩:=Xr e
    cases e2:CKs.fit ks i n cs with
    | none=>rw [e2] at h;cases h
    | some r =>
      rw [e2] at h;cases h
      have:i+n≤m:=Nat.le_of_ble_eq_true ho.1
      exact .part (T9 e2) (Vk e2 this) rfl rfl
  · cases h;exact .nsl (CKs.emp_len ks) rfl rfl
  · cases h;exact .esl (CKs.emp_len ks) rfl rfl
  · cases h
mutual
theorem IO.fit_spec:∀ (p:IO) (v:AV) {t:p.Ty} {o:List Bool},p.fit v=some (t,o)→aY o→Wk v (p.av t)
  | .int k,v,t,o,h,ho=>by
    simp only [IO.fit,Vc] at h
    split at h
    · obtain ⟨e,h⟩:=zw h
      cases h;cases zM.1 e;exact .refl _
    · cases h
  | .flt ex,v,t,o,h,ho=>by
    simp only [IO.fit,Vd] at h
    split at h
    · rename_i ex' x
      cases ex with
      | true =>
        cases ex' with
        | true=>cases h;exact .refl _
        | false=>cases h
      | false =>
        cases ex' with
        | true=>cases h;exact .fltL x
        | false=>cases h;exact .refl _
    · cases h
  | .bool,v,t,o,h,ho=>by
    simp only [IO.fit,Tr] at h
    split at h
    · rename_i kn b
      cases kn with
      | true=>cases h
      | false=>cases h;exact .refl _
    · cases h
  | .kbool b,v,t,o,h,ho=>by
    simp only [IO.fit,RE] at h
    split at h
    · obtain ⟨e,h⟩:=zw h
      rw [Bool.and_eq_true] at e
      cases e.1;cases SO.1 e.2;exact .refl _
    · cases h
  | .str,v,t,o,h,ho=>by
    simp only [IO.fit,Ve] at h
    split at h
    · cases h;exact .refl _
    · cases h
  | .fl,v,t,o,h,ho=>DZ (g:=.fl) (f:=Vf) (fun {d xs} e=>by cases d<;>cases e;rfl) (fun q=>.fl q) ⟨trivial,rfl,rfl⟩ h ho
  | .ns k,v,t,o,h,ho=>DZ (g:=.ns k) (f:=Vg k) (fun {d xs} e=>by
      cases d<;>try (cases e;done)
      have e1:=(zw e).1;replace e:=(zw e).2
      cases zM.1 e1;cases e;rfl) (fun q=>.ns q) ⟨trivial,rfl,rfl⟩ h ho
  | .bs,v,t,o,h,ho=>DZ (g:=.bs) (f:=Vh) (fun {d xs} e=>by cases d<;>cases e;rfl) (fun q=>.bs q) ⟨trivial,rfl,rfl⟩ h ho
  | .ss,v,t,o,h,ho=>DZ (g:=.ss) (f:=WE) (fun {d xs} e=>by cases d<;>cases e;rfl) (fun q=>.ss q) ⟨trivial,rfl,rfl⟩ h ho
  | .cols ks,v,t,o,h,ho=>Ql h ho
  | .ivs ps w i j,v,t,o,h,ho=>by
    simp only [IO.fit] at h
    split at h
    case h_2=>cases h
    rename_i q hq
    split at h
    case h_2=>cases h
    rename_i r hr
    cases h
    unfold WG at hq
    split at hq
    case h_2=>cases hq
    rename_i l d w' i' j'
    cases d<;>simp only [WF,Option.bind_none,Option.bind_some,reduceCtorEq] at hq
    rename_i xs
    have e:=(zw hq).1;replace hq:=(zw hq).2
    rw [Bool.and_eq_true,Bool.and_eq_true] at e
    cases Nat.eq_of_beq_eq_true e.1
    cases Nat.eq_of_beq_eq_true e.2.1
    cases Nat.eq_of_beq_eq_true e.2.2
    cases hq
    have:=wX.fit_spec ps xs hr ho
    exact ⟨Nl this.weak this.kept this.foreign,id,id⟩
  | .fn f a b,v,t,o,h,ho=>by
    simp only [IO.fit] at h
    split at h
    case h_2=>cases h
    rename_i q hq
    split at h
    case h_2=>cases h
    rename_i r hr
    split at h
    case h_2=>cases h
    rename_i s hs
    cases h
    unfold Xq at hq
    split at hq
    case h_2=>cases hq
    have e:=(zw hq).1;replace hq:=(zw hq).2
    cases Nat.eq_of_beq_eq_true e
    cases hq
    rw [ck] at ho
    have h1:=wX.fit_spec a _ hr ho.1
    have h2:=wX.fit_spec b _ hs ho.2
    refine ⟨bL.fn h1.weak h2.weak,fun q=>?_,fun q=>?_⟩
    · simp only [IO.av,AV.kept,Bool.and_eq_true] at q ⊢;exact ⟨h1.kept q.1,h2.kept q.2⟩
    · simp only [IO.av,AV.foreign,Bool.and_eq_true] at q ⊢;exact ⟨h1.foreign q.1,h2.foreign q.2⟩
  | .agg ps,v,t,o,h,ho=>by
    simp only [IO.fit] at h
    split at h
    case h_2=>cases h
    rename_i l hl
    cases v<;>simp only [WH,reduceCtorEq,Option.some.injEq] at hl
    subst hl
    have:=wX.fit_spec ps _ h ho
    exact ⟨bL.agg this.weak,this.kept,this.foreign⟩
  | .tup ps,v,t,o,h,ho=>by
    simp only [IO.fit] at h
    split at h
    case h_2=>cases h
    rename_i l hl
    cases v<;>simp only [WI,reduceCtorEq,Option.some.injEq] at hl
    subst hl
    have:=wX.fit_spec ps _ h ho
    exact ⟨bL.tup this.weak,this.kept,this.foreign⟩
  | .iface y p,v,t,o,h,ho=>by
    simp only [IO.fit] at h
    split at h
    case h_2=>cases h
    rename_i u hu
    unfold Tt at hu
    split at hu
    case h_2=>cases hu
    have e:=(zw hu).1;replace hu:=(zw hu).2
    cases Nat.eq_of_beq_eq_true e
    subst hu
    have:=IO.fit_spec p _ h ho
    exact ⟨bL.iface this.weak,this.kept,this.foreign⟩
  | .nfn,v,t,o,h,ho=>by
    cases v<;>simp only [IO.fit,WJ,reduceCtorEq] at h
    exact .refl _
  | .nptr,v,t,o,h,ho=>by
    cases v<;>simp only [IO.fit,Vi,reduceCtorEq] at h
    exact .refl _
  | .nsl,v,t,o,h,ho=>by
    cases v<;>simp only [IO.fit,WK,reduceCtorEq] at h
    exact .refl _
  | .niface,v,t,o,h,ho=>by
    cases v<;>simp only [IO.fit,RF,reduceCtorEq] at h
    exact .refl _
  | .any,v,t,o,h,ho=>⟨bL.any v,fun _=>rfl,fun _=>rfl⟩
  | .lsl b,v,t,o,h,ho=>by
    simp only [IO.fit,Vj] at h
    split at h
    · have e:=(zw h).1;replace h:=(zw h).2
      rw [Bool.and_eq_true,Bool.and_eq_true] at e
      cases Nat.eq_of_beq_eq_true e.1
      cases Nat.eq_of_beq_eq_true e.2.1
      cases Nat.eq_of_beq_eq_true e.2.2
      cases h;exact .refl _
    · cases h
  | .lptr b w i j,v,t,o,h,ho=>by
    simp only [IO.fit,Tu] at h
    split at h
    · have e:=(zw h).1;replace h:=(zw h).2
      rw [Bool.and_eq_true,Bool.and_eq_true,Bool.and_eq_true] at e
      cases Nat.eq_of_beq_eq_true e.1.1
      cases Nat.eq_of_beq_eq_true e.1.2
      cases Nat.eq_of_beq_eq_true e.2.1
      cases Nat.eq_of_beq_eq_true e.2.2
      exact .refl _
    · cases h
theorem wX.fit_spec:∀ (ps:wX) (l:List AV) {t:ps.Ty} {o:List Bool},ps.fit l=some (t,o)→aY o→XI l (ps.avs t)
  | .nil,[],t,o,h,ho=>⟨.nil,id,id⟩
  | .nil,v::l,t,o,h,ho=>by simp [wX.fit] at h
  | .cons p ps,[],t,o,h,ho=>by simp [wX.fit] at h
  | .cons p ps,v::l,t,o,h,ho=>by
    simp only [wX.fit] at h
    split at h
    case h_2=>cases h
    rename_i r hr
    split at h
    case h_2=>cases h
    rename_i s hs
    cases h
    rw [ck] at ho
    exact .cons (IO.fit_spec p v hr ho.1) (wX.fit_spec ps l hs ho.2)
end
def mW(f:FuncId)(ps:wX)(alts:ps.Ty→List zV) :bC :=
  ⟨f, fun L args => match L with
    | []=>match ps.fit args with
      | some r=>some ((alts r.1).map fun a=>⟨a.out,r.2++a.obs⟩)
      | none=>none
    | _=>none⟩
theorem ff{P:Program}{f:FuncId}{ps:wX}{alts:ps.Ty→List zV}(h:∀ t,∀ a∈alts t,aY a.obs→aI P f [] (ps.avs t) a.out) :cg P (mW f ps alts):=by
  intro L args al a hal ha ho
  simp only [mW] at hal
  split at hal
  case h_2=>cases hal
  split at hal
  case h_2=>cases hal
  rename_i r hr
  obtain ⟨t,o⟩:=r
  simp only [Option.some.injEq] at hal
  subst hal
  simp only [List.mem_map] at ha
  obtain ⟨b,hb,rfl⟩:=ha
  simp only [ck] at ho
  exact (h t b hb ho.2).args (wX.fit_spec ps args hr ho.1).weak
inductive CP where
  | int (k:IntKind)
  | flt
  | fltx
  | bool
  | str
  | lsl (b:Nat)
  | lsl0 (b:Nat)
  | lptr (b w i j:Nat)
  | nsl
  | nptr
def CP.Ty:CP→Type
  | .int _=>Int
  | .flt=>Nat
  | .fltx=>Nat
  | .bool=>Bool
  | .str=>ByteArray
  | .lsl _=>Nat×Nat×Nat
  | .lsl0 _=>Nat×Nat
  | .lptr _ _ _ _=>Unit
  | .nsl=>Unit
  | .nptr=>Unit
def CP.av:(p:CP)→p.Ty→AV
  | .int k,n=>.int k n
  | .flt,x=>.flt false x
  | .fltx,x=>.flt true x
  | .bool,b=>.bool false b
  | .str,s=>.str s
  | .lsl b,t=>.sl b 1 1 t.1 t.2.1 t.2.2
  | .lsl0 b,t=>.sl b 1 1 0 t.1 t.2
  | .lptr b w i j,_=>.ptr b w i j
  | .nsl,_=>.nsl
  | .nptr,_=>.nptr
def WL(k:IntKind) :AV→Option Int
  | .int k' n=>bif jh k k' then some n else none
  | _=>none
def WM:AV→Option Nat
  | .flt ex x=>bif ex then none else some x
  | _=>none
def Vl:AV→Option Nat
  | .flt ex x=>bif ex then some x else none
  | _=>none
def Vm:AV→Option Bool
  | .bool kn b=>bif kn then none else some b
  | _=>none
def WN:AV→Option ByteArray
  | .str s=>some s
  | _=>none
def WO(b:Nat) :AV→Option (Nat×Nat×Nat)
  | .sl b' w es i len cap=>bif Nat.beq b b'&&(Nat.beq w 1&&Nat.beq es 1) then some (i,len,cap) else none
  | _=>none
def Vn(b:Nat) :AV→Option (Nat×Nat)
  | .sl b' w es i len cap=>bif Nat.beq b b'&&(Nat.beq w 1&&Nat.beq es 1)&&Nat.beq i 0 then some (len,cap) else none
  | _=>none
def Vo(b w i j:Nat) :AV→Option Unit
  | .ptr b' w' i' j'=>bif (Nat.beq b b'&&Nat.beq w w')&&(Nat.beq i i'&&Nat.beq j j') then some () else none
  | _=>none
def WP:AV→Option Unit
  | .nsl=>some ()
  | _=>none
def Vp:AV→Option Unit
  | .nptr=>some ()
  | _=>none
def CP.fit:(p:CP)→AV→Option p.Ty
  | .int k=>WL k
  | .flt=>WM
  | .fltx=>Vl
  | .bool=>Vm
  | .str=>WN
  | .lsl b=>WO b
  | .lsl0 b=>Vn b
  | .lptr b w i j=>Vo b w i j
  | .nsl=>WP
  | .nptr=>Vp
theorem Xt{c:Bool}{α:Type}{a x:α}(h:(bif c then none else some a)=some x) :c=false∧a=x:=by
  cases c with
  | true=>cases h
  | false=>exact ⟨rfl,by simpa using h⟩
theorem CP.fit_spec:∀ (p:CP) {v:AV} {t:p.Ty},p.fit v=some t→v=p.av t
  | .int k,v,t,h=>by
    simp only [CP.fit,WL] at h
    split at h
    · obtain ⟨e,h⟩:=zw h
      cases h;cases zM.1 e;rfl
    · cases h
  | .flt,v,t,h=>by
    simp only [CP.fit,WM] at h
    split at h
    · obtain ⟨e,h⟩:=Xt h
      cases h;cases e;rfl
    · cases h
  | .fltx,v,t,h=>by
    simp only [CP.fit,Vl] at h
    split at h
    · obtain ⟨e,h⟩:=zw h
      cases h;cases e;rfl
    · cases h
  | .bool,v,t,h=>by
    simp only [CP.fit,Vm] at h
    split at h
    · obtain ⟨e,h⟩:=Xt h
      cases h;cases e;rfl
    · cases h
  | .str,v,t,h=>by
    simp only [CP.fit,WN] at h
    split at h
    · cases h;rfl
    · cases h
  | .lsl b,v,t,h=>by
    simp only [CP.fit,WO] at h
    split at h
    · have e:=(zw h).1;replace h:=(zw h).2
      rw [Bool.and_eq_true,Bool.and_eq_true] at e
      cases Nat.eq_of_beq_eq_true e.1
      cases Nat.eq_of_beq_eq_true e.2.1
      cases Nat.eq_of_beq_eq_true e.2.2
      cases h;rfl
    · cases h
  | .lsl0 b,v,t,h=>by
    simp only [CP.fit,Vn] at h
    split at h
    · have e:=(zw h).1;replace h:=(zw h).2
      rw [Bool.and_eq_true,Bool.and_eq_true,Bool.and_eq_true] at e
      cases Nat.eq_of_beq_eq_true e.1.1
      cases Nat.eq_of_beq_eq_true e.1.2.1
      cases Nat.eq_of_beq_eq_true e.1.2.2
      cases Nat.eq_of_beq_eq_true e.2
      cases h;rfl
    · cases h
  | .lptr b w i j,v,t,h=>by
    simp only [CP.fit,Vo] at h
    split at h
    · have e:=(zw h).1;clear h
      rw [Bool.and_eq_true,Bool.and_eq_true,Bool.and_eq_true] at e
      cases Nat.eq_of_beq_eq_true e.1.1
      cases Nat.eq_of_beq_eq_true e.1.2
      cases Nat.eq_of_beq_eq_true e.2.1
      cases Nat.eq_of_beq_eq_true e.2.2
      rfl
    · cases h
  | .nsl,v,t,h=>by
    simp only [CP.fit,WP] at h
    split at h
    · rfl
    · cases h
  | .nptr,v,t,h=>by
    simp only [CP.fit,Vp] at h
    split at h
    · rfl
    · cases h
def CPs.Ty:List CP→Type
  | []=>Unit
  | p::l=>p.Ty×CPs.Ty l
def CPs.avs:(l:List CP)→CPs.Ty l→List AV
  | [],_=>[]
  | p::l,t=>p.av t.1::CPs.avs l t.2
def CPs.fit:(l:List CP)→List AV→Option (CPs.Ty l)
  | []=>fun vs=>match vs with
    | []=>some ()
    | _::_=>none
  | p::l=>fun vs=>match vs with
    | []=>none
    | v::vs=>match p.fit v with
      | some t=>match CPs.fit l vs with
        | some r=>some (t,r)
        | none=>none
      | none=>none
theorem CPs.fit_spec:∀ (l:List CP) {vs:List AV} {t:CPs.Ty l},CPs.fit l vs=some t→vs=CPs.avs l t
  | [],[],t,h=>rfl
  | [],_::_,t,h=>by cases h
  | _::_,[],t,h=>by cases h
  | p::l,v::vs,t,h=>by
    simp only [CPs.fit] at h
    split at h
    case h_2=>cases h
    rename_i x hx
    split at h
    case h_2=>cases h
    rename_i r hr
    cases h
    simp only [CPs.avs]
    rw [←CP.fit_spec p hx,←CPs.fit_spec l hr]
inductive BK where
  | fl
  | ns (k:IntKind)
  | bs
  | vs (l:List CP)
def BK.Ty:BK→Type
  | .fl=>List Nat
  | .ns _=>List Int
  | .bs=>List Bool
  | .vs l=>CPs.Ty l
def BK.blk:(k:BK)→k.Ty→ba
  | .fl,xs=>.fl xs
  | .ns k,xs=>.ns k xs
  | .bs,xs=>.bs xs
  | .vs l,t=>.vs (CPs.avs l t)
def XM(l:List CP) :ba→Option (CPs.Ty l)
  | .vs xs=>CPs.fit l xs
  | _=>none
def BK.fit:(k:BK)→ba→Option k.Ty
  | .fl=>Vf
  | .ns k=>Vg k
  | .bs=>Vh
  | .vs l=>XM l
theorem BK.fit_spec:∀ (k:BK) {d:ba} {t:k.Ty},k.fit d=some t→d=k.blk t
  | .fl,d,t,h=>by cases d<;>cases h;rfl
  | .ns k,d,t,h=>by
    cases d<;>try (cases h;done)
    have e1:=(zw h).1;replace h:=(zw h).2
    cases zM.1 e1;cases h;rfl
  | .bs,d,t,h=>by cases d<;>cases h;rfl
  | .vs l,d,t,h=>by
    cases d<;>try (cases h;done)
    exact congrArg ba.vs (CPs.fit_spec l h)
def BKs.Ty:List BK→Type
  | []=>Unit
  | k::l=>k.Ty×BKs.Ty l
def Jg:(l:List BK)→BKs.Ty l→List ba
  | [],_=>[]
  | k::l,t=>k.blk t.1::Jg l t.2
def BKs.fit:(l:List BK)→List ba→Option (BKs.Ty l)
  | [],[]=>some ()
  | [],_::_=>none
  | _::_,[]=>none
  | k::l,d::ds=>match k.fit d with
    | some t=>match BKs.fit l ds with
      | some r=>some (t,r)
      | none=>none
    | none=>none
theorem BKs.fit_spec:∀ (l:List BK) {ds:List ba} {t:BKs.Ty l},BKs.fit l ds=some t→ds=Jg l t
  | [],[],t,h=>rfl
  | [],_::_,t,h=>by cases h
  | _::_,[],t,h=>by cases h
  | k::l,d::ds,t,h=>by
    simp only [BKs.fit] at h
    split at h
    case h_2=>cases h
    rename_i x hx
    split at h
    case h_2=>cases h
    rename_i r hr
    cases h
    simp only [Jg]
    rw [←BK.fit_spec k hx,←BKs.fit_spec l hr]
def yz(f:FuncId)(bs:List BK)(ps:wX)(alts:BKs.Ty bs→ps.Ty→List zV) :bC :=
  ⟨f, fun L args => match BKs.fit bs L with
    | some x=>match ps.fit args with
      | some r=>some ((alts x r.1).map fun a=>⟨a.out,r.2++a.obs⟩)
      | none=>none
    | none=>none⟩
theorem nR{P:Program}{f:FuncId}{bs:List BK}{ps:wX}{alts:BKs.Ty bs→ps.Ty→List zV}(h:∀ x t,∀ a∈alts x t,aY a.obs→aI P f (Jg bs x) (ps.avs t) a.out) :cg P (yz f bs ps alts):=by
  intro L args al a hal ha ho
  simp only [yz] at hal
  split at hal
  case h_2=>cases hal
  rename_i x hx
  split at hal
  case h_2=>cases hal
  rename_i r hr
  obtain ⟨t,o⟩:=r
  simp only [Option.some.injEq] at hal
  subst hal
  simp only [List.mem_map] at ha
  obtain ⟨b,hb,rfl⟩:=ha
  simp only [ck] at ho
  have:=(h x t b hb ho.2).args (wX.fit_spec ps args hr ho.1).weak
  rwa [←BKs.fit_spec bs hx] at this
theorem nS{P:Program}{f:FuncId}{L:List ba}{l:List AV} :∀ a∈([]:List zV),aY a.obs→aI P f L l a.out:=fun a h=>by cases h
theorem jG{P:Program}{f:FuncId}{L:List ba}{l:List AV}{o:rU}{b:Bool}{al:List zV}(h:b=true→aI P f L l o)(t:∀ a∈al,aY a.obs→aI P f L l a.out) :∀ a∈(⟨o,[b]⟩:zV)::al,aY a.obs→aI P f L l a.out:=by
  intro a ha ho
  rcases List.mem_cons.1 ha with rfl | ha
  · exact h ho.1
  · exact t a ha ho
theorem gr{P:Program}{f:FuncId}{l:List AV} :∀ a∈([]:List zV),aY a.obs→aI P f [] l a.out:=fun a h=>by cases h
theorem fg{P:Program}{f:FuncId}{l:List AV}{o:rU}{b:Bool}{al:List zV}(h:b=true→aI P f [] l o)(t:∀ a∈al,aY a.obs→aI P f [] l a.out) :∀ a∈(⟨o,[b]⟩:zV)::al,aY a.obs→aI P f [] l a.out:=by
  intro a ha ho
  rcases List.mem_cons.1 ha with rfl | ha
  · exact h ho.1
  · exact t a ha ho
end Go.Plb
namespace Go.Plb
open Go.ChangeShapes Go.WideShapes Go.ChangeAt Go.RowKit Go.Deep
set_option linter.unusedSimpArgs false
set_option linter.unusedVariables false
set_option linter.unusedSectionVars false
variable [Rom]
def FA.z:FA→Int
  | .i _ n=>n
  | _=>0
def FA.ss:FA→ByteArray
  | .s x=>x
  | _=>ByteArray.empty
variable {H : Type} {enc : TypeId × Value → H} {P : Program} {W : World}
instance:Inhabited FA:=⟨.b false⟩
theorem RG{l:List FA}(h:C6 [.fl,.fl] l) :∃ xs ys,l=[.fl xs,.fl ys]:=by
  match l,h with
  | [a,b],⟨h1,h2,_⟩ =>
    obtain ⟨r,rfl⟩:=U9 h1;obtain ⟨s,rfl⟩:=U9 h2
    exact ⟨_,_,rfl⟩
end Go.Plb
namespace Go.Plb.Seat
open Go Go.Plb Go.Proofs
noncomputable abbrev prog:Program:=Try.prog
instance:Rom:=⟨[]⟩
theorem Vq{ρ:aH}{w:World} :∀ x∈(Rom.tab:List (Nat×ba)),VR ρ w (.iptr .free x.2 1 0 0) (.pointer (some ⟨x.1,0,none⟩)):=fun _ h=>by cases h
abbrev zY:FuncId:=3
abbrev Lg:FuncId:=5
abbrev BN:FuncId:=7
abbrev Hv:FuncId:=8
abbrev zx:FuncId:=9
abbrev yL:FuncId:=10
abbrev Iy:FuncId:=12
abbrev zZ:FuncId:=15
abbrev Hw:FuncId:=17
abbrev jq:FuncId:=18
abbrev we:FuncId:=19
abbrev Hx:FuncId:=20
abbrev RH:FuncId:=21
abbrev fK:FuncId:=23
abbrev wg:FuncId:=24
abbrev qs:FuncId:=25
abbrev Fz:FuncId:=26
abbrev D0:FuncId:=27
abbrev FB:FuncId:=29
abbrev kA:FuncId:=31
abbrev lT:FuncId:=32
abbrev lU:FuncId:=33
abbrev vA:FuncId:=34
abbrev yd:FuncId:=36
abbrev D3:FuncId:=39
abbrev qP:FuncId:=42
abbrev sT:FuncId:=43
abbrev qA:FuncId:=44
abbrev aN:FuncId:=45
abbrev Hy:FuncId:=46
abbrev D4:FuncId:=47
abbrev ln:FuncId:=48
abbrev BO:FuncId:=49
abbrev aq:FuncId:=50
abbrev kB:FuncId:=51
abbrev BP:FuncId:=52
abbrev aO:FuncId:=53
abbrev FC:FuncId:=54
abbrev eQ:FuncId:=56
abbrev fY:FuncId:=57
abbrev qQ:FuncId:=58
abbrev vm:FuncId:=59
abbrev lV:FuncId:=60
abbrev lp:FuncId:=62
abbrev En:FuncId:=63
abbrev BQ:FuncId:=64
abbrev z4:FuncId:=65
abbrev Jh:FuncId:=66
abbrev FD:FuncId:=68
abbrev iS:FuncId:=69
abbrev BS:FuncId:=70
abbrev iT:FuncId:=71
abbrev BT:FuncId:=72
abbrev yA:FuncId:=73
abbrev zy:FuncId:=74
abbrev yM:FuncId:=75
abbrev uu:FuncId:=76
abbrev Nm:FuncId:=77
abbrev xC:FuncId:=78
abbrev AM:FuncId:=79
abbrev qR:FuncId:=82
abbrev gv:FuncId:=83
abbrev z5:FuncId:=84
abbrev qB:FuncId:=85
abbrev D5:FuncId:=86
abbrev BU:FuncId:=87
abbrev xD:FuncId:=90
abbrev D6:FuncId:=91
abbrev AN:FuncId:=93
abbrev D7:FuncId:=94
noncomputable def FN(f:FuncId) :Func:=(prog.funcs[f]?).getD default
noncomputable def ri(f:FuncId) :Code:=((FN f).body).getD .skip
noncomputable def C0:It:=Tm prog [(vA,.bits),(qQ,.frombits),(FD,.sqrt)] [(zx,⟨[true,true],false⟩),(qs,⟨[true,false,false],false⟩),(kA,⟨[true,false,false],false⟩),(lT,⟨[true],false⟩),(lU,⟨[true],false⟩),(qP,⟨[true,false,false,false],false⟩),(qA,⟨[true,false,false,false,false,false,false,false,false],false⟩),(ln,⟨[true,false,false,false],false⟩),(BO,⟨[true,false,false,false,false,false,false,false,false],false⟩),(aq,⟨[true,true,true,true,true,true,true,true],false⟩),(lV,⟨[true,false,false,false,false,false,false,false,false],false⟩),(lp,⟨[true,false,false,false,false,false,false,false,false],false⟩),(iS,⟨[true,false,false,false,false,false,false,false,false],false⟩),(BS,⟨[true,false,false,false,false,false,false,false,false],false⟩),(iT,⟨[true,false,false,false,false,false,false,false,false],false⟩),(BT,⟨[true,false,false,false,false,false,false,false,false],false⟩),(yA,⟨[true,false,false,false,false,false,false,false,false],false⟩),(zy,⟨[true,false,false,false,false,false,false,false,false],false⟩),(yM,⟨[true,false,false,false,false,false,false,false,false],false⟩),(uu,⟨[true,false,false,false,false,false,false,false,false],false⟩),(xC,⟨[true,false,false,false,false,false,false,false,false],false⟩),(AM,⟨[true,false,false,false,false,false,false,false,false],false⟩),(D5,⟨[true,false,false,false,false,false,false,false,false],false⟩),(BU,⟨[true,false,false,false,false,false,false,false,false],false⟩),(xD,⟨[true,false,false,false,false,false,false,false,false],false⟩),(D6,⟨[true,false,false,false,false,false,false,false,false],false⟩),(AN,⟨[true,false,false,false,false,false,false,false,false],false⟩),(D7,⟨[true,false,false,false,false,false,false,false,false],false⟩)]
theorem FE:Tn prog vA .bits:=⟨FN vA,by kernel_rfl,by kernel_rfl,by kernel_rfl,by kernel_rfl,by kernel_rfl⟩
theorem BV:Tn prog qQ .frombits:=⟨FN qQ,by kernel_rfl,by kernel_rfl,by kernel_rfl,by kernel_rfl,by kernel_rfl⟩
theorem OL:Tn prog FD .sqrt:=⟨FN FD,by kernel_rfl,by kernel_rfl,by kernel_rfl,by kernel_rfl,by kernel_rfl⟩
theorem mixed:prog.follows .mixedOrders=true:=by kernel_rfl
theorem Xu:To prog=true:=by kernel_rfl
theorem Hz:C0.Ok:=UX mixed Xu (by
  intro x hx
  simp only [List.mem_cons,List.not_mem_nil,or_false] at hx
  rcases hx with rfl | rfl | rfl
  · exact FE
  · exact BV
  · exact OL
  )
end Go.Plb.Seat
namespace Go.Plb.Seat
open Go Go.Plb
set_option linter.unusedSimpArgs false
set_option linter.unusedVariables false
noncomputable abbrev E0:Jb:=cX []
theorem Lh:cR prog E0:=Nh prog
theorem Vr(y:Nat) :aI prog D3 [] [.flt true y] ⟨.flt true (eY y),[]⟩:=by
  have h:El C0 E0 (rN C0 E0 0 50) D3 [] [.flt true y] (some [])=some (⟨.flt true (Ei .andNot .u64 (y:Int) 9223372036854775808).toNat,[]⟩,[],some []):=by kernel_rfl
  have:=aI.run Hz Lh _ _ _ h trivial
  rw [U5,Int.toNat_natCast] at this;exact this
theorem Xv(ex:Bool)(x:Nat) :aI prog D3 [] [.flt ex x] ⟨.flt ex (eY x),[]⟩:=by
  cases ex with
  | true=>exact Vr x
  | false=>exact Lx (r:=fun y=>.flt true (eY y)) Vr (fun y hf ρ w u h=>h.flt_weak (W4 hf))
theorem Li(x y:Nat) :aI prog vm [] [.flt true x,.flt true y] ⟨.flt true (xc x y),[]⟩:=by
  have h:El C0 E0 (rN C0 E0 0 50) vm [] [.flt true x,.flt true y] (some [])=some (⟨.flt true (Ei .or .u64 (Ei .andNot .u64 (x:Int) 9223372036854775808) (Ei .and .u64 (y:Int) 9223372036854775808)).toNat,[]⟩,[],some []):=by kernel_rfl
  have:=aI.run Hz Lh _ _ _ h trivial
  rw [U5,W3,Xp,Int.toNat_natCast] at this;exact this
theorem SP(e1 e2:Bool)(x y:Nat)(hn:isNaN y=true→isNaN x=true) :aI prog vm [] [.flt e1 x,.flt e2 y] ⟨.flt false (xc x y),[]⟩ :=
  Em (r:=fun x y=>.flt true (xc x y)) Li (fun x' y' h1 h2 ρ w u h=>h.flt_weak (FR.copy h1 h2 hn))
theorem V8(e1 e2:Bool)(x y:Nat) :aI prog we [] [.flt e1 x,.flt e2 y] ⟨.bool false (C4 x y),[]⟩:=by
  refine Em (r:=fun x y=>.bool false (C4 x y)) (fun x y=>?_) (fun x' y' h1 h2 ρ w u h=>by rw [←FR.same h1 h2];exact h)
  have hb:((x:Int)==(y:Int))=(x==y):=by
    rw [Bool.eq_iff_iff];simp;omega
  cases hx:isNaN x with
  | false =>
    have h:El C0 E0 (rN C0 E0 0 50) we [] [.flt true x,.flt true y] (some [0])=some (⟨.bool false ((x:Int)==(y:Int)),[]⟩,[zI x x==false],some []):=by kernel_rfl
    have:=aI.run Hz Lh _ _ _ h ⟨by rw [wc,hx];rfl,trivial⟩
    rw [hb] at this
    simp only [C4,hx,Bool.false_and,Bool.false_or];exact this
  | true =>
    cases hy:isNaN y with
    | false =>
      have h:El C0 E0 (rN C0 E0 0 50) we [] [.flt true x,.flt true y] (some [1,0])=some (⟨.bool false ((x:Int)==(y:Int)),[]⟩,[zI x x==true,zI y y==false],some []):=by kernel_rfl
      have:=aI.run Hz Lh _ _ _ h ⟨by rw [wc,hx];rfl,by rw [wc,hy];rfl,trivial⟩
      rw [hb] at this
      simp only [C4,hx,hy,Bool.and_false,Bool.false_or];exact this
    | true =>
      have h:El C0 E0 (rN C0 E0 0 50) we [] [.flt true x,.flt true y] (some [1,1])=some (⟨.bool true true,[]⟩,[zI x x==true,zI y y==true],some []):=by kernel_rfl
      have:=aI.run Hz Lh _ _ _ h ⟨by rw [wc,hx];rfl,by rw [wc,hy];rfl,trivial⟩
      have e:C4 x y=true:=by simp [C4,hx,hy]
      rw [e]
      exact this.weak (Ni _ _ _)
def SQ(L:List ba)(args:List AV) :Option (List zV) :=
  match L,args with
  | [],[.flt e1 x,.flt e2 y]=>bif e1&&e2 then one (.flt true (xc x y)) [] else one (.flt false (xc x y)) [!isNaN y||isNaN x]
  | _,_=>none
def Vs:bC:=⟨D3,fun L args=>match L,args with | [],[.flt e x]=>one (.flt e (eY x)) [] | _,_=>none⟩
def Nn:bC:=⟨vm,SQ⟩
def Qm:bC:=⟨we,fun L args=>match L,args with | [],[.flt _ x,.flt _ y]=>one (.bool false (C4 x y)) [] | _,_=>none⟩
theorem Vt:cg prog Vs:=by
  intro L args alts a h ha ho
  simp only [Vs] at h
  split at h
  · exact C5 h ha ho fun _=>Xv _ _
  · cases h
theorem W5{x y:Nat}(h:aY [!isNaN y||isNaN x]) :isNaN y=true→isNaN x=true:=by
  intro hy;have:=h.1;rw [hy] at this;simpa using this
theorem V9{f:FuncId}(hT:∀ x y,aI prog f [] [.flt true x,.flt true y] ⟨.flt true (xc x y),[]⟩) 
    (hF:∀ e1 e2 x y,(isNaN y=true→isNaN x=true)→aI prog f [] [.flt e1 x,.flt e2 y] ⟨.flt false (xc x y),[]⟩):cg prog ⟨f,SQ⟩:=by
  intro L args alts a h ha ho
  simp only [SQ] at h
  split at h
  · rename_i e1 x e2 y
    cases e1<;>cases e2<;>first | exact C5 h ha ho fun q=>hF _ _ _ _ (W5 q) | exact C5 h ha ho fun q=>hT _ _
  · cases h
theorem OM:cg prog Nn:=V9 Li SP
theorem SS:cg prog Qm:=by
  intro L args alts a h ha ho
  simp only [Qm] at h
  split at h
  · exact C5 h ha ho fun q=>V8 _ _ _ _
  · cases h
def L1:List bC:=[Vs,Nn,Qm]
def S1:Jb:=cX L1
theorem Xw:cR prog S1:=aZ Vt (aZ OM (aZ SS (Nh _)))
end Go.Plb.Seat
namespace Go.Plb
set_option linter.unusedSimpArgs false
set_option linter.unusedVariables false
set_option linter.unusedSectionVars false
variable [Rom]
inductive T (α:Type) where
  | fail
  | leaf (a:α)
  | ask (b:Bool) (t f:T α)
  | need (b:Bool) (t:T α)
  | alt (k:Nat) (t e:T α)
def T.run{α:Type} :T α→Option α
  | .fail=>none
  | .leaf a=>some a
  | .ask b t f=>bif b then t.run else f.run
  | .need b t=>bif b then t.run else none
  | .alt _ t e=>match t.run with
    | some a=>some a
    | none=>e.run
structure G2 (α:Type) where
  path:List Nat
  obs:List Bool
  val:α
def G2.ask{α:Type}(n:Nat)(b:Bool)(l:G2 α) :G2 α:=⟨n::l.path,b::l.obs,l.val⟩
def G2.need{α:Type}(b:Bool)(l:G2 α) :G2 α:=⟨l.path,b::l.obs,l.val⟩
def G2.alt{α:Type}(n:Nat)(l:G2 α) :G2 α:=⟨n::l.path,l.obs,l.val⟩
def T.leaves{α:Type} :T α→List (G2 α)
  | .fail=>[]
  | .leaf a=>[⟨[],[],a⟩]
  | .ask b t f=>t.leaves.map (G2.ask 1 (b==true))++f.leaves.map (G2.ask 0 (b==false))
  | .need b t=>t.leaves.map (G2.need b)
  | .alt k t e=>t.leaves.map (G2.alt k)++e.leaves
theorem xE{α:Type} :∀ (t:T α) {a:α},t.run=some a→∃ l∈t.leaves,l.val=a∧aY l.obs
  | .fail,a,h=>by cases h
  | .leaf b,a,h=>by
    simp only [T.run,Option.some.injEq] at h;subst h
    exact ⟨⟨[],[],b⟩,by simp [T.leaves],rfl,trivial⟩
  | .ask b t f,a,h=>by
    simp only [T.run] at h
    cases b with
    | true =>
      simp only [cond_true] at h
      obtain ⟨l,h1,h2,h3⟩:=xE t h
      exact ⟨l.ask 1 (true==true),by simp only [T.leaves,List.mem_append];exact .inl (List.mem_map_of_mem h1),h2,⟨rfl,h3⟩⟩
    | false =>
      simp only [cond_false] at h
      obtain ⟨l,h1,h2,h3⟩:=xE f h
      exact ⟨l.ask 0 (false==false),by simp only [T.leaves,List.mem_append];exact .inr (List.mem_map_of_mem h1),h2,⟨rfl,h3⟩⟩
  | .need b t,a,h=>by
    simp only [T.run] at h
    cases b with
    | true =>
      simp only [cond_true] at h
      obtain ⟨l,h1,h2,h3⟩:=xE t h
      exact ⟨l.need true,by simp only [T.leaves];exact List.mem_map_of_mem h1,h2,⟨rfl,h3⟩⟩
    | false=>cases h
  | .alt k t e,a,h=>by
    simp only [T.run] at h
    split at h
    · rename_i a' ht
      cases h
      obtain ⟨l,h1,h2,h3⟩:=xE t ht
      exact ⟨l.alt k,by simp only [T.leaves,List.mem_append];exact .inl (List.mem_map_of_mem h1),h2,h3⟩
    · obtain ⟨l,h1,h2,h3⟩:=xE e h
      exact ⟨l,by simp only [T.leaves,List.mem_append];exact .inr h1,h2,h3⟩
def D8{α X:Type}(N:α→aW)(E:X→AE×aW) :α⊕X→AE×aW
  | .inl a=>(.normal,N a)
  | .inr x=>E x
def Sg{α X:Type}(P:Program)(lent:List ba)(cs:List Code)(st:aW)(m:Option (α⊕X))(N:α→aW)(E:X→AE×aW) :Prop :=
  ∀ r,m=some r→nQ P lent cs st fun e st'=>(e,st')=D8 N E r
def Vu{α X:Type}(C:It)(S:Jb)(n:Nat)(cs:List Code)(st:aW)(ls:List (G2 (α⊕X)))(ks:List NS)(k:Nat) :List (Bool×Option (AE×aW×List Bool)) :=
  List.zipWith (fun l s=>(s.ok k,U4 s (T6 (rN C S 12 n) cs st (some l.path)))) ls ks
def Tv{α X:Type}(N:α→aW)(E:X→AE×aW)(ls:List (G2 (α⊕X))) :List (Bool×Option (AE×aW×List Bool)) :=
  ls.map fun l=>(true,some ((D8 N E l.val).1,(D8 N E l.val).2,l.obs))
theorem Tw{α β γ:Type}{f:α→β→γ}{g:α→γ} :∀ {l:List α} {k:List β},List.zipWith f l k=l.map g→∀ a∈l,∃ b,f a b=g a
  | [],_,_,a,ha=>by cases ha
  | x::l,[],h,a,ha=>by simp at h
  | x::l,y::k,h,a,ha=>by
    simp only [List.zipWith_cons_cons,List.map_cons,List.cons.injEq] at h
    rcases List.mem_cons.1 ha with rfl | ha
    · exact ⟨y,h.1⟩
    · exact Tw h.2 a ha
theorem Sg.seg{C:It}(hC:C.Ok){S:Jb}(hS:cR C.P S){lent:List ba}{α X:Type}(n:Nat)(cs:List Code)(st:aW)(t:T (α⊕X))(N:α→aW)(E:X→AE×aW)(ks:List NS) 
    (h:Vu C S n cs st t.leaves ks lent.length=Tv N E t.leaves):Sg C.P lent cs st t.run N E:=by
  intro r hr
  obtain ⟨l,h1,h2,h3⟩:=xE t hr
  obtain ⟨k,hk⟩:=Tw h l h1
  simp only [Prod.mk.injEq] at hk
  obtain ⟨hn,he⟩:=hk
  have:=nQ.seg hC hS (lent:=lent) (Q:=fun e st'=>(e,st')=D8 N E r) cs.length (some l.path) k (cs:=cs) (st:=st) (by rw [List.take_length];exact he) hn h3
  refine this ?_
  rw [h2,List.drop_length]
  generalize hg:D8 N E r=x
  obtain ⟨e,s⟩:=x
  cases e with
  | normal=>exact nQ.nil rfl
  | ret=>rfl
  | exit id=>rfl
theorem nQ.append{P:Program}{lent:List ba}{cs1 cs2:List Code}{st:aW}{Q1 Q:AE→aW→Prop}(h:nQ P lent cs1 st Q1)(k:∀ e st',Q1 e st'→OK P lent cs2 e st' Q) :nQ P lent (cs1++cs2) st Q:=by
  intro ρ0 w0 hN K hK a w hA
  apply Ix
  refine h ρ0 w0 hN _ ?_ a w hA
  intro e st' a' w' q hA'
  have:=k e st' q
  cases e with
  | normal=>exact this ρ0 w0 hN K hK a' w' hA'
  | ret=>exact hK _ _ _ _ this hA'
  | exit id=>exact hK _ _ _ _ this hA'
def ye{X:Type}(E:X→AE×aW) :Prop:=∀ x,(E x).1 ≠ .normal
theorem Tx{P:Program}{lent:List ba}{cs:List Code}{e:AE}{st:aW}{Q:AE→aW→Prop}(hn:e ≠ .normal)(h:Q e st) :OK P lent cs e st Q:=by
  cases e with
  | normal=>exact (hn rfl).elim
  | ret=>exact h
  | exit id=>exact h
def bd{α β X:Type}(m:Option (α⊕X))(k:α→Option (β⊕X)) :Option (β⊕X) :=
  match m with
  | none=>none
  | some (.inl a)=>k a
  | some (.inr x)=>some (.inr x)
theorem Sg.seq{P:Program}{lent:List ba}{α β X:Type}{cs1 cs2:List Code}{st:aW}{m:Option (α⊕X)}{N1:α→aW}{E:X→AE×aW}{k:α→Option (β⊕X)}{N:β→aW}(hE:ye E) 
    (h:Sg P lent cs1 st m N1 E) (hk:∀ a,Sg P lent cs2 (N1 a) (k a) N E):Sg P lent (cs1++cs2) st (bd m k) N E:=by
  intro r hr
  unfold bd at hr
  split at hr
  · cases hr
  · rename_i a
    refine nQ.append (h _ rfl) ?_
    intro e st' q
    simp only [D8,Prod.mk.injEq] at q
    obtain ⟨rfl,rfl⟩:=q
    exact hk a r hr
  · rename_i x
    simp only [Option.some.injEq] at hr;subst hr
    refine nQ.append (h _ rfl) ?_
    intro e st' q
    simp only [D8] at q
    refine Tx ?_ q
    have:=hE x
    rw [←q] at this;exact this
def Eo{σ Y:Type}(B:σ→Option (σ⊕Y)) :Nat→σ→Option Y
  | 0,_=>none
  | n+1,s=>match B s with
    | none=>none
    | some (.inl s')=>Eo B n s'
    | some (.inr y)=>some y
theorem Iz{σ Y:Type}{B:σ→Option (σ⊕Y)} :∀ (n:Nat) {s:σ} {y:Y},Eo B n s=some y→∀ m,n≤m→Eo B m s=some y
  | 0,s,y,h,_,_=>by cases h
  | n+1,s,y,h,m,hm=>by
    obtain ⟨m',rfl⟩:∃ m',m=m'+1:=⟨m-1,by omega⟩
    simp only [Eo] at h ⊢
    split at h
    · cases h
    · exact Iz n h m' (by omega)
    · exact h
open Classical in
noncomputable def cm{σ Y:Type}(B:σ→Option (σ⊕Y))(s:σ) :Option Y :=
  if h:∃ n y,Eo B n s=some y then some h.choose_spec.choose else none
theorem GX{σ Y:Type}{B:σ→Option (σ⊕Y)}{s:σ}{y:Y} :cm B s=some y↔∃ n,Eo B n s=some y:=by
  unfold cm
  constructor
  · intro h
    split at h
    · rename_i q
      simp only [Option.some.injEq] at h
      exact ⟨q.choose,by rw [←h];exact q.choose_spec.choose_spec⟩
    · cases h
  · rintro ⟨n,h⟩
    rw [dif_pos ⟨n,y,h⟩]
    generalize hq:(⟨n,y,h⟩:∃ n y,Eo B n s=some y)=q
    have h1:=q.choose_spec.choose_spec
    have a1:=Iz n h (max n q.choose) (by omega)
    have a2:=Iz _ h1 (max n q.choose) (by omega)
    rw [a1] at a2
    exact a2.symm
theorem RI{σ Y:Type}(B:σ→Option (σ⊕Y))(s:σ) :cm B s=match B s with
    | none=>none
    | some (.inl s')=>cm B s'
    | some (.inr y)=>some y:=by
  have yH:∀ y,cm B s=some y↔(match B s with | none=>none | some (.inl s')=>cm B s' | some (.inr y)=>some y)=some y:=by
    intro y
    rw [GX]
    constructor
    · rintro ⟨n,h⟩
      cases n with
      | zero=>cases h
      | succ n =>
        simp only [Eo] at h
        cases q:B s with
        | none=>rw [q] at h;cases h
        | some z=>cases z with
          | inl s'=>rw [q] at h;exact GX.2 ⟨n,h⟩
          | inr z=>rw [q] at h;exact h
    · intro h
      split at h<;>rename_i q
      · cases h
      · obtain ⟨n,hn⟩:=GX.1 h
        exact ⟨n+1,by simp only [Eo,q];exact hn⟩
      · exact ⟨1,by simp only [Eo,q];exact h⟩
  generalize (match B s with | none=>none | some (.inl s')=>cm B s' | some (.inr y)=>some y)=x at yH
  cases hl:cm B s with
  | none=>cases x with
    | none=>rfl
    | some y=>rw [(yH y).2 rfl] at hl;cases hl
  | some y=>rw [hl] at yH;exact ((yH y).1 rfl).symm
theorem RJ{σ Y:Type}{B:σ→Option (σ⊕Y)}{s s':σ}(h:B s=some (.inl s')) :cm B s=cm B s':=by rw [RI,h]
theorem Py{σ Y:Type}{B:σ→Option (σ⊕Y)}{s:σ}{y:Y}(h:B s=some (.inr y)) :cm B s=some y:=by rw [RI,h]
theorem Ua{σ Y:Type}{B:σ→Option (σ⊕Y)}(G:σ→Prop)(m:σ→Nat)(Q:Y→Prop)(h:∀ s,G s→(∃ s',B s=some (.inl s')∧G s'∧m s'<m s)∨∃ y,B s=some (.inr y)∧Q y) :
    ∀ s,G s→∃ y,cm B s=some y∧Q y:=by
  have yH:∀ n s,m s<n→G s→∃ y,cm B s=some y∧Q y:=by
    intro n
    induction n with
    | zero=>intro s q;omega
    | succ n ih =>
      intro s q hs
      rcases h s hs with ⟨s',h1,h2,h3⟩ | ⟨y,h1,h2⟩
      · obtain ⟨y,k1,k2⟩:=ih s' (by omega) h2
        exact ⟨y,by rw [RJ h1];exact k1,k2⟩
      · exact ⟨y,Py h1,h2⟩
  exact fun s hs=>yH _ s (Nat.lt_succ_self _) hs
def bW{ρ X:Type}(id:Nat)(J:ρ→aW)(E:X→AE×aW) :ρ⊕X→AE×aW
  | .inl r=>(.exit id,J r)
  | .inr x=>E x
def rB{X:Type}(id:Nat)(E:X→AE×aW) :Prop:=∀ x,(E x).1 ≠ .exit id
theorem Sg.loop{P:Program}{lent:List ba}{σ ρ X:Type}{I:σ→aW}{J:ρ→aW}{E:X→AE×aW}{B:σ→Option (σ⊕(ρ⊕X))}{id:Nat}{b:Code}(hE:ye E)(hI:rB id E) 
    (hb:∀ s,Sg P lent (cS b) (I s) (B s) I (bW id J E)) (s:σ):Sg P lent [.block id (.loop b)] (I s) (cm B s) J E:=by
  intro y hy
  obtain ⟨n,hn⟩:=GX.1 hy

  have:=nQ.loop (P:=P) (lent:=lent) (id:=id) (b:=b) (rest:=[]) (Q:=fun e st'=>(e,st')=D8 J E y) (σ:=Nat×σ) (fun s=>I s.2) (fun s=>Eo B s.1 s.2=some y) (fun s=>s.1) rfl (fun s hs=>?_) (n,s) hn
  · exact this
  · obtain ⟨n,s⟩:=s
    simp only at hs ⊢
    cases n with
    | zero=>cases hs
    | succ n =>
      simp only [Eo] at hs
      split at hs
      · cases hs
      · rename_i s' hB
        refine (hb s _ hB).mono ?_
        intro e st' q
        simp only [D8,Prod.mk.injEq] at q
        obtain ⟨rfl,rfl⟩:=q
        exact ⟨(n,s'),hs,by simp,rfl⟩
      · rename_i y' hB
        simp only [Option.some.injEq] at hs;subst hs
        refine (hb s _ hB).mono ?_
        intro e st' q
        cases y' with
        | inl r =>
          simp only [D8,bW,Prod.mk.injEq] at q
          obtain ⟨rfl,rfl⟩:=q
          simp only [Jd,if_true]
          exact nQ.nil rfl
        | inr x =>
          simp only [D8,bW] at q
          have h1:=hE x
          have h2:=hI x
          rw [←q] at h1 h2
          simp only at h1 h2
          cases e with
          | normal=>exact (h1 rfl).elim
          | ret=>exact q
          | exit j =>
            have hj : ¬ j=id:=fun h=>h2 (by rw [h])
            simp only [Jd,hj,if_false]
            exact q
def vO{κ X:Type}(m:Option (κ⊕(κ⊕X))) :Option (κ⊕X) :=
  match m with
  | none=>none
  | some (.inl a)=>some (.inl a)
  | some (.inr (.inl a))=>some (.inl a)
  | some (.inr (.inr x))=>some (.inr x)
theorem Sg.block{P:Program}{lent:List ba}{κ X:Type}{K:κ→aW}{E:X→AE×aW}{m:Option (κ⊕(κ⊕X))}{id:Nat}{b:Code}{st:aW}(hE:ye E)(hI:rB id E) 
    (hb:Sg P lent (cS b) st m K (bW id K E)):Sg P lent [.block id b] st (vO m) K E:=by
  intro r hr
  unfold vO at hr
  refine nQ.block (rest:=[]) rfl ?_
  split at hr
  · cases hr
  · simp only [Option.some.injEq] at hr;subst hr
    refine (hb _ rfl).mono ?_
    intro e st' q
    simp only [D8,Prod.mk.injEq] at q
    obtain ⟨rfl,rfl⟩:=q
    exact nQ.nil rfl
  · simp only [Option.some.injEq] at hr;subst hr
    refine (hb _ rfl).mono ?_
    intro e st' q
    simp only [D8,bW,Prod.mk.injEq] at q
    obtain ⟨rfl,rfl⟩:=q
    simp only [if_true]
    exact nQ.nil rfl
  · rename_i x
    simp only [Option.some.injEq] at hr;subst hr
    refine (hb _ rfl).mono ?_
    intro e st' q
    simp only [D8,bW] at q
    have h1:=hE x
    have h2:=hI x
    rw [←q] at h1 h2
    simp only at h1 h2
    cases e with
    | normal=>exact (h1 rfl).elim
    | ret=>exact q
    | exit j =>
      have hj : ¬ j=id:=fun h=>h2 (by rw [h])
      simp only [hj,if_false]
      exact q
theorem Sg.scope{P:Program}{lent:List ba}{α X:Type}{N:α→aW}{E:X→AE×aW}{m:Option (α⊕X)}{b:Code}{st:aW}(hE:ye E)(hb:Sg P lent (cS b) st m N E) :Sg P lent [.scope b] st m N E:=by
  intro r hr
  refine nQ.scope (rest:=[]) rfl ((hb r hr).mono ?_)
  intro e st' q
  cases r with
  | inl a =>
    simp only [D8,Prod.mk.injEq] at q
    obtain ⟨rfl,rfl⟩:=q
    exact nQ.nil rfl
  | inr x =>
    refine Tx ?_ q
    have:=hE x
    simp only [D8] at q
    rw [←q] at this;exact this
theorem RK{k:Nat}{ρ0:aH}{w0:World}{st:aW}{a:Act}{w:World}{c:Operand}{b kn:Bool}(h:At k ρ0 w0 st a w)(hc:VY st.tmps c=.bool kn b) :At k ρ0 w0 { st with tmps:=v9 st.tmps c b } a w∧a.eval c=.bool b:=by
  obtain ⟨ρ,E,W,hs,hbk,hle⟩:=h
  have hb:a.eval c=.bool b:=by
    have:=MD hs.heap.rom hs.tmps c
    rw [hc] at this
    generalize a.eval c=z at this
    cases this;rfl
  refine ⟨⟨ρ,E,W,⟨hs.defers,?_,hs.heap⟩,hbk,hle⟩,hb⟩
  cases c with
  | tmp t =>
    simp only [v9]
    have:jk ρ w (st.tmps.set t (.bool true b)) (a.tmps.toList.set t (.bool b)):=hs.tmps.set (.bool _ _) t
    have e:a.tmps.toList.set t (.bool b)=a.tmps.toList:=by
      apply List.ext_getElem?
      intro j
      rw [List.getElem?_set]
      split
      · rename_i q;subst q
        split
        · rename_i hlt
          simp only [Act.eval] at hb
          rw [Array.getD_eq_getD_getElem?] at hb
          have hlt':t<a.tmps.size:=by simpa using hlt
          rw [Array.getElem?_eq_getElem hlt'] at hb
          simp only [Option.getD_some] at hb
          simp [hlt',hb]
        · rename_i hge
          rw [List.getElem?_eq_none (by omega)]
      · rfl
    rw [e] at this;exact this
  | const v=>exact hs.tmps
  | global g=>exact hs.tmps
  | func f=>exact hs.tmps
theorem Sg.cond{P:Program}{lent:List ba}{α X:Type}{N:α→aW}{E:X→AE×aW}{m1 m2:Option (α⊕X)}{c:Operand}{A B:Code}{st:aW}{kn b:Bool}(hE:ye E)(hc:VY st.tmps c=.bool kn b) 
    (h1:Sg P lent (cS A) { st with tmps:=v9 st.tmps c true } m1 N E) (h2:Sg P lent (cS B) { st with tmps:=v9 st.tmps c false } m2 N E):Sg P lent [.cond c A B] st (bif b then m1 else m2) N E:=by
  intro r hr
  intro ρ0 w0 hN K hK a w hA
  simp only [Oz]
  obtain ⟨hA',hb⟩:=RK hA hc
  refine wp_cond hb ?_
  have Fh:∀ (D:Code) (m:Option (α⊕X)) (st1:aW),Sg P lent (cS D) st1 m N E→m=some r→At lent.length ρ0 w0 st1 a w→D.wp P (fun e a' w'=>match e with | .normal=>K .normal a' w' | e=>K e a' w') a w:=by
    intro D m st1 hS hm hA1
    refine DX D (hS r hm ρ0 w0 hN _ ?_ a w hA1)
    intro e st' a' w' q hA2
    cases e with
    | normal=>exact hK .normal st' a' w' q hA2
    | ret=>exact hK .ret st' a' w' q hA2
    | exit id=>exact hK (.exit id) st' a' w' q hA2
  cases b with
  | true=>exact Fh A m1 _ h1 hr hA'
  | false=>exact Fh B m2 _ h2 hr hA'
theorem W6{P:Program}{lent:List ba}{α X:Type}{N:α→aW}{E:X→AE×aW}{m:Option (α⊕X)}{cs:List Code}{st st1:aW}(s:NS)(hn:s.ok lent.length=true)(h1:s.on st=st1)(h:Sg P lent cs st1 m N E) :Sg P lent cs st m N E :=
  fun r hr=>nQ.weak (by rw [←h1];exact U3 hn st) (h r hr)
def toX{X:Type} :Option (Empty⊕X)→Option X
  | some (.inr x)=>some x
  | _=>none
theorem Sg.contract{P:Program}{f:FuncId}{fn:Func}{c:Code}{X:Type}{N:Empty→aW}{E:X→AE×aW}{m:Option (Empty⊕X)}{lent:List ba}{args:List AV}(keep:Bool)(o:X→rU)(hf:P.funcs[f]? = some fn)(hc:fn.body=some c) 
    (h:Sg P lent (cS c) (wa fn lent args) m N E) (hE:∀ x,Je P fn lent.length keep (o x) (E x).1 (E x).2) {x:X} (hx:toX m=some x):aI P f lent args (o x):=by
  unfold toX at hx
  split at hx
  · rename_i x'
    simp only [Option.some.injEq] at hx;subst hx
    refine nQ.contract (keep:=keep) hf hc ((h _ rfl).mono ?_)
    intro e st' q
    simp only [D8] at q
    have:=hE x'
    rw [←q] at this;exact this
  · cases hx
theorem Qn{P:Program}{f:FuncId}{fn:Func}{c:Code}{α X R:Type}{N:α→aW}{E:X→AE×aW}{m:Option (α⊕X)}{lent:List ba}{args:List AV}(keep:Bool)(o:R→rU)(g:α⊕X→R)(hf:P.funcs[f]? = some fn)(hc:fn.body=some c) 
    (h:Sg P lent (cS c) (wa fn lent args) m N E) (hN:∀ a,Je P fn lent.length keep (o (g (.inl a))) .normal (N a)) (hE:∀ x,Je P fn lent.length keep (o (g (.inr x))) (E x).1 (E x).2) {x:R} (hx:Option.map g m=some x):aI P f lent args (o x):=by
  obtain ⟨r,hr,rfl⟩:=Option.map_eq_some_iff.1 hx
  refine nQ.contract (keep:=keep) hf hc ((h _ hr).mono ?_)
  intro e st' q
  cases r with
  | inl a =>
    simp only [D8] at q
    cases q
    exact hN a
  | inr x' =>
    simp only [D8] at q
    have:=hE x'
    rw [←q] at this;exact this
end Go.Plb
namespace Go.Plb
set_option linter.unusedSectionVars false
variable [Rom]
theorem ao{ρ X:Type}{id:Nat}{J:ρ→aW}{E:X→AE×aW}(h:ye E) :ye (bW id J E):=by
  intro x
  cases x with
  | inl r=>intro q;cases q
  | inr x=>exact h x
theorem bY{ρ X:Type}{id j:Nat}{J:ρ→aW}{E:X→AE×aW}(hj:(j==id)=false)(h:rB id E) :rB id (bW j J E):=by
  intro x
  cases x with
  | inl r =>
    intro q
    simp only [bW,AE.exit.injEq] at q
    subst q
    simp at hj
  | inr x=>exact h x
def dh:Code→Code
  | .block _ (.loop b)=>b
  | _=>.skip
def inBlock:Code→Code
  | .block _ b=>b
  | _=>.skip
def Tz:Code→Code
  | .scope b=>b
  | _=>.skip
def IA:Code→Code
  | .cond _ a _=>a
  | _=>.skip
def No:Code→Code
  | .cond _ _ b=>b
  | _=>.skip
theorem Sg.cut{P:Program}{lent:List ba}{α β X:Type}{cs:List Code}{st:aW}{m:Option (α⊕X)}{N1:α→aW}{E:X→AE×aW}{k:α→Option (β⊕X)}{N:β→aW}(n:Nat)(hE:ye E) 
    (h:Sg P lent (cs.take n) st m N1 E) (hk:∀ a,Sg P lent (cs.drop n) (N1 a) (k a) N E):Sg P lent cs st (bd m k) N E:=by
  have:=Sg.seq hE h hk
  rwa [List.take_append_drop] at this
theorem Ub{P:Program}{lent:List ba}{σ ρ X:Type}{I:σ→aW}{J:ρ→aW}{E:X→AE×aW}{B:σ→Option (σ⊕(ρ⊕X))}{id:Nat}{b:Code}{cs:List Code}(hcs:cs=[.block id (.loop b)])(hE:ye E)(hI:rB id E) 
    (hb:∀ s,Sg P lent (cS b) (I s) (B s) I (bW id J E)) (s:σ):Sg P lent cs (I s) (cm B s) J E:=by rw [hcs];exact Sg.loop hE hI hb s
theorem ST{P:Program}{lent:List ba}{κ X:Type}{K:κ→aW}{E:X→AE×aW}{m:Option (κ⊕(κ⊕X))}{id:Nat}{b:Code}{st:aW}{cs:List Code}(hcs:cs=[.block id b])(hE:ye E)(hI:rB id E) 
    (hb:Sg P lent (cS b) st m K (bW id K E)):Sg P lent cs st (vO m) K E:=by rw [hcs];exact Sg.block hE hI hb
theorem SU{P:Program}{lent:List ba}{α X:Type}{N:α→aW}{E:X→AE×aW}{m:Option (α⊕X)}{b:Code}{st:aW}{cs:List Code}(hcs:cs=[.scope b])(hE:ye E)(hb:Sg P lent (cS b) st m N E) :Sg P lent cs st m N E:=by
  rw [hcs];exact Sg.scope hE hb
theorem C7{P:Program}{lent:List ba}{α X:Type}{N:α→aW}{E:X→AE×aW}{m1 m2:Option (α⊕X)}{c:Operand}{A B:Code}{st:aW}{kn b:Bool}{cs:List Code}(hcs:cs=[.cond c A B])(hE:ye E)(hc:VY st.tmps c=.bool kn b) 
    (h1:Sg P lent (cS A) { st with tmps:=v9 st.tmps c true } m1 N E) (h2:Sg P lent (cS B) { st with tmps:=v9 st.tmps c false } m2 N E):Sg P lent cs st (bif b then m1 else m2) N E:=by rw [hcs];exact Sg.cond hE hc h1 h2
end Go.Plb
namespace Go.Plb.Seat
open Go Go.Plb
set_option linter.unusedSimpArgs false
set_option linter.unusedVariables false
set_option maxRecDepth 100000
def fw(n:Nat) :Bool:=Nat.ble n 1000000000
noncomputable def Xx:Empty→aW:=fun a=>a.elim
noncomputable def Xy:Unit→AE×aW:=fun _=>(.ret,⟨aw 8 [(2,.sl 0 1 1 0 0 0)],[(0,.fl [])],1⟩)
noncomputable def XN:Unit→rU:=fun _=>⟨.sl 0 1 1 0 0 0,[some (.fl [])]⟩
theorem Wa:aI prog fK [] [.zsl true] ⟨.sl 0 1 1 0 0 0,[some (.fl [])]⟩ :=
  Sg.contract (x:=()) (X:=Unit) (N:=Xx) (E:=Xy) (m:=some (.inr ())) false XN (by kernel_rfl:prog.funcs[fK]? = some (FN fK)) (by kernel_rfl:(FN fK).body=some (ri fK))
    (Sg.seg (C:=C0) Hz Lh 60 (cS (ri fK)) (wa (FN fK) [] [.zsl true]) (.leaf (.inr ())) Xx Xy [⟨[(.slot 2,.own 1 1 (.fl []))],[64],[2]⟩] (by kernel_rfl))
    (fun _=>⟨.inr rfl,[.sl 0 1 1 0 0 0],[],by kernel_rfl,trivial,by kernel_rfl⟩) rfl
theorem Vv:aI prog fK [] [.zsl false] ⟨.sl 0 1 1 0 0 0,[some (.fl [])]⟩ :=
  aI.run Hz Lh (some []) 0 60 (p':=some []) (obs:=[]) (by kernel_rfl) XT
theorem Wb(l:Lv) :aI prog fK [] [.imm l (.fl []) 1 1 0 0] ⟨.sl 0 1 1 0 0 0,[some (.fl [])]⟩:=by
  intro ρ w us hN hv
  cases hv with | cons _ u _ _ h1 h2 =>
  cases h2
  have yH:∀ (a:Option Addr) cap,jk ρ w [.zsl a.isNone] [.slice a 0 cap]:=fun a cap=>.cons _ _ _ _ (.zsl a cap) .nil
  have all:∀ b,aI prog fK [] [.zsl b] ⟨.sl 0 1 1 0 0 0,[some (.fl [])]⟩:=fun b=>by
    cases b
    · exact Vv
    · exact Wa
  cases h1 with
  | imm _ _ _ _ _ _ cap bl o u'=>exact all _ ρ w _ hN (yH _ cap)
  | immEnd _ _ _ _ _ cap a=>exact all _ ρ w _ hN (yH a cap)
theorem Wc(l:Lv)(xs:List Nat)(hl:xs.length≤1000000000) :aI prog fK [] [.imm l (.fl xs) 1 1 0 xs.length] ⟨.sl 0 1 1 0 xs.length xs.length,[some (.fl xs)]⟩:=by
  rcases Nat.eq_zero_or_pos xs.length with h0 | h0
  · have:xs=[]:=List.length_eq_zero_iff.1 h0
    subst this
    exact Wb l
  · have h:El C0 E0 (rN C0 E0 0 60) fK [] [.imm l (.fl xs) 1 1 0 xs.length] (some [])=some (⟨.sl 0 1 1 0 (0+xs.length) (0+xs.length),[some (.fl (List.take 0 []++List.take xs.length xs))]⟩,
        [Nat.blt 0 xs.length,kj ((0+xs.length)*8) 140737488355328,kj (0+xs.length) 9223372036854775807,kj xs.length xs.length,kj 0 ([]:List Nat).length],some []):=by kernel_rfl
    have:=aI.run Hz Lh _ _ _ h (ob (by rw [Nat.blt_eq];exact h0)<|ob (by simp [kj];omega)<|ob (by simp [kj];omega)<|ob (by simp [kj])<|ob rfl XT)
    simp only [Nat.zero_add,List.take_zero,List.nil_append,List.take_length] at this
    exact this
noncomputable def TA:bC:=mW fK (.cons .fl .nil) fun t=>[⟨⟨.sl 0 1 1 0 t.1.2.length t.1.2.length,[some (.fl t.1.2)]⟩,[fw t.1.2.length]⟩]
theorem SV:cg prog TA:=ff fun t=>fg (fun h=>Wc t.1.1 t.1.2 (Nat.le_of_ble_eq_true h)) gr
noncomputable def XU:List bC:=TA::L1
theorem W7:cR prog (cX XU):=aZ SV Xw
noncomputable def L2:List bC:=XU
theorem Xz:cR prog (cX L2):=W7
end Go.Plb.Seat
namespace Go.Plb.Seat
open Go Go.Plb
set_option linter.unusedSimpArgs false
set_option linter.unusedVariables false
theorem aI.nan{f:FuncId}{g:Nat→rU}{r:rU}(h:∀ n:Nat,aI prog f [] [.int .u64 (n:Int)] (g n))(e:∀ n:Nat,isNaN n=true→g n=r) :aI prog f [] [.nan] r:=by
  intro ρ w us hN hv
  cases hv with | cons _ u _ _ h1 h2 =>
  cases h2
  cases h1 with | nan n hn =>
  rw [←e n hn]
  exact h n ρ w _ hN (.cons _ _ _ _ (.int _ _) .nil)
noncomputable def L3:List bC:=L2
theorem WQ:cR prog (cX L3):=Xz
end Go.Plb.Seat
namespace Go.Plb.Seat
open Go Go.Plb
set_option linter.unusedVariables false
set_option maxRecDepth 100000
theorem cy{S:Jb}(hS:cR prog S){lent:List ba}{α X:Type}{cs:List Code}{st:aW}{t:T (α⊕X)}(N:α→aW){E:X→AE×aW}(ks:List NS) 
    (h:Vu C0 S 60 cs st t.leaves ks lent.length=Tv N E t.leaves:=by kernel_rfl):Sg prog lent cs st t.run N E:=Sg.seg Hz hS 60 cs st t N E ks h
theorem yB{lent:List ba}{σ ρ X:Type}{cs:List Code}{st:aW}{E:X→AE×aW}{B:σ→Option (σ⊕(ρ⊕X))}{ent:σ}(s:NS)(I:σ→aW)(J:ρ→aW)(id:Nat)(hE:ye E)(hI:rB id E) 
    (hb:∀ a,Sg prog lent (cS (dh (cs.headD .skip))) (I a) (B a) I (bW id J E)) (hn:s.ok lent.length=true:=by exact rfl) (h1:s.on st=I ent:=by kernel_rfl) (hcs:cs=[.block id (.loop (dh (cs.headD .skip)))]:=by kernel_rfl) :
    Sg prog lent cs st (cm B ent) J E:=W6 s hn h1 (Ub hcs hE hI hb ent)
theorem UG{lent:List ba}{κ X:Type}{cs:List Code}{st:aW}{E:X→AE×aW}{m:Option (κ⊕(κ⊕X))}(K:κ→aW)(id:Nat)(hE:ye E)(hI:rB id E) 
    (hb:Sg prog lent (cS (inBlock (cs.headD .skip))) st m K (bW id K E)) (hcs:cs=[.block id (inBlock (cs.headD .skip))]:=by kernel_rfl):Sg prog lent cs st (vO m) K E:=ST hcs hE hI hb
def G3:Empty→aW:=fun a=>a.elim
theorem Fi{fn:Func}{k:Nat}{keep:Bool}{o:rU}{st:aW}(vs:List AV)(h1:qz prog fn st fn.results.toList=some (vs,[]):=by kernel_rfl)(h2:La k keep st.heap (Iv vs)=some o:=by kernel_rfl) :Je prog fn k keep o .ret st :=
  ⟨.inr rfl,vs,[],h1,trivial,h2⟩
theorem IB{f:FuncId}{X:Type}{m:Option (Empty⊕X)}{lent:List ba}{args:List AV}{x:X}(keep:Bool)(o:X→rU)(E:X→AE×aW)(hx:toX m=some x) 
    (h:Sg prog lent (cS (ri f)) (wa (FN f) lent args) m G3 E) (hE:∀ x,Je prog (FN f) lent.length keep (o x) (E x).1 (E x).2)
    (hf:prog.funcs[f]? = some (FN f):=by kernel_rfl) (hc:(FN f).body=some (ri f):=by kernel_rfl):aI prog f lent args (o x) :=
  Sg.contract (P:=prog) (f:=f) (fn:=FN f) (c:=ri f) (N:=G3) (E:=E) (lent:=lent) (args:=args) keep o hf hc h hE hx
theorem LB{fn:Func}{k:Nat}{keep:Bool}{o:rU}{st:aW}(vs:List AV)(h1:qz prog fn st fn.results.toList=some (vs,[]):=by kernel_rfl)(h2:La k keep st.heap (Iv vs)=some o:=by kernel_rfl) :Je prog fn k keep o .normal st :=
  ⟨.inl rfl,vs,[],h1,trivial,h2⟩
theorem LC{f:FuncId}{α X R:Type}{m:Option (α⊕X)}{lent:List ba}{args:List AV}{x:R}(keep:Bool)(o:R→rU)(N:α→aW)(E:X→AE×aW)(g:α⊕X→R)(hx:Option.map g m=some x) 
    (h:Sg prog lent (cS (ri f)) (wa (FN f) lent args) m N E) (hN:∀ a,Je prog (FN f) lent.length keep (o (g (.inl a))) .normal (N a)) (hE:∀ x,Je prog (FN f) lent.length keep (o (g (.inr x))) (E x).1 (E x).2)
    (hf:prog.funcs[f]? = some (FN f):=by kernel_rfl) (hc:(FN f).body=some (ri f):=by kernel_rfl):aI prog f lent args (o x) :=
  Qn (P:=prog) (f:=f) (fn:=FN f) (c:=ri f) (N:=N) (E:=E) (lent:=lent) (args:=args) keep o g hf hc h hN hE hx
theorem X0{lent:List ba}{A B α X:Type}{cs:List Code}{N:α→aW}{E:X→AE×aW}{N0:A→aW}{N1:B→aW}{f0:A→Option (α⊕X)}{f1:B→Option (α⊕X)} 
    (h0:∀ a,Sg prog lent cs (N0 a) (f0 a) N E) (h1:∀ b,Sg prog lent cs (N1 b) (f1 b) N E):∀ x,Sg prog lent cs (Sum.elim N0 N1 x) (Sum.elim f0 f1 x) N E
  | .inl a=>h0 a
  | .inr b=>h1 b
end Go.Plb.Seat
namespace Go.Plb.Seat
open Go Go.Plb
set_option linter.unusedSimpArgs false
set_option linter.unusedVariables false
def XO:Option (rU×List Bool×nO)→Bool
  | some (⟨.bool _ true,[]⟩,o,_)=>TT o
  | _=>false
theorem Vw{r:Option (rU×List Bool×nO)}(h:XO r=true) :∃ k o p,r=some (⟨.bool k true,[]⟩,o,p)∧aY o:=by
  unfold XO at h
  split at h
  · exact ⟨_,_,_,rfl,Pq h⟩
  · cases h
theorem Uc:XO (El C0 (cX L3) (rN C0 (cX L3) 50 100) BN [] [] none)=true:=by kernel_rfl
theorem We:aI prog BN [] [] ⟨.bool false true,[]⟩:=by
  obtain ⟨k,o,p,h,ho⟩:=Vw Uc
  exact (aI.run Hz WQ none _ _ h ho).weak (Ni _ _ _)
def Qo:bC:=⟨BN,fun L args=>match L,args with | [],[]=>one (.bool false true) [] | _,_=>none⟩
theorem SW:cg prog Qo:=by
  intro L args alts a h ha ho
  simp only [Qo] at h
  split at h
  · exact C5 h ha ho fun q=>We
  · cases h
noncomputable def XA:List bC:=Qo::L3
theorem Qp:cR prog (cX XA):=aZ SW WQ
end Go.Plb.Seat
namespace Go.Plb.Seat
open Go Go.Plb
set_option linter.unusedVariables false
set_option maxRecDepth 100000
noncomputable section
inductive pU where
  | r0 (a:Bool)
def Lj:pU→AE×aW
  | .r0 a=>(.ret,⟨aw 31 [(2,.bool false a)],[],0⟩)
theorem Qq:ye Lj:=by intro x;cases x<;>(intro h;cases h)
def FF:pU→rU
  | .r0 a=>⟨.bool false a,[]⟩
def Qr(a:Bool) :aW:=⟨aw 31 [(2,.bool false a)],[],0⟩
def Ji(a:List Nat)(b:List Nat) :T ((Bool)⊕(pU)) :=
  .ask (decide ((((List.length a):Nat):Int)≤(512:Int)))
    (.ask ((((List.length a):Nat):Int)==(0:Int))
      (.ask ((((List.length b):Nat):Int)==(0:Int))
        (.leaf (.inl true))
        (.ask (decide ((((List.length a):Nat):Int)>(0:Int)))
          (.need (fq .i64 ((((List.length a):Nat):Int)-(1:Int)))<|.leaf (.inl ((((List.length b):Nat):Int)==((((List.length a):Nat):Int)-(1:Int)))))
          (.leaf (.inl false))))
      (.ask (decide ((((List.length a):Nat):Int)>(0:Int)))
        (.need (fq .i64 ((((List.length a):Nat):Int)-(1:Int)))<|.leaf (.inl ((((List.length b):Nat):Int)==((((List.length a):Nat):Int)-(1:Int)))))
        (.leaf (.inl false))))
    (.leaf (.inl false))
def Qs(a:Bool) :T ((Empty)⊕(pU)) :=
  .leaf (.inr (.r0 a))
def qJ(a:List Nat)(b:List Nat) :Option pU:=toX (bd ((Ji a b).run) fun c =>
  (Qs c).run)
theorem Qt(c:Lv)(a:List Nat)(d:Lv)(b:List Nat){x:pU}(h:qJ a b=some x) :aI prog Lg [] [.agg [.imm c (.fl a) 1 1 0 (List.length a),.imm d (.fl b) 1 1 0 (List.length b)]] (FF x) :=
  IB false FF Lj h (Sg.cut 3 Qq (cy Qp Qr [⟨[],[],[2]⟩,⟨[],[],[2]⟩,⟨[],[],[2]⟩,⟨[],[],[2]⟩,⟨[],[],[2]⟩,⟨[],[],[2]⟩]) (fun f=>cy Qp G3 [⟨[],[],[2]⟩]))
    (fun x=>by cases x with | r0 e=>exact Fi [.bool false e])
def sU:Option pU→Bool
  | some _=>true
  | none=>false
def sb:Option pU→Bool
  | some (.r0 x)=>x
  | _=>false
theorem Qu{x:Option pU}(h:sU x=true) :x=some (.r0 (sb x)):=by
  unfold sU at h
  split at h<;>first | rfl | (cases h;done) | (rename_i y;cases y;rfl)
def Lk:bC:=mW Lg (.cons (.agg (.cons .fl (.cons .fl .nil))) .nil) fun t=>(fun q=>[⟨FF (.r0 (sb q)),[sU q]⟩]) (qJ t.1.1.2 t.1.2.1.2)
theorem Np:cg prog Lk:=ff fun t=>(fg (fun h=>Qt t.1.1.1 t.1.1.2 t.1.2.1.1 t.1.2.1.2 (Qu h)) gr)
def Ll:List bC:=Lk::XA
theorem wh:cR prog (cX Ll):=aZ Np Qp
inductive im where
  | r0 (a:Bool)
def wi:im→AE×aW
  | .r0 a=>(.ret,⟨aw 20 [(2,.bool false a)],[],0⟩)
theorem yN:ye wi:=by intro x;cases x<;>(intro h;cases h)
theorem LD(id:Nat) :rB id wi:=by intro x;cases x<;>(intro h;cases h)
def z6:im→rU
  | .r0 a=>⟨.bool false a,[]⟩
def LE:List Code:=cS (ri zZ)
def LF(b:Lv)(a:List Nat)(_:Unit) :aW:=⟨aw 20 [(0,.imm b (.fl a) 1 1 0 (List.length a)),(3,.int .i64 (0:Int))],[],0⟩
def LG:T ((Unit)⊕(im)) :=
  .leaf (.inl ())
def vn(b:Lv)(a:List Nat)(c:Nat) :aW:=⟨aw 20 [(0,.imm b (.fl a) 1 1 0 (List.length a)),(3,.int .i64 ((c:Nat):Int))],[],0⟩
def Ep(_:Unit) :aW:=⟨aw 20 [],[],0⟩
def LH:List Code:=cS (dh ((((LE.drop 2).take 1)).headD .skip))
def rj(b:List Nat)(a:Nat) :T ((Nat)⊕((Unit)⊕(im))) :=
  .ask (decide (((a:Nat):Int)<(((List.length b):Nat):Int)))
    (.need (fU ((a:Nat):Int) (List.length b))<|.need (fi a (List.length b))<|.need (fU ((a:Nat):Int) (List.length b))<|.need (fi a (List.length b))<|.ask (zI (kZ (List.getD b a 0) (List.getD b a 0)) 0)
      (.leaf (.inr (.inr (.r0 false))))
      (.need (fq .i64 (((a+1):Nat):Int))<|.leaf (.inl (a+1))))
    (.leaf (.inr (.inl ())))
def sV(a:List Nat) :Nat→Option ((Nat)⊕((Unit)⊕(im))):=fun b =>
  (rj a b).run
theorem Ka(b:Lv)(a:List Nat)(c:Nat) :Sg prog [] LH (vn b a c) (sV a c) (vn b a) (bW 0 Ep wi):=by
  unfold sV;exact cy wh (vn b a) [⟨[],[],[2]⟩,⟨[],[],[0,3]⟩,⟨[],[],[]⟩]
def Kb:T ((Empty)⊕(im)) :=
  .leaf (.inr (.r0 true))
def io(a:List Nat) :Option im:=toX (bd ((LG).run) fun _ =>
  bd (cm (sV a) 0) fun _ =>
  (Kb).run)
theorem LI(b:Lv)(a:List Nat){x:im}(h:io a=some x) :aI prog zZ [] [.imm b (.fl a) 1 1 0 (List.length a)] (z6 x) :=
  IB false z6 wi h (Sg.cut 2 yN (cy wh (LF b a) [⟨[],[],[0,3]⟩]) (fun _=>Sg.cut 1 yN (yB ⟨[],[],[0,3]⟩ (vn b a) (Ep) 0 yN (LD _) (fun c=>Ka b a c)) (fun _=>cy wh G3 [⟨[],[],[2]⟩])))
    (fun x=>by cases x with | r0 d=>exact Fi [.bool false d])
def jI:Option im→Bool
  | some _=>true
  | none=>false
def js:Option im→Bool
  | some (.r0 x)=>x
  | _=>false
theorem LJ{x:Option im}(h:jI x=true) :x=some (.r0 (js x)):=by
  unfold jI at h
  split at h<;>first | rfl | (cases h;done) | (rename_i y;cases y;rfl)
def FG:bC:=mW zZ (.cons .fl .nil) fun t=>(fun q=>[⟨z6 (.r0 (js q)),[jI q]⟩]) (io t.1.2)
theorem Jj:cg prog FG:=ff fun t=>(fg (fun h=>LI t.1.1 t.1.2 (LJ h)) gr)
def FH:List bC:=FG::Ll
theorem wj:cR prog (cX FH):=aZ Jj wh
inductive kC where
  | r0 (a:Bool)
def HA:kC→AE×aW
  | .r0 a=>(.ret,⟨aw 18 [(2,.bool false a)],[],0⟩)
theorem Nq:ye HA:=by intro x;cases x<;>(intro h;cases h)
def BW:kC→rU
  | .r0 a=>⟨.bool false a,[]⟩
def Nr(a:Bool) :aW:=⟨aw 18 [(2,.bool false a)],[],0⟩
def FI(a:List Nat)(b:List Nat) :T ((Bool)⊕(kC)) :=
  .ask (decide ((((List.length a):Nat):Int)≤(512:Int)))
    (.need (fq .i64 ((((List.length a):Nat):Int)-(1:Int)))<|.leaf (.inl ((((List.length b):Nat):Int)==(V1 ((((List.length a):Nat):Int)-(1:Int)) (0:Int)))))
    (.leaf (.inl false))
def Ns(a:Bool) :T ((Empty)⊕(kC)) :=
  .leaf (.inr (.r0 a))
def qd(a:List Nat)(b:List Nat) :Option kC:=toX (bd ((FI a b).run) fun c =>
  (Ns c).run)
theorem Nt(c:Lv)(a:List Nat)(d:Lv)(b:List Nat){x:kC}(h:qd a b=some x) :aI prog Hx [] [.agg [.imm c (.fl a) 1 1 0 (List.length a),.imm d (.fl b) 1 1 0 (List.length b)]] (BW x) :=
  IB false BW HA h (Sg.cut 2 Nq (cy wj Nr [⟨[],[],[2]⟩,⟨[],[],[2]⟩]) (fun f=>cy wj G3 [⟨[],[],[2]⟩]))
    (fun x=>by cases x with | r0 e=>exact Fi [.bool false e])
def sc:Option kC→Bool
  | some _=>true
  | none=>false
def sW:Option kC→Bool
  | some (.r0 x)=>x
  | _=>false
theorem Nu{x:Option kC}(h:sc x=true) :x=some (.r0 (sW x)):=by
  unfold sc at h
  split at h<;>first | rfl | (cases h;done) | (rename_i y;cases y;rfl)
def HB:bC:=mW Hx (.cons (.agg (.cons .fl (.cons .fl .nil))) .nil) fun t=>(fun q=>[⟨BW (.r0 (sW q)),[sc q]⟩]) (qd t.1.1.2 t.1.2.1.2)
theorem Kc:cg prog HB:=ff fun t=>(fg (fun h=>Nt t.1.1.1 t.1.1.2 t.1.2.1.1 t.1.2.1.2 (Nu h)) gr)
def HC:List bC:=HB::FH
theorem sX:cR prog (cX HC):=aZ Kc wj
inductive bf where
  | r0 (a:Int)
def fJ:bf→AE×aW
  | .r0 a=>(.ret,⟨aw 19 [(4,.int .i64 a)],[],0⟩)
theorem iF:ye fJ:=by intro x;cases x<;>(intro h;cases h)
theorem sY(id:Nat) :rB id fJ:=by intro x;cases x<;>(intro h;cases h)
def iP:bf→rU
  | .r0 a=>⟨.int .i64 a,[]⟩
def sZ:List Code:=cS (ri fY)
def ta(b:Lv)(a:List Nat)(_:Unit) :aW:=⟨aw 19 [(0,.imm b (.fl a) 1 1 0 (List.length a)),(1,.fn (.func sT) [] []),(7,.int .i64 (((List.length a):Nat):Int)),(8,.int .i64 (0:Int))],[],0⟩
def tc:T ((Unit)⊕(bf)) :=
  .leaf (.inl ())
def fu(b:Lv)(a:List Nat)(c:Nat) :aW:=⟨aw 19 [(0,.imm b (.fl a) 1 1 0 (List.length a)),(1,.fn (.func sT) [] []),(7,.int .i64 (((List.length a):Nat):Int)),(8,.int .i64 ((c:Nat):Int))],[],0⟩
def lq(_:Unit) :aW:=⟨aw 19 [],[],0⟩
def td:List Code:=cS (dh ((((sZ.drop 2).take 1)).headD .skip))
def dp(b:List Nat)(a:Nat) :T ((Nat)⊕((Unit)⊕(bf))) :=
  .ask (decide (((a:Nat):Int)<(((List.length b):Nat):Int)))
    (.need (fU ((a:Nat):Int) (List.length b))<|.need (fi a (List.length b))<|.ask (zI (List.getD b a 0) (List.getD b a 0))
      (.leaf (.inr (.inr (.r0 ((a:Nat):Int)))))
      (.ask ((0:Int)==(0:Int))
        (.ask (KT (eY (List.getD b a 0)) 9218868437227405311)
          (.leaf (.inr (.inr (.r0 ((a:Nat):Int)))))
          (.need (fq .i64 (((a+1):Nat):Int))<|.leaf (.inl (a+1))))
        (.fail)))
    (.leaf (.inr (.inl ())))
def fk(a:List Nat) :Nat→Option ((Nat)⊕((Unit)⊕(bf))):=fun b =>
  (dp a b).run
theorem sd(b:Lv)(a:List Nat)(c:Nat) :Sg prog [] td (fu b a c) (fk a c) (fu b a) (bW 0 lq fJ):=by
  unfold fk;exact cy sX (fu b a) [⟨[],[],[4]⟩,⟨[],[],[4]⟩,⟨[],[],[0,1,7,8]⟩,⟨[],[],[]⟩]
def se:T ((Empty)⊕(bf)) :=
  .leaf (.inr (.r0 (-1:Int)))
def ca(a:List Nat) :Option bf:=toX (bd ((tc).run) fun _ =>
  bd (cm (fk a) 0) fun _ =>
  (se).run)
theorem te(b:Lv)(a:List Nat){x:bf}(h:ca a=some x) :aI prog fY [] [.imm b (.fl a) 1 1 0 (List.length a),.fn (.func sT) [] []] (iP x) :=
  IB false iP fJ h (Sg.cut 2 iF (cy sX (ta b a) [⟨[],[],[0,1,7,8]⟩]) (fun _=>Sg.cut 1 iF (yB ⟨[],[],[0,1,7,8]⟩ (fu b a) (lq) 0 iF (sY _) (fun c=>sd b a c)) (fun _=>cy sX G3 [⟨[],[],[4]⟩])))
    (fun x=>by cases x with | r0 d=>exact Fi [.int .i64 d])
def dq:Option bf→Bool
  | some _=>true
  | none=>false
def ct:Option bf→Int
  | some (.r0 x)=>x
  | _=>0
theorem tf{x:Option bf}(h:dq x=true) :x=some (.r0 (ct x)):=by
  unfold dq at h
  split at h<;>first | rfl | (cases h;done) | (rename_i y;cases y;rfl)
def lK:bC:=mW fY (.cons .fl (.cons (.fn sT .nil .nil) .nil)) fun t=>(fun q=>[⟨iP (.r0 (ct q)),[dq q]⟩]) (ca t.1.2)
theorem rV:cg prog lK:=ff fun t=>(fg (fun h=>te t.1.1 t.1.2 (tf h)) gr)
def lL:List bC:=lK::HC
theorem gU:cR prog (cX lL):=aZ rV sX
inductive kD where
  | r0 (a:Nat)
def HD:kD→AE×aW
  | .r0 a=>(.ret,⟨aw 18 [(2,.int .i64 ((a:Nat):Int))],[],0⟩)
theorem Nv:ye HD:=by intro x;cases x<;>(intro h;cases h)
def BX:kD→rU
  | .r0 a=>⟨.int .i64 ((a:Nat):Int),[]⟩
def Nw(_:Unit) :aW:=⟨aw 18 [],[],0⟩
def z7(a:List Nat)(b:List Nat) :T ((Unit)⊕(kD)) :=
  .need (dg 0 (List.length a) a)<|.need (dg 0 (List.length b) b)<|.need (sc (qd (az 0 (List.length a) a) (az 0 (List.length b) b)))<|.ask (!(sW (qd (az 0 (List.length a) a) (az 0 (List.length b) b))))
    (.leaf (.inr (.r0 2)))
    (.need (dg 0 (List.length a) a)<|.need (dq (ca (az 0 (List.length a) a)))<|.ask (!(!(decide ((ct (ca (az 0 (List.length a) a)))≥(0:Int)))))
      (.leaf (.inr (.r0 10)))
      (.need (dg 0 (List.length b) b)<|.need (dq (ca (az 0 (List.length b) b)))<|.ask (!(!(decide ((ct (ca (az 0 (List.length b) b)))≥(0:Int)))))
        (.leaf (.inr (.r0 10)))
        (.leaf (.inl ()))))
def Nx:T ((Empty)⊕(kD)) :=
  .leaf (.inr (.r0 0))
def uC(a:List Nat)(b:List Nat) :Option kD:=toX (bd ((z7 a b).run) fun _ =>
  (Nx).run)
theorem Ny(c:Lv)(a:List Nat)(d:Lv)(b:List Nat){x:kD}(h:uC a b=some x) :aI prog Hw [] [.agg [.imm c (.fl a) 1 1 0 (List.length a),.imm d (.fl b) 1 1 0 (List.length b)]] (BX x) :=
  IB false BX HD h (Sg.cut 2 Nv (cy gU Nw [⟨[],[],[2]⟩,⟨[],[],[2]⟩,⟨[],[],[2]⟩,⟨[],[],[]⟩]) (fun _=>cy gU G3 [⟨[],[],[2]⟩]))
    (fun x=>by cases x with | r0 e=>exact Fi [.int .i64 ((e:Nat):Int)])
def wk:Option kD→Bool
  | some _=>true
  | none=>false
def xF:Option kD→Nat
  | some (.r0 x)=>x
  | _=>0
theorem Nz{x:Option kD}(h:wk x=true) :x=some (.r0 (xF x)):=by
  unfold wk at h
  split at h<;>first | rfl | (cases h;done) | (rename_i y;cases y;rfl)
def HE:bC:=mW Hw (.cons (.agg (.cons .fl (.cons .fl .nil))) .nil) fun t=>(fun q=>[⟨BX (.r0 (xF q)),[wk q]⟩]) (uC t.1.1.2 t.1.2.1.2)
theorem Kd:cg prog HE:=ff fun t=>(fg (fun h=>Ny t.1.1.1 t.1.1.2 t.1.2.1.1 t.1.2.1.2 (Nz h)) gr)
def HF:List bC:=HE::lL
theorem tg:cR prog (cX HF):=aZ Kd gU
inductive jn where
  | r0 (a:Int) (b:Nat) (c:List Nat)
def Bw:jn→AE×aW
  | .r0 a b c=>(.ret,⟨aw 21 [(2,.ptr 0 1 0 0)],[(0,.vs [.int .i64 a,.int .i64 a,.sl 1 1 1 0 b b]),(1,.fl c)],2⟩)
theorem D9:ye Bw:=by intro x;cases x<;>(intro h;cases h)
theorem Qv(id:Nat) :rB id Bw:=by intro x;cases x<;>(intro h;cases h)
def FJ:jn→rU
  | .r0 a b c=>⟨.agg [.int .i64 a,.int .i64 a,.sl 0 1 1 0 b b],[some (.fl c)]⟩
def Qw:List Code:=cS (ri FB)
def Qx(a:Int) :Nat×(List Nat)→aW:=fun (b,c)=>⟨aw 21 [(0,.int .i64 a),(2,.ptr 0 1 0 0),(3,.ptr 1 1 0 0),(7,.int .i64 a),(8,.int .i64 (0:Int))],[(0,.vs [.int .i64 (0:Int),.int .i64 (0:Int),.nsl]),(1,.vs [.int .i64 a,.int .i64 a,.sl 2 1 1 0 b b]),(2,.fl c)],3⟩
def Jk(a:Int) :T ((Nat×(List Nat))⊕(jn)) :=
  .need (fq .i64 (a*a))<|.need (decide ((0:Int)≤(a*a)))<|.need (decide ((a*a)≤(a*a)))<|.need (decide ((8:Int)*(a*a)≤140737488355328))<|.need (fq .i64 (a*a))<|.leaf (.inl ((Int.toNat (a*a)),(List.replicate (Int.toNat (a*a)) 0)))
def zz(a:Int)(b:Nat) :Nat×(List Nat)→aW:=fun (c,d)=>⟨aw 21 [(0,.int .i64 a),(2,.ptr 0 1 0 0),(3,.ptr 1 1 0 0),(7,.int .i64 a),(8,.int .i64 ((c:Nat):Int))],[(0,.vs [.int .i64 (0:Int),.int .i64 (0:Int),.nsl]),(1,.vs [.int .i64 a,.int .i64 a,.sl 2 1 1 0 b b]),(2,.fl d)],3⟩
def Jl(a:Int)(b:Nat)(c:(List Nat)) :aW:=⟨aw 21 [(2,.ptr 0 1 0 0),(3,.ptr 1 1 0 0)],[(0,.vs [.int .i64 (0:Int),.int .i64 (0:Int),.nsl]),(1,.vs [.int .i64 a,.int .i64 a,.sl 2 1 1 0 b b]),(2,.fl c)],3⟩
def Qy:List Code:=cS (dh ((((Qw.drop 3).take 1)).headD .skip))
def wl(b:Int)(d:Nat)(a:Nat)(c:List Nat) :T ((Nat×(List Nat))⊕(((List Nat))⊕(jn))) :=
  .ask (decide (((a:Nat):Int)<b))
    (.need (fq .i64 (((a:Nat):Int)*b))<|.need (fq .i64 ((((a:Nat):Int)*b)+((a:Nat):Int)))<|.need (fU ((((a:Nat):Int)*b)+((a:Nat):Int)) d)<|.need (fi (Int.toNat ((((a:Nat):Int)*b)+((a:Nat):Int))) (List.length c))<|.need (fq .i64 (((a+1):Nat):Int))<|.leaf (.inl ((a+1),(List.set c (Int.toNat ((((a:Nat):Int)*b)+((a:Nat):Int))) 4607182418800017408))))
    (.leaf (.inr (.inl c)))
def BY(a:Int)(b:Nat) :Nat×(List Nat)→Option ((Nat×(List Nat))⊕(((List Nat))⊕(jn))):=fun (c,d) =>
  (wl a b c d).run
theorem ON(a:Int)(b:Nat)(c:Nat)(d:List Nat) :Sg prog [] Qy (zz a b (c,d)) (BY a b (c,d)) (zz a b) (bW 0 (Jl a b) Bw):=by
  unfold BY;exact cy tg (zz a b) [⟨[],[0,1,2],[0,2,3,7,8]⟩,⟨[],[0,1,2],[2,3]⟩]
def OO(a:Int)(b:Nat)(c:List Nat) :T ((Empty)⊕(jn)) :=
  .leaf (.inr (.r0 a b c))
def bi(a:Int) :Option jn:=toX (bd ((Jk a).run) fun (b,c) =>
  bd (cm (BY a b) (0,c)) fun d =>
  (OO a b d).run)
theorem Qz(a:Int){x:jn}(h:bi a=some x) :aI prog FB [] [.int .i64 a] (FJ x) :=
  IB false FJ Bw h (Sg.cut 3 D9 (cy tg (Qx a) [⟨[],[0,48,32],[0,2,3,7,8]⟩]) (fun ⟨b,g⟩=>Sg.cut 1 D9 (yB ⟨[],[0,1,2],[0,2,3,7,8]⟩ (zz a b) (Jl a b) 0 D9 (Qv _) (fun ⟨e,f⟩=>ON a b e f)) (fun i=>cy tg G3 [⟨[],[0,2],[2]⟩])))
    (fun x=>by cases x with | r0 c d j=>exact Fi [.agg [.int .i64 c,.int .i64 c,.sl 1 1 1 0 d d]])
def wm:Option jn→Bool
  | some _=>true
  | none=>false
def cn:Option jn→Int
  | some (.r0 x _ _)=>x
  | _=>0
def fL:Option jn→Nat
  | some (.r0 _ x _)=>x
  | _=>0
def fM:Option jn→List Nat
  | some (.r0 _ _ x)=>x
  | _=>[]
theorem QA{x:Option jn}(h:wm x=true) :x=some (.r0 (cn x) (fL x) (fM x)):=by
  unfold wm at h
  split at h<;>first | rfl | (cases h;done) | (rename_i y;cases y;rfl)
def Lm:bC:=mW FB (.cons (.int .i64) .nil) fun t=>(fun q=>[⟨FJ (.r0 (cn q) (fL q) (fM q)),[wm q]⟩]) (bi t.1)
theorem NC:cg prog Lm:=ff fun t=>(fg (fun h=>Qz t.1 (QA h)) gr)
def Ln:List bC:=Lm::HF
theorem z8:cR prog (cX Ln):=aZ NC tg
inductive wn where
  | r0 (a:Bool)
def RL:wn→AE×aW
  | .r0 a=>(.ret,⟨aw 32 [(2,.bool false a)],[],0⟩)
theorem Ud:ye RL:=by intro x;cases x<;>(intro h;cases h)
def ND:wn→rU
  | .r0 a=>⟨.bool false a,[]⟩
def Ue(a:Bool) :aW:=⟨aw 32 [(2,.bool false a)],[],0⟩
def Pz(a:Int)(b:Int)(c:List Nat) :T ((Bool)⊕(wn)) :=
  .ask (decide (a≥(0:Int)))
    (.ask (decide (a≤(512:Int)))
      (.ask (decide (b≥(0:Int)))
        (.ask (decide (b≤(512:Int)))
          (.need (fq .i64 (a*b))<|.leaf (.inl ((((List.length c):Nat):Int)==(a*b))))
          (.leaf (.inl false)))
        (.leaf (.inl false)))
      (.leaf (.inl false)))
    (.leaf (.inl false))
def Uf(a:Bool) :T ((Empty)⊕(wn)) :=
  .leaf (.inr (.r0 a))
def z9(a:Int)(b:Int)(c:List Nat) :Option wn:=toX (bd ((Pz a b c).run) fun d =>
  (Uf d).run)
theorem Ug(b:Int)(c:Int)(d:Lv)(a:List Nat){x:wn}(h:z9 b c a=some x) :aI prog RH [] [.agg [.int .i64 b,.int .i64 c,.imm d (.fl a) 1 1 0 (List.length a)]] (ND x) :=
  IB false ND RL h (Sg.cut 2 Ud (cy z8 Ue [⟨[],[],[2]⟩,⟨[],[],[2]⟩,⟨[],[],[2]⟩,⟨[],[],[2]⟩,⟨[],[],[2]⟩]) (fun f=>cy z8 G3 [⟨[],[],[2]⟩]))
    (fun x=>by cases x with | r0 e=>exact Fi [.bool false e])
def C8:Option wn→Bool
  | some _=>true
  | none=>false
def Bx:Option wn→Bool
  | some (.r0 x)=>x
  | _=>false
theorem Uh{x:Option wn}(h:C8 x=true) :x=some (.r0 (Bx x)):=by
  unfold C8 at h
  split at h<;>first | rfl | (cases h;done) | (rename_i y;cases y;rfl)
def RM:bC:=mW RH (.cons (.agg (.cons (.int .i64) (.cons (.int .i64) (.cons .fl .nil)))) .nil) fun t=>(fun q=>[⟨ND (.r0 (Bx q)),[C8 q]⟩]) (z9 t.1.1 t.1.2.1 t.1.2.2.1.2)
theorem RN:cg prog RM:=ff fun t=>(fg (fun h=>Ug t.1.1 t.1.2.1 t.1.2.2.1.1 t.1.2.2.1.2 (Uh h)) gr)
def RO:List bC:=RM::Ln
theorem By:cR prog (cX RO):=aZ RN z8
inductive bm where
  | r0 (a:Int)
def gu:bm→AE×aW
  | .r0 a=>(.ret,⟨aw 19 [(4,.int .i64 a)],[],0⟩)
theorem ji:ye gu:=by intro x;cases x<;>(intro h;cases h)
theorem vB(id:Nat) :rB id gu:=by intro x;cases x<;>(intro h;cases h)
def jp:bm→rU
  | .r0 a=>⟨.int .i64 a,[]⟩
def vC:List Code:=cS (ri fY)
def vD(b:Lv)(a:List Nat)(_:Unit) :aW:=⟨aw 19 [(0,.imm b (.fl a) 1 1 0 (List.length a)),(1,.fn (.func yd) [] []),(7,.int .i64 (((List.length a):Nat):Int)),(8,.int .i64 (0:Int))],[],0⟩
def nT:T ((Unit)⊕(bm)) :=
  .leaf (.inl ())
def fZ(b:Lv)(a:List Nat)(c:Nat) :aW:=⟨aw 19 [(0,.imm b (.fl a) 1 1 0 (List.length a)),(1,.fn (.func yd) [] []),(7,.int .i64 (((List.length a):Nat):Int)),(8,.int .i64 ((c:Nat):Int))],[],0⟩
def nU(_:Unit) :aW:=⟨aw 19 [],[],0⟩
def vE:List Code:=cS (dh ((((vC.drop 2).take 1)).headD .skip))
def nV(b:List Nat)(a:Nat) :T ((Nat)⊕((Unit)⊕(bm))) :=
  .ask (decide (((a:Nat):Int)<(((List.length b):Nat):Int)))
    (.need (fU ((a:Nat):Int) (List.length b))<|.need (fi a (List.length b))<|.ask (zI (List.getD b a 0) (List.getD b a 0))
      (.leaf (.inr (.inr (.r0 ((a:Nat):Int)))))
      (.ask ((0:Int)==(0:Int))
        (.ask (KT (eY (List.getD b a 0)) 9218868437227405311)
          (.leaf (.inr (.inr (.r0 ((a:Nat):Int)))))
          (.need (fq .i64 (((a+1):Nat):Int))<|.leaf (.inl (a+1))))
        (.fail)))
    (.leaf (.inr (.inl ())))
def fP(a:List Nat) :Nat→Option ((Nat)⊕((Unit)⊕(bm))):=fun b =>
  (nV a b).run
theorem uD(b:Lv)(a:List Nat)(c:Nat) :Sg prog [] vE (fZ b a c) (fP a c) (fZ b a) (bW 0 nU gu):=by
  unfold fP;exact cy By (fZ b a) [⟨[],[],[4]⟩,⟨[],[],[4]⟩,⟨[],[],[0,1,7,8]⟩,⟨[],[],[]⟩]
def mX:T ((Empty)⊕(bm)) :=
  .leaf (.inr (.r0 (-1:Int)))
def bn(a:List Nat) :Option bm:=toX (bd ((nT).run) fun _ =>
  bd (cm (fP a) 0) fun _ =>
  (mX).run)
theorem vF(b:Lv)(a:List Nat){x:bm}(h:bn a=some x) :aI prog fY [] [.imm b (.fl a) 1 1 0 (List.length a),.fn (.func yd) [] []] (jp x) :=
  IB false jp gu h (Sg.cut 2 ji (cy By (vD b a) [⟨[],[],[0,1,7,8]⟩]) (fun _=>Sg.cut 1 ji (yB ⟨[],[],[0,1,7,8]⟩ (fZ b a) (nU) 0 ji (vB _) (fun c=>uD b a c)) (fun _=>cy By G3 [⟨[],[],[4]⟩])))
    (fun x=>by cases x with | r0 d=>exact Fi [.int .i64 d])
def cv:Option bm→Bool
  | some _=>true
  | none=>false
def bH:Option bm→Int
  | some (.r0 x)=>x
  | _=>0
theorem vG{x:Option bm}(h:cv x=true) :x=some (.r0 (bH x)):=by
  unfold cv at h
  split at h<;>first | rfl | (cases h;done) | (rename_i y;cases y;rfl)
def pd:bC:=mW fY (.cons .fl (.cons (.fn yd .nil .nil) .nil)) fun t=>(fun q=>[⟨jp (.r0 (bH q)),[cv q]⟩]) (bn t.1.2)
theorem uv:cg prog pd:=ff fun t=>(fg (fun h=>vF t.1.1 t.1.2 (vG h)) gr)
def pe:List bC:=pd::RO
theorem dY:cR prog (cX pe):=aZ uv By
inductive eW where
  | r0 (a:Int)
def rO:eW→AE×aW
  | .r0 a=>(.ret,⟨aw 49 [(4,.int .i64 a)],[],0⟩)
theorem nW:ye rO:=by intro x;cases x<;>(intro h;cases h)
theorem IC(id:Nat) :rB id rO:=by intro x;cases x<;>(intro h;cases h)
def wo:eW→rU
  | .r0 a=>⟨.int .i64 a,[]⟩
def vH:List Code:=cS (ri wg)
def ID(d:Lv)(e:Lv)(a:List Nat)(f:Lv)(b:List Nat)(g:Int)(h:Int)(i:Lv)(c:List Nat)(j:Int)(_:Unit) :aW:=⟨aw 49 [(0,.iptr d (.vs [.imm e (.fl a) 1 1 0 (List.length a),.imm f (.fl b) 1 1 0 (List.length b),.int .i64 g,.int .i64 h,.imm i (.fl c) 1 1 0 (List.length c)]) 1 0 0),(1,.int .i64 j)],[],0⟩
def Aa:T ((Unit)⊕(eW)) :=
  .leaf (.inl ())
def IE:List Code:=cS (Tz (((vH.drop 1)).headD .skip))
def IF(d:Lv)(e:Lv)(a:List Nat)(f:Lv)(b:List Nat)(g:Int)(h:Int)(i:Lv)(c:List Nat)(j:Int)(_:Unit) :aW:=⟨aw 49 [(0,.iptr d (.vs [.imm e (.fl a) 1 1 0 (List.length a),.imm f (.fl b) 1 1 0 (List.length b),.int .i64 g,.int .i64 h,.imm i (.fl c) 1 1 0 (List.length c)]) 1 0 0),(5,.int .i64 j)],[],0⟩
def zg:T ((Unit)⊕(eW)) :=
  .leaf (.inl ())
def qS(d:Lv)(e:Lv)(a:List Nat)(f:Lv)(b:List Nat)(g:Int)(h:Int)(i:Lv)(c:List Nat)(j:Int) :aW:=⟨aw 49 [(0,.iptr d (.vs [.imm e (.fl a) 1 1 0 (List.length a),.imm f (.fl b) 1 1 0 (List.length b),.int .i64 g,.int .i64 h,.imm i (.fl c) 1 1 0 (List.length c)]) 1 0 0),(5,.int .i64 j)],[],0⟩
def Ab(a:Int) :aW:=⟨aw 49 [(5,.int .i64 a)],[],0⟩
def G4:List Code:=cS (dh ((((IE.drop 1).take 1)).headD .skip))
def zh(b:List Nat)(c:List Nat)(a:Int) :T ((Int)⊕((Int)⊕(eW))) :=
  .need (fq .i64 ((((List.length b):Nat):Int)-(1:Int)))<|.ask (decide (a<((((List.length b):Nat):Int)-(1:Int))))
    (.need (fU a (List.length b))<|.need (fi (Int.toNat a) (List.length b))<|.need (fq .i64 (a+(1:Int)))<|.need (fU (a+(1:Int)) (List.length b))<|.need (fi (Int.toNat (a+(1:Int))) (List.length b))<|.need (fU a (List.length c))<|.need (fi (Int.toNat a) (List.length c))<|.ask (UE (v3 (eY (List.getD c (Int.toNat a) 0)) (v3 (eY (List.getD b (Int.toNat a) 0)) (eY (List.getD b (Int.toNat (a+(1:Int))) 0)))) (v3 (eY (List.getD b (Int.toNat a) 0)) (eY (List.getD b (Int.toNat (a+(1:Int))) 0))))
      (.leaf (.inr (.inl a)))
      (.need (fq .i64 (a+(1:Int)))<|.leaf (.inl (a+(1:Int)))))
    (.leaf (.inr (.inl a)))
def qt(a:List Nat)(b:List Nat) :Int→Option ((Int)⊕((Int)⊕(eW))):=fun c =>
  (zh a b c).run
theorem G5(c:Lv)(d:Lv)(a:List Nat)(e:Lv)(b:List Nat)(f:Int)(g:Int)(h:Lv)(i:List Nat)(j:Int) :Sg prog [] G4 (qS c d a e b f g h i j) (qt a b j) (qS c d a e b f g h i) (bW 0 Ab rO):=by
  unfold qt;exact cy dY (qS c d a e b f g h i) [⟨[],[],[5]⟩,⟨[],[],[0,5]⟩,⟨[],[],[5]⟩]
def zi(a:Int) :T ((Empty)⊕(eW)) :=
  .leaf (.inr (.r0 a))
def ch(a:List Nat)(b:List Nat)(c:Int) :Option eW:=toX (bd ((Aa).run) fun _ =>
  bd ((zg).run) fun _ =>
  bd (cm (qt a b) c) fun d =>
  (zi d).run)
theorem IG(d:Lv)(e:Lv)(a:List Nat)(f:Lv)(b:List Nat)(g:Int)(i:Int)(j:Lv)(c:List Nat)(k:Int){x:eW}(h:ch a b k=some x) :aI prog wg [] [.iptr d (.vs [.imm e (.fl a) 1 1 0 (List.length a),.imm f (.fl b) 1 1 0 (List.length b),.int .i64 g,.int .i64 i,.imm j (.fl c) 1 1 0 (List.length c)]) 1 0 0,.int .i64 k] (wo x) :=
  IB false wo rO h (Sg.cut 1 nW (cy dY (ID d e a f b g i j c k) [⟨[],[],[0,1]⟩]) (fun _=>SU (by kernel_rfl:(vH.drop 1)=[.scope (Tz (((vH.drop 1)).headD .skip))]) nW (Sg.cut 1 nW (cy dY (IF d e a f b g i j c k) [⟨[],[],[0,5]⟩]) (fun _=>Sg.cut 1 nW (yB ⟨[],[],[0,5]⟩ (qS d e a f b g i j c) (Ab) 0 nW (IC _) (fun l=>G5 d e a f b g i j c l)) (fun n=>cy dY G3 [⟨[],[],[4]⟩])))))
    (fun x=>by cases x with | r0 m=>exact Fi [.int .i64 m])
def nX:Option eW→Bool
  | some _=>true
  | none=>false
def bI:Option eW→Int
  | some (.r0 x)=>x
  | _=>0
theorem IH{x:Option eW}(h:nX x=true) :x=some (.r0 (bI x)):=by
  unfold nX at h
  split at h<;>first | rfl | (cases h;done) | (rename_i y;cases y;rfl)
def Bz:bC:=mW wg (.cons (.ivs (.cons .fl (.cons .fl (.cons (.int .i64) (.cons (.int .i64) (.cons .fl .nil))))) 1 0 0) (.cons (.int .i64) .nil)) fun t=>(fun q=>[⟨wo (.r0 (bI q)),[nX q]⟩]) (ch t.1.2.1.2 t.1.2.2.1.2 t.2.1)
theorem FK:cg prog Bz:=ff fun t=>(fg (fun h=>IG t.1.1 t.1.2.1.1 t.1.2.1.2 t.1.2.2.1.1 t.1.2.2.1.2 t.1.2.2.2.1 t.1.2.2.2.2.1 t.1.2.2.2.2.2.1.1 t.1.2.2.2.2.2.1.2 t.2.1 (IH h)) gr)
def BA:List bC:=Bz::pe
theorem lb:cR prog (cX BA):=aZ FK dY
inductive jj where
inductive bO where
  | r0 (a:Nat) (b:Nat) (c:Nat) (d:Nat) (e:Int) (f:Int) (g:Nat) (h:Nat) (i:List Nat) (j:List Nat) (k:List Nat)
def qT:jj→AE×aW:=fun x=>nomatch x
theorem qu:ye qT:=by intro x;cases x<;>(intro h;cases h)
theorem G6(id:Nat) :rB id qT:=by intro x;cases x<;>(intro h;cases h)
def vI:bO→rU
  | .r0 a b c d e f g h i j k=>⟨.tup [],[some (.vs [.sl 1 1 1 0 a b,.sl 2 1 1 0 c d,.int .i64 e,.int .i64 f,.sl 3 1 1 0 g h]),some (.fl i),some (.fl j),some (.fl k)]⟩
def zj:Nat×Nat×Nat×Nat×Int×Int×Nat×Nat×(List Nat)×(List Nat)×(List Nat)→aW:=fun (a,b,c,d,e,f,g,h,i,j,k)=>⟨aw 64 [],[(0,.vs [.sl 1 1 1 0 a b,.sl 2 1 1 0 c d,.int .i64 e,.int .i64 f,.sl 3 1 1 0 g h]),(1,.fl i),(2,.fl j),(3,.fl k)],4⟩
def G7:List Code:=cS (ri qP)
def G8(b:Nat)(c:Nat)(d:Nat)(e:Nat)(a:Int)(f:Int)(g:Nat)(h:Nat)(i:List Nat)(j:List Nat)(k:List Nat)(l:Int)(m:Nat)(n:Nat)(_:Unit) :aW:=⟨aw 64 [(0,.ptr 0 1 0 0),(1,.int .i64 l),(2,.flt false m),(3,.flt false n),(16,.int .i64 a),(17,.int .i64 (0:Int))],[(0,.vs [.sl 1 1 1 0 b c,.sl 2 1 1 0 d e,.int .i64 a,.int .i64 f,.sl 3 1 1 0 g h]),(1,.fl i),(2,.fl j),(3,.fl k)],4⟩
def yC:T ((Unit)⊕(jj)) :=
  .leaf (.inl ())
def qv(b:Nat)(c:Nat)(d:Nat)(e:Nat)(a:Int)(f:Int)(g:Nat)(h:Nat)(i:List Nat)(j:List Nat)(k:Int)(l:Nat)(m:Nat) :Nat×(List Nat)→aW:=fun (n,o)=>⟨aw 64 [(0,.ptr 0 1 0 0),(1,.int .i64 k),(2,.flt false l),(3,.flt false m),(16,.int .i64 a),(17,.int .i64 ((n:Nat):Int))],[(0,.vs [.sl 1 1 1 0 b c,.sl 2 1 1 0 d e,.int .i64 a,.int .i64 f,.sl 3 1 1 0 g h]),(1,.fl i),(2,.fl j),(3,.fl o)],4⟩
def zk(a:Nat)(b:Nat)(c:Nat)(d:Nat)(e:Int)(f:Int)(g:Nat)(h:Nat)(i:List Nat)(j:List Nat)(k:(List Nat)) :aW:=⟨aw 64 [],[(0,.vs [.sl 1 1 1 0 a b,.sl 2 1 1 0 c d,.int .i64 e,.int .i64 f,.sl 3 1 1 0 g h]),(1,.fl i),(2,.fl j),(3,.fl k)],4⟩
def FL:List Code:=cS (dh ((((G7.drop 1).take 1)).headD .skip))
def G9(b:Nat)(c:Nat)(d:Nat)(e:Nat)(a:Int)(f:Int)(g:Nat)(h:Nat)(i:List Nat)(j:List Nat)(k:Int)(l:Nat)(m:Nat)(n:Nat)(o:(List Nat)) :aW:=⟨aw 64 [(0,.ptr 0 1 0 0),(1,.int .i64 k),(2,.flt false l),(3,.flt false m),(16,.int .i64 a),(17,.int .i64 ((n:Nat):Int))],[(0,.vs [.sl 1 1 1 0 b c,.sl 2 1 1 0 d e,.int .i64 a,.int .i64 f,.sl 3 1 1 0 g h]),(1,.fl i),(2,.fl j),(3,.fl o)],4⟩
def yD(h:Int)(b:Int)(e:Nat)(i:Nat)(c:Int)(f:Nat)(g:Nat)(a:Nat)(d:List Nat) :T (((List Nat))⊕(((List Nat))⊕(jj))) :=
  .ask (decide (((a:Nat):Int)<h))
    (.need (fq .i64 (((a:Nat):Int)*b))<|.need (AL ((e:Nat):Int) i)<|.need (AL (((a:Nat):Int)*b) e)<|.need (fU c (e-(Int.toNat (((a:Nat):Int)*b))))<|.need (fi (bV (Int.toNat (((a:Nat):Int)*b)) (Int.toNat c)) (List.length d))<|.need (fq .i64 (c+(1:Int)))<|.need (fU (c+(1:Int)) (e-(Int.toNat (((a:Nat):Int)*b))))<|.need (fi (bV (Int.toNat (((a:Nat):Int)*b)) (Int.toNat (c+(1:Int)))) (List.length d))<|.need (fq .i64 (c+(1:Int)))<|.need (fU c (e-(Int.toNat (((a:Nat):Int)*b))))<|.need (fi (bV (Int.toNat (((a:Nat):Int)*b)) (Int.toNat c)) (List.length d))<|.need (fU (c+(1:Int)) (e-(Int.toNat (((a:Nat):Int)*b))))<|.need (fi (bV (Int.toNat (((a:Nat):Int)*b)) (Int.toNat (c+(1:Int)))) (List.length (List.set d (bV (Int.toNat (((a:Nat):Int)*b)) (Int.toNat c)) (kZ (cY f (List.getD d (bV (Int.toNat (((a:Nat):Int)*b)) (Int.toNat c)) 0)) (cY g (List.getD d (bV (Int.toNat (((a:Nat):Int)*b)) (Int.toNat (c+(1:Int)))) 0))))))<|.leaf (.inl (List.set (List.set d (bV (Int.toNat (((a:Nat):Int)*b)) (Int.toNat c)) (kZ (cY f (List.getD d (bV (Int.toNat (((a:Nat):Int)*b)) (Int.toNat c)) 0)) (cY g (List.getD d (bV (Int.toNat (((a:Nat):Int)*b)) (Int.toNat (c+(1:Int)))) 0)))) (bV (Int.toNat (((a:Nat):Int)*b)) (Int.toNat (c+(1:Int)))) (v3 (cY g (List.getD d (bV (Int.toNat (((a:Nat):Int)*b)) (Int.toNat c)) 0)) (cY f (List.getD d (bV (Int.toNat (((a:Nat):Int)*b)) (Int.toNat (c+(1:Int)))) 0))))))
    (.leaf (.inr (.inl d)))
def yE(a:Nat)(b:List Nat) :T ((Nat×(List Nat))⊕(((List Nat))⊕(jj))) :=
  .need (fq .i64 (((a+1):Nat):Int))<|.leaf (.inl ((a+1),b))
def pV(b:Int)(c:Int)(d:Nat)(e:Nat)(f:Int)(g:Nat)(h:Nat) :Nat×(List Nat)→Option ((Nat×(List Nat))⊕(((List Nat))⊕(jj))):=fun (a,i) =>
  bd ((yD b c d e f g h a i).run) fun j =>
  (yE a j).run
theorem FM(e:Nat)(f:Nat)(g:Nat)(h:Nat)(a:Int)(b:Int)(c:Nat)(d:Nat)(i:List Nat)(j:List Nat)(p:List Nat)(k:Int)(l:Nat)(m:Nat)(n:Nat)(o:List Nat) :Sg prog [.vs [.sl 1 1 1 0 e f,.sl 2 1 1 0 g h,.int .i64 a,.int .i64 b,.sl 3 1 1 0 c d],.fl i,.fl j,.fl p] FL (qv e f g h a b c d i j k l m (n,o)) (pV a b c d k l m (n,o)) (qv e f g h a b c d i j k l m) (bW 0 (zk e f g h a b c d i j) qT):=by
  unfold pV;exact Sg.cut 3 (ao qu) (cy lb (G9 e f g h a b c d i j k l m n) [⟨[],[0,1,2,3],[0,1,2,3,16,17]⟩,⟨[],[0,1,2,3],[]⟩]) (fun q=>cy lb (qv e f g h a b c d i j k l m) [⟨[],[0,1,2,3],[0,1,2,3,16,17]⟩])
def yF(a:Nat)(b:Nat)(c:Nat)(d:Nat)(e:Int)(f:Int)(g:Nat)(h:Nat)(i:List Nat)(j:List Nat)(k:List Nat) :T ((Nat×Nat×Nat×Nat×Int×Int×Nat×Nat×(List Nat)×(List Nat)×(List Nat))⊕(jj)) :=
  .leaf (.inl (a,b,c,d,e,f,g,h,i,j,k))
def Ac:(Nat×Nat×Nat×Nat×Int×Int×Nat×Nat×(List Nat)×(List Nat)×(List Nat))⊕(jj)→bO
  | .inl (a,b,c,d,e,f,g,h,i,j,k)=>(.r0 a b c d e f g h i j k)
def cw(e:Nat)(f:Nat)(g:Nat)(h:Nat)(a:Int)(b:Int)(c:Nat)(d:Nat)(i:List Nat)(j:List Nat)(k:List Nat)(l:Int)(m:Nat)(n:Nat) :Option bO:=Option.map Ac (bd ((yC).run) fun _ =>
  bd (cm (pV a b c d l m n) (0,k)) fun o =>
  (yF e f g h a b c d i j o).run)
theorem Ha(a:Nat)(b:Nat)(c:Nat)(d:Nat)(e:Int)(f:Int)(g:Nat)(i:Nat)(j:List Nat)(k:List Nat)(o:List Nat)(l:Int)(m:Nat)(n:Nat){x:bO}(h:cw a b c d e f g i j k o l m n=some x) :aI prog qP [.vs [.sl 1 1 1 0 a b,.sl 2 1 1 0 c d,.int .i64 e,.int .i64 f,.sl 3 1 1 0 g i],.fl j,.fl k,.fl o] [.ptr 0 1 0 0,.int .i64 l,.flt false m,.flt false n] (vI x) :=
  LC false vI zj qT Ac h (Sg.cut 1 qu (cy lb (G8 a b c d e f g i j k o l m n) [⟨[],[0,1,2,3],[0,1,2,3,16,17]⟩]) (fun _=>Sg.cut 1 qu (yB ⟨[],[0,1,2,3],[0,1,2,3,16,17]⟩ (qv a b c d e f g i j k l m n) (zk a b c d e f g i j k) 0 qu (G6 _) (fun ⟨p,q⟩=>FM a b c d e f g i j k o l m n p q)) (fun r=>cy lb zj [⟨[],[0,1,2,3],[]⟩])))
    (fun ⟨s,t,u,v,w,y,z,A,B,C,D⟩=>LB []) (fun x=>by cases x)
def qw:Option bO→Bool
  | some _=>true
  | none=>false
def rC:Option bO→Nat
  | some (.r0 x _ _ _ _ _ _ _ _ _ _)=>x
  | _=>0
def rD:Option bO→Nat
  | some (.r0 _ x _ _ _ _ _ _ _ _ _)=>x
  | _=>0
def rE:Option bO→Nat
  | some (.r0 _ _ x _ _ _ _ _ _ _ _)=>x
  | _=>0
def rF:Option bO→Nat
  | some (.r0 _ _ _ x _ _ _ _ _ _ _)=>x
  | _=>0
def rG:Option bO→Int
  | some (.r0 _ _ _ _ x _ _ _ _ _ _)=>x
  | _=>0
def rH:Option bO→Int
  | some (.r0 _ _ _ _ _ x _ _ _ _ _)=>x
  | _=>0
def rI:Option bO→Nat
  | some (.r0 _ _ _ _ _ _ x _ _ _ _)=>x
  | _=>0
def rJ:Option bO→Nat
  | some (.r0 _ _ _ _ _ _ _ x _ _ _)=>x
  | _=>0
def rK:Option bO→List Nat
  | some (.r0 _ _ _ _ _ _ _ _ x _ _)=>x
  | _=>[]
def rL:Option bO→List Nat
  | some (.r0 _ _ _ _ _ _ _ _ _ x _)=>x
  | _=>[]
def qU:Option bO→List Nat
  | some (.r0 _ _ _ _ _ _ _ _ _ _ x)=>x
  | _=>[]
theorem Hb{x:Option bO}(h:qw x=true) :x=some (.r0 (rC x) (rD x) (rE x) (rF x) (rG x) (rH x) (rI x) (rJ x) (rK x) (rL x) (qU x)):=by
  unfold qw at h
  split at h<;>first | rfl | (cases h;done) | (rename_i y;cases y;rfl)
def Ad:bC:=yz qP [.vs [.lsl0 1,.lsl0 2,.int .i64,.int .i64,.lsl0 3],.fl,.fl,.fl] (.cons (.lptr 0 1 0 0) (.cons (.int .i64) (.cons (.flt false) (.cons (.flt false) .nil)))) fun x t=>(fun q=>[⟨vI (.r0 (rC q) (rD q) (rE q) (rF q) (rG q) (rH q) (rI q) (rJ q) (rK q) (rL q) (qU q)),[qw q]⟩]) (cw x.1.1.1 x.1.1.2 x.1.2.1.1 x.1.2.1.2 x.1.2.2.1 x.1.2.2.2.1 x.1.2.2.2.2.1.1 x.1.2.2.2.2.1.2 x.2.1 x.2.2.1 x.2.2.2.1 t.2.1 t.2.2.1 t.2.2.2.1)
theorem Fa:cg prog Ad:=nR fun x t=>(jG (fun h=>Ha x.1.1.1 x.1.1.2 x.1.2.1.1 x.1.2.1.2 x.1.2.2.1 x.1.2.2.2.1 x.1.2.2.2.2.1.1 x.1.2.2.2.2.1.2 x.2.1 x.2.2.1 x.2.2.2.1 t.2.1 t.2.2.1 t.2.2.2.1 (Hb h)) nS)
def Ae:List bC:=Ad::BA
theorem fc:cR prog (cX Ae):=aZ Fa lb
end
end Go.Plb.Seat
