/-
  Part 2 of what the claim leans on: an evaluator of the model, proved sound; the contracts of the functions.
-/
import GoSem.Extern.MathSqrt
import GoSem.Extern.MathFloatBits
import GoSem.Extern.MathBitsCarry
import Derived.LoopN
import Derived.Scope
import Derived.Laws.Externs
import Derived.WalkKit
import Derived.ProofKit
import Derived.OpenShut
import Derived.Deep.Slices
import Derived.Test.YtliefadneiaaoaaChecked
import Derived.KernelRfl
import Derived.Test.YtliefadneiaaoaaA1
namespace Go.Plb
set_option linter.unusedSimpArgs false
set_option linter.unusedVariables false
set_option linter.unusedSectionVars false
variable [Rom]
inductive mz where
  | sqrt | bits | frombits | add64 | sub64
def lx:mz→Array Value→Sem Value
  | .sqrt=>Extern.MathSqrt.sqrt
  | .bits=>Extern.MathFloatBits.float64bits
  | .frombits=>Extern.MathFloatBits.float64frombits
  | .add64=>fun args=>do
    let (x, y, c) ← Extern.MathBitsCarry.three "Add64" args
    pure (Extern.MathBitsCarry.pair ((x+y+c)%Extern.MathBitsCarry.m64) ((x+y+c)/Extern.MathBitsCarry.m64))
  | .sub64=>fun args=>do
    let (x, y, b) ← Extern.MathBitsCarry.three "Sub64" args
    pure (Extern.MathBitsCarry.pair ((x+Extern.MathBitsCarry.m64-y-b)%Extern.MathBitsCarry.m64) (if x<y+b then 1 else 0))
def vX(k:mz)(args:List AV) :List my :=
  match k,args with
  | .sqrt,[.flt _ x]=>[⟨.flt false (t5 x),[],[]⟩]
  | .bits,[.flt true x]=>[⟨.int .u64 x,[],[]⟩]
  | .bits,[.flt false x]=>[⟨.int .u64 x,[],[!isNaN x]⟩,⟨.nan,[],[isNaN x]⟩]
  | .frombits,[.int .u64 n]=>[⟨.flt true n.toNat,[],[]⟩]
  | .add64,[.int _ x,.int _ y,.int _ c]=>[⟨.tup [.int .u64 (((x.toNat+y.toNat+c.toNat)%18446744073709551616:Nat):Int),.int .u64 (((x.toNat+y.toNat+c.toNat)/18446744073709551616:Nat):Int)],[],[bU c.toNat 1]⟩]
  | .sub64,[.int _ x,.int _ y,.int _ c]=>[⟨.tup [.int .u64 (((x.toNat+18446744073709551616-y.toNat-c.toNat)%18446744073709551616:Nat):Int),.int .u64 (bif Nat.blt x.toNat (y.toNat+c.toNat) then 1 else 0)],[],[bU c.toNat 1]⟩]
  | _,_=>[]
abbrev bH:=Option (List Nat)
structure uh where
  mask:List Bool
  keep:Bool
abbrev bD:=FuncId→List ac→List AV→bH→Option (iw×List Bool×bH)
structure j6 where
  P:Program
  ext:FuncId→Option mz
  mode:FuncId→uh
  wrap:Bool
structure j6.Ok (C:j6):Prop where
  mixed:C.P.follows .mixedOrders=true
  enter:∀ (f:FuncId) (fn:Func) (args:Array Value) (w:World),C.P.funcs[f]? = some fn→fn.body.isSome=true→(callFunc f args).run C.P w=.ok (.enter f args) w
  ext:∀ (f:FuncId) (k:mz) (args:Array Value) (w:World),C.ext f=some k→(callFunc f args).run C.P w=(do pure (Next.value (←lx k args)):Sem Next).run C.P w
def nr(P:Program)(run:bD) :Prop :=
  ∀ f lent args p r obs p',run f lent args p=some (r,obs,p')→ae obs→∀ (ρ:aa) (w:World) (us:List Value),dm ρ w lent→bf ρ w args us →
    (∃ fn,P.funcs[f]? = some fn∧fn.body.isSome=true)∧Calls P f us.toArray w fun e w'=>∃ u,e=.returned u∧b7 ρ.live w w'∧r.Holds ρ w w' lent.length u
structure wh where
  v:AV
  sets:List (Nat×Option ac)
  reads:List Nat
  obs:List Bool
  path:bH
def tB:List Bool→Bool
  | []=>true
  | b::l=>b&&tB l
theorem pg:∀ {l:List Bool},tB l=true→ae l
  | [],_=>trivial
  | b::l,h=>by simp only [tB,Bool.and_eq_true] at h;exact ⟨h.1,pg h.2⟩
def mR(alts:List my)(p:bH) :Option (my×bH) :=
  match alts,p with
  | [a],p=>some (a,p)
  | alts,none=>(alts.find? fun a=>tB a.obs).map fun a=>(a,none)
  | alts,some (k::r)=>(alts[k]?).map fun a=>(a,some r)
  | _,_=>none
theorem l8{alts:List my}{p p':bH}{a:my}(h:mR alts p=some (a,p')) :a∈alts:=by
  unfold mR at h
  split at h
  · simp only [Option.some.injEq,Prod.mk.injEq] at h;rw [←h.1];simp
  · simp only [Option.map_eq_some_iff,Prod.mk.injEq] at h;obtain ⟨b,h1,rfl,_⟩:=h;exact List.mem_of_find?_eq_some h1
  · simp only [Option.map_eq_some_iff,Prod.mk.injEq] at h;obtain ⟨b,h1,rfl,_⟩:=h;exact List.mem_of_getElem? h1
  · cases h
def bK:Nat:=100000
mutual
def pW:AV→List Nat
  | .ptr b ..=>[b]
  | .sl b ..=>[b]
  | .fn _ l1 l2=>bO l1++bO l2
  | .agg l | .tup l=>bO l
  | .iface _ v=>pW v
  | _=>[]
def bO:List AV→List Nat
  | []=>[]
  | v::l=>pW v++bO l
end
def vf:ac→List Nat
  | .vs l=>bO l
  | _=>[]
def g3:List Nat→Nat→Bool
  | [],_=>false
  | k::l,b=>bif Nat.beq k b then true else g3 l b
def cZ(g:Nat→Option ac) :Nat→List Nat→List Nat→List Nat
  | 0,_,acc=>acc
  | _+1,[],acc=>acc
  | n+1,b::t,acc=>match g3 acc b with
    | true=>cZ g n t acc
    | false=>cZ g n ((match g b with | some d=>vf d | none=>[])++t) (acc++[b])
def dv:List Bool→List AV→List AV
  | true::m,v::l=>v::dv m l
  | false::m,_::l=>dv m l
  | _,_=>[]
def cg(σ:Nat→Option Nat)(g:Nat→Option ac) :List Bool→List AV→List AV×List Nat
  | _,[]=>([],[])
  | true::m,v::l=>let s:=cg σ g m l;(mQ σ v::s.1,s.2)
  | false::m,v::l=>let r:=lu σ g bK v;let s:=cg σ g m l;(r.1::s.1,r.2++s.2)
  | [],v::l=>let r:=lu σ g bK v;let s:=cg σ g [] l;(r.1::s.1,r.2++s.2)
theorem gh{ρ τ:aa}{w:World}{h:aH}{m:Nat}{σ:Nat→Option Nat}(hh:HR ρ w h m)(L:qZ ρ τ w h σ) :∀ (k:List Bool) {l:List AV} {c:List Value},bf ρ w l c→bf τ w (cg σ (am h) k l).1 c
  | k,[],c,hv=>by cases hv;cases k<;>exact .nil
  | true::k,v::l,c,hv=>by cases hv with | cons _ u _ c' h1 h2=>exact .cons _ _ _ _ (cV L h1) (gh hh L k h2)
  | false::k,v::l,c,hv=>by cases hv with | cons _ u _ c' h1 h2=>exact .cons _ _ _ _ (pV hh L _ h1) (gh hh L k h2)
  | [],v::l,c,hv=>by cases hv with | cons _ u _ c' h1 h2=>exact .cons _ _ _ _ (pV hh L _ h1) (gh hh L [] h2)
def g4:List Nat→Bool
  | []=>true
  | k::l=>bif g3 l k then false else g4 l
def dw(g:Nat→Option ac)(nid:Nat) :List Nat→Bool
  | []=>true
  | b::l=>(match g b with | some _=>Nat.blt b nid||Nat.ble (nid+er) b | none=>false)&&dw g nid l
theorem j7:∀ {l:List Nat} {i b:Nat},l[i]? = some b→g3 l b=true
  | [],i,b,h=>by simp at h
  | k::l,0,b,h=>by simp at h;subst h;simp [g3,dN]
  | k::l,i+1,b,h=>by
    simp only [g3]
    cases Nat.beq k b with
    | true=>rfl
    | false=>simp only [cond_false];exact j7 (i:=i) (by simpa using h)
theorem g5:∀ {l:List Nat},g4 l=true→∀ {i j b:Nat},l[i]? = some b→l[j]? = some b→i=j
  | [],_,i,j,b,h1,_=>by simp at h1
  | k::l,hn,i,j,b,h1,h2=>by
    simp only [g4] at hn
    cases e:g3 l k with
    | true=>rw [e] at hn;cases hn
    | false =>
      rw [e] at hn;simp only [cond_false] at hn
      cases i with
      | zero =>
        cases j with
        | zero=>rfl
        | succ j=>simp at h1 h2;subst h1;rw [j7 h2] at e;cases e
      | succ i =>
        cases j with
        | zero=>simp at h1 h2;subst h2;rw [j7 h1] at e;cases e
        | succ j=>have:=g5 hn (i:=i) (j:=j) (b:=b) (by simpa using h1) (by simpa using h2);omega
theorem gA{g:Nat→Option ac}{nid:Nat} :∀ {l:List Nat},dw g nid l=true→∀ b,b∈l→(∃ d,g b=some d)∧(b<nid∨nid+er≤b)
  | [],_,b,hb=>by cases hb
  | k::l,h,b,hb=>by
    simp only [dw,Bool.and_eq_true] at h
    rcases List.mem_cons.1 hb with rfl | q
    · have:=h.1
      cases e:g b with
      | none=>rw [e] at this;cases this
      | some d =>
        rw [e] at this
        simp only [Bool.or_eq_true] at this
        refine ⟨⟨d,rfl⟩,this.imp (fun q=>by simpa [Nat.blt_eq] using q) (fun q=>Nat.le_of_ble_eq_true q)⟩
    · exact gA h.2 b q
def kC(e:Operand→AV)(f:Operand)(args:Array Operand) :Option (FuncId×List AV) :=
  match e f with
  | .fn (.func fid) first caps=>some (fid,first++args.toList.map e++caps)
  | _=>none
def ph(C:j6)(run:bD)(g:Nat→Option ac)(nid:Nat)(p:bH)(fid:FuncId)(vals:List AV) :Option wh :=
  let bs:=cZ g bK (bO (dv (C.mode fid).mask vals)) []
  let la:=cg (cU bs 0) g (C.mode fid).mask vals
  bif g4 bs&&dw g nid bs then
    match run fid (eB (cU bs 0) g bs) la.1 p with
    | some (r,obs,p') =>
      bif Nat.ble r.own.length (bs.length+er) then
        some { v:=cY (bj bs nid) r.v,sets:=cd (bj bs nid) 0 r.own,reads:=bs++la.2,obs,path:=p' }
      else none
    | none=>none
  else none
def vY(C:j6)(run:bD)(e:Operand→AV)(g:Nat→Option ac)(nid:Nat)(p:bH)(op:Op) :Option wh :=
  match lg C.wrap C.P e op with
  | some (v,obs)=>some { v,sets:=[],reads:=[],obs,path:=p }
  | none =>
    match op with
    | .load t x=>(kq C.P g t (e x)).map fun r=>{ v:=r.1,sets:=[],reads:=r.2.2,obs:=r.2.1,path:=p }
    | .store t x v=>(lm C.P g t (e x) (e v)).map fun r=>{ v:=.any,sets:=[(r.1,some r.2.1)],reads:=[r.1],obs:=r.2.2,path:=p }
    | .alloc t=>(rX C.P nid t).map fun r=>{ v:=r.1,sets:=[(nid,some r.2)],reads:=[],obs:=[],path:=p }
    | .box t x=>(vW C.P nid t (e x)).map fun r=>{ v:=r.1,sets:=[(nid,some r.2)],reads:=[],obs:=[],path:=p }
    | .makeSlice t l c=>(ud C.P nid t (e l) (e c)).map fun r=>{ v:=r.1,sets:=[(nid,some r.2.1)],reads:=[],obs:=r.2.2,path:=p }
    | .build t parts=>(r5 C.P t (parts.toList.map fun x=>(x.1,e x.2))).map fun v=>{ v,sets:=[],reads:=[],obs:=[],path:=p }
    | .buildSlice t len parts=>(iC C.P nid t len (parts.toList.map fun x=>(x.1,e x.2))).map fun r=>{ v:=r.1,sets:=[(nid,some r.2)],reads:=[],obs:=[],path:=p }
    | .call { callee:=.builtin .append,args,argTypes } =>
      match args.toList,argTypes.toList with
      | [s,x],[t,t']=>bif Nat.beq t t' then
          match jd C.P g nid t (e s) (e x) with
          | some (alts,rs)=>(mR alts p).map fun r=>{ v:=r.1.v,sets:=r.1.sets,reads:=rs,obs:=r.1.obs,path:=r.2 }
          | none=>none
        else none
      | _,_=>none
    | .call { callee:=.builtin .copy,args,argTypes } =>
      match args.toList,argTypes.toList with
      | [s,x],[t,_]=>(pf C.P g t (e s) (e x)).map fun r=>{ v:=.int .i64 (r.1:Int),sets:=[(r.2.1,some r.2.2.1)],reads:=r.2.2.2.2,obs:=r.2.2.2.1,path:=p }
      | _,_=>none
    | .call { callee:=.value f,args,.. } =>
      match kC e f args with
      | some (fid,l) =>
        match C.ext fid with
        | some k=>(mR (vX k l) p).map fun r=>{ v:=r.1.v,sets:=[],reads:=[],obs:=r.1.obs,path:=r.2 }
        | none=>ph C run g nid p fid l
      | none=>none
    | _=>none
theorem q9{x:Nat}(h:isNaN x=true) :FloatKind.f64.format.sqrt x=none:=by
  obtain ⟨s,t,e⟩:=fC h
  simp [Ieee.Format.sqrt,e,Ieee.Datum.root]
theorem nt{ρ:aa}{w:World}{k1 k2 k3:IntKind}{x y z:Int}{c:Array Value}(hl:bf ρ w [.int k1 x,.int k2 y,.int k3 z] c.toList) :c = #[.int k1 x,.int k2 y,.int k3 z]:=by
  have h:c.toList=[.int k1 x,.int k2 y,.int k3 z]:=by
    generalize c.toList=l at hl
    cases hl with | cons _ u1 _ _ h1 t1 =>
    cases t1 with | cons _ u2 _ _ h2 t2 =>
    cases t2 with | cons _ u3 _ _ h3 t3 =>
    cases t3;cases h1;cases h2;cases h3;rfl
  rw [←c.toArray_toList,h]
theorem pj{P:Program}{w:World}(name:String){k1 k2 k3:IntKind}{x y z:Int}(hz:z.toNat≤1) :(Extern.MathBitsCarry.three name #[.int k1 x,.int k2 y,.int k3 z]).run P w=.ok (x.toNat,y.toNat,z.toNat) w:=by
  have e:Extern.MathBitsCarry.three name #[.int k1 x,.int k2 y,.int k3 z]=(do
      if z.toNat > 1 then unsupported (.noEntry ("extern/math/bits." ++ name ++ ": a carry that is neither 0 nor 1"))
      pure (x.toNat,y.toNat,z.toNat):Sem (Nat×Nat×Nat)):=rfl
  rw [e,if_neg (by omega)]
  rfl
theorem sb{P:Program}{ρ:aa}{w:World}{k:mz}{l:List AV}{c:Array Value}{r:my}(hl:bf ρ w l c.toList)(h:r∈vX k l)(ho:ae r.obs) :b9 P ρ w (lx k c) r.v:=by
  have one:∀ {a:AV},bf ρ w [a] c.toList→∃ u,c = #[u]∧VR ρ w a u:=by
    intro a h
    generalize hc:c.toList=l at h
    cases h with | cons _ u _ _ h1 h2=>cases h2;exact ⟨u,by rw [←hc],h1⟩
  unfold vX at h
  split at h
  · simp only [List.mem_singleton] at h;subst h
    obtain ⟨u,rfl,hu⟩:=one hl
    cases hu with | flt _ _ y hf =>
    rename_i ex x
    have es:lx .sqrt #[.float .f64 y]=(match FloatKind.f64.format.sqrt y with
      | some r=>pure (.float .f64 r)
      | none=>do pure (.float .f64 (←choose (.nanBits .f64 y y)))):=rfl
    rw [es]
    have e:FloatKind.f64.format.sqrt y=FloatKind.f64.format.sqrt x:=by
      rcases hf with rfl | ⟨_,h2,h3⟩
      · rfl
      · rw [q9 h2,q9 h3]
    cases hr:FloatKind.f64.format.sqrt y with
    | some r=>exact ⟨.float .f64 r,w.drawn,rfl,.flt _ _ _ (.inl (by rw [e] at hr;simp [t5,hr]))⟩
    | none=>exact ⟨_,w.drawn+1,rfl,.flt _ _ _ (.inr ⟨rfl,by rw [e] at hr;simp [t5,hr,jV],sH y y _⟩)⟩
  · simp only [List.mem_singleton] at h;subst h
    obtain ⟨u,rfl,hu⟩:=one hl
    cases hu with | flt _ _ y hf =>
    rcases hf with rfl | ⟨h1,_⟩
    · exact ⟨_,w.drawn,rfl,.int _ _⟩
    · cases h1
  · simp only [List.mem_cons,List.not_mem_nil,or_false] at h
    obtain ⟨u,rfl,hu⟩:=one hl
    cases hu with | flt _ _ y hf =>
    rcases h with rfl | rfl
    · rcases hf with rfl | ⟨_,h2,_⟩
      · exact ⟨_,w.drawn,rfl,.int _ _⟩
      · have:=ho.1;rw [h2] at this;cases this
    · have hy:isNaN y=true:=by
        rcases hf with rfl | ⟨_,_,h3⟩
        · exact ho.1
        · exact h3
      exact ⟨_,w.drawn,rfl,.nan _ hy⟩
  · simp only [List.mem_singleton] at h;subst h
    obtain ⟨u,rfl,hu⟩:=one hl
    cases hu
    exact ⟨_,w.drawn,rfl,.flt _ _ _ (.inl rfl)⟩
  · simp only [List.mem_singleton] at h;subst h
    have hz:=ho.1
    replace hz:=of_decide_eq_true hz
    cases nt hl
    refine ⟨_,w.drawn,?_,.tup _ #[_,_] (.cons _ _ _ _ (.int _ _) (.cons _ _ _ _ (.int _ _) .nil))⟩
    simp only [lx, Sem.run_bind, pj "Add64" hz, Result.andThen_ok]
    rfl
  · simp only [List.mem_singleton] at h;subst h
    have hz:=ho.1
    replace hz:=of_decide_eq_true hz
    cases nt hl
    refine ⟨_,w.drawn,?_,.tup _ #[_,_] (.cons _ _ _ _ (.int _ _) (.cons _ _ _ _ (.int _ _) .nil))⟩
    simp only [lx, Sem.run_bind, pj "Sub64" hz, Result.andThen_ok]
    rename_i x _ y _ z
    have e:(bif Nat.blt x.toNat (y.toNat+z.toNat) then (1:Int) else 0)=Int.ofNat (if x.toNat<y.toNat+z.toNat then 1 else 0):=by
      by_cases q:x.toNat<y.toNat+z.toNat
      · rw [if_pos q,show Nat.blt x.toNat (y.toNat+z.toNat)=true by rw [Nat.blt_eq];exact q];rfl
      · rw [if_neg q]
        have:Nat.blt x.toNat (y.toNat+z.toNat)=false:=by
          cases h:Nat.blt x.toNat (y.toNat+z.toNat) with
          | false=>rfl
          | true=>rw [Nat.blt_eq] at h;exact absurd h q
        rw [this];rfl
    rw [e]
    rfl
  · simp at h
theorem tC{C:j6}(hC:C.Ok){run:bD}(hrun:nr C.P run){e:Operand→AV}{h:aH}{nid:Nat}{p:bH}{o:Oper}{r:wh}(hr:vY C run e (am h) nid p o.op=some r)(ho:ae r.obs) 
    {ρ:aa} {w:World} {n:Nat} (hh:HR ρ w h n) (hid:∀ x,nid≤x→x<nid+er→¬ ρ.ok x) (hn0:nid+er≤n) {a:Act} (hops:∀ x,VR ρ w (e x) (a.eval x)) {next:Act→World→Prop} {Q:Exit→Act→World→Prop}
    (hK:∀ ρ' w' u,dp ρ ρ' w→b7 ρ.live w w'→HR ρ' w' (aU r.sets h) n→VR ρ' w' r.v u→(∀ b,ρ'.ok b→ρ.ok b∨(nid≤b∧b<nid+er))→next (a.put o.dst u) w'):o.wp C.P a w next Q:=by
  have hS:0<er:=by decide
  have hb : ¬ ρ.ok nid:=hid nid (Nat.le_refl _) (by omega)
  have hn:nid<n:=by omega
  have one:∀ {b:Nat},b=nid→nid≤b∧b<nid+er:=fun e=>by omega
  have plain:∀ {v:AV},(∃ u k,(execOp a.eval o).run C.P w=.ok (.value u) { w with drawn:=k }∧VR ρ w v u)→r.v=v→r.sets=[]→o.wp C.P a w next Q:=by
    intro v ⟨u,k,h1,h2⟩ hv hs
    unfold Oper.wp
    rw [h1]
    have E:=dp.refl ρ w
    have W:=b7.drawn ρ.live w k
    exact hK ρ _ u E W (by rw [hs];exact hh.drawn k) (by rw [hv];exact h2.mono E W) (fun b q=>.inl q)
  have made:∀ {s:Sem Value} {v:AV} {h':aH},(execOp a.eval o).run C.P w=(do pure (Next.value (←s)):Sem Next).run C.P w→jD C.P ρ w h n nid s v h'→r.v=v→aU r.sets h=h'→o.wp C.P a w next Q:=by
    intro s v h' he ⟨u,w',ρ',h1,h2,h3,h4,h5,h6⟩ hv hs
    unfold Oper.wp
    rw [he,aS h1]
    exact hK ρ' w' u h2 h3 (by rw [hs];exact h4) (by rw [hv];exact h5) (fun b q=>(h6 b q).imp id one)
  unfold vY at hr
  split at hr
  · rename_i v obs hp
    simp only [Option.some.injEq] at hr;subst hr
    exact plain (pH hops hp ho) rfl rfl
  · rename_i hpo
    clear hpo
    generalize hop:o.op=op at hr
    split at hr
    · rename_i t x
      simp only [Option.map_eq_some_iff] at hr
      obtain ⟨⟨v,obs,rs⟩,hl,rfl⟩:=hr
      obtain ⟨u,k,h1,h2⟩:=qN (P:=C.P) hh (hops x) hl ho
      exact plain ⟨u,k,by simp only [execOp,hop];exact aS h1,h2⟩ rfl rfl
    · rename_i t x v
      simp only [Option.map_eq_some_iff] at hr
      obtain ⟨⟨b,d,obs⟩,hl,rfl⟩:=hr
      obtain ⟨w',h1,h2,h3⟩:=pI (P:=C.P) hh (hops x) (hops v) hl ho
      unfold Oper.wp
      have:(execOp a.eval o).run C.P w=.ok .skip w':=by
        simp only [execOp,hop];rw [Sem.run_bind,h1];rfl
      rw [this]
      exact hK ρ w' undef (dp.refl _ _) h3 h2 (.any _) (fun b q=>.inl q)
    · rename_i t
      simp only [Option.map_eq_some_iff] at hr
      obtain ⟨⟨v,d⟩,hl,rfl⟩:=hr
      exact made (by simp only [execOp,hop]) (pL hh hb hn hl true) rfl rfl
    · rename_i t x
      simp only [Option.map_eq_some_iff] at hr
      obtain ⟨⟨v,d⟩,hl,rfl⟩:=hr
      exact made (by simp only [execOp,hop]) (rY hh hb hn (hops x) hl) rfl rfl
    · rename_i t l c
      simp only [Option.map_eq_some_iff] at hr
      obtain ⟨⟨v,d,obs⟩,hl,rfl⟩:=hr
      exact made (by simp only [execOp,hop]) (qP hh hb hn (hops l) (hops c) hl ho) rfl rfl
    · rename_i t parts
      simp only [Option.map_eq_some_iff] at hr
      obtain ⟨v,hl,rfl⟩:=hr
      have h1:(parts.toList.map fun x=>(x.1,e x.2)).map Prod.fst=(parts.map fun (x:Nat×Operand)=>(x.1,a.eval x.2)).toList.map Prod.fst:=by simp
      have h2:bf ρ w ((parts.toList.map fun x=>(x.1,e x.2)).map Prod.snd) ((parts.map fun (x:Nat×Operand)=>(x.1,a.eval x.2)).toList.map Prod.snd):=by
        have:=bf.map hops (parts.toList.map Prod.snd)
        simpa [Function.comp_def] using this
      obtain ⟨u,k,q1,q2⟩:=pQ (P:=C.P) h1 h2 hl
      exact plain ⟨u,k,by simp only [execOp,hop];exact aS q1,q2⟩ rfl rfl
    · rename_i t len parts
      simp only [Option.map_eq_some_iff] at hr
      obtain ⟨⟨v,d⟩,hl,rfl⟩:=hr
      have h1:(parts.toList.map fun x=>(x.1,e x.2)).map Prod.fst=(parts.map fun (x:Nat×Operand)=>(x.1,a.eval x.2)).toList.map Prod.fst:=by simp
      have h2:bf ρ w ((parts.toList.map fun x=>(x.1,e x.2)).map Prod.snd) ((parts.map fun (x:Nat×Operand)=>(x.1,a.eval x.2)).toList.map Prod.snd):=by
        have:=bf.map hops (parts.toList.map Prod.snd)
        simpa [Function.comp_def] using this
      exact made (by simp only [execOp,hop]) (kw hh hb hn h1 h2 hl) rfl rfl
    · rename_i args argTypes
      split at hr
      case h_2=>cases hr
      rename_i s x t t' e1 e2
      cases ht:Nat.beq t t' with
      | false=>rw [ht] at hr;cases hr
      | true =>
      rw [ht] at hr
      have:=Nat.eq_of_beq_eq_true ht
      subst this
      simp only [cond_true] at hr
      split at hr
      case h_2=>cases hr
      rename_i alts rs ha
      simp only [Option.map_eq_some_iff] at hr
      obtain ⟨⟨alt,p'⟩,hp,rfl⟩:=hr
      have ea:args = #[s,x]:=by rw [←e1]
      have et:argTypes = #[t,t]:=by rw [←e2]
      subst ea;subst et
      have hm:=oK hh hb hn (hops s) (hops x) ha (l8 hp) ho o.type
      refine made (s:=Builtin.append_ #[t,t] o.type #[a.eval s,a.eval x]) ?_ hm rfl rfl
      simp only [execOp,hop]
      rw [ca a.eval .append #[s,x] #[t,t] o.type _ rfl]
      simp [invoke,builtin]
    · rename_i args argTypes
      split at hr
      case h_2=>cases hr
      rename_i s x t t' e1 e2
      simp only [Option.map_eq_some_iff] at hr
      obtain ⟨⟨k,b,d,obs,rs⟩,hc,rfl⟩:=hr
      have ea:args = #[s,x]:=by rw [←e1]
      have et:argTypes = #[t,t']:=by rw [←e2]
      subst ea;subst et
      obtain ⟨w',h1,h2,h3⟩:=q8 (P:=C.P) (T:=o.type) (t':=t') hh (hops s) (hops x) hc ho
      refine made (s:=Builtin.copy_ #[t,t'] o.type #[a.eval s,a.eval x]) ?_ ⟨_,w',ρ,h1,dp.refl _ _,h3,h2,.int _ _,fun b q=>.inl q⟩ rfl rfl
      simp only [execOp,hop]
      rw [ca a.eval .copy #[s,x] #[t,t'] o.type _ rfl]
      simp [invoke,builtin]
    · rename_i f args ats
      split at hr
      case h_2=>cases hr
      rename_i fid l hca
      unfold kC at hca
      split at hca
      case h_2=>cases hca
      rename_i fid' first caps hef
      simp only [Option.some.injEq,Prod.mk.injEq] at hca
      obtain ⟨rfl,rfl⟩:=hca
      have hf:=hops f
      rw [hef] at hf
      generalize hgf:a.eval f=gf at hf
      cases hf with | fn _ _ _ c1 c2 v1 v2 =>
      have hargs:bf ρ w (first++args.toList.map e++caps) (c1++args.map a.eval++c2).toList:=by
        simp only [Array.toList_append,Array.toList_map]
        exact bf.append v2 (bf.append (bf.map hops args.toList) v1)
      have hex:∀ w0,(execOp a.eval o).run C.P w0=(callFunc fid' (c1++args.map a.eval++c2)).run C.P w0:=by
        intro w0
        simp only [execOp,hop,resolve,hgf,Deferred.ofValue]
        rfl
      split at hr
      · rename_i k hk
        simp only [Option.map_eq_some_iff] at hr
        obtain ⟨⟨a,_⟩,hl,rfl⟩:=hr
        obtain ⟨u,kk,q1,q2⟩:=sb (P:=C.P) hargs (l8 hl) ho
        refine plain ⟨u,kk,?_,q2⟩ rfl rfl
        rw [hex,hC.ext fid' k _ w hk]
        exact aS q1
      · unfold ph at hr
        simp only at hr
        generalize hbs:cZ (am h) bK (bO (dv (C.mode fid').mask (first++args.toList.map e++caps))) []=bs at hr
        cases hlen:(g4 bs&&dw (am h) nid bs) with
        | false=>rw [hlen] at hr;cases hr
        | true =>
        rw [hlen] at hr
        simp only [cond_true] at hr
        rw [Bool.and_eq_true] at hlen
        split at hr
        case h_2=>cases hr
        rename_i r' obs p' hl
        cases hle:Nat.ble r'.own.length (bs.length+er) with
        | false=>rw [hle] at hr;cases hr
        | true =>
        rw [hle] at hr
        simp only [cond_true,Option.some.injEq] at hr;subst hr
        have hLs:q7 h bs:=⟨fun q1 q2=>g5 hlen.1 q1 q2,fun b q=>(gA hlen.2 b q).1⟩
        have L:=sR hh hLs
        have hcall:=hrun fid' _ _ p r' obs p' hl ho
        obtain ⟨⟨fn,hfn,hbody⟩,hcalls⟩:=hcall (ρ.lend bs) w _ (sa hh hLs) (gh hh L _ hargs)
        unfold Oper.wp
        rw [hex,hC.enter fid' fn _ w hfn hbody]
        simp only [Oper.upon]
        have hl2:(c1++args.map a.eval++c2).toList.toArray=c1++args.map a.eval++c2:=by simp
        rw [hl2] at hcalls
        refine hcalls.mono ?_
        rintro e' w' ⟨u,rfl,W,ρ',E,hbk,H,hv⟩
        rw [d9] at hbk
        obtain ⟨q1,q2,q3,q4,q5⟩:=ug hh hLs hid (fun b q=>(gA hlen.2 b q).2) hn0 (Nat.le_of_ble_eq_true hle) W E hbk H hv
        exact hK _ w' u q1 q2 q3 q4 q5
    · cases hr
structure jf where
  v:AV
  sets:List (Nat×Option ac)
  reads:List Nat
def jg(ops:Array Oper)(j:Nat) :Option Nat:=(ops[j]?).bind (·.dst)
def jh(ops:Array Oper)(o:Oper)(T:List AV) :Option Bool :=
  match o.guard with
  | none=>some true
  | some (j,want) =>
    match jg ops j with
    | none=>some false
    | some d =>
      match T[d]? with
      | some (.bool true b)=>some (b==want)
      | some (.tup _) | none=>some false
      | _=>none
def sT(ops:Array Oper)(i:Nat) :Bool:=ops.toList.any fun o=>match o.guard with | some (j,_)=>Nat.beq j i | none=>false
def mS(v:AV)(p:bH) :Option (Bool×List Bool×bH) :=
  match v,p with
  | .bool true b,p=>some (b,[],p)
  | .bool false b,none=>some (b,[],none)
  | .bool false b,some (k::r)=>some (Nat.beq k 1,[b==Nat.beq k 1],some r)
  | _,_=>none
theorem nu{ρ:aa}{w:World}{v:AV}{u:Value}{p p':bH}{b:Bool}{obs:List Bool}(hv:VR ρ w v u)(h:mS v p=some (b,obs,p'))(ho:ae obs) :u=.bool b:=by
  unfold mS at h
  split at h
  · simp only [Option.some.injEq,Prod.mk.injEq] at h;obtain ⟨rfl,rfl,rfl⟩:=h;cases hv;rfl
  · simp only [Option.some.injEq,Prod.mk.injEq] at h;obtain ⟨rfl,rfl,rfl⟩:=h;cases hv;rfl
  · simp only [Option.some.injEq,Prod.mk.injEq] at h;obtain ⟨rfl,rfl,rfl⟩:=h;cases hv
    have:=ho.1
    simp only [beq_iff_eq] at this
    rw [this]
  · cases h
def l9(ops:Array Oper)(i:Nat)(v:AV)(p:bH) :Option (AV×List Bool×bH) :=
  bif sT ops i then (mS v p).map fun r=>(.bool true r.1,r.2.1,r.2.2) else some (v,[],p)
def kD(C:j6)(run:bD)(ops:Array Oper)(n0 i:Nat)(o:Oper)(T:List AV)(h:aH)(p:bH) :Option (jf×List Bool×bH) :=
  match jh ops o T with
  | none=>none
  | some false=>some ({ v:=.tup [],sets:=[],reads:=[] },[],p)
  | some true =>
    match vY C run (vc T) (am h) (n0+i*er) p o.op with
    | none=>none
    | some r =>
      match l9 ops i r.v r.path with
      | none=>none
      | some (v,obs,p')=>some ({ v,sets:=r.sets,reads:=r.reads },r.obs++obs,p')
def kE(T:List AV)(d:Option Nat)(v:AV) :List AV :=
  match d with
  | some d=>T.set d v
  | none=>T
theorem sU{ρ:aa}{w:World}{T:List AV}{a:Act}{v:AV}{u:Value}(h:bf ρ w T a.tmps.toList)(hv:VR ρ w v u)(d:Option Nat) :bf ρ w (kE T d v) (a.put d u).tmps.toList:=by
  cases d with
  | none=>exact h
  | some d=>simp only [kE,Act.put,Array.toList_setIfInBounds];exact h.set hv d
theorem kF{ρ:aa}{w:World}{ops:Array Oper}{o:Oper}{T:List AV}{a:Act}(h:bf ρ w T a.tmps.toList){b:Bool}(hw:jh ops o T=some b) :Region.wanted o (yielded ops a.tmps)=b:=by
  unfold jh at hw
  unfold Region.wanted
  split at hw
  · rename_i hg;cases hw;simp [hg]
  · rename_i j want hg
    simp only [hg]
    unfold jg at hw
    split at hw
    · rename_i hs;cases hw;simp [yielded,hs]
    · rename_i d hs
      split at hw
      · rename_i b' hT
        cases hw
        obtain ⟨u,h1,h2⟩:=h.get d _ hT
        rw [Array.getElem?_toList] at h1
        cases h2
        simp only [yielded,hs,Option.bind_some,h1]
        cases b'<;>cases want<;>rfl
      · rename_i l hT
        cases hw
        obtain ⟨u,h1,h2⟩:=h.get d _ hT
        rw [Array.getElem?_toList] at h1
        cases h2
        simp [yielded,hs,h1]
      · rename_i hT
        cases hw
        have : a.tmps[d]? = none := by
          have hl:=h.length
          rw [Array.getElem?_eq_none]
          have : T.length ≤ d := by rcases Nat.lt_or_ge d T.length with q | q; · rw [List.getElem?_eq_getElem q] at hT; cases hT
                                    · exact q
          simp at hl;omega
        simp [yielded,hs,this]
      · cases hw
theorem HR.congr{ρ:aa}{w:World}{h h':aH}{n:Nat}(hh:HR ρ w h n)(e:∀ b,am h' b=am h b) :HR ρ w h' n :=
  ⟨fun b d q=>hh.cell b d (by rw [←e];exact q),fun b c d f q r=>hh.inj b c d f (by rw [←e];exact q) (by rw [←e];exact r),hh.fresh,hh.liveLt,hh.outLt,hh.lt,hh.rom⟩
theorem ma{C:j6}(hC:C.Ok){run:bD}(hrun:nr C.P run){ops:Array Oper}{n0 i:Nat}{o:Oper}(hi:ops[i]? = some o){T:List AV}{h:aH}{p p':bH}{r:jf}{obs:List Bool} 
    (hr:kD C run ops n0 i o T h p=some (r,obs,p')) (ho:ae obs) {ρ:aa} {w:World} {n:Nat} (hh:HR ρ w h n) (hid:∀ x,n0+i*er≤x→x<n0+i*er+er→¬ ρ.ok x) (hn:n0+i*er+er≤n) {a:Act} (hd:a.defers=[]) (hT:bf ρ w T a.tmps.toList)
    {K:Act→World→Prop} {Q:Exit→Act→World→Prop}
    (hK:∀ ρ' w' a',dp ρ ρ' w→b7 ρ.live w w'→HR ρ' w' (aU r.sets h) n→a'.defers=[]→bf ρ' w' (kE T o.dst r.v) a'.tmps.toList→(∀ b,ρ'.ok b→ρ.ok b∨(n0+i*er≤b∧b<n0+i*er+er))→K a' w'):wpOp C.P ops Q i K a w:=by
  have dput:∀ u,(a.put o.dst u).defers=[]:=by intro u;cases hdst:o.dst<;>simp [Act.put,hd]
  unfold kD at hr
  unfold wpOp
  simp only [hi]
  split at hr
  · cases hr
  · rename_i hw
    simp only [Option.some.injEq,Prod.mk.injEq] at hr;obtain ⟨rfl,rfl,rfl⟩:=hr
    rw [kF hT hw]
    simp only [Bool.false_eq_true,if_false]
    exact hK ρ w _ (dp.refl _ _) (b7.refl _ _) hh (dput _) (sU hT (.tup _ _ .nil) o.dst) (fun b q=>.inl q)
  · rename_i hw
    rw [kF hT hw]
    simp only [if_true]
    split at hr
    · cases hr
    · rename_i r' hop
      split at hr
      · cases hr
      · rename_i v obs' p'' hg
        simp only [Option.some.injEq,Prod.mk.injEq] at hr;obtain ⟨rfl,rfl,rfl⟩:=hr
        rw [au] at ho
        refine .inl (tC hC hrun hop ho.1 hh hid hn (fun x=>m6 hh.rom hT x) ?_)
        intro ρ' w' u E W hh' hv hok
        refine hK ρ' w' _ E W hh' (dput _) (sU (hT.mono E W) ?_ o.dst) hok
        unfold l9 at hg
        cases hgd:sT ops i with
        | false=>rw [hgd] at hg;simp only [cond_false,Option.some.injEq,Prod.mk.injEq] at hg;rw [←hg.1];exact hv
        | true =>
          rw [hgd] at hg
          simp only [cond_true,Option.map_eq_some_iff,Prod.mk.injEq] at hg
          obtain ⟨⟨b,ob,pp⟩,hd',rfl,rfl,rfl⟩:=hg
          rw [nu hv hd' ho.2]
          exact .bool _ _
def nv(C:j6)(run:bD)(ops:Array Oper)(n0:Nat) :Nat→List Oper→List AV→aH→bH→Option (List AV×aH×List Bool×bH)
  | _,[],T,h,p=>some (T,h,[],p)
  | i,o::l,T,h,p =>
    match kD C run ops n0 i o T h p with
    | none=>none
    | some (r,obs,p') =>
      match nv C run ops n0 (i+1) l (kE T o.dst r.v) (aU r.sets h) p' with
      | none=>none
      | some (T',h',obs',p'')=>some (T',h',obs++obs',p'')
structure iH (ρ:aa) (w:World) (n:Nat) (st:aG) (ρ':aa) (a':Act) (w':World):Prop where
  ext:dp ρ ρ' w
  wle:b7 ρ.live w w'
  sr:SR ρ' st a' w'
  le:n≤st.next
  back:∀ b,ρ'.ok b→ρ.ok b∨n≤b
theorem kG{C:j6}(hC:C.Ok){run:bD}(hrun:nr C.P run){ops:Array Oper}{n0:Nat}{Q:Exit→Act→World→Prop} :∀ (l:List Oper) (i:Nat) {T T':List AV} {h h':aH} {p p':bH} {obs:List Bool},
    (∀ j,l[j]? = ops[i+j]?)→nv C run ops n0 i l T h p=some (T',h',obs,p')→ae obs→∀ {ρ:aa} {w:World},HR ρ w h (n0+ops.size*er)→(∀ b,ρ.ok b→b<n0+i*er)→∀ {a:Act},a.defers=[]→bf ρ w T a.tmps.toList →
    (∀ ρ' w' a',dp ρ ρ' w→b7 ρ.live w w'→HR ρ' w' h' (n0+ops.size*er)→a'.defers=[]→bf ρ' w' T' a'.tmps.toList→(∀ b,ρ'.ok b→ρ.ok b∨n0≤b)→Q .normal a' w')→wpOps C.P ops Q (List.range' i l.length) a w
  | [],i,T,T',h,h',p,p',obs,hl,hr,ho,ρ,w,hh,hok,a,hd,hT,hQ=>by
    simp only [nv,Option.some.injEq,Prod.mk.injEq] at hr;obtain ⟨rfl,rfl,rfl,rfl⟩:=hr
    simp only [List.length_nil,List.range'_zero,wpOps]
    exact hQ ρ w a (dp.refl _ _) (b7.refl _ _) hh hd hT (fun b q=>.inl q)
  | o::l,i,T,T',h,h',p,p',obs,hl,hr,ho,ρ,w,hh,hok,a,hd,hT,hQ=>by
    simp only [nv] at hr
    split at hr
    case h_1=>cases hr
    rename_i r obs1 p1 h1
    split at hr
    case h_1=>cases hr
    rename_i T2 h2 obs2 p2 h3
    simp only [Option.some.injEq,Prod.mk.injEq] at hr;obtain ⟨rfl,rfl,rfl,rfl⟩:=hr
    rw [au] at ho
    have hi:ops[i]? = some o:=by have:=hl 0;simpa using this.symm
    have hlt:i<ops.size:=(Array.getElem?_eq_some_iff.1 hi).1
    simp only [List.length_cons,List.range'_succ]
    rw [wpOps_cons]
    have hS:i*er+er≤ops.size*er:=by rw [←Nat.succ_mul];exact Nat.mul_le_mul_right _ hlt
    have hi1:(i+1)*er=i*er+er:=Nat.succ_mul _ _
    refine ma hC hrun hi h1 ho.1 hh (fun x h1 h2 q=>by have:=hok _ q;omega) (by omega) hd hT ?_
    intro ρ' w' a' E W hh' hd' hT' hok'
    refine kG hC hrun l (i+1) (fun j=>by have:=hl (j+1);rw [show i+1+j=i+(j+1) from by omega];simpa using this) h3 ho.2 hh' (fun b q=>by
      rcases hok' b q with q | q
      · have:=hok b q;omega
      · omega) hd' hT' ?_
    intro ρ'' w'' a'' E' W' hh'' hd'' hT'' hb''
    exact hQ ρ'' w'' a'' (E.trans E' W.size) (W.trans W' (fun x hx q=>E.new x hx q)) hh'' hd'' hT'' (fun b q=>by
      rcases hb'' b q with q | q
      · rcases hok' b q with q | q
        · exact .inl q
        · exact .inr (by omega)
      · exact .inr q)
theorem ji{e e':Operand→AV}{l:List Operand}(h:∀ x∈l,e x=e' x) :l.map e=l.map e':=List.map_congr_left h
theorem pX{wr:Bool}{P:Program}{e e':Operand→AV}{op:Op}(h:∀ x∈op.operands,e x=e' x) :lg wr P e op=lg wr P e' op:=by
  unfold lg
  split
  all_goals simp only [Op.operands,Call.operands] at h
  case h_1=>rw [h _ (by simp)]
  case h_2=>rw [h _ (by simp)]
  case h_3=>rw [h _ (by simp),h _ (by simp),h _ (by simp)]
  case h_4=>rw [h _ (by simp)]
  case h_5=>rw [h _ (by simp),h _ (by simp)]
  case h_6=>rw [h _ (by simp)]
  case h_7=>rw [h _ (by simp)]
  case h_8=>rw [h _ (by simp)]
  case h_9 =>
    rename_i fn first caps
    rw [ji (l:=first.toList) (fun x hx=>h x (by simp at hx;simp [hx])),ji (l:=caps.toList) (fun x hx=>h x (by simp at hx;simp [hx]))]
  case h_10 =>
    rename_i t x lo hi
    rw [h x (by simp)]
    cases lo<;>cases hi<;>simp only [Option.map_none,Option.map_some]<;>first | rfl | (rw [h _ (by simp),h _ (by simp)]) | (rw [h _ (by simp)])
  case h_11 =>
    rename_i t x lo hi mx
    rw [h x (by simp),h mx (by simp)]
    cases lo<;>cases hi<;>simp only [Option.map_none,Option.map_some]<;>first | rfl | (rw [h _ (by simp),h _ (by simp)]) | (rw [h _ (by simp)])
  case h_12=>rw [h _ (by simp)]
  case h_13=>rw [h _ (by simp)]
  case h_14=>rw [h _ (by simp),h _ (by simp)]
  case h_15=>rw [h _ (by simp),h _ (by simp)]
  case h_16=>rw [h _ (by simp)]
  case h_17 =>
    rename_i xs ts
    split
    · rename_i x t hx ht
      have:xs = #[x]:=by rw [←hx]
      subst this
      rw [h x (by simp)]
    · rfl
  case h_18 =>
    rename_i xs ts
    split
    · rename_i x l hx
      have:xs=(x::l).toArray:=by rw [←hx]
      subst this
      rw [h x (by simp),ji (l:=l) (fun y hy=>h y (by simp [hy]))]
    · rfl
  case h_19 =>
    rename_i xs ts
    split
    · rename_i x l hx
      have:xs=(x::l).toArray:=by rw [←hx]
      subst this
      rw [h x (by simp),ji (l:=l) (fun y hy=>h y (by simp [hy]))]
    · rfl
  case h_20=>rfl
theorem ra{P:Program}{g g':Nat→Option ac}{t:TypeId}{x:AV}{r:AV×List Bool×List Nat}(h:kq P g t x=some r)(hg:∀ b∈r.2.2,g' b=g b) :kq P g' t x=some r:=by
  unfold kq at h ⊢
  simp only at h ⊢
  split at h
  · rename_i b w i j
    split at h
    · rename_i d hd
      simp only [Option.map_eq_some_iff] at h
      obtain ⟨r',h1,rfl⟩:=h
      have:g' b=some d:=by rw [hg b (by simp)];exact hd
      simp only [this,h1];rfl
    · cases h
  · exact h
  · cases h
theorem pY{P:Program}{g g':Nat→Option ac}{t:TypeId}{x v:AV}{r:Nat×ac×List Bool}(h:lm P g t x v=some r)(hg:g' r.1=g r.1) :lm P g' t x v=some r:=by
  unfold lm at h ⊢
  split at h
  · rename_i b w i j l inf h1 h2
    split at h
    · rename_i d hd
      cases e:Nat.beq l.length inf.size with
      | false=>rw [e] at h;cases h
      | true =>
        rw [e] at h
        simp only [cond_true,Option.map_eq_some_iff] at h
        obtain ⟨r',h3,rfl⟩:=h
        have:g' b=some d:=by rw [hg];exact hd
        simp only [h1,this,e,cond_true,h3];rfl
    · cases h
  · cases h
theorem g6{g g':Nat→Option ac}{x:AV}{r:Nat×Nat×ac×List Bool×List Nat}(h:oJ g x=some r)(hg:∀ b∈r.2.2.2.2,g' b=g b) :oJ g' x=some r:=by
  unfold oJ at h ⊢
  split at h
  · rename_i b w es i len cap
    split at h
    · rename_i d hd
      simp only [Option.map_eq_some_iff] at h
      obtain ⟨r',h1,rfl⟩:=h
      have:g' b=some d:=by rw [hg b (by simp)];exact hd
      simp only [this,h1];rfl
    · cases h
  · exact h
  · cases h
theorem oM{P:Program}{g g':Nat→Option ac}{nid:Nat}{t:TypeId}{s x:AV}{r:List my×List Nat}(h:jd P g nid t s x=some r)(hg:∀ b∈r.2,g' b=g b) :jd P g' nid t s x=some r:=by
  unfold jd at h ⊢
  split at h
  case h_2=>cases h
  rename_i e ht
  split at h
  case h_2=>cases h
  rename_i inf hi
  split at h
  case h_2=>cases h
  rename_i z hz
  cases hzs:Nat.beq z.cells.size inf.size with
  | false=>rw [hzs] at h;cases h
  | true =>
  rw [hzs] at h
  simp only [cond_true] at h ⊢
  split at h
  · exact h
  · exact h
  · exact h
  · rename_i hx0
    split at h
    case h_2=>cases h
    rename_i m es nb obs rs hs
    cases hes:Nat.beq es inf.size with
    | false=>rw [hes] at h;cases h
    | true =>
    rw [hes] at h
    simp only [cond_true,Option.some.injEq] at h;subst h
    have:=g6 (g':=g') hs hg
    simp only [this,hes,cond_true]
  · exact h
  · rename_i hx0
    split at h
    case h_2=>cases h
    rename_i m es nb obs rs hs
    cases hes:Nat.beq es inf.size with
    | false=>rw [hes] at h;cases h
    | true =>
    rw [hes] at h
    simp only [cond_true,Option.some.injEq] at h;subst h
    have:=g6 (g':=g') hs hg
    simp only [this,hes,cond_true]
  · rename_i b w es len cap hx0 _
    split at h
    case h_2=>cases h
    rename_i d m es' nb obs rs hd hs
    cases hes:(Nat.beq es inf.size&&Nat.beq es' es) with
    | false=>rw [hes] at h;cases h
    | true =>
    rw [hes] at h
    simp only [cond_true] at h
    split at h
    case h_2=>cases h
    rename_i old obs' hsub
    simp only [Option.map_eq_some_iff] at h
    obtain ⟨d',happ,rfl⟩:=h
    have h1:=g6 (g':=g') hs (fun b' hb=>hg b' (by simp only [List.mem_cons];exact .inr hb))
    have h2:g' b=some d:=by rw [hg b (by simp)];exact hd
    simp only [h1,h2,hes,cond_true,hsub,happ];rfl
  · cases h
mutual
theorem g7 {σ:Nat→Option Nat} {g g':Nat→Option ac}:∀ (n:Nat) (v:AV),(∀ b∈(lu σ g n v).2,g' b=g b)→lu σ g' n v=lu σ g n v
  | 0,_,_=>rfl
  | n + 1, v, h => by
    cases v<;>simp only [lu] at h ⊢
    · rename_i b w i j
      cases hs:σ b with
      | some c=>rfl
      | none =>
      rw [hs] at h
      simp only at h ⊢
      have hb:g' b=g b:=by
        cases q:g b with
        | none=>rw [q] at h;have:=h b (by simp);rw [this,q]
        | some d=>rw [q] at h;have:=h b (by simp);rw [this,q]
      rw [hb]
      cases q:g b with
      | none=>rfl
      | some d =>
        rw [q] at h
        have:=nw (σ:=σ) (g:=g) (g':=g') n d (fun b' hb'=>h b' (by simp only [List.mem_cons];exact .inr hb'))
        simp only [this]
    · rename_i b w es i len cap
      cases hs:σ b with
      | some c=>rfl
      | none =>
      rw [hs] at h
      simp only at h ⊢
      have hb:g' b=g b:=by
        cases q:g b with
        | none=>rw [q] at h;have:=h b (by simp);rw [this,q]
        | some d=>rw [q] at h;have:=h b (by simp);rw [this,q]
      rw [hb]
      cases q:g b with
      | none=>rfl
      | some d =>
        rw [q] at h
        have:=nw (σ:=σ) (g:=g) (g':=g') n d (fun b' hb'=>h b' (by simp only [List.mem_cons];exact .inr hb'))
        simp only [this]
    · rename_i f l1 l2
      rw [dR n l1 (fun b hb=>h b (by simp [hb])),dR n l2 (fun b hb=>h b (by simp [hb]))]
    · rename_i l;rw [dR n l h]
    · rename_i l;rw [dR n l h]
    · rename_i t v;rw [g7 n v h]
theorem dR {σ:Nat→Option Nat} {g g':Nat→Option ac}:∀ (n:Nat) (l:List AV),(∀ b∈(kB σ g n l).2,g' b=g b)→kB σ g' n l=kB σ g n l
  | 0,_,_=>rfl
  | n+1,[],_=>rfl
  | n+1,v::l,h=>by
    simp only [kB] at h ⊢
    rw [g7 n v (fun b hb=>h b (by simp [hb])),dR n l (fun b hb=>h b (by simp [hb]))]
theorem nw {σ:Nat→Option Nat} {g g':Nat→Option ac}:∀ (n:Nat) (d:ac),(∀ b∈(j4 σ g n d).2,g' b=g b)→j4 σ g' n d=j4 σ g n d
  | 0,_,_=>rfl
  | n+1,d,h=>by
    cases d<;>simp only [j4] at h ⊢
    rename_i l;rw [dR n l h]
end
theorem dx{σ:Nat→Option Nat}{g g':Nat→Option ac} :∀ (m:List Bool) (l:List AV),(∀ b∈(cg σ g m l).2,g' b=g b)→cg σ g' m l=cg σ g m l
  | m,[],_=>by cases m<;>rfl
  | true::m,v::l,h=>by
    simp only [cg] at h ⊢
    rw [dx m l h]
  | false::m,v::l,h=>by
    simp only [cg] at h ⊢
    rw [g7 _ v (fun b hb=>h b (by simp [hb])),dx m l (fun b hb=>h b (by simp [hb]))]
  | [],v::l,h=>by
    simp only [cg] at h ⊢
    rw [g7 _ v (fun b hb=>h b (by simp [hb])),dx [] l (fun b hb=>h b (by simp [hb]))]
theorem ly{g:Nat→Option ac} :∀ (n:Nat) (t acc:List Nat),∀ b∈acc,b∈cZ g n t acc
  | 0,t,acc,b,h=>h
  | n+1,[],acc,b,h=>h
  | n+1,x::t,acc,b,h=>by
    simp only [cZ]
    split
    · exact ly n _ _ b h
    · exact ly n _ _ b (by simp [h])
theorem iI{g g':Nat→Option ac} :∀ (n:Nat) (t acc:List Nat),(∀ b∈cZ g n t acc,g' b=g b)→cZ g' n t acc=cZ g n t acc
  | 0,t,acc,_=>rfl
  | n+1,[],acc,_=>rfl
  | n+1,x::t,acc,h=>by
    simp only [cZ] at h ⊢
    split
    · rename_i e;rw [e] at h;exact iI n _ _ h
    · rename_i e
      rw [e] at h
      simp only at h
      have hx:g' x=g x:=h x (ly n _ _ x (by simp))
      rw [hx]
      exact iI n _ _ h
theorem kH{σ:Nat→Option Nat}{g g':Nat→Option ac} :∀ (l:List Nat),(∀ b∈l,g' b=g b)→eB σ g' l=eB σ g l
  | [],_=>rfl
  | b::l,h=>by simp only [eB];rw [h b (by simp),kH l (fun x hx=>h x (by simp [hx]))]
theorem iJ{g g':Nat→Option ac}{nid:Nat} :∀ (l:List Nat),(∀ b∈l,g' b=g b)→dw g' nid l=dw g nid l
  | [],_=>rfl
  | b::l,h=>by simp only [dw];rw [h b (by simp),iJ l (fun x hx=>h x (by simp [hx]))]
theorem rb{C:j6}{run:bD}{g g':Nat→Option ac}{nid:Nat}{p:bH}{fid:FuncId}{vals:List AV}{r:wh}(h:ph C run g nid p fid vals=some r)(hg:∀ b∈r.reads,g' b=g b) :ph C run g' nid p fid vals=some r:=by
  have hreads:r.reads=cZ g bK (bO (dv (C.mode fid).mask vals)) []++(cg (cU (cZ g bK (bO (dv (C.mode fid).mask vals)) []) 0) g (C.mode fid).mask vals).2:=by
    unfold ph at h
    simp only at h
    generalize (g4 (cZ g bK (bO (dv (C.mode fid).mask vals)) [])&&dw g nid (cZ g bK (bO (dv (C.mode fid).mask vals)) []))=c at h
    cases c with
    | false=>cases h
    | true =>
      simp only [cond_true] at h
      split at h
      case h_2=>cases h
      rename_i r' obs p' hl
      cases hle:Nat.ble r'.own.length ((cZ g bK (bO (dv (C.mode fid).mask vals)) []).length+er) with
      | false=>rw [hle] at h;cases h
      | true=>rw [hle] at h;simp only [cond_true,Option.some.injEq] at h;rw [←h]
  rw [hreads] at hg
  have e1:=iI (g:=g) (g':=g') bK (bO (dv (C.mode fid).mask vals)) [] (fun b hb=>hg b (by simp [hb]))
  have e2:=dx (σ:=cU (cZ g bK (bO (dv (C.mode fid).mask vals)) []) 0) (g:=g) (g':=g') (C.mode fid).mask vals (fun b hb=>hg b (by simp [hb]))
  have e3:=kH (σ:=cU (cZ g bK (bO (dv (C.mode fid).mask vals)) []) 0) (g:=g) (g':=g') (cZ g bK (bO (dv (C.mode fid).mask vals)) []) (fun b hb=>hg b (by simp [hb]))
  have e4:=iJ (nid:=nid) (g:=g) (g':=g') (cZ g bK (bO (dv (C.mode fid).mask vals)) []) (fun b hb=>hg b (by simp [hb]))
  unfold ph at h ⊢
  simp only at h ⊢
  rw [e1,e2,e3,e4]
  exact h
theorem rc{P:Program}{g g':Nat→Option ac}{t:TypeId}{s x:AV}{r:Nat×Nat×ac×List Bool×List Nat}(h:pf P g t s x=some r)(hg:∀ b∈r.2.2.2.2,g' b=g b) :pf P g' t s x=some r:=by
  unfold pf at h ⊢
  split at h
  case h_2=>cases h
  rename_i e b w es i len cap ht
  split at h
  case h_2=>cases h
  rename_i inf blk m es' nb obs rs hi hb hsrc
  have hr:r.2.2.2.2=b::rs:=by
    cases h1:Nat.beq inf.size 1&&Nat.beq es' 1 with
    | false=>rw [h1] at h;cases h
    | true =>
      rw [h1] at h
      simp only [cond_true] at h
      split at h
      case h_2=>cases h
      rename_i l hl
      cases h2:bV l with
      | false=>rw [h2] at h;cases h
      | true =>
        rw [h2] at h
        simp only [cond_true,Option.map_eq_some_iff] at h
        obtain ⟨_,_,rfl⟩:=h
        rfl
  have q1:g' b=some blk:=by rw [hg b (by rw [hr];simp)];exact hb
  have q2:=g6 hsrc (g':=g') (fun c hc=>hg c (by rw [hr];exact List.mem_cons_of_mem _ hc))
  rw [hi,q1,q2]
  exact h
theorem tD{C:j6}{run:bD}{e e':Operand→AV}{g g':Nat→Option ac}{nid:Nat}{p:bH}{op:Op}{r:wh}(h:vY C run e g nid p op=some r)(he:∀ x∈op.operands,e' x=e x)(hg:∀ b∈r.reads,g' b=g b) :
    vY C run e' g' nid p op=some r:=by
  unfold vY at h ⊢
  rw [pX he]
  split at h
  · exact h
  · rename_i hp
    clear hp
    split at h
    all_goals simp only [Op.operands,Call.operands] at he
    · rename_i t x
      simp only [Option.map_eq_some_iff] at h ⊢
      obtain ⟨r',h1,rfl⟩:=h
      exact ⟨r',by rw [he x (by simp)];exact ra h1 hg,rfl⟩
    · rename_i t x v
      simp only [Option.map_eq_some_iff] at h ⊢
      obtain ⟨r',h1,rfl⟩:=h
      exact ⟨r',by rw [he x (by simp),he v (by simp)];exact pY h1 (hg _ (by simp)),rfl⟩
    · exact h
    · rename_i t x;rw [he x (by simp)];exact h
    · rename_i t l c;rw [he l (by simp),he c (by simp)];exact h
    · rename_i t parts
      have:(parts.toList.map fun x=>(x.1,e' x.2))=(parts.toList.map fun x=>(x.1,e x.2)):=List.map_congr_left fun x hx=>by rw [he x.2 (by simp;exact ⟨x.1,by simpa using hx⟩)]
      rw [this];exact h
    · rename_i t len parts
      have:(parts.toList.map fun x=>(x.1,e' x.2))=(parts.toList.map fun x=>(x.1,e x.2)):=List.map_congr_left fun x hx=>by rw [he x.2 (by simp;exact ⟨x.1,by simpa using hx⟩)]
      rw [this];exact h
    · rename_i args ats
      split at h
      case h_2=>cases h
      rename_i s x t t' e1 e2
      cases ht:Nat.beq t t' with
      | false=>rw [ht] at h;cases h
      | true =>
      rw [ht] at h
      simp only [cond_true] at h ⊢
      have ea:args = #[s,x]:=by rw [←e1]
      subst ea
      rw [he s (by simp),he x (by simp)]
      split at h
      case h_2=>cases h
      rename_i alts rs ha
      simp only [Option.map_eq_some_iff] at h ⊢
      obtain ⟨r',h1,rfl⟩:=h
      have:=oM (g':=g') ha hg
      simp only [this,Option.map_eq_some_iff]
      exact ⟨r',h1,rfl⟩
    · rename_i args ats
      split at h
      case h_2=>cases h
      rename_i s x t t' e1 e2
      have ea:args = #[s,x]:=by rw [←e1]
      subst ea
      rw [he s (by simp),he x (by simp)]
      simp only [Option.map_eq_some_iff] at h ⊢
      obtain ⟨r',h1,rfl⟩:=h
      exact ⟨r',rc h1 hg,rfl⟩
    · rename_i f args ats
      have hf:e' f=e f:=he f (by simp)
      have hargs:args.toList.map e'=args.toList.map e:=List.map_congr_left fun x hx=>he x (by simp at hx;simp [hx])
      split at h
      case h_2=>cases h
      rename_i fid l hca
      have:kC e' f args=some (fid,l):=by
        unfold kC at hca ⊢
        rw [hf,hargs];exact hca
      simp only [this]
      split at h
      · exact h
      · exact rb h hg
    · cases h
def sc(l:List Operand) :List Nat:=l.filterMap fun | .tmp t=>some t | _=>none
def fj(ops:Array Oper)(o:Oper) :List Nat :=
  (match o.dst with | some d=>[d] | none=>[])++(sc o.op.operands.toList++(match o.guard with | some (j,_)=>(match jg ops j with | some d=>[d] | none=>[]) | none=>[]))
def dS(s:List (Nat×Option ac)) :List Nat:=s.map Prod.fst
def jj(ms:List Nat)(o:Oper) :Nat:=o.after.toList.foldl (fun m e=>bif Region.binds .any e then m ||| (2^e.on ||| ms.getD e.on 0) else m) 0
def ui(x:Nat) :List Nat→Bool
  | []=>false
  | y::l=>Nat.beq x y||ui x l
def sd:List Nat→List Nat→Bool
  | [],_=>true
  | x::l,m=>!ui x m&&sd l m
theorem re{x:Nat} :∀ {l:List Nat},ui x l=true↔x∈l
  | []=>by simp [ui]
  | y::l=>by simp [ui,re (l:=l)]
theorem jk{l m:List Nat}(h:sd l m=true) :∀ x,x∈l→x∈m→False:=by
  induction l with
  | nil=>intro x hx;cases hx
  | cons y l ih =>
    simp only [sd,Bool.and_eq_true,Bool.not_eq_true'] at h
    intro x hx hm
    rcases List.mem_cons.1 hx with rfl | hx
    · have:=re.2 hm;rw [this] at h;cases h.1
    · exact ih h.2 x hx hm
def dJ(ops:Array Oper)(o:Oper)(r:jf)(o':Oper)(r':jf) :Bool :=
  sd o.dst.toList (fj ops o')&&(sd o'.dst.toList (fj ops o)&&(sd (dS r.sets) (r'.reads++dS r'.sets)&&sd (dS r'.sets) (r.reads++dS r.sets)))
def iK(ops:Array Oper)(mask:Nat)(o':Oper)(r':jf) :Nat→List (Oper×jf)→Bool
  | _,[]=>true
  | i,x::l=>(mask.testBit i||dJ ops x.1 x.2 o' r')&&iK ops mask o' r' (i+1) l
def nx(ops:Array Oper) :List (Oper×jf)→List Nat→List (Oper×jf)→Bool
  | _,_,[]=>true
  | pre,ms,x::l =>
    x.1.after.toList.all (fun e=>!Region.binds .any e||Nat.blt e.on pre.length) &&
    (iK ops (jj ms x.1) x.1 x.2 0 pre&&nx ops (pre++[x]) (ms++[jj ms x.1]) l)
def dq(L:Nat→Bool) :Nat→List (Oper×jf)→List AV×aH→List AV×aH
  | _,[],s=>s
  | i,x::l,s=>dq L (i+1) l (bif L i then (kE s.1 x.1.dst x.2.v,aU x.2.sets s.2) else s)
theorem kI(T:List AV)(d:Option Nat)(v:AV)(t:Nat) :(kE T d v)[t]? = if d=some t then (T[t]?).map (fun _=>v) else T[t]?:=by
  cases d with
  | none=>simp [kE]
  | some d =>
    simp only [kE,Option.some.injEq]
    rw [List.getElem?_set]
    by_cases h:d=t
    · subst h
      simp only [if_true]
      by_cases hl:d<T.length
      · simp [hl]
      · simp [hl]
    · simp [h]
theorem ee{h h':aH}{b:Nat} :∀ (s:List (Nat×Option ac)) {h h':aH},am h b=am h' b→am (aU s h) b=am (aU s h') b
  | [],_,_,e=>e
  | (c,some d)::s,h,h',e=>by
    simp only [aU]
    exact ee (h:=h) (h':=h') s (by rw [bd,bd,e])
  | (c,none)::s,h,h',e=>by
    simp only [aU]
    exact ee (h:=h) (h':=h') s (by rw [dO,dO,e])
theorem ef{b:Nat} :∀ (s:List (Nat×Option ac)) {h:aH},b ∉ dS s→am (aU s h) b=am h b
  | [],_,_=>rfl
  | (c,some d)::s,h,hb=>by
    simp only [dS,List.map_cons,List.mem_cons,not_or] at hb
    simp only [aU]
    rw [ef s hb.2,bd,if_neg (fun e=>hb.1 e.symm)]
  | (c,none)::s,h,hb=>by
    simp only [dS,List.map_cons,List.mem_cons,not_or] at hb
    simp only [aU]
    rw [ef s hb.2,dO,if_neg (fun e=>hb.1 e.symm)]
theorem pZ{L L':Nat→Bool}{t:Nat} :∀ (l:List (Oper×jf)) (i:Nat) {s s':List AV×aH},(∀ k x,l[k]? = some x→x.1.dst=some t→L (i+k)=L' (i+k))→s.1[t]? = s'.1[t]?→(dq L i l s).1[t]? = (dq L' i l s').1[t]?
  | [],_,_,_,_,e=>e
  | x::l,i,s,s',h,e=>by
    simp only [dq]
    refine pZ l (i+1) (fun k y hy hd=>by have:=h (k+1) y (by simpa using hy) hd;rw [show i+1+k=i+(k+1) from by omega];exact this) ?_
    by_cases hd:x.1.dst=some t
    · have:=h 0 x (by simp) hd
      simp only [Nat.add_zero] at this
      rw [this]
      cases L' i with
      | true=>simp only [cond_true,kI,hd,if_true,e]
      | false=>exact e
    · cases L i<;>cases L' i<;>simp only [cond_true,cond_false,kI,if_neg hd,e]
theorem p5{L L':Nat→Bool}{b:Nat} :∀ (l:List (Oper×jf)) (i:Nat) {s s':List AV×aH},(∀ k x,l[k]? = some x→b∈dS x.2.sets→L (i+k)=L' (i+k))→am s.2 b=am s'.2 b→am (dq L i l s).2 b=am (dq L' i l s').2 b
  | [],_,_,_,_,e=>e
  | x::l,i,s,s',h,e=>by
    simp only [dq]
    refine p5 l (i+1) (fun k y hy hd=>by have:=h (k+1) y (by simpa using hy) hd;rw [show i+1+k=i+(k+1) from by omega];exact this) ?_
    by_cases hd:b∈dS x.2.sets
    · have:=h 0 x (by simp) hd
      simp only [Nat.add_zero] at this
      rw [this]
      cases L' i with
      | true=>simp only [cond_true];exact ee (h:=s.2) (h':=s'.2) _ e
      | false=>exact e
    · cases L i<;>cases L' i<;>simp only [cond_true,cond_false,ef _ hd,e]
def aO:List (Oper×jf)→List AV×aH→List AV×aH
  | [],s=>s
  | x::l,s=>aO l (kE s.1 x.1.dst x.2.v,aU x.2.sets s.2)
theorem ny(l m:List (Oper×jf))(s:List AV×aH) :aO (l++m) s=aO m (aO l s):=by
  induction l generalizing s with
  | nil=>rfl
  | cons x l ih=>simp only [List.cons_append,aO,ih]
theorem mT:∀ (l:List (Oper×jf)) (i j:Nat) (s:List AV×aH),dq (fun k=>decide (k<i+j)) i l s=aO (l.take j) s
  | [],i,j,s=>by simp [dq,aO]
  | x::l,i,0,s=>by
    have:∀ (l:List (Oper×jf)) (i':Nat),i≤i'→∀ s,dq (fun k=>decide (k<i+0)) i' l s=s:=by
      intro l
      induction l with
      | nil=>intro _ _ s;rfl
      | cons y l ih =>
        intro i' hi s
        simp only [dq]
        have:decide (i'<i+0)=false:=by simp;omega
        rw [this];exact ih (i'+1) (by omega) s
    simp only [List.take_zero,aO]
    exact this _ i (Nat.le_refl _) s
  | x::l,i,j+1,s=>by
    simp only [dq,List.take_succ_cons,aO]
    have h1:decide (i<i+(j+1))=true:=by simp
    rw [h1]
    simp only [cond_true]
    have:=mT l (i+1) j (kE s.1 x.1.dst x.2.v,aU x.2.sets s.2)
    rw [show i+1+j=i+(j+1) from by omega] at this
    exact this
structure uj (ops:Array Oper) (l:List (Oper×jf)) (ms:List Nat):Prop where
  edge:∀ (j:Nat) (x:Oper×jf),l[j]? = some x→∀ e∈x.1.after,Region.binds .any e=true→e.on<j
  mask:∀ (j:Nat) (x:Oper×jf),l[j]? = some x→∃ m:Nat,ms[j]? = some m∧∀ i:Nat,m.testBit i=true→∃ e∈x.1.after,Region.binds .any e=true∧(e.on=i∨∃ m':Nat,ms[e.on]? = some m'∧m'.testBit i=true)
  pair:∀ (i j:Nat) (x y:Oper×jf),l[i]? = some x→l[j]? = some y→i<j→(∃ m:Nat,ms[j]? = some m∧m.testBit i=true)∨dJ ops x.1 x.2 y.1 y.2=true
theorem nA(ms:List Nat) :∀ (es:List Edge) (m0 i:Nat),(es.foldl (fun m e=>bif Region.binds .any e then m ||| (2^e.on ||| ms.getD e.on 0) else m) m0).testBit i=true →
    m0.testBit i=true∨∃ e∈es,Region.binds .any e=true∧(e.on=i∨(ms.getD e.on 0).testBit i=true)
  | [],m0,i,h=>.inl h
  | e::es,m0,i,h=>by
    simp only [List.foldl_cons] at h
    rcases nA ms es _ i h with h | ⟨e',h1,h2,h3⟩
    · cases hb:Region.binds .any e with
      | false=>rw [hb] at h;exact .inl h
      | true =>
        rw [hb] at h
        simp only [cond_true,Nat.testBit_or,Bool.or_eq_true,Nat.testBit_two_pow,decide_eq_true_eq] at h
        rcases h with h | h | h
        · exact .inl h
        · exact .inr ⟨e,by simp,hb,.inl h⟩
        · exact .inr ⟨e,by simp,hb,.inr h⟩
    · exact .inr ⟨e',by simp [h1],h2,h3⟩
theorem jI{ops:Array Oper}{mask:Nat}{o':Oper}{r':jf} :∀ {l:List (Oper×jf)} {i:Nat},iK ops mask o' r' i l=true→∀ k x,l[k]? = some x→mask.testBit (i+k)=true∨dJ ops x.1 x.2 o' r'=true
  | [],_,_,k,x,h=>by simp at h
  | y::l,i,h,0,x,hx=>by
    simp only [iK,Bool.and_eq_true,Bool.or_eq_true] at h
    simp at hx;subst hx;simpa using h.1
  | y::l,i,h,k+1,x,hx=>by
    simp only [iK,Bool.and_eq_true,Bool.or_eq_true] at h
    have:=jI h.2 k x (by simpa using hx)
    rw [show i+1+k=i+(k+1) from by omega] at this;exact this
theorem mb{ops:Array Oper} :∀ (l pre:List (Oper×jf)) (ms:List Nat),ms.length=pre.length→nx ops pre ms l=true→uj ops pre ms→∃ ms',uj ops (pre++l) ms'
  | [],pre,ms,_,_,D=>⟨ms,by simpa using D⟩
  | x::l,pre,ms,hl,h,D=>by
    simp only [nx,Bool.and_eq_true] at h
    obtain ⟨h1,h2,h3⟩:=h
    have:=mb l (pre++[x]) (ms++[jj ms x.1]) (by simp [hl]) h3 ?_
    · simpa using this
    have old:∀ (j:Nat) (y:Oper×jf),(pre++[x])[j]? = some y→(j<pre.length∧pre[j]? = some y)∨(j=pre.length∧y=x):=by
      intro j y hy
      rw [List.getElem?_append] at hy
      split at hy
      · rename_i q;exact .inl ⟨q,hy⟩
      · rename_i q
        have:j-pre.length=0:=by
          rcases Nat.eq_zero_or_pos (j-pre.length) with r | r
          · exact r
          · rw [List.getElem?_eq_none (by simp;omega)] at hy;cases hy
        rw [this] at hy;simp at hy;exact .inr ⟨by omega,hy.symm⟩
    have msl:∀ (j m:Nat),ms[j]? = some m→(ms++[jj ms x.1])[j]? = some m:=by
      intro j m hm
      rw [List.getElem?_append_left (List.getElem?_eq_some_iff.1 hm).1];exact hm
    have msn:(ms++[jj ms x.1])[pre.length]? = some (jj ms x.1):=by
      rw [←hl,List.getElem?_append_right (Nat.le_refl _)];simp
    have hedge:∀ e∈x.1.after,Region.binds .any e=true→e.on<pre.length:=by
      intro e he hb
      have:=List.all_eq_true.1 h1 e (by simpa using he)
      rw [hb] at this
      simpa [Nat.blt_eq] using this
    refine ⟨fun j y hy=>?_,fun j y hy=>?_,fun i j a b ha hb hij=>?_⟩
    · rcases old j y hy with ⟨q,hy⟩ | ⟨rfl,rfl⟩
      · exact D.edge j y hy
      · exact hedge
    · rcases old j y hy with ⟨q,hy⟩ | ⟨rfl,rfl⟩
      · obtain ⟨m,k1,k2⟩:=D.mask j y hy
        refine ⟨m,msl j m k1,fun i hi=>?_⟩
        obtain ⟨e,e1,e2,e3⟩:=k2 i hi
        exact ⟨e,e1,e2,e3.imp id fun ⟨m',q1,q2⟩=>⟨m',msl _ m' q1,q2⟩⟩
      · refine ⟨_,msn,fun i hi=>?_⟩
        rcases nA ms y.1.after.toList 0 i hi with q | ⟨e,e1,e2,e3⟩
        · simp at q
        · refine ⟨e,by simpa using e1,e2,e3.imp id fun q=>?_⟩
          rw [List.getD_eq_getElem?_getD] at q
          cases hm:ms[e.on]? with
          | none=>rw [hm] at q;simp at q
          | some m'=>rw [hm] at q;exact ⟨m',msl _ m' hm,q⟩
    · rcases old j b hb with ⟨q,hb⟩ | ⟨rfl,rfl⟩
      · rcases old i a ha with ⟨q',ha⟩ | ⟨rfl,rfl⟩
        · exact (D.pair i j a b ha hb hij).imp (fun ⟨m,k1,k2⟩=>⟨m,msl j m k1,k2⟩) id
        · omega
      · rcases old i a ha with ⟨q',ha⟩ | ⟨rfl,rfl⟩
        · have:=jI h2 i a ha
          rw [Nat.zero_add] at this
          exact this.imp (fun k=>⟨_,msn,k⟩) id
        · omega
theorem se{l:List Operand}{t:Nat}(h:Operand.tmp t∈l) :t∈sc l:=by
  simp only [sc,List.mem_filterMap];exact ⟨_,h,rfl⟩
theorem rf{C:j6}{run:bD}{ops:Array Oper}{n0 i:Nat}{o:Oper}{T T':List AV}{h h':aH}{p p':bH}{r:jf}{obs:List Bool}(hr:kD C run ops n0 i o T h p=some (r,obs,p')) 
    (hT:∀ t∈fj ops o,T'[t]? = T[t]?) (hh:∀ b∈r.reads,am h' b=am h b):kD C run ops n0 i o T' h' p=some (r,obs,p'):=by
  have hw:jh ops o T'=jh ops o T:=by
    unfold jh
    cases hg:o.guard with
    | none=>rfl
    | some x =>
      obtain ⟨j,want⟩:=x
      simp only
      cases hs:jg ops j with
      | none=>rfl
      | some d=>simp only;rw [hT d (by simp [fj,hg,hs])]
  unfold kD at hr ⊢
  rw [hw]
  split at hr
  · cases hr
  · exact hr
  · split at hr
    · cases hr
    · rename_i r' hop
      have:vY C run (vc T') (am h') (n0+i*er) p o.op=some r':=by
        refine tD hop (fun x hx=>?_) (fun b hb=>?_)
        · cases x with
          | tmp t=>simp only [vc];rw [hT t (by simp only [fj,List.mem_append];exact .inr (.inl (se (by simpa using hx))))]
          | _=>rfl
        · apply hh
          split at hr
          · cases hr
          · simp only [Option.some.injEq,Prod.mk.injEq] at hr;rw [←hr.1];exact hb
      simp only [this]
      exact hr
def nB(C:j6)(run:bD)(ops:Array Oper)(n0:Nat) :Nat→List Oper→List AV→aH→bH→Option (List jf×List AV×aH×List Bool×bH)
  | _,[],T,h,p=>some ([],T,h,[],p)
  | i,o::l,T,h,p =>
    match kD C run ops n0 i o T h p with
    | none=>none
    | some (r,obs,p') =>
      match nB C run ops n0 (i+1) l (kE T o.dst r.v) (aU r.sets h) p' with
      | none=>none
      | some (rs,T',h',obs',p'')=>some (r::rs,T',h',obs++obs',p'')
theorem mc{C:j6}{run:bD}{ops:Array Oper}{n0:Nat} :∀ (l:List Oper) (i:Nat) {T T':List AV} {h h':aH} {p p':bH} {obs:List Bool} {rs:List jf},nB C run ops n0 i l T h p=some (rs,T',h',obs,p')→ae obs →
    rs.length=l.length∧aO (l.zip rs) (T,h)=(T',h')∧∀ (j:Nat) (o:Oper),l[j]? = some o→∃ r obs' q q',rs[j]? = some r∧ae obs' ∧
      kD C run ops n0 (i+j) o (aO ((l.zip rs).take j) (T,h)).1 (aO ((l.zip rs).take j) (T,h)).2 q=some (r,obs',q')
  | [],i,T,T',h,h',p,p',obs,rs,hr,_=>by
    simp only [nB,Option.some.injEq,Prod.mk.injEq] at hr;obtain ⟨rfl,rfl,rfl,rfl,rfl⟩:=hr
    exact ⟨rfl,rfl,fun j o h=>by simp at h⟩
  | o::l,i,T,T',h,h',p,p',obs,rs,hr,ho=>by
    simp only [nB] at hr
    split at hr
    case h_1=>cases hr
    rename_i r obs1 p1 h1
    split at hr
    case h_1=>cases hr
    rename_i rs2 T2 h2 obs2 p2 h3
    simp only [Option.some.injEq,Prod.mk.injEq] at hr;obtain ⟨rfl,rfl,rfl,rfl,rfl⟩:=hr
    rw [au] at ho
    obtain ⟨a1,a2,a3⟩:=mc l (i+1) h3 ho.2
    refine ⟨by simp [a1],by simpa [aO] using a2,fun j o' hj=>?_⟩
    cases j with
    | zero=>simp at hj;subst hj;exact ⟨r,obs1,p,p1,by simp,ho.1,by simpa [aO] using h1⟩
    | succ j =>
      obtain ⟨r',ob,q,q',b1,b2,b3⟩:=a3 j o' (by simpa using hj)
      refine ⟨r',ob,q,q',by simpa using b1,b2,?_⟩
      rw [show i+(j+1)=i+1+j from by omega]
      simpa [aO] using b3
theorem pk{p q:Nat→Bool} :∀ {l:List Nat} {j:Nat},j∈l→p j=true→q j=false→(∀ i,q i=true→p i=true)→l.countP q<l.countP p
  | [],_,h,_,_,_=>by cases h
  | x::l,j,h,hp,hq,hi=>by
    have mono:∀ l:List Nat,l.countP q≤l.countP p:=fun l=>List.countP_mono_left fun x _=>hi x
    simp only [List.countP_cons]
    rcases List.mem_cons.1 h with rfl | h
    · rw [hp,hq];have:=mono l;simp;omega
    · have:=pk h hp hq hi
      by_cases hx:q x=true
      · rw [hx,hi x hx];omega
      · have hq':q x=false:=by simpa using hx
        rw [hq'];simp only [Bool.false_eq_true,if_false];split<;>omega
theorem vg{i j y:Nat}(h1:i*er≤y)(h2:y<i*er+er)(h3:j*er≤y)(h4:y<j*er+er) :i=j:=by
  have hS:0<er:=by decide
  have a:y/er=i:=by rw [Nat.div_eq_iff hS];omega
  have b:y/er=j:=by rw [Nat.div_eq_iff hS];omega
  omega
theorem uk{C:j6}(hC:C.Ok){run:bD}(hrun:nr C.P run){ops:Array Oper}{n0:Nat}{T0:List AV}{h0:aH}{rs:List jf}{ms:List Nat}(D:uj ops (ops.toList.zip rs) ms)(hlen:rs.length=ops.size) 
    (each:∀ (j:Nat) (o:Oper),ops.toList[j]? = some o→∃ r obs' q q',rs[j]? = some r∧ae obs' ∧
      kD C run ops n0 j o (aO ((ops.toList.zip rs).take j) (T0,h0)).1 (aO ((ops.toList.zip rs).take j) (T0,h0)).2 q=some (r,obs',q'))
    {Q:Exit→Act→World→Prop}:∀ (fuel:Nat) (listed:Array Bool),listed.size=ops.size→(∀ (j:Nat) (o:Oper),ops[j]? = some o→listed.getD j false=true→∀ e∈o.after,Region.binds .any e=true→listed.getD e.on false=true) →
      (List.range ops.size).countP (fun i=>!listed.getD i false)≤fuel→∀ {ρ:aa} {w:World} {a:Act},HR ρ w (dq (fun i=>listed.getD i false) 0 (ops.toList.zip rs) (T0,h0)).2 (n0+ops.size*er) →
      (∀ b,ρ.ok b→b<n0∨∃ i,listed.getD i false=true∧n0+i*er≤b∧b<n0+i*er+er)→a.defers=[]→bf ρ w (dq (fun i=>listed.getD i false) 0 (ops.toList.zip rs) (T0,h0)).1 a.tmps.toList →
      (∀ ρ' w' a',dp ρ ρ' w→b7 ρ.live w w'→HR ρ' w' (aO (ops.toList.zip rs) (T0,h0)).2 (n0+ops.size*er)→a'.defers=[]→bf ρ' w' (aO (ops.toList.zip rs) (T0,h0)).1 a'.tmps.toList→(∀ b,ρ'.ok b→ρ.ok b∨n0≤b)→Q .normal a' w') →
      wpAny C.P .any ops Q fuel listed a w:=by
  have hzl:(ops.toList.zip rs).length=ops.size:=by simp [hlen]
  have zget:∀ (j:Nat) (o:Oper) (r:jf),ops[j]? = some o→rs[j]? = some r→(ops.toList.zip rs)[j]? = some (o,r):=by
    intro j o r h1 h2
    rw [List.getElem?_zip_eq_some];exact ⟨by simpa using h1,h2⟩
  have zinv:∀ (j:Nat) (x:Oper×jf),(ops.toList.zip rs)[j]? = some x→ops[j]? = some x.1∧rs[j]? = some x.2:=by
    intro j x hx
    have:=List.getElem?_zip_eq_some.1 (show (ops.toList.zip rs)[j]? = some (x.1,x.2) from hx)
    exact ⟨by simpa using this.1,this.2⟩

  have allL:∀ (listed:Array Bool),listed.size=ops.size→(∀ i,i<ops.size→listed.getD i false=true)→dq (fun i=>listed.getD i false) 0 (ops.toList.zip rs) (T0,h0)=aO (ops.toList.zip rs) (T0,h0):=by
    intro listed hs hall
    have:∀ (l:List (Oper×jf)) (i:Nat) (s:List AV×aH),i+l.length≤ops.size→dq (fun i=>listed.getD i false) i l s=aO l s:=by
      intro l
      induction l with
      | nil=>intro _ _ _;rfl
      | cons x l ih =>
        intro i s hi
        simp only [List.length_cons] at hi
        simp only [dq,aO]
        rw [hall i (by omega)]
        exact ih (i+1) _ (by omega)
    exact this _ 0 _ (by rw [hzl];omega)

  have down:∀ (listed:Array Bool),(∀ (j:Nat) (o:Oper),ops[j]? = some o→listed.getD j false=true→∀ e∈o.after,Region.binds .any e=true→listed.getD e.on false=true) →
      ∀ (j:Nat) (o:Oper),ops[j]? = some o→(∀ e∈o.after,Region.binds .any e=true→listed.getD e.on false=true)→∀ (i m:Nat),ms[j]? = some m→m.testBit i=true→listed.getD i false=true:=by
    intro listed hcl j
    induction j using Nat.strongRecOn with
    | _ j ih =>
      intro o ho hpre i m hm hbit
      have hlt:j<ops.size:=(Array.getElem?_eq_some_iff.1 ho).1
      obtain ⟨r,hr⟩:∃ r,rs[j]? = some r:=⟨rs[j]'(by omega),List.getElem?_eq_getElem (by omega)⟩
      have hz:=zget j o r ho hr
      obtain ⟨m',k1,k2⟩:=D.mask j _ hz
      rw [hm] at k1;cases k1
      obtain ⟨e,e1,e2,e3⟩:=k2 i hbit
      have hL:=hpre e e1 e2
      rcases e3 with rfl | ⟨m'',q1,q2⟩
      · exact hL
      · have hej:=D.edge j _ hz e e1 e2
        have hon:e.on<ops.size:=by omega
        exact ih e.on hej _ (Array.getElem?_eq_getElem hon) (hcl e.on _ (Array.getElem?_eq_getElem hon) hL) i m'' q1 q2
  intro fuel
  induction fuel with
  | zero =>
    intro listed hs hcl hcnt ρ w a hh hok hd hT hQ
    have hall:∀ i,i<ops.size→listed.getD i false=true:=by
      intro i hi
      have h0:=List.countP_eq_zero.1 (Nat.le_zero.1 hcnt) i (List.mem_range.2 hi)
      simpa using h0
    simp only [wpAny]
    refine ⟨?_,?_⟩
    · cases hr:Region.ready .any ops listed with
      | nil=>rfl
      | cons x xs =>
        have hx:x∈Region.ready .any ops listed:=by rw [hr];simp
        obtain ⟨k1,o,k2,_⟩:=mem_ready.1 hx
        have hlt:x<ops.size:=(Array.getElem?_eq_some_iff.1 k2).1
        have:=hall x hlt
        rw [Array.getD_eq_getD_getElem?,Array.getElem?_eq_getElem (by omega)] at this k1
        simp only [Option.getD_some] at this k1
        rw [this] at k1;cases k1
    · rw [allL listed hs hall] at hh hT
      exact hQ ρ w a (dp.refl _ _) (b7.refl _ _) hh hd hT (fun b q=>.inl q)
  | succ fuel ih =>
    intro listed hs hcl hcnt ρ w a hh hok hd hT hQ
    simp only [wpAny]
    have sameD:∀ j,j<ops.size→listed.getD j true=listed.getD j false:=by
      intro j hj
      rw [Array.getD_eq_getD_getElem?,Array.getD_eq_getD_getElem?,Array.getElem?_eq_getElem (by omega)];rfl
    refine ⟨fun hr=>?_,fun j hj=>?_⟩
    · have hall:∀ i,i<ops.size→listed.getD i false=true:=by
        intro i
        induction i using Nat.strongRecOn with
        | _ i ihi =>
          intro hi
          cases hl:listed.getD i false with
          | true=>rfl
          | false =>
            have ho:=Array.getElem?_eq_getElem hi
            obtain ⟨r,hrr⟩:∃ r,rs[i]? = some r:=⟨rs[i]'(by omega),List.getElem?_eq_getElem (by omega)⟩
            have hz:=zget i _ r ho hrr
            have:i∈Region.ready .any ops listed:=mem_ready.2 ⟨by rw [sameD i hi];exact hl,_,ho,fun e he hb=>ihi e.on (D.edge i _ hz e he hb) (by have:=D.edge i _ hz e he hb;omega)⟩
            rw [hr] at this;cases this
      rw [allL listed hs hall] at hh hT
      exact hQ ρ w a (dp.refl _ _) (b7.refl _ _) hh hd hT (fun b q=>.inl q)
    · obtain ⟨k1,o,ho,hpre⟩:=mem_ready.1 hj
      have hlt:j<ops.size:=(Array.getElem?_eq_some_iff.1 ho).1
      rw [sameD j hlt] at k1
      obtain ⟨r,obs',q,q',hr,hob,hone⟩:=each j o (by simpa using ho)
      have hz:=zget j o r ho hr

      have agree:∀ (i:Nat) (x:Oper×jf),(ops.toList.zip rs)[i]? = some x→i≠j→dJ ops x.1 x.2 o r=false→dJ ops o r x.1 x.2=false→listed.getD i false=decide (i<j):=by
        intro i x hx hne n1 n2
        have hxi:=zinv i x hx
        rcases Nat.lt_or_gt_of_ne hne with hij | hij
        · rcases D.pair i j x (o,r) hx hz hij with ⟨m,hm,hb⟩ | hap
          · rw [down listed hcl j o ho hpre i m hm hb];simp [hij]
          · simp only at hap;rw [n1] at hap;cases hap
        · rcases D.pair j i (o,r) x hz hx hij with ⟨m,hm,hb⟩ | hap
          · have : ¬ i<j:=by omega
            simp only [this,decide_false]
            cases hl:listed.getD i false with
            | false=>rfl
            | true =>
              have:=down listed hcl i x.1 hxi.1 (hcl i x.1 hxi.1 hl) j m hm hb
              rw [k1] at this;cases this
          · simp only at hap;rw [n2] at hap;cases hap
      have napT:∀ (x:Oper×jf) (t:Nat),x.1.dst=some t→t∈fj ops o→dJ ops x.1 x.2 o r=false∧dJ ops o r x.1 x.2=false:=by
        intro x t hdst ht
        constructor
        · cases hap:dJ ops x.1 x.2 o r with
          | false=>rfl
          | true=>simp only [dJ,Bool.and_eq_true] at hap;exact (jk hap.1 t (by simp [hdst]) ht).elim
        · cases hap:dJ ops o r x.1 x.2 with
          | false=>rfl
          | true=>simp only [dJ,Bool.and_eq_true] at hap;exact (jk hap.2.1 t (by simp [hdst]) ht).elim
      have napH:∀ (x:Oper×jf) (b:Nat),b∈dS x.2.sets→b∈r.reads++dS r.sets→dJ ops x.1 x.2 o r=false∧dJ ops o r x.1 x.2=false:=by
        intro x b hx hb
        constructor
        · cases hap:dJ ops x.1 x.2 o r with
          | false=>rfl
          | true=>simp only [dJ,Bool.and_eq_true] at hap;exact (jk hap.2.2.1 b hx hb).elim
        · cases hap:dJ ops o r x.1 x.2 with
          | false=>rfl
          | true=>simp only [dJ,Bool.and_eq_true] at hap;exact (jk hap.2.2.2 b hx hb).elim
      have eqT:∀ t∈fj ops o,(dq (fun i=>listed.getD i false) 0 (ops.toList.zip rs) (T0,h0)).1[t]? = (aO ((ops.toList.zip rs).take j) (T0,h0)).1[t]?:=by
        intro t ht
        have:=mT (ops.toList.zip rs) 0 j (T0,h0)
        rw [←this]
        refine pZ _ 0 (fun k x hx hdst=>?_) rfl
        rw [Nat.zero_add,Nat.zero_add]
        by_cases hkj:k=j
        · subst hkj;rw [k1];simp
        · obtain ⟨n1,n2⟩:=napT x t hdst ht;exact agree k x hx hkj n1 n2
      have eqH:∀ b∈r.reads++dS r.sets,am (dq (fun i=>listed.getD i false) 0 (ops.toList.zip rs) (T0,h0)).2 b=am (aO ((ops.toList.zip rs).take j) (T0,h0)).2 b:=by
        intro b hb
        have:=mT (ops.toList.zip rs) 0 j (T0,h0)
        rw [←this]
        refine p5 _ 0 (fun k x hx bC=>?_) rfl
        rw [Nat.zero_add,Nat.zero_add]
        by_cases hkj:k=j
        · subst hkj;rw [k1];simp
        · obtain ⟨n1,n2⟩:=napH x b bC hb;exact agree k x hx hkj n1 n2
      have hloc:=rf hone eqT (fun b hb=>eqH b (by simp [hb]))

      have L'eq:∀ i,(listed.setIfInBounds j true).getD i false=if i=j then true else listed.getD i false:=by
        intro i
        by_cases hij:i=j
        · subst hij;rw [if_pos rfl,Array.getD_eq_getD_getElem?];simp [hs,hlt]
        · rw [if_neg hij];exact getD_set_ne false (fun e=>hij e.symm)
      have step1:=mT (ops.toList.zip rs) 0 (j+1) (T0,h0)
      have hsplit:aO ((ops.toList.zip rs).take (j+1)) (T0,h0)=(kE (aO ((ops.toList.zip rs).take j) (T0,h0)).1 o.dst r.v,aU r.sets (aO ((ops.toList.zip rs).take j) (T0,h0)).2):=by
        have hjl:j<(ops.toList.zip rs).length:=by rw [hzl];exact hlt
        have:(ops.toList.zip rs).take (j+1)=(ops.toList.zip rs).take j++[(o,r)]:=by
          rw [List.take_succ_eq_append_getElem hjl]
          have:=List.getElem?_eq_getElem hjl
          rw [hz] at this
          rw [←Option.some.inj this]
        rw [this,ny];rfl
      have newT:∀ t:Nat,(kE (dq (fun i=>listed.getD i false) 0 (ops.toList.zip rs) (T0,h0)).1 o.dst r.v)[t]? = (dq (fun i=>(listed.setIfInBounds j true).getD i false) 0 (ops.toList.zip rs) (T0,h0)).1[t]?:=by
        intro t
        rw [kI]
        by_cases hdst:o.dst=some t
        · rw [if_pos hdst]
          have e1:=eqT t (by simp [fj,hdst])
          rw [e1]
          have e2:(dq (fun i=>(listed.setIfInBounds j true).getD i false) 0 (ops.toList.zip rs) (T0,h0)).1[t]? = (aO ((ops.toList.zip rs).take (j+1)) (T0,h0)).1[t]?:=by
            rw [←step1]
            refine pZ _ 0 (fun k x hx hd2=>?_) rfl
            rw [Nat.zero_add,Nat.zero_add,L'eq]
            by_cases hkj:k=j
            · subst hkj;simp
            · rw [if_neg hkj]
              obtain ⟨n1,n2⟩:=napT x t hd2 (by simp [fj,hdst])
              rw [agree k x hx hkj n1 n2]
              by_cases q:k<j<;>simp [q]<;>omega
          rw [e2,hsplit,kI,if_pos hdst]
        · rw [if_neg hdst]
          refine pZ _ 0 (fun k x hx hd2=>?_) rfl
          rw [Nat.zero_add,L'eq]
          by_cases hkj:k=j
          · subst hkj;rw [hz] at hx;cases hx;exact absurd hd2 hdst
          · rw [if_neg hkj]
      have newH:∀ b:Nat,am (dq (fun i=>(listed.setIfInBounds j true).getD i false) 0 (ops.toList.zip rs) (T0,h0)).2 b=am (aU r.sets (dq (fun i=>listed.getD i false) 0 (ops.toList.zip rs) (T0,h0)).2) b:=by
        intro b
        by_cases hb:b∈dS r.sets
        · rw [ee (h:=(dq (fun i=>listed.getD i false) 0 (ops.toList.zip rs) (T0,h0)).2) (h':=(aO ((ops.toList.zip rs).take j) (T0,h0)).2) r.sets (eqH b (by simp [hb]))]
          have e2:am (dq (fun i=>(listed.setIfInBounds j true).getD i false) 0 (ops.toList.zip rs) (T0,h0)).2 b=am (aO ((ops.toList.zip rs).take (j+1)) (T0,h0)).2 b:=by
            rw [←step1]
            refine p5 _ 0 (fun k x hx hd2=>?_) rfl
            rw [Nat.zero_add,Nat.zero_add,L'eq]
            by_cases hkj:k=j
            · subst hkj;simp
            · rw [if_neg hkj]
              obtain ⟨n1,n2⟩:=napH x b hd2 (by simp [hb])
              rw [agree k x hx hkj n1 n2]
              by_cases q:k<j<;>simp [q]<;>omega
          rw [e2,hsplit]
        · rw [ef _ hb]
          refine p5 _ 0 (fun k x hx hd2=>?_) rfl
          rw [Nat.zero_add,L'eq]
          by_cases hkj:k=j
          · subst hkj;rw [hz] at hx;cases hx;exact absurd hd2 hb
          · rw [if_neg hkj]
      have hS:j*er+er≤ops.size*er:=by rw [←Nat.succ_mul];exact Nat.mul_le_mul_right _ hlt
      refine ma hC hrun ho hloc hob hh (fun x h1 h2 hbad=>?_) (by omega) hd hT ?_
      · rcases hok _ hbad with q | ⟨i,q1,q2,q3⟩
        · omega
        · have:i=j:=vg (y:=x-n0) (by omega) (by omega) (by omega) (by omega)
          subst this;rw [k1] at q1;cases q1
      intro ρ' w' a' E W hh' hd' hT' hok'
      have hlist:kE (dq (fun i=>listed.getD i false) 0 (ops.toList.zip rs) (T0,h0)).1 o.dst r.v=(dq (fun i=>(listed.setIfInBounds j true).getD i false) 0 (ops.toList.zip rs) (T0,h0)).1:=List.ext_getElem? newT
      rw [hlist] at hT'
      refine ih (listed.setIfInBounds j true) (by simpa using hs) (fun i x hx hl e he hb=>?_) ?_ (hh'.congr newH) (fun b hb=>?_) hd' hT' ?_
      · rw [L'eq] at hl ⊢
        by_cases hij:i=j
        · subst hij
          rw [ho] at hx;cases hx
          split
          · rfl
          · exact hpre e he hb
        · rw [if_neg hij] at hl
          split
          · rfl
          · exact hcl i x hx hl e he hb
      · have:=pk (l:=List.range ops.size) (j:=j) (p:=fun i=>!listed.getD i false) (q:=fun i=>!(listed.setIfInBounds j true).getD i false) (List.mem_range.2 hlt) (by simp only [k1];rfl) (by simp only [L'eq,if_true];rfl)
          (fun i hi=>by
            simp only [L'eq] at hi ⊢
            split at hi
            · cases hi
            · exact hi)
        omega
      · rcases hok' b hb with q | q
        · rcases hok b q with q | ⟨i,q1,q2⟩
          · exact .inl q
          · refine .inr ⟨i,?_,q2⟩
            rw [L'eq];split
            · rfl
            · exact q1
        · exact .inr ⟨j,by rw [L'eq,if_pos rfl],q⟩
      · intro ρ'' w'' a'' E' W' hh'' hd'' hT'' hb''
        exact hQ ρ'' w'' a'' (E.trans E' W.size) (W.trans W' (fun x hx q=>E.new x hx q)) hh'' hd'' hT'' (fun b q=>by
          rcases hb'' b q with q | q
          · rcases hok' b q with q | q
            · exact .inl q
            · exact .inr (by omega)
          · exact .inr q)
theorem gB{d:ac}(h:d.kept=true) :d.foreign=true:=by
  cases d<;>first | rfl | exact bN h
mutual
def pm (g:Nat→Option ac):Nat→AV→AV
  | 0,_=>.any
  | n+1,v =>
    match v with
    | .ptr b w i j=>match g b with
      | some d=>let d':=iL g n d;bif d'.kept then .iptr .free d' w i j else .any
      | none=>.any
    | .sl b w es i len _=>match g b with
      | some d=>let d':=iL g n d;bif d'.kept then .imm .free d' w es i len else .any
      | none=>.any
    | .fn f l1 l2=>.fn f (nC g n l1) (nC g n l2)
    | .agg l=>.agg (nC g n l)
    | .tup l=>.tup (nC g n l)
    | .iface t v=>.iface t (pm g n v)
    | v=>v
def nC (g:Nat→Option ac):Nat→List AV→List AV
  | 0,l=>l.map fun _=>.any
  | n+1,l =>
    match l with
    | []=>[]
    | v::l=>pm g n v::nC g n l
def iL (g:Nat→Option ac):Nat→ac→ac
  | 0,_=>.vs []
  | n+1,d =>
    match d with
    | .vs l=>.vs (nC g n l)
    | d=>d
end
theorem nD(g:Nat→Option ac)(n:Nat)(d:ac)(h:d.recKept) :(iL g n d).recKept:=by
  cases n with
  | zero=>trivial
  | succ n=>cases d<;>first | exact h | trivial
structure tE (ρ τ:aa):Prop where
  out:τ.out=ρ.out
  live:∀ bl,τ.live bl→ρ.live bl
theorem tE.avoid{ρ τ:aa}(L:tE ρ τ){l:Lv}{bl:Nat}(h:ρ.avoid l bl) :τ.avoid l bl:=by
  refine gS (d:=0) (fun j _ q=>?_) h
  cases j with
  | zero=>exact L.live bl q
  | succ j=>simp only [Nat.add_zero,aa.own] at q ⊢;rw [L.out] at q;exact q
theorem bn{ρ τ:aa}(L:tE ρ τ){w:World}{v:AV}{u:Value}(h:VR ρ w v u) :v.foreign=true→VR τ w v u:=by
  induction h using VR.rec (motive_2:=fun l c _=>ay l=true→bf τ w l c) with
  | int k n=>exact fun _=>.int k n
  | bool kn b=>exact fun _=>.bool kn b
  | flt ex x y h=>exact fun _=>.flt ex x y h
  | str s=>exact fun _=>.str s
  | nptr=>exact fun _=>.nptr
  | ptr b k i j hb=>intro hk;simp [AV.foreign] at hk
  | iptr bw d k i j bl o u ha hb hc hv hr hk hg ih=>exact fun _=>.iptr bw d k i j bl o u (L.avoid ha) hb hc (fun x v hx=>ih x v hx (an hr hg x v hx)) hr hk hg
  | nsl=>exact fun _=>.nsl
  | esl a=>exact fun _=>.esl a
  | zsl a c=>exact fun _=>.zsl a c
  | nan n h=>exact fun _=>.nan n h
  | sl b k es i len cap cap' hb hcap hl c t hh hs=>intro hk;simp [AV.foreign] at hk
  | slEnd b k es i a=>intro hk;simp [AV.foreign] at hk
  | imm bw d k es i len cap bl o u ha hb hc hv hl hr hk hg ih=>exact fun _=>.imm bw d k es i len cap bl o u (L.avoid ha) hb hc (fun x v hx=>ih x v hx (an hr hg x v hx)) hl hr hk hg
  | immEnd bw d k es i cap a hr hk hg=>exact fun _=>.immEnd bw d k es i cap a hr hk hg
  | fn f l1 l2 c1 c2 h1 h2 i1 i2=>intro hk;simp only [AV.foreign,Bool.and_eq_true] at hk;exact .fn f l1 l2 c1 c2 (i1 hk.1) (i2 hk.2)
  | nfn=>exact fun _=>.nfn
  | agg l c h ih=>intro hk;exact .agg l c (ih hk)
  | tup l c h ih=>intro hk;exact .tup l c (ih hk)
  | iface t v u h ih=>intro hk;exact .iface t v u (ih hk)
  | niface=>exact fun _=>.niface
  | any u=>exact fun _=>.any u
  | nil=>exact bf.nil
  | cons v u l c h t i1 i2=>rename_i hk;simp only [ay,Bool.and_eq_true] at hk;exact bf.cons v u l c (i1 hk.1) (i2 hk.2)
mutual
theorem p6 {ρ τ:aa} (L:tE ρ τ) {w:World} {h:aH} {m:Nat} (hh:HR ρ w h m) (off:∀ b d,am h b=some d→ρ.ok b→¬ τ.live (ρ.at_ b)):∀ (n:Nat) {v:AV} {u:Value},VR ρ w v u→VR τ w (pm (am h) n v) u
  | 0,v,u,hv=>.any u
  | n + 1, v, u, hv => by
    have free:∀ (b:Nat) (d:ac),am h b=some d→ρ.ok b→τ.avoid .free (ρ.at_ b):=by
      intro b d hd hok j _
      cases j with
      | zero=>exact off b d hd hok
      | succ j=>simp only [aa.own];rw [L.out];exact hh.fresh _ (hh.real hd hok).1 j
    have content:∀ (b:Nat) (d:ac),am h b=some d→ρ.ok b→∀ x v,(iL (am h) n d).cell? x=some v→w.cell? ⟨ρ.at_ b,0+x,none⟩=some ((w.cell? ⟨ρ.at_ b,x,none⟩).getD undef)∧VR τ w v ((w.cell? ⟨ρ.at_ b,x,none⟩).getD undef):=by
      intro b d hd hok x v hx
      obtain ⟨_,hrk,c,t,hc,hcv⟩:=hh.real hd hok
      obtain ⟨u,q1,q2⟩:=rg L hh off n (ρ.at_ b) (fun x v hx=>by
        obtain ⟨u,k1,k2⟩:=hcv x v hx
        exact ⟨u,by simp [World.cell?,hc,k1],k2⟩) hrk x v hx
      rw [Nat.zero_add,q1];exact ⟨rfl,q2⟩
    cases v with
    | ptr b k i j =>
      simp only [pm]
      split
      · rename_i d hd
        have hrk:=hh.rk hd
        cases hk:(iL (am h) n d).kept with
        | false=>exact .any _
        | true =>
          simp only [cond_true]
          cases hv with | ptr _ _ _ _ hb =>
          have:=VR.iptr (ρ:=τ) (w:=w) .free (iL (am h) n d) k i j (ρ.at_ b) 0 (fun x=>(w.cell? ⟨ρ.at_ b,x,none⟩).getD undef) (free b d hd hb) (hh.liveLt _ (hh.real hd hb).1)
            (fun x v hx=>(content b d hd hb x v hx).1) (fun x v hx=>(content b d hd hb x v hx).2) (nD _ _ _ hrk) (fun _=>hk) (gB hk)
          simpa using this
      · exact .any _
    | sl b k es i len cap =>
      simp only [pm]
      split
      · rename_i d hd
        have hrk:=hh.rk hd
        cases hk:(iL (am h) n d).kept with
        | false=>exact .any _
        | true =>
          simp only [cond_true]
          cases hv with
          | sl _ _ _ _ _ _ cap' hb hcap hl' c t hh' hs =>
            have:=VR.imm (ρ:=τ) (w:=w) .free (iL (am h) n d) k es i len cap' (ρ.at_ b) 0 (fun x=>(w.cell? ⟨ρ.at_ b,x,none⟩).getD undef) (free b d hd hb) (hh.liveLt _ (hh.real hd hb).1)
              (fun x v hx=>(content b d hd hb x v hx).1) (fun x v hx=>(content b d hd hb x v hx).2) (by omega) (nD _ _ _ hrk) (fun _=>hk) (gB hk)
            simpa using this
          | slEnd=>exact .immEnd _ _ _ _ _ _ _ (nD _ _ _ hrk) (fun _=>hk) (gB hk)
      · exact .any _
    | fn f l1 l2=>cases hv with | fn _ _ _ _ _ h1 h2=>exact .fn _ _ _ _ _ (fK L hh off n h1) (fK L hh off n h2)
    | agg l=>cases hv with | agg _ _ h1=>exact .agg _ _ (fK L hh off n h1)
    | tup l=>cases hv with | tup _ _ h1=>exact .tup _ _ (fK L hh off n h1)
    | iface t v=>cases hv with | iface _ _ _ h1=>exact .iface _ _ _ (p6 L hh off n h1)
    | int=>exact bn L hv rfl
    | bool=>exact bn L hv rfl
    | flt=>exact bn L hv rfl
    | str=>exact bn L hv rfl
    | nptr=>exact bn L hv rfl
    | iptr=>exact bn L hv rfl
    | nsl=>exact bn L hv rfl
    | esl=>exact bn L hv rfl
    | zsl=>exact bn L hv rfl
    | nan=>exact bn L hv rfl
    | imm=>exact bn L hv rfl
    | nfn=>exact bn L hv rfl
    | niface=>exact bn L hv rfl
    | any=>exact .any _
theorem fK {ρ τ:aa} (L:tE ρ τ) {w:World} {h:aH} {m:Nat} (hh:HR ρ w h m) (off:∀ b d,am h b=some d→ρ.ok b→¬ τ.live (ρ.at_ b)):∀ (n:Nat) {l:List AV} {c:List Value},bf ρ w l c→bf τ w (nC (am h) n l) c
  | 0,[],c,hv=>by cases hv;exact .nil
  | 0,v::l,c,hv=>by
    cases hv with | cons _ u _ c' h1 h2 =>
    have:=fK L hh off 0 h2
    exact .cons _ _ _ _ (.any u) this
  | n+1,[],c,hv=>by cases hv;exact .nil
  | n+1,v::l,c,hv=>by
    cases hv with | cons _ u _ c' h1 h2=>exact .cons _ _ _ _ (p6 L hh off n h1) (fK L hh off n h2)
theorem rg {ρ τ:aa} (L:tE ρ τ) {w:World} {h:aH} {m:Nat} (hh:HR ρ w h m) (off:∀ b d,am h b=some d→ρ.ok b→¬ τ.live (ρ.at_ b)):∀ (n:Nat) (bl:Nat) {d:ac},(∀ x v,d.cell? x=some v→∃ u,w.cell? ⟨bl,x,none⟩=some u∧VR ρ w v u)→d.recKept →
    ∀ x v,(iL (am h) n d).cell? x=some v→∃ u,w.cell? ⟨bl,x,none⟩=some u∧VR τ w v u
  | 0,bl,d,hc,hr,x,v,hx=>by simp [iL,ac.cell?] at hx
  | n + 1, bl, d, hc, hr, x, v, hx => by
    cases d with
    | vs l =>
      simp only [iL,ac.cell?] at hx
      have hus:bf ρ w l ((List.range l.length).map fun x=>(w.cell? ⟨bl,x,none⟩).getD undef):=by
        refine fH (by simp) fun y v u q1 q2=>?_
        obtain ⟨u',k1,k2⟩:=hc y v q1
        have hlt:y<l.length:=(List.getElem?_eq_some_iff.1 q1).1
        rw [List.getElem?_map,List.getElem?_range hlt] at q2
        simp [k1] at q2;subst q2;exact k2
      have hr2:=fK L hh off n hus
      obtain ⟨u,q1,q2⟩:=hr2.get x v hx
      rw [List.getElem?_map] at q1
      have hlt:x<l.length:=by
        rcases Nat.lt_or_ge x l.length with q | q
        · exact q
        · rw [List.getElem?_eq_none (by simpa using q)] at q1;cases q1
      rw [List.getElem?_range hlt] at q1
      obtain ⟨u',k1,_⟩:=hc x (l[x]) (List.getElem?_eq_getElem hlt)
      simp [k1] at q1;subst q1
      exact ⟨u',k1,q2⟩
    | fl xs=>obtain ⟨u,q1,q2⟩:=hc x v hx;exact ⟨u,q1,bn L q2 (an (d:=.fl xs) hr rfl x v hx)⟩
    | ns k xs=>obtain ⟨u,q1,q2⟩:=hc x v hx;exact ⟨u,q1,bn L q2 (an (d:=.ns k xs) hr rfl x v hx)⟩
    | bs xs=>obtain ⟨u,q1,q2⟩:=hc x v hx;exact ⟨u,q1,bn L q2 (an (d:=.bs xs) hr rfl x v hx)⟩
    | ss xs=>obtain ⟨u,q1,q2⟩:=hc x v hx;exact ⟨u,q1,bn L q2 (an (d:=.ss xs) hr rfl x v hx)⟩
    | rows k m get=>obtain ⟨u,q1,q2⟩:=hc x v hx;exact ⟨u,q1,bn L q2 (an (d:=.rows k m get) hr rfl x v hx)⟩
    | cols k cs=>obtain ⟨u,q1,q2⟩:=hc x v hx;exact ⟨u,q1,bn L q2 (an (d:=.cols k cs) hr rfl x v hx)⟩
end
mutual
def vb (σ:Nat→Option Nat):AV→AV
  | .ptr b w i j=>match σ b with | some c=>.ptr c w i j | none=>.any
  | .sl b w es i len cap=>match σ b with | some c=>.sl c w es i len cap | none=>.any
  | .fn f l1 l2=>.fn f (t0 σ l1) (t0 σ l2)
  | .agg l=>.agg (t0 σ l)
  | .tup l=>.tup (t0 σ l)
  | .iface t v=>.iface t (vb σ v)
  | v=>v
def t0 (σ:Nat→Option Nat):List AV→List AV
  | []=>[]
  | v::l=>vb σ v::t0 σ l
end
def aa.renamed(ρ:aa)(keep:List Nat) :aa :=
  { at_:=fun i=>ρ.at_ ((keep[i]?).getD 0),live:=ρ.live,out:=ρ.out,ok:=fun i=>∃ b,keep[i]? = some b∧ρ.ok b }
mutual
theorem md {ρ:aa} {keep:List Nat} {w:World}:∀ (v:AV) {u:Value},VR ρ w v u→VR (ρ.renamed keep) w (vb (cU keep 0) v) u
  | .ptr b k i j,u,h=>by
    simp only [vb]
    split
    · rename_i c hc
      cases h with | ptr _ _ _ _ hb =>
      obtain ⟨_,hg⟩:=je hc
      rw [Nat.sub_zero] at hg
      have:(ρ.renamed keep).at_ c=ρ.at_ b:=by simp [aa.renamed,hg]
      rw [←this];exact .ptr _ _ _ _ ⟨b,hg,hb⟩
    · exact .any u
  | .sl b k es i len cap,u,h=>by
    simp only [vb]
    split
    · rename_i c hc
      obtain ⟨_,hg⟩:=je hc
      rw [Nat.sub_zero] at hg
      have e:(ρ.renamed keep).at_ c=ρ.at_ b:=by simp [aa.renamed,hg]
      cases h with
      | sl _ _ _ _ _ _ cap' hb hcap hl ce t hh hs=>rw [←e] at hh ⊢;exact .sl _ _ _ _ _ _ _ ⟨b,hg,hb⟩ hcap hl ce t hh hs
      | slEnd=>exact .slEnd _ _ _ _ _
    · exact .any u
  | .fn f l1 l2,u,h=>by cases h with | fn _ _ _ _ _ h1 h2=>exact .fn _ _ _ _ _ (nF l1 h1) (nF l2 h2)
  | .agg l,u,h=>by cases h with | agg _ _ h1=>exact .agg _ _ (nF l h1)
  | .tup l,u,h=>by cases h with | tup _ _ h1=>exact .tup _ _ (nF l h1)
  | .iface t v,u,h=>by cases h with | iface _ _ _ h1=>exact .iface _ _ _ (md v h1)
  | .int ..,u,h=>bI h rfl
  | .bool ..,u,h=>bI h rfl
  | .flt ..,u,h=>bI h rfl
  | .str ..,u,h=>bI h rfl
  | .nptr,u,h=>bI h rfl
  | .iptr ..,u,h=>bI h rfl
  | .nsl,u,h=>bI h rfl
  | .esl,u,h=>bI h rfl
  | .zsl _,u,h=>bI h rfl
  | .nan,u,h=>bI h rfl
  | .imm ..,u,h=>bI h rfl
  | .nfn,u,h=>bI h rfl
  | .niface,u,h=>bI h rfl
  | .any,u,h=>.any u
theorem nF {ρ:aa} {keep:List Nat} {w:World}:∀ (l:List AV) {c:List Value},bf ρ w l c→bf (ρ.renamed keep) w (t0 (cU keep 0) l) c
  | [],c,h=>by cases h;exact .nil
  | v::l,c,h=>by cases h with | cons _ u _ c' h1 h2=>exact .cons _ _ _ _ (md v h1) (nF l h2)
theorem bI {ρ:aa} {keep:List Nat} {w:World} {v:AV} {u:Value} (h:VR ρ w v u) (hf:v.foreign=true):VR (ρ.renamed keep) w v u :=
  bn (ρ:=ρ) (τ:=ρ.renamed keep) ⟨rfl,fun _ q=>q⟩ h hf
end
def wb(σ:Nat→Option Nat) :ac→ac
  | .vs l=>.vs (t0 σ l)
  | d=>d
theorem p7(σ:Nat→Option Nat) :∀ (l:List AV) (x:Nat),(t0 σ l)[x]? = (l[x]?).map (vb σ)
  | [],x=>by simp [t0]
  | v::l,0=>by simp [t0]
  | v::l,x+1=>by simp [t0,p7 σ l x]
theorem ul{σ:Nat→Option Nat}{d:ac}(h:d.recKept) :(wb σ d).recKept:=by
  cases d<;>first | exact h | trivial
theorem rh{σ:Nat→Option Nat}{d:ac}{x:Nat}{v:AV}(h:(wb σ d).cell? x=some v)(hr:d.recKept) :∃ v',d.cell? x=some v'∧(v=vb σ v'∨(v=v'∧v.foreign=true)):=by
  cases d with
  | vs l =>
    simp only [wb,ac.cell?,p7,Option.map_eq_some_iff] at h
    obtain ⟨v',h1,rfl⟩:=h
    exact ⟨v',h1,.inl rfl⟩
  | fl xs=>exact ⟨v,h,.inr ⟨rfl,an (d:=.fl xs) hr rfl x v h⟩⟩
  | ns k xs=>exact ⟨v,h,.inr ⟨rfl,an (d:=.ns k xs) hr rfl x v h⟩⟩
  | bs xs=>exact ⟨v,h,.inr ⟨rfl,an (d:=.bs xs) hr rfl x v h⟩⟩
  | ss xs=>exact ⟨v,h,.inr ⟨rfl,an (d:=.ss xs) hr rfl x v h⟩⟩
  | rows k m get=>exact ⟨v,h,.inr ⟨rfl,an (d:=.rows k m get) hr rfl x v h⟩⟩
  | cols m cs=>exact ⟨v,h,.inr ⟨rfl,an (d:=.cols m cs) hr rfl x v h⟩⟩
def sV(k:Nat)(R:List Nat) :List Nat:=List.range k++R.filter fun b=>Nat.ble k b
theorem tF{k i:Nat}{R:List Nat}(h:i<k) :(sV k R)[i]? = some i:=by
  unfold sV
  rw [List.getElem?_append_left (by simpa using h),List.getElem?_range h]
def eu(σ:Nat→Option Nat)(h:aH) :List Nat→List (Option ac)
  | []=>[]
  | b::l=>(am h b).map (wb σ)::eu σ h l
theorem fk(σ:Nat→Option Nat)(h:aH) :∀ (l:List Nat) (i:Nat),(eu σ h l)[i]? = (l[i]?).map fun b=>(am h b).map (wb σ)
  | [],i=>by simp [eu]
  | b::l,0=>by simp [eu]
  | b::l,i+1=>by simp [eu,fk σ h l i]
theorem eC(σ:Nat→Option Nat)(h:aH) :∀ (l:List Nat),(eu σ h l).length=l.length
  | []=>rfl
  | b::l=>by simp [eu,eC σ h l]
def nG(k:Nat)(keep:Bool)(h:aH)(v:AV) :Option iw :=
  match keep,k with
  | true,0=>some ⟨pm (am h) bK v,[]⟩
  | _,_ =>
    let L:=sV k (cZ (am h) bK (List.range k++pW v) [])
    bif g4 L then some ⟨vb (cU L 0) v,eu (cU L 0) h L⟩ else none
theorem ri{ρ ρ0:aa}{w0 w:World}{h:aH}{m:Nat}{lent:List ac}{keep:Bool}(hh:HR ρ w h m)(hN:dm ρ0 w0 lent)(E:dp ρ0 ρ w0)(hbk:∀ i,i<lent.length→ρ.ok i→ρ0.ok i)(W:w0.heap.size≤w.heap.size){v:AV}{u:Value}(hv:VR ρ w v u){r:iw} 
    (hr:nG lent.length keep h v=some r):r.Holds ρ0 w0 w lent.length u:=by
  unfold nG at hr
  split at hr
  · rename_i k hk
    cases hr
    have none_ok:∀ b,¬ ρ0.ok b:=fun b q=>by have:=hN.heap.lt b q;omega
    have none_live:∀ bl,¬ ρ0.live bl:=fun bl q=>by obtain ⟨i,h1,_⟩:=hN.only bl q;exact none_ok i h1
    refine ⟨ρ0,dp.refl _ _,fun i h=>by omega,⟨fun b d q=>?_,fun b c d e q=>?_,fun bl q=>(none_live bl q).elim,fun bl q=>(none_live bl q).elim,fun j bl q=>?_,fun b q=>(none_ok b q).elim,fun x hx=>bn (τ:=ρ0) ⟨E.out.symm,fun bl q=>(none_live bl q).elim⟩ (hh.rom x hx) rfl⟩,?_⟩
    · simp [bg,am] at q
    · simp [bg,am] at q
    · exact Nat.lt_of_lt_of_le (hN.heap.outLt j bl q) W
    · exact p6 (τ:=ρ0) ⟨E.out.symm,fun bl q=>(none_live bl q).elim⟩ hh (fun _ _ _ _ q=>none_live _ q) bK hv
  · simp only at hr
    generalize hL:sV lent.length (cZ (am h) bK (List.range lent.length++pW v) [])=L at hr
    cases hn:g4 L with
    | false=>rw [hn] at hr;cases hr
    | true =>
    rw [hn] at hr
    simp only [cond_true,Option.some.injEq] at hr;subst hr
    have idL:∀ {i:Nat},i<lent.length→L[i]? = some i:=fun q=>by rw [←hL];exact tF q
    have atL:∀ {i b:Nat},L[i]? = some b→(ρ.renamed L).at_ i=ρ.at_ b:=fun q=>by simp [aa.renamed,q]
    refine ⟨ρ.renamed L,⟨fun b q=>?_,fun b q=>?_,E.live,E.new,E.out⟩,fun i hi q=>?_,⟨fun i d q=>?_,fun i j d e q1 q2 ok1 ok2 he=>?_,hh.fresh,hh.liveLt,hh.outLt,fun i q=>?_,fun x hx=>md _ (hh.rom x hx)⟩,md v hv⟩
    · rw [atL (idL (hN.heap.lt b q))];exact E.at_ b q
    · exact ⟨b,idL (hN.heap.lt b q),E.ok b q⟩
    · obtain ⟨b,h1,h2⟩:=q
      rw [idL hi] at h1;cases h1
      exact hbk i hi h2
    · have q:=cq q
      simp only at q
      rw [fk,Option.map_eq_some_iff] at q
      obtain ⟨b,h1,h2⟩:=q
      rw [Option.map_eq_some_iff] at h2
      obtain ⟨d0,h3,rfl⟩:=h2
      rcases hh.cell b d0 h3 with ⟨k1,k2,hr,c,t,r1,r2⟩ | ⟨k1,k2,k3,k4⟩
      · refine .inl ⟨⟨b,h1,k1⟩,by rw [atL h1];exact k2,ul hr,c,t,by rw [atL h1];exact r1,fun x v hx=>?_⟩
        obtain ⟨v',s1,s2⟩:=rh hx hr
        obtain ⟨u,t1,t2⟩:=r2 x v' s1
        refine ⟨u,t1,?_⟩
        rcases s2 with rfl | ⟨rfl,hf⟩
        · exact md v' t2
        · exact bI t2 hf
      · refine .inr ⟨?_,?_,ul k3,fun x=>?_⟩
        · rintro ⟨b',q1,q2⟩
          rw [h1] at q1;cases q1
          exact k1 q2
        · rw [eC];exact (List.getElem?_eq_some_iff.1 h1).1
        · cases hc:(wb (cU L 0) d0).cell? x with
          | none=>rfl
          | some v=>obtain ⟨v',s1,_⟩:=rh hc k3;rw [k4 x] at s1;cases s1
    · obtain ⟨b,r1,r2⟩:=ok1
      obtain ⟨c,r3,r4⟩:=ok2
      have q1:=cq q1
      have q2:=cq q2
      simp only at q1 q2
      rw [fk,r1] at q1
      rw [fk,r3] at q2
      simp only [Option.map_some,Option.some.injEq,Option.map_eq_some_iff] at q1 q2
      obtain ⟨d1,s1,_⟩:=q1
      obtain ⟨d2,s2,_⟩:=q2
      rw [atL r1,atL r3] at he
      have:=hh.inj b c d1 d2 s1 s2 r2 r4 he
      subst this
      exact g5 hn r1 r3
    · obtain ⟨b,r1,_⟩:=q
      simp only [eC]
      exact (List.getElem?_eq_some_iff.1 r1).1
inductive AE where
  | normal
  | ret
  | exit (id:Nat)
def AE.real:AE→Exit
  | .normal=>.normal
  | .ret=>.ret
  | .exit id=>.exit id
abbrev vG:=Option (AE×aG×List Bool×bH)
abbrev gi:=Code→aG→bH→vG
def lz(C:j6)(run:bD)(ops:Array Oper)(draw:Bool)(st:aG)(p:bH) :vG :=
  match draw with
  | false =>
    match nv C run ops st.next 0 ops.toList st.tmps st.heap p with
    | some (T,h,obs,p')=>some (.normal,⟨T,h,st.next+ops.size*er⟩,obs,p')
    | none=>none
  | true =>
    match nB C run ops st.next 0 ops.toList st.tmps st.heap p with
    | some (rs,T,h,obs,p')=>bif nx ops [] [] (ops.toList.zip rs) then some (.normal,⟨T,h,st.next+ops.size*er⟩,obs,p') else none
    | none=>none
def fL(T:List AV)(c:Operand)(b:Bool) :List AV :=
  match c with
  | .tmp t=>T.set t (.bool true b)
  | _=>T
def mU(body:aG→bH→vG) :Nat→aG→bH→vG
  | 0,_,_=>none
  | n+1,st,p =>
    match body st p with
    | some (.normal,st1,o1,p1) =>
      match mU body n st1 p1 with
      | some (e,st2,o2,p2)=>some (e,st2,o1++o2,p2)
      | none=>none
    | r=>r
def nH(C:j6)(run:bD)(N:Nat)(self:gi)(c:Code)(st:aG)(p:bH) :vG :=
  match c with
  | .skip | .label _=>some (.normal,st,[],p)
  | .region _ ops draw=>lz C run ops draw st p
  | .seq a b =>
    match self a st p with
    | some (.normal,st1,o1,p1) =>
      match self b st1 p1 with
      | some (e,st2,o2,p2)=>some (e,st2,o1++o2,p2)
      | none=>none
    | r=>r
  | .cond c a b =>
    match mS (vc st.tmps c) p with
    | some (x,o1,p1) =>
      match self (match x with | true=>a | false=>b) { st with tmps:=fL st.tmps c x } p1 with
      | some (e,st2,o2,p2)=>some (e,st2,o1++o2,p2)
      | none=>none
    | none=>none
  | .block id b =>
    match self b st p with
    | some (.exit id',st1,o1,p1)=>bif Nat.beq id' id then some (.normal,st1,o1,p1) else some (.exit id',st1,o1,p1)
    | r=>r
  | .loop b=>mU (self b) N st p
  | .exit id=>some (.exit id,st,[],p)
  | .ret=>some (.ret,st,[],p)
  | .scope b=>self b st p
  | _=>none
structure iy where
  out:iw
  obs:List Bool
def um(alts:List iy)(p:bH) :Option (iy×bH) :=
  match alts,p with
  | [a],p=>some (a,p)
  | alts,none=>(alts.find? fun a=>tB a.obs).map fun a=>(a,none)
  | alts,some (k::r)=>(alts[k]?).map fun a=>(a,some r)
  | _,_=>none
theorem tG{alts:List iy}{p p':bH}{a:iy}(h:um alts p=some (a,p')) :a∈alts:=by
  unfold um at h
  split at h
  · simp only [Option.some.injEq,Prod.mk.injEq] at h;rw [←h.1];simp
  · simp only [Option.map_eq_some_iff,Prod.mk.injEq] at h;obtain ⟨b,h1,rfl,_⟩:=h;exact List.mem_of_find?_eq_some h1
  · simp only [Option.map_eq_some_iff,Prod.mk.injEq] at h;obtain ⟨b,h1,rfl,_⟩:=h;exact List.mem_of_getElem? h1
  · cases h
abbrev kJ:=FuncId→List ac→List AV→Option (List iy)
def ch(P:Program)(fn:Func)(st:aG) :List ResultVar→Option (List AV×List Bool)
  | []=>some ([],[])
  | .tmp t::l =>
    match ch P fn st l with
    | some (vs,o)=>some ((st.tmps[t]?).getD .any::vs,o)
    | none=>none
  | .cell a t::l =>
    match kq P (am st.heap) t ((st.tmps[a]?).getD .any),ch P fn st l with
    | some (v,o,_),some (vs,o')=>some (v::vs,o++o')
    | _,_=>none
def lD:List AV→AV
  | [v]=>v
  | vs=>.tup vs
def fm(fn:Func)(lent:List ac)(args:List AV) :aG:=⟨args++List.replicate (fn.ntmps-args.length) (.tup []),bg 0 (lent.map some),lent.length⟩
def gO(C : j6)(S : kJ)(self : gi) : bD := fun f lent args p =>
  match S f lent args with
  | some alts=>(um alts p).map fun r=>(r.1.out,r.1.obs,r.2)
  | none =>
    match C.P.funcs[f]? with
    | some fn =>
      match fn.body with
      | some c =>
        match self c (fm fn lent args) p with
        | some (e,st,o1,p1) =>
          match e,ch C.P fn st fn.results.toList with
          | .exit _,_=>none
          | _,some (vs,o2) =>
            match nG lent.length (C.mode f).keep st.heap (lD vs) with
            | some r=>some (r,o1++o2,p1)
            | none=>none
          | _,none=>none
        | none=>none
      | none=>none
    | none=>none
def b0(C:j6)(S:kJ)(N:Nat) :Nat→gi
  | 0=>fun _ _ _=>none
  | n+1=>nH C (gO C S (b0 C S N n)) N (b0 C S N n)
def ag(P:Program)(f:FuncId)(lent:List ac)(args:List AV)(r:iw) :Prop :=
  ∀ (ρ:aa) (w:World) (us:List Value),dm ρ w lent→bf ρ w args us →
    (∃ fn,P.funcs[f]? = some fn∧fn.body.isSome=true)∧Calls P f us.toArray w fun e w'=>∃ u,e=.returned u∧b7 ρ.live w w'∧r.Holds ρ w w' lent.length u
def bm(P:Program)(S:kJ) :Prop:=∀ f lent args alts a,S f lent args=some alts→a∈alts→ae a.obs→ag P f lent args a.out
def nI(P:Program)(self:gi) :Prop :=
  ∀ c st p e st' obs p',self c st p=some (e,st',obs,p')→ae obs→∀ (ρ:aa) (a:Act) (w:World) (Q:Exit→Act→World→Prop),SR ρ st a w →
    (∀ ρ' a' w',iH ρ w st.next st' ρ' a' w'→Q e.real a' w')→c.wp P Q a w
theorem iH.trans{ρ ρ1 ρ2:aa}{w w1 w2:World}{n:Nat}{st1 st2:aG}{a1 a2:Act}(h:iH ρ w n st1 ρ1 a1 w1)(k:iH ρ1 w1 st1.next st2 ρ2 a2 w2) :iH ρ w n st2 ρ2 a2 w2 :=
  ⟨h.ext.trans k.ext h.wle.size,h.wle.trans k.wle (fun x hx q=>h.ext.new x hx q),k.sr,Nat.le_trans h.le k.le,fun b q=>by
    rcases k.back b q with q | q
    · exact h.back b q
    · exact .inr (Nat.le_trans h.le q)⟩
theorem iH.refl{ρ:aa}{w:World}{st:aG}{a:Act}(h:SR ρ st a w) :iH ρ w st.next st ρ a w:=⟨dp.refl _ _,b7.refl _ _,h,Nat.le_refl _,fun b q=>.inl q⟩
theorem tH(n:Nat) :List.range n=List.range' 0 n:=List.range_eq_range'
theorem p8{C:j6}(hC:C.Ok){run:bD}(hrun:nr C.P run){id:Nat}{ops:Array Oper}{draw:Bool}{st st':aG}{p p':bH}{e:AE}{obs:List Bool}(h:lz C run ops draw st p=some (e,st',obs,p')) 
    (ho:ae obs) {ρ:aa} {a:Act} {w:World} {Q:Exit→Act→World→Prop} (hs:SR ρ st a w) (hQ:∀ ρ' a' w',iH ρ w st.next st' ρ' a' w'→Q e.real a' w'):(Code.region id ops draw).wp C.P Q a w:=by
  unfold lz at h
  cases draw with
  | false =>
    simp only at h
    split at h
    case h_2=>cases h
    rename_i T hp obs' p1 hr
    simp only [Option.some.injEq,Prod.mk.injEq] at h;obtain ⟨rfl,rfl,rfl,rfl⟩:=h
    refine wp_region ?_
    rw [tH,←Array.length_toList]
    refine kG hC hrun ops.toList 0 (fun j=>by simp) hr ho (hs.heap.le (by omega)) (fun b hb=>by have:=hs.heap.lt b hb;omega) hs.defers hs.tmps ?_
    intro ρ' w' a' E W hh hd hT hb
    exact hQ ρ' a' w' ⟨E,W,⟨hd,hT,hh⟩,Nat.le_add_right _ _,hb⟩
  | true =>
    simp only at h
    split at h
    case h_2=>cases h
    rename_i rs T hp obs' p1 hr
    cases hd:nx ops [] [] (ops.toList.zip rs) with
    | false=>rw [hd] at h;cases h
    | true =>
      rw [hd] at h
      simp only [cond_true,Option.some.injEq,Prod.mk.injEq] at h;obtain ⟨rfl,rfl,rfl,rfl⟩:=h
      obtain ⟨s1,s2,s3⟩:=mc _ _ hr ho
      obtain ⟨ms,D⟩:=mb (ops.toList.zip rs) [] [] rfl hd ⟨fun j x hx=>by simp at hx,fun j x hx=>by simp at hx,fun i j x y hx=>by simp at hx⟩
      rw [List.nil_append] at D
      refine wp_region_any hC.mixed ?_
      have W0:=b7.drawn ρ.live w (w.drawn+1)
      have E0:=dp.refl ρ w
      have notL:∀ i,(Array.replicate ops.size false).getD i false=false:=by
        intro i;rw [Array.getD_eq_getD_getElem?]
        cases hq:(Array.replicate ops.size false)[i]? with
        | none=>rfl
        | some b=>rw [Array.getElem?_replicate] at hq;split at hq<;>simp_all
      have a0:∀ (l:List (Oper×jf)) (i:Nat) (s:List AV×aH),dq (fun i=>(Array.replicate ops.size false).getD i false) i l s=s:=by
        intro l
        induction l with
        | nil=>intro _ _;rfl
        | cons x l ih=>intro i s;simp only [dq];rw [notL i];exact ih _ _
      refine uk hC hrun D (by rw [s1];simp) (fun j o hj=>by have:=s3 j o hj;rw [Nat.zero_add] at this;exact this) ops.size (Array.replicate ops.size false) (by simp) (fun j o _ hl=>by rw [notL] at hl;cases hl)
        (by have:=List.countP_le_length (p:=fun i=>!(Array.replicate ops.size false).getD i false) (l:=List.range ops.size);simpa using this) (ρ:=ρ) (a:=a) ?_ ?_ hs.defers ?_ ?_
      · rw [a0];exact (hs.heap.le (by omega)).drawn _
      · intro b hb;have:=hs.heap.lt b hb;exact .inl this
      · rw [a0];exact hs.tmps.mono E0 W0
      · intro ρ' w' a' E W hh hd' hT hb
        rw [s2] at hh hT
        exact hQ ρ' a' w' ⟨⟨E.at_,E.ok,E.live,fun b hb=>E.new b hb,E.out⟩,W0.trans W (fun _ _ q=>q),⟨hd',hT,hh⟩,Nat.le_add_right _ _,hb⟩
theorem nJ{C:j6}{body:aG→bH→vG}{b:Code}(hb:∀ st p e st' obs p',body st p=some (e,st',obs,p')→ae obs→∀ (ρ:aa) (a:Act) (w:World) (Q:Exit→Act→World→Prop),SR ρ st a w →
    (∀ ρ' a' w',iH ρ w st.next st' ρ' a' w'→Q e.real a' w')→b.wp C.P Q a w) :∀ (n:Nat) (st:aG) (p:bH) (e:AE) (st':aG) (obs:List Bool) (p':bH),mU body n st p=some (e,st',obs,p')→ae obs →
    ∀ (ρ:aa) (a:Act) (w:World) (Q:Exit→Act→World→Prop),SR ρ st a w→(∀ ρ' a' w',iH ρ w st.next st' ρ' a' w'→Q e.real a' w')→Code.rounds C.P b Q n a w
  | 0,st,p,e,st',obs,p',h,_,_,_,_,_,_,_=>by cases h
  | n+1,st,p,e,st',obs,p',h,ho,ρ,a,w,Q,hs,hQ=>by
    simp only [mU] at h
    rw [rounds_succ]
    split at h
    · rename_i st1 o1 p1 h1
      split at h
      case h_2=>cases h
      rename_i e2 st2 o2 p2 h2
      simp only [Option.some.injEq,Prod.mk.injEq] at h;obtain ⟨rfl,rfl,rfl,rfl⟩:=h
      rw [au] at ho
      refine hb st p _ _ _ _ h1 ho.1 ρ a w _ hs fun ρ1 a1 w1 P1=>?_
      exact nJ hb n st1 p1 _ _ _ _ h2 ho.2 ρ1 a1 w1 Q P1.sr fun ρ2 a2 w2 P2=>hQ ρ2 a2 w2 (P1.trans P2)
    · rename_i hne
      refine hb st p _ _ _ _ h ho ρ a w _ hs fun ρ1 a1 w1 P1=>?_
      have:=hQ ρ1 a1 w1 P1
      cases e with
      | normal=>exact (hne _ _ _ h).elim
      | ret=>exact this
      | exit id=>exact this
theorem rj{C:j6}(hC:C.Ok){run:bD}(hrun:nr C.P run){N:Nat}{self:gi}(hself:nI C.P self) :nI C.P (nH C run N self):=by
  intro c st p e st' obs p' h ho ρ a w Q hs hQ
  unfold nH at h
  split at h
  · simp only [Option.some.injEq,Prod.mk.injEq] at h;obtain ⟨rfl,rfl,rfl,rfl⟩:=h
    exact wp_skip (hQ ρ a w (iH.refl hs))
  · simp only [Option.some.injEq,Prod.mk.injEq] at h;obtain ⟨rfl,rfl,rfl,rfl⟩:=h
    exact wp_label (hQ ρ a w (iH.refl hs))
  · exact p8 hC hrun h ho hs hQ
  · rename_i x y
    refine wp_seq ?_
    split at h
    · rename_i st1 o1 p1 h1
      split at h
      case h_2=>cases h
      rename_i e2 st2 o2 p2 h2
      simp only [Option.some.injEq,Prod.mk.injEq] at h;obtain ⟨rfl,rfl,rfl,rfl⟩:=h
      rw [au] at ho
      refine hself x st p _ _ _ _ h1 ho.1 ρ a w _ hs fun ρ1 a1 w1 P1=>?_
      exact hself y st1 p1 _ _ _ _ h2 ho.2 ρ1 a1 w1 Q P1.sr fun ρ2 a2 w2 P2=>hQ ρ2 a2 w2 (P1.trans P2)
    · rename_i hne
      refine hself x st p _ _ _ _ h ho ρ a w _ hs fun ρ1 a1 w1 P1=>?_
      have:=hQ ρ1 a1 w1 P1
      cases e with
      | normal=>exact (hne _ _ _ h).elim
      | ret=>exact this
      | exit id=>exact this
  · rename_i cc x y
    split at h
    case h_2=>cases h
    rename_i b o1 p1 h1
    split at h
    case h_2=>cases h
    rename_i e2 st2 o2 p2 h2
    simp only [Option.some.injEq,Prod.mk.injEq] at h;obtain ⟨rfl,rfl,rfl,rfl⟩:=h
    rw [au] at ho
    have hb:=nu (m6 hs.heap.rom hs.tmps cc) h1 ho.1
    refine wp_cond hb ?_
    have hs':SR ρ { st with tmps:=fL st.tmps cc b } a w:=by
      refine ⟨hs.defers,?_,hs.heap⟩
      cases cc with
      | tmp t =>
        simp only [fL]
        have:bf ρ w (st.tmps.set t (.bool true b)) (a.tmps.toList.set t (.bool b)):=hs.tmps.set (.bool _ _) t
        have e:a.tmps.toList.set t (.bool b)=a.tmps.toList:=by
          apply List.ext_getElem?
          intro j
          rw [List.getElem?_set]
          split
          · rename_i q;subst q
            split
            · rename_i hlt
              simp only [Act.eval] at hb
              rw [Array.getD_eq_getD_getElem?] at hb
              have hlt':t<a.tmps.size:=by simpa using hlt
              rw [Array.getElem?_eq_getElem hlt'] at hb
              simp only [Option.getD_some] at hb
              simp [hlt',hb]
            · rename_i hge
              rw [List.getElem?_eq_none (by omega)]
          · rfl
        rw [e] at this;exact this
      | const v=>exact hs.tmps
      | global g=>exact hs.tmps
      | func f=>exact hs.tmps
    have:=hself _ _ p1 _ _ _ _ h2 ho.2 ρ a w Q hs' hQ
    cases b<;>exact this
  · rename_i id b
    refine wp_block ?_
    split at h
    · rename_i id' st1 o1 p1 h1
      cases hid:Nat.beq id' id with
      | true =>
        rw [hid] at h
        simp only [cond_true,Option.some.injEq,Prod.mk.injEq] at h;obtain ⟨rfl,rfl,rfl,rfl⟩:=h
        refine hself b st p _ _ _ _ h1 ho ρ a w _ hs fun ρ1 a1 w1 P1=>?_
        simp only [AE.real,Exit.inBlock,Nat.eq_of_beq_eq_true hid,if_true]
        exact hQ ρ1 a1 w1 P1
      | false =>
        rw [hid] at h
        simp only [cond_false,Option.some.injEq,Prod.mk.injEq] at h;obtain ⟨rfl,rfl,rfl,rfl⟩:=h
        refine hself b st p _ _ _ _ h1 ho ρ a w _ hs fun ρ1 a1 w1 P1=>?_
        have hne : ¬ id'=id:=fun e=>by subst e;simp [dN] at hid
        simp only [AE.real,Exit.inBlock,hne,if_false]
        exact hQ ρ1 a1 w1 P1
    · rename_i hne
      refine hself b st p _ _ _ _ h ho ρ a w _ hs fun ρ1 a1 w1 P1=>?_
      have:=hQ ρ1 a1 w1 P1
      cases e with
      | normal=>exact this
      | ret=>exact this
      | exit id=>exact (hne _ _ _ _ h).elim
  · rename_i b
    exact wp_loop_rounds N (nJ (C:=C) (b:=b) (fun st p e st' obs p' h1 h2=>hself b st p e st' obs p' h1 h2) N st p e st' obs p' h ho ρ a w Q hs hQ)
  · simp only [Option.some.injEq,Prod.mk.injEq] at h;obtain ⟨rfl,rfl,rfl,rfl⟩:=h
    exact wp_exit (hQ ρ a w (iH.refl hs))
  · simp only [Option.some.injEq,Prod.mk.injEq] at h;obtain ⟨rfl,rfl,rfl,rfl⟩:=h
    exact wp_ret (hQ ρ a w (iH.refl hs))
  · rename_i b
    refine wp_scope_straight (hself b st p _ _ _ _ h ho ρ a w _ hs fun ρ1 a1 w1 P1=>?_)
    have:=hQ ρ1 a1 w1 P1
    cases e<;>exact this
  · cases h
theorem nK{P:Program}{w:World}{t:TypeId}{x:Value}{u:Value}(hx:∃ a,x=.pointer (some a))(h:(Instr.loadAt t x).run P w=.ok u w) :(do loadVar t (←asAddr x):Sem Value).run P w=.ok u w:=by
  obtain ⟨a,rfl⟩:=hx
  simpa [Instr.loadAt,Instr.sureAddr,asAddr] using h
def nL(tmps:Array Value) :ResultVar→Sem Value
  | .tmp t=>pure (tmps.getD t undef)
  | .cell x t=>do loadVar t (←asAddr (tmps.getD x undef))
theorem sf(fn:Func)(tmps:Array Value) :results fn tmps=(do let vs ← fn.results.mapM (nL tmps);pure (if h:vs.size=1 then vs[0] else .tuple vs)):=by
  unfold results
  congr 1
theorem iM{P:Program}{fn:Func}{st:aG}{ρ:aa}{a:Act}{w:World}(hs:SR ρ st a w) :∀ (l:List ResultVar) {vs:List AV} {obs:List Bool},ch P fn st l=some (vs,obs)→ae obs →
    ∃ us:List Value,(l.mapM (nL a.tmps)).run P w=.ok us w∧bf ρ w vs us
  | [],vs,obs,h,ho=>by
    simp only [ch,Option.some.injEq,Prod.mk.injEq] at h;obtain ⟨rfl,rfl⟩:=h
    exact ⟨[],by simp,.nil⟩
  | .tmp t::l,vs,obs,h,ho=>by
    simp only [ch] at h
    split at h
    case h_2=>cases h
    rename_i vs' o' h1
    simp only [Option.some.injEq,Prod.mk.injEq] at h;obtain ⟨rfl,rfl⟩:=h
    obtain ⟨us,q1,q2⟩:=iM hs l h1 ho
    refine ⟨a.tmps.getD t undef::us,?_,.cons _ _ _ _ (m6 hs.heap.rom hs.tmps (.tmp t)) q2⟩
    simp only [List.mapM_cons,nL,Sem.run_bind,Sem.run_pure,Result.andThen_ok,q1]
  | .cell x t::l,vs,obs,h,ho=>by
    simp only [ch] at h
    split at h
    case h_2=>cases h
    rename_i v o rs vs' o' h1 h2
    simp only [Option.some.injEq,Prod.mk.injEq] at h;obtain ⟨rfl,rfl⟩:=h
    rw [au] at ho
    obtain ⟨us,q1,q2⟩:=iM hs l h2 ho.2
    have hv:=m6 hs.heap.rom hs.tmps (.tmp x)
    simp only [vc,Act.eval] at hv
    obtain ⟨u,r1,r2⟩:=lX (P:=P) hs.heap hv h1 ho.1
    have hp:∃ ad,a.tmps.getD x undef=.pointer (some ad):=by
      generalize a.tmps.getD x undef=z at hv
      unfold kq at h1
      simp only at h1
      split at h1
      · rename_i e;rw [e] at hv;cases hv;exact ⟨_,rfl⟩
      · rename_i e;rw [e] at hv;cases hv;exact ⟨_,rfl⟩
      · cases h1
    have:=nK hp r1
    refine ⟨u::us,?_,.cons _ _ _ _ r2 q2⟩
    simp only [List.mapM_cons,nL,Sem.run_bind] at this ⊢
    rw [this]
    simp only [Result.andThen_ok,Sem.run_bind,q1,Sem.run_pure]
theorem rl{P:Program}{fn:Func}{st:aG}{ρ:aa}{a:Act}{w:World}(hs:SR ρ st a w){vs:List AV}{obs:List Bool}(h:ch P fn st fn.results.toList=some (vs,obs))(ho:ae obs) :
    ∃ v,(results fn a.tmps).run P w=.ok v w∧VR ρ w (lD vs) v:=by
  obtain ⟨us,q1,q2⟩:=iM hs fn.results.toList h ho
  have hl:=q2.length
  have hm:(fn.results.mapM (nL a.tmps)).run P w=.ok us.toArray w:=by
    rw [Array.mapM_eq_mapM_toList,map_eq_pure_bind,Sem.run_bind,q1,Result.andThen_ok,Sem.run_pure]
  rw [sf,Sem.run_bind,hm,Result.andThen_ok]
  match vs,us,q2,hl with
  | [],[],q2,_=>exact ⟨.tuple #[],rfl,.tup _ _ .nil⟩
  | [v],[u],q2,_=>cases q2 with | cons _ _ _ _ h1 _=>exact ⟨u,rfl,h1⟩
  | v::v'::vs,u::u'::us,q2,_ =>
    refine ⟨.tuple (u::u'::us).toArray,?_,.tup _ _ q2⟩
    simp
theorem iN{P:Program}{f:FuncId}{fn:Func}{c:Code}(hf:P.funcs[f]? = some fn)(hc:fn.body=some c){lent:List ac}{args:List AV}{r:iw}{keep:Bool} 
    (h:∀ (ρ:aa) (w:World) (a:Act),dm ρ w lent→SR ρ (fm fn lent args) a w →
      c.wp P (fun e a' w'=>(e=.normal∨e=.ret)∧∃ ρ' st' vs obs,dp ρ ρ' w∧b7 ρ.live w w'∧(∀ i,i<lent.length→ρ'.ok i→ρ.ok i)∧SR ρ' st' a' w'∧ch P fn st' fn.results.toList=some (vs,obs)∧ae obs∧nG lent.length keep st'.heap (lD vs)=some r) a w):ag P f lent args r:=by
  intro ρ w us hN hv
  refine ⟨⟨fn,hf,by rw [hc];rfl⟩,?_⟩
  refine calls_of_wp hf hc ?_
  have hlen:=hv.length
  have hs:SR ρ (fm fn lent args) { tmps:=us.toArray++Array.replicate (fn.ntmps-us.toArray.size) undef,defers:=[] } w:=by
    refine ⟨rfl,?_,hN.heap⟩
    simp only [fm,Array.toList_append,Array.toList_replicate,List.size_toArray,hlen]
    refine bf.append ?_ hv
    have:∀ n,bf ρ w (List.replicate n (.tup [])) (List.replicate n undef):=by
      intro n
      induction n with
      | zero=>exact .nil
      | succ n ih=>exact .cons _ _ _ _ (.tup [] #[] .nil) ih
    exact this _
  refine wp_mono (h ρ w _ hN hs) ?_
  rintro e a' w' ⟨he,ρ',st',vs,obs,E,W,hbk,S,hr,hob,hkeep⟩
  have i6:a'.defers=[]∧∃ v,(results fn a'.tmps).run P w'=.ok v w'∧∃ u,Ending.returned v=.returned u∧b7 ρ.live w w'∧r.Holds ρ w w' lent.length u:=by
    refine ⟨S.defers,?_⟩
    obtain ⟨v,q1,q2⟩:=rl S hr hob
    exact ⟨v,q1,v,rfl,W,ri S.heap hN E hbk W.size q2 hkeep⟩
  rcases he with rfl | rfl
  · exact i6
  · exact i6
theorem rm{C:j6}{S:kJ}(hS:bm C.P S){self:gi}(hself:nI C.P self) :nr C.P (gO C S self):=by
  intro f lent args p r obs p' h ho
  unfold gO at h
  split at h
  · rename_i alts hs
    simp only [Option.map_eq_some_iff,Prod.mk.injEq] at h
    obtain ⟨⟨alt,q⟩,h1,rfl,rfl,rfl⟩:=h
    exact hS f lent args alts alt hs (tG h1) ho
  · split at h
    case h_2=>cases h
    rename_i fn hf
    split at h
    case h_2=>cases h
    rename_i c hc
    split at h
    case h_2=>cases h
    rename_i e st o1 p1 hr
    cases hres:ch C.P fn st fn.results.toList with
    | none=>rw [hres] at h;cases e<;>cases h
    | some x =>
      obtain ⟨vs,o2⟩:=x
      rw [hres] at h
      have key:∀ (he:e=.normal∨e=.ret),(match nG lent.length (C.mode f).keep st.heap (lD vs) with | some r=>some (r,o1++o2,p1) | none=>none)=some (r,obs,p')→ag C.P f lent args r:=by
        intro he h
        split at h
        case h_2=>cases h
        rename_i r' hk
        simp only [Option.some.injEq,Prod.mk.injEq] at h;obtain ⟨rfl,rfl,rfl⟩:=h
        rw [au] at ho
        refine iN (keep:=(C.mode f).keep) hf hc fun ρ w a hN hs=>?_
        refine hself c _ p e st o1 p1 hr ho.1 ρ a w _ hs fun ρ' a' w' P1=>⟨?_,ρ',st,vs,o2,P1.ext,P1.wle,fun i hi q=>?_,P1.sr,hres,ho.2,hk⟩
        · rcases he with rfl | rfl
          · exact .inl rfl
          · exact .inr rfl
        · rcases P1.back i q with q | q
          · exact q
          · simp only [fm] at q;omega
      cases e with
      | normal=>exact key (.inl rfl) h
      | ret=>exact key (.inr rfl) h
      | exit id=>cases h
theorem g8{C:j6}(hC:C.Ok){S:kJ}(hS:bm C.P S)(N:Nat) :∀ n,nI C.P (b0 C S N n)
  | 0=>fun c st p e st' obs p' h=>by cases h
  | n+1=>rj hC (rm hS (g8 hC hS N n)) (g8 hC hS N n)
theorem mA{C:j6}(hC:C.Ok){S:kJ}(hS:bm C.P S)(N n:Nat){f:FuncId}{lent:List ac}{args:List AV}{p p':bH}{r:iw}{obs:List Bool}(h:gO C S (b0 C S N n) f lent args p=some (r,obs,p'))(ho:ae obs) :
    ag C.P f lent args r:=rm hS (g8 hC hS N n) f lent args p r obs p' h ho
def mV:List (Nat×mz)→Nat→Option mz
  | [],_=>none
  | (k,e)::l,f=>bif Nat.beq k f then some e else mV l f
def rn:List (Nat×uh)→Nat→uh
  | [],_=>⟨[],false⟩
  | (k,m)::l,f=>bif Nat.beq k f then m else rn l f
def sW(P:Program)(l:List (Nat×mz))(ms:List (Nat×uh)) :j6:={ P,ext:=mV l,mode:=rn ms,wrap:=false }
theorem me:∀ {l:List (Nat×mz)} {f:Nat} {k:mz},mV l f=some k→(f,k)∈l
  | [],f,k,h=>by cases h
  | (a,e)::l,f,k,h=>by
    simp only [mV] at h
    cases hb:Nat.beq a f with
    | true=>rw [hb] at h;simp only [cond_true,Option.some.injEq] at h;have:=Nat.eq_of_beq_eq_true hb;subst this;subst h;simp
    | false=>rw [hb] at h;simp only [cond_false] at h;exact List.mem_cons_of_mem _ (me h)
structure sX (P:Program) (f:Nat) (k:mz):Prop where
  fn : ∃ fn, P.funcs[f]? = some fn ∧ (fn.name == "runtime.NumGoroutine") = false ∧ fn.body.isNone = true ∧ Extern.findNext fn = none ∧ Extern.find fn = some (lx k)
def sY(P : Program) : Bool := P.funcs.toList.all fun fn => !(fn.name == "runtime.NumGoroutine")
theorem un{P:Program}{l:List (Nat×mz)}{ms:List (Nat×uh)}(hm:P.follows .mixedOrders=true)(hn:sY P=true)(he:∀ x∈l,sX P x.1 x.2) :(sW P l ms).Ok:=by
  refine ⟨hm,fun f fn args w hf hb=>?_,fun f k args w hk=>?_⟩
  · have h1 : fn.name ≠ "runtime.NumGoroutine" := by
      have hmem:fn∈P.funcs.toList:=by
        have:fn∈P.funcs:=Array.mem_of_getElem? hf
        simpa using this
      have:=List.all_eq_true.1 hn fn hmem
      simpa using this
    have h2:fn.body≠none:=by intro q;rw [q] at hb;cases hb
    have hf':P.funcs[f]? = some fn:=hf
    have h3:fn.body.isNone=false:=by cases hq:fn.body<;>simp_all
    simp only [sW,callFunc,Sem.run_bind,run_program,Result.andThen_ok,hf',beq_eq_false_iff_ne.2 h1,Bool.false_eq_true,if_false,h3,Sem.run_pure]
  · obtain ⟨fn,h1,h2,h3,h4,h5⟩:=(he _ (me hk)).fn
    have:=run_callFunc_extern (P:=P) h1 h2 h3 h4 h5 args w
    simp only [sW]
    rw [this,Sem.run_bind]
    rfl
def At(k:Nat)(ρ0:aa)(w0:World)(st:aG)(a:Act)(w:World) :Prop:=∃ ρ,dp ρ0 ρ w0∧b7 ρ0.live w0 w∧SR ρ st a w∧(∀ i,i<k→ρ.ok i→ρ0.ok i)∧k≤st.next
def tI(lent:List ac)(st st':aG) :Prop:=∀ ρ0 w0 a w,dm ρ0 w0 lent→At lent.length ρ0 w0 st a w→At lent.length ρ0 w0 st' a w
theorem tI.refl(lent:List ac)(st:aG) :tI lent st st:=fun _ _ _ _ _ h=>h
theorem tI.trans{lent:List ac}{a b c:aG}(h:tI lent a b)(k:tI lent b c) :tI lent a c:=fun _ _ _ _ hN q=>k _ _ _ _ hN (h _ _ _ _ hN q)
def rp:AV→AV
  | .flt _ x=>.flt false x
  | .bool _ b=>.bool false b
  | v=>v
def vZ(σ:Nat→Option Nat) :ac→ac
  | .vs l=>.vs ((t0 σ l).map rp)
  | d=>d
def lE(σ:Nat→Option Nat)(h:aH) :Nat→List Nat→aH
  | _,[]=>[]
  | i,b::l=>match am h b with
    | some d=>(i,vZ σ d)::lE σ h (i+1) l
    | none=>lE σ h (i+1) l
def wi(b:Bool)(v u:AV) :AV :=
  match b with
  | true=>v
  | false=>u
def vH:List (Nat×AV)→Nat→AV
  | [],_=>.any
  | (k,v)::l,t=>wi (Nat.beq k t) v (vH l t)
def pn(L:List (Nat×AV)) :Nat→Nat→List AV
  | _,0=>[]
  | t,n+1=>vH L t::pn L (t+1) n
def a8(n:Nat)(L:List (Nat×AV)) :List AV:=pn L 0 n
def wA(σ:Nat→Option Nat)(ks:List Nat) :Nat→List AV→List AV
  | _,[]=>[]
  | t,v::l=>(bif g3 ks t then rp (vb σ v) else .any)::wA σ ks (t+1) l
def norm(keep ks:List Nat)(st:aG) :aG :=
  ⟨wA (cU keep 0) ks 0 st.tmps,lE (cU keep 0) st.heap 0 keep,keep.length⟩
theorem rq{ρ:aa}{w:World}{v:AV}{u:Value}(h:VR ρ w v u) :VR ρ w (rp v) u:=by
  cases h<;>simp only [rp]<;>first | exact .bool _ _ | (rename_i hf;refine .flt _ _ _ ?_;rcases hf with rfl | ⟨_,h2,h3⟩;exact .inl rfl;exact .inr ⟨rfl,h2,h3⟩) | skip
  case int=>exact .int _ _
  case str=>exact .str _
  case nptr=>exact .nptr
  case ptr hb=>exact .ptr _ _ _ _ hb
  case iptr=>rename_i bw d k i j bl o u' ha hb hr hg hc hv hk;exact .iptr bw d k i j bl o _ (by assumption) (by assumption) (by assumption) (by assumption) (by assumption) (by assumption) (by assumption)
  case nsl=>exact .nsl
  case esl=>exact .esl _
  case zsl=>exact .zsl _ _
  case nan=>exact .nan _ (by assumption)
  case sl=>exact .sl _ _ _ _ _ _ _ (by assumption) (by assumption) (by assumption) _ _ (by assumption) (by assumption)
  case slEnd=>exact .slEnd _ _ _ _ _
  case imm=>exact .imm _ _ _ _ _ _ _ _ _ _ (by assumption) (by assumption) (by assumption) (by assumption) (by assumption) (by assumption) (by assumption) (by assumption)
  case immEnd=>exact .immEnd _ _ _ _ _ _ _ (by assumption) (by assumption) (by assumption)
  case fn=>exact .fn _ _ _ _ _ (by assumption) (by assumption)
  case nfn=>exact .nfn
  case agg=>exact .agg _ _ (by assumption)
  case tup=>exact .tup _ _ (by assumption)
  case iface=>exact .iface _ _ _ (by assumption)
  case niface=>exact .niface
  case any=>exact .any _
theorem uo{ρ:aa}{keep ks:List Nat}{w:World} :∀ (l:List AV) (t:Nat) {c:List Value},bf ρ w l c→bf (ρ.renamed keep) w (wA (cU keep 0) ks t l) c
  | [],t,c,h=>by cases h;exact .nil
  | v::l,t,c,h=>by
    cases h with | cons _ u _ c' h1 h2 =>
    simp only [wA]
    refine .cons _ _ _ _ ?_ (uo l (t+1) h2)
    cases g3 ks t with
    | true=>exact rq (md v h1)
    | false=>exact .any u
theorem g9{σ:Nat→Option Nat}{h:aH} :∀ {l:List Nat} {i c:Nat} {d:ac},am (lE σ h i l) c=some d→i≤c∧∃ b e,l[c-i]? = some b∧am h b=some e∧d=vZ σ e
  | [],i,c,d,q=>by cases q
  | b::l,i,c,d,q=>by
    simp only [lE] at q
    have next:am (lE σ h (i+1) l) c=some d→i≤c∧∃ b' e,(b::l)[c-i]? = some b'∧am h b'=some e∧d=vZ σ e:=by
      intro q
      obtain ⟨h1,b',e,h2,h3,h4⟩:=g9 q
      refine ⟨by omega,b',e,?_,h3,h4⟩
      have:c-i=(c-(i+1))+1:=by omega
      rw [this];simpa using h2
    split at q
    · rename_i e he
      simp only [am] at q
      cases hc:Nat.beq i c with
      | true =>
        rw [hc] at q;simp only [cond_true,Option.some.injEq] at q
        have:=Nat.eq_of_beq_eq_true hc;subst this
        exact ⟨Nat.le_refl _,b,e,by simp,he,q.symm⟩
      | false=>rw [hc] at q;exact next q
    · exact next q
theorem uq{σ:Nat→Option Nat}{d:ac}(h:d.recKept) :(vZ σ d).recKept:=by
  cases d<;>first | exact h | trivial
theorem rr{σ:Nat→Option Nat}{d:ac}{x:Nat}{v:AV}(h:(vZ σ d).cell? x=some v)(hr:d.recKept) :∃ v',d.cell? x=some v'∧(v=rp (vb σ v')∨(v=v'∧v.foreign=true)):=by
  cases d with
  | vs l =>
    simp only [vZ,ac.cell?,List.getElem?_map,p7,Option.map_map,Option.map_eq_some_iff,Function.comp] at h
    obtain ⟨v',h1,rfl⟩:=h
    exact ⟨v',h1,.inl rfl⟩
  | fl xs=>exact ⟨v,h,.inr ⟨rfl,an (d:=.fl xs) hr rfl x v h⟩⟩
  | ns k xs=>exact ⟨v,h,.inr ⟨rfl,an (d:=.ns k xs) hr rfl x v h⟩⟩
  | bs xs=>exact ⟨v,h,.inr ⟨rfl,an (d:=.bs xs) hr rfl x v h⟩⟩
  | ss xs=>exact ⟨v,h,.inr ⟨rfl,an (d:=.ss xs) hr rfl x v h⟩⟩
  | rows k m get=>exact ⟨v,h,.inr ⟨rfl,an (d:=.rows k m get) hr rfl x v h⟩⟩
  | cols m cs=>exact ⟨v,h,.inr ⟨rfl,an (d:=.cols m cs) hr rfl x v h⟩⟩
def p9:Nat→Nat→List Nat→Bool
  | 0,_,_=>true
  | _+1,_,[]=>false
  | k+1,i,b::l=>Nat.beq b i&&p9 k (i+1) l
theorem nM:∀ {k i:Nat} {l:List Nat},p9 k i l=true→∀ j,j<k→l[j]? = some (i+j)
  | 0,i,l,_,j,hj=>by omega
  | k+1,i,[],h,j,hj=>by cases h
  | k+1,i,b::l,h,j,hj=>by
    simp only [p9,Bool.and_eq_true] at h
    cases j with
    | zero=>simp;exact Nat.eq_of_beq_eq_true h.1
    | succ j=>simp only [List.getElem?_cons_succ];rw [nM h.2 j (by omega)];congr 1;omega
def sh(k:Nat)(keep:List Nat) :Bool:=g4 keep&&p9 k 0 keep
theorem ur{lent:List ac}{keep ks:List Nat}(hk:sh lent.length keep=true)(st:aG) :tI lent st (norm keep ks st):=by
  unfold sh at hk
  rw [Bool.and_eq_true] at hk
  obtain ⟨hn,hid⟩:=hk
  have idL:∀ {i:Nat},i<lent.length→keep[i]? = some i:=fun q=>by have:=nM hid _ q;simpa using this
  have atL:∀ {ρ:aa} {i b:Nat},keep[i]? = some b→(ρ.renamed keep).at_ i=ρ.at_ b:=fun q=>by simp [aa.renamed,q]
  rintro ρ0 w0 a w hN ⟨ρ,E,W,S,hbk,hle⟩
  refine ⟨ρ.renamed keep,⟨fun b q=>?_,fun b q=>⟨b,idL (hN.heap.lt b q),E.ok b q⟩,E.live,E.new,E.out⟩,W,⟨S.defers,uo _ _ S.tmps,?_⟩,fun i hi q=>?_,?_⟩
  · rw [atL (idL (hN.heap.lt b q))];exact E.at_ b q
  · have hh:=S.heap
    refine ⟨fun c d q=>?_,fun c c' d d' q q' ok1 ok2 he=>?_,hh.fresh,hh.liveLt,hh.outLt,fun c q=>?_,fun x hx=>md _ (hh.rom x hx)⟩
    · obtain ⟨_,b,e,h1,h2,rfl⟩:=g9 q
      rw [Nat.sub_zero] at h1
      rcases hh.cell b e h2 with ⟨k1,k2,hr,ce,t,r1,r2⟩ | ⟨k1,k2,k3,k4⟩
      · refine .inl ⟨⟨b,h1,k1⟩,by rw [atL h1];exact k2,uq hr,ce,t,by rw [atL h1];exact r1,fun x v hx=>?_⟩
        obtain ⟨v',s1,s2⟩:=rr hx hr
        obtain ⟨u,t1,t2⟩:=r2 x v' s1
        refine ⟨u,t1,?_⟩
        rcases s2 with rfl | ⟨rfl,hf⟩
        · exact rq (md v' t2)
        · exact bI t2 hf
      · refine .inr ⟨?_,(List.getElem?_eq_some_iff.1 h1).1,uq k3,fun x=>?_⟩
        · rintro ⟨b',q1,q2⟩
          rw [h1] at q1;cases q1
          exact k1 q2
        · cases hc:(vZ (cU keep 0) e).cell? x with
          | none=>rfl
          | some v=>obtain ⟨v',s1,_⟩:=rr hc k3;rw [k4 x] at s1;cases s1
    · obtain ⟨_,b,e,h1,h2,rfl⟩:=g9 q
      obtain ⟨_,b',e',h1',h2',rfl⟩:=g9 q'
      rw [Nat.sub_zero] at h1 h1'
      obtain ⟨x,x1,x2⟩:=ok1
      obtain ⟨y,y1,y2⟩:=ok2
      rw [h1] at x1;cases x1
      rw [h1'] at y1;cases y1
      rw [atL h1,atL h1'] at he
      have:=hh.inj b b' e e' h2 h2' x2 y2 he
      subst this
      exact g5 hn h1 h1'
    · obtain ⟨b,h1,_⟩:=q
      exact (List.getElem?_eq_some_iff.1 h1).1
  · obtain ⟨b,q1,q2⟩:=q
    rw [idL hi] at q1;cases q1
    exact hbk i hi q2
  · simp only [norm]
    rcases Nat.lt_or_ge keep.length lent.length with q | q
    · have:=idL q
      rw [List.getElem?_eq_none (Nat.le_refl _)] at this;cases this
    · exact q
inductive GP where
  | slot (t:Nat)
  | part (t i:Nat)
  | cell (b i:Nat)
def bx.empty:bx→Bool
  | .cf [] | .ci _ [] | .cb [] | .cs [] | .cfl [] | .cns _ []=>true
  | _=>false
def kK:List bx→Bool
  | []=>true
  | c::l=>c.empty&&kK l
def ac.isVoid:ac→Bool
  | .fl [] | .ns _ [] | .bs [] | .ss [] | .vs []=>true
  | .cols 0 cs=>kK cs
  | _=>false
theorem nN{c:bx}(h:c.empty=true) :c.len=0:=by
  unfold bx.empty at h
  split at h<;>first | rfl | cases h
theorem gC:∀ {l:List bx},kK l=true→∀ c∈l,c.len=0
  | [],_,c,hc=>by cases hc
  | c::l,h,x,hx=>by
    simp only [kK,Bool.and_eq_true] at h
    rcases List.mem_cons.1 hx with rfl | q
    · exact nN h.1
    · exact gC h.2 x q
theorem iO{d:ac}(h:d.isVoid=true) :d.recKept∧d.void:=by
  unfold ac.isVoid at h
  split at h
  case h_6 =>
    rename_i cs
    have:=gC h
    refine ⟨this,fun x=>?_⟩
    cases hc:(ac.cols 0 cs).cell? x with
    | none=>rfl
    | some v =>
      obtain ⟨c,_,h2,h3⟩:=bF hc
      have:=iA h3
      rw [gC h c h2] at this;exact absurd this (Nat.not_lt_zero _)
  case h_7=>cases h
  all_goals exact ⟨trivial,fun x=>by simp [ac.cell?]⟩
theorem nO(b w es:Nat) :aj .nsl (.sl b w es 0 0 0):=by
  intro ρ w' u h;cases h;exact .slEnd _ _ _ _ _
theorem HR.weaken{ρ:aa}{w:World}{h:aH}{n b:Nat}{d d':ac}(hh:HR ρ w h n)(hg:am h b=some d)(hr:d'.recKept)(hw:∀ x v',d'.cell? x=some v'→∃ v,d.cell? x=some v∧aj v v') :HR ρ w (bC h b d') n:=by
  have look:∀ x e,am (bC h b d') x=some e→(x=b∧e=d')∨(x≠b∧am h x=some e):=by
    intro x e hx
    rw [bd] at hx
    by_cases q:b=x
    · rw [if_pos q] at hx;cases hx;exact .inl ⟨q.symm,rfl⟩
    · rw [if_neg q] at hx;exact .inr ⟨fun e=>q e.symm,hx⟩
  have had:∀ x e,am (bC h b d') x=some e→∃ e',am h x=some e':=by
    intro x e hx
    rcases look x e hx with ⟨rfl,_⟩ | ⟨_,q⟩
    · exact ⟨d,hg⟩
    · exact ⟨e,q⟩
  refine ⟨fun x e hx=>?_,fun x y e f h1 h2 ok1 ok2 he=>?_,hh.fresh,hh.liveLt,hh.outLt,hh.lt,hh.rom⟩
  · rcases look x e hx with ⟨rfl,rfl⟩ | ⟨_,q⟩
    · rcases hh.cell x d hg with ⟨k1,k2,_,c,t,r1,r2⟩ | ⟨k1,k2,_,k4⟩
      · refine .inl ⟨k1,k2,hr,c,t,r1,fun y v' hy=>?_⟩
        obtain ⟨v,q1,q2⟩:=hw y v' hy
        obtain ⟨u,t1,t2⟩:=r2 y v q1
        exact ⟨u,t1,q2 _ _ _ t2⟩
      · refine .inr ⟨k1,k2,hr,fun y=>?_⟩
        cases hc:e.cell? y with
        | none=>rfl
        | some v'=>obtain ⟨v,q1,_⟩:=hw y v' hc;rw [k4 y] at q1;cases q1
    · exact hh.cell x e q
  · obtain ⟨e',q1⟩:=had x e h1
    obtain ⟨f',q2⟩:=had y f h2
    exact hh.inj x y e' f' q1 q2 ok1 ok2 he
def si(st:aG)(pos:GP)(w es:Nat)(d:ac) :aG :=
  match pos with
  | .slot t =>
    match st.tmps[t]? with
    | some .nsl=>⟨st.tmps.set t (.sl st.next w es 0 0 0),bC st.heap st.next d,st.next+1⟩
    | some .esl=>⟨st.tmps.set t (.sl st.next w es 0 0 0),bC st.heap st.next d,st.next+1⟩
    | _=>st
  | .part t i =>
    match st.tmps[t]? with
    | some (.agg l) =>
      match l[i]? with
      | some .nsl=>⟨st.tmps.set t (.agg (l.set i (.sl st.next w es 0 0 0))),bC st.heap st.next d,st.next+1⟩
      | _=>st
    | _=>st
  | .cell b i =>
    match am st.heap b with
    | some (.vs l) =>
      match l[i]? with
      | some .nsl=>⟨st.tmps,bC (bC st.heap b (.vs (l.set i (.sl st.next w es 0 0 0)))) st.next d,st.next+1⟩
      | _=>st
    | _=>st
theorem ut(b w es:Nat) :aj .esl (.sl b w es 0 0 0):=by
  intro ρ w' u h;cases h;exact .slEnd _ _ _ _ _
theorem gj{ρ:aa}{w:World} :∀ {l:List AV} {c:List Value} {i:Nat} {v v':AV},bf ρ w l c→l[i]? = some v→aj v v'→bf ρ w (l.set i v') c
  | _,_,i,v,v',.nil,h,_=>by simp at h
  | _,_,0,v,v',.cons a u l c h t,hi,hw=>by simp at hi;subst hi;exact .cons _ _ _ _ (hw _ _ _ h) t
  | _,_,i+1,v,v',.cons a u l c h t,hi,hw=>.cons _ _ _ _ h (gj t (by simpa using hi) hw)
theorem sj{lent:List ac}{st:aG}{pos:GP}{w es:Nat}{d:ac}(hd:d.isVoid=true) :tI lent st (si st pos w es d):=by
  obtain ⟨d1,d2⟩:=iO hd
  rintro ρ0 w0 a w' hN ⟨ρ,E,W,S,hbk,hle⟩
  have hh:=S.heap
  have hno : ¬ ρ.ok st.next:=fun q=>Nat.lt_irrefl _ (hh.lt _ q)
  have h1:HR ρ w' (bC st.heap st.next d) (st.next+1):=(hh.le (Nat.le_succ _)).ghost hno (Nat.lt_succ_self _) d1 d2
  have id_:At lent.length ρ0 w0 st a w':=⟨ρ,E,W,S,hbk,hle⟩
  unfold si
  split
  · split
    · rename_i t h
      exact ⟨ρ,E,W,⟨S.defers,gj S.tmps h (nO _ _ _),h1⟩,hbk,Nat.le_succ_of_le hle⟩
    · rename_i t h
      exact ⟨ρ,E,W,⟨S.defers,gj S.tmps h (ut _ _ _),h1⟩,hbk,Nat.le_succ_of_le hle⟩
    · exact id_
  · split
    · rename_i t i l h
      split
      · rename_i h2
        refine ⟨ρ,E,W,⟨S.defers,gj S.tmps h ?_,h1⟩,hbk,Nat.le_succ_of_le hle⟩
        intro ρ w u hu
        cases hu with | agg _ c hc=>exact .agg _ _ (gj hc h2 (nO _ _ _))
      · exact id_
    · exact id_
  · split
    · rename_i b i _ l h
      split
      · rename_i h2
        have hw:HR ρ w' (bC st.heap b (.vs (l.set i (.sl st.next w es 0 0 0)))) st.next:=by
          refine hh.weaken h trivial fun x v' hx=>?_
          simp only [ac.cell?,List.getElem?_set] at hx ⊢
          by_cases hi:i=x
          · subst hi
            rw [if_pos rfl] at hx
            split at hx
            · cases hx;exact ⟨_,h2,nO _ _ _⟩
            · cases hx
          · rw [if_neg hi] at hx;exact ⟨v',hx,aj.refl _⟩
        exact ⟨ρ,E,W,⟨S.defers,S.tmps,(hw.le (Nat.le_succ _)).ghost hno (Nat.lt_succ_self _) d1 d2⟩,hbk,Nat.le_succ_of_le hle⟩
      · exact id_
    · exact id_
def nP(f:AV→Option AV)(st:aG)(pos:GP) :aG :=
  match pos with
  | .slot t =>
    match st.tmps[t]? with
    | some v=>match f v with
      | some v'=>⟨st.tmps.set t v',st.heap,st.next⟩
      | none=>st
    | none=>st
  | .part t i =>
    match st.tmps[t]? with
    | some (.agg l) =>
      match l[i]? with
      | some v=>match f v with
        | some v'=>⟨st.tmps.set t (.agg (l.set i v')),st.heap,st.next⟩
        | none=>st
      | none=>st
    | _=>st
  | .cell b i =>
    match am st.heap b with
    | some (.vs l) =>
      match l[i]? with
      | some v=>match f v with
        | some v'=>⟨st.tmps,bC st.heap b (.vs (l.set i v')),st.next⟩
        | none=>st
      | none=>st
    | _=>st
theorem j8{lent:List ac}{st:aG}{pos:GP}{f:AV→Option AV}(hf:∀ v v',f v=some v'→aj v v') :tI lent st (nP f st pos):=by
  rintro ρ0 w0 a w' hN ⟨ρ,E,W,S,hbk,hle⟩
  have hh:=S.heap
  have id_:At lent.length ρ0 w0 st a w':=⟨ρ,E,W,S,hbk,hle⟩
  unfold nP
  split
  · split
    · rename_i t v h
      split
      · rename_i v' hv
        exact ⟨ρ,E,W,⟨S.defers,gj S.tmps h (hf _ _ hv),hh⟩,hbk,hle⟩
      · exact id_
    · exact id_
  · split
    · rename_i t i l h
      split
      · rename_i v h2
        split
        · rename_i v' hv
          refine ⟨ρ,E,W,⟨S.defers,gj S.tmps h ?_,hh⟩,hbk,hle⟩
          intro ρ w u hu
          cases hu with | agg _ c hc=>exact .agg _ _ (gj hc h2 (hf _ _ hv))
        · exact id_
      · exact id_
    · exact id_
  · split
    · rename_i b i _ l h
      split
      · rename_i v h2
        split
        · rename_i v' hv
          have hw:HR ρ w' (bC st.heap b (.vs (l.set i v'))) st.next:=by
            refine hh.weaken h trivial fun x u hx=>?_
            simp only [ac.cell?,List.getElem?_set] at hx ⊢
            by_cases hi:i=x
            · subst hi
              rw [if_pos rfl] at hx
              split at hx
              · cases hx;exact ⟨_,h2,hf _ _ hv⟩
              · cases hx
            · rw [if_neg hi] at hx;exact ⟨u,hx,aj.refl _⟩
          exact ⟨ρ,E,W,⟨S.defers,S.tmps,hw⟩,hbk,hle⟩
        · exact id_
      · exact id_
    · exact id_
theorem gk{d:ac}(h:d.isVoid=true) :d.kept=true∧d.foreign=true:=by
  unfold ac.isVoid at h
  split at h<;>first | exact ⟨rfl,rfl⟩ | cases h
theorem tJ{d:ac}(w es:Nat)(hd:d.isVoid=true) :aj .nsl (.imm .free d w es 0 0):=by
  intro ρ w' u h;cases h;exact .immEnd _ _ _ _ _ _ _ (iO hd).1 (fun _=>(gk hd).1) (gk hd).2
theorem tK{d:ac}(w es:Nat)(hd:d.isVoid=true) :aj .esl (.imm .free d w es 0 0):=by
  intro ρ w' u h;cases h;exact .immEnd _ _ _ _ _ _ _ (iO hd).1 (fun _=>(gk hd).1) (gk hd).2
def sk(w es:Nat)(d:ac) :AV→Option AV
  | .nsl | .esl=>some (.imm .free d w es 0 0)
  | _=>none
theorem rt{w es:Nat}{d:ac}(hd:d.isVoid=true) :∀ v v',sk w es d v=some v'→aj v v':=by
  intro v v' h
  unfold sk at h
  split at h
  · cases h;exact tJ _ _ hd
  · cases h;exact tK _ _ hd
  · cases h
theorem sZ{l:Lv}{ρ:aa}{bl:Nat}(ha:ρ.avoid .free bl) :ρ.avoid l bl:=cp (fun j=>ha j (Nat.zero_le _)) _ _
def v3(l:Lv) :AV→Option AV
  | .imm .free d w es i n=>some (.imm l d w es i n)
  | .iptr .free d w i j=>some (.iptr l d w i j)
  | _=>none
theorem tL{l:Lv} :∀ v v',v3 l v=some v'→aj v v':=by
  intro v v' h
  unfold v3 at h
  split at h
  · cases h
    intro ρ w' u hu
    cases hu with
    | imm _ _ _ _ _ _ cap bl o u ha hb hc hv hn hr hk hg=>exact .imm _ _ _ _ _ _ cap bl o u (sZ ha) hb hc hv hn hr (fun _=>hk rfl) hg
    | immEnd _ _ _ _ _ cap a hr hk hg=>exact .immEnd _ _ _ _ _ cap a hr (fun _=>hk rfl) hg
  · cases h
    intro ρ w' u hu
    cases hu with
    | iptr _ _ _ _ _ bl o u ha hb hc hv hr hk hg=>exact .iptr _ _ _ _ _ bl o u (sZ ha) hb hc hv hr (fun _=>hk rfl) hg
  · cases h
def uu:AV→Option AV
  | .imm _ d w es i n=>some (.imm .lent d w es i n)
  | .iptr _ d w i j=>some (.iptr .lent d w i j)
  | _=>none
theorem sm:∀ v v',uu v=some v'→aj v v':=by
  intro v v' h
  unfold uu at h
  split at h
  · cases h
    intro ρ w' u hu
    cases hu with
    | imm _ _ _ _ _ _ cap bl o u ha hb hc hv hn hr hk hg=>exact .imm _ _ _ _ _ _ cap bl o u (jU (O:=ρ.own) ha) hb hc hv hn hr (fun q=>by cases q) hg
    | immEnd _ _ _ _ _ cap a hr hk hg=>exact .immEnd _ _ _ _ _ cap a hr (fun q=>by cases q) hg
  · cases h
    intro ρ w' u hu
    cases hu with
    | iptr _ _ _ _ _ bl o u ha hb hc hv hr hk hg=>exact .iptr _ _ _ _ _ bl o u (jU (O:=ρ.own) ha) hb hc hv hr (fun q=>by cases q) hg
  · cases h
inductive GK where
  | own (w es:Nat) (d:ac)
  | fre (w es:Nat) (d:ac)
  | lev (l:Lv)
  | low
abbrev GL:=List (GP×GK)
def lF:GL→aG→aG
  | [],st=>st
  | (p,.fre w es d)::l,st=>lF l (nP (sk w es d) st p)
  | (p,.own w es d)::l,st=>lF l (si st p w es d)
  | (p,.lev v)::l,st=>lF l (nP (v3 v) st p)
  | (p,.low)::l,st=>lF l (nP uu st p)
def c5:GL→Bool
  | []=>true
  | (_,.own _ _ d)::l=>d.isVoid&&c5 l
  | (_,.fre _ _ d)::l=>d.isVoid&&c5 l
  | (_,.lev _)::l=>c5 l
  | (_,.low)::l=>c5 l
theorem fM{lent:List ac} :∀ {l:GL} {st:aG},c5 l=true→tI lent st (lF l st)
  | [],st,_=>tI.refl _ _
  | (p,.fre w es d)::l,st,h=>by
    simp only [c5,Bool.and_eq_true] at h
    exact (j8 (rt h.1)).trans (fM h.2)
  | (p,.own w es d)::l,st,h=>by
    simp only [c5,Bool.and_eq_true] at h
    exact (sj h.1).trans (fM h.2)
  | (p,.lev v)::l,st,h=>(j8 tL).trans (fM (l:=l) (by simpa [c5] using h))
  | (p,.low)::l,st,h=>(j8 sm).trans (fM (l:=l) (by simpa [c5] using h))
structure NS where
  gs:GL
  keep:List Nat
  ks:List Nat
def NS.ok(k:Nat)(s:NS) :Bool:=c5 s.gs&&sh k s.keep
def NS.on(s:NS)(st:aG) :aG:=norm s.keep s.ks (lF s.gs st)
theorem uv{lent:List ac}{s:NS}(h:s.ok lent.length=true)(st:aG) :tI lent st (s.on st):=by
  unfold NS.ok at h
  rw [Bool.and_eq_true] at h
  exact (fM h.1).trans (ur h.2 _)
def dI:Code→List Code
  | .seq a b=>dI a++dI b
  | .skip=>[]
  | .label _=>[]
  | c=>[c]
def oB(P:Program) :List Code→(Exit→Act→World→Prop)→Act→World→Prop
  | [],K,a,w=>K .normal a w
  | c::l,K,a,w=>c.wp P (fun e a' w'=>match e with | .normal=>oB P l K a' w' | e=>K e a' w') a w
theorem j9{P:Program}{K:Exit→Act→World→Prop} :∀ (l l':List Code) (a:Act) (w:World),oB P l (fun e a' w'=>match e with | .normal=>oB P l' K a' w' | e=>K e a' w') a w→oB P (l++l') K a w
  | [],l',a,w,h=>h
  | c::l,l',a,w,h=>by
    simp only [List.cons_append,oB] at h ⊢
    refine wp_mono h ?_
    intro e a' w' q
    cases e<;>first | exact j9 l l' a' w' q | exact q
theorem gD{P:Program}{c:Code}{K:Exit→Act→World→Prop}{a:Act}{w:World}(h:oB P [c] K a w) :c.wp P K a w:=by
  simp only [oB] at h
  refine wp_mono h ?_
  intro e a' w' q
  cases e<;>exact q
theorem hH{P:Program} :∀ (c:Code) {K:Exit→Act→World→Prop} {a:Act} {w:World},oB P (dI c) K a w→c.wp P K a w
  | .seq x y,K,a,w,h=>by
    simp only [dI] at h
    refine wp_seq (hH x ?_)
    have app:∀ (l l':List Code) (a:Act) (w:World),oB P (l++l') K a w→oB P l (fun e a' w'=>match e with | .normal=>oB P l' K a' w' | e=>K e a' w') a w:=by
      intro l
      induction l with
      | nil=>intro l' a w h;exact h
      | cons c l ih =>
        intro l' a w h
        simp only [List.cons_append,oB] at h ⊢
        refine wp_mono h ?_
        intro e a' w' q
        cases e<;>first | exact ih l' a' w' q | exact q
    have:=app _ _ _ _ h
    have mono:∀ (l:List Code) (K K':Exit→Act→World→Prop) (a:Act) (w:World),(∀ e a w,K e a w→K' e a w)→oB P l K a w→oB P l K' a w:=by
      intro l
      induction l with
      | nil=>intro K K' a w hK h;exact hK _ _ _ h
      | cons c l ih =>
        intro K K' a w hK h
        simp only [oB] at h ⊢
        refine wp_mono h ?_
        intro e a' w' q
        cases e<;>first | exact ih K K' a' w' hK q | exact hK _ _ _ q
    refine mono _ _ _ _ _ ?_ this
    intro e a' w' q
    cases e<;>first | exact hH y q | exact q
  | .skip,K,a,w,h=>wp_skip h
  | .label _,K,a,w,h=>wp_label h
  | .region ..,K,a,w,h=>gD h
  | .cond ..,K,a,w,h=>gD h
  | .block ..,K,a,w,h=>gD h
  | .loop ..,K,a,w,h=>gD h
  | .exit ..,K,a,w,h=>gD h
  | .ret,K,a,w,h=>gD h
  | .scope ..,K,a,w,h=>gD h
  | .goto ..,K,a,w,h=>gD h
  | .rangeFunc ..,K,a,w,h=>gD h
  | .refuse ..,K,a,w,h=>gD h
def bL(P:Program)(lent:List ac)(cs:List Code)(st:aG)(Q:AE→aG→Prop) :Prop :=
  ∀ (ρ0:aa) (w0:World),dm ρ0 w0 lent→∀ (K:Exit→Act→World→Prop),(∀ e st' a' w',Q e st'→At lent.length ρ0 w0 st' a' w'→K e.real a' w')→∀ a w,At lent.length ρ0 w0 st a w→oB P cs K a w
def tM(self:gi) :List Code→aG→bH→vG
  | [],st,p=>some (.normal,st,[],p)
  | c::l,st,p =>
    match self c st p with
    | some (.normal,st1,o1,p1) =>
      match tM self l st1 p1 with
      | some (e,st2,o2,p2)=>some (e,st2,o1++o2,p2)
      | none=>none
    | r=>r
theorem s4{P:Program}{self:gi}(hself:nI P self) :∀ (cs:List Code) {st st':aG} {p p':bH} {e:AE} {obs:List Bool},tM self cs st p=some (e,st',obs,p')→ae obs→∀ {ρ:aa} {a:Act} {w:World} {Q:Exit→Act→World→Prop},SR ρ st a w →
    (∀ ρ' a' w',iH ρ w st.next st' ρ' a' w'→Q e.real a' w')→oB P cs Q a w
  | [],st,st',p,p',e,obs,h,ho,ρ,a,w,Q,hs,hQ=>by
    simp only [tM,Option.some.injEq,Prod.mk.injEq] at h;obtain ⟨rfl,rfl,rfl,rfl⟩:=h
    exact hQ ρ a w (iH.refl hs)
  | c::l,st,st',p,p',e,obs,h,ho,ρ,a,w,Q,hs,hQ=>by
    simp only [tM] at h
    split at h
    · rename_i st1 o1 p1 h1
      split at h
      case h_2=>cases h
      rename_i e2 st2 o2 p2 h2
      simp only [Option.some.injEq,Prod.mk.injEq] at h;obtain ⟨rfl,rfl,rfl,rfl⟩:=h
      rw [au] at ho
      refine hself c st p _ _ _ _ h1 ho.1 ρ a w _ hs fun ρ1 a1 w1 P1=>?_
      exact s4 hself l h2 ho.2 P1.sr fun ρ2 a2 w2 P2=>hQ ρ2 a2 w2 (P1.trans P2)
    · rename_i hne
      refine hself c st p _ _ _ _ h ho ρ a w _ hs fun ρ1 a1 w1 P1=>?_
      have:=hQ ρ1 a1 w1 P1
      cases e with
      | normal=>exact (hne _ _ _ h).elim
      | ret=>exact this
      | exit id=>exact this
theorem At.post{lent:List ac}{ρ0 ρ ρ':aa}{w0 w w':World}{st st':aG}{a a':Act}(E:dp ρ0 ρ w0)(W:b7 ρ0.live w0 w)(hbk:∀ i,i<lent.length→ρ.ok i→ρ0.ok i)(hle:lent.length≤st.next)(h:iH ρ w st.next st' ρ' a' w') :At lent.length ρ0 w0 st' a' w' :=
  ⟨ρ',E.trans h.ext W.size,W.trans h.wle (fun x hx q=>E.new x hx q),h.sr,fun i hi q=>(h.back i q).elim (hbk i hi) (fun r=>by omega),Nat.le_trans hle h.le⟩
theorem bL.weak{P:Program}{lent:List ac}{cs:List Code}{st st1:aG}{Q:AE→aG→Prop}(hs:tI lent st st1)(h:bL P lent cs st1 Q) :bL P lent cs st Q :=
  fun ρ0 w0 hN K hK a w hA=>h ρ0 w0 hN K hK a w (hs _ _ _ _ hN hA)
theorem bL.nil{P:Program}{lent:List ac}{st:aG}{Q:AE→aG→Prop}(h:Q .normal st) :bL P lent [] st Q :=
  fun ρ0 w0 hN K hK a w hA=>hK .normal st a w h hA
def oN(P:Program)(lent:List ac)(rest:List Code)(e:AE)(st:aG)(Q:AE→aG→Prop) :Prop :=
  match e with
  | .normal=>bL P lent rest st Q
  | e=>Q e st
theorem oN.exit{P:Program}{lent:List ac}{rest:List Code}{id:Nat}{st:aG}{Q:AE→aG→Prop}(h:Q (.exit id) st) :oN P lent rest (.exit id) st Q:=h
theorem oN.ret{P:Program}{lent:List ac}{rest:List Code}{st:aG}{Q:AE→aG→Prop}(h:Q .ret st) :oN P lent rest .ret st Q:=h
theorem oN.normal{P:Program}{lent:List ac}{rest:List Code}{st:aG}{Q:AE→aG→Prop}(h:bL P lent rest st Q) :oN P lent rest .normal st Q:=h
def uw(s:NS)(r:vG) :Option (AE×aG×List Bool) :=
  match r with
  | some (e,st,obs,_)=>some (e,s.on st,obs)
  | none=>none
theorem bL.seg{C:j6}(hC:C.Ok){S:kJ}(hS:bm C.P S){lent:List ac}{N n:Nat}(k:Nat)(p:bH)(s:NS){cs:List Code}{st st1:aG}{e:AE}{obs:List Bool}{Q:AE→aG→Prop} 
    (h:uw s (tM (b0 C S N n) (cs.take k) st p)=some (e,st1,obs)) (hn:s.ok lent.length=true) (ho:ae obs) (hr:oN C.P lent (cs.drop k) e st1 Q):bL C.P lent cs st Q:=by
  intro ρ0 w0 hN K hK a w ⟨ρ,E,W,S1,hbk,hle⟩
  rw [←List.take_append_drop k cs]
  apply j9
  unfold uw at h
  split at h
  case h_2=>cases h
  rename_i e' st2 obs' p' hrun
  simp only [Option.some.injEq,Prod.mk.injEq] at h;obtain ⟨rfl,rfl,rfl⟩:=h
  refine s4 (g8 hC hS N n) _ hrun ho S1 fun ρ' a' w' P1=>?_
  have hA:=uv hn st2 ρ0 w0 a' w' hN (At.post (st:=st) (a:=a) E W hbk hle P1)
  cases e' with
  | normal=>exact hr ρ0 w0 hN K hK a' w' hA
  | ret=>exact hK _ _ _ _ hr hA
  | exit id=>exact hK _ _ _ _ hr hA
def kL(P:Program)(lent:List ac){σ:Type}(I:σ→aG)(G:σ→Prop)(m:σ→Nat)(s:σ)(id:Nat)(rest:List Code)(Q:AE→aG→Prop)(e:AE)(st:aG) :Prop :=
  match e with
  | .normal=>∃ s',G s'∧m s'<m s∧st=I s'
  | .exit j=>if j=id then bL P lent rest st Q else Q (.exit j) st
  | .ret=>Q .ret st
theorem kL.out{P:Program}{lent:List ac}{σ:Type}{I:σ→aG}{G:σ→Prop}{m:σ→Nat}{s:σ}{id:Nat}{rest:List Code}{Q:AE→aG→Prop}{st:aG}(h:bL P lent rest st Q) :kL P lent I G m s id rest Q (.exit id) st:=by
  simp only [kL,if_true];exact h
theorem kL.on{P:Program}{lent:List ac}{σ:Type}{I:σ→aG}{G:σ→Prop}{m:σ→Nat}{s:σ}{id:Nat}{rest:List Code}{Q:AE→aG→Prop}{st:aG}(s':σ)(hs:st=I s')(hm:m s'<m s)(hG:G s') :bL P lent [] st (kL P lent I G m s id rest Q) :=
  bL.nil ⟨s',hG,hm,hs⟩
theorem bL.loop{P:Program}{lent:List ac}{σ:Type}(I:σ→aG)(G:σ→Prop)(m:σ→Nat){id:Nat}{b:Code}{cs rest:List Code}{Q:AE→aG→Prop}(hcs:cs=.block id (.loop b)::rest) 
    (body:∀ s,G s→bL P lent (dI b) (I s) (kL P lent I G m s id rest Q)) (s:σ) (hs:G s):bL P lent cs (I s) Q:=by
  subst hcs
  intro ρ0 w0 hN K hK a w hA
  simp only [oB]
  refine wp_block ?_
  refine wp_loop_rounds (m s+1) ?_
  have key:∀ n s,m s<n→G s→∀ a w,At lent.length ρ0 w0 (I s) a w→Code.rounds P b (Exit.inBlock id fun (e:Exit) a' w'=>match e with | .normal=>oB P rest K a' w' | e=>K e a' w') n a w:=by
    intro n
    induction n with
    | zero=>intro s h;omega
    | succ n ih =>
      intro s hm hs a w hA
      rw [rounds_succ]
      refine hH b ?_
      refine body s hs ρ0 w0 hN _ ?_ a w hA
      intro e st' a' w' hR hA'
      cases e with
      | normal =>
        obtain ⟨s',h1,h2,rfl⟩:=hR
        exact ih s' (by omega) h1 a' w' hA'
      | ret=>exact hK _ _ _ _ hR hA'
      | exit j =>
        simp only [kL] at hR
        by_cases hj:j=id
        · subst hj
          rw [if_pos rfl] at hR
          simp only [AE.real,Exit.then,Exit.inBlock,if_true]
          exact hR ρ0 w0 hN K hK a' w' hA'
        · rw [if_neg hj] at hR
          simp only [AE.real,Exit.then,Exit.inBlock,hj,if_false]
          exact hK _ _ _ _ hR hA'
  exact key _ s (Nat.lt_succ_self _) hs a w hA
theorem bL.mono{P:Program}{lent:List ac}{cs:List Code}{st:aG}{Q Q':AE→aG→Prop}(hQ:∀ e st,Q e st→Q' e st)(h:bL P lent cs st Q) :bL P lent cs st Q' :=
  fun ρ0 w0 hN K hK a w hA=>h ρ0 w0 hN K (fun e st' a' w' q hA'=>hK e st' a' w' (hQ e st' q) hA') a w hA
theorem bL.block{P:Program}{lent:List ac}{id:Nat}{b:Code}{cs rest:List Code}{st:aG}{Q:AE→aG→Prop}(hcs:cs=.block id b::rest) 
    (h:bL P lent (dI b) st fun e st'=>match e with | .normal=>bL P lent rest st' Q | .exit j=>if j=id then bL P lent rest st' Q else Q (.exit j) st' | .ret=>Q .ret st'):bL P lent cs st Q:=by
  subst hcs
  intro ρ0 w0 hN K hK a w hA
  simp only [oB]
  refine wp_block (hH b ?_)
  refine h ρ0 w0 hN _ ?_ a w hA
  intro e st' a' w' hR hA'
  cases e with
  | normal=>exact hR ρ0 w0 hN K hK a' w' hA'
  | ret=>exact hK _ _ _ _ hR hA'
  | exit j =>
    simp only at hR
    by_cases hj:j=id
    · subst hj
      rw [if_pos rfl] at hR
      simp only [AE.real,Exit.inBlock,if_true]
      exact hR ρ0 w0 hN K hK a' w' hA'
    · rw [if_neg hj] at hR
      simp only [AE.real,Exit.inBlock,hj,if_false]
      exact hK _ _ _ _ hR hA'
theorem bL.scope{P:Program}{lent:List ac}{b:Code}{cs rest:List Code}{st:aG}{Q:AE→aG→Prop}(hcs:cs=.scope b::rest) 
    (h:bL P lent (dI b) st fun e st'=>oN P lent rest e st' Q):bL P lent cs st Q:=by
  subst hcs
  intro ρ0 w0 hN K hK a w hA
  simp only [oB]
  refine wp_scope_straight (hH b ?_)
  refine h ρ0 w0 hN _ ?_ a w hA
  intro e st' a' w' hR hA'
  cases e with
  | normal=>exact hR ρ0 w0 hN K hK a' w' hA'
  | ret=>exact hK _ _ _ _ hR hA'
  | exit j=>exact hK _ _ _ _ hR hA'
def s5(P:Program)(fn:Func)(k:Nat)(keep:Bool)(r:iw)(e:AE)(st:aG) :Prop :=
  (e=.normal∨e=.ret)∧∃ vs obs,ch P fn st fn.results.toList=some (vs,obs)∧ae obs∧nG k keep st.heap (lD vs)=some r
theorem bL.contract{P:Program}{f:FuncId}{fn:Func}{c:Code}(hf:P.funcs[f]? = some fn)(hc:fn.body=some c){lent:List ac}{args:List AV}{r:iw}{keep:Bool} 
    (h:bL P lent (dI c) (fm fn lent args) (s5 P fn lent.length keep r)):ag P f lent args r:=by
  refine iN (keep:=keep) hf hc ?_
  intro ρ w a hN hs
  refine hH c ?_
  refine h ρ w hN _ ?_ a w ⟨ρ,dp.refl _ _,b7.refl _ _,hs,fun _ _ q=>q,Nat.le_refl _⟩
  rintro e st' a' w' ⟨he,vs,obs,h1,h2,h3⟩ ⟨ρ',E,W,S,hbk,_⟩
  refine ⟨?_,ρ',st',vs,obs,E,W,hbk,S,h1,h2,h3⟩
  rcases he with rfl | rfl
  · exact .inl rfl
  · exact .inr rfl
def b4(x:Nat) :Nat:=x%9223372036854775808
def fN(x y:Nat) :Nat:=x%9223372036854775808+y/9223372036854775808%2*9223372036854775808
def gl(x y:Nat) :Bool:=(isNaN x&&isNaN y)||x==y
theorem jl(x:Nat) :BitVec.ofInt 64 (x:Int)=BitVec.ofNat 64 x:=by simp
theorem vh : ~~~ BitVec.ofInt 64 9223372036854775808=BitVec.ofNat 64 (2^63-1):=by decide
theorem fo(n:Nat) :IntKind.u64.wrap (n:Int)=((n%18446744073709551616:Nat):Int):=by
  simp [IntKind.wrap,IntKind.signed,IntKind.bits]
theorem ux(x:Nat) :(ia .andNot .u64 (x:Int) 9223372036854775808)=((b4 x:Nat):Int):=by
  have e:(BitVec.ofInt IntKind.u64.bits (x:Int) &&& ~~~ BitVec.ofInt IntKind.u64.bits 9223372036854775808).toNat=x%9223372036854775808:=by
    show (BitVec.ofInt 64 (x:Int) &&& ~~~ BitVec.ofInt 64 9223372036854775808).toNat=_
    rw [vh,jl,BitVec.toNat_and,BitVec.toNat_ofNat,BitVec.toNat_ofNat]
    have:(2^63-1)%2^64=2^63-1:=by decide
    rw [this,Nat.and_two_pow_sub_one_eq_mod]
    omega
  unfold ia
  simp only
  rw [e,fo]
  congr 1
  unfold b4
  omega
theorem v4(y:Nat) :(ia .and .u64 (y:Int) 9223372036854775808)=((y/9223372036854775808%2*9223372036854775808:Nat):Int):=by
  have e:(BitVec.ofInt IntKind.u64.bits (y:Int) &&& BitVec.ofInt IntKind.u64.bits 9223372036854775808).toNat=y/9223372036854775808%2*9223372036854775808:=by
    show (BitVec.ofInt 64 (y:Int) &&& BitVec.ofInt 64 9223372036854775808).toNat=_
    have h1:BitVec.ofInt 64 9223372036854775808=BitVec.ofNat 64 (2^63):=by decide
    rw [h1,jl,BitVec.toNat_and,BitVec.toNat_ofNat,BitVec.toNat_ofNat]
    have:2^63%2^64=2^63:=by decide
    rw [this]
    apply Nat.eq_of_testBit_eq;intro i
    have e2:(9223372036854775808:Nat)=2^63:=by decide
    rw [e2,Nat.testBit_and,Nat.testBit_two_pow,Nat.testBit_mod_two_pow,Nat.testBit_mul_two_pow]
    by_cases hi:63=i
    · subst hi
      simp [Nat.testBit_eq_decide_div_mod_eq]
    · by_cases h2:63≤i
      · have h3:∃ j,i-63=j+1:=⟨i-64,by omega⟩
        obtain ⟨j,hj⟩:=h3
        have:(y/2^63%2).testBit (i-63)=false:=by
          have:=Nat.mod_lt (y/2^63) (by decide:2>0)
          apply Nat.testBit_lt_two_pow
          calc y/2^63%2<2:=this
            _=2^1:=rfl
            _≤2^(i-63):=Nat.pow_le_pow_right (by decide) (by omega)
        simp [hi,this]
      · simp [hi,h2]
  unfold ia
  simp only
  rw [e,fo]
  congr 1
  omega
theorem vi(x:Nat) :(IntKind.u64.wrap ((x:Int)*2^min (Int.toNat 1) IntKind.u64.bits)).fdiv (2^min (Int.toNat 1) IntKind.u64.bits)=((b4 x:Nat):Int):=by
  have h1:min (Int.toNat 1) IntKind.u64.bits=1:=by decide
  have h2:(2:Int)^1=2:=by decide
  rw [h1,h2]
  have h3:(x:Int)*2=((x*2:Nat):Int):=by push_cast;rfl
  rw [h3,fo,Int.fdiv_eq_ediv_of_nonneg _ (by decide:(0:Int)≤2)]
  unfold b4
  omega
theorem wj(x y:Nat) :ia .or .u64 ((b4 x:Nat):Int) ((y/9223372036854775808%2*9223372036854775808:Nat):Int)=((fN x y:Nat):Int):=by
  have e:(BitVec.ofInt IntKind.u64.bits ((b4 x:Nat):Int) ||| BitVec.ofInt IntKind.u64.bits ((y/9223372036854775808%2*9223372036854775808:Nat):Int)).toNat=fN x y:=by
    show (BitVec.ofInt 64 ((b4 x:Nat):Int) ||| BitVec.ofInt 64 ((y/9223372036854775808%2*9223372036854775808:Nat):Int)).toNat=_
    rw [jl,jl,BitVec.toNat_or,BitVec.toNat_ofNat,BitVec.toNat_ofNat]
    unfold b4 fN
    have hb0:=Nat.mod_lt (y/9223372036854775808) (by decide:2>0)
    generalize y/9223372036854775808%2=b at *
    have e2:(9223372036854775808:Nat)=2^63:=by decide
    have l1:x%9223372036854775808%2^64=x%9223372036854775808:=by omega
    rw [l1]
    rcases Nat.lt_or_ge b 2 with hb | hb
    · have l2:b*9223372036854775808%2^64=b*9223372036854775808:=by omega
      rw [l2,Nat.or_comm,Nat.add_comm,e2,Nat.mul_comm b,Nat.two_pow_add_eq_or_of_lt (Nat.mod_lt _ (by decide))]
    · omega
  unfold ia
  simp only
  rw [e,fo]
  congr 1
  unfold fN
  have:=Nat.mod_lt x (by decide:9223372036854775808>0)
  have:=Nat.mod_lt (y/9223372036854775808) (by decide:2>0)
  omega
theorem nQ(x:Nat) :isNaN (b4 x)=isNaN x:=by
  rw [fF,fF];unfold b4;rw [Nat.mod_mod]
theorem gn(x y:Nat) :isNaN (fN x y)=isNaN x:=by
  rw [fF,fF];unfold fN
  rw [Nat.add_mul_mod_self_right,Nat.mod_mod]
theorem uy{ex:Bool}{x y:Nat}(h:FR ex x y) :FR false (b4 x) (b4 y):=by
  rcases h with rfl | ⟨h1,h2,h3⟩
  · exact .inl rfl
  · exact .inr ⟨rfl,by rw [nQ];exact h2,by rw [nQ];exact h3⟩
theorem FR.copy{e1 e2:Bool}{x y x' y':Nat}(h:FR e1 x x')(k:FR e2 y y')(hn:isNaN y=true→isNaN x=true) :FR false (fN x y) (fN x' y'):=by
  rcases h with rfl | ⟨h1,h2,h3⟩
  · rcases k with rfl | ⟨k1,k2,k3⟩
    · exact .inl rfl
    · exact .inr ⟨rfl,by rw [gn];exact hn k2,by rw [gn];exact hn k2⟩
  · exact .inr ⟨rfl,by rw [gn];exact h2,by rw [gn];exact h3⟩
theorem FR.same{e1 e2:Bool}{x y x' y':Nat}(h:FR e1 x x')(k:FR e2 y y') :gl x' y'=gl x y:=by
  unfold gl
  rcases h with rfl | ⟨h1,h2,h3⟩
  · rcases k with rfl | ⟨k1,k2,k3⟩
    · rfl
    · rw [k2,k3]
      cases hx:isNaN x' with
      | true=>rfl
      | false =>
        have a:(x'==y')=false:=by
          rw [beq_eq_false_iff_ne];intro e;rw [e] at hx;rw [hx] at k3;cases k3
        have b:(x'==y)=false:=by
          rw [beq_eq_false_iff_ne];intro e;rw [e] at hx;rw [hx] at k2;cases k2
        rw [a,b]
  · rcases k with rfl | ⟨k1,k2,k3⟩
    · rw [h2,h3]
      cases hx:isNaN y' with
      | true=>rfl
      | false =>
        have a:(x'==y')=false:=by
          rw [beq_eq_false_iff_ne];intro e;rw [e] at h3;rw [hx] at h3;cases h3
        have b:(x==y')=false:=by
          rw [beq_eq_false_iff_ne];intro e;rw [e] at h2;rw [hx] at h2;cases h2
        rw [a,b]
    · rw [h2,h3,k2,k3];rfl
theorem nR(x:Nat) :gl x x=true:=by simp [gl]
theorem iw.Holds.weak{ρ:aa}{w w':World}{k:Nat}{v v':AV}{own:List (Option ac)}{u:Value}(h:(⟨v,own⟩:iw).Holds ρ w w' k u)(hw:∀ ρ w,VR ρ w v u→VR ρ w v' u) :(⟨v',own⟩:iw).Holds ρ w w' k u:=by
  obtain ⟨ρ',h1,h2,h3,h4⟩:=h
  exact ⟨ρ',h1,h2,h3,hw _ _ h4⟩
theorem ig{P:Program}{f:FuncId}{ex:Bool}{x:Nat}{r:Nat→AV}{r':AV}(h:∀ y,ag P f [] [.flt true y] ⟨r y,[]⟩) 
    (hw:∀ y,FR ex x y→∀ ρ w u,VR ρ w (r y) u→VR ρ w r' u):ag P f [] [.flt ex x] ⟨r',[]⟩:=by
  intro ρ w us hN hv
  cases hv with | cons _ u _ _ h1 h2 =>
  cases h2
  cases h1 with | flt _ _ y hf =>
  obtain ⟨q1,q2⟩:=h y ρ w [.float .f64 y] hN (.cons _ _ _ _ (.flt _ _ _ (.inl rfl)) .nil)
  refine ⟨q1,q2.mono ?_⟩
  rintro e w' ⟨u,rfl,W,hu⟩
  exact ⟨u,rfl,W,hu.weak fun ρ w=>hw y hf ρ w u⟩
theorem ii{P:Program}{f:FuncId}{e1 e2:Bool}{x1 x2:Nat}{r:Nat→Nat→AV}{r':AV}(h:∀ y1 y2,ag P f [] [.flt true y1,.flt true y2] ⟨r y1 y2,[]⟩) 
    (hw:∀ y1 y2,FR e1 x1 y1→FR e2 x2 y2→∀ ρ w u,VR ρ w (r y1 y2) u→VR ρ w r' u):ag P f [] [.flt e1 x1,.flt e2 x2] ⟨r',[]⟩:=by
  intro ρ w us hN hv
  cases hv with | cons _ u _ _ h1 h2 =>
  cases h2 with | cons _ u _ _ h3 h4 =>
  cases h4
  cases h1 with | flt _ _ y1 hf1 =>
  cases h3 with | flt _ _ y2 hf2 =>
  obtain ⟨q1,q2⟩:=h y1 y2 ρ w [.float .f64 y1,.float .f64 y2] hN (.cons _ _ _ _ (.flt _ _ _ (.inl rfl)) (.cons _ _ _ _ (.flt _ _ _ (.inl rfl)) .nil))
  refine ⟨q1,q2.mono ?_⟩
  rintro e w' ⟨u,rfl,W,hu⟩
  exact ⟨u,rfl,W,hu.weak fun ρ w=>hw y1 y2 hf1 hf2 ρ w u⟩
theorem VR.flt_weak{ρ:aa}{w:World}{x y:Nat}{u:Value}(h:VR ρ w (.flt true y) u)(hf:FR false x y) :VR ρ w (.flt false x) u:=by
  cases h with | flt _ _ z hz =>
  rcases hz with rfl | ⟨h1,_⟩
  · exact .flt _ _ _ hf
  · cases h1
theorem iP(x:Nat) :kg x x=isNaN x:=by
  cases h:isNaN x with
  | true=>unfold kg;rw [kh (.inl h)];rfl
  | false =>
    simp only [kg,em]
    unfold isNaN FloatKind.decode at h
    unfold Ieee.Format.order
    generalize FloatKind.f64.format.read x=d at h
    cases d with
    | nan=>simp [Ieee.Datum.isNaN] at h
    | infinity s=>simp [Ieee.Datum.order]
    | number s m i=>simp [Ieee.Datum.order]
structure bi where
  f:FuncId
  on:List ac→List AV→Option (List iy)
def bz:List bi→kJ
  | [],_,_,_=>none
  | e::l,f,lent,args=>bif Nat.beq e.f f then (match e.on lent args with | some r=>some r | none=>bz l f lent args) else bz l f lent args
def bu(P:Program)(e:bi) :Prop:=∀ lent args alts a,e.on lent args=some alts→a∈alts→ae a.obs→ag P e.f lent args a.out
theorem nS(P:Program) :bm P (bz []):=fun f lent args alts a h=>by cases h
theorem aM{P:Program}{e:bi}{l:List bi}(he:bu P e)(hl:bm P (bz l)) :bm P (bz (e::l)):=by
  intro f lent args alts a h ha ho
  simp only [bz] at h
  cases hb:Nat.beq e.f f with
  | false=>rw [hb] at h;exact hl f lent args alts a h ha ho
  | true =>
    rw [hb] at h
    have:=Nat.eq_of_beq_eq_true hb
    subst this
    simp only [cond_true] at h
    split at h
    · rename_i r hr
      cases h
      exact he lent args alts a hr ha ho
    · exact hl _ lent args alts a h ha ho
def one(v:AV)(obs:List Bool) :Option (List iy):=some [⟨⟨v,[]⟩,obs⟩]
def uz(v:AV)(own:List (Option ac))(obs:List Bool) :Option (List iy):=some [⟨⟨v,own⟩,obs⟩]
theorem tN{P:Program}{f:FuncId}{lent:List ac}{args:List AV}{alts:List iy}{a:iy}{v:AV}{own:List (Option ac)}{obs:List Bool}(h:uz v own obs=some alts)(ha:a∈alts)(ho:ae a.obs) 
    (hc:ae obs→ag P f lent args ⟨v,own⟩):ag P f lent args a.out:=by
  simp only [uz,Option.some.injEq] at h;subst h
  simp only [List.mem_singleton] at ha;subst ha
  exact hc ho
theorem fy{P:Program}{f:FuncId}{lent:List ac}{args:List AV}{alts:List iy}{a:iy}{v:AV}{obs:List Bool}(h:one v obs=some alts)(ha:a∈alts)(ho:ae a.obs) 
    (hc:ae obs→ag P f lent args ⟨v,[]⟩):ag P f lent args a.out:=tN (own:=[]) h ha ho hc
theorem ag.run{C:j6}(hC:C.Ok){S:kJ}(hS:bm C.P S)(p:bH){f:FuncId}{lent:List ac}{args:List AV}{p':bH}{r:iw}{obs:List Bool}(N n:Nat)(h:gO C S (b0 C S N n) f lent args p=some (r,obs,p'))(ho:ae obs) :
    ag C.P f lent args r:=mA hC hS N n h ho
theorem ob{b:Bool}{l:List Bool}(h:b=true)(t:ae l) :ae (b::l):=⟨h,t⟩
theorem wO:ae []:=trivial
inductive bE:List AV→List AV→Prop
  | nil:bE [] []
  | cons {v v':AV} {l l':List AV} (h:aj v v') (t:bE l l'):bE (v::l) (v'::l')
theorem bE.vrs{ρ:aa}{w:World} :∀ {l l':List AV} {c:List Value},bE l l'→bf ρ w l c→bf ρ w l' c
  | _,_,_,.nil,.nil=>.nil
  | _,_,_,.cons h t,.cons _ _ _ _ hv tv=>.cons _ _ _ _ (h _ _ _ hv) (bE.vrs t tv)
theorem bE.refl:∀ l:List AV,bE l l
  | []=>.nil
  | v::l=>.cons (aj.refl v) (bE.refl l)
theorem aj.agg{l l':List AV}(h:bE l l') :aj (.agg l) (.agg l'):=by
  intro ρ w u hv;cases hv with | agg _ _ hl=>exact .agg _ _ (h.vrs hl)
theorem aj.tup{l l':List AV}(h:bE l l') :aj (.tup l) (.tup l'):=by
  intro ρ w u hv;cases hv with | tup _ _ hl=>exact .tup _ _ (h.vrs hl)
theorem ag.args{P:Program}{f:FuncId}{lent:List ac}{a a':List AV}{r:iw}(h:ag P f lent a' r)(ha:bE a a') :ag P f lent a r :=
  fun ρ w us hN hv=>h ρ w us hN (ha.vrs hv)
theorem ag.weak{P:Program}{f:FuncId}{lent:List ac}{a:List AV}{v v':AV}{own:List (Option ac)}(h:ag P f lent a ⟨v,own⟩)(hw:aj v v') :ag P f lent a ⟨v',own⟩:=by
  intro ρ w us hN hv
  obtain ⟨q1,q2⟩:=h ρ w us hN hv
  refine ⟨q1,q2.mono ?_⟩
  rintro e w' ⟨u,rfl,W,hu⟩
  exact ⟨u,rfl,W,hu.weak fun ρ w=>hw ρ w u⟩
theorem nT(k k' b:Bool) :aj (.bool k b) (.bool k' b):=by
  intro ρ w u h;cases h;exact .bool _ _
end Go.Plb
namespace Go.Plb
open Go.ChangeShapes Go.WideShapes Go.ChangeAt Go.RowKit Go.Deep
set_option linter.unusedSimpArgs false
set_option linter.unusedVariables false
set_option linter.unusedSectionVars false
variable [Rom]
def aa.none_:aa:={ at_:=fun _=>0,live:=fun _=>False,out:=fun _ _=>False,ok:=fun _=>False }
theorem vj(w:World)(hr:∀ x∈Rom.tab,VR aa.none_ w (.iptr .free x.2 1 0 0) (.pointer (some ⟨x.1,0,none⟩))) :dm aa.none_ w [] :=
  ⟨⟨fun b d q=>by simp [bg,am] at q,fun b c d e q=>by simp [bg,am] at q,fun bl q=>q.elim,fun bl q=>q.elim,fun j bl q=>q.elim,fun b q=>q.elim,hr⟩,fun bl q=>q.elim⟩
theorem nU(l:Lv)(bl:Nat) :aa.none_.avoid l bl:=cp (fun j=>by cases j<;>exact id) l 0
inductive FA where
  | i (k:IntKind) (n:Int)
  | f (x:Nat)
  | s (b:ByteArray)
  | b (b:Bool)
  | fl (xs:List Nat)
  | ns (k:IntKind) (xs:List Int)
def FA.av:FA→AV
  | .i k n=>.int k n
  | .f x=>.flt true x
  | .s z=>.str z
  | .b z=>.bool false z
  | .fl xs=>.imm .free (.fl xs) 1 1 0 xs.length
  | .ns k xs=>.imm .free (.ns k xs) 1 1 0 xs.length
theorem FA.kept(a:FA) :a.av.kept=true:=by cases a<;>rfl
inductive FT where
  | i (k:IntKind)
  | f
  | s
  | b
  | fl
  | ns (k:IntKind)
def FA.has:FT→FA→Prop
  | .i k,.i k' n=>k'=k∧(Lit.int k n).wf=true
  | .f,.f x=>(Lit.float .f64 x).wf=true
  | .s,.s z=>z.size≤maxLen
  | .b,.b _=>True
  | .fl,.fl xs=>xs.length≤maxLen∧∀ x∈xs,(Lit.float .f64 x).wf=true
  | .ns k,.ns k' xs=>k'=k∧xs.length≤maxLen∧∀ n∈xs,(Lit.int k n).wf=true
  | _,_=>False
def vk(P:Program)(t:TypeId) :Option FT :=
  match P.underlying t with
  | some (.int k)=>some (.i k)
  | some (.float .f64)=>some .f
  | some .string=>some .s
  | some .bool=>some .b
  | some (.slice e) =>
    match P.underlying e,P.cellsOf e with
    | some (.float .f64),1=>some .fl
    | some (.int k),1=>some (.ns k)
    | _,_=>none
  | _=>none
def qa:Value→Nat
  | .float _ b=>b
  | _=>0
def qb:Value→Int
  | .int _ n=>n
  | _=>0
theorem mf{W:World}{a:Addr}{i:Nat}{v:Value}(c:W.cell? (a.add i)=some v)(h0:a.spot=none) :a.add i=⟨a.block,a.off+i,none⟩:=by
  cases a;simp only at h0;subst h0
  unfold Addr.add;split
  · rename_i q;subst q;rfl
  · rfl
theorem kM{W:World}{a:Addr}{v:Value}(c:W.cell? a=some v) :a.spot=none:=by
  unfold World.cell? at c
  split at c
  · cases q:a.spot with
    | none=>rfl
    | some s=>rw [q] at c;simp at c
  · cases c
theorem nV{W:World}{a:Addr}{v:Value}(c:W.cell? a=some v) :a.block<W.heap.size:=by
  unfold World.cell? at c
  split at c
  · rename_i q;exact (Array.getElem?_eq_some_iff.1 q).1
  · cases c
theorem dy{α:Type}(f:Nat→α)(n x:Nat)(y:α)(h:((List.range n).map f)[x]? = some y) :x<n∧y=f x:=by
  rw [List.getElem?_map] at h
  rcases Nat.lt_or_ge x n with q | q
  · rw [List.getElem?_range q] at h;simp only [Option.map_some,Option.some.injEq] at h;exact ⟨q,h.symm⟩
  · rw [List.getElem?_eq_none (by simpa using q)] at h;cases h
variable {H : Type} {enc : TypeId × Value → H} {P : Program} {W : World}
theorem tO{t : TypeId}{ft : FT}{fuel : Nat}{v : Value}{x : DataW H × List MemPlace}(ht : vk P t = some ft)(h : DataW.trod enc P W 0 (fun _ => true) true fuel t [v] = some x) :
    ∃ a:FA,a.has ft∧VR aa.none_ W a.av v:=by
  cases fuel with
  | zero=>simp [DataW.trod] at h
  | succ fuel =>
  have h0:=h
  unfold vk at ht
  split at ht
  · rename_i k hk
    cases ht
    simp only [DataW.trod,hk] at h
    cases v<;>simp at h
    rename_i k' n
    obtain ⟨⟨rfl,hw⟩,_⟩:=h
    exact ⟨.i k' n,⟨rfl,hw⟩,.int _ _⟩
  · rename_i hk
    cases ht
    simp only [DataW.trod,hk] at h
    cases v<;>simp at h
    rename_i k b
    obtain ⟨⟨rfl,hw⟩,_⟩:=h
    exact ⟨.f b,hw,.flt _ _ _ (.inl rfl)⟩
  · rename_i hk
    cases ht
    simp only [DataW.trod,hk] at h
    cases v<;>simp at h
    exact ⟨.s _,h.1,.str _⟩
  · rename_i hk
    cases ht
    simp only [DataW.trod,hk] at h
    cases v<;>simp at h
    exact ⟨.b _,trivial,.bool _ _⟩
  · rename_i e hk
    have key:∀ (he:P.cellsOf e=1),(v=.slice none 0 0)∨∃ (a:Addr) (len cap n:Nat) (V:Nat→Value),v=.slice (some a) len cap∧len≤cap∧cap≤maxLen ∧
        ∀ i,i<len→∃ y,W.cell? (a.add i)=some (V i)∧DataW.trod enc P W 0 (fun _=>true) true n e [V i]=some y:=by
      intro he
      rcases open_slice1 hk he h0 with ⟨h1,_⟩ | ⟨a,len,cap,m,n,V,D,Pl,h1,hb,hl,hm,hmm,_,hx⟩
      · simp only [List.cons.injEq,and_true] at h1
        exact .inl h1
      · simp only [List.cons.injEq,and_true] at h1
        refine .inr ⟨a,len,cap,n,V,h1,hl,hm,fun i hi=>⟨_,hx i (by rw [hmm,if_pos rfl];omega)⟩⟩
    split at ht
    · rename_i he hc
      cases ht
      rcases key hc with rfl | ⟨a,len,cap,n,V,rfl,hl,hm,hx⟩
      · exact ⟨.fl [],⟨Nat.zero_le _,fun x hx=>by cases hx⟩,.immEnd _ _ _ _ _ _ _ trivial (fun _=>rfl) rfl⟩
      · have hV:∀ i,i<len→V i=.float .f64 (qa (V i))∧(Lit.float .f64 (qa (V i))).wf=true:=by
          intro i hi
          obtain ⟨y,c1,c2⟩:=hx i hi
          cases n with
          | zero=>simp [DataW.trod] at c2
          | succ n =>
            simp only [DataW.trod,he] at c2
            cases hV:V i<;>rw [hV] at c2<;>simp at c2
            obtain ⟨⟨rfl,hw⟩,_⟩:=c2
            exact ⟨rfl,hw⟩
        refine ⟨.fl ((List.range len).map fun i=>qa (V i)),⟨by simp;omega,fun x hx=>?_⟩,?_⟩
        · simp only [List.mem_map,List.mem_range] at hx
          obtain ⟨i,hi,rfl⟩:=hx
          exact (hV i hi).2
        · simp only [FA.av,List.length_map,List.length_range]
          rcases Nat.eq_zero_or_pos len with rfl | hz
          · exact .immEnd _ _ _ _ _ _ _ trivial (fun _=>rfl) rfl
          · have h0:=kM (hx 0 hz).choose_spec.1
            have hs:a.spot=none:=by
              have e:a.add 0=a:=by simp [Addr.add]
              rw [e] at h0;exact h0
            have hcell:∀ i,i<len→W.cell? ⟨a.block,a.off+i,none⟩=some (V i):=fun i hi=>by
              obtain ⟨y,c1,_⟩:=hx i hi
              rw [mf c1 hs] at c1;exact c1
            have ha:a=⟨a.block,a.off+0*1,none⟩:=by cases a;simp only at hs;subst hs;rfl
            have:=VR.imm (ρ:=aa.none_) (w:=W) .free (.fl ((List.range len).map fun i=>qa (V i))) 1 1 0 len cap a.block a.off V (nU _ _) (nV (a:=⟨a.block,a.off+0,none⟩) (hcell 0 hz))
              (fun x v hx'=>by
                simp only [ac.cell?,Option.map_eq_some_iff] at hx'
                obtain ⟨y,h1,h2⟩:=hx'
                exact hcell x (dy _ _ _ _ h1).1)
              (fun x v hx'=>by
                simp only [ac.cell?,Option.map_eq_some_iff] at hx'
                obtain ⟨y,h1,rfl⟩:=hx'
                obtain ⟨q1,rfl⟩:=dy _ _ _ _ h1
                rw [(hV x q1).1]
                exact .flt _ _ _ (.inl rfl)) hl trivial (fun _=>rfl) rfl
            rw [ha];exact this
    · rename_i k he hc
      cases ht
      rcases key hc with rfl | ⟨a,len,cap,n,V,rfl,hl,hm,hx⟩
      · exact ⟨.ns k [],⟨rfl,Nat.zero_le _,fun x hx=>by cases hx⟩,.immEnd _ _ _ _ _ _ _ trivial (fun _=>rfl) rfl⟩
      · have hV:∀ i,i<len→V i=.int k (qb (V i))∧(Lit.int k (qb (V i))).wf=true:=by
          intro i hi
          obtain ⟨y,c1,c2⟩:=hx i hi
          cases n with
          | zero=>simp [DataW.trod] at c2
          | succ n =>
            simp only [DataW.trod,he] at c2
            cases hV:V i<;>rw [hV] at c2<;>simp at c2
            obtain ⟨⟨rfl,hw⟩,_⟩:=c2
            exact ⟨rfl,hw⟩
        refine ⟨.ns k ((List.range len).map fun i=>qb (V i)),⟨rfl,by simp;omega,fun x hx=>?_⟩,?_⟩
        · simp only [List.mem_map,List.mem_range] at hx
          obtain ⟨i,hi,rfl⟩:=hx
          exact (hV i hi).2
        · simp only [FA.av,List.length_map,List.length_range]
          rcases Nat.eq_zero_or_pos len with rfl | hz
          · exact .immEnd _ _ _ _ _ _ _ trivial (fun _=>rfl) rfl
          · have h0:=kM (hx 0 hz).choose_spec.1
            have hs:a.spot=none:=by
              have e:a.add 0=a:=by simp [Addr.add]
              rw [e] at h0;exact h0
            have hcell:∀ i,i<len→W.cell? ⟨a.block,a.off+i,none⟩=some (V i):=fun i hi=>by
              obtain ⟨y,c1,_⟩:=hx i hi
              rw [mf c1 hs] at c1;exact c1
            have ha:a=⟨a.block,a.off+0*1,none⟩:=by cases a;simp only at hs;subst hs;rfl
            have:=VR.imm (ρ:=aa.none_) (w:=W) .free (.ns k ((List.range len).map fun i=>qb (V i))) 1 1 0 len cap a.block a.off V (nU _ _) (nV (a:=⟨a.block,a.off+0,none⟩) (hcell 0 hz))
              (fun x v hx'=>by
                simp only [ac.cell?,Option.map_eq_some_iff] at hx'
                obtain ⟨y,h1,h2⟩:=hx'
                exact hcell x (dy _ _ _ _ h1).1)
              (fun x v hx'=>by
                simp only [ac.cell?,Option.map_eq_some_iff] at hx'
                obtain ⟨y,h1,rfl⟩:=hx'
                obtain ⟨q1,rfl⟩:=dy _ _ _ _ h1
                rw [(hV x q1).1]
                exact .int _ _) hl trivial (fun _=>rfl) rfl
            rw [ha];exact this
    · cases ht
  · cases ht
def FA.avs:List FA→List AV
  | []=>[]
  | a::l=>a.av::FA.avs l
def gP:List FT→List FA→Prop
  | [],[]=>True
  | t::ts,a::fas=>a.has t∧gP ts fas
  | _,_=>False
def vl(P:Program)(t:TypeId) :Option (List FT) :=
  match P.underlying t with
  | some (.struct fs)=>bif P.cellsOf t==fs.size&&fs.toList.zipIdx.all (fun x=>x.1.offset==x.2&&P.cellsOf x.1.type==1) then fs.toList.mapM fun f=>vk P f.type else none
  | _=>none
theorem mg{n:Nat} :∀ (fs:List Field) (o:Nat) {fts:List FT} {cs:List Value} {xs:List (DataW H×List MemPlace)},cs.length=o+fs.length→(∀ (j:Nat) (f:Field),fs[j]? = some f→f.offset=o+j∧P.cellsOf f.type=1)→fs.mapM (fun f=>vk P f.type)=some fts →
    fs.mapM (fun f=>DataW.trod enc P W 0 (fun _=>true) true n f.type ((cs.drop f.offset).take (P.cellsOf f.type)))=some xs→∃ fas:List FA,gP fts fas∧bf aa.none_ W (FA.avs fas) (cs.drop o)
  | [],o,fts,cs,xs,hl,_,h1,h2=>by
    simp at h1;subst h1
    exact ⟨[],trivial,by rw [List.drop_eq_nil_of_le (by simp at hl;omega)];exact .nil⟩
  | f::fs,o,fts,cs,xs,hl,hf,h1,h2=>by
    simp only [List.mapM_cons,Option.pure_def,Option.bind_eq_bind,Option.bind_eq_some_iff,Option.some.injEq] at h1 h2
    obtain ⟨ft,a1,fts',a2,rfl⟩:=h1
    obtain ⟨x,b1,xs',b2,rfl⟩:=h2
    obtain ⟨e1,e2⟩:=hf 0 f rfl
    simp only [List.length_cons] at hl
    have hlt:o<cs.length:=by omega
    have hd:(cs.drop f.offset).take (P.cellsOf f.type)=[cs[o]]:=by
      rw [e1,e2,Nat.add_zero,List.drop_eq_getElem_cons hlt];rfl
    rw [hd] at b1
    obtain ⟨a,k1,k2⟩:=tO a1 b1
    obtain ⟨fas,k3,k4⟩:=mg fs (o+1) (cs:=cs) (by omega) (fun j f' hj=>by have:=hf (j+1) f' (by simpa using hj);exact ⟨by omega,this.2⟩) a2 b2
    refine ⟨a::fas,⟨k1,k3⟩,?_⟩
    rw [List.drop_eq_getElem_cons hlt]
    exact .cons _ _ _ _ k2 k4
theorem qc{t:TypeId}{fts:List FT}{fuel:Nat}{cs:List Value}{x:DataW H×List MemPlace}(ht:vl P t=some fts)(h:DataW.trod enc P W 0 (fun _=>true) true fuel t cs=some x) :
    ∃ fas:List FA,gP fts fas∧bf aa.none_ W (FA.avs fas) cs:=by
  unfold vl at ht
  split at ht
  case h_2=>cases ht
  rename_i fs hk
  cases hb:(P.cellsOf t==fs.size&&fs.toList.zipIdx.all (fun x=>x.1.offset==x.2&&P.cellsOf x.1.type==1)) with
  | false=>rw [hb] at ht;cases ht
  | true =>
  rw [hb] at ht
  simp only [cond_true] at ht
  simp only [Bool.and_eq_true,beq_iff_eq,List.all_eq_true] at hb
  cases fuel with
  | zero=>simp [DataW.trod] at h
  | succ fuel =>
  simp only [DataW.trod,hk] at h
  split at h
  case isFalse=>cases h
  rename_i hlen
  simp only [Option.map_eq_some_iff] at h
  obtain ⟨xs,h1,_⟩:=h
  have:=mg fs.toList 0 (cs:=cs) (by rw [hlen,hb.1];simp) (fun j f hj=>by
    have:=hb.2 (f,j) (by rw [List.mem_zipIdx_iff_getElem?];exact hj)
    simp only at this
    exact ⟨by omega,this.2⟩) ht h1
  simpa using this
theorem ru{t:TypeId}{fts:List FT}{v:Value}{d:DataW H}{p:List MemPlace}{base:Nat}(ht:vl P t=some fts)(ho:Value.okWide P W .any base t v)(h:DataW.Trod enc P W 0 (fun _=>true) true t v d p) :
    ∃ fas:List FA,gP fts fas∧VR aa.none_ W (.agg (FA.avs fas)) v:=by
  obtain ⟨fuel,hf⟩:=h
  have hs:∃ cs,v=.agg cs:=by
    unfold vl at ht
    split at ht
    case h_2=>cases ht
    rename_i fs hk
    unfold Value.okWide at ho
    rw [hk] at ho
    obtain ⟨cs,rfl,_⟩:=ho
    exact ⟨cs,rfl⟩
  obtain ⟨cs,rfl⟩:=hs
  obtain ⟨fas,k1,k2⟩:=qc ht hf
  exact ⟨fas,k1,.agg _ _ k2⟩
theorem uA{W W':World}(h:b7 (fun _=>False) W W') :Below W.heap.size W W' :=
  ⟨h.os,h.tape,h.output,h.size,fun k hk=>h.same k hk (fun q=>q)⟩
def gp(P:Program)(ts:List TypeId) :Bool:=ts.all fun t=>P.readableRec t&&decide (t<P.types.size)
theorem po{W W':World}(hl:laidOutB P=true)(hb:Below W.heap.size W W') :∀ {ts:List TypeId} {vs:List Value} {ds:List (DataW H)} {ps:List MemPlace},gp P ts=true →
    DataW.TrodAll enc P W 0 (fun _=>true) true ts vs ds ps→(∀ x∈ps,x.block<W.heap.size)→∀ sp:Nat→Bool,(∀ p∈ps,sp p.block=true)→DataW.TrodAll enc P W' 0 sp true ts vs ds ps
  | [],vs,ds,ps,_,h,_,_,_=>by obtain ⟨rfl,rfl,rfl⟩:=trodAll_nil h;rfl
  | t::ts,vs,ds,ps,hp,h,hlt,sp,hsp=>by
    obtain ⟨v,vs',d,ds',p,q,rfl,rfl,rfl,h1,h2⟩:=trodAll_cons h
    simp only [gp,List.all_cons,Bool.and_eq_true,decide_eq_true_eq] at hp
    exact ⟨p,q,WideElems.Trod_stays hl hp.1.1 hp.1.2 h1 (fun x hx=>hb.same (hlt x (by simp [hx]))) (fun x hx=>hsp x (by simp [hx])),
      po hl hb (by simpa [gp] using hp.2) h2 (fun x hx=>hlt x (by simp [hx])) sp (fun x hx=>hsp x (by simp [hx])),rfl⟩
theorem uB{f:Func}{s:ChangeSpec}{W W':World}{args:Array Value}{ds gs:List (DataW H)}{before:List MemPlace}{tb:TypeId}(hl:laidOutB P=true) 
    (hW:DataW.Whole enc P f.params.toList s.vars false W args.toList ds gs before) (hv:s.vars=[]) (hp:gp P f.params.toList=true)
    (hs:s.fn H (ds++gs) = { results:=[.lit (.bool true)],args:=ds }) (hr:f.resultTypes = #[tb]) (ht:P.underlying tb=some .bool) (hw:b7 (fun _=>False) W W') :
    s.post enc P f false true false false W args (.bool true) W':=by
  have hb:=uA hw
  have hlt:∀ p∈before,p.block<W.heap.size:=fun p hp=>hW.lt p hp
  have hW':=hW
  obtain ⟨p,q,hA,hV,rfl,hfz,th⟩:=hW'
  rw [hv] at hV
  obtain ⟨rfl,rfl⟩:=trodVars_none hV
  simp only [List.append_nil] at hlt hs hW
  have harg:=po hl hb hp hA hlt (fun b=>decide (b<W.heap.size)) (fun x hx=>by simpa using hlt x hx)
  refine ⟨ds,[],p,[],p,[],hW,?_,?_,?_,World.keptBut_mono (fun x hx=>⟨hx,.inr (.inl hx)⟩) (hb.frame (· ∈ p)),fun e=>(by cases e)⟩
  · rw [List.append_nil,hs,hr]
    exact trodAll_mk1 (shut_bool ht true)
  · rw [List.append_nil,hs];exact harg
  · rw [hv];simp only [List.append_nil,hs];exact rfl
theorem uC{a:FA}(h:a.has .fl) :∃ x,a=.fl x:=by
  cases a<;>simp only [FA.has] at h
  exact ⟨_,rfl⟩
theorem uD{ρ:aa}{w w':World}{k b:Bool}{u:Value}(h:(⟨.bool k b,[]⟩:iw).Holds ρ w w' 0 u) :u=.bool b:=by
  obtain ⟨ρ',_,_,_,h4⟩:=h
  cases h4;rfl
end Go.Plb
namespace Go.Plb
set_option linter.unusedSimpArgs false
set_option linter.unusedVariables false
set_option linter.unusedSectionVars false
variable [Rom]
def ai{α:Type}(o n:Nat)(l:List α) :List α:=(dt o l).take n
theorem mW{α:Type}(o n:Nat)(l:List α) :ai o n l=(l.drop o).take n:=by
  unfold ai dt;cases o<;>rfl
theorem aD{α:Type}(l:List α) :ai 0 l.length l=l:=by simp [mW]
theorem cy{α:Type}{o n:Nat}{l:List α}(h:o+n≤l.length) :(ai o n l).length=n:=by rw [mW];simp;omega
theorem uE{α:Type}{o n:Nat}{l:List α}{i:Nat}{v:α}(h:(ai o n l)[i]? = some v) :l[o+i]? = some v:=by
  rw [mW,List.getElem?_take] at h
  split at h
  · rw [List.getElem?_drop] at h;exact h
  · cases h
def bM{α:Type}(o n:Nat)(xs:List α) :Bool:=Nat.ble (o+n) xs.length
theorem ev{α:Type}{o n:Nat}{xs:List α} :bM o n xs=true↔o+n≤xs.length:=by unfold bM;rw [Nat.ble_eq]
theorem mB{l:Lv}{d d':ac}{w es o n:Nat}(h:∀ x v,d'.cell? x=some v→d.cell? (o*w+x)=some v)(hr:d.recKept→d'.recKept)(hk:d'.kept=true)(hg:d'.foreign=true) :
    aj (.imm l d w es o n) (.imm l d' w es 0 n):=by
  intro ρ w' u hv
  cases hv with
  | imm _ _ _ _ _ _ cap bl o' u' ha hb hc hv' hl' hr' _ _ =>
    have:=VR.imm (ρ:=ρ) (w:=w') l d' w es 0 n cap bl (o'+o*w) (fun x=>u' (o*w+x)) ha hb
      (fun x v hx=>by rw [Nat.add_assoc];exact hc _ v (h x v hx)) (fun x v hx=>hv' _ v (h x v hx)) hl' (hr hr') (fun _=>hk) hg
    simpa using this
  | immEnd _ _ _ _ _ _ _ hr'=>exact .immEnd _ _ _ _ _ _ _ (hr hr') (fun _=>hk) hg
theorem mC{l:Lv}{d':ac}{w es:Nat}(hr:d'.recKept)(hk:d'.kept=true)(hg:d'.foreign=true) :aj .nsl (.imm l d' w es 0 0):=by
  intro ρ w' u hv;cases hv;exact .immEnd _ _ _ _ _ _ _ hr (fun _=>hk) hg
theorem mD{l:Lv}{d':ac}{w es:Nat}(hr:d'.recKept)(hk:d'.kept=true)(hg:d'.foreign=true) :aj .esl (.imm l d' w es 0 0):=by
  intro ρ w' u hv;cases hv;exact .immEnd _ _ _ _ _ _ _ hr (fun _=>hk) hg
theorem bE.get:∀ {l1 l2:List AV},bE l1 l2→∀ {x:Nat} {v:AV},l2[x]? = some v→∃ v0,l1[x]? = some v0∧aj v0 v
  | _,_,.nil,x,v,h=>by simp at h
  | _,_,.cons a t,0,v,h=>by simp at h;subst h;exact ⟨_,rfl,a⟩
  | _,_,.cons a t,x+1,v,h=>by
    obtain ⟨v0,h1,h2⟩:=bE.get t (by simpa using h)
    exact ⟨v0,by simpa using h1,h2⟩
theorem nW{lv:Lv}{l1 l2:List AV}{k i j:Nat}(h:bE l1 l2)(hk:ba l1=true→ba l2=true)(hg:ay l1=true→ay l2=true) :aj (.iptr lv (.vs l1) k i j) (.iptr lv (.vs l2) k i j):=by
  intro ρ w u hv
  cases hv with | iptr _ _ _ _ _ bl o u' ha hb hc hv' hr hk' hg' =>
  refine .iptr _ _ _ _ _ bl o u' ha hb (fun x v hx=>?_) (fun x v hx=>?_) trivial (fun q=>hk (hk' q)) (hg hg')
  · obtain ⟨v0,h1,h2⟩:=h.get hx
    exact hc x v0 h1
  · obtain ⟨v0,h1,h2⟩:=h.get hx
    exact h2 _ _ _ (hv' x v0 h1)
theorem aj.fn{f:Fn}{a b a' b':List AV}(h:bE a a')(k:bE b b') :aj (.fn f a b) (.fn f a' b'):=by
  intro ρ w u hv
  cases hv with | fn _ _ _ c1 c2 h1 h2=>exact .fn _ _ _ _ _ (h.vrs h1) (k.vrs h2)
theorem aj.iface{t:TypeId}{a b:AV}(h:aj a b) :aj (.iface t a) (.iface t b):=by
  intro ρ w u hv
  cases hv with | iface _ _ u h1=>exact .iface _ _ _ (h _ _ _ h1)
theorem aj.any(v:AV) :aj v .any:=fun _ _ u _=>.any u
inductive CK where
  | cf
  | ci (k:IntKind)
  | cb
  | cs
  | cfl
  | cns (k:IntKind)
def CK.Ty:CK→Type
  | .cf=>List Nat
  | .ci _=>List Int
  | .cb=>List Bool
  | .cs=>List ByteArray
  | .cfl=>List (List Nat)
  | .cns _=>List (List Int)
def CK.fit:(k:CK)→(o n:Nat)→bx→Option k.Ty
  | .cf,o,n,.cf xs=>some (ai o n xs)
  | .ci k,o,n,.ci k' xs=>bif bk k k' then some (ai o n xs) else none
  | .cb,o,n,.cb xs=>some (ai o n xs)
  | .cs,o,n,.cs xs=>some (ai o n xs)
  | .cfl,o,n,.cfl xs=>some (ai o n xs)
  | .cns k,o,n,.cns k' xs=>bif bk k k' then some (ai o n xs) else none
  | _,_,_,_=>none
def CK.emp:(k:CK)→k.Ty
  | .cf=>([]:List Nat)
  | .ci _=>([]:List Int)
  | .cb=>([]:List Bool)
  | .cs=>([]:List ByteArray)
  | .cfl=>([]:List (List Nat))
  | .cns _=>([]:List (List Int))
def CK.col:(k:CK)→k.Ty→bx
  | .cf,xs=>.cf xs
  | .ci k,xs=>.ci k xs
  | .cb,xs=>.cb xs
  | .cs,xs=>.cs xs
  | .cfl,xs=>.cfl xs
  | .cns k,xs=>.cns k xs
theorem gQ{a b:IntKind} :bk a b=true↔a=b:=by simp [bk]
theorem eg{α:Type}{f:α→AV}{o n i:Nat}{xs:List α}{v:AV}(h:((ai o n xs)[i]?).map f=some v) :(xs[o+i]?).map f=some v:=by
  simp only [Option.map_eq_some_iff] at h ⊢
  obtain ⟨y,h1,h2⟩:=h
  exact ⟨y,uE h1,h2⟩
theorem CK.fit_spec:∀ {k:CK} {o n:Nat} {c:bx} {t:k.Ty},k.fit o n c=some t→(o+n≤c.len→(k.col t).len=n)∧∀ i v,(k.col t).cell? i=some v→c.cell? (o+i)=some v:=by
  intro k o n c t h
  cases k<;>cases c<;>simp only [CK.fit] at h<;>try (cases h;done)
  case cf.cf xs=>cases h;exact ⟨fun q=>cy q,fun i v q=>eg q⟩
  case ci.ci k k' xs =>
    cases e:bk k k' with
    | false=>rw [e] at h;cases h
    | true=>rw [e] at h;cases h;cases (gQ.1 e);exact ⟨fun q=>cy q,fun i v q=>eg q⟩
  case cb.cb xs=>cases h;exact ⟨fun q=>cy q,fun i v q=>eg q⟩
  case cs.cs xs=>cases h;exact ⟨fun q=>cy q,fun i v q=>eg q⟩
  case cfl.cfl xs=>cases h;exact ⟨fun q=>cy q,fun i v q=>eg q⟩
  case cns.cns k k' xs =>
    cases e:bk k k' with
    | false=>rw [e] at h;cases h
    | true=>rw [e] at h;cases h;cases (gQ.1 e);exact ⟨fun q=>cy q,fun i v q=>eg q⟩
theorem CK.emp_len:∀ (k:CK),(k.col k.emp).len=0:=by intro k;cases k<;>rfl
def CKs.Ty:List CK→Type
  | []=>Unit
  | k::l=>k.Ty×CKs.Ty l
def CKs.fit:(l:List CK)→(o n:Nat)→List bx→Option (CKs.Ty l)
  | [],_,_,[]=>some ()
  | k::l,o,n,c::cs=>(k.fit o n c).bind fun t=>(CKs.fit l o n cs).map fun r=>(t,r)
  | _,_,_,_=>none
def CKs.emp:(l:List CK)→CKs.Ty l
  | []=>()
  | k::l=>(k.emp,CKs.emp l)
def CKs.cols:(l:List CK)→CKs.Ty l→List bx
  | [],_=>[]
  | k::l,t=>k.col t.1::CKs.cols l t.2
theorem CKs.len:∀ {l:List CK} {t:CKs.Ty l},(CKs.cols l t).length=l.length
  | [],t=>rfl
  | k::l,t=>by simp [CKs.cols,CKs.len]
theorem mh:∀ {l:List CK} {o n:Nat} {cs:List bx} {t:CKs.Ty l},CKs.fit l o n cs=some t→cs.length=l.length
  | [],o,n,[],t,h=>rfl
  | [],o,n,c::cs,t,h=>by simp [CKs.fit] at h
  | k::l,o,n,[],t,h=>by simp [CKs.fit] at h
  | k::l,o,n,c::cs,t,h=>by
    simp only [CKs.fit] at h
    cases e1:k.fit o n c with
    | none=>rw [e1] at h;cases h
    | some a =>
      rw [e1] at h
      cases e2:CKs.fit l o n cs with
      | none=>simp only [Option.bind_some,e2] at h;cases h
      | some b=>simp [mh e2]
theorem CKs.fit_spec:∀ {l:List CK} {o n:Nat} {cs:List bx} {t:CKs.Ty l},CKs.fit l o n cs=some t→∀ (j:Nat) (c':bx),(CKs.cols l t)[j]? = some c'→∃ c:bx,cs[j]? = some c∧(o+n≤c.len→c'.len=n)∧∀ i v,c'.cell? i=some v→c.cell? (o+i)=some v
  | [],o,n,cs,t,h,j,c',q=>by simp [CKs.cols] at q
  | k::l,o,n,[],t,h,j,c',q=>by simp [CKs.fit] at h
  | k::l,o,n,c::cs,t,h,j,c',q=>by
    simp only [CKs.fit] at h
    cases e1:k.fit o n c with
    | none=>rw [e1] at h;cases h
    | some a =>
      rw [e1] at h
      cases e2:CKs.fit l o n cs with
      | none=>simp only [Option.bind_some,e2] at h;cases h
      | some b =>
        simp only [Option.bind_some,e2] at h
        cases h
        cases j with
        | zero=>simp [CKs.cols] at q;subst q;exact ⟨c,rfl,CK.fit_spec e1⟩
        | succ j=>exact CKs.fit_spec e2 j c' (by simpa [CKs.cols] using q)
theorem CKs.emp_len:∀ (l:List CK),∀ c∈CKs.cols l (CKs.emp l),c.len=0
  | [],c,h=>by cases h
  | k::l,c,h=>by
    simp only [CKs.cols,CKs.emp,List.mem_cons] at h
    rcases h with rfl | h
    · exact CK.emp_len k
    · exact CKs.emp_len l c h
mutual
inductive kN where
  | int (k:IntKind)
  | flt (ex:Bool)
  | bool
  | kbool (b:Bool)
  | str
  | fl
  | ns (k:IntKind)
  | bs
  | ss
  | cols (l:List CK)
  | ivs (ps:eD) (w i j:Nat)
  | fn (f:FuncId) (a b:eD)
  | nfn
  | nptr
  | agg (ps:eD)
  | tup (ps:eD)
  | iface (t:TypeId) (p:kN)
  | niface
  | any
  | lsl (b:Nat)
  | lptr (b w i j:Nat)
inductive eD where
  | nil
  | cons (p:kN) (ps:eD)
end
mutual
def kN.Ty:kN→Type
  | .int _=>Int
  | .flt _=>Nat
  | .bool=>Bool
  | .str=>ByteArray
  | .fl=>Lv×List Nat
  | .ns _=>Lv×List Int
  | .bs=>Lv×List Bool
  | .ss=>Lv×List ByteArray
  | .cols l=>Lv×Nat×CKs.Ty l
  | .ivs ps _ _ _=>Lv×ps.Ty
  | .fn _ a b=>a.Ty×b.Ty
  | .agg ps=>ps.Ty
  | .tup ps=>ps.Ty
  | .iface _ p=>p.Ty
  | .kbool _=>Unit
  | .nfn=>Unit
  | .nptr=>Unit
  | .niface=>Unit
  | .any=>Unit
  | .lsl _=>Nat×Nat×Nat
  | .lptr _ _ _ _=>Unit
def eD.Ty:eD→Type
  | .nil=>Unit
  | .cons p ps=>p.Ty×ps.Ty
end
mutual
def kN.av:(p:kN)→p.Ty→AV
  | .int k,n=>.int k n
  | .flt ex,x=>.flt ex x
  | .bool,b=>.bool false b
  | .str,s=>.str s
  | .fl,t=>.imm t.1 (.fl t.2) 1 1 0 t.2.length
  | .ns k,t=>.imm t.1 (.ns k t.2) 1 1 0 t.2.length
  | .bs,t=>.imm t.1 (.bs t.2) 1 1 0 t.2.length
  | .ss,t=>.imm t.1 (.ss t.2) 1 1 0 t.2.length
  | .cols l,t=>.imm t.1 (.cols t.2.1 (CKs.cols l t.2.2)) l.length l.length 0 t.2.1
  | .ivs ps w i j,t=>.iptr t.1 (.vs (ps.avs t.2)) w i j
  | .fn f a b,t=>.fn (.func f) (a.avs t.1) (b.avs t.2)
  | .agg ps,t=>.agg (ps.avs t)
  | .tup ps,t=>.tup (ps.avs t)
  | .iface y p,t=>.iface y (p.av t)
  | .kbool b,_=>.bool true b
  | .nfn,_=>.nfn
  | .nptr,_=>.nptr
  | .niface,_=>.niface
  | .any,_=>.any
  | .lsl b,t=>.sl b 1 1 t.1 t.2.1 t.2.2
  | .lptr b w i j,_=>.ptr b w i j
def eD.avs:(ps:eD)→ps.Ty→List AV
  | .nil,_=>[]
  | .cons p ps,t=>p.av t.1::ps.avs t.2
end
def sn(a b:Bool) :Bool:=bif a then b else !b
theorem so{a b:Bool} :sn a b=true↔a=b:=by cases a<;>cases b<;>simp [sn]
def CKs.ok(n:Nat)(m:Nat) :Bool:=Nat.ble n m
def uF(k:IntKind) :AV→Option (Int×List Bool)
  | .int k' n=>bif bk k k' then some (n,[]) else none
  | _=>none
def uG(ex:Bool) :AV→Option (Nat×List Bool)
  | .flt ex' x=>bif ex && !ex' then none else some (x,[])
  | _=>none
def s6:AV→Option (Bool×List Bool)
  | .bool kn b=>bif kn then none else some (b,[])
  | _=>none
def rv(b:Bool) :AV→Option (Unit×List Bool)
  | .bool kn b'=>bif kn&&sn b b' then some ((),[]) else none
  | _=>none
def uH:AV→Option (ByteArray×List Bool)
  | .str s=>some (s,[])
  | _=>none
def pq{α:Type}(f:ac→Option (List α)) :AV→Option ((Lv×List α)×List Bool)
  | .imm l d w es o n=>(f d).bind fun xs=>bif Nat.beq w 1&&Nat.beq es 1 then some ((l,ai o n xs),[bM o n xs]) else none
  | .nsl=>some ((.free,[]),[])
  | .esl=>some ((.free,[]),[])
  | _=>none
def uI:ac→Option (List Nat)
  | .fl xs=>some xs
  | _=>none
def uJ(k:IntKind) :ac→Option (List Int)
  | .ns k' xs=>bif bk k k' then some xs else none
  | _=>none
def uK:ac→Option (List Bool)
  | .bs xs=>some xs
  | _=>none
def vI:ac→Option (List ByteArray)
  | .ss xs=>some xs
  | _=>none
def vJ:ac→Option (List AV)
  | .vs xs=>some xs
  | _=>none
def s7:ac→Option (Nat×List bx)
  | .cols m cs=>some (m,cs)
  | _=>none
def qd(ks:List CK) :AV→Option ((Lv×Nat×CKs.Ty ks)×List Bool)
  | .imm l d w es o n=>(s7 d).bind fun q=>bif Nat.beq w ks.length&&Nat.beq es ks.length then (CKs.fit ks o n q.2).map fun t=>((l,n,t),[Nat.ble (o+n) q.1]) else none
  | .nsl=>some ((.free,0,CKs.emp ks),[])
  | .esl=>some ((.free,0,CKs.emp ks),[])
  | _=>none
def vK(w i j:Nat) :AV→Option (Lv×List AV)
  | .iptr l d w' i' j'=>(vJ d).bind fun xs=>bif Nat.beq w w'&&(Nat.beq i i'&&Nat.beq j j') then some (l,xs) else none
  | _=>none
def wk(f:FuncId) :AV→Option (List AV×List AV)
  | .fn (.func f') x y=>bif Nat.beq f f' then some (x,y) else none
  | _=>none
def vL:AV→Option (List AV)
  | .agg l=>some l
  | _=>none
def vM:AV→Option (List AV)
  | .tup l=>some l
  | _=>none
def s8(t:TypeId) :AV→Option AV
  | .iface t' v=>bif Nat.beq t t' then some v else none
  | _=>none
def vN:AV→Option (Unit×List Bool)
  | .nfn=>some ((),[])
  | _=>none
def uL:AV→Option (Unit×List Bool)
  | .nptr=>some ((),[])
  | _=>none
def uM(b:Nat) :AV→Option ((Nat×Nat×Nat)×List Bool)
  | .sl b' w es i len cap=>bif Nat.beq b b'&&(Nat.beq w 1&&Nat.beq es 1) then some ((i,len,cap),[]) else none
  | _=>none
def s9(b w i j:Nat) :AV→Option (Unit×List Bool)
  | .ptr b' w' i' j'=>bif (Nat.beq b b'&&Nat.beq w w')&&(Nat.beq i i'&&Nat.beq j j') then some ((),[]) else none
  | _=>none
def rx:AV→Option (Unit×List Bool)
  | .niface=>some ((),[])
  | _=>none
mutual
def kN.fit:(p:kN)→AV→Option (p.Ty×List Bool)
  | .int k=>uF k
  | .flt ex=>uG ex
  | .bool=>s6
  | .kbool b=>rv b
  | .str=>uH
  | .fl=>pq uI
  | .ns k=>pq (uJ k)
  | .bs=>pq uK
  | .ss=>pq vI
  | .cols ks=>qd ks
  | .ivs ps w i j=>fun v=>match vK w i j v with
    | some q=>match ps.fit q.2 with
      | some r=>some ((q.1,r.1),r.2)
      | none=>none
    | none=>none
  | .fn f a b=>fun v=>match wk f v with
    | some q=>match a.fit q.1 with
      | some r=>match b.fit q.2 with
        | some s=>some ((r.1,s.1),r.2++s.2)
        | none=>none
      | none=>none
    | none=>none
  | .agg ps=>fun v=>match vL v with
    | some l=>ps.fit l
    | none=>none
  | .tup ps=>fun v=>match vM v with
    | some l=>ps.fit l
    | none=>none
  | .iface t p=>fun v=>match s8 t v with
    | some u=>p.fit u
    | none=>none
  | .nfn=>vN
  | .nptr=>uL
  | .niface=>rx
  | .any=>fun _=>some ((),[])
  | .lsl b=>uM b
  | .lptr b w i j=>s9 b w i j
def eD.fit:(ps:eD)→List AV→Option (ps.Ty×List Bool)
  | .nil=>fun l=>match l with
    | []=>some ((),[])
    | _::_=>none
  | .cons p ps=>fun l=>match l with
    | []=>none
    | v::l=>match p.fit v with
      | some r=>match ps.fit l with
        | some s=>some ((r.1,s.1),r.2++s.2)
        | none=>none
      | none=>none
end
theorem tP{ks:List CK}{o n m:Nat}{cs:List bx}{t:CKs.Ty ks}(h:CKs.fit ks o n cs=some t) :∀ x v,(ac.cols n (CKs.cols ks t)).cell? x=some v→(ac.cols m cs).cell? (o*ks.length+x)=some v:=by
  intro x v hx
  have hl:=mh h
  obtain ⟨c',h1,_,h3⟩:=bF hx
  obtain ⟨c,q1,_,q3⟩:=CKs.fit_spec h _ _ h1
  rw [CKs.len] at h1 h3 q1
  have hpos:0<ks.length:=by
    have:=(List.getElem?_eq_some_iff.1 q1).1
    omega
  simp only [ac.cell?,hl,Option.bind_eq_some_iff]
  refine ⟨c,?_,?_⟩
  · rw [Nat.add_comm,Nat.add_mul_mod_self_right];exact q1
  · rw [Nat.add_comm,Nat.add_mul_div_right _ _ hpos,Nat.add_comm];exact q3 _ _ h3
structure Wk (v v':AV):Prop where
  weak:aj v v'
  kept:v.kept=true→v'.kept=true
  foreign:v.foreign=true→v'.foreign=true
structure wB (v v':List AV):Prop where
  weak:bE v v'
  kept:ba v=true→ba v'=true
  foreign:ay v=true→ay v'=true
theorem Wk.refl(v:AV) :Wk v v:=⟨aj.refl v,id,id⟩
theorem Wk.fltL(x:Nat) :Wk (.flt true x) (.flt false x):=⟨fun ρ w u h=>(by
  cases h with | flt _ _ y hf =>
  rcases hf with rfl | ⟨q,_⟩
  · exact .flt _ _ _ (.inl rfl)
  · cases q),id,id⟩
theorem wB.cons{v v':AV}{l l':List AV}(h:Wk v v')(k:wB l l') :wB (v::l) (v'::l') :=
  ⟨.cons h.weak k.weak,fun q=>by simp only [ba,Bool.and_eq_true] at q ⊢;exact ⟨h.kept q.1,k.kept q.2⟩,fun q=>by simp only [ay,Bool.and_eq_true] at q ⊢;exact ⟨h.foreign q.1,k.foreign q.2⟩⟩
theorem Wk.part{l:Lv}{d d':ac}{w es o n:Nat}(h:∀ x v,d'.cell? x=some v→d.cell? (o*w+x)=some v)(hr:d.recKept→d'.recKept)(hk:d'.kept=true)(hg:d'.foreign=true) :Wk (.imm l d w es o n) (.imm l d' w es 0 n) :=
  ⟨mB h hr hk hg,id,id⟩
theorem Wk.nsl{d':ac}{w es:Nat}(hr:d'.recKept)(hk:d'.kept=true)(hg:d'.foreign=true) :Wk .nsl (.imm .free d' w es 0 0):=⟨mC hr hk hg,id,id⟩
theorem Wk.esl{d':ac}{w es:Nat}(hr:d'.recKept)(hk:d'.kept=true)(hg:d'.foreign=true) :Wk .esl (.imm .free d' w es 0 0):=⟨mD hr hk hg,id,id⟩
theorem Wk.fl{l:Lv}{xs:List Nat}{o n:Nat}(h:bM o n xs=true) :Wk (.imm l (.fl xs) 1 1 o n) (.imm l (.fl (ai o n xs)) 1 1 0 (ai o n xs).length):=by
  rw [cy (ev.1 h)];exact .part (fun x v q=>by rw [Nat.mul_one];exact eg q) (fun _=>trivial) rfl rfl
theorem Wk.ns{k:IntKind}{l:Lv}{xs:List Int}{o n:Nat}(h:bM o n xs=true) :Wk (.imm l (.ns k xs) 1 1 o n) (.imm l (.ns k (ai o n xs)) 1 1 0 (ai o n xs).length):=by
  rw [cy (ev.1 h)];exact .part (fun x v q=>by rw [Nat.mul_one];exact eg q) (fun _=>trivial) rfl rfl
theorem Wk.bs{l:Lv}{xs:List Bool}{o n:Nat}(h:bM o n xs=true) :Wk (.imm l (.bs xs) 1 1 o n) (.imm l (.bs (ai o n xs)) 1 1 0 (ai o n xs).length):=by
  rw [cy (ev.1 h)];exact .part (fun x v q=>by rw [Nat.mul_one];exact eg q) (fun _=>trivial) rfl rfl
theorem Wk.ss{l:Lv}{xs:List ByteArray}{o n:Nat}(h:bM o n xs=true) :Wk (.imm l (.ss xs) 1 1 o n) (.imm l (.ss (ai o n xs)) 1 1 0 (ai o n xs).length):=by
  rw [cy (ev.1 h)];exact .part (fun x v q=>by rw [Nat.mul_one];exact eg q) (fun _=>trivial) rfl rfl
theorem uN{ks:List CK}{o n m:Nat}{cs:List bx}{t:CKs.Ty ks}(h:CKs.fit ks o n cs=some t)(hm:o+n≤m) :(ac.cols m cs).recKept→(ac.cols n (CKs.cols ks t)).recKept:=by
  intro hr c hc
  obtain ⟨j,hj⟩:=List.getElem?_of_mem hc
  obtain ⟨c0,q1,q2,_⟩:=CKs.fit_spec h j c hj
  exact q2 (by rw [hr c0 (List.mem_of_getElem? q1)];exact hm)
theorem wl{w es n:Nat}(h:(Nat.beq w n&&Nat.beq es n)=true) :w=n∧es=n:=by
  rw [Bool.and_eq_true] at h;exact ⟨Nat.eq_of_beq_eq_true h.1,Nat.eq_of_beq_eq_true h.2⟩
theorem iQ{α:Type}{c:Bool}{a:α}{x:α}(h:(bif c then some a else none)=some x) :c=true∧a=x:=by
  cases c with
  | true=>exact ⟨rfl,by simpa using h⟩
  | false=>cases h
theorem wm{α:Type}{c:Bool}{a:Option α}{x:α}(h:(bif c then a else none)=some x) :c=true∧a=some x:=by
  cases c with
  | true=>exact ⟨rfl,h⟩
  | false=>cases h
theorem hJ{α:Type}{f:ac→Option (List α)}{g:List α→ac}(hg:∀ {d xs},f d=some xs→d=g xs) 
    (hw:∀ {l xs o n},bM o n xs=true→Wk (.imm l (g xs) 1 1 o n) (.imm l (g (ai o n xs)) 1 1 0 (ai o n xs).length)) (h0:(g []).recKept∧(g []).kept=true∧(g []).foreign=true)
    {v:AV} {t:Lv×List α} {o:List Bool} (h:pq f v=some (t,o)) (ho:ae o):Wk v (.imm t.1 (g t.2) 1 1 0 t.2.length):=by
  unfold pq at h
  split at h
  · rename_i l d w es i n
    cases e:f d with
    | none=>rw [e] at h;cases h
    | some xs =>
      rw [e] at h
      obtain ⟨e2,h⟩:=iQ h
      obtain ⟨rfl,rfl⟩:=wl e2
      cases h;cases hg e;exact hw ho.1
  · cases h;exact .nsl h0.1 h0.2.1 h0.2.2
  · cases h;exact .esl h0.1 h0.2.1 h0.2.2
  · cases h
theorem qe{ks:List CK}{v:AV}{t:Lv×Nat×CKs.Ty ks}{o:List Bool}(h:qd ks v=some (t,o))(ho:ae o) :Wk v (.imm t.1 (.cols t.2.1 (CKs.cols ks t.2.2)) ks.length ks.length 0 t.2.1):=by
  unfold qd at h
  split at h
  · rename_i l d w es i n
    cases d<;>simp only [s7,Option.bind_none,Option.bind_some,reduceCtorEq] at h
    rename_i m cs
    have e:=(wm h).1;replace h:=(wm h).2
    obtain ⟨rfl,rfl⟩:=wl e
    cases e2:CKs.fit ks i n cs with
    | none=>rw [e2] at h;cases h
    | some r =>
      rw [e2] at h;cases h
      have:i+n≤m:=Nat.le_of_ble_eq_true ho.1
      exact .part (tP e2) (uN e2 this) rfl rfl
  · cases h;exact .nsl (CKs.emp_len ks) rfl rfl
  · cases h;exact .esl (CKs.emp_len ks) rfl rfl
  · cases h
mutual
theorem kN.fit_spec:∀ (p:kN) (v:AV) {t:p.Ty} {o:List Bool},p.fit v=some (t,o)→ae o→Wk v (p.av t)
  | .int k,v,t,o,h,ho=>by
    simp only [kN.fit,uF] at h
    split at h
    · obtain ⟨e,h⟩:=iQ h
      cases h;cases gQ.1 e;exact .refl _
    · cases h
  | .flt ex,v,t,o,h,ho=>by
    simp only [kN.fit,uG] at h
    split at h
    · rename_i ex' x
      cases ex with
      | true =>
        cases ex' with
        | true=>cases h;exact .refl _
        | false=>cases h
      | false =>
        cases ex' with
        | true=>cases h;exact .fltL x
        | false=>cases h;exact .refl _
    · cases h
  | .bool,v,t,o,h,ho=>by
    simp only [kN.fit,s6] at h
    split at h
    · rename_i kn b
      cases kn with
      | true=>cases h
      | false=>cases h;exact .refl _
    · cases h
  | .kbool b,v,t,o,h,ho=>by
    simp only [kN.fit,rv] at h
    split at h
    · obtain ⟨e,h⟩:=iQ h
      rw [Bool.and_eq_true] at e
      cases e.1;cases so.1 e.2;exact .refl _
    · cases h
  | .str,v,t,o,h,ho=>by
    simp only [kN.fit,uH] at h
    split at h
    · cases h;exact .refl _
    · cases h
  | .fl,v,t,o,h,ho=>hJ (g:=.fl) (f:=uI) (fun {d xs} e=>by cases d<;>cases e;rfl) (fun q=>.fl q) ⟨trivial,rfl,rfl⟩ h ho
  | .ns k,v,t,o,h,ho=>hJ (g:=.ns k) (f:=uJ k) (fun {d xs} e=>by
      cases d<;>try (cases e;done)
      have e1:=(iQ e).1;replace e:=(iQ e).2
      cases gQ.1 e1;cases e;rfl) (fun q=>.ns q) ⟨trivial,rfl,rfl⟩ h ho
  | .bs,v,t,o,h,ho=>hJ (g:=.bs) (f:=uK) (fun {d xs} e=>by cases d<;>cases e;rfl) (fun q=>.bs q) ⟨trivial,rfl,rfl⟩ h ho
  | .ss,v,t,o,h,ho=>hJ (g:=.ss) (f:=vI) (fun {d xs} e=>by cases d<;>cases e;rfl) (fun q=>.ss q) ⟨trivial,rfl,rfl⟩ h ho
  | .cols ks,v,t,o,h,ho=>qe h ho
  | .ivs ps w i j,v,t,o,h,ho=>by
    simp only [kN.fit] at h
    split at h
    case h_2=>cases h
    rename_i q hq
    split at h
    case h_2=>cases h
    rename_i r hr
    cases h
    unfold vK at hq
    split at hq
    case h_2=>cases hq
    rename_i l d w' i' j'
    cases d<;>simp only [vJ,Option.bind_none,Option.bind_some,reduceCtorEq] at hq
    rename_i xs
    have e:=(iQ hq).1;replace hq:=(iQ hq).2
    rw [Bool.and_eq_true,Bool.and_eq_true] at e
    cases Nat.eq_of_beq_eq_true e.1
    cases Nat.eq_of_beq_eq_true e.2.1
    cases Nat.eq_of_beq_eq_true e.2.2
    cases hq
    have:=eD.fit_spec ps xs hr ho
    exact ⟨nW this.weak this.kept this.foreign,id,id⟩
  | .fn f a b,v,t,o,h,ho=>by
    simp only [kN.fit] at h
    split at h
    case h_2=>cases h
    rename_i q hq
    split at h
    case h_2=>cases h
    rename_i r hr
    split at h
    case h_2=>cases h
    rename_i s hs
    cases h
    unfold wk at hq
    split at hq
    case h_2=>cases hq
    have e:=(iQ hq).1;replace hq:=(iQ hq).2
    cases Nat.eq_of_beq_eq_true e
    cases hq
    rw [au] at ho
    have h1:=eD.fit_spec a _ hr ho.1
    have h2:=eD.fit_spec b _ hs ho.2
    refine ⟨aj.fn h1.weak h2.weak,fun q=>?_,fun q=>?_⟩
    · simp only [kN.av,AV.kept,Bool.and_eq_true] at q ⊢;exact ⟨h1.kept q.1,h2.kept q.2⟩
    · simp only [kN.av,AV.foreign,Bool.and_eq_true] at q ⊢;exact ⟨h1.foreign q.1,h2.foreign q.2⟩
  | .agg ps,v,t,o,h,ho=>by
    simp only [kN.fit] at h
    split at h
    case h_2=>cases h
    rename_i l hl
    cases v<;>simp only [vL,reduceCtorEq,Option.some.injEq] at hl
    subst hl
    have:=eD.fit_spec ps _ h ho
    exact ⟨aj.agg this.weak,this.kept,this.foreign⟩
  | .tup ps,v,t,o,h,ho=>by
    simp only [kN.fit] at h
    split at h
    case h_2=>cases h
    rename_i l hl
    cases v<;>simp only [vM,reduceCtorEq,Option.some.injEq] at hl
    subst hl
    have:=eD.fit_spec ps _ h ho
    exact ⟨aj.tup this.weak,this.kept,this.foreign⟩
  | .iface y p,v,t,o,h,ho=>by
    simp only [kN.fit] at h
    split at h
    case h_2=>cases h
    rename_i u hu
    unfold s8 at hu
    split at hu
    case h_2=>cases hu
    have e:=(iQ hu).1;replace hu:=(iQ hu).2
    cases Nat.eq_of_beq_eq_true e
    subst hu
    have:=kN.fit_spec p _ h ho
    exact ⟨aj.iface this.weak,this.kept,this.foreign⟩
  | .nfn,v,t,o,h,ho=>by
    cases v<;>simp only [kN.fit,vN,reduceCtorEq] at h
    exact .refl _
  | .nptr,v,t,o,h,ho=>by
    cases v<;>simp only [kN.fit,uL,reduceCtorEq] at h
    exact .refl _
  | .niface,v,t,o,h,ho=>by
    cases v<;>simp only [kN.fit,rx,reduceCtorEq] at h
    exact .refl _
  | .any,v,t,o,h,ho=>⟨aj.any v,fun _=>rfl,fun _=>rfl⟩
  | .lsl b,v,t,o,h,ho=>by
    simp only [kN.fit,uM] at h
    split at h
    · have e:=(iQ h).1;replace h:=(iQ h).2
      rw [Bool.and_eq_true,Bool.and_eq_true] at e
      cases Nat.eq_of_beq_eq_true e.1
      cases Nat.eq_of_beq_eq_true e.2.1
      cases Nat.eq_of_beq_eq_true e.2.2
      cases h;exact .refl _
    · cases h
  | .lptr b w i j,v,t,o,h,ho=>by
    simp only [kN.fit,s9] at h
    split at h
    · have e:=(iQ h).1;replace h:=(iQ h).2
      rw [Bool.and_eq_true,Bool.and_eq_true,Bool.and_eq_true] at e
      cases Nat.eq_of_beq_eq_true e.1.1
      cases Nat.eq_of_beq_eq_true e.1.2
      cases Nat.eq_of_beq_eq_true e.2.1
      cases Nat.eq_of_beq_eq_true e.2.2
      exact .refl _
    · cases h
theorem eD.fit_spec:∀ (ps:eD) (l:List AV) {t:ps.Ty} {o:List Bool},ps.fit l=some (t,o)→ae o→wB l (ps.avs t)
  | .nil,[],t,o,h,ho=>⟨.nil,id,id⟩
  | .nil,v::l,t,o,h,ho=>by simp [eD.fit] at h
  | .cons p ps,[],t,o,h,ho=>by simp [eD.fit] at h
  | .cons p ps,v::l,t,o,h,ho=>by
    simp only [eD.fit] at h
    split at h
    case h_2=>cases h
    rename_i r hr
    split at h
    case h_2=>cases h
    rename_i s hs
    cases h
    rw [au] at ho
    exact .cons (kN.fit_spec p v hr ho.1) (eD.fit_spec ps l hs ho.2)
end
def gq(f:FuncId)(ps:eD)(alts:ps.Ty→List iy) :bi :=
  ⟨f, fun L args => match L with
    | []=>match ps.fit args with
      | some r=>some ((alts r.1).map fun a=>⟨a.out,r.2++a.obs⟩)
      | none=>none
    | _=>none⟩
theorem cj{P:Program}{f:FuncId}{ps:eD}{alts:ps.Ty→List iy}(h:∀ t,∀ a∈alts t,ae a.obs→ag P f [] (ps.avs t) a.out) :bu P (gq f ps alts):=by
  intro L args al a hal ha ho
  simp only [gq] at hal
  split at hal
  case h_2=>cases hal
  split at hal
  case h_2=>cases hal
  rename_i r hr
  obtain ⟨t,o⟩:=r
  simp only [Option.some.injEq] at hal
  subst hal
  simp only [List.mem_map] at ha
  obtain ⟨b,hb,rfl⟩:=ha
  simp only [au] at ho
  exact (h t b hb ho.2).args (eD.fit_spec ps args hr ho.1).weak
inductive BK where
  | fl
  | ns (k:IntKind)
  | bs
def BK.Ty:BK→Type
  | .fl=>List Nat
  | .ns _=>List Int
  | .bs=>List Bool
def BK.blk:(k:BK)→k.Ty→ac
  | .fl,xs=>.fl xs
  | .ns k,xs=>.ns k xs
  | .bs,xs=>.bs xs
def BK.fit:(k:BK)→ac→Option k.Ty
  | .fl=>uI
  | .ns k=>uJ k
  | .bs=>uK
theorem BK.fit_spec:∀ (k:BK) {d:ac} {t:k.Ty},k.fit d=some t→d=k.blk t
  | .fl,d,t,h=>by cases d<;>cases h;rfl
  | .ns k,d,t,h=>by
    cases d<;>try (cases h;done)
    have e1:=(iQ h).1;replace h:=(iQ h).2
    cases gQ.1 e1;cases h;rfl
  | .bs,d,t,h=>by cases d<;>cases h;rfl
def BKs.Ty:List BK→Type
  | []=>Unit
  | k::l=>k.Ty×BKs.Ty l
def nX:(l:List BK)→BKs.Ty l→List ac
  | [],_=>[]
  | k::l,t=>k.blk t.1::nX l t.2
def BKs.fit:(l:List BK)→List ac→Option (BKs.Ty l)
  | [],[]=>some ()
  | [],_::_=>none
  | _::_,[]=>none
  | k::l,d::ds=>match k.fit d with
    | some t=>match BKs.fit l ds with
      | some r=>some (t,r)
      | none=>none
    | none=>none
theorem BKs.fit_spec:∀ (l:List BK) {ds:List ac} {t:BKs.Ty l},BKs.fit l ds=some t→ds=nX l t
  | [],[],t,h=>rfl
  | [],_::_,t,h=>by cases h
  | _::_,[],t,h=>by cases h
  | k::l,d::ds,t,h=>by
    simp only [BKs.fit] at h
    split at h
    case h_2=>cases h
    rename_i x hx
    split at h
    case h_2=>cases h
    rename_i r hr
    cases h
    simp only [nX]
    rw [←BK.fit_spec k hx,←BKs.fit_spec l hr]
theorem dc{P:Program}{f:FuncId}{l:List AV} :∀ a∈([]:List iy),ae a.obs→ag P f [] l a.out:=fun a h=>by cases h
theorem ck{P:Program}{f:FuncId}{l:List AV}{o:iw}{b:Bool}{al:List iy}(h:b=true→ag P f [] l o)(t:∀ a∈al,ae a.obs→ag P f [] l a.out) :∀ a∈(⟨o,[b]⟩:iy)::al,ae a.obs→ag P f [] l a.out:=by
  intro a ha ho
  rcases List.mem_cons.1 ha with rfl | ha
  · exact h ho.1
  · exact t a ha ho
end Go.Plb
namespace Go.Plb
open Go.ChangeShapes Go.WideShapes Go.ChangeAt Go.RowKit Go.Deep
set_option linter.unusedSimpArgs false
set_option linter.unusedVariables false
set_option linter.unusedSectionVars false
variable [Rom]
def FA.ss:FA→ByteArray
  | .s x=>x
  | _=>ByteArray.empty
variable {H : Type} {enc : TypeId × Value → H} {P : Program} {W : World}
instance:Inhabited FA:=⟨.b false⟩
theorem uO{l:List FA}(h:gP [.fl,.fl] l) :∃ xs ys,l=[.fl xs,.fl ys]:=by
  match l,h with
  | [a,b],⟨h1,h2,_⟩ =>
    obtain ⟨r,rfl⟩:=uC h1;obtain ⟨s,rfl⟩:=uC h2
    exact ⟨_,_,rfl⟩
end Go.Plb
namespace Go.Plb.Seat
open Go Go.Plb Go.Proofs
noncomputable abbrev prog:Program:=Try.prog
instance:Rom:=⟨[]⟩
theorem uP{ρ:aa}{w:World} :∀ x∈(Rom.tab:List (Nat×ac)),VR ρ w (.iptr .free x.2 1 0 0) (.pointer (some ⟨x.1,0,none⟩)):=fun _ h=>by cases h
abbrev fO:FuncId:=3
abbrev mi:FuncId:=4
abbrev gE:FuncId:=5
abbrev hP:FuncId:=6
abbrev eE:FuncId:=7
abbrev mj:FuncId:=8
abbrev fp:FuncId:=10
abbrev dz:FuncId:=11
abbrev jJ:FuncId:=13
abbrev jK:FuncId:=14
abbrev kO:FuncId:=15
abbrev fP:FuncId:=16
abbrev gr:FuncId:=17
abbrev dg:FuncId:=18
abbrev aL:FuncId:=21
abbrev hU:FuncId:=22
abbrev b5:FuncId:=23
abbrev cI:FuncId:=32
abbrev dh:FuncId:=53
abbrev dd:FuncId:=57
abbrev iR:FuncId:=66
noncomputable def FN(f:FuncId) :Func:=(prog.funcs[f]?).getD default
noncomputable def qf(f:FuncId) :Code:=((FN f).body).getD .skip
noncomputable def C0:j6:=sW prog [(dg,.bits),(b5,.frombits),(iR,.sqrt)] [(hP,⟨[],true⟩),(fp,⟨[],true⟩)]
theorem iS:sX prog dg .bits:=⟨FN dg,by kernel_rfl,by kernel_rfl,by kernel_rfl,by kernel_rfl,by kernel_rfl⟩
theorem gF:sX prog b5 .frombits:=⟨FN b5,by kernel_rfl,by kernel_rfl,by kernel_rfl,by kernel_rfl,by kernel_rfl⟩
theorem oO:sX prog iR .sqrt:=⟨FN iR,by kernel_rfl,by kernel_rfl,by kernel_rfl,by kernel_rfl,by kernel_rfl⟩
theorem mixed:prog.follows .mixedOrders=true:=by kernel_rfl
theorem wn:sY prog=true:=by kernel_rfl
theorem iT:C0.Ok:=un mixed wn (by
  intro x hx
  simp only [List.mem_cons,List.not_mem_nil,or_false] at hx
  rcases hx with rfl | rfl | rfl
  · exact iS
  · exact gF
  · exact oO
  )
end Go.Plb.Seat
namespace Go.Plb.Seat
open Go Go.Plb
set_option linter.unusedSimpArgs false
set_option linter.unusedVariables false
noncomputable abbrev E0:kJ:=bz []
theorem kP:bm prog E0:=nS prog
theorem uQ(y:Nat) :ag prog hU [] [.flt true y] ⟨.flt true (b4 y),[]⟩:=by
  have h:gO C0 E0 (b0 C0 E0 0 50) hU [] [.flt true y] (some [])=some (⟨.flt true (ia .andNot .u64 (y:Int) 9223372036854775808).toNat,[]⟩,[],some []):=by kernel_rfl
  have:=ag.run iT kP _ _ _ h trivial
  rw [ux,Int.toNat_natCast] at this;exact this
theorem wo(ex:Bool)(x:Nat) :ag prog hU [] [.flt ex x] ⟨.flt ex (b4 x),[]⟩:=by
  cases ex with
  | true=>exact uQ x
  | false=>exact ig (r:=fun y=>.flt true (b4 y)) uQ (fun y hf ρ w u h=>h.flt_weak (uy hf))
theorem tc(y:Nat) :ag prog gr [] [.flt true y] ⟨.flt true (b4 y),[]⟩:=by
  have h:gO C0 E0 (b0 C0 E0 0 50) gr [] [.flt true y] (some [])=some (⟨.flt true ((IntKind.u64.wrap ((y:Int)*2^min (Int.toNat 1) IntKind.u64.bits)).fdiv (2^min (Int.toNat 1) IntKind.u64.bits)).toNat,[]⟩,[true,true],some []):=by kernel_rfl
  have:=ag.run iT kP _ _ _ h ⟨rfl,rfl,trivial⟩
  rw [vi,Int.toNat_natCast] at this;exact this
theorem v5(ex:Bool)(x:Nat) :ag prog gr [] [.flt ex x] ⟨.flt ex (b4 x),[]⟩:=by
  cases ex with
  | true=>exact tc x
  | false=>exact ig (r:=fun y=>.flt true (b4 y)) tc (fun y hf ρ w u h=>h.flt_weak (uy hf))
theorem ml(x y:Nat) :ag prog dd [] [.flt true x,.flt true y] ⟨.flt true (fN x y),[]⟩:=by
  have h:gO C0 E0 (b0 C0 E0 0 50) dd [] [.flt true x,.flt true y] (some [])=some (⟨.flt true (ia .or .u64 (ia .andNot .u64 (x:Int) 9223372036854775808) (ia .and .u64 (y:Int) 9223372036854775808)).toNat,[]⟩,[],some []):=by kernel_rfl
  have:=ag.run iT kP _ _ _ h trivial
  rw [ux,v4,wj,Int.toNat_natCast] at this;exact this
theorem sq(e1 e2:Bool)(x y:Nat)(hn:isNaN y=true→isNaN x=true) :ag prog dd [] [.flt e1 x,.flt e2 y] ⟨.flt false (fN x y),[]⟩ :=
  ii (r:=fun x y=>.flt true (fN x y)) ml (fun x' y' h1 h2 ρ w u h=>h.flt_weak (FR.copy h1 h2 hn))
theorem vm(e1 e2:Bool)(x y:Nat) :ag prog dz [] [.flt e1 x,.flt e2 y] ⟨.bool false (gl x y),[]⟩:=by
  refine ii (r:=fun x y=>.bool false (gl x y)) (fun x y=>?_) (fun x' y' h1 h2 ρ w u h=>by rw [←FR.same h1 h2];exact h)
  have hb:((x:Int)==(y:Int))=(x==y):=by
    rw [Bool.eq_iff_iff];simp;omega
  cases hx:isNaN x with
  | false =>
    have h:gO C0 E0 (b0 C0 E0 0 50) dz [] [.flt true x,.flt true y] (some [0])=some (⟨.bool false ((x:Int)==(y:Int)),[]⟩,[kg x x==false],some []):=by kernel_rfl
    have:=ag.run iT kP _ _ _ h ⟨by rw [iP,hx];rfl,trivial⟩
    rw [hb] at this
    simp only [gl,hx,Bool.false_and,Bool.false_or];exact this
  | true =>
    cases hy:isNaN y with
    | false =>
      have h:gO C0 E0 (b0 C0 E0 0 50) dz [] [.flt true x,.flt true y] (some [1,0])=some (⟨.bool false ((x:Int)==(y:Int)),[]⟩,[kg x x==true,kg y y==false],some []):=by kernel_rfl
      have:=ag.run iT kP _ _ _ h ⟨by rw [iP,hx];rfl,by rw [iP,hy];rfl,trivial⟩
      rw [hb] at this
      simp only [gl,hx,hy,Bool.and_false,Bool.false_or];exact this
    | true =>
      have h:gO C0 E0 (b0 C0 E0 0 50) dz [] [.flt true x,.flt true y] (some [1,1])=some (⟨.bool true true,[]⟩,[kg x x==true,kg y y==true],some []):=by kernel_rfl
      have:=ag.run iT kP _ _ _ h ⟨by rw [iP,hx];rfl,by rw [iP,hy];rfl,trivial⟩
      have e:gl x y=true:=by simp [gl,hx,hy]
      rw [e]
      exact this.weak (nT _ _ _)
def su(L:List ac)(args:List AV) :Option (List iy) :=
  match L,args with
  | [],[.flt e1 x,.flt e2 y]=>bif e1&&e2 then one (.flt true (fN x y)) [] else one (.flt false (fN x y)) [!isNaN y||isNaN x]
  | _,_=>none
def uR:bi:=⟨hU,fun L args=>match L,args with | [],[.flt e x]=>one (.flt e (b4 x)) [] | _,_=>none⟩
def sv:bi:=⟨gr,fun L args=>match L,args with | [],[.flt e x]=>one (.flt e (b4 x)) [] | _,_=>none⟩
def nY:bi:=⟨dd,su⟩
def qg:bi:=⟨dz,fun L args=>match L,args with | [],[.flt _ x,.flt _ y]=>one (.bool false (gl x y)) [] | _,_=>none⟩
theorem uS:bu prog uR:=by
  intro L args alts a h ha ho
  simp only [uR] at h
  split at h
  · exact fy h ha ho fun _=>wo _ _
  · cases h
theorem tQ:bu prog sv:=by
  intro L args alts a h ha ho
  simp only [sv] at h
  split at h
  · exact fy h ha ho fun _=>v5 _ _
  · cases h
theorem v6{x y:Nat}(h:ae [!isNaN y||isNaN x]) :isNaN y=true→isNaN x=true:=by
  intro hy;have:=h.1;rw [hy] at this;simpa using this
theorem vn{f:FuncId}(hT:∀ x y,ag prog f [] [.flt true x,.flt true y] ⟨.flt true (fN x y),[]⟩) 
    (hF:∀ e1 e2 x y,(isNaN y=true→isNaN x=true)→ag prog f [] [.flt e1 x,.flt e2 y] ⟨.flt false (fN x y),[]⟩):bu prog ⟨f,su⟩:=by
  intro L args alts a h ha ho
  simp only [su] at h
  split at h
  · rename_i e1 x e2 y
    cases e1<;>cases e2<;>first | exact fy h ha ho fun q=>hF _ _ _ _ (v6 q) | exact fy h ha ho fun q=>hT _ _
  · cases h
theorem oP:bu prog nY:=vn ml sq
theorem sw:bu prog qg:=by
  intro L args alts a h ha ho
  simp only [qg] at h
  split at h
  · exact fy h ha ho fun q=>vm _ _ _ _
  · cases h
def L1:List bi:=[uR,sv,nY,qg]
def S1:kJ:=bz L1
theorem wq:bm prog S1:=aM uS (aM tQ (aM oP (aM sw (nS _))))
end Go.Plb.Seat
namespace Go.Plb
set_option linter.unusedSimpArgs false
set_option linter.unusedVariables false
set_option linter.unusedSectionVars false
variable [Rom]
inductive T (α:Type) where
  | fail
  | leaf (a:α)
  | ask (b:Bool) (t f:T α)
  | need (b:Bool) (t:T α)
  | alt (k:Nat) (t e:T α)
def T.run{α:Type} :T α→Option α
  | .fail=>none
  | .leaf a=>some a
  | .ask b t f=>bif b then t.run else f.run
  | .need b t=>bif b then t.run else none
  | .alt _ t e=>match t.run with
    | some a=>some a
    | none=>e.run
structure jo (α:Type) where
  path:List Nat
  obs:List Bool
  val:α
def jo.ask{α:Type}(n:Nat)(b:Bool)(l:jo α) :jo α:=⟨n::l.path,b::l.obs,l.val⟩
def jo.need{α:Type}(b:Bool)(l:jo α) :jo α:=⟨l.path,b::l.obs,l.val⟩
def jo.alt{α:Type}(n:Nat)(l:jo α) :jo α:=⟨n::l.path,l.obs,l.val⟩
def T.leaves{α:Type} :T α→List (jo α)
  | .fail=>[]
  | .leaf a=>[⟨[],[],a⟩]
  | .ask b t f=>t.leaves.map (jo.ask 1 (b==true))++f.leaves.map (jo.ask 0 (b==false))
  | .need b t=>t.leaves.map (jo.need b)
  | .alt k t e=>t.leaves.map (jo.alt k)++e.leaves
theorem dT{α:Type} :∀ (t:T α) {a:α},t.run=some a→∃ l∈t.leaves,l.val=a∧ae l.obs
  | .fail,a,h=>by cases h
  | .leaf b,a,h=>by
    simp only [T.run,Option.some.injEq] at h;subst h
    exact ⟨⟨[],[],b⟩,by simp [T.leaves],rfl,trivial⟩
  | .ask b t f,a,h=>by
    simp only [T.run] at h
    cases b with
    | true =>
      simp only [cond_true] at h
      obtain ⟨l,h1,h2,h3⟩:=dT t h
      exact ⟨l.ask 1 (true==true),by simp only [T.leaves,List.mem_append];exact .inl (List.mem_map_of_mem h1),h2,⟨rfl,h3⟩⟩
    | false =>
      simp only [cond_false] at h
      obtain ⟨l,h1,h2,h3⟩:=dT f h
      exact ⟨l.ask 0 (false==false),by simp only [T.leaves,List.mem_append];exact .inr (List.mem_map_of_mem h1),h2,⟨rfl,h3⟩⟩
  | .need b t,a,h=>by
    simp only [T.run] at h
    cases b with
    | true =>
      simp only [cond_true] at h
      obtain ⟨l,h1,h2,h3⟩:=dT t h
      exact ⟨l.need true,by simp only [T.leaves];exact List.mem_map_of_mem h1,h2,⟨rfl,h3⟩⟩
    | false=>cases h
  | .alt k t e,a,h=>by
    simp only [T.run] at h
    split at h
    · rename_i a' ht
      cases h
      obtain ⟨l,h1,h2,h3⟩:=dT t ht
      exact ⟨l.alt k,by simp only [T.leaves,List.mem_append];exact .inl (List.mem_map_of_mem h1),h2,h3⟩
    · obtain ⟨l,h1,h2,h3⟩:=dT e h
      exact ⟨l,by simp only [T.leaves,List.mem_append];exact .inr h1,h2,h3⟩
def iU{α X:Type}(N:α→aG)(E:X→AE×aG) :α⊕X→AE×aG
  | .inl a=>(.normal,N a)
  | .inr x=>E x
def Sg{α X:Type}(P:Program)(lent:List ac)(cs:List Code)(st:aG)(m:Option (α⊕X))(N:α→aG)(E:X→AE×aG) :Prop :=
  ∀ r,m=some r→bL P lent cs st fun e st'=>(e,st')=iU N E r
def uT{α X:Type}(C:j6)(S:kJ)(n:Nat)(cs:List Code)(st:aG)(ls:List (jo (α⊕X)))(ks:List NS)(k:Nat) :List (Bool×Option (AE×aG×List Bool)) :=
  List.zipWith (fun l s=>(s.ok k,uw s (tM (b0 C S 12 n) cs st (some l.path)))) ls ks
def td{α X:Type}(N:α→aG)(E:X→AE×aG)(ls:List (jo (α⊕X))) :List (Bool×Option (AE×aG×List Bool)) :=
  ls.map fun l=>(true,some ((iU N E l.val).1,(iU N E l.val).2,l.obs))
theorem te{α β γ:Type}{f:α→β→γ}{g:α→γ} :∀ {l:List α} {k:List β},List.zipWith f l k=l.map g→∀ a∈l,∃ b,f a b=g a
  | [],_,_,a,ha=>by cases ha
  | x::l,[],h,a,ha=>by simp at h
  | x::l,y::k,h,a,ha=>by
    simp only [List.zipWith_cons_cons,List.map_cons,List.cons.injEq] at h
    rcases List.mem_cons.1 ha with rfl | ha
    · exact ⟨y,h.1⟩
    · exact te h.2 a ha
theorem Sg.seg{C:j6}(hC:C.Ok){S:kJ}(hS:bm C.P S){lent:List ac}{α X:Type}(n:Nat)(cs:List Code)(st:aG)(t:T (α⊕X))(N:α→aG)(E:X→AE×aG)(ks:List NS) 
    (h:uT C S n cs st t.leaves ks lent.length=td N E t.leaves):Sg C.P lent cs st t.run N E:=by
  intro r hr
  obtain ⟨l,h1,h2,h3⟩:=dT t hr
  obtain ⟨k,hk⟩:=te h l h1
  simp only [Prod.mk.injEq] at hk
  obtain ⟨hn,he⟩:=hk
  have:=bL.seg hC hS (lent:=lent) (Q:=fun e st'=>(e,st')=iU N E r) cs.length (some l.path) k (cs:=cs) (st:=st) (by rw [List.take_length];exact he) hn h3
  refine this ?_
  rw [h2,List.drop_length]
  generalize hg:iU N E r=x
  obtain ⟨e,s⟩:=x
  cases e with
  | normal=>exact bL.nil rfl
  | ret=>rfl
  | exit id=>rfl
theorem bL.append{P:Program}{lent:List ac}{cs1 cs2:List Code}{st:aG}{Q1 Q:AE→aG→Prop}(h:bL P lent cs1 st Q1)(k:∀ e st',Q1 e st'→oN P lent cs2 e st' Q) :bL P lent (cs1++cs2) st Q:=by
  intro ρ0 w0 hN K hK a w hA
  apply j9
  refine h ρ0 w0 hN _ ?_ a w hA
  intro e st' a' w' q hA'
  have:=k e st' q
  cases e with
  | normal=>exact this ρ0 w0 hN K hK a' w' hA'
  | ret=>exact hK _ _ _ _ this hA'
  | exit id=>exact hK _ _ _ _ this hA'
def oQ{X:Type}(E:X→AE×aG) :Prop:=∀ x,(E x).1 ≠ .normal
theorem tf{P:Program}{lent:List ac}{cs:List Code}{e:AE}{st:aG}{Q:AE→aG→Prop}(hn:e ≠ .normal)(h:Q e st) :oN P lent cs e st Q:=by
  cases e with
  | normal=>exact (hn rfl).elim
  | ret=>exact h
  | exit id=>exact h
def cz{α β X:Type}(m:Option (α⊕X))(k:α→Option (β⊕X)) :Option (β⊕X) :=
  match m with
  | none=>none
  | some (.inl a)=>k a
  | some (.inr x)=>some (.inr x)
theorem Sg.seq{P:Program}{lent:List ac}{α β X:Type}{cs1 cs2:List Code}{st:aG}{m:Option (α⊕X)}{N1:α→aG}{E:X→AE×aG}{k:α→Option (β⊕X)}{N:β→aG}(hE:oQ E) 
    (h:Sg P lent cs1 st m N1 E) (hk:∀ a,Sg P lent cs2 (N1 a) (k a) N E):Sg P lent (cs1++cs2) st (cz m k) N E:=by
  intro r hr
  unfold cz at hr
  split at hr
  · cases hr
  · rename_i a
    refine bL.append (h _ rfl) ?_
    intro e st' q
    simp only [iU,Prod.mk.injEq] at q
    obtain ⟨rfl,rfl⟩:=q
    exact hk a r hr
  · rename_i x
    simp only [Option.some.injEq] at hr;subst hr
    refine bL.append (h _ rfl) ?_
    intro e st' q
    simp only [iU] at q
    refine tf ?_ q
    have:=hE x
    rw [←q] at this;exact this
def ij{σ Y:Type}(B:σ→Option (σ⊕Y)) :Nat→σ→Option Y
  | 0,_=>none
  | n+1,s=>match B s with
    | none=>none
    | some (.inl s')=>ij B n s'
    | some (.inr y)=>some y
theorem ka{σ Y:Type}{B:σ→Option (σ⊕Y)} :∀ (n:Nat) {s:σ} {y:Y},ij B n s=some y→∀ m,n≤m→ij B m s=some y
  | 0,s,y,h,_,_=>by cases h
  | n+1,s,y,h,m,hm=>by
    obtain ⟨m',rfl⟩:∃ m',m=m'+1:=⟨m-1,by omega⟩
    simp only [ij] at h ⊢
    split at h
    · cases h
    · exact ka n h m' (by omega)
    · exact h
open Classical in
noncomputable def c6{σ Y:Type}(B:σ→Option (σ⊕Y))(s:σ) :Option Y :=
  if h:∃ n y,ij B n s=some y then some h.choose_spec.choose else none
theorem jm{σ Y:Type}{B:σ→Option (σ⊕Y)}{s:σ}{y:Y} :c6 B s=some y↔∃ n,ij B n s=some y:=by
  unfold c6
  constructor
  · intro h
    split at h
    · rename_i q
      simp only [Option.some.injEq] at h
      exact ⟨q.choose,by rw [←h];exact q.choose_spec.choose_spec⟩
    · cases h
  · rintro ⟨n,h⟩
    rw [dif_pos ⟨n,y,h⟩]
    generalize hq:(⟨n,y,h⟩:∃ n y,ij B n s=some y)=q
    have h1:=q.choose_spec.choose_spec
    have a1:=ka n h (max n q.choose) (by omega)
    have a2:=ka _ h1 (max n q.choose) (by omega)
    rw [a1] at a2
    exact a2.symm
theorem ry{σ Y:Type}(B:σ→Option (σ⊕Y))(s:σ) :c6 B s=match B s with
    | none=>none
    | some (.inl s')=>c6 B s'
    | some (.inr y)=>some y:=by
  have key:∀ y,c6 B s=some y↔(match B s with | none=>none | some (.inl s')=>c6 B s' | some (.inr y)=>some y)=some y:=by
    intro y
    rw [jm]
    constructor
    · rintro ⟨n,h⟩
      cases n with
      | zero=>cases h
      | succ n =>
        simp only [ij] at h
        cases q:B s with
        | none=>rw [q] at h;cases h
        | some z=>cases z with
          | inl s'=>rw [q] at h;exact jm.2 ⟨n,h⟩
          | inr z=>rw [q] at h;exact h
    · intro h
      split at h<;>rename_i q
      · cases h
      · obtain ⟨n,hn⟩:=jm.1 h
        exact ⟨n+1,by simp only [ij,q];exact hn⟩
      · exact ⟨1,by simp only [ij,q];exact h⟩
  generalize (match B s with | none=>none | some (.inl s')=>c6 B s' | some (.inr y)=>some y)=x at key
  cases hl:c6 B s with
  | none=>cases x with
    | none=>rfl
    | some y=>rw [(key y).2 rfl] at hl;cases hl
  | some y=>rw [hl] at key;exact ((key y).1 rfl).symm
theorem uU{σ Y:Type}{B:σ→Option (σ⊕Y)}{s s':σ}(h:B s=some (.inl s')) :c6 B s=c6 B s':=by rw [ry,h]
theorem tR{σ Y:Type}{B:σ→Option (σ⊕Y)}{s:σ}{y:Y}(h:B s=some (.inr y)) :c6 B s=some y:=by rw [ry,h]
def gu{ρ X:Type}(id:Nat)(J:ρ→aG)(E:X→AE×aG) :ρ⊕X→AE×aG
  | .inl r=>(.exit id,J r)
  | .inr x=>E x
def rz{X:Type}(id:Nat)(E:X→AE×aG) :Prop:=∀ x,(E x).1 ≠ .exit id
theorem Sg.loop{P:Program}{lent:List ac}{σ ρ X:Type}{I:σ→aG}{J:ρ→aG}{E:X→AE×aG}{B:σ→Option (σ⊕(ρ⊕X))}{id:Nat}{b:Code}(hE:oQ E)(hI:rz id E) 
    (hb:∀ s,Sg P lent (dI b) (I s) (B s) I (gu id J E)) (s:σ):Sg P lent [.block id (.loop b)] (I s) (c6 B s) J E:=by
  intro y hy
  obtain ⟨n,hn⟩:=jm.1 hy

  have:=bL.loop (P:=P) (lent:=lent) (id:=id) (b:=b) (rest:=[]) (Q:=fun e st'=>(e,st')=iU J E y) (σ:=Nat×σ) (fun s=>I s.2) (fun s=>ij B s.1 s.2=some y) (fun s=>s.1) rfl (fun s hs=>?_) (n,s) hn
  · exact this
  · obtain ⟨n,s⟩:=s
    simp only at hs ⊢
    cases n with
    | zero=>cases hs
    | succ n =>
      simp only [ij] at hs
      split at hs
      · cases hs
      · rename_i s' hB
        refine (hb s _ hB).mono ?_
        intro e st' q
        simp only [iU,Prod.mk.injEq] at q
        obtain ⟨rfl,rfl⟩:=q
        exact ⟨(n,s'),hs,by simp,rfl⟩
      · rename_i y' hB
        simp only [Option.some.injEq] at hs;subst hs
        refine (hb s _ hB).mono ?_
        intro e st' q
        cases y' with
        | inl r =>
          simp only [iU,gu,Prod.mk.injEq] at q
          obtain ⟨rfl,rfl⟩:=q
          simp only [kL,if_true]
          exact bL.nil rfl
        | inr x =>
          simp only [iU,gu] at q
          have h1:=hE x
          have h2:=hI x
          rw [←q] at h1 h2
          simp only at h1 h2
          cases e with
          | normal=>exact (h1 rfl).elim
          | ret=>exact q
          | exit j =>
            have hj : ¬ j=id:=fun h=>h2 (by rw [h])
            simp only [kL,hj,if_false]
            exact q
def vO{κ X:Type}(m:Option (κ⊕(κ⊕X))) :Option (κ⊕X) :=
  match m with
  | none=>none
  | some (.inl a)=>some (.inl a)
  | some (.inr (.inl a))=>some (.inl a)
  | some (.inr (.inr x))=>some (.inr x)
theorem Sg.block{P:Program}{lent:List ac}{κ X:Type}{K:κ→aG}{E:X→AE×aG}{m:Option (κ⊕(κ⊕X))}{id:Nat}{b:Code}{st:aG}(hE:oQ E)(hI:rz id E) 
    (hb:Sg P lent (dI b) st m K (gu id K E)):Sg P lent [.block id b] st (vO m) K E:=by
  intro r hr
  unfold vO at hr
  refine bL.block (rest:=[]) rfl ?_
  split at hr
  · cases hr
  · simp only [Option.some.injEq] at hr;subst hr
    refine (hb _ rfl).mono ?_
    intro e st' q
    simp only [iU,Prod.mk.injEq] at q
    obtain ⟨rfl,rfl⟩:=q
    exact bL.nil rfl
  · simp only [Option.some.injEq] at hr;subst hr
    refine (hb _ rfl).mono ?_
    intro e st' q
    simp only [iU,gu,Prod.mk.injEq] at q
    obtain ⟨rfl,rfl⟩:=q
    simp only [if_true]
    exact bL.nil rfl
  · rename_i x
    simp only [Option.some.injEq] at hr;subst hr
    refine (hb _ rfl).mono ?_
    intro e st' q
    simp only [iU,gu] at q
    have h1:=hE x
    have h2:=hI x
    rw [←q] at h1 h2
    simp only at h1 h2
    cases e with
    | normal=>exact (h1 rfl).elim
    | ret=>exact q
    | exit j =>
      have hj : ¬ j=id:=fun h=>h2 (by rw [h])
      simp only [hj,if_false]
      exact q
theorem Sg.scope{P:Program}{lent:List ac}{α X:Type}{N:α→aG}{E:X→AE×aG}{m:Option (α⊕X)}{b:Code}{st:aG}(hE:oQ E)(hb:Sg P lent (dI b) st m N E) :Sg P lent [.scope b] st m N E:=by
  intro r hr
  refine bL.scope (rest:=[]) rfl ((hb r hr).mono ?_)
  intro e st' q
  cases r with
  | inl a =>
    simp only [iU,Prod.mk.injEq] at q
    obtain ⟨rfl,rfl⟩:=q
    exact bL.nil rfl
  | inr x =>
    refine tf ?_ q
    have:=hE x
    simp only [iU] at q
    rw [←q] at this;exact this
theorem rA{k:Nat}{ρ0:aa}{w0:World}{st:aG}{a:Act}{w:World}{c:Operand}{b kn:Bool}(h:At k ρ0 w0 st a w)(hc:vc st.tmps c=.bool kn b) :At k ρ0 w0 { st with tmps:=fL st.tmps c b } a w∧a.eval c=.bool b:=by
  obtain ⟨ρ,E,W,hs,hbk,hle⟩:=h
  have hb:a.eval c=.bool b:=by
    have:=m6 hs.heap.rom hs.tmps c
    rw [hc] at this
    generalize a.eval c=z at this
    cases this;rfl
  refine ⟨⟨ρ,E,W,⟨hs.defers,?_,hs.heap⟩,hbk,hle⟩,hb⟩
  cases c with
  | tmp t =>
    simp only [fL]
    have:bf ρ w (st.tmps.set t (.bool true b)) (a.tmps.toList.set t (.bool b)):=hs.tmps.set (.bool _ _) t
    have e:a.tmps.toList.set t (.bool b)=a.tmps.toList:=by
      apply List.ext_getElem?
      intro j
      rw [List.getElem?_set]
      split
      · rename_i q;subst q
        split
        · rename_i hlt
          simp only [Act.eval] at hb
          rw [Array.getD_eq_getD_getElem?] at hb
          have hlt':t<a.tmps.size:=by simpa using hlt
          rw [Array.getElem?_eq_getElem hlt'] at hb
          simp only [Option.getD_some] at hb
          simp [hlt',hb]
        · rename_i hge
          rw [List.getElem?_eq_none (by omega)]
      · rfl
    rw [e] at this;exact this
  | const v=>exact hs.tmps
  | global g=>exact hs.tmps
  | func f=>exact hs.tmps
theorem Sg.cond{P:Program}{lent:List ac}{α X:Type}{N:α→aG}{E:X→AE×aG}{m1 m2:Option (α⊕X)}{c:Operand}{A B:Code}{st:aG}{kn b:Bool}(hE:oQ E)(hc:vc st.tmps c=.bool kn b) 
    (h1:Sg P lent (dI A) { st with tmps:=fL st.tmps c true } m1 N E) (h2:Sg P lent (dI B) { st with tmps:=fL st.tmps c false } m2 N E):Sg P lent [.cond c A B] st (bif b then m1 else m2) N E:=by
  intro r hr
  intro ρ0 w0 hN K hK a w hA
  simp only [oB]
  obtain ⟨hA',hb⟩:=rA hA hc
  refine wp_cond hb ?_
  have i6:∀ (D:Code) (m:Option (α⊕X)) (st1:aG),Sg P lent (dI D) st1 m N E→m=some r→At lent.length ρ0 w0 st1 a w→D.wp P (fun e a' w'=>match e with | .normal=>K .normal a' w' | e=>K e a' w') a w:=by
    intro D m st1 hS hm hA1
    refine hH D (hS r hm ρ0 w0 hN _ ?_ a w hA1)
    intro e st' a' w' q hA2
    cases e with
    | normal=>exact hK .normal st' a' w' q hA2
    | ret=>exact hK .ret st' a' w' q hA2
    | exit id=>exact hK (.exit id) st' a' w' q hA2
  cases b with
  | true=>exact i6 A m1 _ h1 hr hA'
  | false=>exact i6 B m2 _ h2 hr hA'
theorem v7{P:Program}{lent:List ac}{α X:Type}{N:α→aG}{E:X→AE×aG}{m:Option (α⊕X)}{cs:List Code}{st st1:aG}(s:NS)(hn:s.ok lent.length=true)(h1:s.on st=st1)(h:Sg P lent cs st1 m N E) :Sg P lent cs st m N E :=
  fun r hr=>bL.weak (by rw [←h1];exact uv hn st) (h r hr)
def sx{X:Type} :Option (Empty⊕X)→Option X
  | some (.inr x)=>some x
  | _=>none
theorem Sg.contract{P:Program}{f:FuncId}{fn:Func}{c:Code}{X:Type}{N:Empty→aG}{E:X→AE×aG}{m:Option (Empty⊕X)}{lent:List ac}{args:List AV}(keep:Bool)(o:X→iw)(hf:P.funcs[f]? = some fn)(hc:fn.body=some c) 
    (h:Sg P lent (dI c) (fm fn lent args) m N E) (hE:∀ x,s5 P fn lent.length keep (o x) (E x).1 (E x).2) {x:X} (hx:sx m=some x):ag P f lent args (o x):=by
  unfold sx at hx
  split at hx
  · rename_i x'
    simp only [Option.some.injEq] at hx;subst hx
    refine bL.contract (keep:=keep) hf hc ((h _ rfl).mono ?_)
    intro e st' q
    simp only [iU] at q
    have:=hE x'
    rw [←q] at this;exact this
  · cases hx
end Go.Plb
namespace Go.Plb
set_option linter.unusedSectionVars false
variable [Rom]
theorem rB{ρ X:Type}{id:Nat}{J:ρ→aG}{E:X→AE×aG}(h:oQ E) :oQ (gu id J E):=by
  intro x
  cases x with
  | inl r=>intro q;cases q
  | inr x=>exact h x
def kb:Code→Code
  | .block _ (.loop b)=>b
  | _=>.skip
theorem Sg.cut{P:Program}{lent:List ac}{α β X:Type}{cs:List Code}{st:aG}{m:Option (α⊕X)}{N1:α→aG}{E:X→AE×aG}{k:α→Option (β⊕X)}{N:β→aG}(n:Nat)(hE:oQ E) 
    (h:Sg P lent (cs.take n) st m N1 E) (hk:∀ a,Sg P lent (cs.drop n) (N1 a) (k a) N E):Sg P lent cs st (cz m k) N E:=by
  have:=Sg.seq hE h hk
  rwa [List.take_append_drop] at this
theorem tS{P:Program}{lent:List ac}{σ ρ X:Type}{I:σ→aG}{J:ρ→aG}{E:X→AE×aG}{B:σ→Option (σ⊕(ρ⊕X))}{id:Nat}{b:Code}{cs:List Code}(hcs:cs=[.block id (.loop b)])(hE:oQ E)(hI:rz id E) 
    (hb:∀ s,Sg P lent (dI b) (I s) (B s) I (gu id J E)) (s:σ):Sg P lent cs (I s) (c6 B s) J E:=by rw [hcs];exact Sg.loop hE hI hb s
end Go.Plb
namespace Go.Plb.Seat
open Go Go.Plb
set_option linter.unusedSimpArgs false
set_option linter.unusedVariables false
set_option maxRecDepth 100000
def mn(n:Nat) :Bool:=Nat.ble n 1000000000
noncomputable def ws:Empty→aG:=fun a=>a.elim
noncomputable def wt:Unit→AE×aG:=fun _=>(.ret,⟨a8 8 [(2,.sl 0 1 1 0 0 0)],[(0,.fl [])],1⟩)
noncomputable def wI:Unit→iw:=fun _=>⟨.sl 0 1 1 0 0 0,[some (.fl [])]⟩
theorem vo:ag prog aL [] [.zsl true] ⟨.sl 0 1 1 0 0 0,[some (.fl [])]⟩ :=
  Sg.contract (x:=()) (X:=Unit) (N:=ws) (E:=wt) (m:=some (.inr ())) false wI (by kernel_rfl:prog.funcs[aL]? = some (FN aL)) (by kernel_rfl:(FN aL).body=some (qf aL))
    (Sg.seg (C:=C0) iT kP 60 (dI (qf aL)) (fm (FN aL) [] [.zsl true]) (.leaf (.inr ())) ws wt [⟨[(.slot 2,.own 1 1 (.fl []))],[64],[2]⟩] (by kernel_rfl))
    (fun _=>⟨.inr rfl,[.sl 0 1 1 0 0 0],[],by kernel_rfl,trivial,by kernel_rfl⟩) rfl
theorem uV:ag prog aL [] [.zsl false] ⟨.sl 0 1 1 0 0 0,[some (.fl [])]⟩ :=
  ag.run iT kP (some []) 0 60 (p':=some []) (obs:=[]) (by kernel_rfl) wO
theorem vp(l:Lv) :ag prog aL [] [.imm l (.fl []) 1 1 0 0] ⟨.sl 0 1 1 0 0 0,[some (.fl [])]⟩:=by
  intro ρ w us hN hv
  cases hv with | cons _ u _ _ h1 h2 =>
  cases h2
  have key:∀ (a:Option Addr) cap,bf ρ w [.zsl a.isNone] [.slice a 0 cap]:=fun a cap=>.cons _ _ _ _ (.zsl a cap) .nil
  have all:∀ b,ag prog aL [] [.zsl b] ⟨.sl 0 1 1 0 0 0,[some (.fl [])]⟩:=fun b=>by
    cases b
    · exact uV
    · exact vo
  cases h1 with
  | imm _ _ _ _ _ _ cap bl o u'=>exact all _ ρ w _ hN (key _ cap)
  | immEnd _ _ _ _ _ cap a=>exact all _ ρ w _ hN (key a cap)
theorem vq(l:Lv)(xs:List Nat)(hl:xs.length≤1000000000) :ag prog aL [] [.imm l (.fl xs) 1 1 0 xs.length] ⟨.sl 0 1 1 0 xs.length xs.length,[some (.fl xs)]⟩:=by
  rcases Nat.eq_zero_or_pos xs.length with h0 | h0
  · have:xs=[]:=List.length_eq_zero_iff.1 h0
    subst this
    exact vp l
  · have h:gO C0 E0 (b0 C0 E0 0 60) aL [] [.imm l (.fl xs) 1 1 0 xs.length] (some [])=some (⟨.sl 0 1 1 0 (0+xs.length) (0+xs.length),[some (.fl (List.take 0 []++List.take xs.length xs))]⟩,
        [Nat.blt 0 xs.length,bU ((0+xs.length)*8) 140737488355328,bU (0+xs.length) 9223372036854775807,bU xs.length xs.length,bU 0 ([]:List Nat).length],some []):=by kernel_rfl
    have:=ag.run iT kP _ _ _ h (ob (by rw [Nat.blt_eq];exact h0)<|ob (by simp [bU];omega)<|ob (by simp [bU];omega)<|ob (by simp [bU])<|ob rfl wO)
    simp only [Nat.zero_add,List.take_zero,List.nil_append,List.take_length] at this
    exact this
noncomputable def tg:bi:=gq aL (.cons .fl .nil) fun t=>[⟨⟨.sl 0 1 1 0 t.1.2.length t.1.2.length,[some (.fl t.1.2)]⟩,[mn t.1.2.length]⟩]
theorem sy:bu prog tg:=cj fun t=>ck (fun h=>vq t.1.1 t.1.2 (Nat.le_of_ble_eq_true h)) dc
noncomputable def wP:List bi:=tg::L1
theorem v8:bm prog (bz wP):=aM sy wq
noncomputable def L2:List bi:=wP
theorem wu:bm prog (bz L2):=v8
end Go.Plb.Seat
namespace Go.Plb.Seat
open Go Go.Plb
set_option linter.unusedSimpArgs false
set_option linter.unusedVariables false
theorem ag.nan{f:FuncId}{g:Nat→iw}{r:iw}(h:∀ n:Nat,ag prog f [] [.int .u64 (n:Int)] (g n))(e:∀ n:Nat,isNaN n=true→g n=r) :ag prog f [] [.nan] r:=by
  intro ρ w us hN hv
  cases hv with | cons _ u _ _ h1 h2 =>
  cases h2
  cases h1 with | nan n hn =>
  rw [←e n hn]
  exact h n ρ w _ hN (.cons _ _ _ _ (.int _ _) .nil)
noncomputable def L3:List bi:=L2
theorem vP:bm prog (bz L3):=wu
end Go.Plb.Seat
namespace Go.Plb.Seat
open Go Go.Plb
set_option linter.unusedVariables false
set_option maxRecDepth 100000
theorem hX{S:kJ}(hS:bm prog S){lent:List ac}{α X:Type}{cs:List Code}{st:aG}{t:T (α⊕X)}(N:α→aG){E:X→AE×aG}(ks:List NS) 
    (h:uT C0 S 60 cs st t.leaves ks lent.length=td N E t.leaves:=by kernel_rfl):Sg prog lent cs st t.run N E:=Sg.seg iT hS 60 cs st t N E ks h
theorem wv{lent:List ac}{σ ρ X:Type}{cs:List Code}{st:aG}{E:X→AE×aG}{B:σ→Option (σ⊕(ρ⊕X))}{ent:σ}(s:NS)(I:σ→aG)(J:ρ→aG)(id:Nat)(hE:oQ E)(hI:rz id E) 
    (hb:∀ a,Sg prog lent (dI (kb (cs.headD .skip))) (I a) (B a) I (gu id J E)) (hn:s.ok lent.length=true:=by exact rfl) (h1:s.on st=I ent:=by kernel_rfl) (hcs:cs=[.block id (.loop (kb (cs.headD .skip)))]:=by kernel_rfl) :
    Sg prog lent cs st (c6 B ent) J E:=v7 s hn h1 (tS hcs hE hI hb ent)
def wQ:Empty→aG:=fun a=>a.elim
theorem th{fn:Func}{k:Nat}{keep:Bool}{o:iw}{st:aG}(vs:List AV)(h1:ch prog fn st fn.results.toList=some (vs,[]):=by kernel_rfl)(h2:nG k keep st.heap (lD vs)=some o:=by kernel_rfl) :s5 prog fn k keep o .ret st :=
  ⟨.inr rfl,vs,[],h1,trivial,h2⟩
theorem uW{f:FuncId}{X:Type}{m:Option (Empty⊕X)}{lent:List ac}{args:List AV}{x:X}(keep:Bool)(o:X→iw)(E:X→AE×aG)(hx:sx m=some x) 
    (h:Sg prog lent (dI (qf f)) (fm (FN f) lent args) m wQ E) (hE:∀ x,s5 prog (FN f) lent.length keep (o x) (E x).1 (E x).2)
    (hf:prog.funcs[f]? = some (FN f):=by kernel_rfl) (hc:(FN f).body=some (qf f):=by kernel_rfl):ag prog f lent args (o x) :=
  Sg.contract (P:=prog) (f:=f) (fn:=FN f) (c:=qf f) (N:=wQ) (E:=E) (lent:=lent) (args:=args) keep o hf hc h hE hx
end Go.Plb.Seat
namespace Go.Plb.Seat
open Go Go.Plb
set_option linter.unusedSimpArgs false
set_option linter.unusedVariables false
def wJ:Option (iw×List Bool×bH)→Bool
  | some (⟨.bool _ true,[]⟩,o,_)=>tB o
  | _=>false
theorem uX{r:Option (iw×List Bool×bH)}(h:wJ r=true) :∃ k o p,r=some (⟨.bool k true,[]⟩,o,p)∧ae o:=by
  unfold wJ at h
  split at h
  · exact ⟨_,_,_,rfl,pg h⟩
  · cases h
theorem tT:wJ (gO C0 (bz L3) (b0 C0 (bz L3) 50 100) gE [] [] none)=true:=by kernel_rfl
theorem vr:ag prog gE [] [] ⟨.bool false true,[]⟩:=by
  obtain ⟨k,o,p,h,ho⟩:=uX tT
  exact (ag.run iT vP none _ _ h ho).weak (nT _ _ _)
def qh:bi:=⟨gE,fun L args=>match L,args with | [],[]=>one (.bool false true) [] | _,_=>none⟩
theorem sz:bu prog qh:=by
  intro L args alts a h ha ho
  simp only [qh] at h
  split at h
  · exact fy h ha ho fun q=>vr
  · cases h
noncomputable def wR:List bi:=qh::L3
theorem sA:bm prog (bz wR):=aM sz vP
end Go.Plb.Seat
namespace Go.Plb.Seat
open Go Go.Plb
set_option linter.unusedVariables false
set_option maxRecDepth 100000
noncomputable section
inductive bP where
  | r0 (a:Bool)
def mo:bP→AE×aG
  | .r0 a=>(.ret,⟨a8 17 [(4,.bool false a)],[],0⟩)
theorem qi:oQ mo:=by intro x;cases x<;>(intro h;cases h)
def iV:bP→iw
  | .r0 a=>⟨.bool false a,[]⟩
def qj(a:Bool) :aG:=⟨a8 17 [(4,.bool false a)],[],0⟩
def qk(b:List Nat)(c:List Nat)(a:Int) :T ((Bool)⊕(bP)) :=
  .ask (decide ((((List.length b):Nat):Int)≤a))
    (.leaf (.inl (decide ((((List.length c):Nat):Int)≤a))))
    (.leaf (.inl false))
def ql(a:Bool) :T ((Empty)⊕(bP)) :=
  .leaf (.inr (.r0 a))
def dn(a:List Nat)(b:List Nat)(c:Int) :Option bP:=sx (cz ((qk a b c).run) fun d =>
  (ql d).run)
theorem qm(d:Lv)(a:List Nat)(e:Lv)(b:List Nat)(c:Int){x:bP}(h:dn a b c=some x) :ag prog mi [] [.agg [.imm d (.fl a) 1 1 0 (List.length a),.imm e (.fl b) 1 1 0 (List.length b)],.int .i64 c] (iV x) :=
  uW false iV mo h (Sg.cut 2 qi (hX sA qj [⟨[],[],[4]⟩,⟨[],[],[4]⟩]) (fun g=>hX sA _ [⟨[],[],[4]⟩]))
    (fun x=>by cases x with | r0 f=>exact th [.bool false f])
def fq:Option bP→Bool
  | some _=>true
  | none=>false
def fQ:Option bP→Bool
  | some (.r0 x)=>x
  | _=>false
theorem qn{x:Option bP}(h:fq x=true) :x=some (.r0 (fQ x)):=by
  unfold fq at h
  split at h<;>first | rfl | (cases h;done) | (rename_i y;cases y;rfl)
def mp:bi:=gq mi (.cons (.agg (.cons .fl (.cons .fl .nil))) (.cons (.int .i64) .nil)) fun t=>(fun q=>[⟨iV (.r0 (fQ q)),[fq q]⟩]) (dn t.1.1.2 t.1.2.1.2 t.2.1)
theorem nZ:bu prog mp:=cj fun t=>(ck (fun h=>qm t.1.1.1 t.1.1.2 t.1.2.1.1 t.1.2.1.2 t.2.1 (qn h)) dc)
def mq:List bi:=mp::wR
theorem fR:bm prog (bz mq):=aM nZ sA
inductive bo where
  | r0 (a:Bool)
def jL:bo→AE×aG
  | .r0 a=>(.ret,⟨a8 18 [(2,.bool false a)],[],0⟩)
theorem n4:oQ jL:=by intro x;cases x<;>(intro h;cases h)
def gG:bo→iw
  | .r0 a=>⟨.bool false a,[]⟩
def n5(a:Bool) :aG:=⟨a8 18 [(2,.bool false a)],[],0⟩
def iW(a:List Nat)(b:List Nat) :T ((Bool)⊕(bo)) :=
  .ask (decide ((((List.length a):Nat):Int)≤(512:Int)))
    (.need (lb .i64 ((((List.length a):Nat):Int)-(1:Int)))<|.leaf (.inl ((((List.length b):Nat):Int)==(ve ((((List.length a):Nat):Int)-(1:Int)) (0:Int)))))
    (.leaf (.inl false))
def n6(a:Bool) :T ((Empty)⊕(bo)) :=
  .leaf (.inr (.r0 a))
def bT(a:List Nat)(b:List Nat) :Option bo:=sx (cz ((iW a b).run) fun c =>
  (n6 c).run)
theorem n7(c:Lv)(a:List Nat)(d:Lv)(b:List Nat){x:bo}(h:bT a b=some x) :ag prog jJ [] [.agg [.imm c (.fl a) 1 1 0 (List.length a),.imm d (.fl b) 1 1 0 (List.length b)]] (gG x) :=
  uW false gG jL h (Sg.cut 2 n4 (hX fR n5 [⟨[],[],[2]⟩,⟨[],[],[2]⟩]) (fun f=>hX fR _ [⟨[],[],[2]⟩]))
    (fun x=>by cases x with | r0 e=>exact th [.bool false e])
def cA:Option bo→Bool
  | some _=>true
  | none=>false
def cJ:Option bo→Bool
  | some (.r0 x)=>x
  | _=>false
theorem n8{x:Option bo}(h:cA x=true) :x=some (.r0 (cJ x)):=by
  unfold cA at h
  split at h<;>first | rfl | (cases h;done) | (rename_i y;cases y;rfl)
def jM:bi:=gq jJ (.cons (.agg (.cons .fl (.cons .fl .nil))) .nil) fun t=>(fun q=>[⟨gG (.r0 (cJ q)),[cA q]⟩]) (bT t.1.1.2 t.1.2.1.2)
theorem lH:bu prog jM:=cj fun t=>(ck (fun h=>n7 t.1.1.1 t.1.1.2 t.1.2.1.1 t.1.2.1.2 (n8 h)) dc)
def jN:List bi:=jM::mq
theorem cK:bm prog (bz jN):=aM lH fR
inductive ah where
  | r0 (a:Int)
def aJ:ah→AE×aG
  | .r0 a=>(.ret,⟨a8 19 [(4,.int .i64 a)],[],0⟩)
theorem aZ:oQ aJ:=by intro x;cases x<;>(intro h;cases h)
theorem cL(id:Nat) :rz id aJ:=by intro x;cases x<;>(intro h;cases h)
def a9:ah→iw
  | .r0 a=>⟨.int .i64 a,[]⟩
def cM:List Code:=dI (qf dh)
def cN(b:Lv)(a:List Nat)(_:Unit) :aG:=⟨a8 19 [(0,.imm b (.fl a) 1 1 0 (List.length a)),(1,.fn (.func cI) [] []),(7,.int .i64 (((List.length a):Nat):Int)),(8,.int .i64 (0:Int))],[],0⟩
def cO:T ((Unit)⊕(ah)) :=
  .leaf (.inl ())
def a4(b:Lv)(a:List Nat)(c:Nat) :aG:=⟨a8 19 [(0,.imm b (.fl a) 1 1 0 (List.length a)),(1,.fn (.func cI) [] []),(7,.int .i64 (((List.length a):Nat):Int)),(8,.int .i64 ((c:Nat):Int))],[],0⟩
def bv(_:Unit) :aG:=⟨a8 19 [],[],0⟩
def cP:List Code:=dI (kb ((((cM.drop 2).take 1)).headD .skip))
def az(b:List Nat)(a:Nat) :T ((Nat)⊕((Unit)⊕(ah))) :=
  .ask (decide (((a:Nat):Int)<(((List.length b):Nat):Int)))
    (.need (mw ((a:Nat):Int) (List.length b))<|.need (gd a (List.length b))<|.ask (kg (List.getD b a 0) (List.getD b a 0))
      (.leaf (.inr (.inr (.r0 ((a:Nat):Int)))))
      (.ask ((0:Int)==(0:Int))
        (.ask (vR (b4 (List.getD b a 0)) 9218868437227405311)
          (.leaf (.inr (.inr (.r0 ((a:Nat):Int)))))
          (.need (lb .i64 (((a+1):Nat):Int))<|.leaf (.inl (a+1))))
        (.fail)))
    (.leaf (.inr (.inl ())))
def aI(a:List Nat) :Nat→Option ((Nat)⊕((Unit)⊕(ah))):=fun b =>
  (az a b).run
theorem cB(b:Lv)(a:List Nat)(c:Nat) :Sg prog [] cP (a4 b a c) (aI a c) (a4 b a) (gu 0 bv aJ):=by
  unfold aI;exact hX cK _ [⟨[],[],[4]⟩,⟨[],[],[4]⟩,⟨[],[],[0,1,7,8]⟩,⟨[],[],[]⟩]
def cC:T ((Empty)⊕(ah)) :=
  .leaf (.inr (.r0 (-1:Int)))
def ao(a:List Nat) :Option ah:=sx (cz ((cO).run) fun _ =>
  cz (c6 (aI a) 0) fun _ =>
  (cC).run)
theorem cQ(b:Lv)(a:List Nat){x:ah}(h:ao a=some x) :ag prog dh [] [.imm b (.fl a) 1 1 0 (List.length a),.fn (.func cI) [] []] (a9 x) :=
  uW false a9 aJ h (Sg.cut 2 aZ (hX cK (cN b a) [⟨[],[],[0,1,7,8]⟩]) (fun _=>Sg.cut 1 aZ (wv ⟨[],[],[0,1,7,8]⟩ (a4 b a) (bv) 0 aZ (cL _) (fun c=>cB b a c)) (fun _=>hX cK _ [⟨[],[],[4]⟩])))
    (fun x=>by cases x with | r0 d=>exact th [.int .i64 d])
def aA:Option ah→Bool
  | some _=>true
  | none=>false
def aq:Option ah→Int
  | some (.r0 x)=>x
  | _=>0
theorem cR{x:Option ah}(h:aA x=true) :x=some (.r0 (aq x)):=by
  unfold aA at h
  split at h<;>first | rfl | (cases h;done) | (rename_i y;cases y;rfl)
def bA:bi:=gq dh (.cons .fl (.cons (.fn cI .nil .nil) .nil)) fun t=>(fun q=>[⟨a9 (.r0 (aq q)),[aA q]⟩]) (ao t.1.2)
theorem cu:bu prog bA:=cj fun t=>(ck (fun h=>cQ t.1.1 t.1.2 (cR h)) dc)
def bB:List bi:=bA::jN
theorem aR:bm prog (bz bB):=aM cu cK
inductive bp where
  | r0 (a:Nat)
def jO:bp→AE×aG
  | .r0 a=>(.ret,⟨a8 18 [(2,.int .i64 ((a:Nat):Int))],[],0⟩)
theorem n9:oQ jO:=by intro x;cases x<;>(intro h;cases h)
def gH:bp→iw
  | .r0 a=>⟨.int .i64 ((a:Nat):Int),[]⟩
def oa(_:Unit) :aG:=⟨a8 18 [],[],0⟩
def fS(a:List Nat)(b:List Nat) :T ((Unit)⊕(bp)) :=
  .need (bM 0 (List.length a) a)<|.need (bM 0 (List.length b) b)<|.need (cA (bT (ai 0 (List.length a) a) (ai 0 (List.length b) b)))<|.ask (!(cJ (bT (ai 0 (List.length a) a) (ai 0 (List.length b) b))))
    (.leaf (.inr (.r0 2)))
    (.need (bM 0 (List.length a) a)<|.need (aA (ao (ai 0 (List.length a) a)))<|.ask (!(!(decide ((aq (ao (ai 0 (List.length a) a)))≥(0:Int)))))
      (.leaf (.inr (.r0 10)))
      (.need (bM 0 (List.length b) b)<|.need (aA (ao (ai 0 (List.length b) b)))<|.ask (!(!(decide ((aq (ao (ai 0 (List.length b) b)))≥(0:Int)))))
        (.leaf (.inr (.r0 10)))
        (.leaf (.inl ()))))
def oc:T ((Empty)⊕(bp)) :=
  .leaf (.inr (.r0 0))
def c7(a:List Nat)(b:List Nat) :Option bp:=sx (cz ((fS a b).run) fun _ =>
  (oc).run)
theorem od(c:Lv)(a:List Nat)(d:Lv)(b:List Nat){x:bp}(h:c7 a b=some x) :ag prog jK [] [.agg [.imm c (.fl a) 1 1 0 (List.length a),.imm d (.fl b) 1 1 0 (List.length b)]] (gH x) :=
  uW false gH jO h (Sg.cut 2 n9 (hX aR oa [⟨[],[],[2]⟩,⟨[],[],[2]⟩,⟨[],[],[2]⟩,⟨[],[],[]⟩]) (fun _=>hX aR _ [⟨[],[],[2]⟩]))
    (fun x=>by cases x with | r0 e=>exact th [.int .i64 ((e:Nat):Int)])
def dA:Option bp→Bool
  | some _=>true
  | none=>false
def dU:Option bp→Nat
  | some (.r0 x)=>x
  | _=>0
theorem oe{x:Option bp}(h:dA x=true) :x=some (.r0 (dU x)):=by
  unfold dA at h
  split at h<;>first | rfl | (cases h;done) | (rename_i y;cases y;rfl)
def jP:bi:=gq jK (.cons (.agg (.cons .fl (.cons .fl .nil))) .nil) fun t=>(fun q=>[⟨gH (.r0 (dU q)),[dA q]⟩]) (c7 t.1.1.2 t.1.2.1.2)
theorem lI:bu prog jP:=cj fun t=>(ck (fun h=>od t.1.1.1 t.1.1.2 t.1.2.1.1 t.1.2.1.2 (oe h)) dc)
def jQ:List bi:=jP::bB
theorem dV:bm prog (bz jQ):=aM lI aR
inductive aF where
  | r0 (a:Nat) (b:Nat) (c:Nat) (d:Nat) (e:Nat) (f:List Nat) (g:List Nat) (h:List Nat) (i:List Nat)
def kQ:aF→AE×aG
  | .r0 e a b c d f g h i=>(.ret,⟨a8 65 [(2,.ptr 0 1 0 0),(3,.ptr 1 1 0 0),(4,.flt false e)],[(0,.vs [.sl 2 1 1 0 a a,.sl 3 1 1 0 b b]),(1,.vs [.sl 4 1 1 0 c c,.sl 5 1 1 0 d d]),(2,.fl f),(3,.fl g),(4,.fl h),(5,.fl i)],6⟩)
theorem oR:oQ kQ:=by intro x;cases x<;>(intro h;cases h)
def hY:aF→iw
  | .r0 e a b c d f g h i=>⟨.tup [.agg [.sl 0 1 1 0 a a,.sl 1 1 1 0 b b],.agg [.sl 2 1 1 0 c c,.sl 3 1 1 0 d d],.flt false e],[some (.fl f),some (.fl g),some (.fl h),some (.fl i)]⟩
def oS:Nat×Nat×Nat×Nat×Nat×(List Nat)×(List Nat)×(List Nat)×(List Nat)→aG:=fun (e,a,b,c,d,f,g,h,i)=>⟨a8 65 [(2,.ptr 0 1 0 0),(3,.ptr 1 1 0 0),(6,.flt false e),(7,.ptr 2 1 0 0),(8,.ptr 3 1 0 0)],[(0,.vs [.nsl,.nsl]),(1,.vs [.nsl,.nsl]),(2,.vs [.sl 4 1 1 0 a a,.sl 5 1 1 0 b b]),(3,.vs [.sl 6 1 1 0 c c,.sl 7 1 1 0 d d]),(4,.fl f),(5,.fl g),(6,.fl h),(7,.fl i)],8⟩
def jR(a:List Nat)(b:List Nat) :T ((Nat×Nat×Nat×Nat×Nat×(List Nat)×(List Nat)×(List Nat)×(List Nat))⊕(aF)) :=
  .need ((2:Int) != (0:Int))<|.need (lb .i64 (Int.tdiv (((List.length a):Nat):Int) (2:Int)))<|.need (lb .i64 ((Int.tdiv (((List.length a):Nat):Int) (2:Int))-(1:Int)))<|.need (mw ((Int.tdiv (((List.length a):Nat):Int) (2:Int))-(1:Int)) (List.length b))<|.need (gd (Int.toNat ((Int.tdiv (((List.length a):Nat):Int) (2:Int))-(1:Int))) (List.length b))<|.need (kf (Int.tdiv (((List.length a):Nat):Int) (2:Int)) (List.length a))<|.need (kf (0:Int) (Int.toNat (Int.tdiv (((List.length a):Nat):Int) (2:Int))))<|.need (bM 0 (Int.toNat (Int.tdiv (((List.length a):Nat):Int) (2:Int))) a)<|.need (mn (List.length (ai 0 (Int.toNat (Int.tdiv (((List.length a):Nat):Int) (2:Int))) a)))<|.need (lb .i64 ((Int.tdiv (((List.length a):Nat):Int) (2:Int))-(1:Int)))<|.need (kf ((Int.tdiv (((List.length a):Nat):Int) (2:Int))-(1:Int)) (List.length b))<|.need (kf (0:Int) (Int.toNat ((Int.tdiv (((List.length a):Nat):Int) (2:Int))-(1:Int))))<|.need (bM 0 (Int.toNat ((Int.tdiv (((List.length a):Nat):Int) (2:Int))-(1:Int))) b)<|.need (mn (List.length (ai 0 (Int.toNat ((Int.tdiv (((List.length a):Nat):Int) (2:Int))-(1:Int))) b)))<|.need (kf (((List.length a):Nat):Int) (List.length a))<|.need (kf (Int.tdiv (((List.length a):Nat):Int) (2:Int)) (List.length a))<|.need (bM (Int.toNat (Int.tdiv (((List.length a):Nat):Int) (2:Int))) ((List.length a)-(Int.toNat (Int.tdiv (((List.length a):Nat):Int) (2:Int)))) a)<|.need (mn (List.length (ai (Int.toNat (Int.tdiv (((List.length a):Nat):Int) (2:Int))) ((List.length a)-(Int.toNat (Int.tdiv (((List.length a):Nat):Int) (2:Int)))) a)))<|.need (kf (((List.length b):Nat):Int) (List.length b))<|.need (kf (Int.tdiv (((List.length a):Nat):Int) (2:Int)) (List.length b))<|.need (bM (Int.toNat (Int.tdiv (((List.length a):Nat):Int) (2:Int))) ((List.length b)-(Int.toNat (Int.tdiv (((List.length a):Nat):Int) (2:Int)))) b)<|.need (mn (List.length (ai (Int.toNat (Int.tdiv (((List.length a):Nat):Int) (2:Int))) ((List.length b)-(Int.toNat (Int.tdiv (((List.length a):Nat):Int) (2:Int)))) b)))<|.ask (kg (List.getD b (Int.toNat ((Int.tdiv (((List.length a):Nat):Int) (2:Int))-(1:Int))) 0) 0)
    (.need (lb .i64 ((Int.tdiv (((List.length a):Nat):Int) (2:Int))-(1:Int)))<|.need (mw ((Int.tdiv (((List.length a):Nat):Int) (2:Int))-(1:Int)) (List.length (ai 0 (Int.toNat (Int.tdiv (((List.length a):Nat):Int) (2:Int))) a)))<|.need (gd (Int.toNat ((Int.tdiv (((List.length a):Nat):Int) (2:Int))-(1:Int))) (List.length (ai 0 (Int.toNat (Int.tdiv (((List.length a):Nat):Int) (2:Int))) a)))<|.need (mw ((Int.tdiv (((List.length a):Nat):Int) (2:Int))-(1:Int)) (List.length (ai 0 (Int.toNat (Int.tdiv (((List.length a):Nat):Int) (2:Int))) a)))<|.need (gd (Int.toNat ((Int.tdiv (((List.length a):Nat):Int) (2:Int))-(1:Int))) (List.length (ai 0 (Int.toNat (Int.tdiv (((List.length a):Nat):Int) (2:Int))) a)))<|.need (mw (0:Int) (List.length (ai (Int.toNat (Int.tdiv (((List.length a):Nat):Int) (2:Int))) ((List.length a)-(Int.toNat (Int.tdiv (((List.length a):Nat):Int) (2:Int)))) a)))<|.need (gd 0 (List.length (ai (Int.toNat (Int.tdiv (((List.length a):Nat):Int) (2:Int))) ((List.length a)-(Int.toNat (Int.tdiv (((List.length a):Nat):Int) (2:Int)))) a)))<|.need (mw (0:Int) (List.length (ai (Int.toNat (Int.tdiv (((List.length a):Nat):Int) (2:Int))) ((List.length a)-(Int.toNat (Int.tdiv (((List.length a):Nat):Int) (2:Int)))) a)))<|.need (gd 0 (List.length (ai (Int.toNat (Int.tdiv (((List.length a):Nat):Int) (2:Int))) ((List.length a)-(Int.toNat (Int.tdiv (((List.length a):Nat):Int) (2:Int)))) a)))<|.leaf (.inl ((List.getD b (Int.toNat ((Int.tdiv (((List.length a):Nat):Int) (2:Int))-(1:Int))) 0),(List.length (ai 0 (Int.toNat (Int.tdiv (((List.length a):Nat):Int) (2:Int))) a)),(List.length (ai 0 (Int.toNat ((Int.tdiv (((List.length a):Nat):Int) (2:Int))-(1:Int))) b)),(List.length (ai (Int.toNat (Int.tdiv (((List.length a):Nat):Int) (2:Int))) ((List.length a)-(Int.toNat (Int.tdiv (((List.length a):Nat):Int) (2:Int)))) a)),(List.length (ai (Int.toNat (Int.tdiv (((List.length a):Nat):Int) (2:Int))) ((List.length b)-(Int.toNat (Int.tdiv (((List.length a):Nat):Int) (2:Int)))) b)),(List.set (ai 0 (Int.toNat (Int.tdiv (((List.length a):Nat):Int) (2:Int))) a) (Int.toNat ((Int.tdiv (((List.length a):Nat):Int) (2:Int))-(1:Int))) (f4 (List.getD (ai 0 (Int.toNat (Int.tdiv (((List.length a):Nat):Int) (2:Int))) a) (Int.toNat ((Int.tdiv (((List.length a):Nat):Int) (2:Int))-(1:Int))) 0) (b4 (List.getD b (Int.toNat ((Int.tdiv (((List.length a):Nat):Int) (2:Int))-(1:Int))) 0)))),(ai 0 (Int.toNat ((Int.tdiv (((List.length a):Nat):Int) (2:Int))-(1:Int))) b),(List.set (ai (Int.toNat (Int.tdiv (((List.length a):Nat):Int) (2:Int))) ((List.length a)-(Int.toNat (Int.tdiv (((List.length a):Nat):Int) (2:Int)))) a) 0 (f4 (List.getD (ai (Int.toNat (Int.tdiv (((List.length a):Nat):Int) (2:Int))) ((List.length a)-(Int.toNat (Int.tdiv (((List.length a):Nat):Int) (2:Int)))) a) 0 0) (b4 (List.getD b (Int.toNat ((Int.tdiv (((List.length a):Nat):Int) (2:Int))-(1:Int))) 0)))),(ai (Int.toNat (Int.tdiv (((List.length a):Nat):Int) (2:Int))) ((List.length b)-(Int.toNat (Int.tdiv (((List.length a):Nat):Int) (2:Int)))) b))))
    (.leaf (.inl ((List.getD b (Int.toNat ((Int.tdiv (((List.length a):Nat):Int) (2:Int))-(1:Int))) 0),(List.length (ai 0 (Int.toNat (Int.tdiv (((List.length a):Nat):Int) (2:Int))) a)),(List.length (ai 0 (Int.toNat ((Int.tdiv (((List.length a):Nat):Int) (2:Int))-(1:Int))) b)),(List.length (ai (Int.toNat (Int.tdiv (((List.length a):Nat):Int) (2:Int))) ((List.length a)-(Int.toNat (Int.tdiv (((List.length a):Nat):Int) (2:Int)))) a)),(List.length (ai (Int.toNat (Int.tdiv (((List.length a):Nat):Int) (2:Int))) ((List.length b)-(Int.toNat (Int.tdiv (((List.length a):Nat):Int) (2:Int)))) b)),(ai 0 (Int.toNat (Int.tdiv (((List.length a):Nat):Int) (2:Int))) a),(ai 0 (Int.toNat ((Int.tdiv (((List.length a):Nat):Int) (2:Int))-(1:Int))) b),(ai (Int.toNat (Int.tdiv (((List.length a):Nat):Int) (2:Int))) ((List.length a)-(Int.toNat (Int.tdiv (((List.length a):Nat):Int) (2:Int)))) a),(ai (Int.toNat (Int.tdiv (((List.length a):Nat):Int) (2:Int))) ((List.length b)-(Int.toNat (Int.tdiv (((List.length a):Nat):Int) (2:Int)))) b))))
def oT(a:Nat)(b:Nat)(c:Nat)(d:Nat)(e:Nat)(f:List Nat)(g:List Nat)(h:List Nat)(i:List Nat) :T ((Empty)⊕(aF)) :=
  .leaf (.inr (.r0 a b c d e f g h i))
def a5(a:List Nat)(b:List Nat) :Option aF:=sx (cz ((jR a b).run) fun (c,d,e,f,g,h,i,j,k) =>
  (oT c d e f g h i j k).run)
theorem oU(g:Lv)(a:List Nat)(i:Lv)(b:List Nat){x:aF}(h:a5 a b=some x) :ag prog kO [] [.agg [.imm g (.fl a) 1 1 0 (List.length a),.imm i (.fl b) 1 1 0 (List.length b)]] (hY x) :=
  uW false hY kQ h (Sg.cut 7 oR (hX dV oS [⟨[],[16,32,448,656,320,416,544,624],[2,3,6,7,8]⟩,⟨[],[16,32,448,656,320,416,544,624],[2,3,6,7,8]⟩]) (fun ⟨k,l,m,n,o,p,q,r,s⟩=>hX dV _ [⟨[],[0,1,4,5,6,7],[2,3,4]⟩]))
    (fun x=>by cases x with | r0 j c d e f t u v w=>exact th [.agg [.sl 2 1 1 0 c c,.sl 3 1 1 0 d d],.agg [.sl 4 1 1 0 e e,.sl 5 1 1 0 f f],.flt false j])
def eh:Option aF→Bool
  | some _=>true
  | none=>false
def eF:Option aF→Nat
  | some (.r0 x _ _ _ _ _ _ _ _)=>x
  | _=>0
def eG:Option aF→Nat
  | some (.r0 _ x _ _ _ _ _ _ _)=>x
  | _=>0
def eH:Option aF→Nat
  | some (.r0 _ _ x _ _ _ _ _ _)=>x
  | _=>0
def eI:Option aF→Nat
  | some (.r0 _ _ _ x _ _ _ _ _)=>x
  | _=>0
def eJ:Option aF→Nat
  | some (.r0 _ _ _ _ x _ _ _ _)=>x
  | _=>0
def eK:Option aF→List Nat
  | some (.r0 _ _ _ _ _ x _ _ _)=>x
  | _=>[]
def eL:Option aF→List Nat
  | some (.r0 _ _ _ _ _ _ x _ _)=>x
  | _=>[]
def eM:Option aF→List Nat
  | some (.r0 _ _ _ _ _ _ _ x _)=>x
  | _=>[]
def eN:Option aF→List Nat
  | some (.r0 _ _ _ _ _ _ _ _ x)=>x
  | _=>[]
theorem oV{x:Option aF}(h:eh x=true) :x=some (.r0 (eF x) (eG x) (eH x) (eI x) (eJ x) (eK x) (eL x) (eM x) (eN x)):=by
  unfold eh at h
  split at h<;>first | rfl | (cases h;done) | (rename_i y;cases y;rfl)
def kR:bi:=gq kO (.cons (.agg (.cons .fl (.cons .fl .nil))) .nil) fun t=>(fun q=>[⟨hY (.r0 (eF q) (eG q) (eH q) (eI q) (eJ q) (eK q) (eL q) (eM q) (eN q)),[eh q]⟩]) (a5 t.1.1.2 t.1.2.1.2)
theorem mE:bu prog kR:=cj fun t=>(ck (fun h=>oU t.1.1.1 t.1.1.2 t.1.2.1.1 t.1.2.1.2 (oV h)) dc)
def kS:List bi:=kR::jQ
theorem cm:bm prog (bz kS):=aM mE dV
inductive aB where
  | r0 (a:Nat) (b:Nat) (c:Nat) (d:Nat) (e:Nat) (f:Nat) (g:List Nat) (h:List Nat) (i:List Nat) (j:List Nat)
def kT:aB→AE×aG
  | .r0 e f a b c d g h i j=>(.ret,⟨a8 37 [(2,.ptr 0 1 0 0),(3,.ptr 1 1 0 0),(4,.flt false e),(5,.int .i64 ((f:Nat):Int))],[(0,.vs [.sl 2 1 1 0 a a,.sl 3 1 1 0 b b]),(1,.vs [.sl 4 1 1 0 c c,.sl 5 1 1 0 d d]),(2,.fl g),(3,.fl h),(4,.fl i),(5,.fl j)],6⟩)
theorem gI:oQ kT:=by intro x;cases x<;>(intro h;cases h)
def hZ:aB→iw
  | .r0 a b c d e f g h i j=>⟨.tup [.agg [.imm .free (.fl g) 1 1 0 c,.imm .free (.fl h) 1 1 0 d],.agg [.imm .free (.fl i) 1 1 0 e,.imm .free (.fl j) 1 1 0 f],.flt false a,.int .i64 ((b:Nat):Int)],[]⟩
def oW(c:Lv)(a:List Nat)(d:Lv)(b:List Nat)(e:Bool) :aG:=⟨a8 37 [(1,.ptr 0 1 0 0),(2,.ptr 1 1 0 0),(3,.ptr 2 1 0 0),(18,.bool false e)],[(0,.vs [.imm c (.fl a) 1 1 0 (List.length a),.imm d (.fl b) 1 1 0 (List.length b)]),(1,.vs [.nsl,.nsl]),(2,.vs [.nsl,.nsl])],3⟩
def ei(a:List Nat)(b:List Nat) :T ((Bool)⊕(aB)) :=
  .need (bM 0 (List.length a) a)<|.need (bM 0 (List.length b) b)<|.need (cA (bT (ai 0 (List.length a) a) (ai 0 (List.length b) b)))<|.ask (!(cJ (bT (ai 0 (List.length a) a) (ai 0 (List.length b) b))))
    (.leaf (.inl true))
    (.leaf (.inl (decide ((((List.length a):Nat):Int)<(3:Int)))))
def oX(c:Lv)(a:List Nat)(d:Lv)(b:List Nat)(e:Nat) :aG:=⟨a8 37 [(1,.ptr 0 1 0 0),(2,.ptr 1 1 0 0),(3,.ptr 2 1 0 0),(6,.int .i64 ((e:Nat):Int))],[(0,.vs [.imm c (.fl a) 1 1 0 (List.length a),.imm d (.fl b) 1 1 0 (List.length b)]),(1,.vs [.nsl,.nsl]),(2,.vs [.nsl,.nsl])],3⟩
def c8(a:List Nat)(b:List Nat)(c:Bool) :T ((Nat)⊕(aB)) :=
  .ask c
    (.leaf (.inr (.r0 0 2 0 0 0 0 ([]:List Nat) ([]:List Nat) ([]:List Nat) ([]:List Nat))))
    (.need (bM 0 (List.length a) a)<|.need (bM 0 (List.length b) b)<|.need (dA (c7 (ai 0 (List.length a) a) (ai 0 (List.length b) b)))<|.leaf (.inl (dU (c7 (ai 0 (List.length a) a) (ai 0 (List.length b) b)))))
def oY:Nat×Nat×Nat×Nat×Nat×(List Nat)×(List Nat)×(List Nat)×(List Nat)→aG:=fun (e,a,b,c,d,f,g,h,i)=>⟨a8 37 [(2,.ptr 0 1 0 0),(3,.ptr 1 1 0 0),(7,.ptr 2 1 0 0),(8,.ptr 3 1 0 0),(9,.flt false e)],[(0,.vs [.nsl,.nsl]),(1,.vs [.nsl,.nsl]),(2,.vs [.sl 4 1 1 0 a a,.sl 5 1 1 0 b b]),(3,.vs [.sl 6 1 1 0 c c,.sl 7 1 1 0 d d]),(4,.fl f),(5,.fl g),(6,.fl h),(7,.fl i)],8⟩
def gJ(a:List Nat)(b:List Nat)(c:Nat) :T ((Nat×Nat×Nat×Nat×Nat×(List Nat)×(List Nat)×(List Nat)×(List Nat))⊕(aB)) :=
  .ask (((c:Nat):Int) != (0:Int))
    (.leaf (.inr (.r0 0 c 0 0 0 0 ([]:List Nat) ([]:List Nat) ([]:List Nat) ([]:List Nat))))
    (.need (bM 0 (List.length a) a)<|.need (bM 0 (List.length b) b)<|.need (eh (a5 (ai 0 (List.length a) a) (ai 0 (List.length b) b)))<|.leaf (.inl ((eF (a5 (ai 0 (List.length a) a) (ai 0 (List.length b) b))),(eG (a5 (ai 0 (List.length a) a) (ai 0 (List.length b) b))),(eH (a5 (ai 0 (List.length a) a) (ai 0 (List.length b) b))),(eI (a5 (ai 0 (List.length a) a) (ai 0 (List.length b) b))),(eJ (a5 (ai 0 (List.length a) a) (ai 0 (List.length b) b))),(eK (a5 (ai 0 (List.length a) a) (ai 0 (List.length b) b))),(eL (a5 (ai 0 (List.length a) a) (ai 0 (List.length b) b))),(eM (a5 (ai 0 (List.length a) a) (ai 0 (List.length b) b))),(eN (a5 (ai 0 (List.length a) a) (ai 0 (List.length b) b))))))
def oZ(a:Nat)(b:Nat)(c:Nat)(d:Nat)(e:Nat)(f:List Nat)(g:List Nat)(h:List Nat)(i:List Nat) :T ((Empty)⊕(aB)) :=
  .leaf (.inr (.r0 a 0 b c d e f g h i))
def aK(a:List Nat)(b:List Nat) :Option aB:=sx (cz ((ei a b).run) fun c =>
  cz ((c8 a b c).run) fun d =>
  cz ((gJ a b d).run) fun (e,f,g,h,i,j,k,l,m) =>
  (oZ e f g h i j k l m).run)
theorem o0(c:Lv)(a:List Nat)(d:Lv)(b:List Nat){x:aB}(h:aK a b=some x) :ag prog hP [] [.agg [.imm c (.fl a) 1 1 0 (List.length a),.imm d (.fl b) 1 1 0 (List.length b)]] (hZ x) :=
  uW true hZ kT h (Sg.cut 2 gI (hX cm (oW c a d b) [⟨[],[0,16,32],[1,2,3,18]⟩,⟨[],[0,16,32],[1,2,3,18]⟩]) (fun l=>Sg.cut 2 gI (hX cm (oX c a d b) [⟨[(.cell 1 0,.own 1 1 (.fl ([]:List Nat))),(.cell 1 1,.own 1 1 (.fl ([]:List Nat))),(.cell 2 0,.own 1 1 (.fl ([]:List Nat))),(.cell 2 1,.own 1 1 (.fl ([]:List Nat)))],[1,2,99,100,101,102],[2,3,4,5]⟩,⟨[],[0,1,2],[1,2,3,6]⟩]) (fun m=>Sg.cut 3 gI (hX cm oY [⟨[(.cell 1 0,.own 1 1 (.fl ([]:List Nat))),(.cell 1 1,.own 1 1 (.fl ([]:List Nat))),(.cell 2 0,.own 1 1 (.fl ([]:List Nat))),(.cell 2 1,.own 1 1 (.fl ([]:List Nat)))],[1,2,147,148,149,150],[2,3,4,5]⟩,⟨[],[1,2,131,147,51,52,53,54],[2,3,7,8,9]⟩]) (fun ⟨n,o,p,q,r,s,t,u,v⟩=>hX cm _ [⟨[],[0,1,4,5,6,7],[2,3,4,5]⟩]))))
    (fun x=>by cases x with | r0 j k e f g i w y z A=>exact th [.agg [.sl 2 1 1 0 e e,.sl 3 1 1 0 f f],.agg [.sl 4 1 1 0 g g,.sl 5 1 1 0 i i],.flt false j,.int .i64 ((k:Nat):Int)])
def ej:Option aB→Bool
  | some _=>true
  | none=>false
def eO:Option aB→Nat
  | some (.r0 x _ _ _ _ _ _ _ _ _)=>x
  | _=>0
def eP:Option aB→Nat
  | some (.r0 _ x _ _ _ _ _ _ _ _)=>x
  | _=>0
def eQ:Option aB→Nat
  | some (.r0 _ _ x _ _ _ _ _ _ _)=>x
  | _=>0
def eR:Option aB→Nat
  | some (.r0 _ _ _ x _ _ _ _ _ _)=>x
  | _=>0
def eS:Option aB→Nat
  | some (.r0 _ _ _ _ x _ _ _ _ _)=>x
  | _=>0
def eT:Option aB→Nat
  | some (.r0 _ _ _ _ _ x _ _ _ _)=>x
  | _=>0
def eU:Option aB→List Nat
  | some (.r0 _ _ _ _ _ _ x _ _ _)=>x
  | _=>[]
def eV:Option aB→List Nat
  | some (.r0 _ _ _ _ _ _ _ x _ _)=>x
  | _=>[]
def eW:Option aB→List Nat
  | some (.r0 _ _ _ _ _ _ _ _ x _)=>x
  | _=>[]
def eX:Option aB→List Nat
  | some (.r0 _ _ _ _ _ _ _ _ _ x)=>x
  | _=>[]
theorem o5{x:Option aB}(h:ej x=true) :x=some (.r0 (eO x) (eP x) (eQ x) (eR x) (eS x) (eT x) (eU x) (eV x) (eW x) (eX x)):=by
  unfold ej at h
  split at h<;>first | rfl | (cases h;done) | (rename_i y;cases y;rfl)
def kU:bi:=gq hP (.cons (.agg (.cons .fl (.cons .fl .nil))) .nil) fun t=>(fun q=>[⟨hZ (.r0 (eO q) (eP q) (eQ q) (eR q) (eS q) (eT q) (eU q) (eV q) (eW q) (eX q)),[ej q]⟩]) (aK t.1.1.2 t.1.2.1.2)
theorem mF:bu prog kU:=cj fun t=>(ck (fun h=>o0 t.1.1.1 t.1.1.2 t.1.2.1.1 t.1.2.1.2 (o5 h)) dc)
def kV:List bi:=kU::kS
theorem de:bm prog (bz kV):=aM mF cm
inductive aN where
  | r0 (a:Bool)
def df:aN→AE×aG
  | .r0 a=>(.ret,⟨a8 27 [(4,.bool false a)],[],0⟩)
theorem dW:oQ df:=by intro x;cases x<;>(intro h;cases h)
theorem lJ(id:Nat) :rz id df:=by intro x;cases x<;>(intro h;cases h)
def eY:aN→iw
  | .r0 a=>⟨.bool false a,[]⟩
def lK:List Code:=dI (qf eE)
def lL(c:Lv)(a:List Nat)(d:Lv)(b:List Nat)(_:Unit) :aG:=⟨a8 27 [(0,.imm c (.fl a) 1 1 0 (List.length a)),(1,.imm d (.fl b) 1 1 0 (List.length b)),(5,.int .i64 (0:Int))],[],0⟩
def lM(a:List Nat)(b:List Nat) :T ((Unit)⊕(aN)) :=
  .ask ((((List.length a):Nat):Int) != (((List.length b):Nat):Int))
    (.leaf (.inr (.r0 false)))
    (.leaf (.inl ()))
def dX(c:Lv)(a:List Nat)(d:Lv)(b:List Nat)(e:Nat) :aG:=⟨a8 27 [(0,.imm c (.fl a) 1 1 0 (List.length a)),(1,.imm d (.fl b) 1 1 0 (List.length b)),(5,.int .i64 ((e:Nat):Int))],[],0⟩
def gR(_:Unit) :aG:=⟨a8 27 [],[],0⟩
def lN:List Code:=dI (kb ((((lK.drop 4).take 1)).headD .skip))
def dY(b:List Nat)(c:List Nat)(a:Nat) :T ((Nat)⊕((Unit)⊕(aN))) :=
  .ask (decide (((a:Nat):Int)<(((List.length b):Nat):Int)))
    (.need (mw ((a:Nat):Int) (List.length b))<|.need (gd a (List.length b))<|.need (mw ((a:Nat):Int) (List.length c))<|.need (gd a (List.length c))<|.ask (!(gl (List.getD b a 0) (List.getD c a 0)))
      (.leaf (.inr (.inr (.r0 false))))
      (.need (lb .i64 (((a+1):Nat):Int))<|.leaf (.inl (a+1))))
    (.leaf (.inr (.inl ())))
def dB(a:List Nat)(b:List Nat) :Nat→Option ((Nat)⊕((Unit)⊕(aN))):=fun c =>
  (dY a b c).run
theorem kW(c:Lv)(a:List Nat)(d:Lv)(b:List Nat)(e:Nat) :Sg prog [] lN (dX c a d b e) (dB a b e) (dX c a d b) (gu 0 gR df):=by
  unfold dB;exact hX de _ [⟨[],[],[4]⟩,⟨[],[],[0,1,5]⟩,⟨[],[],[]⟩]
def kX:T ((Empty)⊕(aN)) :=
  .leaf (.inr (.r0 true))
def aC(a:List Nat)(b:List Nat) :Option aN:=sx (cz ((lM a b).run) fun _ =>
  cz (c6 (dB a b) 0) fun _ =>
  (kX).run)
theorem lO(c:Lv)(a:List Nat)(d:Lv)(b:List Nat){x:aN}(h:aC a b=some x) :ag prog eE [] [.imm c (.fl a) 1 1 0 (List.length a),.imm d (.fl b) 1 1 0 (List.length b)] (eY x) :=
  uW false eY df h (Sg.cut 4 dW (hX de (lL c a d b) [⟨[],[],[4]⟩,⟨[],[],[0,1,5]⟩]) (fun _=>Sg.cut 1 dW (wv ⟨[],[],[0,1,5]⟩ (dX c a d b) (gR) 0 dW (lJ _) (fun e=>kW c a d b e)) (fun _=>hX de _ [⟨[],[],[4]⟩])))
    (fun x=>by cases x with | r0 f=>exact th [.bool false f])
def a6:Option aN→Bool
  | some _=>true
  | none=>false
def aV:Option aN→Bool
  | some (.r0 x)=>x
  | _=>false
theorem lP{x:Option aN}(h:a6 x=true) :x=some (.r0 (aV x)):=by
  unfold a6 at h
  split at h<;>first | rfl | (cases h;done) | (rename_i y;cases y;rfl)
def ik:bi:=gq eE (.cons .fl (.cons .fl .nil)) fun t=>(fun q=>[⟨eY (.r0 (aV q)),[a6 q]⟩]) (aC t.1.2 t.2.1.2)
theorem kd:bu prog ik:=cj fun t=>(ck (fun h=>lO t.1.1 t.1.2 t.2.1.1 t.2.1.2 (lP h)) dc)
def il:List bi:=ik::kV
theorem di:bm prog (bz il):=aM kd de
inductive bQ where
  | r0 (a:Bool)
def mr:bQ→AE×aG
  | .r0 a=>(.ret,⟨a8 31 [(2,.bool false a)],[],0⟩)
theorem qo:oQ mr:=by intro x;cases x<;>(intro h;cases h)
def iX:bQ→iw
  | .r0 a=>⟨.bool false a,[]⟩
def qp(a:Bool) :aG:=⟨a8 31 [(2,.bool false a)],[],0⟩
def kY(a:List Nat)(b:List Nat) :T ((Bool)⊕(bQ)) :=
  .ask (decide ((((List.length a):Nat):Int)≤(512:Int)))
    (.ask ((((List.length a):Nat):Int)==(0:Int))
      (.ask ((((List.length b):Nat):Int)==(0:Int))
        (.leaf (.inl true))
        (.ask (decide ((((List.length a):Nat):Int)>(0:Int)))
          (.need (lb .i64 ((((List.length a):Nat):Int)-(1:Int)))<|.leaf (.inl ((((List.length b):Nat):Int)==((((List.length a):Nat):Int)-(1:Int)))))
          (.leaf (.inl false))))
      (.ask (decide ((((List.length a):Nat):Int)>(0:Int)))
        (.need (lb .i64 ((((List.length a):Nat):Int)-(1:Int)))<|.leaf (.inl ((((List.length b):Nat):Int)==((((List.length a):Nat):Int)-(1:Int)))))
        (.leaf (.inl false))))
    (.leaf (.inl false))
def qq(a:Bool) :T ((Empty)⊕(bQ)) :=
  .leaf (.inr (.r0 a))
def ew(a:List Nat)(b:List Nat) :Option bQ:=sx (cz ((kY a b).run) fun c =>
  (qq c).run)
theorem qr(c:Lv)(a:List Nat)(d:Lv)(b:List Nat){x:bQ}(h:ew a b=some x) :ag prog mj [] [.agg [.imm c (.fl a) 1 1 0 (List.length a),.imm d (.fl b) 1 1 0 (List.length b)]] (iX x) :=
  uW false iX mr h (Sg.cut 3 qo (hX di qp [⟨[],[],[2]⟩,⟨[],[],[2]⟩,⟨[],[],[2]⟩,⟨[],[],[2]⟩,⟨[],[],[2]⟩,⟨[],[],[2]⟩]) (fun f=>hX di _ [⟨[],[],[2]⟩]))
    (fun x=>by cases x with | r0 e=>exact th [.bool false e])
def fu:Option bQ→Bool
  | some _=>true
  | none=>false
def fT:Option bQ→Bool
  | some (.r0 x)=>x
  | _=>false
theorem qs{x:Option bQ}(h:fu x=true) :x=some (.r0 (fT x)):=by
  unfold fu at h
  split at h<;>first | rfl | (cases h;done) | (rename_i y;cases y;rfl)
def mt:bi:=gq mj (.cons (.agg (.cons .fl (.cons .fl .nil))) .nil) fun t=>(fun q=>[⟨iX (.r0 (fT q)),[fu q]⟩]) (ew t.1.1.2 t.1.2.1.2)
theorem og:bu prog mt:=cj fun t=>(ck (fun h=>qr t.1.1.1 t.1.1.2 t.1.2.1.1 t.1.2.1.2 (qs h)) dc)
def mu:List bi:=mt::il
theorem dC:bm prog (bz mu):=aM og di
inductive aW where
  | r0 (a:Bool)
def dD:aW→AE×aG
  | .r0 a=>(.ret,⟨a8 20 [(2,.bool false a)],[],0⟩)
theorem eZ:oQ dD:=by intro x;cases x<;>(intro h;cases h)
theorem mG(id:Nat) :rz id dD:=by intro x;cases x<;>(intro h;cases h)
def fU:aW→iw
  | .r0 a=>⟨.bool false a,[]⟩
def mH:List Code:=dI (qf fP)
def mI(b:Lv)(a:List Nat)(_:Unit) :aG:=⟨a8 20 [(0,.imm b (.fl a) 1 1 0 (List.length a)),(3,.int .i64 (0:Int))],[],0⟩
def mJ:T ((Unit)⊕(aW)) :=
  .leaf (.inl ())
def e7(b:Lv)(a:List Nat)(c:Nat) :aG:=⟨a8 20 [(0,.imm b (.fl a) 1 1 0 (List.length a)),(3,.int .i64 ((c:Nat):Int))],[],0⟩
def im(_:Unit) :aG:=⟨a8 20 [],[],0⟩
def mK:List Code:=dI (kb ((((mH.drop 2).take 1)).headD .skip))
def cn(b:List Nat)(a:Nat) :T ((Nat)⊕((Unit)⊕(aW))) :=
  .ask (decide (((a:Nat):Int)<(((List.length b):Nat):Int)))
    (.need (mw ((a:Nat):Int) (List.length b))<|.need (gd a (List.length b))<|.need (mw ((a:Nat):Int) (List.length b))<|.need (gd a (List.length b))<|.ask (kg (f4 (List.getD b a 0) (List.getD b a 0)) 0)
      (.leaf (.inr (.inr (.r0 false))))
      (.need (lb .i64 (((a+1):Nat):Int))<|.leaf (.inl (a+1))))
    (.leaf (.inr (.inl ())))
def cS(a:List Nat) :Nat→Option ((Nat)⊕((Unit)⊕(aW))):=fun b =>
  (cn a b).run
theorem lQ(b:Lv)(a:List Nat)(c:Nat) :Sg prog [] mK (e7 b a c) (cS a c) (e7 b a) (gu 0 im dD):=by
  unfold cS;exact hX dC _ [⟨[],[],[2]⟩,⟨[],[],[0,3]⟩,⟨[],[],[]⟩]
def lR:T ((Empty)⊕(aW)) :=
  .leaf (.inr (.r0 true))
def bJ(a:List Nat) :Option aW:=sx (cz ((mJ).run) fun _ =>
  cz (c6 (cS a) 0) fun _ =>
  (lR).run)
theorem mL(b:Lv)(a:List Nat){x:aW}(h:bJ a=some x) :ag prog fP [] [.imm b (.fl a) 1 1 0 (List.length a)] (fU x) :=
  uW false fU dD h (Sg.cut 2 eZ (hX dC (mI b a) [⟨[],[],[0,3]⟩]) (fun _=>Sg.cut 1 eZ (wv ⟨[],[],[0,3]⟩ (e7 b a) (im) 0 eZ (mG _) (fun c=>lQ b a c)) (fun _=>hX dC _ [⟨[],[],[2]⟩])))
    (fun x=>by cases x with | r0 d=>exact th [.bool false d])
def co:Option aW→Bool
  | some _=>true
  | none=>false
def ct:Option aW→Bool
  | some (.r0 x)=>x
  | _=>false
theorem mM{x:Option aW}(h:co x=true) :x=some (.r0 (ct x)):=by
  unfold co at h
  split at h<;>first | rfl | (cases h;done) | (rename_i y;cases y;rfl)
def iY:bi:=gq fP (.cons .fl .nil) fun t=>(fun q=>[⟨fU (.r0 (ct q)),[co q]⟩]) (bJ t.1.2)
theorem kZ:bu prog iY:=cj fun t=>(ck (fun h=>mL t.1.1 t.1.2 (mM h)) dc)
def iZ:List bi:=iY::mu
theorem bb:bm prog (bz iZ):=aM kZ dC
end
end Go.Plb.Seat
