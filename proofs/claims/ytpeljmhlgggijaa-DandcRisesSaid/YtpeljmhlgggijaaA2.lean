/-
  Part 2 of what the claim leans on: an evaluator of the model, proved sound; the contracts of the functions.
-/
import GoSem.Extern.MathSqrt
import GoSem.Extern.MathFloatBits
import GoSem.Extern.MathBitsCarry
import Derived.LoopN
import Derived.Scope
import Derived.Laws.Externs
import Derived.WalkKit
import Derived.ProofKit
import Derived.OpenShut
import Derived.Deep.Slices
import Derived.Test.YtpeljmhlgggijaaChecked
import Derived.KernelRfl
import Derived.Test.YtpeljmhlgggijaaA1
namespace Go.Plb
set_option linter.unusedSimpArgs false
set_option linter.unusedVariables false
set_option linter.unusedSectionVars false
variable [Rom]
inductive KU where
  | sqrt | bits | frombits | add64 | sub64
def Jv:KU→Array Value→Sem Value
  | .sqrt=>Extern.MathSqrt.sqrt
  | .bits=>Extern.MathFloatBits.float64bits
  | .frombits=>Extern.MathFloatBits.float64frombits
  | .add64=>fun args=>do
    let (x, y, c) ← Extern.MathBitsCarry.three "Add64" args
    pure (Extern.MathBitsCarry.pair ((x+y+c)%Extern.MathBitsCarry.m64) ((x+y+c)/Extern.MathBitsCarry.m64))
  | .sub64=>fun args=>do
    let (x, y, b) ← Extern.MathBitsCarry.three "Sub64" args
    pure (Extern.MathBitsCarry.pair ((x+Extern.MathBitsCarry.m64-y-b)%Extern.MathBitsCarry.m64) (if x<y+b then 1 else 0))
def We(k:KU)(args:List AV) :List KT :=
  match k,args with
  | .sqrt,[.flt _ x]=>[⟨.flt false (DQ x),[],[]⟩]
  | .bits,[.flt true x]=>[⟨.int .u64 x,[],[]⟩]
  | .bits,[.flt false x]=>[⟨.int .u64 x,[],[!isNaN x]⟩,⟨.nan,[],[isNaN x]⟩]
  | .frombits,[.int .u64 n]=>[⟨.flt true n.toNat,[],[]⟩]
  | .add64,[.int _ x,.int _ y,.int _ c]=>[⟨.tup [.int .u64 (((x.toNat+y.toNat+c.toNat)%18446744073709551616:Nat):Int),.int .u64 (((x.toNat+y.toNat+c.toNat)/18446744073709551616:Nat):Int)],[],[pS c.toNat 1]⟩]
  | .sub64,[.int _ x,.int _ y,.int _ c]=>[⟨.tup [.int .u64 (((x.toNat+18446744073709551616-y.toNat-c.toNat)%18446744073709551616:Nat):Int),.int .u64 (bif Nat.blt x.toNat (y.toNat+c.toNat) then 1 else 0)],[],[pS c.toNat 1]⟩]
  | _,_=>[]
abbrev nC:=Option (List Nat)
structure Ub where
  mask:List Bool
  keep:Bool
abbrev lJ:=FuncId→List aZ→List AV→nC→Option (rF×List Bool×nC)
structure HM where
  P:Program
  ext:FuncId→Option KU
  mode:FuncId→Ub
  wrap:Bool
structure HM.Ok (C:HM):Prop where
  mixed:C.P.follows .mixedOrders=true
  enter:∀ (f:FuncId) (fn:Func) (args:Array Value) (w:World),C.P.funcs[f]? = some fn→fn.body.isSome=true→(callFunc f args).run C.P w=.ok (.enter f args) w
  ext:∀ (f:FuncId) (k:KU) (args:Array Value) (w:World),C.ext f=some k→(callFunc f args).run C.P w=(do pure (Next.value (←Jv k args)):Sem Next).run C.P w
def Mc(P:Program)(run:lJ) :Prop :=
  ∀ f lent args p r obs p',run f lent args p=some (r,obs,p')→aX obs→∀ (ρ:aG) (w:World) (us:List Value),vp ρ w lent→je ρ w args us →
    (∃ fn,P.funcs[f]? = some fn∧fn.body.isSome=true)∧Calls P f us.toArray w fun e w'=>∃ u,e=.returned u∧qO ρ.live w w'∧r.Holds ρ w w' lent.length u
structure WG where
  v:AV
  sets:List (Nat×Option aZ)
  reads:List Nat
  obs:List Bool
  path:nC
def Te:List Bool→Bool
  | []=>true
  | b::l=>b&&Te l
theorem OC:∀ {l:List Bool},Te l=true→aX l
  | [],_=>trivial
  | b::l,h=>by simp only [Te,Bool.and_eq_true] at h;exact ⟨h.1,OC h.2⟩
def LI(alts:List KT)(p:nC) :Option (KT×nC) :=
  match alts,p with
  | [a],p=>some (a,p)
  | alts,none=>(alts.find? fun a=>Te a.obs).map fun a=>(a,none)
  | alts,some (k::r)=>(alts[k]?).map fun a=>(a,some r)
  | _,_=>none
theorem Ks{alts:List KT}{p p':nC}{a:KT}(h:LI alts p=some (a,p')) :a∈alts:=by
  unfold LI at h
  split at h
  · simp only [Option.some.injEq,Prod.mk.injEq] at h;rw [←h.1];simp
  · simp only [Option.map_eq_some_iff,Prod.mk.injEq] at h;obtain ⟨b,h1,rfl,_⟩:=h;exact List.mem_of_find?_eq_some h1
  · simp only [Option.map_eq_some_iff,Prod.mk.injEq] at h;obtain ⟨b,h1,rfl,_⟩:=h;exact List.mem_of_getElem? h1
  · cases h
def oL:Nat:=100000
mutual
def Pn:AV→List Nat
  | .ptr b ..=>[b]
  | .sl b ..=>[b]
  | .fn _ l1 l2=>pD l1++pD l2
  | .agg l | .tup l=>pD l
  | .iface _ v=>Pn v
  | _=>[]
def pD:List AV→List Nat
  | []=>[]
  | v::l=>Pn v++pD l
end
def Vi:aZ→List Nat
  | .vs l=>pD l
  | _=>[]
def Dp:List Nat→Nat→Bool
  | [],_=>false
  | k::l,b=>bif Nat.beq k b then true else Dp l b
def ud(g:Nat→Option aZ) :Nat→List Nat→List Nat→List Nat
  | 0,_,acc=>acc
  | _+1,[],acc=>acc
  | n+1,b::t,acc=>match Dp acc b with
    | true=>ud g n t acc
    | false=>ud g n ((match g b with | some d=>Vi d | none=>[])++t) (acc++[b])
def vF:List Bool→List AV→List AV
  | true::m,v::l=>v::vF m l
  | false::m,_::l=>vF m l
  | _,_=>[]
def qS(σ:Nat→Option Nat)(g:Nat→Option aZ) :List Bool→List AV→List AV×List Nat
  | _,[]=>([],[])
  | true::m,v::l=>let s:=qS σ g m l;(LH σ v::s.1,s.2)
  | false::m,v::l=>let r:=Jt σ g oL v;let s:=qS σ g m l;(r.1::s.1,r.2++s.2)
  | [],v::l=>let r:=Jt σ g oL v;let s:=qS σ g [] l;(r.1::s.1,r.2++s.2)
theorem Bc{ρ τ:aG}{w:World}{h:fh}{m:Nat}{σ:Nat→Option Nat}(hh:HR ρ w h m)(L:QC ρ τ w h σ) :∀ (k:List Bool) {l:List AV} {c:List Value},je ρ w l c→je τ w (qS σ (bP h) k l).1 c
  | k,[],c,hv=>by cases hv;cases k<;>exact .nil
  | true::k,v::l,c,hv=>by cases hv with | cons _ u _ c' h1 h2=>exact .cons _ _ _ _ (tW L h1) (Bc hh L k h2)
  | false::k,v::l,c,hv=>by cases hv with | cons _ u _ c' h1 h2=>exact .cons _ _ _ _ (Pk hh L _ h1) (Bc hh L k h2)
  | [],v::l,c,hv=>by cases hv with | cons _ u _ c' h1 h2=>exact .cons _ _ _ _ (Pk hh L _ h1) (Bc hh L [] h2)
def Dq:List Nat→Bool
  | []=>true
  | k::l=>bif Dp l k then false else Dq l
def vG(g:Nat→Option aZ)(nid:Nat) :List Nat→Bool
  | []=>true
  | b::l=>(match g b with | some _=>Nat.blt b nid||Nat.ble (nid+yk) b | none=>false)&&vG g nid l
theorem HN:∀ {l:List Nat} {i b:Nat},l[i]? = some b→Dp l b=true
  | [],i,b,h=>by simp at h
  | k::l,0,b,h=>by simp at h;subst h;simp [Dp,wX]
  | k::l,i+1,b,h=>by
    simp only [Dp]
    cases Nat.beq k b with
    | true=>rfl
    | false=>simp only [cond_false];exact HN (i:=i) (by simpa using h)
theorem Dr:∀ {l:List Nat},Dq l=true→∀ {i j b:Nat},l[i]? = some b→l[j]? = some b→i=j
  | [],_,i,j,b,h1,_=>by simp at h1
  | k::l,hn,i,j,b,h1,h2=>by
    simp only [Dq] at hn
    cases e:Dp l k with
    | true=>rw [e] at hn;cases hn
    | false =>
      rw [e] at hn;simp only [cond_false] at hn
      cases i with
      | zero =>
        cases j with
        | zero=>rfl
        | succ j=>simp at h1 h2;subst h1;rw [HN h2] at e;cases e
      | succ i =>
        cases j with
        | zero=>simp at h1 h2;subst h2;rw [HN h1] at e;cases e
        | succ j=>have:=Dr hn (i:=i) (j:=j) (b:=b) (by simpa using h1) (by simpa using h2);omega
theorem Bv{g:Nat→Option aZ}{nid:Nat} :∀ {l:List Nat},vG g nid l=true→∀ b,b∈l→(∃ d,g b=some d)∧(b<nid∨nid+yk≤b)
  | [],_,b,hb=>by cases hb
  | k::l,h,b,hb=>by
    simp only [vG,Bool.and_eq_true] at h
    rcases List.mem_cons.1 hb with rfl | q
    · have:=h.1
      cases e:g b with
      | none=>rw [e] at this;cases this
      | some d =>
        rw [e] at this
        simp only [Bool.or_eq_true] at this
        refine ⟨⟨d,rfl⟩,this.imp (fun q=>by simpa [Nat.blt_eq] using q) (fun q=>Nat.le_of_ble_eq_true q)⟩
    · exact Bv h.2 b q
def Ip(e:Operand→AV)(f:Operand)(args:Array Operand) :Option (FuncId×List AV) :=
  match e f with
  | .fn (.func fid) first caps=>some (fid,first++args.toList.map e++caps)
  | _=>none
def OD(C:HM)(run:lJ)(g:Nat→Option aZ)(nid:Nat)(p:nC)(fid:FuncId)(vals:List AV) :Option WG :=
  let bs:=ud g oL (pD (vF (C.mode fid).mask vals)) []
  let la:=qS (sZ bs 0) g (C.mode fid).mask vals
  bif Dq bs&&vG g nid bs then
    match run fid (yA (sZ bs 0) g bs) la.1 p with
    | some (r,obs,p') =>
      bif Nat.ble r.own.length (bs.length+yk) then
        some { v:=uc (jF bs nid) r.v,sets:=qR (jF bs nid) 0 r.own,reads:=bs++la.2,obs,path:=p' }
      else none
    | none=>none
  else none
def Wf(C:HM)(run:lJ)(e:Operand→AV)(g:Nat→Option aZ)(nid:Nat)(p:nC)(op:Op) :Option WG :=
  match Jl C.wrap C.P e op with
  | some (v,obs)=>some { v,sets:=[],reads:=[],obs,path:=p }
  | none =>
    match op with
    | .load t x=>(Ie C.P g t (e x)).map fun r=>{ v:=r.1,sets:=[],reads:=r.2.2,obs:=r.2.1,path:=p }
    | .store t x v=>(Jo C.P g t (e x) (e v)).map fun r=>{ v:=.any,sets:=[(r.1,some r.2.1)],reads:=[r.1],obs:=r.2.2,path:=p }
    | .alloc t=>(RM C.P nid t).map fun r=>{ v:=r.1,sets:=[(nid,some r.2)],reads:=[],obs:=[],path:=p }
    | .box t x=>(Wb C.P nid t (e x)).map fun r=>{ v:=r.1,sets:=[(nid,some r.2)],reads:=[],obs:=[],path:=p }
    | .makeSlice t l c=>(T7 C.P nid t (e l) (e c)).map fun r=>{ v:=r.1,sets:=[(nid,some r.2.1)],reads:=[],obs:=r.2.2,path:=p }
    | .build t parts=>(RP C.P t (parts.toList.map fun x=>(x.1,e x.2))).map fun v=>{ v,sets:=[],reads:=[],obs:=[],path:=p }
    | .buildSlice t len parts=>(ES C.P nid t len (parts.toList.map fun x=>(x.1,e x.2))).map fun r=>{ v:=r.1,sets:=[(nid,some r.2)],reads:=[],obs:=[],path:=p }
    | .call { callee:=.builtin .append,args,argTypes } =>
      match args.toList,argTypes.toList with
      | [s,x],[t,t']=>bif Nat.beq t t' then
          match F3 C.P g nid t (e s) (e x) with
          | some (alts,rs)=>(LI alts p).map fun r=>{ v:=r.1.v,sets:=r.1.sets,reads:=rs,obs:=r.1.obs,path:=r.2 }
          | none=>none
        else none
      | _,_=>none
    | .call { callee:=.builtin .copy,args,argTypes } =>
      match args.toList,argTypes.toList with
      | [s,x],[t,_]=>(OB C.P g t (e s) (e x)).map fun r=>{ v:=.int .i64 (r.1:Int),sets:=[(r.2.1,some r.2.2.1)],reads:=r.2.2.2.2,obs:=r.2.2.2.1,path:=p }
      | _,_=>none
    | .call { callee:=.value f,args,.. } =>
      match Ip e f args with
      | some (fid,l) =>
        match C.ext fid with
        | some k=>(LI (We k l) p).map fun r=>{ v:=r.1.v,sets:=[],reads:=[],obs:=r.1.obs,path:=r.2 }
        | none=>OD C run g nid p fid l
      | none=>none
    | _=>none
theorem QF{x:Nat}(h:isNaN x=true) :FloatKind.f64.format.sqrt x=none:=by
  obtain ⟨s,t,e⟩:=zK h
  simp [Ieee.Format.sqrt,e,Ieee.Datum.root]
theorem Md{ρ:aG}{w:World}{k1 k2 k3:IntKind}{x y z:Int}{c:Array Value}(hl:je ρ w [.int k1 x,.int k2 y,.int k3 z] c.toList) :c = #[.int k1 x,.int k2 y,.int k3 z]:=by
  have h:c.toList=[.int k1 x,.int k2 y,.int k3 z]:=by
    generalize c.toList=l at hl
    cases hl with | cons _ u1 _ _ h1 t1 =>
    cases t1 with | cons _ u2 _ _ h2 t2 =>
    cases t2 with | cons _ u3 _ _ h3 t3 =>
    cases t3;cases h1;cases h2;cases h3;rfl
  rw [←c.toArray_toList,h]
theorem OE{P:Program}{w:World}(name:String){k1 k2 k3:IntKind}{x y z:Int}(hz:z.toNat≤1) :(Extern.MathBitsCarry.three name #[.int k1 x,.int k2 y,.int k3 z]).run P w=.ok (x.toNat,y.toNat,z.toNat) w:=by
  have e:Extern.MathBitsCarry.three name #[.int k1 x,.int k2 y,.int k3 z]=(do
      if z.toNat > 1 then unsupported (.noEntry ("extern/math/bits." ++ name ++ ": a carry that is neither 0 nor 1"))
      pure (x.toNat,y.toNat,z.toNat):Sem (Nat×Nat×Nat)):=rfl
  rw [e,if_neg (by omega)]
  rfl
theorem RV{P:Program}{ρ:aG}{w:World}{k:KU}{l:List AV}{c:Array Value}{r:KT}(hl:je ρ w l c.toList)(h:r∈We k l)(ho:aX r.obs) :qP P ρ w (Jv k c) r.v:=by
  have one:∀ {a:AV},je ρ w [a] c.toList→∃ u,c = #[u]∧VR ρ w a u:=by
    intro a h
    generalize hc:c.toList=l at h
    cases h with | cons _ u _ _ h1 h2=>cases h2;exact ⟨u,by rw [←hc],h1⟩
  unfold We at h
  split at h
  · simp only [List.mem_singleton] at h;subst h
    obtain ⟨u,rfl,hu⟩:=one hl
    cases hu with | flt _ _ y hf =>
    rename_i ex x
    have es:Jv .sqrt #[.float .f64 y]=(match FloatKind.f64.format.sqrt y with
      | some r=>pure (.float .f64 r)
      | none=>do pure (.float .f64 (←choose (.nanBits .f64 y y)))):=rfl
    rw [es]
    have e:FloatKind.f64.format.sqrt y=FloatKind.f64.format.sqrt x:=by
      rcases hf with rfl | ⟨_,h2,h3⟩
      · rfl
      · rw [QF h2,QF h3]
    cases hr:FloatKind.f64.format.sqrt y with
    | some r=>exact ⟨.float .f64 r,w.drawn,rfl,.flt _ _ _ (.inl (by rw [e] at hr;simp [DQ,hr]))⟩
    | none=>exact ⟨_,w.drawn+1,rfl,.flt _ _ _ (.inr ⟨rfl,by rw [e] at hr;simp [DQ,hr,HD],Sp y y _⟩)⟩
  · simp only [List.mem_singleton] at h;subst h
    obtain ⟨u,rfl,hu⟩:=one hl
    cases hu with | flt _ _ y hf =>
    rcases hf with rfl | ⟨h1,_⟩
    · exact ⟨_,w.drawn,rfl,.int _ _⟩
    · cases h1
  · simp only [List.mem_cons,List.not_mem_nil,or_false] at h
    obtain ⟨u,rfl,hu⟩:=one hl
    cases hu with | flt _ _ y hf =>
    rcases h with rfl | rfl
    · rcases hf with rfl | ⟨_,h2,_⟩
      · exact ⟨_,w.drawn,rfl,.int _ _⟩
      · have:=ho.1;rw [h2] at this;cases this
    · have hy:isNaN y=true:=by
        rcases hf with rfl | ⟨_,_,h3⟩
        · exact ho.1
        · exact h3
      exact ⟨_,w.drawn,rfl,.nan _ hy⟩
  · simp only [List.mem_singleton] at h;subst h
    obtain ⟨u,rfl,hu⟩:=one hl
    cases hu
    exact ⟨_,w.drawn,rfl,.flt _ _ _ (.inl rfl)⟩
  · simp only [List.mem_singleton] at h;subst h
    have hz:=ho.1
    replace hz:=of_decide_eq_true hz
    cases Md hl
    refine ⟨_,w.drawn,?_,.tup _ #[_,_] (.cons _ _ _ _ (.int _ _) (.cons _ _ _ _ (.int _ _) .nil))⟩
    simp only [Jv, Sem.run_bind, OE "Add64" hz, Result.andThen_ok]
    rfl
  · simp only [List.mem_singleton] at h;subst h
    have hz:=ho.1
    replace hz:=of_decide_eq_true hz
    cases Md hl
    refine ⟨_,w.drawn,?_,.tup _ #[_,_] (.cons _ _ _ _ (.int _ _) (.cons _ _ _ _ (.int _ _) .nil))⟩
    simp only [Jv, Sem.run_bind, OE "Sub64" hz, Result.andThen_ok]
    rename_i x _ y _ z
    have e:(bif Nat.blt x.toNat (y.toNat+z.toNat) then (1:Int) else 0)=Int.ofNat (if x.toNat<y.toNat+z.toNat then 1 else 0):=by
      by_cases q:x.toNat<y.toNat+z.toNat
      · rw [if_pos q,show Nat.blt x.toNat (y.toNat+z.toNat)=true by rw [Nat.blt_eq];exact q];rfl
      · rw [if_neg q]
        have:Nat.blt x.toNat (y.toNat+z.toNat)=false:=by
          cases h:Nat.blt x.toNat (y.toNat+z.toNat) with
          | false=>rfl
          | true=>rw [Nat.blt_eq] at h;exact absurd h q
        rw [this];rfl
    rw [e]
    rfl
  · simp at h
theorem Tf{C:HM}(hC:C.Ok){run:lJ}(hrun:Mc C.P run){e:Operand→AV}{h:fh}{nid:Nat}{p:nC}{o:Oper}{r:WG}(hr:Wf C run e (bP h) nid p o.op=some r)(ho:aX r.obs) 
    {ρ:aG} {w:World} {n:Nat} (hh:HR ρ w h n) (hid:∀ x,nid≤x→x<nid+yk→¬ ρ.ok x) (hn0:nid+yk≤n) {a:Act} (hops:∀ x,VR ρ w (e x) (a.eval x)) {next:Act→World→Prop} {Q:Exit→Act→World→Prop}
    (hK:∀ ρ' w' u,vz ρ ρ' w→qO ρ.live w w'→HR ρ' w' (hX r.sets h) n→VR ρ' w' r.v u→(∀ b,ρ'.ok b→ρ.ok b∨(nid≤b∧b<nid+yk))→next (a.put o.dst u) w'):o.wp C.P a w next Q:=by
  have hS:0<yk:=by decide
  have hb : ¬ ρ.ok nid:=hid nid (Nat.le_refl _) (by omega)
  have hn:nid<n:=by omega
  have one:∀ {b:Nat},b=nid→nid≤b∧b<nid+yk:=fun e=>by omega
  have plain:∀ {v:AV},(∃ u k,(execOp a.eval o).run C.P w=.ok (.value u) { w with drawn:=k }∧VR ρ w v u)→r.v=v→r.sets=[]→o.wp C.P a w next Q:=by
    intro v ⟨u,k,h1,h2⟩ hv hs
    unfold Oper.wp
    rw [h1]
    have E:=vz.refl ρ w
    have W:=qO.drawn ρ.live w k
    exact hK ρ _ u E W (by rw [hs];exact hh.drawn k) (by rw [hv];exact h2.mono E W) (fun b q=>.inl q)
  have made:∀ {s:Sem Value} {v:AV} {h':fh},(execOp a.eval o).run C.P w=(do pure (Next.value (←s)):Sem Next).run C.P w→GE C.P ρ w h n nid s v h'→r.v=v→hX r.sets h=h'→o.wp C.P a w next Q:=by
    intro s v h' he ⟨u,w',ρ',h1,h2,h3,h4,h5,h6⟩ hv hs
    unfold Oper.wp
    rw [he,gT h1]
    exact hK ρ' w' u h2 h3 (by rw [hs];exact h4) (by rw [hv];exact h5) (fun b q=>(h6 b q).imp id one)
  unfold Wf at hr
  split at hr
  · rename_i v obs hp
    simp only [Option.some.injEq] at hr;subst hr
    exact plain (O6 hops hp ho) rfl rfl
  · rename_i hpo
    clear hpo
    generalize hop:o.op=op at hr
    split at hr
    · rename_i t x
      simp only [Option.map_eq_some_iff] at hr
      obtain ⟨⟨v,obs,rs⟩,hl,rfl⟩:=hr
      obtain ⟨u,k,h1,h2⟩:=Qq (P:=C.P) hh (hops x) hl ho
      exact plain ⟨u,k,by simp only [execOp,hop];exact gT h1,h2⟩ rfl rfl
    · rename_i t x v
      simp only [Option.map_eq_some_iff] at hr
      obtain ⟨⟨b,d,obs⟩,hl,rfl⟩:=hr
      obtain ⟨w',h1,h2,h3⟩:=O7 (P:=C.P) hh (hops x) (hops v) hl ho
      unfold Oper.wp
      have:(execOp a.eval o).run C.P w=.ok .skip w':=by
        simp only [execOp,hop];rw [Sem.run_bind,h1];rfl
      rw [this]
      exact hK ρ w' undef (vz.refl _ _) h3 h2 (.any _) (fun b q=>.inl q)
    · rename_i t
      simp only [Option.map_eq_some_iff] at hr
      obtain ⟨⟨v,d⟩,hl,rfl⟩:=hr
      exact made (by simp only [execOp,hop]) (Pa hh hb hn hl true) rfl rfl
    · rename_i t x
      simp only [Option.map_eq_some_iff] at hr
      obtain ⟨⟨v,d⟩,hl,rfl⟩:=hr
      exact made (by simp only [execOp,hop]) (RN hh hb hn (hops x) hl) rfl rfl
    · rename_i t l c
      simp only [Option.map_eq_some_iff] at hr
      obtain ⟨⟨v,d,obs⟩,hl,rfl⟩:=hr
      exact made (by simp only [execOp,hop]) (Qs hh hb hn (hops l) (hops c) hl ho) rfl rfl
    · rename_i t parts
      simp only [Option.map_eq_some_iff] at hr
      obtain ⟨v,hl,rfl⟩:=hr
      have h1:(parts.toList.map fun x=>(x.1,e x.2)).map Prod.fst=(parts.map fun (x:Nat×Operand)=>(x.1,a.eval x.2)).toList.map Prod.fst:=by simp
      have h2:je ρ w ((parts.toList.map fun x=>(x.1,e x.2)).map Prod.snd) ((parts.map fun (x:Nat×Operand)=>(x.1,a.eval x.2)).toList.map Prod.snd):=by
        have:=je.map hops (parts.toList.map Prod.snd)
        simpa [Function.comp_def] using this
      obtain ⟨u,k,q1,q2⟩:=Pf (P:=C.P) h1 h2 hl
      exact plain ⟨u,k,by simp only [execOp,hop];exact gT q1,q2⟩ rfl rfl
    · rename_i t len parts
      simp only [Option.map_eq_some_iff] at hr
      obtain ⟨⟨v,d⟩,hl,rfl⟩:=hr
      have h1:(parts.toList.map fun x=>(x.1,e x.2)).map Prod.fst=(parts.map fun (x:Nat×Operand)=>(x.1,a.eval x.2)).toList.map Prod.fst:=by simp
      have h2:je ρ w ((parts.toList.map fun x=>(x.1,e x.2)).map Prod.snd) ((parts.map fun (x:Nat×Operand)=>(x.1,a.eval x.2)).toList.map Prod.snd):=by
        have:=je.map hops (parts.toList.map Prod.snd)
        simpa [Function.comp_def] using this
      exact made (by simp only [execOp,hop]) (Ij hh hb hn h1 h2 hl) rfl rfl
    · rename_i args argTypes
      split at hr
      case h_2=>cases hr
      rename_i s x t t' e1 e2
      cases ht:Nat.beq t t' with
      | false=>rw [ht] at hr;cases hr
      | true =>
      rw [ht] at hr
      have:=Nat.eq_of_beq_eq_true ht
      subst this
      simp only [cond_true] at hr
      split at hr
      case h_2=>cases hr
      rename_i alts rs ha
      simp only [Option.map_eq_some_iff] at hr
      obtain ⟨⟨alt,p'⟩,hp,rfl⟩:=hr
      have ea:args = #[s,x]:=by rw [←e1]
      have et:argTypes = #[t,t]:=by rw [←e2]
      subst ea;subst et
      have hm:=NI hh hb hn (hops s) (hops x) ha (Ks hp) ho o.type
      refine made (s:=Builtin.append_ #[t,t] o.type #[a.eval s,a.eval x]) ?_ hm rfl rfl
      simp only [execOp,hop]
      rw [qQ a.eval .append #[s,x] #[t,t] o.type _ rfl]
      simp [invoke,builtin]
    · rename_i args argTypes
      split at hr
      case h_2=>cases hr
      rename_i s x t t' e1 e2
      simp only [Option.map_eq_some_iff] at hr
      obtain ⟨⟨k,b,d,obs,rs⟩,hc,rfl⟩:=hr
      have ea:args = #[s,x]:=by rw [←e1]
      have et:argTypes = #[t,t']:=by rw [←e2]
      subst ea;subst et
      obtain ⟨w',h1,h2,h3⟩:=QE (P:=C.P) (T:=o.type) (t':=t') hh (hops s) (hops x) hc ho
      refine made (s:=Builtin.copy_ #[t,t'] o.type #[a.eval s,a.eval x]) ?_ ⟨_,w',ρ,h1,vz.refl _ _,h3,h2,.int _ _,fun b q=>.inl q⟩ rfl rfl
      simp only [execOp,hop]
      rw [qQ a.eval .copy #[s,x] #[t,t'] o.type _ rfl]
      simp [invoke,builtin]
    · rename_i f args ats
      split at hr
      case h_2=>cases hr
      rename_i fid l hca
      unfold Ip at hca
      split at hca
      case h_2=>cases hca
      rename_i fid' first caps hef
      simp only [Option.some.injEq,Prod.mk.injEq] at hca
      obtain ⟨rfl,rfl⟩:=hca
      have hf:=hops f
      rw [hef] at hf
      generalize hgf:a.eval f=gf at hf
      cases hf with | fn _ _ _ c1 c2 v1 v2 =>
      have hargs:je ρ w (first++args.toList.map e++caps) (c1++args.map a.eval++c2).toList:=by
        simp only [Array.toList_append,Array.toList_map]
        exact je.append v2 (je.append (je.map hops args.toList) v1)
      have hex:∀ w0,(execOp a.eval o).run C.P w0=(callFunc fid' (c1++args.map a.eval++c2)).run C.P w0:=by
        intro w0
        simp only [execOp,hop,resolve,hgf,Deferred.ofValue]
        rfl
      split at hr
      · rename_i k hk
        simp only [Option.map_eq_some_iff] at hr
        obtain ⟨⟨a,_⟩,hl,rfl⟩:=hr
        obtain ⟨u,kk,q1,q2⟩:=RV (P:=C.P) hargs (Ks hl) ho
        refine plain ⟨u,kk,?_,q2⟩ rfl rfl
        rw [hex,hC.ext fid' k _ w hk]
        exact gT q1
      · unfold OD at hr
        simp only at hr
        generalize hbs:ud (bP h) oL (pD (vF (C.mode fid').mask (first++args.toList.map e++caps))) []=bs at hr
        cases hlen:(Dq bs&&vG (bP h) nid bs) with
        | false=>rw [hlen] at hr;cases hr
        | true =>
        rw [hlen] at hr
        simp only [cond_true] at hr
        rw [Bool.and_eq_true] at hlen
        split at hr
        case h_2=>cases hr
        rename_i r' obs p' hl
        cases hle:Nat.ble r'.own.length (bs.length+yk) with
        | false=>rw [hle] at hr;cases hr
        | true =>
        rw [hle] at hr
        simp only [cond_true,Option.some.injEq] at hr;subst hr
        have hLs:QD h bs:=⟨fun q1 q2=>Dr hlen.1 q1 q2,fun b q=>(Bv hlen.2 b q).1⟩
        have L:=Sz hh hLs
        have hcall:=hrun fid' _ _ p r' obs p' hl ho
        obtain ⟨⟨fn,hfn,hbody⟩,hcalls⟩:=hcall (ρ.lend bs) w _ (RU hh hLs) (Bc hh L _ hargs)
        unfold Oper.wp
        rw [hex,hC.enter fid' fn _ w hfn hbody]
        simp only [Oper.upon]
        have hl2:(c1++args.map a.eval++c2).toList.toArray=c1++args.map a.eval++c2:=by simp
        rw [hl2] at hcalls
        refine hcalls.mono ?_
        rintro e' w' ⟨u,rfl,W,ρ',E,hbk,H,hv⟩
        rw [xI] at hbk
        obtain ⟨q1,q2,q3,q4,q5⟩:=Ua hh hLs hid (fun b q=>(Bv hlen.2 b q).2) hn0 (Nat.le_of_ble_eq_true hle) W E hbk H hv
        exact hK _ w' u q1 q2 q3 q4 q5
    · cases hr
structure F5 where
  v:AV
  sets:List (Nat×Option aZ)
  reads:List Nat
def F6(ops:Array Oper)(j:Nat) :Option Nat:=(ops[j]?).bind (·.dst)
def F7(ops:Array Oper)(o:Oper)(T:List AV) :Option Bool :=
  match o.guard with
  | none=>some true
  | some (j,want) =>
    match F6 ops j with
    | none=>some false
    | some d =>
      match T[d]? with
      | some (.bool true b)=>some (b==want)
      | some (.tup _) | none=>some false
      | _=>none
def SC(ops:Array Oper)(i:Nat) :Bool:=ops.toList.any fun o=>match o.guard with | some (j,_)=>Nat.beq j i | none=>false
def LJ(v:AV)(p:nC) :Option (Bool×List Bool×nC) :=
  match v,p with
  | .bool true b,p=>some (b,[],p)
  | .bool false b,none=>some (b,[],none)
  | .bool false b,some (k::r)=>some (Nat.beq k 1,[b==Nat.beq k 1],some r)
  | _,_=>none
theorem Me{ρ:aG}{w:World}{v:AV}{u:Value}{p p':nC}{b:Bool}{obs:List Bool}(hv:VR ρ w v u)(h:LJ v p=some (b,obs,p'))(ho:aX obs) :u=.bool b:=by
  unfold LJ at h
  split at h
  · simp only [Option.some.injEq,Prod.mk.injEq] at h;obtain ⟨rfl,rfl,rfl⟩:=h;cases hv;rfl
  · simp only [Option.some.injEq,Prod.mk.injEq] at h;obtain ⟨rfl,rfl,rfl⟩:=h;cases hv;rfl
  · simp only [Option.some.injEq,Prod.mk.injEq] at h;obtain ⟨rfl,rfl,rfl⟩:=h;cases hv
    have:=ho.1
    simp only [beq_iff_eq] at this
    rw [this]
  · cases h
def Kt(ops:Array Oper)(i:Nat)(v:AV)(p:nC) :Option (AV×List Bool×nC) :=
  bif SC ops i then (LJ v p).map fun r=>(.bool true r.1,r.2.1,r.2.2) else some (v,[],p)
def Iq(C:HM)(run:lJ)(ops:Array Oper)(n0 i:Nat)(o:Oper)(T:List AV)(h:fh)(p:nC) :Option (F5×List Bool×nC) :=
  match F7 ops o T with
  | none=>none
  | some false=>some ({ v:=.tup [],sets:=[],reads:=[] },[],p)
  | some true =>
    match Wf C run (Ve T) (bP h) (n0+i*yk) p o.op with
    | none=>none
    | some r =>
      match Kt ops i r.v r.path with
      | none=>none
      | some (v,obs,p')=>some ({ v,sets:=r.sets,reads:=r.reads },r.obs++obs,p')
def Ir(T:List AV)(d:Option Nat)(v:AV) :List AV :=
  match d with
  | some d=>T.set d v
  | none=>T
theorem SD{ρ:aG}{w:World}{T:List AV}{a:Act}{v:AV}{u:Value}(h:je ρ w T a.tmps.toList)(hv:VR ρ w v u)(d:Option Nat) :je ρ w (Ir T d v) (a.put d u).tmps.toList:=by
  cases d with
  | none=>exact h
  | some d=>simp only [Ir,Act.put,Array.toList_setIfInBounds];exact h.set hv d
theorem Is{ρ:aG}{w:World}{ops:Array Oper}{o:Oper}{T:List AV}{a:Act}(h:je ρ w T a.tmps.toList){b:Bool}(hw:F7 ops o T=some b) :Region.wanted o (yielded ops a.tmps)=b:=by
  unfold F7 at hw
  unfold Region.wanted
  split at hw
  · rename_i hg;cases hw;simp [hg]
  · rename_i j want hg
    simp only [hg]
    unfold F6 at hw
    split at hw
    · rename_i hs;cases hw;simp [yielded,hs]
    · rename_i d hs
      split at hw
      · rename_i b' hT
        cases hw
        obtain ⟨u,h1,h2⟩:=h.get d _ hT
        rw [Array.getElem?_toList] at h1
        cases h2
        simp only [yielded,hs,Option.bind_some,h1]
        cases b'<;>cases want<;>rfl
      · rename_i l hT
        cases hw
        obtain ⟨u,h1,h2⟩:=h.get d _ hT
        rw [Array.getElem?_toList] at h1
        cases h2
        simp [yielded,hs,h1]
      · rename_i hT
        cases hw
        have : a.tmps[d]? = none := by
          have hl:=h.length
          rw [Array.getElem?_eq_none]
          have : T.length ≤ d := by rcases Nat.lt_or_ge d T.length with q | q; · rw [List.getElem?_eq_getElem q] at hT; cases hT
                                    · exact q
          simp at hl;omega
        simp [yielded,hs,this]
      · cases hw
theorem HR.congr{ρ:aG}{w:World}{h h':fh}{n:Nat}(hh:HR ρ w h n)(e:∀ b,bP h' b=bP h b) :HR ρ w h' n :=
  ⟨fun b d q=>hh.cell b d (by rw [←e];exact q),fun b c d f q r=>hh.inj b c d f (by rw [←e];exact q) (by rw [←e];exact r),hh.fresh,hh.liveLt,hh.outLt,hh.lt,hh.rom⟩
theorem Ku{C:HM}(hC:C.Ok){run:lJ}(hrun:Mc C.P run){ops:Array Oper}{n0 i:Nat}{o:Oper}(hi:ops[i]? = some o){T:List AV}{h:fh}{p p':nC}{r:F5}{obs:List Bool} 
    (hr:Iq C run ops n0 i o T h p=some (r,obs,p')) (ho:aX obs) {ρ:aG} {w:World} {n:Nat} (hh:HR ρ w h n) (hid:∀ x,n0+i*yk≤x→x<n0+i*yk+yk→¬ ρ.ok x) (hn:n0+i*yk+yk≤n) {a:Act} (hd:a.defers=[]) (hT:je ρ w T a.tmps.toList)
    {K:Act→World→Prop} {Q:Exit→Act→World→Prop}
    (hK:∀ ρ' w' a',vz ρ ρ' w→qO ρ.live w w'→HR ρ' w' (hX r.sets h) n→a'.defers=[]→je ρ' w' (Ir T o.dst r.v) a'.tmps.toList→(∀ b,ρ'.ok b→ρ.ok b∨(n0+i*yk≤b∧b<n0+i*yk+yk))→K a' w'):wpOp C.P ops Q i K a w:=by
  have dput:∀ u,(a.put o.dst u).defers=[]:=by intro u;cases hdst:o.dst<;>simp [Act.put,hd]
  unfold Iq at hr
  unfold wpOp
  simp only [hi]
  split at hr
  · cases hr
  · rename_i hw
    simp only [Option.some.injEq,Prod.mk.injEq] at hr;obtain ⟨rfl,rfl,rfl⟩:=hr
    rw [Is hT hw]
    simp only [Bool.false_eq_true,if_false]
    exact hK ρ w _ (vz.refl _ _) (qO.refl _ _) hh (dput _) (SD hT (.tup _ _ .nil) o.dst) (fun b q=>.inl q)
  · rename_i hw
    rw [Is hT hw]
    simp only [if_true]
    split at hr
    · cases hr
    · rename_i r' hop
      split at hr
      · cases hr
      · rename_i v obs' p'' hg
        simp only [Option.some.injEq,Prod.mk.injEq] at hr;obtain ⟨rfl,rfl,rfl⟩:=hr
        rw [cg] at ho
        refine .inl (Tf hC hrun hop ho.1 hh hid hn (fun x=>LS hh.rom hT x) ?_)
        intro ρ' w' u E W hh' hv hok
        refine hK ρ' w' _ E W hh' (dput _) (SD (hT.mono E W) ?_ o.dst) hok
        unfold Kt at hg
        cases hgd:SC ops i with
        | false=>rw [hgd] at hg;simp only [cond_false,Option.some.injEq,Prod.mk.injEq] at hg;rw [←hg.1];exact hv
        | true =>
          rw [hgd] at hg
          simp only [cond_true,Option.map_eq_some_iff,Prod.mk.injEq] at hg
          obtain ⟨⟨b,ob,pp⟩,hd',rfl,rfl,rfl⟩:=hg
          rw [Me hv hd' ho.2]
          exact .bool _ _
def Mf(C:HM)(run:lJ)(ops:Array Oper)(n0:Nat) :Nat→List Oper→List AV→fh→nC→Option (List AV×fh×List Bool×nC)
  | _,[],T,h,p=>some (T,h,[],p)
  | i,o::l,T,h,p =>
    match Iq C run ops n0 i o T h p with
    | none=>none
    | some (r,obs,p') =>
      match Mf C run ops n0 (i+1) l (Ir T o.dst r.v) (hX r.sets h) p' with
      | none=>none
      | some (T',h',obs',p'')=>some (T',h',obs++obs',p'')
structure EX (ρ:aG) (w:World) (n:Nat) (st:aW) (ρ':aG) (a':Act) (w':World):Prop where
  ext:vz ρ ρ' w
  wle:qO ρ.live w w'
  sr:SR ρ' st a' w'
  le:n≤st.next
  back:∀ b,ρ'.ok b→ρ.ok b∨n≤b
theorem It{C:HM}(hC:C.Ok){run:lJ}(hrun:Mc C.P run){ops:Array Oper}{n0:Nat}{Q:Exit→Act→World→Prop} :∀ (l:List Oper) (i:Nat) {T T':List AV} {h h':fh} {p p':nC} {obs:List Bool},
    (∀ j,l[j]? = ops[i+j]?)→Mf C run ops n0 i l T h p=some (T',h',obs,p')→aX obs→∀ {ρ:aG} {w:World},HR ρ w h (n0+ops.size*yk)→(∀ b,ρ.ok b→b<n0+i*yk)→∀ {a:Act},a.defers=[]→je ρ w T a.tmps.toList →
    (∀ ρ' w' a',vz ρ ρ' w→qO ρ.live w w'→HR ρ' w' h' (n0+ops.size*yk)→a'.defers=[]→je ρ' w' T' a'.tmps.toList→(∀ b,ρ'.ok b→ρ.ok b∨n0≤b)→Q .normal a' w')→wpOps C.P ops Q (List.range' i l.length) a w
  | [],i,T,T',h,h',p,p',obs,hl,hr,ho,ρ,w,hh,hok,a,hd,hT,hQ=>by
    simp only [Mf,Option.some.injEq,Prod.mk.injEq] at hr;obtain ⟨rfl,rfl,rfl,rfl⟩:=hr
    simp only [List.length_nil,List.range'_zero,wpOps]
    exact hQ ρ w a (vz.refl _ _) (qO.refl _ _) hh hd hT (fun b q=>.inl q)
  | o::l,i,T,T',h,h',p,p',obs,hl,hr,ho,ρ,w,hh,hok,a,hd,hT,hQ=>by
    simp only [Mf] at hr
    split at hr
    case h_1=>cases hr
    rename_i r obs1 p1 h1
    split at hr
    case h_1=>cases hr
    rename_i T2 h2 obs2 p2 h3
    simp only [Option.some.injEq,Prod.mk.injEq] at hr;obtain ⟨rfl,rfl,rfl,rfl⟩:=hr
    rw [cg] at ho
    have hi:ops[i]? = some o:=by have:=hl 0;simpa using this.symm
    have hlt:i<ops.size:=(Array.getElem?_eq_some_iff.1 hi).1
    simp only [List.length_cons,List.range'_succ]
    rw [wpOps_cons]
    have hS:i*yk+yk≤ops.size*yk:=by rw [←Nat.succ_mul];exact Nat.mul_le_mul_right _ hlt
    have hi1:(i+1)*yk=i*yk+yk:=Nat.succ_mul _ _
    refine Ku hC hrun hi h1 ho.1 hh (fun x h1 h2 q=>by have:=hok _ q;omega) (by omega) hd hT ?_
    intro ρ' w' a' E W hh' hd' hT' hok'
    refine It hC hrun l (i+1) (fun j=>by have:=hl (j+1);rw [show i+1+j=i+(j+1) from by omega];simpa using this) h3 ho.2 hh' (fun b q=>by
      rcases hok' b q with q | q
      · have:=hok b q;omega
      · omega) hd' hT' ?_
    intro ρ'' w'' a'' E' W' hh'' hd'' hT'' hb''
    exact hQ ρ'' w'' a'' (E.trans E' W.size) (W.trans W' (fun x hx q=>E.new x hx q)) hh'' hd'' hT'' (fun b q=>by
      rcases hb'' b q with q | q
      · rcases hok' b q with q | q
        · exact .inl q
        · exact .inr (by omega)
      · exact .inr q)
theorem F8{e e':Operand→AV}{l:List Operand}(h:∀ x∈l,e x=e' x) :l.map e=l.map e':=List.map_congr_left h
theorem Po{wr:Bool}{P:Program}{e e':Operand→AV}{op:Op}(h:∀ x∈op.operands,e x=e' x) :Jl wr P e op=Jl wr P e' op:=by
  unfold Jl
  split
  all_goals simp only [Op.operands,Call.operands] at h
  case h_1=>rw [h _ (by simp)]
  case h_2=>rw [h _ (by simp)]
  case h_3=>rw [h _ (by simp),h _ (by simp),h _ (by simp)]
  case h_4=>rw [h _ (by simp)]
  case h_5=>rw [h _ (by simp),h _ (by simp)]
  case h_6=>rw [h _ (by simp)]
  case h_7=>rw [h _ (by simp)]
  case h_8=>rw [h _ (by simp)]
  case h_9 =>
    rename_i fn first caps
    rw [F8 (l:=first.toList) (fun x hx=>h x (by simp at hx;simp [hx])),F8 (l:=caps.toList) (fun x hx=>h x (by simp at hx;simp [hx]))]
  case h_10 =>
    rename_i t x lo hi
    rw [h x (by simp)]
    cases lo<;>cases hi<;>simp only [Option.map_none,Option.map_some]<;>first | rfl | (rw [h _ (by simp),h _ (by simp)]) | (rw [h _ (by simp)])
  case h_11 =>
    rename_i t x lo hi mx
    rw [h x (by simp),h mx (by simp)]
    cases lo<;>cases hi<;>simp only [Option.map_none,Option.map_some]<;>first | rfl | (rw [h _ (by simp),h _ (by simp)]) | (rw [h _ (by simp)])
  case h_12=>rw [h _ (by simp)]
  case h_13=>rw [h _ (by simp)]
  case h_14=>rw [h _ (by simp),h _ (by simp)]
  case h_15=>rw [h _ (by simp),h _ (by simp)]
  case h_16=>rw [h _ (by simp)]
  case h_17 =>
    rename_i xs ts
    split
    · rename_i x t hx ht
      have:xs = #[x]:=by rw [←hx]
      subst this
      rw [h x (by simp)]
    · rfl
  case h_18 =>
    rename_i xs ts
    split
    · rename_i x l hx
      have:xs=(x::l).toArray:=by rw [←hx]
      subst this
      rw [h x (by simp),F8 (l:=l) (fun y hy=>h y (by simp [hy]))]
    · rfl
  case h_19 =>
    rename_i xs ts
    split
    · rename_i x l hx
      have:xs=(x::l).toArray:=by rw [←hx]
      subst this
      rw [h x (by simp),F8 (l:=l) (fun y hy=>h y (by simp [hy]))]
    · rfl
  case h_20=>rfl
theorem QG{P:Program}{g g':Nat→Option aZ}{t:TypeId}{x:AV}{r:AV×List Bool×List Nat}(h:Ie P g t x=some r)(hg:∀ b∈r.2.2,g' b=g b) :Ie P g' t x=some r:=by
  unfold Ie at h ⊢
  simp only at h ⊢
  split at h
  · rename_i b w i j
    split at h
    · rename_i d hd
      simp only [Option.map_eq_some_iff] at h
      obtain ⟨r',h1,rfl⟩:=h
      have:g' b=some d:=by rw [hg b (by simp)];exact hd
      simp only [this,h1];rfl
    · cases h
  · exact h
  · cases h
theorem Pp{P:Program}{g g':Nat→Option aZ}{t:TypeId}{x v:AV}{r:Nat×aZ×List Bool}(h:Jo P g t x v=some r)(hg:g' r.1=g r.1) :Jo P g' t x v=some r:=by
  unfold Jo at h ⊢
  split at h
  · rename_i b w i j l inf h1 h2
    split at h
    · rename_i d hd
      cases e:Nat.beq l.length inf.size with
      | false=>rw [e] at h;cases h
      | true =>
        rw [e] at h
        simp only [cond_true,Option.map_eq_some_iff] at h
        obtain ⟨r',h3,rfl⟩:=h
        have:g' b=some d:=by rw [hg];exact hd
        simp only [h1,this,e,cond_true,h3];rfl
    · cases h
  · cases h
theorem Ds{g g':Nat→Option aZ}{x:AV}{r:Nat×Nat×aZ×List Bool×List Nat}(h:NH g x=some r)(hg:∀ b∈r.2.2.2.2,g' b=g b) :NH g' x=some r:=by
  unfold NH at h ⊢
  split at h
  · rename_i b w es i len cap
    split at h
    · rename_i d hd
      simp only [Option.map_eq_some_iff] at h
      obtain ⟨r',h1,rfl⟩:=h
      have:g' b=some d:=by rw [hg b (by simp)];exact hd
      simp only [this,h1];rfl
    · cases h
  · exact h
  · cases h
theorem NK{P:Program}{g g':Nat→Option aZ}{nid:Nat}{t:TypeId}{s x:AV}{r:List KT×List Nat}(h:F3 P g nid t s x=some r)(hg:∀ b∈r.2,g' b=g b) :F3 P g' nid t s x=some r:=by
  unfold F3 at h ⊢
  split at h
  case h_2=>cases h
  rename_i e ht
  split at h
  case h_2=>cases h
  rename_i inf hi
  split at h
  case h_2=>cases h
  rename_i z hz
  cases hzs:Nat.beq z.cells.size inf.size with
  | false=>rw [hzs] at h;cases h
  | true =>
  rw [hzs] at h
  simp only [cond_true] at h ⊢
  split at h
  · exact h
  · exact h
  · exact h
  · rename_i hx0
    split at h
    case h_2=>cases h
    rename_i m es nb obs rs hs
    cases hes:Nat.beq es inf.size with
    | false=>rw [hes] at h;cases h
    | true =>
    rw [hes] at h
    simp only [cond_true,Option.some.injEq] at h;subst h
    have:=Ds (g':=g') hs hg
    simp only [this,hes,cond_true]
  · exact h
  · rename_i hx0
    split at h
    case h_2=>cases h
    rename_i m es nb obs rs hs
    cases hes:Nat.beq es inf.size with
    | false=>rw [hes] at h;cases h
    | true =>
    rw [hes] at h
    simp only [cond_true,Option.some.injEq] at h;subst h
    have:=Ds (g':=g') hs hg
    simp only [this,hes,cond_true]
  · rename_i b w es len cap hx0 _
    split at h
    case h_2=>cases h
    rename_i d m es' nb obs rs hd hs
    cases hes:(Nat.beq es inf.size&&Nat.beq es' es) with
    | false=>rw [hes] at h;cases h
    | true =>
    rw [hes] at h
    simp only [cond_true] at h
    split at h
    case h_2=>cases h
    rename_i old obs' hsub
    simp only [Option.map_eq_some_iff] at h
    obtain ⟨d',happ,rfl⟩:=h
    have h1:=Ds (g':=g') hs (fun b' hb=>hg b' (by simp only [List.mem_cons];exact .inr hb))
    have h2:g' b=some d:=by rw [hg b (by simp)];exact hd
    simp only [h1,h2,hes,cond_true,hsub,happ];rfl
  · cases h
mutual
theorem Dt {σ:Nat→Option Nat} {g g':Nat→Option aZ}:∀ (n:Nat) (v:AV),(∀ b∈(Jt σ g n v).2,g' b=g b)→Jt σ g' n v=Jt σ g n v
  | 0,_,_=>rfl
  | n + 1, v, h => by
    cases v<;>simp only [Jt] at h ⊢
    · rename_i b w i j
      cases hs:σ b with
      | some c=>rfl
      | none =>
      rw [hs] at h
      simp only at h ⊢
      have hb:g' b=g b:=by
        cases q:g b with
        | none=>rw [q] at h;have:=h b (by simp);rw [this,q]
        | some d=>rw [q] at h;have:=h b (by simp);rw [this,q]
      rw [hb]
      cases q:g b with
      | none=>rfl
      | some d =>
        rw [q] at h
        have:=Mg (σ:=σ) (g:=g) (g':=g') n d (fun b' hb'=>h b' (by simp only [List.mem_cons];exact .inr hb'))
        simp only [this]
    · rename_i b w es i len cap
      cases hs:σ b with
      | some c=>rfl
      | none =>
      rw [hs] at h
      simp only at h ⊢
      have hb:g' b=g b:=by
        cases q:g b with
        | none=>rw [q] at h;have:=h b (by simp);rw [this,q]
        | some d=>rw [q] at h;have:=h b (by simp);rw [this,q]
      rw [hb]
      cases q:g b with
      | none=>rfl
      | some d =>
        rw [q] at h
        have:=Mg (σ:=σ) (g:=g) (g':=g') n d (fun b' hb'=>h b' (by simp only [List.mem_cons];exact .inr hb'))
        simp only [this]
    · rename_i f l1 l2
      rw [w5 n l1 (fun b hb=>h b (by simp [hb])),w5 n l2 (fun b hb=>h b (by simp [hb]))]
    · rename_i l;rw [w5 n l h]
    · rename_i l;rw [w5 n l h]
    · rename_i t v;rw [Dt n v h]
theorem w5 {σ:Nat→Option Nat} {g g':Nat→Option aZ}:∀ (n:Nat) (l:List AV),(∀ b∈(Io σ g n l).2,g' b=g b)→Io σ g' n l=Io σ g n l
  | 0,_,_=>rfl
  | n+1,[],_=>rfl
  | n+1,v::l,h=>by
    simp only [Io] at h ⊢
    rw [Dt n v (fun b hb=>h b (by simp [hb])),w5 n l (fun b hb=>h b (by simp [hb]))]
theorem Mg {σ:Nat→Option Nat} {g g':Nat→Option aZ}:∀ (n:Nat) (d:aZ),(∀ b∈(HK σ g n d).2,g' b=g b)→HK σ g' n d=HK σ g n d
  | 0,_,_=>rfl
  | n+1,d,h=>by
    cases d<;>simp only [HK] at h ⊢
    rename_i l;rw [w5 n l h]
end
theorem vH{σ:Nat→Option Nat}{g g':Nat→Option aZ} :∀ (m:List Bool) (l:List AV),(∀ b∈(qS σ g m l).2,g' b=g b)→qS σ g' m l=qS σ g m l
  | m,[],_=>by cases m<;>rfl
  | true::m,v::l,h=>by
    simp only [qS] at h ⊢
    rw [vH m l h]
  | false::m,v::l,h=>by
    simp only [qS] at h ⊢
    rw [Dt _ v (fun b hb=>h b (by simp [hb])),vH m l (fun b hb=>h b (by simp [hb]))]
  | [],v::l,h=>by
    simp only [qS] at h ⊢
    rw [Dt _ v (fun b hb=>h b (by simp [hb])),vH [] l (fun b hb=>h b (by simp [hb]))]
theorem Jw{g:Nat→Option aZ} :∀ (n:Nat) (t acc:List Nat),∀ b∈acc,b∈ud g n t acc
  | 0,t,acc,b,h=>h
  | n+1,[],acc,b,h=>h
  | n+1,x::t,acc,b,h=>by
    simp only [ud]
    split
    · exact Jw n _ _ b h
    · exact Jw n _ _ b (by simp [h])
theorem EY{g g':Nat→Option aZ} :∀ (n:Nat) (t acc:List Nat),(∀ b∈ud g n t acc,g' b=g b)→ud g' n t acc=ud g n t acc
  | 0,t,acc,_=>rfl
  | n+1,[],acc,_=>rfl
  | n+1,x::t,acc,h=>by
    simp only [ud] at h ⊢
    split
    · rename_i e;rw [e] at h;exact EY n _ _ h
    · rename_i e
      rw [e] at h
      simp only at h
      have hx:g' x=g x:=h x (Jw n _ _ x (by simp))
      rw [hx]
      exact EY n _ _ h
theorem Iu{σ:Nat→Option Nat}{g g':Nat→Option aZ} :∀ (l:List Nat),(∀ b∈l,g' b=g b)→yA σ g' l=yA σ g l
  | [],_=>rfl
  | b::l,h=>by simp only [yA];rw [h b (by simp),Iu l (fun x hx=>h x (by simp [hx]))]
theorem EZ{g g':Nat→Option aZ}{nid:Nat} :∀ (l:List Nat),(∀ b∈l,g' b=g b)→vG g' nid l=vG g nid l
  | [],_=>rfl
  | b::l,h=>by simp only [vG];rw [h b (by simp),EZ l (fun x hx=>h x (by simp [hx]))]
theorem QH{C:HM}{run:lJ}{g g':Nat→Option aZ}{nid:Nat}{p:nC}{fid:FuncId}{vals:List AV}{r:WG}(h:OD C run g nid p fid vals=some r)(hg:∀ b∈r.reads,g' b=g b) :OD C run g' nid p fid vals=some r:=by
  have hreads:r.reads=ud g oL (pD (vF (C.mode fid).mask vals)) []++(qS (sZ (ud g oL (pD (vF (C.mode fid).mask vals)) []) 0) g (C.mode fid).mask vals).2:=by
    unfold OD at h
    simp only at h
    generalize (Dq (ud g oL (pD (vF (C.mode fid).mask vals)) [])&&vG g nid (ud g oL (pD (vF (C.mode fid).mask vals)) []))=c at h
    cases c with
    | false=>cases h
    | true =>
      simp only [cond_true] at h
      split at h
      case h_2=>cases h
      rename_i r' obs p' hl
      cases hle:Nat.ble r'.own.length ((ud g oL (pD (vF (C.mode fid).mask vals)) []).length+yk) with
      | false=>rw [hle] at h;cases h
      | true=>rw [hle] at h;simp only [cond_true,Option.some.injEq] at h;rw [←h]
  rw [hreads] at hg
  have e1:=EY (g:=g) (g':=g') oL (pD (vF (C.mode fid).mask vals)) [] (fun b hb=>hg b (by simp [hb]))
  have e2:=vH (σ:=sZ (ud g oL (pD (vF (C.mode fid).mask vals)) []) 0) (g:=g) (g':=g') (C.mode fid).mask vals (fun b hb=>hg b (by simp [hb]))
  have e3:=Iu (σ:=sZ (ud g oL (pD (vF (C.mode fid).mask vals)) []) 0) (g:=g) (g':=g') (ud g oL (pD (vF (C.mode fid).mask vals)) []) (fun b hb=>hg b (by simp [hb]))
  have e4:=EZ (nid:=nid) (g:=g) (g':=g') (ud g oL (pD (vF (C.mode fid).mask vals)) []) (fun b hb=>hg b (by simp [hb]))
  unfold OD at h ⊢
  simp only at h ⊢
  rw [e1,e2,e3,e4]
  exact h
theorem QJ{P:Program}{g g':Nat→Option aZ}{t:TypeId}{s x:AV}{r:Nat×Nat×aZ×List Bool×List Nat}(h:OB P g t s x=some r)(hg:∀ b∈r.2.2.2.2,g' b=g b) :OB P g' t s x=some r:=by
  unfold OB at h ⊢
  split at h
  case h_2=>cases h
  rename_i e b w es i len cap ht
  split at h
  case h_2=>cases h
  rename_i inf blk m es' nb obs rs hi hb hsrc
  have hr:r.2.2.2.2=b::rs:=by
    cases h1:Nat.beq inf.size 1&&Nat.beq es' 1 with
    | false=>rw [h1] at h;cases h
    | true =>
      rw [h1] at h
      simp only [cond_true,Option.map_eq_some_iff] at h
      obtain ⟨_,_,rfl⟩:=h
      rfl
  have q1:g' b=some blk:=by rw [hg b (by rw [hr];simp)];exact hb
  have q2:=Ds hsrc (g':=g') (fun c hc=>hg c (by rw [hr];exact List.mem_cons_of_mem _ hc))
  rw [hi,q1,q2]
  exact h
theorem Tg{C:HM}{run:lJ}{e e':Operand→AV}{g g':Nat→Option aZ}{nid:Nat}{p:nC}{op:Op}{r:WG}(h:Wf C run e g nid p op=some r)(he:∀ x∈op.operands,e' x=e x)(hg:∀ b∈r.reads,g' b=g b) :
    Wf C run e' g' nid p op=some r:=by
  unfold Wf at h ⊢
  rw [Po he]
  split at h
  · exact h
  · rename_i hp
    clear hp
    split at h
    all_goals simp only [Op.operands,Call.operands] at he
    · rename_i t x
      simp only [Option.map_eq_some_iff] at h ⊢
      obtain ⟨r',h1,rfl⟩:=h
      exact ⟨r',by rw [he x (by simp)];exact QG h1 hg,rfl⟩
    · rename_i t x v
      simp only [Option.map_eq_some_iff] at h ⊢
      obtain ⟨r',h1,rfl⟩:=h
      exact ⟨r',by rw [he x (by simp),he v (by simp)];exact Pp h1 (hg _ (by simp)),rfl⟩
    · exact h
    · rename_i t x;rw [he x (by simp)];exact h
    · rename_i t l c;rw [he l (by simp),he c (by simp)];exact h
    · rename_i t parts
      have:(parts.toList.map fun x=>(x.1,e' x.2))=(parts.toList.map fun x=>(x.1,e x.2)):=List.map_congr_left fun x hx=>by rw [he x.2 (by simp;exact ⟨x.1,by simpa using hx⟩)]
      rw [this];exact h
    · rename_i t len parts
      have:(parts.toList.map fun x=>(x.1,e' x.2))=(parts.toList.map fun x=>(x.1,e x.2)):=List.map_congr_left fun x hx=>by rw [he x.2 (by simp;exact ⟨x.1,by simpa using hx⟩)]
      rw [this];exact h
    · rename_i args ats
      split at h
      case h_2=>cases h
      rename_i s x t t' e1 e2
      cases ht:Nat.beq t t' with
      | false=>rw [ht] at h;cases h
      | true =>
      rw [ht] at h
      simp only [cond_true] at h ⊢
      have ea:args = #[s,x]:=by rw [←e1]
      subst ea
      rw [he s (by simp),he x (by simp)]
      split at h
      case h_2=>cases h
      rename_i alts rs ha
      simp only [Option.map_eq_some_iff] at h ⊢
      obtain ⟨r',h1,rfl⟩:=h
      have:=NK (g':=g') ha hg
      simp only [this,Option.map_eq_some_iff]
      exact ⟨r',h1,rfl⟩
    · rename_i args ats
      split at h
      case h_2=>cases h
      rename_i s x t t' e1 e2
      have ea:args = #[s,x]:=by rw [←e1]
      subst ea
      rw [he s (by simp),he x (by simp)]
      simp only [Option.map_eq_some_iff] at h ⊢
      obtain ⟨r',h1,rfl⟩:=h
      exact ⟨r',QJ h1 hg,rfl⟩
    · rename_i f args ats
      have hf:e' f=e f:=he f (by simp)
      have hargs:args.toList.map e'=args.toList.map e:=List.map_congr_left fun x hx=>he x (by simp at hx;simp [hx])
      split at h
      case h_2=>cases h
      rename_i fid l hca
      have:Ip e' f args=some (fid,l):=by
        unfold Ip at hca ⊢
        rw [hf,hargs];exact hca
      simp only [this]
      split at h
      · exact h
      · exact QH h hg
    · cases h
def RW(l:List Operand) :List Nat:=l.filterMap fun | .tmp t=>some t | _=>none
def zn(ops:Array Oper)(o:Oper) :List Nat :=
  (match o.dst with | some d=>[d] | none=>[])++(RW o.op.operands.toList++(match o.guard with | some (j,_)=>(match F6 ops j with | some d=>[d] | none=>[]) | none=>[]))
def w6(s:List (Nat×Option aZ)) :List Nat:=s.map Prod.fst
def F9(ms:List Nat)(o:Oper) :Nat:=o.after.toList.foldl (fun m e=>bif Region.binds .any e then m ||| (2^e.on ||| ms.getD e.on 0) else m) 0
def Uc(x:Nat) :List Nat→Bool
  | []=>false
  | y::l=>Nat.beq x y||Uc x l
def RX:List Nat→List Nat→Bool
  | [],_=>true
  | x::l,m=>!Uc x m&&RX l m
theorem QK{x:Nat} :∀ {l:List Nat},Uc x l=true↔x∈l
  | []=>by simp [Uc]
  | y::l=>by simp [Uc,QK (l:=l)]
theorem Ga{l m:List Nat}(h:RX l m=true) :∀ x,x∈l→x∈m→False:=by
  induction l with
  | nil=>intro x hx;cases hx
  | cons y l ih =>
    simp only [RX,Bool.and_eq_true,Bool.not_eq_true'] at h
    intro x hx hm
    rcases List.mem_cons.1 hx with rfl | hx
    · have:=QK.2 hm;rw [this] at h;cases h.1
    · exact ih h.2 x hx hm
def wH(ops:Array Oper)(o:Oper)(r:F5)(o':Oper)(r':F5) :Bool :=
  RX o.dst.toList (zn ops o')&&(RX o'.dst.toList (zn ops o)&&(RX (w6 r.sets) (r'.reads++w6 r'.sets)&&RX (w6 r'.sets) (r.reads++w6 r.sets)))
def E1(ops:Array Oper)(mask:Nat)(o':Oper)(r':F5) :Nat→List (Oper×F5)→Bool
  | _,[]=>true
  | i,x::l=>(mask.testBit i||wH ops x.1 x.2 o' r')&&E1 ops mask o' r' (i+1) l
def Mh(ops:Array Oper) :List (Oper×F5)→List Nat→List (Oper×F5)→Bool
  | _,_,[]=>true
  | pre,ms,x::l =>
    x.1.after.toList.all (fun e=>!Region.binds .any e||Nat.blt e.on pre.length) &&
    (E1 ops (F9 ms x.1) x.1 x.2 0 pre&&Mh ops (pre++[x]) (ms++[F9 ms x.1]) l)
def vB(L:Nat→Bool) :Nat→List (Oper×F5)→List AV×fh→List AV×fh
  | _,[],s=>s
  | i,x::l,s=>vB L (i+1) l (bif L i then (Ir s.1 x.1.dst x.2.v,hX x.2.sets s.2) else s)
theorem Iv(T:List AV)(d:Option Nat)(v:AV)(t:Nat) :(Ir T d v)[t]? = if d=some t then (T[t]?).map (fun _=>v) else T[t]?:=by
  cases d with
  | none=>simp [Ir]
  | some d =>
    simp only [Ir,Option.some.injEq]
    rw [List.getElem?_set]
    by_cases h:d=t
    · subst h
      simp only [if_true]
      by_cases hl:d<T.length
      · simp [hl]
      · simp [hl]
    · simp [h]
theorem xJ{h h':fh}{b:Nat} :∀ (s:List (Nat×Option aZ)) {h h':fh},bP h b=bP h' b→bP (hX s h) b=bP (hX s h') b
  | [],_,_,e=>e
  | (c,some d)::s,h,h',e=>by
    simp only [hX]
    exact xJ (h:=h) (h':=h') s (by rw [iQ,iQ,e])
  | (c,none)::s,h,h',e=>by
    simp only [hX]
    exact xJ (h:=h) (h':=h') s (by rw [wY,wY,e])
theorem xK{b:Nat} :∀ (s:List (Nat×Option aZ)) {h:fh},b ∉ w6 s→bP (hX s h) b=bP h b
  | [],_,_=>rfl
  | (c,some d)::s,h,hb=>by
    simp only [w6,List.map_cons,List.mem_cons,not_or] at hb
    simp only [hX]
    rw [xK s hb.2,iQ,if_neg (fun e=>hb.1 e.symm)]
  | (c,none)::s,h,hb=>by
    simp only [w6,List.map_cons,List.mem_cons,not_or] at hb
    simp only [hX]
    rw [xK s hb.2,wY,if_neg (fun e=>hb.1 e.symm)]
theorem Pq{L L':Nat→Bool}{t:Nat} :∀ (l:List (Oper×F5)) (i:Nat) {s s':List AV×fh},(∀ k x,l[k]? = some x→x.1.dst=some t→L (i+k)=L' (i+k))→s.1[t]? = s'.1[t]?→(vB L i l s).1[t]? = (vB L' i l s').1[t]?
  | [],_,_,_,_,e=>e
  | x::l,i,s,s',h,e=>by
    simp only [vB]
    refine Pq l (i+1) (fun k y hy hd=>by have:=h (k+1) y (by simpa using hy) hd;rw [show i+1+k=i+(k+1) from by omega];exact this) ?_
    by_cases hd:x.1.dst=some t
    · have:=h 0 x (by simp) hd
      simp only [Nat.add_zero] at this
      rw [this]
      cases L' i with
      | true=>simp only [cond_true,Iv,hd,if_true,e]
      | false=>exact e
    · cases L i<;>cases L' i<;>simp only [cond_true,cond_false,Iv,if_neg hd,e]
theorem Pr{L L':Nat→Bool}{b:Nat} :∀ (l:List (Oper×F5)) (i:Nat) {s s':List AV×fh},(∀ k x,l[k]? = some x→b∈w6 x.2.sets→L (i+k)=L' (i+k))→bP s.2 b=bP s'.2 b→bP (vB L i l s).2 b=bP (vB L' i l s').2 b
  | [],_,_,_,_,e=>e
  | x::l,i,s,s',h,e=>by
    simp only [vB]
    refine Pr l (i+1) (fun k y hy hd=>by have:=h (k+1) y (by simpa using hy) hd;rw [show i+1+k=i+(k+1) from by omega];exact this) ?_
    by_cases hd:b∈w6 x.2.sets
    · have:=h 0 x (by simp) hd
      simp only [Nat.add_zero] at this
      rw [this]
      cases L' i with
      | true=>simp only [cond_true];exact xJ (h:=s.2) (h':=s'.2) _ e
      | false=>exact e
    · cases L i<;>cases L' i<;>simp only [cond_true,cond_false,xK _ hd,e]
def gp:List (Oper×F5)→List AV×fh→List AV×fh
  | [],s=>s
  | x::l,s=>gp l (Ir s.1 x.1.dst x.2.v,hX x.2.sets s.2)
theorem Mi(l m:List (Oper×F5))(s:List AV×fh) :gp (l++m) s=gp m (gp l s):=by
  induction l generalizing s with
  | nil=>rfl
  | cons x l ih=>simp only [List.cons_append,gp,ih]
theorem LK:∀ (l:List (Oper×F5)) (i j:Nat) (s:List AV×fh),vB (fun k=>decide (k<i+j)) i l s=gp (l.take j) s
  | [],i,j,s=>by simp [vB,gp]
  | x::l,i,0,s=>by
    have:∀ (l:List (Oper×F5)) (i':Nat),i≤i'→∀ s,vB (fun k=>decide (k<i+0)) i' l s=s:=by
      intro l
      induction l with
      | nil=>intro _ _ s;rfl
      | cons y l ih =>
        intro i' hi s
        simp only [vB]
        have:decide (i'<i+0)=false:=by simp;omega
        rw [this];exact ih (i'+1) (by omega) s
    simp only [List.take_zero,gp]
    exact this _ i (Nat.le_refl _) s
  | x::l,i,j+1,s=>by
    simp only [vB,List.take_succ_cons,gp]
    have h1:decide (i<i+(j+1))=true:=by simp
    rw [h1]
    simp only [cond_true]
    have:=LK l (i+1) j (Ir s.1 x.1.dst x.2.v,hX x.2.sets s.2)
    rw [show i+1+j=i+(j+1) from by omega] at this
    exact this
structure Ud (ops:Array Oper) (l:List (Oper×F5)) (ms:List Nat):Prop where
  edge:∀ (j:Nat) (x:Oper×F5),l[j]? = some x→∀ e∈x.1.after,Region.binds .any e=true→e.on<j
  mask:∀ (j:Nat) (x:Oper×F5),l[j]? = some x→∃ m:Nat,ms[j]? = some m∧∀ i:Nat,m.testBit i=true→∃ e∈x.1.after,Region.binds .any e=true∧(e.on=i∨∃ m':Nat,ms[e.on]? = some m'∧m'.testBit i=true)
  pair:∀ (i j:Nat) (x y:Oper×F5),l[i]? = some x→l[j]? = some y→i<j→(∃ m:Nat,ms[j]? = some m∧m.testBit i=true)∨wH ops x.1 x.2 y.1 y.2=true
theorem Mj(ms:List Nat) :∀ (es:List Edge) (m0 i:Nat),(es.foldl (fun m e=>bif Region.binds .any e then m ||| (2^e.on ||| ms.getD e.on 0) else m) m0).testBit i=true →
    m0.testBit i=true∨∃ e∈es,Region.binds .any e=true∧(e.on=i∨(ms.getD e.on 0).testBit i=true)
  | [],m0,i,h=>.inl h
  | e::es,m0,i,h=>by
    simp only [List.foldl_cons] at h
    rcases Mj ms es _ i h with h | ⟨e',h1,h2,h3⟩
    · cases hb:Region.binds .any e with
      | false=>rw [hb] at h;exact .inl h
      | true =>
        rw [hb] at h
        simp only [cond_true,Nat.testBit_or,Bool.or_eq_true,Nat.testBit_two_pow,decide_eq_true_eq] at h
        rcases h with h | h | h
        · exact .inl h
        · exact .inr ⟨e,by simp,hb,.inl h⟩
        · exact .inr ⟨e,by simp,hb,.inr h⟩
    · exact .inr ⟨e',by simp [h1],h2,h3⟩
theorem GJ{ops:Array Oper}{mask:Nat}{o':Oper}{r':F5} :∀ {l:List (Oper×F5)} {i:Nat},E1 ops mask o' r' i l=true→∀ k x,l[k]? = some x→mask.testBit (i+k)=true∨wH ops x.1 x.2 o' r'=true
  | [],_,_,k,x,h=>by simp at h
  | y::l,i,h,0,x,hx=>by
    simp only [E1,Bool.and_eq_true,Bool.or_eq_true] at h
    simp at hx;subst hx;simpa using h.1
  | y::l,i,h,k+1,x,hx=>by
    simp only [E1,Bool.and_eq_true,Bool.or_eq_true] at h
    have:=GJ h.2 k x (by simpa using hx)
    rw [show i+1+k=i+(k+1) from by omega] at this;exact this
theorem Kv{ops:Array Oper} :∀ (l pre:List (Oper×F5)) (ms:List Nat),ms.length=pre.length→Mh ops pre ms l=true→Ud ops pre ms→∃ ms',Ud ops (pre++l) ms'
  | [],pre,ms,_,_,D=>⟨ms,by simpa using D⟩
  | x::l,pre,ms,hl,h,D=>by
    simp only [Mh,Bool.and_eq_true] at h
    obtain ⟨h1,h2,h3⟩:=h
    have:=Kv l (pre++[x]) (ms++[F9 ms x.1]) (by simp [hl]) h3 ?_
    · simpa using this
    have old:∀ (j:Nat) (y:Oper×F5),(pre++[x])[j]? = some y→(j<pre.length∧pre[j]? = some y)∨(j=pre.length∧y=x):=by
      intro j y hy
      rw [List.getElem?_append] at hy
      split at hy
      · rename_i q;exact .inl ⟨q,hy⟩
      · rename_i q
        have:j-pre.length=0:=by
          rcases Nat.eq_zero_or_pos (j-pre.length) with r | r
          · exact r
          · rw [List.getElem?_eq_none (by simp;omega)] at hy;cases hy
        rw [this] at hy;simp at hy;exact .inr ⟨by omega,hy.symm⟩
    have msl:∀ (j m:Nat),ms[j]? = some m→(ms++[F9 ms x.1])[j]? = some m:=by
      intro j m hm
      rw [List.getElem?_append_left (List.getElem?_eq_some_iff.1 hm).1];exact hm
    have msn:(ms++[F9 ms x.1])[pre.length]? = some (F9 ms x.1):=by
      rw [←hl,List.getElem?_append_right (Nat.le_refl _)];simp
    have hedge:∀ e∈x.1.after,Region.binds .any e=true→e.on<pre.length:=by
      intro e he hb
      have:=List.all_eq_true.1 h1 e (by simpa using he)
      rw [hb] at this
      simpa [Nat.blt_eq] using this
    refine ⟨fun j y hy=>?_,fun j y hy=>?_,fun i j a b ha hb hij=>?_⟩
    · rcases old j y hy with ⟨q,hy⟩ | ⟨rfl,rfl⟩
      · exact D.edge j y hy
      · exact hedge
    · rcases old j y hy with ⟨q,hy⟩ | ⟨rfl,rfl⟩
      · obtain ⟨m,k1,k2⟩:=D.mask j y hy
        refine ⟨m,msl j m k1,fun i hi=>?_⟩
        obtain ⟨e,e1,e2,e3⟩:=k2 i hi
        exact ⟨e,e1,e2,e3.imp id fun ⟨m',q1,q2⟩=>⟨m',msl _ m' q1,q2⟩⟩
      · refine ⟨_,msn,fun i hi=>?_⟩
        rcases Mj ms y.1.after.toList 0 i hi with q | ⟨e,e1,e2,e3⟩
        · simp at q
        · refine ⟨e,by simpa using e1,e2,e3.imp id fun q=>?_⟩
          rw [List.getD_eq_getElem?_getD] at q
          cases hm:ms[e.on]? with
          | none=>rw [hm] at q;simp at q
          | some m'=>rw [hm] at q;exact ⟨m',msl _ m' hm,q⟩
    · rcases old j b hb with ⟨q,hb⟩ | ⟨rfl,rfl⟩
      · rcases old i a ha with ⟨q',ha⟩ | ⟨rfl,rfl⟩
        · exact (D.pair i j a b ha hb hij).imp (fun ⟨m,k1,k2⟩=>⟨m,msl j m k1,k2⟩) id
        · omega
      · rcases old i a ha with ⟨q',ha⟩ | ⟨rfl,rfl⟩
        · have:=GJ h2 i a ha
          rw [Nat.zero_add] at this
          exact this.imp (fun k=>⟨_,msn,k⟩) id
        · omega
theorem RY{l:List Operand}{t:Nat}(h:Operand.tmp t∈l) :t∈RW l:=by
  simp only [RW,List.mem_filterMap];exact ⟨_,h,rfl⟩
theorem QL{C:HM}{run:lJ}{ops:Array Oper}{n0 i:Nat}{o:Oper}{T T':List AV}{h h':fh}{p p':nC}{r:F5}{obs:List Bool}(hr:Iq C run ops n0 i o T h p=some (r,obs,p')) 
    (hT:∀ t∈zn ops o,T'[t]? = T[t]?) (hh:∀ b∈r.reads,bP h' b=bP h b):Iq C run ops n0 i o T' h' p=some (r,obs,p'):=by
  have hw:F7 ops o T'=F7 ops o T:=by
    unfold F7
    cases hg:o.guard with
    | none=>rfl
    | some x =>
      obtain ⟨j,want⟩:=x
      simp only
      cases hs:F6 ops j with
      | none=>rfl
      | some d=>simp only;rw [hT d (by simp [zn,hg,hs])]
  unfold Iq at hr ⊢
  rw [hw]
  split at hr
  · cases hr
  · exact hr
  · split at hr
    · cases hr
    · rename_i r' hop
      have:Wf C run (Ve T') (bP h') (n0+i*yk) p o.op=some r':=by
        refine Tg hop (fun x hx=>?_) (fun b hb=>?_)
        · cases x with
          | tmp t=>simp only [Ve];rw [hT t (by simp only [zn,List.mem_append];exact .inr (.inl (RY (by simpa using hx))))]
          | _=>rfl
        · apply hh
          split at hr
          · cases hr
          · simp only [Option.some.injEq,Prod.mk.injEq] at hr;rw [←hr.1];exact hb
      simp only [this]
      exact hr
def Mk(C:HM)(run:lJ)(ops:Array Oper)(n0:Nat) :Nat→List Oper→List AV→fh→nC→Option (List F5×List AV×fh×List Bool×nC)
  | _,[],T,h,p=>some ([],T,h,[],p)
  | i,o::l,T,h,p =>
    match Iq C run ops n0 i o T h p with
    | none=>none
    | some (r,obs,p') =>
      match Mk C run ops n0 (i+1) l (Ir T o.dst r.v) (hX r.sets h) p' with
      | none=>none
      | some (rs,T',h',obs',p'')=>some (r::rs,T',h',obs++obs',p'')
theorem Kw{C:HM}{run:lJ}{ops:Array Oper}{n0:Nat} :∀ (l:List Oper) (i:Nat) {T T':List AV} {h h':fh} {p p':nC} {obs:List Bool} {rs:List F5},Mk C run ops n0 i l T h p=some (rs,T',h',obs,p')→aX obs →
    rs.length=l.length∧gp (l.zip rs) (T,h)=(T',h')∧∀ (j:Nat) (o:Oper),l[j]? = some o→∃ r obs' q q',rs[j]? = some r∧aX obs' ∧
      Iq C run ops n0 (i+j) o (gp ((l.zip rs).take j) (T,h)).1 (gp ((l.zip rs).take j) (T,h)).2 q=some (r,obs',q')
  | [],i,T,T',h,h',p,p',obs,rs,hr,_=>by
    simp only [Mk,Option.some.injEq,Prod.mk.injEq] at hr;obtain ⟨rfl,rfl,rfl,rfl,rfl⟩:=hr
    exact ⟨rfl,rfl,fun j o h=>by simp at h⟩
  | o::l,i,T,T',h,h',p,p',obs,rs,hr,ho=>by
    simp only [Mk] at hr
    split at hr
    case h_1=>cases hr
    rename_i r obs1 p1 h1
    split at hr
    case h_1=>cases hr
    rename_i rs2 T2 h2 obs2 p2 h3
    simp only [Option.some.injEq,Prod.mk.injEq] at hr;obtain ⟨rfl,rfl,rfl,rfl,rfl⟩:=hr
    rw [cg] at ho
    obtain ⟨a1,a2,a3⟩:=Kw l (i+1) h3 ho.2
    refine ⟨by simp [a1],by simpa [gp] using a2,fun j o' hj=>?_⟩
    cases j with
    | zero=>simp at hj;subst hj;exact ⟨r,obs1,p,p1,by simp,ho.1,by simpa [gp] using h1⟩
    | succ j =>
      obtain ⟨r',ob,q,q',b1,b2,b3⟩:=a3 j o' (by simpa using hj)
      refine ⟨r',ob,q,q',by simpa using b1,b2,?_⟩
      rw [show i+(j+1)=i+1+j from by omega]
      simpa [gp] using b3
theorem OF{p q:Nat→Bool} :∀ {l:List Nat} {j:Nat},j∈l→p j=true→q j=false→(∀ i,q i=true→p i=true)→l.countP q<l.countP p
  | [],_,h,_,_,_=>by cases h
  | x::l,j,h,hp,hq,hi=>by
    have mono:∀ l:List Nat,l.countP q≤l.countP p:=fun l=>List.countP_mono_left fun x _=>hi x
    simp only [List.countP_cons]
    rcases List.mem_cons.1 h with rfl | h
    · rw [hp,hq];have:=mono l;simp;omega
    · have:=OF h hp hq hi
      by_cases hx:q x=true
      · rw [hx,hi x hx];omega
      · have hq':q x=false:=by simpa using hx
        rw [hq'];simp only [Bool.false_eq_true,if_false];split<;>omega
theorem Vj{i j y:Nat}(h1:i*yk≤y)(h2:y<i*yk+yk)(h3:j*yk≤y)(h4:y<j*yk+yk) :i=j:=by
  have hS:0<yk:=by decide
  have a:y/yk=i:=by rw [Nat.div_eq_iff hS];omega
  have b:y/yk=j:=by rw [Nat.div_eq_iff hS];omega
  omega
theorem Ue{C:HM}(hC:C.Ok){run:lJ}(hrun:Mc C.P run){ops:Array Oper}{n0:Nat}{T0:List AV}{h0:fh}{rs:List F5}{ms:List Nat}(D:Ud ops (ops.toList.zip rs) ms)(hlen:rs.length=ops.size) 
    (each:∀ (j:Nat) (o:Oper),ops.toList[j]? = some o→∃ r obs' q q',rs[j]? = some r∧aX obs' ∧
      Iq C run ops n0 j o (gp ((ops.toList.zip rs).take j) (T0,h0)).1 (gp ((ops.toList.zip rs).take j) (T0,h0)).2 q=some (r,obs',q'))
    {Q:Exit→Act→World→Prop}:∀ (fuel:Nat) (listed:Array Bool),listed.size=ops.size→(∀ (j:Nat) (o:Oper),ops[j]? = some o→listed.getD j false=true→∀ e∈o.after,Region.binds .any e=true→listed.getD e.on false=true) →
      (List.range ops.size).countP (fun i=>!listed.getD i false)≤fuel→∀ {ρ:aG} {w:World} {a:Act},HR ρ w (vB (fun i=>listed.getD i false) 0 (ops.toList.zip rs) (T0,h0)).2 (n0+ops.size*yk) →
      (∀ b,ρ.ok b→b<n0∨∃ i,listed.getD i false=true∧n0+i*yk≤b∧b<n0+i*yk+yk)→a.defers=[]→je ρ w (vB (fun i=>listed.getD i false) 0 (ops.toList.zip rs) (T0,h0)).1 a.tmps.toList →
      (∀ ρ' w' a',vz ρ ρ' w→qO ρ.live w w'→HR ρ' w' (gp (ops.toList.zip rs) (T0,h0)).2 (n0+ops.size*yk)→a'.defers=[]→je ρ' w' (gp (ops.toList.zip rs) (T0,h0)).1 a'.tmps.toList→(∀ b,ρ'.ok b→ρ.ok b∨n0≤b)→Q .normal a' w') →
      wpAny C.P .any ops Q fuel listed a w:=by
  have hzl:(ops.toList.zip rs).length=ops.size:=by simp [hlen]
  have zget:∀ (j:Nat) (o:Oper) (r:F5),ops[j]? = some o→rs[j]? = some r→(ops.toList.zip rs)[j]? = some (o,r):=by
    intro j o r h1 h2
    rw [List.getElem?_zip_eq_some];exact ⟨by simpa using h1,h2⟩
  have zinv:∀ (j:Nat) (x:Oper×F5),(ops.toList.zip rs)[j]? = some x→ops[j]? = some x.1∧rs[j]? = some x.2:=by
    intro j x hx
    have:=List.getElem?_zip_eq_some.1 (show (ops.toList.zip rs)[j]? = some (x.1,x.2) from hx)
    exact ⟨by simpa using this.1,this.2⟩

  have allL:∀ (listed:Array Bool),listed.size=ops.size→(∀ i,i<ops.size→listed.getD i false=true)→vB (fun i=>listed.getD i false) 0 (ops.toList.zip rs) (T0,h0)=gp (ops.toList.zip rs) (T0,h0):=by
    intro listed hs hall
    have:∀ (l:List (Oper×F5)) (i:Nat) (s:List AV×fh),i+l.length≤ops.size→vB (fun i=>listed.getD i false) i l s=gp l s:=by
      intro l
      induction l with
      | nil=>intro _ _ _;rfl
      | cons x l ih =>
        intro i s hi
        simp only [List.length_cons] at hi
        simp only [vB,gp]
        rw [hall i (by omega)]
        exact ih (i+1) _ (by omega)
    exact this _ 0 _ (by rw [hzl];omega)

  have down:∀ (listed:Array Bool),(∀ (j:Nat) (o:Oper),ops[j]? = some o→listed.getD j false=true→∀ e∈o.after,Region.binds .any e=true→listed.getD e.on false=true) →
      ∀ (j:Nat) (o:Oper),ops[j]? = some o→(∀ e∈o.after,Region.binds .any e=true→listed.getD e.on false=true)→∀ (i m:Nat),ms[j]? = some m→m.testBit i=true→listed.getD i false=true:=by
    intro listed hcl j
    induction j using Nat.strongRecOn with
    | _ j ih =>
      intro o ho hpre i m hm hbit
      have hlt:j<ops.size:=(Array.getElem?_eq_some_iff.1 ho).1
      obtain ⟨r,hr⟩:∃ r,rs[j]? = some r:=⟨rs[j]'(by omega),List.getElem?_eq_getElem (by omega)⟩
      have hz:=zget j o r ho hr
      obtain ⟨m',k1,k2⟩:=D.mask j _ hz
      rw [hm] at k1;cases k1
      obtain ⟨e,e1,e2,e3⟩:=k2 i hbit
      have hL:=hpre e e1 e2
      rcases e3 with rfl | ⟨m'',q1,q2⟩
      · exact hL
      · have hej:=D.edge j _ hz e e1 e2
        have hon:e.on<ops.size:=by omega
        exact ih e.on hej _ (Array.getElem?_eq_getElem hon) (hcl e.on _ (Array.getElem?_eq_getElem hon) hL) i m'' q1 q2
  intro fuel
  induction fuel with
  | zero =>
    intro listed hs hcl hcnt ρ w a hh hok hd hT hQ
    have hall:∀ i,i<ops.size→listed.getD i false=true:=by
      intro i hi
      have h0:=List.countP_eq_zero.1 (Nat.le_zero.1 hcnt) i (List.mem_range.2 hi)
      simpa using h0
    simp only [wpAny]
    refine ⟨?_,?_⟩
    · cases hr:Region.ready .any ops listed with
      | nil=>rfl
      | cons x xs =>
        have hx:x∈Region.ready .any ops listed:=by rw [hr];simp
        obtain ⟨k1,o,k2,_⟩:=mem_ready.1 hx
        have hlt:x<ops.size:=(Array.getElem?_eq_some_iff.1 k2).1
        have:=hall x hlt
        rw [Array.getD_eq_getD_getElem?,Array.getElem?_eq_getElem (by omega)] at this k1
        simp only [Option.getD_some] at this k1
        rw [this] at k1;cases k1
    · rw [allL listed hs hall] at hh hT
      exact hQ ρ w a (vz.refl _ _) (qO.refl _ _) hh hd hT (fun b q=>.inl q)
  | succ fuel ih =>
    intro listed hs hcl hcnt ρ w a hh hok hd hT hQ
    simp only [wpAny]
    have sameD:∀ j,j<ops.size→listed.getD j true=listed.getD j false:=by
      intro j hj
      rw [Array.getD_eq_getD_getElem?,Array.getD_eq_getD_getElem?,Array.getElem?_eq_getElem (by omega)];rfl
    refine ⟨fun hr=>?_,fun j hj=>?_⟩
    · have hall:∀ i,i<ops.size→listed.getD i false=true:=by
        intro i
        induction i using Nat.strongRecOn with
        | _ i ihi =>
          intro hi
          cases hl:listed.getD i false with
          | true=>rfl
          | false =>
            have ho:=Array.getElem?_eq_getElem hi
            obtain ⟨r,hrr⟩:∃ r,rs[i]? = some r:=⟨rs[i]'(by omega),List.getElem?_eq_getElem (by omega)⟩
            have hz:=zget i _ r ho hrr
            have:i∈Region.ready .any ops listed:=mem_ready.2 ⟨by rw [sameD i hi];exact hl,_,ho,fun e he hb=>ihi e.on (D.edge i _ hz e he hb) (by have:=D.edge i _ hz e he hb;omega)⟩
            rw [hr] at this;cases this
      rw [allL listed hs hall] at hh hT
      exact hQ ρ w a (vz.refl _ _) (qO.refl _ _) hh hd hT (fun b q=>.inl q)
    · obtain ⟨k1,o,ho,hpre⟩:=mem_ready.1 hj
      have hlt:j<ops.size:=(Array.getElem?_eq_some_iff.1 ho).1
      rw [sameD j hlt] at k1
      obtain ⟨r,obs',q,q',hr,hob,hone⟩:=each j o (by simpa using ho)
      have hz:=zget j o r ho hr

      have agree:∀ (i:Nat) (x:Oper×F5),(ops.toList.zip rs)[i]? = some x→i≠j→wH ops x.1 x.2 o r=false→wH ops o r x.1 x.2=false→listed.getD i false=decide (i<j):=by
        intro i x hx hne n1 n2
        have hxi:=zinv i x hx
        rcases Nat.lt_or_gt_of_ne hne with hij | hij
        · rcases D.pair i j x (o,r) hx hz hij with ⟨m,hm,hb⟩ | hap
          · rw [down listed hcl j o ho hpre i m hm hb];simp [hij]
          · simp only at hap;rw [n1] at hap;cases hap
        · rcases D.pair j i (o,r) x hz hx hij with ⟨m,hm,hb⟩ | hap
          · have : ¬ i<j:=by omega
            simp only [this,decide_false]
            cases hl:listed.getD i false with
            | false=>rfl
            | true =>
              have:=down listed hcl i x.1 hxi.1 (hcl i x.1 hxi.1 hl) j m hm hb
              rw [k1] at this;cases this
          · simp only at hap;rw [n2] at hap;cases hap
      have napT:∀ (x:Oper×F5) (t:Nat),x.1.dst=some t→t∈zn ops o→wH ops x.1 x.2 o r=false∧wH ops o r x.1 x.2=false:=by
        intro x t hdst ht
        constructor
        · cases hap:wH ops x.1 x.2 o r with
          | false=>rfl
          | true=>simp only [wH,Bool.and_eq_true] at hap;exact (Ga hap.1 t (by simp [hdst]) ht).elim
        · cases hap:wH ops o r x.1 x.2 with
          | false=>rfl
          | true=>simp only [wH,Bool.and_eq_true] at hap;exact (Ga hap.2.1 t (by simp [hdst]) ht).elim
      have napH:∀ (x:Oper×F5) (b:Nat),b∈w6 x.2.sets→b∈r.reads++w6 r.sets→wH ops x.1 x.2 o r=false∧wH ops o r x.1 x.2=false:=by
        intro x b hx hb
        constructor
        · cases hap:wH ops x.1 x.2 o r with
          | false=>rfl
          | true=>simp only [wH,Bool.and_eq_true] at hap;exact (Ga hap.2.2.1 b hx hb).elim
        · cases hap:wH ops o r x.1 x.2 with
          | false=>rfl
          | true=>simp only [wH,Bool.and_eq_true] at hap;exact (Ga hap.2.2.2 b hx hb).elim
      have eqT:∀ t∈zn ops o,(vB (fun i=>listed.getD i false) 0 (ops.toList.zip rs) (T0,h0)).1[t]? = (gp ((ops.toList.zip rs).take j) (T0,h0)).1[t]?:=by
        intro t ht
        have:=LK (ops.toList.zip rs) 0 j (T0,h0)
        rw [←this]
        refine Pq _ 0 (fun k x hx hdst=>?_) rfl
        rw [Nat.zero_add,Nat.zero_add]
        by_cases hkj:k=j
        · subst hkj;rw [k1];simp
        · obtain ⟨n1,n2⟩:=napT x t hdst ht;exact agree k x hx hkj n1 n2
      have eqH:∀ b∈r.reads++w6 r.sets,bP (vB (fun i=>listed.getD i false) 0 (ops.toList.zip rs) (T0,h0)).2 b=bP (gp ((ops.toList.zip rs).take j) (T0,h0)).2 b:=by
        intro b hb
        have:=LK (ops.toList.zip rs) 0 j (T0,h0)
        rw [←this]
        refine Pr _ 0 (fun k x hx lI=>?_) rfl
        rw [Nat.zero_add,Nat.zero_add]
        by_cases hkj:k=j
        · subst hkj;rw [k1];simp
        · obtain ⟨n1,n2⟩:=napH x b lI hb;exact agree k x hx hkj n1 n2
      have hloc:=QL hone eqT (fun b hb=>eqH b (by simp [hb]))

      have L'eq:∀ i,(listed.setIfInBounds j true).getD i false=if i=j then true else listed.getD i false:=by
        intro i
        by_cases hij:i=j
        · subst hij;rw [if_pos rfl,Array.getD_eq_getD_getElem?];simp [hs,hlt]
        · rw [if_neg hij];exact getD_set_ne false (fun e=>hij e.symm)
      have step1:=LK (ops.toList.zip rs) 0 (j+1) (T0,h0)
      have hsplit:gp ((ops.toList.zip rs).take (j+1)) (T0,h0)=(Ir (gp ((ops.toList.zip rs).take j) (T0,h0)).1 o.dst r.v,hX r.sets (gp ((ops.toList.zip rs).take j) (T0,h0)).2):=by
        have hjl:j<(ops.toList.zip rs).length:=by rw [hzl];exact hlt
        have:(ops.toList.zip rs).take (j+1)=(ops.toList.zip rs).take j++[(o,r)]:=by
          rw [List.take_succ_eq_append_getElem hjl]
          have:=List.getElem?_eq_getElem hjl
          rw [hz] at this
          rw [←Option.some.inj this]
        rw [this,Mi];rfl
      have newT:∀ t:Nat,(Ir (vB (fun i=>listed.getD i false) 0 (ops.toList.zip rs) (T0,h0)).1 o.dst r.v)[t]? = (vB (fun i=>(listed.setIfInBounds j true).getD i false) 0 (ops.toList.zip rs) (T0,h0)).1[t]?:=by
        intro t
        rw [Iv]
        by_cases hdst:o.dst=some t
        · rw [if_pos hdst]
          have e1:=eqT t (by simp [zn,hdst])
          rw [e1]
          have e2:(vB (fun i=>(listed.setIfInBounds j true).getD i false) 0 (ops.toList.zip rs) (T0,h0)).1[t]? = (gp ((ops.toList.zip rs).take (j+1)) (T0,h0)).1[t]?:=by
            rw [←step1]
            refine Pq _ 0 (fun k x hx hd2=>?_) rfl
            rw [Nat.zero_add,Nat.zero_add,L'eq]
            by_cases hkj:k=j
            · subst hkj;simp
            · rw [if_neg hkj]
              obtain ⟨n1,n2⟩:=napT x t hd2 (by simp [zn,hdst])
              rw [agree k x hx hkj n1 n2]
              by_cases q:k<j<;>simp [q]<;>omega
          rw [e2,hsplit,Iv,if_pos hdst]
        · rw [if_neg hdst]
          refine Pq _ 0 (fun k x hx hd2=>?_) rfl
          rw [Nat.zero_add,L'eq]
          by_cases hkj:k=j
          · subst hkj;rw [hz] at hx;cases hx;exact absurd hd2 hdst
          · rw [if_neg hkj]
      have newH:∀ b:Nat,bP (vB (fun i=>(listed.setIfInBounds j true).getD i false) 0 (ops.toList.zip rs) (T0,h0)).2 b=bP (hX r.sets (vB (fun i=>listed.getD i false) 0 (ops.toList.zip rs) (T0,h0)).2) b:=by
        intro b
        by_cases hb:b∈w6 r.sets
        · rw [xJ (h:=(vB (fun i=>listed.getD i false) 0 (ops.toList.zip rs) (T0,h0)).2) (h':=(gp ((ops.toList.zip rs).take j) (T0,h0)).2) r.sets (eqH b (by simp [hb]))]
          have e2:bP (vB (fun i=>(listed.setIfInBounds j true).getD i false) 0 (ops.toList.zip rs) (T0,h0)).2 b=bP (gp ((ops.toList.zip rs).take (j+1)) (T0,h0)).2 b:=by
            rw [←step1]
            refine Pr _ 0 (fun k x hx hd2=>?_) rfl
            rw [Nat.zero_add,Nat.zero_add,L'eq]
            by_cases hkj:k=j
            · subst hkj;simp
            · rw [if_neg hkj]
              obtain ⟨n1,n2⟩:=napH x b hd2 (by simp [hb])
              rw [agree k x hx hkj n1 n2]
              by_cases q:k<j<;>simp [q]<;>omega
          rw [e2,hsplit]
        · rw [xK _ hb]
          refine Pr _ 0 (fun k x hx hd2=>?_) rfl
          rw [Nat.zero_add,L'eq]
          by_cases hkj:k=j
          · subst hkj;rw [hz] at hx;cases hx;exact absurd hd2 hb
          · rw [if_neg hkj]
      have hS:j*yk+yk≤ops.size*yk:=by rw [←Nat.succ_mul];exact Nat.mul_le_mul_right _ hlt
      refine Ku hC hrun ho hloc hob hh (fun x h1 h2 hbad=>?_) (by omega) hd hT ?_
      · rcases hok _ hbad with q | ⟨i,q1,q2,q3⟩
        · omega
        · have:i=j:=Vj (y:=x-n0) (by omega) (by omega) (by omega) (by omega)
          subst this;rw [k1] at q1;cases q1
      intro ρ' w' a' E W hh' hd' hT' hok'
      have hlist:Ir (vB (fun i=>listed.getD i false) 0 (ops.toList.zip rs) (T0,h0)).1 o.dst r.v=(vB (fun i=>(listed.setIfInBounds j true).getD i false) 0 (ops.toList.zip rs) (T0,h0)).1:=List.ext_getElem? newT
      rw [hlist] at hT'
      refine ih (listed.setIfInBounds j true) (by simpa using hs) (fun i x hx hl e he hb=>?_) ?_ (hh'.congr newH) (fun b hb=>?_) hd' hT' ?_
      · rw [L'eq] at hl ⊢
        by_cases hij:i=j
        · subst hij
          rw [ho] at hx;cases hx
          split
          · rfl
          · exact hpre e he hb
        · rw [if_neg hij] at hl
          split
          · rfl
          · exact hcl i x hx hl e he hb
      · have:=OF (l:=List.range ops.size) (j:=j) (p:=fun i=>!listed.getD i false) (q:=fun i=>!(listed.setIfInBounds j true).getD i false) (List.mem_range.2 hlt) (by simp only [k1];rfl) (by simp only [L'eq,if_true];rfl)
          (fun i hi=>by
            simp only [L'eq] at hi ⊢
            split at hi
            · cases hi
            · exact hi)
        omega
      · rcases hok' b hb with q | q
        · rcases hok b q with q | ⟨i,q1,q2⟩
          · exact .inl q
          · refine .inr ⟨i,?_,q2⟩
            rw [L'eq];split
            · rfl
            · exact q1
        · exact .inr ⟨j,by rw [L'eq,if_pos rfl],q⟩
      · intro ρ'' w'' a'' E' W' hh'' hd'' hT'' hb''
        exact hQ ρ'' w'' a'' (E.trans E' W.size) (W.trans W' (fun x hx q=>E.new x hx q)) hh'' hd'' hT'' (fun b q=>by
          rcases hb'' b q with q | q
          · rcases hok' b q with q | q
            · exact .inl q
            · exact .inr (by omega)
          · exact .inr q)
theorem Bw{d:aZ}(h:d.kept=true) :d.foreign=true:=by
  cases d<;>first | rfl | exact pA h
mutual
def OG (g:Nat→Option aZ):Nat→AV→AV
  | 0,_=>.any
  | n+1,v =>
    match v with
    | .ptr b w i j=>match g b with
      | some d=>let d':=E3 g n d;bif d'.kept then .iptr .free d' w i j else .any
      | none=>.any
    | .sl b w es i len _=>match g b with
      | some d=>let d':=E3 g n d;bif d'.kept then .imm .free d' w es i len else .any
      | none=>.any
    | .fn f l1 l2=>.fn f (Ml g n l1) (Ml g n l2)
    | .agg l=>.agg (Ml g n l)
    | .tup l=>.tup (Ml g n l)
    | .iface t v=>.iface t (OG g n v)
    | v=>v
def Ml (g:Nat→Option aZ):Nat→List AV→List AV
  | 0,l=>l.map fun _=>.any
  | n+1,l =>
    match l with
    | []=>[]
    | v::l=>OG g n v::Ml g n l
def E3 (g:Nat→Option aZ):Nat→aZ→aZ
  | 0,_=>.vs []
  | n+1,d =>
    match d with
    | .vs l=>.vs (Ml g n l)
    | d=>d
end
theorem Mm(g:Nat→Option aZ)(n:Nat)(d:aZ)(h:d.recKept) :(E3 g n d).recKept:=by
  cases n with
  | zero=>trivial
  | succ n=>cases d<;>first | exact h | trivial
structure Th (ρ τ:aG):Prop where
  out:τ.out=ρ.out
  live:∀ bl,τ.live bl→ρ.live bl
theorem Th.avoid{ρ τ:aG}(L:Th ρ τ){l:Lv}{bl:Nat}(h:ρ.avoid l bl) :τ.avoid l bl:=by
  refine Dg (d:=0) (fun j _ q=>?_) h
  cases j with
  | zero=>exact L.live bl q
  | succ j=>simp only [Nat.add_zero,aG.own] at q ⊢;rw [L.out] at q;exact q
theorem ko{ρ τ:aG}(L:Th ρ τ){w:World}{v:AV}{u:Value}(h:VR ρ w v u) :v.foreign=true→VR τ w v u:=by
  induction h using VR.rec (motive_2:=fun l c _=>dl l=true→je τ w l c) with
  | int k n=>exact fun _=>.int k n
  | bool kn b=>exact fun _=>.bool kn b
  | flt ex x y h=>exact fun _=>.flt ex x y h
  | str s=>exact fun _=>.str s
  | nptr=>exact fun _=>.nptr
  | ptr b k i j hb=>intro hk;simp [AV.foreign] at hk
  | iptr bw d k i j bl o u ha hb hc hv hr hk hg ih=>exact fun _=>.iptr bw d k i j bl o u (L.avoid ha) hb hc (fun x v hx=>ih x v hx (bU hr hg x v hx)) hr hk hg
  | nsl=>exact fun _=>.nsl
  | esl a=>exact fun _=>.esl a
  | zsl a c=>exact fun _=>.zsl a c
  | nan n h=>exact fun _=>.nan n h
  | sl b k es i len cap cap' hb hcap hl c t hh hs=>intro hk;simp [AV.foreign] at hk
  | slEnd b k es i a=>intro hk;simp [AV.foreign] at hk
  | imm bw d k es i len cap bl o u ha hb hc hv hl hr hk hg ih=>exact fun _=>.imm bw d k es i len cap bl o u (L.avoid ha) hb hc (fun x v hx=>ih x v hx (bU hr hg x v hx)) hl hr hk hg
  | immEnd bw d k es i cap a hr hk hg=>exact fun _=>.immEnd bw d k es i cap a hr hk hg
  | fn f l1 l2 c1 c2 h1 h2 i1 i2=>intro hk;simp only [AV.foreign,Bool.and_eq_true] at hk;exact .fn f l1 l2 c1 c2 (i1 hk.1) (i2 hk.2)
  | nfn=>exact fun _=>.nfn
  | agg l c h ih=>intro hk;exact .agg l c (ih hk)
  | tup l c h ih=>intro hk;exact .tup l c (ih hk)
  | iface t v u h ih=>intro hk;exact .iface t v u (ih hk)
  | niface=>exact fun _=>.niface
  | any u=>exact fun _=>.any u
  | nil=>exact je.nil
  | cons v u l c h t i1 i2=>rename_i hk;simp only [dl,Bool.and_eq_true] at hk;exact je.cons v u l c (i1 hk.1) (i2 hk.2)
mutual
theorem Ps {ρ τ:aG} (L:Th ρ τ) {w:World} {h:fh} {m:Nat} (hh:HR ρ w h m) (off:∀ b d,bP h b=some d→ρ.ok b→¬ τ.live (ρ.at_ b)):∀ (n:Nat) {v:AV} {u:Value},VR ρ w v u→VR τ w (OG (bP h) n v) u
  | 0,v,u,hv=>.any u
  | n + 1, v, u, hv => by
    have free:∀ (b:Nat) (d:aZ),bP h b=some d→ρ.ok b→τ.avoid .free (ρ.at_ b):=by
      intro b d hd hok j _
      cases j with
      | zero=>exact off b d hd hok
      | succ j=>simp only [aG.own];rw [L.out];exact hh.fresh _ (hh.real hd hok).1 j
    have content:∀ (b:Nat) (d:aZ),bP h b=some d→ρ.ok b→∀ x v,(E3 (bP h) n d).cell? x=some v→w.cell? ⟨ρ.at_ b,0+x,none⟩=some ((w.cell? ⟨ρ.at_ b,x,none⟩).getD undef)∧VR τ w v ((w.cell? ⟨ρ.at_ b,x,none⟩).getD undef):=by
      intro b d hd hok x v hx
      obtain ⟨_,hrk,c,t,hc,hcv⟩:=hh.real hd hok
      obtain ⟨u,q1,q2⟩:=QM L hh off n (ρ.at_ b) (fun x v hx=>by
        obtain ⟨u,k1,k2⟩:=hcv x v hx
        exact ⟨u,by simp [World.cell?,hc,k1],k2⟩) hrk x v hx
      rw [Nat.zero_add,q1];exact ⟨rfl,q2⟩
    cases v with
    | ptr b k i j =>
      simp only [OG]
      split
      · rename_i d hd
        have hrk:=hh.rk hd
        cases hk:(E3 (bP h) n d).kept with
        | false=>exact .any _
        | true =>
          simp only [cond_true]
          cases hv with | ptr _ _ _ _ hb =>
          have:=VR.iptr (ρ:=τ) (w:=w) .free (E3 (bP h) n d) k i j (ρ.at_ b) 0 (fun x=>(w.cell? ⟨ρ.at_ b,x,none⟩).getD undef) (free b d hd hb) (hh.liveLt _ (hh.real hd hb).1)
            (fun x v hx=>(content b d hd hb x v hx).1) (fun x v hx=>(content b d hd hb x v hx).2) (Mm _ _ _ hrk) (fun _=>hk) (Bw hk)
          simpa using this
      · exact .any _
    | sl b k es i len cap =>
      simp only [OG]
      split
      · rename_i d hd
        have hrk:=hh.rk hd
        cases hk:(E3 (bP h) n d).kept with
        | false=>exact .any _
        | true =>
          simp only [cond_true]
          cases hv with
          | sl _ _ _ _ _ _ cap' hb hcap hl' c t hh' hs =>
            have:=VR.imm (ρ:=τ) (w:=w) .free (E3 (bP h) n d) k es i len cap' (ρ.at_ b) 0 (fun x=>(w.cell? ⟨ρ.at_ b,x,none⟩).getD undef) (free b d hd hb) (hh.liveLt _ (hh.real hd hb).1)
              (fun x v hx=>(content b d hd hb x v hx).1) (fun x v hx=>(content b d hd hb x v hx).2) (by omega) (Mm _ _ _ hrk) (fun _=>hk) (Bw hk)
            simpa using this
          | slEnd=>exact .immEnd _ _ _ _ _ _ _ (Mm _ _ _ hrk) (fun _=>hk) (Bw hk)
      · exact .any _
    | fn f l1 l2=>cases hv with | fn _ _ _ _ _ h1 h2=>exact .fn _ _ _ _ _ (zQ L hh off n h1) (zQ L hh off n h2)
    | agg l=>cases hv with | agg _ _ h1=>exact .agg _ _ (zQ L hh off n h1)
    | tup l=>cases hv with | tup _ _ h1=>exact .tup _ _ (zQ L hh off n h1)
    | iface t v=>cases hv with | iface _ _ _ h1=>exact .iface _ _ _ (Ps L hh off n h1)
    | int=>exact ko L hv rfl
    | bool=>exact ko L hv rfl
    | flt=>exact ko L hv rfl
    | str=>exact ko L hv rfl
    | nptr=>exact ko L hv rfl
    | iptr=>exact ko L hv rfl
    | nsl=>exact ko L hv rfl
    | esl=>exact ko L hv rfl
    | zsl=>exact ko L hv rfl
    | nan=>exact ko L hv rfl
    | imm=>exact ko L hv rfl
    | nfn=>exact ko L hv rfl
    | niface=>exact ko L hv rfl
    | any=>exact .any _
theorem zQ {ρ τ:aG} (L:Th ρ τ) {w:World} {h:fh} {m:Nat} (hh:HR ρ w h m) (off:∀ b d,bP h b=some d→ρ.ok b→¬ τ.live (ρ.at_ b)):∀ (n:Nat) {l:List AV} {c:List Value},je ρ w l c→je τ w (Ml (bP h) n l) c
  | 0,[],c,hv=>by cases hv;exact .nil
  | 0,v::l,c,hv=>by
    cases hv with | cons _ u _ c' h1 h2 =>
    have:=zQ L hh off 0 h2
    exact .cons _ _ _ _ (.any u) this
  | n+1,[],c,hv=>by cases hv;exact .nil
  | n+1,v::l,c,hv=>by
    cases hv with | cons _ u _ c' h1 h2=>exact .cons _ _ _ _ (Ps L hh off n h1) (zQ L hh off n h2)
theorem QM {ρ τ:aG} (L:Th ρ τ) {w:World} {h:fh} {m:Nat} (hh:HR ρ w h m) (off:∀ b d,bP h b=some d→ρ.ok b→¬ τ.live (ρ.at_ b)):∀ (n:Nat) (bl:Nat) {d:aZ},(∀ x v,d.cell? x=some v→∃ u,w.cell? ⟨bl,x,none⟩=some u∧VR ρ w v u)→d.recKept →
    ∀ x v,(E3 (bP h) n d).cell? x=some v→∃ u,w.cell? ⟨bl,x,none⟩=some u∧VR τ w v u
  | 0,bl,d,hc,hr,x,v,hx=>by simp [E3,aZ.cell?] at hx
  | n + 1, bl, d, hc, hr, x, v, hx => by
    cases d with
    | vs l =>
      simp only [E3,aZ.cell?] at hx
      have hus:je ρ w l ((List.range l.length).map fun x=>(w.cell? ⟨bl,x,none⟩).getD undef):=by
        refine zN (by simp) fun y v u q1 q2=>?_
        obtain ⟨u',k1,k2⟩:=hc y v q1
        have hlt:y<l.length:=(List.getElem?_eq_some_iff.1 q1).1
        rw [List.getElem?_map,List.getElem?_range hlt] at q2
        simp [k1] at q2;subst q2;exact k2
      have hr2:=zQ L hh off n hus
      obtain ⟨u,q1,q2⟩:=hr2.get x v hx
      rw [List.getElem?_map] at q1
      have hlt:x<l.length:=by
        rcases Nat.lt_or_ge x l.length with q | q
        · exact q
        · rw [List.getElem?_eq_none (by simpa using q)] at q1;cases q1
      rw [List.getElem?_range hlt] at q1
      obtain ⟨u',k1,_⟩:=hc x (l[x]) (List.getElem?_eq_getElem hlt)
      simp [k1] at q1;subst q1
      exact ⟨u',k1,q2⟩
    | fl xs=>obtain ⟨u,q1,q2⟩:=hc x v hx;exact ⟨u,q1,ko L q2 (bU (d:=.fl xs) hr rfl x v hx)⟩
    | ns k xs=>obtain ⟨u,q1,q2⟩:=hc x v hx;exact ⟨u,q1,ko L q2 (bU (d:=.ns k xs) hr rfl x v hx)⟩
    | bs xs=>obtain ⟨u,q1,q2⟩:=hc x v hx;exact ⟨u,q1,ko L q2 (bU (d:=.bs xs) hr rfl x v hx)⟩
    | ss xs=>obtain ⟨u,q1,q2⟩:=hc x v hx;exact ⟨u,q1,ko L q2 (bU (d:=.ss xs) hr rfl x v hx)⟩
    | rows k m get=>obtain ⟨u,q1,q2⟩:=hc x v hx;exact ⟨u,q1,ko L q2 (bU (d:=.rows k m get) hr rfl x v hx)⟩
    | cols k cs=>obtain ⟨u,q1,q2⟩:=hc x v hx;exact ⟨u,q1,ko L q2 (bU (d:=.cols k cs) hr rfl x v hx)⟩
end
mutual
def Vf (σ:Nat→Option Nat):AV→AV
  | .ptr b w i j=>match σ b with | some c=>.ptr c w i j | none=>.any
  | .sl b w es i len cap=>match σ b with | some c=>.sl c w es i len cap | none=>.any
  | .fn f l1 l2=>.fn f (TY σ l1) (TY σ l2)
  | .agg l=>.agg (TY σ l)
  | .tup l=>.tup (TY σ l)
  | .iface t v=>.iface t (Vf σ v)
  | v=>v
def TY (σ:Nat→Option Nat):List AV→List AV
  | []=>[]
  | v::l=>Vf σ v::TY σ l
end
def aG.renamed(ρ:aG)(keep:List Nat) :aG :=
  { at_:=fun i=>ρ.at_ ((keep[i]?).getD 0),live:=ρ.live,out:=ρ.out,ok:=fun i=>∃ b,keep[i]? = some b∧ρ.ok b }
mutual
theorem Kx {ρ:aG} {keep:List Nat} {w:World}:∀ (v:AV) {u:Value},VR ρ w v u→VR (ρ.renamed keep) w (Vf (sZ keep 0) v) u
  | .ptr b k i j,u,h=>by
    simp only [Vf]
    split
    · rename_i c hc
      cases h with | ptr _ _ _ _ hb =>
      obtain ⟨_,hg⟩:=F4 hc
      rw [Nat.sub_zero] at hg
      have:(ρ.renamed keep).at_ c=ρ.at_ b:=by simp [aG.renamed,hg]
      rw [←this];exact .ptr _ _ _ _ ⟨b,hg,hb⟩
    · exact .any u
  | .sl b k es i len cap,u,h=>by
    simp only [Vf]
    split
    · rename_i c hc
      obtain ⟨_,hg⟩:=F4 hc
      rw [Nat.sub_zero] at hg
      have e:(ρ.renamed keep).at_ c=ρ.at_ b:=by simp [aG.renamed,hg]
      cases h with
      | sl _ _ _ _ _ _ cap' hb hcap hl ce t hh hs=>rw [←e] at hh ⊢;exact .sl _ _ _ _ _ _ _ ⟨b,hg,hb⟩ hcap hl ce t hh hs
      | slEnd=>exact .slEnd _ _ _ _ _
    · exact .any u
  | .fn f l1 l2,u,h=>by cases h with | fn _ _ _ _ _ h1 h2=>exact .fn _ _ _ _ _ (Mn l1 h1) (Mn l2 h2)
  | .agg l,u,h=>by cases h with | agg _ _ h1=>exact .agg _ _ (Mn l h1)
  | .tup l,u,h=>by cases h with | tup _ _ h1=>exact .tup _ _ (Mn l h1)
  | .iface t v,u,h=>by cases h with | iface _ _ _ h1=>exact .iface _ _ _ (Kx v h1)
  | .int ..,u,h=>nD h rfl
  | .bool ..,u,h=>nD h rfl
  | .flt ..,u,h=>nD h rfl
  | .str ..,u,h=>nD h rfl
  | .nptr,u,h=>nD h rfl
  | .iptr ..,u,h=>nD h rfl
  | .nsl,u,h=>nD h rfl
  | .esl,u,h=>nD h rfl
  | .zsl _,u,h=>nD h rfl
  | .nan,u,h=>nD h rfl
  | .imm ..,u,h=>nD h rfl
  | .nfn,u,h=>nD h rfl
  | .niface,u,h=>nD h rfl
  | .any,u,h=>.any u
theorem Mn {ρ:aG} {keep:List Nat} {w:World}:∀ (l:List AV) {c:List Value},je ρ w l c→je (ρ.renamed keep) w (TY (sZ keep 0) l) c
  | [],c,h=>by cases h;exact .nil
  | v::l,c,h=>by cases h with | cons _ u _ c' h1 h2=>exact .cons _ _ _ _ (Kx v h1) (Mn l h2)
theorem nD {ρ:aG} {keep:List Nat} {w:World} {v:AV} {u:Value} (h:VR ρ w v u) (hf:v.foreign=true):VR (ρ.renamed keep) w v u :=
  ko (ρ:=ρ) (τ:=ρ.renamed keep) ⟨rfl,fun _ q=>q⟩ h hf
end
def WB(σ:Nat→Option Nat) :aZ→aZ
  | .vs l=>.vs (TY σ l)
  | d=>d
theorem Pt(σ:Nat→Option Nat) :∀ (l:List AV) (x:Nat),(TY σ l)[x]? = (l[x]?).map (Vf σ)
  | [],x=>by simp [TY]
  | v::l,0=>by simp [TY]
  | v::l,x+1=>by simp [TY,Pt σ l x]
theorem Uf{σ:Nat→Option Nat}{d:aZ}(h:d.recKept) :(WB σ d).recKept:=by
  cases d<;>first | exact h | trivial
theorem QN{σ:Nat→Option Nat}{d:aZ}{x:Nat}{v:AV}(h:(WB σ d).cell? x=some v)(hr:d.recKept) :∃ v',d.cell? x=some v'∧(v=Vf σ v'∨(v=v'∧v.foreign=true)):=by
  cases d with
  | vs l =>
    simp only [WB,aZ.cell?,Pt,Option.map_eq_some_iff] at h
    obtain ⟨v',h1,rfl⟩:=h
    exact ⟨v',h1,.inl rfl⟩
  | fl xs=>exact ⟨v,h,.inr ⟨rfl,bU (d:=.fl xs) hr rfl x v h⟩⟩
  | ns k xs=>exact ⟨v,h,.inr ⟨rfl,bU (d:=.ns k xs) hr rfl x v h⟩⟩
  | bs xs=>exact ⟨v,h,.inr ⟨rfl,bU (d:=.bs xs) hr rfl x v h⟩⟩
  | ss xs=>exact ⟨v,h,.inr ⟨rfl,bU (d:=.ss xs) hr rfl x v h⟩⟩
  | rows k m get=>exact ⟨v,h,.inr ⟨rfl,bU (d:=.rows k m get) hr rfl x v h⟩⟩
  | cols m cs=>exact ⟨v,h,.inr ⟨rfl,bU (d:=.cols m cs) hr rfl x v h⟩⟩
def SE(k:Nat)(R:List Nat) :List Nat:=List.range k++R.filter fun b=>Nat.ble k b
theorem Ti{k i:Nat}{R:List Nat}(h:i<k) :(SE k R)[i]? = some i:=by
  unfold SE
  rw [List.getElem?_append_left (by simpa using h),List.getElem?_range h]
def yl(σ:Nat→Option Nat)(h:fh) :List Nat→List (Option aZ)
  | []=>[]
  | b::l=>(bP h b).map (WB σ)::yl σ h l
theorem zo(σ:Nat→Option Nat)(h:fh) :∀ (l:List Nat) (i:Nat),(yl σ h l)[i]? = (l[i]?).map fun b=>(bP h b).map (WB σ)
  | [],i=>by simp [yl]
  | b::l,0=>by simp [yl]
  | b::l,i+1=>by simp [yl,zo σ h l i]
theorem yB(σ:Nat→Option Nat)(h:fh) :∀ (l:List Nat),(yl σ h l).length=l.length
  | []=>rfl
  | b::l=>by simp [yl,yB σ h l]
def Ky(k:Nat)(keep:Bool)(h:fh)(v:AV) :Option rF :=
  match keep,k with
  | true,0=>some ⟨OG (bP h) oL v,[]⟩
  | _,_ =>
    let L:=SE k (ud (bP h) oL (List.range k++Pn v) [])
    bif Dq L then some ⟨Vf (sZ L 0) v,yl (sZ L 0) h L⟩ else none
theorem QO{ρ ρ0:aG}{w0 w:World}{h:fh}{m:Nat}{lent:List aZ}{keep:Bool}(hh:HR ρ w h m)(hN:vp ρ0 w0 lent)(E:vz ρ0 ρ w0)(hbk:∀ i,i<lent.length→ρ.ok i→ρ0.ok i)(W:w0.heap.size≤w.heap.size){v:AV}{u:Value}(hv:VR ρ w v u){r:rF} 
    (hr:Ky lent.length keep h v=some r):r.Holds ρ0 w0 w lent.length u:=by
  unfold Ky at hr
  split at hr
  · rename_i k hk
    cases hr
    have none_ok:∀ b,¬ ρ0.ok b:=fun b q=>by have:=hN.heap.lt b q;omega
    have none_live:∀ bl,¬ ρ0.live bl:=fun bl q=>by obtain ⟨i,h1,_⟩:=hN.only bl q;exact none_ok i h1
    refine ⟨ρ0,vz.refl _ _,fun i h=>by omega,⟨fun b d q=>?_,fun b c d e q=>?_,fun bl q=>(none_live bl q).elim,fun bl q=>(none_live bl q).elim,fun j bl q=>?_,fun b q=>(none_ok b q).elim,fun x hx=>ko (τ:=ρ0) ⟨E.out.symm,fun bl q=>(none_live bl q).elim⟩ (hh.rom x hx) rfl⟩,?_⟩
    · simp [jf,bP] at q
    · simp [jf,bP] at q
    · exact Nat.lt_of_lt_of_le (hN.heap.outLt j bl q) W
    · exact Ps (τ:=ρ0) ⟨E.out.symm,fun bl q=>(none_live bl q).elim⟩ hh (fun _ _ _ _ q=>none_live _ q) oL hv
  · simp only at hr
    generalize hL:SE lent.length (ud (bP h) oL (List.range lent.length++Pn v) [])=L at hr
    cases hn:Dq L with
    | false=>rw [hn] at hr;cases hr
    | true =>
    rw [hn] at hr
    simp only [cond_true,Option.some.injEq] at hr;subst hr
    have idL:∀ {i:Nat},i<lent.length→L[i]? = some i:=fun q=>by rw [←hL];exact Ti q
    have atL:∀ {i b:Nat},L[i]? = some b→(ρ.renamed L).at_ i=ρ.at_ b:=fun q=>by simp [aG.renamed,q]
    refine ⟨ρ.renamed L,⟨fun b q=>?_,fun b q=>?_,E.live,E.new,E.out⟩,fun i hi q=>?_,⟨fun i d q=>?_,fun i j d e q1 q2 ok1 ok2 he=>?_,hh.fresh,hh.liveLt,hh.outLt,fun i q=>?_,fun x hx=>Kx _ (hh.rom x hx)⟩,Kx v hv⟩
    · rw [atL (idL (hN.heap.lt b q))];exact E.at_ b q
    · exact ⟨b,idL (hN.heap.lt b q),E.ok b q⟩
    · obtain ⟨b,h1,h2⟩:=q
      rw [idL hi] at h1;cases h1
      exact hbk i hi h2
    · have q:=rb q
      simp only at q
      rw [zo,Option.map_eq_some_iff] at q
      obtain ⟨b,h1,h2⟩:=q
      rw [Option.map_eq_some_iff] at h2
      obtain ⟨d0,h3,rfl⟩:=h2
      rcases hh.cell b d0 h3 with ⟨k1,k2,hr,c,t,r1,r2⟩ | ⟨k1,k2,k3,k4⟩
      · refine .inl ⟨⟨b,h1,k1⟩,by rw [atL h1];exact k2,Uf hr,c,t,by rw [atL h1];exact r1,fun x v hx=>?_⟩
        obtain ⟨v',s1,s2⟩:=QN hx hr
        obtain ⟨u,t1,t2⟩:=r2 x v' s1
        refine ⟨u,t1,?_⟩
        rcases s2 with rfl | ⟨rfl,hf⟩
        · exact Kx v' t2
        · exact nD t2 hf
      · refine .inr ⟨?_,?_,Uf k3,fun x=>?_⟩
        · rintro ⟨b',q1,q2⟩
          rw [h1] at q1;cases q1
          exact k1 q2
        · rw [yB];exact (List.getElem?_eq_some_iff.1 h1).1
        · cases hc:(WB (sZ L 0) d0).cell? x with
          | none=>rfl
          | some v=>obtain ⟨v',s1,_⟩:=QN hc k3;rw [k4 x] at s1;cases s1
    · obtain ⟨b,r1,r2⟩:=ok1
      obtain ⟨c,r3,r4⟩:=ok2
      have q1:=rb q1
      have q2:=rb q2
      simp only at q1 q2
      rw [zo,r1] at q1
      rw [zo,r3] at q2
      simp only [Option.map_some,Option.some.injEq,Option.map_eq_some_iff] at q1 q2
      obtain ⟨d1,s1,_⟩:=q1
      obtain ⟨d2,s2,_⟩:=q2
      rw [atL r1,atL r3] at he
      have:=hh.inj b c d1 d2 s1 s2 r2 r4 he
      subst this
      exact Dr hn r1 r3
    · obtain ⟨b,r1,_⟩:=q
      simp only [yB]
      exact (List.getElem?_eq_some_iff.1 r1).1
inductive AE where
  | normal
  | ret
  | exit (id:Nat)
def AE.real:AE→Exit
  | .normal=>.normal
  | .ret=>.ret
  | .exit id=>.exit id
abbrev VP:=Option (AE×aW×List Bool×nC)
abbrev Bd:=Code→aW→nC→VP
def Jx(C:HM)(run:lJ)(ops:Array Oper)(draw:Bool)(st:aW)(p:nC) :VP :=
  match draw with
  | false =>
    match Mf C run ops st.next 0 ops.toList st.tmps st.heap p with
    | some (T,h,obs,p')=>some (.normal,⟨T,h,st.next+ops.size*yk⟩,obs,p')
    | none=>none
  | true =>
    match Mk C run ops st.next 0 ops.toList st.tmps st.heap p with
    | some (rs,T,h,obs,p')=>bif Mh ops [] [] (ops.toList.zip rs) then some (.normal,⟨T,h,st.next+ops.size*yk⟩,obs,p') else none
    | none=>none
def vI(T:List AV)(c:Operand)(b:Bool) :List AV :=
  match c with
  | .tmp t=>T.set t (.bool true b)
  | _=>T
def LL(body:aW→nC→VP) :Nat→aW→nC→VP
  | 0,_,_=>none
  | n+1,st,p =>
    match body st p with
    | some (.normal,st1,o1,p1) =>
      match LL body n st1 p1 with
      | some (e,st2,o2,p2)=>some (e,st2,o1++o2,p2)
      | none=>none
    | r=>r
def Mo(C:HM)(run:lJ)(N:Nat)(self:Bd)(c:Code)(st:aW)(p:nC) :VP :=
  match c with
  | .skip | .label _=>some (.normal,st,[],p)
  | .region _ ops draw=>Jx C run ops draw st p
  | .seq a b =>
    match self a st p with
    | some (.normal,st1,o1,p1) =>
      match self b st1 p1 with
      | some (e,st2,o2,p2)=>some (e,st2,o1++o2,p2)
      | none=>none
    | r=>r
  | .cond c a b =>
    match LJ (Ve st.tmps c) p with
    | some (x,o1,p1) =>
      match self (match x with | true=>a | false=>b) { st with tmps:=vI st.tmps c x } p1 with
      | some (e,st2,o2,p2)=>some (e,st2,o1++o2,p2)
      | none=>none
    | none=>none
  | .block id b =>
    match self b st p with
    | some (.exit id',st1,o1,p1)=>bif Nat.beq id' id then some (.normal,st1,o1,p1) else some (.exit id',st1,o1,p1)
    | r=>r
  | .loop b=>LL (self b) N st p
  | .exit id=>some (.exit id,st,[],p)
  | .ret=>some (.ret,st,[],p)
  | .scope b=>self b st p
  | _=>none
structure zR where
  out:rF
  obs:List Bool
def Ug(alts:List zR)(p:nC) :Option (zR×nC) :=
  match alts,p with
  | [a],p=>some (a,p)
  | alts,none=>(alts.find? fun a=>Te a.obs).map fun a=>(a,none)
  | alts,some (k::r)=>(alts[k]?).map fun a=>(a,some r)
  | _,_=>none
theorem Tj{alts:List zR}{p p':nC}{a:zR}(h:Ug alts p=some (a,p')) :a∈alts:=by
  unfold Ug at h
  split at h
  · simp only [Option.some.injEq,Prod.mk.injEq] at h;rw [←h.1];simp
  · simp only [Option.map_eq_some_iff,Prod.mk.injEq] at h;obtain ⟨b,h1,rfl,_⟩:=h;exact List.mem_of_find?_eq_some h1
  · simp only [Option.map_eq_some_iff,Prod.mk.injEq] at h;obtain ⟨b,h1,rfl,_⟩:=h;exact List.mem_of_getElem? h1
  · cases h
abbrev Iw:=FuncId→List aZ→List AV→Option (List zR)
def qm(P:Program)(fn:Func)(st:aW) :List ResultVar→Option (List AV×List Bool)
  | []=>some ([],[])
  | .tmp t::l =>
    match qm P fn st l with
    | some (vs,o)=>some ((st.tmps[t]?).getD .any::vs,o)
    | none=>none
  | .cell a t::l =>
    match Ie P (bP st.heap) t ((st.tmps[a]?).getD .any),qm P fn st l with
    | some (v,o,_),some (vs,o')=>some (v::vs,o++o')
    | _,_=>none
def HO:List AV→AV
  | [v]=>v
  | vs=>.tup vs
def vJ(fn:Func)(lent:List aZ)(args:List AV) :aW:=⟨args++List.replicate (fn.ntmps-args.length) (.tup []),jf 0 (lent.map some),lent.length⟩
def DU(C : HM)(S : Iw)(self : Bd) : lJ := fun f lent args p =>
  match S f lent args with
  | some alts=>(Ug alts p).map fun r=>(r.1.out,r.1.obs,r.2)
  | none =>
    match C.P.funcs[f]? with
    | some fn =>
      match fn.body with
      | some c =>
        match self c (vJ fn lent args) p with
        | some (e,st,o1,p1) =>
          match e,qm C.P fn st fn.results.toList with
          | .exit _,_=>none
          | _,some (vs,o2) =>
            match Ky lent.length (C.mode f).keep st.heap (HO vs) with
            | some r=>some (r,o1++o2,p1)
            | none=>none
          | _,none=>none
        | none=>none
      | none=>none
    | none=>none
def ry(C:HM)(S:Iw)(N:Nat) :Nat→Bd
  | 0=>fun _ _ _=>none
  | n+1=>Mo C (DU C S (ry C S N n)) N (ry C S N n)
def aH(P:Program)(f:FuncId)(lent:List aZ)(args:List AV)(r:rF) :Prop :=
  ∀ (ρ:aG) (w:World) (us:List Value),vp ρ w lent→je ρ w args us →
    (∃ fn,P.funcs[f]? = some fn∧fn.body.isSome=true)∧Calls P f us.toArray w fun e w'=>∃ u,e=.returned u∧qO ρ.live w w'∧r.Holds ρ w w' lent.length u
def cQ(P:Program)(S:Iw) :Prop:=∀ f lent args alts a,S f lent args=some alts→a∈alts→aX a.obs→aH P f lent args a.out
def Mp(P:Program)(self:Bd) :Prop :=
  ∀ c st p e st' obs p',self c st p=some (e,st',obs,p')→aX obs→∀ (ρ:aG) (a:Act) (w:World) (Q:Exit→Act→World→Prop),SR ρ st a w →
    (∀ ρ' a' w',EX ρ w st.next st' ρ' a' w'→Q e.real a' w')→c.wp P Q a w
theorem EX.trans{ρ ρ1 ρ2:aG}{w w1 w2:World}{n:Nat}{st1 st2:aW}{a1 a2:Act}(h:EX ρ w n st1 ρ1 a1 w1)(k:EX ρ1 w1 st1.next st2 ρ2 a2 w2) :EX ρ w n st2 ρ2 a2 w2 :=
  ⟨h.ext.trans k.ext h.wle.size,h.wle.trans k.wle (fun x hx q=>h.ext.new x hx q),k.sr,Nat.le_trans h.le k.le,fun b q=>by
    rcases k.back b q with q | q
    · exact h.back b q
    · exact .inr (Nat.le_trans h.le q)⟩
theorem EX.refl{ρ:aG}{w:World}{st:aW}{a:Act}(h:SR ρ st a w) :EX ρ w st.next st ρ a w:=⟨vz.refl _ _,qO.refl _ _,h,Nat.le_refl _,fun b q=>.inl q⟩
theorem Tk(n:Nat) :List.range n=List.range' 0 n:=List.range_eq_range'
theorem Pu{C:HM}(hC:C.Ok){run:lJ}(hrun:Mc C.P run){id:Nat}{ops:Array Oper}{draw:Bool}{st st':aW}{p p':nC}{e:AE}{obs:List Bool}(h:Jx C run ops draw st p=some (e,st',obs,p')) 
    (ho:aX obs) {ρ:aG} {a:Act} {w:World} {Q:Exit→Act→World→Prop} (hs:SR ρ st a w) (hQ:∀ ρ' a' w',EX ρ w st.next st' ρ' a' w'→Q e.real a' w'):(Code.region id ops draw).wp C.P Q a w:=by
  unfold Jx at h
  cases draw with
  | false =>
    simp only at h
    split at h
    case h_2=>cases h
    rename_i T hp obs' p1 hr
    simp only [Option.some.injEq,Prod.mk.injEq] at h;obtain ⟨rfl,rfl,rfl,rfl⟩:=h
    refine wp_region ?_
    rw [Tk,←Array.length_toList]
    refine It hC hrun ops.toList 0 (fun j=>by simp) hr ho (hs.heap.le (by omega)) (fun b hb=>by have:=hs.heap.lt b hb;omega) hs.defers hs.tmps ?_
    intro ρ' w' a' E W hh hd hT hb
    exact hQ ρ' a' w' ⟨E,W,⟨hd,hT,hh⟩,Nat.le_add_right _ _,hb⟩
  | true =>
    simp only at h
    split at h
    case h_2=>cases h
    rename_i rs T hp obs' p1 hr
    cases hd:Mh ops [] [] (ops.toList.zip rs) with
    | false=>rw [hd] at h;cases h
    | true =>
      rw [hd] at h
      simp only [cond_true,Option.some.injEq,Prod.mk.injEq] at h;obtain ⟨rfl,rfl,rfl,rfl⟩:=h
      obtain ⟨s1,s2,s3⟩:=Kw _ _ hr ho
      obtain ⟨ms,D⟩:=Kv (ops.toList.zip rs) [] [] rfl hd ⟨fun j x hx=>by simp at hx,fun j x hx=>by simp at hx,fun i j x y hx=>by simp at hx⟩
      rw [List.nil_append] at D
      refine wp_region_any hC.mixed ?_
      have W0:=qO.drawn ρ.live w (w.drawn+1)
      have E0:=vz.refl ρ w
      have notL:∀ i,(Array.replicate ops.size false).getD i false=false:=by
        intro i;rw [Array.getD_eq_getD_getElem?]
        cases hq:(Array.replicate ops.size false)[i]? with
        | none=>rfl
        | some b=>rw [Array.getElem?_replicate] at hq;split at hq<;>simp_all
      have a0:∀ (l:List (Oper×F5)) (i:Nat) (s:List AV×fh),vB (fun i=>(Array.replicate ops.size false).getD i false) i l s=s:=by
        intro l
        induction l with
        | nil=>intro _ _;rfl
        | cons x l ih=>intro i s;simp only [vB];rw [notL i];exact ih _ _
      refine Ue hC hrun D (by rw [s1];simp) (fun j o hj=>by have:=s3 j o hj;rw [Nat.zero_add] at this;exact this) ops.size (Array.replicate ops.size false) (by simp) (fun j o _ hl=>by rw [notL] at hl;cases hl)
        (by have:=List.countP_le_length (p:=fun i=>!(Array.replicate ops.size false).getD i false) (l:=List.range ops.size);simpa using this) (ρ:=ρ) (a:=a) ?_ ?_ hs.defers ?_ ?_
      · rw [a0];exact (hs.heap.le (by omega)).drawn _
      · intro b hb;have:=hs.heap.lt b hb;exact .inl this
      · rw [a0];exact hs.tmps.mono E0 W0
      · intro ρ' w' a' E W hh hd' hT hb
        rw [s2] at hh hT
        exact hQ ρ' a' w' ⟨⟨E.at_,E.ok,E.live,fun b hb=>E.new b hb,E.out⟩,W0.trans W (fun _ _ q=>q),⟨hd',hT,hh⟩,Nat.le_add_right _ _,hb⟩
theorem Mq{C:HM}{body:aW→nC→VP}{b:Code}(hb:∀ st p e st' obs p',body st p=some (e,st',obs,p')→aX obs→∀ (ρ:aG) (a:Act) (w:World) (Q:Exit→Act→World→Prop),SR ρ st a w →
    (∀ ρ' a' w',EX ρ w st.next st' ρ' a' w'→Q e.real a' w')→b.wp C.P Q a w) :∀ (n:Nat) (st:aW) (p:nC) (e:AE) (st':aW) (obs:List Bool) (p':nC),LL body n st p=some (e,st',obs,p')→aX obs →
    ∀ (ρ:aG) (a:Act) (w:World) (Q:Exit→Act→World→Prop),SR ρ st a w→(∀ ρ' a' w',EX ρ w st.next st' ρ' a' w'→Q e.real a' w')→Code.rounds C.P b Q n a w
  | 0,st,p,e,st',obs,p',h,_,_,_,_,_,_,_=>by cases h
  | n+1,st,p,e,st',obs,p',h,ho,ρ,a,w,Q,hs,hQ=>by
    simp only [LL] at h
    rw [rounds_succ]
    split at h
    · rename_i st1 o1 p1 h1
      split at h
      case h_2=>cases h
      rename_i e2 st2 o2 p2 h2
      simp only [Option.some.injEq,Prod.mk.injEq] at h;obtain ⟨rfl,rfl,rfl,rfl⟩:=h
      rw [cg] at ho
      refine hb st p _ _ _ _ h1 ho.1 ρ a w _ hs fun ρ1 a1 w1 P1=>?_
      exact Mq hb n st1 p1 _ _ _ _ h2 ho.2 ρ1 a1 w1 Q P1.sr fun ρ2 a2 w2 P2=>hQ ρ2 a2 w2 (P1.trans P2)
    · rename_i hne
      refine hb st p _ _ _ _ h ho ρ a w _ hs fun ρ1 a1 w1 P1=>?_
      have:=hQ ρ1 a1 w1 P1
      cases e with
      | normal=>exact (hne _ _ _ h).elim
      | ret=>exact this
      | exit id=>exact this
theorem QP{C:HM}(hC:C.Ok){run:lJ}(hrun:Mc C.P run){N:Nat}{self:Bd}(hself:Mp C.P self) :Mp C.P (Mo C run N self):=by
  intro c st p e st' obs p' h ho ρ a w Q hs hQ
  unfold Mo at h
  split at h
  · simp only [Option.some.injEq,Prod.mk.injEq] at h;obtain ⟨rfl,rfl,rfl,rfl⟩:=h
    exact wp_skip (hQ ρ a w (EX.refl hs))
  · simp only [Option.some.injEq,Prod.mk.injEq] at h;obtain ⟨rfl,rfl,rfl,rfl⟩:=h
    exact wp_label (hQ ρ a w (EX.refl hs))
  · exact Pu hC hrun h ho hs hQ
  · rename_i x y
    refine wp_seq ?_
    split at h
    · rename_i st1 o1 p1 h1
      split at h
      case h_2=>cases h
      rename_i e2 st2 o2 p2 h2
      simp only [Option.some.injEq,Prod.mk.injEq] at h;obtain ⟨rfl,rfl,rfl,rfl⟩:=h
      rw [cg] at ho
      refine hself x st p _ _ _ _ h1 ho.1 ρ a w _ hs fun ρ1 a1 w1 P1=>?_
      exact hself y st1 p1 _ _ _ _ h2 ho.2 ρ1 a1 w1 Q P1.sr fun ρ2 a2 w2 P2=>hQ ρ2 a2 w2 (P1.trans P2)
    · rename_i hne
      refine hself x st p _ _ _ _ h ho ρ a w _ hs fun ρ1 a1 w1 P1=>?_
      have:=hQ ρ1 a1 w1 P1
      cases e with
      | normal=>exact (hne _ _ _ h).elim
      | ret=>exact this
      | exit id=>exact this
  · rename_i cc x y
    split at h
    case h_2=>cases h
    rename_i b o1 p1 h1
    split at h
    case h_2=>cases h
    rename_i e2 st2 o2 p2 h2
    simp only [Option.some.injEq,Prod.mk.injEq] at h;obtain ⟨rfl,rfl,rfl,rfl⟩:=h
    rw [cg] at ho
    have hb:=Me (LS hs.heap.rom hs.tmps cc) h1 ho.1
    refine wp_cond hb ?_
    have hs':SR ρ { st with tmps:=vI st.tmps cc b } a w:=by
      refine ⟨hs.defers,?_,hs.heap⟩
      cases cc with
      | tmp t =>
        simp only [vI]
        have:je ρ w (st.tmps.set t (.bool true b)) (a.tmps.toList.set t (.bool b)):=hs.tmps.set (.bool _ _) t
        have e:a.tmps.toList.set t (.bool b)=a.tmps.toList:=by
          apply List.ext_getElem?
          intro j
          rw [List.getElem?_set]
          split
          · rename_i q;subst q
            split
            · rename_i hlt
              simp only [Act.eval] at hb
              rw [Array.getD_eq_getD_getElem?] at hb
              have hlt':t<a.tmps.size:=by simpa using hlt
              rw [Array.getElem?_eq_getElem hlt'] at hb
              simp only [Option.getD_some] at hb
              simp [hlt',hb]
            · rename_i hge
              rw [List.getElem?_eq_none (by omega)]
          · rfl
        rw [e] at this;exact this
      | const v=>exact hs.tmps
      | global g=>exact hs.tmps
      | func f=>exact hs.tmps
    have:=hself _ _ p1 _ _ _ _ h2 ho.2 ρ a w Q hs' hQ
    cases b<;>exact this
  · rename_i id b
    refine wp_block ?_
    split at h
    · rename_i id' st1 o1 p1 h1
      cases hid:Nat.beq id' id with
      | true =>
        rw [hid] at h
        simp only [cond_true,Option.some.injEq,Prod.mk.injEq] at h;obtain ⟨rfl,rfl,rfl,rfl⟩:=h
        refine hself b st p _ _ _ _ h1 ho ρ a w _ hs fun ρ1 a1 w1 P1=>?_
        simp only [AE.real,Exit.inBlock,Nat.eq_of_beq_eq_true hid,if_true]
        exact hQ ρ1 a1 w1 P1
      | false =>
        rw [hid] at h
        simp only [cond_false,Option.some.injEq,Prod.mk.injEq] at h;obtain ⟨rfl,rfl,rfl,rfl⟩:=h
        refine hself b st p _ _ _ _ h1 ho ρ a w _ hs fun ρ1 a1 w1 P1=>?_
        have hne : ¬ id'=id:=fun e=>by subst e;simp [wX] at hid
        simp only [AE.real,Exit.inBlock,hne,if_false]
        exact hQ ρ1 a1 w1 P1
    · rename_i hne
      refine hself b st p _ _ _ _ h ho ρ a w _ hs fun ρ1 a1 w1 P1=>?_
      have:=hQ ρ1 a1 w1 P1
      cases e with
      | normal=>exact this
      | ret=>exact this
      | exit id=>exact (hne _ _ _ _ h).elim
  · rename_i b
    exact wp_loop_rounds N (Mq (C:=C) (b:=b) (fun st p e st' obs p' h1 h2=>hself b st p e st' obs p' h1 h2) N st p e st' obs p' h ho ρ a w Q hs hQ)
  · simp only [Option.some.injEq,Prod.mk.injEq] at h;obtain ⟨rfl,rfl,rfl,rfl⟩:=h
    exact wp_exit (hQ ρ a w (EX.refl hs))
  · simp only [Option.some.injEq,Prod.mk.injEq] at h;obtain ⟨rfl,rfl,rfl,rfl⟩:=h
    exact wp_ret (hQ ρ a w (EX.refl hs))
  · rename_i b
    refine wp_scope_straight (hself b st p _ _ _ _ h ho ρ a w _ hs fun ρ1 a1 w1 P1=>?_)
    have:=hQ ρ1 a1 w1 P1
    cases e<;>exact this
  · cases h
theorem Mr{P:Program}{w:World}{t:TypeId}{x:Value}{u:Value}(hx:∃ a,x=.pointer (some a))(h:(Instr.loadAt t x).run P w=.ok u w) :(do loadVar t (←asAddr x):Sem Value).run P w=.ok u w:=by
  obtain ⟨a,rfl⟩:=hx
  simpa [Instr.loadAt,Instr.sureAddr,asAddr] using h
def Ms(tmps:Array Value) :ResultVar→Sem Value
  | .tmp t=>pure (tmps.getD t undef)
  | .cell x t=>do loadVar t (←asAddr (tmps.getD x undef))
theorem RZ(fn:Func)(tmps:Array Value) :results fn tmps=(do let vs ← fn.results.mapM (Ms tmps);pure (if h:vs.size=1 then vs[0] else .tuple vs)):=by
  unfold results
  congr 1
theorem E4{P:Program}{fn:Func}{st:aW}{ρ:aG}{a:Act}{w:World}(hs:SR ρ st a w) :∀ (l:List ResultVar) {vs:List AV} {obs:List Bool},qm P fn st l=some (vs,obs)→aX obs →
    ∃ us:List Value,(l.mapM (Ms a.tmps)).run P w=.ok us w∧je ρ w vs us
  | [],vs,obs,h,ho=>by
    simp only [qm,Option.some.injEq,Prod.mk.injEq] at h;obtain ⟨rfl,rfl⟩:=h
    exact ⟨[],by simp,.nil⟩
  | .tmp t::l,vs,obs,h,ho=>by
    simp only [qm] at h
    split at h
    case h_2=>cases h
    rename_i vs' o' h1
    simp only [Option.some.injEq,Prod.mk.injEq] at h;obtain ⟨rfl,rfl⟩:=h
    obtain ⟨us,q1,q2⟩:=E4 hs l h1 ho
    refine ⟨a.tmps.getD t undef::us,?_,.cons _ _ _ _ (LS hs.heap.rom hs.tmps (.tmp t)) q2⟩
    simp only [List.mapM_cons,Ms,Sem.run_bind,Sem.run_pure,Result.andThen_ok,q1]
  | .cell x t::l,vs,obs,h,ho=>by
    simp only [qm] at h
    split at h
    case h_2=>cases h
    rename_i v o rs vs' o' h1 h2
    simp only [Option.some.injEq,Prod.mk.injEq] at h;obtain ⟨rfl,rfl⟩:=h
    rw [cg] at ho
    obtain ⟨us,q1,q2⟩:=E4 hs l h2 ho.2
    have hv:=LS hs.heap.rom hs.tmps (.tmp x)
    simp only [Ve,Act.eval] at hv
    obtain ⟨u,r1,r2⟩:=Kl (P:=P) hs.heap hv h1 ho.1
    have hp:∃ ad,a.tmps.getD x undef=.pointer (some ad):=by
      generalize a.tmps.getD x undef=z at hv
      unfold Ie at h1
      simp only at h1
      split at h1
      · rename_i e;rw [e] at hv;cases hv;exact ⟨_,rfl⟩
      · rename_i e;rw [e] at hv;cases hv;exact ⟨_,rfl⟩
      · cases h1
    have:=Mr hp r1
    refine ⟨u::us,?_,.cons _ _ _ _ r2 q2⟩
    simp only [List.mapM_cons,Ms,Sem.run_bind] at this ⊢
    rw [this]
    simp only [Result.andThen_ok,Sem.run_bind,q1,Sem.run_pure]
theorem QQ{P:Program}{fn:Func}{st:aW}{ρ:aG}{a:Act}{w:World}(hs:SR ρ st a w){vs:List AV}{obs:List Bool}(h:qm P fn st fn.results.toList=some (vs,obs))(ho:aX obs) :
    ∃ v,(results fn a.tmps).run P w=.ok v w∧VR ρ w (HO vs) v:=by
  obtain ⟨us,q1,q2⟩:=E4 hs fn.results.toList h ho
  have hl:=q2.length
  have hm:(fn.results.mapM (Ms a.tmps)).run P w=.ok us.toArray w:=by
    rw [Array.mapM_eq_mapM_toList,map_eq_pure_bind,Sem.run_bind,q1,Result.andThen_ok,Sem.run_pure]
  rw [RZ,Sem.run_bind,hm,Result.andThen_ok]
  match vs,us,q2,hl with
  | [],[],q2,_=>exact ⟨.tuple #[],rfl,.tup _ _ .nil⟩
  | [v],[u],q2,_=>cases q2 with | cons _ _ _ _ h1 _=>exact ⟨u,rfl,h1⟩
  | v::v'::vs,u::u'::us,q2,_ =>
    refine ⟨.tuple (u::u'::us).toArray,?_,.tup _ _ q2⟩
    simp
theorem E5{P:Program}{f:FuncId}{fn:Func}{c:Code}(hf:P.funcs[f]? = some fn)(hc:fn.body=some c){lent:List aZ}{args:List AV}{r:rF}{keep:Bool} 
    (h:∀ (ρ:aG) (w:World) (a:Act),vp ρ w lent→SR ρ (vJ fn lent args) a w →
      c.wp P (fun e a' w'=>(e=.normal∨e=.ret)∧∃ ρ' st' vs obs,vz ρ ρ' w∧qO ρ.live w w'∧(∀ i,i<lent.length→ρ'.ok i→ρ.ok i)∧SR ρ' st' a' w'∧qm P fn st' fn.results.toList=some (vs,obs)∧aX obs∧Ky lent.length keep st'.heap (HO vs)=some r) a w):aH P f lent args r:=by
  intro ρ w us hN hv
  refine ⟨⟨fn,hf,by rw [hc];rfl⟩,?_⟩
  refine calls_of_wp hf hc ?_
  have hlen:=hv.length
  have hs:SR ρ (vJ fn lent args) { tmps:=us.toArray++Array.replicate (fn.ntmps-us.toArray.size) undef,defers:=[] } w:=by
    refine ⟨rfl,?_,hN.heap⟩
    simp only [vJ,Array.toList_append,Array.toList_replicate,List.size_toArray,hlen]
    refine je.append ?_ hv
    have:∀ n,je ρ w (List.replicate n (.tup [])) (List.replicate n undef):=by
      intro n
      induction n with
      | zero=>exact .nil
      | succ n ih=>exact .cons _ _ _ _ (.tup [] #[] .nil) ih
    exact this _
  refine wp_mono (h ρ w _ hN hs) ?_
  rintro e a' w' ⟨he,ρ',st',vs,obs,E,W,hbk,S,hr,hob,hkeep⟩
  have HB:a'.defers=[]∧∃ v,(results fn a'.tmps).run P w'=.ok v w'∧∃ u,Ending.returned v=.returned u∧qO ρ.live w w'∧r.Holds ρ w w' lent.length u:=by
    refine ⟨S.defers,?_⟩
    obtain ⟨v,q1,q2⟩:=QQ S hr hob
    exact ⟨v,q1,v,rfl,W,QO S.heap hN E hbk W.size q2 hkeep⟩
  rcases he with rfl | rfl
  · exact HB
  · exact HB
theorem QR{C:HM}{S:Iw}(hS:cQ C.P S){self:Bd}(hself:Mp C.P self) :Mc C.P (DU C S self):=by
  intro f lent args p r obs p' h ho
  unfold DU at h
  split at h
  · rename_i alts hs
    simp only [Option.map_eq_some_iff,Prod.mk.injEq] at h
    obtain ⟨⟨alt,q⟩,h1,rfl,rfl,rfl⟩:=h
    exact hS f lent args alts alt hs (Tj h1) ho
  · split at h
    case h_2=>cases h
    rename_i fn hf
    split at h
    case h_2=>cases h
    rename_i c hc
    split at h
    case h_2=>cases h
    rename_i e st o1 p1 hr
    cases hres:qm C.P fn st fn.results.toList with
    | none=>rw [hres] at h;cases e<;>cases h
    | some x =>
      obtain ⟨vs,o2⟩:=x
      rw [hres] at h
      have wv:∀ (he:e=.normal∨e=.ret),(match Ky lent.length (C.mode f).keep st.heap (HO vs) with | some r=>some (r,o1++o2,p1) | none=>none)=some (r,obs,p')→aH C.P f lent args r:=by
        intro he h
        split at h
        case h_2=>cases h
        rename_i r' hk
        simp only [Option.some.injEq,Prod.mk.injEq] at h;obtain ⟨rfl,rfl,rfl⟩:=h
        rw [cg] at ho
        refine E5 (keep:=(C.mode f).keep) hf hc fun ρ w a hN hs=>?_
        refine hself c _ p e st o1 p1 hr ho.1 ρ a w _ hs fun ρ' a' w' P1=>⟨?_,ρ',st,vs,o2,P1.ext,P1.wle,fun i hi q=>?_,P1.sr,hres,ho.2,hk⟩
        · rcases he with rfl | rfl
          · exact .inl rfl
          · exact .inr rfl
        · rcases P1.back i q with q | q
          · exact q
          · simp only [vJ] at q;omega
      cases e with
      | normal=>exact wv (.inl rfl) h
      | ret=>exact wv (.inr rfl) h
      | exit id=>cases h
theorem Du{C:HM}(hC:C.Ok){S:Iw}(hS:cQ C.P S)(N:Nat) :∀ n,Mp C.P (ry C S N n)
  | 0=>fun c st p e st' obs p' h=>by cases h
  | n+1=>QP hC (QR hS (Du hC hS N n)) (Du hC hS N n)
theorem KV{C:HM}(hC:C.Ok){S:Iw}(hS:cQ C.P S)(N n:Nat){f:FuncId}{lent:List aZ}{args:List AV}{p p':nC}{r:rF}{obs:List Bool}(h:DU C S (ry C S N n) f lent args p=some (r,obs,p'))(ho:aX obs) :
    aH C.P f lent args r:=QR hS (Du hC hS N n) f lent args p r obs p' h ho
def LM:List (Nat×KU)→Nat→Option KU
  | [],_=>none
  | (k,e)::l,f=>bif Nat.beq k f then some e else LM l f
def QS:List (Nat×Ub)→Nat→Ub
  | [],_=>⟨[],false⟩
  | (k,m)::l,f=>bif Nat.beq k f then m else QS l f
def SF(P:Program)(l:List (Nat×KU))(ms:List (Nat×Ub)) :HM:={ P,ext:=LM l,mode:=QS ms,wrap:=false }
theorem Kz:∀ {l:List (Nat×KU)} {f:Nat} {k:KU},LM l f=some k→(f,k)∈l
  | [],f,k,h=>by cases h
  | (a,e)::l,f,k,h=>by
    simp only [LM] at h
    cases hb:Nat.beq a f with
    | true=>rw [hb] at h;simp only [cond_true,Option.some.injEq] at h;have:=Nat.eq_of_beq_eq_true hb;subst this;subst h;simp
    | false=>rw [hb] at h;simp only [cond_false] at h;exact List.mem_cons_of_mem _ (Kz h)
structure SG (P:Program) (f:Nat) (k:KU):Prop where
  fn : ∃ fn, P.funcs[f]? = some fn ∧ (fn.name == "runtime.NumGoroutine") = false ∧ fn.body.isNone = true ∧ Extern.findNext fn = none ∧ Extern.find fn = some (Jv k)
def SH(P : Program) : Bool := P.funcs.toList.all fun fn => !(fn.name == "runtime.NumGoroutine")
theorem Uh{P:Program}{l:List (Nat×KU)}{ms:List (Nat×Ub)}(hm:P.follows .mixedOrders=true)(hn:SH P=true)(he:∀ x∈l,SG P x.1 x.2) :(SF P l ms).Ok:=by
  refine ⟨hm,fun f fn args w hf hb=>?_,fun f k args w hk=>?_⟩
  · have h1 : fn.name ≠ "runtime.NumGoroutine" := by
      have hmem:fn∈P.funcs.toList:=by
        have:fn∈P.funcs:=Array.mem_of_getElem? hf
        simpa using this
      have:=List.all_eq_true.1 hn fn hmem
      simpa using this
    have h2:fn.body≠none:=by intro q;rw [q] at hb;cases hb
    have hf':P.funcs[f]? = some fn:=hf
    have h3:fn.body.isNone=false:=by cases hq:fn.body<;>simp_all
    simp only [SF,callFunc,Sem.run_bind,run_program,Result.andThen_ok,hf',beq_eq_false_iff_ne.2 h1,Bool.false_eq_true,if_false,h3,Sem.run_pure]
  · obtain ⟨fn,h1,h2,h3,h4,h5⟩:=(he _ (Kz hk)).fn
    have:=run_callFunc_extern (P:=P) h1 h2 h3 h4 h5 args w
    simp only [SF]
    rw [this,Sem.run_bind]
    rfl
def At(k:Nat)(ρ0:aG)(w0:World)(st:aW)(a:Act)(w:World) :Prop:=∃ ρ,vz ρ0 ρ w0∧qO ρ0.live w0 w∧SR ρ st a w∧(∀ i,i<k→ρ.ok i→ρ0.ok i)∧k≤st.next
def Tl(lent:List aZ)(st st':aW) :Prop:=∀ ρ0 w0 a w,vp ρ0 w0 lent→At lent.length ρ0 w0 st a w→At lent.length ρ0 w0 st' a w
theorem Tl.refl(lent:List aZ)(st:aW) :Tl lent st st:=fun _ _ _ _ _ h=>h
theorem Tl.trans{lent:List aZ}{a b c:aW}(h:Tl lent a b)(k:Tl lent b c) :Tl lent a c:=fun _ _ _ _ hN q=>k _ _ _ _ hN (h _ _ _ _ hN q)
def QT:AV→AV
  | .flt _ x=>.flt false x
  | .bool _ b=>.bool false b
  | v=>v
def Wg(σ:Nat→Option Nat) :aZ→aZ
  | .vs l=>.vs ((TY σ l).map QT)
  | d=>d
def Jy(σ:Nat→Option Nat)(h:fh) :Nat→List Nat→fh
  | _,[]=>[]
  | i,b::l=>match bP h b with
    | some d=>(i,Wg σ d)::Jy σ h (i+1) l
    | none=>Jy σ h (i+1) l
def WH(b:Bool)(v u:AV) :AV :=
  match b with
  | true=>v
  | false=>u
def VQ:List (Nat×AV)→Nat→AV
  | [],_=>.any
  | (k,v)::l,t=>WH (Nat.beq k t) v (VQ l t)
def OH(L:List (Nat×AV)) :Nat→Nat→List AV
  | _,0=>[]
  | t,n+1=>VQ L t::OH L (t+1) n
def ax(n:Nat)(L:List (Nat×AV)) :List AV:=OH L 0 n
def W1(σ:Nat→Option Nat)(ks:List Nat) :Nat→List AV→List AV
  | _,[]=>[]
  | t,v::l=>(bif Dp ks t then QT (Vf σ v) else .any)::W1 σ ks (t+1) l
def norm(keep ks:List Nat)(st:aW) :aW :=
  ⟨W1 (sZ keep 0) ks 0 st.tmps,Jy (sZ keep 0) st.heap 0 keep,keep.length⟩
theorem QU{ρ:aG}{w:World}{v:AV}{u:Value}(h:VR ρ w v u) :VR ρ w (QT v) u:=by
  cases h<;>simp only [QT]<;>first | exact .bool _ _ | (rename_i hf;refine .flt _ _ _ ?_;rcases hf with rfl | ⟨_,h2,h3⟩;exact .inl rfl;exact .inr ⟨rfl,h2,h3⟩) | skip
  case int=>exact .int _ _
  case str=>exact .str _
  case nptr=>exact .nptr
  case ptr hb=>exact .ptr _ _ _ _ hb
  case iptr=>rename_i bw d k i j bl o u' ha hb hr hg hc hv hk;exact .iptr bw d k i j bl o _ (by assumption) (by assumption) (by assumption) (by assumption) (by assumption) (by assumption) (by assumption)
  case nsl=>exact .nsl
  case esl=>exact .esl _
  case zsl=>exact .zsl _ _
  case nan=>exact .nan _ (by assumption)
  case sl=>exact .sl _ _ _ _ _ _ _ (by assumption) (by assumption) (by assumption) _ _ (by assumption) (by assumption)
  case slEnd=>exact .slEnd _ _ _ _ _
  case imm=>exact .imm _ _ _ _ _ _ _ _ _ _ (by assumption) (by assumption) (by assumption) (by assumption) (by assumption) (by assumption) (by assumption) (by assumption)
  case immEnd=>exact .immEnd _ _ _ _ _ _ _ (by assumption) (by assumption) (by assumption)
  case fn=>exact .fn _ _ _ _ _ (by assumption) (by assumption)
  case nfn=>exact .nfn
  case agg=>exact .agg _ _ (by assumption)
  case tup=>exact .tup _ _ (by assumption)
  case iface=>exact .iface _ _ _ (by assumption)
  case niface=>exact .niface
  case any=>exact .any _
theorem Ui{ρ:aG}{keep ks:List Nat}{w:World} :∀ (l:List AV) (t:Nat) {c:List Value},je ρ w l c→je (ρ.renamed keep) w (W1 (sZ keep 0) ks t l) c
  | [],t,c,h=>by cases h;exact .nil
  | v::l,t,c,h=>by
    cases h with | cons _ u _ c' h1 h2 =>
    simp only [W1]
    refine .cons _ _ _ _ ?_ (Ui l (t+1) h2)
    cases Dp ks t with
    | true=>exact QU (Kx v h1)
    | false=>exact .any u
theorem Dv{σ:Nat→Option Nat}{h:fh} :∀ {l:List Nat} {i c:Nat} {d:aZ},bP (Jy σ h i l) c=some d→i≤c∧∃ b e,l[c-i]? = some b∧bP h b=some e∧d=Wg σ e
  | [],i,c,d,q=>by cases q
  | b::l,i,c,d,q=>by
    simp only [Jy] at q
    have next:bP (Jy σ h (i+1) l) c=some d→i≤c∧∃ b' e,(b::l)[c-i]? = some b'∧bP h b'=some e∧d=Wg σ e:=by
      intro q
      obtain ⟨h1,b',e,h2,h3,h4⟩:=Dv q
      refine ⟨by omega,b',e,?_,h3,h4⟩
      have:c-i=(c-(i+1))+1:=by omega
      rw [this];simpa using h2
    split at q
    · rename_i e he
      simp only [bP] at q
      cases hc:Nat.beq i c with
      | true =>
        rw [hc] at q;simp only [cond_true,Option.some.injEq] at q
        have:=Nat.eq_of_beq_eq_true hc;subst this
        exact ⟨Nat.le_refl _,b,e,by simp,he,q.symm⟩
      | false=>rw [hc] at q;exact next q
    · exact next q
theorem Uj{σ:Nat→Option Nat}{d:aZ}(h:d.recKept) :(Wg σ d).recKept:=by
  cases d<;>first | exact h | trivial
theorem QV{σ:Nat→Option Nat}{d:aZ}{x:Nat}{v:AV}(h:(Wg σ d).cell? x=some v)(hr:d.recKept) :∃ v',d.cell? x=some v'∧(v=QT (Vf σ v')∨(v=v'∧v.foreign=true)):=by
  cases d with
  | vs l =>
    simp only [Wg,aZ.cell?,List.getElem?_map,Pt,Option.map_map,Option.map_eq_some_iff,Function.comp] at h
    obtain ⟨v',h1,rfl⟩:=h
    exact ⟨v',h1,.inl rfl⟩
  | fl xs=>exact ⟨v,h,.inr ⟨rfl,bU (d:=.fl xs) hr rfl x v h⟩⟩
  | ns k xs=>exact ⟨v,h,.inr ⟨rfl,bU (d:=.ns k xs) hr rfl x v h⟩⟩
  | bs xs=>exact ⟨v,h,.inr ⟨rfl,bU (d:=.bs xs) hr rfl x v h⟩⟩
  | ss xs=>exact ⟨v,h,.inr ⟨rfl,bU (d:=.ss xs) hr rfl x v h⟩⟩
  | rows k m get=>exact ⟨v,h,.inr ⟨rfl,bU (d:=.rows k m get) hr rfl x v h⟩⟩
  | cols m cs=>exact ⟨v,h,.inr ⟨rfl,bU (d:=.cols m cs) hr rfl x v h⟩⟩
def Pv:Nat→Nat→List Nat→Bool
  | 0,_,_=>true
  | _+1,_,[]=>false
  | k+1,i,b::l=>Nat.beq b i&&Pv k (i+1) l
theorem Mt:∀ {k i:Nat} {l:List Nat},Pv k i l=true→∀ j,j<k→l[j]? = some (i+j)
  | 0,i,l,_,j,hj=>by omega
  | k+1,i,[],h,j,hj=>by cases h
  | k+1,i,b::l,h,j,hj=>by
    simp only [Pv,Bool.and_eq_true] at h
    cases j with
    | zero=>simp;exact Nat.eq_of_beq_eq_true h.1
    | succ j=>simp only [List.getElem?_cons_succ];rw [Mt h.2 j (by omega)];congr 1;omega
def R0(k:Nat)(keep:List Nat) :Bool:=Dq keep&&Pv k 0 keep
theorem Uk{lent:List aZ}{keep ks:List Nat}(hk:R0 lent.length keep=true)(st:aW) :Tl lent st (norm keep ks st):=by
  unfold R0 at hk
  rw [Bool.and_eq_true] at hk
  obtain ⟨hn,hid⟩:=hk
  have idL:∀ {i:Nat},i<lent.length→keep[i]? = some i:=fun q=>by have:=Mt hid _ q;simpa using this
  have atL:∀ {ρ:aG} {i b:Nat},keep[i]? = some b→(ρ.renamed keep).at_ i=ρ.at_ b:=fun q=>by simp [aG.renamed,q]
  rintro ρ0 w0 a w hN ⟨ρ,E,W,S,hbk,hle⟩
  refine ⟨ρ.renamed keep,⟨fun b q=>?_,fun b q=>⟨b,idL (hN.heap.lt b q),E.ok b q⟩,E.live,E.new,E.out⟩,W,⟨S.defers,Ui _ _ S.tmps,?_⟩,fun i hi q=>?_,?_⟩
  · rw [atL (idL (hN.heap.lt b q))];exact E.at_ b q
  · have hh:=S.heap
    refine ⟨fun c d q=>?_,fun c c' d d' q q' ok1 ok2 he=>?_,hh.fresh,hh.liveLt,hh.outLt,fun c q=>?_,fun x hx=>Kx _ (hh.rom x hx)⟩
    · obtain ⟨_,b,e,h1,h2,rfl⟩:=Dv q
      rw [Nat.sub_zero] at h1
      rcases hh.cell b e h2 with ⟨k1,k2,hr,ce,t,r1,r2⟩ | ⟨k1,k2,k3,k4⟩
      · refine .inl ⟨⟨b,h1,k1⟩,by rw [atL h1];exact k2,Uj hr,ce,t,by rw [atL h1];exact r1,fun x v hx=>?_⟩
        obtain ⟨v',s1,s2⟩:=QV hx hr
        obtain ⟨u,t1,t2⟩:=r2 x v' s1
        refine ⟨u,t1,?_⟩
        rcases s2 with rfl | ⟨rfl,hf⟩
        · exact QU (Kx v' t2)
        · exact nD t2 hf
      · refine .inr ⟨?_,(List.getElem?_eq_some_iff.1 h1).1,Uj k3,fun x=>?_⟩
        · rintro ⟨b',q1,q2⟩
          rw [h1] at q1;cases q1
          exact k1 q2
        · cases hc:(Wg (sZ keep 0) e).cell? x with
          | none=>rfl
          | some v=>obtain ⟨v',s1,_⟩:=QV hc k3;rw [k4 x] at s1;cases s1
    · obtain ⟨_,b,e,h1,h2,rfl⟩:=Dv q
      obtain ⟨_,b',e',h1',h2',rfl⟩:=Dv q'
      rw [Nat.sub_zero] at h1 h1'
      obtain ⟨x,x1,x2⟩:=ok1
      obtain ⟨y,y1,y2⟩:=ok2
      rw [h1] at x1;cases x1
      rw [h1'] at y1;cases y1
      rw [atL h1,atL h1'] at he
      have:=hh.inj b b' e e' h2 h2' x2 y2 he
      subst this
      exact Dr hn h1 h1'
    · obtain ⟨b,h1,_⟩:=q
      exact (List.getElem?_eq_some_iff.1 h1).1
  · obtain ⟨b,q1,q2⟩:=q
    rw [idL hi] at q1;cases q1
    exact hbk i hi q2
  · simp only [norm]
    rcases Nat.lt_or_ge keep.length lent.length with q | q
    · have:=idL q
      rw [List.getElem?_eq_none (Nat.le_refl _)] at this;cases this
    · exact q
inductive GP where
  | slot (t:Nat)
  | part (t i:Nat)
  | cell (b i:Nat)
def lw.empty:lw→Bool
  | .cf [] | .ci _ [] | .cb [] | .cs [] | .cfl [] | .cns _ []=>true
  | _=>false
def Ix:List lw→Bool
  | []=>true
  | c::l=>c.empty&&Ix l
def aZ.isVoid:aZ→Bool
  | .fl [] | .ns _ [] | .bs [] | .ss [] | .vs []=>true
  | .cols 0 cs=>Ix cs
  | _=>false
theorem Mu{c:lw}(h:c.empty=true) :c.len=0:=by
  unfold lw.empty at h
  split at h<;>first | rfl | cases h
theorem Bx:∀ {l:List lw},Ix l=true→∀ c∈l,c.len=0
  | [],_,c,hc=>by cases hc
  | c::l,h,x,hx=>by
    simp only [Ix,Bool.and_eq_true] at h
    rcases List.mem_cons.1 hx with rfl | q
    · exact Mu h.1
    · exact Bx h.2 x q
theorem E6{d:aZ}(h:d.isVoid=true) :d.recKept∧d.void:=by
  unfold aZ.isVoid at h
  split at h
  case h_6 =>
    rename_i cs
    have:=Bx h
    refine ⟨this,fun x=>?_⟩
    cases hc:(aZ.cols 0 cs).cell? x with
    | none=>rfl
    | some v =>
      obtain ⟨c,_,h2,h3⟩:=mP hc
      have:=EQ h3
      rw [Bx h c h2] at this;exact absurd this (Nat.not_lt_zero _)
  case h_7=>cases h
  all_goals exact ⟨trivial,fun x=>by simp [aZ.cell?]⟩
theorem Mv(b w es:Nat) :bL .nsl (.sl b w es 0 0 0):=by
  intro ρ w' u h;cases h;exact .slEnd _ _ _ _ _
theorem HR.weaken{ρ:aG}{w:World}{h:fh}{n b:Nat}{d d':aZ}(hh:HR ρ w h n)(hg:bP h b=some d)(hr:d'.recKept)(hw:∀ x v',d'.cell? x=some v'→∃ v,d.cell? x=some v∧bL v v') :HR ρ w (lI h b d') n:=by
  have look:∀ x e,bP (lI h b d') x=some e→(x=b∧e=d')∨(x≠b∧bP h x=some e):=by
    intro x e hx
    rw [iQ] at hx
    by_cases q:b=x
    · rw [if_pos q] at hx;cases hx;exact .inl ⟨q.symm,rfl⟩
    · rw [if_neg q] at hx;exact .inr ⟨fun e=>q e.symm,hx⟩
  have had:∀ x e,bP (lI h b d') x=some e→∃ e',bP h x=some e':=by
    intro x e hx
    rcases look x e hx with ⟨rfl,_⟩ | ⟨_,q⟩
    · exact ⟨d,hg⟩
    · exact ⟨e,q⟩
  refine ⟨fun x e hx=>?_,fun x y e f h1 h2 ok1 ok2 he=>?_,hh.fresh,hh.liveLt,hh.outLt,hh.lt,hh.rom⟩
  · rcases look x e hx with ⟨rfl,rfl⟩ | ⟨_,q⟩
    · rcases hh.cell x d hg with ⟨k1,k2,_,c,t,r1,r2⟩ | ⟨k1,k2,_,k4⟩
      · refine .inl ⟨k1,k2,hr,c,t,r1,fun y v' hy=>?_⟩
        obtain ⟨v,q1,q2⟩:=hw y v' hy
        obtain ⟨u,t1,t2⟩:=r2 y v q1
        exact ⟨u,t1,q2 _ _ _ t2⟩
      · refine .inr ⟨k1,k2,hr,fun y=>?_⟩
        cases hc:e.cell? y with
        | none=>rfl
        | some v'=>obtain ⟨v,q1,_⟩:=hw y v' hc;rw [k4 y] at q1;cases q1
    · exact hh.cell x e q
  · obtain ⟨e',q1⟩:=had x e h1
    obtain ⟨f',q2⟩:=had y f h2
    exact hh.inj x y e' f' q1 q2 ok1 ok2 he
def R1(st:aW)(pos:GP)(w es:Nat)(d:aZ) :aW :=
  match pos with
  | .slot t =>
    match st.tmps[t]? with
    | some .nsl=>⟨st.tmps.set t (.sl st.next w es 0 0 0),lI st.heap st.next d,st.next+1⟩
    | some .esl=>⟨st.tmps.set t (.sl st.next w es 0 0 0),lI st.heap st.next d,st.next+1⟩
    | _=>st
  | .part t i =>
    match st.tmps[t]? with
    | some (.agg l) =>
      match l[i]? with
      | some .nsl=>⟨st.tmps.set t (.agg (l.set i (.sl st.next w es 0 0 0))),lI st.heap st.next d,st.next+1⟩
      | _=>st
    | _=>st
  | .cell b i =>
    match bP st.heap b with
    | some (.vs l) =>
      match l[i]? with
      | some .nsl=>⟨st.tmps,lI (lI st.heap b (.vs (l.set i (.sl st.next w es 0 0 0)))) st.next d,st.next+1⟩
      | _=>st
    | _=>st
theorem Ul(b w es:Nat) :bL .esl (.sl b w es 0 0 0):=by
  intro ρ w' u h;cases h;exact .slEnd _ _ _ _ _
theorem Be{ρ:aG}{w:World} :∀ {l:List AV} {c:List Value} {i:Nat} {v v':AV},je ρ w l c→l[i]? = some v→bL v v'→je ρ w (l.set i v') c
  | _,_,i,v,v',.nil,h,_=>by simp at h
  | _,_,0,v,v',.cons a u l c h t,hi,hw=>by simp at hi;subst hi;exact .cons _ _ _ _ (hw _ _ _ h) t
  | _,_,i+1,v,v',.cons a u l c h t,hi,hw=>.cons _ _ _ _ h (Be t (by simpa using hi) hw)
theorem R2{lent:List aZ}{st:aW}{pos:GP}{w es:Nat}{d:aZ}(hd:d.isVoid=true) :Tl lent st (R1 st pos w es d):=by
  obtain ⟨d1,d2⟩:=E6 hd
  rintro ρ0 w0 a w' hN ⟨ρ,E,W,S,hbk,hle⟩
  have hh:=S.heap
  have hno : ¬ ρ.ok st.next:=fun q=>Nat.lt_irrefl _ (hh.lt _ q)
  have h1:HR ρ w' (lI st.heap st.next d) (st.next+1):=(hh.le (Nat.le_succ _)).ghost hno (Nat.lt_succ_self _) d1 d2
  have id_:At lent.length ρ0 w0 st a w':=⟨ρ,E,W,S,hbk,hle⟩
  unfold R1
  split
  · split
    · rename_i t h
      exact ⟨ρ,E,W,⟨S.defers,Be S.tmps h (Mv _ _ _),h1⟩,hbk,Nat.le_succ_of_le hle⟩
    · rename_i t h
      exact ⟨ρ,E,W,⟨S.defers,Be S.tmps h (Ul _ _ _),h1⟩,hbk,Nat.le_succ_of_le hle⟩
    · exact id_
  · split
    · rename_i t i l h
      split
      · rename_i h2
        refine ⟨ρ,E,W,⟨S.defers,Be S.tmps h ?_,h1⟩,hbk,Nat.le_succ_of_le hle⟩
        intro ρ w u hu
        cases hu with | agg _ c hc=>exact .agg _ _ (Be hc h2 (Mv _ _ _))
      · exact id_
    · exact id_
  · split
    · rename_i b i _ l h
      split
      · rename_i h2
        have hw:HR ρ w' (lI st.heap b (.vs (l.set i (.sl st.next w es 0 0 0)))) st.next:=by
          refine hh.weaken h trivial fun x v' hx=>?_
          simp only [aZ.cell?,List.getElem?_set] at hx ⊢
          by_cases hi:i=x
          · subst hi
            rw [if_pos rfl] at hx
            split at hx
            · cases hx;exact ⟨_,h2,Mv _ _ _⟩
            · cases hx
          · rw [if_neg hi] at hx;exact ⟨v',hx,bL.refl _⟩
        exact ⟨ρ,E,W,⟨S.defers,S.tmps,(hw.le (Nat.le_succ _)).ghost hno (Nat.lt_succ_self _) d1 d2⟩,hbk,Nat.le_succ_of_le hle⟩
      · exact id_
    · exact id_
def Mw(f:AV→Option AV)(st:aW)(pos:GP) :aW :=
  match pos with
  | .slot t =>
    match st.tmps[t]? with
    | some v=>match f v with
      | some v'=>⟨st.tmps.set t v',st.heap,st.next⟩
      | none=>st
    | none=>st
  | .part t i =>
    match st.tmps[t]? with
    | some (.agg l) =>
      match l[i]? with
      | some v=>match f v with
        | some v'=>⟨st.tmps.set t (.agg (l.set i v')),st.heap,st.next⟩
        | none=>st
      | none=>st
    | _=>st
  | .cell b i =>
    match bP st.heap b with
    | some (.vs l) =>
      match l[i]? with
      | some v=>match f v with
        | some v'=>⟨st.tmps,lI st.heap b (.vs (l.set i v')),st.next⟩
        | none=>st
      | none=>st
    | _=>st
theorem HP{lent:List aZ}{st:aW}{pos:GP}{f:AV→Option AV}(hf:∀ v v',f v=some v'→bL v v') :Tl lent st (Mw f st pos):=by
  rintro ρ0 w0 a w' hN ⟨ρ,E,W,S,hbk,hle⟩
  have hh:=S.heap
  have id_:At lent.length ρ0 w0 st a w':=⟨ρ,E,W,S,hbk,hle⟩
  unfold Mw
  split
  · split
    · rename_i t v h
      split
      · rename_i v' hv
        exact ⟨ρ,E,W,⟨S.defers,Be S.tmps h (hf _ _ hv),hh⟩,hbk,hle⟩
      · exact id_
    · exact id_
  · split
    · rename_i t i l h
      split
      · rename_i v h2
        split
        · rename_i v' hv
          refine ⟨ρ,E,W,⟨S.defers,Be S.tmps h ?_,hh⟩,hbk,hle⟩
          intro ρ w u hu
          cases hu with | agg _ c hc=>exact .agg _ _ (Be hc h2 (hf _ _ hv))
        · exact id_
      · exact id_
    · exact id_
  · split
    · rename_i b i _ l h
      split
      · rename_i v h2
        split
        · rename_i v' hv
          have hw:HR ρ w' (lI st.heap b (.vs (l.set i v'))) st.next:=by
            refine hh.weaken h trivial fun x u hx=>?_
            simp only [aZ.cell?,List.getElem?_set] at hx ⊢
            by_cases hi:i=x
            · subst hi
              rw [if_pos rfl] at hx
              split at hx
              · cases hx;exact ⟨_,h2,hf _ _ hv⟩
              · cases hx
            · rw [if_neg hi] at hx;exact ⟨u,hx,bL.refl _⟩
          exact ⟨ρ,E,W,⟨S.defers,S.tmps,hw⟩,hbk,hle⟩
        · exact id_
      · exact id_
    · exact id_
theorem Bf{d:aZ}(h:d.isVoid=true) :d.kept=true∧d.foreign=true:=by
  unfold aZ.isVoid at h
  split at h<;>first | exact ⟨rfl,rfl⟩ | cases h
theorem Tm{d:aZ}(w es:Nat)(hd:d.isVoid=true) :bL .nsl (.imm .free d w es 0 0):=by
  intro ρ w' u h;cases h;exact .immEnd _ _ _ _ _ _ _ (E6 hd).1 (fun _=>(Bf hd).1) (Bf hd).2
theorem Tn{d:aZ}(w es:Nat)(hd:d.isVoid=true) :bL .esl (.imm .free d w es 0 0):=by
  intro ρ w' u h;cases h;exact .immEnd _ _ _ _ _ _ _ (E6 hd).1 (fun _=>(Bf hd).1) (Bf hd).2
def R3(w es:Nat)(d:aZ) :AV→Option AV
  | .nsl | .esl=>some (.imm .free d w es 0 0)
  | _=>none
theorem QW{w es:Nat}{d:aZ}(hd:d.isVoid=true) :∀ v v',R3 w es d v=some v'→bL v v':=by
  intro v v' h
  unfold R3 at h
  split at h
  · cases h;exact Tm _ _ hd
  · cases h;exact Tn _ _ hd
  · cases h
theorem SI{l:Lv}{ρ:aG}{bl:Nat}(ha:ρ.avoid .free bl) :ρ.avoid l bl:=ra (fun j=>ha j (Nat.zero_le _)) _ _
def Wh(l:Lv) :AV→Option AV
  | .imm .free d w es i n=>some (.imm l d w es i n)
  | .iptr .free d w i j=>some (.iptr l d w i j)
  | _=>none
theorem To{l:Lv} :∀ v v',Wh l v=some v'→bL v v':=by
  intro v v' h
  unfold Wh at h
  split at h
  · cases h
    intro ρ w' u hu
    cases hu with
    | imm _ _ _ _ _ _ cap bl o u ha hb hc hv hn hr hk hg=>exact .imm _ _ _ _ _ _ cap bl o u (SI ha) hb hc hv hn hr (fun _=>hk rfl) hg
    | immEnd _ _ _ _ _ cap a hr hk hg=>exact .immEnd _ _ _ _ _ cap a hr (fun _=>hk rfl) hg
  · cases h
    intro ρ w' u hu
    cases hu with
    | iptr _ _ _ _ _ bl o u ha hb hc hv hr hk hg=>exact .iptr _ _ _ _ _ bl o u (SI ha) hb hc hv hr (fun _=>hk rfl) hg
  · cases h
def Um:AV→Option AV
  | .imm _ d w es i n=>some (.imm .lent d w es i n)
  | .iptr _ d w i j=>some (.iptr .lent d w i j)
  | _=>none
theorem R4:∀ v v',Um v=some v'→bL v v':=by
  intro v v' h
  unfold Um at h
  split at h
  · cases h
    intro ρ w' u hu
    cases hu with
    | imm _ _ _ _ _ _ cap bl o u ha hb hc hv hn hr hk hg=>exact .imm _ _ _ _ _ _ cap bl o u (HC (O:=ρ.own) ha) hb hc hv hn hr (fun q=>by cases q) hg
    | immEnd _ _ _ _ _ cap a hr hk hg=>exact .immEnd _ _ _ _ _ cap a hr (fun q=>by cases q) hg
  · cases h
    intro ρ w' u hu
    cases hu with
    | iptr _ _ _ _ _ bl o u ha hb hc hv hr hk hg=>exact .iptr _ _ _ _ _ bl o u (HC (O:=ρ.own) ha) hb hc hv hr (fun q=>by cases q) hg
  · cases h
inductive GK where
  | own (w es:Nat) (d:aZ)
  | fre (w es:Nat) (d:aZ)
  | lev (l:Lv)
  | low
abbrev GL:=List (GP×GK)
def Jz:GL→aW→aW
  | [],st=>st
  | (p,.fre w es d)::l,st=>Jz l (Mw (R3 w es d) st p)
  | (p,.own w es d)::l,st=>Jz l (R1 st p w es d)
  | (p,.lev v)::l,st=>Jz l (Mw (Wh v) st p)
  | (p,.low)::l,st=>Jz l (Mw Um st p)
def ue:GL→Bool
  | []=>true
  | (_,.own _ _ d)::l=>d.isVoid&&ue l
  | (_,.fre _ _ d)::l=>d.isVoid&&ue l
  | (_,.lev _)::l=>ue l
  | (_,.low)::l=>ue l
theorem zS{lent:List aZ} :∀ {l:GL} {st:aW},ue l=true→Tl lent st (Jz l st)
  | [],st,_=>Tl.refl _ _
  | (p,.fre w es d)::l,st,h=>by
    simp only [ue,Bool.and_eq_true] at h
    exact (HP (QW h.1)).trans (zS h.2)
  | (p,.own w es d)::l,st,h=>by
    simp only [ue,Bool.and_eq_true] at h
    exact (R2 h.1).trans (zS h.2)
  | (p,.lev v)::l,st,h=>(HP To).trans (zS (l:=l) (by simpa [ue] using h))
  | (p,.low)::l,st,h=>(HP R4).trans (zS (l:=l) (by simpa [ue] using h))
structure NS where
  gs:GL
  keep:List Nat
  ks:List Nat
def NS.ok(k:Nat)(s:NS) :Bool:=ue s.gs&&R0 k s.keep
def NS.on(s:NS)(st:aW) :aW:=norm s.keep s.ks (Jz s.gs st)
theorem Un{lent:List aZ}{s:NS}(h:s.ok lent.length=true)(st:aW) :Tl lent st (s.on st):=by
  unfold NS.ok at h
  rw [Bool.and_eq_true] at h
  exact (zS h.1).trans (Uk h.2 _)
def cV:Code→List Code
  | .seq a b=>cV a++cV b
  | .skip=>[]
  | .label _=>[]
  | c=>[c]
def NA(P:Program) :List Code→(Exit→Act→World→Prop)→Act→World→Prop
  | [],K,a,w=>K .normal a w
  | c::l,K,a,w=>c.wp P (fun e a' w'=>match e with | .normal=>NA P l K a' w' | e=>K e a' w') a w
theorem HQ{P:Program}{K:Exit→Act→World→Prop} :∀ (l l':List Code) (a:Act) (w:World),NA P l (fun e a' w'=>match e with | .normal=>NA P l' K a' w' | e=>K e a' w') a w→NA P (l++l') K a w
  | [],l',a,w,h=>h
  | c::l,l',a,w,h=>by
    simp only [List.cons_append,NA] at h ⊢
    refine wp_mono h ?_
    intro e a' w' q
    cases e<;>first | exact HQ l l' a' w' q | exact q
theorem By{P:Program}{c:Code}{K:Exit→Act→World→Prop}{a:Act}{w:World}(h:NA P [c] K a w) :c.wp P K a w:=by
  simp only [NA] at h
  refine wp_mono h ?_
  intro e a' w' q
  cases e<;>exact q
theorem Dw{P:Program} :∀ (c:Code) {K:Exit→Act→World→Prop} {a:Act} {w:World},NA P (cV c) K a w→c.wp P K a w
  | .seq x y,K,a,w,h=>by
    simp only [cV] at h
    refine wp_seq (Dw x ?_)
    have app:∀ (l l':List Code) (a:Act) (w:World),NA P (l++l') K a w→NA P l (fun e a' w'=>match e with | .normal=>NA P l' K a' w' | e=>K e a' w') a w:=by
      intro l
      induction l with
      | nil=>intro l' a w h;exact h
      | cons c l ih =>
        intro l' a w h
        simp only [List.cons_append,NA] at h ⊢
        refine wp_mono h ?_
        intro e a' w' q
        cases e<;>first | exact ih l' a' w' q | exact q
    have:=app _ _ _ _ h
    have mono:∀ (l:List Code) (K K':Exit→Act→World→Prop) (a:Act) (w:World),(∀ e a w,K e a w→K' e a w)→NA P l K a w→NA P l K' a w:=by
      intro l
      induction l with
      | nil=>intro K K' a w hK h;exact hK _ _ _ h
      | cons c l ih =>
        intro K K' a w hK h
        simp only [NA] at h ⊢
        refine wp_mono h ?_
        intro e a' w' q
        cases e<;>first | exact ih K K' a' w' hK q | exact hK _ _ _ q
    refine mono _ _ _ _ _ ?_ this
    intro e a' w' q
    cases e<;>first | exact Dw y q | exact q
  | .skip,K,a,w,h=>wp_skip h
  | .label _,K,a,w,h=>wp_label h
  | .region ..,K,a,w,h=>By h
  | .cond ..,K,a,w,h=>By h
  | .block ..,K,a,w,h=>By h
  | .loop ..,K,a,w,h=>By h
  | .exit ..,K,a,w,h=>By h
  | .ret,K,a,w,h=>By h
  | .scope ..,K,a,w,h=>By h
  | .goto ..,K,a,w,h=>By h
  | .rangeFunc ..,K,a,w,h=>By h
  | .refuse ..,K,a,w,h=>By h
def nF(P:Program)(lent:List aZ)(cs:List Code)(st:aW)(Q:AE→aW→Prop) :Prop :=
  ∀ (ρ0:aG) (w0:World),vp ρ0 w0 lent→∀ (K:Exit→Act→World→Prop),(∀ e st' a' w',Q e st'→At lent.length ρ0 w0 st' a' w'→K e.real a' w')→∀ a w,At lent.length ρ0 w0 st a w→NA P cs K a w
def Tp(self:Bd) :List Code→aW→nC→VP
  | [],st,p=>some (.normal,st,[],p)
  | c::l,st,p =>
    match self c st p with
    | some (.normal,st1,o1,p1) =>
      match Tp self l st1 p1 with
      | some (e,st2,o2,p2)=>some (e,st2,o1++o2,p2)
      | none=>none
    | r=>r
theorem SJ{P:Program}{self:Bd}(hself:Mp P self) :∀ (cs:List Code) {st st':aW} {p p':nC} {e:AE} {obs:List Bool},Tp self cs st p=some (e,st',obs,p')→aX obs→∀ {ρ:aG} {a:Act} {w:World} {Q:Exit→Act→World→Prop},SR ρ st a w →
    (∀ ρ' a' w',EX ρ w st.next st' ρ' a' w'→Q e.real a' w')→NA P cs Q a w
  | [],st,st',p,p',e,obs,h,ho,ρ,a,w,Q,hs,hQ=>by
    simp only [Tp,Option.some.injEq,Prod.mk.injEq] at h;obtain ⟨rfl,rfl,rfl,rfl⟩:=h
    exact hQ ρ a w (EX.refl hs)
  | c::l,st,st',p,p',e,obs,h,ho,ρ,a,w,Q,hs,hQ=>by
    simp only [Tp] at h
    split at h
    · rename_i st1 o1 p1 h1
      split at h
      case h_2=>cases h
      rename_i e2 st2 o2 p2 h2
      simp only [Option.some.injEq,Prod.mk.injEq] at h;obtain ⟨rfl,rfl,rfl,rfl⟩:=h
      rw [cg] at ho
      refine hself c st p _ _ _ _ h1 ho.1 ρ a w _ hs fun ρ1 a1 w1 P1=>?_
      exact SJ hself l h2 ho.2 P1.sr fun ρ2 a2 w2 P2=>hQ ρ2 a2 w2 (P1.trans P2)
    · rename_i hne
      refine hself c st p _ _ _ _ h ho ρ a w _ hs fun ρ1 a1 w1 P1=>?_
      have:=hQ ρ1 a1 w1 P1
      cases e with
      | normal=>exact (hne _ _ _ h).elim
      | ret=>exact this
      | exit id=>exact this
theorem At.post{lent:List aZ}{ρ0 ρ ρ':aG}{w0 w w':World}{st st':aW}{a a':Act}(E:vz ρ0 ρ w0)(W:qO ρ0.live w0 w)(hbk:∀ i,i<lent.length→ρ.ok i→ρ0.ok i)(hle:lent.length≤st.next)(h:EX ρ w st.next st' ρ' a' w') :At lent.length ρ0 w0 st' a' w' :=
  ⟨ρ',E.trans h.ext W.size,W.trans h.wle (fun x hx q=>E.new x hx q),h.sr,fun i hi q=>(h.back i q).elim (hbk i hi) (fun r=>by omega),Nat.le_trans hle h.le⟩
theorem nF.weak{P:Program}{lent:List aZ}{cs:List Code}{st st1:aW}{Q:AE→aW→Prop}(hs:Tl lent st st1)(h:nF P lent cs st1 Q) :nF P lent cs st Q :=
  fun ρ0 w0 hN K hK a w hA=>h ρ0 w0 hN K hK a w (hs _ _ _ _ hN hA)
theorem nF.nil{P:Program}{lent:List aZ}{st:aW}{Q:AE→aW→Prop}(h:Q .normal st) :nF P lent [] st Q :=
  fun ρ0 w0 hN K hK a w hA=>hK .normal st a w h hA
def NL(P:Program)(lent:List aZ)(rest:List Code)(e:AE)(st:aW)(Q:AE→aW→Prop) :Prop :=
  match e with
  | .normal=>nF P lent rest st Q
  | e=>Q e st
theorem NL.exit{P:Program}{lent:List aZ}{rest:List Code}{id:Nat}{st:aW}{Q:AE→aW→Prop}(h:Q (.exit id) st) :NL P lent rest (.exit id) st Q:=h
theorem NL.ret{P:Program}{lent:List aZ}{rest:List Code}{st:aW}{Q:AE→aW→Prop}(h:Q .ret st) :NL P lent rest .ret st Q:=h
theorem NL.normal{P:Program}{lent:List aZ}{rest:List Code}{st:aW}{Q:AE→aW→Prop}(h:nF P lent rest st Q) :NL P lent rest .normal st Q:=h
def Uo(s:NS)(r:VP) :Option (AE×aW×List Bool) :=
  match r with
  | some (e,st,obs,_)=>some (e,s.on st,obs)
  | none=>none
theorem nF.seg{C:HM}(hC:C.Ok){S:Iw}(hS:cQ C.P S){lent:List aZ}{N n:Nat}(k:Nat)(p:nC)(s:NS){cs:List Code}{st st1:aW}{e:AE}{obs:List Bool}{Q:AE→aW→Prop} 
    (h:Uo s (Tp (ry C S N n) (cs.take k) st p)=some (e,st1,obs)) (hn:s.ok lent.length=true) (ho:aX obs) (hr:NL C.P lent (cs.drop k) e st1 Q):nF C.P lent cs st Q:=by
  intro ρ0 w0 hN K hK a w ⟨ρ,E,W,S1,hbk,hle⟩
  rw [←List.take_append_drop k cs]
  apply HQ
  unfold Uo at h
  split at h
  case h_2=>cases h
  rename_i e' st2 obs' p' hrun
  simp only [Option.some.injEq,Prod.mk.injEq] at h;obtain ⟨rfl,rfl,rfl⟩:=h
  refine SJ (Du hC hS N n) _ hrun ho S1 fun ρ' a' w' P1=>?_
  have hA:=Un hn st2 ρ0 w0 a' w' hN (At.post (st:=st) (a:=a) E W hbk hle P1)
  cases e' with
  | normal=>exact hr ρ0 w0 hN K hK a' w' hA
  | ret=>exact hK _ _ _ _ hr hA
  | exit id=>exact hK _ _ _ _ hr hA
def Iy(P:Program)(lent:List aZ){σ:Type}(I:σ→aW)(G:σ→Prop)(m:σ→Nat)(s:σ)(id:Nat)(rest:List Code)(Q:AE→aW→Prop)(e:AE)(st:aW) :Prop :=
  match e with
  | .normal=>∃ s',G s'∧m s'<m s∧st=I s'
  | .exit j=>if j=id then nF P lent rest st Q else Q (.exit j) st
  | .ret=>Q .ret st
theorem Iy.out{P:Program}{lent:List aZ}{σ:Type}{I:σ→aW}{G:σ→Prop}{m:σ→Nat}{s:σ}{id:Nat}{rest:List Code}{Q:AE→aW→Prop}{st:aW}(h:nF P lent rest st Q) :Iy P lent I G m s id rest Q (.exit id) st:=by
  simp only [Iy,if_true];exact h
theorem Iy.on{P:Program}{lent:List aZ}{σ:Type}{I:σ→aW}{G:σ→Prop}{m:σ→Nat}{s:σ}{id:Nat}{rest:List Code}{Q:AE→aW→Prop}{st:aW}(s':σ)(hs:st=I s')(hm:m s'<m s)(hG:G s') :nF P lent [] st (Iy P lent I G m s id rest Q) :=
  nF.nil ⟨s',hG,hm,hs⟩
theorem nF.loop{P:Program}{lent:List aZ}{σ:Type}(I:σ→aW)(G:σ→Prop)(m:σ→Nat){id:Nat}{b:Code}{cs rest:List Code}{Q:AE→aW→Prop}(hcs:cs=.block id (.loop b)::rest) 
    (body:∀ s,G s→nF P lent (cV b) (I s) (Iy P lent I G m s id rest Q)) (s:σ) (hs:G s):nF P lent cs (I s) Q:=by
  subst hcs
  intro ρ0 w0 hN K hK a w hA
  simp only [NA]
  refine wp_block ?_
  refine wp_loop_rounds (m s+1) ?_
  have wv:∀ n s,m s<n→G s→∀ a w,At lent.length ρ0 w0 (I s) a w→Code.rounds P b (Exit.inBlock id fun (e:Exit) a' w'=>match e with | .normal=>NA P rest K a' w' | e=>K e a' w') n a w:=by
    intro n
    induction n with
    | zero=>intro s h;omega
    | succ n ih =>
      intro s hm hs a w hA
      rw [rounds_succ]
      refine Dw b ?_
      refine body s hs ρ0 w0 hN _ ?_ a w hA
      intro e st' a' w' hR hA'
      cases e with
      | normal =>
        obtain ⟨s',h1,h2,rfl⟩:=hR
        exact ih s' (by omega) h1 a' w' hA'
      | ret=>exact hK _ _ _ _ hR hA'
      | exit j =>
        simp only [Iy] at hR
        by_cases hj:j=id
        · subst hj
          rw [if_pos rfl] at hR
          simp only [AE.real,Exit.then,Exit.inBlock,if_true]
          exact hR ρ0 w0 hN K hK a' w' hA'
        · rw [if_neg hj] at hR
          simp only [AE.real,Exit.then,Exit.inBlock,hj,if_false]
          exact hK _ _ _ _ hR hA'
  exact wv _ s (Nat.lt_succ_self _) hs a w hA
theorem nF.mono{P:Program}{lent:List aZ}{cs:List Code}{st:aW}{Q Q':AE→aW→Prop}(hQ:∀ e st,Q e st→Q' e st)(h:nF P lent cs st Q) :nF P lent cs st Q' :=
  fun ρ0 w0 hN K hK a w hA=>h ρ0 w0 hN K (fun e st' a' w' q hA'=>hK e st' a' w' (hQ e st' q) hA') a w hA
theorem nF.block{P:Program}{lent:List aZ}{id:Nat}{b:Code}{cs rest:List Code}{st:aW}{Q:AE→aW→Prop}(hcs:cs=.block id b::rest) 
    (h:nF P lent (cV b) st fun e st'=>match e with | .normal=>nF P lent rest st' Q | .exit j=>if j=id then nF P lent rest st' Q else Q (.exit j) st' | .ret=>Q .ret st'):nF P lent cs st Q:=by
  subst hcs
  intro ρ0 w0 hN K hK a w hA
  simp only [NA]
  refine wp_block (Dw b ?_)
  refine h ρ0 w0 hN _ ?_ a w hA
  intro e st' a' w' hR hA'
  cases e with
  | normal=>exact hR ρ0 w0 hN K hK a' w' hA'
  | ret=>exact hK _ _ _ _ hR hA'
  | exit j =>
    simp only at hR
    by_cases hj:j=id
    · subst hj
      rw [if_pos rfl] at hR
      simp only [AE.real,Exit.inBlock,if_true]
      exact hR ρ0 w0 hN K hK a' w' hA'
    · rw [if_neg hj] at hR
      simp only [AE.real,Exit.inBlock,hj,if_false]
      exact hK _ _ _ _ hR hA'
theorem nF.scope{P:Program}{lent:List aZ}{b:Code}{cs rest:List Code}{st:aW}{Q:AE→aW→Prop}(hcs:cs=.scope b::rest) 
    (h:nF P lent (cV b) st fun e st'=>NL P lent rest e st' Q):nF P lent cs st Q:=by
  subst hcs
  intro ρ0 w0 hN K hK a w hA
  simp only [NA]
  refine wp_scope_straight (Dw b ?_)
  refine h ρ0 w0 hN _ ?_ a w hA
  intro e st' a' w' hR hA'
  cases e with
  | normal=>exact hR ρ0 w0 hN K hK a' w' hA'
  | ret=>exact hK _ _ _ _ hR hA'
  | exit j=>exact hK _ _ _ _ hR hA'
def Iz(P:Program)(fn:Func)(k:Nat)(keep:Bool)(r:rF)(e:AE)(st:aW) :Prop :=
  (e=.normal∨e=.ret)∧∃ vs obs,qm P fn st fn.results.toList=some (vs,obs)∧aX obs∧Ky k keep st.heap (HO vs)=some r
theorem nF.contract{P:Program}{f:FuncId}{fn:Func}{c:Code}(hf:P.funcs[f]? = some fn)(hc:fn.body=some c){lent:List aZ}{args:List AV}{r:rF}{keep:Bool} 
    (h:nF P lent (cV c) (vJ fn lent args) (Iz P fn lent.length keep r)):aH P f lent args r:=by
  refine E5 (keep:=keep) hf hc ?_
  intro ρ w a hN hs
  refine Dw c ?_
  refine h ρ w hN _ ?_ a w ⟨ρ,vz.refl _ _,qO.refl _ _,hs,fun _ _ q=>q,Nat.le_refl _⟩
  rintro e st' a' w' ⟨he,vs,obs,h1,h2,h3⟩ ⟨ρ',E,W,S,hbk,_⟩
  refine ⟨?_,ρ',st',vs,obs,E,W,hbk,S,h1,h2,h3⟩
  rcases he with rfl | rfl
  · exact .inl rfl
  · exact .inr rfl
def eE(x:Nat) :Nat:=x%9223372036854775808
def wI(x y:Nat) :Nat:=x%9223372036854775808+y/9223372036854775808%2*9223372036854775808
def CE(x y:Nat) :Bool:=(isNaN x&&isNaN y)||x==y
theorem Gb(x:Nat) :BitVec.ofInt 64 (x:Int)=BitVec.ofNat 64 x:=by simp
theorem Vk : ~~~ BitVec.ofInt 64 9223372036854775808=BitVec.ofNat 64 (2^63-1):=by decide
theorem vK(n:Nat) :IntKind.u64.wrap (n:Int)=((n%18446744073709551616:Nat):Int):=by
  simp [IntKind.wrap,IntKind.signed,IntKind.bits]
theorem Up(x:Nat) :(DR .andNot .u64 (x:Int) 9223372036854775808)=((eE x:Nat):Int):=by
  have e:(BitVec.ofInt IntKind.u64.bits (x:Int) &&& ~~~ BitVec.ofInt IntKind.u64.bits 9223372036854775808).toNat=x%9223372036854775808:=by
    show (BitVec.ofInt 64 (x:Int) &&& ~~~ BitVec.ofInt 64 9223372036854775808).toNat=_
    rw [Vk,Gb,BitVec.toNat_and,BitVec.toNat_ofNat,BitVec.toNat_ofNat]
    have:(2^63-1)%2^64=2^63-1:=by decide
    rw [this,Nat.and_two_pow_sub_one_eq_mod]
    omega
  unfold DR
  simp only
  rw [e,vK]
  congr 1
  unfold eE
  omega
theorem Wi(y:Nat) :(DR .and .u64 (y:Int) 9223372036854775808)=((y/9223372036854775808%2*9223372036854775808:Nat):Int):=by
  have e:(BitVec.ofInt IntKind.u64.bits (y:Int) &&& BitVec.ofInt IntKind.u64.bits 9223372036854775808).toNat=y/9223372036854775808%2*9223372036854775808:=by
    show (BitVec.ofInt 64 (y:Int) &&& BitVec.ofInt 64 9223372036854775808).toNat=_
    have h1:BitVec.ofInt 64 9223372036854775808=BitVec.ofNat 64 (2^63):=by decide
    rw [h1,Gb,BitVec.toNat_and,BitVec.toNat_ofNat,BitVec.toNat_ofNat]
    have:2^63%2^64=2^63:=by decide
    rw [this]
    apply Nat.eq_of_testBit_eq;intro i
    have e2:(9223372036854775808:Nat)=2^63:=by decide
    rw [e2,Nat.testBit_and,Nat.testBit_two_pow,Nat.testBit_mod_two_pow,Nat.testBit_mul_two_pow]
    by_cases hi:63=i
    · subst hi
      simp [Nat.testBit_eq_decide_div_mod_eq]
    · by_cases h2:63≤i
      · have h3:∃ j,i-63=j+1:=⟨i-64,by omega⟩
        obtain ⟨j,hj⟩:=h3
        have:(y/2^63%2).testBit (i-63)=false:=by
          have:=Nat.mod_lt (y/2^63) (by decide:2>0)
          apply Nat.testBit_lt_two_pow
          calc y/2^63%2<2:=this
            _=2^1:=rfl
            _≤2^(i-63):=Nat.pow_le_pow_right (by decide) (by omega)
        simp [hi,this]
      · simp [hi,h2]
  unfold DR
  simp only
  rw [e,vK]
  congr 1
  omega
theorem WI(x y:Nat) :DR .or .u64 ((eE x:Nat):Int) ((y/9223372036854775808%2*9223372036854775808:Nat):Int)=((wI x y:Nat):Int):=by
  have e:(BitVec.ofInt IntKind.u64.bits ((eE x:Nat):Int) ||| BitVec.ofInt IntKind.u64.bits ((y/9223372036854775808%2*9223372036854775808:Nat):Int)).toNat=wI x y:=by
    show (BitVec.ofInt 64 ((eE x:Nat):Int) ||| BitVec.ofInt 64 ((y/9223372036854775808%2*9223372036854775808:Nat):Int)).toNat=_
    rw [Gb,Gb,BitVec.toNat_or,BitVec.toNat_ofNat,BitVec.toNat_ofNat]
    unfold eE wI
    have hb0:=Nat.mod_lt (y/9223372036854775808) (by decide:2>0)
    generalize y/9223372036854775808%2=b at *
    have e2:(9223372036854775808:Nat)=2^63:=by decide
    have l1:x%9223372036854775808%2^64=x%9223372036854775808:=by omega
    rw [l1]
    rcases Nat.lt_or_ge b 2 with hb | hb
    · have l2:b*9223372036854775808%2^64=b*9223372036854775808:=by omega
      rw [l2,Nat.or_comm,Nat.add_comm,e2,Nat.mul_comm b,Nat.two_pow_add_eq_or_of_lt (Nat.mod_lt _ (by decide))]
    · omega
  unfold DR
  simp only
  rw [e,vK]
  congr 1
  unfold wI
  have:=Nat.mod_lt x (by decide:9223372036854775808>0)
  have:=Nat.mod_lt (y/9223372036854775808) (by decide:2>0)
  omega
theorem zT(x:Nat) :isNaN (eE x)=isNaN x:=by
  rw [zL,zL];unfold eE;rw [Nat.mod_mod]
theorem Bg(x y:Nat) :isNaN (wI x y)=isNaN x:=by
  rw [zL,zL];unfold wI
  rw [Nat.add_mul_mod_self_right,Nat.mod_mod]
theorem Wj{ex:Bool}{x y:Nat}(h:FR ex x y) :FR false (eE x) (eE y):=by
  rcases h with rfl | ⟨h1,h2,h3⟩
  · exact .inl rfl
  · exact .inr ⟨rfl,by rw [zT];exact h2,by rw [zT];exact h3⟩
theorem FR.copy{e1 e2:Bool}{x y x' y':Nat}(h:FR e1 x x')(k:FR e2 y y')(hn:isNaN y=true→isNaN x=true) :FR false (wI x y) (wI x' y'):=by
  rcases h with rfl | ⟨h1,h2,h3⟩
  · rcases k with rfl | ⟨k1,k2,k3⟩
    · exact .inl rfl
    · exact .inr ⟨rfl,by rw [Bg];exact hn k2,by rw [Bg];exact hn k2⟩
  · exact .inr ⟨rfl,by rw [Bg];exact h2,by rw [Bg];exact h3⟩
theorem FR.same{e1 e2:Bool}{x y x' y':Nat}(h:FR e1 x x')(k:FR e2 y y') :CE x' y'=CE x y:=by
  unfold CE
  rcases h with rfl | ⟨h1,h2,h3⟩
  · rcases k with rfl | ⟨k1,k2,k3⟩
    · rfl
    · rw [k2,k3]
      cases hx:isNaN x' with
      | true=>rfl
      | false =>
        have a:(x'==y')=false:=by
          rw [beq_eq_false_iff_ne];intro e;rw [e] at hx;rw [hx] at k3;cases k3
        have b:(x'==y)=false:=by
          rw [beq_eq_false_iff_ne];intro e;rw [e] at hx;rw [hx] at k2;cases k2
        rw [a,b]
  · rcases k with rfl | ⟨k1,k2,k3⟩
    · rw [h2,h3]
      cases hx:isNaN y' with
      | true=>rfl
      | false =>
        have a:(x'==y')=false:=by
          rw [beq_eq_false_iff_ne];intro e;rw [e] at h3;rw [hx] at h3;cases h3
        have b:(x==y')=false:=by
          rw [beq_eq_false_iff_ne];intro e;rw [e] at h2;rw [hx] at h2;cases h2
        rw [a,b]
    · rw [h2,h3,k2,k3];rfl
theorem R5(x:Nat) :CE x x=true:=by simp [CE]
theorem rF.Holds.weak{ρ:aG}{w w':World}{k:Nat}{v v':AV}{own:List (Option aZ)}{u:Value}(h:(⟨v,own⟩:rF).Holds ρ w w' k u)(hw:∀ ρ w,VR ρ w v u→VR ρ w v' u) :(⟨v',own⟩:rF).Holds ρ w w' k u:=by
  obtain ⟨ρ',h1,h2,h3,h4⟩:=h
  exact ⟨ρ',h1,h2,h3,hw _ _ h4⟩
theorem KW{P:Program}{f:FuncId}{ex:Bool}{x:Nat}{r:Nat→AV}{r':AV}(h:∀ y,aH P f [] [.flt true y] ⟨r y,[]⟩) 
    (hw:∀ y,FR ex x y→∀ ρ w u,VR ρ w (r y) u→VR ρ w r' u):aH P f [] [.flt ex x] ⟨r',[]⟩:=by
  intro ρ w us hN hv
  cases hv with | cons _ u _ _ h1 h2 =>
  cases h2
  cases h1 with | flt _ _ y hf =>
  obtain ⟨q1,q2⟩:=h y ρ w [.float .f64 y] hN (.cons _ _ _ _ (.flt _ _ _ (.inl rfl)) .nil)
  refine ⟨q1,q2.mono ?_⟩
  rintro e w' ⟨u,rfl,W,hu⟩
  exact ⟨u,rfl,W,hu.weak fun ρ w=>hw y hf ρ w u⟩
theorem DV{P:Program}{f:FuncId}{e1 e2:Bool}{x1 x2:Nat}{r:Nat→Nat→AV}{r':AV}(h:∀ y1 y2,aH P f [] [.flt true y1,.flt true y2] ⟨r y1 y2,[]⟩) 
    (hw:∀ y1 y2,FR e1 x1 y1→FR e2 x2 y2→∀ ρ w u,VR ρ w (r y1 y2) u→VR ρ w r' u):aH P f [] [.flt e1 x1,.flt e2 x2] ⟨r',[]⟩:=by
  intro ρ w us hN hv
  cases hv with | cons _ u _ _ h1 h2 =>
  cases h2 with | cons _ u _ _ h3 h4 =>
  cases h4
  cases h1 with | flt _ _ y1 hf1 =>
  cases h3 with | flt _ _ y2 hf2 =>
  obtain ⟨q1,q2⟩:=h y1 y2 ρ w [.float .f64 y1,.float .f64 y2] hN (.cons _ _ _ _ (.flt _ _ _ (.inl rfl)) (.cons _ _ _ _ (.flt _ _ _ (.inl rfl)) .nil))
  refine ⟨q1,q2.mono ?_⟩
  rintro e w' ⟨u,rfl,W,hu⟩
  exact ⟨u,rfl,W,hu.weak fun ρ w=>hw y1 y2 hf1 hf2 ρ w u⟩
theorem VR.flt_weak{ρ:aG}{w:World}{x y:Nat}{u:Value}(h:VR ρ w (.flt true y) u)(hf:FR false x y) :VR ρ w (.flt false x) u:=by
  cases h with | flt _ _ z hz =>
  rcases hz with rfl | ⟨h1,_⟩
  · exact .flt _ _ _ hf
  · cases h1
theorem ym(x:Nat) :Az x x=isNaN x:=by
  cases h:isNaN x with
  | true=>unfold Az;rw [Dh (.inl h)];rfl
  | false =>
    simp only [Az,vA]
    unfold isNaN FloatKind.decode at h
    unfold Ieee.Format.order
    generalize FloatKind.f64.format.read x=d at h
    cases d with
    | nan=>simp [Ieee.Datum.isNaN] at h
    | infinity s=>simp [Ieee.Datum.order]
    | number s m i=>simp [Ieee.Datum.order]
structure bC where
  f:FuncId
  on:List aZ→List AV→Option (List zR)
def cX:List bC→Iw
  | [],_,_,_=>none
  | e::l,f,lent,args=>bif Nat.beq e.f f then (match e.on lent args with | some r=>some r | none=>cX l f lent args) else cX l f lent args
def bZ(P:Program)(e:bC) :Prop:=∀ lent args alts a,e.on lent args=some alts→a∈alts→aX a.obs→aH P e.f lent args a.out
theorem Mx(P:Program) :cQ P (cX []):=fun f lent args alts a h=>by cases h
theorem aY{P:Program}{e:bC}{l:List bC}(he:bZ P e)(hl:cQ P (cX l)) :cQ P (cX (e::l)):=by
  intro f lent args alts a h ha ho
  simp only [cX] at h
  cases hb:Nat.beq e.f f with
  | false=>rw [hb] at h;exact hl f lent args alts a h ha ho
  | true =>
    rw [hb] at h
    have:=Nat.eq_of_beq_eq_true hb
    subst this
    simp only [cond_true] at h
    split at h
    · rename_i r hr
      cases h
      exact he lent args alts a hr ha ho
    · exact hl _ lent args alts a h ha ho
def one(v:AV)(obs:List Bool) :Option (List zR):=some [⟨⟨v,[]⟩,obs⟩]
def Uq(v:AV)(own:List (Option aZ))(obs:List Bool) :Option (List zR):=some [⟨⟨v,own⟩,obs⟩]
theorem Tq{P:Program}{f:FuncId}{lent:List aZ}{args:List AV}{alts:List zR}{a:zR}{v:AV}{own:List (Option aZ)}{obs:List Bool}(h:Uq v own obs=some alts)(ha:a∈alts)(ho:aX a.obs) 
    (hc:aX obs→aH P f lent args ⟨v,own⟩):aH P f lent args a.out:=by
  simp only [Uq,Option.some.injEq] at h;subst h
  simp only [List.mem_singleton] at ha;subst ha
  exact hc ho
theorem CF{P:Program}{f:FuncId}{lent:List aZ}{args:List AV}{alts:List zR}{a:zR}{v:AV}{obs:List Bool}(h:one v obs=some alts)(ha:a∈alts)(ho:aX a.obs) 
    (hc:aX obs→aH P f lent args ⟨v,[]⟩):aH P f lent args a.out:=Tq (own:=[]) h ha ho hc
theorem aH.run{C:HM}(hC:C.Ok){S:Iw}(hS:cQ C.P S)(p:nC){f:FuncId}{lent:List aZ}{args:List AV}{p':nC}{r:rF}{obs:List Bool}(N n:Nat)(h:DU C S (ry C S N n) f lent args p=some (r,obs,p'))(ho:aX obs) :
    aH C.P f lent args r:=KV hC hS N n h ho
theorem ob{b:Bool}{l:List Bool}(h:b=true)(t:aX l) :aX (b::l):=⟨h,t⟩
theorem Xd:aX []:=trivial
inductive lK:List AV→List AV→Prop
  | nil:lK [] []
  | cons {v v':AV} {l l':List AV} (h:bL v v') (t:lK l l'):lK (v::l) (v'::l')
theorem lK.vrs{ρ:aG}{w:World} :∀ {l l':List AV} {c:List Value},lK l l'→je ρ w l c→je ρ w l' c
  | _,_,_,.nil,.nil=>.nil
  | _,_,_,.cons h t,.cons _ _ _ _ hv tv=>.cons _ _ _ _ (h _ _ _ hv) (lK.vrs t tv)
theorem lK.refl:∀ l:List AV,lK l l
  | []=>.nil
  | v::l=>.cons (bL.refl v) (lK.refl l)
theorem bL.agg{l l':List AV}(h:lK l l') :bL (.agg l) (.agg l'):=by
  intro ρ w u hv;cases hv with | agg _ _ hl=>exact .agg _ _ (h.vrs hl)
theorem bL.tup{l l':List AV}(h:lK l l') :bL (.tup l) (.tup l'):=by
  intro ρ w u hv;cases hv with | tup _ _ hl=>exact .tup _ _ (h.vrs hl)
theorem aH.args{P:Program}{f:FuncId}{lent:List aZ}{a a':List AV}{r:rF}(h:aH P f lent a' r)(ha:lK a a') :aH P f lent a r :=
  fun ρ w us hN hv=>h ρ w us hN (ha.vrs hv)
theorem aH.weak{P:Program}{f:FuncId}{lent:List aZ}{a:List AV}{v v':AV}{own:List (Option aZ)}(h:aH P f lent a ⟨v,own⟩)(hw:bL v v') :aH P f lent a ⟨v',own⟩:=by
  intro ρ w us hN hv
  obtain ⟨q1,q2⟩:=h ρ w us hN hv
  refine ⟨q1,q2.mono ?_⟩
  rintro e w' ⟨u,rfl,W,hu⟩
  exact ⟨u,rfl,W,hu.weak fun ρ w=>hw ρ w u⟩
theorem My(k k' b:Bool) :bL (.bool k b) (.bool k' b):=by
  intro ρ w u h;cases h;exact .bool _ _
end Go.Plb
namespace Go.Plb
open Go.ChangeShapes Go.WideShapes Go.ChangeAt Go.RowKit Go.Deep
set_option linter.unusedSimpArgs false
set_option linter.unusedVariables false
set_option linter.unusedSectionVars false
variable [Rom]
def aG.none_:aG:={ at_:=fun _=>0,live:=fun _=>False,out:=fun _ _=>False,ok:=fun _=>False }
theorem Vl(w:World)(hr:∀ x∈Rom.tab,VR aG.none_ w (.iptr .free x.2 1 0 0) (.pointer (some ⟨x.1,0,none⟩))) :vp aG.none_ w [] :=
  ⟨⟨fun b d q=>by simp [jf,bP] at q,fun b c d e q=>by simp [jf,bP] at q,fun bl q=>q.elim,fun bl q=>q.elim,fun j bl q=>q.elim,fun b q=>q.elim,hr⟩,fun bl q=>q.elim⟩
theorem Mz(l:Lv)(bl:Nat) :aG.none_.avoid l bl:=ra (fun j=>by cases j<;>exact id) l 0
inductive FA where
  | i (k:IntKind) (n:Int)
  | f (x:Nat)
  | s (b:ByteArray)
  | b (b:Bool)
  | fl (xs:List Nat)
  | ns (k:IntKind) (xs:List Int)
def FA.av:FA→AV
  | .i k n=>.int k n
  | .f x=>.flt true x
  | .s z=>.str z
  | .b z=>.bool false z
  | .fl xs=>.imm .free (.fl xs) 1 1 0 xs.length
  | .ns k xs=>.imm .free (.ns k xs) 1 1 0 xs.length
theorem FA.kept(a:FA) :a.av.kept=true:=by cases a<;>rfl
inductive FT where
  | i (k:IntKind)
  | f
  | s
  | b
  | fl
  | ns (k:IntKind)
def FA.has:FT→FA→Prop
  | .i k,.i k' n=>k'=k∧(Lit.int k n).wf=true
  | .f,.f x=>(Lit.float .f64 x).wf=true
  | .s,.s z=>z.size≤maxLen
  | .b,.b _=>True
  | .fl,.fl xs=>xs.length≤maxLen∧∀ x∈xs,(Lit.float .f64 x).wf=true
  | .ns k,.ns k' xs=>k'=k∧xs.length≤maxLen∧∀ n∈xs,(Lit.int k n).wf=true
  | _,_=>False
def Vm(P:Program)(t:TypeId) :Option FT :=
  match P.underlying t with
  | some (.int k)=>some (.i k)
  | some (.float .f64)=>some .f
  | some .string=>some .s
  | some .bool=>some .b
  | some (.slice e) =>
    match P.underlying e,P.cellsOf e with
    | some (.float .f64),1=>some .fl
    | some (.int k),1=>some (.ns k)
    | _,_=>none
  | _=>none
def Pw:Value→Nat
  | .float _ b=>b
  | _=>0
def Px:Value→Int
  | .int _ n=>n
  | _=>0
theorem KA{W:World}{a:Addr}{i:Nat}{v:Value}(c:W.cell? (a.add i)=some v)(h0:a.spot=none) :a.add i=⟨a.block,a.off+i,none⟩:=by
  cases a;simp only at h0;subst h0
  unfold Addr.add;split
  · rename_i q;subst q;rfl
  · rfl
theorem IA{W:World}{a:Addr}{v:Value}(c:W.cell? a=some v) :a.spot=none:=by
  unfold World.cell? at c
  split at c
  · cases q:a.spot with
    | none=>rfl
    | some s=>rw [q] at c;simp at c
  · cases c
theorem MA{W:World}{a:Addr}{v:Value}(c:W.cell? a=some v) :a.block<W.heap.size:=by
  unfold World.cell? at c
  split at c
  · rename_i q;exact (Array.getElem?_eq_some_iff.1 q).1
  · cases c
theorem vL{α:Type}(f:Nat→α)(n x:Nat)(y:α)(h:((List.range n).map f)[x]? = some y) :x<n∧y=f x:=by
  rw [List.getElem?_map] at h
  rcases Nat.lt_or_ge x n with q | q
  · rw [List.getElem?_range q] at h;simp only [Option.map_some,Option.some.injEq] at h;exact ⟨q,h.symm⟩
  · rw [List.getElem?_eq_none (by simpa using q)] at h;cases h
variable {H : Type} {enc : TypeId × Value → H} {P : Program} {W : World}
theorem Tr{t : TypeId}{ft : FT}{fuel : Nat}{v : Value}{x : DataW H × List MemPlace}(ht : Vm P t = some ft)(h : DataW.trod enc P W 0 (fun _ => true) true fuel t [v] = some x) :
    ∃ a:FA,a.has ft∧VR aG.none_ W a.av v:=by
  cases fuel with
  | zero=>simp [DataW.trod] at h
  | succ fuel =>
  have h0:=h
  unfold Vm at ht
  split at ht
  · rename_i k hk
    cases ht
    simp only [DataW.trod,hk] at h
    cases v<;>simp at h
    rename_i k' n
    obtain ⟨⟨rfl,hw⟩,_⟩:=h
    exact ⟨.i k' n,⟨rfl,hw⟩,.int _ _⟩
  · rename_i hk
    cases ht
    simp only [DataW.trod,hk] at h
    cases v<;>simp at h
    rename_i k b
    obtain ⟨⟨rfl,hw⟩,_⟩:=h
    exact ⟨.f b,hw,.flt _ _ _ (.inl rfl)⟩
  · rename_i hk
    cases ht
    simp only [DataW.trod,hk] at h
    cases v<;>simp at h
    exact ⟨.s _,h.1,.str _⟩
  · rename_i hk
    cases ht
    simp only [DataW.trod,hk] at h
    cases v<;>simp at h
    exact ⟨.b _,trivial,.bool _ _⟩
  · rename_i e hk
    have wv:∀ (he:P.cellsOf e=1),(v=.slice none 0 0)∨∃ (a:Addr) (len cap n:Nat) (V:Nat→Value),v=.slice (some a) len cap∧len≤cap∧cap≤maxLen ∧
        ∀ i,i<len→∃ y,W.cell? (a.add i)=some (V i)∧DataW.trod enc P W 0 (fun _=>true) true n e [V i]=some y:=by
      intro he
      rcases open_slice1 hk he h0 with ⟨h1,_⟩ | ⟨a,len,cap,m,n,V,D,Pl,h1,hb,hl,hm,hmm,_,hx⟩
      · simp only [List.cons.injEq,and_true] at h1
        exact .inl h1
      · simp only [List.cons.injEq,and_true] at h1
        refine .inr ⟨a,len,cap,n,V,h1,hl,hm,fun i hi=>⟨_,hx i (by rw [hmm,if_pos rfl];omega)⟩⟩
    split at ht
    · rename_i he hc
      cases ht
      rcases wv hc with rfl | ⟨a,len,cap,n,V,rfl,hl,hm,hx⟩
      · exact ⟨.fl [],⟨Nat.zero_le _,fun x hx=>by cases hx⟩,.immEnd _ _ _ _ _ _ _ trivial (fun _=>rfl) rfl⟩
      · have hV:∀ i,i<len→V i=.float .f64 (Pw (V i))∧(Lit.float .f64 (Pw (V i))).wf=true:=by
          intro i hi
          obtain ⟨y,c1,c2⟩:=hx i hi
          cases n with
          | zero=>simp [DataW.trod] at c2
          | succ n =>
            simp only [DataW.trod,he] at c2
            cases hV:V i<;>rw [hV] at c2<;>simp at c2
            obtain ⟨⟨rfl,hw⟩,_⟩:=c2
            exact ⟨rfl,hw⟩
        refine ⟨.fl ((List.range len).map fun i=>Pw (V i)),⟨by simp;omega,fun x hx=>?_⟩,?_⟩
        · simp only [List.mem_map,List.mem_range] at hx
          obtain ⟨i,hi,rfl⟩:=hx
          exact (hV i hi).2
        · simp only [FA.av,List.length_map,List.length_range]
          rcases Nat.eq_zero_or_pos len with rfl | hz
          · exact .immEnd _ _ _ _ _ _ _ trivial (fun _=>rfl) rfl
          · have h0:=IA (hx 0 hz).choose_spec.1
            have hs:a.spot=none:=by
              have e:a.add 0=a:=by simp [Addr.add]
              rw [e] at h0;exact h0
            have hcell:∀ i,i<len→W.cell? ⟨a.block,a.off+i,none⟩=some (V i):=fun i hi=>by
              obtain ⟨y,c1,_⟩:=hx i hi
              rw [KA c1 hs] at c1;exact c1
            have ha:a=⟨a.block,a.off+0*1,none⟩:=by cases a;simp only at hs;subst hs;rfl
            have:=VR.imm (ρ:=aG.none_) (w:=W) .free (.fl ((List.range len).map fun i=>Pw (V i))) 1 1 0 len cap a.block a.off V (Mz _ _) (MA (a:=⟨a.block,a.off+0,none⟩) (hcell 0 hz))
              (fun x v hx'=>by
                simp only [aZ.cell?,Option.map_eq_some_iff] at hx'
                obtain ⟨y,h1,h2⟩:=hx'
                exact hcell x (vL _ _ _ _ h1).1)
              (fun x v hx'=>by
                simp only [aZ.cell?,Option.map_eq_some_iff] at hx'
                obtain ⟨y,h1,rfl⟩:=hx'
                obtain ⟨q1,rfl⟩:=vL _ _ _ _ h1
                rw [(hV x q1).1]
                exact .flt _ _ _ (.inl rfl)) hl trivial (fun _=>rfl) rfl
            rw [ha];exact this
    · rename_i k he hc
      cases ht
      rcases wv hc with rfl | ⟨a,len,cap,n,V,rfl,hl,hm,hx⟩
      · exact ⟨.ns k [],⟨rfl,Nat.zero_le _,fun x hx=>by cases hx⟩,.immEnd _ _ _ _ _ _ _ trivial (fun _=>rfl) rfl⟩
      · have hV:∀ i,i<len→V i=.int k (Px (V i))∧(Lit.int k (Px (V i))).wf=true:=by
          intro i hi
          obtain ⟨y,c1,c2⟩:=hx i hi
          cases n with
          | zero=>simp [DataW.trod] at c2
          | succ n =>
            simp only [DataW.trod,he] at c2
            cases hV:V i<;>rw [hV] at c2<;>simp at c2
            obtain ⟨⟨rfl,hw⟩,_⟩:=c2
            exact ⟨rfl,hw⟩
        refine ⟨.ns k ((List.range len).map fun i=>Px (V i)),⟨rfl,by simp;omega,fun x hx=>?_⟩,?_⟩
        · simp only [List.mem_map,List.mem_range] at hx
          obtain ⟨i,hi,rfl⟩:=hx
          exact (hV i hi).2
        · simp only [FA.av,List.length_map,List.length_range]
          rcases Nat.eq_zero_or_pos len with rfl | hz
          · exact .immEnd _ _ _ _ _ _ _ trivial (fun _=>rfl) rfl
          · have h0:=IA (hx 0 hz).choose_spec.1
            have hs:a.spot=none:=by
              have e:a.add 0=a:=by simp [Addr.add]
              rw [e] at h0;exact h0
            have hcell:∀ i,i<len→W.cell? ⟨a.block,a.off+i,none⟩=some (V i):=fun i hi=>by
              obtain ⟨y,c1,_⟩:=hx i hi
              rw [KA c1 hs] at c1;exact c1
            have ha:a=⟨a.block,a.off+0*1,none⟩:=by cases a;simp only at hs;subst hs;rfl
            have:=VR.imm (ρ:=aG.none_) (w:=W) .free (.ns k ((List.range len).map fun i=>Px (V i))) 1 1 0 len cap a.block a.off V (Mz _ _) (MA (a:=⟨a.block,a.off+0,none⟩) (hcell 0 hz))
              (fun x v hx'=>by
                simp only [aZ.cell?,Option.map_eq_some_iff] at hx'
                obtain ⟨y,h1,h2⟩:=hx'
                exact hcell x (vL _ _ _ _ h1).1)
              (fun x v hx'=>by
                simp only [aZ.cell?,Option.map_eq_some_iff] at hx'
                obtain ⟨y,h1,rfl⟩:=hx'
                obtain ⟨q1,rfl⟩:=vL _ _ _ _ h1
                rw [(hV x q1).1]
                exact .int _ _) hl trivial (fun _=>rfl) rfl
            rw [ha];exact this
    · cases ht
  · cases ht
def FA.avs:List FA→List AV
  | []=>[]
  | a::l=>a.av::FA.avs l
def CG:List FT→List FA→Prop
  | [],[]=>True
  | t::ts,a::fas=>a.has t∧CG ts fas
  | _,_=>False
def Vn(P:Program)(t:TypeId) :Option (List FT) :=
  match P.underlying t with
  | some (.struct fs)=>bif P.cellsOf t==fs.size&&fs.toList.zipIdx.all (fun x=>x.1.offset==x.2&&P.cellsOf x.1.type==1) then fs.toList.mapM fun f=>Vm P f.type else none
  | _=>none
theorem KB{n:Nat} :∀ (fs:List Field) (o:Nat) {fts:List FT} {cs:List Value} {xs:List (DataW H×List MemPlace)},cs.length=o+fs.length→(∀ (j:Nat) (f:Field),fs[j]? = some f→f.offset=o+j∧P.cellsOf f.type=1)→fs.mapM (fun f=>Vm P f.type)=some fts →
    fs.mapM (fun f=>DataW.trod enc P W 0 (fun _=>true) true n f.type ((cs.drop f.offset).take (P.cellsOf f.type)))=some xs→∃ fas:List FA,CG fts fas∧je aG.none_ W (FA.avs fas) (cs.drop o)
  | [],o,fts,cs,xs,hl,_,h1,h2=>by
    simp at h1;subst h1
    exact ⟨[],trivial,by rw [List.drop_eq_nil_of_le (by simp at hl;omega)];exact .nil⟩
  | f::fs,o,fts,cs,xs,hl,hf,h1,h2=>by
    simp only [List.mapM_cons,Option.pure_def,Option.bind_eq_bind,Option.bind_eq_some_iff,Option.some.injEq] at h1 h2
    obtain ⟨ft,a1,fts',a2,rfl⟩:=h1
    obtain ⟨x,b1,xs',b2,rfl⟩:=h2
    obtain ⟨e1,e2⟩:=hf 0 f rfl
    simp only [List.length_cons] at hl
    have hlt:o<cs.length:=by omega
    have hd:(cs.drop f.offset).take (P.cellsOf f.type)=[cs[o]]:=by
      rw [e1,e2,Nat.add_zero,List.drop_eq_getElem_cons hlt];rfl
    rw [hd] at b1
    obtain ⟨a,k1,k2⟩:=Tr a1 b1
    obtain ⟨fas,k3,k4⟩:=KB fs (o+1) (cs:=cs) (by omega) (fun j f' hj=>by have:=hf (j+1) f' (by simpa using hj);exact ⟨by omega,this.2⟩) a2 b2
    refine ⟨a::fas,⟨k1,k3⟩,?_⟩
    rw [List.drop_eq_getElem_cons hlt]
    exact .cons _ _ _ _ k2 k4
theorem Py{t:TypeId}{fts:List FT}{fuel:Nat}{cs:List Value}{x:DataW H×List MemPlace}(ht:Vn P t=some fts)(h:DataW.trod enc P W 0 (fun _=>true) true fuel t cs=some x) :
    ∃ fas:List FA,CG fts fas∧je aG.none_ W (FA.avs fas) cs:=by
  unfold Vn at ht
  split at ht
  case h_2=>cases ht
  rename_i fs hk
  cases hb:(P.cellsOf t==fs.size&&fs.toList.zipIdx.all (fun x=>x.1.offset==x.2&&P.cellsOf x.1.type==1)) with
  | false=>rw [hb] at ht;cases ht
  | true =>
  rw [hb] at ht
  simp only [cond_true] at ht
  simp only [Bool.and_eq_true,beq_iff_eq,List.all_eq_true] at hb
  cases fuel with
  | zero=>simp [DataW.trod] at h
  | succ fuel =>
  simp only [DataW.trod,hk] at h
  split at h
  case isFalse=>cases h
  rename_i hlen
  simp only [Option.map_eq_some_iff] at h
  obtain ⟨xs,h1,_⟩:=h
  have:=KB fs.toList 0 (cs:=cs) (by rw [hlen,hb.1];simp) (fun j f hj=>by
    have:=hb.2 (f,j) (by rw [List.mem_zipIdx_iff_getElem?];exact hj)
    simp only at this
    exact ⟨by omega,this.2⟩) ht h1
  simpa using this
theorem QX{t:TypeId}{fts:List FT}{v:Value}{d:DataW H}{p:List MemPlace}{base:Nat}(ht:Vn P t=some fts)(ho:Value.okWide P W .any base t v)(h:DataW.Trod enc P W 0 (fun _=>true) true t v d p) :
    ∃ fas:List FA,CG fts fas∧VR aG.none_ W (.agg (FA.avs fas)) v:=by
  obtain ⟨fuel,hf⟩:=h
  have hs:∃ cs,v=.agg cs:=by
    unfold Vn at ht
    split at ht
    case h_2=>cases ht
    rename_i fs hk
    unfold Value.okWide at ho
    rw [hk] at ho
    obtain ⟨cs,rfl,_⟩:=ho
    exact ⟨cs,rfl⟩
  obtain ⟨cs,rfl⟩:=hs
  obtain ⟨fas,k1,k2⟩:=Py ht hf
  exact ⟨fas,k1,.agg _ _ k2⟩
theorem Ur{W W':World}(h:qO (fun _=>False) W W') :Below W.heap.size W W' :=
  ⟨h.os,h.tape,h.output,h.size,fun k hk=>h.same k hk (fun q=>q)⟩
def Bh(P:Program)(ts:List TypeId) :Bool:=ts.all fun t=>P.readableRec t&&decide (t<P.types.size)
theorem OI{W W':World}(hl:laidOutB P=true)(hb:Below W.heap.size W W') :∀ {ts:List TypeId} {vs:List Value} {ds:List (DataW H)} {ps:List MemPlace},Bh P ts=true →
    DataW.TrodAll enc P W 0 (fun _=>true) true ts vs ds ps→(∀ x∈ps,x.block<W.heap.size)→∀ sp:Nat→Bool,(∀ p∈ps,sp p.block=true)→DataW.TrodAll enc P W' 0 sp true ts vs ds ps
  | [],vs,ds,ps,_,h,_,_,_=>by obtain ⟨rfl,rfl,rfl⟩:=trodAll_nil h;rfl
  | t::ts,vs,ds,ps,hp,h,hlt,sp,hsp=>by
    obtain ⟨v,vs',d,ds',p,q,rfl,rfl,rfl,h1,h2⟩:=trodAll_cons h
    simp only [Bh,List.all_cons,Bool.and_eq_true,decide_eq_true_eq] at hp
    exact ⟨p,q,WideElems.Trod_stays hl hp.1.1 hp.1.2 h1 (fun x hx=>hb.same (hlt x (by simp [hx]))) (fun x hx=>hsp x (by simp [hx])),
      OI hl hb (by simpa [Bh] using hp.2) h2 (fun x hx=>hlt x (by simp [hx])) sp (fun x hx=>hsp x (by simp [hx])),rfl⟩
theorem Us{f:Func}{s:ChangeSpec}{W W':World}{args:Array Value}{ds gs:List (DataW H)}{before:List MemPlace}{tb:TypeId}(hl:laidOutB P=true) 
    (hW:DataW.Whole enc P f.params.toList s.vars false W args.toList ds gs before) (hv:s.vars=[]) (hp:Bh P f.params.toList=true)
    (hs:s.fn H (ds++gs) = { results:=[.lit (.bool true)],args:=ds }) (hr:f.resultTypes = #[tb]) (ht:P.underlying tb=some .bool) (hw:qO (fun _=>False) W W') :
    s.post enc P f false true false false W args (.bool true) W':=by
  have hb:=Ur hw
  have hlt:∀ p∈before,p.block<W.heap.size:=fun p hp=>hW.lt p hp
  have hW':=hW
  obtain ⟨p,q,hA,hV,rfl,hfz,EI⟩:=hW'
  rw [hv] at hV
  obtain ⟨rfl,rfl⟩:=trodVars_none hV
  simp only [List.append_nil] at hlt hs hW
  have harg:=OI hl hb hp hA hlt (fun b=>decide (b<W.heap.size)) (fun x hx=>by simpa using hlt x hx)
  refine ⟨ds,[],p,[],p,[],hW,?_,?_,?_,World.keptBut_mono (fun x hx=>⟨hx,.inr (.inl hx)⟩) (hb.frame (· ∈ p)),fun e=>(by cases e)⟩
  · rw [List.append_nil,hs,hr]
    exact trodAll_mk1 (shut_bool ht true)
  · rw [List.append_nil,hs];exact harg
  · rw [hv];simp only [List.append_nil,hs];exact rfl
theorem Ut{a:FA}(h:a.has .fl) :∃ x,a=.fl x:=by
  cases a<;>simp only [FA.has] at h
  exact ⟨_,rfl⟩
theorem Uu{ρ:aG}{w w':World}{k b:Bool}{u:Value}(h:(⟨.bool k b,[]⟩:rF).Holds ρ w w' 0 u) :u=.bool b:=by
  obtain ⟨ρ',_,_,_,h4⟩:=h
  cases h4;rfl
end Go.Plb
namespace Go.Plb
set_option linter.unusedSimpArgs false
set_option linter.unusedVariables false
set_option linter.unusedSectionVars false
variable [Rom]
def ay{α:Type}(o n:Nat)(l:List α) :List α:=(rP o l).take n
theorem IB{α:Type}(o n:Nat)(l:List α) :ay o n l=(l.drop o).take n:=by
  unfold ay rP;cases o<;>rfl
theorem ak{α:Type}(l:List α) :ay 0 l.length l=l:=by simp [IB]
theorem jp{α:Type}{o n:Nat}{l:List α}(h:o+n≤l.length) :(ay o n l).length=n:=by rw [IB];simp;omega
theorem Uv{α:Type}{o n:Nat}{l:List α}{i:Nat}{v:α}(h:(ay o n l)[i]? = some v) :l[o+i]? = some v:=by
  rw [IB,List.getElem?_take] at h
  split at h
  · rw [List.getElem?_drop] at h;exact h
  · cases h
def di{α:Type}(o n:Nat)(xs:List α) :Bool:=Nat.ble (o+n) xs.length
theorem am{α:Type}{o n:Nat}{xs:List α} :di o n xs=true↔o+n≤xs.length:=by unfold di;rw [Nat.ble_eq]
theorem KX{l:Lv}{d d':aZ}{w es o n:Nat}(h:∀ x v,d'.cell? x=some v→d.cell? (o*w+x)=some v)(hr:d.recKept→d'.recKept)(hk:d'.kept=true)(hg:d'.foreign=true) :
    bL (.imm l d w es o n) (.imm l d' w es 0 n):=by
  intro ρ w' u hv
  cases hv with
  | imm _ _ _ _ _ _ cap bl o' u' ha hb hc hv' hl' hr' _ _ =>
    have:=VR.imm (ρ:=ρ) (w:=w') l d' w es 0 n cap bl (o'+o*w) (fun x=>u' (o*w+x)) ha hb
      (fun x v hx=>by rw [Nat.add_assoc];exact hc _ v (h x v hx)) (fun x v hx=>hv' _ v (h x v hx)) hl' (hr hr') (fun _=>hk) hg
    simpa using this
  | immEnd _ _ _ _ _ _ _ hr'=>exact .immEnd _ _ _ _ _ _ _ (hr hr') (fun _=>hk) hg
theorem KY{l:Lv}{d':aZ}{w es:Nat}(hr:d'.recKept)(hk:d'.kept=true)(hg:d'.foreign=true) :bL .nsl (.imm l d' w es 0 0):=by
  intro ρ w' u hv;cases hv;exact .immEnd _ _ _ _ _ _ _ hr (fun _=>hk) hg
theorem KZ{l:Lv}{d':aZ}{w es:Nat}(hr:d'.recKept)(hk:d'.kept=true)(hg:d'.foreign=true) :bL .esl (.imm l d' w es 0 0):=by
  intro ρ w' u hv;cases hv;exact .immEnd _ _ _ _ _ _ _ hr (fun _=>hk) hg
theorem lK.get:∀ {l1 l2:List AV},lK l1 l2→∀ {x:Nat} {v:AV},l2[x]? = some v→∃ v0,l1[x]? = some v0∧bL v0 v
  | _,_,.nil,x,v,h=>by simp at h
  | _,_,.cons a t,0,v,h=>by simp at h;subst h;exact ⟨_,rfl,a⟩
  | _,_,.cons a t,x+1,v,h=>by
    obtain ⟨v0,h1,h2⟩:=lK.get t (by simpa using h)
    exact ⟨v0,by simpa using h1,h2⟩
theorem MB{lv:Lv}{l1 l2:List AV}{k i j:Nat}(h:lK l1 l2)(hk:iN l1=true→iN l2=true)(hg:dl l1=true→dl l2=true) :bL (.iptr lv (.vs l1) k i j) (.iptr lv (.vs l2) k i j):=by
  intro ρ w u hv
  cases hv with | iptr _ _ _ _ _ bl o u' ha hb hc hv' hr hk' hg' =>
  refine .iptr _ _ _ _ _ bl o u' ha hb (fun x v hx=>?_) (fun x v hx=>?_) trivial (fun q=>hk (hk' q)) (hg hg')
  · obtain ⟨v0,h1,h2⟩:=h.get hx
    exact hc x v0 h1
  · obtain ⟨v0,h1,h2⟩:=h.get hx
    exact h2 _ _ _ (hv' x v0 h1)
theorem bL.fn{f:Fn}{a b a' b':List AV}(h:lK a a')(k:lK b b') :bL (.fn f a b) (.fn f a' b'):=by
  intro ρ w u hv
  cases hv with | fn _ _ _ c1 c2 h1 h2=>exact .fn _ _ _ _ _ (h.vrs h1) (k.vrs h2)
theorem bL.iface{t:TypeId}{a b:AV}(h:bL a b) :bL (.iface t a) (.iface t b):=by
  intro ρ w u hv
  cases hv with | iface _ _ u h1=>exact .iface _ _ _ (h _ _ _ h1)
theorem bL.any(v:AV) :bL v .any:=fun _ _ u _=>.any u
inductive CK where
  | cf
  | ci (k:IntKind)
  | cb
  | cs
  | cfl
  | cns (k:IntKind)
def CK.Ty:CK→Type
  | .cf=>List Nat
  | .ci _=>List Int
  | .cb=>List Bool
  | .cs=>List ByteArray
  | .cfl=>List (List Nat)
  | .cns _=>List (List Int)
def CK.fit:(k:CK)→(o n:Nat)→lw→Option k.Ty
  | .cf,o,n,.cf xs=>some (ay o n xs)
  | .ci k,o,n,.ci k' xs=>bif jb k k' then some (ay o n xs) else none
  | .cb,o,n,.cb xs=>some (ay o n xs)
  | .cs,o,n,.cs xs=>some (ay o n xs)
  | .cfl,o,n,.cfl xs=>some (ay o n xs)
  | .cns k,o,n,.cns k' xs=>bif jb k k' then some (ay o n xs) else none
  | _,_,_,_=>none
def CK.emp:(k:CK)→k.Ty
  | .cf=>([]:List Nat)
  | .ci _=>([]:List Int)
  | .cb=>([]:List Bool)
  | .cs=>([]:List ByteArray)
  | .cfl=>([]:List (List Nat))
  | .cns _=>([]:List (List Int))
def CK.col:(k:CK)→k.Ty→lw
  | .cf,xs=>.cf xs
  | .ci k,xs=>.ci k xs
  | .cb,xs=>.cb xs
  | .cs,xs=>.cs xs
  | .cfl,xs=>.cfl xs
  | .cns k,xs=>.cns k xs
theorem zI{a b:IntKind} :jb a b=true↔a=b:=by simp [jb]
theorem xL{α:Type}{f:α→AV}{o n i:Nat}{xs:List α}{v:AV}(h:((ay o n xs)[i]?).map f=some v) :(xs[o+i]?).map f=some v:=by
  simp only [Option.map_eq_some_iff] at h ⊢
  obtain ⟨y,h1,h2⟩:=h
  exact ⟨y,Uv h1,h2⟩
theorem CK.fit_spec:∀ {k:CK} {o n:Nat} {c:lw} {t:k.Ty},k.fit o n c=some t→(o+n≤c.len→(k.col t).len=n)∧∀ i v,(k.col t).cell? i=some v→c.cell? (o+i)=some v:=by
  intro k o n c t h
  cases k<;>cases c<;>simp only [CK.fit] at h<;>try (cases h;done)
  case cf.cf xs=>cases h;exact ⟨fun q=>jp q,fun i v q=>xL q⟩
  case ci.ci k k' xs =>
    cases e:jb k k' with
    | false=>rw [e] at h;cases h
    | true=>rw [e] at h;cases h;cases (zI.1 e);exact ⟨fun q=>jp q,fun i v q=>xL q⟩
  case cb.cb xs=>cases h;exact ⟨fun q=>jp q,fun i v q=>xL q⟩
  case cs.cs xs=>cases h;exact ⟨fun q=>jp q,fun i v q=>xL q⟩
  case cfl.cfl xs=>cases h;exact ⟨fun q=>jp q,fun i v q=>xL q⟩
  case cns.cns k k' xs =>
    cases e:jb k k' with
    | false=>rw [e] at h;cases h
    | true=>rw [e] at h;cases h;cases (zI.1 e);exact ⟨fun q=>jp q,fun i v q=>xL q⟩
theorem CK.emp_len:∀ (k:CK),(k.col k.emp).len=0:=by intro k;cases k<;>rfl
def CKs.Ty:List CK→Type
  | []=>Unit
  | k::l=>k.Ty×CKs.Ty l
def CKs.fit:(l:List CK)→(o n:Nat)→List lw→Option (CKs.Ty l)
  | [],_,_,[]=>some ()
  | k::l,o,n,c::cs=>(k.fit o n c).bind fun t=>(CKs.fit l o n cs).map fun r=>(t,r)
  | _,_,_,_=>none
def CKs.emp:(l:List CK)→CKs.Ty l
  | []=>()
  | k::l=>(k.emp,CKs.emp l)
def CKs.cols:(l:List CK)→CKs.Ty l→List lw
  | [],_=>[]
  | k::l,t=>k.col t.1::CKs.cols l t.2
theorem CKs.len:∀ {l:List CK} {t:CKs.Ty l},(CKs.cols l t).length=l.length
  | [],t=>rfl
  | k::l,t=>by simp [CKs.cols,CKs.len]
theorem KC:∀ {l:List CK} {o n:Nat} {cs:List lw} {t:CKs.Ty l},CKs.fit l o n cs=some t→cs.length=l.length
  | [],o,n,[],t,h=>rfl
  | [],o,n,c::cs,t,h=>by simp [CKs.fit] at h
  | k::l,o,n,[],t,h=>by simp [CKs.fit] at h
  | k::l,o,n,c::cs,t,h=>by
    simp only [CKs.fit] at h
    cases e1:k.fit o n c with
    | none=>rw [e1] at h;cases h
    | some a =>
      rw [e1] at h
      cases e2:CKs.fit l o n cs with
      | none=>simp only [Option.bind_some,e2] at h;cases h
      | some b=>simp [KC e2]
theorem CKs.fit_spec:∀ {l:List CK} {o n:Nat} {cs:List lw} {t:CKs.Ty l},CKs.fit l o n cs=some t→∀ (j:Nat) (c':lw),(CKs.cols l t)[j]? = some c'→∃ c:lw,cs[j]? = some c∧(o+n≤c.len→c'.len=n)∧∀ i v,c'.cell? i=some v→c.cell? (o+i)=some v
  | [],o,n,cs,t,h,j,c',q=>by simp [CKs.cols] at q
  | k::l,o,n,[],t,h,j,c',q=>by simp [CKs.fit] at h
  | k::l,o,n,c::cs,t,h,j,c',q=>by
    simp only [CKs.fit] at h
    cases e1:k.fit o n c with
    | none=>rw [e1] at h;cases h
    | some a =>
      rw [e1] at h
      cases e2:CKs.fit l o n cs with
      | none=>simp only [Option.bind_some,e2] at h;cases h
      | some b =>
        simp only [Option.bind_some,e2] at h
        cases h
        cases j with
        | zero=>simp [CKs.cols] at q;subst q;exact ⟨c,rfl,CK.fit_spec e1⟩
        | succ j=>exact CKs.fit_spec e2 j c' (by simpa [CKs.cols] using q)
theorem CKs.emp_len:∀ (l:List CK),∀ c∈CKs.cols l (CKs.emp l),c.len=0
  | [],c,h=>by cases h
  | k::l,c,h=>by
    simp only [CKs.cols,CKs.emp,List.mem_cons] at h
    rcases h with rfl | h
    · exact CK.emp_len k
    · exact CKs.emp_len l c h
mutual
inductive H8 where
  | int (k:IntKind)
  | flt (ex:Bool)
  | bool
  | kbool (b:Bool)
  | str
  | fl
  | ns (k:IntKind)
  | bs
  | ss
  | cols (l:List CK)
  | ivs (ps:ww) (w i j:Nat)
  | fn (f:FuncId) (a b:ww)
  | nfn
  | nptr
  | nsl
  | agg (ps:ww)
  | tup (ps:ww)
  | iface (t:TypeId) (p:H8)
  | niface
  | any
  | lsl (b:Nat)
  | lptr (b w i j:Nat)
inductive ww where
  | nil
  | cons (p:H8) (ps:ww)
end
mutual
def H8.Ty:H8→Type
  | .int _=>Int
  | .flt _=>Nat
  | .bool=>Bool
  | .str=>ByteArray
  | .fl=>Lv×List Nat
  | .ns _=>Lv×List Int
  | .bs=>Lv×List Bool
  | .ss=>Lv×List ByteArray
  | .cols l=>Lv×Nat×CKs.Ty l
  | .ivs ps _ _ _=>Lv×ps.Ty
  | .fn _ a b=>a.Ty×b.Ty
  | .agg ps=>ps.Ty
  | .tup ps=>ps.Ty
  | .iface _ p=>p.Ty
  | .kbool _=>Unit
  | .nfn=>Unit
  | .nptr=>Unit
  | .nsl=>Unit
  | .niface=>Unit
  | .any=>Unit
  | .lsl _=>Nat×Nat×Nat
  | .lptr _ _ _ _=>Unit
def ww.Ty:ww→Type
  | .nil=>Unit
  | .cons p ps=>p.Ty×ps.Ty
end
mutual
def H8.av:(p:H8)→p.Ty→AV
  | .int k,n=>.int k n
  | .flt ex,x=>.flt ex x
  | .bool,b=>.bool false b
  | .str,s=>.str s
  | .fl,t=>.imm t.1 (.fl t.2) 1 1 0 t.2.length
  | .ns k,t=>.imm t.1 (.ns k t.2) 1 1 0 t.2.length
  | .bs,t=>.imm t.1 (.bs t.2) 1 1 0 t.2.length
  | .ss,t=>.imm t.1 (.ss t.2) 1 1 0 t.2.length
  | .cols l,t=>.imm t.1 (.cols t.2.1 (CKs.cols l t.2.2)) l.length l.length 0 t.2.1
  | .ivs ps w i j,t=>.iptr t.1 (.vs (ps.avs t.2)) w i j
  | .fn f a b,t=>.fn (.func f) (a.avs t.1) (b.avs t.2)
  | .agg ps,t=>.agg (ps.avs t)
  | .tup ps,t=>.tup (ps.avs t)
  | .iface y p,t=>.iface y (p.av t)
  | .kbool b,_=>.bool true b
  | .nfn,_=>.nfn
  | .nptr,_=>.nptr
  | .nsl,_=>.nsl
  | .niface,_=>.niface
  | .any,_=>.any
  | .lsl b,t=>.sl b 1 1 t.1 t.2.1 t.2.2
  | .lptr b w i j,_=>.ptr b w i j
def ww.avs:(ps:ww)→ps.Ty→List AV
  | .nil,_=>[]
  | .cons p ps,t=>p.av t.1::ps.avs t.2
end
def R6(a b:Bool) :Bool:=bif a then b else !b
theorem R7{a b:Bool} :R6 a b=true↔a=b:=by cases a<;>cases b<;>simp [R6]
def CKs.ok(n:Nat)(m:Nat) :Bool:=Nat.ble n m
def Uw(k:IntKind) :AV→Option (Int×List Bool)
  | .int k' n=>bif jb k k' then some (n,[]) else none
  | _=>none
def Ux(ex:Bool) :AV→Option (Nat×List Bool)
  | .flt ex' x=>bif ex && !ex' then none else some (x,[])
  | _=>none
def SK:AV→Option (Bool×List Bool)
  | .bool kn b=>bif kn then none else some (b,[])
  | _=>none
def QY(b:Bool) :AV→Option (Unit×List Bool)
  | .bool kn b'=>bif kn&&R6 b b' then some ((),[]) else none
  | _=>none
def Uy:AV→Option (ByteArray×List Bool)
  | .str s=>some (s,[])
  | _=>none
def OJ{α:Type}(f:aZ→Option (List α)) :AV→Option ((Lv×List α)×List Bool)
  | .imm l d w es o n=>(f d).bind fun xs=>bif Nat.beq w 1&&Nat.beq es 1 then some ((l,ay o n xs),[di o n xs]) else none
  | .nsl=>some ((.free,[]),[])
  | .esl=>some ((.free,[]),[])
  | _=>none
def Uz:aZ→Option (List Nat)
  | .fl xs=>some xs
  | _=>none
def UA(k:IntKind) :aZ→Option (List Int)
  | .ns k' xs=>bif jb k k' then some xs else none
  | _=>none
def UB:aZ→Option (List Bool)
  | .bs xs=>some xs
  | _=>none
def VS:aZ→Option (List ByteArray)
  | .ss xs=>some xs
  | _=>none
def VT:aZ→Option (List AV)
  | .vs xs=>some xs
  | _=>none
def SL:aZ→Option (Nat×List lw)
  | .cols m cs=>some (m,cs)
  | _=>none
def Pz(ks:List CK) :AV→Option ((Lv×Nat×CKs.Ty ks)×List Bool)
  | .imm l d w es o n=>(SL d).bind fun q=>bif Nat.beq w ks.length&&Nat.beq es ks.length then (CKs.fit ks o n q.2).map fun t=>((l,n,t),[Nat.ble (o+n) q.1]) else none
  | .nsl=>some ((.free,0,CKs.emp ks),[])
  | .esl=>some ((.free,0,CKs.emp ks),[])
  | _=>none
def VU(w i j:Nat) :AV→Option (Lv×List AV)
  | .iptr l d w' i' j'=>(VT d).bind fun xs=>bif Nat.beq w w'&&(Nat.beq i i'&&Nat.beq j j') then some (l,xs) else none
  | _=>none
def WJ(f:FuncId) :AV→Option (List AV×List AV)
  | .fn (.func f') x y=>bif Nat.beq f f' then some (x,y) else none
  | _=>none
def VV:AV→Option (List AV)
  | .agg l=>some l
  | _=>none
def VW:AV→Option (List AV)
  | .tup l=>some l
  | _=>none
def SM(t:TypeId) :AV→Option AV
  | .iface t' v=>bif Nat.beq t t' then some v else none
  | _=>none
def VX:AV→Option (Unit×List Bool)
  | .nfn=>some ((),[])
  | _=>none
def UC:AV→Option (Unit×List Bool)
  | .nptr=>some ((),[])
  | _=>none
def VY:AV→Option (Unit×List Bool)
  | .nsl=>some ((),[])
  | _=>none
def UD(b:Nat) :AV→Option ((Nat×Nat×Nat)×List Bool)
  | .sl b' w es i len cap=>bif Nat.beq b b'&&(Nat.beq w 1&&Nat.beq es 1) then some ((i,len,cap),[]) else none
  | _=>none
def SN(b w i j:Nat) :AV→Option (Unit×List Bool)
  | .ptr b' w' i' j'=>bif (Nat.beq b b'&&Nat.beq w w')&&(Nat.beq i i'&&Nat.beq j j') then some ((),[]) else none
  | _=>none
def QZ:AV→Option (Unit×List Bool)
  | .niface=>some ((),[])
  | _=>none
mutual
def H8.fit:(p:H8)→AV→Option (p.Ty×List Bool)
  | .int k=>Uw k
  | .flt ex=>Ux ex
  | .bool=>SK
  | .kbool b=>QY b
  | .str=>Uy
  | .fl=>OJ Uz
  | .ns k=>OJ (UA k)
  | .bs=>OJ UB
  | .ss=>OJ VS
  | .cols ks=>Pz ks
  | .ivs ps w i j=>fun v=>match VU w i j v with
    | some q=>match ps.fit q.2 with
      | some r=>some ((q.1,r.1),r.2)
      | none=>none
    | none=>none
  | .fn f a b=>fun v=>match WJ f v with
    | some q=>match a.fit q.1 with
      | some r=>match b.fit q.2 with
        | some s=>some ((r.1,s.1),r.2++s.2)
        | none=>none
      | none=>none
    | none=>none
  | .agg ps=>fun v=>match VV v with
    | some l=>ps.fit l
    | none=>none
  | .tup ps=>fun v=>match VW v with
    | some l=>ps.fit l
    | none=>none
  | .iface t p=>fun v=>match SM t v with
    | some u=>p.fit u
    | none=>none
  | .nfn=>VX
  | .nptr=>UC
  | .nsl=>VY
  | .niface=>QZ
  | .any=>fun _=>some ((),[])
  | .lsl b=>UD b
  | .lptr b w i j=>SN b w i j
def ww.fit:(ps:ww)→List AV→Option (ps.Ty×List Bool)
  | .nil=>fun l=>match l with
    | []=>some ((),[])
    | _::_=>none
  | .cons p ps=>fun l=>match l with
    | []=>none
    | v::l=>match p.fit v with
      | some r=>match ps.fit l with
        | some s=>some ((r.1,s.1),r.2++s.2)
        | none=>none
      | none=>none
end
theorem Ts{ks:List CK}{o n m:Nat}{cs:List lw}{t:CKs.Ty ks}(h:CKs.fit ks o n cs=some t) :∀ x v,(aZ.cols n (CKs.cols ks t)).cell? x=some v→(aZ.cols m cs).cell? (o*ks.length+x)=some v:=by
  intro x v hx
  have hl:=KC h
  obtain ⟨c',h1,_,h3⟩:=mP hx
  obtain ⟨c,q1,_,q3⟩:=CKs.fit_spec h _ _ h1
  rw [CKs.len] at h1 h3 q1
  have hpos:0<ks.length:=by
    have:=(List.getElem?_eq_some_iff.1 q1).1
    omega
  simp only [aZ.cell?,hl,Option.bind_eq_some_iff]
  refine ⟨c,?_,?_⟩
  · rw [Nat.add_comm,Nat.add_mul_mod_self_right];exact q1
  · rw [Nat.add_comm,Nat.add_mul_div_right _ _ hpos,Nat.add_comm];exact q3 _ _ h3
structure Wk (v v':AV):Prop where
  weak:bL v v'
  kept:v.kept=true→v'.kept=true
  foreign:v.foreign=true→v'.foreign=true
structure W2 (v v':List AV):Prop where
  weak:lK v v'
  kept:iN v=true→iN v'=true
  foreign:dl v=true→dl v'=true
theorem Wk.refl(v:AV) :Wk v v:=⟨bL.refl v,id,id⟩
theorem Wk.fltL(x:Nat) :Wk (.flt true x) (.flt false x):=⟨fun ρ w u h=>(by
  cases h with | flt _ _ y hf =>
  rcases hf with rfl | ⟨q,_⟩
  · exact .flt _ _ _ (.inl rfl)
  · cases q),id,id⟩
theorem W2.cons{v v':AV}{l l':List AV}(h:Wk v v')(k:W2 l l') :W2 (v::l) (v'::l') :=
  ⟨.cons h.weak k.weak,fun q=>by simp only [iN,Bool.and_eq_true] at q ⊢;exact ⟨h.kept q.1,k.kept q.2⟩,fun q=>by simp only [dl,Bool.and_eq_true] at q ⊢;exact ⟨h.foreign q.1,k.foreign q.2⟩⟩
theorem Wk.part{l:Lv}{d d':aZ}{w es o n:Nat}(h:∀ x v,d'.cell? x=some v→d.cell? (o*w+x)=some v)(hr:d.recKept→d'.recKept)(hk:d'.kept=true)(hg:d'.foreign=true) :Wk (.imm l d w es o n) (.imm l d' w es 0 n) :=
  ⟨KX h hr hk hg,id,id⟩
theorem Wk.nsl{d':aZ}{w es:Nat}(hr:d'.recKept)(hk:d'.kept=true)(hg:d'.foreign=true) :Wk .nsl (.imm .free d' w es 0 0):=⟨KY hr hk hg,id,id⟩
theorem Wk.esl{d':aZ}{w es:Nat}(hr:d'.recKept)(hk:d'.kept=true)(hg:d'.foreign=true) :Wk .esl (.imm .free d' w es 0 0):=⟨KZ hr hk hg,id,id⟩
theorem Wk.fl{l:Lv}{xs:List Nat}{o n:Nat}(h:di o n xs=true) :Wk (.imm l (.fl xs) 1 1 o n) (.imm l (.fl (ay o n xs)) 1 1 0 (ay o n xs).length):=by
  rw [jp (am.1 h)];exact .part (fun x v q=>by rw [Nat.mul_one];exact xL q) (fun _=>trivial) rfl rfl
theorem Wk.ns{k:IntKind}{l:Lv}{xs:List Int}{o n:Nat}(h:di o n xs=true) :Wk (.imm l (.ns k xs) 1 1 o n) (.imm l (.ns k (ay o n xs)) 1 1 0 (ay o n xs).length):=by
  rw [jp (am.1 h)];exact .part (fun x v q=>by rw [Nat.mul_one];exact xL q) (fun _=>trivial) rfl rfl
theorem Wk.bs{l:Lv}{xs:List Bool}{o n:Nat}(h:di o n xs=true) :Wk (.imm l (.bs xs) 1 1 o n) (.imm l (.bs (ay o n xs)) 1 1 0 (ay o n xs).length):=by
  rw [jp (am.1 h)];exact .part (fun x v q=>by rw [Nat.mul_one];exact xL q) (fun _=>trivial) rfl rfl
theorem Wk.ss{l:Lv}{xs:List ByteArray}{o n:Nat}(h:di o n xs=true) :Wk (.imm l (.ss xs) 1 1 o n) (.imm l (.ss (ay o n xs)) 1 1 0 (ay o n xs).length):=by
  rw [jp (am.1 h)];exact .part (fun x v q=>by rw [Nat.mul_one];exact xL q) (fun _=>trivial) rfl rfl
theorem UE{ks:List CK}{o n m:Nat}{cs:List lw}{t:CKs.Ty ks}(h:CKs.fit ks o n cs=some t)(hm:o+n≤m) :(aZ.cols m cs).recKept→(aZ.cols n (CKs.cols ks t)).recKept:=by
  intro hr c hc
  obtain ⟨j,hj⟩:=List.getElem?_of_mem hc
  obtain ⟨c0,q1,q2,_⟩:=CKs.fit_spec h j c hj
  exact q2 (by rw [hr c0 (List.mem_of_getElem? q1)];exact hm)
theorem WK{w es n:Nat}(h:(Nat.beq w n&&Nat.beq es n)=true) :w=n∧es=n:=by
  rw [Bool.and_eq_true] at h;exact ⟨Nat.eq_of_beq_eq_true h.1,Nat.eq_of_beq_eq_true h.2⟩
theorem zp{α:Type}{c:Bool}{a:α}{x:α}(h:(bif c then some a else none)=some x) :c=true∧a=x:=by
  cases c with
  | true=>exact ⟨rfl,by simpa using h⟩
  | false=>cases h
theorem WL{α:Type}{c:Bool}{a:Option α}{x:α}(h:(bif c then a else none)=some x) :c=true∧a=some x:=by
  cases c with
  | true=>exact ⟨rfl,h⟩
  | false=>cases h
theorem Dx{α:Type}{f:aZ→Option (List α)}{g:List α→aZ}(hg:∀ {d xs},f d=some xs→d=g xs) 
    (hw:∀ {l xs o n},di o n xs=true→Wk (.imm l (g xs) 1 1 o n) (.imm l (g (ay o n xs)) 1 1 0 (ay o n xs).length)) (h0:(g []).recKept∧(g []).kept=true∧(g []).foreign=true)
    {v:AV} {t:Lv×List α} {o:List Bool} (h:OJ f v=some (t,o)) (ho:aX o):Wk v (.imm t.1 (g t.2) 1 1 0 t.2.length):=by
  unfold OJ at h
  split at h
  · rename_i l d w es i n
    cases e:f d with
    | none=>rw [e] at h;cases h
    | some xs =>
      rw [e] at h
      obtain ⟨e2,h⟩:=zp h
      obtain ⟨rfl,rfl⟩:=WK e2
      cases h;cases hg e;exact hw ho.1
  · cases h;exact .nsl h0.1 h0.2.1 h0.2.2
  · cases h;exact .esl h0.1 h0.2.1 h0.2.2
  · cases h
theorem PA{ks:List CK}{v:AV}{t:Lv×Nat×CKs.Ty ks}{o:List Bool}(h:Pz ks v=some (t,o))(ho:aX o) :Wk v (.imm t.1 (.cols t.2.1 (CKs.cols ks t.2.2)) ks.length ks.length 0 t.2.1):=by
  unfold Pz at h
  split at h
  · rename_i l d w es i n
    cases d<;>simp only [SL,Option.bind_none,Option.bind_some,reduceCtorEq] at h
    rename_i m cs
    have e:=(WL h).1;replace h:=(WL h).2
    obtain ⟨rfl,rfl⟩:=WK e
    cases e2:CKs.fit ks i n cs with
    | none=>rw [e2] at h;cases h
    | some r =>
      rw [e2] at h;cases h
      have:i+n≤m:=Nat.le_of_ble_eq_true ho.1
      exact .part (Ts e2) (UE e2 this) rfl rfl
  · cases h;exact .nsl (CKs.emp_len ks) rfl rfl
  · cases h;exact .esl (CKs.emp_len ks) rfl rfl
  · cases h
mutual
theorem H8.fit_spec:∀ (p:H8) (v:AV) {t:p.Ty} {o:List Bool},p.fit v=some (t,o)→aX o→Wk v (p.av t)
  | .int k,v,t,o,h,ho=>by
    simp only [H8.fit,Uw] at h
    split at h
    · obtain ⟨e,h⟩:=zp h
      cases h;cases zI.1 e;exact .refl _
    · cases h
  | .flt ex,v,t,o,h,ho=>by
    simp only [H8.fit,Ux] at h
    split at h
    · rename_i ex' x
      cases ex with
      | true =>
        cases ex' with
        | true=>cases h;exact .refl _
        | false=>cases h
      | false =>
        cases ex' with
        | true=>cases h;exact .fltL x
        | false=>cases h;exact .refl _
    · cases h
  | .bool,v,t,o,h,ho=>by
    simp only [H8.fit,SK] at h
    split at h
    · rename_i kn b
      cases kn with
      | true=>cases h
      | false=>cases h;exact .refl _
    · cases h
  | .kbool b,v,t,o,h,ho=>by
    simp only [H8.fit,QY] at h
    split at h
    · obtain ⟨e,h⟩:=zp h
      rw [Bool.and_eq_true] at e
      cases e.1;cases R7.1 e.2;exact .refl _
    · cases h
  | .str,v,t,o,h,ho=>by
    simp only [H8.fit,Uy] at h
    split at h
    · cases h;exact .refl _
    · cases h
  | .fl,v,t,o,h,ho=>Dx (g:=.fl) (f:=Uz) (fun {d xs} e=>by cases d<;>cases e;rfl) (fun q=>.fl q) ⟨trivial,rfl,rfl⟩ h ho
  | .ns k,v,t,o,h,ho=>Dx (g:=.ns k) (f:=UA k) (fun {d xs} e=>by
      cases d<;>try (cases e;done)
      have e1:=(zp e).1;replace e:=(zp e).2
      cases zI.1 e1;cases e;rfl) (fun q=>.ns q) ⟨trivial,rfl,rfl⟩ h ho
  | .bs,v,t,o,h,ho=>Dx (g:=.bs) (f:=UB) (fun {d xs} e=>by cases d<;>cases e;rfl) (fun q=>.bs q) ⟨trivial,rfl,rfl⟩ h ho
  | .ss,v,t,o,h,ho=>Dx (g:=.ss) (f:=VS) (fun {d xs} e=>by cases d<;>cases e;rfl) (fun q=>.ss q) ⟨trivial,rfl,rfl⟩ h ho
  | .cols ks,v,t,o,h,ho=>PA h ho
  | .ivs ps w i j,v,t,o,h,ho=>by
    simp only [H8.fit] at h
    split at h
    case h_2=>cases h
    rename_i q hq
    split at h
    case h_2=>cases h
    rename_i r hr
    cases h
    unfold VU at hq
    split at hq
    case h_2=>cases hq
    rename_i l d w' i' j'
    cases d<;>simp only [VT,Option.bind_none,Option.bind_some,reduceCtorEq] at hq
    rename_i xs
    have e:=(zp hq).1;replace hq:=(zp hq).2
    rw [Bool.and_eq_true,Bool.and_eq_true] at e
    cases Nat.eq_of_beq_eq_true e.1
    cases Nat.eq_of_beq_eq_true e.2.1
    cases Nat.eq_of_beq_eq_true e.2.2
    cases hq
    have:=ww.fit_spec ps xs hr ho
    exact ⟨MB this.weak this.kept this.foreign,id,id⟩
  | .fn f a b,v,t,o,h,ho=>by
    simp only [H8.fit] at h
    split at h
    case h_2=>cases h
    rename_i q hq
    split at h
    case h_2=>cases h
    rename_i r hr
    split at h
    case h_2=>cases h
    rename_i s hs
    cases h
    unfold WJ at hq
    split at hq
    case h_2=>cases hq
    have e:=(zp hq).1;replace hq:=(zp hq).2
    cases Nat.eq_of_beq_eq_true e
    cases hq
    rw [cg] at ho
    have h1:=ww.fit_spec a _ hr ho.1
    have h2:=ww.fit_spec b _ hs ho.2
    refine ⟨bL.fn h1.weak h2.weak,fun q=>?_,fun q=>?_⟩
    · simp only [H8.av,AV.kept,Bool.and_eq_true] at q ⊢;exact ⟨h1.kept q.1,h2.kept q.2⟩
    · simp only [H8.av,AV.foreign,Bool.and_eq_true] at q ⊢;exact ⟨h1.foreign q.1,h2.foreign q.2⟩
  | .agg ps,v,t,o,h,ho=>by
    simp only [H8.fit] at h
    split at h
    case h_2=>cases h
    rename_i l hl
    cases v<;>simp only [VV,reduceCtorEq,Option.some.injEq] at hl
    subst hl
    have:=ww.fit_spec ps _ h ho
    exact ⟨bL.agg this.weak,this.kept,this.foreign⟩
  | .tup ps,v,t,o,h,ho=>by
    simp only [H8.fit] at h
    split at h
    case h_2=>cases h
    rename_i l hl
    cases v<;>simp only [VW,reduceCtorEq,Option.some.injEq] at hl
    subst hl
    have:=ww.fit_spec ps _ h ho
    exact ⟨bL.tup this.weak,this.kept,this.foreign⟩
  | .iface y p,v,t,o,h,ho=>by
    simp only [H8.fit] at h
    split at h
    case h_2=>cases h
    rename_i u hu
    unfold SM at hu
    split at hu
    case h_2=>cases hu
    have e:=(zp hu).1;replace hu:=(zp hu).2
    cases Nat.eq_of_beq_eq_true e
    subst hu
    have:=H8.fit_spec p _ h ho
    exact ⟨bL.iface this.weak,this.kept,this.foreign⟩
  | .nfn,v,t,o,h,ho=>by
    cases v<;>simp only [H8.fit,VX,reduceCtorEq] at h
    exact .refl _
  | .nptr,v,t,o,h,ho=>by
    cases v<;>simp only [H8.fit,UC,reduceCtorEq] at h
    exact .refl _
  | .nsl,v,t,o,h,ho=>by
    cases v<;>simp only [H8.fit,VY,reduceCtorEq] at h
    exact .refl _
  | .niface,v,t,o,h,ho=>by
    cases v<;>simp only [H8.fit,QZ,reduceCtorEq] at h
    exact .refl _
  | .any,v,t,o,h,ho=>⟨bL.any v,fun _=>rfl,fun _=>rfl⟩
  | .lsl b,v,t,o,h,ho=>by
    simp only [H8.fit,UD] at h
    split at h
    · have e:=(zp h).1;replace h:=(zp h).2
      rw [Bool.and_eq_true,Bool.and_eq_true] at e
      cases Nat.eq_of_beq_eq_true e.1
      cases Nat.eq_of_beq_eq_true e.2.1
      cases Nat.eq_of_beq_eq_true e.2.2
      cases h;exact .refl _
    · cases h
  | .lptr b w i j,v,t,o,h,ho=>by
    simp only [H8.fit,SN] at h
    split at h
    · have e:=(zp h).1;replace h:=(zp h).2
      rw [Bool.and_eq_true,Bool.and_eq_true,Bool.and_eq_true] at e
      cases Nat.eq_of_beq_eq_true e.1.1
      cases Nat.eq_of_beq_eq_true e.1.2
      cases Nat.eq_of_beq_eq_true e.2.1
      cases Nat.eq_of_beq_eq_true e.2.2
      exact .refl _
    · cases h
theorem ww.fit_spec:∀ (ps:ww) (l:List AV) {t:ps.Ty} {o:List Bool},ps.fit l=some (t,o)→aX o→W2 l (ps.avs t)
  | .nil,[],t,o,h,ho=>⟨.nil,id,id⟩
  | .nil,v::l,t,o,h,ho=>by simp [ww.fit] at h
  | .cons p ps,[],t,o,h,ho=>by simp [ww.fit] at h
  | .cons p ps,v::l,t,o,h,ho=>by
    simp only [ww.fit] at h
    split at h
    case h_2=>cases h
    rename_i r hr
    split at h
    case h_2=>cases h
    rename_i s hs
    cases h
    rw [cg] at ho
    exact .cons (H8.fit_spec p v hr ho.1) (ww.fit_spec ps l hs ho.2)
end
def lC(f:FuncId)(ps:ww)(alts:ps.Ty→List zR) :bC :=
  ⟨f, fun L args => match L with
    | []=>match ps.fit args with
      | some r=>some ((alts r.1).map fun a=>⟨a.out,r.2++a.obs⟩)
      | none=>none
    | _=>none⟩
theorem eV{P:Program}{f:FuncId}{ps:ww}{alts:ps.Ty→List zR}(h:∀ t,∀ a∈alts t,aX a.obs→aH P f [] (ps.avs t) a.out) :bZ P (lC f ps alts):=by
  intro L args al a hal ha ho
  simp only [lC] at hal
  split at hal
  case h_2=>cases hal
  split at hal
  case h_2=>cases hal
  rename_i r hr
  obtain ⟨t,o⟩:=r
  simp only [Option.some.injEq] at hal
  subst hal
  simp only [List.mem_map] at ha
  obtain ⟨b,hb,rfl⟩:=ha
  simp only [cg] at ho
  exact (h t b hb ho.2).args (ww.fit_spec ps args hr ho.1).weak
inductive CP where
  | int (k:IntKind)
  | flt
  | fltx
  | bool
  | str
  | lsl (b:Nat)
  | lsl0 (b:Nat)
  | lptr (b w i j:Nat)
  | nsl
  | nptr
def CP.Ty:CP→Type
  | .int _=>Int
  | .flt=>Nat
  | .fltx=>Nat
  | .bool=>Bool
  | .str=>ByteArray
  | .lsl _=>Nat×Nat×Nat
  | .lsl0 _=>Nat×Nat
  | .lptr _ _ _ _=>Unit
  | .nsl=>Unit
  | .nptr=>Unit
def CP.av:(p:CP)→p.Ty→AV
  | .int k,n=>.int k n
  | .flt,x=>.flt false x
  | .fltx,x=>.flt true x
  | .bool,b=>.bool false b
  | .str,s=>.str s
  | .lsl b,t=>.sl b 1 1 t.1 t.2.1 t.2.2
  | .lsl0 b,t=>.sl b 1 1 0 t.1 t.2
  | .lptr b w i j,_=>.ptr b w i j
  | .nsl,_=>.nsl
  | .nptr,_=>.nptr
def VZ(k:IntKind) :AV→Option Int
  | .int k' n=>bif jb k k' then some n else none
  | _=>none
def V0:AV→Option Nat
  | .flt ex x=>bif ex then none else some x
  | _=>none
def UF:AV→Option Nat
  | .flt ex x=>bif ex then some x else none
  | _=>none
def UG:AV→Option Bool
  | .bool kn b=>bif kn then none else some b
  | _=>none
def V1:AV→Option ByteArray
  | .str s=>some s
  | _=>none
def V2(b:Nat) :AV→Option (Nat×Nat×Nat)
  | .sl b' w es i len cap=>bif Nat.beq b b'&&(Nat.beq w 1&&Nat.beq es 1) then some (i,len,cap) else none
  | _=>none
def UH(b:Nat) :AV→Option (Nat×Nat)
  | .sl b' w es i len cap=>bif Nat.beq b b'&&(Nat.beq w 1&&Nat.beq es 1)&&Nat.beq i 0 then some (len,cap) else none
  | _=>none
def UI(b w i j:Nat) :AV→Option Unit
  | .ptr b' w' i' j'=>bif (Nat.beq b b'&&Nat.beq w w')&&(Nat.beq i i'&&Nat.beq j j') then some () else none
  | _=>none
def V3:AV→Option Unit
  | .nsl=>some ()
  | _=>none
def UJ:AV→Option Unit
  | .nptr=>some ()
  | _=>none
def CP.fit:(p:CP)→AV→Option p.Ty
  | .int k=>VZ k
  | .flt=>V0
  | .fltx=>UF
  | .bool=>UG
  | .str=>V1
  | .lsl b=>V2 b
  | .lsl0 b=>UH b
  | .lptr b w i j=>UI b w i j
  | .nsl=>V3
  | .nptr=>UJ
theorem WM{c:Bool}{α:Type}{a x:α}(h:(bif c then none else some a)=some x) :c=false∧a=x:=by
  cases c with
  | true=>cases h
  | false=>exact ⟨rfl,by simpa using h⟩
theorem CP.fit_spec:∀ (p:CP) {v:AV} {t:p.Ty},p.fit v=some t→v=p.av t
  | .int k,v,t,h=>by
    simp only [CP.fit,VZ] at h
    split at h
    · obtain ⟨e,h⟩:=zp h
      cases h;cases zI.1 e;rfl
    · cases h
  | .flt,v,t,h=>by
    simp only [CP.fit,V0] at h
    split at h
    · obtain ⟨e,h⟩:=WM h
      cases h;cases e;rfl
    · cases h
  | .fltx,v,t,h=>by
    simp only [CP.fit,UF] at h
    split at h
    · obtain ⟨e,h⟩:=zp h
      cases h;cases e;rfl
    · cases h
  | .bool,v,t,h=>by
    simp only [CP.fit,UG] at h
    split at h
    · obtain ⟨e,h⟩:=WM h
      cases h;cases e;rfl
    · cases h
  | .str,v,t,h=>by
    simp only [CP.fit,V1] at h
    split at h
    · cases h;rfl
    · cases h
  | .lsl b,v,t,h=>by
    simp only [CP.fit,V2] at h
    split at h
    · have e:=(zp h).1;replace h:=(zp h).2
      rw [Bool.and_eq_true,Bool.and_eq_true] at e
      cases Nat.eq_of_beq_eq_true e.1
      cases Nat.eq_of_beq_eq_true e.2.1
      cases Nat.eq_of_beq_eq_true e.2.2
      cases h;rfl
    · cases h
  | .lsl0 b,v,t,h=>by
    simp only [CP.fit,UH] at h
    split at h
    · have e:=(zp h).1;replace h:=(zp h).2
      rw [Bool.and_eq_true,Bool.and_eq_true,Bool.and_eq_true] at e
      cases Nat.eq_of_beq_eq_true e.1.1
      cases Nat.eq_of_beq_eq_true e.1.2.1
      cases Nat.eq_of_beq_eq_true e.1.2.2
      cases Nat.eq_of_beq_eq_true e.2
      cases h;rfl
    · cases h
  | .lptr b w i j,v,t,h=>by
    simp only [CP.fit,UI] at h
    split at h
    · have e:=(zp h).1;clear h
      rw [Bool.and_eq_true,Bool.and_eq_true,Bool.and_eq_true] at e
      cases Nat.eq_of_beq_eq_true e.1.1
      cases Nat.eq_of_beq_eq_true e.1.2
      cases Nat.eq_of_beq_eq_true e.2.1
      cases Nat.eq_of_beq_eq_true e.2.2
      rfl
    · cases h
  | .nsl,v,t,h=>by
    simp only [CP.fit,V3] at h
    split at h
    · rfl
    · cases h
  | .nptr,v,t,h=>by
    simp only [CP.fit,UJ] at h
    split at h
    · rfl
    · cases h
def CPs.Ty:List CP→Type
  | []=>Unit
  | p::l=>p.Ty×CPs.Ty l
def CPs.avs:(l:List CP)→CPs.Ty l→List AV
  | [],_=>[]
  | p::l,t=>p.av t.1::CPs.avs l t.2
def CPs.fit:(l:List CP)→List AV→Option (CPs.Ty l)
  | []=>fun vs=>match vs with
    | []=>some ()
    | _::_=>none
  | p::l=>fun vs=>match vs with
    | []=>none
    | v::vs=>match p.fit v with
      | some t=>match CPs.fit l vs with
        | some r=>some (t,r)
        | none=>none
      | none=>none
theorem CPs.fit_spec:∀ (l:List CP) {vs:List AV} {t:CPs.Ty l},CPs.fit l vs=some t→vs=CPs.avs l t
  | [],[],t,h=>rfl
  | [],_::_,t,h=>by cases h
  | _::_,[],t,h=>by cases h
  | p::l,v::vs,t,h=>by
    simp only [CPs.fit] at h
    split at h
    case h_2=>cases h
    rename_i x hx
    split at h
    case h_2=>cases h
    rename_i r hr
    cases h
    simp only [CPs.avs]
    rw [←CP.fit_spec p hx,←CPs.fit_spec l hr]
inductive BK where
  | fl
  | ns (k:IntKind)
  | bs
  | vs (l:List CP)
def BK.Ty:BK→Type
  | .fl=>List Nat
  | .ns _=>List Int
  | .bs=>List Bool
  | .vs l=>CPs.Ty l
def BK.blk:(k:BK)→k.Ty→aZ
  | .fl,xs=>.fl xs
  | .ns k,xs=>.ns k xs
  | .bs,xs=>.bs xs
  | .vs l,t=>.vs (CPs.avs l t)
def W6(l:List CP) :aZ→Option (CPs.Ty l)
  | .vs xs=>CPs.fit l xs
  | _=>none
def BK.fit:(k:BK)→aZ→Option k.Ty
  | .fl=>Uz
  | .ns k=>UA k
  | .bs=>UB
  | .vs l=>W6 l
theorem BK.fit_spec:∀ (k:BK) {d:aZ} {t:k.Ty},k.fit d=some t→d=k.blk t
  | .fl,d,t,h=>by cases d<;>cases h;rfl
  | .ns k,d,t,h=>by
    cases d<;>try (cases h;done)
    have e1:=(zp h).1;replace h:=(zp h).2
    cases zI.1 e1;cases h;rfl
  | .bs,d,t,h=>by cases d<;>cases h;rfl
  | .vs l,d,t,h=>by
    cases d<;>try (cases h;done)
    exact congrArg aZ.vs (CPs.fit_spec l h)
def BKs.Ty:List BK→Type
  | []=>Unit
  | k::l=>k.Ty×BKs.Ty l
def IC:(l:List BK)→BKs.Ty l→List aZ
  | [],_=>[]
  | k::l,t=>k.blk t.1::IC l t.2
def BKs.fit:(l:List BK)→List aZ→Option (BKs.Ty l)
  | [],[]=>some ()
  | [],_::_=>none
  | _::_,[]=>none
  | k::l,d::ds=>match k.fit d with
    | some t=>match BKs.fit l ds with
      | some r=>some (t,r)
      | none=>none
    | none=>none
theorem BKs.fit_spec:∀ (l:List BK) {ds:List aZ} {t:BKs.Ty l},BKs.fit l ds=some t→ds=IC l t
  | [],[],t,h=>rfl
  | [],_::_,t,h=>by cases h
  | _::_,[],t,h=>by cases h
  | k::l,d::ds,t,h=>by
    simp only [BKs.fit] at h
    split at h
    case h_2=>cases h
    rename_i x hx
    split at h
    case h_2=>cases h
    rename_i r hr
    cases h
    simp only [IC]
    rw [←BK.fit_spec k hx,←BKs.fit_spec l hr]
def yZ(f:FuncId)(bs:List BK)(ps:ww)(alts:BKs.Ty bs→ps.Ty→List zR) :bC :=
  ⟨f, fun L args => match BKs.fit bs L with
    | some x=>match ps.fit args with
      | some r=>some ((alts x r.1).map fun a=>⟨a.out,r.2++a.obs⟩)
      | none=>none
    | none=>none⟩
theorem pE{P:Program}{f:FuncId}{bs:List BK}{ps:ww}{alts:BKs.Ty bs→ps.Ty→List zR}(h:∀ x t,∀ a∈alts x t,aX a.obs→aH P f (IC bs x) (ps.avs t) a.out) :bZ P (yZ f bs ps alts):=by
  intro L args al a hal ha ho
  simp only [yZ] at hal
  split at hal
  case h_2=>cases hal
  rename_i x hx
  split at hal
  case h_2=>cases hal
  rename_i r hr
  obtain ⟨t,o⟩:=r
  simp only [Option.some.injEq] at hal
  subst hal
  simp only [List.mem_map] at ha
  obtain ⟨b,hb,rfl⟩:=ha
  simp only [cg] at ho
  have:=(h x t b hb ho.2).args (ww.fit_spec ps args hr ho.1).weak
  rwa [←BKs.fit_spec bs hx] at this
theorem pF{P:Program}{f:FuncId}{L:List aZ}{l:List AV} :∀ a∈([]:List zR),aX a.obs→aH P f L l a.out:=fun a h=>by cases h
theorem jZ{P:Program}{f:FuncId}{L:List aZ}{l:List AV}{o:rF}{b:Bool}{al:List zR}(h:b=true→aH P f L l o)(t:∀ a∈al,aX a.obs→aH P f L l a.out) :∀ a∈(⟨o,[b]⟩:zR)::al,aX a.obs→aH P f L l a.out:=by
  intro a ha ho
  rcases List.mem_cons.1 ha with rfl | ha
  · exact h ho.1
  · exact t a ha ho
theorem fY{P:Program}{f:FuncId}{l:List AV} :∀ a∈([]:List zR),aX a.obs→aH P f [] l a.out:=fun a h=>by cases h
theorem eW{P:Program}{f:FuncId}{l:List AV}{o:rF}{b:Bool}{al:List zR}(h:b=true→aH P f [] l o)(t:∀ a∈al,aX a.obs→aH P f [] l a.out) :∀ a∈(⟨o,[b]⟩:zR)::al,aX a.obs→aH P f [] l a.out:=by
  intro a ha ho
  rcases List.mem_cons.1 ha with rfl | ha
  · exact h ho.1
  · exact t a ha ho
end Go.Plb
namespace Go.Plb
open Go.ChangeShapes Go.WideShapes Go.ChangeAt Go.RowKit Go.Deep
set_option linter.unusedSimpArgs false
set_option linter.unusedVariables false
set_option linter.unusedSectionVars false
variable [Rom]
def FA.z:FA→Int
  | .i _ n=>n
  | _=>0
def FA.ss:FA→ByteArray
  | .s x=>x
  | _=>ByteArray.empty
variable {H : Type} {enc : TypeId × Value → H} {P : Program} {W : World}
instance:Inhabited FA:=⟨.b false⟩
theorem UK{l:List FA}(h:CG [.fl,.fl] l) :∃ xs ys,l=[.fl xs,.fl ys]:=by
  match l,h with
  | [a,b],⟨h1,h2,_⟩ =>
    obtain ⟨r,rfl⟩:=Ut h1;obtain ⟨s,rfl⟩:=Ut h2
    exact ⟨_,_,rfl⟩
end Go.Plb
namespace Go.Plb.Seat
open Go Go.Plb Go.Proofs
noncomputable abbrev prog:Program:=Try.prog
instance:Rom:=⟨[]⟩
theorem UL{ρ:aG}{w:World} :∀ x∈(Rom.tab:List (Nat×aZ)),VR ρ w (.iptr .free x.2 1 0 0) (.pointer (some ⟨x.1,0,none⟩)):=fun _ h=>by cases h
abbrev vb:FuncId:=4
abbrev Bz:FuncId:=7
abbrev GM:FuncId:=8
abbrev PB:FuncId:=9
abbrev yC:FuncId:=10
abbrev KD:FuncId:=11
abbrev HS:FuncId:=12
abbrev E7:FuncId:=13
abbrev ID:FuncId:=14
abbrev GN:FuncId:=17
abbrev jn:FuncId:=18
abbrev vM:FuncId:=19
abbrev GO:FuncId:=20
abbrev Q0:FuncId:=21
abbrev fK:FuncId:=23
abbrev vN:FuncId:=24
abbrev qe:FuncId:=25
abbrev E8:FuncId:=26
abbrev Dy:FuncId:=27
abbrev E9:FuncId:=29
abbrev kp:FuncId:=31
abbrev lL:FuncId:=32
abbrev lM:FuncId:=33
abbrev vc:FuncId:=34
abbrev xM:FuncId:=36
abbrev Dz:FuncId:=39
abbrev qC:FuncId:=42
abbrev sD:FuncId:=43
abbrev qn:FuncId:=44
abbrev aM:FuncId:=45
abbrev GQ:FuncId:=46
abbrev DA:FuncId:=47
abbrev kZ:FuncId:=48
abbrev BA:FuncId:=49
abbrev ap:FuncId:=50
abbrev kq:FuncId:=51
abbrev BB:FuncId:=52
abbrev aN:FuncId:=53
abbrev Fa:FuncId:=54
abbrev eL:FuncId:=56
abbrev fZ:FuncId:=57
abbrev qD:FuncId:=58
abbrev uW:FuncId:=59
abbrev lN:FuncId:=60
abbrev lb:FuncId:=62
abbrev DW:FuncId:=63
abbrev BC:FuncId:=64
abbrev zU:FuncId:=65
abbrev IE:FuncId:=66
abbrev Fb:FuncId:=68
abbrev iO:FuncId:=69
abbrev BD:FuncId:=70
abbrev iP:FuncId:=71
abbrev BE:FuncId:=72
abbrev yn:FuncId:=73
abbrev zq:FuncId:=74
abbrev yD:FuncId:=75
abbrev tX:FuncId:=76
abbrev MC:FuncId:=77
abbrev w7:FuncId:=78
abbrev AA:FuncId:=79
abbrev qE:FuncId:=82
abbrev gr:FuncId:=83
abbrev zV:FuncId:=84
abbrev qo:FuncId:=85
abbrev DB:FuncId:=86
abbrev BF:FuncId:=87
abbrev w8:FuncId:=90
abbrev DC:FuncId:=91
abbrev AB:FuncId:=93
abbrev DD:FuncId:=94
noncomputable def FN(f:FuncId) :Func:=(prog.funcs[f]?).getD default
noncomputable def qT(f:FuncId) :Code:=((FN f).body).getD .skip
noncomputable def C0:HM:=SF prog [(vc,.bits),(qD,.frombits),(Fb,.sqrt)] [(PB,⟨[true,true],false⟩),(qe,⟨[true,false,false],false⟩),(kp,⟨[true,false,false],false⟩),(lL,⟨[true],false⟩),(lM,⟨[true],false⟩),(qC,⟨[true,false,false,false],false⟩),(qn,⟨[true,false,false,false,false,false,false,false,false],false⟩),(kZ,⟨[true,false,false,false],false⟩),(BA,⟨[true,false,false,false,false,false,false,false,false],false⟩),(ap,⟨[true,true,true,true,true,true,true,true],false⟩),(lN,⟨[true,false,false,false,false,false,false,false,false],false⟩),(lb,⟨[true,false,false,false,false,false,false,false,false],false⟩),(iO,⟨[true,false,false,false,false,false,false,false,false],false⟩),(BD,⟨[true,false,false,false,false,false,false,false,false],false⟩),(iP,⟨[true,false,false,false,false,false,false,false,false],false⟩),(BE,⟨[true,false,false,false,false,false,false,false,false],false⟩),(yn,⟨[true,false,false,false,false,false,false,false,false],false⟩),(zq,⟨[true,false,false,false,false,false,false,false,false],false⟩),(yD,⟨[true,false,false,false,false,false,false,false,false],false⟩),(tX,⟨[true,false,false,false,false,false,false,false,false],false⟩),(w7,⟨[true,false,false,false,false,false,false,false,false],false⟩),(AA,⟨[true,false,false,false,false,false,false,false,false],false⟩),(DB,⟨[true,false,false,false,false,false,false,false,false],false⟩),(BF,⟨[true,false,false,false,false,false,false,false,false],false⟩),(w8,⟨[true,false,false,false,false,false,false,false,false],false⟩),(DC,⟨[true,false,false,false,false,false,false,false,false],false⟩),(AB,⟨[true,false,false,false,false,false,false,false,false],false⟩),(DD,⟨[true,false,false,false,false,false,false,false,false],false⟩)]
theorem Fc:SG prog vc .bits:=⟨FN vc,by kernel_rfl,by kernel_rfl,by kernel_rfl,by kernel_rfl,by kernel_rfl⟩
theorem BG:SG prog qD .frombits:=⟨FN qD,by kernel_rfl,by kernel_rfl,by kernel_rfl,by kernel_rfl,by kernel_rfl⟩
theorem NM:SG prog Fb .sqrt:=⟨FN Fb,by kernel_rfl,by kernel_rfl,by kernel_rfl,by kernel_rfl,by kernel_rfl⟩
theorem mixed:prog.follows .mixedOrders=true:=by kernel_rfl
theorem WN:SH prog=true:=by kernel_rfl
theorem GR:C0.Ok:=Uh mixed WN (by
  intro x hx
  simp only [List.mem_cons,List.not_mem_nil,or_false] at hx
  rcases hx with rfl | rfl | rfl
  · exact Fc
  · exact BG
  · exact NM
  )
end Go.Plb.Seat
namespace Go.Plb.Seat
open Go Go.Plb
set_option linter.unusedSimpArgs false
set_option linter.unusedVariables false
noncomputable abbrev E0:Iw:=cX []
theorem KE:cQ prog E0:=Mx prog
theorem UM(y:Nat) :aH prog Dz [] [.flt true y] ⟨.flt true (eE y),[]⟩:=by
  have h:DU C0 E0 (ry C0 E0 0 50) Dz [] [.flt true y] (some [])=some (⟨.flt true (DR .andNot .u64 (y:Int) 9223372036854775808).toNat,[]⟩,[],some []):=by kernel_rfl
  have:=aH.run GR KE _ _ _ h trivial
  rw [Up,Int.toNat_natCast] at this;exact this
theorem WO(ex:Bool)(x:Nat) :aH prog Dz [] [.flt ex x] ⟨.flt ex (eE x),[]⟩:=by
  cases ex with
  | true=>exact UM x
  | false=>exact KW (r:=fun y=>.flt true (eE y)) UM (fun y hf ρ w u h=>h.flt_weak (Wj hf))
theorem KF(x y:Nat) :aH prog uW [] [.flt true x,.flt true y] ⟨.flt true (wI x y),[]⟩:=by
  have h:DU C0 E0 (ry C0 E0 0 50) uW [] [.flt true x,.flt true y] (some [])=some (⟨.flt true (DR .or .u64 (DR .andNot .u64 (x:Int) 9223372036854775808) (DR .and .u64 (y:Int) 9223372036854775808)).toNat,[]⟩,[],some []):=by kernel_rfl
  have:=aH.run GR KE _ _ _ h trivial
  rw [Up,Wi,WI,Int.toNat_natCast] at this;exact this
theorem R8(e1 e2:Bool)(x y:Nat)(hn:isNaN y=true→isNaN x=true) :aH prog uW [] [.flt e1 x,.flt e2 y] ⟨.flt false (wI x y),[]⟩ :=
  DV (r:=fun x y=>.flt true (wI x y)) KF (fun x' y' h1 h2 ρ w u h=>h.flt_weak (FR.copy h1 h2 hn))
theorem Vo(e1 e2:Bool)(x y:Nat) :aH prog vM [] [.flt e1 x,.flt e2 y] ⟨.bool false (CE x y),[]⟩:=by
  refine DV (r:=fun x y=>.bool false (CE x y)) (fun x y=>?_) (fun x' y' h1 h2 ρ w u h=>by rw [←FR.same h1 h2];exact h)
  have hb:((x:Int)==(y:Int))=(x==y):=by
    rw [Bool.eq_iff_iff];simp;omega
  cases hx:isNaN x with
  | false =>
    have h:DU C0 E0 (ry C0 E0 0 50) vM [] [.flt true x,.flt true y] (some [0])=some (⟨.bool false ((x:Int)==(y:Int)),[]⟩,[Az x x==false],some []):=by kernel_rfl
    have:=aH.run GR KE _ _ _ h ⟨by rw [ym,hx];rfl,trivial⟩
    rw [hb] at this
    simp only [CE,hx,Bool.false_and,Bool.false_or];exact this
  | true =>
    cases hy:isNaN y with
    | false =>
      have h:DU C0 E0 (ry C0 E0 0 50) vM [] [.flt true x,.flt true y] (some [1,0])=some (⟨.bool false ((x:Int)==(y:Int)),[]⟩,[Az x x==true,Az y y==false],some []):=by kernel_rfl
      have:=aH.run GR KE _ _ _ h ⟨by rw [ym,hx];rfl,by rw [ym,hy];rfl,trivial⟩
      rw [hb] at this
      simp only [CE,hx,hy,Bool.and_false,Bool.false_or];exact this
    | true =>
      have h:DU C0 E0 (ry C0 E0 0 50) vM [] [.flt true x,.flt true y] (some [1,1])=some (⟨.bool true true,[]⟩,[Az x x==true,Az y y==true],some []):=by kernel_rfl
      have:=aH.run GR KE _ _ _ h ⟨by rw [ym,hx];rfl,by rw [ym,hy];rfl,trivial⟩
      have e:CE x y=true:=by simp [CE,hx,hy]
      rw [e]
      exact this.weak (My _ _ _)
def R9(L:List aZ)(args:List AV) :Option (List zR) :=
  match L,args with
  | [],[.flt e1 x,.flt e2 y]=>bif e1&&e2 then one (.flt true (wI x y)) [] else one (.flt false (wI x y)) [!isNaN y||isNaN x]
  | _,_=>none
def UN:bC:=⟨Dz,fun L args=>match L,args with | [],[.flt e x]=>one (.flt e (eE x)) [] | _,_=>none⟩
def MD:bC:=⟨uW,R9⟩
def PC:bC:=⟨vM,fun L args=>match L,args with | [],[.flt _ x,.flt _ y]=>one (.bool false (CE x y)) [] | _,_=>none⟩
theorem UO:bZ prog UN:=by
  intro L args alts a h ha ho
  simp only [UN] at h
  split at h
  · exact CF h ha ho fun _=>WO _ _
  · cases h
theorem Wl{x y:Nat}(h:aX [!isNaN y||isNaN x]) :isNaN y=true→isNaN x=true:=by
  intro hy;have:=h.1;rw [hy] at this;simpa using this
theorem Vp{f:FuncId}(hT:∀ x y,aH prog f [] [.flt true x,.flt true y] ⟨.flt true (wI x y),[]⟩) 
    (hF:∀ e1 e2 x y,(isNaN y=true→isNaN x=true)→aH prog f [] [.flt e1 x,.flt e2 y] ⟨.flt false (wI x y),[]⟩):bZ prog ⟨f,R9⟩:=by
  intro L args alts a h ha ho
  simp only [R9] at h
  split at h
  · rename_i e1 x e2 y
    cases e1<;>cases e2<;>first | exact CF h ha ho fun q=>hF _ _ _ _ (Wl q) | exact CF h ha ho fun q=>hT _ _
  · cases h
theorem NO:bZ prog MD:=Vp KF R8
theorem Sa:bZ prog PC:=by
  intro L args alts a h ha ho
  simp only [PC] at h
  split at h
  · exact CF h ha ho fun q=>Vo _ _ _ _
  · cases h
def L1:List bC:=[UN,MD,PC]
def S1:Iw:=cX L1
theorem WP:cQ prog S1:=aY UO (aY NO (aY Sa (Mx _)))
end Go.Plb.Seat
namespace Go.Plb
set_option linter.unusedSimpArgs false
set_option linter.unusedVariables false
set_option linter.unusedSectionVars false
variable [Rom]
inductive T (α:Type) where
  | fail
  | leaf (a:α)
  | ask (b:Bool) (t f:T α)
  | need (b:Bool) (t:T α)
  | alt (k:Nat) (t e:T α)
def T.run{α:Type} :T α→Option α
  | .fail=>none
  | .leaf a=>some a
  | .ask b t f=>bif b then t.run else f.run
  | .need b t=>bif b then t.run else none
  | .alt _ t e=>match t.run with
    | some a=>some a
    | none=>e.run
structure Gh (α:Type) where
  path:List Nat
  obs:List Bool
  val:α
def Gh.ask{α:Type}(n:Nat)(b:Bool)(l:Gh α) :Gh α:=⟨n::l.path,b::l.obs,l.val⟩
def Gh.need{α:Type}(b:Bool)(l:Gh α) :Gh α:=⟨l.path,b::l.obs,l.val⟩
def Gh.alt{α:Type}(n:Nat)(l:Gh α) :Gh α:=⟨n::l.path,l.obs,l.val⟩
def T.leaves{α:Type} :T α→List (Gh α)
  | .fail=>[]
  | .leaf a=>[⟨[],[],a⟩]
  | .ask b t f=>t.leaves.map (Gh.ask 1 (b==true))++f.leaves.map (Gh.ask 0 (b==false))
  | .need b t=>t.leaves.map (Gh.need b)
  | .alt k t e=>t.leaves.map (Gh.alt k)++e.leaves
theorem w9{α:Type} :∀ (t:T α) {a:α},t.run=some a→∃ l∈t.leaves,l.val=a∧aX l.obs
  | .fail,a,h=>by cases h
  | .leaf b,a,h=>by
    simp only [T.run,Option.some.injEq] at h;subst h
    exact ⟨⟨[],[],b⟩,by simp [T.leaves],rfl,trivial⟩
  | .ask b t f,a,h=>by
    simp only [T.run] at h
    cases b with
    | true =>
      simp only [cond_true] at h
      obtain ⟨l,h1,h2,h3⟩:=w9 t h
      exact ⟨l.ask 1 (true==true),by simp only [T.leaves,List.mem_append];exact .inl (List.mem_map_of_mem h1),h2,⟨rfl,h3⟩⟩
    | false =>
      simp only [cond_false] at h
      obtain ⟨l,h1,h2,h3⟩:=w9 f h
      exact ⟨l.ask 0 (false==false),by simp only [T.leaves,List.mem_append];exact .inr (List.mem_map_of_mem h1),h2,⟨rfl,h3⟩⟩
  | .need b t,a,h=>by
    simp only [T.run] at h
    cases b with
    | true =>
      simp only [cond_true] at h
      obtain ⟨l,h1,h2,h3⟩:=w9 t h
      exact ⟨l.need true,by simp only [T.leaves];exact List.mem_map_of_mem h1,h2,⟨rfl,h3⟩⟩
    | false=>cases h
  | .alt k t e,a,h=>by
    simp only [T.run] at h
    split at h
    · rename_i a' ht
      cases h
      obtain ⟨l,h1,h2,h3⟩:=w9 t ht
      exact ⟨l.alt k,by simp only [T.leaves,List.mem_append];exact .inl (List.mem_map_of_mem h1),h2,h3⟩
    · obtain ⟨l,h1,h2,h3⟩:=w9 e h
      exact ⟨l,by simp only [T.leaves,List.mem_append];exact .inr h1,h2,h3⟩
def DE{α X:Type}(N:α→aW)(E:X→AE×aW) :α⊕X→AE×aW
  | .inl a=>(.normal,N a)
  | .inr x=>E x
def Sg{α X:Type}(P:Program)(lent:List aZ)(cs:List Code)(st:aW)(m:Option (α⊕X))(N:α→aW)(E:X→AE×aW) :Prop :=
  ∀ r,m=some r→nF P lent cs st fun e st'=>(e,st')=DE N E r
def UP{α X:Type}(C:HM)(S:Iw)(n:Nat)(cs:List Code)(st:aW)(ls:List (Gh (α⊕X)))(ks:List NS)(k:Nat) :List (Bool×Option (AE×aW×List Bool)) :=
  List.zipWith (fun l s=>(s.ok k,Uo s (Tp (ry C S 12 n) cs st (some l.path)))) ls ks
def SO{α X:Type}(N:α→aW)(E:X→AE×aW)(ls:List (Gh (α⊕X))) :List (Bool×Option (AE×aW×List Bool)) :=
  ls.map fun l=>(true,some ((DE N E l.val).1,(DE N E l.val).2,l.obs))
theorem SP{α β γ:Type}{f:α→β→γ}{g:α→γ} :∀ {l:List α} {k:List β},List.zipWith f l k=l.map g→∀ a∈l,∃ b,f a b=g a
  | [],_,_,a,ha=>by cases ha
  | x::l,[],h,a,ha=>by simp at h
  | x::l,y::k,h,a,ha=>by
    simp only [List.zipWith_cons_cons,List.map_cons,List.cons.injEq] at h
    rcases List.mem_cons.1 ha with rfl | ha
    · exact ⟨y,h.1⟩
    · exact SP h.2 a ha
theorem Sg.seg{C:HM}(hC:C.Ok){S:Iw}(hS:cQ C.P S){lent:List aZ}{α X:Type}(n:Nat)(cs:List Code)(st:aW)(t:T (α⊕X))(N:α→aW)(E:X→AE×aW)(ks:List NS) 
    (h:UP C S n cs st t.leaves ks lent.length=SO N E t.leaves):Sg C.P lent cs st t.run N E:=by
  intro r hr
  obtain ⟨l,h1,h2,h3⟩:=w9 t hr
  obtain ⟨k,hk⟩:=SP h l h1
  simp only [Prod.mk.injEq] at hk
  obtain ⟨hn,he⟩:=hk
  have:=nF.seg hC hS (lent:=lent) (Q:=fun e st'=>(e,st')=DE N E r) cs.length (some l.path) k (cs:=cs) (st:=st) (by rw [List.take_length];exact he) hn h3
  refine this ?_
  rw [h2,List.drop_length]
  generalize hg:DE N E r=x
  obtain ⟨e,s⟩:=x
  cases e with
  | normal=>exact nF.nil rfl
  | ret=>rfl
  | exit id=>rfl
theorem nF.append{P:Program}{lent:List aZ}{cs1 cs2:List Code}{st:aW}{Q1 Q:AE→aW→Prop}(h:nF P lent cs1 st Q1)(k:∀ e st',Q1 e st'→NL P lent cs2 e st' Q) :nF P lent (cs1++cs2) st Q:=by
  intro ρ0 w0 hN K hK a w hA
  apply HQ
  refine h ρ0 w0 hN _ ?_ a w hA
  intro e st' a' w' q hA'
  have:=k e st' q
  cases e with
  | normal=>exact this ρ0 w0 hN K hK a' w' hA'
  | ret=>exact hK _ _ _ _ this hA'
  | exit id=>exact hK _ _ _ _ this hA'
def xN{X:Type}(E:X→AE×aW) :Prop:=∀ x,(E x).1 ≠ .normal
theorem SQ{P:Program}{lent:List aZ}{cs:List Code}{e:AE}{st:aW}{Q:AE→aW→Prop}(hn:e ≠ .normal)(h:Q e st) :NL P lent cs e st Q:=by
  cases e with
  | normal=>exact (hn rfl).elim
  | ret=>exact h
  | exit id=>exact h
def bd{α β X:Type}(m:Option (α⊕X))(k:α→Option (β⊕X)) :Option (β⊕X) :=
  match m with
  | none=>none
  | some (.inl a)=>k a
  | some (.inr x)=>some (.inr x)
theorem Sg.seq{P:Program}{lent:List aZ}{α β X:Type}{cs1 cs2:List Code}{st:aW}{m:Option (α⊕X)}{N1:α→aW}{E:X→AE×aW}{k:α→Option (β⊕X)}{N:β→aW}(hE:xN E) 
    (h:Sg P lent cs1 st m N1 E) (hk:∀ a,Sg P lent cs2 (N1 a) (k a) N E):Sg P lent (cs1++cs2) st (bd m k) N E:=by
  intro r hr
  unfold bd at hr
  split at hr
  · cases hr
  · rename_i a
    refine nF.append (h _ rfl) ?_
    intro e st' q
    simp only [DE,Prod.mk.injEq] at q
    obtain ⟨rfl,rfl⟩:=q
    exact hk a r hr
  · rename_i x
    simp only [Option.some.injEq] at hr;subst hr
    refine nF.append (h _ rfl) ?_
    intro e st' q
    simp only [DE] at q
    refine SQ ?_ q
    have:=hE x
    rw [←q] at this;exact this
def DX{σ Y:Type}(B:σ→Option (σ⊕Y)) :Nat→σ→Option Y
  | 0,_=>none
  | n+1,s=>match B s with
    | none=>none
    | some (.inl s')=>DX B n s'
    | some (.inr y)=>some y
theorem HT{σ Y:Type}{B:σ→Option (σ⊕Y)} :∀ (n:Nat) {s:σ} {y:Y},DX B n s=some y→∀ m,n≤m→DX B m s=some y
  | 0,s,y,h,_,_=>by cases h
  | n+1,s,y,h,m,hm=>by
    obtain ⟨m',rfl⟩:∃ m',m=m'+1:=⟨m-1,by omega⟩
    simp only [DX] at h ⊢
    split at h
    · cases h
    · exact HT n h m' (by omega)
    · exact h
open Classical in
noncomputable def cu{σ Y:Type}(B:σ→Option (σ⊕Y))(s:σ) :Option Y :=
  if h:∃ n y,DX B n s=some y then some h.choose_spec.choose else none
theorem Gc{σ Y:Type}{B:σ→Option (σ⊕Y)}{s:σ}{y:Y} :cu B s=some y↔∃ n,DX B n s=some y:=by
  unfold cu
  constructor
  · intro h
    split at h
    · rename_i q
      simp only [Option.some.injEq] at h
      exact ⟨q.choose,by rw [←h];exact q.choose_spec.choose_spec⟩
    · cases h
  · rintro ⟨n,h⟩
    rw [dif_pos ⟨n,y,h⟩]
    generalize hq:(⟨n,y,h⟩:∃ n y,DX B n s=some y)=q
    have h1:=q.choose_spec.choose_spec
    have a1:=HT n h (max n q.choose) (by omega)
    have a2:=HT _ h1 (max n q.choose) (by omega)
    rw [a1] at a2
    exact a2.symm
theorem Q2{σ Y:Type}(B:σ→Option (σ⊕Y))(s:σ) :cu B s=match B s with
    | none=>none
    | some (.inl s')=>cu B s'
    | some (.inr y)=>some y:=by
  have wv:∀ y,cu B s=some y↔(match B s with | none=>none | some (.inl s')=>cu B s' | some (.inr y)=>some y)=some y:=by
    intro y
    rw [Gc]
    constructor
    · rintro ⟨n,h⟩
      cases n with
      | zero=>cases h
      | succ n =>
        simp only [DX] at h
        cases q:B s with
        | none=>rw [q] at h;cases h
        | some z=>cases z with
          | inl s'=>rw [q] at h;exact Gc.2 ⟨n,h⟩
          | inr z=>rw [q] at h;exact h
    · intro h
      split at h<;>rename_i q
      · cases h
      · obtain ⟨n,hn⟩:=Gc.1 h
        exact ⟨n+1,by simp only [DX,q];exact hn⟩
      · exact ⟨1,by simp only [DX,q];exact h⟩
  generalize (match B s with | none=>none | some (.inl s')=>cu B s' | some (.inr y)=>some y)=x at wv
  cases hl:cu B s with
  | none=>cases x with
    | none=>rfl
    | some y=>rw [(wv y).2 rfl] at hl;cases hl
  | some y=>rw [hl] at wv;exact ((wv y).1 rfl).symm
theorem Q3{σ Y:Type}{B:σ→Option (σ⊕Y)}{s s':σ}(h:B s=some (.inl s')) :cu B s=cu B s':=by rw [Q2,h]
theorem OK{σ Y:Type}{B:σ→Option (σ⊕Y)}{s:σ}{y:Y}(h:B s=some (.inr y)) :cu B s=some y:=by rw [Q2,h]
theorem Tt{σ Y:Type}{B:σ→Option (σ⊕Y)}(G:σ→Prop)(m:σ→Nat)(Q:Y→Prop)(h:∀ s,G s→(∃ s',B s=some (.inl s')∧G s'∧m s'<m s)∨∃ y,B s=some (.inr y)∧Q y) :
    ∀ s,G s→∃ y,cu B s=some y∧Q y:=by
  have wv:∀ n s,m s<n→G s→∃ y,cu B s=some y∧Q y:=by
    intro n
    induction n with
    | zero=>intro s q;omega
    | succ n ih =>
      intro s q hs
      rcases h s hs with ⟨s',h1,h2,h3⟩ | ⟨y,h1,h2⟩
      · obtain ⟨y,k1,k2⟩:=ih s' (by omega) h2
        exact ⟨y,by rw [Q3 h1];exact k1,k2⟩
      · exact ⟨y,OK h1,h2⟩
  exact fun s hs=>wv _ s (Nat.lt_succ_self _) hs
def co{ρ X:Type}(id:Nat)(J:ρ→aW)(E:X→AE×aW) :ρ⊕X→AE×aW
  | .inl r=>(.exit id,J r)
  | .inr x=>E x
def rh{X:Type}(id:Nat)(E:X→AE×aW) :Prop:=∀ x,(E x).1 ≠ .exit id
theorem Sg.loop{P:Program}{lent:List aZ}{σ ρ X:Type}{I:σ→aW}{J:ρ→aW}{E:X→AE×aW}{B:σ→Option (σ⊕(ρ⊕X))}{id:Nat}{b:Code}(hE:xN E)(hI:rh id E) 
    (hb:∀ s,Sg P lent (cV b) (I s) (B s) I (co id J E)) (s:σ):Sg P lent [.block id (.loop b)] (I s) (cu B s) J E:=by
  intro y hy
  obtain ⟨n,hn⟩:=Gc.1 hy

  have:=nF.loop (P:=P) (lent:=lent) (id:=id) (b:=b) (rest:=[]) (Q:=fun e st'=>(e,st')=DE J E y) (σ:=Nat×σ) (fun s=>I s.2) (fun s=>DX B s.1 s.2=some y) (fun s=>s.1) rfl (fun s hs=>?_) (n,s) hn
  · exact this
  · obtain ⟨n,s⟩:=s
    simp only at hs ⊢
    cases n with
    | zero=>cases hs
    | succ n =>
      simp only [DX] at hs
      split at hs
      · cases hs
      · rename_i s' hB
        refine (hb s _ hB).mono ?_
        intro e st' q
        simp only [DE,Prod.mk.injEq] at q
        obtain ⟨rfl,rfl⟩:=q
        exact ⟨(n,s'),hs,by simp,rfl⟩
      · rename_i y' hB
        simp only [Option.some.injEq] at hs;subst hs
        refine (hb s _ hB).mono ?_
        intro e st' q
        cases y' with
        | inl r =>
          simp only [DE,co,Prod.mk.injEq] at q
          obtain ⟨rfl,rfl⟩:=q
          simp only [Iy,if_true]
          exact nF.nil rfl
        | inr x =>
          simp only [DE,co] at q
          have h1:=hE x
          have h2:=hI x
          rw [←q] at h1 h2
          simp only at h1 h2
          cases e with
          | normal=>exact (h1 rfl).elim
          | ret=>exact q
          | exit j =>
            have hj : ¬ j=id:=fun h=>h2 (by rw [h])
            simp only [Iy,hj,if_false]
            exact q
def vO{κ X:Type}(m:Option (κ⊕(κ⊕X))) :Option (κ⊕X) :=
  match m with
  | none=>none
  | some (.inl a)=>some (.inl a)
  | some (.inr (.inl a))=>some (.inl a)
  | some (.inr (.inr x))=>some (.inr x)
theorem Sg.block{P:Program}{lent:List aZ}{κ X:Type}{K:κ→aW}{E:X→AE×aW}{m:Option (κ⊕(κ⊕X))}{id:Nat}{b:Code}{st:aW}(hE:xN E)(hI:rh id E) 
    (hb:Sg P lent (cV b) st m K (co id K E)):Sg P lent [.block id b] st (vO m) K E:=by
  intro r hr
  unfold vO at hr
  refine nF.block (rest:=[]) rfl ?_
  split at hr
  · cases hr
  · simp only [Option.some.injEq] at hr;subst hr
    refine (hb _ rfl).mono ?_
    intro e st' q
    simp only [DE,Prod.mk.injEq] at q
    obtain ⟨rfl,rfl⟩:=q
    exact nF.nil rfl
  · simp only [Option.some.injEq] at hr;subst hr
    refine (hb _ rfl).mono ?_
    intro e st' q
    simp only [DE,co,Prod.mk.injEq] at q
    obtain ⟨rfl,rfl⟩:=q
    simp only [if_true]
    exact nF.nil rfl
  · rename_i x
    simp only [Option.some.injEq] at hr;subst hr
    refine (hb _ rfl).mono ?_
    intro e st' q
    simp only [DE,co] at q
    have h1:=hE x
    have h2:=hI x
    rw [←q] at h1 h2
    simp only at h1 h2
    cases e with
    | normal=>exact (h1 rfl).elim
    | ret=>exact q
    | exit j =>
      have hj : ¬ j=id:=fun h=>h2 (by rw [h])
      simp only [hj,if_false]
      exact q
theorem Sg.scope{P:Program}{lent:List aZ}{α X:Type}{N:α→aW}{E:X→AE×aW}{m:Option (α⊕X)}{b:Code}{st:aW}(hE:xN E)(hb:Sg P lent (cV b) st m N E) :Sg P lent [.scope b] st m N E:=by
  intro r hr
  refine nF.scope (rest:=[]) rfl ((hb r hr).mono ?_)
  intro e st' q
  cases r with
  | inl a =>
    simp only [DE,Prod.mk.injEq] at q
    obtain ⟨rfl,rfl⟩:=q
    exact nF.nil rfl
  | inr x =>
    refine SQ ?_ q
    have:=hE x
    simp only [DE] at q
    rw [←q] at this;exact this
theorem Q4{k:Nat}{ρ0:aG}{w0:World}{st:aW}{a:Act}{w:World}{c:Operand}{b kn:Bool}(h:At k ρ0 w0 st a w)(hc:Ve st.tmps c=.bool kn b) :At k ρ0 w0 { st with tmps:=vI st.tmps c b } a w∧a.eval c=.bool b:=by
  obtain ⟨ρ,E,W,hs,hbk,hle⟩:=h
  have hb:a.eval c=.bool b:=by
    have:=LS hs.heap.rom hs.tmps c
    rw [hc] at this
    generalize a.eval c=z at this
    cases this;rfl
  refine ⟨⟨ρ,E,W,⟨hs.defers,?_,hs.heap⟩,hbk,hle⟩,hb⟩
  cases c with
  | tmp t =>
    simp only [vI]
    have:je ρ w (st.tmps.set t (.bool true b)) (a.tmps.toList.set t (.bool b)):=hs.tmps.set (.bool _ _) t
    have e:a.tmps.toList.set t (.bool b)=a.tmps.toList:=by
      apply List.ext_getElem?
      intro j
      rw [List.getElem?_set]
      split
      · rename_i q;subst q
        split
        · rename_i hlt
          simp only [Act.eval] at hb
          rw [Array.getD_eq_getD_getElem?] at hb
          have hlt':t<a.tmps.size:=by simpa using hlt
          rw [Array.getElem?_eq_getElem hlt'] at hb
          simp only [Option.getD_some] at hb
          simp [hlt',hb]
        · rename_i hge
          rw [List.getElem?_eq_none (by omega)]
      · rfl
    rw [e] at this;exact this
  | const v=>exact hs.tmps
  | global g=>exact hs.tmps
  | func f=>exact hs.tmps
theorem Sg.cond{P:Program}{lent:List aZ}{α X:Type}{N:α→aW}{E:X→AE×aW}{m1 m2:Option (α⊕X)}{c:Operand}{A B:Code}{st:aW}{kn b:Bool}(hE:xN E)(hc:Ve st.tmps c=.bool kn b) 
    (h1:Sg P lent (cV A) { st with tmps:=vI st.tmps c true } m1 N E) (h2:Sg P lent (cV B) { st with tmps:=vI st.tmps c false } m2 N E):Sg P lent [.cond c A B] st (bif b then m1 else m2) N E:=by
  intro r hr
  intro ρ0 w0 hN K hK a w hA
  simp only [NA]
  obtain ⟨hA',hb⟩:=Q4 hA hc
  refine wp_cond hb ?_
  have HB:∀ (D:Code) (m:Option (α⊕X)) (st1:aW),Sg P lent (cV D) st1 m N E→m=some r→At lent.length ρ0 w0 st1 a w→D.wp P (fun e a' w'=>match e with | .normal=>K .normal a' w' | e=>K e a' w') a w:=by
    intro D m st1 hS hm hA1
    refine Dw D (hS r hm ρ0 w0 hN _ ?_ a w hA1)
    intro e st' a' w' q hA2
    cases e with
    | normal=>exact hK .normal st' a' w' q hA2
    | ret=>exact hK .ret st' a' w' q hA2
    | exit id=>exact hK (.exit id) st' a' w' q hA2
  cases b with
  | true=>exact HB A m1 _ h1 hr hA'
  | false=>exact HB B m2 _ h2 hr hA'
theorem Wm{P:Program}{lent:List aZ}{α X:Type}{N:α→aW}{E:X→AE×aW}{m:Option (α⊕X)}{cs:List Code}{st st1:aW}(s:NS)(hn:s.ok lent.length=true)(h1:s.on st=st1)(h:Sg P lent cs st1 m N E) :Sg P lent cs st m N E :=
  fun r hr=>nF.weak (by rw [←h1];exact Un hn st) (h r hr)
def toX{X:Type} :Option (Empty⊕X)→Option X
  | some (.inr x)=>some x
  | _=>none
theorem Sg.contract{P:Program}{f:FuncId}{fn:Func}{c:Code}{X:Type}{N:Empty→aW}{E:X→AE×aW}{m:Option (Empty⊕X)}{lent:List aZ}{args:List AV}(keep:Bool)(o:X→rF)(hf:P.funcs[f]? = some fn)(hc:fn.body=some c) 
    (h:Sg P lent (cV c) (vJ fn lent args) m N E) (hE:∀ x,Iz P fn lent.length keep (o x) (E x).1 (E x).2) {x:X} (hx:toX m=some x):aH P f lent args (o x):=by
  unfold toX at hx
  split at hx
  · rename_i x'
    simp only [Option.some.injEq] at hx;subst hx
    refine nF.contract (keep:=keep) hf hc ((h _ rfl).mono ?_)
    intro e st' q
    simp only [DE] at q
    have:=hE x'
    rw [←q] at this;exact this
  · cases hx
theorem PD{P:Program}{f:FuncId}{fn:Func}{c:Code}{α X R:Type}{N:α→aW}{E:X→AE×aW}{m:Option (α⊕X)}{lent:List aZ}{args:List AV}(keep:Bool)(o:R→rF)(g:α⊕X→R)(hf:P.funcs[f]? = some fn)(hc:fn.body=some c) 
    (h:Sg P lent (cV c) (vJ fn lent args) m N E) (hN:∀ a,Iz P fn lent.length keep (o (g (.inl a))) .normal (N a)) (hE:∀ x,Iz P fn lent.length keep (o (g (.inr x))) (E x).1 (E x).2) {x:R} (hx:Option.map g m=some x):aH P f lent args (o x):=by
  obtain ⟨r,hr,rfl⟩:=Option.map_eq_some_iff.1 hx
  refine nF.contract (keep:=keep) hf hc ((h _ hr).mono ?_)
  intro e st' q
  cases r with
  | inl a =>
    simp only [DE] at q
    cases q
    exact hN a
  | inr x' =>
    simp only [DE] at q
    have:=hE x'
    rw [←q] at this;exact this
end Go.Plb
namespace Go.Plb
set_option linter.unusedSectionVars false
variable [Rom]
theorem az{ρ X:Type}{id:Nat}{J:ρ→aW}{E:X→AE×aW}(h:xN E) :xN (co id J E):=by
  intro x
  cases x with
  | inl r=>intro q;cases q
  | inr x=>exact h x
theorem cW{ρ X:Type}{id j:Nat}{J:ρ→aW}{E:X→AE×aW}(hj:(j==id)=false)(h:rh id E) :rh id (co j J E):=by
  intro x
  cases x with
  | inl r =>
    intro q
    simp only [co,AE.exit.injEq] at q
    subst q
    simp at hj
  | inr x=>exact h x
def dm:Code→Code
  | .block _ (.loop b)=>b
  | _=>.skip
def inBlock:Code→Code
  | .block _ b=>b
  | _=>.skip
def SS:Code→Code
  | .scope b=>b
  | _=>.skip
def HU:Code→Code
  | .cond _ a _=>a
  | _=>.skip
def ME:Code→Code
  | .cond _ _ b=>b
  | _=>.skip
theorem Sg.cut{P:Program}{lent:List aZ}{α β X:Type}{cs:List Code}{st:aW}{m:Option (α⊕X)}{N1:α→aW}{E:X→AE×aW}{k:α→Option (β⊕X)}{N:β→aW}(n:Nat)(hE:xN E) 
    (h:Sg P lent (cs.take n) st m N1 E) (hk:∀ a,Sg P lent (cs.drop n) (N1 a) (k a) N E):Sg P lent cs st (bd m k) N E:=by
  have:=Sg.seq hE h hk
  rwa [List.take_append_drop] at this
theorem Tu{P:Program}{lent:List aZ}{σ ρ X:Type}{I:σ→aW}{J:ρ→aW}{E:X→AE×aW}{B:σ→Option (σ⊕(ρ⊕X))}{id:Nat}{b:Code}{cs:List Code}(hcs:cs=[.block id (.loop b)])(hE:xN E)(hI:rh id E) 
    (hb:∀ s,Sg P lent (cV b) (I s) (B s) I (co id J E)) (s:σ):Sg P lent cs (I s) (cu B s) J E:=by rw [hcs];exact Sg.loop hE hI hb s
theorem Sb{P:Program}{lent:List aZ}{κ X:Type}{K:κ→aW}{E:X→AE×aW}{m:Option (κ⊕(κ⊕X))}{id:Nat}{b:Code}{st:aW}{cs:List Code}(hcs:cs=[.block id b])(hE:xN E)(hI:rh id E) 
    (hb:Sg P lent (cV b) st m K (co id K E)):Sg P lent cs st (vO m) K E:=by rw [hcs];exact Sg.block hE hI hb
theorem Sc{P:Program}{lent:List aZ}{α X:Type}{N:α→aW}{E:X→AE×aW}{m:Option (α⊕X)}{b:Code}{st:aW}{cs:List Code}(hcs:cs=[.scope b])(hE:xN E)(hb:Sg P lent (cV b) st m N E) :Sg P lent cs st m N E:=by
  rw [hcs];exact Sg.scope hE hb
theorem CH{P:Program}{lent:List aZ}{α X:Type}{N:α→aW}{E:X→AE×aW}{m1 m2:Option (α⊕X)}{c:Operand}{A B:Code}{st:aW}{kn b:Bool}{cs:List Code}(hcs:cs=[.cond c A B])(hE:xN E)(hc:Ve st.tmps c=.bool kn b) 
    (h1:Sg P lent (cV A) { st with tmps:=vI st.tmps c true } m1 N E) (h2:Sg P lent (cV B) { st with tmps:=vI st.tmps c false } m2 N E):Sg P lent cs st (bif b then m1 else m2) N E:=by rw [hcs];exact Sg.cond hE hc h1 h2
end Go.Plb
namespace Go.Plb.Seat
open Go Go.Plb
set_option linter.unusedSimpArgs false
set_option linter.unusedVariables false
set_option maxRecDepth 100000
def eX(n:Nat) :Bool:=Nat.ble n 1000000000
noncomputable def WQ:Empty→aW:=fun a=>a.elim
noncomputable def WR:Unit→AE×aW:=fun _=>(.ret,⟨ax 8 [(2,.sl 0 1 1 0 0 0)],[(0,.fl [])],1⟩)
noncomputable def W7:Unit→rF:=fun _=>⟨.sl 0 1 1 0 0 0,[some (.fl [])]⟩
theorem Vq:aH prog fK [] [.zsl true] ⟨.sl 0 1 1 0 0 0,[some (.fl [])]⟩ :=
  Sg.contract (x:=()) (X:=Unit) (N:=WQ) (E:=WR) (m:=some (.inr ())) false W7 (by kernel_rfl:prog.funcs[fK]? = some (FN fK)) (by kernel_rfl:(FN fK).body=some (qT fK))
    (Sg.seg (C:=C0) GR KE 60 (cV (qT fK)) (vJ (FN fK) [] [.zsl true]) (.leaf (.inr ())) WQ WR [⟨[(.slot 2,.own 1 1 (.fl []))],[64],[2]⟩] (by kernel_rfl))
    (fun _=>⟨.inr rfl,[.sl 0 1 1 0 0 0],[],by kernel_rfl,trivial,by kernel_rfl⟩) rfl
theorem UQ:aH prog fK [] [.zsl false] ⟨.sl 0 1 1 0 0 0,[some (.fl [])]⟩ :=
  aH.run GR KE (some []) 0 60 (p':=some []) (obs:=[]) (by kernel_rfl) Xd
theorem Vr(l:Lv) :aH prog fK [] [.imm l (.fl []) 1 1 0 0] ⟨.sl 0 1 1 0 0 0,[some (.fl [])]⟩:=by
  intro ρ w us hN hv
  cases hv with | cons _ u _ _ h1 h2 =>
  cases h2
  have wv:∀ (a:Option Addr) cap,je ρ w [.zsl a.isNone] [.slice a 0 cap]:=fun a cap=>.cons _ _ _ _ (.zsl a cap) .nil
  have all:∀ b,aH prog fK [] [.zsl b] ⟨.sl 0 1 1 0 0 0,[some (.fl [])]⟩:=fun b=>by
    cases b
    · exact UQ
    · exact Vq
  cases h1 with
  | imm _ _ _ _ _ _ cap bl o u'=>exact all _ ρ w _ hN (wv _ cap)
  | immEnd _ _ _ _ _ cap a=>exact all _ ρ w _ hN (wv a cap)
theorem Vs(l:Lv)(xs:List Nat)(hl:xs.length≤1000000000) :aH prog fK [] [.imm l (.fl xs) 1 1 0 xs.length] ⟨.sl 0 1 1 0 xs.length xs.length,[some (.fl xs)]⟩:=by
  rcases Nat.eq_zero_or_pos xs.length with h0 | h0
  · have:xs=[]:=List.length_eq_zero_iff.1 h0
    subst this
    exact Vr l
  · have h:DU C0 E0 (ry C0 E0 0 60) fK [] [.imm l (.fl xs) 1 1 0 xs.length] (some [])=some (⟨.sl 0 1 1 0 (0+xs.length) (0+xs.length),[some (.fl (List.take 0 []++List.take xs.length xs))]⟩,
        [Nat.blt 0 xs.length,pS ((0+xs.length)*8) 140737488355328,pS (0+xs.length) 9223372036854775807,pS xs.length xs.length,pS 0 ([]:List Nat).length],some []):=by kernel_rfl
    have:=aH.run GR KE _ _ _ h (ob (by rw [Nat.blt_eq];exact h0)<|ob (by simp [pS];omega)<|ob (by simp [pS];omega)<|ob (by simp [pS])<|ob rfl Xd)
    simp only [Nat.zero_add,List.take_zero,List.nil_append,List.take_length] at this
    exact this
noncomputable def ST:bC:=lC fK (.cons .fl .nil) fun t=>[⟨⟨.sl 0 1 1 0 t.1.2.length t.1.2.length,[some (.fl t.1.2)]⟩,[eX t.1.2.length]⟩]
theorem Sd:bZ prog ST:=eV fun t=>eW (fun h=>Vs t.1.1 t.1.2 (Nat.le_of_ble_eq_true h)) fY
noncomputable def Xe:List bC:=ST::L1
theorem Wn:cQ prog (cX Xe):=aY Sd WP
noncomputable def L2:List bC:=Xe
theorem WS:cQ prog (cX L2):=Wn
end Go.Plb.Seat
namespace Go.Plb.Seat
open Go Go.Plb
set_option linter.unusedSimpArgs false
set_option linter.unusedVariables false
theorem aH.nan{f:FuncId}{g:Nat→rF}{r:rF}(h:∀ n:Nat,aH prog f [] [.int .u64 (n:Int)] (g n))(e:∀ n:Nat,isNaN n=true→g n=r) :aH prog f [] [.nan] r:=by
  intro ρ w us hN hv
  cases hv with | cons _ u _ _ h1 h2 =>
  cases h2
  cases h1 with | nan n hn =>
  rw [←e n hn]
  exact h n ρ w _ hN (.cons _ _ _ _ (.int _ _) .nil)
noncomputable def L3:List bC:=L2
theorem V4:cQ prog (cX L3):=WS
end Go.Plb.Seat
namespace Go.Plb.Seat
open Go Go.Plb
set_option linter.unusedVariables false
set_option maxRecDepth 100000
theorem cF{S:Iw}(hS:cQ prog S){lent:List aZ}{α X:Type}{cs:List Code}{st:aW}{t:T (α⊕X)}(N:α→aW){E:X→AE×aW}(ks:List NS) 
    (h:UP C0 S 60 cs st t.leaves ks lent.length=SO N E t.leaves:=by kernel_rfl):Sg prog lent cs st t.run N E:=Sg.seg GR hS 60 cs st t N E ks h
theorem yE{lent:List aZ}{σ ρ X:Type}{cs:List Code}{st:aW}{E:X→AE×aW}{B:σ→Option (σ⊕(ρ⊕X))}{ent:σ}(s:NS)(I:σ→aW)(J:ρ→aW)(id:Nat)(hE:xN E)(hI:rh id E) 
    (hb:∀ a,Sg prog lent (cV (dm (cs.headD .skip))) (I a) (B a) I (co id J E)) (hn:s.ok lent.length=true:=by exact rfl) (h1:s.on st=I ent:=by kernel_rfl) (hcs:cs=[.block id (.loop (dm (cs.headD .skip)))]:=by kernel_rfl) :
    Sg prog lent cs st (cu B ent) J E:=Wm s hn h1 (Tu hcs hE hI hb ent)
theorem UR{lent:List aZ}{κ X:Type}{cs:List Code}{st:aW}{E:X→AE×aW}{m:Option (κ⊕(κ⊕X))}(K:κ→aW)(id:Nat)(hE:xN E)(hI:rh id E) 
    (hb:Sg prog lent (cV (inBlock (cs.headD .skip))) st m K (co id K E)) (hcs:cs=[.block id (inBlock (cs.headD .skip))]:=by kernel_rfl):Sg prog lent cs st (vO m) K E:=Sb hcs hE hI hb
def Gd:Empty→aW:=fun a=>a.elim
theorem EI{fn:Func}{k:Nat}{keep:Bool}{o:rF}{st:aW}(vs:List AV)(h1:qm prog fn st fn.results.toList=some (vs,[]):=by kernel_rfl)(h2:Ky k keep st.heap (HO vs)=some o:=by kernel_rfl) :Iz prog fn k keep o .ret st :=
  ⟨.inr rfl,vs,[],h1,trivial,h2⟩
theorem GS{f:FuncId}{X:Type}{m:Option (Empty⊕X)}{lent:List aZ}{args:List AV}{x:X}(keep:Bool)(o:X→rF)(E:X→AE×aW)(hx:toX m=some x) 
    (h:Sg prog lent (cV (qT f)) (vJ (FN f) lent args) m Gd E) (hE:∀ x,Iz prog (FN f) lent.length keep (o x) (E x).1 (E x).2)
    (hf:prog.funcs[f]? = some (FN f):=by kernel_rfl) (hc:(FN f).body=some (qT f):=by kernel_rfl):aH prog f lent args (o x) :=
  Sg.contract (P:=prog) (f:=f) (fn:=FN f) (c:=qT f) (N:=Gd) (E:=E) (lent:=lent) (args:=args) keep o hf hc h hE hx
theorem MG{fn:Func}{k:Nat}{keep:Bool}{o:rF}{st:aW}(vs:List AV)(h1:qm prog fn st fn.results.toList=some (vs,[]):=by kernel_rfl)(h2:Ky k keep st.heap (HO vs)=some o:=by kernel_rfl) :Iz prog fn k keep o .normal st :=
  ⟨.inl rfl,vs,[],h1,trivial,h2⟩
theorem MH{f:FuncId}{α X R:Type}{m:Option (α⊕X)}{lent:List aZ}{args:List AV}{x:R}(keep:Bool)(o:R→rF)(N:α→aW)(E:X→AE×aW)(g:α⊕X→R)(hx:Option.map g m=some x) 
    (h:Sg prog lent (cV (qT f)) (vJ (FN f) lent args) m N E) (hN:∀ a,Iz prog (FN f) lent.length keep (o (g (.inl a))) .normal (N a)) (hE:∀ x,Iz prog (FN f) lent.length keep (o (g (.inr x))) (E x).1 (E x).2)
    (hf:prog.funcs[f]? = some (FN f):=by kernel_rfl) (hc:(FN f).body=some (qT f):=by kernel_rfl):aH prog f lent args (o x) :=
  PD (P:=prog) (f:=f) (fn:=FN f) (c:=qT f) (N:=N) (E:=E) (lent:=lent) (args:=args) keep o g hf hc h hN hE hx
theorem Xk{lent:List aZ}{A B α X:Type}{cs:List Code}{N:α→aW}{E:X→AE×aW}{N0:A→aW}{N1:B→aW}{f0:A→Option (α⊕X)}{f1:B→Option (α⊕X)} 
    (h0:∀ a,Sg prog lent cs (N0 a) (f0 a) N E) (h1:∀ b,Sg prog lent cs (N1 b) (f1 b) N E):∀ x,Sg prog lent cs (Sum.elim N0 N1 x) (Sum.elim f0 f1 x) N E
  | .inl a=>h0 a
  | .inr b=>h1 b
end Go.Plb.Seat
namespace Go.Plb.Seat
open Go Go.Plb
set_option linter.unusedSimpArgs false
set_option linter.unusedVariables false
def W8:Option (rF×List Bool×nC)→Bool
  | some (⟨.bool _ true,[]⟩,o,_)=>Te o
  | _=>false
theorem US{r:Option (rF×List Bool×nC)}(h:W8 r=true) :∃ k o p,r=some (⟨.bool k true,[]⟩,o,p)∧aX o:=by
  unfold W8 at h
  split at h
  · exact ⟨_,_,_,rfl,OC h⟩
  · cases h
theorem Tv:W8 (DU C0 (cX L3) (ry C0 (cX L3) 50 100) Bz [] [] none)=true:=by kernel_rfl
theorem Vt:aH prog Bz [] [] ⟨.bool false true,[]⟩:=by
  obtain ⟨k,o,p,h,ho⟩:=US Tv
  exact (aH.run GR V4 none _ _ h ho).weak (My _ _ _)
def PE:bC:=⟨Bz,fun L args=>match L,args with | [],[]=>one (.bool false true) [] | _,_=>none⟩
theorem Se:bZ prog PE:=by
  intro L args alts a h ha ho
  simp only [PE] at h
  split at h
  · exact CF h ha ho fun q=>Vt
  · cases h
noncomputable def WT:List bC:=PE::L3
theorem PF:cQ prog (cX WT):=aY Se V4
end Go.Plb.Seat
namespace Go.Plb.Seat
open Go Go.Plb
set_option linter.unusedVariables false
set_option maxRecDepth 100000
noncomputable section
inductive kr where
  | r0 (a:Bool)
def GT:kr→AE×aW
  | .r0 a=>(.ret,⟨ax 18 [(2,.bool false a)],[],0⟩)
theorem MI:xN GT:=by intro x;cases x<;>(intro h;cases h)
def BH:kr→rF
  | .r0 a=>⟨.bool false a,[]⟩
def MJ(a:Bool) :aW:=⟨ax 18 [(2,.bool false a)],[],0⟩
def Fd(a:List Nat)(b:List Nat) :T ((Bool)⊕(kr)) :=
  .ask (decide ((((List.length a):Nat):Int)≤(512:Int)))
    (.need (fI .i64 ((((List.length a):Nat):Int)-(1:Int)))<|.leaf (.inl ((((List.length b):Nat):Int)==(Vh ((((List.length a):Nat):Int)-(1:Int)) (0:Int)))))
    (.leaf (.inl false))
def MK(a:Bool) :T ((Empty)⊕(kr)) :=
  .leaf (.inr (.r0 a))
def pO(a:List Nat)(b:List Nat) :Option kr:=toX (bd ((Fd a b).run) fun c =>
  (MK c).run)
theorem ML(c:Lv)(a:List Nat)(d:Lv)(b:List Nat){x:kr}(h:pO a b=some x) :aH prog GO [] [.agg [.imm c (.fl a) 1 1 0 (List.length a),.imm d (.fl b) 1 1 0 (List.length b)]] (BH x) :=
  GS false BH GT h (Sg.cut 2 MI (cF PF MJ [⟨[],[],[2]⟩,⟨[],[],[2]⟩]) (fun f=>cF PF Gd [⟨[],[],[2]⟩]))
    (fun x=>by cases x with | r0 e=>exact EI [.bool false e])
def rR:Option kr→Bool
  | some _=>true
  | none=>false
def sE:Option kr→Bool
  | some (.r0 x)=>x
  | _=>false
theorem MM{x:Option kr}(h:rR x=true) :x=some (.r0 (sE x)):=by
  unfold rR at h
  split at h<;>first | rfl | (cases h;done) | (rename_i y;cases y;rfl)
def GU:bC:=lC GO (.cons (.agg (.cons .fl (.cons .fl .nil))) .nil) fun t=>(fun q=>[⟨BH (.r0 (sE q)),[rR q]⟩]) (pO t.1.1.2 t.1.2.1.2)
theorem JA:bZ prog GU:=eV fun t=>(eW (fun h=>ML t.1.1.1 t.1.1.2 t.1.2.1.1 t.1.2.1.2 (MM h)) fY)
def GV:List bC:=GU::WT
theorem sF:cQ prog (cX GV):=aY JA PF
inductive be where
  | r0 (a:Int)
def fJ:be→AE×aW
  | .r0 a=>(.ret,⟨ax 19 [(4,.int .i64 a)],[],0⟩)
theorem iB:xN fJ:=by intro x;cases x<;>(intro h;cases h)
theorem sG(id:Nat) :rh id fJ:=by intro x;cases x<;>(intro h;cases h)
def iM:be→rF
  | .r0 a=>⟨.int .i64 a,[]⟩
def sH:List Code:=cV (qT fZ)
def sI(b:Lv)(a:List Nat)(_:Unit) :aW:=⟨ax 19 [(0,.imm b (.fl a) 1 1 0 (List.length a)),(1,.fn (.func sD) [] []),(7,.int .i64 (((List.length a):Nat):Int)),(8,.int .i64 (0:Int))],[],0⟩
def sJ:T ((Unit)⊕(be)) :=
  .leaf (.inl ())
def fp(b:Lv)(a:List Nat)(c:Nat) :aW:=⟨ax 19 [(0,.imm b (.fl a) 1 1 0 (List.length a)),(1,.fn (.func sD) [] []),(7,.int .i64 (((List.length a):Nat):Int)),(8,.int .i64 ((c:Nat):Int))],[],0⟩
def lc(_:Unit) :aW:=⟨ax 19 [],[],0⟩
def sK:List Code:=cV (dm ((((sH.drop 2).take 1)).headD .skip))
def dp(b:List Nat)(a:Nat) :T ((Nat)⊕((Unit)⊕(be))) :=
  .ask (decide (((a:Nat):Int)<(((List.length b):Nat):Int)))
    (.need (gg ((a:Nat):Int) (List.length b))<|.need (fo a (List.length b))<|.ask (Az (List.getD b a 0) (List.getD b a 0))
      (.leaf (.inr (.inr (.r0 ((a:Nat):Int)))))
      (.ask ((0:Int)==(0:Int))
        (.ask (Kh (eE (List.getD b a 0)) 9218868437227405311)
          (.leaf (.inr (.inr (.r0 ((a:Nat):Int)))))
          (.need (fI .i64 (((a+1):Nat):Int))<|.leaf (.inl (a+1))))
        (.fail)))
    (.leaf (.inr (.inl ())))
def fi(a:List Nat) :Nat→Option ((Nat)⊕((Unit)⊕(be))):=fun b =>
  (dp a b).run
theorem rS(b:Lv)(a:List Nat)(c:Nat) :Sg prog [] sK (fp b a c) (fi a c) (fp b a) (co 0 lc fJ):=by
  unfold fi;exact cF sF (fp b a) [⟨[],[],[4]⟩,⟨[],[],[4]⟩,⟨[],[],[0,1,7,8]⟩,⟨[],[],[]⟩]
def rT:T ((Empty)⊕(be)) :=
  .leaf (.inr (.r0 (-1:Int)))
def bW(a:List Nat) :Option be:=toX (bd ((sJ).run) fun _ =>
  bd (cu (fi a) 0) fun _ =>
  (rT).run)
theorem sL(b:Lv)(a:List Nat){x:be}(h:bW a=some x) :aH prog fZ [] [.imm b (.fl a) 1 1 0 (List.length a),.fn (.func sD) [] []] (iM x) :=
  GS false iM fJ h (Sg.cut 2 iB (cF sF (sI b a) [⟨[],[],[0,1,7,8]⟩]) (fun _=>Sg.cut 1 iB (yE ⟨[],[],[0,1,7,8]⟩ (fp b a) (lc) 0 iB (sG _) (fun c=>rS b a c)) (fun _=>cF sF Gd [⟨[],[],[4]⟩])))
    (fun x=>by cases x with | r0 d=>exact EI [.int .i64 d])
def dq:Option be→Bool
  | some _=>true
  | none=>false
def cq:Option be→Int
  | some (.r0 x)=>x
  | _=>0
theorem sM{x:Option be}(h:dq x=true) :x=some (.r0 (cq x)):=by
  unfold dq at h
  split at h<;>first | rfl | (cases h;done) | (rename_i y;cases y;rfl)
def lD:bC:=lC fZ (.cons .fl (.cons (.fn sD .nil .nil) .nil)) fun t=>(fun q=>[⟨iM (.r0 (cq q)),[dq q]⟩]) (bW t.1.2)
theorem rG:bZ prog lD:=eV fun t=>(eW (fun h=>sL t.1.1 t.1.2 (sM h)) fY)
def lE:List bC:=lD::GV
theorem gR:cQ prog (cX lE):=aY rG sF
inductive kt where
  | r0 (a:Nat)
def GW:kt→AE×aW
  | .r0 a=>(.ret,⟨ax 18 [(2,.int .i64 ((a:Nat):Int))],[],0⟩)
theorem MN:xN GW:=by intro x;cases x<;>(intro h;cases h)
def BJ:kt→rF
  | .r0 a=>⟨.int .i64 ((a:Nat):Int),[]⟩
def MO(_:Unit) :aW:=⟨ax 18 [],[],0⟩
def vP(a:List Nat)(b:List Nat) :T ((Unit)⊕(kt)) :=
  .need (di 0 (List.length a) a)<|.need (di 0 (List.length b) b)<|.need (rR (pO (ay 0 (List.length a) a) (ay 0 (List.length b) b)))<|.ask (!(sE (pO (ay 0 (List.length a) a) (ay 0 (List.length b) b))))
    (.leaf (.inr (.r0 2)))
    (.need (di 0 (List.length a) a)<|.need (dq (bW (ay 0 (List.length a) a)))<|.ask (!(!(decide ((cq (bW (ay 0 (List.length a) a)))≥(0:Int)))))
      (.leaf (.inr (.r0 10)))
      (.need (di 0 (List.length b) b)<|.need (dq (bW (ay 0 (List.length b) b)))<|.ask (!(!(decide ((cq (bW (ay 0 (List.length b) b)))≥(0:Int)))))
        (.leaf (.inr (.r0 10)))
        (.leaf (.inl ()))))
def MP:T ((Empty)⊕(kt)) :=
  .leaf (.inr (.r0 0))
def re(a:List Nat)(b:List Nat) :Option kt:=toX (bd ((vP a b).run) fun _ =>
  (MP).run)
theorem MQ(c:Lv)(a:List Nat)(d:Lv)(b:List Nat){x:kt}(h:re a b=some x) :aH prog GN [] [.agg [.imm c (.fl a) 1 1 0 (List.length a),.imm d (.fl b) 1 1 0 (List.length b)]] (BJ x) :=
  GS false BJ GW h (Sg.cut 2 MN (cF gR MO [⟨[],[],[2]⟩,⟨[],[],[2]⟩,⟨[],[],[2]⟩,⟨[],[],[]⟩]) (fun _=>cF gR Gd [⟨[],[],[2]⟩]))
    (fun x=>by cases x with | r0 e=>exact EI [.int .i64 ((e:Nat):Int)])
def vQ:Option kt→Bool
  | some _=>true
  | none=>false
def xb:Option kt→Nat
  | some (.r0 x)=>x
  | _=>0
theorem MR{x:Option kt}(h:vQ x=true) :x=some (.r0 (xb x)):=by
  unfold vQ at h
  split at h<;>first | rfl | (cases h;done) | (rename_i y;cases y;rfl)
def GX:bC:=lC GN (.cons (.agg (.cons .fl (.cons .fl .nil))) .nil) fun t=>(fun q=>[⟨BJ (.r0 (xb q)),[vQ q]⟩]) (re t.1.1.2 t.1.2.1.2)
theorem JB:bZ prog GX:=eV fun t=>(eW (fun h=>MQ t.1.1.1 t.1.1.2 t.1.2.1.1 t.1.2.1.2 (MR h)) fY)
def GY:List bC:=GX::lE
theorem sN:cQ prog (cX GY):=aY JB gR
inductive jh where
  | r0 (a:Int) (b:Nat) (c:List Nat)
def Bi:jh→AE×aW
  | .r0 a b c=>(.ret,⟨ax 21 [(2,.ptr 0 1 0 0)],[(0,.vs [.int .i64 a,.int .i64 a,.sl 1 1 1 0 b b]),(1,.fl c)],2⟩)
theorem DF:xN Bi:=by intro x;cases x<;>(intro h;cases h)
theorem PG(id:Nat) :rh id Bi:=by intro x;cases x<;>(intro h;cases h)
def Fe:jh→rF
  | .r0 a b c=>⟨.agg [.int .i64 a,.int .i64 a,.sl 0 1 1 0 b b],[some (.fl c)]⟩
def PH:List Code:=cV (qT E9)
def PI(a:Int) :Nat×(List Nat)→aW:=fun (b,c)=>⟨ax 21 [(0,.int .i64 a),(2,.ptr 0 1 0 0),(3,.ptr 1 1 0 0),(7,.int .i64 a),(8,.int .i64 (0:Int))],[(0,.vs [.int .i64 (0:Int),.int .i64 (0:Int),.nsl]),(1,.vs [.int .i64 a,.int .i64 a,.sl 2 1 1 0 b b]),(2,.fl c)],3⟩
def IF(a:Int) :T ((Nat×(List Nat))⊕(jh)) :=
  .need (fI .i64 (a*a))<|.need (decide ((0:Int)≤(a*a)))<|.need (decide ((a*a)≤(a*a)))<|.need (decide ((8:Int)*(a*a)≤140737488355328))<|.need (fI .i64 (a*a))<|.leaf (.inl ((Int.toNat (a*a)),(List.replicate (Int.toNat (a*a)) 0)))
def zr(a:Int)(b:Nat) :Nat×(List Nat)→aW:=fun (c,d)=>⟨ax 21 [(0,.int .i64 a),(2,.ptr 0 1 0 0),(3,.ptr 1 1 0 0),(7,.int .i64 a),(8,.int .i64 ((c:Nat):Int))],[(0,.vs [.int .i64 (0:Int),.int .i64 (0:Int),.nsl]),(1,.vs [.int .i64 a,.int .i64 a,.sl 2 1 1 0 b b]),(2,.fl d)],3⟩
def IG(a:Int)(b:Nat)(c:(List Nat)) :aW:=⟨ax 21 [(2,.ptr 0 1 0 0),(3,.ptr 1 1 0 0)],[(0,.vs [.int .i64 (0:Int),.int .i64 (0:Int),.nsl]),(1,.vs [.int .i64 a,.int .i64 a,.sl 2 1 1 0 b b]),(2,.fl c)],3⟩
def PJ:List Code:=cV (dm ((((PH.drop 3).take 1)).headD .skip))
def vR(b:Int)(d:Nat)(a:Nat)(c:List Nat) :T ((Nat×(List Nat))⊕(((List Nat))⊕(jh))) :=
  .ask (decide (((a:Nat):Int)<b))
    (.need (fI .i64 (((a:Nat):Int)*b))<|.need (fI .i64 ((((a:Nat):Int)*b)+((a:Nat):Int)))<|.need (gg ((((a:Nat):Int)*b)+((a:Nat):Int)) d)<|.need (fo (Int.toNat ((((a:Nat):Int)*b)+((a:Nat):Int))) (List.length c))<|.need (fI .i64 (((a+1):Nat):Int))<|.leaf (.inl ((a+1),(List.set c (Int.toNat ((((a:Nat):Int)*b)+((a:Nat):Int))) 4607182418800017408))))
    (.leaf (.inr (.inl c)))
def BL(a:Int)(b:Nat) :Nat×(List Nat)→Option ((Nat×(List Nat))⊕(((List Nat))⊕(jh))):=fun (c,d) =>
  (vR a b c d).run
theorem NP(a:Int)(b:Nat)(c:Nat)(d:List Nat) :Sg prog [] PJ (zr a b (c,d)) (BL a b (c,d)) (zr a b) (co 0 (IG a b) Bi):=by
  unfold BL;exact cF sN (zr a b) [⟨[],[0,1,2],[0,2,3,7,8]⟩,⟨[],[0,1,2],[2,3]⟩]
def NQ(a:Int)(b:Nat)(c:List Nat) :T ((Empty)⊕(jh)) :=
  .leaf (.inr (.r0 a b c))
def bh(a:Int) :Option jh:=toX (bd ((IF a).run) fun (b,c) =>
  bd (cu (BL a b) (0,c)) fun d =>
  (NQ a b d).run)
theorem PK(a:Int){x:jh}(h:bh a=some x) :aH prog E9 [] [.int .i64 a] (Fe x) :=
  GS false Fe Bi h (Sg.cut 3 DF (cF sN (PI a) [⟨[],[0,48,32],[0,2,3,7,8]⟩]) (fun ⟨b,g⟩=>Sg.cut 1 DF (yE ⟨[],[0,1,2],[0,2,3,7,8]⟩ (zr a b) (IG a b) 0 DF (PG _) (fun ⟨e,f⟩=>NP a b e f)) (fun i=>cF sN Gd [⟨[],[0,2],[2]⟩])))
    (fun x=>by cases x with | r0 c d j=>exact EI [.agg [.int .i64 c,.int .i64 c,.sl 1 1 1 0 d d]])
def vS:Option jh→Bool
  | some _=>true
  | none=>false
def ch:Option jh→Int
  | some (.r0 x _ _)=>x
  | _=>0
def fL:Option jh→Nat
  | some (.r0 _ x _)=>x
  | _=>0
def fM:Option jh→List Nat
  | some (.r0 _ _ x)=>x
  | _=>[]
theorem PL{x:Option jh}(h:vS x=true) :x=some (.r0 (ch x) (fL x) (fM x)):=by
  unfold vS at h
  split at h<;>first | rfl | (cases h;done) | (rename_i y;cases y;rfl)
def KG:bC:=lC E9 (.cons (.int .i64) .nil) fun t=>(fun q=>[⟨Fe (.r0 (ch q) (fL q) (fM q)),[vS q]⟩]) (bh t.1)
theorem MT:bZ prog KG:=eV fun t=>(eW (fun h=>PK t.1 (PL h)) fY)
def KH:List bC:=KG::GY
theorem zW:cQ prog (cX KH):=aY MT sN
inductive vT where
  | r0 (a:Bool)
def Q5:vT→AE×aW
  | .r0 a=>(.ret,⟨ax 32 [(2,.bool false a)],[],0⟩)
theorem Tw:xN Q5:=by intro x;cases x<;>(intro h;cases h)
def MU:vT→rF
  | .r0 a=>⟨.bool false a,[]⟩
def Tx(a:Bool) :aW:=⟨ax 32 [(2,.bool false a)],[],0⟩
def OL(a:Int)(b:Int)(c:List Nat) :T ((Bool)⊕(vT)) :=
  .ask (decide (a≥(0:Int)))
    (.ask (decide (a≤(512:Int)))
      (.ask (decide (b≥(0:Int)))
        (.ask (decide (b≤(512:Int)))
          (.need (fI .i64 (a*b))<|.leaf (.inl ((((List.length c):Nat):Int)==(a*b))))
          (.leaf (.inl false)))
        (.leaf (.inl false)))
      (.leaf (.inl false)))
    (.leaf (.inl false))
def Tz(a:Bool) :T ((Empty)⊕(vT)) :=
  .leaf (.inr (.r0 a))
def zX(a:Int)(b:Int)(c:List Nat) :Option vT:=toX (bd ((OL a b c).run) fun d =>
  (Tz d).run)
theorem TA(b:Int)(c:Int)(d:Lv)(a:List Nat){x:vT}(h:zX b c a=some x) :aH prog Q0 [] [.agg [.int .i64 b,.int .i64 c,.imm d (.fl a) 1 1 0 (List.length a)]] (MU x) :=
  GS false MU Q5 h (Sg.cut 2 Tw (cF zW Tx [⟨[],[],[2]⟩,⟨[],[],[2]⟩,⟨[],[],[2]⟩,⟨[],[],[2]⟩,⟨[],[],[2]⟩]) (fun f=>cF zW Gd [⟨[],[],[2]⟩]))
    (fun x=>by cases x with | r0 e=>exact EI [.bool false e])
def CI:Option vT→Bool
  | some _=>true
  | none=>false
def Bj:Option vT→Bool
  | some (.r0 x)=>x
  | _=>false
theorem TB{x:Option vT}(h:CI x=true) :x=some (.r0 (Bj x)):=by
  unfold CI at h
  split at h<;>first | rfl | (cases h;done) | (rename_i y;cases y;rfl)
def Q6:bC:=lC Q0 (.cons (.agg (.cons (.int .i64) (.cons (.int .i64) (.cons .fl .nil)))) .nil) fun t=>(fun q=>[⟨MU (.r0 (Bj q)),[CI q]⟩]) (zX t.1.1 t.1.2.1 t.1.2.2.1.2)
theorem Q7:bZ prog Q6:=eV fun t=>(eW (fun h=>TA t.1.1 t.1.2.1 t.1.2.2.1.1 t.1.2.2.1.2 (TB h)) fY)
def Q8:List bC:=Q6::KH
theorem Bk:cQ prog (cX Q8):=aY Q7 zW
inductive bm where
  | r0 (a:Int)
def gq:bm→AE×aW
  | .r0 a=>(.ret,⟨ax 19 [(4,.int .i64 a)],[],0⟩)
theorem jc:xN gq:=by intro x;cases x<;>(intro h;cases h)
theorem vd(id:Nat) :rh id gq:=by intro x;cases x<;>(intro h;cases h)
def jm:bm→rF
  | .r0 a=>⟨.int .i64 a,[]⟩
def ve:List Code:=cV (qT fZ)
def vf(b:Lv)(a:List Nat)(_:Unit) :aW:=⟨ax 19 [(0,.imm b (.fl a) 1 1 0 (List.length a)),(1,.fn (.func xM) [] []),(7,.int .i64 (((List.length a):Nat):Int)),(8,.int .i64 (0:Int))],[],0⟩
def nG:T ((Unit)⊕(bm)) :=
  .leaf (.inl ())
def f8(b:Lv)(a:List Nat)(c:Nat) :aW:=⟨ax 19 [(0,.imm b (.fl a) 1 1 0 (List.length a)),(1,.fn (.func xM) [] []),(7,.int .i64 (((List.length a):Nat):Int)),(8,.int .i64 ((c:Nat):Int))],[],0⟩
def nH(_:Unit) :aW:=⟨ax 19 [],[],0⟩
def vg:List Code:=cV (dm ((((ve.drop 2).take 1)).headD .skip))
def nI(b:List Nat)(a:Nat) :T ((Nat)⊕((Unit)⊕(bm))) :=
  .ask (decide (((a:Nat):Int)<(((List.length b):Nat):Int)))
    (.need (gg ((a:Nat):Int) (List.length b))<|.need (fo a (List.length b))<|.ask (Az (List.getD b a 0) (List.getD b a 0))
      (.leaf (.inr (.inr (.r0 ((a:Nat):Int)))))
      (.ask ((0:Int)==(0:Int))
        (.ask (Kh (eE (List.getD b a 0)) 9218868437227405311)
          (.leaf (.inr (.inr (.r0 ((a:Nat):Int)))))
          (.need (fI .i64 (((a+1):Nat):Int))<|.leaf (.inl (a+1))))
        (.fail)))
    (.leaf (.inr (.inl ())))
def fQ(a:List Nat) :Nat→Option ((Nat)⊕((Unit)⊕(bm))):=fun b =>
  (nI a b).run
theorem uf(b:Lv)(a:List Nat)(c:Nat) :Sg prog [] vg (f8 b a c) (fQ a c) (f8 b a) (co 0 nH gq):=by
  unfold fQ;exact cF Bk (f8 b a) [⟨[],[],[4]⟩,⟨[],[],[4]⟩,⟨[],[],[0,1,7,8]⟩,⟨[],[],[]⟩]
def mQ:T ((Empty)⊕(bm)) :=
  .leaf (.inr (.r0 (-1:Int)))
def bn(a:List Nat) :Option bm:=toX (bd ((nG).run) fun _ =>
  bd (cu (fQ a) 0) fun _ =>
  (mQ).run)
theorem vh(b:Lv)(a:List Nat){x:bm}(h:bn a=some x) :aH prog fZ [] [.imm b (.fl a) 1 1 0 (List.length a),.fn (.func xM) [] []] (jm x) :=
  GS false jm gq h (Sg.cut 2 jc (cF Bk (vf b a) [⟨[],[],[0,1,7,8]⟩]) (fun _=>Sg.cut 1 jc (yE ⟨[],[],[0,1,7,8]⟩ (f8 b a) (nH) 0 jc (vd _) (fun c=>uf b a c)) (fun _=>cF Bk Gd [⟨[],[],[4]⟩])))
    (fun x=>by cases x with | r0 d=>exact EI [.int .i64 d])
def cr:Option bm→Bool
  | some _=>true
  | none=>false
def bG:Option bm→Int
  | some (.r0 x)=>x
  | _=>0
theorem vi{x:Option bm}(h:cr x=true) :x=some (.r0 (bG x)):=by
  unfold cr at h
  split at h<;>first | rfl | (cases h;done) | (rename_i y;cases y;rfl)
def oO:bC:=lC fZ (.cons .fl (.cons (.fn xM .nil .nil) .nil)) fun t=>(fun q=>[⟨jm (.r0 (bG q)),[cr q]⟩]) (bn t.1.2)
theorem tY:bZ prog oO:=eV fun t=>(eW (fun h=>vh t.1.1 t.1.2 (vi h)) fY)
def oP:List bC:=oO::Q8
theorem dV:cQ prog (cX oP):=aY tY Bk
inductive eT where
  | r0 (a:Int)
def rz:eT→AE×aW
  | .r0 a=>(.ret,⟨ax 49 [(4,.int .i64 a)],[],0⟩)
theorem nJ:xN rz:=by intro x;cases x<;>(intro h;cases h)
theorem HV(id:Nat) :rh id rz:=by intro x;cases x<;>(intro h;cases h)
def vU:eT→rF
  | .r0 a=>⟨.int .i64 a,[]⟩
def vj:List Code:=cV (qT vN)
def HW(d:Lv)(e:Lv)(a:List Nat)(f:Lv)(b:List Nat)(g:Int)(h:Int)(i:Lv)(c:List Nat)(j:Int)(_:Unit) :aW:=⟨ax 49 [(0,.iptr d (.vs [.imm e (.fl a) 1 1 0 (List.length a),.imm f (.fl b) 1 1 0 (List.length b),.int .i64 g,.int .i64 h,.imm i (.fl c) 1 1 0 (List.length c)]) 1 0 0),(1,.int .i64 j)],[],0⟩
def zY:T ((Unit)⊕(eT)) :=
  .leaf (.inl ())
def HX:List Code:=cV (SS (((vj.drop 1)).headD .skip))
def HY(d:Lv)(e:Lv)(a:List Nat)(f:Lv)(b:List Nat)(g:Int)(h:Int)(i:Lv)(c:List Nat)(j:Int)(_:Unit) :aW:=⟨ax 49 [(0,.iptr d (.vs [.imm e (.fl a) 1 1 0 (List.length a),.imm f (.fl b) 1 1 0 (List.length b),.int .i64 g,.int .i64 h,.imm i (.fl c) 1 1 0 (List.length c)]) 1 0 0),(5,.int .i64 j)],[],0⟩
def za:T ((Unit)⊕(eT)) :=
  .leaf (.inl ())
def qF(d:Lv)(e:Lv)(a:List Nat)(f:Lv)(b:List Nat)(g:Int)(h:Int)(i:Lv)(c:List Nat)(j:Int) :aW:=⟨ax 49 [(0,.iptr d (.vs [.imm e (.fl a) 1 1 0 (List.length a),.imm f (.fl b) 1 1 0 (List.length b),.int .i64 g,.int .i64 h,.imm i (.fl c) 1 1 0 (List.length c)]) 1 0 0),(5,.int .i64 j)],[],0⟩
def zZ(a:Int) :aW:=⟨ax 49 [(5,.int .i64 a)],[],0⟩
def Gi:List Code:=cV (dm ((((HX.drop 1).take 1)).headD .skip))
def zb(b:List Nat)(c:List Nat)(a:Int) :T ((Int)⊕((Int)⊕(eT))) :=
  .need (fI .i64 ((((List.length b):Nat):Int)-(1:Int)))<|.ask (decide (a<((((List.length b):Nat):Int)-(1:Int))))
    (.need (gg a (List.length b))<|.need (fo (Int.toNat a) (List.length b))<|.need (fI .i64 (a+(1:Int)))<|.need (gg (a+(1:Int)) (List.length b))<|.need (fo (Int.toNat (a+(1:Int))) (List.length b))<|.need (gg a (List.length c))<|.need (fo (Int.toNat a) (List.length c))<|.ask (TX (vC (eE (List.getD c (Int.toNat a) 0)) (vC (eE (List.getD b (Int.toNat a) 0)) (eE (List.getD b (Int.toNat (a+(1:Int))) 0)))) (vC (eE (List.getD b (Int.toNat a) 0)) (eE (List.getD b (Int.toNat (a+(1:Int))) 0))))
      (.leaf (.inr (.inl a)))
      (.need (fI .i64 (a+(1:Int)))<|.leaf (.inl (a+(1:Int)))))
    (.leaf (.inr (.inl a)))
def qf(a:List Nat)(b:List Nat) :Int→Option ((Int)⊕((Int)⊕(eT))):=fun c =>
  (zb a b c).run
theorem Gj(c:Lv)(d:Lv)(a:List Nat)(e:Lv)(b:List Nat)(f:Int)(g:Int)(h:Lv)(i:List Nat)(j:Int) :Sg prog [] Gi (qF c d a e b f g h i j) (qf a b j) (qF c d a e b f g h i) (co 0 zZ rz):=by
  unfold qf;exact cF dV (qF c d a e b f g h i) [⟨[],[],[5]⟩,⟨[],[],[0,5]⟩,⟨[],[],[5]⟩]
def zc(a:Int) :T ((Empty)⊕(eT)) :=
  .leaf (.inr (.r0 a))
def ca(a:List Nat)(b:List Nat)(c:Int) :Option eT:=toX (bd ((zY).run) fun _ =>
  bd ((za).run) fun _ =>
  bd (cu (qf a b) c) fun d =>
  (zc d).run)
theorem HZ(d:Lv)(e:Lv)(a:List Nat)(f:Lv)(b:List Nat)(g:Int)(i:Int)(j:Lv)(c:List Nat)(k:Int){x:eT}(h:ca a b k=some x) :aH prog vN [] [.iptr d (.vs [.imm e (.fl a) 1 1 0 (List.length a),.imm f (.fl b) 1 1 0 (List.length b),.int .i64 g,.int .i64 i,.imm j (.fl c) 1 1 0 (List.length c)]) 1 0 0,.int .i64 k] (vU x) :=
  GS false vU rz h (Sg.cut 1 nJ (cF dV (HW d e a f b g i j c k) [⟨[],[],[0,1]⟩]) (fun _=>Sc (by kernel_rfl:(vj.drop 1)=[.scope (SS (((vj.drop 1)).headD .skip))]) nJ (Sg.cut 1 nJ (cF dV (HY d e a f b g i j c k) [⟨[],[],[0,5]⟩]) (fun _=>Sg.cut 1 nJ (yE ⟨[],[],[0,5]⟩ (qF d e a f b g i j c) (zZ) 0 nJ (HV _) (fun l=>Gj d e a f b g i j c l)) (fun n=>cF dV Gd [⟨[],[],[4]⟩])))))
    (fun x=>by cases x with | r0 m=>exact EI [.int .i64 m])
def nK:Option eT→Bool
  | some _=>true
  | none=>false
def bH:Option eT→Int
  | some (.r0 x)=>x
  | _=>0
theorem H0{x:Option eT}(h:nK x=true) :x=some (.r0 (bH x)):=by
  unfold nK at h
  split at h<;>first | rfl | (cases h;done) | (rename_i y;cases y;rfl)
def Bl:bC:=lC vN (.cons (.ivs (.cons .fl (.cons .fl (.cons (.int .i64) (.cons (.int .i64) (.cons .fl .nil))))) 1 0 0) (.cons (.int .i64) .nil)) fun t=>(fun q=>[⟨vU (.r0 (bH q)),[nK q]⟩]) (ca t.1.2.1.2 t.1.2.2.1.2 t.2.1)
theorem Ff:bZ prog Bl:=eV fun t=>(eW (fun h=>HZ t.1.1 t.1.2.1.1 t.1.2.1.2 t.1.2.2.1.1 t.1.2.2.1.2 t.1.2.2.2.1 t.1.2.2.2.2.1 t.1.2.2.2.2.2.1.1 t.1.2.2.2.2.2.1.2 t.2.1 (H0 h)) fY)
def Bm:List bC:=Bl::oP
theorem kQ:cQ prog (cX Bm):=aY Ff dV
inductive jd where
inductive bN where
  | r0 (a:Nat) (b:Nat) (c:Nat) (d:Nat) (e:Int) (f:Int) (g:Nat) (h:Nat) (i:List Nat) (j:List Nat) (k:List Nat)
def qG:jd→AE×aW:=fun x=>nomatch x
theorem qg:xN qG:=by intro x;cases x<;>(intro h;cases h)
theorem Gk(id:Nat) :rh id qG:=by intro x;cases x<;>(intro h;cases h)
def vk:bN→rF
  | .r0 a b c d e f g h i j k=>⟨.tup [],[some (.vs [.sl 1 1 1 0 a b,.sl 2 1 1 0 c d,.int .i64 e,.int .i64 f,.sl 3 1 1 0 g h]),some (.fl i),some (.fl j),some (.fl k)]⟩
def zd:Nat×Nat×Nat×Nat×Int×Int×Nat×Nat×(List Nat)×(List Nat)×(List Nat)→aW:=fun (a,b,c,d,e,f,g,h,i,j,k)=>⟨ax 64 [],[(0,.vs [.sl 1 1 1 0 a b,.sl 2 1 1 0 c d,.int .i64 e,.int .i64 f,.sl 3 1 1 0 g h]),(1,.fl i),(2,.fl j),(3,.fl k)],4⟩
def Gl:List Code:=cV (qT qC)
def Gm(b:Nat)(c:Nat)(d:Nat)(e:Nat)(a:Int)(f:Int)(g:Nat)(h:Nat)(i:List Nat)(j:List Nat)(k:List Nat)(l:Int)(m:Nat)(n:Nat)(_:Unit) :aW:=⟨ax 64 [(0,.ptr 0 1 0 0),(1,.int .i64 l),(2,.flt false m),(3,.flt false n),(16,.int .i64 a),(17,.int .i64 (0:Int))],[(0,.vs [.sl 1 1 1 0 b c,.sl 2 1 1 0 d e,.int .i64 a,.int .i64 f,.sl 3 1 1 0 g h]),(1,.fl i),(2,.fl j),(3,.fl k)],4⟩
def yo:T ((Unit)⊕(jd)) :=
  .leaf (.inl ())
def qh(b:Nat)(c:Nat)(d:Nat)(e:Nat)(a:Int)(f:Int)(g:Nat)(h:Nat)(i:List Nat)(j:List Nat)(k:Int)(l:Nat)(m:Nat) :Nat×(List Nat)→aW:=fun (n,o)=>⟨ax 64 [(0,.ptr 0 1 0 0),(1,.int .i64 k),(2,.flt false l),(3,.flt false m),(16,.int .i64 a),(17,.int .i64 ((n:Nat):Int))],[(0,.vs [.sl 1 1 1 0 b c,.sl 2 1 1 0 d e,.int .i64 a,.int .i64 f,.sl 3 1 1 0 g h]),(1,.fl i),(2,.fl j),(3,.fl o)],4⟩
def ze(a:Nat)(b:Nat)(c:Nat)(d:Nat)(e:Int)(f:Int)(g:Nat)(h:Nat)(i:List Nat)(j:List Nat)(k:(List Nat)) :aW:=⟨ax 64 [],[(0,.vs [.sl 1 1 1 0 a b,.sl 2 1 1 0 c d,.int .i64 e,.int .i64 f,.sl 3 1 1 0 g h]),(1,.fl i),(2,.fl j),(3,.fl k)],4⟩
def Fg:List Code:=cV (dm ((((Gl.drop 1).take 1)).headD .skip))
def Gn(b:Nat)(c:Nat)(d:Nat)(e:Nat)(a:Int)(f:Int)(g:Nat)(h:Nat)(i:List Nat)(j:List Nat)(k:Int)(l:Nat)(m:Nat)(n:Nat)(o:(List Nat)) :aW:=⟨ax 64 [(0,.ptr 0 1 0 0),(1,.int .i64 k),(2,.flt false l),(3,.flt false m),(16,.int .i64 a),(17,.int .i64 ((n:Nat):Int))],[(0,.vs [.sl 1 1 1 0 b c,.sl 2 1 1 0 d e,.int .i64 a,.int .i64 f,.sl 3 1 1 0 g h]),(1,.fl i),(2,.fl j),(3,.fl o)],4⟩
def yp(h:Int)(b:Int)(e:Nat)(i:Nat)(c:Int)(f:Nat)(g:Nat)(a:Nat)(d:List Nat) :T (((List Nat))⊕(((List Nat))⊕(jd))) :=
  .ask (decide (((a:Nat):Int)<h))
    (.need (fI .i64 (((a:Nat):Int)*b))<|.need (Ay ((e:Nat):Int) i)<|.need (Ay (((a:Nat):Int)*b) e)<|.need (gg c (e-(Int.toNat (((a:Nat):Int)*b))))<|.need (fo (cw (Int.toNat (((a:Nat):Int)*b)) (Int.toNat c)) (List.length d))<|.need (fI .i64 (c+(1:Int)))<|.need (gg (c+(1:Int)) (e-(Int.toNat (((a:Nat):Int)*b))))<|.need (fo (cw (Int.toNat (((a:Nat):Int)*b)) (Int.toNat (c+(1:Int)))) (List.length d))<|.need (fI .i64 (c+(1:Int)))<|.need (gg c (e-(Int.toNat (((a:Nat):Int)*b))))<|.need (fo (cw (Int.toNat (((a:Nat):Int)*b)) (Int.toNat c)) (List.length d))<|.need (gg (c+(1:Int)) (e-(Int.toNat (((a:Nat):Int)*b))))<|.need (fo (cw (Int.toNat (((a:Nat):Int)*b)) (Int.toNat (c+(1:Int)))) (List.length (List.set d (cw (Int.toNat (((a:Nat):Int)*b)) (Int.toNat c)) (oN (cY f (List.getD d (cw (Int.toNat (((a:Nat):Int)*b)) (Int.toNat c)) 0)) (cY g (List.getD d (cw (Int.toNat (((a:Nat):Int)*b)) (Int.toNat (c+(1:Int)))) 0))))))<|.leaf (.inl (List.set (List.set d (cw (Int.toNat (((a:Nat):Int)*b)) (Int.toNat c)) (oN (cY f (List.getD d (cw (Int.toNat (((a:Nat):Int)*b)) (Int.toNat c)) 0)) (cY g (List.getD d (cw (Int.toNat (((a:Nat):Int)*b)) (Int.toNat (c+(1:Int)))) 0)))) (cw (Int.toNat (((a:Nat):Int)*b)) (Int.toNat (c+(1:Int)))) (vC (cY g (List.getD d (cw (Int.toNat (((a:Nat):Int)*b)) (Int.toNat c)) 0)) (cY f (List.getD d (cw (Int.toNat (((a:Nat):Int)*b)) (Int.toNat (c+(1:Int)))) 0))))))
    (.leaf (.inr (.inl d)))
def yq(a:Nat)(b:List Nat) :T ((Nat×(List Nat))⊕(((List Nat))⊕(jd))) :=
  .need (fI .i64 (((a+1):Nat):Int))<|.leaf (.inl ((a+1),b))
def pG(b:Int)(c:Int)(d:Nat)(e:Nat)(f:Int)(g:Nat)(h:Nat) :Nat×(List Nat)→Option ((Nat×(List Nat))⊕(((List Nat))⊕(jd))):=fun (a,i) =>
  bd ((yp b c d e f g h a i).run) fun j =>
  (yq a j).run
theorem Fh(e:Nat)(f:Nat)(g:Nat)(h:Nat)(a:Int)(b:Int)(c:Nat)(d:Nat)(i:List Nat)(j:List Nat)(p:List Nat)(k:Int)(l:Nat)(m:Nat)(n:Nat)(o:List Nat) :Sg prog [.vs [.sl 1 1 1 0 e f,.sl 2 1 1 0 g h,.int .i64 a,.int .i64 b,.sl 3 1 1 0 c d],.fl i,.fl j,.fl p] Fg (qh e f g h a b c d i j k l m (n,o)) (pG a b c d k l m (n,o)) (qh e f g h a b c d i j k l m) (co 0 (ze e f g h a b c d i j) qG):=by
  unfold pG;exact Sg.cut 3 (az qg) (cF kQ (Gn e f g h a b c d i j k l m n) [⟨[],[0,1,2,3],[0,1,2,3,16,17]⟩,⟨[],[0,1,2,3],[]⟩]) (fun q=>cF kQ (qh e f g h a b c d i j k l m) [⟨[],[0,1,2,3],[0,1,2,3,16,17]⟩])
def yr(a:Nat)(b:Nat)(c:Nat)(d:Nat)(e:Int)(f:Int)(g:Nat)(h:Nat)(i:List Nat)(j:List Nat)(k:List Nat) :T ((Nat×Nat×Nat×Nat×Int×Int×Nat×Nat×(List Nat)×(List Nat)×(List Nat))⊕(jd)) :=
  .leaf (.inl (a,b,c,d,e,f,g,h,i,j,k))
def z0:(Nat×Nat×Nat×Nat×Int×Int×Nat×Nat×(List Nat)×(List Nat)×(List Nat))⊕(jd)→bN
  | .inl (a,b,c,d,e,f,g,h,i,j,k)=>(.r0 a b c d e f g h i j k)
def ct(e:Nat)(f:Nat)(g:Nat)(h:Nat)(a:Int)(b:Int)(c:Nat)(d:Nat)(i:List Nat)(j:List Nat)(k:List Nat)(l:Int)(m:Nat)(n:Nat) :Option bN:=Option.map z0 (bd ((yo).run) fun _ =>
  bd (cu (pG a b c d l m n) (0,k)) fun o =>
  (yr e f g h a b c d i j o).run)
theorem Gp(a:Nat)(b:Nat)(c:Nat)(d:Nat)(e:Int)(f:Int)(g:Nat)(i:Nat)(j:List Nat)(k:List Nat)(o:List Nat)(l:Int)(m:Nat)(n:Nat){x:bN}(h:ct a b c d e f g i j k o l m n=some x) :aH prog qC [.vs [.sl 1 1 1 0 a b,.sl 2 1 1 0 c d,.int .i64 e,.int .i64 f,.sl 3 1 1 0 g i],.fl j,.fl k,.fl o] [.ptr 0 1 0 0,.int .i64 l,.flt false m,.flt false n] (vk x) :=
  MH false vk zd qG z0 h (Sg.cut 1 qg (cF kQ (Gm a b c d e f g i j k o l m n) [⟨[],[0,1,2,3],[0,1,2,3,16,17]⟩]) (fun _=>Sg.cut 1 qg (yE ⟨[],[0,1,2,3],[0,1,2,3,16,17]⟩ (qh a b c d e f g i j k l m n) (ze a b c d e f g i j k) 0 qg (Gk _) (fun ⟨p,q⟩=>Fh a b c d e f g i j k o l m n p q)) (fun r=>cF kQ zd [⟨[],[0,1,2,3],[]⟩])))
    (fun ⟨s,t,u,v,w,y,z,A,B,C,D⟩=>MG []) (fun x=>by cases x)
def qi:Option bN→Bool
  | some _=>true
  | none=>false
def ri:Option bN→Nat
  | some (.r0 x _ _ _ _ _ _ _ _ _ _)=>x
  | _=>0
def rj:Option bN→Nat
  | some (.r0 _ x _ _ _ _ _ _ _ _ _)=>x
  | _=>0
def rl:Option bN→Nat
  | some (.r0 _ _ x _ _ _ _ _ _ _ _)=>x
  | _=>0
def rm:Option bN→Nat
  | some (.r0 _ _ _ x _ _ _ _ _ _ _)=>x
  | _=>0
def rn:Option bN→Int
  | some (.r0 _ _ _ _ x _ _ _ _ _ _)=>x
  | _=>0
def rp:Option bN→Int
  | some (.r0 _ _ _ _ _ x _ _ _ _ _)=>x
  | _=>0
def rq:Option bN→Nat
  | some (.r0 _ _ _ _ _ _ x _ _ _ _)=>x
  | _=>0
def rt:Option bN→Nat
  | some (.r0 _ _ _ _ _ _ _ x _ _ _)=>x
  | _=>0
def ru:Option bN→List Nat
  | some (.r0 _ _ _ _ _ _ _ _ x _ _)=>x
  | _=>[]
def rv:Option bN→List Nat
  | some (.r0 _ _ _ _ _ _ _ _ _ x _)=>x
  | _=>[]
def qH:Option bN→List Nat
  | some (.r0 _ _ _ _ _ _ _ _ _ _ x)=>x
  | _=>[]
theorem Gq{x:Option bN}(h:qi x=true) :x=some (.r0 (ri x) (rj x) (rl x) (rm x) (rn x) (rp x) (rq x) (rt x) (ru x) (rv x) (qH x)):=by
  unfold qi at h
  split at h<;>first | rfl | (cases h;done) | (rename_i y;cases y;rfl)
def z4:bC:=yZ qC [.vs [.lsl0 1,.lsl0 2,.int .i64,.int .i64,.lsl0 3],.fl,.fl,.fl] (.cons (.lptr 0 1 0 0) (.cons (.int .i64) (.cons (.flt false) (.cons (.flt false) .nil)))) fun x t=>(fun q=>[⟨vk (.r0 (ri q) (rj q) (rl q) (rm q) (rn q) (rp q) (rq q) (rt q) (ru q) (rv q) (qH q)),[qi q]⟩]) (ct x.1.1.1 x.1.1.2 x.1.2.1.1 x.1.2.1.2 x.1.2.2.1 x.1.2.2.2.1 x.1.2.2.2.2.1.1 x.1.2.2.2.2.1.2 x.2.1 x.2.2.1 x.2.2.2.1 t.2.1 t.2.2.1 t.2.2.2.1)
theorem EJ:bZ prog z4:=pE fun x t=>(jZ (fun h=>Gp x.1.1.1 x.1.1.2 x.1.2.1.1 x.1.2.1.2 x.1.2.2.1 x.1.2.2.2.1 x.1.2.2.2.2.1.1 x.1.2.2.2.2.1.2 x.2.1 x.2.2.1 x.2.2.2.1 t.2.1 t.2.2.1 t.2.2.2.1 (Gq h)) pF)
def z5:List bC:=z4::Bm
theorem fb:cQ prog (cX z5):=aY EJ kQ
end
end Go.Plb.Seat
