/-
  Part 2 of what the claim leans on: an evaluator of the model, proved sound; the contracts of the functions.
-/
import GoSem.Extern.MathSqrt
import GoSem.Extern.MathFloatBits
import GoSem.Extern.MathBitsCarry
import Derived.LoopN
import Derived.Scope
import Derived.Laws.Externs
import Derived.WalkKit
import Derived.ProofKit
import Derived.OpenShut
import Derived.Deep.Slices
import Derived.Test.YthikcnkmglbbbaaDoorChecked
import Derived.KernelRfl
import Derived.Test.YthikcnkmglbbbaaDoorRows
import Derived.LaidLaws
import Derived.LaidHandle
import Derived.Lib.LaidTab
import Derived.JoinedOf
import Derived.Test.YthikcnkmglbbbaaDoorA1
namespace Go.Plb
set_option linter.unusedSimpArgs false
set_option linter.unusedVariables false
set_option linter.unusedSectionVars false
variable [Rom]
inductive Dm where
  | sqrt | bits | frombits | add64 | sub64
def Bm:Dm→Array Value→Sem Value
  | .sqrt=>Extern.MathSqrt.sqrt
  | .bits=>Extern.MathFloatBits.float64bits
  | .frombits=>Extern.MathFloatBits.float64frombits
  | .add64=>fun args=>do
    let (x, y, c) ← Extern.MathBitsCarry.three "Add64" args
    pure (Extern.MathBitsCarry.pair ((x+y+c)%Extern.MathBitsCarry.m64) ((x+y+c)/Extern.MathBitsCarry.m64))
  | .sub64=>fun args=>do
    let (x, y, b) ← Extern.MathBitsCarry.three "Sub64" args
    pure (Extern.MathBitsCarry.pair ((x+Extern.MathBitsCarry.m64-y-b)%Extern.MathBitsCarry.m64) (if x<y+b then 1 else 0))
def Vz(k:Dm)(args:List AV) :List Dl :=
  match k,args with
  | .sqrt,[.flt _ x]=>[⟨.flt false (fG x),[],[]⟩]
  | .bits,[.flt true x]=>[⟨.int .u64 x,[],[]⟩]
  | .bits,[.flt false x]=>[⟨.int .u64 x,[],[!isNaN x]⟩,⟨.nan,[],[isNaN x]⟩]
  | .frombits,[.int .u64 n]=>[⟨.flt true n.toNat,[],[]⟩]
  | .add64,[.int _ x,.int _ y,.int _ c]=>[⟨.tup [.int .u64 (((x.toNat+y.toNat+c.toNat)%18446744073709551616:Nat):Int),.int .u64 (((x.toNat+y.toNat+c.toNat)/18446744073709551616:Nat):Int)],[],[pT c.toNat 1]⟩]
  | .sub64,[.int _ x,.int _ y,.int _ c]=>[⟨.tup [.int .u64 (((x.toNat+18446744073709551616-y.toNat-c.toNat)%18446744073709551616:Nat):Int),.int .u64 (bif Nat.blt x.toNat (y.toNat+c.toNat) then 1 else 0)],[],[pT c.toNat 1]⟩]
  | _,_=>[]
abbrev fW:=Option (List Nat)
structure SO where
  mask:List Bool
  keep:Bool
abbrev fI:=FuncId→List aC→List AV→fW→Option (jj×List Bool×fW)
structure yD where
  P:Program
  ext:FuncId→Option Dm
  mode:FuncId→SO
  wrap:Bool
structure yD.Ok (C:yD):Prop where
  mixed:C.P.follows .mixedOrders=true
  enter:∀ (f:FuncId) (fn:Func) (args:Array Value) (w:World),C.P.funcs[f]? = some fn→fn.body.isSome=true→(callFunc f args).run C.P w=.ok (.enter f args) w
  ext:∀ (f:FuncId) (k:Dm) (args:Array Value) (w:World),C.ext f=some k→(callFunc f args).run C.P w=(do pure (Next.value (←Bm k args)):Sem Next).run C.P w
def Ew(P:Program)(run:fI) :Prop :=
  ∀ f lent args p r obs p',run f lent args p=some (r,obs,p')→aB obs→∀ (ρ:ak) (w:World) (us:List Value),lu ρ w lent→dT ρ w args us →
    (∃ fn,P.funcs[f]? = some fn∧fn.body.isSome=true)∧Calls P f us.toArray w fun e w'=>∃ u,e=.returned u∧iu ρ.live w w'∧r.Holds ρ w w' lent.length u
structure Wh where
  v:AV
  sets:List (Nat×Option aC)
  reads:List Nat
  obs:List Bool
  path:fW
def RI:List Bool→Bool
  | []=>true
  | b::l=>b&&RI l
theorem H8:∀ {l:List Bool},RI l=true→aB l
  | [],_=>trivial
  | b::l,h=>by simp only [RI,Bool.and_eq_true] at h;exact ⟨h.1,H8 h.2⟩
def DY(alts:List Dl)(p:fW) :Option (Dl×fW) :=
  match alts,p with
  | [a],p=>some (a,p)
  | alts,none=>(alts.find? fun a=>RI a.obs).map fun a=>(a,none)
  | alts,some (k::r)=>(alts[k]?).map fun a=>(a,some r)
  | _,_=>none
theorem Cy{alts:List Dl}{p p':fW}{a:Dl}(h:DY alts p=some (a,p')) :a∈alts:=by
  unfold DY at h
  split at h
  · simp only [Option.some.injEq,Prod.mk.injEq] at h;rw [←h.1];simp
  · simp only [Option.map_eq_some_iff,Prod.mk.injEq] at h;obtain ⟨b,h1,rfl,_⟩:=h;exact List.mem_of_find?_eq_some h1
  · simp only [Option.map_eq_some_iff,Prod.mk.injEq] at h;obtain ⟨b,h1,rfl,_⟩:=h;exact List.mem_of_getElem? h1
  · cases h
def gg:Nat:=100000
mutual
def Jr:AV→List Nat
  | .ptr b ..=>[b]
  | .sl b ..=>[b]
  | .fn _ l1 l2=>gq l1++gq l2
  | .agg l | .tup l=>gq l
  | .iface _ v=>Jr v
  | _=>[]
def gq:List AV→List Nat
  | []=>[]
  | v::l=>Jr v++gq l
end
def Uy:aC→List Nat
  | .vs l=>gq l
  | _=>[]
def sQ:List Nat→Nat→Bool
  | [],_=>false
  | k::l,b=>bif Nat.beq k b then true else sQ l b
def j9(g:Nat→Option aC) :Nat→List Nat→List Nat→List Nat
  | 0,_,acc=>acc
  | _+1,[],acc=>acc
  | n+1,b::t,acc=>match sQ acc b with
    | true=>j9 g n t acc
    | false=>j9 g n ((match g b with | some d=>Uy d | none=>[])++t) (acc++[b])
def lQ:List Bool→List AV→List AV
  | true::m,v::l=>v::lQ m l
  | false::m,_::l=>lQ m l
  | _,_=>[]
def iz(σ:Nat→Option Nat)(g:Nat→Option aC) :List Bool→List AV→List AV×List Nat
  | _,[]=>([],[])
  | true::m,v::l=>let s:=iz σ g m l;(DX σ v::s.1,s.2)
  | false::m,v::l=>let r:=Bk σ g gg v;let s:=iz σ g m l;(r.1::s.1,r.2++s.2)
  | [],v::l=>let r:=Bk σ g gg v;let s:=iz σ g [] l;(r.1::s.1,r.2++s.2)
theorem qQ{ρ τ:ak}{w:World}{h:bU}{m:Nat}{σ:Nat→Option Nat}(hh:HR ρ w h m)(L:La ρ τ w h σ) :∀ (k:List Bool) {l:List AV} {c:List Value},dT ρ w l c→dT τ w (iz σ (aV h) k l).1 c
  | k,[],c,hv=>by cases hv;cases k<;>exact .nil
  | true::k,v::l,c,hv=>by cases hv with | cons _ u _ c' h1 h2=>exact .cons _ _ _ _ (jZ L h1) (qQ hh L k h2)
  | false::k,v::l,c,hv=>by cases hv with | cons _ u _ c' h1 h2=>exact .cons _ _ _ _ (Jq hh L _ h1) (qQ hh L k h2)
  | [],v::l,c,hv=>by cases hv with | cons _ u _ c' h1 h2=>exact .cons _ _ _ _ (Jq hh L _ h1) (qQ hh L [] h2)
def sR:List Nat→Bool
  | []=>true
  | k::l=>bif sQ l k then false else sR l
def lR(g:Nat→Option aC)(nid:Nat) :List Nat→Bool
  | []=>true
  | b::l=>(match g b with | some _=>Nat.blt b nid||Nat.ble (nid+oB) b | none=>false)&&lR g nid l
theorem yE:∀ {l:List Nat} {i b:Nat},l[i]? = some b→sQ l b=true
  | [],i,b,h=>by simp at h
  | k::l,0,b,h=>by simp at h;subst h;simp [sQ,m7]
  | k::l,i+1,b,h=>by
    simp only [sQ]
    cases Nat.beq k b with
    | true=>rfl
    | false=>simp only [cond_false];exact yE (i:=i) (by simpa using h)
theorem sS:∀ {l:List Nat},sR l=true→∀ {i j b:Nat},l[i]? = some b→l[j]? = some b→i=j
  | [],_,i,j,b,h1,_=>by simp at h1
  | k::l,hn,i,j,b,h1,h2=>by
    simp only [sR] at hn
    cases e:sQ l k with
    | true=>rw [e] at hn;cases hn
    | false =>
      rw [e] at hn;simp only [cond_false] at hn
      cases i with
      | zero =>
        cases j with
        | zero=>rfl
        | succ j=>simp at h1 h2;subst h1;rw [yE h2] at e;cases e
      | succ i =>
        cases j with
        | zero=>simp at h1 h2;subst h2;rw [yE h1] at e;cases e
        | succ j=>have:=sS hn (i:=i) (j:=j) (b:=b) (by simpa using h1) (by simpa using h2);omega
theorem rA{g:Nat→Option aC}{nid:Nat} :∀ {l:List Nat},lR g nid l=true→∀ b,b∈l→(∃ d,g b=some d)∧(b<nid∨nid+oB≤b)
  | [],_,b,hb=>by cases hb
  | k::l,h,b,hb=>by
    simp only [lR,Bool.and_eq_true] at h
    rcases List.mem_cons.1 hb with rfl | q
    · have:=h.1
      cases e:g b with
      | none=>rw [e] at this;cases this
      | some d =>
        rw [e] at this
        simp only [Bool.or_eq_true] at this
        refine ⟨⟨d,rfl⟩,this.imp (fun q=>by simpa [Nat.blt_eq] using q) (fun q=>Nat.le_of_ble_eq_true q)⟩
    · exact rA h.2 b q
def zT(e:Operand→AV)(f:Operand)(args:Array Operand) :Option (FuncId×List AV) :=
  match e f with
  | .fn (.func fid) first caps=>some (fid,first++args.toList.map e++caps)
  | _=>none
def H9(C:yD)(run:fI)(g:Nat→Option aC)(nid:Nat)(p:fW)(fid:FuncId)(vals:List AV) :Option Wh :=
  let bs:=j9 g gg (gq (lQ (C.mode fid).mask vals)) []
  let la:=iz (jX bs 0) g (C.mode fid).mask vals
  bif sR bs&&lR g nid bs then
    match run fid (oT (jX bs 0) g bs) la.1 p with
    | some (r,obs,p') =>
      bif Nat.ble r.own.length (bs.length+oB) then
        some { v:=j8 (eu bs nid) r.v,sets:=iy (eu bs nid) 0 r.own,reads:=bs++la.2,obs,path:=p' }
      else none
    | none=>none
  else none
def VA(C:yD)(run:fI)(e:Operand→AV)(g:Nat→Option aC)(nid:Nat)(p:fW)(op:Op) :Option Wh :=
  match Bd C.wrap C.P e op with
  | some (v,obs)=>some { v,sets:=[],reads:=[],obs,path:=p }
  | none =>
    match op with
    | .load t x=>(zI C.P g t (e x)).map fun r=>{ v:=r.1,sets:=[],reads:=r.2.2,obs:=r.2.1,path:=p }
    | .store t x v=>(Bg C.P g t (e x) (e v)).map fun r=>{ v:=.any,sets:=[(r.1,some r.2.1)],reads:=[r.1],obs:=r.2.2,path:=p }
    | .alloc t=>(Oq C.P nid t).map fun r=>{ v:=r.1,sets:=[(nid,some r.2)],reads:=[],obs:=[],path:=p }
    | .box t x=>(Vy C.P nid t (e x)).map fun r=>{ v:=r.1,sets:=[(nid,some r.2)],reads:=[],obs:=[],path:=p }
    | .makeSlice t l c=>(SK C.P nid t (e l) (e c)).map fun r=>{ v:=r.1,sets:=[(nid,some r.2.1)],reads:=[],obs:=r.2.2,path:=p }
    | .build t parts=>(Ov C.P t (parts.toList.map fun x=>(x.1,e x.2))).map fun v=>{ v,sets:=[],reads:=[],obs:=[],path:=p }
    | .buildSlice t len parts=>(vn C.P nid t len (parts.toList.map fun x=>(x.1,e x.2))).map fun r=>{ v:=r.1,sets:=[(nid,some r.2)],reads:=[],obs:=[],path:=p }
    | .call { callee:=.builtin .append,args,argTypes } =>
      match args.toList,argTypes.toList with
      | [s,x],[t,t']=>bif Nat.beq t t' then
          match wT C.P g nid t (e s) (e x) with
          | some (alts,rs)=>(DY alts p).map fun r=>{ v:=r.1.v,sets:=r.1.sets,reads:=rs,obs:=r.1.obs,path:=r.2 }
          | none=>none
        else none
      | _,_=>none
    | .call { callee:=.builtin .copy,args,argTypes } =>
      match args.toList,argTypes.toList with
      | [s,x],[t,_]=>(H7 C.P g t (e s) (e x)).map fun r=>{ v:=.int .i64 (r.1:Int),sets:=[(r.2.1,some r.2.2.1)],reads:=r.2.2.2.2,obs:=r.2.2.2.1,path:=p }
      | _,_=>none
    | .call { callee:=.value f,args,.. } =>
      match zT e f args with
      | some (fid,l) =>
        match C.ext fid with
        | some k=>(DY (Vz k l) p).map fun r=>{ v:=r.1.v,sets:=[],reads:=[],obs:=r.1.obs,path:=r.2 }
        | none=>H9 C run g nid p fid l
      | none=>none
    | _=>none
theorem Ld{x:Nat}(h:isNaN x=true) :FloatKind.f64.format.sqrt x=none:=by
  obtain ⟨s,t,e⟩:=r7 h
  simp [Ieee.Format.sqrt,e,Ieee.Datum.root]
theorem Ex{ρ:ak}{w:World}{k1 k2 k3:IntKind}{x y z:Int}{c:Array Value}(hl:dT ρ w [.int k1 x,.int k2 y,.int k3 z] c.toList) :c = #[.int k1 x,.int k2 y,.int k3 z]:=by
  have h:c.toList=[.int k1 x,.int k2 y,.int k3 z]:=by
    generalize c.toList=l at hl
    cases hl with | cons _ u1 _ _ h1 t1 =>
    cases t1 with | cons _ u2 _ _ h2 t2 =>
    cases t2 with | cons _ u3 _ _ h3 t3 =>
    cases t3;cases h1;cases h2;cases h3;rfl
  rw [←c.toArray_toList,h]
theorem Ia{P:Program}{w:World}(name:String){k1 k2 k3:IntKind}{x y z:Int}(hz:z.toNat≤1) :(Extern.MathBitsCarry.three name #[.int k1 x,.int k2 y,.int k3 z]).run P w=.ok (x.toNat,y.toNat,z.toNat) w:=by
  have e:Extern.MathBitsCarry.three name #[.int k1 x,.int k2 y,.int k3 z]=(do
      if z.toNat > 1 then unsupported (.noEntry ("extern/math/bits." ++ name ++ ": a carry that is neither 0 nor 1"))
      pure (x.toNat,y.toNat,z.toNat):Sem (Nat×Nat×Nat)):=rfl
  rw [e,if_neg (by omega)]
  rfl
theorem OB{P:Program}{ρ:ak}{w:World}{k:Dm}{l:List AV}{c:Array Value}{r:Dl}(hl:dT ρ w l c.toList)(h:r∈Vz k l)(ho:aB r.obs) :iv P ρ w (Bm k c) r.v:=by
  have one:∀ {a:AV},dT ρ w [a] c.toList→∃ u,c = #[u]∧VR ρ w a u:=by
    intro a h
    generalize hc:c.toList=l at h
    cases h with | cons _ u _ _ h1 h2=>cases h2;exact ⟨u,by rw [←hc],h1⟩
  unfold Vz at h
  split at h
  · simp only [List.mem_singleton] at h;subst h
    obtain ⟨u,rfl,hu⟩:=one hl
    cases hu with | flt _ _ y hf =>
    rename_i ex x
    have es:Bm .sqrt #[.float .f64 y]=(match FloatKind.f64.format.sqrt y with
      | some r=>pure (.float .f64 r)
      | none=>do pure (.float .f64 (←choose (.nanBits .f64 y y)))):=rfl
    rw [es]
    have e:FloatKind.f64.format.sqrt y=FloatKind.f64.format.sqrt x:=by
      rcases hf with rfl | ⟨_,h2,h3⟩
      · rfl
      · rw [Ld h2,Ld h3]
    cases hr:FloatKind.f64.format.sqrt y with
    | some r=>exact ⟨.float .f64 r,w.drawn,rfl,.flt _ _ _ (.inl (by rw [e] at hr;simp [fG,hr]))⟩
    | none=>exact ⟨_,w.drawn+1,rfl,.flt _ _ _ (.inr ⟨rfl,by rw [e] at hr;simp [fG,hr,Ec],QH y y _⟩)⟩
  · simp only [List.mem_singleton] at h;subst h
    obtain ⟨u,rfl,hu⟩:=one hl
    cases hu with | flt _ _ y hf =>
    rcases hf with rfl | ⟨h1,_⟩
    · exact ⟨_,w.drawn,rfl,.int _ _⟩
    · cases h1
  · simp only [List.mem_cons,List.not_mem_nil,or_false] at h
    obtain ⟨u,rfl,hu⟩:=one hl
    cases hu with | flt _ _ y hf =>
    rcases h with rfl | rfl
    · rcases hf with rfl | ⟨_,h2,_⟩
      · exact ⟨_,w.drawn,rfl,.int _ _⟩
      · have:=ho.1;rw [h2] at this;cases this
    · have hy:isNaN y=true:=by
        rcases hf with rfl | ⟨_,_,h3⟩
        · exact ho.1
        · exact h3
      exact ⟨_,w.drawn,rfl,.nan _ hy⟩
  · simp only [List.mem_singleton] at h;subst h
    obtain ⟨u,rfl,hu⟩:=one hl
    cases hu
    exact ⟨_,w.drawn,rfl,.flt _ _ _ (.inl rfl)⟩
  · simp only [List.mem_singleton] at h;subst h
    have hz:=ho.1
    replace hz:=of_decide_eq_true hz
    cases Ex hl
    refine ⟨_,w.drawn,?_,.tup _ #[_,_] (.cons _ _ _ _ (.int _ _) (.cons _ _ _ _ (.int _ _) .nil))⟩
    simp only [Bm, Sem.run_bind, Ia "Add64" hz, Result.andThen_ok]
    rfl
  · simp only [List.mem_singleton] at h;subst h
    have hz:=ho.1
    replace hz:=of_decide_eq_true hz
    cases Ex hl
    refine ⟨_,w.drawn,?_,.tup _ #[_,_] (.cons _ _ _ _ (.int _ _) (.cons _ _ _ _ (.int _ _) .nil))⟩
    simp only [Bm, Sem.run_bind, Ia "Sub64" hz, Result.andThen_ok]
    rename_i x _ y _ z
    have e:(bif Nat.blt x.toNat (y.toNat+z.toNat) then (1:Int) else 0)=Int.ofNat (if x.toNat<y.toNat+z.toNat then 1 else 0):=by
      by_cases q:x.toNat<y.toNat+z.toNat
      · rw [if_pos q,show Nat.blt x.toNat (y.toNat+z.toNat)=true by rw [Nat.blt_eq];exact q];rfl
      · rw [if_neg q]
        have:Nat.blt x.toNat (y.toNat+z.toNat)=false:=by
          cases h:Nat.blt x.toNat (y.toNat+z.toNat) with
          | false=>rfl
          | true=>rw [Nat.blt_eq] at h;exact absurd h q
        rw [this];rfl
    rw [e]
    rfl
  · simp at h
theorem RJ{C:yD}(hC:C.Ok){run:fI}(hrun:Ew C.P run){e:Operand→AV}{h:bU}{nid:Nat}{p:fW}{o:Oper}{r:Wh}(hr:VA C run e (aV h) nid p o.op=some r)(ho:aB r.obs) 
    {ρ:ak} {w:World} {n:Nat} (hh:HR ρ w h n) (hid:∀ x,nid≤x→x<nid+oB→¬ ρ.ok x) (hn0:nid+oB≤n) {a:Act} (hops:∀ x,VR ρ w (e x) (a.eval x)) {next:Act→World→Prop} {Q:Exit→Act→World→Prop}
    (hK:∀ ρ' w' u,lH ρ ρ' w→iu ρ.live w w'→HR ρ' w' (cT r.sets h) n→VR ρ' w' r.v u→(∀ b,ρ'.ok b→ρ.ok b∨(nid≤b∧b<nid+oB))→next (a.put o.dst u) w'):o.wp C.P a w next Q:=by
  have hS:0<oB:=by decide
  have hb : ¬ ρ.ok nid:=hid nid (Nat.le_refl _) (by omega)
  have hn:nid<n:=by omega
  have one:∀ {b:Nat},b=nid→nid≤b∧b<nid+oB:=fun e=>by omega
  have plain:∀ {v:AV},(∃ u k,(execOp a.eval o).run C.P w=.ok (.value u) { w with drawn:=k }∧VR ρ w v u)→r.v=v→r.sets=[]→o.wp C.P a w next Q:=by
    intro v ⟨u,k,h1,h2⟩ hv hs
    unfold Oper.wp
    rw [h1]
    have E:=lH.refl ρ w
    have W:=iu.drawn ρ.live w k
    exact hK ρ _ u E W (by rw [hs];exact hh.drawn k) (by rw [hv];exact h2.mono E W) (fun b q=>.inl q)
  have N7:∀ {s:Sem Value} {v:AV} {h':bU},(execOp a.eval o).run C.P w=(do pure (Next.value (←s)):Sem Next).run C.P w→xN C.P ρ w h n nid s v h'→r.v=v→cT r.sets h=h'→o.wp C.P a w next Q:=by
    intro s v h' he ⟨u,w',ρ',h1,h2,h3,h4,h5,h6⟩ hv hs
    unfold Oper.wp
    rw [he,cS h1]
    exact hK ρ' w' u h2 h3 (by rw [hs];exact h4) (by rw [hv];exact h5) (fun b q=>(h6 b q).imp id one)
  unfold VA at hr
  split at hr
  · rename_i v obs hp
    simp only [Option.some.injEq] at hr;subst hr
    exact plain (Jc hops hp ho) rfl rfl
  · rename_i hpo
    clear hpo
    generalize hop:o.op=op at hr
    split at hr
    · rename_i t x
      simp only [Option.map_eq_some_iff] at hr
      obtain ⟨⟨v,obs,rs⟩,hl,rfl⟩:=hr
      obtain ⟨u,k,h1,h2⟩:=KY (P:=C.P) hh (hops x) hl ho
      exact plain ⟨u,k,by simp only [execOp,hop];exact cS h1,h2⟩ rfl rfl
    · rename_i t x v
      simp only [Option.map_eq_some_iff] at hr
      obtain ⟨⟨b,d,obs⟩,hl,rfl⟩:=hr
      obtain ⟨w',h1,h2,h3⟩:=Jd (P:=C.P) hh (hops x) (hops v) hl ho
      unfold Oper.wp
      have:(execOp a.eval o).run C.P w=.ok .skip w':=by
        simp only [execOp,hop];rw [Sem.run_bind,h1];rfl
      rw [this]
      exact hK ρ w' undef (lH.refl _ _) h3 h2 (.any _) (fun b q=>.inl q)
    · rename_i t
      simp only [Option.map_eq_some_iff] at hr
      obtain ⟨⟨v,d⟩,hl,rfl⟩:=hr
      exact N7 (by simp only [execOp,hop]) (Jg hh hb hn hl true) rfl rfl
    · rename_i t x
      simp only [Option.map_eq_some_iff] at hr
      obtain ⟨⟨v,d⟩,hl,rfl⟩:=hr
      exact N7 (by simp only [execOp,hop]) (Ot hh hb hn (hops x) hl) rfl rfl
    · rename_i t l c
      simp only [Option.map_eq_some_iff] at hr
      obtain ⟨⟨v,d,obs⟩,hl,rfl⟩:=hr
      exact N7 (by simp only [execOp,hop]) (K0 hh hb hn (hops l) (hops c) hl ho) rfl rfl
    · rename_i t parts
      simp only [Option.map_eq_some_iff] at hr
      obtain ⟨v,hl,rfl⟩:=hr
      have h1:(parts.toList.map fun x=>(x.1,e x.2)).map Prod.fst=(parts.map fun (x:Nat×Operand)=>(x.1,a.eval x.2)).toList.map Prod.fst:=by simp
      have h2:dT ρ w ((parts.toList.map fun x=>(x.1,e x.2)).map Prod.snd) ((parts.map fun (x:Nat×Operand)=>(x.1,a.eval x.2)).toList.map Prod.snd):=by
        have:=dT.map hops (parts.toList.map Prod.snd)
        simpa [Function.comp_def] using this
      obtain ⟨u,k,q1,q2⟩:=Jl (P:=C.P) h1 h2 hl
      exact plain ⟨u,k,by simp only [execOp,hop];exact cS q1,q2⟩ rfl rfl
    · rename_i t len parts
      simp only [Option.map_eq_some_iff] at hr
      obtain ⟨⟨v,d⟩,hl,rfl⟩:=hr
      have h1:(parts.toList.map fun x=>(x.1,e x.2)).map Prod.fst=(parts.map fun (x:Nat×Operand)=>(x.1,a.eval x.2)).toList.map Prod.fst:=by simp
      have h2:dT ρ w ((parts.toList.map fun x=>(x.1,e x.2)).map Prod.snd) ((parts.map fun (x:Nat×Operand)=>(x.1,a.eval x.2)).toList.map Prod.snd):=by
        have:=dT.map hops (parts.toList.map Prod.snd)
        simpa [Function.comp_def] using this
      exact N7 (by simp only [execOp,hop]) (zN hh hb hn h1 h2 hl) rfl rfl
    · rename_i args argTypes
      split at hr
      case h_2=>cases hr
      rename_i s x t t' e1 e2
      cases ht:Nat.beq t t' with
      | false=>rw [ht] at hr;cases hr
      | true =>
      rw [ht] at hr
      have:=Nat.eq_of_beq_eq_true ht
      subst this
      simp only [cond_true] at hr
      split at hr
      case h_2=>cases hr
      rename_i alts rs ha
      simp only [Option.map_eq_some_iff] at hr
      obtain ⟨⟨alt,p'⟩,hp,rfl⟩:=hr
      have ea:args = #[s,x]:=by rw [←e1]
      have et:argTypes = #[t,t]:=by rw [←e2]
      subst ea;subst et
      have hm:=GX hh hb hn (hops s) (hops x) ha (Cy hp) ho o.type
      refine N7 (s:=Builtin.append_ #[t,t] o.type #[a.eval s,a.eval x]) ?_ hm rfl rfl
      simp only [execOp,hop]
      rw [iw a.eval .append #[s,x] #[t,t] o.type _ rfl]
      simp [invoke,builtin]
    · rename_i args argTypes
      split at hr
      case h_2=>cases hr
      rename_i s x t t' e1 e2
      simp only [Option.map_eq_some_iff] at hr
      obtain ⟨⟨k,b,d,obs,rs⟩,hc,rfl⟩:=hr
      have ea:args = #[s,x]:=by rw [←e1]
      have et:argTypes = #[t,t']:=by rw [←e2]
      subst ea;subst et
      obtain ⟨w',h1,h2,h3⟩:=Lc (P:=C.P) (T:=o.type) (t':=t') hh (hops s) (hops x) hc ho
      refine N7 (s:=Builtin.copy_ #[t,t'] o.type #[a.eval s,a.eval x]) ?_ ⟨_,w',ρ,h1,lH.refl _ _,h3,h2,.int _ _,fun b q=>.inl q⟩ rfl rfl
      simp only [execOp,hop]
      rw [iw a.eval .copy #[s,x] #[t,t'] o.type _ rfl]
      simp [invoke,builtin]
    · rename_i f args ats
      split at hr
      case h_2=>cases hr
      rename_i fid l hca
      unfold zT at hca
      split at hca
      case h_2=>cases hca
      rename_i fid' first caps hef
      simp only [Option.some.injEq,Prod.mk.injEq] at hca
      obtain ⟨rfl,rfl⟩:=hca
      have hf:=hops f
      rw [hef] at hf
      generalize hgf:a.eval f=gf at hf
      cases hf with | fn _ _ _ c1 c2 v1 v2 =>
      have hargs:dT ρ w (first++args.toList.map e++caps) (c1++args.map a.eval++c2).toList:=by
        simp only [Array.toList_append,Array.toList_map]
        exact dT.append v2 (dT.append (dT.map hops args.toList) v1)
      have hex:∀ w0,(execOp a.eval o).run C.P w0=(callFunc fid' (c1++args.map a.eval++c2)).run C.P w0:=by
        intro w0
        simp only [execOp,hop,resolve,hgf,Deferred.ofValue]
        rfl
      split at hr
      · rename_i k hk
        simp only [Option.map_eq_some_iff] at hr
        obtain ⟨⟨a,_⟩,hl,rfl⟩:=hr
        obtain ⟨u,kk,q1,q2⟩:=OB (P:=C.P) hargs (Cy hl) ho
        refine plain ⟨u,kk,?_,q2⟩ rfl rfl
        rw [hex,hC.ext fid' k _ w hk]
        exact cS q1
      · unfold H9 at hr
        simp only at hr
        generalize hbs:j9 (aV h) gg (gq (lQ (C.mode fid').mask (first++args.toList.map e++caps))) []=bs at hr
        cases hlen:(sR bs&&lR (aV h) nid bs) with
        | false=>rw [hlen] at hr;cases hr
        | true =>
        rw [hlen] at hr
        simp only [cond_true] at hr
        rw [Bool.and_eq_true] at hlen
        split at hr
        case h_2=>cases hr
        rename_i r' obs p' hl
        cases hle:Nat.ble r'.own.length (bs.length+oB) with
        | false=>rw [hle] at hr;cases hr
        | true =>
        rw [hle] at hr
        simp only [cond_true,Option.some.injEq] at hr;subst hr
        have hLs:Lb h bs:=⟨fun q1 q2=>sS hlen.1 q1 q2,fun b q=>(rA hlen.2 b q).1⟩
        have L:=QR hh hLs
        have hcall:=hrun fid' _ _ p r' obs p' hl ho
        obtain ⟨⟨fn,hfn,hbody⟩,hcalls⟩:=hcall (ρ.lend bs) w _ (OA hh hLs) (qQ hh L _ hargs)
        unfold Oper.wp
        rw [hex,hC.enter fid' fn _ w hfn hbody]
        simp only [Oper.upon]
        have hl2:(c1++args.map a.eval++c2).toList.toArray=c1++args.map a.eval++c2:=by simp
        rw [hl2] at hcalls
        refine hcalls.mono ?_
        rintro e' w' ⟨u,rfl,W,ρ',E,hbk,H,hv⟩
        rw [n5] at hbk
        obtain ⟨q1,q2,q3,q4,q5⟩:=SN hh hLs hid (fun b q=>(rA hlen.2 b q).2) hn0 (Nat.le_of_ble_eq_true hle) W E hbk H hv
        exact hK _ w' u q1 q2 q3 q4 q5
    · cases hr
structure wV where
  v:AV
  sets:List (Nat×Option aC)
  reads:List Nat
def wW(ops:Array Oper)(j:Nat) :Option Nat:=(ops[j]?).bind (·.dst)
def wX(ops:Array Oper)(o:Oper)(T:List AV) :Option Bool :=
  match o.guard with
  | none=>some true
  | some (j,want) =>
    match wW ops j with
    | none=>some false
    | some d =>
      match T[d]? with
      | some (.bool true b)=>some (b==want)
      | some (.tup _) | none=>some false
      | _=>none
def QT(ops:Array Oper)(i:Nat) :Bool:=ops.toList.any fun o=>match o.guard with | some (j,_)=>Nat.beq j i | none=>false
def DZ(v:AV)(p:fW) :Option (Bool×List Bool×fW) :=
  match v,p with
  | .bool true b,p=>some (b,[],p)
  | .bool false b,none=>some (b,[],none)
  | .bool false b,some (k::r)=>some (Nat.beq k 1,[b==Nat.beq k 1],some r)
  | _,_=>none
theorem Ey{ρ:ak}{w:World}{v:AV}{u:Value}{p p':fW}{b:Bool}{obs:List Bool}(hv:VR ρ w v u)(h:DZ v p=some (b,obs,p'))(ho:aB obs) :u=.bool b:=by
  unfold DZ at h
  split at h
  · simp only [Option.some.injEq,Prod.mk.injEq] at h;obtain ⟨rfl,rfl,rfl⟩:=h;cases hv;rfl
  · simp only [Option.some.injEq,Prod.mk.injEq] at h;obtain ⟨rfl,rfl,rfl⟩:=h;cases hv;rfl
  · simp only [Option.some.injEq,Prod.mk.injEq] at h;obtain ⟨rfl,rfl,rfl⟩:=h;cases hv
    have:=ho.1
    simp only [beq_iff_eq] at this
    rw [this]
  · cases h
def Cz(ops:Array Oper)(i:Nat)(v:AV)(p:fW) :Option (AV×List Bool×fW) :=
  bif QT ops i then (DZ v p).map fun r=>(.bool true r.1,r.2.1,r.2.2) else some (v,[],p)
def zU(C:yD)(run:fI)(ops:Array Oper)(n0 i:Nat)(o:Oper)(T:List AV)(h:bU)(p:fW) :Option (wV×List Bool×fW) :=
  match wX ops o T with
  | none=>none
  | some false=>some ({ v:=.tup [],sets:=[],reads:=[] },[],p)
  | some true =>
    match VA C run (Uw T) (aV h) (n0+i*oB) p o.op with
    | none=>none
    | some r =>
      match Cz ops i r.v r.path with
      | none=>none
      | some (v,obs,p')=>some ({ v,sets:=r.sets,reads:=r.reads },r.obs++obs,p')
def zV(T:List AV)(d:Option Nat)(v:AV) :List AV :=
  match d with
  | some d=>T.set d v
  | none=>T
theorem QU{ρ:ak}{w:World}{T:List AV}{a:Act}{v:AV}{u:Value}(h:dT ρ w T a.tmps.toList)(hv:VR ρ w v u)(d:Option Nat) :dT ρ w (zV T d v) (a.put d u).tmps.toList:=by
  cases d with
  | none=>exact h
  | some d=>simp only [zV,Act.put,Array.toList_setIfInBounds];exact h.set hv d
theorem zW{ρ:ak}{w:World}{ops:Array Oper}{o:Oper}{T:List AV}{a:Act}(h:dT ρ w T a.tmps.toList){b:Bool}(hw:wX ops o T=some b) :Region.wanted o (yielded ops a.tmps)=b:=by
  unfold wX at hw
  unfold Region.wanted
  split at hw
  · rename_i hg;cases hw;simp [hg]
  · rename_i j want hg
    simp only [hg]
    unfold wW at hw
    split at hw
    · rename_i hs;cases hw;simp [yielded,hs]
    · rename_i d hs
      split at hw
      · rename_i b' hT
        cases hw
        obtain ⟨u,h1,h2⟩:=h.get d _ hT
        rw [Array.getElem?_toList] at h1
        cases h2
        simp only [yielded,hs,Option.bind_some,h1]
        cases b'<;>cases want<;>rfl
      · rename_i l hT
        cases hw
        obtain ⟨u,h1,h2⟩:=h.get d _ hT
        rw [Array.getElem?_toList] at h1
        cases h2
        simp [yielded,hs,h1]
      · rename_i hT
        cases hw
        have : a.tmps[d]? = none := by
          have hl:=h.length
          rw [Array.getElem?_eq_none]
          have : T.length ≤ d := by rcases Nat.lt_or_ge d T.length with q | q; · rw [List.getElem?_eq_getElem q] at hT; cases hT
                                    · exact q
          simp at hl;omega
        simp [yielded,hs,this]
      · cases hw
theorem HR.congr{ρ:ak}{w:World}{h h':bU}{n:Nat}(hh:HR ρ w h n)(e:∀ b,aV h' b=aV h b) :HR ρ w h' n :=
  ⟨fun b d q=>hh.cell b d (by rw [←e];exact q),fun b c d f q r=>hh.inj b c d f (by rw [←e];exact q) (by rw [←e];exact r),hh.fresh,hh.liveLt,hh.outLt,hh.lt,hh.rom⟩
theorem CA{C:yD}(hC:C.Ok){run:fI}(hrun:Ew C.P run){ops:Array Oper}{n0 i:Nat}{o:Oper}(hi:ops[i]? = some o){T:List AV}{h:bU}{p p':fW}{r:wV}{obs:List Bool} 
    (hr:zU C run ops n0 i o T h p=some (r,obs,p')) (ho:aB obs) {ρ:ak} {w:World} {n:Nat} (hh:HR ρ w h n) (hid:∀ x,n0+i*oB≤x→x<n0+i*oB+oB→¬ ρ.ok x) (hn:n0+i*oB+oB≤n) {a:Act} (hd:a.defers=[]) (hT:dT ρ w T a.tmps.toList)
    {K:Act→World→Prop} {Q:Exit→Act→World→Prop}
    (hK:∀ ρ' w' a',lH ρ ρ' w→iu ρ.live w w'→HR ρ' w' (cT r.sets h) n→a'.defers=[]→dT ρ' w' (zV T o.dst r.v) a'.tmps.toList→(∀ b,ρ'.ok b→ρ.ok b∨(n0+i*oB≤b∧b<n0+i*oB+oB))→K a' w'):wpOp C.P ops Q i K a w:=by
  have dput:∀ u,(a.put o.dst u).defers=[]:=by intro u;cases hdst:o.dst<;>simp [Act.put,hd]
  unfold zU at hr
  unfold wpOp
  simp only [hi]
  split at hr
  · cases hr
  · rename_i hw
    simp only [Option.some.injEq,Prod.mk.injEq] at hr;obtain ⟨rfl,rfl,rfl⟩:=hr
    rw [zW hT hw]
    simp only [Bool.false_eq_true,if_false]
    exact hK ρ w _ (lH.refl _ _) (iu.refl _ _) hh (dput _) (QU hT (.tup _ _ .nil) o.dst) (fun b q=>.inl q)
  · rename_i hw
    rw [zW hT hw]
    simp only [if_true]
    split at hr
    · cases hr
    · rename_i r' hop
      split at hr
      · cases hr
      · rename_i v obs' p'' hg
        simp only [Option.some.injEq,Prod.mk.injEq] at hr;obtain ⟨rfl,rfl,rfl⟩:=hr
        rw [a5] at ho
        refine .inl (RJ hC hrun hop ho.1 hh hid hn (fun x=>Eg hh.rom hT x) ?_)
        intro ρ' w' u E W hh' hv hok
        refine hK ρ' w' _ E W hh' (dput _) (QU (hT.mono E W) ?_ o.dst) hok
        unfold Cz at hg
        cases hgd:QT ops i with
        | false=>rw [hgd] at hg;simp only [cond_false,Option.some.injEq,Prod.mk.injEq] at hg;rw [←hg.1];exact hv
        | true =>
          rw [hgd] at hg
          simp only [cond_true,Option.map_eq_some_iff,Prod.mk.injEq] at hg
          obtain ⟨⟨b,ob,pp⟩,hd',rfl,rfl,rfl⟩:=hg
          rw [Ey hv hd' ho.2]
          exact .bool _ _
def Ez(C:yD)(run:fI)(ops:Array Oper)(n0:Nat) :Nat→List Oper→List AV→bU→fW→Option (List AV×bU×List Bool×fW)
  | _,[],T,h,p=>some (T,h,[],p)
  | i,o::l,T,h,p =>
    match zU C run ops n0 i o T h p with
    | none=>none
    | some (r,obs,p') =>
      match Ez C run ops n0 (i+1) l (zV T o.dst r.v) (cT r.sets h) p' with
      | none=>none
      | some (T',h',obs',p'')=>some (T',h',obs++obs',p'')
structure vt (ρ:ak) (w:World) (n:Nat) (st:aG) (ρ':ak) (a':Act) (w':World):Prop where
  ext:lH ρ ρ' w
  wle:iu ρ.live w w'
  sr:SR ρ' st a' w'
  le:n≤st.next
  back:∀ b,ρ'.ok b→ρ.ok b∨n≤b
theorem zX{C:yD}(hC:C.Ok){run:fI}(hrun:Ew C.P run){ops:Array Oper}{n0:Nat}{Q:Exit→Act→World→Prop} :∀ (l:List Oper) (i:Nat) {T T':List AV} {h h':bU} {p p':fW} {obs:List Bool},
    (∀ j,l[j]? = ops[i+j]?)→Ez C run ops n0 i l T h p=some (T',h',obs,p')→aB obs→∀ {ρ:ak} {w:World},HR ρ w h (n0+ops.size*oB)→(∀ b,ρ.ok b→b<n0+i*oB)→∀ {a:Act},a.defers=[]→dT ρ w T a.tmps.toList →
    (∀ ρ' w' a',lH ρ ρ' w→iu ρ.live w w'→HR ρ' w' h' (n0+ops.size*oB)→a'.defers=[]→dT ρ' w' T' a'.tmps.toList→(∀ b,ρ'.ok b→ρ.ok b∨n0≤b)→Q .normal a' w')→wpOps C.P ops Q (List.range' i l.length) a w
  | [],i,T,T',h,h',p,p',obs,hl,hr,ho,ρ,w,hh,hok,a,hd,hT,hQ=>by
    simp only [Ez,Option.some.injEq,Prod.mk.injEq] at hr;obtain ⟨rfl,rfl,rfl,rfl⟩:=hr
    simp only [List.length_nil,List.range'_zero,wpOps]
    exact hQ ρ w a (lH.refl _ _) (iu.refl _ _) hh hd hT (fun b q=>.inl q)
  | o::l,i,T,T',h,h',p,p',obs,hl,hr,ho,ρ,w,hh,hok,a,hd,hT,hQ=>by
    simp only [Ez] at hr
    split at hr
    case h_1=>cases hr
    rename_i r obs1 p1 h1
    split at hr
    case h_1=>cases hr
    rename_i T2 h2 obs2 p2 h3
    simp only [Option.some.injEq,Prod.mk.injEq] at hr;obtain ⟨rfl,rfl,rfl,rfl⟩:=hr
    rw [a5] at ho
    have hi:ops[i]? = some o:=by have:=hl 0;simpa using this.symm
    have hlt:i<ops.size:=(Array.getElem?_eq_some_iff.1 hi).1
    simp only [List.length_cons,List.range'_succ]
    rw [wpOps_cons]
    have hS:i*oB+oB≤ops.size*oB:=by rw [←Nat.succ_mul];exact Nat.mul_le_mul_right _ hlt
    have hi1:(i+1)*oB=i*oB+oB:=Nat.succ_mul _ _
    refine CA hC hrun hi h1 ho.1 hh (fun x h1 h2 q=>by have:=hok _ q;omega) (by omega) hd hT ?_
    intro ρ' w' a' E W hh' hd' hT' hok'
    refine zX hC hrun l (i+1) (fun j=>by have:=hl (j+1);rw [show i+1+j=i+(j+1) from by omega];simpa using this) h3 ho.2 hh' (fun b q=>by
      rcases hok' b q with q | q
      · have:=hok b q;omega
      · omega) hd' hT' ?_
    intro ρ'' w'' a'' E' W' hh'' hd'' hT'' hb''
    exact hQ ρ'' w'' a'' (E.trans E' W.size) (W.trans W' (fun x hx q=>E.new x hx q)) hh'' hd'' hT'' (fun b q=>by
      rcases hb'' b q with q | q
      · rcases hok' b q with q | q
        · exact .inl q
        · exact .inr (by omega)
      · exact .inr q)
theorem wY{e e':Operand→AV}{l:List Operand}(h:∀ x∈l,e x=e' x) :l.map e=l.map e':=List.map_congr_left h
theorem Js{wr:Bool}{P:Program}{e e':Operand→AV}{op:Op}(h:∀ x∈op.operands,e x=e' x) :Bd wr P e op=Bd wr P e' op:=by
  unfold Bd
  split
  all_goals simp only [Op.operands,Call.operands] at h
  case h_1=>rw [h _ (by simp)]
  case h_2=>rw [h _ (by simp)]
  case h_3=>rw [h _ (by simp),h _ (by simp),h _ (by simp)]
  case h_4=>rw [h _ (by simp)]
  case h_5=>rw [h _ (by simp),h _ (by simp)]
  case h_6=>rw [h _ (by simp)]
  case h_7=>rw [h _ (by simp)]
  case h_8=>rw [h _ (by simp)]
  case h_9 =>
    rename_i fn first caps
    rw [wY (l:=first.toList) (fun x hx=>h x (by simp at hx;simp [hx])),wY (l:=caps.toList) (fun x hx=>h x (by simp at hx;simp [hx]))]
  case h_10 =>
    rename_i t x lo hi
    rw [h x (by simp)]
    cases lo<;>cases hi<;>simp only [Option.map_none,Option.map_some]<;>first | rfl | (rw [h _ (by simp),h _ (by simp)]) | (rw [h _ (by simp)])
  case h_11 =>
    rename_i t x lo hi mx
    rw [h x (by simp),h mx (by simp)]
    cases lo<;>cases hi<;>simp only [Option.map_none,Option.map_some]<;>first | rfl | (rw [h _ (by simp),h _ (by simp)]) | (rw [h _ (by simp)])
  case h_12=>rw [h _ (by simp)]
  case h_13=>rw [h _ (by simp)]
  case h_14=>rw [h _ (by simp),h _ (by simp)]
  case h_15=>rw [h _ (by simp),h _ (by simp)]
  case h_16=>rw [h _ (by simp)]
  case h_17 =>
    rename_i xs ts
    split
    · rename_i x t hx ht
      have:xs = #[x]:=by rw [←hx]
      subst this
      rw [h x (by simp)]
    · rfl
  case h_18 =>
    rename_i xs ts
    split
    · rename_i x l hx
      have:xs=(x::l).toArray:=by rw [←hx]
      subst this
      rw [h x (by simp),wY (l:=l) (fun y hy=>h y (by simp [hy]))]
    · rfl
  case h_19 =>
    rename_i xs ts
    split
    · rename_i x l hx
      have:xs=(x::l).toArray:=by rw [←hx]
      subst this
      rw [h x (by simp),wY (l:=l) (fun y hy=>h y (by simp [hy]))]
    · rfl
  case h_20=>rfl
theorem Le{P:Program}{g g':Nat→Option aC}{t:TypeId}{x:AV}{r:AV×List Bool×List Nat}(h:zI P g t x=some r)(hg:∀ b∈r.2.2,g' b=g b) :zI P g' t x=some r:=by
  unfold zI at h ⊢
  simp only at h ⊢
  split at h
  · rename_i b w i j
    split at h
    · rename_i d hd
      simp only [Option.map_eq_some_iff] at h
      obtain ⟨r',h1,rfl⟩:=h
      have:g' b=some d:=by rw [hg b (by simp)];exact hd
      simp only [this,h1];rfl
    · cases h
  · exact h
  · cases h
theorem Jt{P:Program}{g g':Nat→Option aC}{t:TypeId}{x v:AV}{r:Nat×aC×List Bool}(h:Bg P g t x v=some r)(hg:g' r.1=g r.1) :Bg P g' t x v=some r:=by
  unfold Bg at h ⊢
  split at h
  · rename_i b w i j l inf h1 h2
    split at h
    · rename_i d hd
      cases e:Nat.beq l.length inf.size with
      | false=>rw [e] at h;cases h
      | true =>
        rw [e] at h
        simp only [cond_true,Option.map_eq_some_iff] at h
        obtain ⟨r',h3,rfl⟩:=h
        have:g' b=some d:=by rw [hg];exact hd
        simp only [h1,this,e,cond_true,h3];rfl
    · cases h
  · cases h
theorem sT{g g':Nat→Option aC}{x:AV}{r:Nat×Nat×aC×List Bool×List Nat}(h:GW g x=some r)(hg:∀ b∈r.2.2.2.2,g' b=g b) :GW g' x=some r:=by
  unfold GW at h ⊢
  split at h
  · rename_i b w es i len cap
    split at h
    · rename_i d hd
      simp only [Option.map_eq_some_iff] at h
      obtain ⟨r',h1,rfl⟩:=h
      have:g' b=some d:=by rw [hg b (by simp)];exact hd
      simp only [this,h1];rfl
    · cases h
  · exact h
  · cases h
theorem GZ{P:Program}{g g':Nat→Option aC}{nid:Nat}{t:TypeId}{s x:AV}{r:List Dl×List Nat}(h:wT P g nid t s x=some r)(hg:∀ b∈r.2,g' b=g b) :wT P g' nid t s x=some r:=by
  unfold wT at h ⊢
  split at h
  case h_2=>cases h
  rename_i e ht
  split at h
  case h_2=>cases h
  rename_i inf hi
  split at h
  case h_2=>cases h
  rename_i z hz
  cases hzs:Nat.beq z.cells.size inf.size with
  | false=>rw [hzs] at h;cases h
  | true =>
  rw [hzs] at h
  simp only [cond_true] at h ⊢
  split at h
  · exact h
  · exact h
  · exact h
  · rename_i hx0
    split at h
    case h_2=>cases h
    rename_i m es nb obs rs hs
    cases hes:Nat.beq es inf.size with
    | false=>rw [hes] at h;cases h
    | true =>
    rw [hes] at h
    simp only [cond_true,Option.some.injEq] at h;subst h
    have:=sT (g':=g') hs hg
    simp only [this,hes,cond_true]
  · exact h
  · rename_i hx0
    split at h
    case h_2=>cases h
    rename_i m es nb obs rs hs
    cases hes:Nat.beq es inf.size with
    | false=>rw [hes] at h;cases h
    | true =>
    rw [hes] at h
    simp only [cond_true,Option.some.injEq] at h;subst h
    have:=sT (g':=g') hs hg
    simp only [this,hes,cond_true]
  · rename_i b w es len cap hx0 _
    split at h
    case h_2=>cases h
    rename_i d m es' nb obs rs hd hs
    cases hes:(Nat.beq es inf.size&&Nat.beq es' es) with
    | false=>rw [hes] at h;cases h
    | true =>
    rw [hes] at h
    simp only [cond_true] at h
    split at h
    case h_2=>cases h
    rename_i old obs' hsub
    simp only [Option.map_eq_some_iff] at h
    obtain ⟨d',happ,rfl⟩:=h
    have h1:=sT (g':=g') hs (fun b' hb=>hg b' (by simp only [List.mem_cons];exact .inr hb))
    have h2:g' b=some d:=by rw [hg b (by simp)];exact hd
    simp only [h1,h2,hes,cond_true,hsub,happ];rfl
  · cases h
mutual
theorem sU {σ:Nat→Option Nat} {g g':Nat→Option aC}:∀ (n:Nat) (v:AV),(∀ b∈(Bk σ g n v).2,g' b=g b)→Bk σ g' n v=Bk σ g n v
  | 0,_,_=>rfl
  | n + 1, v, h => by
    cases v<;>simp only [Bk] at h ⊢
    · rename_i b w i j
      cases hs:σ b with
      | some c=>rfl
      | none =>
      rw [hs] at h
      simp only at h ⊢
      have hb:g' b=g b:=by
        cases q:g b with
        | none=>rw [q] at h;have:=h b (by simp);rw [this,q]
        | some d=>rw [q] at h;have:=h b (by simp);rw [this,q]
      rw [hb]
      cases q:g b with
      | none=>rfl
      | some d =>
        rw [q] at h
        have:=EA (σ:=σ) (g:=g) (g':=g') n d (fun b' hb'=>h b' (by simp only [List.mem_cons];exact .inr hb'))
        simp only [this]
    · rename_i b w es i len cap
      cases hs:σ b with
      | some c=>rfl
      | none =>
      rw [hs] at h
      simp only at h ⊢
      have hb:g' b=g b:=by
        cases q:g b with
        | none=>rw [q] at h;have:=h b (by simp);rw [this,q]
        | some d=>rw [q] at h;have:=h b (by simp);rw [this,q]
      rw [hb]
      cases q:g b with
      | none=>rfl
      | some d =>
        rw [q] at h
        have:=EA (σ:=σ) (g:=g) (g':=g') n d (fun b' hb'=>h b' (by simp only [List.mem_cons];exact .inr hb'))
        simp only [this]
    · rename_i f l1 l2
      rw [nc n l1 (fun b hb=>h b (by simp [hb])),nc n l2 (fun b hb=>h b (by simp [hb]))]
    · rename_i l;rw [nc n l h]
    · rename_i l;rw [nc n l h]
    · rename_i t v;rw [sU n v h]
theorem nc {σ:Nat→Option Nat} {g g':Nat→Option aC}:∀ (n:Nat) (l:List AV),(∀ b∈(zS σ g n l).2,g' b=g b)→zS σ g' n l=zS σ g n l
  | 0,_,_=>rfl
  | n+1,[],_=>rfl
  | n+1,v::l,h=>by
    simp only [zS] at h ⊢
    rw [sU n v (fun b hb=>h b (by simp [hb])),nc n l (fun b hb=>h b (by simp [hb]))]
theorem EA {σ:Nat→Option Nat} {g g':Nat→Option aC}:∀ (n:Nat) (d:aC),(∀ b∈(yB σ g n d).2,g' b=g b)→yB σ g' n d=yB σ g n d
  | 0,_,_=>rfl
  | n+1,d,h=>by
    cases d<;>simp only [yB] at h ⊢
    rename_i l;rw [nc n l h]
end
theorem lS{σ:Nat→Option Nat}{g g':Nat→Option aC} :∀ (m:List Bool) (l:List AV),(∀ b∈(iz σ g m l).2,g' b=g b)→iz σ g' m l=iz σ g m l
  | m,[],_=>by cases m<;>rfl
  | true::m,v::l,h=>by
    simp only [iz] at h ⊢
    rw [lS m l h]
  | false::m,v::l,h=>by
    simp only [iz] at h ⊢
    rw [sU _ v (fun b hb=>h b (by simp [hb])),lS m l (fun b hb=>h b (by simp [hb]))]
  | [],v::l,h=>by
    simp only [iz] at h ⊢
    rw [sU _ v (fun b hb=>h b (by simp [hb])),lS [] l (fun b hb=>h b (by simp [hb]))]
theorem Bo{g:Nat→Option aC} :∀ (n:Nat) (t acc:List Nat),∀ b∈acc,b∈j9 g n t acc
  | 0,t,acc,b,h=>h
  | n+1,[],acc,b,h=>h
  | n+1,x::t,acc,b,h=>by
    simp only [j9]
    split
    · exact Bo n _ _ b h
    · exact Bo n _ _ b (by simp [h])
theorem vu{g g':Nat→Option aC} :∀ (n:Nat) (t acc:List Nat),(∀ b∈j9 g n t acc,g' b=g b)→j9 g' n t acc=j9 g n t acc
  | 0,t,acc,_=>rfl
  | n+1,[],acc,_=>rfl
  | n+1,x::t,acc,h=>by
    simp only [j9] at h ⊢
    split
    · rename_i e;rw [e] at h;exact vu n _ _ h
    · rename_i e
      rw [e] at h
      simp only at h
      have hx:g' x=g x:=h x (Bo n _ _ x (by simp))
      rw [hx]
      exact vu n _ _ h
theorem zY{σ:Nat→Option Nat}{g g':Nat→Option aC} :∀ (l:List Nat),(∀ b∈l,g' b=g b)→oT σ g' l=oT σ g l
  | [],_=>rfl
  | b::l,h=>by simp only [oT];rw [h b (by simp),zY l (fun x hx=>h x (by simp [hx]))]
theorem vv{g g':Nat→Option aC}{nid:Nat} :∀ (l:List Nat),(∀ b∈l,g' b=g b)→lR g' nid l=lR g nid l
  | [],_=>rfl
  | b::l,h=>by simp only [lR];rw [h b (by simp),vv l (fun x hx=>h x (by simp [hx]))]
theorem Lf{C:yD}{run:fI}{g g':Nat→Option aC}{nid:Nat}{p:fW}{fid:FuncId}{vals:List AV}{r:Wh}(h:H9 C run g nid p fid vals=some r)(hg:∀ b∈r.reads,g' b=g b) :H9 C run g' nid p fid vals=some r:=by
  have hreads:r.reads=j9 g gg (gq (lQ (C.mode fid).mask vals)) []++(iz (jX (j9 g gg (gq (lQ (C.mode fid).mask vals)) []) 0) g (C.mode fid).mask vals).2:=by
    unfold H9 at h
    simp only at h
    generalize (sR (j9 g gg (gq (lQ (C.mode fid).mask vals)) [])&&lR g nid (j9 g gg (gq (lQ (C.mode fid).mask vals)) []))=c at h
    cases c with
    | false=>cases h
    | true =>
      simp only [cond_true] at h
      split at h
      case h_2=>cases h
      rename_i r' obs p' hl
      cases hle:Nat.ble r'.own.length ((j9 g gg (gq (lQ (C.mode fid).mask vals)) []).length+oB) with
      | false=>rw [hle] at h;cases h
      | true=>rw [hle] at h;simp only [cond_true,Option.some.injEq] at h;rw [←h]
  rw [hreads] at hg
  have e1:=vu (g:=g) (g':=g') gg (gq (lQ (C.mode fid).mask vals)) [] (fun b hb=>hg b (by simp [hb]))
  have e2:=lS (σ:=jX (j9 g gg (gq (lQ (C.mode fid).mask vals)) []) 0) (g:=g) (g':=g') (C.mode fid).mask vals (fun b hb=>hg b (by simp [hb]))
  have e3:=zY (σ:=jX (j9 g gg (gq (lQ (C.mode fid).mask vals)) []) 0) (g:=g) (g':=g') (j9 g gg (gq (lQ (C.mode fid).mask vals)) []) (fun b hb=>hg b (by simp [hb]))
  have e4:=vv (nid:=nid) (g:=g) (g':=g') (j9 g gg (gq (lQ (C.mode fid).mask vals)) []) (fun b hb=>hg b (by simp [hb]))
  unfold H9 at h ⊢
  simp only at h ⊢
  rw [e1,e2,e3,e4]
  exact h
theorem Lg{P:Program}{g g':Nat→Option aC}{t:TypeId}{s x:AV}{r:Nat×Nat×aC×List Bool×List Nat}(h:H7 P g t s x=some r)(hg:∀ b∈r.2.2.2.2,g' b=g b) :H7 P g' t s x=some r:=by
  unfold H7 at h ⊢
  split at h
  case h_2=>cases h
  rename_i e b w es i len cap ht
  split at h
  case h_2=>cases h
  rename_i inf blk m es' nb obs rs hi hb hsrc
  have hr:r.2.2.2.2=b::rs:=by
    cases h1:Nat.beq inf.size 1&&Nat.beq es' 1 with
    | false=>rw [h1] at h;cases h
    | true =>
      rw [h1] at h
      simp only [cond_true] at h
      split at h
      case h_2=>cases h
      rename_i l hl
      cases h2:gP l with
      | false=>rw [h2] at h;cases h
      | true =>
        rw [h2] at h
        simp only [cond_true,Option.map_eq_some_iff] at h
        obtain ⟨_,_,rfl⟩:=h
        rfl
  have q1:g' b=some blk:=by rw [hg b (by rw [hr];simp)];exact hb
  have q2:=sT hsrc (g':=g') (fun c hc=>hg c (by rw [hr];exact List.mem_cons_of_mem _ hc))
  rw [hi,q1,q2]
  exact h
theorem RK{C:yD}{run:fI}{e e':Operand→AV}{g g':Nat→Option aC}{nid:Nat}{p:fW}{op:Op}{r:Wh}(h:VA C run e g nid p op=some r)(he:∀ x∈op.operands,e' x=e x)(hg:∀ b∈r.reads,g' b=g b) :
    VA C run e' g' nid p op=some r:=by
  unfold VA at h ⊢
  rw [Js he]
  split at h
  · exact h
  · rename_i hp
    clear hp
    split at h
    all_goals simp only [Op.operands,Call.operands] at he
    · rename_i t x
      simp only [Option.map_eq_some_iff] at h ⊢
      obtain ⟨r',h1,rfl⟩:=h
      exact ⟨r',by rw [he x (by simp)];exact Le h1 hg,rfl⟩
    · rename_i t x v
      simp only [Option.map_eq_some_iff] at h ⊢
      obtain ⟨r',h1,rfl⟩:=h
      exact ⟨r',by rw [he x (by simp),he v (by simp)];exact Jt h1 (hg _ (by simp)),rfl⟩
    · exact h
    · rename_i t x;rw [he x (by simp)];exact h
    · rename_i t l c;rw [he l (by simp),he c (by simp)];exact h
    · rename_i t parts
      have:(parts.toList.map fun x=>(x.1,e' x.2))=(parts.toList.map fun x=>(x.1,e x.2)):=List.map_congr_left fun x hx=>by rw [he x.2 (by simp;exact ⟨x.1,by simpa using hx⟩)]
      rw [this];exact h
    · rename_i t len parts
      have:(parts.toList.map fun x=>(x.1,e' x.2))=(parts.toList.map fun x=>(x.1,e x.2)):=List.map_congr_left fun x hx=>by rw [he x.2 (by simp;exact ⟨x.1,by simpa using hx⟩)]
      rw [this];exact h
    · rename_i args ats
      split at h
      case h_2=>cases h
      rename_i s x t t' e1 e2
      cases ht:Nat.beq t t' with
      | false=>rw [ht] at h;cases h
      | true =>
      rw [ht] at h
      simp only [cond_true] at h ⊢
      have ea:args = #[s,x]:=by rw [←e1]
      subst ea
      rw [he s (by simp),he x (by simp)]
      split at h
      case h_2=>cases h
      rename_i alts rs ha
      simp only [Option.map_eq_some_iff] at h ⊢
      obtain ⟨r',h1,rfl⟩:=h
      have:=GZ (g':=g') ha hg
      simp only [this,Option.map_eq_some_iff]
      exact ⟨r',h1,rfl⟩
    · rename_i args ats
      split at h
      case h_2=>cases h
      rename_i s x t t' e1 e2
      have ea:args = #[s,x]:=by rw [←e1]
      subst ea
      rw [he s (by simp),he x (by simp)]
      simp only [Option.map_eq_some_iff] at h ⊢
      obtain ⟨r',h1,rfl⟩:=h
      exact ⟨r',Lg h1 hg,rfl⟩
    · rename_i f args ats
      have hf:e' f=e f:=he f (by simp)
      have hargs:args.toList.map e'=args.toList.map e:=List.map_congr_left fun x hx=>he x (by simp at hx;simp [hx])
      split at h
      case h_2=>cases h
      rename_i fid l hca
      have:zT e' f args=some (fid,l):=by
        unfold zT at hca ⊢
        rw [hf,hargs];exact hca
      simp only [this]
      split at h
      · exact h
      · exact Lf h hg
    · cases h
def OC(l:List Operand) :List Nat:=l.filterMap fun | .tmp t=>some t | _=>none
def pz(ops:Array Oper)(o:Oper) :List Nat :=
  (match o.dst with | some d=>[d] | none=>[])++(OC o.op.operands.toList++(match o.guard with | some (j,_)=>(match wW ops j with | some d=>[d] | none=>[]) | none=>[]))
def nh(s:List (Nat×Option aC)) :List Nat:=s.map Prod.fst
def wZ(ms:List Nat)(o:Oper) :Nat:=o.after.toList.foldl (fun m e=>bif Region.binds .any e then m ||| (2^e.on ||| ms.getD e.on 0) else m) 0
def SP(x:Nat) :List Nat→Bool
  | []=>false
  | y::l=>Nat.beq x y||SP x l
def OD:List Nat→List Nat→Bool
  | [],_=>true
  | x::l,m=>!SP x m&&OD l m
theorem Lh{x:Nat} :∀ {l:List Nat},SP x l=true↔x∈l
  | []=>by simp [SP]
  | y::l=>by simp [SP,Lh (l:=l)]
theorem w5{l m:List Nat}(h:OD l m=true) :∀ x,x∈l→x∈m→False:=by
  induction l with
  | nil=>intro x hx;cases hx
  | cons y l ih =>
    simp only [OD,Bool.and_eq_true,Bool.not_eq_true'] at h
    intro x hx hm
    rcases List.mem_cons.1 hx with rfl | hx
    · have:=Lh.2 hm;rw [this] at h;cases h.1
    · exact ih h.2 x hx hm
def mV(ops:Array Oper)(o:Oper)(r:wV)(o':Oper)(r':wV) :Bool :=
  OD o.dst.toList (pz ops o')&&(OD o'.dst.toList (pz ops o)&&(OD (nh r.sets) (r'.reads++nh r'.sets)&&OD (nh r'.sets) (r.reads++nh r.sets)))
def vw(ops:Array Oper)(mask:Nat)(o':Oper)(r':wV) :Nat→List (Oper×wV)→Bool
  | _,[]=>true
  | i,x::l=>(mask.testBit i||mV ops x.1 x.2 o' r')&&vw ops mask o' r' (i+1) l
def EB(ops:Array Oper) :List (Oper×wV)→List Nat→List (Oper×wV)→Bool
  | _,_,[]=>true
  | pre,ms,x::l =>
    x.1.after.toList.all (fun e=>!Region.binds .any e||Nat.blt e.on pre.length) &&
    (vw ops (wZ ms x.1) x.1 x.2 0 pre&&EB ops (pre++[x]) (ms++[wZ ms x.1]) l)
def lI(L:Nat→Bool) :Nat→List (Oper×wV)→List AV×bU→List AV×bU
  | _,[],s=>s
  | i,x::l,s=>lI L (i+1) l (bif L i then (zV s.1 x.1.dst x.2.v,cT x.2.sets s.2) else s)
theorem zZ(T:List AV)(d:Option Nat)(v:AV)(t:Nat) :(zV T d v)[t]? = if d=some t then (T[t]?).map (fun _=>v) else T[t]?:=by
  cases d with
  | none=>simp [zV]
  | some d =>
    simp only [zV,Option.some.injEq]
    rw [List.getElem?_set]
    by_cases h:d=t
    · subst h
      simp only [if_true]
      by_cases hl:d<T.length
      · simp [hl]
      · simp [hl]
    · simp [h]
theorem n6{h h':bU}{b:Nat} :∀ (s:List (Nat×Option aC)) {h h':bU},aV h b=aV h' b→aV (cT s h) b=aV (cT s h') b
  | [],_,_,e=>e
  | (c,some d)::s,h,h',e=>by
    simp only [cT]
    exact n6 (h:=h) (h':=h') s (by rw [dr,dr,e])
  | (c,none)::s,h,h',e=>by
    simp only [cT]
    exact n6 (h:=h) (h':=h') s (by rw [m8,m8,e])
theorem n7{b:Nat} :∀ (s:List (Nat×Option aC)) {h:bU},b ∉ nh s→aV (cT s h) b=aV h b
  | [],_,_=>rfl
  | (c,some d)::s,h,hb=>by
    simp only [nh,List.map_cons,List.mem_cons,not_or] at hb
    simp only [cT]
    rw [n7 s hb.2,dr,if_neg (fun e=>hb.1 e.symm)]
  | (c,none)::s,h,hb=>by
    simp only [nh,List.map_cons,List.mem_cons,not_or] at hb
    simp only [cT]
    rw [n7 s hb.2,m8,if_neg (fun e=>hb.1 e.symm)]
theorem Ju{L L':Nat→Bool}{t:Nat} :∀ (l:List (Oper×wV)) (i:Nat) {s s':List AV×bU},(∀ k x,l[k]? = some x→x.1.dst=some t→L (i+k)=L' (i+k))→s.1[t]? = s'.1[t]?→(lI L i l s).1[t]? = (lI L' i l s').1[t]?
  | [],_,_,_,_,e=>e
  | x::l,i,s,s',h,e=>by
    simp only [lI]
    refine Ju l (i+1) (fun k y hy hd=>by have:=h (k+1) y (by simpa using hy) hd;rw [show i+1+k=i+(k+1) from by omega];exact this) ?_
    by_cases hd:x.1.dst=some t
    · have:=h 0 x (by simp) hd
      simp only [Nat.add_zero] at this
      rw [this]
      cases L' i with
      | true=>simp only [cond_true,zZ,hd,if_true,e]
      | false=>exact e
    · cases L i<;>cases L' i<;>simp only [cond_true,cond_false,zZ,if_neg hd,e]
theorem Jv{L L':Nat→Bool}{b:Nat} :∀ (l:List (Oper×wV)) (i:Nat) {s s':List AV×bU},(∀ k x,l[k]? = some x→b∈nh x.2.sets→L (i+k)=L' (i+k))→aV s.2 b=aV s'.2 b→aV (lI L i l s).2 b=aV (lI L' i l s').2 b
  | [],_,_,_,_,e=>e
  | x::l,i,s,s',h,e=>by
    simp only [lI]
    refine Jv l (i+1) (fun k y hy hd=>by have:=h (k+1) y (by simpa using hy) hd;rw [show i+1+k=i+(k+1) from by omega];exact this) ?_
    by_cases hd:b∈nh x.2.sets
    · have:=h 0 x (by simp) hd
      simp only [Nat.add_zero] at this
      rw [this]
      cases L' i with
      | true=>simp only [cond_true];exact n6 (h:=s.2) (h':=s'.2) _ e
      | false=>exact e
    · cases L i<;>cases L' i<;>simp only [cond_true,cond_false,n7 _ hd,e]
def cH:List (Oper×wV)→List AV×bU→List AV×bU
  | [],s=>s
  | x::l,s=>cH l (zV s.1 x.1.dst x.2.v,cT x.2.sets s.2)
theorem EC(l m:List (Oper×wV))(s:List AV×bU) :cH (l++m) s=cH m (cH l s):=by
  induction l generalizing s with
  | nil=>rfl
  | cons x l ih=>simp only [List.cons_append,cH,ih]
theorem D0:∀ (l:List (Oper×wV)) (i j:Nat) (s:List AV×bU),lI (fun k=>decide (k<i+j)) i l s=cH (l.take j) s
  | [],i,j,s=>by simp [lI,cH]
  | x::l,i,0,s=>by
    have:∀ (l:List (Oper×wV)) (i':Nat),i≤i'→∀ s,lI (fun k=>decide (k<i+0)) i' l s=s:=by
      intro l
      induction l with
      | nil=>intro _ _ s;rfl
      | cons y l ih =>
        intro i' hi s
        simp only [lI]
        have:decide (i'<i+0)=false:=by simp;omega
        rw [this];exact ih (i'+1) (by omega) s
    simp only [List.take_zero,cH]
    exact this _ i (Nat.le_refl _) s
  | x::l,i,j+1,s=>by
    simp only [lI,List.take_succ_cons,cH]
    have h1:decide (i<i+(j+1))=true:=by simp
    rw [h1]
    simp only [cond_true]
    have:=D0 l (i+1) j (zV s.1 x.1.dst x.2.v,cT x.2.sets s.2)
    rw [show i+1+j=i+(j+1) from by omega] at this
    exact this
structure SQ (ops:Array Oper) (l:List (Oper×wV)) (ms:List Nat):Prop where
  edge:∀ (j:Nat) (x:Oper×wV),l[j]? = some x→∀ e∈x.1.after,Region.binds .any e=true→e.on<j
  mask:∀ (j:Nat) (x:Oper×wV),l[j]? = some x→∃ m:Nat,ms[j]? = some m∧∀ i:Nat,m.testBit i=true→∃ e∈x.1.after,Region.binds .any e=true∧(e.on=i∨∃ m':Nat,ms[e.on]? = some m'∧m'.testBit i=true)
  pair:∀ (i j:Nat) (x y:Oper×wV),l[i]? = some x→l[j]? = some y→i<j→(∃ m:Nat,ms[j]? = some m∧m.testBit i=true)∨mV ops x.1 x.2 y.1 y.2=true
theorem ED(ms:List Nat) :∀ (es:List Edge) (m0 i:Nat),(es.foldl (fun m e=>bif Region.binds .any e then m ||| (2^e.on ||| ms.getD e.on 0) else m) m0).testBit i=true →
    m0.testBit i=true∨∃ e∈es,Region.binds .any e=true∧(e.on=i∨(ms.getD e.on 0).testBit i=true)
  | [],m0,i,h=>.inl h
  | e::es,m0,i,h=>by
    simp only [List.foldl_cons] at h
    rcases ED ms es _ i h with h | ⟨e',h1,h2,h3⟩
    · cases hb:Region.binds .any e with
      | false=>rw [hb] at h;exact .inl h
      | true =>
        rw [hb] at h
        simp only [cond_true,Nat.testBit_or,Bool.or_eq_true,Nat.testBit_two_pow,decide_eq_true_eq] at h
        rcases h with h | h | h
        · exact .inl h
        · exact .inr ⟨e,by simp,hb,.inl h⟩
        · exact .inr ⟨e,by simp,hb,.inr h⟩
    · exact .inr ⟨e',by simp [h1],h2,h3⟩
theorem xT{ops:Array Oper}{mask:Nat}{o':Oper}{r':wV} :∀ {l:List (Oper×wV)} {i:Nat},vw ops mask o' r' i l=true→∀ k x,l[k]? = some x→mask.testBit (i+k)=true∨mV ops x.1 x.2 o' r'=true
  | [],_,_,k,x,h=>by simp at h
  | y::l,i,h,0,x,hx=>by
    simp only [vw,Bool.and_eq_true,Bool.or_eq_true] at h
    simp at hx;subst hx;simpa using h.1
  | y::l,i,h,k+1,x,hx=>by
    simp only [vw,Bool.and_eq_true,Bool.or_eq_true] at h
    have:=xT h.2 k x (by simpa using hx)
    rw [show i+1+k=i+(k+1) from by omega] at this;exact this
theorem CB{ops:Array Oper} :∀ (l pre:List (Oper×wV)) (ms:List Nat),ms.length=pre.length→EB ops pre ms l=true→SQ ops pre ms→∃ ms',SQ ops (pre++l) ms'
  | [],pre,ms,_,_,D=>⟨ms,by simpa using D⟩
  | x::l,pre,ms,hl,h,D=>by
    simp only [EB,Bool.and_eq_true] at h
    obtain ⟨h1,h2,h3⟩:=h
    have:=CB l (pre++[x]) (ms++[wZ ms x.1]) (by simp [hl]) h3 ?_
    · simpa using this
    have old:∀ (j:Nat) (y:Oper×wV),(pre++[x])[j]? = some y→(j<pre.length∧pre[j]? = some y)∨(j=pre.length∧y=x):=by
      intro j y hy
      rw [List.getElem?_append] at hy
      split at hy
      · rename_i q;exact .inl ⟨q,hy⟩
      · rename_i q
        have:j-pre.length=0:=by
          rcases Nat.eq_zero_or_pos (j-pre.length) with r | r
          · exact r
          · rw [List.getElem?_eq_none (by simp;omega)] at hy;cases hy
        rw [this] at hy;simp at hy;exact .inr ⟨by omega,hy.symm⟩
    have msl:∀ (j m:Nat),ms[j]? = some m→(ms++[wZ ms x.1])[j]? = some m:=by
      intro j m hm
      rw [List.getElem?_append_left (List.getElem?_eq_some_iff.1 hm).1];exact hm
    have msn:(ms++[wZ ms x.1])[pre.length]? = some (wZ ms x.1):=by
      rw [←hl,List.getElem?_append_right (Nat.le_refl _)];simp
    have hedge:∀ e∈x.1.after,Region.binds .any e=true→e.on<pre.length:=by
      intro e he hb
      have:=List.all_eq_true.1 h1 e (by simpa using he)
      rw [hb] at this
      simpa [Nat.blt_eq] using this
    refine ⟨fun j y hy=>?_,fun j y hy=>?_,fun i j a b ha hb hij=>?_⟩
    · rcases old j y hy with ⟨q,hy⟩ | ⟨rfl,rfl⟩
      · exact D.edge j y hy
      · exact hedge
    · rcases old j y hy with ⟨q,hy⟩ | ⟨rfl,rfl⟩
      · obtain ⟨m,k1,k2⟩:=D.mask j y hy
        refine ⟨m,msl j m k1,fun i hi=>?_⟩
        obtain ⟨e,e1,e2,e3⟩:=k2 i hi
        exact ⟨e,e1,e2,e3.imp id fun ⟨m',q1,q2⟩=>⟨m',msl _ m' q1,q2⟩⟩
      · refine ⟨_,msn,fun i hi=>?_⟩
        rcases ED ms y.1.after.toList 0 i hi with q | ⟨e,e1,e2,e3⟩
        · simp at q
        · refine ⟨e,by simpa using e1,e2,e3.imp id fun q=>?_⟩
          rw [List.getD_eq_getElem?_getD] at q
          cases hm:ms[e.on]? with
          | none=>rw [hm] at q;simp at q
          | some m'=>rw [hm] at q;exact ⟨m',msl _ m' hm,q⟩
    · rcases old j b hb with ⟨q,hb⟩ | ⟨rfl,rfl⟩
      · rcases old i a ha with ⟨q',ha⟩ | ⟨rfl,rfl⟩
        · exact (D.pair i j a b ha hb hij).imp (fun ⟨m,k1,k2⟩=>⟨m,msl j m k1,k2⟩) id
        · omega
      · rcases old i a ha with ⟨q',ha⟩ | ⟨rfl,rfl⟩
        · have:=xT h2 i a ha
          rw [Nat.zero_add] at this
          exact this.imp (fun k=>⟨_,msn,k⟩) id
        · omega
theorem OE{l:List Operand}{t:Nat}(h:Operand.tmp t∈l) :t∈OC l:=by
  simp only [OC,List.mem_filterMap];exact ⟨_,h,rfl⟩
theorem Li{C:yD}{run:fI}{ops:Array Oper}{n0 i:Nat}{o:Oper}{T T':List AV}{h h':bU}{p p':fW}{r:wV}{obs:List Bool}(hr:zU C run ops n0 i o T h p=some (r,obs,p')) 
    (hT:∀ t∈pz ops o,T'[t]? = T[t]?) (hh:∀ b∈r.reads,aV h' b=aV h b):zU C run ops n0 i o T' h' p=some (r,obs,p'):=by
  have hw:wX ops o T'=wX ops o T:=by
    unfold wX
    cases hg:o.guard with
    | none=>rfl
    | some x =>
      obtain ⟨j,want⟩:=x
      simp only
      cases hs:wW ops j with
      | none=>rfl
      | some d=>simp only;rw [hT d (by simp [pz,hg,hs])]
  unfold zU at hr ⊢
  rw [hw]
  split at hr
  · cases hr
  · exact hr
  · split at hr
    · cases hr
    · rename_i r' hop
      have:VA C run (Uw T') (aV h') (n0+i*oB) p o.op=some r':=by
        refine RK hop (fun x hx=>?_) (fun b hb=>?_)
        · cases x with
          | tmp t=>simp only [Uw];rw [hT t (by simp only [pz,List.mem_append];exact .inr (.inl (OE (by simpa using hx))))]
          | _=>rfl
        · apply hh
          split at hr
          · cases hr
          · simp only [Option.some.injEq,Prod.mk.injEq] at hr;rw [←hr.1];exact hb
      simp only [this]
      exact hr
def EE(C:yD)(run:fI)(ops:Array Oper)(n0:Nat) :Nat→List Oper→List AV→bU→fW→Option (List wV×List AV×bU×List Bool×fW)
  | _,[],T,h,p=>some ([],T,h,[],p)
  | i,o::l,T,h,p =>
    match zU C run ops n0 i o T h p with
    | none=>none
    | some (r,obs,p') =>
      match EE C run ops n0 (i+1) l (zV T o.dst r.v) (cT r.sets h) p' with
      | none=>none
      | some (rs,T',h',obs',p'')=>some (r::rs,T',h',obs++obs',p'')
theorem CC{C:yD}{run:fI}{ops:Array Oper}{n0:Nat} :∀ (l:List Oper) (i:Nat) {T T':List AV} {h h':bU} {p p':fW} {obs:List Bool} {rs:List wV},EE C run ops n0 i l T h p=some (rs,T',h',obs,p')→aB obs →
    rs.length=l.length∧cH (l.zip rs) (T,h)=(T',h')∧∀ (j:Nat) (o:Oper),l[j]? = some o→∃ r obs' q q',rs[j]? = some r∧aB obs' ∧
      zU C run ops n0 (i+j) o (cH ((l.zip rs).take j) (T,h)).1 (cH ((l.zip rs).take j) (T,h)).2 q=some (r,obs',q')
  | [],i,T,T',h,h',p,p',obs,rs,hr,_=>by
    simp only [EE,Option.some.injEq,Prod.mk.injEq] at hr;obtain ⟨rfl,rfl,rfl,rfl,rfl⟩:=hr
    exact ⟨rfl,rfl,fun j o h=>by simp at h⟩
  | o::l,i,T,T',h,h',p,p',obs,rs,hr,ho=>by
    simp only [EE] at hr
    split at hr
    case h_1=>cases hr
    rename_i r obs1 p1 h1
    split at hr
    case h_1=>cases hr
    rename_i rs2 T2 h2 obs2 p2 h3
    simp only [Option.some.injEq,Prod.mk.injEq] at hr;obtain ⟨rfl,rfl,rfl,rfl,rfl⟩:=hr
    rw [a5] at ho
    obtain ⟨a1,a2,a3⟩:=CC l (i+1) h3 ho.2
    refine ⟨by simp [a1],by simpa [cH] using a2,fun j o' hj=>?_⟩
    cases j with
    | zero=>simp at hj;subst hj;exact ⟨r,obs1,p,p1,by simp,ho.1,by simpa [cH] using h1⟩
    | succ j =>
      obtain ⟨r',ob,q,q',b1,b2,b3⟩:=a3 j o' (by simpa using hj)
      refine ⟨r',ob,q,q',by simpa using b1,b2,?_⟩
      rw [show i+(j+1)=i+1+j from by omega]
      simpa [cH] using b3
theorem Ib{p q:Nat→Bool} :∀ {l:List Nat} {j:Nat},j∈l→p j=true→q j=false→(∀ i,q i=true→p i=true)→l.countP q<l.countP p
  | [],_,h,_,_,_=>by cases h
  | x::l,j,h,hp,hq,hi=>by
    have mono:∀ l:List Nat,l.countP q≤l.countP p:=fun l=>List.countP_mono_left fun x _=>hi x
    simp only [List.countP_cons]
    rcases List.mem_cons.1 h with rfl | h
    · rw [hp,hq];have:=mono l;simp;omega
    · have:=Ib h hp hq hi
      by_cases hx:q x=true
      · rw [hx,hi x hx];omega
      · have hq':q x=false:=by simpa using hx
        rw [hq'];simp only [Bool.false_eq_true,if_false];split<;>omega
theorem Uz{i j y:Nat}(h1:i*oB≤y)(h2:y<i*oB+oB)(h3:j*oB≤y)(h4:y<j*oB+oB) :i=j:=by
  have hS:0<oB:=by decide
  have a:y/oB=i:=by rw [Nat.div_eq_iff hS];omega
  have b:y/oB=j:=by rw [Nat.div_eq_iff hS];omega
  omega
theorem SS{C:yD}(hC:C.Ok){run:fI}(hrun:Ew C.P run){ops:Array Oper}{n0:Nat}{T0:List AV}{h0:bU}{rs:List wV}{ms:List Nat}(D:SQ ops (ops.toList.zip rs) ms)(hlen:rs.length=ops.size) 
    (each:∀ (j:Nat) (o:Oper),ops.toList[j]? = some o→∃ r obs' q q',rs[j]? = some r∧aB obs' ∧
      zU C run ops n0 j o (cH ((ops.toList.zip rs).take j) (T0,h0)).1 (cH ((ops.toList.zip rs).take j) (T0,h0)).2 q=some (r,obs',q'))
    {Q:Exit→Act→World→Prop}:∀ (fuel:Nat) (listed:Array Bool),listed.size=ops.size→(∀ (j:Nat) (o:Oper),ops[j]? = some o→listed.getD j false=true→∀ e∈o.after,Region.binds .any e=true→listed.getD e.on false=true) →
      (List.range ops.size).countP (fun i=>!listed.getD i false)≤fuel→∀ {ρ:ak} {w:World} {a:Act},HR ρ w (lI (fun i=>listed.getD i false) 0 (ops.toList.zip rs) (T0,h0)).2 (n0+ops.size*oB) →
      (∀ b,ρ.ok b→b<n0∨∃ i,listed.getD i false=true∧n0+i*oB≤b∧b<n0+i*oB+oB)→a.defers=[]→dT ρ w (lI (fun i=>listed.getD i false) 0 (ops.toList.zip rs) (T0,h0)).1 a.tmps.toList →
      (∀ ρ' w' a',lH ρ ρ' w→iu ρ.live w w'→HR ρ' w' (cH (ops.toList.zip rs) (T0,h0)).2 (n0+ops.size*oB)→a'.defers=[]→dT ρ' w' (cH (ops.toList.zip rs) (T0,h0)).1 a'.tmps.toList→(∀ b,ρ'.ok b→ρ.ok b∨n0≤b)→Q .normal a' w') →
      wpAny C.P .any ops Q fuel listed a w:=by
  have hzl:(ops.toList.zip rs).length=ops.size:=by simp [hlen]
  have zget:∀ (j:Nat) (o:Oper) (r:wV),ops[j]? = some o→rs[j]? = some r→(ops.toList.zip rs)[j]? = some (o,r):=by
    intro j o r h1 h2
    rw [List.getElem?_zip_eq_some];exact ⟨by simpa using h1,h2⟩
  have zinv:∀ (j:Nat) (x:Oper×wV),(ops.toList.zip rs)[j]? = some x→ops[j]? = some x.1∧rs[j]? = some x.2:=by
    intro j x hx
    have:=List.getElem?_zip_eq_some.1 (show (ops.toList.zip rs)[j]? = some (x.1,x.2) from hx)
    exact ⟨by simpa using this.1,this.2⟩

  have allL:∀ (listed:Array Bool),listed.size=ops.size→(∀ i,i<ops.size→listed.getD i false=true)→lI (fun i=>listed.getD i false) 0 (ops.toList.zip rs) (T0,h0)=cH (ops.toList.zip rs) (T0,h0):=by
    intro listed hs hall
    have:∀ (l:List (Oper×wV)) (i:Nat) (s:List AV×bU),i+l.length≤ops.size→lI (fun i=>listed.getD i false) i l s=cH l s:=by
      intro l
      induction l with
      | nil=>intro _ _ _;rfl
      | cons x l ih =>
        intro i s hi
        simp only [List.length_cons] at hi
        simp only [lI,cH]
        rw [hall i (by omega)]
        exact ih (i+1) _ (by omega)
    exact this _ 0 _ (by rw [hzl];omega)

  have down:∀ (listed:Array Bool),(∀ (j:Nat) (o:Oper),ops[j]? = some o→listed.getD j false=true→∀ e∈o.after,Region.binds .any e=true→listed.getD e.on false=true) →
      ∀ (j:Nat) (o:Oper),ops[j]? = some o→(∀ e∈o.after,Region.binds .any e=true→listed.getD e.on false=true)→∀ (i m:Nat),ms[j]? = some m→m.testBit i=true→listed.getD i false=true:=by
    intro listed hcl j
    induction j using Nat.strongRecOn with
    | _ j ih =>
      intro o ho hpre i m hm hbit
      have hlt:j<ops.size:=(Array.getElem?_eq_some_iff.1 ho).1
      obtain ⟨r,hr⟩:∃ r,rs[j]? = some r:=⟨rs[j]'(by omega),List.getElem?_eq_getElem (by omega)⟩
      have hz:=zget j o r ho hr
      obtain ⟨m',k1,k2⟩:=D.mask j _ hz
      rw [hm] at k1;cases k1
      obtain ⟨e,e1,e2,e3⟩:=k2 i hbit
      have hL:=hpre e e1 e2
      rcases e3 with rfl | ⟨m'',q1,q2⟩
      · exact hL
      · have hej:=D.edge j _ hz e e1 e2
        have hon:e.on<ops.size:=by omega
        exact ih e.on hej _ (Array.getElem?_eq_getElem hon) (hcl e.on _ (Array.getElem?_eq_getElem hon) hL) i m'' q1 q2
  intro fuel
  induction fuel with
  | zero =>
    intro listed hs hcl hcnt ρ w a hh hok hd hT hQ
    have hall:∀ i,i<ops.size→listed.getD i false=true:=by
      intro i hi
      have h0:=List.countP_eq_zero.1 (Nat.le_zero.1 hcnt) i (List.mem_range.2 hi)
      simpa using h0
    simp only [wpAny]
    refine ⟨?_,?_⟩
    · cases hr:Region.ready .any ops listed with
      | nil=>rfl
      | cons x xs =>
        have hx:x∈Region.ready .any ops listed:=by rw [hr];simp
        obtain ⟨k1,o,k2,_⟩:=mem_ready.1 hx
        have hlt:x<ops.size:=(Array.getElem?_eq_some_iff.1 k2).1
        have:=hall x hlt
        rw [Array.getD_eq_getD_getElem?,Array.getElem?_eq_getElem (by omega)] at this k1
        simp only [Option.getD_some] at this k1
        rw [this] at k1;cases k1
    · rw [allL listed hs hall] at hh hT
      exact hQ ρ w a (lH.refl _ _) (iu.refl _ _) hh hd hT (fun b q=>.inl q)
  | succ fuel ih =>
    intro listed hs hcl hcnt ρ w a hh hok hd hT hQ
    simp only [wpAny]
    have sameD:∀ j,j<ops.size→listed.getD j true=listed.getD j false:=by
      intro j hj
      rw [Array.getD_eq_getD_getElem?,Array.getD_eq_getD_getElem?,Array.getElem?_eq_getElem (by omega)];rfl
    refine ⟨fun hr=>?_,fun j hj=>?_⟩
    · have hall:∀ i,i<ops.size→listed.getD i false=true:=by
        intro i
        induction i using Nat.strongRecOn with
        | _ i ihi =>
          intro hi
          cases hl:listed.getD i false with
          | true=>rfl
          | false =>
            have ho:=Array.getElem?_eq_getElem hi
            obtain ⟨r,hrr⟩:∃ r,rs[i]? = some r:=⟨rs[i]'(by omega),List.getElem?_eq_getElem (by omega)⟩
            have hz:=zget i _ r ho hrr
            have:i∈Region.ready .any ops listed:=mem_ready.2 ⟨by rw [sameD i hi];exact hl,_,ho,fun e he hb=>ihi e.on (D.edge i _ hz e he hb) (by have:=D.edge i _ hz e he hb;omega)⟩
            rw [hr] at this;cases this
      rw [allL listed hs hall] at hh hT
      exact hQ ρ w a (lH.refl _ _) (iu.refl _ _) hh hd hT (fun b q=>.inl q)
    · obtain ⟨k1,o,ho,hpre⟩:=mem_ready.1 hj
      have hlt:j<ops.size:=(Array.getElem?_eq_some_iff.1 ho).1
      rw [sameD j hlt] at k1
      obtain ⟨r,obs',q,q',hr,hob,hone⟩:=each j o (by simpa using ho)
      have hz:=zget j o r ho hr

      have agree:∀ (i:Nat) (x:Oper×wV),(ops.toList.zip rs)[i]? = some x→i≠j→mV ops x.1 x.2 o r=false→mV ops o r x.1 x.2=false→listed.getD i false=decide (i<j):=by
        intro i x hx hne n1 n2
        have hxi:=zinv i x hx
        rcases Nat.lt_or_gt_of_ne hne with hij | hij
        · rcases D.pair i j x (o,r) hx hz hij with ⟨m,hm,hb⟩ | hap
          · rw [down listed hcl j o ho hpre i m hm hb];simp [hij]
          · simp only at hap;rw [n1] at hap;cases hap
        · rcases D.pair j i (o,r) x hz hx hij with ⟨m,hm,hb⟩ | hap
          · have : ¬ i<j:=by omega
            simp only [this,decide_false]
            cases hl:listed.getD i false with
            | false=>rfl
            | true =>
              have:=down listed hcl i x.1 hxi.1 (hcl i x.1 hxi.1 hl) j m hm hb
              rw [k1] at this;cases this
          · simp only at hap;rw [n2] at hap;cases hap
      have napT:∀ (x:Oper×wV) (t:Nat),x.1.dst=some t→t∈pz ops o→mV ops x.1 x.2 o r=false∧mV ops o r x.1 x.2=false:=by
        intro x t hdst ht
        constructor
        · cases hap:mV ops x.1 x.2 o r with
          | false=>rfl
          | true=>simp only [mV,Bool.and_eq_true] at hap;exact (w5 hap.1 t (by simp [hdst]) ht).elim
        · cases hap:mV ops o r x.1 x.2 with
          | false=>rfl
          | true=>simp only [mV,Bool.and_eq_true] at hap;exact (w5 hap.2.1 t (by simp [hdst]) ht).elim
      have napH:∀ (x:Oper×wV) (b:Nat),b∈nh x.2.sets→b∈r.reads++nh r.sets→mV ops x.1 x.2 o r=false∧mV ops o r x.1 x.2=false:=by
        intro x b hx hb
        constructor
        · cases hap:mV ops x.1 x.2 o r with
          | false=>rfl
          | true=>simp only [mV,Bool.and_eq_true] at hap;exact (w5 hap.2.2.1 b hx hb).elim
        · cases hap:mV ops o r x.1 x.2 with
          | false=>rfl
          | true=>simp only [mV,Bool.and_eq_true] at hap;exact (w5 hap.2.2.2 b hx hb).elim
      have eqT:∀ t∈pz ops o,(lI (fun i=>listed.getD i false) 0 (ops.toList.zip rs) (T0,h0)).1[t]? = (cH ((ops.toList.zip rs).take j) (T0,h0)).1[t]?:=by
        intro t ht
        have:=D0 (ops.toList.zip rs) 0 j (T0,h0)
        rw [←this]
        refine Ju _ 0 (fun k x hx hdst=>?_) rfl
        rw [Nat.zero_add,Nat.zero_add]
        by_cases hkj:k=j
        · subst hkj;rw [k1];simp
        · obtain ⟨n1,n2⟩:=napT x t hdst ht;exact agree k x hx hkj n1 n2
      have eqH:∀ b∈r.reads++nh r.sets,aV (lI (fun i=>listed.getD i false) 0 (ops.toList.zip rs) (T0,h0)).2 b=aV (cH ((ops.toList.zip rs).take j) (T0,h0)).2 b:=by
        intro b hb
        have:=D0 (ops.toList.zip rs) 0 j (T0,h0)
        rw [←this]
        refine Jv _ 0 (fun k x hx dW=>?_) rfl
        rw [Nat.zero_add,Nat.zero_add]
        by_cases hkj:k=j
        · subst hkj;rw [k1];simp
        · obtain ⟨n1,n2⟩:=napH x b dW hb;exact agree k x hx hkj n1 n2
      have hloc:=Li hone eqT (fun b hb=>eqH b (by simp [hb]))

      have L'eq:∀ i,(listed.setIfInBounds j true).getD i false=if i=j then true else listed.getD i false:=by
        intro i
        by_cases hij:i=j
        · subst hij;rw [if_pos rfl,Array.getD_eq_getD_getElem?];simp [hs,hlt]
        · rw [if_neg hij];exact getD_set_ne false (fun e=>hij e.symm)
      have step1:=D0 (ops.toList.zip rs) 0 (j+1) (T0,h0)
      have hsplit:cH ((ops.toList.zip rs).take (j+1)) (T0,h0)=(zV (cH ((ops.toList.zip rs).take j) (T0,h0)).1 o.dst r.v,cT r.sets (cH ((ops.toList.zip rs).take j) (T0,h0)).2):=by
        have hjl:j<(ops.toList.zip rs).length:=by rw [hzl];exact hlt
        have:(ops.toList.zip rs).take (j+1)=(ops.toList.zip rs).take j++[(o,r)]:=by
          rw [List.take_succ_eq_append_getElem hjl]
          have:=List.getElem?_eq_getElem hjl
          rw [hz] at this
          rw [←Option.some.inj this]
        rw [this,EC];rfl
      have newT:∀ t:Nat,(zV (lI (fun i=>listed.getD i false) 0 (ops.toList.zip rs) (T0,h0)).1 o.dst r.v)[t]? = (lI (fun i=>(listed.setIfInBounds j true).getD i false) 0 (ops.toList.zip rs) (T0,h0)).1[t]?:=by
        intro t
        rw [zZ]
        by_cases hdst:o.dst=some t
        · rw [if_pos hdst]
          have e1:=eqT t (by simp [pz,hdst])
          rw [e1]
          have e2:(lI (fun i=>(listed.setIfInBounds j true).getD i false) 0 (ops.toList.zip rs) (T0,h0)).1[t]? = (cH ((ops.toList.zip rs).take (j+1)) (T0,h0)).1[t]?:=by
            rw [←step1]
            refine Ju _ 0 (fun k x hx hd2=>?_) rfl
            rw [Nat.zero_add,Nat.zero_add,L'eq]
            by_cases hkj:k=j
            · subst hkj;simp
            · rw [if_neg hkj]
              obtain ⟨n1,n2⟩:=napT x t hd2 (by simp [pz,hdst])
              rw [agree k x hx hkj n1 n2]
              by_cases q:k<j<;>simp [q]<;>omega
          rw [e2,hsplit,zZ,if_pos hdst]
        · rw [if_neg hdst]
          refine Ju _ 0 (fun k x hx hd2=>?_) rfl
          rw [Nat.zero_add,L'eq]
          by_cases hkj:k=j
          · subst hkj;rw [hz] at hx;cases hx;exact absurd hd2 hdst
          · rw [if_neg hkj]
      have newH:∀ b:Nat,aV (lI (fun i=>(listed.setIfInBounds j true).getD i false) 0 (ops.toList.zip rs) (T0,h0)).2 b=aV (cT r.sets (lI (fun i=>listed.getD i false) 0 (ops.toList.zip rs) (T0,h0)).2) b:=by
        intro b
        by_cases hb:b∈nh r.sets
        · rw [n6 (h:=(lI (fun i=>listed.getD i false) 0 (ops.toList.zip rs) (T0,h0)).2) (h':=(cH ((ops.toList.zip rs).take j) (T0,h0)).2) r.sets (eqH b (by simp [hb]))]
          have e2:aV (lI (fun i=>(listed.setIfInBounds j true).getD i false) 0 (ops.toList.zip rs) (T0,h0)).2 b=aV (cH ((ops.toList.zip rs).take (j+1)) (T0,h0)).2 b:=by
            rw [←step1]
            refine Jv _ 0 (fun k x hx hd2=>?_) rfl
            rw [Nat.zero_add,Nat.zero_add,L'eq]
            by_cases hkj:k=j
            · subst hkj;simp
            · rw [if_neg hkj]
              obtain ⟨n1,n2⟩:=napH x b hd2 (by simp [hb])
              rw [agree k x hx hkj n1 n2]
              by_cases q:k<j<;>simp [q]<;>omega
          rw [e2,hsplit]
        · rw [n7 _ hb]
          refine Jv _ 0 (fun k x hx hd2=>?_) rfl
          rw [Nat.zero_add,L'eq]
          by_cases hkj:k=j
          · subst hkj;rw [hz] at hx;cases hx;exact absurd hd2 hb
          · rw [if_neg hkj]
      have hS:j*oB+oB≤ops.size*oB:=by rw [←Nat.succ_mul];exact Nat.mul_le_mul_right _ hlt
      refine CA hC hrun ho hloc hob hh (fun x h1 h2 hbad=>?_) (by omega) hd hT ?_
      · rcases hok _ hbad with q | ⟨i,q1,q2,q3⟩
        · omega
        · have:i=j:=Uz (y:=x-n0) (by omega) (by omega) (by omega) (by omega)
          subst this;rw [k1] at q1;cases q1
      intro ρ' w' a' E W hh' hd' hT' hok'
      have hlist:zV (lI (fun i=>listed.getD i false) 0 (ops.toList.zip rs) (T0,h0)).1 o.dst r.v=(lI (fun i=>(listed.setIfInBounds j true).getD i false) 0 (ops.toList.zip rs) (T0,h0)).1:=List.ext_getElem? newT
      rw [hlist] at hT'
      refine ih (listed.setIfInBounds j true) (by simpa using hs) (fun i x hx hl e he hb=>?_) ?_ (hh'.congr newH) (fun b hb=>?_) hd' hT' ?_
      · rw [L'eq] at hl ⊢
        by_cases hij:i=j
        · subst hij
          rw [ho] at hx;cases hx
          split
          · rfl
          · exact hpre e he hb
        · rw [if_neg hij] at hl
          split
          · rfl
          · exact hcl i x hx hl e he hb
      · have:=Ib (l:=List.range ops.size) (j:=j) (p:=fun i=>!listed.getD i false) (q:=fun i=>!(listed.setIfInBounds j true).getD i false) (List.mem_range.2 hlt) (by simp only [k1];rfl) (by simp only [L'eq,if_true];rfl)
          (fun i hi=>by
            simp only [L'eq] at hi ⊢
            split at hi
            · cases hi
            · exact hi)
        omega
      · rcases hok' b hb with q | q
        · rcases hok b q with q | ⟨i,q1,q2⟩
          · exact .inl q
          · refine .inr ⟨i,?_,q2⟩
            rw [L'eq];split
            · rfl
            · exact q1
        · exact .inr ⟨j,by rw [L'eq,if_pos rfl],q⟩
      · intro ρ'' w'' a'' E' W' hh'' hd'' hT'' hb''
        exact hQ ρ'' w'' a'' (E.trans E' W.size) (W.trans W' (fun x hx q=>E.new x hx q)) hh'' hd'' hT'' (fun b q=>by
          rcases hb'' b q with q | q
          · rcases hok' b q with q | q
            · exact .inl q
            · exact .inr (by omega)
          · exact .inr q)
theorem rB{d:aC}(h:d.kept=true) :d.foreign=true:=by
  cases d<;>first | rfl | exact gn h
mutual
def Ic (g:Nat→Option aC):Nat→AV→AV
  | 0,_=>.any
  | n+1,v =>
    match v with
    | .ptr b w i j=>match g b with
      | some d=>let d':=vy g n d;bif d'.kept then .iptr .free d' w i j else .any
      | none=>.any
    | .sl b w es i len _=>match g b with
      | some d=>let d':=vy g n d;bif d'.kept then .imm .free d' w es i len else .any
      | none=>.any
    | .fn f l1 l2=>.fn f (EF g n l1) (EF g n l2)
    | .agg l=>.agg (EF g n l)
    | .tup l=>.tup (EF g n l)
    | .iface t v=>.iface t (Ic g n v)
    | v=>v
def EF (g:Nat→Option aC):Nat→List AV→List AV
  | 0,l=>l.map fun _=>.any
  | n+1,l =>
    match l with
    | []=>[]
    | v::l=>Ic g n v::EF g n l
def vy (g:Nat→Option aC):Nat→aC→aC
  | 0,_=>.vs []
  | n+1,d =>
    match d with
    | .vs l=>.vs (EF g n l)
    | d=>d
end
theorem EG(g:Nat→Option aC)(n:Nat)(d:aC)(h:d.recKept) :(vy g n d).recKept:=by
  cases n with
  | zero=>trivial
  | succ n=>cases d<;>first | exact h | trivial
structure RL (ρ τ:ak):Prop where
  out:τ.out=ρ.out
  live:∀ bl,τ.live bl→ρ.live bl
theorem RL.avoid{ρ τ:ak}(L:RL ρ τ){l:Lv}{bl:Nat}(h:ρ.avoid l bl) :τ.avoid l bl:=by
  refine sH (d:=0) (fun j _ q=>?_) h
  cases j with
  | zero=>exact L.live bl q
  | succ j=>simp only [Nat.add_zero,ak.own] at q ⊢;rw [L.out] at q;exact q
theorem eU{ρ τ:ak}(L:RL ρ τ){w:World}{v:AV}{u:Value}(h:VR ρ w v u) :v.foreign=true→VR τ w v u:=by
  induction h using VR.rec (motive_2:=fun l c _=>bH l=true→dT τ w l c) with
  | int k n=>exact fun _=>.int k n
  | bool kn b=>exact fun _=>.bool kn b
  | flt ex x y h=>exact fun _=>.flt ex x y h
  | str s=>exact fun _=>.str s
  | nptr=>exact fun _=>.nptr
  | ptr b k i j hb=>intro hk;simp [AV.foreign] at hk
  | iptr bw d k i j bl o u ha hb hc hv hr hk hg ih=>exact fun _=>.iptr bw d k i j bl o u (L.avoid ha) hb hc (fun x v hx=>ih x v hx (aZ hr hg x v hx)) hr hk hg
  | nsl=>exact fun _=>.nsl
  | esl a=>exact fun _=>.esl a
  | zsl a c=>exact fun _=>.zsl a c
  | nan n h=>exact fun _=>.nan n h
  | sl b k es i len cap cap' hb hcap hl c t hh hs=>intro hk;simp [AV.foreign] at hk
  | slEnd b k es i a=>intro hk;simp [AV.foreign] at hk
  | imm bw d k es i len cap bl o u ha hb hc hv hl hr hk hg ih=>exact fun _=>.imm bw d k es i len cap bl o u (L.avoid ha) hb hc (fun x v hx=>ih x v hx (aZ hr hg x v hx)) hl hr hk hg
  | immEnd bw d k es i cap a hr hk hg=>exact fun _=>.immEnd bw d k es i cap a hr hk hg
  | fn f l1 l2 c1 c2 h1 h2 i1 i2=>intro hk;simp only [AV.foreign,Bool.and_eq_true] at hk;exact .fn f l1 l2 c1 c2 (i1 hk.1) (i2 hk.2)
  | nfn=>exact fun _=>.nfn
  | agg l c h ih=>intro hk;exact .agg l c (ih hk)
  | tup l c h ih=>intro hk;exact .tup l c (ih hk)
  | iface t v u h ih=>intro hk;exact .iface t v u (ih hk)
  | niface=>exact fun _=>.niface
  | any u=>exact fun _=>.any u
  | nil=>exact dT.nil
  | cons v u l c h t i1 i2=>rename_i hk;simp only [bH,Bool.and_eq_true] at hk;exact dT.cons v u l c (i1 hk.1) (i2 hk.2)
mutual
theorem Jw {ρ τ:ak} (L:RL ρ τ) {w:World} {h:bU} {m:Nat} (hh:HR ρ w h m) (off:∀ b d,aV h b=some d→ρ.ok b→¬ τ.live (ρ.at_ b)):∀ (n:Nat) {v:AV} {u:Value},VR ρ w v u→VR τ w (Ic (aV h) n v) u
  | 0,v,u,hv=>.any u
  | n + 1, v, u, hv => by
    have free:∀ (b:Nat) (d:aC),aV h b=some d→ρ.ok b→τ.avoid .free (ρ.at_ b):=by
      intro b d hd hok j _
      cases j with
      | zero=>exact off b d hd hok
      | succ j=>simp only [ak.own];rw [L.out];exact hh.fresh _ (hh.real hd hok).1 j
    have content:∀ (b:Nat) (d:aC),aV h b=some d→ρ.ok b→∀ x v,(vy (aV h) n d).cell? x=some v→w.cell? ⟨ρ.at_ b,0+x,none⟩=some ((w.cell? ⟨ρ.at_ b,x,none⟩).getD undef)∧VR τ w v ((w.cell? ⟨ρ.at_ b,x,none⟩).getD undef):=by
      intro b d hd hok x v hx
      obtain ⟨_,hrk,c,t,hc,hcv⟩:=hh.real hd hok
      obtain ⟨u,q1,q2⟩:=Lj L hh off n (ρ.at_ b) (fun x v hx=>by
        obtain ⟨u,k1,k2⟩:=hcv x v hx
        exact ⟨u,by simp [World.cell?,hc,k1],k2⟩) hrk x v hx
      rw [Nat.zero_add,q1];exact ⟨rfl,q2⟩
    cases v with
    | ptr b k i j =>
      simp only [Ic]
      split
      · rename_i d hd
        have hrk:=hh.rk hd
        cases hk:(vy (aV h) n d).kept with
        | false=>exact .any _
        | true =>
          simp only [cond_true]
          cases hv with | ptr _ _ _ _ hb =>
          have:=VR.iptr (ρ:=τ) (w:=w) .free (vy (aV h) n d) k i j (ρ.at_ b) 0 (fun x=>(w.cell? ⟨ρ.at_ b,x,none⟩).getD undef) (free b d hd hb) (hh.liveLt _ (hh.real hd hb).1)
            (fun x v hx=>(content b d hd hb x v hx).1) (fun x v hx=>(content b d hd hb x v hx).2) (EG _ _ _ hrk) (fun _=>hk) (rB hk)
          simpa using this
      · exact .any _
    | sl b k es i len cap =>
      simp only [Ic]
      split
      · rename_i d hd
        have hrk:=hh.rk hd
        cases hk:(vy (aV h) n d).kept with
        | false=>exact .any _
        | true =>
          simp only [cond_true]
          cases hv with
          | sl _ _ _ _ _ _ cap' hb hcap hl' c t hh' hs =>
            have:=VR.imm (ρ:=τ) (w:=w) .free (vy (aV h) n d) k es i len cap' (ρ.at_ b) 0 (fun x=>(w.cell? ⟨ρ.at_ b,x,none⟩).getD undef) (free b d hd hb) (hh.liveLt _ (hh.real hd hb).1)
              (fun x v hx=>(content b d hd hb x v hx).1) (fun x v hx=>(content b d hd hb x v hx).2) (by omega) (EG _ _ _ hrk) (fun _=>hk) (rB hk)
            simpa using this
          | slEnd=>exact .immEnd _ _ _ _ _ _ _ (EG _ _ _ hrk) (fun _=>hk) (rB hk)
      · exact .any _
    | fn f l1 l2=>cases hv with | fn _ _ _ _ _ h1 h2=>exact .fn _ _ _ _ _ (p9 L hh off n h1) (p9 L hh off n h2)
    | agg l=>cases hv with | agg _ _ h1=>exact .agg _ _ (p9 L hh off n h1)
    | tup l=>cases hv with | tup _ _ h1=>exact .tup _ _ (p9 L hh off n h1)
    | iface t v=>cases hv with | iface _ _ _ h1=>exact .iface _ _ _ (Jw L hh off n h1)
    | int=>exact eU L hv rfl
    | bool=>exact eU L hv rfl
    | flt=>exact eU L hv rfl
    | str=>exact eU L hv rfl
    | nptr=>exact eU L hv rfl
    | iptr=>exact eU L hv rfl
    | nsl=>exact eU L hv rfl
    | esl=>exact eU L hv rfl
    | zsl=>exact eU L hv rfl
    | nan=>exact eU L hv rfl
    | imm=>exact eU L hv rfl
    | nfn=>exact eU L hv rfl
    | niface=>exact eU L hv rfl
    | any=>exact .any _
theorem p9 {ρ τ:ak} (L:RL ρ τ) {w:World} {h:bU} {m:Nat} (hh:HR ρ w h m) (off:∀ b d,aV h b=some d→ρ.ok b→¬ τ.live (ρ.at_ b)):∀ (n:Nat) {l:List AV} {c:List Value},dT ρ w l c→dT τ w (EF (aV h) n l) c
  | 0,[],c,hv=>by cases hv;exact .nil
  | 0,v::l,c,hv=>by
    cases hv with | cons _ u _ c' h1 h2 =>
    have:=p9 L hh off 0 h2
    exact .cons _ _ _ _ (.any u) this
  | n+1,[],c,hv=>by cases hv;exact .nil
  | n+1,v::l,c,hv=>by
    cases hv with | cons _ u _ c' h1 h2=>exact .cons _ _ _ _ (Jw L hh off n h1) (p9 L hh off n h2)
theorem Lj {ρ τ:ak} (L:RL ρ τ) {w:World} {h:bU} {m:Nat} (hh:HR ρ w h m) (off:∀ b d,aV h b=some d→ρ.ok b→¬ τ.live (ρ.at_ b)):∀ (n:Nat) (bl:Nat) {d:aC},(∀ x v,d.cell? x=some v→∃ u,w.cell? ⟨bl,x,none⟩=some u∧VR ρ w v u)→d.recKept →
    ∀ x v,(vy (aV h) n d).cell? x=some v→∃ u,w.cell? ⟨bl,x,none⟩=some u∧VR τ w v u
  | 0,bl,d,hc,hr,x,v,hx=>by simp [vy,aC.cell?] at hx
  | n + 1, bl, d, hc, hr, x, v, hx => by
    cases d with
    | vs l =>
      simp only [vy,aC.cell?] at hx
      have hus:dT ρ w l ((List.range l.length).map fun x=>(w.cell? ⟨bl,x,none⟩).getD undef):=by
        refine p6 (by simp) fun y v u q1 q2=>?_
        obtain ⟨u',k1,k2⟩:=hc y v q1
        have hlt:y<l.length:=(List.getElem?_eq_some_iff.1 q1).1
        rw [List.getElem?_map,List.getElem?_range hlt] at q2
        simp [k1] at q2;subst q2;exact k2
      have hr2:=p9 L hh off n hus
      obtain ⟨u,q1,q2⟩:=hr2.get x v hx
      rw [List.getElem?_map] at q1
      have hlt:x<l.length:=by
        rcases Nat.lt_or_ge x l.length with q | q
        · exact q
        · rw [List.getElem?_eq_none (by simpa using q)] at q1;cases q1
      rw [List.getElem?_range hlt] at q1
      obtain ⟨u',k1,_⟩:=hc x (l[x]) (List.getElem?_eq_getElem hlt)
      simp [k1] at q1;subst q1
      exact ⟨u',k1,q2⟩
    | fl xs=>obtain ⟨u,q1,q2⟩:=hc x v hx;exact ⟨u,q1,eU L q2 (aZ (d:=.fl xs) hr rfl x v hx)⟩
    | ns k xs=>obtain ⟨u,q1,q2⟩:=hc x v hx;exact ⟨u,q1,eU L q2 (aZ (d:=.ns k xs) hr rfl x v hx)⟩
    | bs xs=>obtain ⟨u,q1,q2⟩:=hc x v hx;exact ⟨u,q1,eU L q2 (aZ (d:=.bs xs) hr rfl x v hx)⟩
    | ss xs=>obtain ⟨u,q1,q2⟩:=hc x v hx;exact ⟨u,q1,eU L q2 (aZ (d:=.ss xs) hr rfl x v hx)⟩
    | rows k m get=>obtain ⟨u,q1,q2⟩:=hc x v hx;exact ⟨u,q1,eU L q2 (aZ (d:=.rows k m get) hr rfl x v hx)⟩
    | cols k cs=>obtain ⟨u,q1,q2⟩:=hc x v hx;exact ⟨u,q1,eU L q2 (aZ (d:=.cols k cs) hr rfl x v hx)⟩
end
mutual
def Uv (σ:Nat→Option Nat):AV→AV
  | .ptr b w i j=>match σ b with | some c=>.ptr c w i j | none=>.any
  | .sl b w es i len cap=>match σ b with | some c=>.sl c w es i len cap | none=>.any
  | .fn f l1 l2=>.fn f (SB σ l1) (SB σ l2)
  | .agg l=>.agg (SB σ l)
  | .tup l=>.tup (SB σ l)
  | .iface t v=>.iface t (Uv σ v)
  | v=>v
def SB (σ:Nat→Option Nat):List AV→List AV
  | []=>[]
  | v::l=>Uv σ v::SB σ l
end
def ak.renamed(ρ:ak)(keep:List Nat) :ak :=
  { at_:=fun i=>ρ.at_ ((keep[i]?).getD 0),live:=ρ.live,out:=ρ.out,ok:=fun i=>∃ b,keep[i]? = some b∧ρ.ok b }
mutual
theorem CD {ρ:ak} {keep:List Nat} {w:World}:∀ (v:AV) {u:Value},VR ρ w v u→VR (ρ.renamed keep) w (Uv (jX keep 0) v) u
  | .ptr b k i j,u,h=>by
    simp only [Uv]
    split
    · rename_i c hc
      cases h with | ptr _ _ _ _ hb =>
      obtain ⟨_,hg⟩:=wU hc
      rw [Nat.sub_zero] at hg
      have:(ρ.renamed keep).at_ c=ρ.at_ b:=by simp [ak.renamed,hg]
      rw [←this];exact .ptr _ _ _ _ ⟨b,hg,hb⟩
    · exact .any u
  | .sl b k es i len cap,u,h=>by
    simp only [Uv]
    split
    · rename_i c hc
      obtain ⟨_,hg⟩:=wU hc
      rw [Nat.sub_zero] at hg
      have e:(ρ.renamed keep).at_ c=ρ.at_ b:=by simp [ak.renamed,hg]
      cases h with
      | sl _ _ _ _ _ _ cap' hb hcap hl ce t hh hs=>rw [←e] at hh ⊢;exact .sl _ _ _ _ _ _ _ ⟨b,hg,hb⟩ hcap hl ce t hh hs
      | slEnd=>exact .slEnd _ _ _ _ _
    · exact .any u
  | .fn f l1 l2,u,h=>by cases h with | fn _ _ _ _ _ h1 h2=>exact .fn _ _ _ _ _ (EH l1 h1) (EH l2 h2)
  | .agg l,u,h=>by cases h with | agg _ _ h1=>exact .agg _ _ (EH l h1)
  | .tup l,u,h=>by cases h with | tup _ _ h1=>exact .tup _ _ (EH l h1)
  | .iface t v,u,h=>by cases h with | iface _ _ _ h1=>exact .iface _ _ _ (CD v h1)
  | .int ..,u,h=>fX h rfl
  | .bool ..,u,h=>fX h rfl
  | .flt ..,u,h=>fX h rfl
  | .str ..,u,h=>fX h rfl
  | .nptr,u,h=>fX h rfl
  | .iptr ..,u,h=>fX h rfl
  | .nsl,u,h=>fX h rfl
  | .esl,u,h=>fX h rfl
  | .zsl _,u,h=>fX h rfl
  | .nan,u,h=>fX h rfl
  | .imm ..,u,h=>fX h rfl
  | .nfn,u,h=>fX h rfl
  | .niface,u,h=>fX h rfl
  | .any,u,h=>.any u
theorem EH {ρ:ak} {keep:List Nat} {w:World}:∀ (l:List AV) {c:List Value},dT ρ w l c→dT (ρ.renamed keep) w (SB (jX keep 0) l) c
  | [],c,h=>by cases h;exact .nil
  | v::l,c,h=>by cases h with | cons _ u _ c' h1 h2=>exact .cons _ _ _ _ (CD v h1) (EH l h2)
theorem fX {ρ:ak} {keep:List Nat} {w:World} {v:AV} {u:Value} (h:VR ρ w v u) (hf:v.foreign=true):VR (ρ.renamed keep) w v u :=
  eU (ρ:=ρ) (τ:=ρ.renamed keep) ⟨rfl,fun _ q=>q⟩ h hf
end
def Wc(σ:Nat→Option Nat) :aC→aC
  | .vs l=>.vs (SB σ l)
  | d=>d
theorem Jx(σ:Nat→Option Nat) :∀ (l:List AV) (x:Nat),(SB σ l)[x]? = (l[x]?).map (Uv σ)
  | [],x=>by simp [SB]
  | v::l,0=>by simp [SB]
  | v::l,x+1=>by simp [SB,Jx σ l x]
theorem ST{σ:Nat→Option Nat}{d:aC}(h:d.recKept) :(Wc σ d).recKept:=by
  cases d<;>first | exact h | trivial
theorem Lk{σ:Nat→Option Nat}{d:aC}{x:Nat}{v:AV}(h:(Wc σ d).cell? x=some v)(hr:d.recKept) :∃ v',d.cell? x=some v'∧(v=Uv σ v'∨(v=v'∧v.foreign=true)):=by
  cases d with
  | vs l =>
    simp only [Wc,aC.cell?,Jx,Option.map_eq_some_iff] at h
    obtain ⟨v',h1,rfl⟩:=h
    exact ⟨v',h1,.inl rfl⟩
  | fl xs=>exact ⟨v,h,.inr ⟨rfl,aZ (d:=.fl xs) hr rfl x v h⟩⟩
  | ns k xs=>exact ⟨v,h,.inr ⟨rfl,aZ (d:=.ns k xs) hr rfl x v h⟩⟩
  | bs xs=>exact ⟨v,h,.inr ⟨rfl,aZ (d:=.bs xs) hr rfl x v h⟩⟩
  | ss xs=>exact ⟨v,h,.inr ⟨rfl,aZ (d:=.ss xs) hr rfl x v h⟩⟩
  | rows k m get=>exact ⟨v,h,.inr ⟨rfl,aZ (d:=.rows k m get) hr rfl x v h⟩⟩
  | cols m cs=>exact ⟨v,h,.inr ⟨rfl,aZ (d:=.cols m cs) hr rfl x v h⟩⟩
def QV(k:Nat)(R:List Nat) :List Nat:=List.range k++R.filter fun b=>Nat.ble k b
theorem RM{k i:Nat}{R:List Nat}(h:i<k) :(QV k R)[i]? = some i:=by
  unfold QV
  rw [List.getElem?_append_left (by simpa using h),List.getElem?_range h]
def oC(σ:Nat→Option Nat)(h:bU) :List Nat→List (Option aC)
  | []=>[]
  | b::l=>(aV h b).map (Wc σ)::oC σ h l
theorem pA(σ:Nat→Option Nat)(h:bU) :∀ (l:List Nat) (i:Nat),(oC σ h l)[i]? = (l[i]?).map fun b=>(aV h b).map (Wc σ)
  | [],i=>by simp [oC]
  | b::l,0=>by simp [oC]
  | b::l,i+1=>by simp [oC,pA σ h l i]
theorem oU(σ:Nat→Option Nat)(h:bU) :∀ (l:List Nat),(oC σ h l).length=l.length
  | []=>rfl
  | b::l=>by simp [oC,oU σ h l]
def EI(k:Nat)(keep:Bool)(h:bU)(v:AV) :Option jj :=
  match keep,k with
  | true,0=>some ⟨Ic (aV h) gg v,[]⟩
  | _,_ =>
    let L:=QV k (j9 (aV h) gg (List.range k++Jr v) [])
    bif sR L then some ⟨Uv (jX L 0) v,oC (jX L 0) h L⟩ else none
theorem Ll{ρ ρ0:ak}{w0 w:World}{h:bU}{m:Nat}{lent:List aC}{keep:Bool}(hh:HR ρ w h m)(hN:lu ρ0 w0 lent)(E:lH ρ0 ρ w0)(hbk:∀ i,i<lent.length→ρ.ok i→ρ0.ok i)(W:w0.heap.size≤w.heap.size){v:AV}{u:Value}(hv:VR ρ w v u){r:jj} 
    (hr:EI lent.length keep h v=some r):r.Holds ρ0 w0 w lent.length u:=by
  unfold EI at hr
  split at hr
  · rename_i k hk
    cases hr
    have none_ok:∀ b,¬ ρ0.ok b:=fun b q=>by have:=hN.heap.lt b q;omega
    have none_live:∀ bl,¬ ρ0.live bl:=fun bl q=>by obtain ⟨i,h1,_⟩:=hN.only bl q;exact none_ok i h1
    refine ⟨ρ0,lH.refl _ _,fun i h=>by omega,⟨fun b d q=>?_,fun b c d e q=>?_,fun bl q=>(none_live bl q).elim,fun bl q=>(none_live bl q).elim,fun j bl q=>?_,fun b q=>(none_ok b q).elim,fun x hx=>eU (τ:=ρ0) ⟨E.out.symm,fun bl q=>(none_live bl q).elim⟩ (hh.rom x hx) rfl⟩,?_⟩
    · simp [dM,aV] at q
    · simp [dM,aV] at q
    · exact Nat.lt_of_lt_of_le (hN.heap.outLt j bl q) W
    · exact Jw (τ:=ρ0) ⟨E.out.symm,fun bl q=>(none_live bl q).elim⟩ hh (fun _ _ _ _ q=>none_live _ q) gg hv
  · simp only at hr
    generalize hL:QV lent.length (j9 (aV h) gg (List.range lent.length++Jr v) [])=L at hr
    cases hn:sR L with
    | false=>rw [hn] at hr;cases hr
    | true =>
    rw [hn] at hr
    simp only [cond_true,Option.some.injEq] at hr;subst hr
    have idL:∀ {i:Nat},i<lent.length→L[i]? = some i:=fun q=>by rw [←hL];exact RM q
    have atL:∀ {i b:Nat},L[i]? = some b→(ρ.renamed L).at_ i=ρ.at_ b:=fun q=>by simp [ak.renamed,q]
    refine ⟨ρ.renamed L,⟨fun b q=>?_,fun b q=>?_,E.live,E.new,E.out⟩,fun i hi q=>?_,⟨fun i d q=>?_,fun i j d e q1 q2 ok1 ok2 he=>?_,hh.fresh,hh.liveLt,hh.outLt,fun i q=>?_,fun x hx=>CD _ (hh.rom x hx)⟩,CD v hv⟩
    · rw [atL (idL (hN.heap.lt b q))];exact E.at_ b q
    · exact ⟨b,idL (hN.heap.lt b q),E.ok b q⟩
    · obtain ⟨b,h1,h2⟩:=q
      rw [idL hi] at h1;cases h1
      exact hbk i hi h2
    · have q:=iM q
      simp only at q
      rw [pA,Option.map_eq_some_iff] at q
      obtain ⟨b,h1,h2⟩:=q
      rw [Option.map_eq_some_iff] at h2
      obtain ⟨d0,h3,rfl⟩:=h2
      rcases hh.cell b d0 h3 with ⟨k1,k2,hr,c,t,r1,r2⟩ | ⟨k1,k2,k3,k4⟩
      · refine .inl ⟨⟨b,h1,k1⟩,by rw [atL h1];exact k2,ST hr,c,t,by rw [atL h1];exact r1,fun x v hx=>?_⟩
        obtain ⟨v',s1,s2⟩:=Lk hx hr
        obtain ⟨u,t1,t2⟩:=r2 x v' s1
        refine ⟨u,t1,?_⟩
        rcases s2 with rfl | ⟨rfl,hf⟩
        · exact CD v' t2
        · exact fX t2 hf
      · refine .inr ⟨?_,?_,ST k3,fun x=>?_⟩
        · rintro ⟨b',q1,q2⟩
          rw [h1] at q1;cases q1
          exact k1 q2
        · rw [oU];exact (List.getElem?_eq_some_iff.1 h1).1
        · cases hc:(Wc (jX L 0) d0).cell? x with
          | none=>rfl
          | some v=>obtain ⟨v',s1,_⟩:=Lk hc k3;rw [k4 x] at s1;cases s1
    · obtain ⟨b,r1,r2⟩:=ok1
      obtain ⟨c,r3,r4⟩:=ok2
      have q1:=iM q1
      have q2:=iM q2
      simp only at q1 q2
      rw [pA,r1] at q1
      rw [pA,r3] at q2
      simp only [Option.map_some,Option.some.injEq,Option.map_eq_some_iff] at q1 q2
      obtain ⟨d1,s1,_⟩:=q1
      obtain ⟨d2,s2,_⟩:=q2
      rw [atL r1,atL r3] at he
      have:=hh.inj b c d1 d2 s1 s2 r2 r4 he
      subst this
      exact sS hn r1 r3
    · obtain ⟨b,r1,_⟩:=q
      simp only [oU]
      exact (List.getElem?_eq_some_iff.1 r1).1
inductive AE where
  | normal
  | ret
  | exit (id:Nat)
def AE.real:AE→Exit
  | .normal=>.normal
  | .ret=>.ret
  | .exit id=>.exit id
abbrev Ve:=Option (AE×aG×List Bool×fW)
abbrev qR:=Code→aG→fW→Ve
def Bq(C:yD)(run:fI)(ops:Array Oper)(draw:Bool)(st:aG)(p:fW) :Ve :=
  match draw with
  | false =>
    match Ez C run ops st.next 0 ops.toList st.tmps st.heap p with
    | some (T,h,obs,p')=>some (.normal,⟨T,h,st.next+ops.size*oB⟩,obs,p')
    | none=>none
  | true =>
    match EE C run ops st.next 0 ops.toList st.tmps st.heap p with
    | some (rs,T,h,obs,p')=>bif EB ops [] [] (ops.toList.zip rs) then some (.normal,⟨T,h,st.next+ops.size*oB⟩,obs,p') else none
    | none=>none
def qa(T:List AV)(c:Operand)(b:Bool) :List AV :=
  match c with
  | .tmp t=>T.set t (.bool true b)
  | _=>T
def D2(body:aG→fW→Ve) :Nat→aG→fW→Ve
  | 0,_,_=>none
  | n+1,st,p =>
    match body st p with
    | some (.normal,st1,o1,p1) =>
      match D2 body n st1 p1 with
      | some (e,st2,o2,p2)=>some (e,st2,o1++o2,p2)
      | none=>none
    | r=>r
def EJ(C:yD)(run:fI)(N:Nat)(self:qR)(c:Code)(st:aG)(p:fW) :Ve :=
  match c with
  | .skip | .label _=>some (.normal,st,[],p)
  | .region _ ops draw=>Bq C run ops draw st p
  | .seq a b =>
    match self a st p with
    | some (.normal,st1,o1,p1) =>
      match self b st1 p1 with
      | some (e,st2,o2,p2)=>some (e,st2,o1++o2,p2)
      | none=>none
    | r=>r
  | .cond c a b =>
    match DZ (Uw st.tmps c) p with
    | some (x,o1,p1) =>
      match self (match x with | true=>a | false=>b) { st with tmps:=qa st.tmps c x } p1 with
      | some (e,st2,o2,p2)=>some (e,st2,o1++o2,p2)
      | none=>none
    | none=>none
  | .block id b =>
    match self b st p with
    | some (.exit id',st1,o1,p1)=>bif Nat.beq id' id then some (.normal,st1,o1,p1) else some (.exit id',st1,o1,p1)
    | r=>r
  | .loop b=>D2 (self b) N st p
  | .exit id=>some (.exit id,st,[],p)
  | .ret=>some (.ret,st,[],p)
  | .scope b=>self b st p
  | _=>none
structure qb where
  out:jj
  obs:List Bool
def SU(alts:List qb)(p:fW) :Option (qb×fW) :=
  match alts,p with
  | [a],p=>some (a,p)
  | alts,none=>(alts.find? fun a=>RI a.obs).map fun a=>(a,none)
  | alts,some (k::r)=>(alts[k]?).map fun a=>(a,some r)
  | _,_=>none
theorem RN{alts:List qb}{p p':fW}{a:qb}(h:SU alts p=some (a,p')) :a∈alts:=by
  unfold SU at h
  split at h
  · simp only [Option.some.injEq,Prod.mk.injEq] at h;rw [←h.1];simp
  · simp only [Option.map_eq_some_iff,Prod.mk.injEq] at h;obtain ⟨b,h1,rfl,_⟩:=h;exact List.mem_of_find?_eq_some h1
  · simp only [Option.map_eq_some_iff,Prod.mk.injEq] at h;obtain ⟨b,h1,rfl,_⟩:=h;exact List.mem_of_getElem? h1
  · cases h
abbrev z4:=FuncId→List aC→List AV→Option (List qb)
def iA(P:Program)(fn:Func)(st:aG) :List ResultVar→Option (List AV×List Bool)
  | []=>some ([],[])
  | .tmp t::l =>
    match iA P fn st l with
    | some (vs,o)=>some ((st.tmps[t]?).getD .any::vs,o)
    | none=>none
  | .cell a t::l =>
    match zI P (aV st.heap) t ((st.tmps[a]?).getD .any),iA P fn st l with
    | some (v,o,_),some (vs,o')=>some (v::vs,o++o')
    | _,_=>none
def Br:List AV→AV
  | [v]=>v
  | vs=>.tup vs
def n8(fn:Func)(lent:List aC)(args:List AV) :aG:=⟨args++List.replicate (fn.ntmps-args.length) (.tup []),dM 0 (lent.map some),lent.length⟩
def qc(C : yD)(S : z4)(self : qR) : fI := fun f lent args p =>
  match S f lent args with
  | some alts=>(SU alts p).map fun r=>(r.1.out,r.1.obs,r.2)
  | none =>
    match C.P.funcs[f]? with
    | some fn =>
      match fn.body with
      | some c =>
        match self c (n8 fn lent args) p with
        | some (e,st,o1,p1) =>
          match e,iA C.P fn st fn.results.toList with
          | .exit _,_=>none
          | _,some (vs,o2) =>
            match EI lent.length (C.mode f).keep st.heap (Br vs) with
            | some r=>some (r,o1++o2,p1)
            | none=>none
          | _,none=>none
        | none=>none
      | none=>none
    | none=>none
def gr(C:yD)(S:z4)(N:Nat) :Nat→qR
  | 0=>fun _ _ _=>none
  | n+1=>EJ C (qc C S (gr C S N n)) N (gr C S N n)
def ai(P:Program)(f:FuncId)(lent:List aC)(args:List AV)(r:jj) :Prop :=
  ∀ (ρ:ak) (w:World) (us:List Value),lu ρ w lent→dT ρ w args us →
    (∃ fn,P.funcs[f]? = some fn∧fn.body.isSome=true)∧Calls P f us.toArray w fun e w'=>∃ u,e=.returned u∧iu ρ.live w w'∧r.Holds ρ w w' lent.length u
def bj(P:Program)(S:z4) :Prop:=∀ f lent args alts a,S f lent args=some alts→a∈alts→aB a.obs→ai P f lent args a.out
def EK(P:Program)(self:qR) :Prop :=
  ∀ c st p e st' obs p',self c st p=some (e,st',obs,p')→aB obs→∀ (ρ:ak) (a:Act) (w:World) (Q:Exit→Act→World→Prop),SR ρ st a w →
    (∀ ρ' a' w',vt ρ w st.next st' ρ' a' w'→Q e.real a' w')→c.wp P Q a w
theorem vt.trans{ρ ρ1 ρ2:ak}{w w1 w2:World}{n:Nat}{st1 st2:aG}{a1 a2:Act}(h:vt ρ w n st1 ρ1 a1 w1)(k:vt ρ1 w1 st1.next st2 ρ2 a2 w2) :vt ρ w n st2 ρ2 a2 w2 :=
  ⟨h.ext.trans k.ext h.wle.size,h.wle.trans k.wle (fun x hx q=>h.ext.new x hx q),k.sr,Nat.le_trans h.le k.le,fun b q=>by
    rcases k.back b q with q | q
    · exact h.back b q
    · exact .inr (Nat.le_trans h.le q)⟩
theorem vt.refl{ρ:ak}{w:World}{st:aG}{a:Act}(h:SR ρ st a w) :vt ρ w st.next st ρ a w:=⟨lH.refl _ _,iu.refl _ _,h,Nat.le_refl _,fun b q=>.inl q⟩
theorem RO(n:Nat) :List.range n=List.range' 0 n:=List.range_eq_range'
theorem Jy{C:yD}(hC:C.Ok){run:fI}(hrun:Ew C.P run){id:Nat}{ops:Array Oper}{draw:Bool}{st st':aG}{p p':fW}{e:AE}{obs:List Bool}(h:Bq C run ops draw st p=some (e,st',obs,p')) 
    (ho:aB obs) {ρ:ak} {a:Act} {w:World} {Q:Exit→Act→World→Prop} (hs:SR ρ st a w) (hQ:∀ ρ' a' w',vt ρ w st.next st' ρ' a' w'→Q e.real a' w'):(Code.region id ops draw).wp C.P Q a w:=by
  unfold Bq at h
  cases draw with
  | false =>
    simp only at h
    split at h
    case h_2=>cases h
    rename_i T hp obs' p1 hr
    simp only [Option.some.injEq,Prod.mk.injEq] at h;obtain ⟨rfl,rfl,rfl,rfl⟩:=h
    refine wp_region ?_
    rw [RO,←Array.length_toList]
    refine zX hC hrun ops.toList 0 (fun j=>by simp) hr ho (hs.heap.le (by omega)) (fun b hb=>by have:=hs.heap.lt b hb;omega) hs.defers hs.tmps ?_
    intro ρ' w' a' E W hh hd hT hb
    exact hQ ρ' a' w' ⟨E,W,⟨hd,hT,hh⟩,Nat.le_add_right _ _,hb⟩
  | true =>
    simp only at h
    split at h
    case h_2=>cases h
    rename_i rs T hp obs' p1 hr
    cases hd:EB ops [] [] (ops.toList.zip rs) with
    | false=>rw [hd] at h;cases h
    | true =>
      rw [hd] at h
      simp only [cond_true,Option.some.injEq,Prod.mk.injEq] at h;obtain ⟨rfl,rfl,rfl,rfl⟩:=h
      obtain ⟨s1,s2,s3⟩:=CC _ _ hr ho
      obtain ⟨ms,D⟩:=CB (ops.toList.zip rs) [] [] rfl hd ⟨fun j x hx=>by simp at hx,fun j x hx=>by simp at hx,fun i j x y hx=>by simp at hx⟩
      rw [List.nil_append] at D
      refine wp_region_any hC.mixed ?_
      have W0:=iu.drawn ρ.live w (w.drawn+1)
      have E0:=lH.refl ρ w
      have notL:∀ i,(Array.replicate ops.size false).getD i false=false:=by
        intro i;rw [Array.getD_eq_getD_getElem?]
        cases hq:(Array.replicate ops.size false)[i]? with
        | none=>rfl
        | some b=>rw [Array.getElem?_replicate] at hq;split at hq<;>simp_all
      have a0:∀ (l:List (Oper×wV)) (i:Nat) (s:List AV×bU),lI (fun i=>(Array.replicate ops.size false).getD i false) i l s=s:=by
        intro l
        induction l with
        | nil=>intro _ _;rfl
        | cons x l ih=>intro i s;simp only [lI];rw [notL i];exact ih _ _
      refine SS hC hrun D (by rw [s1];simp) (fun j o hj=>by have:=s3 j o hj;rw [Nat.zero_add] at this;exact this) ops.size (Array.replicate ops.size false) (by simp) (fun j o _ hl=>by rw [notL] at hl;cases hl)
        (by have:=List.countP_le_length (p:=fun i=>!(Array.replicate ops.size false).getD i false) (l:=List.range ops.size);simpa using this) (ρ:=ρ) (a:=a) ?_ ?_ hs.defers ?_ ?_
      · rw [a0];exact (hs.heap.le (by omega)).drawn _
      · intro b hb;have:=hs.heap.lt b hb;exact .inl this
      · rw [a0];exact hs.tmps.mono E0 W0
      · intro ρ' w' a' E W hh hd' hT hb
        rw [s2] at hh hT
        exact hQ ρ' a' w' ⟨⟨E.at_,E.ok,E.live,fun b hb=>E.new b hb,E.out⟩,W0.trans W (fun _ _ q=>q),⟨hd',hT,hh⟩,Nat.le_add_right _ _,hb⟩
theorem EL{C:yD}{body:aG→fW→Ve}{b:Code}(hb:∀ st p e st' obs p',body st p=some (e,st',obs,p')→aB obs→∀ (ρ:ak) (a:Act) (w:World) (Q:Exit→Act→World→Prop),SR ρ st a w →
    (∀ ρ' a' w',vt ρ w st.next st' ρ' a' w'→Q e.real a' w')→b.wp C.P Q a w) :∀ (n:Nat) (st:aG) (p:fW) (e:AE) (st':aG) (obs:List Bool) (p':fW),D2 body n st p=some (e,st',obs,p')→aB obs →
    ∀ (ρ:ak) (a:Act) (w:World) (Q:Exit→Act→World→Prop),SR ρ st a w→(∀ ρ' a' w',vt ρ w st.next st' ρ' a' w'→Q e.real a' w')→Code.rounds C.P b Q n a w
  | 0,st,p,e,st',obs,p',h,_,_,_,_,_,_,_=>by cases h
  | n+1,st,p,e,st',obs,p',h,ho,ρ,a,w,Q,hs,hQ=>by
    simp only [D2] at h
    rw [rounds_succ]
    split at h
    · rename_i st1 o1 p1 h1
      split at h
      case h_2=>cases h
      rename_i e2 st2 o2 p2 h2
      simp only [Option.some.injEq,Prod.mk.injEq] at h;obtain ⟨rfl,rfl,rfl,rfl⟩:=h
      rw [a5] at ho
      refine hb st p _ _ _ _ h1 ho.1 ρ a w _ hs fun ρ1 a1 w1 P1=>?_
      exact EL hb n st1 p1 _ _ _ _ h2 ho.2 ρ1 a1 w1 Q P1.sr fun ρ2 a2 w2 P2=>hQ ρ2 a2 w2 (P1.trans P2)
    · rename_i hne
      refine hb st p _ _ _ _ h ho ρ a w _ hs fun ρ1 a1 w1 P1=>?_
      have:=hQ ρ1 a1 w1 P1
      cases e with
      | normal=>exact (hne _ _ _ h).elim
      | ret=>exact this
      | exit id=>exact this
theorem Lm{C:yD}(hC:C.Ok){run:fI}(hrun:Ew C.P run){N:Nat}{self:qR}(hself:EK C.P self) :EK C.P (EJ C run N self):=by
  intro c st p e st' obs p' h ho ρ a w Q hs hQ
  unfold EJ at h
  split at h
  · simp only [Option.some.injEq,Prod.mk.injEq] at h;obtain ⟨rfl,rfl,rfl,rfl⟩:=h
    exact wp_skip (hQ ρ a w (vt.refl hs))
  · simp only [Option.some.injEq,Prod.mk.injEq] at h;obtain ⟨rfl,rfl,rfl,rfl⟩:=h
    exact wp_label (hQ ρ a w (vt.refl hs))
  · exact Jy hC hrun h ho hs hQ
  · rename_i x y
    refine wp_seq ?_
    split at h
    · rename_i st1 o1 p1 h1
      split at h
      case h_2=>cases h
      rename_i e2 st2 o2 p2 h2
      simp only [Option.some.injEq,Prod.mk.injEq] at h;obtain ⟨rfl,rfl,rfl,rfl⟩:=h
      rw [a5] at ho
      refine hself x st p _ _ _ _ h1 ho.1 ρ a w _ hs fun ρ1 a1 w1 P1=>?_
      exact hself y st1 p1 _ _ _ _ h2 ho.2 ρ1 a1 w1 Q P1.sr fun ρ2 a2 w2 P2=>hQ ρ2 a2 w2 (P1.trans P2)
    · rename_i hne
      refine hself x st p _ _ _ _ h ho ρ a w _ hs fun ρ1 a1 w1 P1=>?_
      have:=hQ ρ1 a1 w1 P1
      cases e with
      | normal=>exact (hne _ _ _ h).elim
      | ret=>exact this
      | exit id=>exact this
  · rename_i cc x y
    split at h
    case h_2=>cases h
    rename_i b o1 p1 h1
    split at h
    case h_2=>cases h
    rename_i e2 st2 o2 p2 h2
    simp only [Option.some.injEq,Prod.mk.injEq] at h;obtain ⟨rfl,rfl,rfl,rfl⟩:=h
    rw [a5] at ho
    have hb:=Ey (Eg hs.heap.rom hs.tmps cc) h1 ho.1
    refine wp_cond hb ?_
    have hs':SR ρ { st with tmps:=qa st.tmps cc b } a w:=by
      refine ⟨hs.defers,?_,hs.heap⟩
      cases cc with
      | tmp t =>
        simp only [qa]
        have:dT ρ w (st.tmps.set t (.bool true b)) (a.tmps.toList.set t (.bool b)):=hs.tmps.set (.bool _ _) t
        have e:a.tmps.toList.set t (.bool b)=a.tmps.toList:=by
          apply List.ext_getElem?
          intro j
          rw [List.getElem?_set]
          split
          · rename_i q;subst q
            split
            · rename_i hlt
              simp only [Act.eval] at hb
              rw [Array.getD_eq_getD_getElem?] at hb
              have hlt':t<a.tmps.size:=by simpa using hlt
              rw [Array.getElem?_eq_getElem hlt'] at hb
              simp only [Option.getD_some] at hb
              simp [hlt',hb]
            · rename_i hge
              rw [List.getElem?_eq_none (by omega)]
          · rfl
        rw [e] at this;exact this
      | const v=>exact hs.tmps
      | global g=>exact hs.tmps
      | func f=>exact hs.tmps
    have:=hself _ _ p1 _ _ _ _ h2 ho.2 ρ a w Q hs' hQ
    cases b<;>exact this
  · rename_i id b
    refine wp_block ?_
    split at h
    · rename_i id' st1 o1 p1 h1
      cases hid:Nat.beq id' id with
      | true =>
        rw [hid] at h
        simp only [cond_true,Option.some.injEq,Prod.mk.injEq] at h;obtain ⟨rfl,rfl,rfl,rfl⟩:=h
        refine hself b st p _ _ _ _ h1 ho ρ a w _ hs fun ρ1 a1 w1 P1=>?_
        simp only [AE.real,Exit.inBlock,Nat.eq_of_beq_eq_true hid,if_true]
        exact hQ ρ1 a1 w1 P1
      | false =>
        rw [hid] at h
        simp only [cond_false,Option.some.injEq,Prod.mk.injEq] at h;obtain ⟨rfl,rfl,rfl,rfl⟩:=h
        refine hself b st p _ _ _ _ h1 ho ρ a w _ hs fun ρ1 a1 w1 P1=>?_
        have hne : ¬ id'=id:=fun e=>by subst e;simp [m7] at hid
        simp only [AE.real,Exit.inBlock,hne,if_false]
        exact hQ ρ1 a1 w1 P1
    · rename_i hne
      refine hself b st p _ _ _ _ h ho ρ a w _ hs fun ρ1 a1 w1 P1=>?_
      have:=hQ ρ1 a1 w1 P1
      cases e with
      | normal=>exact this
      | ret=>exact this
      | exit id=>exact (hne _ _ _ _ h).elim
  · rename_i b
    exact wp_loop_rounds N (EL (C:=C) (b:=b) (fun st p e st' obs p' h1 h2=>hself b st p e st' obs p' h1 h2) N st p e st' obs p' h ho ρ a w Q hs hQ)
  · simp only [Option.some.injEq,Prod.mk.injEq] at h;obtain ⟨rfl,rfl,rfl,rfl⟩:=h
    exact wp_exit (hQ ρ a w (vt.refl hs))
  · simp only [Option.some.injEq,Prod.mk.injEq] at h;obtain ⟨rfl,rfl,rfl,rfl⟩:=h
    exact wp_ret (hQ ρ a w (vt.refl hs))
  · rename_i b
    refine wp_scope_straight (hself b st p _ _ _ _ h ho ρ a w _ hs fun ρ1 a1 w1 P1=>?_)
    have:=hQ ρ1 a1 w1 P1
    cases e<;>exact this
  · cases h
theorem EM{P:Program}{w:World}{t:TypeId}{x:Value}{u:Value}(hx:∃ a,x=.pointer (some a))(h:(Instr.loadAt t x).run P w=.ok u w) :(do loadVar t (←asAddr x):Sem Value).run P w=.ok u w:=by
  obtain ⟨a,rfl⟩:=hx
  simpa [Instr.loadAt,Instr.sureAddr,asAddr] using h
def EN(tmps:Array Value) :ResultVar→Sem Value
  | .tmp t=>pure (tmps.getD t undef)
  | .cell x t=>do loadVar t (←asAddr (tmps.getD x undef))
theorem OF(fn:Func)(tmps:Array Value) :results fn tmps=(do let vs ← fn.results.mapM (EN tmps);pure (if h:vs.size=1 then vs[0] else .tuple vs)):=by
  unfold results
  congr 1
theorem vz{P:Program}{fn:Func}{st:aG}{ρ:ak}{a:Act}{w:World}(hs:SR ρ st a w) :∀ (l:List ResultVar) {vs:List AV} {obs:List Bool},iA P fn st l=some (vs,obs)→aB obs →
    ∃ us:List Value,(l.mapM (EN a.tmps)).run P w=.ok us w∧dT ρ w vs us
  | [],vs,obs,h,ho=>by
    simp only [iA,Option.some.injEq,Prod.mk.injEq] at h;obtain ⟨rfl,rfl⟩:=h
    exact ⟨[],by simp,.nil⟩
  | .tmp t::l,vs,obs,h,ho=>by
    simp only [iA] at h
    split at h
    case h_2=>cases h
    rename_i vs' o' h1
    simp only [Option.some.injEq,Prod.mk.injEq] at h;obtain ⟨rfl,rfl⟩:=h
    obtain ⟨us,q1,q2⟩:=vz hs l h1 ho
    refine ⟨a.tmps.getD t undef::us,?_,.cons _ _ _ _ (Eg hs.heap.rom hs.tmps (.tmp t)) q2⟩
    simp only [List.mapM_cons,EN,Sem.run_bind,Sem.run_pure,Result.andThen_ok,q1]
  | .cell x t::l,vs,obs,h,ho=>by
    simp only [iA] at h
    split at h
    case h_2=>cases h
    rename_i v o rs vs' o' h1 h2
    simp only [Option.some.injEq,Prod.mk.injEq] at h;obtain ⟨rfl,rfl⟩:=h
    rw [a5] at ho
    obtain ⟨us,q1,q2⟩:=vz hs l h2 ho.2
    have hv:=Eg hs.heap.rom hs.tmps (.tmp x)
    simp only [Uw,Act.eval] at hv
    obtain ⟨u,r1,r2⟩:=Cr (P:=P) hs.heap hv h1 ho.1
    have hp:∃ ad,a.tmps.getD x undef=.pointer (some ad):=by
      generalize a.tmps.getD x undef=z at hv
      unfold zI at h1
      simp only at h1
      split at h1
      · rename_i e;rw [e] at hv;cases hv;exact ⟨_,rfl⟩
      · rename_i e;rw [e] at hv;cases hv;exact ⟨_,rfl⟩
      · cases h1
    have:=EM hp r1
    refine ⟨u::us,?_,.cons _ _ _ _ r2 q2⟩
    simp only [List.mapM_cons,EN,Sem.run_bind] at this ⊢
    rw [this]
    simp only [Result.andThen_ok,Sem.run_bind,q1,Sem.run_pure]
theorem Ln{P:Program}{fn:Func}{st:aG}{ρ:ak}{a:Act}{w:World}(hs:SR ρ st a w){vs:List AV}{obs:List Bool}(h:iA P fn st fn.results.toList=some (vs,obs))(ho:aB obs) :
    ∃ v,(results fn a.tmps).run P w=.ok v w∧VR ρ w (Br vs) v:=by
  obtain ⟨us,q1,q2⟩:=vz hs fn.results.toList h ho
  have hl:=q2.length
  have hm:(fn.results.mapM (EN a.tmps)).run P w=.ok us.toArray w:=by
    rw [Array.mapM_eq_mapM_toList,map_eq_pure_bind,Sem.run_bind,q1,Result.andThen_ok,Sem.run_pure]
  rw [OF,Sem.run_bind,hm,Result.andThen_ok]
  match vs,us,q2,hl with
  | [],[],q2,_=>exact ⟨.tuple #[],rfl,.tup _ _ .nil⟩
  | [v],[u],q2,_=>cases q2 with | cons _ _ _ _ h1 _=>exact ⟨u,rfl,h1⟩
  | v::v'::vs,u::u'::us,q2,_ =>
    refine ⟨.tuple (u::u'::us).toArray,?_,.tup _ _ q2⟩
    simp
theorem vA{P:Program}{f:FuncId}{fn:Func}{c:Code}(hf:P.funcs[f]? = some fn)(hc:fn.body=some c){lent:List aC}{args:List AV}{r:jj}{keep:Bool} 
    (h:∀ (ρ:ak) (w:World) (a:Act),lu ρ w lent→SR ρ (n8 fn lent args) a w →
      c.wp P (fun e a' w'=>(e=.normal∨e=.ret)∧∃ ρ' st' vs obs,lH ρ ρ' w∧iu ρ.live w w'∧(∀ i,i<lent.length→ρ'.ok i→ρ.ok i)∧SR ρ' st' a' w'∧iA P fn st' fn.results.toList=some (vs,obs)∧aB obs∧EI lent.length keep st'.heap (Br vs)=some r) a w):ai P f lent args r:=by
  intro ρ w us hN hv
  refine ⟨⟨fn,hf,by rw [hc];rfl⟩,?_⟩
  refine calls_of_wp hf hc ?_
  have hlen:=hv.length
  have hs:SR ρ (n8 fn lent args) { tmps:=us.toArray++Array.replicate (fn.ntmps-us.toArray.size) undef,defers:=[] } w:=by
    refine ⟨rfl,?_,hN.heap⟩
    simp only [n8,Array.toList_append,Array.toList_replicate,List.size_toArray,hlen]
    refine dT.append ?_ hv
    have:∀ n,dT ρ w (List.replicate n (.tup [])) (List.replicate n undef):=by
      intro n
      induction n with
      | zero=>exact .nil
      | succ n ih=>exact .cons _ _ _ _ (.tup [] #[] .nil) ih
    exact this _
  refine wp_mono (h ρ w _ hN hs) ?_
  rintro e a' w' ⟨he,ρ',st',vs,obs,E,W,hbk,S,hr,hob,hkeep⟩
  have fin:a'.defers=[]∧∃ v,(results fn a'.tmps).run P w'=.ok v w'∧∃ u,Ending.returned v=.returned u∧iu ρ.live w w'∧r.Holds ρ w w' lent.length u:=by
    refine ⟨S.defers,?_⟩
    obtain ⟨v,q1,q2⟩:=Ln S hr hob
    exact ⟨v,q1,v,rfl,W,Ll S.heap hN E hbk W.size q2 hkeep⟩
  rcases he with rfl | rfl
  · exact fin
  · exact fin
theorem Lo{C:yD}{S:z4}(hS:bj C.P S){self:qR}(hself:EK C.P self) :Ew C.P (qc C S self):=by
  intro f lent args p r obs p' h ho
  unfold qc at h
  split at h
  · rename_i alts hs
    simp only [Option.map_eq_some_iff,Prod.mk.injEq] at h
    obtain ⟨⟨alt,q⟩,h1,rfl,rfl,rfl⟩:=h
    exact hS f lent args alts alt hs (RN h1) ho
  · split at h
    case h_2=>cases h
    rename_i fn hf
    split at h
    case h_2=>cases h
    rename_i c hc
    split at h
    case h_2=>cases h
    rename_i e st o1 p1 hr
    cases hres:iA C.P fn st fn.results.toList with
    | none=>rw [hres] at h;cases e<;>cases h
    | some x =>
      obtain ⟨vs,o2⟩:=x
      rw [hres] at h
      have key:∀ (he:e=.normal∨e=.ret),(match EI lent.length (C.mode f).keep st.heap (Br vs) with | some r=>some (r,o1++o2,p1) | none=>none)=some (r,obs,p')→ai C.P f lent args r:=by
        intro he h
        split at h
        case h_2=>cases h
        rename_i r' hk
        simp only [Option.some.injEq,Prod.mk.injEq] at h;obtain ⟨rfl,rfl,rfl⟩:=h
        rw [a5] at ho
        refine vA (keep:=(C.mode f).keep) hf hc fun ρ w a hN hs=>?_
        refine hself c _ p e st o1 p1 hr ho.1 ρ a w _ hs fun ρ' a' w' P1=>⟨?_,ρ',st,vs,o2,P1.ext,P1.wle,fun i hi q=>?_,P1.sr,hres,ho.2,hk⟩
        · rcases he with rfl | rfl
          · exact .inl rfl
          · exact .inr rfl
        · rcases P1.back i q with q | q
          · exact q
          · simp only [n8] at q;omega
      cases e with
      | normal=>exact key (.inl rfl) h
      | ret=>exact key (.inr rfl) h
      | exit id=>cases h
theorem sV{C:yD}(hC:C.Ok){S:z4}(hS:bj C.P S)(N:Nat) :∀ n,EK C.P (gr C S N n)
  | 0=>fun c st p e st' obs p' h=>by cases h
  | n+1=>Lm hC (Lo hS (sV hC hS N n)) (sV hC hS N n)
theorem Dn{C:yD}(hC:C.Ok){S:z4}(hS:bj C.P S)(N n:Nat){f:FuncId}{lent:List aC}{args:List AV}{p p':fW}{r:jj}{obs:List Bool}(h:qc C S (gr C S N n) f lent args p=some (r,obs,p'))(ho:aB obs) :
    ai C.P f lent args r:=Lo hS (sV hC hS N n) f lent args p r obs p' h ho
def D3:List (Nat×Dm)→Nat→Option Dm
  | [],_=>none
  | (k,e)::l,f=>bif Nat.beq k f then some e else D3 l f
def Lp:List (Nat×SO)→Nat→SO
  | [],_=>⟨[],false⟩
  | (k,m)::l,f=>bif Nat.beq k f then m else Lp l f
def QW(P:Program)(l:List (Nat×Dm))(ms:List (Nat×SO)) :yD:={ P,ext:=D3 l,mode:=Lp ms,wrap:=false }
theorem CE:∀ {l:List (Nat×Dm)} {f:Nat} {k:Dm},D3 l f=some k→(f,k)∈l
  | [],f,k,h=>by cases h
  | (a,e)::l,f,k,h=>by
    simp only [D3] at h
    cases hb:Nat.beq a f with
    | true=>rw [hb] at h;simp only [cond_true,Option.some.injEq] at h;have:=Nat.eq_of_beq_eq_true hb;subst this;subst h;simp
    | false=>rw [hb] at h;simp only [cond_false] at h;exact List.mem_cons_of_mem _ (CE h)
structure Id (P:Program) (f:Nat) (k:Dm):Prop where
  fn : ∃ fn, P.funcs[f]? = some fn ∧ (fn.name == "runtime.NumGoroutine") = false ∧ fn.body.isNone = true ∧ Extern.findNext fn = none ∧ Extern.find fn = some (Bm k)
def QX(P : Program) : Bool := P.funcs.toList.all fun fn => !(fn.name == "runtime.NumGoroutine")
theorem SV{P:Program}{l:List (Nat×Dm)}{ms:List (Nat×SO)}(hm:P.follows .mixedOrders=true)(hn:QX P=true)(he:∀ x∈l,Id P x.1 x.2) :(QW P l ms).Ok:=by
  refine ⟨hm,fun f fn args w hf hb=>?_,fun f k args w hk=>?_⟩
  · have h1 : fn.name ≠ "runtime.NumGoroutine" := by
      have hmem:fn∈P.funcs.toList:=by
        have:fn∈P.funcs:=Array.mem_of_getElem? hf
        simpa using this
      have:=List.all_eq_true.1 hn fn hmem
      simpa using this
    have h2:fn.body≠none:=by intro q;rw [q] at hb;cases hb
    have hf':P.funcs[f]? = some fn:=hf
    have h3:fn.body.isNone=false:=by cases hq:fn.body<;>simp_all
    simp only [QW,callFunc,Sem.run_bind,run_program,Result.andThen_ok,hf',beq_eq_false_iff_ne.2 h1,Bool.false_eq_true,if_false,h3,Sem.run_pure]
  · obtain ⟨fn,h1,h2,h3,h4,h5⟩:=(he _ (CE hk)).fn
    have:=run_callFunc_extern (P:=P) h1 h2 h3 h4 h5 args w
    simp only [QW]
    rw [this,Sem.run_bind]
    rfl
def At(k:Nat)(ρ0:ak)(w0:World)(st:aG)(a:Act)(w:World) :Prop:=∃ ρ,lH ρ0 ρ w0∧iu ρ0.live w0 w∧SR ρ st a w∧(∀ i,i<k→ρ.ok i→ρ0.ok i)∧k≤st.next
def RP(lent:List aC)(st st':aG) :Prop:=∀ ρ0 w0 a w,lu ρ0 w0 lent→At lent.length ρ0 w0 st a w→At lent.length ρ0 w0 st' a w
theorem RP.refl(lent:List aC)(st:aG) :RP lent st st:=fun _ _ _ _ _ h=>h
theorem RP.trans{lent:List aC}{a b c:aG}(h:RP lent a b)(k:RP lent b c) :RP lent a c:=fun _ _ _ _ hN q=>k _ _ _ _ hN (h _ _ _ _ hN q)
def Lq:AV→AV
  | .flt _ x=>.flt false x
  | .bool _ b=>.bool false b
  | v=>v
def VB(σ:Nat→Option Nat) :aC→aC
  | .vs l=>.vs ((SB σ l).map Lq)
  | d=>d
def Bs(σ:Nat→Option Nat)(h:bU) :Nat→List Nat→bU
  | _,[]=>[]
  | i,b::l=>match aV h b with
    | some d=>(i,VB σ d)::Bs σ h (i+1) l
    | none=>Bs σ h (i+1) l
def Wi(b:Bool)(v u:AV) :AV :=
  match b with
  | true=>v
  | false=>u
def Vf:List (Nat×AV)→Nat→AV
  | [],_=>.any
  | (k,v)::l,t=>Wi (Nat.beq k t) v (Vf l t)
def Ie(L:List (Nat×AV)) :Nat→Nat→List AV
  | _,0=>[]
  | t,n+1=>Vf L t::Ie L (t+1) n
def an(n:Nat)(L:List (Nat×AV)) :List AV:=Ie L 0 n
def WH(σ:Nat→Option Nat)(ks:List Nat) :Nat→List AV→List AV
  | _,[]=>[]
  | t,v::l=>(bif sQ ks t then Lq (Uv σ v) else .any)::WH σ ks (t+1) l
def norm(keep ks:List Nat)(st:aG) :aG :=
  ⟨WH (jX keep 0) ks 0 st.tmps,Bs (jX keep 0) st.heap 0 keep,keep.length⟩
theorem Lr{ρ:ak}{w:World}{v:AV}{u:Value}(h:VR ρ w v u) :VR ρ w (Lq v) u:=by
  cases h<;>simp only [Lq]<;>first | exact .bool _ _ | (rename_i hf;refine .flt _ _ _ ?_;rcases hf with rfl | ⟨_,h2,h3⟩;exact .inl rfl;exact .inr ⟨rfl,h2,h3⟩) | skip
  case int=>exact .int _ _
  case str=>exact .str _
  case nptr=>exact .nptr
  case ptr hb=>exact .ptr _ _ _ _ hb
  case iptr=>rename_i bw d k i j bl o u' ha hb hr hg hc hv hk;exact .iptr bw d k i j bl o _ (by assumption) (by assumption) (by assumption) (by assumption) (by assumption) (by assumption) (by assumption)
  case nsl=>exact .nsl
  case esl=>exact .esl _
  case zsl=>exact .zsl _ _
  case nan=>exact .nan _ (by assumption)
  case sl=>exact .sl _ _ _ _ _ _ _ (by assumption) (by assumption) (by assumption) _ _ (by assumption) (by assumption)
  case slEnd=>exact .slEnd _ _ _ _ _
  case imm=>exact .imm _ _ _ _ _ _ _ _ _ _ (by assumption) (by assumption) (by assumption) (by assumption) (by assumption) (by assumption) (by assumption) (by assumption)
  case immEnd=>exact .immEnd _ _ _ _ _ _ _ (by assumption) (by assumption) (by assumption)
  case fn=>exact .fn _ _ _ _ _ (by assumption) (by assumption)
  case nfn=>exact .nfn
  case agg=>exact .agg _ _ (by assumption)
  case tup=>exact .tup _ _ (by assumption)
  case iface=>exact .iface _ _ _ (by assumption)
  case niface=>exact .niface
  case any=>exact .any _
theorem SW{ρ:ak}{keep ks:List Nat}{w:World} :∀ (l:List AV) (t:Nat) {c:List Value},dT ρ w l c→dT (ρ.renamed keep) w (WH (jX keep 0) ks t l) c
  | [],t,c,h=>by cases h;exact .nil
  | v::l,t,c,h=>by
    cases h with | cons _ u _ c' h1 h2 =>
    simp only [WH]
    refine .cons _ _ _ _ ?_ (SW l (t+1) h2)
    cases sQ ks t with
    | true=>exact Lr (CD v h1)
    | false=>exact .any u
theorem sX{σ:Nat→Option Nat}{h:bU} :∀ {l:List Nat} {i c:Nat} {d:aC},aV (Bs σ h i l) c=some d→i≤c∧∃ b e,l[c-i]? = some b∧aV h b=some e∧d=VB σ e
  | [],i,c,d,q=>by cases q
  | b::l,i,c,d,q=>by
    simp only [Bs] at q
    have next:aV (Bs σ h (i+1) l) c=some d→i≤c∧∃ b' e,(b::l)[c-i]? = some b'∧aV h b'=some e∧d=VB σ e:=by
      intro q
      obtain ⟨h1,b',e,h2,h3,h4⟩:=sX q
      refine ⟨by omega,b',e,?_,h3,h4⟩
      have:c-i=(c-(i+1))+1:=by omega
      rw [this];simpa using h2
    split at q
    · rename_i e he
      simp only [aV] at q
      cases hc:Nat.beq i c with
      | true =>
        rw [hc] at q;simp only [cond_true,Option.some.injEq] at q
        have:=Nat.eq_of_beq_eq_true hc;subst this
        exact ⟨Nat.le_refl _,b,e,by simp,he,q.symm⟩
      | false=>rw [hc] at q;exact next q
    · exact next q
theorem SX{σ:Nat→Option Nat}{d:aC}(h:d.recKept) :(VB σ d).recKept:=by
  cases d<;>first | exact h | trivial
theorem Ls{σ:Nat→Option Nat}{d:aC}{x:Nat}{v:AV}(h:(VB σ d).cell? x=some v)(hr:d.recKept) :∃ v',d.cell? x=some v'∧(v=Lq (Uv σ v')∨(v=v'∧v.foreign=true)):=by
  cases d with
  | vs l =>
    simp only [VB,aC.cell?,List.getElem?_map,Jx,Option.map_map,Option.map_eq_some_iff,Function.comp] at h
    obtain ⟨v',h1,rfl⟩:=h
    exact ⟨v',h1,.inl rfl⟩
  | fl xs=>exact ⟨v,h,.inr ⟨rfl,aZ (d:=.fl xs) hr rfl x v h⟩⟩
  | ns k xs=>exact ⟨v,h,.inr ⟨rfl,aZ (d:=.ns k xs) hr rfl x v h⟩⟩
  | bs xs=>exact ⟨v,h,.inr ⟨rfl,aZ (d:=.bs xs) hr rfl x v h⟩⟩
  | ss xs=>exact ⟨v,h,.inr ⟨rfl,aZ (d:=.ss xs) hr rfl x v h⟩⟩
  | rows k m get=>exact ⟨v,h,.inr ⟨rfl,aZ (d:=.rows k m get) hr rfl x v h⟩⟩
  | cols m cs=>exact ⟨v,h,.inr ⟨rfl,aZ (d:=.cols m cs) hr rfl x v h⟩⟩
def Jz:Nat→Nat→List Nat→Bool
  | 0,_,_=>true
  | _+1,_,[]=>false
  | k+1,i,b::l=>Nat.beq b i&&Jz k (i+1) l
theorem EO:∀ {k i:Nat} {l:List Nat},Jz k i l=true→∀ j,j<k→l[j]? = some (i+j)
  | 0,i,l,_,j,hj=>by omega
  | k+1,i,[],h,j,hj=>by cases h
  | k+1,i,b::l,h,j,hj=>by
    simp only [Jz,Bool.and_eq_true] at h
    cases j with
    | zero=>simp;exact Nat.eq_of_beq_eq_true h.1
    | succ j=>simp only [List.getElem?_cons_succ];rw [EO h.2 j (by omega)];congr 1;omega
def OG(k:Nat)(keep:List Nat) :Bool:=sR keep&&Jz k 0 keep
theorem SY{lent:List aC}{keep ks:List Nat}(hk:OG lent.length keep=true)(st:aG) :RP lent st (norm keep ks st):=by
  unfold OG at hk
  rw [Bool.and_eq_true] at hk
  obtain ⟨hn,hid⟩:=hk
  have idL:∀ {i:Nat},i<lent.length→keep[i]? = some i:=fun q=>by have:=EO hid _ q;simpa using this
  have atL:∀ {ρ:ak} {i b:Nat},keep[i]? = some b→(ρ.renamed keep).at_ i=ρ.at_ b:=fun q=>by simp [ak.renamed,q]
  rintro ρ0 w0 a w hN ⟨ρ,E,W,S,hbk,hle⟩
  refine ⟨ρ.renamed keep,⟨fun b q=>?_,fun b q=>⟨b,idL (hN.heap.lt b q),E.ok b q⟩,E.live,E.new,E.out⟩,W,⟨S.defers,SW _ _ S.tmps,?_⟩,fun i hi q=>?_,?_⟩
  · rw [atL (idL (hN.heap.lt b q))];exact E.at_ b q
  · have hh:=S.heap
    refine ⟨fun c d q=>?_,fun c c' d d' q q' ok1 ok2 he=>?_,hh.fresh,hh.liveLt,hh.outLt,fun c q=>?_,fun x hx=>CD _ (hh.rom x hx)⟩
    · obtain ⟨_,b,e,h1,h2,rfl⟩:=sX q
      rw [Nat.sub_zero] at h1
      rcases hh.cell b e h2 with ⟨k1,k2,hr,ce,t,r1,r2⟩ | ⟨k1,k2,k3,k4⟩
      · refine .inl ⟨⟨b,h1,k1⟩,by rw [atL h1];exact k2,SX hr,ce,t,by rw [atL h1];exact r1,fun x v hx=>?_⟩
        obtain ⟨v',s1,s2⟩:=Ls hx hr
        obtain ⟨u,t1,t2⟩:=r2 x v' s1
        refine ⟨u,t1,?_⟩
        rcases s2 with rfl | ⟨rfl,hf⟩
        · exact Lr (CD v' t2)
        · exact fX t2 hf
      · refine .inr ⟨?_,(List.getElem?_eq_some_iff.1 h1).1,SX k3,fun x=>?_⟩
        · rintro ⟨b',q1,q2⟩
          rw [h1] at q1;cases q1
          exact k1 q2
        · cases hc:(VB (jX keep 0) e).cell? x with
          | none=>rfl
          | some v=>obtain ⟨v',s1,_⟩:=Ls hc k3;rw [k4 x] at s1;cases s1
    · obtain ⟨_,b,e,h1,h2,rfl⟩:=sX q
      obtain ⟨_,b',e',h1',h2',rfl⟩:=sX q'
      rw [Nat.sub_zero] at h1 h1'
      obtain ⟨x,x1,x2⟩:=ok1
      obtain ⟨y,y1,y2⟩:=ok2
      rw [h1] at x1;cases x1
      rw [h1'] at y1;cases y1
      rw [atL h1,atL h1'] at he
      have:=hh.inj b b' e e' h2 h2' x2 y2 he
      subst this
      exact sS hn h1 h1'
    · obtain ⟨b,h1,_⟩:=q
      exact (List.getElem?_eq_some_iff.1 h1).1
  · obtain ⟨b,q1,q2⟩:=q
    rw [idL hi] at q1;cases q1
    exact hbk i hi q2
  · simp only [norm]
    rcases Nat.lt_or_ge keep.length lent.length with q | q
    · have:=idL q
      rw [List.getElem?_eq_none (Nat.le_refl _)] at this;cases this
    · exact q
inductive GP where
  | slot (t:Nat)
  | part (t i:Nat)
  | cell (b i:Nat)
def fE.empty:fE→Bool
  | .cf [] | .ci _ [] | .cb [] | .cs [] | .cfl [] | .cns _ []=>true
  | _=>false
def z5:List fE→Bool
  | []=>true
  | c::l=>c.empty&&z5 l
def aC.isVoid:aC→Bool
  | .fl [] | .ns _ [] | .bs [] | .ss [] | .vs []=>true
  | .cols 0 cs=>z5 cs
  | _=>false
theorem EP{c:fE}(h:c.empty=true) :c.len=0:=by
  unfold fE.empty at h
  split at h<;>first | rfl | cases h
theorem rC:∀ {l:List fE},z5 l=true→∀ c∈l,c.len=0
  | [],_,c,hc=>by cases hc
  | c::l,h,x,hx=>by
    simp only [z5,Bool.and_eq_true] at h
    rcases List.mem_cons.1 hx with rfl | q
    · exact EP h.1
    · exact rC h.2 x q
theorem vB{d:aC}(h:d.isVoid=true) :d.recKept∧d.void:=by
  unfold aC.isVoid at h
  split at h
  case h_6 =>
    rename_i cs
    have:=rC h
    refine ⟨this,fun x=>?_⟩
    cases hc:(aC.cols 0 cs).cell? x with
    | none=>rfl
    | some v =>
      obtain ⟨c,_,h2,h3⟩:=fN hc
      have:=vk h3
      rw [rC h c h2] at this;exact absurd this (Nat.not_lt_zero _)
  case h_7=>cases h
  all_goals exact ⟨trivial,fun x=>by simp [aC.cell?]⟩
theorem EQ(b w es:Nat) :aP .nsl (.sl b w es 0 0 0):=by
  intro ρ w' u h;cases h;exact .slEnd _ _ _ _ _
theorem HR.weaken{ρ:ak}{w:World}{h:bU}{n b:Nat}{d d':aC}(hh:HR ρ w h n)(hg:aV h b=some d)(hr:d'.recKept)(hw:∀ x v',d'.cell? x=some v'→∃ v,d.cell? x=some v∧aP v v') :HR ρ w (dW h b d') n:=by
  have look:∀ x e,aV (dW h b d') x=some e→(x=b∧e=d')∨(x≠b∧aV h x=some e):=by
    intro x e hx
    rw [dr] at hx
    by_cases q:b=x
    · rw [if_pos q] at hx;cases hx;exact .inl ⟨q.symm,rfl⟩
    · rw [if_neg q] at hx;exact .inr ⟨fun e=>q e.symm,hx⟩
  have had:∀ x e,aV (dW h b d') x=some e→∃ e',aV h x=some e':=by
    intro x e hx
    rcases look x e hx with ⟨rfl,_⟩ | ⟨_,q⟩
    · exact ⟨d,hg⟩
    · exact ⟨e,q⟩
  refine ⟨fun x e hx=>?_,fun x y e f h1 h2 ok1 ok2 he=>?_,hh.fresh,hh.liveLt,hh.outLt,hh.lt,hh.rom⟩
  · rcases look x e hx with ⟨rfl,rfl⟩ | ⟨_,q⟩
    · rcases hh.cell x d hg with ⟨k1,k2,_,c,t,r1,r2⟩ | ⟨k1,k2,_,k4⟩
      · refine .inl ⟨k1,k2,hr,c,t,r1,fun y v' hy=>?_⟩
        obtain ⟨v,q1,q2⟩:=hw y v' hy
        obtain ⟨u,t1,t2⟩:=r2 y v q1
        exact ⟨u,t1,q2 _ _ _ t2⟩
      · refine .inr ⟨k1,k2,hr,fun y=>?_⟩
        cases hc:e.cell? y with
        | none=>rfl
        | some v'=>obtain ⟨v,q1,_⟩:=hw y v' hc;rw [k4 y] at q1;cases q1
    · exact hh.cell x e q
  · obtain ⟨e',q1⟩:=had x e h1
    obtain ⟨f',q2⟩:=had y f h2
    exact hh.inj x y e' f' q1 q2 ok1 ok2 he
def OH(st:aG)(pos:GP)(w es:Nat)(d:aC) :aG :=
  match pos with
  | .slot t =>
    match st.tmps[t]? with
    | some .nsl=>⟨st.tmps.set t (.sl st.next w es 0 0 0),dW st.heap st.next d,st.next+1⟩
    | some .esl=>⟨st.tmps.set t (.sl st.next w es 0 0 0),dW st.heap st.next d,st.next+1⟩
    | _=>st
  | .part t i =>
    match st.tmps[t]? with
    | some (.agg l) =>
      match l[i]? with
      | some .nsl=>⟨st.tmps.set t (.agg (l.set i (.sl st.next w es 0 0 0))),dW st.heap st.next d,st.next+1⟩
      | _=>st
    | _=>st
  | .cell b i =>
    match aV st.heap b with
    | some (.vs l) =>
      match l[i]? with
      | some .nsl=>⟨st.tmps,dW (dW st.heap b (.vs (l.set i (.sl st.next w es 0 0 0)))) st.next d,st.next+1⟩
      | _=>st
    | _=>st
theorem SZ(b w es:Nat) :aP .esl (.sl b w es 0 0 0):=by
  intro ρ w' u h;cases h;exact .slEnd _ _ _ _ _
theorem qS{ρ:ak}{w:World} :∀ {l:List AV} {c:List Value} {i:Nat} {v v':AV},dT ρ w l c→l[i]? = some v→aP v v'→dT ρ w (l.set i v') c
  | _,_,i,v,v',.nil,h,_=>by simp at h
  | _,_,0,v,v',.cons a u l c h t,hi,hw=>by simp at hi;subst hi;exact .cons _ _ _ _ (hw _ _ _ h) t
  | _,_,i+1,v,v',.cons a u l c h t,hi,hw=>.cons _ _ _ _ h (qS t (by simpa using hi) hw)
theorem OI{lent:List aC}{st:aG}{pos:GP}{w es:Nat}{d:aC}(hd:d.isVoid=true) :RP lent st (OH st pos w es d):=by
  obtain ⟨d1,d2⟩:=vB hd
  rintro ρ0 w0 a w' hN ⟨ρ,E,W,S,hbk,hle⟩
  have hh:=S.heap
  have hno : ¬ ρ.ok st.next:=fun q=>Nat.lt_irrefl _ (hh.lt _ q)
  have h1:HR ρ w' (dW st.heap st.next d) (st.next+1):=(hh.le (Nat.le_succ _)).ghost hno (Nat.lt_succ_self _) d1 d2
  have id_:At lent.length ρ0 w0 st a w':=⟨ρ,E,W,S,hbk,hle⟩
  unfold OH
  split
  · split
    · rename_i t h
      exact ⟨ρ,E,W,⟨S.defers,qS S.tmps h (EQ _ _ _),h1⟩,hbk,Nat.le_succ_of_le hle⟩
    · rename_i t h
      exact ⟨ρ,E,W,⟨S.defers,qS S.tmps h (SZ _ _ _),h1⟩,hbk,Nat.le_succ_of_le hle⟩
    · exact id_
  · split
    · rename_i t i l h
      split
      · rename_i h2
        refine ⟨ρ,E,W,⟨S.defers,qS S.tmps h ?_,h1⟩,hbk,Nat.le_succ_of_le hle⟩
        intro ρ w u hu
        cases hu with | agg _ c hc=>exact .agg _ _ (qS hc h2 (EQ _ _ _))
      · exact id_
    · exact id_
  · split
    · rename_i b i _ l h
      split
      · rename_i h2
        have hw:HR ρ w' (dW st.heap b (.vs (l.set i (.sl st.next w es 0 0 0)))) st.next:=by
          refine hh.weaken h trivial fun x v' hx=>?_
          simp only [aC.cell?,List.getElem?_set] at hx ⊢
          by_cases hi:i=x
          · subst hi
            rw [if_pos rfl] at hx
            split at hx
            · cases hx;exact ⟨_,h2,EQ _ _ _⟩
            · cases hx
          · rw [if_neg hi] at hx;exact ⟨v',hx,aP.refl _⟩
        exact ⟨ρ,E,W,⟨S.defers,S.tmps,(hw.le (Nat.le_succ _)).ghost hno (Nat.lt_succ_self _) d1 d2⟩,hbk,Nat.le_succ_of_le hle⟩
      · exact id_
    · exact id_
def ER(f:AV→Option AV)(st:aG)(pos:GP) :aG :=
  match pos with
  | .slot t =>
    match st.tmps[t]? with
    | some v=>match f v with
      | some v'=>⟨st.tmps.set t v',st.heap,st.next⟩
      | none=>st
    | none=>st
  | .part t i =>
    match st.tmps[t]? with
    | some (.agg l) =>
      match l[i]? with
      | some v=>match f v with
        | some v'=>⟨st.tmps.set t (.agg (l.set i v')),st.heap,st.next⟩
        | none=>st
      | none=>st
    | _=>st
  | .cell b i =>
    match aV st.heap b with
    | some (.vs l) =>
      match l[i]? with
      | some v=>match f v with
        | some v'=>⟨st.tmps,dW st.heap b (.vs (l.set i v')),st.next⟩
        | none=>st
      | none=>st
    | _=>st
theorem yF{lent:List aC}{st:aG}{pos:GP}{f:AV→Option AV}(hf:∀ v v',f v=some v'→aP v v') :RP lent st (ER f st pos):=by
  rintro ρ0 w0 a w' hN ⟨ρ,E,W,S,hbk,hle⟩
  have hh:=S.heap
  have id_:At lent.length ρ0 w0 st a w':=⟨ρ,E,W,S,hbk,hle⟩
  unfold ER
  split
  · split
    · rename_i t v h
      split
      · rename_i v' hv
        exact ⟨ρ,E,W,⟨S.defers,qS S.tmps h (hf _ _ hv),hh⟩,hbk,hle⟩
      · exact id_
    · exact id_
  · split
    · rename_i t i l h
      split
      · rename_i v h2
        split
        · rename_i v' hv
          refine ⟨ρ,E,W,⟨S.defers,qS S.tmps h ?_,hh⟩,hbk,hle⟩
          intro ρ w u hu
          cases hu with | agg _ c hc=>exact .agg _ _ (qS hc h2 (hf _ _ hv))
        · exact id_
      · exact id_
    · exact id_
  · split
    · rename_i b i _ l h
      split
      · rename_i v h2
        split
        · rename_i v' hv
          have hw:HR ρ w' (dW st.heap b (.vs (l.set i v'))) st.next:=by
            refine hh.weaken h trivial fun x u hx=>?_
            simp only [aC.cell?,List.getElem?_set] at hx ⊢
            by_cases hi:i=x
            · subst hi
              rw [if_pos rfl] at hx
              split at hx
              · cases hx;exact ⟨_,h2,hf _ _ hv⟩
              · cases hx
            · rw [if_neg hi] at hx;exact ⟨u,hx,aP.refl _⟩
          exact ⟨ρ,E,W,⟨S.defers,S.tmps,hw⟩,hbk,hle⟩
        · exact id_
      · exact id_
    · exact id_
theorem qT{d:aC}(h:d.isVoid=true) :d.kept=true∧d.foreign=true:=by
  unfold aC.isVoid at h
  split at h<;>first | exact ⟨rfl,rfl⟩ | cases h
theorem RQ{d:aC}(w es:Nat)(hd:d.isVoid=true) :aP .nsl (.imm .free d w es 0 0):=by
  intro ρ w' u h;cases h;exact .immEnd _ _ _ _ _ _ _ (vB hd).1 (fun _=>(qT hd).1) (qT hd).2
theorem RR{d:aC}(w es:Nat)(hd:d.isVoid=true) :aP .esl (.imm .free d w es 0 0):=by
  intro ρ w' u h;cases h;exact .immEnd _ _ _ _ _ _ _ (vB hd).1 (fun _=>(qT hd).1) (qT hd).2
def OJ(w es:Nat)(d:aC) :AV→Option AV
  | .nsl | .esl=>some (.imm .free d w es 0 0)
  | _=>none
theorem Lt{w es:Nat}{d:aC}(hd:d.isVoid=true) :∀ v v',OJ w es d v=some v'→aP v v':=by
  intro v v' h
  unfold OJ at h
  split at h
  · cases h;exact RQ _ _ hd
  · cases h;exact RR _ _ hd
  · cases h
theorem QY{l:Lv}{ρ:ak}{bl:Nat}(ha:ρ.avoid .free bl) :ρ.avoid l bl:=iL (fun j=>ha j (Nat.zero_le _)) _ _
def VC(l:Lv) :AV→Option AV
  | .imm .free d w es i n=>some (.imm l d w es i n)
  | .iptr .free d w i j=>some (.iptr l d w i j)
  | _=>none
theorem RS{l:Lv} :∀ v v',VC l v=some v'→aP v v':=by
  intro v v' h
  unfold VC at h
  split at h
  · cases h
    intro ρ w' u hu
    cases hu with
    | imm _ _ _ _ _ _ cap bl o u ha hb hc hv hn hr hk hg=>exact .imm _ _ _ _ _ _ cap bl o u (QY ha) hb hc hv hn hr (fun _=>hk rfl) hg
    | immEnd _ _ _ _ _ cap a hr hk hg=>exact .immEnd _ _ _ _ _ cap a hr (fun _=>hk rfl) hg
  · cases h
    intro ρ w' u hu
    cases hu with
    | iptr _ _ _ _ _ bl o u ha hb hc hv hr hk hg=>exact .iptr _ _ _ _ _ bl o u (QY ha) hb hc hv hr (fun _=>hk rfl) hg
  · cases h
def S2:AV→Option AV
  | .imm _ d w es i n=>some (.imm .lent d w es i n)
  | .iptr _ d w i j=>some (.iptr .lent d w i j)
  | _=>none
theorem OK:∀ v v',S2 v=some v'→aP v v':=by
  intro v v' h
  unfold S2 at h
  split at h
  · cases h
    intro ρ w' u hu
    cases hu with
    | imm _ _ _ _ _ _ cap bl o u ha hb hc hv hn hr hk hg=>exact .imm _ _ _ _ _ _ cap bl o u (yu (O:=ρ.own) ha) hb hc hv hn hr (fun q=>by cases q) hg
    | immEnd _ _ _ _ _ cap a hr hk hg=>exact .immEnd _ _ _ _ _ cap a hr (fun q=>by cases q) hg
  · cases h
    intro ρ w' u hu
    cases hu with
    | iptr _ _ _ _ _ bl o u ha hb hc hv hr hk hg=>exact .iptr _ _ _ _ _ bl o u (yu (O:=ρ.own) ha) hb hc hv hr (fun q=>by cases q) hg
  · cases h
inductive GK where
  | own (w es:Nat) (d:aC)
  | fre (w es:Nat) (d:aC)
  | lev (l:Lv)
  | low
abbrev GL:=List (GP×GK)
def Bt:GL→aG→aG
  | [],st=>st
  | (p,.fre w es d)::l,st=>Bt l (ER (OJ w es d) st p)
  | (p,.own w es d)::l,st=>Bt l (OH st p w es d)
  | (p,.lev v)::l,st=>Bt l (ER (VC v) st p)
  | (p,.low)::l,st=>Bt l (ER S2 st p)
def ka:GL→Bool
  | []=>true
  | (_,.own _ _ d)::l=>d.isVoid&&ka l
  | (_,.fre _ _ d)::l=>d.isVoid&&ka l
  | (_,.lev _)::l=>ka l
  | (_,.low)::l=>ka l
theorem qd{lent:List aC} :∀ {l:GL} {st:aG},ka l=true→RP lent st (Bt l st)
  | [],st,_=>RP.refl _ _
  | (p,.fre w es d)::l,st,h=>by
    simp only [ka,Bool.and_eq_true] at h
    exact (yF (Lt h.1)).trans (qd h.2)
  | (p,.own w es d)::l,st,h=>by
    simp only [ka,Bool.and_eq_true] at h
    exact (OI h.1).trans (qd h.2)
  | (p,.lev v)::l,st,h=>(yF RS).trans (qd (l:=l) (by simpa [ka] using h))
  | (p,.low)::l,st,h=>(yF OK).trans (qd (l:=l) (by simpa [ka] using h))
structure NS where
  gs:GL
  keep:List Nat
  ks:List Nat
def NS.ok(k:Nat)(s:NS) :Bool:=ka s.gs&&OG k s.keep
def NS.on(s:NS)(st:aG) :aG:=norm s.keep s.ks (Bt s.gs st)
theorem S3{lent:List aC}{s:NS}(h:s.ok lent.length=true)(st:aG) :RP lent st (s.on st):=by
  unfold NS.ok at h
  rw [Bool.and_eq_true] at h
  exact (qd h.1).trans (SY h.2 _)
def dU:Code→List Code
  | .seq a b=>dU a++dU b
  | .skip=>[]
  | .label _=>[]
  | c=>[c]
def GN(P:Program) :List Code→(Exit→Act→World→Prop)→Act→World→Prop
  | [],K,a,w=>K .normal a w
  | c::l,K,a,w=>c.wp P (fun e a' w'=>match e with | .normal=>GN P l K a' w' | e=>K e a' w') a w
theorem yG{P:Program}{K:Exit→Act→World→Prop} :∀ (l l':List Code) (a:Act) (w:World),GN P l (fun e a' w'=>match e with | .normal=>GN P l' K a' w' | e=>K e a' w') a w→GN P (l++l') K a w
  | [],l',a,w,h=>h
  | c::l,l',a,w,h=>by
    simp only [List.cons_append,GN] at h ⊢
    refine wp_mono h ?_
    intro e a' w' q
    cases e<;>first | exact yG l l' a' w' q | exact q
theorem rD{P:Program}{c:Code}{K:Exit→Act→World→Prop}{a:Act}{w:World}(h:GN P [c] K a w) :c.wp P K a w:=by
  simp only [GN] at h
  refine wp_mono h ?_
  intro e a' w' q
  cases e<;>exact q
theorem sY{P:Program} :∀ (c:Code) {K:Exit→Act→World→Prop} {a:Act} {w:World},GN P (dU c) K a w→c.wp P K a w
  | .seq x y,K,a,w,h=>by
    simp only [dU] at h
    refine wp_seq (sY x ?_)
    have app:∀ (l l':List Code) (a:Act) (w:World),GN P (l++l') K a w→GN P l (fun e a' w'=>match e with | .normal=>GN P l' K a' w' | e=>K e a' w') a w:=by
      intro l
      induction l with
      | nil=>intro l' a w h;exact h
      | cons c l ih =>
        intro l' a w h
        simp only [List.cons_append,GN] at h ⊢
        refine wp_mono h ?_
        intro e a' w' q
        cases e<;>first | exact ih l' a' w' q | exact q
    have:=app _ _ _ _ h
    have mono:∀ (l:List Code) (K K':Exit→Act→World→Prop) (a:Act) (w:World),(∀ e a w,K e a w→K' e a w)→GN P l K a w→GN P l K' a w:=by
      intro l
      induction l with
      | nil=>intro K K' a w hK h;exact hK _ _ _ h
      | cons c l ih =>
        intro K K' a w hK h
        simp only [GN] at h ⊢
        refine wp_mono h ?_
        intro e a' w' q
        cases e<;>first | exact ih K K' a' w' hK q | exact hK _ _ _ q
    refine mono _ _ _ _ _ ?_ this
    intro e a' w' q
    cases e<;>first | exact sY y q | exact q
  | .skip,K,a,w,h=>wp_skip h
  | .label _,K,a,w,h=>wp_label h
  | .region ..,K,a,w,h=>rD h
  | .cond ..,K,a,w,h=>rD h
  | .block ..,K,a,w,h=>rD h
  | .loop ..,K,a,w,h=>rD h
  | .exit ..,K,a,w,h=>rD h
  | .ret,K,a,w,h=>rD h
  | .scope ..,K,a,w,h=>rD h
  | .goto ..,K,a,w,h=>rD h
  | .rangeFunc ..,K,a,w,h=>rD h
  | .refuse ..,K,a,w,h=>rD h
def gj(P:Program)(lent:List aC)(cs:List Code)(st:aG)(Q:AE→aG→Prop) :Prop :=
  ∀ (ρ0:ak) (w0:World),lu ρ0 w0 lent→∀ (K:Exit→Act→World→Prop),(∀ e st' a' w',Q e st'→At lent.length ρ0 w0 st' a' w'→K e.real a' w')→∀ a w,At lent.length ρ0 w0 st a w→GN P cs K a w
def RT(self:qR) :List Code→aG→fW→Ve
  | [],st,p=>some (.normal,st,[],p)
  | c::l,st,p =>
    match self c st p with
    | some (.normal,st1,o1,p1) =>
      match RT self l st1 p1 with
      | some (e,st2,o2,p2)=>some (e,st2,o1++o2,p2)
      | none=>none
    | r=>r
theorem QZ{P:Program}{self:qR}(hself:EK P self) :∀ (cs:List Code) {st st':aG} {p p':fW} {e:AE} {obs:List Bool},RT self cs st p=some (e,st',obs,p')→aB obs→∀ {ρ:ak} {a:Act} {w:World} {Q:Exit→Act→World→Prop},SR ρ st a w →
    (∀ ρ' a' w',vt ρ w st.next st' ρ' a' w'→Q e.real a' w')→GN P cs Q a w
  | [],st,st',p,p',e,obs,h,ho,ρ,a,w,Q,hs,hQ=>by
    simp only [RT,Option.some.injEq,Prod.mk.injEq] at h;obtain ⟨rfl,rfl,rfl,rfl⟩:=h
    exact hQ ρ a w (vt.refl hs)
  | c::l,st,st',p,p',e,obs,h,ho,ρ,a,w,Q,hs,hQ=>by
    simp only [RT] at h
    split at h
    · rename_i st1 o1 p1 h1
      split at h
      case h_2=>cases h
      rename_i e2 st2 o2 p2 h2
      simp only [Option.some.injEq,Prod.mk.injEq] at h;obtain ⟨rfl,rfl,rfl,rfl⟩:=h
      rw [a5] at ho
      refine hself c st p _ _ _ _ h1 ho.1 ρ a w _ hs fun ρ1 a1 w1 P1=>?_
      exact QZ hself l h2 ho.2 P1.sr fun ρ2 a2 w2 P2=>hQ ρ2 a2 w2 (P1.trans P2)
    · rename_i hne
      refine hself c st p _ _ _ _ h ho ρ a w _ hs fun ρ1 a1 w1 P1=>?_
      have:=hQ ρ1 a1 w1 P1
      cases e with
      | normal=>exact (hne _ _ _ h).elim
      | ret=>exact this
      | exit id=>exact this
theorem At.post{lent:List aC}{ρ0 ρ ρ':ak}{w0 w w':World}{st st':aG}{a a':Act}(E:lH ρ0 ρ w0)(W:iu ρ0.live w0 w)(hbk:∀ i,i<lent.length→ρ.ok i→ρ0.ok i)(hle:lent.length≤st.next)(h:vt ρ w st.next st' ρ' a' w') :At lent.length ρ0 w0 st' a' w' :=
  ⟨ρ',E.trans h.ext W.size,W.trans h.wle (fun x hx q=>E.new x hx q),h.sr,fun i hi q=>(h.back i q).elim (hbk i hi) (fun r=>by omega),Nat.le_trans hle h.le⟩
theorem gj.weak{P:Program}{lent:List aC}{cs:List Code}{st st1:aG}{Q:AE→aG→Prop}(hs:RP lent st st1)(h:gj P lent cs st1 Q) :gj P lent cs st Q :=
  fun ρ0 w0 hN K hK a w hA=>h ρ0 w0 hN K hK a w (hs _ _ _ _ hN hA)
theorem gj.nil{P:Program}{lent:List aC}{st:aG}{Q:AE→aG→Prop}(h:Q .normal st) :gj P lent [] st Q :=
  fun ρ0 w0 hN K hK a w hA=>hK .normal st a w h hA
def G0(P:Program)(lent:List aC)(rest:List Code)(e:AE)(st:aG)(Q:AE→aG→Prop) :Prop :=
  match e with
  | .normal=>gj P lent rest st Q
  | e=>Q e st
theorem G0.exit{P:Program}{lent:List aC}{rest:List Code}{id:Nat}{st:aG}{Q:AE→aG→Prop}(h:Q (.exit id) st) :G0 P lent rest (.exit id) st Q:=h
theorem G0.ret{P:Program}{lent:List aC}{rest:List Code}{st:aG}{Q:AE→aG→Prop}(h:Q .ret st) :G0 P lent rest .ret st Q:=h
theorem G0.normal{P:Program}{lent:List aC}{rest:List Code}{st:aG}{Q:AE→aG→Prop}(h:gj P lent rest st Q) :G0 P lent rest .normal st Q:=h
def S4(s:NS)(r:Ve) :Option (AE×aG×List Bool) :=
  match r with
  | some (e,st,obs,_)=>some (e,s.on st,obs)
  | none=>none
theorem gj.seg{C:yD}(hC:C.Ok){S:z4}(hS:bj C.P S){lent:List aC}{N n:Nat}(k:Nat)(p:fW)(s:NS){cs:List Code}{st st1:aG}{e:AE}{obs:List Bool}{Q:AE→aG→Prop} 
    (h:S4 s (RT (gr C S N n) (cs.take k) st p)=some (e,st1,obs)) (hn:s.ok lent.length=true) (ho:aB obs) (hr:G0 C.P lent (cs.drop k) e st1 Q):gj C.P lent cs st Q:=by
  intro ρ0 w0 hN K hK a w ⟨ρ,E,W,S1,hbk,hle⟩
  rw [←List.take_append_drop k cs]
  apply yG
  unfold S4 at h
  split at h
  case h_2=>cases h
  rename_i e' st2 obs' p' hrun
  simp only [Option.some.injEq,Prod.mk.injEq] at h;obtain ⟨rfl,rfl,rfl⟩:=h
  refine QZ (sV hC hS N n) _ hrun ho S1 fun ρ' a' w' P1=>?_
  have hA:=S3 hn st2 ρ0 w0 a' w' hN (At.post (st:=st) (a:=a) E W hbk hle P1)
  cases e' with
  | normal=>exact hr ρ0 w0 hN K hK a' w' hA
  | ret=>exact hK _ _ _ _ hr hA
  | exit id=>exact hK _ _ _ _ hr hA
def z6(P:Program)(lent:List aC){σ:Type}(I:σ→aG)(G:σ→Prop)(m:σ→Nat)(s:σ)(id:Nat)(rest:List Code)(Q:AE→aG→Prop)(e:AE)(st:aG) :Prop :=
  match e with
  | .normal=>∃ s',G s'∧m s'<m s∧st=I s'
  | .exit j=>if j=id then gj P lent rest st Q else Q (.exit j) st
  | .ret=>Q .ret st
theorem z6.out{P:Program}{lent:List aC}{σ:Type}{I:σ→aG}{G:σ→Prop}{m:σ→Nat}{s:σ}{id:Nat}{rest:List Code}{Q:AE→aG→Prop}{st:aG}(h:gj P lent rest st Q) :z6 P lent I G m s id rest Q (.exit id) st:=by
  simp only [z6,if_true];exact h
theorem z6.on{P:Program}{lent:List aC}{σ:Type}{I:σ→aG}{G:σ→Prop}{m:σ→Nat}{s:σ}{id:Nat}{rest:List Code}{Q:AE→aG→Prop}{st:aG}(s':σ)(hs:st=I s')(hm:m s'<m s)(hG:G s') :gj P lent [] st (z6 P lent I G m s id rest Q) :=
  gj.nil ⟨s',hG,hm,hs⟩
theorem gj.loop{P:Program}{lent:List aC}{σ:Type}(I:σ→aG)(G:σ→Prop)(m:σ→Nat){id:Nat}{b:Code}{cs rest:List Code}{Q:AE→aG→Prop}(hcs:cs=.block id (.loop b)::rest) 
    (body:∀ s,G s→gj P lent (dU b) (I s) (z6 P lent I G m s id rest Q)) (s:σ) (hs:G s):gj P lent cs (I s) Q:=by
  subst hcs
  intro ρ0 w0 hN K hK a w hA
  simp only [GN]
  refine wp_block ?_
  refine wp_loop_rounds (m s+1) ?_
  have key:∀ n s,m s<n→G s→∀ a w,At lent.length ρ0 w0 (I s) a w→Code.rounds P b (Exit.inBlock id fun (e:Exit) a' w'=>match e with | .normal=>GN P rest K a' w' | e=>K e a' w') n a w:=by
    intro n
    induction n with
    | zero=>intro s h;omega
    | succ n ih =>
      intro s hm hs a w hA
      rw [rounds_succ]
      refine sY b ?_
      refine body s hs ρ0 w0 hN _ ?_ a w hA
      intro e st' a' w' hR hA'
      cases e with
      | normal =>
        obtain ⟨s',h1,h2,rfl⟩:=hR
        exact ih s' (by omega) h1 a' w' hA'
      | ret=>exact hK _ _ _ _ hR hA'
      | exit j =>
        simp only [z6] at hR
        by_cases hj:j=id
        · subst hj
          rw [if_pos rfl] at hR
          simp only [AE.real,Exit.then,Exit.inBlock,if_true]
          exact hR ρ0 w0 hN K hK a' w' hA'
        · rw [if_neg hj] at hR
          simp only [AE.real,Exit.then,Exit.inBlock,hj,if_false]
          exact hK _ _ _ _ hR hA'
  exact key _ s (Nat.lt_succ_self _) hs a w hA
theorem gj.mono{P:Program}{lent:List aC}{cs:List Code}{st:aG}{Q Q':AE→aG→Prop}(hQ:∀ e st,Q e st→Q' e st)(h:gj P lent cs st Q) :gj P lent cs st Q' :=
  fun ρ0 w0 hN K hK a w hA=>h ρ0 w0 hN K (fun e st' a' w' q hA'=>hK e st' a' w' (hQ e st' q) hA') a w hA
theorem gj.block{P:Program}{lent:List aC}{id:Nat}{b:Code}{cs rest:List Code}{st:aG}{Q:AE→aG→Prop}(hcs:cs=.block id b::rest) 
    (h:gj P lent (dU b) st fun e st'=>match e with | .normal=>gj P lent rest st' Q | .exit j=>if j=id then gj P lent rest st' Q else Q (.exit j) st' | .ret=>Q .ret st'):gj P lent cs st Q:=by
  subst hcs
  intro ρ0 w0 hN K hK a w hA
  simp only [GN]
  refine wp_block (sY b ?_)
  refine h ρ0 w0 hN _ ?_ a w hA
  intro e st' a' w' hR hA'
  cases e with
  | normal=>exact hR ρ0 w0 hN K hK a' w' hA'
  | ret=>exact hK _ _ _ _ hR hA'
  | exit j =>
    simp only at hR
    by_cases hj:j=id
    · subst hj
      rw [if_pos rfl] at hR
      simp only [AE.real,Exit.inBlock,if_true]
      exact hR ρ0 w0 hN K hK a' w' hA'
    · rw [if_neg hj] at hR
      simp only [AE.real,Exit.inBlock,hj,if_false]
      exact hK _ _ _ _ hR hA'
theorem gj.scope{P:Program}{lent:List aC}{b:Code}{cs rest:List Code}{st:aG}{Q:AE→aG→Prop}(hcs:cs=.scope b::rest) 
    (h:gj P lent (dU b) st fun e st'=>G0 P lent rest e st' Q):gj P lent cs st Q:=by
  subst hcs
  intro ρ0 w0 hN K hK a w hA
  simp only [GN]
  refine wp_scope_straight (sY b ?_)
  refine h ρ0 w0 hN _ ?_ a w hA
  intro e st' a' w' hR hA'
  cases e with
  | normal=>exact hR ρ0 w0 hN K hK a' w' hA'
  | ret=>exact hK _ _ _ _ hR hA'
  | exit j=>exact hK _ _ _ _ hR hA'
def Q0(P:Program)(fn:Func)(k:Nat)(keep:Bool)(r:jj)(e:AE)(st:aG) :Prop :=
  (e=.normal∨e=.ret)∧∃ vs obs,iA P fn st fn.results.toList=some (vs,obs)∧aB obs∧EI k keep st.heap (Br vs)=some r
theorem gj.contract{P:Program}{f:FuncId}{fn:Func}{c:Code}(hf:P.funcs[f]? = some fn)(hc:fn.body=some c){lent:List aC}{args:List AV}{r:jj}{keep:Bool} 
    (h:gj P lent (dU c) (n8 fn lent args) (Q0 P fn lent.length keep r)):ai P f lent args r:=by
  refine vA (keep:=keep) hf hc ?_
  intro ρ w a hN hs
  refine sY c ?_
  refine h ρ w hN _ ?_ a w ⟨ρ,lH.refl _ _,iu.refl _ _,hs,fun _ _ q=>q,Nat.le_refl _⟩
  rintro e st' a' w' ⟨he,vs,obs,h1,h2,h3⟩ ⟨ρ',E,W,S,hbk,_⟩
  refine ⟨?_,ρ',st',vs,obs,E,W,hbk,S,h1,h2,h3⟩
  rcases he with rfl | rfl
  · exact .inl rfl
  · exact .inr rfl
def aL(x:Nat) :Nat:=x%9223372036854775808
def kd(x y:Nat) :Nat:=x%9223372036854775808+y/9223372036854775808%2*9223372036854775808
def xU(x y:Nat) :Bool:=(isNaN x&&isNaN y)||x==y
theorem lz(x:Nat) :BitVec.ofInt 64 (x:Int)=BitVec.ofNat 64 x:=by simp
theorem UA : ~~~ BitVec.ofInt 64 9223372036854775808=BitVec.ofNat 64 (2^63-1):=by decide
theorem fa(n:Nat) :IntKind.u64.wrap (n:Int)=((n%18446744073709551616:Nat):Int):=by
  simp [IntKind.wrap,IntKind.signed,IntKind.bits]
theorem S5(x:Nat) :(cA .andNot .u64 (x:Int) 9223372036854775808)=((aL x:Nat):Int):=by
  have e:(BitVec.ofInt IntKind.u64.bits (x:Int) &&& ~~~ BitVec.ofInt IntKind.u64.bits 9223372036854775808).toNat=x%9223372036854775808:=by
    show (BitVec.ofInt 64 (x:Int) &&& ~~~ BitVec.ofInt 64 9223372036854775808).toNat=_
    rw [UA,lz,BitVec.toNat_and,BitVec.toNat_ofNat,BitVec.toNat_ofNat]
    have:(2^63-1)%2^64=2^63-1:=by decide
    rw [this,Nat.and_two_pow_sub_one_eq_mod]
    omega
  unfold cA
  simp only
  rw [e,fa]
  congr 1
  unfold aL
  omega
theorem VD(y:Nat) :(cA .and .u64 (y:Int) 9223372036854775808)=((y/9223372036854775808%2*9223372036854775808:Nat):Int):=by
  have e:(BitVec.ofInt IntKind.u64.bits (y:Int) &&& BitVec.ofInt IntKind.u64.bits 9223372036854775808).toNat=y/9223372036854775808%2*9223372036854775808:=by
    show (BitVec.ofInt 64 (y:Int) &&& BitVec.ofInt 64 9223372036854775808).toNat=_
    have h1:BitVec.ofInt 64 9223372036854775808=BitVec.ofNat 64 (2^63):=by decide
    rw [h1,lz,BitVec.toNat_and,BitVec.toNat_ofNat,BitVec.toNat_ofNat]
    have:2^63%2^64=2^63:=by decide
    rw [this]
    apply Nat.eq_of_testBit_eq;intro i
    have e2:(9223372036854775808:Nat)=2^63:=by decide
    rw [e2,Nat.testBit_and,Nat.testBit_two_pow,Nat.testBit_mod_two_pow,Nat.testBit_mul_two_pow]
    by_cases hi:63=i
    · subst hi
      simp [Nat.testBit_eq_decide_div_mod_eq]
    · by_cases h2:63≤i
      · have h3:∃ j,i-63=j+1:=⟨i-64,by omega⟩
        obtain ⟨j,hj⟩:=h3
        have:(y/2^63%2).testBit (i-63)=false:=by
          have:=Nat.mod_lt (y/2^63) (by decide:2>0)
          apply Nat.testBit_lt_two_pow
          calc y/2^63%2<2:=this
            _=2^1:=rfl
            _≤2^(i-63):=Nat.pow_le_pow_right (by decide) (by omega)
        simp [hi,this]
      · simp [hi,h2]
  unfold cA
  simp only
  rw [e,fa]
  congr 1
  omega
theorem UB(x:Nat) :(IntKind.u64.wrap ((x:Int)*2^min (Int.toNat 1) IntKind.u64.bits)).fdiv (2^min (Int.toNat 1) IntKind.u64.bits)=((aL x:Nat):Int):=by
  have h1:min (Int.toNat 1) IntKind.u64.bits=1:=by decide
  have h2:(2:Int)^1=2:=by decide
  rw [h1,h2]
  have h3:(x:Int)*2=((x*2:Nat):Int):=by push_cast;rfl
  rw [h3,fa,Int.fdiv_eq_ediv_of_nonneg _ (by decide:(0:Int)≤2)]
  unfold aL
  omega
theorem Wj(x y:Nat) :cA .or .u64 ((aL x:Nat):Int) ((y/9223372036854775808%2*9223372036854775808:Nat):Int)=((kd x y:Nat):Int):=by
  have e:(BitVec.ofInt IntKind.u64.bits ((aL x:Nat):Int) ||| BitVec.ofInt IntKind.u64.bits ((y/9223372036854775808%2*9223372036854775808:Nat):Int)).toNat=kd x y:=by
    show (BitVec.ofInt 64 ((aL x:Nat):Int) ||| BitVec.ofInt 64 ((y/9223372036854775808%2*9223372036854775808:Nat):Int)).toNat=_
    rw [lz,lz,BitVec.toNat_or,BitVec.toNat_ofNat,BitVec.toNat_ofNat]
    unfold aL kd
    have hb0:=Nat.mod_lt (y/9223372036854775808) (by decide:2>0)
    generalize y/9223372036854775808%2=b at *
    have e2:(9223372036854775808:Nat)=2^63:=by decide
    have l1:x%9223372036854775808%2^64=x%9223372036854775808:=by omega
    rw [l1]
    rcases Nat.lt_or_ge b 2 with hb | hb
    · have l2:b*9223372036854775808%2^64=b*9223372036854775808:=by omega
      rw [l2,Nat.or_comm,Nat.add_comm,e2,Nat.mul_comm b,Nat.two_pow_add_eq_or_of_lt (Nat.mod_lt _ (by decide))]
    · omega
  unfold cA
  simp only
  rw [e,fa]
  congr 1
  unfold kd
  have:=Nat.mod_lt x (by decide:9223372036854775808>0)
  have:=Nat.mod_lt (y/9223372036854775808) (by decide:2>0)
  omega
theorem ES(x:Nat) :isNaN (aL x)=isNaN x:=by
  rw [ow,ow];unfold aL;rw [Nat.mod_mod]
theorem qU(x y:Nat) :isNaN (kd x y)=isNaN x:=by
  rw [ow,ow];unfold kd
  rw [Nat.add_mul_mod_self_right,Nat.mod_mod]
theorem S6{ex:Bool}{x y:Nat}(h:FR ex x y) :FR false (aL x) (aL y):=by
  rcases h with rfl | ⟨h1,h2,h3⟩
  · exact .inl rfl
  · exact .inr ⟨rfl,by rw [ES];exact h2,by rw [ES];exact h3⟩
theorem FR.copy{e1 e2:Bool}{x y x' y':Nat}(h:FR e1 x x')(k:FR e2 y y')(hn:isNaN y=true→isNaN x=true) :FR false (kd x y) (kd x' y'):=by
  rcases h with rfl | ⟨h1,h2,h3⟩
  · rcases k with rfl | ⟨k1,k2,k3⟩
    · exact .inl rfl
    · exact .inr ⟨rfl,by rw [qU];exact hn k2,by rw [qU];exact hn k2⟩
  · exact .inr ⟨rfl,by rw [qU];exact h2,by rw [qU];exact h3⟩
theorem FR.same{e1 e2:Bool}{x y x' y':Nat}(h:FR e1 x x')(k:FR e2 y y') :xU x' y'=xU x y:=by
  unfold xU
  rcases h with rfl | ⟨h1,h2,h3⟩
  · rcases k with rfl | ⟨k1,k2,k3⟩
    · rfl
    · rw [k2,k3]
      cases hx:isNaN x' with
      | true=>rfl
      | false =>
        have a:(x'==y')=false:=by
          rw [beq_eq_false_iff_ne];intro e;rw [e] at hx;rw [hx] at k3;cases k3
        have b:(x'==y)=false:=by
          rw [beq_eq_false_iff_ne];intro e;rw [e] at hx;rw [hx] at k2;cases k2
        rw [a,b]
  · rcases k with rfl | ⟨k1,k2,k3⟩
    · rw [h2,h3]
      cases hx:isNaN y' with
      | true=>rfl
      | false =>
        have a:(x'==y')=false:=by
          rw [beq_eq_false_iff_ne];intro e;rw [e] at h3;rw [hx] at h3;cases h3
        have b:(x==y')=false:=by
          rw [beq_eq_false_iff_ne];intro e;rw [e] at h2;rw [hx] at h2;cases h2
        rw [a,b]
    · rw [h2,h3,k2,k3];rfl
theorem jj.Holds.weak{ρ:ak}{w w':World}{k:Nat}{v v':AV}{own:List (Option aC)}{u:Value}(h:(⟨v,own⟩:jj).Holds ρ w w' k u)(hw:∀ ρ w,VR ρ w v u→VR ρ w v' u) :(⟨v',own⟩:jj).Holds ρ w w' k u:=by
  obtain ⟨ρ',h1,h2,h3,h4⟩:=h
  exact ⟨ρ',h1,h2,h3,hw _ _ h4⟩
theorem ut{P:Program}{f:FuncId}{ex:Bool}{x:Nat}{r:Nat→AV}{r':AV}(h:∀ y,ai P f [] [.flt true y] ⟨r y,[]⟩) 
    (hw:∀ y,FR ex x y→∀ ρ w u,VR ρ w (r y) u→VR ρ w r' u):ai P f [] [.flt ex x] ⟨r',[]⟩:=by
  intro ρ w us hN hv
  cases hv with | cons _ u _ _ h1 h2 =>
  cases h2
  cases h1 with | flt _ _ y hf =>
  obtain ⟨q1,q2⟩:=h y ρ w [.float .f64 y] hN (.cons _ _ _ _ (.flt _ _ _ (.inl rfl)) .nil)
  refine ⟨q1,q2.mono ?_⟩
  rintro e w' ⟨u,rfl,W,hu⟩
  exact ⟨u,rfl,W,hu.weak fun ρ w=>hw y hf ρ w u⟩
theorem uu{P:Program}{f:FuncId}{e1 e2:Bool}{x1 x2:Nat}{r:Nat→Nat→AV}{r':AV}(h:∀ y1 y2,ai P f [] [.flt true y1,.flt true y2] ⟨r y1 y2,[]⟩) 
    (hw:∀ y1 y2,FR e1 x1 y1→FR e2 x2 y2→∀ ρ w u,VR ρ w (r y1 y2) u→VR ρ w r' u):ai P f [] [.flt e1 x1,.flt e2 x2] ⟨r',[]⟩:=by
  intro ρ w us hN hv
  cases hv with | cons _ u _ _ h1 h2 =>
  cases h2 with | cons _ u _ _ h3 h4 =>
  cases h4
  cases h1 with | flt _ _ y1 hf1 =>
  cases h3 with | flt _ _ y2 hf2 =>
  obtain ⟨q1,q2⟩:=h y1 y2 ρ w [.float .f64 y1,.float .f64 y2] hN (.cons _ _ _ _ (.flt _ _ _ (.inl rfl)) (.cons _ _ _ _ (.flt _ _ _ (.inl rfl)) .nil))
  refine ⟨q1,q2.mono ?_⟩
  rintro e w' ⟨u,rfl,W,hu⟩
  exact ⟨u,rfl,W,hu.weak fun ρ w=>hw y1 y2 hf1 hf2 ρ w u⟩
theorem VR.flt_weak{ρ:ak}{w:World}{x y:Nat}{u:Value}(h:VR ρ w (.flt true y) u)(hf:FR false x y) :VR ρ w (.flt false x) u:=by
  cases h with | flt _ _ z hz =>
  rcases hz with rfl | ⟨h1,_⟩
  · exact .flt _ _ _ hf
  · cases h1
theorem vC(x:Nat) :Rx x x=isNaN x:=by
  cases h:isNaN x with
  | true=>unfold Rx;rw [zC (.inl h)];rfl
  | false =>
    simp only [Rx,qI]
    unfold isNaN FloatKind.decode at h
    unfold Ieee.Format.order
    generalize FloatKind.f64.format.read x=d at h
    cases d with
    | nan=>simp [Ieee.Datum.isNaN] at h
    | infinity s=>simp [Ieee.Datum.order]
    | number s m i=>simp [Ieee.Datum.order]
structure aK where
  f:FuncId
  on:List aC→List AV→Option (List qb)
def bv:List aK→z4
  | [],_,_,_=>none
  | e::l,f,lent,args=>bif Nat.beq e.f f then (match e.on lent args with | some r=>some r | none=>bv l f lent args) else bv l f lent args
def aQ(P:Program)(e:aK) :Prop:=∀ lent args alts a,e.on lent args=some alts→a∈alts→aB a.obs→ai P e.f lent args a.out
theorem ET(P:Program) :bj P (bv []):=fun f lent args alts a h=>by cases h
theorem ax{P:Program}{e:aK}{l:List aK}(he:aQ P e)(hl:bj P (bv l)) :bj P (bv (e::l)):=by
  intro f lent args alts a h ha ho
  simp only [bv] at h
  cases hb:Nat.beq e.f f with
  | false=>rw [hb] at h;exact hl f lent args alts a h ha ho
  | true =>
    rw [hb] at h
    have:=Nat.eq_of_beq_eq_true hb
    subst this
    simp only [cond_true] at h
    split at h
    · rename_i r hr
      cases h
      exact he lent args alts a hr ha ho
    · exact hl _ lent args alts a h ha ho
def one(v:AV)(obs:List Bool) :Option (List qb):=some [⟨⟨v,[]⟩,obs⟩]
def S7(v:AV)(own:List (Option aC))(obs:List Bool) :Option (List qb):=some [⟨⟨v,own⟩,obs⟩]
theorem RU{P:Program}{f:FuncId}{lent:List aC}{args:List AV}{alts:List qb}{a:qb}{v:AV}{own:List (Option aC)}{obs:List Bool}(h:S7 v own obs=some alts)(ha:a∈alts)(ho:aB a.obs) 
    (hc:aB obs→ai P f lent args ⟨v,own⟩):ai P f lent args a.out:=by
  simp only [S7,Option.some.injEq] at h;subst h
  simp only [List.mem_singleton] at ha;subst ha
  exact hc ho
theorem ni{P:Program}{f:FuncId}{lent:List aC}{args:List AV}{alts:List qb}{a:qb}{v:AV}{obs:List Bool}(h:one v obs=some alts)(ha:a∈alts)(ho:aB a.obs) 
    (hc:aB obs→ai P f lent args ⟨v,[]⟩):ai P f lent args a.out:=RU (own:=[]) h ha ho hc
theorem ai.run{C:yD}(hC:C.Ok){S:z4}(hS:bj C.P S)(p:fW){f:FuncId}{lent:List aC}{args:List AV}{p':fW}{r:jj}{obs:List Bool}(N n:Nat)(h:qc C S (gr C S N n) f lent args p=some (r,obs,p'))(ho:aB obs) :
    ai C.P f lent args r:=Dn hC hS N n h ho
theorem ob{b:Bool}{l:List Bool}(h:b=true)(t:aB l) :aB (b::l):=⟨h,t⟩
theorem WI:aB []:=trivial
inductive fJ:List AV→List AV→Prop
  | nil:fJ [] []
  | cons {v v':AV} {l l':List AV} (h:aP v v') (t:fJ l l'):fJ (v::l) (v'::l')
theorem fJ.vrs{ρ:ak}{w:World} :∀ {l l':List AV} {c:List Value},fJ l l'→dT ρ w l c→dT ρ w l' c
  | _,_,_,.nil,.nil=>.nil
  | _,_,_,.cons h t,.cons _ _ _ _ hv tv=>.cons _ _ _ _ (h _ _ _ hv) (fJ.vrs t tv)
theorem fJ.refl:∀ l:List AV,fJ l l
  | []=>.nil
  | v::l=>.cons (aP.refl v) (fJ.refl l)
theorem aP.agg{l l':List AV}(h:fJ l l') :aP (.agg l) (.agg l'):=by
  intro ρ w u hv;cases hv with | agg _ _ hl=>exact .agg _ _ (h.vrs hl)
theorem aP.tup{l l':List AV}(h:fJ l l') :aP (.tup l) (.tup l'):=by
  intro ρ w u hv;cases hv with | tup _ _ hl=>exact .tup _ _ (h.vrs hl)
theorem ai.args{P:Program}{f:FuncId}{lent:List aC}{a a':List AV}{r:jj}(h:ai P f lent a' r)(ha:fJ a a') :ai P f lent a r :=
  fun ρ w us hN hv=>h ρ w us hN (ha.vrs hv)
theorem ai.weak{P:Program}{f:FuncId}{lent:List aC}{a:List AV}{v v':AV}{own:List (Option aC)}(h:ai P f lent a ⟨v,own⟩)(hw:aP v v') :ai P f lent a ⟨v',own⟩:=by
  intro ρ w us hN hv
  obtain ⟨q1,q2⟩:=h ρ w us hN hv
  refine ⟨q1,q2.mono ?_⟩
  rintro e w' ⟨u,rfl,W,hu⟩
  exact ⟨u,rfl,W,hu.weak fun ρ w=>hw ρ w u⟩
theorem yH(k k' b:Bool) :aP (.bool k b) (.bool k' b):=by
  intro ρ w u h;cases h;exact .bool _ _
end Go.Plb
namespace Go.Plb
open Go.ChangeShapes Go.WideShapes Go.ChangeAt Go.RowKit Go.Deep
set_option linter.unusedSimpArgs false
set_option linter.unusedVariables false
set_option linter.unusedSectionVars false
variable [Rom]
def ak.none_:ak:={ at_:=fun _=>0,live:=fun _=>False,out:=fun _ _=>False,ok:=fun _=>False }
theorem UC(w:World)(hr:∀ x∈Rom.tab,VR ak.none_ w (.iptr .free x.2 1 0 0) (.pointer (some ⟨x.1,0,none⟩))) :lu ak.none_ w [] :=
  ⟨⟨fun b d q=>by simp [dM,aV] at q,fun b c d e q=>by simp [dM,aV] at q,fun bl q=>q.elim,fun bl q=>q.elim,fun j bl q=>q.elim,fun b q=>q.elim,hr⟩,fun bl q=>q.elim⟩
theorem yI(l:Lv)(bl:Nat) :ak.none_.avoid l bl:=iL (fun j=>by cases j<;>exact id) l 0
inductive FA where
  | i (k:IntKind) (n:Int)
  | f (x:Nat)
  | s (b:ByteArray)
  | b (b:Bool)
  | fl (xs:List Nat)
  | ns (k:IntKind) (xs:List Int)
def FA.av:FA→AV
  | .i k n=>.int k n
  | .f x=>.flt true x
  | .s z=>.str z
  | .b z=>.bool false z
  | .fl xs=>.imm .free (.fl xs) 1 1 0 xs.length
  | .ns k xs=>.imm .free (.ns k xs) 1 1 0 xs.length
theorem FA.kept(a:FA) :a.av.kept=true:=by cases a<;>rfl
inductive FT where
  | i (k:IntKind)
  | f
  | s
  | b
  | fl
  | ns (k:IntKind)
def FA.has:FT→FA→Prop
  | .i k,.i k' n=>k'=k∧(Lit.int k n).wf=true
  | .f,.f x=>(Lit.float .f64 x).wf=true
  | .s,.s z=>z.size≤maxLen
  | .b,.b _=>True
  | .fl,.fl xs=>xs.length≤maxLen∧∀ x∈xs,(Lit.float .f64 x).wf=true
  | .ns k,.ns k' xs=>k'=k∧xs.length≤maxLen∧∀ n∈xs,(Lit.int k n).wf=true
  | _,_=>False
def UD(P:Program)(t:TypeId) :Option FT :=
  match P.underlying t with
  | some (.int k)=>some (.i k)
  | some (.float .f64)=>some .f
  | some .string=>some .s
  | some .bool=>some .b
  | some (.slice e) =>
    match P.underlying e,P.cellsOf e with
    | some (.float .f64),1=>some .fl
    | some (.int k),1=>some (.ns k)
    | _,_=>none
  | _=>none
def JA:Value→Nat
  | .float _ b=>b
  | _=>0
def JB:Value→Int
  | .int _ n=>n
  | _=>0
theorem CF{W:World}{a:Addr}{i:Nat}{v:Value}(c:W.cell? (a.add i)=some v)(h0:a.spot=none) :a.add i=⟨a.block,a.off+i,none⟩:=by
  cases a;simp only at h0;subst h0
  unfold Addr.add;split
  · rename_i q;subst q;rfl
  · rfl
theorem z7{W:World}{a:Addr}{v:Value}(c:W.cell? a=some v) :a.spot=none:=by
  unfold World.cell? at c
  split at c
  · cases q:a.spot with
    | none=>rfl
    | some s=>rw [q] at c;simp at c
  · cases c
theorem EU{W:World}{a:Addr}{v:Value}(c:W.cell? a=some v) :a.block<W.heap.size:=by
  unfold World.cell? at c
  split at c
  · rename_i q;exact (Array.getElem?_eq_some_iff.1 q).1
  · cases c
theorem lT{α:Type}(f:Nat→α)(n x:Nat)(y:α)(h:((List.range n).map f)[x]? = some y) :x<n∧y=f x:=by
  rw [List.getElem?_map] at h
  rcases Nat.lt_or_ge x n with q | q
  · rw [List.getElem?_range q] at h;simp only [Option.map_some,Option.some.injEq] at h;exact ⟨q,h.symm⟩
  · rw [List.getElem?_eq_none (by simpa using q)] at h;cases h
variable {H : Type} {enc : TypeId × Value → H} {P : Program} {W : World}
theorem RV{t : TypeId}{ft : FT}{fuel : Nat}{v : Value}{x : DataW H × List MemPlace}(ht : UD P t = some ft)(h : DataW.trod enc P W 0 (fun _ => true) true fuel t [v] = some x) :
    ∃ a:FA,a.has ft∧VR ak.none_ W a.av v:=by
  cases fuel with
  | zero=>simp [DataW.trod] at h
  | succ fuel =>
  have h0:=h
  unfold UD at ht
  split at ht
  · rename_i k hk
    cases ht
    simp only [DataW.trod,hk] at h
    cases v<;>simp at h
    rename_i k' n
    obtain ⟨⟨rfl,hw⟩,_⟩:=h
    exact ⟨.i k' n,⟨rfl,hw⟩,.int _ _⟩
  · rename_i hk
    cases ht
    simp only [DataW.trod,hk] at h
    cases v<;>simp at h
    rename_i k b
    obtain ⟨⟨rfl,hw⟩,_⟩:=h
    exact ⟨.f b,hw,.flt _ _ _ (.inl rfl)⟩
  · rename_i hk
    cases ht
    simp only [DataW.trod,hk] at h
    cases v<;>simp at h
    exact ⟨.s _,h.1,.str _⟩
  · rename_i hk
    cases ht
    simp only [DataW.trod,hk] at h
    cases v<;>simp at h
    exact ⟨.b _,trivial,.bool _ _⟩
  · rename_i e hk
    have key:∀ (he:P.cellsOf e=1),(v=.slice none 0 0)∨∃ (a:Addr) (len cap n:Nat) (V:Nat→Value),v=.slice (some a) len cap∧len≤cap∧cap≤maxLen ∧
        ∀ i,i<len→∃ y,W.cell? (a.add i)=some (V i)∧DataW.trod enc P W 0 (fun _=>true) true n e [V i]=some y:=by
      intro he
      rcases open_slice1 hk he h0 with ⟨h1,_⟩ | ⟨a,len,cap,m,n,V,D,Pl,h1,hb,hl,hm,hmm,_,hx⟩
      · simp only [List.cons.injEq,and_true] at h1
        exact .inl h1
      · simp only [List.cons.injEq,and_true] at h1
        refine .inr ⟨a,len,cap,n,V,h1,hl,hm,fun i hi=>⟨_,hx i (by rw [hmm,if_pos rfl];omega)⟩⟩
    split at ht
    · rename_i he hc
      cases ht
      rcases key hc with rfl | ⟨a,len,cap,n,V,rfl,hl,hm,hx⟩
      · exact ⟨.fl [],⟨Nat.zero_le _,fun x hx=>by cases hx⟩,.immEnd _ _ _ _ _ _ _ trivial (fun _=>rfl) rfl⟩
      · have hV:∀ i,i<len→V i=.float .f64 (JA (V i))∧(Lit.float .f64 (JA (V i))).wf=true:=by
          intro i hi
          obtain ⟨y,c1,c2⟩:=hx i hi
          cases n with
          | zero=>simp [DataW.trod] at c2
          | succ n =>
            simp only [DataW.trod,he] at c2
            cases hV:V i<;>rw [hV] at c2<;>simp at c2
            obtain ⟨⟨rfl,hw⟩,_⟩:=c2
            exact ⟨rfl,hw⟩
        refine ⟨.fl ((List.range len).map fun i=>JA (V i)),⟨by simp;omega,fun x hx=>?_⟩,?_⟩
        · simp only [List.mem_map,List.mem_range] at hx
          obtain ⟨i,hi,rfl⟩:=hx
          exact (hV i hi).2
        · simp only [FA.av,List.length_map,List.length_range]
          rcases Nat.eq_zero_or_pos len with rfl | hz
          · exact .immEnd _ _ _ _ _ _ _ trivial (fun _=>rfl) rfl
          · have h0:=z7 (hx 0 hz).choose_spec.1
            have hs:a.spot=none:=by
              have e:a.add 0=a:=by simp [Addr.add]
              rw [e] at h0;exact h0
            have hcell:∀ i,i<len→W.cell? ⟨a.block,a.off+i,none⟩=some (V i):=fun i hi=>by
              obtain ⟨y,c1,_⟩:=hx i hi
              rw [CF c1 hs] at c1;exact c1
            have ha:a=⟨a.block,a.off+0*1,none⟩:=by cases a;simp only at hs;subst hs;rfl
            have:=VR.imm (ρ:=ak.none_) (w:=W) .free (.fl ((List.range len).map fun i=>JA (V i))) 1 1 0 len cap a.block a.off V (yI _ _) (EU (a:=⟨a.block,a.off+0,none⟩) (hcell 0 hz))
              (fun x v hx'=>by
                simp only [aC.cell?,Option.map_eq_some_iff] at hx'
                obtain ⟨y,h1,h2⟩:=hx'
                exact hcell x (lT _ _ _ _ h1).1)
              (fun x v hx'=>by
                simp only [aC.cell?,Option.map_eq_some_iff] at hx'
                obtain ⟨y,h1,rfl⟩:=hx'
                obtain ⟨q1,rfl⟩:=lT _ _ _ _ h1
                rw [(hV x q1).1]
                exact .flt _ _ _ (.inl rfl)) hl trivial (fun _=>rfl) rfl
            rw [ha];exact this
    · rename_i k he hc
      cases ht
      rcases key hc with rfl | ⟨a,len,cap,n,V,rfl,hl,hm,hx⟩
      · exact ⟨.ns k [],⟨rfl,Nat.zero_le _,fun x hx=>by cases hx⟩,.immEnd _ _ _ _ _ _ _ trivial (fun _=>rfl) rfl⟩
      · have hV:∀ i,i<len→V i=.int k (JB (V i))∧(Lit.int k (JB (V i))).wf=true:=by
          intro i hi
          obtain ⟨y,c1,c2⟩:=hx i hi
          cases n with
          | zero=>simp [DataW.trod] at c2
          | succ n =>
            simp only [DataW.trod,he] at c2
            cases hV:V i<;>rw [hV] at c2<;>simp at c2
            obtain ⟨⟨rfl,hw⟩,_⟩:=c2
            exact ⟨rfl,hw⟩
        refine ⟨.ns k ((List.range len).map fun i=>JB (V i)),⟨rfl,by simp;omega,fun x hx=>?_⟩,?_⟩
        · simp only [List.mem_map,List.mem_range] at hx
          obtain ⟨i,hi,rfl⟩:=hx
          exact (hV i hi).2
        · simp only [FA.av,List.length_map,List.length_range]
          rcases Nat.eq_zero_or_pos len with rfl | hz
          · exact .immEnd _ _ _ _ _ _ _ trivial (fun _=>rfl) rfl
          · have h0:=z7 (hx 0 hz).choose_spec.1
            have hs:a.spot=none:=by
              have e:a.add 0=a:=by simp [Addr.add]
              rw [e] at h0;exact h0
            have hcell:∀ i,i<len→W.cell? ⟨a.block,a.off+i,none⟩=some (V i):=fun i hi=>by
              obtain ⟨y,c1,_⟩:=hx i hi
              rw [CF c1 hs] at c1;exact c1
            have ha:a=⟨a.block,a.off+0*1,none⟩:=by cases a;simp only at hs;subst hs;rfl
            have:=VR.imm (ρ:=ak.none_) (w:=W) .free (.ns k ((List.range len).map fun i=>JB (V i))) 1 1 0 len cap a.block a.off V (yI _ _) (EU (a:=⟨a.block,a.off+0,none⟩) (hcell 0 hz))
              (fun x v hx'=>by
                simp only [aC.cell?,Option.map_eq_some_iff] at hx'
                obtain ⟨y,h1,h2⟩:=hx'
                exact hcell x (lT _ _ _ _ h1).1)
              (fun x v hx'=>by
                simp only [aC.cell?,Option.map_eq_some_iff] at hx'
                obtain ⟨y,h1,rfl⟩:=hx'
                obtain ⟨q1,rfl⟩:=lT _ _ _ _ h1
                rw [(hV x q1).1]
                exact .int _ _) hl trivial (fun _=>rfl) rfl
            rw [ha];exact this
    · cases ht
  · cases ht
theorem S8{t:TypeId}{ft:FT}{v:Value}{d:DataW H}{p:List MemPlace}{base:Nat}(ht:UD P t=some ft)(ho:Value.okWide P W .any base t v)(h:DataW.Trod enc P W 0 (fun _=>true) true t v d p) :
    ∃ a:FA,a.has ft∧VR ak.none_ W a.av v:=by
  obtain ⟨fuel,hf⟩:=h
  have hc:v.cells.toList=[v]:=by
    have hne:∀ c,v ≠ .agg c:=by
      rintro c rfl
      unfold UD at ht
      unfold Value.okWide at ho
      split at ht
      case h_6=>cases ht
      all_goals (rename_i hk;rw [hk] at ho;simp [Cell.okWide,Cell.ok,hk] at ho)
    cases v<;>first | rfl | exact (hne _ rfl).elim
  rw [hc] at hf
  exact RV ht hf
def FA.avs:List FA→List AV
  | []=>[]
  | a::l=>a.av::FA.avs l
theorem S9{W W':World}(h:iu (fun _=>False) W W') :Below W.heap.size W W' :=
  ⟨h.os,h.tape,h.output,h.size,fun k hk=>h.same k hk (fun q=>q)⟩
def qV(P:Program)(ts:List TypeId) :Bool:=ts.all fun t=>P.readableRec t&&decide (t<P.types.size)
theorem If{W W':World}(hl:laidOutB P=true)(hb:Below W.heap.size W W') :∀ {ts:List TypeId} {vs:List Value} {ds:List (DataW H)} {ps:List MemPlace},qV P ts=true →
    DataW.TrodAll enc P W 0 (fun _=>true) true ts vs ds ps→(∀ x∈ps,x.block<W.heap.size)→∀ sp:Nat→Bool,(∀ p∈ps,sp p.block=true)→DataW.TrodAll enc P W' 0 sp true ts vs ds ps
  | [],vs,ds,ps,_,h,_,_,_=>by obtain ⟨rfl,rfl,rfl⟩:=trodAll_nil h;rfl
  | t::ts,vs,ds,ps,hp,h,hlt,sp,hsp=>by
    obtain ⟨v,vs',d,ds',p,q,rfl,rfl,rfl,h1,h2⟩:=trodAll_cons h
    simp only [qV,List.all_cons,Bool.and_eq_true,decide_eq_true_eq] at hp
    exact ⟨p,q,WideElems.Trod_stays hl hp.1.1 hp.1.2 h1 (fun x hx=>hb.same (hlt x (by simp [hx]))) (fun x hx=>hsp x (by simp [hx])),
      If hl hb (by simpa [qV] using hp.2) h2 (fun x hx=>hlt x (by simp [hx])) sp (fun x hx=>hsp x (by simp [hx])),rfl⟩
theorem Ta{f:Func}{s:ChangeSpec}{W W':World}{args:Array Value}{ds gs:List (DataW H)}{before:List MemPlace}{tb:TypeId}(hl:laidOutB P=true) 
    (hW:DataW.Whole enc P f.params.toList s.vars false W args.toList ds gs before) (hv:s.vars=[]) (hp:qV P f.params.toList=true)
    (hs:s.fn H (ds++gs) = { results:=[.lit (.bool true)],args:=ds }) (hr:f.resultTypes = #[tb]) (ht:P.underlying tb=some .bool) (hw:iu (fun _=>False) W W') :
    s.post enc P f false true false false W args (.bool true) W':=by
  have hb:=S9 hw
  have hlt:∀ p∈before,p.block<W.heap.size:=fun p hp=>hW.lt p hp
  have hW':=hW
  obtain ⟨p,q,hA,hV,rfl,hfz,pn⟩:=hW'
  rw [hv] at hV
  obtain ⟨rfl,rfl⟩:=trodVars_none hV
  simp only [List.append_nil] at hlt hs hW
  have harg:=If hl hb hp hA hlt (fun b=>decide (b<W.heap.size)) (fun x hx=>by simpa using hlt x hx)
  refine ⟨ds,[],p,[],p,[],hW,?_,?_,?_,World.keptBut_mono (fun x hx=>⟨hx,.inr (.inl hx)⟩) (hb.frame (· ∈ p)),fun e=>(by cases e)⟩
  · rw [List.append_nil,hs,hr]
    exact trodAll_mk1 (shut_bool ht true)
  · rw [List.append_nil,hs];exact harg
  · rw [hv];simp only [List.append_nil,hs];exact rfl
theorem VE{a:FA}(h:a.has .fl) :∃ x,a=.fl x:=by
  cases a<;>simp only [FA.has] at h
  exact ⟨_,rfl⟩
theorem Tb{ρ:ak}{w w':World}{k b:Bool}{u:Value}(h:(⟨.bool k b,[]⟩:jj).Holds ρ w w' 0 u) :u=.bool b:=by
  obtain ⟨ρ',_,_,_,h4⟩:=h
  cases h4;rfl
end Go.Plb
namespace Go.Plb
set_option linter.unusedSimpArgs false
set_option linter.unusedVariables false
set_option linter.unusedSectionVars false
variable [Rom]
def aa{α:Type}(o n:Nat)(l:List α) :List α:=(lO o l).take n
theorem qX{α:Type}(o n:Nat)(l:List α) :aa o n l=(l.drop o).take n:=by
  unfold aa lO;cases o<;>rfl
theorem aW{α:Type}(l:List α) :aa 0 l.length l=l:=by simp [qX]
theorem jw{α:Type}{o n:Nat}{l:List α}(h:o+n≤l.length) :(aa o n l).length=n:=by rw [qX];simp;omega
theorem Tc{α:Type}{o n:Nat}{l:List α}{i:Nat}{v:α}(h:(aa o n l)[i]? = some v) :l[o+i]? = some v:=by
  rw [qX,List.getElem?_take] at h
  split at h
  · rw [List.getElem?_drop] at h;exact h
  · cases h
def a6{α:Type}(o n:Nat)(xs:List α) :Bool:=Nat.ble (o+n) xs.length
theorem dZ{α:Type}{o n:Nat}{xs:List α} :a6 o n xs=true↔o+n≤xs.length:=by unfold a6;rw [Nat.ble_eq]
theorem Do{l:Lv}{d d':aC}{w es o n:Nat}(h:∀ x v,d'.cell? x=some v→d.cell? (o*w+x)=some v)(hr:d.recKept→d'.recKept)(hk:d'.kept=true)(hg:d'.foreign=true) :
    aP (.imm l d w es o n) (.imm l d' w es 0 n):=by
  intro ρ w' u hv
  cases hv with
  | imm _ _ _ _ _ _ cap bl o' u' ha hb hc hv' hl' hr' _ _ =>
    have:=VR.imm (ρ:=ρ) (w:=w') l d' w es 0 n cap bl (o'+o*w) (fun x=>u' (o*w+x)) ha hb
      (fun x v hx=>by rw [Nat.add_assoc];exact hc _ v (h x v hx)) (fun x v hx=>hv' _ v (h x v hx)) hl' (hr hr') (fun _=>hk) hg
    simpa using this
  | immEnd _ _ _ _ _ _ _ hr'=>exact .immEnd _ _ _ _ _ _ _ (hr hr') (fun _=>hk) hg
theorem Dp{l:Lv}{d':aC}{w es:Nat}(hr:d'.recKept)(hk:d'.kept=true)(hg:d'.foreign=true) :aP .nsl (.imm l d' w es 0 0):=by
  intro ρ w' u hv;cases hv;exact .immEnd _ _ _ _ _ _ _ hr (fun _=>hk) hg
theorem Dq{l:Lv}{d':aC}{w es:Nat}(hr:d'.recKept)(hk:d'.kept=true)(hg:d'.foreign=true) :aP .esl (.imm l d' w es 0 0):=by
  intro ρ w' u hv;cases hv;exact .immEnd _ _ _ _ _ _ _ hr (fun _=>hk) hg
theorem fJ.get:∀ {l1 l2:List AV},fJ l1 l2→∀ {x:Nat} {v:AV},l2[x]? = some v→∃ v0,l1[x]? = some v0∧aP v0 v
  | _,_,.nil,x,v,h=>by simp at h
  | _,_,.cons a t,0,v,h=>by simp at h;subst h;exact ⟨_,rfl,a⟩
  | _,_,.cons a t,x+1,v,h=>by
    obtain ⟨v0,h1,h2⟩:=fJ.get t (by simpa using h)
    exact ⟨v0,by simpa using h1,h2⟩
theorem EV{lv:Lv}{l1 l2:List AV}{k i j:Nat}(h:fJ l1 l2)(hk:dm l1=true→dm l2=true)(hg:bH l1=true→bH l2=true) :aP (.iptr lv (.vs l1) k i j) (.iptr lv (.vs l2) k i j):=by
  intro ρ w u hv
  cases hv with | iptr _ _ _ _ _ bl o u' ha hb hc hv' hr hk' hg' =>
  refine .iptr _ _ _ _ _ bl o u' ha hb (fun x v hx=>?_) (fun x v hx=>?_) trivial (fun q=>hk (hk' q)) (hg hg')
  · obtain ⟨v0,h1,h2⟩:=h.get hx
    exact hc x v0 h1
  · obtain ⟨v0,h1,h2⟩:=h.get hx
    exact h2 _ _ _ (hv' x v0 h1)
theorem aP.fn{f:Fn}{a b a' b':List AV}(h:fJ a a')(k:fJ b b') :aP (.fn f a b) (.fn f a' b'):=by
  intro ρ w u hv
  cases hv with | fn _ _ _ c1 c2 h1 h2=>exact .fn _ _ _ _ _ (h.vrs h1) (k.vrs h2)
theorem aP.iface{t:TypeId}{a b:AV}(h:aP a b) :aP (.iface t a) (.iface t b):=by
  intro ρ w u hv
  cases hv with | iface _ _ u h1=>exact .iface _ _ _ (h _ _ _ h1)
theorem aP.any(v:AV) :aP v .any:=fun _ _ u _=>.any u
inductive CK where
  | cf
  | ci (k:IntKind)
  | cb
  | cs
  | cfl
  | cns (k:IntKind)
def CK.Ty:CK→Type
  | .cf=>List Nat
  | .ci _=>List Int
  | .cb=>List Bool
  | .cs=>List ByteArray
  | .cfl=>List (List Nat)
  | .cns _=>List (List Int)
def CK.fit:(k:CK)→(o n:Nat)→fE→Option k.Ty
  | .cf,o,n,.cf xs=>some (aa o n xs)
  | .ci k,o,n,.ci k' xs=>bif eA k k' then some (aa o n xs) else none
  | .cb,o,n,.cb xs=>some (aa o n xs)
  | .cs,o,n,.cs xs=>some (aa o n xs)
  | .cfl,o,n,.cfl xs=>some (aa o n xs)
  | .cns k,o,n,.cns k' xs=>bif eA k k' then some (aa o n xs) else none
  | _,_,_,_=>none
def CK.emp:(k:CK)→k.Ty
  | .cf=>([]:List Nat)
  | .ci _=>([]:List Int)
  | .cb=>([]:List Bool)
  | .cs=>([]:List ByteArray)
  | .cfl=>([]:List (List Nat))
  | .cns _=>([]:List (List Int))
def CK.col:(k:CK)→k.Ty→fE
  | .cf,xs=>.cf xs
  | .ci k,xs=>.ci k xs
  | .cb,xs=>.cb xs
  | .cs,xs=>.cs xs
  | .cfl,xs=>.cfl xs
  | .cns k,xs=>.cns k xs
theorem sd{a b:IntKind} :eA a b=true↔a=b:=by simp [eA]
theorem n9{α:Type}{f:α→AV}{o n i:Nat}{xs:List α}{v:AV}(h:((aa o n xs)[i]?).map f=some v) :(xs[o+i]?).map f=some v:=by
  simp only [Option.map_eq_some_iff] at h ⊢
  obtain ⟨y,h1,h2⟩:=h
  exact ⟨y,Tc h1,h2⟩
theorem CK.fit_spec:∀ {k:CK} {o n:Nat} {c:fE} {t:k.Ty},k.fit o n c=some t→(o+n≤c.len→(k.col t).len=n)∧∀ i v,(k.col t).cell? i=some v→c.cell? (o+i)=some v:=by
  intro k o n c t h
  cases k<;>cases c<;>simp only [CK.fit] at h<;>try (cases h;done)
  case cf.cf xs=>cases h;exact ⟨fun q=>jw q,fun i v q=>n9 q⟩
  case ci.ci k k' xs =>
    cases e:eA k k' with
    | false=>rw [e] at h;cases h
    | true=>rw [e] at h;cases h;cases (sd.1 e);exact ⟨fun q=>jw q,fun i v q=>n9 q⟩
  case cb.cb xs=>cases h;exact ⟨fun q=>jw q,fun i v q=>n9 q⟩
  case cs.cs xs=>cases h;exact ⟨fun q=>jw q,fun i v q=>n9 q⟩
  case cfl.cfl xs=>cases h;exact ⟨fun q=>jw q,fun i v q=>n9 q⟩
  case cns.cns k k' xs =>
    cases e:eA k k' with
    | false=>rw [e] at h;cases h
    | true=>rw [e] at h;cases h;cases (sd.1 e);exact ⟨fun q=>jw q,fun i v q=>n9 q⟩
theorem CK.emp_len:∀ (k:CK),(k.col k.emp).len=0:=by intro k;cases k<;>rfl
def CKs.Ty:List CK→Type
  | []=>Unit
  | k::l=>k.Ty×CKs.Ty l
def CKs.fit:(l:List CK)→(o n:Nat)→List fE→Option (CKs.Ty l)
  | [],_,_,[]=>some ()
  | k::l,o,n,c::cs=>(k.fit o n c).bind fun t=>(CKs.fit l o n cs).map fun r=>(t,r)
  | _,_,_,_=>none
def CKs.emp:(l:List CK)→CKs.Ty l
  | []=>()
  | k::l=>(k.emp,CKs.emp l)
def CKs.cols:(l:List CK)→CKs.Ty l→List fE
  | [],_=>[]
  | k::l,t=>k.col t.1::CKs.cols l t.2
theorem CKs.len:∀ {l:List CK} {t:CKs.Ty l},(CKs.cols l t).length=l.length
  | [],t=>rfl
  | k::l,t=>by simp [CKs.cols,CKs.len]
theorem CG:∀ {l:List CK} {o n:Nat} {cs:List fE} {t:CKs.Ty l},CKs.fit l o n cs=some t→cs.length=l.length
  | [],o,n,[],t,h=>rfl
  | [],o,n,c::cs,t,h=>by simp [CKs.fit] at h
  | k::l,o,n,[],t,h=>by simp [CKs.fit] at h
  | k::l,o,n,c::cs,t,h=>by
    simp only [CKs.fit] at h
    cases e1:k.fit o n c with
    | none=>rw [e1] at h;cases h
    | some a =>
      rw [e1] at h
      cases e2:CKs.fit l o n cs with
      | none=>simp only [Option.bind_some,e2] at h;cases h
      | some b=>simp [CG e2]
theorem CKs.fit_spec:∀ {l:List CK} {o n:Nat} {cs:List fE} {t:CKs.Ty l},CKs.fit l o n cs=some t→∀ (j:Nat) (c':fE),(CKs.cols l t)[j]? = some c'→∃ c:fE,cs[j]? = some c∧(o+n≤c.len→c'.len=n)∧∀ i v,c'.cell? i=some v→c.cell? (o+i)=some v
  | [],o,n,cs,t,h,j,c',q=>by simp [CKs.cols] at q
  | k::l,o,n,[],t,h,j,c',q=>by simp [CKs.fit] at h
  | k::l,o,n,c::cs,t,h,j,c',q=>by
    simp only [CKs.fit] at h
    cases e1:k.fit o n c with
    | none=>rw [e1] at h;cases h
    | some a =>
      rw [e1] at h
      cases e2:CKs.fit l o n cs with
      | none=>simp only [Option.bind_some,e2] at h;cases h
      | some b =>
        simp only [Option.bind_some,e2] at h
        cases h
        cases j with
        | zero=>simp [CKs.cols] at q;subst q;exact ⟨c,rfl,CK.fit_spec e1⟩
        | succ j=>exact CKs.fit_spec e2 j c' (by simpa [CKs.cols] using q)
theorem CKs.emp_len:∀ (l:List CK),∀ c∈CKs.cols l (CKs.emp l),c.len=0
  | [],c,h=>by cases h
  | k::l,c,h=>by
    simp only [CKs.cols,CKs.emp,List.mem_cons] at h
    rcases h with rfl | h
    · exact CK.emp_len k
    · exact CKs.emp_len l c h
mutual
inductive z8 where
  | int (k:IntKind)
  | flt (ex:Bool)
  | bool
  | kbool (b:Bool)
  | str
  | fl
  | ns (k:IntKind)
  | bs
  | ss
  | cols (l:List CK)
  | ivs (ps:mU) (w i j:Nat)
  | fn (f:FuncId) (a b:mU)
  | nfn
  | nptr
  | agg (ps:mU)
  | tup (ps:mU)
  | iface (t:TypeId) (p:z8)
  | niface
  | any
  | lsl (b:Nat)
  | lptr (b w i j:Nat)
inductive mU where
  | nil
  | cons (p:z8) (ps:mU)
end
mutual
def z8.Ty:z8→Type
  | .int _=>Int
  | .flt _=>Nat
  | .bool=>Bool
  | .str=>ByteArray
  | .fl=>Lv×List Nat
  | .ns _=>Lv×List Int
  | .bs=>Lv×List Bool
  | .ss=>Lv×List ByteArray
  | .cols l=>Lv×Nat×CKs.Ty l
  | .ivs ps _ _ _=>Lv×ps.Ty
  | .fn _ a b=>a.Ty×b.Ty
  | .agg ps=>ps.Ty
  | .tup ps=>ps.Ty
  | .iface _ p=>p.Ty
  | .kbool _=>Unit
  | .nfn=>Unit
  | .nptr=>Unit
  | .niface=>Unit
  | .any=>Unit
  | .lsl _=>Nat×Nat×Nat
  | .lptr _ _ _ _=>Unit
def mU.Ty:mU→Type
  | .nil=>Unit
  | .cons p ps=>p.Ty×ps.Ty
end
mutual
def z8.av:(p:z8)→p.Ty→AV
  | .int k,n=>.int k n
  | .flt ex,x=>.flt ex x
  | .bool,b=>.bool false b
  | .str,s=>.str s
  | .fl,t=>.imm t.1 (.fl t.2) 1 1 0 t.2.length
  | .ns k,t=>.imm t.1 (.ns k t.2) 1 1 0 t.2.length
  | .bs,t=>.imm t.1 (.bs t.2) 1 1 0 t.2.length
  | .ss,t=>.imm t.1 (.ss t.2) 1 1 0 t.2.length
  | .cols l,t=>.imm t.1 (.cols t.2.1 (CKs.cols l t.2.2)) l.length l.length 0 t.2.1
  | .ivs ps w i j,t=>.iptr t.1 (.vs (ps.avs t.2)) w i j
  | .fn f a b,t=>.fn (.func f) (a.avs t.1) (b.avs t.2)
  | .agg ps,t=>.agg (ps.avs t)
  | .tup ps,t=>.tup (ps.avs t)
  | .iface y p,t=>.iface y (p.av t)
  | .kbool b,_=>.bool true b
  | .nfn,_=>.nfn
  | .nptr,_=>.nptr
  | .niface,_=>.niface
  | .any,_=>.any
  | .lsl b,t=>.sl b 1 1 t.1 t.2.1 t.2.2
  | .lptr b w i j,_=>.ptr b w i j
def mU.avs:(ps:mU)→ps.Ty→List AV
  | .nil,_=>[]
  | .cons p ps,t=>p.av t.1::ps.avs t.2
end
def OL(a b:Bool) :Bool:=bif a then b else !b
theorem OM{a b:Bool} :OL a b=true↔a=b:=by cases a<;>cases b<;>simp [OL]
def CKs.ok(n:Nat)(m:Nat) :Bool:=Nat.ble n m
def Td(k:IntKind) :AV→Option (Int×List Bool)
  | .int k' n=>bif eA k k' then some (n,[]) else none
  | _=>none
def Te(ex:Bool) :AV→Option (Nat×List Bool)
  | .flt ex' x=>bif ex && !ex' then none else some (x,[])
  | _=>none
def Q2:AV→Option (Bool×List Bool)
  | .bool kn b=>bif kn then none else some (b,[])
  | _=>none
def Lu(b:Bool) :AV→Option (Unit×List Bool)
  | .bool kn b'=>bif kn&&OL b b' then some ((),[]) else none
  | _=>none
def Tf:AV→Option (ByteArray×List Bool)
  | .str s=>some (s,[])
  | _=>none
def Ig{α:Type}(f:aC→Option (List α)) :AV→Option ((Lv×List α)×List Bool)
  | .imm l d w es o n=>(f d).bind fun xs=>bif Nat.beq w 1&&Nat.beq es 1 then some ((l,aa o n xs),[a6 o n xs]) else none
  | .nsl=>some ((.free,[]),[])
  | .esl=>some ((.free,[]),[])
  | _=>none
def Tg:aC→Option (List Nat)
  | .fl xs=>some xs
  | _=>none
def Th(k:IntKind) :aC→Option (List Int)
  | .ns k' xs=>bif eA k k' then some xs else none
  | _=>none
def Ti:aC→Option (List Bool)
  | .bs xs=>some xs
  | _=>none
def Vg:aC→Option (List ByteArray)
  | .ss xs=>some xs
  | _=>none
def Vh:aC→Option (List AV)
  | .vs xs=>some xs
  | _=>none
def Q3:aC→Option (Nat×List fE)
  | .cols m cs=>some (m,cs)
  | _=>none
def JC(ks:List CK) :AV→Option ((Lv×Nat×CKs.Ty ks)×List Bool)
  | .imm l d w es o n=>(Q3 d).bind fun q=>bif Nat.beq w ks.length&&Nat.beq es ks.length then (CKs.fit ks o n q.2).map fun t=>((l,n,t),[Nat.ble (o+n) q.1]) else none
  | .nsl=>some ((.free,0,CKs.emp ks),[])
  | .esl=>some ((.free,0,CKs.emp ks),[])
  | _=>none
def Vi(w i j:Nat) :AV→Option (Lv×List AV)
  | .iptr l d w' i' j'=>(Vh d).bind fun xs=>bif Nat.beq w w'&&(Nat.beq i i'&&Nat.beq j j') then some (l,xs) else none
  | _=>none
def Wl(f:FuncId) :AV→Option (List AV×List AV)
  | .fn (.func f') x y=>bif Nat.beq f f' then some (x,y) else none
  | _=>none
def Vj:AV→Option (List AV)
  | .agg l=>some l
  | _=>none
def Vk:AV→Option (List AV)
  | .tup l=>some l
  | _=>none
def Q4(t:TypeId) :AV→Option AV
  | .iface t' v=>bif Nat.beq t t' then some v else none
  | _=>none
def Vl:AV→Option (Unit×List Bool)
  | .nfn=>some ((),[])
  | _=>none
def Tj:AV→Option (Unit×List Bool)
  | .nptr=>some ((),[])
  | _=>none
def Tk(b:Nat) :AV→Option ((Nat×Nat×Nat)×List Bool)
  | .sl b' w es i len cap=>bif Nat.beq b b'&&(Nat.beq w 1&&Nat.beq es 1) then some ((i,len,cap),[]) else none
  | _=>none
def Q5(b w i j:Nat) :AV→Option (Unit×List Bool)
  | .ptr b' w' i' j'=>bif (Nat.beq b b'&&Nat.beq w w')&&(Nat.beq i i'&&Nat.beq j j') then some ((),[]) else none
  | _=>none
def Lx:AV→Option (Unit×List Bool)
  | .niface=>some ((),[])
  | _=>none
mutual
def z8.fit:(p:z8)→AV→Option (p.Ty×List Bool)
  | .int k=>Td k
  | .flt ex=>Te ex
  | .bool=>Q2
  | .kbool b=>Lu b
  | .str=>Tf
  | .fl=>Ig Tg
  | .ns k=>Ig (Th k)
  | .bs=>Ig Ti
  | .ss=>Ig Vg
  | .cols ks=>JC ks
  | .ivs ps w i j=>fun v=>match Vi w i j v with
    | some q=>match ps.fit q.2 with
      | some r=>some ((q.1,r.1),r.2)
      | none=>none
    | none=>none
  | .fn f a b=>fun v=>match Wl f v with
    | some q=>match a.fit q.1 with
      | some r=>match b.fit q.2 with
        | some s=>some ((r.1,s.1),r.2++s.2)
        | none=>none
      | none=>none
    | none=>none
  | .agg ps=>fun v=>match Vj v with
    | some l=>ps.fit l
    | none=>none
  | .tup ps=>fun v=>match Vk v with
    | some l=>ps.fit l
    | none=>none
  | .iface t p=>fun v=>match Q4 t v with
    | some u=>p.fit u
    | none=>none
  | .nfn=>Vl
  | .nptr=>Tj
  | .niface=>Lx
  | .any=>fun _=>some ((),[])
  | .lsl b=>Tk b
  | .lptr b w i j=>Q5 b w i j
def mU.fit:(ps:mU)→List AV→Option (ps.Ty×List Bool)
  | .nil=>fun l=>match l with
    | []=>some ((),[])
    | _::_=>none
  | .cons p ps=>fun l=>match l with
    | []=>none
    | v::l=>match p.fit v with
      | some r=>match ps.fit l with
        | some s=>some ((r.1,s.1),r.2++s.2)
        | none=>none
      | none=>none
end
theorem RW{ks:List CK}{o n m:Nat}{cs:List fE}{t:CKs.Ty ks}(h:CKs.fit ks o n cs=some t) :∀ x v,(aC.cols n (CKs.cols ks t)).cell? x=some v→(aC.cols m cs).cell? (o*ks.length+x)=some v:=by
  intro x v hx
  have hl:=CG h
  obtain ⟨c',h1,_,h3⟩:=fN hx
  obtain ⟨c,q1,_,q3⟩:=CKs.fit_spec h _ _ h1
  rw [CKs.len] at h1 h3 q1
  have hpos:0<ks.length:=by
    have:=(List.getElem?_eq_some_iff.1 q1).1
    omega
  simp only [aC.cell?,hl,Option.bind_eq_some_iff]
  refine ⟨c,?_,?_⟩
  · rw [Nat.add_comm,Nat.add_mul_mod_self_right];exact q1
  · rw [Nat.add_comm,Nat.add_mul_div_right _ _ hpos,Nat.add_comm];exact q3 _ _ h3
structure Wk (v v':AV):Prop where
  weak:aP v v'
  kept:v.kept=true→v'.kept=true
  foreign:v.foreign=true→v'.foreign=true
structure WJ (v v':List AV):Prop where
  weak:fJ v v'
  kept:dm v=true→dm v'=true
  foreign:bH v=true→bH v'=true
theorem Wk.refl(v:AV) :Wk v v:=⟨aP.refl v,id,id⟩
theorem Wk.fltL(x:Nat) :Wk (.flt true x) (.flt false x):=⟨fun ρ w u h=>(by
  cases h with | flt _ _ y hf =>
  rcases hf with rfl | ⟨q,_⟩
  · exact .flt _ _ _ (.inl rfl)
  · cases q),id,id⟩
theorem WJ.cons{v v':AV}{l l':List AV}(h:Wk v v')(k:WJ l l') :WJ (v::l) (v'::l') :=
  ⟨.cons h.weak k.weak,fun q=>by simp only [dm,Bool.and_eq_true] at q ⊢;exact ⟨h.kept q.1,k.kept q.2⟩,fun q=>by simp only [bH,Bool.and_eq_true] at q ⊢;exact ⟨h.foreign q.1,k.foreign q.2⟩⟩
theorem Wk.part{l:Lv}{d d':aC}{w es o n:Nat}(h:∀ x v,d'.cell? x=some v→d.cell? (o*w+x)=some v)(hr:d.recKept→d'.recKept)(hk:d'.kept=true)(hg:d'.foreign=true) :Wk (.imm l d w es o n) (.imm l d' w es 0 n) :=
  ⟨Do h hr hk hg,id,id⟩
theorem Wk.nsl{d':aC}{w es:Nat}(hr:d'.recKept)(hk:d'.kept=true)(hg:d'.foreign=true) :Wk .nsl (.imm .free d' w es 0 0):=⟨Dp hr hk hg,id,id⟩
theorem Wk.esl{d':aC}{w es:Nat}(hr:d'.recKept)(hk:d'.kept=true)(hg:d'.foreign=true) :Wk .esl (.imm .free d' w es 0 0):=⟨Dq hr hk hg,id,id⟩
theorem Wk.fl{l:Lv}{xs:List Nat}{o n:Nat}(h:a6 o n xs=true) :Wk (.imm l (.fl xs) 1 1 o n) (.imm l (.fl (aa o n xs)) 1 1 0 (aa o n xs).length):=by
  rw [jw (dZ.1 h)];exact .part (fun x v q=>by rw [Nat.mul_one];exact n9 q) (fun _=>trivial) rfl rfl
theorem Wk.ns{k:IntKind}{l:Lv}{xs:List Int}{o n:Nat}(h:a6 o n xs=true) :Wk (.imm l (.ns k xs) 1 1 o n) (.imm l (.ns k (aa o n xs)) 1 1 0 (aa o n xs).length):=by
  rw [jw (dZ.1 h)];exact .part (fun x v q=>by rw [Nat.mul_one];exact n9 q) (fun _=>trivial) rfl rfl
theorem Wk.bs{l:Lv}{xs:List Bool}{o n:Nat}(h:a6 o n xs=true) :Wk (.imm l (.bs xs) 1 1 o n) (.imm l (.bs (aa o n xs)) 1 1 0 (aa o n xs).length):=by
  rw [jw (dZ.1 h)];exact .part (fun x v q=>by rw [Nat.mul_one];exact n9 q) (fun _=>trivial) rfl rfl
theorem Wk.ss{l:Lv}{xs:List ByteArray}{o n:Nat}(h:a6 o n xs=true) :Wk (.imm l (.ss xs) 1 1 o n) (.imm l (.ss (aa o n xs)) 1 1 0 (aa o n xs).length):=by
  rw [jw (dZ.1 h)];exact .part (fun x v q=>by rw [Nat.mul_one];exact n9 q) (fun _=>trivial) rfl rfl
theorem Tl{ks:List CK}{o n m:Nat}{cs:List fE}{t:CKs.Ty ks}(h:CKs.fit ks o n cs=some t)(hm:o+n≤m) :(aC.cols m cs).recKept→(aC.cols n (CKs.cols ks t)).recKept:=by
  intro hr c hc
  obtain ⟨j,hj⟩:=List.getElem?_of_mem hc
  obtain ⟨c0,q1,q2,_⟩:=CKs.fit_spec h j c hj
  exact q2 (by rw [hr c0 (List.mem_of_getElem? q1)];exact hm)
theorem Wm{w es n:Nat}(h:(Nat.beq w n&&Nat.beq es n)=true) :w=n∧es=n:=by
  rw [Bool.and_eq_true] at h;exact ⟨Nat.eq_of_beq_eq_true h.1,Nat.eq_of_beq_eq_true h.2⟩
theorem vD{α:Type}{c:Bool}{a:α}{x:α}(h:(bif c then some a else none)=some x) :c=true∧a=x:=by
  cases c with
  | true=>exact ⟨rfl,by simpa using h⟩
  | false=>cases h
theorem Wn{α:Type}{c:Bool}{a:Option α}{x:α}(h:(bif c then a else none)=some x) :c=true∧a=some x:=by
  cases c with
  | true=>exact ⟨rfl,h⟩
  | false=>cases h
theorem sZ{α:Type}{f:aC→Option (List α)}{g:List α→aC}(hg:∀ {d xs},f d=some xs→d=g xs) 
    (hw:∀ {l xs o n},a6 o n xs=true→Wk (.imm l (g xs) 1 1 o n) (.imm l (g (aa o n xs)) 1 1 0 (aa o n xs).length)) (h0:(g []).recKept∧(g []).kept=true∧(g []).foreign=true)
    {v:AV} {t:Lv×List α} {o:List Bool} (h:Ig f v=some (t,o)) (ho:aB o):Wk v (.imm t.1 (g t.2) 1 1 0 t.2.length):=by
  unfold Ig at h
  split at h
  · rename_i l d w es i n
    cases e:f d with
    | none=>rw [e] at h;cases h
    | some xs =>
      rw [e] at h
      obtain ⟨e2,h⟩:=vD h
      obtain ⟨rfl,rfl⟩:=Wm e2
      cases h;cases hg e;exact hw ho.1
  · cases h;exact .nsl h0.1 h0.2.1 h0.2.2
  · cases h;exact .esl h0.1 h0.2.1 h0.2.2
  · cases h
theorem JD{ks:List CK}{v:AV}{t:Lv×Nat×CKs.Ty ks}{o:List Bool}(h:JC ks v=some (t,o))(ho:aB o) :Wk v (.imm t.1 (.cols t.2.1 (CKs.cols ks t.2.2)) ks.length ks.length 0 t.2.1):=by
  unfold JC at h
  split at h
  · rename_i l d w es i n
    cases d<;>simp only [Q3,Option.bind_none,Option.bind_some,reduceCtorEq] at h
    rename_i m cs
    have e:=(Wn h).1;replace h:=(Wn h).2
    obtain ⟨rfl,rfl⟩:=Wm e
    cases e2:CKs.fit ks i n cs with
    | none=>rw [e2] at h;cases h
    | some r =>
      rw [e2] at h;cases h
      have:i+n≤m:=Nat.le_of_ble_eq_true ho.1
      exact .part (RW e2) (Tl e2 this) rfl rfl
  · cases h;exact .nsl (CKs.emp_len ks) rfl rfl
  · cases h;exact .esl (CKs.emp_len ks) rfl rfl
  · cases h
mutual
theorem z8.fit_spec:∀ (p:z8) (v:AV) {t:p.Ty} {o:List Bool},p.fit v=some (t,o)→aB o→Wk v (p.av t)
  | .int k,v,t,o,h,ho=>by
    simp only [z8.fit,Td] at h
    split at h
    · obtain ⟨e,h⟩:=vD h
      cases h;cases sd.1 e;exact .refl _
    · cases h
  | .flt ex,v,t,o,h,ho=>by
    simp only [z8.fit,Te] at h
    split at h
    · rename_i ex' x
      cases ex with
      | true =>
        cases ex' with
        | true=>cases h;exact .refl _
        | false=>cases h
      | false =>
        cases ex' with
        | true=>cases h;exact .fltL x
        | false=>cases h;exact .refl _
    · cases h
  | .bool,v,t,o,h,ho=>by
    simp only [z8.fit,Q2] at h
    split at h
    · rename_i kn b
      cases kn with
      | true=>cases h
      | false=>cases h;exact .refl _
    · cases h
  | .kbool b,v,t,o,h,ho=>by
    simp only [z8.fit,Lu] at h
    split at h
    · obtain ⟨e,h⟩:=vD h
      rw [Bool.and_eq_true] at e
      cases e.1;cases OM.1 e.2;exact .refl _
    · cases h
  | .str,v,t,o,h,ho=>by
    simp only [z8.fit,Tf] at h
    split at h
    · cases h;exact .refl _
    · cases h
  | .fl,v,t,o,h,ho=>sZ (g:=.fl) (f:=Tg) (fun {d xs} e=>by cases d<;>cases e;rfl) (fun q=>.fl q) ⟨trivial,rfl,rfl⟩ h ho
  | .ns k,v,t,o,h,ho=>sZ (g:=.ns k) (f:=Th k) (fun {d xs} e=>by
      cases d<;>try (cases e;done)
      have e1:=(vD e).1;replace e:=(vD e).2
      cases sd.1 e1;cases e;rfl) (fun q=>.ns q) ⟨trivial,rfl,rfl⟩ h ho
  | .bs,v,t,o,h,ho=>sZ (g:=.bs) (f:=Ti) (fun {d xs} e=>by cases d<;>cases e;rfl) (fun q=>.bs q) ⟨trivial,rfl,rfl⟩ h ho
  | .ss,v,t,o,h,ho=>sZ (g:=.ss) (f:=Vg) (fun {d xs} e=>by cases d<;>cases e;rfl) (fun q=>.ss q) ⟨trivial,rfl,rfl⟩ h ho
  | .cols ks,v,t,o,h,ho=>JD h ho
  | .ivs ps w i j,v,t,o,h,ho=>by
    simp only [z8.fit] at h
    split at h
    case h_2=>cases h
    rename_i q hq
    split at h
    case h_2=>cases h
    rename_i r hr
    cases h
    unfold Vi at hq
    split at hq
    case h_2=>cases hq
    rename_i l d w' i' j'
    cases d<;>simp only [Vh,Option.bind_none,Option.bind_some,reduceCtorEq] at hq
    rename_i xs
    have e:=(vD hq).1;replace hq:=(vD hq).2
    rw [Bool.and_eq_true,Bool.and_eq_true] at e
    cases Nat.eq_of_beq_eq_true e.1
    cases Nat.eq_of_beq_eq_true e.2.1
    cases Nat.eq_of_beq_eq_true e.2.2
    cases hq
    have:=mU.fit_spec ps xs hr ho
    exact ⟨EV this.weak this.kept this.foreign,id,id⟩
  | .fn f a b,v,t,o,h,ho=>by
    simp only [z8.fit] at h
    split at h
    case h_2=>cases h
    rename_i q hq
    split at h
    case h_2=>cases h
    rename_i r hr
    split at h
    case h_2=>cases h
    rename_i s hs
    cases h
    unfold Wl at hq
    split at hq
    case h_2=>cases hq
    have e:=(vD hq).1;replace hq:=(vD hq).2
    cases Nat.eq_of_beq_eq_true e
    cases hq
    rw [a5] at ho
    have h1:=mU.fit_spec a _ hr ho.1
    have h2:=mU.fit_spec b _ hs ho.2
    refine ⟨aP.fn h1.weak h2.weak,fun q=>?_,fun q=>?_⟩
    · simp only [z8.av,AV.kept,Bool.and_eq_true] at q ⊢;exact ⟨h1.kept q.1,h2.kept q.2⟩
    · simp only [z8.av,AV.foreign,Bool.and_eq_true] at q ⊢;exact ⟨h1.foreign q.1,h2.foreign q.2⟩
  | .agg ps,v,t,o,h,ho=>by
    simp only [z8.fit] at h
    split at h
    case h_2=>cases h
    rename_i l hl
    cases v<;>simp only [Vj,reduceCtorEq,Option.some.injEq] at hl
    subst hl
    have:=mU.fit_spec ps _ h ho
    exact ⟨aP.agg this.weak,this.kept,this.foreign⟩
  | .tup ps,v,t,o,h,ho=>by
    simp only [z8.fit] at h
    split at h
    case h_2=>cases h
    rename_i l hl
    cases v<;>simp only [Vk,reduceCtorEq,Option.some.injEq] at hl
    subst hl
    have:=mU.fit_spec ps _ h ho
    exact ⟨aP.tup this.weak,this.kept,this.foreign⟩
  | .iface y p,v,t,o,h,ho=>by
    simp only [z8.fit] at h
    split at h
    case h_2=>cases h
    rename_i u hu
    unfold Q4 at hu
    split at hu
    case h_2=>cases hu
    have e:=(vD hu).1;replace hu:=(vD hu).2
    cases Nat.eq_of_beq_eq_true e
    subst hu
    have:=z8.fit_spec p _ h ho
    exact ⟨aP.iface this.weak,this.kept,this.foreign⟩
  | .nfn,v,t,o,h,ho=>by
    cases v<;>simp only [z8.fit,Vl,reduceCtorEq] at h
    exact .refl _
  | .nptr,v,t,o,h,ho=>by
    cases v<;>simp only [z8.fit,Tj,reduceCtorEq] at h
    exact .refl _
  | .niface,v,t,o,h,ho=>by
    cases v<;>simp only [z8.fit,Lx,reduceCtorEq] at h
    exact .refl _
  | .any,v,t,o,h,ho=>⟨aP.any v,fun _=>rfl,fun _=>rfl⟩
  | .lsl b,v,t,o,h,ho=>by
    simp only [z8.fit,Tk] at h
    split at h
    · have e:=(vD h).1;replace h:=(vD h).2
      rw [Bool.and_eq_true,Bool.and_eq_true] at e
      cases Nat.eq_of_beq_eq_true e.1
      cases Nat.eq_of_beq_eq_true e.2.1
      cases Nat.eq_of_beq_eq_true e.2.2
      cases h;exact .refl _
    · cases h
  | .lptr b w i j,v,t,o,h,ho=>by
    simp only [z8.fit,Q5] at h
    split at h
    · have e:=(vD h).1;replace h:=(vD h).2
      rw [Bool.and_eq_true,Bool.and_eq_true,Bool.and_eq_true] at e
      cases Nat.eq_of_beq_eq_true e.1.1
      cases Nat.eq_of_beq_eq_true e.1.2
      cases Nat.eq_of_beq_eq_true e.2.1
      cases Nat.eq_of_beq_eq_true e.2.2
      exact .refl _
    · cases h
theorem mU.fit_spec:∀ (ps:mU) (l:List AV) {t:ps.Ty} {o:List Bool},ps.fit l=some (t,o)→aB o→WJ l (ps.avs t)
  | .nil,[],t,o,h,ho=>⟨.nil,id,id⟩
  | .nil,v::l,t,o,h,ho=>by simp [mU.fit] at h
  | .cons p ps,[],t,o,h,ho=>by simp [mU.fit] at h
  | .cons p ps,v::l,t,o,h,ho=>by
    simp only [mU.fit] at h
    split at h
    case h_2=>cases h
    rename_i r hr
    split at h
    case h_2=>cases h
    rename_i s hs
    cases h
    rw [a5] at ho
    exact .cons (z8.fit_spec p v hr ho.1) (mU.fit_spec ps l hs ho.2)
end
def cV(f:FuncId)(ps:mU)(alts:ps.Ty→List qb) :aK :=
  ⟨f, fun L args => match L with
    | []=>match ps.fit args with
      | some r=>some ((alts r.1).map fun a=>⟨a.out,r.2++a.obs⟩)
      | none=>none
    | _=>none⟩
theorem aX{P:Program}{f:FuncId}{ps:mU}{alts:ps.Ty→List qb}(h:∀ t,∀ a∈alts t,aB a.obs→ai P f [] (ps.avs t) a.out) :aQ P (cV f ps alts):=by
  intro L args al a hal ha ho
  simp only [cV] at hal
  split at hal
  case h_2=>cases hal
  split at hal
  case h_2=>cases hal
  rename_i r hr
  obtain ⟨t,o⟩:=r
  simp only [Option.some.injEq] at hal
  subst hal
  simp only [List.mem_map] at ha
  obtain ⟨b,hb,rfl⟩:=ha
  simp only [a5] at ho
  exact (h t b hb ho.2).args (mU.fit_spec ps args hr ho.1).weak
inductive BK where
  | fl
  | ns (k:IntKind)
  | bs
def BK.Ty:BK→Type
  | .fl=>List Nat
  | .ns _=>List Int
  | .bs=>List Bool
def BK.blk:(k:BK)→k.Ty→aC
  | .fl,xs=>.fl xs
  | .ns k,xs=>.ns k xs
  | .bs,xs=>.bs xs
def BK.fit:(k:BK)→aC→Option k.Ty
  | .fl=>Tg
  | .ns k=>Th k
  | .bs=>Ti
theorem BK.fit_spec:∀ (k:BK) {d:aC} {t:k.Ty},k.fit d=some t→d=k.blk t
  | .fl,d,t,h=>by cases d<;>cases h;rfl
  | .ns k,d,t,h=>by
    cases d<;>try (cases h;done)
    have e1:=(vD h).1;replace h:=(vD h).2
    cases sd.1 e1;cases h;rfl
  | .bs,d,t,h=>by cases d<;>cases h;rfl
def BKs.Ty:List BK→Type
  | []=>Unit
  | k::l=>k.Ty×BKs.Ty l
def z9:(l:List BK)→BKs.Ty l→List aC
  | [],_=>[]
  | k::l,t=>k.blk t.1::z9 l t.2
def BKs.fit:(l:List BK)→List aC→Option (BKs.Ty l)
  | [],[]=>some ()
  | [],_::_=>none
  | _::_,[]=>none
  | k::l,d::ds=>match k.fit d with
    | some t=>match BKs.fit l ds with
      | some r=>some (t,r)
      | none=>none
    | none=>none
theorem BKs.fit_spec:∀ (l:List BK) {ds:List aC} {t:BKs.Ty l},BKs.fit l ds=some t→ds=z9 l t
  | [],[],t,h=>rfl
  | [],_::_,t,h=>by cases h
  | _::_,[],t,h=>by cases h
  | k::l,d::ds,t,h=>by
    simp only [BKs.fit] at h
    split at h
    case h_2=>cases h
    rename_i x hx
    split at h
    case h_2=>cases h
    rename_i r hr
    cases h
    simp only [z9]
    rw [←BK.fit_spec k hx,←BKs.fit_spec l hr]
def Ly(f:FuncId)(bs:List BK)(ps:mU)(alts:BKs.Ty bs→ps.Ty→List qb) :aK :=
  ⟨f, fun L args => match BKs.fit bs L with
    | some x=>match ps.fit args with
      | some r=>some ((alts x r.1).map fun a=>⟨a.out,r.2++a.obs⟩)
      | none=>none
    | none=>none⟩
theorem EW{P:Program}{f:FuncId}{bs:List BK}{ps:mU}{alts:BKs.Ty bs→ps.Ty→List qb}(h:∀ x t,∀ a∈alts x t,aB a.obs→ai P f (z9 bs x) (ps.avs t) a.out) :aQ P (Ly f bs ps alts):=by
  intro L args al a hal ha ho
  simp only [Ly] at hal
  split at hal
  case h_2=>cases hal
  rename_i x hx
  split at hal
  case h_2=>cases hal
  rename_i r hr
  obtain ⟨t,o⟩:=r
  simp only [Option.some.injEq] at hal
  subst hal
  simp only [List.mem_map] at ha
  obtain ⟨b,hb,rfl⟩:=ha
  simp only [a5] at ho
  have:=(h x t b hb ho.2).args (mU.fit_spec ps args hr ho.1).weak
  rwa [←BKs.fit_spec bs hx] at this
theorem EX{P:Program}{f:FuncId}{L:List aC}{l:List AV} :∀ a∈([]:List qb),aB a.obs→ai P f L l a.out:=fun a h=>by cases h
theorem w6{P:Program}{f:FuncId}{L:List aC}{l:List AV}{o:jj}{b:Bool}{al:List qb}(h:b=true→ai P f L l o)(t:∀ a∈al,aB a.obs→ai P f L l a.out) :∀ a∈(⟨o,[b]⟩:qb)::al,aB a.obs→ai P f L l a.out:=by
  intro a ha ho
  rcases List.mem_cons.1 ha with rfl | ha
  · exact h ho.1
  · exact t a ha ho
theorem bE{P:Program}{f:FuncId}{l:List AV} :∀ a∈([]:List qb),aB a.obs→ai P f [] l a.out:=fun a h=>by cases h
theorem aY{P:Program}{f:FuncId}{l:List AV}{o:jj}{b:Bool}{al:List qb}(h:b=true→ai P f [] l o)(t:∀ a∈al,aB a.obs→ai P f [] l a.out) :∀ a∈(⟨o,[b]⟩:qb)::al,aB a.obs→ai P f [] l a.out:=by
  intro a ha ho
  rcases List.mem_cons.1 ha with rfl | ha
  · exact h ho.1
  · exact t a ha ho
end Go.Plb
namespace Go.Plb
open Go.ChangeShapes Go.WideShapes Go.ChangeAt Go.RowKit Go.Deep
set_option linter.unusedSimpArgs false
set_option linter.unusedVariables false
set_option linter.unusedSectionVars false
variable [Rom]
def FA.n:FA→Nat
  | .f x=>x
  | _=>0
def FA.bb:FA→Bool
  | .b x=>x
  | _=>false
def FA.ss:FA→ByteArray
  | .s x=>x
  | _=>ByteArray.empty
variable {H : Type} {enc : TypeId × Value → H} {P : Program} {W : World}
instance:Inhabited FA:=⟨.b false⟩
end Go.Plb
namespace Go.Plb.Seat
open Go Go.Plb Go.Proofs
noncomputable abbrev prog:Program:=Tryd.prog
def aD:List Int:=[0,1,56,2,57,49,28,3,61,58,42,50,38,29,17,4,62,47,59,36,45,43,51,22,53,39,33,30,24,18,12,5,63,55,48,27,60,41,37,16,46,35,44,21,52,32,23,11,54,26,40,15,34,20,31,10,25,14,19,9,13,8,7,6]
instance:Rom:=⟨[(1,.ns .u8 aD)]⟩
abbrev j3:FuncId:=3
abbrev rE:FuncId:=7
abbrev EY:FuncId:=8
abbrev qe:FuncId:=9
abbrev qf:FuncId:=10
abbrev rF:FuncId:=11
abbrev yJ:FuncId:=12
abbrev s6:FuncId:=13
abbrev s7:FuncId:=14
abbrev s8:FuncId:=15
abbrev yK:FuncId:=16
abbrev yL:FuncId:=17
abbrev qY:FuncId:=21
abbrev yM:FuncId:=34
abbrev xV:FuncId:=38
abbrev Bu:FuncId:=40
abbrev ON:FuncId:=41
abbrev Lz:FuncId:=42
abbrev lU:FuncId:=44
abbrev s9:FuncId:=45
abbrev kK:FuncId:=46
abbrev xW:FuncId:=47
abbrev cp:FuncId:=48
abbrev rG:FuncId:=49
abbrev eG:FuncId:=50
abbrev vE:FuncId:=51
abbrev EZ:FuncId:=52
abbrev LA:FuncId:=53
abbrev vF:FuncId:=54
abbrev w7:FuncId:=55
abbrev tc:FuncId:=56
abbrev Bv:FuncId:=57
abbrev vG:FuncId:=58
abbrev ik:FuncId:=66
abbrev k7:FuncId:=67
abbrev lV:FuncId:=68
abbrev jL:FuncId:=87
abbrev w8:FuncId:=88
abbrev Bw:FuncId:=89
abbrev td:FuncId:=92
abbrev Aa:FuncId:=94
abbrev LB:FuncId:=96
abbrev G1:FuncId:=97
abbrev yN:FuncId:=100
abbrev qZ:FuncId:=101
abbrev Bx:FuncId:=102
abbrev k8:FuncId:=103
abbrev yO:FuncId:=104
abbrev OO:FuncId:=105
abbrev w9:FuncId:=106
abbrev qg:FuncId:=107
abbrev By:FuncId:=109
abbrev q7:FuncId:=125
abbrev lW:FuncId:=126
abbrev xa:FuncId:=127
abbrev vH:FuncId:=129
abbrev Ab:FuncId:=130
abbrev bG:FuncId:=133
abbrev jk:FuncId:=134
abbrev xc:FuncId:=135
abbrev q8:FuncId:=136
abbrev Bz:FuncId:=137
abbrev lX:FuncId:=143
abbrev xd:FuncId:=144
noncomputable def FN(f:FuncId) :Func:=(prog.funcs[f]?).getD default
noncomputable def pB(f:FuncId) :Code:=((FN f).body).getD .skip
noncomputable def C0:yD:=QW prog [(ik,.frombits),(k7,.bits),(lW,.add64),(vH,.sqrt),(lX,.sub64)] [(yJ,⟨[],true⟩),(s6,⟨[],true⟩),(s7,⟨[],true⟩),(s8,⟨[],true⟩),(yK,⟨[],true⟩),(yL,⟨[],true⟩),(yM,⟨[],true⟩),(Bu,⟨[],true⟩),(ON,⟨[],true⟩),(Lz,⟨[],true⟩),(vE,⟨[],true⟩),(EZ,⟨[],true⟩),(LA,⟨[true],false⟩),(vF,⟨[],true⟩),(w7,⟨[],true⟩),(tc,⟨[],true⟩),(Bv,⟨[],true⟩),(vG,⟨[],true⟩),(w8,⟨[],true⟩),(Bw,⟨[],true⟩),(LB,⟨[],true⟩),(G1,⟨[],true⟩),(yN,⟨[],true⟩),(qZ,⟨[],true⟩),(Bx,⟨[],true⟩),(k8,⟨[true],false⟩),(yO,⟨[],true⟩),(OO,⟨[true],false⟩),(w9,⟨[true],false⟩),(qg,⟨[true],false⟩),(q7,⟨[false,false,true],false⟩),(xa,⟨[],true⟩),(xc,⟨[],true⟩),(Bz,⟨[],true⟩),(xd,⟨[],true⟩)]
theorem rH:Id prog ik .frombits:=⟨FN ik,by kernel_rfl,by kernel_rfl,by kernel_rfl,by kernel_rfl,by kernel_rfl⟩
theorem vI:Id prog k7 .bits:=⟨FN k7,by kernel_rfl,by kernel_rfl,by kernel_rfl,by kernel_rfl,by kernel_rfl⟩
theorem xD:Id prog lW .add64:=⟨FN lW,by kernel_rfl,by kernel_rfl,by kernel_rfl,by kernel_rfl,by kernel_rfl⟩
theorem G2:Id prog vH .sqrt:=⟨FN vH,by kernel_rfl,by kernel_rfl,by kernel_rfl,by kernel_rfl,by kernel_rfl⟩
theorem xE:Id prog lX .sub64:=⟨FN lX,by kernel_rfl,by kernel_rfl,by kernel_rfl,by kernel_rfl,by kernel_rfl⟩
theorem mixed:prog.follows .mixedOrders=true:=by kernel_rfl
theorem Wo:QX prog=true:=by kernel_rfl
theorem qh:C0.Ok:=SV mixed Wo (by
  intro x hx
  simp only [List.mem_cons,List.not_mem_nil,or_false] at hx
  rcases hx with rfl | rfl | rfl | rfl | rfl
  · exact rH
  · exact vI
  · exact xD
  · exact G2
  · exact xE
  )
end Go.Plb.Seat
namespace Go.Plb
set_option linter.unusedSimpArgs false
set_option linter.unusedVariables false
set_option linter.unusedSectionVars false
variable [Rom]
inductive T (α:Type) where
  | fail
  | leaf (a:α)
  | ask (b:Bool) (t f:T α)
  | need (b:Bool) (t:T α)
  | alt (k:Nat) (t e:T α)
def T.run{α:Type} :T α→Option α
  | .fail=>none
  | .leaf a=>some a
  | .ask b t f=>bif b then t.run else f.run
  | .need b t=>bif b then t.run else none
  | .alt _ t e=>match t.run with
    | some a=>some a
    | none=>e.run
structure xF (α:Type) where
  path:List Nat
  obs:List Bool
  val:α
def xF.ask{α:Type}(n:Nat)(b:Bool)(l:xF α) :xF α:=⟨n::l.path,b::l.obs,l.val⟩
def xF.need{α:Type}(b:Bool)(l:xF α) :xF α:=⟨l.path,b::l.obs,l.val⟩
def xF.alt{α:Type}(n:Nat)(l:xF α) :xF α:=⟨n::l.path,l.obs,l.val⟩
def T.leaves{α:Type} :T α→List (xF α)
  | .fail=>[]
  | .leaf a=>[⟨[],[],a⟩]
  | .ask b t f=>t.leaves.map (xF.ask 1 (b==true))++f.leaves.map (xF.ask 0 (b==false))
  | .need b t=>t.leaves.map (xF.need b)
  | .alt k t e=>t.leaves.map (xF.alt k)++e.leaves
theorem nj{α:Type} :∀ (t:T α) {a:α},t.run=some a→∃ l∈t.leaves,l.val=a∧aB l.obs
  | .fail,a,h=>by cases h
  | .leaf b,a,h=>by
    simp only [T.run,Option.some.injEq] at h;subst h
    exact ⟨⟨[],[],b⟩,by simp [T.leaves],rfl,trivial⟩
  | .ask b t f,a,h=>by
    simp only [T.run] at h
    cases b with
    | true =>
      simp only [cond_true] at h
      obtain ⟨l,h1,h2,h3⟩:=nj t h
      exact ⟨l.ask 1 (true==true),by simp only [T.leaves,List.mem_append];exact .inl (List.mem_map_of_mem h1),h2,⟨rfl,h3⟩⟩
    | false =>
      simp only [cond_false] at h
      obtain ⟨l,h1,h2,h3⟩:=nj f h
      exact ⟨l.ask 0 (false==false),by simp only [T.leaves,List.mem_append];exact .inr (List.mem_map_of_mem h1),h2,⟨rfl,h3⟩⟩
  | .need b t,a,h=>by
    simp only [T.run] at h
    cases b with
    | true =>
      simp only [cond_true] at h
      obtain ⟨l,h1,h2,h3⟩:=nj t h
      exact ⟨l.need true,by simp only [T.leaves];exact List.mem_map_of_mem h1,h2,⟨rfl,h3⟩⟩
    | false=>cases h
  | .alt k t e,a,h=>by
    simp only [T.run] at h
    split at h
    · rename_i a' ht
      cases h
      obtain ⟨l,h1,h2,h3⟩:=nj t ht
      exact ⟨l.alt k,by simp only [T.leaves,List.mem_append];exact .inl (List.mem_map_of_mem h1),h2,h3⟩
    · obtain ⟨l,h1,h2,h3⟩:=nj e h
      exact ⟨l,by simp only [T.leaves,List.mem_append];exact .inr h1,h2,h3⟩
def vJ{α X:Type}(N:α→aG)(E:X→AE×aG) :α⊕X→AE×aG
  | .inl a=>(.normal,N a)
  | .inr x=>E x
def Sg{α X:Type}(P:Program)(lent:List aC)(cs:List Code)(st:aG)(m:Option (α⊕X))(N:α→aG)(E:X→AE×aG) :Prop :=
  ∀ r,m=some r→gj P lent cs st fun e st'=>(e,st')=vJ N E r
def Tm{α X:Type}(C:yD)(S:z4)(n:Nat)(cs:List Code)(st:aG)(ls:List (xF (α⊕X)))(ks:List NS)(k:Nat) :List (Bool×Option (AE×aG×List Bool)) :=
  List.zipWith (fun l s=>(s.ok k,S4 s (RT (gr C S 12 n) cs st (some l.path)))) ls ks
def Q6{α X:Type}(N:α→aG)(E:X→AE×aG)(ls:List (xF (α⊕X))) :List (Bool×Option (AE×aG×List Bool)) :=
  ls.map fun l=>(true,some ((vJ N E l.val).1,(vJ N E l.val).2,l.obs))
theorem Q7{α β γ:Type}{f:α→β→γ}{g:α→γ} :∀ {l:List α} {k:List β},List.zipWith f l k=l.map g→∀ a∈l,∃ b,f a b=g a
  | [],_,_,a,ha=>by cases ha
  | x::l,[],h,a,ha=>by simp at h
  | x::l,y::k,h,a,ha=>by
    simp only [List.zipWith_cons_cons,List.map_cons,List.cons.injEq] at h
    rcases List.mem_cons.1 ha with rfl | ha
    · exact ⟨y,h.1⟩
    · exact Q7 h.2 a ha
theorem Sg.seg{C:yD}(hC:C.Ok){S:z4}(hS:bj C.P S){lent:List aC}{α X:Type}(n:Nat)(cs:List Code)(st:aG)(t:T (α⊕X))(N:α→aG)(E:X→AE×aG)(ks:List NS) 
    (h:Tm C S n cs st t.leaves ks lent.length=Q6 N E t.leaves):Sg C.P lent cs st t.run N E:=by
  intro r hr
  obtain ⟨l,h1,h2,h3⟩:=nj t hr
  obtain ⟨k,hk⟩:=Q7 h l h1
  simp only [Prod.mk.injEq] at hk
  obtain ⟨hn,he⟩:=hk
  have:=gj.seg hC hS (lent:=lent) (Q:=fun e st'=>(e,st')=vJ N E r) cs.length (some l.path) k (cs:=cs) (st:=st) (by rw [List.take_length];exact he) hn h3
  refine this ?_
  rw [h2,List.drop_length]
  generalize hg:vJ N E r=x
  obtain ⟨e,s⟩:=x
  cases e with
  | normal=>exact gj.nil rfl
  | ret=>rfl
  | exit id=>rfl
theorem gj.append{P:Program}{lent:List aC}{cs1 cs2:List Code}{st:aG}{Q1 Q:AE→aG→Prop}(h:gj P lent cs1 st Q1)(k:∀ e st',Q1 e st'→G0 P lent cs2 e st' Q) :gj P lent (cs1++cs2) st Q:=by
  intro ρ0 w0 hN K hK a w hA
  apply yG
  refine h ρ0 w0 hN _ ?_ a w hA
  intro e st' a' w' q hA'
  have:=k e st' q
  cases e with
  | normal=>exact this ρ0 w0 hN K hK a' w' hA'
  | ret=>exact hK _ _ _ _ this hA'
  | exit id=>exact hK _ _ _ _ this hA'
def mW{X:Type}(E:X→AE×aG) :Prop:=∀ x,(E x).1 ≠ .normal
theorem Q8{P:Program}{lent:List aC}{cs:List Code}{e:AE}{st:aG}{Q:AE→aG→Prop}(hn:e ≠ .normal)(h:Q e st) :G0 P lent cs e st Q:=by
  cases e with
  | normal=>exact (hn rfl).elim
  | ret=>exact h
  | exit id=>exact h
def aH{α β X:Type}(m:Option (α⊕X))(k:α→Option (β⊕X)) :Option (β⊕X) :=
  match m with
  | none=>none
  | some (.inl a)=>k a
  | some (.inr x)=>some (.inr x)
theorem Sg.seq{P:Program}{lent:List aC}{α β X:Type}{cs1 cs2:List Code}{st:aG}{m:Option (α⊕X)}{N1:α→aG}{E:X→AE×aG}{k:α→Option (β⊕X)}{N:β→aG}(hE:mW E) 
    (h:Sg P lent cs1 st m N1 E) (hk:∀ a,Sg P lent cs2 (N1 a) (k a) N E):Sg P lent (cs1++cs2) st (aH m k) N E:=by
  intro r hr
  unfold aH at hr
  split at hr
  · cases hr
  · rename_i a
    refine gj.append (h _ rfl) ?_
    intro e st' q
    simp only [vJ,Prod.mk.injEq] at q
    obtain ⟨rfl,rfl⟩:=q
    exact hk a r hr
  · rename_i x
    simp only [Option.some.injEq] at hr;subst hr
    refine gj.append (h _ rfl) ?_
    intro e st' q
    simp only [vJ] at q
    refine Q8 ?_ q
    have:=hE x
    rw [←q] at this;exact this
def uv{σ Y:Type}(B:σ→Option (σ⊕Y)) :Nat→σ→Option Y
  | 0,_=>none
  | n+1,s=>match B s with
    | none=>none
    | some (.inl s')=>uv B n s'
    | some (.inr y)=>some y
theorem yP{σ Y:Type}{B:σ→Option (σ⊕Y)} :∀ (n:Nat) {s:σ} {y:Y},uv B n s=some y→∀ m,n≤m→uv B m s=some y
  | 0,s,y,h,_,_=>by cases h
  | n+1,s,y,h,m,hm=>by
    obtain ⟨m',rfl⟩:∃ m',m=m'+1:=⟨m-1,by omega⟩
    simp only [uv] at h ⊢
    split at h
    · cases h
    · exact yP n h m' (by omega)
    · exact h
open Classical in
noncomputable def dN{σ Y:Type}(B:σ→Option (σ⊕Y))(s:σ) :Option Y :=
  if h:∃ n y,uv B n s=some y then some h.choose_spec.choose else none
theorem xe{σ Y:Type}{B:σ→Option (σ⊕Y)}{s:σ}{y:Y} :dN B s=some y↔∃ n,uv B n s=some y:=by
  unfold dN
  constructor
  · intro h
    split at h
    · rename_i q
      simp only [Option.some.injEq] at h
      exact ⟨q.choose,by rw [←h];exact q.choose_spec.choose_spec⟩
    · cases h
  · rintro ⟨n,h⟩
    rw [dif_pos ⟨n,y,h⟩]
    generalize hq:(⟨n,y,h⟩:∃ n y,uv B n s=some y)=q
    have h1:=q.choose_spec.choose_spec
    have a1:=yP n h (max n q.choose) (by omega)
    have a2:=yP _ h1 (max n q.choose) (by omega)
    rw [a1] at a2
    exact a2.symm
theorem LC{σ Y:Type}(B:σ→Option (σ⊕Y))(s:σ) :dN B s=match B s with
    | none=>none
    | some (.inl s')=>dN B s'
    | some (.inr y)=>some y:=by
  have key:∀ y,dN B s=some y↔(match B s with | none=>none | some (.inl s')=>dN B s' | some (.inr y)=>some y)=some y:=by
    intro y
    rw [xe]
    constructor
    · rintro ⟨n,h⟩
      cases n with
      | zero=>cases h
      | succ n =>
        simp only [uv] at h
        cases q:B s with
        | none=>rw [q] at h;cases h
        | some z=>cases z with
          | inl s'=>rw [q] at h;exact xe.2 ⟨n,h⟩
          | inr z=>rw [q] at h;exact h
    · intro h
      split at h<;>rename_i q
      · cases h
      · obtain ⟨n,hn⟩:=xe.1 h
        exact ⟨n+1,by simp only [uv,q];exact hn⟩
      · exact ⟨1,by simp only [uv,q];exact h⟩
  generalize (match B s with | none=>none | some (.inl s')=>dN B s' | some (.inr y)=>some y)=x at key
  cases hl:dN B s with
  | none=>cases x with
    | none=>rfl
    | some y=>rw [(key y).2 rfl] at hl;cases hl
  | some y=>rw [hl] at key;exact ((key y).1 rfl).symm
theorem LD{σ Y:Type}{B:σ→Option (σ⊕Y)}{s s':σ}(h:B s=some (.inl s')) :dN B s=dN B s':=by rw [LC,h]
theorem Ih{σ Y:Type}{B:σ→Option (σ⊕Y)}{s:σ}{y:Y}(h:B s=some (.inr y)) :dN B s=some y:=by rw [LC,h]
def fB{ρ X:Type}(id:Nat)(J:ρ→aG)(E:X→AE×aG) :ρ⊕X→AE×aG
  | .inl r=>(.exit id,J r)
  | .inr x=>E x
def oV{X:Type}(id:Nat)(E:X→AE×aG) :Prop:=∀ x,(E x).1 ≠ .exit id
theorem Sg.loop{P:Program}{lent:List aC}{σ ρ X:Type}{I:σ→aG}{J:ρ→aG}{E:X→AE×aG}{B:σ→Option (σ⊕(ρ⊕X))}{id:Nat}{b:Code}(hE:mW E)(hI:oV id E) 
    (hb:∀ s,Sg P lent (dU b) (I s) (B s) I (fB id J E)) (s:σ):Sg P lent [.block id (.loop b)] (I s) (dN B s) J E:=by
  intro y hy
  obtain ⟨n,hn⟩:=xe.1 hy

  have:=gj.loop (P:=P) (lent:=lent) (id:=id) (b:=b) (rest:=[]) (Q:=fun e st'=>(e,st')=vJ J E y) (σ:=Nat×σ) (fun s=>I s.2) (fun s=>uv B s.1 s.2=some y) (fun s=>s.1) rfl (fun s hs=>?_) (n,s) hn
  · exact this
  · obtain ⟨n,s⟩:=s
    simp only at hs ⊢
    cases n with
    | zero=>cases hs
    | succ n =>
      simp only [uv] at hs
      split at hs
      · cases hs
      · rename_i s' hB
        refine (hb s _ hB).mono ?_
        intro e st' q
        simp only [vJ,Prod.mk.injEq] at q
        obtain ⟨rfl,rfl⟩:=q
        exact ⟨(n,s'),hs,by simp,rfl⟩
      · rename_i y' hB
        simp only [Option.some.injEq] at hs;subst hs
        refine (hb s _ hB).mono ?_
        intro e st' q
        cases y' with
        | inl r =>
          simp only [vJ,fB,Prod.mk.injEq] at q
          obtain ⟨rfl,rfl⟩:=q
          simp only [z6,if_true]
          exact gj.nil rfl
        | inr x =>
          simp only [vJ,fB] at q
          have h1:=hE x
          have h2:=hI x
          rw [←q] at h1 h2
          simp only at h1 h2
          cases e with
          | normal=>exact (h1 rfl).elim
          | ret=>exact q
          | exit j =>
            have hj : ¬ j=id:=fun h=>h2 (by rw [h])
            simp only [z6,hj,if_false]
            exact q
def Ii{κ X:Type}(m:Option (κ⊕(κ⊕X))) :Option (κ⊕X) :=
  match m with
  | none=>none
  | some (.inl a)=>some (.inl a)
  | some (.inr (.inl a))=>some (.inl a)
  | some (.inr (.inr x))=>some (.inr x)
theorem Sg.block{P:Program}{lent:List aC}{κ X:Type}{K:κ→aG}{E:X→AE×aG}{m:Option (κ⊕(κ⊕X))}{id:Nat}{b:Code}{st:aG}(hE:mW E)(hI:oV id E) 
    (hb:Sg P lent (dU b) st m K (fB id K E)):Sg P lent [.block id b] st (Ii m) K E:=by
  intro r hr
  unfold Ii at hr
  refine gj.block (rest:=[]) rfl ?_
  split at hr
  · cases hr
  · simp only [Option.some.injEq] at hr;subst hr
    refine (hb _ rfl).mono ?_
    intro e st' q
    simp only [vJ,Prod.mk.injEq] at q
    obtain ⟨rfl,rfl⟩:=q
    exact gj.nil rfl
  · simp only [Option.some.injEq] at hr;subst hr
    refine (hb _ rfl).mono ?_
    intro e st' q
    simp only [vJ,fB,Prod.mk.injEq] at q
    obtain ⟨rfl,rfl⟩:=q
    simp only [if_true]
    exact gj.nil rfl
  · rename_i x
    simp only [Option.some.injEq] at hr;subst hr
    refine (hb _ rfl).mono ?_
    intro e st' q
    simp only [vJ,fB] at q
    have h1:=hE x
    have h2:=hI x
    rw [←q] at h1 h2
    simp only at h1 h2
    cases e with
    | normal=>exact (h1 rfl).elim
    | ret=>exact q
    | exit j =>
      have hj : ¬ j=id:=fun h=>h2 (by rw [h])
      simp only [hj,if_false]
      exact q
theorem Sg.scope{P:Program}{lent:List aC}{α X:Type}{N:α→aG}{E:X→AE×aG}{m:Option (α⊕X)}{b:Code}{st:aG}(hE:mW E)(hb:Sg P lent (dU b) st m N E) :Sg P lent [.scope b] st m N E:=by
  intro r hr
  refine gj.scope (rest:=[]) rfl ((hb r hr).mono ?_)
  intro e st' q
  cases r with
  | inl a =>
    simp only [vJ,Prod.mk.injEq] at q
    obtain ⟨rfl,rfl⟩:=q
    exact gj.nil rfl
  | inr x =>
    refine Q8 ?_ q
    have:=hE x
    simp only [vJ] at q
    rw [←q] at this;exact this
theorem LE{k:Nat}{ρ0:ak}{w0:World}{st:aG}{a:Act}{w:World}{c:Operand}{b kn:Bool}(h:At k ρ0 w0 st a w)(hc:Uw st.tmps c=.bool kn b) :At k ρ0 w0 { st with tmps:=qa st.tmps c b } a w∧a.eval c=.bool b:=by
  obtain ⟨ρ,E,W,hs,hbk,hle⟩:=h
  have hb:a.eval c=.bool b:=by
    have:=Eg hs.heap.rom hs.tmps c
    rw [hc] at this
    generalize a.eval c=z at this
    cases this;rfl
  refine ⟨⟨ρ,E,W,⟨hs.defers,?_,hs.heap⟩,hbk,hle⟩,hb⟩
  cases c with
  | tmp t =>
    simp only [qa]
    have:dT ρ w (st.tmps.set t (.bool true b)) (a.tmps.toList.set t (.bool b)):=hs.tmps.set (.bool _ _) t
    have e:a.tmps.toList.set t (.bool b)=a.tmps.toList:=by
      apply List.ext_getElem?
      intro j
      rw [List.getElem?_set]
      split
      · rename_i q;subst q
        split
        · rename_i hlt
          simp only [Act.eval] at hb
          rw [Array.getD_eq_getD_getElem?] at hb
          have hlt':t<a.tmps.size:=by simpa using hlt
          rw [Array.getElem?_eq_getElem hlt'] at hb
          simp only [Option.getD_some] at hb
          simp [hlt',hb]
        · rename_i hge
          rw [List.getElem?_eq_none (by omega)]
      · rfl
    rw [e] at this;exact this
  | const v=>exact hs.tmps
  | global g=>exact hs.tmps
  | func f=>exact hs.tmps
theorem Sg.cond{P:Program}{lent:List aC}{α X:Type}{N:α→aG}{E:X→AE×aG}{m1 m2:Option (α⊕X)}{c:Operand}{A B:Code}{st:aG}{kn b:Bool}(hE:mW E)(hc:Uw st.tmps c=.bool kn b) 
    (h1:Sg P lent (dU A) { st with tmps:=qa st.tmps c true } m1 N E) (h2:Sg P lent (dU B) { st with tmps:=qa st.tmps c false } m2 N E):Sg P lent [.cond c A B] st (bif b then m1 else m2) N E:=by
  intro r hr
  intro ρ0 w0 hN K hK a w hA
  simp only [GN]
  obtain ⟨hA',hb⟩:=LE hA hc
  refine wp_cond hb ?_
  have fin:∀ (D:Code) (m:Option (α⊕X)) (st1:aG),Sg P lent (dU D) st1 m N E→m=some r→At lent.length ρ0 w0 st1 a w→D.wp P (fun e a' w'=>match e with | .normal=>K .normal a' w' | e=>K e a' w') a w:=by
    intro D m st1 hS hm hA1
    refine sY D (hS r hm ρ0 w0 hN _ ?_ a w hA1)
    intro e st' a' w' q hA2
    cases e with
    | normal=>exact hK .normal st' a' w' q hA2
    | ret=>exact hK .ret st' a' w' q hA2
    | exit id=>exact hK (.exit id) st' a' w' q hA2
  cases b with
  | true=>exact fin A m1 _ h1 hr hA'
  | false=>exact fin B m2 _ h2 hr hA'
theorem Sg.pre{P:Program}{lent:List aC}{α X:Type}{N:α→aG}{E:X→AE×aG}{m:Option (α⊕X)}{cs:List Code}{st st1:aG}(s:NS)(hn:s.ok lent.length=true)(h1:s.on st=st1)(h:Sg P lent cs st1 m N E) :Sg P lent cs st m N E :=
  fun r hr=>gj.weak (by rw [←h1];exact S3 hn st) (h r hr)
def pm{X:Type} :Option (Empty⊕X)→Option X
  | some (.inr x)=>some x
  | _=>none
theorem Sg.contract{P:Program}{f:FuncId}{fn:Func}{c:Code}{X:Type}{N:Empty→aG}{E:X→AE×aG}{m:Option (Empty⊕X)}{lent:List aC}{args:List AV}(keep:Bool)(o:X→jj)(hf:P.funcs[f]? = some fn)(hc:fn.body=some c) 
    (h:Sg P lent (dU c) (n8 fn lent args) m N E) (hE:∀ x,Q0 P fn lent.length keep (o x) (E x).1 (E x).2) {x:X} (hx:pm m=some x):ai P f lent args (o x):=by
  unfold pm at hx
  split at hx
  · rename_i x'
    simp only [Option.some.injEq] at hx;subst hx
    refine gj.contract (keep:=keep) hf hc ((h _ rfl).mono ?_)
    intro e st' q
    simp only [vJ] at q
    have:=hE x'
    rw [←q] at this;exact this
  · cases hx
end Go.Plb
namespace Go.Plb
set_option linter.unusedSectionVars false
variable [Rom]
theorem cD{ρ X:Type}{id:Nat}{J:ρ→aG}{E:X→AE×aG}(h:mW E) :mW (fB id J E):=by
  intro x
  cases x with
  | inl r=>intro q;cases q
  | inr x=>exact h x
theorem BA{ρ X:Type}{id j:Nat}{J:ρ→aG}{E:X→AE×aG}(hj:(j==id)=false)(h:oV id E) :oV id (fB j J E):=by
  intro x
  cases x with
  | inl r =>
    intro q
    simp only [fB,AE.exit.injEq] at q
    subst q
    simp at hj
  | inr x=>exact h x
def gI:Code→Code
  | .block _ (.loop b)=>b
  | _=>.skip
def inBlock:Code→Code
  | .block _ b=>b
  | _=>.skip
def Q9:Code→Code
  | .scope b=>b
  | _=>.skip
theorem Sg.cut{P:Program}{lent:List aC}{α β X:Type}{cs:List Code}{st:aG}{m:Option (α⊕X)}{N1:α→aG}{E:X→AE×aG}{k:α→Option (β⊕X)}{N:β→aG}(n:Nat)(hE:mW E) 
    (h:Sg P lent (cs.take n) st m N1 E) (hk:∀ a,Sg P lent (cs.drop n) (N1 a) (k a) N E):Sg P lent cs st (aH m k) N E:=by
  have:=Sg.seq hE h hk
  rwa [List.take_append_drop] at this
theorem RX{P:Program}{lent:List aC}{σ ρ X:Type}{I:σ→aG}{J:ρ→aG}{E:X→AE×aG}{B:σ→Option (σ⊕(ρ⊕X))}{id:Nat}{b:Code}{cs:List Code}(hcs:cs=[.block id (.loop b)])(hE:mW E)(hI:oV id E) 
    (hb:∀ s,Sg P lent (dU b) (I s) (B s) I (fB id J E)) (s:σ):Sg P lent cs (I s) (dN B s) J E:=by rw [hcs];exact Sg.loop hE hI hb s
theorem OP{P:Program}{lent:List aC}{κ X:Type}{K:κ→aG}{E:X→AE×aG}{m:Option (κ⊕(κ⊕X))}{id:Nat}{b:Code}{st:aG}{cs:List Code}(hcs:cs=[.block id b])(hE:mW E)(hI:oV id E) 
    (hb:Sg P lent (dU b) st m K (fB id K E)):Sg P lent cs st (Ii m) K E:=by rw [hcs];exact Sg.block hE hI hb
theorem OQ{P:Program}{lent:List aC}{α X:Type}{N:α→aG}{E:X→AE×aG}{m:Option (α⊕X)}{b:Code}{st:aG}{cs:List Code}(hcs:cs=[.scope b])(hE:mW E)(hb:Sg P lent (dU b) st m N E) :Sg P lent cs st m N E:=by
  rw [hcs];exact Sg.scope hE hb
end Go.Plb
namespace Go.Plb
set_option linter.unusedSimpArgs false
set_option linter.unusedVariables false
set_option linter.unusedSectionVars false
variable [Rom]
theorem bT{α:Type}{b:Bool}{t:T α}{x:Option α}(h:b=true)(k:t.run=x) :(T.need b t).run=x:=by subst h;exact k
theorem E3{α:Type}{b:Bool}{t f:T α}{x:Option α}(h:b=true)(k:t.run=x) :(T.ask b t f).run=x:=by subst h;exact k
theorem oD{α:Type}{b:Bool}{t f:T α}{x:Option α}(h:b=false)(k:f.run=x) :(T.ask b t f).run=x:=by subst h;exact k
theorem VF{α:Type}{k:Nat}{t f:T α}{a:α}(h:t.run=some a) :(T.alt k t f).run=some a:=by simp only [T.run,h]
theorem Wp{α:Type}{k:Nat}{t f:T α}{x:Option α}(h:t.run=none)(q:f.run=x) :(T.alt k t f).run=x:=by simp only [T.run,h];exact q
theorem Wq{α:Type}{b:Bool}{t:T α}(h:b=false) :(T.need b t).run=none:=by subst h;rfl
theorem au{α:Type}{b:Bool}{t:T α}{x:Option α}(k:t.run=x)(h:b=true:=by exact rfl) :(T.need b t).run=x:=bT h k
theorem cB{α:Type}{b:Bool}{t f:T α}{x:Option α}(k:t.run=x)(h:b=true:=by exact rfl) :(T.ask b t f).run=x:=E3 h k
theorem aO{α:Type}{b:Bool}{t f:T α}{x:Option α}(k:f.run=x)(h:b=false:=by exact rfl) :(T.ask b t f).run=x:=oD h k
theorem ae{α β X:Type}{m:Option (α⊕X)}{k:α→Option (β⊕X)}{a:α}{x:Option (β⊕X)}(h:m=some (.inl a))(q:k a=x) :aH m k=x:=by subst h;exact q
theorem bN{α β X:Type}{m:Option (α⊕X)}{k:α→Option (β⊕X)}{y:X}(h:m=some (.inr y)) :aH m k=some (.inr y):=by subst h;rfl
theorem Tn{κ X:Type}{m:Option (κ⊕(κ⊕X))}{a:κ}(h:m=some (.inl a)) :Ii m=some (.inl a):=by subst h;rfl
theorem bk{X:Type}{m:Option (Empty⊕X)}{x:X}(h:m=some (.inr x)) :pm m=some x:=by subst h;rfl
theorem RY{σ Y:Type}{B:σ→Option (σ⊕Y)}(st:Nat→σ)(n:Nat){y:Y}(i:Nat)(hi:i≤n)(step:∀ j,i≤j→j<n→B (st j)=some (.inl (st (j+1))))(done:B (st n)=some (.inr y)) :dN B (st i)=some y:=by
  obtain ⟨d,rfl⟩:∃ d,n=i+d:=⟨n-i,by omega⟩
  clear hi
  induction d generalizing i with
  | zero=>exact Ih done
  | succ d ih =>
    rw [LD (step i (Nat.le_refl _) (by omega))]
    have e:i+(d+1)=i+1+d:=by omega
    rw [e] at step done
    exact ih (i+1) (fun j h1 h2=>step j (by omega) h2) done
theorem dO{σ Y:Type}{B:σ→Option (σ⊕Y)}(st:Nat→σ)(n:Nat){y:Y}{s0:σ}(h0:s0=st 0)(step:∀ j,j<n→B (st j)=some (.inl (st (j+1))))(done:B (st n)=some (.inr y)) :dN B s0=some y:=by
  rw [h0];exact RY st n 0 (Nat.zero_le _) (fun j _=>step j) done
theorem dp{n:Int} :gd .i64 n=true↔-9223372036854775808≤n∧n≤9223372036854775807:=by
  have e1:IntKind.i64.min = -9223372036854775808:=by decide
  have e2:IntKind.i64.max=9223372036854775807:=by decide
  simp only [gd,e1,e2,Bool.and_eq_true,decide_eq_true_eq]
theorem q9{k:Int}{n:Nat} :gp k n=true↔0≤k∧k<n:=by simp only [gp,Bool.and_eq_true,decide_eq_true_eq]
theorem se{k:Int}{n:Nat} :vj k n=true↔0≤k∧k≤n:=by simp only [vj,Bool.and_eq_true,decide_eq_true_eq]
theorem jl{k n:Nat} :fF k n=true↔k<n:=by simp [fF]
theorem jm{k n:Nat} :pT k n=true↔k≤n:=by simp [pT]
theorem jM{k n:Nat} :Nat.ble k n=true↔k≤n:=by rw [Nat.ble_eq]
theorem jN{k n:Nat} :Nat.blt k n=true↔k<n:=by rw [Nat.blt_eq]
def G3(f:Nat→Nat) :Nat→Nat
  | 0=>0
  | n+1=>js (G3 f n) (f n)
theorem E4{f g:Nat→Nat} :∀ {n:Nat},(∀ i,i<n→f i=g i)→G3 f n=G3 g n
  | 0,_=>rfl
  | n+1,h=>by simp only [G3];rw [E4 fun i hi=>h i (by omega),h n (by omega)]
def JE{α:Type}(pos:Nat→Nat)(val:Nat→α)(l:List α) :Nat→List α
  | 0=>l
  | n+1=>(JE pos val l n).set (pos n) (val n)
theorem eB{α:Type}{pos:Nat→Nat}{val:Nat→α}{l:List α} :∀ {n:Nat},(JE pos val l n).length=l.length
  | 0=>rfl
  | n+1=>by simp only [JE,List.length_set];exact eB
theorem yQ{α:Type}{pos:Nat→Nat}{val:Nat→α}{l:List α}{p:Nat}{d:α} :∀ {n:Nat},(∀ i,i<n→pos i≠p)→(JE pos val l n).getD p d=l.getD p d
  | 0,_=>rfl
  | n+1,h=>by
    have h1:=h n (by omega)
    simp only [JE,List.getD_eq_getElem?_getD,List.getElem?_set,if_neg h1]
    have:=yQ (pos:=pos) (val:=val) (l:=l) (p:=p) (d:=d) (n:=n) (fun i hi=>h i (by omega))
    simpa [List.getD_eq_getElem?_getD] using this
theorem oE{α:Type}(l:List α) :a6 0 l.length l=true:=by rw [dZ];omega
theorem dk{α:Type}{b:Bool}{t:T α}{x:Option α}(k:t.run=x)(h:b=true:=by exact oE _) :(T.need b t).run=x:=bT h k
theorem ez{α:Type}{n:Nat}{l:List α}(h:l.length=n) :aa 0 n l=l:=by rw [←h];exact aW l
theorem VG(n:Nat) :Nat.ble (0+n) n=true:=by rw [Nat.ble_eq];omega
theorem Ra{α:Type}{b:Bool}{t:T α}{x:Option α}(k:t.run=x)(h:b=true:=by exact VG _) :(T.need b t).run=x:=bT h k
theorem sf{p:Nat→Prop} [DecidablePred p]:∀ {n:Nat},(¬ ∀ i,i<n→p i)→∃ k,k<n∧¬ p k∧∀ j,j<k→p j
  | 0,h=>(h fun i hi=>absurd hi (Nat.not_lt_zero _)).elim
  | n+1,h=>by
    by_cases q:∀ i,i<n→p i
    · refine ⟨n,Nat.lt_succ_self _,fun r=>h fun i hi=>?_,q⟩
      rcases Nat.lt_succ_iff_lt_or_eq.1 hi with a | rfl
      · exact q i a
      · exact r
    · obtain ⟨k,h1,h2,h3⟩:=sf q
      exact ⟨k,by omega,h2,h3⟩
theorem Rb{α:Type}{val:Nat→α}{l:List α}{d:α}{i:Nat} :∀ {n:Nat},i<n→n≤l.length→(JE (fun i=>i) val l n).getD i d=val i
  | 0,h,_=>absurd h (Nat.not_lt_zero _)
  | n+1,h,hl=>by
    simp only [JE,List.getD_eq_getElem?_getD,List.getElem?_set,eB]
    by_cases e:n=i
    · subst e;rw [if_pos rfl,if_pos (by omega)];rfl
    · rw [if_neg e]
      have:=Rb (val:=val) (l:=l) (d:=d) (i:=i) (n:=n) (by omega) (by omega)
      simpa [List.getD_eq_getElem?_getD] using this
theorem cx(n:Nat) :Int.toNat (n:Int)=n:=rfl
def cN(x:Nat) :Nat:=if x<4503599627370496 then x else 4503599627370496+x%4503599627370496
def dG(x:Nat) :Nat:=x/4503599627370496-1
theorem D4(x:Nat) :cN x<9007199254740992:=by unfold cN;split<;>omega
def gk{α:Type}(f:Nat→α) :Nat→List α
  | 0=>[]
  | n+1=>gk f n++[f n]
theorem de{α:Type}{f:Nat→α} :∀ {n:Nat},(gk f n).length=n
  | 0=>rfl
  | n+1=>by simp only [gk,List.length_append,List.length_singleton,de (n:=n)]
theorem sh{α:Type}{f:Nat→α} :∀ {n i:Nat},i<n→(gk f n)[i]? = some (f i)
  | 0,i,h=>absurd h (Nat.not_lt_zero _)
  | n+1,i,h=>by
    simp only [gk]
    by_cases e:i=n
    · subst e;rw [List.getElem?_append_right (by rw [de];exact Nat.le_refl _),de,Nat.sub_self];rfl
    · rw [List.getElem?_append_left (by rw [de];omega)];exact sh (by omega)
theorem nk{α:Type}{f:Nat→α}{n i:Nat}{d:α}(h:i<n) :(gk f n).getD i d=f i:=by
  rw [List.getD_eq_getElem?_getD,sh h];rfl
theorem bV{α:Type}{f g:Nat→α} :∀ {n:Nat},(∀ i,i<n→f i=g i)→gk f n=gk g n
  | 0,_=>rfl
  | n+1,h=>by simp only [gk];rw [bV fun i hi=>h i (by omega),h n (by omega)]
theorem xf{α:Type}{f:Nat→α}{n:Nat}{l:List α}(hl:l.length=n)(h:∀ i,i<n→l[i]? = some (f i)) :l=gk f n:=by
  apply List.ext_getElem?
  intro i
  by_cases hi:i<n
  · rw [h i hi,sh hi]
  · rw [List.getElem?_eq_none (by omega),List.getElem?_eq_none (by rw [de];omega)]
theorem lA{α:Type}{f:Nat→α}{n i:Nat}{x:α}(h:i<n) :(gk f n).set i x=gk (fun j=>if j=i then x else f j) n:=by
  refine xf (by rw [List.length_set,de]) fun j hj=>?_
  rw [List.getElem?_set,de]
  by_cases e:i=j
  · subst e;rw [if_pos rfl,if_pos h,if_pos rfl]
  · rw [if_neg e,sh hj,if_neg fun q=>e q.symm]
theorem uw{α:Type}{n:Nat}{x:α} :List.replicate n x=gk (fun _=>x) n :=
  xf List.length_replicate fun i hi=>by rw [List.getElem?_replicate,if_pos hi]
theorem RZ{α:Type}{f:Nat→α}{n m:Nat}(h:m≤n) :aa 0 m (gk f n)=gk f m:=by
  refine xf (jw (by rw [de];omega)) fun i hi=>?_
  rw [qX,List.drop_zero,List.getElem?_take,if_pos hi,sh (by omega)]
abbrev W:Nat:=18446744073709551616
def lm(v i:Nat) :Int:=((v/W^i%W:Nat):Int)
def az(v n:Nat) :List Int:=gk (lm v) n
theorem dP(n:Nat) :0<W^n:=Nat.pow_pos (by decide)
theorem ay{v n:Nat} :(az v n).length=n:=de
theorem vK{v i:Nat} :(lm v i).toNat=v/W^i%W:=rfl
theorem xg{v i:Nat}(h:v<W^i) :lm v i=0:=by unfold lm;rw [Nat.div_eq_of_lt h];rfl
theorem D5{v n i:Nat}(h:i<n) :(az v n).getD i 0=lm v i:=nk h
theorem cq{v n:Nat}(h:v<W^n)(i:Nat) :(az v n).getD i 0=lm v i:=by
  by_cases hi:i<n
  · exact D5 hi
  · rw [List.getD_eq_getElem?_getD,List.getElem?_eq_none (by rw [ay];omega)]
    exact (xg (Nat.lt_of_lt_of_le h (Nat.pow_le_pow_right (by decide) (by omega)))).symm
theorem aR{v n m:Nat}(h:m≤n) :aa 0 m (az v n)=az v m:=RZ h
theorem BC{n:Nat} :List.replicate n (0:Int)=az 0 n:=by
  rw [uw];exact bV fun i _=>(xg (dP i)).symm
theorem yR{u x j:Nat}(hu:u<W^j)(hx:x<W)(i:Nat) :lm (u+x*W^j) i=if i=j then (x:Int) else lm u i:=by
  unfold lm
  by_cases e:i=j
  · subst e
    rw [if_pos rfl,Nat.add_mul_div_right _ _ (dP i),Nat.div_eq_of_lt hu,Nat.zero_add,Nat.mod_eq_of_lt hx]
  · rw [if_neg e]
    congr 1
    rcases Nat.lt_or_ge i j with h | h
    · obtain ⟨d,rfl⟩:∃ d,j=i+1+d:=⟨j-i-1,by omega⟩
      have:x*W^(i+1+d)=(x*W^d*W)*W^i:=by
        rw [Nat.pow_add,Nat.pow_succ];simp only [Nat.mul_assoc,Nat.mul_comm,Nat.mul_left_comm]
      rw [this,Nat.add_mul_div_right _ _ (dP i),Nat.add_mul_mod_self_right]
    · have h1:W^(j+1)≤W^i:=Nat.pow_le_pow_right (by decide) (by omega)
      have h2:u+x*W^j<W^(j+1):=by
        rw [Nat.pow_succ,Nat.mul_comm (W^j)]
        have:(x+1)*W^j≤W*W^j:=Nat.mul_le_mul_right _ hx
        rw [Nat.add_mul,Nat.one_mul] at this
        omega
      have h3:W^j≤W^(j+1):=Nat.pow_le_pow_right (by decide) (by omega)
      rw [Nat.div_eq_of_lt (Nat.lt_of_lt_of_le h2 h1),Nat.div_eq_of_lt (by omega)]
theorem pC{u x j n:Nat}(hu:u<W^j)(hx:x<W)(hj:j<n) :(az u n).set j (x:Int)=az (u+x*W^j) n:=by
  unfold az
  rw [lA hj]
  exact bV fun i _=>(yR hu hx i).symm
theorem lY(v j:Nat) :v%W^(j+1)=v%W^j+(v/W^j%W)*W^j:=by
  rw [Nat.pow_succ,Nat.mod_mul,Nat.mul_comm (W^j)]
theorem To{v n:Nat} :az (v%W^n) n=az v n:=by
  refine bV fun i hi=>?_
  unfold lm
  obtain ⟨d,rfl⟩:∃ d,n=i+1+d:=⟨n-i-1,by omega⟩
  congr 1
  have h:=Nat.mod_mul (a:=W^i) (b:=W^(d+1)) (x:=v)
  have e:W^(i+1+d)=W^i*W^(d+1):=by rw [←Nat.pow_add];congr 1;omega
  rw [e,h,Nat.add_mul_div_left _ _ (dP i),Nat.div_eq_of_lt (Nat.mod_lt _ (dP i)),Nat.zero_add,Nat.pow_succ,Nat.mod_mul_left_mod]
def nl(v:Nat) :Nat:=if h:v=0 then 0 else nl (v/W)+1
termination_by v
decreasing_by exact Nat.div_lt_self (Nat.pos_of_ne_zero h) (by decide)
theorem gh:nl 0=0:=by rw [nl];rfl
theorem cC:∀ (v:Nat),v<W^nl v:=by
  intro v
  induction v using Nat.strongRecOn with
  | _ v ih =>
    rw [nl]
    split
    · rename_i h;subst h;decide
    · rename_i h
      have:=ih (v/W) (Nat.div_lt_self (Nat.pos_of_ne_zero h) (by decide))
      rw [Nat.pow_succ]
      exact (Nat.div_lt_iff_lt_mul (by decide)).1 this
theorem Tp:∀ {v:Nat},v≠0→W^(nl v-1)≤v:=by
  intro v
  induction v using Nat.strongRecOn with
  | _ v ih =>
    intro h
    rw [nl,dif_neg h,Nat.add_sub_cancel]
    by_cases h2:v/W=0
    · rw [h2,gh];simp;omega
    · have:=ih (v/W) (Nat.div_lt_self (Nat.pos_of_ne_zero h) (by decide)) h2
      have e:W^nl (v/W)=W^(nl (v/W)-1)*W:=by
        rw [←Nat.pow_succ];congr 1
        have:nl (v/W)≠0:=by rw [nl,dif_neg h2];exact Nat.succ_ne_zero _
        omega
      rw [e]
      exact Nat.le_trans (Nat.mul_le_mul_right _ this) (Nat.div_mul_le_self v W)
theorem yS{v:Nat}(h:v≠0) :0<nl v:=by rw [nl,dif_neg h];exact Nat.succ_pos _
theorem gu{v n:Nat}(h:v<W^n) :nl v≤n:=by
  by_cases h0:v=0
  · rw [h0,gh];exact Nat.zero_le _
  · have:=Tp h0
    have h1:W^(nl v-1)<W^n:=Nat.lt_of_le_of_lt this h
    have:=(Nat.pow_lt_pow_iff_right (show 1<W by decide)).1 h1
    omega
theorem k9{v:Nat} :nl v=0↔v=0:=by
  constructor
  · intro h
    by_cases h0:v=0
    · exact h0
    · have:=yS h0;omega
  · intro h;rw [h,gh]
theorem Tq{v:Nat}(h:v≠0) :lm v (nl v-1)≠0:=by
  have h1:=Tp h
  have h2:=cC v
  have h3:=yS h
  unfold lm
  have e:W^nl v=W^(nl v-1)*W:=by rw [←Nat.pow_succ];congr 1;omega
  have q:v/W^(nl v-1)<W:=by
    rw [Nat.div_lt_iff_lt_mul (dP _),Nat.mul_comm,←e];exact h2
  have p:0<v/W^(nl v-1):=Nat.div_pos h1 (dP _)
  rw [Nat.mod_eq_of_lt q];omega
theorem yT{S t j:Nat}(hS:S<W^j) :(S+t*W^j)/W^(j+1)=t/W∧(S+t*W^j)%W^(j+1)=S+(t%W)*W^j:=by
  have e1:(S+t*W^j)/W^j=t:=by rw [Nat.add_mul_div_right _ _ (dP j),Nat.div_eq_of_lt hS,Nat.zero_add]
  have e2:(S+t*W^j)%W^j=S:=by rw [Nat.add_mul_mod_self_right,Nat.mod_eq_of_lt hS]
  constructor
  · rw [Nat.pow_succ,←Nat.div_div_eq_div_mul,e1]
  · rw [lY,e1,e2]
theorem rI(v i:Nat) :lm v i=((v/W^i%W:Nat):Int):=rfl
theorem Ac(v j:Nat) :v/W^j=v/W^(j+1)*W+v/W^j%W:=by
  rw [Nat.pow_succ,←Nat.div_div_eq_div_mul,Nat.mul_comm,Nat.div_add_mod]
theorem R0{a b i:Nat} :lm a i=lm b i↔a/W^i%W=b/W^i%W:=by unfold lm;omega
theorem E5{a b n:Nat}(ha:a<W^n)(hb:b<W^n) :∀ {d:Nat},d≤n→(∀ k,n-d≤k→k<n→lm a k=lm b k)→a/W^(n-d)=b/W^(n-d)
  | 0,_,_=>by rw [Nat.sub_zero,Nat.div_eq_of_lt ha,Nat.div_eq_of_lt hb]
  | d+1,hd,h=>by
    have ih:=E5 ha hb (d:=d) (by omega) fun k h1 h2=>h k (by omega) h2
    have e:n-d=n-(d+1)+1:=by omega
    rw [Ac a,Ac b,←e,ih,R0.1 (h (n-(d+1)) (Nat.le_refl _) (by omega))]
theorem E6{a b i:Nat}(h:a/W^(i+1)=b/W^(i+1))(hl:lm a i<lm b i) :a<b:=by
  have hl':a/W^i%W<b/W^i%W:=by unfold lm at hl;omega
  have:a/W^i<b/W^i:=by rw [Ac a,Ac b,h];omega
  rcases Nat.lt_or_ge a b with q | q
  · exact q
  · have:=Nat.div_le_div_right (c:=W^i) q
    omega
theorem LF{a b:Nat}(h:nl a<nl b) :a<b:=by
  have hb:b≠0:=fun e=>by rw [e,gh] at h;omega
  exact Nat.lt_of_lt_of_le (Nat.lt_of_lt_of_le (cC a) (Nat.pow_le_pow_right (by decide) (by omega))) (Tp hb)
def qK(a b:Nat) :Int:=if a<b then -1 else if b<a then 1 else 0
def si(x y j:Nat) :Nat:=x%W^j+y%W^j
theorem R1(x y j:Nat) :si x y (j+1)=si x y j%W^j+(x/W^j%W+y/W^j%W+si x y j/W^j)*W^j:=by
  have h:=Nat.div_add_mod (si x y j) (W^j)
  unfold si at h ⊢
  rw [lY x,lY y]
  rw [Nat.add_mul,Nat.add_mul,Nat.mul_comm ((x%W^j+y%W^j)/W^j)]
  omega
theorem E7{x y j:Nat} :si x y j/W^j≤1:=by
  have h1:=Nat.mod_lt x (dP j)
  have h2:=Nat.mod_lt y (dP j)
  have:si x y j<2*W^j:=by unfold si;omega
  have:=(Nat.div_lt_iff_lt_mul (dP j)).2 this
  omega
def E8(a b j:Nat) :Nat:=if a%W^j<b%W^j then 1 else 0
def Dr(a b j:Nat) :Nat:=a%W^j+E8 a b j*W^j-b%W^j
theorem Rc{a b j:Nat} :Dr a b j<W^j∧b%W^j≤a%W^j+E8 a b j*W^j:=by
  have h1:=Nat.mod_lt a (dP j)
  have h2:=Nat.mod_lt b (dP j)
  unfold Dr E8
  generalize a%W^j=A at *
  generalize b%W^j=B at *
  generalize W^j=P at *
  split
  · rw [Nat.one_mul];omega
  · rw [Nat.zero_mul];omega
theorem LG(a b j:Nat) :E8 a b (j+1)=(if a/W^j%W<b/W^j%W+E8 a b j then 1 else 0) ∧
    Dr a b (j+1)=Dr a b j+((a/W^j%W+W-b/W^j%W-E8 a b j)%W)*W^j:=by
  obtain ⟨hD,hle⟩:=Rc (a:=a) (b:=b) (j:=j)
  have hbr:E8 a b j≤1:=by unfold E8;split<;>omega
  have hla:=Nat.mod_lt (a/W^j) (show W>0 by decide)
  have hlb:=Nat.mod_lt (b/W^j) (show W>0 by decide)
  have eD:Dr a b j+b%W^j=a%W^j+E8 a b j*W^j:=by unfold Dr at hD ⊢;omega
  have eW:W^(j+1)=W*W^j:=by rw [Nat.pow_succ,Nat.mul_comm]
  have ea:=lY a j
  have eb:=lY b j
  generalize a/W^j%W=la at *
  generalize b/W^j%W=lb at *
  generalize E8 a b j=br at *
  generalize Dr a b j=D at *
  by_cases h:la<lb+br
  · obtain ⟨d,hd⟩:∃ d,la+W=lb+br+d:=⟨la+W-lb-br,by omega⟩
    have hdW:d<W:=by omega
    have e3:la*W^j+W^(j+1)=lb*W^j+br*W^j+d*W^j:=by rw [eW,←Nat.add_mul,←Nat.add_mul,←Nat.add_mul,hd]
    have hlt:a%W^(j+1)<b%W^(j+1):=by
      have:(d+1)*W^j≤W*W^j:=Nat.mul_le_mul_right _ hdW
      rw [Nat.add_mul,Nat.one_mul] at this
      rw [ea,eb];omega
    have e1:E8 a b (j+1)=1:=by unfold E8;rw [if_pos hlt]
    refine ⟨by rw [if_pos h,e1],?_⟩
    have e4:(la+W-lb-br)%W=d:=by
      have:la+W-lb-br=d:=by omega
      rw [this,Nat.mod_eq_of_lt hdW]
    unfold Dr
    rw [e1,e4,ea,eb,Nat.one_mul];omega
  · obtain ⟨d,hd⟩:∃ d,la=lb+br+d:=⟨la-lb-br,by omega⟩
    have hdW:d<W:=by omega
    have e3:la*W^j=lb*W^j+br*W^j+d*W^j:=by rw [←Nat.add_mul,←Nat.add_mul,hd]
    have hlt : ¬ a%W^(j+1)<b%W^(j+1):=by rw [ea,eb];omega
    have e1:E8 a b (j+1)=0:=by unfold E8;rw [if_neg hlt]
    refine ⟨by rw [if_neg h,e1],?_⟩
    have e4:(la+W-lb-br)%W=d:=by
      have:la+W-lb-br=d+W:=by omega
      rw [this,Nat.add_mod_right,Nat.mod_eq_of_lt hdW]
    unfold Dr
    rw [e1,e4,ea,eb,Nat.zero_mul];omega
theorem Ad(x y:Nat) :cA .and .u64 (x:Int) (y:Int)=((x%W &&& y%W:Nat):Int):=by
  have e:(BitVec.ofInt IntKind.u64.bits (x:Int) &&& BitVec.ofInt IntKind.u64.bits (y:Int)).toNat=(x%W &&& y%W):=by
    show (BitVec.ofInt 64 (x:Int) &&& BitVec.ofInt 64 (y:Int)).toNat=_
    rw [lz,lz,BitVec.toNat_and,BitVec.toNat_ofNat,BitVec.toNat_ofNat]
  unfold cA
  simp only
  rw [e,fa]
  congr 1
  exact Nat.mod_eq_of_lt (Nat.lt_of_le_of_lt Nat.and_le_left (Nat.mod_lt _ (by decide)))
theorem JF(x y:Nat) :cA .or .u64 (x:Int) (y:Int)=((x%W ||| y%W:Nat):Int):=by
  have e:(BitVec.ofInt IntKind.u64.bits (x:Int) ||| BitVec.ofInt IntKind.u64.bits (y:Int)).toNat=(x%W ||| y%W):=by
    show (BitVec.ofInt 64 (x:Int) ||| BitVec.ofInt 64 (y:Int)).toNat=_
    rw [lz,lz,BitVec.toNat_or,BitVec.toNat_ofNat,BitVec.toNat_ofNat]
  unfold cA
  simp only
  rw [e,fa]
  congr 1
  exact Nat.mod_eq_of_lt (Nat.or_lt_two_pow (n:=64) (Nat.mod_lt _ (by decide)) (Nat.mod_lt _ (by decide)))
theorem LH{k:Nat}(h:k≤64) :min (Int.toNat (k:Int)) IntKind.u64.bits=k:=by
  show min k 64=k;omega
theorem LI(k:Nat) :(2:Int)^k=((2^k:Nat):Int):=by rw [Int.natCast_pow];rfl
theorem Tr(x y:Nat) :Int.fdiv (x:Int) (y:Int)=((x/y:Nat):Int):=by
  rw [Int.fdiv_eq_ediv_of_nonneg _ (Int.natCast_nonneg y),Int.natCast_ediv]
theorem te(x:Nat){k:Nat}(h:k≤64) :Int.fdiv (x:Int) (2^(min (Int.toNat (k:Int)) IntKind.u64.bits))=((x/2^k:Nat):Int):=by
  rw [LH h,LI,Tr]
theorem JG(x:Nat){k:Nat}(h:k≤64) :IntKind.u64.wrap ((x:Int)*2^(min (Int.toNat (k:Int)) IntKind.u64.bits))=((x*2^k%W:Nat):Int):=by
  rw [LH h,LI,←Int.natCast_mul,fa]
theorem yU{x:Nat}(h:x<W) :IntKind.u64.wrap (x:Int)=(x:Int):=by rw [fa,Nat.mod_eq_of_lt h]
theorem sj(x y:Nat) :IntKind.u64.wrap ((x:Int)+(y:Int))=(((x+y)%W:Nat):Int):=by rw [←Int.natCast_add,fa]
theorem sm(x y:Nat) :IntKind.u64.wrap ((x:Int)*(y:Int))=(((x*y)%W:Nat):Int):=by rw [←Int.natCast_mul,fa]
theorem JH{x:Nat}(h:x<W) :cA .and .u64 (x:Int) 4294967295=((x%4294967296:Nat):Int):=by
  show cA .and .u64 (x:Int) ((4294967295:Nat):Int)=_
  rw [Ad,Nat.mod_eq_of_lt h,Nat.mod_eq_of_lt (by decide:4294967295<W)]
  congr 1
  exact Nat.and_two_pow_sub_one_eq_mod x 32
theorem OR{x y:Nat}(hx:x<W)(hy:y<W) :
    (x/4294967296*(y%4294967296)+x%4294967296*(y%4294967296)/4294967296)<W ∧
    x%4294967296*(y%4294967296)<W∧x/4294967296*(y%4294967296)<W∧x/4294967296*(y/4294967296)<W∧x%4294967296*(y/4294967296)<W ∧
    (x/4294967296*(y%4294967296)+x%4294967296*(y%4294967296)/4294967296)%4294967296+x%4294967296*(y/4294967296)<W ∧
    x/4294967296*(y/4294967296)+(x/4294967296*(y%4294967296)+x%4294967296*(y%4294967296)/4294967296)/4294967296<W ∧
    x/4294967296*(y/4294967296)+(x/4294967296*(y%4294967296)+x%4294967296*(y%4294967296)/4294967296)/4294967296 +
      ((x/4294967296*(y%4294967296)+x%4294967296*(y%4294967296)/4294967296)%4294967296+x%4294967296*(y/4294967296))/4294967296=x*y/W∧x*y/W<W:=by
  have hx:x<18446744073709551616:=hx
  have hy:y<18446744073709551616:=hy
  have hx1:x/4294967296≤4294967295:=by omega
  have hy1:y/4294967296≤4294967295:=by omega
  have hx0:x%4294967296≤4294967295:=by omega
  have hy0:y%4294967296≤4294967295:=by omega
  have e:x*y=x/4294967296*(y/4294967296)*(4294967296*4294967296)+x/4294967296*(y%4294967296)*4294967296+(x%4294967296*(y/4294967296)*4294967296+x%4294967296*(y%4294967296)):=by
    have ex:x=x/4294967296*4294967296+x%4294967296:=by omega
    have ey:y=y/4294967296*4294967296+y%4294967296:=by omega
    generalize x/4294967296=a at *
    generalize x%4294967296=b at *
    generalize y/4294967296=c at *
    generalize y%4294967296=d at *
    rw [ex,ey,Nat.add_mul,Nat.mul_add,Nat.mul_add]
    generalize 4294967296=H
    ac_rfl
  have p1:=Nat.mul_le_mul hx1 hy1
  have p2:=Nat.mul_le_mul hx1 hy0
  have p3:=Nat.mul_le_mul hx0 hy1
  have p4:=Nat.mul_le_mul hx0 hy0
  rw [e]
  generalize x/4294967296*(y/4294967296)=s at *
  generalize x/4294967296*(y%4294967296)=p at *
  generalize x%4294967296*(y/4294967296)=q at *
  generalize x%4294967296*(y%4294967296)=r at *
  clear e hx hy hx1 hy1 hx0 hy0
  have eW:W=18446744073709551616:=rfl
  rw [eW]
  refine ⟨?_,?_,?_,?_,?_,?_,?_,?_,?_⟩<;>omega
def lZ(O a m k i:Nat) :Nat:=O%W^(k+i)+a%W^i*m*W^k
theorem Ij(O a m k i:Nat) :lZ O a m k (i+1)=lZ O a m k i%W^(k+i)+(O/W^(k+i)%W+a/W^i%W*m+lZ O a m k i/W^(k+i))*W^(k+i):=by
  have h:=Nat.div_add_mod (lZ O a m k i) (W^(k+i))
  have e:W^i*W^k=W^(k+i):=by rw [Nat.pow_add,Nat.mul_comm]
  have e2:(a/W^i%W)*W^i*m*W^k=a/W^i%W*m*W^(k+i):=by
    rw [←e];generalize a/W^i%W=x;ac_rfl
  have e3:lZ O a m k (i+1)=lZ O a m k i+(O/W^(k+i)%W*W^(k+i)+a/W^i%W*m*W^(k+i)):=by
    unfold lZ
    rw [←Nat.add_assoc k i 1,lY O,lY a,Nat.add_mul,Nat.add_mul,e2]
    omega
  rw [e3,Nat.add_mul,Nat.add_mul,Nat.mul_comm (lZ O a m k i/W^(k+i))]
  omega
theorem OS{O a m k i:Nat} :lZ O a m k i/W^(k+i)≤m:=by
  have h1:=Nat.mod_lt O (dP (k+i))
  have h2:=Nat.mod_lt a (dP i)
  have e:W^i*W^k=W^(k+i):=by rw [Nat.pow_add,Nat.mul_comm]
  have h3:a%W^i*m*W^k≤W^(k+i)*m:=by
    have:a%W^i*(m*W^k)≤W^i*(m*W^k):=Nat.mul_le_mul_right _ (by omega)
    have e4:W^i*(m*W^k)=W^(k+i)*m:=by rw [←e];ac_rfl
    rw [Nat.mul_assoc];omega
  have:lZ O a m k i<(m+1)*W^(k+i):=by
    rw [Nat.add_mul,Nat.one_mul,Nat.mul_comm m]
    unfold lZ;omega
  have:=(Nat.div_lt_iff_lt_mul (dP (k+i))).2 this
  omega
def G4(O a m k n i:Nat) :List Int:=gk (fun q=>if q<k+i then lm (lZ O a m k i%W^(k+i)) q else lm O q) n
theorem Ts{O a m k n i:Nat} :(G4 O a m k n i).length=n:=de
theorem UE{O a m k n i:Nat}(h:k+i<n) :(G4 O a m k n i).getD (k+i) 0=lm O (k+i):=by
  unfold G4;rw [nk h,if_neg (Nat.lt_irrefl _)]
theorem R2{O a m k n:Nat} :G4 O a m k n 0=az O n:=by
  refine bV fun q hq=>?_
  by_cases h:q<k+0
  · rw [if_pos h]
    have e:lZ O a m k 0%W^(k+0)=O%W^k:=by unfold lZ;rw [Nat.pow_zero,Nat.mod_one,Nat.zero_mul,Nat.zero_mul,Nat.add_zero,Nat.add_zero,Nat.mod_mod]
    rw [e]
    have:(az (O%W^k) k).getD q 0=(az O k).getD q 0:=by rw [To]
    rwa [D5 (by omega),D5 (by omega)] at this
  · rw [if_neg h]
theorem R3{O a m k n i:Nat}(h:k+i<n) :(G4 O a m k n i).set (k+i) (((O/W^(k+i)%W+a/W^i%W*m+lZ O a m k i/W^(k+i))%W:Nat):Int)=G4 O a m k n (i+1):=by
  unfold G4
  rw [lA h]
  refine bV fun q hq=>?_
  have hS:=Nat.mod_lt (lZ O a m k i) (dP (k+i))
  obtain ⟨_,d2⟩:=yT (t:=O/W^(k+i)%W+a/W^i%W*m+lZ O a m k i/W^(k+i)) hS
  rw [←Ij] at d2
  have hl:=yR hS (Nat.mod_lt (O/W^(k+i)%W+a/W^i%W*m+lZ O a m k i/W^(k+i)) (show W>0 by decide)) q
  rw [←d2] at hl
  rw [←Nat.add_assoc k i 1]
  by_cases e:q=k+i
  · rw [if_pos e] at hl ⊢
    rw [if_pos (by omega),hl]
  · rw [if_neg e] at hl ⊢
    by_cases r:q<k+i
    · rw [if_pos r,if_pos (by omega),hl]
    · rw [if_neg r,if_neg (by omega)]
theorem LJ{O a m k n:Nat}(hO:O<W^(k+n))(ha:a<W^n) :lZ O a m k n=O+a*m*W^k:=by
  unfold lZ;rw [Nat.mod_eq_of_lt hO,Nat.mod_eq_of_lt ha]
theorem Tt{O a m k n N:Nat}(hO:O<W^(k+n)) :G4 O a m k N n=az (lZ O a m k n%W^(k+n)) N:=by
  refine bV fun q hq=>?_
  by_cases h:q<k+n
  · rw [if_pos h]
  · rw [if_neg h,xg (Nat.lt_of_lt_of_le hO (Nat.pow_le_pow_right (by decide) (by omega))),xg (Nat.lt_of_lt_of_le (Nat.mod_lt _ (dP _)) (Nat.pow_le_pow_right (by decide) (by omega)))]
theorem Tu{x y c o:Nat}(hx:x<W)(hy:y<W)(hc:c<W)(ho:o<W) :
    (o+(x*y%W+c)%W)%W=(o+x*y+c)%W∧(x*y/W+(x*y%W+c)/W)<W∧x*y/W+(x*y%W+c)/W+(o+(x*y%W+c)%W)/W=(o+x*y+c)/W∧(o+x*y+c)/W<W:=by
  have hp:x*y≤18446744073709551615*18446744073709551615:=Nat.mul_le_mul (by have:x<18446744073709551616:=hx;omega) (by have:y<18446744073709551616:=hy;omega)
  have hc:c<18446744073709551616:=hc
  have ho:o<18446744073709551616:=ho
  generalize x*y=p at *
  have eW:W=18446744073709551616:=rfl
  rw [eW]
  refine ⟨?_,?_,?_,?_⟩<;>omega
def tz(v:Nat) :Nat:=if h:v%2=1∨v=0 then 0 else tz (v/2)+1
termination_by v
decreasing_by omega
theorem jn(n:Nat) :0<2^n:=Nat.pow_pos (by decide)
theorem BD:∀ {z v:Nat},v%2^z=0→v/2^z%2=1→tz v=z
  | 0,v,h0,h1=>by rw [Nat.pow_zero,Nat.div_one] at h1;rw [tz,dif_pos (.inl h1)]
  | z+1,v,h0,h1=>by
    have p:=jn z
    rw [Nat.pow_succ] at h0 h1
    rw [Nat.mul_comm (2^z),Nat.mod_mul] at h0
    rw [Nat.mul_comm (2^z),←Nat.div_div_eq_div_mul] at h1
    have a0:v%2=0:=by omega
    have a1:v/2%2^z=0:=by omega
    have a2:v≠0:=by intro e;subst e;simp at h1
    rw [tz,dif_neg (by omega),BD a1 h1]
theorem tf:∀ (v:Nat),v≠0→v%2^tz v=0∧v/2^tz v%2=1:=by
  intro v
  induction v using Nat.strongRecOn with
  | _ v ih =>
    intro h
    rw [tz]
    split
    · rename_i q;rw [Nat.pow_zero,Nat.mod_one,Nat.div_one];omega
    · rename_i q
      obtain ⟨h1,h2⟩:=ih (v/2) (by omega) (by omega)
      rw [Nat.pow_succ,Nat.mul_comm (2^_),Nat.mod_mul,←Nat.div_div_eq_div_mul,h1,h2]
      omega
theorem UF:tz 0=0:=by rw [tz,dif_pos (.inr rfl)]
theorem OT{v:Nat}(h:v≠0)(k:Nat) :tz (v*2^k)=tz v+k:=by
  obtain ⟨h1,h2⟩:=tf v h
  refine BD ?_ ?_
  · rw [Nat.pow_add,Nat.mul_mod_mul_right,h1,Nat.zero_mul]
  · rw [Nat.pow_add,Nat.mul_div_mul_right _ _ (jn k),h2]
theorem LK{v n:Nat}(h:v≠0)(hv:v<2^n) :tz v<n:=by
  obtain ⟨h1,h2⟩:=tf v h
  rcases Nat.lt_or_ge (tz v) n with q | q
  · exact q
  · rw [Nat.div_eq_of_lt (Nat.lt_of_lt_of_le hv (Nat.pow_le_pow_right (by decide) q))] at h2;omega
theorem Rd{v:Nat}(h:v≠0) :v/2^tz v*2^tz v=v:=Nat.div_mul_cancel (Nat.dvd_of_mod_eq_zero (tf v h).1)
theorem Tv{v:Nat}(h:v≠0) :v/2^tz v≠0:=by intro e;have:=(tf v h).2;rw [e] at this;omega
theorem UG{x:Nat}(h0:x≠0)(h:x<W) :x &&& (W-x)=2^tz x:=by
  have hz:=LK (n:=64) h0 h
  have ho:=(tf x h0).2
  have hb:=Rd h0
  have hno:=Tv h0
  revert ho hb hno
  generalize x/2^tz x=o
  revert hz
  generalize tz x=z
  intro hz ho hb hno
  have e64:W=2^(64-z)*2^z:=by rw [←Nat.pow_add];show 2^64=_;congr 1;omega
  have hlt:o<2^(64-z):=by
    rw [←hb,e64] at h
    exact Nat.lt_of_mul_lt_mul_right h
  have e1:x=o <<< z:=by rw [Nat.shiftLeft_eq,hb]
  have e2:W-x=(2^(64-z)-o) <<< z:=by rw [Nat.shiftLeft_eq,Nat.sub_mul,hb,←e64]
  rw [e2,e1,←Nat.shiftLeft_and_distrib,Nat.shiftLeft_eq]
  have:o &&& (2^(64-z)-o)=1:=by
    apply Nat.eq_of_testBit_eq
    intro i
    obtain ⟨p,rfl⟩:∃ p,o=p+1:=⟨o-1,by omega⟩
    rw [Nat.testBit_and,Nat.testBit_two_pow_sub_succ (by omega)]
    rcases i with _ | i
    · have:(p+1).testBit 0=true:=by rw [Nat.testBit_zero];exact decide_eq_true ho
      have q:p.testBit 0=false:=by rw [Nat.testBit_zero];exact decide_eq_false (by omega)
      rw [this,q];simp;omega
    · rw [Nat.testBit_succ,Nat.testBit_succ,show (p+1)/2=p/2 by omega,Nat.testBit_succ]
      simp
      intro a b;exact a
  rw [this,Nat.one_mul]
theorem Ik{z:Nat}(h:z<64) :2^z<W:=Nat.pow_lt_pow_right (by decide) h
theorem Il{a x m:Nat}(h:a%m+x<m) :(a+x)%m=a%m+x∧(a+x)/m=a/m:=by
  have e:a+x=(a%m+x)+m*(a/m):=by have:=Nat.mod_add_div a m;omega
  have hm:0<m:=by omega
  constructor
  · rw [e,Nat.add_mul_mod_self_left,Nat.mod_eq_of_lt h]
  · rw [e,Nat.add_mul_div_left _ _ hm,Nat.div_eq_of_lt h,Nat.zero_add]
theorem VH{u x j:Nat}(hx:u/W^j%W+x<W)(i:Nat) :lm (u+x*W^j) i=if i=j then lm u j+(x:Int) else lm u i:=by
  unfold lm
  by_cases e:i=j
  · subst e
    rw [if_pos rfl,Nat.add_mul_div_right _ _ (dP i)]
    rw [(Il hx).1,Int.natCast_add]
  · rw [if_neg e]
    congr 1
    rcases Nat.lt_or_ge i j with h | h
    · obtain ⟨d,rfl⟩:∃ d,j=i+1+d:=⟨j-i-1,by omega⟩
      have:x*W^(i+1+d)=(x*W^d*W)*W^i:=by
        rw [Nat.pow_add,Nat.pow_succ];simp only [Nat.mul_assoc,Nat.mul_comm,Nat.mul_left_comm]
      rw [this,Nat.add_mul_div_right _ _ (dP i),Nat.add_mul_mod_self_right]
    · have e2:i=j+1+(i-j-1):=by omega
      have key:(u+x*W^j)/W^(j+1)=u/W^(j+1):=by
        rw [Nat.pow_succ,←Nat.div_div_eq_div_mul,←Nat.div_div_eq_div_mul,Nat.add_mul_div_right _ _ (dP j),(Il hx).2]
      rw [e2,Nat.pow_add,←Nat.div_div_eq_div_mul,←Nat.div_div_eq_div_mul,key]
theorem Tw{u x j n:Nat}(hx:u/W^j%W+x<W)(hj:j<n) :(az u n).set j (((u/W^j%W+x:Nat)):Int)=az (u+x*W^j) n:=by
  unfold az
  rw [lA hj]
  refine bV fun i _=>?_
  rw [VH hx]
  by_cases e:i=j
  · subst e;rw [if_pos rfl,if_pos rfl,rI,Int.natCast_add]
  · rw [if_neg e,if_neg e]
theorem Tx{x r:Nat}(hx:x<W)(hr:r<64) :x*2^r=x*2^r%W+x/2/2^(63-r)*W∧x/2/2^(63-r)<2^r∧x/2/2^(63-r)=x*2^r/W:=by
  have e:W=2^r*2^(64-r):=by rw [←Nat.pow_add];show 2^64=_;congr 1;omega
  have h1:x/2/2^(63-r)=x*2^r/W:=by
    rw [Nat.div_div_eq_div_mul,show 2*2^(63-r)=2^(64-r) by rw [show 64-r=(63-r)+1 by omega,Nat.pow_succ,Nat.mul_comm],e,Nat.mul_comm x,Nat.mul_div_mul_left _ _ (jn r)]
  refine ⟨?_,?_,h1⟩
  · rw [h1];have:=Nat.div_add_mod (x*2^r) W;rw [Nat.mul_comm W] at this;omega
  · rw [h1]
    refine Nat.div_lt_of_lt_mul ?_
    exact Nat.mul_lt_mul_of_pos_right hx (jn r)
theorem OU{h x r:Nat}(hh:h<2^r) :h ||| x*2^r=h+x*2^r:=by
  rw [Nat.or_comm,Nat.mul_comm,Nat.add_comm]
  exact (Nat.two_pow_add_eq_or_of_lt hh x).symm
theorem Tz{V r:Nat}(hr:r<64) :V/2^r%W=V%W/2^r+(V/W%W)*2%W*2^(63-r)%W ∧
    (V%W/2^r ||| (V/W%W)*2%W*2^(63-r)%W)=V%W/2^r+(V/W%W)*2%W*2^(63-r)%W:=by
  have e:W=2^r*2^(64-r):=by rw [←Nat.pow_add];show 2^64=_;congr 1;omega
  have e':2^(64-r)=2^(63-r)*2:=by rw [←Nat.pow_succ];congr 1;omega
  have hlo:V%W/2^r<2^(64-r):=by
    refine Nat.div_lt_of_lt_mul ?_
    rw [←e];exact Nat.mod_lt _ (by decide)
  have f:(V/W%W)*2%W*2^(63-r)%W=(V/W%2^r)*2^(64-r):=by
    rw [Nat.mod_mul_mod,Nat.mul_assoc,Nat.mul_comm 2,←e']
    have:(V/W%W)%2^r=V/W%2^r:=by rw [e,Nat.mod_mul_right_mod]
    rw [←this]
    rw [e]
    rw [Nat.mul_mod_mul_right]
  have g:V/2^r=V%W/2^r+V/W*2^(64-r):=by
    have h:=Nat.mod_add_div V W
    have:V=V%W+(V/W*2^(64-r))*2^r:=by
      rw [Nat.mul_assoc,Nat.mul_comm (2^(64-r)),←e,Nat.mul_comm (V/W)];exact h.symm
    rw [this,Nat.add_mul_div_right _ _ (jn r)]
    rw [←this]
  refine ⟨?_,?_⟩
  · rw [f,g]
    have:V/W*2^(64-r)=(V/W%2^r)*2^(64-r)+(V/W/2^r)*W:=by
      have q:=Nat.mod_add_div (V/W) (2^r)
      rw [show (V/W/2^r)*W=2^r*(V/W/2^r)*2^(64-r) by rw [Nat.mul_comm (2^r),Nat.mul_assoc,←e],←Nat.add_mul,q]
    rw [this,←Nat.add_assoc,Nat.add_mul_mod_self_right]
    refine Nat.mod_eq_of_lt ?_
    have a:V/W%2^r<2^r:=Nat.mod_lt _ (jn r)
    have b:(V/W%2^r+1)*2^(64-r)≤2^r*2^(64-r):=Nat.mul_le_mul_right _ a
    rw [←e,Nat.add_mul,Nat.one_mul] at b
    omega
  · rw [f];exact OU hlo
theorem TA{x:Nat}(h0:x≠0)(h:x<W) :IntKind.u64.wrap ((0:Int)-(x:Int))=((W-x:Nat):Int):=by
  have h':x<18446744073709551616:=h
  simp only [IntKind.wrap,IntKind.signed,IntKind.bits]
  simp
  show -(x:Int)%18446744073709551616=((18446744073709551616-x:Nat):Int)
  omega
theorem E9{r:Nat}(hr:r<64) :IntKind.u64.wrap ((63:Int)-(r:Int))=((63-r:Nat):Int):=by
  have e:(63:Int)-(r:Int)=((63-r:Nat):Int):=by omega
  rw [e,yU (Nat.lt_of_le_of_lt (Nat.sub_le 63 r) (by decide))]
theorem TB{v q r i n:Nat}(hr:r<64)(hi:i+q+1<n) :
    ((az (v%W^i*2^r*W^q) n).set (i+q) (cA .or .u64 ((az (v%W^i*2^r*W^q) n).getD (i+q) 0) (((v/W^i%W)*2^r%W:Nat):Int))).set (i+q+1) (((v/W^i%W)/2/2^(63-r):Nat):Int)=az (v%W^(i+1)*2^r*W^q) n:=by
  have hL:v/W^i%W<W:=Nat.mod_lt _ (by decide)
  have ev:v%W^(i+1)=v%W^i+(v/W^i%W)*W^i:=lY v i
  rw [ev]
  generalize v/W^i%W=L at hL
  have hu:v%W^i<W^i:=Nat.mod_lt _ (dP i)
  generalize v%W^i=u at hu
  obtain ⟨s1,s2,s3⟩:=Tx hL hr
  have pr:2^r<W:=Ik hr
  have hh:u*2^r/W^i<2^r:=Nat.div_lt_of_lt_mul (Nat.mul_lt_mul_of_pos_right hu (jn r))
  have hd:u*2^r*W^q/W^(i+q)=u*2^r/W^i:=by rw [Nat.pow_add,Nat.mul_div_mul_right _ _ (dP q)]
  have e64:W=2^(64-r)*2^r:=by rw [←Nat.pow_add];show 2^64=_;congr 1;omega
  have hlow:L*2^r%W=(L%2^(64-r))*2^r:=by rw [e64,Nat.mul_mod_mul_right]
  have hsum:u*2^r/W^i+L*2^r%W<W:=by
    have a:L%2^(64-r)<2^(64-r):=Nat.mod_lt _ (jn _)
    have b:(L%2^(64-r)+1)*2^r≤2^(64-r)*2^r:=Nat.mul_le_mul_right _ a
    rw [←e64,Nat.add_mul,Nat.one_mul,←hlow] at b
    omega
  have hm:u*2^r/W^i%W=u*2^r/W^i:=Nat.mod_eq_of_lt (by omega)
  have hl:L*2^r%W<W:=Nat.mod_lt _ (by decide)
  rw [D5 (by omega),rI,hd,JF,Nat.mod_mod,hm,Nat.mod_eq_of_lt hl]
  rw [hlow,OU hh,←hlow]
  have hx:u*2^r*W^q/W^(i+q)%W+L*2^r%W<W:=by rw [hd,hm];exact hsum
  have e:=Tw (n:=n) hx (show i+q<n by omega)
  rw [hd,hm] at e
  rw [e]
  have hU:u*2^r*W^q+L*2^r%W*W^(i+q)<W^(i+q+1):=by
    have a:=Nat.mod_add_div (u*2^r*W^q) (W^(i+q))
    have b:=Nat.mod_lt (u*2^r*W^q) (dP (i+q))
    rw [hd] at a
    have c:(u*2^r/W^i+L*2^r%W+1)*W^(i+q)≤W*W^(i+q):=Nat.mul_le_mul_right _ hsum
    rw [Nat.add_mul,Nat.add_mul,Nat.one_mul,Nat.mul_comm _ (W^(i+q))] at c
    rw [Nat.pow_succ,Nat.mul_comm _ W]
    omega
  rw [pC hU (by omega) hi]
  congr 1
  rw [Nat.pow_succ,Nat.mul_comm (W^(i+q)),←Nat.mul_assoc,Nat.add_assoc,←Nat.add_mul,←s1,Nat.pow_add,Nat.add_mul,Nat.add_mul]
  congr 1
  simp only [Nat.mul_assoc,Nat.mul_comm,Nat.mul_left_comm]
theorem Im(k:Nat) :2^k=2^(k%64)*W^(k/64):=by
  show 2^k=2^(k%64)*(2^64)^(k/64)
  rw [←Nat.pow_mul,←Nat.pow_add];congr 1;omega
theorem TC{v k i:Nat} :lm (v/2^k) i=((v/W^(i+k/64)/2^(k%64)%W:Nat):Int):=by
  unfold lm
  rw [Im k,Nat.div_div_eq_div_mul,Nat.div_div_eq_div_mul,Nat.pow_add]
  congr 3
  simp only [Nat.mul_assoc,Nat.mul_comm,Nat.mul_left_comm]
theorem VI{v k n:Nat}(h:v<W^n)(hq:k/64≤n) :v/2^k<W^(n-k/64):=by
  refine Nat.div_lt_of_lt_mul (Nat.lt_of_lt_of_le h ?_)
  rw [Im k,Nat.mul_assoc,←Nat.pow_add]
  have:k/64+(n-k/64)=n:=by omega
  rw [this]
  exact Nat.le_mul_of_pos_left _ (jn _)
theorem TD{v k n:Nat}(h:v<W^n) :v*2^k<W^(n+k/64+1):=by
  rw [Im k,Nat.pow_succ,Nat.pow_add,←Nat.mul_assoc,Nat.mul_right_comm]
  have a:v*W^(k/64)<W^n*W^(k/64):=Nat.mul_lt_mul_of_pos_right h (dP _)
  have b:2^(k%64)<W:=Ik (Nat.mod_lt _ (by decide))
  exact Nat.mul_lt_mul_of_lt_of_le a (Nat.le_of_lt b) (by decide)
theorem TE{v k n:Nat}(h:v<W^n)(hq:n≤k/64) :v/2^k=0:=by
  refine Nat.div_eq_of_lt (Nat.lt_of_lt_of_le h ?_)
  rw [Im k]
  exact Nat.le_trans (Nat.pow_le_pow_right (by decide) hq) (Nat.le_mul_of_pos_left _ (jn _))
def sg(s:Bool)(v:Nat) :Int:=if s then -(v:Int) else (v:Int)
def nS(z:Int) :Bool:=decide (z<0)
def nM(z:Int) :Nat:=z.natAbs/2^tz z.natAbs
def nE(z e:Int) :Int:=if z=0 then 0 else e+(tz z.natAbs:Nat)
theorem tg{s:Bool}{v:Nat} :(sg s v).natAbs=v:=by cases s<;>simp [sg]
theorem JI(z:Int) :sg (nS z) z.natAbs=z:=by
  unfold sg nS
  by_cases h:z<0
  · rw [decide_eq_true h];simp;omega
  · rw [decide_eq_false h];simp;omega
theorem xh{s:Bool}{v:Nat} :sg s v=0↔v=0:=by cases s<;>simp [sg]
theorem JJ{s:Bool}{v w:Nat} :sg s (v*w)=sg s v*(w:Int):=by
  cases s
  · simp [sg]
  · simp [sg,Int.neg_mul]
theorem Ws{s:Bool}{v:Nat}(h:v≠0) :nS (sg s v)=s:=by
  unfold nS sg
  cases s
  · simp
  · simp;omega
theorem R4{s t:Bool}{v w:Nat} :sg s v*sg t w=sg (s != t) (v*w):=by
  cases s<;>cases t<;>simp [sg,Int.neg_mul,Int.mul_neg]
theorem jO:nM 0=0:=by unfold nM;rw [Int.natAbs_zero,Nat.zero_div]
theorem gv{e:Int} :nE 0 e=0:=by unfold nE;rw [if_pos rfl]
theorem JK:nS 0=false:=by decide
theorem iW{z e:Int}(h:z≠0) :nE z e=e+(tz z.natAbs:Nat):=if_neg h
theorem OV{z:Int}(h:z≠0) :z.natAbs≠0:=by omega
theorem Fa{z:Int}(h:z≠0) :nM z≠0:=Tv (OV h)
theorem Wt{z:Int} :nM z≤z.natAbs:=Nat.div_le_self _ _
theorem VJ{z:Int} :nM (-z)=nM z:=by unfold nM;rw [Int.natAbs_neg]
theorem VK{z e:Int} :nE (-z) e=nE z e:=by unfold nE;rw [Int.natAbs_neg];by_cases h:z=0<;>simp [h]
theorem Re(z:Int) :nM z*2^tz z.natAbs=z.natAbs:=by
  by_cases h:z=0
  · subst h;rw [jO];simp
  · exact Rd (OV h)
theorem JL(z:Int) :sg (nS z) (nM z)*((2^tz z.natAbs:Nat):Int)=z:=by
  rw [←JJ,Re,JI]
theorem vM{z z':Int}{m:Nat}(h:z=z'*((2^m:Nat):Int))(e:Int) :nS z=nS z'∧nM z=nM z'∧nE z e=nE z' (e+m):=by
  have p:=jn m
  have ha:z.natAbs=z'.natAbs*2^m:=by rw [h,Int.natAbs_mul,Int.natAbs_natCast]
  by_cases h0:z'=0
  · subst h0
    rw [Int.zero_mul] at h;subst h
    exact ⟨rfl,rfl,by rw [gv,gv]⟩
  · have hn:=OV h0
    have hz:z≠0:=by
      intro q
      rw [q,Int.natAbs_zero] at ha
      rcases Nat.mul_eq_zero.1 ha.symm with w | w
      · exact hn w
      · omega
    refine ⟨?_,?_,?_⟩
    · unfold nS
      congr 1
      rw [h]
      have pp:(0:Int)<((2^m:Nat):Int):=Int.natCast_pos.2 p
      refine propext ⟨fun q=>?_,fun q=>Int.mul_neg_of_neg_of_pos q pp⟩
      rcases Int.lt_trichotomy z' 0 with w | w | w
      · exact w
      · exact absurd w h0
      · exact absurd q (Int.not_lt.2 (Int.le_of_lt (Int.mul_pos w pp)))
    · unfold nM
      rw [ha,OT hn,Nat.pow_add,Nat.mul_div_mul_right _ _ p]
    · rw [iW hz,iW h0,ha,OT hn];omega
theorem LL{z e:Int}{s:Bool}(hs:z≠0→s=nS z) :nS (sg s (nM z))=nS z∧nM (sg s (nM z))=nM z∧nE (sg s (nM z)) (nE z e)=nE z e:=by
  by_cases h0:z=0
  · subst h0
    rw [jO]
    have:sg s 0=0:=by cases s<;>rfl
    rw [this]
    exact ⟨rfl,jO,by rw [gv,gv]⟩
  · rw [hs h0]
    obtain ⟨a,b,c⟩:=vM (JL z).symm e
    refine ⟨a.symm,b.symm,?_⟩
    rw [iW h0,←c,iW h0]
theorem pD{a b:Nat}(h:a≤b) :nl a≤nl b:=gu (Nat.lt_of_le_of_lt h (cC b))
theorem TF{v:Nat} :tz v≤64*nl v:=by
  by_cases h:v=0
  · subst h;rw [UF];exact Nat.zero_le _
  · have:=cC v
    have e:W^nl v=2^(64*nl v):=by rw [Nat.pow_mul]
    rw [e] at this
    exact Nat.le_of_lt (LK h this)
theorem TG{a b:Nat} :nl (a*b)≤nl a+nl b:=by
  refine gu ?_
  rw [Nat.pow_add]
  rcases Nat.eq_zero_or_pos b with h | h
  · rw [h,Nat.mul_zero];exact Nat.mul_pos (dP _) (dP _)
  · exact Nat.mul_lt_mul_of_lt_of_le (cC a) (Nat.le_of_lt (cC b)) (dP _)
theorem OW{a b n:Nat}(ha:nl a≤n)(hb:nl b≤n) :nl (a+b)≤n+1:=by
  refine gu ?_
  have h1:=Nat.lt_of_lt_of_le (cC a) (Nat.pow_le_pow_right (n:=W) (by decide) ha)
  have h2:=Nat.lt_of_lt_of_le (cC b) (Nat.pow_le_pow_right (n:=W) (by decide) hb)
  rw [Nat.pow_succ]
  have:W^n*2≤W^n*W:=Nat.mul_le_mul_left _ (by decide)
  omega
theorem Wu{z:Int} :nl (nM z)≤nl z.natAbs:=pD Wt
def Sm(z e:Int) :Prop:=nl z.natAbs≤300∧-30000≤e∧e≤30000
theorem Sm.l{z e:Int}(h:Sm z e) :nl z.natAbs≤300:=h.1
theorem Sm.m{z e:Int}(h:Sm z e) :nl (nM z)≤300:=Nat.le_trans Wu h.1
theorem Sm.t{z e:Int}(h:Sm z e) :tz z.natAbs≤19200:=Nat.le_trans TF (by have:=h.1;omega)
theorem Sm.b{z e:Int}(h:Sm z e) : -30000≤nE z e∧nE z e≤49200:=by
  have ht:=Sm.t h
  obtain ⟨_,h2,h3⟩:=h
  unfold nE
  split<;>omega
theorem Sm.n{z e:Int}(h:Sm z e) :Sm (-z) e:=by unfold Sm;rw [Int.natAbs_neg];exact h
def sgn(x y:Int) :Int:=if x<y then -1 else if y<x then 1 else 0
theorem VL{s:Bool}{v w:Nat} :sg s v+sg s w=sg s (v+w):=by cases s<;>simp [sg]<;>omega
theorem OX{s:Bool}{v:Nat} :sg (!s) v = -(sg s v):=by cases s<;>simp [sg]
theorem TH{s:Bool}{v w:Nat}(h:w≤v) :sg s v-sg s w=sg s (v-w):=by cases s<;>simp [sg]<;>omega
theorem Vm{z:Int}{X p:Nat}(h:X*p=z.natAbs) :z=sg (nS z) X*(p:Int):=by rw [←JJ,h,JI]
abbrev pE:Nat:=18446744073709551616
def Fb(x:Nat) :Nat:=x/4503599627370496%2048
def fin(x:Nat) :Bool:=Fb x != 2047
theorem dt{x:Nat}(hx:x<pE)(h:fin x=true) :FloatKind.f64.format.read x=.number (x/9223372036854775808%2==1) (cN (x%9223372036854775808)) (-1074+(dG (x%9223372036854775808):Int)):=by
  have e1:Ieee.double.signWeight=9223372036854775808:=by decide
  have e2:Ieee.double.binade=4503599627370496:=by decide
  have e3:Ieee.double.infRung=9218868437227405312:=by decide
  have e4:Ieee.double.leastPlace = -1074:=by decide
  have hx:x<18446744073709551616:=hx
  have h':x%9223372036854775808<9218868437227405312:=by
    unfold fin Fb at h;simp only [bne_iff_ne,ne_eq] at h;omega
  show Ieee.double.read x=_
  unfold Ieee.Format.read
  simp only [e1,e2,e3,e4]
  by_cases h3:x%9223372036854775808<4503599627370496
  · rw [if_pos h3]
    have:dG (x%9223372036854775808)=0:=by unfold dG;omega
    simp only [cN,if_pos h3,this];rfl
  · rw [if_neg h3,if_pos h']
    simp only [cN,if_neg h3,dG]
theorem R5{x:Nat}(hx:x<pE)(h:9218868437227405312<x%9223372036854775808) :isNaN x=true:=by
  have e1:Ieee.double.signWeight=9223372036854775808:=by decide
  have e2:Ieee.double.binade=4503599627370496:=by decide
  have e3:Ieee.double.infRung=9218868437227405312:=by decide
  have e4:Ieee.double.leastPlace = -1074:=by decide
  show (Ieee.double.read x).isNaN=true
  unfold Ieee.Format.read
  simp only [e1,e2,e3,e4]
  rw [if_neg (by omega),if_neg (by omega),if_neg (by omega)];rfl
theorem Rf{x:Nat}(hx:x<pE)(h:fin x=true) :isNaN x=false:=by
  show (Ieee.double.read x).isNaN=false
  have e:=dt hx h
  have e':Ieee.double.read x=_:=e
  rw [e'];rfl
theorem UH{x:Nat}(hx:x<pE)(h:fin x=true) :Rx x x=false:=by
  unfold Rx qI Ieee.Format.order
  rw [dt hx h]
  simp [Ieee.Datum.order,Int.min_self]
theorem Ae{x:Nat}(hx:x<pE) :aL x=x%9223372036854775808:=by
  unfold aL;rfl
theorem OY(s:Bool)(m k:Nat) :Ieee.signed s m k+Ieee.signed (!s) m k=0:=by
  cases s<;>simp [Ieee.signed]<;>omega
def fz(x:Nat) :Int:=sg (x/9223372036854775808==1) (cN (x%9223372036854775808)*2^dG (x%9223372036854775808))
theorem BE{a b:Nat}(h:a≤b) :2^a≤2^b:=Nat.pow_le_pow_right (by decide) h
theorem VM{x a b c:Nat}(hc:c=53+b)(h1:x<9007199254740992)(h2:a≤b) :x*2^a<2^c:=by
  subst hc
  rw [Nat.pow_add]
  exact Nat.mul_lt_mul_of_lt_of_le h1 (BE h2) (jn _)
theorem Wv{x:Nat}(hx:x<pE)(h:fin x=true) :(fz x).natAbs<2^2098:=by
  have hx':x<18446744073709551616:=hx
  unfold fz
  rw [tg]
  have h1:=D4 (x%9223372036854775808)
  have h2:dG (x%9223372036854775808)≤2045:=by
    unfold fin Fb at h;simp only [bne_iff_ne,ne_eq] at h;unfold dG;omega
  exact VM (b:=2045) (c:=2098) rfl h1 h2
theorem Vn{x:Nat}(hx:x<pE)(h:fin x=true) :nl (fz x).natAbs≤33:=by
  refine gu (Nat.lt_of_lt_of_le (Wv hx h) ?_)
  decide +kernel
theorem OZ{σ Y:Type}{B:σ→Option (σ⊕Y)}(I:Nat→σ→Prop)(n:Nat){s0:σ}{Q:Y→Prop}(h0:I 0 s0) 
    (step:∀ j s,j<n→I j s→∃ s',B s=some (.inl s')∧I (j+1) s') (done:∀ s,I n s→∃ y,B s=some (.inr y)∧Q y):∃ y,dN B s0=some y∧Q y:=by
  have key:∀ d i s,i+d=n→I i s→∃ y,dN B s=some y∧Q y:=by
    intro d
    induction d with
    | zero =>
      intro i s e h
      obtain ⟨y,h1,h2⟩:=done s (by rw [Nat.add_zero] at e;rw [←e];exact h)
      exact ⟨y,Ih h1,h2⟩
    | succ d ih =>
      intro i s e h
      obtain ⟨s',h1,h2⟩:=step i s (by omega) h
      obtain ⟨y,h3,h4⟩:=ih (i+1) s' (by omega) h2
      exact ⟨y,by rw [LD h1];exact h3,h4⟩
  exact key n 0 s0 (Nat.zero_add n) h0
def fj(f:Nat→Int) :Nat→Int
  | 0=>0
  | n+1=>fj f n+f n
theorem LM{f:Nat→Int}{b:Nat} :∀ {n:Nat},(∀ i,i<n→(f i).natAbs≤b)→(fj f n).natAbs≤n*b
  | 0,_=>by simp [fj]
  | n+1,h=>by
    have h1:=LM (f:=f) (b:=b) (n:=n) fun i hi=>h i (by omega)
    have h2:=h n (by omega)
    simp only [fj]
    rw [Nat.add_mul,Nat.one_mul]
    omega
theorem JM{f:Nat→Int}{k n:Nat}(h:∀ i,i<n→nl (f i).natAbs≤k)(hn:n≤1000000) :nl (fj f n).natAbs≤k+1:=by
  refine gu ?_
  have h1:=LM (f:=f) (b:=W^k) (n:=n) fun i hi=>Nat.le_of_lt (Nat.lt_of_lt_of_le (cC _) (Nat.pow_le_pow_right (by decide) (h i hi)))
  have h2:n*W^k≤1000000*W^k:=Nat.mul_le_mul_right _ hn
  have h3:1000000*W^k<W*W^k:=Nat.mul_lt_mul_of_pos_right (by decide) (dP k)
  rw [Nat.pow_succ,Nat.mul_comm (W^k)]
  omega
theorem jP{x y:Int}{a b:Nat}(hx:nl x.natAbs≤a)(hy:nl y.natAbs≤b) :nl (x*y).natAbs≤a+b:=by
  rw [Int.natAbs_mul];exact Nat.le_trans TG (by omega)
theorem Rg{x y:Int}{a:Nat}(hx:nl x.natAbs≤a)(hy:nl y.natAbs≤a) :nl (x-y).natAbs≤a+1 :=
  Nat.le_trans (pD (show (x-y).natAbs≤x.natAbs+y.natAbs by omega)) (OW hx hy)
theorem Sm.of{z e:Int}{k:Nat}(h:nl z.natAbs≤k)(hk:k≤300)(he : -30000≤e∧e≤30000) :Sm z e:=⟨Nat.le_trans h hk,he.1,he.2⟩
theorem Ww(z:Int)(k:Nat)(e:Int) :nS z=nS (z*((2^k:Nat):Int))∧nM z=nM (z*((2^k:Nat):Int))∧nE z (e+k)=nE (z*((2^k:Nat):Int)) e:=by
  obtain ⟨a,b,c⟩:=vM (z:=z*((2^k:Nat):Int)) (z':=z) (m:=k) rfl e
  exact ⟨a.symm,b.symm,c.symm⟩
def pF(g:Nat→Int)(n:Nat) :List Bool:=gk (fun i=>nS (g i)) n
def G5(z:Int) :List Int:=az (nM z) (nl (nM z))
def pG(g:Nat→Int)(n:Nat) :List (List Int):=gk (fun i=>G5 (g i)) n
def pH(g:Nat→Int)(e:Int)(n:Nat) :List Int:=gk (fun i=>nE (g i) e) n
theorem oF{g:Nat→Int}{n:Nat} :(pF g n).length=n:=de
theorem oG{g:Nat→Int}{n:Nat} :(pG g n).length=n:=de
theorem oH{g:Nat→Int}{e:Int}{n:Nat} :(pH g e n).length=n:=de
theorem xj{g:Nat→Int}{n i:Nat}(h:i<n) :(pF g n).getD i false=nS (g i):=nk h
theorem xk{g:Nat→Int}{n i:Nat}(h:i<n) :(pG g n).getD i []=G5 (g i):=nk h
theorem xn{g:Nat→Int}{e:Int}{n i:Nat}(h:i<n) :(pH g e n).getD i 0=nE (g i) e:=nk h
theorem LN{g:Nat→Int}{n:Nat} :aa 0 n (pF g n)=pF g n:=ez oF
theorem LO{g:Nat→Int}{n:Nat} :aa 0 n (pG g n)=pG g n:=ez oG
theorem LP{g:Nat→Int}{e:Int}{n:Nat} :aa 0 n (pH g e n)=pH g e n:=ez oH
def gz(l:List Nat)(i:Nat) :Int:=fz (l.getD i 0)
def Wd(l:List Nat) :Prop:=∀ i,l.getD i 0<pE
def Fn(l:List Nat) :Prop:=∀ i,i<l.length→fin (l.getD i 0)=true
theorem TI{l:List Nat}(hw:Wd l)(hf:Fn l){i:Nat}(h:i<l.length) :nl (gz l i).natAbs≤33:=Vn (hw i) (hf i h)
end Go.Plb
namespace Go.Proofs.YthikcnkmglbbbaaDoor
open Go.ChangeShapes Go.WideShapes Go.ChangeAt Go.RowKit Go.Plb Go.Plb.Seat
theorem VN:ownKnob Tryd.prog.godebug=none:=by kernel_rfl
theorem UI:laidOutB Tryd.prog=true:=by kernel_rfl
theorem Rh : Tryd.prog.globalNamed "math/bits.deBruijn64tab" = some 1 := by kernel_rfl
def Af : List (String × DataW Unit) := [("math/bits.deBruijn64tab", Rows.laid_math_bits_deBruijn64tab)]
theorem UJ:(Rows.laid_math_bits_deBruijn64tab:DataW Unit)=Lib.tabData .u8 aD:=by rfl
theorem VO{W : World}(h : laidMetH Tryd.prog Af W) : Lib.TabIs Tryd.prog W "math/bits.deBruijn64tab" .u8 aD := by
  have h':laidMet Tryd.prog Af W:=h
  unfold Af at h'
  rw [UJ] at h'
  exact Lib.tabIs_of_head Rh (t:=168) (e:=5) (n:=64) (by kernel_rfl) (by kernel_rfl) (by kernel_rfl) (by kernel_rfl) (by kernel_rfl) h'
theorem UK{W:World}(h:laidMetH Tryd.prog Af W) :∀ x∈Rom.tab,VR ak.none_ W (.iptr .free x.2 1 0 0) (.pointer (some ⟨x.1,0,none⟩)):=by
  intro x hx
  obtain rfl:=List.mem_singleton.1 hx
  have ht:=VO h
  have cell:∀ i,i<64→W.cell? ⟨1,i,none⟩=some (.int .u8 (aD.getD i 0)):=fun i hi=>ht.cell Rh i hi
  have hb:1<W.heap.size:=by
    have h0:=cell 0 (by decide)
    unfold World.cell? at h0
    rcases Nat.lt_or_ge 1 W.heap.size with q | q
    · exact q
    · have e:W.heap[1]? = none:=Array.getElem?_eq_none q
      rw [e] at h0;cases h0
  have look:∀ (y:Nat) v,(aC.ns .u8 aD).cell? y=some v→y<64∧v=.int .u8 (aD.getD y 0):=by
    intro y v hv
    have hv':(aD[y]?).map (fun z=>AV.int .u8 z)=some v:=hv
    cases e:aD[y]? with
    | none=>rw [e] at hv';cases hv'
    | some z =>
      rw [e] at hv'
      have hy:=(List.getElem?_eq_some_iff.1 e).1
      refine ⟨hy,?_⟩
      rw [List.getD_eq_getElem?_getD,e]
      exact (Option.some.inj hv').symm
  exact .iptr .free _ 1 0 0 1 0 (fun y=>.int .u8 (aD.getD y 0)) (yI _ _) hb
    (fun y v hv=>by rw [Nat.zero_add];exact cell y (look y v hv).1) (fun y v hv=>by rw [(look y v hv).2];exact .int _ _) trivial (fun _=>rfl) rfl
noncomputable def In(os:Os) :World :=
  { World.holding Tryd.prog os ⟨#[],#[],[]⟩ with heap:=(World.holding Tryd.prog os ⟨#[],#[],[]⟩).heap.modify 1 fun
      | .cells _ t frozen=>.cells (aD.map fun z=>Value.int .u8 z).toArray t frozen
      | o=>o }
theorem TJ(os:Os)(args:Array Value) :laidMetH Tryd.prog Af ((In os).forCall (fun _ _=>0) ⟨#[],args,[]⟩).memory :=
  (laidMet_of_run' 8 (by kernel_rfl) (by kernel_rfl):laidMet Tryd.prog Af _)
theorem Wx{xs:List Nat}(h:(FA.fl xs).has .fl) :Wd xs:=by
  intro i
  rw [List.getD_eq_getElem?_getD]
  cases e:xs[i]? with
  | none=>decide
  | some x =>
    have hx:=h.2 x (List.mem_of_getElem? e)
    have h2:=hx
    simp only [Lit.wf] at h2
    exact of_decide_eq_true h2
end Go.Proofs.YthikcnkmglbbbaaDoor
namespace Go.Plb.Seat
open Go Go.Plb
set_option linter.unusedSimpArgs false
set_option linter.unusedVariables false
noncomputable abbrev E0:z4:=bv []
theorem so:bj prog E0:=ET prog
theorem TK(y:Nat) :ai prog td [] [.flt true y] ⟨.flt true (aL y),[]⟩:=by
  have h:qc C0 E0 (gr C0 E0 0 50) td [] [.flt true y] (some [])=some (⟨.flt true (cA .andNot .u64 (y:Int) 9223372036854775808).toNat,[]⟩,[],some []):=by kernel_rfl
  have:=ai.run qh so _ _ _ h trivial
  rw [S5,Int.toNat_natCast] at this;exact this
theorem Wy(ex:Bool)(x:Nat) :ai prog td [] [.flt ex x] ⟨.flt ex (aL x),[]⟩:=by
  cases ex with
  | true=>exact TK x
  | false=>exact ut (r:=fun y=>.flt true (aL y)) TK (fun y hf ρ w u h=>h.flt_weak (S6 hf))
theorem Ri(y:Nat) :ai prog qY [] [.flt true y] ⟨.flt true (aL y),[]⟩:=by
  have h:qc C0 E0 (gr C0 E0 0 50) qY [] [.flt true y] (some [])=some (⟨.flt true ((IntKind.u64.wrap ((y:Int)*2^min (Int.toNat 1) IntKind.u64.bits)).fdiv (2^min (Int.toNat 1) IntKind.u64.bits)).toNat,[]⟩,[true,true],some []):=by kernel_rfl
  have:=ai.run qh so _ _ _ h ⟨rfl,rfl,trivial⟩
  rw [UB,Int.toNat_natCast] at this;exact this
theorem VP(ex:Bool)(x:Nat) :ai prog qY [] [.flt ex x] ⟨.flt ex (aL x),[]⟩:=by
  cases ex with
  | true=>exact Ri x
  | false=>exact ut (r:=fun y=>.flt true (aL y)) Ri (fun y hf ρ w u h=>h.flt_weak (S6 hf))
theorem CH(x y:Nat) :ai prog kK [] [.flt true x,.flt true y] ⟨.flt true (kd x y),[]⟩:=by
  have h:qc C0 E0 (gr C0 E0 0 50) kK [] [.flt true x,.flt true y] (some [])=some (⟨.flt true (cA .or .u64 (cA .andNot .u64 (x:Int) 9223372036854775808) (cA .and .u64 (y:Int) 9223372036854775808)).toNat,[]⟩,[],some []):=by kernel_rfl
  have:=ai.run qh so _ _ _ h trivial
  rw [S5,VD,Wj,Int.toNat_natCast] at this;exact this
theorem O0(e1 e2:Bool)(x y:Nat)(hn:isNaN y=true→isNaN x=true) :ai prog kK [] [.flt e1 x,.flt e2 y] ⟨.flt false (kd x y),[]⟩ :=
  uu (r:=fun x y=>.flt true (kd x y)) CH (fun x' y' h1 h2 ρ w u h=>h.flt_weak (FR.copy h1 h2 hn))
theorem UL(e1 e2:Bool)(x y:Nat) :ai prog lU [] [.flt e1 x,.flt e2 y] ⟨.bool false (xU x y),[]⟩:=by
  refine uu (r:=fun x y=>.bool false (xU x y)) (fun x y=>?_) (fun x' y' h1 h2 ρ w u h=>by rw [←FR.same h1 h2];exact h)
  have hb:((x:Int)==(y:Int))=(x==y):=by
    rw [Bool.eq_iff_iff];simp;omega
  cases hx:isNaN x with
  | false =>
    have h:qc C0 E0 (gr C0 E0 0 50) lU [] [.flt true x,.flt true y] (some [0])=some (⟨.bool false ((x:Int)==(y:Int)),[]⟩,[Rx x x==false],some []):=by kernel_rfl
    have:=ai.run qh so _ _ _ h ⟨by rw [vC,hx];rfl,trivial⟩
    rw [hb] at this
    simp only [xU,hx,Bool.false_and,Bool.false_or];exact this
  | true =>
    cases hy:isNaN y with
    | false =>
      have h:qc C0 E0 (gr C0 E0 0 50) lU [] [.flt true x,.flt true y] (some [1,0])=some (⟨.bool false ((x:Int)==(y:Int)),[]⟩,[Rx x x==true,Rx y y==false],some []):=by kernel_rfl
      have:=ai.run qh so _ _ _ h ⟨by rw [vC,hx];rfl,by rw [vC,hy];rfl,trivial⟩
      rw [hb] at this
      simp only [xU,hx,hy,Bool.and_false,Bool.false_or];exact this
    | true =>
      have h:qc C0 E0 (gr C0 E0 0 50) lU [] [.flt true x,.flt true y] (some [1,1])=some (⟨.bool true true,[]⟩,[Rx x x==true,Rx y y==true],some []):=by kernel_rfl
      have:=ai.run qh so _ _ _ h ⟨by rw [vC,hx];rfl,by rw [vC,hy];rfl,trivial⟩
      have e:xU x y=true:=by simp [xU,hx,hy]
      rw [e]
      exact this.weak (yH _ _ _)
def O1(L:List aC)(args:List AV) :Option (List qb) :=
  match L,args with
  | [],[.flt e1 x,.flt e2 y]=>bif e1&&e2 then one (.flt true (kd x y)) [] else one (.flt false (kd x y)) [!isNaN y||isNaN x]
  | _,_=>none
def TL:aK:=⟨td,fun L args=>match L,args with | [],[.flt e x]=>one (.flt e (aL x)) [] | _,_=>none⟩
def O2:aK:=⟨qY,fun L args=>match L,args with | [],[.flt e x]=>one (.flt e (aL x)) [] | _,_=>none⟩
def Fc:aK:=⟨kK,O1⟩
def JN:aK:=⟨lU,fun L args=>match L,args with | [],[.flt _ x,.flt _ y]=>one (.bool false (xU x y)) [] | _,_=>none⟩
theorem TM:aQ prog TL:=by
  intro L args alts a h ha ho
  simp only [TL] at h
  split at h
  · exact ni h ha ho fun _=>Wy _ _
  · cases h
theorem R6:aQ prog O2:=by
  intro L args alts a h ha ho
  simp only [O2] at h
  split at h
  · exact ni h ha ho fun _=>VP _ _
  · cases h
theorem VQ{x y:Nat}(h:aB [!isNaN y||isNaN x]) :isNaN y=true→isNaN x=true:=by
  intro hy;have:=h.1;rw [hy] at this;simpa using this
theorem UM{f:FuncId}(hT:∀ x y,ai prog f [] [.flt true x,.flt true y] ⟨.flt true (kd x y),[]⟩) 
    (hF:∀ e1 e2 x y,(isNaN y=true→isNaN x=true)→ai prog f [] [.flt e1 x,.flt e2 y] ⟨.flt false (kd x y),[]⟩):aQ prog ⟨f,O1⟩:=by
  intro L args alts a h ha ho
  simp only [O1] at h
  split at h
  · rename_i e1 x e2 y
    cases e1<;>cases e2<;>first | exact ni h ha ho fun q=>hF _ _ _ _ (VQ q) | exact ni h ha ho fun q=>hT _ _
  · cases h
theorem G6:aQ prog Fc:=UM CH O0
theorem O3:aQ prog JN:=by
  intro L args alts a h ha ho
  simp only [JN] at h
  split at h
  · exact ni h ha ho fun q=>UL _ _ _ _
  · cases h
def L1:List aK:=[TL,O2,Fc,JN]
def S1:z4:=bv L1
theorem Wz:bj prog S1:=ax TM (ax R6 (ax G6 (ax O3 (ET _))))
end Go.Plb.Seat
namespace Go.Plb.Seat
open Go Go.Plb
set_option linter.unusedSimpArgs false
set_option linter.unusedVariables false
set_option maxRecDepth 100000
def mX(n:Nat) :Bool:=Nat.ble n 1000000000
noncomputable def WA:Empty→aG:=fun a=>a.elim
noncomputable def WB:Unit→AE×aG:=fun _=>(.ret,⟨an 8 [(2,.sl 0 1 1 0 0 0)],[(0,.fl [])],1⟩)
noncomputable def WN:Unit→jj:=fun _=>⟨.sl 0 1 1 0 0 0,[some (.fl [])]⟩
theorem UN:ai prog cp [] [.zsl true] ⟨.sl 0 1 1 0 0 0,[some (.fl [])]⟩ :=
  Sg.contract (x:=()) (X:=Unit) (N:=WA) (E:=WB) (m:=some (.inr ())) false WN (by kernel_rfl:prog.funcs[cp]? = some (FN cp)) (by kernel_rfl:(FN cp).body=some (pB cp))
    (Sg.seg (C:=C0) qh so 60 (dU (pB cp)) (n8 (FN cp) [] [.zsl true]) (.leaf (.inr ())) WA WB [⟨[(.slot 2,.own 1 1 (.fl []))],[64],[2]⟩] (by kernel_rfl))
    (fun _=>⟨.inr rfl,[.sl 0 1 1 0 0 0],[],by kernel_rfl,trivial,by kernel_rfl⟩) rfl
theorem TN:ai prog cp [] [.zsl false] ⟨.sl 0 1 1 0 0 0,[some (.fl [])]⟩ :=
  ai.run qh so (some []) 0 60 (p':=some []) (obs:=[]) (by kernel_rfl) WI
theorem UO(l:Lv) :ai prog cp [] [.imm l (.fl []) 1 1 0 0] ⟨.sl 0 1 1 0 0 0,[some (.fl [])]⟩:=by
  intro ρ w us hN hv
  cases hv with | cons _ u _ _ h1 h2 =>
  cases h2
  have key:∀ (a:Option Addr) cap,dT ρ w [.zsl a.isNone] [.slice a 0 cap]:=fun a cap=>.cons _ _ _ _ (.zsl a cap) .nil
  have all:∀ b,ai prog cp [] [.zsl b] ⟨.sl 0 1 1 0 0 0,[some (.fl [])]⟩:=fun b=>by
    cases b
    · exact TN
    · exact UN
  cases h1 with
  | imm _ _ _ _ _ _ cap bl o u'=>exact all _ ρ w _ hN (key _ cap)
  | immEnd _ _ _ _ _ cap a=>exact all _ ρ w _ hN (key a cap)
theorem UP(l:Lv)(xs:List Nat)(hl:xs.length≤1000000000) :ai prog cp [] [.imm l (.fl xs) 1 1 0 xs.length] ⟨.sl 0 1 1 0 xs.length xs.length,[some (.fl xs)]⟩:=by
  rcases Nat.eq_zero_or_pos xs.length with h0 | h0
  · have:xs=[]:=List.length_eq_zero_iff.1 h0
    subst this
    exact UO l
  · have h:qc C0 E0 (gr C0 E0 0 60) cp [] [.imm l (.fl xs) 1 1 0 xs.length] (some [])=some (⟨.sl 0 1 1 0 (0+xs.length) (0+xs.length),[some (.fl (List.take 0 []++List.take xs.length xs))]⟩,
        [Nat.blt 0 xs.length,pT ((0+xs.length)*8) 140737488355328,pT (0+xs.length) 9223372036854775807,pT xs.length xs.length,pT 0 ([]:List Nat).length],some []):=by kernel_rfl
    have:=ai.run qh so _ _ _ h (ob (by rw [Nat.blt_eq];exact h0)<|ob (by simp [pT];omega)<|ob (by simp [pT];omega)<|ob (by simp [pT])<|ob rfl WI)
    simp only [Nat.zero_add,List.take_zero,List.nil_append,List.take_length] at this
    exact this
noncomputable def Rj:aK:=cV cp (.cons .fl .nil) fun t=>[⟨⟨.sl 0 1 1 0 t.1.2.length t.1.2.length,[some (.fl t.1.2)]⟩,[mX t.1.2.length]⟩]
theorem O4:aQ prog Rj:=aX fun t=>aY (fun h=>UP t.1.1 t.1.2 (Nat.le_of_ble_eq_true h)) bE
noncomputable def WU:List aK:=Rj::L1
theorem VS:bj prog (bv WU):=ax O4 Wz
noncomputable def LQ:Empty→aG:=fun a=>a.elim
noncomputable def LR:Unit→AE×aG:=fun _=>(.ret,⟨an 8 [(2,.sl 0 1 1 0 0 0)],[(0,.ns .u64 [])],1⟩)
noncomputable def TO:Unit→jj:=fun _=>⟨.sl 0 1 1 0 0 0,[some (.ns .u64 [])]⟩
theorem LS:ai prog bG [] [.zsl true] ⟨.sl 0 1 1 0 0 0,[some (.ns .u64 [])]⟩ :=
  Sg.contract (x:=()) (X:=Unit) (N:=LQ) (E:=LR) (m:=some (.inr ())) false TO (by kernel_rfl:prog.funcs[bG]? = some (FN bG)) (by kernel_rfl:(FN bG).body=some (pB bG))
    (Sg.seg (C:=C0) qh so 60 (dU (pB bG)) (n8 (FN bG) [] [.zsl true]) (.leaf (.inr ())) LQ LR [⟨[(.slot 2,.own 1 1 (.ns .u64 []))],[64],[2]⟩] (by kernel_rfl))
    (fun _=>⟨.inr rfl,[.sl 0 1 1 0 0 0],[],by kernel_rfl,trivial,by kernel_rfl⟩) rfl
theorem JO:ai prog bG [] [.zsl false] ⟨.sl 0 1 1 0 0 0,[some (.ns .u64 [])]⟩ :=
  ai.run qh so (some []) 0 60 (p':=some []) (obs:=[]) (by kernel_rfl) WI
theorem LT(l:Lv) :ai prog bG [] [.imm l (.ns .u64 []) 1 1 0 0] ⟨.sl 0 1 1 0 0 0,[some (.ns .u64 [])]⟩:=by
  intro ρ w us hN hv
  cases hv with | cons _ u _ _ h1 h2 =>
  cases h2
  have key:∀ (a:Option Addr) cap,dT ρ w [.zsl a.isNone] [.slice a 0 cap]:=fun a cap=>.cons _ _ _ _ (.zsl a cap) .nil
  have all:∀ b,ai prog bG [] [.zsl b] ⟨.sl 0 1 1 0 0 0,[some (.ns .u64 [])]⟩:=fun b=>by
    cases b
    · exact JO
    · exact LS
  cases h1 with
  | imm _ _ _ _ _ _ cap bl o u'=>exact all _ ρ w _ hN (key _ cap)
  | immEnd _ _ _ _ _ cap a=>exact all _ ρ w _ hN (key a cap)
theorem LU(l:Lv)(xs:List Int)(hl:xs.length≤1000000000) :ai prog bG [] [.imm l (.ns .u64 xs) 1 1 0 xs.length] ⟨.sl 0 1 1 0 xs.length xs.length,[some (.ns .u64 xs)]⟩:=by
  rcases Nat.eq_zero_or_pos xs.length with h0 | h0
  · have:xs=[]:=List.length_eq_zero_iff.1 h0
    subst this
    exact LT l
  · have h:qc C0 E0 (gr C0 E0 0 60) bG [] [.imm l (.ns .u64 xs) 1 1 0 xs.length] (some [])=some (⟨.sl 0 1 1 0 (0+xs.length) (0+xs.length),[some (.ns .u64 (List.take 0 ([]:List Int)++List.take xs.length xs))]⟩,
        [Nat.blt 0 xs.length,pT ((0+xs.length)*8) 140737488355328,pT (0+xs.length) 9223372036854775807,pT xs.length xs.length,pT 0 ([]:List Int).length],some []):=by kernel_rfl
    have:=ai.run qh so _ _ _ h (ob (by rw [Nat.blt_eq];exact h0)<|ob (by simp [pT];omega)<|ob (by simp [pT];omega)<|ob (by simp [pT])<|ob rfl WI)
    simp only [Nat.zero_add,List.take_zero,List.nil_append,List.take_length] at this
    exact this
noncomputable def CI:aK:=cV bG (.cons (.ns .u64) .nil) fun t=>[⟨⟨.sl 0 1 1 0 t.1.2.length t.1.2.length,[some (.ns .u64 t.1.2)]⟩,[mX t.1.2.length]⟩]
theorem Fd:aQ prog CI:=aX fun t=>aY (fun h=>LU t.1.1 t.1.2 (Nat.le_of_ble_eq_true h)) bE
noncomputable def Rk:List aK:=CI::WU
theorem O5:bj prog (bv Rk):=ax Fd VS
noncomputable def L2:List aK:=Rk
theorem WC:bj prog (bv L2):=O5
end Go.Plb.Seat
namespace Go.Plb.Seat
open Go Go.Plb
set_option linter.unusedSimpArgs false
set_option linter.unusedVariables false
theorem TP{n:Nat}(h:isNaN n=true) :n/4503599627370496%2048=2047:=by
  rw [ow,decide_eq_true_eq] at h;omega
theorem TQ(n:Nat) :Int.tmod (Int.fdiv (n:Int) (2^min (Int.toNat 52) IntKind.u64.bits)) 2048=((n/4503599627370496%2048:Nat):Int):=by
  have e:(2^min (Int.toNat 52) IntKind.u64.bits:Int)=((4503599627370496:Nat):Int):=by decide
  rw [e,Int.fdiv_eq_ediv_of_nonneg _ (by omega)];exact Int.tmod_eq_emod_of_nonneg (Int.natCast_nonneg _)
theorem ai.nan{f:FuncId}{g:Nat→jj}{r:jj}(h:∀ n:Nat,ai prog f [] [.int .u64 (n:Int)] (g n))(e:∀ n:Nat,isNaN n=true→g n=r) :ai prog f [] [.nan] r:=by
  intro ρ w us hN hv
  cases hv with | cons _ u _ _ h1 h2 =>
  cases h2
  cases h1 with | nan n hn =>
  rw [←e n hn]
  exact h n ρ w _ hN (.cons _ _ _ _ (.int _ _) .nil)
theorem R7:ai prog lV [] [.nan] ⟨.bool false false,[]⟩:=by
  refine ai.nan (g:=fun n=>⟨.bool false ((Int.tmod (Int.fdiv (n:Int) (2^min (Int.toNat 52) IntKind.u64.bits)) 2048) != 2047),[]⟩) (fun n=>?_) (fun n hn=>?_)
  · have h:qc C0 E0 (gr C0 E0 0 50) lV [] [.int .u64 n] (some [])=some (⟨.bool false ((Int.tmod (Int.fdiv (n:Int) (2^min (Int.toNat 52) IntKind.u64.bits)) 2048) != 2047),[]⟩,[(decide ((0:Int)≤52)),((2048:Int) != 0)],some []):=by kernel_rfl
    exact ai.run qh so _ _ _ h ⟨rfl,rfl,trivial⟩
  · simp only [TQ,TP hn];rfl
theorem O6:ai prog lV [] [.nan] ⟨.bool true false,[]⟩:=R7.weak (yH _ _ _)
def BF:aK:=⟨lV,fun L args=>match L,args with | [],[.nan]=>one (.bool true false) [] | _,_=>none⟩
theorem JP:aQ prog BF:=by
  intro L args alts a h ha ho
  simp only [BF] at h
  split at h
  · exact ni h ha ho fun q=>O6
  · cases h
noncomputable def L3:List aK:=BF::L2
theorem Vo:bj prog (bv L3):=ax JP WC
end Go.Plb.Seat
namespace Go.Plb.Seat
open Go Go.Plb
set_option linter.unusedVariables false
set_option maxRecDepth 100000
theorem bM{S:z4}(hS:bj prog S){lent:List aC}{α X:Type}{cs:List Code}{st:aG}{t:T (α⊕X)}(N:α→aG){E:X→AE×aG}(ks:List NS) 
    (h:Tm C0 S 60 cs st t.leaves ks lent.length=Q6 N E t.leaves:=by kernel_rfl):Sg prog lent cs st t.run N E:=Sg.seg qh hS 60 cs st t N E ks h
theorem JQ{lent:List aC}{σ ρ X:Type}{cs:List Code}{st:aG}{E:X→AE×aG}{B:σ→Option (σ⊕(ρ⊕X))}{ent:σ}(s:NS)(I:σ→aG)(J:ρ→aG)(id:Nat)(hE:mW E)(hI:oV id E) 
    (hb:∀ a,Sg prog lent (dU (gI (cs.headD .skip))) (I a) (B a) I (fB id J E)) (hn:s.ok lent.length=true:=by exact rfl) (h1:s.on st=I ent:=by kernel_rfl) (hcs:cs=[.block id (.loop (gI (cs.headD .skip)))]:=by kernel_rfl) :
    Sg prog lent cs st (dN B ent) J E:=Sg.pre s hn h1 (RX hcs hE hI hb ent)
theorem W4{lent:List aC}{κ X:Type}{cs:List Code}{st:aG}{E:X→AE×aG}{m:Option (κ⊕(κ⊕X))}(K:κ→aG)(id:Nat)(hE:mW E)(hI:oV id E) 
    (hb:Sg prog lent (dU (inBlock (cs.headD .skip))) st m K (fB id K E)) (hcs:cs=[.block id (inBlock (cs.headD .skip))]:=by kernel_rfl):Sg prog lent cs st (Ii m) K E:=OP hcs hE hI hb
def WV:Empty→aG:=fun a=>a.elim
theorem pn{fn:Func}{k:Nat}{keep:Bool}{o:jj}{st:aG}(vs:List AV)(h1:iA prog fn st fn.results.toList=some (vs,[]):=by kernel_rfl)(h2:EI k keep st.heap (Br vs)=some o:=by kernel_rfl) :Q0 prog fn k keep o .ret st :=
  ⟨.inr rfl,vs,[],h1,trivial,h2⟩
theorem qH{f:FuncId}{X:Type}{m:Option (Empty⊕X)}{lent:List aC}{args:List AV}{x:X}(keep:Bool)(o:X→jj)(E:X→AE×aG)(hx:pm m=some x) 
    (h:Sg prog lent (dU (pB f)) (n8 (FN f) lent args) m WV E) (hE:∀ x,Q0 prog (FN f) lent.length keep (o x) (E x).1 (E x).2)
    (hf:prog.funcs[f]? = some (FN f):=by kernel_rfl) (hc:(FN f).body=some (pB f):=by kernel_rfl):ai prog f lent args (o x) :=
  Sg.contract (P:=prog) (f:=f) (fn:=FN f) (c:=pB f) (N:=WV) (E:=E) (lent:=lent) (args:=args) keep o hf hc h hE hx
end Go.Plb.Seat
namespace Go.Plb.Seat
open Go Go.Plb
set_option linter.unusedSimpArgs false
set_option linter.unusedVariables false
def WO:Option (jj×List Bool×fW)→Bool
  | some (⟨.bool _ true,[]⟩,o,_)=>RI o
  | _=>false
theorem TR{r:Option (jj×List Bool×fW)}(h:WO r=true) :∃ k o p,r=some (⟨.bool k true,[]⟩,o,p)∧aB o:=by
  unfold WO at h
  split at h
  · exact ⟨_,_,_,rfl,H8 h⟩
  · cases h
theorem R8:WO (qc C0 (bv L3) (gr C0 (bv L3) 50 100) rE [] [] none)=true:=by kernel_rfl
theorem UQ:ai prog rE [] [] ⟨.bool false true,[]⟩:=by
  obtain ⟨k,o,p,h,ho⟩:=TR R8
  exact (ai.run qh Vo none _ _ h ho).weak (yH _ _ _)
def JR:aK:=⟨rE,fun L args=>match L,args with | [],[]=>one (.bool false true) [] | _,_=>none⟩
theorem O7:aQ prog JR:=by
  intro L args alts a h ha ho
  simp only [JR] at h
  split at h
  · exact ni h ha ho fun q=>UQ
  · cases h
noncomputable def WW:List aK:=JR::L3
theorem TS:bj prog (bv WW):=ax O7 Vo
end Go.Plb.Seat
