/-
  Part 2 of what the claim leans on: an evaluator of the model, proved sound; the contracts of the functions.
-/
import GoSem.Extern.MathSqrt
import GoSem.Extern.MathFloatBits
import GoSem.Extern.MathBitsCarry
import Derived.LoopN
import Derived.Scope
import Derived.Laws.Externs
import Derived.WalkKit
import Derived.ProofKit
import Derived.OpenShut
import Derived.Deep.Slices
import Derived.Test.YthikcnkmglbbbaaDoorChecked
import Derived.KernelRfl
import Derived.Test.YthikcnkmglbbbaaDoorRows
import Derived.LaidLaws
import Derived.LaidHandle
import Derived.Lib.LaidTab
import Derived.JoinedOf
import Derived.Test.YthikcnkmglbbbaaDoorA1
namespace Go.Plb
set_option linter.unusedSimpArgs false
set_option linter.unusedVariables false
set_option linter.unusedSectionVars false
variable [Rom]
inductive zR where
  | sqrt | bits | frombits | add64 | sub64
def xT:zR→Array Value→Sem Value
  | .sqrt=>Extern.MathSqrt.sqrt
  | .bits=>Extern.MathFloatBits.float64bits
  | .frombits=>Extern.MathFloatBits.float64frombits
  | .add64=>fun args=>do
    let (x, y, c) ← Extern.MathBitsCarry.three "Add64" args
    pure (Extern.MathBitsCarry.pair ((x+y+c)%Extern.MathBitsCarry.m64) ((x+y+c)/Extern.MathBitsCarry.m64))
  | .sub64=>fun args=>do
    let (x, y, b) ← Extern.MathBitsCarry.three "Sub64" args
    pure (Extern.MathBitsCarry.pair ((x+Extern.MathBitsCarry.m64-y-b)%Extern.MathBitsCarry.m64) (if x<y+b then 1 else 0))
def Rc(k:zR)(args:List AV) :List zQ :=
  match k,args with
  | .sqrt,[.flt _ x]=>[⟨.flt false (bP x),[],[]⟩]
  | .bits,[.flt true x]=>[⟨.int .u64 x,[],[]⟩]
  | .bits,[.flt false x]=>[⟨.int .u64 x,[],[!isNaN x]⟩,⟨.nan,[],[isNaN x]⟩]
  | .frombits,[.int .u64 n]=>[⟨.flt true n.toNat,[],[]⟩]
  | .add64,[.int _ x,.int _ y,.int _ c]=>[⟨.tup [.int .u64 (((x.toNat+y.toNat+c.toNat)%18446744073709551616:Nat):Int),.int .u64 (((x.toNat+y.toNat+c.toNat)/18446744073709551616:Nat):Int)],[],[pS c.toNat 1]⟩]
  | .sub64,[.int _ x,.int _ y,.int _ c]=>[⟨.tup [.int .u64 (((x.toNat+18446744073709551616-y.toNat-c.toNat)%18446744073709551616:Nat):Int),.int .u64 (bif Nat.blt x.toNat (y.toNat+c.toNat) then 1 else 0)],[],[pS c.toNat 1]⟩]
  | _,_=>[]
abbrev eI:=Option (List Nat)
structure Ox where
  mask:List Bool
  keep:Bool
abbrev ed:=FuncId→List aA→List AV→eI→Option (gq×List Bool×eI)
structure u9 where
  P:Program
  ext:FuncId→Option zR
  mode:FuncId→Ox
  wrap:Bool
structure u9.Ok (C:u9):Prop where
  mixed:C.P.follows .mixedOrders=true
  enter:∀ (f:FuncId) (fn:Func) (args:Array Value) (w:World),C.P.funcs[f]? = some fn→fn.body.isSome=true→(callFunc f args).run C.P w=.ok (.enter f args) w
  ext:∀ (f:FuncId) (k:zR) (args:Array Value) (w:World),C.ext f=some k→(callFunc f args).run C.P w=(do pure (Next.value (←xT k args)):Sem Next).run C.P w
def AX(P:Program)(run:ed) :Prop :=
  ∀ f lent args p r obs p',run f lent args p=some (r,obs,p')→az obs→∀ (ρ:ah) (w:World) (us:List Value),jc ρ w lent→di ρ w args us →
    (∃ fn,P.funcs[f]? = some fn∧fn.body.isSome=true)∧Calls P f us.toArray w fun e w'=>∃ u,e=.returned u∧fR ρ.live w w'∧r.Holds ρ w w' lent.length u
structure RL where
  v:AV
  sets:List (Nat×Option aA)
  reads:List Nat
  obs:List Bool
  path:eI
def Ni:List Bool→Bool
  | []=>true
  | b::l=>b&&Ni l
theorem Eo:∀ {l:List Bool},Ni l=true→az l
  | [],_=>trivial
  | b::l,h=>by simp only [Ni,Bool.and_eq_true] at h;exact ⟨h.1,Eo h.2⟩
def Aq(alts:List zQ)(p:eI) :Option (zQ×eI) :=
  match alts,p with
  | [a],p=>some (a,p)
  | alts,none=>(alts.find? fun a=>Ni a.obs).map fun a=>(a,none)
  | alts,some (k::r)=>(alts[k]?).map fun a=>(a,some r)
  | _,_=>none
theorem yO{alts:List zQ}{p p':eI}{a:zQ}(h:Aq alts p=some (a,p')) :a∈alts:=by
  unfold Aq at h
  split at h
  · simp only [Option.some.injEq,Prod.mk.injEq] at h;rw [←h.1];simp
  · simp only [Option.map_eq_some_iff,Prod.mk.injEq] at h;obtain ⟨b,h1,rfl,_⟩:=h;exact List.mem_of_find?_eq_some h1
  · simp only [Option.map_eq_some_iff,Prod.mk.injEq] at h;obtain ⟨b,h1,rfl,_⟩:=h;exact List.mem_of_getElem? h1
  · cases h
def eP:Nat:=100000
mutual
def FI:AV→List Nat
  | .ptr b ..=>[b]
  | .sl b ..=>[b]
  | .fn _ l1 l2=>eU l1++eU l2
  | .agg l | .tup l=>eU l
  | .iface _ v=>FI v
  | _=>[]
def eU:List AV→List Nat
  | []=>[]
  | v::l=>FI v++eU l
end
def PW:aA→List Nat
  | .vs l=>eU l
  | _=>[]
def p7:List Nat→Nat→Bool
  | [],_=>false
  | k::l,b=>bif Nat.beq k b then true else p7 l b
def ir(g:Nat→Option aA) :Nat→List Nat→List Nat→List Nat
  | 0,_,acc=>acc
  | _+1,[],acc=>acc
  | n+1,b::t,acc=>match p7 acc b with
    | true=>ir g n t acc
    | false=>ir g n ((match g b with | some d=>PW d | none=>[])++t) (acc++[b])
def jn:List Bool→List AV→List AV
  | true::m,v::l=>v::jn m l
  | false::m,_::l=>jn m l
  | _,_=>[]
def fV(σ:Nat→Option Nat)(g:Nat→Option aA) :List Bool→List AV→List AV×List Nat
  | _,[]=>([],[])
  | true::m,v::l=>let s:=fV σ g m l;(Ao σ v::s.1,s.2)
  | false::m,v::l=>let r:=xR σ g eP v;let s:=fV σ g m l;(r.1::s.1,r.2++s.2)
  | [],v::l=>let r:=xR σ g eP v;let s:=fV σ g [] l;(r.1::s.1,r.2++s.2)
theorem ot{ρ τ:ah}{w:World}{h:bB}{m:Nat}{σ:Nat→Option Nat}(hh:HR ρ w h m)(L:Hx ρ τ w h σ) :∀ (k:List Bool) {l:List AV} {c:List Value},di ρ w l c→di τ w (fV σ (aO h) k l).1 c
  | k,[],c,hv=>by cases hv;cases k<;>exact .nil
  | true::k,v::l,c,hv=>by cases hv with | cons _ u _ c' h1 h2=>exact .cons _ _ _ _ (im L h1) (ot hh L k h2)
  | false::k,v::l,c,hv=>by cases hv with | cons _ u _ c' h1 h2=>exact .cons _ _ _ _ (FH hh L _ h1) (ot hh L k h2)
  | [],v::l,c,hv=>by cases hv with | cons _ u _ c' h1 h2=>exact .cons _ _ _ _ (FH hh L _ h1) (ot hh L [] h2)
def p8:List Nat→Bool
  | []=>true
  | k::l=>bif p7 l k then false else p8 l
def jo(g:Nat→Option aA)(nid:Nat) :List Nat→Bool
  | []=>true
  | b::l=>(match g b with | some _=>Nat.blt b nid||Nat.ble (nid+lJ) b | none=>false)&&jo g nid l
theorem vb:∀ {l:List Nat} {i b:Nat},l[i]? = some b→p7 l b=true
  | [],i,b,h=>by simp at h
  | k::l,0,b,h=>by simp at h;subst h;simp [p7,ka]
  | k::l,i+1,b,h=>by
    simp only [p7]
    cases Nat.beq k b with
    | true=>rfl
    | false=>simp only [cond_false];exact vb (i:=i) (by simpa using h)
theorem p9:∀ {l:List Nat},p8 l=true→∀ {i j b:Nat},l[i]? = some b→l[j]? = some b→i=j
  | [],_,i,j,b,h1,_=>by simp at h1
  | k::l,hn,i,j,b,h1,h2=>by
    simp only [p8] at hn
    cases e:p7 l k with
    | true=>rw [e] at hn;cases hn
    | false =>
      rw [e] at hn;simp only [cond_false] at hn
      cases i with
      | zero =>
        cases j with
        | zero=>rfl
        | succ j=>simp at h1 h2;subst h1;rw [vb h2] at e;cases e
      | succ i =>
        cases j with
        | zero=>simp at h1 h2;subst h2;rw [vb h1] at e;cases e
        | succ j=>have:=p9 hn (i:=i) (j:=j) (b:=b) (by simpa using h1) (by simpa using h2);omega
theorem oY{g:Nat→Option aA}{nid:Nat} :∀ {l:List Nat},jo g nid l=true→∀ b,b∈l→(∃ d,g b=some d)∧(b<nid∨nid+lJ≤b)
  | [],_,b,hb=>by cases hb
  | k::l,h,b,hb=>by
    simp only [jo,Bool.and_eq_true] at h
    rcases List.mem_cons.1 hb with rfl | q
    · have:=h.1
      cases e:g b with
      | none=>rw [e] at this;cases this
      | some d =>
        rw [e] at this
        simp only [Bool.or_eq_true] at this
        refine ⟨⟨d,rfl⟩,this.imp (fun q=>by simpa [Nat.blt_eq] using q) (fun q=>Nat.le_of_ble_eq_true q)⟩
    · exact oY h.2 b q
def wm(e:Operand→AV)(f:Operand)(args:Array Operand) :Option (FuncId×List AV) :=
  match e f with
  | .fn (.func fid) first caps=>some (fid,first++args.toList.map e++caps)
  | _=>none
def Ep(C:u9)(run:ed)(g:Nat→Option aA)(nid:Nat)(p:eI)(fid:FuncId)(vals:List AV) :Option RL :=
  let bs:=ir g eP (eU (jn (C.mode fid).mask vals)) []
  let la:=fV (ij bs 0) g (C.mode fid).mask vals
  bif p8 bs&&jo g nid bs then
    match run fid (lY (ij bs 0) g bs) la.1 p with
    | some (r,obs,p') =>
      bif Nat.ble r.own.length (bs.length+lJ) then
        some { v:=iq (dA bs nid) r.v,sets:=fU (dA bs nid) 0 r.own,reads:=bs++la.2,obs,path:=p' }
      else none
    | none=>none
  else none
def Rd(C:u9)(run:ed)(e:Operand→AV)(g:Nat→Option aA)(nid:Nat)(p:eI)(op:Op) :Option RL :=
  match xK C.wrap C.P e op with
  | some (v,obs)=>some { v,sets:=[],reads:=[],obs,path:=p }
  | none =>
    match op with
    | .load t x=>(wb C.P g t (e x)).map fun r=>{ v:=r.1,sets:=[],reads:=r.2.2,obs:=r.2.1,path:=p }
    | .store t x v=>(xN C.P g t (e x) (e v)).map fun r=>{ v:=.any,sets:=[(r.1,some r.2.1)],reads:=[r.1],obs:=r.2.2,path:=p }
    | .alloc t=>(Kk C.P nid t).map fun r=>{ v:=r.1,sets:=[(nid,some r.2)],reads:=[],obs:=[],path:=p }
    | .box t x=>(Rb C.P nid t (e x)).map fun r=>{ v:=r.1,sets:=[(nid,some r.2)],reads:=[],obs:=[],path:=p }
    | .makeSlice t l c=>(Ot C.P nid t (e l) (e c)).map fun r=>{ v:=r.1,sets:=[(nid,some r.2.1)],reads:=[],obs:=r.2.2,path:=p }
    | .build t parts=>(Kn C.P t (parts.toList.map fun x=>(x.1,e x.2))).map fun v=>{ v,sets:=[],reads:=[],obs:=[],path:=p }
    | .buildSlice t len parts=>(ru C.P nid t len (parts.toList.map fun x=>(x.1,e x.2))).map fun r=>{ v:=r.1,sets:=[(nid,some r.2)],reads:=[],obs:=[],path:=p }
    | .call { callee:=.builtin .append,args,argTypes } =>
      match args.toList,argTypes.toList with
      | [s,x],[t,t']=>bif Nat.beq t t' then
          match tj C.P g nid t (e s) (e x) with
          | some (alts,rs)=>(Aq alts p).map fun r=>{ v:=r.1.v,sets:=r.1.sets,reads:=rs,obs:=r.1.obs,path:=r.2 }
          | none=>none
        else none
      | _,_=>none
    | .call { callee:=.builtin .copy,args,argTypes } =>
      match args.toList,argTypes.toList with
      | [s,x],[t,_]=>(En C.P g t (e s) (e x)).map fun r=>{ v:=.int .i64 (r.1:Int),sets:=[(r.2.1,some r.2.2.1)],reads:=r.2.2.2.2,obs:=r.2.2.2.1,path:=p }
      | _,_=>none
    | .call { callee:=.value f,args,.. } =>
      match wm e f args with
      | some (fid,l) =>
        match C.ext fid with
        | some k=>(Aq (Rc k l) p).map fun r=>{ v:=r.1.v,sets:=[],reads:=[],obs:=r.1.obs,path:=r.2 }
        | none=>Ep C run g nid p fid l
      | none=>none
    | _=>none
theorem HA{x:Nat}(h:isNaN x=true) :FloatKind.f64.format.sqrt x=none:=by
  obtain ⟨s,t,e⟩:=pF h
  simp [Ieee.Format.sqrt,e,Ieee.Datum.root]
theorem AY{ρ:ah}{w:World}{k1 k2 k3:IntKind}{x y z:Int}{c:Array Value}(hl:di ρ w [.int k1 x,.int k2 y,.int k3 z] c.toList) :c = #[.int k1 x,.int k2 y,.int k3 z]:=by
  have h:c.toList=[.int k1 x,.int k2 y,.int k3 z]:=by
    generalize c.toList=l at hl
    cases hl with | cons _ u1 _ _ h1 t1 =>
    cases t1 with | cons _ u2 _ _ h2 t2 =>
    cases t2 with | cons _ u3 _ _ h3 t3 =>
    cases t3;cases h1;cases h2;cases h3;rfl
  rw [←c.toArray_toList,h]
theorem Eq{P:Program}{w:World}(name:String){k1 k2 k3:IntKind}{x y z:Int}(hz:z.toNat≤1) :(Extern.MathBitsCarry.three name #[.int k1 x,.int k2 y,.int k3 z]).run P w=.ok (x.toNat,y.toNat,z.toNat) w:=by
  have e:Extern.MathBitsCarry.three name #[.int k1 x,.int k2 y,.int k3 z]=(do
      if z.toNat > 1 then unsupported (.noEntry ("extern/math/bits." ++ name ++ ": a carry that is neither 0 nor 1"))
      pure (x.toNat,y.toNat,z.toNat):Sem (Nat×Nat×Nat)):=rfl
  rw [e,if_neg (by omega)]
  rfl
theorem Kt{P:Program}{ρ:ah}{w:World}{k:zR}{l:List AV}{c:Array Value}{r:zQ}(hl:di ρ w l c.toList)(h:r∈Rc k l)(ho:az r.obs) :fS P ρ w (xT k c) r.v:=by
  have one:∀ {a:AV},di ρ w [a] c.toList→∃ u,c = #[u]∧VR ρ w a u:=by
    intro a h
    generalize hc:c.toList=l at h
    cases h with | cons _ u _ _ h1 h2=>cases h2;exact ⟨u,by rw [←hc],h1⟩
  unfold Rc at h
  split at h
  · simp only [List.mem_singleton] at h;subst h
    obtain ⟨u,rfl,hu⟩:=one hl
    cases hu with | flt _ _ y hf =>
    rename_i ex x
    have es:xT .sqrt #[.float .f64 y]=(match FloatKind.f64.format.sqrt y with
      | some r=>pure (.float .f64 r)
      | none=>do pure (.float .f64 (←choose (.nanBits .f64 y y)))):=rfl
    rw [es]
    have e:FloatKind.f64.format.sqrt y=FloatKind.f64.format.sqrt x:=by
      rcases hf with rfl | ⟨_,h2,h3⟩
      · rfl
      · rw [HA h2,HA h3]
    cases hr:FloatKind.f64.format.sqrt y with
    | some r=>exact ⟨.float .f64 r,w.drawn,rfl,.flt _ _ _ (.inl (by rw [e] at hr;simp [bP,hr]))⟩
    | none=>exact ⟨_,w.drawn+1,rfl,.flt _ _ _ (.inr ⟨rfl,by rw [e] at hr;simp [bP,hr,AB],Mn y y _⟩)⟩
  · simp only [List.mem_singleton] at h;subst h
    obtain ⟨u,rfl,hu⟩:=one hl
    cases hu with | flt _ _ y hf =>
    rcases hf with rfl | ⟨h1,_⟩
    · exact ⟨_,w.drawn,rfl,.int _ _⟩
    · cases h1
  · simp only [List.mem_cons,List.not_mem_nil,or_false] at h
    obtain ⟨u,rfl,hu⟩:=one hl
    cases hu with | flt _ _ y hf =>
    rcases h with rfl | rfl
    · rcases hf with rfl | ⟨_,h2,_⟩
      · exact ⟨_,w.drawn,rfl,.int _ _⟩
      · have:=ho.1;rw [h2] at this;cases this
    · have hy:isNaN y=true:=by
        rcases hf with rfl | ⟨_,_,h3⟩
        · exact ho.1
        · exact h3
      exact ⟨_,w.drawn,rfl,.nan _ hy⟩
  · simp only [List.mem_singleton] at h;subst h
    obtain ⟨u,rfl,hu⟩:=one hl
    cases hu
    exact ⟨_,w.drawn,rfl,.flt _ _ _ (.inl rfl)⟩
  · simp only [List.mem_singleton] at h;subst h
    have hz:=ho.1
    replace hz:=of_decide_eq_true hz
    cases AY hl
    refine ⟨_,w.drawn,?_,.tup _ #[_,_] (.cons _ _ _ _ (.int _ _) (.cons _ _ _ _ (.int _ _) .nil))⟩
    simp only [xT, Sem.run_bind, Eq "Add64" hz, Result.andThen_ok]
    rfl
  · simp only [List.mem_singleton] at h;subst h
    have hz:=ho.1
    replace hz:=of_decide_eq_true hz
    cases AY hl
    refine ⟨_,w.drawn,?_,.tup _ #[_,_] (.cons _ _ _ _ (.int _ _) (.cons _ _ _ _ (.int _ _) .nil))⟩
    simp only [xT, Sem.run_bind, Eq "Sub64" hz, Result.andThen_ok]
    rename_i x _ y _ z
    have e:(bif Nat.blt x.toNat (y.toNat+z.toNat) then (1:Int) else 0)=Int.ofNat (if x.toNat<y.toNat+z.toNat then 1 else 0):=by
      by_cases q:x.toNat<y.toNat+z.toNat
      · rw [if_pos q,show Nat.blt x.toNat (y.toNat+z.toNat)=true by rw [Nat.blt_eq];exact q];rfl
      · rw [if_neg q]
        have:Nat.blt x.toNat (y.toNat+z.toNat)=false:=by
          cases h:Nat.blt x.toNat (y.toNat+z.toNat) with
          | false=>rfl
          | true=>rw [Nat.blt_eq] at h;exact absurd h q
        rw [this];rfl
    rw [e]
    rfl
  · simp at h
theorem Nj{C:u9}(hC:C.Ok){run:ed}(hrun:AX C.P run){e:Operand→AV}{h:bB}{nid:Nat}{p:eI}{o:Oper}{r:RL}(hr:Rd C run e (aO h) nid p o.op=some r)(ho:az r.obs) 
    {ρ:ah} {w:World} {n:Nat} (hh:HR ρ w h n) (hid:∀ x,nid≤x→x<nid+lJ→¬ ρ.ok x) (hn0:nid+lJ≤n) {a:Act} (hops:∀ x,VR ρ w (e x) (a.eval x)) {next:Act→World→Prop} {Q:Exit→Act→World→Prop}
    (hK:∀ ρ' w' u,ji ρ ρ' w→fR ρ.live w w'→HR ρ' w' (ct r.sets h) n→VR ρ' w' r.v u→(∀ b,ρ'.ok b→ρ.ok b∨(nid≤b∧b<nid+lJ))→next (a.put o.dst u) w'):o.wp C.P a w next Q:=by
  have hS:0<lJ:=by decide
  have hb : ¬ ρ.ok nid:=hid nid (Nat.le_refl _) (by omega)
  have hn:nid<n:=by omega
  have one:∀ {b:Nat},b=nid→nid≤b∧b<nid+lJ:=fun e=>by omega
  have plain:∀ {v:AV},(∃ u k,(execOp a.eval o).run C.P w=.ok (.value u) { w with drawn:=k }∧VR ρ w v u)→r.v=v→r.sets=[]→o.wp C.P a w next Q:=by
    intro v ⟨u,k,h1,h2⟩ hv hs
    unfold Oper.wp
    rw [h1]
    have E:=ji.refl ρ w
    have W:=fR.drawn ρ.live w k
    exact hK ρ _ u E W (by rw [hs];exact hh.drawn k) (by rw [hv];exact h2.mono E W) (fun b q=>.inl q)
  have made:∀ {s:Sem Value} {v:AV} {h':bB},(execOp a.eval o).run C.P w=(do pure (Next.value (←s)):Sem Next).run C.P w→um C.P ρ w h n nid s v h'→r.v=v→ct r.sets h=h'→o.wp C.P a w next Q:=by
    intro s v h' he ⟨u,w',ρ',h1,h2,h3,h4,h5,h6⟩ hv hs
    unfold Oper.wp
    rw [he,cq h1]
    exact hK ρ' w' u h2 h3 (by rw [hs];exact h4) (by rw [hv];exact h5) (fun b q=>(h6 b q).imp id one)
  unfold Rd at hr
  split at hr
  · rename_i v obs hp
    simp only [Option.some.injEq] at hr;subst hr
    exact plain (Fs hops hp ho) rfl rfl
  · rename_i hpo
    clear hpo
    generalize hop:o.op=op at hr
    split at hr
    · rename_i t x
      simp only [Option.map_eq_some_iff] at hr
      obtain ⟨⟨v,obs,rs⟩,hl,rfl⟩:=hr
      obtain ⟨u,k,h1,h2⟩:=Hl (P:=C.P) hh (hops x) hl ho
      exact plain ⟨u,k,by simp only [execOp,hop];exact cq h1,h2⟩ rfl rfl
    · rename_i t x v
      simp only [Option.map_eq_some_iff] at hr
      obtain ⟨⟨b,d,obs⟩,hl,rfl⟩:=hr
      obtain ⟨w',h1,h2,h3⟩:=Ft (P:=C.P) hh (hops x) (hops v) hl ho
      unfold Oper.wp
      have:(execOp a.eval o).run C.P w=.ok .skip w':=by
        simp only [execOp,hop];rw [Sem.run_bind,h1];rfl
      rw [this]
      exact hK ρ w' undef (ji.refl _ _) h3 h2 (.any _) (fun b q=>.inl q)
    · rename_i t
      simp only [Option.map_eq_some_iff] at hr
      obtain ⟨⟨v,d⟩,hl,rfl⟩:=hr
      exact made (by simp only [execOp,hop]) (Fw hh hb hn hl true) rfl rfl
    · rename_i t x
      simp only [Option.map_eq_some_iff] at hr
      obtain ⟨⟨v,d⟩,hl,rfl⟩:=hr
      exact made (by simp only [execOp,hop]) (Kl hh hb hn (hops x) hl) rfl rfl
    · rename_i t l c
      simp only [Option.map_eq_some_iff] at hr
      obtain ⟨⟨v,d,obs⟩,hl,rfl⟩:=hr
      exact made (by simp only [execOp,hop]) (Hn hh hb hn (hops l) (hops c) hl ho) rfl rfl
    · rename_i t parts
      simp only [Option.map_eq_some_iff] at hr
      obtain ⟨v,hl,rfl⟩:=hr
      have h1:(parts.toList.map fun x=>(x.1,e x.2)).map Prod.fst=(parts.map fun (x:Nat×Operand)=>(x.1,a.eval x.2)).toList.map Prod.fst:=by simp
      have h2:di ρ w ((parts.toList.map fun x=>(x.1,e x.2)).map Prod.snd) ((parts.map fun (x:Nat×Operand)=>(x.1,a.eval x.2)).toList.map Prod.snd):=by
        have:=di.map hops (parts.toList.map Prod.snd)
        simpa [Function.comp_def] using this
      obtain ⟨u,k,q1,q2⟩:=FC (P:=C.P) h1 h2 hl
      exact plain ⟨u,k,by simp only [execOp,hop];exact cq q1,q2⟩ rfl rfl
    · rename_i t len parts
      simp only [Option.map_eq_some_iff] at hr
      obtain ⟨⟨v,d⟩,hl,rfl⟩:=hr
      have h1:(parts.toList.map fun x=>(x.1,e x.2)).map Prod.fst=(parts.map fun (x:Nat×Operand)=>(x.1,a.eval x.2)).toList.map Prod.fst:=by simp
      have h2:di ρ w ((parts.toList.map fun x=>(x.1,e x.2)).map Prod.snd) ((parts.map fun (x:Nat×Operand)=>(x.1,a.eval x.2)).toList.map Prod.snd):=by
        have:=di.map hops (parts.toList.map Prod.snd)
        simpa [Function.comp_def] using this
      exact made (by simp only [execOp,hop]) (wh hh hb hn h1 h2 hl) rfl rfl
    · rename_i args argTypes
      split at hr
      case h_2=>cases hr
      rename_i s x t t' e1 e2
      cases ht:Nat.beq t t' with
      | false=>rw [ht] at hr;cases hr
      | true =>
      rw [ht] at hr
      have:=Nat.eq_of_beq_eq_true ht
      subst this
      simp only [cond_true] at hr
      split at hr
      case h_2=>cases hr
      rename_i alts rs ha
      simp only [Option.map_eq_some_iff] at hr
      obtain ⟨⟨alt,p'⟩,hp,rfl⟩:=hr
      have ea:args = #[s,x]:=by rw [←e1]
      have et:argTypes = #[t,t]:=by rw [←e2]
      subst ea;subst et
      have hm:=Df hh hb hn (hops s) (hops x) ha (yO hp) ho o.type
      refine made (s:=Builtin.append_ #[t,t] o.type #[a.eval s,a.eval x]) ?_ hm rfl rfl
      simp only [execOp,hop]
      rw [fT a.eval .append #[s,x] #[t,t] o.type _ rfl]
      simp [invoke,builtin]
    · rename_i args argTypes
      split at hr
      case h_2=>cases hr
      rename_i s x t t' e1 e2
      simp only [Option.map_eq_some_iff] at hr
      obtain ⟨⟨k,b,d,obs,rs⟩,hc,rfl⟩:=hr
      have ea:args = #[s,x]:=by rw [←e1]
      have et:argTypes = #[t,t']:=by rw [←e2]
      subst ea;subst et
      obtain ⟨w',h1,h2,h3⟩:=Hz (P:=C.P) (T:=o.type) (t':=t') hh (hops s) (hops x) hc ho
      refine made (s:=Builtin.copy_ #[t,t'] o.type #[a.eval s,a.eval x]) ?_ ⟨_,w',ρ,h1,ji.refl _ _,h3,h2,.int _ _,fun b q=>.inl q⟩ rfl rfl
      simp only [execOp,hop]
      rw [fT a.eval .copy #[s,x] #[t,t'] o.type _ rfl]
      simp [invoke,builtin]
    · rename_i f args ats
      split at hr
      case h_2=>cases hr
      rename_i fid l hca
      unfold wm at hca
      split at hca
      case h_2=>cases hca
      rename_i fid' first caps hef
      simp only [Option.some.injEq,Prod.mk.injEq] at hca
      obtain ⟨rfl,rfl⟩:=hca
      have hf:=hops f
      rw [hef] at hf
      generalize hgf:a.eval f=gf at hf
      cases hf with | fn _ _ _ c1 c2 v1 v2 =>
      have hargs:di ρ w (first++args.toList.map e++caps) (c1++args.map a.eval++c2).toList:=by
        simp only [Array.toList_append,Array.toList_map]
        exact di.append v2 (di.append (di.map hops args.toList) v1)
      have hex:∀ w0,(execOp a.eval o).run C.P w0=(callFunc fid' (c1++args.map a.eval++c2)).run C.P w0:=by
        intro w0
        simp only [execOp,hop,resolve,hgf,Deferred.ofValue]
        rfl
      split at hr
      · rename_i k hk
        simp only [Option.map_eq_some_iff] at hr
        obtain ⟨⟨a,_⟩,hl,rfl⟩:=hr
        obtain ⟨u,kk,q1,q2⟩:=Kt (P:=C.P) hargs (yO hl) ho
        refine plain ⟨u,kk,?_,q2⟩ rfl rfl
        rw [hex,hC.ext fid' k _ w hk]
        exact cq q1
      · unfold Ep at hr
        simp only at hr
        generalize hbs:ir (aO h) eP (eU (jn (C.mode fid').mask (first++args.toList.map e++caps))) []=bs at hr
        cases hlen:(p8 bs&&jo (aO h) nid bs) with
        | false=>rw [hlen] at hr;cases hr
        | true =>
        rw [hlen] at hr
        simp only [cond_true] at hr
        rw [Bool.and_eq_true] at hlen
        split at hr
        case h_2=>cases hr
        rename_i r' obs p' hl
        cases hle:Nat.ble r'.own.length (bs.length+lJ) with
        | false=>rw [hle] at hr;cases hr
        | true =>
        rw [hle] at hr
        simp only [cond_true,Option.some.injEq] at hr;subst hr
        have hLs:Hy h bs:=⟨fun q1 q2=>p9 hlen.1 q1 q2,fun b q=>(oY hlen.2 b q).1⟩
        have L:=My hh hLs
        have hcall:=hrun fid' _ _ p r' obs p' hl ho
        obtain ⟨⟨fn,hfn,hbody⟩,hcalls⟩:=hcall (ρ.lend bs) w _ (Ks hh hLs) (ot hh L _ hargs)
        unfold Oper.wp
        rw [hex,hC.enter fid' fn _ w hfn hbody]
        simp only [Oper.upon]
        have hl2:(c1++args.map a.eval++c2).toList.toArray=c1++args.map a.eval++c2:=by simp
        rw [hl2] at hcalls
        refine hcalls.mono ?_
        rintro e' w' ⟨u,rfl,W,ρ',E,hbk,H,hv⟩
        rw [kH] at hbk
        obtain ⟨q1,q2,q3,q4,q5⟩:=Ow hh hLs hid (fun b q=>(oY hlen.2 b q).2) hn0 (Nat.le_of_ble_eq_true hle) W E hbk H hv
        exact hK _ w' u q1 q2 q3 q4 q5
    · cases hr
structure tl where
  v:AV
  sets:List (Nat×Option aA)
  reads:List Nat
def tm(ops:Array Oper)(j:Nat) :Option Nat:=(ops[j]?).bind (·.dst)
def tn(ops:Array Oper)(o:Oper)(T:List AV) :Option Bool :=
  match o.guard with
  | none=>some true
  | some (j,want) =>
    match tm ops j with
    | none=>some false
    | some d =>
      match T[d]? with
      | some (.bool true b)=>some (b==want)
      | some (.tup _) | none=>some false
      | _=>none
def MA(ops:Array Oper)(i:Nat) :Bool:=ops.toList.any fun o=>match o.guard with | some (j,_)=>Nat.beq j i | none=>false
def Ar(v:AV)(p:eI) :Option (Bool×List Bool×eI) :=
  match v,p with
  | .bool true b,p=>some (b,[],p)
  | .bool false b,none=>some (b,[],none)
  | .bool false b,some (k::r)=>some (Nat.beq k 1,[b==Nat.beq k 1],some r)
  | _,_=>none
theorem AZ{ρ:ah}{w:World}{v:AV}{u:Value}{p p':eI}{b:Bool}{obs:List Bool}(hv:VR ρ w v u)(h:Ar v p=some (b,obs,p'))(ho:az obs) :u=.bool b:=by
  unfold Ar at h
  split at h
  · simp only [Option.some.injEq,Prod.mk.injEq] at h;obtain ⟨rfl,rfl,rfl⟩:=h;cases hv;rfl
  · simp only [Option.some.injEq,Prod.mk.injEq] at h;obtain ⟨rfl,rfl,rfl⟩:=h;cases hv;rfl
  · simp only [Option.some.injEq,Prod.mk.injEq] at h;obtain ⟨rfl,rfl,rfl⟩:=h;cases hv
    have:=ho.1
    simp only [beq_iff_eq] at this
    rw [this]
  · cases h
def yP(ops:Array Oper)(i:Nat)(v:AV)(p:eI) :Option (AV×List Bool×eI) :=
  bif MA ops i then (Ar v p).map fun r=>(.bool true r.1,r.2.1,r.2.2) else some (v,[],p)
def wn(C:u9)(run:ed)(ops:Array Oper)(n0 i:Nat)(o:Oper)(T:List AV)(h:bB)(p:eI) :Option (tl×List Bool×eI) :=
  match tn ops o T with
  | none=>none
  | some false=>some ({ v:=.tup [],sets:=[],reads:=[] },[],p)
  | some true =>
    match Rd C run (PU T) (aO h) (n0+i*lJ) p o.op with
    | none=>none
    | some r =>
      match yP ops i r.v r.path with
      | none=>none
      | some (v,obs,p')=>some ({ v,sets:=r.sets,reads:=r.reads },r.obs++obs,p')
def wo(T:List AV)(d:Option Nat)(v:AV) :List AV :=
  match d with
  | some d=>T.set d v
  | none=>T
theorem MB{ρ:ah}{w:World}{T:List AV}{a:Act}{v:AV}{u:Value}(h:di ρ w T a.tmps.toList)(hv:VR ρ w v u)(d:Option Nat) :di ρ w (wo T d v) (a.put d u).tmps.toList:=by
  cases d with
  | none=>exact h
  | some d=>simp only [wo,Act.put,Array.toList_setIfInBounds];exact h.set hv d
theorem wq{ρ:ah}{w:World}{ops:Array Oper}{o:Oper}{T:List AV}{a:Act}(h:di ρ w T a.tmps.toList){b:Bool}(hw:tn ops o T=some b) :Region.wanted o (yielded ops a.tmps)=b:=by
  unfold tn at hw
  unfold Region.wanted
  split at hw
  · rename_i hg;cases hw;simp [hg]
  · rename_i j want hg
    simp only [hg]
    unfold tm at hw
    split at hw
    · rename_i hs;cases hw;simp [yielded,hs]
    · rename_i d hs
      split at hw
      · rename_i b' hT
        cases hw
        obtain ⟨u,h1,h2⟩:=h.get d _ hT
        rw [Array.getElem?_toList] at h1
        cases h2
        simp only [yielded,hs,Option.bind_some,h1]
        cases b'<;>cases want<;>rfl
      · rename_i l hT
        cases hw
        obtain ⟨u,h1,h2⟩:=h.get d _ hT
        rw [Array.getElem?_toList] at h1
        cases h2
        simp [yielded,hs,h1]
      · rename_i hT
        cases hw
        have : a.tmps[d]? = none := by
          have hl:=h.length
          rw [Array.getElem?_eq_none]
          have : T.length ≤ d := by rcases Nat.lt_or_ge d T.length with q | q; · rw [List.getElem?_eq_getElem q] at hT; cases hT
                                    · exact q
          simp at hl;omega
        simp [yielded,hs,this]
      · cases hw
theorem HR.congr{ρ:ah}{w:World}{h h':bB}{n:Nat}(hh:HR ρ w h n)(e:∀ b,aO h' b=aO h b) :HR ρ w h' n :=
  ⟨fun b d q=>hh.cell b d (by rw [←e];exact q),fun b c d f q r=>hh.inj b c d f (by rw [←e];exact q) (by rw [←e];exact r),hh.fresh,hh.liveLt,hh.outLt,hh.lt,hh.rom⟩
theorem yQ{C:u9}(hC:C.Ok){run:ed}(hrun:AX C.P run){ops:Array Oper}{n0 i:Nat}{o:Oper}(hi:ops[i]? = some o){T:List AV}{h:bB}{p p':eI}{r:tl}{obs:List Bool} 
    (hr:wn C run ops n0 i o T h p=some (r,obs,p')) (ho:az obs) {ρ:ah} {w:World} {n:Nat} (hh:HR ρ w h n) (hid:∀ x,n0+i*lJ≤x→x<n0+i*lJ+lJ→¬ ρ.ok x) (hn:n0+i*lJ+lJ≤n) {a:Act} (hd:a.defers=[]) (hT:di ρ w T a.tmps.toList)
    {K:Act→World→Prop} {Q:Exit→Act→World→Prop}
    (hK:∀ ρ' w' a',ji ρ ρ' w→fR ρ.live w w'→HR ρ' w' (ct r.sets h) n→a'.defers=[]→di ρ' w' (wo T o.dst r.v) a'.tmps.toList→(∀ b,ρ'.ok b→ρ.ok b∨(n0+i*lJ≤b∧b<n0+i*lJ+lJ))→K a' w'):wpOp C.P ops Q i K a w:=by
  have dput:∀ u,(a.put o.dst u).defers=[]:=by intro u;cases hdst:o.dst<;>simp [Act.put,hd]
  unfold wn at hr
  unfold wpOp
  simp only [hi]
  split at hr
  · cases hr
  · rename_i hw
    simp only [Option.some.injEq,Prod.mk.injEq] at hr;obtain ⟨rfl,rfl,rfl⟩:=hr
    rw [wq hT hw]
    simp only [Bool.false_eq_true,if_false]
    exact hK ρ w _ (ji.refl _ _) (fR.refl _ _) hh (dput _) (MB hT (.tup _ _ .nil) o.dst) (fun b q=>.inl q)
  · rename_i hw
    rw [wq hT hw]
    simp only [if_true]
    split at hr
    · cases hr
    · rename_i r' hop
      split at hr
      · cases hr
      · rename_i v obs' p'' hg
        simp only [Option.some.injEq,Prod.mk.injEq] at hr;obtain ⟨rfl,rfl,rfl⟩:=hr
        rw [aV] at ho
        refine .inl (Nj hC hrun hop ho.1 hh hid hn (fun x=>AG hh.rom hT x) ?_)
        intro ρ' w' u E W hh' hv hok
        refine hK ρ' w' _ E W hh' (dput _) (MB (hT.mono E W) ?_ o.dst) hok
        unfold yP at hg
        cases hgd:MA ops i with
        | false=>rw [hgd] at hg;simp only [cond_false,Option.some.injEq,Prod.mk.injEq] at hg;rw [←hg.1];exact hv
        | true =>
          rw [hgd] at hg
          simp only [cond_true,Option.map_eq_some_iff,Prod.mk.injEq] at hg
          obtain ⟨⟨b,ob,pp⟩,hd',rfl,rfl,rfl⟩:=hg
          rw [AZ hv hd' ho.2]
          exact .bool _ _
def A0(C:u9)(run:ed)(ops:Array Oper)(n0:Nat) :Nat→List Oper→List AV→bB→eI→Option (List AV×bB×List Bool×eI)
  | _,[],T,h,p=>some (T,h,[],p)
  | i,o::l,T,h,p =>
    match wn C run ops n0 i o T h p with
    | none=>none
    | some (r,obs,p') =>
      match A0 C run ops n0 (i+1) l (wo T o.dst r.v) (ct r.sets h) p' with
      | none=>none
      | some (T',h',obs',p'')=>some (T',h',obs++obs',p'')
structure rA (ρ:ah) (w:World) (n:Nat) (st:aE) (ρ':ah) (a':Act) (w':World):Prop where
  ext:ji ρ ρ' w
  wle:fR ρ.live w w'
  sr:SR ρ' st a' w'
  le:n≤st.next
  back:∀ b,ρ'.ok b→ρ.ok b∨n≤b
theorem ws{C:u9}(hC:C.Ok){run:ed}(hrun:AX C.P run){ops:Array Oper}{n0:Nat}{Q:Exit→Act→World→Prop} :∀ (l:List Oper) (i:Nat) {T T':List AV} {h h':bB} {p p':eI} {obs:List Bool},
    (∀ j,l[j]? = ops[i+j]?)→A0 C run ops n0 i l T h p=some (T',h',obs,p')→az obs→∀ {ρ:ah} {w:World},HR ρ w h (n0+ops.size*lJ)→(∀ b,ρ.ok b→b<n0+i*lJ)→∀ {a:Act},a.defers=[]→di ρ w T a.tmps.toList →
    (∀ ρ' w' a',ji ρ ρ' w→fR ρ.live w w'→HR ρ' w' h' (n0+ops.size*lJ)→a'.defers=[]→di ρ' w' T' a'.tmps.toList→(∀ b,ρ'.ok b→ρ.ok b∨n0≤b)→Q .normal a' w')→wpOps C.P ops Q (List.range' i l.length) a w
  | [],i,T,T',h,h',p,p',obs,hl,hr,ho,ρ,w,hh,hok,a,hd,hT,hQ=>by
    simp only [A0,Option.some.injEq,Prod.mk.injEq] at hr;obtain ⟨rfl,rfl,rfl,rfl⟩:=hr
    simp only [List.length_nil,List.range'_zero,wpOps]
    exact hQ ρ w a (ji.refl _ _) (fR.refl _ _) hh hd hT (fun b q=>.inl q)
  | o::l,i,T,T',h,h',p,p',obs,hl,hr,ho,ρ,w,hh,hok,a,hd,hT,hQ=>by
    simp only [A0] at hr
    split at hr
    case h_1=>cases hr
    rename_i r obs1 p1 h1
    split at hr
    case h_1=>cases hr
    rename_i T2 h2 obs2 p2 h3
    simp only [Option.some.injEq,Prod.mk.injEq] at hr;obtain ⟨rfl,rfl,rfl,rfl⟩:=hr
    rw [aV] at ho
    have hi:ops[i]? = some o:=by have:=hl 0;simpa using this.symm
    have hlt:i<ops.size:=(Array.getElem?_eq_some_iff.1 hi).1
    simp only [List.length_cons,List.range'_succ]
    rw [wpOps_cons]
    have hS:i*lJ+lJ≤ops.size*lJ:=by rw [←Nat.succ_mul];exact Nat.mul_le_mul_right _ hlt
    have hi1:(i+1)*lJ=i*lJ+lJ:=Nat.succ_mul _ _
    refine yQ hC hrun hi h1 ho.1 hh (fun x h1 h2 q=>by have:=hok _ q;omega) (by omega) hd hT ?_
    intro ρ' w' a' E W hh' hd' hT' hok'
    refine ws hC hrun l (i+1) (fun j=>by have:=hl (j+1);rw [show i+1+j=i+(j+1) from by omega];simpa using this) h3 ho.2 hh' (fun b q=>by
      rcases hok' b q with q | q
      · have:=hok b q;omega
      · omega) hd' hT' ?_
    intro ρ'' w'' a'' E' W' hh'' hd'' hT'' hb''
    exact hQ ρ'' w'' a'' (E.trans E' W.size) (W.trans W' (fun x hx q=>E.new x hx q)) hh'' hd'' hT'' (fun b q=>by
      rcases hb'' b q with q | q
      · rcases hok' b q with q | q
        · exact .inl q
        · exact .inr (by omega)
      · exact .inr q)
theorem tp{e e':Operand→AV}{l:List Operand}(h:∀ x∈l,e x=e' x) :l.map e=l.map e':=List.map_congr_left h
theorem FJ{wr:Bool}{P:Program}{e e':Operand→AV}{op:Op}(h:∀ x∈op.operands,e x=e' x) :xK wr P e op=xK wr P e' op:=by
  unfold xK
  split
  all_goals simp only [Op.operands,Call.operands] at h
  case h_1=>rw [h _ (by simp)]
  case h_2=>rw [h _ (by simp)]
  case h_3=>rw [h _ (by simp),h _ (by simp),h _ (by simp)]
  case h_4=>rw [h _ (by simp)]
  case h_5=>rw [h _ (by simp),h _ (by simp)]
  case h_6=>rw [h _ (by simp)]
  case h_7=>rw [h _ (by simp)]
  case h_8=>rw [h _ (by simp)]
  case h_9 =>
    rename_i fn first caps
    rw [tp (l:=first.toList) (fun x hx=>h x (by simp at hx;simp [hx])),tp (l:=caps.toList) (fun x hx=>h x (by simp at hx;simp [hx]))]
  case h_10 =>
    rename_i t x lo hi
    rw [h x (by simp)]
    cases lo<;>cases hi<;>simp only [Option.map_none,Option.map_some]<;>first | rfl | (rw [h _ (by simp),h _ (by simp)]) | (rw [h _ (by simp)])
  case h_11 =>
    rename_i t x lo hi mx
    rw [h x (by simp),h mx (by simp)]
    cases lo<;>cases hi<;>simp only [Option.map_none,Option.map_some]<;>first | rfl | (rw [h _ (by simp),h _ (by simp)]) | (rw [h _ (by simp)])
  case h_12=>rw [h _ (by simp)]
  case h_13=>rw [h _ (by simp)]
  case h_14=>rw [h _ (by simp),h _ (by simp)]
  case h_15=>rw [h _ (by simp),h _ (by simp)]
  case h_16=>rw [h _ (by simp)]
  case h_17 =>
    rename_i xs ts
    split
    · rename_i x t hx ht
      have:xs = #[x]:=by rw [←hx]
      subst this
      rw [h x (by simp)]
    · rfl
  case h_18 =>
    rename_i xs ts
    split
    · rename_i x l hx
      have:xs=(x::l).toArray:=by rw [←hx]
      subst this
      rw [h x (by simp),tp (l:=l) (fun y hy=>h y (by simp [hy]))]
    · rfl
  case h_19 =>
    rename_i xs ts
    split
    · rename_i x l hx
      have:xs=(x::l).toArray:=by rw [←hx]
      subst this
      rw [h x (by simp),tp (l:=l) (fun y hy=>h y (by simp [hy]))]
    · rfl
  case h_20=>rfl
theorem HB{P:Program}{g g':Nat→Option aA}{t:TypeId}{x:AV}{r:AV×List Bool×List Nat}(h:wb P g t x=some r)(hg:∀ b∈r.2.2,g' b=g b) :wb P g' t x=some r:=by
  unfold wb at h ⊢
  simp only at h ⊢
  split at h
  · rename_i b w i j
    split at h
    · rename_i d hd
      simp only [Option.map_eq_some_iff] at h
      obtain ⟨r',h1,rfl⟩:=h
      have:g' b=some d:=by rw [hg b (by simp)];exact hd
      simp only [this,h1];rfl
    · cases h
  · exact h
  · cases h
theorem FK{P:Program}{g g':Nat→Option aA}{t:TypeId}{x v:AV}{r:Nat×aA×List Bool}(h:xN P g t x v=some r)(hg:g' r.1=g r.1) :xN P g' t x v=some r:=by
  unfold xN at h ⊢
  split at h
  · rename_i b w i j l inf h1 h2
    split at h
    · rename_i d hd
      cases e:Nat.beq l.length inf.size with
      | false=>rw [e] at h;cases h
      | true =>
        rw [e] at h
        simp only [cond_true,Option.map_eq_some_iff] at h
        obtain ⟨r',h3,rfl⟩:=h
        have:g' b=some d:=by rw [hg];exact hd
        simp only [h1,this,e,cond_true,h3];rfl
    · cases h
  · cases h
theorem qa{g g':Nat→Option aA}{x:AV}{r:Nat×Nat×aA×List Bool×List Nat}(h:De g x=some r)(hg:∀ b∈r.2.2.2.2,g' b=g b) :De g' x=some r:=by
  unfold De at h ⊢
  split at h
  · rename_i b w es i len cap
    split at h
    · rename_i d hd
      simp only [Option.map_eq_some_iff] at h
      obtain ⟨r',h1,rfl⟩:=h
      have:g' b=some d:=by rw [hg b (by simp)];exact hd
      simp only [this,h1];rfl
    · cases h
  · exact h
  · cases h
theorem Dh{P:Program}{g g':Nat→Option aA}{nid:Nat}{t:TypeId}{s x:AV}{r:List zQ×List Nat}(h:tj P g nid t s x=some r)(hg:∀ b∈r.2,g' b=g b) :tj P g' nid t s x=some r:=by
  unfold tj at h ⊢
  split at h
  case h_2=>cases h
  rename_i e ht
  split at h
  case h_2=>cases h
  rename_i inf hi
  split at h
  case h_2=>cases h
  rename_i z hz
  cases hzs:Nat.beq z.cells.size inf.size with
  | false=>rw [hzs] at h;cases h
  | true =>
  rw [hzs] at h
  simp only [cond_true] at h ⊢
  split at h
  · exact h
  · exact h
  · exact h
  · rename_i hx0
    split at h
    case h_2=>cases h
    rename_i m es nb obs rs hs
    cases hes:Nat.beq es inf.size with
    | false=>rw [hes] at h;cases h
    | true =>
    rw [hes] at h
    simp only [cond_true,Option.some.injEq] at h;subst h
    have:=qa (g':=g') hs hg
    simp only [this,hes,cond_true]
  · exact h
  · rename_i hx0
    split at h
    case h_2=>cases h
    rename_i m es nb obs rs hs
    cases hes:Nat.beq es inf.size with
    | false=>rw [hes] at h;cases h
    | true =>
    rw [hes] at h
    simp only [cond_true,Option.some.injEq] at h;subst h
    have:=qa (g':=g') hs hg
    simp only [this,hes,cond_true]
  · rename_i b w es len cap hx0 _
    split at h
    case h_2=>cases h
    rename_i d m es' nb obs rs hd hs
    cases hes:(Nat.beq es inf.size&&Nat.beq es' es) with
    | false=>rw [hes] at h;cases h
    | true =>
    rw [hes] at h
    simp only [cond_true] at h
    split at h
    case h_2=>cases h
    rename_i old obs' hsub
    simp only [Option.map_eq_some_iff] at h
    obtain ⟨d',happ,rfl⟩:=h
    have h1:=qa (g':=g') hs (fun b' hb=>hg b' (by simp only [List.mem_cons];exact .inr hb))
    have h2:g' b=some d:=by rw [hg b (by simp)];exact hd
    simp only [h1,h2,hes,cond_true,hsub,happ];rfl
  · cases h
mutual
theorem qb {σ:Nat→Option Nat} {g g':Nat→Option aA}:∀ (n:Nat) (v:AV),(∀ b∈(xR σ g n v).2,g' b=g b)→xR σ g' n v=xR σ g n v
  | 0,_,_=>rfl
  | n + 1, v, h => by
    cases v<;>simp only [xR] at h ⊢
    · rename_i b w i j
      cases hs:σ b with
      | some c=>rfl
      | none =>
      rw [hs] at h
      simp only at h ⊢
      have hb:g' b=g b:=by
        cases q:g b with
        | none=>rw [q] at h;have:=h b (by simp);rw [this,q]
        | some d=>rw [q] at h;have:=h b (by simp);rw [this,q]
      rw [hb]
      cases q:g b with
      | none=>rfl
      | some d =>
        rw [q] at h
        have:=A1 (σ:=σ) (g:=g) (g':=g') n d (fun b' hb'=>h b' (by simp only [List.mem_cons];exact .inr hb'))
        simp only [this]
    · rename_i b w es i len cap
      cases hs:σ b with
      | some c=>rfl
      | none =>
      rw [hs] at h
      simp only at h ⊢
      have hb:g' b=g b:=by
        cases q:g b with
        | none=>rw [q] at h;have:=h b (by simp);rw [this,q]
        | some d=>rw [q] at h;have:=h b (by simp);rw [this,q]
      rw [hb]
      cases q:g b with
      | none=>rfl
      | some d =>
        rw [q] at h
        have:=A1 (σ:=σ) (g:=g) (g':=g') n d (fun b' hb'=>h b' (by simp only [List.mem_cons];exact .inr hb'))
        simp only [this]
    · rename_i f l1 l2
      rw [kh n l1 (fun b hb=>h b (by simp [hb])),kh n l2 (fun b hb=>h b (by simp [hb]))]
    · rename_i l;rw [kh n l h]
    · rename_i l;rw [kh n l h]
    · rename_i t v;rw [qb n v h]
theorem kh {σ:Nat→Option Nat} {g g':Nat→Option aA}:∀ (n:Nat) (l:List AV),(∀ b∈(wl σ g n l).2,g' b=g b)→wl σ g' n l=wl σ g n l
  | 0,_,_=>rfl
  | n+1,[],_=>rfl
  | n+1,v::l,h=>by
    simp only [wl] at h ⊢
    rw [qb n v (fun b hb=>h b (by simp [hb])),kh n l (fun b hb=>h b (by simp [hb]))]
theorem A1 {σ:Nat→Option Nat} {g g':Nat→Option aA}:∀ (n:Nat) (d:aA),(∀ b∈(u6 σ g n d).2,g' b=g b)→u6 σ g' n d=u6 σ g n d
  | 0,_,_=>rfl
  | n+1,d,h=>by
    cases d<;>simp only [u6] at h ⊢
    rename_i l;rw [kh n l h]
end
theorem jp{σ:Nat→Option Nat}{g g':Nat→Option aA} :∀ (m:List Bool) (l:List AV),(∀ b∈(fV σ g m l).2,g' b=g b)→fV σ g' m l=fV σ g m l
  | m,[],_=>by cases m<;>rfl
  | true::m,v::l,h=>by
    simp only [fV] at h ⊢
    rw [jp m l h]
  | false::m,v::l,h=>by
    simp only [fV] at h ⊢
    rw [qb _ v (fun b hb=>h b (by simp [hb])),jp m l (fun b hb=>h b (by simp [hb]))]
  | [],v::l,h=>by
    simp only [fV] at h ⊢
    rw [qb _ v (fun b hb=>h b (by simp [hb])),jp [] l (fun b hb=>h b (by simp [hb]))]
theorem xU{g:Nat→Option aA} :∀ (n:Nat) (t acc:List Nat),∀ b∈acc,b∈ir g n t acc
  | 0,t,acc,b,h=>h
  | n+1,[],acc,b,h=>h
  | n+1,x::t,acc,b,h=>by
    simp only [ir]
    split
    · exact xU n _ _ b h
    · exact xU n _ _ b (by simp [h])
theorem rB{g g':Nat→Option aA} :∀ (n:Nat) (t acc:List Nat),(∀ b∈ir g n t acc,g' b=g b)→ir g' n t acc=ir g n t acc
  | 0,t,acc,_=>rfl
  | n+1,[],acc,_=>rfl
  | n+1,x::t,acc,h=>by
    simp only [ir] at h ⊢
    split
    · rename_i e;rw [e] at h;exact rB n _ _ h
    · rename_i e
      rw [e] at h
      simp only at h
      have hx:g' x=g x:=h x (xU n _ _ x (by simp))
      rw [hx]
      exact rB n _ _ h
theorem wt{σ:Nat→Option Nat}{g g':Nat→Option aA} :∀ (l:List Nat),(∀ b∈l,g' b=g b)→lY σ g' l=lY σ g l
  | [],_=>rfl
  | b::l,h=>by simp only [lY];rw [h b (by simp),wt l (fun x hx=>h x (by simp [hx]))]
theorem rC{g g':Nat→Option aA}{nid:Nat} :∀ (l:List Nat),(∀ b∈l,g' b=g b)→jo g' nid l=jo g nid l
  | [],_=>rfl
  | b::l,h=>by simp only [jo];rw [h b (by simp),rC l (fun x hx=>h x (by simp [hx]))]
theorem HC{C:u9}{run:ed}{g g':Nat→Option aA}{nid:Nat}{p:eI}{fid:FuncId}{vals:List AV}{r:RL}(h:Ep C run g nid p fid vals=some r)(hg:∀ b∈r.reads,g' b=g b) :Ep C run g' nid p fid vals=some r:=by
  have hreads:r.reads=ir g eP (eU (jn (C.mode fid).mask vals)) []++(fV (ij (ir g eP (eU (jn (C.mode fid).mask vals)) []) 0) g (C.mode fid).mask vals).2:=by
    unfold Ep at h
    simp only at h
    generalize (p8 (ir g eP (eU (jn (C.mode fid).mask vals)) [])&&jo g nid (ir g eP (eU (jn (C.mode fid).mask vals)) []))=c at h
    cases c with
    | false=>cases h
    | true =>
      simp only [cond_true] at h
      split at h
      case h_2=>cases h
      rename_i r' obs p' hl
      cases hle:Nat.ble r'.own.length ((ir g eP (eU (jn (C.mode fid).mask vals)) []).length+lJ) with
      | false=>rw [hle] at h;cases h
      | true=>rw [hle] at h;simp only [cond_true,Option.some.injEq] at h;rw [←h]
  rw [hreads] at hg
  have e1:=rB (g:=g) (g':=g') eP (eU (jn (C.mode fid).mask vals)) [] (fun b hb=>hg b (by simp [hb]))
  have e2:=jp (σ:=ij (ir g eP (eU (jn (C.mode fid).mask vals)) []) 0) (g:=g) (g':=g') (C.mode fid).mask vals (fun b hb=>hg b (by simp [hb]))
  have e3:=wt (σ:=ij (ir g eP (eU (jn (C.mode fid).mask vals)) []) 0) (g:=g) (g':=g') (ir g eP (eU (jn (C.mode fid).mask vals)) []) (fun b hb=>hg b (by simp [hb]))
  have e4:=rC (nid:=nid) (g:=g) (g':=g') (ir g eP (eU (jn (C.mode fid).mask vals)) []) (fun b hb=>hg b (by simp [hb]))
  unfold Ep at h ⊢
  simp only at h ⊢
  rw [e1,e2,e3,e4]
  exact h
theorem HD{P:Program}{g g':Nat→Option aA}{t:TypeId}{s x:AV}{r:Nat×Nat×aA×List Bool×List Nat}(h:En P g t s x=some r)(hg:∀ b∈r.2.2.2.2,g' b=g b) :En P g' t s x=some r:=by
  unfold En at h ⊢
  split at h
  case h_2=>cases h
  rename_i e b w es i len cap ht
  split at h
  case h_2=>cases h
  rename_i inf blk m es' nb obs rs hi hb hsrc
  have hr:r.2.2.2.2=b::rs:=by
    cases h1:Nat.beq inf.size 1&&Nat.beq es' 1 with
    | false=>rw [h1] at h;cases h
    | true =>
      rw [h1] at h
      simp only [cond_true] at h
      split at h
      case h_2=>cases h
      rename_i l hl
      cases h2:fp l with
      | false=>rw [h2] at h;cases h
      | true =>
        rw [h2] at h
        simp only [cond_true,Option.map_eq_some_iff] at h
        obtain ⟨_,_,rfl⟩:=h
        rfl
  have q1:g' b=some blk:=by rw [hg b (by rw [hr];simp)];exact hb
  have q2:=qa hsrc (g':=g') (fun c hc=>hg c (by rw [hr];exact List.mem_cons_of_mem _ hc))
  rw [hi,q1,q2]
  exact h
theorem Nk{C:u9}{run:ed}{e e':Operand→AV}{g g':Nat→Option aA}{nid:Nat}{p:eI}{op:Op}{r:RL}(h:Rd C run e g nid p op=some r)(he:∀ x∈op.operands,e' x=e x)(hg:∀ b∈r.reads,g' b=g b) :
    Rd C run e' g' nid p op=some r:=by
  unfold Rd at h ⊢
  rw [FJ he]
  split at h
  · exact h
  · rename_i hp
    clear hp
    split at h
    all_goals simp only [Op.operands,Call.operands] at he
    · rename_i t x
      simp only [Option.map_eq_some_iff] at h ⊢
      obtain ⟨r',h1,rfl⟩:=h
      exact ⟨r',by rw [he x (by simp)];exact HB h1 hg,rfl⟩
    · rename_i t x v
      simp only [Option.map_eq_some_iff] at h ⊢
      obtain ⟨r',h1,rfl⟩:=h
      exact ⟨r',by rw [he x (by simp),he v (by simp)];exact FK h1 (hg _ (by simp)),rfl⟩
    · exact h
    · rename_i t x;rw [he x (by simp)];exact h
    · rename_i t l c;rw [he l (by simp),he c (by simp)];exact h
    · rename_i t parts
      have:(parts.toList.map fun x=>(x.1,e' x.2))=(parts.toList.map fun x=>(x.1,e x.2)):=List.map_congr_left fun x hx=>by rw [he x.2 (by simp;exact ⟨x.1,by simpa using hx⟩)]
      rw [this];exact h
    · rename_i t len parts
      have:(parts.toList.map fun x=>(x.1,e' x.2))=(parts.toList.map fun x=>(x.1,e x.2)):=List.map_congr_left fun x hx=>by rw [he x.2 (by simp;exact ⟨x.1,by simpa using hx⟩)]
      rw [this];exact h
    · rename_i args ats
      split at h
      case h_2=>cases h
      rename_i s x t t' e1 e2
      cases ht:Nat.beq t t' with
      | false=>rw [ht] at h;cases h
      | true =>
      rw [ht] at h
      simp only [cond_true] at h ⊢
      have ea:args = #[s,x]:=by rw [←e1]
      subst ea
      rw [he s (by simp),he x (by simp)]
      split at h
      case h_2=>cases h
      rename_i alts rs ha
      simp only [Option.map_eq_some_iff] at h ⊢
      obtain ⟨r',h1,rfl⟩:=h
      have:=Dh (g':=g') ha hg
      simp only [this,Option.map_eq_some_iff]
      exact ⟨r',h1,rfl⟩
    · rename_i args ats
      split at h
      case h_2=>cases h
      rename_i s x t t' e1 e2
      have ea:args = #[s,x]:=by rw [←e1]
      subst ea
      rw [he s (by simp),he x (by simp)]
      simp only [Option.map_eq_some_iff] at h ⊢
      obtain ⟨r',h1,rfl⟩:=h
      exact ⟨r',HD h1 hg,rfl⟩
    · rename_i f args ats
      have hf:e' f=e f:=he f (by simp)
      have hargs:args.toList.map e'=args.toList.map e:=List.map_congr_left fun x hx=>he x (by simp at hx;simp [hx])
      split at h
      case h_2=>cases h
      rename_i fid l hca
      have:wm e' f args=some (fid,l):=by
        unfold wm at hca ⊢
        rw [hf,hargs];exact hca
      simp only [this]
      split at h
      · exact h
      · exact HC h hg
    · cases h
def Ku(l:List Operand) :List Nat:=l.filterMap fun | .tmp t=>some t | _=>none
def mB(ops:Array Oper)(o:Oper) :List Nat :=
  (match o.dst with | some d=>[d] | none=>[])++(Ku o.op.operands.toList++(match o.guard with | some (j,_)=>(match tm ops j with | some d=>[d] | none=>[]) | none=>[]))
def ki(s:List (Nat×Option aA)) :List Nat:=s.map Prod.fst
def tq(ms:List Nat)(o:Oper) :Nat:=o.after.toList.foldl (fun m e=>bif Region.binds .any e then m ||| (2^e.on ||| ms.getD e.on 0) else m) 0
def Oy(x:Nat) :List Nat→Bool
  | []=>false
  | y::l=>Nat.beq x y||Oy x l
def Kv:List Nat→List Nat→Bool
  | [],_=>true
  | x::l,m=>!Oy x m&&Kv l m
theorem HE{x:Nat} :∀ {l:List Nat},Oy x l=true↔x∈l
  | []=>by simp [Oy]
  | y::l=>by simp [Oy,HE (l:=l)]
theorem tr{l m:List Nat}(h:Kv l m=true) :∀ x,x∈l→x∈m→False:=by
  induction l with
  | nil=>intro x hx;cases hx
  | cons y l ih =>
    simp only [Kv,Bool.and_eq_true,Bool.not_eq_true'] at h
    intro x hx hm
    rcases List.mem_cons.1 hx with rfl | hx
    · have:=HE.2 hm;rw [this] at h;cases h.1
    · exact ih h.2 x hx hm
def j6(ops:Array Oper)(o:Oper)(r:tl)(o':Oper)(r':tl) :Bool :=
  Kv o.dst.toList (mB ops o')&&(Kv o'.dst.toList (mB ops o)&&(Kv (ki r.sets) (r'.reads++ki r'.sets)&&Kv (ki r'.sets) (r.reads++ki r.sets)))
def rD(ops:Array Oper)(mask:Nat)(o':Oper)(r':tl) :Nat→List (Oper×tl)→Bool
  | _,[]=>true
  | i,x::l=>(mask.testBit i||j6 ops x.1 x.2 o' r')&&rD ops mask o' r' (i+1) l
def A2(ops:Array Oper) :List (Oper×tl)→List Nat→List (Oper×tl)→Bool
  | _,_,[]=>true
  | pre,ms,x::l =>
    x.1.after.toList.all (fun e=>!Region.binds .any e||Nat.blt e.on pre.length) &&
    (rD ops (tq ms x.1) x.1 x.2 0 pre&&A2 ops (pre++[x]) (ms++[tq ms x.1]) l)
def jj(L:Nat→Bool) :Nat→List (Oper×tl)→List AV×bB→List AV×bB
  | _,[],s=>s
  | i,x::l,s=>jj L (i+1) l (bif L i then (wo s.1 x.1.dst x.2.v,ct x.2.sets s.2) else s)
theorem wu(T:List AV)(d:Option Nat)(v:AV)(t:Nat) :(wo T d v)[t]? = if d=some t then (T[t]?).map (fun _=>v) else T[t]?:=by
  cases d with
  | none=>simp [wo]
  | some d =>
    simp only [wo,Option.some.injEq]
    rw [List.getElem?_set]
    by_cases h:d=t
    · subst h
      simp only [if_true]
      by_cases hl:d<T.length
      · simp [hl]
      · simp [hl]
    · simp [h]
theorem kI{h h':bB}{b:Nat} :∀ (s:List (Nat×Option aA)) {h h':bB},aO h b=aO h' b→aO (ct s h) b=aO (ct s h') b
  | [],_,_,e=>e
  | (c,some d)::s,h,h',e=>by
    simp only [ct]
    exact kI (h:=h) (h':=h') s (by rw [cR,cR,e])
  | (c,none)::s,h,h',e=>by
    simp only [ct]
    exact kI (h:=h) (h':=h') s (by rw [kd,kd,e])
theorem kJ{b:Nat} :∀ (s:List (Nat×Option aA)) {h:bB},b ∉ ki s→aO (ct s h) b=aO h b
  | [],_,_=>rfl
  | (c,some d)::s,h,hb=>by
    simp only [ki,List.map_cons,List.mem_cons,not_or] at hb
    simp only [ct]
    rw [kJ s hb.2,cR,if_neg (fun e=>hb.1 e.symm)]
  | (c,none)::s,h,hb=>by
    simp only [ki,List.map_cons,List.mem_cons,not_or] at hb
    simp only [ct]
    rw [kJ s hb.2,kd,if_neg (fun e=>hb.1 e.symm)]
theorem FL{L L':Nat→Bool}{t:Nat} :∀ (l:List (Oper×tl)) (i:Nat) {s s':List AV×bB},(∀ k x,l[k]? = some x→x.1.dst=some t→L (i+k)=L' (i+k))→s.1[t]? = s'.1[t]?→(jj L i l s).1[t]? = (jj L' i l s').1[t]?
  | [],_,_,_,_,e=>e
  | x::l,i,s,s',h,e=>by
    simp only [jj]
    refine FL l (i+1) (fun k y hy hd=>by have:=h (k+1) y (by simpa using hy) hd;rw [show i+1+k=i+(k+1) from by omega];exact this) ?_
    by_cases hd:x.1.dst=some t
    · have:=h 0 x (by simp) hd
      simp only [Nat.add_zero] at this
      rw [this]
      cases L' i with
      | true=>simp only [cond_true,wu,hd,if_true,e]
      | false=>exact e
    · cases L i<;>cases L' i<;>simp only [cond_true,cond_false,wu,if_neg hd,e]
theorem FM{L L':Nat→Bool}{b:Nat} :∀ (l:List (Oper×tl)) (i:Nat) {s s':List AV×bB},(∀ k x,l[k]? = some x→b∈ki x.2.sets→L (i+k)=L' (i+k))→aO s.2 b=aO s'.2 b→aO (jj L i l s).2 b=aO (jj L' i l s').2 b
  | [],_,_,_,_,e=>e
  | x::l,i,s,s',h,e=>by
    simp only [jj]
    refine FM l (i+1) (fun k y hy hd=>by have:=h (k+1) y (by simpa using hy) hd;rw [show i+1+k=i+(k+1) from by omega];exact this) ?_
    by_cases hd:b∈ki x.2.sets
    · have:=h 0 x (by simp) hd
      simp only [Nat.add_zero] at this
      rw [this]
      cases L' i with
      | true=>simp only [cond_true];exact kI (h:=s.2) (h':=s'.2) _ e
      | false=>exact e
    · cases L i<;>cases L' i<;>simp only [cond_true,cond_false,kJ _ hd,e]
def ch:List (Oper×tl)→List AV×bB→List AV×bB
  | [],s=>s
  | x::l,s=>ch l (wo s.1 x.1.dst x.2.v,ct x.2.sets s.2)
theorem A3(l m:List (Oper×tl))(s:List AV×bB) :ch (l++m) s=ch m (ch l s):=by
  induction l generalizing s with
  | nil=>rfl
  | cons x l ih=>simp only [List.cons_append,ch,ih]
theorem As:∀ (l:List (Oper×tl)) (i j:Nat) (s:List AV×bB),jj (fun k=>decide (k<i+j)) i l s=ch (l.take j) s
  | [],i,j,s=>by simp [jj,ch]
  | x::l,i,0,s=>by
    have:∀ (l:List (Oper×tl)) (i':Nat),i≤i'→∀ s,jj (fun k=>decide (k<i+0)) i' l s=s:=by
      intro l
      induction l with
      | nil=>intro _ _ s;rfl
      | cons y l ih =>
        intro i' hi s
        simp only [jj]
        have:decide (i'<i+0)=false:=by simp;omega
        rw [this];exact ih (i'+1) (by omega) s
    simp only [List.take_zero,ch]
    exact this _ i (Nat.le_refl _) s
  | x::l,i,j+1,s=>by
    simp only [jj,List.take_succ_cons,ch]
    have h1:decide (i<i+(j+1))=true:=by simp
    rw [h1]
    simp only [cond_true]
    have:=As l (i+1) j (wo s.1 x.1.dst x.2.v,ct x.2.sets s.2)
    rw [show i+1+j=i+(j+1) from by omega] at this
    exact this
structure Oz (ops:Array Oper) (l:List (Oper×tl)) (ms:List Nat):Prop where
  edge:∀ (j:Nat) (x:Oper×tl),l[j]? = some x→∀ e∈x.1.after,Region.binds .any e=true→e.on<j
  mask:∀ (j:Nat) (x:Oper×tl),l[j]? = some x→∃ m:Nat,ms[j]? = some m∧∀ i:Nat,m.testBit i=true→∃ e∈x.1.after,Region.binds .any e=true∧(e.on=i∨∃ m':Nat,ms[e.on]? = some m'∧m'.testBit i=true)
  pair:∀ (i j:Nat) (x y:Oper×tl),l[i]? = some x→l[j]? = some y→i<j→(∃ m:Nat,ms[j]? = some m∧m.testBit i=true)∨j6 ops x.1 x.2 y.1 y.2=true
theorem A4(ms:List Nat) :∀ (es:List Edge) (m0 i:Nat),(es.foldl (fun m e=>bif Region.binds .any e then m ||| (2^e.on ||| ms.getD e.on 0) else m) m0).testBit i=true →
    m0.testBit i=true∨∃ e∈es,Region.binds .any e=true∧(e.on=i∨(ms.getD e.on 0).testBit i=true)
  | [],m0,i,h=>.inl h
  | e::es,m0,i,h=>by
    simp only [List.foldl_cons] at h
    rcases A4 ms es _ i h with h | ⟨e',h1,h2,h3⟩
    · cases hb:Region.binds .any e with
      | false=>rw [hb] at h;exact .inl h
      | true =>
        rw [hb] at h
        simp only [cond_true,Nat.testBit_or,Bool.or_eq_true,Nat.testBit_two_pow,decide_eq_true_eq] at h
        rcases h with h | h | h
        · exact .inl h
        · exact .inr ⟨e,by simp,hb,.inl h⟩
        · exact .inr ⟨e,by simp,hb,.inr h⟩
    · exact .inr ⟨e',by simp [h1],h2,h3⟩
theorem ut{ops:Array Oper}{mask:Nat}{o':Oper}{r':tl} :∀ {l:List (Oper×tl)} {i:Nat},rD ops mask o' r' i l=true→∀ k x,l[k]? = some x→mask.testBit (i+k)=true∨j6 ops x.1 x.2 o' r'=true
  | [],_,_,k,x,h=>by simp at h
  | y::l,i,h,0,x,hx=>by
    simp only [rD,Bool.and_eq_true,Bool.or_eq_true] at h
    simp at hx;subst hx;simpa using h.1
  | y::l,i,h,k+1,x,hx=>by
    simp only [rD,Bool.and_eq_true,Bool.or_eq_true] at h
    have:=ut h.2 k x (by simpa using hx)
    rw [show i+1+k=i+(k+1) from by omega] at this;exact this
theorem yR{ops:Array Oper} :∀ (l pre:List (Oper×tl)) (ms:List Nat),ms.length=pre.length→A2 ops pre ms l=true→Oz ops pre ms→∃ ms',Oz ops (pre++l) ms'
  | [],pre,ms,_,_,D=>⟨ms,by simpa using D⟩
  | x::l,pre,ms,hl,h,D=>by
    simp only [A2,Bool.and_eq_true] at h
    obtain ⟨h1,h2,h3⟩:=h
    have:=yR l (pre++[x]) (ms++[tq ms x.1]) (by simp [hl]) h3 ?_
    · simpa using this
    have old:∀ (j:Nat) (y:Oper×tl),(pre++[x])[j]? = some y→(j<pre.length∧pre[j]? = some y)∨(j=pre.length∧y=x):=by
      intro j y hy
      rw [List.getElem?_append] at hy
      split at hy
      · rename_i q;exact .inl ⟨q,hy⟩
      · rename_i q
        have:j-pre.length=0:=by
          rcases Nat.eq_zero_or_pos (j-pre.length) with r | r
          · exact r
          · rw [List.getElem?_eq_none (by simp;omega)] at hy;cases hy
        rw [this] at hy;simp at hy;exact .inr ⟨by omega,hy.symm⟩
    have msl:∀ (j m:Nat),ms[j]? = some m→(ms++[tq ms x.1])[j]? = some m:=by
      intro j m hm
      rw [List.getElem?_append_left (List.getElem?_eq_some_iff.1 hm).1];exact hm
    have msn:(ms++[tq ms x.1])[pre.length]? = some (tq ms x.1):=by
      rw [←hl,List.getElem?_append_right (Nat.le_refl _)];simp
    have hedge:∀ e∈x.1.after,Region.binds .any e=true→e.on<pre.length:=by
      intro e he hb
      have:=List.all_eq_true.1 h1 e (by simpa using he)
      rw [hb] at this
      simpa [Nat.blt_eq] using this
    refine ⟨fun j y hy=>?_,fun j y hy=>?_,fun i j a b ha hb hij=>?_⟩
    · rcases old j y hy with ⟨q,hy⟩ | ⟨rfl,rfl⟩
      · exact D.edge j y hy
      · exact hedge
    · rcases old j y hy with ⟨q,hy⟩ | ⟨rfl,rfl⟩
      · obtain ⟨m,k1,k2⟩:=D.mask j y hy
        refine ⟨m,msl j m k1,fun i hi=>?_⟩
        obtain ⟨e,e1,e2,e3⟩:=k2 i hi
        exact ⟨e,e1,e2,e3.imp id fun ⟨m',q1,q2⟩=>⟨m',msl _ m' q1,q2⟩⟩
      · refine ⟨_,msn,fun i hi=>?_⟩
        rcases A4 ms y.1.after.toList 0 i hi with q | ⟨e,e1,e2,e3⟩
        · simp at q
        · refine ⟨e,by simpa using e1,e2,e3.imp id fun q=>?_⟩
          rw [List.getD_eq_getElem?_getD] at q
          cases hm:ms[e.on]? with
          | none=>rw [hm] at q;simp at q
          | some m'=>rw [hm] at q;exact ⟨m',msl _ m' hm,q⟩
    · rcases old j b hb with ⟨q,hb⟩ | ⟨rfl,rfl⟩
      · rcases old i a ha with ⟨q',ha⟩ | ⟨rfl,rfl⟩
        · exact (D.pair i j a b ha hb hij).imp (fun ⟨m,k1,k2⟩=>⟨m,msl j m k1,k2⟩) id
        · omega
      · rcases old i a ha with ⟨q',ha⟩ | ⟨rfl,rfl⟩
        · have:=ut h2 i a ha
          rw [Nat.zero_add] at this
          exact this.imp (fun k=>⟨_,msn,k⟩) id
        · omega
theorem Kw{l:List Operand}{t:Nat}(h:Operand.tmp t∈l) :t∈Ku l:=by
  simp only [Ku,List.mem_filterMap];exact ⟨_,h,rfl⟩
theorem HF{C:u9}{run:ed}{ops:Array Oper}{n0 i:Nat}{o:Oper}{T T':List AV}{h h':bB}{p p':eI}{r:tl}{obs:List Bool}(hr:wn C run ops n0 i o T h p=some (r,obs,p')) 
    (hT:∀ t∈mB ops o,T'[t]? = T[t]?) (hh:∀ b∈r.reads,aO h' b=aO h b):wn C run ops n0 i o T' h' p=some (r,obs,p'):=by
  have hw:tn ops o T'=tn ops o T:=by
    unfold tn
    cases hg:o.guard with
    | none=>rfl
    | some x =>
      obtain ⟨j,want⟩:=x
      simp only
      cases hs:tm ops j with
      | none=>rfl
      | some d=>simp only;rw [hT d (by simp [mB,hg,hs])]
  unfold wn at hr ⊢
  rw [hw]
  split at hr
  · cases hr
  · exact hr
  · split at hr
    · cases hr
    · rename_i r' hop
      have:Rd C run (PU T') (aO h') (n0+i*lJ) p o.op=some r':=by
        refine Nk hop (fun x hx=>?_) (fun b hb=>?_)
        · cases x with
          | tmp t=>simp only [PU];rw [hT t (by simp only [mB,List.mem_append];exact .inr (.inl (Kw (by simpa using hx))))]
          | _=>rfl
        · apply hh
          split at hr
          · cases hr
          · simp only [Option.some.injEq,Prod.mk.injEq] at hr;rw [←hr.1];exact hb
      simp only [this]
      exact hr
def A5(C:u9)(run:ed)(ops:Array Oper)(n0:Nat) :Nat→List Oper→List AV→bB→eI→Option (List tl×List AV×bB×List Bool×eI)
  | _,[],T,h,p=>some ([],T,h,[],p)
  | i,o::l,T,h,p =>
    match wn C run ops n0 i o T h p with
    | none=>none
    | some (r,obs,p') =>
      match A5 C run ops n0 (i+1) l (wo T o.dst r.v) (ct r.sets h) p' with
      | none=>none
      | some (rs,T',h',obs',p'')=>some (r::rs,T',h',obs++obs',p'')
theorem yS{C:u9}{run:ed}{ops:Array Oper}{n0:Nat} :∀ (l:List Oper) (i:Nat) {T T':List AV} {h h':bB} {p p':eI} {obs:List Bool} {rs:List tl},A5 C run ops n0 i l T h p=some (rs,T',h',obs,p')→az obs →
    rs.length=l.length∧ch (l.zip rs) (T,h)=(T',h')∧∀ (j:Nat) (o:Oper),l[j]? = some o→∃ r obs' q q',rs[j]? = some r∧az obs' ∧
      wn C run ops n0 (i+j) o (ch ((l.zip rs).take j) (T,h)).1 (ch ((l.zip rs).take j) (T,h)).2 q=some (r,obs',q')
  | [],i,T,T',h,h',p,p',obs,rs,hr,_=>by
    simp only [A5,Option.some.injEq,Prod.mk.injEq] at hr;obtain ⟨rfl,rfl,rfl,rfl,rfl⟩:=hr
    exact ⟨rfl,rfl,fun j o h=>by simp at h⟩
  | o::l,i,T,T',h,h',p,p',obs,rs,hr,ho=>by
    simp only [A5] at hr
    split at hr
    case h_1=>cases hr
    rename_i r obs1 p1 h1
    split at hr
    case h_1=>cases hr
    rename_i rs2 T2 h2 obs2 p2 h3
    simp only [Option.some.injEq,Prod.mk.injEq] at hr;obtain ⟨rfl,rfl,rfl,rfl,rfl⟩:=hr
    rw [aV] at ho
    obtain ⟨a1,a2,a3⟩:=yS l (i+1) h3 ho.2
    refine ⟨by simp [a1],by simpa [ch] using a2,fun j o' hj=>?_⟩
    cases j with
    | zero=>simp at hj;subst hj;exact ⟨r,obs1,p,p1,by simp,ho.1,by simpa [ch] using h1⟩
    | succ j =>
      obtain ⟨r',ob,q,q',b1,b2,b3⟩:=a3 j o' (by simpa using hj)
      refine ⟨r',ob,q,q',by simpa using b1,b2,?_⟩
      rw [show i+(j+1)=i+1+j from by omega]
      simpa [ch] using b3
theorem Er{p q:Nat→Bool} :∀ {l:List Nat} {j:Nat},j∈l→p j=true→q j=false→(∀ i,q i=true→p i=true)→l.countP q<l.countP p
  | [],_,h,_,_,_=>by cases h
  | x::l,j,h,hp,hq,hi=>by
    have mono:∀ l:List Nat,l.countP q≤l.countP p:=fun l=>List.countP_mono_left fun x _=>hi x
    simp only [List.countP_cons]
    rcases List.mem_cons.1 h with rfl | h
    · rw [hp,hq];have:=mono l;simp;omega
    · have:=Er h hp hq hi
      by_cases hx:q x=true
      · rw [hx,hi x hx];omega
      · have hq':q x=false:=by simpa using hx
        rw [hq'];simp only [Bool.false_eq_true,if_false];split<;>omega
theorem PX{i j y:Nat}(h1:i*lJ≤y)(h2:y<i*lJ+lJ)(h3:j*lJ≤y)(h4:y<j*lJ+lJ) :i=j:=by
  have hS:0<lJ:=by decide
  have a:y/lJ=i:=by rw [Nat.div_eq_iff hS];omega
  have b:y/lJ=j:=by rw [Nat.div_eq_iff hS];omega
  omega
theorem OA{C:u9}(hC:C.Ok){run:ed}(hrun:AX C.P run){ops:Array Oper}{n0:Nat}{T0:List AV}{h0:bB}{rs:List tl}{ms:List Nat}(D:Oz ops (ops.toList.zip rs) ms)(hlen:rs.length=ops.size) 
    (each:∀ (j:Nat) (o:Oper),ops.toList[j]? = some o→∃ r obs' q q',rs[j]? = some r∧az obs' ∧
      wn C run ops n0 j o (ch ((ops.toList.zip rs).take j) (T0,h0)).1 (ch ((ops.toList.zip rs).take j) (T0,h0)).2 q=some (r,obs',q'))
    {Q:Exit→Act→World→Prop}:∀ (fuel:Nat) (listed:Array Bool),listed.size=ops.size→(∀ (j:Nat) (o:Oper),ops[j]? = some o→listed.getD j false=true→∀ e∈o.after,Region.binds .any e=true→listed.getD e.on false=true) →
      (List.range ops.size).countP (fun i=>!listed.getD i false)≤fuel→∀ {ρ:ah} {w:World} {a:Act},HR ρ w (jj (fun i=>listed.getD i false) 0 (ops.toList.zip rs) (T0,h0)).2 (n0+ops.size*lJ) →
      (∀ b,ρ.ok b→b<n0∨∃ i,listed.getD i false=true∧n0+i*lJ≤b∧b<n0+i*lJ+lJ)→a.defers=[]→di ρ w (jj (fun i=>listed.getD i false) 0 (ops.toList.zip rs) (T0,h0)).1 a.tmps.toList →
      (∀ ρ' w' a',ji ρ ρ' w→fR ρ.live w w'→HR ρ' w' (ch (ops.toList.zip rs) (T0,h0)).2 (n0+ops.size*lJ)→a'.defers=[]→di ρ' w' (ch (ops.toList.zip rs) (T0,h0)).1 a'.tmps.toList→(∀ b,ρ'.ok b→ρ.ok b∨n0≤b)→Q .normal a' w') →
      wpAny C.P .any ops Q fuel listed a w:=by
  have hzl:(ops.toList.zip rs).length=ops.size:=by simp [hlen]
  have zget:∀ (j:Nat) (o:Oper) (r:tl),ops[j]? = some o→rs[j]? = some r→(ops.toList.zip rs)[j]? = some (o,r):=by
    intro j o r h1 h2
    rw [List.getElem?_zip_eq_some];exact ⟨by simpa using h1,h2⟩
  have zinv:∀ (j:Nat) (x:Oper×tl),(ops.toList.zip rs)[j]? = some x→ops[j]? = some x.1∧rs[j]? = some x.2:=by
    intro j x hx
    have:=List.getElem?_zip_eq_some.1 (show (ops.toList.zip rs)[j]? = some (x.1,x.2) from hx)
    exact ⟨by simpa using this.1,this.2⟩

  have allL:∀ (listed:Array Bool),listed.size=ops.size→(∀ i,i<ops.size→listed.getD i false=true)→jj (fun i=>listed.getD i false) 0 (ops.toList.zip rs) (T0,h0)=ch (ops.toList.zip rs) (T0,h0):=by
    intro listed hs hall
    have:∀ (l:List (Oper×tl)) (i:Nat) (s:List AV×bB),i+l.length≤ops.size→jj (fun i=>listed.getD i false) i l s=ch l s:=by
      intro l
      induction l with
      | nil=>intro _ _ _;rfl
      | cons x l ih =>
        intro i s hi
        simp only [List.length_cons] at hi
        simp only [jj,ch]
        rw [hall i (by omega)]
        exact ih (i+1) _ (by omega)
    exact this _ 0 _ (by rw [hzl];omega)

  have down:∀ (listed:Array Bool),(∀ (j:Nat) (o:Oper),ops[j]? = some o→listed.getD j false=true→∀ e∈o.after,Region.binds .any e=true→listed.getD e.on false=true) →
      ∀ (j:Nat) (o:Oper),ops[j]? = some o→(∀ e∈o.after,Region.binds .any e=true→listed.getD e.on false=true)→∀ (i m:Nat),ms[j]? = some m→m.testBit i=true→listed.getD i false=true:=by
    intro listed hcl j
    induction j using Nat.strongRecOn with
    | _ j ih =>
      intro o ho hpre i m hm hbit
      have hlt:j<ops.size:=(Array.getElem?_eq_some_iff.1 ho).1
      obtain ⟨r,hr⟩:∃ r,rs[j]? = some r:=⟨rs[j]'(by omega),List.getElem?_eq_getElem (by omega)⟩
      have hz:=zget j o r ho hr
      obtain ⟨m',k1,k2⟩:=D.mask j _ hz
      rw [hm] at k1;cases k1
      obtain ⟨e,e1,e2,e3⟩:=k2 i hbit
      have hL:=hpre e e1 e2
      rcases e3 with rfl | ⟨m'',q1,q2⟩
      · exact hL
      · have hej:=D.edge j _ hz e e1 e2
        have hon:e.on<ops.size:=by omega
        exact ih e.on hej _ (Array.getElem?_eq_getElem hon) (hcl e.on _ (Array.getElem?_eq_getElem hon) hL) i m'' q1 q2
  intro fuel
  induction fuel with
  | zero =>
    intro listed hs hcl hcnt ρ w a hh hok hd hT hQ
    have hall:∀ i,i<ops.size→listed.getD i false=true:=by
      intro i hi
      have h0:=List.countP_eq_zero.1 (Nat.le_zero.1 hcnt) i (List.mem_range.2 hi)
      simpa using h0
    simp only [wpAny]
    refine ⟨?_,?_⟩
    · cases hr:Region.ready .any ops listed with
      | nil=>rfl
      | cons x xs =>
        have hx:x∈Region.ready .any ops listed:=by rw [hr];simp
        obtain ⟨k1,o,k2,_⟩:=mem_ready.1 hx
        have hlt:x<ops.size:=(Array.getElem?_eq_some_iff.1 k2).1
        have:=hall x hlt
        rw [Array.getD_eq_getD_getElem?,Array.getElem?_eq_getElem (by omega)] at this k1
        simp only [Option.getD_some] at this k1
        rw [this] at k1;cases k1
    · rw [allL listed hs hall] at hh hT
      exact hQ ρ w a (ji.refl _ _) (fR.refl _ _) hh hd hT (fun b q=>.inl q)
  | succ fuel ih =>
    intro listed hs hcl hcnt ρ w a hh hok hd hT hQ
    simp only [wpAny]
    have sameD:∀ j,j<ops.size→listed.getD j true=listed.getD j false:=by
      intro j hj
      rw [Array.getD_eq_getD_getElem?,Array.getD_eq_getD_getElem?,Array.getElem?_eq_getElem (by omega)];rfl
    refine ⟨fun hr=>?_,fun j hj=>?_⟩
    · have hall:∀ i,i<ops.size→listed.getD i false=true:=by
        intro i
        induction i using Nat.strongRecOn with
        | _ i ihi =>
          intro hi
          cases hl:listed.getD i false with
          | true=>rfl
          | false =>
            have ho:=Array.getElem?_eq_getElem hi
            obtain ⟨r,hrr⟩:∃ r,rs[i]? = some r:=⟨rs[i]'(by omega),List.getElem?_eq_getElem (by omega)⟩
            have hz:=zget i _ r ho hrr
            have:i∈Region.ready .any ops listed:=mem_ready.2 ⟨by rw [sameD i hi];exact hl,_,ho,fun e he hb=>ihi e.on (D.edge i _ hz e he hb) (by have:=D.edge i _ hz e he hb;omega)⟩
            rw [hr] at this;cases this
      rw [allL listed hs hall] at hh hT
      exact hQ ρ w a (ji.refl _ _) (fR.refl _ _) hh hd hT (fun b q=>.inl q)
    · obtain ⟨k1,o,ho,hpre⟩:=mem_ready.1 hj
      have hlt:j<ops.size:=(Array.getElem?_eq_some_iff.1 ho).1
      rw [sameD j hlt] at k1
      obtain ⟨r,obs',q,q',hr,hob,hone⟩:=each j o (by simpa using ho)
      have hz:=zget j o r ho hr

      have agree:∀ (i:Nat) (x:Oper×tl),(ops.toList.zip rs)[i]? = some x→i≠j→j6 ops x.1 x.2 o r=false→j6 ops o r x.1 x.2=false→listed.getD i false=decide (i<j):=by
        intro i x hx hne n1 n2
        have hxi:=zinv i x hx
        rcases Nat.lt_or_gt_of_ne hne with hij | hij
        · rcases D.pair i j x (o,r) hx hz hij with ⟨m,hm,hb⟩ | hap
          · rw [down listed hcl j o ho hpre i m hm hb];simp [hij]
          · simp only at hap;rw [n1] at hap;cases hap
        · rcases D.pair j i (o,r) x hz hx hij with ⟨m,hm,hb⟩ | hap
          · have : ¬ i<j:=by omega
            simp only [this,decide_false]
            cases hl:listed.getD i false with
            | false=>rfl
            | true =>
              have:=down listed hcl i x.1 hxi.1 (hcl i x.1 hxi.1 hl) j m hm hb
              rw [k1] at this;cases this
          · simp only at hap;rw [n2] at hap;cases hap
      have napT:∀ (x:Oper×tl) (t:Nat),x.1.dst=some t→t∈mB ops o→j6 ops x.1 x.2 o r=false∧j6 ops o r x.1 x.2=false:=by
        intro x t hdst ht
        constructor
        · cases hap:j6 ops x.1 x.2 o r with
          | false=>rfl
          | true=>simp only [j6,Bool.and_eq_true] at hap;exact (tr hap.1 t (by simp [hdst]) ht).elim
        · cases hap:j6 ops o r x.1 x.2 with
          | false=>rfl
          | true=>simp only [j6,Bool.and_eq_true] at hap;exact (tr hap.2.1 t (by simp [hdst]) ht).elim
      have napH:∀ (x:Oper×tl) (b:Nat),b∈ki x.2.sets→b∈r.reads++ki r.sets→j6 ops x.1 x.2 o r=false∧j6 ops o r x.1 x.2=false:=by
        intro x b hx hb
        constructor
        · cases hap:j6 ops x.1 x.2 o r with
          | false=>rfl
          | true=>simp only [j6,Bool.and_eq_true] at hap;exact (tr hap.2.2.1 b hx hb).elim
        · cases hap:j6 ops o r x.1 x.2 with
          | false=>rfl
          | true=>simp only [j6,Bool.and_eq_true] at hap;exact (tr hap.2.2.2 b hx hb).elim
      have eqT:∀ t∈mB ops o,(jj (fun i=>listed.getD i false) 0 (ops.toList.zip rs) (T0,h0)).1[t]? = (ch ((ops.toList.zip rs).take j) (T0,h0)).1[t]?:=by
        intro t ht
        have:=As (ops.toList.zip rs) 0 j (T0,h0)
        rw [←this]
        refine FL _ 0 (fun k x hx hdst=>?_) rfl
        rw [Nat.zero_add,Nat.zero_add]
        by_cases hkj:k=j
        · subst hkj;rw [k1];simp
        · obtain ⟨n1,n2⟩:=napT x t hdst ht;exact agree k x hx hkj n1 n2
      have eqH:∀ b∈r.reads++ki r.sets,aO (jj (fun i=>listed.getD i false) 0 (ops.toList.zip rs) (T0,h0)).2 b=aO (ch ((ops.toList.zip rs).take j) (T0,h0)).2 b:=by
        intro b hb
        have:=As (ops.toList.zip rs) 0 j (T0,h0)
        rw [←this]
        refine FM _ 0 (fun k x hx dk=>?_) rfl
        rw [Nat.zero_add,Nat.zero_add]
        by_cases hkj:k=j
        · subst hkj;rw [k1];simp
        · obtain ⟨n1,n2⟩:=napH x b dk hb;exact agree k x hx hkj n1 n2
      have hloc:=HF hone eqT (fun b hb=>eqH b (by simp [hb]))

      have L'eq:∀ i,(listed.setIfInBounds j true).getD i false=if i=j then true else listed.getD i false:=by
        intro i
        by_cases hij:i=j
        · subst hij;rw [if_pos rfl,Array.getD_eq_getD_getElem?];simp [hs,hlt]
        · rw [if_neg hij];exact getD_set_ne false (fun e=>hij e.symm)
      have step1:=As (ops.toList.zip rs) 0 (j+1) (T0,h0)
      have hsplit:ch ((ops.toList.zip rs).take (j+1)) (T0,h0)=(wo (ch ((ops.toList.zip rs).take j) (T0,h0)).1 o.dst r.v,ct r.sets (ch ((ops.toList.zip rs).take j) (T0,h0)).2):=by
        have hjl:j<(ops.toList.zip rs).length:=by rw [hzl];exact hlt
        have:(ops.toList.zip rs).take (j+1)=(ops.toList.zip rs).take j++[(o,r)]:=by
          rw [List.take_succ_eq_append_getElem hjl]
          have:=List.getElem?_eq_getElem hjl
          rw [hz] at this
          rw [←Option.some.inj this]
        rw [this,A3];rfl
      have newT:∀ t:Nat,(wo (jj (fun i=>listed.getD i false) 0 (ops.toList.zip rs) (T0,h0)).1 o.dst r.v)[t]? = (jj (fun i=>(listed.setIfInBounds j true).getD i false) 0 (ops.toList.zip rs) (T0,h0)).1[t]?:=by
        intro t
        rw [wu]
        by_cases hdst:o.dst=some t
        · rw [if_pos hdst]
          have e1:=eqT t (by simp [mB,hdst])
          rw [e1]
          have e2:(jj (fun i=>(listed.setIfInBounds j true).getD i false) 0 (ops.toList.zip rs) (T0,h0)).1[t]? = (ch ((ops.toList.zip rs).take (j+1)) (T0,h0)).1[t]?:=by
            rw [←step1]
            refine FL _ 0 (fun k x hx hd2=>?_) rfl
            rw [Nat.zero_add,Nat.zero_add,L'eq]
            by_cases hkj:k=j
            · subst hkj;simp
            · rw [if_neg hkj]
              obtain ⟨n1,n2⟩:=napT x t hd2 (by simp [mB,hdst])
              rw [agree k x hx hkj n1 n2]
              by_cases q:k<j<;>simp [q]<;>omega
          rw [e2,hsplit,wu,if_pos hdst]
        · rw [if_neg hdst]
          refine FL _ 0 (fun k x hx hd2=>?_) rfl
          rw [Nat.zero_add,L'eq]
          by_cases hkj:k=j
          · subst hkj;rw [hz] at hx;cases hx;exact absurd hd2 hdst
          · rw [if_neg hkj]
      have newH:∀ b:Nat,aO (jj (fun i=>(listed.setIfInBounds j true).getD i false) 0 (ops.toList.zip rs) (T0,h0)).2 b=aO (ct r.sets (jj (fun i=>listed.getD i false) 0 (ops.toList.zip rs) (T0,h0)).2) b:=by
        intro b
        by_cases hb:b∈ki r.sets
        · rw [kI (h:=(jj (fun i=>listed.getD i false) 0 (ops.toList.zip rs) (T0,h0)).2) (h':=(ch ((ops.toList.zip rs).take j) (T0,h0)).2) r.sets (eqH b (by simp [hb]))]
          have e2:aO (jj (fun i=>(listed.setIfInBounds j true).getD i false) 0 (ops.toList.zip rs) (T0,h0)).2 b=aO (ch ((ops.toList.zip rs).take (j+1)) (T0,h0)).2 b:=by
            rw [←step1]
            refine FM _ 0 (fun k x hx hd2=>?_) rfl
            rw [Nat.zero_add,Nat.zero_add,L'eq]
            by_cases hkj:k=j
            · subst hkj;simp
            · rw [if_neg hkj]
              obtain ⟨n1,n2⟩:=napH x b hd2 (by simp [hb])
              rw [agree k x hx hkj n1 n2]
              by_cases q:k<j<;>simp [q]<;>omega
          rw [e2,hsplit]
        · rw [kJ _ hb]
          refine FM _ 0 (fun k x hx hd2=>?_) rfl
          rw [Nat.zero_add,L'eq]
          by_cases hkj:k=j
          · subst hkj;rw [hz] at hx;cases hx;exact absurd hd2 hb
          · rw [if_neg hkj]
      have hS:j*lJ+lJ≤ops.size*lJ:=by rw [←Nat.succ_mul];exact Nat.mul_le_mul_right _ hlt
      refine yQ hC hrun ho hloc hob hh (fun x h1 h2 hbad=>?_) (by omega) hd hT ?_
      · rcases hok _ hbad with q | ⟨i,q1,q2,q3⟩
        · omega
        · have:i=j:=PX (y:=x-n0) (by omega) (by omega) (by omega) (by omega)
          subst this;rw [k1] at q1;cases q1
      intro ρ' w' a' E W hh' hd' hT' hok'
      have hlist:wo (jj (fun i=>listed.getD i false) 0 (ops.toList.zip rs) (T0,h0)).1 o.dst r.v=(jj (fun i=>(listed.setIfInBounds j true).getD i false) 0 (ops.toList.zip rs) (T0,h0)).1:=List.ext_getElem? newT
      rw [hlist] at hT'
      refine ih (listed.setIfInBounds j true) (by simpa using hs) (fun i x hx hl e he hb=>?_) ?_ (hh'.congr newH) (fun b hb=>?_) hd' hT' ?_
      · rw [L'eq] at hl ⊢
        by_cases hij:i=j
        · subst hij
          rw [ho] at hx;cases hx
          split
          · rfl
          · exact hpre e he hb
        · rw [if_neg hij] at hl
          split
          · rfl
          · exact hcl i x hx hl e he hb
      · have:=Er (l:=List.range ops.size) (j:=j) (p:=fun i=>!listed.getD i false) (q:=fun i=>!(listed.setIfInBounds j true).getD i false) (List.mem_range.2 hlt) (by simp only [k1];rfl) (by simp only [L'eq,if_true];rfl)
          (fun i hi=>by
            simp only [L'eq] at hi ⊢
            split at hi
            · cases hi
            · exact hi)
        omega
      · rcases hok' b hb with q | q
        · rcases hok b q with q | ⟨i,q1,q2⟩
          · exact .inl q
          · refine .inr ⟨i,?_,q2⟩
            rw [L'eq];split
            · rfl
            · exact q1
        · exact .inr ⟨j,by rw [L'eq,if_pos rfl],q⟩
      · intro ρ'' w'' a'' E' W' hh'' hd'' hT'' hb''
        exact hQ ρ'' w'' a'' (E.trans E' W.size) (W.trans W' (fun x hx q=>E.new x hx q)) hh'' hd'' hT'' (fun b q=>by
          rcases hb'' b q with q | q
          · rcases hok' b q with q | q
            · exact .inl q
            · exact .inr (by omega)
          · exact .inr q)
theorem oZ{d:aA}(h:d.kept=true) :d.foreign=true:=by
  cases d<;>first | rfl | exact eT h
mutual
def Es (g:Nat→Option aA):Nat→AV→AV
  | 0,_=>.any
  | n+1,v =>
    match v with
    | .ptr b w i j=>match g b with
      | some d=>let d':=rE g n d;bif d'.kept then .iptr .free d' w i j else .any
      | none=>.any
    | .sl b w es i len _=>match g b with
      | some d=>let d':=rE g n d;bif d'.kept then .imm .free d' w es i len else .any
      | none=>.any
    | .fn f l1 l2=>.fn f (A6 g n l1) (A6 g n l2)
    | .agg l=>.agg (A6 g n l)
    | .tup l=>.tup (A6 g n l)
    | .iface t v=>.iface t (Es g n v)
    | v=>v
def A6 (g:Nat→Option aA):Nat→List AV→List AV
  | 0,l=>l.map fun _=>.any
  | n+1,l =>
    match l with
    | []=>[]
    | v::l=>Es g n v::A6 g n l
def rE (g:Nat→Option aA):Nat→aA→aA
  | 0,_=>.vs []
  | n+1,d =>
    match d with
    | .vs l=>.vs (A6 g n l)
    | d=>d
end
theorem A7(g:Nat→Option aA)(n:Nat)(d:aA)(h:d.recKept) :(rE g n d).recKept:=by
  cases n with
  | zero=>trivial
  | succ n=>cases d<;>first | exact h | trivial
structure Nl (ρ τ:ah):Prop where
  out:τ.out=ρ.out
  live:∀ bl,τ.live bl→ρ.live bl
theorem Nl.avoid{ρ τ:ah}(L:Nl ρ τ){l:Lv}{bl:Nat}(h:ρ.avoid l bl) :τ.avoid l bl:=by
  refine pT (d:=0) (fun j _ q=>?_) h
  cases j with
  | zero=>exact L.live bl q
  | succ j=>simp only [Nat.add_zero,ah.own] at q ⊢;rw [L.out] at q;exact q
theorem dP{ρ τ:ah}(L:Nl ρ τ){w:World}{v:AV}{u:Value}(h:VR ρ w v u) :v.foreign=true→VR τ w v u:=by
  induction h using VR.rec (motive_2:=fun l c _=>bp l=true→di τ w l c) with
  | int k n=>exact fun _=>.int k n
  | bool kn b=>exact fun _=>.bool kn b
  | flt ex x y h=>exact fun _=>.flt ex x y h
  | str s=>exact fun _=>.str s
  | nptr=>exact fun _=>.nptr
  | ptr b k i j hb=>intro hk;simp [AV.foreign] at hk
  | iptr bw d k i j bl o u ha hb hc hv hr hk hg ih=>exact fun _=>.iptr bw d k i j bl o u (L.avoid ha) hb hc (fun x v hx=>ih x v hx (aT hr hg x v hx)) hr hk hg
  | nsl=>exact fun _=>.nsl
  | esl a=>exact fun _=>.esl a
  | zsl a c=>exact fun _=>.zsl a c
  | nan n h=>exact fun _=>.nan n h
  | sl b k es i len cap cap' hb hcap hl c t hh hs=>intro hk;simp [AV.foreign] at hk
  | slEnd b k es i a=>intro hk;simp [AV.foreign] at hk
  | imm bw d k es i len cap bl o u ha hb hc hv hl hr hk hg ih=>exact fun _=>.imm bw d k es i len cap bl o u (L.avoid ha) hb hc (fun x v hx=>ih x v hx (aT hr hg x v hx)) hl hr hk hg
  | immEnd bw d k es i cap a hr hk hg=>exact fun _=>.immEnd bw d k es i cap a hr hk hg
  | fn f l1 l2 c1 c2 h1 h2 i1 i2=>intro hk;simp only [AV.foreign,Bool.and_eq_true] at hk;exact .fn f l1 l2 c1 c2 (i1 hk.1) (i2 hk.2)
  | nfn=>exact fun _=>.nfn
  | agg l c h ih=>intro hk;exact .agg l c (ih hk)
  | tup l c h ih=>intro hk;exact .tup l c (ih hk)
  | iface t v u h ih=>intro hk;exact .iface t v u (ih hk)
  | niface=>exact fun _=>.niface
  | any u=>exact fun _=>.any u
  | nil=>exact di.nil
  | cons v u l c h t i1 i2=>rename_i hk;simp only [bp,Bool.and_eq_true] at hk;exact di.cons v u l c (i1 hk.1) (i2 hk.2)
mutual
theorem FO {ρ τ:ah} (L:Nl ρ τ) {w:World} {h:bB} {m:Nat} (hh:HR ρ w h m) (off:∀ b d,aO h b=some d→ρ.ok b→¬ τ.live (ρ.at_ b)):∀ (n:Nat) {v:AV} {u:Value},VR ρ w v u→VR τ w (Es (aO h) n v) u
  | 0,v,u,hv=>.any u
  | n + 1, v, u, hv => by
    have free:∀ (b:Nat) (d:aA),aO h b=some d→ρ.ok b→τ.avoid .free (ρ.at_ b):=by
      intro b d hd hok j _
      cases j with
      | zero=>exact off b d hd hok
      | succ j=>simp only [ah.own];rw [L.out];exact hh.fresh _ (hh.real hd hok).1 j
    have content:∀ (b:Nat) (d:aA),aO h b=some d→ρ.ok b→∀ x v,(rE (aO h) n d).cell? x=some v→w.cell? ⟨ρ.at_ b,0+x,none⟩=some ((w.cell? ⟨ρ.at_ b,x,none⟩).getD undef)∧VR τ w v ((w.cell? ⟨ρ.at_ b,x,none⟩).getD undef):=by
      intro b d hd hok x v hx
      obtain ⟨_,hrk,c,t,hc,hcv⟩:=hh.real hd hok
      obtain ⟨u,q1,q2⟩:=HG L hh off n (ρ.at_ b) (fun x v hx=>by
        obtain ⟨u,k1,k2⟩:=hcv x v hx
        exact ⟨u,by simp [World.cell?,hc,k1],k2⟩) hrk x v hx
      rw [Nat.zero_add,q1];exact ⟨rfl,q2⟩
    cases v with
    | ptr b k i j =>
      simp only [Es]
      split
      · rename_i d hd
        have hrk:=hh.rk hd
        cases hk:(rE (aO h) n d).kept with
        | false=>exact .any _
        | true =>
          simp only [cond_true]
          cases hv with | ptr _ _ _ _ hb =>
          have:=VR.iptr (ρ:=τ) (w:=w) .free (rE (aO h) n d) k i j (ρ.at_ b) 0 (fun x=>(w.cell? ⟨ρ.at_ b,x,none⟩).getD undef) (free b d hd hb) (hh.liveLt _ (hh.real hd hb).1)
            (fun x v hx=>(content b d hd hb x v hx).1) (fun x v hx=>(content b d hd hb x v hx).2) (A7 _ _ _ hrk) (fun _=>hk) (oZ hk)
          simpa using this
      · exact .any _
    | sl b k es i len cap =>
      simp only [Es]
      split
      · rename_i d hd
        have hrk:=hh.rk hd
        cases hk:(rE (aO h) n d).kept with
        | false=>exact .any _
        | true =>
          simp only [cond_true]
          cases hv with
          | sl _ _ _ _ _ _ cap' hb hcap hl' c t hh' hs =>
            have:=VR.imm (ρ:=τ) (w:=w) .free (rE (aO h) n d) k es i len cap' (ρ.at_ b) 0 (fun x=>(w.cell? ⟨ρ.at_ b,x,none⟩).getD undef) (free b d hd hb) (hh.liveLt _ (hh.real hd hb).1)
              (fun x v hx=>(content b d hd hb x v hx).1) (fun x v hx=>(content b d hd hb x v hx).2) (by omega) (A7 _ _ _ hrk) (fun _=>hk) (oZ hk)
            simpa using this
          | slEnd=>exact .immEnd _ _ _ _ _ _ _ (A7 _ _ _ hrk) (fun _=>hk) (oZ hk)
      · exact .any _
    | fn f l1 l2=>cases hv with | fn _ _ _ _ _ h1 h2=>exact .fn _ _ _ _ _ (ni L hh off n h1) (ni L hh off n h2)
    | agg l=>cases hv with | agg _ _ h1=>exact .agg _ _ (ni L hh off n h1)
    | tup l=>cases hv with | tup _ _ h1=>exact .tup _ _ (ni L hh off n h1)
    | iface t v=>cases hv with | iface _ _ _ h1=>exact .iface _ _ _ (FO L hh off n h1)
    | int=>exact dP L hv rfl
    | bool=>exact dP L hv rfl
    | flt=>exact dP L hv rfl
    | str=>exact dP L hv rfl
    | nptr=>exact dP L hv rfl
    | iptr=>exact dP L hv rfl
    | nsl=>exact dP L hv rfl
    | esl=>exact dP L hv rfl
    | zsl=>exact dP L hv rfl
    | nan=>exact dP L hv rfl
    | imm=>exact dP L hv rfl
    | nfn=>exact dP L hv rfl
    | niface=>exact dP L hv rfl
    | any=>exact .any _
theorem ni {ρ τ:ah} (L:Nl ρ τ) {w:World} {h:bB} {m:Nat} (hh:HR ρ w h m) (off:∀ b d,aO h b=some d→ρ.ok b→¬ τ.live (ρ.at_ b)):∀ (n:Nat) {l:List AV} {c:List Value},di ρ w l c→di τ w (A6 (aO h) n l) c
  | 0,[],c,hv=>by cases hv;exact .nil
  | 0,v::l,c,hv=>by
    cases hv with | cons _ u _ c' h1 h2 =>
    have:=ni L hh off 0 h2
    exact .cons _ _ _ _ (.any u) this
  | n+1,[],c,hv=>by cases hv;exact .nil
  | n+1,v::l,c,hv=>by
    cases hv with | cons _ u _ c' h1 h2=>exact .cons _ _ _ _ (FO L hh off n h1) (ni L hh off n h2)
theorem HG {ρ τ:ah} (L:Nl ρ τ) {w:World} {h:bB} {m:Nat} (hh:HR ρ w h m) (off:∀ b d,aO h b=some d→ρ.ok b→¬ τ.live (ρ.at_ b)):∀ (n:Nat) (bl:Nat) {d:aA},(∀ x v,d.cell? x=some v→∃ u,w.cell? ⟨bl,x,none⟩=some u∧VR ρ w v u)→d.recKept →
    ∀ x v,(rE (aO h) n d).cell? x=some v→∃ u,w.cell? ⟨bl,x,none⟩=some u∧VR τ w v u
  | 0,bl,d,hc,hr,x,v,hx=>by simp [rE,aA.cell?] at hx
  | n + 1, bl, d, hc, hr, x, v, hx => by
    cases d with
    | vs l =>
      simp only [rE,aA.cell?] at hx
      have hus:di ρ w l ((List.range l.length).map fun x=>(w.cell? ⟨bl,x,none⟩).getD undef):=by
        refine na (by simp) fun y v u q1 q2=>?_
        obtain ⟨u',k1,k2⟩:=hc y v q1
        have hlt:y<l.length:=(List.getElem?_eq_some_iff.1 q1).1
        rw [List.getElem?_map,List.getElem?_range hlt] at q2
        simp [k1] at q2;subst q2;exact k2
      have hr2:=ni L hh off n hus
      obtain ⟨u,q1,q2⟩:=hr2.get x v hx
      rw [List.getElem?_map] at q1
      have hlt:x<l.length:=by
        rcases Nat.lt_or_ge x l.length with q | q
        · exact q
        · rw [List.getElem?_eq_none (by simpa using q)] at q1;cases q1
      rw [List.getElem?_range hlt] at q1
      obtain ⟨u',k1,_⟩:=hc x (l[x]) (List.getElem?_eq_getElem hlt)
      simp [k1] at q1;subst q1
      exact ⟨u',k1,q2⟩
    | fl xs=>obtain ⟨u,q1,q2⟩:=hc x v hx;exact ⟨u,q1,dP L q2 (aT (d:=.fl xs) hr rfl x v hx)⟩
    | ns k xs=>obtain ⟨u,q1,q2⟩:=hc x v hx;exact ⟨u,q1,dP L q2 (aT (d:=.ns k xs) hr rfl x v hx)⟩
    | bs xs=>obtain ⟨u,q1,q2⟩:=hc x v hx;exact ⟨u,q1,dP L q2 (aT (d:=.bs xs) hr rfl x v hx)⟩
    | ss xs=>obtain ⟨u,q1,q2⟩:=hc x v hx;exact ⟨u,q1,dP L q2 (aT (d:=.ss xs) hr rfl x v hx)⟩
    | rows k m get=>obtain ⟨u,q1,q2⟩:=hc x v hx;exact ⟨u,q1,dP L q2 (aT (d:=.rows k m get) hr rfl x v hx)⟩
    | cols k cs=>obtain ⟨u,q1,q2⟩:=hc x v hx;exact ⟨u,q1,dP L q2 (aT (d:=.cols k cs) hr rfl x v hx)⟩
end
mutual
def PS (σ:Nat→Option Nat):AV→AV
  | .ptr b w i j=>match σ b with | some c=>.ptr c w i j | none=>.any
  | .sl b w es i len cap=>match σ b with | some c=>.sl c w es i len cap | none=>.any
  | .fn f l1 l2=>.fn f (Og σ l1) (Og σ l2)
  | .agg l=>.agg (Og σ l)
  | .tup l=>.tup (Og σ l)
  | .iface t v=>.iface t (PS σ v)
  | v=>v
def Og (σ:Nat→Option Nat):List AV→List AV
  | []=>[]
  | v::l=>PS σ v::Og σ l
end
def ah.renamed(ρ:ah)(keep:List Nat) :ah :=
  { at_:=fun i=>ρ.at_ ((keep[i]?).getD 0),live:=ρ.live,out:=ρ.out,ok:=fun i=>∃ b,keep[i]? = some b∧ρ.ok b }
mutual
theorem yT {ρ:ah} {keep:List Nat} {w:World}:∀ (v:AV) {u:Value},VR ρ w v u→VR (ρ.renamed keep) w (PS (ij keep 0) v) u
  | .ptr b k i j,u,h=>by
    simp only [PS]
    split
    · rename_i c hc
      cases h with | ptr _ _ _ _ hb =>
      obtain ⟨_,hg⟩:=tk hc
      rw [Nat.sub_zero] at hg
      have:(ρ.renamed keep).at_ c=ρ.at_ b:=by simp [ah.renamed,hg]
      rw [←this];exact .ptr _ _ _ _ ⟨b,hg,hb⟩
    · exact .any u
  | .sl b k es i len cap,u,h=>by
    simp only [PS]
    split
    · rename_i c hc
      obtain ⟨_,hg⟩:=tk hc
      rw [Nat.sub_zero] at hg
      have e:(ρ.renamed keep).at_ c=ρ.at_ b:=by simp [ah.renamed,hg]
      cases h with
      | sl _ _ _ _ _ _ cap' hb hcap hl ce t hh hs=>rw [←e] at hh ⊢;exact .sl _ _ _ _ _ _ _ ⟨b,hg,hb⟩ hcap hl ce t hh hs
      | slEnd=>exact .slEnd _ _ _ _ _
    · exact .any u
  | .fn f l1 l2,u,h=>by cases h with | fn _ _ _ _ _ h1 h2=>exact .fn _ _ _ _ _ (A8 l1 h1) (A8 l2 h2)
  | .agg l,u,h=>by cases h with | agg _ _ h1=>exact .agg _ _ (A8 l h1)
  | .tup l,u,h=>by cases h with | tup _ _ h1=>exact .tup _ _ (A8 l h1)
  | .iface t v,u,h=>by cases h with | iface _ _ _ h1=>exact .iface _ _ _ (yT v h1)
  | .int ..,u,h=>eJ h rfl
  | .bool ..,u,h=>eJ h rfl
  | .flt ..,u,h=>eJ h rfl
  | .str ..,u,h=>eJ h rfl
  | .nptr,u,h=>eJ h rfl
  | .iptr ..,u,h=>eJ h rfl
  | .nsl,u,h=>eJ h rfl
  | .esl,u,h=>eJ h rfl
  | .zsl _,u,h=>eJ h rfl
  | .nan,u,h=>eJ h rfl
  | .imm ..,u,h=>eJ h rfl
  | .nfn,u,h=>eJ h rfl
  | .niface,u,h=>eJ h rfl
  | .any,u,h=>.any u
theorem A8 {ρ:ah} {keep:List Nat} {w:World}:∀ (l:List AV) {c:List Value},di ρ w l c→di (ρ.renamed keep) w (Og (ij keep 0) l) c
  | [],c,h=>by cases h;exact .nil
  | v::l,c,h=>by cases h with | cons _ u _ c' h1 h2=>exact .cons _ _ _ _ (yT v h1) (A8 l h2)
theorem eJ {ρ:ah} {keep:List Nat} {w:World} {v:AV} {u:Value} (h:VR ρ w v u) (hf:v.foreign=true):VR (ρ.renamed keep) w v u :=
  dP (ρ:=ρ) (τ:=ρ.renamed keep) ⟨rfl,fun _ q=>q⟩ h hf
end
def RG(σ:Nat→Option Nat) :aA→aA
  | .vs l=>.vs (Og σ l)
  | d=>d
theorem FP(σ:Nat→Option Nat) :∀ (l:List AV) (x:Nat),(Og σ l)[x]? = (l[x]?).map (PS σ)
  | [],x=>by simp [Og]
  | v::l,0=>by simp [Og]
  | v::l,x+1=>by simp [Og,FP σ l x]
theorem OB{σ:Nat→Option Nat}{d:aA}(h:d.recKept) :(RG σ d).recKept:=by
  cases d<;>first | exact h | trivial
theorem HH{σ:Nat→Option Nat}{d:aA}{x:Nat}{v:AV}(h:(RG σ d).cell? x=some v)(hr:d.recKept) :∃ v',d.cell? x=some v'∧(v=PS σ v'∨(v=v'∧v.foreign=true)):=by
  cases d with
  | vs l =>
    simp only [RG,aA.cell?,FP,Option.map_eq_some_iff] at h
    obtain ⟨v',h1,rfl⟩:=h
    exact ⟨v',h1,.inl rfl⟩
  | fl xs=>exact ⟨v,h,.inr ⟨rfl,aT (d:=.fl xs) hr rfl x v h⟩⟩
  | ns k xs=>exact ⟨v,h,.inr ⟨rfl,aT (d:=.ns k xs) hr rfl x v h⟩⟩
  | bs xs=>exact ⟨v,h,.inr ⟨rfl,aT (d:=.bs xs) hr rfl x v h⟩⟩
  | ss xs=>exact ⟨v,h,.inr ⟨rfl,aT (d:=.ss xs) hr rfl x v h⟩⟩
  | rows k m get=>exact ⟨v,h,.inr ⟨rfl,aT (d:=.rows k m get) hr rfl x v h⟩⟩
  | cols m cs=>exact ⟨v,h,.inr ⟨rfl,aT (d:=.cols m cs) hr rfl x v h⟩⟩
def MC(k:Nat)(R:List Nat) :List Nat:=List.range k++R.filter fun b=>Nat.ble k b
theorem Nm{k i:Nat}{R:List Nat}(h:i<k) :(MC k R)[i]? = some i:=by
  unfold MC
  rw [List.getElem?_append_left (by simpa using h),List.getElem?_range h]
def lK(σ:Nat→Option Nat)(h:bB) :List Nat→List (Option aA)
  | []=>[]
  | b::l=>(aO h b).map (RG σ)::lK σ h l
theorem mC(σ:Nat→Option Nat)(h:bB) :∀ (l:List Nat) (i:Nat),(lK σ h l)[i]? = (l[i]?).map fun b=>(aO h b).map (RG σ)
  | [],i=>by simp [lK]
  | b::l,0=>by simp [lK]
  | b::l,i+1=>by simp [lK,mC σ h l i]
theorem lZ(σ:Nat→Option Nat)(h:bB) :∀ (l:List Nat),(lK σ h l).length=l.length
  | []=>rfl
  | b::l=>by simp [lK,lZ σ h l]
def A9(k:Nat)(keep:Bool)(h:bB)(v:AV) :Option gq :=
  match keep,k with
  | true,0=>some ⟨Es (aO h) eP v,[]⟩
  | _,_ =>
    let L:=MC k (ir (aO h) eP (List.range k++FI v) [])
    bif p8 L then some ⟨PS (ij L 0) v,lK (ij L 0) h L⟩ else none
theorem HI{ρ ρ0:ah}{w0 w:World}{h:bB}{m:Nat}{lent:List aA}{keep:Bool}(hh:HR ρ w h m)(hN:jc ρ0 w0 lent)(E:ji ρ0 ρ w0)(hbk:∀ i,i<lent.length→ρ.ok i→ρ0.ok i)(W:w0.heap.size≤w.heap.size){v:AV}{u:Value}(hv:VR ρ w v u){r:gq} 
    (hr:A9 lent.length keep h v=some r):r.Holds ρ0 w0 w lent.length u:=by
  unfold A9 at hr
  split at hr
  · rename_i k hk
    cases hr
    have none_ok:∀ b,¬ ρ0.ok b:=fun b q=>by have:=hN.heap.lt b q;omega
    have none_live:∀ bl,¬ ρ0.live bl:=fun bl q=>by obtain ⟨i,h1,_⟩:=hN.only bl q;exact none_ok i h1
    refine ⟨ρ0,ji.refl _ _,fun i h=>by omega,⟨fun b d q=>?_,fun b c d e q=>?_,fun bl q=>(none_live bl q).elim,fun bl q=>(none_live bl q).elim,fun j bl q=>?_,fun b q=>(none_ok b q).elim,fun x hx=>dP (τ:=ρ0) ⟨E.out.symm,fun bl q=>(none_live bl q).elim⟩ (hh.rom x hx) rfl⟩,?_⟩
    · simp [dd,aO] at q
    · simp [dd,aO] at q
    · exact Nat.lt_of_lt_of_le (hN.heap.outLt j bl q) W
    · exact FO (τ:=ρ0) ⟨E.out.symm,fun bl q=>(none_live bl q).elim⟩ hh (fun _ _ _ _ q=>none_live _ q) eP hv
  · simp only at hr
    generalize hL:MC lent.length (ir (aO h) eP (List.range lent.length++FI v) [])=L at hr
    cases hn:p8 L with
    | false=>rw [hn] at hr;cases hr
    | true =>
    rw [hn] at hr
    simp only [cond_true,Option.some.injEq] at hr;subst hr
    have idL:∀ {i:Nat},i<lent.length→L[i]? = some i:=fun q=>by rw [←hL];exact Nm q
    have atL:∀ {i b:Nat},L[i]? = some b→(ρ.renamed L).at_ i=ρ.at_ b:=fun q=>by simp [ah.renamed,q]
    refine ⟨ρ.renamed L,⟨fun b q=>?_,fun b q=>?_,E.live,E.new,E.out⟩,fun i hi q=>?_,⟨fun i d q=>?_,fun i j d e q1 q2 ok1 ok2 he=>?_,hh.fresh,hh.liveLt,hh.outLt,fun i q=>?_,fun x hx=>yT _ (hh.rom x hx)⟩,yT v hv⟩
    · rw [atL (idL (hN.heap.lt b q))];exact E.at_ b q
    · exact ⟨b,idL (hN.heap.lt b q),E.ok b q⟩
    · obtain ⟨b,h1,h2⟩:=q
      rw [idL hi] at h1;cases h1
      exact hbk i hi h2
    · have q:=gj q
      simp only at q
      rw [mC,Option.map_eq_some_iff] at q
      obtain ⟨b,h1,h2⟩:=q
      rw [Option.map_eq_some_iff] at h2
      obtain ⟨d0,h3,rfl⟩:=h2
      rcases hh.cell b d0 h3 with ⟨k1,k2,hr,c,t,r1,r2⟩ | ⟨k1,k2,k3,k4⟩
      · refine .inl ⟨⟨b,h1,k1⟩,by rw [atL h1];exact k2,OB hr,c,t,by rw [atL h1];exact r1,fun x v hx=>?_⟩
        obtain ⟨v',s1,s2⟩:=HH hx hr
        obtain ⟨u,t1,t2⟩:=r2 x v' s1
        refine ⟨u,t1,?_⟩
        rcases s2 with rfl | ⟨rfl,hf⟩
        · exact yT v' t2
        · exact eJ t2 hf
      · refine .inr ⟨?_,?_,OB k3,fun x=>?_⟩
        · rintro ⟨b',q1,q2⟩
          rw [h1] at q1;cases q1
          exact k1 q2
        · rw [lZ];exact (List.getElem?_eq_some_iff.1 h1).1
        · cases hc:(RG (ij L 0) d0).cell? x with
          | none=>rfl
          | some v=>obtain ⟨v',s1,_⟩:=HH hc k3;rw [k4 x] at s1;cases s1
    · obtain ⟨b,r1,r2⟩:=ok1
      obtain ⟨c,r3,r4⟩:=ok2
      have q1:=gj q1
      have q2:=gj q2
      simp only at q1 q2
      rw [mC,r1] at q1
      rw [mC,r3] at q2
      simp only [Option.map_some,Option.some.injEq,Option.map_eq_some_iff] at q1 q2
      obtain ⟨d1,s1,_⟩:=q1
      obtain ⟨d2,s2,_⟩:=q2
      rw [atL r1,atL r3] at he
      have:=hh.inj b c d1 d2 s1 s2 r2 r4 he
      subst this
      exact p9 hn r1 r3
    · obtain ⟨b,r1,_⟩:=q
      simp only [lZ]
      exact (List.getElem?_eq_some_iff.1 r1).1
inductive AE where
  | normal
  | ret
  | exit (id:Nat)
def AE.real:AE→Exit
  | .normal=>.normal
  | .ret=>.ret
  | .exit id=>.exit id
abbrev QJ:=Option (AE×aE×List Bool×eI)
abbrev ou:=Code→aE→eI→QJ
def xV(C:u9)(run:ed)(ops:Array Oper)(draw:Bool)(st:aE)(p:eI) :QJ :=
  match draw with
  | false =>
    match A0 C run ops st.next 0 ops.toList st.tmps st.heap p with
    | some (T,h,obs,p')=>some (.normal,⟨T,h,st.next+ops.size*lJ⟩,obs,p')
    | none=>none
  | true =>
    match A5 C run ops st.next 0 ops.toList st.tmps st.heap p with
    | some (rs,T,h,obs,p')=>bif A2 ops [] [] (ops.toList.zip rs) then some (.normal,⟨T,h,st.next+ops.size*lJ⟩,obs,p') else none
    | none=>none
def nj(T:List AV)(c:Operand)(b:Bool) :List AV :=
  match c with
  | .tmp t=>T.set t (.bool true b)
  | _=>T
def Au(body:aE→eI→QJ) :Nat→aE→eI→QJ
  | 0,_,_=>none
  | n+1,st,p =>
    match body st p with
    | some (.normal,st1,o1,p1) =>
      match Au body n st1 p1 with
      | some (e,st2,o2,p2)=>some (e,st2,o1++o2,p2)
      | none=>none
    | r=>r
def Ba(C:u9)(run:ed)(N:Nat)(self:ou)(c:Code)(st:aE)(p:eI) :QJ :=
  match c with
  | .skip | .label _=>some (.normal,st,[],p)
  | .region _ ops draw=>xV C run ops draw st p
  | .seq a b =>
    match self a st p with
    | some (.normal,st1,o1,p1) =>
      match self b st1 p1 with
      | some (e,st2,o2,p2)=>some (e,st2,o1++o2,p2)
      | none=>none
    | r=>r
  | .cond c a b =>
    match Ar (PU st.tmps c) p with
    | some (x,o1,p1) =>
      match self (match x with | true=>a | false=>b) { st with tmps:=nj st.tmps c x } p1 with
      | some (e,st2,o2,p2)=>some (e,st2,o1++o2,p2)
      | none=>none
    | none=>none
  | .block id b =>
    match self b st p with
    | some (.exit id',st1,o1,p1)=>bif Nat.beq id' id then some (.normal,st1,o1,p1) else some (.exit id',st1,o1,p1)
    | r=>r
  | .loop b=>Au (self b) N st p
  | .exit id=>some (.exit id,st,[],p)
  | .ret=>some (.ret,st,[],p)
  | .scope b=>self b st p
  | _=>none
structure nk where
  out:gq
  obs:List Bool
def OC(alts:List nk)(p:eI) :Option (nk×eI) :=
  match alts,p with
  | [a],p=>some (a,p)
  | alts,none=>(alts.find? fun a=>Ni a.obs).map fun a=>(a,none)
  | alts,some (k::r)=>(alts[k]?).map fun a=>(a,some r)
  | _,_=>none
theorem Nn{alts:List nk}{p p':eI}{a:nk}(h:OC alts p=some (a,p')) :a∈alts:=by
  unfold OC at h
  split at h
  · simp only [Option.some.injEq,Prod.mk.injEq] at h;rw [←h.1];simp
  · simp only [Option.map_eq_some_iff,Prod.mk.injEq] at h;obtain ⟨b,h1,rfl,_⟩:=h;exact List.mem_of_find?_eq_some h1
  · simp only [Option.map_eq_some_iff,Prod.mk.injEq] at h;obtain ⟨b,h1,rfl,_⟩:=h;exact List.mem_of_getElem? h1
  · cases h
abbrev wv:=FuncId→List aA→List AV→Option (List nk)
def fW(P:Program)(fn:Func)(st:aE) :List ResultVar→Option (List AV×List Bool)
  | []=>some ([],[])
  | .tmp t::l =>
    match fW P fn st l with
    | some (vs,o)=>some ((st.tmps[t]?).getD .any::vs,o)
    | none=>none
  | .cell a t::l =>
    match wb P (aO st.heap) t ((st.tmps[a]?).getD .any),fW P fn st l with
    | some (v,o,_),some (vs,o')=>some (v::vs,o++o')
    | _,_=>none
def xW:List AV→AV
  | [v]=>v
  | vs=>.tup vs
def kK(fn:Func)(lent:List aA)(args:List AV) :aE:=⟨args++List.replicate (fn.ntmps-args.length) (.tup []),dd 0 (lent.map some),lent.length⟩
def np(C : u9)(S : wv)(self : ou) : ed := fun f lent args p =>
  match S f lent args with
  | some alts=>(OC alts p).map fun r=>(r.1.out,r.1.obs,r.2)
  | none =>
    match C.P.funcs[f]? with
    | some fn =>
      match fn.body with
      | some c =>
        match self c (kK fn lent args) p with
        | some (e,st,o1,p1) =>
          match e,fW C.P fn st fn.results.toList with
          | .exit _,_=>none
          | _,some (vs,o2) =>
            match A9 lent.length (C.mode f).keep st.heap (xW vs) with
            | some r=>some (r,o1++o2,p1)
            | none=>none
          | _,none=>none
        | none=>none
      | none=>none
    | none=>none
def eV(C:u9)(S:wv)(N:Nat) :Nat→ou
  | 0=>fun _ _ _=>none
  | n+1=>Ba C (np C S (eV C S N n)) N (eV C S N n)
def ae(P:Program)(f:FuncId)(lent:List aA)(args:List AV)(r:gq) :Prop :=
  ∀ (ρ:ah) (w:World) (us:List Value),jc ρ w lent→di ρ w args us →
    (∃ fn,P.funcs[f]? = some fn∧fn.body.isSome=true)∧Calls P f us.toArray w fun e w'=>∃ u,e=.returned u∧fR ρ.live w w'∧r.Holds ρ w w' lent.length u
def aX(P:Program)(S:wv) :Prop:=∀ f lent args alts a,S f lent args=some alts→a∈alts→az a.obs→ae P f lent args a.out
def Bb(P:Program)(self:ou) :Prop :=
  ∀ c st p e st' obs p',self c st p=some (e,st',obs,p')→az obs→∀ (ρ:ah) (a:Act) (w:World) (Q:Exit→Act→World→Prop),SR ρ st a w →
    (∀ ρ' a' w',rA ρ w st.next st' ρ' a' w'→Q e.real a' w')→c.wp P Q a w
theorem rA.trans{ρ ρ1 ρ2:ah}{w w1 w2:World}{n:Nat}{st1 st2:aE}{a1 a2:Act}(h:rA ρ w n st1 ρ1 a1 w1)(k:rA ρ1 w1 st1.next st2 ρ2 a2 w2) :rA ρ w n st2 ρ2 a2 w2 :=
  ⟨h.ext.trans k.ext h.wle.size,h.wle.trans k.wle (fun x hx q=>h.ext.new x hx q),k.sr,Nat.le_trans h.le k.le,fun b q=>by
    rcases k.back b q with q | q
    · exact h.back b q
    · exact .inr (Nat.le_trans h.le q)⟩
theorem rA.refl{ρ:ah}{w:World}{st:aE}{a:Act}(h:SR ρ st a w) :rA ρ w st.next st ρ a w:=⟨ji.refl _ _,fR.refl _ _,h,Nat.le_refl _,fun b q=>.inl q⟩
theorem No(n:Nat) :List.range n=List.range' 0 n:=List.range_eq_range'
theorem FQ{C:u9}(hC:C.Ok){run:ed}(hrun:AX C.P run){id:Nat}{ops:Array Oper}{draw:Bool}{st st':aE}{p p':eI}{e:AE}{obs:List Bool}(h:xV C run ops draw st p=some (e,st',obs,p')) 
    (ho:az obs) {ρ:ah} {a:Act} {w:World} {Q:Exit→Act→World→Prop} (hs:SR ρ st a w) (hQ:∀ ρ' a' w',rA ρ w st.next st' ρ' a' w'→Q e.real a' w'):(Code.region id ops draw).wp C.P Q a w:=by
  unfold xV at h
  cases draw with
  | false =>
    simp only at h
    split at h
    case h_2=>cases h
    rename_i T hp obs' p1 hr
    simp only [Option.some.injEq,Prod.mk.injEq] at h;obtain ⟨rfl,rfl,rfl,rfl⟩:=h
    refine wp_region ?_
    rw [No,←Array.length_toList]
    refine ws hC hrun ops.toList 0 (fun j=>by simp) hr ho (hs.heap.le (by omega)) (fun b hb=>by have:=hs.heap.lt b hb;omega) hs.defers hs.tmps ?_
    intro ρ' w' a' E W hh hd hT hb
    exact hQ ρ' a' w' ⟨E,W,⟨hd,hT,hh⟩,Nat.le_add_right _ _,hb⟩
  | true =>
    simp only at h
    split at h
    case h_2=>cases h
    rename_i rs T hp obs' p1 hr
    cases hd:A2 ops [] [] (ops.toList.zip rs) with
    | false=>rw [hd] at h;cases h
    | true =>
      rw [hd] at h
      simp only [cond_true,Option.some.injEq,Prod.mk.injEq] at h;obtain ⟨rfl,rfl,rfl,rfl⟩:=h
      obtain ⟨s1,s2,s3⟩:=yS _ _ hr ho
      obtain ⟨ms,D⟩:=yR (ops.toList.zip rs) [] [] rfl hd ⟨fun j x hx=>by simp at hx,fun j x hx=>by simp at hx,fun i j x y hx=>by simp at hx⟩
      rw [List.nil_append] at D
      refine wp_region_any hC.mixed ?_
      have W0:=fR.drawn ρ.live w (w.drawn+1)
      have E0:=ji.refl ρ w
      have notL:∀ i,(Array.replicate ops.size false).getD i false=false:=by
        intro i;rw [Array.getD_eq_getD_getElem?]
        cases hq:(Array.replicate ops.size false)[i]? with
        | none=>rfl
        | some b=>rw [Array.getElem?_replicate] at hq;split at hq<;>simp_all
      have a0:∀ (l:List (Oper×tl)) (i:Nat) (s:List AV×bB),jj (fun i=>(Array.replicate ops.size false).getD i false) i l s=s:=by
        intro l
        induction l with
        | nil=>intro _ _;rfl
        | cons x l ih=>intro i s;simp only [jj];rw [notL i];exact ih _ _
      refine OA hC hrun D (by rw [s1];simp) (fun j o hj=>by have:=s3 j o hj;rw [Nat.zero_add] at this;exact this) ops.size (Array.replicate ops.size false) (by simp) (fun j o _ hl=>by rw [notL] at hl;cases hl)
        (by have:=List.countP_le_length (p:=fun i=>!(Array.replicate ops.size false).getD i false) (l:=List.range ops.size);simpa using this) (ρ:=ρ) (a:=a) ?_ ?_ hs.defers ?_ ?_
      · rw [a0];exact (hs.heap.le (by omega)).drawn _
      · intro b hb;have:=hs.heap.lt b hb;exact .inl this
      · rw [a0];exact hs.tmps.mono E0 W0
      · intro ρ' w' a' E W hh hd' hT hb
        rw [s2] at hh hT
        exact hQ ρ' a' w' ⟨⟨E.at_,E.ok,E.live,fun b hb=>E.new b hb,E.out⟩,W0.trans W (fun _ _ q=>q),⟨hd',hT,hh⟩,Nat.le_add_right _ _,hb⟩
theorem Bc{C:u9}{body:aE→eI→QJ}{b:Code}(hb:∀ st p e st' obs p',body st p=some (e,st',obs,p')→az obs→∀ (ρ:ah) (a:Act) (w:World) (Q:Exit→Act→World→Prop),SR ρ st a w →
    (∀ ρ' a' w',rA ρ w st.next st' ρ' a' w'→Q e.real a' w')→b.wp C.P Q a w) :∀ (n:Nat) (st:aE) (p:eI) (e:AE) (st':aE) (obs:List Bool) (p':eI),Au body n st p=some (e,st',obs,p')→az obs →
    ∀ (ρ:ah) (a:Act) (w:World) (Q:Exit→Act→World→Prop),SR ρ st a w→(∀ ρ' a' w',rA ρ w st.next st' ρ' a' w'→Q e.real a' w')→Code.rounds C.P b Q n a w
  | 0,st,p,e,st',obs,p',h,_,_,_,_,_,_,_=>by cases h
  | n+1,st,p,e,st',obs,p',h,ho,ρ,a,w,Q,hs,hQ=>by
    simp only [Au] at h
    rw [rounds_succ]
    split at h
    · rename_i st1 o1 p1 h1
      split at h
      case h_2=>cases h
      rename_i e2 st2 o2 p2 h2
      simp only [Option.some.injEq,Prod.mk.injEq] at h;obtain ⟨rfl,rfl,rfl,rfl⟩:=h
      rw [aV] at ho
      refine hb st p _ _ _ _ h1 ho.1 ρ a w _ hs fun ρ1 a1 w1 P1=>?_
      exact Bc hb n st1 p1 _ _ _ _ h2 ho.2 ρ1 a1 w1 Q P1.sr fun ρ2 a2 w2 P2=>hQ ρ2 a2 w2 (P1.trans P2)
    · rename_i hne
      refine hb st p _ _ _ _ h ho ρ a w _ hs fun ρ1 a1 w1 P1=>?_
      have:=hQ ρ1 a1 w1 P1
      cases e with
      | normal=>exact (hne _ _ _ h).elim
      | ret=>exact this
      | exit id=>exact this
theorem HJ{C:u9}(hC:C.Ok){run:ed}(hrun:AX C.P run){N:Nat}{self:ou}(hself:Bb C.P self) :Bb C.P (Ba C run N self):=by
  intro c st p e st' obs p' h ho ρ a w Q hs hQ
  unfold Ba at h
  split at h
  · simp only [Option.some.injEq,Prod.mk.injEq] at h;obtain ⟨rfl,rfl,rfl,rfl⟩:=h
    exact wp_skip (hQ ρ a w (rA.refl hs))
  · simp only [Option.some.injEq,Prod.mk.injEq] at h;obtain ⟨rfl,rfl,rfl,rfl⟩:=h
    exact wp_label (hQ ρ a w (rA.refl hs))
  · exact FQ hC hrun h ho hs hQ
  · rename_i x y
    refine wp_seq ?_
    split at h
    · rename_i st1 o1 p1 h1
      split at h
      case h_2=>cases h
      rename_i e2 st2 o2 p2 h2
      simp only [Option.some.injEq,Prod.mk.injEq] at h;obtain ⟨rfl,rfl,rfl,rfl⟩:=h
      rw [aV] at ho
      refine hself x st p _ _ _ _ h1 ho.1 ρ a w _ hs fun ρ1 a1 w1 P1=>?_
      exact hself y st1 p1 _ _ _ _ h2 ho.2 ρ1 a1 w1 Q P1.sr fun ρ2 a2 w2 P2=>hQ ρ2 a2 w2 (P1.trans P2)
    · rename_i hne
      refine hself x st p _ _ _ _ h ho ρ a w _ hs fun ρ1 a1 w1 P1=>?_
      have:=hQ ρ1 a1 w1 P1
      cases e with
      | normal=>exact (hne _ _ _ h).elim
      | ret=>exact this
      | exit id=>exact this
  · rename_i cc x y
    split at h
    case h_2=>cases h
    rename_i b o1 p1 h1
    split at h
    case h_2=>cases h
    rename_i e2 st2 o2 p2 h2
    simp only [Option.some.injEq,Prod.mk.injEq] at h;obtain ⟨rfl,rfl,rfl,rfl⟩:=h
    rw [aV] at ho
    have hb:=AZ (AG hs.heap.rom hs.tmps cc) h1 ho.1
    refine wp_cond hb ?_
    have hs':SR ρ { st with tmps:=nj st.tmps cc b } a w:=by
      refine ⟨hs.defers,?_,hs.heap⟩
      cases cc with
      | tmp t =>
        simp only [nj]
        have:di ρ w (st.tmps.set t (.bool true b)) (a.tmps.toList.set t (.bool b)):=hs.tmps.set (.bool _ _) t
        have e:a.tmps.toList.set t (.bool b)=a.tmps.toList:=by
          apply List.ext_getElem?
          intro j
          rw [List.getElem?_set]
          split
          · rename_i q;subst q
            split
            · rename_i hlt
              simp only [Act.eval] at hb
              rw [Array.getD_eq_getD_getElem?] at hb
              have hlt':t<a.tmps.size:=by simpa using hlt
              rw [Array.getElem?_eq_getElem hlt'] at hb
              simp only [Option.getD_some] at hb
              simp [hlt',hb]
            · rename_i hge
              rw [List.getElem?_eq_none (by omega)]
          · rfl
        rw [e] at this;exact this
      | const v=>exact hs.tmps
      | global g=>exact hs.tmps
      | func f=>exact hs.tmps
    have:=hself _ _ p1 _ _ _ _ h2 ho.2 ρ a w Q hs' hQ
    cases b<;>exact this
  · rename_i id b
    refine wp_block ?_
    split at h
    · rename_i id' st1 o1 p1 h1
      cases hid:Nat.beq id' id with
      | true =>
        rw [hid] at h
        simp only [cond_true,Option.some.injEq,Prod.mk.injEq] at h;obtain ⟨rfl,rfl,rfl,rfl⟩:=h
        refine hself b st p _ _ _ _ h1 ho ρ a w _ hs fun ρ1 a1 w1 P1=>?_
        simp only [AE.real,Exit.inBlock,Nat.eq_of_beq_eq_true hid,if_true]
        exact hQ ρ1 a1 w1 P1
      | false =>
        rw [hid] at h
        simp only [cond_false,Option.some.injEq,Prod.mk.injEq] at h;obtain ⟨rfl,rfl,rfl,rfl⟩:=h
        refine hself b st p _ _ _ _ h1 ho ρ a w _ hs fun ρ1 a1 w1 P1=>?_
        have hne : ¬ id'=id:=fun e=>by subst e;simp [ka] at hid
        simp only [AE.real,Exit.inBlock,hne,if_false]
        exact hQ ρ1 a1 w1 P1
    · rename_i hne
      refine hself b st p _ _ _ _ h ho ρ a w _ hs fun ρ1 a1 w1 P1=>?_
      have:=hQ ρ1 a1 w1 P1
      cases e with
      | normal=>exact this
      | ret=>exact this
      | exit id=>exact (hne _ _ _ _ h).elim
  · rename_i b
    exact wp_loop_rounds N (Bc (C:=C) (b:=b) (fun st p e st' obs p' h1 h2=>hself b st p e st' obs p' h1 h2) N st p e st' obs p' h ho ρ a w Q hs hQ)
  · simp only [Option.some.injEq,Prod.mk.injEq] at h;obtain ⟨rfl,rfl,rfl,rfl⟩:=h
    exact wp_exit (hQ ρ a w (rA.refl hs))
  · simp only [Option.some.injEq,Prod.mk.injEq] at h;obtain ⟨rfl,rfl,rfl,rfl⟩:=h
    exact wp_ret (hQ ρ a w (rA.refl hs))
  · rename_i b
    refine wp_scope_straight (hself b st p _ _ _ _ h ho ρ a w _ hs fun ρ1 a1 w1 P1=>?_)
    have:=hQ ρ1 a1 w1 P1
    cases e<;>exact this
  · cases h
theorem Bd{P:Program}{w:World}{t:TypeId}{x:Value}{u:Value}(hx:∃ a,x=.pointer (some a))(h:(Instr.loadAt t x).run P w=.ok u w) :(do loadVar t (←asAddr x):Sem Value).run P w=.ok u w:=by
  obtain ⟨a,rfl⟩:=hx
  simpa [Instr.loadAt,Instr.sureAddr,asAddr] using h
def Be(tmps:Array Value) :ResultVar→Sem Value
  | .tmp t=>pure (tmps.getD t undef)
  | .cell x t=>do loadVar t (←asAddr (tmps.getD x undef))
theorem Kx(fn:Func)(tmps:Array Value) :results fn tmps=(do let vs ← fn.results.mapM (Be tmps);pure (if h:vs.size=1 then vs[0] else .tuple vs)):=by
  unfold results
  congr 1
theorem rF{P:Program}{fn:Func}{st:aE}{ρ:ah}{a:Act}{w:World}(hs:SR ρ st a w) :∀ (l:List ResultVar) {vs:List AV} {obs:List Bool},fW P fn st l=some (vs,obs)→az obs →
    ∃ us:List Value,(l.mapM (Be a.tmps)).run P w=.ok us w∧di ρ w vs us
  | [],vs,obs,h,ho=>by
    simp only [fW,Option.some.injEq,Prod.mk.injEq] at h;obtain ⟨rfl,rfl⟩:=h
    exact ⟨[],by simp,.nil⟩
  | .tmp t::l,vs,obs,h,ho=>by
    simp only [fW] at h
    split at h
    case h_2=>cases h
    rename_i vs' o' h1
    simp only [Option.some.injEq,Prod.mk.injEq] at h;obtain ⟨rfl,rfl⟩:=h
    obtain ⟨us,q1,q2⟩:=rF hs l h1 ho
    refine ⟨a.tmps.getD t undef::us,?_,.cons _ _ _ _ (AG hs.heap.rom hs.tmps (.tmp t)) q2⟩
    simp only [List.mapM_cons,Be,Sem.run_bind,Sem.run_pure,Result.andThen_ok,q1]
  | .cell x t::l,vs,obs,h,ho=>by
    simp only [fW] at h
    split at h
    case h_2=>cases h
    rename_i v o rs vs' o' h1 h2
    simp only [Option.some.injEq,Prod.mk.injEq] at h;obtain ⟨rfl,rfl⟩:=h
    rw [aV] at ho
    obtain ⟨us,q1,q2⟩:=rF hs l h2 ho.2
    have hv:=AG hs.heap.rom hs.tmps (.tmp x)
    simp only [PU,Act.eval] at hv
    obtain ⟨u,r1,r2⟩:=yH (P:=P) hs.heap hv h1 ho.1
    have hp:∃ ad,a.tmps.getD x undef=.pointer (some ad):=by
      generalize a.tmps.getD x undef=z at hv
      unfold wb at h1
      simp only at h1
      split at h1
      · rename_i e;rw [e] at hv;cases hv;exact ⟨_,rfl⟩
      · rename_i e;rw [e] at hv;cases hv;exact ⟨_,rfl⟩
      · cases h1
    have:=Bd hp r1
    refine ⟨u::us,?_,.cons _ _ _ _ r2 q2⟩
    simp only [List.mapM_cons,Be,Sem.run_bind] at this ⊢
    rw [this]
    simp only [Result.andThen_ok,Sem.run_bind,q1,Sem.run_pure]
theorem HK{P:Program}{fn:Func}{st:aE}{ρ:ah}{a:Act}{w:World}(hs:SR ρ st a w){vs:List AV}{obs:List Bool}(h:fW P fn st fn.results.toList=some (vs,obs))(ho:az obs) :
    ∃ v,(results fn a.tmps).run P w=.ok v w∧VR ρ w (xW vs) v:=by
  obtain ⟨us,q1,q2⟩:=rF hs fn.results.toList h ho
  have hl:=q2.length
  have hm:(fn.results.mapM (Be a.tmps)).run P w=.ok us.toArray w:=by
    rw [Array.mapM_eq_mapM_toList,map_eq_pure_bind,Sem.run_bind,q1,Result.andThen_ok,Sem.run_pure]
  rw [Kx,Sem.run_bind,hm,Result.andThen_ok]
  match vs,us,q2,hl with
  | [],[],q2,_=>exact ⟨.tuple #[],rfl,.tup _ _ .nil⟩
  | [v],[u],q2,_=>cases q2 with | cons _ _ _ _ h1 _=>exact ⟨u,rfl,h1⟩
  | v::v'::vs,u::u'::us,q2,_ =>
    refine ⟨.tuple (u::u'::us).toArray,?_,.tup _ _ q2⟩
    simp
theorem rG{P:Program}{f:FuncId}{fn:Func}{c:Code}(hf:P.funcs[f]? = some fn)(hc:fn.body=some c){lent:List aA}{args:List AV}{r:gq}{keep:Bool} 
    (h:∀ (ρ:ah) (w:World) (a:Act),jc ρ w lent→SR ρ (kK fn lent args) a w →
      c.wp P (fun e a' w'=>(e=.normal∨e=.ret)∧∃ ρ' st' vs obs,ji ρ ρ' w∧fR ρ.live w w'∧(∀ i,i<lent.length→ρ'.ok i→ρ.ok i)∧SR ρ' st' a' w'∧fW P fn st' fn.results.toList=some (vs,obs)∧az obs∧A9 lent.length keep st'.heap (xW vs)=some r) a w):ae P f lent args r:=by
  intro ρ w us hN hv
  refine ⟨⟨fn,hf,by rw [hc];rfl⟩,?_⟩
  refine calls_of_wp hf hc ?_
  have hlen:=hv.length
  have hs:SR ρ (kK fn lent args) { tmps:=us.toArray++Array.replicate (fn.ntmps-us.toArray.size) undef,defers:=[] } w:=by
    refine ⟨rfl,?_,hN.heap⟩
    simp only [kK,Array.toList_append,Array.toList_replicate,List.size_toArray,hlen]
    refine di.append ?_ hv
    have:∀ n,di ρ w (List.replicate n (.tup [])) (List.replicate n undef):=by
      intro n
      induction n with
      | zero=>exact .nil
      | succ n ih=>exact .cons _ _ _ _ (.tup [] #[] .nil) ih
    exact this _
  refine wp_mono (h ρ w _ hN hs) ?_
  rintro e a' w' ⟨he,ρ',st',vs,obs,E,W,hbk,S,hr,hob,hkeep⟩
  have fin:a'.defers=[]∧∃ v,(results fn a'.tmps).run P w'=.ok v w'∧∃ u,Ending.returned v=.returned u∧fR ρ.live w w'∧r.Holds ρ w w' lent.length u:=by
    refine ⟨S.defers,?_⟩
    obtain ⟨v,q1,q2⟩:=HK S hr hob
    exact ⟨v,q1,v,rfl,W,HI S.heap hN E hbk W.size q2 hkeep⟩
  rcases he with rfl | rfl
  · exact fin
  · exact fin
theorem HL{C:u9}{S:wv}(hS:aX C.P S){self:ou}(hself:Bb C.P self) :AX C.P (np C S self):=by
  intro f lent args p r obs p' h ho
  unfold np at h
  split at h
  · rename_i alts hs
    simp only [Option.map_eq_some_iff,Prod.mk.injEq] at h
    obtain ⟨⟨alt,q⟩,h1,rfl,rfl,rfl⟩:=h
    exact hS f lent args alts alt hs (Nn h1) ho
  · split at h
    case h_2=>cases h
    rename_i fn hf
    split at h
    case h_2=>cases h
    rename_i c hc
    split at h
    case h_2=>cases h
    rename_i e st o1 p1 hr
    cases hres:fW C.P fn st fn.results.toList with
    | none=>rw [hres] at h;cases e<;>cases h
    | some x =>
      obtain ⟨vs,o2⟩:=x
      rw [hres] at h
      have key:∀ (he:e=.normal∨e=.ret),(match A9 lent.length (C.mode f).keep st.heap (xW vs) with | some r=>some (r,o1++o2,p1) | none=>none)=some (r,obs,p')→ae C.P f lent args r:=by
        intro he h
        split at h
        case h_2=>cases h
        rename_i r' hk
        simp only [Option.some.injEq,Prod.mk.injEq] at h;obtain ⟨rfl,rfl,rfl⟩:=h
        rw [aV] at ho
        refine rG (keep:=(C.mode f).keep) hf hc fun ρ w a hN hs=>?_
        refine hself c _ p e st o1 p1 hr ho.1 ρ a w _ hs fun ρ' a' w' P1=>⟨?_,ρ',st,vs,o2,P1.ext,P1.wle,fun i hi q=>?_,P1.sr,hres,ho.2,hk⟩
        · rcases he with rfl | rfl
          · exact .inl rfl
          · exact .inr rfl
        · rcases P1.back i q with q | q
          · exact q
          · simp only [kK] at q;omega
      cases e with
      | normal=>exact key (.inl rfl) h
      | ret=>exact key (.inr rfl) h
      | exit id=>cases h
theorem qc{C:u9}(hC:C.Ok){S:wv}(hS:aX C.P S)(N:Nat) :∀ n,Bb C.P (eV C S N n)
  | 0=>fun c st p e st' obs p' h=>by cases h
  | n+1=>HJ hC (HL hS (qc hC hS N n)) (qc hC hS N n)
theorem zS{C:u9}(hC:C.Ok){S:wv}(hS:aX C.P S)(N n:Nat){f:FuncId}{lent:List aA}{args:List AV}{p p':eI}{r:gq}{obs:List Bool}(h:np C S (eV C S N n) f lent args p=some (r,obs,p'))(ho:az obs) :
    ae C.P f lent args r:=HL hS (qc hC hS N n) f lent args p r obs p' h ho
def Av:List (Nat×zR)→Nat→Option zR
  | [],_=>none
  | (k,e)::l,f=>bif Nat.beq k f then some e else Av l f
def HM:List (Nat×Ox)→Nat→Ox
  | [],_=>⟨[],false⟩
  | (k,m)::l,f=>bif Nat.beq k f then m else HM l f
def MD(P:Program)(l:List (Nat×zR))(ms:List (Nat×Ox)) :u9:={ P,ext:=Av l,mode:=HM ms,wrap:=false }
theorem yU:∀ {l:List (Nat×zR)} {f:Nat} {k:zR},Av l f=some k→(f,k)∈l
  | [],f,k,h=>by cases h
  | (a,e)::l,f,k,h=>by
    simp only [Av] at h
    cases hb:Nat.beq a f with
    | true=>rw [hb] at h;simp only [cond_true,Option.some.injEq] at h;have:=Nat.eq_of_beq_eq_true hb;subst this;subst h;simp
    | false=>rw [hb] at h;simp only [cond_false] at h;exact List.mem_cons_of_mem _ (yU h)
structure Et (P:Program) (f:Nat) (k:zR):Prop where
  fn : ∃ fn, P.funcs[f]? = some fn ∧ (fn.name == "runtime.NumGoroutine") = false ∧ fn.body.isNone = true ∧ Extern.findNext fn = none ∧ Extern.find fn = some (xT k)
def ME(P : Program) : Bool := P.funcs.toList.all fun fn => !(fn.name == "runtime.NumGoroutine")
theorem OD{P:Program}{l:List (Nat×zR)}{ms:List (Nat×Ox)}(hm:P.follows .mixedOrders=true)(hn:ME P=true)(he:∀ x∈l,Et P x.1 x.2) :(MD P l ms).Ok:=by
  refine ⟨hm,fun f fn args w hf hb=>?_,fun f k args w hk=>?_⟩
  · have h1 : fn.name ≠ "runtime.NumGoroutine" := by
      have hmem:fn∈P.funcs.toList:=by
        have:fn∈P.funcs:=Array.mem_of_getElem? hf
        simpa using this
      have:=List.all_eq_true.1 hn fn hmem
      simpa using this
    have h2:fn.body≠none:=by intro q;rw [q] at hb;cases hb
    have hf':P.funcs[f]? = some fn:=hf
    have h3:fn.body.isNone=false:=by cases hq:fn.body<;>simp_all
    simp only [MD,callFunc,Sem.run_bind,run_program,Result.andThen_ok,hf',beq_eq_false_iff_ne.2 h1,Bool.false_eq_true,if_false,h3,Sem.run_pure]
  · obtain ⟨fn,h1,h2,h3,h4,h5⟩:=(he _ (yU hk)).fn
    have:=run_callFunc_extern (P:=P) h1 h2 h3 h4 h5 args w
    simp only [MD]
    rw [this,Sem.run_bind]
    rfl
def At(k:Nat)(ρ0:ah)(w0:World)(st:aE)(a:Act)(w:World) :Prop:=∃ ρ,ji ρ0 ρ w0∧fR ρ0.live w0 w∧SR ρ st a w∧(∀ i,i<k→ρ.ok i→ρ0.ok i)∧k≤st.next
def Np(lent:List aA)(st st':aE) :Prop:=∀ ρ0 w0 a w,jc ρ0 w0 lent→At lent.length ρ0 w0 st a w→At lent.length ρ0 w0 st' a w
theorem Np.refl(lent:List aA)(st:aE) :Np lent st st:=fun _ _ _ _ _ h=>h
theorem Np.trans{lent:List aA}{a b c:aE}(h:Np lent a b)(k:Np lent b c) :Np lent a c:=fun _ _ _ _ hN q=>k _ _ _ _ hN (h _ _ _ _ hN q)
def HN:AV→AV
  | .flt _ x=>.flt false x
  | .bool _ b=>.bool false b
  | v=>v
def Re(σ:Nat→Option Nat) :aA→aA
  | .vs l=>.vs ((Og σ l).map HN)
  | d=>d
def xX(σ:Nat→Option Nat)(h:bB) :Nat→List Nat→bB
  | _,[]=>[]
  | i,b::l=>match aO h b with
    | some d=>(i,Re σ d)::xX σ h (i+1) l
    | none=>xX σ h (i+1) l
def RM(b:Bool)(v u:AV) :AV :=
  match b with
  | true=>v
  | false=>u
def QK:List (Nat×AV)→Nat→AV
  | [],_=>.any
  | (k,v)::l,t=>RM (Nat.beq k t) v (QK l t)
def Eu(L:List (Nat×AV)) :Nat→Nat→List AV
  | _,0=>[]
  | t,n+1=>QK L t::Eu L (t+1) n
def ak(n:Nat)(L:List (Nat×AV)) :List AV:=Eu L 0 n
def Sa(σ:Nat→Option Nat)(ks:List Nat) :Nat→List AV→List AV
  | _,[]=>[]
  | t,v::l=>(bif p7 ks t then HN (PS σ v) else .any)::Sa σ ks (t+1) l
def norm(keep ks:List Nat)(st:aE) :aE :=
  ⟨Sa (ij keep 0) ks 0 st.tmps,xX (ij keep 0) st.heap 0 keep,keep.length⟩
theorem HO{ρ:ah}{w:World}{v:AV}{u:Value}(h:VR ρ w v u) :VR ρ w (HN v) u:=by
  cases h<;>simp only [HN]<;>first | exact .bool _ _ | (rename_i hf;refine .flt _ _ _ ?_;rcases hf with rfl | ⟨_,h2,h3⟩;exact .inl rfl;exact .inr ⟨rfl,h2,h3⟩) | skip
  case int=>exact .int _ _
  case str=>exact .str _
  case nptr=>exact .nptr
  case ptr hb=>exact .ptr _ _ _ _ hb
  case iptr=>rename_i bw d k i j bl o u' ha hb hr hg hc hv hk;exact .iptr bw d k i j bl o _ (by assumption) (by assumption) (by assumption) (by assumption) (by assumption) (by assumption) (by assumption)
  case nsl=>exact .nsl
  case esl=>exact .esl _
  case zsl=>exact .zsl _ _
  case nan=>exact .nan _ (by assumption)
  case sl=>exact .sl _ _ _ _ _ _ _ (by assumption) (by assumption) (by assumption) _ _ (by assumption) (by assumption)
  case slEnd=>exact .slEnd _ _ _ _ _
  case imm=>exact .imm _ _ _ _ _ _ _ _ _ _ (by assumption) (by assumption) (by assumption) (by assumption) (by assumption) (by assumption) (by assumption) (by assumption)
  case immEnd=>exact .immEnd _ _ _ _ _ _ _ (by assumption) (by assumption) (by assumption)
  case fn=>exact .fn _ _ _ _ _ (by assumption) (by assumption)
  case nfn=>exact .nfn
  case agg=>exact .agg _ _ (by assumption)
  case tup=>exact .tup _ _ (by assumption)
  case iface=>exact .iface _ _ _ (by assumption)
  case niface=>exact .niface
  case any=>exact .any _
theorem OE{ρ:ah}{keep ks:List Nat}{w:World} :∀ (l:List AV) (t:Nat) {c:List Value},di ρ w l c→di (ρ.renamed keep) w (Sa (ij keep 0) ks t l) c
  | [],t,c,h=>by cases h;exact .nil
  | v::l,t,c,h=>by
    cases h with | cons _ u _ c' h1 h2 =>
    simp only [Sa]
    refine .cons _ _ _ _ ?_ (OE l (t+1) h2)
    cases p7 ks t with
    | true=>exact HO (yT v h1)
    | false=>exact .any u
theorem qd{σ:Nat→Option Nat}{h:bB} :∀ {l:List Nat} {i c:Nat} {d:aA},aO (xX σ h i l) c=some d→i≤c∧∃ b e,l[c-i]? = some b∧aO h b=some e∧d=Re σ e
  | [],i,c,d,q=>by cases q
  | b::l,i,c,d,q=>by
    simp only [xX] at q
    have next:aO (xX σ h (i+1) l) c=some d→i≤c∧∃ b' e,(b::l)[c-i]? = some b'∧aO h b'=some e∧d=Re σ e:=by
      intro q
      obtain ⟨h1,b',e,h2,h3,h4⟩:=qd q
      refine ⟨by omega,b',e,?_,h3,h4⟩
      have:c-i=(c-(i+1))+1:=by omega
      rw [this];simpa using h2
    split at q
    · rename_i e he
      simp only [aO] at q
      cases hc:Nat.beq i c with
      | true =>
        rw [hc] at q;simp only [cond_true,Option.some.injEq] at q
        have:=Nat.eq_of_beq_eq_true hc;subst this
        exact ⟨Nat.le_refl _,b,e,by simp,he,q.symm⟩
      | false=>rw [hc] at q;exact next q
    · exact next q
theorem OF{σ:Nat→Option Nat}{d:aA}(h:d.recKept) :(Re σ d).recKept:=by
  cases d<;>first | exact h | trivial
theorem HP{σ:Nat→Option Nat}{d:aA}{x:Nat}{v:AV}(h:(Re σ d).cell? x=some v)(hr:d.recKept) :∃ v',d.cell? x=some v'∧(v=HN (PS σ v')∨(v=v'∧v.foreign=true)):=by
  cases d with
  | vs l =>
    simp only [Re,aA.cell?,List.getElem?_map,FP,Option.map_map,Option.map_eq_some_iff,Function.comp] at h
    obtain ⟨v',h1,rfl⟩:=h
    exact ⟨v',h1,.inl rfl⟩
  | fl xs=>exact ⟨v,h,.inr ⟨rfl,aT (d:=.fl xs) hr rfl x v h⟩⟩
  | ns k xs=>exact ⟨v,h,.inr ⟨rfl,aT (d:=.ns k xs) hr rfl x v h⟩⟩
  | bs xs=>exact ⟨v,h,.inr ⟨rfl,aT (d:=.bs xs) hr rfl x v h⟩⟩
  | ss xs=>exact ⟨v,h,.inr ⟨rfl,aT (d:=.ss xs) hr rfl x v h⟩⟩
  | rows k m get=>exact ⟨v,h,.inr ⟨rfl,aT (d:=.rows k m get) hr rfl x v h⟩⟩
  | cols m cs=>exact ⟨v,h,.inr ⟨rfl,aT (d:=.cols m cs) hr rfl x v h⟩⟩
def FS:Nat→Nat→List Nat→Bool
  | 0,_,_=>true
  | _+1,_,[]=>false
  | k+1,i,b::l=>Nat.beq b i&&FS k (i+1) l
theorem Bf:∀ {k i:Nat} {l:List Nat},FS k i l=true→∀ j,j<k→l[j]? = some (i+j)
  | 0,i,l,_,j,hj=>by omega
  | k+1,i,[],h,j,hj=>by cases h
  | k+1,i,b::l,h,j,hj=>by
    simp only [FS,Bool.and_eq_true] at h
    cases j with
    | zero=>simp;exact Nat.eq_of_beq_eq_true h.1
    | succ j=>simp only [List.getElem?_cons_succ];rw [Bf h.2 j (by omega)];congr 1;omega
def Ky(k:Nat)(keep:List Nat) :Bool:=p8 keep&&FS k 0 keep
theorem OG{lent:List aA}{keep ks:List Nat}(hk:Ky lent.length keep=true)(st:aE) :Np lent st (norm keep ks st):=by
  unfold Ky at hk
  rw [Bool.and_eq_true] at hk
  obtain ⟨hn,hid⟩:=hk
  have idL:∀ {i:Nat},i<lent.length→keep[i]? = some i:=fun q=>by have:=Bf hid _ q;simpa using this
  have atL:∀ {ρ:ah} {i b:Nat},keep[i]? = some b→(ρ.renamed keep).at_ i=ρ.at_ b:=fun q=>by simp [ah.renamed,q]
  rintro ρ0 w0 a w hN ⟨ρ,E,W,S,hbk,hle⟩
  refine ⟨ρ.renamed keep,⟨fun b q=>?_,fun b q=>⟨b,idL (hN.heap.lt b q),E.ok b q⟩,E.live,E.new,E.out⟩,W,⟨S.defers,OE _ _ S.tmps,?_⟩,fun i hi q=>?_,?_⟩
  · rw [atL (idL (hN.heap.lt b q))];exact E.at_ b q
  · have hh:=S.heap
    refine ⟨fun c d q=>?_,fun c c' d d' q q' ok1 ok2 he=>?_,hh.fresh,hh.liveLt,hh.outLt,fun c q=>?_,fun x hx=>yT _ (hh.rom x hx)⟩
    · obtain ⟨_,b,e,h1,h2,rfl⟩:=qd q
      rw [Nat.sub_zero] at h1
      rcases hh.cell b e h2 with ⟨k1,k2,hr,ce,t,r1,r2⟩ | ⟨k1,k2,k3,k4⟩
      · refine .inl ⟨⟨b,h1,k1⟩,by rw [atL h1];exact k2,OF hr,ce,t,by rw [atL h1];exact r1,fun x v hx=>?_⟩
        obtain ⟨v',s1,s2⟩:=HP hx hr
        obtain ⟨u,t1,t2⟩:=r2 x v' s1
        refine ⟨u,t1,?_⟩
        rcases s2 with rfl | ⟨rfl,hf⟩
        · exact HO (yT v' t2)
        · exact eJ t2 hf
      · refine .inr ⟨?_,(List.getElem?_eq_some_iff.1 h1).1,OF k3,fun x=>?_⟩
        · rintro ⟨b',q1,q2⟩
          rw [h1] at q1;cases q1
          exact k1 q2
        · cases hc:(Re (ij keep 0) e).cell? x with
          | none=>rfl
          | some v=>obtain ⟨v',s1,_⟩:=HP hc k3;rw [k4 x] at s1;cases s1
    · obtain ⟨_,b,e,h1,h2,rfl⟩:=qd q
      obtain ⟨_,b',e',h1',h2',rfl⟩:=qd q'
      rw [Nat.sub_zero] at h1 h1'
      obtain ⟨x,x1,x2⟩:=ok1
      obtain ⟨y,y1,y2⟩:=ok2
      rw [h1] at x1;cases x1
      rw [h1'] at y1;cases y1
      rw [atL h1,atL h1'] at he
      have:=hh.inj b b' e e' h2 h2' x2 y2 he
      subst this
      exact p9 hn h1 h1'
    · obtain ⟨b,h1,_⟩:=q
      exact (List.getElem?_eq_some_iff.1 h1).1
  · obtain ⟨b,q1,q2⟩:=q
    rw [idL hi] at q1;cases q1
    exact hbk i hi q2
  · simp only [norm]
    rcases Nat.lt_or_ge keep.length lent.length with q | q
    · have:=idL q
      rw [List.getElem?_eq_none (Nat.le_refl _)] at this;cases this
    · exact q
inductive GP where
  | slot (t:Nat)
  | part (t i:Nat)
  | cell (b i:Nat)
def d9.empty:d9→Bool
  | .cf [] | .ci _ [] | .cb [] | .cs [] | .cfl [] | .cns _ []=>true
  | _=>false
def ww:List d9→Bool
  | []=>true
  | c::l=>c.empty&&ww l
def aA.isVoid:aA→Bool
  | .fl [] | .ns _ [] | .bs [] | .ss [] | .vs []=>true
  | .cols 0 cs=>ww cs
  | _=>false
theorem Bg{c:d9}(h:c.empty=true) :c.len=0:=by
  unfold d9.empty at h
  split at h<;>first | rfl | cases h
theorem o0:∀ {l:List d9},ww l=true→∀ c∈l,c.len=0
  | [],_,c,hc=>by cases hc
  | c::l,h,x,hx=>by
    simp only [ww,Bool.and_eq_true] at h
    rcases List.mem_cons.1 hx with rfl | q
    · exact Bg h.1
    · exact o0 h.2 x q
theorem rH{d:aA}(h:d.isVoid=true) :d.recKept∧d.void:=by
  unfold aA.isVoid at h
  split at h
  case h_6 =>
    rename_i cs
    have:=o0 h
    refine ⟨this,fun x=>?_⟩
    cases hc:(aA.cols 0 cs).cell? x with
    | none=>rfl
    | some v =>
      obtain ⟨c,_,h2,h3⟩:=er hc
      have:=rr h3
      rw [o0 h c h2] at this;exact absurd this (Nat.not_lt_zero _)
  case h_7=>cases h
  all_goals exact ⟨trivial,fun x=>by simp [aA.cell?]⟩
theorem Bh(b w es:Nat) :aL .nsl (.sl b w es 0 0 0):=by
  intro ρ w' u h;cases h;exact .slEnd _ _ _ _ _
theorem HR.weaken{ρ:ah}{w:World}{h:bB}{n b:Nat}{d d':aA}(hh:HR ρ w h n)(hg:aO h b=some d)(hr:d'.recKept)(hw:∀ x v',d'.cell? x=some v'→∃ v,d.cell? x=some v∧aL v v') :HR ρ w (dk h b d') n:=by
  have look:∀ x e,aO (dk h b d') x=some e→(x=b∧e=d')∨(x≠b∧aO h x=some e):=by
    intro x e hx
    rw [cR] at hx
    by_cases q:b=x
    · rw [if_pos q] at hx;cases hx;exact .inl ⟨q.symm,rfl⟩
    · rw [if_neg q] at hx;exact .inr ⟨fun e=>q e.symm,hx⟩
  have had:∀ x e,aO (dk h b d') x=some e→∃ e',aO h x=some e':=by
    intro x e hx
    rcases look x e hx with ⟨rfl,_⟩ | ⟨_,q⟩
    · exact ⟨d,hg⟩
    · exact ⟨e,q⟩
  refine ⟨fun x e hx=>?_,fun x y e f h1 h2 ok1 ok2 he=>?_,hh.fresh,hh.liveLt,hh.outLt,hh.lt,hh.rom⟩
  · rcases look x e hx with ⟨rfl,rfl⟩ | ⟨_,q⟩
    · rcases hh.cell x d hg with ⟨k1,k2,_,c,t,r1,r2⟩ | ⟨k1,k2,_,k4⟩
      · refine .inl ⟨k1,k2,hr,c,t,r1,fun y v' hy=>?_⟩
        obtain ⟨v,q1,q2⟩:=hw y v' hy
        obtain ⟨u,t1,t2⟩:=r2 y v q1
        exact ⟨u,t1,q2 _ _ _ t2⟩
      · refine .inr ⟨k1,k2,hr,fun y=>?_⟩
        cases hc:e.cell? y with
        | none=>rfl
        | some v'=>obtain ⟨v,q1,_⟩:=hw y v' hc;rw [k4 y] at q1;cases q1
    · exact hh.cell x e q
  · obtain ⟨e',q1⟩:=had x e h1
    obtain ⟨f',q2⟩:=had y f h2
    exact hh.inj x y e' f' q1 q2 ok1 ok2 he
def Kz(st:aE)(pos:GP)(w es:Nat)(d:aA) :aE :=
  match pos with
  | .slot t =>
    match st.tmps[t]? with
    | some .nsl=>⟨st.tmps.set t (.sl st.next w es 0 0 0),dk st.heap st.next d,st.next+1⟩
    | some .esl=>⟨st.tmps.set t (.sl st.next w es 0 0 0),dk st.heap st.next d,st.next+1⟩
    | _=>st
  | .part t i =>
    match st.tmps[t]? with
    | some (.agg l) =>
      match l[i]? with
      | some .nsl=>⟨st.tmps.set t (.agg (l.set i (.sl st.next w es 0 0 0))),dk st.heap st.next d,st.next+1⟩
      | _=>st
    | _=>st
  | .cell b i =>
    match aO st.heap b with
    | some (.vs l) =>
      match l[i]? with
      | some .nsl=>⟨st.tmps,dk (dk st.heap b (.vs (l.set i (.sl st.next w es 0 0 0)))) st.next d,st.next+1⟩
      | _=>st
    | _=>st
theorem OH(b w es:Nat) :aL .esl (.sl b w es 0 0 0):=by
  intro ρ w' u h;cases h;exact .slEnd _ _ _ _ _
theorem ov{ρ:ah}{w:World} :∀ {l:List AV} {c:List Value} {i:Nat} {v v':AV},di ρ w l c→l[i]? = some v→aL v v'→di ρ w (l.set i v') c
  | _,_,i,v,v',.nil,h,_=>by simp at h
  | _,_,0,v,v',.cons a u l c h t,hi,hw=>by simp at hi;subst hi;exact .cons _ _ _ _ (hw _ _ _ h) t
  | _,_,i+1,v,v',.cons a u l c h t,hi,hw=>.cons _ _ _ _ h (ov t (by simpa using hi) hw)
theorem KA{lent:List aA}{st:aE}{pos:GP}{w es:Nat}{d:aA}(hd:d.isVoid=true) :Np lent st (Kz st pos w es d):=by
  obtain ⟨d1,d2⟩:=rH hd
  rintro ρ0 w0 a w' hN ⟨ρ,E,W,S,hbk,hle⟩
  have hh:=S.heap
  have hno : ¬ ρ.ok st.next:=fun q=>Nat.lt_irrefl _ (hh.lt _ q)
  have h1:HR ρ w' (dk st.heap st.next d) (st.next+1):=(hh.le (Nat.le_succ _)).ghost hno (Nat.lt_succ_self _) d1 d2
  have id_:At lent.length ρ0 w0 st a w':=⟨ρ,E,W,S,hbk,hle⟩
  unfold Kz
  split
  · split
    · rename_i t h
      exact ⟨ρ,E,W,⟨S.defers,ov S.tmps h (Bh _ _ _),h1⟩,hbk,Nat.le_succ_of_le hle⟩
    · rename_i t h
      exact ⟨ρ,E,W,⟨S.defers,ov S.tmps h (OH _ _ _),h1⟩,hbk,Nat.le_succ_of_le hle⟩
    · exact id_
  · split
    · rename_i t i l h
      split
      · rename_i h2
        refine ⟨ρ,E,W,⟨S.defers,ov S.tmps h ?_,h1⟩,hbk,Nat.le_succ_of_le hle⟩
        intro ρ w u hu
        cases hu with | agg _ c hc=>exact .agg _ _ (ov hc h2 (Bh _ _ _))
      · exact id_
    · exact id_
  · split
    · rename_i b i _ l h
      split
      · rename_i h2
        have hw:HR ρ w' (dk st.heap b (.vs (l.set i (.sl st.next w es 0 0 0)))) st.next:=by
          refine hh.weaken h trivial fun x v' hx=>?_
          simp only [aA.cell?,List.getElem?_set] at hx ⊢
          by_cases hi:i=x
          · subst hi
            rw [if_pos rfl] at hx
            split at hx
            · cases hx;exact ⟨_,h2,Bh _ _ _⟩
            · cases hx
          · rw [if_neg hi] at hx;exact ⟨v',hx,aL.refl _⟩
        exact ⟨ρ,E,W,⟨S.defers,S.tmps,(hw.le (Nat.le_succ _)).ghost hno (Nat.lt_succ_self _) d1 d2⟩,hbk,Nat.le_succ_of_le hle⟩
      · exact id_
    · exact id_
def Bi(f:AV→Option AV)(st:aE)(pos:GP) :aE :=
  match pos with
  | .slot t =>
    match st.tmps[t]? with
    | some v=>match f v with
      | some v'=>⟨st.tmps.set t v',st.heap,st.next⟩
      | none=>st
    | none=>st
  | .part t i =>
    match st.tmps[t]? with
    | some (.agg l) =>
      match l[i]? with
      | some v=>match f v with
        | some v'=>⟨st.tmps.set t (.agg (l.set i v')),st.heap,st.next⟩
        | none=>st
      | none=>st
    | _=>st
  | .cell b i =>
    match aO st.heap b with
    | some (.vs l) =>
      match l[i]? with
      | some v=>match f v with
        | some v'=>⟨st.tmps,dk st.heap b (.vs (l.set i v')),st.next⟩
        | none=>st
      | none=>st
    | _=>st
theorem vc{lent:List aA}{st:aE}{pos:GP}{f:AV→Option AV}(hf:∀ v v',f v=some v'→aL v v') :Np lent st (Bi f st pos):=by
  rintro ρ0 w0 a w' hN ⟨ρ,E,W,S,hbk,hle⟩
  have hh:=S.heap
  have id_:At lent.length ρ0 w0 st a w':=⟨ρ,E,W,S,hbk,hle⟩
  unfold Bi
  split
  · split
    · rename_i t v h
      split
      · rename_i v' hv
        exact ⟨ρ,E,W,⟨S.defers,ov S.tmps h (hf _ _ hv),hh⟩,hbk,hle⟩
      · exact id_
    · exact id_
  · split
    · rename_i t i l h
      split
      · rename_i v h2
        split
        · rename_i v' hv
          refine ⟨ρ,E,W,⟨S.defers,ov S.tmps h ?_,hh⟩,hbk,hle⟩
          intro ρ w u hu
          cases hu with | agg _ c hc=>exact .agg _ _ (ov hc h2 (hf _ _ hv))
        · exact id_
      · exact id_
    · exact id_
  · split
    · rename_i b i _ l h
      split
      · rename_i v h2
        split
        · rename_i v' hv
          have hw:HR ρ w' (dk st.heap b (.vs (l.set i v'))) st.next:=by
            refine hh.weaken h trivial fun x u hx=>?_
            simp only [aA.cell?,List.getElem?_set] at hx ⊢
            by_cases hi:i=x
            · subst hi
              rw [if_pos rfl] at hx
              split at hx
              · cases hx;exact ⟨_,h2,hf _ _ hv⟩
              · cases hx
            · rw [if_neg hi] at hx;exact ⟨u,hx,aL.refl _⟩
          exact ⟨ρ,E,W,⟨S.defers,S.tmps,hw⟩,hbk,hle⟩
        · exact id_
      · exact id_
    · exact id_
theorem ow{d:aA}(h:d.isVoid=true) :d.kept=true∧d.foreign=true:=by
  unfold aA.isVoid at h
  split at h<;>first | exact ⟨rfl,rfl⟩ | cases h
theorem Nq{d:aA}(w es:Nat)(hd:d.isVoid=true) :aL .nsl (.imm .free d w es 0 0):=by
  intro ρ w' u h;cases h;exact .immEnd _ _ _ _ _ _ _ (rH hd).1 (fun _=>(ow hd).1) (ow hd).2
theorem Nr{d:aA}(w es:Nat)(hd:d.isVoid=true) :aL .esl (.imm .free d w es 0 0):=by
  intro ρ w' u h;cases h;exact .immEnd _ _ _ _ _ _ _ (rH hd).1 (fun _=>(ow hd).1) (ow hd).2
def KB(w es:Nat)(d:aA) :AV→Option AV
  | .nsl | .esl=>some (.imm .free d w es 0 0)
  | _=>none
theorem HQ{w es:Nat}{d:aA}(hd:d.isVoid=true) :∀ v v',KB w es d v=some v'→aL v v':=by
  intro v v' h
  unfold KB at h
  split at h
  · cases h;exact Nq _ _ hd
  · cases h;exact Nr _ _ hd
  · cases h
theorem MF{l:Lv}{ρ:ah}{bl:Nat}(ha:ρ.avoid .free bl) :ρ.avoid l bl:=gi (fun j=>ha j (Nat.zero_le _)) _ _
def Rf(l:Lv) :AV→Option AV
  | .imm .free d w es i n=>some (.imm l d w es i n)
  | .iptr .free d w i j=>some (.iptr l d w i j)
  | _=>none
theorem Ns{l:Lv} :∀ v v',Rf l v=some v'→aL v v':=by
  intro v v' h
  unfold Rf at h
  split at h
  · cases h
    intro ρ w' u hu
    cases hu with
    | imm _ _ _ _ _ _ cap bl o u ha hb hc hv hn hr hk hg=>exact .imm _ _ _ _ _ _ cap bl o u (MF ha) hb hc hv hn hr (fun _=>hk rfl) hg
    | immEnd _ _ _ _ _ cap a hr hk hg=>exact .immEnd _ _ _ _ _ cap a hr (fun _=>hk rfl) hg
  · cases h
    intro ρ w' u hu
    cases hu with
    | iptr _ _ _ _ _ bl o u ha hb hc hv hr hk hg=>exact .iptr _ _ _ _ _ bl o u (MF ha) hb hc hv hr (fun _=>hk rfl) hg
  · cases h
def OI:AV→Option AV
  | .imm _ d w es i n=>some (.imm .lent d w es i n)
  | .iptr _ d w i j=>some (.iptr .lent d w i j)
  | _=>none
theorem KC:∀ v v',OI v=some v'→aL v v':=by
  intro v v' h
  unfold OI at h
  split at h
  · cases h
    intro ρ w' u hu
    cases hu with
    | imm _ _ _ _ _ _ cap bl o u ha hb hc hv hn hr hk hg=>exact .imm _ _ _ _ _ _ cap bl o u (uV (O:=ρ.own) ha) hb hc hv hn hr (fun q=>by cases q) hg
    | immEnd _ _ _ _ _ cap a hr hk hg=>exact .immEnd _ _ _ _ _ cap a hr (fun q=>by cases q) hg
  · cases h
    intro ρ w' u hu
    cases hu with
    | iptr _ _ _ _ _ bl o u ha hb hc hv hr hk hg=>exact .iptr _ _ _ _ _ bl o u (uV (O:=ρ.own) ha) hb hc hv hr (fun q=>by cases q) hg
  · cases h
inductive GK where
  | own (w es:Nat) (d:aA)
  | fre (w es:Nat) (d:aA)
  | lev (l:Lv)
  | low
abbrev GL:=List (GP×GK)
def xY:GL→aE→aE
  | [],st=>st
  | (p,.fre w es d)::l,st=>xY l (Bi (KB w es d) st p)
  | (p,.own w es d)::l,st=>xY l (Kz st p w es d)
  | (p,.lev v)::l,st=>xY l (Bi (Rf v) st p)
  | (p,.low)::l,st=>xY l (Bi OI st p)
def iu:GL→Bool
  | []=>true
  | (_,.own _ _ d)::l=>d.isVoid&&iu l
  | (_,.fre _ _ d)::l=>d.isVoid&&iu l
  | (_,.lev _)::l=>iu l
  | (_,.low)::l=>iu l
theorem nq{lent:List aA} :∀ {l:GL} {st:aE},iu l=true→Np lent st (xY l st)
  | [],st,_=>Np.refl _ _
  | (p,.fre w es d)::l,st,h=>by
    simp only [iu,Bool.and_eq_true] at h
    exact (vc (HQ h.1)).trans (nq h.2)
  | (p,.own w es d)::l,st,h=>by
    simp only [iu,Bool.and_eq_true] at h
    exact (KA h.1).trans (nq h.2)
  | (p,.lev v)::l,st,h=>(vc Ns).trans (nq (l:=l) (by simpa [iu] using h))
  | (p,.low)::l,st,h=>(vc KC).trans (nq (l:=l) (by simpa [iu] using h))
structure NS where
  gs:GL
  keep:List Nat
  ks:List Nat
def NS.ok(k:Nat)(s:NS) :Bool:=iu s.gs&&Ky k s.keep
def NS.on(s:NS)(st:aE) :aE:=norm s.keep s.ks (xY s.gs st)
theorem OJ{lent:List aA}{s:NS}(h:s.ok lent.length=true)(st:aE) :Np lent st (s.on st):=by
  unfold NS.ok at h
  rw [Bool.and_eq_true] at h
  exact (nq h.1).trans (OG h.2 _)
def fa:Code→List Code
  | .seq a b=>fa a++fa b
  | .skip=>[]
  | .label _=>[]
  | c=>[c]
def C5(P:Program) :List Code→(Exit→Act→World→Prop)→Act→World→Prop
  | [],K,a,w=>K .normal a w
  | c::l,K,a,w=>c.wp P (fun e a' w'=>match e with | .normal=>C5 P l K a' w' | e=>K e a' w') a w
theorem vd{P:Program}{K:Exit→Act→World→Prop} :∀ (l l':List Code) (a:Act) (w:World),C5 P l (fun e a' w'=>match e with | .normal=>C5 P l' K a' w' | e=>K e a' w') a w→C5 P (l++l') K a w
  | [],l',a,w,h=>h
  | c::l,l',a,w,h=>by
    simp only [List.cons_append,C5] at h ⊢
    refine wp_mono h ?_
    intro e a' w' q
    cases e<;>first | exact vd l l' a' w' q | exact q
theorem o5{P:Program}{c:Code}{K:Exit→Act→World→Prop}{a:Act}{w:World}(h:C5 P [c] K a w) :c.wp P K a w:=by
  simp only [C5] at h
  refine wp_mono h ?_
  intro e a' w' q
  cases e<;>exact q
theorem qe{P:Program} :∀ (c:Code) {K:Exit→Act→World→Prop} {a:Act} {w:World},C5 P (fa c) K a w→c.wp P K a w
  | .seq x y,K,a,w,h=>by
    simp only [fa] at h
    refine wp_seq (qe x ?_)
    have app:∀ (l l':List Code) (a:Act) (w:World),C5 P (l++l') K a w→C5 P l (fun e a' w'=>match e with | .normal=>C5 P l' K a' w' | e=>K e a' w') a w:=by
      intro l
      induction l with
      | nil=>intro l' a w h;exact h
      | cons c l ih =>
        intro l' a w h
        simp only [List.cons_append,C5] at h ⊢
        refine wp_mono h ?_
        intro e a' w' q
        cases e<;>first | exact ih l' a' w' q | exact q
    have:=app _ _ _ _ h
    have mono:∀ (l:List Code) (K K':Exit→Act→World→Prop) (a:Act) (w:World),(∀ e a w,K e a w→K' e a w)→C5 P l K a w→C5 P l K' a w:=by
      intro l
      induction l with
      | nil=>intro K K' a w hK h;exact hK _ _ _ h
      | cons c l ih =>
        intro K K' a w hK h
        simp only [C5] at h ⊢
        refine wp_mono h ?_
        intro e a' w' q
        cases e<;>first | exact ih K K' a' w' hK q | exact hK _ _ _ q
    refine mono _ _ _ _ _ ?_ this
    intro e a' w' q
    cases e<;>first | exact qe y q | exact q
  | .skip,K,a,w,h=>wp_skip h
  | .label _,K,a,w,h=>wp_label h
  | .region ..,K,a,w,h=>o5 h
  | .cond ..,K,a,w,h=>o5 h
  | .block ..,K,a,w,h=>o5 h
  | .loop ..,K,a,w,h=>o5 h
  | .exit ..,K,a,w,h=>o5 h
  | .ret,K,a,w,h=>o5 h
  | .scope ..,K,a,w,h=>o5 h
  | .goto ..,K,a,w,h=>o5 h
  | .rangeFunc ..,K,a,w,h=>o5 h
  | .refuse ..,K,a,w,h=>o5 h
def eR(P:Program)(lent:List aA)(cs:List Code)(st:aE)(Q:AE→aE→Prop) :Prop :=
  ∀ (ρ0:ah) (w0:World),jc ρ0 w0 lent→∀ (K:Exit→Act→World→Prop),(∀ e st' a' w',Q e st'→At lent.length ρ0 w0 st' a' w'→K e.real a' w')→∀ a w,At lent.length ρ0 w0 st a w→C5 P cs K a w
def Nt(self:ou) :List Code→aE→eI→QJ
  | [],st,p=>some (.normal,st,[],p)
  | c::l,st,p =>
    match self c st p with
    | some (.normal,st1,o1,p1) =>
      match Nt self l st1 p1 with
      | some (e,st2,o2,p2)=>some (e,st2,o1++o2,p2)
      | none=>none
    | r=>r
theorem MG{P:Program}{self:ou}(hself:Bb P self) :∀ (cs:List Code) {st st':aE} {p p':eI} {e:AE} {obs:List Bool},Nt self cs st p=some (e,st',obs,p')→az obs→∀ {ρ:ah} {a:Act} {w:World} {Q:Exit→Act→World→Prop},SR ρ st a w →
    (∀ ρ' a' w',rA ρ w st.next st' ρ' a' w'→Q e.real a' w')→C5 P cs Q a w
  | [],st,st',p,p',e,obs,h,ho,ρ,a,w,Q,hs,hQ=>by
    simp only [Nt,Option.some.injEq,Prod.mk.injEq] at h;obtain ⟨rfl,rfl,rfl,rfl⟩:=h
    exact hQ ρ a w (rA.refl hs)
  | c::l,st,st',p,p',e,obs,h,ho,ρ,a,w,Q,hs,hQ=>by
    simp only [Nt] at h
    split at h
    · rename_i st1 o1 p1 h1
      split at h
      case h_2=>cases h
      rename_i e2 st2 o2 p2 h2
      simp only [Option.some.injEq,Prod.mk.injEq] at h;obtain ⟨rfl,rfl,rfl,rfl⟩:=h
      rw [aV] at ho
      refine hself c st p _ _ _ _ h1 ho.1 ρ a w _ hs fun ρ1 a1 w1 P1=>?_
      exact MG hself l h2 ho.2 P1.sr fun ρ2 a2 w2 P2=>hQ ρ2 a2 w2 (P1.trans P2)
    · rename_i hne
      refine hself c st p _ _ _ _ h ho ρ a w _ hs fun ρ1 a1 w1 P1=>?_
      have:=hQ ρ1 a1 w1 P1
      cases e with
      | normal=>exact (hne _ _ _ h).elim
      | ret=>exact this
      | exit id=>exact this
theorem At.post{lent:List aA}{ρ0 ρ ρ':ah}{w0 w w':World}{st st':aE}{a a':Act}(E:ji ρ0 ρ w0)(W:fR ρ0.live w0 w)(hbk:∀ i,i<lent.length→ρ.ok i→ρ0.ok i)(hle:lent.length≤st.next)(h:rA ρ w st.next st' ρ' a' w') :At lent.length ρ0 w0 st' a' w' :=
  ⟨ρ',E.trans h.ext W.size,W.trans h.wle (fun x hx q=>E.new x hx q),h.sr,fun i hi q=>(h.back i q).elim (hbk i hi) (fun r=>by omega),Nat.le_trans hle h.le⟩
theorem eR.weak{P:Program}{lent:List aA}{cs:List Code}{st st1:aE}{Q:AE→aE→Prop}(hs:Np lent st st1)(h:eR P lent cs st1 Q) :eR P lent cs st Q :=
  fun ρ0 w0 hN K hK a w hA=>h ρ0 w0 hN K hK a w (hs _ _ _ _ hN hA)
theorem eR.nil{P:Program}{lent:List aA}{st:aE}{Q:AE→aE→Prop}(h:Q .normal st) :eR P lent [] st Q :=
  fun ρ0 w0 hN K hK a w hA=>hK .normal st a w h hA
def Di(P:Program)(lent:List aA)(rest:List Code)(e:AE)(st:aE)(Q:AE→aE→Prop) :Prop :=
  match e with
  | .normal=>eR P lent rest st Q
  | e=>Q e st
theorem Di.exit{P:Program}{lent:List aA}{rest:List Code}{id:Nat}{st:aE}{Q:AE→aE→Prop}(h:Q (.exit id) st) :Di P lent rest (.exit id) st Q:=h
theorem Di.ret{P:Program}{lent:List aA}{rest:List Code}{st:aE}{Q:AE→aE→Prop}(h:Q .ret st) :Di P lent rest .ret st Q:=h
theorem Di.normal{P:Program}{lent:List aA}{rest:List Code}{st:aE}{Q:AE→aE→Prop}(h:eR P lent rest st Q) :Di P lent rest .normal st Q:=h
def OK(s:NS)(r:QJ) :Option (AE×aE×List Bool) :=
  match r with
  | some (e,st,obs,_)=>some (e,s.on st,obs)
  | none=>none
theorem eR.seg{C:u9}(hC:C.Ok){S:wv}(hS:aX C.P S){lent:List aA}{N n:Nat}(k:Nat)(p:eI)(s:NS){cs:List Code}{st st1:aE}{e:AE}{obs:List Bool}{Q:AE→aE→Prop} 
    (h:OK s (Nt (eV C S N n) (cs.take k) st p)=some (e,st1,obs)) (hn:s.ok lent.length=true) (ho:az obs) (hr:Di C.P lent (cs.drop k) e st1 Q):eR C.P lent cs st Q:=by
  intro ρ0 w0 hN K hK a w ⟨ρ,E,W,S1,hbk,hle⟩
  rw [←List.take_append_drop k cs]
  apply vd
  unfold OK at h
  split at h
  case h_2=>cases h
  rename_i e' st2 obs' p' hrun
  simp only [Option.some.injEq,Prod.mk.injEq] at h;obtain ⟨rfl,rfl,rfl⟩:=h
  refine MG (qc hC hS N n) _ hrun ho S1 fun ρ' a' w' P1=>?_
  have hA:=OJ hn st2 ρ0 w0 a' w' hN (At.post (st:=st) (a:=a) E W hbk hle P1)
  cases e' with
  | normal=>exact hr ρ0 w0 hN K hK a' w' hA
  | ret=>exact hK _ _ _ _ hr hA
  | exit id=>exact hK _ _ _ _ hr hA
def wx(P:Program)(lent:List aA){σ:Type}(I:σ→aE)(G:σ→Prop)(m:σ→Nat)(s:σ)(id:Nat)(rest:List Code)(Q:AE→aE→Prop)(e:AE)(st:aE) :Prop :=
  match e with
  | .normal=>∃ s',G s'∧m s'<m s∧st=I s'
  | .exit j=>if j=id then eR P lent rest st Q else Q (.exit j) st
  | .ret=>Q .ret st
theorem wx.out{P:Program}{lent:List aA}{σ:Type}{I:σ→aE}{G:σ→Prop}{m:σ→Nat}{s:σ}{id:Nat}{rest:List Code}{Q:AE→aE→Prop}{st:aE}(h:eR P lent rest st Q) :wx P lent I G m s id rest Q (.exit id) st:=by
  simp only [wx,if_true];exact h
theorem wx.on{P:Program}{lent:List aA}{σ:Type}{I:σ→aE}{G:σ→Prop}{m:σ→Nat}{s:σ}{id:Nat}{rest:List Code}{Q:AE→aE→Prop}{st:aE}(s':σ)(hs:st=I s')(hm:m s'<m s)(hG:G s') :eR P lent [] st (wx P lent I G m s id rest Q) :=
  eR.nil ⟨s',hG,hm,hs⟩
theorem eR.loop{P:Program}{lent:List aA}{σ:Type}(I:σ→aE)(G:σ→Prop)(m:σ→Nat){id:Nat}{b:Code}{cs rest:List Code}{Q:AE→aE→Prop}(hcs:cs=.block id (.loop b)::rest) 
    (body:∀ s,G s→eR P lent (fa b) (I s) (wx P lent I G m s id rest Q)) (s:σ) (hs:G s):eR P lent cs (I s) Q:=by
  subst hcs
  intro ρ0 w0 hN K hK a w hA
  simp only [C5]
  refine wp_block ?_
  refine wp_loop_rounds (m s+1) ?_
  have key:∀ n s,m s<n→G s→∀ a w,At lent.length ρ0 w0 (I s) a w→Code.rounds P b (Exit.inBlock id fun (e:Exit) a' w'=>match e with | .normal=>C5 P rest K a' w' | e=>K e a' w') n a w:=by
    intro n
    induction n with
    | zero=>intro s h;omega
    | succ n ih =>
      intro s hm hs a w hA
      rw [rounds_succ]
      refine qe b ?_
      refine body s hs ρ0 w0 hN _ ?_ a w hA
      intro e st' a' w' hR hA'
      cases e with
      | normal =>
        obtain ⟨s',h1,h2,rfl⟩:=hR
        exact ih s' (by omega) h1 a' w' hA'
      | ret=>exact hK _ _ _ _ hR hA'
      | exit j =>
        simp only [wx] at hR
        by_cases hj:j=id
        · subst hj
          rw [if_pos rfl] at hR
          simp only [AE.real,Exit.then,Exit.inBlock,if_true]
          exact hR ρ0 w0 hN K hK a' w' hA'
        · rw [if_neg hj] at hR
          simp only [AE.real,Exit.then,Exit.inBlock,hj,if_false]
          exact hK _ _ _ _ hR hA'
  exact key _ s (Nat.lt_succ_self _) hs a w hA
theorem eR.mono{P:Program}{lent:List aA}{cs:List Code}{st:aE}{Q Q':AE→aE→Prop}(hQ:∀ e st,Q e st→Q' e st)(h:eR P lent cs st Q) :eR P lent cs st Q' :=
  fun ρ0 w0 hN K hK a w hA=>h ρ0 w0 hN K (fun e st' a' w' q hA'=>hK e st' a' w' (hQ e st' q) hA') a w hA
theorem eR.block{P:Program}{lent:List aA}{id:Nat}{b:Code}{cs rest:List Code}{st:aE}{Q:AE→aE→Prop}(hcs:cs=.block id b::rest) 
    (h:eR P lent (fa b) st fun e st'=>match e with | .normal=>eR P lent rest st' Q | .exit j=>if j=id then eR P lent rest st' Q else Q (.exit j) st' | .ret=>Q .ret st'):eR P lent cs st Q:=by
  subst hcs
  intro ρ0 w0 hN K hK a w hA
  simp only [C5]
  refine wp_block (qe b ?_)
  refine h ρ0 w0 hN _ ?_ a w hA
  intro e st' a' w' hR hA'
  cases e with
  | normal=>exact hR ρ0 w0 hN K hK a' w' hA'
  | ret=>exact hK _ _ _ _ hR hA'
  | exit j =>
    simp only at hR
    by_cases hj:j=id
    · subst hj
      rw [if_pos rfl] at hR
      simp only [AE.real,Exit.inBlock,if_true]
      exact hR ρ0 w0 hN K hK a' w' hA'
    · rw [if_neg hj] at hR
      simp only [AE.real,Exit.inBlock,hj,if_false]
      exact hK _ _ _ _ hR hA'
theorem eR.scope{P:Program}{lent:List aA}{b:Code}{cs rest:List Code}{st:aE}{Q:AE→aE→Prop}(hcs:cs=.scope b::rest) 
    (h:eR P lent (fa b) st fun e st'=>Di P lent rest e st' Q):eR P lent cs st Q:=by
  subst hcs
  intro ρ0 w0 hN K hK a w hA
  simp only [C5]
  refine wp_scope_straight (qe b ?_)
  refine h ρ0 w0 hN _ ?_ a w hA
  intro e st' a' w' hR hA'
  cases e with
  | normal=>exact hR ρ0 w0 hN K hK a' w' hA'
  | ret=>exact hK _ _ _ _ hR hA'
  | exit j=>exact hK _ _ _ _ hR hA'
def MH(P:Program)(fn:Func)(k:Nat)(keep:Bool)(r:gq)(e:AE)(st:aE) :Prop :=
  (e=.normal∨e=.ret)∧∃ vs obs,fW P fn st fn.results.toList=some (vs,obs)∧az obs∧A9 k keep st.heap (xW vs)=some r
theorem eR.contract{P:Program}{f:FuncId}{fn:Func}{c:Code}(hf:P.funcs[f]? = some fn)(hc:fn.body=some c){lent:List aA}{args:List AV}{r:gq}{keep:Bool} 
    (h:eR P lent (fa c) (kK fn lent args) (MH P fn lent.length keep r)):ae P f lent args r:=by
  refine rG (keep:=keep) hf hc ?_
  intro ρ w a hN hs
  refine qe c ?_
  refine h ρ w hN _ ?_ a w ⟨ρ,ji.refl _ _,fR.refl _ _,hs,fun _ _ q=>q,Nat.le_refl _⟩
  rintro e st' a' w' ⟨he,vs,obs,h1,h2,h3⟩ ⟨ρ',E,W,S,hbk,_⟩
  refine ⟨?_,ρ',st',vs,obs,E,W,hbk,S,h1,h2,h3⟩
  rcases he with rfl | rfl
  · exact .inl rfl
  · exact .inr rfl
def aC(x:Nat) :Nat:=x%9223372036854775808
def mq(x y:Nat) :Nat:=x%9223372036854775808+y/9223372036854775808%2*9223372036854775808
def oz(x y:Nat) :Bool:=(isNaN x&&isNaN y)||x==y
theorem jd(x:Nat) :BitVec.ofInt 64 (x:Int)=BitVec.ofNat 64 x:=by simp
theorem PY : ~~~ BitVec.ofInt 64 9223372036854775808=BitVec.ofNat 64 (2^63-1):=by decide
theorem dQ(n:Nat) :IntKind.u64.wrap (n:Int)=((n%18446744073709551616:Nat):Int):=by
  simp [IntKind.wrap,IntKind.signed,IntKind.bits]
theorem OL(x:Nat) :(bv .andNot .u64 (x:Int) 9223372036854775808)=((aC x:Nat):Int):=by
  have e:(BitVec.ofInt IntKind.u64.bits (x:Int) &&& ~~~ BitVec.ofInt IntKind.u64.bits 9223372036854775808).toNat=x%9223372036854775808:=by
    show (BitVec.ofInt 64 (x:Int) &&& ~~~ BitVec.ofInt 64 9223372036854775808).toNat=_
    rw [PY,jd,BitVec.toNat_and,BitVec.toNat_ofNat,BitVec.toNat_ofNat]
    have:(2^63-1)%2^64=2^63-1:=by decide
    rw [this,Nat.and_two_pow_sub_one_eq_mod]
    omega
  unfold bv
  simp only
  rw [e,dQ]
  congr 1
  unfold aC
  omega
theorem Ri(y:Nat) :(bv .and .u64 (y:Int) 9223372036854775808)=((y/9223372036854775808%2*9223372036854775808:Nat):Int):=by
  have e:(BitVec.ofInt IntKind.u64.bits (y:Int) &&& BitVec.ofInt IntKind.u64.bits 9223372036854775808).toNat=y/9223372036854775808%2*9223372036854775808:=by
    show (BitVec.ofInt 64 (y:Int) &&& BitVec.ofInt 64 9223372036854775808).toNat=_
    have h1:BitVec.ofInt 64 9223372036854775808=BitVec.ofNat 64 (2^63):=by decide
    rw [h1,jd,BitVec.toNat_and,BitVec.toNat_ofNat,BitVec.toNat_ofNat]
    have:2^63%2^64=2^63:=by decide
    rw [this]
    apply Nat.eq_of_testBit_eq;intro i
    have e2:(9223372036854775808:Nat)=2^63:=by decide
    rw [e2,Nat.testBit_and,Nat.testBit_two_pow,Nat.testBit_mod_two_pow,Nat.testBit_mul_two_pow]
    by_cases hi:63=i
    · subst hi
      simp [Nat.testBit_eq_decide_div_mod_eq]
    · by_cases h2:63≤i
      · have h3:∃ j,i-63=j+1:=⟨i-64,by omega⟩
        obtain ⟨j,hj⟩:=h3
        have:(y/2^63%2).testBit (i-63)=false:=by
          have:=Nat.mod_lt (y/2^63) (by decide:2>0)
          apply Nat.testBit_lt_two_pow
          calc y/2^63%2<2:=this
            _=2^1:=rfl
            _≤2^(i-63):=Nat.pow_le_pow_right (by decide) (by omega)
        simp [hi,this]
      · simp [hi,h2]
  unfold bv
  simp only
  rw [e,dQ]
  congr 1
  omega
theorem PZ(x:Nat) :(IntKind.u64.wrap ((x:Int)*2^min (Int.toNat 1) IntKind.u64.bits)).fdiv (2^min (Int.toNat 1) IntKind.u64.bits)=((aC x:Nat):Int):=by
  have h1:min (Int.toNat 1) IntKind.u64.bits=1:=by decide
  have h2:(2:Int)^1=2:=by decide
  rw [h1,h2]
  have h3:(x:Int)*2=((x*2:Nat):Int):=by push_cast;rfl
  rw [h3,dQ,Int.fdiv_eq_ediv_of_nonneg _ (by decide:(0:Int)≤2)]
  unfold aC
  omega
theorem RN(x y:Nat) :bv .or .u64 ((aC x:Nat):Int) ((y/9223372036854775808%2*9223372036854775808:Nat):Int)=((mq x y:Nat):Int):=by
  have e:(BitVec.ofInt IntKind.u64.bits ((aC x:Nat):Int) ||| BitVec.ofInt IntKind.u64.bits ((y/9223372036854775808%2*9223372036854775808:Nat):Int)).toNat=mq x y:=by
    show (BitVec.ofInt 64 ((aC x:Nat):Int) ||| BitVec.ofInt 64 ((y/9223372036854775808%2*9223372036854775808:Nat):Int)).toNat=_
    rw [jd,jd,BitVec.toNat_or,BitVec.toNat_ofNat,BitVec.toNat_ofNat]
    unfold aC mq
    have hb0:=Nat.mod_lt (y/9223372036854775808) (by decide:2>0)
    generalize y/9223372036854775808%2=b at *
    have e2:(9223372036854775808:Nat)=2^63:=by decide
    have l1:x%9223372036854775808%2^64=x%9223372036854775808:=by omega
    rw [l1]
    rcases Nat.lt_or_ge b 2 with hb | hb
    · have l2:b*9223372036854775808%2^64=b*9223372036854775808:=by omega
      rw [l2,Nat.or_comm,Nat.add_comm,e2,Nat.mul_comm b,Nat.two_pow_add_eq_or_of_lt (Nat.mod_lt _ (by decide))]
    · omega
  unfold bv
  simp only
  rw [e,dQ]
  congr 1
  unfold mq
  have:=Nat.mod_lt x (by decide:9223372036854775808>0)
  have:=Nat.mod_lt (y/9223372036854775808) (by decide:2>0)
  omega
theorem Bj(x:Nat) :isNaN (aC x)=isNaN x:=by
  rw [lG,lG];unfold aC;rw [Nat.mod_mod]
theorem oA(x y:Nat) :isNaN (mq x y)=isNaN x:=by
  rw [lG,lG];unfold mq
  rw [Nat.add_mul_mod_self_right,Nat.mod_mod]
theorem OM{ex:Bool}{x y:Nat}(h:FR ex x y) :FR false (aC x) (aC y):=by
  rcases h with rfl | ⟨h1,h2,h3⟩
  · exact .inl rfl
  · exact .inr ⟨rfl,by rw [Bj];exact h2,by rw [Bj];exact h3⟩
theorem FR.copy{e1 e2:Bool}{x y x' y':Nat}(h:FR e1 x x')(k:FR e2 y y')(hn:isNaN y=true→isNaN x=true) :FR false (mq x y) (mq x' y'):=by
  rcases h with rfl | ⟨h1,h2,h3⟩
  · rcases k with rfl | ⟨k1,k2,k3⟩
    · exact .inl rfl
    · exact .inr ⟨rfl,by rw [oA];exact hn k2,by rw [oA];exact hn k2⟩
  · exact .inr ⟨rfl,by rw [oA];exact h2,by rw [oA];exact h3⟩
theorem FR.same{e1 e2:Bool}{x y x' y':Nat}(h:FR e1 x x')(k:FR e2 y y') :oz x' y'=oz x y:=by
  unfold oz
  rcases h with rfl | ⟨h1,h2,h3⟩
  · rcases k with rfl | ⟨k1,k2,k3⟩
    · rfl
    · rw [k2,k3]
      cases hx:isNaN x' with
      | true=>rfl
      | false =>
        have a:(x'==y')=false:=by
          rw [beq_eq_false_iff_ne];intro e;rw [e] at hx;rw [hx] at k3;cases k3
        have b:(x'==y)=false:=by
          rw [beq_eq_false_iff_ne];intro e;rw [e] at hx;rw [hx] at k2;cases k2
        rw [a,b]
  · rcases k with rfl | ⟨k1,k2,k3⟩
    · rw [h2,h3]
      cases hx:isNaN y' with
      | true=>rfl
      | false =>
        have a:(x'==y')=false:=by
          rw [beq_eq_false_iff_ne];intro e;rw [e] at h3;rw [hx] at h3;cases h3
        have b:(x==y')=false:=by
          rw [beq_eq_false_iff_ne];intro e;rw [e] at h2;rw [hx] at h2;cases h2
        rw [a,b]
    · rw [h2,h3,k2,k3];rfl
theorem KD(x:Nat) :oz x x=true:=by simp [oz]
theorem gq.Holds.weak{ρ:ah}{w w':World}{k:Nat}{v v':AV}{own:List (Option aA)}{u:Value}(h:(⟨v,own⟩:gq).Holds ρ w w' k u)(hw:∀ ρ w,VR ρ w v u→VR ρ w v' u) :(⟨v',own⟩:gq).Holds ρ w w' k u:=by
  obtain ⟨ρ',h1,h2,h3,h4⟩:=h
  exact ⟨ρ',h1,h2,h3,hw _ _ h4⟩
theorem rg{P:Program}{f:FuncId}{ex:Bool}{x:Nat}{r:Nat→AV}{r':AV}(h:∀ y,ae P f [] [.flt true y] ⟨r y,[]⟩) 
    (hw:∀ y,FR ex x y→∀ ρ w u,VR ρ w (r y) u→VR ρ w r' u):ae P f [] [.flt ex x] ⟨r',[]⟩:=by
  intro ρ w us hN hv
  cases hv with | cons _ u _ _ h1 h2 =>
  cases h2
  cases h1 with | flt _ _ y hf =>
  obtain ⟨q1,q2⟩:=h y ρ w [.float .f64 y] hN (.cons _ _ _ _ (.flt _ _ _ (.inl rfl)) .nil)
  refine ⟨q1,q2.mono ?_⟩
  rintro e w' ⟨u,rfl,W,hu⟩
  exact ⟨u,rfl,W,hu.weak fun ρ w=>hw y hf ρ w u⟩
theorem rh{P:Program}{f:FuncId}{e1 e2:Bool}{x1 x2:Nat}{r:Nat→Nat→AV}{r':AV}(h:∀ y1 y2,ae P f [] [.flt true y1,.flt true y2] ⟨r y1 y2,[]⟩) 
    (hw:∀ y1 y2,FR e1 x1 y1→FR e2 x2 y2→∀ ρ w u,VR ρ w (r y1 y2) u→VR ρ w r' u):ae P f [] [.flt e1 x1,.flt e2 x2] ⟨r',[]⟩:=by
  intro ρ w us hN hv
  cases hv with | cons _ u _ _ h1 h2 =>
  cases h2 with | cons _ u _ _ h3 h4 =>
  cases h4
  cases h1 with | flt _ _ y1 hf1 =>
  cases h3 with | flt _ _ y2 hf2 =>
  obtain ⟨q1,q2⟩:=h y1 y2 ρ w [.float .f64 y1,.float .f64 y2] hN (.cons _ _ _ _ (.flt _ _ _ (.inl rfl)) (.cons _ _ _ _ (.flt _ _ _ (.inl rfl)) .nil))
  refine ⟨q1,q2.mono ?_⟩
  rintro e w' ⟨u,rfl,W,hu⟩
  exact ⟨u,rfl,W,hu.weak fun ρ w=>hw y1 y2 hf1 hf2 ρ w u⟩
theorem VR.flt_weak{ρ:ah}{w:World}{x y:Nat}{u:Value}(h:VR ρ w (.flt true y) u)(hf:FR false x y) :VR ρ w (.flt false x) u:=by
  cases h with | flt _ _ z hz =>
  rcases hz with rfl | ⟨h1,_⟩
  · exact .flt _ _ _ hf
  · cases h1
theorem rI(x:Nat) :zO x x=isNaN x:=by
  cases h:isNaN x with
  | true=>unfold zO;rw [v4 (.inl h)];rfl
  | false =>
    simp only [zO,ke]
    unfold isNaN FloatKind.decode at h
    unfold Ieee.Format.order
    generalize FloatKind.f64.format.read x=d at h
    cases d with
    | nan=>simp [Ieee.Datum.isNaN] at h
    | infinity s=>simp [Ieee.Datum.order]
    | number s m i=>simp [Ieee.Datum.order]
structure aD where
  f:FuncId
  on:List aA→List AV→Option (List nk)
def bc:List aD→wv
  | [],_,_,_=>none
  | e::l,f,lent,args=>bif Nat.beq e.f f then (match e.on lent args with | some r=>some r | none=>bc l f lent args) else bc l f lent args
def aM(P:Program)(e:aD) :Prop:=∀ lent args alts a,e.on lent args=some alts→a∈alts→az a.obs→ae P e.f lent args a.out
theorem Bk(P:Program) :aX P (bc []):=fun f lent args alts a h=>by cases h
theorem an{P:Program}{e:aD}{l:List aD}(he:aM P e)(hl:aX P (bc l)) :aX P (bc (e::l)):=by
  intro f lent args alts a h ha ho
  simp only [bc] at h
  cases hb:Nat.beq e.f f with
  | false=>rw [hb] at h;exact hl f lent args alts a h ha ho
  | true =>
    rw [hb] at h
    have:=Nat.eq_of_beq_eq_true hb
    subst this
    simp only [cond_true] at h
    split at h
    · rename_i r hr
      cases h
      exact he lent args alts a hr ha ho
    · exact hl _ lent args alts a h ha ho
def one(v:AV)(obs:List Bool) :Option (List nk):=some [⟨⟨v,[]⟩,obs⟩]
def ON(v:AV)(own:List (Option aA))(obs:List Bool) :Option (List nk):=some [⟨⟨v,own⟩,obs⟩]
theorem Nu{P:Program}{f:FuncId}{lent:List aA}{args:List AV}{alts:List nk}{a:nk}{v:AV}{own:List (Option aA)}{obs:List Bool}(h:ON v own obs=some alts)(ha:a∈alts)(ho:az a.obs) 
    (hc:az obs→ae P f lent args ⟨v,own⟩):ae P f lent args a.out:=by
  simp only [ON,Option.some.injEq] at h;subst h
  simp only [List.mem_singleton] at ha;subst ha
  exact hc ho
theorem kj{P:Program}{f:FuncId}{lent:List aA}{args:List AV}{alts:List nk}{a:nk}{v:AV}{obs:List Bool}(h:one v obs=some alts)(ha:a∈alts)(ho:az a.obs) 
    (hc:az obs→ae P f lent args ⟨v,[]⟩):ae P f lent args a.out:=Nu (own:=[]) h ha ho hc
theorem ae.run{C:u9}(hC:C.Ok){S:wv}(hS:aX C.P S)(p:eI){f:FuncId}{lent:List aA}{args:List AV}{p':eI}{r:gq}{obs:List Bool}(N n:Nat)(h:np C S (eV C S N n) f lent args p=some (r,obs,p'))(ho:az obs) :
    ae C.P f lent args r:=zS hC hS N n h ho
theorem ob{b:Bool}{l:List Bool}(h:b=true)(t:az l) :az (b::l):=⟨h,t⟩
theorem Sb:az []:=trivial
inductive ee:List AV→List AV→Prop
  | nil:ee [] []
  | cons {v v':AV} {l l':List AV} (h:aL v v') (t:ee l l'):ee (v::l) (v'::l')
theorem ee.vrs{ρ:ah}{w:World} :∀ {l l':List AV} {c:List Value},ee l l'→di ρ w l c→di ρ w l' c
  | _,_,_,.nil,.nil=>.nil
  | _,_,_,.cons h t,.cons _ _ _ _ hv tv=>.cons _ _ _ _ (h _ _ _ hv) (ee.vrs t tv)
theorem ee.refl:∀ l:List AV,ee l l
  | []=>.nil
  | v::l=>.cons (aL.refl v) (ee.refl l)
theorem aL.agg{l l':List AV}(h:ee l l') :aL (.agg l) (.agg l'):=by
  intro ρ w u hv;cases hv with | agg _ _ hl=>exact .agg _ _ (h.vrs hl)
theorem aL.tup{l l':List AV}(h:ee l l') :aL (.tup l) (.tup l'):=by
  intro ρ w u hv;cases hv with | tup _ _ hl=>exact .tup _ _ (h.vrs hl)
theorem ae.args{P:Program}{f:FuncId}{lent:List aA}{a a':List AV}{r:gq}(h:ae P f lent a' r)(ha:ee a a') :ae P f lent a r :=
  fun ρ w us hN hv=>h ρ w us hN (ha.vrs hv)
theorem ae.weak{P:Program}{f:FuncId}{lent:List aA}{a:List AV}{v v':AV}{own:List (Option aA)}(h:ae P f lent a ⟨v,own⟩)(hw:aL v v') :ae P f lent a ⟨v',own⟩:=by
  intro ρ w us hN hv
  obtain ⟨q1,q2⟩:=h ρ w us hN hv
  refine ⟨q1,q2.mono ?_⟩
  rintro e w' ⟨u,rfl,W,hu⟩
  exact ⟨u,rfl,W,hu.weak fun ρ w=>hw ρ w u⟩
theorem ve(k k' b:Bool) :aL (.bool k b) (.bool k' b):=by
  intro ρ w u h;cases h;exact .bool _ _
end Go.Plb
namespace Go.Plb
open Go.ChangeShapes Go.WideShapes Go.ChangeAt Go.RowKit Go.Deep
set_option linter.unusedSimpArgs false
set_option linter.unusedVariables false
set_option linter.unusedSectionVars false
variable [Rom]
def ah.none_:ah:={ at_:=fun _=>0,live:=fun _=>False,out:=fun _ _=>False,ok:=fun _=>False }
theorem P0(w:World)(hr:∀ x∈Rom.tab,VR ah.none_ w (.iptr .free x.2 1 0 0) (.pointer (some ⟨x.1,0,none⟩))) :jc ah.none_ w [] :=
  ⟨⟨fun b d q=>by simp [dd,aO] at q,fun b c d e q=>by simp [dd,aO] at q,fun bl q=>q.elim,fun bl q=>q.elim,fun j bl q=>q.elim,fun b q=>q.elim,hr⟩,fun bl q=>q.elim⟩
theorem vf(l:Lv)(bl:Nat) :ah.none_.avoid l bl:=gi (fun j=>by cases j<;>exact id) l 0
inductive FA where
  | i (k:IntKind) (n:Int)
  | f (x:Nat)
  | s (b:ByteArray)
  | b (b:Bool)
  | fl (xs:List Nat)
  | ns (k:IntKind) (xs:List Int)
def FA.av:FA→AV
  | .i k n=>.int k n
  | .f x=>.flt true x
  | .s z=>.str z
  | .b z=>.bool false z
  | .fl xs=>.imm .free (.fl xs) 1 1 0 xs.length
  | .ns k xs=>.imm .free (.ns k xs) 1 1 0 xs.length
theorem FA.kept(a:FA) :a.av.kept=true:=by cases a<;>rfl
inductive FT where
  | i (k:IntKind)
  | f
  | s
  | b
  | fl
  | ns (k:IntKind)
def FA.has:FT→FA→Prop
  | .i k,.i k' n=>k'=k∧(Lit.int k n).wf=true
  | .f,.f x=>(Lit.float .f64 x).wf=true
  | .s,.s z=>z.size≤maxLen
  | .b,.b _=>True
  | .fl,.fl xs=>xs.length≤maxLen∧∀ x∈xs,(Lit.float .f64 x).wf=true
  | .ns k,.ns k' xs=>k'=k∧xs.length≤maxLen∧∀ n∈xs,(Lit.int k n).wf=true
  | _,_=>False
def P3(P:Program)(t:TypeId) :Option FT :=
  match P.underlying t with
  | some (.int k)=>some (.i k)
  | some (.float .f64)=>some .f
  | some .string=>some .s
  | some .bool=>some .b
  | some (.slice e) =>
    match P.underlying e,P.cellsOf e with
    | some (.float .f64),1=>some .fl
    | some (.int k),1=>some (.ns k)
    | _,_=>none
  | _=>none
def FU:Value→Nat
  | .float _ b=>b
  | _=>0
def FV:Value→Int
  | .int _ n=>n
  | _=>0
theorem yV{W:World}{a:Addr}{i:Nat}{v:Value}(c:W.cell? (a.add i)=some v)(h0:a.spot=none) :a.add i=⟨a.block,a.off+i,none⟩:=by
  cases a;simp only at h0;subst h0
  unfold Addr.add;split
  · rename_i q;subst q;rfl
  · rfl
theorem wy{W:World}{a:Addr}{v:Value}(c:W.cell? a=some v) :a.spot=none:=by
  unfold World.cell? at c
  split at c
  · cases q:a.spot with
    | none=>rfl
    | some s=>rw [q] at c;simp at c
  · cases c
theorem Bl{W:World}{a:Addr}{v:Value}(c:W.cell? a=some v) :a.block<W.heap.size:=by
  unfold World.cell? at c
  split at c
  · rename_i q;exact (Array.getElem?_eq_some_iff.1 q).1
  · cases c
theorem jq{α:Type}(f:Nat→α)(n x:Nat)(y:α)(h:((List.range n).map f)[x]? = some y) :x<n∧y=f x:=by
  rw [List.getElem?_map] at h
  rcases Nat.lt_or_ge x n with q | q
  · rw [List.getElem?_range q] at h;simp only [Option.map_some,Option.some.injEq] at h;exact ⟨q,h.symm⟩
  · rw [List.getElem?_eq_none (by simpa using q)] at h;cases h
variable {H : Type} {enc : TypeId × Value → H} {P : Program} {W : World}
theorem Nv{t : TypeId}{ft : FT}{fuel : Nat}{v : Value}{x : DataW H × List MemPlace}(ht : P3 P t = some ft)(h : DataW.trod enc P W 0 (fun _ => true) true fuel t [v] = some x) :
    ∃ a:FA,a.has ft∧VR ah.none_ W a.av v:=by
  cases fuel with
  | zero=>simp [DataW.trod] at h
  | succ fuel =>
  have h0:=h
  unfold P3 at ht
  split at ht
  · rename_i k hk
    cases ht
    simp only [DataW.trod,hk] at h
    cases v<;>simp at h
    rename_i k' n
    obtain ⟨⟨rfl,hw⟩,_⟩:=h
    exact ⟨.i k' n,⟨rfl,hw⟩,.int _ _⟩
  · rename_i hk
    cases ht
    simp only [DataW.trod,hk] at h
    cases v<;>simp at h
    rename_i k b
    obtain ⟨⟨rfl,hw⟩,_⟩:=h
    exact ⟨.f b,hw,.flt _ _ _ (.inl rfl)⟩
  · rename_i hk
    cases ht
    simp only [DataW.trod,hk] at h
    cases v<;>simp at h
    exact ⟨.s _,h.1,.str _⟩
  · rename_i hk
    cases ht
    simp only [DataW.trod,hk] at h
    cases v<;>simp at h
    exact ⟨.b _,trivial,.bool _ _⟩
  · rename_i e hk
    have key:∀ (he:P.cellsOf e=1),(v=.slice none 0 0)∨∃ (a:Addr) (len cap n:Nat) (V:Nat→Value),v=.slice (some a) len cap∧len≤cap∧cap≤maxLen ∧
        ∀ i,i<len→∃ y,W.cell? (a.add i)=some (V i)∧DataW.trod enc P W 0 (fun _=>true) true n e [V i]=some y:=by
      intro he
      rcases open_slice1 hk he h0 with ⟨h1,_⟩ | ⟨a,len,cap,m,n,V,D,Pl,h1,hb,hl,hm,hmm,_,hx⟩
      · simp only [List.cons.injEq,and_true] at h1
        exact .inl h1
      · simp only [List.cons.injEq,and_true] at h1
        refine .inr ⟨a,len,cap,n,V,h1,hl,hm,fun i hi=>⟨_,hx i (by rw [hmm,if_pos rfl];omega)⟩⟩
    split at ht
    · rename_i he hc
      cases ht
      rcases key hc with rfl | ⟨a,len,cap,n,V,rfl,hl,hm,hx⟩
      · exact ⟨.fl [],⟨Nat.zero_le _,fun x hx=>by cases hx⟩,.immEnd _ _ _ _ _ _ _ trivial (fun _=>rfl) rfl⟩
      · have hV:∀ i,i<len→V i=.float .f64 (FU (V i))∧(Lit.float .f64 (FU (V i))).wf=true:=by
          intro i hi
          obtain ⟨y,c1,c2⟩:=hx i hi
          cases n with
          | zero=>simp [DataW.trod] at c2
          | succ n =>
            simp only [DataW.trod,he] at c2
            cases hV:V i<;>rw [hV] at c2<;>simp at c2
            obtain ⟨⟨rfl,hw⟩,_⟩:=c2
            exact ⟨rfl,hw⟩
        refine ⟨.fl ((List.range len).map fun i=>FU (V i)),⟨by simp;omega,fun x hx=>?_⟩,?_⟩
        · simp only [List.mem_map,List.mem_range] at hx
          obtain ⟨i,hi,rfl⟩:=hx
          exact (hV i hi).2
        · simp only [FA.av,List.length_map,List.length_range]
          rcases Nat.eq_zero_or_pos len with rfl | hz
          · exact .immEnd _ _ _ _ _ _ _ trivial (fun _=>rfl) rfl
          · have h0:=wy (hx 0 hz).choose_spec.1
            have hs:a.spot=none:=by
              have e:a.add 0=a:=by simp [Addr.add]
              rw [e] at h0;exact h0
            have hcell:∀ i,i<len→W.cell? ⟨a.block,a.off+i,none⟩=some (V i):=fun i hi=>by
              obtain ⟨y,c1,_⟩:=hx i hi
              rw [yV c1 hs] at c1;exact c1
            have ha:a=⟨a.block,a.off+0*1,none⟩:=by cases a;simp only at hs;subst hs;rfl
            have:=VR.imm (ρ:=ah.none_) (w:=W) .free (.fl ((List.range len).map fun i=>FU (V i))) 1 1 0 len cap a.block a.off V (vf _ _) (Bl (a:=⟨a.block,a.off+0,none⟩) (hcell 0 hz))
              (fun x v hx'=>by
                simp only [aA.cell?,Option.map_eq_some_iff] at hx'
                obtain ⟨y,h1,h2⟩:=hx'
                exact hcell x (jq _ _ _ _ h1).1)
              (fun x v hx'=>by
                simp only [aA.cell?,Option.map_eq_some_iff] at hx'
                obtain ⟨y,h1,rfl⟩:=hx'
                obtain ⟨q1,rfl⟩:=jq _ _ _ _ h1
                rw [(hV x q1).1]
                exact .flt _ _ _ (.inl rfl)) hl trivial (fun _=>rfl) rfl
            rw [ha];exact this
    · rename_i k he hc
      cases ht
      rcases key hc with rfl | ⟨a,len,cap,n,V,rfl,hl,hm,hx⟩
      · exact ⟨.ns k [],⟨rfl,Nat.zero_le _,fun x hx=>by cases hx⟩,.immEnd _ _ _ _ _ _ _ trivial (fun _=>rfl) rfl⟩
      · have hV:∀ i,i<len→V i=.int k (FV (V i))∧(Lit.int k (FV (V i))).wf=true:=by
          intro i hi
          obtain ⟨y,c1,c2⟩:=hx i hi
          cases n with
          | zero=>simp [DataW.trod] at c2
          | succ n =>
            simp only [DataW.trod,he] at c2
            cases hV:V i<;>rw [hV] at c2<;>simp at c2
            obtain ⟨⟨rfl,hw⟩,_⟩:=c2
            exact ⟨rfl,hw⟩
        refine ⟨.ns k ((List.range len).map fun i=>FV (V i)),⟨rfl,by simp;omega,fun x hx=>?_⟩,?_⟩
        · simp only [List.mem_map,List.mem_range] at hx
          obtain ⟨i,hi,rfl⟩:=hx
          exact (hV i hi).2
        · simp only [FA.av,List.length_map,List.length_range]
          rcases Nat.eq_zero_or_pos len with rfl | hz
          · exact .immEnd _ _ _ _ _ _ _ trivial (fun _=>rfl) rfl
          · have h0:=wy (hx 0 hz).choose_spec.1
            have hs:a.spot=none:=by
              have e:a.add 0=a:=by simp [Addr.add]
              rw [e] at h0;exact h0
            have hcell:∀ i,i<len→W.cell? ⟨a.block,a.off+i,none⟩=some (V i):=fun i hi=>by
              obtain ⟨y,c1,_⟩:=hx i hi
              rw [yV c1 hs] at c1;exact c1
            have ha:a=⟨a.block,a.off+0*1,none⟩:=by cases a;simp only at hs;subst hs;rfl
            have:=VR.imm (ρ:=ah.none_) (w:=W) .free (.ns k ((List.range len).map fun i=>FV (V i))) 1 1 0 len cap a.block a.off V (vf _ _) (Bl (a:=⟨a.block,a.off+0,none⟩) (hcell 0 hz))
              (fun x v hx'=>by
                simp only [aA.cell?,Option.map_eq_some_iff] at hx'
                obtain ⟨y,h1,h2⟩:=hx'
                exact hcell x (jq _ _ _ _ h1).1)
              (fun x v hx'=>by
                simp only [aA.cell?,Option.map_eq_some_iff] at hx'
                obtain ⟨y,h1,rfl⟩:=hx'
                obtain ⟨q1,rfl⟩:=jq _ _ _ _ h1
                rw [(hV x q1).1]
                exact .int _ _) hl trivial (fun _=>rfl) rfl
            rw [ha];exact this
    · cases ht
  · cases ht
theorem Bm{t:TypeId}{ft:FT}{v:Value}{d:DataW H}{p:List MemPlace}{base:Nat}(ht:P3 P t=some ft)(ho:Value.okWide P W .any base t v)(h:DataW.Trod enc P W 0 (fun _=>true) true t v d p) :
    ∃ a:FA,a.has ft∧VR ah.none_ W a.av v:=by
  obtain ⟨fuel,hf⟩:=h
  have hc:v.cells.toList=[v]:=by
    have hne:∀ c,v ≠ .agg c:=by
      rintro c rfl
      unfold P3 at ht
      unfold Value.okWide at ho
      split at ht
      case h_6=>cases ht
      all_goals (rename_i hk;rw [hk] at ho;simp [Cell.okWide,Cell.ok,hk] at ho)
    cases v<;>first | rfl | exact (hne _ rfl).elim
  rw [hc] at hf
  exact Nv ht hf
def FA.avs:List FA→List AV
  | []=>[]
  | a::l=>a.av::FA.avs l
theorem OO{W W':World}(h:fR (fun _=>False) W W') :Below W.heap.size W W' :=
  ⟨h.os,h.tape,h.output,h.size,fun k hk=>h.same k hk (fun q=>q)⟩
def oB(P:Program)(ts:List TypeId) :Bool:=ts.all fun t=>P.readableRec t&&decide (t<P.types.size)
theorem Ev{W W':World}(hl:laidOutB P=true)(hb:Below W.heap.size W W') :∀ {ts:List TypeId} {vs:List Value} {ds:List (DataW H)} {ps:List MemPlace},oB P ts=true →
    DataW.TrodAll enc P W 0 (fun _=>true) true ts vs ds ps→(∀ x∈ps,x.block<W.heap.size)→∀ sp:Nat→Bool,(∀ p∈ps,sp p.block=true)→DataW.TrodAll enc P W' 0 sp true ts vs ds ps
  | [],vs,ds,ps,_,h,_,_,_=>by obtain ⟨rfl,rfl,rfl⟩:=trodAll_nil h;rfl
  | t::ts,vs,ds,ps,hp,h,hlt,sp,hsp=>by
    obtain ⟨v,vs',d,ds',p,q,rfl,rfl,rfl,h1,h2⟩:=trodAll_cons h
    simp only [oB,List.all_cons,Bool.and_eq_true,decide_eq_true_eq] at hp
    exact ⟨p,q,WideElems.Trod_stays hl hp.1.1 hp.1.2 h1 (fun x hx=>hb.same (hlt x (by simp [hx]))) (fun x hx=>hsp x (by simp [hx])),
      Ev hl hb (by simpa [oB] using hp.2) h2 (fun x hx=>hlt x (by simp [hx])) sp (fun x hx=>hsp x (by simp [hx])),rfl⟩
theorem OP{f:Func}{s:ChangeSpec}{W W':World}{args:Array Value}{ds gs:List (DataW H)}{before:List MemPlace}{tb:TypeId}(hl:laidOutB P=true) 
    (hW:DataW.Whole enc P f.params.toList s.vars false W args.toList ds gs before) (hv:s.vars=[]) (hp:oB P f.params.toList=true)
    (hs:s.fn H (ds++gs) = { results:=[.lit (.bool true)],args:=ds }) (hr:f.resultTypes = #[tb]) (ht:P.underlying tb=some .bool) (hw:fR (fun _=>False) W W') :
    s.post enc P f false true false false W args (.bool true) W':=by
  have hb:=OO hw
  have hlt:∀ p∈before,p.block<W.heap.size:=fun p hp=>hW.lt p hp
  have hW':=hW
  obtain ⟨p,q,hA,hV,rfl,hfz,mt⟩:=hW'
  rw [hv] at hV
  obtain ⟨rfl,rfl⟩:=trodVars_none hV
  simp only [List.append_nil] at hlt hs hW
  have harg:=Ev hl hb hp hA hlt (fun b=>decide (b<W.heap.size)) (fun x hx=>by simpa using hlt x hx)
  refine ⟨ds,[],p,[],p,[],hW,?_,?_,?_,World.keptBut_mono (fun x hx=>⟨hx,.inr (.inl hx)⟩) (hb.frame (· ∈ p)),fun e=>(by cases e)⟩
  · rw [List.append_nil,hs,hr]
    exact trodAll_mk1 (shut_bool ht true)
  · rw [List.append_nil,hs];exact harg
  · rw [hv];simp only [List.append_nil,hs];exact rfl
theorem RO{k:IntKind}{a:FA}(h:a.has (.i k)) :∃ n,a=.i k n:=by
  cases a<;>simp only [FA.has] at h
  obtain ⟨rfl,_⟩:=h;exact ⟨_,rfl⟩
theorem QL{a:FA}(h:a.has .f) :∃ x,a=.f x:=by
  cases a<;>simp only [FA.has] at h
  exact ⟨_,rfl⟩
theorem OQ{ρ:ah}{w w':World}{k b:Bool}{u:Value}(h:(⟨.bool k b,[]⟩:gq).Holds ρ w w' 0 u) :u=.bool b:=by
  obtain ⟨ρ',_,_,_,h4⟩:=h
  cases h4;rfl
end Go.Plb
namespace Go.Plb
set_option linter.unusedSimpArgs false
set_option linter.unusedVariables false
set_option linter.unusedSectionVars false
variable [Rom]
def aa{α:Type}(o n:Nat)(l:List α) :List α:=(jl o l).take n
theorem Aw{α:Type}(o n:Nat)(l:List α) :aa o n l=(l.drop o).take n:=by
  unfold aa jl;cases o<;>rfl
theorem bz{α:Type}(l:List α) :aa 0 l.length l=l:=by simp [Aw]
theorem gD{α:Type}{o n:Nat}{l:List α}(h:o+n≤l.length) :(aa o n l).length=n:=by rw [Aw];simp;omega
theorem OR{α:Type}{o n:Nat}{l:List α}{i:Nat}{v:α}(h:(aa o n l)[i]? = some v) :l[o+i]? = some v:=by
  rw [Aw,List.getElem?_take] at h
  split at h
  · rw [List.getElem?_drop] at h;exact h
  · cases h
def bg{α:Type}(o n:Nat)(xs:List α) :Bool:=Nat.ble (o+n) xs.length
theorem bt{α:Type}{o n:Nat}{xs:List α} :bg o n xs=true↔o+n≤xs.length:=by unfold bg;rw [Nat.ble_eq]
theorem zT{l:Lv}{d d':aA}{w es o n:Nat}(h:∀ x v,d'.cell? x=some v→d.cell? (o*w+x)=some v)(hr:d.recKept→d'.recKept)(hk:d'.kept=true)(hg:d'.foreign=true) :
    aL (.imm l d w es o n) (.imm l d' w es 0 n):=by
  intro ρ w' u hv
  cases hv with
  | imm _ _ _ _ _ _ cap bl o' u' ha hb hc hv' hl' hr' _ _ =>
    have:=VR.imm (ρ:=ρ) (w:=w') l d' w es 0 n cap bl (o'+o*w) (fun x=>u' (o*w+x)) ha hb
      (fun x v hx=>by rw [Nat.add_assoc];exact hc _ v (h x v hx)) (fun x v hx=>hv' _ v (h x v hx)) hl' (hr hr') (fun _=>hk) hg
    simpa using this
  | immEnd _ _ _ _ _ _ _ hr'=>exact .immEnd _ _ _ _ _ _ _ (hr hr') (fun _=>hk) hg
theorem zU{l:Lv}{d':aA}{w es:Nat}(hr:d'.recKept)(hk:d'.kept=true)(hg:d'.foreign=true) :aL .nsl (.imm l d' w es 0 0):=by
  intro ρ w' u hv;cases hv;exact .immEnd _ _ _ _ _ _ _ hr (fun _=>hk) hg
theorem zV{l:Lv}{d':aA}{w es:Nat}(hr:d'.recKept)(hk:d'.kept=true)(hg:d'.foreign=true) :aL .esl (.imm l d' w es 0 0):=by
  intro ρ w' u hv;cases hv;exact .immEnd _ _ _ _ _ _ _ hr (fun _=>hk) hg
theorem ee.get:∀ {l1 l2:List AV},ee l1 l2→∀ {x:Nat} {v:AV},l2[x]? = some v→∃ v0,l1[x]? = some v0∧aL v0 v
  | _,_,.nil,x,v,h=>by simp at h
  | _,_,.cons a t,0,v,h=>by simp at h;subst h;exact ⟨_,rfl,a⟩
  | _,_,.cons a t,x+1,v,h=>by
    obtain ⟨v0,h1,h2⟩:=ee.get t (by simpa using h)
    exact ⟨v0,by simpa using h1,h2⟩
theorem Bn{lv:Lv}{l1 l2:List AV}{k i j:Nat}(h:ee l1 l2)(hk:cO l1=true→cO l2=true)(hg:bp l1=true→bp l2=true) :aL (.iptr lv (.vs l1) k i j) (.iptr lv (.vs l2) k i j):=by
  intro ρ w u hv
  cases hv with | iptr _ _ _ _ _ bl o u' ha hb hc hv' hr hk' hg' =>
  refine .iptr _ _ _ _ _ bl o u' ha hb (fun x v hx=>?_) (fun x v hx=>?_) trivial (fun q=>hk (hk' q)) (hg hg')
  · obtain ⟨v0,h1,h2⟩:=h.get hx
    exact hc x v0 h1
  · obtain ⟨v0,h1,h2⟩:=h.get hx
    exact h2 _ _ _ (hv' x v0 h1)
theorem aL.fn{f:Fn}{a b a' b':List AV}(h:ee a a')(k:ee b b') :aL (.fn f a b) (.fn f a' b'):=by
  intro ρ w u hv
  cases hv with | fn _ _ _ c1 c2 h1 h2=>exact .fn _ _ _ _ _ (h.vrs h1) (k.vrs h2)
theorem aL.iface{t:TypeId}{a b:AV}(h:aL a b) :aL (.iface t a) (.iface t b):=by
  intro ρ w u hv
  cases hv with | iface _ _ u h1=>exact .iface _ _ _ (h _ _ _ h1)
theorem aL.any(v:AV) :aL v .any:=fun _ _ u _=>.any u
inductive CK where
  | cf
  | ci (k:IntKind)
  | cb
  | cs
  | cfl
  | cns (k:IntKind)
def CK.Ty:CK→Type
  | .cf=>List Nat
  | .ci _=>List Int
  | .cb=>List Bool
  | .cs=>List ByteArray
  | .cfl=>List (List Nat)
  | .cns _=>List (List Int)
def CK.fit:(k:CK)→(o n:Nat)→d9→Option k.Ty
  | .cf,o,n,.cf xs=>some (aa o n xs)
  | .ci k,o,n,.ci k' xs=>bif dB k k' then some (aa o n xs) else none
  | .cb,o,n,.cb xs=>some (aa o n xs)
  | .cs,o,n,.cs xs=>some (aa o n xs)
  | .cfl,o,n,.cfl xs=>some (aa o n xs)
  | .cns k,o,n,.cns k' xs=>bif dB k k' then some (aa o n xs) else none
  | _,_,_,_=>none
def CK.emp:(k:CK)→k.Ty
  | .cf=>([]:List Nat)
  | .ci _=>([]:List Int)
  | .cb=>([]:List Bool)
  | .cs=>([]:List ByteArray)
  | .cfl=>([]:List (List Nat))
  | .cns _=>([]:List (List Int))
def CK.col:(k:CK)→k.Ty→d9
  | .cf,xs=>.cf xs
  | .ci k,xs=>.ci k xs
  | .cb,xs=>.cb xs
  | .cs,xs=>.cs xs
  | .cfl,xs=>.cfl xs
  | .cns k,xs=>.cns k xs
theorem pK{a b:IntKind} :dB a b=true↔a=b:=by simp [dB]
theorem kL{α:Type}{f:α→AV}{o n i:Nat}{xs:List α}{v:AV}(h:((aa o n xs)[i]?).map f=some v) :(xs[o+i]?).map f=some v:=by
  simp only [Option.map_eq_some_iff] at h ⊢
  obtain ⟨y,h1,h2⟩:=h
  exact ⟨y,OR h1,h2⟩
theorem CK.fit_spec:∀ {k:CK} {o n:Nat} {c:d9} {t:k.Ty},k.fit o n c=some t→(o+n≤c.len→(k.col t).len=n)∧∀ i v,(k.col t).cell? i=some v→c.cell? (o+i)=some v:=by
  intro k o n c t h
  cases k<;>cases c<;>simp only [CK.fit] at h<;>try (cases h;done)
  case cf.cf xs=>cases h;exact ⟨fun q=>gD q,fun i v q=>kL q⟩
  case ci.ci k k' xs =>
    cases e:dB k k' with
    | false=>rw [e] at h;cases h
    | true=>rw [e] at h;cases h;cases (pK.1 e);exact ⟨fun q=>gD q,fun i v q=>kL q⟩
  case cb.cb xs=>cases h;exact ⟨fun q=>gD q,fun i v q=>kL q⟩
  case cs.cs xs=>cases h;exact ⟨fun q=>gD q,fun i v q=>kL q⟩
  case cfl.cfl xs=>cases h;exact ⟨fun q=>gD q,fun i v q=>kL q⟩
  case cns.cns k k' xs =>
    cases e:dB k k' with
    | false=>rw [e] at h;cases h
    | true=>rw [e] at h;cases h;cases (pK.1 e);exact ⟨fun q=>gD q,fun i v q=>kL q⟩
theorem CK.emp_len:∀ (k:CK),(k.col k.emp).len=0:=by intro k;cases k<;>rfl
def CKs.Ty:List CK→Type
  | []=>Unit
  | k::l=>k.Ty×CKs.Ty l
def CKs.fit:(l:List CK)→(o n:Nat)→List d9→Option (CKs.Ty l)
  | [],_,_,[]=>some ()
  | k::l,o,n,c::cs=>(k.fit o n c).bind fun t=>(CKs.fit l o n cs).map fun r=>(t,r)
  | _,_,_,_=>none
def CKs.emp:(l:List CK)→CKs.Ty l
  | []=>()
  | k::l=>(k.emp,CKs.emp l)
def CKs.cols:(l:List CK)→CKs.Ty l→List d9
  | [],_=>[]
  | k::l,t=>k.col t.1::CKs.cols l t.2
theorem CKs.len:∀ {l:List CK} {t:CKs.Ty l},(CKs.cols l t).length=l.length
  | [],t=>rfl
  | k::l,t=>by simp [CKs.cols,CKs.len]
theorem yW:∀ {l:List CK} {o n:Nat} {cs:List d9} {t:CKs.Ty l},CKs.fit l o n cs=some t→cs.length=l.length
  | [],o,n,[],t,h=>rfl
  | [],o,n,c::cs,t,h=>by simp [CKs.fit] at h
  | k::l,o,n,[],t,h=>by simp [CKs.fit] at h
  | k::l,o,n,c::cs,t,h=>by
    simp only [CKs.fit] at h
    cases e1:k.fit o n c with
    | none=>rw [e1] at h;cases h
    | some a =>
      rw [e1] at h
      cases e2:CKs.fit l o n cs with
      | none=>simp only [Option.bind_some,e2] at h;cases h
      | some b=>simp [yW e2]
theorem CKs.fit_spec:∀ {l:List CK} {o n:Nat} {cs:List d9} {t:CKs.Ty l},CKs.fit l o n cs=some t→∀ (j:Nat) (c':d9),(CKs.cols l t)[j]? = some c'→∃ c:d9,cs[j]? = some c∧(o+n≤c.len→c'.len=n)∧∀ i v,c'.cell? i=some v→c.cell? (o+i)=some v
  | [],o,n,cs,t,h,j,c',q=>by simp [CKs.cols] at q
  | k::l,o,n,[],t,h,j,c',q=>by simp [CKs.fit] at h
  | k::l,o,n,c::cs,t,h,j,c',q=>by
    simp only [CKs.fit] at h
    cases e1:k.fit o n c with
    | none=>rw [e1] at h;cases h
    | some a =>
      rw [e1] at h
      cases e2:CKs.fit l o n cs with
      | none=>simp only [Option.bind_some,e2] at h;cases h
      | some b =>
        simp only [Option.bind_some,e2] at h
        cases h
        cases j with
        | zero=>simp [CKs.cols] at q;subst q;exact ⟨c,rfl,CK.fit_spec e1⟩
        | succ j=>exact CKs.fit_spec e2 j c' (by simpa [CKs.cols] using q)
theorem CKs.emp_len:∀ (l:List CK),∀ c∈CKs.cols l (CKs.emp l),c.len=0
  | [],c,h=>by cases h
  | k::l,c,h=>by
    simp only [CKs.cols,CKs.emp,List.mem_cons] at h
    rcases h with rfl | h
    · exact CK.emp_len k
    · exact CKs.emp_len l c h
mutual
inductive wz where
  | int (k:IntKind)
  | flt (ex:Bool)
  | bool
  | kbool (b:Bool)
  | str
  | fl
  | ns (k:IntKind)
  | bs
  | ss
  | cols (l:List CK)
  | ivs (ps:j5) (w i j:Nat)
  | fn (f:FuncId) (a b:j5)
  | nfn
  | nptr
  | agg (ps:j5)
  | tup (ps:j5)
  | iface (t:TypeId) (p:wz)
  | niface
  | any
  | lsl (b:Nat)
  | lptr (b w i j:Nat)
inductive j5 where
  | nil
  | cons (p:wz) (ps:j5)
end
mutual
def wz.Ty:wz→Type
  | .int _=>Int
  | .flt _=>Nat
  | .bool=>Bool
  | .str=>ByteArray
  | .fl=>Lv×List Nat
  | .ns _=>Lv×List Int
  | .bs=>Lv×List Bool
  | .ss=>Lv×List ByteArray
  | .cols l=>Lv×Nat×CKs.Ty l
  | .ivs ps _ _ _=>Lv×ps.Ty
  | .fn _ a b=>a.Ty×b.Ty
  | .agg ps=>ps.Ty
  | .tup ps=>ps.Ty
  | .iface _ p=>p.Ty
  | .kbool _=>Unit
  | .nfn=>Unit
  | .nptr=>Unit
  | .niface=>Unit
  | .any=>Unit
  | .lsl _=>Nat×Nat×Nat
  | .lptr _ _ _ _=>Unit
def j5.Ty:j5→Type
  | .nil=>Unit
  | .cons p ps=>p.Ty×ps.Ty
end
mutual
def wz.av:(p:wz)→p.Ty→AV
  | .int k,n=>.int k n
  | .flt ex,x=>.flt ex x
  | .bool,b=>.bool false b
  | .str,s=>.str s
  | .fl,t=>.imm t.1 (.fl t.2) 1 1 0 t.2.length
  | .ns k,t=>.imm t.1 (.ns k t.2) 1 1 0 t.2.length
  | .bs,t=>.imm t.1 (.bs t.2) 1 1 0 t.2.length
  | .ss,t=>.imm t.1 (.ss t.2) 1 1 0 t.2.length
  | .cols l,t=>.imm t.1 (.cols t.2.1 (CKs.cols l t.2.2)) l.length l.length 0 t.2.1
  | .ivs ps w i j,t=>.iptr t.1 (.vs (ps.avs t.2)) w i j
  | .fn f a b,t=>.fn (.func f) (a.avs t.1) (b.avs t.2)
  | .agg ps,t=>.agg (ps.avs t)
  | .tup ps,t=>.tup (ps.avs t)
  | .iface y p,t=>.iface y (p.av t)
  | .kbool b,_=>.bool true b
  | .nfn,_=>.nfn
  | .nptr,_=>.nptr
  | .niface,_=>.niface
  | .any,_=>.any
  | .lsl b,t=>.sl b 1 1 t.1 t.2.1 t.2.2
  | .lptr b w i j,_=>.ptr b w i j
def j5.avs:(ps:j5)→ps.Ty→List AV
  | .nil,_=>[]
  | .cons p ps,t=>p.av t.1::ps.avs t.2
end
def KE(a b:Bool) :Bool:=bif a then b else !b
theorem KF{a b:Bool} :KE a b=true↔a=b:=by cases a<;>cases b<;>simp [KE]
def CKs.ok(n:Nat)(m:Nat) :Bool:=Nat.ble n m
def OS(k:IntKind) :AV→Option (Int×List Bool)
  | .int k' n=>bif dB k k' then some (n,[]) else none
  | _=>none
def OT(ex:Bool) :AV→Option (Nat×List Bool)
  | .flt ex' x=>bif ex && !ex' then none else some (x,[])
  | _=>none
def MI:AV→Option (Bool×List Bool)
  | .bool kn b=>bif kn then none else some (b,[])
  | _=>none
def HS(b:Bool) :AV→Option (Unit×List Bool)
  | .bool kn b'=>bif kn&&KE b b' then some ((),[]) else none
  | _=>none
def OU:AV→Option (ByteArray×List Bool)
  | .str s=>some (s,[])
  | _=>none
def Ew{α:Type}(f:aA→Option (List α)) :AV→Option ((Lv×List α)×List Bool)
  | .imm l d w es o n=>(f d).bind fun xs=>bif Nat.beq w 1&&Nat.beq es 1 then some ((l,aa o n xs),[bg o n xs]) else none
  | .nsl=>some ((.free,[]),[])
  | .esl=>some ((.free,[]),[])
  | _=>none
def OV:aA→Option (List Nat)
  | .fl xs=>some xs
  | _=>none
def OW(k:IntKind) :aA→Option (List Int)
  | .ns k' xs=>bif dB k k' then some xs else none
  | _=>none
def OX:aA→Option (List Bool)
  | .bs xs=>some xs
  | _=>none
def QM:aA→Option (List ByteArray)
  | .ss xs=>some xs
  | _=>none
def QN:aA→Option (List AV)
  | .vs xs=>some xs
  | _=>none
def MJ:aA→Option (Nat×List d9)
  | .cols m cs=>some (m,cs)
  | _=>none
def FW(ks:List CK) :AV→Option ((Lv×Nat×CKs.Ty ks)×List Bool)
  | .imm l d w es o n=>(MJ d).bind fun q=>bif Nat.beq w ks.length&&Nat.beq es ks.length then (CKs.fit ks o n q.2).map fun t=>((l,n,t),[Nat.ble (o+n) q.1]) else none
  | .nsl=>some ((.free,0,CKs.emp ks),[])
  | .esl=>some ((.free,0,CKs.emp ks),[])
  | _=>none
def QO(w i j:Nat) :AV→Option (Lv×List AV)
  | .iptr l d w' i' j'=>(QN d).bind fun xs=>bif Nat.beq w w'&&(Nat.beq i i'&&Nat.beq j j') then some (l,xs) else none
  | _=>none
def RP(f:FuncId) :AV→Option (List AV×List AV)
  | .fn (.func f') x y=>bif Nat.beq f f' then some (x,y) else none
  | _=>none
def QP:AV→Option (List AV)
  | .agg l=>some l
  | _=>none
def QQ:AV→Option (List AV)
  | .tup l=>some l
  | _=>none
def MK(t:TypeId) :AV→Option AV
  | .iface t' v=>bif Nat.beq t t' then some v else none
  | _=>none
def QR:AV→Option (Unit×List Bool)
  | .nfn=>some ((),[])
  | _=>none
def OY:AV→Option (Unit×List Bool)
  | .nptr=>some ((),[])
  | _=>none
def OZ(b:Nat) :AV→Option ((Nat×Nat×Nat)×List Bool)
  | .sl b' w es i len cap=>bif Nat.beq b b'&&(Nat.beq w 1&&Nat.beq es 1) then some ((i,len,cap),[]) else none
  | _=>none
def ML(b w i j:Nat) :AV→Option (Unit×List Bool)
  | .ptr b' w' i' j'=>bif (Nat.beq b b'&&Nat.beq w w')&&(Nat.beq i i'&&Nat.beq j j') then some ((),[]) else none
  | _=>none
def HT:AV→Option (Unit×List Bool)
  | .niface=>some ((),[])
  | _=>none
mutual
def wz.fit:(p:wz)→AV→Option (p.Ty×List Bool)
  | .int k=>OS k
  | .flt ex=>OT ex
  | .bool=>MI
  | .kbool b=>HS b
  | .str=>OU
  | .fl=>Ew OV
  | .ns k=>Ew (OW k)
  | .bs=>Ew OX
  | .ss=>Ew QM
  | .cols ks=>FW ks
  | .ivs ps w i j=>fun v=>match QO w i j v with
    | some q=>match ps.fit q.2 with
      | some r=>some ((q.1,r.1),r.2)
      | none=>none
    | none=>none
  | .fn f a b=>fun v=>match RP f v with
    | some q=>match a.fit q.1 with
      | some r=>match b.fit q.2 with
        | some s=>some ((r.1,s.1),r.2++s.2)
        | none=>none
      | none=>none
    | none=>none
  | .agg ps=>fun v=>match QP v with
    | some l=>ps.fit l
    | none=>none
  | .tup ps=>fun v=>match QQ v with
    | some l=>ps.fit l
    | none=>none
  | .iface t p=>fun v=>match MK t v with
    | some u=>p.fit u
    | none=>none
  | .nfn=>QR
  | .nptr=>OY
  | .niface=>HT
  | .any=>fun _=>some ((),[])
  | .lsl b=>OZ b
  | .lptr b w i j=>ML b w i j
def j5.fit:(ps:j5)→List AV→Option (ps.Ty×List Bool)
  | .nil=>fun l=>match l with
    | []=>some ((),[])
    | _::_=>none
  | .cons p ps=>fun l=>match l with
    | []=>none
    | v::l=>match p.fit v with
      | some r=>match ps.fit l with
        | some s=>some ((r.1,s.1),r.2++s.2)
        | none=>none
      | none=>none
end
theorem Nw{ks:List CK}{o n m:Nat}{cs:List d9}{t:CKs.Ty ks}(h:CKs.fit ks o n cs=some t) :∀ x v,(aA.cols n (CKs.cols ks t)).cell? x=some v→(aA.cols m cs).cell? (o*ks.length+x)=some v:=by
  intro x v hx
  have hl:=yW h
  obtain ⟨c',h1,_,h3⟩:=er hx
  obtain ⟨c,q1,_,q3⟩:=CKs.fit_spec h _ _ h1
  rw [CKs.len] at h1 h3 q1
  have hpos:0<ks.length:=by
    have:=(List.getElem?_eq_some_iff.1 q1).1
    omega
  simp only [aA.cell?,hl,Option.bind_eq_some_iff]
  refine ⟨c,?_,?_⟩
  · rw [Nat.add_comm,Nat.add_mul_mod_self_right];exact q1
  · rw [Nat.add_comm,Nat.add_mul_div_right _ _ hpos,Nat.add_comm];exact q3 _ _ h3
structure Wk (v v':AV):Prop where
  weak:aL v v'
  kept:v.kept=true→v'.kept=true
  foreign:v.foreign=true→v'.foreign=true
structure Sc (v v':List AV):Prop where
  weak:ee v v'
  kept:cO v=true→cO v'=true
  foreign:bp v=true→bp v'=true
theorem Wk.refl(v:AV) :Wk v v:=⟨aL.refl v,id,id⟩
theorem Wk.fltL(x:Nat) :Wk (.flt true x) (.flt false x):=⟨fun ρ w u h=>(by
  cases h with | flt _ _ y hf =>
  rcases hf with rfl | ⟨q,_⟩
  · exact .flt _ _ _ (.inl rfl)
  · cases q),id,id⟩
theorem Sc.cons{v v':AV}{l l':List AV}(h:Wk v v')(k:Sc l l') :Sc (v::l) (v'::l') :=
  ⟨.cons h.weak k.weak,fun q=>by simp only [cO,Bool.and_eq_true] at q ⊢;exact ⟨h.kept q.1,k.kept q.2⟩,fun q=>by simp only [bp,Bool.and_eq_true] at q ⊢;exact ⟨h.foreign q.1,k.foreign q.2⟩⟩
theorem Wk.part{l:Lv}{d d':aA}{w es o n:Nat}(h:∀ x v,d'.cell? x=some v→d.cell? (o*w+x)=some v)(hr:d.recKept→d'.recKept)(hk:d'.kept=true)(hg:d'.foreign=true) :Wk (.imm l d w es o n) (.imm l d' w es 0 n) :=
  ⟨zT h hr hk hg,id,id⟩
theorem Wk.nsl{d':aA}{w es:Nat}(hr:d'.recKept)(hk:d'.kept=true)(hg:d'.foreign=true) :Wk .nsl (.imm .free d' w es 0 0):=⟨zU hr hk hg,id,id⟩
theorem Wk.esl{d':aA}{w es:Nat}(hr:d'.recKept)(hk:d'.kept=true)(hg:d'.foreign=true) :Wk .esl (.imm .free d' w es 0 0):=⟨zV hr hk hg,id,id⟩
theorem Wk.fl{l:Lv}{xs:List Nat}{o n:Nat}(h:bg o n xs=true) :Wk (.imm l (.fl xs) 1 1 o n) (.imm l (.fl (aa o n xs)) 1 1 0 (aa o n xs).length):=by
  rw [gD (bt.1 h)];exact .part (fun x v q=>by rw [Nat.mul_one];exact kL q) (fun _=>trivial) rfl rfl
theorem Wk.ns{k:IntKind}{l:Lv}{xs:List Int}{o n:Nat}(h:bg o n xs=true) :Wk (.imm l (.ns k xs) 1 1 o n) (.imm l (.ns k (aa o n xs)) 1 1 0 (aa o n xs).length):=by
  rw [gD (bt.1 h)];exact .part (fun x v q=>by rw [Nat.mul_one];exact kL q) (fun _=>trivial) rfl rfl
theorem Wk.bs{l:Lv}{xs:List Bool}{o n:Nat}(h:bg o n xs=true) :Wk (.imm l (.bs xs) 1 1 o n) (.imm l (.bs (aa o n xs)) 1 1 0 (aa o n xs).length):=by
  rw [gD (bt.1 h)];exact .part (fun x v q=>by rw [Nat.mul_one];exact kL q) (fun _=>trivial) rfl rfl
theorem Wk.ss{l:Lv}{xs:List ByteArray}{o n:Nat}(h:bg o n xs=true) :Wk (.imm l (.ss xs) 1 1 o n) (.imm l (.ss (aa o n xs)) 1 1 0 (aa o n xs).length):=by
  rw [gD (bt.1 h)];exact .part (fun x v q=>by rw [Nat.mul_one];exact kL q) (fun _=>trivial) rfl rfl
theorem O0{ks:List CK}{o n m:Nat}{cs:List d9}{t:CKs.Ty ks}(h:CKs.fit ks o n cs=some t)(hm:o+n≤m) :(aA.cols m cs).recKept→(aA.cols n (CKs.cols ks t)).recKept:=by
  intro hr c hc
  obtain ⟨j,hj⟩:=List.getElem?_of_mem hc
  obtain ⟨c0,q1,q2,_⟩:=CKs.fit_spec h j c hj
  exact q2 (by rw [hr c0 (List.mem_of_getElem? q1)];exact hm)
theorem RQ{w es n:Nat}(h:(Nat.beq w n&&Nat.beq es n)=true) :w=n∧es=n:=by
  rw [Bool.and_eq_true] at h;exact ⟨Nat.eq_of_beq_eq_true h.1,Nat.eq_of_beq_eq_true h.2⟩
theorem rJ{α:Type}{c:Bool}{a:α}{x:α}(h:(bif c then some a else none)=some x) :c=true∧a=x:=by
  cases c with
  | true=>exact ⟨rfl,by simpa using h⟩
  | false=>cases h
theorem RR{α:Type}{c:Bool}{a:Option α}{x:α}(h:(bif c then a else none)=some x) :c=true∧a=some x:=by
  cases c with
  | true=>exact ⟨rfl,h⟩
  | false=>cases h
theorem qf{α:Type}{f:aA→Option (List α)}{g:List α→aA}(hg:∀ {d xs},f d=some xs→d=g xs) 
    (hw:∀ {l xs o n},bg o n xs=true→Wk (.imm l (g xs) 1 1 o n) (.imm l (g (aa o n xs)) 1 1 0 (aa o n xs).length)) (h0:(g []).recKept∧(g []).kept=true∧(g []).foreign=true)
    {v:AV} {t:Lv×List α} {o:List Bool} (h:Ew f v=some (t,o)) (ho:az o):Wk v (.imm t.1 (g t.2) 1 1 0 t.2.length):=by
  unfold Ew at h
  split at h
  · rename_i l d w es i n
    cases e:f d with
    | none=>rw [e] at h;cases h
    | some xs =>
      rw [e] at h
      obtain ⟨e2,h⟩:=rJ h
      obtain ⟨rfl,rfl⟩:=RQ e2
      cases h;cases hg e;exact hw ho.1
  · cases h;exact .nsl h0.1 h0.2.1 h0.2.2
  · cases h;exact .esl h0.1 h0.2.1 h0.2.2
  · cases h
theorem FX{ks:List CK}{v:AV}{t:Lv×Nat×CKs.Ty ks}{o:List Bool}(h:FW ks v=some (t,o))(ho:az o) :Wk v (.imm t.1 (.cols t.2.1 (CKs.cols ks t.2.2)) ks.length ks.length 0 t.2.1):=by
  unfold FW at h
  split at h
  · rename_i l d w es i n
    cases d<;>simp only [MJ,Option.bind_none,Option.bind_some,reduceCtorEq] at h
    rename_i m cs
    have e:=(RR h).1;replace h:=(RR h).2
    obtain ⟨rfl,rfl⟩:=RQ e
    cases e2:CKs.fit ks i n cs with
    | none=>rw [e2] at h;cases h
    | some r =>
      rw [e2] at h;cases h
      have:i+n≤m:=Nat.le_of_ble_eq_true ho.1
      exact .part (Nw e2) (O0 e2 this) rfl rfl
  · cases h;exact .nsl (CKs.emp_len ks) rfl rfl
  · cases h;exact .esl (CKs.emp_len ks) rfl rfl
  · cases h
mutual
theorem wz.fit_spec:∀ (p:wz) (v:AV) {t:p.Ty} {o:List Bool},p.fit v=some (t,o)→az o→Wk v (p.av t)
  | .int k,v,t,o,h,ho=>by
    simp only [wz.fit,OS] at h
    split at h
    · obtain ⟨e,h⟩:=rJ h
      cases h;cases pK.1 e;exact .refl _
    · cases h
  | .flt ex,v,t,o,h,ho=>by
    simp only [wz.fit,OT] at h
    split at h
    · rename_i ex' x
      cases ex with
      | true =>
        cases ex' with
        | true=>cases h;exact .refl _
        | false=>cases h
      | false =>
        cases ex' with
        | true=>cases h;exact .fltL x
        | false=>cases h;exact .refl _
    · cases h
  | .bool,v,t,o,h,ho=>by
    simp only [wz.fit,MI] at h
    split at h
    · rename_i kn b
      cases kn with
      | true=>cases h
      | false=>cases h;exact .refl _
    · cases h
  | .kbool b,v,t,o,h,ho=>by
    simp only [wz.fit,HS] at h
    split at h
    · obtain ⟨e,h⟩:=rJ h
      rw [Bool.and_eq_true] at e
      cases e.1;cases KF.1 e.2;exact .refl _
    · cases h
  | .str,v,t,o,h,ho=>by
    simp only [wz.fit,OU] at h
    split at h
    · cases h;exact .refl _
    · cases h
  | .fl,v,t,o,h,ho=>qf (g:=.fl) (f:=OV) (fun {d xs} e=>by cases d<;>cases e;rfl) (fun q=>.fl q) ⟨trivial,rfl,rfl⟩ h ho
  | .ns k,v,t,o,h,ho=>qf (g:=.ns k) (f:=OW k) (fun {d xs} e=>by
      cases d<;>try (cases e;done)
      have e1:=(rJ e).1;replace e:=(rJ e).2
      cases pK.1 e1;cases e;rfl) (fun q=>.ns q) ⟨trivial,rfl,rfl⟩ h ho
  | .bs,v,t,o,h,ho=>qf (g:=.bs) (f:=OX) (fun {d xs} e=>by cases d<;>cases e;rfl) (fun q=>.bs q) ⟨trivial,rfl,rfl⟩ h ho
  | .ss,v,t,o,h,ho=>qf (g:=.ss) (f:=QM) (fun {d xs} e=>by cases d<;>cases e;rfl) (fun q=>.ss q) ⟨trivial,rfl,rfl⟩ h ho
  | .cols ks,v,t,o,h,ho=>FX h ho
  | .ivs ps w i j,v,t,o,h,ho=>by
    simp only [wz.fit] at h
    split at h
    case h_2=>cases h
    rename_i q hq
    split at h
    case h_2=>cases h
    rename_i r hr
    cases h
    unfold QO at hq
    split at hq
    case h_2=>cases hq
    rename_i l d w' i' j'
    cases d<;>simp only [QN,Option.bind_none,Option.bind_some,reduceCtorEq] at hq
    rename_i xs
    have e:=(rJ hq).1;replace hq:=(rJ hq).2
    rw [Bool.and_eq_true,Bool.and_eq_true] at e
    cases Nat.eq_of_beq_eq_true e.1
    cases Nat.eq_of_beq_eq_true e.2.1
    cases Nat.eq_of_beq_eq_true e.2.2
    cases hq
    have:=j5.fit_spec ps xs hr ho
    exact ⟨Bn this.weak this.kept this.foreign,id,id⟩
  | .fn f a b,v,t,o,h,ho=>by
    simp only [wz.fit] at h
    split at h
    case h_2=>cases h
    rename_i q hq
    split at h
    case h_2=>cases h
    rename_i r hr
    split at h
    case h_2=>cases h
    rename_i s hs
    cases h
    unfold RP at hq
    split at hq
    case h_2=>cases hq
    have e:=(rJ hq).1;replace hq:=(rJ hq).2
    cases Nat.eq_of_beq_eq_true e
    cases hq
    rw [aV] at ho
    have h1:=j5.fit_spec a _ hr ho.1
    have h2:=j5.fit_spec b _ hs ho.2
    refine ⟨aL.fn h1.weak h2.weak,fun q=>?_,fun q=>?_⟩
    · simp only [wz.av,AV.kept,Bool.and_eq_true] at q ⊢;exact ⟨h1.kept q.1,h2.kept q.2⟩
    · simp only [wz.av,AV.foreign,Bool.and_eq_true] at q ⊢;exact ⟨h1.foreign q.1,h2.foreign q.2⟩
  | .agg ps,v,t,o,h,ho=>by
    simp only [wz.fit] at h
    split at h
    case h_2=>cases h
    rename_i l hl
    cases v<;>simp only [QP,reduceCtorEq,Option.some.injEq] at hl
    subst hl
    have:=j5.fit_spec ps _ h ho
    exact ⟨aL.agg this.weak,this.kept,this.foreign⟩
  | .tup ps,v,t,o,h,ho=>by
    simp only [wz.fit] at h
    split at h
    case h_2=>cases h
    rename_i l hl
    cases v<;>simp only [QQ,reduceCtorEq,Option.some.injEq] at hl
    subst hl
    have:=j5.fit_spec ps _ h ho
    exact ⟨aL.tup this.weak,this.kept,this.foreign⟩
  | .iface y p,v,t,o,h,ho=>by
    simp only [wz.fit] at h
    split at h
    case h_2=>cases h
    rename_i u hu
    unfold MK at hu
    split at hu
    case h_2=>cases hu
    have e:=(rJ hu).1;replace hu:=(rJ hu).2
    cases Nat.eq_of_beq_eq_true e
    subst hu
    have:=wz.fit_spec p _ h ho
    exact ⟨aL.iface this.weak,this.kept,this.foreign⟩
  | .nfn,v,t,o,h,ho=>by
    cases v<;>simp only [wz.fit,QR,reduceCtorEq] at h
    exact .refl _
  | .nptr,v,t,o,h,ho=>by
    cases v<;>simp only [wz.fit,OY,reduceCtorEq] at h
    exact .refl _
  | .niface,v,t,o,h,ho=>by
    cases v<;>simp only [wz.fit,HT,reduceCtorEq] at h
    exact .refl _
  | .any,v,t,o,h,ho=>⟨aL.any v,fun _=>rfl,fun _=>rfl⟩
  | .lsl b,v,t,o,h,ho=>by
    simp only [wz.fit,OZ] at h
    split at h
    · have e:=(rJ h).1;replace h:=(rJ h).2
      rw [Bool.and_eq_true,Bool.and_eq_true] at e
      cases Nat.eq_of_beq_eq_true e.1
      cases Nat.eq_of_beq_eq_true e.2.1
      cases Nat.eq_of_beq_eq_true e.2.2
      cases h;exact .refl _
    · cases h
  | .lptr b w i j,v,t,o,h,ho=>by
    simp only [wz.fit,ML] at h
    split at h
    · have e:=(rJ h).1;replace h:=(rJ h).2
      rw [Bool.and_eq_true,Bool.and_eq_true,Bool.and_eq_true] at e
      cases Nat.eq_of_beq_eq_true e.1.1
      cases Nat.eq_of_beq_eq_true e.1.2
      cases Nat.eq_of_beq_eq_true e.2.1
      cases Nat.eq_of_beq_eq_true e.2.2
      exact .refl _
    · cases h
theorem j5.fit_spec:∀ (ps:j5) (l:List AV) {t:ps.Ty} {o:List Bool},ps.fit l=some (t,o)→az o→Sc l (ps.avs t)
  | .nil,[],t,o,h,ho=>⟨.nil,id,id⟩
  | .nil,v::l,t,o,h,ho=>by simp [j5.fit] at h
  | .cons p ps,[],t,o,h,ho=>by simp [j5.fit] at h
  | .cons p ps,v::l,t,o,h,ho=>by
    simp only [j5.fit] at h
    split at h
    case h_2=>cases h
    rename_i r hr
    split at h
    case h_2=>cases h
    rename_i s hs
    cases h
    rw [aV] at ho
    exact .cons (wz.fit_spec p v hr ho.1) (j5.fit_spec ps l hs ho.2)
end
def cy(f:FuncId)(ps:j5)(alts:ps.Ty→List nk) :aD :=
  ⟨f, fun L args => match L with
    | []=>match ps.fit args with
      | some r=>some ((alts r.1).map fun a=>⟨a.out,r.2++a.obs⟩)
      | none=>none
    | _=>none⟩
theorem aR{P:Program}{f:FuncId}{ps:j5}{alts:ps.Ty→List nk}(h:∀ t,∀ a∈alts t,az a.obs→ae P f [] (ps.avs t) a.out) :aM P (cy f ps alts):=by
  intro L args al a hal ha ho
  simp only [cy] at hal
  split at hal
  case h_2=>cases hal
  split at hal
  case h_2=>cases hal
  rename_i r hr
  obtain ⟨t,o⟩:=r
  simp only [Option.some.injEq] at hal
  subst hal
  simp only [List.mem_map] at ha
  obtain ⟨b,hb,rfl⟩:=ha
  simp only [aV] at ho
  exact (h t b hb ho.2).args (j5.fit_spec ps args hr ho.1).weak
inductive BK where
  | fl
  | ns (k:IntKind)
  | bs
def BK.Ty:BK→Type
  | .fl=>List Nat
  | .ns _=>List Int
  | .bs=>List Bool
def BK.blk:(k:BK)→k.Ty→aA
  | .fl,xs=>.fl xs
  | .ns k,xs=>.ns k xs
  | .bs,xs=>.bs xs
def BK.fit:(k:BK)→aA→Option k.Ty
  | .fl=>OV
  | .ns k=>OW k
  | .bs=>OX
theorem BK.fit_spec:∀ (k:BK) {d:aA} {t:k.Ty},k.fit d=some t→d=k.blk t
  | .fl,d,t,h=>by cases d<;>cases h;rfl
  | .ns k,d,t,h=>by
    cases d<;>try (cases h;done)
    have e1:=(rJ h).1;replace h:=(rJ h).2
    cases pK.1 e1;cases h;rfl
  | .bs,d,t,h=>by cases d<;>cases h;rfl
def BKs.Ty:List BK→Type
  | []=>Unit
  | k::l=>k.Ty×BKs.Ty l
def wA:(l:List BK)→BKs.Ty l→List aA
  | [],_=>[]
  | k::l,t=>k.blk t.1::wA l t.2
def BKs.fit:(l:List BK)→List aA→Option (BKs.Ty l)
  | [],[]=>some ()
  | [],_::_=>none
  | _::_,[]=>none
  | k::l,d::ds=>match k.fit d with
    | some t=>match BKs.fit l ds with
      | some r=>some (t,r)
      | none=>none
    | none=>none
theorem BKs.fit_spec:∀ (l:List BK) {ds:List aA} {t:BKs.Ty l},BKs.fit l ds=some t→ds=wA l t
  | [],[],t,h=>rfl
  | [],_::_,t,h=>by cases h
  | _::_,[],t,h=>by cases h
  | k::l,d::ds,t,h=>by
    simp only [BKs.fit] at h
    split at h
    case h_2=>cases h
    rename_i x hx
    split at h
    case h_2=>cases h
    rename_i r hr
    cases h
    simp only [wA]
    rw [←BK.fit_spec k hx,←BKs.fit_spec l hr]
def HU(f:FuncId)(bs:List BK)(ps:j5)(alts:BKs.Ty bs→ps.Ty→List nk) :aD :=
  ⟨f, fun L args => match BKs.fit bs L with
    | some x=>match ps.fit args with
      | some r=>some ((alts x r.1).map fun a=>⟨a.out,r.2++a.obs⟩)
      | none=>none
    | none=>none⟩
theorem Bo{P:Program}{f:FuncId}{bs:List BK}{ps:j5}{alts:BKs.Ty bs→ps.Ty→List nk}(h:∀ x t,∀ a∈alts x t,az a.obs→ae P f (wA bs x) (ps.avs t) a.out) :aM P (HU f bs ps alts):=by
  intro L args al a hal ha ho
  simp only [HU] at hal
  split at hal
  case h_2=>cases hal
  rename_i x hx
  split at hal
  case h_2=>cases hal
  rename_i r hr
  obtain ⟨t,o⟩:=r
  simp only [Option.some.injEq] at hal
  subst hal
  simp only [List.mem_map] at ha
  obtain ⟨b,hb,rfl⟩:=ha
  simp only [aV] at ho
  have:=(h x t b hb ho.2).args (j5.fit_spec ps args hr ho.1).weak
  rwa [←BKs.fit_spec bs hx] at this
theorem Bp{P:Program}{f:FuncId}{L:List aA}{l:List AV} :∀ a∈([]:List nk),az a.obs→ae P f L l a.out:=fun a h=>by cases h
theorem tt{P:Program}{f:FuncId}{L:List aA}{l:List AV}{o:gq}{b:Bool}{al:List nk}(h:b=true→ae P f L l o)(t:∀ a∈al,az a.obs→ae P f L l a.out) :∀ a∈(⟨o,[b]⟩:nk)::al,az a.obs→ae P f L l a.out:=by
  intro a ha ho
  rcases List.mem_cons.1 ha with rfl | ha
  · exact h ho.1
  · exact t a ha ho
theorem bj{P:Program}{f:FuncId}{l:List AV} :∀ a∈([]:List nk),az a.obs→ae P f [] l a.out:=fun a h=>by cases h
theorem aS{P:Program}{f:FuncId}{l:List AV}{o:gq}{b:Bool}{al:List nk}(h:b=true→ae P f [] l o)(t:∀ a∈al,az a.obs→ae P f [] l a.out) :∀ a∈(⟨o,[b]⟩:nk)::al,az a.obs→ae P f [] l a.out:=by
  intro a ha ho
  rcases List.mem_cons.1 ha with rfl | ha
  · exact h ho.1
  · exact t a ha ho
end Go.Plb
namespace Go.Plb
open Go.ChangeShapes Go.WideShapes Go.ChangeAt Go.RowKit Go.Deep
set_option linter.unusedSimpArgs false
set_option linter.unusedVariables false
set_option linter.unusedSectionVars false
variable [Rom]
def FA.n:FA→Nat
  | .f x=>x
  | _=>0
def FA.ss:FA→ByteArray
  | .s x=>x
  | _=>ByteArray.empty
variable {H : Type} {enc : TypeId × Value → H} {P : Program} {W : World}
instance:Inhabited FA:=⟨.b false⟩
end Go.Plb
namespace Go.Plb.Seat
open Go Go.Plb Go.Proofs
noncomputable abbrev prog:Program:=Tryd.prog
def aB:List Int:=[0,1,56,2,57,49,28,3,61,58,42,50,38,29,17,4,62,47,59,36,45,43,51,22,53,39,33,30,24,18,12,5,63,55,48,27,60,41,37,16,46,35,44,21,52,32,23,11,54,26,40,15,34,20,31,10,25,14,19,9,13,8,7,6]
instance:Rom:=⟨[(1,.ns .u8 aB)]⟩
abbrev nr:FuncId:=6
abbrev vg:FuncId:=12
abbrev KG:FuncId:=13
abbrev qg:FuncId:=14
abbrev FY:FuncId:=15
abbrev vh:FuncId:=16
abbrev vi:FuncId:=17
abbrev oC:FuncId:=21
abbrev vj:FuncId:=34
abbrev Bq:FuncId:=35
abbrev o6:FuncId:=36
abbrev rK:FuncId:=37
abbrev uu:FuncId:=38
abbrev xZ:FuncId:=40
abbrev vk:FuncId:=41
abbrev rL:FuncId:=42
abbrev wB:FuncId:=43
abbrev jr:FuncId:=44
abbrev qh:FuncId:=45
abbrev iI:FuncId:=46
abbrev bR:FuncId:=48
abbrev lL:FuncId:=51
abbrev Br:FuncId:=52
abbrev HV:FuncId:=53
abbrev rM:FuncId:=54
abbrev tu:FuncId:=55
abbrev qi:FuncId:=56
abbrev x7:FuncId:=57
abbrev rN:FuncId:=58
abbrev fK:FuncId:=66
abbrev iZ:FuncId:=67
abbrev js:FuncId:=68
abbrev g8:FuncId:=87
abbrev tw:FuncId:=88
abbrev x8:FuncId:=89
abbrev qj:FuncId:=92
abbrev wC:FuncId:=94
abbrev rO:FuncId:=96
abbrev Dj:FuncId:=97
abbrev wD:FuncId:=99
abbrev vm:FuncId:=100
abbrev oD:FuncId:=101
abbrev x9:FuncId:=102
abbrev i0:FuncId:=103
abbrev nt:FuncId:=104
abbrev KH:FuncId:=105
abbrev tx:FuncId:=106
abbrev nu:FuncId:=107
abbrev ya:FuncId:=109
abbrev oE:FuncId:=125
abbrev jt:FuncId:=126
abbrev tA:FuncId:=127
abbrev rP:FuncId:=129
abbrev wE:FuncId:=130
abbrev bn:FuncId:=133
abbrev gr:FuncId:=134
abbrev tB:FuncId:=135
abbrev oF:FuncId:=136
abbrev yc:FuncId:=137
abbrev ju:FuncId:=143
abbrev tC:FuncId:=144
noncomputable def FN(f:FuncId) :Func:=(prog.funcs[f]?).getD default
noncomputable def rp(f:FuncId) :Code:=((FN f).body).getD .skip
noncomputable def C0:u9:=MD prog [(fK,.frombits),(iZ,.bits),(jt,.add64),(rP,.sqrt),(ju,.sub64)] [(vg,⟨[],true⟩),(KG,⟨[],true⟩),(qg,⟨[],true⟩),(FY,⟨[],true⟩),(vh,⟨[],true⟩),(vi,⟨[],true⟩),(vj,⟨[],true⟩),(xZ,⟨[],true⟩),(vk,⟨[],true⟩),(rL,⟨[],true⟩),(lL,⟨[],true⟩),(Br,⟨[],true⟩),(HV,⟨[true],false⟩),(rM,⟨[],true⟩),(tu,⟨[],true⟩),(qi,⟨[],true⟩),(x7,⟨[],true⟩),(rN,⟨[],true⟩),(tw,⟨[],true⟩),(x8,⟨[],true⟩),(rO,⟨[],true⟩),(Dj,⟨[],true⟩),(vm,⟨[],true⟩),(oD,⟨[],true⟩),(x9,⟨[],true⟩),(i0,⟨[true],false⟩),(nt,⟨[],true⟩),(KH,⟨[true],false⟩),(tx,⟨[true],false⟩),(nu,⟨[true],false⟩),(oE,⟨[false,false,true],false⟩),(tA,⟨[],true⟩),(tB,⟨[],true⟩),(yc,⟨[],true⟩),(tC,⟨[],true⟩)]
theorem o7:Et prog fK .frombits:=⟨FN fK,by kernel_rfl,by kernel_rfl,by kernel_rfl,by kernel_rfl,by kernel_rfl⟩
theorem rQ:Et prog iZ .bits:=⟨FN iZ,by kernel_rfl,by kernel_rfl,by kernel_rfl,by kernel_rfl,by kernel_rfl⟩
theorem tU:Et prog jt .add64:=⟨FN jt,by kernel_rfl,by kernel_rfl,by kernel_rfl,by kernel_rfl,by kernel_rfl⟩
theorem Dk:Et prog rP .sqrt:=⟨FN rP,by kernel_rfl,by kernel_rfl,by kernel_rfl,by kernel_rfl,by kernel_rfl⟩
theorem tV:Et prog ju .sub64:=⟨FN ju,by kernel_rfl,by kernel_rfl,by kernel_rfl,by kernel_rfl,by kernel_rfl⟩
theorem mixed:prog.follows .mixedOrders=true:=by kernel_rfl
theorem RS:ME prog=true:=by kernel_rfl
theorem nv:C0.Ok:=OD mixed RS (by
  intro x hx
  simp only [List.mem_cons,List.not_mem_nil,or_false] at hx
  rcases hx with rfl | rfl | rfl | rfl | rfl
  · exact o7
  · exact rQ
  · exact tU
  · exact Dk
  · exact tV
  )
end Go.Plb.Seat
namespace Go.Plb
set_option linter.unusedSimpArgs false
set_option linter.unusedVariables false
set_option linter.unusedSectionVars false
variable [Rom]
inductive T (α:Type) where
  | fail
  | leaf (a:α)
  | ask (b:Bool) (t f:T α)
  | need (b:Bool) (t:T α)
  | alt (k:Nat) (t e:T α)
def T.run{α:Type} :T α→Option α
  | .fail=>none
  | .leaf a=>some a
  | .ask b t f=>bif b then t.run else f.run
  | .need b t=>bif b then t.run else none
  | .alt _ t e=>match t.run with
    | some a=>some a
    | none=>e.run
structure tW (α:Type) where
  path:List Nat
  obs:List Bool
  val:α
def tW.ask{α:Type}(n:Nat)(b:Bool)(l:tW α) :tW α:=⟨n::l.path,b::l.obs,l.val⟩
def tW.need{α:Type}(b:Bool)(l:tW α) :tW α:=⟨l.path,b::l.obs,l.val⟩
def tW.alt{α:Type}(n:Nat)(l:tW α) :tW α:=⟨n::l.path,l.obs,l.val⟩
def T.leaves{α:Type} :T α→List (tW α)
  | .fail=>[]
  | .leaf a=>[⟨[],[],a⟩]
  | .ask b t f=>t.leaves.map (tW.ask 1 (b==true))++f.leaves.map (tW.ask 0 (b==false))
  | .need b t=>t.leaves.map (tW.need b)
  | .alt k t e=>t.leaves.map (tW.alt k)++e.leaves
theorem km{α:Type} :∀ (t:T α) {a:α},t.run=some a→∃ l∈t.leaves,l.val=a∧az l.obs
  | .fail,a,h=>by cases h
  | .leaf b,a,h=>by
    simp only [T.run,Option.some.injEq] at h;subst h
    exact ⟨⟨[],[],b⟩,by simp [T.leaves],rfl,trivial⟩
  | .ask b t f,a,h=>by
    simp only [T.run] at h
    cases b with
    | true =>
      simp only [cond_true] at h
      obtain ⟨l,h1,h2,h3⟩:=km t h
      exact ⟨l.ask 1 (true==true),by simp only [T.leaves,List.mem_append];exact .inl (List.mem_map_of_mem h1),h2,⟨rfl,h3⟩⟩
    | false =>
      simp only [cond_false] at h
      obtain ⟨l,h1,h2,h3⟩:=km f h
      exact ⟨l.ask 0 (false==false),by simp only [T.leaves,List.mem_append];exact .inr (List.mem_map_of_mem h1),h2,⟨rfl,h3⟩⟩
  | .need b t,a,h=>by
    simp only [T.run] at h
    cases b with
    | true =>
      simp only [cond_true] at h
      obtain ⟨l,h1,h2,h3⟩:=km t h
      exact ⟨l.need true,by simp only [T.leaves];exact List.mem_map_of_mem h1,h2,⟨rfl,h3⟩⟩
    | false=>cases h
  | .alt k t e,a,h=>by
    simp only [T.run] at h
    split at h
    · rename_i a' ht
      cases h
      obtain ⟨l,h1,h2,h3⟩:=km t ht
      exact ⟨l.alt k,by simp only [T.leaves,List.mem_append];exact .inl (List.mem_map_of_mem h1),h2,h3⟩
    · obtain ⟨l,h1,h2,h3⟩:=km e h
      exact ⟨l,by simp only [T.leaves,List.mem_append];exact .inr h1,h2,h3⟩
def rR{α X:Type}(N:α→aE)(E:X→AE×aE) :α⊕X→AE×aE
  | .inl a=>(.normal,N a)
  | .inr x=>E x
def Sg{α X:Type}(P:Program)(lent:List aA)(cs:List Code)(st:aE)(m:Option (α⊕X))(N:α→aE)(E:X→AE×aE) :Prop :=
  ∀ r,m=some r→eR P lent cs st fun e st'=>(e,st')=rR N E r
def O1{α X:Type}(C:u9)(S:wv)(n:Nat)(cs:List Code)(st:aE)(ls:List (tW (α⊕X)))(ks:List NS)(k:Nat) :List (Bool×Option (AE×aE×List Bool)) :=
  List.zipWith (fun l s=>(s.ok k,OK s (Nt (eV C S 12 n) cs st (some l.path)))) ls ks
def MM{α X:Type}(N:α→aE)(E:X→AE×aE)(ls:List (tW (α⊕X))) :List (Bool×Option (AE×aE×List Bool)) :=
  ls.map fun l=>(true,some ((rR N E l.val).1,(rR N E l.val).2,l.obs))
theorem MN{α β γ:Type}{f:α→β→γ}{g:α→γ} :∀ {l:List α} {k:List β},List.zipWith f l k=l.map g→∀ a∈l,∃ b,f a b=g a
  | [],_,_,a,ha=>by cases ha
  | x::l,[],h,a,ha=>by simp at h
  | x::l,y::k,h,a,ha=>by
    simp only [List.zipWith_cons_cons,List.map_cons,List.cons.injEq] at h
    rcases List.mem_cons.1 ha with rfl | ha
    · exact ⟨y,h.1⟩
    · exact MN h.2 a ha
theorem Sg.seg{C:u9}(hC:C.Ok){S:wv}(hS:aX C.P S){lent:List aA}{α X:Type}(n:Nat)(cs:List Code)(st:aE)(t:T (α⊕X))(N:α→aE)(E:X→AE×aE)(ks:List NS) 
    (h:O1 C S n cs st t.leaves ks lent.length=MM N E t.leaves):Sg C.P lent cs st t.run N E:=by
  intro r hr
  obtain ⟨l,h1,h2,h3⟩:=km t hr
  obtain ⟨k,hk⟩:=MN h l h1
  simp only [Prod.mk.injEq] at hk
  obtain ⟨hn,he⟩:=hk
  have:=eR.seg hC hS (lent:=lent) (Q:=fun e st'=>(e,st')=rR N E r) cs.length (some l.path) k (cs:=cs) (st:=st) (by rw [List.take_length];exact he) hn h3
  refine this ?_
  rw [h2,List.drop_length]
  generalize hg:rR N E r=x
  obtain ⟨e,s⟩:=x
  cases e with
  | normal=>exact eR.nil rfl
  | ret=>rfl
  | exit id=>rfl
theorem eR.append{P:Program}{lent:List aA}{cs1 cs2:List Code}{st:aE}{Q1 Q:AE→aE→Prop}(h:eR P lent cs1 st Q1)(k:∀ e st',Q1 e st'→Di P lent cs2 e st' Q) :eR P lent (cs1++cs2) st Q:=by
  intro ρ0 w0 hN K hK a w hA
  apply vd
  refine h ρ0 w0 hN _ ?_ a w hA
  intro e st' a' w' q hA'
  have:=k e st' q
  cases e with
  | normal=>exact this ρ0 w0 hN K hK a' w' hA'
  | ret=>exact hK _ _ _ _ this hA'
  | exit id=>exact hK _ _ _ _ this hA'
def lM{X:Type}(E:X→AE×aE) :Prop:=∀ x,(E x).1 ≠ .normal
theorem MO{P:Program}{lent:List aA}{cs:List Code}{e:AE}{st:aE}{Q:AE→aE→Prop}(hn:e ≠ .normal)(h:Q e st) :Di P lent cs e st Q:=by
  cases e with
  | normal=>exact (hn rfl).elim
  | ret=>exact h
  | exit id=>exact h
def aK{α β X:Type}(m:Option (α⊕X))(k:α→Option (β⊕X)) :Option (β⊕X) :=
  match m with
  | none=>none
  | some (.inl a)=>k a
  | some (.inr x)=>some (.inr x)
theorem Sg.seq{P:Program}{lent:List aA}{α β X:Type}{cs1 cs2:List Code}{st:aE}{m:Option (α⊕X)}{N1:α→aE}{E:X→AE×aE}{k:α→Option (β⊕X)}{N:β→aE}(hE:lM E) 
    (h:Sg P lent cs1 st m N1 E) (hk:∀ a,Sg P lent cs2 (N1 a) (k a) N E):Sg P lent (cs1++cs2) st (aK m k) N E:=by
  intro r hr
  unfold aK at hr
  split at hr
  · cases hr
  · rename_i a
    refine eR.append (h _ rfl) ?_
    intro e st' q
    simp only [rR,Prod.mk.injEq] at q
    obtain ⟨rfl,rfl⟩:=q
    exact hk a r hr
  · rename_i x
    simp only [Option.some.injEq] at hr;subst hr
    refine eR.append (h _ rfl) ?_
    intro e st' q
    simp only [rR] at q
    refine MO ?_ q
    have:=hE x
    rw [←q] at this;exact this
def ri{σ Y:Type}(B:σ→Option (σ⊕Y)) :Nat→σ→Option Y
  | 0,_=>none
  | n+1,s=>match B s with
    | none=>none
    | some (.inl s')=>ri B n s'
    | some (.inr y)=>some y
theorem vn{σ Y:Type}{B:σ→Option (σ⊕Y)} :∀ (n:Nat) {s:σ} {y:Y},ri B n s=some y→∀ m,n≤m→ri B m s=some y
  | 0,s,y,h,_,_=>by cases h
  | n+1,s,y,h,m,hm=>by
    obtain ⟨m',rfl⟩:∃ m',m=m'+1:=⟨m-1,by omega⟩
    simp only [ri] at h ⊢
    split at h
    · cases h
    · exact vn n h m' (by omega)
    · exact h
open Classical in
noncomputable def eK{σ Y:Type}(B:σ→Option (σ⊕Y))(s:σ) :Option Y :=
  if h:∃ n y,ri B n s=some y then some h.choose_spec.choose else none
theorem tD{σ Y:Type}{B:σ→Option (σ⊕Y)}{s:σ}{y:Y} :eK B s=some y↔∃ n,ri B n s=some y:=by
  unfold eK
  constructor
  · intro h
    split at h
    · rename_i q
      simp only [Option.some.injEq] at h
      exact ⟨q.choose,by rw [←h];exact q.choose_spec.choose_spec⟩
    · cases h
  · rintro ⟨n,h⟩
    rw [dif_pos ⟨n,y,h⟩]
    generalize hq:(⟨n,y,h⟩:∃ n y,ri B n s=some y)=q
    have h1:=q.choose_spec.choose_spec
    have a1:=vn n h (max n q.choose) (by omega)
    have a2:=vn _ h1 (max n q.choose) (by omega)
    rw [a1] at a2
    exact a2.symm
theorem HW{σ Y:Type}(B:σ→Option (σ⊕Y))(s:σ) :eK B s=match B s with
    | none=>none
    | some (.inl s')=>eK B s'
    | some (.inr y)=>some y:=by
  have key:∀ y,eK B s=some y↔(match B s with | none=>none | some (.inl s')=>eK B s' | some (.inr y)=>some y)=some y:=by
    intro y
    rw [tD]
    constructor
    · rintro ⟨n,h⟩
      cases n with
      | zero=>cases h
      | succ n =>
        simp only [ri] at h
        cases q:B s with
        | none=>rw [q] at h;cases h
        | some z=>cases z with
          | inl s'=>rw [q] at h;exact tD.2 ⟨n,h⟩
          | inr z=>rw [q] at h;exact h
    · intro h
      split at h<;>rename_i q
      · cases h
      · obtain ⟨n,hn⟩:=tD.1 h
        exact ⟨n+1,by simp only [ri,q];exact hn⟩
      · exact ⟨1,by simp only [ri,q];exact h⟩
  generalize (match B s with | none=>none | some (.inl s')=>eK B s' | some (.inr y)=>some y)=x at key
  cases hl:eK B s with
  | none=>cases x with
    | none=>rfl
    | some y=>rw [(key y).2 rfl] at hl;cases hl
  | some y=>rw [hl] at key;exact ((key y).1 rfl).symm
theorem O2{σ Y:Type}{B:σ→Option (σ⊕Y)}{s s':σ}(h:B s=some (.inl s')) :eK B s=eK B s':=by rw [HW,h]
theorem Nz{σ Y:Type}{B:σ→Option (σ⊕Y)}{s:σ}{y:Y}(h:B s=some (.inr y)) :eK B s=some y:=by rw [HW,h]
def iv{ρ X:Type}(id:Nat)(J:ρ→aE)(E:X→AE×aE) :ρ⊕X→AE×aE
  | .inl r=>(.exit id,J r)
  | .inr x=>E x
def vo{X:Type}(id:Nat)(E:X→AE×aE) :Prop:=∀ x,(E x).1 ≠ .exit id
theorem Sg.loop{P:Program}{lent:List aA}{σ ρ X:Type}{I:σ→aE}{J:ρ→aE}{E:X→AE×aE}{B:σ→Option (σ⊕(ρ⊕X))}{id:Nat}{b:Code}(hE:lM E)(hI:vo id E) 
    (hb:∀ s,Sg P lent (fa b) (I s) (B s) I (iv id J E)) (s:σ):Sg P lent [.block id (.loop b)] (I s) (eK B s) J E:=by
  intro y hy
  obtain ⟨n,hn⟩:=tD.1 hy

  have:=eR.loop (P:=P) (lent:=lent) (id:=id) (b:=b) (rest:=[]) (Q:=fun e st'=>(e,st')=rR J E y) (σ:=Nat×σ) (fun s=>I s.2) (fun s=>ri B s.1 s.2=some y) (fun s=>s.1) rfl (fun s hs=>?_) (n,s) hn
  · exact this
  · obtain ⟨n,s⟩:=s
    simp only at hs ⊢
    cases n with
    | zero=>cases hs
    | succ n =>
      simp only [ri] at hs
      split at hs
      · cases hs
      · rename_i s' hB
        refine (hb s _ hB).mono ?_
        intro e st' q
        simp only [rR,Prod.mk.injEq] at q
        obtain ⟨rfl,rfl⟩:=q
        exact ⟨(n,s'),hs,by simp,rfl⟩
      · rename_i y' hB
        simp only [Option.some.injEq] at hs;subst hs
        refine (hb s _ hB).mono ?_
        intro e st' q
        cases y' with
        | inl r =>
          simp only [rR,iv,Prod.mk.injEq] at q
          obtain ⟨rfl,rfl⟩:=q
          simp only [wx,if_true]
          exact eR.nil rfl
        | inr x =>
          simp only [rR,iv] at q
          have h1:=hE x
          have h2:=hI x
          rw [←q] at h1 h2
          simp only at h1 h2
          cases e with
          | normal=>exact (h1 rfl).elim
          | ret=>exact q
          | exit j =>
            have hj : ¬ j=id:=fun h=>h2 (by rw [h])
            simp only [wx,hj,if_false]
            exact q
def QS{κ X:Type}(m:Option (κ⊕(κ⊕X))) :Option (κ⊕X) :=
  match m with
  | none=>none
  | some (.inl a)=>some (.inl a)
  | some (.inr (.inl a))=>some (.inl a)
  | some (.inr (.inr x))=>some (.inr x)
theorem Sg.block{P:Program}{lent:List aA}{κ X:Type}{K:κ→aE}{E:X→AE×aE}{m:Option (κ⊕(κ⊕X))}{id:Nat}{b:Code}{st:aE}(hE:lM E)(hI:vo id E) 
    (hb:Sg P lent (fa b) st m K (iv id K E)):Sg P lent [.block id b] st (QS m) K E:=by
  intro r hr
  unfold QS at hr
  refine eR.block (rest:=[]) rfl ?_
  split at hr
  · cases hr
  · simp only [Option.some.injEq] at hr;subst hr
    refine (hb _ rfl).mono ?_
    intro e st' q
    simp only [rR,Prod.mk.injEq] at q
    obtain ⟨rfl,rfl⟩:=q
    exact eR.nil rfl
  · simp only [Option.some.injEq] at hr;subst hr
    refine (hb _ rfl).mono ?_
    intro e st' q
    simp only [rR,iv,Prod.mk.injEq] at q
    obtain ⟨rfl,rfl⟩:=q
    simp only [if_true]
    exact eR.nil rfl
  · rename_i x
    simp only [Option.some.injEq] at hr;subst hr
    refine (hb _ rfl).mono ?_
    intro e st' q
    simp only [rR,iv] at q
    have h1:=hE x
    have h2:=hI x
    rw [←q] at h1 h2
    simp only at h1 h2
    cases e with
    | normal=>exact (h1 rfl).elim
    | ret=>exact q
    | exit j =>
      have hj : ¬ j=id:=fun h=>h2 (by rw [h])
      simp only [hj,if_false]
      exact q
theorem Sg.scope{P:Program}{lent:List aA}{α X:Type}{N:α→aE}{E:X→AE×aE}{m:Option (α⊕X)}{b:Code}{st:aE}(hE:lM E)(hb:Sg P lent (fa b) st m N E) :Sg P lent [.scope b] st m N E:=by
  intro r hr
  refine eR.scope (rest:=[]) rfl ((hb r hr).mono ?_)
  intro e st' q
  cases r with
  | inl a =>
    simp only [rR,Prod.mk.injEq] at q
    obtain ⟨rfl,rfl⟩:=q
    exact eR.nil rfl
  | inr x =>
    refine MO ?_ q
    have:=hE x
    simp only [rR] at q
    rw [←q] at this;exact this
theorem HX{k:Nat}{ρ0:ah}{w0:World}{st:aE}{a:Act}{w:World}{c:Operand}{b kn:Bool}(h:At k ρ0 w0 st a w)(hc:PU st.tmps c=.bool kn b) :At k ρ0 w0 { st with tmps:=nj st.tmps c b } a w∧a.eval c=.bool b:=by
  obtain ⟨ρ,E,W,hs,hbk,hle⟩:=h
  have hb:a.eval c=.bool b:=by
    have:=AG hs.heap.rom hs.tmps c
    rw [hc] at this
    generalize a.eval c=z at this
    cases this;rfl
  refine ⟨⟨ρ,E,W,⟨hs.defers,?_,hs.heap⟩,hbk,hle⟩,hb⟩
  cases c with
  | tmp t =>
    simp only [nj]
    have:di ρ w (st.tmps.set t (.bool true b)) (a.tmps.toList.set t (.bool b)):=hs.tmps.set (.bool _ _) t
    have e:a.tmps.toList.set t (.bool b)=a.tmps.toList:=by
      apply List.ext_getElem?
      intro j
      rw [List.getElem?_set]
      split
      · rename_i q;subst q
        split
        · rename_i hlt
          simp only [Act.eval] at hb
          rw [Array.getD_eq_getD_getElem?] at hb
          have hlt':t<a.tmps.size:=by simpa using hlt
          rw [Array.getElem?_eq_getElem hlt'] at hb
          simp only [Option.getD_some] at hb
          simp [hlt',hb]
        · rename_i hge
          rw [List.getElem?_eq_none (by omega)]
      · rfl
    rw [e] at this;exact this
  | const v=>exact hs.tmps
  | global g=>exact hs.tmps
  | func f=>exact hs.tmps
theorem Sg.cond{P:Program}{lent:List aA}{α X:Type}{N:α→aE}{E:X→AE×aE}{m1 m2:Option (α⊕X)}{c:Operand}{A B:Code}{st:aE}{kn b:Bool}(hE:lM E)(hc:PU st.tmps c=.bool kn b) 
    (h1:Sg P lent (fa A) { st with tmps:=nj st.tmps c true } m1 N E) (h2:Sg P lent (fa B) { st with tmps:=nj st.tmps c false } m2 N E):Sg P lent [.cond c A B] st (bif b then m1 else m2) N E:=by
  intro r hr
  intro ρ0 w0 hN K hK a w hA
  simp only [C5]
  obtain ⟨hA',hb⟩:=HX hA hc
  refine wp_cond hb ?_
  have fin:∀ (D:Code) (m:Option (α⊕X)) (st1:aE),Sg P lent (fa D) st1 m N E→m=some r→At lent.length ρ0 w0 st1 a w→D.wp P (fun e a' w'=>match e with | .normal=>K .normal a' w' | e=>K e a' w') a w:=by
    intro D m st1 hS hm hA1
    refine qe D (hS r hm ρ0 w0 hN _ ?_ a w hA1)
    intro e st' a' w' q hA2
    cases e with
    | normal=>exact hK .normal st' a' w' q hA2
    | ret=>exact hK .ret st' a' w' q hA2
    | exit id=>exact hK (.exit id) st' a' w' q hA2
  cases b with
  | true=>exact fin A m1 _ h1 hr hA'
  | false=>exact fin B m2 _ h2 hr hA'
theorem Sg.pre{P:Program}{lent:List aA}{α X:Type}{N:α→aE}{E:X→AE×aE}{m:Option (α⊕X)}{cs:List Code}{st st1:aE}(s:NS)(hn:s.ok lent.length=true)(h1:s.on st=st1)(h:Sg P lent cs st1 m N E) :Sg P lent cs st m N E :=
  fun r hr=>eR.weak (by rw [←h1];exact OJ hn st) (h r hr)
def mr{X:Type} :Option (Empty⊕X)→Option X
  | some (.inr x)=>some x
  | _=>none
theorem Sg.contract{P:Program}{f:FuncId}{fn:Func}{c:Code}{X:Type}{N:Empty→aE}{E:X→AE×aE}{m:Option (Empty⊕X)}{lent:List aA}{args:List AV}(keep:Bool)(o:X→gq)(hf:P.funcs[f]? = some fn)(hc:fn.body=some c) 
    (h:Sg P lent (fa c) (kK fn lent args) m N E) (hE:∀ x,MH P fn lent.length keep (o x) (E x).1 (E x).2) {x:X} (hx:mr m=some x):ae P f lent args (o x):=by
  unfold mr at hx
  split at hx
  · rename_i x'
    simp only [Option.some.injEq] at hx;subst hx
    refine eR.contract (keep:=keep) hf hc ((h _ rfl).mono ?_)
    intro e st' q
    simp only [rR] at q
    have:=hE x'
    rw [←q] at this;exact this
  · cases hx
end Go.Plb
namespace Go.Plb
set_option linter.unusedSectionVars false
variable [Rom]
theorem iw{ρ X:Type}{id:Nat}{J:ρ→aE}{E:X→AE×aE}(h:lM E) :lM (iv id J E):=by
  intro x
  cases x with
  | inl r=>intro q;cases q
  | inr x=>exact h x
def jv:Code→Code
  | .block _ (.loop b)=>b
  | _=>.skip
theorem Sg.cut{P:Program}{lent:List aA}{α β X:Type}{cs:List Code}{st:aE}{m:Option (α⊕X)}{N1:α→aE}{E:X→AE×aE}{k:α→Option (β⊕X)}{N:β→aE}(n:Nat)(hE:lM E) 
    (h:Sg P lent (cs.take n) st m N1 E) (hk:∀ a,Sg P lent (cs.drop n) (N1 a) (k a) N E):Sg P lent cs st (aK m k) N E:=by
  have:=Sg.seq hE h hk
  rwa [List.take_append_drop] at this
theorem NA{P:Program}{lent:List aA}{σ ρ X:Type}{I:σ→aE}{J:ρ→aE}{E:X→AE×aE}{B:σ→Option (σ⊕(ρ⊕X))}{id:Nat}{b:Code}{cs:List Code}(hcs:cs=[.block id (.loop b)])(hE:lM E)(hI:vo id E) 
    (hb:∀ s,Sg P lent (fa b) (I s) (B s) I (iv id J E)) (s:σ):Sg P lent cs (I s) (eK B s) J E:=by rw [hcs];exact Sg.loop hE hI hb s
end Go.Plb
namespace Go.Plb
set_option linter.unusedSimpArgs false
set_option linter.unusedVariables false
set_option linter.unusedSectionVars false
variable [Rom]
theorem bS{α:Type}{b:Bool}{t:T α}{x:Option α}(h:b=true)(k:t.run=x) :(T.need b t).run=x:=by subst h;exact k
theorem zW{α:Type}{b:Bool}{t f:T α}{x:Option α}(h:b=true)(k:t.run=x) :(T.ask b t f).run=x:=by subst h;exact k
theorem l6{α:Type}{b:Bool}{t f:T α}{x:Option α}(h:b=false)(k:f.run=x) :(T.ask b t f).run=x:=by subst h;exact k
theorem P4{α:Type}{k:Nat}{t f:T α}{a:α}(h:t.run=some a) :(T.alt k t f).run=some a:=by simp only [T.run,h]
theorem RT{α:Type}{k:Nat}{t f:T α}{x:Option α}(h:t.run=none)(q:f.run=x) :(T.alt k t f).run=x:=by simp only [T.run,h];exact q
theorem RU{α:Type}{b:Bool}{t:T α}(h:b=false) :(T.need b t).run=none:=by subst h;rfl
theorem am{α:Type}{b:Bool}{t:T α}{x:Option α}(k:t.run=x)(h:b=true:=by exact rfl) :(T.need b t).run=x:=bS h k
theorem bC{α:Type}{b:Bool}{t f:T α}{x:Option α}(k:t.run=x)(h:b=true:=by exact rfl) :(T.ask b t f).run=x:=zW h k
theorem aJ{α:Type}{b:Bool}{t f:T α}{x:Option α}(k:f.run=x)(h:b=false:=by exact rfl) :(T.ask b t f).run=x:=l6 h k
theorem ac{α β X:Type}{m:Option (α⊕X)}{k:α→Option (β⊕X)}{a:α}{x:Option (β⊕X)}(h:m=some (.inl a))(q:k a=x) :aK m k=x:=by subst h;exact q
theorem cS{α β X:Type}{m:Option (α⊕X)}{k:α→Option (β⊕X)}{y:X}(h:m=some (.inr y)) :aK m k=some (.inr y):=by subst h;rfl
theorem aY{X:Type}{m:Option (Empty⊕X)}{x:X}(h:m=some (.inr x)) :mr m=some x:=by subst h;rfl
theorem NB{σ Y:Type}{B:σ→Option (σ⊕Y)}(st:Nat→σ)(n:Nat){y:Y}(i:Nat)(hi:i≤n)(step:∀ j,i≤j→j<n→B (st j)=some (.inl (st (j+1))))(done:B (st n)=some (.inr y)) :eK B (st i)=some y:=by
  obtain ⟨d,rfl⟩:∃ d,n=i+d:=⟨n-i,by omega⟩
  clear hi
  induction d generalizing i with
  | zero=>exact Nz done
  | succ d ih =>
    rw [O2 (step i (Nat.le_refl _) (by omega))]
    have e:i+(d+1)=i+1+d:=by omega
    rw [e] at step done
    exact ih (i+1) (fun j h1 h2=>step j (by omega) h2) done
theorem fq{σ Y:Type}{B:σ→Option (σ⊕Y)}(st:Nat→σ)(n:Nat){y:Y}{s0:σ}(h0:s0=st 0)(step:∀ j,j<n→B (st j)=some (.inl (st (j+1))))(done:B (st n)=some (.inr y)) :eK B s0=some y:=by
  rw [h0];exact NB st n 0 (Nat.zero_le _) (fun j _=>step j) done
theorem bu{n:Int} :fF .i64 n=true↔-9223372036854775808≤n∧n≤9223372036854775807:=by
  have e1:IntKind.i64.min = -9223372036854775808:=by decide
  have e2:IntKind.i64.max=9223372036854775807:=by decide
  simp only [fF,e1,e2,Bool.and_eq_true,decide_eq_true_eq]
theorem eX{k:Int}{n:Nat} :ik k n=true↔0≤k∧k<n:=by simp only [ik,Bool.and_eq_true,decide_eq_true_eq]
theorem fi{k:Int}{n:Nat} :vZ k n=true↔0≤k∧k≤n:=by simp only [vZ,Bool.and_eq_true,decide_eq_true_eq]
theorem cn{k n:Nat} :il k n=true↔k<n:=by simp [il]
theorem cu{k n:Nat} :pS k n=true↔k≤n:=by simp [pS]
theorem cw{k n:Nat} :Nat.ble k n=true↔k≤n:=by rw [Nat.ble_eq]
theorem cx{k n:Nat} :Nat.blt k n=true↔k<n:=by rw [Nat.blt_eq]
def Rj{α:Type}(pos:Nat→Nat)(val:Nat→α)(l:List α) :Nat→List α
  | 0=>l
  | n+1=>(Rj pos val l n).set (pos n) (val n)
theorem bD{α:Type}{pos:Nat→Nat}{val:Nat→α}{l:List α} :∀ {n:Nat},(Rj pos val l n).length=l.length
  | 0=>rfl
  | n+1=>by simp only [Rj,List.length_set];exact bD
theorem HY{α:Type}(l:List α) :bg 0 l.length l=true:=by rw [bt];omega
theorem dC{α:Type}{b:Bool}{t:T α}{x:Option α}(k:t.run=x)(h:b=true:=by exact HY _) :(T.need b t).run=x:=bS h k
theorem eQ{α:Type}{n:Nat}{l:List α}(h:l.length=n) :aa 0 n l=l:=by rw [←h];exact bz l
theorem Ex{p:Nat→Prop} [DecidablePred p]:∀ {n:Nat},(¬ ∀ i,i<n→p i)→∃ k,k<n∧¬ p k∧∀ j,j<k→p j
  | 0,h=>(h fun i hi=>absurd hi (Nat.not_lt_zero _)).elim
  | n+1,h=>by
    by_cases q:∀ i,i<n→p i
    · refine ⟨n,Nat.lt_succ_self _,fun r=>h fun i hi=>?_,q⟩
      rcases Nat.lt_succ_iff_lt_or_eq.1 hi with a | rfl
      · exact q i a
      · exact r
    · obtain ⟨k,h1,h2,h3⟩:=Ex q
      exact ⟨k,by omega,h2,h3⟩
theorem aW(n:Nat) :Int.toNat (n:Int)=n:=rfl
def bk(x:Nat) :Nat:=if x<4503599627370496 then x else 4503599627370496+x%4503599627370496
def bh(x:Nat) :Nat:=x/4503599627370496-1
theorem HZ{x:Nat}(h:x<9218868437227405312) :FloatKind.f64.format.read x=.number false (bk x) (-1074+(bh x:Int)):=by
  have e1:Ieee.double.signWeight=9223372036854775808:=by decide
  have e2:Ieee.double.binade=4503599627370496:=by decide
  have e3:Ieee.double.infRung=9218868437227405312:=by decide
  have e4:Ieee.double.leastPlace = -1074:=by decide
  show Ieee.double.read x=_
  unfold Ieee.Format.read
  simp only [e1,e2,e3,e4]
  have h1:x/9223372036854775808%2=0:=by omega
  have h2:x%9223372036854775808=x:=by omega
  rw [h1,h2]
  by_cases h3:x<4503599627370496
  · rw [if_pos h3]
    have:bh x=0:=by unfold bh;omega
    simp only [bk,if_pos h3,this];rfl
  · rw [if_neg h3,if_pos h]
    simp only [bk,if_neg h3,bh];rfl
theorem kM(x:Nat) :bk x<9007199254740992:=by unfold bk;split<;>omega
theorem P5{x:Nat}(h:0<bh x) :4503599627370496≤bk x:=by unfold bh at h;unfold bk;rw [if_neg (by omega)];omega
theorem wF{x y:Nat}(hx:x<9218868437227405312)(hy:y<9218868437227405312) :
    ke x y=some (compare ((bk x*2^(bh x-min (bh x) (bh y)):Nat):Int) ((bk y*2^(bh y-min (bh x) (bh y)):Nat):Int)):=by
  unfold ke Ieee.Format.order
  rw [HZ hx,HZ hy]
  simp only [Ieee.Datum.order,Ieee.signed,Bool.false_eq_true,if_false,Nat.shiftLeft_eq]
  have e1:((-1074+(bh x:Int))-min (-1074+(bh x:Int)) (-1074+(bh y:Int))).toNat=bh x-min (bh x) (bh y):=by omega
  have e2:((-1074+(bh y:Int))-min (-1074+(bh x:Int)) (-1074+(bh y:Int))).toNat=bh y-min (bh x) (bh y):=by omega
  rw [e1,e2]
theorem P6{x y:Nat}(hx:x<9218868437227405312)(hy:y<9218868437227405312) :ke x y=some .gt↔ke y x=some .lt:=by
  rw [wF hx hy,wF hy hx,Nat.min_comm]
  simp only [Option.some.injEq]
  rw [Int.compare_eq_gt,Int.compare_eq_lt]
theorem MP{x y:Nat}(hx:x<9218868437227405312)(hy:y<9218868437227405312)(h:x<y) :ke x y=some .lt:=by
  rw [wF hx hy]
  have hle:bh x≤bh y:=by unfold bh;omega
  rw [Nat.min_eq_left hle,Nat.sub_self,Nat.pow_zero,Nat.mul_one]
  have key:bk x<bk y*2^(bh y-bh x):=by
    rcases Nat.eq_or_lt_of_le hle with h1 | h1
    · rw [h1,Nat.sub_self,Nat.pow_zero,Nat.mul_one]
      unfold bh at h1;unfold bk
      split<;>split<;>omega
    · have a:=P5 (x:=y) (by omega)
      have b:=kM x
      have c:2^1≤2^(bh y-bh x):=Nat.pow_le_pow_right (by decide) (by omega)
      have d:4503599627370496*2≤bk y*2^(bh y-bh x):=Nat.mul_le_mul a c
      omega
  rw [Int.compare_eq_lt.2 (by exact_mod_cast key)]
theorem jw{x y:Nat}(hx:x<9218868437227405312)(hy:y<9218868437227405312) :ke x y=some (compare x y):=by
  rcases Nat.lt_trichotomy x y with h | rfl | h
  · rw [MP hx hy h,Nat.compare_eq_lt.2 h]
  · rw [wF hx hx];simp
  · rw [(P6 hx hy).2 (MP hy hx h),Nat.compare_eq_gt.2 h]
def fG{α:Type}(f:Nat→α) :Nat→List α
  | 0=>[]
  | n+1=>fG f n++[f n]
theorem eF{α:Type}{f:Nat→α} :∀ {n:Nat},(fG f n).length=n
  | 0=>rfl
  | n+1=>by simp only [fG,List.length_append,List.length_singleton,eF (n:=n)]
theorem pL{α:Type}{f:Nat→α} :∀ {n i:Nat},i<n→(fG f n)[i]? = some (f i)
  | 0,i,h=>absurd h (Nat.not_lt_zero _)
  | n+1,i,h=>by
    simp only [fG]
    by_cases e:i=n
    · subst e;rw [List.getElem?_append_right (by rw [eF];exact Nat.le_refl _),eF,Nat.sub_self];rfl
    · rw [List.getElem?_append_left (by rw [eF];omega)];exact pL (by omega)
theorem Bs{α:Type}{f:Nat→α}{n i:Nat}{d:α}(h:i<n) :(fG f n).getD i d=f i:=by
  rw [List.getD_eq_getElem?_getD,pL h];rfl
theorem de{α:Type}{f g:Nat→α} :∀ {n:Nat},(∀ i,i<n→f i=g i)→fG f n=fG g n
  | 0,_=>rfl
  | n+1,h=>by simp only [fG];rw [de fun i hi=>h i (by omega),h n (by omega)]
theorem yd{α:Type}{f:Nat→α}{n:Nat}{l:List α}(hl:l.length=n)(h:∀ i,i<n→l[i]? = some (f i)) :l=fG f n:=by
  apply List.ext_getElem?
  intro i
  by_cases hi:i<n
  · rw [h i hi,pL hi]
  · rw [List.getElem?_eq_none (by omega),List.getElem?_eq_none (by rw [eF];omega)]
theorem pM{α:Type}{f:Nat→α}{n i:Nat}{x:α}(h:i<n) :(fG f n).set i x=fG (fun j=>if j=i then x else f j) n:=by
  refine yd (by rw [List.length_set,eF]) fun j hj=>?_
  rw [List.getElem?_set,eF]
  by_cases e:i=j
  · subst e;rw [if_pos rfl,if_pos h,if_pos rfl]
  · rw [if_neg e,pL hj,if_neg fun q=>e q.symm]
theorem rj{α:Type}{n:Nat}{x:α} :List.replicate n x=fG (fun _=>x) n :=
  yd List.length_replicate fun i hi=>by rw [List.getElem?_replicate,if_pos hi]
theorem NC{α:Type}{f:Nat→α}{n m:Nat}(h:m≤n) :aa 0 m (fG f n)=fG f m:=by
  refine yd (gD (by rw [eF];omega)) fun i hi=>?_
  rw [Aw,List.drop_zero,List.getElem?_take,if_pos hi,pL (by omega)]
abbrev W:Nat:=18446744073709551616
def lm(v i:Nat) :Int:=((v/W^i%W:Nat):Int)
def au(v n:Nat) :List Int:=fG (lm v) n
theorem dj(n:Nat) :0<W^n:=Nat.pow_pos (by decide)
theorem ao{v n:Nat} :(au v n).length=n:=eF
theorem rS{v i:Nat} :(lm v i).toNat=v/W^i%W:=rfl
theorem tE{v i:Nat}(h:v<W^i) :lm v i=0:=by unfold lm;rw [Nat.div_eq_of_lt h];rfl
theorem Ax{v n i:Nat}(h:i<n) :(au v n).getD i 0=lm v i:=Bs h
theorem bT{v n:Nat}(h:v<W^n)(i:Nat) :(au v n).getD i 0=lm v i:=by
  by_cases hi:i<n
  · exact Ax hi
  · rw [List.getD_eq_getElem?_getD,List.getElem?_eq_none (by rw [ao];omega)]
    exact (tE (Nat.lt_of_lt_of_le h (Nat.pow_le_pow_right (by decide) (by omega)))).symm
theorem bb{v n m:Nat}(h:m≤n) :aa 0 m (au v n)=au v m:=NC h
theorem ye{n:Nat} :List.replicate n (0:Int)=au 0 n:=by
  rw [rj];exact de fun i _=>(tE (dj i)).symm
theorem vp{u x j:Nat}(hu:u<W^j)(hx:x<W)(i:Nat) :lm (u+x*W^j) i=if i=j then (x:Int) else lm u i:=by
  unfold lm
  by_cases e:i=j
  · subst e
    rw [if_pos rfl,Nat.add_mul_div_right _ _ (dj i),Nat.div_eq_of_lt hu,Nat.zero_add,Nat.mod_eq_of_lt hx]
  · rw [if_neg e]
    congr 1
    rcases Nat.lt_or_ge i j with h | h
    · obtain ⟨d,rfl⟩:∃ d,j=i+1+d:=⟨j-i-1,by omega⟩
      have:x*W^(i+1+d)=(x*W^d*W)*W^i:=by
        rw [Nat.pow_add,Nat.pow_succ];simp only [Nat.mul_assoc,Nat.mul_comm,Nat.mul_left_comm]
      rw [this,Nat.add_mul_div_right _ _ (dj i),Nat.add_mul_mod_self_right]
    · have h1:W^(j+1)≤W^i:=Nat.pow_le_pow_right (by decide) (by omega)
      have h2:u+x*W^j<W^(j+1):=by
        rw [Nat.pow_succ,Nat.mul_comm (W^j)]
        have:(x+1)*W^j≤W*W^j:=Nat.mul_le_mul_right _ hx
        rw [Nat.add_mul,Nat.one_mul] at this
        omega
      have h3:W^j≤W^(j+1):=Nat.pow_le_pow_right (by decide) (by omega)
      rw [Nat.div_eq_of_lt (Nat.lt_of_lt_of_le h2 h1),Nat.div_eq_of_lt (by omega)]
theorem mD{u x j n:Nat}(hu:u<W^j)(hx:x<W)(hj:j<n) :(au u n).set j (x:Int)=au (u+x*W^j) n:=by
  unfold au
  rw [pM hj]
  exact de fun i _=>(vp hu hx i).symm
theorem jx(v j:Nat) :v%W^(j+1)=v%W^j+(v/W^j%W)*W^j:=by
  rw [Nat.pow_succ,Nat.mod_mul,Nat.mul_comm (W^j)]
theorem O3{v n:Nat} :au (v%W^n) n=au v n:=by
  refine de fun i hi=>?_
  unfold lm
  obtain ⟨d,rfl⟩:∃ d,n=i+1+d:=⟨n-i-1,by omega⟩
  congr 1
  have h:=Nat.mod_mul (a:=W^i) (b:=W^(d+1)) (x:=v)
  have e:W^(i+1+d)=W^i*W^(d+1):=by rw [←Nat.pow_add];congr 1;omega
  rw [e,h,Nat.add_mul_div_left _ _ (dj i),Nat.div_eq_of_lt (Nat.mod_lt _ (dj i)),Nat.zero_add,Nat.pow_succ,Nat.mod_mul_left_mod]
def nl(v:Nat) :Nat:=if h:v=0 then 0 else nl (v/W)+1
termination_by v
decreasing_by exact Nat.div_lt_self (Nat.pos_of_ne_zero h) (by decide)
theorem fk:nl 0=0:=by rw [nl];rfl
theorem bU:∀ (v:Nat),v<W^nl v:=by
  intro v
  induction v using Nat.strongRecOn with
  | _ v ih =>
    rw [nl]
    split
    · rename_i h;subst h;decide
    · rename_i h
      have:=ih (v/W) (Nat.div_lt_self (Nat.pos_of_ne_zero h) (by decide))
      rw [Nat.pow_succ]
      exact (Nat.div_lt_iff_lt_mul (by decide)).1 this
theorem O4:∀ {v:Nat},v≠0→W^(nl v-1)≤v:=by
  intro v
  induction v using Nat.strongRecOn with
  | _ v ih =>
    intro h
    rw [nl,dif_neg h,Nat.add_sub_cancel]
    by_cases h2:v/W=0
    · rw [h2,fk];simp;omega
    · have:=ih (v/W) (Nat.div_lt_self (Nat.pos_of_ne_zero h) (by decide)) h2
      have e:W^nl (v/W)=W^(nl (v/W)-1)*W:=by
        rw [←Nat.pow_succ];congr 1
        have:nl (v/W)≠0:=by rw [nl,dif_neg h2];exact Nat.succ_ne_zero _
        omega
      rw [e]
      exact Nat.le_trans (Nat.mul_le_mul_right _ this) (Nat.div_mul_le_self v W)
theorem qk{v:Nat}(h:v≠0) :0<nl v:=by rw [nl,dif_neg h];exact Nat.succ_pos _
theorem fH{v n:Nat}(h:v<W^n) :nl v≤n:=by
  by_cases h0:v=0
  · rw [h0,fk];exact Nat.zero_le _
  · have:=O4 h0
    have h1:W^(nl v-1)<W^n:=Nat.lt_of_le_of_lt this h
    have:=(Nat.pow_lt_pow_iff_right (show 1<W by decide)).1 h1
    omega
theorem ko{v:Nat} :nl v=0↔v=0:=by
  constructor
  · intro h
    by_cases h0:v=0
    · exact h0
    · have:=qk h0;omega
  · intro h;rw [h,fk]
theorem O5{v:Nat}(h:v≠0) :lm v (nl v-1)≠0:=by
  have h1:=O4 h
  have h2:=bU v
  have h3:=qk h
  unfold lm
  have e:W^nl v=W^(nl v-1)*W:=by rw [←Nat.pow_succ];congr 1;omega
  have q:v/W^(nl v-1)<W:=by
    rw [Nat.div_lt_iff_lt_mul (dj _),Nat.mul_comm,←e];exact h2
  have p:0<v/W^(nl v-1):=Nat.div_pos h1 (dj _)
  rw [Nat.mod_eq_of_lt q];omega
theorem vq{S t j:Nat}(hS:S<W^j) :(S+t*W^j)/W^(j+1)=t/W∧(S+t*W^j)%W^(j+1)=S+(t%W)*W^j:=by
  have e1:(S+t*W^j)/W^j=t:=by rw [Nat.add_mul_div_right _ _ (dj j),Nat.div_eq_of_lt hS,Nat.zero_add]
  have e2:(S+t*W^j)%W^j=S:=by rw [Nat.add_mul_mod_self_right,Nat.mod_eq_of_lt hS]
  constructor
  · rw [Nat.pow_succ,←Nat.div_div_eq_div_mul,e1]
  · rw [jx,e1,e2]
theorem o8(v i:Nat) :lm v i=((v/W^i%W:Nat):Int):=rfl
theorem wG(v j:Nat) :v/W^j=v/W^(j+1)*W+v/W^j%W:=by
  rw [Nat.pow_succ,←Nat.div_div_eq_div_mul,Nat.mul_comm,Nat.div_add_mod]
theorem ND{a b i:Nat} :lm a i=lm b i↔a/W^i%W=b/W^i%W:=by unfold lm;omega
theorem Bt{a b n:Nat}(ha:a<W^n)(hb:b<W^n) :∀ {d:Nat},d≤n→(∀ k,n-d≤k→k<n→lm a k=lm b k)→a/W^(n-d)=b/W^(n-d)
  | 0,_,_=>by rw [Nat.sub_zero,Nat.div_eq_of_lt ha,Nat.div_eq_of_lt hb]
  | d+1,hd,h=>by
    have ih:=Bt ha hb (d:=d) (by omega) fun k h1 h2=>h k (by omega) h2
    have e:n-d=n-(d+1)+1:=by omega
    rw [wG a,wG b,←e,ih,ND.1 (h (n-(d+1)) (Nat.le_refl _) (by omega))]
theorem Bu{a b i:Nat}(h:a/W^(i+1)=b/W^(i+1))(hl:lm a i<lm b i) :a<b:=by
  have hl':a/W^i%W<b/W^i%W:=by unfold lm at hl;omega
  have:a/W^i<b/W^i:=by rw [wG a,wG b,h];omega
  rcases Nat.lt_or_ge a b with q | q
  · exact q
  · have:=Nat.div_le_div_right (c:=W^i) q
    omega
theorem H0{a b:Nat}(h:nl a<nl b) :a<b:=by
  have hb:b≠0:=fun e=>by rw [e,fk] at h;omega
  exact Nat.lt_of_lt_of_le (Nat.lt_of_lt_of_le (bU a) (Nat.pow_le_pow_right (by decide) (by omega))) (O4 hb)
def oi(a b:Nat) :Int:=if a<b then -1 else if b<a then 1 else 0
def pN(x y j:Nat) :Nat:=x%W^j+y%W^j
theorem NE(x y j:Nat) :pN x y (j+1)=pN x y j%W^j+(x/W^j%W+y/W^j%W+pN x y j/W^j)*W^j:=by
  have h:=Nat.div_add_mod (pN x y j) (W^j)
  unfold pN at h ⊢
  rw [jx x,jx y]
  rw [Nat.add_mul,Nat.add_mul,Nat.mul_comm ((x%W^j+y%W^j)/W^j)]
  omega
theorem Bv{x y j:Nat} :pN x y j/W^j≤1:=by
  have h1:=Nat.mod_lt x (dj j)
  have h2:=Nat.mod_lt y (dj j)
  have:pN x y j<2*W^j:=by unfold pN;omega
  have:=(Nat.div_lt_iff_lt_mul (dj j)).2 this
  omega
def Bw(a b j:Nat) :Nat:=if a%W^j<b%W^j then 1 else 0
def zX(a b j:Nat) :Nat:=a%W^j+Bw a b j*W^j-b%W^j
theorem MQ{a b j:Nat} :zX a b j<W^j∧b%W^j≤a%W^j+Bw a b j*W^j:=by
  have h1:=Nat.mod_lt a (dj j)
  have h2:=Nat.mod_lt b (dj j)
  unfold zX Bw
  generalize a%W^j=A at *
  generalize b%W^j=B at *
  generalize W^j=P at *
  split
  · rw [Nat.one_mul];omega
  · rw [Nat.zero_mul];omega
theorem H2(a b j:Nat) :Bw a b (j+1)=(if a/W^j%W<b/W^j%W+Bw a b j then 1 else 0) ∧
    zX a b (j+1)=zX a b j+((a/W^j%W+W-b/W^j%W-Bw a b j)%W)*W^j:=by
  obtain ⟨hD,hle⟩:=MQ (a:=a) (b:=b) (j:=j)
  have hbr:Bw a b j≤1:=by unfold Bw;split<;>omega
  have hla:=Nat.mod_lt (a/W^j) (show W>0 by decide)
  have hlb:=Nat.mod_lt (b/W^j) (show W>0 by decide)
  have eD:zX a b j+b%W^j=a%W^j+Bw a b j*W^j:=by unfold zX at hD ⊢;omega
  have eW:W^(j+1)=W*W^j:=by rw [Nat.pow_succ,Nat.mul_comm]
  have ea:=jx a j
  have eb:=jx b j
  generalize a/W^j%W=la at *
  generalize b/W^j%W=lb at *
  generalize Bw a b j=br at *
  generalize zX a b j=D at *
  by_cases h:la<lb+br
  · obtain ⟨d,hd⟩:∃ d,la+W=lb+br+d:=⟨la+W-lb-br,by omega⟩
    have hdW:d<W:=by omega
    have e3:la*W^j+W^(j+1)=lb*W^j+br*W^j+d*W^j:=by rw [eW,←Nat.add_mul,←Nat.add_mul,←Nat.add_mul,hd]
    have hlt:a%W^(j+1)<b%W^(j+1):=by
      have:(d+1)*W^j≤W*W^j:=Nat.mul_le_mul_right _ hdW
      rw [Nat.add_mul,Nat.one_mul] at this
      rw [ea,eb];omega
    have e1:Bw a b (j+1)=1:=by unfold Bw;rw [if_pos hlt]
    refine ⟨by rw [if_pos h,e1],?_⟩
    have e4:(la+W-lb-br)%W=d:=by
      have:la+W-lb-br=d:=by omega
      rw [this,Nat.mod_eq_of_lt hdW]
    unfold zX
    rw [e1,e4,ea,eb,Nat.one_mul];omega
  · obtain ⟨d,hd⟩:∃ d,la=lb+br+d:=⟨la-lb-br,by omega⟩
    have hdW:d<W:=by omega
    have e3:la*W^j=lb*W^j+br*W^j+d*W^j:=by rw [←Nat.add_mul,←Nat.add_mul,hd]
    have hlt : ¬ a%W^(j+1)<b%W^(j+1):=by rw [ea,eb];omega
    have e1:Bw a b (j+1)=0:=by unfold Bw;rw [if_neg hlt]
    refine ⟨by rw [if_neg h,e1],?_⟩
    have e4:(la+W-lb-br)%W=d:=by
      have:la+W-lb-br=d+W:=by omega
      rw [this,Nat.add_mod_right,Nat.mod_eq_of_lt hdW]
    unfold zX
    rw [e1,e4,ea,eb,Nat.zero_mul];omega
theorem wH(x y:Nat) :bv .and .u64 (x:Int) (y:Int)=((x%W &&& y%W:Nat):Int):=by
  have e:(BitVec.ofInt IntKind.u64.bits (x:Int) &&& BitVec.ofInt IntKind.u64.bits (y:Int)).toNat=(x%W &&& y%W):=by
    show (BitVec.ofInt 64 (x:Int) &&& BitVec.ofInt 64 (y:Int)).toNat=_
    rw [jd,jd,BitVec.toNat_and,BitVec.toNat_ofNat,BitVec.toNat_ofNat]
  unfold bv
  simp only
  rw [e,dQ]
  congr 1
  exact Nat.mod_eq_of_lt (Nat.lt_of_le_of_lt Nat.and_le_left (Nat.mod_lt _ (by decide)))
theorem FZ(x y:Nat) :bv .or .u64 (x:Int) (y:Int)=((x%W ||| y%W:Nat):Int):=by
  have e:(BitVec.ofInt IntKind.u64.bits (x:Int) ||| BitVec.ofInt IntKind.u64.bits (y:Int)).toNat=(x%W ||| y%W):=by
    show (BitVec.ofInt 64 (x:Int) ||| BitVec.ofInt 64 (y:Int)).toNat=_
    rw [jd,jd,BitVec.toNat_or,BitVec.toNat_ofNat,BitVec.toNat_ofNat]
  unfold bv
  simp only
  rw [e,dQ]
  congr 1
  exact Nat.mod_eq_of_lt (Nat.or_lt_two_pow (n:=64) (Nat.mod_lt _ (by decide)) (Nat.mod_lt _ (by decide)))
theorem H3{k:Nat}(h:k≤64) :min (Int.toNat (k:Int)) IntKind.u64.bits=k:=by
  show min k 64=k;omega
theorem H4(k:Nat) :(2:Int)^k=((2^k:Nat):Int):=by rw [Int.natCast_pow];rfl
theorem O6(x y:Nat) :Int.fdiv (x:Int) (y:Int)=((x/y:Nat):Int):=by
  rw [Int.fdiv_eq_ediv_of_nonneg _ (Int.natCast_nonneg y),Int.natCast_ediv]
theorem ql(x:Nat){k:Nat}(h:k≤64) :Int.fdiv (x:Int) (2^(min (Int.toNat (k:Int)) IntKind.u64.bits))=((x/2^k:Nat):Int):=by
  rw [H3 h,H4,O6]
theorem F0(x:Nat){k:Nat}(h:k≤64) :IntKind.u64.wrap ((x:Int)*2^(min (Int.toNat (k:Int)) IntKind.u64.bits))=((x*2^k%W:Nat):Int):=by
  rw [H3 h,H4,←Int.natCast_mul,dQ]
theorem vt{x:Nat}(h:x<W) :IntKind.u64.wrap (x:Int)=(x:Int):=by rw [dQ,Nat.mod_eq_of_lt h]
theorem pO(x y:Nat) :IntKind.u64.wrap ((x:Int)+(y:Int))=(((x+y)%W:Nat):Int):=by rw [←Int.natCast_add,dQ]
theorem pP(x y:Nat) :IntKind.u64.wrap ((x:Int)*(y:Int))=(((x*y)%W:Nat):Int):=by rw [←Int.natCast_mul,dQ]
theorem F1{x:Nat}(h:x<W) :bv .and .u64 (x:Int) 4294967295=((x%4294967296:Nat):Int):=by
  show bv .and .u64 (x:Int) ((4294967295:Nat):Int)=_
  rw [wH,Nat.mod_eq_of_lt h,Nat.mod_eq_of_lt (by decide:4294967295<W)]
  congr 1
  exact Nat.and_two_pow_sub_one_eq_mod x 32
theorem KI{x y:Nat}(hx:x<W)(hy:y<W) :
    (x/4294967296*(y%4294967296)+x%4294967296*(y%4294967296)/4294967296)<W ∧
    x%4294967296*(y%4294967296)<W∧x/4294967296*(y%4294967296)<W∧x/4294967296*(y/4294967296)<W∧x%4294967296*(y/4294967296)<W ∧
    (x/4294967296*(y%4294967296)+x%4294967296*(y%4294967296)/4294967296)%4294967296+x%4294967296*(y/4294967296)<W ∧
    x/4294967296*(y/4294967296)+(x/4294967296*(y%4294967296)+x%4294967296*(y%4294967296)/4294967296)/4294967296<W ∧
    x/4294967296*(y/4294967296)+(x/4294967296*(y%4294967296)+x%4294967296*(y%4294967296)/4294967296)/4294967296 +
      ((x/4294967296*(y%4294967296)+x%4294967296*(y%4294967296)/4294967296)%4294967296+x%4294967296*(y/4294967296))/4294967296=x*y/W∧x*y/W<W:=by
  have hx:x<18446744073709551616:=hx
  have hy:y<18446744073709551616:=hy
  have hx1:x/4294967296≤4294967295:=by omega
  have hy1:y/4294967296≤4294967295:=by omega
  have hx0:x%4294967296≤4294967295:=by omega
  have hy0:y%4294967296≤4294967295:=by omega
  have e:x*y=x/4294967296*(y/4294967296)*(4294967296*4294967296)+x/4294967296*(y%4294967296)*4294967296+(x%4294967296*(y/4294967296)*4294967296+x%4294967296*(y%4294967296)):=by
    have ex:x=x/4294967296*4294967296+x%4294967296:=by omega
    have ey:y=y/4294967296*4294967296+y%4294967296:=by omega
    generalize x/4294967296=a at *
    generalize x%4294967296=b at *
    generalize y/4294967296=c at *
    generalize y%4294967296=d at *
    rw [ex,ey,Nat.add_mul,Nat.mul_add,Nat.mul_add]
    generalize 4294967296=H
    ac_rfl
  have p1:=Nat.mul_le_mul hx1 hy1
  have p2:=Nat.mul_le_mul hx1 hy0
  have p3:=Nat.mul_le_mul hx0 hy1
  have p4:=Nat.mul_le_mul hx0 hy0
  rw [e]
  generalize x/4294967296*(y/4294967296)=s at *
  generalize x/4294967296*(y%4294967296)=p at *
  generalize x%4294967296*(y/4294967296)=q at *
  generalize x%4294967296*(y%4294967296)=r at *
  clear e hx hy hx1 hy1 hx0 hy0
  have eW:W=18446744073709551616:=rfl
  rw [eW]
  refine ⟨?_,?_,?_,?_,?_,?_,?_,?_,?_⟩<;>omega
def jy(O a m k i:Nat) :Nat:=O%W^(k+i)+a%W^i*m*W^k
theorem Ey(O a m k i:Nat) :jy O a m k (i+1)=jy O a m k i%W^(k+i)+(O/W^(k+i)%W+a/W^i%W*m+jy O a m k i/W^(k+i))*W^(k+i):=by
  have h:=Nat.div_add_mod (jy O a m k i) (W^(k+i))
  have e:W^i*W^k=W^(k+i):=by rw [Nat.pow_add,Nat.mul_comm]
  have e2:(a/W^i%W)*W^i*m*W^k=a/W^i%W*m*W^(k+i):=by
    rw [←e];generalize a/W^i%W=x;ac_rfl
  have e3:jy O a m k (i+1)=jy O a m k i+(O/W^(k+i)%W*W^(k+i)+a/W^i%W*m*W^(k+i)):=by
    unfold jy
    rw [←Nat.add_assoc k i 1,jx O,jx a,Nat.add_mul,Nat.add_mul,e2]
    omega
  rw [e3,Nat.add_mul,Nat.add_mul,Nat.mul_comm (jy O a m k i/W^(k+i))]
  omega
theorem KJ{O a m k i:Nat} :jy O a m k i/W^(k+i)≤m:=by
  have h1:=Nat.mod_lt O (dj (k+i))
  have h2:=Nat.mod_lt a (dj i)
  have e:W^i*W^k=W^(k+i):=by rw [Nat.pow_add,Nat.mul_comm]
  have h3:a%W^i*m*W^k≤W^(k+i)*m:=by
    have:a%W^i*(m*W^k)≤W^i*(m*W^k):=Nat.mul_le_mul_right _ (by omega)
    have e4:W^i*(m*W^k)=W^(k+i)*m:=by rw [←e];ac_rfl
    rw [Nat.mul_assoc];omega
  have:jy O a m k i<(m+1)*W^(k+i):=by
    rw [Nat.add_mul,Nat.one_mul,Nat.mul_comm m]
    unfold jy;omega
  have:=(Nat.div_lt_iff_lt_mul (dj (k+i))).2 this
  omega
def Dl(O a m k n i:Nat) :List Int:=fG (fun q=>if q<k+i then lm (jy O a m k i%W^(k+i)) q else lm O q) n
theorem O7{O a m k n i:Nat} :(Dl O a m k n i).length=n:=eF
theorem P7{O a m k n i:Nat}(h:k+i<n) :(Dl O a m k n i).getD (k+i) 0=lm O (k+i):=by
  unfold Dl;rw [Bs h,if_neg (Nat.lt_irrefl _)]
theorem NF{O a m k n:Nat} :Dl O a m k n 0=au O n:=by
  refine de fun q hq=>?_
  by_cases h:q<k+0
  · rw [if_pos h]
    have e:jy O a m k 0%W^(k+0)=O%W^k:=by unfold jy;rw [Nat.pow_zero,Nat.mod_one,Nat.zero_mul,Nat.zero_mul,Nat.add_zero,Nat.add_zero,Nat.mod_mod]
    rw [e]
    have:(au (O%W^k) k).getD q 0=(au O k).getD q 0:=by rw [O3]
    rwa [Ax (by omega),Ax (by omega)] at this
  · rw [if_neg h]
theorem NG{O a m k n i:Nat}(h:k+i<n) :(Dl O a m k n i).set (k+i) (((O/W^(k+i)%W+a/W^i%W*m+jy O a m k i/W^(k+i))%W:Nat):Int)=Dl O a m k n (i+1):=by
  unfold Dl
  rw [pM h]
  refine de fun q hq=>?_
  have hS:=Nat.mod_lt (jy O a m k i) (dj (k+i))
  obtain ⟨_,d2⟩:=vq (t:=O/W^(k+i)%W+a/W^i%W*m+jy O a m k i/W^(k+i)) hS
  rw [←Ey] at d2
  have hl:=vp hS (Nat.mod_lt (O/W^(k+i)%W+a/W^i%W*m+jy O a m k i/W^(k+i)) (show W>0 by decide)) q
  rw [←d2] at hl
  rw [←Nat.add_assoc k i 1]
  by_cases e:q=k+i
  · rw [if_pos e] at hl ⊢
    rw [if_pos (by omega),hl]
  · rw [if_neg e] at hl ⊢
    by_cases r:q<k+i
    · rw [if_pos r,if_pos (by omega),hl]
    · rw [if_neg r,if_neg (by omega)]
theorem H5{O a m k n:Nat}(hO:O<W^(k+n))(ha:a<W^n) :jy O a m k n=O+a*m*W^k:=by
  unfold jy;rw [Nat.mod_eq_of_lt hO,Nat.mod_eq_of_lt ha]
theorem O8{O a m k n N:Nat}(hO:O<W^(k+n)) :Dl O a m k N n=au (jy O a m k n%W^(k+n)) N:=by
  refine de fun q hq=>?_
  by_cases h:q<k+n
  · rw [if_pos h]
  · rw [if_neg h,tE (Nat.lt_of_lt_of_le hO (Nat.pow_le_pow_right (by decide) (by omega))),tE (Nat.lt_of_lt_of_le (Nat.mod_lt _ (dj _)) (Nat.pow_le_pow_right (by decide) (by omega)))]
theorem O9{x y c o:Nat}(hx:x<W)(hy:y<W)(hc:c<W)(ho:o<W) :
    (o+(x*y%W+c)%W)%W=(o+x*y+c)%W∧(x*y/W+(x*y%W+c)/W)<W∧x*y/W+(x*y%W+c)/W+(o+(x*y%W+c)%W)/W=(o+x*y+c)/W∧(o+x*y+c)/W<W:=by
  have hp:x*y≤18446744073709551615*18446744073709551615:=Nat.mul_le_mul (by have:x<18446744073709551616:=hx;omega) (by have:y<18446744073709551616:=hy;omega)
  have hc:c<18446744073709551616:=hc
  have ho:o<18446744073709551616:=ho
  generalize x*y=p at *
  have eW:W=18446744073709551616:=rfl
  rw [eW]
  refine ⟨?_,?_,?_,?_⟩<;>omega
def tz(v:Nat) :Nat:=if h:v%2=1∨v=0 then 0 else tz (v/2)+1
termination_by v
decreasing_by omega
theorem fo(n:Nat) :0<2^n:=Nat.pow_pos (by decide)
theorem tF:∀ {z v:Nat},v%2^z=0→v/2^z%2=1→tz v=z
  | 0,v,h0,h1=>by rw [Nat.pow_zero,Nat.div_one] at h1;rw [tz,dif_pos (.inl h1)]
  | z+1,v,h0,h1=>by
    have p:=fo z
    rw [Nat.pow_succ] at h0 h1
    rw [Nat.mul_comm (2^z),Nat.mod_mul] at h0
    rw [Nat.mul_comm (2^z),←Nat.div_div_eq_div_mul] at h1
    have a0:v%2=0:=by omega
    have a1:v/2%2^z=0:=by omega
    have a2:v≠0:=by intro e;subst e;simp at h1
    rw [tz,dif_neg (by omega),tF a1 h1]
theorem qm:∀ (v:Nat),v≠0→v%2^tz v=0∧v/2^tz v%2=1:=by
  intro v
  induction v using Nat.strongRecOn with
  | _ v ih =>
    intro h
    rw [tz]
    split
    · rename_i q;rw [Nat.pow_zero,Nat.mod_one,Nat.div_one];omega
    · rename_i q
      obtain ⟨h1,h2⟩:=ih (v/2) (by omega) (by omega)
      rw [Nat.pow_succ,Nat.mul_comm (2^_),Nat.mod_mul,←Nat.div_div_eq_div_mul,h1,h2]
      omega
theorem P8:tz 0=0:=by rw [tz,dif_pos (.inr rfl)]
theorem KK{v:Nat}(h:v≠0)(k:Nat) :tz (v*2^k)=tz v+k:=by
  obtain ⟨h1,h2⟩:=qm v h
  refine tF ?_ ?_
  · rw [Nat.pow_add,Nat.mul_mod_mul_right,h1,Nat.zero_mul]
  · rw [Nat.pow_add,Nat.mul_div_mul_right _ _ (fo k),h2]
theorem H6{v n:Nat}(h:v≠0)(hv:v<2^n) :tz v<n:=by
  obtain ⟨h1,h2⟩:=qm v h
  rcases Nat.lt_or_ge (tz v) n with q | q
  · exact q
  · rw [Nat.div_eq_of_lt (Nat.lt_of_lt_of_le hv (Nat.pow_le_pow_right (by decide) q))] at h2;omega
theorem MR{v:Nat}(h:v≠0) :v/2^tz v*2^tz v=v:=Nat.div_mul_cancel (Nat.dvd_of_mod_eq_zero (qm v h).1)
theorem Pa{v:Nat}(h:v≠0) :v/2^tz v≠0:=by intro e;have:=(qm v h).2;rw [e] at this;omega
theorem P9{x:Nat}(h0:x≠0)(h:x<W) :x &&& (W-x)=2^tz x:=by
  have hz:=H6 (n:=64) h0 h
  have ho:=(qm x h0).2
  have hb:=MR h0
  have hno:=Pa h0
  revert ho hb hno
  generalize x/2^tz x=o
  revert hz
  generalize tz x=z
  intro hz ho hb hno
  have e64:W=2^(64-z)*2^z:=by rw [←Nat.pow_add];show 2^64=_;congr 1;omega
  have hlt:o<2^(64-z):=by
    rw [←hb,e64] at h
    exact Nat.lt_of_mul_lt_mul_right h
  have e1:x=o <<< z:=by rw [Nat.shiftLeft_eq,hb]
  have e2:W-x=(2^(64-z)-o) <<< z:=by rw [Nat.shiftLeft_eq,Nat.sub_mul,hb,←e64]
  rw [e2,e1,←Nat.shiftLeft_and_distrib,Nat.shiftLeft_eq]
  have:o &&& (2^(64-z)-o)=1:=by
    apply Nat.eq_of_testBit_eq
    intro i
    obtain ⟨p,rfl⟩:∃ p,o=p+1:=⟨o-1,by omega⟩
    rw [Nat.testBit_and,Nat.testBit_two_pow_sub_succ (by omega)]
    rcases i with _ | i
    · have:(p+1).testBit 0=true:=by rw [Nat.testBit_zero];exact decide_eq_true ho
      have q:p.testBit 0=false:=by rw [Nat.testBit_zero];exact decide_eq_false (by omega)
      rw [this,q];simp;omega
    · rw [Nat.testBit_succ,Nat.testBit_succ,show (p+1)/2=p/2 by omega,Nat.testBit_succ]
      simp
      intro a b;exact a
  rw [this,Nat.one_mul]
theorem Ez{z:Nat}(h:z<64) :2^z<W:=Nat.pow_lt_pow_right (by decide) h
theorem EA{a x m:Nat}(h:a%m+x<m) :(a+x)%m=a%m+x∧(a+x)/m=a/m:=by
  have e:a+x=(a%m+x)+m*(a/m):=by have:=Nat.mod_add_div a m;omega
  have hm:0<m:=by omega
  constructor
  · rw [e,Nat.add_mul_mod_self_left,Nat.mod_eq_of_lt h]
  · rw [e,Nat.add_mul_div_left _ _ hm,Nat.div_eq_of_lt h,Nat.zero_add]
theorem Rk{u x j:Nat}(hx:u/W^j%W+x<W)(i:Nat) :lm (u+x*W^j) i=if i=j then lm u j+(x:Int) else lm u i:=by
  unfold lm
  by_cases e:i=j
  · subst e
    rw [if_pos rfl,Nat.add_mul_div_right _ _ (dj i)]
    rw [(EA hx).1,Int.natCast_add]
  · rw [if_neg e]
    congr 1
    rcases Nat.lt_or_ge i j with h | h
    · obtain ⟨d,rfl⟩:∃ d,j=i+1+d:=⟨j-i-1,by omega⟩
      have:x*W^(i+1+d)=(x*W^d*W)*W^i:=by
        rw [Nat.pow_add,Nat.pow_succ];simp only [Nat.mul_assoc,Nat.mul_comm,Nat.mul_left_comm]
      rw [this,Nat.add_mul_div_right _ _ (dj i),Nat.add_mul_mod_self_right]
    · have e2:i=j+1+(i-j-1):=by omega
      have key:(u+x*W^j)/W^(j+1)=u/W^(j+1):=by
        rw [Nat.pow_succ,←Nat.div_div_eq_div_mul,←Nat.div_div_eq_div_mul,Nat.add_mul_div_right _ _ (dj j),(EA hx).2]
      rw [e2,Nat.pow_add,←Nat.div_div_eq_div_mul,←Nat.div_div_eq_div_mul,key]
theorem Pb{u x j n:Nat}(hx:u/W^j%W+x<W)(hj:j<n) :(au u n).set j (((u/W^j%W+x:Nat)):Int)=au (u+x*W^j) n:=by
  unfold au
  rw [pM hj]
  refine de fun i _=>?_
  rw [Rk hx]
  by_cases e:i=j
  · subst e;rw [if_pos rfl,if_pos rfl,o8,Int.natCast_add]
  · rw [if_neg e,if_neg e]
theorem Pc{x r:Nat}(hx:x<W)(hr:r<64) :x*2^r=x*2^r%W+x/2/2^(63-r)*W∧x/2/2^(63-r)<2^r∧x/2/2^(63-r)=x*2^r/W:=by
  have e:W=2^r*2^(64-r):=by rw [←Nat.pow_add];show 2^64=_;congr 1;omega
  have h1:x/2/2^(63-r)=x*2^r/W:=by
    rw [Nat.div_div_eq_div_mul,show 2*2^(63-r)=2^(64-r) by rw [show 64-r=(63-r)+1 by omega,Nat.pow_succ,Nat.mul_comm],e,Nat.mul_comm x,Nat.mul_div_mul_left _ _ (fo r)]
  refine ⟨?_,?_,h1⟩
  · rw [h1];have:=Nat.div_add_mod (x*2^r) W;rw [Nat.mul_comm W] at this;omega
  · rw [h1]
    refine Nat.div_lt_of_lt_mul ?_
    exact Nat.mul_lt_mul_of_pos_right hx (fo r)
theorem KL{h x r:Nat}(hh:h<2^r) :h ||| x*2^r=h+x*2^r:=by
  rw [Nat.or_comm,Nat.mul_comm,Nat.add_comm]
  exact (Nat.two_pow_add_eq_or_of_lt hh x).symm
theorem Pd{V r:Nat}(hr:r<64) :V/2^r%W=V%W/2^r+(V/W%W)*2%W*2^(63-r)%W ∧
    (V%W/2^r ||| (V/W%W)*2%W*2^(63-r)%W)=V%W/2^r+(V/W%W)*2%W*2^(63-r)%W:=by
  have e:W=2^r*2^(64-r):=by rw [←Nat.pow_add];show 2^64=_;congr 1;omega
  have e':2^(64-r)=2^(63-r)*2:=by rw [←Nat.pow_succ];congr 1;omega
  have hlo:V%W/2^r<2^(64-r):=by
    refine Nat.div_lt_of_lt_mul ?_
    rw [←e];exact Nat.mod_lt _ (by decide)
  have f:(V/W%W)*2%W*2^(63-r)%W=(V/W%2^r)*2^(64-r):=by
    rw [Nat.mod_mul_mod,Nat.mul_assoc,Nat.mul_comm 2,←e']
    have:(V/W%W)%2^r=V/W%2^r:=by rw [e,Nat.mod_mul_right_mod]
    rw [←this]
    rw [e]
    rw [Nat.mul_mod_mul_right]
  have g:V/2^r=V%W/2^r+V/W*2^(64-r):=by
    have h:=Nat.mod_add_div V W
    have:V=V%W+(V/W*2^(64-r))*2^r:=by
      rw [Nat.mul_assoc,Nat.mul_comm (2^(64-r)),←e,Nat.mul_comm (V/W)];exact h.symm
    rw [this,Nat.add_mul_div_right _ _ (fo r)]
    rw [←this]
  refine ⟨?_,?_⟩
  · rw [f,g]
    have:V/W*2^(64-r)=(V/W%2^r)*2^(64-r)+(V/W/2^r)*W:=by
      have q:=Nat.mod_add_div (V/W) (2^r)
      rw [show (V/W/2^r)*W=2^r*(V/W/2^r)*2^(64-r) by rw [Nat.mul_comm (2^r),Nat.mul_assoc,←e],←Nat.add_mul,q]
    rw [this,←Nat.add_assoc,Nat.add_mul_mod_self_right]
    refine Nat.mod_eq_of_lt ?_
    have a:V/W%2^r<2^r:=Nat.mod_lt _ (fo r)
    have b:(V/W%2^r+1)*2^(64-r)≤2^r*2^(64-r):=Nat.mul_le_mul_right _ a
    rw [←e,Nat.add_mul,Nat.one_mul] at b
    omega
  · rw [f];exact KL hlo
theorem Pe{x:Nat}(h0:x≠0)(h:x<W) :IntKind.u64.wrap ((0:Int)-(x:Int))=((W-x:Nat):Int):=by
  have h':x<18446744073709551616:=h
  simp only [IntKind.wrap,IntKind.signed,IntKind.bits]
  simp
  show -(x:Int)%18446744073709551616=((18446744073709551616-x:Nat):Int)
  omega
theorem Bx{r:Nat}(hr:r<64) :IntKind.u64.wrap ((63:Int)-(r:Int))=((63-r:Nat):Int):=by
  have e:(63:Int)-(r:Int)=((63-r:Nat):Int):=by omega
  rw [e,vt (Nat.lt_of_le_of_lt (Nat.sub_le 63 r) (by decide))]
theorem Pf{v q r i n:Nat}(hr:r<64)(hi:i+q+1<n) :
    ((au (v%W^i*2^r*W^q) n).set (i+q) (bv .or .u64 ((au (v%W^i*2^r*W^q) n).getD (i+q) 0) (((v/W^i%W)*2^r%W:Nat):Int))).set (i+q+1) (((v/W^i%W)/2/2^(63-r):Nat):Int)=au (v%W^(i+1)*2^r*W^q) n:=by
  have hL:v/W^i%W<W:=Nat.mod_lt _ (by decide)
  have ev:v%W^(i+1)=v%W^i+(v/W^i%W)*W^i:=jx v i
  rw [ev]
  generalize v/W^i%W=L at hL
  have hu:v%W^i<W^i:=Nat.mod_lt _ (dj i)
  generalize v%W^i=u at hu
  obtain ⟨s1,s2,s3⟩:=Pc hL hr
  have pr:2^r<W:=Ez hr
  have hh:u*2^r/W^i<2^r:=Nat.div_lt_of_lt_mul (Nat.mul_lt_mul_of_pos_right hu (fo r))
  have hd:u*2^r*W^q/W^(i+q)=u*2^r/W^i:=by rw [Nat.pow_add,Nat.mul_div_mul_right _ _ (dj q)]
  have e64:W=2^(64-r)*2^r:=by rw [←Nat.pow_add];show 2^64=_;congr 1;omega
  have hlow:L*2^r%W=(L%2^(64-r))*2^r:=by rw [e64,Nat.mul_mod_mul_right]
  have hsum:u*2^r/W^i+L*2^r%W<W:=by
    have a:L%2^(64-r)<2^(64-r):=Nat.mod_lt _ (fo _)
    have b:(L%2^(64-r)+1)*2^r≤2^(64-r)*2^r:=Nat.mul_le_mul_right _ a
    rw [←e64,Nat.add_mul,Nat.one_mul,←hlow] at b
    omega
  have hm:u*2^r/W^i%W=u*2^r/W^i:=Nat.mod_eq_of_lt (by omega)
  have hl:L*2^r%W<W:=Nat.mod_lt _ (by decide)
  rw [Ax (by omega),o8,hd,FZ,Nat.mod_mod,hm,Nat.mod_eq_of_lt hl]
  rw [hlow,KL hh,←hlow]
  have hx:u*2^r*W^q/W^(i+q)%W+L*2^r%W<W:=by rw [hd,hm];exact hsum
  have e:=Pb (n:=n) hx (show i+q<n by omega)
  rw [hd,hm] at e
  rw [e]
  have hU:u*2^r*W^q+L*2^r%W*W^(i+q)<W^(i+q+1):=by
    have a:=Nat.mod_add_div (u*2^r*W^q) (W^(i+q))
    have b:=Nat.mod_lt (u*2^r*W^q) (dj (i+q))
    rw [hd] at a
    have c:(u*2^r/W^i+L*2^r%W+1)*W^(i+q)≤W*W^(i+q):=Nat.mul_le_mul_right _ hsum
    rw [Nat.add_mul,Nat.add_mul,Nat.one_mul,Nat.mul_comm _ (W^(i+q))] at c
    rw [Nat.pow_succ,Nat.mul_comm _ W]
    omega
  rw [mD hU (by omega) hi]
  congr 1
  rw [Nat.pow_succ,Nat.mul_comm (W^(i+q)),←Nat.mul_assoc,Nat.add_assoc,←Nat.add_mul,←s1,Nat.pow_add,Nat.add_mul,Nat.add_mul]
  congr 1
  simp only [Nat.mul_assoc,Nat.mul_comm,Nat.mul_left_comm]
theorem EB(k:Nat) :2^k=2^(k%64)*W^(k/64):=by
  show 2^k=2^(k%64)*(2^64)^(k/64)
  rw [←Nat.pow_mul,←Nat.pow_add];congr 1;omega
theorem Pg{v k i:Nat} :lm (v/2^k) i=((v/W^(i+k/64)/2^(k%64)%W:Nat):Int):=by
  unfold lm
  rw [EB k,Nat.div_div_eq_div_mul,Nat.div_div_eq_div_mul,Nat.pow_add]
  congr 3
  simp only [Nat.mul_assoc,Nat.mul_comm,Nat.mul_left_comm]
theorem Rl{v k n:Nat}(h:v<W^n)(hq:k/64≤n) :v/2^k<W^(n-k/64):=by
  refine Nat.div_lt_of_lt_mul (Nat.lt_of_lt_of_le h ?_)
  rw [EB k,Nat.mul_assoc,←Nat.pow_add]
  have:k/64+(n-k/64)=n:=by omega
  rw [this]
  exact Nat.le_mul_of_pos_left _ (fo _)
theorem Ph{v k n:Nat}(h:v<W^n) :v*2^k<W^(n+k/64+1):=by
  rw [EB k,Nat.pow_succ,Nat.pow_add,←Nat.mul_assoc,Nat.mul_right_comm]
  have a:v*W^(k/64)<W^n*W^(k/64):=Nat.mul_lt_mul_of_pos_right h (dj _)
  have b:2^(k%64)<W:=Ez (Nat.mod_lt _ (by decide))
  exact Nat.mul_lt_mul_of_lt_of_le a (Nat.le_of_lt b) (by decide)
theorem Pi{v k n:Nat}(h:v<W^n)(hq:n≤k/64) :v/2^k=0:=by
  refine Nat.div_eq_of_lt (Nat.lt_of_lt_of_le h ?_)
  rw [EB k]
  exact Nat.le_trans (Nat.pow_le_pow_right (by decide) hq) (Nat.le_mul_of_pos_left _ (fo _))
def sg(s:Bool)(v:Nat) :Int:=if s then -(v:Int) else (v:Int)
def nS(z:Int) :Bool:=decide (z<0)
def nM(z:Int) :Nat:=z.natAbs/2^tz z.natAbs
def nE(z e:Int) :Int:=if z=0 then 0 else e+(tz z.natAbs:Nat)
theorem l7{s:Bool}{v:Nat} :(sg s v).natAbs=v:=by cases s<;>simp [sg]
theorem F2(z:Int) :sg (nS z) z.natAbs=z:=by
  unfold sg nS
  by_cases h:z<0
  · rw [decide_eq_true h];simp;omega
  · rw [decide_eq_false h];simp;omega
theorem jz{s:Bool}{v:Nat} :sg s v=0↔v=0:=by cases s<;>simp [sg]
theorem F3{s:Bool}{v w:Nat} :sg s (v*w)=sg s v*(w:Int):=by
  cases s
  · simp [sg]
  · simp [sg,Int.neg_mul]
theorem QT{s:Bool}{v:Nat}(h:v≠0) :nS (sg s v)=s:=by
  unfold nS sg
  cases s
  · simp
  · simp;omega
theorem NH{s t:Bool}{v w:Nat} :sg s v*sg t w=sg (s != t) (v*w):=by
  cases s<;>cases t<;>simp [sg,Int.neg_mul,Int.mul_neg]
theorem kN:nM 0=0:=by unfold nM;rw [Int.natAbs_zero,Nat.zero_div]
theorem fL{e:Int} :nE 0 e=0:=by unfold nE;rw [if_pos rfl]
theorem MS:nS 0=false:=by decide
theorem gE{z e:Int}(h:z≠0) :nE z e=e+(tz z.natAbs:Nat):=if_neg h
theorem KM{z:Int}(h:z≠0) :z.natAbs≠0:=by omega
theorem H7{z:Int}(h:z≠0) :nM z≠0:=Pa (KM h)
theorem RV{z:Int} :nM z≤z.natAbs:=Nat.div_le_self _ _
theorem Rm{z:Int} :nM (-z)=nM z:=by unfold nM;rw [Int.natAbs_neg]
theorem Rn{z e:Int} :nE (-z) e=nE z e:=by unfold nE;rw [Int.natAbs_neg];by_cases h:z=0<;>simp [h]
theorem MT(z:Int) :nM z*2^tz z.natAbs=z.natAbs:=by
  by_cases h:z=0
  · subst h;rw [kN];simp
  · exact MR (KM h)
theorem F4(z:Int) :sg (nS z) (nM z)*((2^tz z.natAbs:Nat):Int)=z:=by
  rw [←F3,MT,F2]
theorem rT{z z':Int}{m:Nat}(h:z=z'*((2^m:Nat):Int))(e:Int) :nS z=nS z'∧nM z=nM z'∧nE z e=nE z' (e+m):=by
  have p:=fo m
  have ha:z.natAbs=z'.natAbs*2^m:=by rw [h,Int.natAbs_mul,Int.natAbs_natCast]
  by_cases h0:z'=0
  · subst h0
    rw [Int.zero_mul] at h;subst h
    exact ⟨rfl,rfl,by rw [fL,fL]⟩
  · have hn:=KM h0
    have hz:z≠0:=by
      intro q
      rw [q,Int.natAbs_zero] at ha
      rcases Nat.mul_eq_zero.1 ha.symm with w | w
      · exact hn w
      · omega
    refine ⟨?_,?_,?_⟩
    · unfold nS
      congr 1
      rw [h]
      have pp:(0:Int)<((2^m:Nat):Int):=Int.natCast_pos.2 p
      refine propext ⟨fun q=>?_,fun q=>Int.mul_neg_of_neg_of_pos q pp⟩
      rcases Int.lt_trichotomy z' 0 with w | w | w
      · exact w
      · exact absurd w h0
      · exact absurd q (Int.not_lt.2 (Int.le_of_lt (Int.mul_pos w pp)))
    · unfold nM
      rw [ha,KK hn,Nat.pow_add,Nat.mul_div_mul_right _ _ p]
    · rw [gE hz,gE h0,ha,KK hn];omega
theorem By{z e:Int}{s:Bool}(hs:z≠0→s=nS z) :nS (sg s (nM z))=nS z∧nM (sg s (nM z))=nM z∧nE (sg s (nM z)) (nE z e)=nE z e:=by
  by_cases h0:z=0
  · subst h0
    rw [kN]
    have:sg s 0=0:=by cases s<;>rfl
    rw [this]
    exact ⟨rfl,kN,by rw [fL,fL]⟩
  · rw [hs h0]
    obtain ⟨a,b,c⟩:=rT (F4 z).symm e
    refine ⟨a.symm,b.symm,?_⟩
    rw [gE h0,←c,gE h0]
theorem kO{a b:Nat}(h:a≤b) :nl a≤nl b:=fH (Nat.lt_of_le_of_lt h (bU b))
theorem MU{v:Nat} :tz v≤64*nl v:=by
  by_cases h:v=0
  · subst h;rw [P8];exact Nat.zero_le _
  · have:=bU v
    have e:W^nl v=2^(64*nl v):=by rw [Nat.pow_mul]
    rw [e] at this
    exact Nat.le_of_lt (H6 h this)
theorem Pj{a b:Nat} :nl (a*b)≤nl a+nl b:=by
  refine fH ?_
  rw [Nat.pow_add]
  rcases Nat.eq_zero_or_pos b with h | h
  · rw [h,Nat.mul_zero];exact Nat.mul_pos (dj _) (dj _)
  · exact Nat.mul_lt_mul_of_lt_of_le (bU a) (Nat.le_of_lt (bU b)) (dj _)
theorem F5{a b n:Nat}(ha:nl a≤n)(hb:nl b≤n) :nl (a+b)≤n+1:=by
  refine fH ?_
  have h1:=Nat.lt_of_lt_of_le (bU a) (Nat.pow_le_pow_right (n:=W) (by decide) ha)
  have h2:=Nat.lt_of_lt_of_le (bU b) (Nat.pow_le_pow_right (n:=W) (by decide) hb)
  rw [Nat.pow_succ]
  have:W^n*2≤W^n*W:=Nat.mul_le_mul_left _ (by decide)
  omega
theorem RW{z:Int} :nl (nM z)≤nl z.natAbs:=kO RV
def Sm(z e:Int) :Prop:=nl z.natAbs≤300∧-30000≤e∧e≤30000
theorem Sm.l{z e:Int}(h:Sm z e) :nl z.natAbs≤300:=h.1
theorem Sm.m{z e:Int}(h:Sm z e) :nl (nM z)≤300:=Nat.le_trans RW h.1
theorem Sm.t{z e:Int}(h:Sm z e) :tz z.natAbs≤19200:=Nat.le_trans MU (by have:=h.1;omega)
theorem Sm.b{z e:Int}(h:Sm z e) : -30000≤nE z e∧nE z e≤49200:=by
  have ht:=Sm.t h
  obtain ⟨_,h2,h3⟩:=h
  unfold nE
  split<;>omega
theorem Sm.n{z e:Int}(h:Sm z e) :Sm (-z) e:=by unfold Sm;rw [Int.natAbs_neg];exact h
def sgn(x y:Int) :Int:=if x<y then -1 else if y<x then 1 else 0
theorem Ro{s:Bool}{v w:Nat} :sg s v+sg s w=sg s (v+w):=by cases s<;>simp [sg]<;>omega
theorem KN{s:Bool}{v:Nat} :sg (!s) v = -(sg s v):=by cases s<;>simp [sg]
theorem Pk{s:Bool}{v w:Nat}(h:w≤v) :sg s v-sg s w=sg s (v-w):=by cases s<;>simp [sg]<;>omega
theorem QU{z:Int}{X p:Nat}(h:X*p=z.natAbs) :z=sg (nS z) X*(p:Int):=by rw [←F3,h,F2]
abbrev dD:Nat:=18446744073709551616
def zY(x:Nat) :Nat:=x/4503599627370496%2048
def fin(x:Nat) :Bool:=zY x != 2047
theorem b7{x:Nat}(hx:x<dD)(h:fin x=true) :FloatKind.f64.format.read x=.number (x/9223372036854775808%2==1) (bk (x%9223372036854775808)) (-1074+(bh (x%9223372036854775808):Int)):=by
  have e1:Ieee.double.signWeight=9223372036854775808:=by decide
  have e2:Ieee.double.binade=4503599627370496:=by decide
  have e3:Ieee.double.infRung=9218868437227405312:=by decide
  have e4:Ieee.double.leastPlace = -1074:=by decide
  have hx:x<18446744073709551616:=hx
  have h':x%9223372036854775808<9218868437227405312:=by
    unfold fin zY at h;simp only [bne_iff_ne,ne_eq] at h;omega
  show Ieee.double.read x=_
  unfold Ieee.Format.read
  simp only [e1,e2,e3,e4]
  by_cases h3:x%9223372036854775808<4503599627370496
  · rw [if_pos h3]
    have:bh (x%9223372036854775808)=0:=by unfold bh;omega
    simp only [bk,if_pos h3,this];rfl
  · rw [if_neg h3,if_pos h']
    simp only [bk,if_neg h3,bh]
theorem NI{x:Nat}(hx:x<dD)(h:9218868437227405312<x%9223372036854775808) :isNaN x=true:=by
  have e1:Ieee.double.signWeight=9223372036854775808:=by decide
  have e2:Ieee.double.binade=4503599627370496:=by decide
  have e3:Ieee.double.infRung=9218868437227405312:=by decide
  have e4:Ieee.double.leastPlace = -1074:=by decide
  show (Ieee.double.read x).isNaN=true
  unfold Ieee.Format.read
  simp only [e1,e2,e3,e4]
  rw [if_neg (by omega),if_neg (by omega),if_neg (by omega)];rfl
theorem Qa{x:Nat}(hx:x<dD)(h:fin x=true) :isNaN x=false:=by
  show (Ieee.double.read x).isNaN=false
  have e:=b7 hx h
  have e':Ieee.double.read x=_:=e
  rw [e'];rfl
theorem F6{x:Nat}(hx:x<dD)(h:fin x=true) :zO x x=false:=by
  unfold zO ke Ieee.Format.order
  rw [b7 hx h]
  simp [Ieee.Datum.order,Int.min_self]
theorem iy{x:Nat}(hx:x<dD) :aC x=x%9223372036854775808:=by
  unfold aC;rfl
theorem MV{x:Nat}(hx:x<dD)(h:fin x=true) :xF (aC x) 9218868437227405311=false:=by
  have hx':x<18446744073709551616:=hx
  have h':x%9223372036854775808<9218868437227405312:=by
    unfold fin zY at h;simp only [bne_iff_ne,ne_eq] at h;omega
  unfold xF
  rw [iy hx,jw h' (by decide)]
  rcases Nat.lt_trichotomy (x%9223372036854775808) 9218868437227405311 with q | q | q
  · rw [Nat.compare_eq_lt.2 q];rfl
  · rw [q];rfl
  · omega
def fz(x:Nat) :Int:=sg (x/9223372036854775808==1) (bk (x%9223372036854775808)*2^bh (x%9223372036854775808))
theorem yf{a b:Nat}(h:a≤b) :2^a≤2^b:=Nat.pow_le_pow_right (by decide) h
theorem Pm{x a b c:Nat}(hc:c=53+b)(h1:x<9007199254740992)(h2:a≤b) :x*2^a<2^c:=by
  subst hc
  rw [Nat.pow_add]
  exact Nat.mul_lt_mul_of_lt_of_le h1 (yf h2) (fo _)
theorem Rp{a b:Nat}(h:a<b) :2^a<2^b:=Nat.pow_lt_pow_right (by decide) h
theorem RX{x:Nat}(hx:x<dD)(h:fin x=true) :(fz x).natAbs<2^2098:=by
  have hx':x<18446744073709551616:=hx
  unfold fz
  rw [l7]
  have h1:=kM (x%9223372036854775808)
  have h2:bh (x%9223372036854775808)≤2045:=by
    unfold fin zY at h;simp only [bne_iff_ne,ne_eq] at h;unfold bh;omega
  exact Pm (b:=2045) (c:=2098) rfl h1 h2
theorem Pn{x:Nat}(hx:x<dD)(h:fin x=true) :nl (fz x).natAbs≤33:=by
  refine fH (Nat.lt_of_lt_of_le (RX hx h) ?_)
  decide +kernel
theorem QV{x:Nat}(hx:x<dD)(h:fin x=true) :Sm (fz x) (-1074):=⟨Nat.le_trans (Pn hx h) (by decide),by decide,by decide⟩
theorem MW{x y:Int}{a b:Nat}(hx:nl x.natAbs≤a)(hy:nl y.natAbs≤b) :nl (x*y).natAbs≤a+b:=by
  rw [Int.natAbs_mul];exact Nat.le_trans Pj (by omega)
theorem Qb{x y:Int}{a:Nat}(hx:nl x.natAbs≤a)(hy:nl y.natAbs≤a) :nl (x-y).natAbs≤a+1 :=
  Nat.le_trans (kO (show (x-y).natAbs≤x.natAbs+y.natAbs by omega)) (F5 hx hy)
theorem EC{z e:Int}{k:Nat}(h:nl z.natAbs≤k)(hk:k≤300)(he : -30000≤e∧e≤30000) :Sm z e:=⟨Nat.le_trans h hk,he.1,he.2⟩
theorem RY(z:Int)(k:Nat)(e:Int) :nS z=nS (z*((2^k:Nat):Int))∧nM z=nM (z*((2^k:Nat):Int))∧nE z (e+k)=nE (z*((2^k:Nat):Int)) e:=by
  obtain ⟨a,b,c⟩:=rT (z:=z*((2^k:Nat):Int)) (z':=z) (m:=k) rfl e
  exact ⟨a.symm,b.symm,c.symm⟩
def Fn(l:List Nat) :Prop:=∀ i,i<l.length→fin (l.getD i 0)=true
end Go.Plb
namespace Go.Proofs.YthikcnkmglbbbaaDoor
open Go.ChangeShapes Go.WideShapes Go.ChangeAt Go.RowKit Go.Plb Go.Plb.Seat
theorem Rr:ownKnob Tryd.prog.godebug=none:=by kernel_rfl
theorem Qc:laidOutB Tryd.prog=true:=by kernel_rfl
theorem MX : Tryd.prog.globalNamed "math/bits.deBruijn64tab" = some 1 := by kernel_rfl
def wI : List (String × DataW Unit) := [("math/bits.deBruijn64tab", Rows.laid_math_bits_deBruijn64tab)]
theorem Qd:(Rows.laid_math_bits_deBruijn64tab:DataW Unit)=Lib.tabData .u8 aB:=by rfl
theorem Rs{W : World}(h : laidMetH Tryd.prog wI W) : Lib.TabIs Tryd.prog W "math/bits.deBruijn64tab" .u8 aB := by
  have h':laidMet Tryd.prog wI W:=h
  unfold wI at h'
  rw [Qd] at h'
  exact Lib.tabIs_of_head MX (t:=168) (e:=5) (n:=64) (by kernel_rfl) (by kernel_rfl) (by kernel_rfl) (by kernel_rfl) (by kernel_rfl) h'
theorem Qe{W:World}(h:laidMetH Tryd.prog wI W) :∀ x∈Rom.tab,VR ah.none_ W (.iptr .free x.2 1 0 0) (.pointer (some ⟨x.1,0,none⟩)):=by
  intro x hx
  obtain rfl:=List.mem_singleton.1 hx
  have ht:=Rs h
  have cell:∀ i,i<64→W.cell? ⟨1,i,none⟩=some (.int .u8 (aB.getD i 0)):=fun i hi=>ht.cell MX i hi
  have hb:1<W.heap.size:=by
    have h0:=cell 0 (by decide)
    unfold World.cell? at h0
    rcases Nat.lt_or_ge 1 W.heap.size with q | q
    · exact q
    · have e:W.heap[1]? = none:=Array.getElem?_eq_none q
      rw [e] at h0;cases h0
  have look:∀ (y:Nat) v,(aA.ns .u8 aB).cell? y=some v→y<64∧v=.int .u8 (aB.getD y 0):=by
    intro y v hv
    have hv':(aB[y]?).map (fun z=>AV.int .u8 z)=some v:=hv
    cases e:aB[y]? with
    | none=>rw [e] at hv';cases hv'
    | some z =>
      rw [e] at hv'
      have hy:=(List.getElem?_eq_some_iff.1 e).1
      refine ⟨hy,?_⟩
      rw [List.getD_eq_getElem?_getD,e]
      exact (Option.some.inj hv').symm
  exact .iptr .free _ 1 0 0 1 0 (fun y=>.int .u8 (aB.getD y 0)) (vf _ _) hb
    (fun y v hv=>by rw [Nat.zero_add];exact cell y (look y v hv).1) (fun y v hv=>by rw [(look y v hv).2];exact .int _ _) trivial (fun _=>rfl) rfl
noncomputable def ED(os:Os) :World :=
  { World.holding Tryd.prog os ⟨#[],#[],[]⟩ with heap:=(World.holding Tryd.prog os ⟨#[],#[],[]⟩).heap.modify 1 fun
      | .cells _ t frozen=>.cells (aB.map fun z=>Value.int .u8 z).toArray t frozen
      | o=>o }
theorem Po(os:Os)(args:Array Value) :laidMetH Tryd.prog wI ((ED os).forCall (fun _ _=>0) ⟨#[],args,[]⟩).memory :=
  (laidMet_of_run' 8 (by kernel_rfl) (by kernel_rfl):laidMet Tryd.prog wI _)
theorem RZ{x:Nat}(h:(FA.f x).has .f) :x<dD:=by
  have h2:(Lit.float .f64 x).wf=true:=h
  simp only [Lit.wf] at h2
  exact of_decide_eq_true h2
end Go.Proofs.YthikcnkmglbbbaaDoor
namespace Go.Plb.Seat
open Go Go.Plb
set_option linter.unusedSimpArgs false
set_option linter.unusedVariables false
noncomputable abbrev E0:wv:=bc []
theorem oG:aX prog E0:=Bk prog
theorem Pp(y:Nat) :ae prog qj [] [.flt true y] ⟨.flt true (aC y),[]⟩:=by
  have h:np C0 E0 (eV C0 E0 0 50) qj [] [.flt true y] (some [])=some (⟨.flt true (bv .andNot .u64 (y:Int) 9223372036854775808).toNat,[]⟩,[],some []):=by kernel_rfl
  have:=ae.run nv oG _ _ _ h trivial
  rw [OL,Int.toNat_natCast] at this;exact this
theorem R0(ex:Bool)(x:Nat) :ae prog qj [] [.flt ex x] ⟨.flt ex (aC x),[]⟩:=by
  cases ex with
  | true=>exact Pp x
  | false=>exact rg (r:=fun y=>.flt true (aC y)) Pp (fun y hf ρ w u h=>h.flt_weak (OM hf))
theorem MY(y:Nat) :ae prog oC [] [.flt true y] ⟨.flt true (aC y),[]⟩:=by
  have h:np C0 E0 (eV C0 E0 0 50) oC [] [.flt true y] (some [])=some (⟨.flt true ((IntKind.u64.wrap ((y:Int)*2^min (Int.toNat 1) IntKind.u64.bits)).fdiv (2^min (Int.toNat 1) IntKind.u64.bits)).toNat,[]⟩,[true,true],some []):=by kernel_rfl
  have:=ae.run nv oG _ _ _ h ⟨rfl,rfl,trivial⟩
  rw [PZ,Int.toNat_natCast] at this;exact this
theorem Rt(ex:Bool)(x:Nat) :ae prog oC [] [.flt ex x] ⟨.flt ex (aC x),[]⟩:=by
  cases ex with
  | true=>exact MY x
  | false=>exact rg (r:=fun y=>.flt true (aC y)) MY (fun y hf ρ w u h=>h.flt_weak (OM hf))
theorem yX(x y:Nat) :ae prog iI [] [.flt true x,.flt true y] ⟨.flt true (mq x y),[]⟩:=by
  have h:np C0 E0 (eV C0 E0 0 50) iI [] [.flt true x,.flt true y] (some [])=some (⟨.flt true (bv .or .u64 (bv .andNot .u64 (x:Int) 9223372036854775808) (bv .and .u64 (y:Int) 9223372036854775808)).toNat,[]⟩,[],some []):=by kernel_rfl
  have:=ae.run nv oG _ _ _ h trivial
  rw [OL,Ri,RN,Int.toNat_natCast] at this;exact this
theorem KO(e1 e2:Bool)(x y:Nat)(hn:isNaN y=true→isNaN x=true) :ae prog iI [] [.flt e1 x,.flt e2 y] ⟨.flt false (mq x y),[]⟩ :=
  rh (r:=fun x y=>.flt true (mq x y)) yX (fun x' y' h1 h2 ρ w u h=>h.flt_weak (FR.copy h1 h2 hn))
theorem Qf(e1 e2:Bool)(x y:Nat) :ae prog jr [] [.flt e1 x,.flt e2 y] ⟨.bool false (oz x y),[]⟩:=by
  refine rh (r:=fun x y=>.bool false (oz x y)) (fun x y=>?_) (fun x' y' h1 h2 ρ w u h=>by rw [←FR.same h1 h2];exact h)
  have hb:((x:Int)==(y:Int))=(x==y):=by
    rw [Bool.eq_iff_iff];simp;omega
  cases hx:isNaN x with
  | false =>
    have h:np C0 E0 (eV C0 E0 0 50) jr [] [.flt true x,.flt true y] (some [0])=some (⟨.bool false ((x:Int)==(y:Int)),[]⟩,[zO x x==false],some []):=by kernel_rfl
    have:=ae.run nv oG _ _ _ h ⟨by rw [rI,hx];rfl,trivial⟩
    rw [hb] at this
    simp only [oz,hx,Bool.false_and,Bool.false_or];exact this
  | true =>
    cases hy:isNaN y with
    | false =>
      have h:np C0 E0 (eV C0 E0 0 50) jr [] [.flt true x,.flt true y] (some [1,0])=some (⟨.bool false ((x:Int)==(y:Int)),[]⟩,[zO x x==true,zO y y==false],some []):=by kernel_rfl
      have:=ae.run nv oG _ _ _ h ⟨by rw [rI,hx];rfl,by rw [rI,hy];rfl,trivial⟩
      rw [hb] at this
      simp only [oz,hx,hy,Bool.and_false,Bool.false_or];exact this
    | true =>
      have h:np C0 E0 (eV C0 E0 0 50) jr [] [.flt true x,.flt true y] (some [1,1])=some (⟨.bool true true,[]⟩,[zO x x==true,zO y y==true],some []):=by kernel_rfl
      have:=ae.run nv oG _ _ _ h ⟨by rw [rI,hx];rfl,by rw [rI,hy];rfl,trivial⟩
      have e:oz x y=true:=by simp [oz,hx,hy]
      rw [e]
      exact this.weak (ve _ _ _)
def KP(L:List aA)(args:List AV) :Option (List nk) :=
  match L,args with
  | [],[.flt e1 x,.flt e2 y]=>bif e1&&e2 then one (.flt true (mq x y)) [] else one (.flt false (mq x y)) [!isNaN y||isNaN x]
  | _,_=>none
def Pq:aD:=⟨qj,fun L args=>match L,args with | [],[.flt e x]=>one (.flt e (aC x)) [] | _,_=>none⟩
def KQ:aD:=⟨oC,fun L args=>match L,args with | [],[.flt e x]=>one (.flt e (aC x)) [] | _,_=>none⟩
def Bz:aD:=⟨iI,KP⟩
def F7:aD:=⟨jr,fun L args=>match L,args with | [],[.flt _ x,.flt _ y]=>one (.bool false (oz x y)) [] | _,_=>none⟩
theorem Pr:aM prog Pq:=by
  intro L args alts a h ha ho
  simp only [Pq] at h
  split at h
  · exact kj h ha ho fun _=>R0 _ _
  · cases h
theorem NJ:aM prog KQ:=by
  intro L args alts a h ha ho
  simp only [KQ] at h
  split at h
  · exact kj h ha ho fun _=>Rt _ _
  · cases h
theorem Ru{x y:Nat}(h:az [!isNaN y||isNaN x]) :isNaN y=true→isNaN x=true:=by
  intro hy;have:=h.1;rw [hy] at this;simpa using this
theorem Qg{f:FuncId}(hT:∀ x y,ae prog f [] [.flt true x,.flt true y] ⟨.flt true (mq x y),[]⟩) 
    (hF:∀ e1 e2 x y,(isNaN y=true→isNaN x=true)→ae prog f [] [.flt e1 x,.flt e2 y] ⟨.flt false (mq x y),[]⟩):aM prog ⟨f,KP⟩:=by
  intro L args alts a h ha ho
  simp only [KP] at h
  split at h
  · rename_i e1 x e2 y
    cases e1<;>cases e2<;>first | exact kj h ha ho fun q=>hF _ _ _ _ (Ru q) | exact kj h ha ho fun q=>hT _ _
  · cases h
theorem Dm:aM prog Bz:=Qg yX KO
theorem KR:aM prog F7:=by
  intro L args alts a h ha ho
  simp only [F7] at h
  split at h
  · exact kj h ha ho fun q=>Qf _ _ _ _
  · cases h
def L1:List aD:=[Pq,KQ,Bz,F7]
def S1:wv:=bc L1
theorem R1:aX prog S1:=an Pr (an NJ (an Dm (an KR (Bk _))))
end Go.Plb.Seat
namespace Go.Plb.Seat
open Go Go.Plb
set_option linter.unusedSimpArgs false
set_option linter.unusedVariables false
set_option maxRecDepth 100000
def eu(n:Nat) :Bool:=Nat.ble n 1000000000
noncomputable def R2:Empty→aE:=fun a=>a.elim
noncomputable def R3:Unit→AE×aE:=fun _=>(.ret,⟨ak 8 [(2,.sl 0 1 1 0 0 0)],[(0,.fl [])],1⟩)
noncomputable def Sf:Unit→gq:=fun _=>⟨.sl 0 1 1 0 0 0,[some (.fl [])]⟩
theorem Qh:ae prog bR [] [.zsl true] ⟨.sl 0 1 1 0 0 0,[some (.fl [])]⟩ :=
  Sg.contract (x:=()) (X:=Unit) (N:=R2) (E:=R3) (m:=some (.inr ())) false Sf (by kernel_rfl:prog.funcs[bR]? = some (FN bR)) (by kernel_rfl:(FN bR).body=some (rp bR))
    (Sg.seg (C:=C0) nv oG 60 (fa (rp bR)) (kK (FN bR) [] [.zsl true]) (.leaf (.inr ())) R2 R3 [⟨[(.slot 2,.own 1 1 (.fl []))],[64],[2]⟩] (by kernel_rfl))
    (fun _=>⟨.inr rfl,[.sl 0 1 1 0 0 0],[],by kernel_rfl,trivial,by kernel_rfl⟩) rfl
theorem Ps:ae prog bR [] [.zsl false] ⟨.sl 0 1 1 0 0 0,[some (.fl [])]⟩ :=
  ae.run nv oG (some []) 0 60 (p':=some []) (obs:=[]) (by kernel_rfl) Sb
theorem Qi(l:Lv) :ae prog bR [] [.imm l (.fl []) 1 1 0 0] ⟨.sl 0 1 1 0 0 0,[some (.fl [])]⟩:=by
  intro ρ w us hN hv
  cases hv with | cons _ u _ _ h1 h2 =>
  cases h2
  have key:∀ (a:Option Addr) cap,di ρ w [.zsl a.isNone] [.slice a 0 cap]:=fun a cap=>.cons _ _ _ _ (.zsl a cap) .nil
  have all:∀ b,ae prog bR [] [.zsl b] ⟨.sl 0 1 1 0 0 0,[some (.fl [])]⟩:=fun b=>by
    cases b
    · exact Ps
    · exact Qh
  cases h1 with
  | imm _ _ _ _ _ _ cap bl o u'=>exact all _ ρ w _ hN (key _ cap)
  | immEnd _ _ _ _ _ cap a=>exact all _ ρ w _ hN (key a cap)
theorem Qj(l:Lv)(xs:List Nat)(hl:xs.length≤1000000000) :ae prog bR [] [.imm l (.fl xs) 1 1 0 xs.length] ⟨.sl 0 1 1 0 xs.length xs.length,[some (.fl xs)]⟩:=by
  rcases Nat.eq_zero_or_pos xs.length with h0 | h0
  · have:xs=[]:=List.length_eq_zero_iff.1 h0
    subst this
    exact Qi l
  · have h:np C0 E0 (eV C0 E0 0 60) bR [] [.imm l (.fl xs) 1 1 0 xs.length] (some [])=some (⟨.sl 0 1 1 0 (0+xs.length) (0+xs.length),[some (.fl (List.take 0 []++List.take xs.length xs))]⟩,
        [Nat.blt 0 xs.length,pS ((0+xs.length)*8) 140737488355328,pS (0+xs.length) 9223372036854775807,pS xs.length xs.length,pS 0 ([]:List Nat).length],some []):=by kernel_rfl
    have:=ae.run nv oG _ _ _ h (ob (by rw [Nat.blt_eq];exact h0)<|ob (by simp [pS];omega)<|ob (by simp [pS];omega)<|ob (by simp [pS])<|ob rfl Sb)
    simp only [Nat.zero_add,List.take_zero,List.nil_append,List.take_length] at this
    exact this
noncomputable def MZ:aD:=cy bR (.cons .fl .nil) fun t=>[⟨⟨.sl 0 1 1 0 t.1.2.length t.1.2.length,[some (.fl t.1.2)]⟩,[eu t.1.2.length]⟩]
theorem KS:aM prog MZ:=aR fun t=>aS (fun h=>Qj t.1.1 t.1.2 (Nat.le_of_ble_eq_true h)) bj
noncomputable def Sj:List aD:=MZ::L1
theorem Rv:aX prog (bc Sj):=an KS R1
noncomputable def H8:Empty→aE:=fun a=>a.elim
noncomputable def H9:Unit→AE×aE:=fun _=>(.ret,⟨ak 8 [(2,.sl 0 1 1 0 0 0)],[(0,.ns .u64 [])],1⟩)
noncomputable def Pt:Unit→gq:=fun _=>⟨.sl 0 1 1 0 0 0,[some (.ns .u64 [])]⟩
theorem Ia:ae prog bn [] [.zsl true] ⟨.sl 0 1 1 0 0 0,[some (.ns .u64 [])]⟩ :=
  Sg.contract (x:=()) (X:=Unit) (N:=H8) (E:=H9) (m:=some (.inr ())) false Pt (by kernel_rfl:prog.funcs[bn]? = some (FN bn)) (by kernel_rfl:(FN bn).body=some (rp bn))
    (Sg.seg (C:=C0) nv oG 60 (fa (rp bn)) (kK (FN bn) [] [.zsl true]) (.leaf (.inr ())) H8 H9 [⟨[(.slot 2,.own 1 1 (.ns .u64 []))],[64],[2]⟩] (by kernel_rfl))
    (fun _=>⟨.inr rfl,[.sl 0 1 1 0 0 0],[],by kernel_rfl,trivial,by kernel_rfl⟩) rfl
theorem F8:ae prog bn [] [.zsl false] ⟨.sl 0 1 1 0 0 0,[some (.ns .u64 [])]⟩ :=
  ae.run nv oG (some []) 0 60 (p':=some []) (obs:=[]) (by kernel_rfl) Sb
theorem Ib(l:Lv) :ae prog bn [] [.imm l (.ns .u64 []) 1 1 0 0] ⟨.sl 0 1 1 0 0 0,[some (.ns .u64 [])]⟩:=by
  intro ρ w us hN hv
  cases hv with | cons _ u _ _ h1 h2 =>
  cases h2
  have key:∀ (a:Option Addr) cap,di ρ w [.zsl a.isNone] [.slice a 0 cap]:=fun a cap=>.cons _ _ _ _ (.zsl a cap) .nil
  have all:∀ b,ae prog bn [] [.zsl b] ⟨.sl 0 1 1 0 0 0,[some (.ns .u64 [])]⟩:=fun b=>by
    cases b
    · exact F8
    · exact Ia
  cases h1 with
  | imm _ _ _ _ _ _ cap bl o u'=>exact all _ ρ w _ hN (key _ cap)
  | immEnd _ _ _ _ _ cap a=>exact all _ ρ w _ hN (key a cap)
theorem Ic(l:Lv)(xs:List Int)(hl:xs.length≤1000000000) :ae prog bn [] [.imm l (.ns .u64 xs) 1 1 0 xs.length] ⟨.sl 0 1 1 0 xs.length xs.length,[some (.ns .u64 xs)]⟩:=by
  rcases Nat.eq_zero_or_pos xs.length with h0 | h0
  · have:xs=[]:=List.length_eq_zero_iff.1 h0
    subst this
    exact Ib l
  · have h:np C0 E0 (eV C0 E0 0 60) bn [] [.imm l (.ns .u64 xs) 1 1 0 xs.length] (some [])=some (⟨.sl 0 1 1 0 (0+xs.length) (0+xs.length),[some (.ns .u64 (List.take 0 ([]:List Int)++List.take xs.length xs))]⟩,
        [Nat.blt 0 xs.length,pS ((0+xs.length)*8) 140737488355328,pS (0+xs.length) 9223372036854775807,pS xs.length xs.length,pS 0 ([]:List Int).length],some []):=by kernel_rfl
    have:=ae.run nv oG _ _ _ h (ob (by rw [Nat.blt_eq];exact h0)<|ob (by simp [pS];omega)<|ob (by simp [pS];omega)<|ob (by simp [pS])<|ob rfl Sb)
    simp only [Nat.zero_add,List.take_zero,List.nil_append,List.take_length] at this
    exact this
noncomputable def yY:aD:=cy bn (.cons (.ns .u64) .nil) fun t=>[⟨⟨.sl 0 1 1 0 t.1.2.length t.1.2.length,[some (.ns .u64 t.1.2)]⟩,[eu t.1.2.length]⟩]
theorem BA:aM prog yY:=aR fun t=>aS (fun h=>Ic t.1.1 t.1.2 (Nat.le_of_ble_eq_true h)) bj
noncomputable def M0:List aD:=yY::Sj
theorem KT:aX prog (bc M0):=an BA Rv
noncomputable def L2:List aD:=M0
theorem QW:aX prog (bc L2):=KT
end Go.Plb.Seat
namespace Go.Plb.Seat
open Go Go.Plb
set_option linter.unusedSimpArgs false
set_option linter.unusedVariables false
theorem Pu{n:Nat}(h:isNaN n=true) :n/4503599627370496%2048=2047:=by
  rw [lG,decide_eq_true_eq] at h;omega
theorem Pv(n:Nat) :Int.tmod (Int.fdiv (n:Int) (2^min (Int.toNat 52) IntKind.u64.bits)) 2048=((n/4503599627370496%2048:Nat):Int):=by
  have e:(2^min (Int.toNat 52) IntKind.u64.bits:Int)=((4503599627370496:Nat):Int):=by decide
  rw [e,Int.fdiv_eq_ediv_of_nonneg _ (by omega)];exact Int.tmod_eq_emod_of_nonneg (Int.natCast_nonneg _)
theorem ae.nan{f:FuncId}{g:Nat→gq}{r:gq}(h:∀ n:Nat,ae prog f [] [.int .u64 (n:Int)] (g n))(e:∀ n:Nat,isNaN n=true→g n=r) :ae prog f [] [.nan] r:=by
  intro ρ w us hN hv
  cases hv with | cons _ u _ _ h1 h2 =>
  cases h2
  cases h1 with | nan n hn =>
  rw [←e n hn]
  exact h n ρ w _ hN (.cons _ _ _ _ (.int _ _) .nil)
theorem NK:ae prog js [] [.nan] ⟨.bool false false,[]⟩:=by
  refine ae.nan (g:=fun n=>⟨.bool false ((Int.tmod (Int.fdiv (n:Int) (2^min (Int.toNat 52) IntKind.u64.bits)) 2048) != 2047),[]⟩) (fun n=>?_) (fun n hn=>?_)
  · have h:np C0 E0 (eV C0 E0 0 50) js [] [.int .u64 n] (some [])=some (⟨.bool false ((Int.tmod (Int.fdiv (n:Int) (2^min (Int.toNat 52) IntKind.u64.bits)) 2048) != 2047),[]⟩,[(decide ((0:Int)≤52)),((2048:Int) != 0)],some []):=by kernel_rfl
    exact ae.run nv oG _ _ _ h ⟨rfl,rfl,trivial⟩
  · simp only [Pv,Pu hn];rfl
theorem KU:ae prog js [] [.nan] ⟨.bool true false,[]⟩:=NK.weak (ve _ _ _)
def yg:aD:=⟨js,fun L args=>match L,args with | [],[.nan]=>one (.bool true false) [] | _,_=>none⟩
theorem F9:aM prog yg:=by
  intro L args alts a h ha ho
  simp only [yg] at h
  split at h
  · exact kj h ha ho fun q=>KU
  · cases h
noncomputable def L3:List aD:=yg::L2
theorem Sk:aX prog (bc L3):=an F9 QW
end Go.Plb.Seat
namespace Go.Plb.Seat
open Go Go.Plb
set_option linter.unusedVariables false
set_option maxRecDepth 100000
theorem bQ{S:wv}(hS:aX prog S){lent:List aA}{α X:Type}{cs:List Code}{st:aE}{t:T (α⊕X)}(N:α→aE){E:X→AE×aE}(ks:List NS) 
    (h:O1 C0 S 60 cs st t.leaves ks lent.length=MM N E t.leaves:=by kernel_rfl):Sg prog lent cs st t.run N E:=Sg.seg nv hS 60 cs st t N E ks h
theorem Oh{lent:List aA}{σ ρ X:Type}{cs:List Code}{st:aE}{E:X→AE×aE}{B:σ→Option (σ⊕(ρ⊕X))}{ent:σ}(s:NS)(I:σ→aE)(J:ρ→aE)(id:Nat)(hE:lM E)(hI:vo id E) 
    (hb:∀ a,Sg prog lent (fa (jv (cs.headD .skip))) (I a) (B a) I (iv id J E)) (hn:s.ok lent.length=true:=by exact rfl) (h1:s.on st=I ent:=by kernel_rfl) (hcs:cs=[.block id (.loop (jv (cs.headD .skip)))]:=by kernel_rfl) :
    Sg prog lent cs st (eK B ent) J E:=Sg.pre s hn h1 (NA hcs hE hI hb ent)
def Sl:Empty→aE:=fun a=>a.elim
theorem mt{fn:Func}{k:Nat}{keep:Bool}{o:gq}{st:aE}(vs:List AV)(h1:fW prog fn st fn.results.toList=some (vs,[]):=by kernel_rfl)(h2:A9 k keep st.heap (xW vs)=some o:=by kernel_rfl) :MH prog fn k keep o .ret st :=
  ⟨.inr rfl,vs,[],h1,trivial,h2⟩
theorem oh{f:FuncId}{X:Type}{m:Option (Empty⊕X)}{lent:List aA}{args:List AV}{x:X}(keep:Bool)(o:X→gq)(E:X→AE×aE)(hx:mr m=some x) 
    (h:Sg prog lent (fa (rp f)) (kK (FN f) lent args) m Sl E) (hE:∀ x,MH prog (FN f) lent.length keep (o x) (E x).1 (E x).2)
    (hf:prog.funcs[f]? = some (FN f):=by kernel_rfl) (hc:(FN f).body=some (rp f):=by kernel_rfl):ae prog f lent args (o x) :=
  Sg.contract (P:=prog) (f:=f) (fn:=FN f) (c:=rp f) (N:=Sl) (E:=E) (lent:=lent) (args:=args) keep o hf hc h hE hx
end Go.Plb.Seat
namespace Go.Plb.Seat
open Go Go.Plb
set_option linter.unusedSimpArgs false
set_option linter.unusedVariables false
def Sh:Option (gq×List Bool×eI)→Bool
  | some (⟨.bool _ true,[]⟩,o,_)=>Ni o
  | _=>false
theorem Pw{r:Option (gq×List Bool×eI)}(h:Sh r=true) :∃ k o p,r=some (⟨.bool k true,[]⟩,o,p)∧az o:=by
  unfold Sh at h
  split at h
  · exact ⟨_,_,_,rfl,Eo h⟩
  · cases h
theorem NL:Sh (np C0 E0 (eV C0 E0 50 100) o6 [] [] none)=true:=by kernel_rfl
theorem Qk:ae prog o6 [] [] ⟨.bool false true,[]⟩:=by
  obtain ⟨k,o,p,h,ho⟩:=Pw NL
  exact (ae.run nv oG none _ _ h ho).weak (ve _ _ _)
def Ga:aD:=⟨o6,fun L args=>match L,args with | [],[]=>one (.bool false true) [] | _,_=>none⟩
theorem KV:aM prog Ga:=by
  intro L args alts a h ha ho
  simp only [Ga] at h
  split at h
  · exact kj h ha ho fun q=>Qk
  · cases h
noncomputable def L6:List aD:=Ga::L2
theorem QX:aX prog (bc L6):=an KV QW
end Go.Plb.Seat
