/-
  Part 3 of what the claim leans on: an evaluator of the model, proved sound; the contracts of the functions.
-/
import Derived.Test.YthikcnkmglbbbaaDoorA2
namespace Go.Plb.Seat
open Go Go.Plb
set_option linter.unusedVariables false
set_option maxRecDepth 100000
noncomputable section
inductive bF where
  | r0 (a:Int)
def pI:bF→AE×aG
  | .r0 a=>(.ret,⟨an 14 [(2,.int .i64 a)],[],0⟩)
def fK:bF→jj
  | .r0 a=>⟨.int .i64 a,[]⟩
def iB(a:Int) :T ((Empty)⊕(bF)) :=
  .ask (a==(0:Int))
    (.leaf (.inr (.r0 (64:Int))))
    (.need (decide ((0:Int)≤(58:Int)))<|.need (gp (Int.fdiv (IntKind.u64.wrap ((cA .and .u64 a (IntKind.u64.wrap ((0:Int)-a)))*(285870213051353865:Int))) (2^(min (Int.toNat (58:Int)) (IntKind.u64.bits)))) 64)<|.need (fF (fu (fu 0 (Ef (Int.toNat (Int.fdiv (IntKind.u64.wrap ((cA .and .u64 a (IntKind.u64.wrap ((0:Int)-a)))*(285870213051353865:Int))) (2^(min (Int.toNat (58:Int)) (IntKind.u64.bits))))) 1)) 0) (List.length aD))<|.leaf (.inr (.r0 (IntKind.i64.wrap (List.getD aD (fu (fu 0 (Ef (Int.toNat (Int.fdiv (IntKind.u64.wrap ((cA .and .u64 a (IntKind.u64.wrap ((0:Int)-a)))*(285870213051353865:Int))) (2^(min (Int.toNat (58:Int)) (IntKind.u64.bits))))) 1)) 0) 0)))))
def bZ(a:Int) :Option bF:=pm ((iB a).run)
theorem oX(a:Int){x:bF}(h:bZ a=some x) :ai prog jk [] [.int .u64 a] (fK x) :=
  qH false fK pI h (bM TS _ [⟨[],[],[2]⟩,⟨[],[],[2]⟩])
    (fun x=>by cases x with | r0 b=>exact pn [.int .i64 b])
def cE:Option bF→Bool
  | some _=>true
  | none=>false
def cr:Option bF→Int
  | some (.r0 x)=>x
  | _=>0
theorem oY{x:Option bF}(h:cE x=true) :x=some (.r0 (cr x)):=by
  unfold cE at h
  split at h<;>first | rfl | (cases h;done) | (rename_i y;cases y;rfl)
def jo:aK:=cV jk (.cons (.int .u64) .nil) fun t=>(fun q=>[⟨fK (.r0 (cr q)),[cE q]⟩]) (bZ t.1)
theorem np:aQ prog jo:=aX fun t=>(aY (fun h=>oX t.1 (oY h)) bE)
def jp:List aK:=jo::WW
theorem eH:bj prog (bv jp):=ax np TS
inductive cw where
  | r0 (a:Int) (b:Int)
def ra:cw→AE×aG
  | .r0 a b=>(.ret,⟨an 51 [(4,.int .u64 a),(5,.int .u64 b)],[],0⟩)
theorem yV:mW ra:=by intro x;cases x<;>(intro h;cases h)
def l5:cw→jj
  | .r0 a b=>⟨.tup [.int .u64 a,.int .u64 b],[]⟩
def yW(a:Int)(b:Int) :Int×Int×Int×Int→aG:=fun (c,d,e,f)=>⟨an 51 [(0,.int .u64 a),(1,.int .u64 b),(6,.int .u64 c),(7,.int .u64 d),(9,.int .u64 e),(11,.int .u64 f)],[],0⟩
def qi(a:Int)(b:Int) :T ((Int×Int×Int×Int)⊕(cw)) :=
  .need (decide ((0:Int)≤(32:Int)))<|.need (decide ((0:Int)≤(32:Int)))<|.need (decide ((0:Int)≤(32:Int)))<|.leaf (.inl ((cA .and .u64 a (4294967295:Int)),(Int.fdiv a (2^(min (Int.toNat (32:Int)) (IntKind.u64.bits)))),(Int.fdiv b (2^(min (Int.toNat (32:Int)) (IntKind.u64.bits)))),(IntKind.u64.wrap ((IntKind.u64.wrap ((Int.fdiv a (2^(min (Int.toNat (32:Int)) (IntKind.u64.bits))))*(cA .and .u64 b (4294967295:Int))))+(Int.fdiv (IntKind.u64.wrap ((cA .and .u64 a (4294967295:Int))*(cA .and .u64 b (4294967295:Int)))) (2^(min (Int.toNat (32:Int)) (IntKind.u64.bits))))))))
def lc(c:Int)(d:Int)(e:Int)(f:Int)(a:Int)(b:Int) :T ((Empty)⊕(cw)) :=
  .need (decide ((0:Int)≤(32:Int)))<|.need (decide ((0:Int)≤(32:Int)))<|.leaf (.inr (.r0 (IntKind.u64.wrap ((IntKind.u64.wrap ((IntKind.u64.wrap (f*a))+(Int.fdiv b (2^(min (Int.toNat (32:Int)) (IntKind.u64.bits))))))+(Int.fdiv (IntKind.u64.wrap ((cA .and .u64 b (4294967295:Int))+(IntKind.u64.wrap (e*a)))) (2^(min (Int.toNat (32:Int)) (IntKind.u64.bits)))))) (IntKind.u64.wrap (c*d))))
def dq(a:Int)(b:Int) :Option cw:=pm (aH ((qi a b).run) fun (c,d,e,f) =>
  (lc a b c d e f).run)
theorem yX(a:Int)(b:Int){x:cw}(h:dq a b=some x) :ai prog q8 [] [.int .u64 a,.int .u64 b] (l5 x) :=
  qH false l5 ra h (Sg.cut 7 yV (bM eH (yW a b) [⟨[],[],[0,1,6,7,9,11]⟩]) (fun ⟨e,f,g,i⟩=>bM eH _ [⟨[],[],[4,5]⟩]))
    (fun x=>by cases x with | r0 c d=>exact pn [.int .u64 c,.int .u64 d])
def fY:Option cw→Bool
  | some _=>true
  | none=>false
def gw:Option cw→Int
  | some (.r0 x _)=>x
  | _=>0
def dQ:Option cw→Int
  | some (.r0 _ x)=>x
  | _=>0
theorem yY{x:Option cw}(h:fY x=true) :x=some (.r0 (gw x) (dQ x)):=by
  unfold fY at h
  split at h<;>first | rfl | (cases h;done) | (rename_i y;cases y;rfl)
def rb:aK:=cV q8 (.cons (.int .u64) (.cons (.int .u64) .nil)) fun t=>(fun q=>[⟨l5 (.r0 (gw q) (dQ q)),[fY q]⟩]) (dq t.1 t.2.1)
theorem vN:aQ prog rb:=aX fun t=>(aY (fun h=>yX t.1 t.2.1 (yY h)) bE)
def rc:List aK:=rb::jp
theorem fk:bj prog (bv rc):=ax vN eH
inductive eI where
  | r0 (a:List Int) (b:Nat)
def th(a:Lv) :eI→AE×aG
  | .r0 b c=>(.ret,⟨an 21 [(2,.imm a (.ns .u64 b) 1 1 0 c)],[],0⟩)
theorem re{a:Lv} :mW (th a):=by intro x;cases x<;>(intro h;cases h)
theorem LV{a:Lv}(id:Nat) :oV id (th a):=by intro x;cases x<;>(intro h;cases h)
def yZ(a:Lv) :eI→jj
  | .r0 b c=>⟨.imm a (.ns .u64 b) 1 1 0 c,[]⟩
def LW:List Code:=dU (pB k8)
def LX(b:Lv)(a:List Int)(_:Unit) :aG:=⟨an 21 [(0,.imm b (.ns .u64 a) 1 1 0 (List.length a))],[],0⟩
def LY:T ((Unit)⊕(eI)) :=
  .leaf (.inl ())
def vO(a:Lv)(b:List Int)(c:Nat) :aG:=⟨an 21 [(0,.imm a (.ns .u64 b) 1 1 0 c)],[],0⟩
def CJ(a:Lv)(b:List Int)(c:Nat) :aG:=⟨an 21 [(0,.imm a (.ns .u64 b) 1 1 0 c)],[],0⟩
def JS:List Code:=dU (gI ((((LW.drop 1).take 1)).headD .skip))
def LZ(a:Lv)(b:List Int)(c:Nat)(d:Bool) :aG:=⟨an 21 [(0,.imm a (.ns .u64 b) 1 1 0 c),(14,.bool false d)],[],0⟩
def l6(b:List Int)(a:Nat) :T ((Bool)⊕((Nat)⊕(eI))) :=
  .ask (decide (((a:Nat):Int)>(0:Int)))
    (.need (gd .i64 (((a:Nat):Int)-(1:Int)))<|.need (gp (((a:Nat):Int)-(1:Int)) a)<|.need (fF (Int.toNat (((a:Nat):Int)-(1:Int))) (List.length b))<|.leaf (.inl ((List.getD b (Int.toNat (((a:Nat):Int)-(1:Int))) 0)==(0:Int))))
    (.leaf (.inl false))
def Ag(a:Nat)(b:Bool) :T ((Nat)⊕((Nat)⊕(eI))) :=
  .ask b
    (.need (gd .i64 (((a:Nat):Int)-(1:Int)))<|.need (vj (((a:Nat):Int)-(1:Int)) a)<|.need (vj (0:Int) (Int.toNat (((a:Nat):Int)-(1:Int))))<|.leaf (.inl (Int.toNat (((a:Nat):Int)-(1:Int)))))
    (.leaf (.inr (.inl a)))
def tj(b:List Int) :Nat→Option ((Nat)⊕((Nat)⊕(eI))):=fun a =>
  aH ((l6 b a).run) fun c =>
  (Ag a c).run
theorem JT(a:Lv)(b:List Int)(c:Nat) :Sg prog [] JS (vO a b c) (tj b c) (vO a b) (fB 0 (CJ a b) (th a)):=by
  unfold tj;exact Sg.cut 1 (cD re) (bM fk (LZ a b c) [⟨[],[],[0,14]⟩,⟨[],[],[0,14]⟩]) (fun d=>bM fk _ [⟨[],[],[0]⟩,⟨[],[],[0]⟩])
def JU(a:List Int)(b:Nat) :T ((Empty)⊕(eI)) :=
  .leaf (.inr (.r0 a b))
def aj(a:List Int) :Option eI:=pm (aH ((LY).run) fun _ =>
  aH (dN (tj a) (List.length a)) fun b =>
  (JU a b).run)
theorem L0(a:Lv)(b:List Int){x:eI}(h:aj b=some x) :ai prog k8 [] [.imm a (.ns .u64 b) 1 1 0 (List.length b)] (yZ a x) :=
  qH false (yZ a) (th a) h (Sg.cut 1 re (bM fk (LX a b) [⟨[],[],[0]⟩]) (fun _=>Sg.cut 1 re (JQ ⟨[],[],[0]⟩ (vO a b) (CJ a b) 0 re (LV _) (fun c=>JT a b c)) (fun f=>bM fk _ [⟨[],[],[2]⟩])))
    (fun x=>by cases x with | r0 d e=>exact pn [.imm a (.ns .u64 d) 1 1 0 e])
def bz:Option eI→Bool
  | some _=>true
  | none=>false
def aA:Option eI→List Int
  | some (.r0 x _)=>x
  | _=>[]
def ao:Option eI→Nat
  | some (.r0 _ x)=>x
  | _=>0
theorem L4{x:Option eI}(h:bz x=true) :x=some (.r0 (aA x) (ao x)):=by
  unfold bz at h
  split at h<;>first | rfl | (cases h;done) | (rename_i y;cases y;rfl)
def Fe:aK:=cV k8 (.cons (.ns .u64) .nil) fun t=>(fun q=>[⟨yZ t.1.1 (.r0 (aA q) (ao q)),[bz q]⟩]) (aj t.1.2)
theorem G7:aQ prog Fe:=aX fun t=>(aY (fun h=>L0 t.1.1 t.1.2 (L4 h)) bE)
def Ff:List aK:=Fe::rc
theorem rJ:bj prog (bv Ff):=ax G7 fk
inductive fZ where
  | r0 (a:Nat) (b:Nat) (c:List Int)
def Fg:fZ→AE×aG
  | .r0 a b c=>(.ret,⟨an 12 [(2,.sl 0 1 1 0 a a),(3,.int .i64 ((b:Nat):Int))],[(0,.ns .u64 c)],1⟩)
theorem L5:mW Fg:=by intro x;cases x<;>(intro h;cases h)
def y5:fZ→jj
  | .r0 a b c=>⟨.tup [.imm .free (.ns .u64 c) 1 1 0 a,.int .i64 ((b:Nat):Int)],[]⟩
def L6(a:Lv) :Nat×(List Int)×Nat→aG:=fun (b,c,d)=>⟨an 12 [(1,.ptr 0 1 0 0),(4,.int .i64 ((b:Nat):Int))],[(0,.vs [.imm a (.ns .u64 c) 1 1 0 d])],1⟩
def vP(a:List Int) :T ((Nat×(List Int)×Nat)⊕(fZ)) :=
  .ask (decide ((0:Int)<(1:Int)))
    (.need (gp (0:Int) 1)<|.need (a6 0 (List.length a) a)<|.need (bz (aj (aa 0 (List.length a) a)))<|.ask (decide ((((ao (aj (aa 0 (List.length a) a))):Nat):Int)>(4096:Int)))
      (.leaf (.inl (2,(aA (aj (aa 0 (List.length a) a))),(ao (aj (aa 0 (List.length a) a))))))
      (.need (gd .i64 (1:Int))<|.ask (decide ((1:Int)<(1:Int)))
        (.fail)
        (.leaf (.inl (0,(aA (aj (aa 0 (List.length a) a))),(ao (aj (aa 0 (List.length a) a))))))))
    (.fail)
def vQ(c:Nat)(a:List Int)(b:Nat) :T ((Empty)⊕(fZ)) :=
  .ask (((c:Nat):Int) != (0:Int))
    (.leaf (.inr (.r0 0 c ([]:List Int))))
    (.need (a6 0 b a)<|.need (mX (List.length (aa 0 b a)))<|.leaf (.inr (.r0 (List.length (aa 0 b a)) 0 (aa 0 b a))))
def jx(a:List Int) :Option fZ:=pm (aH ((vP a).run) fun (b,c,d) =>
  (vQ b c d).run)
theorem L7(b:Lv)(a:List Int){x:fZ}(h:jx a=some x) :ai prog yN [] [.imm b (.ns .u64 a) 1 1 0 (List.length a)] (y5 x) :=
  qH true y5 Fg h (Sg.cut 2 L5 (bM rJ (L6 b) [⟨[],[0],[1,4]⟩,⟨[],[0],[1,4]⟩]) (fun ⟨e,f,g⟩=>bM rJ _ [⟨[(.slot 2,.own 1 1 (.ns .u64 ([]:List Int)))],[81],[2,3]⟩,⟨[],[49],[2,3]⟩]))
    (fun x=>by cases x with | r0 c d i=>exact pn [.sl 0 1 1 0 c c,.int .i64 ((d:Nat):Int)])
def oI:Option fZ→Bool
  | some _=>true
  | none=>false
def rK:Option fZ→Nat
  | some (.r0 x _ _)=>x
  | _=>0
def rL:Option fZ→Nat
  | some (.r0 _ x _)=>x
  | _=>0
def rM:Option fZ→List Int
  | some (.r0 _ _ x)=>x
  | _=>[]
theorem L8{x:Option fZ}(h:oI x=true) :x=some (.r0 (rK x) (rL x) (rM x)):=by
  unfold oI at h
  split at h<;>first | rfl | (cases h;done) | (rename_i y;cases y;rfl)
def Fh:aK:=cV yN (.cons (.ns .u64) .nil) fun t=>(fun q=>[⟨y5 (.r0 (rK q) (rL q) (rM q)),[oI q]⟩]) (jx t.1.2)
theorem G8:aQ prog Fh:=aX fun t=>(aY (fun h=>L7 t.1.1 t.1.2 (L8 h)) bE)
def Fi:List aK:=Fh::Ff
theorem ke:bj prog (bv Fi):=ax G8 rJ
inductive bX where
  | r0 (a:Nat) (b:Nat) (c:Nat) (d:List Int)
def oa:bX→AE×aG
  | .r0 a b c d=>(.ret,⟨an 21 [(2,.sl 0 1 1 a b c)],[(0,.ns .u64 d)],1⟩)
theorem l7:mW oa:=by intro x;cases x<;>(intro h;cases h)
theorem Fj(id:Nat) :oV id oa:=by intro x;cases x<;>(intro h;cases h)
def rN:bX→jj
  | .r0 a b c d=>⟨.sl 0 1 1 a b c,[some (.ns .u64 d)]⟩
def Fk:List Code:=dU (pB k8)
def Fl(a:List Int)(b:Nat)(c:Nat)(d:Nat)(_:Unit) :aG:=⟨an 21 [(0,.sl 0 1 1 b c d)],[(0,.ns .u64 a)],1⟩
def Fm:T ((Unit)⊕(bX)) :=
  .leaf (.inl ())
def qj(a:List Int)(b:Nat) :Nat×Nat→aG:=fun (c,d)=>⟨an 21 [(0,.sl 0 1 1 c d b)],[(0,.ns .u64 a)],1⟩
def vR(a:List Int)(b:Nat) :Nat×Nat→aG:=fun (c,d)=>⟨an 21 [(0,.sl 0 1 1 c d b)],[(0,.ns .u64 a)],1⟩
def Ds:List Code:=dU (gI ((((Fk.drop 1).take 1)).headD .skip))
def Fo(a:List Int)(b:Nat)(c:Nat)(d:Nat)(e:Bool) :aG:=⟨an 21 [(0,.sl 0 1 1 c d b),(14,.bool false e)],[(0,.ns .u64 a)],1⟩
def iC(b:List Int)(c:Nat)(a:Nat) :T ((Bool)⊕((Nat×Nat)⊕(bX))) :=
  .ask (decide (((a:Nat):Int)>(0:Int)))
    (.need (gd .i64 (((a:Nat):Int)-(1:Int)))<|.need (gp (((a:Nat):Int)-(1:Int)) a)<|.need (fF (fu c (Int.toNat (((a:Nat):Int)-(1:Int)))) (List.length b))<|.leaf (.inl ((List.getD b (fu c (Int.toNat (((a:Nat):Int)-(1:Int)))) 0)==(0:Int))))
    (.leaf (.inl false))
def uz(c:Nat)(b:Nat)(a:Nat)(d:Bool) :T ((Nat×Nat)⊕((Nat×Nat)⊕(bX))) :=
  .ask d
    (.need (gd .i64 (((a:Nat):Int)-(1:Int)))<|.need (vj (((a:Nat):Int)-(1:Int)) c)<|.need (vj (0:Int) (Int.toNat (((a:Nat):Int)-(1:Int))))<|.leaf (.inl ((fu b 0),(Int.toNat (((a:Nat):Int)-(1:Int))))))
    (.leaf (.inr (.inl (b,a))))
def oZ(c:List Int)(d:Nat) :Nat×Nat→Option ((Nat×Nat)⊕((Nat×Nat)⊕(bX))):=fun (a,b) =>
  aH ((iC c a b).run) fun e =>
  (uz d a b e).run
theorem Dt(a:List Int)(b:Nat)(c:Nat)(d:Nat) :Sg prog [.ns .u64 a] Ds (qj a b (c,d)) (oZ a b (c,d)) (qj a b) (fB 0 (vR a b) oa):=by
  unfold oZ;exact Sg.cut 1 (cD l7) (bM ke (Fo a b c d) [⟨[],[0],[0,14]⟩,⟨[],[0],[0,14]⟩]) (fun e=>bM ke _ [⟨[],[0],[0]⟩,⟨[],[0],[0]⟩])
def Du(a:List Int)(b:Nat)(c:Nat)(d:Nat) :T ((Empty)⊕(bX)) :=
  .leaf (.inr (.r0 c d b a))
def aM(a:List Int)(c:Nat)(d:Nat)(b:Nat) :Option bX:=pm (aH ((Fm).run) fun _ =>
  aH (dN (oZ a b) (c,d)) fun (e,f) =>
  (Du a b e f).run)
theorem Fp(a:List Int)(c:Nat)(d:Nat)(b:Nat){x:bX}(h:aM a c d b=some x) :ai prog k8 [.ns .u64 a] [.sl 0 1 1 c d b] (rN x) :=
  qH false rN oa h (Sg.cut 1 l7 (bM ke (Fl a c d b) [⟨[],[0],[0]⟩]) (fun _=>Sg.cut 1 l7 (JQ ⟨[],[0],[0]⟩ (qj a b) (vR a b) 0 l7 (Fj _) (fun ⟨e,f⟩=>Dt a b e f)) (fun ⟨k,l⟩=>bM ke _ [⟨[],[0],[2]⟩])))
    (fun x=>by cases x with | r0 g i j m=>exact pn [.sl 0 1 1 g i j])
def fp:Option bX→Bool
  | some _=>true
  | none=>false
def eJ:Option bX→Nat
  | some (.r0 x _ _ _)=>x
  | _=>0
def eK:Option bX→Nat
  | some (.r0 _ x _ _)=>x
  | _=>0
def eL:Option bX→Nat
  | some (.r0 _ _ x _)=>x
  | _=>0
def eN:Option bX→List Int
  | some (.r0 _ _ _ x)=>x
  | _=>[]
theorem Fq{x:Option bX}(h:fp x=true) :x=some (.r0 (eJ x) (eK x) (eL x) (eN x)):=by
  unfold fp at h
  split at h<;>first | rfl | (cases h;done) | (rename_i y;cases y;rfl)
def xX:aK:=Ly k8 [.ns .u64] (.cons (.lsl 0) .nil) fun x t=>(fun q=>[⟨rN (.r0 (eJ q) (eK q) (eL q) (eN q)),[fp q]⟩]) (aM x.1 t.1.1 t.1.2.1 t.1.2.2)
theorem BG:aQ prog xX:=EW fun x t=>(w6 (fun h=>Fp x.1 t.1.1 t.1.2.1 t.1.2.2 (Fq h)) EX)
def xY:List aK:=xX::Fi
theorem nq:bj prog (bv xY):=ax BG ke
inductive iD where
  | r0 (a:Nat) (b:Nat) (c:Nat) (d:List Int)
def L9:iD→AE×aG
  | .r0 a b c d=>(.ret,⟨an 6 [(2,.sl 0 1 1 a b c)],[(0,.ns .u64 d)],1⟩)
theorem R9:mW L9:=by intro x;cases x<;>(intro h;cases h)
def Fr:iD→jj
  | .r0 a b d c=>⟨.imm .free (.ns .u64 c) 1 1 a b,[]⟩
def Sa:Nat×Nat×Nat×(List Int)→aG:=fun (a,b,c,d)=>⟨an 6 [(2,.sl 0 1 1 a b c)],[(0,.ns .u64 d)],1⟩
def Io(a:Int) :T ((Nat×Nat×Nat×(List Int))⊕(iD)) :=
  .need (fp (aM [a] 0 1 1))<|.leaf (.inl ((eJ (aM [a] 0 1 1)),(eK (aM [a] 0 1 1)),(eL (aM [a] 0 1 1)),(eN (aM [a] 0 1 1))))
def Sb(a:Nat)(b:Nat)(c:Nat)(d:List Int) :T ((Empty)⊕(iD)) :=
  .leaf (.inr (.r0 a b c d))
def aS(a:Int) :Option iD:=pm (aH ((Io a).run) fun (b,c,d,e) =>
  (Sb b c d e).run)
theorem Sc(a:Int){x:iD}(h:aS a=some x) :ai prog EZ [] [.int .u64 a] (Fr x) :=
  qH true Fr L9 h (Sg.cut 2 R9 (bM nq Sa [⟨[],[32],[2]⟩]) (fun ⟨e,f,g,i⟩=>bM nq _ [⟨[],[0],[2]⟩]))
    (fun x=>by cases x with | r0 b c d j=>exact pn [.sl 0 1 1 b c d])
def nr:Option iD→Bool
  | some _=>true
  | none=>false
def cd:Option iD→Nat
  | some (.r0 x _ _ _)=>x
  | _=>0
def cg:Option iD→Nat
  | some (.r0 _ x _ _)=>x
  | _=>0
def CL:Option iD→Nat
  | some (.r0 _ _ x _)=>x
  | _=>0
def ch:Option iD→List Int
  | some (.r0 _ _ _ x)=>x
  | _=>[]
theorem Sd{x:Option iD}(h:nr x=true) :x=some (.r0 (cd x) (cg x) (CL x) (ch x)):=by
  unfold nr at h
  split at h<;>first | rfl | (cases h;done) | (rename_i y;cases y;rfl)
def Ma:aK:=cV EZ (.cons (.int .u64) .nil) fun t=>(fun q=>[⟨Fr (.r0 (cd q) (cg q) (CL q) (ch q)),[nr q]⟩]) (aS t.1)
theorem Mb:aQ prog Ma:=aX fun t=>(aY (fun h=>Sc t.1 (Sd h)) bE)
def Mc:List aK:=Ma::xY
theorem rf:bj prog (bv Mc):=ax Mb nq
inductive gQ where
  | r0 (a:Int)
def xo:gQ→AE×aG
  | .r0 a=>(.ret,⟨an 45 [(4,.int .i64 a)],[],0⟩)
theorem y6:mW xo:=by intro x;cases x<;>(intro h;cases h)
theorem O8(id:Nat) :oV id xo:=by intro x;cases x<;>(intro h;cases h)
def BH:gQ→jj
  | .r0 a=>⟨.int .i64 a,[]⟩
def O9:List Code:=dU (pB By)
def Pa(c:Lv)(a:List Int)(d:Lv)(b:List Int)(e:Int) :aG:=⟨an 45 [(0,.imm c (.ns .u64 a) 1 1 0 (List.length a)),(1,.imm d (.ns .u64 b) 1 1 0 (List.length b)),(5,.int .i64 e)],[],0⟩
def tk(a:List Int)(b:List Int) :T ((Int)⊕(gQ)) :=
  .ask (decide ((((List.length a):Nat):Int)<(((List.length b):Nat):Int)))
    (.leaf (.inr (.r0 (-1:Int))))
    (.ask (decide ((((List.length a):Nat):Int)>(((List.length b):Nat):Int)))
      (.leaf (.inr (.r0 (1:Int))))
      (.need (gd .i64 ((((List.length a):Nat):Int)-(1:Int)))<|.leaf (.inl ((((List.length a):Nat):Int)-(1:Int)))))
def y7(c:Lv)(a:List Int)(d:Lv)(b:List Int)(e:Int) :aG:=⟨an 45 [(0,.imm c (.ns .u64 a) 1 1 0 (List.length a)),(1,.imm d (.ns .u64 b) 1 1 0 (List.length b)),(5,.int .i64 e)],[],0⟩
def Fs(_:Unit) :aG:=⟨an 45 [],[],0⟩
def Pb:List Code:=dU (gI ((((O9.drop 3).take 1)).headD .skip))
def qk(b:List Int)(c:List Int)(a:Int) :T ((Int)⊕((Unit)⊕(gQ))) :=
  .ask (decide (a≥(0:Int)))
    (.need (gp a (List.length b))<|.need (fF (Int.toNat a) (List.length b))<|.need (gp a (List.length c))<|.need (fF (Int.toNat a) (List.length c))<|.ask (decide ((List.getD b (Int.toNat a) 0)<(List.getD c (Int.toNat a) 0)))
      (.leaf (.inr (.inr (.r0 (-1:Int)))))
      (.need (gp a (List.length b))<|.need (fF (Int.toNat a) (List.length b))<|.need (gp a (List.length c))<|.need (fF (Int.toNat a) (List.length c))<|.ask (decide ((List.getD b (Int.toNat a) 0)>(List.getD c (Int.toNat a) 0)))
        (.leaf (.inr (.inr (.r0 (1:Int)))))
        (.need (gd .i64 (a-(1:Int)))<|.leaf (.inl (a-(1:Int))))))
    (.leaf (.inr (.inl ())))
def rg(a:List Int)(b:List Int) :Int→Option ((Int)⊕((Unit)⊕(gQ))):=fun c =>
  (qk a b c).run
theorem Md(c:Lv)(a:List Int)(d:Lv)(b:List Int)(e:Int) :Sg prog [] Pb (y7 c a d b e) (rg a b e) (y7 c a d b) (fB 1 Fs xo):=by
  unfold rg;exact bM rf _ [⟨[],[],[4]⟩,⟨[],[],[4]⟩,⟨[],[],[0,1,5]⟩,⟨[],[],[]⟩]
def Me:T ((Empty)⊕(gQ)) :=
  .leaf (.inr (.r0 (0:Int)))
def nt(a:List Int)(b:List Int) :Option gQ:=pm (aH ((tk a b).run) fun c =>
  aH (dN (rg a b) c) fun _ =>
  (Me).run)
theorem Pc(c:Lv)(a:List Int)(d:Lv)(b:List Int){x:gQ}(h:nt a b=some x) :ai prog By [] [.imm c (.ns .u64 a) 1 1 0 (List.length a),.imm d (.ns .u64 b) 1 1 0 (List.length b)] (BH x) :=
  qH false BH xo h (Sg.cut 3 y6 (bM rf (Pa c a d b) [⟨[],[],[4]⟩,⟨[],[],[4]⟩,⟨[],[],[0,1,5]⟩]) (fun g=>Sg.cut 1 y6 (JQ ⟨[],[],[0,1,5]⟩ (y7 c a d b) (Fs) 1 y6 (O8 _) (fun e=>Md c a d b e)) (fun _=>bM rf _ [⟨[],[],[4]⟩])))
    (fun x=>by cases x with | r0 f=>exact pn [.int .i64 f])
def ql:Option gQ→Bool
  | some _=>true
  | none=>false
def pJ:Option gQ→Int
  | some (.r0 x)=>x
  | _=>0
theorem Pd{x:Option gQ}(h:ql x=true) :x=some (.r0 (pJ x)):=by
  unfold ql at h
  split at h<;>first | rfl | (cases h;done) | (rename_i y;cases y;rfl)
def Ip:aK:=cV By (.cons (.ns .u64) (.cons (.ns .u64) .nil)) fun t=>(fun q=>[⟨BH (.r0 (pJ q)),[ql q]⟩]) (nt t.1.2 t.2.1.2)
theorem JV:aQ prog Ip:=aX fun t=>(aY (fun h=>Pc t.1.1 t.1.2 t.2.1.1 t.2.1.2 (Pd h)) bE)
def Iq:List aK:=Ip::Mc
theorem pK:bj prog (bv Iq):=ax JV rf
inductive gR where
  | r0 (a:Int) (b:Nat)
def Ir:gR→AE×aG
  | .r0 a b=>(.ret,⟨an 15 [(4,.int .i64 a),(5,.int .i64 ((b:Nat):Int))],[],0⟩)
theorem Ft:mW Ir:=by intro x;cases x<;>(intro h;cases h)
def BI:gR→jj
  | .r0 a b=>⟨.tup [.int .i64 a,.int .i64 ((b:Nat):Int)],[]⟩
def Pe(a:Lv)(b:Lv) :Nat×(List Int)×Nat×(List Int)×Nat→aG:=fun (c,d,e,f,g)=>⟨an 15 [(2,.ptr 0 1 0 0),(3,.ptr 1 1 0 0),(6,.int .i64 ((c:Nat):Int))],[(0,.vs [.imm a (.ns .u64 d) 1 1 0 e]),(1,.vs [.imm b (.ns .u64 f) 1 1 0 g])],2⟩
def Fu(a : List Int)(b : List Int) : T ((Nat × (List Int) × Nat × (List Int) × Nat) ⊕ (gR)) :=
  .ask (decide ((0:Int)<(2:Int)))
    (.need (gp (0:Int) 2)<|.need (a6 0 (List.length a) a)<|.need (bz (aj (aa 0 (List.length a) a)))<|.ask (decide ((((ao (aj (aa 0 (List.length a) a))):Nat):Int)>(4096:Int)))
      (.leaf (.inl (2,(aA (aj (aa 0 (List.length a) a))),(ao (aj (aa 0 (List.length a) a))),b,(List.length b))))
      (.need (gd .i64 (1:Int))<|.ask (decide ((1:Int)<(2:Int)))
        (.need (gp (1:Int) 2)<|.need (a6 0 (List.length b) b)<|.need (bz (aj (aa 0 (List.length b) b)))<|.ask (decide ((((ao (aj (aa 0 (List.length b) b))):Nat):Int)>(4096:Int)))
          (.leaf (.inl (2,(aA (aj (aa 0 (List.length a) a))),(ao (aj (aa 0 (List.length a) a))),(aA (aj (aa 0 (List.length b) b))),(ao (aj (aa 0 (List.length b) b))))))
          (.need (gd .i64 (2:Int))<|.ask (decide ((2:Int)<(2:Int)))
            (.fail)
            (.leaf (.inl (0,(aA (aj (aa 0 (List.length a) a))),(ao (aj (aa 0 (List.length a) a))),(aA (aj (aa 0 (List.length b) b))),(ao (aj (aa 0 (List.length b) b))))))))
        (.fail)))
    (.fail)
def Pf(a:Int) :aG:=⟨an 15 [(4,.int .i64 a),(5,.int .i64 (0:Int))],[],0⟩
def Fv(e:Nat)(a:List Int)(b:Nat)(c:List Int)(d:Nat) :T ((Int)⊕(gR)) :=
  .ask (((e:Nat):Int) != (0:Int))
    (.leaf (.inr (.r0 (0:Int) e)))
    (.need (a6 0 b a)<|.need (a6 0 d c)<|.need (ql (nt (aa 0 b a) (aa 0 d c)))<|.leaf (.inl (pJ (nt (aa 0 b a) (aa 0 d c)))))
def Pg(a:Int) :T ((Empty)⊕(gR)) :=
  .leaf (.inr (.r0 a 0))
def nu(a:List Int)(b:List Int) :Option gR:=pm (aH ((Fu a b).run) fun (c,d,e,f,g) =>
  aH ((Fv c d e f g).run) fun h =>
  (Pg h).run)
theorem Ph(c:Lv)(a:List Int)(d:Lv)(b:List Int){x:gR}(h:nu a b=some x) :ai prog Bv [] [.imm c (.ns .u64 a) 1 1 0 (List.length a),.imm d (.ns .u64 b) 1 1 0 (List.length b)] (BI x) :=
  qH true BI Ir h (Sg.cut 2 Ft (bM pK (Pe c d) [⟨[],[0,16],[2,3,6]⟩,⟨[],[0,16],[2,3,6]⟩,⟨[],[0,16],[2,3,6]⟩]) (fun ⟨g,i,j,k,l⟩=>Sg.cut 3 Ft (bM pK Pf [⟨[],[],[4,5]⟩,⟨[],[],[4,5]⟩]) (fun m=>bM pK _ [⟨[],[],[4,5]⟩])))
    (fun x=>by cases x with | r0 e f=>exact pn [.int .i64 e,.int .i64 ((f:Nat):Int)])
def qm:Option gR→Bool
  | some _=>true
  | none=>false
def pL:Option gR→Int
  | some (.r0 x _)=>x
  | _=>0
def Ah:Option gR→Nat
  | some (.r0 _ x)=>x
  | _=>0
theorem Pi{x:Option gR}(h:qm x=true) :x=some (.r0 (pL x) (Ah x)):=by
  unfold qm at h
  split at h<;>first | rfl | (cases h;done) | (rename_i y;cases y;rfl)
def Is:aK:=cV Bv (.cons (.ns .u64) (.cons (.ns .u64) .nil)) fun t=>(fun q=>[⟨BI (.r0 (pL q) (Ah q)),[qm q]⟩]) (nu t.1.2 t.2.1.2)
theorem JW:aQ prog Is:=aX fun t=>(aY (fun h=>Ph t.1.1 t.1.2 t.2.1.1 t.2.1.2 (Pi h)) bE)
def It:List aK:=Is::Iq
theorem tl:bj prog (bv It):=ax JW pK
inductive dH where
  | r0 (a:List Int)
  | r1 (b:Nat) (c:Nat) (d:Nat) (e:List Int)
def Fw:dH→AE×aG
  | .r0 a=>(.ret,⟨an 10 [(2,.nsl),(3,.int .i64 (3:Int))],[(0,.ns .u64 a)],1⟩)
  | .r1 b c d e=>(.ret,⟨an 10 [(2,.sl 0 1 1 b c d),(3,.int .i64 (0:Int))],[(0,.ns .u64 e)],1⟩)
theorem Mf:mW Fw:=by intro x;cases x<;>(intro h;cases h)
def tm:dH→jj
  | .r0 a=>⟨.tup [.nsl,.int .i64 (3:Int)],[some (.ns .u64 a)]⟩
  | .r1 b c d e=>⟨.tup [.sl 0 1 1 b c d,.int .i64 (0:Int)],[some (.ns .u64 e)]⟩
def Mg:Nat×Nat×Nat×(List Int)→aG:=fun (a,b,c,d)=>⟨an 10 [(0,.sl 0 1 1 a b c)],[(0,.ns .u64 d)],1⟩
def CM(a:List Int)(b:Nat)(c:Nat)(d:Nat) :T ((Nat×Nat×Nat×(List Int))⊕(dH)) :=
  .need (fp (aM a b c d))<|.leaf (.inl ((eJ (aM a b c d)),(eK (aM a b c d)),(eL (aM a b c d)),(eN (aM a b c d))))
def Mh(c:Nat)(a:Nat)(d:Nat)(b:List Int) :T ((Empty)⊕(dH)) :=
  .ask (decide (((a:Nat):Int)>(4096:Int)))
    (.leaf (.inr (.r0 b)))
    (.leaf (.inr (.r1 c a d b)))
def dI(a:List Int)(b:Nat)(c:Nat)(d:Nat) :Option dH:=pm (aH ((CM a b c d).run) fun (e,f,g,h) =>
  (Mh e f g h).run)
theorem CN(a:List Int)(b:Nat)(c:Nat)(d:Nat){x:dH}(h:dI a b c d=some x) :ai prog qg [.ns .u64 a] [.sl 0 1 1 b c d] (tm x) :=
  qH false tm Fw h (Sg.cut 2 Mf (bM tl Mg [⟨[],[0],[0]⟩]) (fun ⟨i,j,k,l⟩=>bM tl _ [⟨[],[0],[2,3]⟩,⟨[],[0],[2,3]⟩]))
    (fun x=>by cases x with | r0 m=>exact pn [.nsl,.int .i64 (3:Int)] | r1 e f g n=>exact pn [.sl 0 1 1 e f g,.int .i64 (0:Int)])
def oJ:Option dH→Bool
  | some (.r0 _)=>true
  | _=>false
def xZ:Option dH→List Int
  | some (.r0 x)=>x
  | _=>[]
theorem Mi{x:Option dH}(h:oJ x=true) :x=some (.r0 (xZ x)):=by
  unfold oJ at h
  split at h<;>first | rfl | (cases h;done) | (rename_i y;cases y;rfl)
def oK:Option dH→Bool
  | some (.r1 _ _ _ _)=>true
  | _=>false
def oc:Option dH→Nat
  | some (.r1 x _ _ _)=>x
  | _=>0
def od:Option dH→Nat
  | some (.r1 _ x _ _)=>x
  | _=>0
def oe:Option dH→Nat
  | some (.r1 _ _ x _)=>x
  | _=>0
def og:Option dH→List Int
  | some (.r1 _ _ _ x)=>x
  | _=>[]
theorem Mj{x:Option dH}(h:oK x=true) :x=some (.r1 (oc x) (od x) (oe x) (og x)):=by
  unfold oK at h
  split at h<;>first | rfl | (cases h;done) | (rename_i y;cases y;rfl)
def Fx:aK:=Ly qg [.ns .u64] (.cons (.lsl 0) .nil) fun x t=>(fun q=>[⟨tm (.r0 (xZ q)),[oJ q]⟩,⟨tm (.r1 (oc q) (od q) (oe q) (og q)),[oK q]⟩]) (dI x.1 t.1.1 t.1.2.1 t.1.2.2)
theorem G9:aQ prog Fx:=EW fun x t=>(w6 (fun h=>CN x.1 t.1.1 t.1.2.1 t.1.2.2 (Mi h)) (w6 (fun h=>CN x.1 t.1.1 t.1.2.1 t.1.2.2 (Mj h)) EX))
def Fy:List aK:=Fx::It
theorem fO:bj prog (bv Fy):=ax G9 tl
inductive df where
  | r0 (a:Nat) (b:Nat) (c:Nat) (d:Nat) (e:List Int)
def xp:df→AE×aG
  | .r0 a b c d e=>(.ret,⟨an 62 [(4,.sl 0 1 1 a b c),(5,.int .i64 ((d:Nat):Int))],[(0,.ns .u64 e)],1⟩)
theorem ld:mW xp:=by intro x;cases x<;>(intro h;cases h)
theorem Pj(id:Nat) :oV id xp:=by intro x;cases x<;>(intro h;cases h)
def BJ:df→jj
  | .r0 a b e c d=>⟨.tup [.imm .free (.ns .u64 d) 1 1 a b,.int .i64 ((c:Nat):Int)],[]⟩
def Ml:List Code:=dU (pB w8)
def Pk(a:Lv)(b:Lv) :Nat×(List Int)×Nat×(List Int)×Nat→aG:=fun (c,d,e,f,g)=>⟨an 62 [(2,.ptr 0 1 0 0),(3,.ptr 1 1 0 0),(6,.int .i64 ((c:Nat):Int))],[(0,.vs [.imm a (.ns .u64 d) 1 1 0 e]),(1,.vs [.imm b (.ns .u64 f) 1 1 0 g])],2⟩
def CO(a : List Int)(b : List Int) : T ((Nat × (List Int) × Nat × (List Int) × Nat) ⊕ (df)) :=
  .ask (decide ((0:Int)<(2:Int)))
    (.need (gp (0:Int) 2)<|.need (a6 0 (List.length a) a)<|.need (bz (aj (aa 0 (List.length a) a)))<|.ask (decide ((((ao (aj (aa 0 (List.length a) a))):Nat):Int)>(4096:Int)))
      (.leaf (.inl (2,(aA (aj (aa 0 (List.length a) a))),(ao (aj (aa 0 (List.length a) a))),b,(List.length b))))
      (.need (gd .i64 (1:Int))<|.ask (decide ((1:Int)<(2:Int)))
        (.need (gp (1:Int) 2)<|.need (a6 0 (List.length b) b)<|.need (bz (aj (aa 0 (List.length b) b)))<|.ask (decide ((((ao (aj (aa 0 (List.length b) b))):Nat):Int)>(4096:Int)))
          (.leaf (.inl (2,(aA (aj (aa 0 (List.length a) a))),(ao (aj (aa 0 (List.length a) a))),(aA (aj (aa 0 (List.length b) b))),(ao (aj (aa 0 (List.length b) b))))))
          (.need (gd .i64 (2:Int))<|.ask (decide ((2:Int)<(2:Int)))
            (.fail)
            (.leaf (.inl (0,(aA (aj (aa 0 (List.length a) a))),(ao (aj (aa 0 (List.length a) a))),(aA (aj (aa 0 (List.length b) b))),(ao (aj (aa 0 (List.length b) b))))))))
        (.fail)))
    (.fail)
def Pm:(List Int)×Nat×(List Int)×Nat→aG:=fun (a,b,c,d)=>⟨an 62 [(2,.ptr 0 1 0 0),(3,.ptr 1 1 0 0)],[(0,.vs [.imm .lent (.ns .u64 a) 1 1 0 b]),(1,.vs [.imm .lent (.ns .u64 c) 1 1 0 d])],2⟩
def Mm(c:Nat)(d:List Int)(a:Nat)(e:List Int)(b:Nat) :T (((List Int)×Nat×(List Int)×Nat)⊕(df)) :=
  .ask (((c:Nat):Int) != (0:Int))
    (.leaf (.inr (.r0 0 0 0 c ([]:List Int))))
    (.ask (decide (((a:Nat):Int)<((b:Nat):Int)))
      (.leaf (.inl (e,b,d,a)))
      (.leaf (.inl (d,a,e,b))))
def Pp(c:List Int)(a:Nat)(d:List Int)(e:Nat) :Nat×(List Int)→aG:=fun (b,f)=>⟨an 62 [(2,.ptr 0 1 0 0),(3,.ptr 1 1 0 0),(7,.ptr 2 1 0 0),(8,.fn (.func q7) [] [.ptr 2 1 0 0]),(9,.sl 3 1 1 0 b b),(30,.int .i64 ((a:Nat):Int)),(31,.int .i64 (0:Int))],[(0,.vs [.imm .lent (.ns .u64 c) 1 1 0 a]),(1,.vs [.imm .lent (.ns .u64 d) 1 1 0 e]),(2,.vs [.int .u64 (0:Int)]),(3,.ns .u64 f)],4⟩
def vS(a:Nat) :T ((Nat×(List Int))⊕(df)) :=
  .need (gd .i64 (((a+1):Nat):Int))<|.need (decide ((0:Int)≤(((a+1):Nat):Int)))<|.need (decide ((((a+1):Nat):Int)≤(((a+1):Nat):Int)))<|.need (decide ((8:Int)*(((a+1):Nat):Int)≤140737488355328))<|.need (gd .i64 (((a+1):Nat):Int))<|.leaf (.inl ((a+1),(List.replicate (a+1) (0:Int))))
def y8(c:List Int)(a:Nat)(d:List Int)(e:Nat)(b:Nat) :Nat×Nat×(List Int)→aG:=fun (f,g,h)=>⟨an 62 [(2,.ptr 0 1 0 0),(3,.ptr 1 1 0 0),(7,.ptr 2 1 0 0),(8,.fn (.func q7) [] [.ptr 2 1 0 0]),(9,.sl 3 1 1 0 b b),(30,.int .i64 ((a:Nat):Int)),(31,.int .i64 ((f:Nat):Int))],[(0,.vs [.imm .lent (.ns .u64 c) 1 1 0 a]),(1,.vs [.imm .lent (.ns .u64 d) 1 1 0 e]),(2,.vs [.int .u64 ((g:Nat):Int)]),(3,.ns .u64 h)],4⟩
def Fz(b:List Int)(c:Nat)(a:Nat) :Nat×(List Int)→aG:=fun (d,e)=>⟨an 62 [(2,.ptr 0 1 0 0),(7,.ptr 1 1 0 0),(9,.sl 2 1 1 0 a a)],[(0,.vs [.imm .lent (.ns .u64 b) 1 1 0 c]),(1,.vs [.int .u64 ((d:Nat):Int)]),(2,.ns .u64 e)],3⟩
def Mn:List Code:=dU (gI ((((((Ml.drop 2).drop 4).drop 4).take 1)).headD .skip))
def Pq(c:List Int)(a:Nat)(d:List Int)(e:Nat)(b:Nat)(f:Nat) :Nat×(List Int)→aG:=fun (g,h)=>⟨an 62 [(2,.ptr 0 1 0 0),(3,.ptr 1 1 0 0),(7,.ptr 2 1 0 0),(8,.fn (.func q7) [] [.ptr 2 1 0 0]),(9,.sl 3 1 1 0 b b),(30,.int .i64 ((a:Nat):Int)),(31,.int .i64 ((f:Nat):Int))],[(0,.vs [.imm .lent (.ns .u64 c) 1 1 0 a]),(1,.vs [.imm .lent (.ns .u64 d) 1 1 0 e]),(2,.vs [.int .u64 ((g:Nat):Int)]),(3,.ns .u64 h)],4⟩
def vT(c:List Int)(e:Nat)(f:List Int)(g:Nat)(h:Nat)(a:Nat)(b:Nat)(d:List Int) :T ((Nat×(List Int))⊕((Nat×(List Int))⊕(df))) :=
  .ask (decide (((a:Nat):Int)<((e:Nat):Int)))
    (.ask (decide (((a:Nat):Int)<((g:Nat):Int)))
      (.need (gp ((a:Nat):Int) g)<|.need (fF a (List.length f))<|.need (gp ((a:Nat):Int) e)<|.need (fF a (List.length c))<|.need (pT b 1)<|.need (gp ((a:Nat):Int) h)<|.need (fF a (List.length d))<|.leaf (.inl ((((Int.toNat (List.getD c a 0))+(Int.toNat (List.getD f a 0))+b)/18446744073709551616),(List.set d a (((((Int.toNat (List.getD c a 0))+(Int.toNat (List.getD f a 0))+b)%18446744073709551616):Nat):Int)))))
      (.need (gp ((a:Nat):Int) e)<|.need (fF a (List.length c))<|.need (pT b 1)<|.need (gp ((a:Nat):Int) h)<|.need (fF a (List.length d))<|.leaf (.inl ((((Int.toNat (List.getD c a 0))+0+b)/18446744073709551616),(List.set d a (((((Int.toNat (List.getD c a 0))+0+b)%18446744073709551616):Nat):Int))))))
    (.leaf (.inr (.inl (b,d))))
def Mo(a:Nat)(b:Nat)(c:List Int) :T ((Nat×Nat×(List Int))⊕((Nat×(List Int))⊕(df))) :=
  .need (gd .i64 (((a+1):Nat):Int))<|.leaf (.inl ((a+1),b,c))
def oL(b:List Int)(c:Nat)(d:List Int)(e:Nat)(f:Nat) :Nat×Nat×(List Int)→Option ((Nat×Nat×(List Int))⊕((Nat×(List Int))⊕(df))):=fun (a,g,h) =>
  aH ((vT b c d e f a g h).run) fun (i,j) =>
  (Mo a i j).run
theorem Mp(a:List Int)(b:Nat)(d:List Int)(e:Nat)(c:Nat)(f:Nat)(g:Nat)(h:List Int) :Sg prog [] Mn (y8 a b d e c (f,g,h)) (oL a b d e c (f,g,h)) (y8 a b d e c) (fB 0 (Fz a b c) xp):=by
  unfold oL;exact Sg.cut 3 (cD ld) (bM fO (Pq a b d e c f) [⟨[],[0,1,2,3],[2,3,7,8,9,30,31]⟩,⟨[],[0,1,2,3],[2,3,7,8,9,30,31]⟩,⟨[],[0,2,3],[2,7,9]⟩]) (fun ⟨i,j⟩=>bM fO _ [⟨[],[0,1,2,3],[2,3,7,8,9,30,31]⟩])
def Mq:Nat×Nat×Nat×Nat×(List Int)→aG:=fun (a,b,c,d,e)=>⟨an 62 [(4,.sl 0 1 1 a b c),(5,.int .i64 ((d:Nat):Int))],[(0,.ns .u64 e)],1⟩
def vU(b:Nat)(a:Nat)(d:Nat)(c:List Int) :T ((Nat×Nat×Nat×Nat×(List Int))⊕(df)) :=
  .need (gp ((b:Nat):Int) a)<|.need (fF b (List.length c))<|.alt 0
    (.need (oJ (dI (List.set c b ((d:Nat):Int)) 0 a a))<|.leaf (.inl (0,0,0,3,([]:List Int))))
    (.alt 1
      (.need (oK (dI (List.set c b ((d:Nat):Int)) 0 a a))<|.leaf (.inl ((oc (dI (List.set c b ((d:Nat):Int)) 0 a a)),(od (dI (List.set c b ((d:Nat):Int)) 0 a a)),(oe (dI (List.set c b ((d:Nat):Int)) 0 a a)),0,(og (dI (List.set c b ((d:Nat):Int)) 0 a a)))))
      (.fail))
def CP(a:Nat)(b:Nat)(c:Nat)(d:Nat)(e:List Int) :T ((Empty)⊕(df)) :=
  .leaf (.inr (.r0 a b c d e))
def bt(c:List Int)(d:List Int) :Option df:=pm (aH ((CO c d).run) fun (e,f,g,h,i) =>
  aH ((Mm e f g h i).run) fun (j,a,k,l) =>
  aH ((vS a).run) fun (b,m) =>
  aH (dN (oL j a k l b) (0,0,m)) fun (n,o) =>
  aH ((vU a b n o).run) fun (p,q,r,s,t) =>
  (CP p q r s t).run)
theorem Pr(i:Lv)(c:List Int)(j:Lv)(d:List Int){x:df}(h:bt c d=some x) :ai prog w8 [] [.imm i (.ns .u64 c) 1 1 0 (List.length c),.imm j (.ns .u64 d) 1 1 0 (List.length d)] (BJ x) :=
  qH true BJ xp h (Sg.cut 2 ld (bM fO (Pk i j) [⟨[],[0,16],[2,3,6]⟩,⟨[],[0,16],[2,3,6]⟩,⟨[],[0,16],[2,3,6]⟩]) (fun ⟨r,s,t,u,v⟩=>Sg.cut 4 ld (bM fO Pm [⟨[(.slot 4,.own 1 1 (.ns .u64 ([]:List Int)))],[82],[4,5]⟩,⟨[(.cell 0 0,.low),(.cell 1 0,.low)],[0,1],[2,3]⟩,⟨[(.cell 0 0,.low),(.cell 1 0,.low)],[0,1],[2,3]⟩]) (fun ⟨a,b,e,f⟩=>Sg.cut 4 ld (bM fO (Pp a b e f) [⟨[],[0,1,2,114],[2,3,7,8,9,30,31]⟩]) (fun ⟨g,w⟩=>Sg.cut 1 ld (JQ ⟨[],[0,1,2,3],[2,3,7,8,9,30,31]⟩ (y8 a b e f g) (Fz a b g) 0 ld (Pj _) (fun ⟨k,l,m⟩=>Mp a b e f g k l m)) (fun ⟨y,z⟩=>Sg.cut 2 ld (bM fO Mq [⟨[(.slot 4,.own 1 1 (.ns .u64 ([]:List Int)))],[195],[4,5]⟩,⟨[],[2],[4,5]⟩]) (fun ⟨A,B,C,D,E⟩=>bM fO _ [⟨[],[0],[4,5]⟩]))))))
    (fun x=>by cases x with | r0 n o p q F=>exact pn [.sl 0 1 1 n o p,.int .i64 ((q:Nat):Int)])
def qn:Option df→Bool
  | some _=>true
  | none=>false
def ed:Option df→Nat
  | some (.r0 x _ _ _ _)=>x
  | _=>0
def ee:Option df→Nat
  | some (.r0 _ x _ _ _)=>x
  | _=>0
def Ai:Option df→Nat
  | some (.r0 _ _ x _ _)=>x
  | _=>0
def fc:Option df→Nat
  | some (.r0 _ _ _ x _)=>x
  | _=>0
def eg:Option df→List Int
  | some (.r0 _ _ _ _ x)=>x
  | _=>[]
theorem Ps{x:Option df}(h:qn x=true) :x=some (.r0 (ed x) (ee x) (Ai x) (fc x) (eg x)):=by
  unfold qn at h
  split at h<;>first | rfl | (cases h;done) | (rename_i y;cases y;rfl)
def Iu:aK:=cV w8 (.cons (.ns .u64) (.cons (.ns .u64) .nil)) fun t=>(fun q=>[⟨BJ (.r0 (ed q) (ee q) (Ai q) (fc q) (eg q)),[qn q]⟩]) (bt t.1.2 t.2.1.2)
theorem JX:aQ prog Iu:=aX fun t=>(aY (fun h=>Pr t.1.1 t.1.2 t.2.1.1 t.2.1.2 (Ps h)) bE)
def Iv:List aK:=Iu::Fy
theorem jQ:bj prog (bv Iv):=ax JX fO
inductive em where
  | r0 (a:Nat) (b:Nat) (c:Nat) (d:List Int)
def xq:em→AE×aG
  | .r0 a b c d=>(.ret,⟨an 40 [(4,.sl 0 1 1 a b c)],[(0,.ns .u64 d)],1⟩)
theorem qo:mW xq:=by intro x;cases x<;>(intro h;cases h)
theorem Pt(id:Nat) :oV id xq:=by intro x;cases x<;>(intro h;cases h)
def BL:em→jj
  | .r0 a b d c=>⟨.imm .free (.ns .u64 c) 1 1 a b,[]⟩
def Ms:List Code:=dU (pB xa)
def Pu(d:Lv)(a:List Int)(e:Lv)(b:List Int) :Nat×(List Int)→aG:=fun (c,f)=>⟨an 40 [(0,.imm d (.ns .u64 a) 1 1 0 (List.length a)),(1,.imm e (.ns .u64 b) 1 1 0 (List.length b)),(5,.sl 0 1 1 0 c c),(6,.int .u64 (0:Int)),(12,.int .i64 (((List.length a):Nat):Int)),(13,.int .i64 (0:Int))],[(0,.ns .u64 f)],1⟩
def CQ(a:List Int) :T ((Nat×(List Int))⊕(em)) :=
  .need (a6 0 (List.length a) a)<|.need (mX (List.length (aa 0 (List.length a) a)))<|.leaf (.inl ((List.length (aa 0 (List.length a) a)),(aa 0 (List.length a) a)))
def y9(d:Lv)(a:List Int)(e:Lv)(b:List Int)(c:Nat) :Int×Nat×(List Int)→aG:=fun (f,g,h)=>⟨an 40 [(0,.imm d (.ns .u64 a) 1 1 0 (List.length a)),(1,.imm e (.ns .u64 b) 1 1 0 (List.length b)),(5,.sl 0 1 1 0 c c),(6,.int .u64 f),(12,.int .i64 (((List.length a):Nat):Int)),(13,.int .i64 ((g:Nat):Int))],[(0,.ns .u64 h)],1⟩
def FB(a:Nat)(b:(List Int)) :aG:=⟨an 40 [(5,.sl 0 1 1 0 a a)],[(0,.ns .u64 b)],1⟩
def Mt:List Code:=dU (gI ((((Ms.drop 4).take 1)).headD .skip))
def Pv(d:Lv)(a:List Int)(e:Lv)(b:List Int)(c:Nat)(f:Nat) :Int×(List Int)→aG:=fun (g,h)=>⟨an 40 [(0,.imm d (.ns .u64 a) 1 1 0 (List.length a)),(1,.imm e (.ns .u64 b) 1 1 0 (List.length b)),(5,.sl 0 1 1 0 c c),(6,.int .u64 g),(12,.int .i64 (((List.length a):Nat):Int)),(13,.int .i64 ((f:Nat):Int))],[(0,.ns .u64 h)],1⟩
def vV(b:List Int)(d:List Int)(f:Nat)(c:Int)(a:Nat)(e:List Int) :T ((Int×(List Int))⊕(((List Int))⊕(em))) :=
  .ask (decide (((a:Nat):Int)<(((List.length b):Nat):Int)))
    (.ask (decide (((a:Nat):Int)<(((List.length d):Nat):Int)))
      (.need (gp ((a:Nat):Int) (List.length d))<|.need (fF a (List.length d))<|.need (gp ((a:Nat):Int) (List.length b))<|.need (fF a (List.length b))<|.need (pT (Int.toNat c) 1)<|.need (gp ((a:Nat):Int) f)<|.need (fF a (List.length e))<|.leaf (.inl ((bif Nat.blt (Int.toNat (List.getD b a 0)) ((Int.toNat (List.getD d a 0))+(Int.toNat c)) then (1:Int) else (0:Int)),(List.set e a (((((Int.toNat (List.getD b a 0))+18446744073709551616-(Int.toNat (List.getD d a 0))-(Int.toNat c))%18446744073709551616):Nat):Int)))))
      (.need (gp ((a:Nat):Int) (List.length b))<|.need (fF a (List.length b))<|.need (pT (Int.toNat c) 1)<|.need (gp ((a:Nat):Int) f)<|.need (fF a (List.length e))<|.leaf (.inl ((bif Nat.blt (Int.toNat (List.getD b a 0)) (0+(Int.toNat c)) then (1:Int) else (0:Int)),(List.set e a (((((Int.toNat (List.getD b a 0))+18446744073709551616-0-(Int.toNat c))%18446744073709551616):Nat):Int))))))
    (.leaf (.inr (.inl e)))
def Mu(a:Nat)(b:Int)(c:List Int) :T ((Int×Nat×(List Int))⊕(((List Int))⊕(em))) :=
  .need (gd .i64 (((a+1):Nat):Int))<|.leaf (.inl (b,(a+1),c))
def vX(b:List Int)(c:List Int)(d:Nat) :Int×Nat×(List Int)→Option ((Int×Nat×(List Int))⊕(((List Int))⊕(em))):=fun (e,a,f) =>
  aH ((vV b c d e a f).run) fun (g,h) =>
  (Mu a g h).run
theorem Mv(d:Lv)(b:List Int)(e:Lv)(c:List Int)(a:Nat)(g:Int)(f:Nat)(h:List Int) :Sg prog [] Mt (y9 d b e c a (g,f,h)) (vX b c a (g,f,h)) (y9 d b e c a) (fB 0 (FB a) xq):=by
  unfold vX;exact Sg.cut 3 (cD qo) (bM jQ (Pv d b e c a f) [⟨[],[0],[0,1,5,6,12,13]⟩,⟨[],[0],[0,1,5,6,12,13]⟩,⟨[],[0],[5]⟩]) (fun ⟨i,j⟩=>bM jQ _ [⟨[],[0],[0,1,5,6,12,13]⟩])
def Mw:Nat×Nat×Nat×(List Int)→aG:=fun (a,b,c,d)=>⟨an 40 [(4,.sl 0 1 1 a b c)],[(0,.ns .u64 d)],1⟩
def CR(a:Nat)(b:List Int) :T ((Nat×Nat×Nat×(List Int))⊕(em)) :=
  .need (fp (aM b 0 a a))<|.leaf (.inl ((eJ (aM b 0 a a)),(eK (aM b 0 a a)),(eL (aM b 0 a a)),(eN (aM b 0 a a))))
def Mx(a:Nat)(b:Nat)(c:Nat)(d:List Int) :T ((Empty)⊕(em)) :=
  .leaf (.inr (.r0 a b c d))
def nA(a:List Int)(c:List Int) :Option em:=pm (aH ((CQ a).run) fun (b,d) =>
  aH (dN (vX a c b) ((0:Int),0,d)) fun e =>
  aH ((CR b e).run) fun (f,g,h,i) =>
  (Mx f g h i).run)
theorem Px(c:Lv)(a:List Int)(d:Lv)(b:List Int){x:em}(h:nA a b=some x) :ai prog xa [] [.imm c (.ns .u64 a) 1 1 0 (List.length a),.imm d (.ns .u64 b) 1 1 0 (List.length b)] (BL x) :=
  qH true BL xq h (Sg.cut 4 qo (bM jQ (Pu c a d b) [⟨[],[32],[0,1,5,6,12,13]⟩]) (fun ⟨e,m⟩=>Sg.cut 1 qo (JQ ⟨[],[0],[0,1,5,6,12,13]⟩ (y9 c a d b e) (FB e) 0 qo (Pt _) (fun ⟨f,g,i⟩=>Mv c a d b e f g i)) (fun n=>Sg.cut 1 qo (bM jQ Mw [⟨[],[0],[4]⟩]) (fun ⟨o,p,q,r⟩=>bM jQ _ [⟨[],[0],[4]⟩]))))
    (fun x=>by cases x with | r0 j k l s=>exact pn [.sl 0 1 1 j k l])
def tn:Option em→Bool
  | some _=>true
  | none=>false
def tq:Option em→Nat
  | some (.r0 x _ _ _)=>x
  | _=>0
def tr:Option em→Nat
  | some (.r0 _ x _ _)=>x
  | _=>0
def Aj:Option em→Nat
  | some (.r0 _ _ x _)=>x
  | _=>0
def tu:Option em→List Int
  | some (.r0 _ _ _ x)=>x
  | _=>[]
theorem Py{x:Option em}(h:tn x=true) :x=some (.r0 (tq x) (tr x) (Aj x) (tu x)):=by
  unfold tn at h
  split at h<;>first | rfl | (cases h;done) | (rename_i y;cases y;rfl)
def Iw:aK:=cV xa (.cons (.ns .u64) (.cons (.ns .u64) .nil)) fun t=>(fun q=>[⟨BL (.r0 (tq q) (tr q) (Aj q) (tu q)),[tn q]⟩]) (nA t.1.2 t.2.1.2)
theorem JY:aQ prog Iw:=aX fun t=>(aY (fun h=>Px t.1.1 t.1.2 t.2.1.1 t.2.1.2 (Py h)) bE)
def Ix:List aK:=Iw::Iv
theorem l8:bj prog (bv Ix):=ax JY jQ
inductive fC where
  | r0 (a:List Int) (b:Nat) (c:Nat) (d:Nat)
def Iy:fC→AE×aG
  | .r0 a b c d=>(.ret,⟨an 20 [(4,.imm .free (.ns .u64 a) 1 1 b c),(5,.int .i64 ((d:Nat):Int))],[],0⟩)
theorem za:mW Iy:=by intro x;cases x<;>(intro h;cases h)
def BM:fC→jj
  | .r0 a b c d=>⟨.tup [.imm .free (.ns .u64 a) 1 1 b c,.int .i64 ((d:Nat):Int)],[]⟩
def Pz(a:Lv)(b:Lv) :Nat×(List Int)×Nat×(List Int)×Nat→aG:=fun (c,d,e,f,g)=>⟨an 20 [(2,.ptr 0 1 0 0),(3,.ptr 1 1 0 0),(6,.int .i64 ((c:Nat):Int))],[(0,.vs [.imm a (.ns .u64 d) 1 1 0 e]),(1,.vs [.imm b (.ns .u64 f) 1 1 0 g])],2⟩
def FC(a : List Int)(b : List Int) : T ((Nat × (List Int) × Nat × (List Int) × Nat) ⊕ (fC)) :=
  .ask (decide ((0:Int)<(2:Int)))
    (.need (gp (0:Int) 2)<|.need (a6 0 (List.length a) a)<|.need (bz (aj (aa 0 (List.length a) a)))<|.ask (decide ((((ao (aj (aa 0 (List.length a) a))):Nat):Int)>(4096:Int)))
      (.leaf (.inl (2,(aA (aj (aa 0 (List.length a) a))),(ao (aj (aa 0 (List.length a) a))),b,(List.length b))))
      (.need (gd .i64 (1:Int))<|.ask (decide ((1:Int)<(2:Int)))
        (.need (gp (1:Int) 2)<|.need (a6 0 (List.length b) b)<|.need (bz (aj (aa 0 (List.length b) b)))<|.ask (decide ((((ao (aj (aa 0 (List.length b) b))):Nat):Int)>(4096:Int)))
          (.leaf (.inl (2,(aA (aj (aa 0 (List.length a) a))),(ao (aj (aa 0 (List.length a) a))),(aA (aj (aa 0 (List.length b) b))),(ao (aj (aa 0 (List.length b) b))))))
          (.need (gd .i64 (2:Int))<|.ask (decide ((2:Int)<(2:Int)))
            (.fail)
            (.leaf (.inl (0,(aA (aj (aa 0 (List.length a) a))),(ao (aj (aa 0 (List.length a) a))),(aA (aj (aa 0 (List.length b) b))),(ao (aj (aa 0 (List.length b) b))))))))
        (.fail)))
    (.fail)
def PA(a:Lv)(b:Lv)(c:List Int)(d:Nat)(e:List Int)(f:Nat)(g:Bool) :aG:=⟨an 20 [(2,.ptr 0 1 0 0),(3,.ptr 1 1 0 0),(16,.bool false g)],[(0,.vs [.imm a (.ns .u64 c) 1 1 0 d]),(1,.vs [.imm b (.ns .u64 e) 1 1 0 f])],2⟩
def FD(e:Nat)(a:List Int)(b:Nat)(c:List Int)(d:Nat) :T ((Bool)⊕(fC)) :=
  .ask (((e:Nat):Int) != (0:Int))
    (.leaf (.inl true))
    (.need (a6 0 b a)<|.need (a6 0 d c)<|.need (ql (nt (aa 0 b a) (aa 0 d c)))<|.leaf (.inl (decide ((pJ (nt (aa 0 b a) (aa 0 d c)))<(0:Int)))))
def PB:(List Int)×Nat×Nat→aG:=fun (a,b,c)=>⟨an 20 [(4,.imm .free (.ns .u64 a) 1 1 b c),(5,.int .i64 (0:Int))],[],0⟩
def FE(a:List Int)(b:Nat)(c:List Int)(d:Nat)(e:Bool) :T (((List Int)×Nat×Nat)⊕(fC)) :=
  .ask e
    (.leaf (.inr (.r0 ([]:List Int) 0 0 2)))
    (.need (a6 0 b a)<|.need (a6 0 d c)<|.need (tn (nA (aa 0 b a) (aa 0 d c)))<|.leaf (.inl ((tu (nA (aa 0 b a) (aa 0 d c))),(tq (nA (aa 0 b a) (aa 0 d c))),(tr (nA (aa 0 b a) (aa 0 d c))))))
def PC(a:List Int)(b:Nat)(c:Nat) :T ((Empty)⊕(fC)) :=
  .leaf (.inr (.r0 a b c 0))
def aU(e:List Int)(f:List Int) :Option fC:=pm (aH ((FC e f).run) fun (g,a,b,c,d) =>
  aH ((FD g a b c d).run) fun h =>
  aH ((FE a b c d h).run) fun (i,j,k) =>
  (PC i j k).run)
theorem PD(a:Lv)(b:List Int)(c:Lv)(d:List Int){x:fC}(h:aU b d=some x) :ai prog Bw [] [.imm a (.ns .u64 b) 1 1 0 (List.length b),.imm c (.ns .u64 d) 1 1 0 (List.length d)] (BM x) :=
  qH true BM Iy h (Sg.cut 2 za (bM l8 (Pz a c) [⟨[],[0,16],[2,3,6]⟩,⟨[],[0,16],[2,3,6]⟩,⟨[],[0,16],[2,3,6]⟩]) (fun ⟨n,e,f,g,i⟩=>Sg.cut 1 za (bM l8 (PA a c e f g i) [⟨[],[0,1],[2,3,16]⟩,⟨[],[0,1],[2,3,16]⟩]) (fun o=>Sg.cut 2 za (bM l8 PB [⟨[(.slot 4,.fre 1 1 (.ns .u64 ([]:List Int)))],[],[4,5]⟩,⟨[],[],[4,5]⟩]) (fun ⟨p,q,r⟩=>bM l8 _ [⟨[],[],[4,5]⟩]))))
    (fun x=>by cases x with | r0 j k l m=>exact pn [.imm .free (.ns .u64 j) 1 1 k l,.int .i64 ((m:Nat):Int)])
def nC:Option fC→Bool
  | some _=>true
  | none=>false
def dz:Option fC→List Int
  | some (.r0 x _ _ _)=>x
  | _=>[]
def dA:Option fC→Nat
  | some (.r0 _ x _ _)=>x
  | _=>0
def dB:Option fC→Nat
  | some (.r0 _ _ x _)=>x
  | _=>0
def eh:Option fC→Nat
  | some (.r0 _ _ _ x)=>x
  | _=>0
theorem PE{x:Option fC}(h:nC x=true) :x=some (.r0 (dz x) (dA x) (dB x) (eh x)):=by
  unfold nC at h
  split at h<;>first | rfl | (cases h;done) | (rename_i y;cases y;rfl)
def Iz:aK:=cV Bw (.cons (.ns .u64) (.cons (.ns .u64) .nil)) fun t=>(fun q=>[⟨BM (.r0 (dz q) (dA q) (dB q) (eh q)),[nC q]⟩]) (aU t.1.2 t.2.1.2)
theorem JZ:aQ prog Iz:=aX fun t=>(aY (fun h=>PD t.1.1 t.1.2 t.2.1.1 t.2.1.2 (PE h)) bE)
def IA:List aK:=Iz::Ix
theorem l9:bj prog (bv IA):=ax JZ l8
inductive fS where
  | r0 (a:Int) (b:List Int)
def xr:fS→AE×aG
  | .r0 a b=>(.ret,⟨an 52 [(6,.int .u64 a)],[(0,.ns .u64 b)],1⟩)
theorem tw:mW xr:=by intro x;cases x<;>(intro h;cases h)
theorem PF(id:Nat) :oV id xr:=by intro x;cases x<;>(intro h;cases h)
def BN:fS→jj
  | .r0 a b=>⟨.int .u64 a,[some (.ns .u64 b)]⟩
def My:List Code:=dU (pB w9)
def PG(b:List Int)(c:Nat)(d:Nat)(e:Nat)(f:Lv)(a:List Int)(g:Int)(_:Unit) :aG:=⟨an 52 [(0,.sl 0 1 1 c d e),(1,.imm f (.ns .u64 a) 1 1 0 (List.length a)),(2,.int .u64 g),(7,.int .u64 (0:Int)),(13,.int .i64 (((List.length a):Nat):Int)),(14,.int .i64 (0:Int))],[(0,.ns .u64 b)],1⟩
def Mz:T ((Unit)⊕(fS)) :=
  .leaf (.inl ())
def zb(b:Nat)(c:Nat)(d:Nat)(e:Lv)(a:List Int)(f:Int) :Int×Nat×(List Int)→aG:=fun (g,h,i)=>⟨an 52 [(0,.sl 0 1 1 b c d),(1,.imm e (.ns .u64 a) 1 1 0 (List.length a)),(2,.int .u64 f),(7,.int .u64 g),(13,.int .i64 (((List.length a):Nat):Int)),(14,.int .i64 ((h:Nat):Int))],[(0,.ns .u64 i)],1⟩
def FF:Int×(List Int)→aG:=fun (a,b)=>⟨an 52 [(7,.int .u64 a)],[(0,.ns .u64 b)],1⟩
def MA:List Code:=dU (gI ((((My.drop 3).take 1)).headD .skip))
def PH(b:Nat)(c:Nat)(d:Nat)(e:Lv)(a:List Int)(f:Int)(g:Nat) :Int×(List Int)→aG:=fun (h,i)=>⟨an 52 [(0,.sl 0 1 1 b c d),(1,.imm e (.ns .u64 a) 1 1 0 (List.length a)),(2,.int .u64 f),(7,.int .u64 h),(13,.int .i64 (((List.length a):Nat):Int)),(14,.int .i64 ((g:Nat):Int))],[(0,.ns .u64 i)],1⟩
def oM(d:Nat)(g:Nat)(b:List Int)(e:Int)(f:Int)(a:Nat)(c:List Int) :T ((Int×(List Int))⊕((Int×(List Int))⊕(fS))) :=
  .ask (decide (((a:Nat):Int)<(((List.length b):Nat):Int)))
    (.need (gp ((a:Nat):Int) (List.length b))<|.need (fF a (List.length b))<|.need (fY (dq (List.getD b a 0) e))<|.need (pT 0 1)<|.need (gp ((a:Nat):Int) g)<|.need (fF (fu d a) (List.length c))<|.need (pT 0 1)<|.need (gp ((a:Nat):Int) g)<|.need (fF (fu d a) (List.length c))<|.leaf (.inl ((IntKind.u64.wrap ((IntKind.u64.wrap ((gw (dq (List.getD b a 0) e))+(((((Int.toNat (dQ (dq (List.getD b a 0) e)))+(Int.toNat f)+0)/18446744073709551616):Nat):Int)))+(((((Int.toNat (List.getD c (fu d a) 0))+(((Int.toNat (dQ (dq (List.getD b a 0) e)))+(Int.toNat f)+0)%18446744073709551616)+0)/18446744073709551616):Nat):Int))),(List.set c (fu d a) (((((Int.toNat (List.getD c (fu d a) 0))+(((Int.toNat (dQ (dq (List.getD b a 0) e)))+(Int.toNat f)+0)%18446744073709551616)+0)%18446744073709551616):Nat):Int)))))
    (.leaf (.inr (.inl (f,c))))
def MB(a:Nat)(b:Int)(c:List Int) :T ((Int×Nat×(List Int))⊕((Int×(List Int))⊕(fS))) :=
  .need (gd .i64 (((a+1):Nat):Int))<|.leaf (.inl (b,(a+1),c))
def vY(b:Nat)(c:Nat)(d:List Int)(e:Int) :Int×Nat×(List Int)→Option ((Int×Nat×(List Int))⊕((Int×(List Int))⊕(fS))):=fun (f,a,g) =>
  aH ((oM b c d e f a g).run) fun (h,i) =>
  (MB a h i).run
theorem MC(j:List Int)(a:Nat)(b:Nat)(e:Nat)(f:Lv)(c:List Int)(d:Int)(h:Int)(g:Nat)(i:List Int) :Sg prog [.ns .u64 j] MA (zb a b e f c d (h,g,i)) (vY a b c d (h,g,i)) (zb a b e f c d) (fB 0 FF xr):=by
  unfold vY;exact Sg.cut 3 (cD tw) (bM l9 (PH a b e f c d g) [⟨[],[0],[0,1,2,7,13,14]⟩,⟨[],[0],[7]⟩]) (fun ⟨k,l⟩=>bM l9 _ [⟨[],[0],[0,1,2,7,13,14]⟩])
def MD(a:Int)(b:List Int) :T ((Empty)⊕(fS)) :=
  .leaf (.inr (.r0 a b))
def nD(a:List Int)(b:Nat)(c:Nat)(d:List Int)(e:Int) :Option fS:=pm (aH ((Mz).run) fun _ =>
  aH (dN (vY b c d e) ((0:Int),0,a)) fun (f,g) =>
  (MD f g).run)
theorem PI(e:List Int)(b:Nat)(c:Nat)(f:Nat)(g:Lv)(a:List Int)(d:Int){x:fS}(h:nD e b c a d=some x) :ai prog w9 [.ns .u64 e] [.sl 0 1 1 b c f,.imm g (.ns .u64 a) 1 1 0 (List.length a),.int .u64 d] (BN x) :=
  qH false BN xr h (Sg.cut 3 tw (bM l9 (PG e b c f g a d) [⟨[],[0],[0,1,2,7,13,14]⟩]) (fun _=>Sg.cut 1 tw (JQ ⟨[],[0],[0,1,2,7,13,14]⟩ (zb b c f g a d) (FF) 0 tw (PF _) (fun ⟨i,j,k⟩=>MC e b c f g a d i j k)) (fun ⟨m,n⟩=>bM l9 _ [⟨[],[0],[6]⟩])))
    (fun x=>by cases x with | r0 l o=>exact pn [.int .u64 l])
def qr:Option fS→Bool
  | some _=>true
  | none=>false
def pM:Option fS→Int
  | some (.r0 x _)=>x
  | _=>0
def ma:Option fS→List Int
  | some (.r0 _ x)=>x
  | _=>[]
theorem PJ{x:Option fS}(h:qr x=true) :x=some (.r0 (pM x) (ma x)):=by
  unfold qr at h
  split at h<;>first | rfl | (cases h;done) | (rename_i y;cases y;rfl)
def IB:aK:=Ly w9 [.ns .u64] (.cons (.lsl 0) (.cons (.ns .u64) (.cons (.int .u64) .nil))) fun x t=>(fun q=>[⟨BN (.r0 (pM q) (ma q)),[qr q]⟩]) (nD x.1 t.1.1 t.1.2.1 t.2.1.2 t.2.2.1)
theorem J0:aQ prog IB:=EW fun x t=>(w6 (fun h=>PI x.1 t.1.1 t.1.2.1 t.1.2.2 t.2.1.1 t.2.1.2 t.2.2.1 (PJ h)) EX)
def IC:List aK:=IB::IA
theorem gA:bj prog (bv IC):=ax J0 l9
inductive dg where
  | r0 (a:Nat) (b:Nat) (c:Nat) (d:Nat) (e:List Int)
def xt:dg→AE×aG
  | .r0 a b c d e=>(.ret,⟨an 61 [(4,.sl 0 1 1 a b c),(5,.int .i64 ((d:Nat):Int))],[(0,.ns .u64 e)],1⟩)
theorem lf:mW xt:=by intro x;cases x<;>(intro h;cases h)
theorem PK(id:Nat) :oV id xt:=by intro x;cases x<;>(intro h;cases h)
def BO:dg→jj
  | .r0 a b e c d=>⟨.tup [.imm .free (.ns .u64 d) 1 1 a b,.int .i64 ((c:Nat):Int)],[]⟩
def ME:List Code:=dU (pB w7)
def PL(a:Lv)(b:Lv) :Nat×(List Int)×Nat×(List Int)×Nat→aG:=fun (c,d,e,f,g)=>⟨an 61 [(2,.ptr 0 1 0 0),(3,.ptr 1 1 0 0),(6,.int .i64 ((c:Nat):Int))],[(0,.vs [.imm a (.ns .u64 d) 1 1 0 e]),(1,.vs [.imm b (.ns .u64 f) 1 1 0 g])],2⟩
def CS(a : List Int)(b : List Int) : T ((Nat × (List Int) × Nat × (List Int) × Nat) ⊕ (dg)) :=
  .ask (decide ((0:Int)<(2:Int)))
    (.need (gp (0:Int) 2)<|.need (a6 0 (List.length a) a)<|.need (bz (aj (aa 0 (List.length a) a)))<|.ask (decide ((((ao (aj (aa 0 (List.length a) a))):Nat):Int)>(4096:Int)))
      (.leaf (.inl (2,(aA (aj (aa 0 (List.length a) a))),(ao (aj (aa 0 (List.length a) a))),b,(List.length b))))
      (.need (gd .i64 (1:Int))<|.ask (decide ((1:Int)<(2:Int)))
        (.need (gp (1:Int) 2)<|.need (a6 0 (List.length b) b)<|.need (bz (aj (aa 0 (List.length b) b)))<|.ask (decide ((((ao (aj (aa 0 (List.length b) b))):Nat):Int)>(4096:Int)))
          (.leaf (.inl (2,(aA (aj (aa 0 (List.length a) a))),(ao (aj (aa 0 (List.length a) a))),(aA (aj (aa 0 (List.length b) b))),(ao (aj (aa 0 (List.length b) b))))))
          (.need (gd .i64 (2:Int))<|.ask (decide ((2:Int)<(2:Int)))
            (.fail)
            (.leaf (.inl (0,(aA (aj (aa 0 (List.length a) a))),(ao (aj (aa 0 (List.length a) a))),(aA (aj (aa 0 (List.length b) b))),(ao (aj (aa 0 (List.length b) b))))))))
        (.fail)))
    (.fail)
def PM(a:Lv)(b:Lv)(c:List Int)(d:Nat)(e:List Int)(f:Nat)(g:Bool) :aG:=⟨an 61 [(2,.ptr 0 1 0 0),(3,.ptr 1 1 0 0),(29,.bool false g)],[(0,.vs [.imm a (.ns .u64 c) 1 1 0 d]),(1,.vs [.imm b (.ns .u64 e) 1 1 0 f])],2⟩
def MF(c:Nat)(a:Nat)(b:Nat) :T ((Bool)⊕(dg)) :=
  .ask (((c:Nat):Int) != (0:Int))
    (.leaf (.inr (.r0 0 0 0 c ([]:List Int))))
    (.need (gd .i64 (((a+b):Nat):Int))<|.ask (decide ((((a+b):Nat):Int)>(4097:Int)))
      (.ask (decide (((a:Nat):Int)>(0:Int)))
        (.leaf (.inl (decide (((b:Nat):Int)>(0:Int)))))
        (.leaf (.inl false)))
      (.leaf (.inl false)))
def PN(c:Lv)(d:Lv)(e:List Int)(f:Nat)(g:List Int)(a:Nat) :Nat×(List Int)→aG:=fun (b,h)=>⟨an 61 [(2,.ptr 0 1 0 0),(3,.ptr 1 1 0 0),(7,.sl 2 1 1 0 b b),(37,.int .i64 ((a:Nat):Int)),(38,.int .i64 (0:Int))],[(0,.vs [.imm c (.ns .u64 e) 1 1 0 f]),(1,.vs [.imm d (.ns .u64 g) 1 1 0 a]),(2,.ns .u64 h)],3⟩
def CT(a:Nat)(b:Nat)(c:Bool) :T ((Nat×(List Int))⊕(dg)) :=
  .ask c
    (.leaf (.inr (.r0 0 0 0 3 ([]:List Int))))
    (.need (gd .i64 (((a+b):Nat):Int))<|.need (decide ((0:Int)≤(((a+b):Nat):Int)))<|.need (decide ((((a+b):Nat):Int)≤(((a+b):Nat):Int)))<|.need (decide ((8:Int)*(((a+b):Nat):Int)≤140737488355328))<|.need (gd .i64 (((a+b):Nat):Int))<|.leaf (.inl ((a+b),(List.replicate (a+b) (0:Int)))))
def zc(c:Lv)(d:Lv)(e:List Int)(f:Nat)(g:List Int)(a:Nat)(b:Nat) :Nat×(List Int)→aG:=fun (h,i)=>⟨an 61 [(2,.ptr 0 1 0 0),(3,.ptr 1 1 0 0),(7,.sl 2 1 1 0 b b),(37,.int .i64 ((a:Nat):Int)),(38,.int .i64 ((h:Nat):Int))],[(0,.vs [.imm c (.ns .u64 e) 1 1 0 f]),(1,.vs [.imm d (.ns .u64 g) 1 1 0 a]),(2,.ns .u64 i)],3⟩
def FG(a:Nat)(b:(List Int)) :aG:=⟨an 61 [(7,.sl 0 1 1 0 a a)],[(0,.ns .u64 b)],1⟩
def MG:List Code:=dU (gI ((((((ME.drop 2).drop 3).drop 3).take 1)).headD .skip))
def PO(c:Lv)(d:Lv)(e:List Int)(f:Nat)(g:List Int)(a:Nat)(b:Nat)(h:Nat)(i:(List Int)) :aG:=⟨an 61 [(2,.ptr 0 1 0 0),(3,.ptr 1 1 0 0),(7,.sl 2 1 1 0 b b),(37,.int .i64 ((a:Nat):Int)),(38,.int .i64 ((h:Nat):Int))],[(0,.vs [.imm c (.ns .u64 e) 1 1 0 f]),(1,.vs [.imm d (.ns .u64 g) 1 1 0 a]),(2,.ns .u64 i)],3⟩
def vZ(d:List Int)(b:Nat)(e:List Int)(g:Nat)(c:Nat)(a:Nat)(f:List Int) :T (((List Int))⊕(((List Int))⊕(dg))) :=
  .ask (decide (((a:Nat):Int)<((g:Nat):Int)))
    (.need (gd .i64 (((a+b):Nat):Int))<|.need (vj ((c:Nat):Int) c)<|.need (vj ((a:Nat):Int) c)<|.need (gp ((a:Nat):Int) g)<|.need (fF a (List.length e))<|.need (a6 0 b d)<|.need (qr (nD f a (c-a) (aa 0 b d) (List.getD e a 0)))<|.need (gp (((a+b):Nat):Int) c)<|.need (fF (a+b) (List.length (ma (nD f a (c-a) (aa 0 b d) (List.getD e a 0)))))<|.leaf (.inl (List.set (ma (nD f a (c-a) (aa 0 b d) (List.getD e a 0))) (a+b) (pM (nD f a (c-a) (aa 0 b d) (List.getD e a 0))))))
    (.leaf (.inr (.inl f)))
def MH(a:Nat)(b:List Int) :T ((Nat×(List Int))⊕(((List Int))⊕(dg))) :=
  .need (gd .i64 (((a+1):Nat):Int))<|.leaf (.inl ((a+1),b))
def v4(b:List Int)(c:Nat)(d:List Int)(e:Nat)(f:Nat) :Nat×(List Int)→Option ((Nat×(List Int))⊕(((List Int))⊕(dg))):=fun (a,g) =>
  aH ((vZ b c d e f a g).run) fun h =>
  (MH a h).run
theorem MI(f:Lv)(g:Lv)(b:List Int)(c:Nat)(d:List Int)(e:Nat)(a:Nat)(h:Nat)(i:List Int) :Sg prog [] MG (zc f g b c d e a (h,i)) (v4 b c d e a (h,i)) (zc f g b c d e a) (fB 0 (FG a) xt):=by
  unfold v4;exact Sg.cut 3 (cD lf) (bM gA (PO f g b c d e a h) [⟨[],[0,1,2],[2,3,7,37,38]⟩,⟨[],[2],[7]⟩]) (fun j=>bM gA _ [⟨[],[0,1,2],[2,3,7,37,38]⟩])
def MJ:Nat×Nat×Nat×Nat×(List Int)→aG:=fun (a,b,c,d,e)=>⟨an 61 [(4,.sl 0 1 1 a b c),(5,.int .i64 ((d:Nat):Int))],[(0,.ns .u64 e)],1⟩
def CU(a:Nat)(b:List Int) :T ((Nat×Nat×Nat×Nat×(List Int))⊕(dg)) :=
  .alt 0
    (.need (oJ (dI b 0 a a))<|.leaf (.inl (0,0,0,3,([]:List Int))))
    (.alt 1
      (.need (oK (dI b 0 a a))<|.leaf (.inl ((oc (dI b 0 a a)),(od (dI b 0 a a)),(oe (dI b 0 a a)),0,(og (dI b 0 a a)))))
      (.fail))
def MK(a:Nat)(b:Nat)(c:Nat)(d:Nat)(e:List Int) :T ((Empty)⊕(dg)) :=
  .leaf (.inr (.r0 a b c d e))
def lB(d:List Int)(e:List Int) :Option dg:=pm (aH ((CS d e).run) fun (f,g,a,h,b) =>
  aH ((MF f a b).run) fun i =>
  aH ((CT a b i).run) fun (c,j) =>
  aH (dN (v4 g a h b c) (0,j)) fun k =>
  aH ((CU c k).run) fun (l,m,n,o,p) =>
  (MK l m n o p).run)
theorem PQ(a:Lv)(g:List Int)(b:Lv)(i:List Int){x:dg}(h:lB g i=some x) :ai prog w7 [] [.imm a (.ns .u64 g) 1 1 0 (List.length g),.imm b (.ns .u64 i) 1 1 0 (List.length i)] (BO x) :=
  qH true BO xt h (Sg.cut 2 lf (bM gA (PL a b) [⟨[],[0,16],[2,3,6]⟩,⟨[],[0,16],[2,3,6]⟩,⟨[],[0,16],[2,3,6]⟩]) (fun ⟨q,c,d,e,f⟩=>Sg.cut 3 lf (bM gA (PM a b c d e f) [⟨[(.slot 4,.own 1 1 (.ns .u64 ([]:List Int)))],[82],[4,5]⟩,⟨[],[0,1],[2,3,29]⟩,⟨[],[0,1],[2,3,29]⟩,⟨[],[0,1],[2,3,29]⟩]) (fun r=>Sg.cut 3 lf (bM gA (PN a b c d e f) [⟨[(.slot 4,.own 1 1 (.ns .u64 ([]:List Int)))],[34],[4,5]⟩,⟨[],[0,1,82],[2,3,7,37,38]⟩]) (fun ⟨j,s⟩=>Sg.cut 1 lf (JQ ⟨[],[0,1,2],[2,3,7,37,38]⟩ (zc a b c d e f j) (FG j) 0 lf (PK _) (fun ⟨k,l⟩=>MI a b c d e f j k l)) (fun t=>Sg.cut 1 lf (bM gA MJ [⟨[(.slot 4,.own 1 1 (.ns .u64 ([]:List Int)))],[97],[4,5]⟩,⟨[],[0],[4,5]⟩]) (fun ⟨u,v,w,y,z⟩=>bM gA _ [⟨[],[0],[4,5]⟩]))))))
    (fun x=>by cases x with | r0 m n o p A=>exact pn [.sl 0 1 1 m n o,.int .i64 ((p:Nat):Int)])
def tx:Option dg→Bool
  | some _=>true
  | none=>false
def tA:Option dg→Nat
  | some (.r0 x _ _ _ _)=>x
  | _=>0
def tB:Option dg→Nat
  | some (.r0 _ x _ _ _)=>x
  | _=>0
def Ak:Option dg→Nat
  | some (.r0 _ _ x _ _)=>x
  | _=>0
def tC:Option dg→Nat
  | some (.r0 _ _ _ x _)=>x
  | _=>0
def tD:Option dg→List Int
  | some (.r0 _ _ _ _ x)=>x
  | _=>[]
theorem PR{x:Option dg}(h:tx x=true) :x=some (.r0 (tA x) (tB x) (Ak x) (tC x) (tD x)):=by
  unfold tx at h
  split at h<;>first | rfl | (cases h;done) | (rename_i y;cases y;rfl)
def ID:aK:=cV w7 (.cons (.ns .u64) (.cons (.ns .u64) .nil)) fun t=>(fun q=>[⟨BO (.r0 (tA q) (tB q) (Ak q) (tC q) (tD q)),[tx q]⟩]) (lB t.1.2 t.2.1.2)
theorem J1:aQ prog ID:=aX fun t=>(aY (fun h=>PQ t.1.1 t.1.2 t.2.1.1 t.2.1.2 (PR h)) bE)
def IE:List aK:=ID::IC
theorem jR:bj prog (bv IE):=ax J1 gA
inductive er where
  | r0 (a:Nat) (b:Nat) (c:Nat) (d:List Int)
def xu:er→AE×aG
  | .r0 a b c d=>(.ret,⟨an 59 [(4,.sl 0 1 1 a b c)],[(0,.ns .u64 d)],1⟩)
theorem qt:mW xu:=by intro x;cases x<;>(intro h;cases h)
theorem PS(id:Nat) :oV id xu:=by intro x;cases x<;>(intro h;cases h)
def BP:er→jj
  | .r0 a b d c=>⟨.imm .free (.ns .u64 c) 1 1 a b,[]⟩
def PT:List Code:=dU (pB xd)
def PU(c:Lv)(a:List Int) :Int×Int×Nat×(List Int)→aG:=fun (d,r2,b,e)=>⟨an 59 [(0,.imm c (.ns .u64 a) 1 1 0 (List.length a)),(5,.int .i64 d),(6,.int .u64 r2),(7,.sl 0 1 1 0 b b),(24,.int .i64 (((List.length a):Nat):Int)),(25,.int .i64 (0:Int))],[(0,.ns .u64 e)],1⟩
def CV(b:List Int)(a:Int) :T ((Int×Int×Nat×(List Int))⊕(er)) :=
  .ask ((((List.length b):Nat):Int)==(0:Int))
    (.leaf (.inr (.r0 0 0 0 ([]:List Int))))
    (.need ((64:Int) != (0:Int))<|.need (gd .i64 (Int.tdiv a (64:Int)))<|.need ((64:Int) != (0:Int))<|.need (gd .i64 ((((List.length b):Nat):Int)+(Int.tdiv a (64:Int))))<|.need (gd .i64 (((((List.length b):Nat):Int)+(Int.tdiv a (64:Int)))+(1:Int)))<|.need (decide ((0:Int)≤(((((List.length b):Nat):Int)+(Int.tdiv a (64:Int)))+(1:Int))))<|.need (decide ((((((List.length b):Nat):Int)+(Int.tdiv a (64:Int)))+(1:Int))≤(((((List.length b):Nat):Int)+(Int.tdiv a (64:Int)))+(1:Int))))<|.need (decide ((8:Int)*(((((List.length b):Nat):Int)+(Int.tdiv a (64:Int)))+(1:Int))≤140737488355328))<|.need (gd .i64 (((((List.length b):Nat):Int)+(Int.tdiv a (64:Int)))+(1:Int)))<|.leaf (.inl ((Int.tdiv a (64:Int)),(IntKind.u64.wrap (Int.tmod a (64:Int))),(Int.toNat (((((List.length b):Nat):Int)+(Int.tdiv a (64:Int)))+(1:Int))),(List.replicate (Int.toNat (((((List.length b):Nat):Int)+(Int.tdiv a (64:Int)))+(1:Int))) (0:Int)))))
def zd(c:Lv)(a:List Int)(d:Int)(r2:Int)(b:Nat) :Nat×(List Int)→aG:=fun (e,f)=>⟨an 59 [(0,.imm c (.ns .u64 a) 1 1 0 (List.length a)),(5,.int .i64 d),(6,.int .u64 r2),(7,.sl 0 1 1 0 b b),(24,.int .i64 (((List.length a):Nat):Int)),(25,.int .i64 ((e:Nat):Int))],[(0,.ns .u64 f)],1⟩
def FH(a:Nat)(b:(List Int)) :aG:=⟨an 59 [(7,.sl 0 1 1 0 a a)],[(0,.ns .u64 b)],1⟩
def ML:List Code:=dU (gI ((((PT.drop 6).take 1)).headD .skip))
def PV(c:Lv)(a:List Int)(d:Int)(r2:Int)(b:Nat)(e:Nat)(f:(List Int)) :aG:=⟨an 59 [(0,.imm c (.ns .u64 a) 1 1 0 (List.length a)),(5,.int .i64 d),(6,.int .u64 r2),(7,.sl 0 1 1 0 b b),(24,.int .i64 (((List.length a):Nat):Int)),(25,.int .i64 ((e:Nat):Int))],[(0,.ns .u64 f)],1⟩
def ri(c:List Int)(b:Int)(r2:Int)(e:Nat)(a:Nat)(d:List Int) :T (((List Int))⊕(((List Int))⊕(er))) :=
  .ask (decide (((a:Nat):Int)<(((List.length c):Nat):Int)))
    (.need (gd .i64 (((a:Nat):Int)+b))<|.need (gp (((a:Nat):Int)+b) e)<|.need (fF (Int.toNat (((a:Nat):Int)+b)) (List.length d))<|.need (gp ((a:Nat):Int) (List.length c))<|.need (fF a (List.length c))<|.need (decide ((0:Int)≤r2))<|.need (gp (((a:Nat):Int)+b) e)<|.need (fF (Int.toNat (((a:Nat):Int)+b)) (List.length d))<|.need (gd .i64 (((a:Nat):Int)+b))<|.need (gd .i64 ((((a:Nat):Int)+b)+(1:Int)))<|.need (gp ((a:Nat):Int) (List.length c))<|.need (fF a (List.length c))<|.need (decide ((0:Int)≤(1:Int)))<|.need (decide ((0:Int)≤(IntKind.u64.wrap ((63:Int)-r2))))<|.need (gp ((((a:Nat):Int)+b)+(1:Int)) e)<|.need (fF (Int.toNat ((((a:Nat):Int)+b)+(1:Int))) (List.length (List.set d (Int.toNat (((a:Nat):Int)+b)) (cA .or .u64 (List.getD d (Int.toNat (((a:Nat):Int)+b)) 0) (IntKind.u64.wrap ((List.getD c a 0)*2^(min (Int.toNat r2) (IntKind.u64.bits))))))))<|.leaf (.inl (List.set (List.set d (Int.toNat (((a:Nat):Int)+b)) (cA .or .u64 (List.getD d (Int.toNat (((a:Nat):Int)+b)) 0) (IntKind.u64.wrap ((List.getD c a 0)*2^(min (Int.toNat r2) (IntKind.u64.bits)))))) (Int.toNat ((((a:Nat):Int)+b)+(1:Int))) (Int.fdiv (Int.fdiv (List.getD c a 0) (2^(min (Int.toNat (1:Int)) (IntKind.u64.bits)))) (2^(min (Int.toNat (IntKind.u64.wrap ((63:Int)-r2))) (IntKind.u64.bits)))))))
    (.leaf (.inr (.inl d)))
def MM(a:Nat)(b:List Int) :T ((Nat×(List Int))⊕(((List Int))⊕(er))) :=
  .need (gd .i64 (((a+1):Nat):Int))<|.leaf (.inl ((a+1),b))
def v5(b:List Int)(c:Int)(r2:Int)(d:Nat) :Nat×(List Int)→Option ((Nat×(List Int))⊕(((List Int))⊕(er))):=fun (a,e) =>
  aH ((ri b c r2 d a e).run) fun f =>
  (MM a f).run
theorem MN(d:Lv)(b:List Int)(c:Int)(r2:Int)(a:Nat)(e:Nat)(f:List Int) :Sg prog [] ML (zd d b c r2 a (e,f)) (v5 b c r2 a (e,f)) (zd d b c r2 a) (fB 0 (FH a) xu):=by
  unfold v5;exact Sg.cut 3 (cD qt) (bM jR (PV d b c r2 a e) [⟨[],[0],[0,5,6,7,24,25]⟩,⟨[],[0],[7]⟩]) (fun g=>bM jR _ [⟨[],[0],[0,5,6,7,24,25]⟩])
def PW:Nat×Nat×Nat×(List Int)→aG:=fun (a,b,c,d)=>⟨an 59 [(4,.sl 0 1 1 a b c)],[(0,.ns .u64 d)],1⟩
def CW(a:Nat)(b:List Int) :T ((Nat×Nat×Nat×(List Int))⊕(er)) :=
  .need (fp (aM b 0 a a))<|.leaf (.inl ((eJ (aM b 0 a a)),(eK (aM b 0 a a)),(eL (aM b 0 a a)),(eN (aM b 0 a a))))
def MO(a:Nat)(b:Nat)(c:Nat)(d:List Int) :T ((Empty)⊕(er)) :=
  .leaf (.inr (.r0 a b c d))
def dh(a:List Int)(c:Int) :Option er:=pm (aH ((CV a c).run) fun (d,r2,b,e) =>
  aH (dN (v5 a d r2 b) (0,e)) fun f =>
  aH ((CW b f).run) fun (g,h,i,j) =>
  (MO g h i j).run)
theorem PX(b:Lv)(a:List Int)(d:Int){x:er}(h:dh a d=some x) :ai prog xd [] [.imm b (.ns .u64 a) 1 1 0 (List.length a),.int .i64 d] (BP x) :=
  qH true BP xu h (Sg.cut 6 qt (bM jR (PU b a) [⟨[(.slot 4,.own 1 1 (.ns .u64 ([]:List Int)))],[80],[4]⟩,⟨[],[256],[0,5,6,7,24,25]⟩]) (fun ⟨e,r2,c,l⟩=>Sg.cut 1 qt (JQ ⟨[],[0],[0,5,6,7,24,25]⟩ (zd b a e r2 c) (FH c) 0 qt (PS _) (fun ⟨f,g⟩=>MN b a e r2 c f g)) (fun m=>Sg.cut 1 qt (bM jR PW [⟨[],[0],[4]⟩]) (fun ⟨n,o,p,q⟩=>bM jR _ [⟨[],[0],[4]⟩]))))
    (fun x=>by cases x with | r0 i j k r=>exact pn [.sl 0 1 1 i j k])
def qu:Option er→Bool
  | some _=>true
  | none=>false
def gC:Option er→Nat
  | some (.r0 x _ _ _)=>x
  | _=>0
def gD:Option er→Nat
  | some (.r0 _ x _ _)=>x
  | _=>0
def Al:Option er→Nat
  | some (.r0 _ _ x _)=>x
  | _=>0
def gE:Option er→List Int
  | some (.r0 _ _ _ x)=>x
  | _=>[]
theorem PY{x:Option er}(h:qu x=true) :x=some (.r0 (gC x) (gD x) (Al x) (gE x)):=by
  unfold qu at h
  split at h<;>first | rfl | (cases h;done) | (rename_i y;cases y;rfl)
def IF:aK:=cV xd (.cons (.ns .u64) (.cons (.int .i64) .nil)) fun t=>(fun q=>[⟨BP (.r0 (gC q) (gD q) (Al q) (gE q)),[qu q]⟩]) (dh t.1.2 t.2.1)
theorem J2:aQ prog IF:=aX fun t=>(aY (fun h=>PX t.1.1 t.1.2 t.2.1 (PY h)) bE)
def IG:List aK:=IF::IE
theorem tE:bj prog (bv IG):=ax J2 jR
inductive du where
  | r0 (a:List Int) (b:Nat) (c:Nat)
def x4(a:Lv) :du→AE×aG
  | .r0 b c d=>(.ret,⟨an 10 [(2,.imm a (.ns .u64 b) 1 1 0 c),(3,.int .i64 ((d:Nat):Int))],[],0⟩)
theorem FI{a:Lv} :mW (x4 a):=by intro x;cases x<;>(intro h;cases h)
def rO(a:Lv) :du→jj
  | .r0 b c d=>⟨.tup [.imm a (.ns .u64 b) 1 1 0 c,.int .i64 ((d:Nat):Int)],[]⟩
def FJ(a:Lv) :(List Int)×Nat→aG:=fun (b,c)=>⟨an 10 [(0,.imm a (.ns .u64 b) 1 1 0 c)],[],0⟩
def v6(a:List Int) :T (((List Int)×Nat)⊕(du)) :=
  .need (a6 0 (List.length a) a)<|.need (bz (aj (aa 0 (List.length a) a)))<|.leaf (.inl ((aA (aj (aa 0 (List.length a) a))),(ao (aj (aa 0 (List.length a) a)))))
def FK(b:List Int)(a:Nat) :T ((Empty)⊕(du)) :=
  .ask (decide (((a:Nat):Int)>(4096:Int)))
    (.leaf (.inr (.r0 ([]:List Int) 0 3)))
    (.leaf (.inr (.r0 b a 0)))
def gJ(a:List Int) :Option du:=pm (aH ((v6 a).run) fun (b,c) =>
  (FK b c).run)
theorem FL(a:Lv)(b:List Int){x:du}(h:gJ b=some x) :ai prog qg [] [.imm a (.ns .u64 b) 1 1 0 (List.length b)] (rO a x) :=
  qH false (rO a) (x4 a) h (Sg.cut 2 FI (bM tE (FJ a) [⟨[],[],[0]⟩]) (fun ⟨f,g⟩=>bM tE _ [⟨[(.slot 2,.fre 1 1 (.ns .u64 ([]:List Int))),(.slot 2,.lev a)],[],[2,3]⟩,⟨[],[],[2,3]⟩]))
    (fun x=>by cases x with | r0 c d e=>exact pn [.imm a (.ns .u64 c) 1 1 0 d,.int .i64 ((e:Nat):Int)])
def mc:Option du→Bool
  | some _=>true
  | none=>false
def nF:Option du→List Int
  | some (.r0 x _ _)=>x
  | _=>[]
def nG:Option du→Nat
  | some (.r0 _ x _)=>x
  | _=>0
def nH:Option du→Nat
  | some (.r0 _ _ x)=>x
  | _=>0
theorem FM{x:Option du}(h:mc x=true) :x=some (.r0 (nF x) (nG x) (nH x)):=by
  unfold mc at h
  split at h<;>first | rfl | (cases h;done) | (rename_i y;cases y;rfl)
def x5:aK:=cV qg (.cons (.ns .u64) .nil) fun t=>(fun q=>[⟨rO t.1.1 (.r0 (nF q) (nG q) (nH q)),[mc q]⟩]) (gJ t.1.2)
theorem BQ:aQ prog x5:=aX fun t=>(aY (fun h=>FL t.1.1 t.1.2 (FM h)) bE)
def x6:List aK:=x5::IG
theorem gS:bj prog (bv x6):=ax BQ tE
inductive fT where
  | r0 (a:List Int) (b:Nat) (c:Nat)
def IH:fT→AE×aG
  | .r0 a b c=>(.ret,⟨an 30 [(4,.imm .free (.ns .u64 a) 1 1 0 b),(5,.int .i64 ((c:Nat):Int))],[],0⟩)
theorem ze:mW IH:=by intro x;cases x<;>(intro h;cases h)
def BS:fT→jj
  | .r0 a b c=>⟨.tup [.imm .free (.ns .u64 a) 1 1 0 b,.int .i64 ((c:Nat):Int)],[]⟩
def PZ(a:Lv)(b:Int) :Nat×(List Int)×Nat→aG:=fun (c,d,e)=>⟨an 30 [(1,.int .i64 b),(2,.ptr 0 1 0 0),(6,.int .i64 ((c:Nat):Int))],[(0,.vs [.imm a (.ns .u64 d) 1 1 0 e])],1⟩
def FO(a:List Int) :T ((Nat×(List Int)×Nat)⊕(fT)) :=
  .ask (decide ((0:Int)<(1:Int)))
    (.need (gp (0:Int) 1)<|.need (a6 0 (List.length a) a)<|.need (bz (aj (aa 0 (List.length a) a)))<|.ask (decide ((((ao (aj (aa 0 (List.length a) a))):Nat):Int)>(4096:Int)))
      (.leaf (.inl (2,(aA (aj (aa 0 (List.length a) a))),(ao (aj (aa 0 (List.length a) a))))))
      (.need (gd .i64 (1:Int))<|.ask (decide ((1:Int)<(1:Int)))
        (.fail)
        (.leaf (.inl (0,(aA (aj (aa 0 (List.length a) a))),(ao (aj (aa 0 (List.length a) a))))))))
    (.fail)
def P0(a:Lv)(b:Int)(c:List Int)(d:Nat)(_:Unit) :aG:=⟨an 30 [(1,.int .i64 b),(2,.ptr 0 1 0 0)],[(0,.vs [.imm a (.ns .u64 c) 1 1 0 d])],1⟩
def P3(a:Int)(b:Nat)(c:Nat) :T ((Unit)⊕(fT)) :=
  .ask (((b:Nat):Int) != (0:Int))
    (.leaf (.inr (.r0 ([]:List Int) 0 2)))
    (.ask (decide (a<(0:Int)))
      (.leaf (.inr (.r0 ([]:List Int) 0 2)))
      (.ask (decide (((c:Nat):Int)>(0:Int)))
        (.ask (decide (a≥(262144:Int)))
          (.leaf (.inr (.r0 ([]:List Int) 0 3)))
          (.leaf (.inl ())))
        (.leaf (.inl ()))))
def P4:(List Int)×Nat×Nat→aG:=fun (a,b,c)=>⟨an 30 [(4,.imm .free (.ns .u64 a) 1 1 0 b),(5,.int .i64 ((c:Nat):Int))],[],0⟩
def zf(c:Int)(a:List Int)(b:Nat) :T (((List Int)×Nat×Nat)⊕(fT)) :=
  .need (a6 0 b a)<|.need (qu (dh (aa 0 b a) c))<|.need (a6 (gC (dh (aa 0 b a) c)) (gD (dh (aa 0 b a) c)) (gE (dh (aa 0 b a) c)))<|.need (mc (gJ (aa (gC (dh (aa 0 b a) c)) (gD (dh (aa 0 b a) c)) (gE (dh (aa 0 b a) c)))))<|.leaf (.inl ((nF (gJ (aa (gC (dh (aa 0 b a) c)) (gD (dh (aa 0 b a) c)) (gE (dh (aa 0 b a) c))))),(nG (gJ (aa (gC (dh (aa 0 b a) c)) (gD (dh (aa 0 b a) c)) (gE (dh (aa 0 b a) c))))),(nH (gJ (aa (gC (dh (aa 0 b a) c)) (gD (dh (aa 0 b a) c)) (gE (dh (aa 0 b a) c)))))))
def P5(a:List Int)(b:Nat)(c:Nat) :T ((Empty)⊕(fT)) :=
  .leaf (.inr (.r0 a b c))
def eO(c:List Int)(a:Int) :Option fT:=pm (aH ((FO c).run) fun (d,e,b) =>
  aH ((P3 a d b).run) fun _ =>
  aH ((zf a e b).run) fun (f,g,h) =>
  (P5 f g h).run)
theorem P6(b:Lv)(c:List Int)(a:Int){x:fT}(h:eO c a=some x) :ai prog Bz [] [.imm b (.ns .u64 c) 1 1 0 (List.length c),.int .i64 a] (BS x) :=
  qH true BS IH h (Sg.cut 2 ze (bM gS (PZ b a) [⟨[],[0],[1,2,6]⟩,⟨[],[0],[1,2,6]⟩]) (fun ⟨j,d,e⟩=>Sg.cut 1 ze (bM gS (P0 b a d e) [⟨[(.slot 4,.fre 1 1 (.ns .u64 ([]:List Int)))],[],[4,5]⟩,⟨[(.slot 4,.fre 1 1 (.ns .u64 ([]:List Int)))],[],[4,5]⟩,⟨[(.slot 4,.fre 1 1 (.ns .u64 ([]:List Int)))],[],[4,5]⟩,⟨[],[0],[1,2]⟩,⟨[],[0],[1,2]⟩]) (fun _=>Sg.cut 1 ze (bM gS P4 [⟨[],[],[4,5]⟩]) (fun ⟨k,l,m⟩=>bM gS _ [⟨[],[],[4,5]⟩]))))
    (fun x=>by cases x with | r0 f g i=>exact pn [.imm .free (.ns .u64 f) 1 1 0 g,.int .i64 ((i:Nat):Int)])
def nI:Option fT→Bool
  | some _=>true
  | none=>false
def jS:Option fT→List Int
  | some (.r0 x _ _)=>x
  | _=>[]
def jT:Option fT→Nat
  | some (.r0 _ x _)=>x
  | _=>0
def Am:Option fT→Nat
  | some (.r0 _ _ x)=>x
  | _=>0
theorem P7{x:Option fT}(h:nI x=true) :x=some (.r0 (jS x) (jT x) (Am x)):=by
  unfold nI at h
  split at h<;>first | rfl | (cases h;done) | (rename_i y;cases y;rfl)
def II:aK:=cV Bz (.cons (.ns .u64) (.cons (.int .i64) .nil)) fun t=>(fun q=>[⟨BS (.r0 (jS q) (jT q) (Am q)),[nI q]⟩]) (eO t.1.2 t.2.1)
theorem J3:aQ prog II:=aX fun t=>(aY (fun h=>P6 t.1.1 t.1.2 t.2.1 (P7 h)) bE)
def IJ:List aK:=II::x6
theorem fL:bj prog (bv IJ):=ax J3 gS
inductive cK where
  | r0 (a:Nat) (b:Nat) (c:Nat) (d:Bool) (e:List Int)
def sx:cK→AE×aG
  | .r0 a b c d e=>(.ret,⟨an 97 [(4,.sl 0 1 1 a b c),(5,.bool false d)],[(0,.ns .u64 e)],1⟩)
theorem il:mW sx:=by intro x;cases x<;>(intro h;cases h)
theorem FP(id:Nat) :oV id sx:=by intro x;cases x<;>(intro h;cases h)
def BT:cK→jj
  | .r0 a b e c d=>⟨.tup [.imm .free (.ns .u64 d) 1 1 a b,.bool false c],[]⟩
def CX:List Code:=dU (pB xc)
def P8(b:Lv)(a:List Int) :Int×Int×Bool×Nat×Nat→aG:=fun (c,r2,d,e,f)=>⟨an 97 [(0,.imm b (.ns .u64 a) 1 1 0 (List.length a)),(6,.int .i64 c),(7,.int .u64 r2),(8,.bool false d),(36,.imm b (.ns .u64 a) 1 1 0 e),(37,.int .i64 ((f:Nat):Int)),(38,.int .i64 (0:Int))],[],0⟩
def v7(b:List Int)(a:Int) :T ((Int×Int×Bool×Nat×Nat)⊕(cK)) :=
  .need ((64:Int) != (0:Int))<|.need (gd .i64 (Int.tdiv a (64:Int)))<|.need ((64:Int) != (0:Int))<|.ask (decide ((Int.tdiv a (64:Int))≥(((List.length b):Nat):Int)))
    (.leaf (.inr (.r0 0 0 0 (decide ((((List.length b):Nat):Int)>(0:Int))) ([]:List Int))))
    (.need (gp (Int.tdiv a (64:Int)) (List.length b))<|.need (fF (Int.toNat (Int.tdiv a (64:Int))) (List.length b))<|.need (decide ((0:Int)≤(IntKind.u64.wrap (Int.tmod a (64:Int)))))<|.need (vj (Int.tdiv a (64:Int)) (List.length b))<|.need (vj (0:Int) (Int.toNat (Int.tdiv a (64:Int))))<|.leaf (.inl ((Int.tdiv a (64:Int)),(IntKind.u64.wrap (Int.tmod a (64:Int))),((cA .and .u64 (List.getD b (Int.toNat (Int.tdiv a (64:Int))) 0) (IntKind.u64.wrap ((IntKind.u64.wrap ((1:Int)*2^(min (Int.toNat (IntKind.u64.wrap (Int.tmod a (64:Int)))) (IntKind.u64.bits))))-(1:Int)))) != (0:Int)),(Int.toNat (Int.tdiv a (64:Int))),(Int.toNat (Int.tdiv a (64:Int))))))
def zg(b:Lv)(a:List Int)(c:Int)(r2:Int)(d:Nat)(e:Nat) :Bool×Nat→aG:=fun (f,g)=>⟨an 97 [(0,.imm b (.ns .u64 a) 1 1 0 (List.length a)),(6,.int .i64 c),(7,.int .u64 r2),(8,.bool false f),(36,.imm b (.ns .u64 a) 1 1 0 d),(37,.int .i64 ((e:Nat):Int)),(38,.int .i64 ((g:Nat):Int))],[],0⟩
def FQ(b:Lv)(a:List Int)(c:Int)(r2:Int)(d:Bool) :aG:=⟨an 97 [(0,.imm b (.ns .u64 a) 1 1 0 (List.length a)),(6,.int .i64 c),(7,.int .u64 r2),(8,.bool false d)],[],0⟩
def MP:List Code:=dU (gI ((((CX.drop 6).take 1)).headD .skip))
def P9(b:Lv)(a:List Int)(c:Int)(r2:Int)(d:Nat)(e:Nat)(f:Nat)(g:Bool) :aG:=⟨an 97 [(0,.imm b (.ns .u64 a) 1 1 0 (List.length a)),(6,.int .i64 c),(7,.int .u64 r2),(8,.bool false g),(36,.imm b (.ns .u64 a) 1 1 0 d),(37,.int .i64 ((e:Nat):Int)),(38,.int .i64 ((f:Nat):Int))],[],0⟩
def rj(b:List Int)(d:Nat)(e:Nat)(c:Bool)(a:Nat) :T ((Bool)⊕((Bool)⊕(cK))) :=
  .ask (decide (((a:Nat):Int)<((e:Nat):Int)))
    (.need (gp ((a:Nat):Int) d)<|.need (fF a (List.length b))<|.ask c
      (.leaf (.inl true))
      (.leaf (.inl ((List.getD b a 0) != (0:Int)))))
    (.leaf (.inr (.inl c)))
def MQ(a:Nat)(b:Bool) :T ((Bool×Nat)⊕((Bool)⊕(cK))) :=
  .need (gd .i64 (((a+1):Nat):Int))<|.leaf (.inl (b,(a+1)))
def v8(b:List Int)(c:Nat)(d:Nat) :Bool×Nat→Option ((Bool×Nat)⊕((Bool)⊕(cK))):=fun (e,a) =>
  aH ((rj b c d e a).run) fun f =>
  (MQ a f).run
theorem MR(b:Lv)(a:List Int)(c:Int)(r2:Int)(d:Nat)(e:Nat)(g:Bool)(f:Nat) :Sg prog [] MP (zg b a c r2 d e (g,f)) (v8 a d e (g,f)) (zg b a c r2 d e) (fB 0 (FQ b a c r2) sx):=by
  unfold v8;exact Sg.cut 3 (cD il) (bM fL (P9 b a c r2 d e f) [⟨[],[],[0,6,7,8,36,37,38]⟩,⟨[],[],[0,6,7,8,36,37,38]⟩,⟨[],[],[0,6,7,8]⟩]) (fun h=>bM fL _ [⟨[],[],[0,6,7,8,36,37,38]⟩])
def Qa(c:Lv)(a:List Int)(d:Int)(r2:Int)(e:Bool) :Nat×Nat×(List Int)→aG:=fun (b,f,g)=>⟨an 97 [(0,.imm c (.ns .u64 a) 1 1 0 (List.length a)),(6,.int .i64 d),(7,.int .u64 r2),(8,.bool false e),(11,.sl 0 1 1 0 b b),(54,.int .i64 ((f:Nat):Int)),(55,.int .i64 (0:Int))],[(0,.ns .u64 g)],1⟩
def v9(a:List Int)(b:Int) :T ((Nat×Nat×(List Int))⊕(cK)) :=
  .need (gd .i64 ((((List.length a):Nat):Int)-b))<|.need (decide ((0:Int)≤((((List.length a):Nat):Int)-b)))<|.need (decide (((((List.length a):Nat):Int)-b)≤((((List.length a):Nat):Int)-b)))<|.need (decide ((8:Int)*((((List.length a):Nat):Int)-b)≤140737488355328))<|.need (gd .i64 ((((List.length a):Nat):Int)-b))<|.leaf (.inl ((Int.toNat ((((List.length a):Nat):Int)-b)),(Int.toNat ((((List.length a):Nat):Int)-b)),(List.replicate (Int.toNat ((((List.length a):Nat):Int)-b)) (0:Int))))
def wa(c:Lv)(a:List Int)(d:Int)(r2:Int)(e:Bool)(b:Nat)(f:Nat) :Nat×(List Int)→aG:=fun (g,h)=>⟨an 97 [(0,.imm c (.ns .u64 a) 1 1 0 (List.length a)),(6,.int .i64 d),(7,.int .u64 r2),(8,.bool false e),(11,.sl 0 1 1 0 b b),(54,.int .i64 ((f:Nat):Int)),(55,.int .i64 ((g:Nat):Int))],[(0,.ns .u64 h)],1⟩
def CY(b:Bool)(a:Nat)(c:(List Int)) :aG:=⟨an 97 [(8,.bool false b),(11,.sl 0 1 1 0 a a)],[(0,.ns .u64 c)],1⟩
def MS:List Code:=dU (gI ((((((CX.drop 6).drop 1).drop 2).take 1)).headD .skip))
def MT(c:Lv)(a:List Int)(d:Int)(r2:Int)(e:Bool)(b:Nat)(f:Nat)(g:Nat)(h:(List Int)) :aG:=⟨an 97 [(0,.imm c (.ns .u64 a) 1 1 0 (List.length a)),(6,.int .i64 d),(7,.int .u64 r2),(8,.bool false e),(11,.sl 0 1 1 0 b b),(54,.int .i64 ((f:Nat):Int)),(55,.int .i64 ((g:Nat):Int))],[(0,.ns .u64 h)],1⟩
def rm(c:List Int)(b:Int)(r2:Int)(e:Nat)(f:Nat)(a:Nat)(d:List Int) :T (((List Int))⊕(((List Int))⊕(cK))) :=
  .ask (decide (((a:Nat):Int)<((f:Nat):Int)))
    (.need (gd .i64 (((a:Nat):Int)+b))<|.need (gp (((a:Nat):Int)+b) (List.length c))<|.need (fF (Int.toNat (((a:Nat):Int)+b)) (List.length c))<|.need (decide ((0:Int)≤r2))<|.need (gp ((a:Nat):Int) e)<|.need (fF a (List.length d))<|.need (gd .i64 (((a:Nat):Int)+b))<|.need (gd .i64 ((((a:Nat):Int)+b)+(1:Int)))<|.ask (decide (((((a:Nat):Int)+b)+(1:Int))<(((List.length c):Nat):Int)))
      (.need (gp ((a:Nat):Int) e)<|.need (fF a (List.length (List.set d a (Int.fdiv (List.getD c (Int.toNat (((a:Nat):Int)+b)) 0) (2^(min (Int.toNat r2) (IntKind.u64.bits)))))))<|.need (gd .i64 (((a:Nat):Int)+b))<|.need (gd .i64 ((((a:Nat):Int)+b)+(1:Int)))<|.need (gp ((((a:Nat):Int)+b)+(1:Int)) (List.length c))<|.need (fF (Int.toNat ((((a:Nat):Int)+b)+(1:Int))) (List.length c))<|.need (decide ((0:Int)≤(1:Int)))<|.need (decide ((0:Int)≤(IntKind.u64.wrap ((63:Int)-r2))))<|.need (gp ((a:Nat):Int) e)<|.need (fF a (List.length (List.set d a (Int.fdiv (List.getD c (Int.toNat (((a:Nat):Int)+b)) 0) (2^(min (Int.toNat r2) (IntKind.u64.bits)))))))<|.leaf (.inl (List.set (List.set d a (Int.fdiv (List.getD c (Int.toNat (((a:Nat):Int)+b)) 0) (2^(min (Int.toNat r2) (IntKind.u64.bits))))) a (cA .or .u64 (List.getD (List.set d a (Int.fdiv (List.getD c (Int.toNat (((a:Nat):Int)+b)) 0) (2^(min (Int.toNat r2) (IntKind.u64.bits))))) a 0) (IntKind.u64.wrap ((IntKind.u64.wrap ((List.getD c (Int.toNat ((((a:Nat):Int)+b)+(1:Int))) 0)*2^(min (Int.toNat (1:Int)) (IntKind.u64.bits))))*2^(min (Int.toNat (IntKind.u64.wrap ((63:Int)-r2))) (IntKind.u64.bits))))))))
      (.leaf (.inl (List.set d a (Int.fdiv (List.getD c (Int.toNat (((a:Nat):Int)+b)) 0) (2^(min (Int.toNat r2) (IntKind.u64.bits))))))))
    (.leaf (.inr (.inl d)))
def MU(a:Nat)(b:List Int) :T ((Nat×(List Int))⊕(((List Int))⊕(cK))) :=
  .need (gd .i64 (((a+1):Nat):Int))<|.leaf (.inl ((a+1),b))
def wc(b:List Int)(c:Int)(r2:Int)(d:Nat)(e:Nat) :Nat×(List Int)→Option ((Nat×(List Int))⊕(((List Int))⊕(cK))):=fun (a,f) =>
  aH ((rm b c r2 d e a f).run) fun g =>
  (MU a g).run
theorem MV(f:Lv)(b:List Int)(c:Int)(r2:Int)(d:Bool)(a:Nat)(e:Nat)(g:Nat)(h:List Int) :Sg prog [] MS (wa f b c r2 d a e (g,h)) (wc b c r2 a e (g,h)) (wa f b c r2 d a e) (fB 2 (CY d a) sx):=by
  unfold wc;exact Sg.cut 3 (cD il) (bM fL (MT f b c r2 d a e g) [⟨[],[0],[0,6,7,8,11,54,55]⟩,⟨[],[0],[0,6,7,8,11,54,55]⟩,⟨[],[0],[8,11]⟩]) (fun i=>bM fL _ [⟨[],[0],[0,6,7,8,11,54,55]⟩])
def MW(a:Bool) :Nat×Nat×Nat×(List Int)→aG:=fun (b,c,d,e)=>⟨an 97 [(4,.sl 0 1 1 b c d),(5,.bool false a)],[(0,.ns .u64 e)],1⟩
def CZ(a:Nat)(b:List Int) :T ((Nat×Nat×Nat×(List Int))⊕(cK)) :=
  .need (fp (aM b 0 a a))<|.leaf (.inl ((eJ (aM b 0 a a)),(eK (aM b 0 a a)),(eL (aM b 0 a a)),(eN (aM b 0 a a))))
def MX(a:Bool)(b:Nat)(c:Nat)(d:Nat)(e:List Int) :T ((Empty)⊕(cK)) :=
  .leaf (.inr (.r0 b c d a e))
def lC(a:List Int)(d:Int) :Option cK:=pm (aH ((v7 a d).run) fun (b,r2,e,f,g) =>
  aH (dN (v8 a f g) (e,0)) fun h =>
  aH ((v9 a b).run) fun (c,i,j) =>
  aH (dN (wc a b r2 c i) (0,j)) fun k =>
  aH ((CZ c k).run) fun (l,m,n,o) =>
  (MX h l m n o).run)
theorem Qb(b:Lv)(a:List Int)(f:Int){x:cK}(h:lC a f=some x) :ai prog xc [] [.imm b (.ns .u64 a) 1 1 0 (List.length a),.int .i64 f] (BT x) :=
  qH true BT sx h (Sg.cut 6 il (bM fL (P8 b a) [⟨[(.slot 4,.own 1 1 (.ns .u64 ([]:List Int)))],[288],[4,5]⟩,⟨[],[],[0,6,7,8,36,37,38]⟩]) (fun ⟨c,r2,s,g,i⟩=>Sg.cut 1 il (JQ ⟨[],[],[0,6,7,8,36,37,38]⟩ (zg b a c r2 g i) (FQ b a c r2) 0 il (FP _) (fun ⟨k,l⟩=>MR b a c r2 g i k l)) (fun d=>Sg.cut 2 il (bM fL (Qa b a c r2 d) [⟨[],[64],[0,6,7,8,11,54,55]⟩]) (fun ⟨e,j,t⟩=>Sg.cut 1 il (JQ ⟨[],[0],[0,6,7,8,11,54,55]⟩ (wa b a c r2 d e j) (CY d e) 2 il (FP _) (fun ⟨m,n⟩=>MV b a c r2 d e j m n)) (fun u=>Sg.cut 1 il (bM fL (MW d) [⟨[],[0],[4,5]⟩]) (fun ⟨v,w,y,z⟩=>bM fL _ [⟨[],[0],[4,5]⟩]))))))
    (fun x=>by cases x with | r0 o p q r A=>exact pn [.sl 0 1 1 o p q,.bool false r])
def tF:Option cK→Bool
  | some _=>true
  | none=>false
def tG:Option cK→Nat
  | some (.r0 x _ _ _ _)=>x
  | _=>0
def tH:Option cK→Nat
  | some (.r0 _ x _ _ _)=>x
  | _=>0
def An:Option cK→Nat
  | some (.r0 _ _ x _ _)=>x
  | _=>0
def tJ:Option cK→Bool
  | some (.r0 _ _ _ x _)=>x
  | _=>false
def tK:Option cK→List Int
  | some (.r0 _ _ _ _ x)=>x
  | _=>[]
theorem Qc{x:Option cK}(h:tF x=true) :x=some (.r0 (tG x) (tH x) (An x) (tJ x) (tK x)):=by
  unfold tF at h
  split at h<;>first | rfl | (cases h;done) | (rename_i y;cases y;rfl)
def IK:aK:=cV xc (.cons (.ns .u64) (.cons (.int .i64) .nil)) fun t=>(fun q=>[⟨BT (.r0 (tG q) (tH q) (An q) (tJ q) (tK q)),[tF q]⟩]) (lC t.1.2 t.2.1)
theorem J4:aQ prog IK:=aX fun t=>(aY (fun h=>Qb t.1.1 t.1.2 t.2.1 (Qc h)) bE)
def IL:List aK:=IK::IJ
theorem md:bj prog (bv IL):=ax J4 fL
inductive eP where
  | r0 (a:List Int) (b:Nat) (c:Nat) (d:Bool) (e:Nat)
def IM:eP→AE×aG
  | .r0 a b c d e=>(.ret,⟨an 23 [(4,.imm .free (.ns .u64 a) 1 1 b c),(5,.bool false d),(6,.int .i64 ((e:Nat):Int))],[],0⟩)
theorem zh:mW IM:=by intro x;cases x<;>(intro h;cases h)
def BU:eP→jj
  | .r0 a b c d e=>⟨.tup [.imm .free (.ns .u64 a) 1 1 b c,.bool false d,.int .i64 ((e:Nat):Int)],[]⟩
def Qd(a:Lv)(b:Int) :Nat×(List Int)×Nat→aG:=fun (c,d,e)=>⟨an 23 [(1,.int .i64 b),(2,.ptr 0 1 0 0),(6,.int .i64 ((c:Nat):Int))],[(0,.vs [.imm a (.ns .u64 d) 1 1 0 e])],1⟩
def FS(a:List Int) :T ((Nat×(List Int)×Nat)⊕(eP)) :=
  .ask (decide ((0:Int)<(1:Int)))
    (.need (gp (0:Int) 1)<|.need (a6 0 (List.length a) a)<|.need (bz (aj (aa 0 (List.length a) a)))<|.ask (decide ((((ao (aj (aa 0 (List.length a) a))):Nat):Int)>(4096:Int)))
      (.leaf (.inl (2,(aA (aj (aa 0 (List.length a) a))),(ao (aj (aa 0 (List.length a) a))))))
      (.need (gd .i64 (1:Int))<|.ask (decide ((1:Int)<(1:Int)))
        (.fail)
        (.leaf (.inl (0,(aA (aj (aa 0 (List.length a) a))),(ao (aj (aa 0 (List.length a) a))))))))
    (.fail)
def Qe(a:Lv)(b:Int)(c:List Int)(d:Nat)(e:Bool) :aG:=⟨an 23 [(1,.int .i64 b),(2,.ptr 0 1 0 0),(14,.bool false e)],[(0,.vs [.imm a (.ns .u64 c) 1 1 0 d])],1⟩
def Qf(a:Int)(b:Nat) :T ((Bool)⊕(eP)) :=
  .ask (((b:Nat):Int) != (0:Int))
    (.leaf (.inl true))
    (.leaf (.inl (decide (a<(0:Int)))))
def Qg:(List Int)×Nat×Nat×Bool→aG:=fun (a,b,c,d)=>⟨an 23 [(4,.imm .free (.ns .u64 a) 1 1 b c),(5,.bool false d)],[],0⟩
def zi(c:Int)(a:List Int)(b:Nat)(d:Bool) :T (((List Int)×Nat×Nat×Bool)⊕(eP)) :=
  .ask d
    (.leaf (.inr (.r0 ([]:List Int) 0 0 false 2)))
    (.need (a6 0 b a)<|.need (tF (lC (aa 0 b a) c))<|.leaf (.inl ((tK (lC (aa 0 b a) c)),(tG (lC (aa 0 b a) c)),(tH (lC (aa 0 b a) c)),(tJ (lC (aa 0 b a) c)))))
def Qh(a:List Int)(b:Nat)(c:Nat)(d:Bool) :T ((Empty)⊕(eP)) :=
  .leaf (.inr (.r0 a b c d 0))
def nJ(b:List Int)(a:Int) :Option eP:=pm (aH ((FS b).run) fun (c,d,e) =>
  aH ((Qf a c).run) fun f =>
  aH ((zi a d e f).run) fun (g,h,i,j) =>
  (Qh g h i j).run)
theorem Qi(b:Lv)(c:List Int)(a:Int){x:eP}(h:nJ c a=some x) :ai prog Bx [] [.imm b (.ns .u64 c) 1 1 0 (List.length c),.int .i64 a] (BU x) :=
  qH true BU IM h (Sg.cut 2 zh (bM md (Qd b a) [⟨[],[0],[1,2,6]⟩,⟨[],[0],[1,2,6]⟩]) (fun ⟨l,d,e⟩=>Sg.cut 1 zh (bM md (Qe b a d e) [⟨[],[0],[1,2,14]⟩,⟨[],[0],[1,2,14]⟩]) (fun m=>Sg.cut 2 zh (bM md Qg [⟨[(.slot 4,.fre 1 1 (.ns .u64 ([]:List Int)))],[],[4,5,6]⟩,⟨[],[],[4,5]⟩]) (fun ⟨n,o,p,q⟩=>bM md _ [⟨[],[],[4,5,6]⟩]))))
    (fun x=>by cases x with | r0 f g i j k=>exact pn [.imm .free (.ns .u64 f) 1 1 g i,.bool false j,.int .i64 ((k:Nat):Int)])
def tL:Option eP→Bool
  | some _=>true
  | none=>false
def tM:Option eP→List Int
  | some (.r0 x _ _ _ _)=>x
  | _=>[]
def tN:Option eP→Nat
  | some (.r0 _ x _ _ _)=>x
  | _=>0
def tO:Option eP→Nat
  | some (.r0 _ _ x _ _)=>x
  | _=>0
def Ao:Option eP→Bool
  | some (.r0 _ _ _ x _)=>x
  | _=>false
def Aq:Option eP→Nat
  | some (.r0 _ _ _ _ x)=>x
  | _=>0
theorem Qj{x:Option eP}(h:tL x=true) :x=some (.r0 (tM x) (tN x) (tO x) (Ao x) (Aq x)):=by
  unfold tL at h
  split at h<;>first | rfl | (cases h;done) | (rename_i y;cases y;rfl)
def IN:aK:=cV Bx (.cons (.ns .u64) (.cons (.int .i64) .nil)) fun t=>(fun q=>[⟨BU (.r0 (tM q) (tN q) (tO q) (Ao q) (Aq q)),[tL q]⟩]) (nJ t.1.2 t.2.1)
theorem J5:aQ prog IN:=aX fun t=>(aY (fun h=>Qi t.1.1 t.1.2 t.2.1 (Qj h)) bE)
def IO:List aK:=IN::IL
theorem im:bj prog (bv IO):=ax J5 md
inductive cW where
  | r0 (a:Int) (b:Nat)
def rp:cW→AE×aG
  | .r0 a b=>(.ret,⟨an 31 [(2,.int .i64 a),(3,.int .i64 ((b:Nat):Int))],[],0⟩)
theorem jU:mW rp:=by intro x;cases x<;>(intro h;cases h)
theorem J6(id:Nat) :oV id rp:=by intro x;cases x<;>(intro h;cases h)
def wd:cW→jj
  | .r0 a b=>⟨.tup [.int .i64 a,.int .i64 ((b:Nat):Int)],[]⟩
def J7:List Code:=dU (pB qZ)
def J8(a:Lv) :Nat×(List Int)×Nat→aG:=fun (b,c,d)=>⟨an 31 [(1,.ptr 0 1 0 0),(4,.int .i64 ((b:Nat):Int))],[(0,.vs [.imm a (.ns .u64 c) 1 1 0 d])],1⟩
def x7(a:List Int) :T ((Nat×(List Int)×Nat)⊕(cW)) :=
  .ask (decide ((0:Int)<(1:Int)))
    (.need (gp (0:Int) 1)<|.need (a6 0 (List.length a) a)<|.need (bz (aj (aa 0 (List.length a) a)))<|.ask (decide ((((ao (aj (aa 0 (List.length a) a))):Nat):Int)>(4096:Int)))
      (.leaf (.inl (2,(aA (aj (aa 0 (List.length a) a))),(ao (aj (aa 0 (List.length a) a))))))
      (.need (gd .i64 (1:Int))<|.ask (decide ((1:Int)<(1:Int)))
        (.fail)
        (.leaf (.inl (0,(aA (aj (aa 0 (List.length a) a))),(ao (aj (aa 0 (List.length a) a))))))))
    (.fail)
def J9(a:Lv)(b:Nat)(c:List Int)(d:Nat)(e:Bool) :aG:=⟨an 31 [(1,.ptr 0 1 0 0),(4,.int .i64 ((b:Nat):Int)),(14,.bool false e)],[(0,.vs [.imm a (.ns .u64 c) 1 1 0 d])],1⟩
def Ha(a:Nat)(b:Nat) :T ((Bool)⊕(cW)) :=
  .ask (((a:Nat):Int) != (0:Int))
    (.leaf (.inl true))
    (.leaf (.inl (((b:Nat):Int)==(0:Int))))
def Ka(a:Lv)(b:List Int)(c:Nat)(_:Unit) :aG:=⟨an 31 [(1,.ptr 0 1 0 0),(5,.int .i64 (0:Int))],[(0,.vs [.imm a (.ns .u64 b) 1 1 0 c])],1⟩
def Hb(a:Nat)(b:Bool) :T ((Unit)⊕(cW)) :=
  .ask b
    (.leaf (.inr (.r0 (0:Int) a)))
    (.leaf (.inl ()))
def tQ(a:Lv)(b:List Int)(c:Nat)(d:Nat) :aG:=⟨an 31 [(1,.ptr 0 1 0 0),(5,.int .i64 ((d:Nat):Int))],[(0,.vs [.imm a (.ns .u64 b) 1 1 0 c])],1⟩
def Ar(a:Lv)(b:List Int)(c:Nat)(d:Nat) :aG:=⟨an 31 [(1,.ptr 0 1 0 0),(5,.int .i64 ((d:Nat):Int))],[(0,.vs [.imm a (.ns .u64 b) 1 1 0 c])],1⟩
def Hc:List Code:=dU (gI ((((((J7.drop 2).drop 1).drop 2).take 1)).headD .skip))
def kf(b:List Int)(c:Nat)(a:Nat) :T ((Nat)⊕((Nat)⊕(cW))) :=
  .need (gp ((a:Nat):Int) c)<|.need (fF a (List.length b))<|.ask ((List.getD b a 0)==(0:Int))
    (.need (gd .i64 (((a+1):Nat):Int))<|.leaf (.inl (a+1)))
    (.leaf (.inr (.inl a)))
def rP(a:List Int)(b:Nat) :Nat→Option ((Nat)⊕((Nat)⊕(cW))):=fun c =>
  (kf a b c).run
theorem Hd(c:Lv)(a:List Int)(b:Nat)(d:Nat) :Sg prog [] Hc (tQ c a b d) (rP a b d) (tQ c a b) (fB 0 (Ar c a b) rp):=by
  unfold rP;exact bM im _ [⟨[],[0],[1,5]⟩,⟨[],[0],[1,5]⟩]
def Kb(a:Int) :aG:=⟨an 31 [(2,.int .i64 a),(3,.int .i64 (0:Int))],[],0⟩
def x8(b:List Int)(c:Nat)(a:Nat) :T ((Int)⊕(cW)) :=
  .need (gd .i64 (((64*a):Nat):Int))<|.need (gp ((a:Nat):Int) c)<|.need (fF a (List.length b))<|.need (cE (bZ (List.getD b a 0)))<|.need (gd .i64 ((((64*a):Nat):Int)+(cr (bZ (List.getD b a 0)))))<|.leaf (.inl ((((64*a):Nat):Int)+(cr (bZ (List.getD b a 0)))))
def He(a:Int) :T ((Empty)⊕(cW)) :=
  .leaf (.inr (.r0 a 0))
def oN(d:List Int) :Option cW:=pm (aH ((x7 d).run) fun (b,c,a) =>
  aH ((Ha b a).run) fun e =>
  aH ((Hb b e).run) fun _ =>
  aH (dN (rP c a) 0) fun f =>
  aH ((x8 c a f).run) fun g =>
  (He g).run)
theorem Kc(a:Lv)(d:List Int){x:cW}(h:oN d=some x) :ai prog qZ [] [.imm a (.ns .u64 d) 1 1 0 (List.length d)] (wd x) :=
  qH true wd rp h (Sg.cut 2 jU (bM im (J8 a) [⟨[],[0],[1,4]⟩,⟨[],[0],[1,4]⟩]) (fun ⟨e,b,c⟩=>Sg.cut 1 jU (bM im (J9 a e b c) [⟨[],[0],[1,4,14]⟩,⟨[],[0],[1,4,14]⟩]) (fun j=>Sg.cut 2 jU (bM im (Ka a b c) [⟨[],[],[2,3]⟩,⟨[],[0],[1,5]⟩]) (fun _=>Sg.cut 1 jU (JQ ⟨[],[0],[1,5]⟩ (tQ a b c) (Ar a b c) 0 jU (J6 _) (fun f=>Hd a b c f)) (fun k=>Sg.cut 1 jU (bM im Kb [⟨[],[],[2,3]⟩]) (fun l=>bM im _ [⟨[],[],[2,3]⟩]))))))
    (fun x=>by cases x with | r0 g i=>exact pn [.int .i64 g,.int .i64 ((i:Nat):Int)])
def pN:Option cW→Bool
  | some _=>true
  | none=>false
def qv:Option cW→Int
  | some (.r0 x _)=>x
  | _=>0
def we:Option cW→Nat
  | some (.r0 _ x)=>x
  | _=>0
theorem Kd{x:Option cW}(h:pN x=true) :x=some (.r0 (qv x) (we x)):=by
  unfold pN at h
  split at h<;>first | rfl | (cases h;done) | (rename_i y;cases y;rfl)
def C1:aK:=cV qZ (.cons (.ns .u64) .nil) fun t=>(fun q=>[⟨wd (.r0 (qv q) (we q)),[pN q]⟩]) (oN t.1.2)
theorem FU:aQ prog C1:=aX fun t=>(aY (fun h=>Kc t.1.1 t.1.2 (Kd h)) bE)
def C2:List aK:=C1::IO
theorem jy:bj prog (bv C2):=ax FU im
inductive cX where
  | r0 (a:Bool) (b:List Int) (c:Nat) (d:Nat) (e:Int)
def C3:cX→AE×aG
  | .r0 a b c d e=>(.ret,⟨an 37 [(2,.ptr 0 1 0 0)],[(0,.vs [.bool false a,.imm .free (.ns .u64 b) 1 1 c d,.int .i64 e])],1⟩)
theorem tR:mW C3:=by intro x;cases x<;>(intro h;cases h)
def wg:cX→jj
  | .r0 a b c d e=>⟨.agg [.bool false a,.imm .free (.ns .u64 b) 1 1 c d,.int .i64 e],[]⟩
def Ke(b:Bool)(c:Lv)(a:List Int)(d:Int) :(List Int)×Nat×Bool→aG:=fun (e,f,g)=>⟨an 37 [(1,.ptr 0 1 0 0),(2,.ptr 1 1 0 0),(3,.imm .free (.ns .u64 e) 1 1 0 f)],[(0,.vs [.bool false b,.imm c (.ns .u64 a) 1 1 0 (List.length a),.int .i64 d]),(1,.vs [.bool false g,.nsl,.int .i64 (0:Int)])],2⟩
def tS(a:List Int) :T (((List Int)×Nat×Bool)⊕(cX)) :=
  .need (a6 0 (List.length a) a)<|.need (oI (jx (aa 0 (List.length a) a)))<|.leaf (.inl ((rM (jx (aa 0 (List.length a) a))),(rK (jx (aa 0 (List.length a) a))),false))
def Kf(b:Bool)(c:Lv)(a:List Int)(d:Int)(e:List Int)(f:Nat)(g:Bool)(h:Int) :aG:=⟨an 37 [(1,.ptr 0 1 0 0),(2,.ptr 1 1 0 0),(3,.imm .free (.ns .u64 e) 1 1 0 f),(5,.int .i64 h)],[(0,.vs [.bool false b,.imm c (.ns .u64 a) 1 1 0 (List.length a),.int .i64 d]),(1,.vs [.bool false g,.nsl,.int .i64 (0:Int)])],2⟩
def tT(b:List Int)(a:Nat) :T ((Int)⊕(cX)) :=
  .ask (((a:Nat):Int)==(0:Int))
    (.leaf (.inr (.r0 false ([]:List Int) 0 0 (0:Int))))
    (.need (a6 0 a b)<|.need (pN (oN (aa 0 a b)))<|.leaf (.inl (qv (oN (aa 0 a b)))))
def Kg(b:Bool)(c:Lv)(a:List Int)(d:Int)(e:Bool)(f:Int) :(List Int)×Nat×Nat→aG:=fun (g,h,i)=>⟨an 37 [(1,.ptr 0 1 0 0),(2,.ptr 1 1 0 0),(3,.imm .free (.ns .u64 g) 1 1 h i),(5,.int .i64 f)],[(0,.vs [.bool false b,.imm c (.ns .u64 a) 1 1 0 (List.length a),.int .i64 d]),(1,.vs [.bool false e,.nsl,.int .i64 (0:Int)])],2⟩
def tU(a:List Int)(b:Nat)(c:Int) :T (((List Int)×Nat×Nat)⊕(cX)) :=
  .need (a6 0 b a)<|.need (tL (nJ (aa 0 b a) c))<|.leaf (.inl ((tM (nJ (aa 0 b a) c)),(tN (nJ (aa 0 b a) c)),(tO (nJ (aa 0 b a) c))))
def Kh(c:Bool)(a:Int)(b:Int)(d:List Int)(e:Nat)(f:Nat) :T ((Empty)⊕(cX)) :=
  .need (gd .i64 (a+b))<|.leaf (.inr (.r0 c d e f (a+b)))
def ah(d:Bool)(e:List Int)(f:Int) :Option cX:=pm (aH ((tS e).run) fun (a,b,j) =>
  aH ((tT a b).run) fun c =>
  aH ((tU a b c).run) fun (g,h,i) =>
  (Kh d f c g h i).run)
theorem Ki(b:Bool)(d:Lv)(a:List Int)(c:Int){x:cX}(h:ah b a c=some x) :ai prog vE [] [.agg [.bool false b,.imm d (.ns .u64 a) 1 1 0 (List.length a),.int .i64 c]] (wg x) :=
  qH true wg C3 h (Sg.cut 2 tR (bM jy (Ke b d a c) [⟨[],[0,16],[1,2,3]⟩]) (fun ⟨f,g,e⟩=>Sg.cut 3 tR (bM jy (Kf b d a c f g e) [⟨[(.cell 1 1,.fre 1 1 (.ns .u64 ([]:List Int)))],[1],[2]⟩,⟨[],[0,1],[1,2,3,5]⟩]) (fun i=>Sg.cut 1 tR (bM jy (Kg b d a c e i) [⟨[],[0,1],[1,2,3,5]⟩]) (fun ⟨o,p,q⟩=>bM jy _ [⟨[],[1],[2]⟩]))))
    (fun x=>by cases x with | r0 j k l m n=>exact pn [.agg [.bool false j,.imm .free (.ns .u64 k) 1 1 l m,.int .i64 n]])
def di:Option cX→Bool
  | some _=>true
  | none=>false
def bO:Option cX→Bool
  | some (.r0 x _ _ _ _)=>x
  | _=>false
def bP:Option cX→List Int
  | some (.r0 _ x _ _ _)=>x
  | _=>[]
def bQ:Option cX→Nat
  | some (.r0 _ _ x _ _)=>x
  | _=>0
def bR:Option cX→Nat
  | some (.r0 _ _ _ x _)=>x
  | _=>0
def bS:Option cX→Int
  | some (.r0 _ _ _ _ x)=>x
  | _=>0
theorem Kj{x:Option cX}(h:di x=true) :x=some (.r0 (bO x) (bP x) (bQ x) (bR x) (bS x)):=by
  unfold di at h
  split at h<;>first | rfl | (cases h;done) | (rename_i y;cases y;rfl)
def C4:aK:=cV vE (.cons (.agg (.cons .bool (.cons (.ns .u64) (.cons (.int .i64) .nil)))) .nil) fun t=>(fun q=>[⟨wg (.r0 (bO q) (bP q) (bQ q) (bR q) (bS q)),[di q]⟩]) (ah t.1.1 t.1.2.1.2 t.1.2.2.1)
theorem FV:aQ prog C4:=aX fun t=>(aY (fun h=>Ki t.1.1 t.1.2.1.1 t.1.2.1.2 t.1.2.2.1 (Kj h)) bE)
def C5:List aK:=C4::C2
theorem me:bj prog (bv C5):=ax FV jy
inductive gK where
  | r0 (a:Bool)
def FW:gK→AE×aG
  | .r0 a=>(.ret,⟨an 18 [(2,.bool false a)],[],0⟩)
theorem C6:mW FW:=by intro x;cases x<;>(intro h;cases h)
def zj:gK→jj
  | .r0 a=>⟨.bool false a,[]⟩
def MY(b:Bool)(c:Lv)(a:List Int)(d:Int)(e:Nat) :aG:=⟨an 18 [(1,.ptr 0 1 0 0),(4,.int .i64 ((e:Nat):Int))],[(0,.vs [.bool false b,.imm c (.ns .u64 a) 1 1 0 (List.length a),.int .i64 d])],1⟩
def C7(a:List Int) :T ((Nat)⊕(gK)) :=
  .need (a6 0 (List.length a) a)<|.need (oI (jx (aa 0 (List.length a) a)))<|.leaf (.inl (rL (jx (aa 0 (List.length a) a))))
def MZ(a:Bool) :aG:=⟨an 18 [(2,.bool false a)],[],0⟩
def M0(a:Int)(b:Nat) :T ((Bool)⊕(gK)) :=
  .ask (((b:Nat):Int)==(0:Int))
    (.ask (decide (a≥(-262144:Int)))
      (.leaf (.inl (decide (a≤(262144:Int)))))
      (.leaf (.inl false)))
    (.leaf (.inl false))
def M8(a:Bool) :T ((Empty)⊕(gK)) :=
  .leaf (.inr (.r0 a))
def ct(a:List Int)(b:Int) :Option gK:=pm (aH ((C7 a).run) fun c =>
  aH ((M0 b c).run) fun d =>
  (M8 d).run)
theorem M9(c:Bool)(d:Lv)(a:List Int)(b:Int){x:gK}(h:ct a b=some x) :ai prog yO [] [.agg [.bool false c,.imm d (.ns .u64 a) 1 1 0 (List.length a),.int .i64 b]] (zj x) :=
  qH true zj FW h (Sg.cut 2 C6 (bM me (MY c d a b) [⟨[],[0],[1,4]⟩]) (fun f=>Sg.cut 1 C6 (bM me MZ [⟨[],[],[2]⟩,⟨[],[],[2]⟩,⟨[],[],[2]⟩]) (fun g=>bM me _ [⟨[],[],[2]⟩])))
    (fun x=>by cases x with | r0 e=>exact pn [.bool false e])
def fq:Option gK→Bool
  | some _=>true
  | none=>false
def dX:Option gK→Bool
  | some (.r0 x)=>x
  | _=>false
theorem Na{x:Option gK}(h:fq x=true) :x=some (.r0 (dX x)):=by
  unfold fq at h
  split at h<;>first | rfl | (cases h;done) | (rename_i y;cases y;rfl)
def FX:aK:=cV yO (.cons (.agg (.cons .bool (.cons (.ns .u64) (.cons (.int .i64) .nil)))) .nil) fun t=>(fun q=>[⟨zj (.r0 (dX q)),[fq q]⟩]) (ct t.1.2.1.2 t.1.2.2.1)
theorem Hf:aQ prog FX:=aX fun t=>(aY (fun h=>M9 t.1.1 t.1.2.1.1 t.1.2.1.2 t.1.2.2.1 (Na h)) bE)
def FY:List aK:=FX::C5
theorem oh:bj prog (bv FY):=ax Hf me
inductive cy where
  | r0 (a:Nat) (b:Int) (c:List Int) (d:Nat) (e:List Int) (f:Nat)
def Au:cy→AE×aG
  | .r0 a b c d e f=>(.ret,⟨an 57 [(4,.ptr 0 1 0 0),(5,.int .i64 ((a:Nat):Int))],[(0,.vs [.int .i64 b,.imm .free (.ns .u64 c) 1 1 0 d,.imm .free (.ns .u64 e) 1 1 0 f])],1⟩)
theorem x9:mW Au:=by intro x;cases x<;>(intro h;cases h)
def tV:cy→jj
  | .r0 a b c d e f=>⟨.tup [.agg [.int .i64 b,.imm .free (.ns .u64 c) 1 1 0 d,.imm .free (.ns .u64 e) 1 1 0 f],.int .i64 ((a:Nat):Int)],[]⟩
def Hg(c:Bool)(d:Lv)(a:List Int)(e:Int)(f:Bool)(g:Lv)(b:List Int)(h:Int)(i:Int) :aG:=⟨an 57 [(2,.ptr 0 1 0 0),(3,.ptr 1 1 0 0),(4,.ptr 2 1 0 0),(6,.ptr 3 1 0 0)],[(0,.vs [.bool false c,.imm d (.ns .u64 a) 1 1 0 (List.length a),.int .i64 e]),(1,.vs [.bool false f,.imm g (.ns .u64 b) 1 1 0 (List.length b),.int .i64 h]),(2,.vs [.int .i64 (0:Int),.nsl,.nsl]),(3,.vs [.int .i64 i,.nsl,.nsl])],4⟩
def kg(c:List Int)(a:Int)(d:List Int)(b:Int) :T ((Int)⊕(cy)) :=
  .ask ((((List.length c):Nat):Int)==(0:Int))
    (.leaf (.inl b))
    (.ask ((((List.length d):Nat):Int)==(0:Int))
      (.leaf (.inl a))
      (.need (gd .i64 ((ry a b)-(qJ a b)))<|.ask (decide (((ry a b)-(qJ a b))>(262144:Int)))
        (.leaf (.inr (.r0 3 (0:Int) ([]:List Int) 0 ([]:List Int) 0)))
        (.leaf (.inl (qJ a b)))))
def Hi(a:Int) :(List Int)×Nat×(List Int)×Nat→aG:=fun (b,c,d,e)=>⟨an 57 [(4,.ptr 0 1 0 0),(6,.ptr 1 1 0 0)],[(0,.vs [.int .i64 (0:Int),.nsl,.nsl]),(1,.vs [.int .i64 a,.imm .free (.ns .u64 b) 1 1 0 c,.imm .free (.ns .u64 d) 1 1 0 e])],2⟩
def fP(c:List Int)(e:Int)(a:List Int)(d:Int)(b:Int) :T (((List Int)×Nat×(List Int)×Nat)⊕(cy)) :=
  .ask ((((List.length c):Nat):Int)==(0:Int))
    (.ask ((((List.length a):Nat):Int)==(0:Int))
      (.leaf (.inl (([]:List Int),0,([]:List Int),0)))
      (.need (gd .i64 (d-b))<|.need (a6 0 (List.length a) a)<|.need (nI (eO (aa 0 (List.length a) a) (d-b)))<|.leaf (.inl (([]:List Int),0,(jS (eO (aa 0 (List.length a) a) (d-b))),(jT (eO (aa 0 (List.length a) a) (d-b)))))))
    (.need (gd .i64 (e-b))<|.need (a6 0 (List.length c) c)<|.need (nI (eO (aa 0 (List.length c) c) (e-b)))<|.ask ((((List.length a):Nat):Int)==(0:Int))
      (.leaf (.inl ((jS (eO (aa 0 (List.length c) c) (e-b))),(jT (eO (aa 0 (List.length c) c) (e-b))),([]:List Int),0)))
      (.need (gd .i64 (d-b))<|.need (a6 0 (List.length a) a)<|.need (nI (eO (aa 0 (List.length a) a) (d-b)))<|.leaf (.inl ((jS (eO (aa 0 (List.length c) c) (e-b))),(jT (eO (aa 0 (List.length c) c) (e-b))),(jS (eO (aa 0 (List.length a) a) (d-b))),(jT (eO (aa 0 (List.length a) a) (d-b)))))))
def Hj(a:Int)(b:List Int)(c:Nat)(d:List Int)(e:Nat) :T ((Empty)⊕(cy)) :=
  .leaf (.inr (.r0 0 a b c d e))
def bW(a:List Int)(b:Int)(c:List Int)(d:Int) :Option cy:=pm (aH ((kg a b c d).run) fun e =>
  aH ((fP a b c d e).run) fun (f,g,h,i) =>
  (Hj e f g h i).run)
theorem Hk(e:Bool)(f:Lv)(a:List Int)(c:Int)(g:Bool)(i:Lv)(b:List Int)(d:Int){x:cy}(h:bW a c b d=some x) :ai prog tc [] [.agg [.bool false e,.imm f (.ns .u64 a) 1 1 0 (List.length a),.int .i64 c],.agg [.bool false g,.imm i (.ns .u64 b) 1 1 0 (List.length b),.int .i64 d]] (tV x) :=
  qH true tV Au h (Sg.cut 3 x9 (bM oh (Hg e f a c g i b d) [⟨[],[0,16,32,176],[2,3,4,6]⟩,⟨[],[0,16,32,176],[2,3,4,6]⟩,⟨[(.cell 32 1,.fre 1 1 (.ns .u64 ([]:List Int))),(.cell 32 2,.fre 1 1 (.ns .u64 ([]:List Int)))],[32],[4,5]⟩,⟨[],[0,16,32,176],[2,3,4,6]⟩]) (fun j=>Sg.cut 2 x9 (bM oh (Hi j) [⟨[(.cell 3 1,.fre 1 1 (.ns .u64 ([]:List Int))),(.cell 3 2,.fre 1 1 (.ns .u64 ([]:List Int)))],[2,3],[4,6]⟩,⟨[(.cell 3 1,.fre 1 1 (.ns .u64 ([]:List Int)))],[2,3],[4,6]⟩,⟨[(.cell 3 2,.fre 1 1 (.ns .u64 ([]:List Int)))],[2,3],[4,6]⟩,⟨[],[2,3],[4,6]⟩]) (fun ⟨q,r,s,t⟩=>bM oh _ [⟨[],[0],[4,5]⟩])))
    (fun x=>by cases x with | r0 k l m n o p=>exact pn [.agg [.int .i64 l,.imm .free (.ns .u64 m) 1 1 0 n,.imm .free (.ns .u64 o) 1 1 0 p],.int .i64 ((k:Nat):Int)])
def kh:Option cy→Bool
  | some _=>true
  | none=>false
def kL:Option cy→Nat
  | some (.r0 x _ _ _ _ _)=>x
  | _=>0
def kM:Option cy→Int
  | some (.r0 _ x _ _ _ _)=>x
  | _=>0
def kN:Option cy→List Int
  | some (.r0 _ _ x _ _ _)=>x
  | _=>[]
def kO:Option cy→Nat
  | some (.r0 _ _ _ x _ _)=>x
  | _=>0
def kP:Option cy→List Int
  | some (.r0 _ _ _ _ x _)=>x
  | _=>[]
def kQ:Option cy→Nat
  | some (.r0 _ _ _ _ _ x)=>x
  | _=>0
theorem Hl{x:Option cy}(h:kh x=true) :x=some (.r0 (kL x) (kM x) (kN x) (kO x) (kP x) (kQ x)):=by
  unfold kh at h
  split at h<;>first | rfl | (cases h;done) | (rename_i y;cases y;rfl)
def Av:aK:=cV tc (.cons (.agg (.cons .bool (.cons (.ns .u64) (.cons (.int .i64) .nil)))) (.cons (.agg (.cons .bool (.cons (.ns .u64) (.cons (.int .i64) .nil)))) .nil)) fun t=>(fun q=>[⟨tV (.r0 (kL q) (kM q) (kN q) (kO q) (kP q) (kQ q)),[kh q]⟩]) (bW t.1.2.1.2 t.1.2.2.1 t.2.1.2.1.2 t.2.1.2.2.1)
theorem Dv:aQ prog Av:=aX fun t=>(aY (fun h=>Hk t.1.1 t.1.2.1.1 t.1.2.1.2 t.1.2.2.1 t.2.1.1 t.2.1.2.1.1 t.2.1.2.1.2 t.2.1.2.2.1 (Hl h)) bE)
def Aw:List aK:=Av::FY
theorem kR:bj prog (bv Aw):=ax Dv oh
inductive cY where
  | r0 (a:Nat) (b:Bool) (c:List Int) (d:Nat) (e:Nat) (f:Int)
def C8:cY→AE×aG
  | .r0 a b c d e f=>(.ret,⟨an 11 [(2,.ptr 0 1 0 0),(3,.int .i64 ((a:Nat):Int))],[(0,.vs [.bool false b,.imm .free (.ns .u64 c) 1 1 d e,.int .i64 f])],1⟩)
theorem Ax:mW C8:=by intro x;cases x<;>(intro h;cases h)
def wh:cY→jj
  | .r0 a b c d e f=>⟨.tup [.agg [.bool false b,.imm .free (.ns .u64 c) 1 1 d e,.int .i64 f],.int .i64 ((a:Nat):Int)],[]⟩
def Kk:Bool×(List Int)×Nat×Nat×Int×Bool→aG:=fun (a,b,c,d,e,f)=>⟨an 11 [(1,.ptr 0 1 0 0),(2,.ptr 1 1 0 0)],[(0,.vs [.bool false a,.imm .free (.ns .u64 b) 1 1 c d,.int .i64 e]),(1,.vs [.bool false f,.nsl,.int .i64 (0:Int)])],2⟩
def Ay(b:Bool)(a:List Int)(c:Int) :T ((Bool×(List Int)×Nat×Nat×Int×Bool)⊕(cY)) :=
  .need (a6 0 (List.length a) a)<|.need (di (ah b (aa 0 (List.length a) a) c))<|.leaf (.inl ((bO (ah b (aa 0 (List.length a) a) c)),(bP (ah b (aa 0 (List.length a) a) c)),(bQ (ah b (aa 0 (List.length a) a) c)),(bR (ah b (aa 0 (List.length a) a) c)),(bS (ah b (aa 0 (List.length a) a) c)),false))
def Kl(a:Bool)(b:List Int)(c:Nat)(d:Nat)(e:Int)(f:Bool)(g:Bool) :aG:=⟨an 11 [(1,.ptr 0 1 0 0),(2,.ptr 1 1 0 0),(8,.bool false g)],[(0,.vs [.bool false a,.imm .free (.ns .u64 b) 1 1 c d,.int .i64 e]),(1,.vs [.bool false f,.nsl,.int .i64 (0:Int)])],2⟩
def tW(a:List Int)(b:Nat)(c:Nat)(d:Int) :T ((Bool)⊕(cY)) :=
  .need (a6 b c a)<|.need (fq (ct (aa b c a) d))<|.leaf (.inl (!(dX (ct (aa b c a) d))))
def Km(a:Bool)(b:List Int)(c:Nat)(d:Nat)(e:Int)(f:Bool) :T ((Empty)⊕(cY)) :=
  .ask f
    (.leaf (.inr (.r0 3 false ([]:List Int) 0 0 (0:Int))))
    (.leaf (.inr (.r0 0 a b c d e)))
def bA(e:Bool)(f:List Int)(g:Int) :Option cY:=pm (aH ((Ay e f g).run) fun (h,a,b,c,d,j) =>
  aH ((tW a b c d).run) fun i =>
  (Km h a b c d i).run)
theorem Kn(b:Bool)(d:Lv)(a:List Int)(c:Int){x:cY}(h:bA b a c=some x) :ai prog vF [] [.agg [.bool false b,.imm d (.ns .u64 a) 1 1 0 (List.length a),.int .i64 c]] (wh x) :=
  qH true wh C8 h (Sg.cut 2 Ax (bM kR Kk [⟨[],[0,16],[1,2]⟩]) (fun ⟨e,f,g,i,j,k⟩=>Sg.cut 1 Ax (bM kR (Kl e f g i j k) [⟨[],[0,1],[1,2,8]⟩]) (fun r=>bM kR _ [⟨[(.cell 1 1,.fre 1 1 (.ns .u64 ([]:List Int)))],[1],[2,3]⟩,⟨[],[1],[2,3]⟩])))
    (fun x=>by cases x with | r0 l m n o p q=>exact pn [.agg [.bool false m,.imm .free (.ns .u64 n) 1 1 o p,.int .i64 q],.int .i64 ((l:Nat):Int)])
def jV:Option cY→Bool
  | some _=>true
  | none=>false
def jz:Option cY→Nat
  | some (.r0 x _ _ _ _ _)=>x
  | _=>0
def jA:Option cY→Bool
  | some (.r0 _ x _ _ _ _)=>x
  | _=>false
def jB:Option cY→List Int
  | some (.r0 _ _ x _ _ _)=>x
  | _=>[]
def jC:Option cY→Nat
  | some (.r0 _ _ _ x _ _)=>x
  | _=>0
def jD:Option cY→Nat
  | some (.r0 _ _ _ _ x _)=>x
  | _=>0
def jE:Option cY→Int
  | some (.r0 _ _ _ _ _ x)=>x
  | _=>0
theorem Ko{x:Option cY}(h:jV x=true) :x=some (.r0 (jz x) (jA x) (jB x) (jC x) (jD x) (jE x)):=by
  unfold jV at h
  split at h<;>first | rfl | (cases h;done) | (rename_i y;cases y;rfl)
def C9:aK:=cV vF (.cons (.agg (.cons .bool (.cons (.ns .u64) (.cons (.int .i64) .nil)))) .nil) fun t=>(fun q=>[⟨wh (.r0 (jz q) (jA q) (jB q) (jC q) (jD q) (jE q)),[jV q]⟩]) (bA t.1.1 t.1.2.1.2 t.1.2.2.1)
theorem FZ:aQ prog C9:=aX fun t=>(aY (fun h=>Kn t.1.1 t.1.2.1.1 t.1.2.1.2 t.1.2.2.1 (Ko h)) bE)
def Da:List aK:=C9::Aw
theorem qw:bj prog (bv Da):=ax FZ kR
inductive cO where
  | r0 (a:Nat) (b:Bool) (c:List Int) (d:Nat) (e:Nat) (f:Int)
def Az:cO→AE×aG
  | .r0 a b c d e f=>(.ret,⟨an 21 [(7,.ptr 0 1 0 0),(8,.int .i64 ((a:Nat):Int))],[(0,.vs [.bool false b,.imm .free (.ns .u64 c) 1 1 d e,.int .i64 f])],1⟩)
theorem Hm:mW Az:=by intro x;cases x<;>(intro h;cases h)
def tX:cO→jj
  | .r0 a b c d e f=>⟨.tup [.agg [.bool false b,.imm .free (.ns .u64 c) 1 1 d e,.int .i64 f],.int .i64 ((a:Nat):Int)],[]⟩
def Hn:Nat×Bool×(List Int)×Nat×Nat×Int→aG:=fun (a,b,c,d,e,f)=>⟨an 21 [(7,.ptr 0 1 0 0),(8,.int .i64 ((a:Nat):Int))],[(0,.vs [.bool false b,.imm .free (.ns .u64 c) 1 1 d e,.int .i64 f])],1⟩
def ya(b:Bool)(a:List Int)(d:Int)(c:Int) :T ((Nat×Bool×(List Int)×Nat×Nat×Int)⊕(cO)) :=
  .ask (d != (0:Int))
    (.leaf (.inr (.r0 3 false ([]:List Int) 0 0 (0:Int))))
    (.need (a6 0 (List.length a) a)<|.need (jV (bA b (aa 0 (List.length a) a) c))<|.leaf (.inl ((jz (bA b (aa 0 (List.length a) a) c)),(jA (bA b (aa 0 (List.length a) a) c)),(jB (bA b (aa 0 (List.length a) a) c)),(jC (bA b (aa 0 (List.length a) a) c)),(jD (bA b (aa 0 (List.length a) a) c)),(jE (bA b (aa 0 (List.length a) a) c)))))
def Ho(a:Nat)(b:Bool)(c:List Int)(d:Nat)(e:Nat)(f:Int) :T ((Empty)⊕(cO)) :=
  .leaf (.inr (.r0 a b c d e f))
def bu(a:Bool)(b:List Int)(c:Int)(d:Int) :Option cO:=pm (aH ((ya a b c d).run) fun (e,f,g,h,i,j) =>
  (Ho e f g h i j).run)
theorem Hp(b:Bool)(g:Lv)(a:List Int)(c:Int)(i:Lv)(d:Int)(j:Lv)(e:List Int)(k:Lv)(f:List Int){x:cO}(h:bu b a c d=some x) :ai prog jL [] [.bool false b,.imm g (.ns .u64 a) 1 1 0 (List.length a),.int .i64 c,.iptr i (.vs [.int .i64 d,.imm j (.ns .u64 e) 1 1 0 (List.length e),.imm k (.ns .u64 f) 1 1 0 (List.length f)]) 1 0 0] (tX x) :=
  qH false tX Az h (Sg.cut 4 Hm (bM qw Hn [⟨[(.cell 0 1,.fre 1 1 (.ns .u64 ([]:List Int)))],[0],[7,8]⟩,⟨[],[0],[7,8]⟩]) (fun ⟨r,s,t,u,v,w⟩=>bM qw _ [⟨[],[0],[7,8]⟩]))
    (fun x=>by cases x with | r0 l m n o p q=>exact pn [.agg [.bool false m,.imm .free (.ns .u64 n) 1 1 o p,.int .i64 q],.int .i64 ((l:Nat):Int)])
def iO:Option cO→Bool
  | some _=>true
  | none=>false
def iE:Option cO→Nat
  | some (.r0 x _ _ _ _ _)=>x
  | _=>0
def iF:Option cO→Bool
  | some (.r0 _ x _ _ _ _)=>x
  | _=>false
def iG:Option cO→List Int
  | some (.r0 _ _ x _ _ _)=>x
  | _=>[]
def iH:Option cO→Nat
  | some (.r0 _ _ _ x _ _)=>x
  | _=>0
def iI:Option cO→Nat
  | some (.r0 _ _ _ _ x _)=>x
  | _=>0
def iJ:Option cO→Int
  | some (.r0 _ _ _ _ _ x)=>x
  | _=>0
theorem Hq{x:Option cO}(h:iO x=true) :x=some (.r0 (iE x) (iF x) (iG x) (iH x) (iI x) (iJ x)):=by
  unfold iO at h
  split at h<;>first | rfl | (cases h;done) | (rename_i y;cases y;rfl)
def AA:aK:=cV jL (.cons .bool (.cons (.ns .u64) (.cons (.int .i64) (.cons (.ivs (.cons (.int .i64) (.cons (.ns .u64) (.cons (.ns .u64) .nil))) 1 0 0) .nil)))) fun t=>(fun q=>[⟨tX (.r0 (iE q) (iF q) (iG q) (iH q) (iI q) (iJ q)),[iO q]⟩]) (bu t.1 t.2.1.2 t.2.2.1 t.2.2.2.1.2.1)
theorem Dw:aQ prog AA:=aX fun t=>(aY (fun h=>Hp t.1 t.2.1.1 t.2.1.2 t.2.2.1 t.2.2.2.1.1 t.2.2.2.1.2.1 t.2.2.2.1.2.2.1.1 t.2.2.2.1.2.2.1.2 t.2.2.2.1.2.2.2.1.1 t.2.2.2.1.2.2.2.1.2 (Hq h)) bE)
def AB:List aK:=AA::Da
theorem dC:bj prog (bv AB):=ax Dw qw
inductive cu where
  | r0 (a:Nat) (b:Bool) (c:List Int) (d:Nat) (e:Nat) (f:Int)
def F0:cu→AE×aG
  | .r0 a b c d e f=>(.ret,⟨an 97 [(4,.ptr 0 1 0 0),(5,.int .i64 ((a:Nat):Int))],[(0,.vs [.bool false b,.imm .free (.ns .u64 c) 1 1 d e,.int .i64 f])],1⟩)
theorem jF:mW F0:=by intro x;cases x<;>(intro h;cases h)
def zk:cu→jj
  | .r0 a b c d e f=>⟨.tup [.agg [.bool false b,.imm .free (.ns .u64 c) 1 1 d e,.int .i64 f],.int .i64 ((a:Nat):Int)],[]⟩
def Nb(a:Lv)(b:Lv) :Nat×Bool×(List Int)×Nat×Nat×Int×Bool×(List Int)×Nat×Nat×Int×Bool→aG:=fun (c,d,e,f,g,h,i,j,k,l,m,n)=>⟨an 97 [(2,.ptr 0 1 0 0),(3,.ptr 1 1 0 0),(4,.ptr 2 1 0 0),(6,.int .i64 ((c:Nat):Int))],[(0,.vs [.bool false d,.imm a (.ns .u64 e) 1 1 f g,.int .i64 h]),(1,.vs [.bool false i,.imm b (.ns .u64 j) 1 1 k l,.int .i64 m]),(2,.vs [.bool false n,.nsl,.int .i64 (0:Int)])],3⟩
def wi(d : Bool)(a : List Int)(c : Int)(f : Bool)(b : List Int)(e : Int) : T ((Nat × Bool × (List Int) × Nat × Nat × Int × Bool × (List Int) × Nat × Nat × Int × Bool) ⊕ (cu)) :=
  .ask (decide ((0:Int)<(2:Int)))
    (.need (gp (0:Int) 2)<|.need (a6 0 (List.length a) a)<|.need (fq (ct (aa 0 (List.length a) a) c))<|.ask (!(dX (ct (aa 0 (List.length a) a) c)))
      (.leaf (.inl (2,d,a,0,(List.length a),c,f,b,0,(List.length b),e,false)))
      (.need (a6 0 (List.length a) a)<|.need (di (ah d (aa 0 (List.length a) a) c))<|.need (gd .i64 (1:Int))<|.ask (decide ((1:Int)<(2:Int)))
        (.need (gp (1:Int) 2)<|.need (a6 0 (List.length b) b)<|.need (fq (ct (aa 0 (List.length b) b) e))<|.ask (!(dX (ct (aa 0 (List.length b) b) e)))
          (.leaf (.inl (2,(bO (ah d (aa 0 (List.length a) a) c)),(bP (ah d (aa 0 (List.length a) a) c)),(bQ (ah d (aa 0 (List.length a) a) c)),(bR (ah d (aa 0 (List.length a) a) c)),(bS (ah d (aa 0 (List.length a) a) c)),f,b,0,(List.length b),e,false)))
          (.need (a6 0 (List.length b) b)<|.need (di (ah f (aa 0 (List.length b) b) e))<|.need (gd .i64 (2:Int))<|.ask (decide ((2:Int)<(2:Int)))
            (.fail)
            (.leaf (.inl (0,(bO (ah d (aa 0 (List.length a) a) c)),(bP (ah d (aa 0 (List.length a) a) c)),(bQ (ah d (aa 0 (List.length a) a) c)),(bR (ah d (aa 0 (List.length a) a) c)),(bS (ah d (aa 0 (List.length a) a) c)),(bO (ah f (aa 0 (List.length b) b) e)),(bP (ah f (aa 0 (List.length b) b) e)),(bQ (ah f (aa 0 (List.length b) b) e)),(bR (ah f (aa 0 (List.length b) b) e)),(bS (ah f (aa 0 (List.length b) b) e)),false)))))
        (.fail)))
    (.fail)
def Nc(a:Lv)(b:Lv)(c:Bool)(d:List Int)(e:Nat)(f:Nat)(g:Int)(h:Bool)(i:List Int)(j:Nat)(k:Nat)(l:Int)(m:Bool) :Nat×Int×(List Int)×Nat×(List Int)×Nat→aG:=fun (n,o,p,q,r,s)=>⟨an 97 [(2,.ptr 0 1 0 0),(3,.ptr 1 1 0 0),(4,.ptr 2 1 0 0),(7,.ptr 3 1 0 0),(8,.int .i64 ((n:Nat):Int))],[(0,.vs [.bool false c,.imm a (.ns .u64 d) 1 1 e f,.int .i64 g]),(1,.vs [.bool false h,.imm b (.ns .u64 i) 1 1 j k,.int .i64 l]),(2,.vs [.bool false m,.nsl,.int .i64 (0:Int)]),(3,.vs [.int .i64 o,.imm .free (.ns .u64 p) 1 1 0 q,.imm .free (.ns .u64 r) 1 1 0 s])],4⟩
def tY(i:Nat)(a:List Int)(b:Nat)(c:Nat)(g:Int)(d:List Int)(e:Nat)(f:Nat)(h:Int) :T ((Nat×Int×(List Int)×Nat×(List Int)×Nat)⊕(cu)) :=
  .ask (((i:Nat):Int) != (0:Int))
    (.leaf (.inr (.r0 i false ([]:List Int) 0 0 (0:Int))))
    (.need (a6 b c a)<|.need (a6 e f d)<|.need (kh (bW (aa b c a) g (aa e f d) h))<|.leaf (.inl ((kL (bW (aa b c a) g (aa e f d) h)),(kM (bW (aa b c a) g (aa e f d) h)),(kN (bW (aa b c a) g (aa e f d) h)),(kO (bW (aa b c a) g (aa e f d) h)),(kP (bW (aa b c a) g (aa e f d) h)),(kQ (bW (aa b c a) g (aa e f d) h)))))
def Nd(a:Lv)(b:Lv)(c:Bool)(d:List Int)(e:Nat)(f:Nat)(g:Int)(h:Bool)(i:List Int)(j:Nat)(k:Nat)(l:Int)(m:Bool)(n:Int)(o:List Int)(p:Nat)(q:List Int)(r:Nat)(_:Unit) :aG:=⟨an 97 [(2,.ptr 0 1 0 0),(3,.ptr 1 1 0 0),(4,.ptr 2 1 0 0),(7,.ptr 3 1 0 0),(9,.fn (.func jL) [] [.ptr 3 1 0 0])],[(0,.vs [.bool false c,.imm a (.ns .u64 d) 1 1 e f,.int .i64 g]),(1,.vs [.bool false h,.imm b (.ns .u64 i) 1 1 j k,.int .i64 l]),(2,.vs [.bool false m,.nsl,.int .i64 (0:Int)]),(3,.vs [.int .i64 n,.imm .free (.ns .u64 o) 1 1 0 p,.imm .free (.ns .u64 q) 1 1 0 r])],4⟩
def mf(e:Bool)(h:Bool)(g:Nat)(f:Int)(a:List Int)(b:Nat)(c:List Int)(d:Nat) :T ((Unit)⊕(cu)) :=
  .ask (((g:Nat):Int) != (0:Int))
    (.leaf (.inr (.r0 g false ([]:List Int) 0 0 (0:Int))))
    (.ask (e==h)
      (.need (a6 0 b a)<|.need (a6 0 d c)<|.need (qn (bt (aa 0 b a) (aa 0 d c)))<|.need (a6 (ed (bt (aa 0 b a) (aa 0 d c))) (ee (bt (aa 0 b a) (aa 0 d c))) (eg (bt (aa 0 b a) (aa 0 d c))))<|.need (a6 0 b a)<|.need (a6 0 d c)<|.need (iO (bu e (aa (ed (bt (aa 0 b a) (aa 0 d c))) (ee (bt (aa 0 b a) (aa 0 d c))) (eg (bt (aa 0 b a) (aa 0 d c)))) (((fc (bt (aa 0 b a) (aa 0 d c))):Nat):Int) f))<|.leaf (.inr (.r0 (iE (bu e (aa (ed (bt (aa 0 b a) (aa 0 d c))) (ee (bt (aa 0 b a) (aa 0 d c))) (eg (bt (aa 0 b a) (aa 0 d c)))) (((fc (bt (aa 0 b a) (aa 0 d c))):Nat):Int) f)) (iF (bu e (aa (ed (bt (aa 0 b a) (aa 0 d c))) (ee (bt (aa 0 b a) (aa 0 d c))) (eg (bt (aa 0 b a) (aa 0 d c)))) (((fc (bt (aa 0 b a) (aa 0 d c))):Nat):Int) f)) (iG (bu e (aa (ed (bt (aa 0 b a) (aa 0 d c))) (ee (bt (aa 0 b a) (aa 0 d c))) (eg (bt (aa 0 b a) (aa 0 d c)))) (((fc (bt (aa 0 b a) (aa 0 d c))):Nat):Int) f)) (iH (bu e (aa (ed (bt (aa 0 b a) (aa 0 d c))) (ee (bt (aa 0 b a) (aa 0 d c))) (eg (bt (aa 0 b a) (aa 0 d c)))) (((fc (bt (aa 0 b a) (aa 0 d c))):Nat):Int) f)) (iI (bu e (aa (ed (bt (aa 0 b a) (aa 0 d c))) (ee (bt (aa 0 b a) (aa 0 d c))) (eg (bt (aa 0 b a) (aa 0 d c)))) (((fc (bt (aa 0 b a) (aa 0 d c))):Nat):Int) f)) (iJ (bu e (aa (ed (bt (aa 0 b a) (aa 0 d c))) (ee (bt (aa 0 b a) (aa 0 d c))) (eg (bt (aa 0 b a) (aa 0 d c)))) (((fc (bt (aa 0 b a) (aa 0 d c))):Nat):Int) f)))))
      (.leaf (.inl ())))
def Ne(a:Lv)(b:Lv)(c:Bool)(d:List Int)(e:Nat)(f:Nat)(g:Int)(h:Bool)(i:List Int)(j:Nat)(k:Nat)(l:Int)(m:Bool)(n:Int)(o:List Int)(p:Nat)(q:List Int)(r:Nat)(s:Int) :aG:=⟨an 97 [(2,.ptr 0 1 0 0),(3,.ptr 1 1 0 0),(4,.ptr 2 1 0 0),(7,.ptr 3 1 0 0),(9,.fn (.func jL) [] [.ptr 3 1 0 0]),(12,.int .i64 s)],[(0,.vs [.bool false c,.imm a (.ns .u64 d) 1 1 e f,.int .i64 g]),(1,.vs [.bool false h,.imm b (.ns .u64 i) 1 1 j k,.int .i64 l]),(2,.vs [.bool false m,.nsl,.int .i64 (0:Int)]),(3,.vs [.int .i64 n,.imm .free (.ns .u64 o) 1 1 0 p,.imm .free (.ns .u64 q) 1 1 0 r])],4⟩
def tZ(a:List Int)(b:Nat)(c:List Int)(d:Nat) :T ((Int)⊕(cu)) :=
  .need (a6 0 b a)<|.need (a6 0 d c)<|.need (qm (nu (aa 0 b a) (aa 0 d c)))<|.leaf (.inl (pL (nu (aa 0 b a) (aa 0 d c))))
def Nf(a:Lv)(b:Bool)(c:List Int)(d:Nat)(e:Nat)(f:Int)(g:Bool)(h:Int)(i:List Int)(j:Nat)(k:List Int)(l:Nat)(_:Unit) :aG:=⟨an 97 [(2,.ptr 0 1 0 0),(4,.ptr 1 1 0 0),(7,.ptr 2 1 0 0),(9,.fn (.func jL) [] [.ptr 2 1 0 0])],[(0,.vs [.bool false b,.imm a (.ns .u64 c) 1 1 d e,.int .i64 f]),(1,.vs [.bool false g,.nsl,.int .i64 (0:Int)]),(2,.vs [.int .i64 h,.imm .free (.ns .u64 i) 1 1 0 j,.imm .free (.ns .u64 k) 1 1 0 l])],3⟩
def t6(e:Bool)(f:Int)(a:List Int)(b:Nat)(c:List Int)(d:Nat)(g:Int) :T ((Unit)⊕(cu)) :=
  .ask (decide (g<(0:Int)))
    (.need (a6 0 d c)<|.need (a6 0 b a)<|.need (nC (aU (aa 0 d c) (aa 0 b a)))<|.need (a6 (dA (aU (aa 0 d c) (aa 0 b a))) (dB (aU (aa 0 d c) (aa 0 b a))) (dz (aU (aa 0 d c) (aa 0 b a))))<|.need (a6 0 b a)<|.need (a6 0 d c)<|.need (iO (bu e (aa (dA (aU (aa 0 d c) (aa 0 b a))) (dB (aU (aa 0 d c) (aa 0 b a))) (dz (aU (aa 0 d c) (aa 0 b a)))) (((eh (aU (aa 0 d c) (aa 0 b a))):Nat):Int) f))<|.leaf (.inr (.r0 (iE (bu e (aa (dA (aU (aa 0 d c) (aa 0 b a))) (dB (aU (aa 0 d c) (aa 0 b a))) (dz (aU (aa 0 d c) (aa 0 b a)))) (((eh (aU (aa 0 d c) (aa 0 b a))):Nat):Int) f)) (iF (bu e (aa (dA (aU (aa 0 d c) (aa 0 b a))) (dB (aU (aa 0 d c) (aa 0 b a))) (dz (aU (aa 0 d c) (aa 0 b a)))) (((eh (aU (aa 0 d c) (aa 0 b a))):Nat):Int) f)) (iG (bu e (aa (dA (aU (aa 0 d c) (aa 0 b a))) (dB (aU (aa 0 d c) (aa 0 b a))) (dz (aU (aa 0 d c) (aa 0 b a)))) (((eh (aU (aa 0 d c) (aa 0 b a))):Nat):Int) f)) (iH (bu e (aa (dA (aU (aa 0 d c) (aa 0 b a))) (dB (aU (aa 0 d c) (aa 0 b a))) (dz (aU (aa 0 d c) (aa 0 b a)))) (((eh (aU (aa 0 d c) (aa 0 b a))):Nat):Int) f)) (iI (bu e (aa (dA (aU (aa 0 d c) (aa 0 b a))) (dB (aU (aa 0 d c) (aa 0 b a))) (dz (aU (aa 0 d c) (aa 0 b a)))) (((eh (aU (aa 0 d c) (aa 0 b a))):Nat):Int) f)) (iJ (bu e (aa (dA (aU (aa 0 d c) (aa 0 b a))) (dB (aU (aa 0 d c) (aa 0 b a))) (dz (aU (aa 0 d c) (aa 0 b a)))) (((eh (aU (aa 0 d c) (aa 0 b a))):Nat):Int) f)))))
    (.leaf (.inl ()))
def Ng(a:Lv)(b:Bool)(c:List Int)(d:Nat)(e:Nat)(f:Int)(g:Bool)(h:Int)(i:List Int)(j:Nat)(k:List Int)(l:Nat) :Nat×(List Int)×Nat×Nat→aG:=fun (m,n,o,p)=>⟨an 97 [(2,.ptr 0 1 0 0),(4,.ptr 1 1 0 0),(8,.int .i64 ((m:Nat):Int)),(9,.fn (.func jL) [] [.ptr 2 1 0 0]),(16,.imm .free (.ns .u64 n) 1 1 o p)],[(0,.vs [.bool false b,.imm a (.ns .u64 c) 1 1 d e,.int .i64 f]),(1,.vs [.bool false g,.nsl,.int .i64 (0:Int)]),(2,.vs [.int .i64 h,.imm .free (.ns .u64 i) 1 1 0 j,.imm .free (.ns .u64 k) 1 1 0 l])],3⟩
def ua(a:List Int)(b:Nat)(c:List Int)(d:Nat) :T ((Nat×(List Int)×Nat×Nat)⊕(cu)) :=
  .need (a6 0 b a)<|.need (a6 0 d c)<|.need (nC (aU (aa 0 b a) (aa 0 d c)))<|.leaf (.inl ((eh (aU (aa 0 b a) (aa 0 d c))),(dz (aU (aa 0 b a) (aa 0 d c))),(dA (aU (aa 0 b a) (aa 0 d c))),(dB (aU (aa 0 b a) (aa 0 d c)))))
def Nh:Nat×Bool×(List Int)×Nat×Nat×Int→aG:=fun (a,b,c,d,e,f)=>⟨an 97 [(4,.ptr 0 1 0 0),(5,.int .i64 ((a:Nat):Int))],[(0,.vs [.bool false b,.imm .free (.ns .u64 c) 1 1 d e,.int .i64 f])],1⟩
def ub(d:Bool)(e:Int)(g:List Int)(h:Nat)(i:List Int)(j:Nat)(f:Nat)(a:List Int)(b:Nat)(c:Nat) :T ((Nat×Bool×(List Int)×Nat×Nat×Int)⊕(cu)) :=
  .need (a6 b c a)<|.need (a6 0 h g)<|.need (a6 0 j i)<|.need (iO (bu d (aa b c a) ((f:Nat):Int) e))<|.leaf (.inl ((iE (bu d (aa b c a) ((f:Nat):Int) e)),(iF (bu d (aa b c a) ((f:Nat):Int) e)),(iG (bu d (aa b c a) ((f:Nat):Int) e)),(iH (bu d (aa b c a) ((f:Nat):Int) e)),(iI (bu d (aa b c a) ((f:Nat):Int) e)),(iJ (bu d (aa b c a) ((f:Nat):Int) e))))
def Kp(a:Nat)(b:Bool)(c:List Int)(d:Nat)(e:Nat)(f:Int) :T ((Empty)⊕(cu)) :=
  .leaf (.inr (.r0 a b c d e f))
def bK(h:Bool)(i:List Int)(j:Int)(k:Bool)(l:List Int)(m:Int) :Option cu:=pm (aH ((wi h i j k l m).run) fun (n,f,o,p,q,r,g,s,t,u,v,I) =>
  aH ((tY n o p q r s t u v).run) fun (w,e,a,b,c,d) =>
  aH ((mf f g w e a b c d).run) fun _ =>
  aH ((tZ a b c d).run) fun x =>
  aH ((t6 g e a b c d x).run) fun _ =>
  aH ((ua a b c d).run) fun (y,z,A,B) =>
  aH ((ub f e a b c d y z A B).run) fun (C,D,E,F,G,H) =>
  (Kp C D E F G H).run)
theorem Ni(v:Bool)(a:Lv)(o:List Int)(w:Int)(y:Bool)(b:Lv)(p:List Int)(z:Int){x:cu}(h:bK v o w y p z=some x) :ai prog yM [] [.agg [.bool false v,.imm a (.ns .u64 o) 1 1 0 (List.length o),.int .i64 w],.agg [.bool false y,.imm b (.ns .u64 p) 1 1 0 (List.length p),.int .i64 z]] (zk x) :=
  qH true zk F0 h (Sg.cut 2 jF (bM dC (Nb a b) [⟨[],[0,16,32],[2,3,4,6]⟩,⟨[(.cell 0 1,.lev a)],[0,16,32],[2,3,4,6]⟩,⟨[(.cell 0 1,.lev a),(.cell 16 1,.lev b)],[0,16,32],[2,3,4,6]⟩]) (fun ⟨G,c,d,e,f,g,q,r,s,t,u,i⟩=>Sg.cut 3 jF (bM dC (Nc a b c d e f g q r s t u i) [⟨[(.cell 2 1,.fre 1 1 (.ns .u64 ([]:List Int)))],[2],[4,5]⟩,⟨[],[0,1,2,131],[2,3,4,7,8]⟩]) (fun ⟨H,j,k,l,m,n⟩=>Sg.cut 5 jF (bM dC (Nd a b c d e f g q r s t u i j k l m n) [⟨[(.cell 2 1,.fre 1 1 (.ns .u64 ([]:List Int)))],[2],[4,5]⟩,⟨[],[2],[4,5]⟩,⟨[],[0,1,2,3],[2,3,4,7,9]⟩]) (fun _=>Sg.cut 1 jF (bM dC (Ne a b c d e f g q r s t u i j k l m n) [⟨[],[0,1,2,3],[2,3,4,7,9,12]⟩]) (fun I=>Sg.cut 2 jF (bM dC (Nf a c d e f g i j k l m n) [⟨[],[2],[4,5]⟩,⟨[],[0,2,3],[2,4,7,9]⟩]) (fun _=>Sg.cut 1 jF (bM dC (Ng a c d e f g i j k l m n) [⟨[],[0,1,2],[2,4,8,9,16]⟩]) (fun ⟨J,K,L,M⟩=>Sg.cut 1 jF (bM dC Nh [⟨[],[1],[4,5]⟩]) (fun ⟨N,O,P,Q,R,S⟩=>bM dC _ [⟨[],[0],[4,5]⟩]))))))))
    (fun x=>by cases x with | r0 A B C D E F=>exact pn [.agg [.bool false B,.imm .free (.ns .u64 C) 1 1 D E,.int .i64 F],.int .i64 ((A:Nat):Int)])
def oO:Option cu→Bool
  | some _=>true
  | none=>false
def iP:Option cu→Nat
  | some (.r0 x _ _ _ _ _)=>x
  | _=>0
def ki:Option cu→Bool
  | some (.r0 _ x _ _ _ _)=>x
  | _=>false
def kj:Option cu→List Int
  | some (.r0 _ _ x _ _ _)=>x
  | _=>[]
def km:Option cu→Nat
  | some (.r0 _ _ _ x _ _)=>x
  | _=>0
def kp:Option cu→Nat
  | some (.r0 _ _ _ _ x _)=>x
  | _=>0
def kr:Option cu→Int
  | some (.r0 _ _ _ _ _ x)=>x
  | _=>0
theorem Nj{x:Option cu}(h:oO x=true) :x=some (.r0 (iP x) (ki x) (kj x) (km x) (kp x) (kr x)):=by
  unfold oO at h
  split at h<;>first | rfl | (cases h;done) | (rename_i y;cases y;rfl)
def F1:aK:=cV yM (.cons (.agg (.cons .bool (.cons (.ns .u64) (.cons (.int .i64) .nil)))) (.cons (.agg (.cons .bool (.cons (.ns .u64) (.cons (.int .i64) .nil)))) .nil)) fun t=>(fun q=>[⟨zk (.r0 (iP q) (ki q) (kj q) (km q) (kp q) (kr q)),[oO q]⟩]) (bK t.1.1 t.1.2.1.2 t.1.2.2.1 t.2.1.1 t.2.1.2.1.2 t.2.1.2.2.1)
theorem Hr:aQ prog F1:=aX fun t=>(aY (fun h=>Ni t.1.1 t.1.2.1.1 t.1.2.1.2 t.1.2.2.1 t.2.1.1 t.2.1.2.1.1 t.2.1.2.1.2 t.2.1.2.2.1 (Nj h)) bE)
def F2:List aK:=F1::AB
theorem ku:bj prog (bv F2):=ax Hr dC
inductive dl where
  | r0 (a:Nat) (b:Bool) (c:List Int) (d:Nat) (e:Nat) (f:Int)
def F3:dl→AE×aG
  | .r0 a b c d e f=>(.ret,⟨an 41 [(4,.ptr 0 1 0 0),(5,.int .i64 ((a:Nat):Int))],[(0,.vs [.bool false b,.imm .free (.ns .u64 c) 1 1 d e,.int .i64 f])],1⟩)
theorem wj:mW F3:=by intro x;cases x<;>(intro h;cases h)
def zl:dl→jj
  | .r0 a b c d e f=>⟨.tup [.agg [.bool false b,.imm .free (.ns .u64 c) 1 1 d e,.int .i64 f],.int .i64 ((a:Nat):Int)],[]⟩
def Nk(a:Lv)(b:Lv) :Nat×Bool×(List Int)×Nat×Nat×Int×Bool×(List Int)×Nat×Nat×Int×Bool→aG:=fun (c,d,e,f,g,h,i,j,k,l,m,n)=>⟨an 41 [(2,.ptr 0 1 0 0),(3,.ptr 1 1 0 0),(4,.ptr 2 1 0 0),(6,.int .i64 ((c:Nat):Int))],[(0,.vs [.bool false d,.imm a (.ns .u64 e) 1 1 f g,.int .i64 h]),(1,.vs [.bool false i,.imm b (.ns .u64 j) 1 1 k l,.int .i64 m]),(2,.vs [.bool false n,.nsl,.int .i64 (0:Int)])],3⟩
def Db(d : Bool)(a : List Int)(c : Int)(f : Bool)(b : List Int)(e : Int) : T ((Nat × Bool × (List Int) × Nat × Nat × Int × Bool × (List Int) × Nat × Nat × Int × Bool) ⊕ (dl)) :=
  .ask (decide ((0:Int)<(2:Int)))
    (.need (gp (0:Int) 2)<|.need (a6 0 (List.length a) a)<|.need (fq (ct (aa 0 (List.length a) a) c))<|.ask (!(dX (ct (aa 0 (List.length a) a) c)))
      (.leaf (.inl (2,d,a,0,(List.length a),c,f,b,0,(List.length b),e,false)))
      (.need (a6 0 (List.length a) a)<|.need (di (ah d (aa 0 (List.length a) a) c))<|.need (gd .i64 (1:Int))<|.ask (decide ((1:Int)<(2:Int)))
        (.need (gp (1:Int) 2)<|.need (a6 0 (List.length b) b)<|.need (fq (ct (aa 0 (List.length b) b) e))<|.ask (!(dX (ct (aa 0 (List.length b) b) e)))
          (.leaf (.inl (2,(bO (ah d (aa 0 (List.length a) a) c)),(bP (ah d (aa 0 (List.length a) a) c)),(bQ (ah d (aa 0 (List.length a) a) c)),(bR (ah d (aa 0 (List.length a) a) c)),(bS (ah d (aa 0 (List.length a) a) c)),f,b,0,(List.length b),e,false)))
          (.need (a6 0 (List.length b) b)<|.need (di (ah f (aa 0 (List.length b) b) e))<|.need (gd .i64 (2:Int))<|.ask (decide ((2:Int)<(2:Int)))
            (.fail)
            (.leaf (.inl (0,(bO (ah d (aa 0 (List.length a) a) c)),(bP (ah d (aa 0 (List.length a) a) c)),(bQ (ah d (aa 0 (List.length a) a) c)),(bR (ah d (aa 0 (List.length a) a) c)),(bS (ah d (aa 0 (List.length a) a) c)),(bO (ah f (aa 0 (List.length b) b) e)),(bP (ah f (aa 0 (List.length b) b) e)),(bQ (ah f (aa 0 (List.length b) b) e)),(bR (ah f (aa 0 (List.length b) b) e)),(bS (ah f (aa 0 (List.length b) b) e)),false)))))
        (.fail)))
    (.fail)
def Nl(a:Lv)(b:Lv)(c:Bool)(d:List Int)(e:Nat)(f:Nat)(g:Int)(h:Bool)(i:List Int)(j:Nat)(k:Nat)(l:Int)(m:Bool) :(List Int)×Nat×Nat×Nat→aG:=fun (n,o,p,q)=>⟨an 41 [(2,.ptr 0 1 0 0),(3,.ptr 1 1 0 0),(4,.ptr 2 1 0 0),(7,.imm .free (.ns .u64 n) 1 1 o p),(8,.int .i64 ((q:Nat):Int))],[(0,.vs [.bool false c,.imm a (.ns .u64 d) 1 1 e f,.int .i64 g]),(1,.vs [.bool false h,.imm b (.ns .u64 i) 1 1 j k,.int .i64 l]),(2,.vs [.bool false m,.nsl,.int .i64 (0:Int)])],3⟩
def wl(g:Nat)(a:List Int)(b:Nat)(c:Nat)(d:List Int)(e:Nat)(f:Nat) :T (((List Int)×Nat×Nat×Nat)⊕(dl)) :=
  .ask (((g:Nat):Int) != (0:Int))
    (.leaf (.inr (.r0 g false ([]:List Int) 0 0 (0:Int))))
    (.need (a6 b c a)<|.need (a6 e f d)<|.need (tx (lB (aa b c a) (aa e f d)))<|.leaf (.inl ((tD (lB (aa b c a) (aa e f d))),(tA (lB (aa b c a) (aa e f d))),(tB (lB (aa b c a) (aa e f d))),(tC (lB (aa b c a) (aa e f d))))))
def Nm:Nat×Bool×(List Int)×Nat×Nat×Int→aG:=fun (a,b,c,d,e,f)=>⟨an 41 [(4,.ptr 0 1 0 0),(5,.int .i64 ((a:Nat):Int))],[(0,.vs [.bool false b,.imm .free (.ns .u64 c) 1 1 d e,.int .i64 f])],1⟩
def wm(f:Bool)(a:Int)(g:Bool)(b:Int)(c:List Int)(d:Nat)(e:Nat)(h:Nat) :T ((Nat×Bool×(List Int)×Nat×Nat×Int)⊕(dl)) :=
  .ask (((h:Nat):Int) != (0:Int))
    (.leaf (.inr (.r0 3 false ([]:List Int) 0 0 (0:Int))))
    (.need (gd .i64 (a+b))<|.need (a6 d e c)<|.need (jV (bA (!(f==g)) (aa d e c) (a+b)))<|.leaf (.inl ((jz (bA (!(f==g)) (aa d e c) (a+b))),(jA (bA (!(f==g)) (aa d e c) (a+b))),(jB (bA (!(f==g)) (aa d e c) (a+b))),(jC (bA (!(f==g)) (aa d e c) (a+b))),(jD (bA (!(f==g)) (aa d e c) (a+b))),(jE (bA (!(f==g)) (aa d e c) (a+b))))))
def Nn(a:Nat)(b:Bool)(c:List Int)(d:Nat)(e:Nat)(f:Int) :T ((Empty)⊕(dl)) :=
  .leaf (.inr (.r0 a b c d e f))
def ac(a:Bool)(b:List Int)(c:Int)(d:Bool)(e:List Int)(f:Int) :Option dl:=pm (aH ((Db a b c d e f).run) fun (g,h,i,j,k,l,m,n,o,p,q,B) =>
  aH ((wl g i j k n o p).run) fun (r,s,t,u) =>
  aH ((wm h l m q r s t u).run) fun (v,w,x,y,z,A) =>
  (Nn v w x y z A).run)
theorem No(e:Bool)(a:Lv)(c:List Int)(f:Int)(g:Bool)(b:Lv)(d:List Int)(i:Int){x:dl}(h:ac e c f g d i=some x) :ai prog yK [] [.agg [.bool false e,.imm a (.ns .u64 c) 1 1 0 (List.length c),.int .i64 f],.agg [.bool false g,.imm b (.ns .u64 d) 1 1 0 (List.length d),.int .i64 i]] (zl x) :=
  qH true zl F3 h (Sg.cut 2 wj (bM ku (Nk a b) [⟨[],[0,16,32],[2,3,4,6]⟩,⟨[(.cell 0 1,.lev a)],[0,16,32],[2,3,4,6]⟩,⟨[(.cell 0 1,.lev a),(.cell 16 1,.lev b)],[0,16,32],[2,3,4,6]⟩]) (fun ⟨B,j,k,l,m,n,o,p,q,r,s,t⟩=>Sg.cut 3 wj (bM ku (Nl a b j k l m n o p q r s t) [⟨[(.cell 2 1,.fre 1 1 (.ns .u64 ([]:List Int)))],[2],[4,5]⟩,⟨[],[0,1,2],[2,3,4,7,8]⟩]) (fun ⟨C,D,E,F⟩=>Sg.cut 3 wj (bM ku Nm [⟨[(.cell 2 1,.fre 1 1 (.ns .u64 ([]:List Int)))],[2],[4,5]⟩,⟨[],[2],[4,5]⟩]) (fun ⟨G,H,I,J,K,L⟩=>bM ku _ [⟨[],[0],[4,5]⟩]))))
    (fun x=>by cases x with | r0 u v w y z A=>exact pn [.agg [.bool false v,.imm .free (.ns .u64 w) 1 1 y z,.int .i64 A],.int .i64 ((u:Nat):Int)])
def fQ:Option dl→Bool
  | some _=>true
  | none=>false
def dY:Option dl→Nat
  | some (.r0 x _ _ _ _ _)=>x
  | _=>0
def bm:Option dl→Bool
  | some (.r0 _ x _ _ _ _)=>x
  | _=>false
def bc:Option dl→List Int
  | some (.r0 _ _ x _ _ _)=>x
  | _=>[]
def bf:Option dl→Nat
  | some (.r0 _ _ _ x _ _)=>x
  | _=>0
def bg:Option dl→Nat
  | some (.r0 _ _ _ _ x _)=>x
  | _=>0
def bo:Option dl→Int
  | some (.r0 _ _ _ _ _ x)=>x
  | _=>0
theorem Np{x:Option dl}(h:fQ x=true) :x=some (.r0 (dY x) (bm x) (bc x) (bf x) (bg x) (bo x)):=by
  unfold fQ at h
  split at h<;>first | rfl | (cases h;done) | (rename_i y;cases y;rfl)
def F4:aK:=cV yK (.cons (.agg (.cons .bool (.cons (.ns .u64) (.cons (.int .i64) .nil)))) (.cons (.agg (.cons .bool (.cons (.ns .u64) (.cons (.int .i64) .nil)))) .nil)) fun t=>(fun q=>[⟨zl (.r0 (dY q) (bm q) (bc q) (bf q) (bg q) (bo q)),[fQ q]⟩]) (ac t.1.1 t.1.2.1.2 t.1.2.2.1 t.2.1.1 t.2.1.2.1.2 t.2.1.2.2.1)
theorem Hs:aQ prog F4:=aX fun t=>(aY (fun h=>No t.1.1 t.1.2.1.1 t.1.2.1.2 t.1.2.2.1 t.2.1.1 t.2.1.2.1.1 t.2.1.2.1.2 t.2.1.2.2.1 (Np h)) bE)
def F5:List aK:=F4::F2
theorem yc:bj prog (bv F5):=ax Hs ku
inductive ii where
  | r0 (a:Int)
def Nq:ii→AE×aG
  | .r0 a=>(.ret,⟨an 11 [(2,.int .i64 a)],[],0⟩)
def wq:ii→jj
  | .r0 a=>⟨.int .i64 a,[]⟩
def AC(a:Bool)(b:List Int) :T ((Empty)⊕(ii)) :=
  .ask ((((List.length b):Nat):Int)==(0:Int))
    (.leaf (.inr (.r0 (0:Int))))
    (.ask a
      (.leaf (.inr (.r0 (-1:Int))))
      (.leaf (.inr (.r0 (1:Int)))))
def dR(a:Bool)(b:List Int) :Option ii:=pm ((AC a b).run)
theorem Kq(b:Bool)(c:Lv)(a:List Int)(d:Int){x:ii}(h:dR b a=some x) :ai prog vG [] [.agg [.bool false b,.imm c (.ns .u64 a) 1 1 0 (List.length a),.int .i64 d]] (wq x) :=
  qH true wq Nq h (bM yc _ [⟨[],[],[2]⟩,⟨[],[],[2]⟩,⟨[],[],[2]⟩])
    (fun x=>by cases x with | r0 e=>exact pn [.int .i64 e])
def ff:Option ii→Bool
  | some _=>true
  | none=>false
def cZ:Option ii→Int
  | some (.r0 x)=>x
  | _=>0
theorem Kr{x:Option ii}(h:ff x=true) :x=some (.r0 (cZ x)):=by
  unfold ff at h
  split at h<;>first | rfl | (cases h;done) | (rename_i y;cases y;rfl)
def Dc:aK:=cV vG (.cons (.agg (.cons .bool (.cons (.ns .u64) (.cons (.int .i64) .nil)))) .nil) fun t=>(fun q=>[⟨wq (.r0 (cZ q)),[ff q]⟩]) (dR t.1.1 t.1.2.1.2)
theorem F6:aQ prog Dc:=aX fun t=>(aY (fun h=>Kq t.1.1 t.1.2.1.1 t.1.2.1.2 t.1.2.2.1 (Kr h)) bE)
def Dd:List aK:=Dc::F5
theorem gT:bj prog (bv Dd):=ax F6 yc
inductive eQ where
  | r0 (a:Int) (b:Nat)
def F7:eQ→AE×aG
  | .r0 a b=>(.ret,⟨an 52 [(4,.int .i64 a),(5,.int .i64 ((b:Nat):Int))],[],0⟩)
theorem rq:mW F7:=by intro x;cases x<;>(intro h;cases h)
def zm:eQ→jj
  | .r0 a b=>⟨.tup [.int .i64 a,.int .i64 ((b:Nat):Int)],[]⟩
def Nr(a:Lv)(b:Lv) :Nat×Bool×(List Int)×Nat×Nat×Int×Bool×(List Int)×Nat×Nat×Int→aG:=fun (c,d,e,f,g,h,i,j,k,l,m)=>⟨an 52 [(2,.ptr 0 1 0 0),(3,.ptr 1 1 0 0),(6,.int .i64 ((c:Nat):Int))],[(0,.vs [.bool false d,.imm a (.ns .u64 e) 1 1 f g,.int .i64 h]),(1,.vs [.bool false i,.imm b (.ns .u64 j) 1 1 k l,.int .i64 m])],2⟩
def De(d : Bool)(a : List Int)(c : Int)(f : Bool)(b : List Int)(e : Int) : T ((Nat × Bool × (List Int) × Nat × Nat × Int × Bool × (List Int) × Nat × Nat × Int) ⊕ (eQ)) :=
  .ask (decide ((0:Int)<(2:Int)))
    (.need (gp (0:Int) 2)<|.need (a6 0 (List.length a) a)<|.need (fq (ct (aa 0 (List.length a) a) c))<|.ask (!(dX (ct (aa 0 (List.length a) a) c)))
      (.leaf (.inl (2,d,a,0,(List.length a),c,f,b,0,(List.length b),e)))
      (.need (a6 0 (List.length a) a)<|.need (di (ah d (aa 0 (List.length a) a) c))<|.need (gd .i64 (1:Int))<|.ask (decide ((1:Int)<(2:Int)))
        (.need (gp (1:Int) 2)<|.need (a6 0 (List.length b) b)<|.need (fq (ct (aa 0 (List.length b) b) e))<|.ask (!(dX (ct (aa 0 (List.length b) b) e)))
          (.leaf (.inl (2,(bO (ah d (aa 0 (List.length a) a) c)),(bP (ah d (aa 0 (List.length a) a) c)),(bQ (ah d (aa 0 (List.length a) a) c)),(bR (ah d (aa 0 (List.length a) a) c)),(bS (ah d (aa 0 (List.length a) a) c)),f,b,0,(List.length b),e)))
          (.need (a6 0 (List.length b) b)<|.need (di (ah f (aa 0 (List.length b) b) e))<|.need (gd .i64 (2:Int))<|.ask (decide ((2:Int)<(2:Int)))
            (.fail)
            (.leaf (.inl (0,(bO (ah d (aa 0 (List.length a) a) c)),(bP (ah d (aa 0 (List.length a) a) c)),(bQ (ah d (aa 0 (List.length a) a) c)),(bR (ah d (aa 0 (List.length a) a) c)),(bS (ah d (aa 0 (List.length a) a) c)),(bO (ah f (aa 0 (List.length b) b) e)),(bP (ah f (aa 0 (List.length b) b) e)),(bQ (ah f (aa 0 (List.length b) b) e)),(bR (ah f (aa 0 (List.length b) b) e)),(bS (ah f (aa 0 (List.length b) b) e)))))))
        (.fail)))
    (.fail)
def Ns(a:Lv)(b:Lv)(c:Bool)(d:List Int)(e:Nat)(f:Nat)(g:Int)(h:Bool)(i:List Int)(j:Nat)(k:Nat)(l:Int) :Nat×Int×(List Int)×Nat×(List Int)×Nat→aG:=fun (m,n,o,p,q,r)=>⟨an 52 [(2,.ptr 0 1 0 0),(3,.ptr 1 1 0 0),(7,.ptr 2 1 0 0),(8,.int .i64 ((m:Nat):Int))],[(0,.vs [.bool false c,.imm a (.ns .u64 d) 1 1 e f,.int .i64 g]),(1,.vs [.bool false h,.imm b (.ns .u64 i) 1 1 j k,.int .i64 l]),(2,.vs [.int .i64 n,.imm .free (.ns .u64 o) 1 1 0 p,.imm .free (.ns .u64 q) 1 1 0 r])],3⟩
def ws(i:Nat)(a:List Int)(b:Nat)(c:Nat)(g:Int)(d:List Int)(e:Nat)(f:Nat)(h:Int) :T ((Nat×Int×(List Int)×Nat×(List Int)×Nat)⊕(eQ)) :=
  .ask (((i:Nat):Int) != (0:Int))
    (.leaf (.inr (.r0 (0:Int) i)))
    (.need (a6 b c a)<|.need (a6 e f d)<|.need (kh (bW (aa b c a) g (aa e f d) h))<|.leaf (.inl ((kL (bW (aa b c a) g (aa e f d) h)),(kM (bW (aa b c a) g (aa e f d) h)),(kN (bW (aa b c a) g (aa e f d) h)),(kO (bW (aa b c a) g (aa e f d) h)),(kP (bW (aa b c a) g (aa e f d) h)),(kQ (bW (aa b c a) g (aa e f d) h)))))
def Nt(a:Lv)(b:Lv)(c:Bool)(d:List Int)(e:Nat)(f:Nat)(g:Int)(h:Bool)(i:List Int)(j:Nat)(k:Nat)(l:Int)(m:Int) :aG:=⟨an 52 [(2,.ptr 0 1 0 0),(3,.ptr 1 1 0 0),(9,.int .i64 m)],[(0,.vs [.bool false c,.imm a (.ns .u64 d) 1 1 e f,.int .i64 g]),(1,.vs [.bool false h,.imm b (.ns .u64 i) 1 1 j k,.int .i64 l])],2⟩
def wt(e:Nat)(a:List Int)(b:Nat)(c:List Int)(d:Nat) :T ((Int)⊕(eQ)) :=
  .ask (((e:Nat):Int) != (0:Int))
    (.leaf (.inr (.r0 (0:Int) e)))
    (.need (a6 0 b a)<|.need (a6 0 d c)<|.need (qm (nu (aa 0 b a) (aa 0 d c)))<|.leaf (.inl (pL (nu (aa 0 b a) (aa 0 d c)))))
def Nu(a:Int)(_:Unit) :aG:=⟨an 52 [(9,.int .i64 a)],[],0⟩
def lD(g:Bool)(a:List Int)(b:Nat)(c:Nat)(h:Bool)(d:List Int)(e:Nat)(f:Nat)(i:Int) :T ((Unit)⊕(eQ)) :=
  .need (a6 b c a)<|.need (ff (dR g (aa b c a)))<|.need (a6 e f d)<|.need (ff (dR h (aa e f d)))<|.ask ((cZ (dR g (aa b c a))) != (cZ (dR h (aa e f d))))
    (.need (a6 b c a)<|.need (ff (dR g (aa b c a)))<|.need (a6 e f d)<|.need (ff (dR h (aa e f d)))<|.need (gd .i64 ((cZ (dR g (aa b c a)))-(cZ (dR h (aa e f d)))))<|.leaf (.inr (.r0 (ry (-1:Int) (qJ (1:Int) ((cZ (dR g (aa b c a)))-(cZ (dR h (aa e f d)))))) 0)))
    (.ask g
      (.need (gd .i64 ((0:Int)-i))<|.leaf (.inr (.r0 ((0:Int)-i) 0)))
      (.leaf (.inl ())))
def Ks(a:Int) :T ((Empty)⊕(eQ)) :=
  .leaf (.inr (.r0 a 0))
def io(h:Bool)(i:List Int)(j:Int)(k:Bool)(l:List Int)(m:Int) :Option eQ:=pm (aH ((De h i j k l m).run) fun (n,o,a,b,c,p,q,d,e,f,r) =>
  aH ((ws n a b c p d e f r).run) fun (s,x,t,u,v,w) =>
  aH ((wt s t u v w).run) fun g =>
  aH ((lD o a b c q d e f g).run) fun _ =>
  (Ks g).run)
theorem Nv(e:Bool)(a:Lv)(c:List Int)(f:Int)(g:Bool)(b:Lv)(d:List Int)(i:Int){x:eQ}(h:io e c f g d i=some x) :ai prog yL [] [.agg [.bool false e,.imm a (.ns .u64 c) 1 1 0 (List.length c),.int .i64 f],.agg [.bool false g,.imm b (.ns .u64 d) 1 1 0 (List.length d),.int .i64 i]] (zm x) :=
  qH true zm F7 h (Sg.cut 2 rq (bM gT (Nr a b) [⟨[],[0,16],[2,3,6]⟩,⟨[(.cell 0 1,.lev a)],[0,16],[2,3,6]⟩,⟨[(.cell 0 1,.lev a),(.cell 16 1,.lev b)],[0,16],[2,3,6]⟩]) (fun ⟨w,j,k,l,m,n,o,p,q,r,s⟩=>Sg.cut 3 rq (bM gT (Ns a b j k l m n o p q r s) [⟨[],[],[4,5]⟩,⟨[],[0,1,130],[2,3,7,8]⟩]) (fun ⟨y,z,A,B,C,D⟩=>Sg.cut 3 rq (bM gT (Nt a b j k l m n o p q r s) [⟨[],[],[4,5]⟩,⟨[],[0,1],[2,3,9]⟩]) (fun t=>Sg.cut 1 rq (bM gT (Nu t) [⟨[],[],[4,5]⟩,⟨[],[],[4,5]⟩,⟨[],[],[9]⟩]) (fun _=>bM gT _ [⟨[],[],[4,5]⟩])))))
    (fun x=>by cases x with | r0 u v=>exact pn [.int .i64 u,.int .i64 ((v:Nat):Int)])
def oP:Option eQ→Bool
  | some _=>true
  | none=>false
def oi:Option eQ→Int
  | some (.r0 x _)=>x
  | _=>0
def oj:Option eQ→Nat
  | some (.r0 _ x)=>x
  | _=>0
theorem Nw{x:Option eQ}(h:oP x=true) :x=some (.r0 (oi x) (oj x)):=by
  unfold oP at h
  split at h<;>first | rfl | (cases h;done) | (rename_i y;cases y;rfl)
def F8:aK:=cV yL (.cons (.agg (.cons .bool (.cons (.ns .u64) (.cons (.int .i64) .nil)))) (.cons (.agg (.cons .bool (.cons (.ns .u64) (.cons (.int .i64) .nil)))) .nil)) fun t=>(fun q=>[⟨zm (.r0 (oi q) (oj q)),[oP q]⟩]) (io t.1.1 t.1.2.1.2 t.1.2.2.1 t.2.1.1 t.2.1.2.1.2 t.2.1.2.2.1)
theorem Ht:aQ prog F8:=aX fun t=>(aY (fun h=>Nv t.1.1 t.1.2.1.1 t.1.2.1.2 t.1.2.2.1 t.2.1.1 t.2.1.2.1.1 t.2.1.2.1.2 t.2.1.2.2.1 (Nw h)) bE)
def F9:List aK:=F8::Dd
theorem kw:bj prog (bv F9):=ax Ht gT
inductive cj where
  | r0 (a:Nat) (b:Bool) (c:List Int) (d:Nat) (e:Nat) (f:Int)
def AD:cj→AE×aG
  | .r0 a b c d e f=>(.ret,⟨an 30 [(4,.ptr 0 1 0 0),(5,.int .i64 ((a:Nat):Int))],[(0,.vs [.bool false b,.imm .free (.ns .u64 c) 1 1 d e,.int .i64 f])],1⟩)
theorem rQ:mW AD:=by intro x;cases x<;>(intro h;cases h)
def uc:cj→jj
  | .r0 a b c d e f=>⟨.tup [.agg [.bool false b,.imm .free (.ns .u64 c) 1 1 d e,.int .i64 f],.int .i64 ((a:Nat):Int)],[]⟩
def Hu(a:Lv)(b:Int) :Nat×Bool×(List Int)×Nat×Nat×Int×Bool→aG:=fun (c,d,e,f,g,h,i)=>⟨an 30 [(1,.int .i64 b),(2,.ptr 0 1 0 0),(4,.ptr 1 1 0 0),(6,.int .i64 ((c:Nat):Int))],[(0,.vs [.bool false d,.imm a (.ns .u64 e) 1 1 f g,.int .i64 h]),(1,.vs [.bool false i,.nsl,.int .i64 (0:Int)])],2⟩
def rR(c:Bool)(a:List Int)(b:Int) :T ((Nat×Bool×(List Int)×Nat×Nat×Int×Bool)⊕(cj)) :=
  .ask (decide ((0:Int)<(1:Int)))
    (.need (gp (0:Int) 1)<|.need (a6 0 (List.length a) a)<|.need (fq (ct (aa 0 (List.length a) a) b))<|.ask (!(dX (ct (aa 0 (List.length a) a) b)))
      (.leaf (.inl (2,c,a,0,(List.length a),b,false)))
      (.need (a6 0 (List.length a) a)<|.need (di (ah c (aa 0 (List.length a) a) b))<|.need (gd .i64 (1:Int))<|.ask (decide ((1:Int)<(1:Int)))
        (.fail)
        (.leaf (.inl (0,(bO (ah c (aa 0 (List.length a) a) b)),(bP (ah c (aa 0 (List.length a) a) b)),(bQ (ah c (aa 0 (List.length a) a) b)),(bR (ah c (aa 0 (List.length a) a) b)),(bS (ah c (aa 0 (List.length a) a) b)),false)))))
    (.fail)
def Hv(a:Lv)(b:Int)(c:Nat)(d:Bool)(e:List Int)(f:Nat)(g:Nat)(h:Int)(i:Bool)(j:Bool) :aG:=⟨an 30 [(1,.int .i64 b),(2,.ptr 0 1 0 0),(4,.ptr 1 1 0 0),(6,.int .i64 ((c:Nat):Int)),(16,.bool false j)],[(0,.vs [.bool false d,.imm a (.ns .u64 e) 1 1 f g,.int .i64 h]),(1,.vs [.bool false i,.nsl,.int .i64 (0:Int)])],2⟩
def Hw(a:Nat)(b:Nat) :T ((Bool)⊕(cj)) :=
  .ask (((a:Nat):Int) != (0:Int))
    (.leaf (.inl true))
    (.leaf (.inl (((b:Nat):Int)==(0:Int))))
def Hx:Nat×Bool×(List Int)×Nat×Nat×Int→aG:=fun (a,b,c,d,e,f)=>⟨an 30 [(4,.ptr 0 1 0 0),(5,.int .i64 ((a:Nat):Int))],[(0,.vs [.bool false b,.imm .free (.ns .u64 c) 1 1 d e,.int .i64 f])],1⟩
def rS(a:Int)(g:Nat)(f:Bool)(b:List Int)(c:Nat)(d:Nat)(e:Int)(h:Bool) :T ((Nat×Bool×(List Int)×Nat×Nat×Int)⊕(cj)) :=
  .ask h
    (.leaf (.inr (.r0 g false ([]:List Int) 0 0 (0:Int))))
    (.need (gd .i64 (e+(ry (-1048576:Int) (qJ (1048576:Int) a))))<|.need (a6 c d b)<|.need (jV (bA f (aa c d b) (e+(ry (-1048576:Int) (qJ (1048576:Int) a)))))<|.leaf (.inl ((jz (bA f (aa c d b) (e+(ry (-1048576:Int) (qJ (1048576:Int) a))))),(jA (bA f (aa c d b) (e+(ry (-1048576:Int) (qJ (1048576:Int) a))))),(jB (bA f (aa c d b) (e+(ry (-1048576:Int) (qJ (1048576:Int) a))))),(jC (bA f (aa c d b) (e+(ry (-1048576:Int) (qJ (1048576:Int) a))))),(jD (bA f (aa c d b) (e+(ry (-1048576:Int) (qJ (1048576:Int) a))))),(jE (bA f (aa c d b) (e+(ry (-1048576:Int) (qJ (1048576:Int) a))))))))
def Hy(a:Nat)(b:Bool)(c:List Int)(d:Nat)(e:Nat)(f:Int) :T ((Empty)⊕(cj)) :=
  .leaf (.inr (.r0 a b c d e f))
def fg(c:Bool)(d:List Int)(e:Int)(f:Int) :Option cj:=pm (aH ((rR c d e).run) fun (a,g,h,i,b,j,r) =>
  aH ((Hw a b).run) fun k =>
  aH ((rS f a g h i b j k).run) fun (l,m,n,o,p,q) =>
  (Hy l m n o p q).run)
theorem Hz(d:Bool)(a:Lv)(c:List Int)(e:Int)(b:Int){x:cj}(h:fg d c e b=some x) :ai prog s8 [] [.agg [.bool false d,.imm a (.ns .u64 c) 1 1 0 (List.length c),.int .i64 e],.int .i64 b] (uc x) :=
  qH true uc AD h (Sg.cut 2 rQ (bM kw (Hu a b) [⟨[],[0,16],[1,2,4,6]⟩,⟨[(.cell 0 1,.lev a)],[0,16],[1,2,4,6]⟩]) (fun ⟨f,g,i,j,k,l,m⟩=>Sg.cut 1 rQ (bM kw (Hv a b f g i j k l m) [⟨[],[0,1],[1,2,4,6,16]⟩,⟨[],[0,1],[1,2,4,6,16]⟩]) (fun t=>Sg.cut 3 rQ (bM kw Hx [⟨[(.cell 1 1,.fre 1 1 (.ns .u64 ([]:List Int)))],[1],[4,5]⟩,⟨[],[1],[4,5]⟩]) (fun ⟨u,v,w,y,z,A⟩=>bM kw _ [⟨[],[0],[4,5]⟩]))))
    (fun x=>by cases x with | r0 n o p q r s=>exact pn [.agg [.bool false o,.imm .free (.ns .u64 p) 1 1 q r,.int .i64 s],.int .i64 ((n:Nat):Int)])
def om:Option cj→Bool
  | some _=>true
  | none=>false
def o5:Option cj→Nat
  | some (.r0 x _ _ _ _ _)=>x
  | _=>0
def o6:Option cj→Bool
  | some (.r0 _ x _ _ _ _)=>x
  | _=>false
def o7:Option cj→List Int
  | some (.r0 _ _ x _ _ _)=>x
  | _=>[]
def o8:Option cj→Nat
  | some (.r0 _ _ _ x _ _)=>x
  | _=>0
def o9:Option cj→Nat
  | some (.r0 _ _ _ _ x _)=>x
  | _=>0
def pa:Option cj→Int
  | some (.r0 _ _ _ _ _ x)=>x
  | _=>0
theorem HA{x:Option cj}(h:om x=true) :x=some (.r0 (o5 x) (o6 x) (o7 x) (o8 x) (o9 x) (pa x)):=by
  unfold om at h
  split at h<;>first | rfl | (cases h;done) | (rename_i y;cases y;rfl)
def AF:aK:=cV s8 (.cons (.agg (.cons .bool (.cons (.ns .u64) (.cons (.int .i64) .nil)))) (.cons (.int .i64) .nil)) fun t=>(fun q=>[⟨uc (.r0 (o5 q) (o6 q) (o7 q) (o8 q) (o9 q) (pa q)),[om q]⟩]) (fg t.1.1 t.1.2.1.2 t.1.2.2.1 t.2.1)
theorem Dx:aQ prog AF:=aX fun t=>(aY (fun h=>Hz t.1.1 t.1.2.1.1 t.1.2.1.2 t.1.2.2.1 t.2.1 (HA h)) bE)
def AG:List aK:=AF::F9
theorem kS:bj prog (bv AG):=ax Dx kw
inductive cP where
  | r0 (a:Bool) (b:List Int) (c:Nat) (d:Nat) (e:Int)
def AH:cP→AE×aG
  | .r0 a b c d e=>(.ret,⟨an 16 [(2,.ptr 0 1 0 0)],[(0,.vs [.bool false a,.imm .free (.ns .u64 b) 1 1 c d,.int .i64 e])],1⟩)
theorem yd:mW AH:=by intro x;cases x<;>(intro h;cases h)
def ud:cP→jj
  | .r0 a b c d e=>⟨.agg [.bool false a,.imm .free (.ns .u64 b) 1 1 c d,.int .i64 e],[]⟩
def HB(a:Int) :Int×Bool→aG:=fun (b,c)=>⟨an 16 [(0,.int .i64 a),(2,.ptr 0 1 0 0),(3,.int .u64 b)],[(0,.vs [.bool false c,.nsl,.int .i64 (0:Int)])],1⟩
def ye(a:Int) :T ((Int×Bool)⊕(cP)) :=
  .ask (decide (a<(0:Int)))
    (.leaf (.inl ((IntKind.u64.wrap ((0:Int)-(IntKind.u64.wrap a))),false)))
    (.leaf (.inl ((IntKind.u64.wrap a),false)))
def HC:Bool×(List Int)×Nat×Nat×Int→aG:=fun (a,b,c,d,e)=>⟨an 16 [(2,.ptr 0 1 0 0)],[(0,.vs [.bool false a,.imm .free (.ns .u64 b) 1 1 c d,.int .i64 e])],1⟩
def rT(b:Int)(a:Int) :T ((Bool×(List Int)×Nat×Nat×Int)⊕(cP)) :=
  .need (nr (aS a))<|.need (a6 (cd (aS a)) (cg (aS a)) (ch (aS a)))<|.need (di (ah (decide (b<(0:Int))) (aa (cd (aS a)) (cg (aS a)) (ch (aS a))) (0:Int)))<|.leaf (.inl ((bO (ah (decide (b<(0:Int))) (aa (cd (aS a)) (cg (aS a)) (ch (aS a))) (0:Int))),(bP (ah (decide (b<(0:Int))) (aa (cd (aS a)) (cg (aS a)) (ch (aS a))) (0:Int))),(bQ (ah (decide (b<(0:Int))) (aa (cd (aS a)) (cg (aS a)) (ch (aS a))) (0:Int))),(bR (ah (decide (b<(0:Int))) (aa (cd (aS a)) (cg (aS a)) (ch (aS a))) (0:Int))),(bS (ah (decide (b<(0:Int))) (aa (cd (aS a)) (cg (aS a)) (ch (aS a))) (0:Int)))))
def HD(a:Bool)(b:List Int)(c:Nat)(d:Nat)(e:Int) :T ((Empty)⊕(cP)) :=
  .leaf (.inr (.r0 a b c d e))
def aw(a:Int) :Option cP:=pm (aH ((ye a).run) fun (b,h) =>
  aH ((rT a b).run) fun (c,d,e,f,g) =>
  (HD c d e f g).run)
theorem HE(a:Int){x:cP}(h:aw a=some x) :ai prog s7 [] [.int .i64 a] (ud x) :=
  qH true ud AH h (Sg.cut 4 yd (bM kS (HB a) [⟨[],[0],[0,2,3]⟩,⟨[],[0],[0,2,3]⟩]) (fun ⟨g,i⟩=>Sg.cut 1 yd (bM kS HC [⟨[],[0],[2]⟩]) (fun ⟨j,k,l,m,n⟩=>bM kS _ [⟨[],[0],[2]⟩])))
    (fun x=>by cases x with | r0 b c d e f=>exact pn [.agg [.bool false b,.imm .free (.ns .u64 c) 1 1 d e,.int .i64 f]])
def iQ:Option cP→Bool
  | some _=>true
  | none=>false
def cF:Option cP→Bool
  | some (.r0 x _ _ _ _)=>x
  | _=>false
def ck:Option cP→List Int
  | some (.r0 _ x _ _ _)=>x
  | _=>[]
def cm:Option cP→Nat
  | some (.r0 _ _ x _ _)=>x
  | _=>0
def cn:Option cP→Nat
  | some (.r0 _ _ _ x _)=>x
  | _=>0
def cG:Option cP→Int
  | some (.r0 _ _ _ _ x)=>x
  | _=>0
theorem HF{x:Option cP}(h:iQ x=true) :x=some (.r0 (cF x) (ck x) (cm x) (cn x) (cG x)):=by
  unfold iQ at h
  split at h<;>first | rfl | (cases h;done) | (rename_i y;cases y;rfl)
def AI:aK:=cV s7 (.cons (.int .i64) .nil) fun t=>(fun q=>[⟨ud (.r0 (cF q) (ck q) (cm q) (cn q) (cG q)),[iQ q]⟩]) (aw t.1)
theorem Dy:aQ prog AI:=aX fun t=>(aY (fun h=>HE t.1 (HF h)) bE)
def AJ:List aK:=AI::AG
theorem pb:bj prog (bv AJ):=ax Dy kS
inductive fM where
  | r0 (a:Nat)
def AK:fM→AE×aG
  | .r0 a=>(.ret,⟨an 26 [(2,.int .i64 ((a:Nat):Int))],[],0⟩)
theorem HG:mW AK:=by intro x;cases x<;>(intro h;cases h)
def ue:fM→jj
  | .r0 a=>⟨.int .i64 ((a:Nat):Int),[]⟩
def HH(_:Unit) :aG:=⟨an 26 [],[],0⟩
def oo(a : Int) : T ((Unit) ⊕ (fM)) :=
  .need (decide ((0:Int)≤(52:Int)))<|.ask ((cA .and .u64 (Int.fdiv a (2^(min (Int.toNat (52:Int)) (IntKind.u64.bits)))) (2047:Int))==(2047:Int))
    (.ask ((cA .and .u64 a (4503599627370495:Int)) != (0:Int))
      (.leaf (.inr (.r0 5)))
      (.ask ((cA .and .u64 (Int.fdiv a (2^(min (Int.toNat (52:Int)) (IntKind.u64.bits)))) (2047:Int))==(2047:Int))
        (.leaf (.inr (.r0 4)))
        (.ask ((cA .and .u64 (Int.fdiv a (2^(min (Int.toNat (52:Int)) (IntKind.u64.bits)))) (2047:Int)) != (0:Int))
          (.leaf (.inr (.r0 3)))
          (.ask ((cA .and .u64 a (4503599627370495:Int)) != (0:Int))
            (.leaf (.inr (.r0 2)))
            (.leaf (.inl ()))))))
    (.ask ((cA .and .u64 (Int.fdiv a (2^(min (Int.toNat (52:Int)) (IntKind.u64.bits)))) (2047:Int))==(2047:Int))
      (.leaf (.inr (.r0 4)))
      (.ask ((cA .and .u64 (Int.fdiv a (2^(min (Int.toNat (52:Int)) (IntKind.u64.bits)))) (2047:Int)) != (0:Int))
        (.leaf (.inr (.r0 3)))
        (.ask ((cA .and .u64 a (4503599627370495:Int)) != (0:Int))
          (.leaf (.inr (.r0 2)))
          (.leaf (.inl ())))))
def HI:T ((Empty)⊕(fM)) :=
  .leaf (.inr (.r0 1))
def mg(a:Int) :Option fM:=pm (aH ((oo a).run) fun _ =>
  (HI).run)
theorem HJ(a:Int){x:fM}(h:mg a=some x) :ai prog Ab [] [.int .u64 a] (ue x) :=
  qH false ue AK h (Sg.cut 3 HG (bM pb HH [⟨[],[],[2]⟩,⟨[],[],[2]⟩,⟨[],[],[2]⟩,⟨[],[],[2]⟩,⟨[],[],[]⟩,⟨[],[],[2]⟩,⟨[],[],[2]⟩,⟨[],[],[2]⟩,⟨[],[],[]⟩]) (fun _=>bM pb _ [⟨[],[],[2]⟩]))
    (fun x=>by cases x with | r0 b=>exact pn [.int .i64 ((b:Nat):Int)])
def oq:Option fM→Bool
  | some _=>true
  | none=>false
def pc:Option fM→Nat
  | some (.r0 x)=>x
  | _=>0
theorem HK{x:Option fM}(h:oq x=true) :x=some (.r0 (pc x)):=by
  unfold oq at h
  split at h<;>first | rfl | (cases h;done) | (rename_i y;cases y;rfl)
def AL:aK:=cV Ab (.cons (.int .u64) .nil) fun t=>(fun q=>[⟨ue (.r0 (pc q)),[oq q]⟩]) (mg t.1)
theorem Dz:aQ prog AL:=aX fun t=>(aY (fun h=>HJ t.1 (HK h)) bE)
def AM:List aK:=AL::AJ
theorem pd:bj prog (bv AM):=ax Dz pb
inductive dD where
  | r0 (a:Nat) (b:Bool) (c:Int) (d:Int)
def AN:dD→AE×aG
  | .r0 a b c d=>(.ret,⟨an 36 [(2,.ptr 0 1 0 0),(3,.int .i64 ((a:Nat):Int))],[(0,.vs [.bool false b,.int .u64 c,.int .i64 d])],1⟩)
theorem HL:mW AN:=by intro x;cases x<;>(intro h;cases h)
def uf:dD→jj
  | .r0 a b c d=>⟨.tup [.agg [.bool false b,.int .u64 c,.int .i64 d],.int .i64 ((a:Nat):Int)],[]⟩
def HM(a:Int) :Nat×Bool×Bool×Int→aG:=fun (b,c,d,e)=>⟨an 36 [(0,.int .u64 a),(2,.ptr 0 1 0 0),(4,.ptr 1 1 0 0),(12,.int .i64 ((b:Nat):Int))],[(0,.vs [.bool false c,.int .u64 (0:Int),.int .i64 (0:Int)]),(1,.vs [.bool false d,.int .u64 e,.int .i64 (-1074:Int)])],2⟩
def yf(a:Int) :T ((Nat×Bool×Bool×Int)⊕(dD)) :=
  .need (decide ((0:Int)≤(63:Int)))<|.need (oq (mg a))<|.leaf (.inl ((pc (mg a)),false,((Int.fdiv a (2^(min (Int.toNat (63:Int)) (IntKind.u64.bits))))==(1:Int)),(cA .and .u64 a (4503599627370495:Int))))
def rU(a:Int)(b:Nat)(c:Bool)(d:Int) :T ((Empty)⊕(dD)) :=
  .ask (((b:Nat):Int)==(3:Int))
    (.need (decide ((0:Int)≤(52:Int)))<|.need (gd .i64 ((IntKind.i64.wrap (cA .and .u64 (Int.fdiv a (2^(min (Int.toNat (52:Int)) (IntKind.u64.bits)))) (2047:Int)))-(1:Int)))<|.need (gd .i64 ((-1074:Int)+((IntKind.i64.wrap (cA .and .u64 (Int.fdiv a (2^(min (Int.toNat (52:Int)) (IntKind.u64.bits)))) (2047:Int)))-(1:Int))))<|.leaf (.inr (.r0 0 c (cA .or .u64 d (4503599627370496:Int)) ((-1074:Int)+((IntKind.i64.wrap (cA .and .u64 (Int.fdiv a (2^(min (Int.toNat (52:Int)) (IntKind.u64.bits)))) (2047:Int)))-(1:Int))))))
    (.ask (((b:Nat):Int)==(2:Int))
      (.leaf (.inr (.r0 0 c d (-1074:Int))))
      (.ask (((b:Nat):Int)==(1:Int))
        (.leaf (.inr (.r0 0 c d (0:Int))))
        (.leaf (.inr (.r0 2 false (0:Int) (0:Int))))))
def dj(a:Int) :Option dD:=pm (aH ((yf a).run) fun (b,e,c,d) =>
  (rU a b c d).run)
theorem HN(a:Int){x:dD}(h:dj a=some x) :ai prog Aa [] [.int .u64 a] (uf x) :=
  qH false uf AN h (Sg.cut 3 HL (bM pd (HM a) [⟨[],[0,128],[0,2,4,12]⟩]) (fun ⟨f,g,i,j⟩=>bM pd _ [⟨[],[0],[2,3]⟩,⟨[],[0],[2,3]⟩,⟨[],[0],[2,3]⟩,⟨[],[0],[2,3]⟩]))
    (fun x=>by cases x with | r0 b c d e=>exact pn [.agg [.bool false c,.int .u64 d,.int .i64 e],.int .i64 ((b:Nat):Int)])
def kx:Option dD→Bool
  | some _=>true
  | none=>false
def kT:Option dD→Nat
  | some (.r0 x _ _ _)=>x
  | _=>0
def kU:Option dD→Bool
  | some (.r0 _ x _ _)=>x
  | _=>false
def kV:Option dD→Int
  | some (.r0 _ _ x _)=>x
  | _=>0
def kW:Option dD→Int
  | some (.r0 _ _ _ x)=>x
  | _=>0
theorem HO{x:Option dD}(h:kx x=true) :x=some (.r0 (kT x) (kU x) (kV x) (kW x)):=by
  unfold kx at h
  split at h<;>first | rfl | (cases h;done) | (rename_i y;cases y;rfl)
def AO:aK:=cV Aa (.cons (.int .u64) .nil) fun t=>(fun q=>[⟨uf (.r0 (kT q) (kU q) (kV q) (kW q)),[kx q]⟩]) (dj t.1)
theorem DA:aQ prog AO:=aX fun t=>(aY (fun h=>HN t.1 (HO h)) bE)
def AP:List aK:=AO::AM
theorem kX:bj prog (bv AP):=ax DA pd
inductive eR where
  | r0 (a:Nat) (b:Bool) (c:List Int) (d:Nat) (e:Nat) (f:Int)
def IP:eR→AE×aG
  | .r0 a b c d e f=>(.ret,⟨an 25 [(2,.ptr 0 1 0 0),(3,.int .i64 ((a:Nat):Int))],[(0,.vs [.bool false b,.imm .free (.ns .u64 c) 1 1 d e,.int .i64 f])],1⟩)
theorem Ga:mW IP:=by intro x;cases x<;>(intro h;cases h)
def BV:eR→jj
  | .r0 a b c d e f=>⟨.tup [.agg [.bool false b,.imm .free (.ns .u64 c) 1 1 d e,.int .i64 f],.int .i64 ((a:Nat):Int)],[]⟩
def Qk:Nat×Bool×Bool×Int×Int→aG:=fun (a,b,c,d,e)=>⟨an 25 [(2,.ptr 0 1 0 0),(4,.ptr 1 1 0 0),(5,.int .i64 ((a:Nat):Int))],[(0,.vs [.bool false b,.nsl,.int .i64 (0:Int)]),(1,.vs [.bool false c,.int .u64 d,.int .i64 e])],2⟩
def Gb(a:Nat) :T ((Nat×Bool×Bool×Int×Int)⊕(eR)) :=
  .ask (Rx a a)
    (.need (kx (dj (9221120237041090560:Int)))<|.leaf (.inl ((kT (dj (9221120237041090560:Int))),false,(kU (dj (9221120237041090560:Int))),(kV (dj (9221120237041090560:Int))),(kW (dj (9221120237041090560:Int))))))
    (.alt 0
      (.need (!isNaN a)<|.need (kx (dj ((a:Nat):Int)))<|.leaf (.inl ((kT (dj ((a:Nat):Int))),false,(kU (dj ((a:Nat):Int))),(kV (dj ((a:Nat):Int))),(kW (dj ((a:Nat):Int))))))
      (.fail))
def Ql:Bool×(List Int)×Nat×Nat×Int→aG:=fun (a,b,c,d,e)=>⟨an 25 [(2,.ptr 0 1 0 0),(3,.int .i64 (0:Int))],[(0,.vs [.bool false a,.imm .free (.ns .u64 b) 1 1 c d,.int .i64 e])],1⟩
def zo(d:Nat)(b:Bool)(a:Int)(c:Int) :T ((Bool×(List Int)×Nat×Nat×Int)⊕(eR)) :=
  .ask (((d:Nat):Int) != (0:Int))
    (.leaf (.inr (.r0 d false ([]:List Int) 0 0 (0:Int))))
    (.need (nr (aS a))<|.need (a6 (cd (aS a)) (cg (aS a)) (ch (aS a)))<|.need (di (ah b (aa (cd (aS a)) (cg (aS a)) (ch (aS a))) c))<|.leaf (.inl ((bO (ah b (aa (cd (aS a)) (cg (aS a)) (ch (aS a))) c)),(bP (ah b (aa (cd (aS a)) (cg (aS a)) (ch (aS a))) c)),(bQ (ah b (aa (cd (aS a)) (cg (aS a)) (ch (aS a))) c)),(bR (ah b (aa (cd (aS a)) (cg (aS a)) (ch (aS a))) c)),(bS (ah b (aa (cd (aS a)) (cg (aS a)) (ch (aS a))) c)))))
def Qm(a:Bool)(b:List Int)(c:Nat)(d:Nat)(e:Int) :T ((Empty)⊕(eR)) :=
  .leaf (.inr (.r0 0 a b c d e))
def fU(a:Nat) :Option eR:=pm (aH ((Gb a).run) fun (b,k,c,d,e) =>
  aH ((zo b c d e).run) fun (f,g,h,i,j) =>
  (Qm f g h i j).run)
theorem Qn(a:Nat){x:eR}(h:fU a=some x) :ai prog Bu [] [.flt false a] (BV x) :=
  qH true BV IP h (Sg.cut 2 Ga (bM kX Qk [⟨[],[0,128],[2,4,5]⟩,⟨[],[0,128],[2,4,5]⟩]) (fun ⟨i,j,k,l,m⟩=>Sg.cut 3 Ga (bM kX Ql [⟨[(.cell 0 1,.fre 1 1 (.ns .u64 ([]:List Int)))],[0],[2,3]⟩,⟨[],[0],[2,3]⟩]) (fun ⟨n,o,p,q,r⟩=>bM kX _ [⟨[],[0],[2,3]⟩])))
    (fun x=>by cases x with | r0 b c d e f g=>exact pn [.agg [.bool false c,.imm .free (.ns .u64 d) 1 1 e f,.int .i64 g],.int .i64 ((b:Nat):Int)])
def qx:Option eR→Bool
  | some _=>true
  | none=>false
def pO:Option eR→Nat
  | some (.r0 x _ _ _ _ _)=>x
  | _=>0
def pP:Option eR→Bool
  | some (.r0 _ x _ _ _ _)=>x
  | _=>false
def mh:Option eR→List Int
  | some (.r0 _ _ x _ _ _)=>x
  | _=>[]
def mi:Option eR→Nat
  | some (.r0 _ _ _ x _ _)=>x
  | _=>0
def mj:Option eR→Nat
  | some (.r0 _ _ _ _ x _)=>x
  | _=>0
def pQ:Option eR→Int
  | some (.r0 _ _ _ _ _ x)=>x
  | _=>0
theorem Qo{x:Option eR}(h:qx x=true) :x=some (.r0 (pO x) (pP x) (mh x) (mi x) (mj x) (pQ x)):=by
  unfold qx at h
  split at h<;>first | rfl | (cases h;done) | (rename_i y;cases y;rfl)
def IQ:aK:=cV Bu (.cons (.flt false) .nil) fun t=>(fun q=>[⟨BV (.r0 (pO q) (pP q) (mh q) (mi q) (mj q) (pQ q)),[qx q]⟩]) (fU t.1)
theorem Kt:aQ prog IQ:=aX fun t=>(aY (fun h=>Qn t.1 (Qo h)) bE)
def IR:List aK:=IQ::AP
theorem ug:bj prog (bv IR):=ax Kt kX
inductive ip where
  | r0 (a:Bool)
def Gc:ip→AE×aG
  | .r0 a=>(.ret,⟨an 16 [(2,.bool false a)],[],0⟩)
theorem Nz:mW Gc:=by intro x;cases x<;>(intro h;cases h)
def zp:ip→jj
  | .r0 a=>⟨.bool false a,[]⟩
def NA(a:Bool) :aG:=⟨an 16 [(2,.bool false a)],[],0⟩
def Df(a:Nat) :T ((Bool)⊕(ip)) :=
  .ask (xC (aL a) 0)
    (.leaf (.inl true))
    (.ask (Vb (aL a) 4156822456062967808)
      (.leaf (.inl (Vt (aL a) 5057542381537067008)))
      (.leaf (.inl false)))
def NB(a:Bool) :T ((Empty)⊕(ip)) :=
  .leaf (.inr (.r0 a))
def qy(a:Nat) :Option ip:=pm (aH ((Df a).run) fun b =>
  (NB b).run)
theorem NC(a:Nat){x:ip}(h:qy a=some x) :ai prog EY [] [.flt false a] (zp x) :=
  qH false zp Gc h (Sg.cut 3 Nz (bM ug NA [⟨[],[],[2]⟩,⟨[],[],[2]⟩,⟨[],[],[2]⟩]) (fun c=>bM ug _ [⟨[],[],[2]⟩]))
    (fun x=>by cases x with | r0 b=>exact pn [.bool false b])
def rr:Option ip→Bool
  | some _=>true
  | none=>false
def rV:Option ip→Bool
  | some (.r0 x)=>x
  | _=>false
theorem ND{x:Option ip}(h:rr x=true) :x=some (.r0 (rV x)):=by
  unfold rr at h
  split at h<;>first | rfl | (cases h;done) | (rename_i y;cases y;rfl)
def Gd:aK:=cV EY (.cons (.flt false) .nil) fun t=>(fun q=>[⟨zp (.r0 (rV q)),[rr q]⟩]) (qy t.1)
theorem HP:aQ prog Gd:=aX fun t=>(aY (fun h=>NC t.1 (ND h)) bE)
def Ge:List aK:=Gd::IR
theorem ky:bj prog (bv Ge):=ax HP ug
inductive dE where
  | r0 (a:Nat)
def pR:dE→AE×aG
  | .r0 a=>(.ret,⟨an 48 [(2,.flt false a)],[],0⟩)
theorem ot:mW pR:=by intro x;cases x<;>(intro h;cases h)
theorem HQ(id:Nat) :oV id pR:=by intro x;cases x<;>(intro h;cases h)
def uh:dE→jj
  | .r0 a=>⟨.flt false a,[]⟩
def HS:List Code:=dU (pB s9)
def HT(b:Lv)(a:List Nat)(_:Unit) :aG:=⟨an 48 [(3,.flt false 0),(4,.flt false 4607182418800017408),(11,.imm b (.fl a) 1 1 0 (List.length a)),(12,.int .i64 (((List.length a):Nat):Int)),(13,.int .i64 (0:Int))],[],0⟩
def HU:T ((Unit)⊕(dE)) :=
  .leaf (.inl ())
def rW(b:Lv)(a:List Nat) :Nat×Nat×Nat→aG:=fun (c,d,e)=>⟨an 48 [(3,.flt false c),(4,.flt false d),(11,.imm b (.fl a) 1 1 0 (List.length a)),(12,.int .i64 (((List.length a):Nat):Int)),(13,.int .i64 ((e:Nat):Int))],[],0⟩
def yg:Nat×Nat→aG:=fun (a,b)=>⟨an 48 [(3,.flt false a),(4,.flt false b)],[],0⟩
def Gf:List Code:=dU (gI ((((HS.drop 3).take 1)).headD .skip))
def HV(b:Lv)(a:List Nat)(c:Nat) :Nat×Nat→aG:=fun (d,e)=>⟨an 48 [(3,.flt false d),(4,.flt false e),(11,.imm b (.fl a) 1 1 0 (List.length a)),(12,.int .i64 (((List.length a):Nat):Int)),(13,.int .i64 ((c:Nat):Int))],[],0⟩
def jG(a:List Nat)(c:Nat)(d:Nat)(b:Nat) :T ((Nat×Nat)⊕((Nat×Nat)⊕(dE))) :=
  .ask (decide (((b:Nat):Int)<(((List.length a):Nat):Int)))
    (.need (gp ((b:Nat):Int) (List.length a))<|.need (fF b (List.length a))<|.ask (xC (List.getD a b 0) 0)
      (.leaf (.inl (c,d)))
      (.ask (flt c (aL (List.getD a b 0)))
        (.leaf (.inl ((aL (List.getD a b 0)),(js 4607182418800017408 (bC (bC d (fdiv c (aL (List.getD a b 0)))) (fdiv c (aL (List.getD a b 0))))))))
        (.leaf (.inl (c,(js d (bC (fdiv (aL (List.getD a b 0)) c) (fdiv (aL (List.getD a b 0)) c))))))))
    (.leaf (.inr (.inl (c,d))))
def Gg(a:Nat)(b:Nat)(c:Nat) :T ((Nat×Nat×Nat)⊕((Nat×Nat)⊕(dE))) :=
  .need (gd .i64 (((a+1):Nat):Int))<|.leaf (.inl (b,c,(a+1)))
def mn(b:List Nat) :Nat×Nat×Nat→Option ((Nat×Nat×Nat)⊕((Nat×Nat)⊕(dE))):=fun (c,d,a) =>
  aH ((jG b c d a).run) fun (e,f) =>
  (Gg a e f).run
theorem Gh(b:Lv)(a:List Nat)(d:Nat)(e:Nat)(c:Nat) :Sg prog [] Gf (rW b a (d,e,c)) (mn a (d,e,c)) (rW b a) (fB 0 yg pR):=by
  unfold mn;exact Sg.cut 3 (cD ot) (bM ky (HV b a c) [⟨[],[],[3,4,11,12,13]⟩,⟨[],[],[3,4,11,12,13]⟩,⟨[],[],[3,4,11,12,13]⟩,⟨[],[],[3,4]⟩]) (fun ⟨f,g⟩=>bM ky _ [⟨[],[],[3,4,11,12,13]⟩])
def Gi(a:Nat)(b:Nat) :T ((Empty)⊕(dE)) :=
  .leaf (.inr (.r0 (bC a (fG b))))
def mo(a:List Nat) :Option dE:=pm (aH ((HU).run) fun _ =>
  aH (dN (mn a) (0,4607182418800017408,0)) fun (b,c) =>
  (Gi b c).run)
theorem HW(b:Lv)(a:List Nat){x:dE}(h:mo a=some x) :ai prog s9 [] [.imm b (.fl a) 1 1 0 (List.length a)] (uh x) :=
  qH false uh pR h (Sg.cut 3 ot (bM ky (HT b a) [⟨[],[],[3,4,11,12,13]⟩]) (fun _=>Sg.cut 1 ot (JQ ⟨[],[],[3,4,11,12,13]⟩ (rW b a) (yg) 0 ot (HQ _) (fun ⟨c,d,e⟩=>Gh b a c d e)) (fun ⟨g,i⟩=>bM ky _ [⟨[],[],[2]⟩])))
    (fun x=>by cases x with | r0 f=>exact pn [.flt false f])
def ou:Option dE→Bool
  | some _=>true
  | none=>false
def pe:Option dE→Nat
  | some (.r0 x)=>x
  | _=>0
theorem HX{x:Option dE}(h:ou x=true) :x=some (.r0 (pe x)):=by
  unfold ou at h
  split at h<;>first | rfl | (cases h;done) | (rename_i y;cases y;rfl)
def AQ:aK:=cV s9 (.cons .fl .nil) fun t=>(fun q=>[⟨uh (.r0 (pe q)),[ou q]⟩]) (mo t.1.2)
theorem DB:aQ prog AQ:=aX fun t=>(aY (fun h=>HW t.1.1 t.1.2 (HX h)) bE)
def AR:List aK:=AQ::Ge
theorem pf:bj prog (bv AR):=ax DB ky
inductive fh where
  | r0 (a:Nat)
def yh:fh→AE×aG
  | .r0 a=>(.ret,⟨an 30 [(4,.flt false a)],[],0⟩)
theorem Gj:mW yh:=by intro x;cases x<;>(intro h;cases h)
def rX:fh→jj
  | .r0 a=>⟨.flt false a,[]⟩
def Gk:Nat×Nat→aG:=fun (a,b)=>⟨an 30 [(5,.flt false a),(6,.flt false b)],[],0⟩
def qA(a:Nat)(b:Nat) :T ((Nat×Nat)⊕(fh)) :=
  .ask (Va (aL b) (aL a))
    (.leaf (.inl ((aL b),(aL a))))
    (.leaf (.inl ((aL a),(aL b))))
def qB(a:Nat)(b:Nat) :T ((Empty)⊕(fh)) :=
  .ask (xC a 0)
    (.leaf (.inr (.r0 a)))
    (.leaf (.inr (.r0 (bC a (fG (js 4607182418800017408 (bC (fdiv b a) (fdiv b a))))))))
def iR(a:Nat)(b:Nat) :Option fh:=pm (aH ((qA a b).run) fun (c,d) =>
  (qB c d).run)
theorem Gl(a:Nat)(b:Nat){x:fh}(h:iR a b=some x) :ai prog xV [] [.flt false a,.flt false b] (rX x) :=
  qH false rX yh h (Sg.cut 4 Gj (bM pf Gk [⟨[],[],[5,6]⟩,⟨[],[],[5,6]⟩]) (fun ⟨d,e⟩=>bM pf _ [⟨[],[],[4]⟩,⟨[],[],[4]⟩]))
    (fun x=>by cases x with | r0 c=>exact pn [.flt false c])
def mp:Option fh→Bool
  | some _=>true
  | none=>false
def jW:Option fh→Nat
  | some (.r0 x)=>x
  | _=>0
theorem Gm{x:Option fh}(h:mp x=true) :x=some (.r0 (jW x)):=by
  unfold mp at h
  split at h<;>first | rfl | (cases h;done) | (rename_i y;cases y;rfl)
def yi:aK:=cV xV (.cons (.flt false) (.cons (.flt false) .nil)) fun t=>(fun q=>[⟨rX (.r0 (jW q)),[mp q]⟩]) (iR t.1 t.2.1)
theorem BW:aQ prog yi:=aX fun t=>(aY (fun h=>Gl t.1 t.2.1 (Gm h)) bE)
def yj:List aK:=yi::AR
theorem fV:bj prog (bv yj):=ax BW pf
inductive bI where
  | r0 (a:Nat) (b:Nat) (c:Nat) (d:Nat) (e:List Nat)
def mq:bI→AE×aG
  | .r0 b c a d e=>(.ret,⟨an 72 [(2,.ptr 0 1 0 0),(3,.flt false b),(4,.int .i64 ((c:Nat):Int))],[(0,.vs [.sl 1 1 1 0 a a,.flt false d]),(1,.fl e)],2⟩)
theorem iK:mW mq:=by intro x;cases x<;>(intro h;cases h)
theorem DC(id:Nat) :oV id mq:=by intro x;cases x<;>(intro h;cases h)
def qC:bI→jj
  | .r0 b c a d e=>⟨.tup [.agg [.sl 0 1 1 0 a a,.flt false d],.flt false b,.int .i64 ((c:Nat):Int)],[some (.fl e)]⟩
def DD:List Code:=dU (pB qe)
def DE(b:Lv)(a:List Nat) :Nat×(List Nat)→aG:=fun (c,d)=>⟨an 72 [(0,.imm b (.fl a) 1 1 0 (List.length a)),(2,.ptr 0 1 0 0),(5,.ptr 1 1 0 0),(6,.flt false c)],[(0,.vs [.nsl,.flt false 0]),(1,.vs [.sl 2 1 1 0 (List.length a) (List.length a),.flt false 0]),(2,.fl d)],3⟩
def pg(a:List Nat) :T ((Nat×(List Nat))⊕(bI)) :=
  .ask ((((List.length a):Nat):Int)==(0:Int))
    (.leaf (.inr (.r0 0 2 0 0 ([]:List Nat))))
    (.need (decide ((0:Int)≤(((List.length a):Nat):Int)))<|.need (decide ((((List.length a):Nat):Int)≤(((List.length a):Nat):Int)))<|.need (decide ((8:Int)*(((List.length a):Nat):Int)≤140737488355328))<|.need (gd .i64 (((List.length a):Nat):Int))<|.need (gp (0:Int) (List.length a))<|.need (fF 0 (List.length (List.replicate (List.length a) 0)))<|.need (vj (((List.length a):Nat):Int) (List.length a))<|.need (vj (1:Int) (List.length a))<|.need (a6 1 ((List.length a)-1) a)<|.need (ou (mo (aa 1 ((List.length a)-1) a)))<|.leaf (.inl ((pe (mo (aa 1 ((List.length a)-1) a))),(List.set (List.replicate (List.length a) 0) 0 4607182418800017408))))
def DF(b:Lv)(a:List Nat)(c:List Nat)(d:Nat) :aG:=⟨an 72 [(0,.imm b (.fl a) 1 1 0 (List.length a)),(2,.ptr 0 1 0 0),(5,.ptr 1 1 0 0),(7,.flt false d)],[(0,.vs [.nsl,.flt false 0]),(1,.vs [.sl 2 1 1 0 (List.length a) (List.length a),.flt false 0]),(2,.fl c)],3⟩
def nK(a:List Nat)(b:Nat)(c:List Nat) :T ((Nat)⊕(bI)) :=
  .ask (xC b 0)
    (.need (gp (0:Int) (List.length a))<|.need (fF 0 (List.length a))<|.leaf (.inr (.r0 (List.getD a 0 0) 0 (List.length a) 0 c)))
    (.need (gp (0:Int) (List.length a))<|.need (fF 0 (List.length a))<|.need (mp (iR (List.getD a 0 0) b))<|.need (gp (0:Int) (List.length a))<|.need (fF 0 (List.length a))<|.need (!isNaN (List.getD a 0 0)||isNaN (jW (iR (List.getD a 0 0) b)))<|.leaf (.inl (Dk (kd (jW (iR (List.getD a 0 0) b)) (List.getD a 0 0)))))
def DG(b:Lv)(a:List Nat)(c:List Nat)(d:Nat) :Nat×Nat→aG:=fun (e,f)=>⟨an 72 [(0,.imm b (.fl a) 1 1 0 (List.length a)),(2,.ptr 0 1 0 0),(5,.ptr 1 1 0 0),(7,.flt false d),(8,.flt false e),(9,.int .i64 (1:Int))],[(0,.vs [.nsl,.flt false 0]),(1,.vs [.sl 2 1 1 0 (List.length a) (List.length a),.flt false f]),(2,.fl c)],3⟩
def sy(a:List Nat)(b:Nat) :T ((Nat×Nat)⊕(bI)) :=
  .need (gp (0:Int) (List.length a))<|.need (fF 0 (List.length a))<|.need (gp (0:Int) (List.length a))<|.need (fF 0 (List.length a))<|.leaf (.inl ((fdiv 4607182418800017408 (fR (List.getD a 0 0) b)),(fdiv (fR b (List.getD a 0 0)) b)))
def ph(b:Lv)(a:List Nat)(c:Nat)(d:Nat)(e:Nat) :Nat×(List Nat)→aG:=fun (f,g)=>⟨an 72 [(0,.imm b (.fl a) 1 1 0 (List.length a)),(2,.ptr 0 1 0 0),(5,.ptr 1 1 0 0),(7,.flt false c),(8,.flt false d),(9,.int .i64 ((f:Nat):Int))],[(0,.vs [.nsl,.flt false 0]),(1,.vs [.sl 2 1 1 0 (List.length a) (List.length a),.flt false e]),(2,.fl g)],3⟩
def uA(a:List Nat)(b:Nat)(c:Nat)(d:(List Nat)) :aG:=⟨an 72 [(2,.ptr 0 1 0 0),(5,.ptr 1 1 0 0),(7,.flt false b)],[(0,.vs [.nsl,.flt false 0]),(1,.vs [.sl 2 1 1 0 (List.length a) (List.length a),.flt false c]),(2,.fl d)],3⟩
def BX:List Code:=dU (gI ((((((DD.drop 6).drop 3).drop 3).take 1)).headD .skip))
def gU(b:List Nat)(d:Nat)(a:Nat)(c:List Nat) :T ((Nat×(List Nat))⊕(((List Nat))⊕(bI))) :=
  .ask (decide (((a:Nat):Int)<(((List.length b):Nat):Int)))
    (.need (gp ((a:Nat):Int) (List.length b))<|.need (fF a (List.length b))<|.need (gp ((a:Nat):Int) (List.length b))<|.need (fF a (List.length c))<|.need (gd .i64 (((a+1):Nat):Int))<|.leaf (.inl ((a+1),(List.set c a (bC (List.getD b a 0) d)))))
    (.leaf (.inr (.inl c)))
def nL(a:List Nat)(b:Nat) :Nat×(List Nat)→Option ((Nat×(List Nat))⊕(((List Nat))⊕(bI))):=fun (c,d) =>
  (gU a b c d).run
theorem BY(e:Lv)(a:List Nat)(b:Nat)(c:Nat)(d:Nat)(f:Nat)(g:List Nat) :Sg prog [] BX (ph e a b c d (f,g)) (nL a c (f,g)) (ph e a b c d) (fB 0 (uA a b d) mq):=by
  unfold nL;exact bM fV _ [⟨[],[0,1,2],[0,2,5,7,8,9]⟩,⟨[],[0,1,2],[2,5,7]⟩]
def BZ(a:List Nat)(b:Nat)(c:Nat)(d:List Nat) :T ((Empty)⊕(bI)) :=
  .leaf (.inr (.r0 b 0 (List.length a) c d))
def da(a:List Nat) :Option bI:=pm (aH ((pg a).run) fun (d,b) =>
  aH ((nK a d b).run) fun c =>
  aH ((sy a c).run) fun (e,f) =>
  aH (dN (nL a e) (1,b)) fun g =>
  (BZ a c f g).run)
theorem DH(b:Lv)(a:List Nat){x:bI}(h:da a=some x) :ai prog qe [] [.imm b (.fl a) 1 1 0 (List.length a)] (qC x) :=
  qH false qC mq h (Sg.cut 6 iK (bM fV (DE b a) [⟨[(.cell 0 0,.own 1 1 (.fl ([]:List Nat)))],[0,160],[2,3,4]⟩,⟨[],[0,160,128],[0,2,5,6]⟩]) (fun ⟨n,e⟩=>Sg.cut 3 iK (bM fV (DF b a e) [⟨[],[0,2],[2,3,4]⟩,⟨[],[0,1,2],[0,2,5,7]⟩]) (fun c=>Sg.cut 3 iK (bM fV (DG b a e c) [⟨[],[0,1,2],[0,2,5,7,8,9]⟩]) (fun ⟨f,d⟩=>Sg.cut 1 iK (JQ ⟨[],[0,1,2],[0,2,5,7,8,9]⟩ (ph b a c f d) (uA a c d) 0 iK (DC _) (fun ⟨i,j⟩=>BY b a c f d i j)) (fun o=>bM fV _ [⟨[],[0,2],[2,3,4]⟩])))))
    (fun x=>by cases x with | r0 k l g m p=>exact pn [.agg [.sl 1 1 1 0 g g,.flt false m],.flt false k,.int .i64 ((l:Nat):Int)])
def kY:Option bI→Bool
  | some _=>true
  | none=>false
def mr:Option bI→Nat
  | some (.r0 x _ _ _ _)=>x
  | _=>0
def mu:Option bI→Nat
  | some (.r0 _ x _ _ _)=>x
  | _=>0
def mv:Option bI→Nat
  | some (.r0 _ _ x _ _)=>x
  | _=>0
def mw:Option bI→Nat
  | some (.r0 _ _ _ x _)=>x
  | _=>0
def mz:Option bI→List Nat
  | some (.r0 _ _ _ _ x)=>x
  | _=>[]
theorem DI{x:Option bI}(h:kY x=true) :x=some (.r0 (mr x) (mu x) (mv x) (mw x) (mz x)):=by
  unfold kY at h
  split at h<;>first | rfl | (cases h;done) | (rename_i y;cases y;rfl)
def wu:aK:=cV qe (.cons .fl .nil) fun t=>(fun q=>[⟨qC (.r0 (mr q) (mu q) (mv q) (mw q) (mz q)),[kY q]⟩]) (da t.1.2)
theorem AS:aQ prog wu:=aX fun t=>(aY (fun h=>DH t.1.1 t.1.2 (DI h)) bE)
def ww:List aK:=wu::yj
theorem mA:bj prog (bv ww):=ax AS fV
inductive fi where
  | r0 (a:Bool)
def yk:fi→AE×aG
  | .r0 a=>(.ret,⟨an 32 [(2,.bool false a)],[],0⟩)
theorem Gn:mW yk:=by intro x;cases x<;>(intro h;cases h)
def rY:fi→jj
  | .r0 a=>⟨.bool false a,[]⟩
def Gp(a:Bool) :aG:=⟨an 32 [(2,.bool false a)],[],0⟩
def wy(a:Int)(b:Int)(c:List Nat) :T ((Bool)⊕(fi)) :=
  .ask (decide (a≥(0:Int)))
    (.ask (decide (a≤(512:Int)))
      (.ask (decide (b≥(0:Int)))
        (.ask (decide (b≤(512:Int)))
          (.need (gd .i64 (a*b))<|.leaf (.inl ((((List.length c):Nat):Int)==(a*b))))
          (.leaf (.inl false)))
        (.leaf (.inl false)))
      (.leaf (.inl false)))
    (.leaf (.inl false))
def Gq(a:Bool) :T ((Empty)⊕(fi)) :=
  .leaf (.inr (.r0 a))
def kz(a:Int)(b:Int)(c:List Nat) :Option fi:=pm (aH ((wy a b c).run) fun d =>
  (Gq d).run)
theorem Gr(b:Int)(c:Int)(d:Lv)(a:List Nat){x:fi}(h:kz b c a=some x) :ai prog xW [] [.agg [.int .i64 b,.int .i64 c,.imm d (.fl a) 1 1 0 (List.length a)]] (rY x) :=
  qH false rY yk h (Sg.cut 2 Gn (bM mA Gp [⟨[],[],[2]⟩,⟨[],[],[2]⟩,⟨[],[],[2]⟩,⟨[],[],[2]⟩,⟨[],[],[2]⟩]) (fun f=>bM mA _ [⟨[],[],[2]⟩]))
    (fun x=>by cases x with | r0 e=>exact pn [.bool false e])
def mB:Option fi→Bool
  | some _=>true
  | none=>false
def nN:Option fi→Bool
  | some (.r0 x)=>x
  | _=>false
theorem Gs{x:Option fi}(h:mB x=true) :x=some (.r0 (nN x)):=by
  unfold mB at h
  split at h<;>first | rfl | (cases h;done) | (rename_i y;cases y;rfl)
def yn:aK:=cV xW (.cons (.agg (.cons (.int .i64) (.cons (.int .i64) (.cons .fl .nil)))) .nil) fun t=>(fun q=>[⟨rY (.r0 (nN q)),[mB q]⟩]) (kz t.1.1 t.1.2.1 t.1.2.2.1.2)
theorem B0:aQ prog yn:=aX fun t=>(aY (fun h=>Gr t.1.1 t.1.2.1 t.1.2.2.1.1 t.1.2.2.1.2 (Gs h)) bE)
def yo:List aK:=yn::ww
theorem sz:bj prog (bv yo):=ax B0 mA
inductive dS where
  | r0 (a:Nat)
def B3:dS→AE×aG
  | .r0 a=>(.ret,⟨an 25 [(6,.flt false a)],[],0⟩)
def nO:dS→jj
  | .r0 a=>⟨.flt false a,[]⟩
def rt(a:Int)(e:List Nat)(c:Int)(f:List Nat)(b:Int)(d:Int) :T ((Empty)⊕(dS)) :=
  .need (gp a (List.length e))<|.need (fF (Int.toNat a) (List.length e))<|.need (gd .i64 (b+a))<|.need (gd .i64 ((b+a)*c))<|.need (gd .i64 (((b+a)*c)+d))<|.need (gp (((b+a)*c)+d) (List.length f))<|.need (fF (Int.toNat (((b+a)*c)+d)) (List.length f))<|.leaf (.inr (.r0 (bC (List.getD e (Int.toNat a) 0) (List.getD f (Int.toNat (((b+a)*c)+d)) 0))))
def gV(a:Int)(b:List Nat)(c:Int)(d:List Nat)(e:Int)(f:Int) :Option dS:=pm ((rt a b c d e f).run)
theorem AT(c:Int)(g:Lv)(i:Lv)(a:List Nat)(j:Nat)(k:Lv)(l:Int)(d:Int)(m:Lv)(b:List Nat)(n:Lv)(e:Int)(o:Lv)(f:Int){x:dS}(h:gV c a d b e f=some x) :ai prog eG [] [.int .i64 c,.iptr g (.vs [.imm i (.fl a) 1 1 0 (List.length a),.flt false j]) 1 0 0,.iptr k (.vs [.int .i64 l,.int .i64 d,.imm m (.fl b) 1 1 0 (List.length b)]) 1 0 0,.iptr n (.vs [.int .i64 e]) 1 0 0,.iptr o (.vs [.int .i64 f]) 1 0 0] (nO x) :=
  qH false nO B3 h (bM sz _ [⟨[],[],[6]⟩])
    (fun x=>by cases x with | r0 p=>exact pn [.flt false p])
def jq:Option dS→Bool
  | some _=>true
  | none=>false
def j4:Option dS→Nat
  | some (.r0 x)=>x
  | _=>0
theorem AU{x:Option dS}(h:jq x=true) :x=some (.r0 (j4 x)):=by
  unfold jq at h
  split at h<;>first | rfl | (cases h;done) | (rename_i y;cases y;rfl)
def sA:aK:=cV eG (.cons (.int .i64) (.cons (.ivs (.cons .fl (.cons (.flt false) .nil)) 1 0 0) (.cons (.ivs (.cons (.int .i64) (.cons (.int .i64) (.cons .fl .nil))) 1 0 0) (.cons (.ivs (.cons (.int .i64) .nil) 1 0 0) (.cons (.ivs (.cons (.int .i64) .nil) 1 0 0) .nil))))) fun t=>(fun q=>[⟨nO (.r0 (j4 q)),[jq q]⟩]) (gV t.1 t.2.1.2.1.2 t.2.2.1.2.2.1 t.2.2.1.2.2.2.1.2 t.2.2.2.1.2.1 t.2.2.2.2.1.2.1)
theorem xG:aQ prog sA:=aX fun t=>(aY (fun h=>AT t.1 t.2.1.1 t.2.1.2.1.1 t.2.1.2.1.2 t.2.1.2.2.1 t.2.2.1.1 t.2.2.1.2.1 t.2.2.1.2.2.1 t.2.2.1.2.2.2.1.1 t.2.2.1.2.2.2.1.2 t.2.2.2.1.1 t.2.2.2.1.2.1 t.2.2.2.2.1.1 t.2.2.2.2.1.2.1 (AU h)) bE)
def sB:List aK:=sA::yo
theorem fH:bj prog (bv sB):=ax xG sz
inductive aF where
  | r0 (a:Nat)
def cU:aF→AE×aG
  | .r0 a=>(.ret,⟨an 18 [(4,.flt false a)],[],0⟩)
theorem cQ:mW cU:=by intro x;cases x<;>(intro h;cases h)
theorem mC(id:Nat) :oV id cU:=by intro x;cases x<;>(intro h;cases h)
def ew:aF→jj
  | .r0 a=>⟨.flt false a,[]⟩
def mD:List Code:=dU (pB rG)
def mE(c:Int)(d:Lv)(e:Lv)(a:List Nat)(f:Nat)(g:Lv)(h:Int)(i:Int)(j:Lv)(b:List Nat)(k:Lv)(l:Int)(m:Lv)(n:Int)(_:Unit) :aG:=⟨an 18 [(1,.fn (.func eG) [] [.iptr d (.vs [.imm e (.fl a) 1 1 0 (List.length a),.flt false f]) 1 0 0,.iptr g (.vs [.int .i64 h,.int .i64 i,.imm j (.fl b) 1 1 0 (List.length b)]) 1 0 0,.iptr k (.vs [.int .i64 l]) 1 0 0,.iptr m (.vs [.int .i64 n]) 1 0 0]),(5,.flt false 0),(7,.int .i64 c),(8,.int .i64 (0:Int))],[],0⟩
def mF:T ((Unit)⊕(aF)) :=
  .leaf (.inl ())
def ei(c:Int)(d:Lv)(e:Lv)(a:List Nat)(f:Nat)(g:Lv)(h:Int)(i:Int)(j:Lv)(b:List Nat)(k:Lv)(l:Int)(m:Lv)(n:Int) :Nat×Nat→aG:=fun (o,p)=>⟨an 18 [(1,.fn (.func eG) [] [.iptr d (.vs [.imm e (.fl a) 1 1 0 (List.length a),.flt false f]) 1 0 0,.iptr g (.vs [.int .i64 h,.int .i64 i,.imm j (.fl b) 1 1 0 (List.length b)]) 1 0 0,.iptr k (.vs [.int .i64 l]) 1 0 0,.iptr m (.vs [.int .i64 n]) 1 0 0]),(5,.flt false o),(7,.int .i64 c),(8,.int .i64 ((p:Nat):Int))],[],0⟩
def gF(a:Nat) :aG:=⟨an 18 [(5,.flt false a)],[],0⟩
def lJ:List Code:=dU (gI ((((mD.drop 3).take 1)).headD .skip))
def mG(c:Int)(d:Lv)(e:Lv)(a:List Nat)(f:Nat)(g:Lv)(h:Int)(i:Int)(j:Lv)(b:List Nat)(k:Lv)(l:Int)(m:Lv)(n:Int)(o:Nat)(p:Nat) :aG:=⟨an 18 [(1,.fn (.func eG) [] [.iptr d (.vs [.imm e (.fl a) 1 1 0 (List.length a),.flt false f]) 1 0 0,.iptr g (.vs [.int .i64 h,.int .i64 i,.imm j (.fl b) 1 1 0 (List.length b)]) 1 0 0,.iptr k (.vs [.int .i64 l]) 1 0 0,.iptr m (.vs [.int .i64 n]) 1 0 0]),(5,.flt false p),(7,.int .i64 c),(8,.int .i64 ((o:Nat):Int))],[],0⟩
def cI(h:Int)(a:List Nat)(d:Int)(b:List Nat)(e:Int)(f:Int)(g:Nat)(c:Nat) :T ((Nat)⊕((Nat)⊕(aF))) :=
  .ask (decide (((c:Nat):Int)<h))
    (.need (a6 0 (List.length a) a)<|.need (a6 0 (List.length b) b)<|.need (jq (gV ((c:Nat):Int) (aa 0 (List.length a) a) d (aa 0 (List.length b) b) e f))<|.leaf (.inl (js g (j4 (gV ((c:Nat):Int) (aa 0 (List.length a) a) d (aa 0 (List.length b) b) e f)))))
    (.leaf (.inr (.inl g)))
def lK(a:Nat)(b:Nat) :T ((Nat×Nat)⊕((Nat)⊕(aF))) :=
  .need (gd .i64 (((a+1):Nat):Int))<|.leaf (.inl (b,(a+1)))
def dV(b:Int)(c:List Nat)(d:Int)(e:List Nat)(f:Int)(g:Int) :Nat×Nat→Option ((Nat×Nat)⊕((Nat)⊕(aF))):=fun (h,a) =>
  aH ((cI b c d e f g h a).run) fun i =>
  (lK a i).run
theorem lL(a:Int)(g:Lv)(h:Lv)(b:List Nat)(i:Nat)(j:Lv)(k:Int)(c:Int)(l:Lv)(d:List Nat)(m:Lv)(e:Int)(n:Lv)(f:Int)(p:Nat)(o:Nat) :Sg prog [] lJ (ei a g h b i j k c l d m e n f (p,o)) (dV a b c d e f (p,o)) (ei a g h b i j k c l d m e n f) (fB 0 gF cU):=by
  unfold dV;exact Sg.cut 3 (cD cQ) (bM fH (mG a g h b i j k c l d m e n f o) [⟨[],[],[1,5,7,8]⟩,⟨[],[],[5]⟩]) (fun q=>bM fH _ [⟨[],[],[1,5,7,8]⟩])
def lM(a:Nat) :T ((Empty)⊕(aF)) :=
  .leaf (.inr (.r0 a))
def ca(a:Int)(b:List Nat)(c:Int)(d:List Nat)(e:Int)(f:Int) :Option aF:=pm (aH ((mF).run) fun _ =>
  aH (dN (dV a b c d e f) (0,0)) fun g =>
  (lM g).run)
theorem mH(c:Int)(g:Lv)(i:Lv)(a:List Nat)(j:Nat)(k:Lv)(l:Int)(d:Int)(m:Lv)(b:List Nat)(n:Lv)(e:Int)(o:Lv)(f:Int){x:aF}(h:ca c a d b e f=some x) :ai prog rG [] [.int .i64 c,.fn (.func eG) [] [.iptr g (.vs [.imm i (.fl a) 1 1 0 (List.length a),.flt false j]) 1 0 0,.iptr k (.vs [.int .i64 l,.int .i64 d,.imm m (.fl b) 1 1 0 (List.length b)]) 1 0 0,.iptr n (.vs [.int .i64 e]) 1 0 0,.iptr o (.vs [.int .i64 f]) 1 0 0]] (ew x) :=
  qH false ew cU h (Sg.cut 3 cQ (bM fH (mE c g i a j k l d m b n e o f) [⟨[],[],[1,5,7,8]⟩]) (fun _=>Sg.cut 1 cQ (JQ ⟨[],[],[1,5,7,8]⟩ (ei c g i a j k l d m b n e o f) (gF) 0 cQ (mC _) (fun ⟨p,q⟩=>lL c g i a j k l d m b n e o f p q)) (fun s=>bM fH _ [⟨[],[],[4]⟩])))
    (fun x=>by cases x with | r0 r=>exact pn [.flt false r])
def cR:Option aF→Bool
  | some _=>true
  | none=>false
def dJ:Option aF→Nat
  | some (.r0 x)=>x
  | _=>0
theorem mI{x:Option aF}(h:cR x=true) :x=some (.r0 (dJ x)):=by
  unfold cR at h
  split at h<;>first | rfl | (cases h;done) | (rename_i y;cases y;rfl)
def gL:aK:=cV rG (.cons (.int .i64) (.cons (.fn eG .nil (.cons (.ivs (.cons .fl (.cons (.flt false) .nil)) 1 0 0) (.cons (.ivs (.cons (.int .i64) (.cons (.int .i64) (.cons .fl .nil))) 1 0 0) (.cons (.ivs (.cons (.int .i64) .nil) 1 0 0) (.cons (.ivs (.cons (.int .i64) .nil) 1 0 0) .nil))))) .nil)) fun t=>(fun q=>[⟨ew (.r0 (dJ q)),[cR q]⟩]) (ca t.1 t.2.1.2.1.2.1.2 t.2.1.2.2.1.2.2.1 t.2.1.2.2.1.2.2.2.1.2 t.2.1.2.2.2.1.2.1 t.2.1.2.2.2.2.1.2.1)
theorem lg:aQ prog gL:=aX fun t=>(aY (fun h=>mH t.1 t.2.1.2.1.1 t.2.1.2.1.2.1.1 t.2.1.2.1.2.1.2 t.2.1.2.1.2.2.1 t.2.1.2.2.1.1 t.2.1.2.2.1.2.1 t.2.1.2.2.1.2.2.1 t.2.1.2.2.1.2.2.2.1.1 t.2.1.2.2.1.2.2.2.1.2 t.2.1.2.2.2.1.1 t.2.1.2.2.2.1.2.1 t.2.1.2.2.2.2.1.1 t.2.1.2.2.2.2.1.2.1 (mI h)) bE)
def gM:List aK:=gL::sB
theorem aE:bj prog (bv gM):=ax lg fH
inductive aT where
  | r0 (a:Nat) (b:Int) (c:Int) (d:Nat) (e:List Nat)
def jH:aT→AE×aG
  | .r0 b c d a e=>(.ret,⟨an 103 [(8,.ptr 0 1 0 0),(9,.int .i64 ((b:Nat):Int))],[(0,.vs [.int .i64 c,.int .i64 d,.sl 1 1 1 0 a a]),(1,.fl e)],2⟩)
theorem co:mW jH:=by intro x;cases x<;>(intro h;cases h)
theorem pj(id:Nat) :oV id jH:=by intro x;cases x<;>(intro h;cases h)
def qD:aT→jj
  | .r0 b c d a e=>⟨.tup [.agg [.int .i64 c,.int .i64 d,.sl 0 1 1 0 a a],.int .i64 ((b:Nat):Int)],[some (.fl e)]⟩
def B5:List Code:=dU (pB qf)
def DJ(c:Int)(d:Int)(e:Lv)(a:List Nat)(f:Int)(g:Int)(h:Lv)(b:List Nat)(i:Nat)(j:Bool) :aG:=⟨an 103 [(2,.int .i64 g),(4,.ptr 0 1 0 0),(5,.ptr 1 1 0 0),(7,.ptr 2 1 0 0),(8,.ptr 3 1 0 0),(31,.bool false j)],[(0,.vs [.int .i64 c,.int .i64 d,.imm e (.fl a) 1 1 0 (List.length a)]),(1,.vs [.int .i64 f]),(2,.vs [.imm h (.fl b) 1 1 0 (List.length b),.flt false i]),(3,.vs [.int .i64 (0:Int),.int .i64 (0:Int),.nsl])],4⟩
def nP(b:Int)(c:Int)(a:List Nat)(d:Int)(e:Int)(f:List Nat) :T ((Bool)⊕(aT)) :=
  .need (a6 0 (List.length a) a)<|.need (mB (kz b c (aa 0 (List.length a) a)))<|.ask (!(nN (kz b c (aa 0 (List.length a) a))))
    (.leaf (.inl true))
    (.ask ((((List.length f):Nat):Int)==(0:Int))
      (.leaf (.inl true))
      (.ask (decide (d<(0:Int)))
        (.leaf (.inl true))
        (.leaf (.inl (decide (e<(0:Int)))))))
def DK(c:Int)(d:Int)(e:Lv)(a:List Nat)(f:Int)(g:Int)(h:Lv)(b:List Nat)(i:Nat)(j:Bool) :aG:=⟨an 103 [(2,.int .i64 g),(4,.ptr 0 1 0 0),(5,.ptr 1 1 0 0),(7,.ptr 2 1 0 0),(8,.ptr 3 1 0 0),(46,.bool false j)],[(0,.vs [.int .i64 c,.int .i64 d,.imm e (.fl a) 1 1 0 (List.length a)]),(1,.vs [.int .i64 f]),(2,.vs [.imm h (.fl b) 1 1 0 (List.length b),.flt false i]),(3,.vs [.int .i64 (0:Int),.int .i64 (0:Int),.nsl])],4⟩
def nQ(a:Int)(c:Int)(d:Int)(e:Int)(b:List Nat)(f:Bool) :T ((Bool)⊕(aT)) :=
  .ask f
    (.leaf (.inr (.r0 2 (0:Int) (0:Int) 0 ([]:List Nat))))
    (.need (gd .i64 (a-(((List.length b):Nat):Int)))<|.ask (decide (d>(a-(((List.length b):Nat):Int))))
      (.leaf (.inl true))
      (.leaf (.inl (decide (e>c)))))
def DL(a:Int)(b:Int)(f:Lv)(c:List Nat)(g:Int)(h:Int)(i:Lv)(d:List Nat)(j:Nat) :Nat×(List Nat)→aG:=fun (e,k)=>⟨an 103 [(4,.ptr 0 1 0 0),(5,.ptr 1 1 0 0),(7,.ptr 2 1 0 0),(8,.ptr 3 1 0 0),(10,.ptr 4 1 0 0),(11,.ptr 5 1 0 0)],[(0,.vs [.int .i64 a,.int .i64 b,.imm f (.fl c) 1 1 0 (List.length c)]),(1,.vs [.int .i64 g]),(2,.vs [.imm i (.fl d) 1 1 0 (List.length d),.flt false j]),(3,.vs [.int .i64 (0:Int),.int .i64 (0:Int),.nsl]),(4,.vs [.int .i64 a,.int .i64 b,.sl 6 1 1 0 e e]),(5,.vs [.int .i64 h]),(6,.fl k)],7⟩
def nR(b:Int)(c:Int)(a:List Nat)(d:Nat)(e:Bool) :T ((Nat×(List Nat))⊕(aT)) :=
  .ask e
    (.leaf (.inr (.r0 8 (0:Int) (0:Int) 0 ([]:List Nat))))
    (.need (a6 0 (List.length a) a)<|.need (mX (List.length (aa 0 (List.length a) a)))<|.ask (xC d 0)
      (.leaf (.inr (.r0 0 b c (List.length (aa 0 (List.length a) a)) (aa 0 (List.length a) a))))
      (.leaf (.inl ((List.length (aa 0 (List.length a) a)),(aa 0 (List.length a) a)))))
def nT(a:Int)(b:Int)(f:Lv)(c:List Nat)(g:Int)(h:Lv)(d:List Nat)(i:Nat)(e:Nat) :Int×(List Nat)→aG:=fun (j,k)=>⟨an 103 [(4,.ptr 0 1 0 0),(5,.ptr 1 1 0 0),(7,.ptr 2 1 0 0),(8,.ptr 3 1 0 0),(10,.ptr 4 1 0 0),(11,.ptr 5 1 0 0)],[(0,.vs [.int .i64 a,.int .i64 b,.imm f (.fl c) 1 1 0 (List.length c)]),(1,.vs [.int .i64 g]),(2,.vs [.imm h (.fl d) 1 1 0 (List.length d),.flt false i]),(3,.vs [.int .i64 (0:Int),.int .i64 (0:Int),.nsl]),(4,.vs [.int .i64 a,.int .i64 b,.sl 6 1 1 0 e e]),(5,.vs [.int .i64 j]),(6,.fl k)],7⟩
def nU(b:Int)(c:Int)(a:Nat)(d:(List Nat)) :aG:=⟨an 103 [(8,.ptr 0 1 0 0),(10,.ptr 1 1 0 0)],[(0,.vs [.int .i64 (0:Int),.int .i64 (0:Int),.nsl]),(1,.vs [.int .i64 b,.int .i64 c,.sl 2 1 1 0 a a]),(2,.fl d)],3⟩
def sC:List Code:=dU (gI ((((((B5.drop 2).drop 2).drop 5).take 1)).headD .skip))
def B6(a:Int)(b:Int)(f:Lv)(c:List Nat)(g:Int)(h:Lv)(d:List Nat)(i:Nat)(e:Nat)(j:Int)(k:List Nat)(_:Unit) :aG:=⟨an 103 [(4,.ptr 0 1 0 0),(5,.ptr 1 1 0 0),(7,.ptr 2 1 0 0),(8,.ptr 3 1 0 0),(10,.ptr 4 1 0 0),(11,.ptr 5 1 0 0)],[(0,.vs [.int .i64 a,.int .i64 b,.imm f (.fl c) 1 1 0 (List.length c)]),(1,.vs [.int .i64 g]),(2,.vs [.imm h (.fl d) 1 1 0 (List.length d),.flt false i]),(3,.vs [.int .i64 (0:Int),.int .i64 (0:Int),.nsl]),(4,.vs [.int .i64 a,.int .i64 b,.sl 6 1 1 0 e e]),(5,.vs [.int .i64 j]),(6,.fl k)],7⟩
def B7(a:Int)(b:Int)(c:List Nat) :T ((Unit)⊕(((List Nat))⊕(aT))) :=
  .ask (decide (b<a))
    (.leaf (.inl ()))
    (.leaf (.inr (.inl c)))
def sD(a:Int)(b:Int)(f:Lv)(c:List Nat)(g:Int)(h:Lv)(d:List Nat)(i:Nat)(e:Nat)(j:Int)(k:(List Nat)) :aG:=⟨an 103 [(4,.ptr 0 1 0 0),(5,.ptr 1 1 0 0),(7,.ptr 2 1 0 0),(8,.ptr 3 1 0 0),(10,.ptr 4 1 0 0),(11,.ptr 5 1 0 0)],[(0,.vs [.int .i64 a,.int .i64 b,.imm f (.fl c) 1 1 0 (List.length c)]),(1,.vs [.int .i64 g]),(2,.vs [.imm h (.fl d) 1 1 0 (List.length d),.flt false i]),(3,.vs [.int .i64 (0:Int),.int .i64 (0:Int),.nsl]),(4,.vs [.int .i64 a,.int .i64 b,.sl 6 1 1 0 e e]),(5,.vs [.int .i64 j]),(6,.fl k)],7⟩
def B8:List Code:=dU (inBlock ((((sC.drop 2).take 1)).headD .skip))
def B9(a:Int)(b:Int)(f:Lv)(c:List Nat)(g:Int)(h:Lv)(d:List Nat)(i:Nat)(e:Nat)(j:Int)(k:List Nat)(l:Nat) :aG:=⟨an 103 [(4,.ptr 0 1 0 0),(5,.ptr 1 1 0 0),(7,.ptr 2 1 0 0),(8,.ptr 3 1 0 0),(10,.ptr 4 1 0 0),(11,.ptr 5 1 0 0),(12,.flt false l)],[(0,.vs [.int .i64 a,.int .i64 b,.imm f (.fl c) 1 1 0 (List.length c)]),(1,.vs [.int .i64 g]),(2,.vs [.imm h (.fl d) 1 1 0 (List.length d),.flt false i]),(3,.vs [.int .i64 (0:Int),.int .i64 (0:Int),.nsl]),(4,.vs [.int .i64 a,.int .i64 b,.sl 6 1 1 0 e e]),(5,.vs [.int .i64 j]),(6,.fl k)],7⟩
def sE(c:Int)(b:List Nat)(d:Int)(a:List Nat)(f:Nat)(e:Int) :T ((Nat)⊕(((List Nat))⊕(((List Nat))⊕(aT)))) :=
  .need (a6 0 (List.length a) a)<|.need (a6 0 (List.length b) b)<|.need (cR (ca (((List.length a):Nat):Int) (aa 0 (List.length a) a) c (aa 0 (List.length b) b) d e))<|.leaf (.inl (bC f (dJ (ca (((List.length a):Nat):Int) (aa 0 (List.length a) a) c (aa 0 (List.length b) b) d e))))
def Ca(b:Int)(c:Int)(g:Lv)(d:List Nat)(h:Int)(e:Lv)(a:List Nat)(i:Nat)(f:Nat)(j:Int)(k:List Nat)(l:Nat)(_:Unit) :aG:=⟨an 103 [(4,.ptr 0 1 0 0),(5,.ptr 1 1 0 0),(7,.ptr 2 1 0 0),(8,.ptr 3 1 0 0),(10,.ptr 4 1 0 0),(11,.ptr 5 1 0 0),(12,.flt false l),(76,.imm e (.fl a) 1 1 0 (List.length a)),(77,.int .i64 (((List.length a):Nat):Int)),(78,.int .i64 (0:Int))],[(0,.vs [.int .i64 b,.int .i64 c,.imm g (.fl d) 1 1 0 (List.length d)]),(1,.vs [.int .i64 h]),(2,.vs [.imm e (.fl a) 1 1 0 (List.length a),.flt false i]),(3,.vs [.int .i64 (0:Int),.int .i64 (0:Int),.nsl]),(4,.vs [.int .i64 b,.int .i64 c,.sl 6 1 1 0 f f]),(5,.vs [.int .i64 j]),(6,.fl k)],7⟩
def Cb:T ((Unit)⊕(((List Nat))⊕(((List Nat))⊕(aT)))) :=
  .leaf (.inl ())
def nV(b:Int)(c:Int)(g:Lv)(d:List Nat)(h:Int)(e:Lv)(a:List Nat)(i:Nat)(f:Nat)(j:Int)(k:Nat) :Nat×(List Nat)→aG:=fun (l,m)=>⟨an 103 [(4,.ptr 0 1 0 0),(5,.ptr 1 1 0 0),(7,.ptr 2 1 0 0),(8,.ptr 3 1 0 0),(10,.ptr 4 1 0 0),(11,.ptr 5 1 0 0),(12,.flt false k),(76,.imm e (.fl a) 1 1 0 (List.length a)),(77,.int .i64 (((List.length a):Nat):Int)),(78,.int .i64 ((l:Nat):Int))],[(0,.vs [.int .i64 b,.int .i64 c,.imm g (.fl d) 1 1 0 (List.length d)]),(1,.vs [.int .i64 h]),(2,.vs [.imm e (.fl a) 1 1 0 (List.length a),.flt false i]),(3,.vs [.int .i64 (0:Int),.int .i64 (0:Int),.nsl]),(4,.vs [.int .i64 b,.int .i64 c,.sl 6 1 1 0 f f]),(5,.vs [.int .i64 j]),(6,.fl m)],7⟩
def sF(a:Int)(b:Int)(f:Lv)(c:List Nat)(g:Int)(h:Lv)(d:List Nat)(i:Nat)(e:Nat)(j:Int)(k:(List Nat)) :aG:=⟨an 103 [(4,.ptr 0 1 0 0),(5,.ptr 1 1 0 0),(7,.ptr 2 1 0 0),(8,.ptr 3 1 0 0),(10,.ptr 4 1 0 0),(11,.ptr 5 1 0 0)],[(0,.vs [.int .i64 a,.int .i64 b,.imm f (.fl c) 1 1 0 (List.length c)]),(1,.vs [.int .i64 g]),(2,.vs [.imm h (.fl d) 1 1 0 (List.length d),.flt false i]),(3,.vs [.int .i64 (0:Int),.int .i64 (0:Int),.nsl]),(4,.vs [.int .i64 a,.int .i64 b,.sl 6 1 1 0 e e]),(5,.vs [.int .i64 j]),(6,.fl k)],7⟩
def Cc:List Code:=dU (gI (((((B8.drop 1).drop 1).take 1)).headD .skip))
def gW(c:Int)(b:Int)(f:List Nat)(g:Nat)(d:Int)(h:Nat)(a:Nat)(e:List Nat) :T ((Nat×(List Nat))⊕(((List Nat))⊕(((List Nat))⊕(((List Nat))⊕(aT))))) :=
  .ask (decide (((a:Nat):Int)<(((List.length f):Nat):Int)))
    (.need (gp ((a:Nat):Int) (List.length f))<|.need (fF a (List.length f))<|.need (gd .i64 (b+((a:Nat):Int)))<|.need (gd .i64 ((b+((a:Nat):Int))*c))<|.need (gd .i64 (((b+((a:Nat):Int))*c)+d))<|.need (gp (((b+((a:Nat):Int))*c)+d) g)<|.need (fF (Int.toNat (((b+((a:Nat):Int))*c)+d)) (List.length e))<|.need (gp (((b+((a:Nat):Int))*c)+d) g)<|.need (fF (Int.toNat (((b+((a:Nat):Int))*c)+d)) (List.length e))<|.need (gd .i64 (((a+1):Nat):Int))<|.leaf (.inl ((a+1),(List.set e (Int.toNat (((b+((a:Nat):Int))*c)+d)) (fR (List.getD e (Int.toNat (((b+((a:Nat):Int))*c)+d)) 0) (bC (List.getD f a 0) h))))))
    (.leaf (.inr (.inl e)))
def nW(a:Int)(b:Int)(c:List Nat)(d:Nat)(e:Int)(f:Nat) :Nat×(List Nat)→Option ((Nat×(List Nat))⊕(((List Nat))⊕(((List Nat))⊕(((List Nat))⊕(aT))))):=fun (g,h) =>
  (gW a b c d e f g h).run
theorem Cd(c:Int)(a:Int)(g:Lv)(h:List Nat)(d:Int)(i:Lv)(e:List Nat)(j:Nat)(b:Nat)(f:Int)(k:Nat)(l:Nat)(m:List Nat) :Sg prog [] Cc (nV c a g h d i e j b f k (l,m)) (nW a d e b f k (l,m)) (nV c a g h d i e j b f k) (fB 2 (sF c a g h d i e j b f) (fB 1 (sD c a g h d i e j b f) (fB 0 (nU c a b) jH))):=by
  unfold nW;exact bM aE _ [⟨[],[0,1,2,3,4,5,6],[4,5,7,8,10,11,12,76,77,78]⟩,⟨[],[0,1,2,3,4,5,6],[4,5,7,8,10,11]⟩]
def Ce(a:List Nat) :T (((List Nat))⊕(((List Nat))⊕(((List Nat))⊕(aT)))) :=
  .leaf (.inl a)
def Cf(a:Int)(b:List Nat) :T ((Int×(List Nat))⊕(((List Nat))⊕(aT))) :=
  .need (gd .i64 (a+(1:Int)))<|.leaf (.inl ((a+(1:Int)),b))
def gX(b:Int)(f:List Nat)(c:Int)(d:List Nat)(g:Nat)(h:Nat) :Int×(List Nat)→Option ((Int×(List Nat))⊕(((List Nat))⊕(aT))):=fun (a,e) =>
  aH ((B7 b a e).run) fun _ =>
  aH (Ii (aH ((sE b f c d g a).run) fun i =>
  aH ((Cb).run) fun _ =>
  aH (dN (nW b c d h a i) (0,e)) fun j =>
  (Ce j).run)) fun k =>
  (Cf a k).run
theorem Cg(c:Int)(a:Int)(h:Lv)(d:List Nat)(e:Int)(i:Lv)(f:List Nat)(g:Nat)(b:Nat)(j:Int)(k:List Nat) :Sg prog [] sC (nT c a h d e i f g b (j,k)) (gX a d e f g b (j,k)) (nT c a h d e i f g b) (fB 0 (nU c a b) jH):=by
  unfold gX;exact Sg.cut 2 (cD co) (bM aE (B6 c a h d e i f g b j k) [⟨[],[0,1,2,3,4,5,6],[4,5,7,8,10,11]⟩,⟨[],[3,4,6],[8,10]⟩]) (fun _=>Sg.cut 1 (cD co) (W4 (sD c a h d e i f g b j) 1 (cD co) (BA (by decide) (pj _)) (Sg.cut 1 (cD (cD co)) (bM aE (B9 c a h d e i f g b j k) [⟨[],[0,1,2,3,4,5,6],[4,5,7,8,10,11,12]⟩]) (fun l=>Sg.cut 1 (cD (cD co)) (bM aE (Ca c a h d e i f g b j k l) [⟨[],[0,1,2,3,4,5,6],[4,5,7,8,10,11,12,76,77,78]⟩]) (fun _=>Sg.cut 1 (cD (cD co)) (JQ ⟨[],[0,1,2,3,4,5,6],[4,5,7,8,10,11,12,76,77,78]⟩ (nV c a h d e i f g b j l) (sF c a h d e i f g b j) 2 (cD (cD co)) (BA (by decide) (BA (by decide) (pj _))) (fun ⟨m,n⟩=>Cd c a h d e i f g b j l m n)) (fun o=>bM aE _ [⟨[],[0,1,2,3,4,5,6],[4,5,7,8,10,11]⟩]))))) (fun p=>bM aE _ [⟨[],[0,1,2,3,4,23,6],[4,5,7,8,10,11]⟩]))
def Ch(a:Int)(b:Int)(c:Nat)(d:List Nat) :T ((Empty)⊕(aT)) :=
  .leaf (.inr (.r0 0 a b c d))
def db(b:Int)(a:Int)(c:List Nat)(d:Int)(e:Int)(f:List Nat)(g:Nat) :Option aT:=pm (aH ((nP b a c d e f).run) fun i =>
  aH ((nQ b a d e f i).run) fun j =>
  aH ((nR b a c g j).run) fun (h,k) =>
  aH (dN (gX a c d f g h) (e,k)) fun l =>
  (Ch b a h l).run)
theorem DM(a:Int)(b:Int)(g:Lv)(c:List Nat)(e:Int)(j:Int)(i:Lv)(d:List Nat)(f:Nat){x:aT}(h:db a b c e j d f=some x) :ai prog qf [] [.agg [.int .i64 a,.int .i64 b,.imm g (.fl c) 1 1 0 (List.length c)],.int .i64 e,.int .i64 j,.agg [.imm i (.fl d) 1 1 0 (List.length d),.flt false f]] (qD x) :=
  qH false qD jH h (Sg.cut 2 co (bM aE (DJ a b g c e j i d f) [⟨[],[0,16,32,48],[2,4,5,7,8,31]⟩,⟨[],[0,16,32,48],[2,4,5,7,8,31]⟩,⟨[],[0,16,32,48],[2,4,5,7,8,31]⟩,⟨[],[0,16,32,48],[2,4,5,7,8,31]⟩]) (fun r=>Sg.cut 2 co (bM aE (DK a b g c e j i d f) [⟨[(.cell 3 2,.own 1 1 (.fl ([]:List Nat)))],[3,52],[8,9]⟩,⟨[],[0,1,2,3],[2,4,5,7,8,46]⟩,⟨[],[0,1,2,3],[2,4,5,7,8,46]⟩]) (fun s=>Sg.cut 5 co (bM aE (DL a b g c e j i d f) [⟨[(.cell 3 2,.own 1 1 (.fl ([]:List Nat)))],[3,52],[8,9]⟩,⟨[],[3,100],[8,9]⟩,⟨[],[0,1,2,3,132,228,100],[4,5,7,8,10,11]⟩]) (fun ⟨k,t⟩=>Sg.cut 1 co (JQ ⟨[],[0,1,2,3,4,5,6],[4,5,7,8,10,11]⟩ (nT a b g c e i d f k) (nU a b k) 0 co (pj _) (fun ⟨m,n⟩=>Cg a b g c e i d f k m n)) (fun u=>bM aE _ [⟨[],[0,2],[8,9]⟩])))))
    (fun x=>by cases x with | r0 o p q l v=>exact pn [.agg [.int .i64 p,.int .i64 q,.sl 1 1 1 0 l l],.int .i64 ((o:Nat):Int)])
def kZ:Option aT→Bool
  | some _=>true
  | none=>false
def mJ:Option aT→Nat
  | some (.r0 x _ _ _ _)=>x
  | _=>0
def mK:Option aT→Int
  | some (.r0 _ x _ _ _)=>x
  | _=>0
def mL:Option aT→Int
  | some (.r0 _ _ x _ _)=>x
  | _=>0
def mM:Option aT→Nat
  | some (.r0 _ _ _ x _)=>x
  | _=>0
def mN:Option aT→List Nat
  | some (.r0 _ _ _ _ x)=>x
  | _=>[]
theorem DN{x:Option aT}(h:kZ x=true) :x=some (.r0 (mJ x) (mK x) (mL x) (mM x) (mN x)):=by
  unfold kZ at h
  split at h<;>first | rfl | (cases h;done) | (rename_i y;cases y;rfl)
def wz:aK:=cV qf (.cons (.agg (.cons (.int .i64) (.cons (.int .i64) (.cons .fl .nil)))) (.cons (.int .i64) (.cons (.int .i64) (.cons (.agg (.cons .fl (.cons (.flt false) .nil))) .nil)))) fun t=>(fun q=>[⟨qD (.r0 (mJ q) (mK q) (mL q) (mM q) (mN q)),[kZ q]⟩]) (db t.1.1 t.1.2.1 t.1.2.2.1.2 t.2.1 t.2.2.1 t.2.2.2.1.1.2 t.2.2.2.1.2.1)
theorem AW:aQ prog wz:=aX fun t=>(aY (fun h=>DM t.1.1 t.1.2.1 t.1.2.2.1.1 t.1.2.2.1.2 t.2.1 t.2.2.1 t.2.2.2.1.1.1 t.2.2.2.1.1.2 t.2.2.2.1.2.1 (DN h)) bE)
def wA:List aK:=wz::gM
theorem gG:bj prog (bv wA):=ax AW aE
inductive bJ where
  | r0 (a:Nat) (b:Nat) (c:Bool) (d:Nat) (e:List Bool) (f:List (List Int)) (g:List Int)
def ov:bJ→AE×aG
  | .r0 a b c d e f g=>(.ret,⟨an 29 [(2,.sl 0 3 3 0 a b),(3,.bool false c)],[(0,.cols d [.cb e,.cns .u64 f,.ci .i64 g])],1⟩)
theorem mO:mW ov:=by intro x;cases x<;>(intro h;cases h)
theorem Gt(id:Nat) :oV id ov:=by intro x;cases x<;>(intro h;cases h)
def rZ:bJ→jj
  | .r0 a b c d e f g=>⟨.tup [.sl 0 3 3 0 a b,.bool false c],[some (.cols d [.cb e,.cns .u64 f,.ci .i64 g])]⟩
def DO:List Code:=dU (pB rF)
def Gu(b:Lv)(a:List Nat)(_:Unit) :aG:=⟨an 29 [(0,.imm b (.fl a) 1 1 0 (List.length a)),(4,.nsl),(5,.int .i64 (0:Int))],[],0⟩
def DP:T ((Unit)⊕(bJ)) :=
  .leaf (.inl ())
def qE(b:Lv)(a:List Nat) :Nat×Nat×Nat×Nat×(List Bool)×(List (List Int))×(List Int)→aG:=fun (c,d,e,f,g,h,i)=>⟨an 29 [(0,.imm b (.fl a) 1 1 0 (List.length a)),(4,.sl 0 3 3 0 c d),(5,.int .i64 ((e:Nat):Int))],[(0,.cols f [.cb g,.cns .u64 h,.ci .i64 i])],1⟩
def wB:Nat×Nat×Nat×(List Bool)×(List (List Int))×(List Int)→aG:=fun (a,b,c,d,e,f)=>⟨an 29 [(4,.sl 0 3 3 0 a b)],[(0,.cols c [.cb d,.cns .u64 e,.ci .i64 f])],1⟩
def DQ:List Code:=dU (gI ((((DO.drop 3).take 1)).headD .skip))
def Gv(c:Lv)(b:List Nat)(d:Nat) :Nat×(List Bool)×(List (List Int))×(List Int)→aG:=fun (a,e,f,g)=>⟨an 29 [(0,.imm c (.fl b) 1 1 0 (List.length b)),(4,.sl 0 3 3 0 a a),(5,.int .i64 ((d:Nat):Int))],[(0,.cols a [.cb e,.cns .u64 f,.ci .i64 g])],1⟩
def k6(a:List Nat)(c:Nat)(h:Nat)(b:Nat)(d:Nat)(e:List Bool)(f:List (List Int))(g:List Int) :T ((Nat×(List Bool)×(List (List Int))×(List Int))⊕((Nat×Nat×Nat×(List Bool)×(List (List Int))×(List Int))⊕(bJ))) :=
  .ask (decide (((b:Nat):Int)<(((List.length a):Nat):Int)))
    (.need (gp ((b:Nat):Int) (List.length a))<|.need (fF b (List.length a))<|.need (qx (fU (List.getD a b 0)))<|.ask ((((pO (fU (List.getD a b 0))):Nat):Int) != (0:Int))
      (.leaf (.inr (.inr (.r0 0 0 false 0 ([]:List Bool) ([]:List (List Int)) ([]:List Int)))))
      (.need (pT ((c+1)*40) 140737488355328)<|.need (pT (c+1) 9223372036854775807)<|.need (pT 3 3)<|.need (pT c d)<|.need (decide ((mi (fU (List.getD a b 0)))+(mj (fU (List.getD a b 0)))≤List.length (mh (fU (List.getD a b 0)))))<|.leaf (.inl ((c+1),((List.take c e)++[(pP (fU (List.getD a b 0)))]),((List.take c f)++[(List.take (mj (fU (List.getD a b 0))) (List.drop (mi (fU (List.getD a b 0))) (mh (fU (List.getD a b 0)))))]),((List.take c g)++[(pQ (fU (List.getD a b 0)))])))))
    (.leaf (.inr (.inl (c,h,d,e,f,g))))
def DR(b:Nat)(a:Nat)(c:List Bool)(d:List (List Int))(e:List Int) :T ((Nat×Nat×Nat×Nat×(List Bool)×(List (List Int))×(List Int))⊕((Nat×Nat×Nat×(List Bool)×(List (List Int))×(List Int))⊕(bJ))) :=
  .need (gd .i64 (((b+1):Nat):Int))<|.leaf (.inl (a,a,(b+1),a,c,d,e))
def pk(b:List Nat) :Nat×Nat×Nat×Nat×(List Bool)×(List (List Int))×(List Int)→Option ((Nat×Nat×Nat×Nat×(List Bool)×(List (List Int))×(List Int))⊕((Nat×Nat×Nat×(List Bool)×(List (List Int))×(List Int))⊕(bJ))):=fun (c,d,a,e,f,g,h) =>
  aH ((k6 b c d a e f g h).run) fun (i,j,k,l) =>
  (DR a i j k l).run
theorem DS(b:Lv)(a:List Nat)(d:Nat)(e:Nat)(c:Nat)(f:Nat)(g:List Bool)(h:List (List Int))(i:List Int) :Sg prog [] DQ (qE b a (d,e,c,f,g,h,i)) (pk a (d,e,c,f,g,h,i)) (qE b a) (fB 0 wB ov):=by
  unfold pk;exact Sg.cut 3 (cD mO) (bM gG (Gv b a c) [⟨[(.slot 2,.own 3 3 (.cols 0 [.cb ([]:List Bool),.cns .u64 ([]:List (List Int)),.ci .i64 ([]:List Int)]))],[305],[2,3]⟩,⟨[],[321],[0,4,5]⟩,⟨[],[0],[4]⟩]) (fun ⟨j,k,l,m⟩=>bM gG _ [⟨[],[0],[0,4,5]⟩])
def DT(a:Nat)(b:Nat)(c:Nat)(d:List Bool)(e:List (List Int))(f:List Int) :T ((Empty)⊕(bJ)) :=
  .leaf (.inr (.r0 a b true c d e f))
def aN(a:List Nat) :Option bJ:=pm (aH ((DP).run) fun _ =>
  aH (dN (pk a) (0,0,0,0,([]:List Bool),([]:List (List Int)),([]:List Int))) fun (b,c,d,e,f,g) =>
  (DT b c d e f g).run)
theorem Gw(b:Lv)(a:List Nat){x:bJ}(h:aN a=some x) :ai prog rF [] [.imm b (.fl a) 1 1 0 (List.length a)] (rZ x) :=
  qH false rZ ov h (Sg.cut 3 mO (bM gG (Gu b a) [⟨[],[],[0,4,5]⟩]) (fun _=>Sg.cut 1 mO (JQ ⟨[(.slot 4,.own 3 3 (.cols 0 [.cb ([]:List Bool),.cns .u64 ([]:List (List Int)),.ci .i64 ([]:List Int)]))],[0],[0,4,5]⟩ (qE b a) (wB) 0 mO (Gt _) (fun ⟨c,d,e,f,g,i,j⟩=>DS b a c d e f g i j)) (fun ⟨n,o,p,q,r,s⟩=>bM gG _ [⟨[],[0],[2,3]⟩])))
    (fun x=>by cases x with | r0 k l m t u v w=>exact pn [.sl 0 3 3 0 k l,.bool false m])
def gY:Option bJ→Bool
  | some _=>true
  | none=>false
def gZ:Option bJ→Nat
  | some (.r0 x _ _ _ _ _ _)=>x
  | _=>0
def g9:Option bJ→Nat
  | some (.r0 _ x _ _ _ _ _)=>x
  | _=>0
def hH:Option bJ→Bool
  | some (.r0 _ _ x _ _ _ _)=>x
  | _=>false
def hJ:Option bJ→Nat
  | some (.r0 _ _ _ x _ _ _)=>x
  | _=>0
def ia:Option bJ→List Bool
  | some (.r0 _ _ _ _ x _ _)=>x
  | _=>[]
def ib:Option bJ→List (List Int)
  | some (.r0 _ _ _ _ _ x _)=>x
  | _=>[]
def ic:Option bJ→List Int
  | some (.r0 _ _ _ _ _ _ x)=>x
  | _=>[]
theorem Gx{x:Option bJ}(h:gY x=true) :x=some (.r0 (gZ x) (g9 x) (hH x) (hJ x) (ia x) (ib x) (ic x)):=by
  unfold gY at h
  split at h<;>first | rfl | (cases h;done) | (rename_i y;cases y;rfl)
def yp:aK:=cV rF (.cons .fl .nil) fun t=>(fun q=>[⟨rZ (.r0 (gZ q) (g9 q) (hH q) (hJ q) (ia q) (ib q) (ic q)),[gY q]⟩]) (aN t.1.2)
theorem Ci:aQ prog yp:=aX fun t=>(aY (fun h=>Gw t.1.1 t.1.2 (Gx h)) bE)
def yq:List aK:=yp::wA
theorem nX:bj prog (bv yq):=ax Ci gG
inductive ej where
  | r0 (a:Nat) (b:Bool) (c:List Int) (d:Nat) (e:Nat) (f:Int)
def Gy:ej→AE×aG
  | .r0 a b c d e f=>(.ret,⟨an 15 [(4,.ptr 0 1 0 0),(5,.int .i64 ((a:Nat):Int))],[(0,.vs [.bool false b,.imm .free (.ns .u64 c) 1 1 d e,.int .i64 f])],1⟩)
theorem NE:mW Gy:=by intro x;cases x<;>(intro h;cases h)
def zq:ej→jj
  | .r0 a b c d e f=>⟨.tup [.agg [.bool false b,.imm .free (.ns .u64 c) 1 1 d e,.int .i64 f],.int .i64 ((a:Nat):Int)],[]⟩
def NF:Nat×Bool×(List Int)×Nat×Nat×Int→aG:=fun (a,b,c,d,e,f)=>⟨an 15 [(4,.ptr 0 1 0 0),(5,.int .i64 ((a:Nat):Int))],[(0,.vs [.bool false b,.imm .free (.ns .u64 c) 1 1 d e,.int .i64 f])],1⟩
def Dg(c:Bool)(a:List Int)(d:Int)(e:Bool)(b:List Int)(f:Int) :T ((Nat×Bool×(List Int)×Nat×Nat×Int)⊕(ej)) :=
  .need (a6 0 (List.length a) a)<|.need (a6 0 (List.length b) b)<|.need (oO (bK c (aa 0 (List.length a) a) d (!e) (aa 0 (List.length b) b) f))<|.leaf (.inl ((iP (bK c (aa 0 (List.length a) a) d (!e) (aa 0 (List.length b) b) f)),(ki (bK c (aa 0 (List.length a) a) d (!e) (aa 0 (List.length b) b) f)),(kj (bK c (aa 0 (List.length a) a) d (!e) (aa 0 (List.length b) b) f)),(km (bK c (aa 0 (List.length a) a) d (!e) (aa 0 (List.length b) b) f)),(kp (bK c (aa 0 (List.length a) a) d (!e) (aa 0 (List.length b) b) f)),(kr (bK c (aa 0 (List.length a) a) d (!e) (aa 0 (List.length b) b) f))))
def NG(a:Nat)(b:Bool)(c:List Int)(d:Nat)(e:Nat)(f:Int) :T ((Empty)⊕(ej)) :=
  .leaf (.inr (.r0 a b c d e f))
def bY(a:Bool)(b:List Int)(c:Int)(d:Bool)(e:List Int)(f:Int) :Option ej:=pm (aH ((Dg a b c d e f).run) fun (g,h,i,j,k,l) =>
  (NG g h i j k l).run)
theorem NH(c:Bool)(g:Lv)(a:List Int)(d:Int)(e:Bool)(i:Lv)(b:List Int)(f:Int){x:ej}(h:bY c a d e b f=some x) :ai prog yJ [] [.agg [.bool false c,.imm g (.ns .u64 a) 1 1 0 (List.length a),.int .i64 d],.agg [.bool false e,.imm i (.ns .u64 b) 1 1 0 (List.length b),.int .i64 f]] (zq x) :=
  qH true zq Gy h (Sg.cut 3 NE (bM nX NF [⟨[],[32],[4,5]⟩]) (fun ⟨p,q,r,s,t,u⟩=>bM nX _ [⟨[],[0],[4,5]⟩]))
    (fun x=>by cases x with | r0 j k l m n o=>exact pn [.agg [.bool false k,.imm .free (.ns .u64 l) 1 1 m n,.int .i64 o],.int .i64 ((j:Nat):Int)])
def lE:Option ej→Bool
  | some _=>true
  | none=>false
def kA:Option ej→Nat
  | some (.r0 x _ _ _ _ _)=>x
  | _=>0
def kB:Option ej→Bool
  | some (.r0 _ x _ _ _ _)=>x
  | _=>false
def iS:Option ej→List Int
  | some (.r0 _ _ x _ _ _)=>x
  | _=>[]
def iT:Option ej→Nat
  | some (.r0 _ _ _ x _ _)=>x
  | _=>0
def iU:Option ej→Nat
  | some (.r0 _ _ _ _ x _)=>x
  | _=>0
def kC:Option ej→Int
  | some (.r0 _ _ _ _ _ x)=>x
  | _=>0
theorem NI{x:Option ej}(h:lE x=true) :x=some (.r0 (kA x) (kB x) (iS x) (iT x) (iU x) (kC x)):=by
  unfold lE at h
  split at h<;>first | rfl | (cases h;done) | (rename_i y;cases y;rfl)
def Gz:aK:=cV yJ (.cons (.agg (.cons .bool (.cons (.ns .u64) (.cons (.int .i64) .nil)))) (.cons (.agg (.cons .bool (.cons (.ns .u64) (.cons (.int .i64) .nil)))) .nil)) fun t=>(fun q=>[⟨zq (.r0 (kA q) (kB q) (iS q) (iT q) (iU q) (kC q)),[lE q]⟩]) (bY t.1.1 t.1.2.1.2 t.1.2.2.1 t.2.1.1 t.2.1.2.1.2 t.2.1.2.2.1)
theorem HY:aQ prog Gz:=aX fun t=>(aY (fun h=>NH t.1.1 t.1.2.1.1 t.1.2.1.2 t.1.2.2.1 t.2.1.1 t.2.1.2.1.1 t.2.1.2.1.2 t.2.1.2.2.1 (NI h)) bE)
def GA:List aK:=Gz::yq
theorem iV:bj prog (bv GA):=ax HY nX
inductive cL where
  | r0 (a:Nat) (b:Bool) (c:List Int) (d:Nat) (e:Nat) (f:Int)
def ui:cL→AE×aG
  | .r0 a b c d e f=>(.ret,⟨an 51 [(4,.ptr 0 1 0 0),(5,.int .i64 ((a:Nat):Int))],[(0,.vs [.bool false b,.imm .free (.ns .u64 c) 1 1 d e,.int .i64 f])],1⟩)
theorem lF:mW ui:=by intro x;cases x<;>(intro h;cases h)
theorem NJ(id:Nat) :oV id ui:=by intro x;cases x<;>(intro h;cases h)
def zr:cL→jj
  | .r0 a b c d e f=>⟨.tup [.agg [.bool false b,.imm .free (.ns .u64 c) 1 1 d e,.int .i64 f],.int .i64 ((a:Nat):Int)],[]⟩
def uj:List Code:=dU (pB s6)
def NK(c:Lv)(a:Nat)(d:List Bool)(e:List (List Int))(f:List Int)(g:Lv)(b:Nat)(h:List Bool)(i:List (List Int))(j:List Int)(k:Bool) :aG:=⟨an 51 [(0,.imm c (.cols a [.cb d,.cns .u64 e,.ci .i64 f]) 3 3 0 a),(1,.imm g (.cols b [.cb h,.cns .u64 i,.ci .i64 j]) 3 3 0 b),(4,.ptr 0 1 0 0)],[(0,.vs [.bool false k,.nsl,.int .i64 (0:Int)])],1⟩
def Ku:T ((Bool)⊕(cL)) :=
  .leaf (.inl false)
def Kv:List Code:=dU (Q9 (((uj.drop 1)).headD .skip))
def NL(c:Lv)(a:Nat)(d:List Bool)(e:List (List Int))(f:List Int)(g:Lv)(b:Nat)(h:List Bool)(i:List (List Int))(j:List Int)(k:Bool)(l:Bool) :aG:=⟨an 51 [(0,.imm c (.cols a [.cb d,.cns .u64 e,.ci .i64 f]) 3 3 0 a),(1,.imm g (.cols b [.cb h,.cns .u64 i,.ci .i64 j]) 3 3 0 b),(4,.ptr 0 1 0 0),(6,.ptr 1 1 0 0),(7,.int .i64 (0:Int)),(18,.int .i64 ((a:Nat):Int)),(19,.int .i64 (0:Int))],[(0,.vs [.bool false k,.nsl,.int .i64 (0:Int)]),(1,.vs [.bool false l,.nsl,.int .i64 (0:Int)])],2⟩
def Kw(a:Nat)(b:Nat) :T ((Bool)⊕(cL)) :=
  .ask (((a:Nat):Int) != ((b:Nat):Int))
    (.leaf (.inr (.r0 2 false ([]:List Int) 0 0 (0:Int))))
    (.leaf (.inl false))
def wC(c:Lv)(a:Nat)(d:List Bool)(e:List (List Int))(f:List Int)(g:Lv)(b:Nat)(h:List Bool)(i:List (List Int))(j:List Int)(k:Bool) :Nat×Nat×Bool×(List Int)×Nat×Nat×Int→aG:=fun (l,m,n,o,p,q,r)=>⟨an 51 [(0,.imm c (.cols a [.cb d,.cns .u64 e,.ci .i64 f]) 3 3 0 a),(1,.imm g (.cols b [.cb h,.cns .u64 i,.ci .i64 j]) 3 3 0 b),(4,.ptr 0 1 0 0),(6,.ptr 1 1 0 0),(7,.int .i64 ((l:Nat):Int)),(18,.int .i64 ((a:Nat):Int)),(19,.int .i64 ((m:Nat):Int))],[(0,.vs [.bool false k,.nsl,.int .i64 (0:Int)]),(1,.vs [.bool false n,.imm .free (.ns .u64 o) 1 1 p q,.int .i64 r])],2⟩
def AX(a:Bool) :Nat×Bool×(List Int)×Nat×Nat×Int→aG:=fun (b,c,d,e,f,g)=>⟨an 51 [(4,.ptr 0 1 0 0),(6,.ptr 1 1 0 0),(7,.int .i64 ((b:Nat):Int))],[(0,.vs [.bool false a,.nsl,.int .i64 (0:Int)]),(1,.vs [.bool false c,.imm .free (.ns .u64 d) 1 1 e f,.int .i64 g])],2⟩
def Kx:List Code:=dU (gI ((((Kv.drop 5).take 1)).headD .skip))
def Ky(c:Lv)(a:Nat)(d:List Bool)(e:List (List Int))(f:List Int)(g:Lv)(b:Nat)(h:List Bool)(i:List (List Int))(j:List Int)(k:Bool)(l:Nat) :Nat×Bool×(List Int)×Nat×Nat×Int→aG:=fun (m,n,o,p,q,r)=>⟨an 51 [(0,.imm c (.cols a [.cb d,.cns .u64 e,.ci .i64 f]) 3 3 0 a),(1,.imm g (.cols b [.cb h,.cns .u64 i,.ci .i64 j]) 3 3 0 b),(4,.ptr 0 1 0 0),(6,.ptr 1 1 0 0),(7,.int .i64 ((m:Nat):Int)),(18,.int .i64 ((a:Nat):Int)),(19,.int .i64 ((l:Nat):Int))],[(0,.vs [.bool false k,.nsl,.int .i64 (0:Int)]),(1,.vs [.bool false n,.imm .free (.ns .u64 o) 1 1 p q,.int .i64 r])],2⟩
def uk(m:Nat)(d:List Bool)(b:List (List Int))(e:List Int)(n:Nat)(f:List Bool)(c:List (List Int))(g:List Int)(o:Nat)(a:Nat)(k:Bool)(h:List Int)(i:Nat)(j:Nat)(l:Int) :T ((Nat×Bool×(List Int)×Nat×Nat×Int)⊕((Nat×Bool×(List Int)×Nat×Nat×Int)⊕(cL))) :=
  .ask (decide (((a:Nat):Int)<((m:Nat):Int)))
    (.need (gp ((a:Nat):Int) m)<|.need (fF a (List.length d))<|.need (fF a (List.length b))<|.need (fF a (List.length e))<|.need (gp ((a:Nat):Int) n)<|.need (fF a (List.length f))<|.need (fF a (List.length c))<|.need (fF a (List.length g))<|.need (a6 0 (List.length (List.getD b a [])) (List.getD b a []))<|.need (a6 0 (List.length (List.getD c a [])) (List.getD c a []))<|.need (fQ (ac (List.getD d a false) (aa 0 (List.length (List.getD b a [])) (List.getD b a [])) (List.getD e a 0) (List.getD f a false) (aa 0 (List.length (List.getD c a [])) (List.getD c a [])) (List.getD g a 0)))<|.ask ((((dY (ac (List.getD d a false) (aa 0 (List.length (List.getD b a [])) (List.getD b a [])) (List.getD e a 0) (List.getD f a false) (aa 0 (List.length (List.getD c a [])) (List.getD c a [])) (List.getD g a 0))):Nat):Int) != (0:Int))
      (.leaf (.inr (.inl ((dY (ac (List.getD d a false) (aa 0 (List.length (List.getD b a [])) (List.getD b a [])) (List.getD e a 0) (List.getD f a false) (aa 0 (List.length (List.getD c a [])) (List.getD c a [])) (List.getD g a 0))),k,h,i,j,l))))
      (.need (a6 i j h)<|.need (a6 (bf (ac (List.getD d a false) (aa 0 (List.length (List.getD b a [])) (List.getD b a [])) (List.getD e a 0) (List.getD f a false) (aa 0 (List.length (List.getD c a [])) (List.getD c a [])) (List.getD g a 0))) (bg (ac (List.getD d a false) (aa 0 (List.length (List.getD b a [])) (List.getD b a [])) (List.getD e a 0) (List.getD f a false) (aa 0 (List.length (List.getD c a [])) (List.getD c a [])) (List.getD g a 0))) (bc (ac (List.getD d a false) (aa 0 (List.length (List.getD b a [])) (List.getD b a [])) (List.getD e a 0) (List.getD f a false) (aa 0 (List.length (List.getD c a [])) (List.getD c a [])) (List.getD g a 0))))<|.need (oO (bK k (aa i j h) l (bm (ac (List.getD d a false) (aa 0 (List.length (List.getD b a [])) (List.getD b a [])) (List.getD e a 0) (List.getD f a false) (aa 0 (List.length (List.getD c a [])) (List.getD c a [])) (List.getD g a 0))) (aa (bf (ac (List.getD d a false) (aa 0 (List.length (List.getD b a [])) (List.getD b a [])) (List.getD e a 0) (List.getD f a false) (aa 0 (List.length (List.getD c a [])) (List.getD c a [])) (List.getD g a 0))) (bg (ac (List.getD d a false) (aa 0 (List.length (List.getD b a [])) (List.getD b a [])) (List.getD e a 0) (List.getD f a false) (aa 0 (List.length (List.getD c a [])) (List.getD c a [])) (List.getD g a 0))) (bc (ac (List.getD d a false) (aa 0 (List.length (List.getD b a [])) (List.getD b a [])) (List.getD e a 0) (List.getD f a false) (aa 0 (List.length (List.getD c a [])) (List.getD c a [])) (List.getD g a 0)))) (bo (ac (List.getD d a false) (aa 0 (List.length (List.getD b a [])) (List.getD b a [])) (List.getD e a 0) (List.getD f a false) (aa 0 (List.length (List.getD c a [])) (List.getD c a [])) (List.getD g a 0)))))<|.ask ((((iP (bK k (aa i j h) l (bm (ac (List.getD d a false) (aa 0 (List.length (List.getD b a [])) (List.getD b a [])) (List.getD e a 0) (List.getD f a false) (aa 0 (List.length (List.getD c a [])) (List.getD c a [])) (List.getD g a 0))) (aa (bf (ac (List.getD d a false) (aa 0 (List.length (List.getD b a [])) (List.getD b a [])) (List.getD e a 0) (List.getD f a false) (aa 0 (List.length (List.getD c a [])) (List.getD c a [])) (List.getD g a 0))) (bg (ac (List.getD d a false) (aa 0 (List.length (List.getD b a [])) (List.getD b a [])) (List.getD e a 0) (List.getD f a false) (aa 0 (List.length (List.getD c a [])) (List.getD c a [])) (List.getD g a 0))) (bc (ac (List.getD d a false) (aa 0 (List.length (List.getD b a [])) (List.getD b a [])) (List.getD e a 0) (List.getD f a false) (aa 0 (List.length (List.getD c a [])) (List.getD c a [])) (List.getD g a 0)))) (bo (ac (List.getD d a false) (aa 0 (List.length (List.getD b a [])) (List.getD b a [])) (List.getD e a 0) (List.getD f a false) (aa 0 (List.length (List.getD c a [])) (List.getD c a [])) (List.getD g a 0))))):Nat):Int) != (0:Int))
        (.leaf (.inr (.inl ((iP (bK k (aa i j h) l (bm (ac (List.getD d a false) (aa 0 (List.length (List.getD b a [])) (List.getD b a [])) (List.getD e a 0) (List.getD f a false) (aa 0 (List.length (List.getD c a [])) (List.getD c a [])) (List.getD g a 0))) (aa (bf (ac (List.getD d a false) (aa 0 (List.length (List.getD b a [])) (List.getD b a [])) (List.getD e a 0) (List.getD f a false) (aa 0 (List.length (List.getD c a [])) (List.getD c a [])) (List.getD g a 0))) (bg (ac (List.getD d a false) (aa 0 (List.length (List.getD b a [])) (List.getD b a [])) (List.getD e a 0) (List.getD f a false) (aa 0 (List.length (List.getD c a [])) (List.getD c a [])) (List.getD g a 0))) (bc (ac (List.getD d a false) (aa 0 (List.length (List.getD b a [])) (List.getD b a [])) (List.getD e a 0) (List.getD f a false) (aa 0 (List.length (List.getD c a [])) (List.getD c a [])) (List.getD g a 0)))) (bo (ac (List.getD d a false) (aa 0 (List.length (List.getD b a [])) (List.getD b a [])) (List.getD e a 0) (List.getD f a false) (aa 0 (List.length (List.getD c a [])) (List.getD c a [])) (List.getD g a 0))))),(ki (bK k (aa i j h) l (bm (ac (List.getD d a false) (aa 0 (List.length (List.getD b a [])) (List.getD b a [])) (List.getD e a 0) (List.getD f a false) (aa 0 (List.length (List.getD c a [])) (List.getD c a [])) (List.getD g a 0))) (aa (bf (ac (List.getD d a false) (aa 0 (List.length (List.getD b a [])) (List.getD b a [])) (List.getD e a 0) (List.getD f a false) (aa 0 (List.length (List.getD c a [])) (List.getD c a [])) (List.getD g a 0))) (bg (ac (List.getD d a false) (aa 0 (List.length (List.getD b a [])) (List.getD b a [])) (List.getD e a 0) (List.getD f a false) (aa 0 (List.length (List.getD c a [])) (List.getD c a [])) (List.getD g a 0))) (bc (ac (List.getD d a false) (aa 0 (List.length (List.getD b a [])) (List.getD b a [])) (List.getD e a 0) (List.getD f a false) (aa 0 (List.length (List.getD c a [])) (List.getD c a [])) (List.getD g a 0)))) (bo (ac (List.getD d a false) (aa 0 (List.length (List.getD b a [])) (List.getD b a [])) (List.getD e a 0) (List.getD f a false) (aa 0 (List.length (List.getD c a [])) (List.getD c a [])) (List.getD g a 0))))),(kj (bK k (aa i j h) l (bm (ac (List.getD d a false) (aa 0 (List.length (List.getD b a [])) (List.getD b a [])) (List.getD e a 0) (List.getD f a false) (aa 0 (List.length (List.getD c a [])) (List.getD c a [])) (List.getD g a 0))) (aa (bf (ac (List.getD d a false) (aa 0 (List.length (List.getD b a [])) (List.getD b a [])) (List.getD e a 0) (List.getD f a false) (aa 0 (List.length (List.getD c a [])) (List.getD c a [])) (List.getD g a 0))) (bg (ac (List.getD d a false) (aa 0 (List.length (List.getD b a [])) (List.getD b a [])) (List.getD e a 0) (List.getD f a false) (aa 0 (List.length (List.getD c a [])) (List.getD c a [])) (List.getD g a 0))) (bc (ac (List.getD d a false) (aa 0 (List.length (List.getD b a [])) (List.getD b a [])) (List.getD e a 0) (List.getD f a false) (aa 0 (List.length (List.getD c a [])) (List.getD c a [])) (List.getD g a 0)))) (bo (ac (List.getD d a false) (aa 0 (List.length (List.getD b a [])) (List.getD b a [])) (List.getD e a 0) (List.getD f a false) (aa 0 (List.length (List.getD c a [])) (List.getD c a [])) (List.getD g a 0))))),(km (bK k (aa i j h) l (bm (ac (List.getD d a false) (aa 0 (List.length (List.getD b a [])) (List.getD b a [])) (List.getD e a 0) (List.getD f a false) (aa 0 (List.length (List.getD c a [])) (List.getD c a [])) (List.getD g a 0))) (aa (bf (ac (List.getD d a false) (aa 0 (List.length (List.getD b a [])) (List.getD b a [])) (List.getD e a 0) (List.getD f a false) (aa 0 (List.length (List.getD c a [])) (List.getD c a [])) (List.getD g a 0))) (bg (ac (List.getD d a false) (aa 0 (List.length (List.getD b a [])) (List.getD b a [])) (List.getD e a 0) (List.getD f a false) (aa 0 (List.length (List.getD c a [])) (List.getD c a [])) (List.getD g a 0))) (bc (ac (List.getD d a false) (aa 0 (List.length (List.getD b a [])) (List.getD b a [])) (List.getD e a 0) (List.getD f a false) (aa 0 (List.length (List.getD c a [])) (List.getD c a [])) (List.getD g a 0)))) (bo (ac (List.getD d a false) (aa 0 (List.length (List.getD b a [])) (List.getD b a [])) (List.getD e a 0) (List.getD f a false) (aa 0 (List.length (List.getD c a [])) (List.getD c a [])) (List.getD g a 0))))),(kp (bK k (aa i j h) l (bm (ac (List.getD d a false) (aa 0 (List.length (List.getD b a [])) (List.getD b a [])) (List.getD e a 0) (List.getD f a false) (aa 0 (List.length (List.getD c a [])) (List.getD c a [])) (List.getD g a 0))) (aa (bf (ac (List.getD d a false) (aa 0 (List.length (List.getD b a [])) (List.getD b a [])) (List.getD e a 0) (List.getD f a false) (aa 0 (List.length (List.getD c a [])) (List.getD c a [])) (List.getD g a 0))) (bg (ac (List.getD d a false) (aa 0 (List.length (List.getD b a [])) (List.getD b a [])) (List.getD e a 0) (List.getD f a false) (aa 0 (List.length (List.getD c a [])) (List.getD c a [])) (List.getD g a 0))) (bc (ac (List.getD d a false) (aa 0 (List.length (List.getD b a [])) (List.getD b a [])) (List.getD e a 0) (List.getD f a false) (aa 0 (List.length (List.getD c a [])) (List.getD c a [])) (List.getD g a 0)))) (bo (ac (List.getD d a false) (aa 0 (List.length (List.getD b a [])) (List.getD b a [])) (List.getD e a 0) (List.getD f a false) (aa 0 (List.length (List.getD c a [])) (List.getD c a [])) (List.getD g a 0))))),(kr (bK k (aa i j h) l (bm (ac (List.getD d a false) (aa 0 (List.length (List.getD b a [])) (List.getD b a [])) (List.getD e a 0) (List.getD f a false) (aa 0 (List.length (List.getD c a [])) (List.getD c a [])) (List.getD g a 0))) (aa (bf (ac (List.getD d a false) (aa 0 (List.length (List.getD b a [])) (List.getD b a [])) (List.getD e a 0) (List.getD f a false) (aa 0 (List.length (List.getD c a [])) (List.getD c a [])) (List.getD g a 0))) (bg (ac (List.getD d a false) (aa 0 (List.length (List.getD b a [])) (List.getD b a [])) (List.getD e a 0) (List.getD f a false) (aa 0 (List.length (List.getD c a [])) (List.getD c a [])) (List.getD g a 0))) (bc (ac (List.getD d a false) (aa 0 (List.length (List.getD b a [])) (List.getD b a [])) (List.getD e a 0) (List.getD f a false) (aa 0 (List.length (List.getD c a [])) (List.getD c a [])) (List.getD g a 0)))) (bo (ac (List.getD d a false) (aa 0 (List.length (List.getD b a [])) (List.getD b a [])) (List.getD e a 0) (List.getD f a false) (aa 0 (List.length (List.getD c a [])) (List.getD c a [])) (List.getD g a 0)))))))))
        (.leaf (.inl ((iP (bK k (aa i j h) l (bm (ac (List.getD d a false) (aa 0 (List.length (List.getD b a [])) (List.getD b a [])) (List.getD e a 0) (List.getD f a false) (aa 0 (List.length (List.getD c a [])) (List.getD c a [])) (List.getD g a 0))) (aa (bf (ac (List.getD d a false) (aa 0 (List.length (List.getD b a [])) (List.getD b a [])) (List.getD e a 0) (List.getD f a false) (aa 0 (List.length (List.getD c a [])) (List.getD c a [])) (List.getD g a 0))) (bg (ac (List.getD d a false) (aa 0 (List.length (List.getD b a [])) (List.getD b a [])) (List.getD e a 0) (List.getD f a false) (aa 0 (List.length (List.getD c a [])) (List.getD c a [])) (List.getD g a 0))) (bc (ac (List.getD d a false) (aa 0 (List.length (List.getD b a [])) (List.getD b a [])) (List.getD e a 0) (List.getD f a false) (aa 0 (List.length (List.getD c a [])) (List.getD c a [])) (List.getD g a 0)))) (bo (ac (List.getD d a false) (aa 0 (List.length (List.getD b a [])) (List.getD b a [])) (List.getD e a 0) (List.getD f a false) (aa 0 (List.length (List.getD c a [])) (List.getD c a [])) (List.getD g a 0))))),(ki (bK k (aa i j h) l (bm (ac (List.getD d a false) (aa 0 (List.length (List.getD b a [])) (List.getD b a [])) (List.getD e a 0) (List.getD f a false) (aa 0 (List.length (List.getD c a [])) (List.getD c a [])) (List.getD g a 0))) (aa (bf (ac (List.getD d a false) (aa 0 (List.length (List.getD b a [])) (List.getD b a [])) (List.getD e a 0) (List.getD f a false) (aa 0 (List.length (List.getD c a [])) (List.getD c a [])) (List.getD g a 0))) (bg (ac (List.getD d a false) (aa 0 (List.length (List.getD b a [])) (List.getD b a [])) (List.getD e a 0) (List.getD f a false) (aa 0 (List.length (List.getD c a [])) (List.getD c a [])) (List.getD g a 0))) (bc (ac (List.getD d a false) (aa 0 (List.length (List.getD b a [])) (List.getD b a [])) (List.getD e a 0) (List.getD f a false) (aa 0 (List.length (List.getD c a [])) (List.getD c a [])) (List.getD g a 0)))) (bo (ac (List.getD d a false) (aa 0 (List.length (List.getD b a [])) (List.getD b a [])) (List.getD e a 0) (List.getD f a false) (aa 0 (List.length (List.getD c a [])) (List.getD c a [])) (List.getD g a 0))))),(kj (bK k (aa i j h) l (bm (ac (List.getD d a false) (aa 0 (List.length (List.getD b a [])) (List.getD b a [])) (List.getD e a 0) (List.getD f a false) (aa 0 (List.length (List.getD c a [])) (List.getD c a [])) (List.getD g a 0))) (aa (bf (ac (List.getD d a false) (aa 0 (List.length (List.getD b a [])) (List.getD b a [])) (List.getD e a 0) (List.getD f a false) (aa 0 (List.length (List.getD c a [])) (List.getD c a [])) (List.getD g a 0))) (bg (ac (List.getD d a false) (aa 0 (List.length (List.getD b a [])) (List.getD b a [])) (List.getD e a 0) (List.getD f a false) (aa 0 (List.length (List.getD c a [])) (List.getD c a [])) (List.getD g a 0))) (bc (ac (List.getD d a false) (aa 0 (List.length (List.getD b a [])) (List.getD b a [])) (List.getD e a 0) (List.getD f a false) (aa 0 (List.length (List.getD c a [])) (List.getD c a [])) (List.getD g a 0)))) (bo (ac (List.getD d a false) (aa 0 (List.length (List.getD b a [])) (List.getD b a [])) (List.getD e a 0) (List.getD f a false) (aa 0 (List.length (List.getD c a [])) (List.getD c a [])) (List.getD g a 0))))),(km (bK k (aa i j h) l (bm (ac (List.getD d a false) (aa 0 (List.length (List.getD b a [])) (List.getD b a [])) (List.getD e a 0) (List.getD f a false) (aa 0 (List.length (List.getD c a [])) (List.getD c a [])) (List.getD g a 0))) (aa (bf (ac (List.getD d a false) (aa 0 (List.length (List.getD b a [])) (List.getD b a [])) (List.getD e a 0) (List.getD f a false) (aa 0 (List.length (List.getD c a [])) (List.getD c a [])) (List.getD g a 0))) (bg (ac (List.getD d a false) (aa 0 (List.length (List.getD b a [])) (List.getD b a [])) (List.getD e a 0) (List.getD f a false) (aa 0 (List.length (List.getD c a [])) (List.getD c a [])) (List.getD g a 0))) (bc (ac (List.getD d a false) (aa 0 (List.length (List.getD b a [])) (List.getD b a [])) (List.getD e a 0) (List.getD f a false) (aa 0 (List.length (List.getD c a [])) (List.getD c a [])) (List.getD g a 0)))) (bo (ac (List.getD d a false) (aa 0 (List.length (List.getD b a [])) (List.getD b a [])) (List.getD e a 0) (List.getD f a false) (aa 0 (List.length (List.getD c a [])) (List.getD c a [])) (List.getD g a 0))))),(kp (bK k (aa i j h) l (bm (ac (List.getD d a false) (aa 0 (List.length (List.getD b a [])) (List.getD b a [])) (List.getD e a 0) (List.getD f a false) (aa 0 (List.length (List.getD c a [])) (List.getD c a [])) (List.getD g a 0))) (aa (bf (ac (List.getD d a false) (aa 0 (List.length (List.getD b a [])) (List.getD b a [])) (List.getD e a 0) (List.getD f a false) (aa 0 (List.length (List.getD c a [])) (List.getD c a [])) (List.getD g a 0))) (bg (ac (List.getD d a false) (aa 0 (List.length (List.getD b a [])) (List.getD b a [])) (List.getD e a 0) (List.getD f a false) (aa 0 (List.length (List.getD c a [])) (List.getD c a [])) (List.getD g a 0))) (bc (ac (List.getD d a false) (aa 0 (List.length (List.getD b a [])) (List.getD b a [])) (List.getD e a 0) (List.getD f a false) (aa 0 (List.length (List.getD c a [])) (List.getD c a [])) (List.getD g a 0)))) (bo (ac (List.getD d a false) (aa 0 (List.length (List.getD b a [])) (List.getD b a [])) (List.getD e a 0) (List.getD f a false) (aa 0 (List.length (List.getD c a [])) (List.getD c a [])) (List.getD g a 0))))),(kr (bK k (aa i j h) l (bm (ac (List.getD d a false) (aa 0 (List.length (List.getD b a [])) (List.getD b a [])) (List.getD e a 0) (List.getD f a false) (aa 0 (List.length (List.getD c a [])) (List.getD c a [])) (List.getD g a 0))) (aa (bf (ac (List.getD d a false) (aa 0 (List.length (List.getD b a [])) (List.getD b a [])) (List.getD e a 0) (List.getD f a false) (aa 0 (List.length (List.getD c a [])) (List.getD c a [])) (List.getD g a 0))) (bg (ac (List.getD d a false) (aa 0 (List.length (List.getD b a [])) (List.getD b a [])) (List.getD e a 0) (List.getD f a false) (aa 0 (List.length (List.getD c a [])) (List.getD c a [])) (List.getD g a 0))) (bc (ac (List.getD d a false) (aa 0 (List.length (List.getD b a [])) (List.getD b a [])) (List.getD e a 0) (List.getD f a false) (aa 0 (List.length (List.getD c a [])) (List.getD c a [])) (List.getD g a 0)))) (bo (ac (List.getD d a false) (aa 0 (List.length (List.getD b a [])) (List.getD b a [])) (List.getD e a 0) (List.getD f a false) (aa 0 (List.length (List.getD c a [])) (List.getD c a [])) (List.getD g a 0))))))))))
    (.leaf (.inr (.inl (o,k,h,i,j,l))))
def Kz(a:Nat)(b:Nat)(c:Bool)(d:List Int)(e:Nat)(f:Nat)(g:Int) :T ((Nat×Nat×Bool×(List Int)×Nat×Nat×Int)⊕((Nat×Bool×(List Int)×Nat×Nat×Int)⊕(cL))) :=
  .need (gd .i64 (((a+1):Nat):Int))<|.leaf (.inl (b,(a+1),c,d,e,f,g))
def pS(b:Nat)(c:List Bool)(d:List (List Int))(e:List Int)(f:Nat)(g:List Bool)(h:List (List Int))(i:List Int) :Nat×Nat×Bool×(List Int)×Nat×Nat×Int→Option ((Nat×Nat×Bool×(List Int)×Nat×Nat×Int)⊕((Nat×Bool×(List Int)×Nat×Nat×Int)⊕(cL))):=fun (j,a,k,l,m,n,o) =>
  aH ((uk b c d e f g h i j a k l m n o).run) fun (p,q,r,s,t,u) =>
  (Kz a p q r s t u).run
theorem KA(j:Lv)(a:Nat)(b:List Bool)(c:List (List Int))(d:List Int)(k:Lv)(e:Nat)(f:List Bool)(g:List (List Int))(h:List Int)(i:Bool)(m:Nat)(l:Nat)(n:Bool)(o:List Int)(p:Nat)(q:Nat)(r:Int) :Sg prog [] Kx (wC j a b c d k e f g h i (m,l,n,o,p,q,r)) (pS a b c d e f g h (m,l,n,o,p,q,r)) (wC j a b c d k e f g h i) (fB 0 (AX i) ui):=by
  unfold pS;exact Sg.cut 3 (cD lF) (bM iV (Ky j a b c d k e f g h i l) [⟨[],[0,1],[4,6,7]⟩,⟨[],[0,1],[4,6,7]⟩,⟨[],[0,1],[0,1,4,6,7,18,19]⟩,⟨[],[0,1],[4,6,7]⟩]) (fun ⟨s,t,u,v,w,x⟩=>bM iV _ [⟨[],[0,1],[0,1,4,6,7,18,19]⟩])
def KB(a:Nat)(b:Bool)(c:List Int)(d:Nat)(e:Nat)(f:Int) :T ((Empty)⊕(cL)) :=
  .ask (((a:Nat):Int) != (0:Int))
    (.leaf (.inr (.r0 a false ([]:List Int) 0 0 (0:Int))))
    (.leaf (.inr (.r0 0 b c d e f)))
def bL(a:Nat)(c:List Bool)(d:List (List Int))(e:List Int)(b:Nat)(f:List Bool)(g:List (List Int))(h:List Int) :Option cL:=pm (aH ((Ku).run) fun p =>
  aH ((Kw a b).run) fun i =>
  aH (dN (pS a c d e b f g h) (0,0,i,([]:List Int),0,0,(0:Int))) fun (j,k,l,m,n,o) =>
  (KB j k l m n o).run)
theorem NM(j:Lv)(a:Nat)(c:List Bool)(d:List (List Int))(e:List Int)(k:Lv)(b:Nat)(f:List Bool)(g:List (List Int))(i:List Int){x:cL}(h:bL a c d e b f g i=some x) :ai prog s6 [] [.imm j (.cols a [.cb c,.cns .u64 d,.ci .i64 e]) 3 3 0 a,.imm k (.cols b [.cb f,.cns .u64 g,.ci .i64 i]) 3 3 0 b] (zr x) :=
  qH true zr ui h (Sg.cut 1 lF (bM iV (NK j a c d e k b f g i) [⟨[],[0],[0,1,4]⟩]) (fun l=>OQ (by kernel_rfl:(uj.drop 1)=[.scope (Q9 (((uj.drop 1)).headD .skip))]) lF (Sg.cut 5 lF (bM iV (NL j a c d e k b f g i l) [⟨[(.cell 0 1,.fre 1 1 (.ns .u64 ([]:List Int)))],[0],[4,5]⟩,⟨[],[0,81],[0,1,4,6,7,18,19]⟩]) (fun A=>Sg.cut 1 lF (JQ ⟨[(.cell 1 1,.fre 1 1 (.ns .u64 ([]:List Int)))],[0,1],[0,1,4,6,7,18,19]⟩ (wC j a c d e k b f g i l) (AX l) 0 lF (NJ _) (fun ⟨m,n,o,p,q,r,s⟩=>KA j a c d e k b f g i l m n o p q r s)) (fun ⟨B,C,D,E,F,G⟩=>bM iV _ [⟨[(.cell 0 1,.fre 1 1 (.ns .u64 ([]:List Int)))],[0],[4,5]⟩,⟨[],[0],[4,5]⟩])))))
    (fun x=>by cases x with | r0 t u v w y z=>exact pn [.agg [.bool false u,.imm .free (.ns .u64 v) 1 1 w y,.int .i64 z],.int .i64 ((t:Nat):Int)])
def lG:Option cL→Bool
  | some _=>true
  | none=>false
def kD:Option cL→Nat
  | some (.r0 x _ _ _ _ _)=>x
  | _=>0
def kE:Option cL→Bool
  | some (.r0 _ x _ _ _ _)=>x
  | _=>false
def kF:Option cL→List Int
  | some (.r0 _ _ x _ _ _)=>x
  | _=>[]
def kG:Option cL→Nat
  | some (.r0 _ _ _ x _ _)=>x
  | _=>0
def kH:Option cL→Nat
  | some (.r0 _ _ _ _ x _)=>x
  | _=>0
def kI:Option cL→Int
  | some (.r0 _ _ _ _ _ x)=>x
  | _=>0
theorem NN{x:Option cL}(h:lG x=true) :x=some (.r0 (kD x) (kE x) (kF x) (kG x) (kH x) (kI x)):=by
  unfold lG at h
  split at h<;>first | rfl | (cases h;done) | (rename_i y;cases y;rfl)
def GB:aK:=cV s6 (.cons (.cols [.cb,.cns .u64,.ci .i64]) (.cons (.cols [.cb,.cns .u64,.ci .i64]) .nil)) fun t=>(fun q=>[⟨zr (.r0 (kD q) (kE q) (kF q) (kG q) (kH q) (kI q)),[lG q]⟩]) (bL t.1.2.1 t.1.2.2.1 t.1.2.2.2.1 t.1.2.2.2.2.1 t.2.1.2.1 t.2.1.2.2.1 t.2.1.2.2.2.1 t.2.1.2.2.2.2.1)
theorem HZ:aQ prog GB:=aX fun t=>(aY (fun h=>NM t.1.1 t.1.2.1 t.1.2.2.1 t.1.2.2.2.1 t.1.2.2.2.2.1 t.2.1.1 t.2.1.2.1 t.2.1.2.2.1 t.2.1.2.2.2.1 t.2.1.2.2.2.2.1 (NN h)) bE)
def GC:List aK:=GB::GA
theorem aJ:bj prog (bv GC):=ax HZ iV
inductive am where
  | r0 (a:Bool)
def gO:am→AE×aG
  | .r0 a=>(.ret,⟨an 256 [(2,.bool false a)],[],0⟩)
theorem aq:mW gO:=by intro x;cases x<;>(intro h;cases h)
theorem wD(id:Nat) :oV id gO:=by intro x;cases x<;>(intro h;cases h)
def j5:am→jj
  | .r0 a=>⟨.bool false a,[]⟩
def uC:List Code:=dU (pB j3)
def wE(b:Lv)(a:List Nat)(c:Bool) :aG:=⟨an 256 [(0,.imm b (.fl a) 1 1 0 (List.length a)),(3,.int .i64 (((List.length a):Nat):Int)),(32,.bool false c)],[],0⟩
def eC(a:List Nat) :T ((Bool)⊕(am)) :=
  .ask (decide ((((List.length a):Nat):Int)<(1:Int)))
    (.leaf (.inl true))
    (.leaf (.inl (decide ((((List.length a):Nat):Int)>(16:Int)))))
def wF(b:Lv)(a:List Nat)(_:Unit) :aG:=⟨an 256 [(0,.imm b (.fl a) 1 1 0 (List.length a)),(3,.int .i64 (((List.length a):Nat):Int)),(4,.int .i64 (0:Int))],[],0⟩
def uD(a:Bool) :T ((Unit)⊕(am)) :=
  .ask a
    (.leaf (.inr (.r0 true)))
    (.leaf (.inl ()))
def jI(b:Lv)(a:List Nat)(c:Nat) :aG:=⟨an 256 [(0,.imm b (.fl a) 1 1 0 (List.length a)),(3,.int .i64 (((List.length a):Nat):Int)),(4,.int .i64 ((c:Nat):Int))],[],0⟩
def oQ(b:Lv)(a:List Nat)(_:Unit) :aG:=⟨an 256 [(0,.imm b (.fl a) 1 1 0 (List.length a)),(3,.int .i64 (((List.length a):Nat):Int))],[],0⟩
def uE:List Code:=dU (gI (((((uC.drop 3).drop 2).take 1)).headD .skip))
def wG(b:Lv)(a:List Nat)(c:Nat)(_:Unit) :aG:=⟨an 256 [(0,.imm b (.fl a) 1 1 0 (List.length a)),(3,.int .i64 (((List.length a):Nat):Int)),(4,.int .i64 ((c:Nat):Int))],[],0⟩
def gi(a:List Nat)(b:Nat) :T ((Unit)⊕((Unit)⊕(am))) :=
  .ask (decide (((b:Nat):Int)<(((List.length a):Nat):Int)))
    (.need (gp ((b:Nat):Int) (List.length a))<|.need (fF b (List.length a))<|.need (rr (qy (List.getD a b 0)))<|.ask (!(rV (qy (List.getD a b 0))))
      (.leaf (.inr (.inr (.r0 true))))
      (.leaf (.inl ())))
    (.leaf (.inr (.inl ())))
def uF(a:Nat) :T ((Nat)⊕((Unit)⊕(am))) :=
  .need (gd .i64 (((a+1):Nat):Int))<|.leaf (.inl (a+1))
def cM(b:List Nat) :Nat→Option ((Nat)⊕((Unit)⊕(am))):=fun a =>
  aH ((gi b a).run) fun _ =>
  (uF a).run
theorem uG(b:Lv)(a:List Nat)(c:Nat) :Sg prog [] uE (jI b a c) (cM a c) (jI b a) (fB 0 (oQ b a) gO):=by
  unfold cM;exact Sg.cut 3 (cD aq) (bM aJ (wG b a c) [⟨[],[],[2]⟩,⟨[],[],[0,3,4]⟩,⟨[],[],[0,3]⟩]) (fun _=>bM aJ _ [⟨[],[],[0,3,4]⟩])
def wH(c:Lv)(a:List Nat) :Nat×Nat×Nat×Nat×(List Nat)→aG:=fun (d,e,b,f,g)=>⟨an 256 [(0,.imm c (.fl a) 1 1 0 (List.length a)),(3,.int .i64 (((List.length a):Nat):Int)),(5,.ptr 0 1 0 0),(6,.flt false d),(7,.int .i64 ((e:Nat):Int))],[(0,.vs [.sl 1 1 1 0 b b,.flt false f]),(1,.fl g)],2⟩
def iX(a:List Nat) :T ((Nat×Nat×Nat×Nat×(List Nat))⊕(am)) :=
  .need (a6 0 (List.length a) a)<|.need (kY (da (aa 0 (List.length a) a)))<|.leaf (.inl ((mr (da (aa 0 (List.length a) a))),(mu (da (aa 0 (List.length a) a))),(mv (da (aa 0 (List.length a) a))),(mw (da (aa 0 (List.length a) a))),(mz (da (aa 0 (List.length a) a)))))
def uH(d:Lv)(a:List Nat)(e:Nat)(f:Nat)(b:Nat)(g:Nat)(h:List Nat) :Nat×Int×Int×Nat×(List Nat)→aG:=fun (f8,i,j,c,k)=>⟨an 256 [(0,.imm d (.fl a) 1 1 0 (List.length a)),(3,.int .i64 (((List.length a):Nat):Int)),(5,.ptr 0 1 0 0),(6,.flt false e),(7,.int .i64 ((f:Nat):Int)),(8,.ptr 1 1 0 0),(9,.int .i64 ((f8:Nat):Int))],[(0,.vs [.sl 2 1 1 0 b b,.flt false g]),(1,.vs [.int .i64 i,.int .i64 j,.sl 3 1 1 0 c c]),(2,.fl h),(3,.fl k)],4⟩
def iY(a:List Nat)(b:Nat)(d:Nat)(c:List Nat) :T ((Nat×Int×Int×Nat×(List Nat))⊕(am)) :=
  .need (a6 0 (List.length a) a)<|.need (a6 0 b c)<|.need (kZ (db (((List.length a):Nat):Int) (1:Int) (aa 0 (List.length a) a) (0:Int) (0:Int) (aa 0 b c) d))<|.leaf (.inl ((mJ (db (((List.length a):Nat):Int) (1:Int) (aa 0 (List.length a) a) (0:Int) (0:Int) (aa 0 b c) d)),(mK (db (((List.length a):Nat):Int) (1:Int) (aa 0 (List.length a) a) (0:Int) (0:Int) (aa 0 b c) d)),(mL (db (((List.length a):Nat):Int) (1:Int) (aa 0 (List.length a) a) (0:Int) (0:Int) (aa 0 b c) d)),(mM (db (((List.length a):Nat):Int) (1:Int) (aa 0 (List.length a) a) (0:Int) (0:Int) (aa 0 b c) d)),(mN (db (((List.length a):Nat):Int) (1:Int) (aa 0 (List.length a) a) (0:Int) (0:Int) (aa 0 b c) d))))
def uI(d:Lv)(a:List Nat)(e:Nat)(b:Nat)(f:Nat)(g:List Nat)(h:Int)(i:Int)(c:Nat)(j:List Nat)(k:Bool) :aG:=⟨an 256 [(0,.imm d (.fl a) 1 1 0 (List.length a)),(3,.int .i64 (((List.length a):Nat):Int)),(5,.ptr 0 1 0 0),(6,.flt false e),(8,.ptr 1 1 0 0),(79,.bool false k)],[(0,.vs [.sl 2 1 1 0 b b,.flt false f]),(1,.vs [.int .i64 h,.int .i64 i,.sl 3 1 1 0 c c]),(2,.fl g),(3,.fl j)],4⟩
def iZ(a:List Nat)(b:Nat)(c:Nat)(f8:Nat)(d:Nat) :T ((Bool)⊕(am)) :=
  .ask (((b:Nat):Int) != (0:Int))
    (.leaf (.inl true))
    (.ask (((f8:Nat):Int) != (0:Int))
      (.leaf (.inl true))
      (.ask (((d:Nat):Int) != (((List.length a):Nat):Int))
        (.leaf (.inl true))
        (.leaf (.inl (((c:Nat):Int) != (((List.length a):Nat):Int))))))
def uJ(c:Lv)(a:List Nat)(d:Nat)(b:Nat)(e:Nat)(f:List Nat) :Nat×Nat×Bool×Nat×(List Bool)×(List (List Int))×(List Int)→aG:=fun (g,h,i,j,k,l,m)=>⟨an 256 [(0,.imm c (.fl a) 1 1 0 (List.length a)),(3,.int .i64 (((List.length a):Nat):Int)),(5,.ptr 0 1 0 0),(6,.flt false d),(10,.sl 1 3 3 0 g h),(11,.bool false i)],[(0,.vs [.sl 2 1 1 0 b b,.flt false e]),(1,.cols j [.cb k,.cns .u64 l,.ci .i64 m]),(2,.fl f)],3⟩
def i0(a:Nat)(b:List Nat)(c:Bool) :T ((Nat×Nat×Bool×Nat×(List Bool)×(List (List Int))×(List Int))⊕(am)) :=
  .ask c
    (.leaf (.inr (.r0 false)))
    (.need (a6 0 a b)<|.need (gY (aN (aa 0 a b)))<|.leaf (.inl ((gZ (aN (aa 0 a b))),(g9 (aN (aa 0 a b))),(hH (aN (aa 0 a b))),(hJ (aN (aa 0 a b))),(ia (aN (aa 0 a b))),(ib (aN (aa 0 a b))),(ic (aN (aa 0 a b))))))
def uK(b:List Nat)(c:Nat)(a:Nat)(d:Nat)(e:List Nat)(f:Nat)(g:Nat)(h:Bool)(i:Nat)(j:List Bool)(k:List (List Int))(l:List Int) :Nat×Nat×Bool×Nat×(List Bool)×(List (List Int))×(List Int)→aG:=fun (m,n,o,p,q,r,s)=>⟨an 256 [(3,.int .i64 (((List.length b):Nat):Int)),(5,.ptr 0 1 0 0),(6,.flt false c),(10,.sl 1 3 3 0 f g),(11,.bool false h),(12,.sl 2 3 3 0 m n),(13,.bool false o)],[(0,.vs [.sl 3 1 1 0 a a,.flt false d]),(1,.cols i [.cb j,.cns .u64 k,.ci .i64 l]),(2,.cols p [.cb q,.cns .u64 r,.ci .i64 s]),(3,.fl e)],4⟩
def i3(a:List Nat) :T ((Nat×Nat×Bool×Nat×(List Bool)×(List (List Int))×(List Int))⊕(am)) :=
  .need (a6 0 (List.length a) a)<|.need (gY (aN (aa 0 (List.length a) a)))<|.leaf (.inl ((gZ (aN (aa 0 (List.length a) a))),(g9 (aN (aa 0 (List.length a) a))),(hH (aN (aa 0 (List.length a) a))),(hJ (aN (aa 0 (List.length a) a))),(ia (aN (aa 0 (List.length a) a))),(ib (aN (aa 0 (List.length a) a))),(ic (aN (aa 0 (List.length a) a)))))
def uL(a:List Nat)(b:Nat)(c:Nat)(d:Bool)(e:Nat)(f:List Bool)(g:List (List Int))(h:List Int)(i:Nat)(j:Nat)(k:Bool)(l:Nat)(m:List Bool)(n:List (List Int))(o:List Int) :Nat×Nat×Bool×Nat×(List Bool)×(List (List Int))×(List Int)→aG:=fun (p,q,r,s,t,u,v)=>⟨an 256 [(3,.int .i64 (((List.length a):Nat):Int)),(10,.sl 0 3 3 0 b c),(11,.bool false d),(12,.sl 1 3 3 0 i j),(13,.bool false k),(14,.sl 2 3 3 0 p q),(15,.bool false r)],[(0,.cols e [.cb f,.cns .u64 g,.ci .i64 h]),(1,.cols l [.cb m,.cns .u64 n,.ci .i64 o]),(2,.cols s [.cb t,.cns .u64 u,.ci .i64 v])],3⟩
def i4(b:Nat)(a:Nat)(c:Nat)(d:List Nat) :T ((Nat×Nat×Bool×Nat×(List Bool)×(List (List Int))×(List Int))⊕(am)) :=
  .need (pT ((2+a)*8) 140737488355328)<|.need (pT (2+a) 9223372036854775807)<|.need (pT a (List.length d))<|.need (pT 2 (List.length [b,c]))<|.need (a6 0 (2+a) ((List.take 2 [b,c])++(List.take a d)))<|.need (gY (aN (aa 0 (2+a) ((List.take 2 [b,c])++(List.take a d)))))<|.leaf (.inl ((gZ (aN (aa 0 (2+a) ((List.take 2 [b,c])++(List.take a d))))),(g9 (aN (aa 0 (2+a) ((List.take 2 [b,c])++(List.take a d))))),(hH (aN (aa 0 (2+a) ((List.take 2 [b,c])++(List.take a d))))),(hJ (aN (aa 0 (2+a) ((List.take 2 [b,c])++(List.take a d))))),(ia (aN (aa 0 (2+a) ((List.take 2 [b,c])++(List.take a d))))),(ib (aN (aa 0 (2+a) ((List.take 2 [b,c])++(List.take a d))))),(ic (aN (aa 0 (2+a) ((List.take 2 [b,c])++(List.take a d)))))))
def uM(a:List Nat)(b:Nat)(c:Nat)(d:Nat)(e:List Bool)(f:List (List Int))(g:List Int)(h:Nat)(i:Nat)(j:Nat)(k:List Bool)(l:List (List Int))(m:List Int)(n:Nat)(o:Nat)(p:Nat)(q:List Bool)(r:List (List Int))(s:List Int)(t:Bool) :aG:=⟨an 256 [(3,.int .i64 (((List.length a):Nat):Int)),(10,.sl 0 3 3 0 b c),(12,.sl 1 3 3 0 h i),(14,.sl 2 3 3 0 n o),(111,.bool false t)],[(0,.cols d [.cb e,.cns .u64 f,.ci .i64 g]),(1,.cols j [.cb k,.cns .u64 l,.ci .i64 m]),(2,.cols p [.cb q,.cns .u64 r,.ci .i64 s])],3⟩
def uN(a:Bool)(b:Bool)(c:Bool) :T ((Bool)⊕(am)) :=
  .ask (!a)
    (.leaf (.inl true))
    (.ask (!b)
      (.leaf (.inl true))
      (.leaf (.inl (!c))))
def uO(a:List Nat)(b:Nat)(c:Nat)(d:Nat)(e:Nat)(f:Nat)(g:Nat)(h:List Bool)(i:List (List Int))(j:List Int)(k:Nat)(l:Nat)(m:Nat)(n:List Bool)(o:List (List Int))(p:List Int) :Nat×(List Bool)×(List (List Int))×(List Int)→aG:=fun (q,r,s,t)=>⟨an 256 [(3,.int .i64 (((List.length a):Nat):Int)),(7,.int .i64 ((q:Nat):Int)),(10,.sl 0 3 3 0 b c),(12,.sl 1 3 3 0 e f),(14,.sl 2 3 3 0 k l)],[(0,.cols d [.cb r,.cns .u64 s,.ci .i64 t]),(1,.cols g [.cb h,.cns .u64 i,.ci .i64 j]),(2,.cols m [.cb n,.cns .u64 o,.ci .i64 p])],3⟩
def i5(g:Nat)(c:List Bool)(a:List (List Int))(d:List Int)(h:Nat)(e:List Bool)(b:List (List Int))(f:List Int)(i:Bool) :T ((Nat×(List Bool)×(List (List Int))×(List Int))⊕(am)) :=
  .ask i
    (.leaf (.inr (.r0 false)))
    (.need (gp (0:Int) g)<|.need (fF 0 (List.length c))<|.need (fF 0 (List.length a))<|.need (fF 0 (List.length d))<|.need (gp (0:Int) h)<|.need (fF 0 (List.length e))<|.need (fF 0 (List.length b))<|.need (fF 0 (List.length f))<|.need (a6 0 (List.length (List.getD a 0 [])) (List.getD a 0 []))<|.need (a6 0 (List.length (List.getD b 0 [])) (List.getD b 0 []))<|.need (lE (bY (List.getD c 0 false) (aa 0 (List.length (List.getD a 0 [])) (List.getD a 0 [])) (List.getD d 0 0) (List.getD e 0 false) (aa 0 (List.length (List.getD b 0 [])) (List.getD b 0 [])) (List.getD f 0 0)))<|.need (gp (0:Int) g)<|.need (fF 0 (List.length c))<|.need (fF 0 (List.length a))<|.need (decide ((iT (bY (List.getD c 0 false) (aa 0 (List.length (List.getD a 0 [])) (List.getD a 0 [])) (List.getD d 0 0) (List.getD e 0 false) (aa 0 (List.length (List.getD b 0 [])) (List.getD b 0 [])) (List.getD f 0 0)))+(iU (bY (List.getD c 0 false) (aa 0 (List.length (List.getD a 0 [])) (List.getD a 0 [])) (List.getD d 0 0) (List.getD e 0 false) (aa 0 (List.length (List.getD b 0 [])) (List.getD b 0 [])) (List.getD f 0 0)))≤List.length (iS (bY (List.getD c 0 false) (aa 0 (List.length (List.getD a 0 [])) (List.getD a 0 [])) (List.getD d 0 0) (List.getD e 0 false) (aa 0 (List.length (List.getD b 0 [])) (List.getD b 0 [])) (List.getD f 0 0)))))<|.need (fF 0 (List.length d))<|.leaf (.inl ((kA (bY (List.getD c 0 false) (aa 0 (List.length (List.getD a 0 [])) (List.getD a 0 [])) (List.getD d 0 0) (List.getD e 0 false) (aa 0 (List.length (List.getD b 0 [])) (List.getD b 0 [])) (List.getD f 0 0))),(List.set c 0 (kB (bY (List.getD c 0 false) (aa 0 (List.length (List.getD a 0 [])) (List.getD a 0 [])) (List.getD d 0 0) (List.getD e 0 false) (aa 0 (List.length (List.getD b 0 [])) (List.getD b 0 [])) (List.getD f 0 0)))),(List.set a 0 (List.take (iU (bY (List.getD c 0 false) (aa 0 (List.length (List.getD a 0 [])) (List.getD a 0 [])) (List.getD d 0 0) (List.getD e 0 false) (aa 0 (List.length (List.getD b 0 [])) (List.getD b 0 [])) (List.getD f 0 0))) (List.drop (iT (bY (List.getD c 0 false) (aa 0 (List.length (List.getD a 0 [])) (List.getD a 0 [])) (List.getD d 0 0) (List.getD e 0 false) (aa 0 (List.length (List.getD b 0 [])) (List.getD b 0 [])) (List.getD f 0 0))) (iS (bY (List.getD c 0 false) (aa 0 (List.length (List.getD a 0 [])) (List.getD a 0 [])) (List.getD d 0 0) (List.getD e 0 false) (aa 0 (List.length (List.getD b 0 [])) (List.getD b 0 [])) (List.getD f 0 0)))))),(List.set d 0 (kC (bY (List.getD c 0 false) (aa 0 (List.length (List.getD a 0 [])) (List.getD a 0 [])) (List.getD d 0 0) (List.getD e 0 false) (aa 0 (List.length (List.getD b 0 [])) (List.getD b 0 [])) (List.getD f 0 0)))))))
def uP(a:List Nat)(b:Nat)(c:Nat)(d:Nat)(e:Nat)(f:Nat)(g:Nat)(h:List Bool)(i:List (List Int))(j:List Int)(k:Nat)(l:List Bool)(m:List (List Int))(n:List Int) :Nat×Bool×(List Int)×Nat×Nat×Int→aG:=fun (o,p,q,r,s,t)=>⟨an 256 [(3,.int .i64 (((List.length a):Nat):Int)),(7,.int .i64 ((k:Nat):Int)),(9,.int .i64 ((o:Nat):Int)),(10,.sl 0 3 3 0 b c),(14,.sl 1 3 3 0 e f),(16,.ptr 2 1 0 0)],[(0,.cols d [.cb l,.cns .u64 m,.ci .i64 n]),(1,.cols g [.cb h,.cns .u64 i,.ci .i64 j]),(2,.vs [.bool false p,.imm .free (.ns .u64 q) 1 1 r s,.int .i64 t])],3⟩
def i6(a:Nat)(e:Nat)(b:List Bool)(c:List (List Int))(d:List Int) :T ((Nat×Bool×(List Int)×Nat×Nat×Int)⊕(am)) :=
  .need (Nat.ble (0+a) e)<|.need (Nat.ble (0+a) e)<|.need (lG (bL a (aa 0 a b) (aa 0 a c) (aa 0 a d) a (aa 0 a b) (aa 0 a c) (aa 0 a d)))<|.leaf (.inl ((kD (bL a (aa 0 a b) (aa 0 a c) (aa 0 a d) a (aa 0 a b) (aa 0 a c) (aa 0 a d))),(kE (bL a (aa 0 a b) (aa 0 a c) (aa 0 a d) a (aa 0 a b) (aa 0 a c) (aa 0 a d))),(kF (bL a (aa 0 a b) (aa 0 a c) (aa 0 a d) a (aa 0 a b) (aa 0 a c) (aa 0 a d))),(kG (bL a (aa 0 a b) (aa 0 a c) (aa 0 a d) a (aa 0 a b) (aa 0 a c) (aa 0 a d))),(kH (bL a (aa 0 a b) (aa 0 a c) (aa 0 a d) a (aa 0 a b) (aa 0 a c) (aa 0 a d))),(kI (bL a (aa 0 a b) (aa 0 a c) (aa 0 a d) a (aa 0 a b) (aa 0 a c) (aa 0 a d)))))
def uQ(a:List Nat)(b:Nat)(c:Nat)(d:Nat)(e:List Bool)(f:List (List Int))(g:List Int)(h:Nat)(i:Nat)(j:Bool)(k:List Int)(l:Nat)(m:Nat)(n:Int) :Nat×Bool×(List Int)×Nat×Nat×Int→aG:=fun (o,p,q,r,s,t)=>⟨an 256 [(3,.int .i64 (((List.length a):Nat):Int)),(7,.int .i64 ((h:Nat):Int)),(9,.int .i64 ((i:Nat):Int)),(14,.sl 0 3 3 0 b c),(16,.ptr 1 1 0 0),(17,.ptr 2 1 0 0),(18,.int .i64 ((o:Nat):Int))],[(0,.cols d [.cb e,.cns .u64 f,.ci .i64 g]),(1,.vs [.bool false j,.imm .free (.ns .u64 k) 1 1 l m,.int .i64 n]),(2,.vs [.bool false p,.imm .free (.ns .u64 q) 1 1 r s,.int .i64 t])],3⟩
def i7(a:Nat)(e:Nat)(b:List Bool)(c:List (List Int))(d:List Int) :T ((Nat×Bool×(List Int)×Nat×Nat×Int)⊕(am)) :=
  .need (Nat.ble (0+a) e)<|.need (Nat.ble (0+a) e)<|.need (lG (bL a (aa 0 a b) (aa 0 a c) (aa 0 a d) a (aa 0 a b) (aa 0 a c) (aa 0 a d)))<|.leaf (.inl ((kD (bL a (aa 0 a b) (aa 0 a c) (aa 0 a d) a (aa 0 a b) (aa 0 a c) (aa 0 a d))),(kE (bL a (aa 0 a b) (aa 0 a c) (aa 0 a d) a (aa 0 a b) (aa 0 a c) (aa 0 a d))),(kF (bL a (aa 0 a b) (aa 0 a c) (aa 0 a d) a (aa 0 a b) (aa 0 a c) (aa 0 a d))),(kG (bL a (aa 0 a b) (aa 0 a c) (aa 0 a d) a (aa 0 a b) (aa 0 a c) (aa 0 a d))),(kH (bL a (aa 0 a b) (aa 0 a c) (aa 0 a d) a (aa 0 a b) (aa 0 a c) (aa 0 a d))),(kI (bL a (aa 0 a b) (aa 0 a c) (aa 0 a d) a (aa 0 a b) (aa 0 a c) (aa 0 a d)))))
def uR(a:Nat)(b:Nat)(c:Nat)(d:List Bool)(e:List (List Int))(f:List Int)(g:Nat)(h:Nat)(i:Bool)(j:List Int)(k:Nat)(l:Nat)(m:Int)(n:Nat)(o:Bool)(p:List Int)(q:Nat)(r:Nat)(s:Int) :Bool×(List Int)×Nat×Nat×Int→aG:=fun (t,u,v,w,x)=>⟨an 256 [(7,.int .i64 ((g:Nat):Int)),(9,.int .i64 ((h:Nat):Int)),(14,.sl 0 3 3 0 a b),(16,.ptr 1 1 0 0),(17,.ptr 2 1 0 0),(18,.int .i64 ((n:Nat):Int)),(19,.ptr 3 1 0 0)],[(0,.cols c [.cb d,.cns .u64 e,.ci .i64 f]),(1,.vs [.bool false i,.imm .free (.ns .u64 j) 1 1 k l,.int .i64 m]),(2,.vs [.bool false o,.imm .free (.ns .u64 p) 1 1 q r,.int .i64 s]),(3,.vs [.bool false t,.imm .free (.ns .u64 u) 1 1 v w,.int .i64 x])],4⟩
def i8(a:List Nat) :T ((Bool×(List Int)×Nat×Nat×Int)⊕(am)) :=
  .need (gd .i64 (((64*(List.length a)):Nat):Int))<|.need (gd .i64 ((((64*(List.length a))*64):Nat):Int))<|.need (gd .i64 (((((64*(List.length a))*64)*(List.length a)):Nat):Int))<|.need (iQ (aw (((((64*(List.length a))*64)*(List.length a)):Nat):Int)))<|.leaf (.inl ((cF (aw (((((64*(List.length a))*64)*(List.length a)):Nat):Int))),(ck (aw (((((64*(List.length a))*64)*(List.length a)):Nat):Int))),(cm (aw (((((64*(List.length a))*64)*(List.length a)):Nat):Int))),(cn (aw (((((64*(List.length a))*64)*(List.length a)):Nat):Int))),(cG (aw (((((64*(List.length a))*64)*(List.length a)):Nat):Int)))))
def uS(a:Nat)(b:Nat)(c:Nat)(d:List Bool)(e:List (List Int))(f:List Int)(g:Nat)(h:Nat)(i:Bool)(j:List Int)(k:Nat)(l:Nat)(m:Int)(n:Nat)(o:Bool)(p:List Int)(q:Nat)(r:Nat)(s:Int) :Nat×Bool×(List Int)×Nat×Nat×Int→aG:=fun (t,u,v,w,x,y)=>⟨an 256 [(7,.int .i64 ((g:Nat):Int)),(9,.int .i64 ((h:Nat):Int)),(14,.sl 0 3 3 0 a b),(16,.ptr 1 1 0 0),(17,.ptr 2 1 0 0),(18,.int .i64 ((n:Nat):Int)),(19,.ptr 3 1 0 0),(20,.int .i64 ((t:Nat):Int))],[(0,.cols c [.cb d,.cns .u64 e,.ci .i64 f]),(1,.vs [.bool false i,.imm .free (.ns .u64 j) 1 1 k l,.int .i64 m]),(2,.vs [.bool false o,.imm .free (.ns .u64 p) 1 1 q r,.int .i64 s]),(3,.vs [.bool false u,.imm .free (.ns .u64 v) 1 1 w x,.int .i64 y])],4⟩
def i9(d:Bool)(a:List Int)(b:Nat)(c:Nat)(e:Int) :T ((Nat×Bool×(List Int)×Nat×Nat×Int)⊕(am)) :=
  .need (a6 b c a)<|.need (om (fg d (aa b c a) e (-106:Int)))<|.leaf (.inl ((o5 (fg d (aa b c a) e (-106:Int))),(o6 (fg d (aa b c a) e (-106:Int))),(o7 (fg d (aa b c a) e (-106:Int))),(o8 (fg d (aa b c a) e (-106:Int))),(o9 (fg d (aa b c a) e (-106:Int))),(pa (fg d (aa b c a) e (-106:Int)))))
def uT(a:Nat)(b:Nat)(c:Nat)(d:List Bool)(e:List (List Int))(f:List Int)(g:Bool)(h:List Int)(i:Nat)(j:Nat)(k:Int)(l:Bool)(m:List Int)(n:Nat)(o:Nat)(p:Int)(q:Bool)(r:List Int)(s:Nat)(t:Nat)(u:Int)(v:Bool) :aG:=⟨an 256 [(14,.sl 0 3 3 0 a b),(16,.ptr 1 1 0 0),(17,.ptr 2 1 0 0),(19,.ptr 3 1 0 0),(160,.bool false v)],[(0,.cols c [.cb d,.cns .u64 e,.ci .i64 f]),(1,.vs [.bool false g,.imm .free (.ns .u64 h) 1 1 i j,.int .i64 k]),(2,.vs [.bool false l,.imm .free (.ns .u64 m) 1 1 n o,.int .i64 p]),(3,.vs [.bool false q,.imm .free (.ns .u64 r) 1 1 s t,.int .i64 u])],4⟩
def uU(a:Nat)(b:Nat)(c:Nat)(d:Nat) :T ((Bool)⊕(am)) :=
  .ask (((a:Nat):Int) != (0:Int))
    (.leaf (.inl true))
    (.ask (((b:Nat):Int) != (0:Int))
      (.leaf (.inl true))
      (.ask (((c:Nat):Int) != (0:Int))
        (.leaf (.inl true))
        (.leaf (.inl (((d:Nat):Int) != (0:Int))))))
def uV(a:Nat)(b:Nat)(c:Nat)(d:List Bool)(e:List (List Int))(f:List Int)(g:Bool)(h:List Int)(i:Nat)(j:Nat)(k:Int)(l:Bool)(m:List Int)(n:Nat)(o:Nat)(p:Int) :Nat×Bool×(List Int)×Nat×Nat×Int→aG:=fun (q,r,s,t,u,v)=>⟨an 256 [(7,.int .i64 ((q:Nat):Int)),(14,.sl 0 3 3 0 a b),(17,.ptr 1 1 0 0),(19,.ptr 2 1 0 0),(21,.ptr 3 1 0 0)],[(0,.cols c [.cb d,.cns .u64 e,.ci .i64 f]),(1,.vs [.bool false g,.imm .free (.ns .u64 h) 1 1 i j,.int .i64 k]),(2,.vs [.bool false l,.imm .free (.ns .u64 m) 1 1 n o,.int .i64 p]),(3,.vs [.bool false r,.imm .free (.ns .u64 s) 1 1 t u,.int .i64 v])],4⟩
def ja(g:Bool)(a:List Int)(b:Nat)(c:Nat)(h:Int)(i:Bool)(d:List Int)(e:Nat)(f:Nat)(j:Int)(k:Bool) :T ((Nat×Bool×(List Int)×Nat×Nat×Int)⊕(am)) :=
  .ask k
    (.leaf (.inr (.r0 false)))
    (.need (a6 e f d)<|.need (a6 b c a)<|.need (fQ (ac i (aa e f d) j g (aa b c a) h))<|.leaf (.inl ((dY (ac i (aa e f d) j g (aa b c a) h)),(bm (ac i (aa e f d) j g (aa b c a) h)),(bc (ac i (aa e f d) j g (aa b c a) h)),(bf (ac i (aa e f d) j g (aa b c a) h)),(bg (ac i (aa e f d) j g (aa b c a) h)),(bo (ac i (aa e f d) j g (aa b c a) h)))))
def uW(a:Nat)(b:Nat)(c:Nat)(d:List Bool)(e:List (List Int))(f:List Int)(g:Bool)(h:List Int)(i:Nat)(j:Nat)(k:Int)(l:Nat) :Nat×Int→aG:=fun (m,n)=>⟨an 256 [(7,.int .i64 ((l:Nat):Int)),(9,.int .i64 ((m:Nat):Int)),(14,.sl 0 3 3 0 a b),(19,.ptr 1 1 0 0),(22,.int .i64 n)],[(0,.cols c [.cb d,.cns .u64 e,.ci .i64 f]),(1,.vs [.bool false g,.imm .free (.ns .u64 h) 1 1 i j,.int .i64 k])],2⟩
def jb(g:Bool)(a:List Int)(b:Nat)(c:Nat)(h:Int)(i:Bool)(d:List Int)(e:Nat)(f:Nat)(j:Int) :T ((Nat×Int)⊕(am)) :=
  .need (a6 b c a)<|.need (a6 e f d)<|.need (oP (io g (aa b c a) h i (aa e f d) j))<|.leaf (.inl ((oj (io g (aa b c a) h i (aa e f d) j)),(oi (io g (aa b c a) h i (aa e f d) j))))
def uX(a:Nat)(b:Nat)(c:Nat)(d:List Bool)(e:List (List Int))(f:List Int)(g:Bool)(h:List Int)(i:Nat)(j:Nat)(k:Int)(l:Bool) :aG:=⟨an 256 [(14,.sl 0 3 3 0 a b),(19,.ptr 1 1 0 0),(182,.bool false l)],[(0,.cols c [.cb d,.cns .u64 e,.ci .i64 f]),(1,.vs [.bool false g,.imm .free (.ns .u64 h) 1 1 i j,.int .i64 k])],2⟩
def uY(a:Nat)(b:Nat)(c:Int) :T ((Bool)⊕(am)) :=
  .ask (((a:Nat):Int) != (0:Int))
    (.leaf (.inl true))
    (.ask (((b:Nat):Int) != (0:Int))
      (.leaf (.inl true))
      (.leaf (.inl (decide (c>(0:Int))))))
def uZ(a:Nat)(b:Nat)(c:Nat)(d:List Bool)(e:List (List Int))(f:List Int)(g:Bool)(h:List Int)(i:Nat)(j:Nat)(k:Int) :Nat×Bool×(List Int)×Nat×Nat×Int→aG:=fun (l,m,n,o,p,q)=>⟨an 256 [(7,.int .i64 ((l:Nat):Int)),(14,.sl 0 3 3 0 a b),(19,.ptr 1 1 0 0),(23,.ptr 2 1 0 0)],[(0,.cols c [.cb d,.cns .u64 e,.ci .i64 f]),(1,.vs [.bool false g,.imm .free (.ns .u64 h) 1 1 i j,.int .i64 k]),(2,.vs [.bool false m,.imm .free (.ns .u64 n) 1 1 o p,.int .i64 q])],3⟩
def jc(a:Nat)(e:Nat)(f:Nat)(b:List Bool)(c:List (List Int))(d:List Int)(g:Bool) :T ((Nat×Bool×(List Int)×Nat×Nat×Int)⊕(am)) :=
  .ask g
    (.leaf (.inr (.r0 false)))
    (.need (vj ((a:Nat):Int) e)<|.need (vj (2:Int) a)<|.need (vj ((a:Nat):Int) e)<|.need (vj (2:Int) a)<|.need (Nat.ble (2+(a-2)) f)<|.need (Nat.ble (2+(a-2)) f)<|.need (lG (bL (a-2) (aa 2 (a-2) b) (aa 2 (a-2) c) (aa 2 (a-2) d) (a-2) (aa 2 (a-2) b) (aa 2 (a-2) c) (aa 2 (a-2) d)))<|.leaf (.inl ((kD (bL (a-2) (aa 2 (a-2) b) (aa 2 (a-2) c) (aa 2 (a-2) d) (a-2) (aa 2 (a-2) b) (aa 2 (a-2) c) (aa 2 (a-2) d))),(kE (bL (a-2) (aa 2 (a-2) b) (aa 2 (a-2) c) (aa 2 (a-2) d) (a-2) (aa 2 (a-2) b) (aa 2 (a-2) c) (aa 2 (a-2) d))),(kF (bL (a-2) (aa 2 (a-2) b) (aa 2 (a-2) c) (aa 2 (a-2) d) (a-2) (aa 2 (a-2) b) (aa 2 (a-2) c) (aa 2 (a-2) d))),(kG (bL (a-2) (aa 2 (a-2) b) (aa 2 (a-2) c) (aa 2 (a-2) d) (a-2) (aa 2 (a-2) b) (aa 2 (a-2) c) (aa 2 (a-2) d))),(kH (bL (a-2) (aa 2 (a-2) b) (aa 2 (a-2) c) (aa 2 (a-2) d) (a-2) (aa 2 (a-2) b) (aa 2 (a-2) c) (aa 2 (a-2) d))),(kI (bL (a-2) (aa 2 (a-2) b) (aa 2 (a-2) c) (aa 2 (a-2) d) (a-2) (aa 2 (a-2) b) (aa 2 (a-2) c) (aa 2 (a-2) d))))))
def u4(a:Nat)(b:Nat)(c:Nat)(d:List Bool)(e:List (List Int))(f:List Int)(g:Bool)(h:List Int)(i:Nat)(j:Nat)(k:Int)(l:Nat)(m:Bool)(n:List Int)(o:Nat)(p:Nat)(q:Int) :Nat×Bool×(List Int)×Nat×Nat×Int→aG:=fun (r,s,t,u,v,w)=>⟨an 256 [(7,.int .i64 ((l:Nat):Int)),(9,.int .i64 ((r:Nat):Int)),(14,.sl 0 3 3 0 a b),(19,.ptr 1 1 0 0),(23,.ptr 2 1 0 0),(24,.ptr 3 1 0 0)],[(0,.cols c [.cb d,.cns .u64 e,.ci .i64 f]),(1,.vs [.bool false g,.imm .free (.ns .u64 h) 1 1 i j,.int .i64 k]),(2,.vs [.bool false m,.imm .free (.ns .u64 n) 1 1 o p,.int .i64 q]),(3,.vs [.bool false s,.imm .free (.ns .u64 t) 1 1 u v,.int .i64 w])],4⟩
def jd(i:Nat)(b:List Bool)(a:List (List Int))(c:List Int)(g:Bool)(d:List Int)(e:Nat)(f:Nat)(h:Int) :T ((Nat×Bool×(List Int)×Nat×Nat×Int)⊕(am)) :=
  .need (gp (1:Int) i)<|.need (fF 1 (List.length b))<|.need (fF 1 (List.length a))<|.need (fF 1 (List.length c))<|.need (a6 0 (List.length (List.getD a 1 [])) (List.getD a 1 []))<|.need (a6 e f d)<|.need (fQ (ac (List.getD b 1 false) (aa 0 (List.length (List.getD a 1 [])) (List.getD a 1 [])) (List.getD c 1 0) g (aa e f d) h))<|.leaf (.inl ((dY (ac (List.getD b 1 false) (aa 0 (List.length (List.getD a 1 [])) (List.getD a 1 [])) (List.getD c 1 0) g (aa e f d) h)),(bm (ac (List.getD b 1 false) (aa 0 (List.length (List.getD a 1 [])) (List.getD a 1 [])) (List.getD c 1 0) g (aa e f d) h)),(bc (ac (List.getD b 1 false) (aa 0 (List.length (List.getD a 1 [])) (List.getD a 1 [])) (List.getD c 1 0) g (aa e f d) h)),(bf (ac (List.getD b 1 false) (aa 0 (List.length (List.getD a 1 [])) (List.getD a 1 [])) (List.getD c 1 0) g (aa e f d) h)),(bg (ac (List.getD b 1 false) (aa 0 (List.length (List.getD a 1 [])) (List.getD a 1 [])) (List.getD c 1 0) g (aa e f d) h)),(bo (ac (List.getD b 1 false) (aa 0 (List.length (List.getD a 1 [])) (List.getD a 1 [])) (List.getD c 1 0) g (aa e f d) h))))
def u5(a:Nat)(b:Nat)(c:Nat)(d:List Bool)(e:List (List Int))(f:List Int)(g:Bool)(h:List Int)(i:Nat)(j:Nat)(k:Int)(l:Bool)(m:List Int)(n:Nat)(o:Nat)(p:Int)(q:Bool)(r:List Int)(s:Nat)(t:Nat)(u:Int)(v:Bool) :aG:=⟨an 256 [(14,.sl 0 3 3 0 a b),(19,.ptr 1 1 0 0),(23,.ptr 2 1 0 0),(24,.ptr 3 1 0 0),(204,.bool false v)],[(0,.cols c [.cb d,.cns .u64 e,.ci .i64 f]),(1,.vs [.bool false g,.imm .free (.ns .u64 h) 1 1 i j,.int .i64 k]),(2,.vs [.bool false l,.imm .free (.ns .u64 m) 1 1 n o,.int .i64 p]),(3,.vs [.bool false q,.imm .free (.ns .u64 r) 1 1 s t,.int .i64 u])],4⟩
def u7(a:Nat)(b:Nat) :T ((Bool)⊕(am)) :=
  .ask (((a:Nat):Int) != (0:Int))
    (.leaf (.inl true))
    (.leaf (.inl (((b:Nat):Int) != (0:Int))))
def u9(a:Nat)(b:Nat)(c:Nat)(d:List Bool)(e:List (List Int))(f:List Int)(g:Bool)(h:List Int)(i:Nat)(j:Nat)(k:Int)(l:Bool)(m:List Int)(n:Nat)(o:Nat)(p:Int) :Nat×Bool×(List Int)×Nat×Nat×Int→aG:=fun (q,r,s,t,u,v)=>⟨an 256 [(7,.int .i64 ((q:Nat):Int)),(14,.sl 0 3 3 0 a b),(19,.ptr 1 1 0 0),(23,.ptr 2 1 0 0),(24,.ptr 3 1 0 0)],[(0,.cols c [.cb d,.cns .u64 e,.ci .i64 f]),(1,.vs [.bool false g,.imm .free (.ns .u64 h) 1 1 i j,.int .i64 k]),(2,.vs [.bool false l,.imm .free (.ns .u64 m) 1 1 n o,.int .i64 p]),(3,.vs [.bool false r,.imm .free (.ns .u64 s) 1 1 t u,.int .i64 v])],4⟩
def je(d:Bool)(a:List Int)(b:Nat)(c:Nat)(e:Int)(f:Bool) :T ((Nat×Bool×(List Int)×Nat×Nat×Int)⊕(am)) :=
  .ask f
    (.leaf (.inr (.r0 false)))
    (.need (iQ (aw (2:Int)))<|.need (a6 b c a)<|.need (a6 (cm (aw (2:Int))) (cn (aw (2:Int))) (ck (aw (2:Int))))<|.need (lE (bY d (aa b c a) e (cF (aw (2:Int))) (aa (cm (aw (2:Int))) (cn (aw (2:Int))) (ck (aw (2:Int)))) (cG (aw (2:Int)))))<|.leaf (.inl ((kA (bY d (aa b c a) e (cF (aw (2:Int))) (aa (cm (aw (2:Int))) (cn (aw (2:Int))) (ck (aw (2:Int)))) (cG (aw (2:Int))))),(kB (bY d (aa b c a) e (cF (aw (2:Int))) (aa (cm (aw (2:Int))) (cn (aw (2:Int))) (ck (aw (2:Int)))) (cG (aw (2:Int))))),(iS (bY d (aa b c a) e (cF (aw (2:Int))) (aa (cm (aw (2:Int))) (cn (aw (2:Int))) (ck (aw (2:Int)))) (cG (aw (2:Int))))),(iT (bY d (aa b c a) e (cF (aw (2:Int))) (aa (cm (aw (2:Int))) (cn (aw (2:Int))) (ck (aw (2:Int)))) (cG (aw (2:Int))))),(iU (bY d (aa b c a) e (cF (aw (2:Int))) (aa (cm (aw (2:Int))) (cn (aw (2:Int))) (ck (aw (2:Int)))) (cG (aw (2:Int))))),(kC (bY d (aa b c a) e (cF (aw (2:Int))) (aa (cm (aw (2:Int))) (cn (aw (2:Int))) (ck (aw (2:Int)))) (cG (aw (2:Int))))))))
def va(a:Bool)(b:List Int)(c:Nat)(d:Nat)(e:Int)(f:Bool)(g:List Int)(h:Nat)(i:Nat)(j:Int) :Nat×Bool×(List Int)×Nat×Nat×Int→aG:=fun (k,l,m,n,o,p)=>⟨an 256 [(7,.int .i64 ((k:Nat):Int)),(19,.ptr 0 1 0 0),(23,.ptr 1 1 0 0),(24,.ptr 2 1 0 0)],[(0,.vs [.bool false a,.imm .free (.ns .u64 b) 1 1 c d,.int .i64 e]),(1,.vs [.bool false f,.imm .free (.ns .u64 g) 1 1 h i,.int .i64 j]),(2,.vs [.bool false l,.imm .free (.ns .u64 m) 1 1 n o,.int .i64 p])],3⟩
def jf(i:Nat)(b:List Bool)(a:List (List Int))(c:List Int)(j:Nat)(g:Bool)(d:List Int)(e:Nat)(f:Nat)(h:Int) :T ((Nat×Bool×(List Int)×Nat×Nat×Int)⊕(am)) :=
  .ask (((j:Nat):Int) != (0:Int))
    (.leaf (.inr (.r0 false)))
    (.need (gp (1:Int) i)<|.need (fF 1 (List.length b))<|.need (fF 1 (List.length a))<|.need (fF 1 (List.length c))<|.need (a6 e f d)<|.need (a6 0 (List.length (List.getD a 1 [])) (List.getD a 1 []))<|.need (fQ (ac g (aa e f d) h (List.getD b 1 false) (aa 0 (List.length (List.getD a 1 [])) (List.getD a 1 [])) (List.getD c 1 0)))<|.leaf (.inl ((dY (ac g (aa e f d) h (List.getD b 1 false) (aa 0 (List.length (List.getD a 1 [])) (List.getD a 1 [])) (List.getD c 1 0))),(bm (ac g (aa e f d) h (List.getD b 1 false) (aa 0 (List.length (List.getD a 1 [])) (List.getD a 1 [])) (List.getD c 1 0))),(bc (ac g (aa e f d) h (List.getD b 1 false) (aa 0 (List.length (List.getD a 1 [])) (List.getD a 1 [])) (List.getD c 1 0))),(bf (ac g (aa e f d) h (List.getD b 1 false) (aa 0 (List.length (List.getD a 1 [])) (List.getD a 1 [])) (List.getD c 1 0))),(bg (ac g (aa e f d) h (List.getD b 1 false) (aa 0 (List.length (List.getD a 1 [])) (List.getD a 1 [])) (List.getD c 1 0))),(bo (ac g (aa e f d) h (List.getD b 1 false) (aa 0 (List.length (List.getD a 1 [])) (List.getD a 1 [])) (List.getD c 1 0))))))
def vc(a:Bool)(b:List Int)(c:Nat)(d:Nat)(e:Int) :Nat×Bool×(List Int)×Nat×Nat×Int→aG:=fun (f,g,h,i,j,k)=>⟨an 256 [(7,.int .i64 ((f:Nat):Int)),(19,.ptr 0 1 0 0),(24,.ptr 1 1 0 0)],[(0,.vs [.bool false a,.imm .free (.ns .u64 b) 1 1 c d,.int .i64 e]),(1,.vs [.bool false g,.imm .free (.ns .u64 h) 1 1 i j,.int .i64 k])],2⟩
def jg(g:Bool)(a:List Int)(b:Nat)(c:Nat)(h:Int)(k:Nat)(i:Bool)(d:List Int)(e:Nat)(f:Nat)(j:Int) :T ((Nat×Bool×(List Int)×Nat×Nat×Int)⊕(am)) :=
  .ask (((k:Nat):Int) != (0:Int))
    (.leaf (.inr (.r0 false)))
    (.need (a6 e f d)<|.need (a6 b c a)<|.need (fQ (ac i (aa e f d) j g (aa b c a) h))<|.leaf (.inl ((dY (ac i (aa e f d) j g (aa b c a) h)),(bm (ac i (aa e f d) j g (aa b c a) h)),(bc (ac i (aa e f d) j g (aa b c a) h)),(bf (ac i (aa e f d) j g (aa b c a) h)),(bg (ac i (aa e f d) j g (aa b c a) h)),(bo (ac i (aa e f d) j g (aa b c a) h)))))
def vd(a:Bool)(b:List Int)(c:Nat)(d:Nat)(e:Int) :Nat×Bool×(List Int)×Nat×Nat×Int→aG:=fun (f,g,h,i,j,k)=>⟨an 256 [(7,.int .i64 ((f:Nat):Int)),(19,.ptr 0 1 0 0),(24,.ptr 1 1 0 0)],[(0,.vs [.bool false a,.imm .free (.ns .u64 b) 1 1 c d,.int .i64 e]),(1,.vs [.bool false g,.imm .free (.ns .u64 h) 1 1 i j,.int .i64 k])],2⟩
def jh(f:Nat)(d:Bool)(a:List Int)(b:Nat)(c:Nat)(e:Int) :T ((Nat×Bool×(List Int)×Nat×Nat×Int)⊕(am)) :=
  .ask (((f:Nat):Int) != (0:Int))
    (.leaf (.inr (.r0 false)))
    (.need (a6 b c a)<|.need (a6 b c a)<|.need (fQ (ac d (aa b c a) e d (aa b c a) e))<|.leaf (.inl ((dY (ac d (aa b c a) e d (aa b c a) e)),(bm (ac d (aa b c a) e d (aa b c a) e)),(bc (ac d (aa b c a) e d (aa b c a) e)),(bf (ac d (aa b c a) e d (aa b c a) e)),(bg (ac d (aa b c a) e d (aa b c a) e)),(bo (ac d (aa b c a) e d (aa b c a) e)))))
def ve(a:Nat) :Nat×Int→aG:=fun (b,c)=>⟨an 256 [(7,.int .i64 ((a:Nat):Int)),(9,.int .i64 ((b:Nat):Int)),(22,.int .i64 c)],[],0⟩
def ji(g:Bool)(a:List Int)(b:Nat)(c:Nat)(h:Int)(i:Bool)(d:List Int)(e:Nat)(f:Nat)(j:Int) :T ((Nat×Int)⊕(am)) :=
  .need (a6 e f d)<|.need (a6 b c a)<|.need (oP (io i (aa e f d) j g (aa b c a) h))<|.leaf (.inl ((oj (io i (aa e f d) j g (aa b c a) h)),(oi (io i (aa e f d) j g (aa b c a) h))))
def vf(a:Bool) :aG:=⟨an 256 [(2,.bool false a)],[],0⟩
def vg(a:Nat)(b:Nat)(c:Int) :T ((Bool)⊕(am)) :=
  .ask (((a:Nat):Int)==(0:Int))
    (.ask (((b:Nat):Int)==(0:Int))
      (.ask (decide (c≤(0:Int)))
        (.leaf (.inl true))
        (.leaf (.inl false)))
      (.leaf (.inl false)))
    (.leaf (.inl false))
def vh(a:Bool) :T ((Empty)⊕(am)) :=
  .leaf (.inr (.r0 a))
def j6(a:List Nat) :Option am:=pm (aH ((eC a).run) fun u =>
  aH ((uD u).run) fun _ =>
  aH (dN (cM a) 0) fun _ =>
  aH ((iX a).run) fun (v,w,f,g,h) =>
  aH ((iY a f g h).run) fun (f8,g0,g1,i,x) =>
  aH ((iZ a w f f8 i).run) fun y =>
  aH ((i0 i x y).run) fun (j,g2,z,A,B,C,D) =>
  aH ((i3 a).run) fun (E,g3,F,G,H,I,J) =>
  aH ((i4 v f g h).run) fun (b,K,L,M,c,d,e) =>
  aH ((uN z F L).run) fun N =>
  aH ((i5 j B C D b c d e N).run) fun (O,P,Q,R) =>
  aH ((i6 E G H I J).run) fun (S,T,U,V,W,X) =>
  aH ((i7 j A P Q R).run) fun (Y,Z,a0,a1,a2,a3) =>
  aH ((i8 a).run) fun (a4,a7,a8,a9,b0) =>
  aH ((i9 a4 a7 a8 a9 b0).run) fun (b2,k,l,m,n,o) =>
  aH ((uU O S Y b2).run) fun b3 =>
  aH ((ja T U V W X k l m n o b3).run) fun (b4,b5,b6,b7,b8,b9) =>
  aH ((jb Z a0 a1 a2 a3 b5 b6 b7 b8 b9).run) fun (c0,c1) =>
  aH ((uY b4 c0 c1).run) fun c2 =>
  aH ((jc b K M c d e c2).run) fun (c3,p,q,r,s,t) =>
  aH ((jd b c d e p q r s t).run) fun (c4,c5,c6,c7,c8,c9) =>
  aH ((u7 c3 c4).run) fun d0 =>
  aH ((je c5 c6 c7 c8 c9 d0).run) fun (d1,d2,d3,d4,d5,d6) =>
  aH ((jf b c d e d1 d2 d3 d4 d5 d6).run) fun (d7,d8,d9,e0,e1,e2) =>
  aH ((jg p q r s t d7 d8 d9 e0 e1 e2).run) fun (e3,e5,e6,e7,e8,e9) =>
  aH ((jh e3 e5 e6 e7 e8 e9).run) fun (f0,f1,f2,f3,f4,f5) =>
  aH ((ji k l m n o f1 f2 f3 f4 f5).run) fun (f6,f7) =>
  aH ((vg f0 f6 f7).run) fun f9 =>
  (vh f9).run)
theorem oR(n:Lv)(a:List Nat){x:am}(h:j6 a=some x) :ai prog j3 [] [.imm n (.fl a) 1 1 0 (List.length a)] (j5 x) :=
  qH false j5 gO h (Sg.cut 3 aq (bM aJ (wE n a) [⟨[],[],[0,3,32]⟩,⟨[],[],[0,3,32]⟩]) (fun c0=>Sg.cut 2 aq (bM aJ (wF n a) [⟨[],[],[2]⟩,⟨[],[],[0,3,4]⟩]) (fun _=>Sg.cut 1 aq (JQ ⟨[],[],[0,3,4]⟩ (jI n a) (oQ n a) 0 aq (wD _) (fun Y=>uG n a Y)) (fun _=>Sg.cut 1 aq (bM aJ (wH n a) [⟨[],[96,16],[0,3,5,6,7]⟩]) (fun ⟨r,Z,s,t,u⟩=>Sg.cut 1 aq (bM aJ (uH n a r Z s t u) [⟨[],[0,130,1,66],[0,3,5,6,7,8,9]⟩]) (fun ⟨f8,a0,a1,a2,a3⟩=>Sg.cut 1 aq (bM aJ (uI n a r s t u a0 a1 a2 a3) [⟨[],[0,1,2,3],[0,3,5,6,8,79]⟩,⟨[],[0,1,2,3],[0,3,5,6,8,79]⟩,⟨[],[0,1,2,3],[0,3,5,6,8,79]⟩,⟨[],[0,1,2,3],[0,3,5,6,8,79]⟩]) (fun c1=>Sg.cut 2 aq (bM aJ (uJ n a r s t u) [⟨[],[],[2]⟩,⟨[],[0,36,2],[0,3,5,6,10,11]⟩]) (fun ⟨o,p,W,q,M,N,O⟩=>Sg.cut 1 aq (bM aJ (uK a r s t u o p W q M N O) [⟨[],[0,1,19,2],[3,5,6,10,11,12,13]⟩]) (fun ⟨P,Q,a4,R,S,T,U⟩=>Sg.cut 1 aq (bM aJ (uL a o p W q M N O P Q a4 R S T U) [⟨[],[1,2,116],[3,10,11,12,13,14,15]⟩]) (fun ⟨b,c,c2,d,e,f,g⟩=>Sg.cut 1 aq (bM aJ (uM a o p q M N O P Q R S T U b c d e f g) [⟨[],[0,1,2],[3,10,12,14,111]⟩,⟨[],[0,1,2],[3,10,12,14,111]⟩,⟨[],[0,1,2],[3,10,12,14,111]⟩]) (fun c3=>Sg.cut 2 aq (bM aJ (uO a o p q P Q R S T U b c d e f g) [⟨[],[],[2]⟩,⟨[],[0,1,2],[3,7,10,12,14]⟩]) (fun ⟨v,a7,a8,a9⟩=>Sg.cut 1 aq (bM aJ (uP a o p q b c d e f g v a7 a8 a9) [⟨[],[0,2,99],[3,7,9,10,14,16]⟩]) (fun ⟨V,w,y,z,A,B⟩=>Sg.cut 1 aq (bM aJ (uQ a b c d e f g v V w y z A B) [⟨[],[1,2,99],[3,7,9,14,16,17,18]⟩]) (fun ⟨X,C,D,E,F,G⟩=>Sg.cut 1 aq (bM aJ (uR b c d e f g v V w y z A B X C D E F G) [⟨[],[0,1,2,99],[7,9,14,16,17,18,19]⟩]) (fun ⟨c4,c5,c6,c7,c8⟩=>Sg.cut 1 aq (bM aJ (uS b c d e f g v V w y z A B X C D E F G) [⟨[],[0,1,2,3],[7,9,14,16,17,18,19,20]⟩]) (fun ⟨c9,i,j,k,l,m⟩=>Sg.cut 1 aq (bM aJ (uT b c d e f g w y z A B C D E F G i j k l m) [⟨[],[0,1,2,3],[14,16,17,19,160]⟩,⟨[],[0,1,2,3],[14,16,17,19,160]⟩,⟨[],[0,1,2,3],[14,16,17,19,160]⟩,⟨[],[0,1,2,3],[14,16,17,19,160]⟩]) (fun d0=>Sg.cut 2 aq (bM aJ (uV b c d e f g C D E F G i j k l m) [⟨[],[],[2]⟩,⟨[],[0,2,3,100],[7,14,17,19,21]⟩]) (fun ⟨b0,d1,d2,d3,d4,d5⟩=>Sg.cut 1 aq (bM aJ (uW b c d e f g i j k l m b0) [⟨[],[0,2],[7,9,14,19,22]⟩]) (fun ⟨d6,d7⟩=>Sg.cut 1 aq (bM aJ (uX b c d e f g i j k l m) [⟨[],[0,1],[14,19,182]⟩,⟨[],[0,1],[14,19,182]⟩,⟨[],[0,1],[14,19,182]⟩]) (fun d8=>Sg.cut 2 aq (bM aJ (uZ b c d e f g i j k l m) [⟨[],[],[2]⟩,⟨[],[0,1,130],[7,14,19,23]⟩]) (fun ⟨b2,H,I,J,K,L⟩=>Sg.cut 1 aq (bM aJ (u4 b c d e f g i j k l m b2 H I J K L) [⟨[],[0,1,2,131],[7,9,14,19,23,24]⟩]) (fun ⟨d9,b3,b4,b5,b6,b7⟩=>Sg.cut 1 aq (bM aJ (u5 b c d e f g i j k l m H I J K L b3 b4 b5 b6 b7) [⟨[],[0,1,2,3],[14,19,23,24,204]⟩,⟨[],[0,1,2,3],[14,19,23,24,204]⟩]) (fun e0=>Sg.cut 2 aq (bM aJ (u9 b c d e f g i j k l m H I J K L) [⟨[],[],[2]⟩,⟨[],[0,1,2,3],[7,14,19,23,24]⟩]) (fun ⟨e1,e2,e3,e5,e6,e7⟩=>Sg.cut 3 aq (bM aJ (va i j k l m H I J K L) [⟨[],[],[2]⟩,⟨[],[1,2,3],[7,19,23,24]⟩]) (fun ⟨e8,e9,f0,f1,f2,f3⟩=>Sg.cut 3 aq (bM aJ (vc i j k l m) [⟨[],[],[2]⟩,⟨[],[0,2],[7,19,24]⟩]) (fun ⟨f4,f5,f6,f7,f9,g0⟩=>Sg.cut 3 aq (bM aJ (vd i j k l m) [⟨[],[],[2]⟩,⟨[],[0,1],[7,19,24]⟩]) (fun ⟨b8,g1,g2,g3,g4,g5⟩=>Sg.cut 1 aq (bM aJ (ve b8) [⟨[],[],[7,9,22]⟩]) (fun ⟨g6,g7⟩=>Sg.cut 1 aq (bM aJ vf [⟨[],[],[2]⟩,⟨[],[],[2]⟩,⟨[],[],[2]⟩,⟨[],[],[2]⟩]) (fun g8=>bM aJ _ [⟨[],[],[2]⟩])))))))))))))))))))))))))))))
    (fun x=>by cases x with | r0 b9=>exact pn [.bool false b9])
def jJ:Option am→Bool
  | some _=>true
  | none=>false
def mQ:Option am→Bool
  | some (.r0 x)=>x
  | _=>false
theorem wI{x:Option am}(h:jJ x=true) :x=some (.r0 (mQ x)):=by
  unfold jJ at h
  split at h<;>first | rfl | (cases h;done) | (rename_i y;cases y;rfl)
def pq:aK:=cV j3 (.cons .fl .nil) fun t=>(fun q=>[⟨j5 (.r0 (mQ q)),[jJ q]⟩]) (j6 t.1.2)
theorem ul:aQ prog pq:=aX fun t=>(aY (fun h=>oR t.1.1 t.1.2 (wI h)) bE)
def xH:List aK:=pq::GC
theorem KC:bj prog (bv xH):=ax ul aJ
end
end Go.Plb.Seat
namespace Go.Plb.Seat
open Go Go.Plb
set_option linter.unusedSimpArgs false
set_option linter.unusedVariables false
theorem D6{α:Type}{n:Nat}{l:List α}(h:l.length=n) :a6 0 n l=true:=by rw [←h];exact oE l
theorem ag{α:Type}{b:Bool}{t:T α}{x:Option α}(k:t.run=x)(h:b=true:=by simp only [dp,q9,se,jl,jm,dZ,jM,jN,decide_eq_true_eq,decide_eq_false_iff_not,beq_iff_eq,beq_eq_false_iff_ne,bne_iff_ne,bne_eq_false_iff_eq,Bool.not_eq_true',Bool.not_eq_false',List.length_set,ne_eq,ge_iff_le,gt_iff_lt,eB,cx,mX];omega) :(T.need b t).run=x:=bT h k
theorem dF{α:Type}{b:Bool}{t f:T α}{x:Option α}(k:t.run=x)(h:b=true:=by simp only [dp,q9,se,jl,jm,dZ,jM,jN,decide_eq_true_eq,decide_eq_false_iff_not,beq_iff_eq,beq_eq_false_iff_ne,bne_iff_ne,bne_eq_false_iff_eq,Bool.not_eq_true',Bool.not_eq_false',List.length_set,ne_eq,ge_iff_le,gt_iff_lt,eB,cx,mX];omega) :(T.ask b t f).run=x:=E3 h k
theorem cv{α:Type}{b:Bool}{t f:T α}{x:Option α}(k:f.run=x)(h:b=false:=by simp only [dp,q9,se,jl,jm,dZ,jM,jN,decide_eq_true_eq,decide_eq_false_iff_not,beq_iff_eq,beq_eq_false_iff_ne,bne_iff_ne,bne_eq_false_iff_eq,Bool.not_eq_true',Bool.not_eq_false',List.length_set,ne_eq,ge_iff_le,gt_iff_lt,eB,cx,mX];omega) :(T.ask b t f).run=x:=oD h k
theorem jY{α:Type}{b:Bool}{t:T α}{x:Option α}(k:t.run=x)(h:b=true:=by exact D6 ay) :(T.need b t).run=x:=bT h k
theorem aI{v n m:Nat}(h:m≤n) :a6 0 m (az v n)=true:=by rw [dZ,ay];omega
theorem fD{v n:Nat}(h:v<W^n)(hn:n≤1000000000) :aj (az v n)=some (.r0 (az v n) (nl v)):=by
  have hl:=gu h
  refine bk (ae rfl (ae (a:=nl v) (dO (fun j=>n-j) (n-nl v) (by simp only [ay];rfl) (fun j hj=>?_) ?_) rfl))
  · show aH (l6 _ _).run _=_
    have e:Int.toNat (((n-j:Nat):Int)-1)=n-(j+1):=by omega
    have z:(az v n).getD (n-(j+1)) 0=0:=by
      rw [cq h]
      exact xg (Nat.lt_of_lt_of_le (cC v) (Nat.pow_le_pow_right (by decide) (by omega)))
    refine ae (a:=true) ?_ ?_
    · unfold l6
      rw [e,z,ay]
      exact dF (ag (ag (ag rfl)))
    · unfold Ag
      rw [e]
      exact cB (ag (ag (ag rfl)))
  · have e0:n-(n-nl v)=nl v:=by omega
    show aH (l6 _ _).run _=_
    rw [e0]
    by_cases h0:v=0
    · have z:=k9.2 h0
      rw [z]
      exact ae (a:=false) (aO rfl) (aO rfl)
    · have hp:=yS h0
      have e:Int.toNat (((nl v:Nat):Int)-1)=nl v-1:=by omega
      refine ae (a:=false) ?_ (aO rfl)
      unfold l6
      rw [e,cq h,ay]
      refine dF (ag (ag (ag ?_)))
      show some (Sum.inl _)=_
      congr 2
      rw [beq_eq_false_iff_ne];exact Tq h0
theorem qF{v n:Nat}(h:v<W^n)(hn:n≤1000000000) :aM (az v n) 0 n n=some (.r0 0 (nl v) n (az v n)):=by
  have hl:=gu h
  refine bk (ae rfl (ae (a:=(0,nl v)) (dO (fun j=>(0,n-j)) (n-nl v) rfl (fun j hj=>?_) ?_) rfl))
  · show aH (iC _ _ _).run _=_
    have e:Int.toNat (((n-j:Nat):Int)-1)=n-(j+1):=by omega
    have z:(az v n).getD (n-(j+1)) 0=0:=by
      rw [cq h]
      exact xg (Nat.lt_of_lt_of_le (cC v) (Nat.pow_le_pow_right (by decide) (by omega)))
    refine ae (a:=true) ?_ ?_
    · unfold iC
      rw [e,gN,Nat.zero_add,z,ay]
      exact dF (ag (ag (ag rfl)))
    · unfold uz
      rw [e]
      exact cB (ag (ag (ag rfl)))
  · have e0:n-(n-nl v)=nl v:=by omega
    show aH (iC _ _ _).run _=_
    rw [e0]
    by_cases h0:v=0
    · have z:=k9.2 h0
      rw [z]
      exact ae (a:=false) (aO rfl) (aO rfl)
    · have hp:=yS h0
      have e:Int.toNat (((nl v:Nat):Int)-1)=nl v-1:=by omega
      refine ae (a:=false) ?_ (aO rfl)
      unfold iC
      rw [e,gN,Nat.zero_add,cq h,ay]
      refine dF (ag (ag (ag ?_)))
      show some (Sum.inl _)=_
      congr 2
      rw [beq_eq_false_iff_ne];exact Tq h0
theorem IS{v n:Nat}(h:v<W^n)(hn:n≤1000000000) :jx (az v n)=some (if 4096<nl v then .r0 0 2 [] else .r0 (nl v) 0 (az v (nl v))):=by
  have hl:=gu h
  have hc:aa 0 (az v n).length (az v n)=az v n:=aW _
  by_cases hb:4096<nl v
  · rw [if_pos hb]
    refine bk (ae (a:=(2,az v n,nl v)) ?_ (cB rfl))
    unfold vP
    rw [hc,fD h hn]
    simp only [bz,aA,ao]
    exact cB (au (dk (au (dF rfl))))
  · rw [if_neg hb]
    refine bk (ae (a:=(0,az v n,nl v)) ?_ ?_)
    · unfold vP
      rw [hc,fD h hn]
      simp only [bz,aA,ao]
      exact cB (au (dk (au (cv (au (aO rfl))))))
    · show (vQ _ _ _).run=_
      unfold vQ
      rw [aR hl,ay]
      exact aO (bT (aI hl) (ag rfl))
theorem Rl{v:Nat}(h:v<W) :aS (v:Int)=some (.r0 0 (nl v) 1 (az v 1)):=by
  have e:([(v:Int)]:List Int)=az v 1:=by
    show [(v:Int)]=[]++[lm v 0]
    unfold lm;rw [Nat.pow_zero,Nat.div_one,Nat.mod_eq_of_lt h];rfl
  refine bk (ae (a:=(0,nl v,1,az v 1)) ?_ rfl)
  unfold Io
  rw [e,qF (by rw [Nat.pow_one];exact h) (by decide)]
  exact au rfl
theorem IT{v n:Nat}(h:v<W^n)(hn:n≤1000000000) :dI (az v n) 0 n n=some (if 4096<nl v then .r0 (az v n) else .r1 0 (nl v) n (az v n)):=by
  refine bk (ae (a:=(0,nl v,n,az v n)) ?_ ?_)
  · unfold CM
    rw [qF h hn]
    exact au rfl
  · by_cases hb:4096<nl v
    · rw [if_pos hb];exact dF rfl
    · rw [if_neg hb];exact cv rfl
theorem NO{a b:Nat}(ha:nl a≤1000000)(hb:nl b≤1000000) :nt (az a (nl a)) (az b (nl b))=some (.r0 (qK a b)):=by
  refine bk ?_
  by_cases h1:nl a<nl b
  · have:qK a b = -1:=by unfold qK;rw [if_pos (LF h1)]
    rw [this]
    refine bN ?_
    unfold tk
    rw [ay,ay]
    exact dF rfl
  by_cases h2:nl b<nl a
  · have hlt:=LF h2
    have:qK a b=1:=by unfold qK;rw [if_neg (by omega),if_pos hlt]
    rw [this]
    refine bN ?_
    unfold tk
    rw [ay,ay]
    exact cv (dF rfl)
  have hn:nl b=nl a:=by omega
  have hA:=cC a
  have hB:=cC b
  rw [hn] at hB hb ⊢
  generalize nl a=n at *
  refine ae (a:=((n:Int)-1)) ?_ ?_
  · unfold tk
    rw [ay,ay]
    exact cv (cv (ag rfl))
  have step:∀ j,j<n→lm a (n-1-j)=lm b (n-1-j)→rg (az a n) (az b n) ((n:Int)-1-j)=some (.inl ((n:Int)-1-(j+1:Nat))):=by
    intro j hj he
    show (qk _ _ _).run=_
    unfold qk
    have e:Int.toNat ((n:Int)-1-(j:Int))=n-1-j:=by omega
    rw [e,cq hA,cq hB,ay,ay,he]
    refine dF (ag (ag (ag (ag (oD (by simp) (ag (ag (ag (ag (oD (by simp) (ag ?_)))))))))))
    show some (Sum.inl _)=_
    congr 2;omega
  by_cases hall:∀ j,j<n→lm a (n-1-j)=lm b (n-1-j)
  · have hab:a=b:=by
      have:=E5 hA hB (d:=n) (Nat.le_refl _) fun k _ h2=>by
        have:=hall (n-1-k) (by omega)
        rwa [show n-1-(n-1-k)=k by omega] at this
      simpa using this
    subst hab
    have:qK a a=0:=by unfold qK;rw [if_neg (Nat.lt_irrefl _),if_neg (Nat.lt_irrefl _)]
    rw [this]
    exact ae (dO (fun j=>(n:Int)-1-(j:Nat)) n (by omega) (fun j hj=>step j hj (hall j hj)) (cv rfl)) rfl
  · obtain ⟨k,hk,hb',hf⟩:=sf hall
    have hup:a/W^(n-1-k+1)=b/W^(n-1-k+1):=by
      have:=E5 hA hB (d:=k) (by omega) fun i h1 h2=>by
        have:=hf (n-1-i) (by omega)
        rwa [show n-1-(n-1-i)=i by omega] at this
      rwa [show n-k=n-1-k+1 by omega] at this
    refine bN (dO (fun j=>(n:Int)-1-(j:Nat)) k (by omega) (fun j hj=>step j (by omega) (hf j hj)) ?_)
    show (qk _ _ _).run=_
    unfold qk
    have e:Int.toNat ((n:Int)-1-(k:Int))=n-1-k:=by omega
    rw [e,cq hA,cq hB,ay,ay]
    refine dF (ag (ag (ag (ag ?_))))
    by_cases hlt:lm a (n-1-k)<lm b (n-1-k)
    · have:=E6 hup hlt
      have:qK a b = -1:=by unfold qK;rw [if_pos this]
      rw [this]
      exact E3 (decide_eq_true hlt) rfl
    · have hgt:lm b (n-1-k)<lm a (n-1-k):=by omega
      have hlt':=E6 hup.symm hgt
      have:qK a b=1:=by unfold qK;rw [if_neg (by omega),if_pos hlt']
      rw [this]
      exact oD (decide_eq_false hlt) (ag (ag (ag (ag (E3 (decide_eq_true hgt) rfl)))))
theorem TT{x y nx ny:Nat}(hx:x<W^nx)(hy:y<W^ny)(hn:ny≤nx)(hb:nx≤1000000){lx ly:List Int}(ex:∀ i,i<nx→lx.getD i 0=lm x i)(ey:∀ i,i<ny→ly.getD i 0=lm y i)(hlx:nx≤lx.length)(hly:ny≤ly.length) :
    dN (oL lx nx ly ny (nx+1)) (0,0,az 0 (nx+1))=some (.inl (si x y nx/W^nx,az (si x y nx%W^nx) (nx+1))):=by
  refine dO (fun j=>(j,si x y j/W^j,az (si x y j%W^j) (nx+1))) nx (by simp [si,Nat.mod_one]) (fun j hj=>?_) (bN (cv rfl))
  have hc:=E7 (x:=x) (y:=y) (j:=j)
  have hS:=Nat.mod_lt (si x y j) (dP j)
  have hst:=R1 x y j
  obtain ⟨d1,d2⟩:=yT (t:=x/W^j%W+y/W^j%W+si x y j/W^j) hS
  rw [←hst] at d1 d2
  have dW:=pC (n:=nx+1) hS (Nat.mod_lt (x/W^j%W+y/W^j%W+si x y j/W^j) (show W>0 by decide)) (by omega)
  rw [←d2] at dW
  show aH (vT _ _ _ _ _ _ _ _).run _=_
  refine ae (a:=(si x y (j+1)/W^(j+1),az (si x y (j+1)%W^(j+1)) (nx+1))) ?_ (ag rfl)
  unfold vT
  rw [ex j hj,ay]
  by_cases hyj:j<ny
  · rw [ey j hyj]
    refine dF (dF (ag (ag (ag (ag (ag (ag (ag ?_))))))))
    rw [vK,vK,dW,d1];rfl
  · have y0:y/W^j%W=0:=by
      rw [Nat.div_eq_of_lt (Nat.lt_of_lt_of_le hy (Nat.pow_le_pow_right (by decide) (by omega)))];rfl
    rw [y0] at dW d1
    refine dF (cv (ag (ag (ag (ag (ag ?_))))))
    rw [vK,dW,d1];rfl
theorem TU{a b n m:Nat}(ha:a<W^n)(hb:b<W^m)(hn:n≤1000000)(hm:m≤1000000)(h1:nl a≤4096)(h2:nl b≤4096)(h3:nl (a+b)≤4096) :
    bt (az a n) (az b m)=some (.r0 0 (nl (a+b)) (max (nl a) (nl b)+1) 0 (az (a+b) (max (nl a) (nl b)+1))):=by
  have la:=gu ha
  have lb:=gu hb
  refine bk (ae (a:=(0,az a n,nl a,az b m,nl b)) ?_ ?_)
  · unfold CO
    rw [aW,aW,fD ha (by omega),fD hb (by omega)]
    simp only [bz,aA,ao]
    exact cB (au (dk (au (cv (au (cB (au (dk (au (cv (au (aO rfl))))))))))))
  have fin:∀ {x y nx ny:Nat} {lx ly:List Int},x<W^nx→y<W^ny→ny≤nx→nx≤4096→(∀ i,i<nx→lx.getD i 0=lm x i)→(∀ i,i<ny→ly.getD i 0=lm y i)→nx≤lx.length→ny≤ly.length→nl (x+y)≤4096 →
      (aH ((vS nx).run) fun (o10,l11)=>aH (dN (oL lx nx ly ny o10) (0,0,l11)) fun (a19,l20)=>aH ((vU nx o10 a19 l20).run) fun (a21,a22,a23,a24,l25)=>(CP a21 a22 a23 a24 l25).run)
        = some (.inr (.r0 0 (nl (x+y)) (nx+1) 0 (az (x+y) (nx+1)))):=by
    intro x y nx ny lx ly hx hy hle hnx ex ey hlx hly h4
    refine ae (a:=(nx+1,az 0 (nx+1))) ?_ (ae (TT hx hy hle (by omega) ex ey hlx hly) (ae (a:=(0,nl (x+y),nx+1,0,az (x+y) (nx+1))) ?_ rfl))
    · unfold vS
      rw [BC]
      exact ag (ag (ag (ag (ag rfl))))
    · have hyx:y<W^nx:=Nat.lt_of_lt_of_le hy (Nat.pow_le_pow_right (by decide) hle)
      have hs:si x y nx=x+y:=by unfold si;rw [Nat.mod_eq_of_lt hx,Nat.mod_eq_of_lt hyx]
      have hc:=E7 (x:=x) (y:=y) (j:=nx)
      have dW:=pC (u:=(x+y)%W^nx) (x:=(x+y)/W^nx) (j:=nx) (n:=nx+1) (Nat.mod_lt _ (dP _)) (by rw [hs] at hc;exact Nat.lt_of_le_of_lt hc (by decide)) (by omega)
      have hv:(x+y)%W^nx+(x+y)/W^nx*W^nx=x+y:=by rw [Nat.mul_comm];exact Nat.mod_add_div _ _
      rw [hv] at dW
      have hb2:x+y<W^(nx+1):=by
        rw [Nat.pow_succ]
        have h:=dP nx
        generalize W^nx=P at *
        have:(2:Nat)*P≤P*W:=by rw [Nat.mul_comm];exact Nat.mul_le_mul_left _ (by decide)
        omega
      unfold vU
      rw [hs,dW,IT hb2 (by omega),if_neg (by omega),ay]
      exact ag (ag (Wp (Wq rfl) (VF (au rfl))))
  by_cases hlt:nl a<nl b
  · refine ae (a:=(az b m,nl b,az a n,nl a)) (aO (dF rfl)) ?_
    have:=fin (x:=b) (y:=a) (nx:=nl b) (ny:=nl a) (lx:=az b m) (ly:=az a n) (cC b) (cC a) (by omega) h2 (fun i hi=>cq hb i) (fun i hi=>cq ha i) (by rw [ay];exact lb) (by rw [ay];exact la) (by rw [Nat.add_comm];exact h3)
    rw [Nat.add_comm b a] at this
    rw [show max (nl a) (nl b)=nl b by omega]
    exact this
  · refine ae (a:=(az a n,nl a,az b m,nl b)) (aO (cv rfl)) ?_
    have:=fin (x:=a) (y:=b) (nx:=nl a) (ny:=nl b) (lx:=az a n) (ly:=az b m) (cC a) (cC b) (by omega) h1 (fun i hi=>cq ha i) (fun i hi=>cq hb i) (by rw [ay];exact la) (by rw [ay];exact lb) h3
    rw [show max (nl a) (nl b)=nl a by omega]
    exact this
def NP(a b n j:Nat) :List Int:=gk (fun i=>if i<j then lm (Dr a b j) i else lm a i) n
theorem Se{a b n j:Nat}(hj:j<n) :(NP a b n j).set j (((a/W^j%W+W-b/W^j%W-E8 a b j)%W:Nat):Int)=NP a b n (j+1):=by
  unfold NP
  rw [lA hj]
  refine bV fun i hi=>?_
  have hD:=(Rc (a:=a) (b:=b) (j:=j)).1
  have h:=yR hD (Nat.mod_lt (a/W^j%W+W-b/W^j%W-E8 a b j) (show W>0 by decide)) i
  rw [←(LG a b j).2] at h
  by_cases e:i=j
  · subst e
    rw [if_pos rfl,if_pos (by omega),h,if_pos rfl]
  · rw [if_neg e] at h ⊢
    by_cases q:i<j
    · rw [if_pos q,if_pos (by omega),h]
    · rw [if_neg q,if_neg (by omega)]
theorem sc{a b n m:Nat}(ha:a<W^n)(hb:b<W^m)(hle:b≤a)(hmn:m≤n)(hn:n≤1000000) :nA (az a n) (az b m)=some (.r0 0 (nl (a-b)) n (az (a-b) n)):=by
  have hbn:b<W^n:=Nat.lt_of_lt_of_le hb (Nat.pow_le_pow_right (by decide) hmn)
  refine bk (ae (a:=(n,az a n)) ?_ (ae (a:=az (a-b) n) ?_ (ae (a:=(0,nl (a-b),n,az (a-b) n)) ?_ rfl)))
  · unfold CQ
    rw [aW,ay]
    exact bT (aI (Nat.le_refl _)) (ag rfl)
  · have e0:az a n=NP a b n 0:=bV fun i _=>by rw [if_neg (by omega)]
    have en:NP a b n n=az (a-b) n:=by
      refine bV fun i hi=>?_
      have hd:Dr a b n=a-b:=by
        unfold Dr E8
        rw [Nat.mod_eq_of_lt ha,Nat.mod_eq_of_lt hbn,if_neg (by omega),Nat.zero_mul,Nat.add_zero]
      rw [if_pos hi,hd]
    have b0:E8 a b 0=0:=by unfold E8;rw [Nat.pow_zero,Nat.mod_one,Nat.mod_one];rfl
    show dN _ ((0:Int),0,az a n)=_
    refine dO (fun j=>(((E8 a b j:Nat):Int),j,NP a b n j)) n (by rw [b0,←e0];rfl) (fun j hj=>?_) (bN (oD (by rw [ay];simp) (by rw [en];rfl)))
    have hbr:E8 a b j≤1:=by unfold E8;split<;>omega
    have hl:(NP a b n j).length=n:=de
    obtain ⟨s1,s2⟩:=LG a b j
    have hst:=Se (a:=a) (b:=b) hj
    show aH (vV _ _ _ _ _ _).run _=_
    refine ae (a:=(((E8 a b (j+1):Nat):Int),NP a b n (j+1))) ?_ (ag rfl)
    unfold vV
    rw [cq ha,ay,ay,hl,cx,vK]
    have blt:∀ p q:Nat,(bif Nat.blt p q then (1:Int) else 0)=(((if p<q then 1 else 0:Nat)):Int):=by
      intro p q
      by_cases h:p<q
      · rw [if_pos h,show Nat.blt p q=true by rw [Nat.blt_eq];exact h];rfl
      · rw [if_neg h]
        cases e:Nat.blt p q with
        | true=>rw [Nat.blt_eq] at e;exact absurd e h
        | false=>rfl
    by_cases hjm:j<m
    · rw [cq hb,vK,blt,←s1,hst]
      exact dF (dF (ag (ag (ag (ag (ag (ag (ag rfl))))))))
    · have y0:b/W^j%W=0:=by
        rw [Nat.div_eq_of_lt (Nat.lt_of_lt_of_le hb (Nat.pow_le_pow_right (by decide) (by omega)))];rfl
      rw [y0] at s1 hst
      refine dF (cv (ag (ag (ag (ag (ag ?_))))))
      rw [blt,←s1,hst];rfl
  · unfold CR
    rw [qF (Nat.lt_of_le_of_lt (Nat.sub_le _ _) ha) (by omega)]
    exact au rfl
theorem NQ{a b n m:Nat}(ha:a<W^n)(hb:b<W^m)(hn:n≤1000000)(hm:m≤1000000)(h1:nl a≤4096)(h2:nl b≤4096)(hle:b≤a) :
    aU (az a n) (az b m)=some (.r0 (az (a-b) (nl a)) 0 (nl (a-b)) 0):=by
  have la:=gu ha
  have lb:=gu hb
  have hnn:nl b≤nl a:=gu (Nat.lt_of_le_of_lt hle (cC a))
  refine bk (ae (a:=(0,az a n,nl a,az b m,nl b)) ?_ (ae (a:=false) ?_ (ae (a:=(az (a-b) (nl a),0,nl (a-b))) ?_ rfl)))
  · unfold FC
    rw [aW,aW,fD ha (by omega),fD hb (by omega)]
    simp only [bz,aA,ao]
    exact cB (au (dk (au (cv (au (cB (au (dk (au (cv (au (aO rfl))))))))))))
  · unfold FD
    rw [aR la,aR lb,NO (by omega) (by omega)]
    refine aO (bT (aI la) (bT (aI lb) (au ?_)))
    show some (Sum.inl _)=_
    congr 2
    show decide (qK a b<0)=false
    unfold qK
    rw [if_neg (by omega)]
    split<;>rfl
  · unfold FE
    rw [aR la,aR lb,sc (cC a) (cC b) hle hnn (by omega)]
    exact aO (bT (aI la) (bT (aI lb) (au rfl)))
theorem NR{a b n m:Nat}(ha:a<W^n)(hb:b<W^m)(hn:n≤1000000)(hm:m≤1000000)(h1:nl a≤4096)(h2:nl b≤4096) :
    nu (az a n) (az b m)=some (.r0 (qK a b) 0):=by
  have la:=gu ha
  have lb:=gu hb
  refine bk (ae (a:=(0,az a n,nl a,az b m,nl b)) ?_ (ae (a:=qK a b) ?_ rfl))
  · unfold Fu
    rw [aW,aW,fD ha (by omega),fD hb (by omega)]
    simp only [bz,aA,ao]
    exact cB (au (dk (au (cv (au (cB (au (dk (au (cv (au (aO rfl))))))))))))
  · unfold Fv
    rw [aR la,aR lb,NO (by omega) (by omega)]
    exact aO (bT (aI la) (bT (aI lb) (au rfl)))
theorem Qp{x y:Nat}(hx:x<W)(hy:y<W) :dq (x:Int) (y:Int)=some (.r0 ((x*y/W:Nat):Int) ((x*y%W:Nat):Int)):=by
  obtain ⟨h1,h2,h3,h4,h5,h6,h7,h8,h9⟩:=OR hx hy
  have s:∀ z:Nat,Int.fdiv (z:Int) (2^(min (Int.toNat (32:Int)) (IntKind.u64.bits)))=((z/4294967296:Nat):Int):=fun z=>te z (k:=32) (by decide)
  refine bk (ae (a:=(((x%4294967296:Nat):Int),((x/4294967296:Nat):Int),((y/4294967296:Nat):Int),((x/4294967296*(y%4294967296)+x%4294967296*(y%4294967296)/4294967296:Nat):Int))) ?_ ?_)
  · unfold qi
    rw [JH hx,JH hy,s,s,sm,sm,Nat.mod_eq_of_lt h2,Nat.mod_eq_of_lt h3,s,sj,Nat.mod_eq_of_lt h1]
    exact au (au (au rfl))
  · show (lc _ _ _ _ _ _).run=_
    unfold lc
    rw [sm,sm,sm,JH h1,s,sj,sj,Nat.mod_eq_of_lt h4,Nat.mod_eq_of_lt h5,Nat.mod_eq_of_lt h6,Nat.mod_eq_of_lt h7,s,sj,h8,Nat.mod_eq_of_lt h9]
    exact au (au rfl)
theorem TV{O a m k n N:Nat}(hO:O<W^(k+n))(ha:a<W^n)(hm:m<W)(hN:k+n≤N)(hb:N≤1000000) :
    nD (az O N) k (N-k) (az a n) (m:Int)=some (.r0 (((O+a*m*W^k)/W^(k+n):Nat):Int) (az ((O+a*m*W^k)%W^(k+n)) N)):=by
  refine bk (ae rfl (ae (a:=((((O+a*m*W^k)/W^(k+n):Nat):Int),az ((O+a*m*W^k)%W^(k+n)) N)) ?_ rfl))
  have c0:lZ O a m k 0/W^(k+0)=0:=by
    have e:lZ O a m k 0=O%W^k:=by unfold lZ;rw [Nat.pow_zero,Nat.mod_one,Nat.zero_mul,Nat.zero_mul,Nat.add_zero,Nat.add_zero]
    rw [e,Nat.add_zero,Nat.div_eq_of_lt (Nat.mod_lt _ (dP _))]
  refine dO (fun i=>(((lZ O a m k i/W^(k+i):Nat):Int),i,G4 O a m k N i)) n (by rw [c0,R2];rfl) (fun i hi=>?_) ?_
  · have hc:=OS (O:=O) (a:=a) (m:=m) (k:=k) (i:=i)
    have hcW:lZ O a m k i/W^(k+i)<W:=Nat.lt_of_le_of_lt hc hm
    have hla:=Nat.mod_lt (a/W^i) (show W>0 by decide)
    have hlO:=Nat.mod_lt (O/W^(k+i)) (show W>0 by decide)
    have hl:=Ts (O:=O) (a:=a) (m:=m) (k:=k) (n:=N) (i:=i)
    have hat:=UE (O:=O) (a:=a) (m:=m) (k:=k) (n:=N) (i:=i) (by omega)
    have hst:=R3 (O:=O) (a:=a) (m:=m) (k:=k) (n:=N) (i:=i) (by omega)
    obtain ⟨w1,w2,w3,w4⟩:=Tu hla hm hcW hlO
    have hS:=Nat.mod_lt (lZ O a m k i) (dP (k+i))
    obtain ⟨d1,_⟩:=yT (t:=O/W^(k+i)%W+a/W^i%W*m+lZ O a m k i/W^(k+i)) hS
    rw [←Ij] at d1
    show aH (oM _ _ _ _ _ _ _).run _=_
    refine ae (a:=(((lZ O a m k (i+1)/W^(k+i+1):Nat):Int),G4 O a m k N (i+1))) ?_ (ag rfl)
    unfold oM
    rw [cq ha,rI,Qp hla hm]
    simp only [fY,gw,dQ,gN]
    rw [hat,rI,ay,hl]
    simp only [cx,Nat.add_zero]
    rw [sj,Nat.mod_eq_of_lt w2,sj,w1,w3,Nat.mod_eq_of_lt w4,hst,←d1]
    exact dF (ag (ag (au (au (ag (ag (au (ag (ag rfl)))))))))
  · show aH (oM _ _ _ _ _ _ _).run _=_
    refine bN ?_
    unfold oM
    rw [LJ hO ha,Tt hO,LJ hO ha,ay]
    exact oD (by simp) rfl
theorem KD{a b n m:Nat}(ha:a<W^n)(hb:b<W^m) :a*b<W^(n+m):=by
  rw [Nat.pow_add]
  rcases Nat.eq_zero_or_pos b with h | h
  · rw [h,Nat.mul_zero];exact Nat.mul_pos (dP _) (dP _)
  · exact Nat.mul_lt_mul_of_lt_of_le ha (Nat.le_of_lt hb) (dP _) |> fun q=>q
theorem TW{a b n m:Nat}(ha:a<W^n)(hb:b<W^m)(hn:n≤1000000)(hm:m≤1000000)(h1:nl a+nl b≤4096) :
    lB (az a n) (az b m)=some (.r0 0 (nl (a*b)) (nl a+nl b) 0 (az (a*b) (nl a+nl b))):=by
  have la:=gu ha
  have lb:=gu hb
  have hA:=cC a
  have hB:=cC b
  have hab:=KD hA hB
  have hnab:=gu hab
  refine bk (ae (a:=(0,az a n,nl a,az b m,nl b)) ?_ (ae (a:=false) (aO (ag (cv rfl))) (ae (a:=(nl a+nl b,az 0 (nl a+nl b))) ?_ (ae (a:=az (a*b) (nl a+nl b)) ?_ (ae (a:=(0,nl (a*b),nl a+nl b,0,az (a*b) (nl a+nl b))) ?_ rfl)))))
  · unfold CS
    rw [aW,aW,fD ha (by omega),fD hb (by omega)]
    simp only [bz,aA,ao]
    exact cB (au (dk (au (cv (au (cB (au (dk (au (cv (au (aO rfl))))))))))))
  · unfold CT
    rw [BC]
    exact aO (ag (ag (ag (ag (ag rfl)))))
  · refine dO (fun k=>(k,az (a*(b%W^k)) (nl a+nl b))) (nl b) (by simp [Nat.mod_one]) (fun k hk=>?_) (bN (cv (by rw [Nat.mod_eq_of_lt hB];rfl)))
    have hO:a*(b%W^k)<W^(k+nl a):=by rw [Nat.add_comm];exact KD hA (Nat.mod_lt _ (dP k))
    have hlb:=Nat.mod_lt (b/W^k) (show W>0 by decide)
    have hs:=TV (N:=nl a+nl b) hO hA hlb (by omega) (by omega)
    have e:a*(b%W^k)+a*(b/W^k%W)*W^k=a*(b%W^(k+1)):=by rw [lY,Nat.mul_add,Nat.mul_assoc]
    rw [e] at hs
    have hO1:a*(b%W^(k+1))<W^(k+nl a+1):=by
      rw [show k+nl a+1=nl a+(k+1) by omega];exact KD hA (Nat.mod_lt _ (dP (k+1)))
    have hcar:a*(b%W^(k+1))/W^(k+nl a)<W:=by
      exact Nat.div_lt_of_lt_mul (by rw [←Nat.pow_succ];exact hO1)
    have dW:=pC (u:=a*(b%W^(k+1))%W^(k+nl a)) (x:=a*(b%W^(k+1))/W^(k+nl a)) (j:=k+nl a) (n:=nl a+nl b) (Nat.mod_lt _ (dP _)) hcar (by omega)
    have hv:a*(b%W^(k+1))%W^(k+nl a)+a*(b%W^(k+1))/W^(k+nl a)*W^(k+nl a)=a*(b%W^(k+1)):=by rw [Nat.mul_comm (a*(b%W^(k+1))/W^(k+nl a))];exact Nat.mod_add_div _ _
    rw [hv] at dW
    show aH (vZ _ _ _ _ _ _ _).run _=_
    refine ae (a:=az (a*(b%W^(k+1))) (nl a+nl b)) ?_ (ag rfl)
    unfold vZ
    rw [aR la,cq hb,rI,hs]
    simp only [qr,pM,ma]
    rw [dW,ay,ay]
    exact dF (ag (ag (ag (ag (ag (bT (aI la) (au (ag (ag rfl)))))))))
  · unfold CU
    rw [IT hab (by omega),if_neg (by omega)]
    exact Wp (Wq rfl) (VF (au rfl))
end Go.Plb.Seat
