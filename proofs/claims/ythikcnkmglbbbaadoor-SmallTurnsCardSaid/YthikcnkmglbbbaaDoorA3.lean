/-
  Part 3 of what the claim leans on: an evaluator of the model, proved sound; the contracts of the functions.
-/
import Derived.Test.YthikcnkmglbbbaaDoorA2
namespace Go.Plb.Seat
open Go Go.Plb
set_option linter.unusedVariables false
set_option maxRecDepth 100000
noncomputable section
inductive bm where
  | r0 (a:Int)
def mE:bm→AE×aE
  | .r0 a=>(.ret,⟨ak 14 [(2,.int .i64 a)],[],0⟩)
def eh:bm→gq
  | .r0 a=>⟨.int .i64 a,[]⟩
def fX(a:Int) :T ((Empty)⊕(bm)) :=
  .ask (a==(0:Int))
    (.leaf (.inr (.r0 (64:Int))))
    (.need (decide ((0:Int)≤(58:Int)))<|.need (ik (Int.fdiv (IntKind.u64.wrap ((bv .and .u64 a (IntKind.u64.wrap ((0:Int)-a)))*(285870213051353865:Int))) (2^(min (Int.toNat (58:Int)) (IntKind.u64.bits)))) 64)<|.need (il (dY (dY 0 (AF (Int.toNat (Int.fdiv (IntKind.u64.wrap ((bv .and .u64 a (IntKind.u64.wrap ((0:Int)-a)))*(285870213051353865:Int))) (2^(min (Int.toNat (58:Int)) (IntKind.u64.bits))))) 1)) 0) (List.length aB))<|.leaf (.inr (.r0 (IntKind.i64.wrap (List.getD aB (dY (dY 0 (AF (Int.toNat (Int.fdiv (IntKind.u64.wrap ((bv .and .u64 a (IntKind.u64.wrap ((0:Int)-a)))*(285870213051353865:Int))) (2^(min (Int.toNat (58:Int)) (IntKind.u64.bits))))) 1)) 0) 0)))))
def bO(a:Int) :Option bm:=mr ((fX a).run)
theorem l8(a:Int){x:bm}(h:bO a=some x) :ae prog gr [] [.int .u64 a] (eh x) :=
  oh false eh mE h (bQ QX _ [⟨[],[],[2]⟩,⟨[],[],[2]⟩])
    (fun x=>by cases x with | r0 b=>exact mt [.int .i64 b])
def b8:Option bm→Bool
  | some _=>true
  | none=>false
def bV:Option bm→Int
  | some (.r0 x)=>x
  | _=>0
theorem l9{x:Option bm}(h:b8 x=true) :x=some (.r0 (bV x)):=by
  unfold b8 at h
  split at h<;>first | rfl | (cases h;done) | (rename_i y;cases y;rfl)
def gu:aD:=cy gr (.cons (.int .u64) .nil) fun t=>(fun q=>[⟨eh (.r0 (bV q)),[b8 q]⟩]) (bO t.1)
theorem kp:aM prog gu:=aR fun t=>(aS (fun h=>l8 t.1 (l9 h)) bj)
def gv:List aD:=gu::L6
theorem dE:aX prog (bc gv):=an kp QX
inductive bX where
  | r0 (a:Int) (b:Int)
def oH:bX→AE×aE
  | .r0 a b=>(.ret,⟨ak 51 [(4,.int .u64 a),(5,.int .u64 b)],[],0⟩)
theorem vu:lM oH:=by intro x;cases x<;>(intro h;cases h)
def jA:bX→gq
  | .r0 a b=>⟨.tup [.int .u64 a,.int .u64 b],[]⟩
def vv(a:Int)(b:Int) :Int×Int×Int×Int→aE:=fun (c,d,e,f)=>⟨ak 51 [(0,.int .u64 a),(1,.int .u64 b),(6,.int .u64 c),(7,.int .u64 d),(9,.int .u64 e),(11,.int .u64 f)],[],0⟩
def nA(a:Int)(b:Int) :T ((Int×Int×Int×Int)⊕(bX)) :=
  .need (decide ((0:Int)≤(32:Int)))<|.need (decide ((0:Int)≤(32:Int)))<|.need (decide ((0:Int)≤(32:Int)))<|.leaf (.inl ((bv .and .u64 a (4294967295:Int)),(Int.fdiv a (2^(min (Int.toNat (32:Int)) (IntKind.u64.bits)))),(Int.fdiv b (2^(min (Int.toNat (32:Int)) (IntKind.u64.bits)))),(IntKind.u64.wrap ((IntKind.u64.wrap ((Int.fdiv a (2^(min (Int.toNat (32:Int)) (IntKind.u64.bits))))*(bv .and .u64 b (4294967295:Int))))+(Int.fdiv (IntKind.u64.wrap ((bv .and .u64 a (4294967295:Int))*(bv .and .u64 b (4294967295:Int)))) (2^(min (Int.toNat (32:Int)) (IntKind.u64.bits))))))))
def i4(c:Int)(d:Int)(e:Int)(f:Int)(a:Int)(b:Int) :T ((Empty)⊕(bX)) :=
  .need (decide ((0:Int)≤(32:Int)))<|.need (decide ((0:Int)≤(32:Int)))<|.leaf (.inr (.r0 (IntKind.u64.wrap ((IntKind.u64.wrap ((IntKind.u64.wrap (f*a))+(Int.fdiv b (2^(min (Int.toNat (32:Int)) (IntKind.u64.bits))))))+(Int.fdiv (IntKind.u64.wrap ((bv .and .u64 b (4294967295:Int))+(IntKind.u64.wrap (e*a)))) (2^(min (Int.toNat (32:Int)) (IntKind.u64.bits)))))) (IntKind.u64.wrap (c*d))))
def cP(a:Int)(b:Int) :Option bX:=mr (aK ((nA a b).run) fun (c,d,e,f) =>
  (i4 a b c d e f).run)
theorem vw(a:Int)(b:Int){x:bX}(h:cP a b=some x) :ae prog oF [] [.int .u64 a,.int .u64 b] (jA x) :=
  oh false jA oH h (Sg.cut 7 vu (bQ dE (vv a b) [⟨[],[],[0,1,6,7,9,11]⟩]) (fun ⟨e,f,g,i⟩=>bQ dE _ [⟨[],[],[4,5]⟩]))
    (fun x=>by cases x with | r0 c d=>exact mt [.int .u64 c,.int .u64 d])
def eL:Option bX→Bool
  | some _=>true
  | none=>false
def eY:Option bX→Int
  | some (.r0 x _)=>x
  | _=>0
def df:Option bX→Int
  | some (.r0 _ x)=>x
  | _=>0
theorem vx{x:Option bX}(h:eL x=true) :x=some (.r0 (eY x) (df x)):=by
  unfold eL at h
  split at h<;>first | rfl | (cases h;done) | (rename_i y;cases y;rfl)
def oI:aD:=cy oF (.cons (.int .u64) (.cons (.int .u64) .nil)) fun t=>(fun q=>[⟨jA (.r0 (eY q) (df q)),[eL q]⟩]) (cP t.1 t.2.1)
theorem rU:aM prog oI:=aR fun t=>(aS (fun h=>vw t.1 t.2.1 (vx h)) bj)
def oJ:List aD:=oI::gv
theorem dW:aX prog (bc oJ):=an rU dE
inductive dF where
  | r0 (a:List Int) (b:Nat)
def qn(a:Lv) :dF→AE×aE
  | .r0 b c=>(.ret,⟨ak 21 [(2,.imm a (.ns .u64 b) 1 1 0 c)],[],0⟩)
theorem oK{a:Lv} :lM (qn a):=by intro x;cases x<;>(intro h;cases h)
theorem Id{a:Lv}(id:Nat) :vo id (qn a):=by intro x;cases x<;>(intro h;cases h)
def vy(a:Lv) :dF→gq
  | .r0 b c=>⟨.imm a (.ns .u64 b) 1 1 0 c,[]⟩
def Ie:List Code:=fa (rp i0)
def If(b:Lv)(a:List Int)(_:Unit) :aE:=⟨ak 21 [(0,.imm b (.ns .u64 a) 1 1 0 (List.length a))],[],0⟩
def Ig:T ((Unit)⊕(dF)) :=
  .leaf (.inl ())
def rV(a:Lv)(b:List Int)(c:Nat) :aE:=⟨ak 21 [(0,.imm a (.ns .u64 b) 1 1 0 c)],[],0⟩
def yZ(a:Lv)(b:List Int)(c:Nat) :aE:=⟨ak 21 [(0,.imm a (.ns .u64 b) 1 1 0 c)],[],0⟩
def Gb:List Code:=fa (jv ((((Ie.drop 1).take 1)).headD .skip))
def Ih(a:Lv)(b:List Int)(c:Nat)(d:Bool) :aE:=⟨ak 21 [(0,.imm a (.ns .u64 b) 1 1 0 c),(14,.bool false d)],[],0⟩
def jB(b:List Int)(a:Nat) :T ((Bool)⊕((Nat)⊕(dF))) :=
  .ask (decide (((a:Nat):Int)>(0:Int)))
    (.need (fF .i64 (((a:Nat):Int)-(1:Int)))<|.need (ik (((a:Nat):Int)-(1:Int)) a)<|.need (il (Int.toNat (((a:Nat):Int)-(1:Int))) (List.length b))<|.leaf (.inl ((List.getD b (Int.toNat (((a:Nat):Int)-(1:Int))) 0)==(0:Int))))
    (.leaf (.inl false))
def wJ(a:Nat)(b:Bool) :T ((Nat)⊕((Nat)⊕(dF))) :=
  .ask b
    (.need (fF .i64 (((a:Nat):Int)-(1:Int)))<|.need (vZ (((a:Nat):Int)-(1:Int)) a)<|.need (vZ (0:Int) (Int.toNat (((a:Nat):Int)-(1:Int))))<|.leaf (.inl (Int.toNat (((a:Nat):Int)-(1:Int)))))
    (.leaf (.inr (.inl a)))
def qo(b:List Int) :Nat→Option ((Nat)⊕((Nat)⊕(dF))):=fun a =>
  aK ((jB b a).run) fun c =>
  (wJ a c).run
theorem Gc(a:Lv)(b:List Int)(c:Nat) :Sg prog [] Gb (rV a b c) (qo b c) (rV a b) (iv 0 (yZ a b) (qn a)):=by
  unfold qo;exact Sg.cut 1 (iw oK) (bQ dW (Ih a b c) [⟨[],[],[0,14]⟩,⟨[],[],[0,14]⟩]) (fun d=>bQ dW _ [⟨[],[],[0]⟩,⟨[],[],[0]⟩])
def Gd(a:List Int)(b:Nat) :T ((Empty)⊕(dF)) :=
  .leaf (.inr (.r0 a b))
def ag(a:List Int) :Option dF:=mr (aK ((Ig).run) fun _ =>
  aK (eK (qo a) (List.length a)) fun b =>
  (Gd a b).run)
theorem Ii(a:Lv)(b:List Int){x:dF}(h:ag b=some x) :ae prog i0 [] [.imm a (.ns .u64 b) 1 1 0 (List.length b)] (vy a x) :=
  oh false (vy a) (qn a) h (Sg.cut 1 oK (bQ dW (If a b) [⟨[],[],[0]⟩]) (fun _=>Sg.cut 1 oK (Oh ⟨[],[],[0]⟩ (rV a b) (yZ a b) 0 oK (Id _) (fun c=>Gc a b c)) (fun f=>bQ dW _ [⟨[],[],[2]⟩])))
    (fun x=>by cases x with | r0 d e=>exact mt [.imm a (.ns .u64 d) 1 1 0 e])
def be:Option dF→Bool
  | some _=>true
  | none=>false
def aw:Option dF→List Int
  | some (.r0 x _)=>x
  | _=>[]
def aj:Option dF→Nat
  | some (.r0 _ x)=>x
  | _=>0
theorem Ij{x:Option dF}(h:be x=true) :x=some (.r0 (aw x) (aj x)):=by
  unfold be at h
  split at h<;>first | rfl | (cases h;done) | (rename_i y;cases y;rfl)
def BB:aD:=cy i0 (.cons (.ns .u64) .nil) fun t=>(fun q=>[⟨vy t.1.1 (.r0 (aw q) (aj q)),[be q]⟩]) (ag t.1.2)
theorem Dn:aM prog BB:=aR fun t=>(aS (fun h=>Ii t.1.1 t.1.2 (Ij h)) bj)
def BC:List aD:=BB::oJ
theorem o9:aX prog (bc BC):=an Dn dW
inductive eN where
  | r0 (a:Nat) (b:Nat) (c:List Int)
def BD:eN→AE×aE
  | .r0 a b c=>(.ret,⟨ak 12 [(2,.sl 0 1 1 0 a a),(3,.int .i64 ((b:Nat):Int))],[(0,.ns .u64 c)],1⟩)
theorem Ik:lM BD:=by intro x;cases x<;>(intro h;cases h)
def vz:eN→gq
  | .r0 a b c=>⟨.tup [.imm .free (.ns .u64 c) 1 1 0 a,.int .i64 ((b:Nat):Int)],[]⟩
def Il(a:Lv) :Nat×(List Int)×Nat→aE:=fun (b,c,d)=>⟨ak 12 [(1,.ptr 0 1 0 0),(4,.int .i64 ((b:Nat):Int))],[(0,.vs [.imm a (.ns .u64 c) 1 1 0 d])],1⟩
def rW(a:List Int) :T ((Nat×(List Int)×Nat)⊕(eN)) :=
  .ask (decide ((0:Int)<(1:Int)))
    (.need (ik (0:Int) 1)<|.need (bg 0 (List.length a) a)<|.need (be (ag (aa 0 (List.length a) a)))<|.ask (decide ((((aj (ag (aa 0 (List.length a) a))):Nat):Int)>(4096:Int)))
      (.leaf (.inl (2,(aw (ag (aa 0 (List.length a) a))),(aj (ag (aa 0 (List.length a) a))))))
      (.need (fF .i64 (1:Int))<|.ask (decide ((1:Int)<(1:Int)))
        (.fail)
        (.leaf (.inl (0,(aw (ag (aa 0 (List.length a) a))),(aj (ag (aa 0 (List.length a) a))))))))
    (.fail)
def rX(c:Nat)(a:List Int)(b:Nat) :T ((Empty)⊕(eN)) :=
  .ask (((c:Nat):Int) != (0:Int))
    (.leaf (.inr (.r0 0 c ([]:List Int))))
    (.need (bg 0 b a)<|.need (eu (List.length (aa 0 b a)))<|.leaf (.inr (.r0 (List.length (aa 0 b a)) 0 (aa 0 b a))))
def dG(a:List Int) :Option eN:=mr (aK ((rW a).run) fun (b,c,d) =>
  (rX b c d).run)
theorem Im(b:Lv)(a:List Int){x:eN}(h:dG a=some x) :ae prog vm [] [.imm b (.ns .u64 a) 1 1 0 (List.length a)] (vz x) :=
  oh true vz BD h (Sg.cut 2 Ik (bQ o9 (Il b) [⟨[],[0],[1,4]⟩,⟨[],[0],[1,4]⟩]) (fun ⟨e,f,g⟩=>bQ o9 _ [⟨[(.slot 2,.own 1 1 (.ns .u64 ([]:List Int)))],[81],[2,3]⟩,⟨[],[49],[2,3]⟩]))
    (fun x=>by cases x with | r0 c d i=>exact mt [.sl 0 1 1 0 c c,.int .i64 ((d:Nat):Int)])
def gF:Option eN→Bool
  | some _=>true
  | none=>false
def kP:Option eN→Nat
  | some (.r0 x _ _)=>x
  | _=>0
def kQ:Option eN→Nat
  | some (.r0 _ x _)=>x
  | _=>0
def kR:Option eN→List Int
  | some (.r0 _ _ x)=>x
  | _=>[]
theorem In{x:Option eN}(h:gF x=true) :x=some (.r0 (kP x) (kQ x) (kR x)):=by
  unfold gF at h
  split at h<;>first | rfl | (cases h;done) | (rename_i y;cases y;rfl)
def BE:aD:=cy vm (.cons (.ns .u64) .nil) fun t=>(fun q=>[⟨vz (.r0 (kP q) (kQ q) (kR q)),[gF q]⟩]) (dG t.1.2)
theorem Do:aM prog BE:=aR fun t=>(aS (fun h=>Im t.1.1 t.1.2 (In h)) bj)
def BF:List aD:=BE::BC
theorem iz:aX prog (bc BF):=an Do o9
inductive bN where
  | r0 (a:Nat) (b:Nat) (c:Nat) (d:List Int)
def kS:bN→AE×aE
  | .r0 a b c d=>(.ret,⟨ak 21 [(2,.sl 0 1 1 a b c)],[(0,.ns .u64 d)],1⟩)
theorem jC:lM kS:=by intro x;cases x<;>(intro h;cases h)
theorem BG(id:Nat) :vo id kS:=by intro x;cases x<;>(intro h;cases h)
def pa:bN→gq
  | .r0 a b c d=>⟨.sl 0 1 1 a b c,[some (.ns .u64 d)]⟩
def BH:List Code:=fa (rp i0)
def BI(a:List Int)(b:Nat)(c:Nat)(d:Nat)(_:Unit) :aE:=⟨ak 21 [(0,.sl 0 1 1 b c d)],[(0,.ns .u64 a)],1⟩
def BJ:T ((Unit)⊕(bN)) :=
  .leaf (.inl ())
def nB(a:List Int)(b:Nat) :Nat×Nat→aE:=fun (c,d)=>⟨ak 21 [(0,.sl 0 1 1 c d b)],[(0,.ns .u64 a)],1⟩
def rY(a:List Int)(b:Nat) :Nat×Nat→aE:=fun (c,d)=>⟨ak 21 [(0,.sl 0 1 1 c d b)],[(0,.ns .u64 a)],1⟩
def zZ:List Code:=fa (jv ((((BH.drop 1).take 1)).headD .skip))
def BL(a:List Int)(b:Nat)(c:Nat)(d:Nat)(e:Bool) :aE:=⟨ak 21 [(0,.sl 0 1 1 c d b),(14,.bool false e)],[(0,.ns .u64 a)],1⟩
def fY(b:List Int)(c:Nat)(a:Nat) :T ((Bool)⊕((Nat×Nat)⊕(bN))) :=
  .ask (decide (((a:Nat):Int)>(0:Int)))
    (.need (fF .i64 (((a:Nat):Int)-(1:Int)))<|.need (ik (((a:Nat):Int)-(1:Int)) a)<|.need (il (dY c (Int.toNat (((a:Nat):Int)-(1:Int)))) (List.length b))<|.leaf (.inl ((List.getD b (dY c (Int.toNat (((a:Nat):Int)-(1:Int)))) 0)==(0:Int))))
    (.leaf (.inl false))
def rl(c:Nat)(b:Nat)(a:Nat)(d:Bool) :T ((Nat×Nat)⊕((Nat×Nat)⊕(bN))) :=
  .ask d
    (.need (fF .i64 (((a:Nat):Int)-(1:Int)))<|.need (vZ (((a:Nat):Int)-(1:Int)) c)<|.need (vZ (0:Int) (Int.toNat (((a:Nat):Int)-(1:Int))))<|.leaf (.inl ((dY b 0),(Int.toNat (((a:Nat):Int)-(1:Int))))))
    (.leaf (.inr (.inl (b,a))))
def mb(c:List Int)(d:Nat) :Nat×Nat→Option ((Nat×Nat)⊕((Nat×Nat)⊕(bN))):=fun (a,b) =>
  aK ((fY c a b).run) fun e =>
  (rl d a b e).run
theorem z4(a:List Int)(b:Nat)(c:Nat)(d:Nat) :Sg prog [.ns .u64 a] zZ (nB a b (c,d)) (mb a b (c,d)) (nB a b) (iv 0 (rY a b) kS):=by
  unfold mb;exact Sg.cut 1 (iw jC) (bQ iz (BL a b c d) [⟨[],[0],[0,14]⟩,⟨[],[0],[0,14]⟩]) (fun e=>bQ iz _ [⟨[],[0],[0]⟩,⟨[],[0],[0]⟩])
def z5(a:List Int)(b:Nat)(c:Nat)(d:Nat) :T ((Empty)⊕(bN)) :=
  .leaf (.inr (.r0 c d b a))
def aH(a:List Int)(c:Nat)(d:Nat)(b:Nat) :Option bN:=mr (aK ((BJ).run) fun _ =>
  aK (eK (mb a b) (c,d)) fun (e,f) =>
  (z5 a b e f).run)
theorem BM(a:List Int)(c:Nat)(d:Nat)(b:Nat){x:bN}(h:aH a c d b=some x) :ae prog i0 [.ns .u64 a] [.sl 0 1 1 c d b] (pa x) :=
  oh false pa kS h (Sg.cut 1 jC (bQ iz (BI a c d b) [⟨[],[0],[0]⟩]) (fun _=>Sg.cut 1 jC (Oh ⟨[],[0],[0]⟩ (nB a b) (rY a b) 0 jC (BG _) (fun ⟨e,f⟩=>z4 a b e f)) (fun ⟨k,l⟩=>bQ iz _ [⟨[],[0],[2]⟩])))
    (fun x=>by cases x with | r0 g i j m=>exact mt [.sl 0 1 1 g i j])
def dX:Option bN→Bool
  | some _=>true
  | none=>false
def dH:Option bN→Nat
  | some (.r0 x _ _ _)=>x
  | _=>0
def dI:Option bN→Nat
  | some (.r0 _ x _ _)=>x
  | _=>0
def dJ:Option bN→Nat
  | some (.r0 _ _ x _)=>x
  | _=>0
def dK:Option bN→List Int
  | some (.r0 _ _ _ x)=>x
  | _=>[]
theorem BN{x:Option bN}(h:dX x=true) :x=some (.r0 (dH x) (dI x) (dJ x) (dK x)):=by
  unfold dX at h
  split at h<;>first | rfl | (cases h;done) | (rename_i y;cases y;rfl)
def uv:aD:=HU i0 [.ns .u64] (.cons (.lsl 0) .nil) fun x t=>(fun q=>[⟨pa (.r0 (dH q) (dI q) (dJ q) (dK q)),[dX q]⟩]) (aH x.1 t.1.1 t.1.2.1 t.1.2.2)
theorem yh:aM prog uv:=Bo fun x t=>(tt (fun h=>BM x.1 t.1.1 t.1.2.1 t.1.2.2 (BN h)) Bp)
def uw:List aD:=uv::BF
theorem kq:aX prog (bc uw):=an yh iz
inductive fZ where
  | r0 (a:Nat) (b:Nat) (c:Nat) (d:List Int)
def Io:fZ→AE×aE
  | .r0 a b c d=>(.ret,⟨ak 6 [(2,.sl 0 1 1 a b c)],[(0,.ns .u64 d)],1⟩)
theorem NM:lM Io:=by intro x;cases x<;>(intro h;cases h)
def BO:fZ→gq
  | .r0 a b d c=>⟨.imm .free (.ns .u64 c) 1 1 a b,[]⟩
def NN:Nat×Nat×Nat×(List Int)→aE:=fun (a,b,c,d)=>⟨ak 6 [(2,.sl 0 1 1 a b c)],[(0,.ns .u64 d)],1⟩
def EE(a:Int) :T ((Nat×Nat×Nat×(List Int))⊕(fZ)) :=
  .need (dX (aH [a] 0 1 1))<|.leaf (.inl ((dH (aH [a] 0 1 1)),(dI (aH [a] 0 1 1)),(dJ (aH [a] 0 1 1)),(dK (aH [a] 0 1 1))))
def NO(a:Nat)(b:Nat)(c:Nat)(d:List Int) :T ((Empty)⊕(fZ)) :=
  .leaf (.inr (.r0 a b c d))
def aI(a:Int) :Option fZ:=mr (aK ((EE a).run) fun (b,c,d,e) =>
  (NO b c d e).run)
theorem NP(a:Int){x:fZ}(h:aI a=some x) :ae prog Br [] [.int .u64 a] (BO x) :=
  oh true BO Io h (Sg.cut 2 NM (bQ kq NN [⟨[],[32],[2]⟩]) (fun ⟨e,f,g,i⟩=>bQ kq _ [⟨[],[0],[2]⟩]))
    (fun x=>by cases x with | r0 b c d j=>exact mt [.sl 0 1 1 b c d])
def je:Option fZ→Bool
  | some _=>true
  | none=>false
def bE:Option fZ→Nat
  | some (.r0 x _ _ _)=>x
  | _=>0
def bF:Option fZ→Nat
  | some (.r0 _ x _ _)=>x
  | _=>0
def y6:Option fZ→Nat
  | some (.r0 _ _ x _)=>x
  | _=>0
def bG:Option fZ→List Int
  | some (.r0 _ _ _ x)=>x
  | _=>[]
theorem NQ{x:Option fZ}(h:je x=true) :x=some (.r0 (bE x) (bF x) (y6 x) (bG x)):=by
  unfold je at h
  split at h<;>first | rfl | (cases h;done) | (rename_i y;cases y;rfl)
def Ip:aD:=cy Br (.cons (.int .u64) .nil) fun t=>(fun q=>[⟨BO (.r0 (bE q) (bF q) (y6 q) (bG q)),[je q]⟩]) (aI t.1)
theorem Iq:aM prog Ip:=aR fun t=>(aS (fun h=>NP t.1 (NQ h)) bj)
def Ir:List aD:=Ip::uw
theorem oL:aX prog (bc Ir):=an Iq kq
inductive fu where
  | r0 (a:Int)
def tG:fu→AE×aE
  | .r0 a=>(.ret,⟨ak 45 [(4,.int .i64 a)],[],0⟩)
theorem vA:lM tG:=by intro x;cases x<;>(intro h;cases h)
theorem KW(id:Nat) :vo id tG:=by intro x;cases x<;>(intro h;cases h)
def yi:fu→gq
  | .r0 a=>⟨.int .i64 a,[]⟩
def KX:List Code:=fa (rp ya)
def KY(c:Lv)(a:List Int)(d:Lv)(b:List Int)(e:Int) :aE:=⟨ak 45 [(0,.imm c (.ns .u64 a) 1 1 0 (List.length a)),(1,.imm d (.ns .u64 b) 1 1 0 (List.length b)),(5,.int .i64 e)],[],0⟩
def qp(a:List Int)(b:List Int) :T ((Int)⊕(fu)) :=
  .ask (decide ((((List.length a):Nat):Int)<(((List.length b):Nat):Int)))
    (.leaf (.inr (.r0 (-1:Int))))
    (.ask (decide ((((List.length a):Nat):Int)>(((List.length b):Nat):Int)))
      (.leaf (.inr (.r0 (1:Int))))
      (.need (fF .i64 ((((List.length a):Nat):Int)-(1:Int)))<|.leaf (.inl ((((List.length a):Nat):Int)-(1:Int)))))
def vB(c:Lv)(a:List Int)(d:Lv)(b:List Int)(e:Int) :aE:=⟨ak 45 [(0,.imm c (.ns .u64 a) 1 1 0 (List.length a)),(1,.imm d (.ns .u64 b) 1 1 0 (List.length b)),(5,.int .i64 e)],[],0⟩
def BP(_:Unit) :aE:=⟨ak 45 [],[],0⟩
def KZ:List Code:=fa (jv ((((KX.drop 3).take 1)).headD .skip))
def nC(b:List Int)(c:List Int)(a:Int) :T ((Int)⊕((Unit)⊕(fu))) :=
  .ask (decide (a≥(0:Int)))
    (.need (ik a (List.length b))<|.need (il (Int.toNat a) (List.length b))<|.need (ik a (List.length c))<|.need (il (Int.toNat a) (List.length c))<|.ask (decide ((List.getD b (Int.toNat a) 0)<(List.getD c (Int.toNat a) 0)))
      (.leaf (.inr (.inr (.r0 (-1:Int)))))
      (.need (ik a (List.length b))<|.need (il (Int.toNat a) (List.length b))<|.need (ik a (List.length c))<|.need (il (Int.toNat a) (List.length c))<|.ask (decide ((List.getD b (Int.toNat a) 0)>(List.getD c (Int.toNat a) 0)))
        (.leaf (.inr (.inr (.r0 (1:Int)))))
        (.need (fF .i64 (a-(1:Int)))<|.leaf (.inl (a-(1:Int))))))
    (.leaf (.inr (.inl ())))
def oM(a:List Int)(b:List Int) :Int→Option ((Int)⊕((Unit)⊕(fu))):=fun c =>
  (nC a b c).run
theorem Is(c:Lv)(a:List Int)(d:Lv)(b:List Int)(e:Int) :Sg prog [] KZ (vB c a d b e) (oM a b e) (vB c a d b) (iv 1 BP tG):=by
  unfold oM;exact bQ oL _ [⟨[],[],[4]⟩,⟨[],[],[4]⟩,⟨[],[],[0,1,5]⟩,⟨[],[],[]⟩]
def It:T ((Empty)⊕(fu)) :=
  .leaf (.inr (.r0 (0:Int)))
def kr(a:List Int)(b:List Int) :Option fu:=mr (aK ((qp a b).run) fun c =>
  aK (eK (oM a b) c) fun _ =>
  (It).run)
theorem K0(c:Lv)(a:List Int)(d:Lv)(b:List Int){x:fu}(h:kr a b=some x) :ae prog ya [] [.imm c (.ns .u64 a) 1 1 0 (List.length a),.imm d (.ns .u64 b) 1 1 0 (List.length b)] (yi x) :=
  oh false yi tG h (Sg.cut 3 vA (bQ oL (KY c a d b) [⟨[],[],[4]⟩,⟨[],[],[4]⟩,⟨[],[],[0,1,5]⟩]) (fun g=>Sg.cut 1 vA (Oh ⟨[],[],[0,1,5]⟩ (vB c a d b) (BP) 1 vA (KW _) (fun e=>Is c a d b e)) (fun _=>bQ oL _ [⟨[],[],[4]⟩])))
    (fun x=>by cases x with | r0 f=>exact mt [.int .i64 f])
def nD:Option fu→Bool
  | some _=>true
  | none=>false
def mF:Option fu→Int
  | some (.r0 x)=>x
  | _=>0
theorem K1{x:Option fu}(h:nD x=true) :x=some (.r0 (mF x)):=by
  unfold nD at h
  split at h<;>first | rfl | (cases h;done) | (rename_i y;cases y;rfl)
def EF:aD:=cy ya (.cons (.ns .u64) (.cons (.ns .u64) .nil)) fun t=>(fun q=>[⟨yi (.r0 (mF q)),[nD q]⟩]) (kr t.1.2 t.2.1.2)
theorem Ge:aM prog EF:=aR fun t=>(aS (fun h=>K0 t.1.1 t.1.2 t.2.1.1 t.2.1.2 (K1 h)) bj)
def EG:List aD:=EF::Ir
theorem mG:aX prog (bc EG):=an Ge oL
inductive fv where
  | r0 (a:Int) (b:Nat)
def EH:fv→AE×aE
  | .r0 a b=>(.ret,⟨ak 15 [(4,.int .i64 a),(5,.int .i64 ((b:Nat):Int))],[],0⟩)
theorem BQ:lM EH:=by intro x;cases x<;>(intro h;cases h)
def yj:fv→gq
  | .r0 a b=>⟨.tup [.int .i64 a,.int .i64 ((b:Nat):Int)],[]⟩
def K2(a:Lv)(b:Lv) :Nat×(List Int)×Nat×(List Int)×Nat→aE:=fun (c,d,e,f,g)=>⟨ak 15 [(2,.ptr 0 1 0 0),(3,.ptr 1 1 0 0),(6,.int .i64 ((c:Nat):Int))],[(0,.vs [.imm a (.ns .u64 d) 1 1 0 e]),(1,.vs [.imm b (.ns .u64 f) 1 1 0 g])],2⟩
def BS(a : List Int)(b : List Int) : T ((Nat × (List Int) × Nat × (List Int) × Nat) ⊕ (fv)) :=
  .ask (decide ((0:Int)<(2:Int)))
    (.need (ik (0:Int) 2)<|.need (bg 0 (List.length a) a)<|.need (be (ag (aa 0 (List.length a) a)))<|.ask (decide ((((aj (ag (aa 0 (List.length a) a))):Nat):Int)>(4096:Int)))
      (.leaf (.inl (2,(aw (ag (aa 0 (List.length a) a))),(aj (ag (aa 0 (List.length a) a))),b,(List.length b))))
      (.need (fF .i64 (1:Int))<|.ask (decide ((1:Int)<(2:Int)))
        (.need (ik (1:Int) 2)<|.need (bg 0 (List.length b) b)<|.need (be (ag (aa 0 (List.length b) b)))<|.ask (decide ((((aj (ag (aa 0 (List.length b) b))):Nat):Int)>(4096:Int)))
          (.leaf (.inl (2,(aw (ag (aa 0 (List.length a) a))),(aj (ag (aa 0 (List.length a) a))),(aw (ag (aa 0 (List.length b) b))),(aj (ag (aa 0 (List.length b) b))))))
          (.need (fF .i64 (2:Int))<|.ask (decide ((2:Int)<(2:Int)))
            (.fail)
            (.leaf (.inl (0,(aw (ag (aa 0 (List.length a) a))),(aj (ag (aa 0 (List.length a) a))),(aw (ag (aa 0 (List.length b) b))),(aj (ag (aa 0 (List.length b) b))))))))
        (.fail)))
    (.fail)
def K3(a:Int) :aE:=⟨ak 15 [(4,.int .i64 a),(5,.int .i64 (0:Int))],[],0⟩
def BT(e:Nat)(a:List Int)(b:Nat)(c:List Int)(d:Nat) :T ((Int)⊕(fv)) :=
  .ask (((e:Nat):Int) != (0:Int))
    (.leaf (.inr (.r0 (0:Int) e)))
    (.need (bg 0 b a)<|.need (bg 0 d c)<|.need (nD (kr (aa 0 b a) (aa 0 d c)))<|.leaf (.inl (mF (kr (aa 0 b a) (aa 0 d c)))))
def K4(a:Int) :T ((Empty)⊕(fv)) :=
  .leaf (.inr (.r0 a 0))
def kt(a:List Int)(b:List Int) :Option fv:=mr (aK ((BS a b).run) fun (c,d,e,f,g) =>
  aK ((BT c d e f g).run) fun h =>
  (K4 h).run)
theorem K5(c:Lv)(a:List Int)(d:Lv)(b:List Int){x:fv}(h:kt a b=some x) :ae prog x7 [] [.imm c (.ns .u64 a) 1 1 0 (List.length a),.imm d (.ns .u64 b) 1 1 0 (List.length b)] (yj x) :=
  oh true yj EH h (Sg.cut 2 BQ (bQ mG (K2 c d) [⟨[],[0,16],[2,3,6]⟩,⟨[],[0,16],[2,3,6]⟩,⟨[],[0,16],[2,3,6]⟩]) (fun ⟨g,i,j,k,l⟩=>Sg.cut 3 BQ (bQ mG K3 [⟨[],[],[4,5]⟩,⟨[],[],[4,5]⟩]) (fun m=>bQ mG _ [⟨[],[],[4,5]⟩])))
    (fun x=>by cases x with | r0 e f=>exact mt [.int .i64 e,.int .i64 ((f:Nat):Int)])
def nF:Option fv→Bool
  | some _=>true
  | none=>false
def mH:Option fv→Int
  | some (.r0 x _)=>x
  | _=>0
def wK:Option fv→Nat
  | some (.r0 _ x)=>x
  | _=>0
theorem K6{x:Option fv}(h:nF x=true) :x=some (.r0 (mH x) (wK x)):=by
  unfold nF at h
  split at h<;>first | rfl | (cases h;done) | (rename_i y;cases y;rfl)
def EI:aD:=cy x7 (.cons (.ns .u64) (.cons (.ns .u64) .nil)) fun t=>(fun q=>[⟨yj (.r0 (mH q) (wK q)),[nF q]⟩]) (kt t.1.2 t.2.1.2)
theorem Gf:aM prog EI:=aR fun t=>(aS (fun h=>K5 t.1.1 t.1.2 t.2.1.1 t.2.1.2 (K6 h)) bj)
def EJ:List aD:=EI::EG
theorem qq:aX prog (bc EJ):=an Gf mG
inductive db where
  | r0 (a:List Int)
  | r1 (b:Nat) (c:Nat) (d:Nat) (e:List Int)
def BU:db→AE×aE
  | .r0 a=>(.ret,⟨ak 10 [(2,.nsl),(3,.int .i64 (3:Int))],[(0,.ns .u64 a)],1⟩)
  | .r1 b c d e=>(.ret,⟨ak 10 [(2,.sl 0 1 1 b c d),(3,.int .i64 (0:Int))],[(0,.ns .u64 e)],1⟩)
theorem Iu:lM BU:=by intro x;cases x<;>(intro h;cases h)
def qr:db→gq
  | .r0 a=>⟨.tup [.nsl,.int .i64 (3:Int)],[some (.ns .u64 a)]⟩
  | .r1 b c d e=>⟨.tup [.sl 0 1 1 b c d,.int .i64 (0:Int)],[some (.ns .u64 e)]⟩
def Iv:Nat×Nat×Nat×(List Int)→aE:=fun (a,b,c,d)=>⟨ak 10 [(0,.sl 0 1 1 a b c)],[(0,.ns .u64 d)],1⟩
def y7(a:List Int)(b:Nat)(c:Nat)(d:Nat) :T ((Nat×Nat×Nat×(List Int))⊕(db)) :=
  .need (dX (aH a b c d))<|.leaf (.inl ((dH (aH a b c d)),(dI (aH a b c d)),(dJ (aH a b c d)),(dK (aH a b c d))))
def Iw(c:Nat)(a:Nat)(d:Nat)(b:List Int) :T ((Empty)⊕(db)) :=
  .ask (decide (((a:Nat):Int)>(4096:Int)))
    (.leaf (.inr (.r0 b)))
    (.leaf (.inr (.r1 c a d b)))
def dc(a:List Int)(b:Nat)(c:Nat)(d:Nat) :Option db:=mr (aK ((y7 a b c d).run) fun (e,f,g,h) =>
  (Iw e f g h).run)
theorem y8(a:List Int)(b:Nat)(c:Nat)(d:Nat){x:db}(h:dc a b c d=some x) :ae prog nu [.ns .u64 a] [.sl 0 1 1 b c d] (qr x) :=
  oh false qr BU h (Sg.cut 2 Iu (bQ qq Iv [⟨[],[0],[0]⟩]) (fun ⟨i,j,k,l⟩=>bQ qq _ [⟨[],[0],[2,3]⟩,⟨[],[0],[2,3]⟩]))
    (fun x=>by cases x with | r0 m=>exact mt [.nsl,.int .i64 (3:Int)] | r1 e f g n=>exact mt [.sl 0 1 1 e f g,.int .i64 (0:Int)])
def lN:Option db→Bool
  | some (.r0 _)=>true
  | _=>false
def ux:Option db→List Int
  | some (.r0 x)=>x
  | _=>[]
theorem Ix{x:Option db}(h:lN x=true) :x=some (.r0 (ux x)):=by
  unfold lN at h
  split at h<;>first | rfl | (cases h;done) | (rename_i y;cases y;rfl)
def lO:Option db→Bool
  | some (.r1 _ _ _ _)=>true
  | _=>false
def kT:Option db→Nat
  | some (.r1 x _ _ _)=>x
  | _=>0
def kU:Option db→Nat
  | some (.r1 _ x _ _)=>x
  | _=>0
def kV:Option db→Nat
  | some (.r1 _ _ x _)=>x
  | _=>0
def kW:Option db→List Int
  | some (.r1 _ _ _ x)=>x
  | _=>[]
theorem Iy{x:Option db}(h:lO x=true) :x=some (.r1 (kT x) (kU x) (kV x) (kW x)):=by
  unfold lO at h
  split at h<;>first | rfl | (cases h;done) | (rename_i y;cases y;rfl)
def BV:aD:=HU nu [.ns .u64] (.cons (.lsl 0) .nil) fun x t=>(fun q=>[⟨qr (.r0 (ux q)),[lN q]⟩,⟨qr (.r1 (kT q) (kU q) (kV q) (kW q)),[lO q]⟩]) (dc x.1 t.1.1 t.1.2.1 t.1.2.2)
theorem Dp:aM prog BV:=Bo fun x t=>(tt (fun h=>y8 x.1 t.1.1 t.1.2.1 t.1.2.2 (Ix h)) (tt (fun h=>y8 x.1 t.1.1 t.1.2.1 t.1.2.2 (Iy h)) Bp))
def BW:List aD:=BV::EJ
theorem ew:aX prog (bc BW):=an Dp qq
inductive cJ where
  | r0 (a:Nat) (b:Nat) (c:Nat) (d:Nat) (e:List Int)
def tH:cJ→AE×aE
  | .r0 a b c d e=>(.ret,⟨ak 62 [(4,.sl 0 1 1 a b c),(5,.int .i64 ((d:Nat):Int))],[(0,.ns .u64 e)],1⟩)
theorem i5:lM tH:=by intro x;cases x<;>(intro h;cases h)
theorem K7(id:Nat) :vo id tH:=by intro x;cases x<;>(intro h;cases h)
def yk:cJ→gq
  | .r0 a b e c d=>⟨.tup [.imm .free (.ns .u64 d) 1 1 a b,.int .i64 ((c:Nat):Int)],[]⟩
def Iz:List Code:=fa (rp tw)
def K8(a:Lv)(b:Lv) :Nat×(List Int)×Nat×(List Int)×Nat→aE:=fun (c,d,e,f,g)=>⟨ak 62 [(2,.ptr 0 1 0 0),(3,.ptr 1 1 0 0),(6,.int .i64 ((c:Nat):Int))],[(0,.vs [.imm a (.ns .u64 d) 1 1 0 e]),(1,.vs [.imm b (.ns .u64 f) 1 1 0 g])],2⟩
def y9(a : List Int)(b : List Int) : T ((Nat × (List Int) × Nat × (List Int) × Nat) ⊕ (cJ)) :=
  .ask (decide ((0:Int)<(2:Int)))
    (.need (ik (0:Int) 2)<|.need (bg 0 (List.length a) a)<|.need (be (ag (aa 0 (List.length a) a)))<|.ask (decide ((((aj (ag (aa 0 (List.length a) a))):Nat):Int)>(4096:Int)))
      (.leaf (.inl (2,(aw (ag (aa 0 (List.length a) a))),(aj (ag (aa 0 (List.length a) a))),b,(List.length b))))
      (.need (fF .i64 (1:Int))<|.ask (decide ((1:Int)<(2:Int)))
        (.need (ik (1:Int) 2)<|.need (bg 0 (List.length b) b)<|.need (be (ag (aa 0 (List.length b) b)))<|.ask (decide ((((aj (ag (aa 0 (List.length b) b))):Nat):Int)>(4096:Int)))
          (.leaf (.inl (2,(aw (ag (aa 0 (List.length a) a))),(aj (ag (aa 0 (List.length a) a))),(aw (ag (aa 0 (List.length b) b))),(aj (ag (aa 0 (List.length b) b))))))
          (.need (fF .i64 (2:Int))<|.ask (decide ((2:Int)<(2:Int)))
            (.fail)
            (.leaf (.inl (0,(aw (ag (aa 0 (List.length a) a))),(aj (ag (aa 0 (List.length a) a))),(aw (ag (aa 0 (List.length b) b))),(aj (ag (aa 0 (List.length b) b))))))))
        (.fail)))
    (.fail)
def K9:(List Int)×Nat×(List Int)×Nat→aE:=fun (a,b,c,d)=>⟨ak 62 [(2,.ptr 0 1 0 0),(3,.ptr 1 1 0 0)],[(0,.vs [.imm .lent (.ns .u64 a) 1 1 0 b]),(1,.vs [.imm .lent (.ns .u64 c) 1 1 0 d])],2⟩
def IA(c:Nat)(d:List Int)(a:Nat)(e:List Int)(b:Nat) :T (((List Int)×Nat×(List Int)×Nat)⊕(cJ)) :=
  .ask (((c:Nat):Int) != (0:Int))
    (.leaf (.inr (.r0 0 0 0 c ([]:List Int))))
    (.ask (decide (((a:Nat):Int)<((b:Nat):Int)))
      (.leaf (.inl (e,b,d,a)))
      (.leaf (.inl (d,a,e,b))))
def La(c:List Int)(a:Nat)(d:List Int)(e:Nat) :Nat×(List Int)→aE:=fun (b,f)=>⟨ak 62 [(2,.ptr 0 1 0 0),(3,.ptr 1 1 0 0),(7,.ptr 2 1 0 0),(8,.fn (.func oE) [] [.ptr 2 1 0 0]),(9,.sl 3 1 1 0 b b),(30,.int .i64 ((a:Nat):Int)),(31,.int .i64 (0:Int))],[(0,.vs [.imm .lent (.ns .u64 c) 1 1 0 a]),(1,.vs [.imm .lent (.ns .u64 d) 1 1 0 e]),(2,.vs [.int .u64 (0:Int)]),(3,.ns .u64 f)],4⟩
def rZ(a:Nat) :T ((Nat×(List Int))⊕(cJ)) :=
  .need (fF .i64 (((a+1):Nat):Int))<|.need (decide ((0:Int)≤(((a+1):Nat):Int)))<|.need (decide ((((a+1):Nat):Int)≤(((a+1):Nat):Int)))<|.need (decide ((8:Int)*(((a+1):Nat):Int)≤140737488355328))<|.need (fF .i64 (((a+1):Nat):Int))<|.leaf (.inl ((a+1),(List.replicate (a+1) (0:Int))))
def vC(c:List Int)(a:Nat)(d:List Int)(e:Nat)(b:Nat) :Nat×Nat×(List Int)→aE:=fun (f,g,h)=>⟨ak 62 [(2,.ptr 0 1 0 0),(3,.ptr 1 1 0 0),(7,.ptr 2 1 0 0),(8,.fn (.func oE) [] [.ptr 2 1 0 0]),(9,.sl 3 1 1 0 b b),(30,.int .i64 ((a:Nat):Int)),(31,.int .i64 ((f:Nat):Int))],[(0,.vs [.imm .lent (.ns .u64 c) 1 1 0 a]),(1,.vs [.imm .lent (.ns .u64 d) 1 1 0 e]),(2,.vs [.int .u64 ((g:Nat):Int)]),(3,.ns .u64 h)],4⟩
def BX(b:List Int)(c:Nat)(a:Nat) :Nat×(List Int)→aE:=fun (d,e)=>⟨ak 62 [(2,.ptr 0 1 0 0),(7,.ptr 1 1 0 0),(9,.sl 2 1 1 0 a a)],[(0,.vs [.imm .lent (.ns .u64 b) 1 1 0 c]),(1,.vs [.int .u64 ((d:Nat):Int)]),(2,.ns .u64 e)],3⟩
def IB:List Code:=fa (jv ((((((Iz.drop 2).drop 4).drop 4).take 1)).headD .skip))
def Lb(c:List Int)(a:Nat)(d:List Int)(e:Nat)(b:Nat)(f:Nat) :Nat×(List Int)→aE:=fun (g,h)=>⟨ak 62 [(2,.ptr 0 1 0 0),(3,.ptr 1 1 0 0),(7,.ptr 2 1 0 0),(8,.fn (.func oE) [] [.ptr 2 1 0 0]),(9,.sl 3 1 1 0 b b),(30,.int .i64 ((a:Nat):Int)),(31,.int .i64 ((f:Nat):Int))],[(0,.vs [.imm .lent (.ns .u64 c) 1 1 0 a]),(1,.vs [.imm .lent (.ns .u64 d) 1 1 0 e]),(2,.vs [.int .u64 ((g:Nat):Int)]),(3,.ns .u64 h)],4⟩
def r6(c:List Int)(e:Nat)(f:List Int)(g:Nat)(h:Nat)(a:Nat)(b:Nat)(d:List Int) :T ((Nat×(List Int))⊕((Nat×(List Int))⊕(cJ))) :=
  .ask (decide (((a:Nat):Int)<((e:Nat):Int)))
    (.ask (decide (((a:Nat):Int)<((g:Nat):Int)))
      (.need (ik ((a:Nat):Int) g)<|.need (il a (List.length f))<|.need (ik ((a:Nat):Int) e)<|.need (il a (List.length c))<|.need (pS b 1)<|.need (ik ((a:Nat):Int) h)<|.need (il a (List.length d))<|.leaf (.inl ((((Int.toNat (List.getD c a 0))+(Int.toNat (List.getD f a 0))+b)/18446744073709551616),(List.set d a (((((Int.toNat (List.getD c a 0))+(Int.toNat (List.getD f a 0))+b)%18446744073709551616):Nat):Int)))))
      (.need (ik ((a:Nat):Int) e)<|.need (il a (List.length c))<|.need (pS b 1)<|.need (ik ((a:Nat):Int) h)<|.need (il a (List.length d))<|.leaf (.inl ((((Int.toNat (List.getD c a 0))+0+b)/18446744073709551616),(List.set d a (((((Int.toNat (List.getD c a 0))+0+b)%18446744073709551616):Nat):Int))))))
    (.leaf (.inr (.inl (b,d))))
def IC(a:Nat)(b:Nat)(c:List Int) :T ((Nat×Nat×(List Int))⊕((Nat×(List Int))⊕(cJ))) :=
  .need (fF .i64 (((a+1):Nat):Int))<|.leaf (.inl ((a+1),b,c))
def lP(b:List Int)(c:Nat)(d:List Int)(e:Nat)(f:Nat) :Nat×Nat×(List Int)→Option ((Nat×Nat×(List Int))⊕((Nat×(List Int))⊕(cJ))):=fun (a,g,h) =>
  aK ((r6 b c d e f a g h).run) fun (i,j) =>
  (IC a i j).run
theorem ID(a:List Int)(b:Nat)(d:List Int)(e:Nat)(c:Nat)(f:Nat)(g:Nat)(h:List Int) :Sg prog [] IB (vC a b d e c (f,g,h)) (lP a b d e c (f,g,h)) (vC a b d e c) (iv 0 (BX a b c) tH):=by
  unfold lP;exact Sg.cut 3 (iw i5) (bQ ew (Lb a b d e c f) [⟨[],[0,1,2,3],[2,3,7,8,9,30,31]⟩,⟨[],[0,1,2,3],[2,3,7,8,9,30,31]⟩,⟨[],[0,2,3],[2,7,9]⟩]) (fun ⟨i,j⟩=>bQ ew _ [⟨[],[0,1,2,3],[2,3,7,8,9,30,31]⟩])
def IE:Nat×Nat×Nat×Nat×(List Int)→aE:=fun (a,b,c,d,e)=>⟨ak 62 [(4,.sl 0 1 1 a b c),(5,.int .i64 ((d:Nat):Int))],[(0,.ns .u64 e)],1⟩
def r7(b:Nat)(a:Nat)(d:Nat)(c:List Int) :T ((Nat×Nat×Nat×Nat×(List Int))⊕(cJ)) :=
  .need (ik ((b:Nat):Int) a)<|.need (il b (List.length c))<|.alt 0
    (.need (lN (dc (List.set c b ((d:Nat):Int)) 0 a a))<|.leaf (.inl (0,0,0,3,([]:List Int))))
    (.alt 1
      (.need (lO (dc (List.set c b ((d:Nat):Int)) 0 a a))<|.leaf (.inl ((kT (dc (List.set c b ((d:Nat):Int)) 0 a a)),(kU (dc (List.set c b ((d:Nat):Int)) 0 a a)),(kV (dc (List.set c b ((d:Nat):Int)) 0 a a)),0,(kW (dc (List.set c b ((d:Nat):Int)) 0 a a)))))
      (.fail))
def za(a:Nat)(b:Nat)(c:Nat)(d:Nat)(e:List Int) :T ((Empty)⊕(cJ)) :=
  .leaf (.inr (.r0 a b c d e))
def aZ(c:List Int)(d:List Int) :Option cJ:=mr (aK ((y9 c d).run) fun (e,f,g,h,i) =>
  aK ((IA e f g h i).run) fun (j,a,k,l) =>
  aK ((rZ a).run) fun (b,m) =>
  aK (eK (lP j a k l b) (0,0,m)) fun (n,o) =>
  aK ((r7 a b n o).run) fun (p,q,r,s,t) =>
  (za p q r s t).run)
theorem Lc(i:Lv)(c:List Int)(j:Lv)(d:List Int){x:cJ}(h:aZ c d=some x) :ae prog tw [] [.imm i (.ns .u64 c) 1 1 0 (List.length c),.imm j (.ns .u64 d) 1 1 0 (List.length d)] (yk x) :=
  oh true yk tH h (Sg.cut 2 i5 (bQ ew (K8 i j) [⟨[],[0,16],[2,3,6]⟩,⟨[],[0,16],[2,3,6]⟩,⟨[],[0,16],[2,3,6]⟩]) (fun ⟨r,s,t,u,v⟩=>Sg.cut 4 i5 (bQ ew K9 [⟨[(.slot 4,.own 1 1 (.ns .u64 ([]:List Int)))],[82],[4,5]⟩,⟨[(.cell 0 0,.low),(.cell 1 0,.low)],[0,1],[2,3]⟩,⟨[(.cell 0 0,.low),(.cell 1 0,.low)],[0,1],[2,3]⟩]) (fun ⟨a,b,e,f⟩=>Sg.cut 4 i5 (bQ ew (La a b e f) [⟨[],[0,1,2,114],[2,3,7,8,9,30,31]⟩]) (fun ⟨g,w⟩=>Sg.cut 1 i5 (Oh ⟨[],[0,1,2,3],[2,3,7,8,9,30,31]⟩ (vC a b e f g) (BX a b g) 0 i5 (K7 _) (fun ⟨k,l,m⟩=>ID a b e f g k l m)) (fun ⟨y,z⟩=>Sg.cut 2 i5 (bQ ew IE [⟨[(.slot 4,.own 1 1 (.ns .u64 ([]:List Int)))],[195],[4,5]⟩,⟨[],[2],[4,5]⟩]) (fun ⟨A,B,C,D,E⟩=>bQ ew _ [⟨[],[0],[4,5]⟩]))))))
    (fun x=>by cases x with | r0 n o p q F=>exact mt [.sl 0 1 1 n o p,.int .i64 ((q:Nat):Int)])
def nG:Option cJ→Bool
  | some _=>true
  | none=>false
def dm:Option cJ→Nat
  | some (.r0 x _ _ _ _)=>x
  | _=>0
def dn:Option cJ→Nat
  | some (.r0 _ x _ _ _)=>x
  | _=>0
def wL:Option cJ→Nat
  | some (.r0 _ _ x _ _)=>x
  | _=>0
def dR:Option cJ→Nat
  | some (.r0 _ _ _ x _)=>x
  | _=>0
def dp:Option cJ→List Int
  | some (.r0 _ _ _ _ x)=>x
  | _=>[]
theorem Ld{x:Option cJ}(h:nG x=true) :x=some (.r0 (dm x) (dn x) (wL x) (dR x) (dp x)):=by
  unfold nG at h
  split at h<;>first | rfl | (cases h;done) | (rename_i y;cases y;rfl)
def EK:aD:=cy tw (.cons (.ns .u64) (.cons (.ns .u64) .nil)) fun t=>(fun q=>[⟨yk (.r0 (dm q) (dn q) (wL q) (dR q) (dp q)),[nG q]⟩]) (aZ t.1.2 t.2.1.2)
theorem Gg:aM prog EK:=aR fun t=>(aS (fun h=>Lc t.1.1 t.1.2 t.2.1.1 t.2.1.2 (Ld h)) bj)
def EL:List aD:=EK::BW
theorem g9:aX prog (bc EL):=an Gg ew
inductive dw where
  | r0 (a:Nat) (b:Nat) (c:Nat) (d:List Int)
def tI:dw→AE×aE
  | .r0 a b c d=>(.ret,⟨ak 40 [(4,.sl 0 1 1 a b c)],[(0,.ns .u64 d)],1⟩)
theorem nH:lM tI:=by intro x;cases x<;>(intro h;cases h)
theorem Le(id:Nat) :vo id tI:=by intro x;cases x<;>(intro h;cases h)
def yn:dw→gq
  | .r0 a b d c=>⟨.imm .free (.ns .u64 c) 1 1 a b,[]⟩
def IF:List Code:=fa (rp tA)
def Lf(d:Lv)(a:List Int)(e:Lv)(b:List Int) :Nat×(List Int)→aE:=fun (c,f)=>⟨ak 40 [(0,.imm d (.ns .u64 a) 1 1 0 (List.length a)),(1,.imm e (.ns .u64 b) 1 1 0 (List.length b)),(5,.sl 0 1 1 0 c c),(6,.int .u64 (0:Int)),(12,.int .i64 (((List.length a):Nat):Int)),(13,.int .i64 (0:Int))],[(0,.ns .u64 f)],1⟩
def zb(a:List Int) :T ((Nat×(List Int))⊕(dw)) :=
  .need (bg 0 (List.length a) a)<|.need (eu (List.length (aa 0 (List.length a) a)))<|.leaf (.inl ((List.length (aa 0 (List.length a) a)),(aa 0 (List.length a) a)))
def vD(d:Lv)(a:List Int)(e:Lv)(b:List Int)(c:Nat) :Int×Nat×(List Int)→aE:=fun (f,g,h)=>⟨ak 40 [(0,.imm d (.ns .u64 a) 1 1 0 (List.length a)),(1,.imm e (.ns .u64 b) 1 1 0 (List.length b)),(5,.sl 0 1 1 0 c c),(6,.int .u64 f),(12,.int .i64 (((List.length a):Nat):Int)),(13,.int .i64 ((g:Nat):Int))],[(0,.ns .u64 h)],1⟩
def BY(a:Nat)(b:(List Int)) :aE:=⟨ak 40 [(5,.sl 0 1 1 0 a a)],[(0,.ns .u64 b)],1⟩
def IG:List Code:=fa (jv ((((IF.drop 4).take 1)).headD .skip))
def Lg(d:Lv)(a:List Int)(e:Lv)(b:List Int)(c:Nat)(f:Nat) :Int×(List Int)→aE:=fun (g,h)=>⟨ak 40 [(0,.imm d (.ns .u64 a) 1 1 0 (List.length a)),(1,.imm e (.ns .u64 b) 1 1 0 (List.length b)),(5,.sl 0 1 1 0 c c),(6,.int .u64 g),(12,.int .i64 (((List.length a):Nat):Int)),(13,.int .i64 ((f:Nat):Int))],[(0,.ns .u64 h)],1⟩
def r8(b:List Int)(d:List Int)(f:Nat)(c:Int)(a:Nat)(e:List Int) :T ((Int×(List Int))⊕(((List Int))⊕(dw))) :=
  .ask (decide (((a:Nat):Int)<(((List.length b):Nat):Int)))
    (.ask (decide (((a:Nat):Int)<(((List.length d):Nat):Int)))
      (.need (ik ((a:Nat):Int) (List.length d))<|.need (il a (List.length d))<|.need (ik ((a:Nat):Int) (List.length b))<|.need (il a (List.length b))<|.need (pS (Int.toNat c) 1)<|.need (ik ((a:Nat):Int) f)<|.need (il a (List.length e))<|.leaf (.inl ((bif Nat.blt (Int.toNat (List.getD b a 0)) ((Int.toNat (List.getD d a 0))+(Int.toNat c)) then (1:Int) else (0:Int)),(List.set e a (((((Int.toNat (List.getD b a 0))+18446744073709551616-(Int.toNat (List.getD d a 0))-(Int.toNat c))%18446744073709551616):Nat):Int)))))
      (.need (ik ((a:Nat):Int) (List.length b))<|.need (il a (List.length b))<|.need (pS (Int.toNat c) 1)<|.need (ik ((a:Nat):Int) f)<|.need (il a (List.length e))<|.leaf (.inl ((bif Nat.blt (Int.toNat (List.getD b a 0)) (0+(Int.toNat c)) then (1:Int) else (0:Int)),(List.set e a (((((Int.toNat (List.getD b a 0))+18446744073709551616-0-(Int.toNat c))%18446744073709551616):Nat):Int))))))
    (.leaf (.inr (.inl e)))
def IH(a:Nat)(b:Int)(c:List Int) :T ((Int×Nat×(List Int))⊕(((List Int))⊕(dw))) :=
  .need (fF .i64 (((a+1):Nat):Int))<|.leaf (.inl (b,(a+1),c))
def r9(b:List Int)(c:List Int)(d:Nat) :Int×Nat×(List Int)→Option ((Int×Nat×(List Int))⊕(((List Int))⊕(dw))):=fun (e,a,f) =>
  aK ((r8 b c d e a f).run) fun (g,h) =>
  (IH a g h).run
theorem II(d:Lv)(b:List Int)(e:Lv)(c:List Int)(a:Nat)(g:Int)(f:Nat)(h:List Int) :Sg prog [] IG (vD d b e c a (g,f,h)) (r9 b c a (g,f,h)) (vD d b e c a) (iv 0 (BY a) tI):=by
  unfold r9;exact Sg.cut 3 (iw nH) (bQ g9 (Lg d b e c a f) [⟨[],[0],[0,1,5,6,12,13]⟩,⟨[],[0],[0,1,5,6,12,13]⟩,⟨[],[0],[5]⟩]) (fun ⟨i,j⟩=>bQ g9 _ [⟨[],[0],[0,1,5,6,12,13]⟩])
def IJ:Nat×Nat×Nat×(List Int)→aE:=fun (a,b,c,d)=>⟨ak 40 [(4,.sl 0 1 1 a b c)],[(0,.ns .u64 d)],1⟩
def zc(a:Nat)(b:List Int) :T ((Nat×Nat×Nat×(List Int))⊕(dw)) :=
  .need (dX (aH b 0 a a))<|.leaf (.inl ((dH (aH b 0 a a)),(dI (aH b 0 a a)),(dJ (aH b 0 a a)),(dK (aH b 0 a a))))
def IK(a:Nat)(b:Nat)(c:Nat)(d:List Int) :T ((Empty)⊕(dw)) :=
  .leaf (.inr (.r0 a b c d))
def ku(a:List Int)(c:List Int) :Option dw:=mr (aK ((zb a).run) fun (b,d) =>
  aK (eK (r9 a c b) ((0:Int),0,d)) fun e =>
  aK ((zc b e).run) fun (f,g,h,i) =>
  (IK f g h i).run)
theorem Lh(c:Lv)(a:List Int)(d:Lv)(b:List Int){x:dw}(h:ku a b=some x) :ae prog tA [] [.imm c (.ns .u64 a) 1 1 0 (List.length a),.imm d (.ns .u64 b) 1 1 0 (List.length b)] (yn x) :=
  oh true yn tI h (Sg.cut 4 nH (bQ g9 (Lf c a d b) [⟨[],[32],[0,1,5,6,12,13]⟩]) (fun ⟨e,m⟩=>Sg.cut 1 nH (Oh ⟨[],[0],[0,1,5,6,12,13]⟩ (vD c a d b e) (BY e) 0 nH (Le _) (fun ⟨f,g,i⟩=>II c a d b e f g i)) (fun n=>Sg.cut 1 nH (bQ g9 IJ [⟨[],[0],[4]⟩]) (fun ⟨o,p,q,r⟩=>bQ g9 _ [⟨[],[0],[4]⟩]))))
    (fun x=>by cases x with | r0 j k l s=>exact mt [.sl 0 1 1 j k l])
def qs:Option dw→Bool
  | some _=>true
  | none=>false
def qt:Option dw→Nat
  | some (.r0 x _ _ _)=>x
  | _=>0
def qu:Option dw→Nat
  | some (.r0 _ x _ _)=>x
  | _=>0
def wM:Option dw→Nat
  | some (.r0 _ _ x _)=>x
  | _=>0
def qv:Option dw→List Int
  | some (.r0 _ _ _ x)=>x
  | _=>[]
theorem Li{x:Option dw}(h:qs x=true) :x=some (.r0 (qt x) (qu x) (wM x) (qv x)):=by
  unfold qs at h
  split at h<;>first | rfl | (cases h;done) | (rename_i y;cases y;rfl)
def EM:aD:=cy tA (.cons (.ns .u64) (.cons (.ns .u64) .nil)) fun t=>(fun q=>[⟨yn (.r0 (qt q) (qu q) (wM q) (qv q)),[qs q]⟩]) (ku t.1.2 t.2.1.2)
theorem Gh:aM prog EM:=aR fun t=>(aS (fun h=>Lh t.1.1 t.1.2 t.2.1.1 t.2.1.2 (Li h)) bj)
def EN:List aD:=EM::EL
theorem jD:aX prog (bc EN):=an Gh g9
inductive d7 where
  | r0 (a:List Int) (b:Nat) (c:Nat) (d:Nat)
def EO:d7→AE×aE
  | .r0 a b c d=>(.ret,⟨ak 20 [(4,.imm .free (.ns .u64 a) 1 1 b c),(5,.int .i64 ((d:Nat):Int))],[],0⟩)
theorem vE:lM EO:=by intro x;cases x<;>(intro h;cases h)
def yo:d7→gq
  | .r0 a b c d=>⟨.tup [.imm .free (.ns .u64 a) 1 1 b c,.int .i64 ((d:Nat):Int)],[]⟩
def Lj(a:Lv)(b:Lv) :Nat×(List Int)×Nat×(List Int)×Nat→aE:=fun (c,d,e,f,g)=>⟨ak 20 [(2,.ptr 0 1 0 0),(3,.ptr 1 1 0 0),(6,.int .i64 ((c:Nat):Int))],[(0,.vs [.imm a (.ns .u64 d) 1 1 0 e]),(1,.vs [.imm b (.ns .u64 f) 1 1 0 g])],2⟩
def BZ(a : List Int)(b : List Int) : T ((Nat × (List Int) × Nat × (List Int) × Nat) ⊕ (d7)) :=
  .ask (decide ((0:Int)<(2:Int)))
    (.need (ik (0:Int) 2)<|.need (bg 0 (List.length a) a)<|.need (be (ag (aa 0 (List.length a) a)))<|.ask (decide ((((aj (ag (aa 0 (List.length a) a))):Nat):Int)>(4096:Int)))
      (.leaf (.inl (2,(aw (ag (aa 0 (List.length a) a))),(aj (ag (aa 0 (List.length a) a))),b,(List.length b))))
      (.need (fF .i64 (1:Int))<|.ask (decide ((1:Int)<(2:Int)))
        (.need (ik (1:Int) 2)<|.need (bg 0 (List.length b) b)<|.need (be (ag (aa 0 (List.length b) b)))<|.ask (decide ((((aj (ag (aa 0 (List.length b) b))):Nat):Int)>(4096:Int)))
          (.leaf (.inl (2,(aw (ag (aa 0 (List.length a) a))),(aj (ag (aa 0 (List.length a) a))),(aw (ag (aa 0 (List.length b) b))),(aj (ag (aa 0 (List.length b) b))))))
          (.need (fF .i64 (2:Int))<|.ask (decide ((2:Int)<(2:Int)))
            (.fail)
            (.leaf (.inl (0,(aw (ag (aa 0 (List.length a) a))),(aj (ag (aa 0 (List.length a) a))),(aw (ag (aa 0 (List.length b) b))),(aj (ag (aa 0 (List.length b) b))))))))
        (.fail)))
    (.fail)
def Lk(a:Lv)(b:Lv)(c:List Int)(d:Nat)(e:List Int)(f:Nat)(g:Bool) :aE:=⟨ak 20 [(2,.ptr 0 1 0 0),(3,.ptr 1 1 0 0),(16,.bool false g)],[(0,.vs [.imm a (.ns .u64 c) 1 1 0 d]),(1,.vs [.imm b (.ns .u64 e) 1 1 0 f])],2⟩
def B0(e:Nat)(a:List Int)(b:Nat)(c:List Int)(d:Nat) :T ((Bool)⊕(d7)) :=
  .ask (((e:Nat):Int) != (0:Int))
    (.leaf (.inl true))
    (.need (bg 0 b a)<|.need (bg 0 d c)<|.need (nD (kr (aa 0 b a) (aa 0 d c)))<|.leaf (.inl (decide ((mF (kr (aa 0 b a) (aa 0 d c)))<(0:Int)))))
def Ll:(List Int)×Nat×Nat→aE:=fun (a,b,c)=>⟨ak 20 [(4,.imm .free (.ns .u64 a) 1 1 b c),(5,.int .i64 (0:Int))],[],0⟩
def B1(a:List Int)(b:Nat)(c:List Int)(d:Nat)(e:Bool) :T (((List Int)×Nat×Nat)⊕(d7)) :=
  .ask e
    (.leaf (.inr (.r0 ([]:List Int) 0 0 2)))
    (.need (bg 0 b a)<|.need (bg 0 d c)<|.need (qs (ku (aa 0 b a) (aa 0 d c)))<|.leaf (.inl ((qv (ku (aa 0 b a) (aa 0 d c))),(qt (ku (aa 0 b a) (aa 0 d c))),(qu (ku (aa 0 b a) (aa 0 d c))))))
def Lm(a:List Int)(b:Nat)(c:Nat) :T ((Empty)⊕(d7)) :=
  .leaf (.inr (.r0 a b c 0))
def aN(e:List Int)(f:List Int) :Option d7:=mr (aK ((BZ e f).run) fun (g,a,b,c,d) =>
  aK ((B0 g a b c d).run) fun h =>
  aK ((B1 a b c d h).run) fun (i,j,k) =>
  (Lm i j k).run)
theorem Ln(a:Lv)(b:List Int)(c:Lv)(d:List Int){x:d7}(h:aN b d=some x) :ae prog x8 [] [.imm a (.ns .u64 b) 1 1 0 (List.length b),.imm c (.ns .u64 d) 1 1 0 (List.length d)] (yo x) :=
  oh true yo EO h (Sg.cut 2 vE (bQ jD (Lj a c) [⟨[],[0,16],[2,3,6]⟩,⟨[],[0,16],[2,3,6]⟩,⟨[],[0,16],[2,3,6]⟩]) (fun ⟨n,e,f,g,i⟩=>Sg.cut 1 vE (bQ jD (Lk a c e f g i) [⟨[],[0,1],[2,3,16]⟩,⟨[],[0,1],[2,3,16]⟩]) (fun o=>Sg.cut 2 vE (bQ jD Ll [⟨[(.slot 4,.fre 1 1 (.ns .u64 ([]:List Int)))],[],[4,5]⟩,⟨[],[],[4,5]⟩]) (fun ⟨p,q,r⟩=>bQ jD _ [⟨[],[],[4,5]⟩]))))
    (fun x=>by cases x with | r0 j k l m=>exact mt [.imm .free (.ns .u64 j) 1 1 k l,.int .i64 ((m:Nat):Int)])
def kv:Option d7→Bool
  | some _=>true
  | none=>false
def cX:Option d7→List Int
  | some (.r0 x _ _ _)=>x
  | _=>[]
def cY:Option d7→Nat
  | some (.r0 _ x _ _)=>x
  | _=>0
def cZ:Option d7→Nat
  | some (.r0 _ _ x _)=>x
  | _=>0
def dq:Option d7→Nat
  | some (.r0 _ _ _ x)=>x
  | _=>0
theorem Lo{x:Option d7}(h:kv x=true) :x=some (.r0 (cX x) (cY x) (cZ x) (dq x)):=by
  unfold kv at h
  split at h<;>first | rfl | (cases h;done) | (rename_i y;cases y;rfl)
def EP:aD:=cy x8 (.cons (.ns .u64) (.cons (.ns .u64) .nil)) fun t=>(fun q=>[⟨yo (.r0 (cX q) (cY q) (cZ q) (dq q)),[kv q]⟩]) (aN t.1.2 t.2.1.2)
theorem Gi:aM prog EP:=aR fun t=>(aS (fun h=>Ln t.1.1 t.1.2 t.2.1.1 t.2.1.2 (Lo h)) bj)
def EQ:List aD:=EP::EN
theorem jE:aX prog (bc EQ):=an Gi jD
inductive eG where
  | r0 (a:Int) (b:List Int)
def tJ:eG→AE×aE
  | .r0 a b=>(.ret,⟨ak 52 [(6,.int .u64 a)],[(0,.ns .u64 b)],1⟩)
theorem qw:lM tJ:=by intro x;cases x<;>(intro h;cases h)
theorem Lp(id:Nat) :vo id tJ:=by intro x;cases x<;>(intro h;cases h)
def yp:eG→gq
  | .r0 a b=>⟨.int .u64 a,[some (.ns .u64 b)]⟩
def IL:List Code:=fa (rp tx)
def Lq(b:List Int)(c:Nat)(d:Nat)(e:Nat)(f:Lv)(a:List Int)(g:Int)(_:Unit) :aE:=⟨ak 52 [(0,.sl 0 1 1 c d e),(1,.imm f (.ns .u64 a) 1 1 0 (List.length a)),(2,.int .u64 g),(7,.int .u64 (0:Int)),(13,.int .i64 (((List.length a):Nat):Int)),(14,.int .i64 (0:Int))],[(0,.ns .u64 b)],1⟩
def IM:T ((Unit)⊕(eG)) :=
  .leaf (.inl ())
def vF(b:Nat)(c:Nat)(d:Nat)(e:Lv)(a:List Int)(f:Int) :Int×Nat×(List Int)→aE:=fun (g,h,i)=>⟨ak 52 [(0,.sl 0 1 1 b c d),(1,.imm e (.ns .u64 a) 1 1 0 (List.length a)),(2,.int .u64 f),(7,.int .u64 g),(13,.int .i64 (((List.length a):Nat):Int)),(14,.int .i64 ((h:Nat):Int))],[(0,.ns .u64 i)],1⟩
def B2:Int×(List Int)→aE:=fun (a,b)=>⟨ak 52 [(7,.int .u64 a)],[(0,.ns .u64 b)],1⟩
def IN:List Code:=fa (jv ((((IL.drop 3).take 1)).headD .skip))
def Lr(b:Nat)(c:Nat)(d:Nat)(e:Lv)(a:List Int)(f:Int)(g:Nat) :Int×(List Int)→aE:=fun (h,i)=>⟨ak 52 [(0,.sl 0 1 1 b c d),(1,.imm e (.ns .u64 a) 1 1 0 (List.length a)),(2,.int .u64 f),(7,.int .u64 h),(13,.int .i64 (((List.length a):Nat):Int)),(14,.int .i64 ((g:Nat):Int))],[(0,.ns .u64 i)],1⟩
def lQ(d:Nat)(g:Nat)(b:List Int)(e:Int)(f:Int)(a:Nat)(c:List Int) :T ((Int×(List Int))⊕((Int×(List Int))⊕(eG))) :=
  .ask (decide (((a:Nat):Int)<(((List.length b):Nat):Int)))
    (.need (ik ((a:Nat):Int) (List.length b))<|.need (il a (List.length b))<|.need (eL (cP (List.getD b a 0) e))<|.need (pS 0 1)<|.need (ik ((a:Nat):Int) g)<|.need (il (dY d a) (List.length c))<|.need (pS 0 1)<|.need (ik ((a:Nat):Int) g)<|.need (il (dY d a) (List.length c))<|.leaf (.inl ((IntKind.u64.wrap ((IntKind.u64.wrap ((eY (cP (List.getD b a 0) e))+(((((Int.toNat (df (cP (List.getD b a 0) e)))+(Int.toNat f)+0)/18446744073709551616):Nat):Int)))+(((((Int.toNat (List.getD c (dY d a) 0))+(((Int.toNat (df (cP (List.getD b a 0) e)))+(Int.toNat f)+0)%18446744073709551616)+0)/18446744073709551616):Nat):Int))),(List.set c (dY d a) (((((Int.toNat (List.getD c (dY d a) 0))+(((Int.toNat (df (cP (List.getD b a 0) e)))+(Int.toNat f)+0)%18446744073709551616)+0)%18446744073709551616):Nat):Int)))))
    (.leaf (.inr (.inl (f,c))))
def IO(a:Nat)(b:Int)(c:List Int) :T ((Int×Nat×(List Int))⊕((Int×(List Int))⊕(eG))) :=
  .need (fF .i64 (((a+1):Nat):Int))<|.leaf (.inl (b,(a+1),c))
def sa(b:Nat)(c:Nat)(d:List Int)(e:Int) :Int×Nat×(List Int)→Option ((Int×Nat×(List Int))⊕((Int×(List Int))⊕(eG))):=fun (f,a,g) =>
  aK ((lQ b c d e f a g).run) fun (h,i) =>
  (IO a h i).run
theorem IP(j:List Int)(a:Nat)(b:Nat)(e:Nat)(f:Lv)(c:List Int)(d:Int)(h:Int)(g:Nat)(i:List Int) :Sg prog [.ns .u64 j] IN (vF a b e f c d (h,g,i)) (sa a b c d (h,g,i)) (vF a b e f c d) (iv 0 B2 tJ):=by
  unfold sa;exact Sg.cut 3 (iw qw) (bQ jE (Lr a b e f c d g) [⟨[],[0],[0,1,2,7,13,14]⟩,⟨[],[0],[7]⟩]) (fun ⟨k,l⟩=>bQ jE _ [⟨[],[0],[0,1,2,7,13,14]⟩])
def IQ(a:Int)(b:List Int) :T ((Empty)⊕(eG)) :=
  .leaf (.inr (.r0 a b))
def kw(a:List Int)(b:Nat)(c:Nat)(d:List Int)(e:Int) :Option eG:=mr (aK ((IM).run) fun _ =>
  aK (eK (sa b c d e) ((0:Int),0,a)) fun (f,g) =>
  (IQ f g).run)
theorem Ls(e:List Int)(b:Nat)(c:Nat)(f:Nat)(g:Lv)(a:List Int)(d:Int){x:eG}(h:kw e b c a d=some x) :ae prog tx [.ns .u64 e] [.sl 0 1 1 b c f,.imm g (.ns .u64 a) 1 1 0 (List.length a),.int .u64 d] (yp x) :=
  oh false yp tJ h (Sg.cut 3 qw (bQ jE (Lq e b c f g a d) [⟨[],[0],[0,1,2,7,13,14]⟩]) (fun _=>Sg.cut 1 qw (Oh ⟨[],[0],[0,1,2,7,13,14]⟩ (vF b c f g a d) (B2) 0 qw (Lp _) (fun ⟨i,j,k⟩=>IP e b c f g a d i j k)) (fun ⟨m,n⟩=>bQ jE _ [⟨[],[0],[6]⟩])))
    (fun x=>by cases x with | r0 l o=>exact mt [.int .u64 l])
def nI:Option eG→Bool
  | some _=>true
  | none=>false
def mI:Option eG→Int
  | some (.r0 x _)=>x
  | _=>0
def jF:Option eG→List Int
  | some (.r0 _ x)=>x
  | _=>[]
theorem Lt{x:Option eG}(h:nI x=true) :x=some (.r0 (mI x) (jF x)):=by
  unfold nI at h
  split at h<;>first | rfl | (cases h;done) | (rename_i y;cases y;rfl)
def ER:aD:=HU tx [.ns .u64] (.cons (.lsl 0) (.cons (.ns .u64) (.cons (.int .u64) .nil))) fun x t=>(fun q=>[⟨yp (.r0 (mI q) (jF q)),[nI q]⟩]) (kw x.1 t.1.1 t.1.2.1 t.2.1.2 t.2.2.1)
theorem Gj:aM prog ER:=Bo fun x t=>(tt (fun h=>Ls x.1 t.1.1 t.1.2.1 t.1.2.2 t.2.1.1 t.2.1.2 t.2.2.1 (Lt h)) Bp)
def ES:List aD:=ER::EQ
theorem eZ:aX prog (bc ES):=an Gj jE
inductive cK where
  | r0 (a:Nat) (b:Nat) (c:Nat) (d:Nat) (e:List Int)
def tK:cK→AE×aE
  | .r0 a b c d e=>(.ret,⟨ak 61 [(4,.sl 0 1 1 a b c),(5,.int .i64 ((d:Nat):Int))],[(0,.ns .u64 e)],1⟩)
theorem i6:lM tK:=by intro x;cases x<;>(intro h;cases h)
theorem Lu(id:Nat) :vo id tK:=by intro x;cases x<;>(intro h;cases h)
def yq:cK→gq
  | .r0 a b e c d=>⟨.tup [.imm .free (.ns .u64 d) 1 1 a b,.int .i64 ((c:Nat):Int)],[]⟩
def IR:List Code:=fa (rp tu)
def Lw(a:Lv)(b:Lv) :Nat×(List Int)×Nat×(List Int)×Nat→aE:=fun (c,d,e,f,g)=>⟨ak 61 [(2,.ptr 0 1 0 0),(3,.ptr 1 1 0 0),(6,.int .i64 ((c:Nat):Int))],[(0,.vs [.imm a (.ns .u64 d) 1 1 0 e]),(1,.vs [.imm b (.ns .u64 f) 1 1 0 g])],2⟩
def zd(a : List Int)(b : List Int) : T ((Nat × (List Int) × Nat × (List Int) × Nat) ⊕ (cK)) :=
  .ask (decide ((0:Int)<(2:Int)))
    (.need (ik (0:Int) 2)<|.need (bg 0 (List.length a) a)<|.need (be (ag (aa 0 (List.length a) a)))<|.ask (decide ((((aj (ag (aa 0 (List.length a) a))):Nat):Int)>(4096:Int)))
      (.leaf (.inl (2,(aw (ag (aa 0 (List.length a) a))),(aj (ag (aa 0 (List.length a) a))),b,(List.length b))))
      (.need (fF .i64 (1:Int))<|.ask (decide ((1:Int)<(2:Int)))
        (.need (ik (1:Int) 2)<|.need (bg 0 (List.length b) b)<|.need (be (ag (aa 0 (List.length b) b)))<|.ask (decide ((((aj (ag (aa 0 (List.length b) b))):Nat):Int)>(4096:Int)))
          (.leaf (.inl (2,(aw (ag (aa 0 (List.length a) a))),(aj (ag (aa 0 (List.length a) a))),(aw (ag (aa 0 (List.length b) b))),(aj (ag (aa 0 (List.length b) b))))))
          (.need (fF .i64 (2:Int))<|.ask (decide ((2:Int)<(2:Int)))
            (.fail)
            (.leaf (.inl (0,(aw (ag (aa 0 (List.length a) a))),(aj (ag (aa 0 (List.length a) a))),(aw (ag (aa 0 (List.length b) b))),(aj (ag (aa 0 (List.length b) b))))))))
        (.fail)))
    (.fail)
def Lx(a:Lv)(b:Lv)(c:List Int)(d:Nat)(e:List Int)(f:Nat)(g:Bool) :aE:=⟨ak 61 [(2,.ptr 0 1 0 0),(3,.ptr 1 1 0 0),(29,.bool false g)],[(0,.vs [.imm a (.ns .u64 c) 1 1 0 d]),(1,.vs [.imm b (.ns .u64 e) 1 1 0 f])],2⟩
def IS(c:Nat)(a:Nat)(b:Nat) :T ((Bool)⊕(cK)) :=
  .ask (((c:Nat):Int) != (0:Int))
    (.leaf (.inr (.r0 0 0 0 c ([]:List Int))))
    (.need (fF .i64 (((a+b):Nat):Int))<|.ask (decide ((((a+b):Nat):Int)>(4097:Int)))
      (.ask (decide (((a:Nat):Int)>(0:Int)))
        (.leaf (.inl (decide (((b:Nat):Int)>(0:Int)))))
        (.leaf (.inl false)))
      (.leaf (.inl false)))
def Ly(c:Lv)(d:Lv)(e:List Int)(f:Nat)(g:List Int)(a:Nat) :Nat×(List Int)→aE:=fun (b,h)=>⟨ak 61 [(2,.ptr 0 1 0 0),(3,.ptr 1 1 0 0),(7,.sl 2 1 1 0 b b),(37,.int .i64 ((a:Nat):Int)),(38,.int .i64 (0:Int))],[(0,.vs [.imm c (.ns .u64 e) 1 1 0 f]),(1,.vs [.imm d (.ns .u64 g) 1 1 0 a]),(2,.ns .u64 h)],3⟩
def ze(a:Nat)(b:Nat)(c:Bool) :T ((Nat×(List Int))⊕(cK)) :=
  .ask c
    (.leaf (.inr (.r0 0 0 0 3 ([]:List Int))))
    (.need (fF .i64 (((a+b):Nat):Int))<|.need (decide ((0:Int)≤(((a+b):Nat):Int)))<|.need (decide ((((a+b):Nat):Int)≤(((a+b):Nat):Int)))<|.need (decide ((8:Int)*(((a+b):Nat):Int)≤140737488355328))<|.need (fF .i64 (((a+b):Nat):Int))<|.leaf (.inl ((a+b),(List.replicate (a+b) (0:Int)))))
def vG(c:Lv)(d:Lv)(e:List Int)(f:Nat)(g:List Int)(a:Nat)(b:Nat) :Nat×(List Int)→aE:=fun (h,i)=>⟨ak 61 [(2,.ptr 0 1 0 0),(3,.ptr 1 1 0 0),(7,.sl 2 1 1 0 b b),(37,.int .i64 ((a:Nat):Int)),(38,.int .i64 ((h:Nat):Int))],[(0,.vs [.imm c (.ns .u64 e) 1 1 0 f]),(1,.vs [.imm d (.ns .u64 g) 1 1 0 a]),(2,.ns .u64 i)],3⟩
def B3(a:Nat)(b:(List Int)) :aE:=⟨ak 61 [(7,.sl 0 1 1 0 a a)],[(0,.ns .u64 b)],1⟩
def IT:List Code:=fa (jv ((((((IR.drop 2).drop 3).drop 3).take 1)).headD .skip))
def Lz(c:Lv)(d:Lv)(e:List Int)(f:Nat)(g:List Int)(a:Nat)(b:Nat)(h:Nat)(i:(List Int)) :aE:=⟨ak 61 [(2,.ptr 0 1 0 0),(3,.ptr 1 1 0 0),(7,.sl 2 1 1 0 b b),(37,.int .i64 ((a:Nat):Int)),(38,.int .i64 ((h:Nat):Int))],[(0,.vs [.imm c (.ns .u64 e) 1 1 0 f]),(1,.vs [.imm d (.ns .u64 g) 1 1 0 a]),(2,.ns .u64 i)],3⟩
def sd(d:List Int)(b:Nat)(e:List Int)(g:Nat)(c:Nat)(a:Nat)(f:List Int) :T (((List Int))⊕(((List Int))⊕(cK))) :=
  .ask (decide (((a:Nat):Int)<((g:Nat):Int)))
    (.need (fF .i64 (((a+b):Nat):Int))<|.need (vZ ((c:Nat):Int) c)<|.need (vZ ((a:Nat):Int) c)<|.need (ik ((a:Nat):Int) g)<|.need (il a (List.length e))<|.need (bg 0 b d)<|.need (nI (kw f a (c-a) (aa 0 b d) (List.getD e a 0)))<|.need (ik (((a+b):Nat):Int) c)<|.need (il (a+b) (List.length (jF (kw f a (c-a) (aa 0 b d) (List.getD e a 0)))))<|.leaf (.inl (List.set (jF (kw f a (c-a) (aa 0 b d) (List.getD e a 0))) (a+b) (mI (kw f a (c-a) (aa 0 b d) (List.getD e a 0))))))
    (.leaf (.inr (.inl f)))
def IU(a:Nat)(b:List Int) :T ((Nat×(List Int))⊕(((List Int))⊕(cK))) :=
  .need (fF .i64 (((a+1):Nat):Int))<|.leaf (.inl ((a+1),b))
def se(b:List Int)(c:Nat)(d:List Int)(e:Nat)(f:Nat) :Nat×(List Int)→Option ((Nat×(List Int))⊕(((List Int))⊕(cK))):=fun (a,g) =>
  aK ((sd b c d e f a g).run) fun h =>
  (IU a h).run
theorem IV(f:Lv)(g:Lv)(b:List Int)(c:Nat)(d:List Int)(e:Nat)(a:Nat)(h:Nat)(i:List Int) :Sg prog [] IT (vG f g b c d e a (h,i)) (se b c d e a (h,i)) (vG f g b c d e a) (iv 0 (B3 a) tK):=by
  unfold se;exact Sg.cut 3 (iw i6) (bQ eZ (Lz f g b c d e a h) [⟨[],[0,1,2],[2,3,7,37,38]⟩,⟨[],[2],[7]⟩]) (fun j=>bQ eZ _ [⟨[],[0,1,2],[2,3,7,37,38]⟩])
def IW:Nat×Nat×Nat×Nat×(List Int)→aE:=fun (a,b,c,d,e)=>⟨ak 61 [(4,.sl 0 1 1 a b c),(5,.int .i64 ((d:Nat):Int))],[(0,.ns .u64 e)],1⟩
def zf(a:Nat)(b:List Int) :T ((Nat×Nat×Nat×Nat×(List Int))⊕(cK)) :=
  .alt 0
    (.need (lN (dc b 0 a a))<|.leaf (.inl (0,0,0,3,([]:List Int))))
    (.alt 1
      (.need (lO (dc b 0 a a))<|.leaf (.inl ((kT (dc b 0 a a)),(kU (dc b 0 a a)),(kV (dc b 0 a a)),0,(kW (dc b 0 a a)))))
      (.fail))
def IX(a:Nat)(b:Nat)(c:Nat)(d:Nat)(e:List Int) :T ((Empty)⊕(cK)) :=
  .leaf (.inr (.r0 a b c d e))
def jf(d:List Int)(e:List Int) :Option cK:=mr (aK ((zd d e).run) fun (f,g,a,h,b) =>
  aK ((IS f a b).run) fun i =>
  aK ((ze a b i).run) fun (c,j) =>
  aK (eK (se g a h b c) (0,j)) fun k =>
  aK ((zf c k).run) fun (l,m,n,o,p) =>
  (IX l m n o p).run)
theorem LA(a:Lv)(g:List Int)(b:Lv)(i:List Int){x:cK}(h:jf g i=some x) :ae prog tu [] [.imm a (.ns .u64 g) 1 1 0 (List.length g),.imm b (.ns .u64 i) 1 1 0 (List.length i)] (yq x) :=
  oh true yq tK h (Sg.cut 2 i6 (bQ eZ (Lw a b) [⟨[],[0,16],[2,3,6]⟩,⟨[],[0,16],[2,3,6]⟩,⟨[],[0,16],[2,3,6]⟩]) (fun ⟨q,c,d,e,f⟩=>Sg.cut 3 i6 (bQ eZ (Lx a b c d e f) [⟨[(.slot 4,.own 1 1 (.ns .u64 ([]:List Int)))],[82],[4,5]⟩,⟨[],[0,1],[2,3,29]⟩,⟨[],[0,1],[2,3,29]⟩,⟨[],[0,1],[2,3,29]⟩]) (fun r=>Sg.cut 3 i6 (bQ eZ (Ly a b c d e f) [⟨[(.slot 4,.own 1 1 (.ns .u64 ([]:List Int)))],[34],[4,5]⟩,⟨[],[0,1,82],[2,3,7,37,38]⟩]) (fun ⟨j,s⟩=>Sg.cut 1 i6 (Oh ⟨[],[0,1,2],[2,3,7,37,38]⟩ (vG a b c d e f j) (B3 j) 0 i6 (Lu _) (fun ⟨k,l⟩=>IV a b c d e f j k l)) (fun t=>Sg.cut 1 i6 (bQ eZ IW [⟨[(.slot 4,.own 1 1 (.ns .u64 ([]:List Int)))],[97],[4,5]⟩,⟨[],[0],[4,5]⟩]) (fun ⟨u,v,w,y,z⟩=>bQ eZ _ [⟨[],[0],[4,5]⟩]))))))
    (fun x=>by cases x with | r0 m n o p A=>exact mt [.sl 0 1 1 m n o,.int .i64 ((p:Nat):Int)])
def qx:Option cK→Bool
  | some _=>true
  | none=>false
def qy:Option cK→Nat
  | some (.r0 x _ _ _ _)=>x
  | _=>0
def qz:Option cK→Nat
  | some (.r0 _ x _ _ _)=>x
  | _=>0
def wN:Option cK→Nat
  | some (.r0 _ _ x _ _)=>x
  | _=>0
def qA:Option cK→Nat
  | some (.r0 _ _ _ x _)=>x
  | _=>0
def qB:Option cK→List Int
  | some (.r0 _ _ _ _ x)=>x
  | _=>[]
theorem LB{x:Option cK}(h:qx x=true) :x=some (.r0 (qy x) (qz x) (wN x) (qA x) (qB x)):=by
  unfold qx at h
  split at h<;>first | rfl | (cases h;done) | (rename_i y;cases y;rfl)
def ET:aD:=cy tu (.cons (.ns .u64) (.cons (.ns .u64) .nil)) fun t=>(fun q=>[⟨yq (.r0 (qy q) (qz q) (wN q) (qA q) (qB q)),[qx q]⟩]) (jf t.1.2 t.2.1.2)
theorem Gk:aM prog ET:=aR fun t=>(aS (fun h=>LA t.1.1 t.1.2 t.2.1.1 t.2.1.2 (LB h)) bj)
def EU:List aD:=ET::ES
theorem hJ:aX prog (bc EU):=an Gk eZ
inductive dz where
  | r0 (a:Nat) (b:Nat) (c:Nat) (d:List Int)
def tL:dz→AE×aE
  | .r0 a b c d=>(.ret,⟨ak 59 [(4,.sl 0 1 1 a b c)],[(0,.ns .u64 d)],1⟩)
theorem nJ:lM tL:=by intro x;cases x<;>(intro h;cases h)
theorem LC(id:Nat) :vo id tL:=by intro x;cases x<;>(intro h;cases h)
def yr:dz→gq
  | .r0 a b d c=>⟨.imm .free (.ns .u64 c) 1 1 a b,[]⟩
def LD:List Code:=fa (rp tC)
def LE(c:Lv)(a:List Int) :Int×Int×Nat×(List Int)→aE:=fun (d,r2,b,e)=>⟨ak 59 [(0,.imm c (.ns .u64 a) 1 1 0 (List.length a)),(5,.int .i64 d),(6,.int .u64 r2),(7,.sl 0 1 1 0 b b),(24,.int .i64 (((List.length a):Nat):Int)),(25,.int .i64 (0:Int))],[(0,.ns .u64 e)],1⟩
def zg(b:List Int)(a:Int) :T ((Int×Int×Nat×(List Int))⊕(dz)) :=
  .ask ((((List.length b):Nat):Int)==(0:Int))
    (.leaf (.inr (.r0 0 0 0 ([]:List Int))))
    (.need ((64:Int) != (0:Int))<|.need (fF .i64 (Int.tdiv a (64:Int)))<|.need ((64:Int) != (0:Int))<|.need (fF .i64 ((((List.length b):Nat):Int)+(Int.tdiv a (64:Int))))<|.need (fF .i64 (((((List.length b):Nat):Int)+(Int.tdiv a (64:Int)))+(1:Int)))<|.need (decide ((0:Int)≤(((((List.length b):Nat):Int)+(Int.tdiv a (64:Int)))+(1:Int))))<|.need (decide ((((((List.length b):Nat):Int)+(Int.tdiv a (64:Int)))+(1:Int))≤(((((List.length b):Nat):Int)+(Int.tdiv a (64:Int)))+(1:Int))))<|.need (decide ((8:Int)*(((((List.length b):Nat):Int)+(Int.tdiv a (64:Int)))+(1:Int))≤140737488355328))<|.need (fF .i64 (((((List.length b):Nat):Int)+(Int.tdiv a (64:Int)))+(1:Int)))<|.leaf (.inl ((Int.tdiv a (64:Int)),(IntKind.u64.wrap (Int.tmod a (64:Int))),(Int.toNat (((((List.length b):Nat):Int)+(Int.tdiv a (64:Int)))+(1:Int))),(List.replicate (Int.toNat (((((List.length b):Nat):Int)+(Int.tdiv a (64:Int)))+(1:Int))) (0:Int)))))
def vH(c:Lv)(a:List Int)(d:Int)(r2:Int)(b:Nat) :Nat×(List Int)→aE:=fun (e,f)=>⟨ak 59 [(0,.imm c (.ns .u64 a) 1 1 0 (List.length a)),(5,.int .i64 d),(6,.int .u64 r2),(7,.sl 0 1 1 0 b b),(24,.int .i64 (((List.length a):Nat):Int)),(25,.int .i64 ((e:Nat):Int))],[(0,.ns .u64 f)],1⟩
def B4(a:Nat)(b:(List Int)) :aE:=⟨ak 59 [(7,.sl 0 1 1 0 a a)],[(0,.ns .u64 b)],1⟩
def IY:List Code:=fa (jv ((((LD.drop 6).take 1)).headD .skip))
def LF(c:Lv)(a:List Int)(d:Int)(r2:Int)(b:Nat)(e:Nat)(f:(List Int)) :aE:=⟨ak 59 [(0,.imm c (.ns .u64 a) 1 1 0 (List.length a)),(5,.int .i64 d),(6,.int .u64 r2),(7,.sl 0 1 1 0 b b),(24,.int .i64 (((List.length a):Nat):Int)),(25,.int .i64 ((e:Nat):Int))],[(0,.ns .u64 f)],1⟩
def oN(c:List Int)(b:Int)(r2:Int)(e:Nat)(a:Nat)(d:List Int) :T (((List Int))⊕(((List Int))⊕(dz))) :=
  .ask (decide (((a:Nat):Int)<(((List.length c):Nat):Int)))
    (.need (fF .i64 (((a:Nat):Int)+b))<|.need (ik (((a:Nat):Int)+b) e)<|.need (il (Int.toNat (((a:Nat):Int)+b)) (List.length d))<|.need (ik ((a:Nat):Int) (List.length c))<|.need (il a (List.length c))<|.need (decide ((0:Int)≤r2))<|.need (ik (((a:Nat):Int)+b) e)<|.need (il (Int.toNat (((a:Nat):Int)+b)) (List.length d))<|.need (fF .i64 (((a:Nat):Int)+b))<|.need (fF .i64 ((((a:Nat):Int)+b)+(1:Int)))<|.need (ik ((a:Nat):Int) (List.length c))<|.need (il a (List.length c))<|.need (decide ((0:Int)≤(1:Int)))<|.need (decide ((0:Int)≤(IntKind.u64.wrap ((63:Int)-r2))))<|.need (ik ((((a:Nat):Int)+b)+(1:Int)) e)<|.need (il (Int.toNat ((((a:Nat):Int)+b)+(1:Int))) (List.length (List.set d (Int.toNat (((a:Nat):Int)+b)) (bv .or .u64 (List.getD d (Int.toNat (((a:Nat):Int)+b)) 0) (IntKind.u64.wrap ((List.getD c a 0)*2^(min (Int.toNat r2) (IntKind.u64.bits))))))))<|.leaf (.inl (List.set (List.set d (Int.toNat (((a:Nat):Int)+b)) (bv .or .u64 (List.getD d (Int.toNat (((a:Nat):Int)+b)) 0) (IntKind.u64.wrap ((List.getD c a 0)*2^(min (Int.toNat r2) (IntKind.u64.bits)))))) (Int.toNat ((((a:Nat):Int)+b)+(1:Int))) (Int.fdiv (Int.fdiv (List.getD c a 0) (2^(min (Int.toNat (1:Int)) (IntKind.u64.bits)))) (2^(min (Int.toNat (IntKind.u64.wrap ((63:Int)-r2))) (IntKind.u64.bits)))))))
    (.leaf (.inr (.inl d)))
def IZ(a:Nat)(b:List Int) :T ((Nat×(List Int))⊕(((List Int))⊕(dz))) :=
  .need (fF .i64 (((a+1):Nat):Int))<|.leaf (.inl ((a+1),b))
def sf(b:List Int)(c:Int)(r2:Int)(d:Nat) :Nat×(List Int)→Option ((Nat×(List Int))⊕(((List Int))⊕(dz))):=fun (a,e) =>
  aK ((oN b c r2 d a e).run) fun f =>
  (IZ a f).run
theorem I0(d:Lv)(b:List Int)(c:Int)(r2:Int)(a:Nat)(e:Nat)(f:List Int) :Sg prog [] IY (vH d b c r2 a (e,f)) (sf b c r2 a (e,f)) (vH d b c r2 a) (iv 0 (B4 a) tL):=by
  unfold sf;exact Sg.cut 3 (iw nJ) (bQ hJ (LF d b c r2 a e) [⟨[],[0],[0,5,6,7,24,25]⟩,⟨[],[0],[7]⟩]) (fun g=>bQ hJ _ [⟨[],[0],[0,5,6,7,24,25]⟩])
def LG:Nat×Nat×Nat×(List Int)→aE:=fun (a,b,c,d)=>⟨ak 59 [(4,.sl 0 1 1 a b c)],[(0,.ns .u64 d)],1⟩
def zh(a:Nat)(b:List Int) :T ((Nat×Nat×Nat×(List Int))⊕(dz)) :=
  .need (dX (aH b 0 a a))<|.leaf (.inl ((dH (aH b 0 a a)),(dI (aH b 0 a a)),(dJ (aH b 0 a a)),(dK (aH b 0 a a))))
def I1(a:Nat)(b:Nat)(c:Nat)(d:List Int) :T ((Empty)⊕(dz)) :=
  .leaf (.inr (.r0 a b c d))
def cL(a:List Int)(c:Int) :Option dz:=mr (aK ((zg a c).run) fun (d,r2,b,e) =>
  aK (eK (sf a d r2 b) (0,e)) fun f =>
  aK ((zh b f).run) fun (g,h,i,j) =>
  (I1 g h i j).run)
theorem LH(b:Lv)(a:List Int)(d:Int){x:dz}(h:cL a d=some x) :ae prog tC [] [.imm b (.ns .u64 a) 1 1 0 (List.length a),.int .i64 d] (yr x) :=
  oh true yr tL h (Sg.cut 6 nJ (bQ hJ (LE b a) [⟨[(.slot 4,.own 1 1 (.ns .u64 ([]:List Int)))],[80],[4]⟩,⟨[],[256],[0,5,6,7,24,25]⟩]) (fun ⟨e,r2,c,l⟩=>Sg.cut 1 nJ (Oh ⟨[],[0],[0,5,6,7,24,25]⟩ (vH b a e r2 c) (B4 c) 0 nJ (LC _) (fun ⟨f,g⟩=>I0 b a e r2 c f g)) (fun m=>Sg.cut 1 nJ (bQ hJ LG [⟨[],[0],[4]⟩]) (fun ⟨n,o,p,q⟩=>bQ hJ _ [⟨[],[0],[4]⟩]))))
    (fun x=>by cases x with | r0 i j k r=>exact mt [.sl 0 1 1 i j k])
def nK:Option dz→Bool
  | some _=>true
  | none=>false
def e7:Option dz→Nat
  | some (.r0 x _ _ _)=>x
  | _=>0
def e8:Option dz→Nat
  | some (.r0 _ x _ _)=>x
  | _=>0
def wO:Option dz→Nat
  | some (.r0 _ _ x _)=>x
  | _=>0
def e9:Option dz→List Int
  | some (.r0 _ _ _ x)=>x
  | _=>[]
theorem LI{x:Option dz}(h:nK x=true) :x=some (.r0 (e7 x) (e8 x) (wO x) (e9 x)):=by
  unfold nK at h
  split at h<;>first | rfl | (cases h;done) | (rename_i y;cases y;rfl)
def EV:aD:=cy tC (.cons (.ns .u64) (.cons (.int .i64) .nil)) fun t=>(fun q=>[⟨yr (.r0 (e7 q) (e8 q) (wO q) (e9 q)),[nK q]⟩]) (cL t.1.2 t.2.1)
theorem Gl:aM prog EV:=aR fun t=>(aS (fun h=>LH t.1.1 t.1.2 t.2.1 (LI h)) bj)
def EW:List aD:=EV::EU
theorem qC:aX prog (bc EW):=an Gl hJ
inductive cT where
  | r0 (a:List Int) (b:Nat) (c:Nat)
def uy(a:Lv) :cT→AE×aE
  | .r0 b c d=>(.ret,⟨ak 10 [(2,.imm a (.ns .u64 b) 1 1 0 c),(3,.int .i64 ((d:Nat):Int))],[],0⟩)
theorem B5{a:Lv} :lM (uy a):=by intro x;cases x<;>(intro h;cases h)
def pb(a:Lv) :cT→gq
  | .r0 b c d=>⟨.tup [.imm a (.ns .u64 b) 1 1 0 c,.int .i64 ((d:Nat):Int)],[]⟩
def B6(a:Lv) :(List Int)×Nat→aE:=fun (b,c)=>⟨ak 10 [(0,.imm a (.ns .u64 b) 1 1 0 c)],[],0⟩
def sh(a:List Int) :T (((List Int)×Nat)⊕(cT)) :=
  .need (bg 0 (List.length a) a)<|.need (be (ag (aa 0 (List.length a) a)))<|.leaf (.inl ((aw (ag (aa 0 (List.length a) a))),(aj (ag (aa 0 (List.length a) a)))))
def B7(b:List Int)(a:Nat) :T ((Empty)⊕(cT)) :=
  .ask (decide (((a:Nat):Int)>(4096:Int)))
    (.leaf (.inr (.r0 ([]:List Int) 0 3)))
    (.leaf (.inr (.r0 b a 0)))
def fb(a:List Int) :Option cT:=mr (aK ((sh a).run) fun (b,c) =>
  (B7 b c).run)
theorem B8(a:Lv)(b:List Int){x:cT}(h:fb b=some x) :ae prog nu [] [.imm a (.ns .u64 b) 1 1 0 (List.length b)] (pb a x) :=
  oh false (pb a) (uy a) h (Sg.cut 2 B5 (bQ qC (B6 a) [⟨[],[],[0]⟩]) (fun ⟨f,g⟩=>bQ qC _ [⟨[(.slot 2,.fre 1 1 (.ns .u64 ([]:List Int))),(.slot 2,.lev a)],[],[2,3]⟩,⟨[],[],[2,3]⟩]))
    (fun x=>by cases x with | r0 c d e=>exact mt [.imm a (.ns .u64 c) 1 1 0 d,.int .i64 ((e:Nat):Int)])
def jG:Option cT→Bool
  | some _=>true
  | none=>false
def kx:Option cT→List Int
  | some (.r0 x _ _)=>x
  | _=>[]
def ky:Option cT→Nat
  | some (.r0 _ x _)=>x
  | _=>0
def kz:Option cT→Nat
  | some (.r0 _ _ x)=>x
  | _=>0
theorem B9{x:Option cT}(h:jG x=true) :x=some (.r0 (kx x) (ky x) (kz x)):=by
  unfold jG at h
  split at h<;>first | rfl | (cases h;done) | (rename_i y;cases y;rfl)
def uz:aD:=cy nu (.cons (.ns .u64) .nil) fun t=>(fun q=>[⟨pb t.1.1 (.r0 (kx q) (ky q) (kz q)),[jG q]⟩]) (fb t.1.2)
theorem yu:aM prog uz:=aR fun t=>(aS (fun h=>B8 t.1.1 t.1.2 (B9 h)) bj)
def uA:List aD:=uz::EW
theorem fw:aX prog (bc uA):=an yu qC
inductive eH where
  | r0 (a:List Int) (b:Nat) (c:Nat)
def EX:eH→AE×aE
  | .r0 a b c=>(.ret,⟨ak 30 [(4,.imm .free (.ns .u64 a) 1 1 0 b),(5,.int .i64 ((c:Nat):Int))],[],0⟩)
theorem vI:lM EX:=by intro x;cases x<;>(intro h;cases h)
def yv:eH→gq
  | .r0 a b c=>⟨.tup [.imm .free (.ns .u64 a) 1 1 0 b,.int .i64 ((c:Nat):Int)],[]⟩
def LJ(a:Lv)(b:Int) :Nat×(List Int)×Nat→aE:=fun (c,d,e)=>⟨ak 30 [(1,.int .i64 b),(2,.ptr 0 1 0 0),(6,.int .i64 ((c:Nat):Int))],[(0,.vs [.imm a (.ns .u64 d) 1 1 0 e])],1⟩
def Ca(a:List Int) :T ((Nat×(List Int)×Nat)⊕(eH)) :=
  .ask (decide ((0:Int)<(1:Int)))
    (.need (ik (0:Int) 1)<|.need (bg 0 (List.length a) a)<|.need (be (ag (aa 0 (List.length a) a)))<|.ask (decide ((((aj (ag (aa 0 (List.length a) a))):Nat):Int)>(4096:Int)))
      (.leaf (.inl (2,(aw (ag (aa 0 (List.length a) a))),(aj (ag (aa 0 (List.length a) a))))))
      (.need (fF .i64 (1:Int))<|.ask (decide ((1:Int)<(1:Int)))
        (.fail)
        (.leaf (.inl (0,(aw (ag (aa 0 (List.length a) a))),(aj (ag (aa 0 (List.length a) a))))))))
    (.fail)
def LK(a:Lv)(b:Int)(c:List Int)(d:Nat)(_:Unit) :aE:=⟨ak 30 [(1,.int .i64 b),(2,.ptr 0 1 0 0)],[(0,.vs [.imm a (.ns .u64 c) 1 1 0 d])],1⟩
def LL(a:Int)(b:Nat)(c:Nat) :T ((Unit)⊕(eH)) :=
  .ask (((b:Nat):Int) != (0:Int))
    (.leaf (.inr (.r0 ([]:List Int) 0 2)))
    (.ask (decide (a<(0:Int)))
      (.leaf (.inr (.r0 ([]:List Int) 0 2)))
      (.ask (decide (((c:Nat):Int)>(0:Int)))
        (.ask (decide (a≥(262144:Int)))
          (.leaf (.inr (.r0 ([]:List Int) 0 3)))
          (.leaf (.inl ())))
        (.leaf (.inl ()))))
def LM:(List Int)×Nat×Nat→aE:=fun (a,b,c)=>⟨ak 30 [(4,.imm .free (.ns .u64 a) 1 1 0 b),(5,.int .i64 ((c:Nat):Int))],[],0⟩
def vJ(c:Int)(a:List Int)(b:Nat) :T (((List Int)×Nat×Nat)⊕(eH)) :=
  .need (bg 0 b a)<|.need (nK (cL (aa 0 b a) c))<|.need (bg (e7 (cL (aa 0 b a) c)) (e8 (cL (aa 0 b a) c)) (e9 (cL (aa 0 b a) c)))<|.need (jG (fb (aa (e7 (cL (aa 0 b a) c)) (e8 (cL (aa 0 b a) c)) (e9 (cL (aa 0 b a) c)))))<|.leaf (.inl ((kx (fb (aa (e7 (cL (aa 0 b a) c)) (e8 (cL (aa 0 b a) c)) (e9 (cL (aa 0 b a) c))))),(ky (fb (aa (e7 (cL (aa 0 b a) c)) (e8 (cL (aa 0 b a) c)) (e9 (cL (aa 0 b a) c))))),(kz (fb (aa (e7 (cL (aa 0 b a) c)) (e8 (cL (aa 0 b a) c)) (e9 (cL (aa 0 b a) c)))))))
def LN(a:List Int)(b:Nat)(c:Nat) :T ((Empty)⊕(eH)) :=
  .leaf (.inr (.r0 a b c))
def dL(c:List Int)(a:Int) :Option eH:=mr (aK ((Ca c).run) fun (d,e,b) =>
  aK ((LL a d b).run) fun _ =>
  aK ((vJ a e b).run) fun (f,g,h) =>
  (LN f g h).run)
theorem LO(b:Lv)(c:List Int)(a:Int){x:eH}(h:dL c a=some x) :ae prog yc [] [.imm b (.ns .u64 c) 1 1 0 (List.length c),.int .i64 a] (yv x) :=
  oh true yv EX h (Sg.cut 2 vI (bQ fw (LJ b a) [⟨[],[0],[1,2,6]⟩,⟨[],[0],[1,2,6]⟩]) (fun ⟨j,d,e⟩=>Sg.cut 1 vI (bQ fw (LK b a d e) [⟨[(.slot 4,.fre 1 1 (.ns .u64 ([]:List Int)))],[],[4,5]⟩,⟨[(.slot 4,.fre 1 1 (.ns .u64 ([]:List Int)))],[],[4,5]⟩,⟨[(.slot 4,.fre 1 1 (.ns .u64 ([]:List Int)))],[],[4,5]⟩,⟨[],[0],[1,2]⟩,⟨[],[0],[1,2]⟩]) (fun _=>Sg.cut 1 vI (bQ fw LM [⟨[],[],[4,5]⟩]) (fun ⟨k,l,m⟩=>bQ fw _ [⟨[],[],[4,5]⟩]))))
    (fun x=>by cases x with | r0 f g i=>exact mt [.imm .free (.ns .u64 f) 1 1 0 g,.int .i64 ((i:Nat):Int)])
def kA:Option eH→Bool
  | some _=>true
  | none=>false
def ia:Option eH→List Int
  | some (.r0 x _ _)=>x
  | _=>[]
def ib:Option eH→Nat
  | some (.r0 _ x _)=>x
  | _=>0
def wP:Option eH→Nat
  | some (.r0 _ _ x)=>x
  | _=>0
theorem LP{x:Option eH}(h:kA x=true) :x=some (.r0 (ia x) (ib x) (wP x)):=by
  unfold kA at h
  split at h<;>first | rfl | (cases h;done) | (rename_i y;cases y;rfl)
def EY:aD:=cy yc (.cons (.ns .u64) (.cons (.int .i64) .nil)) fun t=>(fun q=>[⟨yv (.r0 (ia q) (ib q) (wP q)),[kA q]⟩]) (dL t.1.2 t.2.1)
theorem Gm:aM prog EY:=aR fun t=>(aS (fun h=>LO t.1.1 t.1.2 t.2.1 (LP h)) bj)
def EZ:List aD:=EY::uA
theorem ei:aX prog (bc EZ):=an Gm fw
inductive cj where
  | r0 (a:Nat) (b:Nat) (c:Nat) (d:Bool) (e:List Int)
def pQ:cj→AE×aE
  | .r0 a b c d e=>(.ret,⟨ak 97 [(4,.sl 0 1 1 a b c),(5,.bool false d)],[(0,.ns .u64 e)],1⟩)
theorem fM:lM pQ:=by intro x;cases x<;>(intro h;cases h)
theorem Cb(id:Nat) :vo id pQ:=by intro x;cases x<;>(intro h;cases h)
def yw:cj→gq
  | .r0 a b e c d=>⟨.tup [.imm .free (.ns .u64 d) 1 1 a b,.bool false c],[]⟩
def zi:List Code:=fa (rp tB)
def LQ(b:Lv)(a:List Int) :Int×Int×Bool×Nat×Nat→aE:=fun (c,r2,d,e,f)=>⟨ak 97 [(0,.imm b (.ns .u64 a) 1 1 0 (List.length a)),(6,.int .i64 c),(7,.int .u64 r2),(8,.bool false d),(36,.imm b (.ns .u64 a) 1 1 0 e),(37,.int .i64 ((f:Nat):Int)),(38,.int .i64 (0:Int))],[],0⟩
def si(b:List Int)(a:Int) :T ((Int×Int×Bool×Nat×Nat)⊕(cj)) :=
  .need ((64:Int) != (0:Int))<|.need (fF .i64 (Int.tdiv a (64:Int)))<|.need ((64:Int) != (0:Int))<|.ask (decide ((Int.tdiv a (64:Int))≥(((List.length b):Nat):Int)))
    (.leaf (.inr (.r0 0 0 0 (decide ((((List.length b):Nat):Int)>(0:Int))) ([]:List Int))))
    (.need (ik (Int.tdiv a (64:Int)) (List.length b))<|.need (il (Int.toNat (Int.tdiv a (64:Int))) (List.length b))<|.need (decide ((0:Int)≤(IntKind.u64.wrap (Int.tmod a (64:Int)))))<|.need (vZ (Int.tdiv a (64:Int)) (List.length b))<|.need (vZ (0:Int) (Int.toNat (Int.tdiv a (64:Int))))<|.leaf (.inl ((Int.tdiv a (64:Int)),(IntKind.u64.wrap (Int.tmod a (64:Int))),((bv .and .u64 (List.getD b (Int.toNat (Int.tdiv a (64:Int))) 0) (IntKind.u64.wrap ((IntKind.u64.wrap ((1:Int)*2^(min (Int.toNat (IntKind.u64.wrap (Int.tmod a (64:Int)))) (IntKind.u64.bits))))-(1:Int)))) != (0:Int)),(Int.toNat (Int.tdiv a (64:Int))),(Int.toNat (Int.tdiv a (64:Int))))))
def vK(b:Lv)(a:List Int)(c:Int)(r2:Int)(d:Nat)(e:Nat) :Bool×Nat→aE:=fun (f,g)=>⟨ak 97 [(0,.imm b (.ns .u64 a) 1 1 0 (List.length a)),(6,.int .i64 c),(7,.int .u64 r2),(8,.bool false f),(36,.imm b (.ns .u64 a) 1 1 0 d),(37,.int .i64 ((e:Nat):Int)),(38,.int .i64 ((g:Nat):Int))],[],0⟩
def Cc(b:Lv)(a:List Int)(c:Int)(r2:Int)(d:Bool) :aE:=⟨ak 97 [(0,.imm b (.ns .u64 a) 1 1 0 (List.length a)),(6,.int .i64 c),(7,.int .u64 r2),(8,.bool false d)],[],0⟩
def I2:List Code:=fa (jv ((((zi.drop 6).take 1)).headD .skip))
def LR(b:Lv)(a:List Int)(c:Int)(r2:Int)(d:Nat)(e:Nat)(f:Nat)(g:Bool) :aE:=⟨ak 97 [(0,.imm b (.ns .u64 a) 1 1 0 (List.length a)),(6,.int .i64 c),(7,.int .u64 r2),(8,.bool false g),(36,.imm b (.ns .u64 a) 1 1 0 d),(37,.int .i64 ((e:Nat):Int)),(38,.int .i64 ((f:Nat):Int))],[],0⟩
def oO(b:List Int)(d:Nat)(e:Nat)(c:Bool)(a:Nat) :T ((Bool)⊕((Bool)⊕(cj))) :=
  .ask (decide (((a:Nat):Int)<((e:Nat):Int)))
    (.need (ik ((a:Nat):Int) d)<|.need (il a (List.length b))<|.ask c
      (.leaf (.inl true))
      (.leaf (.inl ((List.getD b a 0) != (0:Int)))))
    (.leaf (.inr (.inl c)))
def I3(a:Nat)(b:Bool) :T ((Bool×Nat)⊕((Bool)⊕(cj))) :=
  .need (fF .i64 (((a+1):Nat):Int))<|.leaf (.inl (b,(a+1)))
def sj(b:List Int)(c:Nat)(d:Nat) :Bool×Nat→Option ((Bool×Nat)⊕((Bool)⊕(cj))):=fun (e,a) =>
  aK ((oO b c d e a).run) fun f =>
  (I3 a f).run
theorem I4(b:Lv)(a:List Int)(c:Int)(r2:Int)(d:Nat)(e:Nat)(g:Bool)(f:Nat) :Sg prog [] I2 (vK b a c r2 d e (g,f)) (sj a d e (g,f)) (vK b a c r2 d e) (iv 0 (Cc b a c r2) pQ):=by
  unfold sj;exact Sg.cut 3 (iw fM) (bQ ei (LR b a c r2 d e f) [⟨[],[],[0,6,7,8,36,37,38]⟩,⟨[],[],[0,6,7,8,36,37,38]⟩,⟨[],[],[0,6,7,8]⟩]) (fun h=>bQ ei _ [⟨[],[],[0,6,7,8,36,37,38]⟩])
def LS(c:Lv)(a:List Int)(d:Int)(r2:Int)(e:Bool) :Nat×Nat×(List Int)→aE:=fun (b,f,g)=>⟨ak 97 [(0,.imm c (.ns .u64 a) 1 1 0 (List.length a)),(6,.int .i64 d),(7,.int .u64 r2),(8,.bool false e),(11,.sl 0 1 1 0 b b),(54,.int .i64 ((f:Nat):Int)),(55,.int .i64 (0:Int))],[(0,.ns .u64 g)],1⟩
def sk(a:List Int)(b:Int) :T ((Nat×Nat×(List Int))⊕(cj)) :=
  .need (fF .i64 ((((List.length a):Nat):Int)-b))<|.need (decide ((0:Int)≤((((List.length a):Nat):Int)-b)))<|.need (decide (((((List.length a):Nat):Int)-b)≤((((List.length a):Nat):Int)-b)))<|.need (decide ((8:Int)*((((List.length a):Nat):Int)-b)≤140737488355328))<|.need (fF .i64 ((((List.length a):Nat):Int)-b))<|.leaf (.inl ((Int.toNat ((((List.length a):Nat):Int)-b)),(Int.toNat ((((List.length a):Nat):Int)-b)),(List.replicate (Int.toNat ((((List.length a):Nat):Int)-b)) (0:Int))))
def sn(c:Lv)(a:List Int)(d:Int)(r2:Int)(e:Bool)(b:Nat)(f:Nat) :Nat×(List Int)→aE:=fun (g,h)=>⟨ak 97 [(0,.imm c (.ns .u64 a) 1 1 0 (List.length a)),(6,.int .i64 d),(7,.int .u64 r2),(8,.bool false e),(11,.sl 0 1 1 0 b b),(54,.int .i64 ((f:Nat):Int)),(55,.int .i64 ((g:Nat):Int))],[(0,.ns .u64 h)],1⟩
def zj(b:Bool)(a:Nat)(c:(List Int)) :aE:=⟨ak 97 [(8,.bool false b),(11,.sl 0 1 1 0 a a)],[(0,.ns .u64 c)],1⟩
def I5:List Code:=fa (jv ((((((zi.drop 6).drop 1).drop 2).take 1)).headD .skip))
def I6(c:Lv)(a:List Int)(d:Int)(r2:Int)(e:Bool)(b:Nat)(f:Nat)(g:Nat)(h:(List Int)) :aE:=⟨ak 97 [(0,.imm c (.ns .u64 a) 1 1 0 (List.length a)),(6,.int .i64 d),(7,.int .u64 r2),(8,.bool false e),(11,.sl 0 1 1 0 b b),(54,.int .i64 ((f:Nat):Int)),(55,.int .i64 ((g:Nat):Int))],[(0,.ns .u64 h)],1⟩
def oP(c:List Int)(b:Int)(r2:Int)(e:Nat)(f:Nat)(a:Nat)(d:List Int) :T (((List Int))⊕(((List Int))⊕(cj))) :=
  .ask (decide (((a:Nat):Int)<((f:Nat):Int)))
    (.need (fF .i64 (((a:Nat):Int)+b))<|.need (ik (((a:Nat):Int)+b) (List.length c))<|.need (il (Int.toNat (((a:Nat):Int)+b)) (List.length c))<|.need (decide ((0:Int)≤r2))<|.need (ik ((a:Nat):Int) e)<|.need (il a (List.length d))<|.need (fF .i64 (((a:Nat):Int)+b))<|.need (fF .i64 ((((a:Nat):Int)+b)+(1:Int)))<|.ask (decide (((((a:Nat):Int)+b)+(1:Int))<(((List.length c):Nat):Int)))
      (.need (ik ((a:Nat):Int) e)<|.need (il a (List.length (List.set d a (Int.fdiv (List.getD c (Int.toNat (((a:Nat):Int)+b)) 0) (2^(min (Int.toNat r2) (IntKind.u64.bits)))))))<|.need (fF .i64 (((a:Nat):Int)+b))<|.need (fF .i64 ((((a:Nat):Int)+b)+(1:Int)))<|.need (ik ((((a:Nat):Int)+b)+(1:Int)) (List.length c))<|.need (il (Int.toNat ((((a:Nat):Int)+b)+(1:Int))) (List.length c))<|.need (decide ((0:Int)≤(1:Int)))<|.need (decide ((0:Int)≤(IntKind.u64.wrap ((63:Int)-r2))))<|.need (ik ((a:Nat):Int) e)<|.need (il a (List.length (List.set d a (Int.fdiv (List.getD c (Int.toNat (((a:Nat):Int)+b)) 0) (2^(min (Int.toNat r2) (IntKind.u64.bits)))))))<|.leaf (.inl (List.set (List.set d a (Int.fdiv (List.getD c (Int.toNat (((a:Nat):Int)+b)) 0) (2^(min (Int.toNat r2) (IntKind.u64.bits))))) a (bv .or .u64 (List.getD (List.set d a (Int.fdiv (List.getD c (Int.toNat (((a:Nat):Int)+b)) 0) (2^(min (Int.toNat r2) (IntKind.u64.bits))))) a 0) (IntKind.u64.wrap ((IntKind.u64.wrap ((List.getD c (Int.toNat ((((a:Nat):Int)+b)+(1:Int))) 0)*2^(min (Int.toNat (1:Int)) (IntKind.u64.bits))))*2^(min (Int.toNat (IntKind.u64.wrap ((63:Int)-r2))) (IntKind.u64.bits))))))))
      (.leaf (.inl (List.set d a (Int.fdiv (List.getD c (Int.toNat (((a:Nat):Int)+b)) 0) (2^(min (Int.toNat r2) (IntKind.u64.bits))))))))
    (.leaf (.inr (.inl d)))
def I7(a:Nat)(b:List Int) :T ((Nat×(List Int))⊕(((List Int))⊕(cj))) :=
  .need (fF .i64 (((a+1):Nat):Int))<|.leaf (.inl ((a+1),b))
def so(b:List Int)(c:Int)(r2:Int)(d:Nat)(e:Nat) :Nat×(List Int)→Option ((Nat×(List Int))⊕(((List Int))⊕(cj))):=fun (a,f) =>
  aK ((oP b c r2 d e a f).run) fun g =>
  (I7 a g).run
theorem I8(f:Lv)(b:List Int)(c:Int)(r2:Int)(d:Bool)(a:Nat)(e:Nat)(g:Nat)(h:List Int) :Sg prog [] I5 (sn f b c r2 d a e (g,h)) (so b c r2 a e (g,h)) (sn f b c r2 d a e) (iv 2 (zj d a) pQ):=by
  unfold so;exact Sg.cut 3 (iw fM) (bQ ei (I6 f b c r2 d a e g) [⟨[],[0],[0,6,7,8,11,54,55]⟩,⟨[],[0],[0,6,7,8,11,54,55]⟩,⟨[],[0],[8,11]⟩]) (fun i=>bQ ei _ [⟨[],[0],[0,6,7,8,11,54,55]⟩])
def I9(a:Bool) :Nat×Nat×Nat×(List Int)→aE:=fun (b,c,d,e)=>⟨ak 97 [(4,.sl 0 1 1 b c d),(5,.bool false a)],[(0,.ns .u64 e)],1⟩
def zk(a:Nat)(b:List Int) :T ((Nat×Nat×Nat×(List Int))⊕(cj)) :=
  .need (dX (aH b 0 a a))<|.leaf (.inl ((dH (aH b 0 a a)),(dI (aH b 0 a a)),(dJ (aH b 0 a a)),(dK (aH b 0 a a))))
def Ja(a:Bool)(b:Nat)(c:Nat)(d:Nat)(e:List Int) :T ((Empty)⊕(cj)) :=
  .leaf (.inr (.r0 b c d a e))
def jg(a:List Int)(d:Int) :Option cj:=mr (aK ((si a d).run) fun (b,r2,e,f,g) =>
  aK (eK (sj a f g) (e,0)) fun h =>
  aK ((sk a b).run) fun (c,i,j) =>
  aK (eK (so a b r2 c i) (0,j)) fun k =>
  aK ((zk c k).run) fun (l,m,n,o) =>
  (Ja h l m n o).run)
theorem LT(b:Lv)(a:List Int)(f:Int){x:cj}(h:jg a f=some x) :ae prog tB [] [.imm b (.ns .u64 a) 1 1 0 (List.length a),.int .i64 f] (yw x) :=
  oh true yw pQ h (Sg.cut 6 fM (bQ ei (LQ b a) [⟨[(.slot 4,.own 1 1 (.ns .u64 ([]:List Int)))],[288],[4,5]⟩,⟨[],[],[0,6,7,8,36,37,38]⟩]) (fun ⟨c,r2,s,g,i⟩=>Sg.cut 1 fM (Oh ⟨[],[],[0,6,7,8,36,37,38]⟩ (vK b a c r2 g i) (Cc b a c r2) 0 fM (Cb _) (fun ⟨k,l⟩=>I4 b a c r2 g i k l)) (fun d=>Sg.cut 2 fM (bQ ei (LS b a c r2 d) [⟨[],[64],[0,6,7,8,11,54,55]⟩]) (fun ⟨e,j,t⟩=>Sg.cut 1 fM (Oh ⟨[],[0],[0,6,7,8,11,54,55]⟩ (sn b a c r2 d e j) (zj d e) 2 fM (Cb _) (fun ⟨m,n⟩=>I8 b a c r2 d e j m n)) (fun u=>Sg.cut 1 fM (bQ ei (I9 d) [⟨[],[0],[4,5]⟩]) (fun ⟨v,w,y,z⟩=>bQ ei _ [⟨[],[0],[4,5]⟩]))))))
    (fun x=>by cases x with | r0 o p q r A=>exact mt [.sl 0 1 1 o p q,.bool false r])
def qD:Option cj→Bool
  | some _=>true
  | none=>false
def qE:Option cj→Nat
  | some (.r0 x _ _ _ _)=>x
  | _=>0
def qF:Option cj→Nat
  | some (.r0 _ x _ _ _)=>x
  | _=>0
def wQ:Option cj→Nat
  | some (.r0 _ _ x _ _)=>x
  | _=>0
def qG:Option cj→Bool
  | some (.r0 _ _ _ x _)=>x
  | _=>false
def qH:Option cj→List Int
  | some (.r0 _ _ _ _ x)=>x
  | _=>[]
theorem LU{x:Option cj}(h:qD x=true) :x=some (.r0 (qE x) (qF x) (wQ x) (qG x) (qH x)):=by
  unfold qD at h
  split at h<;>first | rfl | (cases h;done) | (rename_i y;cases y;rfl)
def E1:aD:=cy tB (.cons (.ns .u64) (.cons (.int .i64) .nil)) fun t=>(fun q=>[⟨yw (.r0 (qE q) (qF q) (wQ q) (qG q) (qH q)),[qD q]⟩]) (jg t.1.2 t.2.1)
theorem Gn:aM prog E1:=aR fun t=>(aS (fun h=>LT t.1.1 t.1.2 t.2.1 (LU h)) bj)
def E3:List aD:=E1::EZ
theorem jH:aX prog (bc E3):=an Gn ei
inductive dM where
  | r0 (a:List Int) (b:Nat) (c:Nat) (d:Bool) (e:Nat)
def E4:dM→AE×aE
  | .r0 a b c d e=>(.ret,⟨ak 23 [(4,.imm .free (.ns .u64 a) 1 1 b c),(5,.bool false d),(6,.int .i64 ((e:Nat):Int))],[],0⟩)
theorem vL:lM E4:=by intro x;cases x<;>(intro h;cases h)
def yx:dM→gq
  | .r0 a b c d e=>⟨.tup [.imm .free (.ns .u64 a) 1 1 b c,.bool false d,.int .i64 ((e:Nat):Int)],[]⟩
def LV(a:Lv)(b:Int) :Nat×(List Int)×Nat→aE:=fun (c,d,e)=>⟨ak 23 [(1,.int .i64 b),(2,.ptr 0 1 0 0),(6,.int .i64 ((c:Nat):Int))],[(0,.vs [.imm a (.ns .u64 d) 1 1 0 e])],1⟩
def Cd(a:List Int) :T ((Nat×(List Int)×Nat)⊕(dM)) :=
  .ask (decide ((0:Int)<(1:Int)))
    (.need (ik (0:Int) 1)<|.need (bg 0 (List.length a) a)<|.need (be (ag (aa 0 (List.length a) a)))<|.ask (decide ((((aj (ag (aa 0 (List.length a) a))):Nat):Int)>(4096:Int)))
      (.leaf (.inl (2,(aw (ag (aa 0 (List.length a) a))),(aj (ag (aa 0 (List.length a) a))))))
      (.need (fF .i64 (1:Int))<|.ask (decide ((1:Int)<(1:Int)))
        (.fail)
        (.leaf (.inl (0,(aw (ag (aa 0 (List.length a) a))),(aj (ag (aa 0 (List.length a) a))))))))
    (.fail)
def LW(a:Lv)(b:Int)(c:List Int)(d:Nat)(e:Bool) :aE:=⟨ak 23 [(1,.int .i64 b),(2,.ptr 0 1 0 0),(14,.bool false e)],[(0,.vs [.imm a (.ns .u64 c) 1 1 0 d])],1⟩
def LX(a:Int)(b:Nat) :T ((Bool)⊕(dM)) :=
  .ask (((b:Nat):Int) != (0:Int))
    (.leaf (.inl true))
    (.leaf (.inl (decide (a<(0:Int)))))
def LY:(List Int)×Nat×Nat×Bool→aE:=fun (a,b,c,d)=>⟨ak 23 [(4,.imm .free (.ns .u64 a) 1 1 b c),(5,.bool false d)],[],0⟩
def vM(c:Int)(a:List Int)(b:Nat)(d:Bool) :T (((List Int)×Nat×Nat×Bool)⊕(dM)) :=
  .ask d
    (.leaf (.inr (.r0 ([]:List Int) 0 0 false 2)))
    (.need (bg 0 b a)<|.need (qD (jg (aa 0 b a) c))<|.leaf (.inl ((qH (jg (aa 0 b a) c)),(qE (jg (aa 0 b a) c)),(qF (jg (aa 0 b a) c)),(qG (jg (aa 0 b a) c)))))
def LZ(a:List Int)(b:Nat)(c:Nat)(d:Bool) :T ((Empty)⊕(dM)) :=
  .leaf (.inr (.r0 a b c d 0))
def fA(b:List Int)(a:Int) :Option dM:=mr (aK ((Cd b).run) fun (c,d,e) =>
  aK ((LX a c).run) fun f =>
  aK ((vM a d e f).run) fun (g,h,i,j) =>
  (LZ g h i j).run)
theorem L0(b:Lv)(c:List Int)(a:Int){x:dM}(h:fA c a=some x) :ae prog x9 [] [.imm b (.ns .u64 c) 1 1 0 (List.length c),.int .i64 a] (yx x) :=
  oh true yx E4 h (Sg.cut 2 vL (bQ jH (LV b a) [⟨[],[0],[1,2,6]⟩,⟨[],[0],[1,2,6]⟩]) (fun ⟨l,d,e⟩=>Sg.cut 1 vL (bQ jH (LW b a d e) [⟨[],[0],[1,2,14]⟩,⟨[],[0],[1,2,14]⟩]) (fun m=>Sg.cut 2 vL (bQ jH LY [⟨[(.slot 4,.fre 1 1 (.ns .u64 ([]:List Int)))],[],[4,5,6]⟩,⟨[],[],[4,5]⟩]) (fun ⟨n,o,p,q⟩=>bQ jH _ [⟨[],[],[4,5,6]⟩]))))
    (fun x=>by cases x with | r0 f g i j k=>exact mt [.imm .free (.ns .u64 f) 1 1 g i,.bool false j,.int .i64 ((k:Nat):Int)])
def nL:Option dM→Bool
  | some _=>true
  | none=>false
def mJ:Option dM→List Int
  | some (.r0 x _ _ _ _)=>x
  | _=>[]
def mK:Option dM→Nat
  | some (.r0 _ x _ _ _)=>x
  | _=>0
def mL:Option dM→Nat
  | some (.r0 _ _ x _ _)=>x
  | _=>0
def wR:Option dM→Bool
  | some (.r0 _ _ _ x _)=>x
  | _=>false
def wS:Option dM→Nat
  | some (.r0 _ _ _ _ x)=>x
  | _=>0
theorem L4{x:Option dM}(h:nL x=true) :x=some (.r0 (mJ x) (mK x) (mL x) (wR x) (wS x)):=by
  unfold nL at h
  split at h<;>first | rfl | (cases h;done) | (rename_i y;cases y;rfl)
def E5:aD:=cy x9 (.cons (.ns .u64) (.cons (.int .i64) .nil)) fun t=>(fun q=>[⟨yx (.r0 (mJ q) (mK q) (mL q) (wR q) (wS q)),[nL q]⟩]) (fA t.1.2 t.2.1)
theorem Gp:aM prog E5:=aR fun t=>(aS (fun h=>L0 t.1.1 t.1.2 t.2.1 (L4 h)) bj)
def E6:List aD:=E5::E3
theorem fN:aX prog (bc E6):=an Gp jH
inductive cz where
  | r0 (a:Int) (b:Nat)
def oQ:cz→AE×aE
  | .r0 a b=>(.ret,⟨ak 31 [(2,.int .i64 a),(3,.int .i64 ((b:Nat):Int))],[],0⟩)
theorem ic:lM oQ:=by intro x;cases x<;>(intro h;cases h)
theorem Gq(id:Nat) :vo id oQ:=by intro x;cases x<;>(intro h;cases h)
def sq:cz→gq
  | .r0 a b=>⟨.tup [.int .i64 a,.int .i64 ((b:Nat):Int)],[]⟩
def Gr:List Code:=fa (rp oD)
def Gs(a:Lv) :Nat×(List Int)×Nat→aE:=fun (b,c,d)=>⟨ak 31 [(1,.ptr 0 1 0 0),(4,.int .i64 ((b:Nat):Int))],[(0,.vs [.imm a (.ns .u64 c) 1 1 0 d])],1⟩
def uB(a:List Int) :T ((Nat×(List Int)×Nat)⊕(cz)) :=
  .ask (decide ((0:Int)<(1:Int)))
    (.need (ik (0:Int) 1)<|.need (bg 0 (List.length a) a)<|.need (be (ag (aa 0 (List.length a) a)))<|.ask (decide ((((aj (ag (aa 0 (List.length a) a))):Nat):Int)>(4096:Int)))
      (.leaf (.inl (2,(aw (ag (aa 0 (List.length a) a))),(aj (ag (aa 0 (List.length a) a))))))
      (.need (fF .i64 (1:Int))<|.ask (decide ((1:Int)<(1:Int)))
        (.fail)
        (.leaf (.inl (0,(aw (ag (aa 0 (List.length a) a))),(aj (ag (aa 0 (List.length a) a))))))))
    (.fail)
def Gt(a:Lv)(b:Nat)(c:List Int)(d:Nat)(e:Bool) :aE:=⟨ak 31 [(1,.ptr 0 1 0 0),(4,.int .i64 ((b:Nat):Int)),(14,.bool false e)],[(0,.vs [.imm a (.ns .u64 c) 1 1 0 d])],1⟩
def Dq(a:Nat)(b:Nat) :T ((Bool)⊕(cz)) :=
  .ask (((a:Nat):Int) != (0:Int))
    (.leaf (.inl true))
    (.leaf (.inl (((b:Nat):Int)==(0:Int))))
def Gu(a:Lv)(b:List Int)(c:Nat)(_:Unit) :aE:=⟨ak 31 [(1,.ptr 0 1 0 0),(5,.int .i64 (0:Int))],[(0,.vs [.imm a (.ns .u64 b) 1 1 0 c])],1⟩
def Dr(a:Nat)(b:Bool) :T ((Unit)⊕(cz)) :=
  .ask b
    (.leaf (.inr (.r0 (0:Int) a)))
    (.leaf (.inl ()))
def qI(a:Lv)(b:List Int)(c:Nat)(d:Nat) :aE:=⟨ak 31 [(1,.ptr 0 1 0 0),(5,.int .i64 ((d:Nat):Int))],[(0,.vs [.imm a (.ns .u64 b) 1 1 0 c])],1⟩
def wT(a:Lv)(b:List Int)(c:Nat)(d:Nat) :aE:=⟨ak 31 [(1,.ptr 0 1 0 0),(5,.int .i64 ((d:Nat):Int))],[(0,.vs [.imm a (.ns .u64 b) 1 1 0 c])],1⟩
def Ds:List Code:=fa (jv ((((((Gr.drop 2).drop 1).drop 2).take 1)).headD .skip))
def iA(b:List Int)(c:Nat)(a:Nat) :T ((Nat)⊕((Nat)⊕(cz))) :=
  .need (ik ((a:Nat):Int) c)<|.need (il a (List.length b))<|.ask ((List.getD b a 0)==(0:Int))
    (.need (fF .i64 (((a+1):Nat):Int))<|.leaf (.inl (a+1)))
    (.leaf (.inr (.inl a)))
def pc(a:List Int)(b:Nat) :Nat→Option ((Nat)⊕((Nat)⊕(cz))):=fun c =>
  (iA a b c).run
theorem Dt(c:Lv)(a:List Int)(b:Nat)(d:Nat) :Sg prog [] Ds (qI c a b d) (pc a b d) (qI c a b) (iv 0 (wT c a b) oQ):=by
  unfold pc;exact bQ fN _ [⟨[],[0],[1,5]⟩,⟨[],[0],[1,5]⟩]
def Gv(a:Int) :aE:=⟨ak 31 [(2,.int .i64 a),(3,.int .i64 (0:Int))],[],0⟩
def uC(b:List Int)(c:Nat)(a:Nat) :T ((Int)⊕(cz)) :=
  .need (fF .i64 (((64*a):Nat):Int))<|.need (ik ((a:Nat):Int) c)<|.need (il a (List.length b))<|.need (b8 (bO (List.getD b a 0)))<|.need (fF .i64 ((((64*a):Nat):Int)+(bV (bO (List.getD b a 0)))))<|.leaf (.inl ((((64*a):Nat):Int)+(bV (bO (List.getD b a 0)))))
def Du(a:Int) :T ((Empty)⊕(cz)) :=
  .leaf (.inr (.r0 a 0))
def gG(d:List Int) :Option cz:=mr (aK ((uB d).run) fun (b,c,a) =>
  aK ((Dq b a).run) fun e =>
  aK ((Dr b e).run) fun _ =>
  aK (eK (pc c a) 0) fun f =>
  aK ((uC c a f).run) fun g =>
  (Du g).run)
theorem Gw(a:Lv)(d:List Int){x:cz}(h:gG d=some x) :ae prog oD [] [.imm a (.ns .u64 d) 1 1 0 (List.length d)] (sq x) :=
  oh true sq oQ h (Sg.cut 2 ic (bQ fN (Gs a) [⟨[],[0],[1,4]⟩,⟨[],[0],[1,4]⟩]) (fun ⟨e,b,c⟩=>Sg.cut 1 ic (bQ fN (Gt a e b c) [⟨[],[0],[1,4,14]⟩,⟨[],[0],[1,4,14]⟩]) (fun j=>Sg.cut 2 ic (bQ fN (Gu a b c) [⟨[],[],[2,3]⟩,⟨[],[0],[1,5]⟩]) (fun _=>Sg.cut 1 ic (Oh ⟨[],[0],[1,5]⟩ (qI a b c) (wT a b c) 0 ic (Gq _) (fun f=>Dt a b c f)) (fun k=>Sg.cut 1 ic (bQ fN Gv [⟨[],[],[2,3]⟩]) (fun l=>bQ fN _ [⟨[],[],[2,3]⟩]))))))
    (fun x=>by cases x with | r0 g i=>exact mt [.int .i64 g,.int .i64 ((i:Nat):Int)])
def jI:Option cz→Bool
  | some _=>true
  | none=>false
def jJ:Option cz→Int
  | some (.r0 x _)=>x
  | _=>0
def su:Option cz→Nat
  | some (.r0 _ x)=>x
  | _=>0
theorem Gx{x:Option cz}(h:jI x=true) :x=some (.r0 (jJ x) (su x)):=by
  unfold jI at h
  split at h<;>first | rfl | (cases h;done) | (rename_i y;cases y;rfl)
def zl:aD:=cy oD (.cons (.ns .u64) .nil) fun t=>(fun q=>[⟨sq (.r0 (jJ q) (su q)),[jI q]⟩]) (gG t.1.2)
theorem Ce:aM prog zl:=aR fun t=>(aS (fun h=>Gw t.1.1 t.1.2 (Gx h)) bj)
def zm:List aD:=zl::E6
theorem gH:aX prog (bc zm):=an Ce fN
inductive cB where
  | r0 (a:Bool) (b:List Int) (c:Nat) (d:Nat) (e:Int)
def zo:cB→AE×aE
  | .r0 a b c d e=>(.ret,⟨ak 37 [(2,.ptr 0 1 0 0)],[(0,.vs [.bool false a,.imm .free (.ns .u64 b) 1 1 c d,.int .i64 e])],1⟩)
theorem qJ:lM zo:=by intro x;cases x<;>(intro h;cases h)
def sw:cB→gq
  | .r0 a b c d e=>⟨.agg [.bool false a,.imm .free (.ns .u64 b) 1 1 c d,.int .i64 e],[]⟩
def Gy(b:Bool)(c:Lv)(a:List Int)(d:Int) :(List Int)×Nat×Bool→aE:=fun (e,f,g)=>⟨ak 37 [(1,.ptr 0 1 0 0),(2,.ptr 1 1 0 0),(3,.imm .free (.ns .u64 e) 1 1 0 f)],[(0,.vs [.bool false b,.imm c (.ns .u64 a) 1 1 0 (List.length a),.int .i64 d]),(1,.vs [.bool false g,.nsl,.int .i64 (0:Int)])],2⟩
def qK(a:List Int) :T (((List Int)×Nat×Bool)⊕(cB)) :=
  .need (bg 0 (List.length a) a)<|.need (gF (dG (aa 0 (List.length a) a)))<|.leaf (.inl ((kR (dG (aa 0 (List.length a) a))),(kP (dG (aa 0 (List.length a) a))),false))
def Gz(b:Bool)(c:Lv)(a:List Int)(d:Int)(e:List Int)(f:Nat)(g:Bool)(h:Int) :aE:=⟨ak 37 [(1,.ptr 0 1 0 0),(2,.ptr 1 1 0 0),(3,.imm .free (.ns .u64 e) 1 1 0 f),(5,.int .i64 h)],[(0,.vs [.bool false b,.imm c (.ns .u64 a) 1 1 0 (List.length a),.int .i64 d]),(1,.vs [.bool false g,.nsl,.int .i64 (0:Int)])],2⟩
def qL(b:List Int)(a:Nat) :T ((Int)⊕(cB)) :=
  .ask (((a:Nat):Int)==(0:Int))
    (.leaf (.inr (.r0 false ([]:List Int) 0 0 (0:Int))))
    (.need (bg 0 a b)<|.need (jI (gG (aa 0 a b)))<|.leaf (.inl (jJ (gG (aa 0 a b)))))
def GA(b:Bool)(c:Lv)(a:List Int)(d:Int)(e:Bool)(f:Int) :(List Int)×Nat×Nat→aE:=fun (g,h,i)=>⟨ak 37 [(1,.ptr 0 1 0 0),(2,.ptr 1 1 0 0),(3,.imm .free (.ns .u64 g) 1 1 h i),(5,.int .i64 f)],[(0,.vs [.bool false b,.imm c (.ns .u64 a) 1 1 0 (List.length a),.int .i64 d]),(1,.vs [.bool false e,.nsl,.int .i64 (0:Int)])],2⟩
def qM(a:List Int)(b:Nat)(c:Int) :T (((List Int)×Nat×Nat)⊕(cB)) :=
  .need (bg 0 b a)<|.need (nL (fA (aa 0 b a) c))<|.leaf (.inl ((mJ (fA (aa 0 b a) c)),(mK (fA (aa 0 b a) c)),(mL (fA (aa 0 b a) c))))
def GB(c:Bool)(a:Int)(b:Int)(d:List Int)(e:Nat)(f:Nat) :T ((Empty)⊕(cB)) :=
  .need (fF .i64 (a+b))<|.leaf (.inr (.r0 c d e f (a+b)))
def ai(d:Bool)(e:List Int)(f:Int) :Option cB:=mr (aK ((qK e).run) fun (a,b,j) =>
  aK ((qL a b).run) fun c =>
  aK ((qM a b c).run) fun (g,h,i) =>
  (GB d f c g h i).run)
theorem GC(b:Bool)(d:Lv)(a:List Int)(c:Int){x:cB}(h:ai b a c=some x) :ae prog lL [] [.agg [.bool false b,.imm d (.ns .u64 a) 1 1 0 (List.length a),.int .i64 c]] (sw x) :=
  oh true sw zo h (Sg.cut 2 qJ (bQ gH (Gy b d a c) [⟨[],[0,16],[1,2,3]⟩]) (fun ⟨f,g,e⟩=>Sg.cut 3 qJ (bQ gH (Gz b d a c f g e) [⟨[(.cell 1 1,.fre 1 1 (.ns .u64 ([]:List Int)))],[1],[2]⟩,⟨[],[0,1],[1,2,3,5]⟩]) (fun i=>Sg.cut 1 qJ (bQ gH (GA b d a c e i) [⟨[],[0,1],[1,2,3,5]⟩]) (fun ⟨o,p,q⟩=>bQ gH _ [⟨[],[1],[2]⟩]))))
    (fun x=>by cases x with | r0 j k l m n=>exact mt [.agg [.bool false j,.imm .free (.ns .u64 k) 1 1 l m,.int .i64 n]])
def c7:Option cB→Bool
  | some _=>true
  | none=>false
def bH:Option cB→Bool
  | some (.r0 x _ _ _ _)=>x
  | _=>false
def bI:Option cB→List Int
  | some (.r0 _ x _ _ _)=>x
  | _=>[]
def bJ:Option cB→Nat
  | some (.r0 _ _ x _ _)=>x
  | _=>0
def bK:Option cB→Nat
  | some (.r0 _ _ _ x _)=>x
  | _=>0
def bL:Option cB→Int
  | some (.r0 _ _ _ _ x)=>x
  | _=>0
theorem GD{x:Option cB}(h:c7 x=true) :x=some (.r0 (bH x) (bI x) (bJ x) (bK x) (bL x)):=by
  unfold c7 at h
  split at h<;>first | rfl | (cases h;done) | (rename_i y;cases y;rfl)
def zp:aD:=cy lL (.cons (.agg (.cons .bool (.cons (.ns .u64) (.cons (.int .i64) .nil)))) .nil) fun t=>(fun q=>[⟨sw (.r0 (bH q) (bI q) (bJ q) (bK q) (bL q)),[c7 q]⟩]) (ai t.1.1 t.1.2.1.2 t.1.2.2.1)
theorem Cf:aM prog zp:=aR fun t=>(aS (fun h=>GC t.1.1 t.1.2.1.1 t.1.2.1.2 t.1.2.2.1 (GD h)) bj)
def zq:List aD:=zp::zm
theorem jK:aX prog (bc zq):=an Cf gH
inductive fc where
  | r0 (a:Bool)
def Cg:fc→AE×aE
  | .r0 a=>(.ret,⟨ak 18 [(2,.bool false a)],[],0⟩)
theorem zr:lM Cg:=by intro x;cases x<;>(intro h;cases h)
def vN:fc→gq
  | .r0 a=>⟨.bool false a,[]⟩
def Jb(b:Bool)(c:Lv)(a:List Int)(d:Int)(e:Nat) :aE:=⟨ak 18 [(1,.ptr 0 1 0 0),(4,.int .i64 ((e:Nat):Int))],[(0,.vs [.bool false b,.imm c (.ns .u64 a) 1 1 0 (List.length a),.int .i64 d])],1⟩
def zt(a:List Int) :T ((Nat)⊕(fc)) :=
  .need (bg 0 (List.length a) a)<|.need (gF (dG (aa 0 (List.length a) a)))<|.leaf (.inl (kQ (dG (aa 0 (List.length a) a))))
def Jc(a:Bool) :aE:=⟨ak 18 [(2,.bool false a)],[],0⟩
def Jd(a:Int)(b:Nat) :T ((Bool)⊕(fc)) :=
  .ask (((b:Nat):Int)==(0:Int))
    (.ask (decide (a≥(-262144:Int)))
      (.leaf (.inl (decide (a≤(262144:Int)))))
      (.leaf (.inl false)))
    (.leaf (.inl false))
def Je(a:Bool) :T ((Empty)⊕(fc)) :=
  .leaf (.inr (.r0 a))
def ck(a:List Int)(b:Int) :Option fc:=mr (aK ((zt a).run) fun c =>
  aK ((Jd b c).run) fun d =>
  (Je d).run)
theorem Jf(c:Bool)(d:Lv)(a:List Int)(b:Int){x:fc}(h:ck a b=some x) :ae prog nt [] [.agg [.bool false c,.imm d (.ns .u64 a) 1 1 0 (List.length a),.int .i64 b]] (vN x) :=
  oh true vN Cg h (Sg.cut 2 zr (bQ jK (Jb c d a b) [⟨[],[0],[1,4]⟩]) (fun f=>Sg.cut 1 zr (bQ jK Jc [⟨[],[],[2]⟩,⟨[],[],[2]⟩,⟨[],[],[2]⟩]) (fun g=>bQ jK _ [⟨[],[],[2]⟩])))
    (fun x=>by cases x with | r0 e=>exact mt [.bool false e])
def ez:Option fc→Bool
  | some _=>true
  | none=>false
def dS:Option fc→Bool
  | some (.r0 x)=>x
  | _=>false
theorem Jg{x:Option fc}(h:ez x=true) :x=some (.r0 (dS x)):=by
  unfold ez at h
  split at h<;>first | rfl | (cases h;done) | (rename_i y;cases y;rfl)
def Ch:aD:=cy nt (.cons (.agg (.cons .bool (.cons (.ns .u64) (.cons (.int .i64) .nil)))) .nil) fun t=>(fun q=>[⟨vN (.r0 (dS q)),[ez q]⟩]) (ck t.1.2.1.2 t.1.2.2.1)
theorem Dv:aM prog Ch:=aR fun t=>(aS (fun h=>Jf t.1.1 t.1.2.1.1 t.1.2.1.2 t.1.2.2.1 (Jg h)) bj)
def Ci:List aD:=Ch::zq
theorem kX:aX prog (bc Ci):=an Dv jK
inductive bZ where
  | r0 (a:Nat) (b:Int) (c:List Int) (d:Nat) (e:List Int) (f:Nat)
def wU:bZ→AE×aE
  | .r0 a b c d e f=>(.ret,⟨ak 57 [(4,.ptr 0 1 0 0),(5,.int .i64 ((a:Nat):Int))],[(0,.vs [.int .i64 b,.imm .free (.ns .u64 c) 1 1 0 d,.imm .free (.ns .u64 e) 1 1 0 f])],1⟩)
theorem uD:lM wU:=by intro x;cases x<;>(intro h;cases h)
def qN:bZ→gq
  | .r0 a b c d e f=>⟨.tup [.agg [.int .i64 b,.imm .free (.ns .u64 c) 1 1 0 d,.imm .free (.ns .u64 e) 1 1 0 f],.int .i64 ((a:Nat):Int)],[]⟩
def Dw(c:Bool)(d:Lv)(a:List Int)(e:Int)(f:Bool)(g:Lv)(b:List Int)(h:Int)(i:Int) :aE:=⟨ak 57 [(2,.ptr 0 1 0 0),(3,.ptr 1 1 0 0),(4,.ptr 2 1 0 0),(6,.ptr 3 1 0 0)],[(0,.vs [.bool false c,.imm d (.ns .u64 a) 1 1 0 (List.length a),.int .i64 e]),(1,.vs [.bool false f,.imm g (.ns .u64 b) 1 1 0 (List.length b),.int .i64 h]),(2,.vs [.int .i64 (0:Int),.nsl,.nsl]),(3,.vs [.int .i64 i,.nsl,.nsl])],4⟩
def iB(c:List Int)(a:Int)(d:List Int)(b:Int) :T ((Int)⊕(bZ)) :=
  .ask ((((List.length c):Nat):Int)==(0:Int))
    (.leaf (.inl b))
    (.ask ((((List.length d):Nat):Int)==(0:Int))
      (.leaf (.inl a))
      (.need (fF .i64 ((zP a b)-(xJ a b)))<|.ask (decide (((zP a b)-(xJ a b))>(262144:Int)))
        (.leaf (.inr (.r0 3 (0:Int) ([]:List Int) 0 ([]:List Int) 0)))
        (.leaf (.inl (xJ a b)))))
def Dx(a:Int) :(List Int)×Nat×(List Int)×Nat→aE:=fun (b,c,d,e)=>⟨ak 57 [(4,.ptr 0 1 0 0),(6,.ptr 1 1 0 0)],[(0,.vs [.int .i64 (0:Int),.nsl,.nsl]),(1,.vs [.int .i64 a,.imm .free (.ns .u64 b) 1 1 0 c,.imm .free (.ns .u64 d) 1 1 0 e])],2⟩
def eA(c:List Int)(e:Int)(a:List Int)(d:Int)(b:Int) :T (((List Int)×Nat×(List Int)×Nat)⊕(bZ)) :=
  .ask ((((List.length c):Nat):Int)==(0:Int))
    (.ask ((((List.length a):Nat):Int)==(0:Int))
      (.leaf (.inl (([]:List Int),0,([]:List Int),0)))
      (.need (fF .i64 (d-b))<|.need (bg 0 (List.length a) a)<|.need (kA (dL (aa 0 (List.length a) a) (d-b)))<|.leaf (.inl (([]:List Int),0,(ia (dL (aa 0 (List.length a) a) (d-b))),(ib (dL (aa 0 (List.length a) a) (d-b)))))))
    (.need (fF .i64 (e-b))<|.need (bg 0 (List.length c) c)<|.need (kA (dL (aa 0 (List.length c) c) (e-b)))<|.ask ((((List.length a):Nat):Int)==(0:Int))
      (.leaf (.inl ((ia (dL (aa 0 (List.length c) c) (e-b))),(ib (dL (aa 0 (List.length c) c) (e-b))),([]:List Int),0)))
      (.need (fF .i64 (d-b))<|.need (bg 0 (List.length a) a)<|.need (kA (dL (aa 0 (List.length a) a) (d-b)))<|.leaf (.inl ((ia (dL (aa 0 (List.length c) c) (e-b))),(ib (dL (aa 0 (List.length c) c) (e-b))),(ia (dL (aa 0 (List.length a) a) (d-b))),(ib (dL (aa 0 (List.length a) a) (d-b)))))))
def Dy(a:Int)(b:List Int)(c:Nat)(d:List Int)(e:Nat) :T ((Empty)⊕(bZ)) :=
  .leaf (.inr (.r0 0 a b c d e))
def bM(a:List Int)(b:Int)(c:List Int)(d:Int) :Option bZ:=mr (aK ((iB a b c d).run) fun e =>
  aK ((eA a b c d e).run) fun (f,g,h,i) =>
  (Dy e f g h i).run)
theorem Dz(e:Bool)(f:Lv)(a:List Int)(c:Int)(g:Bool)(i:Lv)(b:List Int)(d:Int){x:bZ}(h:bM a c b d=some x) :ae prog qi [] [.agg [.bool false e,.imm f (.ns .u64 a) 1 1 0 (List.length a),.int .i64 c],.agg [.bool false g,.imm i (.ns .u64 b) 1 1 0 (List.length b),.int .i64 d]] (qN x) :=
  oh true qN wU h (Sg.cut 3 uD (bQ kX (Dw e f a c g i b d) [⟨[],[0,16,32,176],[2,3,4,6]⟩,⟨[],[0,16,32,176],[2,3,4,6]⟩,⟨[(.cell 32 1,.fre 1 1 (.ns .u64 ([]:List Int))),(.cell 32 2,.fre 1 1 (.ns .u64 ([]:List Int)))],[32],[4,5]⟩,⟨[],[0,16,32,176],[2,3,4,6]⟩]) (fun j=>Sg.cut 2 uD (bQ kX (Dx j) [⟨[(.cell 3 1,.fre 1 1 (.ns .u64 ([]:List Int))),(.cell 3 2,.fre 1 1 (.ns .u64 ([]:List Int)))],[2,3],[4,6]⟩,⟨[(.cell 3 1,.fre 1 1 (.ns .u64 ([]:List Int)))],[2,3],[4,6]⟩,⟨[(.cell 3 2,.fre 1 1 (.ns .u64 ([]:List Int)))],[2,3],[4,6]⟩,⟨[],[2,3],[4,6]⟩]) (fun ⟨q,r,s,t⟩=>bQ kX _ [⟨[],[0],[4,5]⟩])))
    (fun x=>by cases x with | r0 k l m n o p=>exact mt [.agg [.int .i64 l,.imm .free (.ns .u64 m) 1 1 0 n,.imm .free (.ns .u64 o) 1 1 0 p],.int .i64 ((k:Nat):Int)])
def iC:Option bZ→Bool
  | some _=>true
  | none=>false
def iJ:Option bZ→Nat
  | some (.r0 x _ _ _ _ _)=>x
  | _=>0
def iK:Option bZ→Int
  | some (.r0 _ x _ _ _ _)=>x
  | _=>0
def iL:Option bZ→List Int
  | some (.r0 _ _ x _ _ _)=>x
  | _=>[]
def iM:Option bZ→Nat
  | some (.r0 _ _ _ x _ _)=>x
  | _=>0
def iN:Option bZ→List Int
  | some (.r0 _ _ _ _ x _)=>x
  | _=>[]
def iO:Option bZ→Nat
  | some (.r0 _ _ _ _ _ x)=>x
  | _=>0
theorem DA{x:Option bZ}(h:iC x=true) :x=some (.r0 (iJ x) (iK x) (iL x) (iM x) (iN x) (iO x)):=by
  unfold iC at h
  split at h<;>first | rfl | (cases h;done) | (rename_i y;cases y;rfl)
def wV:aD:=cy qi (.cons (.agg (.cons .bool (.cons (.ns .u64) (.cons (.int .i64) .nil)))) (.cons (.agg (.cons .bool (.cons (.ns .u64) (.cons (.int .i64) .nil)))) .nil)) fun t=>(fun q=>[⟨qN (.r0 (iJ q) (iK q) (iL q) (iM q) (iN q) (iO q)),[iC q]⟩]) (bM t.1.2.1.2 t.1.2.2.1 t.2.1.2.1.2 t.2.1.2.2.1)
theorem z6:aM prog wV:=aR fun t=>(aS (fun h=>Dz t.1.1 t.1.2.1.1 t.1.2.1.2 t.1.2.2.1 t.2.1.1 t.2.1.2.1.1 t.2.1.2.1.2 t.2.1.2.2.1 (DA h)) bj)
def wW:List aD:=wV::Ci
theorem iR:aX prog (bc wW):=an z6 kX
inductive cC where
  | r0 (a:Nat) (b:Bool) (c:List Int) (d:Nat) (e:Nat) (f:Int)
def zu:cC→AE×aE
  | .r0 a b c d e f=>(.ret,⟨ak 11 [(2,.ptr 0 1 0 0),(3,.int .i64 ((a:Nat):Int))],[(0,.vs [.bool false b,.imm .free (.ns .u64 c) 1 1 d e,.int .i64 f])],1⟩)
theorem wX:lM zu:=by intro x;cases x<;>(intro h;cases h)
def sx:cC→gq
  | .r0 a b c d e f=>⟨.tup [.agg [.bool false b,.imm .free (.ns .u64 c) 1 1 d e,.int .i64 f],.int .i64 ((a:Nat):Int)],[]⟩
def GE:Bool×(List Int)×Nat×Nat×Int×Bool→aE:=fun (a,b,c,d,e,f)=>⟨ak 11 [(1,.ptr 0 1 0 0),(2,.ptr 1 1 0 0)],[(0,.vs [.bool false a,.imm .free (.ns .u64 b) 1 1 c d,.int .i64 e]),(1,.vs [.bool false f,.nsl,.int .i64 (0:Int)])],2⟩
def wY(b:Bool)(a:List Int)(c:Int) :T ((Bool×(List Int)×Nat×Nat×Int×Bool)⊕(cC)) :=
  .need (bg 0 (List.length a) a)<|.need (c7 (ai b (aa 0 (List.length a) a) c))<|.leaf (.inl ((bH (ai b (aa 0 (List.length a) a) c)),(bI (ai b (aa 0 (List.length a) a) c)),(bJ (ai b (aa 0 (List.length a) a) c)),(bK (ai b (aa 0 (List.length a) a) c)),(bL (ai b (aa 0 (List.length a) a) c)),false))
def GF(a:Bool)(b:List Int)(c:Nat)(d:Nat)(e:Int)(f:Bool)(g:Bool) :aE:=⟨ak 11 [(1,.ptr 0 1 0 0),(2,.ptr 1 1 0 0),(8,.bool false g)],[(0,.vs [.bool false a,.imm .free (.ns .u64 b) 1 1 c d,.int .i64 e]),(1,.vs [.bool false f,.nsl,.int .i64 (0:Int)])],2⟩
def qO(a:List Int)(b:Nat)(c:Nat)(d:Int) :T ((Bool)⊕(cC)) :=
  .need (bg b c a)<|.need (ez (ck (aa b c a) d))<|.leaf (.inl (!(dS (ck (aa b c a) d))))
def GG(a:Bool)(b:List Int)(c:Nat)(d:Nat)(e:Int)(f:Bool) :T ((Empty)⊕(cC)) :=
  .ask f
    (.leaf (.inr (.r0 3 false ([]:List Int) 0 0 (0:Int))))
    (.leaf (.inr (.r0 0 a b c d e)))
def bf(e:Bool)(f:List Int)(g:Int) :Option cC:=mr (aK ((wY e f g).run) fun (h,a,b,c,d,j) =>
  aK ((qO a b c d).run) fun i =>
  (GG h a b c d i).run)
theorem GH(b:Bool)(d:Lv)(a:List Int)(c:Int){x:cC}(h:bf b a c=some x) :ae prog rM [] [.agg [.bool false b,.imm d (.ns .u64 a) 1 1 0 (List.length a),.int .i64 c]] (sx x) :=
  oh true sx zu h (Sg.cut 2 wX (bQ iR GE [⟨[],[0,16],[1,2]⟩]) (fun ⟨e,f,g,i,j,k⟩=>Sg.cut 1 wX (bQ iR (GF e f g i j k) [⟨[],[0,1],[1,2,8]⟩]) (fun r=>bQ iR _ [⟨[(.cell 1 1,.fre 1 1 (.ns .u64 ([]:List Int)))],[1],[2,3]⟩,⟨[],[1],[2,3]⟩])))
    (fun x=>by cases x with | r0 l m n o p q=>exact mt [.agg [.bool false m,.imm .free (.ns .u64 n) 1 1 o p,.int .i64 q],.int .i64 ((l:Nat):Int)])
def ig:Option cC→Bool
  | some _=>true
  | none=>false
def gI:Option cC→Nat
  | some (.r0 x _ _ _ _ _)=>x
  | _=>0
def gJ:Option cC→Bool
  | some (.r0 _ x _ _ _ _)=>x
  | _=>false
def gK:Option cC→List Int
  | some (.r0 _ _ x _ _ _)=>x
  | _=>[]
def gL:Option cC→Nat
  | some (.r0 _ _ _ x _ _)=>x
  | _=>0
def gM:Option cC→Nat
  | some (.r0 _ _ _ _ x _)=>x
  | _=>0
def gN:Option cC→Int
  | some (.r0 _ _ _ _ _ x)=>x
  | _=>0
theorem GI{x:Option cC}(h:ig x=true) :x=some (.r0 (gI x) (gJ x) (gK x) (gL x) (gM x) (gN x)):=by
  unfold ig at h
  split at h<;>first | rfl | (cases h;done) | (rename_i y;cases y;rfl)
def zw:aD:=cy rM (.cons (.agg (.cons .bool (.cons (.ns .u64) (.cons (.int .i64) .nil)))) .nil) fun t=>(fun q=>[⟨sx (.r0 (gI q) (gJ q) (gK q) (gL q) (gM q) (gN q)),[ig q]⟩]) (bf t.1.1 t.1.2.1.2 t.1.2.2.1)
theorem Cj:aM prog zw:=aR fun t=>(aS (fun h=>GH t.1.1 t.1.2.1.1 t.1.2.1.2 t.1.2.2.1 (GI h)) bj)
def zA:List aD:=zw::wW
theorem nN:aX prog (bc zA):=an Cj iR
inductive co where
  | r0 (a:Nat) (b:Bool) (c:List Int) (d:Nat) (e:Nat) (f:Int)
def wZ:co→AE×aE
  | .r0 a b c d e f=>(.ret,⟨ak 21 [(7,.ptr 0 1 0 0),(8,.int .i64 ((a:Nat):Int))],[(0,.vs [.bool false b,.imm .free (.ns .u64 c) 1 1 d e,.int .i64 f])],1⟩)
theorem DB:lM wZ:=by intro x;cases x<;>(intro h;cases h)
def qP:co→gq
  | .r0 a b c d e f=>⟨.tup [.agg [.bool false b,.imm .free (.ns .u64 c) 1 1 d e,.int .i64 f],.int .i64 ((a:Nat):Int)],[]⟩
def DC:Nat×Bool×(List Int)×Nat×Nat×Int→aE:=fun (a,b,c,d,e,f)=>⟨ak 21 [(7,.ptr 0 1 0 0),(8,.int .i64 ((a:Nat):Int))],[(0,.vs [.bool false b,.imm .free (.ns .u64 c) 1 1 d e,.int .i64 f])],1⟩
def uE(b:Bool)(a:List Int)(d:Int)(c:Int) :T ((Nat×Bool×(List Int)×Nat×Nat×Int)⊕(co)) :=
  .ask (d != (0:Int))
    (.leaf (.inr (.r0 3 false ([]:List Int) 0 0 (0:Int))))
    (.need (bg 0 (List.length a) a)<|.need (ig (bf b (aa 0 (List.length a) a) c))<|.leaf (.inl ((gI (bf b (aa 0 (List.length a) a) c)),(gJ (bf b (aa 0 (List.length a) a) c)),(gK (bf b (aa 0 (List.length a) a) c)),(gL (bf b (aa 0 (List.length a) a) c)),(gM (bf b (aa 0 (List.length a) a) c)),(gN (bf b (aa 0 (List.length a) a) c)))))
def DD(a:Nat)(b:Bool)(c:List Int)(d:Nat)(e:Nat)(f:Int) :T ((Empty)⊕(co)) :=
  .leaf (.inr (.r0 a b c d e f))
def ba(a:Bool)(b:List Int)(c:Int)(d:Int) :Option co:=mr (aK ((uE a b c d).run) fun (e,f,g,h,i,j) =>
  (DD e f g h i j).run)
theorem DE(b:Bool)(g:Lv)(a:List Int)(c:Int)(i:Lv)(d:Int)(j:Lv)(e:List Int)(k:Lv)(f:List Int){x:co}(h:ba b a c d=some x) :ae prog g8 [] [.bool false b,.imm g (.ns .u64 a) 1 1 0 (List.length a),.int .i64 c,.iptr i (.vs [.int .i64 d,.imm j (.ns .u64 e) 1 1 0 (List.length e),.imm k (.ns .u64 f) 1 1 0 (List.length f)]) 1 0 0] (qP x) :=
  oh false qP wZ h (Sg.cut 4 DB (bQ nN DC [⟨[(.cell 0 1,.fre 1 1 (.ns .u64 ([]:List Int)))],[0],[7,8]⟩,⟨[],[0],[7,8]⟩]) (fun ⟨r,s,t,u,v,w⟩=>bQ nN _ [⟨[],[0],[7,8]⟩]))
    (fun x=>by cases x with | r0 l m n o p q=>exact mt [.agg [.bool false m,.imm .free (.ns .u64 n) 1 1 o p,.int .i64 q],.int .i64 ((l:Nat):Int)])
def gn:Option co→Bool
  | some _=>true
  | none=>false
def f3:Option co→Nat
  | some (.r0 x _ _ _ _ _)=>x
  | _=>0
def f4:Option co→Bool
  | some (.r0 _ x _ _ _ _)=>x
  | _=>false
def f5:Option co→List Int
  | some (.r0 _ _ x _ _ _)=>x
  | _=>[]
def f7:Option co→Nat
  | some (.r0 _ _ _ x _ _)=>x
  | _=>0
def f8:Option co→Nat
  | some (.r0 _ _ _ _ x _)=>x
  | _=>0
def f9:Option co→Int
  | some (.r0 _ _ _ _ _ x)=>x
  | _=>0
theorem DF{x:Option co}(h:gn x=true) :x=some (.r0 (f3 x) (f4 x) (f5 x) (f7 x) (f8 x) (f9 x)):=by
  unfold gn at h
  split at h<;>first | rfl | (cases h;done) | (rename_i y;cases y;rfl)
def w5:aD:=cy g8 (.cons .bool (.cons (.ns .u64) (.cons (.int .i64) (.cons (.ivs (.cons (.int .i64) (.cons (.ns .u64) (.cons (.ns .u64) .nil))) 1 0 0) .nil)))) fun t=>(fun q=>[⟨qP (.r0 (f3 q) (f4 q) (f5 q) (f7 q) (f8 q) (f9 q)),[gn q]⟩]) (ba t.1 t.2.1.2 t.2.2.1 t.2.2.2.1.2.1)
theorem z7:aM prog w5:=aR fun t=>(aS (fun h=>DE t.1 t.2.1.1 t.2.1.2 t.2.2.1 t.2.2.2.1.1 t.2.2.2.1.2.1 t.2.2.2.1.2.2.1.1 t.2.2.2.1.2.2.1.2 t.2.2.2.1.2.2.2.1.1 t.2.2.2.1.2.2.2.1.2 (DF h)) bj)
def w6:List aD:=w5::zA
theorem c8:aX prog (bc w6):=an z7 nN
inductive bW where
  | r0 (a:Nat) (b:Bool) (c:List Int) (d:Nat) (e:Nat) (f:Int)
def Ck:bW→AE×aE
  | .r0 a b c d e f=>(.ret,⟨ak 97 [(4,.ptr 0 1 0 0),(5,.int .i64 ((a:Nat):Int))],[(0,.vs [.bool false b,.imm .free (.ns .u64 c) 1 1 d e,.int .i64 f])],1⟩)
theorem gO:lM Ck:=by intro x;cases x<;>(intro h;cases h)
def vO:bW→gq
  | .r0 a b c d e f=>⟨.tup [.agg [.bool false b,.imm .free (.ns .u64 c) 1 1 d e,.int .i64 f],.int .i64 ((a:Nat):Int)],[]⟩
def Jh(a:Lv)(b:Lv) :Nat×Bool×(List Int)×Nat×Nat×Int×Bool×(List Int)×Nat×Nat×Int×Bool→aE:=fun (c,d,e,f,g,h,i,j,k,l,m,n)=>⟨ak 97 [(2,.ptr 0 1 0 0),(3,.ptr 1 1 0 0),(4,.ptr 2 1 0 0),(6,.int .i64 ((c:Nat):Int))],[(0,.vs [.bool false d,.imm a (.ns .u64 e) 1 1 f g,.int .i64 h]),(1,.vs [.bool false i,.imm b (.ns .u64 j) 1 1 k l,.int .i64 m]),(2,.vs [.bool false n,.nsl,.int .i64 (0:Int)])],3⟩
def sy(d : Bool)(a : List Int)(c : Int)(f : Bool)(b : List Int)(e : Int) : T ((Nat × Bool × (List Int) × Nat × Nat × Int × Bool × (List Int) × Nat × Nat × Int × Bool) ⊕ (bW)) :=
  .ask (decide ((0:Int)<(2:Int)))
    (.need (ik (0:Int) 2)<|.need (bg 0 (List.length a) a)<|.need (ez (ck (aa 0 (List.length a) a) c))<|.ask (!(dS (ck (aa 0 (List.length a) a) c)))
      (.leaf (.inl (2,d,a,0,(List.length a),c,f,b,0,(List.length b),e,false)))
      (.need (bg 0 (List.length a) a)<|.need (c7 (ai d (aa 0 (List.length a) a) c))<|.need (fF .i64 (1:Int))<|.ask (decide ((1:Int)<(2:Int)))
        (.need (ik (1:Int) 2)<|.need (bg 0 (List.length b) b)<|.need (ez (ck (aa 0 (List.length b) b) e))<|.ask (!(dS (ck (aa 0 (List.length b) b) e)))
          (.leaf (.inl (2,(bH (ai d (aa 0 (List.length a) a) c)),(bI (ai d (aa 0 (List.length a) a) c)),(bJ (ai d (aa 0 (List.length a) a) c)),(bK (ai d (aa 0 (List.length a) a) c)),(bL (ai d (aa 0 (List.length a) a) c)),f,b,0,(List.length b),e,false)))
          (.need (bg 0 (List.length b) b)<|.need (c7 (ai f (aa 0 (List.length b) b) e))<|.need (fF .i64 (2:Int))<|.ask (decide ((2:Int)<(2:Int)))
            (.fail)
            (.leaf (.inl (0,(bH (ai d (aa 0 (List.length a) a) c)),(bI (ai d (aa 0 (List.length a) a) c)),(bJ (ai d (aa 0 (List.length a) a) c)),(bK (ai d (aa 0 (List.length a) a) c)),(bL (ai d (aa 0 (List.length a) a) c)),(bH (ai f (aa 0 (List.length b) b) e)),(bI (ai f (aa 0 (List.length b) b) e)),(bJ (ai f (aa 0 (List.length b) b) e)),(bK (ai f (aa 0 (List.length b) b) e)),(bL (ai f (aa 0 (List.length b) b) e)),false)))))
        (.fail)))
    (.fail)
def Ji(a:Lv)(b:Lv)(c:Bool)(d:List Int)(e:Nat)(f:Nat)(g:Int)(h:Bool)(i:List Int)(j:Nat)(k:Nat)(l:Int)(m:Bool) :Nat×Int×(List Int)×Nat×(List Int)×Nat→aE:=fun (n,o,p,q,r,s)=>⟨ak 97 [(2,.ptr 0 1 0 0),(3,.ptr 1 1 0 0),(4,.ptr 2 1 0 0),(7,.ptr 3 1 0 0),(8,.int .i64 ((n:Nat):Int))],[(0,.vs [.bool false c,.imm a (.ns .u64 d) 1 1 e f,.int .i64 g]),(1,.vs [.bool false h,.imm b (.ns .u64 i) 1 1 j k,.int .i64 l]),(2,.vs [.bool false m,.nsl,.int .i64 (0:Int)]),(3,.vs [.int .i64 o,.imm .free (.ns .u64 p) 1 1 0 q,.imm .free (.ns .u64 r) 1 1 0 s])],4⟩
def qQ(i:Nat)(a:List Int)(b:Nat)(c:Nat)(g:Int)(d:List Int)(e:Nat)(f:Nat)(h:Int) :T ((Nat×Int×(List Int)×Nat×(List Int)×Nat)⊕(bW)) :=
  .ask (((i:Nat):Int) != (0:Int))
    (.leaf (.inr (.r0 i false ([]:List Int) 0 0 (0:Int))))
    (.need (bg b c a)<|.need (bg e f d)<|.need (iC (bM (aa b c a) g (aa e f d) h))<|.leaf (.inl ((iJ (bM (aa b c a) g (aa e f d) h)),(iK (bM (aa b c a) g (aa e f d) h)),(iL (bM (aa b c a) g (aa e f d) h)),(iM (bM (aa b c a) g (aa e f d) h)),(iN (bM (aa b c a) g (aa e f d) h)),(iO (bM (aa b c a) g (aa e f d) h)))))
def Jj(a:Lv)(b:Lv)(c:Bool)(d:List Int)(e:Nat)(f:Nat)(g:Int)(h:Bool)(i:List Int)(j:Nat)(k:Nat)(l:Int)(m:Bool)(n:Int)(o:List Int)(p:Nat)(q:List Int)(r:Nat)(_:Unit) :aE:=⟨ak 97 [(2,.ptr 0 1 0 0),(3,.ptr 1 1 0 0),(4,.ptr 2 1 0 0),(7,.ptr 3 1 0 0),(9,.fn (.func g8) [] [.ptr 3 1 0 0])],[(0,.vs [.bool false c,.imm a (.ns .u64 d) 1 1 e f,.int .i64 g]),(1,.vs [.bool false h,.imm b (.ns .u64 i) 1 1 j k,.int .i64 l]),(2,.vs [.bool false m,.nsl,.int .i64 (0:Int)]),(3,.vs [.int .i64 n,.imm .free (.ns .u64 o) 1 1 0 p,.imm .free (.ns .u64 q) 1 1 0 r])],4⟩
def jL(e:Bool)(h:Bool)(g:Nat)(f:Int)(a:List Int)(b:Nat)(c:List Int)(d:Nat) :T ((Unit)⊕(bW)) :=
  .ask (((g:Nat):Int) != (0:Int))
    (.leaf (.inr (.r0 g false ([]:List Int) 0 0 (0:Int))))
    (.ask (e==h)
      (.need (bg 0 b a)<|.need (bg 0 d c)<|.need (nG (aZ (aa 0 b a) (aa 0 d c)))<|.need (bg (dm (aZ (aa 0 b a) (aa 0 d c))) (dn (aZ (aa 0 b a) (aa 0 d c))) (dp (aZ (aa 0 b a) (aa 0 d c))))<|.need (bg 0 b a)<|.need (bg 0 d c)<|.need (gn (ba e (aa (dm (aZ (aa 0 b a) (aa 0 d c))) (dn (aZ (aa 0 b a) (aa 0 d c))) (dp (aZ (aa 0 b a) (aa 0 d c)))) (((dR (aZ (aa 0 b a) (aa 0 d c))):Nat):Int) f))<|.leaf (.inr (.r0 (f3 (ba e (aa (dm (aZ (aa 0 b a) (aa 0 d c))) (dn (aZ (aa 0 b a) (aa 0 d c))) (dp (aZ (aa 0 b a) (aa 0 d c)))) (((dR (aZ (aa 0 b a) (aa 0 d c))):Nat):Int) f)) (f4 (ba e (aa (dm (aZ (aa 0 b a) (aa 0 d c))) (dn (aZ (aa 0 b a) (aa 0 d c))) (dp (aZ (aa 0 b a) (aa 0 d c)))) (((dR (aZ (aa 0 b a) (aa 0 d c))):Nat):Int) f)) (f5 (ba e (aa (dm (aZ (aa 0 b a) (aa 0 d c))) (dn (aZ (aa 0 b a) (aa 0 d c))) (dp (aZ (aa 0 b a) (aa 0 d c)))) (((dR (aZ (aa 0 b a) (aa 0 d c))):Nat):Int) f)) (f7 (ba e (aa (dm (aZ (aa 0 b a) (aa 0 d c))) (dn (aZ (aa 0 b a) (aa 0 d c))) (dp (aZ (aa 0 b a) (aa 0 d c)))) (((dR (aZ (aa 0 b a) (aa 0 d c))):Nat):Int) f)) (f8 (ba e (aa (dm (aZ (aa 0 b a) (aa 0 d c))) (dn (aZ (aa 0 b a) (aa 0 d c))) (dp (aZ (aa 0 b a) (aa 0 d c)))) (((dR (aZ (aa 0 b a) (aa 0 d c))):Nat):Int) f)) (f9 (ba e (aa (dm (aZ (aa 0 b a) (aa 0 d c))) (dn (aZ (aa 0 b a) (aa 0 d c))) (dp (aZ (aa 0 b a) (aa 0 d c)))) (((dR (aZ (aa 0 b a) (aa 0 d c))):Nat):Int) f)))))
      (.leaf (.inl ())))
def Jk(a:Lv)(b:Lv)(c:Bool)(d:List Int)(e:Nat)(f:Nat)(g:Int)(h:Bool)(i:List Int)(j:Nat)(k:Nat)(l:Int)(m:Bool)(n:Int)(o:List Int)(p:Nat)(q:List Int)(r:Nat)(s:Int) :aE:=⟨ak 97 [(2,.ptr 0 1 0 0),(3,.ptr 1 1 0 0),(4,.ptr 2 1 0 0),(7,.ptr 3 1 0 0),(9,.fn (.func g8) [] [.ptr 3 1 0 0]),(12,.int .i64 s)],[(0,.vs [.bool false c,.imm a (.ns .u64 d) 1 1 e f,.int .i64 g]),(1,.vs [.bool false h,.imm b (.ns .u64 i) 1 1 j k,.int .i64 l]),(2,.vs [.bool false m,.nsl,.int .i64 (0:Int)]),(3,.vs [.int .i64 n,.imm .free (.ns .u64 o) 1 1 0 p,.imm .free (.ns .u64 q) 1 1 0 r])],4⟩
def qR(a:List Int)(b:Nat)(c:List Int)(d:Nat) :T ((Int)⊕(bW)) :=
  .need (bg 0 b a)<|.need (bg 0 d c)<|.need (nF (kt (aa 0 b a) (aa 0 d c)))<|.leaf (.inl (mH (kt (aa 0 b a) (aa 0 d c))))
def Jl(a:Lv)(b:Bool)(c:List Int)(d:Nat)(e:Nat)(f:Int)(g:Bool)(h:Int)(i:List Int)(j:Nat)(k:List Int)(l:Nat)(_:Unit) :aE:=⟨ak 97 [(2,.ptr 0 1 0 0),(4,.ptr 1 1 0 0),(7,.ptr 2 1 0 0),(9,.fn (.func g8) [] [.ptr 2 1 0 0])],[(0,.vs [.bool false b,.imm a (.ns .u64 c) 1 1 d e,.int .i64 f]),(1,.vs [.bool false g,.nsl,.int .i64 (0:Int)]),(2,.vs [.int .i64 h,.imm .free (.ns .u64 i) 1 1 0 j,.imm .free (.ns .u64 k) 1 1 0 l])],3⟩
def qS(e:Bool)(f:Int)(a:List Int)(b:Nat)(c:List Int)(d:Nat)(g:Int) :T ((Unit)⊕(bW)) :=
  .ask (decide (g<(0:Int)))
    (.need (bg 0 d c)<|.need (bg 0 b a)<|.need (kv (aN (aa 0 d c) (aa 0 b a)))<|.need (bg (cY (aN (aa 0 d c) (aa 0 b a))) (cZ (aN (aa 0 d c) (aa 0 b a))) (cX (aN (aa 0 d c) (aa 0 b a))))<|.need (bg 0 b a)<|.need (bg 0 d c)<|.need (gn (ba e (aa (cY (aN (aa 0 d c) (aa 0 b a))) (cZ (aN (aa 0 d c) (aa 0 b a))) (cX (aN (aa 0 d c) (aa 0 b a)))) (((dq (aN (aa 0 d c) (aa 0 b a))):Nat):Int) f))<|.leaf (.inr (.r0 (f3 (ba e (aa (cY (aN (aa 0 d c) (aa 0 b a))) (cZ (aN (aa 0 d c) (aa 0 b a))) (cX (aN (aa 0 d c) (aa 0 b a)))) (((dq (aN (aa 0 d c) (aa 0 b a))):Nat):Int) f)) (f4 (ba e (aa (cY (aN (aa 0 d c) (aa 0 b a))) (cZ (aN (aa 0 d c) (aa 0 b a))) (cX (aN (aa 0 d c) (aa 0 b a)))) (((dq (aN (aa 0 d c) (aa 0 b a))):Nat):Int) f)) (f5 (ba e (aa (cY (aN (aa 0 d c) (aa 0 b a))) (cZ (aN (aa 0 d c) (aa 0 b a))) (cX (aN (aa 0 d c) (aa 0 b a)))) (((dq (aN (aa 0 d c) (aa 0 b a))):Nat):Int) f)) (f7 (ba e (aa (cY (aN (aa 0 d c) (aa 0 b a))) (cZ (aN (aa 0 d c) (aa 0 b a))) (cX (aN (aa 0 d c) (aa 0 b a)))) (((dq (aN (aa 0 d c) (aa 0 b a))):Nat):Int) f)) (f8 (ba e (aa (cY (aN (aa 0 d c) (aa 0 b a))) (cZ (aN (aa 0 d c) (aa 0 b a))) (cX (aN (aa 0 d c) (aa 0 b a)))) (((dq (aN (aa 0 d c) (aa 0 b a))):Nat):Int) f)) (f9 (ba e (aa (cY (aN (aa 0 d c) (aa 0 b a))) (cZ (aN (aa 0 d c) (aa 0 b a))) (cX (aN (aa 0 d c) (aa 0 b a)))) (((dq (aN (aa 0 d c) (aa 0 b a))):Nat):Int) f)))))
    (.leaf (.inl ()))
def Jm(a:Lv)(b:Bool)(c:List Int)(d:Nat)(e:Nat)(f:Int)(g:Bool)(h:Int)(i:List Int)(j:Nat)(k:List Int)(l:Nat) :Nat×(List Int)×Nat×Nat→aE:=fun (m,n,o,p)=>⟨ak 97 [(2,.ptr 0 1 0 0),(4,.ptr 1 1 0 0),(8,.int .i64 ((m:Nat):Int)),(9,.fn (.func g8) [] [.ptr 2 1 0 0]),(16,.imm .free (.ns .u64 n) 1 1 o p)],[(0,.vs [.bool false b,.imm a (.ns .u64 c) 1 1 d e,.int .i64 f]),(1,.vs [.bool false g,.nsl,.int .i64 (0:Int)]),(2,.vs [.int .i64 h,.imm .free (.ns .u64 i) 1 1 0 j,.imm .free (.ns .u64 k) 1 1 0 l])],3⟩
def qT(a:List Int)(b:Nat)(c:List Int)(d:Nat) :T ((Nat×(List Int)×Nat×Nat)⊕(bW)) :=
  .need (bg 0 b a)<|.need (bg 0 d c)<|.need (kv (aN (aa 0 b a) (aa 0 d c)))<|.leaf (.inl ((dq (aN (aa 0 b a) (aa 0 d c))),(cX (aN (aa 0 b a) (aa 0 d c))),(cY (aN (aa 0 b a) (aa 0 d c))),(cZ (aN (aa 0 b a) (aa 0 d c)))))
def Jn:Nat×Bool×(List Int)×Nat×Nat×Int→aE:=fun (a,b,c,d,e,f)=>⟨ak 97 [(4,.ptr 0 1 0 0),(5,.int .i64 ((a:Nat):Int))],[(0,.vs [.bool false b,.imm .free (.ns .u64 c) 1 1 d e,.int .i64 f])],1⟩
def qU(d:Bool)(e:Int)(g:List Int)(h:Nat)(i:List Int)(j:Nat)(f:Nat)(a:List Int)(b:Nat)(c:Nat) :T ((Nat×Bool×(List Int)×Nat×Nat×Int)⊕(bW)) :=
  .need (bg b c a)<|.need (bg 0 h g)<|.need (bg 0 j i)<|.need (gn (ba d (aa b c a) ((f:Nat):Int) e))<|.leaf (.inl ((f3 (ba d (aa b c a) ((f:Nat):Int) e)),(f4 (ba d (aa b c a) ((f:Nat):Int) e)),(f5 (ba d (aa b c a) ((f:Nat):Int) e)),(f7 (ba d (aa b c a) ((f:Nat):Int) e)),(f8 (ba d (aa b c a) ((f:Nat):Int) e)),(f9 (ba d (aa b c a) ((f:Nat):Int) e))))
def GJ(a:Nat)(b:Bool)(c:List Int)(d:Nat)(e:Nat)(f:Int) :T ((Empty)⊕(bW)) :=
  .leaf (.inr (.r0 a b c d e f))
def cm(h:Bool)(i:List Int)(j:Int)(k:Bool)(l:List Int)(m:Int) :Option bW:=mr (aK ((sy h i j k l m).run) fun (n,f,o,p,q,r,g,s,t,u,v,I) =>
  aK ((qQ n o p q r s t u v).run) fun (w,e,a,b,c,d) =>
  aK ((jL f g w e a b c d).run) fun _ =>
  aK ((qR a b c d).run) fun x =>
  aK ((qS g e a b c d x).run) fun _ =>
  aK ((qT a b c d).run) fun (y,z,A,B) =>
  aK ((qU f e a b c d y z A B).run) fun (C,D,E,F,G,H) =>
  (GJ C D E F G H).run)
theorem Jo(v:Bool)(a:Lv)(o:List Int)(w:Int)(y:Bool)(b:Lv)(p:List Int)(z:Int){x:bW}(h:cm v o w y p z=some x) :ae prog vj [] [.agg [.bool false v,.imm a (.ns .u64 o) 1 1 0 (List.length o),.int .i64 w],.agg [.bool false y,.imm b (.ns .u64 p) 1 1 0 (List.length p),.int .i64 z]] (vO x) :=
  oh true vO Ck h (Sg.cut 2 gO (bQ c8 (Jh a b) [⟨[],[0,16,32],[2,3,4,6]⟩,⟨[(.cell 0 1,.lev a)],[0,16,32],[2,3,4,6]⟩,⟨[(.cell 0 1,.lev a),(.cell 16 1,.lev b)],[0,16,32],[2,3,4,6]⟩]) (fun ⟨G,c,d,e,f,g,q,r,s,t,u,i⟩=>Sg.cut 3 gO (bQ c8 (Ji a b c d e f g q r s t u i) [⟨[(.cell 2 1,.fre 1 1 (.ns .u64 ([]:List Int)))],[2],[4,5]⟩,⟨[],[0,1,2,131],[2,3,4,7,8]⟩]) (fun ⟨H,j,k,l,m,n⟩=>Sg.cut 5 gO (bQ c8 (Jj a b c d e f g q r s t u i j k l m n) [⟨[(.cell 2 1,.fre 1 1 (.ns .u64 ([]:List Int)))],[2],[4,5]⟩,⟨[],[2],[4,5]⟩,⟨[],[0,1,2,3],[2,3,4,7,9]⟩]) (fun _=>Sg.cut 1 gO (bQ c8 (Jk a b c d e f g q r s t u i j k l m n) [⟨[],[0,1,2,3],[2,3,4,7,9,12]⟩]) (fun I=>Sg.cut 2 gO (bQ c8 (Jl a c d e f g i j k l m n) [⟨[],[2],[4,5]⟩,⟨[],[0,2,3],[2,4,7,9]⟩]) (fun _=>Sg.cut 1 gO (bQ c8 (Jm a c d e f g i j k l m n) [⟨[],[0,1,2],[2,4,8,9,16]⟩]) (fun ⟨J,K,L,M⟩=>Sg.cut 1 gO (bQ c8 Jn [⟨[],[1],[4,5]⟩]) (fun ⟨N,O,P,Q,R,S⟩=>bQ c8 _ [⟨[],[0],[4,5]⟩]))))))))
    (fun x=>by cases x with | r0 A B C D E F=>exact mt [.agg [.bool false B,.imm .free (.ns .u64 C) 1 1 D E,.int .i64 F],.int .i64 ((A:Nat):Int)])
def lR:Option bW→Bool
  | some _=>true
  | none=>false
def kY:Option bW→Nat
  | some (.r0 x _ _ _ _ _)=>x
  | _=>0
def kZ:Option bW→Bool
  | some (.r0 _ x _ _ _ _)=>x
  | _=>false
def k8:Option bW→List Int
  | some (.r0 _ _ x _ _ _)=>x
  | _=>[]
def k9:Option bW→Nat
  | some (.r0 _ _ _ x _ _)=>x
  | _=>0
def lc:Option bW→Nat
  | some (.r0 _ _ _ _ x _)=>x
  | _=>0
def lf:Option bW→Int
  | some (.r0 _ _ _ _ _ x)=>x
  | _=>0
theorem Jp{x:Option bW}(h:lR x=true) :x=some (.r0 (kY x) (kZ x) (k8 x) (k9 x) (lc x) (lf x)):=by
  unfold lR at h
  split at h<;>first | rfl | (cases h;done) | (rename_i y;cases y;rfl)
def Cl:aD:=cy vj (.cons (.agg (.cons .bool (.cons (.ns .u64) (.cons (.int .i64) .nil)))) (.cons (.agg (.cons .bool (.cons (.ns .u64) (.cons (.int .i64) .nil)))) .nil)) fun t=>(fun q=>[⟨vO (.r0 (kY q) (kZ q) (k8 q) (k9 q) (lc q) (lf q)),[lR q]⟩]) (cm t.1.1 t.1.2.1.2 t.1.2.2.1 t.2.1.1 t.2.1.2.1.2 t.2.1.2.2.1)
theorem DG:aM prog Cl:=aR fun t=>(aS (fun h=>Jo t.1.1 t.1.2.1.1 t.1.2.1.2 t.1.2.2.1 t.2.1.1 t.2.1.2.1.1 t.2.1.2.1.2 t.2.1.2.2.1 (Jp h)) bj)
def Cm:List aD:=Cl::w6
theorem iD:aX prog (bc Cm):=an DG c8
inductive cN where
  | r0 (a:Nat) (b:Bool) (c:List Int) (d:Nat) (e:Nat) (f:Int)
def Cn:cN→AE×aE
  | .r0 a b c d e f=>(.ret,⟨ak 41 [(4,.ptr 0 1 0 0),(5,.int .i64 ((a:Nat):Int))],[(0,.vs [.bool false b,.imm .free (.ns .u64 c) 1 1 d e,.int .i64 f])],1⟩)
theorem sz:lM Cn:=by intro x;cases x<;>(intro h;cases h)
def vP:cN→gq
  | .r0 a b c d e f=>⟨.tup [.agg [.bool false b,.imm .free (.ns .u64 c) 1 1 d e,.int .i64 f],.int .i64 ((a:Nat):Int)],[]⟩
def Jq(a:Lv)(b:Lv) :Nat×Bool×(List Int)×Nat×Nat×Int×Bool×(List Int)×Nat×Nat×Int×Bool→aE:=fun (c,d,e,f,g,h,i,j,k,l,m,n)=>⟨ak 41 [(2,.ptr 0 1 0 0),(3,.ptr 1 1 0 0),(4,.ptr 2 1 0 0),(6,.int .i64 ((c:Nat):Int))],[(0,.vs [.bool false d,.imm a (.ns .u64 e) 1 1 f g,.int .i64 h]),(1,.vs [.bool false i,.imm b (.ns .u64 j) 1 1 k l,.int .i64 m]),(2,.vs [.bool false n,.nsl,.int .i64 (0:Int)])],3⟩
def zB(d : Bool)(a : List Int)(c : Int)(f : Bool)(b : List Int)(e : Int) : T ((Nat × Bool × (List Int) × Nat × Nat × Int × Bool × (List Int) × Nat × Nat × Int × Bool) ⊕ (cN)) :=
  .ask (decide ((0:Int)<(2:Int)))
    (.need (ik (0:Int) 2)<|.need (bg 0 (List.length a) a)<|.need (ez (ck (aa 0 (List.length a) a) c))<|.ask (!(dS (ck (aa 0 (List.length a) a) c)))
      (.leaf (.inl (2,d,a,0,(List.length a),c,f,b,0,(List.length b),e,false)))
      (.need (bg 0 (List.length a) a)<|.need (c7 (ai d (aa 0 (List.length a) a) c))<|.need (fF .i64 (1:Int))<|.ask (decide ((1:Int)<(2:Int)))
        (.need (ik (1:Int) 2)<|.need (bg 0 (List.length b) b)<|.need (ez (ck (aa 0 (List.length b) b) e))<|.ask (!(dS (ck (aa 0 (List.length b) b) e)))
          (.leaf (.inl (2,(bH (ai d (aa 0 (List.length a) a) c)),(bI (ai d (aa 0 (List.length a) a) c)),(bJ (ai d (aa 0 (List.length a) a) c)),(bK (ai d (aa 0 (List.length a) a) c)),(bL (ai d (aa 0 (List.length a) a) c)),f,b,0,(List.length b),e,false)))
          (.need (bg 0 (List.length b) b)<|.need (c7 (ai f (aa 0 (List.length b) b) e))<|.need (fF .i64 (2:Int))<|.ask (decide ((2:Int)<(2:Int)))
            (.fail)
            (.leaf (.inl (0,(bH (ai d (aa 0 (List.length a) a) c)),(bI (ai d (aa 0 (List.length a) a) c)),(bJ (ai d (aa 0 (List.length a) a) c)),(bK (ai d (aa 0 (List.length a) a) c)),(bL (ai d (aa 0 (List.length a) a) c)),(bH (ai f (aa 0 (List.length b) b) e)),(bI (ai f (aa 0 (List.length b) b) e)),(bJ (ai f (aa 0 (List.length b) b) e)),(bK (ai f (aa 0 (List.length b) b) e)),(bL (ai f (aa 0 (List.length b) b) e)),false)))))
        (.fail)))
    (.fail)
def Jr(a:Lv)(b:Lv)(c:Bool)(d:List Int)(e:Nat)(f:Nat)(g:Int)(h:Bool)(i:List Int)(j:Nat)(k:Nat)(l:Int)(m:Bool) :(List Int)×Nat×Nat×Nat→aE:=fun (n,o,p,q)=>⟨ak 41 [(2,.ptr 0 1 0 0),(3,.ptr 1 1 0 0),(4,.ptr 2 1 0 0),(7,.imm .free (.ns .u64 n) 1 1 o p),(8,.int .i64 ((q:Nat):Int))],[(0,.vs [.bool false c,.imm a (.ns .u64 d) 1 1 e f,.int .i64 g]),(1,.vs [.bool false h,.imm b (.ns .u64 i) 1 1 j k,.int .i64 l]),(2,.vs [.bool false m,.nsl,.int .i64 (0:Int)])],3⟩
def sA(g:Nat)(a:List Int)(b:Nat)(c:Nat)(d:List Int)(e:Nat)(f:Nat) :T (((List Int)×Nat×Nat×Nat)⊕(cN)) :=
  .ask (((g:Nat):Int) != (0:Int))
    (.leaf (.inr (.r0 g false ([]:List Int) 0 0 (0:Int))))
    (.need (bg b c a)<|.need (bg e f d)<|.need (qx (jf (aa b c a) (aa e f d)))<|.leaf (.inl ((qB (jf (aa b c a) (aa e f d))),(qy (jf (aa b c a) (aa e f d))),(qz (jf (aa b c a) (aa e f d))),(qA (jf (aa b c a) (aa e f d))))))
def Js:Nat×Bool×(List Int)×Nat×Nat×Int→aE:=fun (a,b,c,d,e,f)=>⟨ak 41 [(4,.ptr 0 1 0 0),(5,.int .i64 ((a:Nat):Int))],[(0,.vs [.bool false b,.imm .free (.ns .u64 c) 1 1 d e,.int .i64 f])],1⟩
def sB(f:Bool)(a:Int)(g:Bool)(b:Int)(c:List Int)(d:Nat)(e:Nat)(h:Nat) :T ((Nat×Bool×(List Int)×Nat×Nat×Int)⊕(cN)) :=
  .ask (((h:Nat):Int) != (0:Int))
    (.leaf (.inr (.r0 3 false ([]:List Int) 0 0 (0:Int))))
    (.need (fF .i64 (a+b))<|.need (bg d e c)<|.need (ig (bf (!(f==g)) (aa d e c) (a+b)))<|.leaf (.inl ((gI (bf (!(f==g)) (aa d e c) (a+b))),(gJ (bf (!(f==g)) (aa d e c) (a+b))),(gK (bf (!(f==g)) (aa d e c) (a+b))),(gL (bf (!(f==g)) (aa d e c) (a+b))),(gM (bf (!(f==g)) (aa d e c) (a+b))),(gN (bf (!(f==g)) (aa d e c) (a+b))))))
def Jt(a:Nat)(b:Bool)(c:List Int)(d:Nat)(e:Nat)(f:Int) :T ((Empty)⊕(cN)) :=
  .leaf (.inr (.r0 a b c d e f))
def cD(a:Bool)(b:List Int)(c:Int)(d:Bool)(e:List Int)(f:Int) :Option cN:=mr (aK ((zB a b c d e f).run) fun (g,h,i,j,k,l,m,n,o,p,q,B) =>
  aK ((sA g i j k n o p).run) fun (r,s,t,u) =>
  aK ((sB h l m q r s t u).run) fun (v,w,x,y,z,A) =>
  (Jt v w x y z A).run)
theorem Ju(e:Bool)(a:Lv)(c:List Int)(f:Int)(g:Bool)(b:Lv)(d:List Int)(i:Int){x:cN}(h:cD e c f g d i=some x) :ae prog vh [] [.agg [.bool false e,.imm a (.ns .u64 c) 1 1 0 (List.length c),.int .i64 f],.agg [.bool false g,.imm b (.ns .u64 d) 1 1 0 (List.length d),.int .i64 i]] (vP x) :=
  oh true vP Cn h (Sg.cut 2 sz (bQ iD (Jq a b) [⟨[],[0,16,32],[2,3,4,6]⟩,⟨[(.cell 0 1,.lev a)],[0,16,32],[2,3,4,6]⟩,⟨[(.cell 0 1,.lev a),(.cell 16 1,.lev b)],[0,16,32],[2,3,4,6]⟩]) (fun ⟨B,j,k,l,m,n,o,p,q,r,s,t⟩=>Sg.cut 3 sz (bQ iD (Jr a b j k l m n o p q r s t) [⟨[(.cell 2 1,.fre 1 1 (.ns .u64 ([]:List Int)))],[2],[4,5]⟩,⟨[],[0,1,2],[2,3,4,7,8]⟩]) (fun ⟨C,D,E,F⟩=>Sg.cut 3 sz (bQ iD Js [⟨[(.cell 2 1,.fre 1 1 (.ns .u64 ([]:List Int)))],[2],[4,5]⟩,⟨[],[2],[4,5]⟩]) (fun ⟨G,H,I,J,K,L⟩=>bQ iD _ [⟨[],[0],[4,5]⟩]))))
    (fun x=>by cases x with | r0 u v w y z A=>exact mt [.agg [.bool false v,.imm .free (.ns .u64 w) 1 1 y z,.int .i64 A],.int .i64 ((u:Nat):Int)])
def lS:Option cN→Bool
  | some _=>true
  | none=>false
def lh:Option cN→Nat
  | some (.r0 x _ _ _ _ _)=>x
  | _=>0
def lk:Option cN→Bool
  | some (.r0 _ x _ _ _ _)=>x
  | _=>false
def ln:Option cN→List Int
  | some (.r0 _ _ x _ _ _)=>x
  | _=>[]
def lp:Option cN→Nat
  | some (.r0 _ _ _ x _ _)=>x
  | _=>0
def lq:Option cN→Nat
  | some (.r0 _ _ _ _ x _)=>x
  | _=>0
def lr:Option cN→Int
  | some (.r0 _ _ _ _ _ x)=>x
  | _=>0
theorem Jv{x:Option cN}(h:lS x=true) :x=some (.r0 (lh x) (lk x) (ln x) (lp x) (lq x) (lr x)):=by
  unfold lS at h
  split at h<;>first | rfl | (cases h;done) | (rename_i y;cases y;rfl)
def Co:aD:=cy vh (.cons (.agg (.cons .bool (.cons (.ns .u64) (.cons (.int .i64) .nil)))) (.cons (.agg (.cons .bool (.cons (.ns .u64) (.cons (.int .i64) .nil)))) .nil)) fun t=>(fun q=>[⟨vP (.r0 (lh q) (lk q) (ln q) (lp q) (lq q) (lr q)),[lS q]⟩]) (cD t.1.1 t.1.2.1.2 t.1.2.2.1 t.2.1.1 t.2.1.2.1.2 t.2.1.2.2.1)
theorem DH:aM prog Co:=aR fun t=>(aS (fun h=>Ju t.1.1 t.1.2.1.1 t.1.2.1.2 t.1.2.2.1 t.2.1.1 t.2.1.2.1.1 t.2.1.2.1.2 t.2.1.2.2.1 (Jv h)) bj)
def Cp:List aD:=Co::Cm
theorem uF:aX prog (bc Cp):=an DH iD
inductive fI where
  | r0 (a:Int)
def Jw:fI→AE×aE
  | .r0 a=>(.ret,⟨ak 11 [(2,.int .i64 a)],[],0⟩)
def sC:fI→gq
  | .r0 a=>⟨.int .i64 a,[]⟩
def w7(a:Bool)(b:List Int) :T ((Empty)⊕(fI)) :=
  .ask ((((List.length b):Nat):Int)==(0:Int))
    (.leaf (.inr (.r0 (0:Int))))
    (.ask a
      (.leaf (.inr (.r0 (-1:Int))))
      (.leaf (.inr (.r0 (1:Int)))))
def dg(a:Bool)(b:List Int) :Option fI:=mr ((w7 a b).run)
theorem GM(b:Bool)(c:Lv)(a:List Int)(d:Int){x:fI}(h:dg b a=some x) :ae prog rN [] [.agg [.bool false b,.imm c (.ns .u64 a) 1 1 0 (List.length a),.int .i64 d]] (sC x) :=
  oh true sC Jw h (bQ uF _ [⟨[],[],[2]⟩,⟨[],[],[2]⟩,⟨[],[],[2]⟩])
    (fun x=>by cases x with | r0 e=>exact mt [.int .i64 e])
def dT:Option fI→Bool
  | some _=>true
  | none=>false
def cE:Option fI→Int
  | some (.r0 x)=>x
  | _=>0
theorem GN{x:Option fI}(h:dT x=true) :x=some (.r0 (cE x)):=by
  unfold dT at h
  split at h<;>first | rfl | (cases h;done) | (rename_i y;cases y;rfl)
def zC:aD:=cy rN (.cons (.agg (.cons .bool (.cons (.ns .u64) (.cons (.int .i64) .nil)))) .nil) fun t=>(fun q=>[⟨sC (.r0 (cE q)),[dT q]⟩]) (dg t.1.1 t.1.2.1.2)
theorem Cq:aM prog zC:=aR fun t=>(aS (fun h=>GM t.1.1 t.1.2.1.1 t.1.2.1.2 t.1.2.2.1 (GN h)) bj)
def zD:List aD:=zC::Cp
theorem fB:aX prog (bc zD):=an Cq uF
inductive dN where
  | r0 (a:Int) (b:Nat)
def Cr:dN→AE×aE
  | .r0 a b=>(.ret,⟨ak 52 [(4,.int .i64 a),(5,.int .i64 ((b:Nat):Int))],[],0⟩)
theorem oR:lM Cr:=by intro x;cases x<;>(intro h;cases h)
def vQ:dN→gq
  | .r0 a b=>⟨.tup [.int .i64 a,.int .i64 ((b:Nat):Int)],[]⟩
def Jx(a:Lv)(b:Lv) :Nat×Bool×(List Int)×Nat×Nat×Int×Bool×(List Int)×Nat×Nat×Int→aE:=fun (c,d,e,f,g,h,i,j,k,l,m)=>⟨ak 52 [(2,.ptr 0 1 0 0),(3,.ptr 1 1 0 0),(6,.int .i64 ((c:Nat):Int))],[(0,.vs [.bool false d,.imm a (.ns .u64 e) 1 1 f g,.int .i64 h]),(1,.vs [.bool false i,.imm b (.ns .u64 j) 1 1 k l,.int .i64 m])],2⟩
def zE(d : Bool)(a : List Int)(c : Int)(f : Bool)(b : List Int)(e : Int) : T ((Nat × Bool × (List Int) × Nat × Nat × Int × Bool × (List Int) × Nat × Nat × Int) ⊕ (dN)) :=
  .ask (decide ((0:Int)<(2:Int)))
    (.need (ik (0:Int) 2)<|.need (bg 0 (List.length a) a)<|.need (ez (ck (aa 0 (List.length a) a) c))<|.ask (!(dS (ck (aa 0 (List.length a) a) c)))
      (.leaf (.inl (2,d,a,0,(List.length a),c,f,b,0,(List.length b),e)))
      (.need (bg 0 (List.length a) a)<|.need (c7 (ai d (aa 0 (List.length a) a) c))<|.need (fF .i64 (1:Int))<|.ask (decide ((1:Int)<(2:Int)))
        (.need (ik (1:Int) 2)<|.need (bg 0 (List.length b) b)<|.need (ez (ck (aa 0 (List.length b) b) e))<|.ask (!(dS (ck (aa 0 (List.length b) b) e)))
          (.leaf (.inl (2,(bH (ai d (aa 0 (List.length a) a) c)),(bI (ai d (aa 0 (List.length a) a) c)),(bJ (ai d (aa 0 (List.length a) a) c)),(bK (ai d (aa 0 (List.length a) a) c)),(bL (ai d (aa 0 (List.length a) a) c)),f,b,0,(List.length b),e)))
          (.need (bg 0 (List.length b) b)<|.need (c7 (ai f (aa 0 (List.length b) b) e))<|.need (fF .i64 (2:Int))<|.ask (decide ((2:Int)<(2:Int)))
            (.fail)
            (.leaf (.inl (0,(bH (ai d (aa 0 (List.length a) a) c)),(bI (ai d (aa 0 (List.length a) a) c)),(bJ (ai d (aa 0 (List.length a) a) c)),(bK (ai d (aa 0 (List.length a) a) c)),(bL (ai d (aa 0 (List.length a) a) c)),(bH (ai f (aa 0 (List.length b) b) e)),(bI (ai f (aa 0 (List.length b) b) e)),(bJ (ai f (aa 0 (List.length b) b) e)),(bK (ai f (aa 0 (List.length b) b) e)),(bL (ai f (aa 0 (List.length b) b) e)))))))
        (.fail)))
    (.fail)
def Jy(a:Lv)(b:Lv)(c:Bool)(d:List Int)(e:Nat)(f:Nat)(g:Int)(h:Bool)(i:List Int)(j:Nat)(k:Nat)(l:Int) :Nat×Int×(List Int)×Nat×(List Int)×Nat→aE:=fun (m,n,o,p,q,r)=>⟨ak 52 [(2,.ptr 0 1 0 0),(3,.ptr 1 1 0 0),(7,.ptr 2 1 0 0),(8,.int .i64 ((m:Nat):Int))],[(0,.vs [.bool false c,.imm a (.ns .u64 d) 1 1 e f,.int .i64 g]),(1,.vs [.bool false h,.imm b (.ns .u64 i) 1 1 j k,.int .i64 l]),(2,.vs [.int .i64 n,.imm .free (.ns .u64 o) 1 1 0 p,.imm .free (.ns .u64 q) 1 1 0 r])],3⟩
def sD(i:Nat)(a:List Int)(b:Nat)(c:Nat)(g:Int)(d:List Int)(e:Nat)(f:Nat)(h:Int) :T ((Nat×Int×(List Int)×Nat×(List Int)×Nat)⊕(dN)) :=
  .ask (((i:Nat):Int) != (0:Int))
    (.leaf (.inr (.r0 (0:Int) i)))
    (.need (bg b c a)<|.need (bg e f d)<|.need (iC (bM (aa b c a) g (aa e f d) h))<|.leaf (.inl ((iJ (bM (aa b c a) g (aa e f d) h)),(iK (bM (aa b c a) g (aa e f d) h)),(iL (bM (aa b c a) g (aa e f d) h)),(iM (bM (aa b c a) g (aa e f d) h)),(iN (bM (aa b c a) g (aa e f d) h)),(iO (bM (aa b c a) g (aa e f d) h)))))
def Jz(a:Lv)(b:Lv)(c:Bool)(d:List Int)(e:Nat)(f:Nat)(g:Int)(h:Bool)(i:List Int)(j:Nat)(k:Nat)(l:Int)(m:Int) :aE:=⟨ak 52 [(2,.ptr 0 1 0 0),(3,.ptr 1 1 0 0),(9,.int .i64 m)],[(0,.vs [.bool false c,.imm a (.ns .u64 d) 1 1 e f,.int .i64 g]),(1,.vs [.bool false h,.imm b (.ns .u64 i) 1 1 j k,.int .i64 l])],2⟩
def sE(e:Nat)(a:List Int)(b:Nat)(c:List Int)(d:Nat) :T ((Int)⊕(dN)) :=
  .ask (((e:Nat):Int) != (0:Int))
    (.leaf (.inr (.r0 (0:Int) e)))
    (.need (bg 0 b a)<|.need (bg 0 d c)<|.need (nF (kt (aa 0 b a) (aa 0 d c)))<|.leaf (.inl (mH (kt (aa 0 b a) (aa 0 d c)))))
def JA(a:Int)(_:Unit) :aE:=⟨ak 52 [(9,.int .i64 a)],[],0⟩
def jh(g:Bool)(a:List Int)(b:Nat)(c:Nat)(h:Bool)(d:List Int)(e:Nat)(f:Nat)(i:Int) :T ((Unit)⊕(dN)) :=
  .need (bg b c a)<|.need (dT (dg g (aa b c a)))<|.need (bg e f d)<|.need (dT (dg h (aa e f d)))<|.ask ((cE (dg g (aa b c a))) != (cE (dg h (aa e f d))))
    (.need (bg b c a)<|.need (dT (dg g (aa b c a)))<|.need (bg e f d)<|.need (dT (dg h (aa e f d)))<|.need (fF .i64 ((cE (dg g (aa b c a)))-(cE (dg h (aa e f d)))))<|.leaf (.inr (.r0 (zP (-1:Int) (xJ (1:Int) ((cE (dg g (aa b c a)))-(cE (dg h (aa e f d)))))) 0)))
    (.ask g
      (.need (fF .i64 ((0:Int)-i))<|.leaf (.inr (.r0 ((0:Int)-i) 0)))
      (.leaf (.inl ())))
def GO(a:Int) :T ((Empty)⊕(dN)) :=
  .leaf (.inr (.r0 a 0))
def i7(h:Bool)(i:List Int)(j:Int)(k:Bool)(l:List Int)(m:Int) :Option dN:=mr (aK ((zE h i j k l m).run) fun (n,o,a,b,c,p,q,d,e,f,r) =>
  aK ((sD n a b c p d e f r).run) fun (s,x,t,u,v,w) =>
  aK ((sE s t u v w).run) fun g =>
  aK ((jh o a b c q d e f g).run) fun _ =>
  (GO g).run)
theorem JB(e:Bool)(a:Lv)(c:List Int)(f:Int)(g:Bool)(b:Lv)(d:List Int)(i:Int){x:dN}(h:i7 e c f g d i=some x) :ae prog vi [] [.agg [.bool false e,.imm a (.ns .u64 c) 1 1 0 (List.length c),.int .i64 f],.agg [.bool false g,.imm b (.ns .u64 d) 1 1 0 (List.length d),.int .i64 i]] (vQ x) :=
  oh true vQ Cr h (Sg.cut 2 oR (bQ fB (Jx a b) [⟨[],[0,16],[2,3,6]⟩,⟨[(.cell 0 1,.lev a)],[0,16],[2,3,6]⟩,⟨[(.cell 0 1,.lev a),(.cell 16 1,.lev b)],[0,16],[2,3,6]⟩]) (fun ⟨w,j,k,l,m,n,o,p,q,r,s⟩=>Sg.cut 3 oR (bQ fB (Jy a b j k l m n o p q r s) [⟨[],[],[4,5]⟩,⟨[],[0,1,130],[2,3,7,8]⟩]) (fun ⟨y,z,A,B,C,D⟩=>Sg.cut 3 oR (bQ fB (Jz a b j k l m n o p q r s) [⟨[],[],[4,5]⟩,⟨[],[0,1],[2,3,9]⟩]) (fun t=>Sg.cut 1 oR (bQ fB (JA t) [⟨[],[],[4,5]⟩,⟨[],[],[4,5]⟩,⟨[],[],[9]⟩]) (fun _=>bQ fB _ [⟨[],[],[4,5]⟩])))))
    (fun x=>by cases x with | r0 u v=>exact mt [.int .i64 u,.int .i64 ((v:Nat):Int)])
def oS:Option dN→Bool
  | some _=>true
  | none=>false
def pd:Option dN→Int
  | some (.r0 x _)=>x
  | _=>0
def pe:Option dN→Nat
  | some (.r0 _ x)=>x
  | _=>0
theorem JC{x:Option dN}(h:oS x=true) :x=some (.r0 (pd x) (pe x)):=by
  unfold oS at h
  split at h<;>first | rfl | (cases h;done) | (rename_i y;cases y;rfl)
def Cs:aD:=cy vi (.cons (.agg (.cons .bool (.cons (.ns .u64) (.cons (.int .i64) .nil)))) (.cons (.agg (.cons .bool (.cons (.ns .u64) (.cons (.int .i64) .nil)))) .nil)) fun t=>(fun q=>[⟨vQ (.r0 (pd q) (pe q)),[oS q]⟩]) (i7 t.1.1 t.1.2.1.2 t.1.2.2.1 t.2.1.1 t.2.1.2.1.2 t.2.1.2.2.1)
theorem DI:aM prog Cs:=aR fun t=>(aS (fun h=>JB t.1.1 t.1.2.1.1 t.1.2.1.2 t.1.2.2.1 t.2.1.1 t.2.1.2.1.1 t.2.1.2.1.2 t.2.1.2.2.1 (JC h)) bj)
def Ct:List aD:=Cs::zD
theorem lu:aX prog (bc Ct):=an DI fB
inductive cp where
  | r0 (a:Bool) (b:List Int) (c:Nat) (d:Nat) (e:Int)
def w8:cp→AE×aE
  | .r0 a b c d e=>(.ret,⟨ak 16 [(2,.ptr 0 1 0 0)],[(0,.vs [.bool false a,.imm .free (.ns .u64 b) 1 1 c d,.int .i64 e])],1⟩)
theorem uG:lM w8:=by intro x;cases x<;>(intro h;cases h)
def qV:cp→gq
  | .r0 a b c d e=>⟨.agg [.bool false a,.imm .free (.ns .u64 b) 1 1 c d,.int .i64 e],[]⟩
def DJ(a:Int) :Int×Bool→aE:=fun (b,c)=>⟨ak 16 [(0,.int .i64 a),(2,.ptr 0 1 0 0),(3,.int .u64 b)],[(0,.vs [.bool false c,.nsl,.int .i64 (0:Int)])],1⟩
def uH(a:Int) :T ((Int×Bool)⊕(cp)) :=
  .ask (decide (a<(0:Int)))
    (.leaf (.inl ((IntKind.u64.wrap ((0:Int)-(IntKind.u64.wrap a))),false)))
    (.leaf (.inl ((IntKind.u64.wrap a),false)))
def DK:Bool×(List Int)×Nat×Nat×Int→aE:=fun (a,b,c,d,e)=>⟨ak 16 [(2,.ptr 0 1 0 0)],[(0,.vs [.bool false a,.imm .free (.ns .u64 b) 1 1 c d,.int .i64 e])],1⟩
def pf(b:Int)(a:Int) :T ((Bool×(List Int)×Nat×Nat×Int)⊕(cp)) :=
  .need (je (aI a))<|.need (bg (bE (aI a)) (bF (aI a)) (bG (aI a)))<|.need (c7 (ai (decide (b<(0:Int))) (aa (bE (aI a)) (bF (aI a)) (bG (aI a))) (0:Int)))<|.leaf (.inl ((bH (ai (decide (b<(0:Int))) (aa (bE (aI a)) (bF (aI a)) (bG (aI a))) (0:Int))),(bI (ai (decide (b<(0:Int))) (aa (bE (aI a)) (bF (aI a)) (bG (aI a))) (0:Int))),(bJ (ai (decide (b<(0:Int))) (aa (bE (aI a)) (bF (aI a)) (bG (aI a))) (0:Int))),(bK (ai (decide (b<(0:Int))) (aa (bE (aI a)) (bF (aI a)) (bG (aI a))) (0:Int))),(bL (ai (decide (b<(0:Int))) (aa (bE (aI a)) (bF (aI a)) (bG (aI a))) (0:Int)))))
def DL(a:Bool)(b:List Int)(c:Nat)(d:Nat)(e:Int) :T ((Empty)⊕(cp)) :=
  .leaf (.inr (.r0 a b c d e))
def ax(a:Int) :Option cp:=mr (aK ((uH a).run) fun (b,h) =>
  aK ((pf a b).run) fun (c,d,e,f,g) =>
  (DL c d e f g).run)
theorem DM(a:Int){x:cp}(h:ax a=some x) :ae prog qg [] [.int .i64 a] (qV x) :=
  oh true qV w8 h (Sg.cut 4 uG (bQ lu (DJ a) [⟨[],[0],[0,2,3]⟩,⟨[],[0],[0,2,3]⟩]) (fun ⟨g,i⟩=>Sg.cut 1 uG (bQ lu DK [⟨[],[0],[2]⟩]) (fun ⟨j,k,l,m,n⟩=>bQ lu _ [⟨[],[0],[2]⟩])))
    (fun x=>by cases x with | r0 b c d e f=>exact mt [.agg [.bool false b,.imm .free (.ns .u64 c) 1 1 d e,.int .i64 f]])
def iE:Option cp→Bool
  | some _=>true
  | none=>false
def cH:Option cp→Bool
  | some (.r0 x _ _ _ _)=>x
  | _=>false
def b9:Option cp→List Int
  | some (.r0 _ x _ _ _)=>x
  | _=>[]
def cd:Option cp→Nat
  | some (.r0 _ _ x _ _)=>x
  | _=>0
def cg:Option cp→Nat
  | some (.r0 _ _ _ x _)=>x
  | _=>0
def cI:Option cp→Int
  | some (.r0 _ _ _ _ x)=>x
  | _=>0
theorem DN{x:Option cp}(h:iE x=true) :x=some (.r0 (cH x) (b9 x) (cd x) (cg x) (cI x)):=by
  unfold iE at h
  split at h<;>first | rfl | (cases h;done) | (rename_i y;cases y;rfl)
def w9:aD:=cy qg (.cons (.int .i64) .nil) fun t=>(fun q=>[⟨qV (.r0 (cH q) (b9 q) (cd q) (cg q) (cI q)),[iE q]⟩]) (ax t.1)
theorem z8:aM prog w9:=aR fun t=>(aS (fun h=>DM t.1 (DN h)) bj)
def xa:List aD:=w9::Ct
theorem mc:aX prog (bc xa):=an z8 lu
inductive ej where
  | r0 (a:Nat)
def xc:ej→AE×aE
  | .r0 a=>(.ret,⟨ak 26 [(2,.int .i64 ((a:Nat):Int))],[],0⟩)
theorem DO:lM xc:=by intro x;cases x<;>(intro h;cases h)
def qW:ej→gq
  | .r0 a=>⟨.int .i64 ((a:Nat):Int),[]⟩
def DP(_:Unit) :aE:=⟨ak 26 [],[],0⟩
def lw(a : Int) : T ((Unit) ⊕ (ej)) :=
  .need (decide ((0:Int)≤(52:Int)))<|.ask ((bv .and .u64 (Int.fdiv a (2^(min (Int.toNat (52:Int)) (IntKind.u64.bits)))) (2047:Int))==(2047:Int))
    (.ask ((bv .and .u64 a (4503599627370495:Int)) != (0:Int))
      (.leaf (.inr (.r0 5)))
      (.ask ((bv .and .u64 (Int.fdiv a (2^(min (Int.toNat (52:Int)) (IntKind.u64.bits)))) (2047:Int))==(2047:Int))
        (.leaf (.inr (.r0 4)))
        (.ask ((bv .and .u64 (Int.fdiv a (2^(min (Int.toNat (52:Int)) (IntKind.u64.bits)))) (2047:Int)) != (0:Int))
          (.leaf (.inr (.r0 3)))
          (.ask ((bv .and .u64 a (4503599627370495:Int)) != (0:Int))
            (.leaf (.inr (.r0 2)))
            (.leaf (.inl ()))))))
    (.ask ((bv .and .u64 (Int.fdiv a (2^(min (Int.toNat (52:Int)) (IntKind.u64.bits)))) (2047:Int))==(2047:Int))
      (.leaf (.inr (.r0 4)))
      (.ask ((bv .and .u64 (Int.fdiv a (2^(min (Int.toNat (52:Int)) (IntKind.u64.bits)))) (2047:Int)) != (0:Int))
        (.leaf (.inr (.r0 3)))
        (.ask ((bv .and .u64 a (4503599627370495:Int)) != (0:Int))
          (.leaf (.inr (.r0 2)))
          (.leaf (.inl ())))))
def DQ:T ((Empty)⊕(ej)) :=
  .leaf (.inr (.r0 1))
def jM(a:Int) :Option ej:=mr (aK ((lw a).run) fun _ =>
  (DQ).run)
theorem DR(a:Int){x:ej}(h:jM a=some x) :ae prog wE [] [.int .u64 a] (qW x) :=
  oh false qW xc h (Sg.cut 3 DO (bQ mc DP [⟨[],[],[2]⟩,⟨[],[],[2]⟩,⟨[],[],[2]⟩,⟨[],[],[2]⟩,⟨[],[],[]⟩,⟨[],[],[2]⟩,⟨[],[],[2]⟩,⟨[],[],[2]⟩,⟨[],[],[]⟩]) (fun _=>bQ mc _ [⟨[],[],[2]⟩]))
    (fun x=>by cases x with | r0 b=>exact mt [.int .i64 ((b:Nat):Int)])
def lz:Option ej→Bool
  | some _=>true
  | none=>false
def md:Option ej→Nat
  | some (.r0 x)=>x
  | _=>0
theorem DS{x:Option ej}(h:lz x=true) :x=some (.r0 (md x)):=by
  unfold lz at h
  split at h<;>first | rfl | (cases h;done) | (rename_i y;cases y;rfl)
def xd:aD:=cy wE (.cons (.int .u64) .nil) fun t=>(fun q=>[⟨qW (.r0 (md q)),[lz q]⟩]) (jM t.1)
theorem z9:aM prog xd:=aR fun t=>(aS (fun h=>DR t.1 (DS h)) bj)
def xe:List aD:=xd::xa
theorem me:aX prog (bc xe):=an z9 mc
inductive c9 where
  | r0 (a:Nat) (b:Bool) (c:Int) (d:Int)
def xf:c9→AE×aE
  | .r0 a b c d=>(.ret,⟨ak 36 [(2,.ptr 0 1 0 0),(3,.int .i64 ((a:Nat):Int))],[(0,.vs [.bool false b,.int .u64 c,.int .i64 d])],1⟩)
theorem DT:lM xf:=by intro x;cases x<;>(intro h;cases h)
def qX:c9→gq
  | .r0 a b c d=>⟨.tup [.agg [.bool false b,.int .u64 c,.int .i64 d],.int .i64 ((a:Nat):Int)],[]⟩
def DU(a:Int) :Nat×Bool×Bool×Int→aE:=fun (b,c,d,e)=>⟨ak 36 [(0,.int .u64 a),(2,.ptr 0 1 0 0),(4,.ptr 1 1 0 0),(12,.int .i64 ((b:Nat):Int))],[(0,.vs [.bool false c,.int .u64 (0:Int),.int .i64 (0:Int)]),(1,.vs [.bool false d,.int .u64 e,.int .i64 (-1074:Int)])],2⟩
def uI(a:Int) :T ((Nat×Bool×Bool×Int)⊕(c9)) :=
  .need (decide ((0:Int)≤(63:Int)))<|.need (lz (jM a))<|.leaf (.inl ((md (jM a)),false,((Int.fdiv a (2^(min (Int.toNat (63:Int)) (IntKind.u64.bits))))==(1:Int)),(bv .and .u64 a (4503599627370495:Int))))
def pg(a:Int)(b:Nat)(c:Bool)(d:Int) :T ((Empty)⊕(c9)) :=
  .ask (((b:Nat):Int)==(3:Int))
    (.need (decide ((0:Int)≤(52:Int)))<|.need (fF .i64 ((IntKind.i64.wrap (bv .and .u64 (Int.fdiv a (2^(min (Int.toNat (52:Int)) (IntKind.u64.bits)))) (2047:Int)))-(1:Int)))<|.need (fF .i64 ((-1074:Int)+((IntKind.i64.wrap (bv .and .u64 (Int.fdiv a (2^(min (Int.toNat (52:Int)) (IntKind.u64.bits)))) (2047:Int)))-(1:Int))))<|.leaf (.inr (.r0 0 c (bv .or .u64 d (4503599627370496:Int)) ((-1074:Int)+((IntKind.i64.wrap (bv .and .u64 (Int.fdiv a (2^(min (Int.toNat (52:Int)) (IntKind.u64.bits)))) (2047:Int)))-(1:Int))))))
    (.ask (((b:Nat):Int)==(2:Int))
      (.leaf (.inr (.r0 0 c d (-1074:Int))))
      (.ask (((b:Nat):Int)==(1:Int))
        (.leaf (.inr (.r0 0 c d (0:Int))))
        (.leaf (.inr (.r0 2 false (0:Int) (0:Int))))))
def cM(a:Int) :Option c9:=mr (aK ((uI a).run) fun (b,e,c,d) =>
  (pg a b c d).run)
theorem DV(a:Int){x:c9}(h:cM a=some x) :ae prog wC [] [.int .u64 a] (qX x) :=
  oh false qX xf h (Sg.cut 3 DT (bQ me (DU a) [⟨[],[0,128],[0,2,4,12]⟩]) (fun ⟨f,g,i,j⟩=>bQ me _ [⟨[],[0],[2,3]⟩,⟨[],[0],[2,3]⟩,⟨[],[0],[2,3]⟩,⟨[],[0],[2,3]⟩]))
    (fun x=>by cases x with | r0 b c d e=>exact mt [.agg [.bool false c,.int .u64 d,.int .i64 e],.int .i64 ((b:Nat):Int)])
def iF:Option c9→Bool
  | some _=>true
  | none=>false
def iS:Option c9→Nat
  | some (.r0 x _ _ _)=>x
  | _=>0
def iT:Option c9→Bool
  | some (.r0 _ x _ _)=>x
  | _=>false
def iU:Option c9→Int
  | some (.r0 _ _ x _)=>x
  | _=>0
def iV:Option c9→Int
  | some (.r0 _ _ _ x)=>x
  | _=>0
theorem DW{x:Option c9}(h:iF x=true) :x=some (.r0 (iS x) (iT x) (iU x) (iV x)):=by
  unfold iF at h
  split at h<;>first | rfl | (cases h;done) | (rename_i y;cases y;rfl)
def xg:aD:=cy wC (.cons (.int .u64) .nil) fun t=>(fun q=>[⟨qX (.r0 (iS q) (iT q) (iU q) (iV q)),[iF q]⟩]) (cM t.1)
theorem Aa:aM prog xg:=aR fun t=>(aS (fun h=>DV t.1 (DW h)) bj)
def xh:List aD:=xg::xe
theorem iW:aX prog (bc xh):=an Aa me
inductive dO where
  | r0 (a:Nat) (b:Bool) (c:List Int) (d:Nat) (e:Nat) (f:Int)
def E7:dO→AE×aE
  | .r0 a b c d e f=>(.ret,⟨ak 25 [(2,.ptr 0 1 0 0),(3,.int .i64 ((a:Nat):Int))],[(0,.vs [.bool false b,.imm .free (.ns .u64 c) 1 1 d e,.int .i64 f])],1⟩)
theorem Cu:lM E7:=by intro x;cases x<;>(intro h;cases h)
def yy:dO→gq
  | .r0 a b c d e f=>⟨.tup [.agg [.bool false b,.imm .free (.ns .u64 c) 1 1 d e,.int .i64 f],.int .i64 ((a:Nat):Int)],[]⟩
def L5:Nat×Bool×Bool×Int×Int→aE:=fun (a,b,c,d,e)=>⟨ak 25 [(2,.ptr 0 1 0 0),(4,.ptr 1 1 0 0),(5,.int .i64 ((a:Nat):Int))],[(0,.vs [.bool false b,.nsl,.int .i64 (0:Int)]),(1,.vs [.bool false c,.int .u64 d,.int .i64 e])],2⟩
def Cv(a:Nat) :T ((Nat×Bool×Bool×Int×Int)⊕(dO)) :=
  .ask (zO a a)
    (.need (iF (cM (9221120237041090560:Int)))<|.leaf (.inl ((iS (cM (9221120237041090560:Int))),false,(iT (cM (9221120237041090560:Int))),(iU (cM (9221120237041090560:Int))),(iV (cM (9221120237041090560:Int))))))
    (.alt 0
      (.need (!isNaN a)<|.need (iF (cM ((a:Nat):Int)))<|.leaf (.inl ((iS (cM ((a:Nat):Int))),false,(iT (cM ((a:Nat):Int))),(iU (cM ((a:Nat):Int))),(iV (cM ((a:Nat):Int))))))
      (.fail))
def L7:Bool×(List Int)×Nat×Nat×Int→aE:=fun (a,b,c,d,e)=>⟨ak 25 [(2,.ptr 0 1 0 0),(3,.int .i64 (0:Int))],[(0,.vs [.bool false a,.imm .free (.ns .u64 b) 1 1 c d,.int .i64 e])],1⟩
def vR(d:Nat)(b:Bool)(a:Int)(c:Int) :T ((Bool×(List Int)×Nat×Nat×Int)⊕(dO)) :=
  .ask (((d:Nat):Int) != (0:Int))
    (.leaf (.inr (.r0 d false ([]:List Int) 0 0 (0:Int))))
    (.need (je (aI a))<|.need (bg (bE (aI a)) (bF (aI a)) (bG (aI a)))<|.need (c7 (ai b (aa (bE (aI a)) (bF (aI a)) (bG (aI a))) c))<|.leaf (.inl ((bH (ai b (aa (bE (aI a)) (bF (aI a)) (bG (aI a))) c)),(bI (ai b (aa (bE (aI a)) (bF (aI a)) (bG (aI a))) c)),(bJ (ai b (aa (bE (aI a)) (bF (aI a)) (bG (aI a))) c)),(bK (ai b (aa (bE (aI a)) (bF (aI a)) (bG (aI a))) c)),(bL (ai b (aa (bE (aI a)) (bF (aI a)) (bG (aI a))) c)))))
def L8(a:Bool)(b:List Int)(c:Nat)(d:Nat)(e:Int) :T ((Empty)⊕(dO)) :=
  .leaf (.inr (.r0 0 a b c d e))
def dh(a:Nat) :Option dO:=mr (aK ((Cv a).run) fun (b,k,c,d,e) =>
  aK ((vR b c d e).run) fun (f,g,h,i,j) =>
  (L8 f g h i j).run)
theorem L9(a:Nat){x:dO}(h:dh a=some x) :ae prog xZ [] [.flt false a] (yy x) :=
  oh true yy E7 h (Sg.cut 2 Cu (bQ iW L5 [⟨[],[0,128],[2,4,5]⟩,⟨[],[0,128],[2,4,5]⟩]) (fun ⟨i,j,k,l,m⟩=>Sg.cut 3 Cu (bQ iW L7 [⟨[(.cell 0 1,.fre 1 1 (.ns .u64 ([]:List Int)))],[0],[2,3]⟩,⟨[],[0],[2,3]⟩]) (fun ⟨n,o,p,q,r⟩=>bQ iW _ [⟨[],[0],[2,3]⟩])))
    (fun x=>by cases x with | r0 b c d e f g=>exact mt [.agg [.bool false c,.imm .free (.ns .u64 d) 1 1 e f,.int .i64 g],.int .i64 ((b:Nat):Int)])
def nO:Option dO→Bool
  | some _=>true
  | none=>false
def mM:Option dO→Nat
  | some (.r0 x _ _ _ _ _)=>x
  | _=>0
def mN:Option dO→Bool
  | some (.r0 _ x _ _ _ _)=>x
  | _=>false
def mO:Option dO→List Int
  | some (.r0 _ _ x _ _ _)=>x
  | _=>[]
def mR:Option dO→Nat
  | some (.r0 _ _ _ x _ _)=>x
  | _=>0
def mS:Option dO→Nat
  | some (.r0 _ _ _ _ x _)=>x
  | _=>0
def mT:Option dO→Int
  | some (.r0 _ _ _ _ _ x)=>x
  | _=>0
theorem Ma{x:Option dO}(h:nO x=true) :x=some (.r0 (mM x) (mN x) (mO x) (mR x) (mS x) (mT x)):=by
  unfold nO at h
  split at h<;>first | rfl | (cases h;done) | (rename_i y;cases y;rfl)
def E8:aD:=cy xZ (.cons (.flt false) .nil) fun t=>(fun q=>[⟨yy (.r0 (mM q) (mN q) (mO q) (mR q) (mS q) (mT q)),[nO q]⟩]) (dh t.1)
theorem GQ:aM prog E8:=aR fun t=>(aS (fun h=>L9 t.1 (Ma h)) bj)
def E9:List aD:=E8::xh
theorem qY:aX prog (bc E9):=an GQ iW
inductive fO where
  | r0 (a:Bool)
def Cw:fO→AE×aE
  | .r0 a=>(.ret,⟨ak 16 [(2,.bool false a)],[],0⟩)
theorem JD:lM Cw:=by intro x;cases x<;>(intro h;cases h)
def vS:fO→gq
  | .r0 a=>⟨.bool false a,[]⟩
def JE(a:Bool) :aE:=⟨ak 16 [(2,.bool false a)],[],0⟩
def zF(a:Nat) :T ((Bool)⊕(fO)) :=
  .ask (ui (aC a) 0)
    (.leaf (.inl true))
    (.ask (Q6 (aC a) 2805742567851819008)
      (.leaf (.inl (RF (aC a) 6408622269748215808)))
      (.leaf (.inl false)))
def JF(a:Bool) :T ((Empty)⊕(fO)) :=
  .leaf (.inr (.r0 a))
def i8(a:Nat) :Option fO:=mr (aK ((zF a).run) fun b =>
  (JF b).run)
theorem JG(a:Nat){x:fO}(h:i8 a=some x) :ae prog Bq [] [.flt false a] (vS x) :=
  oh false vS Cw h (Sg.cut 3 JD (bQ qY JE [⟨[],[],[2]⟩,⟨[],[],[2]⟩,⟨[],[],[2]⟩]) (fun c=>bQ qY _ [⟨[],[],[2]⟩]))
    (fun x=>by cases x with | r0 b=>exact mt [.bool false b])
def lT:Option fO→Bool
  | some _=>true
  | none=>false
def lA:Option fO→Bool
  | some (.r0 x)=>x
  | _=>false
theorem JH{x:Option fO}(h:lT x=true) :x=some (.r0 (lA x)):=by
  unfold lT at h
  split at h<;>first | rfl | (cases h;done) | (rename_i y;cases y;rfl)
def Cx:aD:=cy Bq (.cons (.flt false) .nil) fun t=>(fun q=>[⟨vS (.r0 (lA q)),[lT q]⟩]) (i8 t.1)
theorem DX:aM prog Cx:=aR fun t=>(aS (fun h=>JG t.1 (JH h)) bj)
def Cy:List aD:=Cx::E9
theorem uJ:aX prog (bc Cy):=an DX qY
inductive cU where
  | r0 (a:Nat) (s2:Nat) (r3:Nat)
def Cz:cU→AE×aE
  | .r0 a s2 r3=>(.ret,⟨ak 59 [(4,.flt false a),(5,.flt false s2),(6,.flt false r3)],[],0⟩)
def nP:cU→gq
  | .r0 a s2 r3=>⟨.tup [.flt false a,.flt false s2,.flt false r3],[]⟩
def gd(a:Nat)(b:Nat) :T ((Empty)⊕(cU)) :=
  .ask (ui b 0)
    (.leaf (.inr (.r0 4607182418800017408 0 a)))
    (.ask (ui a 0)
      (.leaf (.inr (.r0 0 4607182418800017408 b)))
      (.ask (xF (aC a) (aC b))
        (.leaf (.inr (.r0 (fdiv 4607182418800017408 (bP (cQ 4607182418800017408 (aP (fdiv b a) (fdiv b a))))) (aP (fdiv 4607182418800017408 (bP (cQ 4607182418800017408 (aP (fdiv b a) (fdiv b a))))) (fdiv b a)) (aP a (bP (cQ 4607182418800017408 (aP (fdiv b a) (fdiv b a))))))))
        (.leaf (.inr (.r0 (aP (fdiv 4607182418800017408 (bP (cQ 4607182418800017408 (aP (fdiv a b) (fdiv a b))))) (fdiv a b)) (fdiv 4607182418800017408 (bP (cQ 4607182418800017408 (aP (fdiv a b) (fdiv a b))))) (aP b (bP (cQ 4607182418800017408 (aP (fdiv a b) (fdiv a b))))))))))
def eO(a:Nat)(b:Nat) :Option cU:=mr ((gd a b).run)
theorem Ab(a:Nat)(b:Nat){x:cU}(h:eO a b=some x) :ae prog rK [] [.flt false a,.flt false b] (nP x) :=
  oh false nP Cz h (bQ uJ _ [⟨[],[],[4,5,6]⟩,⟨[],[],[4,5,6]⟩,⟨[],[],[4,5,6]⟩,⟨[],[],[4,5,6]⟩])
    (fun x=>by cases x with | r0 c s2 r3=>exact mt [.flt false c,.flt false s2,.flt false r3])
def iX:Option cU→Bool
  | some _=>true
  | none=>false
def jN:Option cU→Nat
  | some (.r0 x _ _)=>x
  | _=>0
def jO:Option cU→Nat
  | some (.r0 _ x _)=>x
  | _=>0
def jP:Option cU→Nat
  | some (.r0 _ _ x)=>x
  | _=>0
theorem Ac{x:Option cU}(h:iX x=true) :x=some (.r0 (jN x) (jO x) (jP x)):=by
  unfold iX at h
  split at h<;>first | rfl | (cases h;done) | (rename_i y;cases y;rfl)
def sF:aD:=cy rK (.cons (.flt false) (.cons (.flt false) .nil)) fun t=>(fun q=>[⟨nP (.r0 (jN q) (jO q) (jP q)),[iX q]⟩]) (eO t.1 t.2.1)
theorem xi:aM prog sF:=aR fun t=>(aS (fun h=>Ab t.1 t.2.1 (Ac h)) bj)
def sG:List aD:=sF::Cy
theorem jQ:aX prog (bc sG):=an xi uJ
inductive dU where
  | r0 (a:Nat)
def uK:dU→AE×aE
  | .r0 a=>(.ret,⟨ak 30 [(4,.flt false a)],[],0⟩)
theorem CA:lM uK:=by intro x;cases x<;>(intro h;cases h)
def ph:dU→gq
  | .r0 a=>⟨.flt false a,[]⟩
def CB:Nat×Nat→aE:=fun (a,b)=>⟨ak 30 [(5,.flt false a),(6,.flt false b)],[],0⟩
def nQ(a:Nat)(b:Nat) :T ((Nat×Nat)⊕(dU)) :=
  .ask (xF (aC b) (aC a))
    (.leaf (.inl ((aC b),(aC a))))
    (.leaf (.inl ((aC a),(aC b))))
def nR(a:Nat)(b:Nat) :T ((Empty)⊕(dU)) :=
  .ask (ui a 0)
    (.leaf (.inr (.r0 a)))
    (.leaf (.inr (.r0 (aP a (bP (cQ 4607182418800017408 (aP (fdiv b a) (fdiv b a))))))))
def ff(a:Nat)(b:Nat) :Option dU:=mr (aK ((nQ a b).run) fun (c,d) =>
  (nR c d).run)
theorem CC(a:Nat)(b:Nat){x:dU}(h:ff a b=some x) :ae prog uu [] [.flt false a,.flt false b] (ph x) :=
  oh false ph uK h (Sg.cut 4 CA (bQ jQ CB [⟨[],[],[5,6]⟩,⟨[],[],[5,6]⟩]) (fun ⟨d,e⟩=>bQ jQ _ [⟨[],[],[4]⟩,⟨[],[],[4]⟩]))
    (fun x=>by cases x with | r0 c=>exact mt [.flt false c])
def fC:Option dU→Bool
  | some _=>true
  | none=>false
def fD:Option dU→Nat
  | some (.r0 x)=>x
  | _=>0
theorem CD{x:Option dU}(h:fC x=true) :x=some (.r0 (fD x)):=by
  unfold fC at h
  split at h<;>first | rfl | (cases h;done) | (rename_i y;cases y;rfl)
def uL:aD:=cy uu (.cons (.flt false) (.cons (.flt false) .nil)) fun t=>(fun q=>[⟨ph (.r0 (fD q)),[fC q]⟩]) (ff t.1 t.2.1)
theorem yz:aM prog uL:=aR fun t=>(aS (fun h=>CC t.1 t.2.1 (CD h)) bj)
def uM:List aD:=uL::sG
theorem kB:aX prog (bc uM):=an yz jQ
inductive dr where
  | r0 (a:Nat) (b:Bool) (c:List Int) (d:Nat) (e:Nat) (f:Int)
def CE:dr→AE×aE
  | .r0 a b c d e f=>(.ret,⟨ak 15 [(4,.ptr 0 1 0 0),(5,.int .i64 ((a:Nat):Int))],[(0,.vs [.bool false b,.imm .free (.ns .u64 c) 1 1 d e,.int .i64 f])],1⟩)
theorem JI:lM CE:=by intro x;cases x<;>(intro h;cases h)
def vT:dr→gq
  | .r0 a b c d e f=>⟨.tup [.agg [.bool false b,.imm .free (.ns .u64 c) 1 1 d e,.int .i64 f],.int .i64 ((a:Nat):Int)],[]⟩
def JJ:Nat×Bool×(List Int)×Nat×Nat×Int→aE:=fun (a,b,c,d,e,f)=>⟨ak 15 [(4,.ptr 0 1 0 0),(5,.int .i64 ((a:Nat):Int))],[(0,.vs [.bool false b,.imm .free (.ns .u64 c) 1 1 d e,.int .i64 f])],1⟩
def zG(c:Bool)(a:List Int)(d:Int)(e:Bool)(b:List Int)(f:Int) :T ((Nat×Bool×(List Int)×Nat×Nat×Int)⊕(dr)) :=
  .need (bg 0 (List.length a) a)<|.need (bg 0 (List.length b) b)<|.need (lR (cm c (aa 0 (List.length a) a) d (!e) (aa 0 (List.length b) b) f))<|.leaf (.inl ((kY (cm c (aa 0 (List.length a) a) d (!e) (aa 0 (List.length b) b) f)),(kZ (cm c (aa 0 (List.length a) a) d (!e) (aa 0 (List.length b) b) f)),(k8 (cm c (aa 0 (List.length a) a) d (!e) (aa 0 (List.length b) b) f)),(k9 (cm c (aa 0 (List.length a) a) d (!e) (aa 0 (List.length b) b) f)),(lc (cm c (aa 0 (List.length a) a) d (!e) (aa 0 (List.length b) b) f)),(lf (cm c (aa 0 (List.length a) a) d (!e) (aa 0 (List.length b) b) f))))
def JK(a:Nat)(b:Bool)(c:List Int)(d:Nat)(e:Nat)(f:Int) :T ((Empty)⊕(dr)) :=
  .leaf (.inr (.r0 a b c d e f))
def fg(a:Bool)(b:List Int)(c:Int)(d:Bool)(e:List Int)(f:Int) :Option dr:=mr (aK ((zG a b c d e f).run) fun (g,h,i,j,k,l) =>
  (JK g h i j k l).run)
theorem JL(c:Bool)(g:Lv)(a:List Int)(d:Int)(e:Bool)(i:Lv)(b:List Int)(f:Int){x:dr}(h:fg c a d e b f=some x) :ae prog vg [] [.agg [.bool false c,.imm g (.ns .u64 a) 1 1 0 (List.length a),.int .i64 d],.agg [.bool false e,.imm i (.ns .u64 b) 1 1 0 (List.length b),.int .i64 f]] (vT x) :=
  oh true vT CE h (Sg.cut 3 JI (bQ kB JJ [⟨[],[32],[4,5]⟩]) (fun ⟨p,q,r,s,t,u⟩=>bQ kB _ [⟨[],[0],[4,5]⟩]))
    (fun x=>by cases x with | r0 j k l m n o=>exact mt [.agg [.bool false k,.imm .free (.ns .u64 l) 1 1 m n,.int .i64 o],.int .i64 ((j:Nat):Int)])
def oT:Option dr→Bool
  | some _=>true
  | none=>false
def pj:Option dr→Nat
  | some (.r0 x _ _ _ _ _)=>x
  | _=>0
def pk:Option dr→Bool
  | some (.r0 _ x _ _ _ _)=>x
  | _=>false
def pm:Option dr→List Int
  | some (.r0 _ _ x _ _ _)=>x
  | _=>[]
def pn:Option dr→Nat
  | some (.r0 _ _ _ x _ _)=>x
  | _=>0
def po:Option dr→Nat
  | some (.r0 _ _ _ _ x _)=>x
  | _=>0
def pq:Option dr→Int
  | some (.r0 _ _ _ _ _ x)=>x
  | _=>0
theorem JM{x:Option dr}(h:oT x=true) :x=some (.r0 (pj x) (pk x) (pm x) (pn x) (po x) (pq x)):=by
  unfold oT at h
  split at h<;>first | rfl | (cases h;done) | (rename_i y;cases y;rfl)
def CF:aD:=cy vg (.cons (.agg (.cons .bool (.cons (.ns .u64) (.cons (.int .i64) .nil)))) (.cons (.agg (.cons .bool (.cons (.ns .u64) (.cons (.int .i64) .nil)))) .nil)) fun t=>(fun q=>[⟨vT (.r0 (pj q) (pk q) (pm q) (pn q) (po q) (pq q)),[oT q]⟩]) (fg t.1.1 t.1.2.1.2 t.1.2.2.1 t.2.1.1 t.2.1.2.1.2 t.2.1.2.2.1)
theorem DY:aM prog CF:=aR fun t=>(aS (fun h=>JL t.1.1 t.1.2.1.1 t.1.2.1.2 t.1.2.2.1 t.2.1.1 t.2.1.2.1.1 t.2.1.2.1.2 t.2.1.2.2.1 (JM h)) bj)
def CG:List aD:=CF::uM
theorem lB:aX prog (bc CG):=an DY kB
inductive dl where
  | r0 (a:Bool)
def uN:dl→AE×aE
  | .r0 a=>(.ret,⟨ak 18 [(2,.bool false a)],[],0⟩)
theorem sH:lM uN:=by intro x;cases x<;>(intro h;cases h)
def pt:dl→gq
  | .r0 a=>⟨.bool false a,[]⟩
def CH(b:Lv)(a:List Int)(c:Int) :Nat×Bool→aE:=fun (d,e)=>⟨ak 18 [(1,.ptr 0 1 0 0),(4,.int .i64 ((d:Nat):Int))],[(0,.vs [.bool false e,.imm b (.ns .u64 a) 1 1 0 (List.length a),.int .i64 c])],1⟩
def sI(a:List Int) :T ((Nat×Bool)⊕(dl)) :=
  .need (bg 0 (List.length a) a)<|.need (gF (dG (aa 0 (List.length a) a)))<|.leaf (.inl ((kQ (dG (aa 0 (List.length a) a))),false))
def CI(a:Bool) :aE:=⟨ak 18 [(2,.bool false a)],[],0⟩
def CJ(a:Int)(b:Nat) :T ((Bool)⊕(dl)) :=
  .ask (((b:Nat):Int)==(0:Int))
    (.ask (decide (a≥(-262144:Int)))
      (.leaf (.inl (decide (a≤(262144:Int)))))
      (.leaf (.inl false)))
    (.leaf (.inl false))
def CL(a:Bool) :T ((Empty)⊕(dl)) :=
  .leaf (.inr (.r0 a))
def iG(a:List Int)(b:Int) :Option dl:=mr (aK ((sI a).run) fun (c,e) =>
  aK ((CJ b c).run) fun d =>
  (CL d).run)
theorem CM(c:Lv)(a:List Int)(b:Int){x:dl}(h:iG a b=some x) :ae prog nt [] [.agg [.bool true false,.imm c (.ns .u64 a) 1 1 0 (List.length a),.int .i64 b]] (pt x) :=
  oh true pt uN h (Sg.cut 2 sH (bQ lB (CH c a b) [⟨[],[0],[1,4]⟩]) (fun ⟨e,f⟩=>Sg.cut 1 sH (bQ lB CI [⟨[],[],[2]⟩,⟨[],[],[2]⟩,⟨[],[],[2]⟩]) (fun g=>bQ lB _ [⟨[],[],[2]⟩])))
    (fun x=>by cases x with | r0 d=>exact mt [.bool false d])
def jR:Option dl→Bool
  | some _=>true
  | none=>false
def kC:Option dl→Bool
  | some (.r0 x)=>x
  | _=>false
theorem CN{x:Option dl}(h:jR x=true) :x=some (.r0 (kC x)):=by
  unfold jR at h
  split at h<;>first | rfl | (cases h;done) | (rename_i y;cases y;rfl)
def uO:aD:=cy nt (.cons (.agg (.cons (.kbool false) (.cons (.ns .u64) (.cons (.int .i64) .nil)))) .nil) fun t=>(fun q=>[⟨pt (.r0 (kC q)),[jR q]⟩]) (iG t.1.2.1.2 t.1.2.2.1)
theorem yA:aM prog uO:=aR fun t=>(aS (fun h=>CM t.1.2.1.1 t.1.2.1.2 t.1.2.2.1 (CN h)) bj)
def uP:List aD:=uO::CG
theorem fE:aX prog (bc uP):=an yA lB
inductive bA where
  | r0 (a:Bool) (b:List Int) (c:Nat) (d:Nat) (e:Int)
def sJ:bA→AE×aE
  | .r0 a b c d e=>(.ret,⟨ak 37 [(2,.ptr 0 1 0 0)],[(0,.vs [.bool false a,.imm .free (.ns .u64 b) 1 1 c d,.int .i64 e])],1⟩)
theorem mh:lM sJ:=by intro x;cases x<;>(intro h;cases h)
def nT:bA→gq
  | .r0 a b c d e=>⟨.agg [.bool false a,.imm .free (.ns .u64 b) 1 1 c d,.int .i64 e],[]⟩
def Ad(c:Lv)(a:List Int)(d:Int) :(List Int)×Nat×Bool→aE:=fun (e,f,b)=>⟨ak 37 [(1,.ptr 0 1 0 0),(2,.ptr 1 1 0 0),(3,.imm .free (.ns .u64 e) 1 1 0 f)],[(0,.vs [.bool false b,.imm c (.ns .u64 a) 1 1 0 (List.length a),.int .i64 d]),(1,.vs [.bool false b,.nsl,.int .i64 (0:Int)])],2⟩
def mi(a:List Int) :T (((List Int)×Nat×Bool)⊕(bA)) :=
  .need (bg 0 (List.length a) a)<|.need (gF (dG (aa 0 (List.length a) a)))<|.leaf (.inl ((kR (dG (aa 0 (List.length a) a))),(kP (dG (aa 0 (List.length a) a))),false))
def Ae(c:Lv)(a:List Int)(d:Int)(e:List Int)(f:Nat)(b:Bool)(g:Int) :aE:=⟨ak 37 [(1,.ptr 0 1 0 0),(2,.ptr 1 1 0 0),(3,.imm .free (.ns .u64 e) 1 1 0 f),(5,.int .i64 g)],[(0,.vs [.bool false b,.imm c (.ns .u64 a) 1 1 0 (List.length a),.int .i64 d]),(1,.vs [.bool false b,.nsl,.int .i64 (0:Int)])],2⟩
def mj(b:List Int)(a:Nat) :T ((Int)⊕(bA)) :=
  .ask (((a:Nat):Int)==(0:Int))
    (.leaf (.inr (.r0 false ([]:List Int) 0 0 (0:Int))))
    (.need (bg 0 a b)<|.need (jI (gG (aa 0 a b)))<|.leaf (.inl (jJ (gG (aa 0 a b)))))
def Af(c:Lv)(a:List Int)(d:Int)(b:Bool)(e:Int) :(List Int)×Nat×Nat→aE:=fun (f,g,h)=>⟨ak 37 [(1,.ptr 0 1 0 0),(2,.ptr 1 1 0 0),(3,.imm .free (.ns .u64 f) 1 1 g h),(5,.int .i64 e)],[(0,.vs [.bool false b,.imm c (.ns .u64 a) 1 1 0 (List.length a),.int .i64 d]),(1,.vs [.bool false b,.nsl,.int .i64 (0:Int)])],2⟩
def ml(a:List Int)(b:Nat)(c:Int) :T (((List Int)×Nat×Nat)⊕(bA)) :=
  .need (bg 0 b a)<|.need (nL (fA (aa 0 b a) c))<|.leaf (.inl ((mJ (fA (aa 0 b a) c)),(mK (fA (aa 0 b a) c)),(mL (fA (aa 0 b a) c))))
def Ag(a:Int)(c:Bool)(b:Int)(d:List Int)(e:Nat)(f:Nat) :T ((Empty)⊕(bA)) :=
  .need (fF .i64 (a+b))<|.leaf (.inr (.r0 c d e f (a+b)))
def dt(d:List Int)(e:Int) :Option bA:=mr (aK ((mi d).run) fun (a,b,f) =>
  aK ((mj a b).run) fun c =>
  aK ((ml a b c).run) fun (g,h,i) =>
  (Ag e f c g h i).run)
theorem Ah(c:Lv)(a:List Int)(b:Int){x:bA}(h:dt a b=some x) :ae prog lL [] [.agg [.bool true false,.imm c (.ns .u64 a) 1 1 0 (List.length a),.int .i64 b]] (nT x) :=
  oh true nT sJ h (Sg.cut 2 mh (bQ fE (Ad c a b) [⟨[],[0,16],[1,2,3]⟩]) (fun ⟨e,f,d⟩=>Sg.cut 3 mh (bQ fE (Ae c a b e f d) [⟨[(.cell 1 1,.fre 1 1 (.ns .u64 ([]:List Int)))],[1],[2]⟩,⟨[],[0,1],[1,2,3,5]⟩]) (fun g=>Sg.cut 1 mh (bQ fE (Af c a b d g) [⟨[],[0,1],[1,2,3,5]⟩]) (fun ⟨n,o,p⟩=>bQ fE _ [⟨[],[1],[2]⟩]))))
    (fun x=>by cases x with | r0 i j k l m=>exact mt [.agg [.bool false i,.imm .free (.ns .u64 j) 1 1 k l,.int .i64 m]])
def iY:Option bA→Bool
  | some _=>true
  | none=>false
def jS:Option bA→Bool
  | some (.r0 x _ _ _ _)=>x
  | _=>false
def jT:Option bA→List Int
  | some (.r0 _ x _ _ _)=>x
  | _=>[]
def jU:Option bA→Nat
  | some (.r0 _ _ x _ _)=>x
  | _=>0
def jV:Option bA→Nat
  | some (.r0 _ _ _ x _)=>x
  | _=>0
def jW:Option bA→Int
  | some (.r0 _ _ _ _ x)=>x
  | _=>0
theorem Ai{x:Option bA}(h:iY x=true) :x=some (.r0 (jS x) (jT x) (jU x) (jV x) (jW x)):=by
  unfold iY at h
  split at h<;>first | rfl | (cases h;done) | (rename_i y;cases y;rfl)
def sK:aD:=cy lL (.cons (.agg (.cons (.kbool false) (.cons (.ns .u64) (.cons (.int .i64) .nil)))) .nil) fun t=>(fun q=>[⟨nT (.r0 (jS q) (jT q) (jU q) (jV q) (jW q)),[iY q]⟩]) (dt t.1.2.1.2 t.1.2.2.1)
theorem xj:aM prog sK:=aR fun t=>(aS (fun h=>Ah t.1.2.1.1 t.1.2.1.2 t.1.2.2.1 (Ai h)) bj)
def sL:List aD:=sK::uP
theorem gw:aX prog (bc sL):=an xj fE
inductive cF where
  | r0 (a:Nat) (b:Bool) (c:List Int) (d:Nat) (e:Nat) (f:Int)
def zH:cF→AE×aE
  | .r0 a b c d e f=>(.ret,⟨ak 15 [(2,.ptr 0 1 0 0),(3,.int .i64 ((a:Nat):Int))],[(0,.vs [.bool false b,.imm .free (.ns .u64 c) 1 1 d e,.int .i64 f])],1⟩)
theorem xk:lM zH:=by intro x;cases x<;>(intro h;cases h)
def sM:cF→gq
  | .r0 a b c d e f=>⟨.tup [.agg [.bool false b,.imm .free (.ns .u64 c) 1 1 d e,.int .i64 f],.int .i64 ((a:Nat):Int)],[]⟩
def GR(a:Lv) :Nat×Bool×(List Int)×Nat×Nat×Int×Bool→aE:=fun (b,c,d,e,f,g,h)=>⟨ak 15 [(1,.ptr 0 1 0 0),(2,.ptr 1 1 0 0),(4,.int .i64 ((b:Nat):Int))],[(0,.vs [.bool false c,.imm a (.ns .u64 d) 1 1 e f,.int .i64 g]),(1,.vs [.bool false h,.nsl,.int .i64 (0:Int)])],2⟩
def xn(a:List Int)(b:Int) :T ((Nat×Bool×(List Int)×Nat×Nat×Int×Bool)⊕(cF)) :=
  .ask (decide ((0:Int)<(1:Int)))
    (.need (ik (0:Int) 1)<|.need (bg 0 (List.length a) a)<|.need (jR (iG (aa 0 (List.length a) a) b))<|.ask (!(kC (iG (aa 0 (List.length a) a) b)))
      (.leaf (.inl (2,false,a,0,(List.length a),b,false)))
      (.need (bg 0 (List.length a) a)<|.need (iY (dt (aa 0 (List.length a) a) b))<|.need (fF .i64 (1:Int))<|.ask (decide ((1:Int)<(1:Int)))
        (.fail)
        (.leaf (.inl (0,(jS (dt (aa 0 (List.length a) a) b)),(jT (dt (aa 0 (List.length a) a) b)),(jU (dt (aa 0 (List.length a) a) b)),(jV (dt (aa 0 (List.length a) a) b)),(jW (dt (aa 0 (List.length a) a) b)),false)))))
    (.fail)
def GS:Nat×Bool×(List Int)×Nat×Nat×Int→aE:=fun (a,b,c,d,e,f)=>⟨ak 15 [(2,.ptr 0 1 0 0),(3,.int .i64 ((a:Nat):Int))],[(0,.vs [.bool false b,.imm .free (.ns .u64 c) 1 1 d e,.int .i64 f])],1⟩
def qZ(f:Nat)(d:Bool)(a:List Int)(b:Nat)(c:Nat)(e:Int) :T ((Nat×Bool×(List Int)×Nat×Nat×Int)⊕(cF)) :=
  .ask (((f:Nat):Int) != (0:Int))
    (.leaf (.inr (.r0 f false ([]:List Int) 0 0 (0:Int))))
    (.need (bg b c a)<|.need (ig (bf d (aa b c a) e))<|.leaf (.inl ((gI (bf d (aa b c a) e)),(gJ (bf d (aa b c a) e)),(gK (bf d (aa b c a) e)),(gL (bf d (aa b c a) e)),(gM (bf d (aa b c a) e)),(gN (bf d (aa b c a) e)))))
def GT(a:Nat)(b:Bool)(c:List Int)(d:Nat)(e:Nat)(f:Int) :T ((Empty)⊕(cF)) :=
  .leaf (.inr (.r0 a b c d e f))
def eB(a:List Int)(b:Int) :Option cF:=mr (aK ((xn a b).run) fun (c,d,e,f,g,h,o) =>
  aK ((qZ c d e f g h).run) fun (i,j,k,l,m,n) =>
  (GT i j k l m n).run)
theorem GU(a:Lv)(b:List Int)(c:Int){x:cF}(h:eB b c=some x) :ae prog rO [] [.agg [.bool true false,.imm a (.ns .u64 b) 1 1 0 (List.length b),.int .i64 c]] (sM x) :=
  oh true sM zH h (Sg.cut 2 xk (bQ gw (GR a) [⟨[],[0,16],[1,2,4]⟩,⟨[(.cell 0 1,.lev a)],[0,16],[1,2,4]⟩]) (fun ⟨k,l,m,n,o,p,q⟩=>Sg.cut 3 xk (bQ gw GS [⟨[(.cell 1 1,.fre 1 1 (.ns .u64 ([]:List Int)))],[1],[2,3]⟩,⟨[],[1],[2,3]⟩]) (fun ⟨r,s,t,u,v,w⟩=>bQ gw _ [⟨[],[0],[2,3]⟩])))
    (fun x=>by cases x with | r0 d e f g i j=>exact mt [.agg [.bool false e,.imm .free (.ns .u64 f) 1 1 g i,.int .i64 j],.int .i64 ((d:Nat):Int)])
def mU:Option cF→Bool
  | some _=>true
  | none=>false
def nU:Option cF→Nat
  | some (.r0 x _ _ _ _ _)=>x
  | _=>0
def nV:Option cF→Bool
  | some (.r0 _ x _ _ _ _)=>x
  | _=>false
def nW:Option cF→List Int
  | some (.r0 _ _ x _ _ _)=>x
  | _=>[]
def nX:Option cF→Nat
  | some (.r0 _ _ _ x _ _)=>x
  | _=>0
def nY:Option cF→Nat
  | some (.r0 _ _ _ _ x _)=>x
  | _=>0
def nZ:Option cF→Int
  | some (.r0 _ _ _ _ _ x)=>x
  | _=>0
theorem GV{x:Option cF}(h:mU x=true) :x=some (.r0 (nU x) (nV x) (nW x) (nX x) (nY x) (nZ x)):=by
  unfold mU at h
  split at h<;>first | rfl | (cases h;done) | (rename_i y;cases y;rfl)
def zI:aD:=cy rO (.cons (.agg (.cons (.kbool false) (.cons (.ns .u64) (.cons (.int .i64) .nil)))) .nil) fun t=>(fun q=>[⟨sM (.r0 (nU q) (nV q) (nW q) (nX q) (nY q) (nZ q)),[mU q]⟩]) (eB t.1.2.1.2 t.1.2.2.1)
theorem CO:aM prog zI:=aR fun t=>(aS (fun h=>GU t.1.2.1.1 t.1.2.1.2 t.1.2.2.1 (GV h)) bj)
def zJ:List aD:=zI::sL
theorem n4:aX prog (bc zJ):=an CO gw
inductive du where
  | r0 (a:Nat) (b:Bool) (c:List Int) (d:Nat) (e:Nat) (f:Int)
def CP:du→AE×aE
  | .r0 a b c d e f=>(.ret,⟨ak 9 [(2,.ptr 0 1 0 0),(3,.int .i64 ((a:Nat):Int))],[(0,.vs [.bool false b,.imm .free (.ns .u64 c) 1 1 d e,.int .i64 f])],1⟩)
theorem JN:lM CP:=by intro x;cases x<;>(intro h;cases h)
def vU:du→gq
  | .r0 a b c d e f=>⟨.tup [.agg [.bool false b,.imm .free (.ns .u64 c) 1 1 d e,.int .i64 f],.int .i64 ((a:Nat):Int)],[]⟩
def JO:Nat×Bool×(List Int)×Nat×Nat×Int→aE:=fun (a,b,c,d,e,f)=>⟨ak 9 [(2,.ptr 0 1 0 0),(3,.int .i64 ((a:Nat):Int))],[(0,.vs [.bool false b,.imm .free (.ns .u64 c) 1 1 d e,.int .i64 f])],1⟩
def zK(a:List Int)(b:Int) :T ((Nat×Bool×(List Int)×Nat×Nat×Int)⊕(du)) :=
  .need (bg 0 (List.length a) a)<|.need (mU (eB (aa 0 (List.length a) a) b))<|.leaf (.inl ((nU (eB (aa 0 (List.length a) a) b)),(nV (eB (aa 0 (List.length a) a) b)),(nW (eB (aa 0 (List.length a) a) b)),(nX (eB (aa 0 (List.length a) a) b)),(nY (eB (aa 0 (List.length a) a) b)),(nZ (eB (aa 0 (List.length a) a) b))))
def JP(a:Nat)(b:Bool)(c:List Int)(d:Nat)(e:Nat)(f:Int) :T ((Empty)⊕(du)) :=
  .leaf (.inr (.r0 a b c d e f))
def fh(a:List Int)(b:Int) :Option du:=mr (aK ((zK a b).run) fun (c,d,e,f,g,h) =>
  (JP c d e f g h).run)
theorem JQ(c:Bool)(d:Lv)(a:List Int)(b:Int){x:du}(h:fh a b=some x) :ae prog vk [] [.agg [.bool false c,.imm d (.ns .u64 a) 1 1 0 (List.length a),.int .i64 b]] (vU x) :=
  oh true vU CP h (Sg.cut 3 JN (bQ n4 JO [⟨[],[16],[2,3]⟩]) (fun ⟨l,m,n,o,p,q⟩=>bQ n4 _ [⟨[],[0],[2,3]⟩]))
    (fun x=>by cases x with | r0 e f g i j k=>exact mt [.agg [.bool false f,.imm .free (.ns .u64 g) 1 1 i j,.int .i64 k],.int .i64 ((e:Nat):Int)])
def oU:Option du→Bool
  | some _=>true
  | none=>false
def pu:Option du→Nat
  | some (.r0 x _ _ _ _ _)=>x
  | _=>0
def pv:Option du→Bool
  | some (.r0 _ x _ _ _ _)=>x
  | _=>false
def pw:Option du→List Int
  | some (.r0 _ _ x _ _ _)=>x
  | _=>[]
def px:Option du→Nat
  | some (.r0 _ _ _ x _ _)=>x
  | _=>0
def py:Option du→Nat
  | some (.r0 _ _ _ _ x _)=>x
  | _=>0
def pz:Option du→Int
  | some (.r0 _ _ _ _ _ x)=>x
  | _=>0
theorem JR{x:Option du}(h:oU x=true) :x=some (.r0 (pu x) (pv x) (pw x) (px x) (py x) (pz x)):=by
  unfold oU at h
  split at h<;>first | rfl | (cases h;done) | (rename_i y;cases y;rfl)
def CQ:aD:=cy vk (.cons (.agg (.cons .bool (.cons (.ns .u64) (.cons (.int .i64) .nil)))) .nil) fun t=>(fun q=>[⟨vU (.r0 (pu q) (pv q) (pw q) (px q) (py q) (pz q)),[oU q]⟩]) (fh t.1.2.1.2 t.1.2.2.1)
theorem DZ:aM prog CQ:=aR fun t=>(aS (fun h=>JQ t.1.1 t.1.2.1.1 t.1.2.1.2 t.1.2.2.1 (JR h)) bj)
def CR:List aD:=CQ::zJ
theorem lC:aX prog (bc CR):=an DZ n4
inductive cG where
  | r0 (a:Nat) (b:Bool) (c:List Int) (d:Nat) (e:Nat) (f:Int)
def zL:cG→AE×aE
  | .r0 a b c d e f=>(.ret,⟨ak 11 [(2,.ptr 0 1 0 0),(3,.int .i64 ((a:Nat):Int))],[(0,.vs [.bool false b,.imm .free (.ns .u64 c) 1 1 d e,.int .i64 f])],1⟩)
theorem xo:lM zL:=by intro x;cases x<;>(intro h;cases h)
def sN:cG→gq
  | .r0 a b c d e f=>⟨.tup [.agg [.bool false b,.imm .free (.ns .u64 c) 1 1 d e,.int .i64 f],.int .i64 ((a:Nat):Int)],[]⟩
def GW(a:Int) :Bool×Bool→aE:=fun (b,c)=>⟨ak 11 [(0,.int .i64 a),(2,.ptr 0 1 0 0),(6,.bool false b)],[(0,.vs [.bool false c,.nsl,.int .i64 (0:Int)])],1⟩
def xq(a:Int) :T ((Bool×Bool)⊕(cG)) :=
  .ask (decide (a≥(-262144:Int)))
    (.leaf (.inl ((!(decide (a≤(262144:Int)))),false)))
    (.leaf (.inl (true,false)))
def GX(a:Int) :Bool×(List Int)×Nat×Nat→aE:=fun (b,c,d,e)=>⟨ak 11 [(2,.ptr 0 1 0 0),(3,.int .i64 (0:Int))],[(0,.vs [.bool false b,.imm .free (.ns .u64 c) 1 1 d e,.int .i64 a])],1⟩
def q7(a:Bool) :T ((Bool×(List Int)×Nat×Nat)⊕(cG)) :=
  .ask a
    (.leaf (.inr (.r0 3 false ([]:List Int) 0 0 (0:Int))))
    (.need (je (aI (1:Int)))<|.leaf (.inl (false,(bG (aI (1:Int))),(bE (aI (1:Int))),(bF (aI (1:Int))))))
def GY(a:Int)(b:Bool)(c:List Int)(d:Nat)(e:Nat) :T ((Empty)⊕(cG)) :=
  .leaf (.inr (.r0 0 b c d e a))
def eC(a:Int) :Option cG:=mr (aK ((xq a).run) fun (b,g) =>
  aK ((q7 b).run) fun (c,d,e,f) =>
  (GY a c d e f).run)
theorem GZ(a:Int){x:cG}(h:eC a=some x) :ae prog rL [] [.int .i64 a] (sN x) :=
  oh true sN zL h (Sg.cut 2 xo (bQ lC (GW a) [⟨[],[0],[0,2,6]⟩,⟨[],[0],[0,2,6]⟩]) (fun ⟨i,j⟩=>Sg.cut 2 xo (bQ lC (GX a) [⟨[(.cell 0 1,.fre 1 1 (.ns .u64 ([]:List Int)))],[0],[2,3]⟩,⟨[],[0],[2,3]⟩]) (fun ⟨k,l,m,n⟩=>bQ lC _ [⟨[],[0],[2,3]⟩])))
    (fun x=>by cases x with | r0 b c d e f g=>exact mt [.agg [.bool false c,.imm .free (.ns .u64 d) 1 1 e f,.int .i64 g],.int .i64 ((b:Nat):Int)])
def mV:Option cG→Bool
  | some _=>true
  | none=>false
def n5:Option cG→Nat
  | some (.r0 x _ _ _ _ _)=>x
  | _=>0
def n6:Option cG→Bool
  | some (.r0 _ x _ _ _ _)=>x
  | _=>false
def n7:Option cG→List Int
  | some (.r0 _ _ x _ _ _)=>x
  | _=>[]
def n8:Option cG→Nat
  | some (.r0 _ _ _ x _ _)=>x
  | _=>0
def n9:Option cG→Nat
  | some (.r0 _ _ _ _ x _)=>x
  | _=>0
def oa:Option cG→Int
  | some (.r0 _ _ _ _ _ x)=>x
  | _=>0
theorem G0{x:Option cG}(h:mV x=true) :x=some (.r0 (n5 x) (n6 x) (n7 x) (n8 x) (n9 x) (oa x)):=by
  unfold mV at h
  split at h<;>first | rfl | (cases h;done) | (rename_i y;cases y;rfl)
def zM:aD:=cy rL (.cons (.int .i64) .nil) fun t=>(fun q=>[⟨sN (.r0 (n5 q) (n6 q) (n7 q) (n8 q) (n9 q) (oa q)),[mV q]⟩]) (eC t.1)
theorem CS:aM prog zM:=aR fun t=>(aS (fun h=>GZ t.1 (G0 h)) bj)
def zN:List aD:=zM::CR
theorem jX:aX prog (bc zN):=an CS lC
inductive dV where
  | r0 (a:Nat)
def xr:dV→AE×aE
  | .r0 a=>(.ret,⟨ak 63 [(4,.flt false a)],[],0⟩)
theorem uQ:lM xr:=by intro x;cases x<;>(intro h;cases h)
def q8:dV→gq
  | .r0 a=>⟨.flt false a,[]⟩
def D0(a:Int) :Nat×Int→aE:=fun (b,c)=>⟨ak 63 [(0,.flt false b),(1,.int .i64 a),(5,.int .i64 c)],[],0⟩
def uR(a : Nat) : T ((Nat × Int) ⊕ (dV)) :=
  .ask (ui a 0)
    (.leaf (.inr (.r0 a)))
    (.ask ((0:Int)==(0:Int))
      (.ask (xF (aC a) 9218868437227405311)
        (.leaf (.inr (.r0 a)))
        (.ask (zO a a)
          (.leaf (.inr (.r0 a)))
          (.ask (flt (aC a) 4503599627370496)
            (.leaf (.inl ((aP a 4841369599423283200),(-52:Int))))
            (.leaf (.inl (a,(0:Int)))))))
      (.fail))
def D2(a:Nat) :Int×Nat→aE:=fun (b,c)=>⟨ak 63 [(1,.int .i64 b),(6,.int .u64 ((a:Nat):Int)),(7,.flt false c)],[],0⟩
def pA(b : Int)(a : Nat)(c : Int) : T ((Int × Nat) ⊕ (dV)) :=
  .need (fF .i64 (b+c))<|.alt 0
    (.need (!isNaN a)<|.need (decide ((0:Int)≤(52:Int)))<|.need (fF .i64 ((bv .and .i64 (IntKind.i64.wrap (Int.fdiv ((a:Nat):Int) (2^(min (Int.toNat (52:Int)) (IntKind.u64.bits))))) (2047:Int))-(1023:Int)))<|.need (fF .i64 ((b+c)+((bv .and .i64 (IntKind.i64.wrap (Int.fdiv ((a:Nat):Int) (2^(min (Int.toNat (52:Int)) (IntKind.u64.bits))))) (2047:Int))-(1023:Int))))<|.ask (decide (((b+c)+((bv .and .i64 (IntKind.i64.wrap (Int.fdiv ((a:Nat):Int) (2^(min (Int.toNat (52:Int)) (IntKind.u64.bits))))) (2047:Int))-(1023:Int)))<(-1075:Int)))
      (.need (!isNaN a||isNaN 0)<|.leaf (.inr (.r0 (mq 0 a))))
      (.ask (decide (((b+c)+((bv .and .i64 (IntKind.i64.wrap (Int.fdiv ((a:Nat):Int) (2^(min (Int.toNat (52:Int)) (IntKind.u64.bits))))) (2047:Int))-(1023:Int)))>(1023:Int)))
        (.ask (flt a 0)
          (.ask (decide ((-1:Int)≥(0:Int)))
            (.fail)
            (.leaf (.inr (.r0 18442240474082181120))))
          (.ask (decide ((1:Int)≥(0:Int)))
            (.leaf (.inr (.r0 9218868437227405312)))
            (.fail)))
        (.ask (decide (((b+c)+((bv .and .i64 (IntKind.i64.wrap (Int.fdiv ((a:Nat):Int) (2^(min (Int.toNat (52:Int)) (IntKind.u64.bits))))) (2047:Int))-(1023:Int)))<(-1022:Int)))
          (.need (fF .i64 (((b+c)+((bv .and .i64 (IntKind.i64.wrap (Int.fdiv ((a:Nat):Int) (2^(min (Int.toNat (52:Int)) (IntKind.u64.bits))))) (2047:Int))-(1023:Int)))+(53:Int)))<|.leaf (.inl ((((b+c)+((bv .and .i64 (IntKind.i64.wrap (Int.fdiv ((a:Nat):Int) (2^(min (Int.toNat (52:Int)) (IntKind.u64.bits))))) (2047:Int))-(1023:Int)))+(53:Int)),4368491638549381120)))
          (.leaf (.inl (((b+c)+((bv .and .i64 (IntKind.i64.wrap (Int.fdiv ((a:Nat):Int) (2^(min (Int.toNat (52:Int)) (IntKind.u64.bits))))) (2047:Int))-(1023:Int))),4607182418800017408))))))
    (.fail)
def pB(b:Nat)(a:Int)(c:Nat) :T ((Empty)⊕(dV)) :=
  .need (fF .i64 (a+(1023:Int)))<|.need (decide ((0:Int)≤(52:Int)))<|.leaf (.inr (.r0 (aP c (Int.toNat (bv .or .u64 (bv .andNot .u64 ((b:Nat):Int) (9218868437227405312:Int)) (IntKind.u64.wrap ((IntKind.u64.wrap (a+(1023:Int)))*2^(min (Int.toNat (52:Int)) (IntKind.u64.bits)))))))))
def jY(b:Nat)(c:Int) :Option dV:=mr (aK ((uR b).run) fun (a,d) =>
  aK ((pA c a d).run) fun (e,f) =>
  (pB a e f).run)
theorem D3(b:Nat)(a:Int){x:dV}(h:jY b a=some x) :ae prog wD [] [.flt false b,.int .i64 a] (q8 x) :=
  oh false q8 xr h (Sg.cut 3 uQ (bQ jX (D0 a) [⟨[],[],[4]⟩,⟨[],[],[4]⟩,⟨[],[],[4]⟩,⟨[],[],[0,1,5]⟩,⟨[],[],[0,1,5]⟩]) (fun ⟨c,e⟩=>Sg.cut 10 uQ (bQ jX (D2 c) [⟨[],[],[4]⟩,⟨[],[],[4]⟩,⟨[],[],[4]⟩,⟨[],[],[1,6,7]⟩,⟨[],[],[1,6,7]⟩]) (fun ⟨f,g⟩=>bQ jX _ [⟨[],[],[4]⟩])))
    (fun x=>by cases x with | r0 d=>exact mt [.flt false d])
def lD:Option dV→Bool
  | some _=>true
  | none=>false
def mn:Option dV→Nat
  | some (.r0 x)=>x
  | _=>0
theorem D4{x:Option dV}(h:lD x=true) :x=some (.r0 (mn x)):=by
  unfold lD at h
  split at h<;>first | rfl | (cases h;done) | (rename_i y;cases y;rfl)
def xt:aD:=cy wD (.cons (.flt false) (.cons (.int .i64) .nil)) fun t=>(fun q=>[⟨q8 (.r0 (mn q)),[lD q]⟩]) (jY t.1 t.2.1)
theorem Aj:aM prog xt:=aR fun t=>(aS (fun h=>D3 t.1 t.2.1 (D4 h)) bj)
def xu:List aD:=xt::zN
theorem mo:aX prog (bc xu):=an Aj jX
inductive ek where
  | r0 (a:Nat)
def xv:ek→AE×aE
  | .r0 a=>(.ret,⟨ak 11 [(4,.flt false a)],[],0⟩)
theorem D5:lM xv:=by intro x;cases x<;>(intro h;cases h)
def q9:ek→gq
  | .r0 a=>⟨.flt false a,[]⟩
def D6(a:Nat) :aE:=⟨ak 11 [(4,.flt false a)],[],0⟩
def uS(a:Nat)(b:Int) :T ((Nat)⊕(ek)) :=
  .need (lD (jY a b))<|.leaf (.inl (mn (jY a b)))
def D7(a:Nat) :T ((Empty)⊕(ek)) :=
  .leaf (.inr (.r0 a))
def jZ(a:Nat)(b:Int) :Option ek:=mr (aK ((uS a b).run) fun c =>
  (D7 c).run)
theorem D8(a:Nat)(b:Int){x:ek}(h:jZ a b=some x) :ae prog wB [] [.flt false a,.int .i64 b] (q9 x) :=
  oh false q9 xv h (Sg.cut 3 D5 (bQ mo D6 [⟨[],[],[4]⟩]) (fun d=>bQ mo _ [⟨[],[],[4]⟩]))
    (fun x=>by cases x with | r0 c=>exact mt [.flt false c])
def lE:Option ek→Bool
  | some _=>true
  | none=>false
def mp:Option ek→Nat
  | some (.r0 x)=>x
  | _=>0
theorem D9{x:Option ek}(h:lE x=true) :x=some (.r0 (mp x)):=by
  unfold lE at h
  split at h<;>first | rfl | (cases h;done) | (rename_i y;cases y;rfl)
def xw:aD:=cy wB (.cons (.flt false) (.cons (.int .i64) .nil)) fun t=>(fun q=>[⟨q9 (.r0 (mp q)),[lE q]⟩]) (jZ t.1 t.2.1)
theorem Ak:aM prog xw:=aR fun t=>(aS (fun h=>D8 t.1 t.2.1 (D9 h)) bj)
def xx:List aD:=xw::xu
theorem gg:aX prog (bc xx):=an Ak mo
inductive da where
  | r0 (a:Nat)
def mW:da→AE×aE
  | .r0 a=>(.ret,⟨ak 48 [(2,.flt false a)],[],0⟩)
theorem lF:lM mW:=by intro x;cases x<;>(intro h;cases h)
theorem Ea(id:Nat) :vo id mW:=by intro x;cases x<;>(intro h;cases h)
def ra:da→gq
  | .r0 a=>⟨.flt false a,[]⟩
def Eb:List Code:=fa (rp qh)
def Ec(b:Lv)(a:List Nat)(_:Unit) :aE:=⟨ak 48 [(3,.flt false 0),(4,.flt false 4607182418800017408),(11,.imm b (.fl a) 1 1 0 (List.length a)),(12,.int .i64 (((List.length a):Nat):Int)),(13,.int .i64 (0:Int))],[],0⟩
def Ed:T ((Unit)⊕(da)) :=
  .leaf (.inl ())
def pC(b:Lv)(a:List Nat) :Nat×Nat×Nat→aE:=fun (c,d,e)=>⟨ak 48 [(3,.flt false c),(4,.flt false d),(11,.imm b (.fl a) 1 1 0 (List.length a)),(12,.int .i64 (((List.length a):Nat):Int)),(13,.int .i64 ((e:Nat):Int))],[],0⟩
def uT:Nat×Nat→aE:=fun (a,b)=>⟨ak 48 [(3,.flt false a),(4,.flt false b)],[],0⟩
def CT:List Code:=fa (jv ((((Eb.drop 3).take 1)).headD .skip))
def Ee(b:Lv)(a:List Nat)(c:Nat) :Nat×Nat→aE:=fun (d,e)=>⟨ak 48 [(3,.flt false d),(4,.flt false e),(11,.imm b (.fl a) 1 1 0 (List.length a)),(12,.int .i64 (((List.length a):Nat):Int)),(13,.int .i64 ((c:Nat):Int))],[],0⟩
def gP(a:List Nat)(c:Nat)(d:Nat)(b:Nat) :T ((Nat×Nat)⊕((Nat×Nat)⊕(da))) :=
  .ask (decide (((b:Nat):Int)<(((List.length a):Nat):Int)))
    (.need (ik ((b:Nat):Int) (List.length a))<|.need (il b (List.length a))<|.ask (ui (List.getD a b 0) 0)
      (.leaf (.inl (c,d)))
      (.ask (flt c (aC (List.getD a b 0)))
        (.leaf (.inl ((aC (List.getD a b 0)),(cQ 4607182418800017408 (aP (aP d (fdiv c (aC (List.getD a b 0)))) (fdiv c (aC (List.getD a b 0))))))))
        (.leaf (.inl (c,(cQ d (aP (fdiv (aC (List.getD a b 0)) c) (fdiv (aC (List.getD a b 0)) c))))))))
    (.leaf (.inr (.inl (c,d))))
def sO(a:Nat)(b:Nat)(c:Nat) :T ((Nat×Nat×Nat)⊕((Nat×Nat)⊕(da))) :=
  .need (fF .i64 (((a+1):Nat):Int))<|.leaf (.inl (b,c,(a+1)))
def j0(b:List Nat) :Nat×Nat×Nat→Option ((Nat×Nat×Nat)⊕((Nat×Nat)⊕(da))):=fun (c,d,a) =>
  aK ((gP b c d a).run) fun (e,f) =>
  (sO a e f).run
theorem CU(b:Lv)(a:List Nat)(d:Nat)(e:Nat)(c:Nat) :Sg prog [] CT (pC b a (d,e,c)) (j0 a (d,e,c)) (pC b a) (iv 0 uT mW):=by
  unfold j0;exact Sg.cut 3 (iw lF) (bQ gg (Ee b a c) [⟨[],[],[3,4,11,12,13]⟩,⟨[],[],[3,4,11,12,13]⟩,⟨[],[],[3,4,11,12,13]⟩,⟨[],[],[3,4]⟩]) (fun ⟨f,g⟩=>bQ gg _ [⟨[],[],[3,4,11,12,13]⟩])
def CV(a:Nat)(b:Nat) :T ((Empty)⊕(da)) :=
  .leaf (.inr (.r0 (aP a (bP b))))
def em(a:List Nat) :Option da:=mr (aK ((Ed).run) fun _ =>
  aK (eK (j0 a) (0,4607182418800017408,0)) fun (b,c) =>
  (CV b c).run)
theorem Ef(b:Lv)(a:List Nat){x:da}(h:em a=some x) :ae prog qh [] [.imm b (.fl a) 1 1 0 (List.length a)] (ra x) :=
  oh false ra mW h (Sg.cut 3 lF (bQ gg (Ec b a) [⟨[],[],[3,4,11,12,13]⟩]) (fun _=>Sg.cut 1 lF (Oh ⟨[],[],[3,4,11,12,13]⟩ (pC b a) (uT) 0 lF (Ea _) (fun ⟨c,d,e⟩=>CU b a c d e)) (fun ⟨g,i⟩=>bQ gg _ [⟨[],[],[2]⟩])))
    (fun x=>by cases x with | r0 f=>exact mt [.flt false f])
def gp:Option da→Bool
  | some _=>true
  | none=>false
def gh:Option da→Nat
  | some (.r0 x)=>x
  | _=>0
theorem Eg{x:Option da}(h:gp x=true) :x=some (.r0 (gh x)):=by
  unfold gp at h
  split at h<;>first | rfl | (cases h;done) | (rename_i y;cases y;rfl)
def xy:aD:=cy qh (.cons .fl .nil) fun t=>(fun q=>[⟨ra (.r0 (gh q)),[gp q]⟩]) (em t.1.2)
theorem Al:aM prog xy:=aR fun t=>(aS (fun h=>Ef t.1.1 t.1.2 (Eg h)) bj)
def xz:List aD:=xy::xx
theorem aU:aX prog (bc xz):=an Al gg
inductive ay where
  | r0 (a:Bool)
def oc:ay→AE×aE
  | .r0 a=>(.ret,⟨ak 170 [(6,.bool false a)],[],0⟩)
theorem aF:lM oc:=by intro x;cases x<;>(intro h;cases h)
def i9:ay→gq
  | .r0 a=>⟨.bool false a,[]⟩
def tZ(a:Nat)(b:Nat)(c:Int)(d:Bool) :aE:=⟨ak 170 [(0,.flt false a),(1,.flt false b),(2,.int .i64 c),(34,.bool false d)],[],0⟩
def bY(a:Nat)(b:Nat)(c:Int) :T ((Bool)⊕(ay)) :=
  .need (lT (i8 a))<|.ask (!(lA (i8 a)))
    (.leaf (.inl true))
    (.need (lT (i8 b))<|.ask (!(lA (i8 b)))
      (.leaf (.inl true))
      (.ask (decide (c<(-99:Int)))
        (.leaf (.inl true))
        (.leaf (.inl (decide (c>(99:Int)))))))
def t0(a:Nat)(b:Nat)(c:Int) :Nat×Nat×Nat→aE:=fun (d,e,r4)=>⟨ak 170 [(0,.flt false a),(1,.flt false b),(2,.int .i64 c),(7,.flt false d),(8,.flt false e),(9,.flt false r4)],[],0⟩
def lU(a:Nat)(b:Nat)(c:Bool) :T ((Nat×Nat×Nat)⊕(ay)) :=
  .ask c
    (.leaf (.inr (.r0 true)))
    (.need (iX (eO a b))<|.leaf (.inl ((jN (eO a b)),(jO (eO a b)),(jP (eO a b)))))
def t6(a:Nat)(b:Nat)(c:Int)(d:Nat)(e:Nat)(r4:Nat)(f:Nat) :aE:=⟨ak 170 [(0,.flt false a),(1,.flt false b),(2,.int .i64 c),(7,.flt false d),(8,.flt false e),(9,.flt false r4),(10,.flt false f)],[],0⟩
def gQ(a:Nat)(b:Nat) :T ((Nat)⊕(ay)) :=
  .need (fC (ff a b))<|.leaf (.inl (fD (ff a b)))
def ua(a:Nat)(b:Nat)(c:Int)(d:Nat)(e:Nat)(f:Nat)(g:Bool) :aE:=⟨ak 170 [(0,.flt false a),(1,.flt false b),(2,.int .i64 c),(7,.flt false d),(8,.flt false e),(10,.flt false f),(61,.bool false g)],[],0⟩
def gR(r4:Nat)(a:Nat) :T ((Bool)⊕(ay)) :=
  .ask ((0:Int)==(0:Int))
    (.ask (xF (aC a) 9218868437227405311)
      (.leaf (.inl true))
      (.ask (zO a a)
        (.leaf (.inl true))
        (.ask ((0:Int)==(0:Int))
          (.ask (xF (aC r4) 9218868437227405311)
            (.leaf (.inl true))
            (.leaf (.inl (zO r4 r4))))
          (.fail))))
    (.fail)
def ub(a:Nat)(b:Nat)(c:Int)(d:Nat)(e:Nat) :Nat×Bool×(List Int)×Nat×Nat×Int→aE:=fun (f,g,h,i,j,k)=>⟨ak 170 [(0,.flt false a),(1,.flt false b),(2,.int .i64 c),(8,.flt false d),(10,.flt false e),(11,.ptr 0 1 0 0),(12,.int .i64 ((f:Nat):Int))],[(0,.vs [.bool false g,.imm .free (.ns .u64 h) 1 1 i j,.int .i64 k])],1⟩
def gS(a:Nat)(b:Bool) :T ((Nat×Bool×(List Int)×Nat×Nat×Int)⊕(ay)) :=
  .ask b
    (.leaf (.inr (.r0 false)))
    (.need (nO (dh a))<|.leaf (.inl ((mM (dh a)),(mN (dh a)),(mO (dh a)),(mR (dh a)),(mS (dh a)),(mT (dh a)))))
def uc(a:Nat)(b:Nat)(c:Int)(d:Nat)(e:Nat)(f:Bool)(g:List Int)(h:Nat)(i:Nat)(j:Int) :Nat×Bool×(List Int)×Nat×Nat×Int→aE:=fun (k,l,m,n,o,p)=>⟨ak 170 [(0,.flt false a),(1,.flt false b),(2,.int .i64 c),(10,.flt false d),(11,.ptr 0 1 0 0),(12,.int .i64 ((e:Nat):Int)),(13,.ptr 1 1 0 0),(14,.int .i64 ((k:Nat):Int))],[(0,.vs [.bool false f,.imm .free (.ns .u64 g) 1 1 h i,.int .i64 j]),(1,.vs [.bool false l,.imm .free (.ns .u64 m) 1 1 n o,.int .i64 p])],2⟩
def gT(a:Nat) :T ((Nat×Bool×(List Int)×Nat×Nat×Int)⊕(ay)) :=
  .need (nO (dh a))<|.leaf (.inl ((mM (dh a)),(mN (dh a)),(mO (dh a)),(mR (dh a)),(mS (dh a)),(mT (dh a))))
def ud(a:Nat)(b:Nat)(c:Int)(d:Nat)(e:Bool)(f:List Int)(g:Nat)(h:Nat)(i:Int)(j:Bool)(k:List Int)(l:Nat)(m:Nat)(n:Int)(o:Bool) :aE:=⟨ak 170 [(0,.flt false a),(1,.flt false b),(2,.int .i64 c),(10,.flt false d),(11,.ptr 0 1 0 0),(13,.ptr 1 1 0 0),(77,.bool false o)],[(0,.vs [.bool false e,.imm .free (.ns .u64 f) 1 1 g h,.int .i64 i]),(1,.vs [.bool false j,.imm .free (.ns .u64 k) 1 1 l m,.int .i64 n])],2⟩
def sR(a:Nat)(b:Nat) :T ((Bool)⊕(ay)) :=
  .ask (((a:Nat):Int) != (0:Int))
    (.leaf (.inl true))
    (.leaf (.inl (((b:Nat):Int) != (0:Int))))
def ue(a:Nat)(b:Nat)(c:Int)(d:Nat)(e:Bool)(f:List Int)(g:Nat)(h:Nat)(i:Int) :Nat×Bool×(List Int)×Nat×Nat×Int→aE:=fun (j,k,l,m,n,o)=>⟨ak 170 [(0,.flt false a),(1,.flt false b),(2,.int .i64 c),(10,.flt false d),(11,.ptr 0 1 0 0),(12,.int .i64 ((j:Nat):Int)),(13,.ptr 1 1 0 0)],[(0,.vs [.bool false k,.imm .free (.ns .u64 l) 1 1 m n,.int .i64 o]),(1,.vs [.bool false e,.imm .free (.ns .u64 f) 1 1 g h,.int .i64 i])],2⟩
def gU(d:Bool)(a:List Int)(b:Nat)(c:Nat)(e:Int)(f:Bool) :T ((Nat×Bool×(List Int)×Nat×Nat×Int)⊕(ay)) :=
  .ask f
    (.leaf (.inr (.r0 false)))
    (.need (bg b c a)<|.need (bg b c a)<|.need (lS (cD d (aa b c a) e d (aa b c a) e))<|.leaf (.inl ((lh (cD d (aa b c a) e d (aa b c a) e)),(lk (cD d (aa b c a) e d (aa b c a) e)),(ln (cD d (aa b c a) e d (aa b c a) e)),(lp (cD d (aa b c a) e d (aa b c a) e)),(lq (cD d (aa b c a) e d (aa b c a) e)),(lr (cD d (aa b c a) e d (aa b c a) e)))))
def uf(a:Nat)(b:Nat)(c:Int)(d:Nat)(e:Nat)(f:Bool)(g:List Int)(h:Nat)(i:Nat)(j:Int) :Nat×Bool×(List Int)×Nat×Nat×Int→aE:=fun (k,l,m,n,o,p)=>⟨ak 170 [(0,.flt false a),(1,.flt false b),(2,.int .i64 c),(10,.flt false d),(11,.ptr 0 1 0 0),(12,.int .i64 ((e:Nat):Int)),(13,.ptr 1 1 0 0),(14,.int .i64 ((k:Nat):Int))],[(0,.vs [.bool false f,.imm .free (.ns .u64 g) 1 1 h i,.int .i64 j]),(1,.vs [.bool false l,.imm .free (.ns .u64 m) 1 1 n o,.int .i64 p])],2⟩
def gV(d:Bool)(a:List Int)(b:Nat)(c:Nat)(e:Int) :T ((Nat×Bool×(List Int)×Nat×Nat×Int)⊕(ay)) :=
  .need (bg b c a)<|.need (bg b c a)<|.need (lS (cD d (aa b c a) e d (aa b c a) e))<|.leaf (.inl ((lh (cD d (aa b c a) e d (aa b c a) e)),(lk (cD d (aa b c a) e d (aa b c a) e)),(ln (cD d (aa b c a) e d (aa b c a) e)),(lp (cD d (aa b c a) e d (aa b c a) e)),(lq (cD d (aa b c a) e d (aa b c a) e)),(lr (cD d (aa b c a) e d (aa b c a) e))))
def sS(a:Nat)(b:Nat)(c:Int)(d:Nat)(e:Bool)(f:List Int)(g:Nat)(h:Nat)(i:Int)(j:Bool)(k:List Int)(l:Nat)(m:Nat)(n:Int)(o:Bool) :aE:=⟨ak 170 [(0,.flt false a),(1,.flt false b),(2,.int .i64 c),(10,.flt false d),(11,.ptr 0 1 0 0),(13,.ptr 1 1 0 0),(95,.bool false o)],[(0,.vs [.bool false e,.imm .free (.ns .u64 f) 1 1 g h,.int .i64 i]),(1,.vs [.bool false j,.imm .free (.ns .u64 k) 1 1 l m,.int .i64 n])],2⟩
def sT(a:Nat)(b:Nat) :T ((Bool)⊕(ay)) :=
  .ask (((a:Nat):Int) != (0:Int))
    (.leaf (.inl true))
    (.leaf (.inl (((b:Nat):Int) != (0:Int))))
def sU(a:Nat)(b:Nat)(c:Int)(d:Nat) :Nat×Bool×(List Int)×Nat×Nat×Int→aE:=fun (e,f,g,h,i,j)=>⟨ak 170 [(0,.flt false a),(1,.flt false b),(2,.int .i64 c),(10,.flt false d),(12,.int .i64 ((e:Nat):Int)),(15,.ptr 0 1 0 0)],[(0,.vs [.bool false f,.imm .free (.ns .u64 g) 1 1 h i,.int .i64 j])],1⟩
def gW(g:Bool)(a:List Int)(b:Nat)(c:Nat)(h:Int)(i:Bool)(d:List Int)(e:Nat)(f:Nat)(j:Int)(k:Bool) :T ((Nat×Bool×(List Int)×Nat×Nat×Int)⊕(ay)) :=
  .ask k
    (.leaf (.inr (.r0 false)))
    (.need (bg b c a)<|.need (bg e f d)<|.need (lR (cm g (aa b c a) h i (aa e f d) j))<|.leaf (.inl ((kY (cm g (aa b c a) h i (aa e f d) j)),(kZ (cm g (aa b c a) h i (aa e f d) j)),(k8 (cm g (aa b c a) h i (aa e f d) j)),(k9 (cm g (aa b c a) h i (aa e f d) j)),(lc (cm g (aa b c a) h i (aa e f d) j)),(lf (cm g (aa b c a) h i (aa e f d) j)))))
def sV(a:Nat)(b:Nat)(c:Int)(d:Nat) :Nat×Bool×(List Int)×Nat×Nat×Int→aE:=fun (e,f,g,h,i,j)=>⟨ak 170 [(0,.flt false a),(1,.flt false b),(2,.int .i64 c),(10,.flt false d),(12,.int .i64 ((e:Nat):Int)),(15,.ptr 0 1 0 0)],[(0,.vs [.bool false f,.imm .free (.ns .u64 g) 1 1 h i,.int .i64 j])],1⟩
def gX(f:Nat)(d:Bool)(a:List Int)(b:Nat)(c:Nat)(e:Int) :T ((Nat×Bool×(List Int)×Nat×Nat×Int)⊕(ay)) :=
  .ask (((f:Nat):Int) != (0:Int))
    (.leaf (.inr (.r0 false)))
    (.need (iE (ax (1:Int)))<|.need (bg b c a)<|.need (bg (cd (ax (1:Int))) (cg (ax (1:Int))) (b9 (ax (1:Int))))<|.need (oT (fg d (aa b c a) e (cH (ax (1:Int))) (aa (cd (ax (1:Int))) (cg (ax (1:Int))) (b9 (ax (1:Int)))) (cI (ax (1:Int)))))<|.leaf (.inl ((pj (fg d (aa b c a) e (cH (ax (1:Int))) (aa (cd (ax (1:Int))) (cg (ax (1:Int))) (b9 (ax (1:Int)))) (cI (ax (1:Int))))),(pk (fg d (aa b c a) e (cH (ax (1:Int))) (aa (cd (ax (1:Int))) (cg (ax (1:Int))) (b9 (ax (1:Int)))) (cI (ax (1:Int))))),(pm (fg d (aa b c a) e (cH (ax (1:Int))) (aa (cd (ax (1:Int))) (cg (ax (1:Int))) (b9 (ax (1:Int)))) (cI (ax (1:Int))))),(pn (fg d (aa b c a) e (cH (ax (1:Int))) (aa (cd (ax (1:Int))) (cg (ax (1:Int))) (b9 (ax (1:Int)))) (cI (ax (1:Int))))),(po (fg d (aa b c a) e (cH (ax (1:Int))) (aa (cd (ax (1:Int))) (cg (ax (1:Int))) (b9 (ax (1:Int)))) (cI (ax (1:Int))))),(pq (fg d (aa b c a) e (cH (ax (1:Int))) (aa (cd (ax (1:Int))) (cg (ax (1:Int))) (b9 (ax (1:Int)))) (cI (ax (1:Int))))))))
def sW(a:Nat)(b:Nat)(c:Int)(d:Nat) :Nat×Bool×(List Int)×Nat×Nat×Int→aE:=fun (e,f,g,h,i,j)=>⟨ak 170 [(0,.flt false a),(1,.flt false b),(2,.int .i64 c),(10,.flt false d),(12,.int .i64 ((e:Nat):Int)),(15,.ptr 0 1 0 0)],[(0,.vs [.bool false f,.imm .free (.ns .u64 g) 1 1 h i,.int .i64 j])],1⟩
def gY(e:Nat)(a:List Int)(b:Nat)(c:Nat)(d:Int) :T ((Nat×Bool×(List Int)×Nat×Nat×Int)⊕(ay)) :=
  .ask (((e:Nat):Int) != (0:Int))
    (.leaf (.inr (.r0 false)))
    (.need (bg b c a)<|.need (oU (fh (aa b c a) d))<|.leaf (.inl ((pu (fh (aa b c a) d)),(pv (fh (aa b c a) d)),(pw (fh (aa b c a) d)),(px (fh (aa b c a) d)),(py (fh (aa b c a) d)),(pz (fh (aa b c a) d)))))
def sX(a:Nat)(b:Nat)(c:Int)(d:Nat)(e:Bool)(f:List Int)(g:Nat)(h:Nat)(i:Int) :Nat×Bool×(List Int)×Nat×Nat×Int→aE:=fun (j,k,l,m,n,o)=>⟨ak 170 [(0,.flt false a),(1,.flt false b),(2,.int .i64 c),(10,.flt false d),(12,.int .i64 ((j:Nat):Int)),(15,.ptr 0 1 0 0),(16,.ptr 1 1 0 0)],[(0,.vs [.bool false e,.imm .free (.ns .u64 f) 1 1 g h,.int .i64 i]),(1,.vs [.bool false k,.imm .free (.ns .u64 l) 1 1 m n,.int .i64 o])],2⟩
def gZ(a:Nat) :T ((Nat×Bool×(List Int)×Nat×Nat×Int)⊕(ay)) :=
  .ask (((a:Nat):Int) != (0:Int))
    (.leaf (.inr (.r0 false)))
    (.need (mV (eC (-49:Int)))<|.leaf (.inl ((n5 (eC (-49:Int))),(n6 (eC (-49:Int))),(n7 (eC (-49:Int))),(n8 (eC (-49:Int))),(n9 (eC (-49:Int))),(oa (eC (-49:Int))))))
def sY(a:Nat)(b:Nat)(c:Int)(d:Nat) :Nat×Int→aE:=fun (e,f)=>⟨ak 170 [(0,.flt false a),(1,.flt false b),(2,.int .i64 c),(10,.flt false d),(12,.int .i64 ((e:Nat):Int)),(17,.int .i64 f)],[],0⟩
def g4(g:Bool)(a:List Int)(b:Nat)(c:Nat)(h:Int)(k:Nat)(i:Bool)(d:List Int)(e:Nat)(f:Nat)(j:Int) :T ((Nat×Int)⊕(ay)) :=
  .ask (((k:Nat):Int) != (0:Int))
    (.leaf (.inr (.r0 false)))
    (.need (bg b c a)<|.need (bg e f d)<|.need (oS (i7 g (aa b c a) h i (aa e f d) j))<|.leaf (.inl ((pe (i7 g (aa b c a) h i (aa e f d) j)),(pd (i7 g (aa b c a) h i (aa e f d) j)))))
def sZ(a:Nat)(b:Nat)(c:Int)(d:Nat)(e:Bool) :aE:=⟨ak 170 [(0,.flt false a),(1,.flt false b),(2,.int .i64 c),(10,.flt false d),(136,.bool false e)],[],0⟩
def s5(a:Nat)(b:Int) :T ((Bool)⊕(ay)) :=
  .ask (((a:Nat):Int) != (0:Int))
    (.leaf (.inl true))
    (.leaf (.inl (decide (b>(0:Int)))))
def s6(a:Nat)(b:Nat)(c:Nat)(d:Nat) :aE:=⟨ak 170 [(0,.flt false a),(1,.flt false b),(10,.flt false c),(18,.flt false d)],[],0⟩
def g5(a:Int)(b:Bool) :T ((Nat)⊕(ay)) :=
  .ask b
    (.leaf (.inr (.r0 false)))
    (.need (lE (jZ 4607182418800017408 a))<|.leaf (.inl (mp (jZ 4607182418800017408 a))))
def s7(a:Bool) :aE:=⟨ak 170 [(6,.bool false a)],[],0⟩
def g6(b:Nat)(c:Nat)(d:Nat)(a:Nat) :T ((Bool)⊕(ay)) :=
  .need (fC (ff (aP b a) (aP c a)))<|.ask (oz (fD (ff (aP b a) (aP c a))) (aP d a))
    (.need (bg 0 2 [(aP b a),(aP c a)])<|.need (gp (em (aa 0 2 [(aP b a),(aP c a)])))<|.need (bg 0 2 [b,c])<|.need (gp (em (aa 0 2 [b,c])))<|.ask (oz (gh (em (aa 0 2 [(aP b a),(aP c a)]))) (aP (gh (em (aa 0 2 [b,c]))) a))
      (.leaf (.inl true))
      (.leaf (.inl false)))
    (.leaf (.inl false))
def s8(a:Bool) :T ((Empty)⊕(ay)) :=
  .leaf (.inr (.r0 a))
def fP(a:Nat)(b:Nat)(c:Int) :Option ay:=mr (aK ((bY a b c).run) fun e =>
  aK ((lU a b e).run) fun (f,g,r4) =>
  aK ((gQ a b).run) fun d =>
  aK ((gR r4 d).run) fun h =>
  aK ((gS f h).run) fun (i,j,k,l,m,n) =>
  aK ((gT g).run) fun (o,p,q,r,s,t) =>
  aK ((sR i o).run) fun u =>
  aK ((gU j k l m n u).run) fun (v,w,x,y,z,A) =>
  aK ((gV p q r s t).run) fun (B,C,D,E,F,G) =>
  aK ((sT v B).run) fun H =>
  aK ((gW w x y z A C D E F G H).run) fun (I,J,K,L,M,N) =>
  aK ((gX I J K L M N).run) fun (O,b0,P,Q,R,S) =>
  aK ((gY O P Q R S).run) fun (T,U,V,W,X,Y) =>
  aK ((gZ T).run) fun (Z,a0,a1,a2,a3,a4) =>
  aK ((g4 U V W X Y Z a0 a1 a2 a3 a4).run) fun (a5,a6) =>
  aK ((s5 a5 a6).run) fun a7 =>
  aK ((g5 c a7).run) fun a8 =>
  aK ((g6 a b d a8).run) fun a9 =>
  (s8 a9).run)
theorem mu(a:Nat)(b:Nat)(c:Int){x:ay}(h:fP a b c=some x) :ae prog nr [] [.flt true a,.flt true b,.int .i64 c] (i9 x) :=
  oh false i9 oc h (Sg.cut 2 aF (bQ aU (tZ a b c) [⟨[],[],[0,1,2,34]⟩,⟨[],[],[0,1,2,34]⟩,⟨[],[],[0,1,2,34]⟩,⟨[],[],[0,1,2,34]⟩]) (fun K=>Sg.cut 2 aF (bQ aU (t0 a b c) [⟨[],[],[6]⟩,⟨[],[],[0,1,2,7,8,9]⟩]) (fun ⟨f,e,r4⟩=>Sg.cut 1 aF (bQ aU (t6 a b c f e r4) [⟨[],[],[0,1,2,7,8,9,10]⟩]) (fun d=>Sg.cut 1 aF (bQ aU (ua a b c f e d) [⟨[],[],[0,1,2,7,8,10,61]⟩,⟨[],[],[0,1,2,7,8,10,61]⟩,⟨[],[],[0,1,2,7,8,10,61]⟩,⟨[],[],[0,1,2,7,8,10,61]⟩]) (fun L=>Sg.cut 2 aF (bQ aU (ub a b c e d) [⟨[],[],[6]⟩,⟨[],[80],[0,1,2,8,10,11,12]⟩]) (fun ⟨w,g,i,j,k,l⟩=>Sg.cut 1 aF (bQ aU (uc a b c d w g i j k l) [⟨[],[0,81],[0,1,2,10,11,12,13,14]⟩]) (fun ⟨M,m,n,o,p,q⟩=>Sg.cut 1 aF (bQ aU (ud a b c d g i j k l m n o p q) [⟨[],[0,1],[0,1,2,10,11,13,77]⟩,⟨[],[0,1],[0,1,2,10,11,13,77]⟩]) (fun N=>Sg.cut 2 aF (bQ aU (ue a b c d m n o p q) [⟨[],[],[6]⟩,⟨[],[0,1],[0,1,2,10,11,12,13]⟩]) (fun ⟨y,r,s,t,u,v⟩=>Sg.cut 1 aF (bQ aU (uf a b c d y r s t u v) [⟨[],[0,1],[0,1,2,10,11,12,13,14]⟩]) (fun ⟨O,z,A,B,C,D⟩=>Sg.cut 1 aF (bQ aU (sS a b c d r s t u v z A B C D) [⟨[],[0,1],[0,1,2,10,11,13,95]⟩,⟨[],[0,1],[0,1,2,10,11,13,95]⟩]) (fun P=>Sg.cut 2 aF (bQ aU (sU a b c d) [⟨[],[],[6]⟩,⟨[],[98],[0,1,2,10,12,15]⟩]) (fun ⟨Q,R,S,T,U,V⟩=>Sg.cut 3 aF (bQ aU (sV a b c d) [⟨[],[],[6]⟩,⟨[],[0],[0,1,2,10,12,15]⟩]) (fun ⟨W,X,Y,Z,a0,a1⟩=>Sg.cut 3 aF (bQ aU (sW a b c d) [⟨[],[],[6]⟩,⟨[],[0],[0,1,2,10,12,15]⟩]) (fun ⟨a2,E,F,G,H,I⟩=>Sg.cut 3 aF (bQ aU (sX a b c d E F G H I) [⟨[],[],[6]⟩,⟨[],[0,97],[0,1,2,10,12,15,16]⟩]) (fun ⟨a3,a4,a5,a6,a7,a8⟩=>Sg.cut 3 aF (bQ aU (sY a b c d) [⟨[],[],[6]⟩,⟨[],[],[0,1,2,10,12,17]⟩]) (fun ⟨a9,b0⟩=>Sg.cut 1 aF (bQ aU (sZ a b c d) [⟨[],[],[0,1,2,10,136]⟩,⟨[],[],[0,1,2,10,136]⟩]) (fun b2=>Sg.cut 2 aF (bQ aU (s6 a b d) [⟨[],[],[6]⟩,⟨[],[],[0,1,10,18]⟩]) (fun b3=>Sg.cut 1 aF (bQ aU s7 [⟨[],[],[6]⟩,⟨[],[],[6]⟩,⟨[],[],[6]⟩]) (fun b4=>bQ aU _ [⟨[],[],[6]⟩])))))))))))))))))))
    (fun x=>by cases x with | r0 J=>exact mt [.bool false J])
def io:Option ay→Bool
  | some _=>true
  | none=>false
def j7:Option ay→Bool
  | some (.r0 x)=>x
  | _=>false
theorem ug{x:Option ay}(h:io x=true) :x=some (.r0 (j7 x)):=by
  unfold io at h
  split at h<;>first | rfl | (cases h;done) | (rename_i y;cases y;rfl)
def od:aD:=cy nr (.cons (.flt true) (.cons (.flt true) (.cons (.int .i64) .nil))) fun t=>(fun q=>[⟨i9 (.r0 (j7 q)),[io q]⟩]) (fP t.1 t.2.1 t.2.2.1)
theorem rq:aM prog od:=aR fun t=>(aS (fun h=>mu t.1 t.2.1 t.2.2.1 (ug h)) bj)
def vV:List aD:=od::xz
theorem G8:aX prog (bc vV):=an rq aU
end
end Go.Plb.Seat
namespace Go.Plb
set_option linter.unusedSimpArgs false
set_option linter.unusedVariables false
set_option linter.unusedSectionVars false
variable [Rom]
theorem tM(s:Bool)(m a b:Nat) :Ieee.signed s m (a+b)=Ieee.signed s m a*((2^b:Nat):Int):=by
  unfold Ieee.signed
  rw [Nat.shiftLeft_eq,Nat.shiftLeft_eq,Nat.pow_add,←Nat.mul_assoc,Int.natCast_mul (m*2^a) (2^b)]
  cases s
  · rfl
  · rw [if_pos rfl,if_pos rfl,Int.neg_mul]
theorem ii(s:Bool)(m a:Nat) :Ieee.signed s m a=sg s (m*2^a):=by
  unfold Ieee.signed sg
  rw [Nat.shiftLeft_eq]
theorem xA{x:Nat}(hx:x<dD) :(x/9223372036854775808%2==1)=(x/9223372036854775808==1):=by
  have hx:x<18446744073709551616:=hx
  have:x/9223372036854775808%2=x/9223372036854775808:=by omega
  rw [this]
theorem Rw{x y:Nat}(hx:x<dD)(hy:y<dD)(fx:fin x=true)(fy:fin y=true) :flt x y=decide (fz x<fz y):=by
  unfold flt ke Ieee.Format.order
  rw [b7 hx fx,b7 hy fy,xA hx,xA hy]
  unfold fz
  generalize (x/9223372036854775808==1)=s
  generalize (y/9223372036854775808==1)=t
  generalize bk (x%9223372036854775808)=m
  generalize bk (y%9223372036854775808)=n
  generalize bh (x%9223372036854775808)=i
  generalize bh (y%9223372036854775808)=j
  simp only [Ieee.Datum.order]
  have e1:((-1074+(i:Int))-min (-1074+(i:Int)) (-1074+(j:Int))).toNat=i-min i j:=by omega
  have e2:((-1074+(j:Int))-min (-1074+(i:Int)) (-1074+(j:Int))).toNat=j-min i j:=by omega
  rw [e1,e2,←ii,←ii]
  have h1:Ieee.signed s m i=Ieee.signed s m (i-min i j)*((2^(min i j):Nat):Int):=by rw [←tM];congr 1;omega
  have h2:Ieee.signed t n j=Ieee.signed t n (j-min i j)*((2^(min i j):Nat):Int):=by rw [←tM];congr 1;omega
  rw [h1,h2]
  have hp:(0:Int)<((2^(min i j):Nat):Int):=by have:=Nat.pow_pos (n:=min i j) (show 0<2 by decide);omega
  generalize Ieee.signed s m (i-min i j)=a
  generalize Ieee.signed t n (j-min i j)=b
  generalize ((2^(min i j):Nat):Int)=p at hp
  have e:(a*p<b*p)↔a<b:=⟨fun h=>Int.lt_of_mul_lt_mul_right h (Int.le_of_lt hp),fun h=>Int.mul_lt_mul_of_pos_right h hp⟩
  have e3:(some (compare a b)==some Ordering.lt)=decide (a<b):=by
    rw [Bool.eq_iff_iff,decide_eq_true_eq,beq_iff_eq,Option.some.injEq]
    exact Int.compare_eq_lt
  rw [e3,Bool.eq_iff_iff,decide_eq_true_eq,decide_eq_true_eq]
  exact e.symm
def tX(x:Nat)(p:Int) :Nat:=((x:Int)+p*4503599627370496).toNat
def CW(x:Nat) :Prop:=2805742567851819008≤x%9223372036854775808∧x%9223372036854775808≤6408622269748215808
theorem Px{x:Nat}{p:Int}(hx:x<dD)(h:CW x)(hp : -300≤p∧p≤300) :
    tX x p<dD∧tX x p/9223372036854775808=x/9223372036854775808∧tX x p%4503599627370496=x%4503599627370496∧((tX x p%9223372036854775808/4503599627370496:Nat):Int)=((x%9223372036854775808/4503599627370496:Nat):Int)+p
      ∧ 323≤tX x p%9223372036854775808/4503599627370496∧tX x p%9223372036854775808/4503599627370496≤1723:=by
  have hx:x<18446744073709551616:=hx
  obtain ⟨h1,h2⟩:=h
  unfold tX
  show ((x:Int)+p*4503599627370496).toNat<18446744073709551616∧_
  omega
def tY(x:Nat)(p:Int) :Nat:=if x%9223372036854775808=0 then x else tX x p
def C6(x:Nat) :Prop:=x%9223372036854775808=0∨CW x
theorem R4{x:Nat}{p:Int}(hx:x<dD)(h:C6 x)(hp : -300≤p∧p≤300) :tY x p<dD:=by
  unfold tY
  by_cases q:x%9223372036854775808=0
  · rw [if_pos q];exact hx
  · rw [if_neg q]
    rcases h with z | z
    · exact absurd z q
    · exact (Px hx z hp).1
theorem NR{n g:Nat}(hg:0<g)(more:Bool)(h1:more=true→g≤2*(n%g))(h2:more=false→2*(n%g)≤g) :
    2*((n/g+more.toNat)*g)≤2*n+g∧2*n≤2*((n/g+more.toNat)*g)+g:=by
  have e:=Nat.div_add_mod n g
  have l:=Nat.mod_lt n hg
  have e2:(n/g+more.toNat)*g=g*(n/g)+more.toNat*g:=by rw [Nat.add_mul,Nat.mul_comm]
  rw [e2]
  generalize g*(n/g)=a at e
  cases more with
  | true =>
    have:=h1 rfl
    show 2*(a+1*g)≤_∧_≤2*(a+1*g)+g
    omega
  | false =>
    have:=h2 rfl
    show 2*(a+0*g)≤_∧_≤2*(a+0*g)+g
    omega
theorem pR(neg:Bool)(n drop:Nat) :2*(Ieee.Toward.even.cut neg n drop*2^drop)≤2*n+2^drop∧2*n≤2*(Ieee.Toward.even.cut neg n drop*2^drop)+2^drop:=by
  unfold Ieee.Toward.cut
  simp only [Nat.one_shiftLeft]
  rcases Nat.le_total drop (n.log2+2) with h | h
  · rw [Nat.min_eq_left h]
    have hg:0<2^drop:=Nat.pow_pos (by decide)
    generalize 2^drop=g at hg
    refine NR hg _ (fun q=>?_) (fun q=>?_)
    · simp only [Bool.or_eq_true,Bool.and_eq_true,decide_eq_true_eq,beq_iff_eq] at q
      omega
    · simp only [Bool.or_eq_false_iff,decide_eq_false_iff_not] at q
      omega
  · rw [Nat.min_eq_right h]
    have hn:2*n<2^(n.log2+2):=by
      have:=Nat.lt_log2_self (n:=n)
      rw [Nat.pow_succ]
      omega
    have hle:2^(n.log2+2)≤2^drop:=Nat.pow_le_pow_right (by decide) h
    generalize 2^(n.log2+2)=g at hn hle
    have e1:n/g=0:=Nat.div_eq_of_lt (by omega)
    have e2:n%g=n:=Nat.mod_eq_of_lt (by omega)
    rw [e1,e2]
    have m:(decide (g<2*n)||(g==2*n&&(0%2==1)))=false:=by
      rw [Bool.or_eq_false_iff]
      exact ⟨decide_eq_false (by omega),by rw [show (0%2==1)=false from rfl,Bool.and_false]⟩
    rw [m]
    show 2*((0+0)*2^drop)≤_∧_≤2*((0+0)*2^drop)+_
    omega
theorem xB{L k:Nat}(hk:k≤9007199254740992)(h:L=0∨4503599627370496≤k) :bk (L*4503599627370496+k)*2^bh (L*4503599627370496+k)=k*2^L:=by
  rcases Nat.eq_or_lt_of_le hk with e | hk
  · subst e
    have e1:bk (L*4503599627370496+9007199254740992)=4503599627370496:=by unfold bk;rw [if_neg (by omega)];omega
    have e2:bh (L*4503599627370496+9007199254740992)=L+1:=by unfold bh;omega
    rw [e1,e2,Nat.pow_succ,←Nat.mul_assoc,Nat.mul_comm,←Nat.mul_assoc]
  · rcases Nat.lt_or_ge k 4503599627370496 with q | q
    · have hL:L=0:=by omega
      subst hL
      have e1:bk (0*4503599627370496+k)=k:=by unfold bk;rw [if_pos (by omega)];omega
      have e2:bh (0*4503599627370496+k)=0:=by unfold bh;omega
      rw [e1,e2]
    · have e1:bk (L*4503599627370496+k)=k:=by unfold bk;rw [if_neg (by omega)];omega
      have e2:bh (L*4503599627370496+k)=L:=by unfold bh;omega
      rw [e1,e2]
structure NT (T M:Nat):Prop where
  up:9007199254740992*M≤9007199254740993*T
  down:9007199254740991*T≤9007199254740992*M
theorem Fa{neg:Bool}{mag:Nat}{place:Int}{P:Nat}(hm:mag≠0)(hp:place = -1074+(P:Int)){B:Nat}(hB:B≤2000)(hb:mag*2^P<2^B) :
    ∃ R,Ieee.double.nearest neg mag place=Ieee.double.word neg R∧R<9218868437227405312∧NT (mag*2^P) (bk R*2^bh R):=by
  have e2:Ieee.double.binade=4503599627370496:=by decide
  have e3:Ieee.double.infRung=9218868437227405312:=by decide
  have e4:Ieee.double.leastPlace = -1074:=by decide
  have e5:Ieee.double.fractionBits=52:=rfl
  have hl1:=Nat.log2_self_le hm
  have hl2:=Nat.lt_log2_self (n:=mag)
  have hlog:mag.log2+P<2000:=by
    rcases Nat.lt_or_ge (mag.log2+P) B with q | q
    · omega
    · have h1:2^B≤2^(mag.log2+P):=yf q
      rw [Nat.pow_add] at h1
      have h2:=Nat.mul_le_mul_right (2^P) hl1
      omega
  unfold Ieee.Format.nearest
  rw [if_neg hm]
  simp only [e2,e3,e4,e5]
  subst hp
  generalize hlg:mag.log2=g at *
  by_cases hx:52≤g
  ·
    have hlast:max (-1074+(P:Int)+(g:Int)-52) (-1074) = -1074+((P+(g-52):Nat):Int):=by omega
    have c1:(-1074+(P:Int)-(-1074+((P+(g-52):Nat):Int))).toNat=0:=by omega
    have c2:(-1074+((P+(g-52):Nat):Int)-(-1074+(P:Int))).toNat=g-52:=by omega
    have c3:(-1074+((P+(g-52):Nat):Int) - -1074).toNat=P+(g-52):=by omega
    show ∃ R,Ieee.double.word neg (min ((max (-1074+(P:Int)+(g:Int)-52) (-1074) - -1074).toNat*4503599627370496+Ieee.Toward.even.cut neg (mag <<< (-1074+(P:Int)-max (-1074+(P:Int)+(g:Int)-52) (-1074)).toNat) (max (-1074+(P:Int)+(g:Int)-52) (-1074)-(-1074+(P:Int))).toNat) 9218868437227405312)=_∧_
    rw [hlast,c1,c2,c3,Nat.shiftLeft_zero]
    obtain ⟨k1,k2⟩:=pR neg mag (g-52)
    generalize hk:Ieee.Toward.even.cut neg mag (g-52)=k at k1 k2
    have hs:2^g=4503599627370496*2^(g-52):=by
      rw [show (4503599627370496:Nat)=2^52 from rfl,←Nat.pow_add];congr 1;omega
    have hs1:2^(g+1)=9007199254740992*2^(g-52):=by rw [Nat.pow_succ,hs];omega
    have hd:0<2^(g-52):=Nat.pow_pos (by decide)
    rw [hs] at hl1
    rw [hs1] at hl2
    have kle:k≤9007199254740992:=by
      rcases Nat.lt_or_ge 9007199254740992 k with q | q
      · have:=Nat.mul_le_mul_right (2^(g-52)) (show 9007199254740993≤k by omega)
        omega
      · exact q
    have kge:4503599627370496≤k:=by
      rcases Nat.lt_or_ge k 4503599627370496 with q | q
      · have:=Nat.mul_le_mul_right (2^(g-52)) (show k≤4503599627370495 by omega)
        omega
      · exact q
    refine ⟨(P+(g-52))*4503599627370496+k,by rw [Nat.min_eq_left (by omega)],by omega,?_⟩
    rw [xB kle (.inr kge),Nat.add_comm P,Nat.pow_add,←Nat.mul_assoc]
    have hP:0<2^P:=Nat.pow_pos (by decide)
    have u1:9007199254740992*(k*2^(g-52))≤9007199254740993*mag:=by omega
    have u2:9007199254740991*mag≤9007199254740992*(k*2^(g-52)):=by omega
    refine ⟨?_,?_⟩
    · have:=Nat.mul_le_mul_right (2^P) u1
      simpa only [Nat.mul_assoc] using this
    · have:=Nat.mul_le_mul_right (2^P) u2
      simpa only [Nat.mul_assoc] using this
  ·
    obtain ⟨L,Q,hL,hQ⟩:∃ L Q:Nat,max (-1074+(P:Int)+(g:Int)-52) (-1074) = -1074+(L:Int)∧P=L+Q:=by
      refine ⟨P+g-52,P-(P+g-52),by omega,by omega⟩
    have hQ2:Q+g≤52:=by omega
    have hLQ:L=0∨Q+g=52:=by omega
    have c1:(-1074+(P:Int)-(-1074+(L:Int))).toNat=Q:=by omega
    have c2:(-1074+(L:Int)-(-1074+(P:Int))).toNat=0:=by omega
    have c3:(-1074+(L:Int) - -1074).toNat=L:=by omega
    show ∃ R,Ieee.double.word neg (min ((max (-1074+(P:Int)+(g:Int)-52) (-1074) - -1074).toNat*4503599627370496+Ieee.Toward.even.cut neg (mag <<< (-1074+(P:Int)-max (-1074+(P:Int)+(g:Int)-52) (-1074)).toNat) (max (-1074+(P:Int)+(g:Int)-52) (-1074)-(-1074+(P:Int))).toNat) 9218868437227405312)=_∧_
    rw [hL,c1,c2,c3,Nat.shiftLeft_eq]
    obtain ⟨k1,k2⟩:=pR neg (mag*2^Q) 0
    have hk:Ieee.Toward.even.cut neg (mag*2^Q) 0=mag*2^Q:=by
      rw [Nat.pow_zero] at k1 k2;omega
    rw [hk]
    have hlt:mag*2^Q<2^(g+1+Q):=by
      rw [Nat.pow_add]
      exact Nat.mul_lt_mul_of_pos_right hl2 (Nat.pow_pos (by decide))
    have hle:2^(g+Q)≤mag*2^Q:=by
      rw [Nat.pow_add]
      exact Nat.mul_le_mul_right _ hl1
    have h53:2^(g+1+Q)≤2^53:=yf (by omega)
    have kle:mag*2^Q≤9007199254740992:=Nat.le_trans (Nat.le_of_lt hlt) h53
    have kge:L=0∨4503599627370496≤mag*2^Q:=by
      rcases hLQ with q | q
      · exact .inl q
      · refine .inr (Nat.le_trans ?_ hle)
        have:2^52≤2^(g+Q):=yf (by omega)
        exact this
    refine ⟨L*4503599627370496+mag*2^Q,by rw [Nat.min_eq_left (by omega)],by omega,?_⟩
    rw [xB kle kge]
    have e:mag*2^P=mag*2^Q*2^L:=by rw [hQ,Nat.mul_assoc,←Nat.pow_add,Nat.add_comm]
    rw [e]
    exact ⟨by omega,by omega⟩
theorem j4{x:Nat}(h:x%9223372036854775808<9218868437227405312) :fin x=true:=by
  unfold fin zY
  rw [bne_iff_ne]
  omega
theorem Ay{neg:Bool}{R:Nat}(hR:R<9218868437227405312) :Ieee.double.word neg R<dD∧fin (Ieee.double.word neg R)=true∧fz (Ieee.double.word neg R)=sg neg (bk R*2^bh R):=by
  have e1:Ieee.double.signWeight=9223372036854775808:=by decide
  unfold Ieee.Format.word
  rw [e1]
  cases neg
  · have h1:R/9223372036854775808=0:=by omega
    have h2:R%9223372036854775808=R:=by omega
    refine ⟨?_,?_,?_⟩
    · show R<18446744073709551616;omega
    · refine j4 ?_
      show R%9223372036854775808<_
      omega
    · show fz R=_
      unfold fz
      rw [h1,h2];rfl
  · have h1:(9223372036854775808+R)/9223372036854775808=1:=by omega
    have h2:(9223372036854775808+R)%9223372036854775808=R:=by omega
    refine ⟨?_,?_,?_⟩
    · show 9223372036854775808+R<18446744073709551616;omega
    · refine j4 ?_
      show (9223372036854775808+R)%9223372036854775808<_
      omega
    · show fz (9223372036854775808+R)=_
      unfold fz
      rw [h1,h2];rfl
structure Ql (D:Int) (r:Nat):Prop where
  lt:r<dD
  fin:fin r=true
  near:9007199254740992*(fz r-D).natAbs≤D.natAbs
theorem Py{T M:Nat}(h:NT T M)(s:Bool) :9007199254740992*(sg s M-sg s T).natAbs≤(sg s T).natAbs:=by
  have h1:=h.up
  have h2:=h.down
  rw [l7]
  have e:(sg s M-sg s T).natAbs=((M:Int)-(T:Int)).natAbs:=by cases s<;>simp only [sg]<;>simp<;>omega
  rw [e]
  omega
theorem Fb{neg:Bool}{mag:Nat}{place:Int}{P B:Nat}(hp:place = -1074+(P:Int))(hB:B≤2000)(hb:mag*2^P<2^B) :Ql (sg neg (mag*2^P)) (Ieee.double.write (.number neg mag place)):=by
  by_cases hm:mag=0
  · subst hm
    have e:Ieee.double.write (.number neg 0 place)=Ieee.double.word neg 0:=by
      show Ieee.double.nearest neg 0 place=_
      unfold Ieee.Format.nearest
      rw [if_pos rfl]
    obtain ⟨a,b,c⟩:=Ay (neg:=neg) (R:=0) (by decide)
    have z:bk 0*2^bh 0=0:=by rw [show bk 0=0 from rfl,Nat.zero_mul]
    rw [e]
    refine ⟨a,b,?_⟩
    rw [c,z,Nat.zero_mul]
    cases neg<;>simp [sg]
  · obtain ⟨R,r1,r2,r3⟩:=Fa (neg:=neg) hm hp hB hb
    obtain ⟨a,b,c⟩:=Ay (neg:=neg) r2
    have e:Ieee.double.write (.number neg mag place)=Ieee.double.word neg R:=r1
    rw [e]
    exact ⟨a,b,by rw [c];exact Py r3 neg⟩
theorem Qm{s t:Bool}{m n i j B:Nat}(hB:B≤2000)(hb:(Ieee.signed s m i+Ieee.signed t n j).natAbs<2^B) :
    ∃ d,Ieee.Datum.sum (.number s m (-1074+(i:Int))) (.number t n (-1074+(j:Int)))=some d∧Ql (Ieee.signed s m i+Ieee.signed t n j) (Ieee.double.write d):=by
  have e0:min (-1074+(i:Int)) (-1074+(j:Int)) = -1074+((min i j:Nat):Int):=by omega
  have e1:((-1074+(i:Int))-(-1074+((min i j:Nat):Int))).toNat=i-min i j:=by omega
  have e2:((-1074+(j:Int))-(-1074+((min i j:Nat):Int))).toNat=j-min i j:=by omega
  have h1:Ieee.signed s m i=Ieee.signed s m (i-min i j)*((2^(min i j):Nat):Int):=by rw [←tM];congr 1;omega
  have h2:Ieee.signed t n j=Ieee.signed t n (j-min i j)*((2^(min i j):Nat):Int):=by rw [←tM];congr 1;omega
  refine ⟨_,rfl,?_⟩
  show Ql _ (Ieee.double.write (.number (if Ieee.signed s m ((-1074+(i:Int))-min (-1074+(i:Int)) (-1074+(j:Int))).toNat+Ieee.signed t n ((-1074+(j:Int))-min (-1074+(i:Int)) (-1074+(j:Int))).toNat=0 then s&&t else decide (Ieee.signed s m ((-1074+(i:Int))-min (-1074+(i:Int)) (-1074+(j:Int))).toNat+Ieee.signed t n ((-1074+(j:Int))-min (-1074+(i:Int)) (-1074+(j:Int))).toNat<0)) (Ieee.signed s m ((-1074+(i:Int))-min (-1074+(i:Int)) (-1074+(j:Int))).toNat+Ieee.signed t n ((-1074+(j:Int))-min (-1074+(i:Int)) (-1074+(j:Int))).toNat).natAbs (min (-1074+(i:Int)) (-1074+(j:Int)))))
  rw [e0,e1,e2]
  rw [h1,h2,←Int.add_mul] at hb ⊢
  generalize Ieee.signed s m (i-min i j)+Ieee.signed t n (j-min i j)=D at hb ⊢
  generalize min i j=P at hb ⊢
  have ha:(D*((2^P:Nat):Int)).natAbs=D.natAbs*2^P:=by rw [Int.natAbs_mul,Int.natAbs_natCast]
  rw [ha] at hb
  by_cases h0:D=0
  · subst h0
    rw [if_pos rfl,Int.zero_mul]
    have h:=Fb (neg:=s&&t) (mag:=0) (place:=-1074+(P:Int)) (P:=P) rfl hB (by rw [Nat.zero_mul];exact Nat.pow_pos (by decide))
    rw [Nat.zero_mul] at h
    have z:sg (s&&t) 0=0:=by cases (s&&t)<;>rfl
    rw [z] at h
    exact h
  · rw [if_neg h0]
    have h:=Fb (neg:=decide (D<0)) (mag:=D.natAbs) (place:=-1074+(P:Int)) (P:=P) rfl hB hb
    have e:sg (decide (D<0)) (D.natAbs*2^P)=D*((2^P:Nat):Int):=by
      rw [F3]
      have:=F2 D
      unfold nS at this
      rw [this]
    rw [e] at h
    exact h
theorem tN{x:Nat}(hx:x<dD) :fz x=Ieee.signed (x/9223372036854775808%2==1) (bk (x%9223372036854775808)) (bh (x%9223372036854775808)):=by
  unfold fz
  rw [ii,xA hx]
theorem Pz{x y B:Nat}(hx:x<dD)(hy:y<dD)(fx:fin x=true)(fy:fin y=true)(hB:B≤2000)(hb:(fz x+fz y).natAbs<2^B) :Ql (fz x+fz y) (cQ x y):=by
  rw [tN hx,tN hy] at hb ⊢
  obtain ⟨d,h1,h2⟩:=Qm hB hb
  unfold cQ Ieee.Format.add
  rw [b7 hx fx,b7 hy fy,h1]
  exact h2
theorem Fc{neg:Bool}{mag:Nat}{place:Int}{Q:Nat}(hp:place = -1074-(Q:Int))(hn:52+Q≤mag.log2)(hb:mag.log2≤2000+Q) :
    ∃ R,Ieee.double.nearest neg mag place=Ieee.double.word neg R∧R<9218868437227405312∧4503599627370496≤R∧NT mag (bk R*2^bh R*2^Q):=by
  have e2:Ieee.double.binade=4503599627370496:=by decide
  have e3:Ieee.double.infRung=9218868437227405312:=by decide
  have e4:Ieee.double.leastPlace = -1074:=by decide
  have e5:Ieee.double.fractionBits=52:=rfl
  have hm:mag≠0:=by intro q;subst q;rw [Nat.log2_zero] at hn;omega
  have hl1:=Nat.log2_self_le hm
  have hl2:=Nat.lt_log2_self (n:=mag)
  unfold Ieee.Format.nearest
  rw [if_neg hm]
  simp only [e2,e3,e4,e5]
  subst hp
  generalize hlg:mag.log2=g at *
  obtain ⟨L,hL⟩:∃ L:Nat,g=L+52+Q:=⟨g-52-Q,by omega⟩
  have hlast:max (-1074-(Q:Int)+(g:Int)-52) (-1074) = -1074+(L:Int):=by omega
  have c1:(-1074-(Q:Int)-(-1074+(L:Int))).toNat=0:=by omega
  have c2:(-1074+(L:Int)-(-1074-(Q:Int))).toNat=g-52:=by omega
  have c3:(-1074+(L:Int) - -1074).toNat=L:=by omega
  show ∃ R,Ieee.double.word neg (min ((max (-1074-(Q:Int)+(g:Int)-52) (-1074) - -1074).toNat*4503599627370496+Ieee.Toward.even.cut neg (mag <<< (-1074-(Q:Int)-max (-1074-(Q:Int)+(g:Int)-52) (-1074)).toNat) (max (-1074-(Q:Int)+(g:Int)-52) (-1074)-(-1074-(Q:Int))).toNat) 9218868437227405312)=_∧_
  rw [hlast,c1,c2,c3,Nat.shiftLeft_zero]
  obtain ⟨k1,k2⟩:=pR neg mag (g-52)
  generalize hk:Ieee.Toward.even.cut neg mag (g-52)=k at k1 k2
  have hs:2^g=4503599627370496*2^(g-52):=by
    rw [show (4503599627370496:Nat)=2^52 from rfl,←Nat.pow_add];congr 1;omega
  have hs1:2^(g+1)=9007199254740992*2^(g-52):=by rw [Nat.pow_succ,hs];omega
  have hd:0<2^(g-52):=Nat.pow_pos (by decide)
  rw [hs] at hl1
  rw [hs1] at hl2
  have kle:k≤9007199254740992:=by
    rcases Nat.lt_or_ge 9007199254740992 k with q | q
    · have:=Nat.mul_le_mul_right (2^(g-52)) (show 9007199254740993≤k by omega)
      omega
    · exact q
  have kge:4503599627370496≤k:=by
    rcases Nat.lt_or_ge k 4503599627370496 with q | q
    · have:=Nat.mul_le_mul_right (2^(g-52)) (show k≤4503599627370495 by omega)
      omega
    · exact q
  refine ⟨L*4503599627370496+k,by rw [Nat.min_eq_left (by omega)],by omega,by omega,?_⟩
  rw [xB kle (.inr kge),Nat.mul_assoc,←Nat.pow_add,show L+Q=g-52 by omega]
  exact ⟨by omega,by omega⟩
theorem NU{neg:Bool}{mag:Nat}{place:Int}{Q:Nat}(hm:mag≠0)(hp:place = -1074-(Q:Int))(hn:mag.log2<52+Q) :
    ∃ R,Ieee.double.nearest neg mag place=Ieee.double.word neg R∧R<9218868437227405312∧R≤4503599627370496∧2*(bk R*2^bh R*2^Q)≤2*mag+2^Q∧2*mag≤2*(bk R*2^bh R*2^Q)+2^Q:=by
  have e2:Ieee.double.binade=4503599627370496:=by decide
  have e3:Ieee.double.infRung=9218868437227405312:=by decide
  have e4:Ieee.double.leastPlace = -1074:=by decide
  have e5:Ieee.double.fractionBits=52:=rfl
  have hl2:=Nat.lt_log2_self (n:=mag)
  unfold Ieee.Format.nearest
  rw [if_neg hm]
  simp only [e2,e3,e4,e5]
  subst hp
  generalize hlg:mag.log2=g at *
  have hlast:max (-1074-(Q:Int)+(g:Int)-52) (-1074) = -1074:=by omega
  have c1:(-1074-(Q:Int) - -1074).toNat=0:=by omega
  have c2:(-1074-(-1074-(Q:Int))).toNat=Q:=by omega
  have c3:((-1074:Int) - -1074).toNat=0:=by omega
  show ∃ R,Ieee.double.word neg (min ((max (-1074-(Q:Int)+(g:Int)-52) (-1074) - -1074).toNat*4503599627370496+Ieee.Toward.even.cut neg (mag <<< (-1074-(Q:Int)-max (-1074-(Q:Int)+(g:Int)-52) (-1074)).toNat) (max (-1074-(Q:Int)+(g:Int)-52) (-1074)-(-1074-(Q:Int))).toNat) 9218868437227405312)=_∧_
  rw [hlast,c1,c2,c3,Nat.shiftLeft_zero,Nat.zero_mul,Nat.zero_add]
  obtain ⟨k1,k2⟩:=pR neg mag Q
  generalize hk:Ieee.Toward.even.cut neg mag Q=k at k1 k2
  have hd:0<2^Q:=Nat.pow_pos (by decide)
  have hlt:mag<4503599627370496*2^Q:=by
    refine Nat.lt_of_lt_of_le hl2 ?_
    have:2^(g+1)≤2^(52+Q):=yf (by omega)
    rw [Nat.pow_add 2 52 Q] at this
    exact this
  have kle:k≤4503599627370496:=by
    rcases Nat.lt_or_ge 4503599627370496 k with q | q
    · have:=Nat.mul_le_mul_right (2^Q) (show 4503599627370497≤k by omega)
      omega
    · exact q
  refine ⟨k,by rw [Nat.min_eq_left (by omega)],by omega,kle,?_⟩
  have h:=xB (L:=0) (k:=k) (by omega) (.inl rfl)
  rw [Nat.zero_mul,Nat.zero_add,Nat.pow_zero,Nat.mul_one] at h
  rw [h]
  exact ⟨k1,k2⟩
structure Ap (n X Y:Nat):Prop where
  up:9223372036854775808*X≤(9223372036854775808+n)*Y
  down:9223372036854775808*Y≤9223372036854775808*X+n*Y
theorem NT.ap{T M:Nat}(h:NT T M) :Ap 1024 M T:=by
  obtain ⟨a,b⟩:=h
  exact ⟨by omega,by omega⟩
theorem Ap.mono{n m X Y:Nat}(h:Ap n X Y)(hm:n≤m) :Ap m X Y:=by
  obtain ⟨a,b⟩:=h
  have:=Nat.mul_le_mul_right Y hm
  refine ⟨?_,by omega⟩
  rw [Nat.add_mul] at a ⊢
  omega
theorem Ap.refl(n X:Nat) :Ap n X X:=⟨by rw [Nat.add_mul];omega,by omega⟩
theorem Ap.mul{n X Y:Nat}(h:Ap n X Y)(Z:Nat) :Ap n (X*Z) (Y*Z):=by
  obtain ⟨a,b⟩:=h
  have a':=Nat.mul_le_mul_right Z a
  have b':=Nat.mul_le_mul_right Z b
  rw [Nat.mul_assoc,Nat.mul_assoc] at a'
  rw [Nat.add_mul,Nat.mul_assoc,Nat.mul_assoc,Nat.mul_assoc] at b'
  exact ⟨a',b'⟩
theorem Ap.div{n X Y Z:Nat}(hZ:0<Z)(h:Ap n (X*Z) (Y*Z)) :Ap n X Y:=by
  obtain ⟨a,b⟩:=h
  rw [←Nat.mul_assoc,←Nat.mul_assoc] at a
  rw [←Nat.mul_assoc,←Nat.mul_assoc,←Nat.mul_assoc,←Nat.add_mul] at b
  exact ⟨Nat.le_of_mul_le_mul_right a hZ,Nat.le_of_mul_le_mul_right b hZ⟩
theorem Ap.add{n X Y X' Y':Nat}(h:Ap n X Y)(h':Ap n X' Y') :Ap n (X+X') (Y+Y'):=by
  obtain ⟨a,b⟩:=h
  obtain ⟨a',b'⟩:=h'
  refine ⟨?_,?_⟩
  · rw [Nat.mul_add,Nat.mul_add];omega
  · rw [Nat.mul_add,Nat.mul_add,Nat.mul_add];omega
theorem Ap.trans{n m X Y Z:Nat}(h:Ap n X Y)(h':Ap m Y Z)(hn:n≤1000000)(hm:m≤1000000) :Ap (n+m+1) X Z:=by
  obtain ⟨a,b⟩:=h
  obtain ⟨a',b'⟩:=h'
  have nm:n*m≤9223372036854775808:=Nat.le_trans (Nat.mul_le_mul hn hm) (by decide)
  refine ⟨?_,?_⟩
  ·
    have s1:=Nat.mul_le_mul_left 9223372036854775808 a
    have s2:=Nat.mul_le_mul_left (9223372036854775808+n) a'
    have e1:9223372036854775808*((9223372036854775808+n)*Y)=(9223372036854775808+n)*(9223372036854775808*Y):=by ac_rfl
    have e2:(9223372036854775808+n)*((9223372036854775808+m)*Z)=9223372036854775808*((9223372036854775808+n+m)*Z)+n*m*Z:=by
      have:(9223372036854775808+n)*(9223372036854775808+m)=9223372036854775808*(9223372036854775808+n+m)+n*m:=by
        rw [Nat.add_mul,Nat.mul_add,Nat.mul_add,Nat.mul_add,Nat.mul_add,Nat.mul_comm n 9223372036854775808];omega
      rw [←Nat.mul_assoc,this,Nat.add_mul,Nat.mul_assoc]
    have s3:=Nat.mul_le_mul_right Z nm
    have e3:9223372036854775808*((9223372036854775808+(n+m+1))*Z)=9223372036854775808*((9223372036854775808+n+m)*Z)+9223372036854775808*Z:=by
      rw [←Nat.mul_add];congr 1
      rw [show 9223372036854775808+(n+m+1)=(9223372036854775808+n+m)+1 by omega,Nat.add_mul,Nat.one_mul]
    have:9223372036854775808*(9223372036854775808*X)≤9223372036854775808*((9223372036854775808+(n+m+1))*Z):=by omega
    exact Nat.le_of_mul_le_mul_left this (by decide)
  ·
    have s1:n*(9223372036854775808*Y)≤n*((9223372036854775808+m)*Z):=Nat.mul_le_mul_left n a'
    have s3:=Nat.mul_le_mul_right Z nm
    have e1:n*(9223372036854775808*Y)=9223372036854775808*(n*Y):=by ac_rfl
    have e2:n*((9223372036854775808+m)*Z)=9223372036854775808*(n*Z)+n*m*Z:=by
      rw [Nat.add_mul,Nat.mul_add,Nat.mul_assoc]
      congr 1
      ac_rfl
    have e3:(n+m+1)*Z=n*Z+m*Z+Z:=by rw [Nat.add_mul,Nat.add_mul,Nat.one_mul]
    rw [e3]
    omega
theorem Ap.symm{n X Y:Nat}(h:Ap n X Y)(hn:n≤1000000) :Ap (n+1) Y X:=by
  obtain ⟨a,b⟩:=h
  refine ⟨?_,?_⟩
  ·
    have s1:=Nat.mul_le_mul_left n b
    have e1:n*(9223372036854775808*Y)=9223372036854775808*(n*Y):=by ac_rfl
    have e2:n*(9223372036854775808*X+n*Y)=9223372036854775808*(n*X)+n*n*Y:=by
      rw [Nat.mul_add];congr 1<;>ac_rfl
    have nn:n*n*2≤9223372036854775808:=Nat.le_trans (Nat.mul_le_mul_right 2 (Nat.mul_le_mul hn hn)) (by decide)
    have y2:Y≤2*X:=by
      have:=Nat.mul_le_mul_right Y hn
      omega
    have s3:=Nat.mul_le_mul (Nat.le_refl (n*n)) y2
    have s4:=Nat.mul_le_mul_right X nn
    have e4:n*n*(2*X)=n*n*2*X:=by ac_rfl
    have e5:(9223372036854775808+(n+1))*X=9223372036854775808*X+n*X+X:=by
      rw [Nat.add_mul,Nat.add_mul,Nat.one_mul];omega
    rw [e5]
    omega
  · have s1:=a
    rw [Nat.add_mul] at s1
    have y2:n*Y≤n*X+X:=by
      have s2:=Nat.mul_le_mul_left n b
      have e1:n*(9223372036854775808*Y)=9223372036854775808*(n*Y):=by ac_rfl
      have e2:n*(9223372036854775808*X+n*Y)=9223372036854775808*(n*X)+n*n*Y:=by
        rw [Nat.mul_add];congr 1<;>ac_rfl
      have nn:n*n*2≤9223372036854775808:=Nat.le_trans (Nat.mul_le_mul_right 2 (Nat.mul_le_mul hn hn)) (by decide)
      have y2:Y≤2*X:=by
        have:=Nat.mul_le_mul_right Y hn
        omega
      have s3:=Nat.mul_le_mul (Nat.le_refl (n*n)) y2
      have s4:=Nat.mul_le_mul_right X nn
      have e4:n*n*(2*X)=n*n*2*X:=by ac_rfl
      omega
    have e5:(n+1)*X=n*X+X:=by rw [Nat.add_mul,Nat.one_mul]
    rw [e5]
    omega
theorem Ap.prod{n m X Y X' Y':Nat}(h:Ap n X Y)(h':Ap m X' Y')(hn:n≤1000000)(hm:m≤1000000) :Ap (n+m+1) (X*X') (Y*Y'):=by
  have a:=h.mul X'
  have b:=h'.mul Y
  rw [Nat.mul_comm X' Y,Nat.mul_comm Y' Y] at b
  exact a.trans b hn hm
def E2(k:Nat) :Nat:=2^k
theorem bo(a b:Nat) :E2 (a+b)=E2 a*E2 b:=Nat.pow_add 2 a b
theorem fQ(a:Nat) :0<E2 a:=Nat.pow_pos (by decide)
theorem lV{a b:Nat}(h:a≤b) :E2 a≤E2 b:=Nat.pow_le_pow_right (by decide) h
theorem mv{a b:Nat}(h:E2 a<E2 b) :a<b:=by
  rcases Nat.lt_or_ge a b with q | q
  · exact q
  · exact absurd (lV q) (by omega)
theorem vW{neg:Bool}{mag:Nat}{place:Int}{P B:Nat}(hm:mag≠0)(hp:place = -1074+(P:Int))(hB:B≤2000)(hb:mag*E2 P<E2 B) :
    ∃ R,Ieee.double.nearest neg mag place=Ieee.double.word neg R∧R<9218868437227405312∧NT (mag*E2 P) (bk R*E2 (bh R)):=Fa hm hp hB hb
def vl(x:Nat) :Nat:=(fz x).natAbs
def sb(x:Nat) :Bool:=x/9223372036854775808%2==1
theorem lW(x:Nat) :vl x=bk (x%9223372036854775808)*E2 (bh (x%9223372036854775808)):=by unfold vl fz;rw [l7];rfl
theorem M1{x:Nat}(hx:x<dD) :fz x=sg (sb x) (vl x):=by
  unfold sb vl fz
  rw [xA hx,l7]
structure Rq (neg:Bool) (w:Nat):Prop where
  lt:w<dD
  fin:fin w=true
  sgn:fz w=sg neg (vl w)
theorem rb{neg:Bool}{R:Nat}(h:R<9218868437227405312) :Rq neg (Ieee.double.word neg R)∧vl (Ieee.double.word neg R)=bk R*E2 (bh R):=by
  obtain ⟨a,b,c⟩:=Ay (neg:=neg) h
  have v:vl (Ieee.double.word neg R)=bk R*E2 (bh R):=by unfold vl;rw [c,l7];rfl
  exact ⟨⟨a,b,by rw [c,v];rfl⟩,v⟩
def Mr(A w:Nat) :Prop:=Ap 1024 (vl w*E2 1074) A∨(2*(vl w*E2 1074)≤2*A+E2 1074∧2*A≤2*(vl w*E2 1074)+E2 1074∧A<E2 1126)
theorem Qn{neg:Bool}{mag:Nat}{place:Int}{s:Nat}(hp:place = -2148+(s:Int))(hb:mag*E2 s<E2 3000) :
    Rq neg (Ieee.double.write (.number neg mag place))∧Mr (mag*E2 s) (Ieee.double.write (.number neg mag place)):=by
  show Rq neg (Ieee.double.nearest neg mag place)∧Mr _ (Ieee.double.nearest neg mag place)
  by_cases hm:mag=0
  · subst hm
    have e:Ieee.double.nearest neg 0 place=Ieee.double.word neg 0:=by unfold Ieee.Format.nearest;rw [if_pos rfl]
    rw [e]
    obtain ⟨a,b⟩:=rb (neg:=neg) (R:=0) (by decide)
    refine ⟨a,.inl ?_⟩
    rw [b,show bk 0=0 from rfl,Nat.zero_mul,Nat.zero_mul,Nat.zero_mul]
    exact Ap.refl _ _
  have hl1:=Nat.log2_self_le hm
  have hlog:mag.log2+s<3000:=by
    refine mv (Nat.lt_of_le_of_lt ?_ hb)
    rw [bo]
    exact Nat.mul_le_mul_right _ hl1
  rcases Nat.lt_or_ge s 1074 with q | q
  · obtain ⟨Q,hQ⟩:∃ Q,1074=s+Q:=⟨1074-s,by omega⟩
    have e1074:E2 1074=E2 Q*E2 s:=by rw [hQ,Nat.add_comm,bo]
    by_cases hn:52+Q≤mag.log2
    · obtain ⟨R,r1,r2,r3,r4⟩:=Fc (neg:=neg) (mag:=mag) (place:=place) (Q:=Q) (by omega) hn (by omega)
      rw [r1]
      obtain ⟨a,b⟩:=rb (neg:=neg) r2
      refine ⟨a,.inl ?_⟩
      have h:Ap 1024 (bk R*E2 (bh R)*E2 Q) mag:=r4.ap
      rw [b,e1074,←Nat.mul_assoc]
      exact h.mul _
    · obtain ⟨R,r1,r2,r3,r4,r5⟩:=NU (neg:=neg) (mag:=mag) (place:=place) (Q:=Q) hm (by omega) (by omega)
      rw [r1]
      obtain ⟨a,b⟩:=rb (neg:=neg) r2
      refine ⟨a,.inr ?_⟩
      have r4':2*(bk R*E2 (bh R)*E2 Q)≤2*mag+E2 Q:=r4
      have r5':2*mag≤2*(bk R*E2 (bh R)*E2 Q)+E2 Q:=r5
      have m4:=Nat.mul_le_mul_right (E2 s) r4'
      have m5:=Nat.mul_le_mul_right (E2 s) r5'
      rw [b,e1074]
      refine ⟨by simpa only [Nat.add_mul,Nat.mul_assoc] using m4,by simpa only [Nat.add_mul,Nat.mul_assoc] using m5,?_⟩
      have hl2:=Nat.lt_log2_self (n:=mag)
      have h1:mag*E2 s<E2 (mag.log2+1)*E2 s:=Nat.mul_lt_mul_of_pos_right hl2 (fQ s)
      rw [←bo] at h1
      exact Nat.lt_of_lt_of_le h1 (lV (by omega))
  · obtain ⟨P,hP⟩:∃ P,s=P+1074:=⟨s-1074,by omega⟩
    have hB:mag*E2 P<E2 1926:=by
      have hb':mag*E2 P*E2 1074<E2 1926*E2 1074:=by
        rw [Nat.mul_assoc,←bo,←hP,←bo]
        exact hb
      exact Nat.lt_of_mul_lt_mul_right hb'
    obtain ⟨R,r1,r2,r3⟩:=vW (neg:=neg) (mag:=mag) (place:=place) (P:=P) (B:=1926) hm (by omega) (by omega) hB
    rw [r1]
    obtain ⟨a,b⟩:=rb (neg:=neg) r2
    refine ⟨a,.inl ?_⟩
    have h:Ap 1024 (bk R*E2 (bh R)) (mag*E2 P):=r3.ap
    rw [b,hP,bo,←Nat.mul_assoc]
    exact h.mul _
theorem G1{x y:Nat}(hx:x<dD)(hy:y<dD)(fx:fin x=true)(fy:fin y=true)(hb:vl x*vl y<E2 3000) :Rq (sb x ^^ sb y) (aP x y)∧Mr (vl x*vl y) (aP x y):=by
  have e:vl x*vl y=bk (x%9223372036854775808)*bk (y%9223372036854775808)*E2 (bh (x%9223372036854775808)+bh (y%9223372036854775808)):=by
    rw [lW,lW,bo];ac_rfl
  rw [e] at hb ⊢
  have h:=Qn (neg:=sb x ^^ sb y) (place:=-1074+((bh (x%9223372036854775808):Nat):Int)+(-1074+((bh (y%9223372036854775808):Nat):Int))) (by omega) hb
  have ef:aP x y=Ieee.double.write (.number (sb x ^^ sb y) (bk (x%9223372036854775808)*bk (y%9223372036854775808)) (-1074+((bh (x%9223372036854775808):Nat):Int)+(-1074+((bh (y%9223372036854775808):Nat):Int)))):=by
    unfold aP Ieee.Format.mul
    rw [b7 hx fx,b7 hy fy]
    rfl
  rw [ef]
  exact h
theorem PA{D n:Nat}(hn:0<n)(hD:9007199254740992*n≤D) :Ap 512 ((2*(D/n)+(D%n != 0).toNat)*n) (2*D):=by
  have e:=Nat.div_add_mod D n
  have l:=Nat.mod_lt D hn
  have e2:(2*(D/n)+(D%n != 0).toNat)*n=2*(n*(D/n))+(D%n != 0).toNat*n:=by rw [Nat.add_mul,Nat.mul_assoc,Nat.mul_comm (D/n) n]
  rw [e2]
  generalize n*(D/n)=a at e
  by_cases h:D%n=0
  · have:(D%n != 0).toNat=0:=by rw [h];rfl
    rw [this]
    exact ⟨by omega,by omega⟩
  · have:(D%n != 0).toNat=1:=by rw [bne_iff_ne.2 h];rfl
    rw [this]
    exact ⟨by omega,by omega⟩
theorem M2{x y:Nat}(hx:x<dD)(hy:y<dD)(fx:fin x=true)(fy:fin y=true)(x0:vl x≠0)(y0:vl y≠0)(hlo:vl y≤vl x*E2 1000)(hhi:vl x≤vl y*E2 900) :
    Rq (sb x ^^ sb y) (fdiv x y)∧Ap 1540 (vl (fdiv x y)*vl y) (vl x*E2 1074):=by
  have ef:fdiv x y=Ieee.double.write (.number (sb x ^^ sb y) (2*((bk (x%9223372036854775808) <<< (54+(bk (y%9223372036854775808)).log2-(bk (x%9223372036854775808)).log2))/bk (y%9223372036854775808))+((bk (x%9223372036854775808) <<< (54+(bk (y%9223372036854775808)).log2-(bk (x%9223372036854775808)).log2))%bk (y%9223372036854775808) != 0).toNat)
      (-1074+((bh (x%9223372036854775808):Nat):Int)-(-1074+((bh (y%9223372036854775808):Nat):Int))-((54+(bk (y%9223372036854775808)).log2-(bk (x%9223372036854775808)).log2:Nat):Int)-1)):=by
    have n0:bk (y%9223372036854775808)≠0:=by intro q;apply y0;rw [lW,q,Nat.zero_mul]
    unfold fdiv Ieee.Format.div
    rw [b7 hx fx,b7 hy fy]
    simp only [Ieee.Datum.quotient,if_neg n0]
    rfl
  have mlt:=kM (x%9223372036854775808)
  have nlt:=kM (y%9223372036854775808)
  rw [ef]
  rw [lW x] at x0 hlo hhi
  rw [lW y] at y0 hlo hhi
  rw [lW x,lW y]
  generalize bk (x%9223372036854775808)=m at *
  generalize bk (y%9223372036854775808)=n at *
  generalize bh (x%9223372036854775808)=i at *
  generalize bh (y%9223372036854775808)=j at *
  clear ef
  have m0:m≠0:=by intro q;apply x0;rw [q,Nat.zero_mul]
  have n0:n≠0:=by intro q;apply y0;rw [q,Nat.zero_mul]
  have ml1:=Nat.log2_self_le m0
  have ml2:=Nat.lt_log2_self (n:=m)
  have nl1:=Nat.log2_self_le n0
  have nl2:=Nat.lt_log2_self (n:=n)
  have mlog:m.log2<53:=by
    have:E2 m.log2<E2 53:=Nat.lt_of_le_of_lt ml1 mlt
    exact mv this
  have nlog:n.log2<53:=by
    have:E2 n.log2<E2 53:=Nat.lt_of_le_of_lt nl1 nlt
    exact mv this
  obtain ⟨k,hk⟩:∃ k,54+n.log2-m.log2=k:=⟨_,rfl⟩
  rw [hk,Nat.shiftLeft_eq]
  have hkm:k+m.log2=54+n.log2:=by omega
  have D1:9007199254740992*n≤m*2^k:=by
    have a:E2 (m.log2+k)≤m*E2 k:=by rw [bo];exact Nat.mul_le_mul_right _ ml1
    have b:n≤E2 (n.log2+1):=Nat.le_of_lt nl2
    have c:9007199254740992*E2 (n.log2+1)=E2 (m.log2+k):=by
      rw [show (9007199254740992:Nat)=E2 53 from rfl,←bo];congr 1;omega
    have:=Nat.mul_le_mul_left 9007199254740992 b
    rw [c] at this
    exact Nat.le_trans this a
  have q1:=PA (Nat.pos_of_ne_zero n0) D1
  have glo:18014398509481984≤2*(m*2^k/n)+(m*2^k%n != 0).toNat:=by
    have:=(Nat.le_div_iff_mul_le (Nat.pos_of_ne_zero n0)).2 D1
    omega
  have ghi:2*(m*2^k/n)+(m*2^k%n != 0).toNat<E2 56:=by
    have a:m*2^k<E2 55*n:=by
      have a1:m*E2 k<E2 (m.log2+1)*E2 k:=Nat.mul_lt_mul_of_pos_right ml2 (fQ k)
      have a2:E2 (m.log2+1)*E2 k=E2 55*E2 n.log2:=by rw [←bo,←bo];congr 1;omega
      rw [a2] at a1
      exact Nat.lt_of_lt_of_le a1 (Nat.mul_le_mul_left _ nl1)
    have b:=(Nat.div_lt_iff_lt_mul (Nat.pos_of_ne_zero n0)).2 a
    have c:E2 56=2*E2 55:=by rw [show 56=55+1 from rfl,bo,Nat.mul_comm];rfl
    have d:(m*2^k%n != 0).toNat≤1:=Bool.toNat_le _
    omega
  generalize 2*(m*2^k/n)+(m*2^k%n != 0).toNat=g at q1 glo ghi ⊢
  have g0:g≠0:=by omega
  have gl1:=Nat.log2_self_le g0
  have gl2:=Nat.lt_log2_self (n:=g)
  have glog1:54≤g.log2:=by
    have:E2 54<E2 (g.log2+1):=Nat.lt_of_le_of_lt glo gl2
    have:=mv this
    omega
  have glog2:g.log2<56:=mv (Nat.lt_of_le_of_lt gl1 ghi)

  have r1:j<i+1053:=by
    have a:E2 j≤n*E2 j:=Nat.le_mul_of_pos_left _ (Nat.pos_of_ne_zero n0)
    have b:m*E2 i*E2 1000<E2 53*E2 i*E2 1000:=Nat.mul_lt_mul_of_pos_right (Nat.mul_lt_mul_of_pos_right mlt (fQ _)) (fQ _)
    have c:=Nat.lt_of_le_of_lt (Nat.le_trans a hlo) b
    rw [←bo,←bo] at c
    have:=mv c
    omega
  have r2:m.log2+i<n.log2+j+901:=by
    have a:E2 (m.log2+i)≤m*E2 i:=by rw [bo];exact Nat.mul_le_mul_right _ ml1
    have b:n*E2 j*E2 900<E2 (n.log2+1)*E2 j*E2 900:=Nat.mul_lt_mul_of_pos_right (Nat.mul_lt_mul_of_pos_right nl2 (fQ _)) (fQ _)
    have c:=Nat.lt_of_le_of_lt (Nat.le_trans a hhi) b
    rw [←bo,←bo] at c
    have:=mv c
    omega

  have r3:j+n.log2<i+m.log2+1001:=by
    have a:E2 (n.log2+j)≤n*E2 j:=by rw [bo];exact Nat.mul_le_mul_right _ nl1
    have b:m*E2 i*E2 1000<E2 (m.log2+1)*E2 i*E2 1000:=Nat.mul_lt_mul_of_pos_right (Nat.mul_lt_mul_of_pos_right ml2 (fQ _)) (fQ _)
    have c:=Nat.lt_of_le_of_lt (Nat.le_trans a hlo) b
    rw [←bo,←bo] at c
    have:=mv c
    omega
  have q2:Ap 512 (g*n) (m*E2 (k+1)):=by
    have e:2*(m*2^k)=m*E2 (k+1):=by
      rw [bo]
      show 2*(m*2^k)=m*(2^k*2)
      ac_rfl
    rw [←e];exact q1
  rcases Nat.lt_or_ge (1073+i) (j+k) with q | q
  · obtain ⟨Q,hQ⟩:∃ Q,1073+i+Q=j+k:=⟨j+k-(1073+i),by omega⟩
    obtain ⟨R,s1,s2,s3,s4⟩:=Fc (neg:=sb x ^^ sb y) (mag:=g) (place:=-1074+(i:Int)-(-1074+(j:Int))-(k:Int)-1) (Q:=Q) (by omega) (by omega) (by omega)
    show Rq _ (Ieee.double.nearest _ _ _)∧Ap 1540 (vl (Ieee.double.nearest _ _ _)*_) _
    rw [s1]
    obtain ⟨a,b⟩:=rb (neg:=sb x ^^ sb y) s2
    refine ⟨a,?_⟩
    rw [b]
    have h:Ap 1024 (bk R*E2 (bh R)*E2 Q) g:=s4.ap
    have h2:=((h.mul n).trans q2 (by omega) (by omega)).mul (E2 j)
    refine Ap.div (fQ Q) ?_
    have e1:bk R*E2 (bh R)*(n*E2 j)*E2 Q=bk R*E2 (bh R)*E2 Q*n*E2 j:=by ac_rfl
    have e2:m*E2 i*E2 1074*E2 Q=m*E2 (k+1)*E2 j:=by
      rw [Nat.mul_assoc,Nat.mul_assoc,Nat.mul_assoc,←bo,←bo,←bo]
      congr 2
      omega
    rw [e1,e2]
    exact h2.mono (by omega)
  · obtain ⟨P,hP⟩:∃ P,1073+i=j+k+P:=⟨1073+i-(j+k),by omega⟩
    have hb:g*E2 P<E2 2000:=by
      have h1:g*E2 P<E2 56*E2 P:=Nat.mul_lt_mul_of_pos_right ghi (fQ P)
      rw [←bo] at h1
      exact Nat.lt_of_lt_of_le h1 (lV (by omega))
    obtain ⟨R,s1,s2,s3⟩:=vW (neg:=sb x ^^ sb y) (mag:=g) (place:=-1074+(i:Int)-(-1074+(j:Int))-(k:Int)-1) (P:=P) (B:=2000) g0 (by omega) (by omega) hb
    show Rq _ (Ieee.double.nearest _ _ _)∧Ap 1540 (vl (Ieee.double.nearest _ _ _)*_) _
    rw [s1]
    obtain ⟨a,b⟩:=rb (neg:=sb x ^^ sb y) s2
    refine ⟨a,?_⟩
    rw [b]
    have h:Ap 1024 (bk R*E2 (bh R)) (g*E2 P):=s3.ap
    have h1:=(h.mul (n*E2 j))
    have e1:g*E2 P*(n*E2 j)=g*n*(E2 P*E2 j):=by ac_rfl
    rw [e1] at h1
    have h2:=h1.trans (q2.mul (E2 P*E2 j)) (by omega) (by omega)
    have e2:m*E2 (k+1)*(E2 P*E2 j)=m*E2 i*E2 1074:=by
      rw [Nat.mul_assoc,Nat.mul_assoc,←bo,←bo,←bo]
      congr 2
      omega
    rw [e2] at h2
    exact h2.mono (by omega)
theorem Eh(n todo root:Nat) :Ieee.Datum.rootFrom n (todo+1) root=Ieee.Datum.rootFrom n todo (if (root+2^todo)*(root+2^todo)≤n then root+2^todo else root):=by
  rw [Ieee.Datum.rootFrom]
  simp only [Nat.one_shiftLeft]
theorem pD{n:Nat} :∀ {todo root:Nat},root*root≤n→n<(root+2^todo)*(root+2^todo)→Ieee.Datum.rootFrom n todo root*Ieee.Datum.rootFrom n todo root≤n∧n<(Ieee.Datum.rootFrom n todo root+1)*(Ieee.Datum.rootFrom n todo root+1)
  | 0,root,h1,h2=>⟨h1,h2⟩
  | todo+1,root,h1,h2=>by
    rw [Eh]
    by_cases h:(root+2^todo)*(root+2^todo)≤n
    · rw [if_pos h]
      refine pD h ?_
      have e:root+2^todo+2^todo=root+2^(todo+1):=by rw [Nat.pow_succ];omega
      rw [e];exact h2
    · rw [if_neg h]
      exact pD h1 (by omega)
theorem NV{n w:Nat}(h1:w*w≤n)(h2:n<(w+1)*(w+1))(hw:18014398509481984≤w) :Ap 640 ((2*w+(w*w != n).toNat)*(2*w+(w*w != n).toNat)) (4*n):=by
  have e:(w+1)*(w+1)=w*w+2*w+1:=by rw [Nat.add_mul,Nat.mul_add];omega
  rw [e] at h2
  have big:=Nat.mul_le_mul_right w hw
  have z:∀ t,(2*w+t)*(2*w+t)=4*(w*w)+4*(w*t)+t*t:=by
    intro t
    have:(2*w+t)*(2*w+t)=2*w*(2*w)+2*w*t+(t*(2*w)+t*t):=by rw [Nat.add_mul,Nat.mul_add,Nat.mul_add]
    have a1:2*w*(2*w)=4*(w*w):=by rw [show 4=2*2 from rfl];ac_rfl
    have a2:2*w*t=2*(w*t):=by ac_rfl
    have a3:t*(2*w)=2*(w*t):=by ac_rfl
    omega
  rw [z]
  generalize w*w=a at h1 h2 big ⊢
  by_cases h:a=n
  · have:(a != n).toNat=0:=by rw [h,bne_self_eq_false];rfl
    rw [this]
    exact ⟨by omega,by omega⟩
  · have:(a != n).toNat=1:=by rw [bne_iff_ne.2 h];rfl
    rw [this]
    exact ⟨by omega,by omega⟩
theorem JS{x:Nat}(hx:x<dD)(fx:fin x=true)(hs:sb x=false)(x0:vl x≠0) :Rq false (bP x)∧Ap 2700 (vl (bP x)*vl (bP x)) (vl x*E2 1074):=by
  have mlt:=kM (x%9223372036854775808)
  have ilt:bh (x%9223372036854775808)<2046:=by
    unfold fin zY at fx
    rw [bne_iff_ne] at fx
    unfold bh
    omega
  have ef:∀ k n w:Nat,k=(108-(bk (x%9223372036854775808)).log2)+((-1074+((bh (x%9223372036854775808):Nat):Int)-((108-(bk (x%9223372036854775808)).log2:Nat):Int))%2).toNat→n=bk (x%9223372036854775808) <<< k→w=Ieee.Datum.rootFrom n (n.log2/2+1) 0 →
      bP x=Ieee.double.write (.number false (2*w+(w*w != n).toNat) ((-1074+((bh (x%9223372036854775808):Nat):Int)-(k:Int))/2-1)):=by
    intro k n w hk hn hw
    have m0:bk (x%9223372036854775808)≠0:=by intro q;apply x0;rw [lW,q,Nat.zero_mul]
    have hs':(x/9223372036854775808%2==1)=false:=hs
    unfold bP Ieee.Format.sqrt
    rw [b7 hx fx,hs']
    simp only [Ieee.Datum.root,if_neg m0,Bool.false_eq_true,if_false]
    subst hk
    subst hn
    subst hw
    rfl
  rw [lW x] at x0 ⊢
  generalize bk (x%9223372036854775808)=m at *
  generalize bh (x%9223372036854775808)=i at *
  have m0:m≠0:=by intro q;apply x0;rw [q,Nat.zero_mul]
  have ml1:=Nat.log2_self_le m0
  have ml2:=Nat.lt_log2_self (n:=m)
  have mlog:m.log2<53:=by
    have:E2 m.log2<E2 53:=Nat.lt_of_le_of_lt ml1 mlt
    exact mv this
  obtain ⟨k,hk⟩:∃ k,k=(108-m.log2)+((-1074+(i:Int)-((108-m.log2:Nat):Int))%2).toNat:=⟨_,rfl⟩
  obtain ⟨n,hn⟩:∃ n,n=m <<< k:=⟨_,rfl⟩
  obtain ⟨w,hw⟩:∃ w,w=Ieee.Datum.rootFrom n (n.log2/2+1) 0:=⟨_,rfl⟩
  rw [ef k n w hk hn hw]
  clear ef
  rw [Nat.shiftLeft_eq] at hn
  obtain ⟨P,hP⟩:∃ P,2*P+k=1072+i:=⟨(1072+i-k)/2,by omega⟩
  have hpl:(-1074+(i:Int)-(k:Int))/2-1 = -1074+(P:Int):=by omega
  have kb:108≤m.log2+k∧m.log2+k≤109:=by omega
  have n1:E2 108≤n:=by
    have a:E2 (m.log2+k)≤m*E2 k:=by rw [bo];exact Nat.mul_le_mul_right _ ml1
    rw [hn]
    exact Nat.le_trans (lV kb.1) a
  have n2:n<E2 110:=by
    have a:m*E2 k<E2 (m.log2+1)*E2 k:=Nat.mul_lt_mul_of_pos_right ml2 (fQ k)
    rw [←bo] at a
    rw [hn]
    exact Nat.lt_of_lt_of_le a (lV (by omega))
  have nw:n<(0+2^(n.log2/2+1))*(0+2^(n.log2/2+1)):=by
    have a:=Nat.lt_log2_self (n:=n)
    rw [Nat.zero_add,←Nat.pow_add]
    exact Nat.lt_of_lt_of_le a (yf (by omega))
  obtain ⟨w1,w2⟩:=pD (n:=n) (todo:=n.log2/2+1) (root:=0) (Nat.zero_le _) nw
  rw [←hw] at w1 w2
  have wlo:18014398509481984≤w:=by
    rcases Nat.lt_or_ge w 18014398509481984 with q | q
    · have a:(w+1)*(w+1)≤18014398509481984*18014398509481984:=Nat.mul_le_mul (by omega) (by omega)
      have e:18014398509481984*18014398509481984=E2 108:=by decide
      rw [e] at a
      omega
    · exact q
  have whi:w<36028797018963968:=by
    rcases Nat.lt_or_ge w 36028797018963968 with q | q
    · exact q
    · have a:36028797018963968*36028797018963968≤w*w:=Nat.mul_le_mul q q
      have e:36028797018963968*36028797018963968=E2 110:=by decide
      rw [e] at a
      omega
  have rn:=NV w1 w2 wlo
  have hst:(w*w != n).toNat≤1:=Bool.toNat_le _
  have g0:2*w+(w*w != n).toNat≠0:=by omega
  have ghi:2*w+(w*w != n).toNat<E2 56:=by
    have e:E2 56=72057594037927936:=by decide
    rw [e];omega
  generalize 2*w+(w*w != n).toNat=g at rn g0 ghi ⊢
  have hb:g*E2 P<E2 1700:=by
    have h1:g*E2 P<E2 56*E2 P:=Nat.mul_lt_mul_of_pos_right ghi (fQ P)
    rw [←bo] at h1
    exact Nat.lt_of_lt_of_le h1 (lV (by omega))
  obtain ⟨R,s1,s2,s3⟩:=vW (neg:=false) (mag:=g) (place:=(-1074+(i:Int)-(k:Int))/2-1) (P:=P) (B:=1700) g0 hpl (by omega) hb
  show Rq _ (Ieee.double.nearest _ _ _)∧Ap 2700 (vl (Ieee.double.nearest _ _ _)*vl (Ieee.double.nearest _ _ _)) _
  rw [s1]
  obtain ⟨a,b⟩:=rb (neg:=false) s2
  refine ⟨a,?_⟩
  rw [b]
  have h:Ap 1024 (bk R*E2 (bh R)) (g*E2 P):=s3.ap
  have h1:=h.prod h (by omega) (by omega)
  have e1:g*E2 P*(g*E2 P)=g*g*(E2 P*E2 P):=by ac_rfl
  rw [e1] at h1
  have h2:=h1.trans (rn.mul (E2 P*E2 P)) (by omega) (by omega)
  have e2:4*n*(E2 P*E2 P)=m*E2 i*E2 1074:=by
    rw [hn]
    show 4*(m*E2 k)*_=_
    rw [show (4:Nat)=E2 2 from rfl]
    have:E2 2*(m*E2 k)*(E2 P*E2 P)=m*(E2 2*E2 k*(E2 P*E2 P)):=by ac_rfl
    rw [this,←bo,←bo,←bo,Nat.mul_assoc,←bo]
    congr 2
    omega
  rw [e2] at h2
  exact h2.mono (by omega)
abbrev aQ:Nat:=4607182418800017408
theorem pE:vl aQ=E2 1074:=by
  rw [lW]
  have e1:bk (aQ%9223372036854775808)=E2 52:=by decide
  have e2:bh (aQ%9223372036854775808)=1022:=by decide
  rw [e1,e2,←bo]
theorem PB:aQ<dD∧fin aQ=true∧sb aQ=false:=by decide
theorem Ql.ap{D:Int}{r:Nat}{Y:Nat}(h:Ql D r)(hY:D=(Y:Int)) :Rq false r∧Ap 1024 (vl r) Y:=by
  obtain ⟨a,b,c⟩:=h
  subst hY
  rw [Int.natAbs_natCast] at c
  have hpos:0≤fz r:=by omega
  have hv:fz r=(vl r:Int):=by unfold vl;omega
  refine ⟨⟨a,b,by rw [hv];rfl⟩,?_⟩
  rw [hv] at c
  exact ⟨by omega,by omega⟩
theorem Rq.pos{w:Nat}(h:Rq false w)(h0:vl w≠0) :sb w=false:=by
  have e:=M1 h.lt
  rw [h.sgn] at e
  cases q:sb w
  · rfl
  · rw [q] at e
    simp only [sg,if_true,Bool.false_eq_true,if_false] at e
    omega
theorem Rq.nat{w:Nat}(h:Rq false w) :fz w=(vl w:Int):=h.sgn
theorem M3{a b:Nat}(h:a*a≤b*b) :a≤b:=by
  rcases Nat.lt_or_ge b a with q | q
  · have:=Nat.mul_lt_mul'' q q
    omega
  · exact q
theorem Ap.le2{n X Y:Nat}(h:Ap n X Y)(hn:n≤1000000) :X≤2*Y∧Y≤2*X:=by
  obtain ⟨a,b⟩:=h
  have:=Nat.mul_le_mul_right Y hn
  rw [Nat.add_mul] at a
  exact ⟨by omega,by omega⟩
structure Sn (t:Nat):Prop where
  w:Rq false (cQ aQ (aP t t))
  v:Rq false (bP (cQ aQ (aP t t)))
  v1:E2 1072≤vl (bP (cQ aQ (aP t t)))
  v2:vl (bP (cQ aQ (aP t t)))≤E2 1077
  c:Rq false (fdiv aQ (bP (cQ aQ (aP t t))))
  s1:aP (fdiv aQ (bP (cQ aQ (aP t t)))) t<dD
  s2:fin (aP (fdiv aQ (bP (cQ aQ (aP t t)))) t)=true
  near:Ap 9886 (vl (fdiv aQ (bP (cQ aQ (aP t t))))*vl (fdiv aQ (bP (cQ aQ (aP t t))))+vl (aP (fdiv aQ (bP (cQ aQ (aP t t)))) t)*vl (aP (fdiv aQ (bP (cQ aQ (aP t t)))) t)) (E2 1074*E2 1074)
theorem Ei{a b c L:Nat}(hc:c=a+b)(h:E2 b=L) :E2 c=L*E2 a:=by rw [hc,bo,h,Nat.mul_comm]
theorem mm(a b:Nat) :a*b*(a*b)=a*a*(b*b):=by ac_rfl
theorem mk(k a:Nat) :k*a*(k*a)=k*k*(a*a):=by ac_rfl
theorem R5{k L:Nat}(a:Nat)(h:k*k=L) :k*a*(k*a)=L*(a*a):=by rw [mk,h]
theorem Sd(k a b:Nat) :a*(k*b)=k*(a*b):=by ac_rfl
theorem G2{a b:Nat}(h:a<b) :E2 a<E2 b:=Nat.pow_lt_pow_right (by decide) h
theorem Fd{x y B:Nat}(hx:x<dD)(hy:y<dD)(fx:fin x=true)(fy:fin y=true)(hB:B≤2000)(hb:(fz x+fz y).natAbs<E2 B) :Ql (fz x+fz y) (cQ x y):=Pz hx hy fx fy hB hb
theorem Sq{U A B:Nat}(hU:18446744073709551616*U≤U*U)(h:Ap 1024 A B∨(2*A≤2*B+U∧2*B≤2*A+U)) :Ap 1025 (U*U+A) (U*U+B):=by
  rcases h with h | ⟨h1,h2⟩
  · exact ((Ap.refl 1024 (U*U)).add h).mono (by omega)
  · generalize U*U=K at hU ⊢
    exact ⟨by omega,by omega⟩
theorem Sr{U K D a b:Nat}(hU:U*U≤D)(hbD:b*U≤D)(hK:1208925819614629174706176*D≤256*K)(h1:2*a≤2*b+U)(h2:2*b≤2*a+U) :Ap 2049 (K+a*a) (K+b*b):=by
  have s1:a*a≤b*b+2*(b*U)+U*U:=by
    have h:=Nat.mul_le_mul (show a≤b+U by omega) (show a≤b+U by omega)
    have e:(b+U)*(b+U)=b*b+2*(b*U)+U*U:=by
      rw [Nat.add_mul,Nat.mul_add,Nat.mul_add,Nat.mul_comm U b];omega
    omega
  have s2:b*b≤a*a+2*(b*U)+3*(U*U):=by
    have h:=Nat.mul_le_mul (show b≤a+U by omega) (show b≤a+U by omega)
    have e:(a+U)*(a+U)=a*a+2*(a*U)+U*U:=by
      rw [Nat.add_mul,Nat.mul_add,Nat.mul_add,Nat.mul_comm U a];omega
    have f:=Nat.mul_le_mul_right U (show a≤b+U by omega)
    rw [Nat.add_mul] at f
    omega
  generalize a*a=A at *
  generalize b*b=B at *
  generalize b*U=C at *
  generalize U*U=E at *
  exact ⟨by omega,by omega⟩
theorem Ss{t:Nat}(ht:t<dD)(ft:fin t=true)(hT:vl t≤2*E2 1074) :Sn t:=by
  obtain ⟨o1,o2,o3⟩:=PB
  have e1:E2 1075=2*E2 1074:=Ei (a:=1074) (b:=1) (c:=1075) (L:=2) rfl (by decide)
  have hU64:18446744073709551616≤E2 1074:=by
    have:E2 64≤E2 1074:=lV (by omega)
    exact this
  have hUU:=Nat.mul_le_mul_right (E2 1074) hU64
  have hU0:=fQ 1074
  have oneN:fz aQ=((E2 1074:Nat):Int):=by
    have:=M1 o1
    rw [o3,pE] at this
    exact this
  have hTT:vl t*vl t<E2 3000:=by
    have a:=Nat.mul_le_mul hT hT
    rw [←e1,←bo] at a
    exact Nat.lt_of_le_of_lt a (G2 (by omega))
  obtain ⟨m1,m2⟩:=G1 ht ht ft ft hTT
  rw [Bool.xor_self] at m1
  have hTU:vl t*vl t≤4*(E2 1074*E2 1074):=by
    have a:=Nat.mul_le_mul hT hT
    have:2*E2 1074*(2*E2 1074)=4*(E2 1074*E2 1074):=R5 (k:=2) (L:=4) (E2 1074) rfl
    omega
  have cA:Ap 1025 (E2 1074*E2 1074+vl (aP t t)*E2 1074) (E2 1074*E2 1074+vl t*vl t):=Sq hUU (m2.imp id fun h=>⟨h.1,h.2.1⟩)
  have hTTU:vl (aP t t)≤8*E2 1074:=by
    have a:=(cA.le2 (by omega)).1
    have:vl (aP t t)*E2 1074≤16*E2 1074*E2 1074:=by rw [Nat.mul_assoc];omega
    have b:=Nat.le_of_mul_le_mul_right this hU0
    rcases m2 with h | ⟨h1,h2,h3⟩
    · have c:=(h.le2 (by omega)).1
      have:vl (aP t t)*E2 1074≤8*E2 1074*E2 1074:=by rw [Nat.mul_assoc];omega
      exact Nat.le_of_mul_le_mul_right this hU0
    · have:vl (aP t t)*E2 1074≤8*E2 1074*E2 1074:=by rw [Nat.mul_assoc];omega
      exact Nat.le_of_mul_le_mul_right this hU0
  have e4:E2 1078=16*E2 1074:=Ei (a:=1074) (b:=4) (c:=1078) (L:=16) rfl (by decide)
  obtain ⟨wr,wa⟩:=Ql.ap (Y:=E2 1074+vl (aP t t)) (Fd (B:=1078) o1 m1.lt o2 m1.fin (by omega) (by rw [oneN,m1.nat,e4];omega)) (by rw [oneN,m1.nat];omega)
  obtain ⟨wb1,wb2⟩:=wa.le2 (by omega)
  have hW0:vl (cQ aQ (aP t t))≠0:=by omega
  obtain ⟨vr,va⟩:=JS wr.lt wr.fin (wr.pos hW0) hW0
  obtain ⟨vb1,vb2⟩:=va.le2 (by omega)
  have vhi:vl (bP (cQ aQ (aP t t)))≤6*E2 1074:=by
    refine M3 ?_
    have a:=Nat.mul_le_mul_right (E2 1074) (show vl (cQ aQ (aP t t))≤18*E2 1074 by omega)
    have:6*E2 1074*(6*E2 1074)=36*(E2 1074*E2 1074):=R5 (k:=6) (L:=36) (E2 1074) rfl
    rw [Nat.mul_assoc] at a
    omega
  have vlo:E2 1074≤2*vl (bP (cQ aQ (aP t t))):=by
    refine M3 ?_
    have a:=Nat.mul_le_mul_right (E2 1074) (show E2 1074≤2*vl (cQ aQ (aP t t)) by omega)
    have:=R5 (k:=2) (L:=4) (vl (bP (cQ aQ (aP t t)))) rfl
    rw [Nat.mul_assoc] at a
    omega
  have hV0:vl (bP (cQ aQ (aP t t)))≠0:=by omega
  have v1:E2 1072≤vl (bP (cQ aQ (aP t t))):=by
    have:E2 1074=4*E2 1072:=Ei (a:=1072) (b:=2) (c:=1074) (L:=4) rfl (by decide)
    omega
  have v2:vl (bP (cQ aQ (aP t t)))≤E2 1077:=by
    have:E2 1077=8*E2 1074:=Ei (a:=1074) (b:=3) (c:=1077) (L:=8) rfl (by decide)
    omega
  have c1:=M2 o1 vr.lt o2 vr.fin (by rw [pE];omega) hV0 (by
    rw [pE]
    have:=Nat.mul_le_mul_left (E2 1074) (show E2 3≤E2 1000 from lV (by omega))
    have e:E2 3=8:=by decide
    rw [e] at this
    omega) (by
    rw [pE]
    have:=Nat.mul_le_mul_left (vl (bP (cQ aQ (aP t t)))) (show E2 1≤E2 900 from lV (by omega))
    have e:E2 1=2:=by decide
    rw [e] at this
    omega)
  rw [o3,vr.pos hV0,pE] at c1
  obtain ⟨cr,ca⟩:=c1
  have cr:Rq false (fdiv aQ (bP (cQ aQ (aP t t)))):=cr
  obtain ⟨cb1,cb2⟩:=ca.le2 (by omega)
  generalize hc:fdiv aQ (bP (cQ aQ (aP t t)))=c at *
  generalize hv:bP (cQ aQ (aP t t))=v at *
  generalize hw:cQ aQ (aP t t)=w at *
  have chi:vl c≤4*E2 1074:=by
    have a:=Nat.mul_le_mul_left (vl c) vlo
    have:vl c*E2 1074≤4*E2 1074*E2 1074:=by
      rw [Nat.mul_assoc]
      have e:=Sd 2 (vl c) (vl v)
      omega
    exact Nat.le_of_mul_le_mul_right this hU0
  have clo:E2 1074≤16*vl c:=by
    have a:=Nat.mul_le_mul_left (vl c) vhi
    have:E2 1074*E2 1074≤16*vl c*E2 1074:=by
      have e:=Sd 6 (vl c) (E2 1074)
      rw [Nat.mul_assoc]
      omega
    exact Nat.le_of_mul_le_mul_right this hU0
  have hCT:vl c*vl t<E2 3000:=by
    have a:=Nat.mul_le_mul chi hT
    have e2:E2 1076=4*E2 1074:=Ei (a:=1074) (b:=2) (c:=1076) (L:=4) rfl (by decide)
    rw [←e1,←e2,←bo] at a
    exact Nat.lt_of_le_of_lt a (G2 (by omega))
  obtain ⟨sr,sm⟩:=G1 cr.lt ht cr.fin ft hCT
  refine ⟨by rw [hw];exact wr,by rw [hw,hv];exact vr,by rw [hw,hv];exact v1,by rw [hw,hv];exact v2,by rw [hw,hv,hc];exact cr,by rw [hw,hv,hc];exact sr.lt,by rw [hw,hv,hc];exact sr.fin,?_⟩
  rw [hw,hv,hc]
  generalize hs:aP c t=s at *
  have x1:=mm (vl s) (E2 1074)
  have x2:=mm (vl c) (vl t)
  have hB:Ap 2049 (vl c*vl c*(E2 1074*E2 1074)+vl s*vl s*(E2 1074*E2 1074)) (vl c*vl c*(E2 1074*E2 1074)+vl c*vl c*(vl t*vl t)):=by
    rw [←x1,←x2]
    rcases sm with h | ⟨h1,h2,h3⟩
    · exact (Ap.refl 2049 _).add ((h.prod h (by omega) (by omega)).mono (by omega))
    · refine Sr (U:=E2 1074) (D:=E2 2252) ?_ ?_ ?_ h1 h2
      · rw [←bo];exact lV (by omega)
      · have a:=Nat.mul_le_mul (Nat.le_of_lt h3) (Nat.le_refl (E2 1074))
        rw [←bo] at a
        exact Nat.le_trans a (lV (by omega))
      · have a:=Nat.mul_le_mul_right (E2 1074*E2 1074) (Nat.mul_le_mul clo clo)
        have b:16*vl c*(16*vl c)*(E2 1074*E2 1074)=256*(vl c*vl c*(E2 1074*E2 1074)):=by rw [mk,Nat.mul_assoc]
        rw [b] at a
        have e80:(1208925819614629174706176:Nat)=E2 80:=by decide
        rw [e80,←bo]
        refine Nat.le_trans ?_ a
        rw [←bo,←bo]
        exact lV (by omega)
  have hA:=cA.symm (by omega)
  have hw':=(wa.symm (by omega)).mul (E2 1074)
  have x3:(E2 1074+vl (aP t t))*E2 1074=E2 1074*E2 1074+vl (aP t t)*E2 1074:=Nat.add_mul _ _ _
  rw [x3] at hw'
  have h1:=(hA.trans hw' (by omega) (by omega)).trans (va.symm (by omega)) (by omega) (by omega)
  have h2:=h1.mul (vl c*vl c)
  have x4:vl v*vl v*(vl c*vl c)=vl c*vl v*(vl c*vl v):=by rw [mm,Nat.mul_comm]
  rw [x4] at h2
  have h3:=h2.trans (ca.prod ca (by omega) (by omega)) (by omega) (by omega)
  have x5:(E2 1074*E2 1074+vl t*vl t)*(vl c*vl c)=vl c*vl c*(E2 1074*E2 1074)+vl c*vl c*(vl t*vl t):=by rw [Nat.mul_comm,Nat.mul_add]
  rw [x5] at h3
  have h4:=hB.trans h3 (by omega) (by omega)
  rw [←Nat.add_mul] at h4
  exact Ap.div (Nat.mul_pos hU0 hU0) (h4.mono (by omega))
def ex(x:Nat) :Nat:=x%9223372036854775808/4503599627370496
theorem PT{x:Nat}{p:Int}(hx:x<dD)(h:400≤ex x∧ex x≤1700)(hp : -300≤p∧p≤300) :
    tX x p<dD∧fin (tX x p)=true∧sb (tX x p)=sb x∧bk (tX x p%9223372036854775808)=bk (x%9223372036854775808)∧((bh (tX x p%9223372036854775808):Nat):Int)=((bh (x%9223372036854775808):Nat):Int)+p∧((ex (tX x p):Nat):Int)=((ex x:Nat):Int)+p:=by
  have hx':x<18446744073709551616:=hx
  unfold ex at h ⊢
  have h1:tX x p/9223372036854775808=x/9223372036854775808:=by unfold tX;omega
  have h2:tX x p%4503599627370496=x%4503599627370496:=by unfold tX;omega
  have h3:((tX x p%9223372036854775808/4503599627370496:Nat):Int)=((x%9223372036854775808/4503599627370496:Nat):Int)+p:=by unfold tX;omega
  have h4:tX x p<18446744073709551616:=by unfold tX;omega
  refine ⟨h4,j4 (by omega),by unfold sb;rw [h1],?_,?_,h3⟩
  · unfold bk
    rw [if_neg (by omega),if_neg (by omega)]
    omega
  · unfold bh
    omega
theorem oV{x:Nat}(h:1≤ex x) :4503599627370496≤bk (x%9223372036854775808)∧(bk (x%9223372036854775808)).log2=52∧bh (x%9223372036854775808)=ex x-1:=by
  have lt:=kM (x%9223372036854775808)
  have ge:4503599627370496≤bk (x%9223372036854775808):=by
    unfold ex at h
    unfold bk
    rw [if_neg (by omega)]
    omega
  refine ⟨ge,?_,rfl⟩
  generalize bk (x%9223372036854775808)=m at lt ge
  have m0:m≠0:=by omega
  have l1:=Nat.log2_self_le m0
  have l2:=Nat.lt_log2_self (n:=m)
  have a:E2 m.log2<E2 53:=Nat.lt_of_le_of_lt l1 lt
  have b:E2 52<E2 (m.log2+1):=Nat.lt_of_le_of_lt ge l2
  have:=mv a
  have:=mv b
  omega
theorem Qo{neg:Bool}{R:Nat}{p:Int}(h1:R<9218868437227405312)(h0:0≤(R:Int)+p*4503599627370496) :tX (Ieee.double.word neg R) p=Ieee.double.word neg ((R:Int)+p*4503599627370496).toNat:=by
  have e1:Ieee.double.signWeight=9223372036854775808:=by decide
  unfold Ieee.Format.word
  rw [e1]
  cases neg
  · rfl
  · show tX (9223372036854775808+R) p=9223372036854775808+_
    unfold tX
    omega
theorem CX{neg:Bool}{mag:Nat}{place:Int}(hm:mag≠0)(h : -620≤place+(mag.log2:Int)∧place+(mag.log2:Int)≤620) :
    ∃ L k:Nat,(L:Int)=place+(mag.log2:Int)+1022∧4503599627370496≤k∧k≤9007199254740992∧(52≤mag.log2→2*(k*2^(mag.log2-52))≤2*mag+2^(mag.log2-52)∧2*mag≤2*(k*2^(mag.log2-52))+2^(mag.log2-52)) ∧
      ∀ p:Int,-300≤p∧p≤300→Ieee.double.nearest neg mag (place+p)=tX (Ieee.double.word neg (L*4503599627370496+k)) p:=by
  have e2:Ieee.double.binade=4503599627370496:=by decide
  have e3:Ieee.double.infRung=9218868437227405312:=by decide
  have e4:Ieee.double.leastPlace = -1074:=by decide
  have e5:Ieee.double.fractionBits=52:=rfl
  have hl1:=Nat.log2_self_le hm
  have hl2:=Nat.lt_log2_self (n:=mag)
  obtain ⟨L,hL⟩:∃ L:Nat,(L:Int)=place+(mag.log2:Int)+1022:=⟨(place+(mag.log2:Int)+1022).toNat,by omega⟩
  have main:∀ p:Int,-300≤p∧p≤300→∀ k,Ieee.Toward.even.cut neg (mag <<< (52-mag.log2)) (mag.log2-52)=k→4503599627370496≤k→k≤9007199254740992→Ieee.double.nearest neg mag (place+p)=tX (Ieee.double.word neg (L*4503599627370496+k)) p:=by
    intro p hp k hk k1 k2
    unfold Ieee.Format.nearest
    rw [if_neg hm]
    simp only [e2,e3,e4,e5]
    have hlast:max (place+p+(mag.log2:Int)-(52:Nat)) (-1074)=place+p+(mag.log2:Int)-52:=by omega
    have c1:(place+p-(place+p+(mag.log2:Int)-52)).toNat=52-mag.log2:=by omega
    have c2:(place+p+(mag.log2:Int)-52-(place+p)).toNat=mag.log2-52:=by omega
    have c3:((place+p+(mag.log2:Int)-52 - -1074).toNat:Int)=(L:Int)+p:=by omega
    rw [hlast,c1,c2,hk]
    generalize (place+p+(mag.log2:Int)-52 - -1074).toNat=L' at c3
    have e:L'*4503599627370496+k=(((L*4503599627370496+k:Nat):Int)+p*4503599627370496).toNat:=by omega
    rw [Qo (by omega) (by omega),Nat.min_eq_left (by omega),e]
  by_cases hx:52≤mag.log2
  · have z:52-mag.log2=0:=by omega
    obtain ⟨k1,k2⟩:=pR neg mag (mag.log2-52)
    have hs:2^mag.log2=4503599627370496*2^(mag.log2-52):=by
      rw [show (4503599627370496:Nat)=2^52 from rfl,←Nat.pow_add];congr 1;omega
    have hs1:2^(mag.log2+1)=9007199254740992*2^(mag.log2-52):=by rw [Nat.pow_succ,hs];omega
    have hd:0<2^(mag.log2-52):=Nat.pow_pos (by decide)
    rw [hs] at hl1
    rw [hs1] at hl2
    have kge:4503599627370496≤Ieee.Toward.even.cut neg mag (mag.log2-52):=by
      rcases Nat.lt_or_ge (Ieee.Toward.even.cut neg mag (mag.log2-52)) 4503599627370496 with q | q
      · have:=Nat.mul_le_mul_right (2^(mag.log2-52)) (show Ieee.Toward.even.cut neg mag (mag.log2-52)≤4503599627370495 by omega)
        omega
      · exact q
    have kle:Ieee.Toward.even.cut neg mag (mag.log2-52)≤9007199254740992:=by
      rcases Nat.lt_or_ge 9007199254740992 (Ieee.Toward.even.cut neg mag (mag.log2-52)) with q | q
      · have:=Nat.mul_le_mul_right (2^(mag.log2-52)) (show 9007199254740993≤Ieee.Toward.even.cut neg mag (mag.log2-52) by omega)
        omega
      · exact q
    exact ⟨L,_,hL,kge,kle,fun _=>⟨k1,k2⟩,fun p hp=>main p hp _ (by rw [z,Nat.shiftLeft_zero]) kge kle⟩
  · have z:mag.log2-52=0:=by omega
    obtain ⟨k1,k2⟩:=pR neg (mag*2^(52-mag.log2)) 0
    have hk:Ieee.Toward.even.cut neg (mag*2^(52-mag.log2)) 0=mag*2^(52-mag.log2):=by
      rw [Nat.pow_zero] at k1 k2;omega
    have hge:4503599627370496≤mag*2^(52-mag.log2):=by
      have a:E2 mag.log2*E2 (52-mag.log2)≤mag*E2 (52-mag.log2):=Nat.mul_le_mul_right _ hl1
      rw [←bo,show mag.log2+(52-mag.log2)=52 by omega] at a
      exact a
    have hle:mag*2^(52-mag.log2)≤9007199254740992:=by
      have a:mag*E2 (52-mag.log2)≤E2 (mag.log2+1)*E2 (52-mag.log2):=Nat.mul_le_mul_right _ (Nat.le_of_lt hl2)
      rw [←bo,show mag.log2+1+(52-mag.log2)=53 by omega] at a
      exact a
    exact ⟨L,_,hL,hge,hle,fun q=>absurd q hx,fun p hp=>main p hp _ (by rw [z,Nat.shiftLeft_eq,hk]) hge hle⟩
theorem M4(x:Nat) :tX x 0=x:=by unfold tX;omega
theorem m6{x y:Nat}(hx:x<dD)(hy:y<dD)(fx:fin x=true)(fy:fin y=true) :
    aP x y=Ieee.double.nearest (sb x ^^ sb y) (bk (x%9223372036854775808)*bk (y%9223372036854775808)) (-1074+((bh (x%9223372036854775808):Nat):Int)+(-1074+((bh (y%9223372036854775808):Nat):Int))):=by
  unfold aP Ieee.Format.mul
  rw [b7 hx fx,b7 hy fy]
  rfl
theorem oe{x:Nat}(h:ex x≤2046) :fin x=true:=by unfold ex at h;exact j4 (by omega)
theorem NW{m n:Nat}(hm:m.log2=52)(hn:n.log2=52)(m0:m≠0)(n0:n≠0) :104≤(m*n).log2∧(m*n).log2≤105:=by
  have p0:m*n≠0:=Nat.mul_ne_zero m0 n0
  have a1:=Nat.log2_self_le m0
  have a2:=Nat.lt_log2_self (n:=m)
  have b1:=Nat.log2_self_le n0
  have b2:=Nat.lt_log2_self (n:=n)
  have c1:=Nat.log2_self_le p0
  have c2:=Nat.lt_log2_self (n:=m*n)
  rw [hm] at a1 a2
  rw [hn] at b1 b2
  have d1:E2 52*E2 52≤m*n:=Nat.mul_le_mul a1 b1
  have d2:m*n<E2 53*E2 53:=Nat.mul_lt_mul'' a2 b2
  rw [←bo] at d1 d2
  have f1:E2 104<E2 ((m*n).log2+1):=Nat.lt_of_le_of_lt d1 c2
  have f2:E2 (m*n).log2<E2 106:=Nat.lt_of_le_of_lt c1 d2
  have:=mv f1
  have:=mv f2
  omega
theorem Az{x y:Nat}{p:Int}(hx:x<dD)(hy:y<dD)(ex1:400≤ex x∧ex x≤1700)(ey:400≤ex y∧ex y≤1700)(hs:1430≤ex x+ex y∧ex x+ex y≤2660)(hp : -300≤p∧p≤300) :
    aP (tX x p) y=tX (aP x y) p∧aP x (tX y p)=tX (aP x y) p∧ex x+ex y≤ex (aP x y)+1023∧ex (aP x y)+1023≤ex x+ex y+2∧aP x y<dD:=by
  obtain ⟨x1,x2,x3⟩:=oV (x:=x) (by omega)
  obtain ⟨y1,y2,y3⟩:=oV (x:=y) (by omega)
  obtain ⟨a1,a2,a3,a4,a5,a6⟩:=PT hx ex1 hp
  obtain ⟨b1,b2,b3,b4,b5,b6⟩:=PT hy ey hp
  have fx:=oe (x:=x) (by omega)
  have fy:=oe (x:=y) (by omega)
  have lg:=NW x2 y2 (by omega) (by omega)
  have m0:bk (x%9223372036854775808)*bk (y%9223372036854775808)≠0:=Nat.mul_ne_zero (by omega) (by omega)
  obtain ⟨L,k,l1,l2,l3,l4,l5⟩:=CX (neg:=sb x ^^ sb y) (place:=-1074+((bh (x%9223372036854775808):Nat):Int)+(-1074+((bh (y%9223372036854775808):Nat):Int))) m0 (by omega)
  have z:=l5 0 (by omega)
  rw [M4,Int.add_zero] at z
  rw [m6 a1 hy a2 fy,m6 hx b1 fx b2,m6 hx hy fx fy,a3,a4,a5,b3,b4,b5,z]
  have w:=l5 p hp
  have hR:L*4503599627370496+k<9218868437227405312:=by omega
  obtain ⟨q1,q2,q3⟩:=Ay (neg:=sb x ^^ sb y) hR
  have e1:Ieee.double.signWeight=9223372036854775808:=by decide
  have exw:ex (Ieee.double.word (sb x ^^ sb y) (L*4503599627370496+k))=(L*4503599627370496+k)/4503599627370496:=by
    unfold ex Ieee.Format.word
    rw [e1]
    cases (sb x ^^ sb y)
    · show (L*4503599627370496+k)%_/_=_;omega
    · show (9223372036854775808+(L*4503599627370496+k))%_/_=_;omega
  refine ⟨?_,?_,by rw [exw];omega,by rw [exw];omega,q1⟩
  · rw [←w];congr 1;omega
  · rw [←w];congr 1;omega
theorem kD:ex aQ=1023∧bk (aQ%9223372036854775808)=4503599627370496∧bh (aQ%9223372036854775808)=1022∧sb aQ=false:=by decide
theorem NX{x:Nat}(hx:x<dD)(h:1≤ex x) :Ieee.double.word (sb x) (bh (x%9223372036854775808)*4503599627370496+bk (x%9223372036854775808))=x:=by
  have hx':x<18446744073709551616:=hx
  have e1:Ieee.double.signWeight=9223372036854775808:=by decide
  unfold ex at h
  have h1:bh (x%9223372036854775808)*4503599627370496+bk (x%9223372036854775808)=x%9223372036854775808:=by
    unfold bk bh
    rw [if_neg (by omega)]
    omega
  rw [h1]
  unfold Ieee.Format.word sb
  rw [e1]
  by_cases q:x/9223372036854775808%2=1
  · rw [q]
    show 9223372036854775808+_=x
    omega
  · have:(x/9223372036854775808%2==1)=false:=beq_eq_false_iff_ne.2 q
    rw [this]
    show x%9223372036854775808=x
    omega
theorem CY{x:Nat}(hx:x<dD)(h:450≤ex x∧ex x≤1600) :aP x aQ=x:=by
  obtain ⟨o1,o2,o3,o4⟩:=kD
  obtain ⟨x1,x2,x3⟩:=oV (x:=x) (by omega)
  have fx:=oe (x:=x) (by omega)
  have lt:=kM (x%9223372036854775808)
  rw [m6 hx (by decide) fx (by decide),o2,o3,o4,Bool.xor_false]
  have m0:bk (x%9223372036854775808)*4503599627370496≠0:=by omega
  have lg:(bk (x%9223372036854775808)*4503599627370496).log2=104:=by
    have l1:=Nat.log2_self_le m0
    have l2:=Nat.lt_log2_self (n:=bk (x%9223372036854775808)*4503599627370496)
    have d1:E2 104≤bk (x%9223372036854775808)*4503599627370496:=by
      have:E2 104=4503599627370496*4503599627370496:=by decide
      rw [this];exact Nat.mul_le_mul_right _ x1
    have d2:bk (x%9223372036854775808)*4503599627370496<E2 105:=by
      have:E2 105=9007199254740992*4503599627370496:=by decide
      rw [this];omega
    have f1:E2 104<E2 ((bk (x%9223372036854775808)*4503599627370496).log2+1):=Nat.lt_of_le_of_lt d1 l2
    have f2:E2 (bk (x%9223372036854775808)*4503599627370496).log2<E2 105:=Nat.lt_of_le_of_lt l1 d2
    have:=mv f1
    have:=mv f2
    omega
  obtain ⟨L,k,l1,l2,l3,l4,l5⟩:=CX (neg:=sb x) (place:=-1074+((bh (x%9223372036854775808):Nat):Int)+(-1074+((1022:Nat):Int))) m0 (by omega)
  have z:=l5 0 (by omega)
  rw [M4,Int.add_zero] at z
  rw [z]
  have l4:=l4 (by omega)
  rw [lg] at l4 l1
  have e52:2^(104-52)=4503599627370496:=rfl
  rw [e52] at l4
  have hk:k=bk (x%9223372036854775808):=by omega
  have hL:L=bh (x%9223372036854775808):=by omega
  rw [hk,hL]
  exact NX hx (by omega)
theorem Qp{x y:Nat}{p:Int}(hx:x<dD)(hy:y<dD)(ex1:400≤ex x∧ex x≤1700)(ey:400≤ex y∧ex y≤1700)(hp : -300≤p∧p≤300) :fdiv (tX x p) (tX y p)=fdiv x y:=by
  obtain ⟨a1,a2,a3,a4,a5,a6⟩:=PT hx ex1 hp
  obtain ⟨b1,b2,b3,b4,b5,b6⟩:=PT hy ey hp
  have fx:=oe (x:=x) (by omega)
  have fy:=oe (x:=y) (by omega)
  obtain ⟨y1,y2,y3⟩:=oV (x:=y) (by omega)
  unfold sb at a3 b3
  unfold fdiv Ieee.Format.div
  rw [b7 a1 a2,b7 b1 b2,b7 hx fx,b7 hy fy,a3,a4,a5,b3,b4,b5]
  have n0:bk (y%9223372036854775808)≠0:=by omega
  simp only [Ieee.Datum.quotient,if_neg n0]
  have e:∀ (i j k:Int),-1074+(i+p)-(-1074+(j+p))-k-1 = -1074+i-(-1074+j)-k-1:=by intro i j k;omega
  rw [e]
theorem G3(place:Int) :Ieee.double.nearest false 0 place=0:=by
  unfold Ieee.Format.nearest
  rw [if_pos rfl]
  rfl
theorem yB{y:Nat}(hy:y<dD)(fy:fin y=true)(h:1≤ex y)(hs:sb y=false) :fdiv 0 y=0:=by
  obtain ⟨y1,y2,y3⟩:=oV h
  have n0:bk (y%9223372036854775808)≠0:=by omega
  have r0:FloatKind.f64.format.read 0=.number false 0 (-1074+((0:Nat):Int)):=b7 (x:=0) (by decide) (by decide)
  have hs':(y/9223372036854775808%2==1)=false:=hs
  unfold fdiv Ieee.Format.div
  rw [r0,b7 hy fy,hs']
  simp only [Ieee.Datum.quotient,if_neg n0,Nat.zero_shiftLeft,Nat.zero_div,Nat.zero_mod]
  have g:∀ d:Int,(Option.map FloatKind.f64.format.write (some (Ieee.Datum.number (false ^^ false) (2*0+(0 != 0).toNat) d))).getD Ha=0:=fun d=>G3 d
  exact g _
theorem tO{x y:Nat}(hx:x<dD)(hy:y<dD)(fy:fin y=true)(h:x%9223372036854775808=0)(hs:sb y=false) :aP x y=x:=by
  have hx':x<18446744073709551616:=hx
  have fx:fin x=true:=j4 (by omega)
  have e1:Ieee.double.signWeight=9223372036854775808:=by decide
  rw [m6 hx hy fx fy,h,hs,Bool.xor_false,show bk 0=0 from rfl,Nat.zero_mul]
  unfold Ieee.Format.nearest
  rw [if_pos rfl]
  unfold Ieee.Format.word sb
  rw [e1]
  by_cases q:x/9223372036854775808%2=1
  · rw [q]
    show 9223372036854775808+0=x
    omega
  · have:(x/9223372036854775808%2==1)=false:=beq_eq_false_iff_ne.2 q
    rw [this]
    show 0=x
    omega
theorem CW.ex{x:Nat}(h:CW x) :623≤ex x∧ex x≤1423:=by
  obtain ⟨a,b⟩:=h
  unfold Go.Plb.ex
  omega
theorem xC{x:Nat}{p:Int}(hx:x<dD)(h:C6 x)(hp : -300≤p∧p≤300) :aP x (tX aQ p)=tY x p:=by
  obtain ⟨o1,o2,o3,o4⟩:=kD
  obtain ⟨a1,a2,a3,a4,a5,a6⟩:=PT (x:=aQ) (p:=p) (by decide) (by omega) hp
  unfold tY
  by_cases q:x%9223372036854775808=0
  · rw [if_pos q]
    exact tO hx a1 a2 q (by rw [a3,o4])
  · rw [if_neg q]
    have hm:CW x:=by rcases h with z | z;exact absurd z q;exact z
    have he:=hm.ex
    obtain ⟨_,b,_⟩:=Az (p:=p) hx (y:=aQ) (by decide) (by omega) (by omega) (by omega) hp
    rw [b,CY hx (by omega)]
theorem G4{x:Nat}{p:Int}(hx:x<dD)(h:C6 x)(hp : -300≤p∧p≤300) :aC (tY x p)=tY (aC x) p:=by
  have hx':x<18446744073709551616:=hx
  have lt:=R4 hx h hp
  rw [iy lt,iy hx]
  unfold tY
  rw [Nat.mod_mod]
  by_cases q:x%9223372036854775808=0
  · rw [if_pos q,if_pos q,q]
  · rw [if_neg q,if_neg q]
    have hm:CW x:=by rcases h with z | z;exact absurd z q;exact z
    obtain ⟨a,b⟩:=hm
    unfold tX
    omega
theorem PC{x y:Nat}{p:Int}(hx:x<9223372036854775808)(hy:y<9223372036854775808)(h1:C6 x)(h2:C6 y)(hp : -300≤p∧p≤300) :
    xF (tY x p) (tY y p)=xF x y∧flt (tY x p) (tY y p)=flt x y∧ui (tY x p) 0=ui x 0∧(ui x 0=true↔x=0)∧(flt 0 x=true↔x≠0)∧(xF x y=true↔y<x)∧(flt x y=true↔x<y):=by
  have bd:∀ {z:Nat},z<9223372036854775808→C6 z→z<9218868437227405312∧(z=0∨(2805742567851819008≤z∧z≤6408622269748215808)):=by
    intro z hz h
    rcases h with q | ⟨q,r⟩
    · exact ⟨by omega,.inl (by omega)⟩
    · exact ⟨by omega,.inr (by omega)⟩
  have sc:∀ {z:Nat},z<9223372036854775808→C6 z→tY z p<9218868437227405312∧(z=0→tY z p=0)∧(z≠0→((tY z p:Nat):Int)=(z:Int)+p*4503599627370496):=by
    intro z hz h
    have b:=bd hz h
    unfold tY tX
    by_cases q:z%9223372036854775808=0
    · rw [if_pos q];exact ⟨b.1,fun w=>w,fun w=>by omega⟩
    · rw [if_neg q];exact ⟨by omega,fun w=>by omega,fun w=>by omega⟩
  obtain ⟨x1,x2⟩:=bd hx h1
  obtain ⟨y1,y2⟩:=bd hy h2
  obtain ⟨x3,x4,x5⟩:=sc hx h1
  obtain ⟨y3,y4,y5⟩:=sc hy h2
  have gt:∀ {a b:Nat},a<9218868437227405312→b<9218868437227405312→(xF a b=true↔b<a)∧(flt a b=true↔a<b)∧(ui a b=true↔a=b):=by
    intro a b ha hb
    unfold xF flt ui
    rw [jw ha hb,beq_iff_eq,beq_iff_eq,beq_iff_eq,Option.some.injEq,Option.some.injEq,Option.some.injEq,Nat.compare_eq_gt,Nat.compare_eq_lt,Nat.compare_eq_eq]
    exact ⟨Iff.rfl,Iff.rfl,Iff.rfl⟩
  obtain ⟨g1,g2,g3⟩:=gt x1 y1
  obtain ⟨k1,k2,k3⟩:=gt x3 y3
  obtain ⟨q1,q2,q3⟩:=gt x1 (show 0<9218868437227405312 by decide)
  obtain ⟨r1,r2,r3⟩:=gt x3 (show 0<9218868437227405312 by decide)
  obtain ⟨s1,s2,s3⟩:=gt (show 0<9218868437227405312 by decide) x1
  refine ⟨?_,?_,?_,q3,?_,g1,g2⟩
  · rw [Bool.eq_iff_iff,g1,k1];omega
  · rw [Bool.eq_iff_iff,g2,k2];omega
  · rw [Bool.eq_iff_iff,q3,r3];omega
  · rw [s2];omega
end Go.Plb
namespace Go.Plb.Seat
open Go Go.Plb
set_option linter.unusedSimpArgs false
set_option linter.unusedVariables false
def Mb(x:Nat) :Bool:=ui (aC x) 0||(Q6 (aC x) 2805742567851819008&&RF (aC x) 6408622269748215808)
theorem M5(x:Nat) :i8 x=some (.r0 (Mb x)):=by
  refine aY (ac (a:=Mb x) ?_ rfl)
  unfold zF Mb
  cases ui (aC x) 0
  · cases Q6 (aC x) 2805742567851819008
    · exact (aJ (aJ rfl))
    · exact (aJ (bC rfl))
  · exact (bC rfl)
theorem PD{x:Nat}(hx:x<dD)(h:Mb x=true) :C6 x:=by
  have hx':x<18446744073709551616:=hx
  unfold Mb at h
  rw [iy hx] at h
  rcases Nat.lt_trichotomy (x%9223372036854775808) 9218868437227405312 with q | q | q
  · unfold ui Q6 RF at h
    rw [jw q (by decide),jw q (by decide),jw q (by decide)] at h
    simp only [Bool.or_eq_true,Bool.and_eq_true,beq_iff_eq,Option.some.injEq,Nat.compare_eq_eq,Nat.compare_eq_gt,Nat.compare_eq_lt] at h
    rcases h with z | ⟨z1,z2⟩
    · exact .inl z
    · exact .inr ⟨by omega,by omega⟩
  · exfalso
    rw [q] at h
    revert h
    decide
  · exfalso
    have r:=NI (x:=x%9223372036854775808) (by show _<18446744073709551616;omega) (by rw [Nat.mod_mod];exact q)
    obtain ⟨s,t,e⟩:=pF r
    have o:∀ y,ke (x%9223372036854775808) y=none:=by
      intro y
      unfold ke Ieee.Format.order
      rw [e]
      rfl
    unfold ui Q6 RF at h
    rw [o,o,o] at h
    cases h
theorem C6.fin{x:Nat}(hx:x<dD)(h:C6 x) :fin x=true:=by
  rcases h with h | h
  · exact j4 (by omega)
  · have:=h.2
    exact j4 (by omega)
end Go.Plb.Seat
namespace Go.Plb
set_option linter.unusedSimpArgs false
set_option linter.unusedVariables false
set_option linter.unusedSectionVars false
variable [Rom]
theorem CZ(neg:Bool)(mag:Nat)(place:Int) :sb (Ieee.double.nearest neg mag place)=neg:=by
  have e1:Ieee.double.signWeight=9223372036854775808:=by decide
  have e3:Ieee.double.infRung=9218868437227405312:=by decide
  have w:∀ R,R≤9218868437227405312→sb (Ieee.double.word neg R)=neg:=by
    intro R hR
    unfold Ieee.Format.word sb
    rw [e1]
    cases neg
    · show (R/9223372036854775808%2==1)=false
      rw [beq_eq_false_iff_ne];omega
    · show ((9223372036854775808+R)/9223372036854775808%2==1)=true
      rw [beq_iff_eq];omega
  unfold Ieee.Format.nearest
  by_cases h:mag=0
  · rw [if_pos h];exact w 0 (by omega)
  · rw [if_neg h,e3];exact w _ (Nat.min_le_right _ _)
theorem Qq{x y:Nat}(hx:x<dD)(hy:y<dD)(fx:fin x=true)(fy:fin y=true) :sb (aP x y)=(sb x ^^ sb y):=by
  rw [m6 hx hy fx fy];exact CZ _ _ _
theorem Qr{x y:Nat}(hx:x<dD)(hy:y<dD)(fx:fin x=true)(fy:fin y=true)(y0:vl y≠0) :sb (fdiv x y)=(sb x ^^ sb y):=by
  have n0:bk (y%9223372036854775808)≠0:=by intro q;apply y0;rw [lW,q,Nat.zero_mul]
  unfold fdiv Ieee.Format.div
  rw [b7 hx fx,b7 hy fy]
  simp only [Ieee.Datum.quotient,if_neg n0]
  exact CZ _ _ _
theorem Rx{a b:Nat}(h:E2 a≤E2 b) :a≤b:=by
  rcases Nat.lt_or_ge b a with q | q
  · exact absurd (G2 q) (by omega)
  · exact q
theorem PE{x:Nat}(h:CW x) :E2 674≤vl x∧vl x≤E2 1475:=by
  have he:=h.ex
  obtain ⟨m1,m2,m3⟩:=oV (x:=x) (by omega)
  have lt:=kM (x%9223372036854775808)
  rw [lW,m3]
  constructor
  · have a:E2 52*E2 (ex x-1)≤bk (x%9223372036854775808)*E2 (ex x-1):=Nat.mul_le_mul_right _ m1
    rw [←bo] at a
    exact Nat.le_trans (lV (by omega)) a
  · have a:bk (x%9223372036854775808)*E2 (ex x-1)≤E2 53*E2 (ex x-1):=Nat.mul_le_mul_right _ (Nat.le_of_lt lt)
    rw [←bo] at a
    exact Nat.le_trans a (lV (by omega))
theorem QY{v a b:Nat}(ha:60≤a)(h1:E2 a≤vl v)(h2:vl v≤E2 b) :a+1≤ex v+52∧ex v+51≤b:=by
  rw [lW] at h1 h2
  have lt:=kM (v%9223372036854775808)
  have c:bk (v%9223372036854775808)*E2 (bh (v%9223372036854775808))<E2 53*E2 (bh (v%9223372036854775808)):=Nat.mul_lt_mul_of_pos_right lt (fQ _)
  rw [←bo] at c
  have d:=mv (Nat.lt_of_le_of_lt h1 c)
  have e:bh (v%9223372036854775808)=ex v-1:=rfl
  have n:1≤ex v:=by omega
  obtain ⟨m1,m2,m3⟩:=oV n
  have f:E2 52*E2 (ex v-1)≤bk (v%9223372036854775808)*E2 (ex v-1):=Nat.mul_le_mul_right _ m1
  rw [←bo] at f
  rw [e] at h2
  have g:=Rx (Nat.le_trans f h2)
  omega
theorem R6{x y:Nat}(hx:x<dD)(hy:y<dD)(fx:fin x=true)(fy:fin y=true)(h:x%9223372036854775808≤y%9223372036854775808) :vl x≤vl y:=by
  have hx':x<18446744073709551616:=hx
  have hy':y<18446744073709551616:=hy
  have bd:∀ {z:Nat},fin z=true→z<18446744073709551616→z%9223372036854775808<9218868437227405312:=by
    intro z h hz
    unfold fin zY at h;rw [bne_iff_ne] at h;omega
  have bx:=bd fx hx'
  have by':=bd fy hy'
  have e:∀ z,vl z=vl (z%9223372036854775808):=by intro z;rw [lW,lW,Nat.mod_mod]
  have p:∀ z,z<9223372036854775808→fz z=(vl z:Int):=by
    intro z hz
    have h:=M1 (x:=z) (by show z<18446744073709551616;omega)
    have s:sb z=false:=by unfold sb;rw [beq_eq_false_iff_ne];omega
    rw [s] at h;exact h
  have f:=Rw (x:=y%9223372036854775808) (y:=x%9223372036854775808) (by show _<18446744073709551616;omega) (by show _<18446744073709551616;omega) (j4 (by rw [Nat.mod_mod];exact by')) (j4 (by rw [Nat.mod_mod];exact bx))
  have g:flt (y%9223372036854775808) (x%9223372036854775808)=false:=by
    unfold flt
    rw [jw by' bx,beq_eq_false_iff_ne,ne_eq,Option.some.injEq,Nat.compare_eq_lt]
    omega
  rw [g,p _ (by omega),p _ (by omega)] at f
  have:=of_decide_eq_false f.symm
  rw [e x,e y]
  omega
theorem QZ{x y:Nat}(hx:x<dD)(hy:y<dD)(mx:CW x)(my:CW y)(le:y%9223372036854775808≤x%9223372036854775808) :
    fdiv y x<dD∧fin (fdiv y x)=true∧vl (fdiv y x)≤2*E2 1074∧vl (fdiv y x)≠0∧sb (fdiv y x)=(sb y ^^ sb x):=by
  have fx:=oe (x:=x) (by have:=mx.ex;omega)
  have fy:=oe (x:=y) (by have:=my.ex;omega)
  obtain ⟨x1,x2⟩:=PE mx
  obtain ⟨y1,y2⟩:=PE my
  have xp:=fQ 674
  have l:=R6 hy hx fy fx le
  obtain ⟨r,a⟩:=M2 hy hx fy fx (by omega) (by omega) (by
    have:=Nat.mul_le_mul_right (E2 1000) y1
    rw [←bo] at this
    exact Nat.le_trans x2 (Nat.le_trans (lV (by omega)) this)) (by
    have:=Nat.mul_le_mul_left (vl x) (show E2 0≤E2 900 from lV (by omega))
    rw [show E2 0=1 from rfl,Nat.mul_one] at this
    exact Nat.le_trans l this)
  obtain ⟨b1,b2⟩:=a.le2 (by omega)
  refine ⟨r.lt,r.fin,?_,?_,Qr hy hx fy fx (by omega)⟩
  · have c:=Nat.mul_le_mul_right (E2 1074) l
    have d:vl (fdiv y x)*vl x≤2*E2 1074*vl x:=by
      have e:2*E2 1074*vl x=2*(vl x*E2 1074):=by rw [Nat.mul_assoc,Nat.mul_comm (E2 1074)]
      omega
    exact Nat.le_of_mul_le_mul_right d (by omega)
  · intro q
    rw [q,Nat.zero_mul] at b2
    have:=Nat.mul_pos (show 0<vl y by omega) (fQ 1074)
    omega
theorem Mc{z:Nat}(hz:Rq false z)(h:vl z≤64*E2 1074) :Rq false (bP (cQ aQ z))∧1021≤ex (bP (cQ aQ z))∧ex (bP (cQ aQ z))≤1029:=by
  obtain ⟨o1,o2,o3⟩:=PB
  have hU0:=fQ 1074
  have oneN:fz aQ=((E2 1074:Nat):Int):=by
    have:=M1 o1
    rw [o3,pE] at this
    exact this
  have e4:E2 1081=128*E2 1074:=Ei (a:=1074) (b:=7) (c:=1081) (L:=128) rfl (by decide)
  obtain ⟨wr,wa⟩:=Ql.ap (Y:=E2 1074+vl z) (Fd (B:=1081) o1 hz.lt o2 hz.fin (by omega) (by rw [oneN,hz.nat,e4];omega)) (by rw [oneN,hz.nat];omega)
  obtain ⟨wb1,wb2⟩:=wa.le2 (by omega)
  have hW0:vl (cQ aQ z)≠0:=by omega
  obtain ⟨vr,va⟩:=JS wr.lt wr.fin (wr.pos hW0) hW0
  obtain ⟨vb1,vb2⟩:=va.le2 (by omega)
  have vhi:vl (bP (cQ aQ z))≤17*E2 1074:=by
    refine M3 ?_
    have a:=Nat.mul_le_mul_right (E2 1074) (show vl (cQ aQ z)≤130*E2 1074 by omega)
    have:17*E2 1074*(17*E2 1074)=289*(E2 1074*E2 1074):=R5 (k:=17) (L:=289) (E2 1074) rfl
    rw [Nat.mul_assoc] at a
    omega
  have vlo:E2 1074≤2*vl (bP (cQ aQ z)):=by
    refine M3 ?_
    have a:=Nat.mul_le_mul_right (E2 1074) (show E2 1074≤2*vl (cQ aQ z) by omega)
    have:=R5 (k:=2) (L:=4) (vl (bP (cQ aQ z))) rfl
    rw [Nat.mul_assoc] at a
    omega
  have v1:E2 1072≤vl (bP (cQ aQ z)):=by
    have:E2 1074=4*E2 1072:=Ei (a:=1072) (b:=2) (c:=1074) (L:=4) rfl (by decide)
    omega
  have v2:vl (bP (cQ aQ z))≤E2 1080:=by
    have:E2 1080=64*E2 1074:=Ei (a:=1074) (b:=6) (c:=1080) (L:=64) rfl (by decide)
    omega
  have:=QY (by omega) v1 v2
  exact ⟨vr,by omega,by omega⟩
theorem tP{x y:Nat}(hx:x<dD)(hy:y<dD)(fx:fin x=true)(fy:fin y=true)(h1:vl x≤8*E2 1074)(h2:vl y≤2*E2 1074) :Rq (sb x ^^ sb y) (aP x y)∧vl (aP x y)≤64*E2 1074∧(vl x≤E2 1074→vl (aP x y)≤8*E2 1074):=by
  have hU0:=fQ 1074
  have hU64:18446744073709551616≤E2 1074:=by
    have:E2 64≤E2 1074:=lV (by omega)
    exact this
  have hUU:=Nat.mul_le_mul_right (E2 1074) hU64
  have a:=Nat.mul_le_mul h1 h2
  have e:8*E2 1074*(2*E2 1074)=16*(E2 1074*E2 1074):=by rw [Nat.mul_assoc,Sd 2 (E2 1074),←Nat.mul_assoc]
  rw [e] at a
  have hb:vl x*vl y<E2 3000:=by
    have:16*(E2 1074*E2 1074)=E2 2152:=by
      rw [←bo]
      exact (Ei (a:=1074+1074) (b:=4) (c:=2152) (L:=16) rfl (by decide)).symm
    rw [this] at a
    exact Nat.lt_of_le_of_lt a (G2 (by omega))
  obtain ⟨r,m⟩:=G1 hx hy fx fy hb
  have key:∀ K,vl x*vl y≤K*(E2 1074*E2 1074)→1≤K→vl (aP x y)≤3*K*E2 1074:=by
    intro K hK h1
    have hK1:=Nat.mul_le_mul_right (E2 1074*E2 1074) h1
    have:vl (aP x y)*E2 1074≤3*K*E2 1074*E2 1074:=by
      have e1:3*K*E2 1074*E2 1074=3*(K*(E2 1074*E2 1074)):=by rw [Nat.mul_assoc,Nat.mul_assoc]
      rw [e1]
      rcases m with q | ⟨q1,q2,q3⟩
      · have:=(q.le2 (by omega)).1
        omega
      · omega
    exact Nat.le_of_mul_le_mul_right this hU0
  refine ⟨r,?_,fun h=>?_⟩
  · have:=key 16 a (by omega)
    omega
  · have b:=Nat.mul_le_mul h h2
    rw [Sd 2 (E2 1074)] at b
    have:=key 2 b (by omega)
    omega
theorem Qs{x:Nat}(hx:x<dD)(fx:fin x=true)(h:zO x 0=false) :fz x=0:=by
  unfold zO ke Ieee.Format.order at h
  have f0:fin 0=true:=by decide
  rw [b7 hx fx,b7 (x:=0) (by decide) f0] at h
  rw [bne_eq_false_iff_eq] at h
  simp only [Ieee.Datum.order,Option.some.injEq] at h
  have z:∀ t k,Ieee.signed t (bk (0%9223372036854775808)) k=0:=by
    intro t k
    rw [ii]
    show sg t (bk 0*2^k)=0
    rw [show bk 0=0 from rfl,Nat.zero_mul]
    cases t<;>rfl
  rw [z,Int.compare_eq_eq] at h
  rw [tN hx]
  revert h
  generalize (-1074+((bh (x%9223372036854775808):Nat):Int)-min (-1074+((bh (x%9223372036854775808):Nat):Int)) (-1074+((bh (0%9223372036854775808):Nat):Int))).toNat=k
  rw [ii,ii,jz,jz]
  intro h
  rcases Nat.mul_eq_zero.1 h with q | q
  · rw [q,Nat.zero_mul]
  · exact absurd q (Nat.ne_of_gt (Nat.pow_pos (by decide)))
theorem rc{x:Nat}(hx:x<dD)(h:1≤ex x∧ex x≤2046) :ui x 0=false:=by
  cases q:ui x 0
  · rfl
  · exfalso
    have n:zO x 0=false:=by
      show (!(ui x 0))=false
      rw [q];rfl
    have z:=Qs hx (oe h.2) n
    obtain ⟨m1,_,_⟩:=oV h.1
    have v:vl x=0:=by unfold vl;rw [z];rfl
    rw [lW] at v
    rcases Nat.mul_eq_zero.1 v with w | w
    · omega
    · have:=fQ (bh (x%9223372036854775808));omega
theorem JT{x:Nat}(hx:x<dD)(h:x%9223372036854775808=0) :ui x 0=true:=by
  have hx':x<18446744073709551616:=hx
  have:x=0∨x=9223372036854775808:=by omega
  rcases this with rfl | rfl
  · decide +kernel
  · decide +kernel
theorem s9{x:Nat}{p:Int}(hx:x<dD)(h:CW x)(hp : -300≤p∧p≤300) :tY x p=tX x p∧tX x p<dD∧323≤ex (tX x p)∧ex (tX x p)≤1723:=by
  have he:=h.ex
  obtain ⟨a1,a2,a3,a4,a5,a6⟩:=PT hx (by omega) hp
  refine ⟨if_neg (by have:=h.1;omega),a1,by omega,by omega⟩
theorem R7{s v:Nat}{p:Int}(hs:s<dD)(ms:CW s)(hv:v<dD)(ev:1021≤ex v∧ex v≤1029)(hp : -300≤p∧p≤300) :aP (tX s p) v=aP (aP s v) (tX aQ p)∧aP s v<dD∧fin (aP s v)=true:=by
  have he:=ms.ex
  obtain ⟨o1,o2,o3,o4⟩:=kD
  obtain ⟨a,b,c,d,e⟩:=Az (p:=p) hs hv (by omega) (by omega) (by omega) hp
  obtain ⟨_,b',_⟩:=Az (p:=p) e (y:=aQ) (by decide) (by omega) (by omega) (by omega) hp
  refine ⟨?_,e,oe (by omega)⟩
  rw [a,b',CY e (by omega)]
def G9(p q:Nat) :Nat:=bif ui p 0 then p else aP p (bP (cQ aQ (aP (fdiv q p) (fdiv q p))))
theorem z0:aP 0 0=0∧cQ aQ 0=aQ∧bP aQ=aQ∧aP aQ 0=0:=by decide +kernel
theorem So:Rq false 0∧vl 0=0∧sb 0=false:=by
  have v:vl 0=0:=by rw [lW,show bk (0%9223372036854775808)=0 by decide,Nat.zero_mul]
  exact ⟨⟨by decide,by decide,by rw [v];decide⟩,v,by decide⟩
theorem G5{P Q:Nat}{p:Int}(hP:P<9223372036854775808)(hQ:Q<9223372036854775808)(mP:CW P)(iQ:C6 Q)(le:Q≤P)(hp : -300≤p∧p≤300) :
    fdiv (tY Q p) (tX P p)=fdiv Q P∧fdiv Q P<dD∧fin (fdiv Q P)=true∧vl (fdiv Q P)≤2*E2 1074∧sb (fdiv Q P)=false:=by
  have hP':P<dD:=by show P<18446744073709551616;omega
  have hQ':Q<dD:=by show Q<18446744073709551616;omega
  have sP:sb P=false:=by unfold sb;rw [beq_eq_false_iff_ne];omega
  have sQ:sb Q=false:=by unfold sb;rw [beq_eq_false_iff_ne];omega
  have he:=mP.ex
  obtain ⟨t1,t2,t3,t4⟩:=s9 hP' mP hp
  obtain ⟨x1,x2,x3,x4,x5,x6⟩:=PT (p:=p) hP' (by omega) hp
  by_cases q:Q=0
  · have e:tY Q p=0:=by subst q;rfl
    obtain ⟨r1,r2,r3⟩:=So
    rw [e,q,yB hP' (oe (by omega)) (by omega) sP,yB t2 x2 (by omega) (by rw [x3];exact sP)]
    exact ⟨rfl,r1.lt,r1.fin,by rw [r2];omega,r3⟩
  · have mQ:CW Q:=by
      rcases iQ with z | z
      · omega
      · exact z
    have heQ:=mQ.ex
    obtain ⟨b1,b2,b3,b4⟩:=s9 hQ' mQ hp
    obtain ⟨r1,r2,r3,r4,r5⟩:=QZ hP' hQ' mP mQ (by omega)
    rw [b1,Qp hQ' hP' (by omega) (by omega) hp]
    exact ⟨rfl,r1,r2,r3,by rw [r5,sP,sQ];rfl⟩
theorem M6{P Q:Nat}{p:Int}(hP:P<9223372036854775808)(hQ:Q<9223372036854775808)(iP:C6 P)(iQ:C6 Q)(le:Q≤P)(hp : -300≤p∧p≤300) :
    G9 (tY P p) (tY Q p)=aP (G9 P Q) (tX aQ p)∧G9 P Q<dD∧fin (G9 P Q)=true:=by
  have hP':P<dD:=by show P<18446744073709551616;omega
  obtain ⟨o1,o2,o3,o4⟩:=kD
  obtain ⟨a1,a2,a3,a4,a5,a6⟩:=PT (x:=aQ) (p:=p) (by decide) (by omega) hp
  by_cases q:P=0
  · subst q
    have e:tY 0 p=0:=rfl
    have h0:∀ x,G9 0 x=0:=by
      intro x;unfold G9
      rw [JT (by decide) (by decide)];rfl
    rw [e,h0,h0,tO (by decide) a1 a2 (by decide) (by rw [a3,o4])]
    exact ⟨rfl,by decide,by decide⟩
  · have mP:CW P:=by
      rcases iP with z | z
      · omega
      · exact z
    have he:=mP.ex
    obtain ⟨t1,t2,t3,t4⟩:=s9 hP' mP hp
    obtain ⟨r1,r2,r3,r4,r5⟩:=G5 (p:=p) hP hQ mP iQ le hp
    obtain ⟨z1,z2,_⟩:=tP r2 r2 r3 r3 (by omega) r4
    rw [Bool.xor_self] at z1
    obtain ⟨v1,v2,v3⟩:=Mc z1 z2
    obtain ⟨s1,s2,s3⟩:=R7 (p:=p) hP' mP v1.lt ⟨v2,v3⟩ hp
    have hh:G9 P Q=aP P (bP (cQ aQ (aP (fdiv Q P) (fdiv Q P)))):=by unfold G9;rw [rc hP' (by omega)];rfl
    have hh':G9 (tY P p) (tY Q p)=aP (tX P p) (bP (cQ aQ (aP (fdiv Q P) (fdiv Q P)))):=by unfold G9;rw [t1,rc t2 (by omega),r1];rfl
    rw [hh,hh']
    exact ⟨s1,s2,s3⟩
def ta(s:Nat×Nat)(x:Nat) :Nat×Nat :=
  bif ui x 0 then s else bif flt s.1 (aC x) then (aC x,cQ aQ (aP (aP s.2 (fdiv s.1 (aC x))) (fdiv s.1 (aC x)))) else (s.1,cQ s.2 (aP (fdiv (aC x) s.1) (fdiv (aC x) s.1)))
def Qt(f g:Nat) :Nat:=aP (ta (ta (0,aQ) f) g).1 (bP (ta (ta (0,aQ) f) g).2)
theorem Fe{s:Nat×Nat}{x:Nat}(h:ui x 0=true) :ta s x=s:=by unfold ta;rw [h];rfl
theorem Qu{a:Nat}(h0:a≠0)(h:a<9218868437227405312) :flt 0 a=true:=by
  unfold flt
  rw [jw (by decide) h,beq_iff_eq,Option.some.injEq,Nat.compare_eq_lt]
  omega
theorem Ff{x:Nat}(h:ui x 0=false)(ha:aC x<dD)(h0:1≤ex (aC x)∧ex (aC x)≤2046)(hs:sb (aC x)=false)(hlt:aC x<9223372036854775808) :ta (0,aQ) x=(aC x,aQ):=by
  obtain ⟨y1,y2,y3,y4⟩:=z0
  have n0:aC x≠0:=by intro q;rw [q] at h0;exact absurd h0.1 (by decide)
  have hb:aC x<9218868437227405312:=by unfold ex at h0;omega
  unfold ta
  rw [h,Qu n0 hb,yB ha (oe h0.2) h0.1 hs]
  show (aC x,cQ aQ (aP (aP aQ 0) 0))=_
  rw [y4,y1,y2]
theorem Qv{f g:Nat}{p:Int}(hf:f<dD)(hg:g<dD)(mf:C6 f)(mg:C6 g)(hp : -300≤p∧p≤300) :Qt (tY f p) (tY g p)=aP (Qt f g) (tX aQ p):=by
  obtain ⟨o1,o2,o3,o4⟩:=kD
  obtain ⟨y1,y2,y3,y4⟩:=z0
  obtain ⟨a1,a2,a3,a4,a5,a6⟩:=PT (x:=aQ) (p:=p) (by decide) (by omega) hp
  have ab:∀ {x:Nat},x<dD→CW x→aC x<9223372036854775808∧CW (aC x)∧ui x 0=false∧ui (tY x p) 0=false∧aC (tY x p)=tX (aC x) p∧sb (aC x)=false:=by
    intro x hx mx
    have hx':x<18446744073709551616:=hx
    have he:=mx.ex
    obtain ⟨t1,t2,t3,t4⟩:=s9 hx mx hp
    have e:=iy hx
    have m:CW (aC x):=by rw [e];unfold CW;rw [Nat.mod_mod];exact mx
    refine ⟨by rw [e];omega,m,rc hx (by omega),by rw [t1];exact rc t2 (by omega),?_,by rw [e];unfold sb;rw [beq_eq_false_iff_ne];omega⟩
    rw [G4 hx (.inr mx) hp]
    exact (s9 (by rw [e];show _<18446744073709551616;omega) m hp).1
  have zz:∀ {x:Nat},x<dD→x%9223372036854775808=0→ui x 0=true∧ui (tY x p) 0=true:=by
    intro x hx h
    have e:tY x p=x:=if_pos h
    exact ⟨JT hx h,by rw [e];exact JT hx h⟩
  have first:∀ {x:Nat},x<dD→CW x→ta (0,aQ) x=(aC x,aQ)∧ta (0,aQ) (tY x p)=(tX (aC x) p,aQ):=by
    intro x hx mx
    obtain ⟨b1,b2,b3,b4,b5,b6⟩:=ab hx mx
    have hb:aC x<dD:=by show _<18446744073709551616;omega
    have he:=b2.ex
    obtain ⟨t1,t2,t3,t4⟩:=s9 hb b2 hp
    obtain ⟨x1,x2,x3,x4,x5,x6⟩:=PT (p:=p) hb (by omega) hp
    refine ⟨Ff b3 hb (by omega) b6 b1,?_⟩
    have hlt:tX (aC x) p<9223372036854775808:=by
      have:=x3
      rw [b6] at this
      unfold sb at this
      rw [beq_eq_false_iff_ne] at this
      have t2':tX (aC x) p<18446744073709551616:=t2
      omega
    have:=Ff (x:=tY x p) b4 (by rw [b5];exact t2) (by rw [b5];omega) (by rw [b5,x3];exact b6) (by rw [b5];exact hlt)
    rw [b5] at this
    exact this
  have fin1:∀ {a:Nat},a<9223372036854775808→CW a→aP (tX a p) (bP aQ)=aP (aP a (bP aQ)) (tX aQ p):=by
    intro a ha ma
    rw [y3]
    exact (R7 (p:=p) (by show a<18446744073709551616;omega) ma (v:=aQ) (by decide) (by omega) hp).1
  unfold Qt
  rcases mf with hf0 | mf
  · obtain ⟨f1,f2⟩:=zz hf hf0
    rw [Fe f1,Fe f2]
    rcases mg with hg0 | mg
    · obtain ⟨g1,g2⟩:=zz hg hg0
      rw [Fe g1,Fe g2]
      show aP 0 (bP aQ)=aP (aP 0 (bP aQ)) (tX aQ p)
      rw [y3,tO (x:=0) (by decide) (y:=aQ) (by decide) (by decide) (by decide) (by decide),tO (x:=0) (by decide) a1 a2 (by decide) (by rw [a3,o4])]
    · obtain ⟨n1,n2⟩:=first hg mg
      obtain ⟨b1,b2,_⟩:=ab hg mg
      rw [n1,n2]
      exact fin1 b1 b2
  · obtain ⟨n1,n2⟩:=first hf mf
    obtain ⟨b1,b2,b3,b4,b5,b6⟩:=ab hf mf
    rw [n1,n2]
    rcases mg with hg0 | mg
    · obtain ⟨g1,g2⟩:=zz hg hg0
      rw [Fe g1,Fe g2]
      exact fin1 b1 b2
    · obtain ⟨c1,c2,c3,c4,c5,c6⟩:=ab hg mg
      obtain ⟨k1,k2,k3,k4,k5,k6,k7⟩:=PC (p:=p) b1 c1 (.inr b2) (.inr c2) hp
      have hb:aC f<dD:=by show _<18446744073709551616;omega
      have hc:aC g<dD:=by show _<18446744073709551616;omega
      have tb:=(s9 hb b2 hp).1
      have tc:=(s9 hc c2 hp).1
      rw [tb,tc] at k2
      unfold ta
      rw [c3,c4,c5]
      show aP (bif flt (tX (aC f) p) (tX (aC g) p) then (tX (aC g) p,cQ aQ (aP (aP aQ (fdiv (tX (aC f) p) (tX (aC g) p))) (fdiv (tX (aC f) p) (tX (aC g) p)))) else (tX (aC f) p,cQ aQ (aP (fdiv (tX (aC g) p) (tX (aC f) p)) (fdiv (tX (aC g) p) (tX (aC f) p))))).1
          (bP (bif flt (tX (aC f) p) (tX (aC g) p) then (tX (aC g) p,cQ aQ (aP (aP aQ (fdiv (tX (aC f) p) (tX (aC g) p))) (fdiv (tX (aC f) p) (tX (aC g) p)))) else (tX (aC f) p,cQ aQ (aP (fdiv (tX (aC g) p) (tX (aC f) p)) (fdiv (tX (aC g) p) (tX (aC f) p))))).2) =
        aP (aP (bif flt (aC f) (aC g) then (aC g,cQ aQ (aP (aP aQ (fdiv (aC f) (aC g))) (fdiv (aC f) (aC g)))) else (aC f,cQ aQ (aP (fdiv (aC g) (aC f)) (fdiv (aC g) (aC f))))).1
          (bP (bif flt (aC f) (aC g) then (aC g,cQ aQ (aP (aP aQ (fdiv (aC f) (aC g))) (fdiv (aC f) (aC g)))) else (aC f,cQ aQ (aP (fdiv (aC g) (aC f)) (fdiv (aC g) (aC f))))).2)) (tX aQ p)
      rw [k2]
      cases hlt:flt (aC f) (aC g)
      · have le:aC g≤aC f:=by
          rcases Nat.lt_or_ge (aC f) (aC g) with q | q
          · rw [k7.2 q] at hlt;cases hlt
          · exact q
        obtain ⟨r1,r2,r3,r4,r5⟩:=G5 (p:=p) b1 c1 b2 (.inr c2) le hp
        rw [tc] at r1
        rw [cond_false,cond_false,r1]
        obtain ⟨z1,z2,_⟩:=tP r2 r2 r3 r3 (by omega) r4
        rw [Bool.xor_self] at z1
        obtain ⟨v1,v2,v3⟩:=Mc z1 z2
        exact (R7 (p:=p) hb b2 v1.lt ⟨v2,v3⟩ hp).1
      · have le:aC f≤aC g:=Nat.le_of_lt (k7.1 hlt)
        obtain ⟨r1,r2,r3,r4,r5⟩:=G5 (p:=p) c1 b1 c2 (.inr b2) le hp
        rw [tb] at r1
        rw [cond_true,cond_true,r1]
        obtain ⟨u1,u2,u3⟩:=tP (x:=aQ) (by decide) r2 (by decide) r3 (by rw [pE];omega) r4
        have u3:=u3 (by rw [pE];exact Nat.le_refl _)
        have us:=Qq (x:=aQ) (by decide) r2 (by decide) r3
        obtain ⟨z1,z2,_⟩:=tP u1.lt r2 u1.fin r3 u3 r4
        rw [us,r5,o4] at z1
        obtain ⟨v1,v2,v3⟩:=Mc z1 z2
        exact (R7 (p:=p) hc c2 v1.lt ⟨v2,v3⟩ hp).1
end Go.Plb
