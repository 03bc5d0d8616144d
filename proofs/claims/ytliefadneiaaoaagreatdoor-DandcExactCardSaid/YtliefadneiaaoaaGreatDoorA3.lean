/-
  Part 3 of what the claim leans on: an evaluator of the model, proved sound; the contracts of the functions.
-/
import Derived.Test.YtliefadneiaaoaaGreatDoorA2
namespace Go.Plb.Seat
open Go Go.Plb
set_option linter.unusedVariables false
set_option maxRecDepth 100000
noncomputable section
inductive bn where
  | r0 (a:Int)
def me:bn→AE×aK
  | .r0 a=>(.ret,⟨am 14 [(2,.int .i64 a)],[],0⟩)
def d4:bn→gS
  | .r0 a=>⟨.int .i64 a,[]⟩
def fL(a:Int) :T ((Empty)⊕(bn)) :=
  .ask (a==(0:Int))
    (.leaf (.inr (.r0 (64:Int))))
    (.need (decide ((0:Int)≤(58:Int)))<|.need (fB (Int.fdiv (IntKind.u64.wrap ((cN .and .u64 a (IntKind.u64.wrap ((0:Int)-a)))*(285870213051353865:Int))) (2^(min (Int.toNat (58:Int)) (IntKind.u64.bits)))) 64)<|.need (fg (er (er 0 (yO (Int.toNat (Int.fdiv (IntKind.u64.wrap ((cN .and .u64 a (IntKind.u64.wrap ((0:Int)-a)))*(285870213051353865:Int))) (2^(min (Int.toNat (58:Int)) (IntKind.u64.bits))))) 1)) 0) (List.length aG))<|.leaf (.inr (.r0 (IntKind.i64.wrap (List.getD aG (er (er 0 (yO (Int.toNat (Int.fdiv (IntKind.u64.wrap ((cN .and .u64 a (IntKind.u64.wrap ((0:Int)-a)))*(285870213051353865:Int))) (2^(min (Int.toNat (58:Int)) (IntKind.u64.bits))))) 1)) 0) 0)))))
def bN(a:Int) :Option bn:=nm ((fL a).run)
theorem lg(a:Int){x:bn}(h:bN a=some x) :ah prog f5 [] [.int .u64 a] (d4 x) :=
  oO false d4 me h (bW Mx _ [⟨[],[],[2]⟩,⟨[],[],[2]⟩])
    (fun x=>by cases x with | r0 b=>exact nn [.int .i64 b])
def bZ:Option bn→Bool
  | some _=>true
  | none=>false
def bT:Option bn→Int
  | some (.r0 x)=>x
  | _=>0
theorem lh{x:Option bn}(h:bZ x=true) :x=some (.r0 (bT x)):=by
  unfold bZ at h
  split at h<;>first | rfl | (cases h;done) | (rename_i y;cases y;rfl)
def f6:aM:=cR f5 (.cons (.int .u64) .nil) fun t=>(fun q=>[⟨d4 (.r0 (bT q)),[bZ q]⟩]) (bN t.1)
theorem j4:aX prog f6:=a9 fun t=>(ba (fun h=>lg t.1 (lh h)) bu)
def f7:List aM:=f6::Pa
theorem bU:bh prog (bk f7):=ay j4 Mx
inductive dq where
  | r0 (a:List Int) (b:Nat)
def pD(a:Lv) :dq→AE×aK
  | .r0 b c=>(.ret,⟨am 21 [(2,.imm a (.ns .u64 b) 1 1 0 c)],[],0⟩)
theorem nP{a:Lv} :k9 (pD a):=by intro x;cases x<;>(intro h;cases h)
theorem FY{a:Lv}(id:Nat) :py id (pD a):=by intro x;cases x<;>(intro h;cases h)
def uj(a:Lv) :dq→gS
  | .r0 b c=>⟨.imm a (.ns .u64 b) 1 1 0 c,[]⟩
def FZ:List Code:=eH (qs iV)
def F0(b:Lv)(a:List Int)(_:Unit) :aK:=⟨am 21 [(0,.imm b (.ns .u64 a) 1 1 0 (List.length a))],[],0⟩
def F1:T ((Unit)⊕(dq)) :=
  .leaf (.inl ())
def qV(a:Lv)(b:List Int)(c:Nat) :aK:=⟨am 21 [(0,.imm a (.ns .u64 b) 1 1 0 c)],[],0⟩
def xq(a:Lv)(b:List Int)(c:Nat) :aK:=⟨am 21 [(0,.imm a (.ns .u64 b) 1 1 0 c)],[],0⟩
def D2:List Code:=eH (iX ((((FZ.drop 1).take 1)).headD .skip))
def F2(a:Lv)(b:List Int)(c:Nat)(d:Bool) :aK:=⟨am 21 [(0,.imm a (.ns .u64 b) 1 1 0 c),(14,.bool false d)],[],0⟩
def jn(b:List Int)(a:Nat) :T ((Bool)⊕((Nat)⊕(dq))) :=
  .ask (decide (((a:Nat):Int)>(0:Int)))
    (.need (eX .i64 (((a:Nat):Int)-(1:Int)))<|.need (fB (((a:Nat):Int)-(1:Int)) a)<|.need (fg (Int.toNat (((a:Nat):Int)-(1:Int))) (List.length b))<|.leaf (.inl ((List.getD b (Int.toNat (((a:Nat):Int)-(1:Int))) 0)==(0:Int))))
    (.leaf (.inl false))
def vp(a:Nat)(b:Bool) :T ((Nat)⊕((Nat)⊕(dq))) :=
  .ask b
    (.need (eX .i64 (((a:Nat):Int)-(1:Int)))<|.need (qv (((a:Nat):Int)-(1:Int)) a)<|.need (qv (0:Int) (Int.toNat (((a:Nat):Int)-(1:Int))))<|.leaf (.inl (Int.toNat (((a:Nat):Int)-(1:Int)))))
    (.leaf (.inr (.inl a)))
def pE(b:List Int) :Nat→Option ((Nat)⊕((Nat)⊕(dq))):=fun a =>
  aS ((jn b a).run) fun c =>
  (vp a c).run
theorem D3(a:Lv)(b:List Int)(c:Nat) :Sg prog [] D2 (qV a b c) (pE b c) (qV a b) (fh 0 (xq a b) (pD a)):=by
  unfold pE;exact Sg.cut 1 (bi nP) (bW bU (F2 a b c) [⟨[],[],[0,14]⟩,⟨[],[],[0,14]⟩]) (fun d=>bW bU _ [⟨[],[],[0]⟩,⟨[],[],[0]⟩])
def D4(a:List Int)(b:Nat) :T ((Empty)⊕(dq)) :=
  .leaf (.inr (.r0 a b))
def ai(a:List Int) :Option dq:=nm (aS ((F1).run) fun _ =>
  aS (d8 (pE a) (List.length a)) fun b =>
  (D4 a b).run)
theorem F3(a:Lv)(b:List Int){x:dq}(h:ai b=some x) :ah prog iV [] [.imm a (.ns .u64 b) 1 1 0 (List.length b)] (uj a x) :=
  oO false (uj a) (pD a) h (Sg.cut 1 nP (bW bU (F0 a b) [⟨[],[],[0]⟩]) (fun _=>Sg.cut 1 nP (KX ⟨[],[],[0]⟩ (qV a b) (xq a b) 0 nP (FY _) (fun c=>D3 a b c)) (fun f=>bW bU _ [⟨[],[],[2]⟩])))
    (fun x=>by cases x with | r0 d e=>exact nn [.imm a (.ns .u64 d) 1 1 0 e])
def bE:Option dq→Bool
  | some _=>true
  | none=>false
def aI:Option dq→List Int
  | some (.r0 x _)=>x
  | _=>[]
def ap:Option dq→Nat
  | some (.r0 _ x)=>x
  | _=>0
theorem F4{x:Option dq}(h:bE x=true) :x=some (.r0 (aI x) (ap x)):=by
  unfold bE at h
  split at h<;>first | rfl | (cases h;done) | (rename_i y;cases y;rfl)
def zU:aM:=cR iV (.cons (.ns .u64) .nil) fun t=>(fun q=>[⟨uj t.1.1 (.r0 (aI q) (ap q)),[bE q]⟩]) (ai t.1.2)
theorem Bz:aX prog zU:=a9 fun t=>(ba (fun h=>F3 t.1.1 t.1.2 (F4 h)) bu)
def zV:List aM:=zU::f7
theorem og:bh prog (bk zV):=ay Bz bU
inductive ez where
  | r0 (a:Nat) (b:Nat) (c:List Int)
def zW:ez→AE×aK
  | .r0 a b c=>(.ret,⟨am 12 [(2,.sl 0 1 1 0 a a),(3,.int .i64 ((b:Nat):Int))],[(0,.ns .u64 c)],1⟩)
theorem F5:k9 zW:=by intro x;cases x<;>(intro h;cases h)
def uk:ez→gS
  | .r0 a b c=>⟨.tup [.imm .free (.ns .u64 c) 1 1 0 a,.int .i64 ((b:Nat):Int)],[]⟩
def F6(a:Lv) :Nat×(List Int)×Nat→aK:=fun (b,c,d)=>⟨am 12 [(1,.ptr 0 1 0 0),(4,.int .i64 ((b:Nat):Int))],[(0,.vs [.imm a (.ns .u64 c) 1 1 0 d])],1⟩
def qW(a:List Int) :T ((Nat×(List Int)×Nat)⊕(ez)) :=
  .ask (decide ((0:Int)<(1:Int)))
    (.need (fB (0:Int) 1)<|.need (bg 0 (List.length a) a)<|.need (bE (ai (aa 0 (List.length a) a)))<|.ask (decide ((((ap (ai (aa 0 (List.length a) a))):Nat):Int)>(4096:Int)))
      (.leaf (.inl (2,(aI (ai (aa 0 (List.length a) a))),(ap (ai (aa 0 (List.length a) a))))))
      (.need (eX .i64 (1:Int))<|.ask (decide ((1:Int)<(1:Int)))
        (.fail)
        (.leaf (.inl (0,(aI (ai (aa 0 (List.length a) a))),(ap (ai (aa 0 (List.length a) a))))))))
    (.fail)
def qX(c:Nat)(a:List Int)(b:Nat) :T ((Empty)⊕(ez)) :=
  .ask (((c:Nat):Int) != (0:Int))
    (.leaf (.inr (.r0 0 c ([]:List Int))))
    (.need (bg 0 b a)<|.need (aU (List.length (aa 0 b a)))<|.leaf (.inr (.r0 (List.length (aa 0 b a)) 0 (aa 0 b a))))
def dr(a:List Int) :Option ez:=nm (aS ((qW a).run) fun (b,c,d) =>
  (qX b c d).run)
theorem F7(b:Lv)(a:List Int){x:ez}(h:dr a=some x) :ah prog ug [] [.imm b (.ns .u64 a) 1 1 0 (List.length a)] (uk x) :=
  oO true uk zW h (Sg.cut 2 F5 (bW og (F6 b) [⟨[],[0],[1,4]⟩,⟨[],[0],[1,4]⟩]) (fun ⟨e,f,g⟩=>bW og _ [⟨[(.slot 2,.own 1 1 (.ns .u64 ([]:List Int)))],[81],[2,3]⟩,⟨[],[49],[2,3]⟩]))
    (fun x=>by cases x with | r0 c d i=>exact nn [.sl 0 1 1 0 c c,.int .i64 ((d:Nat):Int)])
def gn:Option ez→Bool
  | some _=>true
  | none=>false
def kw:Option ez→Nat
  | some (.r0 x _ _)=>x
  | _=>0
def kx:Option ez→Nat
  | some (.r0 _ x _)=>x
  | _=>0
def ky:Option ez→List Int
  | some (.r0 _ _ x)=>x
  | _=>[]
theorem F8{x:Option ez}(h:gn x=true) :x=some (.r0 (kw x) (kx x) (ky x)):=by
  unfold gn at h
  split at h<;>first | rfl | (cases h;done) | (rename_i y;cases y;rfl)
def zX:aM:=cR ug (.cons (.ns .u64) .nil) fun t=>(fun q=>[⟨uk (.r0 (kw q) (kx q) (ky q)),[gn q]⟩]) (dr t.1.2)
theorem BA:aX prog zX:=a9 fun t=>(ba (fun h=>F7 t.1.1 t.1.2 (F8 h)) bu)
def zY:List aM:=zX::zV
theorem iv:bh prog (bk zY):=ay BA og
inductive bM where
  | r0 (a:Nat) (b:Nat) (c:Nat) (d:List Int)
def kz:bM→AE×aK
  | .r0 a b c d=>(.ret,⟨am 21 [(2,.sl 0 1 1 a b c)],[(0,.ns .u64 d)],1⟩)
theorem jo:k9 kz:=by intro x;cases x<;>(intro h;cases h)
theorem zZ(id:Nat) :py id kz:=by intro x;cases x<;>(intro h;cases h)
def oh:bM→gS
  | .r0 a b c d=>⟨.sl 0 1 1 a b c,[some (.ns .u64 d)]⟩
def z4:List Code:=eH (qs iV)
def z5(a:List Int)(b:Nat)(c:Nat)(d:Nat)(_:Unit) :aK:=⟨am 21 [(0,.sl 0 1 1 b c d)],[(0,.ns .u64 a)],1⟩
def z6:T ((Unit)⊕(bM)) :=
  .leaf (.inl ())
def mQ(a:List Int)(b:Nat) :Nat×Nat→aK:=fun (c,d)=>⟨am 21 [(0,.sl 0 1 1 c d b)],[(0,.ns .u64 a)],1⟩
def qY(a:List Int)(b:Nat) :Nat×Nat→aK:=fun (c,d)=>⟨am 21 [(0,.sl 0 1 1 c d b)],[(0,.ns .u64 a)],1⟩
def ya:List Code:=eH (iX ((((z4.drop 1).take 1)).headD .skip))
def z7(a:List Int)(b:Nat)(c:Nat)(d:Nat)(e:Bool) :aK:=⟨am 21 [(0,.sl 0 1 1 c d b),(14,.bool false e)],[(0,.ns .u64 a)],1⟩
def fM(b:List Int)(c:Nat)(a:Nat) :T ((Bool)⊕((Nat×Nat)⊕(bM))) :=
  .ask (decide (((a:Nat):Int)>(0:Int)))
    (.need (eX .i64 (((a:Nat):Int)-(1:Int)))<|.need (fB (((a:Nat):Int)-(1:Int)) a)<|.need (fg (er c (Int.toNat (((a:Nat):Int)-(1:Int)))) (List.length b))<|.leaf (.inl ((List.getD b (er c (Int.toNat (((a:Nat):Int)-(1:Int)))) 0)==(0:Int))))
    (.leaf (.inl false))
def qp(c:Nat)(b:Nat)(a:Nat)(d:Bool) :T ((Nat×Nat)⊕((Nat×Nat)⊕(bM))) :=
  .ask d
    (.need (eX .i64 (((a:Nat):Int)-(1:Int)))<|.need (qv (((a:Nat):Int)-(1:Int)) c)<|.need (qv (0:Int) (Int.toNat (((a:Nat):Int)-(1:Int))))<|.leaf (.inl ((er b 0),(Int.toNat (((a:Nat):Int)-(1:Int))))))
    (.leaf (.inr (.inl (b,a))))
def lk(c:List Int)(d:Nat) :Nat×Nat→Option ((Nat×Nat)⊕((Nat×Nat)⊕(bM))):=fun (a,b) =>
  aS ((fM c a b).run) fun e =>
  (qp d a b e).run
theorem yb(a:List Int)(b:Nat)(c:Nat)(d:Nat) :Sg prog [.ns .u64 a] ya (mQ a b (c,d)) (lk a b (c,d)) (mQ a b) (fh 0 (qY a b) kz):=by
  unfold lk;exact Sg.cut 1 (bi jo) (bW iv (z7 a b c d) [⟨[],[0],[0,14]⟩,⟨[],[0],[0,14]⟩]) (fun e=>bW iv _ [⟨[],[0],[0]⟩,⟨[],[0],[0]⟩])
def yc(a:List Int)(b:Nat)(c:Nat)(d:Nat) :T ((Empty)⊕(bM)) :=
  .leaf (.inr (.r0 c d b a))
def aL(a:List Int)(c:Nat)(d:Nat)(b:Nat) :Option bM:=nm (aS ((z6).run) fun _ =>
  aS (d8 (lk a b) (c,d)) fun (e,f) =>
  (yc a b e f).run)
theorem z8(a:List Int)(c:Nat)(d:Nat)(b:Nat){x:bM}(h:aL a c d b=some x) :ah prog iV [.ns .u64 a] [.sl 0 1 1 c d b] (oh x) :=
  oO false oh kz h (Sg.cut 1 jo (bW iv (z5 a c d b) [⟨[],[0],[0]⟩]) (fun _=>Sg.cut 1 jo (KX ⟨[],[0],[0]⟩ (mQ a b) (qY a b) 0 jo (zZ _) (fun ⟨e,f⟩=>yb a b e f)) (fun ⟨k,l⟩=>bW iv _ [⟨[],[0],[2]⟩])))
    (fun x=>by cases x with | r0 g i j m=>exact nn [.sl 0 1 1 g i j])
def dM:Option bM→Bool
  | some _=>true
  | none=>false
def dt:Option bM→Nat
  | some (.r0 x _ _ _)=>x
  | _=>0
def du:Option bM→Nat
  | some (.r0 _ x _ _)=>x
  | _=>0
def dw:Option bM→Nat
  | some (.r0 _ _ x _)=>x
  | _=>0
def dz:Option bM→List Int
  | some (.r0 _ _ _ x)=>x
  | _=>[]
theorem z9{x:Option bM}(h:dM x=true) :x=some (.r0 (dt x) (du x) (dw x) (dz x)):=by
  unfold dM at h
  split at h<;>first | rfl | (cases h;done) | (rename_i y;cases y;rfl)
def tp:aM:=J0 iV [.ns .u64] (.cons (.lsl 0) .nil) fun x t=>(fun q=>[⟨oh (.r0 (dt q) (du q) (dw q) (dz q)),[dM q]⟩]) (aL x.1 t.1.1 t.1.2.1 t.1.2.2)
theorem wF:aX prog tp:=FH fun x t=>(wv (fun h=>z8 x.1 t.1.1 t.1.2.1 t.1.2.2 (z9 h)) FI)
def tq:List aM:=tp::zY
theorem j5:bh prog (bk tq):=ay wF iv
inductive fN where
  | r0 (a:Nat) (b:Nat) (c:Nat) (d:List Int)
def F9:fN→AE×aK
  | .r0 a b c d=>(.ret,⟨am 6 [(2,.sl 0 1 1 a b c)],[(0,.ns .u64 d)],1⟩)
theorem KZ:k9 F9:=by intro x;cases x<;>(intro h;cases h)
def Aa:fN→gS
  | .r0 a b d c=>⟨.imm .free (.ns .u64 c) 1 1 a b,[]⟩
def K0:Nat×Nat×Nat×(List Int)→aK:=fun (a,b,c,d)=>⟨am 6 [(2,.sl 0 1 1 a b c)],[(0,.ns .u64 d)],1⟩
def CM(a:Int) :T ((Nat×Nat×Nat×(List Int))⊕(fN)) :=
  .need (dM (aL [a] 0 1 1))<|.leaf (.inl ((dt (aL [a] 0 1 1)),(du (aL [a] 0 1 1)),(dw (aL [a] 0 1 1)),(dz (aL [a] 0 1 1))))
def K1(a:Nat)(b:Nat)(c:Nat)(d:List Int) :T ((Empty)⊕(fN)) :=
  .leaf (.inr (.r0 a b c d))
def ca(a:Int) :Option fN:=nm (aS ((CM a).run) fun (b,c,d,e) =>
  (K1 b c d e).run)
theorem K2(a:Int){x:fN}(h:ca a=some x) :ah prog zF [] [.int .u64 a] (Aa x) :=
  oO true Aa F9 h (Sg.cut 2 KZ (bW j5 K0 [⟨[],[32],[2]⟩]) (fun ⟨e,f,g,i⟩=>bW j5 _ [⟨[],[0],[2]⟩]))
    (fun x=>by cases x with | r0 b c d j=>exact nn [.sl 0 1 1 b c d])
def o5:Option fN→Bool
  | some _=>true
  | none=>false
def d9:Option fN→Nat
  | some (.r0 x _ _ _)=>x
  | _=>0
def ee:Option fN→Nat
  | some (.r0 _ x _ _)=>x
  | _=>0
def xr:Option fN→Nat
  | some (.r0 _ _ x _)=>x
  | _=>0
def ef:Option fN→List Int
  | some (.r0 _ _ _ x)=>x
  | _=>[]
theorem K3{x:Option fN}(h:o5 x=true) :x=some (.r0 (d9 x) (ee x) (xr x) (ef x)):=by
  unfold o5 at h
  split at h<;>first | rfl | (cases h;done) | (rename_i y;cases y;rfl)
def Ga:aM:=cR zF (.cons (.int .u64) .nil) fun t=>(fun q=>[⟨Aa (.r0 (d9 q) (ee q) (xr q) (ef q)),[o5 q]⟩]) (ca t.1)
theorem Gb:aX prog Ga:=a9 fun t=>(ba (fun h=>K2 t.1 (K3 h)) bu)
def Gc:List aM:=Ga::tq
theorem nQ:bh prog (bk Gc):=ay Gb j5
inductive e8 where
  | r0 (a:Int)
def sN:e8→AE×aK
  | .r0 a=>(.ret,⟨am 45 [(4,.int .i64 a)],[],0⟩)
theorem ul:k9 sN:=by intro x;cases x<;>(intro h;cases h)
theorem It(id:Nat) :py id sN:=by intro x;cases x<;>(intro h;cases h)
def wG:e8→gS
  | .r0 a=>⟨.int .i64 a,[]⟩
def Iu:List Code:=eH (qs wA)
def Iv(c:Lv)(a:List Int)(d:Lv)(b:List Int)(e:Int) :aK:=⟨am 45 [(0,.imm c (.ns .u64 a) 1 1 0 (List.length a)),(1,.imm d (.ns .u64 b) 1 1 0 (List.length b)),(5,.int .i64 e)],[],0⟩
def pF(a:List Int)(b:List Int) :T ((Int)⊕(e8)) :=
  .ask (decide ((((List.length a):Nat):Int)<(((List.length b):Nat):Int)))
    (.leaf (.inr (.r0 (-1:Int))))
    (.ask (decide ((((List.length a):Nat):Int)>(((List.length b):Nat):Int)))
      (.leaf (.inr (.r0 (1:Int))))
      (.need (eX .i64 ((((List.length a):Nat):Int)-(1:Int)))<|.leaf (.inl ((((List.length a):Nat):Int)-(1:Int)))))
def um(c:Lv)(a:List Int)(d:Lv)(b:List Int)(e:Int) :aK:=⟨am 45 [(0,.imm c (.ns .u64 a) 1 1 0 (List.length a)),(1,.imm d (.ns .u64 b) 1 1 0 (List.length b)),(5,.int .i64 e)],[],0⟩
def Ab(_:Unit) :aK:=⟨am 45 [],[],0⟩
def Iw:List Code:=eH (iX ((((Iu.drop 3).take 1)).headD .skip))
def mR(b:List Int)(c:List Int)(a:Int) :T ((Int)⊕((Unit)⊕(e8))) :=
  .ask (decide (a≥(0:Int)))
    (.need (fB a (List.length b))<|.need (fg (Int.toNat a) (List.length b))<|.need (fB a (List.length c))<|.need (fg (Int.toNat a) (List.length c))<|.ask (decide ((List.getD b (Int.toNat a) 0)<(List.getD c (Int.toNat a) 0)))
      (.leaf (.inr (.inr (.r0 (-1:Int)))))
      (.need (fB a (List.length b))<|.need (fg (Int.toNat a) (List.length b))<|.need (fB a (List.length c))<|.need (fg (Int.toNat a) (List.length c))<|.ask (decide ((List.getD b (Int.toNat a) 0)>(List.getD c (Int.toNat a) 0)))
        (.leaf (.inr (.inr (.r0 (1:Int)))))
        (.need (eX .i64 (a-(1:Int)))<|.leaf (.inl (a-(1:Int))))))
    (.leaf (.inr (.inl ())))
def nR(a:List Int)(b:List Int) :Int→Option ((Int)⊕((Unit)⊕(e8))):=fun c =>
  (mR a b c).run
theorem Gd(c:Lv)(a:List Int)(d:Lv)(b:List Int)(e:Int) :Sg prog [] Iw (um c a d b e) (nR a b e) (um c a d b) (fh 1 Ab sN):=by
  unfold nR;exact bW nQ _ [⟨[],[],[4]⟩,⟨[],[],[4]⟩,⟨[],[],[0,1,5]⟩,⟨[],[],[]⟩]
def Ge:T ((Empty)⊕(e8)) :=
  .leaf (.inr (.r0 (0:Int)))
def j6(a:List Int)(b:List Int) :Option e8:=nm (aS ((pF a b).run) fun c =>
  aS (d8 (nR a b) c) fun _ =>
  (Ge).run)
theorem Ix(c:Lv)(a:List Int)(d:Lv)(b:List Int){x:e8}(h:j6 a b=some x) :ah prog wA [] [.imm c (.ns .u64 a) 1 1 0 (List.length a),.imm d (.ns .u64 b) 1 1 0 (List.length b)] (wG x) :=
  oO false wG sN h (Sg.cut 3 ul (bW nQ (Iv c a d b) [⟨[],[],[4]⟩,⟨[],[],[4]⟩,⟨[],[],[0,1,5]⟩]) (fun g=>Sg.cut 1 ul (KX ⟨[],[],[0,1,5]⟩ (um c a d b) (Ab) 1 ul (It _) (fun e=>Gd c a d b e)) (fun _=>bW nQ _ [⟨[],[],[4]⟩])))
    (fun x=>by cases x with | r0 f=>exact nn [.int .i64 f])
def mS:Option e8→Bool
  | some _=>true
  | none=>false
def mf:Option e8→Int
  | some (.r0 x)=>x
  | _=>0
theorem Iy{x:Option e8}(h:mS x=true) :x=some (.r0 (mf x)):=by
  unfold mS at h
  split at h<;>first | rfl | (cases h;done) | (rename_i y;cases y;rfl)
def CN:aM:=cR wA (.cons (.ns .u64) (.cons (.ns .u64) .nil)) fun t=>(fun q=>[⟨wG (.r0 (mf q)),[mS q]⟩]) (j6 t.1.2 t.2.1.2)
theorem D5:aX prog CN:=a9 fun t=>(ba (fun h=>Ix t.1.1 t.1.2 t.2.1.1 t.2.1.2 (Iy h)) bu)
def CO:List aM:=CN::Gc
theorem mg:bh prog (bk CO):=ay D5 nQ
inductive e9 where
  | r0 (a:Int) (b:Nat)
def CP:e9→AE×aK
  | .r0 a b=>(.ret,⟨am 15 [(4,.int .i64 a),(5,.int .i64 ((b:Nat):Int))],[],0⟩)
theorem Ac:k9 CP:=by intro x;cases x<;>(intro h;cases h)
def wH:e9→gS
  | .r0 a b=>⟨.tup [.int .i64 a,.int .i64 ((b:Nat):Int)],[]⟩
def Iz(a:Lv)(b:Lv) :Nat×(List Int)×Nat×(List Int)×Nat→aK:=fun (c,d,e,f,g)=>⟨am 15 [(2,.ptr 0 1 0 0),(3,.ptr 1 1 0 0),(6,.int .i64 ((c:Nat):Int))],[(0,.vs [.imm a (.ns .u64 d) 1 1 0 e]),(1,.vs [.imm b (.ns .u64 f) 1 1 0 g])],2⟩
def Ad(a : List Int)(b : List Int) : T ((Nat × (List Int) × Nat × (List Int) × Nat) ⊕ (e9)) :=
  .ask (decide ((0:Int)<(2:Int)))
    (.need (fB (0:Int) 2)<|.need (bg 0 (List.length a) a)<|.need (bE (ai (aa 0 (List.length a) a)))<|.ask (decide ((((ap (ai (aa 0 (List.length a) a))):Nat):Int)>(4096:Int)))
      (.leaf (.inl (2,(aI (ai (aa 0 (List.length a) a))),(ap (ai (aa 0 (List.length a) a))),b,(List.length b))))
      (.need (eX .i64 (1:Int))<|.ask (decide ((1:Int)<(2:Int)))
        (.need (fB (1:Int) 2)<|.need (bg 0 (List.length b) b)<|.need (bE (ai (aa 0 (List.length b) b)))<|.ask (decide ((((ap (ai (aa 0 (List.length b) b))):Nat):Int)>(4096:Int)))
          (.leaf (.inl (2,(aI (ai (aa 0 (List.length a) a))),(ap (ai (aa 0 (List.length a) a))),(aI (ai (aa 0 (List.length b) b))),(ap (ai (aa 0 (List.length b) b))))))
          (.need (eX .i64 (2:Int))<|.ask (decide ((2:Int)<(2:Int)))
            (.fail)
            (.leaf (.inl (0,(aI (ai (aa 0 (List.length a) a))),(ap (ai (aa 0 (List.length a) a))),(aI (ai (aa 0 (List.length b) b))),(ap (ai (aa 0 (List.length b) b))))))))
        (.fail)))
    (.fail)
def IA(a:Int) :aK:=⟨am 15 [(4,.int .i64 a),(5,.int .i64 (0:Int))],[],0⟩
def Ae(e:Nat)(a:List Int)(b:Nat)(c:List Int)(d:Nat) :T ((Int)⊕(e9)) :=
  .ask (((e:Nat):Int) != (0:Int))
    (.leaf (.inr (.r0 (0:Int) e)))
    (.need (bg 0 b a)<|.need (bg 0 d c)<|.need (mS (j6 (aa 0 b a) (aa 0 d c)))<|.leaf (.inl (mf (j6 (aa 0 b a) (aa 0 d c)))))
def IB(a:Int) :T ((Empty)⊕(e9)) :=
  .leaf (.inr (.r0 a 0))
def j7(a:List Int)(b:List Int) :Option e9:=nm (aS ((Ad a b).run) fun (c,d,e,f,g) =>
  aS ((Ae c d e f g).run) fun h =>
  (IB h).run)
theorem IC(c:Lv)(a:List Int)(d:Lv)(b:List Int){x:e9}(h:j7 a b=some x) :ah prog wx [] [.imm c (.ns .u64 a) 1 1 0 (List.length a),.imm d (.ns .u64 b) 1 1 0 (List.length b)] (wH x) :=
  oO true wH CP h (Sg.cut 2 Ac (bW mg (Iz c d) [⟨[],[0,16],[2,3,6]⟩,⟨[],[0,16],[2,3,6]⟩,⟨[],[0,16],[2,3,6]⟩]) (fun ⟨g,i,j,k,l⟩=>Sg.cut 3 Ac (bW mg IA [⟨[],[],[4,5]⟩,⟨[],[],[4,5]⟩]) (fun m=>bW mg _ [⟨[],[],[4,5]⟩])))
    (fun x=>by cases x with | r0 e f=>exact nn [.int .i64 e,.int .i64 ((f:Nat):Int)])
def mT:Option e9→Bool
  | some _=>true
  | none=>false
def mh:Option e9→Int
  | some (.r0 x _)=>x
  | _=>0
def vq:Option e9→Nat
  | some (.r0 _ x)=>x
  | _=>0
theorem ID{x:Option e9}(h:mT x=true) :x=some (.r0 (mh x) (vq x)):=by
  unfold mT at h
  split at h<;>first | rfl | (cases h;done) | (rename_i y;cases y;rfl)
def CQ:aM:=cR wx (.cons (.ns .u64) (.cons (.ns .u64) .nil)) fun t=>(fun q=>[⟨wH (.r0 (mh q) (vq q)),[mT q]⟩]) (j7 t.1.2 t.2.1.2)
theorem D6:aX prog CQ:=a9 fun t=>(ba (fun h=>IC t.1.1 t.1.2 t.2.1.1 t.2.1.2 (ID h)) bu)
def CR:List aM:=CQ::CO
theorem pG:bh prog (bk CR):=ay D6 mg
inductive c6 where
  | r0 (a:List Int)
  | r1 (b:Nat) (c:Nat) (d:Nat) (e:List Int)
def Af:c6→AE×aK
  | .r0 a=>(.ret,⟨am 10 [(2,.nsl),(3,.int .i64 (3:Int))],[(0,.ns .u64 a)],1⟩)
  | .r1 b c d e=>(.ret,⟨am 10 [(2,.sl 0 1 1 b c d),(3,.int .i64 (0:Int))],[(0,.ns .u64 e)],1⟩)
theorem Gf:k9 Af:=by intro x;cases x<;>(intro h;cases h)
def pH:c6→gS
  | .r0 a=>⟨.tup [.nsl,.int .i64 (3:Int)],[some (.ns .u64 a)]⟩
  | .r1 b c d e=>⟨.tup [.sl 0 1 1 b c d,.int .i64 (0:Int)],[some (.ns .u64 e)]⟩
def Gg:Nat×Nat×Nat×(List Int)→aK:=fun (a,b,c,d)=>⟨am 10 [(0,.sl 0 1 1 a b c)],[(0,.ns .u64 d)],1⟩
def xt(a:List Int)(b:Nat)(c:Nat)(d:Nat) :T ((Nat×Nat×Nat×(List Int))⊕(c6)) :=
  .need (dM (aL a b c d))<|.leaf (.inl ((dt (aL a b c d)),(du (aL a b c d)),(dw (aL a b c d)),(dz (aL a b c d))))
def Gh(c:Nat)(a:Nat)(d:Nat)(b:List Int) :T ((Empty)⊕(c6)) :=
  .ask (decide (((a:Nat):Int)>(4096:Int)))
    (.leaf (.inr (.r0 b)))
    (.leaf (.inr (.r1 c a d b)))
def fq(a:List Int)(b:Nat)(c:Nat)(d:Nat) :Option c6:=nm (aS ((xt a b c d).run) fun (e,f,g,h) =>
  (Gh e f g h).run)
theorem xu(a:List Int)(b:Nat)(c:Nat)(d:Nat){x:c6}(h:fq a b c d=some x) :ah prog mN [.ns .u64 a] [.sl 0 1 1 b c d] (pH x) :=
  oO false pH Af h (Sg.cut 2 Gf (bW pG Gg [⟨[],[0],[0]⟩]) (fun ⟨i,j,k,l⟩=>bW pG _ [⟨[],[0],[2,3]⟩,⟨[],[0],[2,3]⟩]))
    (fun x=>by cases x with | r0 m=>exact nn [.nsl,.int .i64 (3:Int)] | r1 e f g n=>exact nn [.sl 0 1 1 e f g,.int .i64 (0:Int)])
def nT:Option c6→Bool
  | some (.r0 _)=>true
  | _=>false
def tr:Option c6→List Int
  | some (.r0 x)=>x
  | _=>[]
theorem Gi{x:Option c6}(h:nT x=true) :x=some (.r0 (tr x)):=by
  unfold nT at h
  split at h<;>first | rfl | (cases h;done) | (rename_i y;cases y;rfl)
def nU:Option c6→Bool
  | some (.r1 _ _ _ _)=>true
  | _=>false
def oi:Option c6→Nat
  | some (.r1 x _ _ _)=>x
  | _=>0
def oj:Option c6→Nat
  | some (.r1 _ x _ _)=>x
  | _=>0
def ol:Option c6→Nat
  | some (.r1 _ _ x _)=>x
  | _=>0
def om:Option c6→List Int
  | some (.r1 _ _ _ x)=>x
  | _=>[]
theorem Gj{x:Option c6}(h:nU x=true) :x=some (.r1 (oi x) (oj x) (ol x) (om x)):=by
  unfold nU at h
  split at h<;>first | rfl | (cases h;done) | (rename_i y;cases y;rfl)
def Ag:aM:=J0 mN [.ns .u64] (.cons (.lsl 0) .nil) fun x t=>(fun q=>[⟨pH (.r0 (tr q)),[nT q]⟩,⟨pH (.r1 (oi q) (oj q) (ol q) (om q)),[nU q]⟩]) (fq x.1 t.1.1 t.1.2.1 t.1.2.2)
theorem BB:aX prog Ag:=FH fun x t=>(wv (fun h=>xu x.1 t.1.1 t.1.2.1 t.1.2.2 (Gi h)) (wv (fun h=>xu x.1 t.1.1 t.1.2.1 t.1.2.2 (Gj h)) FI))
def Ah:List aM:=Ag::CR
theorem eg:bh prog (bk Ah):=ay BB pG
inductive cH where
  | r0 (a:Nat) (b:Nat) (c:Nat) (d:Nat) (e:List Int)
def sO:cH→AE×aK
  | .r0 a b c d e=>(.ret,⟨am 62 [(4,.sl 0 1 1 a b c),(5,.int .i64 ((d:Nat):Int))],[(0,.ns .u64 e)],1⟩)
theorem iZ:k9 sO:=by intro x;cases x<;>(intro h;cases h)
theorem IE(id:Nat) :py id sO:=by intro x;cases x<;>(intro h;cases h)
def wI:cH→gS
  | .r0 a b e c d=>⟨.tup [.imm .free (.ns .u64 d) 1 1 a b,.int .i64 ((c:Nat):Int)],[]⟩
def Gk:List Code:=eH (qs sG)
def IF(a:Lv)(b:Lv) :Nat×(List Int)×Nat×(List Int)×Nat→aK:=fun (c,d,e,f,g)=>⟨am 62 [(2,.ptr 0 1 0 0),(3,.ptr 1 1 0 0),(6,.int .i64 ((c:Nat):Int))],[(0,.vs [.imm a (.ns .u64 d) 1 1 0 e]),(1,.vs [.imm b (.ns .u64 f) 1 1 0 g])],2⟩
def xv(a : List Int)(b : List Int) : T ((Nat × (List Int) × Nat × (List Int) × Nat) ⊕ (cH)) :=
  .ask (decide ((0:Int)<(2:Int)))
    (.need (fB (0:Int) 2)<|.need (bg 0 (List.length a) a)<|.need (bE (ai (aa 0 (List.length a) a)))<|.ask (decide ((((ap (ai (aa 0 (List.length a) a))):Nat):Int)>(4096:Int)))
      (.leaf (.inl (2,(aI (ai (aa 0 (List.length a) a))),(ap (ai (aa 0 (List.length a) a))),b,(List.length b))))
      (.need (eX .i64 (1:Int))<|.ask (decide ((1:Int)<(2:Int)))
        (.need (fB (1:Int) 2)<|.need (bg 0 (List.length b) b)<|.need (bE (ai (aa 0 (List.length b) b)))<|.ask (decide ((((ap (ai (aa 0 (List.length b) b))):Nat):Int)>(4096:Int)))
          (.leaf (.inl (2,(aI (ai (aa 0 (List.length a) a))),(ap (ai (aa 0 (List.length a) a))),(aI (ai (aa 0 (List.length b) b))),(ap (ai (aa 0 (List.length b) b))))))
          (.need (eX .i64 (2:Int))<|.ask (decide ((2:Int)<(2:Int)))
            (.fail)
            (.leaf (.inl (0,(aI (ai (aa 0 (List.length a) a))),(ap (ai (aa 0 (List.length a) a))),(aI (ai (aa 0 (List.length b) b))),(ap (ai (aa 0 (List.length b) b))))))))
        (.fail)))
    (.fail)
def IG:(List Int)×Nat×(List Int)×Nat→aK:=fun (a,b,c,d)=>⟨am 62 [(2,.ptr 0 1 0 0),(3,.ptr 1 1 0 0)],[(0,.vs [.imm .lent (.ns .u64 a) 1 1 0 b]),(1,.vs [.imm .lent (.ns .u64 c) 1 1 0 d])],2⟩
def Gl(c:Nat)(d:List Int)(a:Nat)(e:List Int)(b:Nat) :T (((List Int)×Nat×(List Int)×Nat)⊕(cH)) :=
  .ask (((c:Nat):Int) != (0:Int))
    (.leaf (.inr (.r0 0 0 0 c ([]:List Int))))
    (.ask (decide (((a:Nat):Int)<((b:Nat):Int)))
      (.leaf (.inl (e,b,d,a)))
      (.leaf (.inl (d,a,e,b))))
def IH(c:List Int)(a:Nat)(d:List Int)(e:Nat) :Nat×(List Int)→aK:=fun (b,f)=>⟨am 62 [(2,.ptr 0 1 0 0),(3,.ptr 1 1 0 0),(7,.ptr 2 1 0 0),(8,.fn (.func nL) [] [.ptr 2 1 0 0]),(9,.sl 3 1 1 0 b b),(30,.int .i64 ((a:Nat):Int)),(31,.int .i64 (0:Int))],[(0,.vs [.imm .lent (.ns .u64 c) 1 1 0 a]),(1,.vs [.imm .lent (.ns .u64 d) 1 1 0 e]),(2,.vs [.int .u64 (0:Int)]),(3,.ns .u64 f)],4⟩
def qZ(a:Nat) :T ((Nat×(List Int))⊕(cH)) :=
  .need (eX .i64 (((a+1):Nat):Int))<|.need (decide ((0:Int)≤(((a+1):Nat):Int)))<|.need (decide ((((a+1):Nat):Int)≤(((a+1):Nat):Int)))<|.need (decide ((8:Int)*(((a+1):Nat):Int)≤140737488355328))<|.need (eX .i64 (((a+1):Nat):Int))<|.leaf (.inl ((a+1),(List.replicate (a+1) (0:Int))))
def un(c:List Int)(a:Nat)(d:List Int)(e:Nat)(b:Nat) :Nat×Nat×(List Int)→aK:=fun (f,g,h)=>⟨am 62 [(2,.ptr 0 1 0 0),(3,.ptr 1 1 0 0),(7,.ptr 2 1 0 0),(8,.fn (.func nL) [] [.ptr 2 1 0 0]),(9,.sl 3 1 1 0 b b),(30,.int .i64 ((a:Nat):Int)),(31,.int .i64 ((f:Nat):Int))],[(0,.vs [.imm .lent (.ns .u64 c) 1 1 0 a]),(1,.vs [.imm .lent (.ns .u64 d) 1 1 0 e]),(2,.vs [.int .u64 ((g:Nat):Int)]),(3,.ns .u64 h)],4⟩
def Ai(b:List Int)(c:Nat)(a:Nat) :Nat×(List Int)→aK:=fun (d,e)=>⟨am 62 [(2,.ptr 0 1 0 0),(7,.ptr 1 1 0 0),(9,.sl 2 1 1 0 a a)],[(0,.vs [.imm .lent (.ns .u64 b) 1 1 0 c]),(1,.vs [.int .u64 ((d:Nat):Int)]),(2,.ns .u64 e)],3⟩
def Gm:List Code:=eH (iX ((((((Gk.drop 2).drop 4).drop 4).take 1)).headD .skip))
def II(c:List Int)(a:Nat)(d:List Int)(e:Nat)(b:Nat)(f:Nat) :Nat×(List Int)→aK:=fun (g,h)=>⟨am 62 [(2,.ptr 0 1 0 0),(3,.ptr 1 1 0 0),(7,.ptr 2 1 0 0),(8,.fn (.func nL) [] [.ptr 2 1 0 0]),(9,.sl 3 1 1 0 b b),(30,.int .i64 ((a:Nat):Int)),(31,.int .i64 ((f:Nat):Int))],[(0,.vs [.imm .lent (.ns .u64 c) 1 1 0 a]),(1,.vs [.imm .lent (.ns .u64 d) 1 1 0 e]),(2,.vs [.int .u64 ((g:Nat):Int)]),(3,.ns .u64 h)],4⟩
def q7(c:List Int)(e:Nat)(f:List Int)(g:Nat)(h:Nat)(a:Nat)(b:Nat)(d:List Int) :T ((Nat×(List Int))⊕((Nat×(List Int))⊕(cH))) :=
  .ask (decide (((a:Nat):Int)<((e:Nat):Int)))
    (.ask (decide (((a:Nat):Int)<((g:Nat):Int)))
      (.need (fB ((a:Nat):Int) g)<|.need (fg a (List.length f))<|.need (fB ((a:Nat):Int) e)<|.need (fg a (List.length c))<|.need (qi b 1)<|.need (fB ((a:Nat):Int) h)<|.need (fg a (List.length d))<|.leaf (.inl ((((Int.toNat (List.getD c a 0))+(Int.toNat (List.getD f a 0))+b)/18446744073709551616),(List.set d a (((((Int.toNat (List.getD c a 0))+(Int.toNat (List.getD f a 0))+b)%18446744073709551616):Nat):Int)))))
      (.need (fB ((a:Nat):Int) e)<|.need (fg a (List.length c))<|.need (qi b 1)<|.need (fB ((a:Nat):Int) h)<|.need (fg a (List.length d))<|.leaf (.inl ((((Int.toNat (List.getD c a 0))+0+b)/18446744073709551616),(List.set d a (((((Int.toNat (List.getD c a 0))+0+b)%18446744073709551616):Nat):Int))))))
    (.leaf (.inr (.inl (b,d))))
def Gn(a:Nat)(b:Nat)(c:List Int) :T ((Nat×Nat×(List Int))⊕((Nat×(List Int))⊕(cH))) :=
  .need (eX .i64 (((a+1):Nat):Int))<|.leaf (.inl ((a+1),b,c))
def kY(b:List Int)(c:Nat)(d:List Int)(e:Nat)(f:Nat) :Nat×Nat×(List Int)→Option ((Nat×Nat×(List Int))⊕((Nat×(List Int))⊕(cH))):=fun (a,g,h) =>
  aS ((q7 b c d e f a g h).run) fun (i,j) =>
  (Gn a i j).run
theorem Gp(a:List Int)(b:Nat)(d:List Int)(e:Nat)(c:Nat)(f:Nat)(g:Nat)(h:List Int) :Sg prog [] Gm (un a b d e c (f,g,h)) (kY a b d e c (f,g,h)) (un a b d e c) (fh 0 (Ai a b c) sO):=by
  unfold kY;exact Sg.cut 3 (bi iZ) (bW eg (II a b d e c f) [⟨[],[0,1,2,3],[2,3,7,8,9,30,31]⟩,⟨[],[0,1,2,3],[2,3,7,8,9,30,31]⟩,⟨[],[0,2,3],[2,7,9]⟩]) (fun ⟨i,j⟩=>bW eg _ [⟨[],[0,1,2,3],[2,3,7,8,9,30,31]⟩])
def Gq:Nat×Nat×Nat×Nat×(List Int)→aK:=fun (a,b,c,d,e)=>⟨am 62 [(4,.sl 0 1 1 a b c),(5,.int .i64 ((d:Nat):Int))],[(0,.ns .u64 e)],1⟩
def q8(b:Nat)(a:Nat)(d:Nat)(c:List Int) :T ((Nat×Nat×Nat×Nat×(List Int))⊕(cH)) :=
  .need (fB ((b:Nat):Int) a)<|.need (fg b (List.length c))<|.alt 0
    (.need (nT (fq (List.set c b ((d:Nat):Int)) 0 a a))<|.leaf (.inl (0,0,0,3,([]:List Int))))
    (.alt 1
      (.need (nU (fq (List.set c b ((d:Nat):Int)) 0 a a))<|.leaf (.inl ((oi (fq (List.set c b ((d:Nat):Int)) 0 a a)),(oj (fq (List.set c b ((d:Nat):Int)) 0 a a)),(ol (fq (List.set c b ((d:Nat):Int)) 0 a a)),0,(om (fq (List.set c b ((d:Nat):Int)) 0 a a)))))
      (.fail))
def xw(a:Nat)(b:Nat)(c:Nat)(d:Nat)(e:List Int) :T ((Empty)⊕(cH)) :=
  .leaf (.inr (.r0 a b c d e))
def be(c:List Int)(d:List Int) :Option cH:=nm (aS ((xv c d).run) fun (e,f,g,h,i) =>
  aS ((Gl e f g h i).run) fun (j,a,k,l) =>
  aS ((qZ a).run) fun (b,m) =>
  aS (d8 (kY j a k l b) (0,0,m)) fun (n,o) =>
  aS ((q8 a b n o).run) fun (p,q,r,s,t) =>
  (xw p q r s t).run)
theorem IJ(i:Lv)(c:List Int)(j:Lv)(d:List Int){x:cH}(h:be c d=some x) :ah prog sG [] [.imm i (.ns .u64 c) 1 1 0 (List.length c),.imm j (.ns .u64 d) 1 1 0 (List.length d)] (wI x) :=
  oO true wI sO h (Sg.cut 2 iZ (bW eg (IF i j) [⟨[],[0,16],[2,3,6]⟩,⟨[],[0,16],[2,3,6]⟩,⟨[],[0,16],[2,3,6]⟩]) (fun ⟨r,s,t,u,v⟩=>Sg.cut 4 iZ (bW eg IG [⟨[(.slot 4,.own 1 1 (.ns .u64 ([]:List Int)))],[82],[4,5]⟩,⟨[(.cell 0 0,.low),(.cell 1 0,.low)],[0,1],[2,3]⟩,⟨[(.cell 0 0,.low),(.cell 1 0,.low)],[0,1],[2,3]⟩]) (fun ⟨a,b,e,f⟩=>Sg.cut 4 iZ (bW eg (IH a b e f) [⟨[],[0,1,2,114],[2,3,7,8,9,30,31]⟩]) (fun ⟨g,w⟩=>Sg.cut 1 iZ (KX ⟨[],[0,1,2,3],[2,3,7,8,9,30,31]⟩ (un a b e f g) (Ai a b g) 0 iZ (IE _) (fun ⟨k,l,m⟩=>Gp a b e f g k l m)) (fun ⟨y,z⟩=>Sg.cut 2 iZ (bW eg Gq [⟨[(.slot 4,.own 1 1 (.ns .u64 ([]:List Int)))],[195],[4,5]⟩,⟨[],[2],[4,5]⟩]) (fun ⟨A,B,C,D,E⟩=>bW eg _ [⟨[],[0],[4,5]⟩]))))))
    (fun x=>by cases x with | r0 n o p q F=>exact nn [.sl 0 1 1 n o p,.int .i64 ((q:Nat):Int)])
def mU:Option cH→Bool
  | some _=>true
  | none=>false
def dd:Option cH→Nat
  | some (.r0 x _ _ _ _)=>x
  | _=>0
def de:Option cH→Nat
  | some (.r0 _ x _ _ _)=>x
  | _=>0
def vr:Option cH→Nat
  | some (.r0 _ _ x _ _)=>x
  | _=>0
def dF:Option cH→Nat
  | some (.r0 _ _ _ x _)=>x
  | _=>0
def df:Option cH→List Int
  | some (.r0 _ _ _ _ x)=>x
  | _=>[]
theorem IK{x:Option cH}(h:mU x=true) :x=some (.r0 (dd x) (de x) (vr x) (dF x) (df x)):=by
  unfold mU at h
  split at h<;>first | rfl | (cases h;done) | (rename_i y;cases y;rfl)
def CS:aM:=cR sG (.cons (.ns .u64) (.cons (.ns .u64) .nil)) fun t=>(fun q=>[⟨wI (.r0 (dd q) (de q) (vr q) (dF q) (df q)),[mU q]⟩]) (be t.1.2 t.2.1.2)
theorem D7:aX prog CS:=a9 fun t=>(ba (fun h=>IJ t.1.1 t.1.2 t.2.1.1 t.2.1.2 (IK h)) bu)
def CT:List aM:=CS::Ah
theorem gY:bh prog (bk CT):=ay D7 eg
inductive dk where
  | r0 (a:Nat) (b:Nat) (c:Nat) (d:List Int)
def sP:dk→AE×aK
  | .r0 a b c d=>(.ret,⟨am 40 [(4,.sl 0 1 1 a b c)],[(0,.ns .u64 d)],1⟩)
theorem mV:k9 sP:=by intro x;cases x<;>(intro h;cases h)
theorem IL(id:Nat) :py id sP:=by intro x;cases x<;>(intro h;cases h)
def wJ:dk→gS
  | .r0 a b d c=>⟨.imm .free (.ns .u64 c) 1 1 a b,[]⟩
def Gr:List Code:=eH (qs sI)
def IM(d:Lv)(a:List Int)(e:Lv)(b:List Int) :Nat×(List Int)→aK:=fun (c,f)=>⟨am 40 [(0,.imm d (.ns .u64 a) 1 1 0 (List.length a)),(1,.imm e (.ns .u64 b) 1 1 0 (List.length b)),(5,.sl 0 1 1 0 c c),(6,.int .u64 (0:Int)),(12,.int .i64 (((List.length a):Nat):Int)),(13,.int .i64 (0:Int))],[(0,.ns .u64 f)],1⟩
def xx(a:List Int) :T ((Nat×(List Int))⊕(dk)) :=
  .need (bg 0 (List.length a) a)<|.need (aU (List.length (aa 0 (List.length a) a)))<|.leaf (.inl ((List.length (aa 0 (List.length a) a)),(aa 0 (List.length a) a)))
def uo(d:Lv)(a:List Int)(e:Lv)(b:List Int)(c:Nat) :Int×Nat×(List Int)→aK:=fun (f,g,h)=>⟨am 40 [(0,.imm d (.ns .u64 a) 1 1 0 (List.length a)),(1,.imm e (.ns .u64 b) 1 1 0 (List.length b)),(5,.sl 0 1 1 0 c c),(6,.int .u64 f),(12,.int .i64 (((List.length a):Nat):Int)),(13,.int .i64 ((g:Nat):Int))],[(0,.ns .u64 h)],1⟩
def Aj(a:Nat)(b:(List Int)) :aK:=⟨am 40 [(5,.sl 0 1 1 0 a a)],[(0,.ns .u64 b)],1⟩
def Gs:List Code:=eH (iX ((((Gr.drop 4).take 1)).headD .skip))
def IN(d:Lv)(a:List Int)(e:Lv)(b:List Int)(c:Nat)(f:Nat) :Int×(List Int)→aK:=fun (g,h)=>⟨am 40 [(0,.imm d (.ns .u64 a) 1 1 0 (List.length a)),(1,.imm e (.ns .u64 b) 1 1 0 (List.length b)),(5,.sl 0 1 1 0 c c),(6,.int .u64 g),(12,.int .i64 (((List.length a):Nat):Int)),(13,.int .i64 ((f:Nat):Int))],[(0,.ns .u64 h)],1⟩
def q9(b:List Int)(d:List Int)(f:Nat)(c:Int)(a:Nat)(e:List Int) :T ((Int×(List Int))⊕(((List Int))⊕(dk))) :=
  .ask (decide (((a:Nat):Int)<(((List.length b):Nat):Int)))
    (.ask (decide (((a:Nat):Int)<(((List.length d):Nat):Int)))
      (.need (fB ((a:Nat):Int) (List.length d))<|.need (fg a (List.length d))<|.need (fB ((a:Nat):Int) (List.length b))<|.need (fg a (List.length b))<|.need (qi (Int.toNat c) 1)<|.need (fB ((a:Nat):Int) f)<|.need (fg a (List.length e))<|.leaf (.inl ((bif Nat.blt (Int.toNat (List.getD b a 0)) ((Int.toNat (List.getD d a 0))+(Int.toNat c)) then (1:Int) else (0:Int)),(List.set e a (((((Int.toNat (List.getD b a 0))+18446744073709551616-(Int.toNat (List.getD d a 0))-(Int.toNat c))%18446744073709551616):Nat):Int)))))
      (.need (fB ((a:Nat):Int) (List.length b))<|.need (fg a (List.length b))<|.need (qi (Int.toNat c) 1)<|.need (fB ((a:Nat):Int) f)<|.need (fg a (List.length e))<|.leaf (.inl ((bif Nat.blt (Int.toNat (List.getD b a 0)) (0+(Int.toNat c)) then (1:Int) else (0:Int)),(List.set e a (((((Int.toNat (List.getD b a 0))+18446744073709551616-0-(Int.toNat c))%18446744073709551616):Nat):Int))))))
    (.leaf (.inr (.inl e)))
def Gt(a:Nat)(b:Int)(c:List Int) :T ((Int×Nat×(List Int))⊕(((List Int))⊕(dk))) :=
  .need (eX .i64 (((a+1):Nat):Int))<|.leaf (.inl (b,(a+1),c))
def re(b:List Int)(c:List Int)(d:Nat) :Int×Nat×(List Int)→Option ((Int×Nat×(List Int))⊕(((List Int))⊕(dk))):=fun (e,a,f) =>
  aS ((q9 b c d e a f).run) fun (g,h) =>
  (Gt a g h).run
theorem Gu(d:Lv)(b:List Int)(e:Lv)(c:List Int)(a:Nat)(g:Int)(f:Nat)(h:List Int) :Sg prog [] Gs (uo d b e c a (g,f,h)) (re b c a (g,f,h)) (uo d b e c a) (fh 0 (Aj a) sP):=by
  unfold re;exact Sg.cut 3 (bi mV) (bW gY (IN d b e c a f) [⟨[],[0],[0,1,5,6,12,13]⟩,⟨[],[0],[0,1,5,6,12,13]⟩,⟨[],[0],[5]⟩]) (fun ⟨i,j⟩=>bW gY _ [⟨[],[0],[0,1,5,6,12,13]⟩])
def Gv:Nat×Nat×Nat×(List Int)→aK:=fun (a,b,c,d)=>⟨am 40 [(4,.sl 0 1 1 a b c)],[(0,.ns .u64 d)],1⟩
def xy(a:Nat)(b:List Int) :T ((Nat×Nat×Nat×(List Int))⊕(dk)) :=
  .need (dM (aL b 0 a a))<|.leaf (.inl ((dt (aL b 0 a a)),(du (aL b 0 a a)),(dw (aL b 0 a a)),(dz (aL b 0 a a))))
def Gw(a:Nat)(b:Nat)(c:Nat)(d:List Int) :T ((Empty)⊕(dk)) :=
  .leaf (.inr (.r0 a b c d))
def j8(a:List Int)(c:List Int) :Option dk:=nm (aS ((xx a).run) fun (b,d) =>
  aS (d8 (re a c b) ((0:Int),0,d)) fun e =>
  aS ((xy b e).run) fun (f,g,h,i) =>
  (Gw f g h i).run)
theorem IO(c:Lv)(a:List Int)(d:Lv)(b:List Int){x:dk}(h:j8 a b=some x) :ah prog sI [] [.imm c (.ns .u64 a) 1 1 0 (List.length a),.imm d (.ns .u64 b) 1 1 0 (List.length b)] (wJ x) :=
  oO true wJ sP h (Sg.cut 4 mV (bW gY (IM c a d b) [⟨[],[32],[0,1,5,6,12,13]⟩]) (fun ⟨e,m⟩=>Sg.cut 1 mV (KX ⟨[],[0],[0,1,5,6,12,13]⟩ (uo c a d b e) (Aj e) 0 mV (IL _) (fun ⟨f,g,i⟩=>Gu c a d b e f g i)) (fun n=>Sg.cut 1 mV (bW gY Gv [⟨[],[0],[4]⟩]) (fun ⟨o,p,q,r⟩=>bW gY _ [⟨[],[0],[4]⟩]))))
    (fun x=>by cases x with | r0 j k l s=>exact nn [.sl 0 1 1 j k l])
def pI:Option dk→Bool
  | some _=>true
  | none=>false
def pJ:Option dk→Nat
  | some (.r0 x _ _ _)=>x
  | _=>0
def pK:Option dk→Nat
  | some (.r0 _ x _ _)=>x
  | _=>0
def vt:Option dk→Nat
  | some (.r0 _ _ x _)=>x
  | _=>0
def pL:Option dk→List Int
  | some (.r0 _ _ _ x)=>x
  | _=>[]
theorem IP{x:Option dk}(h:pI x=true) :x=some (.r0 (pJ x) (pK x) (vt x) (pL x)):=by
  unfold pI at h
  split at h<;>first | rfl | (cases h;done) | (rename_i y;cases y;rfl)
def CU:aM:=cR sI (.cons (.ns .u64) (.cons (.ns .u64) .nil)) fun t=>(fun q=>[⟨wJ (.r0 (pJ q) (pK q) (vt q) (pL q)),[pI q]⟩]) (j8 t.1.2 t.2.1.2)
theorem D8:aX prog CU:=a9 fun t=>(ba (fun h=>IO t.1.1 t.1.2 t.2.1.1 t.2.1.2 (IP h)) bu)
def CV:List aM:=CU::CT
theorem jp:bh prog (bk CV):=ay D8 gY
inductive dS where
  | r0 (a:List Int) (b:Nat) (c:Nat) (d:Nat)
def CW:dS→AE×aK
  | .r0 a b c d=>(.ret,⟨am 20 [(4,.imm .free (.ns .u64 a) 1 1 b c),(5,.int .i64 ((d:Nat):Int))],[],0⟩)
theorem uq:k9 CW:=by intro x;cases x<;>(intro h;cases h)
def wK:dS→gS
  | .r0 a b c d=>⟨.tup [.imm .free (.ns .u64 a) 1 1 b c,.int .i64 ((d:Nat):Int)],[]⟩
def IQ(a:Lv)(b:Lv) :Nat×(List Int)×Nat×(List Int)×Nat→aK:=fun (c,d,e,f,g)=>⟨am 20 [(2,.ptr 0 1 0 0),(3,.ptr 1 1 0 0),(6,.int .i64 ((c:Nat):Int))],[(0,.vs [.imm a (.ns .u64 d) 1 1 0 e]),(1,.vs [.imm b (.ns .u64 f) 1 1 0 g])],2⟩
def Ak(a : List Int)(b : List Int) : T ((Nat × (List Int) × Nat × (List Int) × Nat) ⊕ (dS)) :=
  .ask (decide ((0:Int)<(2:Int)))
    (.need (fB (0:Int) 2)<|.need (bg 0 (List.length a) a)<|.need (bE (ai (aa 0 (List.length a) a)))<|.ask (decide ((((ap (ai (aa 0 (List.length a) a))):Nat):Int)>(4096:Int)))
      (.leaf (.inl (2,(aI (ai (aa 0 (List.length a) a))),(ap (ai (aa 0 (List.length a) a))),b,(List.length b))))
      (.need (eX .i64 (1:Int))<|.ask (decide ((1:Int)<(2:Int)))
        (.need (fB (1:Int) 2)<|.need (bg 0 (List.length b) b)<|.need (bE (ai (aa 0 (List.length b) b)))<|.ask (decide ((((ap (ai (aa 0 (List.length b) b))):Nat):Int)>(4096:Int)))
          (.leaf (.inl (2,(aI (ai (aa 0 (List.length a) a))),(ap (ai (aa 0 (List.length a) a))),(aI (ai (aa 0 (List.length b) b))),(ap (ai (aa 0 (List.length b) b))))))
          (.need (eX .i64 (2:Int))<|.ask (decide ((2:Int)<(2:Int)))
            (.fail)
            (.leaf (.inl (0,(aI (ai (aa 0 (List.length a) a))),(ap (ai (aa 0 (List.length a) a))),(aI (ai (aa 0 (List.length b) b))),(ap (ai (aa 0 (List.length b) b))))))))
        (.fail)))
    (.fail)
def IR(a:Lv)(b:Lv)(c:List Int)(d:Nat)(e:List Int)(f:Nat)(g:Bool) :aK:=⟨am 20 [(2,.ptr 0 1 0 0),(3,.ptr 1 1 0 0),(16,.bool false g)],[(0,.vs [.imm a (.ns .u64 c) 1 1 0 d]),(1,.vs [.imm b (.ns .u64 e) 1 1 0 f])],2⟩
def Al(e:Nat)(a:List Int)(b:Nat)(c:List Int)(d:Nat) :T ((Bool)⊕(dS)) :=
  .ask (((e:Nat):Int) != (0:Int))
    (.leaf (.inl true))
    (.need (bg 0 b a)<|.need (bg 0 d c)<|.need (mS (j6 (aa 0 b a) (aa 0 d c)))<|.leaf (.inl (decide ((mf (j6 (aa 0 b a) (aa 0 d c)))<(0:Int)))))
def IS:(List Int)×Nat×Nat→aK:=fun (a,b,c)=>⟨am 20 [(4,.imm .free (.ns .u64 a) 1 1 b c),(5,.int .i64 (0:Int))],[],0⟩
def Am(a:List Int)(b:Nat)(c:List Int)(d:Nat)(e:Bool) :T (((List Int)×Nat×Nat)⊕(dS)) :=
  .ask e
    (.leaf (.inr (.r0 ([]:List Int) 0 0 2)))
    (.need (bg 0 b a)<|.need (bg 0 d c)<|.need (pI (j8 (aa 0 b a) (aa 0 d c)))<|.leaf (.inl ((pL (j8 (aa 0 b a) (aa 0 d c))),(pJ (j8 (aa 0 b a) (aa 0 d c))),(pK (j8 (aa 0 b a) (aa 0 d c))))))
def IT(a:List Int)(b:Nat)(c:Nat) :T ((Empty)⊕(dS)) :=
  .leaf (.inr (.r0 a b c 0))
def aQ(e:List Int)(f:List Int) :Option dS:=nm (aS ((Ak e f).run) fun (g,a,b,c,d) =>
  aS ((Al g a b c d).run) fun h =>
  aS ((Am a b c d h).run) fun (i,j,k) =>
  (IT i j k).run)
theorem IU(a:Lv)(b:List Int)(c:Lv)(d:List Int){x:dS}(h:aQ b d=some x) :ah prog wz [] [.imm a (.ns .u64 b) 1 1 0 (List.length b),.imm c (.ns .u64 d) 1 1 0 (List.length d)] (wK x) :=
  oO true wK CW h (Sg.cut 2 uq (bW jp (IQ a c) [⟨[],[0,16],[2,3,6]⟩,⟨[],[0,16],[2,3,6]⟩,⟨[],[0,16],[2,3,6]⟩]) (fun ⟨n,e,f,g,i⟩=>Sg.cut 1 uq (bW jp (IR a c e f g i) [⟨[],[0,1],[2,3,16]⟩,⟨[],[0,1],[2,3,16]⟩]) (fun o=>Sg.cut 2 uq (bW jp IS [⟨[(.slot 4,.fre 1 1 (.ns .u64 ([]:List Int)))],[],[4,5]⟩,⟨[],[],[4,5]⟩]) (fun ⟨p,q,r⟩=>bW jp _ [⟨[],[],[4,5]⟩]))))
    (fun x=>by cases x with | r0 j k l m=>exact nn [.imm .free (.ns .u64 j) 1 1 k l,.int .i64 ((m:Nat):Int)])
def j9:Option dS→Bool
  | some _=>true
  | none=>false
def cW:Option dS→List Int
  | some (.r0 x _ _ _)=>x
  | _=>[]
def cX:Option dS→Nat
  | some (.r0 _ x _ _)=>x
  | _=>0
def cY:Option dS→Nat
  | some (.r0 _ _ x _)=>x
  | _=>0
def dg:Option dS→Nat
  | some (.r0 _ _ _ x)=>x
  | _=>0
theorem IV{x:Option dS}(h:j9 x=true) :x=some (.r0 (cW x) (cX x) (cY x) (dg x)):=by
  unfold j9 at h
  split at h<;>first | rfl | (cases h;done) | (rename_i y;cases y;rfl)
def CX:aM:=cR wz (.cons (.ns .u64) (.cons (.ns .u64) .nil)) fun t=>(fun q=>[⟨wK (.r0 (cW q) (cX q) (cY q) (dg q)),[j9 q]⟩]) (aQ t.1.2 t.2.1.2)
theorem D9:aX prog CX:=a9 fun t=>(ba (fun h=>IU t.1.1 t.1.2 t.2.1.1 t.2.1.2 (IV h)) bu)
def CY:List aM:=CX::CV
theorem gZ:bh prog (bk CY):=ay D9 jp
inductive dl where
  | r0 (a:Nat) (b:Nat) (c:Nat) (d:List Int)
def sQ:dl→AE×aK
  | .r0 a b c d=>(.ret,⟨am 59 [(4,.sl 0 1 1 a b c)],[(0,.ns .u64 d)],1⟩)
theorem mW:k9 sQ:=by intro x;cases x<;>(intro h;cases h)
theorem IW(id:Nat) :py id sQ:=by intro x;cases x<;>(intro h;cases h)
def wL:dl→gS
  | .r0 a b d c=>⟨.imm .free (.ns .u64 c) 1 1 a b,[]⟩
def IX:List Code:=eH (qs sJ)
def IY(c:Lv)(a:List Int) :Int×Int×Nat×(List Int)→aK:=fun (d,r2,b,e)=>⟨am 59 [(0,.imm c (.ns .u64 a) 1 1 0 (List.length a)),(5,.int .i64 d),(6,.int .u64 r2),(7,.sl 0 1 1 0 b b),(24,.int .i64 (((List.length a):Nat):Int)),(25,.int .i64 (0:Int))],[(0,.ns .u64 e)],1⟩
def xz(b:List Int)(a:Int) :T ((Int×Int×Nat×(List Int))⊕(dl)) :=
  .ask ((((List.length b):Nat):Int)==(0:Int))
    (.leaf (.inr (.r0 0 0 0 ([]:List Int))))
    (.need ((64:Int) != (0:Int))<|.need (eX .i64 (Int.tdiv a (64:Int)))<|.need ((64:Int) != (0:Int))<|.need (eX .i64 ((((List.length b):Nat):Int)+(Int.tdiv a (64:Int))))<|.need (eX .i64 (((((List.length b):Nat):Int)+(Int.tdiv a (64:Int)))+(1:Int)))<|.need (decide ((0:Int)≤(((((List.length b):Nat):Int)+(Int.tdiv a (64:Int)))+(1:Int))))<|.need (decide ((((((List.length b):Nat):Int)+(Int.tdiv a (64:Int)))+(1:Int))≤(((((List.length b):Nat):Int)+(Int.tdiv a (64:Int)))+(1:Int))))<|.need (decide ((8:Int)*(((((List.length b):Nat):Int)+(Int.tdiv a (64:Int)))+(1:Int))≤140737488355328))<|.need (eX .i64 (((((List.length b):Nat):Int)+(Int.tdiv a (64:Int)))+(1:Int)))<|.leaf (.inl ((Int.tdiv a (64:Int)),(IntKind.u64.wrap (Int.tmod a (64:Int))),(Int.toNat (((((List.length b):Nat):Int)+(Int.tdiv a (64:Int)))+(1:Int))),(List.replicate (Int.toNat (((((List.length b):Nat):Int)+(Int.tdiv a (64:Int)))+(1:Int))) (0:Int)))))
def ur(c:Lv)(a:List Int)(d:Int)(r2:Int)(b:Nat) :Nat×(List Int)→aK:=fun (e,f)=>⟨am 59 [(0,.imm c (.ns .u64 a) 1 1 0 (List.length a)),(5,.int .i64 d),(6,.int .u64 r2),(7,.sl 0 1 1 0 b b),(24,.int .i64 (((List.length a):Nat):Int)),(25,.int .i64 ((e:Nat):Int))],[(0,.ns .u64 f)],1⟩
def An(a:Nat)(b:(List Int)) :aK:=⟨am 59 [(7,.sl 0 1 1 0 a a)],[(0,.ns .u64 b)],1⟩
def Gx:List Code:=eH (iX ((((IX.drop 6).take 1)).headD .skip))
def IZ(c:Lv)(a:List Int)(d:Int)(r2:Int)(b:Nat)(e:Nat)(f:(List Int)) :aK:=⟨am 59 [(0,.imm c (.ns .u64 a) 1 1 0 (List.length a)),(5,.int .i64 d),(6,.int .u64 r2),(7,.sl 0 1 1 0 b b),(24,.int .i64 (((List.length a):Nat):Int)),(25,.int .i64 ((e:Nat):Int))],[(0,.ns .u64 f)],1⟩
def nV(c:List Int)(b:Int)(r2:Int)(e:Nat)(a:Nat)(d:List Int) :T (((List Int))⊕(((List Int))⊕(dl))) :=
  .ask (decide (((a:Nat):Int)<(((List.length c):Nat):Int)))
    (.need (eX .i64 (((a:Nat):Int)+b))<|.need (fB (((a:Nat):Int)+b) e)<|.need (fg (Int.toNat (((a:Nat):Int)+b)) (List.length d))<|.need (fB ((a:Nat):Int) (List.length c))<|.need (fg a (List.length c))<|.need (decide ((0:Int)≤r2))<|.need (fB (((a:Nat):Int)+b) e)<|.need (fg (Int.toNat (((a:Nat):Int)+b)) (List.length d))<|.need (eX .i64 (((a:Nat):Int)+b))<|.need (eX .i64 ((((a:Nat):Int)+b)+(1:Int)))<|.need (fB ((a:Nat):Int) (List.length c))<|.need (fg a (List.length c))<|.need (decide ((0:Int)≤(1:Int)))<|.need (decide ((0:Int)≤(IntKind.u64.wrap ((63:Int)-r2))))<|.need (fB ((((a:Nat):Int)+b)+(1:Int)) e)<|.need (fg (Int.toNat ((((a:Nat):Int)+b)+(1:Int))) (List.length (List.set d (Int.toNat (((a:Nat):Int)+b)) (cN .or .u64 (List.getD d (Int.toNat (((a:Nat):Int)+b)) 0) (IntKind.u64.wrap ((List.getD c a 0)*2^(min (Int.toNat r2) (IntKind.u64.bits))))))))<|.leaf (.inl (List.set (List.set d (Int.toNat (((a:Nat):Int)+b)) (cN .or .u64 (List.getD d (Int.toNat (((a:Nat):Int)+b)) 0) (IntKind.u64.wrap ((List.getD c a 0)*2^(min (Int.toNat r2) (IntKind.u64.bits)))))) (Int.toNat ((((a:Nat):Int)+b)+(1:Int))) (Int.fdiv (Int.fdiv (List.getD c a 0) (2^(min (Int.toNat (1:Int)) (IntKind.u64.bits)))) (2^(min (Int.toNat (IntKind.u64.wrap ((63:Int)-r2))) (IntKind.u64.bits)))))))
    (.leaf (.inr (.inl d)))
def Gy(a:Nat)(b:List Int) :T ((Nat×(List Int))⊕(((List Int))⊕(dl))) :=
  .need (eX .i64 (((a+1):Nat):Int))<|.leaf (.inl ((a+1),b))
def rf(b:List Int)(c:Int)(r2:Int)(d:Nat) :Nat×(List Int)→Option ((Nat×(List Int))⊕(((List Int))⊕(dl))):=fun (a,e) =>
  aS ((nV b c r2 d a e).run) fun f =>
  (Gy a f).run
theorem Gz(d:Lv)(b:List Int)(c:Int)(r2:Int)(a:Nat)(e:Nat)(f:List Int) :Sg prog [] Gx (ur d b c r2 a (e,f)) (rf b c r2 a (e,f)) (ur d b c r2 a) (fh 0 (An a) sQ):=by
  unfold rf;exact Sg.cut 3 (bi mW) (bW gZ (IZ d b c r2 a e) [⟨[],[0],[0,5,6,7,24,25]⟩,⟨[],[0],[7]⟩]) (fun g=>bW gZ _ [⟨[],[0],[0,5,6,7,24,25]⟩])
def I0:Nat×Nat×Nat×(List Int)→aK:=fun (a,b,c,d)=>⟨am 59 [(4,.sl 0 1 1 a b c)],[(0,.ns .u64 d)],1⟩
def xA(a:Nat)(b:List Int) :T ((Nat×Nat×Nat×(List Int))⊕(dl)) :=
  .need (dM (aL b 0 a a))<|.leaf (.inl ((dt (aL b 0 a a)),(du (aL b 0 a a)),(dw (aL b 0 a a)),(dz (aL b 0 a a))))
def GA(a:Nat)(b:Nat)(c:Nat)(d:List Int) :T ((Empty)⊕(dl)) :=
  .leaf (.inr (.r0 a b c d))
def cI(a:List Int)(c:Int) :Option dl:=nm (aS ((xz a c).run) fun (d,r2,b,e) =>
  aS (d8 (rf a d r2 b) (0,e)) fun f =>
  aS ((xA b f).run) fun (g,h,i,j) =>
  (GA g h i j).run)
theorem I1(b:Lv)(a:List Int)(d:Int){x:dl}(h:cI a d=some x) :ah prog sJ [] [.imm b (.ns .u64 a) 1 1 0 (List.length a),.int .i64 d] (wL x) :=
  oO true wL sQ h (Sg.cut 6 mW (bW gZ (IY b a) [⟨[(.slot 4,.own 1 1 (.ns .u64 ([]:List Int)))],[80],[4]⟩,⟨[],[256],[0,5,6,7,24,25]⟩]) (fun ⟨e,r2,c,l⟩=>Sg.cut 1 mW (KX ⟨[],[0],[0,5,6,7,24,25]⟩ (ur b a e r2 c) (An c) 0 mW (IW _) (fun ⟨f,g⟩=>Gz b a e r2 c f g)) (fun m=>Sg.cut 1 mW (bW gZ I0 [⟨[],[0],[4]⟩]) (fun ⟨n,o,p,q⟩=>bW gZ _ [⟨[],[0],[4]⟩]))))
    (fun x=>by cases x with | r0 i j k r=>exact nn [.sl 0 1 1 i j k])
def mX:Option dl→Bool
  | some _=>true
  | none=>false
def eN:Option dl→Nat
  | some (.r0 x _ _ _)=>x
  | _=>0
def eO:Option dl→Nat
  | some (.r0 _ x _ _)=>x
  | _=>0
def vu:Option dl→Nat
  | some (.r0 _ _ x _)=>x
  | _=>0
def eP:Option dl→List Int
  | some (.r0 _ _ _ x)=>x
  | _=>[]
theorem I2{x:Option dl}(h:mX x=true) :x=some (.r0 (eN x) (eO x) (vu x) (eP x)):=by
  unfold mX at h
  split at h<;>first | rfl | (cases h;done) | (rename_i y;cases y;rfl)
def CZ:aM:=cR sJ (.cons (.ns .u64) (.cons (.int .i64) .nil)) fun t=>(fun q=>[⟨wL (.r0 (eN q) (eO q) (vu q) (eP q)),[mX q]⟩]) (cI t.1.2 t.2.1)
theorem Ea:aX prog CZ:=a9 fun t=>(ba (fun h=>I1 t.1.1 t.1.2 t.2.1 (I2 h)) bu)
def C1:List aM:=CZ::CY
theorem pM:bh prog (bk C1):=ay Ea gZ
inductive cU where
  | r0 (a:List Int) (b:Nat) (c:Nat)
def tt(a:Lv) :cU→AE×aK
  | .r0 b c d=>(.ret,⟨am 10 [(2,.imm a (.ns .u64 b) 1 1 0 c),(3,.int .i64 ((d:Nat):Int))],[],0⟩)
theorem Ao{a:Lv} :k9 (tt a):=by intro x;cases x<;>(intro h;cases h)
def oo(a:Lv) :cU→gS
  | .r0 b c d=>⟨.tup [.imm a (.ns .u64 b) 1 1 0 c,.int .i64 ((d:Nat):Int)],[]⟩
def Ap(a:Lv) :(List Int)×Nat→aK:=fun (b,c)=>⟨am 10 [(0,.imm a (.ns .u64 b) 1 1 0 c)],[],0⟩
def rg(a:List Int) :T (((List Int)×Nat)⊕(cU)) :=
  .need (bg 0 (List.length a) a)<|.need (bE (ai (aa 0 (List.length a) a)))<|.leaf (.inl ((aI (ai (aa 0 (List.length a) a))),(ap (ai (aa 0 (List.length a) a)))))
def Aq(b:List Int)(a:Nat) :T ((Empty)⊕(cU)) :=
  .ask (decide (((a:Nat):Int)>(4096:Int)))
    (.leaf (.inr (.r0 ([]:List Int) 0 3)))
    (.leaf (.inr (.r0 b a 0)))
def eS(a:List Int) :Option cU:=nm (aS ((rg a).run) fun (b,c) =>
  (Aq b c).run)
theorem Ar(a:Lv)(b:List Int){x:cU}(h:eS b=some x) :ah prog mN [] [.imm a (.ns .u64 b) 1 1 0 (List.length b)] (oo a x) :=
  oO false (oo a) (tt a) h (Sg.cut 2 Ao (bW pM (Ap a) [⟨[],[],[0]⟩]) (fun ⟨f,g⟩=>bW pM _ [⟨[(.slot 2,.fre 1 1 (.ns .u64 ([]:List Int))),(.slot 2,.lev a)],[],[2,3]⟩,⟨[],[],[2,3]⟩]))
    (fun x=>by cases x with | r0 c d e=>exact nn [.imm a (.ns .u64 c) 1 1 0 d,.int .i64 ((e:Nat):Int)])
def jq:Option cU→Bool
  | some _=>true
  | none=>false
def ka:Option cU→List Int
  | some (.r0 x _ _)=>x
  | _=>[]
def kb:Option cU→Nat
  | some (.r0 _ x _)=>x
  | _=>0
def kd:Option cU→Nat
  | some (.r0 _ _ x)=>x
  | _=>0
theorem As{x:Option cU}(h:jq x=true) :x=some (.r0 (ka x) (kb x) (kd x)):=by
  unfold jq at h
  split at h<;>first | rfl | (cases h;done) | (rename_i y;cases y;rfl)
def tu:aM:=cR mN (.cons (.ns .u64) .nil) fun t=>(fun q=>[⟨oo t.1.1 (.r0 (ka q) (kb q) (kd q)),[jq q]⟩]) (eS t.1.2)
theorem wM:aX prog tu:=a9 fun t=>(ba (fun h=>Ar t.1.1 t.1.2 (As h)) bu)
def tw:List aM:=tu::C1
theorem fa:bh prog (bk tw):=ay wM pM
inductive em where
  | r0 (a:List Int) (b:Nat) (c:Nat)
def C2:em→AE×aK
  | .r0 a b c=>(.ret,⟨am 30 [(4,.imm .free (.ns .u64 a) 1 1 0 b),(5,.int .i64 ((c:Nat):Int))],[],0⟩)
theorem ut:k9 C2:=by intro x;cases x<;>(intro h;cases h)
def wN:em→gS
  | .r0 a b c=>⟨.tup [.imm .free (.ns .u64 a) 1 1 0 b,.int .i64 ((c:Nat):Int)],[]⟩
def I3(a:Lv)(b:Int) :Nat×(List Int)×Nat→aK:=fun (c,d,e)=>⟨am 30 [(1,.int .i64 b),(2,.ptr 0 1 0 0),(6,.int .i64 ((c:Nat):Int))],[(0,.vs [.imm a (.ns .u64 d) 1 1 0 e])],1⟩
def Au(a:List Int) :T ((Nat×(List Int)×Nat)⊕(em)) :=
  .ask (decide ((0:Int)<(1:Int)))
    (.need (fB (0:Int) 1)<|.need (bg 0 (List.length a) a)<|.need (bE (ai (aa 0 (List.length a) a)))<|.ask (decide ((((ap (ai (aa 0 (List.length a) a))):Nat):Int)>(4096:Int)))
      (.leaf (.inl (2,(aI (ai (aa 0 (List.length a) a))),(ap (ai (aa 0 (List.length a) a))))))
      (.need (eX .i64 (1:Int))<|.ask (decide ((1:Int)<(1:Int)))
        (.fail)
        (.leaf (.inl (0,(aI (ai (aa 0 (List.length a) a))),(ap (ai (aa 0 (List.length a) a))))))))
    (.fail)
def I4(a:Lv)(b:Int)(c:List Int)(d:Nat)(_:Unit) :aK:=⟨am 30 [(1,.int .i64 b),(2,.ptr 0 1 0 0)],[(0,.vs [.imm a (.ns .u64 c) 1 1 0 d])],1⟩
def I5(a:Int)(b:Nat)(c:Nat) :T ((Unit)⊕(em)) :=
  .ask (((b:Nat):Int) != (0:Int))
    (.leaf (.inr (.r0 ([]:List Int) 0 2)))
    (.ask (decide (a<(0:Int)))
      (.leaf (.inr (.r0 ([]:List Int) 0 2)))
      (.ask (decide (((c:Nat):Int)>(0:Int)))
        (.ask (decide (a≥(262144:Int)))
          (.leaf (.inr (.r0 ([]:List Int) 0 3)))
          (.leaf (.inl ())))
        (.leaf (.inl ()))))
def I6:(List Int)×Nat×Nat→aK:=fun (a,b,c)=>⟨am 30 [(4,.imm .free (.ns .u64 a) 1 1 0 b),(5,.int .i64 ((c:Nat):Int))],[],0⟩
def uu(c:Int)(a:List Int)(b:Nat) :T (((List Int)×Nat×Nat)⊕(em)) :=
  .need (bg 0 b a)<|.need (mX (cI (aa 0 b a) c))<|.need (bg (eN (cI (aa 0 b a) c)) (eO (cI (aa 0 b a) c)) (eP (cI (aa 0 b a) c)))<|.need (jq (eS (aa (eN (cI (aa 0 b a) c)) (eO (cI (aa 0 b a) c)) (eP (cI (aa 0 b a) c)))))<|.leaf (.inl ((ka (eS (aa (eN (cI (aa 0 b a) c)) (eO (cI (aa 0 b a) c)) (eP (cI (aa 0 b a) c))))),(kb (eS (aa (eN (cI (aa 0 b a) c)) (eO (cI (aa 0 b a) c)) (eP (cI (aa 0 b a) c))))),(kd (eS (aa (eN (cI (aa 0 b a) c)) (eO (cI (aa 0 b a) c)) (eP (cI (aa 0 b a) c)))))))
def I7(a:List Int)(b:Nat)(c:Nat) :T ((Empty)⊕(em)) :=
  .leaf (.inr (.r0 a b c))
def dA(c:List Int)(a:Int) :Option em:=nm (aS ((Au c).run) fun (d,e,b) =>
  aS ((I5 a d b).run) fun _ =>
  aS ((uu a e b).run) fun (f,g,h) =>
  (I7 f g h).run)
theorem I8(b:Lv)(c:List Int)(a:Int){x:em}(h:dA c a=some x) :ah prog wB [] [.imm b (.ns .u64 c) 1 1 0 (List.length c),.int .i64 a] (wN x) :=
  oO true wN C2 h (Sg.cut 2 ut (bW fa (I3 b a) [⟨[],[0],[1,2,6]⟩,⟨[],[0],[1,2,6]⟩]) (fun ⟨j,d,e⟩=>Sg.cut 1 ut (bW fa (I4 b a d e) [⟨[(.slot 4,.fre 1 1 (.ns .u64 ([]:List Int)))],[],[4,5]⟩,⟨[(.slot 4,.fre 1 1 (.ns .u64 ([]:List Int)))],[],[4,5]⟩,⟨[(.slot 4,.fre 1 1 (.ns .u64 ([]:List Int)))],[],[4,5]⟩,⟨[],[0],[1,2]⟩,⟨[],[0],[1,2]⟩]) (fun _=>Sg.cut 1 ut (bW fa I6 [⟨[],[],[4,5]⟩]) (fun ⟨k,l,m⟩=>bW fa _ [⟨[],[],[4,5]⟩]))))
    (fun x=>by cases x with | r0 f g i=>exact nn [.imm .free (.ns .u64 f) 1 1 0 g,.int .i64 ((i:Nat):Int)])
def ke:Option em→Bool
  | some _=>true
  | none=>false
def g3:Option em→List Int
  | some (.r0 x _ _)=>x
  | _=>[]
def g4:Option em→Nat
  | some (.r0 _ x _)=>x
  | _=>0
def vv:Option em→Nat
  | some (.r0 _ _ x)=>x
  | _=>0
theorem I9{x:Option em}(h:ke x=true) :x=some (.r0 (g3 x) (g4 x) (vv x)):=by
  unfold ke at h
  split at h<;>first | rfl | (cases h;done) | (rename_i y;cases y;rfl)
def C3:aM:=cR wB (.cons (.ns .u64) (.cons (.int .i64) .nil)) fun t=>(fun q=>[⟨wN (.r0 (g3 q) (g4 q) (vv q)),[ke q]⟩]) (dA t.1.2 t.2.1)
theorem Eb:aX prog C3:=a9 fun t=>(ba (fun h=>I8 t.1.1 t.1.2 t.2.1 (I9 h)) bu)
def C4:List aM:=C3::tw
theorem d5:bh prog (bk C4):=ay Eb fa
inductive cj where
  | r0 (a:Nat) (b:Nat) (c:Nat) (d:Bool) (e:List Int)
def o6:cj→AE×aK
  | .r0 a b c d e=>(.ret,⟨am 97 [(4,.sl 0 1 1 a b c),(5,.bool false d)],[(0,.ns .u64 e)],1⟩)
theorem fu:k9 o6:=by intro x;cases x<;>(intro h;cases h)
theorem Av(id:Nat) :py id o6:=by intro x;cases x<;>(intro h;cases h)
def wO:cj→gS
  | .r0 a b e c d=>⟨.tup [.imm .free (.ns .u64 d) 1 1 a b,.bool false c],[]⟩
def xB:List Code:=eH (qs sH)
def Ja(b:Lv)(a:List Int) :Int×Int×Bool×Nat×Nat→aK:=fun (c,r2,d,e,f)=>⟨am 97 [(0,.imm b (.ns .u64 a) 1 1 0 (List.length a)),(6,.int .i64 c),(7,.int .u64 r2),(8,.bool false d),(36,.imm b (.ns .u64 a) 1 1 0 e),(37,.int .i64 ((f:Nat):Int)),(38,.int .i64 (0:Int))],[],0⟩
def rh(b:List Int)(a:Int) :T ((Int×Int×Bool×Nat×Nat)⊕(cj)) :=
  .need ((64:Int) != (0:Int))<|.need (eX .i64 (Int.tdiv a (64:Int)))<|.need ((64:Int) != (0:Int))<|.ask (decide ((Int.tdiv a (64:Int))≥(((List.length b):Nat):Int)))
    (.leaf (.inr (.r0 0 0 0 (decide ((((List.length b):Nat):Int)>(0:Int))) ([]:List Int))))
    (.need (fB (Int.tdiv a (64:Int)) (List.length b))<|.need (fg (Int.toNat (Int.tdiv a (64:Int))) (List.length b))<|.need (decide ((0:Int)≤(IntKind.u64.wrap (Int.tmod a (64:Int)))))<|.need (qv (Int.tdiv a (64:Int)) (List.length b))<|.need (qv (0:Int) (Int.toNat (Int.tdiv a (64:Int))))<|.leaf (.inl ((Int.tdiv a (64:Int)),(IntKind.u64.wrap (Int.tmod a (64:Int))),((cN .and .u64 (List.getD b (Int.toNat (Int.tdiv a (64:Int))) 0) (IntKind.u64.wrap ((IntKind.u64.wrap ((1:Int)*2^(min (Int.toNat (IntKind.u64.wrap (Int.tmod a (64:Int)))) (IntKind.u64.bits))))-(1:Int)))) != (0:Int)),(Int.toNat (Int.tdiv a (64:Int))),(Int.toNat (Int.tdiv a (64:Int))))))
def uv(b:Lv)(a:List Int)(c:Int)(r2:Int)(d:Nat)(e:Nat) :Bool×Nat→aK:=fun (f,g)=>⟨am 97 [(0,.imm b (.ns .u64 a) 1 1 0 (List.length a)),(6,.int .i64 c),(7,.int .u64 r2),(8,.bool false f),(36,.imm b (.ns .u64 a) 1 1 0 d),(37,.int .i64 ((e:Nat):Int)),(38,.int .i64 ((g:Nat):Int))],[],0⟩
def Aw(b:Lv)(a:List Int)(c:Int)(r2:Int)(d:Bool) :aK:=⟨am 97 [(0,.imm b (.ns .u64 a) 1 1 0 (List.length a)),(6,.int .i64 c),(7,.int .u64 r2),(8,.bool false d)],[],0⟩
def GB:List Code:=eH (iX ((((xB.drop 6).take 1)).headD .skip))
def Jb(b:Lv)(a:List Int)(c:Int)(r2:Int)(d:Nat)(e:Nat)(f:Nat)(g:Bool) :aK:=⟨am 97 [(0,.imm b (.ns .u64 a) 1 1 0 (List.length a)),(6,.int .i64 c),(7,.int .u64 r2),(8,.bool false g),(36,.imm b (.ns .u64 a) 1 1 0 d),(37,.int .i64 ((e:Nat):Int)),(38,.int .i64 ((f:Nat):Int))],[],0⟩
def nW(b:List Int)(d:Nat)(e:Nat)(c:Bool)(a:Nat) :T ((Bool)⊕((Bool)⊕(cj))) :=
  .ask (decide (((a:Nat):Int)<((e:Nat):Int)))
    (.need (fB ((a:Nat):Int) d)<|.need (fg a (List.length b))<|.ask c
      (.leaf (.inl true))
      (.leaf (.inl ((List.getD b a 0) != (0:Int)))))
    (.leaf (.inr (.inl c)))
def GC(a:Nat)(b:Bool) :T ((Bool×Nat)⊕((Bool)⊕(cj))) :=
  .need (eX .i64 (((a+1):Nat):Int))<|.leaf (.inl (b,(a+1)))
def ri(b:List Int)(c:Nat)(d:Nat) :Bool×Nat→Option ((Bool×Nat)⊕((Bool)⊕(cj))):=fun (e,a) =>
  aS ((nW b c d e a).run) fun f =>
  (GC a f).run
theorem GD(b:Lv)(a:List Int)(c:Int)(r2:Int)(d:Nat)(e:Nat)(g:Bool)(f:Nat) :Sg prog [] GB (uv b a c r2 d e (g,f)) (ri a d e (g,f)) (uv b a c r2 d e) (fh 0 (Aw b a c r2) o6):=by
  unfold ri;exact Sg.cut 3 (bi fu) (bW d5 (Jb b a c r2 d e f) [⟨[],[],[0,6,7,8,36,37,38]⟩,⟨[],[],[0,6,7,8,36,37,38]⟩,⟨[],[],[0,6,7,8]⟩]) (fun h=>bW d5 _ [⟨[],[],[0,6,7,8,36,37,38]⟩])
def Jc(c:Lv)(a:List Int)(d:Int)(r2:Int)(e:Bool) :Nat×Nat×(List Int)→aK:=fun (b,f,g)=>⟨am 97 [(0,.imm c (.ns .u64 a) 1 1 0 (List.length a)),(6,.int .i64 d),(7,.int .u64 r2),(8,.bool false e),(11,.sl 0 1 1 0 b b),(54,.int .i64 ((f:Nat):Int)),(55,.int .i64 (0:Int))],[(0,.ns .u64 g)],1⟩
def rj(a:List Int)(b:Int) :T ((Nat×Nat×(List Int))⊕(cj)) :=
  .need (eX .i64 ((((List.length a):Nat):Int)-b))<|.need (decide ((0:Int)≤((((List.length a):Nat):Int)-b)))<|.need (decide (((((List.length a):Nat):Int)-b)≤((((List.length a):Nat):Int)-b)))<|.need (decide ((8:Int)*((((List.length a):Nat):Int)-b)≤140737488355328))<|.need (eX .i64 ((((List.length a):Nat):Int)-b))<|.leaf (.inl ((Int.toNat ((((List.length a):Nat):Int)-b)),(Int.toNat ((((List.length a):Nat):Int)-b)),(List.replicate (Int.toNat ((((List.length a):Nat):Int)-b)) (0:Int))))
def rl(c:Lv)(a:List Int)(d:Int)(r2:Int)(e:Bool)(b:Nat)(f:Nat) :Nat×(List Int)→aK:=fun (g,h)=>⟨am 97 [(0,.imm c (.ns .u64 a) 1 1 0 (List.length a)),(6,.int .i64 d),(7,.int .u64 r2),(8,.bool false e),(11,.sl 0 1 1 0 b b),(54,.int .i64 ((f:Nat):Int)),(55,.int .i64 ((g:Nat):Int))],[(0,.ns .u64 h)],1⟩
def xC(b:Bool)(a:Nat)(c:(List Int)) :aK:=⟨am 97 [(8,.bool false b),(11,.sl 0 1 1 0 a a)],[(0,.ns .u64 c)],1⟩
def GE:List Code:=eH (iX ((((((xB.drop 6).drop 1).drop 2).take 1)).headD .skip))
def GF(c:Lv)(a:List Int)(d:Int)(r2:Int)(e:Bool)(b:Nat)(f:Nat)(g:Nat)(h:(List Int)) :aK:=⟨am 97 [(0,.imm c (.ns .u64 a) 1 1 0 (List.length a)),(6,.int .i64 d),(7,.int .u64 r2),(8,.bool false e),(11,.sl 0 1 1 0 b b),(54,.int .i64 ((f:Nat):Int)),(55,.int .i64 ((g:Nat):Int))],[(0,.ns .u64 h)],1⟩
def nX(c:List Int)(b:Int)(r2:Int)(e:Nat)(f:Nat)(a:Nat)(d:List Int) :T (((List Int))⊕(((List Int))⊕(cj))) :=
  .ask (decide (((a:Nat):Int)<((f:Nat):Int)))
    (.need (eX .i64 (((a:Nat):Int)+b))<|.need (fB (((a:Nat):Int)+b) (List.length c))<|.need (fg (Int.toNat (((a:Nat):Int)+b)) (List.length c))<|.need (decide ((0:Int)≤r2))<|.need (fB ((a:Nat):Int) e)<|.need (fg a (List.length d))<|.need (eX .i64 (((a:Nat):Int)+b))<|.need (eX .i64 ((((a:Nat):Int)+b)+(1:Int)))<|.ask (decide (((((a:Nat):Int)+b)+(1:Int))<(((List.length c):Nat):Int)))
      (.need (fB ((a:Nat):Int) e)<|.need (fg a (List.length (List.set d a (Int.fdiv (List.getD c (Int.toNat (((a:Nat):Int)+b)) 0) (2^(min (Int.toNat r2) (IntKind.u64.bits)))))))<|.need (eX .i64 (((a:Nat):Int)+b))<|.need (eX .i64 ((((a:Nat):Int)+b)+(1:Int)))<|.need (fB ((((a:Nat):Int)+b)+(1:Int)) (List.length c))<|.need (fg (Int.toNat ((((a:Nat):Int)+b)+(1:Int))) (List.length c))<|.need (decide ((0:Int)≤(1:Int)))<|.need (decide ((0:Int)≤(IntKind.u64.wrap ((63:Int)-r2))))<|.need (fB ((a:Nat):Int) e)<|.need (fg a (List.length (List.set d a (Int.fdiv (List.getD c (Int.toNat (((a:Nat):Int)+b)) 0) (2^(min (Int.toNat r2) (IntKind.u64.bits)))))))<|.leaf (.inl (List.set (List.set d a (Int.fdiv (List.getD c (Int.toNat (((a:Nat):Int)+b)) 0) (2^(min (Int.toNat r2) (IntKind.u64.bits))))) a (cN .or .u64 (List.getD (List.set d a (Int.fdiv (List.getD c (Int.toNat (((a:Nat):Int)+b)) 0) (2^(min (Int.toNat r2) (IntKind.u64.bits))))) a 0) (IntKind.u64.wrap ((IntKind.u64.wrap ((List.getD c (Int.toNat ((((a:Nat):Int)+b)+(1:Int))) 0)*2^(min (Int.toNat (1:Int)) (IntKind.u64.bits))))*2^(min (Int.toNat (IntKind.u64.wrap ((63:Int)-r2))) (IntKind.u64.bits))))))))
      (.leaf (.inl (List.set d a (Int.fdiv (List.getD c (Int.toNat (((a:Nat):Int)+b)) 0) (2^(min (Int.toNat r2) (IntKind.u64.bits))))))))
    (.leaf (.inr (.inl d)))
def GG(a:Nat)(b:List Int) :T ((Nat×(List Int))⊕(((List Int))⊕(cj))) :=
  .need (eX .i64 (((a+1):Nat):Int))<|.leaf (.inl ((a+1),b))
def rp(b:List Int)(c:Int)(r2:Int)(d:Nat)(e:Nat) :Nat×(List Int)→Option ((Nat×(List Int))⊕(((List Int))⊕(cj))):=fun (a,f) =>
  aS ((nX b c r2 d e a f).run) fun g =>
  (GG a g).run
theorem GH(f:Lv)(b:List Int)(c:Int)(r2:Int)(d:Bool)(a:Nat)(e:Nat)(g:Nat)(h:List Int) :Sg prog [] GE (rl f b c r2 d a e (g,h)) (rp b c r2 a e (g,h)) (rl f b c r2 d a e) (fh 2 (xC d a) o6):=by
  unfold rp;exact Sg.cut 3 (bi fu) (bW d5 (GF f b c r2 d a e g) [⟨[],[0],[0,6,7,8,11,54,55]⟩,⟨[],[0],[0,6,7,8,11,54,55]⟩,⟨[],[0],[8,11]⟩]) (fun i=>bW d5 _ [⟨[],[0],[0,6,7,8,11,54,55]⟩])
def GI(a:Bool) :Nat×Nat×Nat×(List Int)→aK:=fun (b,c,d,e)=>⟨am 97 [(4,.sl 0 1 1 b c d),(5,.bool false a)],[(0,.ns .u64 e)],1⟩
def xD(a:Nat)(b:List Int) :T ((Nat×Nat×Nat×(List Int))⊕(cj)) :=
  .need (dM (aL b 0 a a))<|.leaf (.inl ((dt (aL b 0 a a)),(du (aL b 0 a a)),(dw (aL b 0 a a)),(dz (aL b 0 a a))))
def GJ(a:Bool)(b:Nat)(c:Nat)(d:Nat)(e:List Int) :T ((Empty)⊕(cj)) :=
  .leaf (.inr (.r0 b c d a e))
def i8(a:List Int)(d:Int) :Option cj:=nm (aS ((rh a d).run) fun (b,r2,e,f,g) =>
  aS (d8 (ri a f g) (e,0)) fun h =>
  aS ((rj a b).run) fun (c,i,j) =>
  aS (d8 (rp a b r2 c i) (0,j)) fun k =>
  aS ((xD c k).run) fun (l,m,n,o) =>
  (GJ h l m n o).run)
theorem Jd(b:Lv)(a:List Int)(f:Int){x:cj}(h:i8 a f=some x) :ah prog sH [] [.imm b (.ns .u64 a) 1 1 0 (List.length a),.int .i64 f] (wO x) :=
  oO true wO o6 h (Sg.cut 6 fu (bW d5 (Ja b a) [⟨[(.slot 4,.own 1 1 (.ns .u64 ([]:List Int)))],[288],[4,5]⟩,⟨[],[],[0,6,7,8,36,37,38]⟩]) (fun ⟨c,r2,s,g,i⟩=>Sg.cut 1 fu (KX ⟨[],[],[0,6,7,8,36,37,38]⟩ (uv b a c r2 g i) (Aw b a c r2) 0 fu (Av _) (fun ⟨k,l⟩=>GD b a c r2 g i k l)) (fun d=>Sg.cut 2 fu (bW d5 (Jc b a c r2 d) [⟨[],[64],[0,6,7,8,11,54,55]⟩]) (fun ⟨e,j,t⟩=>Sg.cut 1 fu (KX ⟨[],[0],[0,6,7,8,11,54,55]⟩ (rl b a c r2 d e j) (xC d e) 2 fu (Av _) (fun ⟨m,n⟩=>GH b a c r2 d e j m n)) (fun u=>Sg.cut 1 fu (bW d5 (GI d) [⟨[],[0],[4,5]⟩]) (fun ⟨v,w,y,z⟩=>bW d5 _ [⟨[],[0],[4,5]⟩]))))))
    (fun x=>by cases x with | r0 o p q r A=>exact nn [.sl 0 1 1 o p q,.bool false r])
def pN:Option cj→Bool
  | some _=>true
  | none=>false
def pO:Option cj→Nat
  | some (.r0 x _ _ _ _)=>x
  | _=>0
def pP:Option cj→Nat
  | some (.r0 _ x _ _ _)=>x
  | _=>0
def vw:Option cj→Nat
  | some (.r0 _ _ x _ _)=>x
  | _=>0
def pQ:Option cj→Bool
  | some (.r0 _ _ _ x _)=>x
  | _=>false
def pR:Option cj→List Int
  | some (.r0 _ _ _ _ x)=>x
  | _=>[]
theorem Je{x:Option cj}(h:pN x=true) :x=some (.r0 (pO x) (pP x) (vw x) (pQ x) (pR x)):=by
  unfold pN at h
  split at h<;>first | rfl | (cases h;done) | (rename_i y;cases y;rfl)
def C5:aM:=cR sH (.cons (.ns .u64) (.cons (.int .i64) .nil)) fun t=>(fun q=>[⟨wO (.r0 (pO q) (pP q) (vw q) (pQ q) (pR q)),[pN q]⟩]) (i8 t.1.2 t.2.1)
theorem Ec:aX prog C5:=a9 fun t=>(ba (fun h=>Jd t.1.1 t.1.2 t.2.1 (Je h)) bu)
def C6:List aM:=C5::C4
theorem jr:bh prog (bk C6):=ay Ec d5
inductive dB where
  | r0 (a:List Int) (b:Nat) (c:Nat) (d:Bool) (e:Nat)
def C7:dB→AE×aK
  | .r0 a b c d e=>(.ret,⟨am 23 [(4,.imm .free (.ns .u64 a) 1 1 b c),(5,.bool false d),(6,.int .i64 ((e:Nat):Int))],[],0⟩)
theorem uw:k9 C7:=by intro x;cases x<;>(intro h;cases h)
def wP:dB→gS
  | .r0 a b c d e=>⟨.tup [.imm .free (.ns .u64 a) 1 1 b c,.bool false d,.int .i64 ((e:Nat):Int)],[]⟩
def Jf(a:Lv)(b:Int) :Nat×(List Int)×Nat→aK:=fun (c,d,e)=>⟨am 23 [(1,.int .i64 b),(2,.ptr 0 1 0 0),(6,.int .i64 ((c:Nat):Int))],[(0,.vs [.imm a (.ns .u64 d) 1 1 0 e])],1⟩
def Ax(a:List Int) :T ((Nat×(List Int)×Nat)⊕(dB)) :=
  .ask (decide ((0:Int)<(1:Int)))
    (.need (fB (0:Int) 1)<|.need (bg 0 (List.length a) a)<|.need (bE (ai (aa 0 (List.length a) a)))<|.ask (decide ((((ap (ai (aa 0 (List.length a) a))):Nat):Int)>(4096:Int)))
      (.leaf (.inl (2,(aI (ai (aa 0 (List.length a) a))),(ap (ai (aa 0 (List.length a) a))))))
      (.need (eX .i64 (1:Int))<|.ask (decide ((1:Int)<(1:Int)))
        (.fail)
        (.leaf (.inl (0,(aI (ai (aa 0 (List.length a) a))),(ap (ai (aa 0 (List.length a) a))))))))
    (.fail)
def Jg(a:Lv)(b:Int)(c:List Int)(d:Nat)(e:Bool) :aK:=⟨am 23 [(1,.int .i64 b),(2,.ptr 0 1 0 0),(14,.bool false e)],[(0,.vs [.imm a (.ns .u64 c) 1 1 0 d])],1⟩
def Jh(a:Int)(b:Nat) :T ((Bool)⊕(dB)) :=
  .ask (((b:Nat):Int) != (0:Int))
    (.leaf (.inl true))
    (.leaf (.inl (decide (a<(0:Int)))))
def Ji:(List Int)×Nat×Nat×Bool→aK:=fun (a,b,c,d)=>⟨am 23 [(4,.imm .free (.ns .u64 a) 1 1 b c),(5,.bool false d)],[],0⟩
def ux(c:Int)(a:List Int)(b:Nat)(d:Bool) :T (((List Int)×Nat×Nat×Bool)⊕(dB)) :=
  .ask d
    (.leaf (.inr (.r0 ([]:List Int) 0 0 false 2)))
    (.need (bg 0 b a)<|.need (pN (i8 (aa 0 b a) c))<|.leaf (.inl ((pR (i8 (aa 0 b a) c)),(pO (i8 (aa 0 b a) c)),(pP (i8 (aa 0 b a) c)),(pQ (i8 (aa 0 b a) c)))))
def Jj(a:List Int)(b:Nat)(c:Nat)(d:Bool) :T ((Empty)⊕(dB)) :=
  .leaf (.inr (.r0 a b c d 0))
def fb(b:List Int)(a:Int) :Option dB:=nm (aS ((Ax b).run) fun (c,d,e) =>
  aS ((Jh a c).run) fun f =>
  aS ((ux a d e f).run) fun (g,h,i,j) =>
  (Jj g h i j).run)
theorem Jk(b:Lv)(c:List Int)(a:Int){x:dB}(h:fb c a=some x) :ah prog wy [] [.imm b (.ns .u64 c) 1 1 0 (List.length c),.int .i64 a] (wP x) :=
  oO true wP C7 h (Sg.cut 2 uw (bW jr (Jf b a) [⟨[],[0],[1,2,6]⟩,⟨[],[0],[1,2,6]⟩]) (fun ⟨l,d,e⟩=>Sg.cut 1 uw (bW jr (Jg b a d e) [⟨[],[0],[1,2,14]⟩,⟨[],[0],[1,2,14]⟩]) (fun m=>Sg.cut 2 uw (bW jr Ji [⟨[(.slot 4,.fre 1 1 (.ns .u64 ([]:List Int)))],[],[4,5,6]⟩,⟨[],[],[4,5]⟩]) (fun ⟨n,o,p,q⟩=>bW jr _ [⟨[],[],[4,5,6]⟩]))))
    (fun x=>by cases x with | r0 f g i j k=>exact nn [.imm .free (.ns .u64 f) 1 1 g i,.bool false j,.int .i64 ((k:Nat):Int)])
def mY:Option dB→Bool
  | some _=>true
  | none=>false
def mi:Option dB→List Int
  | some (.r0 x _ _ _ _)=>x
  | _=>[]
def mj:Option dB→Nat
  | some (.r0 _ x _ _ _)=>x
  | _=>0
def ml:Option dB→Nat
  | some (.r0 _ _ x _ _)=>x
  | _=>0
def vx:Option dB→Bool
  | some (.r0 _ _ _ x _)=>x
  | _=>false
def vy:Option dB→Nat
  | some (.r0 _ _ _ _ x)=>x
  | _=>0
theorem Jl{x:Option dB}(h:mY x=true) :x=some (.r0 (mi x) (mj x) (ml x) (vx x) (vy x)):=by
  unfold mY at h
  split at h<;>first | rfl | (cases h;done) | (rename_i y;cases y;rfl)
def C8:aM:=cR wy (.cons (.ns .u64) (.cons (.int .i64) .nil)) fun t=>(fun q=>[⟨wP (.r0 (mi q) (mj q) (ml q) (vx q) (vy q)),[mY q]⟩]) (fb t.1.2 t.2.1)
theorem Ed:aX prog C8:=a9 fun t=>(ba (fun h=>Jk t.1.1 t.1.2 t.2.1 (Jl h)) bu)
def C9:List aM:=C8::C6
theorem fv:bh prog (bk C9):=ay Ed jr
inductive ct where
  | r0 (a:Int) (b:Nat)
def nY:ct→AE×aK
  | .r0 a b=>(.ret,⟨am 31 [(2,.int .i64 a),(3,.int .i64 ((b:Nat):Int))],[],0⟩)
theorem g5:k9 nY:=by intro x;cases x<;>(intro h;cases h)
theorem Ee(id:Nat) :py id nY:=by intro x;cases x<;>(intro h;cases h)
def rq:ct→gS
  | .r0 a b=>⟨.tup [.int .i64 a,.int .i64 ((b:Nat):Int)],[]⟩
def Ef:List Code:=eH (qs nK)
def Eg(a:Lv) :Nat×(List Int)×Nat→aK:=fun (b,c,d)=>⟨am 31 [(1,.ptr 0 1 0 0),(4,.int .i64 ((b:Nat):Int))],[(0,.vs [.imm a (.ns .u64 c) 1 1 0 d])],1⟩
def tx(a:List Int) :T ((Nat×(List Int)×Nat)⊕(ct)) :=
  .ask (decide ((0:Int)<(1:Int)))
    (.need (fB (0:Int) 1)<|.need (bg 0 (List.length a) a)<|.need (bE (ai (aa 0 (List.length a) a)))<|.ask (decide ((((ap (ai (aa 0 (List.length a) a))):Nat):Int)>(4096:Int)))
      (.leaf (.inl (2,(aI (ai (aa 0 (List.length a) a))),(ap (ai (aa 0 (List.length a) a))))))
      (.need (eX .i64 (1:Int))<|.ask (decide ((1:Int)<(1:Int)))
        (.fail)
        (.leaf (.inl (0,(aI (ai (aa 0 (List.length a) a))),(ap (ai (aa 0 (List.length a) a))))))))
    (.fail)
def Eh(a:Lv)(b:Nat)(c:List Int)(d:Nat)(e:Bool) :aK:=⟨am 31 [(1,.ptr 0 1 0 0),(4,.int .i64 ((b:Nat):Int)),(14,.bool false e)],[(0,.vs [.imm a (.ns .u64 c) 1 1 0 d])],1⟩
def BC(a:Nat)(b:Nat) :T ((Bool)⊕(ct)) :=
  .ask (((a:Nat):Int) != (0:Int))
    (.leaf (.inl true))
    (.leaf (.inl (((b:Nat):Int)==(0:Int))))
def Ei(a:Lv)(b:List Int)(c:Nat)(_:Unit) :aK:=⟨am 31 [(1,.ptr 0 1 0 0),(5,.int .i64 (0:Int))],[(0,.vs [.imm a (.ns .u64 b) 1 1 0 c])],1⟩
def BD(a:Nat)(b:Bool) :T ((Unit)⊕(ct)) :=
  .ask b
    (.leaf (.inr (.r0 (0:Int) a)))
    (.leaf (.inl ()))
def pS(a:Lv)(b:List Int)(c:Nat)(d:Nat) :aK:=⟨am 31 [(1,.ptr 0 1 0 0),(5,.int .i64 ((d:Nat):Int))],[(0,.vs [.imm a (.ns .u64 b) 1 1 0 c])],1⟩
def vz(a:Lv)(b:List Int)(c:Nat)(d:Nat) :aK:=⟨am 31 [(1,.ptr 0 1 0 0),(5,.int .i64 ((d:Nat):Int))],[(0,.vs [.imm a (.ns .u64 b) 1 1 0 c])],1⟩
def BE:List Code:=eH (iX ((((((Ef.drop 2).drop 1).drop 2).take 1)).headD .skip))
def iw(b:List Int)(c:Nat)(a:Nat) :T ((Nat)⊕((Nat)⊕(ct))) :=
  .need (fB ((a:Nat):Int) c)<|.need (fg a (List.length b))<|.ask ((List.getD b a 0)==(0:Int))
    (.need (eX .i64 (((a+1):Nat):Int))<|.leaf (.inl (a+1)))
    (.leaf (.inr (.inl a)))
def oq(a:List Int)(b:Nat) :Nat→Option ((Nat)⊕((Nat)⊕(ct))):=fun c =>
  (iw a b c).run
theorem BF(c:Lv)(a:List Int)(b:Nat)(d:Nat) :Sg prog [] BE (pS c a b d) (oq a b d) (pS c a b) (fh 0 (vz c a b) nY):=by
  unfold oq;exact bW fv _ [⟨[],[0],[1,5]⟩,⟨[],[0],[1,5]⟩]
def Ej(a:Int) :aK:=⟨am 31 [(2,.int .i64 a),(3,.int .i64 (0:Int))],[],0⟩
def tA(b:List Int)(c:Nat)(a:Nat) :T ((Int)⊕(ct)) :=
  .need (eX .i64 (((64*a):Nat):Int))<|.need (fB ((a:Nat):Int) c)<|.need (fg a (List.length b))<|.need (bZ (bN (List.getD b a 0)))<|.need (eX .i64 ((((64*a):Nat):Int)+(bT (bN (List.getD b a 0)))))<|.leaf (.inl ((((64*a):Nat):Int)+(bT (bN (List.getD b a 0)))))
def BG(a:Int) :T ((Empty)⊕(ct)) :=
  .leaf (.inr (.r0 a 0))
def gp(d:List Int) :Option ct:=nm (aS ((tx d).run) fun (b,c,a) =>
  aS ((BC b a).run) fun e =>
  aS ((BD b e).run) fun _ =>
  aS (d8 (oq c a) 0) fun f =>
  aS ((tA c a f).run) fun g =>
  (BG g).run)
theorem Ek(a:Lv)(d:List Int){x:ct}(h:gp d=some x) :ah prog nK [] [.imm a (.ns .u64 d) 1 1 0 (List.length d)] (rq x) :=
  oO true rq nY h (Sg.cut 2 g5 (bW fv (Eg a) [⟨[],[0],[1,4]⟩,⟨[],[0],[1,4]⟩]) (fun ⟨e,b,c⟩=>Sg.cut 1 g5 (bW fv (Eh a e b c) [⟨[],[0],[1,4,14]⟩,⟨[],[0],[1,4,14]⟩]) (fun j=>Sg.cut 2 g5 (bW fv (Ei a b c) [⟨[],[],[2,3]⟩,⟨[],[0],[1,5]⟩]) (fun _=>Sg.cut 1 g5 (KX ⟨[],[0],[1,5]⟩ (pS a b c) (vz a b c) 0 g5 (Ee _) (fun f=>BF a b c f)) (fun k=>Sg.cut 1 g5 (bW fv Ej [⟨[],[],[2,3]⟩]) (fun l=>bW fv _ [⟨[],[],[2,3]⟩]))))))
    (fun x=>by cases x with | r0 g i=>exact nn [.int .i64 g,.int .i64 ((i:Nat):Int)])
def js:Option ct→Bool
  | some _=>true
  | none=>false
def jt:Option ct→Int
  | some (.r0 x _)=>x
  | _=>0
def rr:Option ct→Nat
  | some (.r0 _ x)=>x
  | _=>0
theorem El{x:Option ct}(h:js x=true) :x=some (.r0 (jt x) (rr x)):=by
  unfold js at h
  split at h<;>first | rfl | (cases h;done) | (rename_i y;cases y;rfl)
def xE:aM:=cR nK (.cons (.ns .u64) .nil) fun t=>(fun q=>[⟨rq (.r0 (jt q) (rr q)),[js q]⟩]) (gp t.1.2)
theorem Ay:aX prog xE:=a9 fun t=>(ba (fun h=>Ek t.1.1 t.1.2 (El h)) bu)
def xF:List aM:=xE::C9
theorem gq:bh prog (bk xF):=ay Ay fv
inductive cu where
  | r0 (a:Bool) (b:List Int) (c:Nat) (d:Nat) (e:Int)
def xG:cu→AE×aK
  | .r0 a b c d e=>(.ret,⟨am 37 [(2,.ptr 0 1 0 0)],[(0,.vs [.bool false a,.imm .free (.ns .u64 b) 1 1 c d,.int .i64 e])],1⟩)
theorem pT:k9 xG:=by intro x;cases x<;>(intro h;cases h)
def rt:cu→gS
  | .r0 a b c d e=>⟨.agg [.bool false a,.imm .free (.ns .u64 b) 1 1 c d,.int .i64 e],[]⟩
def Em(b:Bool)(c:Lv)(a:List Int)(d:Int) :(List Int)×Nat×Bool→aK:=fun (e,f,g)=>⟨am 37 [(1,.ptr 0 1 0 0),(2,.ptr 1 1 0 0),(3,.imm .free (.ns .u64 e) 1 1 0 f)],[(0,.vs [.bool false b,.imm c (.ns .u64 a) 1 1 0 (List.length a),.int .i64 d]),(1,.vs [.bool false g,.nsl,.int .i64 (0:Int)])],2⟩
def pU(a:List Int) :T (((List Int)×Nat×Bool)⊕(cu)) :=
  .need (bg 0 (List.length a) a)<|.need (gn (dr (aa 0 (List.length a) a)))<|.leaf (.inl ((ky (dr (aa 0 (List.length a) a))),(kw (dr (aa 0 (List.length a) a))),false))
def En(b:Bool)(c:Lv)(a:List Int)(d:Int)(e:List Int)(f:Nat)(g:Bool)(h:Int) :aK:=⟨am 37 [(1,.ptr 0 1 0 0),(2,.ptr 1 1 0 0),(3,.imm .free (.ns .u64 e) 1 1 0 f),(5,.int .i64 h)],[(0,.vs [.bool false b,.imm c (.ns .u64 a) 1 1 0 (List.length a),.int .i64 d]),(1,.vs [.bool false g,.nsl,.int .i64 (0:Int)])],2⟩
def pV(b:List Int)(a:Nat) :T ((Int)⊕(cu)) :=
  .ask (((a:Nat):Int)==(0:Int))
    (.leaf (.inr (.r0 false ([]:List Int) 0 0 (0:Int))))
    (.need (bg 0 a b)<|.need (js (gp (aa 0 a b)))<|.leaf (.inl (jt (gp (aa 0 a b)))))
def Eo(b:Bool)(c:Lv)(a:List Int)(d:Int)(e:Bool)(f:Int) :(List Int)×Nat×Nat→aK:=fun (g,h,i)=>⟨am 37 [(1,.ptr 0 1 0 0),(2,.ptr 1 1 0 0),(3,.imm .free (.ns .u64 g) 1 1 h i),(5,.int .i64 f)],[(0,.vs [.bool false b,.imm c (.ns .u64 a) 1 1 0 (List.length a),.int .i64 d]),(1,.vs [.bool false e,.nsl,.int .i64 (0:Int)])],2⟩
def pW(a:List Int)(b:Nat)(c:Int) :T (((List Int)×Nat×Nat)⊕(cu)) :=
  .need (bg 0 b a)<|.need (mY (fb (aa 0 b a) c))<|.leaf (.inl ((mi (fb (aa 0 b a) c)),(mj (fb (aa 0 b a) c)),(ml (fb (aa 0 b a) c))))
def Ep(c:Bool)(a:Int)(b:Int)(d:List Int)(e:Nat)(f:Nat) :T ((Empty)⊕(cu)) :=
  .need (eX .i64 (a+b))<|.leaf (.inr (.r0 c d e f (a+b)))
def ao(d:Bool)(e:List Int)(f:Int) :Option cu:=nm (aS ((pU e).run) fun (a,b,j) =>
  aS ((pV a b).run) fun c =>
  aS ((pW a b c).run) fun (g,h,i) =>
  (Ep d f c g h i).run)
theorem Eq(b:Bool)(d:Lv)(a:List Int)(c:Int){x:cu}(h:ao b a c=some x) :ah prog kX [] [.agg [.bool false b,.imm d (.ns .u64 a) 1 1 0 (List.length a),.int .i64 c]] (rt x) :=
  oO true rt xG h (Sg.cut 2 pT (bW gq (Em b d a c) [⟨[],[0,16],[1,2,3]⟩]) (fun ⟨f,g,e⟩=>Sg.cut 3 pT (bW gq (En b d a c f g e) [⟨[(.cell 1 1,.fre 1 1 (.ns .u64 ([]:List Int)))],[1],[2]⟩,⟨[],[0,1],[1,2,3,5]⟩]) (fun i=>Sg.cut 1 pT (bW gq (Eo b d a c e i) [⟨[],[0,1],[1,2,3,5]⟩]) (fun ⟨o,p,q⟩=>bW gq _ [⟨[],[1],[2]⟩]))))
    (fun x=>by cases x with | r0 j k l m n=>exact nn [.agg [.bool false j,.imm .free (.ns .u64 k) 1 1 l m,.int .i64 n]])
def dG:Option cu→Bool
  | some _=>true
  | none=>false
def cw:Option cu→Bool
  | some (.r0 x _ _ _ _)=>x
  | _=>false
def cx:Option cu→List Int
  | some (.r0 _ x _ _ _)=>x
  | _=>[]
def cy:Option cu→Nat
  | some (.r0 _ _ x _ _)=>x
  | _=>0
def cz:Option cu→Nat
  | some (.r0 _ _ _ x _)=>x
  | _=>0
def cA:Option cu→Int
  | some (.r0 _ _ _ _ x)=>x
  | _=>0
theorem Er{x:Option cu}(h:dG x=true) :x=some (.r0 (cw x) (cx x) (cy x) (cz x) (cA x)):=by
  unfold dG at h
  split at h<;>first | rfl | (cases h;done) | (rename_i y;cases y;rfl)
def xH:aM:=cR kX (.cons (.agg (.cons .bool (.cons (.ns .u64) (.cons (.int .i64) .nil)))) .nil) fun t=>(fun q=>[⟨rt (.r0 (cw q) (cx q) (cy q) (cz q) (cA q)),[dG q]⟩]) (ao t.1.1 t.1.2.1.2 t.1.2.2.1)
theorem Az:aX prog xH:=a9 fun t=>(ba (fun h=>Eq t.1.1 t.1.2.1.1 t.1.2.1.2 t.1.2.2.1 (Er h)) bu)
def xI:List aM:=xH::xF
theorem ju:bh prog (bk xI):=ay Az gq
inductive eT where
  | r0 (a:Bool)
def AA:eT→AE×aK
  | .r0 a=>(.ret,⟨am 18 [(2,.bool false a)],[],0⟩)
theorem xJ:k9 AA:=by intro x;cases x<;>(intro h;cases h)
def uy:eT→gS
  | .r0 a=>⟨.bool false a,[]⟩
def GM(b:Bool)(c:Lv)(a:List Int)(d:Int)(e:Nat) :aK:=⟨am 18 [(1,.ptr 0 1 0 0),(4,.int .i64 ((e:Nat):Int))],[(0,.vs [.bool false b,.imm c (.ns .u64 a) 1 1 0 (List.length a),.int .i64 d])],1⟩
def xK(a:List Int) :T ((Nat)⊕(eT)) :=
  .need (bg 0 (List.length a) a)<|.need (gn (dr (aa 0 (List.length a) a)))<|.leaf (.inl (kx (dr (aa 0 (List.length a) a))))
def GN(a:Bool) :aK:=⟨am 18 [(2,.bool false a)],[],0⟩
def GO(a:Int)(b:Nat) :T ((Bool)⊕(eT)) :=
  .ask (((b:Nat):Int)==(0:Int))
    (.ask (decide (a≥(-262144:Int)))
      (.leaf (.inl (decide (a≤(262144:Int)))))
      (.leaf (.inl false)))
    (.leaf (.inl false))
def GQ(a:Bool) :T ((Empty)⊕(eT)) :=
  .leaf (.inr (.r0 a))
def cO(a:List Int)(b:Int) :Option eT:=nm (aS ((xK a).run) fun c =>
  aS ((GO b c).run) fun d =>
  (GQ d).run)
theorem GR(c:Bool)(d:Lv)(a:List Int)(b:Int){x:eT}(h:cO a b=some x) :ah prog mM [] [.agg [.bool false c,.imm d (.ns .u64 a) 1 1 0 (List.length a),.int .i64 b]] (uy x) :=
  oO true uy AA h (Sg.cut 2 xJ (bW ju (GM c d a b) [⟨[],[0],[1,4]⟩]) (fun f=>Sg.cut 1 xJ (bW ju GN [⟨[],[],[2]⟩,⟨[],[],[2]⟩,⟨[],[],[2]⟩]) (fun g=>bW ju _ [⟨[],[],[2]⟩])))
    (fun x=>by cases x with | r0 e=>exact nn [.bool false e])
def eQ:Option eT→Bool
  | some _=>true
  | none=>false
def eh:Option eT→Bool
  | some (.r0 x)=>x
  | _=>false
theorem GS{x:Option eT}(h:eQ x=true) :x=some (.r0 (eh x)):=by
  unfold eQ at h
  split at h<;>first | rfl | (cases h;done) | (rename_i y;cases y;rfl)
def AB:aM:=cR mM (.cons (.agg (.cons .bool (.cons (.ns .u64) (.cons (.int .i64) .nil)))) .nil) fun t=>(fun q=>[⟨uy (.r0 (eh q)),[eQ q]⟩]) (cO t.1.2.1.2 t.1.2.2.1)
theorem BH:aX prog AB:=a9 fun t=>(ba (fun h=>GR t.1.1 t.1.2.1.1 t.1.2.1.2 t.1.2.2.1 (GS h)) bu)
def AC:List aM:=AB::xI
theorem kA:bh prog (bk AC):=ay BH ju
inductive bY where
  | r0 (a:Nat) (b:Int) (c:List Int) (d:Nat) (e:List Int) (f:Nat)
def vA:bY→AE×aK
  | .r0 a b c d e f=>(.ret,⟨am 57 [(4,.ptr 0 1 0 0),(5,.int .i64 ((a:Nat):Int))],[(0,.vs [.int .i64 b,.imm .free (.ns .u64 c) 1 1 0 d,.imm .free (.ns .u64 e) 1 1 0 f])],1⟩)
theorem tB:k9 vA:=by intro x;cases x<;>(intro h;cases h)
def pX:bY→gS
  | .r0 a b c d e f=>⟨.tup [.agg [.int .i64 b,.imm .free (.ns .u64 c) 1 1 0 d,.imm .free (.ns .u64 e) 1 1 0 f],.int .i64 ((a:Nat):Int)],[]⟩
def BI(c:Bool)(d:Lv)(a:List Int)(e:Int)(f:Bool)(g:Lv)(b:List Int)(h:Int)(i:Int) :aK:=⟨am 57 [(2,.ptr 0 1 0 0),(3,.ptr 1 1 0 0),(4,.ptr 2 1 0 0),(6,.ptr 3 1 0 0)],[(0,.vs [.bool false c,.imm d (.ns .u64 a) 1 1 0 (List.length a),.int .i64 e]),(1,.vs [.bool false f,.imm g (.ns .u64 b) 1 1 0 (List.length b),.int .i64 h]),(2,.vs [.int .i64 (0:Int),.nsl,.nsl]),(3,.vs [.int .i64 i,.nsl,.nsl])],4⟩
def iy(c:List Int)(a:Int)(d:List Int)(b:Int) :T ((Int)⊕(bY)) :=
  .ask ((((List.length c):Nat):Int)==(0:Int))
    (.leaf (.inl b))
    (.ask ((((List.length d):Nat):Int)==(0:Int))
      (.leaf (.inl a))
      (.need (eX .i64 ((mC a b)-(np a b)))<|.ask (decide (((mC a b)-(np a b))>(262144:Int)))
        (.leaf (.inr (.r0 3 (0:Int) ([]:List Int) 0 ([]:List Int) 0)))
        (.leaf (.inl (np a b)))))
def BJ(a:Int) :(List Int)×Nat×(List Int)×Nat→aK:=fun (b,c,d,e)=>⟨am 57 [(4,.ptr 0 1 0 0),(6,.ptr 1 1 0 0)],[(0,.vs [.int .i64 (0:Int),.nsl,.nsl]),(1,.vs [.int .i64 a,.imm .free (.ns .u64 b) 1 1 0 c,.imm .free (.ns .u64 d) 1 1 0 e])],2⟩
def ei(c:List Int)(e:Int)(a:List Int)(d:Int)(b:Int) :T (((List Int)×Nat×(List Int)×Nat)⊕(bY)) :=
  .ask ((((List.length c):Nat):Int)==(0:Int))
    (.ask ((((List.length a):Nat):Int)==(0:Int))
      (.leaf (.inl (([]:List Int),0,([]:List Int),0)))
      (.need (eX .i64 (d-b))<|.need (bg 0 (List.length a) a)<|.need (ke (dA (aa 0 (List.length a) a) (d-b)))<|.leaf (.inl (([]:List Int),0,(g3 (dA (aa 0 (List.length a) a) (d-b))),(g4 (dA (aa 0 (List.length a) a) (d-b)))))))
    (.need (eX .i64 (e-b))<|.need (bg 0 (List.length c) c)<|.need (ke (dA (aa 0 (List.length c) c) (e-b)))<|.ask ((((List.length a):Nat):Int)==(0:Int))
      (.leaf (.inl ((g3 (dA (aa 0 (List.length c) c) (e-b))),(g4 (dA (aa 0 (List.length c) c) (e-b))),([]:List Int),0)))
      (.need (eX .i64 (d-b))<|.need (bg 0 (List.length a) a)<|.need (ke (dA (aa 0 (List.length a) a) (d-b)))<|.leaf (.inl ((g3 (dA (aa 0 (List.length c) c) (e-b))),(g4 (dA (aa 0 (List.length c) c) (e-b))),(g3 (dA (aa 0 (List.length a) a) (d-b))),(g4 (dA (aa 0 (List.length a) a) (d-b)))))))
def BL(a:Int)(b:List Int)(c:Nat)(d:List Int)(e:Nat) :T ((Empty)⊕(bY)) :=
  .leaf (.inr (.r0 0 a b c d e))
def bJ(a:List Int)(b:Int)(c:List Int)(d:Int) :Option bY:=nm (aS ((iy a b c d).run) fun e =>
  aS ((ei a b c d e).run) fun (f,g,h,i) =>
  (BL e f g h i).run)
theorem BM(e:Bool)(f:Lv)(a:List Int)(c:Int)(g:Bool)(i:Lv)(b:List Int)(d:Int){x:bY}(h:bJ a c b d=some x) :ah prog pw [] [.agg [.bool false e,.imm f (.ns .u64 a) 1 1 0 (List.length a),.int .i64 c],.agg [.bool false g,.imm i (.ns .u64 b) 1 1 0 (List.length b),.int .i64 d]] (pX x) :=
  oO true pX vA h (Sg.cut 3 tB (bW kA (BI e f a c g i b d) [⟨[],[0,16,32,176],[2,3,4,6]⟩,⟨[],[0,16,32,176],[2,3,4,6]⟩,⟨[(.cell 32 1,.fre 1 1 (.ns .u64 ([]:List Int))),(.cell 32 2,.fre 1 1 (.ns .u64 ([]:List Int)))],[32],[4,5]⟩,⟨[],[0,16,32,176],[2,3,4,6]⟩]) (fun j=>Sg.cut 2 tB (bW kA (BJ j) [⟨[(.cell 3 1,.fre 1 1 (.ns .u64 ([]:List Int))),(.cell 3 2,.fre 1 1 (.ns .u64 ([]:List Int)))],[2,3],[4,6]⟩,⟨[(.cell 3 1,.fre 1 1 (.ns .u64 ([]:List Int)))],[2,3],[4,6]⟩,⟨[(.cell 3 2,.fre 1 1 (.ns .u64 ([]:List Int)))],[2,3],[4,6]⟩,⟨[],[2,3],[4,6]⟩]) (fun ⟨q,r,s,t⟩=>bW kA _ [⟨[],[0],[4,5]⟩])))
    (fun x=>by cases x with | r0 k l m n o p=>exact nn [.agg [.int .i64 l,.imm .free (.ns .u64 m) 1 1 0 n,.imm .free (.ns .u64 o) 1 1 0 p],.int .i64 ((k:Nat):Int)])
def iz:Option bY→Bool
  | some _=>true
  | none=>false
def iG:Option bY→Nat
  | some (.r0 x _ _ _ _ _)=>x
  | _=>0
def iH:Option bY→Int
  | some (.r0 _ x _ _ _ _)=>x
  | _=>0
def iI:Option bY→List Int
  | some (.r0 _ _ x _ _ _)=>x
  | _=>[]
def iJ:Option bY→Nat
  | some (.r0 _ _ _ x _ _)=>x
  | _=>0
def iK:Option bY→List Int
  | some (.r0 _ _ _ _ x _)=>x
  | _=>[]
def iL:Option bY→Nat
  | some (.r0 _ _ _ _ _ x)=>x
  | _=>0
theorem BN{x:Option bY}(h:iz x=true) :x=some (.r0 (iG x) (iH x) (iI x) (iJ x) (iK x) (iL x)):=by
  unfold iz at h
  split at h<;>first | rfl | (cases h;done) | (rename_i y;cases y;rfl)
def vB:aM:=cR pw (.cons (.agg (.cons .bool (.cons (.ns .u64) (.cons (.int .i64) .nil)))) (.cons (.agg (.cons .bool (.cons (.ns .u64) (.cons (.int .i64) .nil)))) .nil)) fun t=>(fun q=>[⟨pX (.r0 (iG q) (iH q) (iI q) (iJ q) (iK q) (iL q)),[iz q]⟩]) (bJ t.1.2.1.2 t.1.2.2.1 t.2.1.2.1.2 t.2.1.2.2.1)
theorem yd:aX prog vB:=a9 fun t=>(ba (fun h=>BM t.1.1 t.1.2.1.1 t.1.2.1.2 t.1.2.2.1 t.2.1.1 t.2.1.2.1.1 t.2.1.2.1.2 t.2.1.2.2.1 (BN h)) bu)
def vC:List aM:=vB::AC
theorem iM:bh prog (bk vC):=ay yd kA
inductive cB where
  | r0 (a:Nat) (b:Bool) (c:List Int) (d:Nat) (e:Nat) (f:Int)
def xL:cB→AE×aK
  | .r0 a b c d e f=>(.ret,⟨am 11 [(2,.ptr 0 1 0 0),(3,.int .i64 ((a:Nat):Int))],[(0,.vs [.bool false b,.imm .free (.ns .u64 c) 1 1 d e,.int .i64 f])],1⟩)
theorem vD:k9 xL:=by intro x;cases x<;>(intro h;cases h)
def ru:cB→gS
  | .r0 a b c d e f=>⟨.tup [.agg [.bool false b,.imm .free (.ns .u64 c) 1 1 d e,.int .i64 f],.int .i64 ((a:Nat):Int)],[]⟩
def Es:Bool×(List Int)×Nat×Nat×Int×Bool→aK:=fun (a,b,c,d,e,f)=>⟨am 11 [(1,.ptr 0 1 0 0),(2,.ptr 1 1 0 0)],[(0,.vs [.bool false a,.imm .free (.ns .u64 b) 1 1 c d,.int .i64 e]),(1,.vs [.bool false f,.nsl,.int .i64 (0:Int)])],2⟩
def vE(b:Bool)(a:List Int)(c:Int) :T ((Bool×(List Int)×Nat×Nat×Int×Bool)⊕(cB)) :=
  .need (bg 0 (List.length a) a)<|.need (dG (ao b (aa 0 (List.length a) a) c))<|.leaf (.inl ((cw (ao b (aa 0 (List.length a) a) c)),(cx (ao b (aa 0 (List.length a) a) c)),(cy (ao b (aa 0 (List.length a) a) c)),(cz (ao b (aa 0 (List.length a) a) c)),(cA (ao b (aa 0 (List.length a) a) c)),false))
def Et(a:Bool)(b:List Int)(c:Nat)(d:Nat)(e:Int)(f:Bool)(g:Bool) :aK:=⟨am 11 [(1,.ptr 0 1 0 0),(2,.ptr 1 1 0 0),(8,.bool false g)],[(0,.vs [.bool false a,.imm .free (.ns .u64 b) 1 1 c d,.int .i64 e]),(1,.vs [.bool false f,.nsl,.int .i64 (0:Int)])],2⟩
def pY(a:List Int)(b:Nat)(c:Nat)(d:Int) :T ((Bool)⊕(cB)) :=
  .need (bg b c a)<|.need (eQ (cO (aa b c a) d))<|.leaf (.inl (!(eh (cO (aa b c a) d))))
def Eu(a:Bool)(b:List Int)(c:Nat)(d:Nat)(e:Int)(f:Bool) :T ((Empty)⊕(cB)) :=
  .ask f
    (.leaf (.inr (.r0 3 false ([]:List Int) 0 0 (0:Int))))
    (.leaf (.inr (.r0 0 a b c d e)))
def bo(e:Bool)(f:List Int)(g:Int) :Option cB:=nm (aS ((vE e f g).run) fun (h,a,b,c,d,j) =>
  aS ((pY a b c d).run) fun i =>
  (Eu h a b c d i).run)
theorem Ev(b:Bool)(d:Lv)(a:List Int)(c:Int){x:cB}(h:bo b a c=some x) :ah prog qO [] [.agg [.bool false b,.imm d (.ns .u64 a) 1 1 0 (List.length a),.int .i64 c]] (ru x) :=
  oO true ru xL h (Sg.cut 2 vD (bW iM Es [⟨[],[0,16],[1,2]⟩]) (fun ⟨e,f,g,i,j,k⟩=>Sg.cut 1 vD (bW iM (Et e f g i j k) [⟨[],[0,1],[1,2,8]⟩]) (fun r=>bW iM _ [⟨[(.cell 1 1,.fre 1 1 (.ns .u64 ([]:List Int)))],[1],[2,3]⟩,⟨[],[1],[2,3]⟩])))
    (fun x=>by cases x with | r0 l m n o p q=>exact nn [.agg [.bool false m,.imm .free (.ns .u64 n) 1 1 o p,.int .i64 q],.int .i64 ((l:Nat):Int)])
def g6:Option cB→Bool
  | some _=>true
  | none=>false
def gr:Option cB→Nat
  | some (.r0 x _ _ _ _ _)=>x
  | _=>0
def gu:Option cB→Bool
  | some (.r0 _ x _ _ _ _)=>x
  | _=>false
def gv:Option cB→List Int
  | some (.r0 _ _ x _ _ _)=>x
  | _=>[]
def gw:Option cB→Nat
  | some (.r0 _ _ _ x _ _)=>x
  | _=>0
def gz:Option cB→Nat
  | some (.r0 _ _ _ _ x _)=>x
  | _=>0
def gA:Option cB→Int
  | some (.r0 _ _ _ _ _ x)=>x
  | _=>0
theorem Ew{x:Option cB}(h:g6 x=true) :x=some (.r0 (gr x) (gu x) (gv x) (gw x) (gz x) (gA x)):=by
  unfold g6 at h
  split at h<;>first | rfl | (cases h;done) | (rename_i y;cases y;rfl)
def xM:aM:=cR qO (.cons (.agg (.cons .bool (.cons (.ns .u64) (.cons (.int .i64) .nil)))) .nil) fun t=>(fun q=>[⟨ru (.r0 (gr q) (gu q) (gv q) (gw q) (gz q) (gA q)),[g6 q]⟩]) (bo t.1.1 t.1.2.1.2 t.1.2.2.1)
theorem AD:aX prog xM:=a9 fun t=>(ba (fun h=>Ev t.1.1 t.1.2.1.1 t.1.2.1.2 t.1.2.2.1 (Ew h)) bu)
def xN:List aM:=xM::vC
theorem mZ:bh prog (bk xN):=ay AD iM
inductive cm where
  | r0 (a:Nat) (b:Bool) (c:List Int) (d:Nat) (e:Nat) (f:Int)
def vF:cm→AE×aK
  | .r0 a b c d e f=>(.ret,⟨am 21 [(7,.ptr 0 1 0 0),(8,.int .i64 ((a:Nat):Int))],[(0,.vs [.bool false b,.imm .free (.ns .u64 c) 1 1 d e,.int .i64 f])],1⟩)
theorem BO:k9 vF:=by intro x;cases x<;>(intro h;cases h)
def pZ:cm→gS
  | .r0 a b c d e f=>⟨.tup [.agg [.bool false b,.imm .free (.ns .u64 c) 1 1 d e,.int .i64 f],.int .i64 ((a:Nat):Int)],[]⟩
def BP:Nat×Bool×(List Int)×Nat×Nat×Int→aK:=fun (a,b,c,d,e,f)=>⟨am 21 [(7,.ptr 0 1 0 0),(8,.int .i64 ((a:Nat):Int))],[(0,.vs [.bool false b,.imm .free (.ns .u64 c) 1 1 d e,.int .i64 f])],1⟩
def tC(b:Bool)(a:List Int)(d:Int)(c:Int) :T ((Nat×Bool×(List Int)×Nat×Nat×Int)⊕(cm)) :=
  .ask (d != (0:Int))
    (.leaf (.inr (.r0 3 false ([]:List Int) 0 0 (0:Int))))
    (.need (bg 0 (List.length a) a)<|.need (g6 (bo b (aa 0 (List.length a) a) c))<|.leaf (.inl ((gr (bo b (aa 0 (List.length a) a) c)),(gu (bo b (aa 0 (List.length a) a) c)),(gv (bo b (aa 0 (List.length a) a) c)),(gw (bo b (aa 0 (List.length a) a) c)),(gz (bo b (aa 0 (List.length a) a) c)),(gA (bo b (aa 0 (List.length a) a) c)))))
def BQ(a:Nat)(b:Bool)(c:List Int)(d:Nat)(e:Nat)(f:Int) :T ((Empty)⊕(cm)) :=
  .leaf (.inr (.r0 a b c d e f))
def bf(a:Bool)(b:List Int)(c:Int)(d:Int) :Option cm:=nm (aS ((tC a b c d).run) fun (e,f,g,h,i,j) =>
  (BQ e f g h i j).run)
theorem BS(b:Bool)(g:Lv)(a:List Int)(c:Int)(i:Lv)(d:Int)(j:Lv)(e:List Int)(k:Lv)(f:List Int){x:cm}(h:bf b a c d=some x) :ah prog gU [] [.bool false b,.imm g (.ns .u64 a) 1 1 0 (List.length a),.int .i64 c,.iptr i (.vs [.int .i64 d,.imm j (.ns .u64 e) 1 1 0 (List.length e),.imm k (.ns .u64 f) 1 1 0 (List.length f)]) 1 0 0] (pZ x) :=
  oO false pZ vF h (Sg.cut 4 BO (bW mZ BP [⟨[(.cell 0 1,.fre 1 1 (.ns .u64 ([]:List Int)))],[0],[7,8]⟩,⟨[],[0],[7,8]⟩]) (fun ⟨r,s,t,u,v,w⟩=>bW mZ _ [⟨[],[0],[7,8]⟩]))
    (fun x=>by cases x with | r0 l m n o p q=>exact nn [.agg [.bool false m,.imm .free (.ns .u64 n) 1 1 o p,.int .i64 q],.int .i64 ((l:Nat):Int)])
def f4:Option cm→Bool
  | some _=>true
  | none=>false
def fO:Option cm→Nat
  | some (.r0 x _ _ _ _ _)=>x
  | _=>0
def fP:Option cm→Bool
  | some (.r0 _ x _ _ _ _)=>x
  | _=>false
def fQ:Option cm→List Int
  | some (.r0 _ _ x _ _ _)=>x
  | _=>[]
def fR:Option cm→Nat
  | some (.r0 _ _ _ x _ _)=>x
  | _=>0
def fS:Option cm→Nat
  | some (.r0 _ _ _ _ x _)=>x
  | _=>0
def fT:Option cm→Int
  | some (.r0 _ _ _ _ _ x)=>x
  | _=>0
theorem BT{x:Option cm}(h:f4 x=true) :x=some (.r0 (fO x) (fP x) (fQ x) (fR x) (fS x) (fT x)):=by
  unfold f4 at h
  split at h<;>first | rfl | (cases h;done) | (rename_i y;cases y;rfl)
def vG:aM:=cR gU (.cons .bool (.cons (.ns .u64) (.cons (.int .i64) (.cons (.ivs (.cons (.int .i64) (.cons (.ns .u64) (.cons (.ns .u64) .nil))) 1 0 0) .nil)))) fun t=>(fun q=>[⟨pZ (.r0 (fO q) (fP q) (fQ q) (fR q) (fS q) (fT q)),[f4 q]⟩]) (bf t.1 t.2.1.2 t.2.2.1 t.2.2.2.1.2.1)
theorem ye:aX prog vG:=a9 fun t=>(ba (fun h=>BS t.1 t.2.1.1 t.2.1.2 t.2.2.1 t.2.2.2.1.1 t.2.2.2.1.2.1 t.2.2.2.1.2.2.1.1 t.2.2.2.1.2.2.1.2 t.2.2.2.1.2.2.2.1.1 t.2.2.2.1.2.2.2.1.2 (BT h)) bu)
def vH:List aM:=vG::xN
theorem cZ:bh prog (bk vH):=ay ye mZ
inductive bV where
  | r0 (a:Nat) (b:Bool) (c:List Int) (d:Nat) (e:Nat) (f:Int)
def AF:bV→AE×aK
  | .r0 a b c d e f=>(.ret,⟨am 97 [(4,.ptr 0 1 0 0),(5,.int .i64 ((a:Nat):Int))],[(0,.vs [.bool false b,.imm .free (.ns .u64 c) 1 1 d e,.int .i64 f])],1⟩)
theorem gB:k9 AF:=by intro x;cases x<;>(intro h;cases h)
def uz:bV→gS
  | .r0 a b c d e f=>⟨.tup [.agg [.bool false b,.imm .free (.ns .u64 c) 1 1 d e,.int .i64 f],.int .i64 ((a:Nat):Int)],[]⟩
def GT(a:Lv)(b:Lv) :Nat×Bool×(List Int)×Nat×Nat×Int×Bool×(List Int)×Nat×Nat×Int×Bool→aK:=fun (c,d,e,f,g,h,i,j,k,l,m,n)=>⟨am 97 [(2,.ptr 0 1 0 0),(3,.ptr 1 1 0 0),(4,.ptr 2 1 0 0),(6,.int .i64 ((c:Nat):Int))],[(0,.vs [.bool false d,.imm a (.ns .u64 e) 1 1 f g,.int .i64 h]),(1,.vs [.bool false i,.imm b (.ns .u64 j) 1 1 k l,.int .i64 m]),(2,.vs [.bool false n,.nsl,.int .i64 (0:Int)])],3⟩
def rv(d : Bool)(a : List Int)(c : Int)(f : Bool)(b : List Int)(e : Int) : T ((Nat × Bool × (List Int) × Nat × Nat × Int × Bool × (List Int) × Nat × Nat × Int × Bool) ⊕ (bV)) :=
  .ask (decide ((0:Int)<(2:Int)))
    (.need (fB (0:Int) 2)<|.need (bg 0 (List.length a) a)<|.need (eQ (cO (aa 0 (List.length a) a) c))<|.ask (!(eh (cO (aa 0 (List.length a) a) c)))
      (.leaf (.inl (2,d,a,0,(List.length a),c,f,b,0,(List.length b),e,false)))
      (.need (bg 0 (List.length a) a)<|.need (dG (ao d (aa 0 (List.length a) a) c))<|.need (eX .i64 (1:Int))<|.ask (decide ((1:Int)<(2:Int)))
        (.need (fB (1:Int) 2)<|.need (bg 0 (List.length b) b)<|.need (eQ (cO (aa 0 (List.length b) b) e))<|.ask (!(eh (cO (aa 0 (List.length b) b) e)))
          (.leaf (.inl (2,(cw (ao d (aa 0 (List.length a) a) c)),(cx (ao d (aa 0 (List.length a) a) c)),(cy (ao d (aa 0 (List.length a) a) c)),(cz (ao d (aa 0 (List.length a) a) c)),(cA (ao d (aa 0 (List.length a) a) c)),f,b,0,(List.length b),e,false)))
          (.need (bg 0 (List.length b) b)<|.need (dG (ao f (aa 0 (List.length b) b) e))<|.need (eX .i64 (2:Int))<|.ask (decide ((2:Int)<(2:Int)))
            (.fail)
            (.leaf (.inl (0,(cw (ao d (aa 0 (List.length a) a) c)),(cx (ao d (aa 0 (List.length a) a) c)),(cy (ao d (aa 0 (List.length a) a) c)),(cz (ao d (aa 0 (List.length a) a) c)),(cA (ao d (aa 0 (List.length a) a) c)),(cw (ao f (aa 0 (List.length b) b) e)),(cx (ao f (aa 0 (List.length b) b) e)),(cy (ao f (aa 0 (List.length b) b) e)),(cz (ao f (aa 0 (List.length b) b) e)),(cA (ao f (aa 0 (List.length b) b) e)),false)))))
        (.fail)))
    (.fail)
def GU(a:Lv)(b:Lv)(c:Bool)(d:List Int)(e:Nat)(f:Nat)(g:Int)(h:Bool)(i:List Int)(j:Nat)(k:Nat)(l:Int)(m:Bool) :Nat×Int×(List Int)×Nat×(List Int)×Nat→aK:=fun (n,o,p,q,r,s)=>⟨am 97 [(2,.ptr 0 1 0 0),(3,.ptr 1 1 0 0),(4,.ptr 2 1 0 0),(7,.ptr 3 1 0 0),(8,.int .i64 ((n:Nat):Int))],[(0,.vs [.bool false c,.imm a (.ns .u64 d) 1 1 e f,.int .i64 g]),(1,.vs [.bool false h,.imm b (.ns .u64 i) 1 1 j k,.int .i64 l]),(2,.vs [.bool false m,.nsl,.int .i64 (0:Int)]),(3,.vs [.int .i64 o,.imm .free (.ns .u64 p) 1 1 0 q,.imm .free (.ns .u64 r) 1 1 0 s])],4⟩
def p5(i:Nat)(a:List Int)(b:Nat)(c:Nat)(g:Int)(d:List Int)(e:Nat)(f:Nat)(h:Int) :T ((Nat×Int×(List Int)×Nat×(List Int)×Nat)⊕(bV)) :=
  .ask (((i:Nat):Int) != (0:Int))
    (.leaf (.inr (.r0 i false ([]:List Int) 0 0 (0:Int))))
    (.need (bg b c a)<|.need (bg e f d)<|.need (iz (bJ (aa b c a) g (aa e f d) h))<|.leaf (.inl ((iG (bJ (aa b c a) g (aa e f d) h)),(iH (bJ (aa b c a) g (aa e f d) h)),(iI (bJ (aa b c a) g (aa e f d) h)),(iJ (bJ (aa b c a) g (aa e f d) h)),(iK (bJ (aa b c a) g (aa e f d) h)),(iL (bJ (aa b c a) g (aa e f d) h)))))
def GV(a:Lv)(b:Lv)(c:Bool)(d:List Int)(e:Nat)(f:Nat)(g:Int)(h:Bool)(i:List Int)(j:Nat)(k:Nat)(l:Int)(m:Bool)(n:Int)(o:List Int)(p:Nat)(q:List Int)(r:Nat)(_:Unit) :aK:=⟨am 97 [(2,.ptr 0 1 0 0),(3,.ptr 1 1 0 0),(4,.ptr 2 1 0 0),(7,.ptr 3 1 0 0),(9,.fn (.func gU) [] [.ptr 3 1 0 0])],[(0,.vs [.bool false c,.imm a (.ns .u64 d) 1 1 e f,.int .i64 g]),(1,.vs [.bool false h,.imm b (.ns .u64 i) 1 1 j k,.int .i64 l]),(2,.vs [.bool false m,.nsl,.int .i64 (0:Int)]),(3,.vs [.int .i64 n,.imm .free (.ns .u64 o) 1 1 0 p,.imm .free (.ns .u64 q) 1 1 0 r])],4⟩
def jv(e:Bool)(h:Bool)(g:Nat)(f:Int)(a:List Int)(b:Nat)(c:List Int)(d:Nat) :T ((Unit)⊕(bV)) :=
  .ask (((g:Nat):Int) != (0:Int))
    (.leaf (.inr (.r0 g false ([]:List Int) 0 0 (0:Int))))
    (.ask (e==h)
      (.need (bg 0 b a)<|.need (bg 0 d c)<|.need (mU (be (aa 0 b a) (aa 0 d c)))<|.need (bg (dd (be (aa 0 b a) (aa 0 d c))) (de (be (aa 0 b a) (aa 0 d c))) (df (be (aa 0 b a) (aa 0 d c))))<|.need (bg 0 b a)<|.need (bg 0 d c)<|.need (f4 (bf e (aa (dd (be (aa 0 b a) (aa 0 d c))) (de (be (aa 0 b a) (aa 0 d c))) (df (be (aa 0 b a) (aa 0 d c)))) (((dF (be (aa 0 b a) (aa 0 d c))):Nat):Int) f))<|.leaf (.inr (.r0 (fO (bf e (aa (dd (be (aa 0 b a) (aa 0 d c))) (de (be (aa 0 b a) (aa 0 d c))) (df (be (aa 0 b a) (aa 0 d c)))) (((dF (be (aa 0 b a) (aa 0 d c))):Nat):Int) f)) (fP (bf e (aa (dd (be (aa 0 b a) (aa 0 d c))) (de (be (aa 0 b a) (aa 0 d c))) (df (be (aa 0 b a) (aa 0 d c)))) (((dF (be (aa 0 b a) (aa 0 d c))):Nat):Int) f)) (fQ (bf e (aa (dd (be (aa 0 b a) (aa 0 d c))) (de (be (aa 0 b a) (aa 0 d c))) (df (be (aa 0 b a) (aa 0 d c)))) (((dF (be (aa 0 b a) (aa 0 d c))):Nat):Int) f)) (fR (bf e (aa (dd (be (aa 0 b a) (aa 0 d c))) (de (be (aa 0 b a) (aa 0 d c))) (df (be (aa 0 b a) (aa 0 d c)))) (((dF (be (aa 0 b a) (aa 0 d c))):Nat):Int) f)) (fS (bf e (aa (dd (be (aa 0 b a) (aa 0 d c))) (de (be (aa 0 b a) (aa 0 d c))) (df (be (aa 0 b a) (aa 0 d c)))) (((dF (be (aa 0 b a) (aa 0 d c))):Nat):Int) f)) (fT (bf e (aa (dd (be (aa 0 b a) (aa 0 d c))) (de (be (aa 0 b a) (aa 0 d c))) (df (be (aa 0 b a) (aa 0 d c)))) (((dF (be (aa 0 b a) (aa 0 d c))):Nat):Int) f)))))
      (.leaf (.inl ())))
def GW(a:Lv)(b:Lv)(c:Bool)(d:List Int)(e:Nat)(f:Nat)(g:Int)(h:Bool)(i:List Int)(j:Nat)(k:Nat)(l:Int)(m:Bool)(n:Int)(o:List Int)(p:Nat)(q:List Int)(r:Nat)(s:Int) :aK:=⟨am 97 [(2,.ptr 0 1 0 0),(3,.ptr 1 1 0 0),(4,.ptr 2 1 0 0),(7,.ptr 3 1 0 0),(9,.fn (.func gU) [] [.ptr 3 1 0 0]),(12,.int .i64 s)],[(0,.vs [.bool false c,.imm a (.ns .u64 d) 1 1 e f,.int .i64 g]),(1,.vs [.bool false h,.imm b (.ns .u64 i) 1 1 j k,.int .i64 l]),(2,.vs [.bool false m,.nsl,.int .i64 (0:Int)]),(3,.vs [.int .i64 n,.imm .free (.ns .u64 o) 1 1 0 p,.imm .free (.ns .u64 q) 1 1 0 r])],4⟩
def p6(a:List Int)(b:Nat)(c:List Int)(d:Nat) :T ((Int)⊕(bV)) :=
  .need (bg 0 b a)<|.need (bg 0 d c)<|.need (mT (j7 (aa 0 b a) (aa 0 d c)))<|.leaf (.inl (mh (j7 (aa 0 b a) (aa 0 d c))))
def GX(a:Lv)(b:Bool)(c:List Int)(d:Nat)(e:Nat)(f:Int)(g:Bool)(h:Int)(i:List Int)(j:Nat)(k:List Int)(l:Nat)(_:Unit) :aK:=⟨am 97 [(2,.ptr 0 1 0 0),(4,.ptr 1 1 0 0),(7,.ptr 2 1 0 0),(9,.fn (.func gU) [] [.ptr 2 1 0 0])],[(0,.vs [.bool false b,.imm a (.ns .u64 c) 1 1 d e,.int .i64 f]),(1,.vs [.bool false g,.nsl,.int .i64 (0:Int)]),(2,.vs [.int .i64 h,.imm .free (.ns .u64 i) 1 1 0 j,.imm .free (.ns .u64 k) 1 1 0 l])],3⟩
def p7(e:Bool)(f:Int)(a:List Int)(b:Nat)(c:List Int)(d:Nat)(g:Int) :T ((Unit)⊕(bV)) :=
  .ask (decide (g<(0:Int)))
    (.need (bg 0 d c)<|.need (bg 0 b a)<|.need (j9 (aQ (aa 0 d c) (aa 0 b a)))<|.need (bg (cX (aQ (aa 0 d c) (aa 0 b a))) (cY (aQ (aa 0 d c) (aa 0 b a))) (cW (aQ (aa 0 d c) (aa 0 b a))))<|.need (bg 0 b a)<|.need (bg 0 d c)<|.need (f4 (bf e (aa (cX (aQ (aa 0 d c) (aa 0 b a))) (cY (aQ (aa 0 d c) (aa 0 b a))) (cW (aQ (aa 0 d c) (aa 0 b a)))) (((dg (aQ (aa 0 d c) (aa 0 b a))):Nat):Int) f))<|.leaf (.inr (.r0 (fO (bf e (aa (cX (aQ (aa 0 d c) (aa 0 b a))) (cY (aQ (aa 0 d c) (aa 0 b a))) (cW (aQ (aa 0 d c) (aa 0 b a)))) (((dg (aQ (aa 0 d c) (aa 0 b a))):Nat):Int) f)) (fP (bf e (aa (cX (aQ (aa 0 d c) (aa 0 b a))) (cY (aQ (aa 0 d c) (aa 0 b a))) (cW (aQ (aa 0 d c) (aa 0 b a)))) (((dg (aQ (aa 0 d c) (aa 0 b a))):Nat):Int) f)) (fQ (bf e (aa (cX (aQ (aa 0 d c) (aa 0 b a))) (cY (aQ (aa 0 d c) (aa 0 b a))) (cW (aQ (aa 0 d c) (aa 0 b a)))) (((dg (aQ (aa 0 d c) (aa 0 b a))):Nat):Int) f)) (fR (bf e (aa (cX (aQ (aa 0 d c) (aa 0 b a))) (cY (aQ (aa 0 d c) (aa 0 b a))) (cW (aQ (aa 0 d c) (aa 0 b a)))) (((dg (aQ (aa 0 d c) (aa 0 b a))):Nat):Int) f)) (fS (bf e (aa (cX (aQ (aa 0 d c) (aa 0 b a))) (cY (aQ (aa 0 d c) (aa 0 b a))) (cW (aQ (aa 0 d c) (aa 0 b a)))) (((dg (aQ (aa 0 d c) (aa 0 b a))):Nat):Int) f)) (fT (bf e (aa (cX (aQ (aa 0 d c) (aa 0 b a))) (cY (aQ (aa 0 d c) (aa 0 b a))) (cW (aQ (aa 0 d c) (aa 0 b a)))) (((dg (aQ (aa 0 d c) (aa 0 b a))):Nat):Int) f)))))
    (.leaf (.inl ()))
def GY(a:Lv)(b:Bool)(c:List Int)(d:Nat)(e:Nat)(f:Int)(g:Bool)(h:Int)(i:List Int)(j:Nat)(k:List Int)(l:Nat) :Nat×(List Int)×Nat×Nat→aK:=fun (m,n,o,p)=>⟨am 97 [(2,.ptr 0 1 0 0),(4,.ptr 1 1 0 0),(8,.int .i64 ((m:Nat):Int)),(9,.fn (.func gU) [] [.ptr 2 1 0 0]),(16,.imm .free (.ns .u64 n) 1 1 o p)],[(0,.vs [.bool false b,.imm a (.ns .u64 c) 1 1 d e,.int .i64 f]),(1,.vs [.bool false g,.nsl,.int .i64 (0:Int)]),(2,.vs [.int .i64 h,.imm .free (.ns .u64 i) 1 1 0 j,.imm .free (.ns .u64 k) 1 1 0 l])],3⟩
def p8(a:List Int)(b:Nat)(c:List Int)(d:Nat) :T ((Nat×(List Int)×Nat×Nat)⊕(bV)) :=
  .need (bg 0 b a)<|.need (bg 0 d c)<|.need (j9 (aQ (aa 0 b a) (aa 0 d c)))<|.leaf (.inl ((dg (aQ (aa 0 b a) (aa 0 d c))),(cW (aQ (aa 0 b a) (aa 0 d c))),(cX (aQ (aa 0 b a) (aa 0 d c))),(cY (aQ (aa 0 b a) (aa 0 d c)))))
def GZ:Nat×Bool×(List Int)×Nat×Nat×Int→aK:=fun (a,b,c,d,e,f)=>⟨am 97 [(4,.ptr 0 1 0 0),(5,.int .i64 ((a:Nat):Int))],[(0,.vs [.bool false b,.imm .free (.ns .u64 c) 1 1 d e,.int .i64 f])],1⟩
def p9(d:Bool)(e:Int)(g:List Int)(h:Nat)(i:List Int)(j:Nat)(f:Nat)(a:List Int)(b:Nat)(c:Nat) :T ((Nat×Bool×(List Int)×Nat×Nat×Int)⊕(bV)) :=
  .need (bg b c a)<|.need (bg 0 h g)<|.need (bg 0 j i)<|.need (f4 (bf d (aa b c a) ((f:Nat):Int) e))<|.leaf (.inl ((fO (bf d (aa b c a) ((f:Nat):Int) e)),(fP (bf d (aa b c a) ((f:Nat):Int) e)),(fQ (bf d (aa b c a) ((f:Nat):Int) e)),(fR (bf d (aa b c a) ((f:Nat):Int) e)),(fS (bf d (aa b c a) ((f:Nat):Int) e)),(fT (bf d (aa b c a) ((f:Nat):Int) e))))
def Ex(a:Nat)(b:Bool)(c:List Int)(d:Nat)(e:Nat)(f:Int) :T ((Empty)⊕(bV)) :=
  .leaf (.inr (.r0 a b c d e f))
def eU(h:Bool)(i:List Int)(j:Int)(k:Bool)(l:List Int)(m:Int) :Option bV:=nm (aS ((rv h i j k l m).run) fun (n,f,o,p,q,r,g,s,t,u,v,I) =>
  aS ((p5 n o p q r s t u v).run) fun (w,e,a,b,c,d) =>
  aS ((jv f g w e a b c d).run) fun _ =>
  aS ((p6 a b c d).run) fun x =>
  aS ((p7 g e a b c d x).run) fun _ =>
  aS ((p8 a b c d).run) fun (y,z,A,B) =>
  aS ((p9 f e a b c d y z A B).run) fun (C,D,E,F,G,H) =>
  (Ex C D E F G H).run)
theorem G0(v:Bool)(a:Lv)(o:List Int)(w:Int)(y:Bool)(b:Lv)(p:List Int)(z:Int){x:bV}(h:eU v o w y p z=some x) :ah prog uf [] [.agg [.bool false v,.imm a (.ns .u64 o) 1 1 0 (List.length o),.int .i64 w],.agg [.bool false y,.imm b (.ns .u64 p) 1 1 0 (List.length p),.int .i64 z]] (uz x) :=
  oO true uz AF h (Sg.cut 2 gB (bW cZ (GT a b) [⟨[],[0,16,32],[2,3,4,6]⟩,⟨[(.cell 0 1,.lev a)],[0,16,32],[2,3,4,6]⟩,⟨[(.cell 0 1,.lev a),(.cell 16 1,.lev b)],[0,16,32],[2,3,4,6]⟩]) (fun ⟨G,c,d,e,f,g,q,r,s,t,u,i⟩=>Sg.cut 3 gB (bW cZ (GU a b c d e f g q r s t u i) [⟨[(.cell 2 1,.fre 1 1 (.ns .u64 ([]:List Int)))],[2],[4,5]⟩,⟨[],[0,1,2,131],[2,3,4,7,8]⟩]) (fun ⟨H,j,k,l,m,n⟩=>Sg.cut 5 gB (bW cZ (GV a b c d e f g q r s t u i j k l m n) [⟨[(.cell 2 1,.fre 1 1 (.ns .u64 ([]:List Int)))],[2],[4,5]⟩,⟨[],[2],[4,5]⟩,⟨[],[0,1,2,3],[2,3,4,7,9]⟩]) (fun _=>Sg.cut 1 gB (bW cZ (GW a b c d e f g q r s t u i j k l m n) [⟨[],[0,1,2,3],[2,3,4,7,9,12]⟩]) (fun I=>Sg.cut 2 gB (bW cZ (GX a c d e f g i j k l m n) [⟨[],[2],[4,5]⟩,⟨[],[0,2,3],[2,4,7,9]⟩]) (fun _=>Sg.cut 1 gB (bW cZ (GY a c d e f g i j k l m n) [⟨[],[0,1,2],[2,4,8,9,16]⟩]) (fun ⟨J,K,L,M⟩=>Sg.cut 1 gB (bW cZ GZ [⟨[],[1],[4,5]⟩]) (fun ⟨N,O,P,Q,R,S⟩=>bW cZ _ [⟨[],[0],[4,5]⟩]))))))))
    (fun x=>by cases x with | r0 A B C D E F=>exact nn [.agg [.bool false B,.imm .free (.ns .u64 C) 1 1 D E,.int .i64 F],.int .i64 ((A:Nat):Int)])
def nZ:Option bV→Bool
  | some _=>true
  | none=>false
def ot:Option bV→Nat
  | some (.r0 x _ _ _ _ _)=>x
  | _=>0
def ou:Option bV→Bool
  | some (.r0 _ x _ _ _ _)=>x
  | _=>false
def ov:Option bV→List Int
  | some (.r0 _ _ x _ _ _)=>x
  | _=>[]
def ow:Option bV→Nat
  | some (.r0 _ _ _ x _ _)=>x
  | _=>0
def oz:Option bV→Nat
  | some (.r0 _ _ _ _ x _)=>x
  | _=>0
def oA:Option bV→Int
  | some (.r0 _ _ _ _ _ x)=>x
  | _=>0
theorem G1{x:Option bV}(h:nZ x=true) :x=some (.r0 (ot x) (ou x) (ov x) (ow x) (oz x) (oA x)):=by
  unfold nZ at h
  split at h<;>first | rfl | (cases h;done) | (rename_i y;cases y;rfl)
def AG:aM:=cR uf (.cons (.agg (.cons .bool (.cons (.ns .u64) (.cons (.int .i64) .nil)))) (.cons (.agg (.cons .bool (.cons (.ns .u64) (.cons (.int .i64) .nil)))) .nil)) fun t=>(fun q=>[⟨uz (.r0 (ot q) (ou q) (ov q) (ow q) (oz q) (oA q)),[nZ q]⟩]) (eU t.1.1 t.1.2.1.2 t.1.2.2.1 t.2.1.1 t.2.1.2.1.2 t.2.1.2.2.1)
theorem BU:aX prog AG:=a9 fun t=>(ba (fun h=>G0 t.1.1 t.1.2.1.1 t.1.2.1.2 t.1.2.2.1 t.2.1.1 t.2.1.2.1.1 t.2.1.2.1.2 t.2.1.2.2.1 (G1 h)) bu)
def AH:List aM:=AG::vH
theorem tD:bh prog (bk AH):=ay BU cZ
inductive fi where
  | r0 (a:Int)
def G2:fi→AE×aK
  | .r0 a=>(.ret,⟨am 11 [(2,.int .i64 a)],[],0⟩)
def rx:fi→gS
  | .r0 a=>⟨.int .i64 a,[]⟩
def vI(a:Bool)(b:List Int) :T ((Empty)⊕(fi)) :=
  .ask ((((List.length b):Nat):Int)==(0:Int))
    (.leaf (.inr (.r0 (0:Int))))
    (.ask a
      (.leaf (.inr (.r0 (-1:Int))))
      (.leaf (.inr (.r0 (1:Int)))))
def da(a:Bool)(b:List Int) :Option fi:=nm ((vI a b).run)
theorem Ey(b:Bool)(c:Lv)(a:List Int)(d:Int){x:fi}(h:da b a=some x) :ah prog qP [] [.agg [.bool false b,.imm c (.ns .u64 a) 1 1 0 (List.length a),.int .i64 d]] (rx x) :=
  oO true rx G2 h (bW tD _ [⟨[],[],[2]⟩,⟨[],[],[2]⟩,⟨[],[],[2]⟩])
    (fun x=>by cases x with | r0 e=>exact nn [.int .i64 e])
def dH:Option fi→Bool
  | some _=>true
  | none=>false
def cC:Option fi→Int
  | some (.r0 x)=>x
  | _=>0
theorem Ez{x:Option fi}(h:dH x=true) :x=some (.r0 (cC x)):=by
  unfold dH at h
  split at h<;>first | rfl | (cases h;done) | (rename_i y;cases y;rfl)
def xO:aM:=cR qP (.cons (.agg (.cons .bool (.cons (.ns .u64) (.cons (.int .i64) .nil)))) .nil) fun t=>(fun q=>[⟨rx (.r0 (cC q)),[dH q]⟩]) (da t.1.1 t.1.2.1.2)
theorem AI:aX prog xO:=a9 fun t=>(ba (fun h=>Ey t.1.1 t.1.2.1.1 t.1.2.1.2 t.1.2.2.1 (Ez h)) bu)
def xP:List aM:=xO::AH
theorem fc:bh prog (bk xP):=ay AI tD
inductive dC where
  | r0 (a:Int) (b:Nat)
def AJ:dC→AE×aK
  | .r0 a b=>(.ret,⟨am 52 [(4,.int .i64 a),(5,.int .i64 ((b:Nat):Int))],[],0⟩)
theorem n4:k9 AJ:=by intro x;cases x<;>(intro h;cases h)
def uA:dC→gS
  | .r0 a b=>⟨.tup [.int .i64 a,.int .i64 ((b:Nat):Int)],[]⟩
def G3(a:Lv)(b:Lv) :Nat×Bool×(List Int)×Nat×Nat×Int×Bool×(List Int)×Nat×Nat×Int→aK:=fun (c,d,e,f,g,h,i,j,k,l,m)=>⟨am 52 [(2,.ptr 0 1 0 0),(3,.ptr 1 1 0 0),(6,.int .i64 ((c:Nat):Int))],[(0,.vs [.bool false d,.imm a (.ns .u64 e) 1 1 f g,.int .i64 h]),(1,.vs [.bool false i,.imm b (.ns .u64 j) 1 1 k l,.int .i64 m])],2⟩
def xQ(d : Bool)(a : List Int)(c : Int)(f : Bool)(b : List Int)(e : Int) : T ((Nat × Bool × (List Int) × Nat × Nat × Int × Bool × (List Int) × Nat × Nat × Int) ⊕ (dC)) :=
  .ask (decide ((0:Int)<(2:Int)))
    (.need (fB (0:Int) 2)<|.need (bg 0 (List.length a) a)<|.need (eQ (cO (aa 0 (List.length a) a) c))<|.ask (!(eh (cO (aa 0 (List.length a) a) c)))
      (.leaf (.inl (2,d,a,0,(List.length a),c,f,b,0,(List.length b),e)))
      (.need (bg 0 (List.length a) a)<|.need (dG (ao d (aa 0 (List.length a) a) c))<|.need (eX .i64 (1:Int))<|.ask (decide ((1:Int)<(2:Int)))
        (.need (fB (1:Int) 2)<|.need (bg 0 (List.length b) b)<|.need (eQ (cO (aa 0 (List.length b) b) e))<|.ask (!(eh (cO (aa 0 (List.length b) b) e)))
          (.leaf (.inl (2,(cw (ao d (aa 0 (List.length a) a) c)),(cx (ao d (aa 0 (List.length a) a) c)),(cy (ao d (aa 0 (List.length a) a) c)),(cz (ao d (aa 0 (List.length a) a) c)),(cA (ao d (aa 0 (List.length a) a) c)),f,b,0,(List.length b),e)))
          (.need (bg 0 (List.length b) b)<|.need (dG (ao f (aa 0 (List.length b) b) e))<|.need (eX .i64 (2:Int))<|.ask (decide ((2:Int)<(2:Int)))
            (.fail)
            (.leaf (.inl (0,(cw (ao d (aa 0 (List.length a) a) c)),(cx (ao d (aa 0 (List.length a) a) c)),(cy (ao d (aa 0 (List.length a) a) c)),(cz (ao d (aa 0 (List.length a) a) c)),(cA (ao d (aa 0 (List.length a) a) c)),(cw (ao f (aa 0 (List.length b) b) e)),(cx (ao f (aa 0 (List.length b) b) e)),(cy (ao f (aa 0 (List.length b) b) e)),(cz (ao f (aa 0 (List.length b) b) e)),(cA (ao f (aa 0 (List.length b) b) e)))))))
        (.fail)))
    (.fail)
def G4(a:Lv)(b:Lv)(c:Bool)(d:List Int)(e:Nat)(f:Nat)(g:Int)(h:Bool)(i:List Int)(j:Nat)(k:Nat)(l:Int) :Nat×Int×(List Int)×Nat×(List Int)×Nat→aK:=fun (m,n,o,p,q,r)=>⟨am 52 [(2,.ptr 0 1 0 0),(3,.ptr 1 1 0 0),(7,.ptr 2 1 0 0),(8,.int .i64 ((m:Nat):Int))],[(0,.vs [.bool false c,.imm a (.ns .u64 d) 1 1 e f,.int .i64 g]),(1,.vs [.bool false h,.imm b (.ns .u64 i) 1 1 j k,.int .i64 l]),(2,.vs [.int .i64 n,.imm .free (.ns .u64 o) 1 1 0 p,.imm .free (.ns .u64 q) 1 1 0 r])],3⟩
def ry(i:Nat)(a:List Int)(b:Nat)(c:Nat)(g:Int)(d:List Int)(e:Nat)(f:Nat)(h:Int) :T ((Nat×Int×(List Int)×Nat×(List Int)×Nat)⊕(dC)) :=
  .ask (((i:Nat):Int) != (0:Int))
    (.leaf (.inr (.r0 (0:Int) i)))
    (.need (bg b c a)<|.need (bg e f d)<|.need (iz (bJ (aa b c a) g (aa e f d) h))<|.leaf (.inl ((iG (bJ (aa b c a) g (aa e f d) h)),(iH (bJ (aa b c a) g (aa e f d) h)),(iI (bJ (aa b c a) g (aa e f d) h)),(iJ (bJ (aa b c a) g (aa e f d) h)),(iK (bJ (aa b c a) g (aa e f d) h)),(iL (bJ (aa b c a) g (aa e f d) h)))))
def G5(a:Lv)(b:Lv)(c:Bool)(d:List Int)(e:Nat)(f:Nat)(g:Int)(h:Bool)(i:List Int)(j:Nat)(k:Nat)(l:Int)(m:Int) :aK:=⟨am 52 [(2,.ptr 0 1 0 0),(3,.ptr 1 1 0 0),(9,.int .i64 m)],[(0,.vs [.bool false c,.imm a (.ns .u64 d) 1 1 e f,.int .i64 g]),(1,.vs [.bool false h,.imm b (.ns .u64 i) 1 1 j k,.int .i64 l])],2⟩
def rz(e:Nat)(a:List Int)(b:Nat)(c:List Int)(d:Nat) :T ((Int)⊕(dC)) :=
  .ask (((e:Nat):Int) != (0:Int))
    (.leaf (.inr (.r0 (0:Int) e)))
    (.need (bg 0 b a)<|.need (bg 0 d c)<|.need (mT (j7 (aa 0 b a) (aa 0 d c)))<|.leaf (.inl (mh (j7 (aa 0 b a) (aa 0 d c)))))
def G6(a:Int)(_:Unit) :aK:=⟨am 52 [(9,.int .i64 a)],[],0⟩
def i9(g:Bool)(a:List Int)(b:Nat)(c:Nat)(h:Bool)(d:List Int)(e:Nat)(f:Nat)(i:Int) :T ((Unit)⊕(dC)) :=
  .need (bg b c a)<|.need (dH (da g (aa b c a)))<|.need (bg e f d)<|.need (dH (da h (aa e f d)))<|.ask ((cC (da g (aa b c a))) != (cC (da h (aa e f d))))
    (.need (bg b c a)<|.need (dH (da g (aa b c a)))<|.need (bg e f d)<|.need (dH (da h (aa e f d)))<|.need (eX .i64 ((cC (da g (aa b c a)))-(cC (da h (aa e f d)))))<|.leaf (.inr (.r0 (mC (-1:Int) (np (1:Int) ((cC (da g (aa b c a)))-(cC (da h (aa e f d)))))) 0)))
    (.ask g
      (.need (eX .i64 ((0:Int)-i))<|.leaf (.inr (.r0 ((0:Int)-i) 0)))
      (.leaf (.inl ())))
def EA(a:Int) :T ((Empty)⊕(dC)) :=
  .leaf (.inr (.r0 a 0))
def i0(h:Bool)(i:List Int)(j:Int)(k:Bool)(l:List Int)(m:Int) :Option dC:=nm (aS ((xQ h i j k l m).run) fun (n,o,a,b,c,p,q,d,e,f,r) =>
  aS ((ry n a b c p d e f r).run) fun (s,x,t,u,v,w) =>
  aS ((rz s t u v w).run) fun g =>
  aS ((i9 o a b c q d e f g).run) fun _ =>
  (EA g).run)
theorem G7(e:Bool)(a:Lv)(c:List Int)(f:Int)(g:Bool)(b:Lv)(d:List Int)(i:Int){x:dC}(h:i0 e c f g d i=some x) :ah prog ue [] [.agg [.bool false e,.imm a (.ns .u64 c) 1 1 0 (List.length c),.int .i64 f],.agg [.bool false g,.imm b (.ns .u64 d) 1 1 0 (List.length d),.int .i64 i]] (uA x) :=
  oO true uA AJ h (Sg.cut 2 n4 (bW fc (G3 a b) [⟨[],[0,16],[2,3,6]⟩,⟨[(.cell 0 1,.lev a)],[0,16],[2,3,6]⟩,⟨[(.cell 0 1,.lev a),(.cell 16 1,.lev b)],[0,16],[2,3,6]⟩]) (fun ⟨w,j,k,l,m,n,o,p,q,r,s⟩=>Sg.cut 3 n4 (bW fc (G4 a b j k l m n o p q r s) [⟨[],[],[4,5]⟩,⟨[],[0,1,130],[2,3,7,8]⟩]) (fun ⟨y,z,A,B,C,D⟩=>Sg.cut 3 n4 (bW fc (G5 a b j k l m n o p q r s) [⟨[],[],[4,5]⟩,⟨[],[0,1],[2,3,9]⟩]) (fun t=>Sg.cut 1 n4 (bW fc (G6 t) [⟨[],[],[4,5]⟩,⟨[],[],[4,5]⟩,⟨[],[],[9]⟩]) (fun _=>bW fc _ [⟨[],[],[4,5]⟩])))))
    (fun x=>by cases x with | r0 u v=>exact nn [.int .i64 u,.int .i64 ((v:Nat):Int)])
def n5:Option dC→Bool
  | some _=>true
  | none=>false
def oB:Option dC→Int
  | some (.r0 x _)=>x
  | _=>0
def oC:Option dC→Nat
  | some (.r0 _ x)=>x
  | _=>0
theorem G8{x:Option dC}(h:n5 x=true) :x=some (.r0 (oB x) (oC x)):=by
  unfold n5 at h
  split at h<;>first | rfl | (cases h;done) | (rename_i y;cases y;rfl)
def AK:aM:=cR ue (.cons (.agg (.cons .bool (.cons (.ns .u64) (.cons (.int .i64) .nil)))) (.cons (.agg (.cons .bool (.cons (.ns .u64) (.cons (.int .i64) .nil)))) .nil)) fun t=>(fun q=>[⟨uA (.r0 (oB q) (oC q)),[n5 q]⟩]) (i0 t.1.1 t.1.2.1.2 t.1.2.2.1 t.2.1.1 t.2.1.2.1.2 t.2.1.2.2.1)
theorem BV:aX prog AK:=a9 fun t=>(ba (fun h=>G7 t.1.1 t.1.2.1.1 t.1.2.1.2 t.1.2.2.1 t.2.1.1 t.2.1.2.1.1 t.2.1.2.1.2 t.2.1.2.2.1 (G8 h)) bu)
def AL:List aM:=AK::xP
theorem iA:bh prog (bk AL):=ay BV fc
inductive bP where
  | r0 (a:Nat) (b:Bool) (c:List Int) (d:Nat) (e:Nat) (f:Int)
def vJ:bP→AE×aK
  | .r0 a b c d e f=>(.ret,⟨am 30 [(4,.ptr 0 1 0 0),(5,.int .i64 ((a:Nat):Int))],[(0,.vs [.bool false b,.imm .free (.ns .u64 c) 1 1 d e,.int .i64 f])],1⟩)
theorem oD:k9 vJ:=by intro x;cases x<;>(intro h;cases h)
def qa:bP→gS
  | .r0 a b c d e f=>⟨.tup [.agg [.bool false b,.imm .free (.ns .u64 c) 1 1 d e,.int .i64 f],.int .i64 ((a:Nat):Int)],[]⟩
def BW(a:Lv)(b:Int) :Nat×Bool×(List Int)×Nat×Nat×Int×Bool→aK:=fun (c,d,e,f,g,h,i)=>⟨am 30 [(1,.int .i64 b),(2,.ptr 0 1 0 0),(4,.ptr 1 1 0 0),(6,.int .i64 ((c:Nat):Int))],[(0,.vs [.bool false d,.imm a (.ns .u64 e) 1 1 f g,.int .i64 h]),(1,.vs [.bool false i,.nsl,.int .i64 (0:Int)])],2⟩
def oE(c:Bool)(a:List Int)(b:Int) :T ((Nat×Bool×(List Int)×Nat×Nat×Int×Bool)⊕(bP)) :=
  .ask (decide ((0:Int)<(1:Int)))
    (.need (fB (0:Int) 1)<|.need (bg 0 (List.length a) a)<|.need (eQ (cO (aa 0 (List.length a) a) b))<|.ask (!(eh (cO (aa 0 (List.length a) a) b)))
      (.leaf (.inl (2,c,a,0,(List.length a),b,false)))
      (.need (bg 0 (List.length a) a)<|.need (dG (ao c (aa 0 (List.length a) a) b))<|.need (eX .i64 (1:Int))<|.ask (decide ((1:Int)<(1:Int)))
        (.fail)
        (.leaf (.inl (0,(cw (ao c (aa 0 (List.length a) a) b)),(cx (ao c (aa 0 (List.length a) a) b)),(cy (ao c (aa 0 (List.length a) a) b)),(cz (ao c (aa 0 (List.length a) a) b)),(cA (ao c (aa 0 (List.length a) a) b)),false)))))
    (.fail)
def BX(a:Lv)(b:Int)(c:Nat)(d:Bool)(e:List Int)(f:Nat)(g:Nat)(h:Int)(i:Bool)(j:Bool) :aK:=⟨am 30 [(1,.int .i64 b),(2,.ptr 0 1 0 0),(4,.ptr 1 1 0 0),(6,.int .i64 ((c:Nat):Int)),(16,.bool false j)],[(0,.vs [.bool false d,.imm a (.ns .u64 e) 1 1 f g,.int .i64 h]),(1,.vs [.bool false i,.nsl,.int .i64 (0:Int)])],2⟩
def BY(a:Nat)(b:Nat) :T ((Bool)⊕(bP)) :=
  .ask (((a:Nat):Int) != (0:Int))
    (.leaf (.inl true))
    (.leaf (.inl (((b:Nat):Int)==(0:Int))))
def BZ:Nat×Bool×(List Int)×Nat×Nat×Int→aK:=fun (a,b,c,d,e,f)=>⟨am 30 [(4,.ptr 0 1 0 0),(5,.int .i64 ((a:Nat):Int))],[(0,.vs [.bool false b,.imm .free (.ns .u64 c) 1 1 d e,.int .i64 f])],1⟩
def oF(a:Int)(g:Nat)(f:Bool)(b:List Int)(c:Nat)(d:Nat)(e:Int)(h:Bool) :T ((Nat×Bool×(List Int)×Nat×Nat×Int)⊕(bP)) :=
  .ask h
    (.leaf (.inr (.r0 g false ([]:List Int) 0 0 (0:Int))))
    (.need (eX .i64 (e+(mC (-1048576:Int) (np (1048576:Int) a))))<|.need (bg c d b)<|.need (g6 (bo f (aa c d b) (e+(mC (-1048576:Int) (np (1048576:Int) a)))))<|.leaf (.inl ((gr (bo f (aa c d b) (e+(mC (-1048576:Int) (np (1048576:Int) a))))),(gu (bo f (aa c d b) (e+(mC (-1048576:Int) (np (1048576:Int) a))))),(gv (bo f (aa c d b) (e+(mC (-1048576:Int) (np (1048576:Int) a))))),(gw (bo f (aa c d b) (e+(mC (-1048576:Int) (np (1048576:Int) a))))),(gz (bo f (aa c d b) (e+(mC (-1048576:Int) (np (1048576:Int) a))))),(gA (bo f (aa c d b) (e+(mC (-1048576:Int) (np (1048576:Int) a))))))))
def B0(a:Nat)(b:Bool)(c:List Int)(d:Nat)(e:Nat)(f:Int) :T ((Empty)⊕(bP)) :=
  .leaf (.inr (.r0 a b c d e f))
def dI(c:Bool)(d:List Int)(e:Int)(f:Int) :Option bP:=nm (aS ((oE c d e).run) fun (a,g,h,i,b,j,r) =>
  aS ((BY a b).run) fun k =>
  aS ((oF f a g h i b j k).run) fun (l,m,n,o,p,q) =>
  (B0 l m n o p q).run)
theorem B1(d:Bool)(a:Lv)(c:List Int)(e:Int)(b:Int){x:bP}(h:dI d c e b=some x) :ah prog pv [] [.agg [.bool false d,.imm a (.ns .u64 c) 1 1 0 (List.length c),.int .i64 e],.int .i64 b] (qa x) :=
  oO true qa vJ h (Sg.cut 2 oD (bW iA (BW a b) [⟨[],[0,16],[1,2,4,6]⟩,⟨[(.cell 0 1,.lev a)],[0,16],[1,2,4,6]⟩]) (fun ⟨f,g,i,j,k,l,m⟩=>Sg.cut 1 oD (bW iA (BX a b f g i j k l m) [⟨[],[0,1],[1,2,4,6,16]⟩,⟨[],[0,1],[1,2,4,6,16]⟩]) (fun t=>Sg.cut 3 oD (bW iA BZ [⟨[(.cell 1 1,.fre 1 1 (.ns .u64 ([]:List Int)))],[1],[4,5]⟩,⟨[],[1],[4,5]⟩]) (fun ⟨u,v,w,y,z,A⟩=>bW iA _ [⟨[],[0],[4,5]⟩]))))
    (fun x=>by cases x with | r0 n o p q r s=>exact nn [.agg [.bool false o,.imm .free (.ns .u64 p) 1 1 q r,.int .i64 s],.int .i64 ((n:Nat):Int)])
def kB:Option bP→Bool
  | some _=>true
  | none=>false
def ln:Option bP→Nat
  | some (.r0 x _ _ _ _ _)=>x
  | _=>0
def lp:Option bP→Bool
  | some (.r0 _ x _ _ _ _)=>x
  | _=>false
def lq:Option bP→List Int
  | some (.r0 _ _ x _ _ _)=>x
  | _=>[]
def lr:Option bP→Nat
  | some (.r0 _ _ _ x _ _)=>x
  | _=>0
def lu:Option bP→Nat
  | some (.r0 _ _ _ _ x _)=>x
  | _=>0
def lw:Option bP→Int
  | some (.r0 _ _ _ _ _ x)=>x
  | _=>0
theorem B2{x:Option bP}(h:kB x=true) :x=some (.r0 (ln x) (lp x) (lq x) (lr x) (lu x) (lw x)):=by
  unfold kB at h
  split at h<;>first | rfl | (cases h;done) | (rename_i y;cases y;rfl)
def vK:aM:=cR pv (.cons (.agg (.cons .bool (.cons (.ns .u64) (.cons (.int .i64) .nil)))) (.cons (.int .i64) .nil)) fun t=>(fun q=>[⟨qa (.r0 (ln q) (lp q) (lq q) (lr q) (lu q) (lw q)),[kB q]⟩]) (dI t.1.1 t.1.2.1.2 t.1.2.2.1 t.2.1)
theorem yf:aX prog vK:=a9 fun t=>(ba (fun h=>B1 t.1.1 t.1.2.1.1 t.1.2.1.2 t.1.2.2.1 t.2.1 (B2 h)) bu)
def vL:List aM:=vK::AL
theorem lz:bh prog (bk vL):=ay yf iA
inductive d6 where
  | r0 (a:Nat)
def vM:d6→AE×aK
  | .r0 a=>(.ret,⟨am 26 [(2,.int .i64 ((a:Nat):Int))],[],0⟩)
theorem B3:k9 vM:=by intro x;cases x<;>(intro h;cases h)
def qb:d6→gS
  | .r0 a=>⟨.int .i64 ((a:Nat):Int),[]⟩
def B4(_:Unit) :aK:=⟨am 26 [],[],0⟩
def kC(a : Int) : T ((Unit) ⊕ (d6)) :=
  .need (decide ((0:Int)≤(52:Int)))<|.ask ((cN .and .u64 (Int.fdiv a (2^(min (Int.toNat (52:Int)) (IntKind.u64.bits)))) (2047:Int))==(2047:Int))
    (.ask ((cN .and .u64 a (4503599627370495:Int)) != (0:Int))
      (.leaf (.inr (.r0 5)))
      (.ask ((cN .and .u64 (Int.fdiv a (2^(min (Int.toNat (52:Int)) (IntKind.u64.bits)))) (2047:Int))==(2047:Int))
        (.leaf (.inr (.r0 4)))
        (.ask ((cN .and .u64 (Int.fdiv a (2^(min (Int.toNat (52:Int)) (IntKind.u64.bits)))) (2047:Int)) != (0:Int))
          (.leaf (.inr (.r0 3)))
          (.ask ((cN .and .u64 a (4503599627370495:Int)) != (0:Int))
            (.leaf (.inr (.r0 2)))
            (.leaf (.inl ()))))))
    (.ask ((cN .and .u64 (Int.fdiv a (2^(min (Int.toNat (52:Int)) (IntKind.u64.bits)))) (2047:Int))==(2047:Int))
      (.leaf (.inr (.r0 4)))
      (.ask ((cN .and .u64 (Int.fdiv a (2^(min (Int.toNat (52:Int)) (IntKind.u64.bits)))) (2047:Int)) != (0:Int))
        (.leaf (.inr (.r0 3)))
        (.ask ((cN .and .u64 a (4503599627370495:Int)) != (0:Int))
          (.leaf (.inr (.r0 2)))
          (.leaf (.inl ())))))
def B5:T ((Empty)⊕(d6)) :=
  .leaf (.inr (.r0 1))
def jw(a:Int) :Option d6:=nm (aS ((kC a).run) fun _ =>
  (B5).run)
theorem B6(a:Int){x:d6}(h:jw a=some x) :ah prog vi [] [.int .u64 a] (qb x) :=
  oO false qb vM h (Sg.cut 3 B3 (bW lz B4 [⟨[],[],[2]⟩,⟨[],[],[2]⟩,⟨[],[],[2]⟩,⟨[],[],[2]⟩,⟨[],[],[]⟩,⟨[],[],[2]⟩,⟨[],[],[2]⟩,⟨[],[],[2]⟩,⟨[],[],[]⟩]) (fun _=>bW lz _ [⟨[],[],[2]⟩]))
    (fun x=>by cases x with | r0 b=>exact nn [.int .i64 ((b:Nat):Int)])
def kD:Option d6→Bool
  | some _=>true
  | none=>false
def lA:Option d6→Nat
  | some (.r0 x)=>x
  | _=>0
theorem B7{x:Option d6}(h:kD x=true) :x=some (.r0 (lA x)):=by
  unfold kD at h
  split at h<;>first | rfl | (cases h;done) | (rename_i y;cases y;rfl)
def vN:aM:=cR vi (.cons (.int .u64) .nil) fun t=>(fun q=>[⟨qb (.r0 (lA q)),[kD q]⟩]) (jw t.1)
theorem yg:aX prog vN:=a9 fun t=>(ba (fun h=>B6 t.1 (B7 h)) bu)
def vO:List aM:=vN::vL
theorem lB:bh prog (bk vO):=ay yg lz
inductive c5 where
  | r0 (a:Nat) (b:Bool) (c:Int) (d:Int)
def vP:c5→AE×aK
  | .r0 a b c d=>(.ret,⟨am 36 [(2,.ptr 0 1 0 0),(3,.int .i64 ((a:Nat):Int))],[(0,.vs [.bool false b,.int .u64 c,.int .i64 d])],1⟩)
theorem B8:k9 vP:=by intro x;cases x<;>(intro h;cases h)
def qc:c5→gS
  | .r0 a b c d=>⟨.tup [.agg [.bool false b,.int .u64 c,.int .i64 d],.int .i64 ((a:Nat):Int)],[]⟩
def B9(a:Int) :Nat×Bool×Bool×Int→aK:=fun (b,c,d,e)=>⟨am 36 [(0,.int .u64 a),(2,.ptr 0 1 0 0),(4,.ptr 1 1 0 0),(12,.int .i64 ((b:Nat):Int))],[(0,.vs [.bool false c,.int .u64 (0:Int),.int .i64 (0:Int)]),(1,.vs [.bool false d,.int .u64 e,.int .i64 (-1074:Int)])],2⟩
def tE(a:Int) :T ((Nat×Bool×Bool×Int)⊕(c5)) :=
  .need (decide ((0:Int)≤(63:Int)))<|.need (kD (jw a))<|.leaf (.inl ((lA (jw a)),false,((Int.fdiv a (2^(min (Int.toNat (63:Int)) (IntKind.u64.bits))))==(1:Int)),(cN .and .u64 a (4503599627370495:Int))))
def oG(a:Int)(b:Nat)(c:Bool)(d:Int) :T ((Empty)⊕(c5)) :=
  .ask (((b:Nat):Int)==(3:Int))
    (.need (decide ((0:Int)≤(52:Int)))<|.need (eX .i64 ((IntKind.i64.wrap (cN .and .u64 (Int.fdiv a (2^(min (Int.toNat (52:Int)) (IntKind.u64.bits)))) (2047:Int)))-(1:Int)))<|.need (eX .i64 ((-1074:Int)+((IntKind.i64.wrap (cN .and .u64 (Int.fdiv a (2^(min (Int.toNat (52:Int)) (IntKind.u64.bits)))) (2047:Int)))-(1:Int))))<|.leaf (.inr (.r0 0 c (cN .or .u64 d (4503599627370496:Int)) ((-1074:Int)+((IntKind.i64.wrap (cN .and .u64 (Int.fdiv a (2^(min (Int.toNat (52:Int)) (IntKind.u64.bits)))) (2047:Int)))-(1:Int))))))
    (.ask (((b:Nat):Int)==(2:Int))
      (.leaf (.inr (.r0 0 c d (-1074:Int))))
      (.ask (((b:Nat):Int)==(1:Int))
        (.leaf (.inr (.r0 0 c d (0:Int))))
        (.leaf (.inr (.r0 2 false (0:Int) (0:Int))))))
def cJ(a:Int) :Option c5:=nm (aS ((tE a).run) fun (b,e,c,d) =>
  (oG a b c d).run)
theorem Ca(a:Int){x:c5}(h:cJ a=some x) :ah prog vh [] [.int .u64 a] (qc x) :=
  oO false qc vP h (Sg.cut 3 B8 (bW lB (B9 a) [⟨[],[0,128],[0,2,4,12]⟩]) (fun ⟨f,g,i,j⟩=>bW lB _ [⟨[],[0],[2,3]⟩,⟨[],[0],[2,3]⟩,⟨[],[0],[2,3]⟩,⟨[],[0],[2,3]⟩]))
    (fun x=>by cases x with | r0 b c d e=>exact nn [.agg [.bool false c,.int .u64 d,.int .i64 e],.int .i64 ((b:Nat):Int)])
def iB:Option c5→Bool
  | some _=>true
  | none=>false
def iN:Option c5→Nat
  | some (.r0 x _ _ _)=>x
  | _=>0
def iO:Option c5→Bool
  | some (.r0 _ x _ _)=>x
  | _=>false
def iP:Option c5→Int
  | some (.r0 _ _ x _)=>x
  | _=>0
def iQ:Option c5→Int
  | some (.r0 _ _ _ x)=>x
  | _=>0
theorem Cb{x:Option c5}(h:iB x=true) :x=some (.r0 (iN x) (iO x) (iP x) (iQ x)):=by
  unfold iB at h
  split at h<;>first | rfl | (cases h;done) | (rename_i y;cases y;rfl)
def vQ:aM:=cR vh (.cons (.int .u64) .nil) fun t=>(fun q=>[⟨qc (.r0 (iN q) (iO q) (iP q) (iQ q)),[iB q]⟩]) (cJ t.1)
theorem yh:aX prog vQ:=a9 fun t=>(ba (fun h=>Ca t.1 (Cb h)) bu)
def vR:List aM:=vQ::vO
theorem iR:bh prog (bk vR):=ay yh lB
inductive dD where
  | r0 (a:Nat) (b:Bool) (c:List Int) (d:Nat) (e:Nat) (f:Int)
def Da:dD→AE×aK
  | .r0 a b c d e f=>(.ret,⟨am 25 [(2,.ptr 0 1 0 0),(3,.int .i64 ((a:Nat):Int))],[(0,.vs [.bool false b,.imm .free (.ns .u64 c) 1 1 d e,.int .i64 f])],1⟩)
theorem AM:k9 Da:=by intro x;cases x<;>(intro h;cases h)
def wQ:dD→gS
  | .r0 a b c d e f=>⟨.tup [.agg [.bool false b,.imm .free (.ns .u64 c) 1 1 d e,.int .i64 f],.int .i64 ((a:Nat):Int)],[]⟩
def Jm:Nat×Bool×Bool×Int×Int→aK:=fun (a,b,c,d,e)=>⟨am 25 [(2,.ptr 0 1 0 0),(4,.ptr 1 1 0 0),(5,.int .i64 ((a:Nat):Int))],[(0,.vs [.bool false b,.nsl,.int .i64 (0:Int)]),(1,.vs [.bool false c,.int .u64 d,.int .i64 e])],2⟩
def AN(a:Nat) :T ((Nat×Bool×Bool×Int×Int)⊕(dD)) :=
  .ask (oP a a)
    (.need (iB (cJ (9221120237041090560:Int)))<|.leaf (.inl ((iN (cJ (9221120237041090560:Int))),false,(iO (cJ (9221120237041090560:Int))),(iP (cJ (9221120237041090560:Int))),(iQ (cJ (9221120237041090560:Int))))))
    (.alt 0
      (.need (!isNaN a)<|.need (iB (cJ ((a:Nat):Int)))<|.leaf (.inl ((iN (cJ ((a:Nat):Int))),false,(iO (cJ ((a:Nat):Int))),(iP (cJ ((a:Nat):Int))),(iQ (cJ ((a:Nat):Int))))))
      (.fail))
def Jn:Bool×(List Int)×Nat×Nat×Int→aK:=fun (a,b,c,d,e)=>⟨am 25 [(2,.ptr 0 1 0 0),(3,.int .i64 (0:Int))],[(0,.vs [.bool false a,.imm .free (.ns .u64 b) 1 1 c d,.int .i64 e])],1⟩
def uB(d:Nat)(b:Bool)(a:Int)(c:Int) :T ((Bool×(List Int)×Nat×Nat×Int)⊕(dD)) :=
  .ask (((d:Nat):Int) != (0:Int))
    (.leaf (.inr (.r0 d false ([]:List Int) 0 0 (0:Int))))
    (.need (o5 (ca a))<|.need (bg (d9 (ca a)) (ee (ca a)) (ef (ca a)))<|.need (dG (ao b (aa (d9 (ca a)) (ee (ca a)) (ef (ca a))) c))<|.leaf (.inl ((cw (ao b (aa (d9 (ca a)) (ee (ca a)) (ef (ca a))) c)),(cx (ao b (aa (d9 (ca a)) (ee (ca a)) (ef (ca a))) c)),(cy (ao b (aa (d9 (ca a)) (ee (ca a)) (ef (ca a))) c)),(cz (ao b (aa (d9 (ca a)) (ee (ca a)) (ef (ca a))) c)),(cA (ao b (aa (d9 (ca a)) (ee (ca a)) (ef (ca a))) c)))))
def Jo(a:Bool)(b:List Int)(c:Nat)(d:Nat)(e:Int) :T ((Empty)⊕(dD)) :=
  .leaf (.inr (.r0 0 a b c d e))
def bO(a:Nat) :Option dD:=nm (aS ((AN a).run) fun (b,k,c,d,e) =>
  aS ((uB b c d e).run) fun (f,g,h,i,j) =>
  (Jo f g h i j).run)
theorem Jp(a:Nat){x:dD}(h:bO a=some x) :ah prog ww [] [.flt false a] (wQ x) :=
  oO true wQ Da h (Sg.cut 2 AM (bW iR Jm [⟨[],[0,128],[2,4,5]⟩,⟨[],[0,128],[2,4,5]⟩]) (fun ⟨i,j,k,l,m⟩=>Sg.cut 3 AM (bW iR Jn [⟨[(.cell 0 1,.fre 1 1 (.ns .u64 ([]:List Int)))],[0],[2,3]⟩,⟨[],[0],[2,3]⟩]) (fun ⟨n,o,p,q,r⟩=>bW iR _ [⟨[],[0],[2,3]⟩])))
    (fun x=>by cases x with | r0 b c d e f g=>exact nn [.agg [.bool false c,.imm .free (.ns .u64 d) 1 1 e f,.int .i64 g],.int .i64 ((b:Nat):Int)])
def kf:Option dD→Bool
  | some _=>true
  | none=>false
def jx:Option dD→Nat
  | some (.r0 x _ _ _ _ _)=>x
  | _=>0
def jy:Option dD→Bool
  | some (.r0 _ x _ _ _ _)=>x
  | _=>false
def jz:Option dD→List Int
  | some (.r0 _ _ x _ _ _)=>x
  | _=>[]
def jA:Option dD→Nat
  | some (.r0 _ _ _ x _ _)=>x
  | _=>0
def jB:Option dD→Nat
  | some (.r0 _ _ _ _ x _)=>x
  | _=>0
def jC:Option dD→Int
  | some (.r0 _ _ _ _ _ x)=>x
  | _=>0
theorem Jq{x:Option dD}(h:kf x=true) :x=some (.r0 (jx x) (jy x) (jz x) (jA x) (jB x) (jC x)):=by
  unfold kf at h
  split at h<;>first | rfl | (cases h;done) | (rename_i y;cases y;rfl)
def Db:aM:=cR ww (.cons (.flt false) .nil) fun t=>(fun q=>[⟨wQ (.r0 (jx q) (jy q) (jz q) (jA q) (jB q) (jC q)),[kf q]⟩]) (bO t.1)
theorem EB:aX prog Db:=a9 fun t=>(ba (fun h=>Jp t.1 (Jq h)) bu)
def Dc:List aM:=Db::vR
theorem qd:bh prog (bk Dc):=ay EB iR
inductive eR where
  | r0 (a:Bool)
def xR:eR→AE×aK
  | .r0 a=>(.ret,⟨am 31 [(2,.bool false a)],[],0⟩)
theorem EC:k9 xR:=by intro x;cases x<;>(intro h;cases h)
def rA:eR→gS
  | .r0 a=>⟨.bool false a,[]⟩
def ED(a:Bool) :aK:=⟨am 31 [(2,.bool false a)],[],0⟩
def vS(a:List Nat)(b:List Nat) :T ((Bool)⊕(eR)) :=
  .ask (decide ((((List.length a):Nat):Int)≤(512:Int)))
    (.ask ((((List.length a):Nat):Int)==(0:Int))
      (.ask ((((List.length b):Nat):Int)==(0:Int))
        (.leaf (.inl true))
        (.ask (decide ((((List.length a):Nat):Int)>(0:Int)))
          (.need (eX .i64 ((((List.length a):Nat):Int)-(1:Int)))<|.leaf (.inl ((((List.length b):Nat):Int)==((((List.length a):Nat):Int)-(1:Int)))))
          (.leaf (.inl false))))
      (.ask (decide ((((List.length a):Nat):Int)>(0:Int)))
        (.need (eX .i64 ((((List.length a):Nat):Int)-(1:Int)))<|.leaf (.inl ((((List.length b):Nat):Int)==((((List.length a):Nat):Int)-(1:Int)))))
        (.leaf (.inl false))))
    (.leaf (.inl false))
def EE(a:Bool) :T ((Empty)⊕(eR)) :=
  .leaf (.inr (.r0 a))
def ja(a:List Nat)(b:List Nat) :Option eR:=nm (aS ((vS a b).run) fun c =>
  (EE c).run)
theorem EF(c:Lv)(a:List Nat)(d:Lv)(b:List Nat){x:eR}(h:ja a b=some x) :ah prog xo [] [.agg [.imm c (.fl a) 1 1 0 (List.length a),.imm d (.fl b) 1 1 0 (List.length b)]] (rA x) :=
  oO false rA xR h (Sg.cut 3 EC (bW qd ED [⟨[],[],[2]⟩,⟨[],[],[2]⟩,⟨[],[],[2]⟩,⟨[],[],[2]⟩,⟨[],[],[2]⟩,⟨[],[],[2]⟩]) (fun f=>bW qd _ [⟨[],[],[2]⟩]))
    (fun x=>by cases x with | r0 e=>exact nn [.bool false e])
def mn:Option eR→Bool
  | some _=>true
  | none=>false
def m4:Option eR→Bool
  | some (.r0 x)=>x
  | _=>false
theorem EG{x:Option eR}(h:mn x=true) :x=some (.r0 (m4 x)):=by
  unfold mn at h
  split at h<;>first | rfl | (cases h;done) | (rename_i y;cases y;rfl)
def xS:aM:=cR xo (.cons (.agg (.cons .fl (.cons .fl .nil))) .nil) fun t=>(fun q=>[⟨rA (.r0 (m4 q)),[mn q]⟩]) (ja t.1.1.2 t.1.2.1.2)
theorem AO:aX prog xS:=a9 fun t=>(ba (fun h=>EF t.1.1.1 t.1.1.2 t.1.2.1.1 t.1.2.1.2 (EG h)) bu)
def xT:List aM:=xS::Dc
theorem jD:bh prog (bk xT):=ay AO qd
inductive cD where
  | r0 (a:Bool)
def jE:cD→AE×aK
  | .r0 a=>(.ret,⟨am 20 [(2,.bool false a)],[],0⟩)
theorem lC:k9 jE:=by intro x;cases x<;>(intro h;cases h)
theorem yi(id:Nat) :py id jE:=by intro x;cases x<;>(intro h;cases h)
def m5:cD→gS
  | .r0 a=>⟨.bool false a,[]⟩
def yj:List Code:=eH (qs mL)
def yk(b:Lv)(a:List Nat)(_:Unit) :aK:=⟨am 20 [(0,.imm b (.fl a) 1 1 0 (List.length a)),(3,.int .i64 (0:Int))],[],0⟩
def ym:T ((Unit)⊕(cD)) :=
  .leaf (.inl ())
def lD(b:Lv)(a:List Nat)(c:Nat) :aK:=⟨am 20 [(0,.imm b (.fl a) 1 1 0 (List.length a)),(3,.int .i64 ((c:Nat):Int))],[],0⟩
def qq(_:Unit) :aK:=⟨am 20 [],[],0⟩
def yn:List Code:=eH (iX ((((yj.drop 2).take 1)).headD .skip))
def fU(b:List Nat)(a:Nat) :T ((Nat)⊕((Unit)⊕(cD))) :=
  .ask (decide (((a:Nat):Int)<(((List.length b):Nat):Int)))
    (.need (fB ((a:Nat):Int) (List.length b))<|.need (fg a (List.length b))<|.need (fB ((a:Nat):Int) (List.length b))<|.need (fg a (List.length b))<|.ask (oP (sW (List.getD b a 0) (List.getD b a 0)) 0)
      (.leaf (.inr (.inr (.r0 false))))
      (.need (eX .i64 (((a+1):Nat):Int))<|.leaf (.inl (a+1))))
    (.leaf (.inr (.inl ())))
def g7(a:List Nat) :Nat→Option ((Nat)⊕((Unit)⊕(cD))):=fun b =>
  (fU a b).run
theorem wR(b:Lv)(a:List Nat)(c:Nat) :Sg prog [] yn (lD b a c) (g7 a c) (lD b a) (fh 0 qq jE):=by
  unfold g7;exact bW jD _ [⟨[],[],[2]⟩,⟨[],[],[0,3]⟩,⟨[],[],[]⟩]
def wS:T ((Empty)⊕(cD)) :=
  .leaf (.inr (.r0 true))
def eA(a:List Nat) :Option cD:=nm (aS ((ym).run) fun _ =>
  aS (d8 (g7 a) 0) fun _ =>
  (wS).run)
theorem yo(b:Lv)(a:List Nat){x:cD}(h:eA a=some x) :ah prog mL [] [.imm b (.fl a) 1 1 0 (List.length a)] (m5 x) :=
  oO false m5 jE h (Sg.cut 2 lC (bW jD (yk b a) [⟨[],[],[0,3]⟩]) (fun _=>Sg.cut 1 lC (KX ⟨[],[],[0,3]⟩ (lD b a) (qq) 0 lC (yi _) (fun c=>wR b a c)) (fun _=>bW jD _ [⟨[],[],[2]⟩])))
    (fun x=>by cases x with | r0 d=>exact nn [.bool false d])
def fV:Option cD→Bool
  | some _=>true
  | none=>false
def f8:Option cD→Bool
  | some (.r0 x)=>x
  | _=>false
theorem yp{x:Option cD}(h:fV x=true) :x=some (.r0 (f8 x)):=by
  unfold fV at h
  split at h<;>first | rfl | (cases h;done) | (rename_i y;cases y;rfl)
def rB:aM:=cR mL (.cons .fl .nil) fun t=>(fun q=>[⟨m5 (.r0 (f8 q)),[fV q]⟩]) (eA t.1.2)
theorem vT:aX prog rB:=a9 fun t=>(ba (fun h=>yo t.1.1 t.1.2 (yp h)) bu)
def rC:List aM:=rB::xT
theorem jF:bh prog (bk rC):=ay vT jD
inductive dJ where
  | r0 (a:Bool)
def tF:dJ→AE×aK
  | .r0 a=>(.ret,⟨am 18 [(2,.bool false a)],[],0⟩)
theorem AP:k9 tF:=by intro x;cases x<;>(intro h;cases h)
def oH:dJ→gS
  | .r0 a=>⟨.bool false a,[]⟩
def AQ(a:Bool) :aK:=⟨am 18 [(2,.bool false a)],[],0⟩
def rD(a:List Nat)(b:List Nat) :T ((Bool)⊕(dJ)) :=
  .ask (decide ((((List.length a):Nat):Int)≤(512:Int)))
    (.need (eX .i64 ((((List.length a):Nat):Int)-(1:Int)))<|.leaf (.inl ((((List.length b):Nat):Int)==(mC ((((List.length a):Nat):Int)-(1:Int)) (0:Int)))))
    (.leaf (.inl false))
def AR(a:Bool) :T ((Empty)⊕(dJ)) :=
  .leaf (.inr (.r0 a))
def eV(a:List Nat)(b:List Nat) :Option dJ:=nm (aS ((rD a b).run) fun c =>
  (AR c).run)
theorem AS(c:Lv)(a:List Nat)(d:Lv)(b:List Nat){x:dJ}(h:eV a b=some x) :ah prog tm [] [.agg [.imm c (.fl a) 1 1 0 (List.length a),.imm d (.fl b) 1 1 0 (List.length b)]] (oH x) :=
  oO false oH tF h (Sg.cut 2 AP (bW jF AQ [⟨[],[],[2]⟩,⟨[],[],[2]⟩]) (fun f=>bW jF _ [⟨[],[],[2]⟩]))
    (fun x=>by cases x with | r0 e=>exact nn [.bool false e])
def gC:Option dJ→Bool
  | some _=>true
  | none=>false
def g8:Option dJ→Bool
  | some (.r0 x)=>x
  | _=>false
theorem AT{x:Option dJ}(h:gC x=true) :x=some (.r0 (g8 x)):=by
  unfold gC at h
  split at h<;>first | rfl | (cases h;done) | (rename_i y;cases y;rfl)
def tG:aM:=cR tm (.cons (.agg (.cons .fl (.cons .fl .nil))) .nil) fun t=>(fun q=>[⟨oH (.r0 (g8 q)),[gC q]⟩]) (eV t.1.1.2 t.1.2.1.2)
theorem wT:aX prog tG:=a9 fun t=>(ba (fun h=>AS t.1.1.1 t.1.1.2 t.1.2.1.1 t.1.2.1.2 (AT h)) bu)
def tH:List aM:=tG::rC
theorem g9:bh prog (bk tH):=ay wT jF
inductive aF where
  | r0 (a:Int)
def bQ:aF→AE×aK
  | .r0 a=>(.ret,⟨am 19 [(4,.int .i64 a)],[],0⟩)
theorem cK:k9 bQ:=by intro x;cases x<;>(intro h;cases h)
theorem hH(id:Nat) :py id bQ:=by intro x;cases x<;>(intro h;cases h)
def cP:aF→gS
  | .r0 a=>⟨.int .i64 a,[]⟩
def hJ:List Code:=eH (qs iW)
def h8(b:Lv)(a:List Nat)(_:Unit) :aK:=⟨am 19 [(0,.imm b (.fl a) 1 1 0 (List.length a)),(1,.fn (.func gV) [] []),(7,.int .i64 (((List.length a):Nat):Int)),(8,.int .i64 (0:Int))],[],0⟩
def ia:T ((Unit)⊕(aF)) :=
  .leaf (.inl ())
def cL(b:Lv)(a:List Nat)(c:Nat) :aK:=⟨am 19 [(0,.imm b (.fl a) 1 1 0 (List.length a)),(1,.fn (.func gV) [] []),(7,.int .i64 (((List.length a):Nat):Int)),(8,.int .i64 ((c:Nat):Int))],[],0⟩
def dT(_:Unit) :aK:=⟨am 19 [],[],0⟩
def ib:List Code:=eH (iX ((((hJ.drop 2).take 1)).headD .skip))
def bz(b:List Nat)(a:Nat) :T ((Nat)⊕((Unit)⊕(aF))) :=
  .ask (decide (((a:Nat):Int)<(((List.length b):Nat):Int)))
    (.need (fB ((a:Nat):Int) (List.length b))<|.need (fg a (List.length b))<|.ask (oP (List.getD b a 0) (List.getD b a 0))
      (.leaf (.inr (.inr (.r0 ((a:Nat):Int)))))
      (.ask ((0:Int)==(0:Int))
        (.ask (ES (cr (List.getD b a 0)) 9218868437227405311)
          (.leaf (.inr (.inr (.r0 ((a:Nat):Int)))))
          (.need (eX .i64 (((a+1):Nat):Int))<|.leaf (.inl (a+1))))
        (.fail)))
    (.leaf (.inr (.inl ())))
def bK(a:List Nat) :Nat→Option ((Nat)⊕((Unit)⊕(aF))):=fun b =>
  (bz a b).run
theorem gD(b:Lv)(a:List Nat)(c:Nat) :Sg prog [] ib (cL b a c) (bK a c) (cL b a) (fh 0 dT bQ):=by
  unfold bK;exact bW g9 _ [⟨[],[],[4]⟩,⟨[],[],[4]⟩,⟨[],[],[0,1,7,8]⟩,⟨[],[],[]⟩]
def gE:T ((Empty)⊕(aF)) :=
  .leaf (.inr (.r0 (-1:Int)))
def aW(a:List Nat) :Option aF:=nm (aS ((ia).run) fun _ =>
  aS (d8 (bK a) 0) fun _ =>
  (gE).run)
theorem ic(b:Lv)(a:List Nat){x:aF}(h:aW a=some x) :ah prog iW [] [.imm b (.fl a) 1 1 0 (List.length a),.fn (.func gV) [] []] (cP x) :=
  oO false cP bQ h (Sg.cut 2 cK (bW g9 (h8 b a) [⟨[],[],[0,1,7,8]⟩]) (fun _=>Sg.cut 1 cK (KX ⟨[],[],[0,1,7,8]⟩ (cL b a) (dT) 0 cK (hH _) (fun c=>gD b a c)) (fun _=>bW g9 _ [⟨[],[],[4]⟩])))
    (fun x=>by cases x with | r0 d=>exact nn [.int .i64 d])
def bA:Option aF→Bool
  | some _=>true
  | none=>false
def a5:Option aF→Int
  | some (.r0 x)=>x
  | _=>0
theorem ig{x:Option aF}(h:bA x=true) :x=some (.r0 (a5 x)):=by
  unfold bA at h
  split at h<;>first | rfl | (cases h;done) | (rename_i y;cases y;rfl)
def dV:aM:=cR iW (.cons .fl (.cons (.fn gV .nil .nil) .nil)) fun t=>(fun q=>[⟨cP (.r0 (a5 q)),[bA q]⟩]) (aW t.1.2)
theorem gh:aX prog dV:=a9 fun t=>(ba (fun h=>ic t.1.1 t.1.2 (ig h)) bu)
def dW:List aM:=dV::tH
theorem co:bh prog (bk dW):=ay gh g9
inductive dK where
  | r0 (a:Nat)
def tI:dK→AE×aK
  | .r0 a=>(.ret,⟨am 18 [(2,.int .i64 ((a:Nat):Int))],[],0⟩)
theorem AU:k9 tI:=by intro x;cases x<;>(intro h;cases h)
def oI:dK→gS
  | .r0 a=>⟨.int .i64 ((a:Nat):Int),[]⟩
def AW(_:Unit) :aK:=⟨am 18 [],[],0⟩
def m6(a:List Nat)(b:List Nat) :T ((Unit)⊕(dK)) :=
  .need (bg 0 (List.length a) a)<|.need (bg 0 (List.length b) b)<|.need (gC (eV (aa 0 (List.length a) a) (aa 0 (List.length b) b)))<|.ask (!(g8 (eV (aa 0 (List.length a) a) (aa 0 (List.length b) b))))
    (.leaf (.inr (.r0 2)))
    (.need (bg 0 (List.length a) a)<|.need (bA (aW (aa 0 (List.length a) a)))<|.ask (!(!(decide ((a5 (aW (aa 0 (List.length a) a)))≥(0:Int)))))
      (.leaf (.inr (.r0 10)))
      (.need (bg 0 (List.length b) b)<|.need (bA (aW (aa 0 (List.length b) b)))<|.ask (!(!(decide ((a5 (aW (aa 0 (List.length b) b)))≥(0:Int)))))
        (.leaf (.inr (.r0 10)))
        (.leaf (.inl ()))))
def AX:T ((Empty)⊕(dK)) :=
  .leaf (.inr (.r0 0))
def iC(a:List Nat)(b:List Nat) :Option dK:=nm (aS ((m6 a b).run) fun _ =>
  (AX).run)
theorem AY(c:Lv)(a:List Nat)(d:Lv)(b:List Nat){x:dK}(h:iC a b=some x) :ah prog tn [] [.agg [.imm c (.fl a) 1 1 0 (List.length a),.imm d (.fl b) 1 1 0 (List.length b)]] (oI x) :=
  oO false oI tI h (Sg.cut 2 AU (bW co AW [⟨[],[],[2]⟩,⟨[],[],[2]⟩,⟨[],[],[2]⟩,⟨[],[],[]⟩]) (fun _=>bW co _ [⟨[],[],[2]⟩]))
    (fun x=>by cases x with | r0 e=>exact nn [.int .i64 ((e:Nat):Int)])
def jG:Option dK→Bool
  | some _=>true
  | none=>false
def kg:Option dK→Nat
  | some (.r0 x)=>x
  | _=>0
theorem AZ{x:Option dK}(h:jG x=true) :x=some (.r0 (kg x)):=by
  unfold jG at h
  split at h<;>first | rfl | (cases h;done) | (rename_i y;cases y;rfl)
def tJ:aM:=cR tn (.cons (.agg (.cons .fl (.cons .fl .nil))) .nil) fun t=>(fun q=>[⟨oI (.r0 (kg q)),[jG q]⟩]) (iC t.1.1.2 t.1.2.1.2)
theorem wU:aX prog tJ:=a9 fun t=>(ba (fun h=>AY t.1.1.1 t.1.1.2 t.1.2.1.1 t.1.2.1.2 (AZ h)) bu)
def tK:List aM:=tJ::dW
theorem kh:bh prog (bk tK):=ay wU co
inductive bH where
  | r0 (a:Nat) (b:Nat) (c:Nat) (d:Nat) (e:Nat) (f:List Nat) (g:List Nat) (h:List Nat) (i:List Nat)
def vU:bH→AE×aK
  | .r0 e a b c d f g h i=>(.ret,⟨am 65 [(2,.ptr 0 1 0 0),(3,.ptr 1 1 0 0),(4,.flt false e)],[(0,.vs [.sl 2 1 1 0 a a,.sl 3 1 1 0 b b]),(1,.vs [.sl 4 1 1 0 c c,.sl 5 1 1 0 d d]),(2,.fl f),(3,.fl g),(4,.fl h),(5,.fl i)],6⟩)
theorem Cc:k9 vU:=by intro x;cases x<;>(intro h;cases h)
def qe:bH→gS
  | .r0 e a b c d f g h i=>⟨.tup [.agg [.sl 0 1 1 0 a a,.sl 1 1 1 0 b b],.agg [.sl 2 1 1 0 c c,.sl 3 1 1 0 d d],.flt false e],[some (.fl f),some (.fl g),some (.fl h),some (.fl i)]⟩
def Cd:Nat×Nat×Nat×Nat×Nat×(List Nat)×(List Nat)×(List Nat)×(List Nat)→aK:=fun (e,a,b,c,d,f,g,h,i)=>⟨am 65 [(2,.ptr 0 1 0 0),(3,.ptr 1 1 0 0),(6,.flt false e),(7,.ptr 2 1 0 0),(8,.ptr 3 1 0 0)],[(0,.vs [.nsl,.nsl]),(1,.vs [.nsl,.nsl]),(2,.vs [.sl 4 1 1 0 a a,.sl 5 1 1 0 b b]),(3,.vs [.sl 6 1 1 0 c c,.sl 7 1 1 0 d d]),(4,.fl f),(5,.fl g),(6,.fl h),(7,.fl i)],8⟩
def tL(a:List Nat)(b:List Nat) :T ((Nat×Nat×Nat×Nat×Nat×(List Nat)×(List Nat)×(List Nat)×(List Nat))⊕(bH)) :=
  .need ((2:Int) != (0:Int))<|.need (eX .i64 (Int.tdiv (((List.length a):Nat):Int) (2:Int)))<|.need (eX .i64 ((Int.tdiv (((List.length a):Nat):Int) (2:Int))-(1:Int)))<|.need (fB ((Int.tdiv (((List.length a):Nat):Int) (2:Int))-(1:Int)) (List.length b))<|.need (fg (Int.toNat ((Int.tdiv (((List.length a):Nat):Int) (2:Int))-(1:Int))) (List.length b))<|.need (qv (Int.tdiv (((List.length a):Nat):Int) (2:Int)) (List.length a))<|.need (qv (0:Int) (Int.toNat (Int.tdiv (((List.length a):Nat):Int) (2:Int))))<|.need (bg 0 (Int.toNat (Int.tdiv (((List.length a):Nat):Int) (2:Int))) a)<|.need (aU (List.length (aa 0 (Int.toNat (Int.tdiv (((List.length a):Nat):Int) (2:Int))) a)))<|.need (eX .i64 ((Int.tdiv (((List.length a):Nat):Int) (2:Int))-(1:Int)))<|.need (qv ((Int.tdiv (((List.length a):Nat):Int) (2:Int))-(1:Int)) (List.length b))<|.need (qv (0:Int) (Int.toNat ((Int.tdiv (((List.length a):Nat):Int) (2:Int))-(1:Int))))<|.need (bg 0 (Int.toNat ((Int.tdiv (((List.length a):Nat):Int) (2:Int))-(1:Int))) b)<|.need (aU (List.length (aa 0 (Int.toNat ((Int.tdiv (((List.length a):Nat):Int) (2:Int))-(1:Int))) b)))<|.need (qv (((List.length a):Nat):Int) (List.length a))<|.need (qv (Int.tdiv (((List.length a):Nat):Int) (2:Int)) (List.length a))<|.need (bg (Int.toNat (Int.tdiv (((List.length a):Nat):Int) (2:Int))) ((List.length a)-(Int.toNat (Int.tdiv (((List.length a):Nat):Int) (2:Int)))) a)<|.need (aU (List.length (aa (Int.toNat (Int.tdiv (((List.length a):Nat):Int) (2:Int))) ((List.length a)-(Int.toNat (Int.tdiv (((List.length a):Nat):Int) (2:Int)))) a)))<|.need (qv (((List.length b):Nat):Int) (List.length b))<|.need (qv (Int.tdiv (((List.length a):Nat):Int) (2:Int)) (List.length b))<|.need (bg (Int.toNat (Int.tdiv (((List.length a):Nat):Int) (2:Int))) ((List.length b)-(Int.toNat (Int.tdiv (((List.length a):Nat):Int) (2:Int)))) b)<|.need (aU (List.length (aa (Int.toNat (Int.tdiv (((List.length a):Nat):Int) (2:Int))) ((List.length b)-(Int.toNat (Int.tdiv (((List.length a):Nat):Int) (2:Int)))) b)))<|.ask (oP (List.getD b (Int.toNat ((Int.tdiv (((List.length a):Nat):Int) (2:Int))-(1:Int))) 0) 0)
    (.need (eX .i64 ((Int.tdiv (((List.length a):Nat):Int) (2:Int))-(1:Int)))<|.need (fB ((Int.tdiv (((List.length a):Nat):Int) (2:Int))-(1:Int)) (List.length (aa 0 (Int.toNat (Int.tdiv (((List.length a):Nat):Int) (2:Int))) a)))<|.need (fg (Int.toNat ((Int.tdiv (((List.length a):Nat):Int) (2:Int))-(1:Int))) (List.length (aa 0 (Int.toNat (Int.tdiv (((List.length a):Nat):Int) (2:Int))) a)))<|.need (fB ((Int.tdiv (((List.length a):Nat):Int) (2:Int))-(1:Int)) (List.length (aa 0 (Int.toNat (Int.tdiv (((List.length a):Nat):Int) (2:Int))) a)))<|.need (fg (Int.toNat ((Int.tdiv (((List.length a):Nat):Int) (2:Int))-(1:Int))) (List.length (aa 0 (Int.toNat (Int.tdiv (((List.length a):Nat):Int) (2:Int))) a)))<|.need (fB (0:Int) (List.length (aa (Int.toNat (Int.tdiv (((List.length a):Nat):Int) (2:Int))) ((List.length a)-(Int.toNat (Int.tdiv (((List.length a):Nat):Int) (2:Int)))) a)))<|.need (fg 0 (List.length (aa (Int.toNat (Int.tdiv (((List.length a):Nat):Int) (2:Int))) ((List.length a)-(Int.toNat (Int.tdiv (((List.length a):Nat):Int) (2:Int)))) a)))<|.need (fB (0:Int) (List.length (aa (Int.toNat (Int.tdiv (((List.length a):Nat):Int) (2:Int))) ((List.length a)-(Int.toNat (Int.tdiv (((List.length a):Nat):Int) (2:Int)))) a)))<|.need (fg 0 (List.length (aa (Int.toNat (Int.tdiv (((List.length a):Nat):Int) (2:Int))) ((List.length a)-(Int.toNat (Int.tdiv (((List.length a):Nat):Int) (2:Int)))) a)))<|.leaf (.inl ((List.getD b (Int.toNat ((Int.tdiv (((List.length a):Nat):Int) (2:Int))-(1:Int))) 0),(List.length (aa 0 (Int.toNat (Int.tdiv (((List.length a):Nat):Int) (2:Int))) a)),(List.length (aa 0 (Int.toNat ((Int.tdiv (((List.length a):Nat):Int) (2:Int))-(1:Int))) b)),(List.length (aa (Int.toNat (Int.tdiv (((List.length a):Nat):Int) (2:Int))) ((List.length a)-(Int.toNat (Int.tdiv (((List.length a):Nat):Int) (2:Int)))) a)),(List.length (aa (Int.toNat (Int.tdiv (((List.length a):Nat):Int) (2:Int))) ((List.length b)-(Int.toNat (Int.tdiv (((List.length a):Nat):Int) (2:Int)))) b)),(List.set (aa 0 (Int.toNat (Int.tdiv (((List.length a):Nat):Int) (2:Int))) a) (Int.toNat ((Int.tdiv (((List.length a):Nat):Int) (2:Int))-(1:Int))) (sW (List.getD (aa 0 (Int.toNat (Int.tdiv (((List.length a):Nat):Int) (2:Int))) a) (Int.toNat ((Int.tdiv (((List.length a):Nat):Int) (2:Int))-(1:Int))) 0) (cr (List.getD b (Int.toNat ((Int.tdiv (((List.length a):Nat):Int) (2:Int))-(1:Int))) 0)))),(aa 0 (Int.toNat ((Int.tdiv (((List.length a):Nat):Int) (2:Int))-(1:Int))) b),(List.set (aa (Int.toNat (Int.tdiv (((List.length a):Nat):Int) (2:Int))) ((List.length a)-(Int.toNat (Int.tdiv (((List.length a):Nat):Int) (2:Int)))) a) 0 (sW (List.getD (aa (Int.toNat (Int.tdiv (((List.length a):Nat):Int) (2:Int))) ((List.length a)-(Int.toNat (Int.tdiv (((List.length a):Nat):Int) (2:Int)))) a) 0 0) (cr (List.getD b (Int.toNat ((Int.tdiv (((List.length a):Nat):Int) (2:Int))-(1:Int))) 0)))),(aa (Int.toNat (Int.tdiv (((List.length a):Nat):Int) (2:Int))) ((List.length b)-(Int.toNat (Int.tdiv (((List.length a):Nat):Int) (2:Int)))) b))))
    (.leaf (.inl ((List.getD b (Int.toNat ((Int.tdiv (((List.length a):Nat):Int) (2:Int))-(1:Int))) 0),(List.length (aa 0 (Int.toNat (Int.tdiv (((List.length a):Nat):Int) (2:Int))) a)),(List.length (aa 0 (Int.toNat ((Int.tdiv (((List.length a):Nat):Int) (2:Int))-(1:Int))) b)),(List.length (aa (Int.toNat (Int.tdiv (((List.length a):Nat):Int) (2:Int))) ((List.length a)-(Int.toNat (Int.tdiv (((List.length a):Nat):Int) (2:Int)))) a)),(List.length (aa (Int.toNat (Int.tdiv (((List.length a):Nat):Int) (2:Int))) ((List.length b)-(Int.toNat (Int.tdiv (((List.length a):Nat):Int) (2:Int)))) b)),(aa 0 (Int.toNat (Int.tdiv (((List.length a):Nat):Int) (2:Int))) a),(aa 0 (Int.toNat ((Int.tdiv (((List.length a):Nat):Int) (2:Int))-(1:Int))) b),(aa (Int.toNat (Int.tdiv (((List.length a):Nat):Int) (2:Int))) ((List.length a)-(Int.toNat (Int.tdiv (((List.length a):Nat):Int) (2:Int)))) a),(aa (Int.toNat (Int.tdiv (((List.length a):Nat):Int) (2:Int))) ((List.length b)-(Int.toNat (Int.tdiv (((List.length a):Nat):Int) (2:Int)))) b))))
def Ce(a:Nat)(b:Nat)(c:Nat)(d:Nat)(e:Nat)(f:List Nat)(g:List Nat)(h:List Nat)(i:List Nat) :T ((Empty)⊕(bH)) :=
  .leaf (.inr (.r0 a b c d e f g h i))
def cM(a:List Nat)(b:List Nat) :Option bH:=nm (aS ((tL a b).run) fun (c,d,e,f,g,h,i,j,k) =>
  (Ce c d e f g h i j k).run)
theorem Cf(g:Lv)(a:List Nat)(i:Lv)(b:List Nat){x:bH}(h:cM a b=some x) :ah prog vg [] [.agg [.imm g (.fl a) 1 1 0 (List.length a),.imm i (.fl b) 1 1 0 (List.length b)]] (qe x) :=
  oO false qe vU h (Sg.cut 7 Cc (bW kh Cd [⟨[],[16,32,448,656,320,416,544,624],[2,3,6,7,8]⟩,⟨[],[16,32,448,656,320,416,544,624],[2,3,6,7,8]⟩]) (fun ⟨k,l,m,n,o,p,q,r,s⟩=>bW kh _ [⟨[],[0,1,4,5,6,7],[2,3,4]⟩]))
    (fun x=>by cases x with | r0 j c d e f t u v w=>exact nn [.agg [.sl 2 1 1 0 c c,.sl 3 1 1 0 d d],.agg [.sl 4 1 1 0 e e,.sl 5 1 1 0 f f],.flt false j])
def kE:Option bH→Bool
  | some _=>true
  | none=>false
def lE:Option bH→Nat
  | some (.r0 x _ _ _ _ _ _ _ _)=>x
  | _=>0
def lF:Option bH→Nat
  | some (.r0 _ x _ _ _ _ _ _ _)=>x
  | _=>0
def lG:Option bH→Nat
  | some (.r0 _ _ x _ _ _ _ _ _)=>x
  | _=>0
def lH:Option bH→Nat
  | some (.r0 _ _ _ x _ _ _ _ _)=>x
  | _=>0
def lI:Option bH→Nat
  | some (.r0 _ _ _ _ x _ _ _ _)=>x
  | _=>0
def lJ:Option bH→List Nat
  | some (.r0 _ _ _ _ _ x _ _ _)=>x
  | _=>[]
def lK:Option bH→List Nat
  | some (.r0 _ _ _ _ _ _ x _ _)=>x
  | _=>[]
def lL:Option bH→List Nat
  | some (.r0 _ _ _ _ _ _ _ x _)=>x
  | _=>[]
def lM:Option bH→List Nat
  | some (.r0 _ _ _ _ _ _ _ _ x)=>x
  | _=>[]
theorem Cg{x:Option bH}(h:kE x=true) :x=some (.r0 (lE x) (lF x) (lG x) (lH x) (lI x) (lJ x) (lK x) (lL x) (lM x)):=by
  unfold kE at h
  split at h<;>first | rfl | (cases h;done) | (rename_i y;cases y;rfl)
def vV:aM:=cR vg (.cons (.agg (.cons .fl (.cons .fl .nil))) .nil) fun t=>(fun q=>[⟨qe (.r0 (lE q) (lF q) (lG q) (lH q) (lI q) (lJ q) (lK q) (lL q) (lM q)),[kE q]⟩]) (cM t.1.1.2 t.1.2.1.2)
theorem yq:aX prog vV:=a9 fun t=>(ba (fun h=>Cf t.1.1.1 t.1.1.2 t.1.2.1.1 t.1.2.1.2 (Cg h)) bu)
def vW:List aM:=vV::tK
theorem fW:bh prog (bk vW):=ay yq kh
inductive bB where
  | r0 (a:Nat) (b:Nat) (c:Nat) (d:Nat) (e:Nat) (f:Nat) (g:List Nat) (h:List Nat) (i:List Nat) (j:List Nat)
def vX:bB→AE×aK
  | .r0 e f a b c d g h i j=>(.ret,⟨am 37 [(2,.ptr 0 1 0 0),(3,.ptr 1 1 0 0),(4,.flt false e),(5,.int .i64 ((f:Nat):Int))],[(0,.vs [.sl 2 1 1 0 a a,.sl 3 1 1 0 b b]),(1,.vs [.sl 4 1 1 0 c c,.sl 5 1 1 0 d d]),(2,.fl g),(3,.fl h),(4,.fl i),(5,.fl j)],6⟩)
theorem oJ:k9 vX:=by intro x;cases x<;>(intro h;cases h)
def qf:bB→gS
  | .r0 a b c d e f g h i j=>⟨.tup [.agg [.imm .free (.fl g) 1 1 0 c,.imm .free (.fl h) 1 1 0 d],.agg [.imm .free (.fl i) 1 1 0 e,.imm .free (.fl j) 1 1 0 f],.flt false a,.int .i64 ((b:Nat):Int)],[]⟩
def Ch(c:Lv)(a:List Nat)(d:Lv)(b:List Nat)(e:Bool) :aK:=⟨am 37 [(1,.ptr 0 1 0 0),(2,.ptr 1 1 0 0),(3,.ptr 2 1 0 0),(18,.bool false e)],[(0,.vs [.imm c (.fl a) 1 1 0 (List.length a),.imm d (.fl b) 1 1 0 (List.length b)]),(1,.vs [.nsl,.nsl]),(2,.vs [.nsl,.nsl])],3⟩
def oK(a:List Nat)(b:List Nat) :T ((Bool)⊕(bB)) :=
  .need (bg 0 (List.length a) a)<|.need (bg 0 (List.length b) b)<|.need (gC (eV (aa 0 (List.length a) a) (aa 0 (List.length b) b)))<|.ask (!(g8 (eV (aa 0 (List.length a) a) (aa 0 (List.length b) b))))
    (.leaf (.inl true))
    (.leaf (.inl (decide ((((List.length a):Nat):Int)<(3:Int)))))
def Ci(c:Lv)(a:List Nat)(d:Lv)(b:List Nat)(e:Nat) :aK:=⟨am 37 [(1,.ptr 0 1 0 0),(2,.ptr 1 1 0 0),(3,.ptr 2 1 0 0),(6,.int .i64 ((e:Nat):Int))],[(0,.vs [.imm c (.fl a) 1 1 0 (List.length a),.imm d (.fl b) 1 1 0 (List.length b)]),(1,.vs [.nsl,.nsl]),(2,.vs [.nsl,.nsl])],3⟩
def oL(a:List Nat)(b:List Nat)(c:Bool) :T ((Nat)⊕(bB)) :=
  .ask c
    (.leaf (.inr (.r0 0 2 0 0 0 0 ([]:List Nat) ([]:List Nat) ([]:List Nat) ([]:List Nat))))
    (.need (bg 0 (List.length a) a)<|.need (bg 0 (List.length b) b)<|.need (jG (iC (aa 0 (List.length a) a) (aa 0 (List.length b) b)))<|.leaf (.inl (kg (iC (aa 0 (List.length a) a) (aa 0 (List.length b) b)))))
def Cj:Nat×Nat×Nat×Nat×Nat×(List Nat)×(List Nat)×(List Nat)×(List Nat)→aK:=fun (e,a,b,c,d,f,g,h,i)=>⟨am 37 [(2,.ptr 0 1 0 0),(3,.ptr 1 1 0 0),(7,.ptr 2 1 0 0),(8,.ptr 3 1 0 0),(9,.flt false e)],[(0,.vs [.nsl,.nsl]),(1,.vs [.nsl,.nsl]),(2,.vs [.sl 4 1 1 0 a a,.sl 5 1 1 0 b b]),(3,.vs [.sl 6 1 1 0 c c,.sl 7 1 1 0 d d]),(4,.fl f),(5,.fl g),(6,.fl h),(7,.fl i)],8⟩
def oM(a:List Nat)(b:List Nat)(c:Nat) :T ((Nat×Nat×Nat×Nat×Nat×(List Nat)×(List Nat)×(List Nat)×(List Nat))⊕(bB)) :=
  .ask (((c:Nat):Int) != (0:Int))
    (.leaf (.inr (.r0 0 c 0 0 0 0 ([]:List Nat) ([]:List Nat) ([]:List Nat) ([]:List Nat))))
    (.need (bg 0 (List.length a) a)<|.need (bg 0 (List.length b) b)<|.need (kE (cM (aa 0 (List.length a) a) (aa 0 (List.length b) b)))<|.leaf (.inl ((lE (cM (aa 0 (List.length a) a) (aa 0 (List.length b) b))),(lF (cM (aa 0 (List.length a) a) (aa 0 (List.length b) b))),(lG (cM (aa 0 (List.length a) a) (aa 0 (List.length b) b))),(lH (cM (aa 0 (List.length a) a) (aa 0 (List.length b) b))),(lI (cM (aa 0 (List.length a) a) (aa 0 (List.length b) b))),(lJ (cM (aa 0 (List.length a) a) (aa 0 (List.length b) b))),(lK (cM (aa 0 (List.length a) a) (aa 0 (List.length b) b))),(lL (cM (aa 0 (List.length a) a) (aa 0 (List.length b) b))),(lM (cM (aa 0 (List.length a) a) (aa 0 (List.length b) b))))))
def Ck(a:Nat)(b:Nat)(c:Nat)(d:Nat)(e:Nat)(f:List Nat)(g:List Nat)(h:List Nat)(i:List Nat) :T ((Empty)⊕(bB)) :=
  .leaf (.inr (.r0 a 0 b c d e f g h i))
def cn(a:List Nat)(b:List Nat) :Option bB:=nm (aS ((oK a b).run) fun c =>
  aS ((oL a b c).run) fun d =>
  aS ((oM a b d).run) fun (e,f,g,h,i,j,k,l,m) =>
  (Ck e f g h i j k l m).run)
theorem Cl(c:Lv)(a:List Nat)(d:Lv)(b:List Nat){x:bB}(h:cn a b=some x) :ah prog pu [] [.agg [.imm c (.fl a) 1 1 0 (List.length a),.imm d (.fl b) 1 1 0 (List.length b)]] (qf x) :=
  oO true qf vX h (Sg.cut 2 oJ (bW fW (Ch c a d b) [⟨[],[0,16,32],[1,2,3,18]⟩,⟨[],[0,16,32],[1,2,3,18]⟩]) (fun l=>Sg.cut 2 oJ (bW fW (Ci c a d b) [⟨[(.cell 1 0,.own 1 1 (.fl ([]:List Nat))),(.cell 1 1,.own 1 1 (.fl ([]:List Nat))),(.cell 2 0,.own 1 1 (.fl ([]:List Nat))),(.cell 2 1,.own 1 1 (.fl ([]:List Nat)))],[1,2,99,100,101,102],[2,3,4,5]⟩,⟨[],[0,1,2],[1,2,3,6]⟩]) (fun m=>Sg.cut 3 oJ (bW fW Cj [⟨[(.cell 1 0,.own 1 1 (.fl ([]:List Nat))),(.cell 1 1,.own 1 1 (.fl ([]:List Nat))),(.cell 2 0,.own 1 1 (.fl ([]:List Nat))),(.cell 2 1,.own 1 1 (.fl ([]:List Nat)))],[1,2,147,148,149,150],[2,3,4,5]⟩,⟨[],[1,2,131,147,51,52,53,54],[2,3,7,8,9]⟩]) (fun ⟨n,o,p,q,r,s,t,u,v⟩=>bW fW _ [⟨[],[0,1,4,5,6,7],[2,3,4,5]⟩]))))
    (fun x=>by cases x with | r0 j k e f g i w y z A=>exact nn [.agg [.sl 2 1 1 0 e e,.sl 3 1 1 0 f f],.agg [.sl 4 1 1 0 g g,.sl 5 1 1 0 i i],.flt false j,.int .i64 ((k:Nat):Int)])
def kF:Option bB→Bool
  | some _=>true
  | none=>false
def lN:Option bB→Nat
  | some (.r0 x _ _ _ _ _ _ _ _ _)=>x
  | _=>0
def lO:Option bB→Nat
  | some (.r0 _ x _ _ _ _ _ _ _ _)=>x
  | _=>0
def lP:Option bB→Nat
  | some (.r0 _ _ x _ _ _ _ _ _ _)=>x
  | _=>0
def lQ:Option bB→Nat
  | some (.r0 _ _ _ x _ _ _ _ _ _)=>x
  | _=>0
def lR:Option bB→Nat
  | some (.r0 _ _ _ _ x _ _ _ _ _)=>x
  | _=>0
def lS:Option bB→Nat
  | some (.r0 _ _ _ _ _ x _ _ _ _)=>x
  | _=>0
def lT:Option bB→List Nat
  | some (.r0 _ _ _ _ _ _ x _ _ _)=>x
  | _=>[]
def lU:Option bB→List Nat
  | some (.r0 _ _ _ _ _ _ _ x _ _)=>x
  | _=>[]
def lV:Option bB→List Nat
  | some (.r0 _ _ _ _ _ _ _ _ x _)=>x
  | _=>[]
def lW:Option bB→List Nat
  | some (.r0 _ _ _ _ _ _ _ _ _ x)=>x
  | _=>[]
theorem Cm{x:Option bB}(h:kF x=true) :x=some (.r0 (lN x) (lO x) (lP x) (lQ x) (lR x) (lS x) (lT x) (lU x) (lV x) (lW x)):=by
  unfold kF at h
  split at h<;>first | rfl | (cases h;done) | (rename_i y;cases y;rfl)
def vY:aM:=cR pu (.cons (.agg (.cons .fl (.cons .fl .nil))) .nil) fun t=>(fun q=>[⟨qf (.r0 (lN q) (lO q) (lP q) (lQ q) (lR q) (lS q) (lT q) (lU q) (lV q) (lW q)),[kF q]⟩]) (cn t.1.1.2 t.1.2.1.2)
theorem yr:aX prog vY:=a9 fun t=>(ba (fun h=>Cl t.1.1.1 t.1.1.2 t.1.2.1.1 t.1.2.1.2 (Cm h)) bu)
def vZ:List aM:=vY::vW
theorem lX:bh prog (bk vZ):=ay yr fW
inductive dh where
  | r0 (a:Nat) (b:Bool) (c:List Int) (d:Nat) (e:Nat) (f:Int)
def A0:dh→AE×aK
  | .r0 a b c d e f=>(.ret,⟨am 15 [(4,.ptr 0 1 0 0),(5,.int .i64 ((a:Nat):Int))],[(0,.vs [.bool false b,.imm .free (.ns .u64 c) 1 1 d e,.int .i64 f])],1⟩)
theorem G9:k9 A0:=by intro x;cases x<;>(intro h;cases h)
def uC:dh→gS
  | .r0 a b c d e f=>⟨.tup [.agg [.bool false b,.imm .free (.ns .u64 c) 1 1 d e,.int .i64 f],.int .i64 ((a:Nat):Int)],[]⟩
def Ha:Nat×Bool×(List Int)×Nat×Nat×Int→aK:=fun (a,b,c,d,e,f)=>⟨am 15 [(4,.ptr 0 1 0 0),(5,.int .i64 ((a:Nat):Int))],[(0,.vs [.bool false b,.imm .free (.ns .u64 c) 1 1 d e,.int .i64 f])],1⟩
def xU(c:Bool)(a:List Int)(d:Int)(e:Bool)(b:List Int)(f:Int) :T ((Nat×Bool×(List Int)×Nat×Nat×Int)⊕(dh)) :=
  .need (bg 0 (List.length a) a)<|.need (bg 0 (List.length b) b)<|.need (nZ (eU c (aa 0 (List.length a) a) d (!e) (aa 0 (List.length b) b) f))<|.leaf (.inl ((ot (eU c (aa 0 (List.length a) a) d (!e) (aa 0 (List.length b) b) f)),(ou (eU c (aa 0 (List.length a) a) d (!e) (aa 0 (List.length b) b) f)),(ov (eU c (aa 0 (List.length a) a) d (!e) (aa 0 (List.length b) b) f)),(ow (eU c (aa 0 (List.length a) a) d (!e) (aa 0 (List.length b) b) f)),(oz (eU c (aa 0 (List.length a) a) d (!e) (aa 0 (List.length b) b) f)),(oA (eU c (aa 0 (List.length a) a) d (!e) (aa 0 (List.length b) b) f))))
def Hb(a:Nat)(b:Bool)(c:List Int)(d:Nat)(e:Nat)(f:Int) :T ((Empty)⊕(dh)) :=
  .leaf (.inr (.r0 a b c d e f))
def cE(a:Bool)(b:List Int)(c:Int)(d:Bool)(e:List Int)(f:Int) :Option dh:=nm (aS ((xU a b c d e f).run) fun (g,h,i,j,k,l) =>
  (Hb g h i j k l).run)
theorem Hc(c:Bool)(g:Lv)(a:List Int)(d:Int)(e:Bool)(i:Lv)(b:List Int)(f:Int){x:dh}(h:cE c a d e b f=some x) :ah prog uc [] [.agg [.bool false c,.imm g (.ns .u64 a) 1 1 0 (List.length a),.int .i64 d],.agg [.bool false e,.imm i (.ns .u64 b) 1 1 0 (List.length b),.int .i64 f]] (uC x) :=
  oO true uC A0 h (Sg.cut 3 G9 (bW lX Ha [⟨[],[32],[4,5]⟩]) (fun ⟨p,q,r,s,t,u⟩=>bW lX _ [⟨[],[0],[4,5]⟩]))
    (fun x=>by cases x with | r0 j k l m n o=>exact nn [.agg [.bool false k,.imm .free (.ns .u64 l) 1 1 m n,.int .i64 o],.int .i64 ((j:Nat):Int)])
def kZ:Option dh→Bool
  | some _=>true
  | none=>false
def kG:Option dh→Nat
  | some (.r0 x _ _ _ _ _)=>x
  | _=>0
def kH:Option dh→Bool
  | some (.r0 _ x _ _ _ _)=>x
  | _=>false
def kI:Option dh→List Int
  | some (.r0 _ _ x _ _ _)=>x
  | _=>[]
def kJ:Option dh→Nat
  | some (.r0 _ _ _ x _ _)=>x
  | _=>0
def kK:Option dh→Nat
  | some (.r0 _ _ _ _ x _)=>x
  | _=>0
def kL:Option dh→Int
  | some (.r0 _ _ _ _ _ x)=>x
  | _=>0
theorem Hd{x:Option dh}(h:kZ x=true) :x=some (.r0 (kG x) (kH x) (kI x) (kJ x) (kK x) (kL x)):=by
  unfold kZ at h
  split at h<;>first | rfl | (cases h;done) | (rename_i y;cases y;rfl)
def A1:aM:=cR uc (.cons (.agg (.cons .bool (.cons (.ns .u64) (.cons (.int .i64) .nil)))) (.cons (.agg (.cons .bool (.cons (.ns .u64) (.cons (.int .i64) .nil)))) .nil)) fun t=>(fun q=>[⟨uC (.r0 (kG q) (kH q) (kI q) (kJ q) (kK q) (kL q)),[kZ q]⟩]) (cE t.1.1 t.1.2.1.2 t.1.2.2.1 t.2.1.1 t.2.1.2.1.2 t.2.1.2.2.1)
theorem Cn:aX prog A1:=a9 fun t=>(ba (fun h=>Hc t.1.1 t.1.2.1.1 t.1.2.1.2 t.1.2.2.1 t.2.1.1 t.2.1.2.1.1 t.2.1.2.1.2 t.2.1.2.2.1 (Hd h)) bu)
def A2:List aM:=A1::vZ
theorem kM:bh prog (bk A2):=ay Cn lX
inductive dc where
  | r0 (a:Bool)
def tM:dc→AE×aK
  | .r0 a=>(.ret,⟨am 18 [(2,.bool false a)],[],0⟩)
theorem rE:k9 tM:=by intro x;cases x<;>(intro h;cases h)
def oN:dc→gS
  | .r0 a=>⟨.bool false a,[]⟩
def A3(b:Lv)(a:List Int)(c:Int) :Nat×Bool→aK:=fun (d,e)=>⟨am 18 [(1,.ptr 0 1 0 0),(4,.int .i64 ((d:Nat):Int))],[(0,.vs [.bool false e,.imm b (.ns .u64 a) 1 1 0 (List.length a),.int .i64 c])],1⟩
def rF(a:List Int) :T ((Nat×Bool)⊕(dc)) :=
  .need (bg 0 (List.length a) a)<|.need (gn (dr (aa 0 (List.length a) a)))<|.leaf (.inl ((kx (dr (aa 0 (List.length a) a))),false))
def A4(a:Bool) :aK:=⟨am 18 [(2,.bool false a)],[],0⟩
def A5(a:Int)(b:Nat) :T ((Bool)⊕(dc)) :=
  .ask (((b:Nat):Int)==(0:Int))
    (.ask (decide (a≥(-262144:Int)))
      (.leaf (.inl (decide (a≤(262144:Int)))))
      (.leaf (.inl false)))
    (.leaf (.inl false))
def A6(a:Bool) :T ((Empty)⊕(dc)) :=
  .leaf (.inr (.r0 a))
def iD(a:List Int)(b:Int) :Option dc:=nm (aS ((rF a).run) fun (c,e) =>
  aS ((A5 b c).run) fun d =>
  (A6 d).run)
theorem A7(c:Lv)(a:List Int)(b:Int){x:dc}(h:iD a b=some x) :ah prog mM [] [.agg [.bool true false,.imm c (.ns .u64 a) 1 1 0 (List.length a),.int .i64 b]] (oN x) :=
  oO true oN tM h (Sg.cut 2 rE (bW kM (A3 c a b) [⟨[],[0],[1,4]⟩]) (fun ⟨e,f⟩=>Sg.cut 1 rE (bW kM A4 [⟨[],[],[2]⟩,⟨[],[],[2]⟩,⟨[],[],[2]⟩]) (fun g=>bW kM _ [⟨[],[],[2]⟩])))
    (fun x=>by cases x with | r0 d=>exact nn [.bool false d])
def jH:Option dc→Bool
  | some _=>true
  | none=>false
def ki:Option dc→Bool
  | some (.r0 x)=>x
  | _=>false
theorem A8{x:Option dc}(h:jH x=true) :x=some (.r0 (ki x)):=by
  unfold jH at h
  split at h<;>first | rfl | (cases h;done) | (rename_i y;cases y;rfl)
def tN:aM:=cR mM (.cons (.agg (.cons (.kbool false) (.cons (.ns .u64) (.cons (.int .i64) .nil)))) .nil) fun t=>(fun q=>[⟨oN (.r0 (ki q)),[jH q]⟩]) (iD t.1.2.1.2 t.1.2.2.1)
theorem wV:aX prog tN:=a9 fun t=>(ba (fun h=>A7 t.1.2.1.1 t.1.2.1.2 t.1.2.2.1 (A8 h)) bu)
def tO:List aM:=tN::A2
theorem ff:bh prog (bk tO):=ay wV kM
inductive bG where
  | r0 (a:Bool) (b:List Int) (c:Nat) (d:Nat) (e:Int)
def rG:bG→AE×aK
  | .r0 a b c d e=>(.ret,⟨am 37 [(2,.ptr 0 1 0 0)],[(0,.vs [.bool false a,.imm .free (.ns .u64 b) 1 1 c d,.int .i64 e])],1⟩)
theorem lY:k9 rG:=by intro x;cases x<;>(intro h;cases h)
def m7:bG→gS
  | .r0 a b c d e=>⟨.agg [.bool false a,.imm .free (.ns .u64 b) 1 1 c d,.int .i64 e],[]⟩
def yu(c:Lv)(a:List Int)(d:Int) :(List Int)×Nat×Bool→aK:=fun (e,f,b)=>⟨am 37 [(1,.ptr 0 1 0 0),(2,.ptr 1 1 0 0),(3,.imm .free (.ns .u64 e) 1 1 0 f)],[(0,.vs [.bool false b,.imm c (.ns .u64 a) 1 1 0 (List.length a),.int .i64 d]),(1,.vs [.bool false b,.nsl,.int .i64 (0:Int)])],2⟩
def lZ(a:List Int) :T (((List Int)×Nat×Bool)⊕(bG)) :=
  .need (bg 0 (List.length a) a)<|.need (gn (dr (aa 0 (List.length a) a)))<|.leaf (.inl ((ky (dr (aa 0 (List.length a) a))),(kw (dr (aa 0 (List.length a) a))),false))
def yv(c:Lv)(a:List Int)(d:Int)(e:List Int)(f:Nat)(b:Bool)(g:Int) :aK:=⟨am 37 [(1,.ptr 0 1 0 0),(2,.ptr 1 1 0 0),(3,.imm .free (.ns .u64 e) 1 1 0 f),(5,.int .i64 g)],[(0,.vs [.bool false b,.imm c (.ns .u64 a) 1 1 0 (List.length a),.int .i64 d]),(1,.vs [.bool false b,.nsl,.int .i64 (0:Int)])],2⟩
def l4(b:List Int)(a:Nat) :T ((Int)⊕(bG)) :=
  .ask (((a:Nat):Int)==(0:Int))
    (.leaf (.inr (.r0 false ([]:List Int) 0 0 (0:Int))))
    (.need (bg 0 a b)<|.need (js (gp (aa 0 a b)))<|.leaf (.inl (jt (gp (aa 0 a b)))))
def yw(c:Lv)(a:List Int)(d:Int)(b:Bool)(e:Int) :(List Int)×Nat×Nat→aK:=fun (f,g,h)=>⟨am 37 [(1,.ptr 0 1 0 0),(2,.ptr 1 1 0 0),(3,.imm .free (.ns .u64 f) 1 1 g h),(5,.int .i64 e)],[(0,.vs [.bool false b,.imm c (.ns .u64 a) 1 1 0 (List.length a),.int .i64 d]),(1,.vs [.bool false b,.nsl,.int .i64 (0:Int)])],2⟩
def l5(a:List Int)(b:Nat)(c:Int) :T (((List Int)×Nat×Nat)⊕(bG)) :=
  .need (bg 0 b a)<|.need (mY (fb (aa 0 b a) c))<|.leaf (.inl ((mi (fb (aa 0 b a) c)),(mj (fb (aa 0 b a) c)),(ml (fb (aa 0 b a) c))))
def yx(a:Int)(c:Bool)(b:Int)(d:List Int)(e:Nat)(f:Nat) :T ((Empty)⊕(bG)) :=
  .need (eX .i64 (a+b))<|.leaf (.inr (.r0 c d e f (a+b)))
def di(d:List Int)(e:Int) :Option bG:=nm (aS ((lZ d).run) fun (a,b,f) =>
  aS ((l4 a b).run) fun c =>
  aS ((l5 a b c).run) fun (g,h,i) =>
  (yx e f c g h i).run)
theorem yy(c:Lv)(a:List Int)(b:Int){x:bG}(h:di a b=some x) :ah prog kX [] [.agg [.bool true false,.imm c (.ns .u64 a) 1 1 0 (List.length a),.int .i64 b]] (m7 x) :=
  oO true m7 rG h (Sg.cut 2 lY (bW ff (yu c a b) [⟨[],[0,16],[1,2,3]⟩]) (fun ⟨e,f,d⟩=>Sg.cut 3 lY (bW ff (yv c a b e f d) [⟨[(.cell 1 1,.fre 1 1 (.ns .u64 ([]:List Int)))],[1],[2]⟩,⟨[],[0,1],[1,2,3,5]⟩]) (fun g=>Sg.cut 1 lY (bW ff (yw c a b d g) [⟨[],[0,1],[1,2,3,5]⟩]) (fun ⟨n,o,p⟩=>bW ff _ [⟨[],[1],[2]⟩]))))
    (fun x=>by cases x with | r0 i j k l m=>exact nn [.agg [.bool false i,.imm .free (.ns .u64 j) 1 1 k l,.int .i64 m]])
def iS:Option bG→Bool
  | some _=>true
  | none=>false
def jI:Option bG→Bool
  | some (.r0 x _ _ _ _)=>x
  | _=>false
def jJ:Option bG→List Int
  | some (.r0 _ x _ _ _)=>x
  | _=>[]
def jK:Option bG→Nat
  | some (.r0 _ _ x _ _)=>x
  | _=>0
def jL:Option bG→Nat
  | some (.r0 _ _ _ x _)=>x
  | _=>0
def jM:Option bG→Int
  | some (.r0 _ _ _ _ x)=>x
  | _=>0
theorem yz{x:Option bG}(h:iS x=true) :x=some (.r0 (jI x) (jJ x) (jK x) (jL x) (jM x)):=by
  unfold iS at h
  split at h<;>first | rfl | (cases h;done) | (rename_i y;cases y;rfl)
def rH:aM:=cR kX (.cons (.agg (.cons (.kbool false) (.cons (.ns .u64) (.cons (.int .i64) .nil)))) .nil) fun t=>(fun q=>[⟨m7 (.r0 (jI q) (jJ q) (jK q) (jL q) (jM q)),[iS q]⟩]) (di t.1.2.1.2 t.1.2.2.1)
theorem v3:aX prog rH:=a9 fun t=>(ba (fun h=>yy t.1.2.1.1 t.1.2.1.2 t.1.2.2.1 (yz h)) bu)
def rI:List aM:=rH::tO
theorem f9:bh prog (bk rI):=ay v3 ff
inductive cF where
  | r0 (a:Nat) (b:Bool) (c:List Int) (d:Nat) (e:Nat) (f:Int)
def xV:cF→AE×aK
  | .r0 a b c d e f=>(.ret,⟨am 15 [(2,.ptr 0 1 0 0),(3,.int .i64 ((a:Nat):Int))],[(0,.vs [.bool false b,.imm .free (.ns .u64 c) 1 1 d e,.int .i64 f])],1⟩)
theorem v4:k9 xV:=by intro x;cases x<;>(intro h;cases h)
def rJ:cF→gS
  | .r0 a b c d e f=>⟨.tup [.agg [.bool false b,.imm .free (.ns .u64 c) 1 1 d e,.int .i64 f],.int .i64 ((a:Nat):Int)],[]⟩
def EH(a:Lv) :Nat×Bool×(List Int)×Nat×Nat×Int×Bool→aK:=fun (b,c,d,e,f,g,h)=>⟨am 15 [(1,.ptr 0 1 0 0),(2,.ptr 1 1 0 0),(4,.int .i64 ((b:Nat):Int))],[(0,.vs [.bool false c,.imm a (.ns .u64 d) 1 1 e f,.int .i64 g]),(1,.vs [.bool false h,.nsl,.int .i64 (0:Int)])],2⟩
def v5(a:List Int)(b:Int) :T ((Nat×Bool×(List Int)×Nat×Nat×Int×Bool)⊕(cF)) :=
  .ask (decide ((0:Int)<(1:Int)))
    (.need (fB (0:Int) 1)<|.need (bg 0 (List.length a) a)<|.need (jH (iD (aa 0 (List.length a) a) b))<|.ask (!(ki (iD (aa 0 (List.length a) a) b)))
      (.leaf (.inl (2,false,a,0,(List.length a),b,false)))
      (.need (bg 0 (List.length a) a)<|.need (iS (di (aa 0 (List.length a) a) b))<|.need (eX .i64 (1:Int))<|.ask (decide ((1:Int)<(1:Int)))
        (.fail)
        (.leaf (.inl (0,(jI (di (aa 0 (List.length a) a) b)),(jJ (di (aa 0 (List.length a) a) b)),(jK (di (aa 0 (List.length a) a) b)),(jL (di (aa 0 (List.length a) a) b)),(jM (di (aa 0 (List.length a) a) b)),false)))))
    (.fail)
def EI:Nat×Bool×(List Int)×Nat×Nat×Int→aK:=fun (a,b,c,d,e,f)=>⟨am 15 [(2,.ptr 0 1 0 0),(3,.int .i64 ((a:Nat):Int))],[(0,.vs [.bool false b,.imm .free (.ns .u64 c) 1 1 d e,.int .i64 f])],1⟩
def qg(f:Nat)(d:Bool)(a:List Int)(b:Nat)(c:Nat)(e:Int) :T ((Nat×Bool×(List Int)×Nat×Nat×Int)⊕(cF)) :=
  .ask (((f:Nat):Int) != (0:Int))
    (.leaf (.inr (.r0 f false ([]:List Int) 0 0 (0:Int))))
    (.need (bg b c a)<|.need (g6 (bo d (aa b c a) e))<|.leaf (.inl ((gr (bo d (aa b c a) e)),(gu (bo d (aa b c a) e)),(gv (bo d (aa b c a) e)),(gw (bo d (aa b c a) e)),(gz (bo d (aa b c a) e)),(gA (bo d (aa b c a) e)))))
def EJ(a:Nat)(b:Bool)(c:List Int)(d:Nat)(e:Nat)(f:Int) :T ((Empty)⊕(cF)) :=
  .leaf (.inr (.r0 a b c d e f))
def ej(a:List Int)(b:Int) :Option cF:=nm (aS ((v5 a b).run) fun (c,d,e,f,g,h,o) =>
  aS ((qg c d e f g h).run) fun (i,j,k,l,m,n) =>
  (EJ i j k l m n).run)
theorem EK(a:Lv)(b:List Int)(c:Int){x:cF}(h:ej b c=some x) :ah prog qN [] [.agg [.bool true false,.imm a (.ns .u64 b) 1 1 0 (List.length b),.int .i64 c]] (rJ x) :=
  oO true rJ xV h (Sg.cut 2 v4 (bW f9 (EH a) [⟨[],[0,16],[1,2,4]⟩,⟨[(.cell 0 1,.lev a)],[0,16],[1,2,4]⟩]) (fun ⟨k,l,m,n,o,p,q⟩=>Sg.cut 3 v4 (bW f9 EI [⟨[(.cell 1 1,.fre 1 1 (.ns .u64 ([]:List Int)))],[1],[2,3]⟩,⟨[],[1],[2,3]⟩]) (fun ⟨r,s,t,u,v,w⟩=>bW f9 _ [⟨[],[0],[2,3]⟩])))
    (fun x=>by cases x with | r0 d e f g i j=>exact nn [.agg [.bool false e,.imm .free (.ns .u64 f) 1 1 g i,.int .i64 j],.int .i64 ((d:Nat):Int)])
def mo:Option cF→Bool
  | some _=>true
  | none=>false
def m8:Option cF→Nat
  | some (.r0 x _ _ _ _ _)=>x
  | _=>0
def m9:Option cF→Bool
  | some (.r0 _ x _ _ _ _)=>x
  | _=>false
def na:Option cF→List Int
  | some (.r0 _ _ x _ _ _)=>x
  | _=>[]
def nc:Option cF→Nat
  | some (.r0 _ _ _ x _ _)=>x
  | _=>0
def ng:Option cF→Nat
  | some (.r0 _ _ _ _ x _)=>x
  | _=>0
def nh:Option cF→Int
  | some (.r0 _ _ _ _ _ x)=>x
  | _=>0
theorem EL{x:Option cF}(h:mo x=true) :x=some (.r0 (m8 x) (m9 x) (na x) (nc x) (ng x) (nh x)):=by
  unfold mo at h
  split at h<;>first | rfl | (cases h;done) | (rename_i y;cases y;rfl)
def xW:aM:=cR qN (.cons (.agg (.cons (.kbool false) (.cons (.ns .u64) (.cons (.int .i64) .nil)))) .nil) fun t=>(fun q=>[⟨rJ (.r0 (m8 q) (m9 q) (na q) (nc q) (ng q) (nh q)),[mo q]⟩]) (ej t.1.2.1.2 t.1.2.2.1)
theorem A9:aX prog xW:=a9 fun t=>(ba (fun h=>EK t.1.2.1.1 t.1.2.1.2 t.1.2.2.1 (EL h)) bu)
def xX:List aM:=xW::rI
theorem ni:bh prog (bk xX):=ay A9 f9
inductive dj where
  | r0 (a:Nat) (b:Bool) (c:List Int) (d:Nat) (e:Nat) (f:Int)
def Ba:dj→AE×aK
  | .r0 a b c d e f=>(.ret,⟨am 9 [(2,.ptr 0 1 0 0),(3,.int .i64 ((a:Nat):Int))],[(0,.vs [.bool false b,.imm .free (.ns .u64 c) 1 1 d e,.int .i64 f])],1⟩)
theorem He:k9 Ba:=by intro x;cases x<;>(intro h;cases h)
def uD:dj→gS
  | .r0 a b c d e f=>⟨.tup [.agg [.bool false b,.imm .free (.ns .u64 c) 1 1 d e,.int .i64 f],.int .i64 ((a:Nat):Int)],[]⟩
def Hf:Nat×Bool×(List Int)×Nat×Nat×Int→aK:=fun (a,b,c,d,e,f)=>⟨am 9 [(2,.ptr 0 1 0 0),(3,.int .i64 ((a:Nat):Int))],[(0,.vs [.bool false b,.imm .free (.ns .u64 c) 1 1 d e,.int .i64 f])],1⟩
def xY(a:List Int)(b:Int) :T ((Nat×Bool×(List Int)×Nat×Nat×Int)⊕(dj)) :=
  .need (bg 0 (List.length a) a)<|.need (mo (ej (aa 0 (List.length a) a) b))<|.leaf (.inl ((m8 (ej (aa 0 (List.length a) a) b)),(m9 (ej (aa 0 (List.length a) a) b)),(na (ej (aa 0 (List.length a) a) b)),(nc (ej (aa 0 (List.length a) a) b)),(ng (ej (aa 0 (List.length a) a) b)),(nh (ej (aa 0 (List.length a) a) b))))
def Hg(a:Nat)(b:Bool)(c:List Int)(d:Nat)(e:Nat)(f:Int) :T ((Empty)⊕(dj)) :=
  .leaf (.inr (.r0 a b c d e f))
def cG(a:List Int)(b:Int) :Option dj:=nm (aS ((xY a b).run) fun (c,d,e,f,g,h) =>
  (Hg c d e f g h).run)
theorem Hh(c:Bool)(d:Lv)(a:List Int)(b:Int){x:dj}(h:cG a b=some x) :ah prog ud [] [.agg [.bool false c,.imm d (.ns .u64 a) 1 1 0 (List.length a),.int .i64 b]] (uD x) :=
  oO true uD Ba h (Sg.cut 3 He (bW ni Hf [⟨[],[16],[2,3]⟩]) (fun ⟨l,m,n,o,p,q⟩=>bW ni _ [⟨[],[0],[2,3]⟩]))
    (fun x=>by cases x with | r0 e f g i j k=>exact nn [.agg [.bool false f,.imm .free (.ns .u64 g) 1 1 i j,.int .i64 k],.int .i64 ((e:Nat):Int)])
def k6:Option dj→Bool
  | some _=>true
  | none=>false
def kN:Option dj→Nat
  | some (.r0 x _ _ _ _ _)=>x
  | _=>0
def kO:Option dj→Bool
  | some (.r0 _ x _ _ _ _)=>x
  | _=>false
def kP:Option dj→List Int
  | some (.r0 _ _ x _ _ _)=>x
  | _=>[]
def kQ:Option dj→Nat
  | some (.r0 _ _ _ x _ _)=>x
  | _=>0
def kR:Option dj→Nat
  | some (.r0 _ _ _ _ x _)=>x
  | _=>0
def kS:Option dj→Int
  | some (.r0 _ _ _ _ _ x)=>x
  | _=>0
theorem Hi{x:Option dj}(h:k6 x=true) :x=some (.r0 (kN x) (kO x) (kP x) (kQ x) (kR x) (kS x)):=by
  unfold k6 at h
  split at h<;>first | rfl | (cases h;done) | (rename_i y;cases y;rfl)
def Bb:aM:=cR ud (.cons (.agg (.cons .bool (.cons (.ns .u64) (.cons (.int .i64) .nil)))) .nil) fun t=>(fun q=>[⟨uD (.r0 (kN q) (kO q) (kP q) (kQ q) (kR q) (kS q)),[k6 q]⟩]) (cG t.1.2.1.2 t.1.2.2.1)
theorem Co:aX prog Bb:=a9 fun t=>(ba (fun h=>Hh t.1.1 t.1.2.1.1 t.1.2.1.2 t.1.2.2.1 (Hi h)) bu)
def Bc:List aM:=Bb::xX
theorem aO:bh prog (bk Bc):=ay Co ni
inductive aj where
  | r0 (a:Bool)
def eB:aj→AE×aK
  | .r0 a=>(.ret,⟨am 262 [(2,.bool false a)],[],0⟩)
theorem au:k9 eB:=by intro x;cases x<;>(intro h;cases h)
theorem ik(id:Nat) :py id eB:=by intro x;cases x<;>(intro h;cases h)
def i4:aj→gS
  | .r0 a=>⟨.bool false a,[]⟩
def k7:List Code:=eH (qs iT)
def s4(c:Lv)(a:List Nat)(d:Lv)(b:List Nat)(e:Bool) :aK:=⟨am 262 [(1,.ptr 0 1 0 0),(3,.int .i64 (((List.length a):Nat):Int)),(40,.bool false e)],[(0,.vs [.imm c (.fl a) 1 1 0 (List.length a),.imm d (.fl b) 1 1 0 (List.length b)])],1⟩
def bL(a:List Nat)(b:List Nat) :T ((Bool)⊕(aj)) :=
  .need (bg 0 (List.length a) a)<|.need (bg 0 (List.length b) b)<|.need (mn (ja (aa 0 (List.length a) a) (aa 0 (List.length b) b)))<|.ask (!(m4 (ja (aa 0 (List.length a) a) (aa 0 (List.length b) b))))
    (.leaf (.inl true))
    (.ask (decide ((((List.length a):Nat):Int)<(3:Int)))
      (.leaf (.inl true))
      (.ask (decide ((((List.length a):Nat):Int)>(12:Int)))
        (.leaf (.inl true))
        (.need (bg 0 (List.length a) a)<|.need (fV (eA (aa 0 (List.length a) a)))<|.ask (f8 (eA (aa 0 (List.length a) a)))
          (.need (bg 0 (List.length b) b)<|.need (fV (eA (aa 0 (List.length b) b)))<|.leaf (.inl (!(f8 (eA (aa 0 (List.length b) b))))))
          (.leaf (.inl true)))))
def s5(c:Lv)(a:List Nat)(d:Lv)(b:List Nat) :Nat×Nat×(List Nat)×Nat×(List Nat)×Nat×(List Nat)×Nat×(List Nat)×Nat→aK:=fun (e,f,g,h,i,j,k,l,m,n)=>⟨am 262 [(1,.ptr 0 1 0 0),(3,.int .i64 (((List.length a):Nat):Int)),(4,.ptr 1 1 0 0),(5,.ptr 2 1 0 0),(6,.flt false e),(7,.int .i64 ((f:Nat):Int))],[(0,.vs [.imm c (.fl a) 1 1 0 (List.length a),.imm d (.fl b) 1 1 0 (List.length b)]),(1,.vs [.imm .free (.fl g) 1 1 0 h,.imm .free (.fl i) 1 1 0 j]),(2,.vs [.imm .free (.fl k) 1 1 0 l,.imm .free (.fl m) 1 1 0 n])],3⟩
def gF(a:List Nat)(b:List Nat)(c:Bool) :T ((Nat×Nat×(List Nat)×Nat×(List Nat)×Nat×(List Nat)×Nat×(List Nat)×Nat)⊕(aj)) :=
  .ask c
    (.leaf (.inr (.r0 true)))
    (.need (bg 0 (List.length a) a)<|.need (bg 0 (List.length b) b)<|.need (kF (cn (aa 0 (List.length a) a) (aa 0 (List.length b) b)))<|.leaf (.inl ((lN (cn (aa 0 (List.length a) a) (aa 0 (List.length b) b))),(lO (cn (aa 0 (List.length a) a) (aa 0 (List.length b) b))),(lT (cn (aa 0 (List.length a) a) (aa 0 (List.length b) b))),(lP (cn (aa 0 (List.length a) a) (aa 0 (List.length b) b))),(lU (cn (aa 0 (List.length a) a) (aa 0 (List.length b) b))),(lQ (cn (aa 0 (List.length a) a) (aa 0 (List.length b) b))),(lV (cn (aa 0 (List.length a) a) (aa 0 (List.length b) b))),(lR (cn (aa 0 (List.length a) a) (aa 0 (List.length b) b))),(lW (cn (aa 0 (List.length a) a) (aa 0 (List.length b) b))),(lS (cn (aa 0 (List.length a) a) (aa 0 (List.length b) b))))))
def s6(c:Lv)(a:List Nat)(d:Lv)(b:List Nat)(e:Nat)(f:List Nat)(g:Nat)(h:List Nat)(i:Nat)(j:List Nat)(k:Nat)(l:List Nat)(m:Nat) :Int×Bool→aK:=fun (n,o)=>⟨am 262 [(1,.ptr 0 1 0 0),(3,.int .i64 (((List.length a):Nat):Int)),(4,.ptr 1 1 0 0),(5,.ptr 2 1 0 0),(6,.flt false e),(8,.int .i64 n),(86,.bool false o)],[(0,.vs [.imm c (.fl a) 1 1 0 (List.length a),.imm d (.fl b) 1 1 0 (List.length b)]),(1,.vs [.imm .free (.fl f) 1 1 0 g,.imm .free (.fl h) 1 1 0 i]),(2,.vs [.imm .free (.fl j) 1 1 0 k,.imm .free (.fl l) 1 1 0 m])],3⟩
def gG(a:List Nat)(b:Nat)(c:Nat)(d:Nat)(e:Nat)(f:Nat) :T ((Int×Bool)⊕(aj)) :=
  .need ((2:Int) != (0:Int))<|.need (eX .i64 (Int.tdiv (((List.length a):Nat):Int) (2:Int)))<|.ask (((b:Nat):Int) != (0:Int))
    (.leaf (.inl ((Int.tdiv (((List.length a):Nat):Int) (2:Int)),true)))
    (.ask (((c:Nat):Int) != (Int.tdiv (((List.length a):Nat):Int) (2:Int)))
      (.leaf (.inl ((Int.tdiv (((List.length a):Nat):Int) (2:Int)),true)))
      (.need (eX .i64 ((((List.length a):Nat):Int)-(Int.tdiv (((List.length a):Nat):Int) (2:Int))))<|.ask (((e:Nat):Int) != ((((List.length a):Nat):Int)-(Int.tdiv (((List.length a):Nat):Int) (2:Int))))
        (.leaf (.inl ((Int.tdiv (((List.length a):Nat):Int) (2:Int)),true)))
        (.need (eX .i64 ((Int.tdiv (((List.length a):Nat):Int) (2:Int))-(1:Int)))<|.ask (((d:Nat):Int) != ((Int.tdiv (((List.length a):Nat):Int) (2:Int))-(1:Int)))
          (.leaf (.inl ((Int.tdiv (((List.length a):Nat):Int) (2:Int)),true)))
          (.need (eX .i64 ((((List.length a):Nat):Int)-(Int.tdiv (((List.length a):Nat):Int) (2:Int))))<|.need (eX .i64 (((((List.length a):Nat):Int)-(Int.tdiv (((List.length a):Nat):Int) (2:Int)))-(1:Int)))<|.leaf (.inl ((Int.tdiv (((List.length a):Nat):Int) (2:Int)),(((f:Nat):Int) != (((((List.length a):Nat):Int)-(Int.tdiv (((List.length a):Nat):Int) (2:Int)))-(1:Int)))))))))
def s7(c:Lv)(a:List Nat)(d:Lv)(b:List Nat)(e:Nat)(f:List Nat)(g:Nat)(h:List Nat)(i:Nat)(j:List Nat)(k:Nat)(l:List Nat)(m:Nat)(n:Int)(_:Unit) :aK:=⟨am 262 [(1,.ptr 0 1 0 0),(3,.int .i64 (((List.length a):Nat):Int)),(4,.ptr 1 1 0 0),(5,.ptr 2 1 0 0),(6,.flt false e),(8,.int .i64 n),(9,.int .i64 (0:Int))],[(0,.vs [.imm c (.fl a) 1 1 0 (List.length a),.imm d (.fl b) 1 1 0 (List.length b)]),(1,.vs [.imm .free (.fl f) 1 1 0 g,.imm .free (.fl h) 1 1 0 i]),(2,.vs [.imm .free (.fl j) 1 1 0 k,.imm .free (.fl l) 1 1 0 m])],3⟩
def rK(a:Bool) :T ((Unit)⊕(aj)) :=
  .ask a
    (.leaf (.inr (.r0 false)))
    (.leaf (.inl ()))
def il(c:Lv)(a:List Nat)(d:Lv)(b:List Nat)(e:Nat)(f:List Nat)(g:Nat)(h:List Nat)(i:Nat)(j:List Nat)(k:Nat)(l:List Nat)(m:Nat)(n:Int)(o:Nat) :aK:=⟨am 262 [(1,.ptr 0 1 0 0),(3,.int .i64 (((List.length a):Nat):Int)),(4,.ptr 1 1 0 0),(5,.ptr 2 1 0 0),(6,.flt false e),(8,.int .i64 n),(9,.int .i64 ((o:Nat):Int))],[(0,.vs [.imm c (.fl a) 1 1 0 (List.length a),.imm d (.fl b) 1 1 0 (List.length b)]),(1,.vs [.imm .free (.fl f) 1 1 0 g,.imm .free (.fl h) 1 1 0 i]),(2,.vs [.imm .free (.fl j) 1 1 0 k,.imm .free (.fl l) 1 1 0 m])],3⟩
def l6(c:Lv)(a:List Nat)(d:Lv)(b:List Nat)(e:Nat)(f:List Nat)(g:Nat)(h:List Nat)(i:Nat)(j:List Nat)(k:Nat)(l:List Nat)(m:Nat)(n:Int)(_:Unit) :aK:=⟨am 262 [(1,.ptr 0 1 0 0),(3,.int .i64 (((List.length a):Nat):Int)),(4,.ptr 1 1 0 0),(5,.ptr 2 1 0 0),(6,.flt false e),(8,.int .i64 n)],[(0,.vs [.imm c (.fl a) 1 1 0 (List.length a),.imm d (.fl b) 1 1 0 (List.length b)]),(1,.vs [.imm .free (.fl f) 1 1 0 g,.imm .free (.fl h) 1 1 0 i]),(2,.vs [.imm .free (.fl j) 1 1 0 k,.imm .free (.fl l) 1 1 0 m])],3⟩
def rL:List Code:=eH (iX (((((((k7.drop 3).drop 2).drop 2).drop 2).take 1)).headD .skip))
def s8(c:Lv)(a:List Nat)(d:Lv)(b:List Nat)(e:Nat)(f:List Nat)(g:Nat)(h:List Nat)(i:Nat)(j:List Nat)(k:Nat)(l:List Nat)(m:Nat)(n:Int)(o:Nat)(_:Unit) :aK:=⟨am 262 [(1,.ptr 0 1 0 0),(3,.int .i64 (((List.length a):Nat):Int)),(4,.ptr 1 1 0 0),(5,.ptr 2 1 0 0),(6,.flt false e),(8,.int .i64 n),(9,.int .i64 ((o:Nat):Int))],[(0,.vs [.imm c (.fl a) 1 1 0 (List.length a),.imm d (.fl b) 1 1 0 (List.length b)]),(1,.vs [.imm .free (.fl f) 1 1 0 g,.imm .free (.fl h) 1 1 0 i]),(2,.vs [.imm .free (.fl j) 1 1 0 k,.imm .free (.fl l) 1 1 0 m])],3⟩
def gH(c : List Nat)(b : List Nat)(a : Nat) : T ((Unit) ⊕ ((Unit) ⊕ (aj))) :=
  .ask (decide (((a:Nat):Int)<(((List.length c):Nat):Int)))
    (.need (fB ((a:Nat):Int) (List.length c))<|.need (fg a (List.length c))<|.ask (oP (cr (List.getD c a 0)) 0)
      (.ask (flt (cr (List.getD c a 0)) 4156822456062967808)
        (.leaf (.inr (.inr (.r0 true))))
        (.ask (ES (cr (List.getD c a 0)) 5057542381537067008)
          (.leaf (.inr (.inr (.r0 true))))
          (.need (eX .i64 ((((List.length c):Nat):Int)-(1:Int)))<|.ask (decide (((a:Nat):Int)<((((List.length c):Nat):Int)-(1:Int))))
            (.need (fB ((a:Nat):Int) (List.length b))<|.need (fg a (List.length b))<|.ask (oP (List.getD b a 0) 0)
              (.need (fB ((a:Nat):Int) (List.length b))<|.need (fg a (List.length b))<|.ask (flt (cr (List.getD b a 0)) 4156822456062967808)
                (.leaf (.inr (.inr (.r0 true))))
                (.need (fB ((a:Nat):Int) (List.length b))<|.need (fg a (List.length b))<|.ask (ES (cr (List.getD b a 0)) 5057542381537067008)
                  (.leaf (.inr (.inr (.r0 true))))
                  (.leaf (.inl ()))))
              (.leaf (.inl ())))
            (.leaf (.inl ())))))
      (.need (eX .i64 ((((List.length c):Nat):Int)-(1:Int)))<|.ask (decide (((a:Nat):Int)<((((List.length c):Nat):Int)-(1:Int))))
        (.need (fB ((a:Nat):Int) (List.length b))<|.need (fg a (List.length b))<|.ask (oP (List.getD b a 0) 0)
          (.need (fB ((a:Nat):Int) (List.length b))<|.need (fg a (List.length b))<|.ask (flt (cr (List.getD b a 0)) 4156822456062967808)
            (.leaf (.inr (.inr (.r0 true))))
            (.need (fB ((a:Nat):Int) (List.length b))<|.need (fg a (List.length b))<|.ask (ES (cr (List.getD b a 0)) 5057542381537067008)
              (.leaf (.inr (.inr (.r0 true))))
              (.leaf (.inl ()))))
          (.leaf (.inl ())))
        (.leaf (.inl ()))))
    (.leaf (.inr (.inl ())))
def rM(a:Nat) :T ((Nat)⊕((Unit)⊕(aj))) :=
  .need (eX .i64 (((a+1):Nat):Int))<|.leaf (.inl (a+1))
def dN(b:List Nat)(c:List Nat) :Nat→Option ((Nat)⊕((Unit)⊕(aj))):=fun a =>
  aS ((gH b c a).run) fun _ =>
  (rM a).run
theorem rN(c:Lv)(a:List Nat)(d:Lv)(b:List Nat)(e:Nat)(f:List Nat)(g:Nat)(h:List Nat)(i:Nat)(j:List Nat)(k:Nat)(l:List Nat)(m:Nat)(n:Int)(o:Nat) :Sg prog [] rL (il c a d b e f g h i j k l m n o) (dN a b o) (il c a d b e f g h i j k l m n) (fh 0 (l6 c a d b e f g h i j k l m n) eB):=by
  unfold dN;exact Sg.cut 3 (bi au) (bW aO (s8 c a d b e f g h i j k l m n o) [⟨[],[],[2]⟩,⟨[],[],[2]⟩,⟨[],[],[2]⟩,⟨[],[],[2]⟩,⟨[],[0,1,2],[1,3,4,5,6,8,9]⟩,⟨[],[0,1,2],[1,3,4,5,6,8,9]⟩,⟨[],[0,1,2],[1,3,4,5,6,8,9]⟩,⟨[],[],[2]⟩,⟨[],[],[2]⟩,⟨[],[0,1,2],[1,3,4,5,6,8,9]⟩,⟨[],[0,1,2],[1,3,4,5,6,8,9]⟩,⟨[],[0,1,2],[1,3,4,5,6,8,9]⟩,⟨[],[0,1,2],[1,3,4,5,6,8]⟩]) (fun _=>bW aO _ [⟨[],[0,1,2],[1,3,4,5,6,8,9]⟩])
def rO(c:Lv)(a:List Nat)(d:Lv)(b:List Nat)(e:Nat)(f:List Nat)(g:Nat)(h:List Nat)(i:Nat)(j:List Nat)(k:Nat)(l:List Nat)(m:Nat)(n:Int)(_:Unit) :aK:=⟨am 262 [(1,.ptr 0 1 0 0),(3,.int .i64 (((List.length a):Nat):Int)),(4,.ptr 1 1 0 0),(5,.ptr 2 1 0 0),(6,.flt false e),(8,.int .i64 n),(11,.int .i64 (0:Int))],[(0,.vs [.imm c (.fl a) 1 1 0 (List.length a),.imm d (.fl b) 1 1 0 (List.length b)]),(1,.vs [.imm .free (.fl f) 1 1 0 g,.imm .free (.fl h) 1 1 0 i]),(2,.vs [.imm .free (.fl j) 1 1 0 k,.imm .free (.fl l) 1 1 0 m])],3⟩
def rP:T ((Unit)⊕(aj)) :=
  .leaf (.inl ())
def gI(c:Lv)(a:List Nat)(d:Lv)(b:List Nat)(e:Nat)(f:List Nat)(g:Nat)(h:List Nat)(i:Nat)(j:List Nat)(k:Nat)(l:List Nat)(m:Nat)(n:Int)(o:Nat) :aK:=⟨am 262 [(1,.ptr 0 1 0 0),(3,.int .i64 (((List.length a):Nat):Int)),(4,.ptr 1 1 0 0),(5,.ptr 2 1 0 0),(6,.flt false e),(8,.int .i64 n),(11,.int .i64 ((o:Nat):Int))],[(0,.vs [.imm c (.fl a) 1 1 0 (List.length a),.imm d (.fl b) 1 1 0 (List.length b)]),(1,.vs [.imm .free (.fl f) 1 1 0 g,.imm .free (.fl h) 1 1 0 i]),(2,.vs [.imm .free (.fl j) 1 1 0 k,.imm .free (.fl l) 1 1 0 m])],3⟩
def k8(_:Unit) :aK:=⟨am 262 [],[],0⟩
def rQ:List Code:=eH (iX (((((((((k7.drop 3).drop 2).drop 2).drop 2).drop 1).drop 1).take 1)).headD .skip))
def rR(c:Lv)(a:List Nat)(d:Lv)(b:List Nat)(e:Nat)(f:List Nat)(g:Nat)(h:List Nat)(i:Nat)(j:List Nat)(k:Nat)(l:List Nat)(m:Nat)(n:Int)(o:Nat)(_:Unit) :aK:=⟨am 262 [(1,.ptr 0 1 0 0),(3,.int .i64 (((List.length a):Nat):Int)),(4,.ptr 1 1 0 0),(5,.ptr 2 1 0 0),(6,.flt false e),(8,.int .i64 n),(11,.int .i64 ((o:Nat):Int))],[(0,.vs [.imm c (.fl a) 1 1 0 (List.length a),.imm d (.fl b) 1 1 0 (List.length b)]),(1,.vs [.imm .free (.fl f) 1 1 0 g,.imm .free (.fl h) 1 1 0 i]),(2,.vs [.imm .free (.fl j) 1 1 0 k,.imm .free (.fl l) 1 1 0 m])],3⟩
def rS(a:List Nat)(b:Nat) :T ((Unit)⊕((Unit)⊕(aj))) :=
  .ask (decide (((b:Nat):Int)<(((List.length a):Nat):Int)))
    (.leaf (.inl ()))
    (.leaf (.inr (.inl ())))
def rT(c:Lv)(a:List Nat)(d:Lv)(b:List Nat)(e:Nat)(f:List Nat)(g:Nat)(h:List Nat)(i:Nat)(j:List Nat)(k:Nat)(l:List Nat)(m:Nat)(n:Int)(o:Nat)(_:Unit) :aK:=⟨am 262 [(1,.ptr 0 1 0 0),(3,.int .i64 (((List.length a):Nat):Int)),(4,.ptr 1 1 0 0),(5,.ptr 2 1 0 0),(6,.flt false e),(8,.int .i64 n),(11,.int .i64 ((o:Nat):Int))],[(0,.vs [.imm c (.fl a) 1 1 0 (List.length a),.imm d (.fl b) 1 1 0 (List.length b)]),(1,.vs [.imm .free (.fl f) 1 1 0 g,.imm .free (.fl h) 1 1 0 i]),(2,.vs [.imm .free (.fl j) 1 1 0 k,.imm .free (.fl l) 1 1 0 m])],3⟩
def rU(c:Lv)(a:List Nat)(d:Lv)(b:List Nat)(e:Nat)(f:List Nat)(g:Nat)(h:List Nat)(i:Nat)(j:List Nat)(k:Nat)(l:List Nat)(m:Nat)(n:Int)(o:Nat)(p:Nat) :aK:=⟨am 262 [(1,.ptr 0 1 0 0),(3,.int .i64 (((List.length a):Nat):Int)),(4,.ptr 1 1 0 0),(5,.ptr 2 1 0 0),(6,.flt false e),(8,.int .i64 n),(11,.int .i64 ((o:Nat):Int)),(12,.flt false p)],[(0,.vs [.imm c (.fl a) 1 1 0 (List.length a),.imm d (.fl b) 1 1 0 (List.length b)]),(1,.vs [.imm .free (.fl f) 1 1 0 g,.imm .free (.fl h) 1 1 0 i]),(2,.vs [.imm .free (.fl j) 1 1 0 k,.imm .free (.fl l) 1 1 0 m])],3⟩
def gJ(c:List Nat)(e:Nat)(d:List Nat)(f:Nat)(b:Int)(a:Nat) :T ((Nat)⊕((Unit)⊕((Unit)⊕(aj)))) :=
  .ask (decide (((a:Nat):Int)<b))
    (.need (fB ((a:Nat):Int) e)<|.need (fg a (List.length c))<|.leaf (.inl (List.getD c a 0)))
    (.need (eX .i64 (((a:Nat):Int)-b))<|.need (fB (((a:Nat):Int)-b) f)<|.need (fg (Int.toNat (((a:Nat):Int)-b)) (List.length d))<|.leaf (.inl (List.getD d (Int.toNat (((a:Nat):Int)-b)) 0)))
def rV(c:Lv)(a:List Nat)(d:Lv)(b:List Nat)(e:Nat)(f:List Nat)(g:Nat)(h:List Nat)(i:Nat)(j:List Nat)(k:Nat)(l:List Nat)(m:Nat)(n:Int)(o:Nat)(p:Nat)(q:Bool) :aK:=⟨am 262 [(1,.ptr 0 1 0 0),(3,.int .i64 (((List.length a):Nat):Int)),(4,.ptr 1 1 0 0),(5,.ptr 2 1 0 0),(6,.flt false e),(8,.int .i64 n),(11,.int .i64 ((o:Nat):Int)),(12,.flt false p),(169,.bool false q)],[(0,.vs [.imm c (.fl a) 1 1 0 (List.length a),.imm d (.fl b) 1 1 0 (List.length b)]),(1,.vs [.imm .free (.fl f) 1 1 0 g,.imm .free (.fl h) 1 1 0 i]),(2,.vs [.imm .free (.fl j) 1 1 0 k,.imm .free (.fl l) 1 1 0 m])],3⟩
def rW(a:Int)(b:Nat) :T ((Bool)⊕((Unit)⊕((Unit)⊕(aj)))) :=
  .need (eX .i64 (a-(1:Int)))<|.ask (((b:Nat):Int) != (a-(1:Int)))
    (.leaf (.inl (((b:Nat):Int) != a)))
    (.leaf (.inl false))
def rX(c:Lv)(a:List Nat)(d:Lv)(b:List Nat)(e:Nat)(f:List Nat)(g:Nat)(h:List Nat)(i:Nat)(j:List Nat)(k:Nat)(l:List Nat)(m:Nat)(n:Int)(o:Nat) :Nat×Bool×(List Int)×Nat×Nat×Int→aK:=fun (p,q,r,s,t,u)=>⟨am 262 [(1,.ptr 0 1 0 0),(3,.int .i64 (((List.length a):Nat):Int)),(4,.ptr 1 1 0 0),(5,.ptr 2 1 0 0),(6,.flt false e),(8,.int .i64 n),(11,.int .i64 ((o:Nat):Int)),(13,.ptr 3 1 0 0),(14,.int .i64 ((p:Nat):Int))],[(0,.vs [.imm c (.fl a) 1 1 0 (List.length a),.imm d (.fl b) 1 1 0 (List.length b)]),(1,.vs [.imm .free (.fl f) 1 1 0 g,.imm .free (.fl h) 1 1 0 i]),(2,.vs [.imm .free (.fl j) 1 1 0 k,.imm .free (.fl l) 1 1 0 m]),(3,.vs [.bool false q,.imm .free (.ns .u64 r) 1 1 s t,.int .i64 u])],4⟩
def dO(b:List Nat)(c:Nat)(a:Nat)(d:Bool) :T ((Nat×Bool×(List Int)×Nat×Nat×Int)⊕((Unit)⊕((Unit)⊕(aj)))) :=
  .ask d
    (.need (fB ((c:Nat):Int) (List.length b))<|.need (fg c (List.length b))<|.ask (!(oU a (List.getD b c 0)))
      (.leaf (.inr (.inr (.inr (.r0 false)))))
      (.leaf (.inr (.inl ()))))
    (.need (kf (bO a))<|.leaf (.inl ((jx (bO a)),(jy (bO a)),(jz (bO a)),(jA (bO a)),(jB (bO a)),(jC (bO a)))))
def rY(c:Lv)(a:List Nat)(d:Lv)(b:List Nat)(e:Nat)(f:List Nat)(g:Nat)(h:List Nat)(i:Nat)(j:List Nat)(k:Nat)(l:List Nat)(m:Nat)(n:Int)(o:Nat)(p:Nat)(q:Bool)(r:List Int)(s:Nat)(t:Nat)(u:Int) :Nat×Bool×(List Int)×Nat×Nat×Int→aK:=fun (v,w,x,y,z,A)=>⟨am 262 [(1,.ptr 0 1 0 0),(3,.int .i64 (((List.length a):Nat):Int)),(4,.ptr 1 1 0 0),(5,.ptr 2 1 0 0),(6,.flt false e),(8,.int .i64 n),(11,.int .i64 ((o:Nat):Int)),(13,.ptr 3 1 0 0),(14,.int .i64 ((p:Nat):Int)),(15,.ptr 4 1 0 0),(16,.int .i64 ((v:Nat):Int))],[(0,.vs [.imm c (.fl a) 1 1 0 (List.length a),.imm d (.fl b) 1 1 0 (List.length b)]),(1,.vs [.imm .free (.fl f) 1 1 0 g,.imm .free (.fl h) 1 1 0 i]),(2,.vs [.imm .free (.fl j) 1 1 0 k,.imm .free (.fl l) 1 1 0 m]),(3,.vs [.bool false q,.imm .free (.ns .u64 r) 1 1 s t,.int .i64 u]),(4,.vs [.bool false w,.imm .free (.ns .u64 x) 1 1 y z,.int .i64 A])],5⟩
def gK(a:List Nat)(b:Nat) :T ((Nat×Bool×(List Int)×Nat×Nat×Int)⊕((Unit)⊕((Unit)⊕(aj)))) :=
  .need (fB ((b:Nat):Int) (List.length a))<|.need (fg b (List.length a))<|.need (kf (bO (List.getD a b 0)))<|.leaf (.inl ((jx (bO (List.getD a b 0))),(jy (bO (List.getD a b 0))),(jz (bO (List.getD a b 0))),(jA (bO (List.getD a b 0))),(jB (bO (List.getD a b 0))),(jC (bO (List.getD a b 0)))))
def rZ(c:Lv)(a:List Nat)(d:Lv)(b:List Nat)(e:Nat)(f:List Nat)(g:Nat)(h:List Nat)(i:Nat)(j:List Nat)(k:Nat)(l:List Nat)(m:Nat)(n:Int)(o:Nat)(p:Nat)(q:Bool)(r:List Int)(s:Nat)(t:Nat)(u:Int)(v:Nat)(w:Bool)(x:List Int)(y:Nat)(z:Nat)(A:Int) :Nat×Bool×(List Int)×Nat×Nat×Int→aK:=fun (B,C,D,E,F,G)=>⟨am 262 [(1,.ptr 0 1 0 0),(3,.int .i64 (((List.length a):Nat):Int)),(4,.ptr 1 1 0 0),(5,.ptr 2 1 0 0),(6,.flt false e),(8,.int .i64 n),(11,.int .i64 ((o:Nat):Int)),(13,.ptr 3 1 0 0),(14,.int .i64 ((p:Nat):Int)),(15,.ptr 4 1 0 0),(16,.int .i64 ((v:Nat):Int)),(17,.ptr 5 1 0 0),(18,.int .i64 ((B:Nat):Int))],[(0,.vs [.imm c (.fl a) 1 1 0 (List.length a),.imm d (.fl b) 1 1 0 (List.length b)]),(1,.vs [.imm .free (.fl f) 1 1 0 g,.imm .free (.fl h) 1 1 0 i]),(2,.vs [.imm .free (.fl j) 1 1 0 k,.imm .free (.fl l) 1 1 0 m]),(3,.vs [.bool false q,.imm .free (.ns .u64 r) 1 1 s t,.int .i64 u]),(4,.vs [.bool false w,.imm .free (.ns .u64 x) 1 1 y z,.int .i64 A]),(5,.vs [.bool false C,.imm .free (.ns .u64 D) 1 1 E F,.int .i64 G])],6⟩
def gL(a:Nat) :T ((Nat×Bool×(List Int)×Nat×Nat×Int)⊕((Unit)⊕((Unit)⊕(aj)))) :=
  .need (kf (bO (cr a)))<|.leaf (.inl ((jx (bO (cr a))),(jy (bO (cr a))),(jz (bO (cr a))),(jA (bO (cr a))),(jB (bO (cr a))),(jC (bO (cr a)))))
def r5(c:Lv)(a:List Nat)(d:Lv)(b:List Nat)(e:Nat)(f:List Nat)(g:Nat)(h:List Nat)(i:Nat)(j:List Nat)(k:Nat)(l:List Nat)(m:Nat)(n:Int)(o:Nat)(p:Bool)(q:List Int)(r:Nat)(s:Nat)(t:Int)(u:Bool)(v:List Int)(w:Nat)(x:Nat)(y:Int)(z:Bool)(A:List Int)(B:Nat)(C:Nat)(D:Int)(E:Bool) :aK:=⟨am 262 [(1,.ptr 0 1 0 0),(3,.int .i64 (((List.length a):Nat):Int)),(4,.ptr 1 1 0 0),(5,.ptr 2 1 0 0),(6,.flt false e),(8,.int .i64 n),(11,.int .i64 ((o:Nat):Int)),(13,.ptr 3 1 0 0),(15,.ptr 4 1 0 0),(17,.ptr 5 1 0 0),(207,.bool false E)],[(0,.vs [.imm c (.fl a) 1 1 0 (List.length a),.imm d (.fl b) 1 1 0 (List.length b)]),(1,.vs [.imm .free (.fl f) 1 1 0 g,.imm .free (.fl h) 1 1 0 i]),(2,.vs [.imm .free (.fl j) 1 1 0 k,.imm .free (.fl l) 1 1 0 m]),(3,.vs [.bool false p,.imm .free (.ns .u64 q) 1 1 r s,.int .i64 t]),(4,.vs [.bool false u,.imm .free (.ns .u64 v) 1 1 w x,.int .i64 y]),(5,.vs [.bool false z,.imm .free (.ns .u64 A) 1 1 B C,.int .i64 D])],6⟩
def r6(a:Nat)(b:Nat)(c:Nat) :T ((Bool)⊕((Unit)⊕((Unit)⊕(aj)))) :=
  .ask (((a:Nat):Int) != (0:Int))
    (.leaf (.inl true))
    (.ask (((b:Nat):Int) != (0:Int))
      (.leaf (.inl true))
      (.leaf (.inl (((c:Nat):Int) != (0:Int)))))
def r7(c:Lv)(a:List Nat)(d:Lv)(b:List Nat)(e:Nat)(f:List Nat)(g:Nat)(h:List Nat)(i:Nat)(j:List Nat)(k:Nat)(l:List Nat)(m:Nat)(n:Int)(o:Nat)(p:Bool)(q:List Int)(r:Nat)(s:Nat)(t:Int) :Nat×Bool×(List Int)×Nat×Nat×Int→aK:=fun (u,v,w,x,y,z)=>⟨am 262 [(1,.ptr 0 1 0 0),(3,.int .i64 (((List.length a):Nat):Int)),(4,.ptr 1 1 0 0),(5,.ptr 2 1 0 0),(6,.flt false e),(8,.int .i64 n),(11,.int .i64 ((o:Nat):Int)),(13,.ptr 3 1 0 0),(14,.int .i64 ((u:Nat):Int)),(15,.ptr 4 1 0 0)],[(0,.vs [.imm c (.fl a) 1 1 0 (List.length a),.imm d (.fl b) 1 1 0 (List.length b)]),(1,.vs [.imm .free (.fl f) 1 1 0 g,.imm .free (.fl h) 1 1 0 i]),(2,.vs [.imm .free (.fl j) 1 1 0 k,.imm .free (.fl l) 1 1 0 m]),(3,.vs [.bool false p,.imm .free (.ns .u64 q) 1 1 r s,.int .i64 t]),(4,.vs [.bool false v,.imm .free (.ns .u64 w) 1 1 x y,.int .i64 z])],5⟩
def gM(g:Bool)(a:List Int)(b:Nat)(c:Nat)(h:Int)(i:Bool)(d:List Int)(e:Nat)(f:Nat)(j:Int)(k:Bool) :T ((Nat×Bool×(List Int)×Nat×Nat×Int)⊕((Unit)⊕((Unit)⊕(aj)))) :=
  .ask k
    (.leaf (.inr (.inr (.inr (.r0 false)))))
    (.need (bg b c a)<|.need (bg e f d)<|.need (kZ (cE g (aa b c a) h i (aa e f d) j))<|.leaf (.inl ((kG (cE g (aa b c a) h i (aa e f d) j)),(kH (cE g (aa b c a) h i (aa e f d) j)),(kI (cE g (aa b c a) h i (aa e f d) j)),(kJ (cE g (aa b c a) h i (aa e f d) j)),(kK (cE g (aa b c a) h i (aa e f d) j)),(kL (cE g (aa b c a) h i (aa e f d) j)))))
def r8(c:Lv)(a:List Nat)(d:Lv)(b:List Nat)(e:Nat)(f:List Nat)(g:Nat)(h:List Nat)(i:Nat)(j:List Nat)(k:Nat)(l:List Nat)(m:Nat)(n:Int)(o:Nat)(p:Bool)(q:List Int)(r:Nat)(s:Nat)(t:Int) :Nat×Bool×(List Int)×Nat×Nat×Int→aK:=fun (u,v,w,x,y,z)=>⟨am 262 [(1,.ptr 0 1 0 0),(3,.int .i64 (((List.length a):Nat):Int)),(4,.ptr 1 1 0 0),(5,.ptr 2 1 0 0),(6,.flt false e),(8,.int .i64 n),(11,.int .i64 ((o:Nat):Int)),(14,.int .i64 ((u:Nat):Int)),(15,.ptr 3 1 0 0),(19,.ptr 4 1 0 0)],[(0,.vs [.imm c (.fl a) 1 1 0 (List.length a),.imm d (.fl b) 1 1 0 (List.length b)]),(1,.vs [.imm .free (.fl f) 1 1 0 g,.imm .free (.fl h) 1 1 0 i]),(2,.vs [.imm .free (.fl j) 1 1 0 k,.imm .free (.fl l) 1 1 0 m]),(3,.vs [.bool false p,.imm .free (.ns .u64 q) 1 1 r s,.int .i64 t]),(4,.vs [.bool false v,.imm .free (.ns .u64 w) 1 1 x y,.int .i64 z])],5⟩
def gN(g:Bool)(a:List Int)(b:Nat)(c:Nat)(h:Int)(k:Nat)(i:Bool)(d:List Int)(e:Nat)(f:Nat)(j:Int) :T ((Nat×Bool×(List Int)×Nat×Nat×Int)⊕((Unit)⊕((Unit)⊕(aj)))) :=
  .ask (((k:Nat):Int) != (0:Int))
    (.leaf (.inr (.inr (.inr (.r0 false)))))
    (.need (bg b c a)<|.need (bg e f d)<|.need (kZ (cE g (aa b c a) h i (aa e f d) j))<|.leaf (.inl ((kG (cE g (aa b c a) h i (aa e f d) j)),(kH (cE g (aa b c a) h i (aa e f d) j)),(kI (cE g (aa b c a) h i (aa e f d) j)),(kJ (cE g (aa b c a) h i (aa e f d) j)),(kK (cE g (aa b c a) h i (aa e f d) j)),(kL (cE g (aa b c a) h i (aa e f d) j)))))
def r9(c:Lv)(a:List Nat)(d:Lv)(b:List Nat)(e:Nat)(f:List Nat)(g:Nat)(h:List Nat)(i:Nat)(j:List Nat)(k:Nat)(l:List Nat)(m:Nat)(n:Int)(o:Nat)(p:Bool)(q:List Int)(r:Nat)(s:Nat)(t:Int) :Nat×Bool×(List Int)×Nat×Nat×Int→aK:=fun (u,v,w,x,y,z)=>⟨am 262 [(1,.ptr 0 1 0 0),(3,.int .i64 (((List.length a):Nat):Int)),(4,.ptr 1 1 0 0),(5,.ptr 2 1 0 0),(6,.flt false e),(8,.int .i64 n),(11,.int .i64 ((o:Nat):Int)),(14,.int .i64 ((u:Nat):Int)),(15,.ptr 3 1 0 0),(19,.ptr 4 1 0 0)],[(0,.vs [.imm c (.fl a) 1 1 0 (List.length a),.imm d (.fl b) 1 1 0 (List.length b)]),(1,.vs [.imm .free (.fl f) 1 1 0 g,.imm .free (.fl h) 1 1 0 i]),(2,.vs [.imm .free (.fl j) 1 1 0 k,.imm .free (.fl l) 1 1 0 m]),(3,.vs [.bool false p,.imm .free (.ns .u64 q) 1 1 r s,.int .i64 t]),(4,.vs [.bool false v,.imm .free (.ns .u64 w) 1 1 x y,.int .i64 z])],5⟩
def gO(e:Nat)(a:List Int)(b:Nat)(c:Nat)(d:Int) :T ((Nat×Bool×(List Int)×Nat×Nat×Int)⊕((Unit)⊕((Unit)⊕(aj)))) :=
  .ask (((e:Nat):Int) != (0:Int))
    (.leaf (.inr (.inr (.inr (.r0 false)))))
    (.need (bg b c a)<|.need (k6 (cG (aa b c a) d))<|.leaf (.inl ((kN (cG (aa b c a) d)),(kO (cG (aa b c a) d)),(kP (cG (aa b c a) d)),(kQ (cG (aa b c a) d)),(kR (cG (aa b c a) d)),(kS (cG (aa b c a) d)))))
def sa(c:Lv)(a:List Nat)(d:Lv)(b:List Nat)(e:Nat)(f:List Nat)(g:Nat)(h:List Nat)(i:Nat)(j:List Nat)(k:Nat)(l:List Nat)(m:Nat)(n:Int)(o:Nat)(p:Nat)(q:Bool)(r:List Int)(s:Nat)(t:Nat)(u:Int) :Nat×Bool×(List Int)×Nat×Nat×Int→aK:=fun (v,w,x,y,z,A)=>⟨am 262 [(1,.ptr 0 1 0 0),(3,.int .i64 (((List.length a):Nat):Int)),(4,.ptr 1 1 0 0),(5,.ptr 2 1 0 0),(6,.flt false e),(8,.int .i64 n),(11,.int .i64 ((o:Nat):Int)),(14,.int .i64 ((p:Nat):Int)),(16,.int .i64 ((v:Nat):Int)),(19,.ptr 3 1 0 0),(20,.ptr 4 1 0 0)],[(0,.vs [.imm c (.fl a) 1 1 0 (List.length a),.imm d (.fl b) 1 1 0 (List.length b)]),(1,.vs [.imm .free (.fl f) 1 1 0 g,.imm .free (.fl h) 1 1 0 i]),(2,.vs [.imm .free (.fl j) 1 1 0 k,.imm .free (.fl l) 1 1 0 m]),(3,.vs [.bool false q,.imm .free (.ns .u64 r) 1 1 s t,.int .i64 u]),(4,.vs [.bool false w,.imm .free (.ns .u64 x) 1 1 y z,.int .i64 A])],5⟩
def gP(a:List Int)(b:Nat)(c:Nat)(d:Int) :T ((Nat×Bool×(List Int)×Nat×Nat×Int)⊕((Unit)⊕((Unit)⊕(aj)))) :=
  .need (bg b c a)<|.need (k6 (cG (aa b c a) d))<|.leaf (.inl ((kN (cG (aa b c a) d)),(kO (cG (aa b c a) d)),(kP (cG (aa b c a) d)),(kQ (cG (aa b c a) d)),(kR (cG (aa b c a) d)),(kS (cG (aa b c a) d))))
def sb(c:Lv)(a:List Nat)(d:Lv)(b:List Nat)(e:Nat)(f:List Nat)(g:Nat)(h:List Nat)(i:Nat)(j:List Nat)(k:Nat)(l:List Nat)(m:Nat)(n:Int)(o:Nat)(p:Bool)(q:List Int)(r:Nat)(s:Nat)(t:Int)(u:Bool)(v:List Int)(w:Nat)(x:Nat)(y:Int)(z:Bool) :aK:=⟨am 262 [(1,.ptr 0 1 0 0),(3,.int .i64 (((List.length a):Nat):Int)),(4,.ptr 1 1 0 0),(5,.ptr 2 1 0 0),(6,.flt false e),(8,.int .i64 n),(11,.int .i64 ((o:Nat):Int)),(19,.ptr 3 1 0 0),(20,.ptr 4 1 0 0),(239,.bool false z)],[(0,.vs [.imm c (.fl a) 1 1 0 (List.length a),.imm d (.fl b) 1 1 0 (List.length b)]),(1,.vs [.imm .free (.fl f) 1 1 0 g,.imm .free (.fl h) 1 1 0 i]),(2,.vs [.imm .free (.fl j) 1 1 0 k,.imm .free (.fl l) 1 1 0 m]),(3,.vs [.bool false p,.imm .free (.ns .u64 q) 1 1 r s,.int .i64 t]),(4,.vs [.bool false u,.imm .free (.ns .u64 v) 1 1 w x,.int .i64 y])],5⟩
def sc(a:Nat)(b:Nat) :T ((Bool)⊕((Unit)⊕((Unit)⊕(aj)))) :=
  .ask (((a:Nat):Int) != (0:Int))
    (.leaf (.inl true))
    (.leaf (.inl (((b:Nat):Int) != (0:Int))))
def sd(c:Lv)(a:List Nat)(d:Lv)(b:List Nat)(e:Nat)(f:List Nat)(g:Nat)(h:List Nat)(i:Nat)(j:List Nat)(k:Nat)(l:List Nat)(m:Nat)(n:Int)(o:Nat)(p:Bool)(q:List Int)(r:Nat)(s:Nat)(t:Int) :Nat×Bool×(List Int)×Nat×Nat×Int→aK:=fun (u,v,w,x,y,z)=>⟨am 262 [(1,.ptr 0 1 0 0),(3,.int .i64 (((List.length a):Nat):Int)),(4,.ptr 1 1 0 0),(5,.ptr 2 1 0 0),(6,.flt false e),(8,.int .i64 n),(11,.int .i64 ((o:Nat):Int)),(14,.int .i64 ((u:Nat):Int)),(19,.ptr 3 1 0 0),(20,.ptr 4 1 0 0)],[(0,.vs [.imm c (.fl a) 1 1 0 (List.length a),.imm d (.fl b) 1 1 0 (List.length b)]),(1,.vs [.imm .free (.fl f) 1 1 0 g,.imm .free (.fl h) 1 1 0 i]),(2,.vs [.imm .free (.fl j) 1 1 0 k,.imm .free (.fl l) 1 1 0 m]),(3,.vs [.bool false p,.imm .free (.ns .u64 q) 1 1 r s,.int .i64 t]),(4,.vs [.bool false v,.imm .free (.ns .u64 w) 1 1 x y,.int .i64 z])],5⟩
def gQ(d:Bool)(a:List Int)(b:Nat)(c:Nat)(e:Int)(f:Bool) :T ((Nat×Bool×(List Int)×Nat×Nat×Int)⊕((Unit)⊕((Unit)⊕(aj)))) :=
  .ask f
    (.leaf (.inr (.inr (.inr (.r0 false)))))
    (.need (bg b c a)<|.need (kB (dI d (aa b c a) e (-52:Int)))<|.leaf (.inl ((ln (dI d (aa b c a) e (-52:Int))),(lp (dI d (aa b c a) e (-52:Int))),(lq (dI d (aa b c a) e (-52:Int))),(lr (dI d (aa b c a) e (-52:Int))),(lu (dI d (aa b c a) e (-52:Int))),(lw (dI d (aa b c a) e (-52:Int))))))
def se(c:Lv)(a:List Nat)(d:Lv)(b:List Nat)(e:Nat)(f:List Nat)(g:Nat)(h:List Nat)(i:Nat)(j:List Nat)(k:Nat)(l:List Nat)(m:Nat)(n:Int)(o:Nat)(p:Nat) :Nat×Int→aK:=fun (q,r)=>⟨am 262 [(1,.ptr 0 1 0 0),(3,.int .i64 (((List.length a):Nat):Int)),(4,.ptr 1 1 0 0),(5,.ptr 2 1 0 0),(6,.flt false e),(8,.int .i64 n),(11,.int .i64 ((o:Nat):Int)),(14,.int .i64 ((p:Nat):Int)),(16,.int .i64 ((q:Nat):Int)),(21,.int .i64 r)],[(0,.vs [.imm c (.fl a) 1 1 0 (List.length a),.imm d (.fl b) 1 1 0 (List.length b)]),(1,.vs [.imm .free (.fl f) 1 1 0 g,.imm .free (.fl h) 1 1 0 i]),(2,.vs [.imm .free (.fl j) 1 1 0 k,.imm .free (.fl l) 1 1 0 m])],3⟩
def gR(g:Bool)(a:List Int)(b:Nat)(c:Nat)(h:Int)(i:Bool)(d:List Int)(e:Nat)(f:Nat)(j:Int) :T ((Nat×Int)⊕((Unit)⊕((Unit)⊕(aj)))) :=
  .need (bg b c a)<|.need (bg e f d)<|.need (n5 (i0 g (aa b c a) h i (aa e f d) j))<|.leaf (.inl ((oC (i0 g (aa b c a) h i (aa e f d) j)),(oB (i0 g (aa b c a) h i (aa e f d) j))))
def sf(c:Lv)(a:List Nat)(d:Lv)(b:List Nat)(e:Nat)(f:List Nat)(g:Nat)(h:List Nat)(i:Nat)(j:List Nat)(k:Nat)(l:List Nat)(m:Nat)(n:Int)(o:Nat)(p:Bool) :aK:=⟨am 262 [(1,.ptr 0 1 0 0),(3,.int .i64 (((List.length a):Nat):Int)),(4,.ptr 1 1 0 0),(5,.ptr 2 1 0 0),(6,.flt false e),(8,.int .i64 n),(11,.int .i64 ((o:Nat):Int)),(260,.bool false p)],[(0,.vs [.imm c (.fl a) 1 1 0 (List.length a),.imm d (.fl b) 1 1 0 (List.length b)]),(1,.vs [.imm .free (.fl f) 1 1 0 g,.imm .free (.fl h) 1 1 0 i]),(2,.vs [.imm .free (.fl j) 1 1 0 k,.imm .free (.fl l) 1 1 0 m])],3⟩
def sh(a:Nat)(b:Nat)(c:Int) :T ((Bool)⊕((Unit)⊕((Unit)⊕(aj)))) :=
  .ask (((a:Nat):Int) != (0:Int))
    (.leaf (.inl true))
    (.ask (((b:Nat):Int) != (0:Int))
      (.leaf (.inl true))
      (.leaf (.inl (decide (c>(0:Int))))))
def si(a:Bool) :T ((Unit)⊕((Unit)⊕((Unit)⊕(aj)))) :=
  .ask a
    (.leaf (.inr (.inr (.inr (.r0 false)))))
    (.leaf (.inl ()))
def sj(a:Nat) :T ((Nat)⊕((Unit)⊕(aj))) :=
  .need (eX .i64 (((a+1):Nat):Int))<|.leaf (.inl (a+1))
def dP(b:List Nat)(h:Nat)(i:List Nat)(j:Nat)(k:List Nat)(l:Nat)(c:Int) :Nat→Option ((Nat)⊕((Unit)⊕(aj))):=fun a =>
  aS ((rS b a).run) fun _ =>
  aS (zG (aS ((gJ i j k l c a).run) fun m =>
  aS ((rW c a).run) fun n =>
  aS ((dO b a m n).run) fun (o,p,q,r,s,t) =>
  aS ((gK b a).run) fun (u,v,w,x,y,z) =>
  aS ((gL h).run) fun (A,B,C,D,E,F) =>
  aS ((r6 o u A).run) fun G =>
  aS ((gM v w x y z B C D E F G).run) fun (H,I,d,e,f,g) =>
  aS ((gN p q r s t H I d e f g).run) fun (J,b2,K,L,M,N) =>
  aS ((gO J K L M N).run) fun (O,P,Q,R,S,T) =>
  aS ((gP d e f g).run) fun (U,V,W,X,Y,Z) =>
  aS ((sc O U).run) fun a0 =>
  aS ((gQ V W X Y Z a0).run) fun (a1,a2,a3,a4,a6,a7) =>
  aS ((gR P Q R S T a2 a3 a4 a6 a7).run) fun (a8,b0) =>
  aS ((sh a1 a8 b0).run) fun b1 =>
  (si b1).run)) fun _ =>
  (sj a).run
theorem sk(h:Lv)(a:List Nat)(i:Lv)(j:List Nat)(b:Nat)(c:List Nat)(d:Nat)(k:List Nat)(l:Nat)(e:List Nat)(f:Nat)(m:List Nat)(n:Nat)(g:Int)(o:Nat) :Sg prog [] rQ (gI h a i j b c d k l e f m n g o) (dP a b c d e f g o) (gI h a i j b c d k l e f m n g) (fh 2 k8 eB):=by
  unfold dP;exact Sg.cut 2 (bi au) (bW aO (rR h a i j b c d k l e f m n g o) [⟨[],[0,1,2],[1,3,4,5,6,8,11]⟩,⟨[],[],[]⟩]) (fun _=>Sg.cut 1 (bi au) (Pb (rT h a i j b c d k l e f m n g o) 3 (bi au) (KN (by decide) (ik _)) (Sg.cut 3 (bi (bi au)) (bW aO (rU h a i j b c d k l e f m n g o) [⟨[],[0,1,2],[1,3,4,5,6,8,11,12]⟩,⟨[],[0,1,2],[1,3,4,5,6,8,11,12]⟩]) (fun K=>Sg.cut 1 (bi (bi au)) (bW aO (rV h a i j b c d k l e f m n g o K) [⟨[],[0,1,2],[1,3,4,5,6,8,11,12,169]⟩,⟨[],[0,1,2],[1,3,4,5,6,8,11,12,169]⟩]) (fun Y=>Sg.cut 2 (bi (bi au)) (bW aO (rX h a i j b c d k l e f m n g o) [⟨[],[],[2]⟩,⟨[],[0,1,2],[1,3,4,5,6,8,11]⟩,⟨[],[0,1,2,83],[1,3,4,5,6,8,11,13,14]⟩]) (fun ⟨z,p,q,r,s,t⟩=>Sg.cut 1 (bi (bi au)) (bW aO (rY h a i j b c d k l e f m n g o z p q r s t) [⟨[],[0,1,2,3,148],[1,3,4,5,6,8,11,13,14,15,16]⟩]) (fun ⟨L,A,B,C,D,E⟩=>Sg.cut 1 (bi (bi au)) (bW aO (rZ h a i j b c d k l e f m n g o z p q r s t L A B C D E) [⟨[],[0,1,2,3,4,101],[1,3,4,5,6,8,11,13,14,15,16,17,18]⟩]) (fun ⟨Z,M,N,O,P,Q⟩=>Sg.cut 1 (bi (bi au)) (bW aO (r5 h a i j b c d k l e f m n g o p q r s t A B C D E M N O P Q) [⟨[],[0,1,2,3,4,5],[1,3,4,5,6,8,11,13,15,17,207]⟩,⟨[],[0,1,2,3,4,5],[1,3,4,5,6,8,11,13,15,17,207]⟩,⟨[],[0,1,2,3,4,5],[1,3,4,5,6,8,11,13,15,17,207]⟩]) (fun a0=>Sg.cut 2 (bi (bi au)) (bW aO (r7 h a i j b c d k l e f m n g o p q r s t) [⟨[],[],[2]⟩,⟨[],[0,1,2,3,4],[1,3,4,5,6,8,11,13,14,15]⟩]) (fun ⟨a1,F,G,H,I,J⟩=>Sg.cut 3 (bi (bi au)) (bW aO (r8 h a i j b c d k l e f m n g o F G H I J) [⟨[],[],[2]⟩,⟨[],[0,1,2,4,133],[1,3,4,5,6,8,11,14,15,19]⟩]) (fun ⟨a2,a3,a4,a6,a8,b0⟩=>Sg.cut 3 (bi (bi au)) (bW aO (r9 h a i j b c d k l e f m n g o F G H I J) [⟨[],[],[2]⟩,⟨[],[0,1,2,3,4],[1,3,4,5,6,8,11,14,15,19]⟩]) (fun ⟨R,u,v,w,x,y⟩=>Sg.cut 1 (bi (bi au)) (bW aO (sa h a i j b c d k l e f m n g o R u v w x y) [⟨[],[0,1,2,4,85],[1,3,4,5,6,8,11,14,16,19,20]⟩]) (fun ⟨b1,S,T,U,V,W⟩=>Sg.cut 1 (bi (bi au)) (bW aO (sb h a i j b c d k l e f m n g o u v w x y S T U V W) [⟨[],[0,1,2,3,4],[1,3,4,5,6,8,11,19,20,239]⟩,⟨[],[0,1,2,3,4],[1,3,4,5,6,8,11,19,20,239]⟩]) (fun b2=>Sg.cut 2 (bi (bi au)) (bW aO (sd h a i j b c d k l e f m n g o u v w x y) [⟨[],[],[2]⟩,⟨[],[0,1,2,3,4],[1,3,4,5,6,8,11,14,19,20]⟩]) (fun ⟨X,b3,b4,b5,b6,b7⟩=>Sg.cut 1 (bi (bi au)) (bW aO (se h a i j b c d k l e f m n g o X) [⟨[],[0,1,2],[1,3,4,5,6,8,11,14,16,21]⟩]) (fun ⟨b8,b9⟩=>Sg.cut 1 (bi (bi au)) (bW aO (sf h a i j b c d k l e f m n g o) [⟨[],[0,1,2],[1,3,4,5,6,8,11,260]⟩,⟨[],[0,1,2],[1,3,4,5,6,8,11,260]⟩,⟨[],[0,1,2],[1,3,4,5,6,8,11,260]⟩]) (fun c0=>bW aO _ [⟨[],[],[2]⟩,⟨[],[0,1,2],[1,3,4,5,6,8,11]⟩])))))))))))))))) (fun _=>bW aO _ [⟨[],[0,1,2],[1,3,4,5,6,8,11]⟩]))
def sm:T ((Empty)⊕(aj)) :=
  .leaf (.inr (.r0 true))
def fw(a:List Nat)(b:List Nat) :Option aj:=nm (aS ((bL a b).run) fun e =>
  aS ((gF a b e).run) fun (f,g,h,c,n,i,j,d,o,k) =>
  aS ((gG a g c i d k).run) fun (l,m) =>
  aS ((rK m).run) fun _ =>
  aS (d8 (dN a b) 0) fun _ =>
  aS ((rP).run) fun _ =>
  aS (d8 (dP a f h c j d l) 0) fun _ =>
  (sm).run)
theorem l7(c:Lv)(a:List Nat)(d:Lv)(b:List Nat){x:aj}(h:fw a b=some x) :ah prog iT [] [.agg [.imm c (.fl a) 1 1 0 (List.length a),.imm d (.fl b) 1 1 0 (List.length b)]] (i4 x) :=
  oO false i4 eB h (Sg.cut 3 au (bW aO (s4 c a d b) [⟨[],[0],[1,3,40]⟩,⟨[],[0],[1,3,40]⟩,⟨[],[0],[1,3,40]⟩,⟨[],[0],[1,3,40]⟩,⟨[],[0],[1,3,40]⟩]) (fun s=>Sg.cut 2 au (bW aO (s5 c a d b) [⟨[],[],[2]⟩,⟨[],[0,113,129],[1,3,4,5,6,7]⟩]) (fun ⟨e,t,f,g,i,j,k,l,m,n⟩=>Sg.cut 2 au (bW aO (s6 c a d b e f g i j k l m n) [⟨[],[0,1,2],[1,3,4,5,6,8,86]⟩,⟨[],[0,1,2],[1,3,4,5,6,8,86]⟩,⟨[],[0,1,2],[1,3,4,5,6,8,86]⟩,⟨[],[0,1,2],[1,3,4,5,6,8,86]⟩,⟨[],[0,1,2],[1,3,4,5,6,8,86]⟩]) (fun ⟨o,u⟩=>Sg.cut 2 au (bW aO (s7 c a d b e f g i j k l m n o) [⟨[],[],[2]⟩,⟨[],[0,1,2],[1,3,4,5,6,8,9]⟩]) (fun _=>Sg.cut 1 au (KX ⟨[],[0,1,2],[1,3,4,5,6,8,9]⟩ (il c a d b e f g i j k l m n o) (l6 c a d b e f g i j k l m n o) 0 au (ik _) (fun p=>rN c a d b e f g i j k l m n o p)) (fun _=>Sg.cut 1 au (bW aO (rO c a d b e f g i j k l m n o) [⟨[],[0,1,2],[1,3,4,5,6,8,11]⟩]) (fun _=>Sg.cut 1 au (KX ⟨[],[0,1,2],[1,3,4,5,6,8,11]⟩ (gI c a d b e f g i j k l m n o) (k8) 2 au (ik _) (fun q=>sk c a d b e f g i j k l m n o q)) (fun _=>bW aO _ [⟨[],[],[2]⟩]))))))))
    (fun x=>by cases x with | r0 r=>exact nn [.bool false r])
def im:Option aj→Bool
  | some _=>true
  | none=>false
def jP:Option aj→Bool
  | some (.r0 x)=>x
  | _=>false
theorem s9{x:Option aj}(h:im x=true) :x=some (.r0 (jP x)):=by
  unfold im at h
  split at h<;>first | rfl | (cases h;done) | (rename_i y;cases y;rfl)
def nj:aM:=cR iT (.cons (.agg (.cons .fl (.cons .fl .nil))) .nil) fun t=>(fun q=>[⟨i4 (.r0 (jP q)),[im q]⟩]) (fw t.1.1.2 t.1.2.1.2)
theorem qt:aX prog nj:=a9 fun t=>(ba (fun h=>l7 t.1.1.1 t.1.1.2 t.1.2.1.1 t.1.2.1.2 (s9 h)) bu)
def uE:List aM:=nj::Bc
theorem EP:bh prog (bk uE):=ay qt aO
end
end Go.Plb.Seat
namespace Go.Plb.Seat
open Go Go.Plb
set_option linter.unusedSimpArgs false
set_option linter.unusedVariables false
noncomputable def qu(l:List Nat) :Bool:=@decide (Fn l) (Classical.propDecidable _)
theorem sR{l:List Nat} :qu l=true↔Fn l:=@decide_eq_true_iff _ (Classical.propDecidable _)
theorem Bd{l:List Nat} :qu l=false↔¬ Fn l:=@decide_eq_false_iff_not _ (Classical.propDecidable _)
theorem Hj{l:List Nat}(hw:Wd l)(hn:l.length≤1000000000) :∃ k:Int,aW l=some (.r0 k)∧decide (k≥0) = !(qu l):=by
  have step:∀ j,j<l.length→fin (l.getD j 0)=true→bK l j=some (.inl (j+1)):=by
    intro j hj hf
    show (bz _ _).run=_
    unfold bz
    exact nq (by simp only [aq,bb,bc,aA,aB,ak,aC,aD,decide_eq_true_eq,decide_eq_false_iff_not,beq_iff_eq,beq_eq_false_iff_ne,bne_iff_ne,bne_eq_false_iff_eq,Bool.not_eq_true',Bool.not_eq_false',List.length_set,ne_eq,ge_iff_le,gt_iff_lt,an,ac,aU];omega) (aY (by simp only [aq,bb,bc,aA,aB,ak,aC,aD,decide_eq_true_eq,decide_eq_false_iff_not,beq_iff_eq,beq_eq_false_iff_ne,bne_iff_ne,bne_eq_false_iff_eq,Bool.not_eq_true',Bool.not_eq_false',List.length_set,ne_eq,ge_iff_le,gt_iff_lt,an,ac,aU];omega) (aY (by simp only [aq,bb,bc,aA,aB,ak,aC,aD,decide_eq_true_eq,decide_eq_false_iff_not,beq_iff_eq,beq_eq_false_iff_ne,bne_iff_ne,bne_eq_false_iff_eq,Bool.not_eq_true',Bool.not_eq_false',List.length_set,ne_eq,ge_iff_le,gt_iff_lt,an,ac,aU];omega) (gW (Ka (hw j) hf) (bC (gW (M3 (hw j) hf) (aY (by simp only [aq,bb,bc,aA,aB,ak,aC,aD,decide_eq_true_eq,decide_eq_false_iff_not,beq_iff_eq,beq_eq_false_iff_ne,bne_iff_ne,bne_eq_false_iff_eq,Bool.not_eq_true',Bool.not_eq_false',List.length_set,ne_eq,ge_iff_le,gt_iff_lt,an,ac,aU];omega) rfl))))))
  by_cases h:Fn l
  · refine ⟨-1,bj (ab (a:=()) rfl (ab (a:=()) (dL (fun j=>j) l.length rfl (fun j hj=>step j hj (h j hj)) (gW (by simp only [aq,bb,bc,aA,aB,ak,aC,aD,decide_eq_true_eq,decide_eq_false_iff_not,beq_iff_eq,beq_eq_false_iff_ne,bne_iff_ne,bne_eq_false_iff_eq,Bool.not_eq_true',Bool.not_eq_false',List.length_set,ne_eq,ge_iff_le,gt_iff_lt,an,ac,aU];omega) rfl)) rfl)),?_⟩
    rw [sR.2 h];rfl
  · obtain ⟨k,hk,hb,hf⟩:=oX (p:=fun i=>fin (l.getD i 0)=true) h
    have hbf:fin (l.getD k 0)=false:=by cases q:fin (l.getD k 0) with | true=>exact absurd q hb | false=>rfl
    refine ⟨(k:Int),bj (ab (a:=()) rfl (bS (dL (fun j=>j) k rfl (fun j hj=>step j (by omega) (hf j hj)) ?_))),?_⟩
    · show (bz _ _).run=_
      unfold bz
      refine nq (by simp only [aq,bb,bc,aA,aB,ak,aC,aD,decide_eq_true_eq,decide_eq_false_iff_not,beq_iff_eq,beq_eq_false_iff_ne,bne_iff_ne,bne_eq_false_iff_eq,Bool.not_eq_true',Bool.not_eq_false',List.length_set,ne_eq,ge_iff_le,gt_iff_lt,an,ac,aU];omega) (aY (by simp only [aq,bb,bc,aA,aB,ak,aC,aD,decide_eq_true_eq,decide_eq_false_iff_not,beq_iff_eq,beq_eq_false_iff_ne,bne_iff_ne,bne_eq_false_iff_eq,Bool.not_eq_true',Bool.not_eq_false',List.length_set,ne_eq,ge_iff_le,gt_iff_lt,an,ac,aU];omega) (aY (by simp only [aq,bb,bc,aA,aB,ak,aC,aD,decide_eq_true_eq,decide_eq_false_iff_not,beq_iff_eq,beq_eq_false_iff_ne,bne_iff_ne,bne_eq_false_iff_eq,Bool.not_eq_true',Bool.not_eq_false',List.length_set,ne_eq,ge_iff_le,gt_iff_lt,an,ac,aU];omega) ?_))
      rcases CI (hw k) hbf with q | ⟨q1,q2,q3⟩
      · exact nq (Kb q) rfl
      · exact gW q3 (bC (nq (M4 (hw k) q2) rfl))
    · rw [Bd.2 h,decide_eq_true (by omega)];rfl
theorem Dd{l:List Nat}(hw:Wd l)(hn:l.length≤1000000000) :eA l=some (.r0 (qu l)):=by
  have step:∀ j,j<l.length→fin (l.getD j 0)=true→g7 l j=some (.inl (j+1)):=by
    intro j hj hf
    show (fU _ _).run=_
    unfold fU
    exact nq (by simp only [aq,bb,bc,aA,aB,ak,aC,aD,decide_eq_true_eq,decide_eq_false_iff_not,beq_iff_eq,beq_eq_false_iff_ne,bne_iff_ne,bne_eq_false_iff_eq,Bool.not_eq_true',Bool.not_eq_false',List.length_set,ne_eq,ge_iff_le,gt_iff_lt,an,ac,aU];omega) (aY (by simp only [aq,bb,bc,aA,aB,ak,aC,aD,decide_eq_true_eq,decide_eq_false_iff_not,beq_iff_eq,beq_eq_false_iff_ne,bne_iff_ne,bne_eq_false_iff_eq,Bool.not_eq_true',Bool.not_eq_false',List.length_set,ne_eq,ge_iff_le,gt_iff_lt,an,ac,aU];omega) (aY (by simp only [aq,bb,bc,aA,aB,ak,aC,aD,decide_eq_true_eq,decide_eq_false_iff_not,beq_iff_eq,beq_eq_false_iff_ne,bne_iff_ne,bne_eq_false_iff_eq,Bool.not_eq_true',Bool.not_eq_false',List.length_set,ne_eq,ge_iff_le,gt_iff_lt,an,ac,aU];omega) (aY (by simp only [aq,bb,bc,aA,aB,ak,aC,aD,decide_eq_true_eq,decide_eq_false_iff_not,beq_iff_eq,beq_eq_false_iff_ne,bne_iff_ne,bne_eq_false_iff_eq,Bool.not_eq_true',Bool.not_eq_false',List.length_set,ne_eq,ge_iff_le,gt_iff_lt,an,ac,aU];omega) (aY (by simp only [aq,bb,bc,aA,aB,ak,aC,aD,decide_eq_true_eq,decide_eq_false_iff_not,beq_iff_eq,beq_eq_false_iff_ne,bne_iff_ne,bne_eq_false_iff_eq,Bool.not_eq_true',Bool.not_eq_false',List.length_set,ne_eq,ge_iff_le,gt_iff_lt,an,ac,aU];omega) (gW (by rw [FW (hw j),hf];rfl) (aY (by simp only [aq,bb,bc,aA,aB,ak,aC,aD,decide_eq_true_eq,decide_eq_false_iff_not,beq_iff_eq,beq_eq_false_iff_ne,bne_iff_ne,bne_eq_false_iff_eq,Bool.not_eq_true',Bool.not_eq_false',List.length_set,ne_eq,ge_iff_le,gt_iff_lt,an,ac,aU];omega) rfl))))))
  by_cases h:Fn l
  · rw [sR.2 h]
    exact bj (ab (a:=()) rfl (ab (a:=()) (dL (fun j=>j) l.length rfl (fun j hj=>step j hj (h j hj)) (gW (by simp only [aq,bb,bc,aA,aB,ak,aC,aD,decide_eq_true_eq,decide_eq_false_iff_not,beq_iff_eq,beq_eq_false_iff_ne,bne_iff_ne,bne_eq_false_iff_eq,Bool.not_eq_true',Bool.not_eq_false',List.length_set,ne_eq,ge_iff_le,gt_iff_lt,an,ac,aU];omega) rfl)) rfl))
  · obtain ⟨k,hk,hb,hf⟩:=oX (p:=fun i=>fin (l.getD i 0)=true) h
    have hbf:fin (l.getD k 0)=false:=by cases q:fin (l.getD k 0) with | true=>exact absurd q hb | false=>rfl
    rw [Bd.2 h]
    refine bj (ab (a:=()) rfl (bS (dL (fun j=>j) k rfl (fun j hj=>step j (by omega) (hf j hj)) ?_)))
    show (fU _ _).run=_
    unfold fU
    exact nq (by simp only [aq,bb,bc,aA,aB,ak,aC,aD,decide_eq_true_eq,decide_eq_false_iff_not,beq_iff_eq,beq_eq_false_iff_ne,bne_iff_ne,bne_eq_false_iff_eq,Bool.not_eq_true',Bool.not_eq_false',List.length_set,ne_eq,ge_iff_le,gt_iff_lt,an,ac,aU];omega) (aY (by simp only [aq,bb,bc,aA,aB,ak,aC,aD,decide_eq_true_eq,decide_eq_false_iff_not,beq_iff_eq,beq_eq_false_iff_ne,bne_iff_ne,bne_eq_false_iff_eq,Bool.not_eq_true',Bool.not_eq_false',List.length_set,ne_eq,ge_iff_le,gt_iff_lt,an,ac,aU];omega) (aY (by simp only [aq,bb,bc,aA,aB,ak,aC,aD,decide_eq_true_eq,decide_eq_false_iff_not,beq_iff_eq,beq_eq_false_iff_ne,bne_iff_ne,bne_eq_false_iff_eq,Bool.not_eq_true',Bool.not_eq_false',List.length_set,ne_eq,ge_iff_le,gt_iff_lt,an,ac,aU];omega) (aY (by simp only [aq,bb,bc,aA,aB,ak,aC,aD,decide_eq_true_eq,decide_eq_false_iff_not,beq_iff_eq,beq_eq_false_iff_ne,bne_iff_ne,bne_eq_false_iff_eq,Bool.not_eq_true',Bool.not_eq_false',List.length_set,ne_eq,ge_iff_le,gt_iff_lt,an,ac,aU];omega) (aY (by simp only [aq,bb,bc,aA,aB,ak,aC,aD,decide_eq_true_eq,decide_eq_false_iff_not,beq_iff_eq,beq_eq_false_iff_ne,bne_iff_ne,bne_eq_false_iff_eq,Bool.not_eq_true',Bool.not_eq_false',List.length_set,ne_eq,ge_iff_le,gt_iff_lt,an,ac,aU];omega) (nq (by rw [FW (hw k),hbf];rfl) rfl)))))
def Hw(D E:List Nat) :Bool:=decide (D.length≤512∧E.length=D.length-1)
theorem Hk{D E:List Nat}(hD:D.length≤1000000) :eV D E=some (.r0 (Hw D E)):=by
  refine bj (ab (a:=Hw D E) ?_ rfl)
  unfold rD
  by_cases h:D.length≤512
  · refine nq (by rw [decide_eq_true_eq];omega) (aY (by simp only [aq,bb,bc,aA,aB,ak,aC,aD,decide_eq_true_eq,decide_eq_false_iff_not,beq_iff_eq,beq_eq_false_iff_ne,bne_iff_ne,bne_eq_false_iff_eq,Bool.not_eq_true',Bool.not_eq_false',List.length_set,ne_eq,ge_iff_le,gt_iff_lt,an,ac,aU];omega) ?_)
    show some (Sum.inl (_==_))=_
    congr 2
    unfold Hw mC
    by_cases h2:E.length=D.length-1
    · rw [decide_eq_true ⟨h,h2⟩,beq_iff_eq]
      split<;>omega
    · rw [decide_eq_false (fun q=>h2 q.2),beq_eq_false_iff_ne]
      split<;>omega
  · have:Hw D E=false:=decide_eq_false fun q=>h q.1
    rw [this]
    exact gW (by rw [decide_eq_false_iff_not];omega) rfl
theorem K4{D E:List Nat}(hD:D.length≤1000000) :ja D E=some (.r0 (Hw D E)):=by
  refine bj (ab (a:=Hw D E) ?_ rfl)
  unfold vS
  by_cases h:D.length≤512
  · refine nq (by rw [decide_eq_true_eq];omega) ?_
    by_cases h0:D.length=0
    · refine nq (by rw [beq_iff_eq];omega) ?_
      by_cases h1:E.length=0
      · have:Hw D E=true:=decide_eq_true ⟨h,by omega⟩
        rw [this]
        exact nq (by rw [beq_iff_eq];omega) rfl
      · have:Hw D E=false:=decide_eq_false fun q=>h1 (by omega)
        rw [this]
        exact gW (by rw [beq_eq_false_iff_ne];omega) (gW (by rw [decide_eq_false_iff_not];omega) rfl)
    · refine gW (by rw [beq_eq_false_iff_ne];omega) (nq (by rw [decide_eq_true_eq];omega) (aY (by simp only [aq,bb,bc,aA,aB,ak,aC,aD,decide_eq_true_eq,decide_eq_false_iff_not,beq_iff_eq,beq_eq_false_iff_ne,bne_iff_ne,bne_eq_false_iff_eq,Bool.not_eq_true',Bool.not_eq_false',List.length_set,ne_eq,ge_iff_le,gt_iff_lt,an,ac,aU];omega) ?_))
      show some (Sum.inl (_==_))=_
      congr 2
      unfold Hw
      by_cases h2:E.length=D.length-1
      · rw [decide_eq_true ⟨h,h2⟩,beq_iff_eq];omega
      · rw [decide_eq_false (fun q=>h2 q.2),beq_eq_false_iff_ne];omega
  · have:Hw D E=false:=decide_eq_false fun q=>h q.1
    rw [this]
    exact gW (by rw [decide_eq_false_iff_not];omega) rfl
theorem Hl{D E:List Nat}(wD:Wd D)(wE:Wd E)(hD:D.length≤1000000)(hE:E.length≤1000000)(h:Hw D E=true) :iC D E=some (.r0 (bif qu D&&qu E then 0 else 10)):=by
  obtain ⟨k1,i1,j1⟩:=Hj wD (by omega)
  obtain ⟨k2,i2,j2⟩:=Hj wE (by omega)
  have t3:(m6 D E).run=some (bif qu D&&qu E then .inl () else .inr (.r0 10)):=by
    unfold m6
    rw [aN,aN,Hk hD,h,i1,i2]
    have n1:(!(!(decide (a5 (some (.r0 k1))≥(0:Int))))) = !(qu D):=by rw [Bool.not_not];exact j1
    have n2:(!(!(decide (a5 (some (.r0 k2))≥(0:Int))))) = !(qu E):=by rw [Bool.not_not];exact j2
    rw [n1,n2]
    cases qu D
    · exact (bx (bx (aw (aJ (bx (aw (bC rfl)))))))
    cases qu E
    · exact (bx (bx (aw (aJ (bx (aw (aJ (bx (aw (bC rfl))))))))))
    · exact (bx (bx (aw (aJ (bx (aw (aJ (bx (aw (aJ rfl))))))))))
  cases q:(qu D&&qu E)
  · rw [q] at t3
    exact bj (bS t3)
  · rw [q] at t3
    exact bj (ab t3 rfl)
theorem Ng{l:List Nat}{o k:Nat}(h:o+k≤l.length) :aa o k l=bF (fun i=>l.getD (o+i) 0) k:=by
  refine sL (fJ h) fun j hj=>?_
  rw [vd,List.getElem?_take,if_pos hj,List.getElem?_drop,List.getD_eq_getElem?_getD,List.getElem?_eq_getElem (by omega)]
  rfl
def v9(D:List Nat)(r m i:Nat) :Nat:=if oP r 0=true∧(i=m-1∨i=m) then sW (D.getD i 0) (cr r) else D.getD i 0
theorem Jr{D:List Nat}{r m i:Nat}(h:oP r 0=true)(hi:i=m-1∨i=m) :v9 D r m i=sW (D.getD i 0) (cr r):=if_pos ⟨h,hi⟩
theorem Js{D:List Nat}{r m i:Nat}(h:oP r 0=false) :v9 D r m i=D.getD i 0:=if_neg (by rw [h];simp)
theorem EM{D:List Nat}{r m i:Nat}(hi : ¬ (i=m-1∨i=m)) :v9 D r m i=D.getD i 0:=if_neg (fun q=>hi q.2)
def OR(D E:List Nat)(r m:Nat) :bH :=
  .r0 r m (m-1) (D.length-m) (D.length-1-m) (bF (v9 D r m) m) (bF (fun i=>E.getD i 0) (m-1)) (bF (fun i=>v9 D r m (m+i)) (D.length-m)) (bF (fun i=>E.getD (m+i) 0) (D.length-1-m))
theorem K5{D E:List Nat}(h2:2≤D.length)(h5:D.length≤512)(hE:E.length=D.length-1) :cM D E=some (OR D E (E.getD (D.length/2-1) 0) (D.length/2)):=by
  have ed:Int.tdiv ((D.length:Nat):Int) (2:Int)=((D.length/2:Nat):Int):=rfl
  obtain ⟨m,hm⟩:∃ m,m=D.length/2:=⟨_,rfl⟩
  have hm1:1≤m:=by omega
  have hm2:m<D.length:=by omega
  have hm3:m≤D.length-m:=by omega
  have e1:((m:Nat):Int)-1=((m-1:Nat):Int):=by omega
  rw [←hm]
  rw [←hm] at ed
  have c1:aa 0 m D=bF (fun i=>D.getD (0+i) 0) m:=Ng (by omega)
  have c2:aa 0 (m-1) E=bF (fun i=>E.getD (0+i) 0) (m-1):=Ng (by omega)
  have c3:aa m (D.length-m) D=bF (fun i=>D.getD (m+i) 0) (D.length-m):=Ng (by omega)
  have c4:aa m (E.length-m) E=bF (fun i=>E.getD (m+i) 0) (E.length-m):=Ng (by omega)
  simp only [Nat.zero_add] at c1 c2
  refine bj (ab (a:=(E.getD (m-1) 0,m,m-1,D.length-m,D.length-1-m,bF (v9 D (E.getD (m-1) 0) m) m,bF (fun i=>E.getD i 0) (m-1),bF (fun i=>v9 D (E.getD (m-1) 0) m (m+i)) (D.length-m),bF (fun i=>E.getD (m+i) 0) (D.length-1-m))) ?_ rfl)
  unfold tL
  simp only [ed,e1,ac]
  rw [c1,c2,c3,c4,cT,cT,cT,cT,hE]
  generalize E.getD (m-1) 0=r
  cases hr:oP r 0
  · have a1:bF (v9 D r m) m=bF (fun i=>D.getD i 0) m:=c9 fun i _=>Js hr
    have a2:bF (fun i=>v9 D r m (m+i)) (D.length-m)=bF (fun i=>D.getD (m+i) 0) (D.length-m):=c9 fun i _=>Js hr
    rw [a1,a2]
    exact (aw (aY (by simp only [aq,bb,bc,aA,aB,ak,aC,aD,decide_eq_true_eq,decide_eq_false_iff_not,beq_iff_eq,beq_eq_false_iff_ne,bne_iff_ne,bne_eq_false_iff_eq,Bool.not_eq_true',Bool.not_eq_false',List.length_set,ne_eq,ge_iff_le,gt_iff_lt,an,ac,aU];omega) (aY (by simp only [aq,bb,bc,aA,aB,ak,aC,aD,decide_eq_true_eq,decide_eq_false_iff_not,beq_iff_eq,beq_eq_false_iff_ne,bne_iff_ne,bne_eq_false_iff_eq,Bool.not_eq_true',Bool.not_eq_false',List.length_set,ne_eq,ge_iff_le,gt_iff_lt,an,ac,aU];omega) (aY (by simp only [aq,bb,bc,aA,aB,ak,aC,aD,decide_eq_true_eq,decide_eq_false_iff_not,beq_iff_eq,beq_eq_false_iff_ne,bne_iff_ne,bne_eq_false_iff_eq,Bool.not_eq_true',Bool.not_eq_false',List.length_set,ne_eq,ge_iff_le,gt_iff_lt,an,ac,aU];omega) (aY (by simp only [aq,bb,bc,aA,aB,ak,aC,aD,decide_eq_true_eq,decide_eq_false_iff_not,beq_iff_eq,beq_eq_false_iff_ne,bne_iff_ne,bne_eq_false_iff_eq,Bool.not_eq_true',Bool.not_eq_false',List.length_set,ne_eq,ge_iff_le,gt_iff_lt,an,ac,aU];omega) (aY (by simp only [aq,bb,bc,aA,aB,ak,aC,aD,decide_eq_true_eq,decide_eq_false_iff_not,beq_iff_eq,beq_eq_false_iff_ne,bne_iff_ne,bne_eq_false_iff_eq,Bool.not_eq_true',Bool.not_eq_false',List.length_set,ne_eq,ge_iff_le,gt_iff_lt,an,ac,aU];omega) (aY (by simp only [aq,bb,bc,aA,aB,ak,aC,aD,decide_eq_true_eq,decide_eq_false_iff_not,beq_iff_eq,beq_eq_false_iff_ne,bne_iff_ne,bne_eq_false_iff_eq,Bool.not_eq_true',Bool.not_eq_false',List.length_set,ne_eq,ge_iff_le,gt_iff_lt,an,ac,aU];omega) (aY (by simp only [aq,bb,bc,aA,aB,ak,aC,aD,decide_eq_true_eq,decide_eq_false_iff_not,beq_iff_eq,beq_eq_false_iff_ne,bne_iff_ne,bne_eq_false_iff_eq,Bool.not_eq_true',Bool.not_eq_false',List.length_set,ne_eq,ge_iff_le,gt_iff_lt,an,ac,aU];omega) (aY (by simp only [aq,bb,bc,aA,aB,ak,aC,aD,decide_eq_true_eq,decide_eq_false_iff_not,beq_iff_eq,beq_eq_false_iff_ne,bne_iff_ne,bne_eq_false_iff_eq,Bool.not_eq_true',Bool.not_eq_false',List.length_set,ne_eq,ge_iff_le,gt_iff_lt,an,ac,aU];omega) (aY (by simp only [aq,bb,bc,aA,aB,ak,aC,aD,decide_eq_true_eq,decide_eq_false_iff_not,beq_iff_eq,beq_eq_false_iff_ne,bne_iff_ne,bne_eq_false_iff_eq,Bool.not_eq_true',Bool.not_eq_false',List.length_set,ne_eq,ge_iff_le,gt_iff_lt,an,ac,aU];omega) (aY (by simp only [aq,bb,bc,aA,aB,ak,aC,aD,decide_eq_true_eq,decide_eq_false_iff_not,beq_iff_eq,beq_eq_false_iff_ne,bne_iff_ne,bne_eq_false_iff_eq,Bool.not_eq_true',Bool.not_eq_false',List.length_set,ne_eq,ge_iff_le,gt_iff_lt,an,ac,aU];omega) (aY (by simp only [aq,bb,bc,aA,aB,ak,aC,aD,decide_eq_true_eq,decide_eq_false_iff_not,beq_iff_eq,beq_eq_false_iff_ne,bne_iff_ne,bne_eq_false_iff_eq,Bool.not_eq_true',Bool.not_eq_false',List.length_set,ne_eq,ge_iff_le,gt_iff_lt,an,ac,aU];omega) (aY (by simp only [aq,bb,bc,aA,aB,ak,aC,aD,decide_eq_true_eq,decide_eq_false_iff_not,beq_iff_eq,beq_eq_false_iff_ne,bne_iff_ne,bne_eq_false_iff_eq,Bool.not_eq_true',Bool.not_eq_false',List.length_set,ne_eq,ge_iff_le,gt_iff_lt,an,ac,aU];omega) (aY (by simp only [aq,bb,bc,aA,aB,ak,aC,aD,decide_eq_true_eq,decide_eq_false_iff_not,beq_iff_eq,beq_eq_false_iff_ne,bne_iff_ne,bne_eq_false_iff_eq,Bool.not_eq_true',Bool.not_eq_false',List.length_set,ne_eq,ge_iff_le,gt_iff_lt,an,ac,aU];omega) (aY (by simp only [aq,bb,bc,aA,aB,ak,aC,aD,decide_eq_true_eq,decide_eq_false_iff_not,beq_iff_eq,beq_eq_false_iff_ne,bne_iff_ne,bne_eq_false_iff_eq,Bool.not_eq_true',Bool.not_eq_false',List.length_set,ne_eq,ge_iff_le,gt_iff_lt,an,ac,aU];omega) (aY (by simp only [aq,bb,bc,aA,aB,ak,aC,aD,decide_eq_true_eq,decide_eq_false_iff_not,beq_iff_eq,beq_eq_false_iff_ne,bne_iff_ne,bne_eq_false_iff_eq,Bool.not_eq_true',Bool.not_eq_false',List.length_set,ne_eq,ge_iff_le,gt_iff_lt,an,ac,aU];omega) (aY (by simp only [aq,bb,bc,aA,aB,ak,aC,aD,decide_eq_true_eq,decide_eq_false_iff_not,beq_iff_eq,beq_eq_false_iff_ne,bne_iff_ne,bne_eq_false_iff_eq,Bool.not_eq_true',Bool.not_eq_false',List.length_set,ne_eq,ge_iff_le,gt_iff_lt,an,ac,aU];omega) (aY (by simp only [aq,bb,bc,aA,aB,ak,aC,aD,decide_eq_true_eq,decide_eq_false_iff_not,beq_iff_eq,beq_eq_false_iff_ne,bne_iff_ne,bne_eq_false_iff_eq,Bool.not_eq_true',Bool.not_eq_false',List.length_set,ne_eq,ge_iff_le,gt_iff_lt,an,ac,aU];omega) (aY (by simp only [aq,bb,bc,aA,aB,ak,aC,aD,decide_eq_true_eq,decide_eq_false_iff_not,beq_iff_eq,beq_eq_false_iff_ne,bne_iff_ne,bne_eq_false_iff_eq,Bool.not_eq_true',Bool.not_eq_false',List.length_set,ne_eq,ge_iff_le,gt_iff_lt,an,ac,aU];omega) (aY (by simp only [aq,bb,bc,aA,aB,ak,aC,aD,decide_eq_true_eq,decide_eq_false_iff_not,beq_iff_eq,beq_eq_false_iff_ne,bne_iff_ne,bne_eq_false_iff_eq,Bool.not_eq_true',Bool.not_eq_false',List.length_set,ne_eq,ge_iff_le,gt_iff_lt,an,ac,aU];omega) (aY (by simp only [aq,bb,bc,aA,aB,ak,aC,aD,decide_eq_true_eq,decide_eq_false_iff_not,beq_iff_eq,beq_eq_false_iff_ne,bne_iff_ne,bne_eq_false_iff_eq,Bool.not_eq_true',Bool.not_eq_false',List.length_set,ne_eq,ge_iff_le,gt_iff_lt,an,ac,aU];omega) (aY (by simp only [aq,bb,bc,aA,aB,ak,aC,aD,decide_eq_true_eq,decide_eq_false_iff_not,beq_iff_eq,beq_eq_false_iff_ne,bne_iff_ne,bne_eq_false_iff_eq,Bool.not_eq_true',Bool.not_eq_false',List.length_set,ne_eq,ge_iff_le,gt_iff_lt,an,ac,aU];omega) (aJ rfl)))))))))))))))))))))))
  · rw [mO (show m-1<m by omega),mO (show 0<D.length-m by omega),mu (show m-1<m by omega),mu (show 0<D.length-m by omega)]
    have a1:bF (fun j=>if j=m-1 then sW (D.getD (m-1) 0) (cr r) else D.getD j 0) m=bF (v9 D r m) m:=by
      refine c9 fun i hi=>?_
      by_cases q:i=m-1
      · rw [if_pos q,Jr hr (.inl q),q]
      · rw [if_neg q,EM (by omega)]
    have a2:bF (fun j=>if j=0 then sW (D.getD (m+0) 0) (cr r) else D.getD (m+j) 0) (D.length-m)=bF (fun i=>v9 D r m (m+i)) (D.length-m):=by
      refine c9 fun i hi=>?_
      by_cases q:i=0
      · rw [if_pos q,Jr hr (.inr (by omega)),q]
      · rw [if_neg q,EM (by omega)]
    rw [a1,a2]
    exact (aw (aY (by simp only [aq,bb,bc,aA,aB,ak,aC,aD,decide_eq_true_eq,decide_eq_false_iff_not,beq_iff_eq,beq_eq_false_iff_ne,bne_iff_ne,bne_eq_false_iff_eq,Bool.not_eq_true',Bool.not_eq_false',List.length_set,ne_eq,ge_iff_le,gt_iff_lt,an,ac,aU];omega) (aY (by simp only [aq,bb,bc,aA,aB,ak,aC,aD,decide_eq_true_eq,decide_eq_false_iff_not,beq_iff_eq,beq_eq_false_iff_ne,bne_iff_ne,bne_eq_false_iff_eq,Bool.not_eq_true',Bool.not_eq_false',List.length_set,ne_eq,ge_iff_le,gt_iff_lt,an,ac,aU];omega) (aY (by simp only [aq,bb,bc,aA,aB,ak,aC,aD,decide_eq_true_eq,decide_eq_false_iff_not,beq_iff_eq,beq_eq_false_iff_ne,bne_iff_ne,bne_eq_false_iff_eq,Bool.not_eq_true',Bool.not_eq_false',List.length_set,ne_eq,ge_iff_le,gt_iff_lt,an,ac,aU];omega) (aY (by simp only [aq,bb,bc,aA,aB,ak,aC,aD,decide_eq_true_eq,decide_eq_false_iff_not,beq_iff_eq,beq_eq_false_iff_ne,bne_iff_ne,bne_eq_false_iff_eq,Bool.not_eq_true',Bool.not_eq_false',List.length_set,ne_eq,ge_iff_le,gt_iff_lt,an,ac,aU];omega) (aY (by simp only [aq,bb,bc,aA,aB,ak,aC,aD,decide_eq_true_eq,decide_eq_false_iff_not,beq_iff_eq,beq_eq_false_iff_ne,bne_iff_ne,bne_eq_false_iff_eq,Bool.not_eq_true',Bool.not_eq_false',List.length_set,ne_eq,ge_iff_le,gt_iff_lt,an,ac,aU];omega) (aY (by simp only [aq,bb,bc,aA,aB,ak,aC,aD,decide_eq_true_eq,decide_eq_false_iff_not,beq_iff_eq,beq_eq_false_iff_ne,bne_iff_ne,bne_eq_false_iff_eq,Bool.not_eq_true',Bool.not_eq_false',List.length_set,ne_eq,ge_iff_le,gt_iff_lt,an,ac,aU];omega) (aY (by simp only [aq,bb,bc,aA,aB,ak,aC,aD,decide_eq_true_eq,decide_eq_false_iff_not,beq_iff_eq,beq_eq_false_iff_ne,bne_iff_ne,bne_eq_false_iff_eq,Bool.not_eq_true',Bool.not_eq_false',List.length_set,ne_eq,ge_iff_le,gt_iff_lt,an,ac,aU];omega) (aY (by simp only [aq,bb,bc,aA,aB,ak,aC,aD,decide_eq_true_eq,decide_eq_false_iff_not,beq_iff_eq,beq_eq_false_iff_ne,bne_iff_ne,bne_eq_false_iff_eq,Bool.not_eq_true',Bool.not_eq_false',List.length_set,ne_eq,ge_iff_le,gt_iff_lt,an,ac,aU];omega) (aY (by simp only [aq,bb,bc,aA,aB,ak,aC,aD,decide_eq_true_eq,decide_eq_false_iff_not,beq_iff_eq,beq_eq_false_iff_ne,bne_iff_ne,bne_eq_false_iff_eq,Bool.not_eq_true',Bool.not_eq_false',List.length_set,ne_eq,ge_iff_le,gt_iff_lt,an,ac,aU];omega) (aY (by simp only [aq,bb,bc,aA,aB,ak,aC,aD,decide_eq_true_eq,decide_eq_false_iff_not,beq_iff_eq,beq_eq_false_iff_ne,bne_iff_ne,bne_eq_false_iff_eq,Bool.not_eq_true',Bool.not_eq_false',List.length_set,ne_eq,ge_iff_le,gt_iff_lt,an,ac,aU];omega) (aY (by simp only [aq,bb,bc,aA,aB,ak,aC,aD,decide_eq_true_eq,decide_eq_false_iff_not,beq_iff_eq,beq_eq_false_iff_ne,bne_iff_ne,bne_eq_false_iff_eq,Bool.not_eq_true',Bool.not_eq_false',List.length_set,ne_eq,ge_iff_le,gt_iff_lt,an,ac,aU];omega) (aY (by simp only [aq,bb,bc,aA,aB,ak,aC,aD,decide_eq_true_eq,decide_eq_false_iff_not,beq_iff_eq,beq_eq_false_iff_ne,bne_iff_ne,bne_eq_false_iff_eq,Bool.not_eq_true',Bool.not_eq_false',List.length_set,ne_eq,ge_iff_le,gt_iff_lt,an,ac,aU];omega) (aY (by simp only [aq,bb,bc,aA,aB,ak,aC,aD,decide_eq_true_eq,decide_eq_false_iff_not,beq_iff_eq,beq_eq_false_iff_ne,bne_iff_ne,bne_eq_false_iff_eq,Bool.not_eq_true',Bool.not_eq_false',List.length_set,ne_eq,ge_iff_le,gt_iff_lt,an,ac,aU];omega) (aY (by simp only [aq,bb,bc,aA,aB,ak,aC,aD,decide_eq_true_eq,decide_eq_false_iff_not,beq_iff_eq,beq_eq_false_iff_ne,bne_iff_ne,bne_eq_false_iff_eq,Bool.not_eq_true',Bool.not_eq_false',List.length_set,ne_eq,ge_iff_le,gt_iff_lt,an,ac,aU];omega) (aY (by simp only [aq,bb,bc,aA,aB,ak,aC,aD,decide_eq_true_eq,decide_eq_false_iff_not,beq_iff_eq,beq_eq_false_iff_ne,bne_iff_ne,bne_eq_false_iff_eq,Bool.not_eq_true',Bool.not_eq_false',List.length_set,ne_eq,ge_iff_le,gt_iff_lt,an,ac,aU];omega) (aY (by simp only [aq,bb,bc,aA,aB,ak,aC,aD,decide_eq_true_eq,decide_eq_false_iff_not,beq_iff_eq,beq_eq_false_iff_ne,bne_iff_ne,bne_eq_false_iff_eq,Bool.not_eq_true',Bool.not_eq_false',List.length_set,ne_eq,ge_iff_le,gt_iff_lt,an,ac,aU];omega) (aY (by simp only [aq,bb,bc,aA,aB,ak,aC,aD,decide_eq_true_eq,decide_eq_false_iff_not,beq_iff_eq,beq_eq_false_iff_ne,bne_iff_ne,bne_eq_false_iff_eq,Bool.not_eq_true',Bool.not_eq_false',List.length_set,ne_eq,ge_iff_le,gt_iff_lt,an,ac,aU];omega) (aY (by simp only [aq,bb,bc,aA,aB,ak,aC,aD,decide_eq_true_eq,decide_eq_false_iff_not,beq_iff_eq,beq_eq_false_iff_ne,bne_iff_ne,bne_eq_false_iff_eq,Bool.not_eq_true',Bool.not_eq_false',List.length_set,ne_eq,ge_iff_le,gt_iff_lt,an,ac,aU];omega) (aY (by simp only [aq,bb,bc,aA,aB,ak,aC,aD,decide_eq_true_eq,decide_eq_false_iff_not,beq_iff_eq,beq_eq_false_iff_ne,bne_iff_ne,bne_eq_false_iff_eq,Bool.not_eq_true',Bool.not_eq_false',List.length_set,ne_eq,ge_iff_le,gt_iff_lt,an,ac,aU];omega) (aY (by simp only [aq,bb,bc,aA,aB,ak,aC,aD,decide_eq_true_eq,decide_eq_false_iff_not,beq_iff_eq,beq_eq_false_iff_ne,bne_iff_ne,bne_eq_false_iff_eq,Bool.not_eq_true',Bool.not_eq_false',List.length_set,ne_eq,ge_iff_le,gt_iff_lt,an,ac,aU];omega) (aY (by simp only [aq,bb,bc,aA,aB,ak,aC,aD,decide_eq_true_eq,decide_eq_false_iff_not,beq_iff_eq,beq_eq_false_iff_ne,bne_iff_ne,bne_eq_false_iff_eq,Bool.not_eq_true',Bool.not_eq_false',List.length_set,ne_eq,ge_iff_le,gt_iff_lt,an,ac,aU];omega) (bC (aY (by simp only [aq,bb,bc,aA,aB,ak,aC,aD,decide_eq_true_eq,decide_eq_false_iff_not,beq_iff_eq,beq_eq_false_iff_ne,bne_iff_ne,bne_eq_false_iff_eq,Bool.not_eq_true',Bool.not_eq_false',List.length_set,ne_eq,ge_iff_le,gt_iff_lt,an,ac,aU];omega) (aY (by simp only [aq,bb,bc,aA,aB,ak,aC,aD,decide_eq_true_eq,decide_eq_false_iff_not,beq_iff_eq,beq_eq_false_iff_ne,bne_iff_ne,bne_eq_false_iff_eq,Bool.not_eq_true',Bool.not_eq_false',List.length_set,ne_eq,ge_iff_le,gt_iff_lt,an,ac,aU];omega) (aY (by simp only [aq,bb,bc,aA,aB,ak,aC,aD,decide_eq_true_eq,decide_eq_false_iff_not,beq_iff_eq,beq_eq_false_iff_ne,bne_iff_ne,bne_eq_false_iff_eq,Bool.not_eq_true',Bool.not_eq_false',List.length_set,ne_eq,ge_iff_le,gt_iff_lt,an,ac,aU];omega) (aY (by simp only [aq,bb,bc,aA,aB,ak,aC,aD,decide_eq_true_eq,decide_eq_false_iff_not,beq_iff_eq,beq_eq_false_iff_ne,bne_iff_ne,bne_eq_false_iff_eq,Bool.not_eq_true',Bool.not_eq_false',List.length_set,ne_eq,ge_iff_le,gt_iff_lt,an,ac,aU];omega) (aY (by simp only [aq,bb,bc,aA,aB,ak,aC,aD,decide_eq_true_eq,decide_eq_false_iff_not,beq_iff_eq,beq_eq_false_iff_ne,bne_iff_ne,bne_eq_false_iff_eq,Bool.not_eq_true',Bool.not_eq_false',List.length_set,ne_eq,ge_iff_le,gt_iff_lt,an,ac,aU];omega) (aY (by simp only [aq,bb,bc,aA,aB,ak,aC,aD,decide_eq_true_eq,decide_eq_false_iff_not,beq_iff_eq,beq_eq_false_iff_ne,bne_iff_ne,bne_eq_false_iff_eq,Bool.not_eq_true',Bool.not_eq_false',List.length_set,ne_eq,ge_iff_le,gt_iff_lt,an,ac,aU];omega) (aY (by simp only [aq,bb,bc,aA,aB,ak,aC,aD,decide_eq_true_eq,decide_eq_false_iff_not,beq_iff_eq,beq_eq_false_iff_ne,bne_iff_ne,bne_eq_false_iff_eq,Bool.not_eq_true',Bool.not_eq_false',List.length_set,ne_eq,ge_iff_le,gt_iff_lt,an,ac,aU];omega) (aY (by simp only [aq,bb,bc,aA,aB,ak,aC,aD,decide_eq_true_eq,decide_eq_false_iff_not,beq_iff_eq,beq_eq_false_iff_ne,bne_iff_ne,bne_eq_false_iff_eq,Bool.not_eq_true',Bool.not_eq_false',List.length_set,ne_eq,ge_iff_le,gt_iff_lt,an,ac,aU];omega) (aY (by simp only [aq,bb,bc,aA,aB,ak,aC,aD,decide_eq_true_eq,decide_eq_false_iff_not,beq_iff_eq,beq_eq_false_iff_ne,bne_iff_ne,bne_eq_false_iff_eq,Bool.not_eq_true',Bool.not_eq_false',List.length_set,ne_eq,ge_iff_le,gt_iff_lt,an,ac,aU];omega) rfl))))))))))))))))))))))))))))))))
def s1(D:List Nat)(r m i:Nat) :Nat×Nat×Nat×Nat×Nat×List Nat×List Nat:=(i,min i m,min i m,i-m,i-m,bF (v9 D r m) (min i m),bF (fun k=>v9 D r m (m+k)) (i-m))
def s2(E:List Nat)(m i:Nat) :Nat×Nat×Nat×Nat×Nat×List Nat×List Nat:=(i,min i (m-1),min i (m-1),i-m,i-m,bF (fun k=>E.getD k 0) (min i (m-1)),bF (fun k=>E.getD (m+k) 0) (i-m))
theorem Nh{D E:List Nat}(hD:D.length≤1000000)(h:Hw D E=true)(h3:3≤D.length) :(oK D E).run=some (.inl false):=by
  unfold oK
  rw [aN,aN,Hk hD,h]
  refine (bx (bx (aw (aJ ?_))))
  show some (Sum.inl (decide _))=_
  rw [decide_eq_false (by omega)]
theorem Ni{D E:List Nat}(wD:Wd D)(wE:Wd E)(hD:D.length≤1000000)(hE:E.length≤1000000)(h:Hw D E=true)(h3:3≤D.length)(hf:(qu D&&qu E)=true) :
    cn D E=some (.r0 (E.getD (D.length/2-1) 0) 0 (D.length/2) (D.length/2-1) (D.length-D.length/2) (D.length-1-D.length/2)
      (bF (v9 D (E.getD (D.length/2-1) 0) (D.length/2)) (D.length/2)) (bF (fun i=>E.getD i 0) (D.length/2-1)) (bF (fun i=>v9 D (E.getD (D.length/2-1) 0) (D.length/2) (D.length/2+i)) (D.length-D.length/2)) (bF (fun i=>E.getD (D.length/2+i) 0) (D.length-1-D.length/2))):=by
  have w:=Hl wD wE hD hE h
  rw [hf] at w
  obtain ⟨o1,o2⟩:=of_decide_eq_true h
  have t:=K5 (by omega) o1 o2
  unfold OR at t
  refine bj (ab (Nh hD h h3) (ab (a:=0) ?_ (ab (a:=(E.getD (D.length/2-1) 0,D.length/2,D.length/2-1,D.length-D.length/2,D.length-1-D.length/2,bF (v9 D (E.getD (D.length/2-1) 0) (D.length/2)) (D.length/2),bF (fun i=>E.getD i 0) (D.length/2-1),bF (fun i=>v9 D (E.getD (D.length/2-1) 0) (D.length/2) (D.length/2+i)) (D.length-D.length/2),bF (fun i=>E.getD (D.length/2+i) 0) (D.length-1-D.length/2))) ?_ rfl)))
  · show (oL _ _ _).run=_
    unfold oL
    rw [aN,aN,w]
    exact (aJ (bx (bx (aw rfl))))
  · show (oM _ _ _).run=_
    unfold oM
    rw [aN,aN,t]
    exact (aJ (bx (bx (aw rfl))))
theorem Nj{α:Type}{n:Nat}{l:List α}(h:l.length=n) :bg 0 n l=true:=by rw [←h];exact FM l
theorem ae{α:Type}{b:Bool}{t:T α}{x:Option α}(k:t.run=x)(h:b=true:=by simp only [aq,bb,bc,aA,aB,ak,aC,aD,decide_eq_true_eq,decide_eq_false_iff_not,beq_iff_eq,beq_eq_false_iff_ne,bne_iff_ne,bne_eq_false_iff_eq,Bool.not_eq_true',Bool.not_eq_false',List.length_set,ne_eq,ge_iff_le,gt_iff_lt,an,ac,aU];omega) :(T.need b t).run=x:=aY h k
theorem bX{α:Type}{b:Bool}{t f:T α}{x:Option α}(k:t.run=x)(h:b=true:=by simp only [aq,bb,bc,aA,aB,ak,aC,aD,decide_eq_true_eq,decide_eq_false_iff_not,beq_iff_eq,beq_eq_false_iff_ne,bne_iff_ne,bne_eq_false_iff_eq,Bool.not_eq_true',Bool.not_eq_false',List.length_set,ne_eq,ge_iff_le,gt_iff_lt,an,ac,aU];omega) :(T.ask b t f).run=x:=nq h k
theorem cd{α:Type}{b:Bool}{t f:T α}{x:Option α}(k:f.run=x)(h:b=false:=by simp only [aq,bb,bc,aA,aB,ak,aC,aD,decide_eq_true_eq,decide_eq_false_iff_not,beq_iff_eq,beq_eq_false_iff_ne,bne_iff_ne,bne_eq_false_iff_eq,Bool.not_eq_true',Bool.not_eq_false',List.length_set,ne_eq,ge_iff_le,gt_iff_lt,an,ac,aU];omega) :(T.ask b t f).run=x:=gW h k
theorem gd{α:Type}{b:Bool}{t:T α}{x:Option α}(k:t.run=x)(h:b=true:=by exact Nj ax) :(T.need b t).run=x:=aY h k
theorem aT{v n m:Nat}(h:m≤n) :bg 0 m (aH v n)=true:=by rw [ak,ax];omega
theorem eK{v n:Nat}(h:v<W^n)(hn:n≤1000000000) :ai (aH v n)=some (.r0 (aH v n) (nl v)):=by
  have hl:=iu h
  refine bj (ab rfl (ab (a:=nl v) (dL (fun j=>n-j) (n-nl v) (by simp only [ax];rfl) (fun j hj=>?_) ?_) rfl))
  · show aS (jn _ _).run _=_
    have e:Int.toNat (((n-j:Nat):Int)-1)=n-(j+1):=by omega
    have z:(aH v n).getD (n-(j+1)) 0=0:=by
      rw [ch h]
      exact yI (Nat.lt_of_lt_of_le (ck v) (Nat.pow_le_pow_right (by decide) (by omega)))
    refine ab (a:=true) ?_ ?_
    · unfold jn
      rw [e,z,ax]
      exact bX (ae (ae (ae rfl)))
    · unfold vp
      rw [e]
      exact bC (ae (ae (ae rfl)))
  · have e0:n-(n-nl v)=nl v:=by omega
    show aS (jn _ _).run _=_
    rw [e0]
    by_cases h0:v=0
    · have z:=iY.2 h0
      rw [z]
      exact ab (a:=false) (aJ rfl) (aJ rfl)
    · have hp:=qU h0
      have e:Int.toNat (((nl v:Nat):Int)-1)=nl v-1:=by omega
      refine ab (a:=false) ?_ (aJ rfl)
      unfold jn
      rw [e,ch h,ax]
      refine bX (ae (ae (ae ?_)))
      show some (Sum.inl _)=_
      congr 2
      rw [beq_eq_false_iff_ne];exact L9 h0
theorem nk{v n:Nat}(h:v<W^n)(hn:n≤1000000000) :aL (aH v n) 0 n n=some (.r0 0 (nl v) n (aH v n)):=by
  have hl:=iu h
  refine bj (ab rfl (ab (a:=(0,nl v)) (dL (fun j=>(0,n-j)) (n-nl v) rfl (fun j hj=>?_) ?_) rfl))
  · show aS (fM _ _ _).run _=_
    have e:Int.toNat (((n-j:Nat):Int)-1)=n-(j+1):=by omega
    have z:(aH v n).getD (n-(j+1)) 0=0:=by
      rw [ch h]
      exact yI (Nat.lt_of_lt_of_le (ck v) (Nat.pow_le_pow_right (by decide) (by omega)))
    refine ab (a:=true) ?_ ?_
    · unfold fM
      rw [e,fj,Nat.zero_add,z,ax]
      exact bX (ae (ae (ae rfl)))
    · unfold qp
      rw [e]
      exact bC (ae (ae (ae rfl)))
  · have e0:n-(n-nl v)=nl v:=by omega
    show aS (fM _ _ _).run _=_
    rw [e0]
    by_cases h0:v=0
    · have z:=iY.2 h0
      rw [z]
      exact ab (a:=false) (aJ rfl) (aJ rfl)
    · have hp:=qU h0
      have e:Int.toNat (((nl v:Nat):Int)-1)=nl v-1:=by omega
      refine ab (a:=false) ?_ (aJ rfl)
      unfold fM
      rw [e,fj,Nat.zero_add,ch h,ax]
      refine bX (ae (ae (ae ?_)))
      show some (Sum.inl _)=_
      congr 2
      rw [beq_eq_false_iff_ne];exact L9 h0
theorem sS{v n:Nat}(h:v<W^n)(hn:n≤1000000000) :dr (aH v n)=some (if 4096<nl v then .r0 0 2 [] else .r0 (nl v) 0 (aH v (nl v))):=by
  have hl:=iu h
  have hc:aa 0 (aH v n).length (aH v n)=aH v n:=aN _
  by_cases hb:4096<nl v
  · rw [if_pos hb]
    refine bj (ab (a:=(2,aH v n,nl v)) ?_ (bC rfl))
    unfold qW
    rw [hc,eK h hn]
    simp only [bE,aI,ap]
    exact bC (aw (bx (aw (bX rfl))))
  · rw [if_neg hb]
    refine bj (ab (a:=(0,aH v n,nl v)) ?_ ?_)
    · unfold qW
      rw [hc,eK h hn]
      simp only [bE,aI,ap]
      exact bC (aw (bx (aw (cd (aw (aJ rfl))))))
    · show (qX _ _ _).run=_
      unfold qX
      rw [bp hl,ax]
      exact aJ (aY (aT hl) (ae rfl))
theorem Nk{v:Nat}(h:v<W) :ca (v:Int)=some (.r0 0 (nl v) 1 (aH v 1)):=by
  have e:([(v:Int)]:List Int)=aH v 1:=by
    show [(v:Int)]=[]++[lm v 0]
    unfold lm;rw [Nat.pow_zero,Nat.div_one,Nat.mod_eq_of_lt h];rfl
  refine bj (ab (a:=(0,nl v,1,aH v 1)) ?_ rfl)
  unfold CM
  rw [e,nk (by rw [Nat.pow_one];exact h) (by decide)]
  exact aw rfl
theorem K6{v n:Nat}(h:v<W^n)(hn:n≤1000000000) :fq (aH v n) 0 n n=some (if 4096<nl v then .r0 (aH v n) else .r1 0 (nl v) n (aH v n)):=by
  refine bj (ab (a:=(0,nl v,n,aH v n)) ?_ ?_)
  · unfold xt
    rw [nk h hn]
    exact aw rfl
  · by_cases hb:4096<nl v
    · rw [if_pos hb];exact bX rfl
    · rw [if_neg hb];exact cd rfl
theorem Hm{a b:Nat}(ha:nl a≤1000000)(hb:nl b≤1000000) :j6 (aH a (nl a)) (aH b (nl b))=some (.r0 (nr a b)):=by
  refine bj ?_
  by_cases h1:nl a<nl b
  · have:nr a b = -1:=by unfold nr;rw [if_pos (FP h1)]
    rw [this]
    refine bS ?_
    unfold pF
    rw [ax,ax]
    exact bX rfl
  by_cases h2:nl b<nl a
  · have hlt:=FP h2
    have:nr a b=1:=by unfold nr;rw [if_neg (by omega),if_pos hlt]
    rw [this]
    refine bS ?_
    unfold pF
    rw [ax,ax]
    exact cd (bX rfl)
  have hn:nl b=nl a:=by omega
  have hA:=ck a
  have hB:=ck b
  rw [hn] at hB hb ⊢
  generalize nl a=n at *
  refine ab (a:=((n:Int)-1)) ?_ ?_
  · unfold pF
    rw [ax,ax]
    exact cd (cd (ae rfl))
  have step:∀ j,j<n→lm a (n-1-j)=lm b (n-1-j)→nR (aH a n) (aH b n) ((n:Int)-1-j)=some (.inl ((n:Int)-1-(j+1:Nat))):=by
    intro j hj he
    show (mR _ _ _).run=_
    unfold mR
    have e:Int.toNat ((n:Int)-1-(j:Int))=n-1-j:=by omega
    rw [e,ch hA,ch hB,ax,ax,he]
    refine bX (ae (ae (ae (ae (gW (by simp) (ae (ae (ae (ae (gW (by simp) (ae ?_)))))))))))
    show some (Sum.inl _)=_
    congr 2;omega
  by_cases hall:∀ j,j<n→lm a (n-1-j)=lm b (n-1-j)
  · have hab:a=b:=by
      have:=zJ hA hB (d:=n) (Nat.le_refl _) fun k _ h2=>by
        have:=hall (n-1-k) (by omega)
        rwa [show n-1-(n-1-k)=k by omega] at this
      simpa using this
    subst hab
    have:nr a a=0:=by unfold nr;rw [if_neg (Nat.lt_irrefl _),if_neg (Nat.lt_irrefl _)]
    rw [this]
    exact ab (dL (fun j=>(n:Int)-1-(j:Nat)) n (by omega) (fun j hj=>step j hj (hall j hj)) (cd rfl)) rfl
  · obtain ⟨k,hk,hb',hf⟩:=oX hall
    have hup:a/W^(n-1-k+1)=b/W^(n-1-k+1):=by
      have:=zJ hA hB (d:=k) (by omega) fun i h1 h2=>by
        have:=hf (n-1-i) (by omega)
        rwa [show n-1-(n-1-i)=i by omega] at this
      rwa [show n-k=n-1-k+1 by omega] at this
    refine bS (dL (fun j=>(n:Int)-1-(j:Nat)) k (by omega) (fun j hj=>step j (by omega) (hf j hj)) ?_)
    show (mR _ _ _).run=_
    unfold mR
    have e:Int.toNat ((n:Int)-1-(k:Int))=n-1-k:=by omega
    rw [e,ch hA,ch hB,ax,ax]
    refine bX (ae (ae (ae (ae ?_))))
    by_cases hlt:lm a (n-1-k)<lm b (n-1-k)
    · have:=zK hup hlt
      have:nr a b = -1:=by unfold nr;rw [if_pos this]
      rw [this]
      exact nq (decide_eq_true hlt) rfl
    · have hgt:lm b (n-1-k)<lm a (n-1-k):=by omega
      have hlt':=zK hup.symm hgt
      have:nr a b=1:=by unfold nr;rw [if_neg (by omega),if_pos hlt']
      rw [this]
      exact gW (decide_eq_false hlt) (ae (ae (ae (ae (nq (decide_eq_true hgt) rfl)))))
theorem My{x y nx ny:Nat}(hx:x<W^nx)(hy:y<W^ny)(hn:ny≤nx)(hb:nx≤1000000){lx ly:List Int}(ex:∀ i,i<nx→lx.getD i 0=lm x i)(ey:∀ i,i<ny→ly.getD i 0=lm y i)(hlx:nx≤lx.length)(hly:ny≤ly.length) :
    d8 (kY lx nx ly ny (nx+1)) (0,0,aH 0 (nx+1))=some (.inl (o0 x y nx/W^nx,aH (o0 x y nx%W^nx) (nx+1))):=by
  refine dL (fun j=>(j,o0 x y j/W^j,aH (o0 x y j%W^j) (nx+1))) nx (by simp [o0,Nat.mod_one]) (fun j hj=>?_) (bS (cd rfl))
  have hc:=zL (x:=x) (y:=y) (j:=j)
  have hS:=Nat.mod_lt (o0 x y j) (fK j)
  have hst:=KT x y j
  obtain ⟨d1,d2⟩:=Ie (t:=x/W^j%W+y/W^j%W+o0 x y j/W^j) hS
  rw [←hst] at d1 d2
  have dm:=pz (n:=nx+1) hS (Nat.mod_lt (x/W^j%W+y/W^j%W+o0 x y j/W^j) (show W>0 by decide)) (by omega)
  rw [←d2] at dm
  show aS (q7 _ _ _ _ _ _ _ _).run _=_
  refine ab (a:=(o0 x y (j+1)/W^(j+1),aH (o0 x y (j+1)%W^(j+1)) (nx+1))) ?_ (ae rfl)
  unfold q7
  rw [ex j hj,ax]
  by_cases hyj:j<ny
  · rw [ey j hyj]
    refine bX (bX (ae (ae (ae (ae (ae (ae (ae ?_))))))))
    rw [qT,qT,dm,d1];rfl
  · have y0:y/W^j%W=0:=by
      rw [Nat.div_eq_of_lt (Nat.lt_of_lt_of_le hy (Nat.pow_le_pow_right (by decide) (by omega)))];rfl
    rw [y0] at dm d1
    refine bX (cd (ae (ae (ae (ae (ae ?_))))))
    rw [qT,dm,d1];rfl
theorem Mz{a b n m:Nat}(ha:a<W^n)(hb:b<W^m)(hn:n≤1000000)(hm:m≤1000000)(h1:nl a≤4096)(h2:nl b≤4096)(h3:nl (a+b)≤4096) :
    be (aH a n) (aH b m)=some (.r0 0 (nl (a+b)) (max (nl a) (nl b)+1) 0 (aH (a+b) (max (nl a) (nl b)+1))):=by
  have la:=iu ha
  have lb:=iu hb
  refine bj (ab (a:=(0,aH a n,nl a,aH b m,nl b)) ?_ ?_)
  · unfold xv
    rw [aN,aN,eK ha (by omega),eK hb (by omega)]
    simp only [bE,aI,ap]
    exact bC (aw (bx (aw (cd (aw (bC (aw (bx (aw (cd (aw (aJ rfl))))))))))))
  have fin:∀ {x y nx ny:Nat} {lx ly:List Int},x<W^nx→y<W^ny→ny≤nx→nx≤4096→(∀ i,i<nx→lx.getD i 0=lm x i)→(∀ i,i<ny→ly.getD i 0=lm y i)→nx≤lx.length→ny≤ly.length→nl (x+y)≤4096 →
      (aS ((qZ nx).run) fun (o10,l11)=>aS (d8 (kY lx nx ly ny o10) (0,0,l11)) fun (a19,l20)=>aS ((q8 nx o10 a19 l20).run) fun (a21,a22,a23,a24,l25)=>(xw a21 a22 a23 a24 l25).run)
        = some (.inr (.r0 0 (nl (x+y)) (nx+1) 0 (aH (x+y) (nx+1)))):=by
    intro x y nx ny lx ly hx hy hle hnx ex ey hlx hly h4
    refine ab (a:=(nx+1,aH 0 (nx+1))) ?_ (ab (My hx hy hle (by omega) ex ey hlx hly) (ab (a:=(0,nl (x+y),nx+1,0,aH (x+y) (nx+1))) ?_ rfl))
    · unfold qZ
      rw [CD]
      exact ae (ae (ae (ae (ae rfl))))
    · have hyx:y<W^nx:=Nat.lt_of_lt_of_le hy (Nat.pow_le_pow_right (by decide) hle)
      have hs:o0 x y nx=x+y:=by unfold o0;rw [Nat.mod_eq_of_lt hx,Nat.mod_eq_of_lt hyx]
      have hc:=zL (x:=x) (y:=y) (j:=nx)
      have dm:=pz (u:=(x+y)%W^nx) (x:=(x+y)/W^nx) (j:=nx) (n:=nx+1) (Nat.mod_lt _ (fK _)) (by rw [hs] at hc;exact Nat.lt_of_le_of_lt hc (by decide)) (by omega)
      have hv:(x+y)%W^nx+(x+y)/W^nx*W^nx=x+y:=by rw [Nat.mul_comm];exact Nat.mod_add_div _ _
      rw [hv] at dm
      have hb2:x+y<W^(nx+1):=by
        rw [Nat.pow_succ]
        have h:=fK nx
        generalize W^nx=P at *
        have:(2:Nat)*P≤P*W:=by rw [Nat.mul_comm];exact Nat.mul_le_mul_left _ (by decide)
        omega
      unfold q8
      rw [hs,dm,K6 hb2 (by omega),if_neg (by omega),ax]
      exact ae (ae (O0 (O1 rfl) (OH (aw rfl))))
  by_cases hlt:nl a<nl b
  · refine ab (a:=(aH b m,nl b,aH a n,nl a)) (aJ (bX rfl)) ?_
    have:=fin (x:=b) (y:=a) (nx:=nl b) (ny:=nl a) (lx:=aH b m) (ly:=aH a n) (ck b) (ck a) (by omega) h2 (fun i hi=>ch hb i) (fun i hi=>ch ha i) (by rw [ax];exact lb) (by rw [ax];exact la) (by rw [Nat.add_comm];exact h3)
    rw [Nat.add_comm b a] at this
    rw [show max (nl a) (nl b)=nl b by omega]
    exact this
  · refine ab (a:=(aH a n,nl a,aH b m,nl b)) (aJ (cd rfl)) ?_
    have:=fin (x:=a) (y:=b) (nx:=nl a) (ny:=nl b) (lx:=aH a n) (ly:=aH b m) (ck a) (ck b) (by omega) h1 (fun i hi=>ch ha i) (fun i hi=>ch hb i) (by rw [ax];exact la) (by rw [ax];exact lb) h3
    rw [show max (nl a) (nl b)=nl a by omega]
    exact this
def Hn(a b n j:Nat) :List Int:=bF (fun i=>if i<j then lm (x9 a b j) i else lm a i) n
theorem K7{a b n j:Nat}(hj:j<n) :(Hn a b n j).set j (((a/W^j%W+W-b/W^j%W-zM a b j)%W:Nat):Int)=Hn a b n (j+1):=by
  unfold Hn
  rw [mu hj]
  refine c9 fun i hi=>?_
  have hD:=(J6 (a:=a) (b:=b) (j:=j)).1
  have h:=zI hD (Nat.mod_lt (a/W^j%W+W-b/W^j%W-zM a b j) (show W>0 by decide)) i
  rw [←(FQ a b j).2] at h
  by_cases e:i=j
  · subst e
    rw [if_pos rfl,if_pos (by omega),h,if_pos rfl]
  · rw [if_neg e] at h ⊢
    by_cases q:i<j
    · rw [if_pos q,if_pos (by omega),h]
    · rw [if_neg q,if_neg (by omega)]
theorem oT{a b n m:Nat}(ha:a<W^n)(hb:b<W^m)(hle:b≤a)(hmn:m≤n)(hn:n≤1000000) :j8 (aH a n) (aH b m)=some (.r0 0 (nl (a-b)) n (aH (a-b) n)):=by
  have hbn:b<W^n:=Nat.lt_of_lt_of_le hb (Nat.pow_le_pow_right (by decide) hmn)
  refine bj (ab (a:=(n,aH a n)) ?_ (ab (a:=aH (a-b) n) ?_ (ab (a:=(0,nl (a-b),n,aH (a-b) n)) ?_ rfl)))
  · unfold xx
    rw [aN,ax]
    exact aY (aT (Nat.le_refl _)) (ae rfl)
  · have e0:aH a n=Hn a b n 0:=c9 fun i _=>by rw [if_neg (by omega)]
    have en:Hn a b n n=aH (a-b) n:=by
      refine c9 fun i hi=>?_
      have hd:x9 a b n=a-b:=by
        unfold x9 zM
        rw [Nat.mod_eq_of_lt ha,Nat.mod_eq_of_lt hbn,if_neg (by omega),Nat.zero_mul,Nat.add_zero]
      rw [if_pos hi,hd]
    have b0:zM a b 0=0:=by unfold zM;rw [Nat.pow_zero,Nat.mod_one,Nat.mod_one];rfl
    show d8 _ ((0:Int),0,aH a n)=_
    refine dL (fun j=>(((zM a b j:Nat):Int),j,Hn a b n j)) n (by rw [b0,←e0];rfl) (fun j hj=>?_) (bS (gW (by rw [ax];simp) (by rw [en];rfl)))
    have hbr:zM a b j≤1:=by unfold zM;split<;>omega
    have hl:(Hn a b n j).length=n:=cT
    obtain ⟨s1,s2⟩:=FQ a b j
    have hst:=K7 (a:=a) (b:=b) hj
    show aS (q9 _ _ _ _ _ _).run _=_
    refine ab (a:=(((zM a b (j+1):Nat):Int),Hn a b n (j+1))) ?_ (ae rfl)
    unfold q9
    rw [ch ha,ax,ax,hl,ac,qT]
    have blt:∀ p q:Nat,(bif Nat.blt p q then (1:Int) else 0)=(((if p<q then 1 else 0:Nat)):Int):=by
      intro p q
      by_cases h:p<q
      · rw [if_pos h,show Nat.blt p q=true by rw [Nat.blt_eq];exact h];rfl
      · rw [if_neg h]
        cases e:Nat.blt p q with
        | true=>rw [Nat.blt_eq] at e;exact absurd e h
        | false=>rfl
    by_cases hjm:j<m
    · rw [ch hb,qT,blt,←s1,hst]
      exact bX (bX (ae (ae (ae (ae (ae (ae (ae rfl))))))))
    · have y0:b/W^j%W=0:=by
        rw [Nat.div_eq_of_lt (Nat.lt_of_lt_of_le hb (Nat.pow_le_pow_right (by decide) (by omega)))];rfl
      rw [y0] at s1 hst
      refine bX (cd (ae (ae (ae (ae (ae ?_))))))
      rw [blt,←s1,hst];rfl
  · unfold xy
    rw [nk (Nat.lt_of_le_of_lt (Nat.sub_le _ _) ha) (by omega)]
    exact aw rfl
theorem Ho{a b n m:Nat}(ha:a<W^n)(hb:b<W^m)(hn:n≤1000000)(hm:m≤1000000)(h1:nl a≤4096)(h2:nl b≤4096)(hle:b≤a) :
    aQ (aH a n) (aH b m)=some (.r0 (aH (a-b) (nl a)) 0 (nl (a-b)) 0):=by
  have la:=iu ha
  have lb:=iu hb
  have hnn:nl b≤nl a:=iu (Nat.lt_of_le_of_lt hle (ck a))
  refine bj (ab (a:=(0,aH a n,nl a,aH b m,nl b)) ?_ (ab (a:=false) ?_ (ab (a:=(aH (a-b) (nl a),0,nl (a-b))) ?_ rfl)))
  · unfold Ak
    rw [aN,aN,eK ha (by omega),eK hb (by omega)]
    simp only [bE,aI,ap]
    exact bC (aw (bx (aw (cd (aw (bC (aw (bx (aw (cd (aw (aJ rfl))))))))))))
  · unfold Al
    rw [bp la,bp lb,Hm (by omega) (by omega)]
    refine aJ (aY (aT la) (aY (aT lb) (aw ?_)))
    show some (Sum.inl _)=_
    congr 2
    show decide (nr a b<0)=false
    unfold nr
    rw [if_neg (by omega)]
    split<;>rfl
  · unfold Am
    rw [bp la,bp lb,oT (ck a) (ck b) hle hnn (by omega)]
    exact aJ (aY (aT la) (aY (aT lb) (aw rfl)))
theorem Hp{a b n m:Nat}(ha:a<W^n)(hb:b<W^m)(hn:n≤1000000)(hm:m≤1000000)(h1:nl a≤4096)(h2:nl b≤4096) :
    j7 (aH a n) (aH b m)=some (.r0 (nr a b) 0):=by
  have la:=iu ha
  have lb:=iu hb
  refine bj (ab (a:=(0,aH a n,nl a,aH b m,nl b)) ?_ (ab (a:=nr a b) ?_ rfl))
  · unfold Ad
    rw [aN,aN,eK ha (by omega),eK hb (by omega)]
    simp only [bE,aI,ap]
    exact bC (aw (bx (aw (cd (aw (bC (aw (bx (aw (cd (aw (aJ rfl))))))))))))
  · unfold Ae
    rw [bp la,bp lb,Hm (by omega) (by omega)]
    exact aJ (aY (aT la) (aY (aT lb) (aw rfl)))
theorem Oj:∀ z:Fin 64,List.getD aG (2^z.val*285870213051353865%W/2^58) 0=(z.val:Int)∧2^z.val*285870213051353865%W/2^58<64:=by decide +kernel
theorem Nl:List.length aG=64:=by decide +kernel
theorem Ol{x:Nat}(h0:x≠0)(h:x<W) :cN .and .u64 (x:Int) (IntKind.u64.wrap ((0:Int)-(x:Int)))=((2^tz x:Nat):Int):=by
  rw [Mg h0 h,zN,Nat.mod_eq_of_lt h,Nat.mod_eq_of_lt (Nat.sub_lt (by decide) (Nat.pos_of_ne_zero h0)),M0 h0 h]
theorem Nm(y:Nat) :Int.fdiv (IntKind.u64.wrap ((y:Int)*(285870213051353865:Int))) (2^(min (Int.toNat (58:Int)) IntKind.u64.bits))=((y*285870213051353865%W/2^58:Nat):Int):=by
  have e:(285870213051353865:Int)=((285870213051353865:Nat):Int):=by omega
  rw [e,Mb]
  exact sM _ (k:=58) (by decide)
theorem Om{z:Nat}(h:z<64) :IntKind.i64.wrap ((z:Nat):Int)=((z:Nat):Int):=by
  have:∀ z:Fin 64,IntKind.i64.wrap ((z.val:Nat):Int)=((z.val:Nat):Int):=by decide
  exact this ⟨z,h⟩
theorem On{x:Nat}(h0:x≠0)(h:x<W) :∃ y:Nat,Int.fdiv (IntKind.u64.wrap ((cN .and .u64 (x:Int) (IntKind.u64.wrap ((0:Int)-(x:Int))))*(285870213051353865:Int))) (2^(min (Int.toNat (58:Int)) IntKind.u64.bits))=(y:Int)∧List.getD aG y 0=((tz x:Nat):Int)∧y<64:=by
  have hz:=FV (n:=64) h0 h
  obtain ⟨t1,t2⟩:=Oj ⟨tz x,hz⟩
  exact ⟨_,by rw [Ol h0 h,Nm],t1,t2⟩
theorem sn{x:Nat}(h0:x≠0)(h:x<W) :bN (x:Int)=some (.r0 ((tz x:Nat):Int)):=by
  have hz:=FV (n:=64) h0 h
  obtain ⟨y,e,t1,t2⟩:=On h0 h
  refine bj ?_
  unfold fL
  have ix:er (er 0 (yO (Int.toNat (y:Int)) 1)) 0=y:=by simp only [fj,o8,Nat.zero_add,Nat.mul_one,Nat.add_zero,ac]
  rw [e,ix,t1,Nl,Om hz]
  refine gW (by rw [beq_eq_false_iff_ne];omega) (aY (by decide) (aY ?_ (aY ?_ rfl)))
  · rw [bb];omega
  · rw [aA];exact t2
theorem MA{v:Nat}(h:v≠0) :∃ i,i<nl v∧v%W^i=0∧v/W^i%W≠0∧tz v=64*i+tz (v/W^i%W):=by
  obtain ⟨h1,h2⟩:=pA v h
  have e:2^tz v=2^(tz v%64)*W^(tz v/64):=CG _
  have h3:v%W^(tz v/64)=0:=by
    have d:W^(tz v/64) ∣ v:=Nat.dvd_trans ⟨2^(tz v%64),by rw [Nat.mul_comm];exact e⟩ (Nat.dvd_of_mod_eq_zero h1)
    exact Nat.mod_eq_zero_of_dvd d
  have hb:v=v/W^(tz v/64)*W^(tz v/64):=(Nat.div_mul_cancel (Nat.dvd_of_mod_eq_zero h3)).symm
  have h5:v/W^(tz v/64)≠0:=by intro q;rw [q,Nat.zero_mul] at hb;exact h hb
  have key:tz (v/W^(tz v/64))=tz v%64:=by
    have q:=If h5 (64*(tz v/64))
    have w:2^(64*(tz v/64))=W^(tz v/64):=by rw [Nat.pow_mul]
    rw [w,←hb] at q
    omega
  obtain ⟨k1,k2⟩:=pA _ h5
  rw [key] at k1 k2
  have hr:tz v%64<64:=Nat.mod_lt _ (by decide)
  have e64:W=2^(tz v%64)*2^(64-tz v%64):=by rw [←Nat.pow_add];show 2^64=_;congr 1;omega
  have l1:(v/W^(tz v/64)%W)%2^(tz v%64)=0:=by
    revert k1;generalize v/W^(tz v/64)=y;intro k1;rw [e64,Nat.mod_mul_right_mod];exact k1
  have l2:(v/W^(tz v/64)%W)/2^(tz v%64)%2=1:=by
    have a:2^(64-tz v%64)=2*2^(63-tz v%64):=by rw [show 64-tz v%64=(63-tz v%64)+1 by omega,Nat.pow_succ,Nat.mul_comm]
    revert k2;generalize v/W^(tz v/64)=y;intro k2;rw [e64,Nat.mod_mul_right_div_self,a,Nat.mod_mul_right_mod];exact k2
  have l3:v/W^(tz v/64)%W≠0:=by intro q;rw [q,Nat.zero_div] at l2;exact absurd l2 (by decide)
  refine ⟨tz v/64,?_,h3,l3,?_⟩
  · rcases Nat.lt_or_ge (tz v/64) (nl v) with q | q
    · exact q
    · exfalso;apply l3
      rw [Nat.div_eq_of_lt (Nat.lt_of_lt_of_le (ck v) (Nat.pow_le_pow_right (by decide) q)),Nat.zero_mod]
  · rw [wC l1 l2];omega
theorem Be{v n:Nat}(hv:v<W^n)(h0:v≠0)(hn:nl v≤4096)(hn2:n≤1000000) :gp (aH v n)=some (.r0 ((tz v:Nat):Int) 0):=by
  have hl:=iu hv
  have hp:=qU h0
  obtain ⟨i,h1,h2,h3,h4⟩:=MA h0
  have hW:v/W^i%W<W:=Nat.mod_lt _ (by decide)
  have hz:=FV (n:=64) h3 hW
  refine bj (ab (a:=(0,aH v n,nl v)) ?_ (ab (a:=false) (aJ (by show some _=_;congr 2;rw [beq_eq_false_iff_ne];omega)) (ab (a:=()) (aJ rfl) (ab (a:=i) (dL (fun j=>j) i rfl (fun j hj=>?_) ?_) (ab (a:=((tz v:Nat):Int)) ?_ rfl)))))
  · unfold tx
    rw [aN,eK hv (by omega)]
    simp only [bE,aI,ap]
    exact bC (aw (bx (aw (cd (aw (aJ rfl))))))
  · have z:lm v j=0:=by
      unfold lm
      obtain ⟨d,rfl⟩:∃ d,i=j+1+d:=⟨i-j-1,by omega⟩
      have dv:W^(j+1+d) ∣ v:=Nat.dvd_of_mod_eq_zero h2
      obtain ⟨c,hc⟩:=dv
      have:v=(W^d*c*W)*W^j:=by
        rw [hc,Nat.pow_add,Nat.pow_succ];simp only [Nat.mul_assoc,Nat.mul_comm,Nat.mul_left_comm]
      rw [this,Nat.mul_div_cancel _ (fK j),Nat.mul_mod_left];rfl
    show (iw _ _ _).run=_
    unfold iw
    rw [ch hv,z,ax]
    exact ae (ae (bC (ae rfl)))
  · show (iw _ _ _).run=_
    unfold iw
    rw [ch hv,ui,ax]
    refine ae (ae (gW (by rw [beq_eq_false_iff_ne];omega) rfl))
  · unfold tA
    rw [ch hv,ui,ax,sn h3 hW]
    simp only [bZ,bT]
    have e:(((64*i:Nat):Int)+((tz (v/W^i%W):Nat):Int))=((tz v:Nat):Int):=by rw [h4,Int.natCast_add]
    rw [e]
    exact ae (ae (ae (aw (aY (by rw [aq];omega) rfl))))
theorem Jt(k:Nat) :Int.tdiv (k:Int) (64:Int)=((k/64:Nat):Int):=rfl
theorem Ju(k:Nat) :IntKind.u64.wrap (Int.tmod (k:Int) (64:Int))=((k%64:Nat):Int):=by
  rw [show Int.tmod (k:Int) (64:Int)=((k%64:Nat):Int) from rfl,zO (Nat.lt_trans (Nat.mod_lt k (by decide:64>0)) (by decide))]
theorem MB{v n k:Nat}(hv:v<W^n)(h0:n≠0)(hn:n≤1000000)(hk:k≤1000000) :
    cI (aH v n) (k:Int)=some (.r0 0 (nl (v*2^k)) (n+k/64+1) (aH (v*2^k) (n+k/64+1))):=by
  have hr:k%64<64:=Nat.mod_lt _ (by decide)
  have hq:k/64≤1000000:=by omega
  have hsh:=Mj (k:=k) hv
  refine bj (ab (a:=(((k/64:Nat):Int),((k%64:Nat):Int),n+k/64+1,aH 0 (n+k/64+1))) ?_ (ab (a:=aH (v*2^k) (n+k/64+1)) (dL (fun i=>(i,aH (v%W^i*2^(k%64)*W^(k/64)) (n+k/64+1))) n (by simp [Nat.mod_one]) (fun i hi=>?_) ?_) (ab (a:=(0,nl (v*2^k),n+k/64+1,aH (v*2^k) (n+k/64+1))) ?_ rfl)))
  · unfold xz
    rw [ax,Jt,Ju]
    have e:(((n:Nat):Int)+((k/64:Nat):Int))+(1:Int)=((n+k/64+1:Nat):Int):=by omega
    rw [e,ac,CD]
    exact cd (ae (ae (aw (ae (ae (ae (ae (ae (ae rfl)))))))))
  · show aS (nV _ _ _ _ _ _).run _=_
    refine ab (a:=aH (v%W^(i+1)*2^(k%64)*W^(k/64)) (n+k/64+1)) ?_ (ae rfl)
    unfold nV
    have e1:Int.toNat (((i:Nat):Int)+((k/64:Nat):Int))=i+k/64:=rfl
    have e2:Int.toNat ((((i:Nat):Int)+((k/64:Nat):Int))+(1:Int))=i+k/64+1:=rfl
    rw [e1,e2,ch hv,ui,DV _ (by omega),zP hr,show (1:Int)=((1:Nat):Int) from rfl,sM _ (by decide),sM _ (by omega),Nat.pow_one,Mh hr (by omega),ax]
    simp only [List.length_set,ax]
    exact bX (ae (ae (ae (ae (ae (ae (ae (ae (ae (ae (ae (ae (ae (ae (ae (ae rfl))))))))))))))))
  · show aS (nV _ _ _ _ _ _).run _=_
    refine bS (gW (by rw [ax];exact (by simp only [aq,bb,bc,aA,aB,ak,aC,aD,decide_eq_true_eq,decide_eq_false_iff_not,beq_iff_eq,beq_eq_false_iff_ne,bne_iff_ne,bne_eq_false_iff_eq,Bool.not_eq_true',Bool.not_eq_false',List.length_set,ne_eq,ge_iff_le,gt_iff_lt,an,ac,aU];omega)) ?_)
    rw [Nat.mod_eq_of_lt hv,Nat.mul_assoc,←CG];rfl
  · unfold xA
    rw [nk hsh (by omega)]
    exact aw rfl
theorem Jv{v n:Nat}(h:v<W^n)(hn:n≤100000000)(hb:nl v≤4096) :eS (aH v n)=some (.r0 (aH v n) (nl v) 0):=by
  refine bj (ab (a:=(aH v n,nl v)) ?_ (cd rfl))
  unfold rg
  rw [aN,eK h (by omega)]
  exact bx (aw rfl)
theorem MC{v n k:Nat}(hv:v<W^n)(h0:v≠0)(hn:n≤1000000)(hk:k<262144)(hl:nl v≤4096)(hb:nl (v*2^k)≤4096) :
    dA (aH v n) (k:Int)=some (.r0 (aH (v*2^k) (nl (v*2^k))) (nl (v*2^k)) 0):=by
  have hp:=qU h0
  have hln:=iu hv
  refine bj (ab (a:=(0,aH v n,nl v)) ?_ (ab (a:=()) ?_ (ab (a:=(aH (v*2^k) (nl (v*2^k)),nl (v*2^k),0)) ?_ rfl)))
  · unfold Au
    rw [aN,eK hv (by omega)]
    simp only [bE,aI,ap]
    exact bC (aw (bx (aw (cd (aw (aJ rfl))))))
  · exact aJ (cd (bX (cd rfl)))
  · have hsl:=Mj (k:=k) (ck v)
    have hls:=iu hsl
    show (uu _ _ _).run=_
    unfold uu
    rw [bp hln,MB (ck v) (by omega) (by omega) (by omega)]
    simp only [mX,eN,eO,eP]
    rw [bp hls,Jv (ck _) (by omega) hb]
    exact aY (aT hln) (aw (aY (aT hls) (aw rfl)))
theorem MD{v n k:Nat}(hv:v<W^n)(hn:n≤1000000)(hk:k≤100000000) :
    ∃ b N,i8 (aH v n) (k:Int)=some (.r0 0 (nl (v/2^k)) N b (aH (v/2^k) N))∧nl (v/2^k)≤N∧N≤n:=by
  have hr:k%64<64:=Nat.mod_lt _ (by decide)
  have hq:k/64≤10000000:=by omega
  rcases Nat.lt_or_ge (k/64) n with hlt | hge
  · have hs:=N9 (k:=k) hv (Nat.le_of_lt hlt)
    have hls:=iu hs
    let f0:=((cN .and .u64 (List.getD (aH v n) (Int.toNat (Int.tdiv (k:Int) (64:Int))) 0) (IntKind.u64.wrap ((IntKind.u64.wrap ((1:Int)*2^(min (Int.toNat (IntKind.u64.wrap (Int.tmod (k:Int) (64:Int)))) (IntKind.u64.bits))))-(1:Int)))) != (0:Int))
    let f:Nat→Bool:=fun j=>Nat.rec (motive:=fun _=>Bool) f0 (fun j b=>b||(lm v j != (0:Int))) j
    refine ⟨f (k/64),n-k/64,bj (ab (a:=(((k/64:Nat):Int),((k%64:Nat):Int),f0,k/64,k/64)) ?_ (ab (a:=f (k/64)) (dL (fun j=>(f j,j)) (k/64) rfl (fun j hj=>?_) ?_) (ab (a:=(n-k/64,n-k/64,List.replicate (n-k/64) (0:Int))) ?_ (ab (a:=aH (v/2^k) (n-k/64)) (dL (fun i=>(i,bF (fun j=>if j<i then lm (v/2^k) j else 0) (n-k/64))) (n-k/64) (by simp only [qn];congr 1) (fun i hi=>?_) ?_) (ab (a:=(0,nl (v/2^k),n-k/64,aH (v/2^k) (n-k/64))) ?_ rfl))))),hls,Nat.sub_le _ _⟩
    · unfold rh
      have e:=Jt k
      refine aw (aY (by rw [e];exact (by simp only [aq,bb,bc,aA,aB,ak,aC,aD,decide_eq_true_eq,decide_eq_false_iff_not,beq_iff_eq,beq_eq_false_iff_ne,bne_iff_ne,bne_eq_false_iff_eq,Bool.not_eq_true',Bool.not_eq_false',List.length_set,ne_eq,ge_iff_le,gt_iff_lt,an,ac,aU];omega)) (aw (gW (by rw [e,ax];exact (by simp only [aq,bb,bc,aA,aB,ak,aC,aD,decide_eq_true_eq,decide_eq_false_iff_not,beq_iff_eq,beq_eq_false_iff_ne,bne_iff_ne,bne_eq_false_iff_eq,Bool.not_eq_true',Bool.not_eq_false',List.length_set,ne_eq,ge_iff_le,gt_iff_lt,an,ac,aU];omega)) (aY (by rw [e,ax];exact (by simp only [aq,bb,bc,aA,aB,ak,aC,aD,decide_eq_true_eq,decide_eq_false_iff_not,beq_iff_eq,beq_eq_false_iff_ne,bne_iff_ne,bne_eq_false_iff_eq,Bool.not_eq_true',Bool.not_eq_false',List.length_set,ne_eq,ge_iff_le,gt_iff_lt,an,ac,aU];omega)) (aY (by rw [e,ax];exact (by simp only [aq,bb,bc,aA,aB,ak,aC,aD,decide_eq_true_eq,decide_eq_false_iff_not,beq_iff_eq,beq_eq_false_iff_ne,bne_iff_ne,bne_eq_false_iff_eq,Bool.not_eq_true',Bool.not_eq_false',List.length_set,ne_eq,ge_iff_le,gt_iff_lt,an,ac,aU];omega)) (aY (by rw [Ju];exact (by simp only [aq,bb,bc,aA,aB,ak,aC,aD,decide_eq_true_eq,decide_eq_false_iff_not,beq_iff_eq,beq_eq_false_iff_ne,bne_iff_ne,bne_eq_false_iff_eq,Bool.not_eq_true',Bool.not_eq_false',List.length_set,ne_eq,ge_iff_le,gt_iff_lt,an,ac,aU];omega)) (aY (by rw [e,ax];exact (by simp only [aq,bb,bc,aA,aB,ak,aC,aD,decide_eq_true_eq,decide_eq_false_iff_not,beq_iff_eq,beq_eq_false_iff_ne,bne_iff_ne,bne_eq_false_iff_eq,Bool.not_eq_true',Bool.not_eq_false',List.length_set,ne_eq,ge_iff_le,gt_iff_lt,an,ac,aU];omega)) (aY (by rw [e];exact (by simp only [aq,bb,bc,aA,aB,ak,aC,aD,decide_eq_true_eq,decide_eq_false_iff_not,beq_iff_eq,beq_eq_false_iff_ne,bne_iff_ne,bne_eq_false_iff_eq,Bool.not_eq_true',Bool.not_eq_false',List.length_set,ne_eq,ge_iff_le,gt_iff_lt,an,ac,aU];omega)) ?_))))))))
      show some (Sum.inl (_,IntKind.u64.wrap _,f0,_,_))=_
      rw [Ju];rfl
    · show aS (nW _ _ _ _ _).run _=_
      refine ab (a:=f (j+1)) ?_ (ae rfl)
      unfold nW
      rw [ch hv,ax]
      refine bX (ae (ae ?_))
      have hf:f (j+1)=(f j||(lm v j != (0:Int))):=rfl
      rw [hf]
      cases f j
      · exact aJ rfl
      · exact bC rfl
    · show aS (nW _ _ _ _ _).run _=_
      exact bS (cd rfl)
    · show (rj _ _).run=_
      unfold rj
      have e:((n:Nat):Int)-((k/64:Nat):Int)=((n-k/64:Nat):Int):=by omega
      rw [ax,e]
      exact ae (ae (ae (ae (ae rfl))))
    · show aS (nX _ _ _ _ _ _ _).run _=_
      refine ab (a:=bF (fun j=>if j<i+1 then lm (v/2^k) j else 0) (n-k/64)) ?_ (ae rfl)
      have e1:Int.toNat (((i:Nat):Int)+((k/64:Nat):Int))=i+k/64:=rfl
      have e2:Int.toNat ((((i:Nat):Int)+((k/64:Nat):Int))+(1:Int))=i+k/64+1:=rfl
      obtain ⟨w1,w2⟩:=Mf (V:=v/W^(i+k/64)) hr
      have hV:v/W^(i+k/64)/W=v/W^(i+k/64+1):=by rw [Nat.pow_succ,Nat.div_div_eq_div_mul]
      have fin:∀ x:Int,x=lm (v/2^k) i→(bF (fun j=>if j<i then lm (v/2^k) j else 0) (n-k/64)).set i x=bF (fun j=>if j<i+1 then lm (v/2^k) j else 0) (n-k/64):=by
        intro x hx
        rw [mu hi]
        refine c9 fun j hj=>?_
        by_cases e:j=i
        · subst e;rw [if_pos rfl,if_pos (Nat.lt_succ_self _),hx]
        · rw [if_neg e]
          by_cases e':j<i
          · rw [if_pos e',if_pos (by omega)]
          · rw [if_neg e',if_neg (by omega)]
      unfold nX
      rw [e1,e2,ch hv,ch hv,ui,ui,sM _ (by omega),zP hr,show (1:Int)=((1:Nat):Int) from rfl,DV _ (by decide),DV _ (by omega),Nat.pow_one]
      simp only [List.length_set,ax,cT,List.set_set]
      by_cases hlast:i+k/64+1<n
      · refine bX (ae (ae (ae (ae (ae (ae (ae (ae (bX (ae (ae (ae (ae (ae (ae (aw (ae (ae (ae ?_)))))))))))))))))))
        show some (Sum.inl _)=_
        congr 2
        refine fin _ ?_
        rw [List.getD_eq_getElem?_getD,List.getElem?_set_self (by rw [cT];exact hi)]
        show cN .or .u64 _ _=_
        have m1:v/W^(i+k/64)%W/2^(k%64)%W=v/W^(i+k/64)%W/2^(k%64):=Nat.mod_eq_of_lt (Nat.lt_of_le_of_lt (Nat.div_le_self _ _) (Nat.mod_lt _ (by decide)))
        show cN .or .u64 ((v/W^(i+k/64)%W/2^(k%64):Nat):Int) _=_
        rw [DU,m1,Nat.mod_mod,←hV,w2,←w1,Mi]
      · refine bX (ae (ae (ae (ae (ae (ae (ae (ae (cd ?_)))))))))
        show some (Sum.inl _)=_
        congr 2
        refine fin _ ?_
        have z:v/W^(i+k/64)/W=0:=by
          rw [hV];exact Nat.div_eq_of_lt (Nat.lt_of_lt_of_le hv (Nat.pow_le_pow_right (by decide) (by omega)))
        rw [z] at w1
        rw [Mi,w1]
        simp
    · show aS (nX _ _ _ _ _ _ _).run _=_
      refine bS (cd ?_)
      show some (Sum.inr (Sum.inl _))=_
      congr 3
      exact c9 fun j hj=>if_pos hj
    · unfold xD
      rw [nk hs (by omega)]
      exact aw rfl
  · have hz:=Mk hv hge
    refine ⟨decide (((n:Nat):Int)>(0:Int)),0,?_,by rw [hz,eG];exact Nat.le_refl 0,Nat.zero_le _⟩
    refine bj (bS ?_)
    unfold rh
    rw [Jt,ax,hz,eG]
    exact aw (ae (aw (bX rfl)))
theorem Hq{v n k:Nat}(hv:v<W^n)(hn:n≤1000000)(hl:nl v≤4096)(hk:k≤100000000) :
    ∃ b N,fb (aH v n) (k:Int)=some (.r0 (aH (v/2^k) N) 0 (nl (v/2^k)) b 0)∧nl (v/2^k)≤N∧N≤4096:=by
  have hln:=iu hv
  obtain ⟨b,N,h1,h2,h3⟩:=MD (k:=k) (ck v) (by omega) hk
  refine ⟨b,N,bj (ab (a:=(0,aH v n,nl v)) ?_ (ab (a:=false) ?_ (ab (a:=(aH (v/2^k) N,0,nl (v/2^k),b)) ?_ rfl))),h2,by omega⟩
  · unfold Ax
    rw [aN,eK hv (by omega)]
    simp only [bE,aI,ap]
    exact bC (aw (bx (aw (cd (aw (aJ rfl))))))
  · refine aJ ?_
    show some (Sum.inl (decide (((k:Nat):Int)<0)))=_
    rw [decide_eq_false (by omega)]
  · show (ux _ _ _ _).run=_
    unfold ux
    rw [bp hln,h1]
    exact aJ (aY (aT hln) (aw rfl))
theorem jV(s:Bool){v n:Nat}(hv:v<W^n)(hn:n≤1000000)(hl:nl v≤4096){e:Int}(he : -1000000≤e∧e≤1000000) :
    ∃ N,ao s (aH v n) e=some (.r0 (nS (sg s v)) (aH (nM (sg s v)) N) 0 (nl (nM (sg s v))) (nE (sg s v) e))∧nl (nM (sg s v))≤N∧N≤4096:=by
  have t5:(pU (aH v n)).run=some (.inl (aH v (nl v),nl v,false)):=by
    unfold pU
    rw [aN,sS hv (by omega),if_neg (by omega)]
    exact bx (aw rfl)
  by_cases h0:v=0
  · have z:sg s v=0:=nO.2 h0
    rw [z,gX,yJ]
    rw [kv,eG]
    refine ⟨0,bj (ab t5 (bS ?_)),Nat.le_refl _,Nat.zero_le _⟩
    rw [h0,eG]
    exact bC rfl
  · have z:sg s v≠0:=fun q=>h0 (nO.1 q)
    have hp:=qU h0
    have ht:=J9 (v:=v)
    obtain ⟨b,N,h1,h2,h3⟩:=Hq (k:=tz v) (ck v) (by omega) hl (by omega)
    have eM:nM (sg s v)=v/2^tz v:=by unfold nM;rw [pB]
    have eE:nE (sg s v) e=e+((tz v:Nat):Int):=by rw [fp z,pB]
    rw [NH h0,eM,eE]
    refine ⟨N,bj (ab t5 (ab (a:=((tz v:Nat):Int)) ?_ (ab (a:=(aH (v/2^tz v) N,0,nl (v/2^tz v))) ?_ ?_))),h2,h3⟩
    · show (pV _ _).run=_
      unfold pV
      rw [eF ax,Be (ck v) h0 hl (by omega)]
      exact cd (gd (aw rfl))
    · show (pW _ _ _).run=_
      unfold pW
      rw [eF ax,h1]
      exact gd (aw rfl)
    · exact aY (by rw [aq];omega) rfl
theorem Hr{v n:Nat}(hv:v<W^n)(hn:n≤1000000)(hl:nl v≤4096){e:Int}(he : -262144≤e∧e≤262144) :cO (aH v n) e=some (.r0 true):=by
  refine bj (ab (a:=0) ?_ (ab (a:=true) ?_ rfl))
  · unfold xK
    rw [aN,sS hv (by omega),if_neg (by omega)]
    exact bx (aw rfl)
  · refine bC (bX ?_)
    show some (Sum.inl (decide (e≤262144)))=_
    rw [decide_eq_true he.2]
theorem v6{z e:Int}{s:Bool}(hs:z≠0→s=nS z)(h:Sm z e) :∃ N,ao s (aH (nM z) (nl (nM z))) (nE z e)=some (.r0 (nS z) (aH (nM z) N) 0 (nl (nM z)) (nE z e))∧nl (nM z)≤N∧N≤4096:=by
  have hm:=h.m
  have hb:=h.b
  obtain ⟨N,h1,h2,h3⟩:=jV s (ck (nM z)) (by omega) (by omega:nl (nM z)≤4096) (e:=nE z e) (by omega)
  obtain ⟨a,b,c⟩:=vm (e:=e) hs
  rw [a,b,c] at h1
  rw [b] at h2
  exact ⟨N,h1,h2,h3⟩
theorem Bf{z e:Int}(h:Sm z e) :cO (aH (nM z) (nl (nM z))) (nE z e)=some (.r0 true):=by
  have hm:=h.m
  have hb:=h.b
  exact Hr (ck (nM z)) (by omega) (by omega) (by omega)
theorem uF(s:Bool){v n:Nat}(hv:v<W^n)(hn:n≤1000000)(hl:nl v≤1000){e:Int}(he : -150000≤e∧e≤150000) :
    ∃ N,bo s (aH v n) e=some (.r0 0 (nS (sg s v)) (aH (nM (sg s v)) N) 0 (nl (nM (sg s v))) (nE (sg s v) e))∧nl (nM (sg s v))≤N∧N≤4096:=by
  obtain ⟨N,h1,h2,h3⟩:=jV s hv hn (by omega) (e:=e) (by omega)
  have ht:=J9 (v:=v)
  have hE' : -262144≤nE (sg s v) e∧nE (sg s v) e≤262144:=by
    unfold nE;rw [pB];split<;>omega
  obtain ⟨hE',hE⟩:=hE'
  refine ⟨N,bj (ab (a:=(nS (sg s v),aH (nM (sg s v)) N,0,nl (nM (sg s v)),nE (sg s v) e,false)) ?_ (ab (a:=false) ?_ rfl)),h2,h3⟩
  · unfold vE
    rw [aN,h1]
    exact bx (aw rfl)
  · show (pY _ _ _ _).run=_
    unfold pY
    rw [bp h2,Hr (ck _) (by omega) (by omega) ⟨hE',hE⟩]
    exact aY (aT h2) (aw rfl)
theorem v7{z:Int}{m:Nat}(h:m≤tz z.natAbs) :nM z*2^(tz z.natAbs-m)=z.natAbs/2^m∧z.natAbs/2^m*2^m=z.natAbs:=by
  have b:=J8 z
  have e:tz z.natAbs=(tz z.natAbs-m)+m:=by omega
  have d:z.natAbs/2^m*2^m=z.natAbs:=by
    refine Nat.div_mul_cancel ⟨nM z*2^(tz z.natAbs-m),?_⟩
    rw [e,Nat.pow_add,←Nat.mul_assoc] at b
    rw [Nat.mul_comm (2^m)];exact b.symm
  refine ⟨?_,d⟩
  rw [e,Nat.pow_add,←Nat.mul_assoc] at b
  exact (Nat.div_eq_of_eq_mul_left (eZ m) b.symm).symm
theorem sT{z e:Int}{m:Nat}(h:Sm z e)(h0:z≠0)(hm:m≤tz z.natAbs){k:Int}(hk:k=((tz z.natAbs-m:Nat):Int)) :
    dA (aH (nM z) (nl (nM z))) k=some (.r0 (aH (z.natAbs/2^m) (nl (z.natAbs/2^m))) (nl (z.natAbs/2^m)) 0):=by
  obtain ⟨e1,e2⟩:=v7 hm
  have ht:=h.t
  have hM:=h.m
  have hN:nl (z.natAbs/2^m)≤300:=Nat.le_trans (md (Nat.div_le_self _ _)) h.l
  rw [hk,MC (ck _) (zQ h0) (by omega) (by omega) (by omega) (by rw [e1];omega),e1]
theorem Nn{a b:Int}(h:a≤b) :np a b=a:=by unfold np;rw [if_neg (by omega)]
theorem Ki{a b:Int}(h:b≤a) :np a b=b:=by
  unfold np
  by_cases q:b<a
  · rw [if_pos q]
  · rw [if_neg q];omega
theorem Kj{a b:Int}(h:a≤b) :mC a b=b:=by
  unfold mC
  by_cases q:b>a
  · rw [if_pos q]
  · rw [if_neg q];omega
theorem No{a b:Int}(h:b≤a) :mC a b=a:=by unfold mC;rw [if_neg (by omega)]
structure O4 (x y e:Int) (m:Nat) (ep:Int):Prop where
  x2:x.natAbs/2^m*2^m=x.natAbs
  y2:y.natAbs/2^m*2^m=y.natAbs
  at':(x=0∧y=0∧ep=0)∨ep=e+m
  b : -50000≤ep∧ep≤94800
theorem O4.sum{x y e ep:Int}{m:Nat}(h:O4 x y e m ep){z z':Int}(hz:z=z'*((2^m:Nat):Int))(h0:x=0→y=0→z'=0) :nS z=nS z'∧nM z=nM z'∧nE z e=nE z' ep:=by
  obtain ⟨a,b,c⟩:=vl hz e
  refine ⟨a,b,?_⟩
  rcases h.at' with ⟨h1,h2,h3⟩ | h1
  · have:=h0 h1 h2
    subst this
    rw [Int.zero_mul] at hz
    rw [hz,gX,gX]
  · rw [c,h1]
theorem Bg{x y e:Int}(hx:Sm x e)(hy:Sm y e) :∃ m ep,bJ (aH (nM x) (nl (nM x))) (nE x e) (aH (nM y) (nl (nM y))) (nE y e) =
    some (.r0 0 ep (aH (x.natAbs/2^m) (nl (x.natAbs/2^m))) (nl (x.natAbs/2^m)) (aH (y.natAbs/2^m) (nl (y.natAbs/2^m))) (nl (y.natAbs/2^m)))∧O4 x y e m ep:=by
  have hxt:=hx.t
  have hyt:=hy.t
  obtain ⟨_,e1,e2⟩:=hx
  have zn:∀ m,((0:Int).natAbs/2^m)=0:=fun m=>by rw [Int.natAbs_zero,Nat.zero_div]
  by_cases h1:x=0
  · subst h1
    have l0:nl (nM 0)=0:=by rw [kv,eG]
    by_cases h2:y=0
    · subst h2
      refine ⟨0,0,bj (ab (a:=0) ?_ (ab (a:=([],0,[],0)) ?_ ?_)),⟨by simp,by simp,.inl ⟨rfl,rfl,rfl⟩,by omega⟩⟩
      · unfold iy;rw [ax,l0,gX];exact bC rfl
      · unfold ei;rw [ax,l0];exact bC (bC rfl)
      · rw [zn,eG];rfl
    · have ly:nl (nM y)≠0:=fun q=>zQ h2 (iY.1 q)
      obtain ⟨_,d⟩:=v7 (z:=y) (Nat.le_refl _)
      refine ⟨tz y.natAbs,nE y e,bj (ab (a:=nE y e) ?_ (ab (a:=([],0,aH (y.natAbs/2^tz y.natAbs) (nl (y.natAbs/2^tz y.natAbs)),nl (y.natAbs/2^tz y.natAbs))) ?_ ?_)),⟨by simp,d,.inr (fp h2),by rw [fp h2];omega⟩⟩
      · unfold iy;rw [ax,l0];exact bC rfl
      · show (ei _ _ _ _ _).run=_
        unfold ei
        rw [ax,ax,l0,eF ax,sT hy h2 (Nat.le_refl _) (k:=nE y e-nE y e) (by omega)]
        exact bC (cd (aY (by rw [aq];omega) (gd (aw rfl))))
      · rw [zn,eG];rfl
  · have lx:nl (nM x)≠0:=fun q=>zQ h1 (iY.1 q)
    by_cases h2:y=0
    · subst h2
      have l0:nl (nM 0)=0:=by rw [kv,eG]
      obtain ⟨_,d⟩:=v7 (z:=x) (Nat.le_refl _)
      have hx:Sm x e:=⟨by assumption,e1,e2⟩
      refine ⟨tz x.natAbs,nE x e,bj (ab (a:=nE x e) ?_ (ab (a:=(aH (x.natAbs/2^tz x.natAbs) (nl (x.natAbs/2^tz x.natAbs)),nl (x.natAbs/2^tz x.natAbs),[],0)) ?_ ?_)),⟨d,by simp,.inr (fp h1),by rw [fp h1];omega⟩⟩
      · unfold iy;rw [ax,ax,l0];exact cd (bC rfl)
      · show (ei _ _ _ _ _).run=_
        unfold ei
        rw [ax,ax,l0,eF (l:=aH (nM x) (nl (nM x))) ax,sT hx h1 (Nat.le_refl _) (k:=nE x e-nE x e) (by omega)]
        exact cd (aY (by rw [aq];omega) (gd (aw (bC rfl))))
      · rw [zn,eG];rfl
    · have ly:nl (nM y)≠0:=fun q=>zQ h2 (iY.1 q)
      have hx:Sm x e:=⟨by assumption,e1,e2⟩
      have ex:=fp (e:=e) h1
      have ey:=fp (e:=e) h2
      have emin:np (nE x e) (nE y e)=e+((min (tz x.natAbs) (tz y.natAbs):Nat):Int):=by
        rw [ex,ey]
        rcases Nat.le_total (tz x.natAbs) (tz y.natAbs) with q | q
        · rw [Nn (by omega),Nat.min_eq_left q]
        · rw [Ki (by omega),Nat.min_eq_right q]
      have emax:mC (nE x e) (nE y e)=e+((max (tz x.natAbs) (tz y.natAbs):Nat):Int):=by
        rw [ex,ey]
        rcases Nat.le_total (tz x.natAbs) (tz y.natAbs) with q | q
        · rw [Kj (by omega),Nat.max_eq_right q]
        · rw [No (by omega),Nat.max_eq_left q]
      have mx:min (tz x.natAbs) (tz y.natAbs)≤tz x.natAbs:=Nat.min_le_left _ _
      have my:min (tz x.natAbs) (tz y.natAbs)≤tz y.natAbs:=Nat.min_le_right _ _
      have gx:max (tz x.natAbs) (tz y.natAbs)≤44800:=by omega
      have gl:min (tz x.natAbs) (tz y.natAbs)≤max (tz x.natAbs) (tz y.natAbs):=by omega
      revert emin emax mx my gx gl
      generalize min (tz x.natAbs) (tz y.natAbs)=m
      generalize max (tz x.natAbs) (tz y.natAbs)=g
      intro emin emax mx my gx gl
      obtain ⟨_,dx⟩:=v7 mx
      obtain ⟨_,dy⟩:=v7 my
      refine ⟨m,e+m,bj (ab (a:=e+(m:Int)) ?_ (ab (a:=(aH (x.natAbs/2^m) (nl (x.natAbs/2^m)),nl (x.natAbs/2^m),aH (y.natAbs/2^m) (nl (y.natAbs/2^m)),nl (y.natAbs/2^m))) ?_ rfl)),⟨dx,dy,.inr rfl,by omega⟩⟩
      · unfold iy
        rw [ax,ax,emin,emax]
        exact cd (cd (aY (by rw [aq];omega) (gW (by rw [decide_eq_false_iff_not];omega) rfl)))
      · show (ei _ _ _ _ _).run=_
        unfold ei
        rw [ax,ax,eF (l:=aH (nM x) (nl (nM x))) ax,eF (l:=aH (nM y) (nl (nM y))) ax,sT hx h1 mx (k:=nE x e-(e+(m:Int))) (by omega),sT hy h2 my (k:=nE y e-(e+(m:Int))) (by omega)]
        exact cd (aY (by rw [aq];omega) (gd (aw (cd (aY (by rw [aq];omega) (gd (aw rfl)))))))
theorem wW(s:Bool){v n:Nat}(hv:v<W^n)(hn:n≤1000000)(hl:nl v≤1000){e:Int}(he : -150000≤e∧e≤150000) :
    ∃ N,bf s (aH v n) 0 e=some (.r0 0 (nS (sg s v)) (aH (nM (sg s v)) N) 0 (nl (nM (sg s v))) (nE (sg s v) e))∧nl (nM (sg s v))≤N∧N≤4096:=by
  obtain ⟨N,h1,h2,h3⟩:=uF s hv hn hl he
  refine ⟨N,bj (ab (a:=(0,nS (sg s v),aH (nM (sg s v)) N,0,nl (nM (sg s v)),nE (sg s v) e)) ?_ rfl),h2,h3⟩
  unfold tC
  rw [aN,h1]
  exact aJ (bx (aw rfl))
theorem K8{x y e:Int}{s t:Bool}(hs:x≠0→s=nS x)(ht:y≠0→t=nS y)(hx:Sm x e)(hy:Sm y e) :
    ∃ N,eU s (aH (nM x) (nl (nM x))) (nE x e) t (aH (nM y) (nl (nM y))) (nE y e)=some (.r0 0 (nS (x+y)) (aH (nM (x+y)) N) 0 (nl (nM (x+y))) (nE (x+y) e))∧nl (nM (x+y))≤N∧N≤4096:=by
  obtain ⟨Nx,x1,x2,x3⟩:=v6 hs hx
  obtain ⟨Ny,y1,y2,y3⟩:=v6 ht hy
  obtain ⟨m,ep,l1,l2⟩:=Bg hx hy
  have xl:=hx.l
  have yl:=hy.l
  have hX:nl (x.natAbs/2^m)≤300:=Nat.le_trans (md (Nat.div_le_self _ _)) xl
  have hY:nl (y.natAbs/2^m)≤300:=Nat.le_trans (md (Nat.div_le_self _ _)) yl
  have ox:=NI l2.x2
  have oy:=NI l2.y2
  have z0:∀ {z:Int},z=0→z.natAbs/2^m=0:=fun h=>by rw [h,Int.natAbs_zero,Nat.zero_div]
  have zx:x=0→x.natAbs/2^m=0:=z0
  have zy:y=0→y.natAbs/2^m=0:=z0
  have hb:=l2.b
  have t9:(rv s (aH (nM x) (nl (nM x))) (nE x e) t (aH (nM y) (nl (nM y))) (nE y e)).run=some (.inl (0,nS x,aH (nM x) Nx,0,nl (nM x),nE x e,nS y,aH (nM y) Ny,0,nl (nM y),nE y e,false)):=by
    unfold rv
    rw [aN,aN,Bf hx,Bf hy,x1,y1]
    exact bC (aw (bx (aw (aJ (bx (aw (aw (bC (aw (bx (aw (aJ (bx (aw (aw (aJ rfl))))))))))))))))
  have t10:(p5 0 (aH (nM x) Nx) 0 (nl (nM x)) (nE x e) (aH (nM y) Ny) 0 (nl (nM y)) (nE y e)).run=some (.inl (0,ep,aH (x.natAbs/2^m) (nl (x.natAbs/2^m)),nl (x.natAbs/2^m),aH (y.natAbs/2^m) (nl (y.natAbs/2^m)),nl (y.natAbs/2^m))):=by
    unfold p5
    rw [bp x2,bp y2,l1]
    exact aJ (aY (aT x2) (aY (aT y2) (aw rfl)))
  clear l1 x1 y1
  have sum:=fun {z z':Int} (a:z=z'*((2^m:Nat):Int)) (b:x=0→y=0→z'=0)=>l2.sum a b
  revert t10 hX hY ox oy zx zy
  generalize x.natAbs/2^m=X
  generalize y.natAbs/2^m=Y
  intro hX hY ox oy zx zy t10
  have hXY:=Ii hX hY
  by_cases hsg:nS x=nS y
  · have hz:x+y=sg (nS x) (X+Y)*((2^m:Nat):Int):=by
      rw [←Od,Int.add_mul,←ox]
      rw [hsg,←oy]
    obtain ⟨a,b,c⟩:=sum hz (fun p q=>by rw [zx p,zy q];cases nS x<;>rfl)
    obtain ⟨N,h1,h2,h3⟩:=wW (nS x) (v:=X+Y) (ck _) (by omega) (by omega) (e:=ep) (by omega)
    rw [a,b,c]
    refine ⟨N,bj (ab t9 (ab t10 (bS ?_))),h2,h3⟩
    show (jv _ _ _ _ _ _ _ _).run=_
    unfold jv
    have hc:nl (X+Y)≤max (nl X) (nl Y)+1:=Ii (Nat.le_max_left _ _) (Nat.le_max_right _ _)
    rw [eF ax,eF ax,Mz (ck X) (ck Y) (by omega) (by omega) (by omega) (by omega) (by omega)]
    simp only [mU,dd,de,dF,df]
    rw [bp hc,show (((0:Nat):Int))=0 from rfl,h1]
    exact aJ (nq (by rw [hsg];cases nS y<;>rfl) (gd (gd (aw (aY (aT hc) (gd (gd (aw rfl))))))))
  · have hn:nS y = !(nS x):=by revert hsg;cases nS x<;>cases nS y<;>simp
    have t11:(jv (nS x) (nS y) 0 ep (aH X (nl X)) (nl X) (aH Y (nl Y)) (nl Y)).run=some (.inl ()):=by
      unfold jv
      exact aJ (gW (by rw [hn];cases nS x<;>rfl) rfl)
    have t12:(p6 (aH X (nl X)) (nl X) (aH Y (nl Y)) (nl Y)).run=some (.inl (nr X Y)):=by
      unfold p6
      rw [eF ax,eF ax,Hp (ck X) (ck Y) (by omega) (by omega) (by omega) (by omega)]
      exact gd (gd (aw rfl))
    have hxy:x+y=(sg (nS x) X-sg (nS x) Y)*((2^m:Nat):Int):=by
      rw [Int.sub_mul,←ox]
      have:y = -(sg (nS x) Y)*((2^m:Nat):Int):=by rw [←Ij,←hn];exact oy
      rw [Int.neg_mul] at this
      omega
    by_cases hlt:X<Y
    · have hz:x+y=sg (nS y) (Y-X)*((2^m:Nat):Int):=by
        rw [hxy,←Ml (Nat.le_of_lt hlt),hn,Ij,Ij];congr 1;omega
      obtain ⟨a,b,c⟩:=sum hz (fun p q=>by rw [zx p,zy q];cases nS y<;>rfl)
      have hd:nl (Y-X)≤nl Y:=md (Nat.sub_le _ _)
      obtain ⟨N,h1,h2,h3⟩:=wW (nS y) (v:=Y-X) (ck _) (by omega) (by omega) (e:=ep) (by omega)
      rw [a,b,c]
      refine ⟨N,bj (ab t9 (ab t10 (ab t11 (ab t12 (bS ?_))))),h2,h3⟩
      show (p7 _ _ _ _ _ _ _).run=_
      unfold p7
      have hc:nr X Y = -1:=if_pos hlt
      rw [hc,eF ax,eF ax,Ho (ck Y) (ck X) (by omega) (by omega) (by omega) (by omega) (Nat.le_of_lt hlt)]
      simp only [j9,cW,cX,cY,dg]
      rw [bp hd,show (((0:Nat):Int))=0 from rfl,h1]
      exact bC (gd (gd (aw (aY (aT hd) (gd (gd (aw rfl)))))))
    · have hz:x+y=sg (nS x) (X-Y)*((2^m:Nat):Int):=by
        rw [hxy,←Ml (by omega)]
      obtain ⟨a,b,c⟩:=sum hz (fun p q=>by rw [zx p,zy q];cases nS x<;>rfl)
      have hd:nl (X-Y)≤nl X:=md (Nat.sub_le _ _)
      obtain ⟨N,h1,h2,h3⟩:=wW (nS x) (v:=X-Y) (ck _) (by omega) (by omega) (e:=ep) (by omega)
      rw [a,b,c]
      have hc:decide (nr X Y<0)=false:=by
        rw [decide_eq_false_iff_not];unfold nr;rw [if_neg hlt];split<;>omega
      refine ⟨N,bj (ab t9 (ab t10 (ab t11 (ab t12 (ab (a:=()) (gW hc rfl) (ab (a:=(0,aH (X-Y) (nl X),0,nl (X-Y))) ?_ (ab (a:=(0,nS (sg (nS x) (X-Y)),aH (nM (sg (nS x) (X-Y))) N,0,nl (nM (sg (nS x) (X-Y))),nE (sg (nS x) (X-Y)) ep)) ?_ rfl))))))),h2,h3⟩
      · show (p8 _ _ _ _).run=_
        unfold p8
        rw [eF ax,eF ax,Ho (ck X) (ck Y) (by omega) (by omega) (by omega) (by omega) (by omega)]
        exact gd (gd (aw rfl))
      · show (p9 _ _ _ _ _ _ _ _ _ _).run=_
        unfold p9
        rw [bp hd,show (((0:Nat):Int))=0 from rfl,h1]
        exact aY (aT hd) (gd (gd (aw rfl)))
theorem De{x y e:Int}(hx:Sm x e)(hy:Sm y e) :
    ∃ N,cE (nS x) (aH (nM x) (nl (nM x))) (nE x e) (nS y) (aH (nM y) (nl (nM y))) (nE y e)=some (.r0 0 (nS (x-y)) (aH (nM (x-y)) N) 0 (nl (nM (x-y))) (nE (x-y) e))∧nl (nM (x-y))≤N∧N≤4096:=by
  obtain ⟨N,h1,h2,h3⟩:=K8 (x:=x) (y:=-y) (e:=e) (s:=nS x) (t:=!(nS y)) (fun _=>rfl) (fun h=>by
    unfold nS;rw [←decide_not];congr 1;exact propext (by omega)) hx hy.n
  rw [Oa,Ob,←Int.sub_eq_add_neg] at h1
  rw [←Int.sub_eq_add_neg] at h2
  refine ⟨N,bj (ab (a:=(0,nS (x-y),aH (nM (x-y)) N,0,nl (nM (x-y)),nE (x-y) e)) ?_ rfl),h2,h3⟩
  unfold xU
  rw [aN,aN,h1]
  exact bx (bx (aw rfl))
end Go.Plb.Seat
