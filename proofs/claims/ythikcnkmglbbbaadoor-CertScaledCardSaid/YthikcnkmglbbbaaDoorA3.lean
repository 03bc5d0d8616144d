/-
  Part 3 of what the claim leans on: an evaluator of the model, proved sound; the contracts of the functions.
-/
import Derived.Test.YthikcnkmglbbbaaDoorA2
namespace Go.Plb.Seat
open Go Go.Plb
set_option linter.unusedVariables false
set_option maxRecDepth 100000
noncomputable section
inductive bR where
  | r0 (a:Int)
def t0:bR→AE×aF
  | .r0 a=>(.ret,⟨ah 14 [(2,.int .i64 a)],[],0⟩)
def iD:bR→iK
  | .r0 a=>⟨.int .i64 a,[]⟩
def kT(a:Int) :T ((Empty)⊕(bR)) :=
  .ask (a==(0:Int))
    (.leaf (.inr (.r0 (64:Int))))
    (.need (decide ((0:Int)≤(58:Int)))<|.need (gA (Int.fdiv (IntKind.u64.wrap ((dp .and .u64 a (IntKind.u64.wrap ((0:Int)-a)))*(285870213051353865:Int))) (2^(min (Int.toNat (58:Int)) (IntKind.u64.bits)))) 64)<|.need (gM (im (im 0 (KM (Int.toNat (Int.fdiv (IntKind.u64.wrap ((dp .and .u64 a (IntKind.u64.wrap ((0:Int)-a)))*(285870213051353865:Int))) (2^(min (Int.toNat (58:Int)) (IntKind.u64.bits))))) 1)) 0) (List.length aQ))<|.leaf (.inr (.r0 (IntKind.i64.wrap (List.getD aQ (im (im 0 (KM (Int.toNat (Int.fdiv (IntKind.u64.wrap ((dp .and .u64 a (IntKind.u64.wrap ((0:Int)-a)))*(285870213051353865:Int))) (2^(min (Int.toNat (58:Int)) (IntKind.u64.bits))))) 1)) 0) 0)))))
def cV(a:Int) :Option bR:=lw ((kT a).run)
theorem sX(a:Int){x:bR}(h:cV a=some x) :aj prog lE [] [.int .u64 a] (iD x) :=
  lM false iD t0 h (bo adV _ [⟨[],[],[2]⟩,⟨[],[],[2]⟩])
    (fun x=>by cases x with | r0 b=>exact lz [.int .i64 b])
def dq:Option bR→Bool
  | some _=>true
  | none=>false
def da:Option bR→Int
  | some (.r0 x)=>x
  | _=>0
theorem sY{x:Option bR}(h:dq x=true) :x=some (.r0 (da x)):=by
  unfold dq at h
  split at h<;>first | rfl | (cases h;done) | (rename_i y;cases y;rfl)
def lH:aE:=bT lE (.cons (.int .u64) .nil) fun t=>(fun q=>[⟨iD (.r0 (da q)),[dq q]⟩]) (cV t.1)
theorem rm:aM prog lH:=aJ fun t=>(aK (fun h=>sX t.1 (sY h)) bb)
def lI:List aE:=lH::L3
theorem gN:bc prog (bh lI):=ap rm adV
inductive dg where
  | r0 (a:Int) (b:Int)
def v8:dg→AE×aF
  | .r0 a b=>(.ret,⟨ah 51 [(4,.int .u64 a),(5,.int .u64 b)],[],0⟩)
theorem Ek:j8 v8:=by intro x;cases x<;>(intro h;cases h)
def pZ:dg→iK
  | .r0 a b=>⟨.tup [.int .u64 a,.int .u64 b],[]⟩
def El(a:Int)(b:Int) :Int×Int×Int×Int→aF:=fun (c,d,e,f)=>⟨ah 51 [(0,.int .u64 a),(1,.int .u64 b),(6,.int .u64 c),(7,.int .u64 d),(9,.int .u64 e),(11,.int .u64 f)],[],0⟩
def uR(a:Int)(b:Int) :T ((Int×Int×Int×Int)⊕(dg)) :=
  .need (decide ((0:Int)≤(32:Int)))<|.need (decide ((0:Int)≤(32:Int)))<|.need (decide ((0:Int)≤(32:Int)))<|.leaf (.inl ((dp .and .u64 a (4294967295:Int)),(Int.fdiv a (2^(min (Int.toNat (32:Int)) (IntKind.u64.bits)))),(Int.fdiv b (2^(min (Int.toNat (32:Int)) (IntKind.u64.bits)))),(IntKind.u64.wrap ((IntKind.u64.wrap ((Int.fdiv a (2^(min (Int.toNat (32:Int)) (IntKind.u64.bits))))*(dp .and .u64 b (4294967295:Int))))+(Int.fdiv (IntKind.u64.wrap ((dp .and .u64 a (4294967295:Int))*(dp .and .u64 b (4294967295:Int)))) (2^(min (Int.toNat (32:Int)) (IntKind.u64.bits))))))))
def o7(c:Int)(d:Int)(e:Int)(f:Int)(a:Int)(b:Int) :T ((Empty)⊕(dg)) :=
  .need (decide ((0:Int)≤(32:Int)))<|.need (decide ((0:Int)≤(32:Int)))<|.leaf (.inr (.r0 (IntKind.u64.wrap ((IntKind.u64.wrap ((IntKind.u64.wrap (f*a))+(Int.fdiv b (2^(min (Int.toNat (32:Int)) (IntKind.u64.bits))))))+(Int.fdiv (IntKind.u64.wrap ((dp .and .u64 b (4294967295:Int))+(IntKind.u64.wrap (e*a)))) (2^(min (Int.toNat (32:Int)) (IntKind.u64.bits)))))) (IntKind.u64.wrap (c*d))))
def eA(a:Int)(b:Int) :Option dg:=lw (aC ((uR a b).run) fun (c,d,e,f) =>
  (o7 a b c d e f).run)
theorem Em(a:Int)(b:Int){x:dg}(h:eA a b=some x) :aj prog vX [] [.int .u64 a,.int .u64 b] (pZ x) :=
  lM false pZ v8 h (Sg.cut 7 Ek (bo gN (El a b) [⟨[],[],[0,1,6,7,9,11]⟩]) (fun ⟨e,f,g,i⟩=>bo gN _ [⟨[],[],[4,5]⟩]))
    (fun x=>by cases x with | r0 c d=>exact lz [.int .u64 c,.int .u64 d])
def i6:Option dg→Bool
  | some _=>true
  | none=>false
def ju:Option dg→Int
  | some (.r0 x _)=>x
  | _=>0
def fu:Option dg→Int
  | some (.r0 _ x)=>x
  | _=>0
theorem En{x:Option dg}(h:i6 x=true) :x=some (.r0 (ju x) (fu x)):=by
  unfold i6 at h
  split at h<;>first | rfl | (cases h;done) | (rename_i y;cases y;rfl)
def v9:aE:=bT vX (.cons (.int .u64) (.cons (.int .u64) .nil)) fun t=>(fun q=>[⟨pZ (.r0 (ju q) (fu q)),[i6 q]⟩]) (eA t.1 t.2.1)
theorem AR:aM prog v9:=aJ fun t=>(aK (fun h=>Em t.1 t.2.1 (En h)) bb)
def wa:List aE:=v9::lI
theorem hH:bc prog (bh wa):=ap AR gN
inductive gO where
  | r0 (a:List Int) (b:Nat)
def yI(a:Lv) :gO→AE×aF
  | .r0 b c=>(.ret,⟨ah 21 [(2,.imm a (.ns .u64 b) 1 1 0 c)],[],0⟩)
theorem wb{a:Lv} :j8 (yI a):=by intro x;cases x<;>(intro h;cases h)
theorem Vf{a:Lv}(id:Nat) :mz id (yI a):=by intro x;cases x<;>(intro h;cases h)
def Eo(a:Lv) :gO→iK
  | .r0 b c=>⟨.imm a (.ns .u64 b) 1 1 0 c,[]⟩
def Vg:List Code:=cY (mU o0)
def Vh(b:Lv)(a:List Int)(_:Unit) :aF:=⟨ah 21 [(0,.imm b (.ns .u64 a) 1 1 0 (List.length a))],[],0⟩
def Vi:T ((Unit)⊕(gO)) :=
  .leaf (.inl ())
def AS(a:Lv)(b:List Int)(c:Nat) :aF:=⟨ah 21 [(0,.imm a (.ns .u64 b) 1 1 0 c)],[],0⟩
def IS(a:Lv)(b:List Int)(c:Nat) :aF:=⟨ah 21 [(0,.imm a (.ns .u64 b) 1 1 0 c)],[],0⟩
def Sk:List Code:=cY (d7 ((((Vg.drop 1).take 1)).headD .skip))
def Vj(a:Lv)(b:List Int)(c:Nat)(d:Bool) :aF:=⟨ah 21 [(0,.imm a (.ns .u64 b) 1 1 0 c),(14,.bool false d)],[],0⟩
def p5(b:List Int)(a:Nat) :T ((Bool)⊕((Nat)⊕(gO))) :=
  .ask (decide (((a:Nat):Int)>(0:Int)))
    (.need (dI .i64 (((a:Nat):Int)-(1:Int)))<|.need (gA (((a:Nat):Int)-(1:Int)) a)<|.need (gM (Int.toNat (((a:Nat):Int)-(1:Int))) (List.length b))<|.leaf (.inl ((List.getD b (Int.toNat (((a:Nat):Int)-(1:Int))) 0)==(0:Int))))
    (.leaf (.inl false))
def FX(a:Nat)(b:Bool) :T ((Nat)⊕((Nat)⊕(gO))) :=
  .ask b
    (.need (dI .i64 (((a:Nat):Int)-(1:Int)))<|.need (CV (((a:Nat):Int)-(1:Int)) a)<|.need (CV (0:Int) (Int.toNat (((a:Nat):Int)-(1:Int))))<|.leaf (.inl (Int.toNat (((a:Nat):Int)-(1:Int)))))
    (.leaf (.inr (.inl a)))
def yJ(b:List Int) :Nat→Option ((Nat)⊕((Nat)⊕(gO))):=fun a =>
  aC ((p5 b a).run) fun c =>
  (FX a c).run
theorem Sl(a:Lv)(b:List Int)(c:Nat) :Sg prog [] Sk (AS a b c) (yJ b c) (AS a b) (dH 0 (IS a b) (yI a)):=by
  unfold yJ;exact Sg.cut 1 (bz wb) (bo hH (Vj a b c) [⟨[],[],[0,14]⟩,⟨[],[],[0,14]⟩]) (fun d=>bo hH _ [⟨[],[],[0]⟩,⟨[],[],[0]⟩])
def Sn(a:List Int)(b:Nat) :T ((Empty)⊕(gO)) :=
  .leaf (.inr (.r0 a b))
def au(a:List Int) :Option gO:=lw (aC ((Vi).run) fun _ =>
  aC (df (yJ a) (List.length a)) fun b =>
  (Sn a b).run)
theorem Vk(a:Lv)(b:List Int){x:gO}(h:au b=some x) :aj prog o0 [] [.imm a (.ns .u64 b) 1 1 0 (List.length b)] (Eo a x) :=
  lM false (Eo a) (yI a) h (Sg.cut 1 wb (bo hH (Vh a b) [⟨[],[],[0]⟩]) (fun _=>Sg.cut 1 wb (Ej ⟨[],[],[0]⟩ (AS a b) (IS a b) 0 wb (Vf _) (fun c=>Sl a b c)) (fun f=>bo hH _ [⟨[],[],[2]⟩])))
    (fun x=>by cases x with | r0 d e=>exact lz [.imm a (.ns .u64 d) 1 1 0 e])
def bM:Option gO→Bool
  | some _=>true
  | none=>false
def aG:Option gO→List Int
  | some (.r0 x _)=>x
  | _=>[]
def aA:Option gO→Nat
  | some (.r0 _ x)=>x
  | _=>0
theorem Vl{x:Option gO}(h:bM x=true) :x=some (.r0 (aG x) (aA x)):=by
  unfold bM at h
  split at h<;>first | rfl | (cases h;done) | (rename_i y;cases y;rfl)
def LK:aE:=bT o0 (.cons (.ns .u64) .nil) fun t=>(fun q=>[⟨Eo t.1.1 (.r0 (aG q) (aA q)),[bM q]⟩]) (au t.1.2)
theorem Ol:aM prog LK:=aJ fun t=>(aK (fun h=>Vk t.1.1 t.1.2 (Vl h)) bb)
def LL:List aE:=LK::wa
theorem wI:bc prog (bh LL):=ap Ol hH
inductive i7 where
  | r0 (a:Nat) (b:Nat) (c:List Int)
def LM:i7→AE×aF
  | .r0 a b c=>(.ret,⟨ah 12 [(2,.sl 0 1 1 0 a a),(3,.int .i64 ((b:Nat):Int))],[(0,.ns .u64 c)],1⟩)
theorem Vm:j8 LM:=by intro x;cases x<;>(intro h;cases h)
def Ep:i7→iK
  | .r0 a b c=>⟨.tup [.imm .free (.ns .u64 c) 1 1 0 a,.int .i64 ((b:Nat):Int)],[]⟩
def Vn(a:Lv) :Nat×(List Int)×Nat→aF:=fun (b,c,d)=>⟨ah 12 [(1,.ptr 0 1 0 0),(4,.int .i64 ((b:Nat):Int))],[(0,.vs [.imm a (.ns .u64 c) 1 1 0 d])],1⟩
def AT(a:List Int) :T ((Nat×(List Int)×Nat)⊕(i7)) :=
  .ask (decide ((0:Int)<(1:Int)))
    (.need (gA (0:Int) 1)<|.need (aP 0 (List.length a) a)<|.need (bM (au (aa 0 (List.length a) a)))<|.ask (decide ((((aA (au (aa 0 (List.length a) a))):Nat):Int)>(4096:Int)))
      (.leaf (.inl (2,(aG (au (aa 0 (List.length a) a))),(aA (au (aa 0 (List.length a) a))))))
      (.need (dI .i64 (1:Int))<|.ask (decide ((1:Int)<(1:Int)))
        (.fail)
        (.leaf (.inl (0,(aG (au (aa 0 (List.length a) a))),(aA (au (aa 0 (List.length a) a))))))))
    (.fail)
def AU(c:Nat)(a:List Int)(b:Nat) :T ((Empty)⊕(i7)) :=
  .ask (((c:Nat):Int) != (0:Int))
    (.leaf (.inr (.r0 0 c ([]:List Int))))
    (.need (aP 0 b a)<|.need (sG (List.length (aa 0 b a)))<|.leaf (.inr (.r0 (List.length (aa 0 b a)) 0 (aa 0 b a))))
def lW(a:List Int) :Option i7:=lw (aC ((AT a).run) fun (b,c,d) =>
  (AU b c d).run)
theorem Vo(b:Lv)(a:List Int){x:i7}(h:lW a=some x) :aj prog Eb [] [.imm b (.ns .u64 a) 1 1 0 (List.length a)] (Ep x) :=
  lM true Ep LM h (Sg.cut 2 Vm (bo wI (Vn b) [⟨[],[0],[1,4]⟩,⟨[],[0],[1,4]⟩]) (fun ⟨e,f,g⟩=>bo wI _ [⟨[(.slot 2,.own 1 1 (.ns .u64 ([]:List Int)))],[81],[2,3]⟩,⟨[],[49],[2,3]⟩]))
    (fun x=>by cases x with | r0 c d i=>exact lz [.sl 0 1 1 0 c c,.int .i64 ((d:Nat):Int)])
def sH:Option i7→Bool
  | some _=>true
  | none=>false
def wJ:Option i7→Nat
  | some (.r0 x _ _)=>x
  | _=>0
def wK:Option i7→Nat
  | some (.r0 _ x _)=>x
  | _=>0
def wL:Option i7→List Int
  | some (.r0 _ _ x)=>x
  | _=>[]
theorem Vp{x:Option i7}(h:sH x=true) :x=some (.r0 (wJ x) (wK x) (wL x)):=by
  unfold sH at h
  split at h<;>first | rfl | (cases h;done) | (rename_i y;cases y;rfl)
def LN:aE:=bT Eb (.cons (.ns .u64) .nil) fun t=>(fun q=>[⟨Ep (.r0 (wJ q) (wK q) (wL q)),[sH q]⟩]) (lW t.1.2)
theorem Om:aM prog LN:=aJ fun t=>(aK (fun h=>Vo t.1.1 t.1.2 (Vp h)) bb)
def LO:List aE:=LN::LL
theorem np:bc prog (bh LO):=ap Om wI
inductive cQ where
  | r0 (a:Nat) (b:Nat) (c:Nat) (d:List Int)
def rW:cQ→AE×aF
  | .r0 a b c d=>(.ret,⟨ah 21 [(2,.sl 0 1 1 a b c)],[(0,.ns .u64 d)],1⟩)
theorem p6:j8 rW:=by intro x;cases x<;>(intro h;cases h)
theorem LP(id:Nat) :mz id rW:=by intro x;cases x<;>(intro h;cases h)
def wM:cQ→iK
  | .r0 a b c d=>⟨.sl 0 1 1 a b c,[some (.ns .u64 d)]⟩
def LQ:List Code:=cY (mU o0)
def LR(a:List Int)(b:Nat)(c:Nat)(d:Nat)(_:Unit) :aF:=⟨ah 21 [(0,.sl 0 1 1 b c d)],[(0,.ns .u64 a)],1⟩
def LS:T ((Unit)⊕(cQ)) :=
  .leaf (.inl ())
def uS(a:List Int)(b:Nat) :Nat×Nat→aF:=fun (c,d)=>⟨ah 21 [(0,.sl 0 1 1 c d b)],[(0,.ns .u64 a)],1⟩
def AW(a:List Int)(b:Nat) :Nat×Nat→aF:=fun (c,d)=>⟨ah 21 [(0,.sl 0 1 1 c d b)],[(0,.ns .u64 a)],1⟩
def JN:List Code:=cY (d7 ((((LQ.drop 1).take 1)).headD .skip))
def LT(a:List Int)(b:Nat)(c:Nat)(d:Nat)(e:Bool) :aF:=⟨ah 21 [(0,.sl 0 1 1 c d b),(14,.bool false e)],[(0,.ns .u64 a)],1⟩
def kU(b:List Int)(c:Nat)(a:Nat) :T ((Bool)⊕((Nat×Nat)⊕(cQ))) :=
  .ask (decide (((a:Nat):Int)>(0:Int)))
    (.need (dI .i64 (((a:Nat):Int)-(1:Int)))<|.need (gA (((a:Nat):Int)-(1:Int)) a)<|.need (gM (im c (Int.toNat (((a:Nat):Int)-(1:Int)))) (List.length b))<|.leaf (.inl ((List.getD b (im c (Int.toNat (((a:Nat):Int)-(1:Int)))) 0)==(0:Int))))
    (.leaf (.inl false))
def z7(c:Nat)(b:Nat)(a:Nat)(d:Bool) :T ((Nat×Nat)⊕((Nat×Nat)⊕(cQ))) :=
  .ask d
    (.need (dI .i64 (((a:Nat):Int)-(1:Int)))<|.need (CV (((a:Nat):Int)-(1:Int)) c)<|.need (CV (0:Int) (Int.toNat (((a:Nat):Int)-(1:Int))))<|.leaf (.inl ((im b 0),(Int.toNat (((a:Nat):Int)-(1:Int))))))
    (.leaf (.inr (.inl (b,a))))
def sZ(c:List Int)(d:Nat) :Nat×Nat→Option ((Nat×Nat)⊕((Nat×Nat)⊕(cQ))):=fun (a,b) =>
  aC ((kU c a b).run) fun e =>
  (z7 d a b e).run
theorem JO(a:List Int)(b:Nat)(c:Nat)(d:Nat) :Sg prog [.ns .u64 a] JN (uS a b (c,d)) (sZ a b (c,d)) (uS a b) (dH 0 (AW a b) rW):=by
  unfold sZ;exact Sg.cut 1 (bz p6) (bo np (LT a b c d) [⟨[],[0],[0,14]⟩,⟨[],[0],[0,14]⟩]) (fun e=>bo np _ [⟨[],[0],[0]⟩,⟨[],[0],[0]⟩])
def JP(a:List Int)(b:Nat)(c:Nat)(d:Nat) :T ((Empty)⊕(cQ)) :=
  .leaf (.inr (.r0 c d b a))
def bi(a:List Int)(c:Nat)(d:Nat)(b:Nat) :Option cQ:=lw (aC ((LS).run) fun _ =>
  aC (df (sZ a b) (c,d)) fun (e,f) =>
  (JP a b e f).run)
theorem LU(a:List Int)(c:Nat)(d:Nat)(b:Nat){x:cQ}(h:bi a c d b=some x) :aj prog o0 [.ns .u64 a] [.sl 0 1 1 c d b] (wM x) :=
  lM false wM rW h (Sg.cut 1 p6 (bo np (LR a c d b) [⟨[],[0],[0]⟩]) (fun _=>Sg.cut 1 p6 (Ej ⟨[],[0],[0]⟩ (uS a b) (AW a b) 0 p6 (LP _) (fun ⟨e,f⟩=>JO a b e f)) (fun ⟨k,l⟩=>bo np _ [⟨[],[0],[2]⟩])))
    (fun x=>by cases x with | r0 g i j m=>exact lz [.sl 0 1 1 g i j])
def hJ:Option cQ→Bool
  | some _=>true
  | none=>false
def gP:Option cQ→Nat
  | some (.r0 x _ _ _)=>x
  | _=>0
def gQ:Option cQ→Nat
  | some (.r0 _ x _ _)=>x
  | _=>0
def gS:Option cQ→Nat
  | some (.r0 _ _ x _)=>x
  | _=>0
def gT:Option cQ→List Int
  | some (.r0 _ _ _ x)=>x
  | _=>[]
theorem LV{x:Option cQ}(h:hJ x=true) :x=some (.r0 (gP x) (gQ x) (gS x) (gT x)):=by
  unfold hJ at h
  split at h<;>first | rfl | (cases h;done) | (rename_i y;cases y;rfl)
def C8:aE:=UO o0 [.ns .u64] (.cons (.lsl 0) .nil) fun x t=>(fun q=>[⟨wM (.r0 (gP q) (gQ q) (gS q) (gT q)),[hJ q]⟩]) (bi x.1 t.1.1 t.1.2.1 t.1.2.2)
theorem HY:aM prog C8:=Ls fun x t=>(Cf (fun h=>LU x.1 t.1.1 t.1.2.1 t.1.2.2 (LV h)) Lt)
def C9:List aE:=C8::LO
theorem rn:bc prog (bh C9):=ap HY np
inductive kV where
  | r0 (a:Nat) (b:Nat) (c:Nat) (d:List Int)
def Vq:kV→AE×aF
  | .r0 a b c d=>(.ret,⟨ah 6 [(2,.sl 0 1 1 a b c)],[(0,.ns .u64 d)],1⟩)
theorem aba:j8 Vq:=by intro x;cases x<;>(intro h;cases h)
def LW:kV→iK
  | .r0 a b d c=>⟨.imm .free (.ns .u64 c) 1 1 a b,[]⟩
def abb:Nat×Nat×Nat×(List Int)→aF:=fun (a,b,c,d)=>⟨ah 6 [(2,.sl 0 1 1 a b c)],[(0,.ns .u64 d)],1⟩
def QV(a:Int) :T ((Nat×Nat×Nat×(List Int))⊕(kV)) :=
  .need (hJ (bi [a] 0 1 1))<|.leaf (.inl ((gP (bi [a] 0 1 1)),(gQ (bi [a] 0 1 1)),(gS (bi [a] 0 1 1)),(gT (bi [a] 0 1 1))))
def abc(a:Nat)(b:Nat)(c:Nat)(d:List Int) :T ((Empty)⊕(kV)) :=
  .leaf (.inr (.r0 a b c d))
def bt(a:Int) :Option kV:=lw (aC ((QV a).run) fun (b,c,d,e) =>
  (abc b c d e).run)
theorem abd(a:Int){x:kV}(h:bt a=some x) :aj prog Lu [] [.int .u64 a] (LW x) :=
  lM true LW Vq h (Sg.cut 2 aba (bo rn abb [⟨[],[32],[2]⟩]) (fun ⟨e,f,g,i⟩=>bo rn _ [⟨[],[0],[2]⟩]))
    (fun x=>by cases x with | r0 b c d j=>exact lz [.sl 0 1 1 b c d])
def rp:Option kV→Bool
  | some _=>true
  | none=>false
def cZ:Option kV→Nat
  | some (.r0 x _ _ _)=>x
  | _=>0
def c5:Option kV→Nat
  | some (.r0 _ x _ _)=>x
  | _=>0
def IT:Option kV→Nat
  | some (.r0 _ _ x _)=>x
  | _=>0
def c6:Option kV→List Int
  | some (.r0 _ _ _ x)=>x
  | _=>[]
theorem abe{x:Option kV}(h:rp x=true) :x=some (.r0 (cZ x) (c5 x) (IT x) (c6 x)):=by
  unfold rp at h
  split at h<;>first | rfl | (cases h;done) | (rename_i y;cases y;rfl)
def Vr:aE:=bT Lu (.cons (.int .u64) .nil) fun t=>(fun q=>[⟨LW (.r0 (cZ q) (c5 q) (IT q) (c6 q)),[rp q]⟩]) (bt t.1)
theorem Vs:aM prog Vr:=aJ fun t=>(aK (fun h=>abd t.1 (abe h)) bb)
def Vt:List aE:=Vr::C9
theorem wc:bc prog (bh Vt):=ap Vs rn
inductive ka where
  | r0 (a:Int)
def Cr:ka→AE×aF
  | .r0 a=>(.ret,⟨ah 45 [(4,.int .i64 a)],[],0⟩)
theorem Eq:j8 Cr:=by intro x;cases x<;>(intro h;cases h)
theorem Yn(id:Nat) :mz id Cr:=by intro x;cases x<;>(intro h;cases h)
def HZ:ka→iK
  | .r0 a=>⟨.int .i64 a,[]⟩
def Yo:List Code:=cY (mU HQ)
def Yp(c:Lv)(a:List Int)(d:Lv)(b:List Int)(e:Int) :aF:=⟨ah 45 [(0,.imm c (.ns .u64 a) 1 1 0 (List.length a)),(1,.imm d (.ns .u64 b) 1 1 0 (List.length b)),(5,.int .i64 e)],[],0⟩
def yK(a:List Int)(b:List Int) :T ((Int)⊕(ka)) :=
  .ask (decide ((((List.length a):Nat):Int)<(((List.length b):Nat):Int)))
    (.leaf (.inr (.r0 (-1:Int))))
    (.ask (decide ((((List.length a):Nat):Int)>(((List.length b):Nat):Int)))
      (.leaf (.inr (.r0 (1:Int))))
      (.need (dI .i64 ((((List.length a):Nat):Int)-(1:Int)))<|.leaf (.inl ((((List.length a):Nat):Int)-(1:Int)))))
def Er(c:Lv)(a:List Int)(d:Lv)(b:List Int)(e:Int) :aF:=⟨ah 45 [(0,.imm c (.ns .u64 a) 1 1 0 (List.length a)),(1,.imm d (.ns .u64 b) 1 1 0 (List.length b)),(5,.int .i64 e)],[],0⟩
def LX(_:Unit) :aF:=⟨ah 45 [],[],0⟩
def Yq:List Code:=cY (d7 ((((Yo.drop 3).take 1)).headD .skip))
def uT(b:List Int)(c:List Int)(a:Int) :T ((Int)⊕((Unit)⊕(ka))) :=
  .ask (decide (a≥(0:Int)))
    (.need (gA a (List.length b))<|.need (gM (Int.toNat a) (List.length b))<|.need (gA a (List.length c))<|.need (gM (Int.toNat a) (List.length c))<|.ask (decide ((List.getD b (Int.toNat a) 0)<(List.getD c (Int.toNat a) 0)))
      (.leaf (.inr (.inr (.r0 (-1:Int)))))
      (.need (gA a (List.length b))<|.need (gM (Int.toNat a) (List.length b))<|.need (gA a (List.length c))<|.need (gM (Int.toNat a) (List.length c))<|.ask (decide ((List.getD b (Int.toNat a) 0)>(List.getD c (Int.toNat a) 0)))
        (.leaf (.inr (.inr (.r0 (1:Int)))))
        (.need (dI .i64 (a-(1:Int)))<|.leaf (.inl (a-(1:Int))))))
    (.leaf (.inr (.inl ())))
def wd(a:List Int)(b:List Int) :Int→Option ((Int)⊕((Unit)⊕(ka))):=fun c =>
  (uT a b c).run
theorem Vu(c:Lv)(a:List Int)(d:Lv)(b:List Int)(e:Int) :Sg prog [] Yq (Er c a d b e) (wd a b e) (Er c a d b) (dH 1 LX Cr):=by
  unfold wd;exact bo wc _ [⟨[],[],[4]⟩,⟨[],[],[4]⟩,⟨[],[],[0,1,5]⟩,⟨[],[],[]⟩]
def Vv:T ((Empty)⊕(ka)) :=
  .leaf (.inr (.r0 (0:Int)))
def rq(a:List Int)(b:List Int) :Option ka:=lw (aC ((yK a b).run) fun c =>
  aC (df (wd a b) c) fun _ =>
  (Vv).run)
theorem Yr(c:Lv)(a:List Int)(d:Lv)(b:List Int){x:ka}(h:rq a b=some x) :aj prog HQ [] [.imm c (.ns .u64 a) 1 1 0 (List.length a),.imm d (.ns .u64 b) 1 1 0 (List.length b)] (HZ x) :=
  lM false HZ Cr h (Sg.cut 3 Eq (bo wc (Yp c a d b) [⟨[],[],[4]⟩,⟨[],[],[4]⟩,⟨[],[],[0,1,5]⟩]) (fun g=>Sg.cut 1 Eq (Ej ⟨[],[],[0,1,5]⟩ (Er c a d b) (LX) 1 Eq (Yn _) (fun e=>Vu c a d b e)) (fun _=>bo wc _ [⟨[],[],[4]⟩])))
    (fun x=>by cases x with | r0 f=>exact lz [.int .i64 f])
def uU:Option ka→Bool
  | some _=>true
  | none=>false
def ua:Option ka→Int
  | some (.r0 x)=>x
  | _=>0
theorem Ys{x:Option ka}(h:uU x=true) :x=some (.r0 (ua x)):=by
  unfold uU at h
  split at h<;>first | rfl | (cases h;done) | (rename_i y;cases y;rfl)
def QW:aE:=bT HQ (.cons (.ns .u64) (.cons (.ns .u64) .nil)) fun t=>(fun q=>[⟨HZ (.r0 (ua q)),[uU q]⟩]) (rq t.1.2 t.2.1.2)
theorem So:aM prog QW:=aJ fun t=>(aK (fun h=>Yr t.1.1 t.1.2 t.2.1.1 t.2.1.2 (Ys h)) bb)
def QX:List aE:=QW::Vt
theorem ub:bc prog (bh QX):=ap So wc
inductive kd where
  | r0 (a:Int) (b:Nat)
def QY:kd→AE×aF
  | .r0 a b=>(.ret,⟨ah 15 [(4,.int .i64 a),(5,.int .i64 ((b:Nat):Int))],[],0⟩)
theorem LY:j8 QY:=by intro x;cases x<;>(intro h;cases h)
def H0:kd→iK
  | .r0 a b=>⟨.tup [.int .i64 a,.int .i64 ((b:Nat):Int)],[]⟩
def Yt(a:Lv)(b:Lv) :Nat×(List Int)×Nat×(List Int)×Nat→aF:=fun (c,d,e,f,g)=>⟨ah 15 [(2,.ptr 0 1 0 0),(3,.ptr 1 1 0 0),(6,.int .i64 ((c:Nat):Int))],[(0,.vs [.imm a (.ns .u64 d) 1 1 0 e]),(1,.vs [.imm b (.ns .u64 f) 1 1 0 g])],2⟩
def LZ(a : List Int)(b : List Int) : T ((Nat × (List Int) × Nat × (List Int) × Nat) ⊕ (kd)) :=
  .ask (decide ((0:Int)<(2:Int)))
    (.need (gA (0:Int) 2)<|.need (aP 0 (List.length a) a)<|.need (bM (au (aa 0 (List.length a) a)))<|.ask (decide ((((aA (au (aa 0 (List.length a) a))):Nat):Int)>(4096:Int)))
      (.leaf (.inl (2,(aG (au (aa 0 (List.length a) a))),(aA (au (aa 0 (List.length a) a))),b,(List.length b))))
      (.need (dI .i64 (1:Int))<|.ask (decide ((1:Int)<(2:Int)))
        (.need (gA (1:Int) 2)<|.need (aP 0 (List.length b) b)<|.need (bM (au (aa 0 (List.length b) b)))<|.ask (decide ((((aA (au (aa 0 (List.length b) b))):Nat):Int)>(4096:Int)))
          (.leaf (.inl (2,(aG (au (aa 0 (List.length a) a))),(aA (au (aa 0 (List.length a) a))),(aG (au (aa 0 (List.length b) b))),(aA (au (aa 0 (List.length b) b))))))
          (.need (dI .i64 (2:Int))<|.ask (decide ((2:Int)<(2:Int)))
            (.fail)
            (.leaf (.inl (0,(aG (au (aa 0 (List.length a) a))),(aA (au (aa 0 (List.length a) a))),(aG (au (aa 0 (List.length b) b))),(aA (au (aa 0 (List.length b) b))))))))
        (.fail)))
    (.fail)
def Yu(a:Int) :aF:=⟨ah 15 [(4,.int .i64 a),(5,.int .i64 (0:Int))],[],0⟩
def L0(e:Nat)(a:List Int)(b:Nat)(c:List Int)(d:Nat) :T ((Int)⊕(kd)) :=
  .ask (((e:Nat):Int) != (0:Int))
    (.leaf (.inr (.r0 (0:Int) e)))
    (.need (aP 0 b a)<|.need (aP 0 d c)<|.need (uU (rq (aa 0 b a) (aa 0 d c)))<|.leaf (.inl (ua (rq (aa 0 b a) (aa 0 d c)))))
def Yv(a:Int) :T ((Empty)⊕(kd)) :=
  .leaf (.inr (.r0 a 0))
def rr(a:List Int)(b:List Int) :Option kd:=lw (aC ((LZ a b).run) fun (c,d,e,f,g) =>
  aC ((L0 c d e f g).run) fun h =>
  (Yv h).run)
theorem Yw(c:Lv)(a:List Int)(d:Lv)(b:List Int){x:kd}(h:rr a b=some x) :aj prog HN [] [.imm c (.ns .u64 a) 1 1 0 (List.length a),.imm d (.ns .u64 b) 1 1 0 (List.length b)] (H0 x) :=
  lM true H0 QY h (Sg.cut 2 LY (bo ub (Yt c d) [⟨[],[0,16],[2,3,6]⟩,⟨[],[0,16],[2,3,6]⟩,⟨[],[0,16],[2,3,6]⟩]) (fun ⟨g,i,j,k,l⟩=>Sg.cut 3 LY (bo ub Yu [⟨[],[],[4,5]⟩,⟨[],[],[4,5]⟩]) (fun m=>bo ub _ [⟨[],[],[4,5]⟩])))
    (fun x=>by cases x with | r0 e f=>exact lz [.int .i64 e,.int .i64 ((f:Nat):Int)])
def uV:Option kd→Bool
  | some _=>true
  | none=>false
def uc:Option kd→Int
  | some (.r0 x _)=>x
  | _=>0
def FY:Option kd→Nat
  | some (.r0 _ x)=>x
  | _=>0
theorem Yx{x:Option kd}(h:uV x=true) :x=some (.r0 (uc x) (FY x)):=by
  unfold uV at h
  split at h<;>first | rfl | (cases h;done) | (rename_i y;cases y;rfl)
def QZ:aE:=bT HN (.cons (.ns .u64) (.cons (.ns .u64) .nil)) fun t=>(fun q=>[⟨H0 (.r0 (uc q) (FY q)),[uV q]⟩]) (rr t.1.2 t.2.1.2)
theorem Sp:aM prog QZ:=aJ fun t=>(aK (fun h=>Yw t.1.1 t.1.2 t.2.1.1 t.2.1.2 (Yx h)) bb)
def Q0:List aE:=QZ::QX
theorem yL:bc prog (bh Q0):=ap Sp ub
inductive fi where
  | r0 (a:List Int)
  | r1 (b:Nat) (c:Nat) (d:Nat) (e:List Int)
def L4:fi→AE×aF
  | .r0 a=>(.ret,⟨ah 10 [(2,.nsl),(3,.int .i64 (3:Int))],[(0,.ns .u64 a)],1⟩)
  | .r1 b c d e=>(.ret,⟨ah 10 [(2,.sl 0 1 1 b c d),(3,.int .i64 (0:Int))],[(0,.ns .u64 e)],1⟩)
theorem Vw:j8 L4:=by intro x;cases x<;>(intro h;cases h)
def yM:fi→iK
  | .r0 a=>⟨.tup [.nsl,.int .i64 (3:Int)],[some (.ns .u64 a)]⟩
  | .r1 b c d e=>⟨.tup [.sl 0 1 1 b c d,.int .i64 (0:Int)],[some (.ns .u64 e)]⟩
def Vx:Nat×Nat×Nat×(List Int)→aF:=fun (a,b,c,d)=>⟨ah 10 [(0,.sl 0 1 1 a b c)],[(0,.ns .u64 d)],1⟩
def IU(a:List Int)(b:Nat)(c:Nat)(d:Nat) :T ((Nat×Nat×Nat×(List Int))⊕(fi)) :=
  .need (hJ (bi a b c d))<|.leaf (.inl ((gP (bi a b c d)),(gQ (bi a b c d)),(gS (bi a b c d)),(gT (bi a b c d))))
def Vy(c:Nat)(a:Nat)(d:Nat)(b:List Int) :T ((Empty)⊕(fi)) :=
  .ask (decide (((a:Nat):Int)>(4096:Int)))
    (.leaf (.inr (.r0 b)))
    (.leaf (.inr (.r1 c a d b)))
def fj(a:List Int)(b:Nat)(c:Nat)(d:Nat) :Option fi:=lw (aC ((IU a b c d).run) fun (e,f,g,h) =>
  (Vy e f g h).run)
theorem IV(a:List Int)(b:Nat)(c:Nat)(d:Nat){x:fi}(h:fj a b c d=some x) :aj prog uN [.ns .u64 a] [.sl 0 1 1 b c d] (yM x) :=
  lM false yM L4 h (Sg.cut 2 Vw (bo yL Vx [⟨[],[0],[0]⟩]) (fun ⟨i,j,k,l⟩=>bo yL _ [⟨[],[0],[2,3]⟩,⟨[],[0],[2,3]⟩]))
    (fun x=>by cases x with | r0 m=>exact lz [.nsl,.int .i64 (3:Int)] | r1 e f g n=>exact lz [.sl 0 1 1 e f g,.int .i64 (0:Int)])
def sI:Option fi→Bool
  | some (.r0 _)=>true
  | _=>false
def Da:Option fi→List Int
  | some (.r0 x)=>x
  | _=>[]
theorem Vz{x:Option fi}(h:sI x=true) :x=some (.r0 (Da x)):=by
  unfold sI at h
  split at h<;>first | rfl | (cases h;done) | (rename_i y;cases y;rfl)
def sJ:Option fi→Bool
  | some (.r1 _ _ _ _)=>true
  | _=>false
def rX:Option fi→Nat
  | some (.r1 x _ _ _)=>x
  | _=>0
def rY:Option fi→Nat
  | some (.r1 _ x _ _)=>x
  | _=>0
def rZ:Option fi→Nat
  | some (.r1 _ _ x _)=>x
  | _=>0
def r5:Option fi→List Int
  | some (.r1 _ _ _ x)=>x
  | _=>[]
theorem VA{x:Option fi}(h:sJ x=true) :x=some (.r1 (rX x) (rY x) (rZ x) (r5 x)):=by
  unfold sJ at h
  split at h<;>first | rfl | (cases h;done) | (rename_i y;cases y;rfl)
def L5:aE:=UO uN [.ns .u64] (.cons (.lsl 0) .nil) fun x t=>(fun q=>[⟨yM (.r0 (Da q)),[sI q]⟩,⟨yM (.r1 (rX q) (rY q) (rZ q) (r5 q)),[sJ q]⟩]) (fj x.1 t.1.1 t.1.2.1 t.1.2.2)
theorem On:aM prog L5:=Ls fun x t=>(Cf (fun h=>IV x.1 t.1.1 t.1.2.1 t.1.2.2 (Vz h)) (Cf (fun h=>IV x.1 t.1.1 t.1.2.1 t.1.2.2 (VA h)) Lt))
def L6:List aE:=L5::Q0
theorem iL:bc prog (bh L6):=ap On yL
inductive dV where
  | r0 (a:Nat) (b:Nat) (c:Nat) (d:Nat) (e:List Int)
def Cs:dV→AE×aF
  | .r0 a b c d e=>(.ret,⟨ah 62 [(4,.sl 0 1 1 a b c),(5,.int .i64 ((d:Nat):Int))],[(0,.ns .u64 e)],1⟩)
theorem o8:j8 Cs:=by intro x;cases x<;>(intro h;cases h)
theorem Yy(id:Nat) :mz id Cs:=by intro x;cases x<;>(intro h;cases h)
def H2:dV→iK
  | .r0 a b e c d=>⟨.tup [.imm .free (.ns .u64 d) 1 1 a b,.int .i64 ((c:Nat):Int)],[]⟩
def VB:List Code:=cY (mU Ch)
def Yz(a:Lv)(b:Lv) :Nat×(List Int)×Nat×(List Int)×Nat→aF:=fun (c,d,e,f,g)=>⟨ah 62 [(2,.ptr 0 1 0 0),(3,.ptr 1 1 0 0),(6,.int .i64 ((c:Nat):Int))],[(0,.vs [.imm a (.ns .u64 d) 1 1 0 e]),(1,.vs [.imm b (.ns .u64 f) 1 1 0 g])],2⟩
def IW(a : List Int)(b : List Int) : T ((Nat × (List Int) × Nat × (List Int) × Nat) ⊕ (dV)) :=
  .ask (decide ((0:Int)<(2:Int)))
    (.need (gA (0:Int) 2)<|.need (aP 0 (List.length a) a)<|.need (bM (au (aa 0 (List.length a) a)))<|.ask (decide ((((aA (au (aa 0 (List.length a) a))):Nat):Int)>(4096:Int)))
      (.leaf (.inl (2,(aG (au (aa 0 (List.length a) a))),(aA (au (aa 0 (List.length a) a))),b,(List.length b))))
      (.need (dI .i64 (1:Int))<|.ask (decide ((1:Int)<(2:Int)))
        (.need (gA (1:Int) 2)<|.need (aP 0 (List.length b) b)<|.need (bM (au (aa 0 (List.length b) b)))<|.ask (decide ((((aA (au (aa 0 (List.length b) b))):Nat):Int)>(4096:Int)))
          (.leaf (.inl (2,(aG (au (aa 0 (List.length a) a))),(aA (au (aa 0 (List.length a) a))),(aG (au (aa 0 (List.length b) b))),(aA (au (aa 0 (List.length b) b))))))
          (.need (dI .i64 (2:Int))<|.ask (decide ((2:Int)<(2:Int)))
            (.fail)
            (.leaf (.inl (0,(aG (au (aa 0 (List.length a) a))),(aA (au (aa 0 (List.length a) a))),(aG (au (aa 0 (List.length b) b))),(aA (au (aa 0 (List.length b) b))))))))
        (.fail)))
    (.fail)
def YA:(List Int)×Nat×(List Int)×Nat→aF:=fun (a,b,c,d)=>⟨ah 62 [(2,.ptr 0 1 0 0),(3,.ptr 1 1 0 0)],[(0,.vs [.imm .lent (.ns .u64 a) 1 1 0 b]),(1,.vs [.imm .lent (.ns .u64 c) 1 1 0 d])],2⟩
def VC(c:Nat)(d:List Int)(a:Nat)(e:List Int)(b:Nat) :T (((List Int)×Nat×(List Int)×Nat)⊕(dV)) :=
  .ask (((c:Nat):Int) != (0:Int))
    (.leaf (.inr (.r0 0 0 0 c ([]:List Int))))
    (.ask (decide (((a:Nat):Int)<((b:Nat):Int)))
      (.leaf (.inl (e,b,d,a)))
      (.leaf (.inl (d,a,e,b))))
def YB(c:List Int)(a:Nat)(d:List Int)(e:Nat) :Nat×(List Int)→aF:=fun (b,f)=>⟨ah 62 [(2,.ptr 0 1 0 0),(3,.ptr 1 1 0 0),(7,.ptr 2 1 0 0),(8,.fn (.func vW) [] [.ptr 2 1 0 0]),(9,.sl 3 1 1 0 b b),(30,.int .i64 ((a:Nat):Int)),(31,.int .i64 (0:Int))],[(0,.vs [.imm .lent (.ns .u64 c) 1 1 0 a]),(1,.vs [.imm .lent (.ns .u64 d) 1 1 0 e]),(2,.vs [.int .u64 (0:Int)]),(3,.ns .u64 f)],4⟩
def AX(a:Nat) :T ((Nat×(List Int))⊕(dV)) :=
  .need (dI .i64 (((a+1):Nat):Int))<|.need (decide ((0:Int)≤(((a+1):Nat):Int)))<|.need (decide ((((a+1):Nat):Int)≤(((a+1):Nat):Int)))<|.need (decide ((8:Int)*(((a+1):Nat):Int)≤140737488355328))<|.need (dI .i64 (((a+1):Nat):Int))<|.leaf (.inl ((a+1),(List.replicate (a+1) (0:Int))))
def Es(c:List Int)(a:Nat)(d:List Int)(e:Nat)(b:Nat) :Nat×Nat×(List Int)→aF:=fun (f,g,h)=>⟨ah 62 [(2,.ptr 0 1 0 0),(3,.ptr 1 1 0 0),(7,.ptr 2 1 0 0),(8,.fn (.func vW) [] [.ptr 2 1 0 0]),(9,.sl 3 1 1 0 b b),(30,.int .i64 ((a:Nat):Int)),(31,.int .i64 ((f:Nat):Int))],[(0,.vs [.imm .lent (.ns .u64 c) 1 1 0 a]),(1,.vs [.imm .lent (.ns .u64 d) 1 1 0 e]),(2,.vs [.int .u64 ((g:Nat):Int)]),(3,.ns .u64 h)],4⟩
def L7(b:List Int)(c:Nat)(a:Nat) :Nat×(List Int)→aF:=fun (d,e)=>⟨ah 62 [(2,.ptr 0 1 0 0),(7,.ptr 1 1 0 0),(9,.sl 2 1 1 0 a a)],[(0,.vs [.imm .lent (.ns .u64 b) 1 1 0 c]),(1,.vs [.int .u64 ((d:Nat):Int)]),(2,.ns .u64 e)],3⟩
def VD:List Code:=cY (d7 ((((((VB.drop 2).drop 4).drop 4).take 1)).headD .skip))
def YC(c:List Int)(a:Nat)(d:List Int)(e:Nat)(b:Nat)(f:Nat) :Nat×(List Int)→aF:=fun (g,h)=>⟨ah 62 [(2,.ptr 0 1 0 0),(3,.ptr 1 1 0 0),(7,.ptr 2 1 0 0),(8,.fn (.func vW) [] [.ptr 2 1 0 0]),(9,.sl 3 1 1 0 b b),(30,.int .i64 ((a:Nat):Int)),(31,.int .i64 ((f:Nat):Int))],[(0,.vs [.imm .lent (.ns .u64 c) 1 1 0 a]),(1,.vs [.imm .lent (.ns .u64 d) 1 1 0 e]),(2,.vs [.int .u64 ((g:Nat):Int)]),(3,.ns .u64 h)],4⟩
def AY(c:List Int)(e:Nat)(f:List Int)(g:Nat)(h:Nat)(a:Nat)(b:Nat)(d:List Int) :T ((Nat×(List Int))⊕((Nat×(List Int))⊕(dV))) :=
  .ask (decide (((a:Nat):Int)<((e:Nat):Int)))
    (.ask (decide (((a:Nat):Int)<((g:Nat):Int)))
      (.need (gA ((a:Nat):Int) g)<|.need (gM a (List.length f))<|.need (gA ((a:Nat):Int) e)<|.need (gM a (List.length c))<|.need (qG b 1)<|.need (gA ((a:Nat):Int) h)<|.need (gM a (List.length d))<|.leaf (.inl ((((Int.toNat (List.getD c a 0))+(Int.toNat (List.getD f a 0))+b)/18446744073709551616),(List.set d a (((((Int.toNat (List.getD c a 0))+(Int.toNat (List.getD f a 0))+b)%18446744073709551616):Nat):Int)))))
      (.need (gA ((a:Nat):Int) e)<|.need (gM a (List.length c))<|.need (qG b 1)<|.need (gA ((a:Nat):Int) h)<|.need (gM a (List.length d))<|.leaf (.inl ((((Int.toNat (List.getD c a 0))+0+b)/18446744073709551616),(List.set d a (((((Int.toNat (List.getD c a 0))+0+b)%18446744073709551616):Nat):Int))))))
    (.leaf (.inr (.inl (b,d))))
def VE(a:Nat)(b:Nat)(c:List Int) :T ((Nat×Nat×(List Int))⊕((Nat×(List Int))⊕(dV))) :=
  .need (dI .i64 (((a+1):Nat):Int))<|.leaf (.inl ((a+1),b,c))
def sK(b:List Int)(c:Nat)(d:List Int)(e:Nat)(f:Nat) :Nat×Nat×(List Int)→Option ((Nat×Nat×(List Int))⊕((Nat×(List Int))⊕(dV))):=fun (a,g,h) =>
  aC ((AY b c d e f a g h).run) fun (i,j) =>
  (VE a i j).run
theorem VF(a:List Int)(b:Nat)(d:List Int)(e:Nat)(c:Nat)(f:Nat)(g:Nat)(h:List Int) :Sg prog [] VD (Es a b d e c (f,g,h)) (sK a b d e c (f,g,h)) (Es a b d e c) (dH 0 (L7 a b c) Cs):=by
  unfold sK;exact Sg.cut 3 (bz o8) (bo iL (YC a b d e c f) [⟨[],[0,1,2,3],[2,3,7,8,9,30,31]⟩,⟨[],[0,1,2,3],[2,3,7,8,9,30,31]⟩,⟨[],[0,2,3],[2,7,9]⟩]) (fun ⟨i,j⟩=>bo iL _ [⟨[],[0,1,2,3],[2,3,7,8,9,30,31]⟩])
def VG:Nat×Nat×Nat×Nat×(List Int)→aF:=fun (a,b,c,d,e)=>⟨ah 62 [(4,.sl 0 1 1 a b c),(5,.int .i64 ((d:Nat):Int))],[(0,.ns .u64 e)],1⟩
def AZ(b:Nat)(a:Nat)(d:Nat)(c:List Int) :T ((Nat×Nat×Nat×Nat×(List Int))⊕(dV)) :=
  .need (gA ((b:Nat):Int) a)<|.need (gM b (List.length c))<|.alt 0
    (.need (sI (fj (List.set c b ((d:Nat):Int)) 0 a a))<|.leaf (.inl (0,0,0,3,([]:List Int))))
    (.alt 1
      (.need (sJ (fj (List.set c b ((d:Nat):Int)) 0 a a))<|.leaf (.inl ((rX (fj (List.set c b ((d:Nat):Int)) 0 a a)),(rY (fj (List.set c b ((d:Nat):Int)) 0 a a)),(rZ (fj (List.set c b ((d:Nat):Int)) 0 a a)),0,(r5 (fj (List.set c b ((d:Nat):Int)) 0 a a)))))
      (.fail))
def IX(a:Nat)(b:Nat)(c:Nat)(d:Nat)(e:List Int) :T ((Empty)⊕(dV)) :=
  .leaf (.inr (.r0 a b c d e))
def bD(c:List Int)(d:List Int) :Option dV:=lw (aC ((IW c d).run) fun (e,f,g,h,i) =>
  aC ((VC e f g h i).run) fun (j,a,k,l) =>
  aC ((AX a).run) fun (b,m) =>
  aC (df (sK j a k l b) (0,0,m)) fun (n,o) =>
  aC ((AZ a b n o).run) fun (p,q,r,s,t) =>
  (IX p q r s t).run)
theorem YD(i:Lv)(c:List Int)(j:Lv)(d:List Int){x:dV}(h:bD c d=some x) :aj prog Ch [] [.imm i (.ns .u64 c) 1 1 0 (List.length c),.imm j (.ns .u64 d) 1 1 0 (List.length d)] (H2 x) :=
  lM true H2 Cs h (Sg.cut 2 o8 (bo iL (Yz i j) [⟨[],[0,16],[2,3,6]⟩,⟨[],[0,16],[2,3,6]⟩,⟨[],[0,16],[2,3,6]⟩]) (fun ⟨r,s,t,u,v⟩=>Sg.cut 4 o8 (bo iL YA [⟨[(.slot 4,.own 1 1 (.ns .u64 ([]:List Int)))],[82],[4,5]⟩,⟨[(.cell 0 0,.low),(.cell 1 0,.low)],[0,1],[2,3]⟩,⟨[(.cell 0 0,.low),(.cell 1 0,.low)],[0,1],[2,3]⟩]) (fun ⟨a,b,e,f⟩=>Sg.cut 4 o8 (bo iL (YB a b e f) [⟨[],[0,1,2,114],[2,3,7,8,9,30,31]⟩]) (fun ⟨g,w⟩=>Sg.cut 1 o8 (Ej ⟨[],[0,1,2,3],[2,3,7,8,9,30,31]⟩ (Es a b e f g) (L7 a b g) 0 o8 (Yy _) (fun ⟨k,l,m⟩=>VF a b e f g k l m)) (fun ⟨y,z⟩=>Sg.cut 2 o8 (bo iL VG [⟨[(.slot 4,.own 1 1 (.ns .u64 ([]:List Int)))],[195],[4,5]⟩,⟨[],[2],[4,5]⟩]) (fun ⟨A,B,C,D,E⟩=>bo iL _ [⟨[],[0],[4,5]⟩]))))))
    (fun x=>by cases x with | r0 n o p q F=>exact lz [.sl 0 1 1 n o p,.int .i64 ((q:Nat):Int)])
def uW:Option dV→Bool
  | some _=>true
  | none=>false
def fO:Option dV→Nat
  | some (.r0 x _ _ _ _)=>x
  | _=>0
def fP:Option dV→Nat
  | some (.r0 _ x _ _ _)=>x
  | _=>0
def FZ:Option dV→Nat
  | some (.r0 _ _ x _ _)=>x
  | _=>0
def g7:Option dV→Nat
  | some (.r0 _ _ _ x _)=>x
  | _=>0
def fQ:Option dV→List Int
  | some (.r0 _ _ _ _ x)=>x
  | _=>[]
theorem YE{x:Option dV}(h:uW x=true) :x=some (.r0 (fO x) (fP x) (FZ x) (g7 x) (fQ x)):=by
  unfold uW at h
  split at h<;>first | rfl | (cases h;done) | (rename_i y;cases y;rfl)
def Q2:aE:=bT Ch (.cons (.ns .u64) (.cons (.ns .u64) .nil)) fun t=>(fun q=>[⟨H2 (.r0 (fO q) (fP q) (FZ q) (g7 q) (fQ q)),[uW q]⟩]) (bD t.1.2 t.2.1.2)
theorem Sq:aM prog Q2:=aJ fun t=>(aK (fun h=>YD t.1.1 t.1.2 t.2.1.1 t.2.1.2 (YE h)) bb)
def Q3:List aE:=Q2::L6
theorem mG:bc prog (bh Q3):=ap Sq iL
inductive gp where
  | r0 (a:Nat) (b:Nat) (c:Nat) (d:List Int)
def Ct:gp→AE×aF
  | .r0 a b c d=>(.ret,⟨ah 40 [(4,.sl 0 1 1 a b c)],[(0,.ns .u64 d)],1⟩)
theorem uX:j8 Ct:=by intro x;cases x<;>(intro h;cases h)
theorem YF(id:Nat) :mz id Ct:=by intro x;cases x<;>(intro h;cases h)
def H3:gp→iK
  | .r0 a b d c=>⟨.imm .free (.ns .u64 c) 1 1 a b,[]⟩
def VH:List Code:=cY (mU Cj)
def YG(d:Lv)(a:List Int)(e:Lv)(b:List Int) :Nat×(List Int)→aF:=fun (c,f)=>⟨ah 40 [(0,.imm d (.ns .u64 a) 1 1 0 (List.length a)),(1,.imm e (.ns .u64 b) 1 1 0 (List.length b)),(5,.sl 0 1 1 0 c c),(6,.int .u64 (0:Int)),(12,.int .i64 (((List.length a):Nat):Int)),(13,.int .i64 (0:Int))],[(0,.ns .u64 f)],1⟩
def IY(a:List Int) :T ((Nat×(List Int))⊕(gp)) :=
  .need (aP 0 (List.length a) a)<|.need (sG (List.length (aa 0 (List.length a) a)))<|.leaf (.inl ((List.length (aa 0 (List.length a) a)),(aa 0 (List.length a) a)))
def Et(d:Lv)(a:List Int)(e:Lv)(b:List Int)(c:Nat) :Int×Nat×(List Int)→aF:=fun (f,g,h)=>⟨ah 40 [(0,.imm d (.ns .u64 a) 1 1 0 (List.length a)),(1,.imm e (.ns .u64 b) 1 1 0 (List.length b)),(5,.sl 0 1 1 0 c c),(6,.int .u64 f),(12,.int .i64 (((List.length a):Nat):Int)),(13,.int .i64 ((g:Nat):Int))],[(0,.ns .u64 h)],1⟩
def L8(a:Nat)(b:(List Int)) :aF:=⟨ah 40 [(5,.sl 0 1 1 0 a a)],[(0,.ns .u64 b)],1⟩
def VI:List Code:=cY (d7 ((((VH.drop 4).take 1)).headD .skip))
def YH(d:Lv)(a:List Int)(e:Lv)(b:List Int)(c:Nat)(f:Nat) :Int×(List Int)→aF:=fun (g,h)=>⟨ah 40 [(0,.imm d (.ns .u64 a) 1 1 0 (List.length a)),(1,.imm e (.ns .u64 b) 1 1 0 (List.length b)),(5,.sl 0 1 1 0 c c),(6,.int .u64 g),(12,.int .i64 (((List.length a):Nat):Int)),(13,.int .i64 ((f:Nat):Int))],[(0,.ns .u64 h)],1⟩
def A0(b:List Int)(d:List Int)(f:Nat)(c:Int)(a:Nat)(e:List Int) :T ((Int×(List Int))⊕(((List Int))⊕(gp))) :=
  .ask (decide (((a:Nat):Int)<(((List.length b):Nat):Int)))
    (.ask (decide (((a:Nat):Int)<(((List.length d):Nat):Int)))
      (.need (gA ((a:Nat):Int) (List.length d))<|.need (gM a (List.length d))<|.need (gA ((a:Nat):Int) (List.length b))<|.need (gM a (List.length b))<|.need (qG (Int.toNat c) 1)<|.need (gA ((a:Nat):Int) f)<|.need (gM a (List.length e))<|.leaf (.inl ((bif Nat.blt (Int.toNat (List.getD b a 0)) ((Int.toNat (List.getD d a 0))+(Int.toNat c)) then (1:Int) else (0:Int)),(List.set e a (((((Int.toNat (List.getD b a 0))+18446744073709551616-(Int.toNat (List.getD d a 0))-(Int.toNat c))%18446744073709551616):Nat):Int)))))
      (.need (gA ((a:Nat):Int) (List.length b))<|.need (gM a (List.length b))<|.need (qG (Int.toNat c) 1)<|.need (gA ((a:Nat):Int) f)<|.need (gM a (List.length e))<|.leaf (.inl ((bif Nat.blt (Int.toNat (List.getD b a 0)) (0+(Int.toNat c)) then (1:Int) else (0:Int)),(List.set e a (((((Int.toNat (List.getD b a 0))+18446744073709551616-0-(Int.toNat c))%18446744073709551616):Nat):Int))))))
    (.leaf (.inr (.inl e)))
def VJ(a:Nat)(b:Int)(c:List Int) :T ((Int×Nat×(List Int))⊕(((List Int))⊕(gp))) :=
  .need (dI .i64 (((a+1):Nat):Int))<|.leaf (.inl (b,(a+1),c))
def A1(b:List Int)(c:List Int)(d:Nat) :Int×Nat×(List Int)→Option ((Int×Nat×(List Int))⊕(((List Int))⊕(gp))):=fun (e,a,f) =>
  aC ((A0 b c d e a f).run) fun (g,h) =>
  (VJ a g h).run
theorem VK(d:Lv)(b:List Int)(e:Lv)(c:List Int)(a:Nat)(g:Int)(f:Nat)(h:List Int) :Sg prog [] VI (Et d b e c a (g,f,h)) (A1 b c a (g,f,h)) (Et d b e c a) (dH 0 (L8 a) Ct):=by
  unfold A1;exact Sg.cut 3 (bz uX) (bo mG (YH d b e c a f) [⟨[],[0],[0,1,5,6,12,13]⟩,⟨[],[0],[0,1,5,6,12,13]⟩,⟨[],[0],[5]⟩]) (fun ⟨i,j⟩=>bo mG _ [⟨[],[0],[0,1,5,6,12,13]⟩])
def VL:Nat×Nat×Nat×(List Int)→aF:=fun (a,b,c,d)=>⟨ah 40 [(4,.sl 0 1 1 a b c)],[(0,.ns .u64 d)],1⟩
def IZ(a:Nat)(b:List Int) :T ((Nat×Nat×Nat×(List Int))⊕(gp)) :=
  .need (hJ (bi b 0 a a))<|.leaf (.inl ((gP (bi b 0 a a)),(gQ (bi b 0 a a)),(gS (bi b 0 a a)),(gT (bi b 0 a a))))
def VM(a:Nat)(b:Nat)(c:Nat)(d:List Int) :T ((Empty)⊕(gp)) :=
  .leaf (.inr (.r0 a b c d))
def rt(a:List Int)(c:List Int) :Option gp:=lw (aC ((IY a).run) fun (b,d) =>
  aC (df (A1 a c b) ((0:Int),0,d)) fun e =>
  aC ((IZ b e).run) fun (f,g,h,i) =>
  (VM f g h i).run)
theorem YI(c:Lv)(a:List Int)(d:Lv)(b:List Int){x:gp}(h:rt a b=some x) :aj prog Cj [] [.imm c (.ns .u64 a) 1 1 0 (List.length a),.imm d (.ns .u64 b) 1 1 0 (List.length b)] (H3 x) :=
  lM true H3 Ct h (Sg.cut 4 uX (bo mG (YG c a d b) [⟨[],[32],[0,1,5,6,12,13]⟩]) (fun ⟨e,m⟩=>Sg.cut 1 uX (Ej ⟨[],[0],[0,1,5,6,12,13]⟩ (Et c a d b e) (L8 e) 0 uX (YF _) (fun ⟨f,g,i⟩=>VK c a d b e f g i)) (fun n=>Sg.cut 1 uX (bo mG VL [⟨[],[0],[4]⟩]) (fun ⟨o,p,q,r⟩=>bo mG _ [⟨[],[0],[4]⟩]))))
    (fun x=>by cases x with | r0 j k l s=>exact lz [.sl 0 1 1 j k l])
def yN:Option gp→Bool
  | some _=>true
  | none=>false
def yO:Option gp→Nat
  | some (.r0 x _ _ _)=>x
  | _=>0
def yP:Option gp→Nat
  | some (.r0 _ x _ _)=>x
  | _=>0
def F0:Option gp→Nat
  | some (.r0 _ _ x _)=>x
  | _=>0
def yQ:Option gp→List Int
  | some (.r0 _ _ _ x)=>x
  | _=>[]
theorem YJ{x:Option gp}(h:yN x=true) :x=some (.r0 (yO x) (yP x) (F0 x) (yQ x)):=by
  unfold yN at h
  split at h<;>first | rfl | (cases h;done) | (rename_i y;cases y;rfl)
def Q4:aE:=bT Cj (.cons (.ns .u64) (.cons (.ns .u64) .nil)) fun t=>(fun q=>[⟨H3 (.r0 (yO q) (yP q) (F0 q) (yQ q)),[yN q]⟩]) (rt t.1.2 t.2.1.2)
theorem Sr:aM prog Q4:=aJ fun t=>(aK (fun h=>YI t.1.1 t.1.2 t.2.1.1 t.2.1.2 (YJ h)) bb)
def Q5:List aE:=Q4::Q3
theorem p7:bc prog (bh Q5):=ap Sr mG
inductive iq where
  | r0 (a:List Int) (b:Nat) (c:Nat) (d:Nat)
def Q6:iq→AE×aF
  | .r0 a b c d=>(.ret,⟨ah 20 [(4,.imm .free (.ns .u64 a) 1 1 b c),(5,.int .i64 ((d:Nat):Int))],[],0⟩)
theorem Eu:j8 Q6:=by intro x;cases x<;>(intro h;cases h)
def H4:iq→iK
  | .r0 a b c d=>⟨.tup [.imm .free (.ns .u64 a) 1 1 b c,.int .i64 ((d:Nat):Int)],[]⟩
def YK(a:Lv)(b:Lv) :Nat×(List Int)×Nat×(List Int)×Nat→aF:=fun (c,d,e,f,g)=>⟨ah 20 [(2,.ptr 0 1 0 0),(3,.ptr 1 1 0 0),(6,.int .i64 ((c:Nat):Int))],[(0,.vs [.imm a (.ns .u64 d) 1 1 0 e]),(1,.vs [.imm b (.ns .u64 f) 1 1 0 g])],2⟩
def L9(a : List Int)(b : List Int) : T ((Nat × (List Int) × Nat × (List Int) × Nat) ⊕ (iq)) :=
  .ask (decide ((0:Int)<(2:Int)))
    (.need (gA (0:Int) 2)<|.need (aP 0 (List.length a) a)<|.need (bM (au (aa 0 (List.length a) a)))<|.ask (decide ((((aA (au (aa 0 (List.length a) a))):Nat):Int)>(4096:Int)))
      (.leaf (.inl (2,(aG (au (aa 0 (List.length a) a))),(aA (au (aa 0 (List.length a) a))),b,(List.length b))))
      (.need (dI .i64 (1:Int))<|.ask (decide ((1:Int)<(2:Int)))
        (.need (gA (1:Int) 2)<|.need (aP 0 (List.length b) b)<|.need (bM (au (aa 0 (List.length b) b)))<|.ask (decide ((((aA (au (aa 0 (List.length b) b))):Nat):Int)>(4096:Int)))
          (.leaf (.inl (2,(aG (au (aa 0 (List.length a) a))),(aA (au (aa 0 (List.length a) a))),(aG (au (aa 0 (List.length b) b))),(aA (au (aa 0 (List.length b) b))))))
          (.need (dI .i64 (2:Int))<|.ask (decide ((2:Int)<(2:Int)))
            (.fail)
            (.leaf (.inl (0,(aG (au (aa 0 (List.length a) a))),(aA (au (aa 0 (List.length a) a))),(aG (au (aa 0 (List.length b) b))),(aA (au (aa 0 (List.length b) b))))))))
        (.fail)))
    (.fail)
def YL(a:Lv)(b:Lv)(c:List Int)(d:Nat)(e:List Int)(f:Nat)(g:Bool) :aF:=⟨ah 20 [(2,.ptr 0 1 0 0),(3,.ptr 1 1 0 0),(16,.bool false g)],[(0,.vs [.imm a (.ns .u64 c) 1 1 0 d]),(1,.vs [.imm b (.ns .u64 e) 1 1 0 f])],2⟩
def Ma(e:Nat)(a:List Int)(b:Nat)(c:List Int)(d:Nat) :T ((Bool)⊕(iq)) :=
  .ask (((e:Nat):Int) != (0:Int))
    (.leaf (.inl true))
    (.need (aP 0 b a)<|.need (aP 0 d c)<|.need (uU (rq (aa 0 b a) (aa 0 d c)))<|.leaf (.inl (decide ((ua (rq (aa 0 b a) (aa 0 d c)))<(0:Int)))))
def YM:(List Int)×Nat×Nat→aF:=fun (a,b,c)=>⟨ah 20 [(4,.imm .free (.ns .u64 a) 1 1 b c),(5,.int .i64 (0:Int))],[],0⟩
def Mb(a:List Int)(b:Nat)(c:List Int)(d:Nat)(e:Bool) :T (((List Int)×Nat×Nat)⊕(iq)) :=
  .ask e
    (.leaf (.inr (.r0 ([]:List Int) 0 0 2)))
    (.need (aP 0 b a)<|.need (aP 0 d c)<|.need (yN (rt (aa 0 b a) (aa 0 d c)))<|.leaf (.inl ((yQ (rt (aa 0 b a) (aa 0 d c))),(yO (rt (aa 0 b a) (aa 0 d c))),(yP (rt (aa 0 b a) (aa 0 d c))))))
def YN(a:List Int)(b:Nat)(c:Nat) :T ((Empty)⊕(iq)) :=
  .leaf (.inr (.r0 a b c 0))
def bu(e:List Int)(f:List Int) :Option iq:=lw (aC ((L9 e f).run) fun (g,a,b,c,d) =>
  aC ((Ma g a b c d).run) fun h =>
  aC ((Mb a b c d h).run) fun (i,j,k) =>
  (YN i j k).run)
theorem YO(a:Lv)(b:List Int)(c:Lv)(d:List Int){x:iq}(h:bu b d=some x) :aj prog HO [] [.imm a (.ns .u64 b) 1 1 0 (List.length b),.imm c (.ns .u64 d) 1 1 0 (List.length d)] (H4 x) :=
  lM true H4 Q6 h (Sg.cut 2 Eu (bo p7 (YK a c) [⟨[],[0,16],[2,3,6]⟩,⟨[],[0,16],[2,3,6]⟩,⟨[],[0,16],[2,3,6]⟩]) (fun ⟨n,e,f,g,i⟩=>Sg.cut 1 Eu (bo p7 (YL a c e f g i) [⟨[],[0,1],[2,3,16]⟩,⟨[],[0,1],[2,3,16]⟩]) (fun o=>Sg.cut 2 Eu (bo p7 YM [⟨[(.slot 4,.fre 1 1 (.ns .u64 ([]:List Int)))],[],[4,5]⟩,⟨[],[],[4,5]⟩]) (fun ⟨p,q,r⟩=>bo p7 _ [⟨[],[],[4,5]⟩]))))
    (fun x=>by cases x with | r0 j k l m=>exact lz [.imm .free (.ns .u64 j) 1 1 k l,.int .i64 ((m:Nat):Int)])
def ru:Option iq→Bool
  | some _=>true
  | none=>false
def eV:Option iq→List Int
  | some (.r0 x _ _ _)=>x
  | _=>[]
def eX:Option iq→Nat
  | some (.r0 _ x _ _)=>x
  | _=>0
def eY:Option iq→Nat
  | some (.r0 _ _ x _)=>x
  | _=>0
def fR:Option iq→Nat
  | some (.r0 _ _ _ x)=>x
  | _=>0
theorem YP{x:Option iq}(h:ru x=true) :x=some (.r0 (eV x) (eX x) (eY x) (fR x)):=by
  unfold ru at h
  split at h<;>first | rfl | (cases h;done) | (rename_i y;cases y;rfl)
def Q7:aE:=bT HO (.cons (.ns .u64) (.cons (.ns .u64) .nil)) fun t=>(fun q=>[⟨H4 (.r0 (eV q) (eX q) (eY q) (fR q)),[ru q]⟩]) (bu t.1.2 t.2.1.2)
theorem Ss:aM prog Q7:=aJ fun t=>(aK (fun h=>YO t.1.1 t.1.2 t.2.1.1 t.2.1.2 (YP h)) bb)
def Q8:List aE:=Q7::Q5
theorem p8:bc prog (bh Q8):=ap Ss p7
inductive iU where
  | r0 (a:Int) (b:List Int)
def Cu:iU→AE×aF
  | .r0 a b=>(.ret,⟨ah 52 [(6,.int .u64 a)],[(0,.ns .u64 b)],1⟩)
theorem yR:j8 Cu:=by intro x;cases x<;>(intro h;cases h)
theorem YQ(id:Nat) :mz id Cu:=by intro x;cases x<;>(intro h;cases h)
def H5:iU→iK
  | .r0 a b=>⟨.int .u64 a,[some (.ns .u64 b)]⟩
def VN:List Code:=cY (mU Ci)
def YR(b:List Int)(c:Nat)(d:Nat)(e:Nat)(f:Lv)(a:List Int)(g:Int)(_:Unit) :aF:=⟨ah 52 [(0,.sl 0 1 1 c d e),(1,.imm f (.ns .u64 a) 1 1 0 (List.length a)),(2,.int .u64 g),(7,.int .u64 (0:Int)),(13,.int .i64 (((List.length a):Nat):Int)),(14,.int .i64 (0:Int))],[(0,.ns .u64 b)],1⟩
def VO:T ((Unit)⊕(iU)) :=
  .leaf (.inl ())
def Ev(b:Nat)(c:Nat)(d:Nat)(e:Lv)(a:List Int)(f:Int) :Int×Nat×(List Int)→aF:=fun (g,h,i)=>⟨ah 52 [(0,.sl 0 1 1 b c d),(1,.imm e (.ns .u64 a) 1 1 0 (List.length a)),(2,.int .u64 f),(7,.int .u64 g),(13,.int .i64 (((List.length a):Nat):Int)),(14,.int .i64 ((h:Nat):Int))],[(0,.ns .u64 i)],1⟩
def Mc:Int×(List Int)→aF:=fun (a,b)=>⟨ah 52 [(7,.int .u64 a)],[(0,.ns .u64 b)],1⟩
def VP:List Code:=cY (d7 ((((VN.drop 3).take 1)).headD .skip))
def YS(b:Nat)(c:Nat)(d:Nat)(e:Lv)(a:List Int)(f:Int)(g:Nat) :Int×(List Int)→aF:=fun (h,i)=>⟨ah 52 [(0,.sl 0 1 1 b c d),(1,.imm e (.ns .u64 a) 1 1 0 (List.length a)),(2,.int .u64 f),(7,.int .u64 h),(13,.int .i64 (((List.length a):Nat):Int)),(14,.int .i64 ((g:Nat):Int))],[(0,.ns .u64 i)],1⟩
def sL(d:Nat)(g:Nat)(b:List Int)(e:Int)(f:Int)(a:Nat)(c:List Int) :T ((Int×(List Int))⊕((Int×(List Int))⊕(iU))) :=
  .ask (decide (((a:Nat):Int)<(((List.length b):Nat):Int)))
    (.need (gA ((a:Nat):Int) (List.length b))<|.need (gM a (List.length b))<|.need (i6 (eA (List.getD b a 0) e))<|.need (qG 0 1)<|.need (gA ((a:Nat):Int) g)<|.need (gM (im d a) (List.length c))<|.need (qG 0 1)<|.need (gA ((a:Nat):Int) g)<|.need (gM (im d a) (List.length c))<|.leaf (.inl ((IntKind.u64.wrap ((IntKind.u64.wrap ((ju (eA (List.getD b a 0) e))+(((((Int.toNat (fu (eA (List.getD b a 0) e)))+(Int.toNat f)+0)/18446744073709551616):Nat):Int)))+(((((Int.toNat (List.getD c (im d a) 0))+(((Int.toNat (fu (eA (List.getD b a 0) e)))+(Int.toNat f)+0)%18446744073709551616)+0)/18446744073709551616):Nat):Int))),(List.set c (im d a) (((((Int.toNat (List.getD c (im d a) 0))+(((Int.toNat (fu (eA (List.getD b a 0) e)))+(Int.toNat f)+0)%18446744073709551616)+0)%18446744073709551616):Nat):Int)))))
    (.leaf (.inr (.inl (f,c))))
def VQ(a:Nat)(b:Int)(c:List Int) :T ((Int×Nat×(List Int))⊕((Int×(List Int))⊕(iU))) :=
  .need (dI .i64 (((a+1):Nat):Int))<|.leaf (.inl (b,(a+1),c))
def A2(b:Nat)(c:Nat)(d:List Int)(e:Int) :Int×Nat×(List Int)→Option ((Int×Nat×(List Int))⊕((Int×(List Int))⊕(iU))):=fun (f,a,g) =>
  aC ((sL b c d e f a g).run) fun (h,i) =>
  (VQ a h i).run
theorem VS(j:List Int)(a:Nat)(b:Nat)(e:Nat)(f:Lv)(c:List Int)(d:Int)(h:Int)(g:Nat)(i:List Int) :Sg prog [.ns .u64 j] VP (Ev a b e f c d (h,g,i)) (A2 a b c d (h,g,i)) (Ev a b e f c d) (dH 0 Mc Cu):=by
  unfold A2;exact Sg.cut 3 (bz yR) (bo p8 (YS a b e f c d g) [⟨[],[0],[0,1,2,7,13,14]⟩,⟨[],[0],[7]⟩]) (fun ⟨k,l⟩=>bo p8 _ [⟨[],[0],[0,1,2,7,13,14]⟩])
def VT(a:Int)(b:List Int) :T ((Empty)⊕(iU)) :=
  .leaf (.inr (.r0 a b))
def rv(a:List Int)(b:Nat)(c:Nat)(d:List Int)(e:Int) :Option iU:=lw (aC ((VO).run) fun _ =>
  aC (df (A2 b c d e) ((0:Int),0,a)) fun (f,g) =>
  (VT f g).run)
theorem YT(e:List Int)(b:Nat)(c:Nat)(f:Nat)(g:Lv)(a:List Int)(d:Int){x:iU}(h:rv e b c a d=some x) :aj prog Ci [.ns .u64 e] [.sl 0 1 1 b c f,.imm g (.ns .u64 a) 1 1 0 (List.length a),.int .u64 d] (H5 x) :=
  lM false H5 Cu h (Sg.cut 3 yR (bo p8 (YR e b c f g a d) [⟨[],[0],[0,1,2,7,13,14]⟩]) (fun _=>Sg.cut 1 yR (Ej ⟨[],[0],[0,1,2,7,13,14]⟩ (Ev b c f g a d) (Mc) 0 yR (YQ _) (fun ⟨i,j,k⟩=>VS e b c f g a d i j k)) (fun ⟨m,n⟩=>bo p8 _ [⟨[],[0],[6]⟩])))
    (fun x=>by cases x with | r0 l o=>exact lz [.int .u64 l])
def uY:Option iU→Bool
  | some _=>true
  | none=>false
def ud:Option iU→Int
  | some (.r0 x _)=>x
  | _=>0
def p9:Option iU→List Int
  | some (.r0 _ x)=>x
  | _=>[]
theorem YU{x:Option iU}(h:uY x=true) :x=some (.r0 (ud x) (p9 x)):=by
  unfold uY at h
  split at h<;>first | rfl | (cases h;done) | (rename_i y;cases y;rfl)
def Q9:aE:=UO Ci [.ns .u64] (.cons (.lsl 0) (.cons (.ns .u64) (.cons (.int .u64) .nil))) fun x t=>(fun q=>[⟨H5 (.r0 (ud q) (p9 q)),[uY q]⟩]) (rv x.1 t.1.1 t.1.2.1 t.2.1.2 t.2.2.1)
theorem St:aM prog Q9:=Ls fun x t=>(Cf (fun h=>YT x.1 t.1.1 t.1.2.1 t.1.2.2 t.2.1.1 t.2.1.2 t.2.2.1 (YU h)) Lt)
def Ra:List aE:=Q9::Q8
theorem jv:bc prog (bh Ra):=ap St p8
inductive dW where
  | r0 (a:Nat) (b:Nat) (c:Nat) (d:Nat) (e:List Int)
def Cv:dW→AE×aF
  | .r0 a b c d e=>(.ret,⟨ah 61 [(4,.sl 0 1 1 a b c),(5,.int .i64 ((d:Nat):Int))],[(0,.ns .u64 e)],1⟩)
theorem o9:j8 Cv:=by intro x;cases x<;>(intro h;cases h)
theorem YV(id:Nat) :mz id Cv:=by intro x;cases x<;>(intro h;cases h)
def H6:dW→iK
  | .r0 a b e c d=>⟨.tup [.imm .free (.ns .u64 d) 1 1 a b,.int .i64 ((c:Nat):Int)],[]⟩
def VU:List Code:=cY (mU Cg)
def YW(a:Lv)(b:Lv) :Nat×(List Int)×Nat×(List Int)×Nat→aF:=fun (c,d,e,f,g)=>⟨ah 61 [(2,.ptr 0 1 0 0),(3,.ptr 1 1 0 0),(6,.int .i64 ((c:Nat):Int))],[(0,.vs [.imm a (.ns .u64 d) 1 1 0 e]),(1,.vs [.imm b (.ns .u64 f) 1 1 0 g])],2⟩
def I0(a : List Int)(b : List Int) : T ((Nat × (List Int) × Nat × (List Int) × Nat) ⊕ (dW)) :=
  .ask (decide ((0:Int)<(2:Int)))
    (.need (gA (0:Int) 2)<|.need (aP 0 (List.length a) a)<|.need (bM (au (aa 0 (List.length a) a)))<|.ask (decide ((((aA (au (aa 0 (List.length a) a))):Nat):Int)>(4096:Int)))
      (.leaf (.inl (2,(aG (au (aa 0 (List.length a) a))),(aA (au (aa 0 (List.length a) a))),b,(List.length b))))
      (.need (dI .i64 (1:Int))<|.ask (decide ((1:Int)<(2:Int)))
        (.need (gA (1:Int) 2)<|.need (aP 0 (List.length b) b)<|.need (bM (au (aa 0 (List.length b) b)))<|.ask (decide ((((aA (au (aa 0 (List.length b) b))):Nat):Int)>(4096:Int)))
          (.leaf (.inl (2,(aG (au (aa 0 (List.length a) a))),(aA (au (aa 0 (List.length a) a))),(aG (au (aa 0 (List.length b) b))),(aA (au (aa 0 (List.length b) b))))))
          (.need (dI .i64 (2:Int))<|.ask (decide ((2:Int)<(2:Int)))
            (.fail)
            (.leaf (.inl (0,(aG (au (aa 0 (List.length a) a))),(aA (au (aa 0 (List.length a) a))),(aG (au (aa 0 (List.length b) b))),(aA (au (aa 0 (List.length b) b))))))))
        (.fail)))
    (.fail)
def YX(a:Lv)(b:Lv)(c:List Int)(d:Nat)(e:List Int)(f:Nat)(g:Bool) :aF:=⟨ah 61 [(2,.ptr 0 1 0 0),(3,.ptr 1 1 0 0),(29,.bool false g)],[(0,.vs [.imm a (.ns .u64 c) 1 1 0 d]),(1,.vs [.imm b (.ns .u64 e) 1 1 0 f])],2⟩
def VV(c:Nat)(a:Nat)(b:Nat) :T ((Bool)⊕(dW)) :=
  .ask (((c:Nat):Int) != (0:Int))
    (.leaf (.inr (.r0 0 0 0 c ([]:List Int))))
    (.need (dI .i64 (((a+b):Nat):Int))<|.ask (decide ((((a+b):Nat):Int)>(4097:Int)))
      (.ask (decide (((a:Nat):Int)>(0:Int)))
        (.leaf (.inl (decide (((b:Nat):Int)>(0:Int)))))
        (.leaf (.inl false)))
      (.leaf (.inl false)))
def YY(c:Lv)(d:Lv)(e:List Int)(f:Nat)(g:List Int)(a:Nat) :Nat×(List Int)→aF:=fun (b,h)=>⟨ah 61 [(2,.ptr 0 1 0 0),(3,.ptr 1 1 0 0),(7,.sl 2 1 1 0 b b),(37,.int .i64 ((a:Nat):Int)),(38,.int .i64 (0:Int))],[(0,.vs [.imm c (.ns .u64 e) 1 1 0 f]),(1,.vs [.imm d (.ns .u64 g) 1 1 0 a]),(2,.ns .u64 h)],3⟩
def I1(a:Nat)(b:Nat)(c:Bool) :T ((Nat×(List Int))⊕(dW)) :=
  .ask c
    (.leaf (.inr (.r0 0 0 0 3 ([]:List Int))))
    (.need (dI .i64 (((a+b):Nat):Int))<|.need (decide ((0:Int)≤(((a+b):Nat):Int)))<|.need (decide ((((a+b):Nat):Int)≤(((a+b):Nat):Int)))<|.need (decide ((8:Int)*(((a+b):Nat):Int)≤140737488355328))<|.need (dI .i64 (((a+b):Nat):Int))<|.leaf (.inl ((a+b),(List.replicate (a+b) (0:Int)))))
def Ew(c:Lv)(d:Lv)(e:List Int)(f:Nat)(g:List Int)(a:Nat)(b:Nat) :Nat×(List Int)→aF:=fun (h,i)=>⟨ah 61 [(2,.ptr 0 1 0 0),(3,.ptr 1 1 0 0),(7,.sl 2 1 1 0 b b),(37,.int .i64 ((a:Nat):Int)),(38,.int .i64 ((h:Nat):Int))],[(0,.vs [.imm c (.ns .u64 e) 1 1 0 f]),(1,.vs [.imm d (.ns .u64 g) 1 1 0 a]),(2,.ns .u64 i)],3⟩
def Md(a:Nat)(b:(List Int)) :aF:=⟨ah 61 [(7,.sl 0 1 1 0 a a)],[(0,.ns .u64 b)],1⟩
def VW:List Code:=cY (d7 ((((((VU.drop 2).drop 3).drop 3).take 1)).headD .skip))
def YZ(c:Lv)(d:Lv)(e:List Int)(f:Nat)(g:List Int)(a:Nat)(b:Nat)(h:Nat)(i:(List Int)) :aF:=⟨ah 61 [(2,.ptr 0 1 0 0),(3,.ptr 1 1 0 0),(7,.sl 2 1 1 0 b b),(37,.int .i64 ((a:Nat):Int)),(38,.int .i64 ((h:Nat):Int))],[(0,.vs [.imm c (.ns .u64 e) 1 1 0 f]),(1,.vs [.imm d (.ns .u64 g) 1 1 0 a]),(2,.ns .u64 i)],3⟩
def A3(d:List Int)(b:Nat)(e:List Int)(g:Nat)(c:Nat)(a:Nat)(f:List Int) :T (((List Int))⊕(((List Int))⊕(dW))) :=
  .ask (decide (((a:Nat):Int)<((g:Nat):Int)))
    (.need (dI .i64 (((a+b):Nat):Int))<|.need (CV ((c:Nat):Int) c)<|.need (CV ((a:Nat):Int) c)<|.need (gA ((a:Nat):Int) g)<|.need (gM a (List.length e))<|.need (aP 0 b d)<|.need (uY (rv f a (c-a) (aa 0 b d) (List.getD e a 0)))<|.need (gA (((a+b):Nat):Int) c)<|.need (gM (a+b) (List.length (p9 (rv f a (c-a) (aa 0 b d) (List.getD e a 0)))))<|.leaf (.inl (List.set (p9 (rv f a (c-a) (aa 0 b d) (List.getD e a 0))) (a+b) (ud (rv f a (c-a) (aa 0 b d) (List.getD e a 0))))))
    (.leaf (.inr (.inl f)))
def VX(a:Nat)(b:List Int) :T ((Nat×(List Int))⊕(((List Int))⊕(dW))) :=
  .need (dI .i64 (((a+1):Nat):Int))<|.leaf (.inl ((a+1),b))
def A4(b:List Int)(c:Nat)(d:List Int)(e:Nat)(f:Nat) :Nat×(List Int)→Option ((Nat×(List Int))⊕(((List Int))⊕(dW))):=fun (a,g) =>
  aC ((A3 b c d e f a g).run) fun h =>
  (VX a h).run
theorem VY(f:Lv)(g:Lv)(b:List Int)(c:Nat)(d:List Int)(e:Nat)(a:Nat)(h:Nat)(i:List Int) :Sg prog [] VW (Ew f g b c d e a (h,i)) (A4 b c d e a (h,i)) (Ew f g b c d e a) (dH 0 (Md a) Cv):=by
  unfold A4;exact Sg.cut 3 (bz o9) (bo jv (YZ f g b c d e a h) [⟨[],[0,1,2],[2,3,7,37,38]⟩,⟨[],[2],[7]⟩]) (fun j=>bo jv _ [⟨[],[0,1,2],[2,3,7,37,38]⟩])
def VZ:Nat×Nat×Nat×Nat×(List Int)→aF:=fun (a,b,c,d,e)=>⟨ah 61 [(4,.sl 0 1 1 a b c),(5,.int .i64 ((d:Nat):Int))],[(0,.ns .u64 e)],1⟩
def I2(a:Nat)(b:List Int) :T ((Nat×Nat×Nat×Nat×(List Int))⊕(dW)) :=
  .alt 0
    (.need (sI (fj b 0 a a))<|.leaf (.inl (0,0,0,3,([]:List Int))))
    (.alt 1
      (.need (sJ (fj b 0 a a))<|.leaf (.inl ((rX (fj b 0 a a)),(rY (fj b 0 a a)),(rZ (fj b 0 a a)),0,(r5 (fj b 0 a a)))))
      (.fail))
def V0(a:Nat)(b:Nat)(c:Nat)(d:Nat)(e:List Int) :T ((Empty)⊕(dW)) :=
  .leaf (.inr (.r0 a b c d e))
def pB(d:List Int)(e:List Int) :Option dW:=lw (aC ((I0 d e).run) fun (f,g,a,h,b) =>
  aC ((VV f a b).run) fun i =>
  aC ((I1 a b i).run) fun (c,j) =>
  aC (df (A4 g a h b c) (0,j)) fun k =>
  aC ((I2 c k).run) fun (l,m,n,o,p) =>
  (V0 l m n o p).run)
theorem Y0(a:Lv)(g:List Int)(b:Lv)(i:List Int){x:dW}(h:pB g i=some x) :aj prog Cg [] [.imm a (.ns .u64 g) 1 1 0 (List.length g),.imm b (.ns .u64 i) 1 1 0 (List.length i)] (H6 x) :=
  lM true H6 Cv h (Sg.cut 2 o9 (bo jv (YW a b) [⟨[],[0,16],[2,3,6]⟩,⟨[],[0,16],[2,3,6]⟩,⟨[],[0,16],[2,3,6]⟩]) (fun ⟨q,c,d,e,f⟩=>Sg.cut 3 o9 (bo jv (YX a b c d e f) [⟨[(.slot 4,.own 1 1 (.ns .u64 ([]:List Int)))],[82],[4,5]⟩,⟨[],[0,1],[2,3,29]⟩,⟨[],[0,1],[2,3,29]⟩,⟨[],[0,1],[2,3,29]⟩]) (fun r=>Sg.cut 3 o9 (bo jv (YY a b c d e f) [⟨[(.slot 4,.own 1 1 (.ns .u64 ([]:List Int)))],[34],[4,5]⟩,⟨[],[0,1,82],[2,3,7,37,38]⟩]) (fun ⟨j,s⟩=>Sg.cut 1 o9 (Ej ⟨[],[0,1,2],[2,3,7,37,38]⟩ (Ew a b c d e f j) (Md j) 0 o9 (YV _) (fun ⟨k,l⟩=>VY a b c d e f j k l)) (fun t=>Sg.cut 1 o9 (bo jv VZ [⟨[(.slot 4,.own 1 1 (.ns .u64 ([]:List Int)))],[97],[4,5]⟩,⟨[],[0],[4,5]⟩]) (fun ⟨u,v,w,y,z⟩=>bo jv _ [⟨[],[0],[4,5]⟩]))))))
    (fun x=>by cases x with | r0 m n o p A=>exact lz [.sl 0 1 1 m n o,.int .i64 ((p:Nat):Int)])
def yS:Option dW→Bool
  | some _=>true
  | none=>false
def yT:Option dW→Nat
  | some (.r0 x _ _ _ _)=>x
  | _=>0
def yU:Option dW→Nat
  | some (.r0 _ x _ _ _)=>x
  | _=>0
def F1:Option dW→Nat
  | some (.r0 _ _ x _ _)=>x
  | _=>0
def yV:Option dW→Nat
  | some (.r0 _ _ _ x _)=>x
  | _=>0
def yW:Option dW→List Int
  | some (.r0 _ _ _ _ x)=>x
  | _=>[]
theorem Y1{x:Option dW}(h:yS x=true) :x=some (.r0 (yT x) (yU x) (F1 x) (yV x) (yW x)):=by
  unfold yS at h
  split at h<;>first | rfl | (cases h;done) | (rename_i y;cases y;rfl)
def Rb:aE:=bT Cg (.cons (.ns .u64) (.cons (.ns .u64) .nil)) fun t=>(fun q=>[⟨H6 (.r0 (yT q) (yU q) (F1 q) (yV q) (yW q)),[yS q]⟩]) (pB t.1.2 t.2.1.2)
theorem Su:aM prog Rb:=aJ fun t=>(aK (fun h=>Y0 t.1.1 t.1.2 t.2.1.1 t.2.1.2 (Y1 h)) bb)
def Rc:List aE:=Rb::Ra
theorem mH:bc prog (bh Rc):=ap Su jv
inductive gq where
  | r0 (a:Nat) (b:Nat) (c:Nat) (d:List Int)
def Cw:gq→AE×aF
  | .r0 a b c d=>(.ret,⟨ah 59 [(4,.sl 0 1 1 a b c)],[(0,.ns .u64 d)],1⟩)
theorem uZ:j8 Cw:=by intro x;cases x<;>(intro h;cases h)
theorem Y2(id:Nat) :mz id Cw:=by intro x;cases x<;>(intro h;cases h)
def H7:gq→iK
  | .r0 a b d c=>⟨.imm .free (.ns .u64 c) 1 1 a b,[]⟩
def Y3:List Code:=cY (mU Cl)
def Y4(c:Lv)(a:List Int) :Int×Int×Nat×(List Int)→aF:=fun (d,r2,b,e)=>⟨ah 59 [(0,.imm c (.ns .u64 a) 1 1 0 (List.length a)),(5,.int .i64 d),(6,.int .u64 r2),(7,.sl 0 1 1 0 b b),(24,.int .i64 (((List.length a):Nat):Int)),(25,.int .i64 (0:Int))],[(0,.ns .u64 e)],1⟩
def I3(b:List Int)(a:Int) :T ((Int×Int×Nat×(List Int))⊕(gq)) :=
  .ask ((((List.length b):Nat):Int)==(0:Int))
    (.leaf (.inr (.r0 0 0 0 ([]:List Int))))
    (.need ((64:Int) != (0:Int))<|.need (dI .i64 (Int.tdiv a (64:Int)))<|.need ((64:Int) != (0:Int))<|.need (dI .i64 ((((List.length b):Nat):Int)+(Int.tdiv a (64:Int))))<|.need (dI .i64 (((((List.length b):Nat):Int)+(Int.tdiv a (64:Int)))+(1:Int)))<|.need (decide ((0:Int)≤(((((List.length b):Nat):Int)+(Int.tdiv a (64:Int)))+(1:Int))))<|.need (decide ((((((List.length b):Nat):Int)+(Int.tdiv a (64:Int)))+(1:Int))≤(((((List.length b):Nat):Int)+(Int.tdiv a (64:Int)))+(1:Int))))<|.need (decide ((8:Int)*(((((List.length b):Nat):Int)+(Int.tdiv a (64:Int)))+(1:Int))≤140737488355328))<|.need (dI .i64 (((((List.length b):Nat):Int)+(Int.tdiv a (64:Int)))+(1:Int)))<|.leaf (.inl ((Int.tdiv a (64:Int)),(IntKind.u64.wrap (Int.tmod a (64:Int))),(Int.toNat (((((List.length b):Nat):Int)+(Int.tdiv a (64:Int)))+(1:Int))),(List.replicate (Int.toNat (((((List.length b):Nat):Int)+(Int.tdiv a (64:Int)))+(1:Int))) (0:Int)))))
def Ex(c:Lv)(a:List Int)(d:Int)(r2:Int)(b:Nat) :Nat×(List Int)→aF:=fun (e,f)=>⟨ah 59 [(0,.imm c (.ns .u64 a) 1 1 0 (List.length a)),(5,.int .i64 d),(6,.int .u64 r2),(7,.sl 0 1 1 0 b b),(24,.int .i64 (((List.length a):Nat):Int)),(25,.int .i64 ((e:Nat):Int))],[(0,.ns .u64 f)],1⟩
def Me(a:Nat)(b:(List Int)) :aF:=⟨ah 59 [(7,.sl 0 1 1 0 a a)],[(0,.ns .u64 b)],1⟩
def V1:List Code:=cY (d7 ((((Y3.drop 6).take 1)).headD .skip))
def Y5(c:Lv)(a:List Int)(d:Int)(r2:Int)(b:Nat)(e:Nat)(f:(List Int)) :aF:=⟨ah 59 [(0,.imm c (.ns .u64 a) 1 1 0 (List.length a)),(5,.int .i64 d),(6,.int .u64 r2),(7,.sl 0 1 1 0 b b),(24,.int .i64 (((List.length a):Nat):Int)),(25,.int .i64 ((e:Nat):Int))],[(0,.ns .u64 f)],1⟩
def we(c:List Int)(b:Int)(r2:Int)(e:Nat)(a:Nat)(d:List Int) :T (((List Int))⊕(((List Int))⊕(gq))) :=
  .ask (decide (((a:Nat):Int)<(((List.length c):Nat):Int)))
    (.need (dI .i64 (((a:Nat):Int)+b))<|.need (gA (((a:Nat):Int)+b) e)<|.need (gM (Int.toNat (((a:Nat):Int)+b)) (List.length d))<|.need (gA ((a:Nat):Int) (List.length c))<|.need (gM a (List.length c))<|.need (decide ((0:Int)≤r2))<|.need (gA (((a:Nat):Int)+b) e)<|.need (gM (Int.toNat (((a:Nat):Int)+b)) (List.length d))<|.need (dI .i64 (((a:Nat):Int)+b))<|.need (dI .i64 ((((a:Nat):Int)+b)+(1:Int)))<|.need (gA ((a:Nat):Int) (List.length c))<|.need (gM a (List.length c))<|.need (decide ((0:Int)≤(1:Int)))<|.need (decide ((0:Int)≤(IntKind.u64.wrap ((63:Int)-r2))))<|.need (gA ((((a:Nat):Int)+b)+(1:Int)) e)<|.need (gM (Int.toNat ((((a:Nat):Int)+b)+(1:Int))) (List.length (List.set d (Int.toNat (((a:Nat):Int)+b)) (dp .or .u64 (List.getD d (Int.toNat (((a:Nat):Int)+b)) 0) (IntKind.u64.wrap ((List.getD c a 0)*2^(min (Int.toNat r2) (IntKind.u64.bits))))))))<|.leaf (.inl (List.set (List.set d (Int.toNat (((a:Nat):Int)+b)) (dp .or .u64 (List.getD d (Int.toNat (((a:Nat):Int)+b)) 0) (IntKind.u64.wrap ((List.getD c a 0)*2^(min (Int.toNat r2) (IntKind.u64.bits)))))) (Int.toNat ((((a:Nat):Int)+b)+(1:Int))) (Int.fdiv (Int.fdiv (List.getD c a 0) (2^(min (Int.toNat (1:Int)) (IntKind.u64.bits)))) (2^(min (Int.toNat (IntKind.u64.wrap ((63:Int)-r2))) (IntKind.u64.bits)))))))
    (.leaf (.inr (.inl d)))
def V2(a:Nat)(b:List Int) :T ((Nat×(List Int))⊕(((List Int))⊕(gq))) :=
  .need (dI .i64 (((a+1):Nat):Int))<|.leaf (.inl ((a+1),b))
def A5(b:List Int)(c:Int)(r2:Int)(d:Nat) :Nat×(List Int)→Option ((Nat×(List Int))⊕(((List Int))⊕(gq))):=fun (a,e) =>
  aC ((we b c r2 d a e).run) fun f =>
  (V2 a f).run
theorem V3(d:Lv)(b:List Int)(c:Int)(r2:Int)(a:Nat)(e:Nat)(f:List Int) :Sg prog [] V1 (Ex d b c r2 a (e,f)) (A5 b c r2 a (e,f)) (Ex d b c r2 a) (dH 0 (Me a) Cw):=by
  unfold A5;exact Sg.cut 3 (bz uZ) (bo mH (Y5 d b c r2 a e) [⟨[],[0],[0,5,6,7,24,25]⟩,⟨[],[0],[7]⟩]) (fun g=>bo mH _ [⟨[],[0],[0,5,6,7,24,25]⟩])
def Y6:Nat×Nat×Nat×(List Int)→aF:=fun (a,b,c,d)=>⟨ah 59 [(4,.sl 0 1 1 a b c)],[(0,.ns .u64 d)],1⟩
def I4(a:Nat)(b:List Int) :T ((Nat×Nat×Nat×(List Int))⊕(gq)) :=
  .need (hJ (bi b 0 a a))<|.leaf (.inl ((gP (bi b 0 a a)),(gQ (bi b 0 a a)),(gS (bi b 0 a a)),(gT (bi b 0 a a))))
def V4(a:Nat)(b:Nat)(c:Nat)(d:List Int) :T ((Empty)⊕(gq)) :=
  .leaf (.inr (.r0 a b c d))
def dX(a:List Int)(c:Int) :Option gq:=lw (aC ((I3 a c).run) fun (d,r2,b,e) =>
  aC (df (A5 a d r2 b) (0,e)) fun f =>
  aC ((I4 b f).run) fun (g,h,i,j) =>
  (V4 g h i j).run)
theorem Y7(b:Lv)(a:List Int)(d:Int){x:gq}(h:dX a d=some x) :aj prog Cl [] [.imm b (.ns .u64 a) 1 1 0 (List.length a),.int .i64 d] (H7 x) :=
  lM true H7 Cw h (Sg.cut 6 uZ (bo mH (Y4 b a) [⟨[(.slot 4,.own 1 1 (.ns .u64 ([]:List Int)))],[80],[4]⟩,⟨[],[256],[0,5,6,7,24,25]⟩]) (fun ⟨e,r2,c,l⟩=>Sg.cut 1 uZ (Ej ⟨[],[0],[0,5,6,7,24,25]⟩ (Ex b a e r2 c) (Me c) 0 uZ (Y2 _) (fun ⟨f,g⟩=>V3 b a e r2 c f g)) (fun m=>Sg.cut 1 uZ (bo mH Y6 [⟨[],[0],[4]⟩]) (fun ⟨n,o,p,q⟩=>bo mH _ [⟨[],[0],[4]⟩]))))
    (fun x=>by cases x with | r0 i j k r=>exact lz [.sl 0 1 1 i j k])
def u4:Option gq→Bool
  | some _=>true
  | none=>false
def jw:Option gq→Nat
  | some (.r0 x _ _ _)=>x
  | _=>0
def jx:Option gq→Nat
  | some (.r0 _ x _ _)=>x
  | _=>0
def F2:Option gq→Nat
  | some (.r0 _ _ x _)=>x
  | _=>0
def jy:Option gq→List Int
  | some (.r0 _ _ _ x)=>x
  | _=>[]
theorem Y8{x:Option gq}(h:u4 x=true) :x=some (.r0 (jw x) (jx x) (F2 x) (jy x)):=by
  unfold u4 at h
  split at h<;>first | rfl | (cases h;done) | (rename_i y;cases y;rfl)
def Rd:aE:=bT Cl (.cons (.ns .u64) (.cons (.int .i64) .nil)) fun t=>(fun q=>[⟨H7 (.r0 (jw q) (jx q) (F2 q) (jy q)),[u4 q]⟩]) (dX t.1.2 t.2.1)
theorem Sv:aM prog Rd:=aJ fun t=>(aK (fun h=>Y7 t.1.1 t.1.2 t.2.1 (Y8 h)) bb)
def Re:List aE:=Rd::Rc
theorem yX:bc prog (bh Re):=ap Sv mH
inductive eI where
  | r0 (a:List Int) (b:Nat) (c:Nat)
def Db(a:Lv) :eI→AE×aF
  | .r0 b c d=>(.ret,⟨ah 10 [(2,.imm a (.ns .u64 b) 1 1 0 c),(3,.int .i64 ((d:Nat):Int))],[],0⟩)
theorem Mf{a:Lv} :j8 (Db a):=by intro x;cases x<;>(intro h;cases h)
def wN(a:Lv) :eI→iK
  | .r0 b c d=>⟨.tup [.imm a (.ns .u64 b) 1 1 0 c,.int .i64 ((d:Nat):Int)],[]⟩
def Mg(a:Lv) :(List Int)×Nat→aF:=fun (b,c)=>⟨ah 10 [(0,.imm a (.ns .u64 b) 1 1 0 c)],[],0⟩
def A6(a:List Int) :T (((List Int)×Nat)⊕(eI)) :=
  .need (aP 0 (List.length a) a)<|.need (bM (au (aa 0 (List.length a) a)))<|.leaf (.inl ((aG (au (aa 0 (List.length a) a))),(aA (au (aa 0 (List.length a) a)))))
def Mh(b:List Int)(a:Nat) :T ((Empty)⊕(eI)) :=
  .ask (decide (((a:Nat):Int)>(4096:Int)))
    (.leaf (.inr (.r0 ([]:List Int) 0 3)))
    (.leaf (.inr (.r0 b a 0)))
def jU(a:List Int) :Option eI:=lw (aC ((A6 a).run) fun (b,c) =>
  (Mh b c).run)
theorem Mi(a:Lv)(b:List Int){x:eI}(h:jU b=some x) :aj prog uN [] [.imm a (.ns .u64 b) 1 1 0 (List.length b)] (wN a x) :=
  lM false (wN a) (Db a) h (Sg.cut 2 Mf (bo yX (Mg a) [⟨[],[],[0]⟩]) (fun ⟨f,g⟩=>bo yX _ [⟨[(.slot 2,.fre 1 1 (.ns .u64 ([]:List Int))),(.slot 2,.lev a)],[],[2,3]⟩,⟨[],[],[2,3]⟩]))
    (fun x=>by cases x with | r0 c d e=>exact lz [.imm a (.ns .u64 c) 1 1 0 d,.int .i64 ((e:Nat):Int)])
def qa:Option eI→Bool
  | some _=>true
  | none=>false
def rx:Option eI→List Int
  | some (.r0 x _ _)=>x
  | _=>[]
def ry:Option eI→Nat
  | some (.r0 _ x _)=>x
  | _=>0
def rz:Option eI→Nat
  | some (.r0 _ _ x)=>x
  | _=>0
theorem Mj{x:Option eI}(h:qa x=true) :x=some (.r0 (rx x) (ry x) (rz x)):=by
  unfold qa at h
  split at h<;>first | rfl | (cases h;done) | (rename_i y;cases y;rfl)
def Dc:aE:=bT uN (.cons (.ns .u64) .nil) fun t=>(fun q=>[⟨wN t.1.1 (.r0 (rx q) (ry q) (rz q)),[qa q]⟩]) (jU t.1.2)
theorem H8:aM prog Dc:=aJ fun t=>(aK (fun h=>Mi t.1.1 t.1.2 (Mj h)) bb)
def Dd:List aE:=Dc::Re
theorem ke:bc prog (bh Dd):=ap H8 yX
inductive iW where
  | r0 (a:List Int) (b:Nat) (c:Nat)
def Rf:iW→AE×aF
  | .r0 a b c=>(.ret,⟨ah 30 [(4,.imm .free (.ns .u64 a) 1 1 0 b),(5,.int .i64 ((c:Nat):Int))],[],0⟩)
theorem Ey:j8 Rf:=by intro x;cases x<;>(intro h;cases h)
def H9:iW→iK
  | .r0 a b c=>⟨.tup [.imm .free (.ns .u64 a) 1 1 0 b,.int .i64 ((c:Nat):Int)],[]⟩
def Y9(a:Lv)(b:Int) :Nat×(List Int)×Nat→aF:=fun (c,d,e)=>⟨ah 30 [(1,.int .i64 b),(2,.ptr 0 1 0 0),(6,.int .i64 ((c:Nat):Int))],[(0,.vs [.imm a (.ns .u64 d) 1 1 0 e])],1⟩
def Mk(a:List Int) :T ((Nat×(List Int)×Nat)⊕(iW)) :=
  .ask (decide ((0:Int)<(1:Int)))
    (.need (gA (0:Int) 1)<|.need (aP 0 (List.length a) a)<|.need (bM (au (aa 0 (List.length a) a)))<|.ask (decide ((((aA (au (aa 0 (List.length a) a))):Nat):Int)>(4096:Int)))
      (.leaf (.inl (2,(aG (au (aa 0 (List.length a) a))),(aA (au (aa 0 (List.length a) a))))))
      (.need (dI .i64 (1:Int))<|.ask (decide ((1:Int)<(1:Int)))
        (.fail)
        (.leaf (.inl (0,(aG (au (aa 0 (List.length a) a))),(aA (au (aa 0 (List.length a) a))))))))
    (.fail)
def Za(a:Lv)(b:Int)(c:List Int)(d:Nat)(_:Unit) :aF:=⟨ah 30 [(1,.int .i64 b),(2,.ptr 0 1 0 0)],[(0,.vs [.imm a (.ns .u64 c) 1 1 0 d])],1⟩
def Zb(a:Int)(b:Nat)(c:Nat) :T ((Unit)⊕(iW)) :=
  .ask (((b:Nat):Int) != (0:Int))
    (.leaf (.inr (.r0 ([]:List Int) 0 2)))
    (.ask (decide (a<(0:Int)))
      (.leaf (.inr (.r0 ([]:List Int) 0 2)))
      (.ask (decide (((c:Nat):Int)>(0:Int)))
        (.ask (decide (a≥(262144:Int)))
          (.leaf (.inr (.r0 ([]:List Int) 0 3)))
          (.leaf (.inl ())))
        (.leaf (.inl ()))))
def Zc:(List Int)×Nat×Nat→aF:=fun (a,b,c)=>⟨ah 30 [(4,.imm .free (.ns .u64 a) 1 1 0 b),(5,.int .i64 ((c:Nat):Int))],[],0⟩
def Ez(c:Int)(a:List Int)(b:Nat) :T (((List Int)×Nat×Nat)⊕(iW)) :=
  .need (aP 0 b a)<|.need (u4 (dX (aa 0 b a) c))<|.need (aP (jw (dX (aa 0 b a) c)) (jx (dX (aa 0 b a) c)) (jy (dX (aa 0 b a) c)))<|.need (qa (jU (aa (jw (dX (aa 0 b a) c)) (jx (dX (aa 0 b a) c)) (jy (dX (aa 0 b a) c)))))<|.leaf (.inl ((rx (jU (aa (jw (dX (aa 0 b a) c)) (jx (dX (aa 0 b a) c)) (jy (dX (aa 0 b a) c))))),(ry (jU (aa (jw (dX (aa 0 b a) c)) (jx (dX (aa 0 b a) c)) (jy (dX (aa 0 b a) c))))),(rz (jU (aa (jw (dX (aa 0 b a) c)) (jx (dX (aa 0 b a) c)) (jy (dX (aa 0 b a) c)))))))
def Zd(a:List Int)(b:Nat)(c:Nat) :T ((Empty)⊕(iW)) :=
  .leaf (.inr (.r0 a b c))
def gU(c:List Int)(a:Int) :Option iW:=lw (aC ((Mk c).run) fun (d,e,b) =>
  aC ((Zb a d b).run) fun _ =>
  aC ((Ez a e b).run) fun (f,g,h) =>
  (Zd f g h).run)
theorem Ze(b:Lv)(c:List Int)(a:Int){x:iW}(h:gU c a=some x) :aj prog HS [] [.imm b (.ns .u64 c) 1 1 0 (List.length c),.int .i64 a] (H9 x) :=
  lM true H9 Rf h (Sg.cut 2 Ey (bo ke (Y9 b a) [⟨[],[0],[1,2,6]⟩,⟨[],[0],[1,2,6]⟩]) (fun ⟨j,d,e⟩=>Sg.cut 1 Ey (bo ke (Za b a d e) [⟨[(.slot 4,.fre 1 1 (.ns .u64 ([]:List Int)))],[],[4,5]⟩,⟨[(.slot 4,.fre 1 1 (.ns .u64 ([]:List Int)))],[],[4,5]⟩,⟨[(.slot 4,.fre 1 1 (.ns .u64 ([]:List Int)))],[],[4,5]⟩,⟨[],[0],[1,2]⟩,⟨[],[0],[1,2]⟩]) (fun _=>Sg.cut 1 Ey (bo ke Zc [⟨[],[],[4,5]⟩]) (fun ⟨k,l,m⟩=>bo ke _ [⟨[],[],[4,5]⟩]))))
    (fun x=>by cases x with | r0 f g i=>exact lz [.imm .free (.ns .u64 f) 1 1 0 g,.int .i64 ((i:Nat):Int)])
def rA:Option iW→Bool
  | some _=>true
  | none=>false
def mI:Option iW→List Int
  | some (.r0 x _ _)=>x
  | _=>[]
def mJ:Option iW→Nat
  | some (.r0 _ x _)=>x
  | _=>0
def F3:Option iW→Nat
  | some (.r0 _ _ x)=>x
  | _=>0
theorem Zf{x:Option iW}(h:rA x=true) :x=some (.r0 (mI x) (mJ x) (F3 x)):=by
  unfold rA at h
  split at h<;>first | rfl | (cases h;done) | (rename_i y;cases y;rfl)
def Rg:aE:=bT HS (.cons (.ns .u64) (.cons (.int .i64) .nil)) fun t=>(fun q=>[⟨H9 (.r0 (mI q) (mJ q) (F3 q)),[rA q]⟩]) (gU t.1.2 t.2.1)
theorem Sw:aM prog Rg:=aJ fun t=>(aK (fun h=>Ze t.1.1 t.1.2 t.2.1 (Zf h)) bb)
def Rh:List aE:=Rg::Dd
theorem iE:bc prog (bh Rh):=ap Sw ke
inductive du where
  | r0 (a:Nat) (b:Nat) (c:Nat) (d:Bool) (e:List Int)
def x4:du→AE×aF
  | .r0 a b c d e=>(.ret,⟨ah 97 [(4,.sl 0 1 1 a b c),(5,.bool false d)],[(0,.ns .u64 e)],1⟩)
theorem kE:j8 x4:=by intro x;cases x<;>(intro h;cases h)
theorem Ml(id:Nat) :mz id x4:=by intro x;cases x<;>(intro h;cases h)
def Ia:du→iK
  | .r0 a b e c d=>⟨.tup [.imm .free (.ns .u64 d) 1 1 a b,.bool false c],[]⟩
def I5:List Code:=cY (mU Ck)
def Zg(b:Lv)(a:List Int) :Int×Int×Bool×Nat×Nat→aF:=fun (c,r2,d,e,f)=>⟨ah 97 [(0,.imm b (.ns .u64 a) 1 1 0 (List.length a)),(6,.int .i64 c),(7,.int .u64 r2),(8,.bool false d),(36,.imm b (.ns .u64 a) 1 1 0 e),(37,.int .i64 ((f:Nat):Int)),(38,.int .i64 (0:Int))],[],0⟩
def A7(b:List Int)(a:Int) :T ((Int×Int×Bool×Nat×Nat)⊕(du)) :=
  .need ((64:Int) != (0:Int))<|.need (dI .i64 (Int.tdiv a (64:Int)))<|.need ((64:Int) != (0:Int))<|.ask (decide ((Int.tdiv a (64:Int))≥(((List.length b):Nat):Int)))
    (.leaf (.inr (.r0 0 0 0 (decide ((((List.length b):Nat):Int)>(0:Int))) ([]:List Int))))
    (.need (gA (Int.tdiv a (64:Int)) (List.length b))<|.need (gM (Int.toNat (Int.tdiv a (64:Int))) (List.length b))<|.need (decide ((0:Int)≤(IntKind.u64.wrap (Int.tmod a (64:Int)))))<|.need (CV (Int.tdiv a (64:Int)) (List.length b))<|.need (CV (0:Int) (Int.toNat (Int.tdiv a (64:Int))))<|.leaf (.inl ((Int.tdiv a (64:Int)),(IntKind.u64.wrap (Int.tmod a (64:Int))),((dp .and .u64 (List.getD b (Int.toNat (Int.tdiv a (64:Int))) 0) (IntKind.u64.wrap ((IntKind.u64.wrap ((1:Int)*2^(min (Int.toNat (IntKind.u64.wrap (Int.tmod a (64:Int)))) (IntKind.u64.bits))))-(1:Int)))) != (0:Int)),(Int.toNat (Int.tdiv a (64:Int))),(Int.toNat (Int.tdiv a (64:Int))))))
def EA(b:Lv)(a:List Int)(c:Int)(r2:Int)(d:Nat)(e:Nat) :Bool×Nat→aF:=fun (f,g)=>⟨ah 97 [(0,.imm b (.ns .u64 a) 1 1 0 (List.length a)),(6,.int .i64 c),(7,.int .u64 r2),(8,.bool false f),(36,.imm b (.ns .u64 a) 1 1 0 d),(37,.int .i64 ((e:Nat):Int)),(38,.int .i64 ((g:Nat):Int))],[],0⟩
def Mm(b:Lv)(a:List Int)(c:Int)(r2:Int)(d:Bool) :aF:=⟨ah 97 [(0,.imm b (.ns .u64 a) 1 1 0 (List.length a)),(6,.int .i64 c),(7,.int .u64 r2),(8,.bool false d)],[],0⟩
def V5:List Code:=cY (d7 ((((I5.drop 6).take 1)).headD .skip))
def Zh(b:Lv)(a:List Int)(c:Int)(r2:Int)(d:Nat)(e:Nat)(f:Nat)(g:Bool) :aF:=⟨ah 97 [(0,.imm b (.ns .u64 a) 1 1 0 (List.length a)),(6,.int .i64 c),(7,.int .u64 r2),(8,.bool false g),(36,.imm b (.ns .u64 a) 1 1 0 d),(37,.int .i64 ((e:Nat):Int)),(38,.int .i64 ((f:Nat):Int))],[],0⟩
def wg(b:List Int)(d:Nat)(e:Nat)(c:Bool)(a:Nat) :T ((Bool)⊕((Bool)⊕(du))) :=
  .ask (decide (((a:Nat):Int)<((e:Nat):Int)))
    (.need (gA ((a:Nat):Int) d)<|.need (gM a (List.length b))<|.ask c
      (.leaf (.inl true))
      (.leaf (.inl ((List.getD b a 0) != (0:Int)))))
    (.leaf (.inr (.inl c)))
def V6(a:Nat)(b:Bool) :T ((Bool×Nat)⊕((Bool)⊕(du))) :=
  .need (dI .i64 (((a+1):Nat):Int))<|.leaf (.inl (b,(a+1)))
def A8(b:List Int)(c:Nat)(d:Nat) :Bool×Nat→Option ((Bool×Nat)⊕((Bool)⊕(du))):=fun (e,a) =>
  aC ((wg b c d e a).run) fun f =>
  (V6 a f).run
theorem V7(b:Lv)(a:List Int)(c:Int)(r2:Int)(d:Nat)(e:Nat)(g:Bool)(f:Nat) :Sg prog [] V5 (EA b a c r2 d e (g,f)) (A8 a d e (g,f)) (EA b a c r2 d e) (dH 0 (Mm b a c r2) x4):=by
  unfold A8;exact Sg.cut 3 (bz kE) (bo iE (Zh b a c r2 d e f) [⟨[],[],[0,6,7,8,36,37,38]⟩,⟨[],[],[0,6,7,8,36,37,38]⟩,⟨[],[],[0,6,7,8]⟩]) (fun h=>bo iE _ [⟨[],[],[0,6,7,8,36,37,38]⟩])
def Zi(c:Lv)(a:List Int)(d:Int)(r2:Int)(e:Bool) :Nat×Nat×(List Int)→aF:=fun (b,f,g)=>⟨ah 97 [(0,.imm c (.ns .u64 a) 1 1 0 (List.length a)),(6,.int .i64 d),(7,.int .u64 r2),(8,.bool false e),(11,.sl 0 1 1 0 b b),(54,.int .i64 ((f:Nat):Int)),(55,.int .i64 (0:Int))],[(0,.ns .u64 g)],1⟩
def A9(a:List Int)(b:Int) :T ((Nat×Nat×(List Int))⊕(du)) :=
  .need (dI .i64 ((((List.length a):Nat):Int)-b))<|.need (decide ((0:Int)≤((((List.length a):Nat):Int)-b)))<|.need (decide (((((List.length a):Nat):Int)-b)≤((((List.length a):Nat):Int)-b)))<|.need (decide ((8:Int)*((((List.length a):Nat):Int)-b)≤140737488355328))<|.need (dI .i64 ((((List.length a):Nat):Int)-b))<|.leaf (.inl ((Int.toNat ((((List.length a):Nat):Int)-b)),(Int.toNat ((((List.length a):Nat):Int)-b)),(List.replicate (Int.toNat ((((List.length a):Nat):Int)-b)) (0:Int))))
def Ba(c:Lv)(a:List Int)(d:Int)(r2:Int)(e:Bool)(b:Nat)(f:Nat) :Nat×(List Int)→aF:=fun (g,h)=>⟨ah 97 [(0,.imm c (.ns .u64 a) 1 1 0 (List.length a)),(6,.int .i64 d),(7,.int .u64 r2),(8,.bool false e),(11,.sl 0 1 1 0 b b),(54,.int .i64 ((f:Nat):Int)),(55,.int .i64 ((g:Nat):Int))],[(0,.ns .u64 h)],1⟩
def I6(b:Bool)(a:Nat)(c:(List Int)) :aF:=⟨ah 97 [(8,.bool false b),(11,.sl 0 1 1 0 a a)],[(0,.ns .u64 c)],1⟩
def V8:List Code:=cY (d7 ((((((I5.drop 6).drop 1).drop 2).take 1)).headD .skip))
def V9(c:Lv)(a:List Int)(d:Int)(r2:Int)(e:Bool)(b:Nat)(f:Nat)(g:Nat)(h:(List Int)) :aF:=⟨ah 97 [(0,.imm c (.ns .u64 a) 1 1 0 (List.length a)),(6,.int .i64 d),(7,.int .u64 r2),(8,.bool false e),(11,.sl 0 1 1 0 b b),(54,.int .i64 ((f:Nat):Int)),(55,.int .i64 ((g:Nat):Int))],[(0,.ns .u64 h)],1⟩
def wh(c:List Int)(b:Int)(r2:Int)(e:Nat)(f:Nat)(a:Nat)(d:List Int) :T (((List Int))⊕(((List Int))⊕(du))) :=
  .ask (decide (((a:Nat):Int)<((f:Nat):Int)))
    (.need (dI .i64 (((a:Nat):Int)+b))<|.need (gA (((a:Nat):Int)+b) (List.length c))<|.need (gM (Int.toNat (((a:Nat):Int)+b)) (List.length c))<|.need (decide ((0:Int)≤r2))<|.need (gA ((a:Nat):Int) e)<|.need (gM a (List.length d))<|.need (dI .i64 (((a:Nat):Int)+b))<|.need (dI .i64 ((((a:Nat):Int)+b)+(1:Int)))<|.ask (decide (((((a:Nat):Int)+b)+(1:Int))<(((List.length c):Nat):Int)))
      (.need (gA ((a:Nat):Int) e)<|.need (gM a (List.length (List.set d a (Int.fdiv (List.getD c (Int.toNat (((a:Nat):Int)+b)) 0) (2^(min (Int.toNat r2) (IntKind.u64.bits)))))))<|.need (dI .i64 (((a:Nat):Int)+b))<|.need (dI .i64 ((((a:Nat):Int)+b)+(1:Int)))<|.need (gA ((((a:Nat):Int)+b)+(1:Int)) (List.length c))<|.need (gM (Int.toNat ((((a:Nat):Int)+b)+(1:Int))) (List.length c))<|.need (decide ((0:Int)≤(1:Int)))<|.need (decide ((0:Int)≤(IntKind.u64.wrap ((63:Int)-r2))))<|.need (gA ((a:Nat):Int) e)<|.need (gM a (List.length (List.set d a (Int.fdiv (List.getD c (Int.toNat (((a:Nat):Int)+b)) 0) (2^(min (Int.toNat r2) (IntKind.u64.bits)))))))<|.leaf (.inl (List.set (List.set d a (Int.fdiv (List.getD c (Int.toNat (((a:Nat):Int)+b)) 0) (2^(min (Int.toNat r2) (IntKind.u64.bits))))) a (dp .or .u64 (List.getD (List.set d a (Int.fdiv (List.getD c (Int.toNat (((a:Nat):Int)+b)) 0) (2^(min (Int.toNat r2) (IntKind.u64.bits))))) a 0) (IntKind.u64.wrap ((IntKind.u64.wrap ((List.getD c (Int.toNat ((((a:Nat):Int)+b)+(1:Int))) 0)*2^(min (Int.toNat (1:Int)) (IntKind.u64.bits))))*2^(min (Int.toNat (IntKind.u64.wrap ((63:Int)-r2))) (IntKind.u64.bits))))))))
      (.leaf (.inl (List.set d a (Int.fdiv (List.getD c (Int.toNat (((a:Nat):Int)+b)) 0) (2^(min (Int.toNat r2) (IntKind.u64.bits))))))))
    (.leaf (.inr (.inl d)))
def Wa(a:Nat)(b:List Int) :T ((Nat×(List Int))⊕(((List Int))⊕(du))) :=
  .need (dI .i64 (((a+1):Nat):Int))<|.leaf (.inl ((a+1),b))
def Bb(b:List Int)(c:Int)(r2:Int)(d:Nat)(e:Nat) :Nat×(List Int)→Option ((Nat×(List Int))⊕(((List Int))⊕(du))):=fun (a,f) =>
  aC ((wh b c r2 d e a f).run) fun g =>
  (Wa a g).run
theorem Wb(f:Lv)(b:List Int)(c:Int)(r2:Int)(d:Bool)(a:Nat)(e:Nat)(g:Nat)(h:List Int) :Sg prog [] V8 (Ba f b c r2 d a e (g,h)) (Bb b c r2 a e (g,h)) (Ba f b c r2 d a e) (dH 2 (I6 d a) x4):=by
  unfold Bb;exact Sg.cut 3 (bz kE) (bo iE (V9 f b c r2 d a e g) [⟨[],[0],[0,6,7,8,11,54,55]⟩,⟨[],[0],[0,6,7,8,11,54,55]⟩,⟨[],[0],[8,11]⟩]) (fun i=>bo iE _ [⟨[],[0],[0,6,7,8,11,54,55]⟩])
def Wc(a:Bool) :Nat×Nat×Nat×(List Int)→aF:=fun (b,c,d,e)=>⟨ah 97 [(4,.sl 0 1 1 b c d),(5,.bool false a)],[(0,.ns .u64 e)],1⟩
def I7(a:Nat)(b:List Int) :T ((Nat×Nat×Nat×(List Int))⊕(du)) :=
  .need (hJ (bi b 0 a a))<|.leaf (.inl ((gP (bi b 0 a a)),(gQ (bi b 0 a a)),(gS (bi b 0 a a)),(gT (bi b 0 a a))))
def We(a:Bool)(b:Nat)(c:Nat)(d:Nat)(e:List Int) :T ((Empty)⊕(du)) :=
  .leaf (.inr (.r0 b c d a e))
def pC(a:List Int)(d:Int) :Option du:=lw (aC ((A7 a d).run) fun (b,r2,e,f,g) =>
  aC (df (A8 a f g) (e,0)) fun h =>
  aC ((A9 a b).run) fun (c,i,j) =>
  aC (df (Bb a b r2 c i) (0,j)) fun k =>
  aC ((I7 c k).run) fun (l,m,n,o) =>
  (We h l m n o).run)
theorem Zj(b:Lv)(a:List Int)(f:Int){x:du}(h:pC a f=some x) :aj prog Ck [] [.imm b (.ns .u64 a) 1 1 0 (List.length a),.int .i64 f] (Ia x) :=
  lM true Ia x4 h (Sg.cut 6 kE (bo iE (Zg b a) [⟨[(.slot 4,.own 1 1 (.ns .u64 ([]:List Int)))],[288],[4,5]⟩,⟨[],[],[0,6,7,8,36,37,38]⟩]) (fun ⟨c,r2,s,g,i⟩=>Sg.cut 1 kE (Ej ⟨[],[],[0,6,7,8,36,37,38]⟩ (EA b a c r2 g i) (Mm b a c r2) 0 kE (Ml _) (fun ⟨k,l⟩=>V7 b a c r2 g i k l)) (fun d=>Sg.cut 2 kE (bo iE (Zi b a c r2 d) [⟨[],[64],[0,6,7,8,11,54,55]⟩]) (fun ⟨e,j,t⟩=>Sg.cut 1 kE (Ej ⟨[],[0],[0,6,7,8,11,54,55]⟩ (Ba b a c r2 d e j) (I6 d e) 2 kE (Ml _) (fun ⟨m,n⟩=>Wb b a c r2 d e j m n)) (fun u=>Sg.cut 1 kE (bo iE (Wc d) [⟨[],[0],[4,5]⟩]) (fun ⟨v,w,y,z⟩=>bo iE _ [⟨[],[0],[4,5]⟩]))))))
    (fun x=>by cases x with | r0 o p q r A=>exact lz [.sl 0 1 1 o p q,.bool false r])
def yY:Option du→Bool
  | some _=>true
  | none=>false
def yZ:Option du→Nat
  | some (.r0 x _ _ _ _)=>x
  | _=>0
def y4:Option du→Nat
  | some (.r0 _ x _ _ _)=>x
  | _=>0
def F4:Option du→Nat
  | some (.r0 _ _ x _ _)=>x
  | _=>0
def y5:Option du→Bool
  | some (.r0 _ _ _ x _)=>x
  | _=>false
def y6:Option du→List Int
  | some (.r0 _ _ _ _ x)=>x
  | _=>[]
theorem Zk{x:Option du}(h:yY x=true) :x=some (.r0 (yZ x) (y4 x) (F4 x) (y5 x) (y6 x)):=by
  unfold yY at h
  split at h<;>first | rfl | (cases h;done) | (rename_i y;cases y;rfl)
def Ri:aE:=bT Ck (.cons (.ns .u64) (.cons (.int .i64) .nil)) fun t=>(fun q=>[⟨Ia (.r0 (yZ q) (y4 q) (F4 q) (y5 q) (y6 q)),[yY q]⟩]) (pC t.1.2 t.2.1)
theorem Sx:aM prog Ri:=aJ fun t=>(aK (fun h=>Zj t.1.1 t.1.2 t.2.1 (Zk h)) bb)
def Rj:List aE:=Ri::Rh
theorem qb:bc prog (bh Rj):=ap Sx iE
inductive gV where
  | r0 (a:List Int) (b:Nat) (c:Nat) (d:Bool) (e:Nat)
def Rk:gV→AE×aF
  | .r0 a b c d e=>(.ret,⟨ah 23 [(4,.imm .free (.ns .u64 a) 1 1 b c),(5,.bool false d),(6,.int .i64 ((e:Nat):Int))],[],0⟩)
theorem EB:j8 Rk:=by intro x;cases x<;>(intro h;cases h)
def Ib:gV→iK
  | .r0 a b c d e=>⟨.tup [.imm .free (.ns .u64 a) 1 1 b c,.bool false d,.int .i64 ((e:Nat):Int)],[]⟩
def Zl(a:Lv)(b:Int) :Nat×(List Int)×Nat→aF:=fun (c,d,e)=>⟨ah 23 [(1,.int .i64 b),(2,.ptr 0 1 0 0),(6,.int .i64 ((c:Nat):Int))],[(0,.vs [.imm a (.ns .u64 d) 1 1 0 e])],1⟩
def Mn(a:List Int) :T ((Nat×(List Int)×Nat)⊕(gV)) :=
  .ask (decide ((0:Int)<(1:Int)))
    (.need (gA (0:Int) 1)<|.need (aP 0 (List.length a) a)<|.need (bM (au (aa 0 (List.length a) a)))<|.ask (decide ((((aA (au (aa 0 (List.length a) a))):Nat):Int)>(4096:Int)))
      (.leaf (.inl (2,(aG (au (aa 0 (List.length a) a))),(aA (au (aa 0 (List.length a) a))))))
      (.need (dI .i64 (1:Int))<|.ask (decide ((1:Int)<(1:Int)))
        (.fail)
        (.leaf (.inl (0,(aG (au (aa 0 (List.length a) a))),(aA (au (aa 0 (List.length a) a))))))))
    (.fail)
def Zm(a:Lv)(b:Int)(c:List Int)(d:Nat)(e:Bool) :aF:=⟨ah 23 [(1,.int .i64 b),(2,.ptr 0 1 0 0),(14,.bool false e)],[(0,.vs [.imm a (.ns .u64 c) 1 1 0 d])],1⟩
def Zn(a:Int)(b:Nat) :T ((Bool)⊕(gV)) :=
  .ask (((b:Nat):Int) != (0:Int))
    (.leaf (.inl true))
    (.leaf (.inl (decide (a<(0:Int)))))
def Zo:(List Int)×Nat×Nat×Bool→aF:=fun (a,b,c,d)=>⟨ah 23 [(4,.imm .free (.ns .u64 a) 1 1 b c),(5,.bool false d)],[],0⟩
def EC(c:Int)(a:List Int)(b:Nat)(d:Bool) :T (((List Int)×Nat×Nat×Bool)⊕(gV)) :=
  .ask d
    (.leaf (.inr (.r0 ([]:List Int) 0 0 false 2)))
    (.need (aP 0 b a)<|.need (yY (pC (aa 0 b a) c))<|.leaf (.inl ((y6 (pC (aa 0 b a) c)),(yZ (pC (aa 0 b a) c)),(y4 (pC (aa 0 b a) c)),(y5 (pC (aa 0 b a) c)))))
def Zp(a:List Int)(b:Nat)(c:Nat)(d:Bool) :T ((Empty)⊕(gV)) :=
  .leaf (.inr (.r0 a b c d 0))
def rB(b:List Int)(a:Int) :Option gV:=lw (aC ((Mn b).run) fun (c,d,e) =>
  aC ((Zn a c).run) fun f =>
  aC ((EC a d e f).run) fun (g,h,i,j) =>
  (Zp g h i j).run)
theorem Zq(b:Lv)(c:List Int)(a:Int){x:gV}(h:rB c a=some x) :aj prog HP [] [.imm b (.ns .u64 c) 1 1 0 (List.length c),.int .i64 a] (Ib x) :=
  lM true Ib Rk h (Sg.cut 2 EB (bo qb (Zl b a) [⟨[],[0],[1,2,6]⟩,⟨[],[0],[1,2,6]⟩]) (fun ⟨l,d,e⟩=>Sg.cut 1 EB (bo qb (Zm b a d e) [⟨[],[0],[1,2,14]⟩,⟨[],[0],[1,2,14]⟩]) (fun m=>Sg.cut 2 EB (bo qb Zo [⟨[(.slot 4,.fre 1 1 (.ns .u64 ([]:List Int)))],[],[4,5,6]⟩,⟨[],[],[4,5]⟩]) (fun ⟨n,o,p,q⟩=>bo qb _ [⟨[],[],[4,5,6]⟩]))))
    (fun x=>by cases x with | r0 f g i j k=>exact lz [.imm .free (.ns .u64 f) 1 1 g i,.bool false j,.int .i64 ((k:Nat):Int)])
def y7:Option gV→Bool
  | some _=>true
  | none=>false
def y8:Option gV→List Int
  | some (.r0 x _ _ _ _)=>x
  | _=>[]
def y9:Option gV→Nat
  | some (.r0 _ x _ _ _)=>x
  | _=>0
def za:Option gV→Nat
  | some (.r0 _ _ x _ _)=>x
  | _=>0
def F5:Option gV→Bool
  | some (.r0 _ _ _ x _)=>x
  | _=>false
def F6:Option gV→Nat
  | some (.r0 _ _ _ _ x)=>x
  | _=>0
theorem Zr{x:Option gV}(h:y7 x=true) :x=some (.r0 (y8 x) (y9 x) (za x) (F5 x) (F6 x)):=by
  unfold y7 at h
  split at h<;>first | rfl | (cases h;done) | (rename_i y;cases y;rfl)
def Rl:aE:=bT HP (.cons (.ns .u64) (.cons (.int .i64) .nil)) fun t=>(fun q=>[⟨Ib (.r0 (y8 q) (y9 q) (za q) (F5 q) (F6 q)),[y7 q]⟩]) (rB t.1.2 t.2.1)
theorem Sy:aM prog Rl:=aJ fun t=>(aK (fun h=>Zq t.1.1 t.1.2 t.2.1 (Zr h)) bb)
def Rm:List aE:=Rl::Rj
theorem kF:bc prog (bh Rm):=ap Sy qb
inductive dL where
  | r0 (a:Int) (b:Nat)
def wi:dL→AE×aF
  | .r0 a b=>(.ret,⟨ah 31 [(2,.int .i64 a),(3,.int .i64 ((b:Nat):Int))],[],0⟩)
theorem mK:j8 wi:=by intro x;cases x<;>(intro h;cases h)
theorem Sz(id:Nat) :mz id wi:=by intro x;cases x<;>(intro h;cases h)
def Bc:dL→iK
  | .r0 a b=>⟨.tup [.int .i64 a,.int .i64 ((b:Nat):Int)],[]⟩
def SA:List Code:=cY (mU vU)
def SB(a:Lv) :Nat×(List Int)×Nat→aF:=fun (b,c,d)=>⟨ah 31 [(1,.ptr 0 1 0 0),(4,.int .i64 ((b:Nat):Int))],[(0,.vs [.imm a (.ns .u64 c) 1 1 0 d])],1⟩
def De(a:List Int) :T ((Nat×(List Int)×Nat)⊕(dL)) :=
  .ask (decide ((0:Int)<(1:Int)))
    (.need (gA (0:Int) 1)<|.need (aP 0 (List.length a) a)<|.need (bM (au (aa 0 (List.length a) a)))<|.ask (decide ((((aA (au (aa 0 (List.length a) a))):Nat):Int)>(4096:Int)))
      (.leaf (.inl (2,(aG (au (aa 0 (List.length a) a))),(aA (au (aa 0 (List.length a) a))))))
      (.need (dI .i64 (1:Int))<|.ask (decide ((1:Int)<(1:Int)))
        (.fail)
        (.leaf (.inl (0,(aG (au (aa 0 (List.length a) a))),(aA (au (aa 0 (List.length a) a))))))))
    (.fail)
def SC(a:Lv)(b:Nat)(c:List Int)(d:Nat)(e:Bool) :aF:=⟨ah 31 [(1,.ptr 0 1 0 0),(4,.int .i64 ((b:Nat):Int)),(14,.bool false e)],[(0,.vs [.imm a (.ns .u64 c) 1 1 0 d])],1⟩
def Oo(a:Nat)(b:Nat) :T ((Bool)⊕(dL)) :=
  .ask (((a:Nat):Int) != (0:Int))
    (.leaf (.inl true))
    (.leaf (.inl (((b:Nat):Int)==(0:Int))))
def SD(a:Lv)(b:List Int)(c:Nat)(_:Unit) :aF:=⟨ah 31 [(1,.ptr 0 1 0 0),(5,.int .i64 (0:Int))],[(0,.vs [.imm a (.ns .u64 b) 1 1 0 c])],1⟩
def Oq(a:Nat)(b:Bool) :T ((Unit)⊕(dL)) :=
  .ask b
    (.leaf (.inr (.r0 (0:Int) a)))
    (.leaf (.inl ()))
def zb(a:Lv)(b:List Int)(c:Nat)(d:Nat) :aF:=⟨ah 31 [(1,.ptr 0 1 0 0),(5,.int .i64 ((d:Nat):Int))],[(0,.vs [.imm a (.ns .u64 b) 1 1 0 c])],1⟩
def F7(a:Lv)(b:List Int)(c:Nat)(d:Nat) :aF:=⟨ah 31 [(1,.ptr 0 1 0 0),(5,.int .i64 ((d:Nat):Int))],[(0,.vs [.imm a (.ns .u64 b) 1 1 0 c])],1⟩
def Ot:List Code:=cY (d7 ((((((SA.drop 2).drop 1).drop 2).take 1)).headD .skip))
def nq(b:List Int)(c:Nat)(a:Nat) :T ((Nat)⊕((Nat)⊕(dL))) :=
  .need (gA ((a:Nat):Int) c)<|.need (gM a (List.length b))<|.ask ((List.getD b a 0)==(0:Int))
    (.need (dI .i64 (((a+1):Nat):Int))<|.leaf (.inl (a+1)))
    (.leaf (.inr (.inl a)))
def wO(a:List Int)(b:Nat) :Nat→Option ((Nat)⊕((Nat)⊕(dL))):=fun c =>
  (nq a b c).run
theorem Ou(c:Lv)(a:List Int)(b:Nat)(d:Nat) :Sg prog [] Ot (zb c a b d) (wO a b d) (zb c a b) (dH 0 (F7 c a b) wi):=by
  unfold wO;exact bo kF _ [⟨[],[0],[1,5]⟩,⟨[],[0],[1,5]⟩]
def SE(a:Int) :aF:=⟨ah 31 [(2,.int .i64 a),(3,.int .i64 (0:Int))],[],0⟩
def Df(b:List Int)(c:Nat)(a:Nat) :T ((Int)⊕(dL)) :=
  .need (dI .i64 (((64*a):Nat):Int))<|.need (gA ((a:Nat):Int) c)<|.need (gM a (List.length b))<|.need (dq (cV (List.getD b a 0)))<|.need (dI .i64 ((((64*a):Nat):Int)+(da (cV (List.getD b a 0)))))<|.leaf (.inl ((((64*a):Nat):Int)+(da (cV (List.getD b a 0)))))
def Ov(a:Int) :T ((Empty)⊕(dL)) :=
  .leaf (.inr (.r0 a 0))
def sM(d:List Int) :Option dL:=lw (aC ((De d).run) fun (b,c,a) =>
  aC ((Oo b a).run) fun e =>
  aC ((Oq b e).run) fun _ =>
  aC (df (wO c a) 0) fun f =>
  aC ((Df c a f).run) fun g =>
  (Ov g).run)
theorem SF(a:Lv)(d:List Int){x:dL}(h:sM d=some x) :aj prog vU [] [.imm a (.ns .u64 d) 1 1 0 (List.length d)] (Bc x) :=
  lM true Bc wi h (Sg.cut 2 mK (bo kF (SB a) [⟨[],[0],[1,4]⟩,⟨[],[0],[1,4]⟩]) (fun ⟨e,b,c⟩=>Sg.cut 1 mK (bo kF (SC a e b c) [⟨[],[0],[1,4,14]⟩,⟨[],[0],[1,4,14]⟩]) (fun j=>Sg.cut 2 mK (bo kF (SD a b c) [⟨[],[],[2,3]⟩,⟨[],[0],[1,5]⟩]) (fun _=>Sg.cut 1 mK (Ej ⟨[],[0],[1,5]⟩ (zb a b c) (F7 a b c) 0 mK (Sz _) (fun f=>Ou a b c f)) (fun k=>Sg.cut 1 mK (bo kF SE [⟨[],[],[2,3]⟩]) (fun l=>bo kF _ [⟨[],[],[2,3]⟩]))))))
    (fun x=>by cases x with | r0 g i=>exact lz [.int .i64 g,.int .i64 ((i:Nat):Int)])
def ue:Option dL→Bool
  | some _=>true
  | none=>false
def u5:Option dL→Int
  | some (.r0 x _)=>x
  | _=>0
def Bd:Option dL→Nat
  | some (.r0 _ x)=>x
  | _=>0
theorem SG{x:Option dL}(h:ue x=true) :x=some (.r0 (u5 x) (Bd x)):=by
  unfold ue at h
  split at h<;>first | rfl | (cases h;done) | (rename_i y;cases y;rfl)
def I8:aE:=bT vU (.cons (.ns .u64) .nil) fun t=>(fun q=>[⟨Bc (.r0 (u5 q) (Bd q)),[ue q]⟩]) (sM t.1.2)
theorem Mo:aM prog I8:=aJ fun t=>(aK (fun h=>SF t.1.1 t.1.2 (SG h)) bb)
def I9:List aE:=I8::Rm
theorem l4:bc prog (bh I9):=ap Mo kF
inductive dM where
  | r0 (a:Bool) (b:List Int) (c:Nat) (d:Nat) (e:Int)
def Ja:dM→AE×aF
  | .r0 a b c d e=>(.ret,⟨ah 37 [(2,.ptr 0 1 0 0)],[(0,.vs [.bool false a,.imm .free (.ns .u64 b) 1 1 c d,.int .i64 e])],1⟩)
theorem zc:j8 Ja:=by intro x;cases x<;>(intro h;cases h)
def Be:dM→iK
  | .r0 a b c d e=>⟨.agg [.bool false a,.imm .free (.ns .u64 b) 1 1 c d,.int .i64 e],[]⟩
def SH(b:Bool)(c:Lv)(a:List Int)(d:Int) :(List Int)×Nat×Bool→aF:=fun (e,f,g)=>⟨ah 37 [(1,.ptr 0 1 0 0),(2,.ptr 1 1 0 0),(3,.imm .free (.ns .u64 e) 1 1 0 f)],[(0,.vs [.bool false b,.imm c (.ns .u64 a) 1 1 0 (List.length a),.int .i64 d]),(1,.vs [.bool false g,.nsl,.int .i64 (0:Int)])],2⟩
def zd(a:List Int) :T (((List Int)×Nat×Bool)⊕(dM)) :=
  .need (aP 0 (List.length a) a)<|.need (sH (lW (aa 0 (List.length a) a)))<|.leaf (.inl ((wL (lW (aa 0 (List.length a) a))),(wJ (lW (aa 0 (List.length a) a))),false))
def SI(b:Bool)(c:Lv)(a:List Int)(d:Int)(e:List Int)(f:Nat)(g:Bool)(h:Int) :aF:=⟨ah 37 [(1,.ptr 0 1 0 0),(2,.ptr 1 1 0 0),(3,.imm .free (.ns .u64 e) 1 1 0 f),(5,.int .i64 h)],[(0,.vs [.bool false b,.imm c (.ns .u64 a) 1 1 0 (List.length a),.int .i64 d]),(1,.vs [.bool false g,.nsl,.int .i64 (0:Int)])],2⟩
def ze(b:List Int)(a:Nat) :T ((Int)⊕(dM)) :=
  .ask (((a:Nat):Int)==(0:Int))
    (.leaf (.inr (.r0 false ([]:List Int) 0 0 (0:Int))))
    (.need (aP 0 a b)<|.need (ue (sM (aa 0 a b)))<|.leaf (.inl (u5 (sM (aa 0 a b)))))
def SJ(b:Bool)(c:Lv)(a:List Int)(d:Int)(e:Bool)(f:Int) :(List Int)×Nat×Nat→aF:=fun (g,h,i)=>⟨ah 37 [(1,.ptr 0 1 0 0),(2,.ptr 1 1 0 0),(3,.imm .free (.ns .u64 g) 1 1 h i),(5,.int .i64 f)],[(0,.vs [.bool false b,.imm c (.ns .u64 a) 1 1 0 (List.length a),.int .i64 d]),(1,.vs [.bool false e,.nsl,.int .i64 (0:Int)])],2⟩
def zf(a:List Int)(b:Nat)(c:Int) :T (((List Int)×Nat×Nat)⊕(dM)) :=
  .need (aP 0 b a)<|.need (y7 (rB (aa 0 b a) c))<|.leaf (.inl ((y8 (rB (aa 0 b a) c)),(y9 (rB (aa 0 b a) c)),(za (rB (aa 0 b a) c))))
def SK(c:Bool)(a:Int)(b:Int)(d:List Int)(e:Nat)(f:Nat) :T ((Empty)⊕(dM)) :=
  .need (dI .i64 (a+b))<|.leaf (.inr (.r0 c d e f (a+b)))
def aq(d:Bool)(e:List Int)(f:Int) :Option dM:=lw (aC ((zd e).run) fun (a,b,j) =>
  aC ((ze a b).run) fun c =>
  aC ((zf a b c).run) fun (g,h,i) =>
  (SK d f c g h i).run)
theorem SL(b:Bool)(d:Lv)(a:List Int)(c:Int){x:dM}(h:aq b a c=some x) :aj prog AF [] [.agg [.bool false b,.imm d (.ns .u64 a) 1 1 0 (List.length a),.int .i64 c]] (Be x) :=
  lM true Be Ja h (Sg.cut 2 zc (bo l4 (SH b d a c) [⟨[],[0,16],[1,2,3]⟩]) (fun ⟨f,g,e⟩=>Sg.cut 3 zc (bo l4 (SI b d a c f g e) [⟨[(.cell 1 1,.fre 1 1 (.ns .u64 ([]:List Int)))],[1],[2]⟩,⟨[],[0,1],[1,2,3,5]⟩]) (fun i=>Sg.cut 1 zc (bo l4 (SJ b d a c e i) [⟨[],[0,1],[1,2,3,5]⟩]) (fun ⟨o,p,q⟩=>bo l4 _ [⟨[],[1],[2]⟩]))))
    (fun x=>by cases x with | r0 j k l m n=>exact lz [.agg [.bool false j,.imm .free (.ns .u64 k) 1 1 l m,.int .i64 n]])
def dY:Option dM→Bool
  | some _=>true
  | none=>false
def cz:Option dM→Bool
  | some (.r0 x _ _ _ _)=>x
  | _=>false
def cA:Option dM→List Int
  | some (.r0 _ x _ _ _)=>x
  | _=>[]
def cB:Option dM→Nat
  | some (.r0 _ _ x _ _)=>x
  | _=>0
def cC:Option dM→Nat
  | some (.r0 _ _ _ x _)=>x
  | _=>0
def cD:Option dM→Int
  | some (.r0 _ _ _ _ x)=>x
  | _=>0
theorem SM{x:Option dM}(h:dY x=true) :x=some (.r0 (cz x) (cA x) (cB x) (cC x) (cD x)):=by
  unfold dY at h
  split at h<;>first | rfl | (cases h;done) | (rename_i y;cases y;rfl)
def Jb:aE:=bT AF (.cons (.agg (.cons .bool (.cons (.ns .u64) (.cons (.int .i64) .nil)))) .nil) fun t=>(fun q=>[⟨Be (.r0 (cz q) (cA q) (cB q) (cC q) (cD q)),[dY q]⟩]) (aq t.1.1 t.1.2.1.2 t.1.2.2.1)
theorem Mp:aM prog Jb:=aJ fun t=>(aK (fun h=>SL t.1.1 t.1.2.1.1 t.1.2.1.2 t.1.2.2.1 (SM h)) bb)
def Jc:List aE:=Jb::I9
theorem qc:bc prog (bh Jc):=ap Mp l4
inductive jV where
  | r0 (a:Bool)
def Mq:jV→AE×aF
  | .r0 a=>(.ret,⟨ah 18 [(2,.bool false a)],[],0⟩)
theorem Jd:j8 Mq:=by intro x;cases x<;>(intro h;cases h)
def ED:jV→iK
  | .r0 a=>⟨.bool false a,[]⟩
def Wf(b:Bool)(c:Lv)(a:List Int)(d:Int)(e:Nat) :aF:=⟨ah 18 [(1,.ptr 0 1 0 0),(4,.int .i64 ((e:Nat):Int))],[(0,.vs [.bool false b,.imm c (.ns .u64 a) 1 1 0 (List.length a),.int .i64 d])],1⟩
def Je(a:List Int) :T ((Nat)⊕(jV)) :=
  .need (aP 0 (List.length a) a)<|.need (sH (lW (aa 0 (List.length a) a)))<|.leaf (.inl (wK (lW (aa 0 (List.length a) a))))
def Wg(a:Bool) :aF:=⟨ah 18 [(2,.bool false a)],[],0⟩
def Wh(a:Int)(b:Nat) :T ((Bool)⊕(jV)) :=
  .ask (((b:Nat):Int)==(0:Int))
    (.ask (decide (a≥(-262144:Int)))
      (.leaf (.inl (decide (a≤(262144:Int)))))
      (.leaf (.inl false)))
    (.leaf (.inl false))
def Wi(a:Bool) :T ((Empty)⊕(jV)) :=
  .leaf (.inr (.r0 a))
def db(a:List Int)(b:Int) :Option jV:=lw (aC ((Je a).run) fun c =>
  aC ((Wh b c).run) fun d =>
  (Wi d).run)
theorem Wj(c:Bool)(d:Lv)(a:List Int)(b:Int){x:jV}(h:db a b=some x) :aj prog Ec [] [.agg [.bool false c,.imm d (.ns .u64 a) 1 1 0 (List.length a),.int .i64 b]] (ED x) :=
  lM true ED Mq h (Sg.cut 2 Jd (bo qc (Wf c d a b) [⟨[],[0],[1,4]⟩]) (fun f=>Sg.cut 1 Jd (bo qc Wg [⟨[],[],[2]⟩,⟨[],[],[2]⟩,⟨[],[],[2]⟩]) (fun g=>bo qc _ [⟨[],[],[2]⟩])))
    (fun x=>by cases x with | r0 e=>exact lz [.bool false e])
def ia:Option jV→Bool
  | some _=>true
  | none=>false
def fJ:Option jV→Bool
  | some (.r0 x)=>x
  | _=>false
theorem Wl{x:Option jV}(h:ia x=true) :x=some (.r0 (fJ x)):=by
  unfold ia at h
  split at h<;>first | rfl | (cases h;done) | (rename_i y;cases y;rfl)
def Mr:aE:=bT Ec (.cons (.agg (.cons .bool (.cons (.ns .u64) (.cons (.int .i64) .nil)))) .nil) fun t=>(fun q=>[⟨ED (.r0 (fJ q)),[ia q]⟩]) (db t.1.2.1.2 t.1.2.2.1)
theorem Ow:aM prog Mr:=aJ fun t=>(aK (fun h=>Wj t.1.1 t.1.2.1.1 t.1.2.1.2 t.1.2.2.1 (Wl h)) bb)
def Ms:List aE:=Mr::Jc
theorem r6:bc prog (bh Ms):=ap Ow qc
inductive dl where
  | r0 (a:Nat) (b:Int) (c:List Int) (d:Nat) (e:List Int) (f:Nat)
def F8:dl→AE×aF
  | .r0 a b c d e f=>(.ret,⟨ah 57 [(4,.ptr 0 1 0 0),(5,.int .i64 ((a:Nat):Int))],[(0,.vs [.int .i64 b,.imm .free (.ns .u64 c) 1 1 0 d,.imm .free (.ns .u64 e) 1 1 0 f])],1⟩)
theorem Dg:j8 F8:=by intro x;cases x<;>(intro h;cases h)
def zg:dl→iK
  | .r0 a b c d e f=>⟨.tup [.agg [.int .i64 b,.imm .free (.ns .u64 c) 1 1 0 d,.imm .free (.ns .u64 e) 1 1 0 f],.int .i64 ((a:Nat):Int)],[]⟩
def Ox(c:Bool)(d:Lv)(a:List Int)(e:Int)(f:Bool)(g:Lv)(b:List Int)(h:Int)(i:Int) :aF:=⟨ah 57 [(2,.ptr 0 1 0 0),(3,.ptr 1 1 0 0),(4,.ptr 2 1 0 0),(6,.ptr 3 1 0 0)],[(0,.vs [.bool false c,.imm d (.ns .u64 a) 1 1 0 (List.length a),.int .i64 e]),(1,.vs [.bool false f,.imm g (.ns .u64 b) 1 1 0 (List.length b),.int .i64 h]),(2,.vs [.int .i64 (0:Int),.nsl,.nsl]),(3,.vs [.int .i64 i,.nsl,.nsl])],4⟩
def nr(c:List Int)(a:Int)(d:List Int)(b:Int) :T ((Int)⊕(dl)) :=
  .ask ((((List.length c):Nat):Int)==(0:Int))
    (.leaf (.inl b))
    (.ask ((((List.length d):Nat):Int)==(0:Int))
      (.leaf (.inl a))
      (.need (dI .i64 ((kP a b)-(vF a b)))<|.ask (decide (((kP a b)-(vF a b))>(262144:Int)))
        (.leaf (.inr (.r0 3 (0:Int) ([]:List Int) 0 ([]:List Int) 0)))
        (.leaf (.inl (vF a b)))))
def Oy(a:Int) :(List Int)×Nat×(List Int)×Nat→aF:=fun (b,c,d,e)=>⟨ah 57 [(4,.ptr 0 1 0 0),(6,.ptr 1 1 0 0)],[(0,.vs [.int .i64 (0:Int),.nsl,.nsl]),(1,.vs [.int .i64 a,.imm .free (.ns .u64 b) 1 1 0 c,.imm .free (.ns .u64 d) 1 1 0 e])],2⟩
def iM(c:List Int)(e:Int)(a:List Int)(d:Int)(b:Int) :T (((List Int)×Nat×(List Int)×Nat)⊕(dl)) :=
  .ask ((((List.length c):Nat):Int)==(0:Int))
    (.ask ((((List.length a):Nat):Int)==(0:Int))
      (.leaf (.inl (([]:List Int),0,([]:List Int),0)))
      (.need (dI .i64 (d-b))<|.need (aP 0 (List.length a) a)<|.need (rA (gU (aa 0 (List.length a) a) (d-b)))<|.leaf (.inl (([]:List Int),0,(mI (gU (aa 0 (List.length a) a) (d-b))),(mJ (gU (aa 0 (List.length a) a) (d-b)))))))
    (.need (dI .i64 (e-b))<|.need (aP 0 (List.length c) c)<|.need (rA (gU (aa 0 (List.length c) c) (e-b)))<|.ask ((((List.length a):Nat):Int)==(0:Int))
      (.leaf (.inl ((mI (gU (aa 0 (List.length c) c) (e-b))),(mJ (gU (aa 0 (List.length c) c) (e-b))),([]:List Int),0)))
      (.need (dI .i64 (d-b))<|.need (aP 0 (List.length a) a)<|.need (rA (gU (aa 0 (List.length a) a) (d-b)))<|.leaf (.inl ((mI (gU (aa 0 (List.length c) c) (e-b))),(mJ (gU (aa 0 (List.length c) c) (e-b))),(mI (gU (aa 0 (List.length a) a) (d-b))),(mJ (gU (aa 0 (List.length a) a) (d-b)))))))
def Oz(a:Int)(b:List Int)(c:Nat)(d:List Int)(e:Nat) :T ((Empty)⊕(dl)) :=
  .leaf (.inr (.r0 0 a b c d e))
def cK(a:List Int)(b:Int)(c:List Int)(d:Int) :Option dl:=lw (aC ((nr a b c d).run) fun e =>
  aC ((iM a b c d e).run) fun (f,g,h,i) =>
  (Oz e f g h i).run)
theorem OA(e:Bool)(f:Lv)(a:List Int)(c:Int)(g:Bool)(i:Lv)(b:List Int)(d:Int){x:dl}(h:cK a c b d=some x) :aj prog yA [] [.agg [.bool false e,.imm f (.ns .u64 a) 1 1 0 (List.length a),.int .i64 c],.agg [.bool false g,.imm i (.ns .u64 b) 1 1 0 (List.length b),.int .i64 d]] (zg x) :=
  lM true zg F8 h (Sg.cut 3 Dg (bo r6 (Ox e f a c g i b d) [⟨[],[0,16,32,176],[2,3,4,6]⟩,⟨[],[0,16,32,176],[2,3,4,6]⟩,⟨[(.cell 32 1,.fre 1 1 (.ns .u64 ([]:List Int))),(.cell 32 2,.fre 1 1 (.ns .u64 ([]:List Int)))],[32],[4,5]⟩,⟨[],[0,16,32,176],[2,3,4,6]⟩]) (fun j=>Sg.cut 2 Dg (bo r6 (Oy j) [⟨[(.cell 3 1,.fre 1 1 (.ns .u64 ([]:List Int))),(.cell 3 2,.fre 1 1 (.ns .u64 ([]:List Int)))],[2,3],[4,6]⟩,⟨[(.cell 3 1,.fre 1 1 (.ns .u64 ([]:List Int)))],[2,3],[4,6]⟩,⟨[(.cell 3 2,.fre 1 1 (.ns .u64 ([]:List Int)))],[2,3],[4,6]⟩,⟨[],[2,3],[4,6]⟩]) (fun ⟨q,r,s,t⟩=>bo r6 _ [⟨[],[0],[4,5]⟩])))
    (fun x=>by cases x with | r0 k l m n o p=>exact lz [.agg [.int .i64 l,.imm .free (.ns .u64 m) 1 1 0 n,.imm .free (.ns .u64 o) 1 1 0 p],.int .i64 ((k:Nat):Int)])
def nt:Option dl→Bool
  | some _=>true
  | none=>false
def ot:Option dl→Nat
  | some (.r0 x _ _ _ _ _)=>x
  | _=>0
def ou:Option dl→Int
  | some (.r0 _ x _ _ _ _)=>x
  | _=>0
def ov:Option dl→List Int
  | some (.r0 _ _ x _ _ _)=>x
  | _=>[]
def ow:Option dl→Nat
  | some (.r0 _ _ _ x _ _)=>x
  | _=>0
def oz:Option dl→List Int
  | some (.r0 _ _ _ _ x _)=>x
  | _=>[]
def oA:Option dl→Nat
  | some (.r0 _ _ _ _ _ x)=>x
  | _=>0
theorem OB{x:Option dl}(h:nt x=true) :x=some (.r0 (ot x) (ou x) (ov x) (ow x) (oz x) (oA x)):=by
  unfold nt at h
  split at h<;>first | rfl | (cases h;done) | (rename_i y;cases y;rfl)
def F9:aE:=bT yA (.cons (.agg (.cons .bool (.cons (.ns .u64) (.cons (.int .i64) .nil)))) (.cons (.agg (.cons .bool (.cons (.ns .u64) (.cons (.int .i64) .nil)))) .nil)) fun t=>(fun q=>[⟨zg (.r0 (ot q) (ou q) (ov q) (ow q) (oz q) (oA q)),[nt q]⟩]) (cK t.1.2.1.2 t.1.2.2.1 t.2.1.2.1.2 t.2.1.2.2.1)
theorem JQ:aM prog F9:=aJ fun t=>(aK (fun h=>OA t.1.1 t.1.2.1.1 t.1.2.1.2 t.1.2.2.1 t.2.1.1 t.2.1.2.1.1 t.2.1.2.1.2 t.2.1.2.2.1 (OB h)) bb)
def Ga:List aE:=F9::Ms
theorem oB:bc prog (bh Ga):=ap JQ r6
inductive dN where
  | r0 (a:Nat) (b:Bool) (c:List Int) (d:Nat) (e:Nat) (f:Int)
def Jf:dN→AE×aF
  | .r0 a b c d e f=>(.ret,⟨ah 11 [(2,.ptr 0 1 0 0),(3,.int .i64 ((a:Nat):Int))],[(0,.vs [.bool false b,.imm .free (.ns .u64 c) 1 1 d e,.int .i64 f])],1⟩)
theorem Gb:j8 Jf:=by intro x;cases x<;>(intro h;cases h)
def Bf:dN→iK
  | .r0 a b c d e f=>⟨.tup [.agg [.bool false b,.imm .free (.ns .u64 c) 1 1 d e,.int .i64 f],.int .i64 ((a:Nat):Int)],[]⟩
def SN:Bool×(List Int)×Nat×Nat×Int×Bool→aF:=fun (a,b,c,d,e,f)=>⟨ah 11 [(1,.ptr 0 1 0 0),(2,.ptr 1 1 0 0)],[(0,.vs [.bool false a,.imm .free (.ns .u64 b) 1 1 c d,.int .i64 e]),(1,.vs [.bool false f,.nsl,.int .i64 (0:Int)])],2⟩
def Gc(b:Bool)(a:List Int)(c:Int) :T ((Bool×(List Int)×Nat×Nat×Int×Bool)⊕(dN)) :=
  .need (aP 0 (List.length a) a)<|.need (dY (aq b (aa 0 (List.length a) a) c))<|.leaf (.inl ((cz (aq b (aa 0 (List.length a) a) c)),(cA (aq b (aa 0 (List.length a) a) c)),(cB (aq b (aa 0 (List.length a) a) c)),(cC (aq b (aa 0 (List.length a) a) c)),(cD (aq b (aa 0 (List.length a) a) c)),false))
def SO(a:Bool)(b:List Int)(c:Nat)(d:Nat)(e:Int)(f:Bool)(g:Bool) :aF:=⟨ah 11 [(1,.ptr 0 1 0 0),(2,.ptr 1 1 0 0),(8,.bool false g)],[(0,.vs [.bool false a,.imm .free (.ns .u64 b) 1 1 c d,.int .i64 e]),(1,.vs [.bool false f,.nsl,.int .i64 (0:Int)])],2⟩
def zh(a:List Int)(b:Nat)(c:Nat)(d:Int) :T ((Bool)⊕(dN)) :=
  .need (aP b c a)<|.need (ia (db (aa b c a) d))<|.leaf (.inl (!(fJ (db (aa b c a) d))))
def SP(a:Bool)(b:List Int)(c:Nat)(d:Nat)(e:Int)(f:Bool) :T ((Empty)⊕(dN)) :=
  .ask f
    (.leaf (.inr (.r0 3 false ([]:List Int) 0 0 (0:Int))))
    (.leaf (.inr (.r0 0 a b c d e)))
def bN(e:Bool)(f:List Int)(g:Int) :Option dN:=lw (aC ((Gc e f g).run) fun (h,a,b,c,d,j) =>
  aC ((zh a b c d).run) fun i =>
  (SP h a b c d i).run)
theorem SQ(b:Bool)(d:Lv)(a:List Int)(c:Int){x:dN}(h:bN b a c=some x) :aj prog AG [] [.agg [.bool false b,.imm d (.ns .u64 a) 1 1 0 (List.length a),.int .i64 c]] (Bf x) :=
  lM true Bf Jf h (Sg.cut 2 Gb (bo oB SN [⟨[],[0,16],[1,2]⟩]) (fun ⟨e,f,g,i,j,k⟩=>Sg.cut 1 Gb (bo oB (SO e f g i j k) [⟨[],[0,1],[1,2,8]⟩]) (fun r=>bo oB _ [⟨[(.cell 1 1,.fre 1 1 (.ns .u64 ([]:List Int)))],[1],[2,3]⟩,⟨[],[1],[2,3]⟩])))
    (fun x=>by cases x with | r0 l m n o p q=>exact lz [.agg [.bool false m,.imm .free (.ns .u64 n) 1 1 o p,.int .i64 q],.int .i64 ((l:Nat):Int)])
def mL:Option dN→Bool
  | some _=>true
  | none=>false
def l5:Option dN→Nat
  | some (.r0 x _ _ _ _ _)=>x
  | _=>0
def l6:Option dN→Bool
  | some (.r0 _ x _ _ _ _)=>x
  | _=>false
def l7:Option dN→List Int
  | some (.r0 _ _ x _ _ _)=>x
  | _=>[]
def l8:Option dN→Nat
  | some (.r0 _ _ _ x _ _)=>x
  | _=>0
def l9:Option dN→Nat
  | some (.r0 _ _ _ _ x _)=>x
  | _=>0
def ma:Option dN→Int
  | some (.r0 _ _ _ _ _ x)=>x
  | _=>0
theorem SS{x:Option dN}(h:mL x=true) :x=some (.r0 (l5 x) (l6 x) (l7 x) (l8 x) (l9 x) (ma x)):=by
  unfold mL at h
  split at h<;>first | rfl | (cases h;done) | (rename_i y;cases y;rfl)
def Jg:aE:=bT AG (.cons (.agg (.cons .bool (.cons (.ns .u64) (.cons (.int .i64) .nil)))) .nil) fun t=>(fun q=>[⟨Bf (.r0 (l5 q) (l6 q) (l7 q) (l8 q) (l9 q) (ma q)),[mL q]⟩]) (bN t.1.1 t.1.2.1.2 t.1.2.2.1)
theorem Mt:aM prog Jg:=aJ fun t=>(aK (fun h=>SQ t.1.1 t.1.2.1.1 t.1.2.1.2 t.1.2.2.1 (SS h)) bb)
def Jh:List aE:=Jg::Ga
theorem u6:bc prog (bh Jh):=ap Mt oB
inductive dD where
  | r0 (a:Nat) (b:Bool) (c:List Int) (d:Nat) (e:Nat) (f:Int)
def Gd:dD→AE×aF
  | .r0 a b c d e f=>(.ret,⟨ah 21 [(7,.ptr 0 1 0 0),(8,.int .i64 ((a:Nat):Int))],[(0,.vs [.bool false b,.imm .free (.ns .u64 c) 1 1 d e,.int .i64 f])],1⟩)
theorem OC:j8 Gd:=by intro x;cases x<;>(intro h;cases h)
def zi:dD→iK
  | .r0 a b c d e f=>⟨.tup [.agg [.bool false b,.imm .free (.ns .u64 c) 1 1 d e,.int .i64 f],.int .i64 ((a:Nat):Int)],[]⟩
def OD:Nat×Bool×(List Int)×Nat×Nat×Int→aF:=fun (a,b,c,d,e,f)=>⟨ah 21 [(7,.ptr 0 1 0 0),(8,.int .i64 ((a:Nat):Int))],[(0,.vs [.bool false b,.imm .free (.ns .u64 c) 1 1 d e,.int .i64 f])],1⟩
def Dh(b:Bool)(a:List Int)(d:Int)(c:Int) :T ((Nat×Bool×(List Int)×Nat×Nat×Int)⊕(dD)) :=
  .ask (d != (0:Int))
    (.leaf (.inr (.r0 3 false ([]:List Int) 0 0 (0:Int))))
    (.need (aP 0 (List.length a) a)<|.need (mL (bN b (aa 0 (List.length a) a) c))<|.leaf (.inl ((l5 (bN b (aa 0 (List.length a) a) c)),(l6 (bN b (aa 0 (List.length a) a) c)),(l7 (bN b (aa 0 (List.length a) a) c)),(l8 (bN b (aa 0 (List.length a) a) c)),(l9 (bN b (aa 0 (List.length a) a) c)),(ma (bN b (aa 0 (List.length a) a) c)))))
def OE(a:Nat)(b:Bool)(c:List Int)(d:Nat)(e:Nat)(f:Int) :T ((Empty)⊕(dD)) :=
  .leaf (.inr (.r0 a b c d e f))
def bE(a:Bool)(b:List Int)(c:Int)(d:Int) :Option dD:=lw (aC ((Dh a b c d).run) fun (e,f,g,h,i,j) =>
  (OE e f g h i j).run)
theorem OF(b:Bool)(g:Lv)(a:List Int)(c:Int)(i:Lv)(d:Int)(j:Lv)(e:List Int)(k:Lv)(f:List Int){x:dD}(h:bE b a c d=some x) :aj prog mw [] [.bool false b,.imm g (.ns .u64 a) 1 1 0 (List.length a),.int .i64 c,.iptr i (.vs [.int .i64 d,.imm j (.ns .u64 e) 1 1 0 (List.length e),.imm k (.ns .u64 f) 1 1 0 (List.length f)]) 1 0 0] (zi x) :=
  lM false zi Gd h (Sg.cut 4 OC (bo u6 OD [⟨[(.cell 0 1,.fre 1 1 (.ns .u64 ([]:List Int)))],[0],[7,8]⟩,⟨[],[0],[7,8]⟩]) (fun ⟨r,s,t,u,v,w⟩=>bo u6 _ [⟨[],[0],[7,8]⟩]))
    (fun x=>by cases x with | r0 l m n o p q=>exact lz [.agg [.bool false m,.imm .free (.ns .u64 n) 1 1 o p,.int .i64 q],.int .i64 ((l:Nat):Int)])
def lB:Option dD→Bool
  | some _=>true
  | none=>false
def kW:Option dD→Nat
  | some (.r0 x _ _ _ _ _)=>x
  | _=>0
def kX:Option dD→Bool
  | some (.r0 _ x _ _ _ _)=>x
  | _=>false
def kY:Option dD→List Int
  | some (.r0 _ _ x _ _ _)=>x
  | _=>[]
def kZ:Option dD→Nat
  | some (.r0 _ _ _ x _ _)=>x
  | _=>0
def k6:Option dD→Nat
  | some (.r0 _ _ _ _ x _)=>x
  | _=>0
def k7:Option dD→Int
  | some (.r0 _ _ _ _ _ x)=>x
  | _=>0
theorem OG{x:Option dD}(h:lB x=true) :x=some (.r0 (kW x) (kX x) (kY x) (kZ x) (k6 x) (k7 x)):=by
  unfold lB at h
  split at h<;>first | rfl | (cases h;done) | (rename_i y;cases y;rfl)
def Ge:aE:=bT mw (.cons .bool (.cons (.ns .u64) (.cons (.int .i64) (.cons (.ivs (.cons (.int .i64) (.cons (.ns .u64) (.cons (.ns .u64) .nil))) 1 0 0) .nil)))) fun t=>(fun q=>[⟨zi (.r0 (kW q) (kX q) (kY q) (kZ q) (k6 q) (k7 q)),[lB q]⟩]) (bE t.1 t.2.1.2 t.2.2.1 t.2.2.2.1.2.1)
theorem JR:aM prog Ge:=aJ fun t=>(aK (fun h=>OF t.1 t.2.1.1 t.2.1.2 t.2.2.1 t.2.2.2.1.1 t.2.2.2.1.2.1 t.2.2.2.1.2.2.1.1 t.2.2.2.1.2.2.1.2 t.2.2.2.1.2.2.2.1.1 t.2.2.2.1.2.2.2.1.2 (OG h)) bb)
def Gf:List aE:=Ge::Jh
theorem eZ:bc prog (bh Gf):=ap JR u6
inductive dc where
  | r0 (a:Nat) (b:Bool) (c:List Int) (d:Nat) (e:Nat) (f:Int)
def Mu:dc→AE×aF
  | .r0 a b c d e f=>(.ret,⟨ah 97 [(4,.ptr 0 1 0 0),(5,.int .i64 ((a:Nat):Int))],[(0,.vs [.bool false b,.imm .free (.ns .u64 c) 1 1 d e,.int .i64 f])],1⟩)
theorem mb:j8 Mu:=by intro x;cases x<;>(intro h;cases h)
def EE:dc→iK
  | .r0 a b c d e f=>⟨.tup [.agg [.bool false b,.imm .free (.ns .u64 c) 1 1 d e,.int .i64 f],.int .i64 ((a:Nat):Int)],[]⟩
def Wm(a:Lv)(b:Lv) :Nat×Bool×(List Int)×Nat×Nat×Int×Bool×(List Int)×Nat×Nat×Int×Bool→aF:=fun (c,d,e,f,g,h,i,j,k,l,m,n)=>⟨ah 97 [(2,.ptr 0 1 0 0),(3,.ptr 1 1 0 0),(4,.ptr 2 1 0 0),(6,.int .i64 ((c:Nat):Int))],[(0,.vs [.bool false d,.imm a (.ns .u64 e) 1 1 f g,.int .i64 h]),(1,.vs [.bool false i,.imm b (.ns .u64 j) 1 1 k l,.int .i64 m]),(2,.vs [.bool false n,.nsl,.int .i64 (0:Int)])],3⟩
def Bg(d : Bool)(a : List Int)(c : Int)(f : Bool)(b : List Int)(e : Int) : T ((Nat × Bool × (List Int) × Nat × Nat × Int × Bool × (List Int) × Nat × Nat × Int × Bool) ⊕ (dc)) :=
  .ask (decide ((0:Int)<(2:Int)))
    (.need (gA (0:Int) 2)<|.need (aP 0 (List.length a) a)<|.need (ia (db (aa 0 (List.length a) a) c))<|.ask (!(fJ (db (aa 0 (List.length a) a) c)))
      (.leaf (.inl (2,d,a,0,(List.length a),c,f,b,0,(List.length b),e,false)))
      (.need (aP 0 (List.length a) a)<|.need (dY (aq d (aa 0 (List.length a) a) c))<|.need (dI .i64 (1:Int))<|.ask (decide ((1:Int)<(2:Int)))
        (.need (gA (1:Int) 2)<|.need (aP 0 (List.length b) b)<|.need (ia (db (aa 0 (List.length b) b) e))<|.ask (!(fJ (db (aa 0 (List.length b) b) e)))
          (.leaf (.inl (2,(cz (aq d (aa 0 (List.length a) a) c)),(cA (aq d (aa 0 (List.length a) a) c)),(cB (aq d (aa 0 (List.length a) a) c)),(cC (aq d (aa 0 (List.length a) a) c)),(cD (aq d (aa 0 (List.length a) a) c)),f,b,0,(List.length b),e,false)))
          (.need (aP 0 (List.length b) b)<|.need (dY (aq f (aa 0 (List.length b) b) e))<|.need (dI .i64 (2:Int))<|.ask (decide ((2:Int)<(2:Int)))
            (.fail)
            (.leaf (.inl (0,(cz (aq d (aa 0 (List.length a) a) c)),(cA (aq d (aa 0 (List.length a) a) c)),(cB (aq d (aa 0 (List.length a) a) c)),(cC (aq d (aa 0 (List.length a) a) c)),(cD (aq d (aa 0 (List.length a) a) c)),(cz (aq f (aa 0 (List.length b) b) e)),(cA (aq f (aa 0 (List.length b) b) e)),(cB (aq f (aa 0 (List.length b) b) e)),(cC (aq f (aa 0 (List.length b) b) e)),(cD (aq f (aa 0 (List.length b) b) e)),false)))))
        (.fail)))
    (.fail)
def Wn(a:Lv)(b:Lv)(c:Bool)(d:List Int)(e:Nat)(f:Nat)(g:Int)(h:Bool)(i:List Int)(j:Nat)(k:Nat)(l:Int)(m:Bool) :Nat×Int×(List Int)×Nat×(List Int)×Nat→aF:=fun (n,o,p,q,r,s)=>⟨ah 97 [(2,.ptr 0 1 0 0),(3,.ptr 1 1 0 0),(4,.ptr 2 1 0 0),(7,.ptr 3 1 0 0),(8,.int .i64 ((n:Nat):Int))],[(0,.vs [.bool false c,.imm a (.ns .u64 d) 1 1 e f,.int .i64 g]),(1,.vs [.bool false h,.imm b (.ns .u64 i) 1 1 j k,.int .i64 l]),(2,.vs [.bool false m,.nsl,.int .i64 (0:Int)]),(3,.vs [.int .i64 o,.imm .free (.ns .u64 p) 1 1 0 q,.imm .free (.ns .u64 r) 1 1 0 s])],4⟩
def zj(i:Nat)(a:List Int)(b:Nat)(c:Nat)(g:Int)(d:List Int)(e:Nat)(f:Nat)(h:Int) :T ((Nat×Int×(List Int)×Nat×(List Int)×Nat)⊕(dc)) :=
  .ask (((i:Nat):Int) != (0:Int))
    (.leaf (.inr (.r0 i false ([]:List Int) 0 0 (0:Int))))
    (.need (aP b c a)<|.need (aP e f d)<|.need (nt (cK (aa b c a) g (aa e f d) h))<|.leaf (.inl ((ot (cK (aa b c a) g (aa e f d) h)),(ou (cK (aa b c a) g (aa e f d) h)),(ov (cK (aa b c a) g (aa e f d) h)),(ow (cK (aa b c a) g (aa e f d) h)),(oz (cK (aa b c a) g (aa e f d) h)),(oA (cK (aa b c a) g (aa e f d) h)))))
def Wo(a:Lv)(b:Lv)(c:Bool)(d:List Int)(e:Nat)(f:Nat)(g:Int)(h:Bool)(i:List Int)(j:Nat)(k:Nat)(l:Int)(m:Bool)(n:Int)(o:List Int)(p:Nat)(q:List Int)(r:Nat)(_:Unit) :aF:=⟨ah 97 [(2,.ptr 0 1 0 0),(3,.ptr 1 1 0 0),(4,.ptr 2 1 0 0),(7,.ptr 3 1 0 0),(9,.fn (.func mw) [] [.ptr 3 1 0 0])],[(0,.vs [.bool false c,.imm a (.ns .u64 d) 1 1 e f,.int .i64 g]),(1,.vs [.bool false h,.imm b (.ns .u64 i) 1 1 j k,.int .i64 l]),(2,.vs [.bool false m,.nsl,.int .i64 (0:Int)]),(3,.vs [.int .i64 n,.imm .free (.ns .u64 o) 1 1 0 p,.imm .free (.ns .u64 q) 1 1 0 r])],4⟩
def qd(e:Bool)(h:Bool)(g:Nat)(f:Int)(a:List Int)(b:Nat)(c:List Int)(d:Nat) :T ((Unit)⊕(dc)) :=
  .ask (((g:Nat):Int) != (0:Int))
    (.leaf (.inr (.r0 g false ([]:List Int) 0 0 (0:Int))))
    (.ask (e==h)
      (.need (aP 0 b a)<|.need (aP 0 d c)<|.need (uW (bD (aa 0 b a) (aa 0 d c)))<|.need (aP (fO (bD (aa 0 b a) (aa 0 d c))) (fP (bD (aa 0 b a) (aa 0 d c))) (fQ (bD (aa 0 b a) (aa 0 d c))))<|.need (aP 0 b a)<|.need (aP 0 d c)<|.need (lB (bE e (aa (fO (bD (aa 0 b a) (aa 0 d c))) (fP (bD (aa 0 b a) (aa 0 d c))) (fQ (bD (aa 0 b a) (aa 0 d c)))) (((g7 (bD (aa 0 b a) (aa 0 d c))):Nat):Int) f))<|.leaf (.inr (.r0 (kW (bE e (aa (fO (bD (aa 0 b a) (aa 0 d c))) (fP (bD (aa 0 b a) (aa 0 d c))) (fQ (bD (aa 0 b a) (aa 0 d c)))) (((g7 (bD (aa 0 b a) (aa 0 d c))):Nat):Int) f)) (kX (bE e (aa (fO (bD (aa 0 b a) (aa 0 d c))) (fP (bD (aa 0 b a) (aa 0 d c))) (fQ (bD (aa 0 b a) (aa 0 d c)))) (((g7 (bD (aa 0 b a) (aa 0 d c))):Nat):Int) f)) (kY (bE e (aa (fO (bD (aa 0 b a) (aa 0 d c))) (fP (bD (aa 0 b a) (aa 0 d c))) (fQ (bD (aa 0 b a) (aa 0 d c)))) (((g7 (bD (aa 0 b a) (aa 0 d c))):Nat):Int) f)) (kZ (bE e (aa (fO (bD (aa 0 b a) (aa 0 d c))) (fP (bD (aa 0 b a) (aa 0 d c))) (fQ (bD (aa 0 b a) (aa 0 d c)))) (((g7 (bD (aa 0 b a) (aa 0 d c))):Nat):Int) f)) (k6 (bE e (aa (fO (bD (aa 0 b a) (aa 0 d c))) (fP (bD (aa 0 b a) (aa 0 d c))) (fQ (bD (aa 0 b a) (aa 0 d c)))) (((g7 (bD (aa 0 b a) (aa 0 d c))):Nat):Int) f)) (k7 (bE e (aa (fO (bD (aa 0 b a) (aa 0 d c))) (fP (bD (aa 0 b a) (aa 0 d c))) (fQ (bD (aa 0 b a) (aa 0 d c)))) (((g7 (bD (aa 0 b a) (aa 0 d c))):Nat):Int) f)))))
      (.leaf (.inl ())))
def Wp(a:Lv)(b:Lv)(c:Bool)(d:List Int)(e:Nat)(f:Nat)(g:Int)(h:Bool)(i:List Int)(j:Nat)(k:Nat)(l:Int)(m:Bool)(n:Int)(o:List Int)(p:Nat)(q:List Int)(r:Nat)(s:Int) :aF:=⟨ah 97 [(2,.ptr 0 1 0 0),(3,.ptr 1 1 0 0),(4,.ptr 2 1 0 0),(7,.ptr 3 1 0 0),(9,.fn (.func mw) [] [.ptr 3 1 0 0]),(12,.int .i64 s)],[(0,.vs [.bool false c,.imm a (.ns .u64 d) 1 1 e f,.int .i64 g]),(1,.vs [.bool false h,.imm b (.ns .u64 i) 1 1 j k,.int .i64 l]),(2,.vs [.bool false m,.nsl,.int .i64 (0:Int)]),(3,.vs [.int .i64 n,.imm .free (.ns .u64 o) 1 1 0 p,.imm .free (.ns .u64 q) 1 1 0 r])],4⟩
def zk(a:List Int)(b:Nat)(c:List Int)(d:Nat) :T ((Int)⊕(dc)) :=
  .need (aP 0 b a)<|.need (aP 0 d c)<|.need (uV (rr (aa 0 b a) (aa 0 d c)))<|.leaf (.inl (uc (rr (aa 0 b a) (aa 0 d c))))
def Wq(a:Lv)(b:Bool)(c:List Int)(d:Nat)(e:Nat)(f:Int)(g:Bool)(h:Int)(i:List Int)(j:Nat)(k:List Int)(l:Nat)(_:Unit) :aF:=⟨ah 97 [(2,.ptr 0 1 0 0),(4,.ptr 1 1 0 0),(7,.ptr 2 1 0 0),(9,.fn (.func mw) [] [.ptr 2 1 0 0])],[(0,.vs [.bool false b,.imm a (.ns .u64 c) 1 1 d e,.int .i64 f]),(1,.vs [.bool false g,.nsl,.int .i64 (0:Int)]),(2,.vs [.int .i64 h,.imm .free (.ns .u64 i) 1 1 0 j,.imm .free (.ns .u64 k) 1 1 0 l])],3⟩
def zl(e:Bool)(f:Int)(a:List Int)(b:Nat)(c:List Int)(d:Nat)(g:Int) :T ((Unit)⊕(dc)) :=
  .ask (decide (g<(0:Int)))
    (.need (aP 0 d c)<|.need (aP 0 b a)<|.need (ru (bu (aa 0 d c) (aa 0 b a)))<|.need (aP (eX (bu (aa 0 d c) (aa 0 b a))) (eY (bu (aa 0 d c) (aa 0 b a))) (eV (bu (aa 0 d c) (aa 0 b a))))<|.need (aP 0 b a)<|.need (aP 0 d c)<|.need (lB (bE e (aa (eX (bu (aa 0 d c) (aa 0 b a))) (eY (bu (aa 0 d c) (aa 0 b a))) (eV (bu (aa 0 d c) (aa 0 b a)))) (((fR (bu (aa 0 d c) (aa 0 b a))):Nat):Int) f))<|.leaf (.inr (.r0 (kW (bE e (aa (eX (bu (aa 0 d c) (aa 0 b a))) (eY (bu (aa 0 d c) (aa 0 b a))) (eV (bu (aa 0 d c) (aa 0 b a)))) (((fR (bu (aa 0 d c) (aa 0 b a))):Nat):Int) f)) (kX (bE e (aa (eX (bu (aa 0 d c) (aa 0 b a))) (eY (bu (aa 0 d c) (aa 0 b a))) (eV (bu (aa 0 d c) (aa 0 b a)))) (((fR (bu (aa 0 d c) (aa 0 b a))):Nat):Int) f)) (kY (bE e (aa (eX (bu (aa 0 d c) (aa 0 b a))) (eY (bu (aa 0 d c) (aa 0 b a))) (eV (bu (aa 0 d c) (aa 0 b a)))) (((fR (bu (aa 0 d c) (aa 0 b a))):Nat):Int) f)) (kZ (bE e (aa (eX (bu (aa 0 d c) (aa 0 b a))) (eY (bu (aa 0 d c) (aa 0 b a))) (eV (bu (aa 0 d c) (aa 0 b a)))) (((fR (bu (aa 0 d c) (aa 0 b a))):Nat):Int) f)) (k6 (bE e (aa (eX (bu (aa 0 d c) (aa 0 b a))) (eY (bu (aa 0 d c) (aa 0 b a))) (eV (bu (aa 0 d c) (aa 0 b a)))) (((fR (bu (aa 0 d c) (aa 0 b a))):Nat):Int) f)) (k7 (bE e (aa (eX (bu (aa 0 d c) (aa 0 b a))) (eY (bu (aa 0 d c) (aa 0 b a))) (eV (bu (aa 0 d c) (aa 0 b a)))) (((fR (bu (aa 0 d c) (aa 0 b a))):Nat):Int) f)))))
    (.leaf (.inl ()))
def Wr(a:Lv)(b:Bool)(c:List Int)(d:Nat)(e:Nat)(f:Int)(g:Bool)(h:Int)(i:List Int)(j:Nat)(k:List Int)(l:Nat) :Nat×(List Int)×Nat×Nat→aF:=fun (m,n,o,p)=>⟨ah 97 [(2,.ptr 0 1 0 0),(4,.ptr 1 1 0 0),(8,.int .i64 ((m:Nat):Int)),(9,.fn (.func mw) [] [.ptr 2 1 0 0]),(16,.imm .free (.ns .u64 n) 1 1 o p)],[(0,.vs [.bool false b,.imm a (.ns .u64 c) 1 1 d e,.int .i64 f]),(1,.vs [.bool false g,.nsl,.int .i64 (0:Int)]),(2,.vs [.int .i64 h,.imm .free (.ns .u64 i) 1 1 0 j,.imm .free (.ns .u64 k) 1 1 0 l])],3⟩
def zm(a:List Int)(b:Nat)(c:List Int)(d:Nat) :T ((Nat×(List Int)×Nat×Nat)⊕(dc)) :=
  .need (aP 0 b a)<|.need (aP 0 d c)<|.need (ru (bu (aa 0 b a) (aa 0 d c)))<|.leaf (.inl ((fR (bu (aa 0 b a) (aa 0 d c))),(eV (bu (aa 0 b a) (aa 0 d c))),(eX (bu (aa 0 b a) (aa 0 d c))),(eY (bu (aa 0 b a) (aa 0 d c)))))
def Ws:Nat×Bool×(List Int)×Nat×Nat×Int→aF:=fun (a,b,c,d,e,f)=>⟨ah 97 [(4,.ptr 0 1 0 0),(5,.int .i64 ((a:Nat):Int))],[(0,.vs [.bool false b,.imm .free (.ns .u64 c) 1 1 d e,.int .i64 f])],1⟩
def zo(d:Bool)(e:Int)(g:List Int)(h:Nat)(i:List Int)(j:Nat)(f:Nat)(a:List Int)(b:Nat)(c:Nat) :T ((Nat×Bool×(List Int)×Nat×Nat×Int)⊕(dc)) :=
  .need (aP b c a)<|.need (aP 0 h g)<|.need (aP 0 j i)<|.need (lB (bE d (aa b c a) ((f:Nat):Int) e))<|.leaf (.inl ((kW (bE d (aa b c a) ((f:Nat):Int) e)),(kX (bE d (aa b c a) ((f:Nat):Int) e)),(kY (bE d (aa b c a) ((f:Nat):Int) e)),(kZ (bE d (aa b c a) ((f:Nat):Int) e)),(k6 (bE d (aa b c a) ((f:Nat):Int) e)),(k7 (bE d (aa b c a) ((f:Nat):Int) e))))
def ST(a:Nat)(b:Bool)(c:List Int)(d:Nat)(e:Nat)(f:Int) :T ((Empty)⊕(dc)) :=
  .leaf (.inr (.r0 a b c d e f))
def ch(h:Bool)(i:List Int)(j:Int)(k:Bool)(l:List Int)(m:Int) :Option dc:=lw (aC ((Bg h i j k l m).run) fun (n,f,o,p,q,r,g,s,t,u,v,I) =>
  aC ((zj n o p q r s t u v).run) fun (w,e,a,b,c,d) =>
  aC ((qd f g w e a b c d).run) fun _ =>
  aC ((zk a b c d).run) fun x =>
  aC ((zl g e a b c d x).run) fun _ =>
  aC ((zm a b c d).run) fun (y,z,A,B) =>
  aC ((zo f e a b c d y z A B).run) fun (C,D,E,F,G,H) =>
  (ST C D E F G H).run)
theorem Wt(v:Bool)(a:Lv)(o:List Int)(w:Int)(y:Bool)(b:Lv)(p:List Int)(z:Int){x:dc}(h:ch v o w y p z=some x) :aj prog Ea [] [.agg [.bool false v,.imm a (.ns .u64 o) 1 1 0 (List.length o),.int .i64 w],.agg [.bool false y,.imm b (.ns .u64 p) 1 1 0 (List.length p),.int .i64 z]] (EE x) :=
  lM true EE Mu h (Sg.cut 2 mb (bo eZ (Wm a b) [⟨[],[0,16,32],[2,3,4,6]⟩,⟨[(.cell 0 1,.lev a)],[0,16,32],[2,3,4,6]⟩,⟨[(.cell 0 1,.lev a),(.cell 16 1,.lev b)],[0,16,32],[2,3,4,6]⟩]) (fun ⟨G,c,d,e,f,g,q,r,s,t,u,i⟩=>Sg.cut 3 mb (bo eZ (Wn a b c d e f g q r s t u i) [⟨[(.cell 2 1,.fre 1 1 (.ns .u64 ([]:List Int)))],[2],[4,5]⟩,⟨[],[0,1,2,131],[2,3,4,7,8]⟩]) (fun ⟨H,j,k,l,m,n⟩=>Sg.cut 5 mb (bo eZ (Wo a b c d e f g q r s t u i j k l m n) [⟨[(.cell 2 1,.fre 1 1 (.ns .u64 ([]:List Int)))],[2],[4,5]⟩,⟨[],[2],[4,5]⟩,⟨[],[0,1,2,3],[2,3,4,7,9]⟩]) (fun _=>Sg.cut 1 mb (bo eZ (Wp a b c d e f g q r s t u i j k l m n) [⟨[],[0,1,2,3],[2,3,4,7,9,12]⟩]) (fun I=>Sg.cut 2 mb (bo eZ (Wq a c d e f g i j k l m n) [⟨[],[2],[4,5]⟩,⟨[],[0,2,3],[2,4,7,9]⟩]) (fun _=>Sg.cut 1 mb (bo eZ (Wr a c d e f g i j k l m n) [⟨[],[0,1,2],[2,4,8,9,16]⟩]) (fun ⟨J,K,L,M⟩=>Sg.cut 1 mb (bo eZ Ws [⟨[],[1],[4,5]⟩]) (fun ⟨N,O,P,Q,R,S⟩=>bo eZ _ [⟨[],[0],[4,5]⟩]))))))))
    (fun x=>by cases x with | r0 A B C D E F=>exact lz [.agg [.bool false B,.imm .free (.ns .u64 C) 1 1 D E,.int .i64 F],.int .i64 ((A:Nat):Int)])
def sN:Option dc→Bool
  | some _=>true
  | none=>false
def lC:Option dc→Nat
  | some (.r0 x _ _ _ _ _)=>x
  | _=>0
def nu:Option dc→Bool
  | some (.r0 _ x _ _ _ _)=>x
  | _=>false
def nv:Option dc→List Int
  | some (.r0 _ _ x _ _ _)=>x
  | _=>[]
def nw:Option dc→Nat
  | some (.r0 _ _ _ x _ _)=>x
  | _=>0
def nA:Option dc→Nat
  | some (.r0 _ _ _ _ x _)=>x
  | _=>0
def nB:Option dc→Int
  | some (.r0 _ _ _ _ _ x)=>x
  | _=>0
theorem Wu{x:Option dc}(h:sN x=true) :x=some (.r0 (lC x) (nu x) (nv x) (nw x) (nA x) (nB x)):=by
  unfold sN at h
  split at h<;>first | rfl | (cases h;done) | (rename_i y;cases y;rfl)
def Mv:aE:=bT Ea (.cons (.agg (.cons .bool (.cons (.ns .u64) (.cons (.int .i64) .nil)))) (.cons (.agg (.cons .bool (.cons (.ns .u64) (.cons (.int .i64) .nil)))) .nil)) fun t=>(fun q=>[⟨EE (.r0 (lC q) (nu q) (nv q) (nw q) (nA q) (nB q)),[sN q]⟩]) (ch t.1.1 t.1.2.1.2 t.1.2.2.1 t.2.1.1 t.2.1.2.1.2 t.2.1.2.2.1)
theorem OH:aM prog Mv:=aJ fun t=>(aK (fun h=>Wt t.1.1 t.1.2.1.1 t.1.2.1.2 t.1.2.2.1 t.2.1.1 t.2.1.2.1.1 t.2.1.2.1.2 t.2.1.2.2.1 (Wu h)) bb)
def Mw:List aE:=Mv::Gf
theorem nC:bc prog (bh Mw):=ap OH eZ
inductive d8 where
  | r0 (a:Nat) (b:Bool) (c:List Int) (d:Nat) (e:Nat) (f:Int)
def Mx:d8→AE×aF
  | .r0 a b c d e f=>(.ret,⟨ah 41 [(4,.ptr 0 1 0 0),(5,.int .i64 ((a:Nat):Int))],[(0,.vs [.bool false b,.imm .free (.ns .u64 c) 1 1 d e,.int .i64 f])],1⟩)
theorem Bh:j8 Mx:=by intro x;cases x<;>(intro h;cases h)
def EF:d8→iK
  | .r0 a b c d e f=>⟨.tup [.agg [.bool false b,.imm .free (.ns .u64 c) 1 1 d e,.int .i64 f],.int .i64 ((a:Nat):Int)],[]⟩
def Wv(a:Lv)(b:Lv) :Nat×Bool×(List Int)×Nat×Nat×Int×Bool×(List Int)×Nat×Nat×Int×Bool→aF:=fun (c,d,e,f,g,h,i,j,k,l,m,n)=>⟨ah 41 [(2,.ptr 0 1 0 0),(3,.ptr 1 1 0 0),(4,.ptr 2 1 0 0),(6,.int .i64 ((c:Nat):Int))],[(0,.vs [.bool false d,.imm a (.ns .u64 e) 1 1 f g,.int .i64 h]),(1,.vs [.bool false i,.imm b (.ns .u64 j) 1 1 k l,.int .i64 m]),(2,.vs [.bool false n,.nsl,.int .i64 (0:Int)])],3⟩
def Ji(d : Bool)(a : List Int)(c : Int)(f : Bool)(b : List Int)(e : Int) : T ((Nat × Bool × (List Int) × Nat × Nat × Int × Bool × (List Int) × Nat × Nat × Int × Bool) ⊕ (d8)) :=
  .ask (decide ((0:Int)<(2:Int)))
    (.need (gA (0:Int) 2)<|.need (aP 0 (List.length a) a)<|.need (ia (db (aa 0 (List.length a) a) c))<|.ask (!(fJ (db (aa 0 (List.length a) a) c)))
      (.leaf (.inl (2,d,a,0,(List.length a),c,f,b,0,(List.length b),e,false)))
      (.need (aP 0 (List.length a) a)<|.need (dY (aq d (aa 0 (List.length a) a) c))<|.need (dI .i64 (1:Int))<|.ask (decide ((1:Int)<(2:Int)))
        (.need (gA (1:Int) 2)<|.need (aP 0 (List.length b) b)<|.need (ia (db (aa 0 (List.length b) b) e))<|.ask (!(fJ (db (aa 0 (List.length b) b) e)))
          (.leaf (.inl (2,(cz (aq d (aa 0 (List.length a) a) c)),(cA (aq d (aa 0 (List.length a) a) c)),(cB (aq d (aa 0 (List.length a) a) c)),(cC (aq d (aa 0 (List.length a) a) c)),(cD (aq d (aa 0 (List.length a) a) c)),f,b,0,(List.length b),e,false)))
          (.need (aP 0 (List.length b) b)<|.need (dY (aq f (aa 0 (List.length b) b) e))<|.need (dI .i64 (2:Int))<|.ask (decide ((2:Int)<(2:Int)))
            (.fail)
            (.leaf (.inl (0,(cz (aq d (aa 0 (List.length a) a) c)),(cA (aq d (aa 0 (List.length a) a) c)),(cB (aq d (aa 0 (List.length a) a) c)),(cC (aq d (aa 0 (List.length a) a) c)),(cD (aq d (aa 0 (List.length a) a) c)),(cz (aq f (aa 0 (List.length b) b) e)),(cA (aq f (aa 0 (List.length b) b) e)),(cB (aq f (aa 0 (List.length b) b) e)),(cC (aq f (aa 0 (List.length b) b) e)),(cD (aq f (aa 0 (List.length b) b) e)),false)))))
        (.fail)))
    (.fail)
def Ww(a:Lv)(b:Lv)(c:Bool)(d:List Int)(e:Nat)(f:Nat)(g:Int)(h:Bool)(i:List Int)(j:Nat)(k:Nat)(l:Int)(m:Bool) :(List Int)×Nat×Nat×Nat→aF:=fun (n,o,p,q)=>⟨ah 41 [(2,.ptr 0 1 0 0),(3,.ptr 1 1 0 0),(4,.ptr 2 1 0 0),(7,.imm .free (.ns .u64 n) 1 1 o p),(8,.int .i64 ((q:Nat):Int))],[(0,.vs [.bool false c,.imm a (.ns .u64 d) 1 1 e f,.int .i64 g]),(1,.vs [.bool false h,.imm b (.ns .u64 i) 1 1 j k,.int .i64 l]),(2,.vs [.bool false m,.nsl,.int .i64 (0:Int)])],3⟩
def Bi(g:Nat)(a:List Int)(b:Nat)(c:Nat)(d:List Int)(e:Nat)(f:Nat) :T (((List Int)×Nat×Nat×Nat)⊕(d8)) :=
  .ask (((g:Nat):Int) != (0:Int))
    (.leaf (.inr (.r0 g false ([]:List Int) 0 0 (0:Int))))
    (.need (aP b c a)<|.need (aP e f d)<|.need (yS (pB (aa b c a) (aa e f d)))<|.leaf (.inl ((yW (pB (aa b c a) (aa e f d))),(yT (pB (aa b c a) (aa e f d))),(yU (pB (aa b c a) (aa e f d))),(yV (pB (aa b c a) (aa e f d))))))
def Wx:Nat×Bool×(List Int)×Nat×Nat×Int→aF:=fun (a,b,c,d,e,f)=>⟨ah 41 [(4,.ptr 0 1 0 0),(5,.int .i64 ((a:Nat):Int))],[(0,.vs [.bool false b,.imm .free (.ns .u64 c) 1 1 d e,.int .i64 f])],1⟩
def Bj(f:Bool)(a:Int)(g:Bool)(b:Int)(c:List Int)(d:Nat)(e:Nat)(h:Nat) :T ((Nat×Bool×(List Int)×Nat×Nat×Int)⊕(d8)) :=
  .ask (((h:Nat):Int) != (0:Int))
    (.leaf (.inr (.r0 3 false ([]:List Int) 0 0 (0:Int))))
    (.need (dI .i64 (a+b))<|.need (aP d e c)<|.need (mL (bN (!(f==g)) (aa d e c) (a+b)))<|.leaf (.inl ((l5 (bN (!(f==g)) (aa d e c) (a+b))),(l6 (bN (!(f==g)) (aa d e c) (a+b))),(l7 (bN (!(f==g)) (aa d e c) (a+b))),(l8 (bN (!(f==g)) (aa d e c) (a+b))),(l9 (bN (!(f==g)) (aa d e c) (a+b))),(ma (bN (!(f==g)) (aa d e c) (a+b))))))
def Wy(a:Nat)(b:Bool)(c:List Int)(d:Nat)(e:Nat)(f:Int) :T ((Empty)⊕(d8)) :=
  .leaf (.inr (.r0 a b c d e f))
def ak(a:Bool)(b:List Int)(c:Int)(d:Bool)(e:List Int)(f:Int) :Option d8:=lw (aC ((Ji a b c d e f).run) fun (g,h,i,j,k,l,m,n,o,p,q,B) =>
  aC ((Bi g i j k n o p).run) fun (r,s,t,u) =>
  aC ((Bj h l m q r s t u).run) fun (v,w,x,y,z,A) =>
  (Wy v w x y z A).run)
theorem Wz(e:Bool)(a:Lv)(c:List Int)(f:Int)(g:Bool)(b:Lv)(d:List Int)(i:Int){x:d8}(h:ak e c f g d i=some x) :aj prog D7 [] [.agg [.bool false e,.imm a (.ns .u64 c) 1 1 0 (List.length c),.int .i64 f],.agg [.bool false g,.imm b (.ns .u64 d) 1 1 0 (List.length d),.int .i64 i]] (EF x) :=
  lM true EF Mx h (Sg.cut 2 Bh (bo nC (Wv a b) [⟨[],[0,16,32],[2,3,4,6]⟩,⟨[(.cell 0 1,.lev a)],[0,16,32],[2,3,4,6]⟩,⟨[(.cell 0 1,.lev a),(.cell 16 1,.lev b)],[0,16,32],[2,3,4,6]⟩]) (fun ⟨B,j,k,l,m,n,o,p,q,r,s,t⟩=>Sg.cut 3 Bh (bo nC (Ww a b j k l m n o p q r s t) [⟨[(.cell 2 1,.fre 1 1 (.ns .u64 ([]:List Int)))],[2],[4,5]⟩,⟨[],[0,1,2],[2,3,4,7,8]⟩]) (fun ⟨C,D,E,F⟩=>Sg.cut 3 Bh (bo nC Wx [⟨[(.cell 2 1,.fre 1 1 (.ns .u64 ([]:List Int)))],[2],[4,5]⟩,⟨[],[2],[4,5]⟩]) (fun ⟨G,H,I,J,K,L⟩=>bo nC _ [⟨[],[0],[4,5]⟩]))))
    (fun x=>by cases x with | r0 u v w y z A=>exact lz [.agg [.bool false v,.imm .free (.ns .u64 w) 1 1 y z,.int .i64 A],.int .i64 ((u:Nat):Int)])
def kt:Option d8→Bool
  | some _=>true
  | none=>false
def iN:Option d8→Nat
  | some (.r0 x _ _ _ _ _)=>x
  | _=>0
def bO:Option d8→Bool
  | some (.r0 _ x _ _ _ _)=>x
  | _=>false
def bG:Option d8→List Int
  | some (.r0 _ _ x _ _ _)=>x
  | _=>[]
def bH:Option d8→Nat
  | some (.r0 _ _ _ x _ _)=>x
  | _=>0
def bJ:Option d8→Nat
  | some (.r0 _ _ _ _ x _)=>x
  | _=>0
def bP:Option d8→Int
  | some (.r0 _ _ _ _ _ x)=>x
  | _=>0
theorem WA{x:Option d8}(h:kt x=true) :x=some (.r0 (iN x) (bO x) (bG x) (bH x) (bJ x) (bP x)):=by
  unfold kt at h
  split at h<;>first | rfl | (cases h;done) | (rename_i y;cases y;rfl)
def My:aE:=bT D7 (.cons (.agg (.cons .bool (.cons (.ns .u64) (.cons (.int .i64) .nil)))) (.cons (.agg (.cons .bool (.cons (.ns .u64) (.cons (.int .i64) .nil)))) .nil)) fun t=>(fun q=>[⟨EF (.r0 (iN q) (bO q) (bG q) (bH q) (bJ q) (bP q)),[kt q]⟩]) (ak t.1.1 t.1.2.1.2 t.1.2.2.1 t.2.1.1 t.2.1.2.1.2 t.2.1.2.2.1)
theorem OI:aM prog My:=aJ fun t=>(aK (fun h=>Wz t.1.1 t.1.2.1.1 t.1.2.1.2 t.1.2.2.1 t.2.1.1 t.2.1.2.1.1 t.2.1.2.1.2 t.2.1.2.2.1 (WA h)) bb)
def Mz:List aE:=My::Mw
theorem Di:bc prog (bh Mz):=ap OI nC
inductive ku where
  | r0 (a:Int)
def WB:ku→AE×aF
  | .r0 a=>(.ret,⟨ah 11 [(2,.int .i64 a)],[],0⟩)
def Bk:ku→iK
  | .r0 a=>⟨.int .i64 a,[]⟩
def Gg(a:Bool)(b:List Int) :T ((Empty)⊕(ku)) :=
  .ask ((((List.length b):Nat):Int)==(0:Int))
    (.leaf (.inr (.r0 (0:Int))))
    (.ask a
      (.leaf (.inr (.r0 (-1:Int))))
      (.leaf (.inr (.r0 (1:Int)))))
def fv(a:Bool)(b:List Int) :Option ku:=lw ((Gg a b).run)
theorem SU(b:Bool)(c:Lv)(a:List Int)(d:Int){x:ku}(h:fv b a=some x) :aj prog AH [] [.agg [.bool false b,.imm c (.ns .u64 a) 1 1 0 (List.length a),.int .i64 d]] (Bk x) :=
  lM true Bk WB h (bo Di _ [⟨[],[],[2]⟩,⟨[],[],[2]⟩,⟨[],[],[2]⟩])
    (fun x=>by cases x with | r0 e=>exact lz [.int .i64 e])
def g8:Option ku→Bool
  | some _=>true
  | none=>false
def dO:Option ku→Int
  | some (.r0 x)=>x
  | _=>0
theorem SV{x:Option ku}(h:g8 x=true) :x=some (.r0 (dO x)):=by
  unfold g8 at h
  split at h<;>first | rfl | (cases h;done) | (rename_i y;cases y;rfl)
def Jj:aE:=bT AH (.cons (.agg (.cons .bool (.cons (.ns .u64) (.cons (.int .i64) .nil)))) .nil) fun t=>(fun q=>[⟨Bk (.r0 (dO q)),[g8 q]⟩]) (fv t.1.1 t.1.2.1.2)
theorem MA:aM prog Jj:=aJ fun t=>(aK (fun h=>SU t.1.1 t.1.2.1.1 t.1.2.1.2 t.1.2.2.1 (SV h)) bb)
def Jk:List aE:=Jj::Mz
theorem kf:bc prog (bh Jk):=ap MA Di
inductive gW where
  | r0 (a:Int) (b:Nat)
def MB:gW→AE×aF
  | .r0 a b=>(.ret,⟨ah 52 [(4,.int .i64 a),(5,.int .i64 ((b:Nat):Int))],[],0⟩)
theorem wj:j8 MB:=by intro x;cases x<;>(intro h;cases h)
def EG:gW→iK
  | .r0 a b=>⟨.tup [.int .i64 a,.int .i64 ((b:Nat):Int)],[]⟩
def WC(a:Lv)(b:Lv) :Nat×Bool×(List Int)×Nat×Nat×Int×Bool×(List Int)×Nat×Nat×Int→aF:=fun (c,d,e,f,g,h,i,j,k,l,m)=>⟨ah 52 [(2,.ptr 0 1 0 0),(3,.ptr 1 1 0 0),(6,.int .i64 ((c:Nat):Int))],[(0,.vs [.bool false d,.imm a (.ns .u64 e) 1 1 f g,.int .i64 h]),(1,.vs [.bool false i,.imm b (.ns .u64 j) 1 1 k l,.int .i64 m])],2⟩
def Jl(d : Bool)(a : List Int)(c : Int)(f : Bool)(b : List Int)(e : Int) : T ((Nat × Bool × (List Int) × Nat × Nat × Int × Bool × (List Int) × Nat × Nat × Int) ⊕ (gW)) :=
  .ask (decide ((0:Int)<(2:Int)))
    (.need (gA (0:Int) 2)<|.need (aP 0 (List.length a) a)<|.need (ia (db (aa 0 (List.length a) a) c))<|.ask (!(fJ (db (aa 0 (List.length a) a) c)))
      (.leaf (.inl (2,d,a,0,(List.length a),c,f,b,0,(List.length b),e)))
      (.need (aP 0 (List.length a) a)<|.need (dY (aq d (aa 0 (List.length a) a) c))<|.need (dI .i64 (1:Int))<|.ask (decide ((1:Int)<(2:Int)))
        (.need (gA (1:Int) 2)<|.need (aP 0 (List.length b) b)<|.need (ia (db (aa 0 (List.length b) b) e))<|.ask (!(fJ (db (aa 0 (List.length b) b) e)))
          (.leaf (.inl (2,(cz (aq d (aa 0 (List.length a) a) c)),(cA (aq d (aa 0 (List.length a) a) c)),(cB (aq d (aa 0 (List.length a) a) c)),(cC (aq d (aa 0 (List.length a) a) c)),(cD (aq d (aa 0 (List.length a) a) c)),f,b,0,(List.length b),e)))
          (.need (aP 0 (List.length b) b)<|.need (dY (aq f (aa 0 (List.length b) b) e))<|.need (dI .i64 (2:Int))<|.ask (decide ((2:Int)<(2:Int)))
            (.fail)
            (.leaf (.inl (0,(cz (aq d (aa 0 (List.length a) a) c)),(cA (aq d (aa 0 (List.length a) a) c)),(cB (aq d (aa 0 (List.length a) a) c)),(cC (aq d (aa 0 (List.length a) a) c)),(cD (aq d (aa 0 (List.length a) a) c)),(cz (aq f (aa 0 (List.length b) b) e)),(cA (aq f (aa 0 (List.length b) b) e)),(cB (aq f (aa 0 (List.length b) b) e)),(cC (aq f (aa 0 (List.length b) b) e)),(cD (aq f (aa 0 (List.length b) b) e)))))))
        (.fail)))
    (.fail)
def WD(a:Lv)(b:Lv)(c:Bool)(d:List Int)(e:Nat)(f:Nat)(g:Int)(h:Bool)(i:List Int)(j:Nat)(k:Nat)(l:Int) :Nat×Int×(List Int)×Nat×(List Int)×Nat→aF:=fun (m,n,o,p,q,r)=>⟨ah 52 [(2,.ptr 0 1 0 0),(3,.ptr 1 1 0 0),(7,.ptr 2 1 0 0),(8,.int .i64 ((m:Nat):Int))],[(0,.vs [.bool false c,.imm a (.ns .u64 d) 1 1 e f,.int .i64 g]),(1,.vs [.bool false h,.imm b (.ns .u64 i) 1 1 j k,.int .i64 l]),(2,.vs [.int .i64 n,.imm .free (.ns .u64 o) 1 1 0 p,.imm .free (.ns .u64 q) 1 1 0 r])],3⟩
def Bl(i:Nat)(a:List Int)(b:Nat)(c:Nat)(g:Int)(d:List Int)(e:Nat)(f:Nat)(h:Int) :T ((Nat×Int×(List Int)×Nat×(List Int)×Nat)⊕(gW)) :=
  .ask (((i:Nat):Int) != (0:Int))
    (.leaf (.inr (.r0 (0:Int) i)))
    (.need (aP b c a)<|.need (aP e f d)<|.need (nt (cK (aa b c a) g (aa e f d) h))<|.leaf (.inl ((ot (cK (aa b c a) g (aa e f d) h)),(ou (cK (aa b c a) g (aa e f d) h)),(ov (cK (aa b c a) g (aa e f d) h)),(ow (cK (aa b c a) g (aa e f d) h)),(oz (cK (aa b c a) g (aa e f d) h)),(oA (cK (aa b c a) g (aa e f d) h)))))
def WE(a:Lv)(b:Lv)(c:Bool)(d:List Int)(e:Nat)(f:Nat)(g:Int)(h:Bool)(i:List Int)(j:Nat)(k:Nat)(l:Int)(m:Int) :aF:=⟨ah 52 [(2,.ptr 0 1 0 0),(3,.ptr 1 1 0 0),(9,.int .i64 m)],[(0,.vs [.bool false c,.imm a (.ns .u64 d) 1 1 e f,.int .i64 g]),(1,.vs [.bool false h,.imm b (.ns .u64 i) 1 1 j k,.int .i64 l])],2⟩
def Bm(e:Nat)(a:List Int)(b:Nat)(c:List Int)(d:Nat) :T ((Int)⊕(gW)) :=
  .ask (((e:Nat):Int) != (0:Int))
    (.leaf (.inr (.r0 (0:Int) e)))
    (.need (aP 0 b a)<|.need (aP 0 d c)<|.need (uV (rr (aa 0 b a) (aa 0 d c)))<|.leaf (.inl (uc (rr (aa 0 b a) (aa 0 d c)))))
def WF(a:Int)(_:Unit) :aF:=⟨ah 52 [(9,.int .i64 a)],[],0⟩
def pD(g:Bool)(a:List Int)(b:Nat)(c:Nat)(h:Bool)(d:List Int)(e:Nat)(f:Nat)(i:Int) :T ((Unit)⊕(gW)) :=
  .need (aP b c a)<|.need (g8 (fv g (aa b c a)))<|.need (aP e f d)<|.need (g8 (fv h (aa e f d)))<|.ask ((dO (fv g (aa b c a))) != (dO (fv h (aa e f d))))
    (.need (aP b c a)<|.need (g8 (fv g (aa b c a)))<|.need (aP e f d)<|.need (g8 (fv h (aa e f d)))<|.need (dI .i64 ((dO (fv g (aa b c a)))-(dO (fv h (aa e f d)))))<|.leaf (.inr (.r0 (kP (-1:Int) (vF (1:Int) ((dO (fv g (aa b c a)))-(dO (fv h (aa e f d)))))) 0)))
    (.ask g
      (.need (dI .i64 ((0:Int)-i))<|.leaf (.inr (.r0 ((0:Int)-i) 0)))
      (.leaf (.inl ())))
def SW(a:Int) :T ((Empty)⊕(gW)) :=
  .leaf (.inr (.r0 a 0))
def pa(h:Bool)(i:List Int)(j:Int)(k:Bool)(l:List Int)(m:Int) :Option gW:=lw (aC ((Jl h i j k l m).run) fun (n,o,a,b,c,p,q,d,e,f,r) =>
  aC ((Bl n a b c p d e f r).run) fun (s,x,t,u,v,w) =>
  aC ((Bm s t u v w).run) fun g =>
  aC ((pD o a b c q d e f g).run) fun _ =>
  (SW g).run)
theorem WG(e:Bool)(a:Lv)(c:List Int)(f:Int)(g:Bool)(b:Lv)(d:List Int)(i:Int){x:gW}(h:pa e c f g d i=some x) :aj prog D8 [] [.agg [.bool false e,.imm a (.ns .u64 c) 1 1 0 (List.length c),.int .i64 f],.agg [.bool false g,.imm b (.ns .u64 d) 1 1 0 (List.length d),.int .i64 i]] (EG x) :=
  lM true EG MB h (Sg.cut 2 wj (bo kf (WC a b) [⟨[],[0,16],[2,3,6]⟩,⟨[(.cell 0 1,.lev a)],[0,16],[2,3,6]⟩,⟨[(.cell 0 1,.lev a),(.cell 16 1,.lev b)],[0,16],[2,3,6]⟩]) (fun ⟨w,j,k,l,m,n,o,p,q,r,s⟩=>Sg.cut 3 wj (bo kf (WD a b j k l m n o p q r s) [⟨[],[],[4,5]⟩,⟨[],[0,1,130],[2,3,7,8]⟩]) (fun ⟨y,z,A,B,C,D⟩=>Sg.cut 3 wj (bo kf (WE a b j k l m n o p q r s) [⟨[],[],[4,5]⟩,⟨[],[0,1],[2,3,9]⟩]) (fun t=>Sg.cut 1 wj (bo kf (WF t) [⟨[],[],[4,5]⟩,⟨[],[],[4,5]⟩,⟨[],[],[9]⟩]) (fun _=>bo kf _ [⟨[],[],[4,5]⟩])))))
    (fun x=>by cases x with | r0 u v=>exact lz [.int .i64 u,.int .i64 ((v:Nat):Int)])
def wk:Option gW→Bool
  | some _=>true
  | none=>false
def wP:Option gW→Int
  | some (.r0 x _)=>x
  | _=>0
def wQ:Option gW→Nat
  | some (.r0 _ x)=>x
  | _=>0
theorem WH{x:Option gW}(h:wk x=true) :x=some (.r0 (wP x) (wQ x)):=by
  unfold wk at h
  split at h<;>first | rfl | (cases h;done) | (rename_i y;cases y;rfl)
def MC:aE:=bT D8 (.cons (.agg (.cons .bool (.cons (.ns .u64) (.cons (.int .i64) .nil)))) (.cons (.agg (.cons .bool (.cons (.ns .u64) (.cons (.int .i64) .nil)))) .nil)) fun t=>(fun q=>[⟨EG (.r0 (wP q) (wQ q)),[wk q]⟩]) (pa t.1.1 t.1.2.1.2 t.1.2.2.1 t.2.1.1 t.2.1.2.1.2 t.2.1.2.2.1)
theorem OJ:aM prog MC:=aJ fun t=>(aK (fun h=>WG t.1.1 t.1.2.1.1 t.1.2.1.2 t.1.2.2.1 t.2.1.1 t.2.1.2.1.1 t.2.1.2.1.2 t.2.1.2.2.1 (WH h)) bb)
def MD:List aE:=MC::Jk
theorem nD:bc prog (bh MD):=ap OJ kf
inductive c8 where
  | r0 (a:Nat) (b:Bool) (c:List Int) (d:Nat) (e:Nat) (f:Int)
def Gh:c8→AE×aF
  | .r0 a b c d e f=>(.ret,⟨ah 30 [(4,.ptr 0 1 0 0),(5,.int .i64 ((a:Nat):Int))],[(0,.vs [.bool false b,.imm .free (.ns .u64 c) 1 1 d e,.int .i64 f])],1⟩)
theorem wR:j8 Gh:=by intro x;cases x<;>(intro h;cases h)
def zp:c8→iK
  | .r0 a b c d e f=>⟨.tup [.agg [.bool false b,.imm .free (.ns .u64 c) 1 1 d e,.int .i64 f],.int .i64 ((a:Nat):Int)],[]⟩
def OK(a:Lv)(b:Int) :Nat×Bool×(List Int)×Nat×Nat×Int×Bool→aF:=fun (c,d,e,f,g,h,i)=>⟨ah 30 [(1,.int .i64 b),(2,.ptr 0 1 0 0),(4,.ptr 1 1 0 0),(6,.int .i64 ((c:Nat):Int))],[(0,.vs [.bool false d,.imm a (.ns .u64 e) 1 1 f g,.int .i64 h]),(1,.vs [.bool false i,.nsl,.int .i64 (0:Int)])],2⟩
def wS(c:Bool)(a:List Int)(b:Int) :T ((Nat×Bool×(List Int)×Nat×Nat×Int×Bool)⊕(c8)) :=
  .ask (decide ((0:Int)<(1:Int)))
    (.need (gA (0:Int) 1)<|.need (aP 0 (List.length a) a)<|.need (ia (db (aa 0 (List.length a) a) b))<|.ask (!(fJ (db (aa 0 (List.length a) a) b)))
      (.leaf (.inl (2,c,a,0,(List.length a),b,false)))
      (.need (aP 0 (List.length a) a)<|.need (dY (aq c (aa 0 (List.length a) a) b))<|.need (dI .i64 (1:Int))<|.ask (decide ((1:Int)<(1:Int)))
        (.fail)
        (.leaf (.inl (0,(cz (aq c (aa 0 (List.length a) a) b)),(cA (aq c (aa 0 (List.length a) a) b)),(cB (aq c (aa 0 (List.length a) a) b)),(cC (aq c (aa 0 (List.length a) a) b)),(cD (aq c (aa 0 (List.length a) a) b)),false)))))
    (.fail)
def OL(a:Lv)(b:Int)(c:Nat)(d:Bool)(e:List Int)(f:Nat)(g:Nat)(h:Int)(i:Bool)(j:Bool) :aF:=⟨ah 30 [(1,.int .i64 b),(2,.ptr 0 1 0 0),(4,.ptr 1 1 0 0),(6,.int .i64 ((c:Nat):Int)),(16,.bool false j)],[(0,.vs [.bool false d,.imm a (.ns .u64 e) 1 1 f g,.int .i64 h]),(1,.vs [.bool false i,.nsl,.int .i64 (0:Int)])],2⟩
def OM(a:Nat)(b:Nat) :T ((Bool)⊕(c8)) :=
  .ask (((a:Nat):Int) != (0:Int))
    (.leaf (.inl true))
    (.leaf (.inl (((b:Nat):Int)==(0:Int))))
def ON:Nat×Bool×(List Int)×Nat×Nat×Int→aF:=fun (a,b,c,d,e,f)=>⟨ah 30 [(4,.ptr 0 1 0 0),(5,.int .i64 ((a:Nat):Int))],[(0,.vs [.bool false b,.imm .free (.ns .u64 c) 1 1 d e,.int .i64 f])],1⟩
def wT(a:Int)(g:Nat)(f:Bool)(b:List Int)(c:Nat)(d:Nat)(e:Int)(h:Bool) :T ((Nat×Bool×(List Int)×Nat×Nat×Int)⊕(c8)) :=
  .ask h
    (.leaf (.inr (.r0 g false ([]:List Int) 0 0 (0:Int))))
    (.need (dI .i64 (e+(kP (-1048576:Int) (vF (1048576:Int) a))))<|.need (aP c d b)<|.need (mL (bN f (aa c d b) (e+(kP (-1048576:Int) (vF (1048576:Int) a)))))<|.leaf (.inl ((l5 (bN f (aa c d b) (e+(kP (-1048576:Int) (vF (1048576:Int) a))))),(l6 (bN f (aa c d b) (e+(kP (-1048576:Int) (vF (1048576:Int) a))))),(l7 (bN f (aa c d b) (e+(kP (-1048576:Int) (vF (1048576:Int) a))))),(l8 (bN f (aa c d b) (e+(kP (-1048576:Int) (vF (1048576:Int) a))))),(l9 (bN f (aa c d b) (e+(kP (-1048576:Int) (vF (1048576:Int) a))))),(ma (bN f (aa c d b) (e+(kP (-1048576:Int) (vF (1048576:Int) a))))))))
def OO(a:Nat)(b:Bool)(c:List Int)(d:Nat)(e:Nat)(f:Int) :T ((Empty)⊕(c8)) :=
  .leaf (.inr (.r0 a b c d e f))
def g9(c:Bool)(d:List Int)(e:Int)(f:Int) :Option c8:=lw (aC ((wS c d e).run) fun (a,g,h,i,b,j,r) =>
  aC ((OM a b).run) fun k =>
  aC ((wT f a g h i b j k).run) fun (l,m,n,o,p,q) =>
  (OO l m n o p q).run)
theorem OP(d:Bool)(a:Lv)(c:List Int)(e:Int)(b:Int){x:c8}(h:g9 d c e b=some x) :aj prog yz [] [.agg [.bool false d,.imm a (.ns .u64 c) 1 1 0 (List.length c),.int .i64 e],.int .i64 b] (zp x) :=
  lM true zp Gh h (Sg.cut 2 wR (bo nD (OK a b) [⟨[],[0,16],[1,2,4,6]⟩,⟨[(.cell 0 1,.lev a)],[0,16],[1,2,4,6]⟩]) (fun ⟨f,g,i,j,k,l,m⟩=>Sg.cut 1 wR (bo nD (OL a b f g i j k l m) [⟨[],[0,1],[1,2,4,6,16]⟩,⟨[],[0,1],[1,2,4,6,16]⟩]) (fun t=>Sg.cut 3 wR (bo nD ON [⟨[(.cell 1 1,.fre 1 1 (.ns .u64 ([]:List Int)))],[1],[4,5]⟩,⟨[],[1],[4,5]⟩]) (fun ⟨u,v,w,y,z,A⟩=>bo nD _ [⟨[],[0],[4,5]⟩]))))
    (fun x=>by cases x with | r0 n o p q r s=>exact lz [.agg [.bool false o,.imm .free (.ns .u64 p) 1 1 q r,.int .i64 s],.int .i64 ((n:Nat):Int)])
def r7:Option c8→Bool
  | some _=>true
  | none=>false
def s4:Option c8→Nat
  | some (.r0 x _ _ _ _ _)=>x
  | _=>0
def s5:Option c8→Bool
  | some (.r0 _ x _ _ _ _)=>x
  | _=>false
def s6:Option c8→List Int
  | some (.r0 _ _ x _ _ _)=>x
  | _=>[]
def s7:Option c8→Nat
  | some (.r0 _ _ _ x _ _)=>x
  | _=>0
def s8:Option c8→Nat
  | some (.r0 _ _ _ _ x _)=>x
  | _=>0
def s9:Option c8→Int
  | some (.r0 _ _ _ _ _ x)=>x
  | _=>0
theorem OQ{x:Option c8}(h:r7 x=true) :x=some (.r0 (s4 x) (s5 x) (s6 x) (s7 x) (s8 x) (s9 x)):=by
  unfold r7 at h
  split at h<;>first | rfl | (cases h;done) | (rename_i y;cases y;rfl)
def Gi:aE:=bT yz (.cons (.agg (.cons .bool (.cons (.ns .u64) (.cons (.int .i64) .nil)))) (.cons (.int .i64) .nil)) fun t=>(fun q=>[⟨zp (.r0 (s4 q) (s5 q) (s6 q) (s7 q) (s8 q) (s9 q)),[r7 q]⟩]) (g9 t.1.1 t.1.2.1.2 t.1.2.2.1 t.2.1)
theorem JS:aM prog Gi:=aJ fun t=>(aK (fun h=>OP t.1.1 t.1.2.1.1 t.1.2.1.2 t.1.2.2.1 t.2.1 (OQ h)) bb)
def Gj:List aE:=Gi::MD
theorem oC:bc prog (bh Gj):=ap JS nD
inductive dE where
  | r0 (a:Bool) (b:List Int) (c:Nat) (d:Nat) (e:Int)
def Gk:dE→AE×aF
  | .r0 a b c d e=>(.ret,⟨ah 16 [(2,.ptr 0 1 0 0)],[(0,.vs [.bool false a,.imm .free (.ns .u64 b) 1 1 c d,.int .i64 e])],1⟩)
theorem Dj:j8 Gk:=by intro x;cases x<;>(intro h;cases h)
def zq:dE→iK
  | .r0 a b c d e=>⟨.agg [.bool false a,.imm .free (.ns .u64 b) 1 1 c d,.int .i64 e],[]⟩
def OR(a:Int) :Int×Bool→aF:=fun (b,c)=>⟨ah 16 [(0,.int .i64 a),(2,.ptr 0 1 0 0),(3,.int .u64 b)],[(0,.vs [.bool false c,.nsl,.int .i64 (0:Int)])],1⟩
def Dk(a:Int) :T ((Int×Bool)⊕(dE)) :=
  .ask (decide (a<(0:Int)))
    (.leaf (.inl ((IntKind.u64.wrap ((0:Int)-(IntKind.u64.wrap a))),false)))
    (.leaf (.inl ((IntKind.u64.wrap a),false)))
def OS:Bool×(List Int)×Nat×Nat×Int→aF:=fun (a,b,c,d,e)=>⟨ah 16 [(2,.ptr 0 1 0 0)],[(0,.vs [.bool false a,.imm .free (.ns .u64 b) 1 1 c d,.int .i64 e])],1⟩
def wW(b:Int)(a:Int) :T ((Bool×(List Int)×Nat×Nat×Int)⊕(dE)) :=
  .need (rp (bt a))<|.need (aP (cZ (bt a)) (c5 (bt a)) (c6 (bt a)))<|.need (dY (aq (decide (b<(0:Int))) (aa (cZ (bt a)) (c5 (bt a)) (c6 (bt a))) (0:Int)))<|.leaf (.inl ((cz (aq (decide (b<(0:Int))) (aa (cZ (bt a)) (c5 (bt a)) (c6 (bt a))) (0:Int))),(cA (aq (decide (b<(0:Int))) (aa (cZ (bt a)) (c5 (bt a)) (c6 (bt a))) (0:Int))),(cB (aq (decide (b<(0:Int))) (aa (cZ (bt a)) (c5 (bt a)) (c6 (bt a))) (0:Int))),(cC (aq (decide (b<(0:Int))) (aa (cZ (bt a)) (c5 (bt a)) (c6 (bt a))) (0:Int))),(cD (aq (decide (b<(0:Int))) (aa (cZ (bt a)) (c5 (bt a)) (c6 (bt a))) (0:Int)))))
def OT(a:Bool)(b:List Int)(c:Nat)(d:Nat)(e:Int) :T ((Empty)⊕(dE)) :=
  .leaf (.inr (.r0 a b c d e))
def aZ(a:Int) :Option dE:=lw (aC ((Dk a).run) fun (b,h) =>
  aC ((wW a b).run) fun (c,d,e,f,g) =>
  (OT c d e f g).run)
theorem OU(a:Int){x:dE}(h:aZ a=some x) :aj prog yy [] [.int .i64 a] (zq x) :=
  lM true zq Gk h (Sg.cut 4 Dj (bo oC (OR a) [⟨[],[0],[0,2,3]⟩,⟨[],[0],[0,2,3]⟩]) (fun ⟨g,i⟩=>Sg.cut 1 Dj (bo oC OS [⟨[],[0],[2]⟩]) (fun ⟨j,k,l,m,n⟩=>bo oC _ [⟨[],[0],[2]⟩])))
    (fun x=>by cases x with | r0 b c d e f=>exact lz [.agg [.bool false b,.imm .free (.ns .u64 c) 1 1 d e,.int .i64 f]])
def jW:Option dE→Bool
  | some _=>true
  | none=>false
def gu:Option dE→Bool
  | some (.r0 x _ _ _ _)=>x
  | _=>false
def e7:Option dE→List Int
  | some (.r0 _ x _ _ _)=>x
  | _=>[]
def e8:Option dE→Nat
  | some (.r0 _ _ x _ _)=>x
  | _=>0
def e9:Option dE→Nat
  | some (.r0 _ _ _ x _)=>x
  | _=>0
def gv:Option dE→Int
  | some (.r0 _ _ _ _ x)=>x
  | _=>0
theorem OV{x:Option dE}(h:jW x=true) :x=some (.r0 (gu x) (e7 x) (e8 x) (e9 x) (gv x)):=by
  unfold jW at h
  split at h<;>first | rfl | (cases h;done) | (rename_i y;cases y;rfl)
def Gl:aE:=bT yy (.cons (.int .i64) .nil) fun t=>(fun q=>[⟨zq (.r0 (gu q) (e7 q) (e8 q) (e9 q) (gv q)),[jW q]⟩]) (aZ t.1)
theorem JT:aM prog Gl:=aJ fun t=>(aK (fun h=>OU t.1 (OV h)) bb)
def Gm:List aE:=Gl::Gj
theorem ta:bc prog (bh Gm):=ap JT oC
inductive iF where
  | r0 (a:Nat)
def Gn:iF→AE×aF
  | .r0 a=>(.ret,⟨ah 26 [(2,.int .i64 ((a:Nat):Int))],[],0⟩)
theorem OW:j8 Gn:=by intro x;cases x<;>(intro h;cases h)
def zr:iF→iK
  | .r0 a=>⟨.int .i64 ((a:Nat):Int),[]⟩
def OX(_:Unit) :aF:=⟨ah 26 [],[],0⟩
def r8(a : Int) : T ((Unit) ⊕ (iF)) :=
  .need (decide ((0:Int)≤(52:Int)))<|.ask ((dp .and .u64 (Int.fdiv a (2^(min (Int.toNat (52:Int)) (IntKind.u64.bits)))) (2047:Int))==(2047:Int))
    (.ask ((dp .and .u64 a (4503599627370495:Int)) != (0:Int))
      (.leaf (.inr (.r0 5)))
      (.ask ((dp .and .u64 (Int.fdiv a (2^(min (Int.toNat (52:Int)) (IntKind.u64.bits)))) (2047:Int))==(2047:Int))
        (.leaf (.inr (.r0 4)))
        (.ask ((dp .and .u64 (Int.fdiv a (2^(min (Int.toNat (52:Int)) (IntKind.u64.bits)))) (2047:Int)) != (0:Int))
          (.leaf (.inr (.r0 3)))
          (.ask ((dp .and .u64 a (4503599627370495:Int)) != (0:Int))
            (.leaf (.inr (.r0 2)))
            (.leaf (.inl ()))))))
    (.ask ((dp .and .u64 (Int.fdiv a (2^(min (Int.toNat (52:Int)) (IntKind.u64.bits)))) (2047:Int))==(2047:Int))
      (.leaf (.inr (.r0 4)))
      (.ask ((dp .and .u64 (Int.fdiv a (2^(min (Int.toNat (52:Int)) (IntKind.u64.bits)))) (2047:Int)) != (0:Int))
        (.leaf (.inr (.r0 3)))
        (.ask ((dp .and .u64 a (4503599627370495:Int)) != (0:Int))
          (.leaf (.inr (.r0 2)))
          (.leaf (.inl ())))))
def OY:T ((Empty)⊕(iF)) :=
  .leaf (.inr (.r0 1))
def qe(a:Int) :Option iF:=lw (aC ((r8 a).run) fun _ =>
  (OY).run)
theorem OZ(a:Int){x:iF}(h:qe a=some x) :aj prog FL [] [.int .u64 a] (zr x) :=
  lM false zr Gn h (Sg.cut 3 OW (bo ta OX [⟨[],[],[2]⟩,⟨[],[],[2]⟩,⟨[],[],[2]⟩,⟨[],[],[2]⟩,⟨[],[],[]⟩,⟨[],[],[2]⟩,⟨[],[],[2]⟩,⟨[],[],[2]⟩,⟨[],[],[]⟩]) (fun _=>bo ta _ [⟨[],[],[2]⟩]))
    (fun x=>by cases x with | r0 b=>exact lz [.int .i64 ((b:Nat):Int)])
def r9:Option iF→Bool
  | some _=>true
  | none=>false
def tc:Option iF→Nat
  | some (.r0 x)=>x
  | _=>0
theorem O0{x:Option iF}(h:r9 x=true) :x=some (.r0 (tc x)):=by
  unfold r9 at h
  split at h<;>first | rfl | (cases h;done) | (rename_i y;cases y;rfl)
def Gp:aE:=bT FL (.cons (.int .u64) .nil) fun t=>(fun q=>[⟨zr (.r0 (tc q)),[r9 q]⟩]) (qe t.1)
theorem JU:aM prog Gp:=aJ fun t=>(aK (fun h=>OZ t.1 (O0 h)) bb)
def Gq:List aE:=Gp::Gm
theorem td:bc prog (bh Gq):=ap JU ta
inductive fa where
  | r0 (a:Nat) (b:Bool) (c:Int) (d:Int)
def Gr:fa→AE×aF
  | .r0 a b c d=>(.ret,⟨ah 36 [(2,.ptr 0 1 0 0),(3,.int .i64 ((a:Nat):Int))],[(0,.vs [.bool false b,.int .u64 c,.int .i64 d])],1⟩)
theorem O1:j8 Gr:=by intro x;cases x<;>(intro h;cases h)
def zt:fa→iK
  | .r0 a b c d=>⟨.tup [.agg [.bool false b,.int .u64 c,.int .i64 d],.int .i64 ((a:Nat):Int)],[]⟩
def O2(a:Int) :Nat×Bool×Bool×Int→aF:=fun (b,c,d,e)=>⟨ah 36 [(0,.int .u64 a),(2,.ptr 0 1 0 0),(4,.ptr 1 1 0 0),(12,.int .i64 ((b:Nat):Int))],[(0,.vs [.bool false c,.int .u64 (0:Int),.int .i64 (0:Int)]),(1,.vs [.bool false d,.int .u64 e,.int .i64 (-1074:Int)])],2⟩
def Dl(a:Int) :T ((Nat×Bool×Bool×Int)⊕(fa)) :=
  .need (decide ((0:Int)≤(63:Int)))<|.need (r9 (qe a))<|.leaf (.inl ((tc (qe a)),false,((Int.fdiv a (2^(min (Int.toNat (63:Int)) (IntKind.u64.bits))))==(1:Int)),(dp .and .u64 a (4503599627370495:Int))))
def w6(a:Int)(b:Nat)(c:Bool)(d:Int) :T ((Empty)⊕(fa)) :=
  .ask (((b:Nat):Int)==(3:Int))
    (.need (decide ((0:Int)≤(52:Int)))<|.need (dI .i64 ((IntKind.i64.wrap (dp .and .u64 (Int.fdiv a (2^(min (Int.toNat (52:Int)) (IntKind.u64.bits)))) (2047:Int)))-(1:Int)))<|.need (dI .i64 ((-1074:Int)+((IntKind.i64.wrap (dp .and .u64 (Int.fdiv a (2^(min (Int.toNat (52:Int)) (IntKind.u64.bits)))) (2047:Int)))-(1:Int))))<|.leaf (.inr (.r0 0 c (dp .or .u64 d (4503599627370496:Int)) ((-1074:Int)+((IntKind.i64.wrap (dp .and .u64 (Int.fdiv a (2^(min (Int.toNat (52:Int)) (IntKind.u64.bits)))) (2047:Int)))-(1:Int))))))
    (.ask (((b:Nat):Int)==(2:Int))
      (.leaf (.inr (.r0 0 c d (-1074:Int))))
      (.ask (((b:Nat):Int)==(1:Int))
        (.leaf (.inr (.r0 0 c d (0:Int))))
        (.leaf (.inr (.r0 2 false (0:Int) (0:Int))))))
def dZ(a:Int) :Option fa:=lw (aC ((Dl a).run) fun (b,e,c,d) =>
  (w6 a b c d).run)
theorem O3(a:Int){x:fa}(h:dZ a=some x) :aj prog FJ [] [.int .u64 a] (zt x) :=
  lM false zt Gr h (Sg.cut 3 O1 (bo td (O2 a) [⟨[],[0,128],[0,2,4,12]⟩]) (fun ⟨f,g,i,j⟩=>bo td _ [⟨[],[0],[2,3]⟩,⟨[],[0],[2,3]⟩,⟨[],[0],[2,3]⟩,⟨[],[0],[2,3]⟩]))
    (fun x=>by cases x with | r0 b c d e=>exact lz [.agg [.bool false c,.int .u64 d,.int .i64 e],.int .i64 ((b:Nat):Int)])
def nF:Option fa→Bool
  | some _=>true
  | none=>false
def oD:Option fa→Nat
  | some (.r0 x _ _ _)=>x
  | _=>0
def oE:Option fa→Bool
  | some (.r0 _ x _ _)=>x
  | _=>false
def oF:Option fa→Int
  | some (.r0 _ _ x _)=>x
  | _=>0
def oG:Option fa→Int
  | some (.r0 _ _ _ x)=>x
  | _=>0
theorem O4{x:Option fa}(h:nF x=true) :x=some (.r0 (oD x) (oE x) (oF x) (oG x)):=by
  unfold nF at h
  split at h<;>first | rfl | (cases h;done) | (rename_i y;cases y;rfl)
def Gs:aE:=bT FJ (.cons (.int .u64) .nil) fun t=>(fun q=>[⟨zt (.r0 (oD q) (oE q) (oF q) (oG q)),[nF q]⟩]) (dZ t.1)
theorem JV:aM prog Gs:=aJ fun t=>(aK (fun h=>O3 t.1 (O4 h)) bb)
def Gt:List aE:=Gs::Gq
theorem oH:bc prog (bh Gt):=ap JV td
inductive gX where
  | r0 (a:Nat) (b:Bool) (c:List Int) (d:Nat) (e:Nat) (f:Int)
def Rn:gX→AE×aF
  | .r0 a b c d e f=>(.ret,⟨ah 25 [(2,.ptr 0 1 0 0),(3,.int .i64 ((a:Nat):Int))],[(0,.vs [.bool false b,.imm .free (.ns .u64 c) 1 1 d e,.int .i64 f])],1⟩)
theorem ME:j8 Rn:=by intro x;cases x<;>(intro h;cases h)
def Ic:gX→iK
  | .r0 a b c d e f=>⟨.tup [.agg [.bool false b,.imm .free (.ns .u64 c) 1 1 d e,.int .i64 f],.int .i64 ((a:Nat):Int)],[]⟩
def Zs:Nat×Bool×Bool×Int×Int→aF:=fun (a,b,c,d,e)=>⟨ah 25 [(2,.ptr 0 1 0 0),(4,.ptr 1 1 0 0),(5,.int .i64 ((a:Nat):Int))],[(0,.vs [.bool false b,.nsl,.int .i64 (0:Int)]),(1,.vs [.bool false c,.int .u64 d,.int .i64 e])],2⟩
def MF(a:Nat) :T ((Nat×Bool×Bool×Int×Int)⊕(gX)) :=
  .ask (Fa a a)
    (.need (nF (dZ (9221120237041090560:Int)))<|.leaf (.inl ((oD (dZ (9221120237041090560:Int))),false,(oE (dZ (9221120237041090560:Int))),(oF (dZ (9221120237041090560:Int))),(oG (dZ (9221120237041090560:Int))))))
    (.alt 0
      (.need (!isNaN a)<|.need (nF (dZ ((a:Nat):Int)))<|.leaf (.inl ((oD (dZ ((a:Nat):Int))),false,(oE (dZ ((a:Nat):Int))),(oF (dZ ((a:Nat):Int))),(oG (dZ ((a:Nat):Int))))))
      (.fail))
def Zt:Bool×(List Int)×Nat×Nat×Int→aF:=fun (a,b,c,d,e)=>⟨ah 25 [(2,.ptr 0 1 0 0),(3,.int .i64 (0:Int))],[(0,.vs [.bool false a,.imm .free (.ns .u64 b) 1 1 c d,.int .i64 e])],1⟩
def EH(d:Nat)(b:Bool)(a:Int)(c:Int) :T ((Bool×(List Int)×Nat×Nat×Int)⊕(gX)) :=
  .ask (((d:Nat):Int) != (0:Int))
    (.leaf (.inr (.r0 d false ([]:List Int) 0 0 (0:Int))))
    (.need (rp (bt a))<|.need (aP (cZ (bt a)) (c5 (bt a)) (c6 (bt a)))<|.need (dY (aq b (aa (cZ (bt a)) (c5 (bt a)) (c6 (bt a))) c))<|.leaf (.inl ((cz (aq b (aa (cZ (bt a)) (c5 (bt a)) (c6 (bt a))) c)),(cA (aq b (aa (cZ (bt a)) (c5 (bt a)) (c6 (bt a))) c)),(cB (aq b (aa (cZ (bt a)) (c5 (bt a)) (c6 (bt a))) c)),(cC (aq b (aa (cZ (bt a)) (c5 (bt a)) (c6 (bt a))) c)),(cD (aq b (aa (cZ (bt a)) (c5 (bt a)) (c6 (bt a))) c)))))
def Zu(a:Bool)(b:List Int)(c:Nat)(d:Nat)(e:Int) :T ((Empty)⊕(gX)) :=
  .leaf (.inr (.r0 0 a b c d e))
def jm(a:Nat) :Option gX:=lw (aC ((MF a).run) fun (b,k,c,d,e) =>
  aC ((EH b c d e).run) fun (f,g,h,i,j) =>
  (Zu f g h i j).run)
theorem Zv(a:Nat){x:gX}(h:jm a=some x) :aj prog HM [] [.flt false a] (Ic x) :=
  lM true Ic Rn h (Sg.cut 2 ME (bo oH Zs [⟨[],[0,128],[2,4,5]⟩,⟨[],[0,128],[2,4,5]⟩]) (fun ⟨i,j,k,l,m⟩=>Sg.cut 3 ME (bo oH Zt [⟨[(.cell 0 1,.fre 1 1 (.ns .u64 ([]:List Int)))],[0],[2,3]⟩,⟨[],[0],[2,3]⟩]) (fun ⟨n,o,p,q,r⟩=>bo oH _ [⟨[],[0],[2,3]⟩])))
    (fun x=>by cases x with | r0 b c d e f g=>exact lz [.agg [.bool false c,.imm .free (.ns .u64 d) 1 1 e f,.int .i64 g],.int .i64 ((b:Nat):Int)])
def u7:Option gX→Bool
  | some _=>true
  | none=>false
def Gu:Option gX→Nat
  | some (.r0 x _ _ _ _ _)=>x
  | _=>0
def uf:Option gX→Bool
  | some (.r0 _ x _ _ _ _)=>x
  | _=>false
def qf:Option gX→List Int
  | some (.r0 _ _ x _ _ _)=>x
  | _=>[]
def qg:Option gX→Nat
  | some (.r0 _ _ _ x _ _)=>x
  | _=>0
def qh:Option gX→Nat
  | some (.r0 _ _ _ _ x _)=>x
  | _=>0
def ug:Option gX→Int
  | some (.r0 _ _ _ _ _ x)=>x
  | _=>0
theorem Zw{x:Option gX}(h:u7 x=true) :x=some (.r0 (Gu x) (uf x) (qf x) (qg x) (qh x) (ug x)):=by
  unfold u7 at h
  split at h<;>first | rfl | (cases h;done) | (rename_i y;cases y;rfl)
def Ro:aE:=bT HM (.cons (.flt false) .nil) fun t=>(fun q=>[⟨Ic (.r0 (Gu q) (uf q) (qf q) (qg q) (qh q) (ug q)),[u7 q]⟩]) (jm t.1)
theorem SX:aM prog Ro:=aJ fun t=>(aK (fun h=>Zv t.1 (Zw h)) bb)
def Rp:List aE:=Ro::Gt
theorem qi:bc prog (bh Rp):=ap SX oH
inductive d4 where
  | r0 (a:Nat) (b:List Int)
def uh:d4→AE×aF
  | .r0 a b=>(.ret,⟨ah 22 [(2,.sl 0 1 1 0 a a)],[(0,.ns .u64 b)],1⟩)
theorem sa:j8 uh:=by intro x;cases x<;>(intro h;cases h)
theorem O5(id:Nat) :mz id uh:=by intro x;cases x<;>(intro h;cases h)
def zu:d4→iK
  | .r0 a b=>⟨.imm .free (.ns .u64 b) 1 1 0 a,[]⟩
def MG:List Code:=cY (mU tT)
def O6(b:Lv)(a:List Int)(_:Unit) :aF:=⟨ah 22 [(0,.imm b (.ns .u64 a) 1 1 0 (List.length a)),(3,.int .i64 (((List.length a):Nat):Int))],[],0⟩
def MH:T ((Unit)⊕(d4)) :=
  .leaf (.inl ())
def w7(b:Lv)(a:List Int)(c:Int) :aF:=⟨ah 22 [(0,.imm b (.ns .u64 a) 1 1 0 (List.length a)),(3,.int .i64 c)],[],0⟩
def Dm(b:Lv)(a:List Int)(c:Int) :aF:=⟨ah 22 [(0,.imm b (.ns .u64 a) 1 1 0 (List.length a)),(3,.int .i64 c)],[],0⟩
def MI:List Code:=cY (d7 ((((MG.drop 2).take 1)).headD .skip))
def O7(b:Lv)(a:List Int)(c:Int)(d:Bool) :aF:=⟨ah 22 [(0,.imm b (.ns .u64 a) 1 1 0 (List.length a)),(3,.int .i64 c),(15,.bool false d)],[],0⟩
def mc(b:List Int)(a:Int) :T ((Bool)⊕((Int)⊕(d4))) :=
  .ask (decide (a>(0:Int)))
    (.need (dI .i64 (a-(1:Int)))<|.need (gA (a-(1:Int)) (List.length b))<|.need (gM (Int.toNat (a-(1:Int))) (List.length b))<|.leaf (.inl ((List.getD b (Int.toNat (a-(1:Int))) 0)==(0:Int))))
    (.leaf (.inl false))
def Bn(a:Int)(b:Bool) :T ((Int)⊕((Int)⊕(d4))) :=
  .ask b
    (.need (dI .i64 (a-(1:Int)))<|.leaf (.inl (a-(1:Int))))
    (.leaf (.inr (.inl a)))
def u9(b:List Int) :Int→Option ((Int)⊕((Int)⊕(d4))):=fun a =>
  aC ((mc b a).run) fun c =>
  (Bn a c).run
theorem MJ(b:Lv)(a:List Int)(c:Int) :Sg prog [] MI (w7 b a c) (u9 a c) (w7 b a) (dH 0 (Dm b a) uh):=by
  unfold u9;exact Sg.cut 1 (bz sa) (bo qi (O7 b a c) [⟨[],[],[0,3,15]⟩,⟨[],[],[0,3,15]⟩]) (fun d=>bo qi _ [⟨[],[],[0,3]⟩,⟨[],[],[0,3]⟩])
def Bo(b:List Int)(a:Int) :T ((Empty)⊕(d4)) :=
  .need (CV a (List.length b))<|.need (CV (0:Int) (Int.toNat a))<|.need (qG ((Int.toNat a)*8) 140737488355328)<|.need (qG (Int.toNat a) 9223372036854775807)<|.need (qG (Int.toNat a) (List.length b))<|.leaf (.inr (.r0 (Int.toNat a) (List.take (Int.toNat a) b)))
def fb(a:List Int) :Option d4:=lw (aC ((MH).run) fun _ =>
  aC (df (u9 a) (((List.length a):Nat):Int)) fun b =>
  (Bo a b).run)
theorem O8(b:Lv)(a:List Int){x:d4}(h:fb a=some x) :aj prog tT [] [.imm b (.ns .u64 a) 1 1 0 (List.length a)] (zu x) :=
  lM true zu uh h (Sg.cut 2 sa (bo qi (O6 b a) [⟨[],[],[0,3]⟩]) (fun _=>Sg.cut 1 sa (Ej ⟨[],[],[0,3]⟩ (w7 b a) (Dm b a) 0 sa (O5 _) (fun d=>MJ b a d)) (fun e=>bo qi _ [⟨[],[48],[2]⟩])))
    (fun x=>by cases x with | r0 c f=>exact lz [.sl 0 1 1 0 c c])
def lD:Option d4→Bool
  | some _=>true
  | none=>false
def k8:Option d4→Nat
  | some (.r0 x _)=>x
  | _=>0
def k9:Option d4→List Int
  | some (.r0 _ x)=>x
  | _=>[]
theorem O9{x:Option d4}(h:lD x=true) :x=some (.r0 (k8 x) (k9 x)):=by
  unfold lD at h
  split at h<;>first | rfl | (cases h;done) | (rename_i y;cases y;rfl)
def Gv:aE:=bT tT (.cons (.ns .u64) .nil) fun t=>(fun q=>[⟨zu (.r0 (k8 q) (k9 q)),[lD q]⟩]) (fb t.1.2)
theorem JW:aM prog Gv:=aJ fun t=>(aK (fun h=>O8 t.1.1 t.1.2 (O9 h)) bb)
def Gw:List aE:=Gv::Rp
theorem lc:bc prog (bh Gw):=ap JW qi
inductive fc where
  | r0 (a:Int)
def ui:fc→AE×aF
  | .r0 a=>(.ret,⟨ah 27 [(2,.int .i64 a)],[],0⟩)
theorem sb:j8 ui:=by intro x;cases x<;>(intro h;cases h)
theorem Pa(id:Nat) :mz id ui:=by intro x;cases x<;>(intro h;cases h)
def zw:fc→iK
  | .r0 a=>⟨.int .i64 a,[]⟩
def Pb:List Code:=cY (mU tU)
def Pc:(List Int)×Nat→aF:=fun (a,b)=>⟨ah 27 [(0,.imm .free (.ns .u64 a) 1 1 0 b)],[],0⟩
def w8(a:List Int) :T (((List Int)×Nat)⊕(fc)) :=
  .need (aP 0 (List.length a) a)<|.need (lD (fb (aa 0 (List.length a) a)))<|.leaf (.inl ((k9 (fb (aa 0 (List.length a) a))),(k8 (fb (aa 0 (List.length a) a)))))
def Pd:Int×Int→aF:=fun (a,b)=>⟨ah 27 [(3,.int .i64 a),(4,.int .u64 b)],[],0⟩
def w9(b:List Int)(a:Nat) :T ((Int×Int)⊕(fc)) :=
  .ask (((a:Nat):Int)==(0:Int))
    (.leaf (.inr (.r0 (0:Int))))
    (.need (dI .i64 (((a:Nat):Int)-(1:Int)))<|.need (dI .i64 ((64:Int)*(((a:Nat):Int)-(1:Int))))<|.need (dI .i64 (((a:Nat):Int)-(1:Int)))<|.need (gA (((a:Nat):Int)-(1:Int)) a)<|.need (gM (Int.toNat (((a:Nat):Int)-(1:Int))) (List.length b))<|.leaf (.inl (((64:Int)*(((a:Nat):Int)-(1:Int))),(List.getD b (Int.toNat (((a:Nat):Int)-(1:Int))) 0))))
def xa:Int×Int→aF:=fun (a,b)=>⟨ah 27 [(3,.int .i64 a),(4,.int .u64 b)],[],0⟩
def Dn(a:Int) :aF:=⟨ah 27 [(3,.int .i64 a)],[],0⟩
def MK:List Code:=cY (d7 (((((Pb.drop 2).drop 4).take 1)).headD .skip))
def qj(a:Int)(b:Int) :T ((Int×Int)⊕((Int)⊕(fc))) :=
  .ask (decide (b>(0:Int)))
    (.need (dI .i64 (a+(1:Int)))<|.need ((2:Int) != (0:Int))<|.leaf (.inl ((a+(1:Int)),(IntKind.u64.wrap (Int.tdiv b (2:Int))))))
    (.leaf (.inr (.inl a)))
def va:Int×Int→Option ((Int×Int)⊕((Int)⊕(fc))):=fun (a,b) =>
  (qj a b).run
theorem ML(a:Int)(b:Int) :Sg prog [] MK (xa (a,b)) (va (a,b)) xa (dH 0 Dn ui):=by
  unfold va;exact bo lc _ [⟨[],[],[3,4]⟩,⟨[],[],[3]⟩]
def MM(a:Int) :T ((Empty)⊕(fc)) :=
  .leaf (.inr (.r0 a))
def kG(a:List Int) :Option fc:=lw (aC ((w8 a).run) fun (b,c) =>
  aC ((w9 b c).run) fun (d,e) =>
  aC (df (va) (d,e)) fun f =>
  (MM f).run)
theorem Pe(b:Lv)(a:List Int){x:fc}(h:kG a=some x) :aj prog tU [] [.imm b (.ns .u64 a) 1 1 0 (List.length a)] (zw x) :=
  lM true zw ui h (Sg.cut 2 sb (bo lc Pc [⟨[],[],[0]⟩]) (fun ⟨f,g⟩=>Sg.cut 4 sb (bo lc Pd [⟨[],[],[2]⟩,⟨[],[],[3,4]⟩]) (fun ⟨i,j⟩=>Sg.cut 1 sb (Ej ⟨[],[],[3,4]⟩ (xa) (Dn) 0 sb (Pa _) (fun ⟨c,d⟩=>ML c d)) (fun k=>bo lc _ [⟨[],[],[2]⟩]))))
    (fun x=>by cases x with | r0 e=>exact lz [.int .i64 e])
def nG:Option fc→Bool
  | some _=>true
  | none=>false
def oI:Option fc→Int
  | some (.r0 x)=>x
  | _=>0
theorem Pf{x:Option fc}(h:nG x=true) :x=some (.r0 (oI x)):=by
  unfold nG at h
  split at h<;>first | rfl | (cases h;done) | (rename_i y;cases y;rfl)
def Gx:aE:=bT tU (.cons (.ns .u64) .nil) fun t=>(fun q=>[⟨zw (.r0 (oI q)),[nG q]⟩]) (kG t.1.2)
theorem JX:aM prog Gx:=aJ fun t=>(aK (fun h=>Pe t.1.1 t.1.2 (Pf h)) bb)
def Gy:List aE:=Gx::Gw
theorem te:bc prog (bh Gy):=ap JX lc
inductive jz where
  | r0 (a:Bool)
def Jm:jz→AE×aF
  | .r0 a=>(.ret,⟨ah 27 [(4,.bool false a)],[],0⟩)
theorem SY:j8 Jm:=by intro x;cases x<;>(intro h;cases h)
def Bp:jz→iK
  | .r0 a=>⟨.bool false a,[]⟩
def SZ(a:Bool) :aF:=⟨ah 27 [(4,.bool false a)],[],0⟩
def Gz(b:List Int)(a:Int) :T ((Bool)⊕(jz)) :=
  .ask (decide (a≥(0:Int)))
    (.need ((64:Int) != (0:Int))<|.need (dI .i64 (Int.tdiv a (64:Int)))<|.ask (decide ((Int.tdiv a (64:Int))<(((List.length b):Nat):Int)))
      (.need ((64:Int) != (0:Int))<|.need (dI .i64 (Int.tdiv a (64:Int)))<|.need (gA (Int.tdiv a (64:Int)) (List.length b))<|.need (gM (Int.toNat (Int.tdiv a (64:Int))) (List.length b))<|.need ((64:Int) != (0:Int))<|.need (decide ((0:Int)≤(IntKind.u64.wrap (Int.tmod a (64:Int)))))<|.need ((2:Int) != (0:Int))<|.leaf (.inl ((Int.tmod (Int.fdiv (List.getD b (Int.toNat (Int.tdiv a (64:Int))) 0) (2^(min (Int.toNat (IntKind.u64.wrap (Int.tmod a (64:Int)))) (IntKind.u64.bits)))) (2:Int))==(1:Int))))
      (.leaf (.inl false)))
    (.leaf (.inl false))
def S0(a:Bool) :T ((Empty)⊕(jz)) :=
  .leaf (.inr (.r0 a))
def jA(a:List Int)(b:Int) :Option jz:=lw (aC ((Gz a b).run) fun c =>
  (S0 c).run)
theorem S2(c:Lv)(a:List Int)(b:Int){x:jz}(h:jA a b=some x) :aj prog AL [] [.imm c (.ns .u64 a) 1 1 0 (List.length a),.int .i64 b] (Bp x) :=
  lM true Bp Jm h (Sg.cut 2 SY (bo te SZ [⟨[],[],[4]⟩,⟨[],[],[4]⟩,⟨[],[],[4]⟩]) (fun e=>bo te _ [⟨[],[],[4]⟩]))
    (fun x=>by cases x with | r0 d=>exact lz [.bool false d])
def kH:Option jz→Bool
  | some _=>true
  | none=>false
def kg:Option jz→Bool
  | some (.r0 x)=>x
  | _=>false
theorem S3{x:Option jz}(h:kH x=true) :x=some (.r0 (kg x)):=by
  unfold kH at h
  split at h<;>first | rfl | (cases h;done) | (rename_i y;cases y;rfl)
def Jn:aE:=bT AL (.cons (.ns .u64) (.cons (.int .i64) .nil)) fun t=>(fun q=>[⟨Bp (.r0 (kg q)),[kH q]⟩]) (jA t.1.2 t.2.1)
theorem MN:aM prog Jn:=aJ fun t=>(aK (fun h=>S2 t.1.1 t.1.2 t.2.1 (S3 h)) bb)
def Jo:List aE:=Jn::Gy
theorem dP:bc prog (bh Jo):=ap MN te
inductive cv where
  | r0 (a:List Int) (b:Nat) (c:Bool)
def sO:cv→AE×aF
  | .r0 a b c=>(.ret,⟨ah 68 [(4,.imm .free (.ns .u64 a) 1 1 0 b),(5,.bool false c)],[],0⟩)
theorem fS:j8 sO:=by intro x;cases x<;>(intro h;cases h)
theorem GA(id:Nat) :mz id sO:=by intro x;cases x<;>(intro h;cases h)
def Bq:cv→iK
  | .r0 a b c=>⟨.tup [.imm .free (.ns .u64 a) 1 1 0 b,.bool false c],[]⟩
def Do:List Code:=cY (mU vY)
def S4(b:Lv)(a:List Int)(c:Int) :Bool×Int→aF:=fun (d,e)=>⟨ah 68 [(0,.imm b (.ns .u64 a) 1 1 0 (List.length a)),(1,.int .i64 c),(6,.bool false d),(7,.int .i64 e)],[],0⟩
def xc(a:List Int) :T ((Bool×Int)⊕(cv)) :=
  .need (aP 0 (List.length a) a)<|.need (nG (kG (aa 0 (List.length a) a)))<|.leaf (.inl (false,(oI (kG (aa 0 (List.length a) a)))))
def S5(b:Lv)(a:List Int)(c:Int)(d:Bool)(e:Int)(_:Unit) :aF:=⟨ah 68 [(0,.imm b (.ns .u64 a) 1 1 0 (List.length a)),(1,.int .i64 c),(6,.bool false d),(7,.int .i64 e),(8,.int .i64 (0:Int))],[],0⟩
def Pg:T ((Unit)⊕(cv)) :=
  .leaf (.inl ())
def zz(b:Lv)(a:List Int)(c:Int)(d:Int) :Bool×Nat→aF:=fun (e,f)=>⟨ah 68 [(0,.imm b (.ns .u64 a) 1 1 0 (List.length a)),(1,.int .i64 c),(6,.bool false e),(7,.int .i64 d),(8,.int .i64 ((f:Nat):Int))],[],0⟩
def GB(b:Lv)(a:List Int)(c:Int)(d:Int)(e:Bool) :aF:=⟨ah 68 [(0,.imm b (.ns .u64 a) 1 1 0 (List.length a)),(1,.int .i64 c),(6,.bool false e),(7,.int .i64 d)],[],0⟩
def Ph:List Code:=cY (d7 (((((Do.drop 3).drop 1).take 1)).headD .skip))
def S6(b:Lv)(a:List Int)(c:Int)(d:Int)(e:Bool)(f:Nat)(g:Bool) :aF:=⟨ah 68 [(0,.imm b (.ns .u64 a) 1 1 0 (List.length a)),(1,.int .i64 c),(6,.bool false e),(7,.int .i64 d),(8,.int .i64 ((f:Nat):Int)),(20,.bool false g)],[],0⟩
def nH(b:Int)(c:Int)(a:Nat) :T ((Bool)⊕((Bool)⊕(cv))) :=
  .ask (decide (((a:Nat):Int)<b))
    (.leaf (.inl (decide (((a:Nat):Int)<c))))
    (.leaf (.inl false))
def S7(b:Lv)(a:List Int)(c:Int)(d:Int)(e:Nat)(f:Bool) :aF:=⟨ah 68 [(0,.imm b (.ns .u64 a) 1 1 0 (List.length a)),(1,.int .i64 c),(6,.bool false f),(7,.int .i64 d),(8,.int .i64 ((e:Nat):Int))],[],0⟩
def xd(a:List Int)(b:Bool)(c:Nat)(d:Bool) :T ((Bool)⊕((Bool)⊕(cv))) :=
  .ask d
    (.ask b
      (.leaf (.inl true))
      (.need (aP 0 (List.length a) a)<|.need (kH (jA (aa 0 (List.length a) a) ((c:Nat):Int)))<|.leaf (.inl (kg (jA (aa 0 (List.length a) a) ((c:Nat):Int))))))
    (.leaf (.inr (.inl b)))
def Pi(a:Nat)(b:Bool) :T ((Bool×Nat)⊕((Bool)⊕(cv))) :=
  .need (dI .i64 (((a+1):Nat):Int))<|.leaf (.inl (b,(a+1)))
def sc(b:List Int)(c:Int)(d:Int) :Bool×Nat→Option ((Bool×Nat)⊕((Bool)⊕(cv))):=fun (e,a) =>
  aC ((nH c d a).run) fun f =>
  aC ((xd b e a f).run) fun g =>
  (Pi a g).run
theorem Pj(d:Lv)(a:List Int)(b:Int)(c:Int)(f:Bool)(e:Nat) :Sg prog [] Ph (zz d a b c (f,e)) (sc a b c (f,e)) (zz d a b c) (dH 0 (GB d a b c) sO):=by
  unfold sc;exact Sg.cut 1 (bz fS) (bo dP (S6 d a b c f e) [⟨[],[],[0,1,6,7,8,20]⟩,⟨[],[],[0,1,6,7,8,20]⟩]) (fun g=>Sg.cut 2 (bz fS) (bo dP (S7 d a b c e) [⟨[],[],[0,1,6,7,8]⟩,⟨[],[],[0,1,6,7,8]⟩,⟨[],[],[0,1,6,7]⟩]) (fun h=>bo dP _ [⟨[],[],[0,1,6,7,8]⟩]))
def Pk(c:Lv)(a:List Int)(b:Int)(d:Int)(e:Bool)(f:(List Int)) :aF:=⟨ah 68 [(0,.imm c (.ns .u64 a) 1 1 0 (List.length a)),(1,.int .i64 b),(6,.bool false e),(7,.int .i64 d),(9,.sl 0 1 1 0 (List.length a) (List.length a)),(10,.int .i64 b)],[(0,.ns .u64 f)],1⟩
def xe(a:List Int)(b:Int)(c:Int)(d:Bool) :T (((List Int))⊕(cv)) :=
  .ask (decide (b≥c))
    (.leaf (.inr (.r0 ([]:List Int) 0 d)))
    (.need (decide ((0:Int)≤(((List.length a):Nat):Int)))<|.need (decide ((((List.length a):Nat):Int)≤(((List.length a):Nat):Int)))<|.need (decide ((8:Int)*(((List.length a):Nat):Int)≤140737488355328))<|.need (dI .i64 (((List.length a):Nat):Int))<|.leaf (.inl (List.replicate (List.length a) (0:Int))))
def xf(b:Lv)(a:List Int)(c:Int)(d:Int)(e:Bool) :Int×(List Int)→aF:=fun (f,g)=>⟨ah 68 [(0,.imm b (.ns .u64 a) 1 1 0 (List.length a)),(1,.int .i64 c),(6,.bool false e),(7,.int .i64 d),(9,.sl 0 1 1 0 (List.length a) (List.length a)),(10,.int .i64 f)],[(0,.ns .u64 g)],1⟩
def Dp(a:List Int)(b:Bool)(c:(List Int)) :aF:=⟨ah 68 [(6,.bool false b),(9,.sl 0 1 1 0 (List.length a) (List.length a))],[(0,.ns .u64 c)],1⟩
def Pm:List Code:=cY (d7 (((((((Do.drop 3).drop 1).drop 1).drop 4).take 1)).headD .skip))
def Pn(b:Lv)(a:List Int)(c:Int)(d:Int)(e:Bool)(f:Int)(g:(List Int)) :aF:=⟨ah 68 [(0,.imm b (.ns .u64 a) 1 1 0 (List.length a)),(1,.int .i64 c),(6,.bool false e),(7,.int .i64 d),(9,.sl 0 1 1 0 (List.length a) (List.length a)),(10,.int .i64 f)],[(0,.ns .u64 g)],1⟩
def sd(c:List Int)(b:Int)(e:Int)(a:Int)(d:List Int) :T (((List Int))⊕(((List Int))⊕(cv))) :=
  .ask (decide (a<e))
    (.need (aP 0 (List.length c) c)<|.need (kH (jA (aa 0 (List.length c) c) a))<|.ask (kg (jA (aa 0 (List.length c) c) a))
      (.need (dI .i64 (a-b))<|.need ((64:Int) != (0:Int))<|.need (dI .i64 (Int.tdiv (a-b) (64:Int)))<|.need (dI .i64 (a-b))<|.need ((64:Int) != (0:Int))<|.need (dI .i64 (Int.tdiv (a-b) (64:Int)))<|.need (gA (Int.tdiv (a-b) (64:Int)) (List.length c))<|.need (gM (Int.toNat (Int.tdiv (a-b) (64:Int))) (List.length d))<|.need (dI .i64 (a-b))<|.need ((64:Int) != (0:Int))<|.need (decide ((0:Int)≤(IntKind.u64.wrap (Int.tmod (a-b) (64:Int)))))<|.need (gA (Int.tdiv (a-b) (64:Int)) (List.length c))<|.need (gM (Int.toNat (Int.tdiv (a-b) (64:Int))) (List.length d))<|.leaf (.inl (List.set d (Int.toNat (Int.tdiv (a-b) (64:Int))) (IntKind.u64.wrap ((List.getD d (Int.toNat (Int.tdiv (a-b) (64:Int))) 0)+(IntKind.u64.wrap ((1:Int)*2^(min (Int.toNat (IntKind.u64.wrap (Int.tmod (a-b) (64:Int)))) (IntKind.u64.bits)))))))))
      (.leaf (.inl d)))
    (.leaf (.inr (.inl d)))
def Po(a:Int)(b:List Int) :T ((Int×(List Int))⊕(((List Int))⊕(cv))) :=
  .need (dI .i64 (a+(1:Int)))<|.leaf (.inl ((a+(1:Int)),b))
def xg(b:List Int)(c:Int)(d:Int) :Int×(List Int)→Option ((Int×(List Int))⊕(((List Int))⊕(cv))):=fun (a,e) =>
  aC ((sd b c d a e).run) fun f =>
  (Po a f).run
theorem Pp(e:Lv)(a:List Int)(b:Int)(c:Int)(d:Bool)(f:Int)(g:List Int) :Sg prog [] Pm (xf e a b c d (f,g)) (xg a b c (f,g)) (xf e a b c d) (dH 2 (Dp a d) sO):=by
  unfold xg;exact Sg.cut 3 (bz fS) (bo dP (Pn e a b c d f) [⟨[],[0],[0,1,6,7,9,10]⟩,⟨[],[0],[0,1,6,7,9,10]⟩,⟨[],[0],[6,9]⟩]) (fun h=>bo dP _ [⟨[],[0],[0,1,6,7,9,10]⟩])
def Pq(a:Bool) :(List Int)×Nat→aF:=fun (b,c)=>⟨ah 68 [(4,.imm .free (.ns .u64 b) 1 1 0 c),(5,.bool false a)],[],0⟩
def Dq(a:List Int)(b:List Int) :T (((List Int)×Nat)⊕(cv)) :=
  .need (aP 0 (List.length a) b)<|.need (lD (fb (aa 0 (List.length a) b)))<|.leaf (.inl ((k9 (fb (aa 0 (List.length a) b))),(k8 (fb (aa 0 (List.length a) b)))))
def Pr(a:Bool)(b:List Int)(c:Nat) :T ((Empty)⊕(cv)) :=
  .leaf (.inr (.r0 b c a))
def pE(a:List Int)(b:Int) :Option cv:=lw (aC ((xc a).run) fun (e,c) =>
  aC ((Pg).run) fun _ =>
  aC (df (sc a b c) (e,0)) fun d =>
  aC ((xe a b c d).run) fun f =>
  aC (df (xg a b c) (b,f)) fun g =>
  aC ((Dq a g).run) fun (h,i) =>
  (Pr d h i).run)
theorem S8(c:Lv)(a:List Int)(b:Int){x:cv}(h:pE a b=some x) :aj prog vY [] [.imm c (.ns .u64 a) 1 1 0 (List.length a),.int .i64 b] (Bq x) :=
  lM true Bq sO h (Sg.cut 3 fS (bo dP (S4 c a b) [⟨[],[],[0,1,6,7]⟩]) (fun ⟨f,d⟩=>Sg.cut 1 fS (bo dP (S5 c a b f d) [⟨[],[],[0,1,6,7,8]⟩]) (fun _=>Sg.cut 1 fS (Ej ⟨[],[],[0,1,6,7,8]⟩ (zz c a b d) (GB c a b d) 0 fS (GA _) (fun ⟨g,i⟩=>Pj c a b d g i)) (fun e=>Sg.cut 4 fS (bo dP (Pk c a b d e) [⟨[(.slot 4,.fre 1 1 (.ns .u64 ([]:List Int)))],[],[4,5]⟩,⟨[],[80],[0,1,6,7,9,10]⟩]) (fun o=>Sg.cut 1 fS (Ej ⟨[],[0],[0,1,6,7,9,10]⟩ (xf c a b d e) (Dp a e) 2 fS (GA _) (fun ⟨j,k⟩=>Pp c a b d e j k)) (fun p=>Sg.cut 1 fS (bo dP (Pq e) [⟨[],[],[4,5]⟩]) (fun ⟨q,r⟩=>bo dP _ [⟨[],[],[4,5]⟩])))))))
    (fun x=>by cases x with | r0 l m n=>exact lz [.imm .free (.ns .u64 l) 1 1 0 m,.bool false n])
def uj:Option cv→Bool
  | some _=>true
  | none=>false
def vb:Option cv→List Int
  | some (.r0 x _ _)=>x
  | _=>[]
def vc:Option cv→Nat
  | some (.r0 _ x _)=>x
  | _=>0
def Br:Option cv→Bool
  | some (.r0 _ _ x)=>x
  | _=>false
theorem S9{x:Option cv}(h:uj x=true) :x=some (.r0 (vb x) (vc x) (Br x)):=by
  unfold uj at h
  split at h<;>first | rfl | (cases h;done) | (rename_i y;cases y;rfl)
def Jp:aE:=bT vY (.cons (.ns .u64) (.cons (.int .i64) .nil)) fun t=>(fun q=>[⟨Bq (.r0 (vb q) (vc q) (Br q)),[uj q]⟩]) (pE t.1.2 t.2.1)
theorem MO:aM prog Jp:=aJ fun t=>(aK (fun h=>S8 t.1.1 t.1.2 t.2.1 (S9 h)) bb)
def Jq:List aE:=Jp::Jo
theorem kh:bc prog (bh Jq):=ap MO dP
inductive dw where
  | r0 (a:Nat)
def se:dw→AE×aF
  | .r0 a=>(.ret,⟨ah 16 [(2,.int .i64 ((a:Nat):Int))],[],0⟩)
theorem md:j8 se:=by intro x;cases x<;>(intro h;cases h)
theorem MP(id:Nat) :mz id se:=by intro x;cases x<;>(intro h;cases h)
def xh:dw→iK
  | .r0 a=>⟨.int .i64 ((a:Nat):Int),[]⟩
def MQ:List Code:=cY (mU rV)
def MR(b:Lv)(a:List Int)(c:Int) :aF:=⟨ah 16 [(0,.imm b (.ns .u64 a) 1 1 0 (List.length a)),(3,.int .i64 c)],[],0⟩
def z8(a:List Int) :T ((Int)⊕(dw)) :=
  .need (aP 0 (List.length a) a)<|.need (nG (kG (aa 0 (List.length a) a)))<|.leaf (.inl (oI (kG (aa 0 (List.length a) a))))
def MS(b:Lv)(a:List Int)(c:Int)(_:Unit) :aF:=⟨ah 16 [(0,.imm b (.ns .u64 a) 1 1 0 (List.length a)),(3,.int .i64 c),(4,.int .i64 (0:Int))],[],0⟩
def JY:T ((Unit)⊕(dw)) :=
  .leaf (.inl ())
def vd(b:Lv)(a:List Int)(c:Int)(d:Nat) :aF:=⟨ah 16 [(0,.imm b (.ns .u64 a) 1 1 0 (List.length a)),(3,.int .i64 c),(4,.int .i64 ((d:Nat):Int))],[],0⟩
def Bs(_:Unit) :aF:=⟨ah 16 [],[],0⟩
def JZ:List Code:=cY (d7 (((((MQ.drop 2).drop 1).take 1)).headD .skip))
def MT(b:Lv)(a:List Int)(c:Int)(d:Nat)(_:Unit) :aF:=⟨ah 16 [(0,.imm b (.ns .u64 a) 1 1 0 (List.length a)),(3,.int .i64 c),(4,.int .i64 ((d:Nat):Int))],[],0⟩
def ld(a:List Int)(c:Int)(b:Nat) :T ((Unit)⊕((Unit)⊕(dw))) :=
  .ask (decide (((b:Nat):Int)<c))
    (.need (aP 0 (List.length a) a)<|.need (kH (jA (aa 0 (List.length a) a) ((b:Nat):Int)))<|.ask (kg (jA (aa 0 (List.length a) a) ((b:Nat):Int)))
      (.leaf (.inr (.inr (.r0 b))))
      (.leaf (.inl ())))
    (.leaf (.inr (.inl ())))
def J0(a:Nat) :T ((Nat)⊕((Unit)⊕(dw))) :=
  .need (dI .i64 (((a+1):Nat):Int))<|.leaf (.inl (a+1))
def tf(b:List Int)(c:Int) :Nat→Option ((Nat)⊕((Unit)⊕(dw))):=fun a =>
  aC ((ld b c a).run) fun _ =>
  (J0 a).run
theorem J1(c:Lv)(a:List Int)(b:Int)(d:Nat) :Sg prog [] JZ (vd c a b d) (tf a b d) (vd c a b) (dH 0 Bs se):=by
  unfold tf;exact Sg.cut 3 (bz md) (bo kh (MT c a b d) [⟨[],[],[2]⟩,⟨[],[],[0,3,4]⟩,⟨[],[],[]⟩]) (fun _=>bo kh _ [⟨[],[],[0,3,4]⟩])
def J2:T ((Empty)⊕(dw)) :=
  .leaf (.inr (.r0 0))
def nI(a:List Int) :Option dw:=lw (aC ((z8 a).run) fun b =>
  aC ((JY).run) fun _ =>
  aC (df (tf a b) 0) fun _ =>
  (J2).run)
theorem MU(b:Lv)(a:List Int){x:dw}(h:nI a=some x) :aj prog rV [] [.imm b (.ns .u64 a) 1 1 0 (List.length a)] (xh x) :=
  lM true xh se h (Sg.cut 2 md (bo kh (MR b a) [⟨[],[],[0,3]⟩]) (fun c=>Sg.cut 1 md (bo kh (MS b a c) [⟨[],[],[0,3,4]⟩]) (fun _=>Sg.cut 1 md (Ej ⟨[],[],[0,3,4]⟩ (vd b a c) (Bs) 0 md (MP _) (fun d=>J1 b a c d)) (fun _=>bo kh _ [⟨[],[],[2]⟩]))))
    (fun x=>by cases x with | r0 e=>exact lz [.int .i64 ((e:Nat):Int)])
def qk:Option dw→Bool
  | some _=>true
  | none=>false
def rC:Option dw→Nat
  | some (.r0 x)=>x
  | _=>0
theorem MV{x:Option dw}(h:qk x=true) :x=some (.r0 (rC x)):=by
  unfold qk at h
  split at h<;>first | rfl | (cases h;done) | (rename_i y;cases y;rfl)
def Dr:aE:=bT rV (.cons (.ns .u64) .nil) fun t=>(fun q=>[⟨xh (.r0 (rC q)),[qk q]⟩]) (nI t.1.2)
theorem Id:aM prog Dr:=aJ fun t=>(aK (fun h=>MU t.1.1 t.1.2 (MV h)) bb)
def Ds:List aE:=Dr::Jq
theorem rD:bc prog (bh Ds):=ap Id kh
inductive jB where
  | r0 (a:Bool)
def Jr:jB→AE×aF
  | .r0 a=>(.ret,⟨ah 32 [(2,.bool false a)],[],0⟩)
theorem Ta:j8 Jr:=by intro x;cases x<;>(intro h;cases h)
def Bt:jB→iK
  | .r0 a=>⟨.bool false a,[]⟩
def Tb(a:Bool) :aF:=⟨ah 32 [(2,.bool false a)],[],0⟩
def GC(a:Int)(b:Int)(c:List Nat) :T ((Bool)⊕(jB)) :=
  .ask (decide (a≥(0:Int)))
    (.ask (decide (a≤(512:Int)))
      (.ask (decide (b≥(0:Int)))
        (.ask (decide (b≤(512:Int)))
          (.need (dI .i64 (a*b))<|.leaf (.inl ((((List.length c):Nat):Int)==(a*b))))
          (.leaf (.inl false)))
        (.leaf (.inl false)))
      (.leaf (.inl false)))
    (.leaf (.inl false))
def Tc(a:Bool) :T ((Empty)⊕(jB)) :=
  .leaf (.inr (.r0 a))
def me(a:Int)(b:Int)(c:List Nat) :Option jB:=lw (aC ((GC a b c).run) fun d =>
  (Tc d).run)
theorem Td(b:Int)(c:Int)(d:Lv)(a:List Nat){x:jB}(h:me b c a=some x) :aj prog IP [] [.agg [.int .i64 b,.int .i64 c,.imm d (.fl a) 1 1 0 (List.length a)]] (Bt x) :=
  lM false Bt Jr h (Sg.cut 2 Ta (bo rD Tb [⟨[],[],[2]⟩,⟨[],[],[2]⟩,⟨[],[],[2]⟩,⟨[],[],[2]⟩,⟨[],[],[2]⟩]) (fun f=>bo rD _ [⟨[],[],[2]⟩]))
    (fun x=>by cases x with | r0 e=>exact lz [.bool false e])
def ql:Option jB→Bool
  | some _=>true
  | none=>false
def qm:Option jB→Bool
  | some (.r0 x)=>x
  | _=>false
theorem Te{x:Option jB}(h:ql x=true) :x=some (.r0 (qm x)):=by
  unfold ql at h
  split at h<;>first | rfl | (cases h;done) | (rename_i y;cases y;rfl)
def Js:aE:=bT IP (.cons (.agg (.cons (.int .i64) (.cons (.int .i64) (.cons .fl .nil)))) .nil) fun t=>(fun q=>[⟨Bt (.r0 (qm q)),[ql q]⟩]) (me t.1.1 t.1.2.1 t.1.2.2.1.2)
theorem MW:aM prog Js:=aJ fun t=>(aK (fun h=>Td t.1.1 t.1.2.1 t.1.2.2.1.1 t.1.2.2.1.2 (Te h)) bb)
def Jt:List aE:=Js::Ds
theorem qn:bc prog (bh Jt):=ap MW rD
inductive dQ where
  | r0 (a:Bool)
def qo:dQ→AE×aF
  | .r0 a=>(.ret,⟨ah 20 [(2,.bool false a)],[],0⟩)
theorem tg:j8 qo:=by intro x;cases x<;>(intro h;cases h)
theorem J3(id:Nat) :mz id qo:=by intro x;cases x<;>(intro h;cases h)
def ve:dQ→iK
  | .r0 a=>⟨.bool false a,[]⟩
def J4:List Code:=cY (mU uM)
def J5(b:Lv)(a:List Nat)(_:Unit) :aF:=⟨ah 20 [(0,.imm b (.fl a) 1 1 0 (List.length a)),(3,.int .i64 (0:Int))],[],0⟩
def J6:T ((Unit)⊕(dQ)) :=
  .leaf (.inl ())
def th(b:Lv)(a:List Nat)(c:Nat) :aF:=⟨ah 20 [(0,.imm b (.fl a) 1 1 0 (List.length a)),(3,.int .i64 ((c:Nat):Int))],[],0⟩
def z9(_:Unit) :aF:=⟨ah 20 [],[],0⟩
def J7:List Code:=cY (d7 ((((J4.drop 2).take 1)).headD .skip))
def lf(b:List Nat)(a:Nat) :T ((Nat)⊕((Unit)⊕(dQ))) :=
  .ask (decide (((a:Nat):Int)<(((List.length b):Nat):Int)))
    (.need (gA ((a:Nat):Int) (List.length b))<|.need (gM a (List.length b))<|.need (gA ((a:Nat):Int) (List.length b))<|.need (gM a (List.length b))<|.ask (Fa (T6 (List.getD b a 0) (List.getD b a 0)) 0)
      (.leaf (.inr (.inr (.r0 false))))
      (.need (dI .i64 (((a+1):Nat):Int))<|.leaf (.inl (a+1))))
    (.leaf (.inr (.inl ())))
def mM(a:List Nat) :Nat→Option ((Nat)⊕((Unit)⊕(dQ))):=fun b =>
  (lf a b).run
theorem Ie(b:Lv)(a:List Nat)(c:Nat) :Sg prog [] J7 (th b a c) (mM a c) (th b a) (dH 0 z9 qo):=by
  unfold mM;exact bo qn _ [⟨[],[],[2]⟩,⟨[],[],[0,3]⟩,⟨[],[],[]⟩]
def If:T ((Empty)⊕(dQ)) :=
  .leaf (.inr (.r0 true))
def fT(a:List Nat) :Option dQ:=lw (aC ((J6).run) fun _ =>
  aC (df (mM a) 0) fun _ =>
  (If).run)
theorem J8(b:Lv)(a:List Nat){x:dQ}(h:fT a=some x) :aj prog uM [] [.imm b (.fl a) 1 1 0 (List.length a)] (ve x) :=
  lM false ve qo h (Sg.cut 2 tg (bo qn (J5 b a) [⟨[],[],[0,3]⟩]) (fun _=>Sg.cut 1 tg (Ej ⟨[],[],[0,3]⟩ (th b a) (z9) 0 tg (J3 _) (fun c=>Ie b a c)) (fun _=>bo qn _ [⟨[],[],[2]⟩])))
    (fun x=>by cases x with | r0 d=>exact lz [.bool false d])
def jn:Option dQ→Bool
  | some _=>true
  | none=>false
def jC:Option dQ→Bool
  | some (.r0 x)=>x
  | _=>false
theorem J9{x:Option dQ}(h:jn x=true) :x=some (.r0 (jC x)):=by
  unfold jn at h
  split at h<;>first | rfl | (cases h;done) | (rename_i y;cases y;rfl)
def Bu:aE:=bT uM (.cons .fl .nil) fun t=>(fun q=>[⟨ve (.r0 (jC q)),[jn q]⟩]) (fT t.1.2)
theorem GD:aM prog Bu:=aJ fun t=>(aK (fun h=>J8 t.1.1 t.1.2 (J9 h)) bb)
def Bv:List aE:=Bu::Jt
theorem jD:bc prog (bh Bv):=ap GD qn
inductive dd where
  | r0 (a:Nat)
def x5:dd→AE×aF
  | .r0 a=>(.ret,⟨ah 56 [(6,.int .i64 ((a:Nat):Int))],[],0⟩)
theorem qp:j8 x5:=by intro x;cases x<;>(intro h;cases h)
def rE:dd→iK
  | .r0 a=>⟨.int .i64 ((a:Nat):Int),[]⟩
def GE(d:Int)(e:Int)(f:Lv)(a:List Nat)(g:Lv)(b:List Nat)(h:Int)(i:Int)(j:Lv)(c:List Nat)(k:Bool) :aF:=⟨ah 56 [(1,.imm g (.fl b) 1 1 0 (List.length b)),(3,.ptr 0 1 0 0),(5,.ptr 1 1 0 0),(14,.bool false k)],[(0,.vs [.int .i64 d,.int .i64 e,.imm f (.fl a) 1 1 0 (List.length a)]),(1,.vs [.int .i64 h,.int .i64 i,.imm j (.fl c) 1 1 0 (List.length c)])],2⟩
def qq(c:Int)(d:Int)(a:List Nat)(e:Int)(f:Int)(b:List Nat) :T ((Bool)⊕(dd)) :=
  .need (aP 0 (List.length a) a)<|.need (ql (me c d (aa 0 (List.length a) a)))<|.ask (!(qm (me c d (aa 0 (List.length a) a))))
    (.leaf (.inl true))
    (.need (aP 0 (List.length b) b)<|.need (ql (me e f (aa 0 (List.length b) b)))<|.leaf (.inl (!(qm (me e f (aa 0 (List.length b) b))))))
def GF(d:Int)(e:Int)(f:Lv)(a:List Nat)(g:Lv)(b:List Nat)(h:Int)(i:Int)(j:Lv)(c:List Nat)(k:Bool) :aF:=⟨ah 56 [(1,.imm g (.fl b) 1 1 0 (List.length b)),(3,.ptr 0 1 0 0),(5,.ptr 1 1 0 0),(40,.bool false k)],[(0,.vs [.int .i64 d,.int .i64 e,.imm f (.fl a) 1 1 0 (List.length a)]),(1,.vs [.int .i64 h,.int .i64 i,.imm j (.fl c) 1 1 0 (List.length c)])],2⟩
def jE(a:Int)(b:Int)(c:List Nat)(d:Int)(e:Int)(f:Bool) :T ((Bool)⊕(dd)) :=
  .ask f
    (.leaf (.inr (.r0 2)))
    (.ask (a != b)
      (.leaf (.inl true))
      (.ask ((((List.length c):Nat):Int) != a)
        (.leaf (.inl true))
        (.ask (d != a)
          (.leaf (.inl true))
          (.leaf (.inl (e != a))))))
def GG(a:Bool) :aF:=⟨ah 56 [(55,.bool false a)],[],0⟩
def qr(a:List Nat)(b:List Nat)(c:List Nat)(d:Bool) :T ((Bool)⊕(dd)) :=
  .ask d
    (.leaf (.inr (.r0 8)))
    (.need (aP 0 (List.length a) a)<|.need (jn (fT (aa 0 (List.length a) a)))<|.ask (!(jC (fT (aa 0 (List.length a) a))))
      (.leaf (.inl true))
      (.need (aP 0 (List.length b) b)<|.need (jn (fT (aa 0 (List.length b) b)))<|.ask (!(jC (fT (aa 0 (List.length b) b))))
        (.leaf (.inl true))
        (.need (aP 0 (List.length c) c)<|.need (jn (fT (aa 0 (List.length c) c)))<|.leaf (.inl (!(jC (fT (aa 0 (List.length c) c))))))))
def GH(a:Bool) :T ((Empty)⊕(dd)) :=
  .ask a
    (.leaf (.inr (.r0 10)))
    (.leaf (.inr (.r0 0)))
def ki(a:Int)(b:Int)(c:List Nat)(d:List Nat)(e:Int)(f:Int)(g:List Nat) :Option dd:=lw (aC ((qq a b c e f g).run) fun h =>
  aC ((jE a b d e f h).run) fun i =>
  aC ((qr c d g i).run) fun j =>
  (GH j).run)
theorem GI(d:Int)(e:Int)(i:Lv)(a:List Nat)(j:Lv)(b:List Nat)(f:Int)(g:Int)(k:Lv)(c:List Nat){x:dd}(h:ki d e a b f g c=some x) :aj prog rh [] [.agg [.int .i64 d,.int .i64 e,.imm i (.fl a) 1 1 0 (List.length a)],.imm j (.fl b) 1 1 0 (List.length b),.agg [.int .i64 f,.int .i64 g,.imm k (.fl c) 1 1 0 (List.length c)]] (rE x) :=
  lM true rE x5 h (Sg.cut 2 qp (bo jD (GE d e i a j b f g k c) [⟨[],[0,16],[1,3,5,14]⟩,⟨[],[0,16],[1,3,5,14]⟩]) (fun m=>Sg.cut 2 qp (bo jD (GF d e i a j b f g k c) [⟨[],[],[6]⟩,⟨[],[0,1],[1,3,5,40]⟩,⟨[],[0,1],[1,3,5,40]⟩,⟨[],[0,1],[1,3,5,40]⟩,⟨[],[0,1],[1,3,5,40]⟩]) (fun n=>Sg.cut 2 qp (bo jD GG [⟨[],[],[6]⟩,⟨[],[],[55]⟩,⟨[],[],[55]⟩,⟨[],[],[55]⟩]) (fun o=>bo jD _ [⟨[],[],[6]⟩,⟨[],[],[6]⟩]))))
    (fun x=>by cases x with | r0 l=>exact lz [.int .i64 ((l:Nat):Int)])
def lJ:Option dd→Bool
  | some _=>true
  | none=>false
def mV:Option dd→Nat
  | some (.r0 x)=>x
  | _=>0
theorem GJ{x:Option dd}(h:lJ x=true) :x=some (.r0 (mV x)):=by
  unfold lJ at h
  split at h<;>first | rfl | (cases h;done) | (rename_i y;cases y;rfl)
def x6:aE:=bT rh (.cons (.agg (.cons (.int .i64) (.cons (.int .i64) (.cons .fl .nil)))) (.cons .fl (.cons (.agg (.cons (.int .i64) (.cons (.int .i64) (.cons .fl .nil)))) .nil))) fun t=>(fun q=>[⟨rE (.r0 (mV q)),[lJ q]⟩]) (ki t.1.1 t.1.2.1 t.1.2.2.1.2 t.2.1.2 t.2.2.1.1 t.2.2.1.2.1 t.2.2.1.2.2.1.2)
theorem CI:aM prog x6:=aJ fun t=>(aK (fun h=>GI t.1.1 t.1.2.1 t.1.2.2.1.1 t.1.2.2.1.2 t.2.1.1 t.2.1.2 t.2.2.1.1 t.2.2.1.2.1 t.2.2.1.2.2.1.1 t.2.2.1.2.2.1.2 (GJ h)) bb)
def x7:List aE:=x6::Bv
theorem j5:bc prog (bh x7):=ap CI jD
inductive fw where
  | r0 (a:Int) (b:Nat) (c:List Nat)
def wl:fw→AE×aF
  | .r0 a b c=>(.ret,⟨ah 26 [(2,.ptr 0 1 0 0)],[(0,.vs [.int .i64 a,.int .i64 a,.sl 1 1 1 0 b b]),(1,.fl c)],2⟩)
theorem zA:j8 wl:=by intro x;cases x<;>(intro h;cases h)
theorem Tf(id:Nat) :mz id wl:=by intro x;cases x<;>(intro h;cases h)
def Bw:fw→iK
  | .r0 a b c=>⟨.agg [.int .i64 a,.int .i64 a,.sl 0 1 1 0 b b],[some (.fl c)]⟩
def Tg:List Code:=cY (mU AD)
def Th(a:Int) :Nat×(List Nat)→aF:=fun (b,c)=>⟨ah 26 [(0,.int .i64 a),(2,.ptr 0 1 0 0),(3,.ptr 1 1 0 0),(4,.int .i64 (0:Int))],[(0,.vs [.int .i64 (0:Int),.int .i64 (0:Int),.nsl]),(1,.vs [.int .i64 a,.int .i64 a,.sl 2 1 1 0 b b]),(2,.fl c)],3⟩
def Ti(a:Int) :T ((Nat×(List Nat))⊕(fw)) :=
  .need (dI .i64 (a*a))<|.need (decide ((0:Int)≤(a*a)))<|.need (decide ((a*a)≤(a*a)))<|.need (decide ((8:Int)*(a*a)≤140737488355328))<|.need (dI .i64 (a*a))<|.leaf (.inl ((Int.toNat (a*a)),(List.replicate (Int.toNat (a*a)) 0)))
def zB(a:Int)(b:Nat) :Nat×(List Nat)→aF:=fun (c,d)=>⟨ah 26 [(0,.int .i64 a),(2,.ptr 0 1 0 0),(3,.ptr 1 1 0 0),(4,.int .i64 ((c:Nat):Int))],[(0,.vs [.int .i64 (0:Int),.int .i64 (0:Int),.nsl]),(1,.vs [.int .i64 a,.int .i64 a,.sl 2 1 1 0 b b]),(2,.fl d)],3⟩
def GM(a:Int)(b:Nat)(c:(List Nat)) :aF:=⟨ah 26 [(2,.ptr 0 1 0 0),(3,.ptr 1 1 0 0)],[(0,.vs [.int .i64 (0:Int),.int .i64 (0:Int),.nsl]),(1,.vs [.int .i64 a,.int .i64 a,.sl 2 1 1 0 b b]),(2,.fl c)],3⟩
def Tj:List Code:=cY (d7 ((((Tg.drop 3).take 1)).headD .skip))
def Tk(b:Int)(d:Nat)(a:Nat)(c:List Nat) :T ((Nat×(List Nat))⊕(((List Nat))⊕(fw))) :=
  .ask (decide (((a:Nat):Int)<b))
    (.need (dI .i64 (((a:Nat):Int)*b))<|.need (dI .i64 ((((a:Nat):Int)*b)+((a:Nat):Int)))<|.need (gA ((((a:Nat):Int)*b)+((a:Nat):Int)) d)<|.need (gM (Int.toNat ((((a:Nat):Int)*b)+((a:Nat):Int))) (List.length c))<|.need (dI .i64 (((a+1):Nat):Int))<|.leaf (.inl ((a+1),(List.set c (Int.toNat ((((a:Nat):Int)*b)+((a:Nat):Int))) 4607182418800017408))))
    (.leaf (.inr (.inl c)))
def xi(a:Int)(b:Nat) :Nat×(List Nat)→Option ((Nat×(List Nat))⊕(((List Nat))⊕(fw))):=fun (c,d) =>
  (Tk a b c d).run
theorem Ps(a:Int)(b:Nat)(c:Nat)(d:List Nat) :Sg prog [] Tj (zB a b (c,d)) (xi a b (c,d)) (zB a b) (dH 0 (GM a b) wl):=by
  unfold xi;exact bo j5 _ [⟨[],[0,1,2],[0,2,3,4]⟩,⟨[],[0,1,2],[2,3]⟩]
def Pt(a:Int)(b:Nat)(c:List Nat) :T ((Empty)⊕(fw)) :=
  .leaf (.inr (.r0 a b c))
def mf(a:Int) :Option fw:=lw (aC ((Ti a).run) fun (b,c) =>
  aC (df (xi a b) (0,c)) fun d =>
  (Pt a b d).run)
theorem Tl(a:Int){x:fw}(h:mf a=some x) :aj prog AD [] [.int .i64 a] (Bw x) :=
  lM false Bw wl h (Sg.cut 3 zA (bo j5 (Th a) [⟨[],[0,128,96],[0,2,3,4]⟩]) (fun ⟨b,g⟩=>Sg.cut 1 zA (Ej ⟨[],[0,1,2],[0,2,3,4]⟩ (zB a b) (GM a b) 0 zA (Tf _) (fun ⟨e,f⟩=>Ps a b e f)) (fun i=>bo j5 _ [⟨[],[0,2],[2]⟩])))
    (fun x=>by cases x with | r0 c d j=>exact lz [.agg [.int .i64 c,.int .i64 c,.sl 1 1 1 0 d d]])
def uk:Option fw→Bool
  | some _=>true
  | none=>false
def vf:Option fw→Int
  | some (.r0 x _ _)=>x
  | _=>0
def vg:Option fw→Nat
  | some (.r0 _ x _)=>x
  | _=>0
def vh:Option fw→List Nat
  | some (.r0 _ _ x)=>x
  | _=>[]
theorem Tm{x:Option fw}(h:uk x=true) :x=some (.r0 (vf x) (vg x) (vh x)):=by
  unfold uk at h
  split at h<;>first | rfl | (cases h;done) | (rename_i y;cases y;rfl)
def Ju:aE:=bT AD (.cons (.int .i64) .nil) fun t=>(fun q=>[⟨Bw (.r0 (vf q) (vg q) (vh q)),[uk q]⟩]) (mf t.1)
theorem MX:aM prog Ju:=aJ fun t=>(aK (fun h=>Tl t.1 (Tm h)) bb)
def Jv:List aE:=Ju::x7
theorem vi:bc prog (bh Jv):=ap MX j5
inductive iG where
  | r0 (a:Bool)
def GN:iG→AE×aF
  | .r0 a=>(.ret,⟨ah 32 [(2,.bool false a)],[],0⟩)
theorem Pu:j8 GN:=by intro x;cases x<;>(intro h;cases h)
def zC:iG→iK
  | .r0 a=>⟨.bool false a,[]⟩
def Pv(a:Bool) :aF:=⟨ah 32 [(2,.bool false a)],[],0⟩
def Dt(a:Int)(b:Int)(c:List Nat) :T ((Bool)⊕(iG)) :=
  .ask (decide (a<(0:Int)))
    (.leaf (.inl true))
    (.ask (decide (a>(512:Int)))
      (.leaf (.inl true))
      (.ask (decide (b<(0:Int)))
        (.leaf (.inl true))
        (.ask (decide (b>(512:Int)))
          (.leaf (.inl true))
          (.need (dI .i64 (a*b))<|.leaf (.inl ((((List.length c):Nat):Int) != (a*b)))))))
def Pw(a:Bool) :T ((Empty)⊕(iG)) :=
  .leaf (.inr (.r0 a))
def cL(a:Int)(b:Int)(c:List Nat) :Option iG:=lw (aC ((Dt a b c).run) fun d =>
  (Pw d).run)
theorem Px(b:Int)(c:Int)(d:Lv)(a:List Nat){x:iG}(h:cL b c a=some x) :aj prog FK [] [.agg [.int .i64 b,.int .i64 c,.imm d (.fl a) 1 1 0 (List.length a)]] (zC x) :=
  lM false zC GN h (Sg.cut 2 Pu (bo vi Pv [⟨[],[],[2]⟩,⟨[],[],[2]⟩,⟨[],[],[2]⟩,⟨[],[],[2]⟩,⟨[],[],[2]⟩]) (fun f=>bo vi _ [⟨[],[],[2]⟩]))
    (fun x=>by cases x with | r0 e=>exact lz [.bool false e])
def fK:Option iG→Bool
  | some _=>true
  | none=>false
def ff:Option iG→Bool
  | some (.r0 x)=>x
  | _=>false
theorem Py{x:Option iG}(h:fK x=true) :x=some (.r0 (ff x)):=by
  unfold fK at h
  split at h<;>first | rfl | (cases h;done) | (rename_i y;cases y;rfl)
def GO:aE:=bT FK (.cons (.agg (.cons (.int .i64) (.cons (.int .i64) (.cons .fl .nil)))) .nil) fun t=>(fun q=>[⟨zC (.r0 (ff q)),[fK q]⟩]) (cL t.1.1 t.1.2.1 t.1.2.2.1.2)
theorem Ka:aM prog GO:=aJ fun t=>(aK (fun h=>Px t.1.1 t.1.2.1 t.1.2.2.1.1 t.1.2.2.1.2 (Py h)) bb)
def GQ:List aE:=GO::Jv
theorem oJ:bc prog (bh GQ):=ap Ka vi
inductive aU where
  | r0 (a:Int)
def dh:aU→AE×aF
  | .r0 a=>(.ret,⟨ah 19 [(4,.int .i64 a)],[],0⟩)
theorem d9:j8 dh:=by intro x;cases x<;>(intro h;cases h)
theorem mW(id:Nat) :mz id dh:=by intro x;cases x<;>(intro h;cases h)
def eJ:aU→iK
  | .r0 a=>⟨.int .i64 a,[]⟩
def m4:List Code:=cY (mU o5)
def m5(b:Lv)(a:List Nat)(_:Unit) :aF:=⟨ah 19 [(0,.imm b (.fl a) 1 1 0 (List.length a)),(1,.fn (.func oq) [] []),(7,.int .i64 (((List.length a):Nat):Int)),(8,.int .i64 (0:Int))],[],0⟩
def m6:T ((Unit)⊕(aU)) :=
  .leaf (.inl ())
def ee(b:Lv)(a:List Nat)(c:Nat) :aF:=⟨ah 19 [(0,.imm b (.fl a) 1 1 0 (List.length a)),(1,.fn (.func oq) [] []),(7,.int .i64 (((List.length a):Nat):Int)),(8,.int .i64 ((c:Nat):Int))],[],0⟩
def iy(_:Unit) :aF:=⟨ah 19 [],[],0⟩
def m7:List Code:=cY (d7 ((((m4.drop 2).take 1)).headD .skip))
def cp(b:List Nat)(a:Nat) :T ((Nat)⊕((Unit)⊕(aU))) :=
  .ask (decide (((a:Nat):Int)<(((List.length b):Nat):Int)))
    (.need (gA ((a:Nat):Int) (List.length b))<|.need (gM a (List.length b))<|.ask (Fa (List.getD b a 0) (List.getD b a 0))
      (.leaf (.inr (.inr (.r0 ((a:Nat):Int)))))
      (.ask ((0:Int)==(0:Int))
        (.ask (fgt (lR (List.getD b a 0)) 9218868437227405311)
          (.leaf (.inr (.inr (.r0 ((a:Nat):Int)))))
          (.need (dI .i64 (((a+1):Nat):Int))<|.leaf (.inl (a+1))))
        (.fail)))
    (.leaf (.inr (.inl ())))
def cW(a:List Nat) :Nat→Option ((Nat)⊕((Unit)⊕(aU))):=fun b =>
  (cp a b).run
theorem mN(b:Lv)(a:List Nat)(c:Nat) :Sg prog [] m7 (ee b a c) (cW a c) (ee b a) (dH 0 iy dh):=by
  unfold cW;exact bo oJ _ [⟨[],[],[4]⟩,⟨[],[],[4]⟩,⟨[],[],[0,1,7,8]⟩,⟨[],[],[]⟩]
def mO:T ((Empty)⊕(aU)) :=
  .leaf (.inr (.r0 (-1:Int)))
def ao(a:List Nat) :Option aU:=lw (aC ((m6).run) fun _ =>
  aC (df (cW a) 0) fun _ =>
  (mO).run)
theorem m8(b:Lv)(a:List Nat){x:aU}(h:ao a=some x) :aj prog o5 [] [.imm b (.fl a) 1 1 0 (List.length a),.fn (.func oq) [] []] (eJ x) :=
  lM false eJ dh h (Sg.cut 2 d9 (bo oJ (m5 b a) [⟨[],[],[0,1,7,8]⟩]) (fun _=>Sg.cut 1 d9 (Ej ⟨[],[],[0,1,7,8]⟩ (ee b a) (iy) 0 d9 (mW _) (fun c=>mN b a c)) (fun _=>bo oJ _ [⟨[],[],[4]⟩])))
    (fun x=>by cases x with | r0 d=>exact lz [.int .i64 d])
def aI:Option aU→Bool
  | some _=>true
  | none=>false
def aL:Option aU→Int
  | some (.r0 x)=>x
  | _=>0
theorem m9{x:Option aU}(h:aI x=true) :x=some (.r0 (aL x)):=by
  unfold aI at h
  split at h<;>first | rfl | (cases h;done) | (rename_i y;cases y;rfl)
def iO:aE:=bT o5 (.cons .fl (.cons (.fn oq .nil .nil) .nil)) fun t=>(fun q=>[⟨eJ (.r0 (aL q)),[aI q]⟩]) (ao t.1.2)
theorem mg:aM prog iO:=aJ fun t=>(aK (fun h=>m8 t.1.1 t.1.2 (m9 h)) bb)
def iP:List aE:=iO::GQ
theorem dR:bc prog (bh iP):=ap mg oJ
inductive kJ where
  | r0 (a:Bool)
def MY:kJ→AE×aF
  | .r0 a=>(.ret,⟨ah 17 [(4,.bool false a)],[],0⟩)
theorem WI:j8 MY:=by intro x;cases x<;>(intro h;cases h)
def EI:kJ→iK
  | .r0 a=>⟨.bool false a,[]⟩
def WJ(a:Bool) :aF:=⟨ah 17 [(4,.bool false a)],[],0⟩
def WK(a:Nat)(b:Nat) :T ((Bool)⊕(kJ)) :=
  .ask (Fa a a)
    (.ask (!(Fa b b))
      (.leaf (.inl true))
      (.leaf (.inl (flt a b))))
    (.leaf (.inl (flt a b)))
def WL(a:Bool) :T ((Empty)⊕(kJ)) :=
  .leaf (.inr (.r0 a))
def vj(a:Nat)(b:Nat) :Option kJ:=lw (aC ((WK a b).run) fun c =>
  (WL c).run)
theorem WM(a:Nat)(b:Nat){x:kJ}(h:vj a b=some x) :aj prog Lw [] [.flt false a,.flt false b] (EI x) :=
  lM false EI MY h (Sg.cut 2 WI (bo dR WJ [⟨[],[],[4]⟩,⟨[],[],[4]⟩,⟨[],[],[4]⟩]) (fun d=>bo dR _ [⟨[],[],[4]⟩]))
    (fun x=>by cases x with | r0 c=>exact lz [.bool false c])
def wn:Option kJ→Bool
  | some _=>true
  | none=>false
def xj:Option kJ→Bool
  | some (.r0 x)=>x
  | _=>false
theorem WN{x:Option kJ}(h:wn x=true) :x=some (.r0 (xj x)):=by
  unfold wn at h
  split at h<;>first | rfl | (cases h;done) | (rename_i y;cases y;rfl)
def MZ:aE:=bT Lw (.cons (.flt false) (.cons (.flt false) .nil)) fun t=>(fun q=>[⟨EI (.r0 (xj q)),[wn q]⟩]) (vj t.1 t.2.1)
theorem Pz:aM prog MZ:=aJ fun t=>(aK (fun h=>WM t.1 t.2.1 (WN h)) bb)
def M0:List aE:=MZ::iP
theorem nJ:bc prog (bh M0):=ap Pz dR
inductive cy where
  | r0 (a:Bool)
def lK:cy→AE×aF
  | .r0 a=>(.ret,⟨ah 21 [(2,.bool false a)],[],0⟩)
theorem kK:j8 lK:=by intro x;cases x<;>(intro h;cases h)
theorem EJ(id:Nat) :mz id lK:=by intro x;cases x<;>(intro h;cases h)
def qs:cy→iK
  | .r0 a=>⟨.bool false a,[]⟩
def EK:List Code:=cY (mU pU)
def EL(b:Lv)(a:List Nat)(c:Int) :aF:=⟨ah 21 [(0,.imm b (.fl a) 1 1 0 (List.length a)),(3,.int .i64 c)],[],0⟩
def EM(a:List Nat) :T ((Int)⊕(cy)) :=
  .need (dI .i64 ((((List.length a):Nat):Int)-(1:Int)))<|.leaf (.inl ((((List.length a):Nat):Int)-(1:Int)))
def pb(b:Lv)(a:List Nat)(c:Int) :aF:=⟨ah 21 [(0,.imm b (.fl a) 1 1 0 (List.length a)),(3,.int .i64 c)],[],0⟩
def vk(_:Unit) :aF:=⟨ah 21 [],[],0⟩
def CJ:List Code:=cY (d7 ((((EK.drop 2).take 1)).headD .skip))
def EN(b:Lv)(a:List Nat)(c:Int)(_:Unit) :aF:=⟨ah 21 [(0,.imm b (.fl a) 1 1 0 (List.length a)),(3,.int .i64 c)],[],0⟩
def j6(b:List Nat)(a:Int) :T ((Unit)⊕((Unit)⊕(cy))) :=
  .ask (decide (a>(0:Int)))
    (.need (gA a (List.length b))<|.need (gM (Int.toNat a) (List.length b))<|.need (dI .i64 (a-(1:Int)))<|.need (gA (a-(1:Int)) (List.length b))<|.need (gM (Int.toNat (a-(1:Int))) (List.length b))<|.need (wn (vj (List.getD b (Int.toNat a) 0) (List.getD b (Int.toNat (a-(1:Int))) 0)))<|.ask (xj (vj (List.getD b (Int.toNat a) 0) (List.getD b (Int.toNat (a-(1:Int))) 0)))
      (.leaf (.inr (.inr (.r0 false))))
      (.leaf (.inl ())))
    (.leaf (.inr (.inl ())))
def CL(a:Int) :T ((Int)⊕((Unit)⊕(cy))) :=
  .need (dI .i64 (a-(1:Int)))<|.leaf (.inl (a-(1:Int)))
def j7(b:List Nat) :Int→Option ((Int)⊕((Unit)⊕(cy))):=fun a =>
  aC ((j6 b a).run) fun _ =>
  (CL a).run
theorem CM(b:Lv)(a:List Nat)(c:Int) :Sg prog [] CJ (pb b a c) (j7 a c) (pb b a) (dH 0 vk lK):=by
  unfold j7;exact Sg.cut 3 (bz kK) (bo nJ (EN b a c) [⟨[],[],[2]⟩,⟨[],[],[0,3]⟩,⟨[],[],[]⟩]) (fun _=>bo nJ _ [⟨[],[],[0,3]⟩])
def CN:T ((Empty)⊕(cy)) :=
  .leaf (.inr (.r0 true))
def jF(a:List Nat) :Option cy:=lw (aC ((EM a).run) fun b =>
  aC (df (j7 a) b) fun _ =>
  (CN).run)
theorem EO(b:Lv)(a:List Nat){x:cy}(h:jF a=some x) :aj prog pU [] [.imm b (.fl a) 1 1 0 (List.length a)] (qs x) :=
  lM false qs lK h (Sg.cut 2 kK (bo nJ (EL b a) [⟨[],[],[0,3]⟩]) (fun e=>Sg.cut 1 kK (Ej ⟨[],[],[0,3]⟩ (pb b a) (vk) 0 kK (EJ _) (fun c=>CM b a c)) (fun _=>bo nJ _ [⟨[],[],[2]⟩])))
    (fun x=>by cases x with | r0 d=>exact lz [.bool false d])
def kL:Option cy→Bool
  | some _=>true
  | none=>false
def mh:Option cy→Bool
  | some (.r0 x)=>x
  | _=>false
theorem EP{x:Option cy}(h:kL x=true) :x=some (.r0 (mh x)):=by
  unfold kL at h
  split at h<;>first | rfl | (cases h;done) | (rename_i y;cases y;rfl)
def wo:aE:=bT pU (.cons .fl .nil) fun t=>(fun q=>[⟨qs (.r0 (mh q)),[kL q]⟩]) (jF t.1.2)
theorem Bx:aM prog wo:=aJ fun t=>(aK (fun h=>EO t.1.1 t.1.2 (EP h)) bb)
def wq:List aE:=wo::M0
theorem fC:bc prog (bh wq):=ap Bx nJ
inductive cM where
  | r0 (a:Nat) (b:Bool) (c:List Int) (d:Nat) (e:Nat) (f:Int)
def GR:cM→AE×aF
  | .r0 a b c d e f=>(.ret,⟨ah 45 [(4,.ptr 0 1 0 0),(5,.int .i64 ((a:Nat):Int))],[(0,.vs [.bool false b,.imm .free (.ns .u64 c) 1 1 d e,.int .i64 f])],1⟩)
theorem sf:j8 GR:=by intro x;cases x<;>(intro h;cases h)
def zD:cM→iK
  | .r0 a b c d e f=>⟨.tup [.agg [.bool false b,.imm .free (.ns .u64 c) 1 1 d e,.int .i64 f],.int .i64 ((a:Nat):Int)],[]⟩
def PA(a:Int)(b:Int) :Bool×Bool→aF:=fun (c,d)=>⟨ah 45 [(0,.int .i64 a),(1,.int .i64 b),(4,.ptr 0 1 0 0),(22,.bool false c)],[(0,.vs [.bool false d,.nsl,.int .i64 (0:Int)])],1⟩
def Du(a:Int)(b:Int) :T ((Bool×Bool)⊕(cM)) :=
  .ask (decide (a<(0:Int)))
    (.leaf (.inl (true,false)))
    (.ask (decide (a>(512:Int)))
      (.leaf (.inl (true,false)))
      (.ask (decide (b<(0:Int)))
        (.leaf (.inl (true,false)))
        (.leaf (.inl ((decide (b>(512:Int))),false)))))
def PB(a:Bool) :Bool×(List Int)×Nat×Nat×Int→aF:=fun (b,c,d,e,f)=>⟨ah 45 [(4,.ptr 0 1 0 0),(6,.ptr 1 1 0 0)],[(0,.vs [.bool false a,.nsl,.int .i64 (0:Int)]),(1,.vs [.bool false b,.imm .free (.ns .u64 c) 1 1 d e,.int .i64 f])],2⟩
def xk(a:Int)(b:Int)(c:Bool) :T ((Bool×(List Int)×Nat×Nat×Int)⊕(cM)) :=
  .ask c
    (.leaf (.inr (.r0 2 false ([]:List Int) 0 0 (0:Int))))
    (.need (dI .i64 ((64:Int)*(kP a (1:Int))))<|.need (dI .i64 (((64:Int)*(kP a (1:Int)))*(kP b (1:Int))))<|.need (jW (aZ (((64:Int)*(kP a (1:Int)))*(kP b (1:Int)))))<|.leaf (.inl ((gu (aZ (((64:Int)*(kP a (1:Int)))*(kP b (1:Int))))),(e7 (aZ (((64:Int)*(kP a (1:Int)))*(kP b (1:Int))))),(e8 (aZ (((64:Int)*(kP a (1:Int)))*(kP b (1:Int))))),(e9 (aZ (((64:Int)*(kP a (1:Int)))*(kP b (1:Int))))),(gv (aZ (((64:Int)*(kP a (1:Int)))*(kP b (1:Int))))))))
def PC(a:Bool) :Nat×Bool×(List Int)×Nat×Nat×Int→aF:=fun (b,c,d,e,f,g)=>⟨ah 45 [(4,.ptr 0 1 0 0),(7,.ptr 1 1 0 0),(8,.int .i64 ((b:Nat):Int))],[(0,.vs [.bool false a,.nsl,.int .i64 (0:Int)]),(1,.vs [.bool false c,.imm .free (.ns .u64 d) 1 1 e f,.int .i64 g])],2⟩
def xn(d:Bool)(a:List Int)(b:Nat)(c:Nat)(e:Int) :T ((Nat×Bool×(List Int)×Nat×Nat×Int)⊕(cM)) :=
  .need (aP b c a)<|.need (aP b c a)<|.need (kt (ak d (aa b c a) e d (aa b c a) e))<|.leaf (.inl ((iN (ak d (aa b c a) e d (aa b c a) e)),(bO (ak d (aa b c a) e d (aa b c a) e)),(bG (ak d (aa b c a) e d (aa b c a) e)),(bH (ak d (aa b c a) e d (aa b c a) e)),(bJ (ak d (aa b c a) e d (aa b c a) e)),(bP (ak d (aa b c a) e d (aa b c a) e))))
def PD:Nat×Bool×(List Int)×Nat×Nat×Int→aF:=fun (a,b,c,d,e,f)=>⟨ah 45 [(4,.ptr 0 1 0 0),(5,.int .i64 ((a:Nat):Int))],[(0,.vs [.bool false b,.imm .free (.ns .u64 c) 1 1 d e,.int .i64 f])],1⟩
def xo(f:Nat)(d:Bool)(a:List Int)(b:Nat)(c:Nat)(e:Int) :T ((Nat×Bool×(List Int)×Nat×Nat×Int)⊕(cM)) :=
  .ask (((f:Nat):Int) != (0:Int))
    (.leaf (.inr (.r0 f false ([]:List Int) 0 0 (0:Int))))
    (.need (aP b c a)<|.need (r7 (g9 d (aa b c a) e (-106:Int)))<|.leaf (.inl ((s4 (g9 d (aa b c a) e (-106:Int))),(s5 (g9 d (aa b c a) e (-106:Int))),(s6 (g9 d (aa b c a) e (-106:Int))),(s7 (g9 d (aa b c a) e (-106:Int))),(s8 (g9 d (aa b c a) e (-106:Int))),(s9 (g9 d (aa b c a) e (-106:Int))))))
def M1(a:Nat)(b:Bool)(c:List Int)(d:Nat)(e:Nat)(f:Int) :T ((Empty)⊕(cM)) :=
  .leaf (.inr (.r0 a b c d e f))
def cE(a:Int)(b:Int) :Option cM:=lw (aC ((Du a b).run) fun (c,u) =>
  aC ((xk a b c).run) fun (d,e,f,g,h) =>
  aC ((xn d e f g h).run) fun (i,j,k,l,m,n) =>
  aC ((xo i j k l m n).run) fun (o,p,q,r,s,t) =>
  (M1 o p q r s t).run)
theorem PE(a:Int)(b:Int){x:cM}(h:cE a b=some x) :aj prog yB [] [.int .i64 a,.int .i64 b] (zD x) :=
  lM true zD GR h (Sg.cut 2 sf (bo fC (PA a b) [⟨[],[0],[0,1,4,22]⟩,⟨[],[0],[0,1,4,22]⟩,⟨[],[0],[0,1,4,22]⟩,⟨[],[0],[0,1,4,22]⟩]) (fun ⟨k,c⟩=>Sg.cut 2 sf (bo fC (PB c) [⟨[(.cell 0 1,.fre 1 1 (.ns .u64 ([]:List Int)))],[0],[4,5]⟩,⟨[],[0,113],[4,6]⟩]) (fun ⟨l,m,n,o,p⟩=>Sg.cut 1 sf (bo fC (PC c) [⟨[],[0,98],[4,7,8]⟩]) (fun ⟨q,r,s,t,u,v⟩=>Sg.cut 3 sf (bo fC PD [⟨[(.cell 0 1,.fre 1 1 (.ns .u64 ([]:List Int)))],[0],[4,5]⟩,⟨[],[0],[4,5]⟩]) (fun ⟨w,y,z,A,B,C⟩=>bo fC _ [⟨[],[0],[4,5]⟩])))))
    (fun x=>by cases x with | r0 d e f g i j=>exact lz [.agg [.bool false e,.imm .free (.ns .u64 f) 1 1 g i,.int .i64 j],.int .i64 ((d:Nat):Int)])
def nK:Option cM→Bool
  | some _=>true
  | none=>false
def oK:Option cM→Nat
  | some (.r0 x _ _ _ _ _)=>x
  | _=>0
def oL:Option cM→Bool
  | some (.r0 _ x _ _ _ _)=>x
  | _=>false
def oM:Option cM→List Int
  | some (.r0 _ _ x _ _ _)=>x
  | _=>[]
def oN:Option cM→Nat
  | some (.r0 _ _ _ x _ _)=>x
  | _=>0
def oO:Option cM→Nat
  | some (.r0 _ _ _ _ x _)=>x
  | _=>0
def oP:Option cM→Int
  | some (.r0 _ _ _ _ _ x)=>x
  | _=>0
theorem PF{x:Option cM}(h:nK x=true) :x=some (.r0 (oK x) (oL x) (oM x) (oN x) (oO x) (oP x)):=by
  unfold nK at h
  split at h<;>first | rfl | (cases h;done) | (rename_i y;cases y;rfl)
def GS:aE:=bT yB (.cons (.int .i64) (.cons (.int .i64) .nil)) fun t=>(fun q=>[⟨zD (.r0 (oK q) (oL q) (oM q) (oN q) (oO q) (oP q)),[nK q]⟩]) (cE t.1 t.2.1)
theorem Kb:aM prog GS:=aJ fun t=>(aK (fun h=>PE t.1 t.2.1 (PF h)) bb)
def GT:List aE:=GS::wq
theorem lg:bc prog (bh GT):=ap Kb fC
inductive dm where
  | r0 (a:Nat) (b:List Bool) (c:List (List Int)) (d:List Int)
def ul:dm→AE×aF
  | .r0 a b c d=>(.ret,⟨ah 26 [(2,.sl 0 3 3 0 a a)],[(0,.cols a [.cb b,.cns .u64 c,.ci .i64 d])],1⟩)
theorem sh:j8 ul:=by intro x;cases x<;>(intro h;cases h)
theorem PG(id:Nat) :mz id ul:=by intro x;cases x<;>(intro h;cases h)
def zE:dm→iK
  | .r0 a b c d=>⟨.imm .free (.cols a [.cb b,.cns .u64 c,.ci .i64 d]) 3 3 0 a,[]⟩
def PH:List Code:=cY (mU tQ)
def PI(b:Lv)(a:List Nat) :(List Bool)×(List (List Int))×(List Int)→aF:=fun (c,d,e)=>⟨ah 26 [(3,.sl 0 3 3 0 (List.length a) (List.length a)),(9,.imm b (.fl a) 1 1 0 (List.length a)),(10,.int .i64 (((List.length a):Nat):Int)),(11,.int .i64 (0:Int))],[(0,.cols (List.length a) [.cb c,.cns .u64 d,.ci .i64 e])],1⟩
def Dv(a:List Nat) :T (((List Bool)×(List (List Int))×(List Int))⊕(dm)) :=
  .need (decide ((0:Int)≤(((List.length a):Nat):Int)))<|.need (decide ((((List.length a):Nat):Int)≤(((List.length a):Nat):Int)))<|.need (decide ((40:Int)*(((List.length a):Nat):Int)≤140737488355328))<|.need (dI .i64 (((List.length a):Nat):Int))<|.leaf (.inl ((List.replicate (List.length a) false),(List.replicate (List.length a) []),(List.replicate (List.length a) (0:Int))))
def xp(b:Lv)(a:List Nat) :Nat×(List Bool)×(List (List Int))×(List Int)→aF:=fun (c,d,e,f)=>⟨ah 26 [(3,.sl 0 3 3 0 (List.length a) (List.length a)),(9,.imm b (.fl a) 1 1 0 (List.length a)),(10,.int .i64 (((List.length a):Nat):Int)),(11,.int .i64 ((c:Nat):Int))],[(0,.cols (List.length a) [.cb d,.cns .u64 e,.ci .i64 f])],1⟩
def Dw(a:List Nat) :(List Bool)×(List (List Int))×(List Int)→aF:=fun (b,c,d)=>⟨ah 26 [(3,.sl 0 3 3 0 (List.length a) (List.length a))],[(0,.cols (List.length a) [.cb b,.cns .u64 c,.ci .i64 d])],1⟩
def M2:List Code:=cY (d7 ((((PH.drop 3).take 1)).headD .skip))
def PJ(b:Lv)(a:List Nat)(c:Nat) :(List Bool)×(List (List Int))×(List Int)→aF:=fun (d,e,f)=>⟨ah 26 [(3,.sl 0 3 3 0 (List.length a) (List.length a)),(9,.imm b (.fl a) 1 1 0 (List.length a)),(10,.int .i64 (((List.length a):Nat):Int)),(11,.int .i64 ((c:Nat):Int))],[(0,.cols (List.length a) [.cb d,.cns .u64 e,.ci .i64 f])],1⟩
def qt(b:List Nat)(a:Nat)(c:List Bool)(d:List (List Int))(e:List Int) :T (((List Bool)×(List (List Int))×(List Int))⊕(((List Bool)×(List (List Int))×(List Int))⊕(dm))) :=
  .ask (decide (((a:Nat):Int)<(((List.length b):Nat):Int)))
    (.need (gA ((a:Nat):Int) (List.length b))<|.need (gM a (List.length b))<|.need (u7 (jm (List.getD b a 0)))<|.need (gA ((a:Nat):Int) (List.length b))<|.need (gM a (List.length c))<|.need (gM a (List.length d))<|.need (decide ((qg (jm (List.getD b a 0)))+(qh (jm (List.getD b a 0)))≤List.length (qf (jm (List.getD b a 0)))))<|.need (gM a (List.length e))<|.leaf (.inl ((List.set c a (uf (jm (List.getD b a 0)))),(List.set d a (List.take (qh (jm (List.getD b a 0))) (List.drop (qg (jm (List.getD b a 0))) (qf (jm (List.getD b a 0)))))),(List.set e a (ug (jm (List.getD b a 0)))))))
    (.leaf (.inr (.inl (c,d,e))))
def M3(a:Nat)(b:List Bool)(c:List (List Int))(d:List Int) :T ((Nat×(List Bool)×(List (List Int))×(List Int))⊕(((List Bool)×(List (List Int))×(List Int))⊕(dm))) :=
  .need (dI .i64 (((a+1):Nat):Int))<|.leaf (.inl ((a+1),b,c,d))
def vl(b:List Nat) :Nat×(List Bool)×(List (List Int))×(List Int)→Option ((Nat×(List Bool)×(List (List Int))×(List Int))⊕(((List Bool)×(List (List Int))×(List Int))⊕(dm))):=fun (a,c,d,e) =>
  aC ((qt b a c d e).run) fun (f,g,h) =>
  (M3 a f g h).run
theorem M4(b:Lv)(a:List Nat)(c:Nat)(d:List Bool)(e:List (List Int))(f:List Int) :Sg prog [] M2 (xp b a (c,d,e,f)) (vl a (c,d,e,f)) (xp b a) (dH 0 (Dw a) ul):=by
  unfold vl;exact Sg.cut 3 (bz sh) (bo lg (PJ b a c) [⟨[],[0],[3,9,10,11]⟩,⟨[],[0],[3]⟩]) (fun ⟨g,h,i⟩=>bo lg _ [⟨[],[0],[3,9,10,11]⟩])
def M5(a:List Nat)(b:List Bool)(c:List (List Int))(d:List Int) :T ((Empty)⊕(dm)) :=
  .leaf (.inr (.r0 (List.length a) b c d))
def am(a:List Nat) :Option dm:=lw (aC ((Dv a).run) fun (b,c,d) =>
  aC (df (vl a) (0,b,c,d)) fun (e,f,g) =>
  (M5 a e f g).run)
theorem PK(b:Lv)(a:List Nat){x:dm}(h:am a=some x) :aj prog tQ [] [.imm b (.fl a) 1 1 0 (List.length a)] (zE x) :=
  lM true zE ul h (Sg.cut 3 sh (bo lg (PI b a) [⟨[],[48],[3,9,10,11]⟩]) (fun ⟨i,j,k⟩=>Sg.cut 1 sh (Ej ⟨[],[0],[3,9,10,11]⟩ (xp b a) (Dw a) 0 sh (PG _) (fun ⟨d,e,f,g⟩=>M4 b a d e f g)) (fun ⟨l,m,n⟩=>bo lg _ [⟨[],[0],[2]⟩])))
    (fun x=>by cases x with | r0 c o p q=>exact lz [.sl 0 3 3 0 c c])
def fL:Option dm→Bool
  | some _=>true
  | none=>false
def aD:Option dm→Nat
  | some (.r0 x _ _ _)=>x
  | _=>0
def cj:Option dm→List Bool
  | some (.r0 _ x _ _)=>x
  | _=>[]
def ck:Option dm→List (List Int)
  | some (.r0 _ _ x _)=>x
  | _=>[]
def cm:Option dm→List Int
  | some (.r0 _ _ _ x)=>x
  | _=>[]
theorem PL{x:Option dm}(h:fL x=true) :x=some (.r0 (aD x) (cj x) (ck x) (cm x)):=by
  unfold fL at h
  split at h<;>first | rfl | (cases h;done) | (rename_i y;cases y;rfl)
def GU:aE:=bT tQ (.cons .fl .nil) fun t=>(fun q=>[⟨zE (.r0 (aD q) (cj q) (ck q) (cm q)),[fL q]⟩]) (am t.1.2)
theorem Kc:aM prog GU:=aJ fun t=>(aK (fun h=>PK t.1.1 t.1.2 (PL h)) bb)
def GV:List aE:=GU::GT
theorem jo:bc prog (bh GV):=ap Kc lg
inductive dC where
  | r0 (a:Nat) (b:Bool) (c:List Int) (d:Nat) (e:Nat) (f:Int)
def zF:dC→AE×aF
  | .r0 a b c d e f=>(.ret,⟨ah 51 [(4,.ptr 0 1 0 0),(5,.int .i64 ((a:Nat):Int))],[(0,.vs [.bool false b,.imm .free (.ns .u64 c) 1 1 d e,.int .i64 f])],1⟩)
theorem pF:j8 zF:=by intro x;cases x<;>(intro h;cases h)
theorem WO(id:Nat) :mz id zF:=by intro x;cases x<;>(intro h;cases h)
def EQ:dC→iK
  | .r0 a b c d e f=>⟨.tup [.agg [.bool false b,.imm .free (.ns .u64 c) 1 1 d e,.int .i64 f],.int .i64 ((a:Nat):Int)],[]⟩
def zG:List Code:=cY (mU yx)
def WP(c:Lv)(a:Nat)(d:List Bool)(e:List (List Int))(f:List Int)(g:Lv)(b:Nat)(h:List Bool)(i:List (List Int))(j:List Int)(k:Bool) :aF:=⟨ah 51 [(0,.imm c (.cols a [.cb d,.cns .u64 e,.ci .i64 f]) 3 3 0 a),(1,.imm g (.cols b [.cb h,.cns .u64 i,.ci .i64 j]) 3 3 0 b),(4,.ptr 0 1 0 0)],[(0,.vs [.bool false k,.nsl,.int .i64 (0:Int)])],1⟩
def Tn:T ((Bool)⊕(dC)) :=
  .leaf (.inl false)
def To:List Code:=cY (Cn (((zG.drop 1)).headD .skip))
def WQ(c:Lv)(a:Nat)(d:List Bool)(e:List (List Int))(f:List Int)(g:Lv)(b:Nat)(h:List Bool)(i:List (List Int))(j:List Int)(k:Bool)(l:Bool) :aF:=⟨ah 51 [(0,.imm c (.cols a [.cb d,.cns .u64 e,.ci .i64 f]) 3 3 0 a),(1,.imm g (.cols b [.cb h,.cns .u64 i,.ci .i64 j]) 3 3 0 b),(4,.ptr 0 1 0 0),(6,.ptr 1 1 0 0),(7,.int .i64 (0:Int)),(18,.int .i64 ((a:Nat):Int)),(19,.int .i64 (0:Int))],[(0,.vs [.bool false k,.nsl,.int .i64 (0:Int)]),(1,.vs [.bool false l,.nsl,.int .i64 (0:Int)])],2⟩
def Tp(a:Nat)(b:Nat) :T ((Bool)⊕(dC)) :=
  .ask (((a:Nat):Int) != ((b:Nat):Int))
    (.leaf (.inr (.r0 2 false ([]:List Int) 0 0 (0:Int))))
    (.leaf (.inl false))
def By(c:Lv)(a:Nat)(d:List Bool)(e:List (List Int))(f:List Int)(g:Lv)(b:Nat)(h:List Bool)(i:List (List Int))(j:List Int)(k:Bool) :Nat×Nat×Bool×(List Int)×Nat×Nat×Int→aF:=fun (l,m,n,o,p,q,r)=>⟨ah 51 [(0,.imm c (.cols a [.cb d,.cns .u64 e,.ci .i64 f]) 3 3 0 a),(1,.imm g (.cols b [.cb h,.cns .u64 i,.ci .i64 j]) 3 3 0 b),(4,.ptr 0 1 0 0),(6,.ptr 1 1 0 0),(7,.int .i64 ((l:Nat):Int)),(18,.int .i64 ((a:Nat):Int)),(19,.int .i64 ((m:Nat):Int))],[(0,.vs [.bool false k,.nsl,.int .i64 (0:Int)]),(1,.vs [.bool false n,.imm .free (.ns .u64 o) 1 1 p q,.int .i64 r])],2⟩
def GW(a:Bool) :Nat×Bool×(List Int)×Nat×Nat×Int→aF:=fun (b,c,d,e,f,g)=>⟨ah 51 [(4,.ptr 0 1 0 0),(6,.ptr 1 1 0 0),(7,.int .i64 ((b:Nat):Int))],[(0,.vs [.bool false a,.nsl,.int .i64 (0:Int)]),(1,.vs [.bool false c,.imm .free (.ns .u64 d) 1 1 e f,.int .i64 g])],2⟩
def Tq:List Code:=cY (d7 ((((To.drop 5).take 1)).headD .skip))
def Tr(c:Lv)(a:Nat)(d:List Bool)(e:List (List Int))(f:List Int)(g:Lv)(b:Nat)(h:List Bool)(i:List (List Int))(j:List Int)(k:Bool)(l:Nat) :Nat×Bool×(List Int)×Nat×Nat×Int→aF:=fun (m,n,o,p,q,r)=>⟨ah 51 [(0,.imm c (.cols a [.cb d,.cns .u64 e,.ci .i64 f]) 3 3 0 a),(1,.imm g (.cols b [.cb h,.cns .u64 i,.ci .i64 j]) 3 3 0 b),(4,.ptr 0 1 0 0),(6,.ptr 1 1 0 0),(7,.int .i64 ((m:Nat):Int)),(18,.int .i64 ((a:Nat):Int)),(19,.int .i64 ((l:Nat):Int))],[(0,.vs [.bool false k,.nsl,.int .i64 (0:Int)]),(1,.vs [.bool false n,.imm .free (.ns .u64 o) 1 1 p q,.int .i64 r])],2⟩
def zH(m:Nat)(d:List Bool)(b:List (List Int))(e:List Int)(n:Nat)(f:List Bool)(c:List (List Int))(g:List Int)(o:Nat)(a:Nat)(k:Bool)(h:List Int)(i:Nat)(j:Nat)(l:Int) :T ((Nat×Bool×(List Int)×Nat×Nat×Int)⊕((Nat×Bool×(List Int)×Nat×Nat×Int)⊕(dC))) :=
  .ask (decide (((a:Nat):Int)<((m:Nat):Int)))
    (.need (gA ((a:Nat):Int) m)<|.need (gM a (List.length d))<|.need (gM a (List.length b))<|.need (gM a (List.length e))<|.need (gA ((a:Nat):Int) n)<|.need (gM a (List.length f))<|.need (gM a (List.length c))<|.need (gM a (List.length g))<|.need (aP 0 (List.length (List.getD b a [])) (List.getD b a []))<|.need (aP 0 (List.length (List.getD c a [])) (List.getD c a []))<|.need (kt (ak (List.getD d a false) (aa 0 (List.length (List.getD b a [])) (List.getD b a [])) (List.getD e a 0) (List.getD f a false) (aa 0 (List.length (List.getD c a [])) (List.getD c a [])) (List.getD g a 0)))<|.ask ((((iN (ak (List.getD d a false) (aa 0 (List.length (List.getD b a [])) (List.getD b a [])) (List.getD e a 0) (List.getD f a false) (aa 0 (List.length (List.getD c a [])) (List.getD c a [])) (List.getD g a 0))):Nat):Int) != (0:Int))
      (.leaf (.inr (.inl ((iN (ak (List.getD d a false) (aa 0 (List.length (List.getD b a [])) (List.getD b a [])) (List.getD e a 0) (List.getD f a false) (aa 0 (List.length (List.getD c a [])) (List.getD c a [])) (List.getD g a 0))),k,h,i,j,l))))
      (.need (aP i j h)<|.need (aP (bH (ak (List.getD d a false) (aa 0 (List.length (List.getD b a [])) (List.getD b a [])) (List.getD e a 0) (List.getD f a false) (aa 0 (List.length (List.getD c a [])) (List.getD c a [])) (List.getD g a 0))) (bJ (ak (List.getD d a false) (aa 0 (List.length (List.getD b a [])) (List.getD b a [])) (List.getD e a 0) (List.getD f a false) (aa 0 (List.length (List.getD c a [])) (List.getD c a [])) (List.getD g a 0))) (bG (ak (List.getD d a false) (aa 0 (List.length (List.getD b a [])) (List.getD b a [])) (List.getD e a 0) (List.getD f a false) (aa 0 (List.length (List.getD c a [])) (List.getD c a [])) (List.getD g a 0))))<|.need (sN (ch k (aa i j h) l (bO (ak (List.getD d a false) (aa 0 (List.length (List.getD b a [])) (List.getD b a [])) (List.getD e a 0) (List.getD f a false) (aa 0 (List.length (List.getD c a [])) (List.getD c a [])) (List.getD g a 0))) (aa (bH (ak (List.getD d a false) (aa 0 (List.length (List.getD b a [])) (List.getD b a [])) (List.getD e a 0) (List.getD f a false) (aa 0 (List.length (List.getD c a [])) (List.getD c a [])) (List.getD g a 0))) (bJ (ak (List.getD d a false) (aa 0 (List.length (List.getD b a [])) (List.getD b a [])) (List.getD e a 0) (List.getD f a false) (aa 0 (List.length (List.getD c a [])) (List.getD c a [])) (List.getD g a 0))) (bG (ak (List.getD d a false) (aa 0 (List.length (List.getD b a [])) (List.getD b a [])) (List.getD e a 0) (List.getD f a false) (aa 0 (List.length (List.getD c a [])) (List.getD c a [])) (List.getD g a 0)))) (bP (ak (List.getD d a false) (aa 0 (List.length (List.getD b a [])) (List.getD b a [])) (List.getD e a 0) (List.getD f a false) (aa 0 (List.length (List.getD c a [])) (List.getD c a [])) (List.getD g a 0)))))<|.ask ((((lC (ch k (aa i j h) l (bO (ak (List.getD d a false) (aa 0 (List.length (List.getD b a [])) (List.getD b a [])) (List.getD e a 0) (List.getD f a false) (aa 0 (List.length (List.getD c a [])) (List.getD c a [])) (List.getD g a 0))) (aa (bH (ak (List.getD d a false) (aa 0 (List.length (List.getD b a [])) (List.getD b a [])) (List.getD e a 0) (List.getD f a false) (aa 0 (List.length (List.getD c a [])) (List.getD c a [])) (List.getD g a 0))) (bJ (ak (List.getD d a false) (aa 0 (List.length (List.getD b a [])) (List.getD b a [])) (List.getD e a 0) (List.getD f a false) (aa 0 (List.length (List.getD c a [])) (List.getD c a [])) (List.getD g a 0))) (bG (ak (List.getD d a false) (aa 0 (List.length (List.getD b a [])) (List.getD b a [])) (List.getD e a 0) (List.getD f a false) (aa 0 (List.length (List.getD c a [])) (List.getD c a [])) (List.getD g a 0)))) (bP (ak (List.getD d a false) (aa 0 (List.length (List.getD b a [])) (List.getD b a [])) (List.getD e a 0) (List.getD f a false) (aa 0 (List.length (List.getD c a [])) (List.getD c a [])) (List.getD g a 0))))):Nat):Int) != (0:Int))
        (.leaf (.inr (.inl ((lC (ch k (aa i j h) l (bO (ak (List.getD d a false) (aa 0 (List.length (List.getD b a [])) (List.getD b a [])) (List.getD e a 0) (List.getD f a false) (aa 0 (List.length (List.getD c a [])) (List.getD c a [])) (List.getD g a 0))) (aa (bH (ak (List.getD d a false) (aa 0 (List.length (List.getD b a [])) (List.getD b a [])) (List.getD e a 0) (List.getD f a false) (aa 0 (List.length (List.getD c a [])) (List.getD c a [])) (List.getD g a 0))) (bJ (ak (List.getD d a false) (aa 0 (List.length (List.getD b a [])) (List.getD b a [])) (List.getD e a 0) (List.getD f a false) (aa 0 (List.length (List.getD c a [])) (List.getD c a [])) (List.getD g a 0))) (bG (ak (List.getD d a false) (aa 0 (List.length (List.getD b a [])) (List.getD b a [])) (List.getD e a 0) (List.getD f a false) (aa 0 (List.length (List.getD c a [])) (List.getD c a [])) (List.getD g a 0)))) (bP (ak (List.getD d a false) (aa 0 (List.length (List.getD b a [])) (List.getD b a [])) (List.getD e a 0) (List.getD f a false) (aa 0 (List.length (List.getD c a [])) (List.getD c a [])) (List.getD g a 0))))),(nu (ch k (aa i j h) l (bO (ak (List.getD d a false) (aa 0 (List.length (List.getD b a [])) (List.getD b a [])) (List.getD e a 0) (List.getD f a false) (aa 0 (List.length (List.getD c a [])) (List.getD c a [])) (List.getD g a 0))) (aa (bH (ak (List.getD d a false) (aa 0 (List.length (List.getD b a [])) (List.getD b a [])) (List.getD e a 0) (List.getD f a false) (aa 0 (List.length (List.getD c a [])) (List.getD c a [])) (List.getD g a 0))) (bJ (ak (List.getD d a false) (aa 0 (List.length (List.getD b a [])) (List.getD b a [])) (List.getD e a 0) (List.getD f a false) (aa 0 (List.length (List.getD c a [])) (List.getD c a [])) (List.getD g a 0))) (bG (ak (List.getD d a false) (aa 0 (List.length (List.getD b a [])) (List.getD b a [])) (List.getD e a 0) (List.getD f a false) (aa 0 (List.length (List.getD c a [])) (List.getD c a [])) (List.getD g a 0)))) (bP (ak (List.getD d a false) (aa 0 (List.length (List.getD b a [])) (List.getD b a [])) (List.getD e a 0) (List.getD f a false) (aa 0 (List.length (List.getD c a [])) (List.getD c a [])) (List.getD g a 0))))),(nv (ch k (aa i j h) l (bO (ak (List.getD d a false) (aa 0 (List.length (List.getD b a [])) (List.getD b a [])) (List.getD e a 0) (List.getD f a false) (aa 0 (List.length (List.getD c a [])) (List.getD c a [])) (List.getD g a 0))) (aa (bH (ak (List.getD d a false) (aa 0 (List.length (List.getD b a [])) (List.getD b a [])) (List.getD e a 0) (List.getD f a false) (aa 0 (List.length (List.getD c a [])) (List.getD c a [])) (List.getD g a 0))) (bJ (ak (List.getD d a false) (aa 0 (List.length (List.getD b a [])) (List.getD b a [])) (List.getD e a 0) (List.getD f a false) (aa 0 (List.length (List.getD c a [])) (List.getD c a [])) (List.getD g a 0))) (bG (ak (List.getD d a false) (aa 0 (List.length (List.getD b a [])) (List.getD b a [])) (List.getD e a 0) (List.getD f a false) (aa 0 (List.length (List.getD c a [])) (List.getD c a [])) (List.getD g a 0)))) (bP (ak (List.getD d a false) (aa 0 (List.length (List.getD b a [])) (List.getD b a [])) (List.getD e a 0) (List.getD f a false) (aa 0 (List.length (List.getD c a [])) (List.getD c a [])) (List.getD g a 0))))),(nw (ch k (aa i j h) l (bO (ak (List.getD d a false) (aa 0 (List.length (List.getD b a [])) (List.getD b a [])) (List.getD e a 0) (List.getD f a false) (aa 0 (List.length (List.getD c a [])) (List.getD c a [])) (List.getD g a 0))) (aa (bH (ak (List.getD d a false) (aa 0 (List.length (List.getD b a [])) (List.getD b a [])) (List.getD e a 0) (List.getD f a false) (aa 0 (List.length (List.getD c a [])) (List.getD c a [])) (List.getD g a 0))) (bJ (ak (List.getD d a false) (aa 0 (List.length (List.getD b a [])) (List.getD b a [])) (List.getD e a 0) (List.getD f a false) (aa 0 (List.length (List.getD c a [])) (List.getD c a [])) (List.getD g a 0))) (bG (ak (List.getD d a false) (aa 0 (List.length (List.getD b a [])) (List.getD b a [])) (List.getD e a 0) (List.getD f a false) (aa 0 (List.length (List.getD c a [])) (List.getD c a [])) (List.getD g a 0)))) (bP (ak (List.getD d a false) (aa 0 (List.length (List.getD b a [])) (List.getD b a [])) (List.getD e a 0) (List.getD f a false) (aa 0 (List.length (List.getD c a [])) (List.getD c a [])) (List.getD g a 0))))),(nA (ch k (aa i j h) l (bO (ak (List.getD d a false) (aa 0 (List.length (List.getD b a [])) (List.getD b a [])) (List.getD e a 0) (List.getD f a false) (aa 0 (List.length (List.getD c a [])) (List.getD c a [])) (List.getD g a 0))) (aa (bH (ak (List.getD d a false) (aa 0 (List.length (List.getD b a [])) (List.getD b a [])) (List.getD e a 0) (List.getD f a false) (aa 0 (List.length (List.getD c a [])) (List.getD c a [])) (List.getD g a 0))) (bJ (ak (List.getD d a false) (aa 0 (List.length (List.getD b a [])) (List.getD b a [])) (List.getD e a 0) (List.getD f a false) (aa 0 (List.length (List.getD c a [])) (List.getD c a [])) (List.getD g a 0))) (bG (ak (List.getD d a false) (aa 0 (List.length (List.getD b a [])) (List.getD b a [])) (List.getD e a 0) (List.getD f a false) (aa 0 (List.length (List.getD c a [])) (List.getD c a [])) (List.getD g a 0)))) (bP (ak (List.getD d a false) (aa 0 (List.length (List.getD b a [])) (List.getD b a [])) (List.getD e a 0) (List.getD f a false) (aa 0 (List.length (List.getD c a [])) (List.getD c a [])) (List.getD g a 0))))),(nB (ch k (aa i j h) l (bO (ak (List.getD d a false) (aa 0 (List.length (List.getD b a [])) (List.getD b a [])) (List.getD e a 0) (List.getD f a false) (aa 0 (List.length (List.getD c a [])) (List.getD c a [])) (List.getD g a 0))) (aa (bH (ak (List.getD d a false) (aa 0 (List.length (List.getD b a [])) (List.getD b a [])) (List.getD e a 0) (List.getD f a false) (aa 0 (List.length (List.getD c a [])) (List.getD c a [])) (List.getD g a 0))) (bJ (ak (List.getD d a false) (aa 0 (List.length (List.getD b a [])) (List.getD b a [])) (List.getD e a 0) (List.getD f a false) (aa 0 (List.length (List.getD c a [])) (List.getD c a [])) (List.getD g a 0))) (bG (ak (List.getD d a false) (aa 0 (List.length (List.getD b a [])) (List.getD b a [])) (List.getD e a 0) (List.getD f a false) (aa 0 (List.length (List.getD c a [])) (List.getD c a [])) (List.getD g a 0)))) (bP (ak (List.getD d a false) (aa 0 (List.length (List.getD b a [])) (List.getD b a [])) (List.getD e a 0) (List.getD f a false) (aa 0 (List.length (List.getD c a [])) (List.getD c a [])) (List.getD g a 0)))))))))
        (.leaf (.inl ((lC (ch k (aa i j h) l (bO (ak (List.getD d a false) (aa 0 (List.length (List.getD b a [])) (List.getD b a [])) (List.getD e a 0) (List.getD f a false) (aa 0 (List.length (List.getD c a [])) (List.getD c a [])) (List.getD g a 0))) (aa (bH (ak (List.getD d a false) (aa 0 (List.length (List.getD b a [])) (List.getD b a [])) (List.getD e a 0) (List.getD f a false) (aa 0 (List.length (List.getD c a [])) (List.getD c a [])) (List.getD g a 0))) (bJ (ak (List.getD d a false) (aa 0 (List.length (List.getD b a [])) (List.getD b a [])) (List.getD e a 0) (List.getD f a false) (aa 0 (List.length (List.getD c a [])) (List.getD c a [])) (List.getD g a 0))) (bG (ak (List.getD d a false) (aa 0 (List.length (List.getD b a [])) (List.getD b a [])) (List.getD e a 0) (List.getD f a false) (aa 0 (List.length (List.getD c a [])) (List.getD c a [])) (List.getD g a 0)))) (bP (ak (List.getD d a false) (aa 0 (List.length (List.getD b a [])) (List.getD b a [])) (List.getD e a 0) (List.getD f a false) (aa 0 (List.length (List.getD c a [])) (List.getD c a [])) (List.getD g a 0))))),(nu (ch k (aa i j h) l (bO (ak (List.getD d a false) (aa 0 (List.length (List.getD b a [])) (List.getD b a [])) (List.getD e a 0) (List.getD f a false) (aa 0 (List.length (List.getD c a [])) (List.getD c a [])) (List.getD g a 0))) (aa (bH (ak (List.getD d a false) (aa 0 (List.length (List.getD b a [])) (List.getD b a [])) (List.getD e a 0) (List.getD f a false) (aa 0 (List.length (List.getD c a [])) (List.getD c a [])) (List.getD g a 0))) (bJ (ak (List.getD d a false) (aa 0 (List.length (List.getD b a [])) (List.getD b a [])) (List.getD e a 0) (List.getD f a false) (aa 0 (List.length (List.getD c a [])) (List.getD c a [])) (List.getD g a 0))) (bG (ak (List.getD d a false) (aa 0 (List.length (List.getD b a [])) (List.getD b a [])) (List.getD e a 0) (List.getD f a false) (aa 0 (List.length (List.getD c a [])) (List.getD c a [])) (List.getD g a 0)))) (bP (ak (List.getD d a false) (aa 0 (List.length (List.getD b a [])) (List.getD b a [])) (List.getD e a 0) (List.getD f a false) (aa 0 (List.length (List.getD c a [])) (List.getD c a [])) (List.getD g a 0))))),(nv (ch k (aa i j h) l (bO (ak (List.getD d a false) (aa 0 (List.length (List.getD b a [])) (List.getD b a [])) (List.getD e a 0) (List.getD f a false) (aa 0 (List.length (List.getD c a [])) (List.getD c a [])) (List.getD g a 0))) (aa (bH (ak (List.getD d a false) (aa 0 (List.length (List.getD b a [])) (List.getD b a [])) (List.getD e a 0) (List.getD f a false) (aa 0 (List.length (List.getD c a [])) (List.getD c a [])) (List.getD g a 0))) (bJ (ak (List.getD d a false) (aa 0 (List.length (List.getD b a [])) (List.getD b a [])) (List.getD e a 0) (List.getD f a false) (aa 0 (List.length (List.getD c a [])) (List.getD c a [])) (List.getD g a 0))) (bG (ak (List.getD d a false) (aa 0 (List.length (List.getD b a [])) (List.getD b a [])) (List.getD e a 0) (List.getD f a false) (aa 0 (List.length (List.getD c a [])) (List.getD c a [])) (List.getD g a 0)))) (bP (ak (List.getD d a false) (aa 0 (List.length (List.getD b a [])) (List.getD b a [])) (List.getD e a 0) (List.getD f a false) (aa 0 (List.length (List.getD c a [])) (List.getD c a [])) (List.getD g a 0))))),(nw (ch k (aa i j h) l (bO (ak (List.getD d a false) (aa 0 (List.length (List.getD b a [])) (List.getD b a [])) (List.getD e a 0) (List.getD f a false) (aa 0 (List.length (List.getD c a [])) (List.getD c a [])) (List.getD g a 0))) (aa (bH (ak (List.getD d a false) (aa 0 (List.length (List.getD b a [])) (List.getD b a [])) (List.getD e a 0) (List.getD f a false) (aa 0 (List.length (List.getD c a [])) (List.getD c a [])) (List.getD g a 0))) (bJ (ak (List.getD d a false) (aa 0 (List.length (List.getD b a [])) (List.getD b a [])) (List.getD e a 0) (List.getD f a false) (aa 0 (List.length (List.getD c a [])) (List.getD c a [])) (List.getD g a 0))) (bG (ak (List.getD d a false) (aa 0 (List.length (List.getD b a [])) (List.getD b a [])) (List.getD e a 0) (List.getD f a false) (aa 0 (List.length (List.getD c a [])) (List.getD c a [])) (List.getD g a 0)))) (bP (ak (List.getD d a false) (aa 0 (List.length (List.getD b a [])) (List.getD b a [])) (List.getD e a 0) (List.getD f a false) (aa 0 (List.length (List.getD c a [])) (List.getD c a [])) (List.getD g a 0))))),(nA (ch k (aa i j h) l (bO (ak (List.getD d a false) (aa 0 (List.length (List.getD b a [])) (List.getD b a [])) (List.getD e a 0) (List.getD f a false) (aa 0 (List.length (List.getD c a [])) (List.getD c a [])) (List.getD g a 0))) (aa (bH (ak (List.getD d a false) (aa 0 (List.length (List.getD b a [])) (List.getD b a [])) (List.getD e a 0) (List.getD f a false) (aa 0 (List.length (List.getD c a [])) (List.getD c a [])) (List.getD g a 0))) (bJ (ak (List.getD d a false) (aa 0 (List.length (List.getD b a [])) (List.getD b a [])) (List.getD e a 0) (List.getD f a false) (aa 0 (List.length (List.getD c a [])) (List.getD c a [])) (List.getD g a 0))) (bG (ak (List.getD d a false) (aa 0 (List.length (List.getD b a [])) (List.getD b a [])) (List.getD e a 0) (List.getD f a false) (aa 0 (List.length (List.getD c a [])) (List.getD c a [])) (List.getD g a 0)))) (bP (ak (List.getD d a false) (aa 0 (List.length (List.getD b a [])) (List.getD b a [])) (List.getD e a 0) (List.getD f a false) (aa 0 (List.length (List.getD c a [])) (List.getD c a [])) (List.getD g a 0))))),(nB (ch k (aa i j h) l (bO (ak (List.getD d a false) (aa 0 (List.length (List.getD b a [])) (List.getD b a [])) (List.getD e a 0) (List.getD f a false) (aa 0 (List.length (List.getD c a [])) (List.getD c a [])) (List.getD g a 0))) (aa (bH (ak (List.getD d a false) (aa 0 (List.length (List.getD b a [])) (List.getD b a [])) (List.getD e a 0) (List.getD f a false) (aa 0 (List.length (List.getD c a [])) (List.getD c a [])) (List.getD g a 0))) (bJ (ak (List.getD d a false) (aa 0 (List.length (List.getD b a [])) (List.getD b a [])) (List.getD e a 0) (List.getD f a false) (aa 0 (List.length (List.getD c a [])) (List.getD c a [])) (List.getD g a 0))) (bG (ak (List.getD d a false) (aa 0 (List.length (List.getD b a [])) (List.getD b a [])) (List.getD e a 0) (List.getD f a false) (aa 0 (List.length (List.getD c a [])) (List.getD c a [])) (List.getD g a 0)))) (bP (ak (List.getD d a false) (aa 0 (List.length (List.getD b a [])) (List.getD b a [])) (List.getD e a 0) (List.getD f a false) (aa 0 (List.length (List.getD c a [])) (List.getD c a [])) (List.getD g a 0))))))))))
    (.leaf (.inr (.inl (o,k,h,i,j,l))))
def Ts(a:Nat)(b:Nat)(c:Bool)(d:List Int)(e:Nat)(f:Nat)(g:Int) :T ((Nat×Nat×Bool×(List Int)×Nat×Nat×Int)⊕((Nat×Bool×(List Int)×Nat×Nat×Int)⊕(dC))) :=
  .need (dI .i64 (((a+1):Nat):Int))<|.leaf (.inl (b,(a+1),c,d,e,f,g))
def um(b:Nat)(c:List Bool)(d:List (List Int))(e:List Int)(f:Nat)(g:List Bool)(h:List (List Int))(i:List Int) :Nat×Nat×Bool×(List Int)×Nat×Nat×Int→Option ((Nat×Nat×Bool×(List Int)×Nat×Nat×Int)⊕((Nat×Bool×(List Int)×Nat×Nat×Int)⊕(dC))):=fun (j,a,k,l,m,n,o) =>
  aC ((zH b c d e f g h i j a k l m n o).run) fun (p,q,r,s,t,u) =>
  (Ts a p q r s t u).run
theorem Tt(j:Lv)(a:Nat)(b:List Bool)(c:List (List Int))(d:List Int)(k:Lv)(e:Nat)(f:List Bool)(g:List (List Int))(h:List Int)(i:Bool)(m:Nat)(l:Nat)(n:Bool)(o:List Int)(p:Nat)(q:Nat)(r:Int) :Sg prog [] Tq (By j a b c d k e f g h i (m,l,n,o,p,q,r)) (um a b c d e f g h (m,l,n,o,p,q,r)) (By j a b c d k e f g h i) (dH 0 (GW i) zF):=by
  unfold um;exact Sg.cut 3 (bz pF) (bo jo (Tr j a b c d k e f g h i l) [⟨[],[0,1],[4,6,7]⟩,⟨[],[0,1],[4,6,7]⟩,⟨[],[0,1],[0,1,4,6,7,18,19]⟩,⟨[],[0,1],[4,6,7]⟩]) (fun ⟨s,t,u,v,w,x⟩=>bo jo _ [⟨[],[0,1],[0,1,4,6,7,18,19]⟩])
def Tu(a:Nat)(b:Bool)(c:List Int)(d:Nat)(e:Nat)(f:Int) :T ((Empty)⊕(dC)) :=
  .ask (((a:Nat):Int) != (0:Int))
    (.leaf (.inr (.r0 a false ([]:List Int) 0 0 (0:Int))))
    (.leaf (.inr (.r0 0 b c d e f)))
def cu(a:Nat)(c:List Bool)(d:List (List Int))(e:List Int)(b:Nat)(f:List Bool)(g:List (List Int))(h:List Int) :Option dC:=lw (aC ((Tn).run) fun p =>
  aC ((Tp a b).run) fun i =>
  aC (df (um a c d e b f g h) (0,0,i,([]:List Int),0,0,(0:Int))) fun (j,k,l,m,n,o) =>
  (Tu j k l m n o).run)
theorem WR(j:Lv)(a:Nat)(c:List Bool)(d:List (List Int))(e:List Int)(k:Lv)(b:Nat)(f:List Bool)(g:List (List Int))(i:List Int){x:dC}(h:cu a c d e b f g i=some x) :aj prog yx [] [.imm j (.cols a [.cb c,.cns .u64 d,.ci .i64 e]) 3 3 0 a,.imm k (.cols b [.cb f,.cns .u64 g,.ci .i64 i]) 3 3 0 b] (EQ x) :=
  lM true EQ zF h (Sg.cut 1 pF (bo jo (WP j a c d e k b f g i) [⟨[],[0],[0,1,4]⟩]) (fun l=>Ee (by kernel_rfl:(zG.drop 1)=[.scope (Cn (((zG.drop 1)).headD .skip))]) pF (Sg.cut 5 pF (bo jo (WQ j a c d e k b f g i l) [⟨[(.cell 0 1,.fre 1 1 (.ns .u64 ([]:List Int)))],[0],[4,5]⟩,⟨[],[0,81],[0,1,4,6,7,18,19]⟩]) (fun A=>Sg.cut 1 pF (Ej ⟨[(.cell 1 1,.fre 1 1 (.ns .u64 ([]:List Int)))],[0,1],[0,1,4,6,7,18,19]⟩ (By j a c d e k b f g i l) (GW l) 0 pF (WO _) (fun ⟨m,n,o,p,q,r,s⟩=>Tt j a c d e k b f g i l m n o p q r s)) (fun ⟨B,C,D,E,F,G⟩=>bo jo _ [⟨[(.cell 0 1,.fre 1 1 (.ns .u64 ([]:List Int)))],[0],[4,5]⟩,⟨[],[0],[4,5]⟩])))))
    (fun x=>by cases x with | r0 t u v w y z=>exact lz [.agg [.bool false u,.imm .free (.ns .u64 v) 1 1 w y,.int .i64 z],.int .i64 ((t:Nat):Int)])
def pG:Option dC→Bool
  | some _=>true
  | none=>false
def nL:Option dC→Nat
  | some (.r0 x _ _ _ _ _)=>x
  | _=>0
def nN:Option dC→Bool
  | some (.r0 _ x _ _ _ _)=>x
  | _=>false
def nO:Option dC→List Int
  | some (.r0 _ _ x _ _ _)=>x
  | _=>[]
def nP:Option dC→Nat
  | some (.r0 _ _ _ x _ _)=>x
  | _=>0
def nQ:Option dC→Nat
  | some (.r0 _ _ _ _ x _)=>x
  | _=>0
def nR:Option dC→Int
  | some (.r0 _ _ _ _ _ x)=>x
  | _=>0
theorem WS{x:Option dC}(h:pG x=true) :x=some (.r0 (nL x) (nN x) (nO x) (nP x) (nQ x) (nR x)):=by
  unfold pG at h
  split at h<;>first | rfl | (cases h;done) | (rename_i y;cases y;rfl)
def M6:aE:=bT yx (.cons (.cols [.cb,.cns .u64,.ci .i64]) (.cons (.cols [.cb,.cns .u64,.ci .i64]) .nil)) fun t=>(fun q=>[⟨EQ (.r0 (nL q) (nN q) (nO q) (nP q) (nQ q) (nR q)),[pG q]⟩]) (cu t.1.2.1 t.1.2.2.1 t.1.2.2.2.1 t.1.2.2.2.2.1 t.2.1.2.1 t.2.1.2.2.1 t.2.1.2.2.2.1 t.2.1.2.2.2.2.1)
theorem PM:aM prog M6:=aJ fun t=>(aK (fun h=>WR t.1.1 t.1.2.1 t.1.2.2.1 t.1.2.2.2.1 t.1.2.2.2.2.1 t.2.1.1 t.2.1.2.1 t.2.1.2.2.1 t.2.1.2.2.2.1 t.2.1.2.2.2.2.1 (WS h)) bb)
def M7:List aE:=M6::GV
theorem xq:bc prog (bh M7):=ap PM jo
inductive cN where
  | r0 (a:Nat) (b:Bool) (c:List Int) (d:Nat) (e:Nat) (f:Int)
def Bz:cN→AE×aF
  | .r0 a b c d e f=>(.ret,⟨ah 9 [(2,.ptr 0 1 0 0),(3,.int .i64 ((a:Nat):Int))],[(0,.vs [.bool false b,.imm .free (.ns .u64 c) 1 1 d e,.int .i64 f])],1⟩)
theorem Kd:j8 Bz:=by intro x;cases x<;>(intro h;cases h)
def vm:cN→iK
  | .r0 a b c d e f=>⟨.tup [.agg [.bool false b,.imm .free (.ns .u64 c) 1 1 d e,.int .i64 f],.int .i64 ((a:Nat):Int)],[]⟩
def Ke:Nat×Bool×(List Int)×Nat×Nat×Int→aF:=fun (a,b,c,d,e,f)=>⟨ah 9 [(2,.ptr 0 1 0 0),(3,.int .i64 ((a:Nat):Int))],[(0,.vs [.bool false b,.imm .free (.ns .u64 c) 1 1 d e,.int .i64 f])],1⟩
def Aa(a:Nat)(b:List Bool)(c:List (List Int))(d:List Int) :T ((Nat×Bool×(List Int)×Nat×Nat×Int)⊕(cN)) :=
  .need (Nat.ble (0+a) a)<|.need (Nat.ble (0+a) a)<|.need (pG (cu a (aa 0 a b) (aa 0 a c) (aa 0 a d) a (aa 0 a b) (aa 0 a c) (aa 0 a d)))<|.leaf (.inl ((nL (cu a (aa 0 a b) (aa 0 a c) (aa 0 a d) a (aa 0 a b) (aa 0 a c) (aa 0 a d))),(nN (cu a (aa 0 a b) (aa 0 a c) (aa 0 a d) a (aa 0 a b) (aa 0 a c) (aa 0 a d))),(nO (cu a (aa 0 a b) (aa 0 a c) (aa 0 a d) a (aa 0 a b) (aa 0 a c) (aa 0 a d))),(nP (cu a (aa 0 a b) (aa 0 a c) (aa 0 a d) a (aa 0 a b) (aa 0 a c) (aa 0 a d))),(nQ (cu a (aa 0 a b) (aa 0 a c) (aa 0 a d) a (aa 0 a b) (aa 0 a c) (aa 0 a d))),(nR (cu a (aa 0 a b) (aa 0 a c) (aa 0 a d) a (aa 0 a b) (aa 0 a c) (aa 0 a d)))))
def Kf(a:Nat)(b:Bool)(c:List Int)(d:Nat)(e:Nat)(f:Int) :T ((Empty)⊕(cN)) :=
  .leaf (.inr (.r0 a b c d e f))
def bk(a:Nat)(b:List Bool)(c:List (List Int))(d:List Int) :Option cN:=lw (aC ((Aa a b c d).run) fun (e,f,g,h,i,j) =>
  (Kf e f g h i j).run)
theorem Kg(e:Lv)(a:Nat)(b:List Bool)(c:List (List Int))(d:List Int){x:cN}(h:bk a b c d=some x) :aj prog uO [] [.imm e (.cols a [.cb b,.cns .u64 c,.ci .i64 d]) 3 3 0 a] (vm x) :=
  lM true vm Bz h (Sg.cut 2 Kd (bo xq Ke [⟨[],[0],[2,3]⟩]) (fun ⟨m,n,o,p,q,r⟩=>bo xq _ [⟨[],[0],[2,3]⟩]))
    (fun x=>by cases x with | r0 f g i j k l=>exact lz [.agg [.bool false g,.imm .free (.ns .u64 i) 1 1 j k,.int .i64 l],.int .i64 ((f:Nat):Int)])
def jp:Option cN→Bool
  | some _=>true
  | none=>false
def jG:Option cN→Nat
  | some (.r0 x _ _ _ _ _)=>x
  | _=>0
def jH:Option cN→Bool
  | some (.r0 _ x _ _ _ _)=>x
  | _=>false
def jI:Option cN→List Int
  | some (.r0 _ _ x _ _ _)=>x
  | _=>[]
def jJ:Option cN→Nat
  | some (.r0 _ _ _ x _ _)=>x
  | _=>0
def jK:Option cN→Nat
  | some (.r0 _ _ _ _ x _)=>x
  | _=>0
def jL:Option cN→Int
  | some (.r0 _ _ _ _ _ x)=>x
  | _=>0
theorem Kh{x:Option cN}(h:jp x=true) :x=some (.r0 (jG x) (jH x) (jI x) (jJ x) (jK x) (jL x)):=by
  unfold jp at h
  split at h<;>first | rfl | (cases h;done) | (rename_i y;cases y;rfl)
def BA:aE:=bT uO (.cons (.cols [.cb,.cns .u64,.ci .i64]) .nil) fun t=>(fun q=>[⟨vm (.r0 (jG q) (jH q) (jI q) (jJ q) (jK q) (jL q)),[jp q]⟩]) (bk t.1.2.1 t.1.2.2.1 t.1.2.2.2.1 t.1.2.2.2.2.1)
theorem GX:aM prog BA:=aJ fun t=>(aK (fun h=>Kg t.1.1 t.1.2.1 t.1.2.2.1 t.1.2.2.2.1 t.1.2.2.2.2.1 (Kh h)) bb)
def BB:List aE:=BA::M7
theorem lL:bc prog (bh BB):=ap GX xq
inductive dS where
  | r0 (a:Nat) (b:Bool) (c:List Int) (d:Nat) (e:Nat) (f:Int)
def Jw:dS→AE×aF
  | .r0 a b c d e f=>(.ret,⟨ah 23 [(2,.ptr 0 1 0 0),(3,.int .i64 ((a:Nat):Int))],[(0,.vs [.bool false b,.imm .free (.ns .u64 c) 1 1 d e,.int .i64 f])],1⟩)
theorem GY:j8 Jw:=by intro x;cases x<;>(intro h;cases h)
def BC:dS→iK
  | .r0 a b c d e f=>⟨.tup [.agg [.bool false b,.imm .free (.ns .u64 c) 1 1 d e,.int .i64 f],.int .i64 ((a:Nat):Int)],[]⟩
def Tv(b:Int)(c:Int)(d:Lv)(a:List Nat)(e:Bool) :aF:=⟨ah 23 [(1,.ptr 0 1 0 0),(2,.ptr 1 1 0 0)],[(0,.vs [.int .i64 b,.int .i64 c,.imm d (.fl a) 1 1 0 (List.length a)]),(1,.vs [.bool false e,.nsl,.int .i64 (0:Int)])],2⟩
def GZ(b : Int)(c : Int)(a : List Nat) : T ((Bool) ⊕ (dS)) :=
  .ask (decide ((0:Int)<(1:Int)))
    (.need (gA (0:Int) 1)<|.need (aP 0 (List.length a) a)<|.need (fK (cL b c (aa 0 (List.length a) a)))<|.ask (ff (cL b c (aa 0 (List.length a) a)))
      (.ask (!(!(decide ((0:Int)≥(0:Int)))))
        (.leaf (.inr (.r0 2 false ([]:List Int) 0 0 (0:Int))))
        (.fail))
      (.need (dI .i64 (1:Int))<|.ask (decide ((1:Int)<(1:Int)))
        (.fail)
        (.ask (!(!(decide ((-1:Int)≥(0:Int)))))
          (.fail)
          (.ask (decide ((0:Int)<(1:Int)))
            (.need (gA (0:Int) 1)<|.need (aP 0 (List.length a) a)<|.need (aI (ao (aa 0 (List.length a) a)))<|.ask (decide ((aL (ao (aa 0 (List.length a) a)))≥(0:Int)))
              (.leaf (.inr (.r0 10 false ([]:List Int) 0 0 (0:Int))))
              (.need (dI .i64 (1:Int))<|.ask (decide ((1:Int)<(1:Int)))
                (.fail)
                (.leaf (.inl false))))
            (.fail)))))
    (.fail)
def Tw:Nat×Bool×(List Int)×Nat×Nat×Int→aF:=fun (a,b,c,d,e,f)=>⟨ah 23 [(2,.ptr 0 1 0 0),(3,.int .i64 ((a:Nat):Int))],[(0,.vs [.bool false b,.imm .free (.ns .u64 c) 1 1 d e,.int .i64 f])],1⟩
def G0(a:List Nat) :T ((Nat×Bool×(List Int)×Nat×Nat×Int)⊕(dS)) :=
  .need (aP 0 (List.length a) a)<|.need (fL (am (aa 0 (List.length a) a)))<|.need (Nat.ble (0+(aD (am (aa 0 (List.length a) a)))) (aD (am (aa 0 (List.length a) a))))<|.need (jp (bk (aD (am (aa 0 (List.length a) a))) (aa 0 (aD (am (aa 0 (List.length a) a))) (cj (am (aa 0 (List.length a) a)))) (aa 0 (aD (am (aa 0 (List.length a) a))) (ck (am (aa 0 (List.length a) a)))) (aa 0 (aD (am (aa 0 (List.length a) a))) (cm (am (aa 0 (List.length a) a))))))<|.leaf (.inl ((jG (bk (aD (am (aa 0 (List.length a) a))) (aa 0 (aD (am (aa 0 (List.length a) a))) (cj (am (aa 0 (List.length a) a)))) (aa 0 (aD (am (aa 0 (List.length a) a))) (ck (am (aa 0 (List.length a) a)))) (aa 0 (aD (am (aa 0 (List.length a) a))) (cm (am (aa 0 (List.length a) a)))))),(jH (bk (aD (am (aa 0 (List.length a) a))) (aa 0 (aD (am (aa 0 (List.length a) a))) (cj (am (aa 0 (List.length a) a)))) (aa 0 (aD (am (aa 0 (List.length a) a))) (ck (am (aa 0 (List.length a) a)))) (aa 0 (aD (am (aa 0 (List.length a) a))) (cm (am (aa 0 (List.length a) a)))))),(jI (bk (aD (am (aa 0 (List.length a) a))) (aa 0 (aD (am (aa 0 (List.length a) a))) (cj (am (aa 0 (List.length a) a)))) (aa 0 (aD (am (aa 0 (List.length a) a))) (ck (am (aa 0 (List.length a) a)))) (aa 0 (aD (am (aa 0 (List.length a) a))) (cm (am (aa 0 (List.length a) a)))))),(jJ (bk (aD (am (aa 0 (List.length a) a))) (aa 0 (aD (am (aa 0 (List.length a) a))) (cj (am (aa 0 (List.length a) a)))) (aa 0 (aD (am (aa 0 (List.length a) a))) (ck (am (aa 0 (List.length a) a)))) (aa 0 (aD (am (aa 0 (List.length a) a))) (cm (am (aa 0 (List.length a) a)))))),(jK (bk (aD (am (aa 0 (List.length a) a))) (aa 0 (aD (am (aa 0 (List.length a) a))) (cj (am (aa 0 (List.length a) a)))) (aa 0 (aD (am (aa 0 (List.length a) a))) (ck (am (aa 0 (List.length a) a)))) (aa 0 (aD (am (aa 0 (List.length a) a))) (cm (am (aa 0 (List.length a) a)))))),(jL (bk (aD (am (aa 0 (List.length a) a))) (aa 0 (aD (am (aa 0 (List.length a) a))) (cj (am (aa 0 (List.length a) a)))) (aa 0 (aD (am (aa 0 (List.length a) a))) (ck (am (aa 0 (List.length a) a)))) (aa 0 (aD (am (aa 0 (List.length a) a))) (cm (am (aa 0 (List.length a) a))))))))
def Tx(a:Nat)(b:Bool)(c:List Int)(d:Nat)(e:Nat)(f:Int) :T ((Empty)⊕(dS)) :=
  .leaf (.inr (.r0 a b c d e f))
def c7(b:Int)(c:Int)(a:List Nat) :Option dS:=lw (aC ((GZ b c a).run) fun j =>
  aC ((G0 a).run) fun (d,e,f,g,h,i) =>
  (Tx d e f g h i).run)
theorem Tz(b:Int)(c:Int)(d:Lv)(a:List Nat){x:dS}(h:c7 b c a=some x) :aj prog AI [] [.agg [.int .i64 b,.int .i64 c,.imm d (.fl a) 1 1 0 (List.length a)]] (BC x) :=
  lM true BC Jw h (Sg.cut 2 GY (bo lL (Tv b c d a) [⟨[(.cell 16 1,.fre 1 1 (.ns .u64 ([]:List Int)))],[16],[2,3]⟩,⟨[(.cell 16 1,.fre 1 1 (.ns .u64 ([]:List Int)))],[16],[2,3]⟩,⟨[],[0,16],[1,2]⟩]) (fun l=>Sg.cut 1 GY (bo lL Tw [⟨[],[1],[2,3]⟩]) (fun ⟨m,n,o,p,q,r⟩=>bo lL _ [⟨[],[0],[2,3]⟩])))
    (fun x=>by cases x with | r0 e f g i j k=>exact lz [.agg [.bool false f,.imm .free (.ns .u64 g) 1 1 i j,.int .i64 k],.int .i64 ((e:Nat):Int)])
def qu:Option dS→Bool
  | some _=>true
  | none=>false
def qv:Option dS→Nat
  | some (.r0 x _ _ _ _ _)=>x
  | _=>0
def qw:Option dS→Bool
  | some (.r0 _ x _ _ _ _)=>x
  | _=>false
def qx:Option dS→List Int
  | some (.r0 _ _ x _ _ _)=>x
  | _=>[]
def qy:Option dS→Nat
  | some (.r0 _ _ _ x _ _)=>x
  | _=>0
def qz:Option dS→Nat
  | some (.r0 _ _ _ _ x _)=>x
  | _=>0
def qA:Option dS→Int
  | some (.r0 _ _ _ _ _ x)=>x
  | _=>0
theorem TA{x:Option dS}(h:qu x=true) :x=some (.r0 (qv x) (qw x) (qx x) (qy x) (qz x) (qA x)):=by
  unfold qu at h
  split at h<;>first | rfl | (cases h;done) | (rename_i y;cases y;rfl)
def Jx:aE:=bT AI (.cons (.agg (.cons (.int .i64) (.cons (.int .i64) (.cons .fl .nil)))) .nil) fun t=>(fun q=>[⟨BC (.r0 (qv q) (qw q) (qx q) (qy q) (qz q) (qA q)),[qu q]⟩]) (c7 t.1.1 t.1.2.1 t.1.2.2.1.2)
theorem M8:aM prog Jx:=aJ fun t=>(aK (fun h=>Tz t.1.1 t.1.2.1 t.1.2.2.1.1 t.1.2.2.1.2 (TA h)) bb)
def Jy:List aE:=Jx::BB
theorem qB:bc prog (bh Jy):=ap M8 lL
inductive eB where
  | r0 (a:Nat) (b:List Bool) (c:List (List Int)) (d:List Int)
def ws:eB→AE×aF
  | .r0 a b c d=>(.ret,⟨ah 31 [(8,.sl 0 3 3 0 a a)],[(0,.cols a [.cb b,.cns .u64 c,.ci .i64 d])],1⟩)
theorem zI:j8 ws:=by intro x;cases x<;>(intro h;cases h)
theorem TB(id:Nat) :mz id ws:=by intro x;cases x<;>(intro h;cases h)
def BD:eB→iK
  | .r0 a b c d=>⟨.imm .free (.cols a [.cb b,.cns .u64 c,.ci .i64 d]) 3 3 0 a,[]⟩
def TC:List Code:=cY (mU vV)
def TD(c:Lv)(b:Nat)(d:List Bool)(e:List (List Int))(f:List Int)(g:Int)(h:Int) :Nat×Nat×(List Bool)×(List (List Int))×(List Int)→aF:=fun (a,i,j,k,l)=>⟨ah 31 [(0,.imm c (.cols b [.cb d,.cns .u64 e,.ci .i64 f]) 3 3 0 b),(1,.int .i64 g),(2,.int .i64 h),(9,.sl 0 3 3 0 a a),(14,.int .i64 ((i:Nat):Int)),(15,.int .i64 (0:Int))],[(0,.cols a [.cb j,.cns .u64 k,.ci .i64 l])],1⟩
def G1(a:Int) :T ((Nat×Nat×(List Bool)×(List (List Int))×(List Int))⊕(eB)) :=
  .need (decide ((0:Int)≤a))<|.need (decide (a≤a))<|.need (decide ((40:Int)*a≤140737488355328))<|.need (dI .i64 a)<|.leaf (.inl ((Int.toNat a),(Int.toNat a),(List.replicate (Int.toNat a) false),(List.replicate (Int.toNat a) []),(List.replicate (Int.toNat a) (0:Int))))
def zJ(c:Lv)(b:Nat)(d:List Bool)(e:List (List Int))(f:List Int)(g:Int)(h:Int)(a:Nat)(i:Nat) :Nat×(List Bool)×(List (List Int))×(List Int)→aF:=fun (j,k,l,m)=>⟨ah 31 [(0,.imm c (.cols b [.cb d,.cns .u64 e,.ci .i64 f]) 3 3 0 b),(1,.int .i64 g),(2,.int .i64 h),(9,.sl 0 3 3 0 a a),(14,.int .i64 ((i:Nat):Int)),(15,.int .i64 ((j:Nat):Int))],[(0,.cols a [.cb k,.cns .u64 l,.ci .i64 m])],1⟩
def G2(a:Nat) :(List Bool)×(List (List Int))×(List Int)→aF:=fun (b,c,d)=>⟨ah 31 [(9,.sl 0 3 3 0 a a)],[(0,.cols a [.cb b,.cns .u64 c,.ci .i64 d])],1⟩
def TE:List Code:=cY (d7 ((((TC.drop 3).take 1)).headD .skip))
def un(j:Nat)(h:List Bool)(d:List (List Int))(i:List Int)(c:Int)(b:Int)(k:Nat)(l:Nat)(a:Nat)(e:List Bool)(f:List (List Int))(g:List Int) :T ((Nat×(List Bool)×(List (List Int))×(List Int))⊕(((List Bool)×(List (List Int))×(List Int))⊕(eB))) :=
  .ask (decide (((a:Nat):Int)<((l:Nat):Int)))
    (.need (dI .i64 (((a:Nat):Int)*b))<|.need (dI .i64 (c+(((a:Nat):Int)*b)))<|.need (gA (c+(((a:Nat):Int)*b)) j)<|.need (gM (Int.toNat (c+(((a:Nat):Int)*b))) (List.length h))<|.need (gM (Int.toNat (c+(((a:Nat):Int)*b))) (List.length d))<|.need (gM (Int.toNat (c+(((a:Nat):Int)*b))) (List.length i))<|.need (gA ((a:Nat):Int) k)<|.need (gM a (List.length e))<|.need (gM a (List.length f))<|.need (decide (0+(List.length (List.getD d (Int.toNat (c+(((a:Nat):Int)*b))) []))≤List.length (List.getD d (Int.toNat (c+(((a:Nat):Int)*b))) [])))<|.need (gM a (List.length g))<|.need (dI .i64 (((a+1):Nat):Int))<|.leaf (.inl ((a+1),(List.set e a (List.getD h (Int.toNat (c+(((a:Nat):Int)*b))) false)),(List.set f a (List.take (List.length (List.getD d (Int.toNat (c+(((a:Nat):Int)*b))) [])) (List.drop 0 (List.getD d (Int.toNat (c+(((a:Nat):Int)*b))) [])))),(List.set g a (List.getD i (Int.toNat (c+(((a:Nat):Int)*b))) 0)))))
    (.leaf (.inr (.inl (e,f,g))))
def xr(a:Nat)(b:List Bool)(c:List (List Int))(d:List Int)(e:Int)(f:Int)(g:Nat)(h:Nat) :Nat×(List Bool)×(List (List Int))×(List Int)→Option ((Nat×(List Bool)×(List (List Int))×(List Int))⊕(((List Bool)×(List (List Int))×(List Int))⊕(eB))):=fun (i,j,k,l) =>
  (un a b c d e f g h i j k l).run
theorem PN(i:Lv)(b:Nat)(c:List Bool)(d:List (List Int))(e:List Int)(f:Int)(g:Int)(a:Nat)(h:Nat)(j:Nat)(k:List Bool)(l:List (List Int))(m:List Int) :Sg prog [] TE (zJ i b c d e f g a h (j,k,l,m)) (xr b c d e f g a h (j,k,l,m)) (zJ i b c d e f g a h) (dH 0 (G2 a) ws):=by
  unfold xr;exact bo qB _ [⟨[],[0],[0,1,2,9,14,15]⟩,⟨[],[0],[9]⟩]
def PO(a:Nat)(b:List Bool)(c:List (List Int))(d:List Int) :T ((Empty)⊕(eB)) :=
  .leaf (.inr (.r0 a b c d))
def ab(b:Nat)(c:List Bool)(d:List (List Int))(e:List Int)(f:Int)(g:Int)(h:Int) :Option eB:=lw (aC ((G1 h).run) fun (a,i,j,k,l) =>
  aC (df (xr b c d e f g a i) (0,j,k,l)) fun (m,n,o) =>
  (PO a m n o).run)
theorem TF(g:Lv)(a:Nat)(b:List Bool)(c:List (List Int))(d:List Int)(e:Int)(f:Int)(j:Int){x:eB}(h:ab a b c d e f j=some x) :aj prog vV [] [.imm g (.cols a [.cb b,.cns .u64 c,.ci .i64 d]) 3 3 0 a,.int .i64 e,.int .i64 f,.int .i64 j] (BD x) :=
  lM true BD ws h (Sg.cut 3 zI (bo qB (TD g a b c d e f) [⟨[],[32],[0,1,2,9,14,15]⟩]) (fun ⟨i,k,q,r,s⟩=>Sg.cut 1 zI (Ej ⟨[],[0],[0,1,2,9,14,15]⟩ (zJ g a b c d e f i k) (G2 i) 0 zI (TB _) (fun ⟨m,n,o,p⟩=>PN g a b c d e f i k m n o p)) (fun ⟨t,u,v⟩=>bo qB _ [⟨[],[0],[8]⟩])))
    (fun x=>by cases x with | r0 l w y z=>exact lz [.sl 0 3 3 0 l l])
def iH:Option eB→Bool
  | some _=>true
  | none=>false
def ac:Option eB→Nat
  | some (.r0 x _ _ _)=>x
  | _=>0
def aV:Option eB→List Bool
  | some (.r0 _ x _ _)=>x
  | _=>[]
def aW:Option eB→List (List Int)
  | some (.r0 _ _ x _)=>x
  | _=>[]
def aX:Option eB→List Int
  | some (.r0 _ _ _ x)=>x
  | _=>[]
theorem TG{x:Option eB}(h:iH x=true) :x=some (.r0 (ac x) (aV x) (aW x) (aX x)):=by
  unfold iH at h
  split at h<;>first | rfl | (cases h;done) | (rename_i y;cases y;rfl)
def Jz:aE:=bT vV (.cons (.cols [.cb,.cns .u64,.ci .i64]) (.cons (.int .i64) (.cons (.int .i64) (.cons (.int .i64) .nil)))) fun t=>(fun q=>[⟨BD (.r0 (ac q) (aV q) (aW q) (aX q)),[iH q]⟩]) (ab t.1.2.1 t.1.2.2.1 t.1.2.2.2.1 t.1.2.2.2.2.1 t.2.1 t.2.2.1 t.2.2.2.1)
theorem M9:aM prog Jz:=aJ fun t=>(aK (fun h=>TF t.1.1 t.1.2.1 t.1.2.2.1 t.1.2.2.2.1 t.1.2.2.2.2.1 t.2.1 t.2.2.1 t.2.2.2.1 (TG h)) bb)
def JA:List aE:=Jz::Jy
theorem vn:bc prog (bh JA):=ap M9 qB
inductive fW where
  | r0 (a:Nat) (b:Bool) (c:List Int) (d:Nat) (e:Nat) (f:Int)
def Na:fW→AE×aF
  | .r0 a b c d e f=>(.ret,⟨ah 15 [(4,.ptr 0 1 0 0),(5,.int .i64 ((a:Nat):Int))],[(0,.vs [.bool false b,.imm .free (.ns .u64 c) 1 1 d e,.int .i64 f])],1⟩)
theorem WT:j8 Na:=by intro x;cases x<;>(intro h;cases h)
def ER:fW→iK
  | .r0 a b c d e f=>⟨.tup [.agg [.bool false b,.imm .free (.ns .u64 c) 1 1 d e,.int .i64 f],.int .i64 ((a:Nat):Int)],[]⟩
def WU:Nat×Bool×(List Int)×Nat×Nat×Int→aF:=fun (a,b,c,d,e,f)=>⟨ah 15 [(4,.ptr 0 1 0 0),(5,.int .i64 ((a:Nat):Int))],[(0,.vs [.bool false b,.imm .free (.ns .u64 c) 1 1 d e,.int .i64 f])],1⟩
def JB(c:Bool)(a:List Int)(d:Int)(e:Bool)(b:List Int)(f:Int) :T ((Nat×Bool×(List Int)×Nat×Nat×Int)⊕(fW)) :=
  .need (aP 0 (List.length a) a)<|.need (aP 0 (List.length b) b)<|.need (sN (ch c (aa 0 (List.length a) a) d (!e) (aa 0 (List.length b) b) f))<|.leaf (.inl ((lC (ch c (aa 0 (List.length a) a) d (!e) (aa 0 (List.length b) b) f)),(nu (ch c (aa 0 (List.length a) a) d (!e) (aa 0 (List.length b) b) f)),(nv (ch c (aa 0 (List.length a) a) d (!e) (aa 0 (List.length b) b) f)),(nw (ch c (aa 0 (List.length a) a) d (!e) (aa 0 (List.length b) b) f)),(nA (ch c (aa 0 (List.length a) a) d (!e) (aa 0 (List.length b) b) f)),(nB (ch c (aa 0 (List.length a) a) d (!e) (aa 0 (List.length b) b) f))))
def WV(a:Nat)(b:Bool)(c:List Int)(d:Nat)(e:Nat)(f:Int) :T ((Empty)⊕(fW)) :=
  .leaf (.inr (.r0 a b c d e f))
def dT(a:Bool)(b:List Int)(c:Int)(d:Bool)(e:List Int)(f:Int) :Option fW:=lw (aC ((JB a b c d e f).run) fun (g,h,i,j,k,l) =>
  (WV g h i j k l).run)
theorem WW(c:Bool)(g:Lv)(a:List Int)(d:Int)(e:Bool)(i:Lv)(b:List Int)(f:Int){x:fW}(h:dT c a d e b f=some x) :aj prog D6 [] [.agg [.bool false c,.imm g (.ns .u64 a) 1 1 0 (List.length a),.int .i64 d],.agg [.bool false e,.imm i (.ns .u64 b) 1 1 0 (List.length b),.int .i64 f]] (ER x) :=
  lM true ER Na h (Sg.cut 3 WT (bo vn WU [⟨[],[32],[4,5]⟩]) (fun ⟨p,q,r,s,t,u⟩=>bo vn _ [⟨[],[0],[4,5]⟩]))
    (fun x=>by cases x with | r0 j k l m n o=>exact lz [.agg [.bool false k,.imm .free (.ns .u64 l) 1 1 m n,.int .i64 o],.int .i64 ((j:Nat):Int)])
def sP:Option fW→Bool
  | some _=>true
  | none=>false
def si:Option fW→Nat
  | some (.r0 x _ _ _ _ _)=>x
  | _=>0
def sj:Option fW→Bool
  | some (.r0 _ x _ _ _ _)=>x
  | _=>false
def sk:Option fW→List Int
  | some (.r0 _ _ x _ _ _)=>x
  | _=>[]
def sm:Option fW→Nat
  | some (.r0 _ _ _ x _ _)=>x
  | _=>0
def sn:Option fW→Nat
  | some (.r0 _ _ _ _ x _)=>x
  | _=>0
def so:Option fW→Int
  | some (.r0 _ _ _ _ _ x)=>x
  | _=>0
theorem WX{x:Option fW}(h:sP x=true) :x=some (.r0 (si x) (sj x) (sk x) (sm x) (sn x) (so x)):=by
  unfold sP at h
  split at h<;>first | rfl | (cases h;done) | (rename_i y;cases y;rfl)
def Nb:aE:=bT D6 (.cons (.agg (.cons .bool (.cons (.ns .u64) (.cons (.int .i64) .nil)))) (.cons (.agg (.cons .bool (.cons (.ns .u64) (.cons (.int .i64) .nil)))) .nil)) fun t=>(fun q=>[⟨ER (.r0 (si q) (sj q) (sk q) (sm q) (sn q) (so q)),[sP q]⟩]) (dT t.1.1 t.1.2.1.2 t.1.2.2.1 t.2.1.1 t.2.1.2.1.2 t.2.1.2.2.1)
theorem PP:aM prog Nb:=aJ fun t=>(aK (fun h=>WW t.1.1 t.1.2.1.1 t.1.2.1.2 t.1.2.2.1 t.2.1.1 t.2.1.2.1.1 t.2.1.2.1.2 t.2.1.2.2.1 (WX h)) bb)
def Nc:List aE:=Nb::JA
theorem nT:bc prog (bh Nc):=ap PP vn
inductive cG where
  | r0 (a:Nat) (b:Bool) (c:List Int) (d:Nat) (e:Nat) (f:Int)
def Dx:cG→AE×aF
  | .r0 a b c d e f=>(.ret,⟨ah 43 [(7,.ptr 0 1 0 0),(8,.int .i64 ((a:Nat):Int))],[(0,.vs [.bool false b,.imm .free (.ns .u64 c) 1 1 d e,.int .i64 f])],1⟩)
theorem vo:j8 Dx:=by intro x;cases x<;>(intro h;cases h)
def xt:cG→iK
  | .r0 a b c d e f=>⟨.tup [.agg [.bool false b,.imm .free (.ns .u64 c) 1 1 d e,.int .i64 f],.int .i64 ((a:Nat):Int)],[]⟩
def Nd(b:Int)(c:Int)(d:Lv)(e:Bool)(f:Lv)(a:List Int)(g:Int) :Nat×Bool×Bool×(List Int)×Nat×Nat×Int→aF:=fun (h,i,j,k,l,m,n)=>⟨ah 43 [(0,.int .i64 b),(1,.int .i64 c),(4,.iptr d (.vs [.bool false e,.imm f (.ns .u64 a) 1 1 0 (List.length a),.int .i64 g]) 1 0 0),(7,.ptr 0 1 0 0),(9,.ptr 1 1 0 0),(10,.int .i64 ((h:Nat):Int))],[(0,.vs [.bool false i,.nsl,.int .i64 (0:Int)]),(1,.vs [.bool false j,.imm .free (.ns .u64 k) 1 1 l m,.int .i64 n])],2⟩
def vp(g:Int)(h:Int)(a:Nat)(b:List Bool)(c:List (List Int))(d:List Int)(e:Int)(f:Int) :T ((Nat×Bool×Bool×(List Int)×Nat×Nat×Int)⊕(cG)) :=
  .need (Nat.ble (0+a) a)<|.need (iH (ab a (aa 0 a b) (aa 0 a c) (aa 0 a d) g f e))<|.need (Nat.ble (0+a) a)<|.need (iH (ab a (aa 0 a b) (aa 0 a c) (aa 0 a d) h f e))<|.need (Nat.ble (0+(ac (ab a (aa 0 a b) (aa 0 a c) (aa 0 a d) g f e))) (ac (ab a (aa 0 a b) (aa 0 a c) (aa 0 a d) g f e)))<|.need (Nat.ble (0+(ac (ab a (aa 0 a b) (aa 0 a c) (aa 0 a d) h f e))) (ac (ab a (aa 0 a b) (aa 0 a c) (aa 0 a d) h f e)))<|.need (pG (cu (ac (ab a (aa 0 a b) (aa 0 a c) (aa 0 a d) g f e)) (aa 0 (ac (ab a (aa 0 a b) (aa 0 a c) (aa 0 a d) g f e)) (aV (ab a (aa 0 a b) (aa 0 a c) (aa 0 a d) g f e))) (aa 0 (ac (ab a (aa 0 a b) (aa 0 a c) (aa 0 a d) g f e)) (aW (ab a (aa 0 a b) (aa 0 a c) (aa 0 a d) g f e))) (aa 0 (ac (ab a (aa 0 a b) (aa 0 a c) (aa 0 a d) g f e)) (aX (ab a (aa 0 a b) (aa 0 a c) (aa 0 a d) g f e))) (ac (ab a (aa 0 a b) (aa 0 a c) (aa 0 a d) h f e)) (aa 0 (ac (ab a (aa 0 a b) (aa 0 a c) (aa 0 a d) h f e)) (aV (ab a (aa 0 a b) (aa 0 a c) (aa 0 a d) h f e))) (aa 0 (ac (ab a (aa 0 a b) (aa 0 a c) (aa 0 a d) h f e)) (aW (ab a (aa 0 a b) (aa 0 a c) (aa 0 a d) h f e))) (aa 0 (ac (ab a (aa 0 a b) (aa 0 a c) (aa 0 a d) h f e)) (aX (ab a (aa 0 a b) (aa 0 a c) (aa 0 a d) h f e)))))<|.leaf (.inl ((nL (cu (ac (ab a (aa 0 a b) (aa 0 a c) (aa 0 a d) g f e)) (aa 0 (ac (ab a (aa 0 a b) (aa 0 a c) (aa 0 a d) g f e)) (aV (ab a (aa 0 a b) (aa 0 a c) (aa 0 a d) g f e))) (aa 0 (ac (ab a (aa 0 a b) (aa 0 a c) (aa 0 a d) g f e)) (aW (ab a (aa 0 a b) (aa 0 a c) (aa 0 a d) g f e))) (aa 0 (ac (ab a (aa 0 a b) (aa 0 a c) (aa 0 a d) g f e)) (aX (ab a (aa 0 a b) (aa 0 a c) (aa 0 a d) g f e))) (ac (ab a (aa 0 a b) (aa 0 a c) (aa 0 a d) h f e)) (aa 0 (ac (ab a (aa 0 a b) (aa 0 a c) (aa 0 a d) h f e)) (aV (ab a (aa 0 a b) (aa 0 a c) (aa 0 a d) h f e))) (aa 0 (ac (ab a (aa 0 a b) (aa 0 a c) (aa 0 a d) h f e)) (aW (ab a (aa 0 a b) (aa 0 a c) (aa 0 a d) h f e))) (aa 0 (ac (ab a (aa 0 a b) (aa 0 a c) (aa 0 a d) h f e)) (aX (ab a (aa 0 a b) (aa 0 a c) (aa 0 a d) h f e))))),false,(nN (cu (ac (ab a (aa 0 a b) (aa 0 a c) (aa 0 a d) g f e)) (aa 0 (ac (ab a (aa 0 a b) (aa 0 a c) (aa 0 a d) g f e)) (aV (ab a (aa 0 a b) (aa 0 a c) (aa 0 a d) g f e))) (aa 0 (ac (ab a (aa 0 a b) (aa 0 a c) (aa 0 a d) g f e)) (aW (ab a (aa 0 a b) (aa 0 a c) (aa 0 a d) g f e))) (aa 0 (ac (ab a (aa 0 a b) (aa 0 a c) (aa 0 a d) g f e)) (aX (ab a (aa 0 a b) (aa 0 a c) (aa 0 a d) g f e))) (ac (ab a (aa 0 a b) (aa 0 a c) (aa 0 a d) h f e)) (aa 0 (ac (ab a (aa 0 a b) (aa 0 a c) (aa 0 a d) h f e)) (aV (ab a (aa 0 a b) (aa 0 a c) (aa 0 a d) h f e))) (aa 0 (ac (ab a (aa 0 a b) (aa 0 a c) (aa 0 a d) h f e)) (aW (ab a (aa 0 a b) (aa 0 a c) (aa 0 a d) h f e))) (aa 0 (ac (ab a (aa 0 a b) (aa 0 a c) (aa 0 a d) h f e)) (aX (ab a (aa 0 a b) (aa 0 a c) (aa 0 a d) h f e))))),(nO (cu (ac (ab a (aa 0 a b) (aa 0 a c) (aa 0 a d) g f e)) (aa 0 (ac (ab a (aa 0 a b) (aa 0 a c) (aa 0 a d) g f e)) (aV (ab a (aa 0 a b) (aa 0 a c) (aa 0 a d) g f e))) (aa 0 (ac (ab a (aa 0 a b) (aa 0 a c) (aa 0 a d) g f e)) (aW (ab a (aa 0 a b) (aa 0 a c) (aa 0 a d) g f e))) (aa 0 (ac (ab a (aa 0 a b) (aa 0 a c) (aa 0 a d) g f e)) (aX (ab a (aa 0 a b) (aa 0 a c) (aa 0 a d) g f e))) (ac (ab a (aa 0 a b) (aa 0 a c) (aa 0 a d) h f e)) (aa 0 (ac (ab a (aa 0 a b) (aa 0 a c) (aa 0 a d) h f e)) (aV (ab a (aa 0 a b) (aa 0 a c) (aa 0 a d) h f e))) (aa 0 (ac (ab a (aa 0 a b) (aa 0 a c) (aa 0 a d) h f e)) (aW (ab a (aa 0 a b) (aa 0 a c) (aa 0 a d) h f e))) (aa 0 (ac (ab a (aa 0 a b) (aa 0 a c) (aa 0 a d) h f e)) (aX (ab a (aa 0 a b) (aa 0 a c) (aa 0 a d) h f e))))),(nP (cu (ac (ab a (aa 0 a b) (aa 0 a c) (aa 0 a d) g f e)) (aa 0 (ac (ab a (aa 0 a b) (aa 0 a c) (aa 0 a d) g f e)) (aV (ab a (aa 0 a b) (aa 0 a c) (aa 0 a d) g f e))) (aa 0 (ac (ab a (aa 0 a b) (aa 0 a c) (aa 0 a d) g f e)) (aW (ab a (aa 0 a b) (aa 0 a c) (aa 0 a d) g f e))) (aa 0 (ac (ab a (aa 0 a b) (aa 0 a c) (aa 0 a d) g f e)) (aX (ab a (aa 0 a b) (aa 0 a c) (aa 0 a d) g f e))) (ac (ab a (aa 0 a b) (aa 0 a c) (aa 0 a d) h f e)) (aa 0 (ac (ab a (aa 0 a b) (aa 0 a c) (aa 0 a d) h f e)) (aV (ab a (aa 0 a b) (aa 0 a c) (aa 0 a d) h f e))) (aa 0 (ac (ab a (aa 0 a b) (aa 0 a c) (aa 0 a d) h f e)) (aW (ab a (aa 0 a b) (aa 0 a c) (aa 0 a d) h f e))) (aa 0 (ac (ab a (aa 0 a b) (aa 0 a c) (aa 0 a d) h f e)) (aX (ab a (aa 0 a b) (aa 0 a c) (aa 0 a d) h f e))))),(nQ (cu (ac (ab a (aa 0 a b) (aa 0 a c) (aa 0 a d) g f e)) (aa 0 (ac (ab a (aa 0 a b) (aa 0 a c) (aa 0 a d) g f e)) (aV (ab a (aa 0 a b) (aa 0 a c) (aa 0 a d) g f e))) (aa 0 (ac (ab a (aa 0 a b) (aa 0 a c) (aa 0 a d) g f e)) (aW (ab a (aa 0 a b) (aa 0 a c) (aa 0 a d) g f e))) (aa 0 (ac (ab a (aa 0 a b) (aa 0 a c) (aa 0 a d) g f e)) (aX (ab a (aa 0 a b) (aa 0 a c) (aa 0 a d) g f e))) (ac (ab a (aa 0 a b) (aa 0 a c) (aa 0 a d) h f e)) (aa 0 (ac (ab a (aa 0 a b) (aa 0 a c) (aa 0 a d) h f e)) (aV (ab a (aa 0 a b) (aa 0 a c) (aa 0 a d) h f e))) (aa 0 (ac (ab a (aa 0 a b) (aa 0 a c) (aa 0 a d) h f e)) (aW (ab a (aa 0 a b) (aa 0 a c) (aa 0 a d) h f e))) (aa 0 (ac (ab a (aa 0 a b) (aa 0 a c) (aa 0 a d) h f e)) (aX (ab a (aa 0 a b) (aa 0 a c) (aa 0 a d) h f e))))),(nR (cu (ac (ab a (aa 0 a b) (aa 0 a c) (aa 0 a d) g f e)) (aa 0 (ac (ab a (aa 0 a b) (aa 0 a c) (aa 0 a d) g f e)) (aV (ab a (aa 0 a b) (aa 0 a c) (aa 0 a d) g f e))) (aa 0 (ac (ab a (aa 0 a b) (aa 0 a c) (aa 0 a d) g f e)) (aW (ab a (aa 0 a b) (aa 0 a c) (aa 0 a d) g f e))) (aa 0 (ac (ab a (aa 0 a b) (aa 0 a c) (aa 0 a d) g f e)) (aX (ab a (aa 0 a b) (aa 0 a c) (aa 0 a d) g f e))) (ac (ab a (aa 0 a b) (aa 0 a c) (aa 0 a d) h f e)) (aa 0 (ac (ab a (aa 0 a b) (aa 0 a c) (aa 0 a d) h f e)) (aV (ab a (aa 0 a b) (aa 0 a c) (aa 0 a d) h f e))) (aa 0 (ac (ab a (aa 0 a b) (aa 0 a c) (aa 0 a d) h f e)) (aW (ab a (aa 0 a b) (aa 0 a c) (aa 0 a d) h f e))) (aa 0 (ac (ab a (aa 0 a b) (aa 0 a c) (aa 0 a d) h f e)) (aX (ab a (aa 0 a b) (aa 0 a c) (aa 0 a d) h f e)))))))
def Ne(b:Lv)(c:Bool)(d:Lv)(a:List Int)(e:Int)(f:Nat)(g:Bool)(h:Bool)(i:List Int)(j:Nat)(k:Nat)(l:Int)(m:Bool) :aF:=⟨ah 43 [(4,.iptr b (.vs [.bool false c,.imm d (.ns .u64 a) 1 1 0 (List.length a),.int .i64 e]) 1 0 0),(7,.ptr 0 1 0 0),(9,.ptr 1 1 0 0),(10,.int .i64 ((f:Nat):Int)),(35,.bool false m)],[(0,.vs [.bool false g,.nsl,.int .i64 (0:Int)]),(1,.vs [.bool false h,.imm .free (.ns .u64 i) 1 1 j k,.int .i64 l])],2⟩
def vq(a:Int)(b:Int)(c:Nat) :T ((Bool)⊕(cG)) :=
  .ask (((c:Nat):Int) != (0:Int))
    (.leaf (.inl true))
    (.leaf (.inl (a != b)))
def Nf:Nat×Bool×(List Int)×Nat×Nat×Int→aF:=fun (a,b,c,d,e,f)=>⟨ah 43 [(7,.ptr 0 1 0 0),(8,.int .i64 ((a:Nat):Int))],[(0,.vs [.bool false b,.imm .free (.ns .u64 c) 1 1 d e,.int .i64 f])],1⟩
def vr(g:Bool)(a:List Int)(h:Int)(i:Nat)(e:Bool)(b:List Int)(c:Nat)(d:Nat)(f:Int)(j:Bool) :T ((Nat×Bool×(List Int)×Nat×Nat×Int)⊕(cG)) :=
  .ask j
    (.leaf (.inr (.r0 i e b c d f)))
    (.need (aP c d b)<|.need (aP 0 (List.length a) a)<|.need (sP (dT e (aa c d b) f g (aa 0 (List.length a) a) h))<|.leaf (.inl ((si (dT e (aa c d b) f g (aa 0 (List.length a) a) h)),(sj (dT e (aa c d b) f g (aa 0 (List.length a) a) h)),(sk (dT e (aa c d b) f g (aa 0 (List.length a) a) h)),(sm (dT e (aa c d b) f g (aa 0 (List.length a) a) h)),(sn (dT e (aa c d b) f g (aa 0 (List.length a) a) h)),(so (dT e (aa c d b) f g (aa 0 (List.length a) a) h)))))
def Ng(a:Nat)(b:Bool)(c:List Int)(d:Nat)(e:Nat)(f:Int) :T ((Empty)⊕(cG)) :=
  .leaf (.inr (.r0 a b c d e f))
def cR(a:Int)(b:Int)(d:Nat)(e:List Bool)(f:List (List Int))(g:List Int)(h:Int)(i:Int)(j:Bool)(k:List Int)(l:Int) :Option cG:=lw (aC ((vp a b d e f g h i).run) fun (c,y,m,n,o,p,q) =>
  aC ((vq a b c).run) fun r =>
  aC ((vr j k l c m n o p q r).run) fun (s,t,u,v,w,x) =>
  (Ng s t u v w x).run)
theorem Nh(d:Int)(e:Int)(p:Lv)(q:Lv)(f:Nat)(j:List Bool)(k:List (List Int))(l:List Int)(r:Lv)(m:Int)(n:Int)(s:Lv)(o:List Nat)(g:Lv)(b:Bool)(i:Lv)(a:List Int)(c:Int){x:cG}(h:cR d e f j k l m n b a c=some x) :aj prog dt [] [.int .i64 d,.int .i64 e,.iptr p (.vs [.imm q (.cols f [.cb j,.cns .u64 k,.ci .i64 l]) 3 3 0 f]) 1 0 0,.iptr r (.vs [.int .i64 m,.int .i64 n,.imm s (.fl o) 1 1 0 (List.length o)]) 1 0 0,.iptr g (.vs [.bool false b,.imm i (.ns .u64 a) 1 1 0 (List.length a),.int .i64 c]) 1 0 0] (xt x) :=
  lM false xt Dx h (Sg.cut 2 vo (bo nT (Nd d e g b i a c) [⟨[],[0,320],[0,1,4,7,9,10]⟩]) (fun ⟨t,u,v,w,y,z,A⟩=>Sg.cut 1 vo (bo nT (Ne g b i a c t u v w y z A) [⟨[],[0,1],[4,7,9,10,35]⟩,⟨[],[0,1],[4,7,9,10,35]⟩]) (fun H=>Sg.cut 2 vo (bo nT Nf [⟨[],[0],[7,8]⟩,⟨[],[0],[7,8]⟩]) (fun ⟨I,J,K,L,M,N⟩=>bo nT _ [⟨[],[0],[7,8]⟩]))))
    (fun x=>by cases x with | r0 B C D E F G=>exact lz [.agg [.bool false C,.imm .free (.ns .u64 D) 1 1 E F,.int .i64 G],.int .i64 ((B:Nat):Int)])
def mi:Option cG→Bool
  | some _=>true
  | none=>false
def iX:Option cG→Nat
  | some (.r0 x _ _ _ _ _)=>x
  | _=>0
def mP:Option cG→Bool
  | some (.r0 _ x _ _ _ _)=>x
  | _=>false
def kj:Option cG→List Int
  | some (.r0 _ _ x _ _ _)=>x
  | _=>[]
def km:Option cG→Nat
  | some (.r0 _ _ _ x _ _)=>x
  | _=>0
def ko:Option cG→Nat
  | some (.r0 _ _ _ _ x _)=>x
  | _=>0
def mQ:Option cG→Int
  | some (.r0 _ _ _ _ _ x)=>x
  | _=>0
theorem Ni{x:Option cG}(h:mi x=true) :x=some (.r0 (iX x) (mP x) (kj x) (km x) (ko x) (mQ x)):=by
  unfold mi at h
  split at h<;>first | rfl | (cases h;done) | (rename_i y;cases y;rfl)
def Dy:aE:=bT dt (.cons (.int .i64) (.cons (.int .i64) (.cons (.ivs (.cons (.cols [.cb,.cns .u64,.ci .i64]) .nil) 1 0 0) (.cons (.ivs (.cons (.int .i64) (.cons (.int .i64) (.cons .fl .nil))) 1 0 0) (.cons (.ivs (.cons .bool (.cons (.ns .u64) (.cons (.int .i64) .nil))) 1 0 0) .nil))))) fun t=>(fun q=>[⟨xt (.r0 (iX q) (mP q) (kj q) (km q) (ko q) (mQ q)),[mi q]⟩]) (cR t.1 t.2.1 t.2.2.1.2.1.2.1 t.2.2.1.2.1.2.2.1 t.2.2.1.2.1.2.2.2.1 t.2.2.1.2.1.2.2.2.2.1 t.2.2.2.1.2.1 t.2.2.2.1.2.2.1 t.2.2.2.2.1.2.1 t.2.2.2.2.1.2.2.1.2 t.2.2.2.2.1.2.2.2.1)
theorem Ig:aM prog Dy:=aJ fun t=>(aK (fun h=>Nh t.1 t.2.1 t.2.2.1.1 t.2.2.1.2.1.1 t.2.2.1.2.1.2.1 t.2.2.1.2.1.2.2.1 t.2.2.1.2.1.2.2.2.1 t.2.2.1.2.1.2.2.2.2.1 t.2.2.2.1.1 t.2.2.2.1.2.1 t.2.2.2.1.2.2.1 t.2.2.2.1.2.2.2.1.1 t.2.2.2.1.2.2.2.1.2 t.2.2.2.2.1.1 t.2.2.2.2.1.2.1 t.2.2.2.2.1.2.2.1.1 t.2.2.2.2.1.2.2.1.2 t.2.2.2.2.1.2.2.2.1 (Ni h)) bb)
def Dz:List aE:=Dy::Nc
theorem de:bc prog (bh Dz):=ap Ig nT
end
end Go.Plb.Seat
