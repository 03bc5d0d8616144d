/-
  Part 3 of what the claim leans on: an evaluator of the model, proved sound; the contracts of the functions.
-/
import Derived.Test.YthikcnkmglbbbaaGreatDoorA2
namespace Go.Plb.Seat
open Go Go.Plb
set_option linter.unusedVariables false
set_option maxRecDepth 100000
noncomputable section
inductive cO where
  | r0 (a:Int)
def yT:cO→AE×aQ
  | .r0 a=>(.ret,⟨ao 14 [(2,.int .i64 a)],[],0⟩)
def kP:cO→gX
  | .r0 a=>⟨.int .i64 a,[]⟩
def oA(a:Int) :T ((Empty)⊕(cO)) :=
  .ask (a == (0:Int))
    (.leaf (.inr (.r0 (64:Int))))
    (.need (decide ((0:Int)≤(58:Int)))<|.need (gD (Int.fdiv (IntKind.u64.wrap ((eP .and .u64 a (IntKind.u64.wrap ((0:Int) - a))) * (285870213051353865:Int))) (2 ^ (min (Int.toNat (58:Int)) (IntKind.u64.bits)))) 64)<|.need (im (ko (ko 0 (U0 (Int.toNat (Int.fdiv (IntKind.u64.wrap ((eP .and .u64 a (IntKind.u64.wrap ((0:Int) - a))) * (285870213051353865:Int))) (2 ^ (min (Int.toNat (58:Int)) (IntKind.u64.bits))))) 1)) 0) (List.length bu))<|.leaf (.inr (.r0 (IntKind.i64.wrap (List.getD bu (ko (ko 0 (U0 (Int.toNat (Int.fdiv (IntKind.u64.wrap ((eP .and .u64 a (IntKind.u64.wrap ((0:Int) - a))) * (285870213051353865:Int))) (2 ^ (min (Int.toNat (58:Int)) (IntKind.u64.bits))))) 1)) 0) 0)))))
def dW(a:Int) :Option cO:=jR ((oA a).run)
theorem xR(a:Int){x:cO}(h:dW a=some x) :aw prog o8 [] [.int .u64 a] (kP x) :=
  kp false kP yT h (bk ar0 _ [⟨[],[],[2]⟩,⟨[],[],[2]⟩])
    (fun x=>by cases x with | r0 b=>exact jT [.int .i64 b])
def eQ:Option cO→Bool
  | some _=>true
  | none=>false
def ej:Option cO→Int
  | some (.r0 x)=>x
  | _=>0
theorem xS{x:Option cO}(h:eQ x=true) :x=some (.r0 (ej x)):=by
  unfold eQ at h
  split at h <;> first | rfl | (cases h;done) | (rename_i y;cases y;rfl)
def o9:aL:=bJ o8 (.cons (.int .u64) .nil) fun t=>(fun q=>[⟨kP (.r0 (ej q)),[eQ q]⟩]) (dW t.1)
theorem vO:aV prog o9:=aR fun t=>(aS (fun h=>xR t.1 (xS h)) aZ)
def pa:List aL:=o9 :: L3
theorem jE:bd prog (bf pa):=au vO ar0
inductive eB where
  | r0 (a:Int) (b:Int)
def BN:eB→AE×aQ
  | .r0 a b=>(.ret,⟨ao 51 [(4,.int .u64 a),(5,.int .u64 b)],[],0⟩)
theorem Mo:jC BN:=by intro x;cases x <;> (intro h;cases h)
def t4:eB→gX
  | .r0 a b=>⟨.tup [.int .u64 a,.int .u64 b],[]⟩
def Mp(a:Int)(b:Int) :Int×Int×Int×Int→aQ:=fun (c,d,e,f)=>⟨ao 51 [(0,.int .u64 a),(1,.int .u64 b),(6,.int .u64 c),(7,.int .u64 d),(9,.int .u64 e),(11,.int .u64 f)],[],0⟩
def zO(a:Int)(b:Int) :T ((Int×Int×Int×Int)⊕(eB)) :=
  .need (decide ((0:Int)≤(32:Int)))<|.need (decide ((0:Int)≤(32:Int)))<|.need (decide ((0:Int)≤(32:Int)))<|.leaf (.inl ((eP .and .u64 a (4294967295:Int)),(Int.fdiv a (2 ^ (min (Int.toNat (32:Int)) (IntKind.u64.bits)))),(Int.fdiv b (2 ^ (min (Int.toNat (32:Int)) (IntKind.u64.bits)))),(IntKind.u64.wrap ((IntKind.u64.wrap ((Int.fdiv a (2 ^ (min (Int.toNat (32:Int)) (IntKind.u64.bits)))) * (eP .and .u64 b (4294967295:Int))))+(Int.fdiv (IntKind.u64.wrap ((eP .and .u64 a (4294967295:Int)) * (eP .and .u64 b (4294967295:Int)))) (2 ^ (min (Int.toNat (32:Int)) (IntKind.u64.bits))))))))
def sM(c:Int)(d:Int)(e:Int)(f:Int)(a:Int)(b:Int) :T ((Empty)⊕(eB)) :=
  .need (decide ((0:Int)≤(32:Int)))<|.need (decide ((0:Int)≤(32:Int)))<|.leaf (.inr (.r0 (IntKind.u64.wrap ((IntKind.u64.wrap ((IntKind.u64.wrap (f * a))+(Int.fdiv b (2 ^ (min (Int.toNat (32:Int)) (IntKind.u64.bits))))))+(Int.fdiv (IntKind.u64.wrap ((eP .and .u64 b (4294967295:Int))+(IntKind.u64.wrap (e * a)))) (2 ^ (min (Int.toNat (32:Int)) (IntKind.u64.bits)))))) (IntKind.u64.wrap (c * d))))
def gw(a:Int)(b:Int) :Option eB:=jR (aE ((zO a b).run) fun (c,d,e,f) =>
  (sM a b c d e f).run)
theorem Mq(a:Int)(b:Int){x:eB}(h:gw a b=some x) :aw prog BH [] [.int .u64 a,.int .u64 b] (t4 x) :=
  kp false t4 BN h (Sg.cut 7 Mo (bk jE (Mp a b) [⟨[],[],[0,1,6,7,9,11]⟩]) (fun ⟨e,f,g,i⟩=>bk jE _ [⟨[],[],[4,5]⟩]))
    (fun x=>by cases x with | r0 c d=>exact jT [.int .u64 c,.int .u64 d])
def lF:Option eB→Bool
  | some _=>true
  | none=>false
def ml:Option eB→Int
  | some (.r0 x _)=>x
  | _=>0
def iy:Option eB→Int
  | some (.r0 _ x)=>x
  | _=>0
theorem Mr{x:Option eB}(h:lF x=true) :x=some (.r0 (ml x) (iy x)):=by
  unfold lF at h
  split at h <;> first | rfl | (cases h;done) | (rename_i y;cases y;rfl)
def BO:aL:=bJ BH (.cons (.int .u64) (.cons (.int .u64) .nil)) fun t=>(fun q=>[⟨t4 (.r0 (ml q) (iy q)),[lF q]⟩]) (gw t.1 t.2.1)
theorem HS:aV prog BO:=aR fun t=>(aS (fun h=>Mq t.1 t.2.1 (Mr h)) aZ)
def BP:List aL:=BO :: pa
theorem j4:bd prog (bf BP):=au HS jE
inductive jF where
  | r0 (a:List Int) (b:Nat)
def Fc(a:Lv) :jF→AE×aQ
  | .r0 b c=>(.ret,⟨ao 21 [(2,.imm a (.ns .u64 b) 1 1 0 c)],[],0⟩)
theorem BQ{a:Lv} :jC (Fc a):=by intro x;cases x <;> (intro h;cases h)
theorem ai9{a:Lv}(id:Nat) :m5 id (Fc a):=by intro x;cases x <;> (intro h;cases h)
def Ms(a:Lv) :jF→gX
  | .r0 b c=>⟨.imm a (.ns .u64 b) 1 1 0 c,[]⟩
def aja:List Code:=cP (nO sK)
def ajb(b:Lv)(a:List Int)(_:Unit) :aQ:=⟨ao 21 [(0,.imm b (.ns .u64 a) 1 1 0 (List.length a))],[],0⟩
def ajc:T ((Unit)⊕(jF)) :=
  .leaf (.inl ())
def HT(a:Lv)(b:List Int)(c:Nat) :aQ:=⟨ao 21 [(0,.imm a (.ns .u64 b) 1 1 0 c)],[],0⟩
def R9(a:Lv)(b:List Int)(c:Nat) :aQ:=⟨ao 21 [(0,.imm a (.ns .u64 b) 1 1 0 c)],[],0⟩
def ae0:List Code:=cP (dD ((((aja.drop 1).take 1)).headD .skip))
def ajd(a:Lv)(b:List Int)(c:Nat)(d:Bool) :aQ:=⟨ao 21 [(0,.imm a (.ns .u64 b) 1 1 0 c),(14,.bool false d)],[],0⟩
def ua(b:List Int)(a:Nat) :T ((Bool)⊕((Nat)⊕(jF))) :=
  .ask (decide (((a:Nat):Int) > (0:Int)))
    (.need (dn .i64 (((a:Nat):Int) - (1:Int)))<|.need (gD (((a:Nat):Int) - (1:Int)) a)<|.need (im (Int.toNat (((a:Nat):Int) - (1:Int))) (List.length b))<|.leaf (.inl ((List.getD b (Int.toNat (((a:Nat):Int) - (1:Int))) 0) == (0:Int))))
    (.leaf (.inl false))
def Ol(a:Nat)(b:Bool) :T ((Nat)⊕((Nat)⊕(jF))) :=
  .ask b
    (.need (dn .i64 (((a:Nat):Int) - (1:Int)))<|.need (Ke (((a:Nat):Int) - (1:Int)) a)<|.need (Ke (0:Int) (Int.toNat (((a:Nat):Int) - (1:Int))))<|.leaf (.inl (Int.toNat (((a:Nat):Int) - (1:Int)))))
    (.leaf (.inr (.inl a)))
def Fd(b:List Int) :Nat→Option ((Nat)⊕((Nat)⊕(jF))):=fun a =>
  aE ((ua b a).run) fun c =>
  (Ol a c).run
theorem ae1(a:Lv)(b:List Int)(c:Nat) :Sg prog [] ae0 (HT a b c) (Fd b c) (HT a b) (cL 0 (R9 a b) (Fc a)):=by
  unfold Fd;exact Sg.cut 1 (ay BQ) (bk j4 (ajd a b c) [⟨[],[],[0,14]⟩,⟨[],[],[0,14]⟩]) (fun d=>bk j4 _ [⟨[],[],[0]⟩,⟨[],[],[0]⟩])
def ae2(a:List Int)(b:Nat) :T ((Empty)⊕(jF)) :=
  .leaf (.inr (.r0 a b))
def aJ(a:List Int) :Option jF:=jR (aE ((ajc).run) fun _ =>
  aE (dc (Fd a) (List.length a)) fun b =>
  (ae2 a b).run)
theorem aje(a:Lv)(b:List Int){x:jF}(h:aJ b=some x) :aw prog sK [] [.imm a (.ns .u64 b) 1 1 0 (List.length b)] (Ms a x) :=
  kp false (Ms a) (Fc a) h (Sg.cut 1 BQ (bk j4 (ajb a b) [⟨[],[],[0]⟩]) (fun _=>Sg.cut 1 BQ (BM ⟨[],[],[0]⟩ (HT a b) (R9 a b) 0 BQ (ai9 _) (fun c=>ae1 a b c)) (fun f=>bk j4 _ [⟨[],[],[2]⟩])))
    (fun x=>by cases x with | r0 d e=>exact jT [.imm a (.ns .u64 d) 1 1 0 e])
def cF:Option jF→Bool
  | some _=>true
  | none=>false
def bh:Option jF→List Int
  | some (.r0 x _)=>x
  | _=>[]
def aU:Option jF→Nat
  | some (.r0 _ x)=>x
  | _=>0
theorem ajf{x:Option jF}(h:cF x=true) :x=some (.r0 (bh x) (aU x)):=by
  unfold cF at h
  split at h <;> first | rfl | (cases h;done) | (rename_i y;cases y;rfl)
def VS:aL:=bJ sK (.cons (.ns .u64) .nil) fun t=>(fun q=>[⟨Ms t.1.1 (.r0 (bh q) (aU q)),[cF q]⟩]) (aJ t.1.2)
theorem ZD:aV prog VS:=aR fun t=>(aS (fun h=>aje t.1.1 t.1.2 (ajf h)) aZ)
def VT:List aL:=VS :: BP
theorem Cx:bd prog (bf VT):=au ZD j4
inductive lG where
  | r0 (a:Nat) (b:Nat) (c:List Int)
def VU:lG→AE×aQ
  | .r0 a b c=>(.ret,⟨ao 12 [(2,.sl 0 1 1 0 a a),(3,.int .i64 ((b:Nat):Int))],[(0,.ns .u64 c)],1⟩)
theorem ajg:jC VU:=by intro x;cases x <;> (intro h;cases h)
def Mt:lG→gX
  | .r0 a b c=>⟨.tup [.imm .free (.ns .u64 c) 1 1 0 a,.int .i64 ((b:Nat):Int)],[]⟩
def ajh(a:Lv) :Nat×(List Int)×Nat→aQ:=fun (b,c,d)=>⟨ao 12 [(1,.ptr 0 1 0 0),(4,.int .i64 ((b:Nat):Int))],[(0,.vs [.imm a (.ns .u64 c) 1 1 0 d])],1⟩
def HU(a:List Int) :T ((Nat×(List Int)×Nat)⊕(lG)) :=
  .ask (decide ((0:Int) < (1:Int)))
    (.need (gD (0:Int) 1)<|.need (aP 0 (List.length a) a)<|.need (cF (aJ (ab 0 (List.length a) a)))<|.ask (decide ((((aU (aJ (ab 0 (List.length a) a))):Nat):Int) > (4096:Int)))
      (.leaf (.inl (2,(bh (aJ (ab 0 (List.length a) a))),(aU (aJ (ab 0 (List.length a) a))))))
      (.need (dn .i64 (1:Int))<|.ask (decide ((1:Int) < (1:Int)))
        (.fail)
        (.leaf (.inl (0,(bh (aJ (ab 0 (List.length a) a))),(aU (aJ (ab 0 (List.length a) a))))))))
    (.fail)
def HV(c:Nat)(a:List Int)(b:Nat) :T ((Empty)⊕(lG)) :=
  .ask (((c:Nat):Int) != (0:Int))
    (.leaf (.inr (.r0 0 c ([]:List Int))))
    (.need (aP 0 b a)<|.need (vC (List.length (ab 0 b a)))<|.leaf (.inr (.r0 (List.length (ab 0 b a)) 0 (ab 0 b a))))
def px(a:List Int) :Option lG:=jR (aE ((HU a).run) fun (b,c,d) =>
  (HV b c d).run)
theorem aji(b:Lv)(a:List Int){x:lG}(h:px a=some x) :aw prog Mg [] [.imm b (.ns .u64 a) 1 1 0 (List.length a)] (Mt x) :=
  kp true Mt VU h (Sg.cut 2 ajg (bk Cx (ajh b) [⟨[],[0],[1,4]⟩,⟨[],[0],[1,4]⟩]) (fun ⟨e,f,g⟩=>bk Cx _ [⟨[(.slot 2,.own 1 1 (.ns .u64 ([]:List Int)))],[81],[2,3]⟩,⟨[],[49],[2,3]⟩]))
    (fun x=>by cases x with | r0 c d i=>exact jT [.sl 0 1 1 0 c c,.int .i64 ((d:Nat):Int)])
def xx:Option lG→Bool
  | some _=>true
  | none=>false
def Cy:Option lG→Nat
  | some (.r0 x _ _)=>x
  | _=>0
def Cz:Option lG→Nat
  | some (.r0 _ x _)=>x
  | _=>0
def CA:Option lG→List Int
  | some (.r0 _ _ x)=>x
  | _=>[]
theorem ajj{x:Option lG}(h:xx x=true) :x=some (.r0 (Cy x) (Cz x) (CA x)):=by
  unfold xx at h
  split at h <;> first | rfl | (cases h;done) | (rename_i y;cases y;rfl)
def VV:aL:=bJ Mg (.cons (.ns .u64) .nil) fun t=>(fun q=>[⟨Mt (.r0 (Cy q) (Cz q) (CA q)),[xx q]⟩]) (px t.1.2)
theorem ZE:aV prog VV:=aR fun t=>(aS (fun h=>aji t.1.1 t.1.2 (ajj h)) aZ)
def VW:List aL:=VV :: VT
theorem qJ:bd prog (bf VW):=au ZE Cx
inductive dQ where
  | r0 (a:Nat) (b:Nat) (c:Nat) (d:List Int)
def wJ:dQ→AE×aQ
  | .r0 a b c d=>(.ret,⟨ao 21 [(2,.sl 0 1 1 a b c)],[(0,.ns .u64 d)],1⟩)
theorem ub:jC wJ:=by intro x;cases x <;> (intro h;cases h)
theorem VX(id:Nat) :m5 id wJ:=by intro x;cases x <;> (intro h;cases h)
def CB:dQ→gX
  | .r0 a b c d=>⟨.sl 0 1 1 a b c,[some (.ns .u64 d)]⟩
def VY:List Code:=cP (nO sK)
def VZ(a:List Int)(b:Nat)(c:Nat)(d:Nat)(_:Unit) :aQ:=⟨ao 21 [(0,.sl 0 1 1 b c d)],[(0,.ns .u64 a)],1⟩
def V0:T ((Unit)⊕(dQ)) :=
  .leaf (.inl ())
def zP(a:List Int)(b:Nat) :Nat×Nat→aQ:=fun (c,d)=>⟨ao 21 [(0,.sl 0 1 1 c d b)],[(0,.ns .u64 a)],1⟩
def HW(a:List Int)(b:Nat) :Nat×Nat→aQ:=fun (c,d)=>⟨ao 21 [(0,.sl 0 1 1 c d b)],[(0,.ns .u64 a)],1⟩
def TP:List Code:=cP (dD ((((VY.drop 1).take 1)).headD .skip))
def V1(a:List Int)(b:Nat)(c:Nat)(d:Nat)(e:Bool) :aQ:=⟨ao 21 [(0,.sl 0 1 1 c d b),(14,.bool false e)],[(0,.ns .u64 a)],1⟩
def oB(b:List Int)(c:Nat)(a:Nat) :T ((Bool)⊕((Nat×Nat)⊕(dQ))) :=
  .ask (decide (((a:Nat):Int) > (0:Int)))
    (.need (dn .i64 (((a:Nat):Int) - (1:Int)))<|.need (gD (((a:Nat):Int) - (1:Int)) a)<|.need (im (ko c (Int.toNat (((a:Nat):Int) - (1:Int)))) (List.length b))<|.leaf (.inl ((List.getD b (ko c (Int.toNat (((a:Nat):Int) - (1:Int)))) 0) == (0:Int))))
    (.leaf (.inl false))
def GY(c:Nat)(b:Nat)(a:Nat)(d:Bool) :T ((Nat×Nat)⊕((Nat×Nat)⊕(dQ))) :=
  .ask d
    (.need (dn .i64 (((a:Nat):Int) - (1:Int)))<|.need (Ke (((a:Nat):Int) - (1:Int)) c)<|.need (Ke (0:Int) (Int.toNat (((a:Nat):Int) - (1:Int))))<|.leaf (.inl ((ko b 0),(Int.toNat (((a:Nat):Int) - (1:Int))))))
    (.leaf (.inr (.inl (b,a))))
def xT(c:List Int)(d:Nat) :Nat×Nat→Option ((Nat×Nat)⊕((Nat×Nat)⊕(dQ))):=fun (a,b) =>
  aE ((oB c a b).run) fun e =>
  (GY d a b e).run
theorem TQ(a:List Int)(b:Nat)(c:Nat)(d:Nat) :Sg prog [.ns .u64 a] TP (zP a b (c,d)) (xT a b (c,d)) (zP a b) (cL 0 (HW a b) wJ):=by
  unfold xT;exact Sg.cut 1 (ay ub) (bk qJ (V1 a b c d) [⟨[],[0],[0,14]⟩,⟨[],[0],[0,14]⟩]) (fun e=>bk qJ _ [⟨[],[0],[0]⟩,⟨[],[0],[0]⟩])
def TR(a:List Int)(b:Nat)(c:Nat)(d:Nat) :T ((Empty)⊕(dQ)) :=
  .leaf (.inr (.r0 c d b a))
def bH(a:List Int)(c:Nat)(d:Nat)(b:Nat) :Option dQ:=jR (aE ((V0).run) fun _ =>
  aE (dc (xT a b) (c,d)) fun (e,f) =>
  (TR a b e f).run)
theorem V2(a:List Int)(c:Nat)(d:Nat)(b:Nat){x:dQ}(h:bH a c d b=some x) :aw prog sK [.ns .u64 a] [.sl 0 1 1 c d b] (CB x) :=
  kp false CB wJ h (Sg.cut 1 ub (bk qJ (VZ a c d b) [⟨[],[0],[0]⟩]) (fun _=>Sg.cut 1 ub (BM ⟨[],[0],[0]⟩ (zP a b) (HW a b) 0 ub (VX _) (fun ⟨e,f⟩=>TQ a b e f)) (fun ⟨k,l⟩=>bk qJ _ [⟨[],[0],[2]⟩])))
    (fun x=>by cases x with | r0 g i j m=>exact jT [.sl 0 1 1 g i j])
def j5:Option dQ→Bool
  | some _=>true
  | none=>false
def jG:Option dQ→Nat
  | some (.r0 x _ _ _)=>x
  | _=>0
def jH:Option dQ→Nat
  | some (.r0 _ x _ _)=>x
  | _=>0
def jI:Option dQ→Nat
  | some (.r0 _ _ x _)=>x
  | _=>0
def jJ:Option dQ→List Int
  | some (.r0 _ _ _ x)=>x
  | _=>[]
theorem V3{x:Option dQ}(h:j5 x=true) :x=some (.r0 (jG x) (jH x) (jI x) (jJ x)):=by
  unfold j5 at h
  split at h <;> first | rfl | (cases h;done) | (rename_i y;cases y;rfl)
def Ks:aL:=aiS sK [.ns .u64] (.cons (.lsl 0) .nil) fun x t=>(fun q=>[⟨CB (.r0 (jG q) (jH q) (jI q) (jJ q)),[j5 q]⟩]) (bH x.1 t.1.1 t.1.2.1 t.1.2.2)
theorem QZ:aV prog Ks:=VG fun x t=>(JF (fun h=>V2 x.1 t.1.1 t.1.2.1 t.1.2.2 (V3 h)) VH)
def Kt:List aL:=Ks :: VW
theorem vP:bd prog (bf Kt):=au QZ qJ
inductive oC where
  | r0 (a:Nat) (b:Nat) (c:Nat) (d:List Int)
def ajk:oC→AE×aQ
  | .r0 a b c d=>(.ret,⟨ao 6 [(2,.sl 0 1 1 a b c)],[(0,.ns .u64 d)],1⟩)
theorem ao8:jC ajk:=by intro x;cases x <;> (intro h;cases h)
def V4:oC→gX
  | .r0 a b d c=>⟨.imm .free (.ns .u64 c) 1 1 a b,[]⟩
def ao9:Nat×Nat×Nat×(List Int)→aQ:=fun (a,b,c,d)=>⟨ao 6 [(2,.sl 0 1 1 a b c)],[(0,.ns .u64 d)],1⟩
def adz(a:Int) :T ((Nat×Nat×Nat×(List Int))⊕(oC)) :=
  .need (j5 (bH [a] 0 1 1))<|.leaf (.inl ((jG (bH [a] 0 1 1)),(jH (bH [a] 0 1 1)),(jI (bH [a] 0 1 1)),(jJ (bH [a] 0 1 1))))
def apa(a:Nat)(b:Nat)(c:Nat)(d:List Int) :T ((Empty)⊕(oC)) :=
  .leaf (.inr (.r0 a b c d))
def bW(a:Int) :Option oC:=jR (aE ((adz a).run) fun (b,c,d,e) =>
  (apa b c d e).run)
theorem apb(a:Int){x:oC}(h:bW a=some x) :aw prog VJ [] [.int .u64 a] (V4 x) :=
  kp true V4 ajk h (Sg.cut 2 ao8 (bk vP ao9 [⟨[],[32],[2]⟩]) (fun ⟨e,f,g,i⟩=>bk vP _ [⟨[],[0],[2]⟩]))
    (fun x=>by cases x with | r0 b c d j=>exact jT [.sl 0 1 1 b c d])
def vQ:Option oC→Bool
  | some _=>true
  | none=>false
def dY:Option oC→Nat
  | some (.r0 x _ _ _)=>x
  | _=>0
def dZ:Option oC→Nat
  | some (.r0 _ x _ _)=>x
  | _=>0
def Sa:Option oC→Nat
  | some (.r0 _ _ x _)=>x
  | _=>0
def d4:Option oC→List Int
  | some (.r0 _ _ _ x)=>x
  | _=>[]
theorem apc{x:Option oC}(h:vQ x=true) :x=some (.r0 (dY x) (dZ x) (Sa x) (d4 x)):=by
  unfold vQ at h
  split at h <;> first | rfl | (cases h;done) | (rename_i y;cases y;rfl)
def ajl:aL:=bJ VJ (.cons (.int .u64) .nil) fun t=>(fun q=>[⟨V4 (.r0 (dY q) (dZ q) (Sa q) (d4 q)),[vQ q]⟩]) (bW t.1)
theorem ajm:aV prog ajl:=aR fun t=>(aS (fun h=>apb t.1 (apc h)) aZ)
def ajn:List aL:=ajl :: Kt
theorem BS:bd prog (bf ajn):=au ajm vP
inductive nr where
  | r0 (a:Int)
def JP:nr→AE×aQ
  | .r0 a=>(.ret,⟨ao 45 [(4,.int .i64 a)],[],0⟩)
theorem Mu:jC JP:=by intro x;cases x <;> (intro h;cases h)
theorem amf(id:Nat) :m5 id JP:=by intro x;cases x <;> (intro h;cases h)
def Q0:nr→gX
  | .r0 a=>⟨.int .i64 a,[]⟩
def amg:List Code:=cP (nO QT)
def amh(c:Lv)(a:List Int)(d:Lv)(b:List Int)(e:Int) :aQ:=⟨ao 45 [(0,.imm c (.ns .u64 a) 1 1 0 (List.length a)),(1,.imm d (.ns .u64 b) 1 1 0 (List.length b)),(5,.int .i64 e)],[],0⟩
def Fe(a:List Int)(b:List Int) :T ((Int)⊕(nr)) :=
  .ask (decide ((((List.length a):Nat):Int) < (((List.length b):Nat):Int)))
    (.leaf (.inr (.r0 (-1:Int))))
    (.ask (decide ((((List.length a):Nat):Int) > (((List.length b):Nat):Int)))
      (.leaf (.inr (.r0 (1:Int))))
      (.need (dn .i64 ((((List.length a):Nat):Int) - (1:Int)))<|.leaf (.inl ((((List.length a):Nat):Int) - (1:Int)))))
def Mv(c:Lv)(a:List Int)(d:Lv)(b:List Int)(e:Int) :aQ:=⟨ao 45 [(0,.imm c (.ns .u64 a) 1 1 0 (List.length a)),(1,.imm d (.ns .u64 b) 1 1 0 (List.length b)),(5,.int .i64 e)],[],0⟩
def V5(_:Unit) :aQ:=⟨ao 45 [],[],0⟩
def ami:List Code:=cP (dD ((((amg.drop 3).take 1)).headD .skip))
def zQ(b:List Int)(c:List Int)(a:Int) :T ((Int)⊕((Unit)⊕(nr))) :=
  .ask (decide (a ≥ (0:Int)))
    (.need (gD a (List.length b))<|.need (im (Int.toNat a) (List.length b))<|.need (gD a (List.length c))<|.need (im (Int.toNat a) (List.length c))<|.ask (decide ((List.getD b (Int.toNat a) 0) < (List.getD c (Int.toNat a) 0)))
      (.leaf (.inr (.inr (.r0 (-1:Int)))))
      (.need (gD a (List.length b))<|.need (im (Int.toNat a) (List.length b))<|.need (gD a (List.length c))<|.need (im (Int.toNat a) (List.length c))<|.ask (decide ((List.getD b (Int.toNat a) 0) > (List.getD c (Int.toNat a) 0)))
        (.leaf (.inr (.inr (.r0 (1:Int)))))
        (.need (dn .i64 (a - (1:Int)))<|.leaf (.inl (a - (1:Int))))))
    (.leaf (.inr (.inl ())))
def BT(a:List Int)(b:List Int) :Int→Option ((Int)⊕((Unit)⊕(nr))):=fun c =>
  (zQ a b c).run
theorem ajo(c:Lv)(a:List Int)(d:Lv)(b:List Int)(e:Int) :Sg prog [] ami (Mv c a d b e) (BT a b e) (Mv c a d b) (cL 1 V5 JP):=by
  unfold BT;exact bk BS _ [⟨[],[],[4]⟩,⟨[],[],[4]⟩,⟨[],[],[0,1,5]⟩,⟨[],[],[]⟩]
def ajp:T ((Empty)⊕(nr)) :=
  .leaf (.inr (.r0 (0:Int)))
def vR(a:List Int)(b:List Int) :Option nr:=jR (aE ((Fe a b).run) fun c =>
  aE (dc (BT a b) c) fun _ =>
  (ajp).run)
theorem amj(c:Lv)(a:List Int)(d:Lv)(b:List Int){x:nr}(h:vR a b=some x) :aw prog QT [] [.imm c (.ns .u64 a) 1 1 0 (List.length a),.imm d (.ns .u64 b) 1 1 0 (List.length b)] (Q0 x) :=
  kp false Q0 JP h (Sg.cut 3 Mu (bk BS (amh c a d b) [⟨[],[],[4]⟩,⟨[],[],[4]⟩,⟨[],[],[0,1,5]⟩]) (fun g=>Sg.cut 1 Mu (BM ⟨[],[],[0,1,5]⟩ (Mv c a d b) (V5) 1 Mu (amf _) (fun e=>ajo c a d b e)) (fun _=>bk BS _ [⟨[],[],[4]⟩])))
    (fun x=>by cases x with | r0 f=>exact jT [.int .i64 f])
def zR:Option nr→Bool
  | some _=>true
  | none=>false
def yU:Option nr→Int
  | some (.r0 x)=>x
  | _=>0
theorem amk{x:Option nr}(h:zR x=true) :x=some (.r0 (yU x)):=by
  unfold zR at h
  split at h <;> first | rfl | (cases h;done) | (rename_i y;cases y;rfl)
def adA:aL:=bJ QT (.cons (.ns .u64) (.cons (.ns .u64) .nil)) fun t=>(fun q=>[⟨Q0 (.r0 (yU q)),[zR q]⟩]) (vR t.1.2 t.2.1.2)
theorem ae3:aV prog adA:=aR fun t=>(aS (fun h=>amj t.1.1 t.1.2 t.2.1.1 t.2.1.2 (amk h)) aZ)
def adB:List aL:=adA :: ajn
theorem yV:bd prog (bf adB):=au ae3 BS
inductive nt where
  | r0 (a:Int) (b:Nat)
def adC:nt→AE×aQ
  | .r0 a b=>(.ret,⟨ao 15 [(4,.int .i64 a),(5,.int .i64 ((b:Nat):Int))],[],0⟩)
theorem V6:jC adC:=by intro x;cases x <;> (intro h;cases h)
def Q2:nt→gX
  | .r0 a b=>⟨.tup [.int .i64 a,.int .i64 ((b:Nat):Int)],[]⟩
def aml(a:Lv)(b:Lv) :Nat×(List Int)×Nat×(List Int)×Nat→aQ:=fun (c,d,e,f,g)=>⟨ao 15 [(2,.ptr 0 1 0 0),(3,.ptr 1 1 0 0),(6,.int .i64 ((c:Nat):Int))],[(0,.vs [.imm a (.ns .u64 d) 1 1 0 e]),(1,.vs [.imm b (.ns .u64 f) 1 1 0 g])],2⟩
def V7(a : List Int)(b : List Int) : T ((Nat × (List Int) × Nat × (List Int) × Nat) ⊕ (nt)) :=
  .ask (decide ((0:Int) < (2:Int)))
    (.need (gD (0:Int) 2)<|.need (aP 0 (List.length a) a)<|.need (cF (aJ (ab 0 (List.length a) a)))<|.ask (decide ((((aU (aJ (ab 0 (List.length a) a))):Nat):Int) > (4096:Int)))
      (.leaf (.inl (2,(bh (aJ (ab 0 (List.length a) a))),(aU (aJ (ab 0 (List.length a) a))),b,(List.length b))))
      (.need (dn .i64 (1:Int))<|.ask (decide ((1:Int) < (2:Int)))
        (.need (gD (1:Int) 2)<|.need (aP 0 (List.length b) b)<|.need (cF (aJ (ab 0 (List.length b) b)))<|.ask (decide ((((aU (aJ (ab 0 (List.length b) b))):Nat):Int) > (4096:Int)))
          (.leaf (.inl (2,(bh (aJ (ab 0 (List.length a) a))),(aU (aJ (ab 0 (List.length a) a))),(bh (aJ (ab 0 (List.length b) b))),(aU (aJ (ab 0 (List.length b) b))))))
          (.need (dn .i64 (2:Int))<|.ask (decide ((2:Int) < (2:Int)))
            (.fail)
            (.leaf (.inl (0,(bh (aJ (ab 0 (List.length a) a))),(aU (aJ (ab 0 (List.length a) a))),(bh (aJ (ab 0 (List.length b) b))),(aU (aJ (ab 0 (List.length b) b))))))))
        (.fail)))
    (.fail)
def amm(a:Int) :aQ:=⟨ao 15 [(4,.int .i64 a),(5,.int .i64 (0:Int))],[],0⟩
def V8(e:Nat)(a:List Int)(b:Nat)(c:List Int)(d:Nat) :T ((Int)⊕(nt)) :=
  .ask (((e:Nat):Int) != (0:Int))
    (.leaf (.inr (.r0 (0:Int) e)))
    (.need (aP 0 b a)<|.need (aP 0 d c)<|.need (zR (vR (ab 0 b a) (ab 0 d c)))<|.leaf (.inl (yU (vR (ab 0 b a) (ab 0 d c)))))
def amn(a:Int) :T ((Empty)⊕(nt)) :=
  .leaf (.inr (.r0 a 0))
def vS(a:List Int)(b:List Int) :Option nt:=jR (aE ((V7 a b).run) fun (c,d,e,f,g) =>
  aE ((V8 c d e f g).run) fun h =>
  (amn h).run)
theorem amo(c:Lv)(a:List Int)(d:Lv)(b:List Int){x:nt}(h:vS a b=some x) :aw prog QR [] [.imm c (.ns .u64 a) 1 1 0 (List.length a),.imm d (.ns .u64 b) 1 1 0 (List.length b)] (Q2 x) :=
  kp true Q2 adC h (Sg.cut 2 V6 (bk yV (aml c d) [⟨[],[0,16],[2,3,6]⟩,⟨[],[0,16],[2,3,6]⟩,⟨[],[0,16],[2,3,6]⟩]) (fun ⟨g,i,j,k,l⟩=>Sg.cut 3 V6 (bk yV amm [⟨[],[],[4,5]⟩,⟨[],[],[4,5]⟩]) (fun m=>bk yV _ [⟨[],[],[4,5]⟩])))
    (fun x=>by cases x with | r0 e f=>exact jT [.int .i64 e,.int .i64 ((f:Nat):Int)])
def zS:Option nt→Bool
  | some _=>true
  | none=>false
def yW:Option nt→Int
  | some (.r0 x _)=>x
  | _=>0
def Om:Option nt→Nat
  | some (.r0 _ x)=>x
  | _=>0
theorem amp{x:Option nt}(h:zS x=true) :x=some (.r0 (yW x) (Om x)):=by
  unfold zS at h
  split at h <;> first | rfl | (cases h;done) | (rename_i y;cases y;rfl)
def adD:aL:=bJ QR (.cons (.ns .u64) (.cons (.ns .u64) .nil)) fun t=>(fun q=>[⟨Q2 (.r0 (yW q) (Om q)),[zS q]⟩]) (vS t.1.2 t.2.1.2)
theorem ae4:aV prog adD:=aR fun t=>(aS (fun h=>amo t.1.1 t.1.2 t.2.1.1 t.2.1.2 (amp h)) aZ)
def adE:List aL:=adD :: adB
theorem Ff:bd prog (bf adE):=au ae4 yV
inductive ip where
  | r0 (a:List Int)
  | r1 (b:Nat) (c:Nat) (d:Nat) (e:List Int)
def V9:ip→AE×aQ
  | .r0 a=>(.ret,⟨ao 10 [(2,.nsl),(3,.int .i64 (3:Int))],[(0,.ns .u64 a)],1⟩)
  | .r1 b c d e=>(.ret,⟨ao 10 [(2,.sl 0 1 1 b c d),(3,.int .i64 (0:Int))],[(0,.ns .u64 e)],1⟩)
theorem ajq:jC V9:=by intro x;cases x <;> (intro h;cases h)
def Fg:ip→gX
  | .r0 a=>⟨.tup [.nsl,.int .i64 (3:Int)],[some (.ns .u64 a)]⟩
  | .r1 b c d e=>⟨.tup [.sl 0 1 1 b c d,.int .i64 (0:Int)],[some (.ns .u64 e)]⟩
def ajr:Nat×Nat×Nat×(List Int)→aQ:=fun (a,b,c,d)=>⟨ao 10 [(0,.sl 0 1 1 a b c)],[(0,.ns .u64 d)],1⟩
def Sb(a:List Int)(b:Nat)(c:Nat)(d:Nat) :T ((Nat×Nat×Nat×(List Int))⊕(ip)) :=
  .need (j5 (bH a b c d))<|.leaf (.inl ((jG (bH a b c d)),(jH (bH a b c d)),(jI (bH a b c d)),(jJ (bH a b c d))))
def ajs(c:Nat)(a:Nat)(d:Nat)(b:List Int) :T ((Empty)⊕(ip)) :=
  .ask (decide (((a:Nat):Int) > (4096:Int)))
    (.leaf (.inr (.r0 b)))
    (.leaf (.inr (.r1 c a d b)))
def iq(a:List Int)(b:Nat)(c:Nat)(d:Nat) :Option ip:=jR (aE ((Sb a b c d).run) fun (e,f,g,h) =>
  (ajs e f g h).run)
theorem Sc(a:List Int)(b:Nat)(c:Nat)(d:Nat){x:ip}(h:iq a b c d=some x) :aw prog zL [.ns .u64 a] [.sl 0 1 1 b c d] (Fg x) :=
  kp false Fg V9 h (Sg.cut 2 ajq (bk Ff ajr [⟨[],[0],[0]⟩]) (fun ⟨i,j,k,l⟩=>bk Ff _ [⟨[],[0],[2,3]⟩,⟨[],[0],[2,3]⟩]))
    (fun x=>by cases x with | r0 m=>exact jT [.nsl,.int .i64 (3:Int)] | r1 e f g n=>exact jT [.sl 0 1 1 e f g,.int .i64 (0:Int)])
def xy:Option ip→Bool
  | some (.r0 _)=>true
  | _=>false
def Ku:Option ip→List Int
  | some (.r0 x)=>x
  | _=>[]
theorem ajt{x:Option ip}(h:xy x=true) :x=some (.r0 (Ku x)):=by
  unfold xy at h
  split at h <;> first | rfl | (cases h;done) | (rename_i y;cases y;rfl)
def xz:Option ip→Bool
  | some (.r1 _ _ _ _)=>true
  | _=>false
def wK:Option ip→Nat
  | some (.r1 x _ _ _)=>x
  | _=>0
def wL:Option ip→Nat
  | some (.r1 _ x _ _)=>x
  | _=>0
def wM:Option ip→Nat
  | some (.r1 _ _ x _)=>x
  | _=>0
def wN:Option ip→List Int
  | some (.r1 _ _ _ x)=>x
  | _=>[]
theorem aju{x:Option ip}(h:xz x=true) :x=some (.r1 (wK x) (wL x) (wM x) (wN x)):=by
  unfold xz at h
  split at h <;> first | rfl | (cases h;done) | (rename_i y;cases y;rfl)
def Wa:aL:=aiS zL [.ns .u64] (.cons (.lsl 0) .nil) fun x t=>(fun q=>[⟨Fg (.r0 (Ku q)),[xy q]⟩,⟨Fg (.r1 (wK q) (wL q) (wM q) (wN q)),[xz q]⟩]) (iq x.1 t.1.1 t.1.2.1 t.1.2.2)
theorem ZF:aV prog Wa:=VG fun x t=>(JF (fun h=>Sc x.1 t.1.1 t.1.2.1 t.1.2.2 (ajt h)) (JF (fun h=>Sc x.1 t.1.1 t.1.2.1 t.1.2.2 (aju h)) VH))
def Wb:List aL:=Wa :: adE
theorem kY:bd prog (bf Wb):=au ZF Ff
inductive fU where
  | r0 (a:Nat) (b:Nat) (c:Nat) (d:Nat) (e:List Int)
def JQ:fU→AE×aQ
  | .r0 a b c d e=>(.ret,⟨ao 62 [(4,.sl 0 1 1 a b c),(5,.int .i64 ((d:Nat):Int))],[(0,.ns .u64 e)],1⟩)
theorem sN:jC JQ:=by intro x;cases x <;> (intro h;cases h)
theorem amq(id:Nat) :m5 id JQ:=by intro x;cases x <;> (intro h;cases h)
def Q3:fU→gX
  | .r0 a b e c d=>⟨.tup [.imm .free (.ns .u64 d) 1 1 a b,.int .i64 ((c:Nat):Int)],[]⟩
def ajv:List Code:=cP (nO JH)
def amr(a:Lv)(b:Lv) :Nat×(List Int)×Nat×(List Int)×Nat→aQ:=fun (c,d,e,f,g)=>⟨ao 62 [(2,.ptr 0 1 0 0),(3,.ptr 1 1 0 0),(6,.int .i64 ((c:Nat):Int))],[(0,.vs [.imm a (.ns .u64 d) 1 1 0 e]),(1,.vs [.imm b (.ns .u64 f) 1 1 0 g])],2⟩
def Sd(a : List Int)(b : List Int) : T ((Nat × (List Int) × Nat × (List Int) × Nat) ⊕ (fU)) :=
  .ask (decide ((0:Int) < (2:Int)))
    (.need (gD (0:Int) 2)<|.need (aP 0 (List.length a) a)<|.need (cF (aJ (ab 0 (List.length a) a)))<|.ask (decide ((((aU (aJ (ab 0 (List.length a) a))):Nat):Int) > (4096:Int)))
      (.leaf (.inl (2,(bh (aJ (ab 0 (List.length a) a))),(aU (aJ (ab 0 (List.length a) a))),b,(List.length b))))
      (.need (dn .i64 (1:Int))<|.ask (decide ((1:Int) < (2:Int)))
        (.need (gD (1:Int) 2)<|.need (aP 0 (List.length b) b)<|.need (cF (aJ (ab 0 (List.length b) b)))<|.ask (decide ((((aU (aJ (ab 0 (List.length b) b))):Nat):Int) > (4096:Int)))
          (.leaf (.inl (2,(bh (aJ (ab 0 (List.length a) a))),(aU (aJ (ab 0 (List.length a) a))),(bh (aJ (ab 0 (List.length b) b))),(aU (aJ (ab 0 (List.length b) b))))))
          (.need (dn .i64 (2:Int))<|.ask (decide ((2:Int) < (2:Int)))
            (.fail)
            (.leaf (.inl (0,(bh (aJ (ab 0 (List.length a) a))),(aU (aJ (ab 0 (List.length a) a))),(bh (aJ (ab 0 (List.length b) b))),(aU (aJ (ab 0 (List.length b) b))))))))
        (.fail)))
    (.fail)
def ams:(List Int)×Nat×(List Int)×Nat→aQ:=fun (a,b,c,d)=>⟨ao 62 [(2,.ptr 0 1 0 0),(3,.ptr 1 1 0 0)],[(0,.vs [.imm .lent (.ns .u64 a) 1 1 0 b]),(1,.vs [.imm .lent (.ns .u64 c) 1 1 0 d])],2⟩
def ajw(c:Nat)(d:List Int)(a:Nat)(e:List Int)(b:Nat) :T (((List Int)×Nat×(List Int)×Nat)⊕(fU)) :=
  .ask (((c:Nat):Int) != (0:Int))
    (.leaf (.inr (.r0 0 0 0 c ([]:List Int))))
    (.ask (decide (((a:Nat):Int) < ((b:Nat):Int)))
      (.leaf (.inl (e,b,d,a)))
      (.leaf (.inl (d,a,e,b))))
def amt(c:List Int)(a:Nat)(d:List Int)(e:Nat) :Nat×(List Int)→aQ:=fun (b,f)=>⟨ao 62 [(2,.ptr 0 1 0 0),(3,.ptr 1 1 0 0),(7,.ptr 2 1 0 0),(8,.fn (.func BF) [] [.ptr 2 1 0 0]),(9,.sl 3 1 1 0 b b),(30,.int .i64 ((a:Nat):Int)),(31,.int .i64 (0:Int))],[(0,.vs [.imm .lent (.ns .u64 c) 1 1 0 a]),(1,.vs [.imm .lent (.ns .u64 d) 1 1 0 e]),(2,.vs [.int .u64 (0:Int)]),(3,.ns .u64 f)],4⟩
def HX(a:Nat) :T ((Nat×(List Int))⊕(fU)) :=
  .need (dn .i64 (((a+1):Nat):Int))<|.need (decide ((0:Int)≤(((a+1):Nat):Int)))<|.need (decide ((((a+1):Nat):Int)≤(((a+1):Nat):Int)))<|.need (decide ((8:Int) * (((a+1):Nat):Int)≤140737488355328))<|.need (dn .i64 (((a+1):Nat):Int))<|.leaf (.inl ((a+1),(List.replicate (a+1) (0:Int))))
def Mw(c:List Int)(a:Nat)(d:List Int)(e:Nat)(b:Nat) :Nat×Nat×(List Int)→aQ:=fun (f,g,h)=>⟨ao 62 [(2,.ptr 0 1 0 0),(3,.ptr 1 1 0 0),(7,.ptr 2 1 0 0),(8,.fn (.func BF) [] [.ptr 2 1 0 0]),(9,.sl 3 1 1 0 b b),(30,.int .i64 ((a:Nat):Int)),(31,.int .i64 ((f:Nat):Int))],[(0,.vs [.imm .lent (.ns .u64 c) 1 1 0 a]),(1,.vs [.imm .lent (.ns .u64 d) 1 1 0 e]),(2,.vs [.int .u64 ((g:Nat):Int)]),(3,.ns .u64 h)],4⟩
def Wc(b:List Int)(c:Nat)(a:Nat) :Nat×(List Int)→aQ:=fun (d,e)=>⟨ao 62 [(2,.ptr 0 1 0 0),(7,.ptr 1 1 0 0),(9,.sl 2 1 1 0 a a)],[(0,.vs [.imm .lent (.ns .u64 b) 1 1 0 c]),(1,.vs [.int .u64 ((d:Nat):Int)]),(2,.ns .u64 e)],3⟩
def ajx:List Code:=cP (dD ((((((ajv.drop 2).drop 4).drop 4).take 1)).headD .skip))
def amu(c:List Int)(a:Nat)(d:List Int)(e:Nat)(b:Nat)(f:Nat) :Nat×(List Int)→aQ:=fun (g,h)=>⟨ao 62 [(2,.ptr 0 1 0 0),(3,.ptr 1 1 0 0),(7,.ptr 2 1 0 0),(8,.fn (.func BF) [] [.ptr 2 1 0 0]),(9,.sl 3 1 1 0 b b),(30,.int .i64 ((a:Nat):Int)),(31,.int .i64 ((f:Nat):Int))],[(0,.vs [.imm .lent (.ns .u64 c) 1 1 0 a]),(1,.vs [.imm .lent (.ns .u64 d) 1 1 0 e]),(2,.vs [.int .u64 ((g:Nat):Int)]),(3,.ns .u64 h)],4⟩
def HY(c:List Int)(e:Nat)(f:List Int)(g:Nat)(h:Nat)(a:Nat)(b:Nat)(d:List Int) :T ((Nat×(List Int))⊕((Nat×(List Int))⊕(fU))) :=
  .ask (decide (((a:Nat):Int) < ((e:Nat):Int)))
    (.ask (decide (((a:Nat):Int) < ((g:Nat):Int)))
      (.need (gD ((a:Nat):Int) g)<|.need (im a (List.length f))<|.need (gD ((a:Nat):Int) e)<|.need (im a (List.length c))<|.need (qv b 1)<|.need (gD ((a:Nat):Int) h)<|.need (im a (List.length d))<|.leaf (.inl ((((Int.toNat (List.getD c a 0))+(Int.toNat (List.getD f a 0))+b) / 18446744073709551616),(List.set d a (((((Int.toNat (List.getD c a 0))+(Int.toNat (List.getD f a 0))+b) % 18446744073709551616):Nat):Int)))))
      (.need (gD ((a:Nat):Int) e)<|.need (im a (List.length c))<|.need (qv b 1)<|.need (gD ((a:Nat):Int) h)<|.need (im a (List.length d))<|.leaf (.inl ((((Int.toNat (List.getD c a 0))+0+b) / 18446744073709551616),(List.set d a (((((Int.toNat (List.getD c a 0))+0+b) % 18446744073709551616):Nat):Int))))))
    (.leaf (.inr (.inl (b,d))))
def ajy(a:Nat)(b:Nat)(c:List Int) :T ((Nat×Nat×(List Int))⊕((Nat×(List Int))⊕(fU))) :=
  .need (dn .i64 (((a+1):Nat):Int))<|.leaf (.inl ((a+1),b,c))
def xA(b:List Int)(c:Nat)(d:List Int)(e:Nat)(f:Nat) :Nat×Nat×(List Int)→Option ((Nat×Nat×(List Int))⊕((Nat×(List Int))⊕(fU))):=fun (a,g,h) =>
  aE ((HY b c d e f a g h).run) fun (i,j) =>
  (ajy a i j).run
theorem ajz(a:List Int)(b:Nat)(d:List Int)(e:Nat)(c:Nat)(f:Nat)(g:Nat)(h:List Int) :Sg prog [] ajx (Mw a b d e c (f,g,h)) (xA a b d e c (f,g,h)) (Mw a b d e c) (cL 0 (Wc a b c) JQ):=by
  unfold xA;exact Sg.cut 3 (ay sN) (bk kY (amu a b d e c f) [⟨[],[0,1,2,3],[2,3,7,8,9,30,31]⟩,⟨[],[0,1,2,3],[2,3,7,8,9,30,31]⟩,⟨[],[0,2,3],[2,7,9]⟩]) (fun ⟨i,j⟩=>bk kY _ [⟨[],[0,1,2,3],[2,3,7,8,9,30,31]⟩])
def ajA:Nat×Nat×Nat×Nat×(List Int)→aQ:=fun (a,b,c,d,e)=>⟨ao 62 [(4,.sl 0 1 1 a b c),(5,.int .i64 ((d:Nat):Int))],[(0,.ns .u64 e)],1⟩
def HZ(b:Nat)(a:Nat)(d:Nat)(c:List Int) :T ((Nat×Nat×Nat×Nat×(List Int))⊕(fU)) :=
  .need (gD ((b:Nat):Int) a)<|.need (im b (List.length c))<|.alt 0
    (.need (xy (iq (List.set c b ((d:Nat):Int)) 0 a a))<|.leaf (.inl (0,0,0,3,([]:List Int))))
    (.alt 1
      (.need (xz (iq (List.set c b ((d:Nat):Int)) 0 a a))<|.leaf (.inl ((wK (iq (List.set c b ((d:Nat):Int)) 0 a a)),(wL (iq (List.set c b ((d:Nat):Int)) 0 a a)),(wM (iq (List.set c b ((d:Nat):Int)) 0 a a)),0,(wN (iq (List.set c b ((d:Nat):Int)) 0 a a)))))
      (.fail))
def Se(a:Nat)(b:Nat)(c:Nat)(d:Nat)(e:List Int) :T ((Empty)⊕(fU)) :=
  .leaf (.inr (.r0 a b c d e))
def ct(c:List Int)(d:List Int) :Option fU:=jR (aE ((Sd c d).run) fun (e,f,g,h,i) =>
  aE ((ajw e f g h i).run) fun (j,a,k,l) =>
  aE ((HX a).run) fun (b,m) =>
  aE (dc (xA j a k l b) (0,0,m)) fun (n,o) =>
  aE ((HZ a b n o).run) fun (p,q,r,s,t) =>
  (Se p q r s t).run)
theorem amv(i:Lv)(c:List Int)(j:Lv)(d:List Int){x:fU}(h:ct c d=some x) :aw prog JH [] [.imm i (.ns .u64 c) 1 1 0 (List.length c),.imm j (.ns .u64 d) 1 1 0 (List.length d)] (Q3 x) :=
  kp true Q3 JQ h (Sg.cut 2 sN (bk kY (amr i j) [⟨[],[0,16],[2,3,6]⟩,⟨[],[0,16],[2,3,6]⟩,⟨[],[0,16],[2,3,6]⟩]) (fun ⟨r,s,t,u,v⟩=>Sg.cut 4 sN (bk kY ams [⟨[(.slot 4,.own 1 1 (.ns .u64 ([]:List Int)))],[82],[4,5]⟩,⟨[(.cell 0 0,.low),(.cell 1 0,.low)],[0,1],[2,3]⟩,⟨[(.cell 0 0,.low),(.cell 1 0,.low)],[0,1],[2,3]⟩]) (fun ⟨a,b,e,f⟩=>Sg.cut 4 sN (bk kY (amt a b e f) [⟨[],[0,1,2,114],[2,3,7,8,9,30,31]⟩]) (fun ⟨g,w⟩=>Sg.cut 1 sN (BM ⟨[],[0,1,2,3],[2,3,7,8,9,30,31]⟩ (Mw a b e f g) (Wc a b g) 0 sN (amq _) (fun ⟨k,l,m⟩=>ajz a b e f g k l m)) (fun ⟨y,z⟩=>Sg.cut 2 sN (bk kY ajA [⟨[(.slot 4,.own 1 1 (.ns .u64 ([]:List Int)))],[195],[4,5]⟩,⟨[],[2],[4,5]⟩]) (fun ⟨A,B,C,D,E⟩=>bk kY _ [⟨[],[0],[4,5]⟩]))))))
    (fun x=>by cases x with | r0 n o p q F=>exact jT [.sl 0 1 1 n o p,.int .i64 ((q:Nat):Int)])
def zT:Option fU→Bool
  | some _=>true
  | none=>false
def iP:Option fU→Nat
  | some (.r0 x _ _ _ _)=>x
  | _=>0
def iQ:Option fU→Nat
  | some (.r0 _ x _ _ _)=>x
  | _=>0
def On:Option fU→Nat
  | some (.r0 _ _ x _ _)=>x
  | _=>0
def jU:Option fU→Nat
  | some (.r0 _ _ _ x _)=>x
  | _=>0
def iR:Option fU→List Int
  | some (.r0 _ _ _ _ x)=>x
  | _=>[]
theorem amw{x:Option fU}(h:zT x=true) :x=some (.r0 (iP x) (iQ x) (On x) (jU x) (iR x)):=by
  unfold zT at h
  split at h <;> first | rfl | (cases h;done) | (rename_i y;cases y;rfl)
def adF:aL:=bJ JH (.cons (.ns .u64) (.cons (.ns .u64) .nil)) fun t=>(fun q=>[⟨Q3 (.r0 (iP q) (iQ q) (On q) (jU q) (iR q)),[zT q]⟩]) (ct t.1.2 t.2.1.2)
theorem ae5:aV prog adF:=aR fun t=>(aS (fun h=>amv t.1.1 t.1.2 t.2.1.1 t.2.1.2 (amw h)) aZ)
def adG:List aL:=adF :: Wb
theorem p8:bd prog (bf adG):=au ae5 kY
inductive jd where
  | r0 (a:Nat) (b:Nat) (c:Nat) (d:List Int)
def JR:jd→AE×aQ
  | .r0 a b c d=>(.ret,⟨ao 40 [(4,.sl 0 1 1 a b c)],[(0,.ns .u64 d)],1⟩)
theorem zU:jC JR:=by intro x;cases x <;> (intro h;cases h)
theorem amx(id:Nat) :m5 id JR:=by intro x;cases x <;> (intro h;cases h)
def Q4:jd→gX
  | .r0 a b d c=>⟨.imm .free (.ns .u64 c) 1 1 a b,[]⟩
def ajB:List Code:=cP (nO JK)
def amy(d:Lv)(a:List Int)(e:Lv)(b:List Int) :Nat×(List Int)→aQ:=fun (c,f)=>⟨ao 40 [(0,.imm d (.ns .u64 a) 1 1 0 (List.length a)),(1,.imm e (.ns .u64 b) 1 1 0 (List.length b)),(5,.sl 0 1 1 0 c c),(6,.int .u64 (0:Int)),(12,.int .i64 (((List.length a):Nat):Int)),(13,.int .i64 (0:Int))],[(0,.ns .u64 f)],1⟩
def Sf(a:List Int) :T ((Nat×(List Int))⊕(jd)) :=
  .need (aP 0 (List.length a) a)<|.need (vC (List.length (ab 0 (List.length a) a)))<|.leaf (.inl ((List.length (ab 0 (List.length a) a)),(ab 0 (List.length a) a)))
def Mx(d:Lv)(a:List Int)(e:Lv)(b:List Int)(c:Nat) :Int×Nat×(List Int)→aQ:=fun (f,g,h)=>⟨ao 40 [(0,.imm d (.ns .u64 a) 1 1 0 (List.length a)),(1,.imm e (.ns .u64 b) 1 1 0 (List.length b)),(5,.sl 0 1 1 0 c c),(6,.int .u64 f),(12,.int .i64 (((List.length a):Nat):Int)),(13,.int .i64 ((g:Nat):Int))],[(0,.ns .u64 h)],1⟩
def We(a:Nat)(b:(List Int)) :aQ:=⟨ao 40 [(5,.sl 0 1 1 0 a a)],[(0,.ns .u64 b)],1⟩
def ajC:List Code:=cP (dD ((((ajB.drop 4).take 1)).headD .skip))
def amz(d:Lv)(a:List Int)(e:Lv)(b:List Int)(c:Nat)(f:Nat) :Int×(List Int)→aQ:=fun (g,h)=>⟨ao 40 [(0,.imm d (.ns .u64 a) 1 1 0 (List.length a)),(1,.imm e (.ns .u64 b) 1 1 0 (List.length b)),(5,.sl 0 1 1 0 c c),(6,.int .u64 g),(12,.int .i64 (((List.length a):Nat):Int)),(13,.int .i64 ((f:Nat):Int))],[(0,.ns .u64 h)],1⟩
def H0(b:List Int)(d:List Int)(f:Nat)(c:Int)(a:Nat)(e:List Int) :T ((Int×(List Int))⊕(((List Int))⊕(jd))) :=
  .ask (decide (((a:Nat):Int) < (((List.length b):Nat):Int)))
    (.ask (decide (((a:Nat):Int) < (((List.length d):Nat):Int)))
      (.need (gD ((a:Nat):Int) (List.length d))<|.need (im a (List.length d))<|.need (gD ((a:Nat):Int) (List.length b))<|.need (im a (List.length b))<|.need (qv (Int.toNat c) 1)<|.need (gD ((a:Nat):Int) f)<|.need (im a (List.length e))<|.leaf (.inl ((bif Nat.blt (Int.toNat (List.getD b a 0)) ((Int.toNat (List.getD d a 0))+(Int.toNat c)) then (1:Int) else (0:Int)),(List.set e a (((((Int.toNat (List.getD b a 0))+18446744073709551616 - (Int.toNat (List.getD d a 0)) - (Int.toNat c)) % 18446744073709551616):Nat):Int)))))
      (.need (gD ((a:Nat):Int) (List.length b))<|.need (im a (List.length b))<|.need (qv (Int.toNat c) 1)<|.need (gD ((a:Nat):Int) f)<|.need (im a (List.length e))<|.leaf (.inl ((bif Nat.blt (Int.toNat (List.getD b a 0)) (0+(Int.toNat c)) then (1:Int) else (0:Int)),(List.set e a (((((Int.toNat (List.getD b a 0))+18446744073709551616 - 0 - (Int.toNat c)) % 18446744073709551616):Nat):Int))))))
    (.leaf (.inr (.inl e)))
def ajD(a:Nat)(b:Int)(c:List Int) :T ((Int×Nat×(List Int))⊕(((List Int))⊕(jd))) :=
  .need (dn .i64 (((a+1):Nat):Int))<|.leaf (.inl (b,(a+1),c))
def H3(b:List Int)(c:List Int)(d:Nat) :Int×Nat×(List Int)→Option ((Int×Nat×(List Int))⊕(((List Int))⊕(jd))):=fun (e,a,f) =>
  aE ((H0 b c d e a f).run) fun (g,h) =>
  (ajD a g h).run
theorem ajE(d:Lv)(b:List Int)(e:Lv)(c:List Int)(a:Nat)(g:Int)(f:Nat)(h:List Int) :Sg prog [] ajC (Mx d b e c a (g,f,h)) (H3 b c a (g,f,h)) (Mx d b e c a) (cL 0 (We a) JR):=by
  unfold H3;exact Sg.cut 3 (ay zU) (bk p8 (amz d b e c a f) [⟨[],[0],[0,1,5,6,12,13]⟩,⟨[],[0],[0,1,5,6,12,13]⟩,⟨[],[0],[5]⟩]) (fun ⟨i,j⟩=>bk p8 _ [⟨[],[0],[0,1,5,6,12,13]⟩])
def ajF:Nat×Nat×Nat×(List Int)→aQ:=fun (a,b,c,d)=>⟨ao 40 [(4,.sl 0 1 1 a b c)],[(0,.ns .u64 d)],1⟩
def Sh(a:Nat)(b:List Int) :T ((Nat×Nat×Nat×(List Int))⊕(jd)) :=
  .need (j5 (bH b 0 a a))<|.leaf (.inl ((jG (bH b 0 a a)),(jH (bH b 0 a a)),(jI (bH b 0 a a)),(jJ (bH b 0 a a))))
def ajG(a:Nat)(b:Nat)(c:Nat)(d:List Int) :T ((Empty)⊕(jd)) :=
  .leaf (.inr (.r0 a b c d))
def vT(a:List Int)(c:List Int) :Option jd:=jR (aE ((Sf a).run) fun (b,d) =>
  aE (dc (H3 a c b) ((0:Int),0,d)) fun e =>
  aE ((Sh b e).run) fun (f,g,h,i) =>
  (ajG f g h i).run)
theorem amA(c:Lv)(a:List Int)(d:Lv)(b:List Int){x:jd}(h:vT a b=some x) :aw prog JK [] [.imm c (.ns .u64 a) 1 1 0 (List.length a),.imm d (.ns .u64 b) 1 1 0 (List.length b)] (Q4 x) :=
  kp true Q4 JR h (Sg.cut 4 zU (bk p8 (amy c a d b) [⟨[],[32],[0,1,5,6,12,13]⟩]) (fun ⟨e,m⟩=>Sg.cut 1 zU (BM ⟨[],[0],[0,1,5,6,12,13]⟩ (Mx c a d b e) (We e) 0 zU (amx _) (fun ⟨f,g,i⟩=>ajE c a d b e f g i)) (fun n=>Sg.cut 1 zU (bk p8 ajF [⟨[],[0],[4]⟩]) (fun ⟨o,p,q,r⟩=>bk p8 _ [⟨[],[0],[4]⟩]))))
    (fun x=>by cases x with | r0 j k l s=>exact jT [.sl 0 1 1 j k l])
def Fh:Option jd→Bool
  | some _=>true
  | none=>false
def Fi:Option jd→Nat
  | some (.r0 x _ _ _)=>x
  | _=>0
def Fj:Option jd→Nat
  | some (.r0 _ x _ _)=>x
  | _=>0
def Oo:Option jd→Nat
  | some (.r0 _ _ x _)=>x
  | _=>0
def Fk:Option jd→List Int
  | some (.r0 _ _ _ x)=>x
  | _=>[]
theorem amB{x:Option jd}(h:Fh x=true) :x=some (.r0 (Fi x) (Fj x) (Oo x) (Fk x)):=by
  unfold Fh at h
  split at h <;> first | rfl | (cases h;done) | (rename_i y;cases y;rfl)
def adH:aL:=bJ JK (.cons (.ns .u64) (.cons (.ns .u64) .nil)) fun t=>(fun q=>[⟨Q4 (.r0 (Fi q) (Fj q) (Oo q) (Fk q)),[Fh q]⟩]) (vT t.1.2 t.2.1.2)
theorem ae6:aV prog adH:=aR fun t=>(aS (fun h=>amA t.1.1 t.1.2 t.2.1.1 t.2.1.2 (amB h)) aZ)
def adI:List aL:=adH :: adG
theorem uc:bd prog (bf adI):=au ae6 p8
inductive kt where
  | r0 (a:List Int) (b:Nat) (c:Nat) (d:Nat)
def adJ:kt→AE×aQ
  | .r0 a b c d=>(.ret,⟨ao 20 [(4,.imm .free (.ns .u64 a) 1 1 b c),(5,.int .i64 ((d:Nat):Int))],[],0⟩)
theorem My:jC adJ:=by intro x;cases x <;> (intro h;cases h)
def Q5:kt→gX
  | .r0 a b c d=>⟨.tup [.imm .free (.ns .u64 a) 1 1 b c,.int .i64 ((d:Nat):Int)],[]⟩
def amC(a:Lv)(b:Lv) :Nat×(List Int)×Nat×(List Int)×Nat→aQ:=fun (c,d,e,f,g)=>⟨ao 20 [(2,.ptr 0 1 0 0),(3,.ptr 1 1 0 0),(6,.int .i64 ((c:Nat):Int))],[(0,.vs [.imm a (.ns .u64 d) 1 1 0 e]),(1,.vs [.imm b (.ns .u64 f) 1 1 0 g])],2⟩
def Wf(a : List Int)(b : List Int) : T ((Nat × (List Int) × Nat × (List Int) × Nat) ⊕ (kt)) :=
  .ask (decide ((0:Int) < (2:Int)))
    (.need (gD (0:Int) 2)<|.need (aP 0 (List.length a) a)<|.need (cF (aJ (ab 0 (List.length a) a)))<|.ask (decide ((((aU (aJ (ab 0 (List.length a) a))):Nat):Int) > (4096:Int)))
      (.leaf (.inl (2,(bh (aJ (ab 0 (List.length a) a))),(aU (aJ (ab 0 (List.length a) a))),b,(List.length b))))
      (.need (dn .i64 (1:Int))<|.ask (decide ((1:Int) < (2:Int)))
        (.need (gD (1:Int) 2)<|.need (aP 0 (List.length b) b)<|.need (cF (aJ (ab 0 (List.length b) b)))<|.ask (decide ((((aU (aJ (ab 0 (List.length b) b))):Nat):Int) > (4096:Int)))
          (.leaf (.inl (2,(bh (aJ (ab 0 (List.length a) a))),(aU (aJ (ab 0 (List.length a) a))),(bh (aJ (ab 0 (List.length b) b))),(aU (aJ (ab 0 (List.length b) b))))))
          (.need (dn .i64 (2:Int))<|.ask (decide ((2:Int) < (2:Int)))
            (.fail)
            (.leaf (.inl (0,(bh (aJ (ab 0 (List.length a) a))),(aU (aJ (ab 0 (List.length a) a))),(bh (aJ (ab 0 (List.length b) b))),(aU (aJ (ab 0 (List.length b) b))))))))
        (.fail)))
    (.fail)
def amD(a:Lv)(b:Lv)(c:List Int)(d:Nat)(e:List Int)(f:Nat)(g:Bool) :aQ:=⟨ao 20 [(2,.ptr 0 1 0 0),(3,.ptr 1 1 0 0),(16,.bool false g)],[(0,.vs [.imm a (.ns .u64 c) 1 1 0 d]),(1,.vs [.imm b (.ns .u64 e) 1 1 0 f])],2⟩
def Wg(e:Nat)(a:List Int)(b:Nat)(c:List Int)(d:Nat) :T ((Bool)⊕(kt)) :=
  .ask (((e:Nat):Int) != (0:Int))
    (.leaf (.inl true))
    (.need (aP 0 b a)<|.need (aP 0 d c)<|.need (zR (vR (ab 0 b a) (ab 0 d c)))<|.leaf (.inl (decide ((yU (vR (ab 0 b a) (ab 0 d c))) < (0:Int)))))
def amE:(List Int)×Nat×Nat→aQ:=fun (a,b,c)=>⟨ao 20 [(4,.imm .free (.ns .u64 a) 1 1 b c),(5,.int .i64 (0:Int))],[],0⟩
def Wh(a:List Int)(b:Nat)(c:List Int)(d:Nat)(e:Bool) :T (((List Int)×Nat×Nat)⊕(kt)) :=
  .ask e
    (.leaf (.inr (.r0 ([]:List Int) 0 0 2)))
    (.need (aP 0 b a)<|.need (aP 0 d c)<|.need (Fh (vT (ab 0 b a) (ab 0 d c)))<|.leaf (.inl ((Fk (vT (ab 0 b a) (ab 0 d c))),(Fi (vT (ab 0 b a) (ab 0 d c))),(Fj (vT (ab 0 b a) (ab 0 d c))))))
def amF(a:List Int)(b:Nat)(c:Nat) :T ((Empty)⊕(kt)) :=
  .leaf (.inr (.r0 a b c 0))
def bZ(e:List Int)(f:List Int) :Option kt:=jR (aE ((Wf e f).run) fun (g,a,b,c,d) =>
  aE ((Wg g a b c d).run) fun h =>
  aE ((Wh a b c d h).run) fun (i,j,k) =>
  (amF i j k).run)
theorem amG(a:Lv)(b:List Int)(c:Lv)(d:List Int){x:kt}(h:bZ b d=some x) :aw prog QS [] [.imm a (.ns .u64 b) 1 1 0 (List.length b),.imm c (.ns .u64 d) 1 1 0 (List.length d)] (Q5 x) :=
  kp true Q5 adJ h (Sg.cut 2 My (bk uc (amC a c) [⟨[],[0,16],[2,3,6]⟩,⟨[],[0,16],[2,3,6]⟩,⟨[],[0,16],[2,3,6]⟩]) (fun ⟨n,e,f,g,i⟩=>Sg.cut 1 My (bk uc (amD a c e f g i) [⟨[],[0,1],[2,3,16]⟩,⟨[],[0,1],[2,3,16]⟩]) (fun o=>Sg.cut 2 My (bk uc amE [⟨[(.slot 4,.fre 1 1 (.ns .u64 ([]:List Int)))],[],[4,5]⟩,⟨[],[],[4,5]⟩]) (fun ⟨p,q,r⟩=>bk uc _ [⟨[],[],[4,5]⟩]))))
    (fun x=>by cases x with | r0 j k l m=>exact jT [.imm .free (.ns .u64 j) 1 1 k l,.int .i64 ((m:Nat):Int)])
def vU:Option kt→Bool
  | some _=>true
  | none=>false
def gZ:Option kt→List Int
  | some (.r0 x _ _ _)=>x
  | _=>[]
def g5:Option kt→Nat
  | some (.r0 _ x _ _)=>x
  | _=>0
def g6:Option kt→Nat
  | some (.r0 _ _ x _)=>x
  | _=>0
def iS:Option kt→Nat
  | some (.r0 _ _ _ x)=>x
  | _=>0
theorem amH{x:Option kt}(h:vU x=true) :x=some (.r0 (gZ x) (g5 x) (g6 x) (iS x)):=by
  unfold vU at h
  split at h <;> first | rfl | (cases h;done) | (rename_i y;cases y;rfl)
def adK:aL:=bJ QS (.cons (.ns .u64) (.cons (.ns .u64) .nil)) fun t=>(fun q=>[⟨Q5 (.r0 (gZ q) (g5 q) (g6 q) (iS q)),[vU q]⟩]) (bZ t.1.2 t.2.1.2)
theorem ae7:aV prog adK:=aR fun t=>(aS (fun h=>amG t.1.1 t.1.2 t.2.1.1 t.2.1.2 (amH h)) aZ)
def adL:List aL:=adK :: adI
theorem ud:bd prog (bf adL):=au ae7 uc
inductive lp where
  | r0 (a:Int) (b:List Int)
def JS:lp→AE×aQ
  | .r0 a b=>(.ret,⟨ao 52 [(6,.int .u64 a)],[(0,.ns .u64 b)],1⟩)
theorem Fl:jC JS:=by intro x;cases x <;> (intro h;cases h)
theorem amI(id:Nat) :m5 id JS:=by intro x;cases x <;> (intro h;cases h)
def Q6:lp→gX
  | .r0 a b=>⟨.int .u64 a,[some (.ns .u64 b)]⟩
def ajH:List Code:=cP (nO JI)
def amJ(b:List Int)(c:Nat)(d:Nat)(e:Nat)(f:Lv)(a:List Int)(g:Int)(_:Unit) :aQ:=⟨ao 52 [(0,.sl 0 1 1 c d e),(1,.imm f (.ns .u64 a) 1 1 0 (List.length a)),(2,.int .u64 g),(7,.int .u64 (0:Int)),(13,.int .i64 (((List.length a):Nat):Int)),(14,.int .i64 (0:Int))],[(0,.ns .u64 b)],1⟩
def ajI:T ((Unit)⊕(lp)) :=
  .leaf (.inl ())
def Mz(b:Nat)(c:Nat)(d:Nat)(e:Lv)(a:List Int)(f:Int) :Int×Nat×(List Int)→aQ:=fun (g,h,i)=>⟨ao 52 [(0,.sl 0 1 1 b c d),(1,.imm e (.ns .u64 a) 1 1 0 (List.length a)),(2,.int .u64 f),(7,.int .u64 g),(13,.int .i64 (((List.length a):Nat):Int)),(14,.int .i64 ((h:Nat):Int))],[(0,.ns .u64 i)],1⟩
def Wi:Int×(List Int)→aQ:=fun (a,b)=>⟨ao 52 [(7,.int .u64 a)],[(0,.ns .u64 b)],1⟩
def ajJ:List Code:=cP (dD ((((ajH.drop 3).take 1)).headD .skip))
def amK(b:Nat)(c:Nat)(d:Nat)(e:Lv)(a:List Int)(f:Int)(g:Nat) :Int×(List Int)→aQ:=fun (h,i)=>⟨ao 52 [(0,.sl 0 1 1 b c d),(1,.imm e (.ns .u64 a) 1 1 0 (List.length a)),(2,.int .u64 f),(7,.int .u64 h),(13,.int .i64 (((List.length a):Nat):Int)),(14,.int .i64 ((g:Nat):Int))],[(0,.ns .u64 i)],1⟩
def xB(d:Nat)(g:Nat)(b:List Int)(e:Int)(f:Int)(a:Nat)(c:List Int) :T ((Int×(List Int))⊕((Int×(List Int))⊕(lp))) :=
  .ask (decide (((a:Nat):Int) < (((List.length b):Nat):Int)))
    (.need (gD ((a:Nat):Int) (List.length b))<|.need (im a (List.length b))<|.need (lF (gw (List.getD b a 0) e))<|.need (qv 0 1)<|.need (gD ((a:Nat):Int) g)<|.need (im (ko d a) (List.length c))<|.need (qv 0 1)<|.need (gD ((a:Nat):Int) g)<|.need (im (ko d a) (List.length c))<|.leaf (.inl ((IntKind.u64.wrap ((IntKind.u64.wrap ((ml (gw (List.getD b a 0) e))+(((((Int.toNat (iy (gw (List.getD b a 0) e)))+(Int.toNat f)+0) / 18446744073709551616):Nat):Int)))+(((((Int.toNat (List.getD c (ko d a) 0))+(((Int.toNat (iy (gw (List.getD b a 0) e)))+(Int.toNat f)+0) % 18446744073709551616)+0) / 18446744073709551616):Nat):Int))),(List.set c (ko d a) (((((Int.toNat (List.getD c (ko d a) 0))+(((Int.toNat (iy (gw (List.getD b a 0) e)))+(Int.toNat f)+0) % 18446744073709551616)+0) % 18446744073709551616):Nat):Int)))))
    (.leaf (.inr (.inl (f,c))))
def ajK(a:Nat)(b:Int)(c:List Int) :T ((Int×Nat×(List Int))⊕((Int×(List Int))⊕(lp))) :=
  .need (dn .i64 (((a+1):Nat):Int))<|.leaf (.inl (b,(a+1),c))
def H4(b:Nat)(c:Nat)(d:List Int)(e:Int) :Int×Nat×(List Int)→Option ((Int×Nat×(List Int))⊕((Int×(List Int))⊕(lp))):=fun (f,a,g) =>
  aE ((xB b c d e f a g).run) fun (h,i) =>
  (ajK a h i).run
theorem ajL(j:List Int)(a:Nat)(b:Nat)(e:Nat)(f:Lv)(c:List Int)(d:Int)(h:Int)(g:Nat)(i:List Int) :Sg prog [.ns .u64 j] ajJ (Mz a b e f c d (h,g,i)) (H4 a b c d (h,g,i)) (Mz a b e f c d) (cL 0 Wi JS):=by
  unfold H4;exact Sg.cut 3 (ay Fl) (bk ud (amK a b e f c d g) [⟨[],[0],[0,1,2,7,13,14]⟩,⟨[],[0],[7]⟩]) (fun ⟨k,l⟩=>bk ud _ [⟨[],[0],[0,1,2,7,13,14]⟩])
def ajM(a:Int)(b:List Int) :T ((Empty)⊕(lp)) :=
  .leaf (.inr (.r0 a b))
def vV(a:List Int)(b:Nat)(c:Nat)(d:List Int)(e:Int) :Option lp:=jR (aE ((ajI).run) fun _ =>
  aE (dc (H4 b c d e) ((0:Int),0,a)) fun (f,g) =>
  (ajM f g).run)
theorem amL(e:List Int)(b:Nat)(c:Nat)(f:Nat)(g:Lv)(a:List Int)(d:Int){x:lp}(h:vV e b c a d=some x) :aw prog JI [.ns .u64 e] [.sl 0 1 1 b c f,.imm g (.ns .u64 a) 1 1 0 (List.length a),.int .u64 d] (Q6 x) :=
  kp false Q6 JS h (Sg.cut 3 Fl (bk ud (amJ e b c f g a d) [⟨[],[0],[0,1,2,7,13,14]⟩]) (fun _=>Sg.cut 1 Fl (BM ⟨[],[0],[0,1,2,7,13,14]⟩ (Mz b c f g a d) (Wi) 0 Fl (amI _) (fun ⟨i,j,k⟩=>ajL e b c f g a d i j k)) (fun ⟨m,n⟩=>bk ud _ [⟨[],[0],[6]⟩])))
    (fun x=>by cases x with | r0 l o=>exact jT [.int .u64 l])
def zV:Option lp→Bool
  | some _=>true
  | none=>false
def yX:Option lp→Int
  | some (.r0 x _)=>x
  | _=>0
def ue:Option lp→List Int
  | some (.r0 _ x)=>x
  | _=>[]
theorem amM{x:Option lp}(h:zV x=true) :x=some (.r0 (yX x) (ue x)):=by
  unfold zV at h
  split at h <;> first | rfl | (cases h;done) | (rename_i y;cases y;rfl)
def adM:aL:=aiS JI [.ns .u64] (.cons (.lsl 0) (.cons (.ns .u64) (.cons (.int .u64) .nil))) fun x t=>(fun q=>[⟨Q6 (.r0 (yX q) (ue q)),[zV q]⟩]) (vV x.1 t.1.1 t.1.2.1 t.2.1.2 t.2.2.1)
theorem ae8:aV prog adM:=VG fun x t=>(JF (fun h=>amL x.1 t.1.1 t.1.2.1 t.1.2.2 t.2.1.1 t.2.1.2 t.2.2.1 (amM h)) VH)
def adN:List aL:=adM :: adL
theorem mn:bd prog (bf adN):=au ae8 ud
inductive fW where
  | r0 (a:Nat) (b:Nat) (c:Nat) (d:Nat) (e:List Int)
def JT:fW→AE×aQ
  | .r0 a b c d e=>(.ret,⟨ao 61 [(4,.sl 0 1 1 a b c),(5,.int .i64 ((d:Nat):Int))],[(0,.ns .u64 e)],1⟩)
theorem sO:jC JT:=by intro x;cases x <;> (intro h;cases h)
theorem amN(id:Nat) :m5 id JT:=by intro x;cases x <;> (intro h;cases h)
def Q7:fW→gX
  | .r0 a b e c d=>⟨.tup [.imm .free (.ns .u64 d) 1 1 a b,.int .i64 ((c:Nat):Int)],[]⟩
def ajN:List Code:=cP (nO JG)
def amO(a:Lv)(b:Lv) :Nat×(List Int)×Nat×(List Int)×Nat→aQ:=fun (c,d,e,f,g)=>⟨ao 61 [(2,.ptr 0 1 0 0),(3,.ptr 1 1 0 0),(6,.int .i64 ((c:Nat):Int))],[(0,.vs [.imm a (.ns .u64 d) 1 1 0 e]),(1,.vs [.imm b (.ns .u64 f) 1 1 0 g])],2⟩
def Si(a : List Int)(b : List Int) : T ((Nat × (List Int) × Nat × (List Int) × Nat) ⊕ (fW)) :=
  .ask (decide ((0:Int) < (2:Int)))
    (.need (gD (0:Int) 2)<|.need (aP 0 (List.length a) a)<|.need (cF (aJ (ab 0 (List.length a) a)))<|.ask (decide ((((aU (aJ (ab 0 (List.length a) a))):Nat):Int) > (4096:Int)))
      (.leaf (.inl (2,(bh (aJ (ab 0 (List.length a) a))),(aU (aJ (ab 0 (List.length a) a))),b,(List.length b))))
      (.need (dn .i64 (1:Int))<|.ask (decide ((1:Int) < (2:Int)))
        (.need (gD (1:Int) 2)<|.need (aP 0 (List.length b) b)<|.need (cF (aJ (ab 0 (List.length b) b)))<|.ask (decide ((((aU (aJ (ab 0 (List.length b) b))):Nat):Int) > (4096:Int)))
          (.leaf (.inl (2,(bh (aJ (ab 0 (List.length a) a))),(aU (aJ (ab 0 (List.length a) a))),(bh (aJ (ab 0 (List.length b) b))),(aU (aJ (ab 0 (List.length b) b))))))
          (.need (dn .i64 (2:Int))<|.ask (decide ((2:Int) < (2:Int)))
            (.fail)
            (.leaf (.inl (0,(bh (aJ (ab 0 (List.length a) a))),(aU (aJ (ab 0 (List.length a) a))),(bh (aJ (ab 0 (List.length b) b))),(aU (aJ (ab 0 (List.length b) b))))))))
        (.fail)))
    (.fail)
def amP(a:Lv)(b:Lv)(c:List Int)(d:Nat)(e:List Int)(f:Nat)(g:Bool) :aQ:=⟨ao 61 [(2,.ptr 0 1 0 0),(3,.ptr 1 1 0 0),(29,.bool false g)],[(0,.vs [.imm a (.ns .u64 c) 1 1 0 d]),(1,.vs [.imm b (.ns .u64 e) 1 1 0 f])],2⟩
def ajO(c:Nat)(a:Nat)(b:Nat) :T ((Bool)⊕(fW)) :=
  .ask (((c:Nat):Int) != (0:Int))
    (.leaf (.inr (.r0 0 0 0 c ([]:List Int))))
    (.need (dn .i64 (((a+b):Nat):Int))<|.ask (decide ((((a+b):Nat):Int) > (4097:Int)))
      (.ask (decide (((a:Nat):Int) > (0:Int)))
        (.leaf (.inl (decide (((b:Nat):Int) > (0:Int)))))
        (.leaf (.inl false)))
      (.leaf (.inl false)))
def amQ(c:Lv)(d:Lv)(e:List Int)(f:Nat)(g:List Int)(a:Nat) :Nat×(List Int)→aQ:=fun (b,h)=>⟨ao 61 [(2,.ptr 0 1 0 0),(3,.ptr 1 1 0 0),(7,.sl 2 1 1 0 b b),(37,.int .i64 ((a:Nat):Int)),(38,.int .i64 (0:Int))],[(0,.vs [.imm c (.ns .u64 e) 1 1 0 f]),(1,.vs [.imm d (.ns .u64 g) 1 1 0 a]),(2,.ns .u64 h)],3⟩
def Sj(a:Nat)(b:Nat)(c:Bool) :T ((Nat×(List Int))⊕(fW)) :=
  .ask c
    (.leaf (.inr (.r0 0 0 0 3 ([]:List Int))))
    (.need (dn .i64 (((a+b):Nat):Int))<|.need (decide ((0:Int)≤(((a+b):Nat):Int)))<|.need (decide ((((a+b):Nat):Int)≤(((a+b):Nat):Int)))<|.need (decide ((8:Int) * (((a+b):Nat):Int)≤140737488355328))<|.need (dn .i64 (((a+b):Nat):Int))<|.leaf (.inl ((a+b),(List.replicate (a+b) (0:Int)))))
def MA(c:Lv)(d:Lv)(e:List Int)(f:Nat)(g:List Int)(a:Nat)(b:Nat) :Nat×(List Int)→aQ:=fun (h,i)=>⟨ao 61 [(2,.ptr 0 1 0 0),(3,.ptr 1 1 0 0),(7,.sl 2 1 1 0 b b),(37,.int .i64 ((a:Nat):Int)),(38,.int .i64 ((h:Nat):Int))],[(0,.vs [.imm c (.ns .u64 e) 1 1 0 f]),(1,.vs [.imm d (.ns .u64 g) 1 1 0 a]),(2,.ns .u64 i)],3⟩
def Wj(a:Nat)(b:(List Int)) :aQ:=⟨ao 61 [(7,.sl 0 1 1 0 a a)],[(0,.ns .u64 b)],1⟩
def ajP:List Code:=cP (dD ((((((ajN.drop 2).drop 3).drop 3).take 1)).headD .skip))
def amR(c:Lv)(d:Lv)(e:List Int)(f:Nat)(g:List Int)(a:Nat)(b:Nat)(h:Nat)(i:(List Int)) :aQ:=⟨ao 61 [(2,.ptr 0 1 0 0),(3,.ptr 1 1 0 0),(7,.sl 2 1 1 0 b b),(37,.int .i64 ((a:Nat):Int)),(38,.int .i64 ((h:Nat):Int))],[(0,.vs [.imm c (.ns .u64 e) 1 1 0 f]),(1,.vs [.imm d (.ns .u64 g) 1 1 0 a]),(2,.ns .u64 i)],3⟩
def H5(d:List Int)(b:Nat)(e:List Int)(g:Nat)(c:Nat)(a:Nat)(f:List Int) :T (((List Int))⊕(((List Int))⊕(fW))) :=
  .ask (decide (((a:Nat):Int) < ((g:Nat):Int)))
    (.need (dn .i64 (((a+b):Nat):Int))<|.need (Ke ((c:Nat):Int) c)<|.need (Ke ((a:Nat):Int) c)<|.need (gD ((a:Nat):Int) g)<|.need (im a (List.length e))<|.need (aP 0 b d)<|.need (zV (vV f a (c - a) (ab 0 b d) (List.getD e a 0)))<|.need (gD (((a+b):Nat):Int) c)<|.need (im (a+b) (List.length (ue (vV f a (c - a) (ab 0 b d) (List.getD e a 0)))))<|.leaf (.inl (List.set (ue (vV f a (c - a) (ab 0 b d) (List.getD e a 0))) (a+b) (yX (vV f a (c - a) (ab 0 b d) (List.getD e a 0))))))
    (.leaf (.inr (.inl f)))
def ajQ(a:Nat)(b:List Int) :T ((Nat×(List Int))⊕(((List Int))⊕(fW))) :=
  .need (dn .i64 (((a+1):Nat):Int))<|.leaf (.inl ((a+1),b))
def H6(b:List Int)(c:Nat)(d:List Int)(e:Nat)(f:Nat) :Nat×(List Int)→Option ((Nat×(List Int))⊕(((List Int))⊕(fW))):=fun (a,g) =>
  aE ((H5 b c d e f a g).run) fun h =>
  (ajQ a h).run
theorem ajR(f:Lv)(g:Lv)(b:List Int)(c:Nat)(d:List Int)(e:Nat)(a:Nat)(h:Nat)(i:List Int) :Sg prog [] ajP (MA f g b c d e a (h,i)) (H6 b c d e a (h,i)) (MA f g b c d e a) (cL 0 (Wj a) JT):=by
  unfold H6;exact Sg.cut 3 (ay sO) (bk mn (amR f g b c d e a h) [⟨[],[0,1,2],[2,3,7,37,38]⟩,⟨[],[2],[7]⟩]) (fun j=>bk mn _ [⟨[],[0,1,2],[2,3,7,37,38]⟩])
def ajS:Nat×Nat×Nat×Nat×(List Int)→aQ:=fun (a,b,c,d,e)=>⟨ao 61 [(4,.sl 0 1 1 a b c),(5,.int .i64 ((d:Nat):Int))],[(0,.ns .u64 e)],1⟩
def Sk(a:Nat)(b:List Int) :T ((Nat×Nat×Nat×Nat×(List Int))⊕(fW)) :=
  .alt 0
    (.need (xy (iq b 0 a a))<|.leaf (.inl (0,0,0,3,([]:List Int))))
    (.alt 1
      (.need (xz (iq b 0 a a))<|.leaf (.inl ((wK (iq b 0 a a)),(wL (iq b 0 a a)),(wM (iq b 0 a a)),0,(wN (iq b 0 a a)))))
      (.fail))
def ajT(a:Nat)(b:Nat)(c:Nat)(d:Nat)(e:List Int) :T ((Empty)⊕(fW)) :=
  .leaf (.inr (.r0 a b c d e))
def tp(d:List Int)(e:List Int) :Option fW:=jR (aE ((Si d e).run) fun (f,g,a,h,b) =>
  aE ((ajO f a b).run) fun i =>
  aE ((Sj a b i).run) fun (c,j) =>
  aE (dc (H6 g a h b c) (0,j)) fun k =>
  aE ((Sk c k).run) fun (l,m,n,o,p) =>
  (ajT l m n o p).run)
theorem amS(a:Lv)(g:List Int)(b:Lv)(i:List Int){x:fW}(h:tp g i=some x) :aw prog JG [] [.imm a (.ns .u64 g) 1 1 0 (List.length g),.imm b (.ns .u64 i) 1 1 0 (List.length i)] (Q7 x) :=
  kp true Q7 JT h (Sg.cut 2 sO (bk mn (amO a b) [⟨[],[0,16],[2,3,6]⟩,⟨[],[0,16],[2,3,6]⟩,⟨[],[0,16],[2,3,6]⟩]) (fun ⟨q,c,d,e,f⟩=>Sg.cut 3 sO (bk mn (amP a b c d e f) [⟨[(.slot 4,.own 1 1 (.ns .u64 ([]:List Int)))],[82],[4,5]⟩,⟨[],[0,1],[2,3,29]⟩,⟨[],[0,1],[2,3,29]⟩,⟨[],[0,1],[2,3,29]⟩]) (fun r=>Sg.cut 3 sO (bk mn (amQ a b c d e f) [⟨[(.slot 4,.own 1 1 (.ns .u64 ([]:List Int)))],[34],[4,5]⟩,⟨[],[0,1,82],[2,3,7,37,38]⟩]) (fun ⟨j,s⟩=>Sg.cut 1 sO (BM ⟨[],[0,1,2],[2,3,7,37,38]⟩ (MA a b c d e f j) (Wj j) 0 sO (amN _) (fun ⟨k,l⟩=>ajR a b c d e f j k l)) (fun t=>Sg.cut 1 sO (bk mn ajS [⟨[(.slot 4,.own 1 1 (.ns .u64 ([]:List Int)))],[97],[4,5]⟩,⟨[],[0],[4,5]⟩]) (fun ⟨u,v,w,y,z⟩=>bk mn _ [⟨[],[0],[4,5]⟩]))))))
    (fun x=>by cases x with | r0 m n o p A=>exact jT [.sl 0 1 1 m n o,.int .i64 ((p:Nat):Int)])
def Fm:Option fW→Bool
  | some _=>true
  | none=>false
def Fo:Option fW→Nat
  | some (.r0 x _ _ _ _)=>x
  | _=>0
def Fp:Option fW→Nat
  | some (.r0 _ x _ _ _)=>x
  | _=>0
def Oq:Option fW→Nat
  | some (.r0 _ _ x _ _)=>x
  | _=>0
def Fq:Option fW→Nat
  | some (.r0 _ _ _ x _)=>x
  | _=>0
def Fr:Option fW→List Int
  | some (.r0 _ _ _ _ x)=>x
  | _=>[]
theorem amT{x:Option fW}(h:Fm x=true) :x=some (.r0 (Fo x) (Fp x) (Oq x) (Fq x) (Fr x)):=by
  unfold Fm at h
  split at h <;> first | rfl | (cases h;done) | (rename_i y;cases y;rfl)
def adO:aL:=bJ JG (.cons (.ns .u64) (.cons (.ns .u64) .nil)) fun t=>(fun q=>[⟨Q7 (.r0 (Fo q) (Fp q) (Oq q) (Fq q) (Fr q)),[Fm q]⟩]) (tp t.1.2 t.2.1.2)
theorem ae9:aV prog adO:=aR fun t=>(aS (fun h=>amS t.1.1 t.1.2 t.2.1.1 t.2.1.2 (amT h)) aZ)
def adP:List aL:=adO :: adN
theorem p9:bd prog (bf adP):=au ae9 mn
inductive je where
  | r0 (a:Nat) (b:Nat) (c:Nat) (d:List Int)
def JU:je→AE×aQ
  | .r0 a b c d=>(.ret,⟨ao 59 [(4,.sl 0 1 1 a b c)],[(0,.ns .u64 d)],1⟩)
theorem zW:jC JU:=by intro x;cases x <;> (intro h;cases h)
theorem amU(id:Nat) :m5 id JU:=by intro x;cases x <;> (intro h;cases h)
def Q8:je→gX
  | .r0 a b d c=>⟨.imm .free (.ns .u64 c) 1 1 a b,[]⟩
def amV:List Code:=cP (nO JL)
def amW(c:Lv)(a:List Int) :Int×Int×Nat×(List Int)→aQ:=fun (d,r2,b,e)=>⟨ao 59 [(0,.imm c (.ns .u64 a) 1 1 0 (List.length a)),(5,.int .i64 d),(6,.int .u64 r2),(7,.sl 0 1 1 0 b b),(24,.int .i64 (((List.length a):Nat):Int)),(25,.int .i64 (0:Int))],[(0,.ns .u64 e)],1⟩
def Sl(b:List Int)(a:Int) :T ((Int×Int×Nat×(List Int))⊕(je)) :=
  .ask ((((List.length b):Nat):Int) == (0:Int))
    (.leaf (.inr (.r0 0 0 0 ([]:List Int))))
    (.need ((64:Int) != (0:Int))<|.need (dn .i64 (Int.tdiv a (64:Int)))<|.need ((64:Int) != (0:Int))<|.need (dn .i64 ((((List.length b):Nat):Int)+(Int.tdiv a (64:Int))))<|.need (dn .i64 (((((List.length b):Nat):Int)+(Int.tdiv a (64:Int)))+(1:Int)))<|.need (decide ((0:Int)≤(((((List.length b):Nat):Int)+(Int.tdiv a (64:Int)))+(1:Int))))<|.need (decide ((((((List.length b):Nat):Int)+(Int.tdiv a (64:Int)))+(1:Int))≤(((((List.length b):Nat):Int)+(Int.tdiv a (64:Int)))+(1:Int))))<|.need (decide ((8:Int) * (((((List.length b):Nat):Int)+(Int.tdiv a (64:Int)))+(1:Int))≤140737488355328))<|.need (dn .i64 (((((List.length b):Nat):Int)+(Int.tdiv a (64:Int)))+(1:Int)))<|.leaf (.inl ((Int.tdiv a (64:Int)),(IntKind.u64.wrap (Int.tmod a (64:Int))),(Int.toNat (((((List.length b):Nat):Int)+(Int.tdiv a (64:Int)))+(1:Int))),(List.replicate (Int.toNat (((((List.length b):Nat):Int)+(Int.tdiv a (64:Int)))+(1:Int))) (0:Int)))))
def MB(c:Lv)(a:List Int)(d:Int)(r2:Int)(b:Nat) :Nat×(List Int)→aQ:=fun (e,f)=>⟨ao 59 [(0,.imm c (.ns .u64 a) 1 1 0 (List.length a)),(5,.int .i64 d),(6,.int .u64 r2),(7,.sl 0 1 1 0 b b),(24,.int .i64 (((List.length a):Nat):Int)),(25,.int .i64 ((e:Nat):Int))],[(0,.ns .u64 f)],1⟩
def Wl(a:Nat)(b:(List Int)) :aQ:=⟨ao 59 [(7,.sl 0 1 1 0 a a)],[(0,.ns .u64 b)],1⟩
def ajU:List Code:=cP (dD ((((amV.drop 6).take 1)).headD .skip))
def amX(c:Lv)(a:List Int)(d:Int)(r2:Int)(b:Nat)(e:Nat)(f:(List Int)) :aQ:=⟨ao 59 [(0,.imm c (.ns .u64 a) 1 1 0 (List.length a)),(5,.int .i64 d),(6,.int .u64 r2),(7,.sl 0 1 1 0 b b),(24,.int .i64 (((List.length a):Nat):Int)),(25,.int .i64 ((e:Nat):Int))],[(0,.ns .u64 f)],1⟩
def BU(c:List Int)(b:Int)(r2:Int)(e:Nat)(a:Nat)(d:List Int) :T (((List Int))⊕(((List Int))⊕(je))) :=
  .ask (decide (((a:Nat):Int) < (((List.length c):Nat):Int)))
    (.need (dn .i64 (((a:Nat):Int)+b))<|.need (gD (((a:Nat):Int)+b) e)<|.need (im (Int.toNat (((a:Nat):Int)+b)) (List.length d))<|.need (gD ((a:Nat):Int) (List.length c))<|.need (im a (List.length c))<|.need (decide ((0:Int)≤r2))<|.need (gD (((a:Nat):Int)+b) e)<|.need (im (Int.toNat (((a:Nat):Int)+b)) (List.length d))<|.need (dn .i64 (((a:Nat):Int)+b))<|.need (dn .i64 ((((a:Nat):Int)+b)+(1:Int)))<|.need (gD ((a:Nat):Int) (List.length c))<|.need (im a (List.length c))<|.need (decide ((0:Int)≤(1:Int)))<|.need (decide ((0:Int)≤(IntKind.u64.wrap ((63:Int) - r2))))<|.need (gD ((((a:Nat):Int)+b)+(1:Int)) e)<|.need (im (Int.toNat ((((a:Nat):Int)+b)+(1:Int))) (List.length (List.set d (Int.toNat (((a:Nat):Int)+b)) (eP .or .u64 (List.getD d (Int.toNat (((a:Nat):Int)+b)) 0) (IntKind.u64.wrap ((List.getD c a 0) * 2 ^ (min (Int.toNat r2) (IntKind.u64.bits))))))))<|.leaf (.inl (List.set (List.set d (Int.toNat (((a:Nat):Int)+b)) (eP .or .u64 (List.getD d (Int.toNat (((a:Nat):Int)+b)) 0) (IntKind.u64.wrap ((List.getD c a 0) * 2 ^ (min (Int.toNat r2) (IntKind.u64.bits)))))) (Int.toNat ((((a:Nat):Int)+b)+(1:Int))) (Int.fdiv (Int.fdiv (List.getD c a 0) (2 ^ (min (Int.toNat (1:Int)) (IntKind.u64.bits)))) (2 ^ (min (Int.toNat (IntKind.u64.wrap ((63:Int) - r2))) (IntKind.u64.bits)))))))
    (.leaf (.inr (.inl d)))
def ajV(a:Nat)(b:List Int) :T ((Nat×(List Int))⊕(((List Int))⊕(je))) :=
  .need (dn .i64 (((a+1):Nat):Int))<|.leaf (.inl ((a+1),b))
def H7(b:List Int)(c:Int)(r2:Int)(d:Nat) :Nat×(List Int)→Option ((Nat×(List Int))⊕(((List Int))⊕(je))):=fun (a,e) =>
  aE ((BU b c r2 d a e).run) fun f =>
  (ajV a f).run
theorem ajW(d:Lv)(b:List Int)(c:Int)(r2:Int)(a:Nat)(e:Nat)(f:List Int) :Sg prog [] ajU (MB d b c r2 a (e,f)) (H7 b c r2 a (e,f)) (MB d b c r2 a) (cL 0 (Wl a) JU):=by
  unfold H7;exact Sg.cut 3 (ay zW) (bk p9 (amX d b c r2 a e) [⟨[],[0],[0,5,6,7,24,25]⟩,⟨[],[0],[7]⟩]) (fun g=>bk p9 _ [⟨[],[0],[0,5,6,7,24,25]⟩])
def amY:Nat×Nat×Nat×(List Int)→aQ:=fun (a,b,c,d)=>⟨ao 59 [(4,.sl 0 1 1 a b c)],[(0,.ns .u64 d)],1⟩
def Sn(a:Nat)(b:List Int) :T ((Nat×Nat×Nat×(List Int))⊕(je)) :=
  .need (j5 (bH b 0 a a))<|.leaf (.inl ((jG (bH b 0 a a)),(jH (bH b 0 a a)),(jI (bH b 0 a a)),(jJ (bH b 0 a a))))
def ajX(a:Nat)(b:Nat)(c:Nat)(d:List Int) :T ((Empty)⊕(je)) :=
  .leaf (.inr (.r0 a b c d))
def f4(a:List Int)(c:Int) :Option je:=jR (aE ((Sl a c).run) fun (d,r2,b,e) =>
  aE (dc (H7 a d r2 b) (0,e)) fun f =>
  aE ((Sn b f).run) fun (g,h,i,j) =>
  (ajX g h i j).run)
theorem amZ(b:Lv)(a:List Int)(d:Int){x:je}(h:f4 a d=some x) :aw prog JL [] [.imm b (.ns .u64 a) 1 1 0 (List.length a),.int .i64 d] (Q8 x) :=
  kp true Q8 JU h (Sg.cut 6 zW (bk p9 (amW b a) [⟨[(.slot 4,.own 1 1 (.ns .u64 ([]:List Int)))],[80],[4]⟩,⟨[],[256],[0,5,6,7,24,25]⟩]) (fun ⟨e,r2,c,l⟩=>Sg.cut 1 zW (BM ⟨[],[0],[0,5,6,7,24,25]⟩ (MB b a e r2 c) (Wl c) 0 zW (amU _) (fun ⟨f,g⟩=>ajW b a e r2 c f g)) (fun m=>Sg.cut 1 zW (bk p9 amY [⟨[],[0],[4]⟩]) (fun ⟨n,o,p,q⟩=>bk p9 _ [⟨[],[0],[4]⟩]))))
    (fun x=>by cases x with | r0 i j k r=>exact jT [.sl 0 1 1 i j k])
def zX:Option je→Bool
  | some _=>true
  | none=>false
def mo:Option je→Nat
  | some (.r0 x _ _ _)=>x
  | _=>0
def mp:Option je→Nat
  | some (.r0 _ x _ _)=>x
  | _=>0
def Ot:Option je→Nat
  | some (.r0 _ _ x _)=>x
  | _=>0
def mq:Option je→List Int
  | some (.r0 _ _ _ x)=>x
  | _=>[]
theorem am0{x:Option je}(h:zX x=true) :x=some (.r0 (mo x) (mp x) (Ot x) (mq x)):=by
  unfold zX at h
  split at h <;> first | rfl | (cases h;done) | (rename_i y;cases y;rfl)
def adQ:aL:=bJ JL (.cons (.ns .u64) (.cons (.int .i64) .nil)) fun t=>(fun q=>[⟨Q8 (.r0 (mo q) (mp q) (Ot q) (mq q)),[zX q]⟩]) (f4 t.1.2 t.2.1)
theorem afa:aV prog adQ:=aR fun t=>(aS (fun h=>amZ t.1.1 t.1.2 t.2.1 (am0 h)) aZ)
def adR:List aL:=adQ :: adP
theorem Fs:bd prog (bf adR):=au afa p9
inductive gJ where
  | r0 (a:List Int) (b:Nat) (c:Nat)
def Kv(a:Lv) :gJ→AE×aQ
  | .r0 b c d=>(.ret,⟨ao 10 [(2,.imm a (.ns .u64 b) 1 1 0 c),(3,.int .i64 ((d:Nat):Int))],[],0⟩)
theorem Wm{a:Lv} :jC (Kv a):=by intro x;cases x <;> (intro h;cases h)
def CC(a:Lv) :gJ→gX
  | .r0 b c d=>⟨.tup [.imm a (.ns .u64 b) 1 1 0 c,.int .i64 ((d:Nat):Int)],[]⟩
def Wn(a:Lv) :(List Int)×Nat→aQ:=fun (b,c)=>⟨ao 10 [(0,.imm a (.ns .u64 b) 1 1 0 c)],[],0⟩
def H8(a:List Int) :T (((List Int)×Nat)⊕(gJ)) :=
  .need (aP 0 (List.length a) a)<|.need (cF (aJ (ab 0 (List.length a) a)))<|.leaf (.inl ((bh (aJ (ab 0 (List.length a) a))),(aU (aJ (ab 0 (List.length a) a)))))
def Wo(b:List Int)(a:Nat) :T ((Empty)⊕(gJ)) :=
  .ask (decide (((a:Nat):Int) > (4096:Int)))
    (.leaf (.inr (.r0 ([]:List Int) 0 3)))
    (.leaf (.inr (.r0 b a 0)))
def m6(a:List Int) :Option gJ:=jR (aE ((H8 a).run) fun (b,c) =>
  (Wo b c).run)
theorem Wp(a:Lv)(b:List Int){x:gJ}(h:m6 b=some x) :aw prog zL [] [.imm a (.ns .u64 b) 1 1 0 (List.length b)] (CC a x) :=
  kp false (CC a) (Kv a) h (Sg.cut 2 Wm (bk Fs (Wn a) [⟨[],[],[0]⟩]) (fun ⟨f,g⟩=>bk Fs _ [⟨[(.slot 2,.fre 1 1 (.ns .u64 ([]:List Int))),(.slot 2,.lev a)],[],[2,3]⟩,⟨[],[],[2,3]⟩]))
    (fun x=>by cases x with | r0 c d e=>exact jT [.imm a (.ns .u64 c) 1 1 0 d,.int .i64 ((e:Nat):Int)])
def uf:Option gJ→Bool
  | some _=>true
  | none=>false
def vW:Option gJ→List Int
  | some (.r0 x _ _)=>x
  | _=>[]
def vX:Option gJ→Nat
  | some (.r0 _ x _)=>x
  | _=>0
def vY:Option gJ→Nat
  | some (.r0 _ _ x)=>x
  | _=>0
theorem Wq{x:Option gJ}(h:uf x=true) :x=some (.r0 (vW x) (vX x) (vY x)):=by
  unfold uf at h
  split at h <;> first | rfl | (cases h;done) | (rename_i y;cases y;rfl)
def Kw:aL:=bJ zL (.cons (.ns .u64) .nil) fun t=>(fun q=>[⟨CC t.1.1 (.r0 (vW q) (vX q) (vY q)),[uf q]⟩]) (m6 t.1.2)
theorem Q9:aV prog Kw:=aR fun t=>(aS (fun h=>Wp t.1.1 t.1.2 (Wq h)) aZ)
def Kx:List aL:=Kw :: adR
theorem nu:bd prog (bf Kx):=au Q9 Fs
inductive lq where
  | r0 (a:List Int) (b:Nat) (c:Nat)
def adS:lq→AE×aQ
  | .r0 a b c=>(.ret,⟨ao 30 [(4,.imm .free (.ns .u64 a) 1 1 0 b),(5,.int .i64 ((c:Nat):Int))],[],0⟩)
theorem MC:jC adS:=by intro x;cases x <;> (intro h;cases h)
def Ra:lq→gX
  | .r0 a b c=>⟨.tup [.imm .free (.ns .u64 a) 1 1 0 b,.int .i64 ((c:Nat):Int)],[]⟩
def am1(a:Lv)(b:Int) :Nat×(List Int)×Nat→aQ:=fun (c,d,e)=>⟨ao 30 [(1,.int .i64 b),(2,.ptr 0 1 0 0),(6,.int .i64 ((c:Nat):Int))],[(0,.vs [.imm a (.ns .u64 d) 1 1 0 e])],1⟩
def Wr(a:List Int) :T ((Nat×(List Int)×Nat)⊕(lq)) :=
  .ask (decide ((0:Int) < (1:Int)))
    (.need (gD (0:Int) 1)<|.need (aP 0 (List.length a) a)<|.need (cF (aJ (ab 0 (List.length a) a)))<|.ask (decide ((((aU (aJ (ab 0 (List.length a) a))):Nat):Int) > (4096:Int)))
      (.leaf (.inl (2,(bh (aJ (ab 0 (List.length a) a))),(aU (aJ (ab 0 (List.length a) a))))))
      (.need (dn .i64 (1:Int))<|.ask (decide ((1:Int) < (1:Int)))
        (.fail)
        (.leaf (.inl (0,(bh (aJ (ab 0 (List.length a) a))),(aU (aJ (ab 0 (List.length a) a))))))))
    (.fail)
def am2(a:Lv)(b:Int)(c:List Int)(d:Nat)(_:Unit) :aQ:=⟨ao 30 [(1,.int .i64 b),(2,.ptr 0 1 0 0)],[(0,.vs [.imm a (.ns .u64 c) 1 1 0 d])],1⟩
def am3(a:Int)(b:Nat)(c:Nat) :T ((Unit)⊕(lq)) :=
  .ask (((b:Nat):Int) != (0:Int))
    (.leaf (.inr (.r0 ([]:List Int) 0 2)))
    (.ask (decide (a < (0:Int)))
      (.leaf (.inr (.r0 ([]:List Int) 0 2)))
      (.ask (decide (((c:Nat):Int) > (0:Int)))
        (.ask (decide (a ≥ (262144:Int)))
          (.leaf (.inr (.r0 ([]:List Int) 0 3)))
          (.leaf (.inl ())))
        (.leaf (.inl ()))))
def am4:(List Int)×Nat×Nat→aQ:=fun (a,b,c)=>⟨ao 30 [(4,.imm .free (.ns .u64 a) 1 1 0 b),(5,.int .i64 ((c:Nat):Int))],[],0⟩
def MD(c:Int)(a:List Int)(b:Nat) :T (((List Int)×Nat×Nat)⊕(lq)) :=
  .need (aP 0 b a)<|.need (zX (f4 (ab 0 b a) c))<|.need (aP (mo (f4 (ab 0 b a) c)) (mp (f4 (ab 0 b a) c)) (mq (f4 (ab 0 b a) c)))<|.need (uf (m6 (ab (mo (f4 (ab 0 b a) c)) (mp (f4 (ab 0 b a) c)) (mq (f4 (ab 0 b a) c)))))<|.leaf (.inl ((vW (m6 (ab (mo (f4 (ab 0 b a) c)) (mp (f4 (ab 0 b a) c)) (mq (f4 (ab 0 b a) c))))),(vX (m6 (ab (mo (f4 (ab 0 b a) c)) (mp (f4 (ab 0 b a) c)) (mq (f4 (ab 0 b a) c))))),(vY (m6 (ab (mo (f4 (ab 0 b a) c)) (mp (f4 (ab 0 b a) c)) (mq (f4 (ab 0 b a) c)))))))
def am5(a:List Int)(b:Nat)(c:Nat) :T ((Empty)⊕(lq)) :=
  .leaf (.inr (.r0 a b c))
def jK(c:List Int)(a:Int) :Option lq:=jR (aE ((Wr c).run) fun (d,e,b) =>
  aE ((am3 a d b).run) fun _ =>
  aE ((MD a e b).run) fun (f,g,h) =>
  (am5 f g h).run)
theorem am6(b:Lv)(c:List Int)(a:Int){x:lq}(h:jK c a=some x) :aw prog QU [] [.imm b (.ns .u64 c) 1 1 0 (List.length c),.int .i64 a] (Ra x) :=
  kp true Ra adS h (Sg.cut 2 MC (bk nu (am1 b a) [⟨[],[0],[1,2,6]⟩,⟨[],[0],[1,2,6]⟩]) (fun ⟨j,d,e⟩=>Sg.cut 1 MC (bk nu (am2 b a d e) [⟨[(.slot 4,.fre 1 1 (.ns .u64 ([]:List Int)))],[],[4,5]⟩,⟨[(.slot 4,.fre 1 1 (.ns .u64 ([]:List Int)))],[],[4,5]⟩,⟨[(.slot 4,.fre 1 1 (.ns .u64 ([]:List Int)))],[],[4,5]⟩,⟨[],[0],[1,2]⟩,⟨[],[0],[1,2]⟩]) (fun _=>Sg.cut 1 MC (bk nu am4 [⟨[],[],[4,5]⟩]) (fun ⟨k,l,m⟩=>bk nu _ [⟨[],[],[4,5]⟩]))))
    (fun x=>by cases x with | r0 f g i=>exact jT [.imm .free (.ns .u64 f) 1 1 0 g,.int .i64 ((i:Nat):Int)])
def vZ:Option lq→Bool
  | some _=>true
  | none=>false
def qa:Option lq→List Int
  | some (.r0 x _ _)=>x
  | _=>[]
def qb:Option lq→Nat
  | some (.r0 _ x _)=>x
  | _=>0
def Ou:Option lq→Nat
  | some (.r0 _ _ x)=>x
  | _=>0
theorem am7{x:Option lq}(h:vZ x=true) :x=some (.r0 (qa x) (qb x) (Ou x)):=by
  unfold vZ at h
  split at h <;> first | rfl | (cases h;done) | (rename_i y;cases y;rfl)
def adT:aL:=bJ QU (.cons (.ns .u64) (.cons (.int .i64) .nil)) fun t=>(fun q=>[⟨Ra (.r0 (qa q) (qb q) (Ou q)),[vZ q]⟩]) (jK t.1.2 t.2.1)
theorem afb:aV prog adT:=aR fun t=>(aS (fun h=>am6 t.1.1 t.1.2 t.2.1 (am7 h)) aZ)
def adU:List aL:=adT :: Kx
theorem kQ:bd prog (bf adU):=au afb nu
inductive eV where
  | r0 (a:Nat) (b:Nat) (c:Nat) (d:Bool) (e:List Int)
def El:eV→AE×aQ
  | .r0 a b c d e=>(.ret,⟨ao 97 [(4,.sl 0 1 1 a b c),(5,.bool false d)],[(0,.ns .u64 e)],1⟩)
theorem n8:jC El:=by intro x;cases x <;> (intro h;cases h)
theorem Ws(id:Nat) :m5 id El:=by intro x;cases x <;> (intro h;cases h)
def Rb:eV→gX
  | .r0 a b e c d=>⟨.tup [.imm .free (.ns .u64 d) 1 1 a b,.bool false c],[]⟩
def So:List Code:=cP (nO JJ)
def am8(b:Lv)(a:List Int) :Int×Int×Bool×Nat×Nat→aQ:=fun (c,r2,d,e,f)=>⟨ao 97 [(0,.imm b (.ns .u64 a) 1 1 0 (List.length a)),(6,.int .i64 c),(7,.int .u64 r2),(8,.bool false d),(36,.imm b (.ns .u64 a) 1 1 0 e),(37,.int .i64 ((f:Nat):Int)),(38,.int .i64 (0:Int))],[],0⟩
def H9(b:List Int)(a:Int) :T ((Int×Int×Bool×Nat×Nat)⊕(eV)) :=
  .need ((64:Int) != (0:Int))<|.need (dn .i64 (Int.tdiv a (64:Int)))<|.need ((64:Int) != (0:Int))<|.ask (decide ((Int.tdiv a (64:Int)) ≥ (((List.length b):Nat):Int)))
    (.leaf (.inr (.r0 0 0 0 (decide ((((List.length b):Nat):Int) > (0:Int))) ([]:List Int))))
    (.need (gD (Int.tdiv a (64:Int)) (List.length b))<|.need (im (Int.toNat (Int.tdiv a (64:Int))) (List.length b))<|.need (decide ((0:Int)≤(IntKind.u64.wrap (Int.tmod a (64:Int)))))<|.need (Ke (Int.tdiv a (64:Int)) (List.length b))<|.need (Ke (0:Int) (Int.toNat (Int.tdiv a (64:Int))))<|.leaf (.inl ((Int.tdiv a (64:Int)),(IntKind.u64.wrap (Int.tmod a (64:Int))),((eP .and .u64 (List.getD b (Int.toNat (Int.tdiv a (64:Int))) 0) (IntKind.u64.wrap ((IntKind.u64.wrap ((1:Int) * 2 ^ (min (Int.toNat (IntKind.u64.wrap (Int.tmod a (64:Int)))) (IntKind.u64.bits)))) - (1:Int)))) != (0:Int)),(Int.toNat (Int.tdiv a (64:Int))),(Int.toNat (Int.tdiv a (64:Int))))))
def ME(b:Lv)(a:List Int)(c:Int)(r2:Int)(d:Nat)(e:Nat) :Bool×Nat→aQ:=fun (f,g)=>⟨ao 97 [(0,.imm b (.ns .u64 a) 1 1 0 (List.length a)),(6,.int .i64 c),(7,.int .u64 r2),(8,.bool false f),(36,.imm b (.ns .u64 a) 1 1 0 d),(37,.int .i64 ((e:Nat):Int)),(38,.int .i64 ((g:Nat):Int))],[],0⟩
def Wt(b:Lv)(a:List Int)(c:Int)(r2:Int)(d:Bool) :aQ:=⟨ao 97 [(0,.imm b (.ns .u64 a) 1 1 0 (List.length a)),(6,.int .i64 c),(7,.int .u64 r2),(8,.bool false d)],[],0⟩
def ajY:List Code:=cP (dD ((((So.drop 6).take 1)).headD .skip))
def am9(b:Lv)(a:List Int)(c:Int)(r2:Int)(d:Nat)(e:Nat)(f:Nat)(g:Bool) :aQ:=⟨ao 97 [(0,.imm b (.ns .u64 a) 1 1 0 (List.length a)),(6,.int .i64 c),(7,.int .u64 r2),(8,.bool false g),(36,.imm b (.ns .u64 a) 1 1 0 d),(37,.int .i64 ((e:Nat):Int)),(38,.int .i64 ((f:Nat):Int))],[],0⟩
def BV(b:List Int)(d:Nat)(e:Nat)(c:Bool)(a:Nat) :T ((Bool)⊕((Bool)⊕(eV))) :=
  .ask (decide (((a:Nat):Int) < ((e:Nat):Int)))
    (.need (gD ((a:Nat):Int) d)<|.need (im a (List.length b))<|.ask c
      (.leaf (.inl true))
      (.leaf (.inl ((List.getD b a 0) != (0:Int)))))
    (.leaf (.inr (.inl c)))
def ajZ(a:Nat)(b:Bool) :T ((Bool×Nat)⊕((Bool)⊕(eV))) :=
  .need (dn .i64 (((a+1):Nat):Int))<|.leaf (.inl (b,(a+1)))
def Ia(b:List Int)(c:Nat)(d:Nat) :Bool×Nat→Option ((Bool×Nat)⊕((Bool)⊕(eV))):=fun (e,a) =>
  aE ((BV b c d e a).run) fun f =>
  (ajZ a f).run
theorem aj0(b:Lv)(a:List Int)(c:Int)(r2:Int)(d:Nat)(e:Nat)(g:Bool)(f:Nat) :Sg prog [] ajY (ME b a c r2 d e (g,f)) (Ia a d e (g,f)) (ME b a c r2 d e) (cL 0 (Wt b a c r2) El):=by
  unfold Ia;exact Sg.cut 3 (ay n8) (bk kQ (am9 b a c r2 d e f) [⟨[],[],[0,6,7,8,36,37,38]⟩,⟨[],[],[0,6,7,8,36,37,38]⟩,⟨[],[],[0,6,7,8]⟩]) (fun h=>bk kQ _ [⟨[],[],[0,6,7,8,36,37,38]⟩])
def ana(c:Lv)(a:List Int)(d:Int)(r2:Int)(e:Bool) :Nat×Nat×(List Int)→aQ:=fun (b,f,g)=>⟨ao 97 [(0,.imm c (.ns .u64 a) 1 1 0 (List.length a)),(6,.int .i64 d),(7,.int .u64 r2),(8,.bool false e),(11,.sl 0 1 1 0 b b),(54,.int .i64 ((f:Nat):Int)),(55,.int .i64 (0:Int))],[(0,.ns .u64 g)],1⟩
def Ib(a:List Int)(b:Int) :T ((Nat×Nat×(List Int))⊕(eV)) :=
  .need (dn .i64 ((((List.length a):Nat):Int) - b))<|.need (decide ((0:Int)≤((((List.length a):Nat):Int) - b)))<|.need (decide (((((List.length a):Nat):Int) - b)≤((((List.length a):Nat):Int) - b)))<|.need (decide ((8:Int) * ((((List.length a):Nat):Int) - b)≤140737488355328))<|.need (dn .i64 ((((List.length a):Nat):Int) - b))<|.leaf (.inl ((Int.toNat ((((List.length a):Nat):Int) - b)),(Int.toNat ((((List.length a):Nat):Int) - b)),(List.replicate (Int.toNat ((((List.length a):Nat):Int) - b)) (0:Int))))
def Ic(c:Lv)(a:List Int)(d:Int)(r2:Int)(e:Bool)(b:Nat)(f:Nat) :Nat×(List Int)→aQ:=fun (g,h)=>⟨ao 97 [(0,.imm c (.ns .u64 a) 1 1 0 (List.length a)),(6,.int .i64 d),(7,.int .u64 r2),(8,.bool false e),(11,.sl 0 1 1 0 b b),(54,.int .i64 ((f:Nat):Int)),(55,.int .i64 ((g:Nat):Int))],[(0,.ns .u64 h)],1⟩
def Sp(b:Bool)(a:Nat)(c:(List Int)) :aQ:=⟨ao 97 [(8,.bool false b),(11,.sl 0 1 1 0 a a)],[(0,.ns .u64 c)],1⟩
def aj1:List Code:=cP (dD ((((((So.drop 6).drop 1).drop 2).take 1)).headD .skip))
def aj2(c:Lv)(a:List Int)(d:Int)(r2:Int)(e:Bool)(b:Nat)(f:Nat)(g:Nat)(h:(List Int)) :aQ:=⟨ao 97 [(0,.imm c (.ns .u64 a) 1 1 0 (List.length a)),(6,.int .i64 d),(7,.int .u64 r2),(8,.bool false e),(11,.sl 0 1 1 0 b b),(54,.int .i64 ((f:Nat):Int)),(55,.int .i64 ((g:Nat):Int))],[(0,.ns .u64 h)],1⟩
def BW(c:List Int)(b:Int)(r2:Int)(e:Nat)(f:Nat)(a:Nat)(d:List Int) :T (((List Int))⊕(((List Int))⊕(eV))) :=
  .ask (decide (((a:Nat):Int) < ((f:Nat):Int)))
    (.need (dn .i64 (((a:Nat):Int)+b))<|.need (gD (((a:Nat):Int)+b) (List.length c))<|.need (im (Int.toNat (((a:Nat):Int)+b)) (List.length c))<|.need (decide ((0:Int)≤r2))<|.need (gD ((a:Nat):Int) e)<|.need (im a (List.length d))<|.need (dn .i64 (((a:Nat):Int)+b))<|.need (dn .i64 ((((a:Nat):Int)+b)+(1:Int)))<|.ask (decide (((((a:Nat):Int)+b)+(1:Int)) < (((List.length c):Nat):Int)))
      (.need (gD ((a:Nat):Int) e)<|.need (im a (List.length (List.set d a (Int.fdiv (List.getD c (Int.toNat (((a:Nat):Int)+b)) 0) (2 ^ (min (Int.toNat r2) (IntKind.u64.bits)))))))<|.need (dn .i64 (((a:Nat):Int)+b))<|.need (dn .i64 ((((a:Nat):Int)+b)+(1:Int)))<|.need (gD ((((a:Nat):Int)+b)+(1:Int)) (List.length c))<|.need (im (Int.toNat ((((a:Nat):Int)+b)+(1:Int))) (List.length c))<|.need (decide ((0:Int)≤(1:Int)))<|.need (decide ((0:Int)≤(IntKind.u64.wrap ((63:Int) - r2))))<|.need (gD ((a:Nat):Int) e)<|.need (im a (List.length (List.set d a (Int.fdiv (List.getD c (Int.toNat (((a:Nat):Int)+b)) 0) (2 ^ (min (Int.toNat r2) (IntKind.u64.bits)))))))<|.leaf (.inl (List.set (List.set d a (Int.fdiv (List.getD c (Int.toNat (((a:Nat):Int)+b)) 0) (2 ^ (min (Int.toNat r2) (IntKind.u64.bits))))) a (eP .or .u64 (List.getD (List.set d a (Int.fdiv (List.getD c (Int.toNat (((a:Nat):Int)+b)) 0) (2 ^ (min (Int.toNat r2) (IntKind.u64.bits))))) a 0) (IntKind.u64.wrap ((IntKind.u64.wrap ((List.getD c (Int.toNat ((((a:Nat):Int)+b)+(1:Int))) 0) * 2 ^ (min (Int.toNat (1:Int)) (IntKind.u64.bits)))) * 2 ^ (min (Int.toNat (IntKind.u64.wrap ((63:Int) - r2))) (IntKind.u64.bits))))))))
      (.leaf (.inl (List.set d a (Int.fdiv (List.getD c (Int.toNat (((a:Nat):Int)+b)) 0) (2 ^ (min (Int.toNat r2) (IntKind.u64.bits))))))))
    (.leaf (.inr (.inl d)))
def aj3(a:Nat)(b:List Int) :T ((Nat×(List Int))⊕(((List Int))⊕(eV))) :=
  .need (dn .i64 (((a+1):Nat):Int))<|.leaf (.inl ((a+1),b))
def Id(b:List Int)(c:Int)(r2:Int)(d:Nat)(e:Nat) :Nat×(List Int)→Option ((Nat×(List Int))⊕(((List Int))⊕(eV))):=fun (a,f) =>
  aE ((BW b c r2 d e a f).run) fun g =>
  (aj3 a g).run
theorem aj4(f:Lv)(b:List Int)(c:Int)(r2:Int)(d:Bool)(a:Nat)(e:Nat)(g:Nat)(h:List Int) :Sg prog [] aj1 (Ic f b c r2 d a e (g,h)) (Id b c r2 a e (g,h)) (Ic f b c r2 d a e) (cL 2 (Sp d a) El):=by
  unfold Id;exact Sg.cut 3 (ay n8) (bk kQ (aj2 f b c r2 d a e g) [⟨[],[0],[0,6,7,8,11,54,55]⟩,⟨[],[0],[0,6,7,8,11,54,55]⟩,⟨[],[0],[8,11]⟩]) (fun i=>bk kQ _ [⟨[],[0],[0,6,7,8,11,54,55]⟩])
def aj5(a:Bool) :Nat×Nat×Nat×(List Int)→aQ:=fun (b,c,d,e)=>⟨ao 97 [(4,.sl 0 1 1 b c d),(5,.bool false a)],[(0,.ns .u64 e)],1⟩
def Sq(a:Nat)(b:List Int) :T ((Nat×Nat×Nat×(List Int))⊕(eV)) :=
  .need (j5 (bH b 0 a a))<|.leaf (.inl ((jG (bH b 0 a a)),(jH (bH b 0 a a)),(jI (bH b 0 a a)),(jJ (bH b 0 a a))))
def aj6(a:Bool)(b:Nat)(c:Nat)(d:Nat)(e:List Int) :T ((Empty)⊕(eV)) :=
  .leaf (.inr (.r0 b c d a e))
def tq(a:List Int)(d:Int) :Option eV:=jR (aE ((H9 a d).run) fun (b,r2,e,f,g) =>
  aE (dc (Ia a f g) (e,0)) fun h =>
  aE ((Ib a b).run) fun (c,i,j) =>
  aE (dc (Id a b r2 c i) (0,j)) fun k =>
  aE ((Sq c k).run) fun (l,m,n,o) =>
  (aj6 h l m n o).run)
theorem anb(b:Lv)(a:List Int)(f:Int){x:eV}(h:tq a f=some x) :aw prog JJ [] [.imm b (.ns .u64 a) 1 1 0 (List.length a),.int .i64 f] (Rb x) :=
  kp true Rb El h (Sg.cut 6 n8 (bk kQ (am8 b a) [⟨[(.slot 4,.own 1 1 (.ns .u64 ([]:List Int)))],[288],[4,5]⟩,⟨[],[],[0,6,7,8,36,37,38]⟩]) (fun ⟨c,r2,s,g,i⟩=>Sg.cut 1 n8 (BM ⟨[],[],[0,6,7,8,36,37,38]⟩ (ME b a c r2 g i) (Wt b a c r2) 0 n8 (Ws _) (fun ⟨k,l⟩=>aj0 b a c r2 g i k l)) (fun d=>Sg.cut 2 n8 (bk kQ (ana b a c r2 d) [⟨[],[64],[0,6,7,8,11,54,55]⟩]) (fun ⟨e,j,t⟩=>Sg.cut 1 n8 (BM ⟨[],[0],[0,6,7,8,11,54,55]⟩ (Ic b a c r2 d e j) (Sp d e) 2 n8 (Ws _) (fun ⟨m,n⟩=>aj4 b a c r2 d e j m n)) (fun u=>Sg.cut 1 n8 (bk kQ (aj5 d) [⟨[],[0],[4,5]⟩]) (fun ⟨v,w,y,z⟩=>bk kQ _ [⟨[],[0],[4,5]⟩]))))))
    (fun x=>by cases x with | r0 o p q r A=>exact jT [.sl 0 1 1 o p q,.bool false r])
def Ft:Option eV→Bool
  | some _=>true
  | none=>false
def Fu:Option eV→Nat
  | some (.r0 x _ _ _ _)=>x
  | _=>0
def Fv:Option eV→Nat
  | some (.r0 _ x _ _ _)=>x
  | _=>0
def Ov:Option eV→Nat
  | some (.r0 _ _ x _ _)=>x
  | _=>0
def Fw:Option eV→Bool
  | some (.r0 _ _ _ x _)=>x
  | _=>false
def Fx:Option eV→List Int
  | some (.r0 _ _ _ _ x)=>x
  | _=>[]
theorem anc{x:Option eV}(h:Ft x=true) :x=some (.r0 (Fu x) (Fv x) (Ov x) (Fw x) (Fx x)):=by
  unfold Ft at h
  split at h <;> first | rfl | (cases h;done) | (rename_i y;cases y;rfl)
def adV:aL:=bJ JJ (.cons (.ns .u64) (.cons (.int .i64) .nil)) fun t=>(fun q=>[⟨Rb (.r0 (Fu q) (Fv q) (Ov q) (Fw q) (Fx q)),[Ft q]⟩]) (tq t.1.2 t.2.1)
theorem afc:aV prog adV:=aR fun t=>(aS (fun h=>anb t.1.1 t.1.2 t.2.1 (anc h)) aZ)
def adW:List aL:=adV :: adU
theorem ug:bd prog (bf adW):=au afc kQ
inductive jL where
  | r0 (a:List Int) (b:Nat) (c:Nat) (d:Bool) (e:Nat)
def adX:jL→AE×aQ
  | .r0 a b c d e=>(.ret,⟨ao 23 [(4,.imm .free (.ns .u64 a) 1 1 b c),(5,.bool false d),(6,.int .i64 ((e:Nat):Int))],[],0⟩)
theorem MF:jC adX:=by intro x;cases x <;> (intro h;cases h)
def Rc:jL→gX
  | .r0 a b c d e=>⟨.tup [.imm .free (.ns .u64 a) 1 1 b c,.bool false d,.int .i64 ((e:Nat):Int)],[]⟩
def ane(a:Lv)(b:Int) :Nat×(List Int)×Nat→aQ:=fun (c,d,e)=>⟨ao 23 [(1,.int .i64 b),(2,.ptr 0 1 0 0),(6,.int .i64 ((c:Nat):Int))],[(0,.vs [.imm a (.ns .u64 d) 1 1 0 e])],1⟩
def Wu(a:List Int) :T ((Nat×(List Int)×Nat)⊕(jL)) :=
  .ask (decide ((0:Int) < (1:Int)))
    (.need (gD (0:Int) 1)<|.need (aP 0 (List.length a) a)<|.need (cF (aJ (ab 0 (List.length a) a)))<|.ask (decide ((((aU (aJ (ab 0 (List.length a) a))):Nat):Int) > (4096:Int)))
      (.leaf (.inl (2,(bh (aJ (ab 0 (List.length a) a))),(aU (aJ (ab 0 (List.length a) a))))))
      (.need (dn .i64 (1:Int))<|.ask (decide ((1:Int) < (1:Int)))
        (.fail)
        (.leaf (.inl (0,(bh (aJ (ab 0 (List.length a) a))),(aU (aJ (ab 0 (List.length a) a))))))))
    (.fail)
def anf(a:Lv)(b:Int)(c:List Int)(d:Nat)(e:Bool) :aQ:=⟨ao 23 [(1,.int .i64 b),(2,.ptr 0 1 0 0),(14,.bool false e)],[(0,.vs [.imm a (.ns .u64 c) 1 1 0 d])],1⟩
def ang(a:Int)(b:Nat) :T ((Bool)⊕(jL)) :=
  .ask (((b:Nat):Int) != (0:Int))
    (.leaf (.inl true))
    (.leaf (.inl (decide (a < (0:Int)))))
def anh:(List Int)×Nat×Nat×Bool→aQ:=fun (a,b,c,d)=>⟨ao 23 [(4,.imm .free (.ns .u64 a) 1 1 b c),(5,.bool false d)],[],0⟩
def MG(c:Int)(a:List Int)(b:Nat)(d:Bool) :T (((List Int)×Nat×Nat×Bool)⊕(jL)) :=
  .ask d
    (.leaf (.inr (.r0 ([]:List Int) 0 0 false 2)))
    (.need (aP 0 b a)<|.need (Ft (tq (ab 0 b a) c))<|.leaf (.inl ((Fx (tq (ab 0 b a) c)),(Fu (tq (ab 0 b a) c)),(Fv (tq (ab 0 b a) c)),(Fw (tq (ab 0 b a) c)))))
def ani(a:List Int)(b:Nat)(c:Nat)(d:Bool) :T ((Empty)⊕(jL)) :=
  .leaf (.inr (.r0 a b c d 0))
def v3(b:List Int)(a:Int) :Option jL:=jR (aE ((Wu b).run) fun (c,d,e) =>
  aE ((ang a c).run) fun f =>
  aE ((MG a d e f).run) fun (g,h,i,j) =>
  (ani g h i j).run)
theorem anj(b:Lv)(c:List Int)(a:Int){x:jL}(h:v3 c a=some x) :aw prog QQ [] [.imm b (.ns .u64 c) 1 1 0 (List.length c),.int .i64 a] (Rc x) :=
  kp true Rc adX h (Sg.cut 2 MF (bk ug (ane b a) [⟨[],[0],[1,2,6]⟩,⟨[],[0],[1,2,6]⟩]) (fun ⟨l,d,e⟩=>Sg.cut 1 MF (bk ug (anf b a d e) [⟨[],[0],[1,2,14]⟩,⟨[],[0],[1,2,14]⟩]) (fun m=>Sg.cut 2 MF (bk ug anh [⟨[(.slot 4,.fre 1 1 (.ns .u64 ([]:List Int)))],[],[4,5,6]⟩,⟨[],[],[4,5]⟩]) (fun ⟨n,o,p,q⟩=>bk ug _ [⟨[],[],[4,5,6]⟩]))))
    (fun x=>by cases x with | r0 f g i j k=>exact jT [.imm .free (.ns .u64 f) 1 1 g i,.bool false j,.int .i64 ((k:Nat):Int)])
def Fy:Option jL→Bool
  | some _=>true
  | none=>false
def Fz:Option jL→List Int
  | some (.r0 x _ _ _ _)=>x
  | _=>[]
def FB:Option jL→Nat
  | some (.r0 _ x _ _ _)=>x
  | _=>0
def FC:Option jL→Nat
  | some (.r0 _ _ x _ _)=>x
  | _=>0
def Ow:Option jL→Bool
  | some (.r0 _ _ _ x _)=>x
  | _=>false
def Ox:Option jL→Nat
  | some (.r0 _ _ _ _ x)=>x
  | _=>0
theorem ank{x:Option jL}(h:Fy x=true) :x=some (.r0 (Fz x) (FB x) (FC x) (Ow x) (Ox x)):=by
  unfold Fy at h
  split at h <;> first | rfl | (cases h;done) | (rename_i y;cases y;rfl)
def adY:aL:=bJ QQ (.cons (.ns .u64) (.cons (.int .i64) .nil)) fun t=>(fun q=>[⟨Rc (.r0 (Fz q) (FB q) (FC q) (Ow q) (Ox q)),[Fy q]⟩]) (v3 t.1.2 t.2.1)
theorem afd:aV prog adY:=aR fun t=>(aS (fun h=>anj t.1.1 t.1.2 t.2.1 (ank h)) aZ)
def adZ:List aL:=adY :: adW
theorem n9:bd prog (bf adZ):=au afd ug
inductive fv where
  | r0 (a:Int) (b:Nat)
def BX:fv→AE×aQ
  | .r0 a b=>(.ret,⟨ao 31 [(2,.int .i64 a),(3,.int .i64 ((b:Nat):Int))],[],0⟩)
theorem qc:jC BX:=by intro x;cases x <;> (intro h;cases h)
theorem afe(id:Nat) :m5 id BX:=by intro x;cases x <;> (intro h;cases h)
def Ie:fv→gX
  | .r0 a b=>⟨.tup [.int .i64 a,.int .i64 ((b:Nat):Int)],[]⟩
def aff:List Code:=cP (nO Bz)
def afg(a:Lv) :Nat×(List Int)×Nat→aQ:=fun (b,c,d)=>⟨ao 31 [(1,.ptr 0 1 0 0),(4,.int .i64 ((b:Nat):Int))],[(0,.vs [.imm a (.ns .u64 c) 1 1 0 d])],1⟩
def Ky(a:List Int) :T ((Nat×(List Int)×Nat)⊕(fv)) :=
  .ask (decide ((0:Int) < (1:Int)))
    (.need (gD (0:Int) 1)<|.need (aP 0 (List.length a) a)<|.need (cF (aJ (ab 0 (List.length a) a)))<|.ask (decide ((((aU (aJ (ab 0 (List.length a) a))):Nat):Int) > (4096:Int)))
      (.leaf (.inl (2,(bh (aJ (ab 0 (List.length a) a))),(aU (aJ (ab 0 (List.length a) a))))))
      (.need (dn .i64 (1:Int))<|.ask (decide ((1:Int) < (1:Int)))
        (.fail)
        (.leaf (.inl (0,(bh (aJ (ab 0 (List.length a) a))),(aU (aJ (ab 0 (List.length a) a))))))))
    (.fail)
def afh(a:Lv)(b:Nat)(c:List Int)(d:Nat)(e:Bool) :aQ:=⟨ao 31 [(1,.ptr 0 1 0 0),(4,.int .i64 ((b:Nat):Int)),(14,.bool false e)],[(0,.vs [.imm a (.ns .u64 c) 1 1 0 d])],1⟩
def ZG(a:Nat)(b:Nat) :T ((Bool)⊕(fv)) :=
  .ask (((a:Nat):Int) != (0:Int))
    (.leaf (.inl true))
    (.leaf (.inl (((b:Nat):Int) == (0:Int))))
def afi(a:Lv)(b:List Int)(c:Nat)(_:Unit) :aQ:=⟨ao 31 [(1,.ptr 0 1 0 0),(5,.int .i64 (0:Int))],[(0,.vs [.imm a (.ns .u64 b) 1 1 0 c])],1⟩
def ZH(a:Nat)(b:Bool) :T ((Unit)⊕(fv)) :=
  .ask b
    (.leaf (.inr (.r0 (0:Int) a)))
    (.leaf (.inl ()))
def FD(a:Lv)(b:List Int)(c:Nat)(d:Nat) :aQ:=⟨ao 31 [(1,.ptr 0 1 0 0),(5,.int .i64 ((d:Nat):Int))],[(0,.vs [.imm a (.ns .u64 b) 1 1 0 c])],1⟩
def Oy(a:Lv)(b:List Int)(c:Nat)(d:Nat) :aQ:=⟨ao 31 [(1,.ptr 0 1 0 0),(5,.int .i64 ((d:Nat):Int))],[(0,.vs [.imm a (.ns .u64 b) 1 1 0 c])],1⟩
def ZI:List Code:=cP (dD ((((((aff.drop 2).drop 1).drop 2).take 1)).headD .skip))
def qK(b:List Int)(c:Nat)(a:Nat) :T ((Nat)⊕((Nat)⊕(fv))) :=
  .need (gD ((a:Nat):Int) c)<|.need (im a (List.length b))<|.ask ((List.getD b a 0) == (0:Int))
    (.need (dn .i64 (((a+1):Nat):Int))<|.leaf (.inl (a+1)))
    (.leaf (.inr (.inl a)))
def CD(a:List Int)(b:Nat) :Nat→Option ((Nat)⊕((Nat)⊕(fv))):=fun c =>
  (qK a b c).run
theorem ZJ(c:Lv)(a:List Int)(b:Nat)(d:Nat) :Sg prog [] ZI (FD c a b d) (CD a b d) (FD c a b) (cL 0 (Oy c a b) BX):=by
  unfold CD;exact bk n9 _ [⟨[],[0],[1,5]⟩,⟨[],[0],[1,5]⟩]
def afj(a:Int) :aQ:=⟨ao 31 [(2,.int .i64 a),(3,.int .i64 (0:Int))],[],0⟩
def Kz(b:List Int)(c:Nat)(a:Nat) :T ((Int)⊕(fv)) :=
  .need (dn .i64 (((64 * a):Nat):Int))<|.need (gD ((a:Nat):Int) c)<|.need (im a (List.length b))<|.need (eQ (dW (List.getD b a 0)))<|.need (dn .i64 ((((64 * a):Nat):Int)+(ej (dW (List.getD b a 0)))))<|.leaf (.inl ((((64 * a):Nat):Int)+(ej (dW (List.getD b a 0)))))
def ZK(a:Int) :T ((Empty)⊕(fv)) :=
  .leaf (.inr (.r0 a 0))
def xC(d:List Int) :Option fv:=jR (aE ((Ky d).run) fun (b,c,a) =>
  aE ((ZG b a).run) fun e =>
  aE ((ZH b e).run) fun _ =>
  aE (dc (CD c a) 0) fun f =>
  aE ((Kz c a f).run) fun g =>
  (ZK g).run)
theorem afk(a:Lv)(d:List Int){x:fv}(h:xC d=some x) :aw prog Bz [] [.imm a (.ns .u64 d) 1 1 0 (List.length d)] (Ie x) :=
  kp true Ie BX h (Sg.cut 2 qc (bk n9 (afg a) [⟨[],[0],[1,4]⟩,⟨[],[0],[1,4]⟩]) (fun ⟨e,b,c⟩=>Sg.cut 1 qc (bk n9 (afh a e b c) [⟨[],[0],[1,4,14]⟩,⟨[],[0],[1,4,14]⟩]) (fun j=>Sg.cut 2 qc (bk n9 (afi a b c) [⟨[],[],[2,3]⟩,⟨[],[0],[1,5]⟩]) (fun _=>Sg.cut 1 qc (BM ⟨[],[0],[1,5]⟩ (FD a b c) (Oy a b c) 0 qc (afe _) (fun f=>ZJ a b c f)) (fun k=>Sg.cut 1 qc (bk n9 afj [⟨[],[],[2,3]⟩]) (fun l=>bk n9 _ [⟨[],[],[2,3]⟩]))))))
    (fun x=>by cases x with | r0 g i=>exact jT [.int .i64 g,.int .i64 ((i:Nat):Int)])
def yY:Option fv→Bool
  | some _=>true
  | none=>false
def zY:Option fv→Int
  | some (.r0 x _)=>x
  | _=>0
def If:Option fv→Nat
  | some (.r0 _ x)=>x
  | _=>0
theorem afl{x:Option fv}(h:yY x=true) :x=some (.r0 (zY x) (If x)):=by
  unfold yY at h
  split at h <;> first | rfl | (cases h;done) | (rename_i y;cases y;rfl)
def Sr:aL:=bJ Bz (.cons (.ns .u64) .nil) fun t=>(fun q=>[⟨Ie (.r0 (zY q) (If q)),[yY q]⟩]) (xC t.1.2)
theorem Wv:aV prog Sr:=aR fun t=>(aS (fun h=>afk t.1.1 t.1.2 (afl h)) aZ)
def Ss:List aL:=Sr :: adZ
theorem py:bd prog (bf Ss):=au Wv n9
inductive fw where
  | r0 (a:Bool) (b:List Int) (c:Nat) (d:Nat) (e:Int)
def St:fw→AE×aQ
  | .r0 a b c d e=>(.ret,⟨ao 37 [(2,.ptr 0 1 0 0)],[(0,.vs [.bool false a,.imm .free (.ns .u64 b) 1 1 c d,.int .i64 e])],1⟩)
theorem FE:jC St:=by intro x;cases x <;> (intro h;cases h)
def Ig:fw→gX
  | .r0 a b c d e=>⟨.agg [.bool false a,.imm .free (.ns .u64 b) 1 1 c d,.int .i64 e],[]⟩
def afm(b:Bool)(c:Lv)(a:List Int)(d:Int) :(List Int)×Nat×Bool→aQ:=fun (e,f,g)=>⟨ao 37 [(1,.ptr 0 1 0 0),(2,.ptr 1 1 0 0),(3,.imm .free (.ns .u64 e) 1 1 0 f)],[(0,.vs [.bool false b,.imm c (.ns .u64 a) 1 1 0 (List.length a),.int .i64 d]),(1,.vs [.bool false g,.nsl,.int .i64 (0:Int)])],2⟩
def FF(a:List Int) :T (((List Int)×Nat×Bool)⊕(fw)) :=
  .need (aP 0 (List.length a) a)<|.need (xx (px (ab 0 (List.length a) a)))<|.leaf (.inl ((CA (px (ab 0 (List.length a) a))),(Cy (px (ab 0 (List.length a) a))),false))
def afn(b:Bool)(c:Lv)(a:List Int)(d:Int)(e:List Int)(f:Nat)(g:Bool)(h:Int) :aQ:=⟨ao 37 [(1,.ptr 0 1 0 0),(2,.ptr 1 1 0 0),(3,.imm .free (.ns .u64 e) 1 1 0 f),(5,.int .i64 h)],[(0,.vs [.bool false b,.imm c (.ns .u64 a) 1 1 0 (List.length a),.int .i64 d]),(1,.vs [.bool false g,.nsl,.int .i64 (0:Int)])],2⟩
def FG(b:List Int)(a:Nat) :T ((Int)⊕(fw)) :=
  .ask (((a:Nat):Int) == (0:Int))
    (.leaf (.inr (.r0 false ([]:List Int) 0 0 (0:Int))))
    (.need (aP 0 a b)<|.need (yY (xC (ab 0 a b)))<|.leaf (.inl (zY (xC (ab 0 a b)))))
def afp(b:Bool)(c:Lv)(a:List Int)(d:Int)(e:Bool)(f:Int) :(List Int)×Nat×Nat→aQ:=fun (g,h,i)=>⟨ao 37 [(1,.ptr 0 1 0 0),(2,.ptr 1 1 0 0),(3,.imm .free (.ns .u64 g) 1 1 h i),(5,.int .i64 f)],[(0,.vs [.bool false b,.imm c (.ns .u64 a) 1 1 0 (List.length a),.int .i64 d]),(1,.vs [.bool false e,.nsl,.int .i64 (0:Int)])],2⟩
def FH(a:List Int)(b:Nat)(c:Int) :T (((List Int)×Nat×Nat)⊕(fw)) :=
  .need (aP 0 b a)<|.need (Fy (v3 (ab 0 b a) c))<|.leaf (.inl ((Fz (v3 (ab 0 b a) c)),(FB (v3 (ab 0 b a) c)),(FC (v3 (ab 0 b a) c))))
def afq(c:Bool)(a:Int)(b:Int)(d:List Int)(e:Nat)(f:Nat) :T ((Empty)⊕(fw)) :=
  .need (dn .i64 (a+b))<|.leaf (.inr (.r0 c d e f (a+b)))
def aI(d:Bool)(e:List Int)(f:Int) :Option fw:=jR (aE ((FF e).run) fun (a,b,j) =>
  aE ((FG a b).run) fun c =>
  aE ((FH a b c).run) fun (g,h,i) =>
  (afq d f c g h i).run)
theorem afs(b:Bool)(d:Lv)(a:List Int)(c:Int){x:fw}(h:aI b a c=some x) :aw prog HA [] [.agg [.bool false b,.imm d (.ns .u64 a) 1 1 0 (List.length a),.int .i64 c]] (Ig x) :=
  kp true Ig St h (Sg.cut 2 FE (bk py (afm b d a c) [⟨[],[0,16],[1,2,3]⟩]) (fun ⟨f,g,e⟩=>Sg.cut 3 FE (bk py (afn b d a c f g e) [⟨[(.cell 1 1,.fre 1 1 (.ns .u64 ([]:List Int)))],[1],[2]⟩,⟨[],[0,1],[1,2,3,5]⟩]) (fun i=>Sg.cut 1 FE (bk py (afp b d a c e i) [⟨[],[0,1],[1,2,3,5]⟩]) (fun ⟨o,p,q⟩=>bk py _ [⟨[],[1],[2]⟩]))))
    (fun x=>by cases x with | r0 j k l m n=>exact jT [.agg [.bool false j,.imm .free (.ns .u64 k) 1 1 l m,.int .i64 n]])
def f6:Option fw→Bool
  | some _=>true
  | none=>false
def dp:Option fw→Bool
  | some (.r0 x _ _ _ _)=>x
  | _=>false
def dq:Option fw→List Int
  | some (.r0 _ x _ _ _)=>x
  | _=>[]
def dr:Option fw→Nat
  | some (.r0 _ _ x _ _)=>x
  | _=>0
def dt:Option fw→Nat
  | some (.r0 _ _ _ x _)=>x
  | _=>0
def du:Option fw→Int
  | some (.r0 _ _ _ _ x)=>x
  | _=>0
theorem aft{x:Option fw}(h:f6 x=true) :x=some (.r0 (dp x) (dq x) (dr x) (dt x) (du x)):=by
  unfold f6 at h
  split at h <;> first | rfl | (cases h;done) | (rename_i y;cases y;rfl)
def Su:aL:=bJ HA (.cons (.agg (.cons .bool (.cons (.ns .u64) (.cons (.int .i64) .nil)))) .nil) fun t=>(fun q=>[⟨Ig (.r0 (dp q) (dq q) (dr q) (dt q) (du q)),[f6 q]⟩]) (aI t.1.1 t.1.2.1.2 t.1.2.2.1)
theorem Ww:aV prog Su:=aR fun t=>(aS (fun h=>afs t.1.1 t.1.2.1.1 t.1.2.1.2 t.1.2.2.1 (aft h)) aZ)
def Sv:List aL:=Su :: Ss
theorem uh:bd prog (bf Sv):=au Ww py
inductive m7 where
  | r0 (a:Bool)
def Wx:m7→AE×aQ
  | .r0 a=>(.ret,⟨ao 18 [(2,.bool false a)],[],0⟩)
theorem Sw:jC Wx:=by intro x;cases x <;> (intro h;cases h)
def MH:m7→gX
  | .r0 a=>⟨.bool false a,[]⟩
def aj7(b:Bool)(c:Lv)(a:List Int)(d:Int)(e:Nat) :aQ:=⟨ao 18 [(1,.ptr 0 1 0 0),(4,.int .i64 ((e:Nat):Int))],[(0,.vs [.bool false b,.imm c (.ns .u64 a) 1 1 0 (List.length a),.int .i64 d])],1⟩
def Sx(a:List Int) :T ((Nat)⊕(m7)) :=
  .need (aP 0 (List.length a) a)<|.need (xx (px (ab 0 (List.length a) a)))<|.leaf (.inl (Cz (px (ab 0 (List.length a) a))))
def aj8(a:Bool) :aQ:=⟨ao 18 [(2,.bool false a)],[],0⟩
def aj9(a:Int)(b:Nat) :T ((Bool)⊕(m7)) :=
  .ask (((b:Nat):Int) == (0:Int))
    (.ask (decide (a ≥ (-262144:Int)))
      (.leaf (.inl (decide (a≤(262144:Int)))))
      (.leaf (.inl false)))
    (.leaf (.inl false))
def aka(a:Bool) :T ((Empty)⊕(m7)) :=
  .leaf (.inr (.r0 a))
def em(a:List Int)(b:Int) :Option m7:=jR (aE ((Sx a).run) fun c =>
  aE ((aj9 b c).run) fun d =>
  (aka d).run)
theorem akb(c:Bool)(d:Lv)(a:List Int)(b:Int){x:m7}(h:em a b=some x) :aw prog Mh [] [.agg [.bool false c,.imm d (.ns .u64 a) 1 1 0 (List.length a),.int .i64 b]] (MH x) :=
  kp true MH Wx h (Sg.cut 2 Sw (bk uh (aj7 c d a b) [⟨[],[0],[1,4]⟩]) (fun f=>Sg.cut 1 Sw (bk uh aj8 [⟨[],[],[2]⟩,⟨[],[],[2]⟩,⟨[],[],[2]⟩]) (fun g=>bk uh _ [⟨[],[],[2]⟩])))
    (fun x=>by cases x with | r0 e=>exact jT [.bool false e])
def j6:Option m7→Bool
  | some _=>true
  | none=>false
def iK:Option m7→Bool
  | some (.r0 x)=>x
  | _=>false
theorem akc{x:Option m7}(h:j6 x=true) :x=some (.r0 (iK x)):=by
  unfold j6 at h
  split at h <;> first | rfl | (cases h;done) | (rename_i y;cases y;rfl)
def Wy:aL:=bJ Mh (.cons (.agg (.cons .bool (.cons (.ns .u64) (.cons (.int .i64) .nil)))) .nil) fun t=>(fun q=>[⟨MH (.r0 (iK q)),[j6 q]⟩]) (em t.1.2.1.2 t.1.2.2.1)
theorem ZL:aV prog Wy:=aR fun t=>(aS (fun h=>akb t.1.1 t.1.2.1.1 t.1.2.1.2 t.1.2.2.1 (akc h)) aZ)
def Wz:List aL:=Wy :: Sv
theorem wO:bd prog (bf Wz):=au ZL uh
inductive eK where
  | r0 (a:Nat) (b:Int) (c:List Int) (d:Nat) (e:List Int) (f:Nat)
def Oz:eK→AE×aQ
  | .r0 a b c d e f=>(.ret,⟨ao 57 [(4,.ptr 0 1 0 0),(5,.int .i64 ((a:Nat):Int))],[(0,.vs [.int .i64 b,.imm .free (.ns .u64 c) 1 1 0 d,.imm .free (.ns .u64 e) 1 1 0 f])],1⟩)
theorem KA:jC Oz:=by intro x;cases x <;> (intro h;cases h)
def FI:eK→gX
  | .r0 a b c d e f=>⟨.tup [.agg [.int .i64 b,.imm .free (.ns .u64 c) 1 1 0 d,.imm .free (.ns .u64 e) 1 1 0 f],.int .i64 ((a:Nat):Int)],[]⟩
def ZM(c:Bool)(d:Lv)(a:List Int)(e:Int)(f:Bool)(g:Lv)(b:List Int)(h:Int)(i:Int) :aQ:=⟨ao 57 [(2,.ptr 0 1 0 0),(3,.ptr 1 1 0 0),(4,.ptr 2 1 0 0),(6,.ptr 3 1 0 0)],[(0,.vs [.bool false c,.imm d (.ns .u64 a) 1 1 0 (List.length a),.int .i64 e]),(1,.vs [.bool false f,.imm g (.ns .u64 b) 1 1 0 (List.length b),.int .i64 h]),(2,.vs [.int .i64 (0:Int),.nsl,.nsl]),(3,.vs [.int .i64 i,.nsl,.nsl])],4⟩
def qL(c:List Int)(a:Int)(d:List Int)(b:Int) :T ((Int)⊕(eK)) :=
  .ask ((((List.length c):Nat):Int) == (0:Int))
    (.leaf (.inl b))
    (.ask ((((List.length d):Nat):Int) == (0:Int))
      (.leaf (.inl a))
      (.need (dn .i64 ((lQ a b) - (qy a b)))<|.ask (decide (((lQ a b) - (qy a b)) > (262144:Int)))
        (.leaf (.inr (.r0 3 (0:Int) ([]:List Int) 0 ([]:List Int) 0)))
        (.leaf (.inl (qy a b)))))
def ZN(a:Int) :(List Int)×Nat×(List Int)×Nat→aQ:=fun (b,c,d,e)=>⟨ao 57 [(4,.ptr 0 1 0 0),(6,.ptr 1 1 0 0)],[(0,.vs [.int .i64 (0:Int),.nsl,.nsl]),(1,.vs [.int .i64 a,.imm .free (.ns .u64 b) 1 1 0 c,.imm .free (.ns .u64 d) 1 1 0 e])],2⟩
def kZ(c:List Int)(e:Int)(a:List Int)(d:Int)(b:Int) :T (((List Int)×Nat×(List Int)×Nat)⊕(eK)) :=
  .ask ((((List.length c):Nat):Int) == (0:Int))
    (.ask ((((List.length a):Nat):Int) == (0:Int))
      (.leaf (.inl (([]:List Int),0,([]:List Int),0)))
      (.need (dn .i64 (d - b))<|.need (aP 0 (List.length a) a)<|.need (vZ (jK (ab 0 (List.length a) a) (d - b)))<|.leaf (.inl (([]:List Int),0,(qa (jK (ab 0 (List.length a) a) (d - b))),(qb (jK (ab 0 (List.length a) a) (d - b)))))))
    (.need (dn .i64 (e - b))<|.need (aP 0 (List.length c) c)<|.need (vZ (jK (ab 0 (List.length c) c) (e - b)))<|.ask ((((List.length a):Nat):Int) == (0:Int))
      (.leaf (.inl ((qa (jK (ab 0 (List.length c) c) (e - b))),(qb (jK (ab 0 (List.length c) c) (e - b))),([]:List Int),0)))
      (.need (dn .i64 (d - b))<|.need (aP 0 (List.length a) a)<|.need (vZ (jK (ab 0 (List.length a) a) (d - b)))<|.leaf (.inl ((qa (jK (ab 0 (List.length c) c) (e - b))),(qb (jK (ab 0 (List.length c) c) (e - b))),(qa (jK (ab 0 (List.length a) a) (d - b))),(qb (jK (ab 0 (List.length a) a) (d - b)))))))
def ZO(a:Int)(b:List Int)(c:Nat)(d:List Int)(e:Nat) :T ((Empty)⊕(eK)) :=
  .leaf (.inr (.r0 0 a b c d e))
def dI(a:List Int)(b:Int)(c:List Int)(d:Int) :Option eK:=jR (aE ((qL a b c d).run) fun e =>
  aE ((kZ a b c d e).run) fun (f,g,h,i) =>
  (ZO e f g h i).run)
theorem ZP(e:Bool)(f:Lv)(a:List Int)(c:Int)(g:Bool)(i:Lv)(b:List Int)(d:Int){x:eK}(h:dI a c b d=some x) :aw prog E6 [] [.agg [.bool false e,.imm f (.ns .u64 a) 1 1 0 (List.length a),.int .i64 c],.agg [.bool false g,.imm i (.ns .u64 b) 1 1 0 (List.length b),.int .i64 d]] (FI x) :=
  kp true FI Oz h (Sg.cut 3 KA (bk wO (ZM e f a c g i b d) [⟨[],[0,16,32,176],[2,3,4,6]⟩,⟨[],[0,16,32,176],[2,3,4,6]⟩,⟨[(.cell 32 1,.fre 1 1 (.ns .u64 ([]:List Int))),(.cell 32 2,.fre 1 1 (.ns .u64 ([]:List Int)))],[32],[4,5]⟩,⟨[],[0,16,32,176],[2,3,4,6]⟩]) (fun j=>Sg.cut 2 KA (bk wO (ZN j) [⟨[(.cell 3 1,.fre 1 1 (.ns .u64 ([]:List Int))),(.cell 3 2,.fre 1 1 (.ns .u64 ([]:List Int)))],[2,3],[4,6]⟩,⟨[(.cell 3 1,.fre 1 1 (.ns .u64 ([]:List Int)))],[2,3],[4,6]⟩,⟨[(.cell 3 2,.fre 1 1 (.ns .u64 ([]:List Int)))],[2,3],[4,6]⟩,⟨[],[2,3],[4,6]⟩]) (fun ⟨q,r,s,t⟩=>bk wO _ [⟨[],[0],[4,5]⟩])))
    (fun x=>by cases x with | r0 k l m n o p=>exact jT [.agg [.int .i64 l,.imm .free (.ns .u64 m) 1 1 0 n,.imm .free (.ns .u64 o) 1 1 0 p],.int .i64 ((k:Nat):Int)])
def qM:Option eK→Bool
  | some _=>true
  | none=>false
def rV:Option eK→Nat
  | some (.r0 x _ _ _ _ _)=>x
  | _=>0
def rW:Option eK→Int
  | some (.r0 _ x _ _ _ _)=>x
  | _=>0
def rX:Option eK→List Int
  | some (.r0 _ _ x _ _ _)=>x
  | _=>[]
def rY:Option eK→Nat
  | some (.r0 _ _ _ x _ _)=>x
  | _=>0
def rZ:Option eK→List Int
  | some (.r0 _ _ _ _ x _)=>x
  | _=>[]
def r5:Option eK→Nat
  | some (.r0 _ _ _ _ _ x)=>x
  | _=>0
theorem ZQ{x:Option eK}(h:qM x=true) :x=some (.r0 (rV x) (rW x) (rX x) (rY x) (rZ x) (r5 x)):=by
  unfold qM at h
  split at h <;> first | rfl | (cases h;done) | (rename_i y;cases y;rfl)
def OA:aL:=bJ E6 (.cons (.agg (.cons .bool (.cons (.ns .u64) (.cons (.int .i64) .nil)))) (.cons (.agg (.cons .bool (.cons (.ns .u64) (.cons (.int .i64) .nil)))) .nil)) fun t=>(fun q=>[⟨FI (.r0 (rV q) (rW q) (rX q) (rY q) (rZ q) (r5 q)),[qM q]⟩]) (dI t.1.2.1.2 t.1.2.2.1 t.2.1.2.1.2 t.2.1.2.2.1)
theorem TS:aV prog OA:=aR fun t=>(aS (fun h=>ZP t.1.1 t.1.2.1.1 t.1.2.1.2 t.1.2.2.1 t.2.1.1 t.2.1.2.1.1 t.2.1.2.1.2 t.2.1.2.2.1 (ZQ h)) aZ)
def OB:List aL:=OA :: Wz
theorem r6:bd prog (bf OB):=au TS wO
inductive fB where
  | r0 (a:Nat) (b:Bool) (c:List Int) (d:Nat) (e:Nat) (f:Int)
def Sy:fB→AE×aQ
  | .r0 a b c d e f=>(.ret,⟨ao 11 [(2,.ptr 0 1 0 0),(3,.int .i64 ((a:Nat):Int))],[(0,.vs [.bool false b,.imm .free (.ns .u64 c) 1 1 d e,.int .i64 f])],1⟩)
theorem OC:jC Sy:=by intro x;cases x <;> (intro h;cases h)
def Ih:fB→gX
  | .r0 a b c d e f=>⟨.tup [.agg [.bool false b,.imm .free (.ns .u64 c) 1 1 d e,.int .i64 f],.int .i64 ((a:Nat):Int)],[]⟩
def afu:Bool×(List Int)×Nat×Nat×Int×Bool→aQ:=fun (a,b,c,d,e,f)=>⟨ao 11 [(1,.ptr 0 1 0 0),(2,.ptr 1 1 0 0)],[(0,.vs [.bool false a,.imm .free (.ns .u64 b) 1 1 c d,.int .i64 e]),(1,.vs [.bool false f,.nsl,.int .i64 (0:Int)])],2⟩
def OD(b:Bool)(a:List Int)(c:Int) :T ((Bool×(List Int)×Nat×Nat×Int×Bool)⊕(fB)) :=
  .need (aP 0 (List.length a) a)<|.need (f6 (aI b (ab 0 (List.length a) a) c))<|.leaf (.inl ((dp (aI b (ab 0 (List.length a) a) c)),(dq (aI b (ab 0 (List.length a) a) c)),(dr (aI b (ab 0 (List.length a) a) c)),(dt (aI b (ab 0 (List.length a) a) c)),(du (aI b (ab 0 (List.length a) a) c)),false))
def afv(a:Bool)(b:List Int)(c:Nat)(d:Nat)(e:Int)(f:Bool)(g:Bool) :aQ:=⟨ao 11 [(1,.ptr 0 1 0 0),(2,.ptr 1 1 0 0),(8,.bool false g)],[(0,.vs [.bool false a,.imm .free (.ns .u64 b) 1 1 c d,.int .i64 e]),(1,.vs [.bool false f,.nsl,.int .i64 (0:Int)])],2⟩
def FJ(a:List Int)(b:Nat)(c:Nat)(d:Int) :T ((Bool)⊕(fB)) :=
  .need (aP b c a)<|.need (j6 (em (ab b c a) d))<|.leaf (.inl (!(iK (em (ab b c a) d))))
def afw(a:Bool)(b:List Int)(c:Nat)(d:Nat)(e:Int)(f:Bool) :T ((Empty)⊕(fB)) :=
  .ask f
    (.leaf (.inr (.r0 3 false ([]:List Int) 0 0 (0:Int))))
    (.leaf (.inr (.r0 0 a b c d e)))
def cG(e:Bool)(f:List Int)(g:Int) :Option fB:=jR (aE ((OD e f g).run) fun (h,a,b,c,d,j) =>
  aE ((FJ a b c d).run) fun i =>
  (afw h a b c d i).run)
theorem afx(b:Bool)(d:Lv)(a:List Int)(c:Int){x:fB}(h:cG b a c=some x) :aw prog HE [] [.agg [.bool false b,.imm d (.ns .u64 a) 1 1 0 (List.length a),.int .i64 c]] (Ih x) :=
  kp true Ih Sy h (Sg.cut 2 OC (bk r6 afu [⟨[],[0,16],[1,2]⟩]) (fun ⟨e,f,g,i,j,k⟩=>Sg.cut 1 OC (bk r6 (afv e f g i j k) [⟨[],[0,1],[1,2,8]⟩]) (fun r=>bk r6 _ [⟨[(.cell 1 1,.fre 1 1 (.ns .u64 ([]:List Int)))],[1],[2,3]⟩,⟨[],[1],[2,3]⟩])))
    (fun x=>by cases x with | r0 l m n o p q=>exact jT [.agg [.bool false m,.imm .free (.ns .u64 n) 1 1 o p,.int .i64 q],.int .i64 ((l:Nat):Int)])
def qd:Option fB→Bool
  | some _=>true
  | none=>false
def pz:Option fB→Nat
  | some (.r0 x _ _ _ _ _)=>x
  | _=>0
def pA:Option fB→Bool
  | some (.r0 _ x _ _ _ _)=>x
  | _=>false
def pB:Option fB→List Int
  | some (.r0 _ _ x _ _ _)=>x
  | _=>[]
def pC:Option fB→Nat
  | some (.r0 _ _ _ x _ _)=>x
  | _=>0
def pD:Option fB→Nat
  | some (.r0 _ _ _ _ x _)=>x
  | _=>0
def pE:Option fB→Int
  | some (.r0 _ _ _ _ _ x)=>x
  | _=>0
theorem afy{x:Option fB}(h:qd x=true) :x=some (.r0 (pz x) (pA x) (pB x) (pC x) (pD x) (pE x)):=by
  unfold qd at h
  split at h <;> first | rfl | (cases h;done) | (rename_i y;cases y;rfl)
def Sz:aL:=bJ HE (.cons (.agg (.cons .bool (.cons (.ns .u64) (.cons (.int .i64) .nil)))) .nil) fun t=>(fun q=>[⟨Ih (.r0 (pz q) (pA q) (pB q) (pC q) (pD q) (pE q)),[qd q]⟩]) (cG t.1.1 t.1.2.1.2 t.1.2.2.1)
theorem WA:aV prog Sz:=aR fun t=>(aS (fun h=>afx t.1.1 t.1.2.1.1 t.1.2.1.2 t.1.2.2.1 (afy h)) aZ)
def SA:List aL:=Sz :: OB
theorem zZ:bd prog (bf SA):=au WA r6
inductive fa where
  | r0 (a:Nat) (b:Bool) (c:List Int) (d:Nat) (e:Nat) (f:Int)
def OE:fa→AE×aQ
  | .r0 a b c d e f=>(.ret,⟨ao 21 [(7,.ptr 0 1 0 0),(8,.int .i64 ((a:Nat):Int))],[(0,.vs [.bool false b,.imm .free (.ns .u64 c) 1 1 d e,.int .i64 f])],1⟩)
theorem ZR:jC OE:=by intro x;cases x <;> (intro h;cases h)
def FK:fa→gX
  | .r0 a b c d e f=>⟨.tup [.agg [.bool false b,.imm .free (.ns .u64 c) 1 1 d e,.int .i64 f],.int .i64 ((a:Nat):Int)],[]⟩
def ZS:Nat×Bool×(List Int)×Nat×Nat×Int→aQ:=fun (a,b,c,d,e,f)=>⟨ao 21 [(7,.ptr 0 1 0 0),(8,.int .i64 ((a:Nat):Int))],[(0,.vs [.bool false b,.imm .free (.ns .u64 c) 1 1 d e,.int .i64 f])],1⟩
def KB(b:Bool)(a:List Int)(d:Int)(c:Int) :T ((Nat×Bool×(List Int)×Nat×Nat×Int)⊕(fa)) :=
  .ask (d != (0:Int))
    (.leaf (.inr (.r0 3 false ([]:List Int) 0 0 (0:Int))))
    (.need (aP 0 (List.length a) a)<|.need (qd (cG b (ab 0 (List.length a) a) c))<|.leaf (.inl ((pz (cG b (ab 0 (List.length a) a) c)),(pA (cG b (ab 0 (List.length a) a) c)),(pB (cG b (ab 0 (List.length a) a) c)),(pC (cG b (ab 0 (List.length a) a) c)),(pD (cG b (ab 0 (List.length a) a) c)),(pE (cG b (ab 0 (List.length a) a) c)))))
def ZT(a:Nat)(b:Bool)(c:List Int)(d:Nat)(e:Nat)(f:Int) :T ((Empty)⊕(fa)) :=
  .leaf (.inr (.r0 a b c d e f))
def cw(a:Bool)(b:List Int)(c:Int)(d:Int) :Option fa:=jR (aE ((KB a b c d).run) fun (e,f,g,h,i,j) =>
  (ZT e f g h i j).run)
theorem ZU(b:Bool)(g:Lv)(a:List Int)(c:Int)(i:Lv)(d:Int)(j:Lv)(e:List Int)(k:Lv)(f:List Int){x:fa}(h:cw b a c d=some x) :aw prog p7 [] [.bool false b,.imm g (.ns .u64 a) 1 1 0 (List.length a),.int .i64 c,.iptr i (.vs [.int .i64 d,.imm j (.ns .u64 e) 1 1 0 (List.length e),.imm k (.ns .u64 f) 1 1 0 (List.length f)]) 1 0 0] (FK x) :=
  kp false FK OE h (Sg.cut 4 ZR (bk zZ ZS [⟨[(.cell 0 1,.fre 1 1 (.ns .u64 ([]:List Int)))],[0],[7,8]⟩,⟨[],[0],[7,8]⟩]) (fun ⟨r,s,t,u,v,w⟩=>bk zZ _ [⟨[],[0],[7,8]⟩]))
    (fun x=>by cases x with | r0 l m n o p q=>exact jT [.agg [.bool false m,.imm .free (.ns .u64 n) 1 1 o p,.int .i64 q],.int .i64 ((l:Nat):Int)])
def oW:Option fa→Bool
  | some _=>true
  | none=>false
def oD:Option fa→Nat
  | some (.r0 x _ _ _ _ _)=>x
  | _=>0
def oE:Option fa→Bool
  | some (.r0 _ x _ _ _ _)=>x
  | _=>false
def oF:Option fa→List Int
  | some (.r0 _ _ x _ _ _)=>x
  | _=>[]
def oG:Option fa→Nat
  | some (.r0 _ _ _ x _ _)=>x
  | _=>0
def oH:Option fa→Nat
  | some (.r0 _ _ _ _ x _)=>x
  | _=>0
def oI:Option fa→Int
  | some (.r0 _ _ _ _ _ x)=>x
  | _=>0
theorem ZV{x:Option fa}(h:oW x=true) :x=some (.r0 (oD x) (oE x) (oF x) (oG x) (oH x) (oI x)):=by
  unfold oW at h
  split at h <;> first | rfl | (cases h;done) | (rename_i y;cases y;rfl)
def OF:aL:=bJ p7 (.cons .bool (.cons (.ns .u64) (.cons (.int .i64) (.cons (.ivs (.cons (.int .i64) (.cons (.ns .u64) (.cons (.ns .u64) .nil))) 1 0 0) .nil)))) fun t=>(fun q=>[⟨FK (.r0 (oD q) (oE q) (oF q) (oG q) (oH q) (oI q)),[oW q]⟩]) (cw t.1 t.2.1.2 t.2.2.1 t.2.2.2.1.2.1)
theorem TT:aV prog OF:=aR fun t=>(aS (fun h=>ZU t.1 t.2.1.1 t.2.1.2 t.2.2.1 t.2.2.2.1.1 t.2.2.2.1.2.1 t.2.2.2.1.2.2.1.1 t.2.2.2.1.2.2.1.2 t.2.2.2.1.2.2.2.1.1 t.2.2.2.1.2.2.2.1.2 (ZV h)) aZ)
def OG:List aL:=OF :: SA
theorem g7:bd prog (bf OG):=au TT zZ
inductive er where
  | r0 (a:Nat) (b:Bool) (c:List Int) (d:Nat) (e:Nat) (f:Int)
def WB:er→AE×aQ
  | .r0 a b c d e f=>(.ret,⟨ao 97 [(4,.ptr 0 1 0 0),(5,.int .i64 ((a:Nat):Int))],[(0,.vs [.bool false b,.imm .free (.ns .u64 c) 1 1 d e,.int .i64 f])],1⟩)
theorem pF:jC WB:=by intro x;cases x <;> (intro h;cases h)
def MI:er→gX
  | .r0 a b c d e f=>⟨.tup [.agg [.bool false b,.imm .free (.ns .u64 c) 1 1 d e,.int .i64 f],.int .i64 ((a:Nat):Int)],[]⟩
def akd(a:Lv)(b:Lv) :Nat×Bool×(List Int)×Nat×Nat×Int×Bool×(List Int)×Nat×Nat×Int×Bool→aQ:=fun (c,d,e,f,g,h,i,j,k,l,m,n)=>⟨ao 97 [(2,.ptr 0 1 0 0),(3,.ptr 1 1 0 0),(4,.ptr 2 1 0 0),(6,.int .i64 ((c:Nat):Int))],[(0,.vs [.bool false d,.imm a (.ns .u64 e) 1 1 f g,.int .i64 h]),(1,.vs [.bool false i,.imm b (.ns .u64 j) 1 1 k l,.int .i64 m]),(2,.vs [.bool false n,.nsl,.int .i64 (0:Int)])],3⟩
def Ii(d : Bool)(a : List Int)(c : Int)(f : Bool)(b : List Int)(e : Int) : T ((Nat × Bool × (List Int) × Nat × Nat × Int × Bool × (List Int) × Nat × Nat × Int × Bool) ⊕ (er)) :=
  .ask (decide ((0:Int) < (2:Int)))
    (.need (gD (0:Int) 2)<|.need (aP 0 (List.length a) a)<|.need (j6 (em (ab 0 (List.length a) a) c))<|.ask (!(iK (em (ab 0 (List.length a) a) c)))
      (.leaf (.inl (2,d,a,0,(List.length a),c,f,b,0,(List.length b),e,false)))
      (.need (aP 0 (List.length a) a)<|.need (f6 (aI d (ab 0 (List.length a) a) c))<|.need (dn .i64 (1:Int))<|.ask (decide ((1:Int) < (2:Int)))
        (.need (gD (1:Int) 2)<|.need (aP 0 (List.length b) b)<|.need (j6 (em (ab 0 (List.length b) b) e))<|.ask (!(iK (em (ab 0 (List.length b) b) e)))
          (.leaf (.inl (2,(dp (aI d (ab 0 (List.length a) a) c)),(dq (aI d (ab 0 (List.length a) a) c)),(dr (aI d (ab 0 (List.length a) a) c)),(dt (aI d (ab 0 (List.length a) a) c)),(du (aI d (ab 0 (List.length a) a) c)),f,b,0,(List.length b),e,false)))
          (.need (aP 0 (List.length b) b)<|.need (f6 (aI f (ab 0 (List.length b) b) e))<|.need (dn .i64 (2:Int))<|.ask (decide ((2:Int) < (2:Int)))
            (.fail)
            (.leaf (.inl (0,(dp (aI d (ab 0 (List.length a) a) c)),(dq (aI d (ab 0 (List.length a) a) c)),(dr (aI d (ab 0 (List.length a) a) c)),(dt (aI d (ab 0 (List.length a) a) c)),(du (aI d (ab 0 (List.length a) a) c)),(dp (aI f (ab 0 (List.length b) b) e)),(dq (aI f (ab 0 (List.length b) b) e)),(dr (aI f (ab 0 (List.length b) b) e)),(dt (aI f (ab 0 (List.length b) b) e)),(du (aI f (ab 0 (List.length b) b) e)),false)))))
        (.fail)))
    (.fail)
def ake(a:Lv)(b:Lv)(c:Bool)(d:List Int)(e:Nat)(f:Nat)(g:Int)(h:Bool)(i:List Int)(j:Nat)(k:Nat)(l:Int)(m:Bool) :Nat×Int×(List Int)×Nat×(List Int)×Nat→aQ:=fun (n,o,p,q,r,s)=>⟨ao 97 [(2,.ptr 0 1 0 0),(3,.ptr 1 1 0 0),(4,.ptr 2 1 0 0),(7,.ptr 3 1 0 0),(8,.int .i64 ((n:Nat):Int))],[(0,.vs [.bool false c,.imm a (.ns .u64 d) 1 1 e f,.int .i64 g]),(1,.vs [.bool false h,.imm b (.ns .u64 i) 1 1 j k,.int .i64 l]),(2,.vs [.bool false m,.nsl,.int .i64 (0:Int)]),(3,.vs [.int .i64 o,.imm .free (.ns .u64 p) 1 1 0 q,.imm .free (.ns .u64 r) 1 1 0 s])],4⟩
def FL(i:Nat)(a:List Int)(b:Nat)(c:Nat)(g:Int)(d:List Int)(e:Nat)(f:Nat)(h:Int) :T ((Nat×Int×(List Int)×Nat×(List Int)×Nat)⊕(er)) :=
  .ask (((i:Nat):Int) != (0:Int))
    (.leaf (.inr (.r0 i false ([]:List Int) 0 0 (0:Int))))
    (.need (aP b c a)<|.need (aP e f d)<|.need (qM (dI (ab b c a) g (ab e f d) h))<|.leaf (.inl ((rV (dI (ab b c a) g (ab e f d) h)),(rW (dI (ab b c a) g (ab e f d) h)),(rX (dI (ab b c a) g (ab e f d) h)),(rY (dI (ab b c a) g (ab e f d) h)),(rZ (dI (ab b c a) g (ab e f d) h)),(r5 (dI (ab b c a) g (ab e f d) h)))))
def akf(a:Lv)(b:Lv)(c:Bool)(d:List Int)(e:Nat)(f:Nat)(g:Int)(h:Bool)(i:List Int)(j:Nat)(k:Nat)(l:Int)(m:Bool)(n:Int)(o:List Int)(p:Nat)(q:List Int)(r:Nat)(_:Unit) :aQ:=⟨ao 97 [(2,.ptr 0 1 0 0),(3,.ptr 1 1 0 0),(4,.ptr 2 1 0 0),(7,.ptr 3 1 0 0),(9,.fn (.func p7) [] [.ptr 3 1 0 0])],[(0,.vs [.bool false c,.imm a (.ns .u64 d) 1 1 e f,.int .i64 g]),(1,.vs [.bool false h,.imm b (.ns .u64 i) 1 1 j k,.int .i64 l]),(2,.vs [.bool false m,.nsl,.int .i64 (0:Int)]),(3,.vs [.int .i64 n,.imm .free (.ns .u64 o) 1 1 0 p,.imm .free (.ns .u64 q) 1 1 0 r])],4⟩
def ui(e:Bool)(h:Bool)(g:Nat)(f:Int)(a:List Int)(b:Nat)(c:List Int)(d:Nat) :T ((Unit)⊕(er)) :=
  .ask (((g:Nat):Int) != (0:Int))
    (.leaf (.inr (.r0 g false ([]:List Int) 0 0 (0:Int))))
    (.ask (e == h)
      (.need (aP 0 b a)<|.need (aP 0 d c)<|.need (zT (ct (ab 0 b a) (ab 0 d c)))<|.need (aP (iP (ct (ab 0 b a) (ab 0 d c))) (iQ (ct (ab 0 b a) (ab 0 d c))) (iR (ct (ab 0 b a) (ab 0 d c))))<|.need (aP 0 b a)<|.need (aP 0 d c)<|.need (oW (cw e (ab (iP (ct (ab 0 b a) (ab 0 d c))) (iQ (ct (ab 0 b a) (ab 0 d c))) (iR (ct (ab 0 b a) (ab 0 d c)))) (((jU (ct (ab 0 b a) (ab 0 d c))):Nat):Int) f))<|.leaf (.inr (.r0 (oD (cw e (ab (iP (ct (ab 0 b a) (ab 0 d c))) (iQ (ct (ab 0 b a) (ab 0 d c))) (iR (ct (ab 0 b a) (ab 0 d c)))) (((jU (ct (ab 0 b a) (ab 0 d c))):Nat):Int) f)) (oE (cw e (ab (iP (ct (ab 0 b a) (ab 0 d c))) (iQ (ct (ab 0 b a) (ab 0 d c))) (iR (ct (ab 0 b a) (ab 0 d c)))) (((jU (ct (ab 0 b a) (ab 0 d c))):Nat):Int) f)) (oF (cw e (ab (iP (ct (ab 0 b a) (ab 0 d c))) (iQ (ct (ab 0 b a) (ab 0 d c))) (iR (ct (ab 0 b a) (ab 0 d c)))) (((jU (ct (ab 0 b a) (ab 0 d c))):Nat):Int) f)) (oG (cw e (ab (iP (ct (ab 0 b a) (ab 0 d c))) (iQ (ct (ab 0 b a) (ab 0 d c))) (iR (ct (ab 0 b a) (ab 0 d c)))) (((jU (ct (ab 0 b a) (ab 0 d c))):Nat):Int) f)) (oH (cw e (ab (iP (ct (ab 0 b a) (ab 0 d c))) (iQ (ct (ab 0 b a) (ab 0 d c))) (iR (ct (ab 0 b a) (ab 0 d c)))) (((jU (ct (ab 0 b a) (ab 0 d c))):Nat):Int) f)) (oI (cw e (ab (iP (ct (ab 0 b a) (ab 0 d c))) (iQ (ct (ab 0 b a) (ab 0 d c))) (iR (ct (ab 0 b a) (ab 0 d c)))) (((jU (ct (ab 0 b a) (ab 0 d c))):Nat):Int) f)))))
      (.leaf (.inl ())))
def akg(a:Lv)(b:Lv)(c:Bool)(d:List Int)(e:Nat)(f:Nat)(g:Int)(h:Bool)(i:List Int)(j:Nat)(k:Nat)(l:Int)(m:Bool)(n:Int)(o:List Int)(p:Nat)(q:List Int)(r:Nat)(s:Int) :aQ:=⟨ao 97 [(2,.ptr 0 1 0 0),(3,.ptr 1 1 0 0),(4,.ptr 2 1 0 0),(7,.ptr 3 1 0 0),(9,.fn (.func p7) [] [.ptr 3 1 0 0]),(12,.int .i64 s)],[(0,.vs [.bool false c,.imm a (.ns .u64 d) 1 1 e f,.int .i64 g]),(1,.vs [.bool false h,.imm b (.ns .u64 i) 1 1 j k,.int .i64 l]),(2,.vs [.bool false m,.nsl,.int .i64 (0:Int)]),(3,.vs [.int .i64 n,.imm .free (.ns .u64 o) 1 1 0 p,.imm .free (.ns .u64 q) 1 1 0 r])],4⟩
def FM(a:List Int)(b:Nat)(c:List Int)(d:Nat) :T ((Int)⊕(er)) :=
  .need (aP 0 b a)<|.need (aP 0 d c)<|.need (zS (vS (ab 0 b a) (ab 0 d c)))<|.leaf (.inl (yW (vS (ab 0 b a) (ab 0 d c))))
def akh(a:Lv)(b:Bool)(c:List Int)(d:Nat)(e:Nat)(f:Int)(g:Bool)(h:Int)(i:List Int)(j:Nat)(k:List Int)(l:Nat)(_:Unit) :aQ:=⟨ao 97 [(2,.ptr 0 1 0 0),(4,.ptr 1 1 0 0),(7,.ptr 2 1 0 0),(9,.fn (.func p7) [] [.ptr 2 1 0 0])],[(0,.vs [.bool false b,.imm a (.ns .u64 c) 1 1 d e,.int .i64 f]),(1,.vs [.bool false g,.nsl,.int .i64 (0:Int)]),(2,.vs [.int .i64 h,.imm .free (.ns .u64 i) 1 1 0 j,.imm .free (.ns .u64 k) 1 1 0 l])],3⟩
def FO(e:Bool)(f:Int)(a:List Int)(b:Nat)(c:List Int)(d:Nat)(g:Int) :T ((Unit)⊕(er)) :=
  .ask (decide (g < (0:Int)))
    (.need (aP 0 d c)<|.need (aP 0 b a)<|.need (vU (bZ (ab 0 d c) (ab 0 b a)))<|.need (aP (g5 (bZ (ab 0 d c) (ab 0 b a))) (g6 (bZ (ab 0 d c) (ab 0 b a))) (gZ (bZ (ab 0 d c) (ab 0 b a))))<|.need (aP 0 b a)<|.need (aP 0 d c)<|.need (oW (cw e (ab (g5 (bZ (ab 0 d c) (ab 0 b a))) (g6 (bZ (ab 0 d c) (ab 0 b a))) (gZ (bZ (ab 0 d c) (ab 0 b a)))) (((iS (bZ (ab 0 d c) (ab 0 b a))):Nat):Int) f))<|.leaf (.inr (.r0 (oD (cw e (ab (g5 (bZ (ab 0 d c) (ab 0 b a))) (g6 (bZ (ab 0 d c) (ab 0 b a))) (gZ (bZ (ab 0 d c) (ab 0 b a)))) (((iS (bZ (ab 0 d c) (ab 0 b a))):Nat):Int) f)) (oE (cw e (ab (g5 (bZ (ab 0 d c) (ab 0 b a))) (g6 (bZ (ab 0 d c) (ab 0 b a))) (gZ (bZ (ab 0 d c) (ab 0 b a)))) (((iS (bZ (ab 0 d c) (ab 0 b a))):Nat):Int) f)) (oF (cw e (ab (g5 (bZ (ab 0 d c) (ab 0 b a))) (g6 (bZ (ab 0 d c) (ab 0 b a))) (gZ (bZ (ab 0 d c) (ab 0 b a)))) (((iS (bZ (ab 0 d c) (ab 0 b a))):Nat):Int) f)) (oG (cw e (ab (g5 (bZ (ab 0 d c) (ab 0 b a))) (g6 (bZ (ab 0 d c) (ab 0 b a))) (gZ (bZ (ab 0 d c) (ab 0 b a)))) (((iS (bZ (ab 0 d c) (ab 0 b a))):Nat):Int) f)) (oH (cw e (ab (g5 (bZ (ab 0 d c) (ab 0 b a))) (g6 (bZ (ab 0 d c) (ab 0 b a))) (gZ (bZ (ab 0 d c) (ab 0 b a)))) (((iS (bZ (ab 0 d c) (ab 0 b a))):Nat):Int) f)) (oI (cw e (ab (g5 (bZ (ab 0 d c) (ab 0 b a))) (g6 (bZ (ab 0 d c) (ab 0 b a))) (gZ (bZ (ab 0 d c) (ab 0 b a)))) (((iS (bZ (ab 0 d c) (ab 0 b a))):Nat):Int) f)))))
    (.leaf (.inl ()))
def aki(a:Lv)(b:Bool)(c:List Int)(d:Nat)(e:Nat)(f:Int)(g:Bool)(h:Int)(i:List Int)(j:Nat)(k:List Int)(l:Nat) :Nat×(List Int)×Nat×Nat→aQ:=fun (m,n,o,p)=>⟨ao 97 [(2,.ptr 0 1 0 0),(4,.ptr 1 1 0 0),(8,.int .i64 ((m:Nat):Int)),(9,.fn (.func p7) [] [.ptr 2 1 0 0]),(16,.imm .free (.ns .u64 n) 1 1 o p)],[(0,.vs [.bool false b,.imm a (.ns .u64 c) 1 1 d e,.int .i64 f]),(1,.vs [.bool false g,.nsl,.int .i64 (0:Int)]),(2,.vs [.int .i64 h,.imm .free (.ns .u64 i) 1 1 0 j,.imm .free (.ns .u64 k) 1 1 0 l])],3⟩
def FP(a:List Int)(b:Nat)(c:List Int)(d:Nat) :T ((Nat×(List Int)×Nat×Nat)⊕(er)) :=
  .need (aP 0 b a)<|.need (aP 0 d c)<|.need (vU (bZ (ab 0 b a) (ab 0 d c)))<|.leaf (.inl ((iS (bZ (ab 0 b a) (ab 0 d c))),(gZ (bZ (ab 0 b a) (ab 0 d c))),(g5 (bZ (ab 0 b a) (ab 0 d c))),(g6 (bZ (ab 0 b a) (ab 0 d c)))))
def akj:Nat×Bool×(List Int)×Nat×Nat×Int→aQ:=fun (a,b,c,d,e,f)=>⟨ao 97 [(4,.ptr 0 1 0 0),(5,.int .i64 ((a:Nat):Int))],[(0,.vs [.bool false b,.imm .free (.ns .u64 c) 1 1 d e,.int .i64 f])],1⟩
def FQ(d:Bool)(e:Int)(g:List Int)(h:Nat)(i:List Int)(j:Nat)(f:Nat)(a:List Int)(b:Nat)(c:Nat) :T ((Nat×Bool×(List Int)×Nat×Nat×Int)⊕(er)) :=
  .need (aP b c a)<|.need (aP 0 h g)<|.need (aP 0 j i)<|.need (oW (cw d (ab b c a) ((f:Nat):Int) e))<|.leaf (.inl ((oD (cw d (ab b c a) ((f:Nat):Int) e)),(oE (cw d (ab b c a) ((f:Nat):Int) e)),(oF (cw d (ab b c a) ((f:Nat):Int) e)),(oG (cw d (ab b c a) ((f:Nat):Int) e)),(oH (cw d (ab b c a) ((f:Nat):Int) e)),(oI (cw d (ab b c a) ((f:Nat):Int) e))))
def afz(a:Nat)(b:Bool)(c:List Int)(d:Nat)(e:Nat)(f:Int) :T ((Empty)⊕(er)) :=
  .leaf (.inr (.r0 a b c d e f))
def c6(h:Bool)(i:List Int)(j:Int)(k:Bool)(l:List Int)(m:Int) :Option er:=jR (aE ((Ii h i j k l m).run) fun (n,f,o,p,q,r,g,s,t,u,v,I) =>
  aE ((FL n o p q r s t u v).run) fun (w,e,a,b,c,d) =>
  aE ((ui f g w e a b c d).run) fun _ =>
  aE ((FM a b c d).run) fun x =>
  aE ((FO g e a b c d x).run) fun _ =>
  aE ((FP a b c d).run) fun (y,z,A,B) =>
  aE ((FQ f e a b c d y z A B).run) fun (C,D,E,F,G,H) =>
  (afz C D E F G H).run)
theorem akk(v:Bool)(a:Lv)(o:List Int)(w:Int)(y:Bool)(b:Lv)(p:List Int)(z:Int){x:er}(h:c6 v o w y p z=some x) :aw prog Me [] [.agg [.bool false v,.imm a (.ns .u64 o) 1 1 0 (List.length o),.int .i64 w],.agg [.bool false y,.imm b (.ns .u64 p) 1 1 0 (List.length p),.int .i64 z]] (MI x) :=
  kp true MI WB h (Sg.cut 2 pF (bk g7 (akd a b) [⟨[],[0,16,32],[2,3,4,6]⟩,⟨[(.cell 0 1,.lev a)],[0,16,32],[2,3,4,6]⟩,⟨[(.cell 0 1,.lev a),(.cell 16 1,.lev b)],[0,16,32],[2,3,4,6]⟩]) (fun ⟨G,c,d,e,f,g,q,r,s,t,u,i⟩=>Sg.cut 3 pF (bk g7 (ake a b c d e f g q r s t u i) [⟨[(.cell 2 1,.fre 1 1 (.ns .u64 ([]:List Int)))],[2],[4,5]⟩,⟨[],[0,1,2,131],[2,3,4,7,8]⟩]) (fun ⟨H,j,k,l,m,n⟩=>Sg.cut 5 pF (bk g7 (akf a b c d e f g q r s t u i j k l m n) [⟨[(.cell 2 1,.fre 1 1 (.ns .u64 ([]:List Int)))],[2],[4,5]⟩,⟨[],[2],[4,5]⟩,⟨[],[0,1,2,3],[2,3,4,7,9]⟩]) (fun _=>Sg.cut 1 pF (bk g7 (akg a b c d e f g q r s t u i j k l m n) [⟨[],[0,1,2,3],[2,3,4,7,9,12]⟩]) (fun I=>Sg.cut 2 pF (bk g7 (akh a c d e f g i j k l m n) [⟨[],[2],[4,5]⟩,⟨[],[0,2,3],[2,4,7,9]⟩]) (fun _=>Sg.cut 1 pF (bk g7 (aki a c d e f g i j k l m n) [⟨[],[0,1,2],[2,4,8,9,16]⟩]) (fun ⟨J,K,L,M⟩=>Sg.cut 1 pF (bk g7 akj [⟨[],[1],[4,5]⟩]) (fun ⟨N,O,P,Q,R,S⟩=>bk g7 _ [⟨[],[0],[4,5]⟩]))))))))
    (fun x=>by cases x with | r0 A B C D E F=>exact jT [.agg [.bool false B,.imm .free (.ns .u64 C) 1 1 D E,.int .i64 F],.int .i64 ((A:Nat):Int)])
def xD:Option er→Bool
  | some _=>true
  | none=>false
def oX:Option er→Nat
  | some (.r0 x _ _ _ _ _)=>x
  | _=>0
def qN:Option er→Bool
  | some (.r0 _ x _ _ _ _)=>x
  | _=>false
def qO:Option er→List Int
  | some (.r0 _ _ x _ _ _)=>x
  | _=>[]
def qP:Option er→Nat
  | some (.r0 _ _ _ x _ _)=>x
  | _=>0
def qQ:Option er→Nat
  | some (.r0 _ _ _ _ x _)=>x
  | _=>0
def qR:Option er→Int
  | some (.r0 _ _ _ _ _ x)=>x
  | _=>0
theorem akl{x:Option er}(h:xD x=true) :x=some (.r0 (oX x) (qN x) (qO x) (qP x) (qQ x) (qR x)):=by
  unfold xD at h
  split at h <;> first | rfl | (cases h;done) | (rename_i y;cases y;rfl)
def WC:aL:=bJ Me (.cons (.agg (.cons .bool (.cons (.ns .u64) (.cons (.int .i64) .nil)))) (.cons (.agg (.cons .bool (.cons (.ns .u64) (.cons (.int .i64) .nil)))) .nil)) fun t=>(fun q=>[⟨MI (.r0 (oX q) (qN q) (qO q) (qP q) (qQ q) (qR q)),[xD q]⟩]) (c6 t.1.1 t.1.2.1.2 t.1.2.2.1 t.2.1.1 t.2.1.2.1.2 t.2.1.2.2.1)
theorem ZW:aV prog WC:=aR fun t=>(aS (fun h=>akk t.1.1 t.1.2.1.1 t.1.2.1.2 t.1.2.2.1 t.2.1.1 t.2.1.2.1.1 t.2.1.2.1.2 t.2.1.2.2.1 (akl h)) aZ)
def WD:List aL:=WC :: OG
theorem qS:bd prog (bf WD):=au ZW g7
inductive gi where
  | r0 (a:Nat) (b:Bool) (c:List Int) (d:Nat) (e:Nat) (f:Int)
def WE:gi→AE×aQ
  | .r0 a b c d e f=>(.ret,⟨ao 41 [(4,.ptr 0 1 0 0),(5,.int .i64 ((a:Nat):Int))],[(0,.vs [.bool false b,.imm .free (.ns .u64 c) 1 1 d e,.int .i64 f])],1⟩)
theorem Ij:jC WE:=by intro x;cases x <;> (intro h;cases h)
def MJ:gi→gX
  | .r0 a b c d e f=>⟨.tup [.agg [.bool false b,.imm .free (.ns .u64 c) 1 1 d e,.int .i64 f],.int .i64 ((a:Nat):Int)],[]⟩
def akm(a:Lv)(b:Lv) :Nat×Bool×(List Int)×Nat×Nat×Int×Bool×(List Int)×Nat×Nat×Int×Bool→aQ:=fun (c,d,e,f,g,h,i,j,k,l,m,n)=>⟨ao 41 [(2,.ptr 0 1 0 0),(3,.ptr 1 1 0 0),(4,.ptr 2 1 0 0),(6,.int .i64 ((c:Nat):Int))],[(0,.vs [.bool false d,.imm a (.ns .u64 e) 1 1 f g,.int .i64 h]),(1,.vs [.bool false i,.imm b (.ns .u64 j) 1 1 k l,.int .i64 m]),(2,.vs [.bool false n,.nsl,.int .i64 (0:Int)])],3⟩
def SB(d : Bool)(a : List Int)(c : Int)(f : Bool)(b : List Int)(e : Int) : T ((Nat × Bool × (List Int) × Nat × Nat × Int × Bool × (List Int) × Nat × Nat × Int × Bool) ⊕ (gi)) :=
  .ask (decide ((0:Int) < (2:Int)))
    (.need (gD (0:Int) 2)<|.need (aP 0 (List.length a) a)<|.need (j6 (em (ab 0 (List.length a) a) c))<|.ask (!(iK (em (ab 0 (List.length a) a) c)))
      (.leaf (.inl (2,d,a,0,(List.length a),c,f,b,0,(List.length b),e,false)))
      (.need (aP 0 (List.length a) a)<|.need (f6 (aI d (ab 0 (List.length a) a) c))<|.need (dn .i64 (1:Int))<|.ask (decide ((1:Int) < (2:Int)))
        (.need (gD (1:Int) 2)<|.need (aP 0 (List.length b) b)<|.need (j6 (em (ab 0 (List.length b) b) e))<|.ask (!(iK (em (ab 0 (List.length b) b) e)))
          (.leaf (.inl (2,(dp (aI d (ab 0 (List.length a) a) c)),(dq (aI d (ab 0 (List.length a) a) c)),(dr (aI d (ab 0 (List.length a) a) c)),(dt (aI d (ab 0 (List.length a) a) c)),(du (aI d (ab 0 (List.length a) a) c)),f,b,0,(List.length b),e,false)))
          (.need (aP 0 (List.length b) b)<|.need (f6 (aI f (ab 0 (List.length b) b) e))<|.need (dn .i64 (2:Int))<|.ask (decide ((2:Int) < (2:Int)))
            (.fail)
            (.leaf (.inl (0,(dp (aI d (ab 0 (List.length a) a) c)),(dq (aI d (ab 0 (List.length a) a) c)),(dr (aI d (ab 0 (List.length a) a) c)),(dt (aI d (ab 0 (List.length a) a) c)),(du (aI d (ab 0 (List.length a) a) c)),(dp (aI f (ab 0 (List.length b) b) e)),(dq (aI f (ab 0 (List.length b) b) e)),(dr (aI f (ab 0 (List.length b) b) e)),(dt (aI f (ab 0 (List.length b) b) e)),(du (aI f (ab 0 (List.length b) b) e)),false)))))
        (.fail)))
    (.fail)
def akn(a:Lv)(b:Lv)(c:Bool)(d:List Int)(e:Nat)(f:Nat)(g:Int)(h:Bool)(i:List Int)(j:Nat)(k:Nat)(l:Int)(m:Bool) :(List Int)×Nat×Nat×Nat→aQ:=fun (n,o,p,q)=>⟨ao 41 [(2,.ptr 0 1 0 0),(3,.ptr 1 1 0 0),(4,.ptr 2 1 0 0),(7,.imm .free (.ns .u64 n) 1 1 o p),(8,.int .i64 ((q:Nat):Int))],[(0,.vs [.bool false c,.imm a (.ns .u64 d) 1 1 e f,.int .i64 g]),(1,.vs [.bool false h,.imm b (.ns .u64 i) 1 1 j k,.int .i64 l]),(2,.vs [.bool false m,.nsl,.int .i64 (0:Int)])],3⟩
def Ik(g:Nat)(a:List Int)(b:Nat)(c:Nat)(d:List Int)(e:Nat)(f:Nat) :T (((List Int)×Nat×Nat×Nat)⊕(gi)) :=
  .ask (((g:Nat):Int) != (0:Int))
    (.leaf (.inr (.r0 g false ([]:List Int) 0 0 (0:Int))))
    (.need (aP b c a)<|.need (aP e f d)<|.need (Fm (tp (ab b c a) (ab e f d)))<|.leaf (.inl ((Fr (tp (ab b c a) (ab e f d))),(Fo (tp (ab b c a) (ab e f d))),(Fp (tp (ab b c a) (ab e f d))),(Fq (tp (ab b c a) (ab e f d))))))
def ako:Nat×Bool×(List Int)×Nat×Nat×Int→aQ:=fun (a,b,c,d,e,f)=>⟨ao 41 [(4,.ptr 0 1 0 0),(5,.int .i64 ((a:Nat):Int))],[(0,.vs [.bool false b,.imm .free (.ns .u64 c) 1 1 d e,.int .i64 f])],1⟩
def Il(f:Bool)(a:Int)(g:Bool)(b:Int)(c:List Int)(d:Nat)(e:Nat)(h:Nat) :T ((Nat×Bool×(List Int)×Nat×Nat×Int)⊕(gi)) :=
  .ask (((h:Nat):Int) != (0:Int))
    (.leaf (.inr (.r0 3 false ([]:List Int) 0 0 (0:Int))))
    (.need (dn .i64 (a+b))<|.need (aP d e c)<|.need (qd (cG (!(f == g)) (ab d e c) (a+b)))<|.leaf (.inl ((pz (cG (!(f == g)) (ab d e c) (a+b))),(pA (cG (!(f == g)) (ab d e c) (a+b))),(pB (cG (!(f == g)) (ab d e c) (a+b))),(pC (cG (!(f == g)) (ab d e c) (a+b))),(pD (cG (!(f == g)) (ab d e c) (a+b))),(pE (cG (!(f == g)) (ab d e c) (a+b))))))
def akp(a:Nat)(b:Bool)(c:List Int)(d:Nat)(e:Nat)(f:Int) :T ((Empty)⊕(gi)) :=
  .leaf (.inr (.r0 a b c d e f))
def aB(a:Bool)(b:List Int)(c:Int)(d:Bool)(e:List Int)(f:Int) :Option gi:=jR (aE ((SB a b c d e f).run) fun (g,h,i,j,k,l,m,n,o,p,q,B) =>
  aE ((Ik g i j k n o p).run) fun (r,s,t,u) =>
  aE ((Il h l m q r s t u).run) fun (v,w,x,y,z,A) =>
  (akp v w x y z A).run)
theorem akq(e:Bool)(a:Lv)(c:List Int)(f:Int)(g:Bool)(b:Lv)(d:List Int)(i:Int){x:gi}(h:aB e c f g d i=some x) :aw prog Md [] [.agg [.bool false e,.imm a (.ns .u64 c) 1 1 0 (List.length c),.int .i64 f],.agg [.bool false g,.imm b (.ns .u64 d) 1 1 0 (List.length d),.int .i64 i]] (MJ x) :=
  kp true MJ WE h (Sg.cut 2 Ij (bk qS (akm a b) [⟨[],[0,16,32],[2,3,4,6]⟩,⟨[(.cell 0 1,.lev a)],[0,16,32],[2,3,4,6]⟩,⟨[(.cell 0 1,.lev a),(.cell 16 1,.lev b)],[0,16,32],[2,3,4,6]⟩]) (fun ⟨B,j,k,l,m,n,o,p,q,r,s,t⟩=>Sg.cut 3 Ij (bk qS (akn a b j k l m n o p q r s t) [⟨[(.cell 2 1,.fre 1 1 (.ns .u64 ([]:List Int)))],[2],[4,5]⟩,⟨[],[0,1,2],[2,3,4,7,8]⟩]) (fun ⟨C,D,E,F⟩=>Sg.cut 3 Ij (bk qS ako [⟨[(.cell 2 1,.fre 1 1 (.ns .u64 ([]:List Int)))],[2],[4,5]⟩,⟨[],[2],[4,5]⟩]) (fun ⟨G,H,I,J,K,L⟩=>bk qS _ [⟨[],[0],[4,5]⟩]))))
    (fun x=>by cases x with | r0 u v w y z A=>exact jT [.agg [.bool false v,.imm .free (.ns .u64 w) 1 1 y z,.int .i64 A],.int .i64 ((u:Nat):Int)])
def nQ:Option gi→Bool
  | some _=>true
  | none=>false
def k6:Option gi→Nat
  | some (.r0 x _ _ _ _ _)=>x
  | _=>0
def cI:Option gi→Bool
  | some (.r0 _ x _ _ _ _)=>x
  | _=>false
def cz:Option gi→List Int
  | some (.r0 _ _ x _ _ _)=>x
  | _=>[]
def cA:Option gi→Nat
  | some (.r0 _ _ _ x _ _)=>x
  | _=>0
def cB:Option gi→Nat
  | some (.r0 _ _ _ _ x _)=>x
  | _=>0
def cJ:Option gi→Int
  | some (.r0 _ _ _ _ _ x)=>x
  | _=>0
theorem akr{x:Option gi}(h:nQ x=true) :x=some (.r0 (k6 x) (cI x) (cz x) (cA x) (cB x) (cJ x)):=by
  unfold nQ at h
  split at h <;> first | rfl | (cases h;done) | (rename_i y;cases y;rfl)
def WF:aL:=bJ Md (.cons (.agg (.cons .bool (.cons (.ns .u64) (.cons (.int .i64) .nil)))) (.cons (.agg (.cons .bool (.cons (.ns .u64) (.cons (.int .i64) .nil)))) .nil)) fun t=>(fun q=>[⟨MJ (.r0 (k6 q) (cI q) (cz q) (cA q) (cB q) (cJ q)),[nQ q]⟩]) (aB t.1.1 t.1.2.1.2 t.1.2.2.1 t.2.1.1 t.2.1.2.1.2 t.2.1.2.2.1)
theorem ZX:aV prog WF:=aR fun t=>(aS (fun h=>akq t.1.1 t.1.2.1.1 t.1.2.1.2 t.1.2.2.1 t.2.1.1 t.2.1.2.1.1 t.2.1.2.1.2 t.2.1.2.2.1 (akr h)) aZ)
def WG:List aL:=WF :: WD
theorem KC:bd prog (bf WG):=au ZX qS
inductive nR where
  | r0 (a:Int)
def aks:nR→AE×aQ
  | .r0 a=>(.ret,⟨ao 11 [(2,.int .i64 a)],[],0⟩)
def Im:nR→gX
  | .r0 a=>⟨.int .i64 a,[]⟩
def OH(a:Bool)(b:List Int) :T ((Empty)⊕(nR)) :=
  .ask ((((List.length b):Nat):Int) == (0:Int))
    (.leaf (.inr (.r0 (0:Int))))
    (.ask a
      (.leaf (.inr (.r0 (-1:Int))))
      (.leaf (.inr (.r0 (1:Int)))))
def iz(a:Bool)(b:List Int) :Option nR:=jR ((OH a b).run)
theorem afA(b:Bool)(c:Lv)(a:List Int)(d:Int){x:nR}(h:iz b a=some x) :aw prog HI [] [.agg [.bool false b,.imm c (.ns .u64 a) 1 1 0 (List.length a),.int .i64 d]] (Im x) :=
  kp true Im aks h (bk KC _ [⟨[],[],[2]⟩,⟨[],[],[2]⟩,⟨[],[],[2]⟩])
    (fun x=>by cases x with | r0 e=>exact jT [.int .i64 e])
def jV:Option nR→Bool
  | some _=>true
  | none=>false
def fC:Option nR→Int
  | some (.r0 x)=>x
  | _=>0
theorem afB{x:Option nR}(h:jV x=true) :x=some (.r0 (fC x)):=by
  unfold jV at h
  split at h <;> first | rfl | (cases h;done) | (rename_i y;cases y;rfl)
def SC:aL:=bJ HI (.cons (.agg (.cons .bool (.cons (.ns .u64) (.cons (.int .i64) .nil)))) .nil) fun t=>(fun q=>[⟨Im (.r0 (fC q)),[jV q]⟩]) (iz t.1.1 t.1.2.1.2)
theorem WH:aV prog SC:=aR fun t=>(aS (fun h=>afA t.1.1 t.1.2.1.1 t.1.2.1.2 t.1.2.2.1 (afB h)) aZ)
def SD:List aL:=SC :: WG
theorem nv:bd prog (bf SD):=au WH KC
inductive jM where
  | r0 (a:Int) (b:Nat)
def WI:jM→AE×aQ
  | .r0 a b=>(.ret,⟨ao 52 [(4,.int .i64 a),(5,.int .i64 ((b:Nat):Int))],[],0⟩)
theorem BY:jC WI:=by intro x;cases x <;> (intro h;cases h)
def MK:jM→gX
  | .r0 a b=>⟨.tup [.int .i64 a,.int .i64 ((b:Nat):Int)],[]⟩
def akt(a:Lv)(b:Lv) :Nat×Bool×(List Int)×Nat×Nat×Int×Bool×(List Int)×Nat×Nat×Int→aQ:=fun (c,d,e,f,g,h,i,j,k,l,m)=>⟨ao 52 [(2,.ptr 0 1 0 0),(3,.ptr 1 1 0 0),(6,.int .i64 ((c:Nat):Int))],[(0,.vs [.bool false d,.imm a (.ns .u64 e) 1 1 f g,.int .i64 h]),(1,.vs [.bool false i,.imm b (.ns .u64 j) 1 1 k l,.int .i64 m])],2⟩
def SE(d : Bool)(a : List Int)(c : Int)(f : Bool)(b : List Int)(e : Int) : T ((Nat × Bool × (List Int) × Nat × Nat × Int × Bool × (List Int) × Nat × Nat × Int) ⊕ (jM)) :=
  .ask (decide ((0:Int) < (2:Int)))
    (.need (gD (0:Int) 2)<|.need (aP 0 (List.length a) a)<|.need (j6 (em (ab 0 (List.length a) a) c))<|.ask (!(iK (em (ab 0 (List.length a) a) c)))
      (.leaf (.inl (2,d,a,0,(List.length a),c,f,b,0,(List.length b),e)))
      (.need (aP 0 (List.length a) a)<|.need (f6 (aI d (ab 0 (List.length a) a) c))<|.need (dn .i64 (1:Int))<|.ask (decide ((1:Int) < (2:Int)))
        (.need (gD (1:Int) 2)<|.need (aP 0 (List.length b) b)<|.need (j6 (em (ab 0 (List.length b) b) e))<|.ask (!(iK (em (ab 0 (List.length b) b) e)))
          (.leaf (.inl (2,(dp (aI d (ab 0 (List.length a) a) c)),(dq (aI d (ab 0 (List.length a) a) c)),(dr (aI d (ab 0 (List.length a) a) c)),(dt (aI d (ab 0 (List.length a) a) c)),(du (aI d (ab 0 (List.length a) a) c)),f,b,0,(List.length b),e)))
          (.need (aP 0 (List.length b) b)<|.need (f6 (aI f (ab 0 (List.length b) b) e))<|.need (dn .i64 (2:Int))<|.ask (decide ((2:Int) < (2:Int)))
            (.fail)
            (.leaf (.inl (0,(dp (aI d (ab 0 (List.length a) a) c)),(dq (aI d (ab 0 (List.length a) a) c)),(dr (aI d (ab 0 (List.length a) a) c)),(dt (aI d (ab 0 (List.length a) a) c)),(du (aI d (ab 0 (List.length a) a) c)),(dp (aI f (ab 0 (List.length b) b) e)),(dq (aI f (ab 0 (List.length b) b) e)),(dr (aI f (ab 0 (List.length b) b) e)),(dt (aI f (ab 0 (List.length b) b) e)),(du (aI f (ab 0 (List.length b) b) e)))))))
        (.fail)))
    (.fail)
def aku(a:Lv)(b:Lv)(c:Bool)(d:List Int)(e:Nat)(f:Nat)(g:Int)(h:Bool)(i:List Int)(j:Nat)(k:Nat)(l:Int) :Nat×Int×(List Int)×Nat×(List Int)×Nat→aQ:=fun (m,n,o,p,q,r)=>⟨ao 52 [(2,.ptr 0 1 0 0),(3,.ptr 1 1 0 0),(7,.ptr 2 1 0 0),(8,.int .i64 ((m:Nat):Int))],[(0,.vs [.bool false c,.imm a (.ns .u64 d) 1 1 e f,.int .i64 g]),(1,.vs [.bool false h,.imm b (.ns .u64 i) 1 1 j k,.int .i64 l]),(2,.vs [.int .i64 n,.imm .free (.ns .u64 o) 1 1 0 p,.imm .free (.ns .u64 q) 1 1 0 r])],3⟩
def In(i:Nat)(a:List Int)(b:Nat)(c:Nat)(g:Int)(d:List Int)(e:Nat)(f:Nat)(h:Int) :T ((Nat×Int×(List Int)×Nat×(List Int)×Nat)⊕(jM)) :=
  .ask (((i:Nat):Int) != (0:Int))
    (.leaf (.inr (.r0 (0:Int) i)))
    (.need (aP b c a)<|.need (aP e f d)<|.need (qM (dI (ab b c a) g (ab e f d) h))<|.leaf (.inl ((rV (dI (ab b c a) g (ab e f d) h)),(rW (dI (ab b c a) g (ab e f d) h)),(rX (dI (ab b c a) g (ab e f d) h)),(rY (dI (ab b c a) g (ab e f d) h)),(rZ (dI (ab b c a) g (ab e f d) h)),(r5 (dI (ab b c a) g (ab e f d) h)))))
def akv(a:Lv)(b:Lv)(c:Bool)(d:List Int)(e:Nat)(f:Nat)(g:Int)(h:Bool)(i:List Int)(j:Nat)(k:Nat)(l:Int)(m:Int) :aQ:=⟨ao 52 [(2,.ptr 0 1 0 0),(3,.ptr 1 1 0 0),(9,.int .i64 m)],[(0,.vs [.bool false c,.imm a (.ns .u64 d) 1 1 e f,.int .i64 g]),(1,.vs [.bool false h,.imm b (.ns .u64 i) 1 1 j k,.int .i64 l])],2⟩
def Io(e:Nat)(a:List Int)(b:Nat)(c:List Int)(d:Nat) :T ((Int)⊕(jM)) :=
  .ask (((e:Nat):Int) != (0:Int))
    (.leaf (.inr (.r0 (0:Int) e)))
    (.need (aP 0 b a)<|.need (aP 0 d c)<|.need (zS (vS (ab 0 b a) (ab 0 d c)))<|.leaf (.inl (yW (vS (ab 0 b a) (ab 0 d c)))))
def akw(a:Int)(_:Unit) :aQ:=⟨ao 52 [(9,.int .i64 a)],[],0⟩
def tr(g:Bool)(a:List Int)(b:Nat)(c:Nat)(h:Bool)(d:List Int)(e:Nat)(f:Nat)(i:Int) :T ((Unit)⊕(jM)) :=
  .need (aP b c a)<|.need (jV (iz g (ab b c a)))<|.need (aP e f d)<|.need (jV (iz h (ab e f d)))<|.ask ((fC (iz g (ab b c a))) != (fC (iz h (ab e f d))))
    (.need (aP b c a)<|.need (jV (iz g (ab b c a)))<|.need (aP e f d)<|.need (jV (iz h (ab e f d)))<|.need (dn .i64 ((fC (iz g (ab b c a))) - (fC (iz h (ab e f d)))))<|.leaf (.inr (.r0 (lQ (-1:Int) (qy (1:Int) ((fC (iz g (ab b c a))) - (fC (iz h (ab e f d)))))) 0)))
    (.ask g
      (.need (dn .i64 ((0:Int) - i))<|.leaf (.inr (.r0 ((0:Int) - i) 0)))
      (.leaf (.inl ())))
def afC(a:Int) :T ((Empty)⊕(jM)) :=
  .leaf (.inr (.r0 a 0))
def sP(h:Bool)(i:List Int)(j:Int)(k:Bool)(l:List Int)(m:Int) :Option jM:=jR (aE ((SE h i j k l m).run) fun (n,o,a,b,c,p,q,d,e,f,r) =>
  aE ((In n a b c p d e f r).run) fun (s,x,t,u,v,w) =>
  aE ((Io s t u v w).run) fun g =>
  aE ((tr o a b c q d e f g).run) fun _ =>
  (afC g).run)
theorem akx(e:Bool)(a:Lv)(c:List Int)(f:Int)(g:Bool)(b:Lv)(d:List Int)(i:Int){x:jM}(h:sP e c f g d i=some x) :aw prog Mf [] [.agg [.bool false e,.imm a (.ns .u64 c) 1 1 0 (List.length c),.int .i64 f],.agg [.bool false g,.imm b (.ns .u64 d) 1 1 0 (List.length d),.int .i64 i]] (MK x) :=
  kp true MK WI h (Sg.cut 2 BY (bk nv (akt a b) [⟨[],[0,16],[2,3,6]⟩,⟨[(.cell 0 1,.lev a)],[0,16],[2,3,6]⟩,⟨[(.cell 0 1,.lev a),(.cell 16 1,.lev b)],[0,16],[2,3,6]⟩]) (fun ⟨w,j,k,l,m,n,o,p,q,r,s⟩=>Sg.cut 3 BY (bk nv (aku a b j k l m n o p q r s) [⟨[],[],[4,5]⟩,⟨[],[0,1,130],[2,3,7,8]⟩]) (fun ⟨y,z,A,B,C,D⟩=>Sg.cut 3 BY (bk nv (akv a b j k l m n o p q r s) [⟨[],[],[4,5]⟩,⟨[],[0,1],[2,3,9]⟩]) (fun t=>Sg.cut 1 BY (bk nv (akw t) [⟨[],[],[4,5]⟩,⟨[],[],[4,5]⟩,⟨[],[],[9]⟩]) (fun _=>bk nv _ [⟨[],[],[4,5]⟩])))))
    (fun x=>by cases x with | r0 u v=>exact jT [.int .i64 u,.int .i64 ((v:Nat):Int)])
def BZ:Option jM→Bool
  | some _=>true
  | none=>false
def CE:Option jM→Int
  | some (.r0 x _)=>x
  | _=>0
def CF:Option jM→Nat
  | some (.r0 _ x)=>x
  | _=>0
theorem aky{x:Option jM}(h:BZ x=true) :x=some (.r0 (CE x) (CF x)):=by
  unfold BZ at h
  split at h <;> first | rfl | (cases h;done) | (rename_i y;cases y;rfl)
def WJ:aL:=bJ Mf (.cons (.agg (.cons .bool (.cons (.ns .u64) (.cons (.int .i64) .nil)))) (.cons (.agg (.cons .bool (.cons (.ns .u64) (.cons (.int .i64) .nil)))) .nil)) fun t=>(fun q=>[⟨MK (.r0 (CE q) (CF q)),[BZ q]⟩]) (sP t.1.1 t.1.2.1.2 t.1.2.2.1 t.2.1.1 t.2.1.2.1.2 t.2.1.2.2.1)
theorem ZY:aV prog WJ:=aR fun t=>(aS (fun h=>akx t.1.1 t.1.2.1.1 t.1.2.1.2 t.1.2.2.1 t.2.1.1 t.2.1.2.1.1 t.2.1.2.1.2 t.2.1.2.2.1 (aky h)) aZ)
def WK:List aL:=WJ :: SD
theorem qT:bd prog (bf WK):=au ZY nv
inductive d7 where
  | r0 (a:Nat) (b:Bool) (c:List Int) (d:Nat) (e:Nat) (f:Int)
def OI:d7→AE×aQ
  | .r0 a b c d e f=>(.ret,⟨ao 30 [(4,.ptr 0 1 0 0),(5,.int .i64 ((a:Nat):Int))],[(0,.vs [.bool false b,.imm .free (.ns .u64 c) 1 1 d e,.int .i64 f])],1⟩)
theorem CG:jC OI:=by intro x;cases x <;> (intro h;cases h)
def FS:d7→gX
  | .r0 a b c d e f=>⟨.tup [.agg [.bool false b,.imm .free (.ns .u64 c) 1 1 d e,.int .i64 f],.int .i64 ((a:Nat):Int)],[]⟩
def ZZ(a:Lv)(b:Int) :Nat×Bool×(List Int)×Nat×Nat×Int×Bool→aQ:=fun (c,d,e,f,g,h,i)=>⟨ao 30 [(1,.int .i64 b),(2,.ptr 0 1 0 0),(4,.ptr 1 1 0 0),(6,.int .i64 ((c:Nat):Int))],[(0,.vs [.bool false d,.imm a (.ns .u64 e) 1 1 f g,.int .i64 h]),(1,.vs [.bool false i,.nsl,.int .i64 (0:Int)])],2⟩
def CH(c:Bool)(a:List Int)(b:Int) :T ((Nat×Bool×(List Int)×Nat×Nat×Int×Bool)⊕(d7)) :=
  .ask (decide ((0:Int) < (1:Int)))
    (.need (gD (0:Int) 1)<|.need (aP 0 (List.length a) a)<|.need (j6 (em (ab 0 (List.length a) a) b))<|.ask (!(iK (em (ab 0 (List.length a) a) b)))
      (.leaf (.inl (2,c,a,0,(List.length a),b,false)))
      (.need (aP 0 (List.length a) a)<|.need (f6 (aI c (ab 0 (List.length a) a) b))<|.need (dn .i64 (1:Int))<|.ask (decide ((1:Int) < (1:Int)))
        (.fail)
        (.leaf (.inl (0,(dp (aI c (ab 0 (List.length a) a) b)),(dq (aI c (ab 0 (List.length a) a) b)),(dr (aI c (ab 0 (List.length a) a) b)),(dt (aI c (ab 0 (List.length a) a) b)),(du (aI c (ab 0 (List.length a) a) b)),false)))))
    (.fail)
def Z0(a:Lv)(b:Int)(c:Nat)(d:Bool)(e:List Int)(f:Nat)(g:Nat)(h:Int)(i:Bool)(j:Bool) :aQ:=⟨ao 30 [(1,.int .i64 b),(2,.ptr 0 1 0 0),(4,.ptr 1 1 0 0),(6,.int .i64 ((c:Nat):Int)),(16,.bool false j)],[(0,.vs [.bool false d,.imm a (.ns .u64 e) 1 1 f g,.int .i64 h]),(1,.vs [.bool false i,.nsl,.int .i64 (0:Int)])],2⟩
def Z1(a:Nat)(b:Nat) :T ((Bool)⊕(d7)) :=
  .ask (((a:Nat):Int) != (0:Int))
    (.leaf (.inl true))
    (.leaf (.inl (((b:Nat):Int) == (0:Int))))
def Z2:Nat×Bool×(List Int)×Nat×Nat×Int→aQ:=fun (a,b,c,d,e,f)=>⟨ao 30 [(4,.ptr 0 1 0 0),(5,.int .i64 ((a:Nat):Int))],[(0,.vs [.bool false b,.imm .free (.ns .u64 c) 1 1 d e,.int .i64 f])],1⟩
def CI(a:Int)(g:Nat)(f:Bool)(b:List Int)(c:Nat)(d:Nat)(e:Int)(h:Bool) :T ((Nat×Bool×(List Int)×Nat×Nat×Int)⊕(d7)) :=
  .ask h
    (.leaf (.inr (.r0 g false ([]:List Int) 0 0 (0:Int))))
    (.need (dn .i64 (e+(lQ (-1048576:Int) (qy (1048576:Int) a))))<|.need (aP c d b)<|.need (qd (cG f (ab c d b) (e+(lQ (-1048576:Int) (qy (1048576:Int) a)))))<|.leaf (.inl ((pz (cG f (ab c d b) (e+(lQ (-1048576:Int) (qy (1048576:Int) a))))),(pA (cG f (ab c d b) (e+(lQ (-1048576:Int) (qy (1048576:Int) a))))),(pB (cG f (ab c d b) (e+(lQ (-1048576:Int) (qy (1048576:Int) a))))),(pC (cG f (ab c d b) (e+(lQ (-1048576:Int) (qy (1048576:Int) a))))),(pD (cG f (ab c d b) (e+(lQ (-1048576:Int) (qy (1048576:Int) a))))),(pE (cG f (ab c d b) (e+(lQ (-1048576:Int) (qy (1048576:Int) a))))))))
def Z3(a:Nat)(b:Bool)(c:List Int)(d:Nat)(e:Nat)(f:Int) :T ((Empty)⊕(d7)) :=
  .leaf (.inr (.r0 a b c d e f))
def jW(c:Bool)(d:List Int)(e:Int)(f:Int) :Option d7:=jR (aE ((CH c d e).run) fun (a,g,h,i,b,j,r) =>
  aE ((Z1 a b).run) fun k =>
  aE ((CI f a g h i b j k).run) fun (l,m,n,o,p,q) =>
  (Z3 l m n o p q).run)
theorem Z4(d:Bool)(a:Lv)(c:List Int)(e:Int)(b:Int){x:d7}(h:jW d c e b=some x) :aw prog EZ [] [.agg [.bool false d,.imm a (.ns .u64 c) 1 1 0 (List.length c),.int .i64 e],.int .i64 b] (FS x) :=
  kp true FS OI h (Sg.cut 2 CG (bk qT (ZZ a b) [⟨[],[0,16],[1,2,4,6]⟩,⟨[(.cell 0 1,.lev a)],[0,16],[1,2,4,6]⟩]) (fun ⟨f,g,i,j,k,l,m⟩=>Sg.cut 1 CG (bk qT (Z0 a b f g i j k l m) [⟨[],[0,1],[1,2,4,6,16]⟩,⟨[],[0,1],[1,2,4,6,16]⟩]) (fun t=>Sg.cut 3 CG (bk qT Z2 [⟨[(.cell 1 1,.fre 1 1 (.ns .u64 ([]:List Int)))],[1],[4,5]⟩,⟨[],[1],[4,5]⟩]) (fun ⟨u,v,w,y,z,A⟩=>bk qT _ [⟨[],[0],[4,5]⟩]))))
    (fun x=>by cases x with | r0 n o p q r s=>exact jT [.agg [.bool false o,.imm .free (.ns .u64 p) 1 1 q r,.int .i64 s],.int .i64 ((n:Nat):Int)])
def wP:Option d7→Bool
  | some _=>true
  | none=>false
def xU:Option d7→Nat
  | some (.r0 x _ _ _ _ _)=>x
  | _=>0
def xV:Option d7→Bool
  | some (.r0 _ x _ _ _ _)=>x
  | _=>false
def xW:Option d7→List Int
  | some (.r0 _ _ x _ _ _)=>x
  | _=>[]
def xX:Option d7→Nat
  | some (.r0 _ _ _ x _ _)=>x
  | _=>0
def xY:Option d7→Nat
  | some (.r0 _ _ _ _ x _)=>x
  | _=>0
def xZ:Option d7→Int
  | some (.r0 _ _ _ _ _ x)=>x
  | _=>0
theorem Z5{x:Option d7}(h:wP x=true) :x=some (.r0 (xU x) (xV x) (xW x) (xX x) (xY x) (xZ x)):=by
  unfold wP at h
  split at h <;> first | rfl | (cases h;done) | (rename_i y;cases y;rfl)
def OJ:aL:=bJ EZ (.cons (.agg (.cons .bool (.cons (.ns .u64) (.cons (.int .i64) .nil)))) (.cons (.int .i64) .nil)) fun t=>(fun q=>[⟨FS (.r0 (xU q) (xV q) (xW q) (xX q) (xY q) (xZ q)),[wP q]⟩]) (jW t.1.1 t.1.2.1.2 t.1.2.2.1 t.2.1)
theorem TU:aV prog OJ:=aR fun t=>(aS (fun h=>Z4 t.1.1 t.1.2.1.1 t.1.2.1.2 t.1.2.2.1 t.2.1 (Z5 h)) aZ)
def OK:List aL:=OJ :: WK
theorem r7:bd prog (bf OK):=au TU qT
inductive fb where
  | r0 (a:Bool) (b:List Int) (c:Nat) (d:Nat) (e:Int)
def OL:fb→AE×aQ
  | .r0 a b c d e=>(.ret,⟨ao 16 [(2,.ptr 0 1 0 0)],[(0,.vs [.bool false a,.imm .free (.ns .u64 b) 1 1 c d,.int .i64 e])],1⟩)
theorem KD:jC OL:=by intro x;cases x <;> (intro h;cases h)
def FU:fb→gX
  | .r0 a b c d e=>⟨.agg [.bool false a,.imm .free (.ns .u64 b) 1 1 c d,.int .i64 e],[]⟩
def Z6(a:Int) :Int×Bool→aQ:=fun (b,c)=>⟨ao 16 [(0,.int .i64 a),(2,.ptr 0 1 0 0),(3,.int .u64 b)],[(0,.vs [.bool false c,.nsl,.int .i64 (0:Int)])],1⟩
def KE(a:Int) :T ((Int×Bool)⊕(fb)) :=
  .ask (decide (a < (0:Int)))
    (.leaf (.inl ((IntKind.u64.wrap ((0:Int) - (IntKind.u64.wrap a))),false)))
    (.leaf (.inl ((IntKind.u64.wrap a),false)))
def Z7:Bool×(List Int)×Nat×Nat×Int→aQ:=fun (a,b,c,d,e)=>⟨ao 16 [(2,.ptr 0 1 0 0)],[(0,.vs [.bool false a,.imm .free (.ns .u64 b) 1 1 c d,.int .i64 e])],1⟩
def CJ(b:Int)(a:Int) :T ((Bool×(List Int)×Nat×Nat×Int)⊕(fb)) :=
  .need (vQ (bW a))<|.need (aP (dY (bW a)) (dZ (bW a)) (d4 (bW a)))<|.need (f6 (aI (decide (b < (0:Int))) (ab (dY (bW a)) (dZ (bW a)) (d4 (bW a))) (0:Int)))<|.leaf (.inl ((dp (aI (decide (b < (0:Int))) (ab (dY (bW a)) (dZ (bW a)) (d4 (bW a))) (0:Int))),(dq (aI (decide (b < (0:Int))) (ab (dY (bW a)) (dZ (bW a)) (d4 (bW a))) (0:Int))),(dr (aI (decide (b < (0:Int))) (ab (dY (bW a)) (dZ (bW a)) (d4 (bW a))) (0:Int))),(dt (aI (decide (b < (0:Int))) (ab (dY (bW a)) (dZ (bW a)) (d4 (bW a))) (0:Int))),(du (aI (decide (b < (0:Int))) (ab (dY (bW a)) (dZ (bW a)) (d4 (bW a))) (0:Int)))))
def Z8(a:Bool)(b:List Int)(c:Nat)(d:Nat)(e:Int) :T ((Empty)⊕(fb)) :=
  .leaf (.inr (.r0 a b c d e))
def bD(a:Int) :Option fb:=jR (aE ((KE a).run) fun (b,h) =>
  aE ((CJ a b).run) fun (c,d,e,f,g) =>
  (Z8 c d e f g).run)
theorem Z9(a:Int){x:fb}(h:bD a=some x) :aw prog EU [] [.int .i64 a] (FU x) :=
  kp true FU OL h (Sg.cut 4 KD (bk r7 (Z6 a) [⟨[],[0],[0,2,3]⟩,⟨[],[0],[0,2,3]⟩]) (fun ⟨g,i⟩=>Sg.cut 1 KD (bk r7 Z7 [⟨[],[0],[2]⟩]) (fun ⟨j,k,l,m,n⟩=>bk r7 _ [⟨[],[0],[2]⟩])))
    (fun x=>by cases x with | r0 b c d e f=>exact jT [.agg [.bool false b,.imm .free (.ns .u64 c) 1 1 d e,.int .i64 f]])
def m8:Option fb→Bool
  | some _=>true
  | none=>false
def jh:Option fb→Bool
  | some (.r0 x _ _ _ _)=>x
  | _=>false
def g8:Option fb→List Int
  | some (.r0 _ x _ _ _)=>x
  | _=>[]
def g9:Option fb→Nat
  | some (.r0 _ _ x _ _)=>x
  | _=>0
def hH:Option fb→Nat
  | some (.r0 _ _ _ x _)=>x
  | _=>0
def ji:Option fb→Int
  | some (.r0 _ _ _ _ x)=>x
  | _=>0
theorem aaa{x:Option fb}(h:m8 x=true) :x=some (.r0 (jh x) (g8 x) (g9 x) (hH x) (ji x)):=by
  unfold m8 at h
  split at h <;> first | rfl | (cases h;done) | (rename_i y;cases y;rfl)
def OM:aL:=bJ EU (.cons (.int .i64) .nil) fun t=>(fun q=>[⟨FU (.r0 (jh q) (g8 q) (g9 q) (hH q) (ji q)),[m8 q]⟩]) (bD t.1)
theorem TV:aV prog OM:=aR fun t=>(aS (fun h=>Z9 t.1 (aaa h)) aZ)
def ON:List aL:=OM :: OK
theorem x4:bd prog (bf ON):=au TV r7
inductive kR where
  | r0 (a:Nat)
def OO:kR→AE×aQ
  | .r0 a=>(.ret,⟨ao 26 [(2,.int .i64 ((a:Nat):Int))],[],0⟩)
theorem aab:jC OO:=by intro x;cases x <;> (intro h;cases h)
def FV:kR→gX
  | .r0 a=>⟨.int .i64 ((a:Nat):Int),[]⟩
def aac(_:Unit) :aQ:=⟨ao 26 [],[],0⟩
def wQ(a : Int) : T ((Unit) ⊕ (kR)) :=
  .need (decide ((0:Int)≤(52:Int)))<|.ask ((eP .and .u64 (Int.fdiv a (2 ^ (min (Int.toNat (52:Int)) (IntKind.u64.bits)))) (2047:Int)) == (2047:Int))
    (.ask ((eP .and .u64 a (4503599627370495:Int)) != (0:Int))
      (.leaf (.inr (.r0 5)))
      (.ask ((eP .and .u64 (Int.fdiv a (2 ^ (min (Int.toNat (52:Int)) (IntKind.u64.bits)))) (2047:Int)) == (2047:Int))
        (.leaf (.inr (.r0 4)))
        (.ask ((eP .and .u64 (Int.fdiv a (2 ^ (min (Int.toNat (52:Int)) (IntKind.u64.bits)))) (2047:Int)) != (0:Int))
          (.leaf (.inr (.r0 3)))
          (.ask ((eP .and .u64 a (4503599627370495:Int)) != (0:Int))
            (.leaf (.inr (.r0 2)))
            (.leaf (.inl ()))))))
    (.ask ((eP .and .u64 (Int.fdiv a (2 ^ (min (Int.toNat (52:Int)) (IntKind.u64.bits)))) (2047:Int)) == (2047:Int))
      (.leaf (.inr (.r0 4)))
      (.ask ((eP .and .u64 (Int.fdiv a (2 ^ (min (Int.toNat (52:Int)) (IntKind.u64.bits)))) (2047:Int)) != (0:Int))
        (.leaf (.inr (.r0 3)))
        (.ask ((eP .and .u64 a (4503599627370495:Int)) != (0:Int))
          (.leaf (.inr (.r0 2)))
          (.leaf (.inl ())))))
def aad:T ((Empty)⊕(kR)) :=
  .leaf (.inr (.r0 1))
def uj(a:Int) :Option kR:=jR (aE ((wQ a).run) fun _ =>
  (aad).run)
theorem aae(a:Int){x:kR}(h:uj a=some x) :aw prog N7 [] [.int .u64 a] (FV x) :=
  kp false FV OO h (Sg.cut 3 aab (bk x4 aac [⟨[],[],[2]⟩,⟨[],[],[2]⟩,⟨[],[],[2]⟩,⟨[],[],[2]⟩,⟨[],[],[]⟩,⟨[],[],[2]⟩,⟨[],[],[2]⟩,⟨[],[],[2]⟩,⟨[],[],[]⟩]) (fun _=>bk x4 _ [⟨[],[],[2]⟩]))
    (fun x=>by cases x with | r0 b=>exact jT [.int .i64 ((b:Nat):Int)])
def wR:Option kR→Bool
  | some _=>true
  | none=>false
def x5:Option kR→Nat
  | some (.r0 x)=>x
  | _=>0
theorem aaf{x:Option kR}(h:wR x=true) :x=some (.r0 (x5 x)):=by
  unfold wR at h
  split at h <;> first | rfl | (cases h;done) | (rename_i y;cases y;rfl)
def OP:aL:=bJ N7 (.cons (.int .u64) .nil) fun t=>(fun q=>[⟨FV (.r0 (x5 q)),[wR q]⟩]) (uj t.1)
theorem TW:aV prog OP:=aR fun t=>(aS (fun h=>aae t.1 (aaf h)) aZ)
def OQ:List aL:=OP :: ON
theorem x6:bd prog (bf OQ):=au TW x4
inductive hJ where
  | r0 (a:Nat) (b:Bool) (c:Int) (d:Int)
def OR:hJ→AE×aQ
  | .r0 a b c d=>(.ret,⟨ao 36 [(2,.ptr 0 1 0 0),(3,.int .i64 ((a:Nat):Int))],[(0,.vs [.bool false b,.int .u64 c,.int .i64 d])],1⟩)
theorem aag:jC OR:=by intro x;cases x <;> (intro h;cases h)
def FW:hJ→gX
  | .r0 a b c d=>⟨.tup [.agg [.bool false b,.int .u64 c,.int .i64 d],.int .i64 ((a:Nat):Int)],[]⟩
def aah(a:Int) :Nat×Bool×Bool×Int→aQ:=fun (b,c,d,e)=>⟨ao 36 [(0,.int .u64 a),(2,.ptr 0 1 0 0),(4,.ptr 1 1 0 0),(12,.int .i64 ((b:Nat):Int))],[(0,.vs [.bool false c,.int .u64 (0:Int),.int .i64 (0:Int)]),(1,.vs [.bool false d,.int .u64 e,.int .i64 (-1074:Int)])],2⟩
def KF(a:Int) :T ((Nat×Bool×Bool×Int)⊕(hJ)) :=
  .need (decide ((0:Int)≤(63:Int)))<|.need (wR (uj a))<|.leaf (.inl ((x5 (uj a)),false,((Int.fdiv a (2 ^ (min (Int.toNat (63:Int)) (IntKind.u64.bits)))) == (1:Int)),(eP .and .u64 a (4503599627370495:Int))))
def CL(a:Int)(b:Nat)(c:Bool)(d:Int) :T ((Empty)⊕(hJ)) :=
  .ask (((b:Nat):Int) == (3:Int))
    (.need (decide ((0:Int)≤(52:Int)))<|.need (dn .i64 ((IntKind.i64.wrap (eP .and .u64 (Int.fdiv a (2 ^ (min (Int.toNat (52:Int)) (IntKind.u64.bits)))) (2047:Int))) - (1:Int)))<|.need (dn .i64 ((-1074:Int)+((IntKind.i64.wrap (eP .and .u64 (Int.fdiv a (2 ^ (min (Int.toNat (52:Int)) (IntKind.u64.bits)))) (2047:Int))) - (1:Int))))<|.leaf (.inr (.r0 0 c (eP .or .u64 d (4503599627370496:Int)) ((-1074:Int)+((IntKind.i64.wrap (eP .and .u64 (Int.fdiv a (2 ^ (min (Int.toNat (52:Int)) (IntKind.u64.bits)))) (2047:Int))) - (1:Int))))))
    (.ask (((b:Nat):Int) == (2:Int))
      (.leaf (.inr (.r0 0 c d (-1074:Int))))
      (.ask (((b:Nat):Int) == (1:Int))
        (.leaf (.inr (.r0 0 c d (0:Int))))
        (.leaf (.inr (.r0 2 false (0:Int) (0:Int))))))
def f7(a:Int) :Option hJ:=jR (aE ((KF a).run) fun (b,e,c,d) =>
  (CL a b c d).run)
theorem aai(a:Int){x:hJ}(h:f7 a=some x) :aw prog N6 [] [.int .u64 a] (FW x) :=
  kp false FW OR h (Sg.cut 3 aag (bk x6 (aah a) [⟨[],[0,128],[0,2,4,12]⟩]) (fun ⟨f,g,i,j⟩=>bk x6 _ [⟨[],[0],[2,3]⟩,⟨[],[0],[2,3]⟩,⟨[],[0],[2,3]⟩,⟨[],[0],[2,3]⟩]))
    (fun x=>by cases x with | r0 b c d e=>exact jT [.agg [.bool false c,.int .u64 d,.int .i64 e],.int .i64 ((b:Nat):Int)])
def qU:Option hJ→Bool
  | some _=>true
  | none=>false
def r8:Option hJ→Nat
  | some (.r0 x _ _ _)=>x
  | _=>0
def r9:Option hJ→Bool
  | some (.r0 _ x _ _)=>x
  | _=>false
def sa:Option hJ→Int
  | some (.r0 _ _ x _)=>x
  | _=>0
def sb:Option hJ→Int
  | some (.r0 _ _ _ x)=>x
  | _=>0
theorem aaj{x:Option hJ}(h:qU x=true) :x=some (.r0 (r8 x) (r9 x) (sa x) (sb x)):=by
  unfold qU at h
  split at h <;> first | rfl | (cases h;done) | (rename_i y;cases y;rfl)
def OS:aL:=bJ N6 (.cons (.int .u64) .nil) fun t=>(fun q=>[⟨FW (.r0 (r8 q) (r9 q) (sa q) (sb q)),[qU q]⟩]) (f7 t.1)
theorem TX:aV prog OS:=aR fun t=>(aS (fun h=>aai t.1 (aaj h)) aZ)
def OT:List aL:=OS :: OQ
theorem sc:bd prog (bf OT):=au TX x6
inductive jN where
  | r0 (a:Nat) (b:Bool) (c:List Int) (d:Nat) (e:Nat) (f:Int)
def ad0:jN→AE×aQ
  | .r0 a b c d e f=>(.ret,⟨ao 25 [(2,.ptr 0 1 0 0),(3,.int .i64 ((a:Nat):Int))],[(0,.vs [.bool false b,.imm .free (.ns .u64 c) 1 1 d e,.int .i64 f])],1⟩)
theorem WL:jC ad0:=by intro x;cases x <;> (intro h;cases h)
def Rd:jN→gX
  | .r0 a b c d e f=>⟨.tup [.agg [.bool false b,.imm .free (.ns .u64 c) 1 1 d e,.int .i64 f],.int .i64 ((a:Nat):Int)],[]⟩
def anl:Nat×Bool×Bool×Int×Int→aQ:=fun (a,b,c,d,e)=>⟨ao 25 [(2,.ptr 0 1 0 0),(4,.ptr 1 1 0 0),(5,.int .i64 ((a:Nat):Int))],[(0,.vs [.bool false b,.nsl,.int .i64 (0:Int)]),(1,.vs [.bool false c,.int .u64 d,.int .i64 e])],2⟩
def WM(a:Nat) :T ((Nat×Bool×Bool×Int×Int)⊕(jN)) :=
  .ask (UX a a)
    (.need (qU (f7 (9221120237041090560:Int)))<|.leaf (.inl ((r8 (f7 (9221120237041090560:Int))),false,(r9 (f7 (9221120237041090560:Int))),(sa (f7 (9221120237041090560:Int))),(sb (f7 (9221120237041090560:Int))))))
    (.alt 0
      (.need (!isNaN a)<|.need (qU (f7 ((a:Nat):Int)))<|.leaf (.inl ((r8 (f7 ((a:Nat):Int))),false,(r9 (f7 ((a:Nat):Int))),(sa (f7 ((a:Nat):Int))),(sb (f7 ((a:Nat):Int))))))
      (.fail))
def anm:Bool×(List Int)×Nat×Nat×Int→aQ:=fun (a,b,c,d,e)=>⟨ao 25 [(2,.ptr 0 1 0 0),(3,.int .i64 (0:Int))],[(0,.vs [.bool false a,.imm .free (.ns .u64 b) 1 1 c d,.int .i64 e])],1⟩
def ML(d:Nat)(b:Bool)(a:Int)(c:Int) :T ((Bool×(List Int)×Nat×Nat×Int)⊕(jN)) :=
  .ask (((d:Nat):Int) != (0:Int))
    (.leaf (.inr (.r0 d false ([]:List Int) 0 0 (0:Int))))
    (.need (vQ (bW a))<|.need (aP (dY (bW a)) (dZ (bW a)) (d4 (bW a)))<|.need (f6 (aI b (ab (dY (bW a)) (dZ (bW a)) (d4 (bW a))) c))<|.leaf (.inl ((dp (aI b (ab (dY (bW a)) (dZ (bW a)) (d4 (bW a))) c)),(dq (aI b (ab (dY (bW a)) (dZ (bW a)) (d4 (bW a))) c)),(dr (aI b (ab (dY (bW a)) (dZ (bW a)) (d4 (bW a))) c)),(dt (aI b (ab (dY (bW a)) (dZ (bW a)) (d4 (bW a))) c)),(du (aI b (ab (dY (bW a)) (dZ (bW a)) (d4 (bW a))) c)))))
def ann(a:Bool)(b:List Int)(c:Nat)(d:Nat)(e:Int) :T ((Empty)⊕(jN)) :=
  .leaf (.inr (.r0 0 a b c d e))
def l8(a:Nat) :Option jN:=jR (aE ((WM a).run) fun (b,k,c,d,e) =>
  aE ((ML b c d e).run) fun (f,g,h,i,j) =>
  (ann f g h i j).run)
theorem ano(a:Nat){x:jN}(h:l8 a=some x) :aw prog QP [] [.flt false a] (Rd x) :=
  kp true Rd ad0 h (Sg.cut 2 WL (bk sc anl [⟨[],[0,128],[2,4,5]⟩,⟨[],[0,128],[2,4,5]⟩]) (fun ⟨i,j,k,l,m⟩=>Sg.cut 3 WL (bk sc anm [⟨[(.cell 0 1,.fre 1 1 (.ns .u64 ([]:List Int)))],[0],[2,3]⟩,⟨[],[0],[2,3]⟩]) (fun ⟨n,o,p,q,r⟩=>bk sc _ [⟨[],[0],[2,3]⟩])))
    (fun x=>by cases x with | r0 b c d e f g=>exact jT [.agg [.bool false c,.imm .free (.ns .u64 d) 1 1 e f,.int .i64 g],.int .i64 ((b:Nat):Int)])
def z4:Option jN→Bool
  | some _=>true
  | none=>false
def OU:Option jN→Nat
  | some (.r0 x _ _ _ _ _)=>x
  | _=>0
def yZ:Option jN→Bool
  | some (.r0 _ x _ _ _ _)=>x
  | _=>false
def uk:Option jN→List Int
  | some (.r0 _ _ x _ _ _)=>x
  | _=>[]
def ul:Option jN→Nat
  | some (.r0 _ _ _ x _ _)=>x
  | _=>0
def um:Option jN→Nat
  | some (.r0 _ _ _ _ x _)=>x
  | _=>0
def y4:Option jN→Int
  | some (.r0 _ _ _ _ _ x)=>x
  | _=>0
theorem anp{x:Option jN}(h:z4 x=true) :x=some (.r0 (OU x) (yZ x) (uk x) (ul x) (um x) (y4 x)):=by
  unfold z4 at h
  split at h <;> first | rfl | (cases h;done) | (rename_i y;cases y;rfl)
def ad1:aL:=bJ QP (.cons (.flt false) .nil) fun t=>(fun q=>[⟨Rd (.r0 (OU q) (yZ q) (uk q) (ul q) (um q) (y4 q)),[z4 q]⟩]) (l8 t.1)
theorem afD:aV prog ad1:=aR fun t=>(aS (fun h=>ano t.1 (anp h)) aZ)
def ad2:List aL:=ad1 :: OT
theorem un:bd prog (bf ad2):=au afD sc
inductive f9 where
  | r0 (a:Nat) (b:List Int)
def y5:f9→AE×aQ
  | .r0 a b=>(.ret,⟨ao 22 [(2,.sl 0 1 1 0 a a)],[(0,.ns .u64 b)],1⟩)
theorem wS:jC y5:=by intro x;cases x <;> (intro h;cases h)
theorem aak(id:Nat) :m5 id y5:=by intro x;cases x <;> (intro h;cases h)
def FX:f9→gX
  | .r0 a b=>⟨.imm .free (.ns .u64 b) 1 1 0 a,[]⟩
def WN:List Code:=cP (nO yQ)
def aal(b:Lv)(a:List Int)(_:Unit) :aQ:=⟨ao 22 [(0,.imm b (.ns .u64 a) 1 1 0 (List.length a)),(3,.int .i64 (((List.length a):Nat):Int))],[],0⟩
def WO:T ((Unit)⊕(f9)) :=
  .leaf (.inl ())
def CM(b:Lv)(a:List Int)(c:Int) :aQ:=⟨ao 22 [(0,.imm b (.ns .u64 a) 1 1 0 (List.length a)),(3,.int .i64 c)],[],0⟩
def KG(b:Lv)(a:List Int)(c:Int) :aQ:=⟨ao 22 [(0,.imm b (.ns .u64 a) 1 1 0 (List.length a)),(3,.int .i64 c)],[],0⟩
def WP:List Code:=cP (dD ((((WN.drop 2).take 1)).headD .skip))
def aam(b:Lv)(a:List Int)(c:Int)(d:Bool) :aQ:=⟨ao 22 [(0,.imm b (.ns .u64 a) 1 1 0 (List.length a)),(3,.int .i64 c),(15,.bool false d)],[],0⟩
def pG(b:List Int)(a:Int) :T ((Bool)⊕((Int)⊕(f9))) :=
  .ask (decide (a > (0:Int)))
    (.need (dn .i64 (a - (1:Int)))<|.need (gD (a - (1:Int)) (List.length b))<|.need (im (Int.toNat (a - (1:Int))) (List.length b))<|.leaf (.inl ((List.getD b (Int.toNat (a - (1:Int))) 0) == (0:Int))))
    (.leaf (.inl false))
def Ip(a:Int)(b:Bool) :T ((Int)⊕((Int)⊕(f9))) :=
  .ask b
    (.need (dn .i64 (a - (1:Int)))<|.leaf (.inl (a - (1:Int))))
    (.leaf (.inr (.inl a)))
def z5(b:List Int) :Int→Option ((Int)⊕((Int)⊕(f9))):=fun a =>
  aE ((pG b a).run) fun c =>
  (Ip a c).run
theorem WQ(b:Lv)(a:List Int)(c:Int) :Sg prog [] WP (CM b a c) (z5 a c) (CM b a) (cL 0 (KG b a) y5):=by
  unfold z5;exact Sg.cut 1 (ay wS) (bk un (aam b a c) [⟨[],[],[0,3,15]⟩,⟨[],[],[0,3,15]⟩]) (fun d=>bk un _ [⟨[],[],[0,3]⟩,⟨[],[],[0,3]⟩])
def Iq(b:List Int)(a:Int) :T ((Empty)⊕(f9)) :=
  .need (Ke a (List.length b))<|.need (Ke (0:Int) (Int.toNat a))<|.need (qv ((Int.toNat a) * 8) 140737488355328)<|.need (qv (Int.toNat a) 9223372036854775807)<|.need (qv (Int.toNat a) (List.length b))<|.leaf (.inr (.r0 (Int.toNat a) (List.take (Int.toNat a) b)))
def cT(a:List Int) :Option f9:=jR (aE ((WO).run) fun _ =>
  aE (dc (z5 a) (((List.length a):Nat):Int)) fun b =>
  (Iq a b).run)
theorem aan(b:Lv)(a:List Int){x:f9}(h:cT a=some x) :aw prog yQ [] [.imm b (.ns .u64 a) 1 1 0 (List.length a)] (FX x) :=
  kp true FX y5 h (Sg.cut 2 wS (bk un (aal b a) [⟨[],[],[0,3]⟩]) (fun _=>Sg.cut 1 wS (BM ⟨[],[],[0,3]⟩ (CM b a) (KG b a) 0 wS (aak _) (fun d=>WQ b a d)) (fun e=>bk un _ [⟨[],[48],[2]⟩])))
    (fun x=>by cases x with | r0 c f=>exact jT [.sl 0 1 1 0 c c])
def jX:Option f9→Bool
  | some _=>true
  | none=>false
def jj:Option f9→Nat
  | some (.r0 x _)=>x
  | _=>0
def jk:Option f9→List Int
  | some (.r0 _ x)=>x
  | _=>[]
theorem aao{x:Option f9}(h:jX x=true) :x=some (.r0 (jj x) (jk x)):=by
  unfold jX at h
  split at h <;> first | rfl | (cases h;done) | (rename_i y;cases y;rfl)
def OV:aL:=bJ yQ (.cons (.ns .u64) .nil) fun t=>(fun q=>[⟨FX (.r0 (jj q) (jk q)),[jX q]⟩]) (cT t.1.2)
theorem TY:aV prog OV:=aR fun t=>(aS (fun h=>aan t.1.1 t.1.2 (aao h)) aZ)
def OW:List aL:=OV :: ad2
theorem sd:bd prog (bf OW):=au TY un
inductive iA where
  | r0 (a:Nat) (b:Nat) (c:List Int)
def B0:iA→AE×aQ
  | .r0 a b c=>(.ret,⟨ao 25 [(2,.sl 0 1 1 0 a b)],[(0,.ns .u64 c)],1⟩)
theorem FY:jC B0:=by intro x;cases x <;> (intro h;cases h)
theorem afE(id:Nat) :m5 id B0:=by intro x;cases x <;> (intro h;cases h)
def Ir:iA→gX
  | .r0 a c b=>⟨.imm .free (.ns .u64 b) 1 1 0 a,[]⟩
def afF:List Code:=cP (nO BG)
def afG(b:Lv)(a:List Int)(_:Unit) :aQ:=⟨ao 25 [(0,.imm b (.ns .u64 a) 1 1 0 (List.length a)),(3,.nsl),(4,.int .i64 (0:Int))],[],0⟩
def afH:T ((Unit)⊕(iA)) :=
  .leaf (.inl ())
def FZ(b:Lv)(a:List Int) :Nat×Nat×Nat×(List Int)→aQ:=fun (c,d,e,f)=>⟨ao 25 [(0,.imm b (.ns .u64 a) 1 1 0 (List.length a)),(3,.sl 0 1 1 0 c d),(4,.int .i64 ((e:Nat):Int))],[(0,.ns .u64 f)],1⟩
def OX:Nat×Nat×(List Int)→aQ:=fun (a,b,c)=>⟨ao 25 [(3,.sl 0 1 1 0 a b)],[(0,.ns .u64 c)],1⟩
def afI:List Code:=cP (dD ((((afF.drop 3).take 1)).headD .skip))
def wT(b:List Int)(c:Nat)(e:Nat)(a:Nat)(d:List Int) :T ((Nat×Nat×Nat×(List Int))⊕((Nat×Nat×(List Int))⊕(iA))) :=
  .ask (decide (((a:Nat):Int) < (((List.length b):Nat):Int)))
    (.need (gD ((a:Nat):Int) (List.length b))<|.need (im a (List.length b))<|.need ((4294967296:Int) != (0:Int))<|.need (gD ((a:Nat):Int) (List.length b))<|.need (im a (List.length b))<|.need ((4294967296:Int) != (0:Int))<|.need (qv ((c+2) * 8) 140737488355328)<|.need (qv (c+2) 9223372036854775807)<|.need (qv 2 (List.length [(Int.tmod (List.getD b a 0) (4294967296:Int)),(IntKind.u64.wrap (Int.tdiv (List.getD b a 0) (4294967296:Int)))]))<|.need (qv c (List.length d))<|.need (dn .i64 (((a+1):Nat):Int))<|.leaf (.inl ((c+2),(c+2),(a+1),((List.take c d) ++ (List.take 2 [(Int.tmod (List.getD b a 0) (4294967296:Int)),(IntKind.u64.wrap (Int.tdiv (List.getD b a 0) (4294967296:Int)))])))))
    (.leaf (.inr (.inl (c,e,d))))
def CN(a:List Int) :Nat×Nat×Nat×(List Int)→Option ((Nat×Nat×Nat×(List Int))⊕((Nat×Nat×(List Int))⊕(iA))):=fun (b,c,d,e) =>
  (wT a b c d e).run
theorem aap(b:Lv)(a:List Int)(c:Nat)(d:Nat)(e:Nat)(f:List Int) :Sg prog [] afI (FZ b a (c,d,e,f)) (CN a (c,d,e,f)) (FZ b a) (cL 0 OX B0):=by
  unfold CN;exact bk sd _ [⟨[],[257],[0,3,4]⟩,⟨[],[0],[3]⟩]
def aaq(a:Nat)(b:Nat)(c:List Int) :T ((Empty)⊕(iA)) :=
  .leaf (.inr (.r0 a b c))
def df(a:List Int) :Option iA:=jR (aE ((afH).run) fun _ =>
  aE (dc (CN a) (0,0,0,([]:List Int))) fun (b,c,d) =>
  (aaq b c d).run)
theorem afJ(b:Lv)(a:List Int){x:iA}(h:df a=some x) :aw prog BG [] [.imm b (.ns .u64 a) 1 1 0 (List.length a)] (Ir x) :=
  kp true Ir B0 h (Sg.cut 3 FY (bk sd (afG b a) [⟨[],[],[0,3,4]⟩]) (fun _=>Sg.cut 1 FY (BM ⟨[(.slot 3,.own 1 1 (.ns .u64 ([]:List Int)))],[0],[0,3,4]⟩ (FZ b a) (OX) 0 FY (afE _) (fun ⟨c,d,e,f⟩=>aap b a c d e f)) (fun ⟨j,k,l⟩=>bk sd _ [⟨[],[0],[2]⟩])))
    (fun x=>by cases x with | r0 g i m=>exact jT [.sl 0 1 1 0 g i])
def kS:Option iA→Bool
  | some _=>true
  | none=>false
def j7:Option iA→Nat
  | some (.r0 x _ _)=>x
  | _=>0
def Is:Option iA→Nat
  | some (.r0 _ x _)=>x
  | _=>0
def j8:Option iA→List Int
  | some (.r0 _ _ x)=>x
  | _=>[]
theorem afK{x:Option iA}(h:kS x=true) :x=some (.r0 (j7 x) (Is x) (j8 x)):=by
  unfold kS at h
  split at h <;> first | rfl | (cases h;done) | (rename_i y;cases y;rfl)
def SF:aL:=bJ BG (.cons (.ns .u64) .nil) fun t=>(fun q=>[⟨Ir (.r0 (j7 q) (Is q) (j8 q)),[kS q]⟩]) (df t.1.2)
theorem WR:aV prog SF:=aR fun t=>(aS (fun h=>afJ t.1.1 t.1.2 (afK h)) aZ)
def SG:List aL:=SF :: OW
theorem It:bd prog (bf SG):=au WR sd
inductive k7 where
  | r0 (a:Int)
def aar:k7→AE×aQ
  | .r0 a=>(.ret,⟨ao 13 [(4,.int .u64 a)],[],0⟩)
def CO:k7→gX
  | .r0 a=>⟨.int .u64 a,[]⟩
def Iu(a:List Int)(b:Int) :T ((Empty)⊕(k7)) :=
  .ask (decide (b < (((List.length a):Nat):Int)))
    (.need (gD b (List.length a))<|.need (im (Int.toNat b) (List.length a))<|.leaf (.inr (.r0 (List.getD a (Int.toNat b) 0))))
    (.leaf (.inr (.r0 (0:Int))))
def dR(a:List Int)(b:Int) :Option k7:=jR ((Iu a b).run)
theorem WS(c:Lv)(a:List Int)(b:Int){x:k7}(h:dR a b=some x) :aw prog Ct [] [.imm c (.ns .u64 a) 1 1 0 (List.length a),.int .i64 b] (CO x) :=
  kp true CO aar h (bk It _ [⟨[],[],[4]⟩,⟨[],[],[4]⟩])
    (fun x=>by cases x with | r0 d=>exact jT [.int .u64 d])
def j9:Option k7→Bool
  | some _=>true
  | none=>false
def di:Option k7→Int
  | some (.r0 x)=>x
  | _=>0
theorem WT{x:Option k7}(h:j9 x=true) :x=some (.r0 (di x)):=by
  unfold j9 at h
  split at h <;> first | rfl | (cases h;done) | (rename_i y;cases y;rfl)
def KH:aL:=bJ Ct (.cons (.ns .u64) (.cons (.int .i64) .nil)) fun t=>(fun q=>[⟨CO (.r0 (di q)),[j9 q]⟩]) (dR t.1.2 t.2.1)
theorem Re:aV prog KH:=aR fun t=>(aS (fun h=>WS t.1.1 t.1.2 t.2.1 (WT h)) aZ)
def KI:List aL:=KH :: SG
theorem lr:bd prog (bf KI):=au Re It
inductive fc where
  | r0 (a:List Int) (b:Nat)
def y6:fc→AE×aQ
  | .r0 a b=>(.ret,⟨ao 35 [(2,.imm .free (.ns .u64 a) 1 1 0 b)],[],0⟩)
theorem qV:jC y6:=by intro x;cases x <;> (intro h;cases h)
theorem aas(id:Nat) :m5 id y6:=by intro x;cases x <;> (intro h;cases h)
def F0:fc→gX
  | .r0 a b=>⟨.imm .free (.ns .u64 a) 1 1 0 b,[]⟩
def WU:List Code:=cP (nO yS)
def aat(b:Lv)(a:List Int)(_:Unit) :aQ:=⟨ao 35 [(0,.imm b (.ns .u64 a) 1 1 0 (List.length a)),(3,.nsl),(4,.int .i64 (0:Int))],[],0⟩
def WV:T ((Unit)⊕(fc)) :=
  .leaf (.inl ())
def CP(b:Lv)(a:List Int) :Nat×Nat×Nat×(List Int)→aQ:=fun (c,d,e,f)=>⟨ao 35 [(0,.imm b (.ns .u64 a) 1 1 0 (List.length a)),(3,.sl 0 1 1 0 c d),(4,.int .i64 ((e:Nat):Int))],[(0,.ns .u64 f)],1⟩
def KJ:Nat×Nat×(List Int)→aQ:=fun (a,b,c)=>⟨ao 35 [(3,.sl 0 1 1 0 a b)],[(0,.ns .u64 c)],1⟩
def WW:List Code:=cP (dD ((((WU.drop 3).take 1)).headD .skip))
def aau(c:Lv)(a:List Int)(d:Nat) :Nat×(List Int)→aQ:=fun (b,e)=>⟨ao 35 [(0,.imm c (.ns .u64 a) 1 1 0 (List.length a)),(3,.sl 0 1 1 0 b b),(4,.int .i64 ((d:Nat):Int))],[(0,.ns .u64 e)],1⟩
def uo(b:List Int)(c:Nat)(e:Nat)(a:Nat)(d:List Int) :T ((Nat×(List Int))⊕((Nat×Nat×(List Int))⊕(fc))) :=
  .ask (decide (((a:Nat):Int) < (((List.length b):Nat):Int)))
    (.need (gD ((a:Nat):Int) (List.length b))<|.need (im a (List.length b))<|.need (dn .i64 (((a+1):Nat):Int))<|.ask (decide ((((a+1):Nat):Int) < (((List.length b):Nat):Int)))
      (.need (dn .i64 (((a+1):Nat):Int))<|.need (gD (((a+1):Nat):Int) (List.length b))<|.need (im (a+1) (List.length b))<|.need (qv ((c+1) * 8) 140737488355328)<|.need (qv (c+1) 9223372036854775807)<|.need (qv 1 (List.length [(IntKind.u64.wrap ((List.getD b a 0)+(IntKind.u64.wrap ((List.getD b (a+1) 0) * (4294967296:Int)))))]))<|.need (qv c (List.length d))<|.leaf (.inl ((c+1),((List.take c d) ++ (List.take 1 [(IntKind.u64.wrap ((List.getD b a 0)+(IntKind.u64.wrap ((List.getD b (a+1) 0) * (4294967296:Int)))))])))))
      (.need (qv ((c+1) * 8) 140737488355328)<|.need (qv (c+1) 9223372036854775807)<|.need (qv 1 (List.length [(List.getD b a 0)]))<|.need (qv c (List.length d))<|.leaf (.inl ((c+1),((List.take c d) ++ (List.take 1 [(List.getD b a 0)]))))))
    (.leaf (.inr (.inl (c,e,d))))
def WX(a:Nat)(b:Nat)(c:List Int) :T ((Nat×Nat×Nat×(List Int))⊕((Nat×Nat×(List Int))⊕(fc))) :=
  .need (dn .i64 (((a+2):Nat):Int))<|.leaf (.inl (b,b,(a+2),c))
def z6(b:List Int) :Nat×Nat×Nat×(List Int)→Option ((Nat×Nat×Nat×(List Int))⊕((Nat×Nat×(List Int))⊕(fc))):=fun (c,d,a,e) =>
  aE ((uo b c d a e).run) fun (f,g) =>
  (WX a f g).run
theorem WY(b:Lv)(a:List Int)(d:Nat)(e:Nat)(c:Nat)(f:List Int) :Sg prog [] WW (CP b a (d,e,c,f)) (z6 a (d,e,c,f)) (CP b a) (cL 0 KJ y6):=by
  unfold z6;exact Sg.cut 3 (ay qV) (bk lr (aau b a c) [⟨[],[417],[0,3,4]⟩,⟨[],[273],[0,3,4]⟩,⟨[],[0],[3]⟩]) (fun ⟨g,h⟩=>bk lr _ [⟨[],[0],[0,3,4]⟩])
def WZ:(List Int)×Nat→aQ:=fun (a,b)=>⟨ao 35 [(2,.imm .free (.ns .u64 a) 1 1 0 b)],[],0⟩
def z7(a:Nat)(b:List Int) :T (((List Int)×Nat)⊕(fc)) :=
  .need (aP 0 a b)<|.need (jX (cT (ab 0 a b)))<|.leaf (.inl ((jk (cT (ab 0 a b))),(jj (cT (ab 0 a b)))))
def W1(a:List Int)(b:Nat) :T ((Empty)⊕(fc)) :=
  .leaf (.inr (.r0 a b))
def ia(a:List Int) :Option fc:=jR (aE ((WV).run) fun _ =>
  aE (dc (z6 a) (0,0,0,([]:List Int))) fun (b,f,c) =>
  aE ((z7 b c).run) fun (d,e) =>
  (W1 d e).run)
theorem aav(b:Lv)(a:List Int){x:fc}(h:ia a=some x) :aw prog yS [] [.imm b (.ns .u64 a) 1 1 0 (List.length a)] (F0 x) :=
  kp true F0 y6 h (Sg.cut 3 qV (bk lr (aat b a) [⟨[],[],[0,3,4]⟩]) (fun _=>Sg.cut 1 qV (BM ⟨[(.slot 3,.own 1 1 (.ns .u64 ([]:List Int)))],[0],[0,3,4]⟩ (CP b a) (KJ) 0 qV (aas _) (fun ⟨c,d,e,f⟩=>WY b a c d e f)) (fun ⟨j,k,l⟩=>Sg.cut 1 qV (bk lr WZ [⟨[],[],[2]⟩]) (fun ⟨m,n⟩=>bk lr _ [⟨[],[],[2]⟩]))))
    (fun x=>by cases x with | r0 g i=>exact jT [.imm .free (.ns .u64 g) 1 1 0 i])
def oY:Option fc→Bool
  | some _=>true
  | none=>false
def oJ:Option fc→List Int
  | some (.r0 x _)=>x
  | _=>[]
def oK:Option fc→Nat
  | some (.r0 _ x)=>x
  | _=>0
theorem aaw{x:Option fc}(h:oY x=true) :x=some (.r0 (oJ x) (oK x)):=by
  unfold oY at h
  split at h <;> first | rfl | (cases h;done) | (rename_i y;cases y;rfl)
def OY:aL:=bJ yS (.cons (.ns .u64) .nil) fun t=>(fun q=>[⟨F0 (.r0 (oJ q) (oK q)),[oY q]⟩]) (ia t.1.2)
theorem TZ:aV prog OY:=aR fun t=>(aS (fun h=>aav t.1.1 t.1.2 (aaw h)) aZ)
def OZ:List aL:=OY :: KI
theorem jl:bd prog (bf OZ):=au TZ lr
inductive e8 where
  | r0 (a:List Int) (b:Nat)
def B1:e8→AE×aQ
  | .r0 a b=>(.ret,⟨ao 48 [(4,.imm .free (.ns .u64 a) 1 1 0 b)],[],0⟩)
theorem oa:jC B1:=by intro x;cases x <;> (intro h;cases h)
theorem afL(id:Nat) :m5 id B1:=by intro x;cases x <;> (intro h;cases h)
def Iv:e8→gX
  | .r0 a b=>⟨.imm .free (.ns .u64 a) 1 1 0 b,[]⟩
def aax:List Code:=cP (nO BA)
def afM:(List Int)×Nat×(List Int)×Nat→aQ:=fun (a,b,c,d)=>⟨ao 48 [(5,.imm .free (.ns .u64 a) 1 1 0 b),(6,.imm .free (.ns .u64 c) 1 1 0 d)],[],0⟩
def KK(a:List Int)(b:List Int) :T (((List Int)×Nat×(List Int)×Nat)⊕(e8)) :=
  .need (aP 0 (List.length a) a)<|.need (kS (df (ab 0 (List.length a) a)))<|.need (aP 0 (List.length b) b)<|.need (kS (df (ab 0 (List.length b) b)))<|.leaf (.inl ((j8 (df (ab 0 (List.length a) a))),(j7 (df (ab 0 (List.length a) a))),(j8 (df (ab 0 (List.length b) b))),(j7 (df (ab 0 (List.length b) b)))))
def afN(a:List Int)(b:Nat)(c:List Int)(d:Nat)(_:Unit) :aQ:=⟨ao 48 [(5,.imm .free (.ns .u64 a) 1 1 0 b),(6,.imm .free (.ns .u64 c) 1 1 0 d),(7,.nsl),(8,.int .u64 (0:Int)),(9,.int .i64 (0:Int))],[],0⟩
def aay:T ((Unit)⊕(e8)) :=
  .leaf (.inl ())
def CQ(a:List Int)(b:Nat)(c:List Int)(d:Nat) :Nat×Nat×Int×Nat×(List Int)→aQ:=fun (e,f,g,h,i)=>⟨ao 48 [(5,.imm .free (.ns .u64 a) 1 1 0 b),(6,.imm .free (.ns .u64 c) 1 1 0 d),(7,.sl 0 1 1 0 e f),(8,.int .u64 g),(9,.int .i64 ((h:Nat):Int))],[(0,.ns .u64 i)],1⟩
def KL:Nat×Nat×Int×(List Int)→aQ:=fun (a,b,c,d)=>⟨ao 48 [(7,.sl 0 1 1 0 a b),(8,.int .u64 c)],[(0,.ns .u64 d)],1⟩
def aaz:List Code:=cP (dD (((((aax.drop 2).drop 3).take 1)).headD .skip))
def aaA(a:List Int)(b:Nat)(c:List Int)(d:Nat)(e:Nat)(f:Nat)(g:Int)(h:Nat)(i:List Int)(j:Bool) :aQ:=⟨ao 48 [(5,.imm .free (.ns .u64 a) 1 1 0 b),(6,.imm .free (.ns .u64 c) 1 1 0 d),(7,.sl 0 1 1 0 e f),(8,.int .u64 g),(9,.int .i64 ((h:Nat):Int)),(24,.bool false j)],[(0,.ns .u64 i)],1⟩
def qW(b:Nat)(c:Nat)(a:Nat) :T ((Bool)⊕((Nat×Nat×Int×(List Int))⊕(e8))) :=
  .ask (decide (((a:Nat):Int) < ((b:Nat):Int)))
    (.leaf (.inl true))
    (.leaf (.inl (decide (((a:Nat):Int) < ((c:Nat):Int)))))
def aaB(b:List Int)(c:Nat)(d:List Int)(e:Nat)(f:Nat) :Nat×Int×(List Int)→aQ:=fun (a,g,h)=>⟨ao 48 [(5,.imm .free (.ns .u64 b) 1 1 0 c),(6,.imm .free (.ns .u64 d) 1 1 0 e),(7,.sl 0 1 1 0 a a),(8,.int .u64 g),(9,.int .i64 ((f:Nat):Int))],[(0,.ns .u64 h)],1⟩
def CR(c:List Int)(d:Nat)(e:List Int)(f:Nat)(b:Nat)(i:Nat)(g:Int)(a:Nat)(h:List Int)(j:Bool) :T ((Nat×Int×(List Int))⊕((Nat×Nat×Int×(List Int))⊕(e8))) :=
  .ask j
    (.need (aP 0 d c)<|.need (j9 (dR (ab 0 d c) ((a:Nat):Int)))<|.need (aP 0 f e)<|.need (j9 (dR (ab 0 f e) ((a:Nat):Int)))<|.need ((4294967296:Int) != (0:Int))<|.need (qv ((b+1) * 8) 140737488355328)<|.need (qv (b+1) 9223372036854775807)<|.need (qv 1 (List.length [(Int.tmod (IntKind.u64.wrap ((IntKind.u64.wrap ((di (dR (ab 0 d c) ((a:Nat):Int)))+(di (dR (ab 0 f e) ((a:Nat):Int)))))+g)) (4294967296:Int))]))<|.need (qv b (List.length h))<|.need ((4294967296:Int) != (0:Int))<|.leaf (.inl ((b+1),(IntKind.u64.wrap (Int.tdiv (IntKind.u64.wrap ((IntKind.u64.wrap ((di (dR (ab 0 d c) ((a:Nat):Int)))+(di (dR (ab 0 f e) ((a:Nat):Int)))))+g)) (4294967296:Int))),((List.take b h) ++ (List.take 1 [(Int.tmod (IntKind.u64.wrap ((IntKind.u64.wrap ((di (dR (ab 0 d c) ((a:Nat):Int)))+(di (dR (ab 0 f e) ((a:Nat):Int)))))+g)) (4294967296:Int))])))))
    (.leaf (.inr (.inl (b,i,g,h))))
def aaC(a:Nat)(b:Nat)(c:Int)(d:List Int) :T ((Nat×Nat×Int×Nat×(List Int))⊕((Nat×Nat×Int×(List Int))⊕(e8))) :=
  .need (dn .i64 (((a+1):Nat):Int))<|.leaf (.inl (b,b,c,(a+1),d))
def CS(d:List Int)(b:Nat)(e:List Int)(c:Nat) :Nat×Nat×Int×Nat×(List Int)→Option ((Nat×Nat×Int×Nat×(List Int))⊕((Nat×Nat×Int×(List Int))⊕(e8))):=fun (f,g,h,a,i) =>
  aE ((qW b c a).run) fun j =>
  aE ((CR d b e c f g h a i j).run) fun (k,l,m) =>
  (aaC a k l m).run
theorem aaD(a:List Int)(b:Nat)(c:List Int)(d:Nat)(f:Nat)(g:Nat)(h:Int)(e:Nat)(i:List Int) :Sg prog [] aaz (CQ a b c d (f,g,h,e,i)) (CS a b c d (f,g,h,e,i)) (CQ a b c d) (cL 0 KL B1):=by
  unfold CS;exact Sg.cut 1 (ay oa) (bk jl (aaA a b c d f g h e i) [⟨[],[0],[5,6,7,8,9,24]⟩,⟨[],[0],[5,6,7,8,9,24]⟩]) (fun j=>Sg.cut 2 (ay oa) (bk jl (aaB a b c d e) [⟨[],[225],[5,6,7,8,9]⟩,⟨[],[0],[7,8]⟩]) (fun ⟨k,l,m⟩=>bk jl _ [⟨[],[0],[5,6,7,8,9]⟩]))
def aaE:(List Int)×Nat→aQ:=fun (a,b)=>⟨ao 48 [(4,.imm .free (.ns .u64 a) 1 1 0 b)],[],0⟩
def CT(a:Nat)(b:Int)(c:List Int) :T (((List Int)×Nat)⊕(e8)) :=
  .need (qv ((a+1) * 8) 140737488355328)<|.need (qv (a+1) 9223372036854775807)<|.need (qv 1 (List.length [b]))<|.need (qv a (List.length c))<|.need (aP 0 (a+1) ((List.take a c) ++ (List.take 1 [b])))<|.need (oY (ia (ab 0 (a+1) ((List.take a c) ++ (List.take 1 [b])))))<|.leaf (.inl ((oJ (ia (ab 0 (a+1) ((List.take a c) ++ (List.take 1 [b]))))),(oK (ia (ab 0 (a+1) ((List.take a c) ++ (List.take 1 [b])))))))
def aaF(a:List Int)(b:Nat) :T ((Empty)⊕(e8)) :=
  .leaf (.inr (.r0 a b))
def d5(a:List Int)(b:List Int) :Option e8:=jR (aE ((KK a b).run) fun (c,d,e,f) =>
  aE ((aay).run) fun _ =>
  aE (dc (CS c d e f) (0,0,(0:Int),0,([]:List Int))) fun (g,l,h,i) =>
  aE ((CT g h i).run) fun (j,k) =>
  (aaF j k).run)
theorem afO(g:Lv)(a:List Int)(i:Lv)(b:List Int){x:e8}(h:d5 a b=some x) :aw prog BA [] [.imm g (.ns .u64 a) 1 1 0 (List.length a),.imm i (.ns .u64 b) 1 1 0 (List.length b)] (Iv x) :=
  kp true Iv B1 h (Sg.cut 2 oa (bk jl afM [⟨[],[],[5,6]⟩]) (fun ⟨c,d,e,f⟩=>Sg.cut 3 oa (bk jl (afN c d e f) [⟨[],[],[5,6,7,8,9]⟩]) (fun _=>Sg.cut 1 oa (BM ⟨[(.slot 7,.own 1 1 (.ns .u64 ([]:List Int)))],[0],[5,6,7,8,9]⟩ (CQ c d e f) (KL) 0 oa (afL _) (fun ⟨j,k,l,m,n⟩=>aaD c d e f j k l m n)) (fun ⟨q,r,s,t⟩=>Sg.cut 1 oa (bk jl aaE [⟨[],[],[4]⟩]) (fun ⟨u,v⟩=>bk jl _ [⟨[],[],[4]⟩])))))
    (fun x=>by cases x with | r0 o p=>exact jT [.imm .free (.ns .u64 o) 1 1 0 p])
def uq:Option e8→Bool
  | some _=>true
  | none=>false
def gK:Option e8→List Int
  | some (.r0 x _)=>x
  | _=>[]
def gL:Option e8→Nat
  | some (.r0 _ x)=>x
  | _=>0
theorem afP{x:Option e8}(h:uq x=true) :x=some (.r0 (gK x) (gL x)):=by
  unfold uq at h
  split at h <;> first | rfl | (cases h;done) | (rename_i y;cases y;rfl)
def SH:aL:=bJ BA (.cons (.ns .u64) (.cons (.ns .u64) .nil)) fun t=>(fun q=>[⟨Iv (.r0 (gK q) (gL q)),[uq q]⟩]) (d5 t.1.2 t.2.1.2)
theorem W2:aV prog SH:=aR fun t=>(aS (fun h=>afO t.1.1 t.1.2 t.2.1.1 t.2.1.2 (afP h)) aZ)
def SI:List aL:=SH :: OZ
theorem lH:bd prog (bf SI):=au W2 jl
inductive fD where
  | r0 (a:List Int) (b:Nat)
def B2:fD→AE×aQ
  | .r0 a b=>(.ret,⟨ao 42 [(4,.imm .free (.ns .u64 a) 1 1 0 b)],[],0⟩)
theorem qe:jC B2:=by intro x;cases x <;> (intro h;cases h)
theorem afQ(id:Nat) :m5 id B2:=by intro x;cases x <;> (intro h;cases h)
def Iw:fD→gX
  | .r0 a b=>⟨.imm .free (.ns .u64 a) 1 1 0 b,[]⟩
def aaG:List Code:=cP (nO BC)
def afR:(List Int)×Nat×(List Int)×Nat→aQ:=fun (a,b,c,d)=>⟨ao 42 [(5,.imm .free (.ns .u64 a) 1 1 0 b),(6,.imm .free (.ns .u64 c) 1 1 0 d)],[],0⟩
def KM(a:List Int)(b:List Int) :T (((List Int)×Nat×(List Int)×Nat)⊕(fD)) :=
  .need (aP 0 (List.length a) a)<|.need (kS (df (ab 0 (List.length a) a)))<|.need (aP 0 (List.length b) b)<|.need (kS (df (ab 0 (List.length b) b)))<|.leaf (.inl ((j8 (df (ab 0 (List.length a) a))),(j7 (df (ab 0 (List.length a) a))),(j8 (df (ab 0 (List.length b) b))),(j7 (df (ab 0 (List.length b) b)))))
def afS(a:List Int)(b:Nat)(c:List Int)(d:Nat)(_:Unit) :aQ:=⟨ao 42 [(5,.imm .free (.ns .u64 a) 1 1 0 b),(6,.imm .free (.ns .u64 c) 1 1 0 d),(7,.nsl),(8,.int .u64 (0:Int)),(9,.int .i64 (0:Int))],[],0⟩
def aaH:T ((Unit)⊕(fD)) :=
  .leaf (.inl ())
def F1(a:List Int)(b:Nat)(c:List Int)(d:Nat) :Nat×Nat×Int×Nat×(List Int)→aQ:=fun (e,f,g,h,i)=>⟨ao 42 [(5,.imm .free (.ns .u64 a) 1 1 0 b),(6,.imm .free (.ns .u64 c) 1 1 0 d),(7,.sl 0 1 1 0 e f),(8,.int .u64 g),(9,.int .i64 ((h:Nat):Int))],[(0,.ns .u64 i)],1⟩
def KN:Nat×Nat×(List Int)→aQ:=fun (a,b,c)=>⟨ao 42 [(7,.sl 0 1 1 0 a b)],[(0,.ns .u64 c)],1⟩
def aaI:List Code:=cP (dD (((((aaG.drop 2).drop 3).take 1)).headD .skip))
def aaJ(b:List Int)(c:Nat)(d:List Int)(e:Nat)(f:Nat) :Nat×Int×(List Int)→aQ:=fun (a,g,h)=>⟨ao 42 [(5,.imm .free (.ns .u64 b) 1 1 0 c),(6,.imm .free (.ns .u64 d) 1 1 0 e),(7,.sl 0 1 1 0 a a),(8,.int .u64 g),(9,.int .i64 ((f:Nat):Int))],[(0,.ns .u64 h)],1⟩
def wU(e:List Int)(h:Nat)(c:List Int)(d:Nat)(b:Nat)(i:Nat)(f:Int)(a:Nat)(g:List Int) :T ((Nat×Int×(List Int))⊕((Nat×Nat×(List Int))⊕(fD))) :=
  .ask (decide (((a:Nat):Int) < ((h:Nat):Int)))
    (.need (gD ((a:Nat):Int) h)<|.need (im a (List.length e))<|.need (aP 0 d c)<|.need (j9 (dR (ab 0 d c) ((a:Nat):Int)))<|.need ((4294967296:Int) != (0:Int))<|.need (qv ((b+1) * 8) 140737488355328)<|.need (qv (b+1) 9223372036854775807)<|.need (qv 1 (List.length [(Int.tmod (IntKind.u64.wrap ((IntKind.u64.wrap ((IntKind.u64.wrap ((4294967296:Int)+(List.getD e a 0))) - (di (dR (ab 0 d c) ((a:Nat):Int))))) - f)) (4294967296:Int))]))<|.need (qv b (List.length g))<|.need ((4294967296:Int) != (0:Int))<|.leaf (.inl ((b+1),(IntKind.u64.wrap ((1:Int) - (IntKind.u64.wrap (Int.tdiv (IntKind.u64.wrap ((IntKind.u64.wrap ((IntKind.u64.wrap ((4294967296:Int)+(List.getD e a 0))) - (di (dR (ab 0 d c) ((a:Nat):Int))))) - f)) (4294967296:Int))))),((List.take b g) ++ (List.take 1 [(Int.tmod (IntKind.u64.wrap ((IntKind.u64.wrap ((IntKind.u64.wrap ((4294967296:Int)+(List.getD e a 0))) - (di (dR (ab 0 d c) ((a:Nat):Int))))) - f)) (4294967296:Int))])))))
    (.leaf (.inr (.inl (b,i,g))))
def aaK(a:Nat)(b:Nat)(c:Int)(d:List Int) :T ((Nat×Nat×Int×Nat×(List Int))⊕((Nat×Nat×(List Int))⊕(fD))) :=
  .need (dn .i64 (((a+1):Nat):Int))<|.leaf (.inl (b,b,c,(a+1),d))
def CU(b:List Int)(c:Nat)(d:List Int)(e:Nat) :Nat×Nat×Int×Nat×(List Int)→Option ((Nat×Nat×Int×Nat×(List Int))⊕((Nat×Nat×(List Int))⊕(fD))):=fun (f,g,h,a,i) =>
  aE ((wU b c d e f g h a i).run) fun (j,k,l) =>
  (aaK a j k l).run
theorem aaL(a:List Int)(b:Nat)(c:List Int)(d:Nat)(f:Nat)(g:Nat)(h:Int)(e:Nat)(i:List Int) :Sg prog [] aaI (F1 a b c d (f,g,h,e,i)) (CU a b c d (f,g,h,e,i)) (F1 a b c d) (cL 0 KN B2):=by
  unfold CU;exact Sg.cut 3 (ay qe) (bk lH (aaJ a b c d e) [⟨[],[321],[5,6,7,8,9]⟩,⟨[],[0],[7]⟩]) (fun ⟨j,k,l⟩=>bk lH _ [⟨[],[0],[5,6,7,8,9]⟩])
def aaM:(List Int)×Nat→aQ:=fun (a,b)=>⟨ao 42 [(4,.imm .free (.ns .u64 a) 1 1 0 b)],[],0⟩
def CV(a:Nat)(b:List Int) :T (((List Int)×Nat)⊕(fD)) :=
  .need (aP 0 a b)<|.need (oY (ia (ab 0 a b)))<|.leaf (.inl ((oJ (ia (ab 0 a b))),(oK (ia (ab 0 a b)))))
def aaN(a:List Int)(b:Nat) :T ((Empty)⊕(fD)) :=
  .leaf (.inr (.r0 a b))
def bL(a:List Int)(b:List Int) :Option fD:=jR (aE ((KM a b).run) fun (c,d,e,f) =>
  aE ((aaH).run) fun _ =>
  aE (dc (CU c d e f) (0,0,(0:Int),0,([]:List Int))) fun (g,k,h) =>
  aE ((CV g h).run) fun (i,j) =>
  (aaN i j).run)
theorem afT(g:Lv)(a:List Int)(i:Lv)(b:List Int){x:fD}(h:bL a b=some x) :aw prog BC [] [.imm g (.ns .u64 a) 1 1 0 (List.length a),.imm i (.ns .u64 b) 1 1 0 (List.length b)] (Iw x) :=
  kp true Iw B2 h (Sg.cut 2 qe (bk lH afR [⟨[],[],[5,6]⟩]) (fun ⟨c,d,e,f⟩=>Sg.cut 3 qe (bk lH (afS c d e f) [⟨[],[],[5,6,7,8,9]⟩]) (fun _=>Sg.cut 1 qe (BM ⟨[(.slot 7,.own 1 1 (.ns .u64 ([]:List Int)))],[0],[5,6,7,8,9]⟩ (F1 c d e f) (KN) 0 qe (afQ _) (fun ⟨j,k,l,m,n⟩=>aaL c d e f j k l m n)) (fun ⟨q,r,s⟩=>Sg.cut 1 qe (bk lH aaM [⟨[],[],[4]⟩]) (fun ⟨t,u⟩=>bk lH _ [⟨[],[],[4]⟩])))))
    (fun x=>by cases x with | r0 o p=>exact jT [.imm .free (.ns .u64 o) 1 1 0 p])
def oc:Option fD→Bool
  | some _=>true
  | none=>false
def cM:Option fD→List Int
  | some (.r0 x _)=>x
  | _=>[]
def cN:Option fD→Nat
  | some (.r0 _ x)=>x
  | _=>0
theorem afU{x:Option fD}(h:oc x=true) :x=some (.r0 (cM x) (cN x)):=by
  unfold oc at h
  split at h <;> first | rfl | (cases h;done) | (rename_i y;cases y;rfl)
def SJ:aL:=bJ BC (.cons (.ns .u64) (.cons (.ns .u64) .nil)) fun t=>(fun q=>[⟨Iw (.r0 (cM q) (cN q)),[oc q]⟩]) (bL t.1.2 t.2.1.2)
theorem W3:aV prog SJ:=aR fun t=>(aS (fun h=>afT t.1.1 t.1.2 t.2.1.1 t.2.1.2 (afU h)) aZ)
def SK:List aL:=SJ :: SI
theorem gM:bd prog (bf SK):=au W3 lH
inductive dJ where
  | r0 (a:List Int) (b:Nat)
def xE:dJ→AE×aQ
  | .r0 a b=>(.ret,⟨ao 71 [(4,.imm .free (.ns .u64 a) 1 1 0 b)],[],0⟩)
theorem iT:jC xE:=by intro x;cases x <;> (intro h;cases h)
theorem F2(id:Nat) :m5 id xE:=by intro x;cases x <;> (intro h;cases h)
def Ix:dJ→gX
  | .r0 a b=>⟨.imm .free (.ns .u64 a) 1 1 0 b,[]⟩
def aaO:List Code:=cP (nO BD)
def afV:(List Int)×Nat×(List Int)×Nat→aQ:=fun (a,b,c,d)=>⟨ao 71 [(5,.imm .free (.ns .u64 a) 1 1 0 b),(6,.imm .free (.ns .u64 c) 1 1 0 d)],[],0⟩
def KO(a:List Int)(b:List Int) :T (((List Int)×Nat×(List Int)×Nat)⊕(dJ)) :=
  .need (aP 0 (List.length a) a)<|.need (kS (df (ab 0 (List.length a) a)))<|.need (aP 0 (List.length b) b)<|.need (kS (df (ab 0 (List.length b) b)))<|.leaf (.inl ((j8 (df (ab 0 (List.length a) a))),(j7 (df (ab 0 (List.length a) a))),(j8 (df (ab 0 (List.length b) b))),(j7 (df (ab 0 (List.length b) b)))))
def afW(b:List Int)(c:Nat)(d:List Int)(e:Nat) :Nat×(List Int)→aQ:=fun (a,f)=>⟨ao 71 [(5,.imm .free (.ns .u64 b) 1 1 0 c),(6,.imm .free (.ns .u64 d) 1 1 0 e),(7,.sl 0 1 1 0 a a),(8,.int .i64 (0:Int))],[(0,.ns .u64 f)],1⟩
def CW(a:Nat)(b:Nat) :T ((Nat×(List Int))⊕(dJ)) :=
  .need (dn .i64 (((a+b):Nat):Int))<|.need (dn .i64 ((((a+b)+1):Nat):Int))<|.need (decide ((0:Int)≤((((a+b)+1):Nat):Int)))<|.need (decide (((((a+b)+1):Nat):Int)≤((((a+b)+1):Nat):Int)))<|.need (decide ((8:Int) * ((((a+b)+1):Nat):Int)≤140737488355328))<|.need (dn .i64 ((((a+b)+1):Nat):Int))<|.leaf (.inl (((a+b)+1),(List.replicate ((a+b)+1) (0:Int))))
def CX(b:List Int)(c:Nat)(d:List Int)(e:Nat)(a:Nat) :Nat×(List Int)→aQ:=fun (f,g)=>⟨ao 71 [(5,.imm .free (.ns .u64 b) 1 1 0 c),(6,.imm .free (.ns .u64 d) 1 1 0 e),(7,.sl 0 1 1 0 a a),(8,.int .i64 ((f:Nat):Int))],[(0,.ns .u64 g)],1⟩
def CY(a:Nat)(b:(List Int)) :aQ:=⟨ao 71 [(7,.sl 0 1 1 0 a a)],[(0,.ns .u64 b)],1⟩
def KP:List Code:=cP (dD (((((aaO.drop 2).drop 2).take 1)).headD .skip))
def aaP(b:List Int)(c:Nat)(d:List Int)(e:Nat)(a:Nat)(f:Nat)(g:List Int)(_:Unit) :aQ:=⟨ao 71 [(5,.imm .free (.ns .u64 b) 1 1 0 c),(6,.imm .free (.ns .u64 d) 1 1 0 e),(7,.sl 0 1 1 0 a a),(8,.int .i64 ((f:Nat):Int))],[(0,.ns .u64 g)],1⟩
def CZ(a:Nat)(b:Nat)(c:List Int) :T ((Unit)⊕(((List Int))⊕(dJ))) :=
  .ask (decide (((b:Nat):Int) < ((a:Nat):Int)))
    (.leaf (.inl ()))
    (.leaf (.inr (.inl c)))
def KQ(b:List Int)(c:Nat)(d:List Int)(e:Nat)(a:Nat)(f:Nat)(g:(List Int)) :aQ:=⟨ao 71 [(5,.imm .free (.ns .u64 b) 1 1 0 c),(6,.imm .free (.ns .u64 d) 1 1 0 e),(7,.sl 0 1 1 0 a a),(8,.int .i64 ((f:Nat):Int))],[(0,.ns .u64 g)],1⟩
def aaQ:List Code:=cP (inBlock ((((KP.drop 2).take 1)).headD .skip))
def aaR(b:List Int)(c:Nat)(d:List Int)(e:Nat)(a:Nat)(f:Nat)(g:List Int)(_:Unit) :aQ:=⟨ao 71 [(5,.imm .free (.ns .u64 b) 1 1 0 c),(6,.imm .free (.ns .u64 d) 1 1 0 e),(7,.sl 0 1 1 0 a a),(8,.int .i64 ((f:Nat):Int)),(9,.int .u64 (0:Int)),(10,.int .i64 (0:Int))],[(0,.ns .u64 g)],1⟩
def aaS:T ((Unit)⊕(((List Int))⊕(((List Int))⊕(dJ)))) :=
  .leaf (.inl ())
def C1(b:List Int)(c:Nat)(d:List Int)(e:Nat)(a:Nat)(f:Nat) :Int×Nat×(List Int)→aQ:=fun (g,h,i)=>⟨ao 71 [(5,.imm .free (.ns .u64 b) 1 1 0 c),(6,.imm .free (.ns .u64 d) 1 1 0 e),(7,.sl 0 1 1 0 a a),(8,.int .i64 ((f:Nat):Int)),(9,.int .u64 g),(10,.int .i64 ((h:Nat):Int))],[(0,.ns .u64 i)],1⟩
def KR(b:List Int)(c:Nat)(d:List Int)(e:Nat)(a:Nat)(f:Nat) :Int×(List Int)→aQ:=fun (g,h)=>⟨ao 71 [(5,.imm .free (.ns .u64 b) 1 1 0 c),(6,.imm .free (.ns .u64 d) 1 1 0 e),(7,.sl 0 1 1 0 a a),(8,.int .i64 ((f:Nat):Int)),(9,.int .u64 g)],[(0,.ns .u64 h)],1⟩
def aaT:List Code:=cP (dD ((((aaQ.drop 2).take 1)).headD .skip))
def wW(d:List Int)(i:Nat)(e:List Int)(g:Nat)(h:Nat)(b:Nat)(f:Int)(a:Nat)(c:List Int) :T ((Int×Nat×(List Int))⊕((Int×(List Int))⊕(((List Int))⊕(((List Int))⊕(dJ))))) :=
  .ask (decide (((a:Nat):Int) < ((g:Nat):Int)))
    (.need (dn .i64 (((b+a):Nat):Int))<|.need (gD (((b+a):Nat):Int) h)<|.need (im (b+a) (List.length c))<|.need (gD ((b:Nat):Int) i)<|.need (im b (List.length d))<|.need (gD ((a:Nat):Int) g)<|.need (im a (List.length e))<|.need (dn .i64 (((b+a):Nat):Int))<|.need ((4294967296:Int) != (0:Int))<|.need (gD (((b+a):Nat):Int) h)<|.need (im (b+a) (List.length c))<|.need ((4294967296:Int) != (0:Int))<|.need (dn .i64 (((a+1):Nat):Int))<|.leaf (.inl ((IntKind.u64.wrap (Int.tdiv (IntKind.u64.wrap ((IntKind.u64.wrap ((List.getD c (b+a) 0)+(IntKind.u64.wrap ((List.getD d b 0) * (List.getD e a 0)))))+f)) (4294967296:Int))),(a+1),(List.set c (b+a) (Int.tmod (IntKind.u64.wrap ((IntKind.u64.wrap ((List.getD c (b+a) 0)+(IntKind.u64.wrap ((List.getD d b 0) * (List.getD e a 0)))))+f)) (4294967296:Int))))))
    (.leaf (.inr (.inl (f,c))))
def C2(a:List Int)(b:Nat)(c:List Int)(d:Nat)(e:Nat)(f:Nat) :Int×Nat×(List Int)→Option ((Int×Nat×(List Int))⊕((Int×(List Int))⊕(((List Int))⊕(((List Int))⊕(dJ))))):=fun (g,h,i) =>
  (wW a b c d e f g h i).run
theorem aaU(b:List Int)(c:Nat)(d:List Int)(e:Nat)(a:Nat)(f:Nat)(g:Int)(h:Nat)(i:List Int) :Sg prog [] aaT (C1 b c d e a f (g,h,i)) (C2 b c d e a f (g,h,i)) (C1 b c d e a f) (cL 2 (KR b c d e a f) (cL 1 (KQ b c d e a f) (cL 0 (CY a) xE))):=by
  unfold C2;exact bk gM _ [⟨[],[0],[5,6,7,8,9,10]⟩,⟨[],[0],[5,6,7,8,9]⟩]
def C3(a:Nat)(d:Nat)(b:Nat)(e:Int)(c:List Int) :T (((List Int))⊕(((List Int))⊕(((List Int))⊕(dJ)))) :=
  .need (dn .i64 (((b+a):Nat):Int))<|.need (gD (((b+a):Nat):Int) d)<|.need (im (b+a) (List.length c))<|.leaf (.inl (List.set c (b+a) e))
def aaV(a:Nat)(b:List Int) :T ((Nat×(List Int))⊕(((List Int))⊕(dJ))) :=
  .need (dn .i64 (((a+1):Nat):Int))<|.leaf (.inl ((a+1),b))
def C4(f:List Int)(b:Nat)(g:List Int)(c:Nat)(d:Nat) :Nat×(List Int)→Option ((Nat×(List Int))⊕(((List Int))⊕(dJ))):=fun (a,e) =>
  aE ((CZ b a e).run) fun _ =>
  aE (GX (aE ((aaS).run) fun _ =>
  aE (dc (C2 f b g c d a) ((0:Int),0,e)) fun (h,i) =>
  (C3 c d a h i).run)) fun j =>
  (aaV a j).run
theorem aaW(b:List Int)(c:Nat)(d:List Int)(e:Nat)(a:Nat)(f:Nat)(g:List Int) :Sg prog [] KP (CX b c d e a (f,g)) (C4 b c d e a (f,g)) (CX b c d e a) (cL 0 (CY a) xE):=by
  unfold C4;exact Sg.cut 2 (ay iT) (bk gM (aaP b c d e a f g) [⟨[],[0],[5,6,7,8]⟩,⟨[],[0],[7]⟩]) (fun _=>Sg.cut 1 (ay iT) (sgb (KQ b c d e a f) 1 (ay iT) (cZ (by decide) (F2 _)) (Sg.cut 2 (ay (ay iT)) (bk gM (aaR b c d e a f g) [⟨[],[0],[5,6,7,8,9,10]⟩]) (fun _=>Sg.cut 1 (ay (ay iT)) (BM ⟨[],[0],[5,6,7,8,9,10]⟩ (C1 b c d e a f) (KR b c d e a f) 2 (ay (ay iT)) (cZ (by decide) (cZ (by decide) (F2 _))) (fun ⟨h,i,j⟩=>aaU b c d e a f h i j)) (fun ⟨k,l⟩=>bk gM _ [⟨[],[0],[5,6,7,8]⟩])))) (fun m=>bk gM _ [⟨[],[0],[5,6,7,8]⟩]))
def aaX:(List Int)×Nat→aQ:=fun (a,b)=>⟨ao 71 [(4,.imm .free (.ns .u64 a) 1 1 0 b)],[],0⟩
def KS(a:Nat)(b:List Int) :T (((List Int)×Nat)⊕(dJ)) :=
  .need (aP 0 a b)<|.need (oY (ia (ab 0 a b)))<|.leaf (.inl ((oJ (ia (ab 0 a b))),(oK (ia (ab 0 a b)))))
def aaY(a:List Int)(b:Nat) :T ((Empty)⊕(dJ)) :=
  .leaf (.inr (.r0 a b))
def dg(d:List Int)(e:List Int) :Option dJ:=jR (aE ((KO d e).run) fun (f,a,g,b) =>
  aE ((CW a b).run) fun (c,h) =>
  aE (dc (C4 f a g b c) (0,h)) fun i =>
  aE ((KS c i).run) fun (j,k) =>
  (aaY j k).run)
theorem afX(i:Lv)(a:List Int)(j:Lv)(b:List Int){x:dJ}(h:dg a b=some x) :aw prog BD [] [.imm i (.ns .u64 a) 1 1 0 (List.length a),.imm j (.ns .u64 b) 1 1 0 (List.length b)] (Ix x) :=
  kp true Ix xE h (Sg.cut 2 iT (bk gM afV [⟨[],[],[5,6]⟩]) (fun ⟨c,d,e,f⟩=>Sg.cut 2 iT (bk gM (afW c d e f) [⟨[],[96],[5,6,7,8]⟩]) (fun ⟨g,o⟩=>Sg.cut 1 iT (BM ⟨[],[0],[5,6,7,8]⟩ (CX c d e f g) (CY g) 0 iT (F2 _) (fun ⟨k,l⟩=>aaW c d e f g k l)) (fun p=>Sg.cut 1 iT (bk gM aaX [⟨[],[],[4]⟩]) (fun ⟨q,r⟩=>bk gM _ [⟨[],[],[4]⟩])))))
    (fun x=>by cases x with | r0 m n=>exact jT [.imm .free (.ns .u64 m) 1 1 0 n])
def qf:Option dJ→Bool
  | some _=>true
  | none=>false
def fE:Option dJ→List Int
  | some (.r0 x _)=>x
  | _=>[]
def fF:Option dJ→Nat
  | some (.r0 _ x)=>x
  | _=>0
theorem afY{x:Option dJ}(h:qf x=true) :x=some (.r0 (fE x) (fF x)):=by
  unfold qf at h
  split at h <;> first | rfl | (cases h;done) | (rename_i y;cases y;rfl)
def SL:aL:=bJ BD (.cons (.ns .u64) (.cons (.ns .u64) .nil)) fun t=>(fun q=>[⟨Ix (.r0 (fE q) (fF q)),[qf q]⟩]) (dg t.1.2 t.2.1.2)
theorem W4:aV prog SL:=aR fun t=>(aS (fun h=>afX t.1.1 t.1.2 t.2.1.1 t.2.1.2 (afY h)) aZ)
def SM:List aL:=SL :: SK
theorem Iy:bd prog (bf SM):=au W4 gM
inductive kT where
  | r0 (a:Nat) (b:List Int)
def afZ:kT→AE×aQ
  | .r0 a b=>(.ret,⟨ao 17 [(2,.sl 0 1 1 0 a a)],[(0,.ns .u64 b)],1⟩)
def F3:kT→gX
  | .r0 a b=>⟨.imm .free (.ns .u64 b) 1 1 0 a,[]⟩
def KT(a:Int) :T ((Empty)⊕(kT)) :=
  .need ((64:Int) != (0:Int))<|.need (dn .i64 (Int.tdiv a (64:Int)))<|.need (dn .i64 ((Int.tdiv a (64:Int))+(1:Int)))<|.need (decide ((0:Int)≤((Int.tdiv a (64:Int))+(1:Int))))<|.need (decide (((Int.tdiv a (64:Int))+(1:Int))≤((Int.tdiv a (64:Int))+(1:Int))))<|.need (decide ((8:Int) * ((Int.tdiv a (64:Int))+(1:Int))≤140737488355328))<|.need (dn .i64 ((Int.tdiv a (64:Int))+(1:Int)))<|.need ((64:Int) != (0:Int))<|.need (dn .i64 (Int.tdiv a (64:Int)))<|.need ((64:Int) != (0:Int))<|.need (decide ((0:Int)≤(IntKind.u64.wrap (Int.tmod a (64:Int)))))<|.need (gD (Int.tdiv a (64:Int)) (Int.toNat ((Int.tdiv a (64:Int))+(1:Int))))<|.need (im (Int.toNat (Int.tdiv a (64:Int))) (List.length (List.replicate (Int.toNat ((Int.tdiv a (64:Int))+(1:Int))) (0:Int))))<|.leaf (.inr (.r0 (Int.toNat ((Int.tdiv a (64:Int))+(1:Int))) (List.set (List.replicate (Int.toNat ((Int.tdiv a (64:Int))+(1:Int))) (0:Int)) (Int.toNat (Int.tdiv a (64:Int))) (IntKind.u64.wrap ((1:Int) * 2 ^ (min (Int.toNat (IntKind.u64.wrap (Int.tmod a (64:Int)))) (IntKind.u64.bits)))))))
def ib(a:Int) :Option kT:=jR ((KT a).run)
theorem aaZ(a:Int){x:kT}(h:ib a=some x) :aw prog E9 [] [.int .i64 a] (F3 x) :=
  kp true F3 afZ h (bk Iy _ [⟨[],[64],[2]⟩])
    (fun x=>by cases x with | r0 b c=>exact jT [.sl 0 1 1 0 b b])
def qX:Option kT→Bool
  | some _=>true
  | none=>false
def kw:Option kT→Nat
  | some (.r0 x _)=>x
  | _=>0
def kB:Option kT→List Int
  | some (.r0 _ x)=>x
  | _=>[]
theorem aa0{x:Option kT}(h:qX x=true) :x=some (.r0 (kw x) (kB x)):=by
  unfold qX at h
  split at h <;> first | rfl | (cases h;done) | (rename_i y;cases y;rfl)
def O0:aL:=bJ E9 (.cons (.int .i64) .nil) fun t=>(fun q=>[⟨F3 (.r0 (kw q) (kB q)),[qX q]⟩]) (ib t.1)
theorem T1:aV prog O0:=aR fun t=>(aS (fun h=>aaZ t.1 (aa0 h)) aZ)
def O1:List aL:=O0 :: SM
theorem x7:bd prog (bf O1):=au T1 Iy
inductive k8 where
  | r0 (a:List Int) (b:Nat)
def SN:k8→AE×aQ
  | .r0 a b=>(.ret,⟨ao 9 [(4,.imm .free (.ns .u64 a) 1 1 0 b)],[],0⟩)
theorem af0:jC SN:=by intro x;cases x <;> (intro h;cases h)
def Iz:k8→gX
  | .r0 a b=>⟨.imm .free (.ns .u64 a) 1 1 0 b,[]⟩
def af1:(List Int)×Nat→aQ:=fun (a,b)=>⟨ao 9 [(4,.imm .free (.ns .u64 a) 1 1 0 b)],[],0⟩
def O2(b:List Int)(a:Int) :T (((List Int)×Nat)⊕(k8)) :=
  .need (qX (ib a))<|.need (aP 0 (List.length b) b)<|.need (aP 0 (kw (ib a)) (kB (ib a)))<|.need (qf (dg (ab 0 (List.length b) b) (ab 0 (kw (ib a)) (kB (ib a)))))<|.leaf (.inl ((fE (dg (ab 0 (List.length b) b) (ab 0 (kw (ib a)) (kB (ib a))))),(fF (dg (ab 0 (List.length b) b) (ab 0 (kw (ib a)) (kB (ib a)))))))
def af2(a:List Int)(b:Nat) :T ((Empty)⊕(k8)) :=
  .leaf (.inr (.r0 a b))
def ka(a:List Int)(b:Int) :Option k8:=jR (aE ((O2 a b).run) fun (c,d) =>
  (af2 c d).run)
theorem af3(c:Lv)(a:List Int)(b:Int){x:k8}(h:ka a b=some x) :aw prog HK [] [.imm c (.ns .u64 a) 1 1 0 (List.length a),.int .i64 b] (Iz x) :=
  kp true Iz SN h (Sg.cut 2 af0 (bk x7 af1 [⟨[],[],[4]⟩]) (fun ⟨f,g⟩=>bk x7 _ [⟨[],[],[4]⟩]))
    (fun x=>by cases x with | r0 d e=>exact jT [.imm .free (.ns .u64 d) 1 1 0 e])
def ur:Option k8→Bool
  | some _=>true
  | none=>false
def ut:Option k8→List Int
  | some (.r0 x _)=>x
  | _=>[]
def uu:Option k8→Nat
  | some (.r0 _ x)=>x
  | _=>0
theorem af4{x:Option k8}(h:ur x=true) :x=some (.r0 (ut x) (uu x)):=by
  unfold ur at h
  split at h <;> first | rfl | (cases h;done) | (rename_i y;cases y;rfl)
def SO:aL:=bJ HK (.cons (.ns .u64) (.cons (.int .i64) .nil)) fun t=>(fun q=>[⟨Iz (.r0 (ut q) (uu q)),[ur q]⟩]) (ka t.1.2 t.2.1)
theorem W5:aV prog SO:=aR fun t=>(aS (fun h=>af3 t.1.1 t.1.2 t.2.1 (af4 h)) aZ)
def SP:List aL:=SO :: O1
theorem pH:bd prog (bf SP):=au W5 x7
inductive ic where
  | r0 (a:Int)
def y7:ic→AE×aQ
  | .r0 a=>(.ret,⟨ao 27 [(2,.int .i64 a)],[],0⟩)
theorem w5:jC y7:=by intro x;cases x <;> (intro h;cases h)
theorem aa1(id:Nat) :m5 id y7:=by intro x;cases x <;> (intro h;cases h)
def F4:ic→gX
  | .r0 a=>⟨.int .i64 a,[]⟩
def aa2:List Code:=cP (nO yR)
def aa3:(List Int)×Nat→aQ:=fun (a,b)=>⟨ao 27 [(0,.imm .free (.ns .u64 a) 1 1 0 b)],[],0⟩
def C5(a:List Int) :T (((List Int)×Nat)⊕(ic)) :=
  .need (aP 0 (List.length a) a)<|.need (jX (cT (ab 0 (List.length a) a)))<|.leaf (.inl ((jk (cT (ab 0 (List.length a) a))),(jj (cT (ab 0 (List.length a) a)))))
def aa4:Int×Int→aQ:=fun (a,b)=>⟨ao 27 [(3,.int .i64 a),(4,.int .u64 b)],[],0⟩
def C6(b:List Int)(a:Nat) :T ((Int×Int)⊕(ic)) :=
  .ask (((a:Nat):Int) == (0:Int))
    (.leaf (.inr (.r0 (0:Int))))
    (.need (dn .i64 (((a:Nat):Int) - (1:Int)))<|.need (dn .i64 ((64:Int) * (((a:Nat):Int) - (1:Int))))<|.need (dn .i64 (((a:Nat):Int) - (1:Int)))<|.need (gD (((a:Nat):Int) - (1:Int)) a)<|.need (im (Int.toNat (((a:Nat):Int) - (1:Int))) (List.length b))<|.leaf (.inl (((64:Int) * (((a:Nat):Int) - (1:Int))),(List.getD b (Int.toNat (((a:Nat):Int) - (1:Int))) 0))))
def C7:Int×Int→aQ:=fun (a,b)=>⟨ao 27 [(3,.int .i64 a),(4,.int .u64 b)],[],0⟩
def KU(a:Int) :aQ:=⟨ao 27 [(3,.int .i64 a)],[],0⟩
def W6:List Code:=cP (dD (((((aa2.drop 2).drop 4).take 1)).headD .skip))
def uv(a:Int)(b:Int) :T ((Int×Int)⊕((Int)⊕(ic))) :=
  .ask (decide (b > (0:Int)))
    (.need (dn .i64 (a+(1:Int)))<|.need ((2:Int) != (0:Int))<|.leaf (.inl ((a+(1:Int)),(IntKind.u64.wrap (Int.tdiv b (2:Int))))))
    (.leaf (.inr (.inl a)))
def z8:Int×Int→Option ((Int×Int)⊕((Int)⊕(ic))):=fun (a,b) =>
  (uv a b).run
theorem W7(a:Int)(b:Int) :Sg prog [] W6 (C7 (a,b)) (z8 (a,b)) C7 (cL 0 KU y7):=by
  unfold z8;exact bk pH _ [⟨[],[],[3,4]⟩,⟨[],[],[3]⟩]
def W8(a:Int) :T ((Empty)⊕(ic)) :=
  .leaf (.inr (.r0 a))
def od(a:List Int) :Option ic:=jR (aE ((C5 a).run) fun (b,c) =>
  aE ((C6 b c).run) fun (d,e) =>
  aE (dc (z8) (d,e)) fun f =>
  (W8 f).run)
theorem aa5(b:Lv)(a:List Int){x:ic}(h:od a=some x) :aw prog yR [] [.imm b (.ns .u64 a) 1 1 0 (List.length a)] (F4 x) :=
  kp true F4 y7 h (Sg.cut 2 w5 (bk pH aa3 [⟨[],[],[0]⟩]) (fun ⟨f,g⟩=>Sg.cut 4 w5 (bk pH aa4 [⟨[],[],[2]⟩,⟨[],[],[3,4]⟩]) (fun ⟨i,j⟩=>Sg.cut 1 w5 (BM ⟨[],[],[3,4]⟩ (C7) (KU) 0 w5 (aa1 _) (fun ⟨c,d⟩=>W7 c d)) (fun k=>bk pH _ [⟨[],[],[2]⟩]))))
    (fun x=>by cases x with | r0 e=>exact jT [.int .i64 e])
def qY:Option ic→Bool
  | some _=>true
  | none=>false
def se:Option ic→Int
  | some (.r0 x)=>x
  | _=>0
theorem aa6{x:Option ic}(h:qY x=true) :x=some (.r0 (se x)):=by
  unfold qY at h
  split at h <;> first | rfl | (cases h;done) | (rename_i y;cases y;rfl)
def O3:aL:=bJ yR (.cons (.ns .u64) .nil) fun t=>(fun q=>[⟨F4 (.r0 (se q)),[qY q]⟩]) (od t.1.2)
theorem T3:aV prog O3:=aR fun t=>(aS (fun h=>aa5 t.1.1 t.1.2 (aa6 h)) aZ)
def O4:List aL:=O3 :: SP
theorem x8:bd prog (bf O4):=au T3 pH
inductive mr where
  | r0 (a:Bool)
def SQ:mr→AE×aQ
  | .r0 a=>(.ret,⟨ao 27 [(4,.bool false a)],[],0⟩)
theorem af5:jC SQ:=by intro x;cases x <;> (intro h;cases h)
def IA:mr→gX
  | .r0 a=>⟨.bool false a,[]⟩
def af6(a:Bool) :aQ:=⟨ao 27 [(4,.bool false a)],[],0⟩
def O5(b:List Int)(a:Int) :T ((Bool)⊕(mr)) :=
  .ask (decide (a ≥ (0:Int)))
    (.need ((64:Int) != (0:Int))<|.need (dn .i64 (Int.tdiv a (64:Int)))<|.ask (decide ((Int.tdiv a (64:Int)) < (((List.length b):Nat):Int)))
      (.need ((64:Int) != (0:Int))<|.need (dn .i64 (Int.tdiv a (64:Int)))<|.need (gD (Int.tdiv a (64:Int)) (List.length b))<|.need (im (Int.toNat (Int.tdiv a (64:Int))) (List.length b))<|.need ((64:Int) != (0:Int))<|.need (decide ((0:Int)≤(IntKind.u64.wrap (Int.tmod a (64:Int)))))<|.need ((2:Int) != (0:Int))<|.leaf (.inl ((Int.tmod (Int.fdiv (List.getD b (Int.toNat (Int.tdiv a (64:Int))) 0) (2 ^ (min (Int.toNat (IntKind.u64.wrap (Int.tmod a (64:Int)))) (IntKind.u64.bits)))) (2:Int)) == (1:Int))))
      (.leaf (.inl false)))
    (.leaf (.inl false))
def af7(a:Bool) :T ((Empty)⊕(mr)) :=
  .leaf (.inr (.r0 a))
def mt(a:List Int)(b:Int) :Option mr:=jR (aE ((O5 a b).run) fun c =>
  (af7 c).run)
theorem af8(c:Lv)(a:List Int)(b:Int){x:mr}(h:mt a b=some x) :aw prog HJ [] [.imm c (.ns .u64 a) 1 1 0 (List.length a),.int .i64 b] (IA x) :=
  kp true IA SQ h (Sg.cut 2 af5 (bk x8 af6 [⟨[],[],[4]⟩,⟨[],[],[4]⟩,⟨[],[],[4]⟩]) (fun e=>bk x8 _ [⟨[],[],[4]⟩]))
    (fun x=>by cases x with | r0 d=>exact jT [.bool false d])
def oe:Option mr→Bool
  | some _=>true
  | none=>false
def nw:Option mr→Bool
  | some (.r0 x)=>x
  | _=>false
theorem af9{x:Option mr}(h:oe x=true) :x=some (.r0 (nw x)):=by
  unfold oe at h
  split at h <;> first | rfl | (cases h;done) | (rename_i y;cases y;rfl)
def SS:aL:=bJ HJ (.cons (.ns .u64) (.cons (.int .i64) .nil)) fun t=>(fun q=>[⟨IA (.r0 (nw q)),[oe q]⟩]) (mt t.1.2 t.2.1)
theorem W9:aV prog SS:=aR fun t=>(aS (fun h=>af8 t.1.1 t.1.2 t.2.1 (af9 h)) aZ)
def ST:List aL:=SS :: O4
theorem fG:bd prog (bf ST):=au W9 x8
inductive dh where
  | r0 (a:List Int) (b:Nat) (c:Bool)
def xF:dh→AE×aQ
  | .r0 a b c=>(.ret,⟨ao 68 [(4,.imm .free (.ns .u64 a) 1 1 0 b),(5,.bool false c)],[],0⟩)
theorem iU:jC xF:=by intro x;cases x <;> (intro h;cases h)
theorem O6(id:Nat) :m5 id xF:=by intro x;cases x <;> (intro h;cases h)
def IB:dh→gX
  | .r0 a b c=>⟨.tup [.imm .free (.ns .u64 a) 1 1 0 b,.bool false c],[]⟩
def KV:List Code:=cP (nO By)
def aga(b:Lv)(a:List Int)(c:Int) :Bool×Int→aQ:=fun (d,e)=>⟨ao 68 [(0,.imm b (.ns .u64 a) 1 1 0 (List.length a)),(1,.int .i64 c),(6,.bool false d),(7,.int .i64 e)],[],0⟩
def C8(a:List Int) :T ((Bool×Int)⊕(dh)) :=
  .need (aP 0 (List.length a) a)<|.need (qY (od (ab 0 (List.length a) a)))<|.leaf (.inl (false,(se (od (ab 0 (List.length a) a)))))
def agb(b:Lv)(a:List Int)(c:Int)(d:Bool)(e:Int)(_:Unit) :aQ:=⟨ao 68 [(0,.imm b (.ns .u64 a) 1 1 0 (List.length a)),(1,.int .i64 c),(6,.bool false d),(7,.int .i64 e),(8,.int .i64 (0:Int))],[],0⟩
def aa7:T ((Unit)⊕(dh)) :=
  .leaf (.inl ())
def F5(b:Lv)(a:List Int)(c:Int)(d:Int) :Bool×Nat→aQ:=fun (e,f)=>⟨ao 68 [(0,.imm b (.ns .u64 a) 1 1 0 (List.length a)),(1,.int .i64 c),(6,.bool false e),(7,.int .i64 d),(8,.int .i64 ((f:Nat):Int))],[],0⟩
def O7(b:Lv)(a:List Int)(c:Int)(d:Int)(e:Bool) :aQ:=⟨ao 68 [(0,.imm b (.ns .u64 a) 1 1 0 (List.length a)),(1,.int .i64 c),(6,.bool false e),(7,.int .i64 d)],[],0⟩
def aa8:List Code:=cP (dD (((((KV.drop 3).drop 1).take 1)).headD .skip))
def agc(b:Lv)(a:List Int)(c:Int)(d:Int)(e:Bool)(f:Nat)(g:Bool) :aQ:=⟨ao 68 [(0,.imm b (.ns .u64 a) 1 1 0 (List.length a)),(1,.int .i64 c),(6,.bool false e),(7,.int .i64 d),(8,.int .i64 ((f:Nat):Int)),(20,.bool false g)],[],0⟩
def qZ(b:Int)(c:Int)(a:Nat) :T ((Bool)⊕((Bool)⊕(dh))) :=
  .ask (decide (((a:Nat):Int) < b))
    (.leaf (.inl (decide (((a:Nat):Int) < c))))
    (.leaf (.inl false))
def agd(b:Lv)(a:List Int)(c:Int)(d:Int)(e:Nat)(f:Bool) :aQ:=⟨ao 68 [(0,.imm b (.ns .u64 a) 1 1 0 (List.length a)),(1,.int .i64 c),(6,.bool false f),(7,.int .i64 d),(8,.int .i64 ((e:Nat):Int))],[],0⟩
def C9(a:List Int)(b:Bool)(c:Nat)(d:Bool) :T ((Bool)⊕((Bool)⊕(dh))) :=
  .ask d
    (.ask b
      (.leaf (.inl true))
      (.need (aP 0 (List.length a) a)<|.need (oe (mt (ab 0 (List.length a) a) ((c:Nat):Int)))<|.leaf (.inl (nw (mt (ab 0 (List.length a) a) ((c:Nat):Int))))))
    (.leaf (.inr (.inl b)))
def aa9(a:Nat)(b:Bool) :T ((Bool×Nat)⊕((Bool)⊕(dh))) :=
  .need (dn .i64 (((a+1):Nat):Int))<|.leaf (.inl (b,(a+1)))
def w6(b:List Int)(c:Int)(d:Int) :Bool×Nat→Option ((Bool×Nat)⊕((Bool)⊕(dh))):=fun (e,a) =>
  aE ((qZ c d a).run) fun f =>
  aE ((C9 b e a f).run) fun g =>
  (aa9 a g).run
theorem aba(d:Lv)(a:List Int)(b:Int)(c:Int)(f:Bool)(e:Nat) :Sg prog [] aa8 (F5 d a b c (f,e)) (w6 a b c (f,e)) (F5 d a b c) (cL 0 (O7 d a b c) xF):=by
  unfold w6;exact Sg.cut 1 (ay iU) (bk fG (agc d a b c f e) [⟨[],[],[0,1,6,7,8,20]⟩,⟨[],[],[0,1,6,7,8,20]⟩]) (fun g=>Sg.cut 2 (ay iU) (bk fG (agd d a b c e) [⟨[],[],[0,1,6,7,8]⟩,⟨[],[],[0,1,6,7,8]⟩,⟨[],[],[0,1,6,7]⟩]) (fun h=>bk fG _ [⟨[],[],[0,1,6,7,8]⟩]))
def abb(c:Lv)(a:List Int)(b:Int)(d:Int)(e:Bool)(f:(List Int)) :aQ:=⟨ao 68 [(0,.imm c (.ns .u64 a) 1 1 0 (List.length a)),(1,.int .i64 b),(6,.bool false e),(7,.int .i64 d),(9,.sl 0 1 1 0 (List.length a) (List.length a)),(10,.int .i64 b)],[(0,.ns .u64 f)],1⟩
def Da(a:List Int)(b:Int)(c:Int)(d:Bool) :T (((List Int))⊕(dh)) :=
  .ask (decide (b ≥ c))
    (.leaf (.inr (.r0 ([]:List Int) 0 d)))
    (.need (decide ((0:Int)≤(((List.length a):Nat):Int)))<|.need (decide ((((List.length a):Nat):Int)≤(((List.length a):Nat):Int)))<|.need (decide ((8:Int) * (((List.length a):Nat):Int)≤140737488355328))<|.need (dn .i64 (((List.length a):Nat):Int))<|.leaf (.inl (List.replicate (List.length a) (0:Int))))
def Db(b:Lv)(a:List Int)(c:Int)(d:Int)(e:Bool) :Int×(List Int)→aQ:=fun (f,g)=>⟨ao 68 [(0,.imm b (.ns .u64 a) 1 1 0 (List.length a)),(1,.int .i64 c),(6,.bool false e),(7,.int .i64 d),(9,.sl 0 1 1 0 (List.length a) (List.length a)),(10,.int .i64 f)],[(0,.ns .u64 g)],1⟩
def KW(a:List Int)(b:Bool)(c:(List Int)) :aQ:=⟨ao 68 [(6,.bool false b),(9,.sl 0 1 1 0 (List.length a) (List.length a))],[(0,.ns .u64 c)],1⟩
def abc:List Code:=cP (dD (((((((KV.drop 3).drop 1).drop 1).drop 4).take 1)).headD .skip))
def abd(b:Lv)(a:List Int)(c:Int)(d:Int)(e:Bool)(f:Int)(g:(List Int)) :aQ:=⟨ao 68 [(0,.imm b (.ns .u64 a) 1 1 0 (List.length a)),(1,.int .i64 c),(6,.bool false e),(7,.int .i64 d),(9,.sl 0 1 1 0 (List.length a) (List.length a)),(10,.int .i64 f)],[(0,.ns .u64 g)],1⟩
def w7(c:List Int)(b:Int)(e:Int)(a:Int)(d:List Int) :T (((List Int))⊕(((List Int))⊕(dh))) :=
  .ask (decide (a < e))
    (.need (aP 0 (List.length c) c)<|.need (oe (mt (ab 0 (List.length c) c) a))<|.ask (nw (mt (ab 0 (List.length c) c) a))
      (.need (dn .i64 (a - b))<|.need ((64:Int) != (0:Int))<|.need (dn .i64 (Int.tdiv (a - b) (64:Int)))<|.need (dn .i64 (a - b))<|.need ((64:Int) != (0:Int))<|.need (dn .i64 (Int.tdiv (a - b) (64:Int)))<|.need (gD (Int.tdiv (a - b) (64:Int)) (List.length c))<|.need (im (Int.toNat (Int.tdiv (a - b) (64:Int))) (List.length d))<|.need (dn .i64 (a - b))<|.need ((64:Int) != (0:Int))<|.need (decide ((0:Int)≤(IntKind.u64.wrap (Int.tmod (a - b) (64:Int)))))<|.need (gD (Int.tdiv (a - b) (64:Int)) (List.length c))<|.need (im (Int.toNat (Int.tdiv (a - b) (64:Int))) (List.length d))<|.leaf (.inl (List.set d (Int.toNat (Int.tdiv (a - b) (64:Int))) (IntKind.u64.wrap ((List.getD d (Int.toNat (Int.tdiv (a - b) (64:Int))) 0)+(IntKind.u64.wrap ((1:Int) * 2 ^ (min (Int.toNat (IntKind.u64.wrap (Int.tmod (a - b) (64:Int)))) (IntKind.u64.bits)))))))))
      (.leaf (.inl d)))
    (.leaf (.inr (.inl d)))
def abe(a:Int)(b:List Int) :T ((Int×(List Int))⊕(((List Int))⊕(dh))) :=
  .need (dn .i64 (a+(1:Int)))<|.leaf (.inl ((a+(1:Int)),b))
def Dc(b:List Int)(c:Int)(d:Int) :Int×(List Int)→Option ((Int×(List Int))⊕(((List Int))⊕(dh))):=fun (a,e) =>
  aE ((w7 b c d a e).run) fun f =>
  (abe a f).run
theorem abf(e:Lv)(a:List Int)(b:Int)(c:Int)(d:Bool)(f:Int)(g:List Int) :Sg prog [] abc (Db e a b c d (f,g)) (Dc a b c (f,g)) (Db e a b c d) (cL 2 (KW a d) xF):=by
  unfold Dc;exact Sg.cut 3 (ay iU) (bk fG (abd e a b c d f) [⟨[],[0],[0,1,6,7,9,10]⟩,⟨[],[0],[0,1,6,7,9,10]⟩,⟨[],[0],[6,9]⟩]) (fun h=>bk fG _ [⟨[],[0],[0,1,6,7,9,10]⟩])
def abg(a:Bool) :(List Int)×Nat→aQ:=fun (b,c)=>⟨ao 68 [(4,.imm .free (.ns .u64 b) 1 1 0 c),(5,.bool false a)],[],0⟩
def KX(a:List Int)(b:List Int) :T (((List Int)×Nat)⊕(dh)) :=
  .need (aP 0 (List.length a) b)<|.need (jX (cT (ab 0 (List.length a) b)))<|.leaf (.inl ((jk (cT (ab 0 (List.length a) b))),(jj (cT (ab 0 (List.length a) b)))))
def abh(a:Bool)(b:List Int)(c:Nat) :T ((Empty)⊕(dh)) :=
  .leaf (.inr (.r0 b c a))
def tt(a:List Int)(b:Int) :Option dh:=jR (aE ((C8 a).run) fun (e,c) =>
  aE ((aa7).run) fun _ =>
  aE (dc (w6 a b c) (e,0)) fun d =>
  aE ((Da a b c d).run) fun f =>
  aE (dc (Dc a b c) (b,f)) fun g =>
  aE ((KX a g).run) fun (h,i) =>
  (abh d h i).run)
theorem age(c:Lv)(a:List Int)(b:Int){x:dh}(h:tt a b=some x) :aw prog By [] [.imm c (.ns .u64 a) 1 1 0 (List.length a),.int .i64 b] (IB x) :=
  kp true IB xF h (Sg.cut 3 iU (bk fG (aga c a b) [⟨[],[],[0,1,6,7]⟩]) (fun ⟨f,d⟩=>Sg.cut 1 iU (bk fG (agb c a b f d) [⟨[],[],[0,1,6,7,8]⟩]) (fun _=>Sg.cut 1 iU (BM ⟨[],[],[0,1,6,7,8]⟩ (F5 c a b d) (O7 c a b d) 0 iU (O6 _) (fun ⟨g,i⟩=>aba c a b d g i)) (fun e=>Sg.cut 4 iU (bk fG (abb c a b d e) [⟨[(.slot 4,.fre 1 1 (.ns .u64 ([]:List Int)))],[],[4,5]⟩,⟨[],[80],[0,1,6,7,9,10]⟩]) (fun o=>Sg.cut 1 iU (BM ⟨[],[0],[0,1,6,7,9,10]⟩ (Db c a b d e) (KW a e) 2 iU (O6 _) (fun ⟨j,k⟩=>abf c a b d e j k)) (fun p=>Sg.cut 1 iU (bk fG (abg e) [⟨[],[],[4,5]⟩]) (fun ⟨q,r⟩=>bk fG _ [⟨[],[],[4,5]⟩])))))))
    (fun x=>by cases x with | r0 l m n=>exact jT [.imm .free (.ns .u64 l) 1 1 0 m,.bool false n])
def y8:Option dh→Bool
  | some _=>true
  | none=>false
def z9:Option dh→List Int
  | some (.r0 x _ _)=>x
  | _=>[]
def Aa:Option dh→Nat
  | some (.r0 _ x _)=>x
  | _=>0
def IC:Option dh→Bool
  | some (.r0 _ _ x)=>x
  | _=>false
theorem agf{x:Option dh}(h:y8 x=true) :x=some (.r0 (z9 x) (Aa x) (IC x)):=by
  unfold y8 at h
  split at h <;> first | rfl | (cases h;done) | (rename_i y;cases y;rfl)
def SU:aL:=bJ By (.cons (.ns .u64) (.cons (.int .i64) .nil)) fun t=>(fun q=>[⟨IB (.r0 (z9 q) (Aa q) (IC q)),[y8 q]⟩]) (tt t.1.2 t.2.1)
theorem Xa:aV prog SU:=aR fun t=>(aS (fun h=>age t.1.1 t.1.2 t.2.1 (agf h)) aZ)
def SV:List aL:=SU :: ST
theorem nA:bd prog (bf SV):=au Xa fG
inductive eX where
  | r0 (a:Nat)
def w8:eX→AE×aQ
  | .r0 a=>(.ret,⟨ao 16 [(2,.int .i64 ((a:Nat):Int))],[],0⟩)
theorem pI:jC w8:=by intro x;cases x <;> (intro h;cases h)
theorem Xb(id:Nat) :m5 id w8:=by intro x;cases x <;> (intro h;cases h)
def Dd:eX→gX
  | .r0 a=>⟨.int .i64 ((a:Nat):Int),[]⟩
def Xc:List Code:=cP (nO wI)
def Xd(b:Lv)(a:List Int)(c:Int) :aQ:=⟨ao 16 [(0,.imm b (.ns .u64 a) 1 1 0 (List.length a)),(3,.int .i64 c)],[],0⟩
def GZ(a:List Int) :T ((Int)⊕(eX)) :=
  .need (aP 0 (List.length a) a)<|.need (qY (od (ab 0 (List.length a) a)))<|.leaf (.inl (se (od (ab 0 (List.length a) a))))
def Xe(b:Lv)(a:List Int)(c:Int)(_:Unit) :aQ:=⟨ao 16 [(0,.imm b (.ns .u64 a) 1 1 0 (List.length a)),(3,.int .i64 c),(4,.int .i64 (0:Int))],[],0⟩
def T4:T ((Unit)⊕(eX)) :=
  .leaf (.inl ())
def Ab(b:Lv)(a:List Int)(c:Int)(d:Nat) :aQ:=⟨ao 16 [(0,.imm b (.ns .u64 a) 1 1 0 (List.length a)),(3,.int .i64 c),(4,.int .i64 ((d:Nat):Int))],[],0⟩
def ID(_:Unit) :aQ:=⟨ao 16 [],[],0⟩
def T5:List Code:=cP (dD (((((Xc.drop 2).drop 1).take 1)).headD .skip))
def Xf(b:Lv)(a:List Int)(c:Int)(d:Nat)(_:Unit) :aQ:=⟨ao 16 [(0,.imm b (.ns .u64 a) 1 1 0 (List.length a)),(3,.int .i64 c),(4,.int .i64 ((d:Nat):Int))],[],0⟩
def oL(a:List Int)(c:Int)(b:Nat) :T ((Unit)⊕((Unit)⊕(eX))) :=
  .ask (decide (((b:Nat):Int) < c))
    (.need (aP 0 (List.length a) a)<|.need (oe (mt (ab 0 (List.length a) a) ((b:Nat):Int)))<|.ask (nw (mt (ab 0 (List.length a) a) ((b:Nat):Int)))
      (.leaf (.inr (.inr (.r0 b))))
      (.leaf (.inl ())))
    (.leaf (.inr (.inl ())))
def T6(a:Nat) :T ((Nat)⊕((Unit)⊕(eX))) :=
  .need (dn .i64 (((a+1):Nat):Int))<|.leaf (.inl (a+1))
def x9(b:List Int)(c:Int) :Nat→Option ((Nat)⊕((Unit)⊕(eX))):=fun a =>
  aE ((oL b c a).run) fun _ =>
  (T6 a).run
theorem T7(c:Lv)(a:List Int)(b:Int)(d:Nat) :Sg prog [] T5 (Ab c a b d) (x9 a b d) (Ab c a b) (cL 0 ID w8):=by
  unfold x9;exact Sg.cut 3 (ay pI) (bk nA (Xf c a b d) [⟨[],[],[2]⟩,⟨[],[],[0,3,4]⟩,⟨[],[],[]⟩]) (fun _=>bk nA _ [⟨[],[],[0,3,4]⟩])
def T8:T ((Empty)⊕(eX)) :=
  .leaf (.inr (.r0 0))
def q7(a:List Int) :Option eX:=jR (aE ((GZ a).run) fun b =>
  aE ((T4).run) fun _ =>
  aE (dc (x9 a b) 0) fun _ =>
  (T8).run)
theorem Xg(b:Lv)(a:List Int){x:eX}(h:q7 a=some x) :aw prog wI [] [.imm b (.ns .u64 a) 1 1 0 (List.length a)] (Dd x) :=
  kp true Dd w8 h (Sg.cut 2 pI (bk nA (Xd b a) [⟨[],[],[0,3]⟩]) (fun c=>Sg.cut 1 pI (bk nA (Xe b a c) [⟨[],[],[0,3,4]⟩]) (fun _=>Sg.cut 1 pI (BM ⟨[],[],[0,3,4]⟩ (Ab b a c) (ID) 0 pI (Xb _) (fun d=>T7 b a c d)) (fun _=>bk nA _ [⟨[],[],[2]⟩]))))
    (fun x=>by cases x with | r0 e=>exact jT [.int .i64 ((e:Nat):Int)])
def uw:Option eX→Bool
  | some _=>true
  | none=>false
def v4:Option eX→Nat
  | some (.r0 x)=>x
  | _=>0
theorem Xh{x:Option eX}(h:uw x=true) :x=some (.r0 (v4 x)):=by
  unfold uw at h
  split at h <;> first | rfl | (cases h;done) | (rename_i y;cases y;rfl)
def KY:aL:=bJ wI (.cons (.ns .u64) .nil) fun t=>(fun q=>[⟨Dd (.r0 (v4 q)),[uw q]⟩]) (q7 t.1.2)
theorem Rf:aV prog KY:=aR fun t=>(aS (fun h=>Xg t.1.1 t.1.2 (Xh h)) aZ)
def KZ:List aL:=KY :: SV
theorem nB:bd prog (bf KZ):=au Rf nA
inductive jm where
  | r0 (a:Int)
def B3:jm→AE×aQ
  | .r0 a=>(.ret,⟨ao 45 [(4,.int .i64 a)],[],0⟩)
theorem y9:jC B3:=by intro x;cases x <;> (intro h;cases h)
theorem agh(id:Nat) :m5 id B3:=by intro x;cases x <;> (intro h;cases h)
def IE:jm→gX
  | .r0 a=>⟨.int .i64 a,[]⟩
def agi:List Code:=cP (nO BB)
def agj:(List Int)×Nat×(List Int)×Nat→aQ:=fun (a,b,c,d)=>⟨ao 45 [(0,.imm .free (.ns .u64 a) 1 1 0 b),(1,.imm .free (.ns .u64 c) 1 1 0 d)],[],0⟩
def O8(a:List Int)(b:List Int) :T (((List Int)×Nat×(List Int)×Nat)⊕(jm)) :=
  .need (aP 0 (List.length a) a)<|.need (jX (cT (ab 0 (List.length a) a)))<|.need (aP 0 (List.length b) b)<|.need (jX (cT (ab 0 (List.length b) b)))<|.leaf (.inl ((jk (cT (ab 0 (List.length a) a))),(jj (cT (ab 0 (List.length a) a))),(jk (cT (ab 0 (List.length b) b))),(jj (cT (ab 0 (List.length b) b)))))
def agk(a:List Int)(b:Nat)(c:List Int)(d:Nat)(e:Int) :aQ:=⟨ao 45 [(0,.imm .free (.ns .u64 a) 1 1 0 b),(1,.imm .free (.ns .u64 c) 1 1 0 d),(5,.int .i64 e)],[],0⟩
def agl(a:Nat)(b:Nat) :T ((Int)⊕(jm)) :=
  .ask (((a:Nat):Int) != ((b:Nat):Int))
    (.ask (decide (((a:Nat):Int) < ((b:Nat):Int)))
      (.leaf (.inr (.r0 (-1:Int))))
      (.leaf (.inr (.r0 (1:Int)))))
    (.need (dn .i64 (((a:Nat):Int) - (1:Int)))<|.leaf (.inl (((a:Nat):Int) - (1:Int))))
def F6(a:List Int)(b:Nat)(c:List Int)(d:Nat)(e:Int) :aQ:=⟨ao 45 [(0,.imm .free (.ns .u64 a) 1 1 0 b),(1,.imm .free (.ns .u64 c) 1 1 0 d),(5,.int .i64 e)],[],0⟩
def O9(_:Unit) :aQ:=⟨ao 45 [],[],0⟩
def abi:List Code:=cP (dD (((((agi.drop 2).drop 3).take 1)).headD .skip))
def q8(b:List Int)(d:Nat)(c:List Int)(e:Nat)(a:Int) :T ((Int)⊕((Unit)⊕(jm))) :=
  .ask (decide (a ≥ (0:Int)))
    (.need (gD a d)<|.need (im (Int.toNat a) (List.length b))<|.need (gD a e)<|.need (im (Int.toNat a) (List.length c))<|.ask (decide ((List.getD b (Int.toNat a) 0) < (List.getD c (Int.toNat a) 0)))
      (.leaf (.inr (.inr (.r0 (-1:Int)))))
      (.need (gD a d)<|.need (im (Int.toNat a) (List.length b))<|.need (gD a e)<|.need (im (Int.toNat a) (List.length c))<|.ask (decide ((List.getD b (Int.toNat a) 0) > (List.getD c (Int.toNat a) 0)))
        (.leaf (.inr (.inr (.r0 (1:Int)))))
        (.need (dn .i64 (a - (1:Int)))<|.leaf (.inl (a - (1:Int))))))
    (.leaf (.inr (.inl ())))
def w9(a:List Int)(b:Nat)(c:List Int)(d:Nat) :Int→Option ((Int)⊕((Unit)⊕(jm))):=fun e =>
  (q8 a b c d e).run
theorem abj(a:List Int)(b:Nat)(c:List Int)(d:Nat)(e:Int) :Sg prog [] abi (F6 a b c d e) (w9 a b c d e) (F6 a b c d) (cL 0 O9 B3):=by
  unfold w9;exact bk nB _ [⟨[],[],[4]⟩,⟨[],[],[4]⟩,⟨[],[],[0,1,5]⟩,⟨[],[],[]⟩]
def abk:T ((Empty)⊕(jm)) :=
  .leaf (.inr (.r0 (0:Int)))
def mu(c:List Int)(d:List Int) :Option jm:=jR (aE ((O8 c d).run) fun (e,a,f,b) =>
  aE ((agl a b).run) fun g =>
  aE (dc (w9 e a f b) g) fun _ =>
  (abk).run)
theorem agm(g:Lv)(a:List Int)(i:Lv)(b:List Int){x:jm}(h:mu a b=some x) :aw prog BB [] [.imm g (.ns .u64 a) 1 1 0 (List.length a),.imm i (.ns .u64 b) 1 1 0 (List.length b)] (IE x) :=
  kp true IE B3 h (Sg.cut 2 y9 (bk nB agj [⟨[],[],[0,1]⟩]) (fun ⟨c,d,e,f⟩=>Sg.cut 3 y9 (bk nB (agk c d e f) [⟨[],[],[4]⟩,⟨[],[],[4]⟩,⟨[],[],[0,1,5]⟩]) (fun l=>Sg.cut 1 y9 (BM ⟨[],[],[0,1,5]⟩ (F6 c d e f) (O9) 0 y9 (agh _) (fun j=>abj c d e f j)) (fun _=>bk nB _ [⟨[],[],[4]⟩]))))
    (fun x=>by cases x with | r0 k=>exact jT [.int .i64 k])
def qg:Option jm→Bool
  | some _=>true
  | none=>false
def pJ:Option jm→Int
  | some (.r0 x)=>x
  | _=>0
theorem agn{x:Option jm}(h:qg x=true) :x=some (.r0 (pJ x)):=by
  unfold qg at h
  split at h <;> first | rfl | (cases h;done) | (rename_i y;cases y;rfl)
def SW:aL:=bJ BB (.cons (.ns .u64) (.cons (.ns .u64) .nil)) fun t=>(fun q=>[⟨IE (.r0 (pJ q)),[qg q]⟩]) (mu t.1.2 t.2.1.2)
theorem Xi:aV prog SW:=aR fun t=>(aS (fun h=>agm t.1.1 t.1.2 t.2.1.1 t.2.1.2 (agn h)) aZ)
def SX:List aL:=SW :: KZ
theorem pK:bd prog (bf SX):=au Xi nB
inductive iB where
  | r0 (a:Bool)
def B4:iB→AE×aQ
  | .r0 a=>(.ret,⟨ao 20 [(2,.bool false a)],[],0⟩)
theorem za:jC B4:=by intro x;cases x <;> (intro h;cases h)
theorem ago(id:Nat) :m5 id B4:=by intro x;cases x <;> (intro h;cases h)
def IF:iB→gX
  | .r0 a=>⟨.bool false a,[]⟩
def abl:List Code:=cP (nO BE)
def agp(b:Lv)(a:List Int)(_:Unit) :aQ:=⟨ao 20 [(0,.imm b (.ns .u64 a) 1 1 0 (List.length a)),(3,.int .i64 (((List.length a):Nat):Int))],[],0⟩
def abm:T ((Unit)⊕(iB)) :=
  .leaf (.inl ())
def F7(b:Lv)(a:List Int)(c:Int) :aQ:=⟨ao 20 [(0,.imm b (.ns .u64 a) 1 1 0 (List.length a)),(3,.int .i64 c)],[],0⟩
def Pa(a:Int) :aQ:=⟨ao 20 [(3,.int .i64 a)],[],0⟩
def abn:List Code:=cP (dD ((((abl.drop 2).take 1)).headD .skip))
def agq(b:Lv)(a:List Int)(c:Int)(d:Bool) :aQ:=⟨ao 20 [(0,.imm b (.ns .u64 a) 1 1 0 (List.length a)),(3,.int .i64 c),(15,.bool false d)],[],0⟩
def q9(b:List Int)(a:Int) :T ((Bool)⊕((Int)⊕(iB))) :=
  .ask (decide (a > (0:Int)))
    (.need (dn .i64 (a - (1:Int)))<|.need (gD (a - (1:Int)) (List.length b))<|.need (im (Int.toNat (a - (1:Int))) (List.length b))<|.leaf (.inl ((List.getD b (Int.toNat (a - (1:Int))) 0) == (0:Int))))
    (.leaf (.inl false))
def K0(a:Int)(b:Bool) :T ((Int)⊕((Int)⊕(iB))) :=
  .ask b
    (.need (dn .i64 (a - (1:Int)))<|.leaf (.inl (a - (1:Int))))
    (.leaf (.inr (.inl a)))
def De(b:List Int) :Int→Option ((Int)⊕((Int)⊕(iB))):=fun a =>
  aE ((q9 b a).run) fun c =>
  (K0 a c).run
theorem abo(b:Lv)(a:List Int)(c:Int) :Sg prog [] abn (F7 b a c) (De a c) (F7 b a) (cL 0 Pa B4):=by
  unfold De;exact Sg.cut 1 (ay za) (bk pK (agq b a c) [⟨[],[],[0,3,15]⟩,⟨[],[],[0,3,15]⟩]) (fun d=>bk pK _ [⟨[],[],[0,3]⟩,⟨[],[],[3]⟩])
def abp(a:Int) :T ((Empty)⊕(iB)) :=
  .leaf (.inr (.r0 (decide (a≤(4096:Int)))))
def xG(a:List Int) :Option iB:=jR (aE ((abm).run) fun _ =>
  aE (dc (De a) (((List.length a):Nat):Int)) fun b =>
  (abp b).run)
theorem agr(b:Lv)(a:List Int){x:iB}(h:xG a=some x) :aw prog BE [] [.imm b (.ns .u64 a) 1 1 0 (List.length a)] (IF x) :=
  kp true IF B4 h (Sg.cut 2 za (bk pK (agp b a) [⟨[],[],[0,3]⟩]) (fun _=>Sg.cut 1 za (BM ⟨[],[],[0,3]⟩ (F7 b a) (Pa) 0 za (ago _) (fun c=>abo b a c)) (fun e=>bk pK _ [⟨[],[],[2]⟩])))
    (fun x=>by cases x with | r0 d=>exact jT [.bool false d])
def zb:Option iB→Bool
  | some _=>true
  | none=>false
def Ac:Option iB→Bool
  | some (.r0 x)=>x
  | _=>false
theorem ags{x:Option iB}(h:zb x=true) :x=some (.r0 (Ac x)):=by
  unfold zb at h
  split at h <;> first | rfl | (cases h;done) | (rename_i y;cases y;rfl)
def SY:aL:=bJ BE (.cons (.ns .u64) .nil) fun t=>(fun q=>[⟨IF (.r0 (Ac q)),[zb q]⟩]) (xG t.1.2)
theorem Xj:aV prog SY:=aR fun t=>(aS (fun h=>agr t.1.1 t.1.2 (ags h)) aZ)
def SZ:List aL:=SY :: SX
theorem Ad:bd prog (bf SZ):=au Xj pK
inductive mv where
  | r0 (a:Bool)
def S0:mv→AE×aQ
  | .r0 a=>(.ret,⟨ao 16 [(2,.bool false a)],[],0⟩)
theorem agt:jC S0:=by intro x;cases x <;> (intro h;cases h)
def IG:mv→gX
  | .r0 a=>⟨.bool false a,[]⟩
def agu(a:Bool) :aQ:=⟨ao 16 [(2,.bool false a)],[],0⟩
def Pb(a:List Int)(b:Int) :T ((Bool)⊕(mv)) :=
  .need (aP 0 (List.length a) a)<|.need (zb (xG (ab 0 (List.length a) a)))<|.ask (Ac (xG (ab 0 (List.length a) a)))
    (.ask (decide (b ≥ (-262144:Int)))
      (.leaf (.inl (decide (b≤(262144:Int)))))
      (.leaf (.inl false)))
    (.leaf (.inl false))
def agv(a:Bool) :T ((Empty)⊕(mv)) :=
  .leaf (.inr (.r0 a))
def dB(a:List Int)(b:Int) :Option mv:=jR (aE ((Pb a b).run) fun c =>
  (agv c).run)
theorem agw(c:Bool)(d:Lv)(a:List Int)(b:Int){x:mv}(h:dB a b=some x) :aw prog HG [] [.agg [.bool false c,.imm d (.ns .u64 a) 1 1 0 (List.length a),.int .i64 b]] (IG x) :=
  kp true IG S0 h (Sg.cut 2 agt (bk Ad agu [⟨[],[],[2]⟩,⟨[],[],[2]⟩,⟨[],[],[2]⟩]) (fun f=>bk Ad _ [⟨[],[],[2]⟩]))
    (fun x=>by cases x with | r0 e=>exact jT [.bool false e])
def iV:Option mv→Bool
  | some _=>true
  | none=>false
def gN:Option mv→Bool
  | some (.r0 x)=>x
  | _=>false
theorem agx{x:Option mv}(h:iV x=true) :x=some (.r0 (gN x)):=by
  unfold iV at h
  split at h <;> first | rfl | (cases h;done) | (rename_i y;cases y;rfl)
def S2:aL:=bJ HG (.cons (.agg (.cons .bool (.cons (.ns .u64) (.cons (.int .i64) .nil)))) .nil) fun t=>(fun q=>[⟨IG (.r0 (gN q)),[iV q]⟩]) (dB t.1.2.1.2 t.1.2.2.1)
theorem Xk:aV prog S2:=aR fun t=>(aS (fun h=>agw t.1.1 t.1.2.1.1 t.1.2.1.2 t.1.2.2.1 (agx h)) aZ)
def S3:List aL:=S2 :: SZ
theorem pL:bd prog (bf S3):=au Xk Ad
inductive ff where
  | r0 (a:Bool) (b:List Int) (c:Nat) (d:Int)
def Pc:ff→AE×aQ
  | .r0 a b c d=>(.ret,⟨ao 28 [(2,.ptr 0 1 0 0)],[(0,.vs [.bool false a,.imm .free (.ns .u64 b) 1 1 0 c,.int .i64 d])],1⟩)
theorem Df:jC Pc:=by intro x;cases x <;> (intro h;cases h)
def F8:ff→gX
  | .r0 a b c d=>⟨.agg [.bool false a,.imm .free (.ns .u64 b) 1 1 0 c,.int .i64 d],[]⟩
def abq(b:Bool)(c:Lv)(a:List Int)(d:Int) :(List Int)×Nat×Bool→aQ:=fun (e,f,g)=>⟨ao 28 [(1,.ptr 0 1 0 0),(2,.ptr 1 1 0 0),(3,.imm .free (.ns .u64 e) 1 1 0 f)],[(0,.vs [.bool false b,.imm c (.ns .u64 a) 1 1 0 (List.length a),.int .i64 d]),(1,.vs [.bool false g,.nsl,.int .i64 (0:Int)])],2⟩
def Dg(a:List Int) :T (((List Int)×Nat×Bool)⊕(ff)) :=
  .need (aP 0 (List.length a) a)<|.need (jX (cT (ab 0 (List.length a) a)))<|.leaf (.inl ((jk (cT (ab 0 (List.length a) a))),(jj (cT (ab 0 (List.length a) a))),false))
def abr(b:Bool)(c:Lv)(a:List Int)(d:Int)(e:List Int)(f:Nat)(g:Bool)(h:Nat) :aQ:=⟨ao 28 [(1,.ptr 0 1 0 0),(2,.ptr 1 1 0 0),(3,.imm .free (.ns .u64 e) 1 1 0 f),(4,.int .i64 ((h:Nat):Int))],[(0,.vs [.bool false b,.imm c (.ns .u64 a) 1 1 0 (List.length a),.int .i64 d]),(1,.vs [.bool false g,.nsl,.int .i64 (0:Int)])],2⟩
def Dh(b:List Int)(a:Nat) :T ((Nat)⊕(ff)) :=
  .ask (((a:Nat):Int) == (0:Int))
    (.leaf (.inr (.r0 false ([]:List Int) 0 (0:Int))))
    (.need (aP 0 a b)<|.need (uw (q7 (ab 0 a b)))<|.leaf (.inl (v4 (q7 (ab 0 a b)))))
def abt(b:Bool)(c:Lv)(a:List Int)(d:Int)(e:Bool)(f:Nat) :(List Int)×Nat→aQ:=fun (g,h)=>⟨ao 28 [(1,.ptr 0 1 0 0),(2,.ptr 1 1 0 0),(3,.imm .free (.ns .u64 g) 1 1 0 h),(4,.int .i64 ((f:Nat):Int))],[(0,.vs [.bool false b,.imm c (.ns .u64 a) 1 1 0 (List.length a),.int .i64 d]),(1,.vs [.bool false e,.nsl,.int .i64 (0:Int)])],2⟩
def Di(a:List Int)(b:Nat)(c:Nat) :T (((List Int)×Nat)⊕(ff)) :=
  .need (aP 0 b a)<|.need (y8 (tt (ab 0 b a) ((c:Nat):Int)))<|.leaf (.inl ((z9 (tt (ab 0 b a) ((c:Nat):Int))),(Aa (tt (ab 0 b a) ((c:Nat):Int)))))
def abu(c:Bool)(a:Int)(b:Nat)(d:List Int)(e:Nat) :T ((Empty)⊕(ff)) :=
  .need (dn .i64 (a+((b:Nat):Int)))<|.leaf (.inr (.r0 c d e (a+((b:Nat):Int))))
def aX(d:Bool)(e:List Int)(f:Int) :Option ff:=jR (aE ((Dg e).run) fun (a,b,i) =>
  aE ((Dh a b).run) fun c =>
  aE ((Di a b c).run) fun (g,h) =>
  (abu d f c g h).run)
theorem abv(b:Bool)(d:Lv)(a:List Int)(c:Int){x:ff}(h:aX b a c=some x) :aw prog E1 [] [.agg [.bool false b,.imm d (.ns .u64 a) 1 1 0 (List.length a),.int .i64 c]] (F8 x) :=
  kp true F8 Pc h (Sg.cut 2 Df (bk pL (abq b d a c) [⟨[],[0,16],[1,2,3]⟩]) (fun ⟨f,g,e⟩=>Sg.cut 3 Df (bk pL (abr b d a c f g e) [⟨[(.cell 1 1,.fre 1 1 (.ns .u64 ([]:List Int)))],[1],[2]⟩,⟨[],[0,1],[1,2,3,4]⟩]) (fun i=>Sg.cut 1 Df (bk pL (abt b d a c e i) [⟨[],[0,1],[1,2,3,4]⟩]) (fun ⟨n,o⟩=>bk pL _ [⟨[],[1],[2]⟩]))))
    (fun x=>by cases x with | r0 j k l m=>exact jT [.agg [.bool false j,.imm .free (.ns .u64 k) 1 1 0 l,.int .i64 m]])
def eY:Option ff→Bool
  | some _=>true
  | none=>false
def d9:Option ff→Bool
  | some (.r0 x _ _ _)=>x
  | _=>false
def ee:Option ff→List Int
  | some (.r0 _ x _ _)=>x
  | _=>[]
def ef:Option ff→Nat
  | some (.r0 _ _ x _)=>x
  | _=>0
def eh:Option ff→Int
  | some (.r0 _ _ _ x)=>x
  | _=>0
theorem abw{x:Option ff}(h:eY x=true) :x=some (.r0 (d9 x) (ee x) (ef x) (eh x)):=by
  unfold eY at h
  split at h <;> first | rfl | (cases h;done) | (rename_i y;cases y;rfl)
def Pd:aL:=bJ E1 (.cons (.agg (.cons .bool (.cons (.ns .u64) (.cons (.int .i64) .nil)))) .nil) fun t=>(fun q=>[⟨F8 (.r0 (d9 q) (ee q) (ef q) (eh q)),[eY q]⟩]) (aX t.1.1 t.1.2.1.2 t.1.2.2.1)
theorem T9:aV prog Pd:=aR fun t=>(aS (fun h=>abv t.1.1 t.1.2.1.1 t.1.2.1.2 t.1.2.2.1 (abw h)) aZ)
def Pe:List aL:=Pd :: S3
theorem ya:bd prog (bf Pe):=au T9 pL
inductive mw where
  | r0 (a:Bool)
def S4:mw→AE×aQ
  | .r0 a=>(.ret,⟨ao 31 [(4,.bool false a)],[],0⟩)
theorem agy:jC S4:=by intro x;cases x <;> (intro h;cases h)
def IH:mw→gX
  | .r0 a=>⟨.bool false a,[]⟩
def agz(a:Bool) :aQ:=⟨ao 31 [(4,.bool false a)],[],0⟩
def Pf(c:List Int)(a:Int)(d:List Int)(b:Int) :T ((Bool)⊕(mw)) :=
  .ask (decide ((((List.length c):Nat):Int) > (0:Int)))
    (.ask (decide ((((List.length d):Nat):Int) > (0:Int)))
      (.need (dn .i64 (a - b))<|.ask (decide ((a - b) > (262144:Int)))
        (.leaf (.inl true))
        (.need (dn .i64 (b - a))<|.leaf (.inl (decide ((b - a) > (262144:Int))))))
      (.leaf (.inl false)))
    (.leaf (.inl false))
def agA(a:Bool) :T ((Empty)⊕(mw)) :=
  .leaf (.inr (.r0 a))
def pM(a:List Int)(b:Int)(c:List Int)(d:Int) :Option mw:=jR (aE ((Pf a b c d).run) fun e =>
  (agA e).run)
theorem agB(e:Bool)(f:Lv)(a:List Int)(c:Int)(g:Bool)(i:Lv)(b:List Int)(d:Int){x:mw}(h:pM a c b d=some x) :aw prog HH [] [.agg [.bool false e,.imm f (.ns .u64 a) 1 1 0 (List.length a),.int .i64 c],.agg [.bool false g,.imm i (.ns .u64 b) 1 1 0 (List.length b),.int .i64 d]] (IH x) :=
  kp true IH S4 h (Sg.cut 2 agy (bk ya agz [⟨[],[],[4]⟩,⟨[],[],[4]⟩,⟨[],[],[4]⟩,⟨[],[],[4]⟩]) (fun k=>bk ya _ [⟨[],[],[4]⟩]))
    (fun x=>by cases x with | r0 j=>exact jT [.bool false j])
def ux:Option mw→Bool
  | some _=>true
  | none=>false
def uy:Option mw→Bool
  | some (.r0 x)=>x
  | _=>false
theorem agC{x:Option mw}(h:ux x=true) :x=some (.r0 (uy x)):=by
  unfold ux at h
  split at h <;> first | rfl | (cases h;done) | (rename_i y;cases y;rfl)
def S5:aL:=bJ HH (.cons (.agg (.cons .bool (.cons (.ns .u64) (.cons (.int .i64) .nil)))) (.cons (.agg (.cons .bool (.cons (.ns .u64) (.cons (.int .i64) .nil)))) .nil)) fun t=>(fun q=>[⟨IH (.r0 (uy q)),[ux q]⟩]) (pM t.1.2.1.2 t.1.2.2.1 t.2.1.2.1.2 t.2.1.2.2.1)
theorem Xl:aV prog S5:=aR fun t=>(aS (fun h=>agB t.1.1 t.1.2.1.1 t.1.2.1.2 t.1.2.2.1 t.2.1.1 t.2.1.2.1.1 t.2.1.2.1.2 t.2.1.2.2.1 (agC h)) aZ)
def S6:List aL:=S5 :: Pe
theorem nC:bd prog (bf S6):=au Xl ya
inductive dE where
  | r0 (a:List Int) (b:Nat) (c:List Int) (d:Nat) (e:Int)
def K1(a:Lv)(b:Lv) :dE→AE×aQ
  | .r0 c d e f g=>(.ret,⟨ao 54 [(4,.imm a (.ns .u64 c) 1 1 0 d),(5,.imm b (.ns .u64 e) 1 1 0 f),(6,.int .i64 g)],[],0⟩)
theorem uz{a:Lv}{b:Lv} :jC (K1 a b):=by intro x;cases x <;> (intro h;cases h)
def Dj(a:Lv)(b:Lv) :dE→gX
  | .r0 c d e f g=>⟨.tup [.imm a (.ns .u64 c) 1 1 0 d,.imm b (.ns .u64 e) 1 1 0 f,.int .i64 g],[]⟩
def Xm(c:Bool)(d:Lv)(a:List Int)(e:Int)(f:Bool)(g:Lv)(b:List Int)(h:Int)(i:Int) :aQ:=⟨ao 54 [(2,.ptr 0 1 0 0),(3,.ptr 1 1 0 0),(7,.int .i64 i)],[(0,.vs [.bool false c,.imm d (.ns .u64 a) 1 1 0 (List.length a),.int .i64 e]),(1,.vs [.bool false f,.imm g (.ns .u64 b) 1 1 0 (List.length b),.int .i64 h])],2⟩
def nD(b:List Int)(c:Int)(a:Int) :T ((Int)⊕(dE)) :=
  .ask ((((List.length b):Nat):Int) == (0:Int))
    (.leaf (.inl a))
    (.leaf (.inl (qy c a)))
def Xn(c:Bool)(d:Lv)(a:List Int)(e:Int)(f:Bool)(g:Lv)(b:List Int)(h:Int)(i:Int) :aQ:=⟨ao 54 [(2,.ptr 0 1 0 0),(3,.ptr 1 1 0 0),(7,.int .i64 i)],[(0,.vs [.bool false c,.imm d (.ns .u64 a) 1 1 0 (List.length a),.int .i64 e]),(1,.vs [.bool false f,.imm g (.ns .u64 b) 1 1 0 (List.length b),.int .i64 h])],2⟩
def nF(a:Int)(b:List Int)(c:Int) :T ((Int)⊕(dE)) :=
  .ask ((((List.length b):Nat):Int) == (0:Int))
    (.leaf (.inl a))
    (.leaf (.inl c))
def Xo(c:Lv)(d:Bool)(b:Lv)(a:List Int)(e:Int)(f:Int) :(List Int)×Nat→aQ:=fun (g,h)=>⟨ao 54 [(3,.ptr 0 1 0 0),(7,.int .i64 f),(8,.imm c (.ns .u64 g) 1 1 0 h),(9,.imm b (.ns .u64 a) 1 1 0 (List.length a))],[(0,.vs [.bool false d,.imm b (.ns .u64 a) 1 1 0 (List.length a),.int .i64 e])],1⟩
def uA(a:List Int)(b:Int)(c:Int) :T (((List Int)×Nat)⊕(dE)) :=
  .ask (decide (b > c))
    (.need (dn .i64 (b - c))<|.need (aP 0 (List.length a) a)<|.need (ur (ka (ab 0 (List.length a) a) (b - c)))<|.leaf (.inl ((ut (ka (ab 0 (List.length a) a) (b - c))),(uu (ka (ab 0 (List.length a) a) (b - c))))))
    (.leaf (.inl (a,(List.length a))))
def Xp(a:Lv)(b:Lv)(c:Int)(d:List Int)(e:Nat) :(List Int)×Nat→aQ:=fun (f,g)=>⟨ao 54 [(7,.int .i64 c),(8,.imm a (.ns .u64 d) 1 1 0 e),(9,.imm b (.ns .u64 f) 1 1 0 g)],[],0⟩
def uB(a:List Int)(b:Int)(c:Int) :T (((List Int)×Nat)⊕(dE)) :=
  .ask (decide (b > c))
    (.need (dn .i64 (b - c))<|.need (aP 0 (List.length a) a)<|.need (ur (ka (ab 0 (List.length a) a) (b - c)))<|.leaf (.inl ((ut (ka (ab 0 (List.length a) a) (b - c))),(uu (ka (ab 0 (List.length a) a) (b - c))))))
    (.leaf (.inl (a,(List.length a))))
def Ua(a:Int)(b:List Int)(c:Nat)(d:List Int)(e:Nat) :T ((Empty)⊕(dE)) :=
  .leaf (.inr (.r0 b c d e a))
def dS(c:List Int)(a:Int)(d:List Int)(e:Int) :Option dE:=jR (aE ((nD c a e).run) fun f =>
  aE ((nF a d f).run) fun b =>
  aE ((uA c a b).run) fun (g,h) =>
  aE ((uB d e b).run) fun (i,j) =>
  (Ua b g h i j).run)
theorem Xq(i:Bool)(a:Lv)(d:List Int)(f:Int)(g:Bool)(b:Lv)(c:List Int)(e:Int){x:dE}(h:dS d f c e=some x) :aw prog Cs [] [.agg [.bool false i,.imm a (.ns .u64 d) 1 1 0 (List.length d),.int .i64 f],.agg [.bool false g,.imm b (.ns .u64 c) 1 1 0 (List.length c),.int .i64 e]] (Dj a b x) :=
  kp true (Dj a b) (K1 a b) h (Sg.cut 4 uz (bk nC (Xm i a d f g b c e) [⟨[],[0,16],[2,3,7]⟩,⟨[],[0,16],[2,3,7]⟩]) (fun r=>Sg.cut 2 uz (bk nC (Xn i a d f g b c e) [⟨[],[0,1],[2,3,7]⟩,⟨[],[0,1],[2,3,7]⟩]) (fun j=>Sg.cut 3 uz (bk nC (Xo a g b c e j) [⟨[(.slot 8,.lev a)],[1],[3,7,8,9]⟩,⟨[],[1],[3,7,8,9]⟩]) (fun ⟨k,l⟩=>Sg.cut 2 uz (bk nC (Xp a b j k l) [⟨[(.slot 9,.lev b)],[],[7,8,9]⟩,⟨[],[],[7,8,9]⟩]) (fun ⟨s,t⟩=>bk nC _ [⟨[],[],[4,5,6]⟩])))))
    (fun x=>by cases x with | r0 m n o p q=>exact jT [.imm a (.ns .u64 m) 1 1 0 n,.imm b (.ns .u64 o) 1 1 0 p,.int .i64 q])
def pN:Option dE→Bool
  | some _=>true
  | none=>false
def qh:Option dE→List Int
  | some (.r0 x _ _ _ _)=>x
  | _=>[]
def qi:Option dE→Nat
  | some (.r0 _ x _ _ _)=>x
  | _=>0
def qj:Option dE→List Int
  | some (.r0 _ _ x _ _)=>x
  | _=>[]
def qk:Option dE→Nat
  | some (.r0 _ _ _ x _)=>x
  | _=>0
def v5:Option dE→Int
  | some (.r0 _ _ _ _ x)=>x
  | _=>0
theorem Xr{x:Option dE}(h:pN x=true) :x=some (.r0 (qh x) (qi x) (qj x) (qk x) (v5 x)):=by
  unfold pN at h
  split at h <;> first | rfl | (cases h;done) | (rename_i y;cases y;rfl)
def K2:aL:=bJ Cs (.cons (.agg (.cons .bool (.cons (.ns .u64) (.cons (.int .i64) .nil)))) (.cons (.agg (.cons .bool (.cons (.ns .u64) (.cons (.int .i64) .nil)))) .nil)) fun t=>(fun q=>[⟨Dj t.1.2.1.1 t.2.1.2.1.1 (.r0 (qh q) (qi q) (qj q) (qk q) (v5 q)),[pN q]⟩]) (dS t.1.2.1.2 t.1.2.2.1 t.2.1.2.1.2 t.2.1.2.2.1)
theorem Rg:aV prog K2:=aR fun t=>(aS (fun h=>Xq t.1.1 t.1.2.1.1 t.1.2.1.2 t.1.2.2.1 t.2.1.1 t.2.1.2.1.1 t.2.1.2.1.2 t.2.1.2.2.1 (Xr h)) aZ)
def K3:List aL:=K2 :: S6
theorem ql:bd prog (bf K3):=au Rg nC
inductive fg where
  | r0 (a:Nat) (b:Bool) (c:List Int) (d:Nat) (e:Int)
def Pg:fg→AE×aQ
  | .r0 a b c d e=>(.ret,⟨ao 11 [(2,.ptr 0 1 0 0),(3,.int .i64 ((a:Nat):Int))],[(0,.vs [.bool false b,.imm .free (.ns .u64 c) 1 1 0 d,.int .i64 e])],1⟩)
theorem K4:jC Pg:=by intro x;cases x <;> (intro h;cases h)
def F9:fg→gX
  | .r0 a b c d e=>⟨.tup [.agg [.bool false b,.imm .free (.ns .u64 c) 1 1 0 d,.int .i64 e],.int .i64 ((a:Nat):Int)],[]⟩
def abx:Bool×(List Int)×Nat×Int×Bool→aQ:=fun (a,b,c,d,e)=>⟨ao 11 [(1,.ptr 0 1 0 0),(2,.ptr 1 1 0 0)],[(0,.vs [.bool false a,.imm .free (.ns .u64 b) 1 1 0 c,.int .i64 d]),(1,.vs [.bool false e,.nsl,.int .i64 (0:Int)])],2⟩
def K5(b:Bool)(a:List Int)(c:Int) :T ((Bool×(List Int)×Nat×Int×Bool)⊕(fg)) :=
  .need (aP 0 (List.length a) a)<|.need (eY (aX b (ab 0 (List.length a) a) c))<|.leaf (.inl ((d9 (aX b (ab 0 (List.length a) a) c)),(ee (aX b (ab 0 (List.length a) a) c)),(ef (aX b (ab 0 (List.length a) a) c)),(eh (aX b (ab 0 (List.length a) a) c)),false))
def aby(a:Bool)(b:List Int)(c:Nat)(d:Int)(e:Bool)(f:Bool) :aQ:=⟨ao 11 [(1,.ptr 0 1 0 0),(2,.ptr 1 1 0 0),(8,.bool false f)],[(0,.vs [.bool false a,.imm .free (.ns .u64 b) 1 1 0 c,.int .i64 d]),(1,.vs [.bool false e,.nsl,.int .i64 (0:Int)])],2⟩
def Dk(a:List Int)(b:Nat)(c:Int) :T ((Bool)⊕(fg)) :=
  .need (aP 0 b a)<|.need (iV (dB (ab 0 b a) c))<|.leaf (.inl (!(gN (dB (ab 0 b a) c))))
def abz(a:Bool)(b:List Int)(c:Nat)(d:Int)(e:Bool) :T ((Empty)⊕(fg)) :=
  .ask e
    (.leaf (.inr (.r0 3 false ([]:List Int) 0 (0:Int))))
    (.leaf (.inr (.r0 0 a b c d)))
def bE(d:Bool)(e:List Int)(f:Int) :Option fg:=jR (aE ((K5 d e f).run) fun (g,a,b,c,i) =>
  aE ((Dk a b c).run) fun h =>
  (abz g a b c h).run)
theorem abA(b:Bool)(d:Lv)(a:List Int)(c:Int){x:fg}(h:bE b a c=some x) :aw prog E4 [] [.agg [.bool false b,.imm d (.ns .u64 a) 1 1 0 (List.length a),.int .i64 c]] (F9 x) :=
  kp true F9 Pg h (Sg.cut 2 K4 (bk ql abx [⟨[],[0,16],[1,2]⟩]) (fun ⟨e,f,g,i,j⟩=>Sg.cut 1 K4 (bk ql (aby e f g i j) [⟨[],[0,1],[1,2,8]⟩]) (fun p=>bk ql _ [⟨[(.cell 1 1,.fre 1 1 (.ns .u64 ([]:List Int)))],[1],[2,3]⟩,⟨[],[1],[2,3]⟩])))
    (fun x=>by cases x with | r0 k l m n o=>exact jT [.agg [.bool false l,.imm .free (.ns .u64 m) 1 1 0 n,.int .i64 o],.int .i64 ((k:Nat):Int)])
def k9:Option fg→Bool
  | some _=>true
  | none=>false
def kC:Option fg→Nat
  | some (.r0 x _ _ _ _)=>x
  | _=>0
def kD:Option fg→Bool
  | some (.r0 _ x _ _ _)=>x
  | _=>false
def kE:Option fg→List Int
  | some (.r0 _ _ x _ _)=>x
  | _=>[]
def kF:Option fg→Nat
  | some (.r0 _ _ _ x _)=>x
  | _=>0
def kG:Option fg→Int
  | some (.r0 _ _ _ _ x)=>x
  | _=>0
theorem abB{x:Option fg}(h:k9 x=true) :x=some (.r0 (kC x) (kD x) (kE x) (kF x) (kG x)):=by
  unfold k9 at h
  split at h <;> first | rfl | (cases h;done) | (rename_i y;cases y;rfl)
def Ph:aL:=bJ E4 (.cons (.agg (.cons .bool (.cons (.ns .u64) (.cons (.int .i64) .nil)))) .nil) fun t=>(fun q=>[⟨F9 (.r0 (kC q) (kD q) (kE q) (kF q) (kG q)),[k9 q]⟩]) (bE t.1.1 t.1.2.1.2 t.1.2.2.1)
theorem Ub:aV prog Ph:=aR fun t=>(aS (fun h=>abA t.1.1 t.1.2.1.1 t.1.2.1.2 t.1.2.2.1 (abB h)) aZ)
def Pi:List aL:=Ph :: K3
theorem fN:bd prog (bf Pi):=au Ub ql
inductive dC where
  | r0 (a:Nat) (b:Bool) (c:List Int) (d:Nat) (e:Int)
def S7:dC→AE×aQ
  | .r0 a b c d e=>(.ret,⟨ao 72 [(4,.ptr 0 1 0 0),(5,.int .i64 ((a:Nat):Int))],[(0,.vs [.bool false b,.imm .free (.ns .u64 c) 1 1 0 d,.int .i64 e])],1⟩)
theorem mz:jC S7:=by intro x;cases x <;> (intro h;cases h)
def II:dC→gX
  | .r0 a b c d e=>⟨.tup [.agg [.bool false b,.imm .free (.ns .u64 c) 1 1 0 d,.int .i64 e],.int .i64 ((a:Nat):Int)],[]⟩
def agD(c:Bool)(d:Lv)(a:List Int)(e:Int)(f:Bool)(g:Lv)(b:List Int)(h:Int) :Bool×Bool→aQ:=fun (i,j)=>⟨ao 72 [(2,.ptr 0 1 0 0),(3,.ptr 1 1 0 0),(4,.ptr 2 1 0 0),(16,.bool false i)],[(0,.vs [.bool false c,.imm d (.ns .u64 a) 1 1 0 (List.length a),.int .i64 e]),(1,.vs [.bool false f,.imm g (.ns .u64 b) 1 1 0 (List.length b),.int .i64 h]),(2,.vs [.bool false j,.nsl,.int .i64 (0:Int)])],3⟩
def Dl(a:List Int)(c:Int)(b:List Int)(d:Int) :T ((Bool×Bool)⊕(dC)) :=
  .need (aP 0 (List.length a) a)<|.need (iV (dB (ab 0 (List.length a) a) c))<|.ask (!(gN (dB (ab 0 (List.length a) a) c)))
    (.leaf (.inl (true,false)))
    (.need (aP 0 (List.length b) b)<|.need (iV (dB (ab 0 (List.length b) b) d))<|.leaf (.inl ((!(gN (dB (ab 0 (List.length b) b) d))),false)))
def agE(a:Bool) :Bool×(List Int)×Nat×Int×Bool×(List Int)×Nat×Int→aQ:=fun (b,c,d,e,f,g,h,i)=>⟨ao 72 [(2,.ptr 0 1 0 0),(3,.ptr 1 1 0 0),(4,.ptr 2 1 0 0)],[(0,.vs [.bool false b,.imm .free (.ns .u64 c) 1 1 0 d,.int .i64 e]),(1,.vs [.bool false f,.imm .free (.ns .u64 g) 1 1 0 h,.int .i64 i]),(2,.vs [.bool false a,.nsl,.int .i64 (0:Int)])],3⟩
def Dm(c:Bool)(a:List Int)(d:Int)(e:Bool)(b:List Int)(f:Int)(g:Bool) :T ((Bool×(List Int)×Nat×Int×Bool×(List Int)×Nat×Int)⊕(dC)) :=
  .ask g
    (.leaf (.inr (.r0 2 false ([]:List Int) 0 (0:Int))))
    (.need (aP 0 (List.length a) a)<|.need (eY (aX c (ab 0 (List.length a) a) d))<|.need (aP 0 (List.length b) b)<|.need (eY (aX e (ab 0 (List.length b) b) f))<|.leaf (.inl ((d9 (aX c (ab 0 (List.length a) a) d)),(ee (aX c (ab 0 (List.length a) a) d)),(ef (aX c (ab 0 (List.length a) a) d)),(eh (aX c (ab 0 (List.length a) a) d)),(d9 (aX e (ab 0 (List.length b) b) f)),(ee (aX e (ab 0 (List.length b) b) f)),(ef (aX e (ab 0 (List.length b) b) f)),(eh (aX e (ab 0 (List.length b) b) f)))))
def agF(a:Bool)(b:Bool)(c:List Int)(d:Nat)(e:Int)(f:Bool)(g:List Int)(h:Nat)(i:Int)(j:Bool) :aQ:=⟨ao 72 [(2,.ptr 0 1 0 0),(3,.ptr 1 1 0 0),(4,.ptr 2 1 0 0),(24,.bool false j)],[(0,.vs [.bool false b,.imm .free (.ns .u64 c) 1 1 0 d,.int .i64 e]),(1,.vs [.bool false f,.imm .free (.ns .u64 g) 1 1 0 h,.int .i64 i]),(2,.vs [.bool false a,.nsl,.int .i64 (0:Int)])],3⟩
def Dn(a:List Int)(b:Nat)(e:Int)(c:List Int)(d:Nat)(f:Int) :T ((Bool)⊕(dC)) :=
  .need (aP 0 b a)<|.need (aP 0 d c)<|.need (ux (pM (ab 0 b a) e (ab 0 d c) f))<|.leaf (.inl (uy (pM (ab 0 b a) e (ab 0 d c) f)))
def agG(a:Bool)(b:Bool)(c:List Int)(d:Nat)(e:Int)(f:Bool)(g:List Int)(h:Nat)(i:Int) :(List Int)×Nat×(List Int)×Nat×Int→aQ:=fun (j,k,l,m,n)=>⟨ao 72 [(2,.ptr 0 1 0 0),(3,.ptr 1 1 0 0),(4,.ptr 2 1 0 0),(6,.imm .free (.ns .u64 j) 1 1 0 k),(7,.imm .free (.ns .u64 l) 1 1 0 m),(8,.int .i64 n)],[(0,.vs [.bool false b,.imm .free (.ns .u64 c) 1 1 0 d,.int .i64 e]),(1,.vs [.bool false f,.imm .free (.ns .u64 g) 1 1 0 h,.int .i64 i]),(2,.vs [.bool false a,.nsl,.int .i64 (0:Int)])],3⟩
def Do(a:List Int)(b:Nat)(e:Int)(c:List Int)(d:Nat)(f:Int)(g:Bool) :T (((List Int)×Nat×(List Int)×Nat×Int)⊕(dC)) :=
  .ask g
    (.leaf (.inr (.r0 3 false ([]:List Int) 0 (0:Int))))
    (.need (aP 0 b a)<|.need (aP 0 d c)<|.need (pN (dS (ab 0 b a) e (ab 0 d c) f))<|.leaf (.inl ((qh (dS (ab 0 b a) e (ab 0 d c) f)),(qi (dS (ab 0 b a) e (ab 0 d c) f)),(qj (dS (ab 0 b a) e (ab 0 d c) f)),(qk (dS (ab 0 b a) e (ab 0 d c) f)),(v5 (dS (ab 0 b a) e (ab 0 d c) f)))))
def agH(a:Bool)(b:Bool)(c:List Int)(d:Nat)(e:Int)(f:Bool)(g:List Int)(h:Nat)(i:Int)(j:List Int)(k:Nat)(l:List Int)(m:Nat)(n:Int)(_:Unit) :aQ:=⟨ao 72 [(2,.ptr 0 1 0 0),(3,.ptr 1 1 0 0),(4,.ptr 2 1 0 0),(6,.imm .free (.ns .u64 j) 1 1 0 k),(7,.imm .free (.ns .u64 l) 1 1 0 m),(8,.int .i64 n)],[(0,.vs [.bool false b,.imm .free (.ns .u64 c) 1 1 0 d,.int .i64 e]),(1,.vs [.bool false f,.imm .free (.ns .u64 g) 1 1 0 h,.int .i64 i]),(2,.vs [.bool false a,.nsl,.int .i64 (0:Int)])],3⟩
def ra(e:Bool)(g:Bool)(a:List Int)(b:Nat)(c:List Int)(d:Nat)(f:Int) :T ((Unit)⊕(dC)) :=
  .ask (e == g)
    (.need (aP 0 b a)<|.need (aP 0 d c)<|.need (uq (d5 (ab 0 b a) (ab 0 d c)))<|.need (aP 0 (gL (d5 (ab 0 b a) (ab 0 d c))) (gK (d5 (ab 0 b a) (ab 0 d c))))<|.need (k9 (bE e (ab 0 (gL (d5 (ab 0 b a) (ab 0 d c))) (gK (d5 (ab 0 b a) (ab 0 d c)))) f))<|.leaf (.inr (.r0 (kC (bE e (ab 0 (gL (d5 (ab 0 b a) (ab 0 d c))) (gK (d5 (ab 0 b a) (ab 0 d c)))) f)) (kD (bE e (ab 0 (gL (d5 (ab 0 b a) (ab 0 d c))) (gK (d5 (ab 0 b a) (ab 0 d c)))) f)) (kE (bE e (ab 0 (gL (d5 (ab 0 b a) (ab 0 d c))) (gK (d5 (ab 0 b a) (ab 0 d c)))) f)) (kF (bE e (ab 0 (gL (d5 (ab 0 b a) (ab 0 d c))) (gK (d5 (ab 0 b a) (ab 0 d c)))) f)) (kG (bE e (ab 0 (gL (d5 (ab 0 b a) (ab 0 d c))) (gK (d5 (ab 0 b a) (ab 0 d c)))) f)))))
    (.leaf (.inl ()))
def agI(a:Bool)(b:Bool)(c:List Int)(d:Nat)(e:Int)(f:Bool)(g:List Int)(h:Nat)(i:Int)(j:List Int)(k:Nat)(l:List Int)(m:Nat)(n:Int)(o:Bool) :aQ:=⟨ao 72 [(2,.ptr 0 1 0 0),(3,.ptr 1 1 0 0),(4,.ptr 2 1 0 0),(6,.imm .free (.ns .u64 j) 1 1 0 k),(7,.imm .free (.ns .u64 l) 1 1 0 m),(8,.int .i64 n),(51,.bool false o)],[(0,.vs [.bool false b,.imm .free (.ns .u64 c) 1 1 0 d,.int .i64 e]),(1,.vs [.bool false f,.imm .free (.ns .u64 g) 1 1 0 h,.int .i64 i]),(2,.vs [.bool false a,.nsl,.int .i64 (0:Int)])],3⟩
def Dp(a:List Int)(b:Nat)(c:List Int)(d:Nat) :T ((Bool)⊕(dC)) :=
  .need (aP 0 b a)<|.need (aP 0 d c)<|.need (qg (mu (ab 0 b a) (ab 0 d c)))<|.leaf (.inl (decide ((pJ (mu (ab 0 b a) (ab 0 d c))) ≥ (0:Int))))
def agJ(a:Bool)(b:Bool)(c:List Int)(d:Nat)(e:Int)(f:List Int)(g:Nat)(h:List Int)(i:Nat)(j:Int)(_:Unit) :aQ:=⟨ao 72 [(3,.ptr 0 1 0 0),(4,.ptr 1 1 0 0),(6,.imm .free (.ns .u64 f) 1 1 0 g),(7,.imm .free (.ns .u64 h) 1 1 0 i),(8,.int .i64 j)],[(0,.vs [.bool false b,.imm .free (.ns .u64 c) 1 1 0 d,.int .i64 e]),(1,.vs [.bool false a,.nsl,.int .i64 (0:Int)])],2⟩
def Dq(e:Bool)(a:List Int)(b:Nat)(c:List Int)(d:Nat)(f:Int)(g:Bool) :T ((Unit)⊕(dC)) :=
  .ask g
    (.need (aP 0 b a)<|.need (aP 0 d c)<|.need (oc (bL (ab 0 b a) (ab 0 d c)))<|.need (aP 0 (cN (bL (ab 0 b a) (ab 0 d c))) (cM (bL (ab 0 b a) (ab 0 d c))))<|.need (k9 (bE e (ab 0 (cN (bL (ab 0 b a) (ab 0 d c))) (cM (bL (ab 0 b a) (ab 0 d c)))) f))<|.leaf (.inr (.r0 (kC (bE e (ab 0 (cN (bL (ab 0 b a) (ab 0 d c))) (cM (bL (ab 0 b a) (ab 0 d c)))) f)) (kD (bE e (ab 0 (cN (bL (ab 0 b a) (ab 0 d c))) (cM (bL (ab 0 b a) (ab 0 d c)))) f)) (kE (bE e (ab 0 (cN (bL (ab 0 b a) (ab 0 d c))) (cM (bL (ab 0 b a) (ab 0 d c)))) f)) (kF (bE e (ab 0 (cN (bL (ab 0 b a) (ab 0 d c))) (cM (bL (ab 0 b a) (ab 0 d c)))) f)) (kG (bE e (ab 0 (cN (bL (ab 0 b a) (ab 0 d c))) (cM (bL (ab 0 b a) (ab 0 d c)))) f)))))
    (.leaf (.inl ()))
def agK:Nat×Bool×(List Int)×Nat×Int→aQ:=fun (a,b,c,d,e)=>⟨ao 72 [(4,.ptr 0 1 0 0),(5,.int .i64 ((a:Nat):Int))],[(0,.vs [.bool false b,.imm .free (.ns .u64 c) 1 1 0 d,.int .i64 e])],1⟩
def Dr(e:Bool)(a:List Int)(b:Nat)(c:List Int)(d:Nat)(f:Int) :T ((Nat×Bool×(List Int)×Nat×Int)⊕(dC)) :=
  .need (aP 0 d c)<|.need (aP 0 b a)<|.need (oc (bL (ab 0 d c) (ab 0 b a)))<|.need (aP 0 (cN (bL (ab 0 d c) (ab 0 b a))) (cM (bL (ab 0 d c) (ab 0 b a))))<|.need (k9 (bE e (ab 0 (cN (bL (ab 0 d c) (ab 0 b a))) (cM (bL (ab 0 d c) (ab 0 b a)))) f))<|.leaf (.inl ((kC (bE e (ab 0 (cN (bL (ab 0 d c) (ab 0 b a))) (cM (bL (ab 0 d c) (ab 0 b a)))) f)),(kD (bE e (ab 0 (cN (bL (ab 0 d c) (ab 0 b a))) (cM (bL (ab 0 d c) (ab 0 b a)))) f)),(kE (bE e (ab 0 (cN (bL (ab 0 d c) (ab 0 b a))) (cM (bL (ab 0 d c) (ab 0 b a)))) f)),(kF (bE e (ab 0 (cN (bL (ab 0 d c) (ab 0 b a))) (cM (bL (ab 0 d c) (ab 0 b a)))) f)),(kG (bE e (ab 0 (cN (bL (ab 0 d c) (ab 0 b a))) (cM (bL (ab 0 d c) (ab 0 b a)))) f))))
def abC(a:Nat)(b:Bool)(c:List Int)(d:Nat)(e:Int) :T ((Empty)⊕(dC)) :=
  .leaf (.inr (.r0 a b c d e))
def gA(r:Bool)(f:List Int)(g:Int)(s:Bool)(h:List Int)(i:Int) :Option dC:=jR (aE ((Dl f g h i).run) fun (t,B) =>
  aE ((Dm r f g s h i t).run) fun (j,k,l,m,n,o,p,q) =>
  aE ((Dn k l m o p q).run) fun u =>
  aE ((Do k l m o p q u).run) fun (a,b,c,d,e) =>
  aE ((ra j n a b c d e).run) fun _ =>
  aE ((Dp a b c d).run) fun v =>
  aE ((Dq j a b c d e v).run) fun _ =>
  aE ((Dr n a b c d e).run) fun (w,x,y,z,A) =>
  (abC w x y z A).run)
theorem agL(m:Bool)(v:Lv)(f:List Int)(n:Int)(o:Bool)(w:Lv)(g:List Int)(p:Int){x:dC}(h:gA m f n o g p=some x) :aw prog HB [] [.agg [.bool false m,.imm v (.ns .u64 f) 1 1 0 (List.length f),.int .i64 n],.agg [.bool false o,.imm w (.ns .u64 g) 1 1 0 (List.length g),.int .i64 p]] (II x) :=
  kp true II S7 h (Sg.cut 2 mz (bk fN (agD m v f n o w g p) [⟨[],[0,16,32],[2,3,4,16]⟩,⟨[],[0,16,32],[2,3,4,16]⟩]) (fun ⟨D,a⟩=>Sg.cut 2 mz (bk fN (agE a) [⟨[(.cell 2 1,.fre 1 1 (.ns .u64 ([]:List Int)))],[2],[4,5]⟩,⟨[],[0,1,2],[2,3,4]⟩]) (fun ⟨i,j,k,l,b,c,d,e⟩=>Sg.cut 1 mz (bk fN (agF a i j k l b c d e) [⟨[],[0,1,2],[2,3,4,24]⟩]) (fun E=>Sg.cut 2 mz (bk fN (agG a i j k l b c d e) [⟨[(.cell 2 1,.fre 1 1 (.ns .u64 ([]:List Int)))],[2],[4,5]⟩,⟨[],[0,1,2],[2,3,4,6,7,8]⟩]) (fun ⟨q,r,s,t,u⟩=>Sg.cut 2 mz (bk fN (agH a i j k l b c d e q r s t u) [⟨[],[2],[4,5]⟩,⟨[],[0,1,2],[2,3,4,6,7,8]⟩]) (fun _=>Sg.cut 1 mz (bk fN (agI a i j k l b c d e q r s t u) [⟨[],[0,1,2],[2,3,4,6,7,8,51]⟩]) (fun F=>Sg.cut 1 mz (bk fN (agJ a b c d e q r s t u) [⟨[],[2],[4,5]⟩,⟨[],[1,2],[3,4,6,7,8]⟩]) (fun _=>Sg.cut 1 mz (bk fN agK [⟨[],[1],[4,5]⟩]) (fun ⟨G,H,I,J,K⟩=>bk fN _ [⟨[],[0],[4,5]⟩])))))))))
    (fun x=>by cases x with | r0 y z A B C=>exact jT [.agg [.bool false z,.imm .free (.ns .u64 A) 1 1 0 B,.int .i64 C],.int .i64 ((y:Nat):Int)])
def uC:Option dC→Bool
  | some _=>true
  | none=>false
def Ae:Option dC→Nat
  | some (.r0 x _ _ _ _)=>x
  | _=>0
def uD:Option dC→Bool
  | some (.r0 _ x _ _ _)=>x
  | _=>false
def uE:Option dC→List Int
  | some (.r0 _ _ x _ _)=>x
  | _=>[]
def uF:Option dC→Nat
  | some (.r0 _ _ _ x _)=>x
  | _=>0
def uG:Option dC→Int
  | some (.r0 _ _ _ _ x)=>x
  | _=>0
theorem agM{x:Option dC}(h:uC x=true) :x=some (.r0 (Ae x) (uD x) (uE x) (uF x) (uG x)):=by
  unfold uC at h
  split at h <;> first | rfl | (cases h;done) | (rename_i y;cases y;rfl)
def S8:aL:=bJ HB (.cons (.agg (.cons .bool (.cons (.ns .u64) (.cons (.int .i64) .nil)))) (.cons (.agg (.cons .bool (.cons (.ns .u64) (.cons (.int .i64) .nil)))) .nil)) fun t=>(fun q=>[⟨II (.r0 (Ae q) (uD q) (uE q) (uF q) (uG q)),[uC q]⟩]) (gA t.1.1 t.1.2.1.2 t.1.2.2.1 t.2.1.1 t.2.1.2.1.2 t.2.1.2.2.1)
theorem Xs:aV prog S8:=aR fun t=>(aS (fun h=>agL t.1.1 t.1.2.1.1 t.1.2.1.2 t.1.2.2.1 t.2.1.1 t.2.1.2.1.1 t.2.1.2.1.2 t.2.1.2.2.1 (agM h)) aZ)
def S9:List aL:=S8 :: Pi
theorem pO:bd prog (bf S9):=au Xs fN
inductive fH where
  | r0 (a:Nat) (b:Bool) (c:List Int) (d:Nat) (e:Int)
def Ta:fH→AE×aQ
  | .r0 a b c d e=>(.ret,⟨ao 38 [(4,.ptr 0 1 0 0),(5,.int .i64 ((a:Nat):Int))],[(0,.vs [.bool false b,.imm .free (.ns .u64 c) 1 1 0 d,.int .i64 e])],1⟩)
theorem Ga:jC Ta:=by intro x;cases x <;> (intro h;cases h)
def IJ:fH→gX
  | .r0 a b c d e=>⟨.tup [.agg [.bool false b,.imm .free (.ns .u64 c) 1 1 0 d,.int .i64 e],.int .i64 ((a:Nat):Int)],[]⟩
def agN(c:Bool)(d:Lv)(a:List Int)(e:Int)(f:Bool)(g:Lv)(b:List Int)(h:Int) :Bool×Bool→aQ:=fun (i,j)=>⟨ao 38 [(2,.ptr 0 1 0 0),(3,.ptr 1 1 0 0),(4,.ptr 2 1 0 0),(13,.bool false i)],[(0,.vs [.bool false c,.imm d (.ns .u64 a) 1 1 0 (List.length a),.int .i64 e]),(1,.vs [.bool false f,.imm g (.ns .u64 b) 1 1 0 (List.length b),.int .i64 h]),(2,.vs [.bool false j,.nsl,.int .i64 (0:Int)])],3⟩
def Pj(a:List Int)(c:Int)(b:List Int)(d:Int) :T ((Bool×Bool)⊕(fH)) :=
  .need (aP 0 (List.length a) a)<|.need (iV (dB (ab 0 (List.length a) a) c))<|.ask (!(gN (dB (ab 0 (List.length a) a) c)))
    (.leaf (.inl (true,false)))
    (.need (aP 0 (List.length b) b)<|.need (iV (dB (ab 0 (List.length b) b) d))<|.leaf (.inl ((!(gN (dB (ab 0 (List.length b) b) d))),false)))
def agO(a:Bool) :Bool×(List Int)×Nat×Int×Bool×(List Int)×Nat×Int→aQ:=fun (b,c,d,e,f,g,h,i)=>⟨ao 38 [(2,.ptr 0 1 0 0),(3,.ptr 1 1 0 0),(4,.ptr 2 1 0 0)],[(0,.vs [.bool false b,.imm .free (.ns .u64 c) 1 1 0 d,.int .i64 e]),(1,.vs [.bool false f,.imm .free (.ns .u64 g) 1 1 0 h,.int .i64 i]),(2,.vs [.bool false a,.nsl,.int .i64 (0:Int)])],3⟩
def Gb(c:Bool)(a:List Int)(d:Int)(e:Bool)(b:List Int)(f:Int)(g:Bool) :T ((Bool×(List Int)×Nat×Int×Bool×(List Int)×Nat×Int)⊕(fH)) :=
  .ask g
    (.leaf (.inr (.r0 2 false ([]:List Int) 0 (0:Int))))
    (.need (aP 0 (List.length a) a)<|.need (eY (aX c (ab 0 (List.length a) a) d))<|.need (aP 0 (List.length b) b)<|.need (eY (aX e (ab 0 (List.length b) b) f))<|.leaf (.inl ((d9 (aX c (ab 0 (List.length a) a) d)),(ee (aX c (ab 0 (List.length a) a) d)),(ef (aX c (ab 0 (List.length a) a) d)),(eh (aX c (ab 0 (List.length a) a) d)),(d9 (aX e (ab 0 (List.length b) b) f)),(ee (aX e (ab 0 (List.length b) b) f)),(ef (aX e (ab 0 (List.length b) b) f)),(eh (aX e (ab 0 (List.length b) b) f)))))
def agP:Nat×Bool×(List Int)×Nat×Int→aQ:=fun (a,b,c,d,e)=>⟨ao 38 [(4,.ptr 0 1 0 0),(5,.int .i64 ((a:Nat):Int))],[(0,.vs [.bool false b,.imm .free (.ns .u64 c) 1 1 0 d,.int .i64 e])],1⟩
def Gc(g:Bool)(a:List Int)(b:Nat)(e:Int)(h:Bool)(c:List Int)(d:Nat)(f:Int) :T ((Nat×Bool×(List Int)×Nat×Int)⊕(fH)) :=
  .need (aP 0 b a)<|.need (aP 0 d c)<|.need (qf (dg (ab 0 b a) (ab 0 d c)))<|.need (dn .i64 (e+f))<|.need (aP 0 (fF (dg (ab 0 b a) (ab 0 d c))) (fE (dg (ab 0 b a) (ab 0 d c))))<|.need (k9 (bE (!(g == h)) (ab 0 (fF (dg (ab 0 b a) (ab 0 d c))) (fE (dg (ab 0 b a) (ab 0 d c)))) (e+f)))<|.leaf (.inl ((kC (bE (!(g == h)) (ab 0 (fF (dg (ab 0 b a) (ab 0 d c))) (fE (dg (ab 0 b a) (ab 0 d c)))) (e+f))),(kD (bE (!(g == h)) (ab 0 (fF (dg (ab 0 b a) (ab 0 d c))) (fE (dg (ab 0 b a) (ab 0 d c)))) (e+f))),(kE (bE (!(g == h)) (ab 0 (fF (dg (ab 0 b a) (ab 0 d c))) (fE (dg (ab 0 b a) (ab 0 d c)))) (e+f))),(kF (bE (!(g == h)) (ab 0 (fF (dg (ab 0 b a) (ab 0 d c))) (fE (dg (ab 0 b a) (ab 0 d c)))) (e+f))),(kG (bE (!(g == h)) (ab 0 (fF (dg (ab 0 b a) (ab 0 d c))) (fE (dg (ab 0 b a) (ab 0 d c)))) (e+f)))))
def agQ(a:Nat)(b:Bool)(c:List Int)(d:Nat)(e:Int) :T ((Empty)⊕(fH)) :=
  .leaf (.inr (.r0 a b c d e))
def nT(e:Bool)(a:List Int)(b:Int)(f:Bool)(c:List Int)(d:Int) :Option fH:=jR (aE ((Pj a b c d).run) fun (g,u) =>
  aE ((Gb e a b f c d g).run) fun (h,i,j,k,l,m,n,o) =>
  aE ((Gc h i j k l m n o).run) fun (p,q,r,s,t) =>
  (agQ p q r s t).run)
theorem agR(c:Bool)(g:Lv)(a:List Int)(d:Int)(e:Bool)(i:Lv)(b:List Int)(f:Int){x:fH}(h:nT c a d e b f=some x) :aw prog HC [] [.agg [.bool false c,.imm g (.ns .u64 a) 1 1 0 (List.length a),.int .i64 d],.agg [.bool false e,.imm i (.ns .u64 b) 1 1 0 (List.length b),.int .i64 f]] (IJ x) :=
  kp true IJ Ta h (Sg.cut 2 Ga (bk pO (agN c g a d e i b f) [⟨[],[0,16,32],[2,3,4,13]⟩,⟨[],[0,16,32],[2,3,4,13]⟩]) (fun ⟨p,j⟩=>Sg.cut 2 Ga (bk pO (agO j) [⟨[(.cell 2 1,.fre 1 1 (.ns .u64 ([]:List Int)))],[2],[4,5]⟩,⟨[],[0,1,2],[2,3,4]⟩]) (fun ⟨q,r,s,t,u,v,w,y⟩=>Sg.cut 1 Ga (bk pO agP [⟨[],[2],[4,5]⟩]) (fun ⟨z,A,B,C,D⟩=>bk pO _ [⟨[],[0],[4,5]⟩]))))
    (fun x=>by cases x with | r0 k l m n o=>exact jT [.agg [.bool false l,.imm .free (.ns .u64 m) 1 1 0 n,.int .i64 o],.int .i64 ((k:Nat):Int)])
def zc:Option fH→Bool
  | some _=>true
  | none=>false
def IK:Option fH→Nat
  | some (.r0 x _ _ _ _)=>x
  | _=>0
def Af:Option fH→Bool
  | some (.r0 _ x _ _ _)=>x
  | _=>false
def Ag:Option fH→List Int
  | some (.r0 _ _ x _ _)=>x
  | _=>[]
def Ah:Option fH→Nat
  | some (.r0 _ _ _ x _)=>x
  | _=>0
def Ai:Option fH→Int
  | some (.r0 _ _ _ _ x)=>x
  | _=>0
theorem agS{x:Option fH}(h:zc x=true) :x=some (.r0 (IK x) (Af x) (Ag x) (Ah x) (Ai x)):=by
  unfold zc at h
  split at h <;> first | rfl | (cases h;done) | (rename_i y;cases y;rfl)
def Tb:aL:=bJ HC (.cons (.agg (.cons .bool (.cons (.ns .u64) (.cons (.int .i64) .nil)))) (.cons (.agg (.cons .bool (.cons (.ns .u64) (.cons (.int .i64) .nil)))) .nil)) fun t=>(fun q=>[⟨IJ (.r0 (IK q) (Af q) (Ag q) (Ah q) (Ai q)),[zc q]⟩]) (nT t.1.1 t.1.2.1.2 t.1.2.2.1 t.2.1.1 t.2.1.2.1.2 t.2.1.2.2.1)
theorem Xt:aV prog Tb:=aR fun t=>(aS (fun h=>agR t.1.1 t.1.2.1.1 t.1.2.1.2 t.1.2.2.1 t.2.1.1 t.2.1.2.1.1 t.2.1.2.1.2 t.2.1.2.2.1 (agS h)) aZ)
def Tc:List aL:=Tb :: S9
theorem IL:bd prog (bf Tc):=au Xt pO
inductive mB where
  | r0 (a:Int)
def agT:mB→AE×aQ
  | .r0 a=>(.ret,⟨ao 9 [(2,.int .i64 a)],[],0⟩)
def Gd:mB→gX
  | .r0 a=>⟨.int .i64 a,[]⟩
def K6(a:Bool)(b:List Int) :T ((Empty)⊕(mB)) :=
  .ask ((((List.length b):Nat):Int) == (0:Int))
    (.leaf (.inr (.r0 (0:Int))))
    (.ask a
      (.leaf (.inr (.r0 (-1:Int))))
      (.leaf (.inr (.r0 (1:Int)))))
def iW(a:Bool)(b:List Int) :Option mB:=jR ((K6 a b).run)
theorem abD(b:Bool)(c:Lv)(a:List Int)(d:Int){x:mB}(h:iW b a=some x) :aw prog E8 [] [.agg [.bool false b,.imm c (.ns .u64 a) 1 1 0 (List.length a),.int .i64 d]] (Gd x) :=
  kp true Gd agT h (bk IL _ [⟨[],[],[2]⟩,⟨[],[],[2]⟩,⟨[],[],[2]⟩])
    (fun x=>by cases x with | r0 e=>exact jT [.int .i64 e])
def m9:Option mB→Bool
  | some _=>true
  | none=>false
def l9:Option mB→Int
  | some (.r0 x)=>x
  | _=>0
theorem abE{x:Option mB}(h:m9 x=true) :x=some (.r0 (l9 x)):=by
  unfold m9 at h
  split at h <;> first | rfl | (cases h;done) | (rename_i y;cases y;rfl)
def Pk:aL:=bJ E8 (.cons (.agg (.cons .bool (.cons (.ns .u64) (.cons (.int .i64) .nil)))) .nil) fun t=>(fun q=>[⟨Gd (.r0 (l9 q)),[m9 q]⟩]) (iW t.1.1 t.1.2.1.2)
theorem Uc:aV prog Pk:=aR fun t=>(aS (fun h=>abD t.1.1 t.1.2.1.1 t.1.2.1.2 t.1.2.2.1 (abE h)) aZ)
def Pm:List aL:=Pk :: Tc
theorem fO:bd prog (bf Pm):=au Uc IL
inductive eG where
  | r0 (a:Int) (b:Nat)
def Td:eG→AE×aQ
  | .r0 a b=>(.ret,⟨ao 49 [(4,.int .i64 a),(5,.int .i64 ((b:Nat):Int))],[],0⟩)
theorem mC:jC Td:=by intro x;cases x <;> (intro h;cases h)
def IM:eG→gX
  | .r0 a b=>⟨.tup [.int .i64 a,.int .i64 ((b:Nat):Int)],[]⟩
def agU(c:Bool)(d:Lv)(a:List Int)(e:Int)(f:Bool)(g:Lv)(b:List Int)(h:Int)(i:Bool) :aQ:=⟨ao 49 [(2,.ptr 0 1 0 0),(3,.ptr 1 1 0 0),(16,.bool false i)],[(0,.vs [.bool false c,.imm d (.ns .u64 a) 1 1 0 (List.length a),.int .i64 e]),(1,.vs [.bool false f,.imm g (.ns .u64 b) 1 1 0 (List.length b),.int .i64 h])],2⟩
def Ds(a:List Int)(c:Int)(b:List Int)(d:Int) :T ((Bool)⊕(eG)) :=
  .need (aP 0 (List.length a) a)<|.need (iV (dB (ab 0 (List.length a) a) c))<|.ask (!(gN (dB (ab 0 (List.length a) a) c)))
    (.leaf (.inl true))
    (.need (aP 0 (List.length b) b)<|.need (iV (dB (ab 0 (List.length b) b) d))<|.leaf (.inl (!(gN (dB (ab 0 (List.length b) b) d)))))
def agV:Bool×(List Int)×Nat×Int×Bool×(List Int)×Nat×Int→aQ:=fun (a,b,c,d,e,f,g,h)=>⟨ao 49 [(2,.ptr 0 1 0 0),(3,.ptr 1 1 0 0)],[(0,.vs [.bool false a,.imm .free (.ns .u64 b) 1 1 0 c,.int .i64 d]),(1,.vs [.bool false e,.imm .free (.ns .u64 f) 1 1 0 g,.int .i64 h])],2⟩
def Dt(c:Bool)(a:List Int)(d:Int)(e:Bool)(b:List Int)(f:Int)(g:Bool) :T ((Bool×(List Int)×Nat×Int×Bool×(List Int)×Nat×Int)⊕(eG)) :=
  .ask g
    (.leaf (.inr (.r0 (0:Int) 2)))
    (.need (aP 0 (List.length a) a)<|.need (eY (aX c (ab 0 (List.length a) a) d))<|.need (aP 0 (List.length b) b)<|.need (eY (aX e (ab 0 (List.length b) b) f))<|.leaf (.inl ((d9 (aX c (ab 0 (List.length a) a) d)),(ee (aX c (ab 0 (List.length a) a) d)),(ef (aX c (ab 0 (List.length a) a) d)),(eh (aX c (ab 0 (List.length a) a) d)),(d9 (aX e (ab 0 (List.length b) b) f)),(ee (aX e (ab 0 (List.length b) b) f)),(ef (aX e (ab 0 (List.length b) b) f)),(eh (aX e (ab 0 (List.length b) b) f)))))
def agW(a:Bool)(b:List Int)(c:Nat)(d:Int)(e:Bool)(f:List Int)(g:Nat)(h:Int)(i:Bool) :aQ:=⟨ao 49 [(2,.ptr 0 1 0 0),(3,.ptr 1 1 0 0),(23,.bool false i)],[(0,.vs [.bool false a,.imm .free (.ns .u64 b) 1 1 0 c,.int .i64 d]),(1,.vs [.bool false e,.imm .free (.ns .u64 f) 1 1 0 g,.int .i64 h])],2⟩
def Du(a:List Int)(b:Nat)(e:Int)(c:List Int)(d:Nat)(f:Int) :T ((Bool)⊕(eG)) :=
  .need (aP 0 b a)<|.need (aP 0 d c)<|.need (ux (pM (ab 0 b a) e (ab 0 d c) f))<|.leaf (.inl (uy (pM (ab 0 b a) e (ab 0 d c) f)))
def agX(a:Bool)(b:List Int)(c:Nat)(d:Int)(e:Bool)(f:List Int)(g:Nat)(h:Int)(i:Bool) :aQ:=⟨ao 49 [(2,.ptr 0 1 0 0),(3,.ptr 1 1 0 0),(28,.bool false i)],[(0,.vs [.bool false a,.imm .free (.ns .u64 b) 1 1 0 c,.int .i64 d]),(1,.vs [.bool false e,.imm .free (.ns .u64 f) 1 1 0 g,.int .i64 h])],2⟩
def Dv(e:Bool)(a:List Int)(b:Nat)(f:Bool)(c:List Int)(d:Nat)(g:Bool) :T ((Bool)⊕(eG)) :=
  .ask g
    (.leaf (.inr (.r0 (0:Int) 3)))
    (.need (aP 0 b a)<|.need (m9 (iW e (ab 0 b a)))<|.need (aP 0 d c)<|.need (m9 (iW f (ab 0 d c)))<|.leaf (.inl ((l9 (iW e (ab 0 b a))) != (l9 (iW f (ab 0 d c))))))
def agY(a:Bool)(b:List Int)(c:Nat)(d:Int)(e:Bool)(f:List Int)(g:Nat)(h:Int)(_:Unit) :aQ:=⟨ao 49 [(2,.ptr 0 1 0 0),(3,.ptr 1 1 0 0)],[(0,.vs [.bool false a,.imm .free (.ns .u64 b) 1 1 0 c,.int .i64 d]),(1,.vs [.bool false e,.imm .free (.ns .u64 f) 1 1 0 g,.int .i64 h])],2⟩
def Dw(e:Bool)(a:List Int)(b:Nat)(f:Bool)(c:List Int)(d:Nat)(g:Bool) :T ((Unit)⊕(eG)) :=
  .ask g
    (.need (aP 0 b a)<|.need (m9 (iW e (ab 0 b a)))<|.need (aP 0 d c)<|.need (m9 (iW f (ab 0 d c)))<|.ask (decide ((l9 (iW e (ab 0 b a))) < (l9 (iW f (ab 0 d c)))))
      (.leaf (.inr (.r0 (-1:Int) 0)))
      (.leaf (.inr (.r0 (1:Int) 0))))
    (.leaf (.inl ()))
def agZ(a:Bool)(b:List Int)(c:Nat)(d:Int) :(List Int)×Nat×(List Int)×Nat→aQ:=fun (e,f,g,h)=>⟨ao 49 [(2,.ptr 0 1 0 0),(6,.imm .free (.ns .u64 e) 1 1 0 f),(7,.imm .free (.ns .u64 g) 1 1 0 h)],[(0,.vs [.bool false a,.imm .free (.ns .u64 b) 1 1 0 c,.int .i64 d])],1⟩
def Dx(a:List Int)(b:Nat)(e:Int)(c:List Int)(d:Nat)(f:Int) :T (((List Int)×Nat×(List Int)×Nat)⊕(eG)) :=
  .need (aP 0 b a)<|.need (aP 0 d c)<|.need (pN (dS (ab 0 b a) e (ab 0 d c) f))<|.leaf (.inl ((qh (dS (ab 0 b a) e (ab 0 d c) f)),(qi (dS (ab 0 b a) e (ab 0 d c) f)),(qj (dS (ab 0 b a) e (ab 0 d c) f)),(qk (dS (ab 0 b a) e (ab 0 d c) f))))
def ag0(a:List Int)(b:Nat)(c:List Int)(d:Nat)(_:Unit) :aQ:=⟨ao 49 [(6,.imm .free (.ns .u64 a) 1 1 0 b),(7,.imm .free (.ns .u64 c) 1 1 0 d)],[],0⟩
def Dy(e:Bool)(a:List Int)(b:Nat)(c:List Int)(d:Nat) :T ((Unit)⊕(eG)) :=
  .ask e
    (.need (aP 0 d c)<|.need (aP 0 b a)<|.need (qg (mu (ab 0 d c) (ab 0 b a)))<|.leaf (.inr (.r0 (pJ (mu (ab 0 d c) (ab 0 b a))) 0)))
    (.leaf (.inl ()))
def ag1(a:Int) :aQ:=⟨ao 49 [(4,.int .i64 a),(5,.int .i64 (0:Int))],[],0⟩
def Dz(a:List Int)(b:Nat)(c:List Int)(d:Nat) :T ((Int)⊕(eG)) :=
  .need (aP 0 b a)<|.need (aP 0 d c)<|.need (qg (mu (ab 0 b a) (ab 0 d c)))<|.leaf (.inl (pJ (mu (ab 0 b a) (ab 0 d c))))
def abF(a:Int) :T ((Empty)⊕(eG)) :=
  .leaf (.inr (.r0 a 0))
def xH(q:Bool)(f:List Int)(g:Int)(r:Bool)(h:List Int)(i:Int) :Option eG:=jR (aE ((Ds f g h i).run) fun s =>
  aE ((Dt q f g r h i s).run) fun (e,a,b,j,k,c,d,l) =>
  aE ((Du a b j c d l).run) fun t =>
  aE ((Dv e a b k c d t).run) fun u =>
  aE ((Dw e a b k c d u).run) fun _ =>
  aE ((Dx a b j c d l).run) fun (m,n,o,p) =>
  aE ((Dy e m n o p).run) fun _ =>
  aE ((Dz m n o p).run) fun v =>
  (abF v).run)
theorem ag2(g:Bool)(p:Lv)(a:List Int)(i:Int)(j:Bool)(q:Lv)(b:List Int)(k:Int){x:eG}(h:xH g a i j b k=some x) :aw prog HF [] [.agg [.bool false g,.imm p (.ns .u64 a) 1 1 0 (List.length a),.int .i64 i],.agg [.bool false j,.imm q (.ns .u64 b) 1 1 0 (List.length b),.int .i64 k]] (IM x) :=
  kp true IM Td h (Sg.cut 2 mC (bk fO (agU g p a i j q b k) [⟨[],[0,16],[2,3,16]⟩,⟨[],[0,16],[2,3,16]⟩]) (fun y=>Sg.cut 2 mC (bk fO agV [⟨[],[],[4,5]⟩,⟨[],[0,1],[2,3]⟩]) (fun ⟨c,d,e,f,l,m,n,o⟩=>Sg.cut 1 mC (bk fO (agW c d e f l m n o) [⟨[],[0,1],[2,3,23]⟩]) (fun z=>Sg.cut 2 mC (bk fO (agX c d e f l m n o) [⟨[],[],[4,5]⟩,⟨[],[0,1],[2,3,28]⟩]) (fun A=>Sg.cut 1 mC (bk fO (agY c d e f l m n o) [⟨[],[],[4,5]⟩,⟨[],[],[4,5]⟩,⟨[],[0,1],[2,3]⟩]) (fun _=>Sg.cut 1 mC (bk fO (agZ c d e f) [⟨[],[0],[2,6,7]⟩]) (fun ⟨r,s,t,u⟩=>Sg.cut 2 mC (bk fO (ag0 r s t u) [⟨[],[],[4,5]⟩,⟨[],[],[6,7]⟩]) (fun _=>Sg.cut 1 mC (bk fO ag1 [⟨[],[],[4,5]⟩]) (fun B=>bk fO _ [⟨[],[],[4,5]⟩])))))))))
    (fun x=>by cases x with | r0 v w=>exact jT [.int .i64 v,.int .i64 ((w:Nat):Int)])
def zd:Option eG→Bool
  | some _=>true
  | none=>false
def Aj:Option eG→Int
  | some (.r0 x _)=>x
  | _=>0
def IN:Option eG→Nat
  | some (.r0 _ x)=>x
  | _=>0
theorem ag3{x:Option eG}(h:zd x=true) :x=some (.r0 (Aj x) (IN x)):=by
  unfold zd at h
  split at h <;> first | rfl | (cases h;done) | (rename_i y;cases y;rfl)
def Te:aL:=bJ HF (.cons (.agg (.cons .bool (.cons (.ns .u64) (.cons (.int .i64) .nil)))) (.cons (.agg (.cons .bool (.cons (.ns .u64) (.cons (.int .i64) .nil)))) .nil)) fun t=>(fun q=>[⟨IM (.r0 (Aj q) (IN q)),[zd q]⟩]) (xH t.1.1 t.1.2.1.2 t.1.2.2.1 t.2.1.1 t.2.1.2.1.2 t.2.1.2.2.1)
theorem Xu:aV prog Te:=aR fun t=>(aS (fun h=>ag2 t.1.1 t.1.2.1.1 t.1.2.1.2 t.1.2.2.1 t.2.1.1 t.2.1.2.1.1 t.2.1.2.1.2 t.2.1.2.2.1 (ag3 h)) aZ)
def Tf:List aL:=Te :: Pm
theorem pP:bd prog (bf Tf):=au Xu fO
inductive dT where
  | r0 (a:Nat) (b:Bool) (c:List Int) (d:Nat) (e:Int)
def K7:dT→AE×aQ
  | .r0 a b c d e=>(.ret,⟨ao 28 [(4,.ptr 0 1 0 0),(5,.int .i64 ((a:Nat):Int))],[(0,.vs [.bool false b,.imm .free (.ns .u64 c) 1 1 0 d,.int .i64 e])],1⟩)
theorem Ak:jC K7:=by intro x;cases x <;> (intro h;cases h)
def DA:dT→gX
  | .r0 a b c d e=>⟨.tup [.agg [.bool false b,.imm .free (.ns .u64 c) 1 1 0 d,.int .i64 e],.int .i64 ((a:Nat):Int)],[]⟩
def Xv(b:Bool)(c:Lv)(a:List Int)(d:Int)(e:Int) :Bool×Bool→aQ:=fun (f,g)=>⟨ao 28 [(1,.int .i64 e),(2,.ptr 0 1 0 0),(4,.ptr 1 1 0 0),(8,.bool false f)],[(0,.vs [.bool false b,.imm c (.ns .u64 a) 1 1 0 (List.length a),.int .i64 d]),(1,.vs [.bool false g,.nsl,.int .i64 (0:Int)])],2⟩
def Al(a:List Int)(b:Int) :T ((Bool×Bool)⊕(dT)) :=
  .need (aP 0 (List.length a) a)<|.need (iV (dB (ab 0 (List.length a) a) b))<|.leaf (.inl ((!(gN (dB (ab 0 (List.length a) a) b))),false))
def Xw(a:Int)(b:Bool) :Bool×(List Int)×Nat×Int→aQ:=fun (c,d,e,f)=>⟨ao 28 [(1,.int .i64 a),(2,.ptr 0 1 0 0),(4,.ptr 1 1 0 0)],[(0,.vs [.bool false c,.imm .free (.ns .u64 d) 1 1 0 e,.int .i64 f]),(1,.vs [.bool false b,.nsl,.int .i64 (0:Int)])],2⟩
def Am(b:Bool)(a:List Int)(c:Int)(d:Bool) :T ((Bool×(List Int)×Nat×Int)⊕(dT)) :=
  .ask d
    (.leaf (.inr (.r0 2 false ([]:List Int) 0 (0:Int))))
    (.need (aP 0 (List.length a) a)<|.need (eY (aX b (ab 0 (List.length a) a) c))<|.leaf (.inl ((d9 (aX b (ab 0 (List.length a) a) c)),(ee (aX b (ab 0 (List.length a) a) c)),(ef (aX b (ab 0 (List.length a) a) c)),(eh (aX b (ab 0 (List.length a) a) c)))))
def Xx:Nat×Bool×(List Int)×Nat×Int→aQ:=fun (a,b,c,d,e)=>⟨ao 28 [(4,.ptr 0 1 0 0),(5,.int .i64 ((a:Nat):Int))],[(0,.vs [.bool false b,.imm .free (.ns .u64 c) 1 1 0 d,.int .i64 e])],1⟩
def An(d:Int)(e:Bool)(b:List Int)(a:Nat)(c:Int) :T ((Nat×Bool×(List Int)×Nat×Int)⊕(dT)) :=
  .ask (((a:Nat):Int) == (0:Int))
    (.leaf (.inr (.r0 0 e b a c)))
    (.need (dn .i64 (c+(lQ (-1048576:Int) (qy (1048576:Int) d))))<|.need (aP 0 a b)<|.need (k9 (bE e (ab 0 a b) (c+(lQ (-1048576:Int) (qy (1048576:Int) d)))))<|.leaf (.inl ((kC (bE e (ab 0 a b) (c+(lQ (-1048576:Int) (qy (1048576:Int) d))))),(kD (bE e (ab 0 a b) (c+(lQ (-1048576:Int) (qy (1048576:Int) d))))),(kE (bE e (ab 0 a b) (c+(lQ (-1048576:Int) (qy (1048576:Int) d))))),(kF (bE e (ab 0 a b) (c+(lQ (-1048576:Int) (qy (1048576:Int) d))))),(kG (bE e (ab 0 a b) (c+(lQ (-1048576:Int) (qy (1048576:Int) d))))))))
def Xy(a:Nat)(b:Bool)(c:List Int)(d:Nat)(e:Int) :T ((Empty)⊕(dT)) :=
  .leaf (.inr (.r0 a b c d e))
def jY(c:Bool)(a:List Int)(b:Int)(d:Int) :Option dT:=jR (aE ((Al a b).run) fun (e,o) =>
  aE ((Am c a b e).run) fun (f,g,h,i) =>
  aE ((An d f g h i).run) fun (j,k,l,m,n) =>
  (Xy j k l m n).run)
theorem Xz(c:Bool)(e:Lv)(a:List Int)(d:Int)(b:Int){x:dT}(h:jY c a d b=some x) :aw prog Cr [] [.agg [.bool false c,.imm e (.ns .u64 a) 1 1 0 (List.length a),.int .i64 d],.int .i64 b] (DA x) :=
  kp true DA K7 h (Sg.cut 2 Ak (bk pP (Xv c e a d b) [⟨[],[0,16],[1,2,4,8]⟩]) (fun ⟨m,f⟩=>Sg.cut 2 Ak (bk pP (Xw b f) [⟨[(.cell 1 1,.fre 1 1 (.ns .u64 ([]:List Int)))],[1],[4,5]⟩,⟨[],[0,1],[1,2,4]⟩]) (fun ⟨n,o,p,q⟩=>Sg.cut 4 Ak (bk pP Xx [⟨[],[1],[4,5]⟩,⟨[],[1],[4,5]⟩]) (fun ⟨r,s,t,u,v⟩=>bk pP _ [⟨[],[0],[4,5]⟩]))))
    (fun x=>by cases x with | r0 g i j k l=>exact jT [.agg [.bool false i,.imm .free (.ns .u64 j) 1 1 0 k,.int .i64 l],.int .i64 ((g:Nat):Int)])
def uH:Option dT→Bool
  | some _=>true
  | none=>false
def Em:Option dT→Nat
  | some (.r0 x _ _ _ _)=>x
  | _=>0
def v6:Option dT→Bool
  | some (.r0 _ x _ _ _)=>x
  | _=>false
def v7:Option dT→List Int
  | some (.r0 _ _ x _ _)=>x
  | _=>[]
def v8:Option dT→Nat
  | some (.r0 _ _ _ x _)=>x
  | _=>0
def v9:Option dT→Int
  | some (.r0 _ _ _ _ x)=>x
  | _=>0
theorem XA{x:Option dT}(h:uH x=true) :x=some (.r0 (Em x) (v6 x) (v7 x) (v8 x) (v9 x)):=by
  unfold uH at h
  split at h <;> first | rfl | (cases h;done) | (rename_i y;cases y;rfl)
def K8:aL:=bJ Cr (.cons (.agg (.cons .bool (.cons (.ns .u64) (.cons (.int .i64) .nil)))) (.cons (.int .i64) .nil)) fun t=>(fun q=>[⟨DA (.r0 (Em q) (v6 q) (v7 q) (v8 q) (v9 q)),[uH q]⟩]) (jY t.1.1 t.1.2.1.2 t.1.2.2.1 t.2.1)
theorem Rh:aV prog K8:=aR fun t=>(aS (fun h=>Xz t.1.1 t.1.2.1.1 t.1.2.1.2 t.1.2.2.1 t.2.1 (XA h)) aZ)
def K9:List aL:=K8 :: Tf
theorem qm:bd prog (bf K9):=au Rh pP
inductive iC where
  | r0 (a:Int) (b:Nat) (c:List Nat)
def B5:iC→AE×aQ
  | .r0 a b c=>(.ret,⟨ao 26 [(2,.ptr 0 1 0 0)],[(0,.vs [.int .i64 a,.int .i64 a,.sl 1 1 1 0 b b]),(1,.fl c)],2⟩)
theorem Ge:jC B5:=by intro x;cases x <;> (intro h;cases h)
theorem ag4(id:Nat) :m5 id B5:=by intro x;cases x <;> (intro h;cases h)
def IO:iC→gX
  | .r0 a b c=>⟨.agg [.int .i64 a,.int .i64 a,.sl 0 1 1 0 b b],[some (.fl c)]⟩
def ag5:List Code:=cP (nO Hy)
def ag6(a:Int) :Nat×(List Nat)→aQ:=fun (b,c)=>⟨ao 26 [(0,.int .i64 a),(2,.ptr 0 1 0 0),(3,.ptr 1 1 0 0),(4,.int .i64 (0:Int))],[(0,.vs [.int .i64 (0:Int),.int .i64 (0:Int),.nsl]),(1,.vs [.int .i64 a,.int .i64 a,.sl 2 1 1 0 b b]),(2,.fl c)],3⟩
def ag7(a:Int) :T ((Nat×(List Nat))⊕(iC)) :=
  .need (dn .i64 (a * a))<|.need (decide ((0:Int)≤(a * a)))<|.need (decide ((a * a)≤(a * a)))<|.need (decide ((8:Int) * (a * a)≤140737488355328))<|.need (dn .i64 (a * a))<|.leaf (.inl ((Int.toNat (a * a)),(List.replicate (Int.toNat (a * a)) 0)))
def Gf(a:Int)(b:Nat) :Nat×(List Nat)→aQ:=fun (c,d)=>⟨ao 26 [(0,.int .i64 a),(2,.ptr 0 1 0 0),(3,.ptr 1 1 0 0),(4,.int .i64 ((c:Nat):Int))],[(0,.vs [.int .i64 (0:Int),.int .i64 (0:Int),.nsl]),(1,.vs [.int .i64 a,.int .i64 a,.sl 2 1 1 0 b b]),(2,.fl d)],3⟩
def Pn(a:Int)(b:Nat)(c:(List Nat)) :aQ:=⟨ao 26 [(2,.ptr 0 1 0 0),(3,.ptr 1 1 0 0)],[(0,.vs [.int .i64 (0:Int),.int .i64 (0:Int),.nsl]),(1,.vs [.int .i64 a,.int .i64 a,.sl 2 1 1 0 b b]),(2,.fl c)],3⟩
def ag8:List Code:=cP (dD ((((ag5.drop 3).take 1)).headD .skip))
def ag9(b:Int)(d:Nat)(a:Nat)(c:List Nat) :T ((Nat×(List Nat))⊕(((List Nat))⊕(iC))) :=
  .ask (decide (((a:Nat):Int) < b))
    (.need (dn .i64 (((a:Nat):Int) * b))<|.need (dn .i64 ((((a:Nat):Int) * b)+((a:Nat):Int)))<|.need (gD ((((a:Nat):Int) * b)+((a:Nat):Int)) d)<|.need (im (Int.toNat ((((a:Nat):Int) * b)+((a:Nat):Int))) (List.length c))<|.need (dn .i64 (((a+1):Nat):Int))<|.leaf (.inl ((a+1),(List.set c (Int.toNat ((((a:Nat):Int) * b)+((a:Nat):Int))) 4607182418800017408))))
    (.leaf (.inr (.inl c)))
def DB(a:Int)(b:Nat) :Nat×(List Nat)→Option ((Nat×(List Nat))⊕(((List Nat))⊕(iC))):=fun (c,d) =>
  (ag9 a b c d).run
theorem abG(a:Int)(b:Nat)(c:Nat)(d:List Nat) :Sg prog [] ag8 (Gf a b (c,d)) (DB a b (c,d)) (Gf a b) (cL 0 (Pn a b) B5):=by
  unfold DB;exact bk qm _ [⟨[],[0,1,2],[0,2,3,4]⟩,⟨[],[0,1,2],[2,3]⟩]
def abH(a:Int)(b:Nat)(c:List Nat) :T ((Empty)⊕(iC)) :=
  .leaf (.inr (.r0 a b c))
def pQ(a:Int) :Option iC:=jR (aE ((ag7 a).run) fun (b,c) =>
  aE (dc (DB a b) (0,c)) fun d =>
  (abH a b d).run)
theorem aha(a:Int){x:iC}(h:pQ a=some x) :aw prog Hy [] [.int .i64 a] (IO x) :=
  kp false IO B5 h (Sg.cut 3 Ge (bk qm (ag6 a) [⟨[],[0,128,96],[0,2,3,4]⟩]) (fun ⟨b,g⟩=>Sg.cut 1 Ge (BM ⟨[],[0,1,2],[0,2,3,4]⟩ (Gf a b) (Pn a b) 0 Ge (ag4 _) (fun ⟨e,f⟩=>abG a b e f)) (fun i=>bk qm _ [⟨[],[0,2],[2]⟩])))
    (fun x=>by cases x with | r0 c d j=>exact jT [.agg [.int .i64 c,.int .i64 c,.sl 1 1 1 0 d d]])
def ze:Option iC→Bool
  | some _=>true
  | none=>false
def Ao:Option iC→Int
  | some (.r0 x _ _)=>x
  | _=>0
def Ap:Option iC→Nat
  | some (.r0 _ x _)=>x
  | _=>0
def Aq:Option iC→List Nat
  | some (.r0 _ _ x)=>x
  | _=>[]
theorem ahb{x:Option iC}(h:ze x=true) :x=some (.r0 (Ao x) (Ap x) (Aq x)):=by
  unfold ze at h
  split at h <;> first | rfl | (cases h;done) | (rename_i y;cases y;rfl)
def Tg:aL:=bJ Hy (.cons (.int .i64) .nil) fun t=>(fun q=>[⟨IO (.r0 (Ao q) (Ap q) (Aq q)),[ze q]⟩]) (pQ t.1)
theorem XB:aV prog Tg:=aR fun t=>(aS (fun h=>aha t.1 (ahb h)) aZ)
def Th:List aL:=Tg :: K9
theorem Ar:bd prog (bf Th):=au XB qm
inductive kU where
  | r0 (a:Bool)
def Po:kU→AE×aQ
  | .r0 a=>(.ret,⟨ao 32 [(2,.bool false a)],[],0⟩)
theorem abI:jC Po:=by intro x;cases x <;> (intro h;cases h)
def Gg:kU→gX
  | .r0 a=>⟨.bool false a,[]⟩
def abJ(a:Bool) :aQ:=⟨ao 32 [(2,.bool false a)],[],0⟩
def La(a:Int)(b:Int)(c:List Nat) :T ((Bool)⊕(kU)) :=
  .ask (decide (a < (0:Int)))
    (.leaf (.inl true))
    (.ask (decide (a > (512:Int)))
      (.leaf (.inl true))
      (.ask (decide (b < (0:Int)))
        (.leaf (.inl true))
        (.ask (decide (b > (512:Int)))
          (.leaf (.inl true))
          (.need (dn .i64 (a * b))<|.leaf (.inl ((((List.length c):Nat):Int) != (a * b)))))))
def abK(a:Bool) :T ((Empty)⊕(kU)) :=
  .leaf (.inr (.r0 a))
def dK(a:Int)(b:Int)(c:List Nat) :Option kU:=jR (aE ((La a b c).run) fun d =>
  (abK d).run)
theorem abL(b:Int)(c:Int)(d:Lv)(a:List Nat){x:kU}(h:dK b c a=some x) :aw prog N5 [] [.agg [.int .i64 b,.int .i64 c,.imm d (.fl a) 1 1 0 (List.length a)]] (Gg x) :=
  kp false Gg Po h (Sg.cut 2 abI (bk Ar abJ [⟨[],[],[2]⟩,⟨[],[],[2]⟩,⟨[],[],[2]⟩,⟨[],[],[2]⟩,⟨[],[],[2]⟩]) (fun f=>bk Ar _ [⟨[],[],[2]⟩]))
    (fun x=>by cases x with | r0 e=>exact jT [.bool false e])
def iL:Option kU→Bool
  | some _=>true
  | none=>false
def ig:Option kU→Bool
  | some (.r0 x)=>x
  | _=>false
theorem abM{x:Option kU}(h:iL x=true) :x=some (.r0 (ig x)):=by
  unfold iL at h
  split at h <;> first | rfl | (cases h;done) | (rename_i y;cases y;rfl)
def Pp:aL:=bJ N5 (.cons (.agg (.cons (.int .i64) (.cons (.int .i64) (.cons .fl .nil)))) .nil) fun t=>(fun q=>[⟨Gg (.r0 (ig q)),[iL q]⟩]) (dK t.1.1 t.1.2.1 t.1.2.2.1.2)
theorem Ud:aV prog Pp:=aR fun t=>(aS (fun h=>abL t.1.1 t.1.2.1 t.1.2.2.1.1 t.1.2.2.1.2 (abM h)) aZ)
def Pq:List aL:=Pp :: Th
theorem sf:bd prog (bf Pq):=au Ud Ar
inductive bj where
  | r0 (a:Int)
def dL:bj→AE×aQ
  | .r0 a=>(.ret,⟨ao 19 [(4,.int .i64 a)],[],0⟩)
theorem fj:jC dL:=by intro x;cases x <;> (intro h;cases h)
theorem pe(id:Nat) :m5 id dL:=by intro x;cases x <;> (intro h;cases h)
def fI:bj→gX
  | .r0 a=>⟨.int .i64 a,[]⟩
def pf:List Code:=cP (nO o5)
def pg(b:Lv)(a:List Nat)(_:Unit) :aQ:=⟨ao 19 [(0,.imm b (.fl a) 1 1 0 (List.length a)),(1,.fn (.func rT) [] []),(7,.int .i64 (((List.length a):Nat):Int)),(8,.int .i64 (0:Int))],[],0⟩
def ph:T ((Unit)⊕(bj)) :=
  .leaf (.inl ())
def fk(b:Lv)(a:List Nat)(c:Nat) :aQ:=⟨ao 19 [(0,.imm b (.fl a) 1 1 0 (List.length a)),(1,.fn (.func rT) [] []),(7,.int .i64 (((List.length a):Nat):Int)),(8,.int .i64 ((c:Nat):Int))],[],0⟩
def jP(_:Unit) :aQ:=⟨ao 19 [],[],0⟩
def pj:List Code:=cP (dD ((((pf.drop 2).take 1)).headD .skip))
def cQ(b:List Nat)(a:Nat) :T ((Nat)⊕((Unit)⊕(bj))) :=
  .ask (decide (((a:Nat):Int) < (((List.length b):Nat):Int)))
    (.need (gD ((a:Nat):Int) (List.length b))<|.need (im a (List.length b))<|.ask (UX (List.getD b a 0) (List.getD b a 0))
      (.leaf (.inr (.inr (.r0 ((a:Nat):Int)))))
      (.ask ((0:Int) == (0:Int))
        (.ask (fgt (L9 (List.getD b a 0)) 9218868437227405311)
          (.leaf (.inr (.inr (.r0 ((a:Nat):Int)))))
          (.need (dn .i64 (((a+1):Nat):Int))<|.leaf (.inl (a+1))))
        (.fail)))
    (.leaf (.inr (.inl ())))
def dw(a:List Nat) :Nat→Option ((Nat)⊕((Unit)⊕(bj))):=fun b =>
  (cQ a b).run
theorem o6(b:Lv)(a:List Nat)(c:Nat) :Sg prog [] pj (fk b a c) (dw a c) (fk b a) (cL 0 jP dL):=by
  unfold dw;exact bk sf _ [⟨[],[],[4]⟩,⟨[],[],[4]⟩,⟨[],[],[0,1,7,8]⟩,⟨[],[],[]⟩]
def o7:T ((Empty)⊕(bj)) :=
  .leaf (.inr (.r0 (-1:Int)))
def aA(a:List Nat) :Option bj:=jR (aE ((ph).run) fun _ =>
  aE (dc (dw a) 0) fun _ =>
  (o7).run)
theorem pk(b:Lv)(a:List Nat){x:bj}(h:aA a=some x) :aw prog o5 [] [.imm b (.fl a) 1 1 0 (List.length a),.fn (.func rT) [] []] (fI x) :=
  kp false fI dL h (Sg.cut 2 fj (bk sf (pg b a) [⟨[],[],[0,1,7,8]⟩]) (fun _=>Sg.cut 1 fj (BM ⟨[],[],[0,1,7,8]⟩ (fk b a) (jP) 0 fj (pe _) (fun c=>o6 b a c)) (fun _=>bk sf _ [⟨[],[],[4]⟩])))
    (fun x=>by cases x with | r0 d=>exact jT [.int .i64 d])
def be:Option bj→Bool
  | some _=>true
  | none=>false
def bg:Option bj→Int
  | some (.r0 x)=>x
  | _=>0
theorem pm{x:Option bj}(h:be x=true) :x=some (.r0 (bg x)):=by
  unfold be at h
  split at h <;> first | rfl | (cases h;done) | (rename_i y;cases y;rfl)
def kd:aL:=bJ o5 (.cons .fl (.cons (.fn rT .nil .nil) .nil)) fun t=>(fun q=>[⟨fI (.r0 (bg q)),[be q]⟩]) (aA t.1.2)
theorem oM:aV prog kd:=aR fun t=>(aS (fun h=>pk t.1.1 t.1.2 (pm h)) aZ)
def ke:List aL:=kd :: Pq
theorem eR:bd prog (bf ke):=au oM sf
inductive og where
  | r0 (a:Bool)
def XC:og→AE×aQ
  | .r0 a=>(.ret,⟨ao 17 [(4,.bool false a)],[],0⟩)
theorem akz:jC XC:=by intro x;cases x <;> (intro h;cases h)
def MM:og→gX
  | .r0 a=>⟨.bool false a,[]⟩
def akA(a:Bool) :aQ:=⟨ao 17 [(4,.bool false a)],[],0⟩
def akB(a:Nat)(b:Nat) :T ((Bool)⊕(og)) :=
  .ask (UX a a)
    (.ask (!(UX b b))
      (.leaf (.inl true))
      (.leaf (.inl (flt a b))))
    (.leaf (.inl (flt a b)))
def akC(a:Bool) :T ((Empty)⊕(og)) :=
  .leaf (.inr (.r0 a))
def As(a:Nat)(b:Nat) :Option og:=jR (aE ((akB a b).run) fun c =>
  (akC c).run)
theorem akD(a:Nat)(b:Nat){x:og}(h:As a b=some x) :aw prog VK [] [.flt false a,.flt false b] (MM x) :=
  kp false MM XC h (Sg.cut 2 akz (bk eR akA [⟨[],[],[4]⟩,⟨[],[],[4]⟩,⟨[],[],[4]⟩]) (fun d=>bk eR _ [⟨[],[],[4]⟩]))
    (fun x=>by cases x with | r0 c=>exact jT [.bool false c])
def B6:Option og→Bool
  | some _=>true
  | none=>false
def DC:Option og→Bool
  | some (.r0 x)=>x
  | _=>false
theorem akE{x:Option og}(h:B6 x=true) :x=some (.r0 (DC x)):=by
  unfold B6 at h
  split at h <;> first | rfl | (cases h;done) | (rename_i y;cases y;rfl)
def XD:aL:=bJ VK (.cons (.flt false) (.cons (.flt false) .nil)) fun t=>(fun q=>[⟨MM (.r0 (DC q)),[B6 q]⟩]) (As t.1 t.2.1)
theorem abN:aV prog XD:=aR fun t=>(aS (fun h=>akD t.1 t.2.1 (akE h)) aZ)
def XE:List aL:=XD :: ke
theorem rb:bd prog (bf XE):=au abN eR
inductive dj where
  | r0 (a:Bool)
def pb:dj→AE×aQ
  | .r0 a=>(.ret,⟨ao 21 [(2,.bool false a)],[],0⟩)
theorem oh:jC pb:=by intro x;cases x <;> (intro h;cases h)
theorem MN(id:Nat) :m5 id pb:=by intro x;cases x <;> (intro h;cases h)
def uI:dj→gX
  | .r0 a=>⟨.bool false a,[]⟩
def MO:List Code:=cP (nO tP)
def MP(b:Lv)(a:List Nat)(c:Int) :aQ:=⟨ao 21 [(0,.imm b (.fl a) 1 1 0 (List.length a)),(3,.int .i64 c)],[],0⟩
def MQ(a:List Nat) :T ((Int)⊕(dj)) :=
  .need (dn .i64 ((((List.length a):Nat):Int) - (1:Int)))<|.leaf (.inl ((((List.length a):Nat):Int) - (1:Int)))
def sQ(b:Lv)(a:List Nat)(c:Int) :aQ:=⟨ao 21 [(0,.imm b (.fl a) 1 1 0 (List.length a)),(3,.int .i64 c)],[],0⟩
def Au(_:Unit) :aQ:=⟨ao 21 [],[],0⟩
def J5:List Code:=cP (dD ((((MO.drop 2).take 1)).headD .skip))
def MR(b:Lv)(a:List Nat)(c:Int)(_:Unit) :aQ:=⟨ao 21 [(0,.imm b (.fl a) 1 1 0 (List.length a)),(3,.int .i64 c)],[],0⟩
def nn(b:List Nat)(a:Int) :T ((Unit)⊕((Unit)⊕(dj))) :=
  .ask (decide (a > (0:Int)))
    (.need (gD a (List.length b))<|.need (im (Int.toNat a) (List.length b))<|.need (dn .i64 (a - (1:Int)))<|.need (gD (a - (1:Int)) (List.length b))<|.need (im (Int.toNat (a - (1:Int))) (List.length b))<|.need (B6 (As (List.getD b (Int.toNat a) 0) (List.getD b (Int.toNat (a - (1:Int))) 0)))<|.ask (DC (As (List.getD b (Int.toNat a) 0) (List.getD b (Int.toNat (a - (1:Int))) 0)))
      (.leaf (.inr (.inr (.r0 false))))
      (.leaf (.inl ())))
    (.leaf (.inr (.inl ())))
def J6(a:Int) :T ((Int)⊕((Unit)⊕(dj))) :=
  .need (dn .i64 (a - (1:Int)))<|.leaf (.inl (a - (1:Int)))
def np(b:List Nat) :Int→Option ((Int)⊕((Unit)⊕(dj))):=fun a =>
  aE ((nn b a).run) fun _ =>
  (J6 a).run
theorem J7(b:Lv)(a:List Nat)(c:Int) :Sg prog [] J5 (sQ b a c) (np a c) (sQ b a) (cL 0 Au pb):=by
  unfold np;exact Sg.cut 3 (ay oh) (bk rb (MR b a c) [⟨[],[],[2]⟩,⟨[],[],[0,3]⟩,⟨[],[],[]⟩]) (fun _=>bk rb _ [⟨[],[],[0,3]⟩])
def J8:T ((Empty)⊕(dj)) :=
  .leaf (.inr (.r0 true))
def mD(a:List Nat) :Option dj:=jR (aE ((MQ a).run) fun b =>
  aE (dc (np a) b) fun _ =>
  (J8).run)
theorem MS(b:Lv)(a:List Nat){x:dj}(h:mD a=some x) :aw prog tP [] [.imm b (.fl a) 1 1 0 (List.length a)] (uI x) :=
  kp false uI pb h (Sg.cut 2 oh (bk rb (MP b a) [⟨[],[],[0,3]⟩]) (fun e=>Sg.cut 1 oh (BM ⟨[],[],[0,3]⟩ (sQ b a) (Au) 0 oh (MN _) (fun c=>J7 b a c)) (fun _=>bk rb _ [⟨[],[],[2]⟩])))
    (fun x=>by cases x with | r0 d=>exact jT [.bool false d])
def oi:Option dj→Bool
  | some _=>true
  | none=>false
def pR:Option dj→Bool
  | some (.r0 x)=>x
  | _=>false
theorem MT{x:Option dj}(h:oi x=true) :x=some (.r0 (pR x)):=by
  unfold oi at h
  split at h <;> first | rfl | (cases h;done) | (rename_i y;cases y;rfl)
def B7:aL:=bJ tP (.cons .fl .nil) fun t=>(fun q=>[⟨uI (.r0 (pR q)),[oi q]⟩]) (mD t.1.2)
theorem IP:aV prog B7:=aR fun t=>(aS (fun h=>MS t.1.1 t.1.2 (MT h)) aZ)
def B8:List aL:=B7 :: XE
theorem iD:bd prog (bf B8):=au IP rb
inductive dM where
  | r0 (a:Nat) (b:Bool) (c:List Int) (d:Nat) (e:Nat) (f:Int)
def Pr:dM→AE×aQ
  | .r0 a b c d e f=>(.ret,⟨ao 45 [(4,.ptr 0 1 0 0),(5,.int .i64 ((a:Nat):Int))],[(0,.vs [.bool false b,.imm .free (.ns .u64 c) 1 1 d e,.int .i64 f])],1⟩)
theorem xa:jC Pr:=by intro x;cases x <;> (intro h;cases h)
def Gh:dM→gX
  | .r0 a b c d e f=>⟨.tup [.agg [.bool false b,.imm .free (.ns .u64 c) 1 1 d e,.int .i64 f],.int .i64 ((a:Nat):Int)],[]⟩
def abO(a:Int)(b:Int) :Bool×Bool→aQ:=fun (c,d)=>⟨ao 45 [(0,.int .i64 a),(1,.int .i64 b),(4,.ptr 0 1 0 0),(22,.bool false c)],[(0,.vs [.bool false d,.nsl,.int .i64 (0:Int)])],1⟩
def Lb(a:Int)(b:Int) :T ((Bool×Bool)⊕(dM)) :=
  .ask (decide (a < (0:Int)))
    (.leaf (.inl (true,false)))
    (.ask (decide (a > (512:Int)))
      (.leaf (.inl (true,false)))
      (.ask (decide (b < (0:Int)))
        (.leaf (.inl (true,false)))
        (.leaf (.inl ((decide (b > (512:Int))),false)))))
def abP(a:Bool) :Bool×(List Int)×Nat×Nat×Int→aQ:=fun (b,c,d,e,f)=>⟨ao 45 [(4,.ptr 0 1 0 0),(6,.ptr 1 1 0 0)],[(0,.vs [.bool false a,.nsl,.int .i64 (0:Int)]),(1,.vs [.bool false b,.imm .free (.ns .u64 c) 1 1 d e,.int .i64 f])],2⟩
def DD(a:Int)(b:Int)(c:Bool) :T ((Bool×(List Int)×Nat×Nat×Int)⊕(dM)) :=
  .ask c
    (.leaf (.inr (.r0 2 false ([]:List Int) 0 0 (0:Int))))
    (.need (dn .i64 ((64:Int) * (lQ a (1:Int))))<|.need (dn .i64 (((64:Int) * (lQ a (1:Int))) * (lQ b (1:Int))))<|.need (m8 (bD (((64:Int) * (lQ a (1:Int))) * (lQ b (1:Int)))))<|.leaf (.inl ((jh (bD (((64:Int) * (lQ a (1:Int))) * (lQ b (1:Int))))),(g8 (bD (((64:Int) * (lQ a (1:Int))) * (lQ b (1:Int))))),(g9 (bD (((64:Int) * (lQ a (1:Int))) * (lQ b (1:Int))))),(hH (bD (((64:Int) * (lQ a (1:Int))) * (lQ b (1:Int))))),(ji (bD (((64:Int) * (lQ a (1:Int))) * (lQ b (1:Int))))))))
def abQ(a:Bool) :Nat×Bool×(List Int)×Nat×Nat×Int→aQ:=fun (b,c,d,e,f,g)=>⟨ao 45 [(4,.ptr 0 1 0 0),(7,.ptr 1 1 0 0),(8,.int .i64 ((b:Nat):Int))],[(0,.vs [.bool false a,.nsl,.int .i64 (0:Int)]),(1,.vs [.bool false c,.imm .free (.ns .u64 d) 1 1 e f,.int .i64 g])],2⟩
def DE(d:Bool)(a:List Int)(b:Nat)(c:Nat)(e:Int) :T ((Nat×Bool×(List Int)×Nat×Nat×Int)⊕(dM)) :=
  .need (aP b c a)<|.need (aP b c a)<|.need (nQ (aB d (ab b c a) e d (ab b c a) e))<|.leaf (.inl ((k6 (aB d (ab b c a) e d (ab b c a) e)),(cI (aB d (ab b c a) e d (ab b c a) e)),(cz (aB d (ab b c a) e d (ab b c a) e)),(cA (aB d (ab b c a) e d (ab b c a) e)),(cB (aB d (ab b c a) e d (ab b c a) e)),(cJ (aB d (ab b c a) e d (ab b c a) e))))
def abR:Nat×Bool×(List Int)×Nat×Nat×Int→aQ:=fun (a,b,c,d,e,f)=>⟨ao 45 [(4,.ptr 0 1 0 0),(5,.int .i64 ((a:Nat):Int))],[(0,.vs [.bool false b,.imm .free (.ns .u64 c) 1 1 d e,.int .i64 f])],1⟩
def DF(f:Nat)(d:Bool)(a:List Int)(b:Nat)(c:Nat)(e:Int) :T ((Nat×Bool×(List Int)×Nat×Nat×Int)⊕(dM)) :=
  .ask (((f:Nat):Int) != (0:Int))
    (.leaf (.inr (.r0 f false ([]:List Int) 0 0 (0:Int))))
    (.need (aP b c a)<|.need (wP (jW d (ab b c a) e (-106:Int)))<|.leaf (.inl ((xU (jW d (ab b c a) e (-106:Int))),(xV (jW d (ab b c a) e (-106:Int))),(xW (jW d (ab b c a) e (-106:Int))),(xX (jW d (ab b c a) e (-106:Int))),(xY (jW d (ab b c a) e (-106:Int))),(xZ (jW d (ab b c a) e (-106:Int))))))
def XF(a:Nat)(b:Bool)(c:List Int)(d:Nat)(e:Nat)(f:Int) :T ((Empty)⊕(dM)) :=
  .leaf (.inr (.r0 a b c d e f))
def dA(a:Int)(b:Int) :Option dM:=jR (aE ((Lb a b).run) fun (c,u) =>
  aE ((DD a b c).run) fun (d,e,f,g,h) =>
  aE ((DE d e f g h).run) fun (i,j,k,l,m,n) =>
  aE ((DF i j k l m n).run) fun (o,p,q,r,s,t) =>
  (XF o p q r s t).run)
theorem abS(a:Int)(b:Int){x:dM}(h:dA a b=some x) :aw prog ES [] [.int .i64 a,.int .i64 b] (Gh x) :=
  kp true Gh Pr h (Sg.cut 2 xa (bk iD (abO a b) [⟨[],[0],[0,1,4,22]⟩,⟨[],[0],[0,1,4,22]⟩,⟨[],[0],[0,1,4,22]⟩,⟨[],[0],[0,1,4,22]⟩]) (fun ⟨k,c⟩=>Sg.cut 2 xa (bk iD (abP c) [⟨[(.cell 0 1,.fre 1 1 (.ns .u64 ([]:List Int)))],[0],[4,5]⟩,⟨[],[0,113],[4,6]⟩]) (fun ⟨l,m,n,o,p⟩=>Sg.cut 1 xa (bk iD (abQ c) [⟨[],[0,98],[4,7,8]⟩]) (fun ⟨q,r,s,t,u,v⟩=>Sg.cut 3 xa (bk iD abR [⟨[(.cell 0 1,.fre 1 1 (.ns .u64 ([]:List Int)))],[0],[4,5]⟩,⟨[],[0],[4,5]⟩]) (fun ⟨w,y,z,A,B,C⟩=>bk iD _ [⟨[],[0],[4,5]⟩])))))
    (fun x=>by cases x with | r0 d e f g i j=>exact jT [.agg [.bool false e,.imm .free (.ns .u64 f) 1 1 g i,.int .i64 j],.int .i64 ((d:Nat):Int)])
def rc:Option dM→Bool
  | some _=>true
  | none=>false
def sh:Option dM→Nat
  | some (.r0 x _ _ _ _ _)=>x
  | _=>0
def si:Option dM→Bool
  | some (.r0 _ x _ _ _ _)=>x
  | _=>false
def sj:Option dM→List Int
  | some (.r0 _ _ x _ _ _)=>x
  | _=>[]
def sk:Option dM→Nat
  | some (.r0 _ _ _ x _ _)=>x
  | _=>0
def sm:Option dM→Nat
  | some (.r0 _ _ _ _ x _)=>x
  | _=>0
def sn:Option dM→Int
  | some (.r0 _ _ _ _ _ x)=>x
  | _=>0
theorem abT{x:Option dM}(h:rc x=true) :x=some (.r0 (sh x) (si x) (sj x) (sk x) (sm x) (sn x)):=by
  unfold rc at h
  split at h <;> first | rfl | (cases h;done) | (rename_i y;cases y;rfl)
def Ps:aL:=bJ ES (.cons (.int .i64) (.cons (.int .i64) .nil)) fun t=>(fun q=>[⟨Gh (.r0 (sh q) (si q) (sj q) (sk q) (sm q) (sn q)),[rc q]⟩]) (dA t.1 t.2.1)
theorem Ue:aV prog Ps:=aR fun t=>(aS (fun h=>abS t.1 t.2.1 (abT h)) aZ)
def Pt:List aL:=Ps :: B8
theorem oN:bd prog (bf Pt):=au Ue iD
inductive eL where
  | r0 (a:Nat) (b:List Bool) (c:List (List Int)) (d:List Int)
def zf:eL→AE×aQ
  | .r0 a b c d=>(.ret,⟨ao 26 [(2,.sl 0 3 3 0 a a)],[(0,.cols a [.cb b,.cns .u64 c,.ci .i64 d])],1⟩)
theorem xc:jC zf:=by intro x;cases x <;> (intro h;cases h)
theorem abU(id:Nat) :m5 id zf:=by intro x;cases x <;> (intro h;cases h)
def Gi:eL→gX
  | .r0 a b c d=>⟨.imm .free (.cols a [.cb b,.cns .u64 c,.ci .i64 d]) 3 3 0 a,[]⟩
def abV:List Code:=cP (nO yO)
def abW(b:Lv)(a:List Nat) :(List Bool)×(List (List Int))×(List Int)→aQ:=fun (c,d,e)=>⟨ao 26 [(3,.sl 0 3 3 0 (List.length a) (List.length a)),(9,.imm b (.fl a) 1 1 0 (List.length a)),(10,.int .i64 (((List.length a):Nat):Int)),(11,.int .i64 (0:Int))],[(0,.cols (List.length a) [.cb c,.cns .u64 d,.ci .i64 e])],1⟩
def Lc(a:List Nat) :T (((List Bool)×(List (List Int))×(List Int))⊕(eL)) :=
  .need (decide ((0:Int)≤(((List.length a):Nat):Int)))<|.need (decide ((((List.length a):Nat):Int)≤(((List.length a):Nat):Int)))<|.need (decide ((40:Int) * (((List.length a):Nat):Int)≤140737488355328))<|.need (dn .i64 (((List.length a):Nat):Int))<|.leaf (.inl ((List.replicate (List.length a) false),(List.replicate (List.length a) []),(List.replicate (List.length a) (0:Int))))
def DG(b:Lv)(a:List Nat) :Nat×(List Bool)×(List (List Int))×(List Int)→aQ:=fun (c,d,e,f)=>⟨ao 26 [(3,.sl 0 3 3 0 (List.length a) (List.length a)),(9,.imm b (.fl a) 1 1 0 (List.length a)),(10,.int .i64 (((List.length a):Nat):Int)),(11,.int .i64 ((c:Nat):Int))],[(0,.cols (List.length a) [.cb d,.cns .u64 e,.ci .i64 f])],1⟩
def Ld(a:List Nat) :(List Bool)×(List (List Int))×(List Int)→aQ:=fun (b,c,d)=>⟨ao 26 [(3,.sl 0 3 3 0 (List.length a) (List.length a))],[(0,.cols (List.length a) [.cb b,.cns .u64 c,.ci .i64 d])],1⟩
def XG:List Code:=cP (dD ((((abV.drop 3).take 1)).headD .skip))
def abX(b:Lv)(a:List Nat)(c:Nat) :(List Bool)×(List (List Int))×(List Int)→aQ:=fun (d,e,f)=>⟨ao 26 [(3,.sl 0 3 3 0 (List.length a) (List.length a)),(9,.imm b (.fl a) 1 1 0 (List.length a)),(10,.int .i64 (((List.length a):Nat):Int)),(11,.int .i64 ((c:Nat):Int))],[(0,.cols (List.length a) [.cb d,.cns .u64 e,.ci .i64 f])],1⟩
def uJ(b:List Nat)(a:Nat)(c:List Bool)(d:List (List Int))(e:List Int) :T (((List Bool)×(List (List Int))×(List Int))⊕(((List Bool)×(List (List Int))×(List Int))⊕(eL))) :=
  .ask (decide (((a:Nat):Int) < (((List.length b):Nat):Int)))
    (.need (gD ((a:Nat):Int) (List.length b))<|.need (im a (List.length b))<|.need (z4 (l8 (List.getD b a 0)))<|.need (gD ((a:Nat):Int) (List.length b))<|.need (im a (List.length c))<|.need (im a (List.length d))<|.need (decide ((ul (l8 (List.getD b a 0)))+(um (l8 (List.getD b a 0)))≤List.length (uk (l8 (List.getD b a 0)))))<|.need (im a (List.length e))<|.leaf (.inl ((List.set c a (yZ (l8 (List.getD b a 0)))),(List.set d a (List.take (um (l8 (List.getD b a 0))) (List.drop (ul (l8 (List.getD b a 0))) (uk (l8 (List.getD b a 0)))))),(List.set e a (y4 (l8 (List.getD b a 0)))))))
    (.leaf (.inr (.inl (c,d,e))))
def XH(a:Nat)(b:List Bool)(c:List (List Int))(d:List Int) :T ((Nat×(List Bool)×(List (List Int))×(List Int))⊕(((List Bool)×(List (List Int))×(List Int))⊕(eL))) :=
  .need (dn .i64 (((a+1):Nat):Int))<|.leaf (.inl ((a+1),b,c,d))
def Av(b:List Nat) :Nat×(List Bool)×(List (List Int))×(List Int)→Option ((Nat×(List Bool)×(List (List Int))×(List Int))⊕(((List Bool)×(List (List Int))×(List Int))⊕(eL))):=fun (a,c,d,e) =>
  aE ((uJ b a c d e).run) fun (f,g,h) =>
  (XH a f g h).run
theorem XI(b:Lv)(a:List Nat)(c:Nat)(d:List Bool)(e:List (List Int))(f:List Int) :Sg prog [] XG (DG b a (c,d,e,f)) (Av a (c,d,e,f)) (DG b a) (cL 0 (Ld a) zf):=by
  unfold Av;exact Sg.cut 3 (ay xc) (bk oN (abX b a c) [⟨[],[0],[3,9,10,11]⟩,⟨[],[0],[3]⟩]) (fun ⟨g,h,i⟩=>bk oN _ [⟨[],[0],[3,9,10,11]⟩])
def XJ(a:List Nat)(b:List Bool)(c:List (List Int))(d:List Int) :T ((Empty)⊕(eL)) :=
  .leaf (.inr (.r0 (List.length a) b c d))
def aC(a:List Nat) :Option eL:=jR (aE ((Lc a).run) fun (b,c,d) =>
  aE (dc (Av a) (0,b,c,d)) fun (e,f,g) =>
  (XJ a e f g).run)
theorem abY(b:Lv)(a:List Nat){x:eL}(h:aC a=some x) :aw prog yO [] [.imm b (.fl a) 1 1 0 (List.length a)] (Gi x) :=
  kp true Gi zf h (Sg.cut 3 xc (bk oN (abW b a) [⟨[],[48],[3,9,10,11]⟩]) (fun ⟨i,j,k⟩=>Sg.cut 1 xc (BM ⟨[],[0],[3,9,10,11]⟩ (DG b a) (Ld a) 0 xc (abU _) (fun ⟨d,e,f,g⟩=>XI b a d e f g)) (fun ⟨l,m,n⟩=>bk oN _ [⟨[],[0],[2]⟩])))
    (fun x=>by cases x with | r0 c o p q=>exact jT [.sl 0 3 3 0 c c])
def iM:Option eL→Bool
  | some _=>true
  | none=>false
def bb:Option eL→Nat
  | some (.r0 x _ _ _)=>x
  | _=>0
def c7:Option eL→List Bool
  | some (.r0 _ x _ _)=>x
  | _=>[]
def c8:Option eL→List (List Int)
  | some (.r0 _ _ x _)=>x
  | _=>[]
def c9:Option eL→List Int
  | some (.r0 _ _ _ x)=>x
  | _=>[]
theorem abZ{x:Option eL}(h:iM x=true) :x=some (.r0 (bb x) (c7 x) (c8 x) (c9 x)):=by
  unfold iM at h
  split at h <;> first | rfl | (cases h;done) | (rename_i y;cases y;rfl)
def Pu:aL:=bJ yO (.cons .fl .nil) fun t=>(fun q=>[⟨Gi (.r0 (bb q) (c7 q) (c8 q) (c9 q)),[iM q]⟩]) (aC t.1.2)
theorem Uf:aV prog Pu:=aR fun t=>(aS (fun h=>abY t.1.1 t.1.2 (abZ h)) aZ)
def Pv:List aL:=Pu :: Pt
theorem ma:bd prog (bf Pv):=au Uf oN
end
end Go.Plb.Seat
