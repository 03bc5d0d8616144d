/-
  Part 3 of what the claim leans on: an evaluator of the model, proved sound; the contracts of the functions.
-/
import Derived.Test.YthikcnkmglbbbaaGreatDoorA2
namespace Go.Plb.Seat
open Go Go.Plb
set_option linter.unusedVariables false
set_option maxRecDepth 100000
noncomputable section
inductive dm where
  | r0 (a:Int)
def CU:dm→AE×aM
  | .r0 a=>(.ret,⟨an 14 [(2,.int .i64 a)],[],0⟩)
def mF:dm→jv
  | .r0 a=>⟨.int .i64 a,[]⟩
def B5:List Code:=bS (bB dl)
def lZ(a:Int) :T ((Empty)⊕(dm)) :=
  .ask (a == (0:Int))
    (.leaf (.inr (.r0 (64:Int))))
    (.need (decide ((0:Int)≤(58:Int)))<|.need (iC (Int.fdiv (IntKind.u64.wrap ((fv .and .u64 a (IntKind.u64.wrap ((0:Int) - a))) * (285870213051353865:Int))) (2 ^ (min (Int.toNat (58:Int)) (IntKind.u64.bits)))) 64)<|.need (jt (lL (lL 0 (Zh (Int.toNat (Int.fdiv (IntKind.u64.wrap ((fv .and .u64 a (IntKind.u64.wrap ((0:Int) - a))) * (285870213051353865:Int))) (2 ^ (min (Int.toNat (58:Int)) (IntKind.u64.bits))))) 1)) 0) (List.length bu))<|.leaf (.inr (.r0 (IntKind.i64.wrap (List.getD bu (lL (lL 0 (Zh (Int.toNat (Int.fdiv (IntKind.u64.wrap ((fv .and .u64 a (IntKind.u64.wrap ((0:Int) - a))) * (285870213051353865:Int))) (2 ^ (min (Int.toNat (58:Int)) (IntKind.u64.bits))))) 1)) 0) 0)))))
def dM(a:Int) :Option dm:=me ((lZ a).run)
theorem B6(b:Int){x:dm}(h:dM b=some x) :ax prog dl [] [.int .u64 b] (mF x) :=
  Sg.contract false mF (by kernel_rfl:prog.funcs[dl]? = some (FN dl)) (by kernel_rfl:(FN dl).body=some (bB dl)) (Sg.seg (C:=C0) ap apG 60 B5 (aT (FN dl) [] [.int .u64 b]) (lZ b) (fun a:Empty=>a.elim) CU [⟨[],[],[2]⟩,⟨[],[],[2]⟩] (by kernel_rfl))
    (fun x=>by cases x with | r0 c=>exact ⟨.inr rfl,[.int .i64 c],[],by kernel_rfl,trivial,by kernel_rfl⟩) h
def fw:Option dm→Bool
  | some _=>true
  | none=>false
def e8:Option dm→Int
  | some (.r0 x)=>x
  | _=>0
theorem B7{x:Option dm}(h:fw x=true) :x=some (.r0 (e8 x)):=by
  unfold fw at h
  split at h <;> first | rfl | (cases h;done) | (rename_i y;cases y;rfl)
def sQ:aL:=cn dl (.cons (.int .u64) .nil) fun t=>[⟨mF (.r0 (e8 (dM t.1))),[fw (dM t.1)]⟩]
theorem zG:aV prog sQ:=aP fun t=>(aQ (fun h=>B6 t.1 (B7 h)) ba)
def sR:List aL:=sQ :: L3
theorem ku:bf prog (bi sR):=aw zG apG
inductive fc where
  | r0 (a:Int) (b:Int)
def xW:fc→AE×aM
  | .r0 a b=>(.ret,⟨an 51 [(4,.int .u64 a),(5,.int .u64 b)],[],0⟩)
theorem QV:l9 xW:=by intro x;cases x <;> (intro h;cases h)
def xX:fc→jv
  | .r0 a b=>⟨.tup [.int .u64 a,.int .u64 b],[]⟩
def D4:List Code:=bS (bB hZ)
def D5(a:Int)(b:Int) :Int×Int×Int×Int→aM:=fun (c,d,e,f)=>⟨an 51 [(0,.int .u64 a),(1,.int .u64 b),(6,.int .u64 c),(7,.int .u64 d),(9,.int .u64 e),(11,.int .u64 f)],[],0⟩
def wL(a:Int)(b:Int) :T ((Int×Int×Int×Int)⊕(fc)) :=
  .need (decide ((0:Int)≤(32:Int)))<|.need (decide ((0:Int)≤(32:Int)))<|.need (decide ((0:Int)≤(32:Int)))<|.leaf (.inl ((fv .and .u64 a (4294967295:Int)),(Int.fdiv a (2 ^ (min (Int.toNat (32:Int)) (IntKind.u64.bits)))),(Int.fdiv b (2 ^ (min (Int.toNat (32:Int)) (IntKind.u64.bits)))),(IntKind.u64.wrap ((IntKind.u64.wrap ((Int.fdiv a (2 ^ (min (Int.toNat (32:Int)) (IntKind.u64.bits)))) * (fv .and .u64 b (4294967295:Int))))+(Int.fdiv (IntKind.u64.wrap ((fv .and .u64 a (4294967295:Int)) * (fv .and .u64 b (4294967295:Int)))) (2 ^ (min (Int.toNat (32:Int)) (IntKind.u64.bits))))))))
def qX(c:Int)(d:Int)(e:Int)(f:Int)(a:Int)(b:Int) :T ((Empty)⊕(fc)) :=
  .need (decide ((0:Int)≤(32:Int)))<|.need (decide ((0:Int)≤(32:Int)))<|.leaf (.inr (.r0 (IntKind.u64.wrap ((IntKind.u64.wrap ((IntKind.u64.wrap (f * a))+(Int.fdiv b (2 ^ (min (Int.toNat (32:Int)) (IntKind.u64.bits))))))+(Int.fdiv (IntKind.u64.wrap ((fv .and .u64 b (4294967295:Int))+(IntKind.u64.wrap (e * a)))) (2 ^ (min (Int.toNat (32:Int)) (IntKind.u64.bits)))))) (IntKind.u64.wrap (c * d))))
def ff(a:Int)(b:Int) :Option fc:=me (aH ((wL a b).run) fun (c,d,e,f) =>
  (qX a b c d e f).run)
theorem QW(b:Int)(c:Int){x:fc}(h:ff b c=some x) :ax prog hZ [] [.int .u64 b,.int .u64 c] (xX x) :=
  Sg.contract false xX (by kernel_rfl:prog.funcs[hZ]? = some (FN hZ)) (by kernel_rfl:(FN hZ).body=some (bB hZ)) (Sg.cut 7 QV (Sg.seg (C:=C0) ap ku 60 (D4.take 7) (aT (FN hZ) [] [.int .u64 b,.int .u64 c]) (wL b c) (D5 b c) xW [⟨[],[],[0,1,6,7,9,11]⟩] (by kernel_rfl)) (fun a=>by obtain ⟨d,e,f,g⟩:=a;exact Sg.seg (C:=C0) ap ku 60 (D4.drop 7) (D5 b c (d,e,f,g)) (qX b c d e f g) (fun a:Empty=>a.elim) xW [⟨[],[],[4,5]⟩] (by kernel_rfl)))
    (fun x=>by cases x with | r0 i j=>exact ⟨.inr rfl,[.int .u64 i,.int .u64 j],[],by kernel_rfl,trivial,by kernel_rfl⟩) h
def nI:Option fc→Bool
  | some _=>true
  | none=>false
def pb:Option fc→Int
  | some (.r0 x _)=>x
  | _=>0
def jb:Option fc→Int
  | some (.r0 _ x)=>x
  | _=>0
theorem QX{x:Option fc}(h:nI x=true) :x=some (.r0 (pb x) (jb x)):=by
  unfold nI at h
  split at h <;> first | rfl | (cases h;done) | (rename_i y;cases y;rfl)
def FW:aL:=cn hZ (.cons (.int .u64) (.cons (.int .u64) .nil)) fun t=>[⟨xX (.r0 (pb (ff t.1 t.2.1)) (jb (ff t.1 t.2.1))),[nI (ff t.1 t.2.1)]⟩]
theorem Lc:aV prog FW:=aP fun t=>(aQ (fun h=>QW t.1 t.2.1 (QX h)) ba)
def FX:List aL:=FW :: sR
theorem lu:bf prog (bi FX):=aw Lc ku
inductive kv where
  | r0 (a:List Int) (b:Nat)
def wM(a:Lv) :kv→AE×aM
  | .r0 b c=>(.ret,⟨an 21 [(2,.imm a (.ns .u64 b) 1 1 0 c)],[],0⟩)
theorem FY{a:Lv} :l9 (wM a):=by intro x;cases x <;> (intro h;cases h)
theorem aiM{a:Lv}(id:Nat) :rL id (wM a):=by intro x;cases x <;> (intro h;cases h)
def QY(a:Lv) :kv→jv
  | .r0 b c=>⟨.imm a (.ns .u64 b) 1 1 0 c,[]⟩
def BI:List Code:=bS (bB gd)
def Wq(b:Lv)(a:List Int)(_:Unit) :aM:=⟨an 21 [(0,.imm b (.ns .u64 a) 1 1 0 (List.length a))],[],0⟩
def Wr:T ((Unit)⊕(kv)) :=
  .leaf (.inl ())
def xd(a:Lv)(b:List Int)(c:Nat) :aM:=⟨an 21 [(0,.imm a (.ns .u64 b) 1 1 0 c)],[],0⟩
def BJ(a:Lv)(b:List Int)(c:Nat) :aM:=⟨an 21 [(0,.imm a (.ns .u64 b) 1 1 0 c)],[],0⟩
def IK:List Code:=bS (bW ((((BI.drop 1).take 1)).headD .skip))
def Ws(a:Lv)(b:List Int)(c:Nat)(d:Bool) :aM:=⟨an 21 [(0,.imm a (.ns .u64 b) 1 1 0 c),(14,.bool false d)],[],0⟩
def ud(b:List Int)(a:Nat) :T ((Bool)⊕((Nat)⊕(kv))) :=
  .ask (decide (((a:Nat):Int) > (0:Int)))
    (.need (ej .i64 (((a:Nat):Int) - (1:Int)))<|.need (iC (((a:Nat):Int) - (1:Int)) a)<|.need (jt (Int.toNat (((a:Nat):Int) - (1:Int))) (List.length b))<|.leaf (.inl ((List.getD b (Int.toNat (((a:Nat):Int) - (1:Int))) 0) == (0:Int))))
    (.leaf (.inl false))
def IL(a:Nat)(b:Bool) :T ((Nat)⊕((Nat)⊕(kv))) :=
  .ask b
    (.need (ej .i64 (((a:Nat):Int) - (1:Int)))<|.need (NW (((a:Nat):Int) - (1:Int)) a)<|.need (NW (0:Int) (Int.toNat (((a:Nat):Int) - (1:Int))))<|.leaf (.inl (Int.toNat (((a:Nat):Int) - (1:Int)))))
    (.leaf (.inr (.inl a)))
def IM(b:List Int) :Nat→Option ((Nat)⊕((Nat)⊕(kv))):=fun a =>
  aH ((ud b a).run) fun c =>
  (IL a c).run
theorem agc(a:Lv)(b:List Int)(c:Nat) :Sg prog [] IK (xd a b c) (IM b c) (xd a b) (aS 0 (BJ a b) (wM a)):=by
  unfold IM;exact Sg.cut 1 (aN FY) (Sg.seg (C:=C0) ap lu 60 (IK.take 1) (xd a b c) (ud b c) (Ws a b c) (aS 0 (BJ a b) (wM a)) [⟨[],[],[0,14]⟩,⟨[],[],[0,14]⟩] (by kernel_rfl)) (fun d=>by exact Sg.seg (C:=C0) ap lu 60 (IK.drop 1) (Ws a b c d) (IL c d) (xd a b) (aS 0 (BJ a b) (wM a)) [⟨[],[],[0]⟩,⟨[],[],[0]⟩] (by kernel_rfl))
def aiN(a:Lv)(b:List Int) :Nat→aM:=BJ a b
def Ss(a:List Int)(b:Nat) :T ((Empty)⊕(kv)) :=
  .leaf (.inr (.r0 a b))
def aF(a:List Int) :Option kv:=me (aH ((Wr).run) fun _ =>
  aH (eh (IM a) (List.length a)) fun b =>
  (Ss a b).run)
theorem aiO(c:Lv)(b:List Int){x:kv}(h:aF b=some x) :ax prog gd [] [.imm c (.ns .u64 b) 1 1 0 (List.length b)] (QY c x) :=
  Sg.contract false (QY c) (by kernel_rfl:prog.funcs[gd]? = some (FN gd)) (by kernel_rfl:(FN gd).body=some (bB gd)) (Sg.cut 1 FY (Sg.seg (C:=C0) ap lu 60 (BI.take 1) (aT (FN gd) [] [.imm c (.ns .u64 b) 1 1 0 (List.length b)]) (Wr) (Wq c b) (wM c) [⟨[],[],[0]⟩] (by kernel_rfl)) (fun a=>by cases a;exact Sg.cut 1 FY (Sg.pre ⟨[],[],[0]⟩ rfl (by kernel_rfl:NS.on ⟨[],[],[0]⟩ (Wq c b ())=(xd c b) (List.length b)) (cw (I:=(xd c b)) (J:=(BJ c b)) (id:=0) (by kernel_rfl:((BI.drop 1).take 1) = [.block 0 (.loop (bW ((((BI.drop 1).take 1)).headD .skip)))]) FY (aiM _) (fun s=>by exact agc c b s) (List.length b))) (fun d=>by exact Sg.seg (C:=C0) ap lu 60 ((BI.drop 1).drop 1) (aiN c b d) (Ss b d) (fun a:Empty=>a.elim) (wM c) [⟨[],[],[2]⟩] (by kernel_rfl))))
    (fun x=>by cases x with | r0 e f=>exact ⟨.inr rfl,[.imm c (.ns .u64 e) 1 1 0 f],[],by kernel_rfl,trivial,by kernel_rfl⟩) h
def c7:Option kv→Bool
  | some _=>true
  | none=>false
def be:Option kv→List Int
  | some (.r0 x _)=>x
  | _=>[]
def aO:Option kv→Nat
  | some (.r0 _ x)=>x
  | _=>0
theorem aiP{x:Option kv}(h:c7 x=true) :x=some (.r0 (be x) (aO x)):=by
  unfold c7 at h
  split at h <;> first | rfl | (cases h;done) | (rename_i y;cases y;rfl)
def Z7:aL:=cn gd (.cons (.ns .u64) .nil) fun t=>[⟨QY t.1.1 (.r0 (be (aF t.1.2)) (aO (aF t.1.2))),[c7 (aF t.1.2)]⟩]
theorem acH:aV prog Z7:=aP fun t=>(aQ (fun h=>aiO t.1.1 t.1.2 (aiP h)) ba)
def Z8:List aL:=Z7 :: FX
theorem GF:bf prog (bi Z8):=aw acH lu
inductive nJ where
  | r0 (a:Nat) (b:Nat) (c:List Int)
def QZ:nJ→AE×aM
  | .r0 a b c=>(.ret,⟨an 12 [(2,.sl 0 1 1 0 a a),(3,.int .i64 ((b:Nat):Int))],[(0,.ns .u64 c)],1⟩)
theorem aiQ:l9 QZ:=by intro x;cases x <;> (intro h;cases h)
def Q0:nJ→jv
  | .r0 a b c=>⟨.tup [.imm .free (.ns .u64 c) 1 1 0 a,.int .i64 ((b:Nat):Int)],[]⟩
def Wt:List Code:=bS (bB qQ)
def Wu(a:Lv) :Nat×(List Int)×Nat→aM:=fun (b,c,d)=>⟨an 12 [(1,.ptr 0 1 0 0),(4,.int .i64 ((b:Nat):Int))],[(0,.vs [.imm a (.ns .u64 c) 1 1 0 d])],1⟩
def FZ(a:List Int) :T ((Nat×(List Int)×Nat)⊕(nJ)) :=
  .ask (decide ((0:Int) < (1:Int)))
    (.need (iC (0:Int) 1)<|.need (aR 0 (List.length a) a)<|.need (c7 (aF (aa 0 (List.length a) a)))<|.ask (decide ((((aO (aF (aa 0 (List.length a) a))):Nat):Int) > (4096:Int)))
      (.leaf (.inl (2,(be (aF (aa 0 (List.length a) a))),(aO (aF (aa 0 (List.length a) a))))))
      (.need (ej .i64 (1:Int))<|.ask (decide ((1:Int) < (1:Int)))
        (.fail)
        (.leaf (.inl (0,(be (aF (aa 0 (List.length a) a))),(aO (aF (aa 0 (List.length a) a))))))))
    (.fail)
def F0(c:Nat)(a:List Int)(b:Nat) :T ((Empty)⊕(nJ)) :=
  .ask (((c:Nat):Int) != (0:Int))
    (.leaf (.inr (.r0 0 c ([]:List Int))))
    (.need (aR 0 b a)<|.need (zr (List.length (aa 0 b a)))<|.leaf (.inr (.r0 (List.length (aa 0 b a)) 0 (aa 0 b a))))
def nK(a:List Int) :Option nJ:=me (aH ((FZ a).run) fun (b,c,d) =>
  (F0 b c d).run)
theorem aiR(c:Lv)(b:List Int){x:nJ}(h:nK b=some x) :ax prog qQ [] [.imm c (.ns .u64 b) 1 1 0 (List.length b)] (Q0 x) :=
  Sg.contract true Q0 (by kernel_rfl:prog.funcs[qQ]? = some (FN qQ)) (by kernel_rfl:(FN qQ).body=some (bB qQ)) (Sg.cut 2 aiQ (Sg.seg (C:=C0) ap GF 60 (Wt.take 2) (aT (FN qQ) [] [.imm c (.ns .u64 b) 1 1 0 (List.length b)]) (FZ b) (Wu c) QZ [⟨[],[0],[1,4]⟩,⟨[],[0],[1,4]⟩] (by kernel_rfl)) (fun a=>by obtain ⟨d,e,f⟩:=a;exact Sg.seg (C:=C0) ap GF 60 (Wt.drop 2) (Wu c (d,e,f)) (F0 d e f) (fun a:Empty=>a.elim) QZ [⟨[(.slot 2,.own 1 1 (.ns .u64 ([]:List Int)))],[81],[2,3]⟩,⟨[],[49],[2,3]⟩] (by kernel_rfl)))
    (fun x=>by cases x with | r0 g i j=>exact ⟨.inr rfl,[.sl 0 1 1 0 g g,.int .i64 ((i:Nat):Int)],[],by kernel_rfl,trivial,by kernel_rfl⟩) h
def BL:Option nJ→Bool
  | some _=>true
  | none=>false
def GG:Option nJ→Nat
  | some (.r0 x _ _)=>x
  | _=>0
def GH:Option nJ→Nat
  | some (.r0 _ x _)=>x
  | _=>0
def GI:Option nJ→List Int
  | some (.r0 _ _ x)=>x
  | _=>[]
theorem aiS{x:Option nJ}(h:BL x=true) :x=some (.r0 (GG x) (GH x) (GI x)):=by
  unfold BL at h
  split at h <;> first | rfl | (cases h;done) | (rename_i y;cases y;rfl)
def Z9:aL:=cn qQ (.cons (.ns .u64) .nil) fun t=>[⟨Q0 (.r0 (GG (nK t.1.2)) (GH (nK t.1.2)) (GI (nK t.1.2))),[BL (nK t.1.2)]⟩]
theorem acI:aV prog Z9:=aP fun t=>(aQ (fun h=>aiR t.1.1 t.1.2 (aiS h)) ba)
def aaa:List aL:=Z9 :: Z8
theorem u4:bf prog (bi aaa):=aw acI GF
inductive eF where
  | r0 (a:Nat) (b:Nat) (c:Nat) (d:List Int)
def pJ:eF→AE×aM
  | .r0 a b c d=>(.ret,⟨an 21 [(2,.sl 0 1 1 a b c)],[(0,.ns .u64 d)],1⟩)
theorem xY:l9 pJ:=by intro x;cases x <;> (intro h;cases h)
theorem aab(id:Nat) :rL id pJ:=by intro x;cases x <;> (intro h;cases h)
def GJ:eF→jv
  | .r0 a b c d=>⟨.sl 0 1 1 a b c,[some (.ns .u64 d)]⟩
def s9:List Code:=bS (bB gd)
def Ld(a:List Int)(b:Nat)(c:Nat)(d:Nat)(_:Unit) :aM:=⟨an 21 [(0,.sl 0 1 1 b c d)],[(0,.ns .u64 a)],1⟩
def Le:T ((Unit)⊕(eF)) :=
  .leaf (.inl ())
def qb(a:List Int)(b:Nat) :Nat×Nat→aM:=fun (c,d)=>⟨an 21 [(0,.sl 0 1 1 c d b)],[(0,.ns .u64 a)],1⟩
def ta(a:List Int)(b:Nat) :Nat×Nat→aM:=fun (c,d)=>⟨an 21 [(0,.sl 0 1 1 c d b)],[(0,.ns .u64 a)],1⟩
def B8:List Code:=bS (bW ((((s9.drop 1).take 1)).headD .skip))
def Lf(a:List Int)(b:Nat)(c:Nat)(d:Nat)(e:Bool) :aM:=⟨an 21 [(0,.sl 0 1 1 c d b),(14,.bool false e)],[(0,.ns .u64 a)],1⟩
def oi(b:List Int)(c:Nat)(a:Nat) :T ((Bool)⊕((Nat×Nat)⊕(eF))) :=
  .ask (decide (((a:Nat):Int) > (0:Int)))
    (.need (ej .i64 (((a:Nat):Int) - (1:Int)))<|.need (iC (((a:Nat):Int) - (1:Int)) a)<|.need (jt (lL c (Int.toNat (((a:Nat):Int) - (1:Int)))) (List.length b))<|.leaf (.inl ((List.getD b (lL c (Int.toNat (((a:Nat):Int) - (1:Int)))) 0) == (0:Int))))
    (.leaf (.inl false))
def B9(c:Nat)(b:Nat)(a:Nat)(d:Bool) :T ((Nat×Nat)⊕((Nat×Nat)⊕(eF))) :=
  .ask d
    (.need (ej .i64 (((a:Nat):Int) - (1:Int)))<|.need (NW (((a:Nat):Int) - (1:Int)) c)<|.need (NW (0:Int) (Int.toNat (((a:Nat):Int) - (1:Int))))<|.leaf (.inl ((lL b 0),(Int.toNat (((a:Nat):Int) - (1:Int))))))
    (.leaf (.inr (.inl (b,a))))
def Ca(c:List Int)(d:Nat) :Nat×Nat→Option ((Nat×Nat)⊕((Nat×Nat)⊕(eF))):=fun (a,b) =>
  aH ((oi c a b).run) fun e =>
  (B9 d a b e).run
theorem Yt(a:List Int)(b:Nat)(c:Nat)(d:Nat) :Sg prog [.ns .u64 a] B8 (qb a b (c,d)) (Ca a b (c,d)) (qb a b) (aS 0 (ta a b) pJ):=by
  unfold Ca;exact Sg.cut 1 (aN xY) (Sg.seg (C:=C0) ap u4 60 (B8.take 1) (qb a b (c,d)) (oi a c d) (Lf a b c d) (aS 0 (ta a b) pJ) [⟨[],[0],[0,14]⟩,⟨[],[0],[0,14]⟩] (by kernel_rfl)) (fun e=>by exact Sg.seg (C:=C0) ap u4 60 (B8.drop 1) (Lf a b c d e) (B9 b c d e) (qb a b) (aS 0 (ta a b) pJ) [⟨[],[0],[0]⟩,⟨[],[0],[0]⟩] (by kernel_rfl))
def aac(a:List Int)(b:Nat) :Nat×Nat→aM:=ta a b
def Kp(a:List Int)(b:Nat)(c:Nat)(d:Nat) :T ((Empty)⊕(eF)) :=
  .leaf (.inr (.r0 c d b a))
def bG(a:List Int)(c:Nat)(d:Nat)(b:Nat) :Option eF:=me (aH ((Le).run) fun _ =>
  aH (eh (Ca a b) (c,d)) fun (e,f) =>
  (Kp a b e f).run)
theorem aad(b:List Int)(d:Nat)(e:Nat)(c:Nat){x:eF}(h:bG b d e c=some x) :ax prog gd [.ns .u64 b] [.sl 0 1 1 d e c] (GJ x) :=
  Sg.contract false GJ (by kernel_rfl:prog.funcs[gd]? = some (FN gd)) (by kernel_rfl:(FN gd).body=some (bB gd)) (Sg.cut 1 xY (Sg.seg (C:=C0) ap u4 60 (s9.take 1) (aT (FN gd) [.ns .u64 b] [.sl 0 1 1 d e c]) (Le) (Ld b d e c) pJ [⟨[],[0],[0]⟩] (by kernel_rfl)) (fun a=>by cases a;exact Sg.cut 1 xY (Sg.pre ⟨[],[0],[0]⟩ rfl (by kernel_rfl:NS.on ⟨[],[0],[0]⟩ (Ld b d e c ())=(qb b c) (d,e)) (cw (I:=(qb b c)) (J:=(ta b c)) (id:=0) (by kernel_rfl:((s9.drop 1).take 1) = [.block 0 (.loop (bW ((((s9.drop 1).take 1)).headD .skip)))]) xY (aab _) (fun s=>by obtain ⟨i,j⟩:=s;exact Yt b c i j) (d,e))) (fun a=>by obtain ⟨f,g⟩:=a;exact Sg.seg (C:=C0) ap u4 60 ((s9.drop 1).drop 1) (aac b c (f,g)) (Kp b c f g) (fun a:Empty=>a.elim) pJ [⟨[],[0],[2]⟩] (by kernel_rfl))))
    (fun x=>by cases x with | r0 k l m n=>exact ⟨.inr rfl,[.sl 0 1 1 k l m],[],by kernel_rfl,trivial,by kernel_rfl⟩) h
def lw:Option eF→Bool
  | some _=>true
  | none=>false
def kw:Option eF→Nat
  | some (.r0 x _ _ _)=>x
  | _=>0
def kB:Option eF→Nat
  | some (.r0 _ x _ _)=>x
  | _=>0
def kC:Option eF→Nat
  | some (.r0 _ _ x _)=>x
  | _=>0
def kD:Option eF→List Int
  | some (.r0 _ _ _ x)=>x
  | _=>[]
theorem aae{x:Option eF}(h:lw x=true) :x=some (.r0 (kw x) (kB x) (kC x) (kD x)):=by
  unfold lw at h
  split at h <;> first | rfl | (cases h;done) | (rename_i y;cases y;rfl)
def Oa:aL:=ait gd [.ns .u64] (.cons (.lsl 0) .nil) fun x t=>[⟨GJ (.r0 (kw (bG x.1 t.1.1 t.1.2.1 t.1.2.2)) (kB (bG x.1 t.1.1 t.1.2.1 t.1.2.2)) (kC (bG x.1 t.1.1 t.1.2.1 t.1.2.2)) (kD (bG x.1 t.1.1 t.1.2.1 t.1.2.2))),[lw (bG x.1 t.1.1 t.1.2.1 t.1.2.2)]⟩]
theorem Vs:aV prog Oa:=ZX fun x t=>(ND (fun h=>aad x.1 t.1.1 t.1.2.1 t.1.2.2 (aae h)) ZY)
def Ob:List aL:=Oa :: aaa
theorem zH:bf prog (bi Ob):=aw Vs u4
inductive rN where
  | r0 (a:Nat) (b:Nat) (c:Nat) (d:List Int)
def aaf:rN→AE×aM
  | .r0 a b c d=>(.ret,⟨an 6 [(2,.sl 0 1 1 a b c)],[(0,.ns .u64 d)],1⟩)
theorem amU:l9 aaf:=by intro x;cases x <;> (intro h;cases h)
def aag:rN→jv
  | .r0 a b d c=>⟨.imm .free (.ns .u64 c) 1 1 a b,[]⟩
def aeJ:List Code:=bS (bB xN)
def aeK:Nat×Nat×Nat×(List Int)→aM:=fun (a,b,c,d)=>⟨an 6 [(2,.sl 0 1 1 a b c)],[(0,.ns .u64 d)],1⟩
def Vt(a:Int) :T ((Nat×Nat×Nat×(List Int))⊕(rN)) :=
  .need (lw (bG [a] 0 1 1))<|.leaf (.inl ((kw (bG [a] 0 1 1)),(kB (bG [a] 0 1 1)),(kC (bG [a] 0 1 1)),(kD (bG [a] 0 1 1))))
def aeL(a:Nat)(b:Nat)(c:Nat)(d:List Int) :T ((Empty)⊕(rN)) :=
  .leaf (.inr (.r0 a b c d))
def cd(a:Int) :Option rN:=me (aH ((Vt a).run) fun (b,c,d,e) =>
  (aeL b c d e).run)
theorem amV(b:Int){x:rN}(h:cd b=some x) :ax prog xN [] [.int .u64 b] (aag x) :=
  Sg.contract true aag (by kernel_rfl:prog.funcs[xN]? = some (FN xN)) (by kernel_rfl:(FN xN).body=some (bB xN)) (Sg.cut 2 amU (Sg.seg (C:=C0) ap zH 60 (aeJ.take 2) (aT (FN xN) [] [.int .u64 b]) (Vt b) aeK aaf [⟨[],[32],[2]⟩] (by kernel_rfl)) (fun a=>by obtain ⟨c,d,e,f⟩:=a;exact Sg.seg (C:=C0) ap zH 60 (aeJ.drop 2) (aeK (c,d,e,f)) (aeL c d e f) (fun a:Empty=>a.elim) aaf [⟨[],[0],[2]⟩] (by kernel_rfl)))
    (fun x=>by cases x with | r0 g i j k=>exact ⟨.inr rfl,[.sl 0 1 1 g i j],[],by kernel_rfl,trivial,by kernel_rfl⟩) h
def zI:Option rN→Bool
  | some _=>true
  | none=>false
def eT:Option rN→Nat
  | some (.r0 x _ _ _)=>x
  | _=>0
def eU:Option rN→Nat
  | some (.r0 _ x _ _)=>x
  | _=>0
def Wv:Option rN→Nat
  | some (.r0 _ _ x _)=>x
  | _=>0
def eV:Option rN→List Int
  | some (.r0 _ _ _ x)=>x
  | _=>[]
theorem amW{x:Option rN}(h:zI x=true) :x=some (.r0 (eT x) (eU x) (Wv x) (eV x)):=by
  unfold zI at h
  split at h <;> first | rfl | (cases h;done) | (rename_i y;cases y;rfl)
def aiT:aL:=cn xN (.cons (.int .u64) .nil) fun t=>[⟨aag (.r0 (eT (cd t.1)) (eU (cd t.1)) (Wv (cd t.1)) (eV (cd t.1))),[zI (cd t.1)]⟩]
theorem aiU:aV prog aiT:=aP fun t=>(aQ (fun h=>amV t.1 (amW h)) ba)
def aiV:List aL:=aiT :: Ob
theorem F1:bf prog (bi aiV):=aw aiU zH
inductive qc where
  | r0 (a:Int)
def DQ:qc→AE×aM
  | .r0 a=>(.ret,⟨an 45 [(4,.int .i64 a)],[],0⟩)
theorem Q2:l9 DQ:=by intro x;cases x <;> (intro h;cases h)
theorem akI(id:Nat) :rL id DQ:=by intro x;cases x <;> (intro h;cases h)
def Vu:qc→jv
  | .r0 a=>⟨.int .i64 a,[]⟩
def D6:List Code:=bS (bB xa)
def aah(c:Lv)(a:List Int)(d:Lv)(b:List Int)(e:Int) :aM:=⟨an 45 [(0,.imm c (.ns .u64 a) 1 1 0 (List.length a)),(1,.imm d (.ns .u64 b) 1 1 0 (List.length b)),(5,.int .i64 e)],[],0⟩
def D7(a:List Int)(b:List Int) :T ((Int)⊕(qc)) :=
  .ask (decide ((((List.length a):Nat):Int) < (((List.length b):Nat):Int)))
    (.leaf (.inr (.r0 (-1:Int))))
    (.ask (decide ((((List.length a):Nat):Int) > (((List.length b):Nat):Int)))
      (.leaf (.inr (.r0 (1:Int))))
      (.need (ej .i64 ((((List.length a):Nat):Int) - (1:Int)))<|.leaf (.inl ((((List.length a):Nat):Int) - (1:Int)))))
def zJ(c:Lv)(a:List Int)(d:Lv)(b:List Int)(e:Int) :aM:=⟨an 45 [(0,.imm c (.ns .u64 a) 1 1 0 (List.length a)),(1,.imm d (.ns .u64 b) 1 1 0 (List.length b)),(5,.int .i64 e)],[],0⟩
def IN(_:Unit) :aM:=⟨an 45 [],[],0⟩
def aai:List Code:=bS (bW ((((D6.drop 3).take 1)).headD .skip))
def zK(b:List Int)(c:List Int)(a:Int) :T ((Int)⊕((Unit)⊕(qc))) :=
  .ask (decide (a ≥ (0:Int)))
    (.need (iC a (List.length b))<|.need (jt (Int.toNat a) (List.length b))<|.need (iC a (List.length c))<|.need (jt (Int.toNat a) (List.length c))<|.ask (decide ((List.getD b (Int.toNat a) 0) < (List.getD c (Int.toNat a) 0)))
      (.leaf (.inr (.inr (.r0 (-1:Int)))))
      (.need (iC a (List.length b))<|.need (jt (Int.toNat a) (List.length b))<|.need (iC a (List.length c))<|.need (jt (Int.toNat a) (List.length c))<|.ask (decide ((List.getD b (Int.toNat a) 0) > (List.getD c (Int.toNat a) 0)))
        (.leaf (.inr (.inr (.r0 (1:Int)))))
        (.need (ej .i64 (a - (1:Int)))<|.leaf (.inl (a - (1:Int))))))
    (.leaf (.inr (.inl ())))
def F2(a:List Int)(b:List Int) :Int→Option ((Int)⊕((Unit)⊕(qc))):=fun c =>
  (zK a b c).run
theorem aiW(c:Lv)(a:List Int)(d:Lv)(b:List Int)(e:Int) :Sg prog [] aai (zJ c a d b e) (F2 a b e) (zJ c a d b) (aS 1 IN DQ):=by
  unfold F2;exact Sg.seg (C:=C0) ap F1 60 aai (zJ c a d b e) (zK a b e) (zJ c a d b) (aS 1 IN DQ) [⟨[],[],[4]⟩,⟨[],[],[4]⟩,⟨[],[],[0,1,5]⟩,⟨[],[],[]⟩] (by kernel_rfl)
def akJ:Unit→aM:=IN
def Ww:T ((Empty)⊕(qc)) :=
  .leaf (.inr (.r0 (0:Int)))
def xe(a:List Int)(b:List Int) :Option qc:=me (aH ((D7 a b).run) fun c =>
  aH (eh (F2 a b) c) fun _ =>
  (Ww).run)
theorem akK(d:Lv)(b:List Int)(e:Lv)(c:List Int){x:qc}(h:xe b c=some x) :ax prog xa [] [.imm d (.ns .u64 b) 1 1 0 (List.length b),.imm e (.ns .u64 c) 1 1 0 (List.length c)] (Vu x) :=
  Sg.contract false Vu (by kernel_rfl:prog.funcs[xa]? = some (FN xa)) (by kernel_rfl:(FN xa).body=some (bB xa)) (Sg.cut 3 Q2 (Sg.seg (C:=C0) ap F1 60 (D6.take 3) (aT (FN xa) [] [.imm d (.ns .u64 b) 1 1 0 (List.length b),.imm e (.ns .u64 c) 1 1 0 (List.length c)]) (D7 b c) (aah d b e c) DQ [⟨[],[],[4]⟩,⟨[],[],[4]⟩,⟨[],[],[0,1,5]⟩] (by kernel_rfl)) (fun f=>by exact Sg.cut 1 Q2 (Sg.pre ⟨[],[],[0,1,5]⟩ rfl (by kernel_rfl:NS.on ⟨[],[],[0,1,5]⟩ (aah d b e c f)=(zJ d b e c) f) (cw (I:=(zJ d b e c)) (J:=(IN)) (id:=1) (by kernel_rfl:((D6.drop 3).take 1) = [.block 1 (.loop (bW ((((D6.drop 3).take 1)).headD .skip)))]) Q2 (akI _) (fun s=>by exact aiW d b e c s) f)) (fun a=>by cases a;exact Sg.seg (C:=C0) ap F1 60 ((D6.drop 3).drop 1) (akJ ()) (Ww) (fun a:Empty=>a.elim) DQ [⟨[],[],[4]⟩] (by kernel_rfl))))
    (fun x=>by cases x with | r0 g=>exact ⟨.inr rfl,[.int .i64 g],[],by kernel_rfl,trivial,by kernel_rfl⟩) h
def D8:Option qc→Bool
  | some _=>true
  | none=>false
def CV:Option qc→Int
  | some (.r0 x)=>x
  | _=>0
theorem akL{x:Option qc}(h:D8 x=true) :x=some (.r0 (CV x)):=by
  unfold D8 at h
  split at h <;> first | rfl | (cases h;done) | (rename_i y;cases y;rfl)
def aeM:aL:=cn xa (.cons (.ns .u64) (.cons (.ns .u64) .nil)) fun t=>[⟨Vu (.r0 (CV (xe t.1.2 t.2.1.2))),[D8 (xe t.1.2 t.2.1.2)]⟩]
theorem agd:aV prog aeM:=aP fun t=>(aQ (fun h=>akK t.1.1 t.1.2 t.2.1.1 t.2.1.2 (akL h)) ba)
def aeN:List aL:=aeM :: aiV
theorem CW:bf prog (bi aeN):=aw agd F1
inductive qd where
  | r0 (a:Int) (b:Nat)
def NI:qd→AE×aM
  | .r0 a b=>(.ret,⟨an 15 [(4,.int .i64 a),(5,.int .i64 ((b:Nat):Int))],[],0⟩)
theorem aaj:l9 NI:=by intro x;cases x <;> (intro h;cases h)
def Vv:qd→jv
  | .r0 a b=>⟨.tup [.int .i64 a,.int .i64 ((b:Nat):Int)],[]⟩
def Q3:List Code:=bS (bB tY)
def aak(a:Lv)(b:Lv) :Nat×(List Int)×Nat×(List Int)×Nat→aM:=fun (c,d,e,f,g)=>⟨an 15 [(2,.ptr 0 1 0 0),(3,.ptr 1 1 0 0),(6,.int .i64 ((c:Nat):Int))],[(0,.vs [.imm a (.ns .u64 d) 1 1 0 e]),(1,.vs [.imm b (.ns .u64 f) 1 1 0 g])],2⟩
def Q4(a : List Int)(b : List Int) : T ((Nat × (List Int) × Nat × (List Int) × Nat) ⊕ (qd)) :=
  .ask (decide ((0:Int) < (2:Int)))
    (.need (iC (0:Int) 2)<|.need (aR 0 (List.length a) a)<|.need (c7 (aF (aa 0 (List.length a) a)))<|.ask (decide ((((aO (aF (aa 0 (List.length a) a))):Nat):Int) > (4096:Int)))
      (.leaf (.inl (2,(be (aF (aa 0 (List.length a) a))),(aO (aF (aa 0 (List.length a) a))),b,(List.length b))))
      (.need (ej .i64 (1:Int))<|.ask (decide ((1:Int) < (2:Int)))
        (.need (iC (1:Int) 2)<|.need (aR 0 (List.length b) b)<|.need (c7 (aF (aa 0 (List.length b) b)))<|.ask (decide ((((aO (aF (aa 0 (List.length b) b))):Nat):Int) > (4096:Int)))
          (.leaf (.inl (2,(be (aF (aa 0 (List.length a) a))),(aO (aF (aa 0 (List.length a) a))),(be (aF (aa 0 (List.length b) b))),(aO (aF (aa 0 (List.length b) b))))))
          (.need (ej .i64 (2:Int))<|.ask (decide ((2:Int) < (2:Int)))
            (.fail)
            (.leaf (.inl (0,(be (aF (aa 0 (List.length a) a))),(aO (aF (aa 0 (List.length a) a))),(be (aF (aa 0 (List.length b) b))),(aO (aF (aa 0 (List.length b) b))))))))
        (.fail)))
    (.fail)
def aal(a:Int) :aM:=⟨an 15 [(4,.int .i64 a),(5,.int .i64 (0:Int))],[],0⟩
def Q5(e:Nat)(a:List Int)(b:Nat)(c:List Int)(d:Nat) :T ((Int)⊕(qd)) :=
  .ask (((e:Nat):Int) != (0:Int))
    (.leaf (.inr (.r0 (0:Int) e)))
    (.need (aR 0 b a)<|.need (aR 0 d c)<|.need (D8 (xe (aa 0 b a) (aa 0 d c)))<|.leaf (.inl (CV (xe (aa 0 b a) (aa 0 d c)))))
def aam(a:Int) :T ((Empty)⊕(qd)) :=
  .leaf (.inr (.r0 a 0))
def ue(a:List Int)(b:List Int) :Option qd:=me (aH ((Q4 a b).run) fun (c,d,e,f,g) =>
  aH ((Q5 c d e f g).run) fun h =>
  (aam h).run)
theorem akM(d:Lv)(b:List Int)(e:Lv)(c:List Int){x:qd}(h:ue b c=some x) :ax prog tY [] [.imm d (.ns .u64 b) 1 1 0 (List.length b),.imm e (.ns .u64 c) 1 1 0 (List.length c)] (Vv x) :=
  Sg.contract true Vv (by kernel_rfl:prog.funcs[tY]? = some (FN tY)) (by kernel_rfl:(FN tY).body=some (bB tY)) (Sg.cut 2 aaj (Sg.seg (C:=C0) ap CW 60 (Q3.take 2) (aT (FN tY) [] [.imm d (.ns .u64 b) 1 1 0 (List.length b),.imm e (.ns .u64 c) 1 1 0 (List.length c)]) (Q4 b c) (aak d e) NI [⟨[],[0,16],[2,3,6]⟩,⟨[],[0,16],[2,3,6]⟩,⟨[],[0,16],[2,3,6]⟩] (by kernel_rfl)) (fun a=>by obtain ⟨f,g,i,j,k⟩:=a;exact Sg.cut 3 aaj (Sg.seg (C:=C0) ap CW 60 ((Q3.drop 2).take 3) (aak d e (f,g,i,j,k)) (Q5 f g i j k) aal NI [⟨[],[],[4,5]⟩,⟨[],[],[4,5]⟩] (by kernel_rfl)) (fun l=>by exact Sg.seg (C:=C0) ap CW 60 ((Q3.drop 2).drop 3) (aal l) (aam l) (fun a:Empty=>a.elim) NI [⟨[],[],[4,5]⟩] (by kernel_rfl))))
    (fun x=>by cases x with | r0 m n=>exact ⟨.inr rfl,[.int .i64 m,.int .i64 ((n:Nat):Int)],[],by kernel_rfl,trivial,by kernel_rfl⟩) h
def D9:Option qd→Bool
  | some _=>true
  | none=>false
def CX:Option qd→Int
  | some (.r0 x _)=>x
  | _=>0
def St:Option qd→Nat
  | some (.r0 _ x)=>x
  | _=>0
theorem akN{x:Option qd}(h:D9 x=true) :x=some (.r0 (CX x) (St x)):=by
  unfold D9 at h
  split at h <;> first | rfl | (cases h;done) | (rename_i y;cases y;rfl)
def aeO:aL:=cn tY (.cons (.ns .u64) (.cons (.ns .u64) .nil)) fun t=>[⟨Vv (.r0 (CX (ue t.1.2 t.2.1.2)) (St (ue t.1.2 t.2.1.2))),[D9 (ue t.1.2 t.2.1.2)]⟩]
theorem age:aV prog aeO:=aP fun t=>(aQ (fun h=>akM t.1.1 t.1.2 t.2.1.1 t.2.1.2 (akN h)) ba)
def aeP:List aL:=aeO :: aeN
theorem IO:bf prog (bi aeP):=aw age CW
inductive i0 where
  | r0 (a:List Int)
  | r1 (b:Nat) (c:Nat) (d:Nat) (e:List Int)
def Q6:i0→AE×aM
  | .r0 a=>(.ret,⟨an 10 [(2,.nsl),(3,.int .i64 (3:Int))],[(0,.ns .u64 a)],1⟩)
  | .r1 b c d e=>(.ret,⟨an 10 [(2,.sl 0 1 1 b c d),(3,.int .i64 (0:Int))],[(0,.ns .u64 e)],1⟩)
theorem aiX:l9 Q6:=by intro x;cases x <;> (intro h;cases h)
def IP:i0→jv
  | .r0 a=>⟨.tup [.nsl,.int .i64 (3:Int)],[some (.ns .u64 a)]⟩
  | .r1 b c d e=>⟨.tup [.sl 0 1 1 b c d,.int .i64 (0:Int)],[some (.ns .u64 e)]⟩
def Wx:List Code:=bS (bB gg)
def Wy:Nat×Nat×Nat×(List Int)→aM:=fun (a,b,c,d)=>⟨an 10 [(0,.sl 0 1 1 a b c)],[(0,.ns .u64 d)],1⟩
def Lg(a:List Int)(b:Nat)(c:Nat)(d:Nat) :T ((Nat×Nat×Nat×(List Int))⊕(i0)) :=
  .need (lw (bG a b c d))<|.leaf (.inl ((kw (bG a b c d)),(kB (bG a b c d)),(kC (bG a b c d)),(kD (bG a b c d))))
def Wz(c:Nat)(a:Nat)(d:Nat)(b:List Int) :T ((Empty)⊕(i0)) :=
  .ask (decide (((a:Nat):Int) > (4096:Int)))
    (.leaf (.inr (.r0 b)))
    (.leaf (.inr (.r1 c a d b)))
def eG(a:List Int)(b:Nat)(c:Nat)(d:Nat) :Option i0:=me (aH ((Lg a b c d).run) fun (e,f,g,h) =>
  (Wz e f g h).run)
theorem WA(b:List Int)(c:Nat)(d:Nat)(e:Nat){x:i0}(h:eG b c d e=some x) :ax prog gg [.ns .u64 b] [.sl 0 1 1 c d e] (IP x) :=
  Sg.contract false IP (by kernel_rfl:prog.funcs[gg]? = some (FN gg)) (by kernel_rfl:(FN gg).body=some (bB gg)) (Sg.cut 2 aiX (Sg.seg (C:=C0) ap IO 60 (Wx.take 2) (aT (FN gg) [.ns .u64 b] [.sl 0 1 1 c d e]) (Lg b c d e) Wy Q6 [⟨[],[0],[0]⟩] (by kernel_rfl)) (fun a=>by obtain ⟨f,g,i,j⟩:=a;exact Sg.seg (C:=C0) ap IO 60 (Wx.drop 2) (Wy (f,g,i,j)) (Wz f g i j) (fun a:Empty=>a.elim) Q6 [⟨[],[0],[2,3]⟩,⟨[],[0],[2,3]⟩] (by kernel_rfl)))
    (fun x=>by cases x with | r0 n=>exact ⟨.inr rfl,[.nsl,.int .i64 (3:Int)],[],by kernel_rfl,trivial,by kernel_rfl⟩ | r1 k l m o=>exact ⟨.inr rfl,[.sl 0 1 1 k l m,.int .i64 (0:Int)],[],by kernel_rfl,trivial,by kernel_rfl⟩) h
def BM:Option i0→Bool
  | some (.r0 _)=>true
  | _=>false
def Oc:Option i0→List Int
  | some (.r0 x)=>x
  | _=>[]
theorem aiY{x:Option i0}(h:BM x=true) :x=some (.r0 (Oc x)):=by
  unfold BM at h
  split at h <;> first | rfl | (cases h;done) | (rename_i y;cases y;rfl)
def BN:Option i0→Bool
  | some (.r1 _ _ _ _)=>true
  | _=>false
def Aw:Option i0→Nat
  | some (.r1 x _ _ _)=>x
  | _=>0
def Ax:Option i0→Nat
  | some (.r1 _ x _ _)=>x
  | _=>0
def Ay:Option i0→Nat
  | some (.r1 _ _ x _)=>x
  | _=>0
def Az:Option i0→List Int
  | some (.r1 _ _ _ x)=>x
  | _=>[]
theorem aiZ{x:Option i0}(h:BN x=true) :x=some (.r1 (Aw x) (Ax x) (Ay x) (Az x)):=by
  unfold BN at h
  split at h <;> first | rfl | (cases h;done) | (rename_i y;cases y;rfl)
def aan:aL:=ait gg [.ns .u64] (.cons (.lsl 0) .nil) fun x t=>[⟨IP (.r0 (Oc (eG x.1 t.1.1 t.1.2.1 t.1.2.2))),[BM (eG x.1 t.1.1 t.1.2.1 t.1.2.2)]⟩,⟨IP (.r1 (Aw (eG x.1 t.1.1 t.1.2.1 t.1.2.2)) (Ax (eG x.1 t.1.1 t.1.2.1 t.1.2.2)) (Ay (eG x.1 t.1.1 t.1.2.1 t.1.2.2)) (Az (eG x.1 t.1.1 t.1.2.1 t.1.2.2))),[BN (eG x.1 t.1.1 t.1.2.1 t.1.2.2)]⟩]
theorem acJ:aV prog aan:=ZX fun x t=>(ND (fun h=>WA x.1 t.1.1 t.1.2.1 t.1.2.2 (aiY h)) (ND (fun h=>WA x.1 t.1.1 t.1.2.1 t.1.2.2 (aiZ h)) ZY))
def aao:List aL:=aan :: aeP
theorem mU:bf prog (bi aao):=aw acJ IO
inductive gM where
  | r0 (a:Nat) (b:Nat) (c:Nat) (d:Nat) (e:List Int)
def sb:gM→AE×aM
  | .r0 a b c d e=>(.ret,⟨an 62 [(4,.sl 0 1 1 a b c),(5,.int .i64 ((d:Nat):Int))],[(0,.ns .u64 e)],1⟩)
theorem wN:l9 sb:=by intro x;cases x <;> (intro h;cases h)
theorem akO(id:Nat) :rL id sb:=by intro x;cases x <;> (intro h;cases h)
def Vw:gM→jv
  | .r0 a b e c d=>⟨.tup [.imm .free (.ns .u64 d) 1 1 a b,.int .i64 ((c:Nat):Int)],[]⟩
def qB:List Code:=bS (bB tX)
def aap(a:Lv)(b:Lv) :Nat×(List Int)×Nat×(List Int)×Nat→aM:=fun (c,d,e,f,g)=>⟨an 62 [(2,.ptr 0 1 0 0),(3,.ptr 1 1 0 0),(6,.int .i64 ((c:Nat):Int))],[(0,.vs [.imm a (.ns .u64 d) 1 1 0 e]),(1,.vs [.imm b (.ns .u64 f) 1 1 0 g])],2⟩
def Lh(a : List Int)(b : List Int) : T ((Nat × (List Int) × Nat × (List Int) × Nat) ⊕ (gM)) :=
  .ask (decide ((0:Int) < (2:Int)))
    (.need (iC (0:Int) 2)<|.need (aR 0 (List.length a) a)<|.need (c7 (aF (aa 0 (List.length a) a)))<|.ask (decide ((((aO (aF (aa 0 (List.length a) a))):Nat):Int) > (4096:Int)))
      (.leaf (.inl (2,(be (aF (aa 0 (List.length a) a))),(aO (aF (aa 0 (List.length a) a))),b,(List.length b))))
      (.need (ej .i64 (1:Int))<|.ask (decide ((1:Int) < (2:Int)))
        (.need (iC (1:Int) 2)<|.need (aR 0 (List.length b) b)<|.need (c7 (aF (aa 0 (List.length b) b)))<|.ask (decide ((((aO (aF (aa 0 (List.length b) b))):Nat):Int) > (4096:Int)))
          (.leaf (.inl (2,(be (aF (aa 0 (List.length a) a))),(aO (aF (aa 0 (List.length a) a))),(be (aF (aa 0 (List.length b) b))),(aO (aF (aa 0 (List.length b) b))))))
          (.need (ej .i64 (2:Int))<|.ask (decide ((2:Int) < (2:Int)))
            (.fail)
            (.leaf (.inl (0,(be (aF (aa 0 (List.length a) a))),(aO (aF (aa 0 (List.length a) a))),(be (aF (aa 0 (List.length b) b))),(aO (aF (aa 0 (List.length b) b))))))))
        (.fail)))
    (.fail)
def aaq:(List Int)×Nat×(List Int)×Nat→aM:=fun (a,b,c,d)=>⟨an 62 [(2,.ptr 0 1 0 0),(3,.ptr 1 1 0 0)],[(0,.vs [.imm .lent (.ns .u64 a) 1 1 0 b]),(1,.vs [.imm .lent (.ns .u64 c) 1 1 0 d])],2⟩
def WB(c:Nat)(d:List Int)(a:Nat)(e:List Int)(b:Nat) :T (((List Int)×Nat×(List Int)×Nat)⊕(gM)) :=
  .ask (((c:Nat):Int) != (0:Int))
    (.leaf (.inr (.r0 0 0 0 c ([]:List Int))))
    (.ask (decide (((a:Nat):Int) < ((b:Nat):Int)))
      (.leaf (.inl (e,b,d,a)))
      (.leaf (.inl (d,a,e,b))))
def aar(c:List Int)(a:Nat)(d:List Int)(e:Nat) :Nat×(List Int)→aM:=fun (b,f)=>⟨an 62 [(2,.ptr 0 1 0 0),(3,.ptr 1 1 0 0),(7,.ptr 2 1 0 0),(8,.fn (.func FQ) [] [.ptr 2 1 0 0]),(9,.sl 3 1 1 0 b b),(30,.int .i64 ((a:Nat):Int)),(31,.int .i64 (0:Int))],[(0,.vs [.imm .lent (.ns .u64 c) 1 1 0 a]),(1,.vs [.imm .lent (.ns .u64 d) 1 1 0 e]),(2,.vs [.int .u64 (0:Int)]),(3,.ns .u64 f)],4⟩
def F3(a:Nat) :T ((Nat×(List Int))⊕(gM)) :=
  .need (ej .i64 (((a+1):Nat):Int))<|.need (decide ((0:Int)≤(((a+1):Nat):Int)))<|.need (decide ((((a+1):Nat):Int)≤(((a+1):Nat):Int)))<|.need (decide ((8:Int) * (((a+1):Nat):Int)≤140737488355328))<|.need (ej .i64 (((a+1):Nat):Int))<|.leaf (.inl ((a+1),(List.replicate (a+1) (0:Int))))
def zL(c:List Int)(a:Nat)(d:List Int)(e:Nat)(b:Nat) :Nat×Nat×(List Int)→aM:=fun (f,g,h)=>⟨an 62 [(2,.ptr 0 1 0 0),(3,.ptr 1 1 0 0),(7,.ptr 2 1 0 0),(8,.fn (.func FQ) [] [.ptr 2 1 0 0]),(9,.sl 3 1 1 0 b b),(30,.int .i64 ((a:Nat):Int)),(31,.int .i64 ((f:Nat):Int))],[(0,.vs [.imm .lent (.ns .u64 c) 1 1 0 a]),(1,.vs [.imm .lent (.ns .u64 d) 1 1 0 e]),(2,.vs [.int .u64 ((g:Nat):Int)]),(3,.ns .u64 h)],4⟩
def Ea(b:List Int)(c:Nat)(a:Nat) :Nat×(List Int)→aM:=fun (d,e)=>⟨an 62 [(2,.ptr 0 1 0 0),(7,.ptr 1 1 0 0),(9,.sl 2 1 1 0 a a)],[(0,.vs [.imm .lent (.ns .u64 b) 1 1 0 c]),(1,.vs [.int .u64 ((d:Nat):Int)]),(2,.ns .u64 e)],3⟩
def Li:List Code:=bS (bW ((((((qB.drop 2).drop 4).drop 4).take 1)).headD .skip))
def aas(c:List Int)(a:Nat)(d:List Int)(e:Nat)(b:Nat)(f:Nat) :Nat×(List Int)→aM:=fun (g,h)=>⟨an 62 [(2,.ptr 0 1 0 0),(3,.ptr 1 1 0 0),(7,.ptr 2 1 0 0),(8,.fn (.func FQ) [] [.ptr 2 1 0 0]),(9,.sl 3 1 1 0 b b),(30,.int .i64 ((a:Nat):Int)),(31,.int .i64 ((f:Nat):Int))],[(0,.vs [.imm .lent (.ns .u64 c) 1 1 0 a]),(1,.vs [.imm .lent (.ns .u64 d) 1 1 0 e]),(2,.vs [.int .u64 ((g:Nat):Int)]),(3,.ns .u64 h)],4⟩
def F4(c:List Int)(e:Nat)(f:List Int)(g:Nat)(h:Nat)(a:Nat)(b:Nat)(d:List Int) :T ((Nat×(List Int))⊕((Nat×(List Int))⊕(gM))) :=
  .ask (decide (((a:Nat):Int) < ((e:Nat):Int)))
    (.ask (decide (((a:Nat):Int) < ((g:Nat):Int)))
      (.need (iC ((a:Nat):Int) g)<|.need (jt a (List.length f))<|.need (iC ((a:Nat):Int) e)<|.need (jt a (List.length c))<|.need (uP b 1)<|.need (iC ((a:Nat):Int) h)<|.need (jt a (List.length d))<|.leaf (.inl ((((Int.toNat (List.getD c a 0))+(Int.toNat (List.getD f a 0))+b) / 18446744073709551616),(List.set d a (((((Int.toNat (List.getD c a 0))+(Int.toNat (List.getD f a 0))+b) % 18446744073709551616):Nat):Int)))))
      (.need (iC ((a:Nat):Int) e)<|.need (jt a (List.length c))<|.need (uP b 1)<|.need (iC ((a:Nat):Int) h)<|.need (jt a (List.length d))<|.leaf (.inl ((((Int.toNat (List.getD c a 0))+0+b) / 18446744073709551616),(List.set d a (((((Int.toNat (List.getD c a 0))+0+b) % 18446744073709551616):Nat):Int))))))
    (.leaf (.inr (.inl (b,d))))
def WC(a:Nat)(b:Nat)(c:List Int) :T ((Nat×Nat×(List Int))⊕((Nat×(List Int))⊕(gM))) :=
  .need (ej .i64 (((a+1):Nat):Int))<|.leaf (.inl ((a+1),b,c))
def BO(b:List Int)(c:Nat)(d:List Int)(e:Nat)(f:Nat) :Nat×Nat×(List Int)→Option ((Nat×Nat×(List Int))⊕((Nat×(List Int))⊕(gM))):=fun (a,g,h) =>
  aH ((F4 b c d e f a g h).run) fun (i,j) =>
  (WC a i j).run
theorem ai0(b:List Int)(c:Nat)(e:List Int)(f:Nat)(d:Nat)(g:Nat)(h:Nat)(i:List Int) :Sg prog [] Li (zL b c e f d (g,h,i)) (BO b c e f d (g,h,i)) (zL b c e f d) (aS 0 (Ea b c d) sb):=by
  unfold BO;exact Sg.cut 3 (aN wN) (Sg.seg (C:=C0) ap mU 60 (Li.take 3) (zL b c e f d (g,h,i)) (F4 b c e f d g h i) (aas b c e f d g) (aS 0 (Ea b c d) sb) [⟨[],[0,1,2,3],[2,3,7,8,9,30,31]⟩,⟨[],[0,1,2,3],[2,3,7,8,9,30,31]⟩,⟨[],[0,2,3],[2,7,9]⟩] (by kernel_rfl)) (fun a=>by obtain ⟨j,k⟩:=a;exact Sg.seg (C:=C0) ap mU 60 (Li.drop 3) (aas b c e f d g (j,k)) (WC g j k) (zL b c e f d) (aS 0 (Ea b c d) sb) [⟨[],[0,1,2,3],[2,3,7,8,9,30,31]⟩] (by kernel_rfl))
def akP(a:List Int)(b:Nat)(c:Nat) :Nat×(List Int)→aM:=Ea a b c
def WD:Nat×Nat×Nat×Nat×(List Int)→aM:=fun (a,b,c,d,e)=>⟨an 62 [(4,.sl 0 1 1 a b c),(5,.int .i64 ((d:Nat):Int))],[(0,.ns .u64 e)],1⟩
def F5(b:Nat)(a:Nat)(d:Nat)(c:List Int) :T ((Nat×Nat×Nat×Nat×(List Int))⊕(gM)) :=
  .need (iC ((b:Nat):Int) a)<|.need (jt b (List.length c))<|.alt 0
    (.need (BM (eG (List.set c b ((d:Nat):Int)) 0 a a))<|.leaf (.inl (0,0,0,3,([]:List Int))))
    (.alt 1
      (.need (BN (eG (List.set c b ((d:Nat):Int)) 0 a a))<|.leaf (.inl ((Aw (eG (List.set c b ((d:Nat):Int)) 0 a a)),(Ax (eG (List.set c b ((d:Nat):Int)) 0 a a)),(Ay (eG (List.set c b ((d:Nat):Int)) 0 a a)),0,(Az (eG (List.set c b ((d:Nat):Int)) 0 a a)))))
      (.fail))
def Lj(a:Nat)(b:Nat)(c:Nat)(d:Nat)(e:List Int) :T ((Empty)⊕(gM)) :=
  .leaf (.inr (.r0 a b c d e))
def cu(c:List Int)(d:List Int) :Option gM:=me (aH ((Lh c d).run) fun (e,f,g,h,i) =>
  aH ((WB e f g h i).run) fun (j,a,k,l) =>
  aH ((F3 a).run) fun (b,m) =>
  aH (eh (BO j a k l b) (0,0,m)) fun (n,o) =>
  aH ((F5 a b n o).run) fun (p,q,r,s,t) =>
  (Lj p q r s t).run)
theorem akQ(j:Lv)(e:List Int)(k:Lv)(f:List Int){x:gM}(h:cu e f=some x) :ax prog tX [] [.imm j (.ns .u64 e) 1 1 0 (List.length e),.imm k (.ns .u64 f) 1 1 0 (List.length f)] (Vw x) :=
  Sg.contract true Vw (by kernel_rfl:prog.funcs[tX]? = some (FN tX)) (by kernel_rfl:(FN tX).body=some (bB tX)) (Sg.cut 2 wN (Sg.seg (C:=C0) ap mU 60 (qB.take 2) (aT (FN tX) [] [.imm j (.ns .u64 e) 1 1 0 (List.length e),.imm k (.ns .u64 f) 1 1 0 (List.length f)]) (Lh e f) (aap j k) sb [⟨[],[0,16],[2,3,6]⟩,⟨[],[0,16],[2,3,6]⟩,⟨[],[0,16],[2,3,6]⟩] (by kernel_rfl)) (fun a=>by obtain ⟨m,n,o,p,q⟩:=a;exact Sg.cut 4 wN (Sg.seg (C:=C0) ap mU 60 ((qB.drop 2).take 4) (aap j k (m,n,o,p,q)) (WB m n o p q) aaq sb [⟨[(.slot 4,.own 1 1 (.ns .u64 ([]:List Int)))],[82],[4,5]⟩,⟨[(.cell 0 0,.low),(.cell 1 0,.low)],[0,1],[2,3]⟩,⟨[(.cell 0 0,.low),(.cell 1 0,.low)],[0,1],[2,3]⟩] (by kernel_rfl)) (fun a=>by obtain ⟨c,b,g,i⟩:=a;exact Sg.cut 4 wN (Sg.seg (C:=C0) ap mU 60 (((qB.drop 2).drop 4).take 4) (aaq (c,b,g,i)) (F3 b) (aar c b g i) sb [⟨[],[0,1,2,114],[2,3,7,8,9,30,31]⟩] (by kernel_rfl)) (fun a=>by obtain ⟨d,l⟩:=a;exact Sg.cut 1 wN (Sg.pre ⟨[],[0,1,2,3],[2,3,7,8,9,30,31]⟩ rfl (by kernel_rfl:NS.on ⟨[],[0,1,2,3],[2,3,7,8,9,30,31]⟩ (aar c b g i (d,l))=(zL c b g i d) (0,0,l)) (cw (I:=(zL c b g i d)) (J:=(Ea c b d)) (id:=0) (by kernel_rfl:((((qB.drop 2).drop 4).drop 4).take 1) = [.block 0 (.loop (bW ((((((qB.drop 2).drop 4).drop 4).take 1)).headD .skip)))]) wN (akO _) (fun s=>by obtain ⟨A,B,D⟩:=s;exact ai0 c b g i d A B D) (0,0,l))) (fun a=>by obtain ⟨r,t⟩:=a;exact Sg.cut 2 wN (Sg.seg (C:=C0) ap mU 60 (((((qB.drop 2).drop 4).drop 4).drop 1).take 2) (akP c b d (r,t)) (F5 b d r t) WD sb [⟨[(.slot 4,.own 1 1 (.ns .u64 ([]:List Int)))],[195],[4,5]⟩,⟨[],[2],[4,5]⟩] (by kernel_rfl)) (fun a=>by obtain ⟨u,v,w,y,z⟩:=a;exact Sg.seg (C:=C0) ap mU 60 (((((qB.drop 2).drop 4).drop 4).drop 1).drop 2) (WD (u,v,w,y,z)) (Lj u v w y z) (fun a:Empty=>a.elim) sb [⟨[],[0],[4,5]⟩] (by kernel_rfl)))))))
    (fun x=>by cases x with | r0 E F G H K=>exact ⟨.inr rfl,[.sl 0 1 1 E F G,.int .i64 ((H:Nat):Int)],[],by kernel_rfl,trivial,by kernel_rfl⟩) h
def Eb:Option gM→Bool
  | some _=>true
  | none=>false
def jF:Option gM→Nat
  | some (.r0 x _ _ _ _)=>x
  | _=>0
def jG:Option gM→Nat
  | some (.r0 _ x _ _ _)=>x
  | _=>0
def Su:Option gM→Nat
  | some (.r0 _ _ x _ _)=>x
  | _=>0
def k9:Option gM→Nat
  | some (.r0 _ _ _ x _)=>x
  | _=>0
def jH:Option gM→List Int
  | some (.r0 _ _ _ _ x)=>x
  | _=>[]
theorem akR{x:Option gM}(h:Eb x=true) :x=some (.r0 (jF x) (jG x) (Su x) (k9 x) (jH x)):=by
  unfold Eb at h
  split at h <;> first | rfl | (cases h;done) | (rename_i y;cases y;rfl)
def aeQ:aL:=cn tX (.cons (.ns .u64) (.cons (.ns .u64) .nil)) fun t=>[⟨Vw (.r0 (jF (cu t.1.2 t.2.1.2)) (jG (cu t.1.2 t.2.1.2)) (Su (cu t.1.2 t.2.1.2)) (k9 (cu t.1.2 t.2.1.2)) (jH (cu t.1.2 t.2.1.2))),[Eb (cu t.1.2 t.2.1.2)]⟩]
theorem agf:aV prog aeQ:=aP fun t=>(aQ (fun h=>akQ t.1.1 t.1.2 t.2.1.1 t.2.1.2 (akR h)) ba)
def aeR:List aL:=aeQ :: aao
theorem uf:bf prog (bi aeR):=aw agf mU
end
end Go.Plb.Seat
namespace Go.Plb.Seat
open Go Go.Plb
set_option linter.unusedVariables false
set_option maxRecDepth 100000
noncomputable section
inductive j0 where
  | r0 (a:Nat) (b:Nat) (c:Nat) (d:List Int)
def xf:j0→AE×aM
  | .r0 a b c d=>(.ret,⟨an 40 [(4,.sl 0 1 1 a b c)],[(0,.ns .u64 d)],1⟩)
theorem Ec:l9 xf:=by intro x;cases x <;> (intro h;cases h)
theorem akS(id:Nat) :rL id xf:=by intro x;cases x <;> (intro h;cases h)
def Vx:j0→jv
  | .r0 a b d c=>⟨.imm .free (.ns .u64 c) 1 1 a b,[]⟩
def xg:List Code:=bS (bB ua)
def aat(d:Lv)(a:List Int)(e:Lv)(b:List Int) :Nat×(List Int)→aM:=fun (c,f)=>⟨an 40 [(0,.imm d (.ns .u64 a) 1 1 0 (List.length a)),(1,.imm e (.ns .u64 b) 1 1 0 (List.length b)),(5,.sl 0 1 1 0 c c),(6,.int .u64 (0:Int)),(12,.int .i64 (((List.length a):Nat):Int)),(13,.int .i64 (0:Int))],[(0,.ns .u64 f)],1⟩
def Lk(a:List Int) :T ((Nat×(List Int))⊕(j0)) :=
  .need (aR 0 (List.length a) a)<|.need (zr (List.length (aa 0 (List.length a) a)))<|.leaf (.inl ((List.length (aa 0 (List.length a) a)),(aa 0 (List.length a) a)))
def zM(d:Lv)(a:List Int)(e:Lv)(b:List Int)(c:Nat) :Int×Nat×(List Int)→aM:=fun (f,g,h)=>⟨an 40 [(0,.imm d (.ns .u64 a) 1 1 0 (List.length a)),(1,.imm e (.ns .u64 b) 1 1 0 (List.length b)),(5,.sl 0 1 1 0 c c),(6,.int .u64 f),(12,.int .i64 (((List.length a):Nat):Int)),(13,.int .i64 ((g:Nat):Int))],[(0,.ns .u64 h)],1⟩
def Ed(a:Nat)(b:(List Int)) :aM:=⟨an 40 [(5,.sl 0 1 1 0 a a)],[(0,.ns .u64 b)],1⟩
def Ll:List Code:=bS (bW ((((xg.drop 4).take 1)).headD .skip))
def aau(d:Lv)(a:List Int)(e:Lv)(b:List Int)(c:Nat)(f:Nat) :Int×(List Int)→aM:=fun (g,h)=>⟨an 40 [(0,.imm d (.ns .u64 a) 1 1 0 (List.length a)),(1,.imm e (.ns .u64 b) 1 1 0 (List.length b)),(5,.sl 0 1 1 0 c c),(6,.int .u64 g),(12,.int .i64 (((List.length a):Nat):Int)),(13,.int .i64 ((f:Nat):Int))],[(0,.ns .u64 h)],1⟩
def F6(b:List Int)(d:List Int)(f:Nat)(c:Int)(a:Nat)(e:List Int) :T ((Int×(List Int))⊕(((List Int))⊕(j0))) :=
  .ask (decide (((a:Nat):Int) < (((List.length b):Nat):Int)))
    (.ask (decide (((a:Nat):Int) < (((List.length d):Nat):Int)))
      (.need (iC ((a:Nat):Int) (List.length d))<|.need (jt a (List.length d))<|.need (iC ((a:Nat):Int) (List.length b))<|.need (jt a (List.length b))<|.need (uP (Int.toNat c) 1)<|.need (iC ((a:Nat):Int) f)<|.need (jt a (List.length e))<|.leaf (.inl ((bif Nat.blt (Int.toNat (List.getD b a 0)) ((Int.toNat (List.getD d a 0))+(Int.toNat c)) then (1:Int) else (0:Int)),(List.set e a (((((Int.toNat (List.getD b a 0))+18446744073709551616 - (Int.toNat (List.getD d a 0)) - (Int.toNat c)) % 18446744073709551616):Nat):Int)))))
      (.need (iC ((a:Nat):Int) (List.length b))<|.need (jt a (List.length b))<|.need (uP (Int.toNat c) 1)<|.need (iC ((a:Nat):Int) f)<|.need (jt a (List.length e))<|.leaf (.inl ((bif Nat.blt (Int.toNat (List.getD b a 0)) (0+(Int.toNat c)) then (1:Int) else (0:Int)),(List.set e a (((((Int.toNat (List.getD b a 0))+18446744073709551616 - 0 - (Int.toNat c)) % 18446744073709551616):Nat):Int))))))
    (.leaf (.inr (.inl e)))
def WE(a:Nat)(b:Int)(c:List Int) :T ((Int×Nat×(List Int))⊕(((List Int))⊕(j0))) :=
  .need (ej .i64 (((a+1):Nat):Int))<|.leaf (.inl (b,(a+1),c))
def Lm(b:List Int)(c:List Int)(d:Nat) :Int×Nat×(List Int)→Option ((Int×Nat×(List Int))⊕(((List Int))⊕(j0))):=fun (e,a,f) =>
  aH ((F6 b c d e a f).run) fun (g,h) =>
  (WE a g h).run
theorem ai1(f:Lv)(c:List Int)(g:Lv)(d:List Int)(b:Nat)(h:Int)(e:Nat)(i:List Int) :Sg prog [] Ll (zM f c g d b (h,e,i)) (Lm c d b (h,e,i)) (zM f c g d b) (aS 0 (Ed b) xf):=by
  unfold Lm;exact Sg.cut 3 (aN Ec) (Sg.seg (C:=C0) ap uf 60 (Ll.take 3) (zM f c g d b (h,e,i)) (F6 c d b h e i) (aau f c g d b e) (aS 0 (Ed b) xf) [⟨[],[0],[0,1,5,6,12,13]⟩,⟨[],[0],[0,1,5,6,12,13]⟩,⟨[],[0],[5]⟩] (by kernel_rfl)) (fun a=>by obtain ⟨j,k⟩:=a;exact Sg.seg (C:=C0) ap uf 60 (Ll.drop 3) (aau f c g d b e (j,k)) (WE e j k) (zM f c g d b) (aS 0 (Ed b) xf) [⟨[],[0],[0,1,5,6,12,13]⟩] (by kernel_rfl))
def akT(a:Nat) :(List Int)→aM:=Ed a
def WF:Nat×Nat×Nat×(List Int)→aM:=fun (a,b,c,d)=>⟨an 40 [(4,.sl 0 1 1 a b c)],[(0,.ns .u64 d)],1⟩
def Ln(a:Nat)(b:List Int) :T ((Nat×Nat×Nat×(List Int))⊕(j0)) :=
  .need (lw (bG b 0 a a))<|.leaf (.inl ((kw (bG b 0 a a)),(kB (bG b 0 a a)),(kC (bG b 0 a a)),(kD (bG b 0 a a))))
def WG(a:Nat)(b:Nat)(c:Nat)(d:List Int) :T ((Empty)⊕(j0)) :=
  .leaf (.inr (.r0 a b c d))
def qe(a:List Int)(c:List Int) :Option j0:=me (aH ((Lk a).run) fun (b,d) =>
  aH (eh (Lm a c b) ((0:Int),0,d)) fun e =>
  aH ((Ln b e).run) fun (f,g,h,i) =>
  (WG f g h i).run)
theorem akU(d:Lv)(b:List Int)(e:Lv)(c:List Int){x:j0}(h:qe b c=some x) :ax prog ua [] [.imm d (.ns .u64 b) 1 1 0 (List.length b),.imm e (.ns .u64 c) 1 1 0 (List.length c)] (Vx x) :=
  Sg.contract true Vx (by kernel_rfl:prog.funcs[ua]? = some (FN ua)) (by kernel_rfl:(FN ua).body=some (bB ua)) (Sg.cut 4 Ec (Sg.seg (C:=C0) ap uf 60 (xg.take 4) (aT (FN ua) [] [.imm d (.ns .u64 b) 1 1 0 (List.length b),.imm e (.ns .u64 c) 1 1 0 (List.length c)]) (Lk b) (aat d b e c) xf [⟨[],[32],[0,1,5,6,12,13]⟩] (by kernel_rfl)) (fun a=>by obtain ⟨f,g⟩:=a;exact Sg.cut 1 Ec (Sg.pre ⟨[],[0],[0,1,5,6,12,13]⟩ rfl (by kernel_rfl:NS.on ⟨[],[0],[0,1,5,6,12,13]⟩ (aat d b e c (f,g))=(zM d b e c f) ((0:Int),0,g)) (cw (I:=(zM d b e c f)) (J:=(Ed f)) (id:=0) (by kernel_rfl:((xg.drop 4).take 1) = [.block 0 (.loop (bW ((((xg.drop 4).take 1)).headD .skip)))]) Ec (akS _) (fun s=>by obtain ⟨n,o,p⟩:=s;exact ai1 d b e c f n o p) ((0:Int),0,g))) (fun i=>by exact Sg.cut 1 Ec (Sg.seg (C:=C0) ap uf 60 (((xg.drop 4).drop 1).take 1) (akT f i) (Ln f i) WF xf [⟨[],[0],[4]⟩] (by kernel_rfl)) (fun a=>by obtain ⟨j,k,l,m⟩:=a;exact Sg.seg (C:=C0) ap uf 60 (((xg.drop 4).drop 1).drop 1) (WF (j,k,l,m)) (WG j k l m) (fun a:Empty=>a.elim) xf [⟨[],[0],[4]⟩] (by kernel_rfl)))))
    (fun x=>by cases x with | r0 q r t u=>exact ⟨.inr rfl,[.sl 0 1 1 q r t],[],by kernel_rfl,trivial,by kernel_rfl⟩) h
def IQ:Option j0→Bool
  | some _=>true
  | none=>false
def IR:Option j0→Nat
  | some (.r0 x _ _ _)=>x
  | _=>0
def IS:Option j0→Nat
  | some (.r0 _ x _ _)=>x
  | _=>0
def Sv:Option j0→Nat
  | some (.r0 _ _ x _)=>x
  | _=>0
def IT:Option j0→List Int
  | some (.r0 _ _ _ x)=>x
  | _=>[]
theorem akV{x:Option j0}(h:IQ x=true) :x=some (.r0 (IR x) (IS x) (Sv x) (IT x)):=by
  unfold IQ at h
  split at h <;> first | rfl | (cases h;done) | (rename_i y;cases y;rfl)
def aeS:aL:=cn ua (.cons (.ns .u64) (.cons (.ns .u64) .nil)) fun t=>[⟨Vx (.r0 (IR (qe t.1.2 t.2.1.2)) (IS (qe t.1.2 t.2.1.2)) (Sv (qe t.1.2 t.2.1.2)) (IT (qe t.1.2 t.2.1.2))),[IQ (qe t.1.2 t.2.1.2)]⟩]
theorem agh:aV prog aeS:=aP fun t=>(aQ (fun h=>akU t.1.1 t.1.2 t.2.1.1 t.2.1.2 (akV h)) ba)
def aeT:List aL:=aeS :: aeR
theorem xZ:bf prog (bi aeT):=aw agh uf
inductive lP where
  | r0 (a:List Int) (b:Nat) (c:Nat) (d:Nat)
def Ib:lP→AE×aM
  | .r0 a b c d=>(.ret,⟨an 20 [(4,.imm .free (.ns .u64 a) 1 1 b c),(5,.int .i64 ((d:Nat):Int))],[],0⟩)
theorem Q7:l9 Ib:=by intro x;cases x <;> (intro h;cases h)
def Vy:lP→jv
  | .r0 a b c d=>⟨.tup [.imm .free (.ns .u64 a) 1 1 b c,.int .i64 ((d:Nat):Int)],[]⟩
def IU:List Code:=bS (bB tZ)
def aav(a:Lv)(b:Lv) :Nat×(List Int)×Nat×(List Int)×Nat→aM:=fun (c,d,e,f,g)=>⟨an 20 [(2,.ptr 0 1 0 0),(3,.ptr 1 1 0 0),(6,.int .i64 ((c:Nat):Int))],[(0,.vs [.imm a (.ns .u64 d) 1 1 0 e]),(1,.vs [.imm b (.ns .u64 f) 1 1 0 g])],2⟩
def Q8(a : List Int)(b : List Int) : T ((Nat × (List Int) × Nat × (List Int) × Nat) ⊕ (lP)) :=
  .ask (decide ((0:Int) < (2:Int)))
    (.need (iC (0:Int) 2)<|.need (aR 0 (List.length a) a)<|.need (c7 (aF (aa 0 (List.length a) a)))<|.ask (decide ((((aO (aF (aa 0 (List.length a) a))):Nat):Int) > (4096:Int)))
      (.leaf (.inl (2,(be (aF (aa 0 (List.length a) a))),(aO (aF (aa 0 (List.length a) a))),b,(List.length b))))
      (.need (ej .i64 (1:Int))<|.ask (decide ((1:Int) < (2:Int)))
        (.need (iC (1:Int) 2)<|.need (aR 0 (List.length b) b)<|.need (c7 (aF (aa 0 (List.length b) b)))<|.ask (decide ((((aO (aF (aa 0 (List.length b) b))):Nat):Int) > (4096:Int)))
          (.leaf (.inl (2,(be (aF (aa 0 (List.length a) a))),(aO (aF (aa 0 (List.length a) a))),(be (aF (aa 0 (List.length b) b))),(aO (aF (aa 0 (List.length b) b))))))
          (.need (ej .i64 (2:Int))<|.ask (decide ((2:Int) < (2:Int)))
            (.fail)
            (.leaf (.inl (0,(be (aF (aa 0 (List.length a) a))),(aO (aF (aa 0 (List.length a) a))),(be (aF (aa 0 (List.length b) b))),(aO (aF (aa 0 (List.length b) b))))))))
        (.fail)))
    (.fail)
def aaw(a:Lv)(b:Lv)(c:List Int)(d:Nat)(e:List Int)(f:Nat)(g:Bool) :aM:=⟨an 20 [(2,.ptr 0 1 0 0),(3,.ptr 1 1 0 0),(16,.bool false g)],[(0,.vs [.imm a (.ns .u64 c) 1 1 0 d]),(1,.vs [.imm b (.ns .u64 e) 1 1 0 f])],2⟩
def Q9(e:Nat)(a:List Int)(b:Nat)(c:List Int)(d:Nat) :T ((Bool)⊕(lP)) :=
  .ask (((e:Nat):Int) != (0:Int))
    (.leaf (.inl true))
    (.need (aR 0 b a)<|.need (aR 0 d c)<|.need (D8 (xe (aa 0 b a) (aa 0 d c)))<|.leaf (.inl (decide ((CV (xe (aa 0 b a) (aa 0 d c))) < (0:Int)))))
def aax:(List Int)×Nat×Nat→aM:=fun (a,b,c)=>⟨an 20 [(4,.imm .free (.ns .u64 a) 1 1 b c),(5,.int .i64 (0:Int))],[],0⟩
def Ra(a:List Int)(b:Nat)(c:List Int)(d:Nat)(e:Bool) :T (((List Int)×Nat×Nat)⊕(lP)) :=
  .ask e
    (.leaf (.inr (.r0 ([]:List Int) 0 0 2)))
    (.need (aR 0 b a)<|.need (aR 0 d c)<|.need (IQ (qe (aa 0 b a) (aa 0 d c)))<|.leaf (.inl ((IT (qe (aa 0 b a) (aa 0 d c))),(IR (qe (aa 0 b a) (aa 0 d c))),(IS (qe (aa 0 b a) (aa 0 d c))))))
def aay(a:List Int)(b:Nat)(c:Nat) :T ((Empty)⊕(lP)) :=
  .leaf (.inr (.r0 a b c 0))
def ca(e:List Int)(f:List Int) :Option lP:=me (aH ((Q8 e f).run) fun (g,a,b,c,d) =>
  aH ((Q9 g a b c d).run) fun h =>
  aH ((Ra a b c d h).run) fun (i,j,k) =>
  (aay i j k).run)
theorem akW(b:Lv)(c:List Int)(d:Lv)(e:List Int){x:lP}(h:ca c e=some x) :ax prog tZ [] [.imm b (.ns .u64 c) 1 1 0 (List.length c),.imm d (.ns .u64 e) 1 1 0 (List.length e)] (Vy x) :=
  Sg.contract true Vy (by kernel_rfl:prog.funcs[tZ]? = some (FN tZ)) (by kernel_rfl:(FN tZ).body=some (bB tZ)) (Sg.cut 2 Q7 (Sg.seg (C:=C0) ap xZ 60 (IU.take 2) (aT (FN tZ) [] [.imm b (.ns .u64 c) 1 1 0 (List.length c),.imm d (.ns .u64 e) 1 1 0 (List.length e)]) (Q8 c e) (aav b d) Ib [⟨[],[0,16],[2,3,6]⟩,⟨[],[0,16],[2,3,6]⟩,⟨[],[0,16],[2,3,6]⟩] (by kernel_rfl)) (fun a=>by obtain ⟨k,f,g,i,j⟩:=a;exact Sg.cut 1 Q7 (Sg.seg (C:=C0) ap xZ 60 ((IU.drop 2).take 1) (aav b d (k,f,g,i,j)) (Q9 k f g i j) (aaw b d f g i j) Ib [⟨[],[0,1],[2,3,16]⟩,⟨[],[0,1],[2,3,16]⟩] (by kernel_rfl)) (fun l=>by exact Sg.cut 2 Q7 (Sg.seg (C:=C0) ap xZ 60 (((IU.drop 2).drop 1).take 2) (aaw b d f g i j l) (Ra f g i j l) aax Ib [⟨[(.slot 4,.fre 1 1 (.ns .u64 ([]:List Int)))],[],[4,5]⟩,⟨[],[],[4,5]⟩] (by kernel_rfl)) (fun a=>by obtain ⟨m,n,o⟩:=a;exact Sg.seg (C:=C0) ap xZ 60 (((IU.drop 2).drop 1).drop 2) (aax (m,n,o)) (aay m n o) (fun a:Empty=>a.elim) Ib [⟨[],[],[4,5]⟩] (by kernel_rfl)))))
    (fun x=>by cases x with | r0 p q r s=>exact ⟨.inr rfl,[.imm .free (.ns .u64 p) 1 1 q r,.int .i64 ((s:Nat):Int)],[],by kernel_rfl,trivial,by kernel_rfl⟩) h
def zN:Option lP→Bool
  | some _=>true
  | none=>false
def iG:Option lP→List Int
  | some (.r0 x _ _ _)=>x
  | _=>[]
def iH:Option lP→Nat
  | some (.r0 _ x _ _)=>x
  | _=>0
def iI:Option lP→Nat
  | some (.r0 _ _ x _)=>x
  | _=>0
def jI:Option lP→Nat
  | some (.r0 _ _ _ x)=>x
  | _=>0
theorem akX{x:Option lP}(h:zN x=true) :x=some (.r0 (iG x) (iH x) (iI x) (jI x)):=by
  unfold zN at h
  split at h <;> first | rfl | (cases h;done) | (rename_i y;cases y;rfl)
def aeU:aL:=cn tZ (.cons (.ns .u64) (.cons (.ns .u64) .nil)) fun t=>[⟨Vy (.r0 (iG (ca t.1.2 t.2.1.2)) (iH (ca t.1.2 t.2.1.2)) (iI (ca t.1.2 t.2.1.2)) (jI (ca t.1.2 t.2.1.2))),[zN (ca t.1.2 t.2.1.2)]⟩]
theorem agi:aV prog aeU:=aP fun t=>(aQ (fun h=>akW t.1.1 t.1.2 t.2.1.1 t.2.1.2 (akX h)) ba)
def aeV:List aL:=aeU :: aeT
theorem x4:bf prog (bi aeV):=aw agi xZ
inductive nw where
  | r0 (a:Int) (b:List Int)
def zO:nw→AE×aM
  | .r0 a b=>(.ret,⟨an 52 [(6,.int .u64 a)],[(0,.ns .u64 b)],1⟩)
theorem IV:l9 zO:=by intro x;cases x <;> (intro h;cases h)
theorem akY(id:Nat) :rL id zO:=by intro x;cases x <;> (intro h;cases h)
def Vz:nw→jv
  | .r0 a b=>⟨.int .u64 a,[some (.ns .u64 b)]⟩
def BP:List Code:=bS (bB t4)
def aaz(b:List Int)(c:Nat)(d:Nat)(e:Nat)(f:Lv)(a:List Int)(g:Int)(_:Unit) :aM:=⟨an 52 [(0,.sl 0 1 1 c d e),(1,.imm f (.ns .u64 a) 1 1 0 (List.length a)),(2,.int .u64 g),(7,.int .u64 (0:Int)),(13,.int .i64 (((List.length a):Nat):Int)),(14,.int .i64 (0:Int))],[(0,.ns .u64 b)],1⟩
def WH:T ((Unit)⊕(nw)) :=
  .leaf (.inl ())
def zP(b:Nat)(c:Nat)(d:Nat)(e:Lv)(a:List Int)(f:Int) :Int×Nat×(List Int)→aM:=fun (g,h,i)=>⟨an 52 [(0,.sl 0 1 1 b c d),(1,.imm e (.ns .u64 a) 1 1 0 (List.length a)),(2,.int .u64 f),(7,.int .u64 g),(13,.int .i64 (((List.length a):Nat):Int)),(14,.int .i64 ((h:Nat):Int))],[(0,.ns .u64 i)],1⟩
def Ee:Int×(List Int)→aM:=fun (a,b)=>⟨an 52 [(7,.int .u64 a)],[(0,.ns .u64 b)],1⟩
def Lo:List Code:=bS (bW ((((BP.drop 3).take 1)).headD .skip))
def aaA(b:Nat)(c:Nat)(d:Nat)(e:Lv)(a:List Int)(f:Int)(g:Nat) :Int×(List Int)→aM:=fun (h,i)=>⟨an 52 [(0,.sl 0 1 1 b c d),(1,.imm e (.ns .u64 a) 1 1 0 (List.length a)),(2,.int .u64 f),(7,.int .u64 h),(13,.int .i64 (((List.length a):Nat):Int)),(14,.int .i64 ((g:Nat):Int))],[(0,.ns .u64 i)],1⟩
def xh(d:Nat)(g:Nat)(b:List Int)(e:Int)(f:Int)(a:Nat)(c:List Int) :T ((Int×(List Int))⊕((Int×(List Int))⊕(nw))) :=
  .ask (decide (((a:Nat):Int) < (((List.length b):Nat):Int)))
    (.need (iC ((a:Nat):Int) (List.length b))<|.need (jt a (List.length b))<|.need (nI (ff (List.getD b a 0) e))<|.need (uP 0 1)<|.need (iC ((a:Nat):Int) g)<|.need (jt (lL d a) (List.length c))<|.need (uP 0 1)<|.need (iC ((a:Nat):Int) g)<|.need (jt (lL d a) (List.length c))<|.leaf (.inl ((IntKind.u64.wrap ((IntKind.u64.wrap ((pb (ff (List.getD b a 0) e))+(((((Int.toNat (jb (ff (List.getD b a 0) e)))+(Int.toNat f)+0) / 18446744073709551616):Nat):Int)))+(((((Int.toNat (List.getD c (lL d a) 0))+(((Int.toNat (jb (ff (List.getD b a 0) e)))+(Int.toNat f)+0) % 18446744073709551616)+0) / 18446744073709551616):Nat):Int))),(List.set c (lL d a) (((((Int.toNat (List.getD c (lL d a) 0))+(((Int.toNat (jb (ff (List.getD b a 0) e)))+(Int.toNat f)+0) % 18446744073709551616)+0) % 18446744073709551616):Nat):Int)))))
    (.leaf (.inr (.inl (f,c))))
def WI(a:Nat)(b:Int)(c:List Int) :T ((Int×Nat×(List Int))⊕((Int×(List Int))⊕(nw))) :=
  .need (ej .i64 (((a+1):Nat):Int))<|.leaf (.inl (b,(a+1),c))
def Lp(b:Nat)(c:Nat)(d:List Int)(e:Int) :Int×Nat×(List Int)→Option ((Int×Nat×(List Int))⊕((Int×(List Int))⊕(nw))):=fun (f,a,g) =>
  aH ((xh b c d e f a g).run) fun (h,i) =>
  (WI a h i).run
theorem ai2(m:List Int)(b:Nat)(c:Nat)(g:Nat)(h:Lv)(d:List Int)(e:Int)(i:Int)(f:Nat)(j:List Int) :Sg prog [.ns .u64 m] Lo (zP b c g h d e (i,f,j)) (Lp b c d e (i,f,j)) (zP b c g h d e) (aS 0 Ee zO):=by
  unfold Lp;exact Sg.cut 3 (aN IV) (Sg.seg (C:=C0) ap x4 60 (Lo.take 3) (zP b c g h d e (i,f,j)) (xh b c d e i f j) (aaA b c g h d e f) (aS 0 Ee zO) [⟨[],[0],[0,1,2,7,13,14]⟩,⟨[],[0],[7]⟩] (by kernel_rfl)) (fun a=>by obtain ⟨k,l⟩:=a;exact Sg.seg (C:=C0) ap x4 60 (Lo.drop 3) (aaA b c g h d e f (k,l)) (WI f k l) (zP b c g h d e) (aS 0 Ee zO) [⟨[],[0],[0,1,2,7,13,14]⟩] (by kernel_rfl))
def akZ:Int×(List Int)→aM:=Ee
def WJ(a:Int)(b:List Int) :T ((Empty)⊕(nw)) :=
  .leaf (.inr (.r0 a b))
def ug(a:List Int)(b:Nat)(c:Nat)(d:List Int)(e:Int) :Option nw:=me (aH ((WH).run) fun _ =>
  aH (eh (Lp b c d e) ((0:Int),0,a)) fun (f,g) =>
  (WJ f g).run)
theorem ak0(c:List Int)(d:Nat)(e:Nat)(g:Nat)(i:Lv)(b:List Int)(f:Int){x:nw}(h:ug c d e b f=some x) :ax prog t4 [.ns .u64 c] [.sl 0 1 1 d e g,.imm i (.ns .u64 b) 1 1 0 (List.length b),.int .u64 f] (Vz x) :=
  Sg.contract false Vz (by kernel_rfl:prog.funcs[t4]? = some (FN t4)) (by kernel_rfl:(FN t4).body=some (bB t4)) (Sg.cut 3 IV (Sg.seg (C:=C0) ap x4 60 (BP.take 3) (aT (FN t4) [.ns .u64 c] [.sl 0 1 1 d e g,.imm i (.ns .u64 b) 1 1 0 (List.length b),.int .u64 f]) (WH) (aaz c d e g i b f) zO [⟨[],[0],[0,1,2,7,13,14]⟩] (by kernel_rfl)) (fun a=>by cases a;exact Sg.cut 1 IV (Sg.pre ⟨[],[0],[0,1,2,7,13,14]⟩ rfl (by kernel_rfl:NS.on ⟨[],[0],[0,1,2,7,13,14]⟩ (aaz c d e g i b f ())=(zP d e g i b f) ((0:Int),0,c)) (cw (I:=(zP d e g i b f)) (J:=(Ee)) (id:=0) (by kernel_rfl:((BP.drop 3).take 1) = [.block 0 (.loop (bW ((((BP.drop 3).take 1)).headD .skip)))]) IV (akY _) (fun s=>by obtain ⟨l,m,n⟩:=s;exact ai2 c d e g i b f l m n) ((0:Int),0,c))) (fun a=>by obtain ⟨j,k⟩:=a;exact Sg.seg (C:=C0) ap x4 60 ((BP.drop 3).drop 1) (akZ (j,k)) (WJ j k) (fun a:Empty=>a.elim) zO [⟨[],[0],[6]⟩] (by kernel_rfl))))
    (fun x=>by cases x with | r0 o p=>exact ⟨.inr rfl,[.int .u64 o],[],by kernel_rfl,trivial,by kernel_rfl⟩) h
def Ef:Option nw→Bool
  | some _=>true
  | none=>false
def CY:Option nw→Int
  | some (.r0 x _)=>x
  | _=>0
def x5:Option nw→List Int
  | some (.r0 _ x)=>x
  | _=>[]
theorem ak1{x:Option nw}(h:Ef x=true) :x=some (.r0 (CY x) (x5 x)):=by
  unfold Ef at h
  split at h <;> first | rfl | (cases h;done) | (rename_i y;cases y;rfl)
def aeW:aL:=ait t4 [.ns .u64] (.cons (.lsl 0) (.cons (.ns .u64) (.cons (.int .u64) .nil))) fun x t=>[⟨Vz (.r0 (CY (ug x.1 t.1.1 t.1.2.1 t.2.1.2 t.2.2.1)) (x5 (ug x.1 t.1.1 t.1.2.1 t.2.1.2 t.2.2.1))),[Ef (ug x.1 t.1.1 t.1.2.1 t.2.1.2 t.2.2.1)]⟩]
theorem agj:aV prog aeW:=ZX fun x t=>(ND (fun h=>ak0 x.1 t.1.1 t.1.2.1 t.1.2.2 t.2.1.1 t.2.1.2 t.2.2.1 (ak1 h)) ZY)
def aeX:List aL:=aeW :: aeV
theorem pc:bf prog (bi aeX):=aw agj x4
inductive gN where
  | r0 (a:Nat) (b:Nat) (c:Nat) (d:Nat) (e:List Int)
def sc:gN→AE×aM
  | .r0 a b c d e=>(.ret,⟨an 61 [(4,.sl 0 1 1 a b c),(5,.int .i64 ((d:Nat):Int))],[(0,.ns .u64 e)],1⟩)
theorem wO:l9 sc:=by intro x;cases x <;> (intro h;cases h)
theorem ak2(id:Nat) :rL id sc:=by intro x;cases x <;> (intro h;cases h)
def VA:gN→jv
  | .r0 a b e c d=>⟨.tup [.imm .free (.ns .u64 d) 1 1 a b,.int .i64 ((c:Nat):Int)],[]⟩
def qC:List Code:=bS (bB tV)
def aaB(a:Lv)(b:Lv) :Nat×(List Int)×Nat×(List Int)×Nat→aM:=fun (c,d,e,f,g)=>⟨an 61 [(2,.ptr 0 1 0 0),(3,.ptr 1 1 0 0),(6,.int .i64 ((c:Nat):Int))],[(0,.vs [.imm a (.ns .u64 d) 1 1 0 e]),(1,.vs [.imm b (.ns .u64 f) 1 1 0 g])],2⟩
def Lq(a : List Int)(b : List Int) : T ((Nat × (List Int) × Nat × (List Int) × Nat) ⊕ (gN)) :=
  .ask (decide ((0:Int) < (2:Int)))
    (.need (iC (0:Int) 2)<|.need (aR 0 (List.length a) a)<|.need (c7 (aF (aa 0 (List.length a) a)))<|.ask (decide ((((aO (aF (aa 0 (List.length a) a))):Nat):Int) > (4096:Int)))
      (.leaf (.inl (2,(be (aF (aa 0 (List.length a) a))),(aO (aF (aa 0 (List.length a) a))),b,(List.length b))))
      (.need (ej .i64 (1:Int))<|.ask (decide ((1:Int) < (2:Int)))
        (.need (iC (1:Int) 2)<|.need (aR 0 (List.length b) b)<|.need (c7 (aF (aa 0 (List.length b) b)))<|.ask (decide ((((aO (aF (aa 0 (List.length b) b))):Nat):Int) > (4096:Int)))
          (.leaf (.inl (2,(be (aF (aa 0 (List.length a) a))),(aO (aF (aa 0 (List.length a) a))),(be (aF (aa 0 (List.length b) b))),(aO (aF (aa 0 (List.length b) b))))))
          (.need (ej .i64 (2:Int))<|.ask (decide ((2:Int) < (2:Int)))
            (.fail)
            (.leaf (.inl (0,(be (aF (aa 0 (List.length a) a))),(aO (aF (aa 0 (List.length a) a))),(be (aF (aa 0 (List.length b) b))),(aO (aF (aa 0 (List.length b) b))))))))
        (.fail)))
    (.fail)
def aaC(a:Lv)(b:Lv)(c:List Int)(d:Nat)(e:List Int)(f:Nat)(g:Bool) :aM:=⟨an 61 [(2,.ptr 0 1 0 0),(3,.ptr 1 1 0 0),(29,.bool false g)],[(0,.vs [.imm a (.ns .u64 c) 1 1 0 d]),(1,.vs [.imm b (.ns .u64 e) 1 1 0 f])],2⟩
def WK(c:Nat)(a:Nat)(b:Nat) :T ((Bool)⊕(gN)) :=
  .ask (((c:Nat):Int) != (0:Int))
    (.leaf (.inr (.r0 0 0 0 c ([]:List Int))))
    (.need (ej .i64 (((a+b):Nat):Int))<|.ask (decide ((((a+b):Nat):Int) > (4097:Int)))
      (.ask (decide (((a:Nat):Int) > (0:Int)))
        (.leaf (.inl (decide (((b:Nat):Int) > (0:Int)))))
        (.leaf (.inl false)))
      (.leaf (.inl false)))
def aaD(c:Lv)(d:Lv)(e:List Int)(f:Nat)(g:List Int)(a:Nat) :Nat×(List Int)→aM:=fun (b,h)=>⟨an 61 [(2,.ptr 0 1 0 0),(3,.ptr 1 1 0 0),(7,.sl 2 1 1 0 b b),(37,.int .i64 ((a:Nat):Int)),(38,.int .i64 (0:Int))],[(0,.vs [.imm c (.ns .u64 e) 1 1 0 f]),(1,.vs [.imm d (.ns .u64 g) 1 1 0 a]),(2,.ns .u64 h)],3⟩
def Lr(a:Nat)(b:Nat)(c:Bool) :T ((Nat×(List Int))⊕(gN)) :=
  .ask c
    (.leaf (.inr (.r0 0 0 0 3 ([]:List Int))))
    (.need (ej .i64 (((a+b):Nat):Int))<|.need (decide ((0:Int)≤(((a+b):Nat):Int)))<|.need (decide ((((a+b):Nat):Int)≤(((a+b):Nat):Int)))<|.need (decide ((8:Int) * (((a+b):Nat):Int)≤140737488355328))<|.need (ej .i64 (((a+b):Nat):Int))<|.leaf (.inl ((a+b),(List.replicate (a+b) (0:Int)))))
def zQ(c:Lv)(d:Lv)(e:List Int)(f:Nat)(g:List Int)(a:Nat)(b:Nat) :Nat×(List Int)→aM:=fun (h,i)=>⟨an 61 [(2,.ptr 0 1 0 0),(3,.ptr 1 1 0 0),(7,.sl 2 1 1 0 b b),(37,.int .i64 ((a:Nat):Int)),(38,.int .i64 ((h:Nat):Int))],[(0,.vs [.imm c (.ns .u64 e) 1 1 0 f]),(1,.vs [.imm d (.ns .u64 g) 1 1 0 a]),(2,.ns .u64 i)],3⟩
def Eg(a:Nat)(b:(List Int)) :aM:=⟨an 61 [(7,.sl 0 1 1 0 a a)],[(0,.ns .u64 b)],1⟩
def Ls:List Code:=bS (bW ((((((qC.drop 2).drop 3).drop 3).take 1)).headD .skip))
def aaE(c:Lv)(d:Lv)(e:List Int)(f:Nat)(g:List Int)(a:Nat)(b:Nat)(h:Nat)(i:(List Int)) :aM:=⟨an 61 [(2,.ptr 0 1 0 0),(3,.ptr 1 1 0 0),(7,.sl 2 1 1 0 b b),(37,.int .i64 ((a:Nat):Int)),(38,.int .i64 ((h:Nat):Int))],[(0,.vs [.imm c (.ns .u64 e) 1 1 0 f]),(1,.vs [.imm d (.ns .u64 g) 1 1 0 a]),(2,.ns .u64 i)],3⟩
def F7(d:List Int)(b:Nat)(e:List Int)(g:Nat)(c:Nat)(a:Nat)(f:List Int) :T (((List Int))⊕(((List Int))⊕(gN))) :=
  .ask (decide (((a:Nat):Int) < ((g:Nat):Int)))
    (.need (ej .i64 (((a+b):Nat):Int))<|.need (NW ((c:Nat):Int) c)<|.need (NW ((a:Nat):Int) c)<|.need (iC ((a:Nat):Int) g)<|.need (jt a (List.length e))<|.need (aR 0 b d)<|.need (Ef (ug f a (c - a) (aa 0 b d) (List.getD e a 0)))<|.need (iC (((a+b):Nat):Int) c)<|.need (jt (a+b) (List.length (x5 (ug f a (c - a) (aa 0 b d) (List.getD e a 0)))))<|.leaf (.inl (List.set (x5 (ug f a (c - a) (aa 0 b d) (List.getD e a 0))) (a+b) (CY (ug f a (c - a) (aa 0 b d) (List.getD e a 0))))))
    (.leaf (.inr (.inl f)))
def WL(a:Nat)(b:List Int) :T ((Nat×(List Int))⊕(((List Int))⊕(gN))) :=
  .need (ej .i64 (((a+1):Nat):Int))<|.leaf (.inl ((a+1),b))
def Lt(b:List Int)(c:Nat)(d:List Int)(e:Nat)(f:Nat) :Nat×(List Int)→Option ((Nat×(List Int))⊕(((List Int))⊕(gN))):=fun (a,g) =>
  aH ((F7 b c d e f a g).run) fun h =>
  (WL a h).run
theorem ai3(g:Lv)(h:Lv)(b:List Int)(c:Nat)(d:List Int)(e:Nat)(a:Nat)(f:Nat)(i:List Int) :Sg prog [] Ls (zQ g h b c d e a (f,i)) (Lt b c d e a (f,i)) (zQ g h b c d e a) (aS 0 (Eg a) sc):=by
  unfold Lt;exact Sg.cut 3 (aN wO) (Sg.seg (C:=C0) ap pc 60 (Ls.take 3) (zQ g h b c d e a (f,i)) (F7 b c d e a f i) (aaE g h b c d e a f) (aS 0 (Eg a) sc) [⟨[],[0,1,2],[2,3,7,37,38]⟩,⟨[],[2],[7]⟩] (by kernel_rfl)) (fun j=>by exact Sg.seg (C:=C0) ap pc 60 (Ls.drop 3) (aaE g h b c d e a f j) (WL f j) (zQ g h b c d e a) (aS 0 (Eg a) sc) [⟨[],[0,1,2],[2,3,7,37,38]⟩] (by kernel_rfl))
def ak3(a:Nat) :(List Int)→aM:=Eg a
def WM:Nat×Nat×Nat×Nat×(List Int)→aM:=fun (a,b,c,d,e)=>⟨an 61 [(4,.sl 0 1 1 a b c),(5,.int .i64 ((d:Nat):Int))],[(0,.ns .u64 e)],1⟩
def Lu(a:Nat)(b:List Int) :T ((Nat×Nat×Nat×Nat×(List Int))⊕(gN)) :=
  .alt 0
    (.need (BM (eG b 0 a a))<|.leaf (.inl (0,0,0,3,([]:List Int))))
    (.alt 1
      (.need (BN (eG b 0 a a))<|.leaf (.inl ((Aw (eG b 0 a a)),(Ax (eG b 0 a a)),(Ay (eG b 0 a a)),0,(Az (eG b 0 a a)))))
      (.fail))
def WN(a:Nat)(b:Nat)(c:Nat)(d:Nat)(e:List Int) :T ((Empty)⊕(gN)) :=
  .leaf (.inr (.r0 a b c d e))
def nA(d:List Int)(e:List Int) :Option gN:=me (aH ((Lq d e).run) fun (f,g,a,h,b) =>
  aH ((WK f a b).run) fun i =>
  aH ((Lr a b i).run) fun (c,j) =>
  aH (eh (Lt g a h b c) (0,j)) fun k =>
  aH ((Lu c k).run) fun (l,m,n,o,p) =>
  (WN l m n o p).run)
theorem ak4(b:Lv)(j:List Int)(c:Lv)(k:List Int){x:gN}(h:nA j k=some x) :ax prog tV [] [.imm b (.ns .u64 j) 1 1 0 (List.length j),.imm c (.ns .u64 k) 1 1 0 (List.length k)] (VA x) :=
  Sg.contract true VA (by kernel_rfl:prog.funcs[tV]? = some (FN tV)) (by kernel_rfl:(FN tV).body=some (bB tV)) (Sg.cut 2 wO (Sg.seg (C:=C0) ap pc 60 (qC.take 2) (aT (FN tV) [] [.imm b (.ns .u64 j) 1 1 0 (List.length j),.imm c (.ns .u64 k) 1 1 0 (List.length k)]) (Lq j k) (aaB b c) sc [⟨[],[0,16],[2,3,6]⟩,⟨[],[0,16],[2,3,6]⟩,⟨[],[0,16],[2,3,6]⟩] (by kernel_rfl)) (fun a=>by obtain ⟨m,f,d,g,e⟩:=a;exact Sg.cut 3 wO (Sg.seg (C:=C0) ap pc 60 ((qC.drop 2).take 3) (aaB b c (m,f,d,g,e)) (WK m d e) (aaC b c f d g e) sc [⟨[(.slot 4,.own 1 1 (.ns .u64 ([]:List Int)))],[82],[4,5]⟩,⟨[],[0,1],[2,3,29]⟩,⟨[],[0,1],[2,3,29]⟩,⟨[],[0,1],[2,3,29]⟩] (by kernel_rfl)) (fun n=>by exact Sg.cut 3 wO (Sg.seg (C:=C0) ap pc 60 (((qC.drop 2).drop 3).take 3) (aaC b c f d g e n) (Lr d e n) (aaD b c f d g e) sc [⟨[(.slot 4,.own 1 1 (.ns .u64 ([]:List Int)))],[34],[4,5]⟩,⟨[],[0,1,82],[2,3,7,37,38]⟩] (by kernel_rfl)) (fun a=>by obtain ⟨i,l⟩:=a;exact Sg.cut 1 wO (Sg.pre ⟨[],[0,1,2],[2,3,7,37,38]⟩ rfl (by kernel_rfl:NS.on ⟨[],[0,1,2],[2,3,7,37,38]⟩ (aaD b c f d g e (i,l))=(zQ b c f d g e i) (0,l)) (cw (I:=(zQ b c f d g e i)) (J:=(Eg i)) (id:=0) (by kernel_rfl:((((qC.drop 2).drop 3).drop 3).take 1) = [.block 0 (.loop (bW ((((((qC.drop 2).drop 3).drop 3).take 1)).headD .skip)))]) wO (ak2 _) (fun s=>by obtain ⟨v,w⟩:=s;exact ai3 b c f d g e i v w) (0,l))) (fun o=>by exact Sg.cut 1 wO (Sg.seg (C:=C0) ap pc 60 (((((qC.drop 2).drop 3).drop 3).drop 1).take 1) (ak3 i o) (Lu i o) WM sc [⟨[(.slot 4,.own 1 1 (.ns .u64 ([]:List Int)))],[97],[4,5]⟩,⟨[],[0],[4,5]⟩] (by kernel_rfl)) (fun a=>by obtain ⟨p,q,r,t,u⟩:=a;exact Sg.seg (C:=C0) ap pc 60 (((((qC.drop 2).drop 3).drop 3).drop 1).drop 1) (WM (p,q,r,t,u)) (WN p q r t u) (fun a:Empty=>a.elim) sc [⟨[],[0],[4,5]⟩] (by kernel_rfl)))))))
    (fun x=>by cases x with | r0 y z A B D=>exact ⟨.inr rfl,[.sl 0 1 1 y z A,.int .i64 ((B:Nat):Int)],[],by kernel_rfl,trivial,by kernel_rfl⟩) h
def IW:Option gN→Bool
  | some _=>true
  | none=>false
def IX:Option gN→Nat
  | some (.r0 x _ _ _ _)=>x
  | _=>0
def IY:Option gN→Nat
  | some (.r0 _ x _ _ _)=>x
  | _=>0
def Sw:Option gN→Nat
  | some (.r0 _ _ x _ _)=>x
  | _=>0
def IZ:Option gN→Nat
  | some (.r0 _ _ _ x _)=>x
  | _=>0
def I0:Option gN→List Int
  | some (.r0 _ _ _ _ x)=>x
  | _=>[]
theorem ak5{x:Option gN}(h:IW x=true) :x=some (.r0 (IX x) (IY x) (Sw x) (IZ x) (I0 x)):=by
  unfold IW at h
  split at h <;> first | rfl | (cases h;done) | (rename_i y;cases y;rfl)
def aeY:aL:=cn tV (.cons (.ns .u64) (.cons (.ns .u64) .nil)) fun t=>[⟨VA (.r0 (IX (nA t.1.2 t.2.1.2)) (IY (nA t.1.2 t.2.1.2)) (Sw (nA t.1.2 t.2.1.2)) (IZ (nA t.1.2 t.2.1.2)) (I0 (nA t.1.2 t.2.1.2))),[IW (nA t.1.2 t.2.1.2)]⟩]
theorem agk:aV prog aeY:=aP fun t=>(aQ (fun h=>ak4 t.1.1 t.1.2 t.2.1.1 t.2.1.2 (ak5 h)) ba)
def aeZ:List aL:=aeY :: aeX
theorem uh:bf prog (bi aeZ):=aw agk pc
inductive j5 where
  | r0 (a:Nat) (b:Nat) (c:Nat) (d:List Int)
def xi:j5→AE×aM
  | .r0 a b c d=>(.ret,⟨an 59 [(4,.sl 0 1 1 a b c)],[(0,.ns .u64 d)],1⟩)
theorem Eh:l9 xi:=by intro x;cases x <;> (intro h;cases h)
theorem ak6(id:Nat) :rL id xi:=by intro x;cases x <;> (intro h;cases h)
def VB:j5→jv
  | .r0 a b d c=>⟨.imm .free (.ns .u64 c) 1 1 a b,[]⟩
def zR:List Code:=bS (bB uc)
def aaF(c:Lv)(a:List Int) :Int×Int×Nat×(List Int)→aM:=fun (d,r2,b,e)=>⟨an 59 [(0,.imm c (.ns .u64 a) 1 1 0 (List.length a)),(5,.int .i64 d),(6,.int .u64 r2),(7,.sl 0 1 1 0 b b),(24,.int .i64 (((List.length a):Nat):Int)),(25,.int .i64 (0:Int))],[(0,.ns .u64 e)],1⟩
def Lw(b:List Int)(a:Int) :T ((Int×Int×Nat×(List Int))⊕(j5)) :=
  .ask ((((List.length b):Nat):Int) == (0:Int))
    (.leaf (.inr (.r0 0 0 0 ([]:List Int))))
    (.need ((64:Int) != (0:Int))<|.need (ej .i64 (Int.tdiv a (64:Int)))<|.need ((64:Int) != (0:Int))<|.need (ej .i64 ((((List.length b):Nat):Int)+(Int.tdiv a (64:Int))))<|.need (ej .i64 (((((List.length b):Nat):Int)+(Int.tdiv a (64:Int)))+(1:Int)))<|.need (decide ((0:Int)≤(((((List.length b):Nat):Int)+(Int.tdiv a (64:Int)))+(1:Int))))<|.need (decide ((((((List.length b):Nat):Int)+(Int.tdiv a (64:Int)))+(1:Int))≤(((((List.length b):Nat):Int)+(Int.tdiv a (64:Int)))+(1:Int))))<|.need (decide ((8:Int) * (((((List.length b):Nat):Int)+(Int.tdiv a (64:Int)))+(1:Int))≤140737488355328))<|.need (ej .i64 (((((List.length b):Nat):Int)+(Int.tdiv a (64:Int)))+(1:Int)))<|.leaf (.inl ((Int.tdiv a (64:Int)),(IntKind.u64.wrap (Int.tmod a (64:Int))),(Int.toNat (((((List.length b):Nat):Int)+(Int.tdiv a (64:Int)))+(1:Int))),(List.replicate (Int.toNat (((((List.length b):Nat):Int)+(Int.tdiv a (64:Int)))+(1:Int))) (0:Int)))))
def zS(c:Lv)(a:List Int)(d:Int)(r2:Int)(b:Nat) :Nat×(List Int)→aM:=fun (e,f)=>⟨an 59 [(0,.imm c (.ns .u64 a) 1 1 0 (List.length a)),(5,.int .i64 d),(6,.int .u64 r2),(7,.sl 0 1 1 0 b b),(24,.int .i64 (((List.length a):Nat):Int)),(25,.int .i64 ((e:Nat):Int))],[(0,.ns .u64 f)],1⟩
def Ei(a:Nat)(b:(List Int)) :aM:=⟨an 59 [(7,.sl 0 1 1 0 a a)],[(0,.ns .u64 b)],1⟩
def Lx:List Code:=bS (bW ((((zR.drop 6).take 1)).headD .skip))
def aaG(c:Lv)(a:List Int)(d:Int)(r2:Int)(b:Nat)(e:Nat)(f:(List Int)) :aM:=⟨an 59 [(0,.imm c (.ns .u64 a) 1 1 0 (List.length a)),(5,.int .i64 d),(6,.int .u64 r2),(7,.sl 0 1 1 0 b b),(24,.int .i64 (((List.length a):Nat):Int)),(25,.int .i64 ((e:Nat):Int))],[(0,.ns .u64 f)],1⟩
def BQ(c:List Int)(b:Int)(r2:Int)(e:Nat)(a:Nat)(d:List Int) :T (((List Int))⊕(((List Int))⊕(j5))) :=
  .ask (decide (((a:Nat):Int) < (((List.length c):Nat):Int)))
    (.need (ej .i64 (((a:Nat):Int)+b))<|.need (iC (((a:Nat):Int)+b) e)<|.need (jt (Int.toNat (((a:Nat):Int)+b)) (List.length d))<|.need (iC ((a:Nat):Int) (List.length c))<|.need (jt a (List.length c))<|.need (decide ((0:Int)≤r2))<|.need (iC (((a:Nat):Int)+b) e)<|.need (jt (Int.toNat (((a:Nat):Int)+b)) (List.length d))<|.need (ej .i64 (((a:Nat):Int)+b))<|.need (ej .i64 ((((a:Nat):Int)+b)+(1:Int)))<|.need (iC ((a:Nat):Int) (List.length c))<|.need (jt a (List.length c))<|.need (decide ((0:Int)≤(1:Int)))<|.need (decide ((0:Int)≤(IntKind.u64.wrap ((63:Int) - r2))))<|.need (iC ((((a:Nat):Int)+b)+(1:Int)) e)<|.need (jt (Int.toNat ((((a:Nat):Int)+b)+(1:Int))) (List.length (List.set d (Int.toNat (((a:Nat):Int)+b)) (fv .or .u64 (List.getD d (Int.toNat (((a:Nat):Int)+b)) 0) (IntKind.u64.wrap ((List.getD c a 0) * 2 ^ (min (Int.toNat r2) (IntKind.u64.bits))))))))<|.leaf (.inl (List.set (List.set d (Int.toNat (((a:Nat):Int)+b)) (fv .or .u64 (List.getD d (Int.toNat (((a:Nat):Int)+b)) 0) (IntKind.u64.wrap ((List.getD c a 0) * 2 ^ (min (Int.toNat r2) (IntKind.u64.bits)))))) (Int.toNat ((((a:Nat):Int)+b)+(1:Int))) (Int.fdiv (Int.fdiv (List.getD c a 0) (2 ^ (min (Int.toNat (1:Int)) (IntKind.u64.bits)))) (2 ^ (min (Int.toNat (IntKind.u64.wrap ((63:Int) - r2))) (IntKind.u64.bits)))))))
    (.leaf (.inr (.inl d)))
def WO(a:Nat)(b:List Int) :T ((Nat×(List Int))⊕(((List Int))⊕(j5))) :=
  .need (ej .i64 (((a+1):Nat):Int))<|.leaf (.inl ((a+1),b))
def Ly(b:List Int)(c:Int)(r2:Int)(d:Nat) :Nat×(List Int)→Option ((Nat×(List Int))⊕(((List Int))⊕(j5))):=fun (a,e) =>
  aH ((BQ b c r2 d a e).run) fun f =>
  (WO a f).run
theorem ai4(e:Lv)(b:List Int)(c:Int)(r2:Int)(a:Nat)(d:Nat)(f:List Int) :Sg prog [] Lx (zS e b c r2 a (d,f)) (Ly b c r2 a (d,f)) (zS e b c r2 a) (aS 0 (Ei a) xi):=by
  unfold Ly;exact Sg.cut 3 (aN Eh) (Sg.seg (C:=C0) ap uh 60 (Lx.take 3) (zS e b c r2 a (d,f)) (BQ b c r2 a d f) (aaG e b c r2 a d) (aS 0 (Ei a) xi) [⟨[],[0],[0,5,6,7,24,25]⟩,⟨[],[0],[7]⟩] (by kernel_rfl)) (fun g=>by exact Sg.seg (C:=C0) ap uh 60 (Lx.drop 3) (aaG e b c r2 a d g) (WO d g) (zS e b c r2 a) (aS 0 (Ei a) xi) [⟨[],[0],[0,5,6,7,24,25]⟩] (by kernel_rfl))
def ak7(a:Nat) :(List Int)→aM:=Ei a
def aaH:Nat×Nat×Nat×(List Int)→aM:=fun (a,b,c,d)=>⟨an 59 [(4,.sl 0 1 1 a b c)],[(0,.ns .u64 d)],1⟩
def Lz(a:Nat)(b:List Int) :T ((Nat×Nat×Nat×(List Int))⊕(j5)) :=
  .need (lw (bG b 0 a a))<|.leaf (.inl ((kw (bG b 0 a a)),(kB (bG b 0 a a)),(kC (bG b 0 a a)),(kD (bG b 0 a a))))
def WP(a:Nat)(b:Nat)(c:Nat)(d:List Int) :T ((Empty)⊕(j5)) :=
  .leaf (.inr (.r0 a b c d))
def e9(a:List Int)(c:Int) :Option j5:=me (aH ((Lw a c).run) fun (d,r2,b,e) =>
  aH (eh (Ly a d r2 b) (0,e)) fun f =>
  aH ((Lz b f).run) fun (g,h,i,j) =>
  (WP g h i j).run)
theorem ak8(c:Lv)(b:List Int)(e:Int){x:j5}(h:e9 b e=some x) :ax prog uc [] [.imm c (.ns .u64 b) 1 1 0 (List.length b),.int .i64 e] (VB x) :=
  Sg.contract true VB (by kernel_rfl:prog.funcs[uc]? = some (FN uc)) (by kernel_rfl:(FN uc).body=some (bB uc)) (Sg.cut 6 Eh (Sg.seg (C:=C0) ap uh 60 (zR.take 6) (aT (FN uc) [] [.imm c (.ns .u64 b) 1 1 0 (List.length b),.int .i64 e]) (Lw b e) (aaF c b) xi [⟨[(.slot 4,.own 1 1 (.ns .u64 ([]:List Int)))],[80],[4]⟩,⟨[],[256],[0,5,6,7,24,25]⟩] (by kernel_rfl)) (fun a=>by obtain ⟨f,r2,d,g⟩:=a;exact Sg.cut 1 Eh (Sg.pre ⟨[],[0],[0,5,6,7,24,25]⟩ rfl (by kernel_rfl:NS.on ⟨[],[0],[0,5,6,7,24,25]⟩ (aaF c b (f,r2,d,g))=(zS c b f r2 d) (0,g)) (cw (I:=(zS c b f r2 d)) (J:=(Ei d)) (id:=0) (by kernel_rfl:((zR.drop 6).take 1) = [.block 0 (.loop (bW ((((zR.drop 6).take 1)).headD .skip)))]) Eh (ak6 _) (fun s=>by obtain ⟨n,o⟩:=s;exact ai4 c b f r2 d n o) (0,g))) (fun i=>by exact Sg.cut 1 Eh (Sg.seg (C:=C0) ap uh 60 (((zR.drop 6).drop 1).take 1) (ak7 d i) (Lz d i) aaH xi [⟨[],[0],[4]⟩] (by kernel_rfl)) (fun a=>by obtain ⟨j,k,l,m⟩:=a;exact Sg.seg (C:=C0) ap uh 60 (((zR.drop 6).drop 1).drop 1) (aaH (j,k,l,m)) (WP j k l m) (fun a:Empty=>a.elim) xi [⟨[],[0],[4]⟩] (by kernel_rfl)))))
    (fun x=>by cases x with | r0 p q r t=>exact ⟨.inr rfl,[.sl 0 1 1 p q r],[],by kernel_rfl,trivial,by kernel_rfl⟩) h
def Ej:Option j5→Bool
  | some _=>true
  | none=>false
def pd:Option j5→Nat
  | some (.r0 x _ _ _)=>x
  | _=>0
def pe:Option j5→Nat
  | some (.r0 _ x _ _)=>x
  | _=>0
def Sx:Option j5→Nat
  | some (.r0 _ _ x _)=>x
  | _=>0
def pf:Option j5→List Int
  | some (.r0 _ _ _ x)=>x
  | _=>[]
theorem ak9{x:Option j5}(h:Ej x=true) :x=some (.r0 (pd x) (pe x) (Sx x) (pf x)):=by
  unfold Ej at h
  split at h <;> first | rfl | (cases h;done) | (rename_i y;cases y;rfl)
def ae0:aL:=cn uc (.cons (.ns .u64) (.cons (.int .i64) .nil)) fun t=>[⟨VB (.r0 (pd (e9 t.1.2 t.2.1)) (pe (e9 t.1.2 t.2.1)) (Sx (e9 t.1.2 t.2.1)) (pf (e9 t.1.2 t.2.1))),[Ej (e9 t.1.2 t.2.1)]⟩]
theorem agl:aV prog ae0:=aP fun t=>(aQ (fun h=>ak8 t.1.1 t.1.2 t.2.1 (ak9 h)) ba)
def ae1:List aL:=ae0 :: aeZ
theorem I1:bf prog (bi ae1):=aw agl uh
inductive ir where
  | r0 (a:List Int) (b:Nat) (c:Nat)
def GM(a:Lv) :ir→AE×aM
  | .r0 b c d=>(.ret,⟨an 10 [(2,.imm a (.ns .u64 b) 1 1 0 c),(3,.int .i64 ((d:Nat):Int))],[],0⟩)
theorem aaI{a:Lv} :l9 (GM a):=by intro x;cases x <;> (intro h;cases h)
def GN(a:Lv) :ir→jv
  | .r0 b c d=>⟨.tup [.imm a (.ns .u64 b) 1 1 0 c,.int .i64 ((d:Nat):Int)],[]⟩
def LA:List Code:=bS (bB gg)
def LB(a:Lv) :(List Int)×Nat→aM:=fun (b,c)=>⟨an 10 [(0,.imm a (.ns .u64 b) 1 1 0 c)],[],0⟩
def Ek(a:List Int) :T (((List Int)×Nat)⊕(ir)) :=
  .need (aR 0 (List.length a) a)<|.need (c7 (aF (aa 0 (List.length a) a)))<|.leaf (.inl ((be (aF (aa 0 (List.length a) a))),(aO (aF (aa 0 (List.length a) a)))))
def LC(b:List Int)(a:Nat) :T ((Empty)⊕(ir)) :=
  .ask (decide (((a:Nat):Int) > (4096:Int)))
    (.leaf (.inr (.r0 ([]:List Int) 0 3)))
    (.leaf (.inr (.r0 b a 0)))
def jw(a:List Int) :Option ir:=me (aH ((Ek a).run) fun (b,c) =>
  (LC b c).run)
theorem aaJ(b:Lv)(c:List Int){x:ir}(h:jw c=some x) :ax prog gg [] [.imm b (.ns .u64 c) 1 1 0 (List.length c)] (GN b x) :=
  Sg.contract false (GN b) (by kernel_rfl:prog.funcs[gg]? = some (FN gg)) (by kernel_rfl:(FN gg).body=some (bB gg)) (Sg.cut 2 aaI (Sg.seg (C:=C0) ap I1 60 (LA.take 2) (aT (FN gg) [] [.imm b (.ns .u64 c) 1 1 0 (List.length c)]) (Ek c) (LB b) (GM b) [⟨[],[],[0]⟩] (by kernel_rfl)) (fun a=>by obtain ⟨d,e⟩:=a;exact Sg.seg (C:=C0) ap I1 60 (LA.drop 2) (LB b (d,e)) (LC d e) (fun a:Empty=>a.elim) (GM b) [⟨[(.slot 2,.fre 1 1 (.ns .u64 ([]:List Int))),(.slot 2,.lev b)],[],[2,3]⟩,⟨[],[],[2,3]⟩] (by kernel_rfl)))
    (fun x=>by cases x with | r0 f g i=>exact ⟨.inr rfl,[.imm b (.ns .u64 f) 1 1 0 g,.int .i64 ((i:Nat):Int)],[],by kernel_rfl,trivial,by kernel_rfl⟩) h
def x6:Option ir→Bool
  | some _=>true
  | none=>false
def zT:Option ir→List Int
  | some (.r0 x _ _)=>x
  | _=>[]
def zU:Option ir→Nat
  | some (.r0 _ x _)=>x
  | _=>0
def zV:Option ir→Nat
  | some (.r0 _ _ x)=>x
  | _=>0
theorem aaK{x:Option ir}(h:x6 x=true) :x=some (.r0 (zT x) (zU x) (zV x)):=by
  unfold x6 at h
  split at h <;> first | rfl | (cases h;done) | (rename_i y;cases y;rfl)
def Od:aL:=cn gg (.cons (.ns .u64) .nil) fun t=>[⟨GN t.1.1 (.r0 (zT (jw t.1.2)) (zU (jw t.1.2)) (zV (jw t.1.2))),[x6 (jw t.1.2)]⟩]
theorem VC:aV prog Od:=aP fun t=>(aQ (fun h=>aaJ t.1.1 t.1.2 (aaK h)) ba)
def Oe:List aL:=Od :: ae1
theorem qf:bf prog (bi Oe):=aw VC I1
inductive nB where
  | r0 (a:List Int) (b:Nat) (c:Nat)
def Ic:nB→AE×aM
  | .r0 a b c=>(.ret,⟨an 30 [(4,.imm .free (.ns .u64 a) 1 1 0 b),(5,.int .i64 ((c:Nat):Int))],[],0⟩)
theorem Rb:l9 Ic:=by intro x;cases x <;> (intro h;cases h)
def VD:nB→jv
  | .r0 a b c=>⟨.tup [.imm .free (.ns .u64 a) 1 1 0 b,.int .i64 ((c:Nat):Int)],[]⟩
def I2:List Code:=bS (bB ub)
def aaL(a:Lv)(b:Int) :Nat×(List Int)×Nat→aM:=fun (c,d,e)=>⟨an 30 [(1,.int .i64 b),(2,.ptr 0 1 0 0),(6,.int .i64 ((c:Nat):Int))],[(0,.vs [.imm a (.ns .u64 d) 1 1 0 e])],1⟩
def Rc(a:List Int) :T ((Nat×(List Int)×Nat)⊕(nB)) :=
  .ask (decide ((0:Int) < (1:Int)))
    (.need (iC (0:Int) 1)<|.need (aR 0 (List.length a) a)<|.need (c7 (aF (aa 0 (List.length a) a)))<|.ask (decide ((((aO (aF (aa 0 (List.length a) a))):Nat):Int) > (4096:Int)))
      (.leaf (.inl (2,(be (aF (aa 0 (List.length a) a))),(aO (aF (aa 0 (List.length a) a))))))
      (.need (ej .i64 (1:Int))<|.ask (decide ((1:Int) < (1:Int)))
        (.fail)
        (.leaf (.inl (0,(be (aF (aa 0 (List.length a) a))),(aO (aF (aa 0 (List.length a) a))))))))
    (.fail)
def aaM(a:Lv)(b:Int)(c:List Int)(d:Nat)(_:Unit) :aM:=⟨an 30 [(1,.int .i64 b),(2,.ptr 0 1 0 0)],[(0,.vs [.imm a (.ns .u64 c) 1 1 0 d])],1⟩
def aaN(a:Int)(b:Nat)(c:Nat) :T ((Unit)⊕(nB)) :=
  .ask (((b:Nat):Int) != (0:Int))
    (.leaf (.inr (.r0 ([]:List Int) 0 2)))
    (.ask (decide (a < (0:Int)))
      (.leaf (.inr (.r0 ([]:List Int) 0 2)))
      (.ask (decide (((c:Nat):Int) > (0:Int)))
        (.ask (decide (a ≥ (262144:Int)))
          (.leaf (.inr (.r0 ([]:List Int) 0 3)))
          (.leaf (.inl ())))
        (.leaf (.inl ()))))
def aaO:(List Int)×Nat×Nat→aM:=fun (a,b,c)=>⟨an 30 [(4,.imm .free (.ns .u64 a) 1 1 0 b),(5,.int .i64 ((c:Nat):Int))],[],0⟩
def I3(c:Int)(a:List Int)(b:Nat) :T (((List Int)×Nat×Nat)⊕(nB)) :=
  .need (aR 0 b a)<|.need (Ej (e9 (aa 0 b a) c))<|.need (aR (pd (e9 (aa 0 b a) c)) (pe (e9 (aa 0 b a) c)) (pf (e9 (aa 0 b a) c)))<|.need (x6 (jw (aa (pd (e9 (aa 0 b a) c)) (pe (e9 (aa 0 b a) c)) (pf (e9 (aa 0 b a) c)))))<|.leaf (.inl ((zT (jw (aa (pd (e9 (aa 0 b a) c)) (pe (e9 (aa 0 b a) c)) (pf (e9 (aa 0 b a) c))))),(zU (jw (aa (pd (e9 (aa 0 b a) c)) (pe (e9 (aa 0 b a) c)) (pf (e9 (aa 0 b a) c))))),(zV (jw (aa (pd (e9 (aa 0 b a) c)) (pe (e9 (aa 0 b a) c)) (pf (e9 (aa 0 b a) c)))))))
def aaP(a:List Int)(b:Nat)(c:Nat) :T ((Empty)⊕(nB)) :=
  .leaf (.inr (.r0 a b c))
def ik(c:List Int)(a:Int) :Option nB:=me (aH ((Rc c).run) fun (d,e,b) =>
  aH ((aaN a d b).run) fun _ =>
  aH ((I3 a e b).run) fun (f,g,h) =>
  (aaP f g h).run)
theorem ala(c:Lv)(d:List Int)(b:Int){x:nB}(h:ik d b=some x) :ax prog ub [] [.imm c (.ns .u64 d) 1 1 0 (List.length d),.int .i64 b] (VD x) :=
  Sg.contract true VD (by kernel_rfl:prog.funcs[ub]? = some (FN ub)) (by kernel_rfl:(FN ub).body=some (bB ub)) (Sg.cut 2 Rb (Sg.seg (C:=C0) ap qf 60 (I2.take 2) (aT (FN ub) [] [.imm c (.ns .u64 d) 1 1 0 (List.length d),.int .i64 b]) (Rc d) (aaL c b) Ic [⟨[],[0],[1,2,6]⟩,⟨[],[0],[1,2,6]⟩] (by kernel_rfl)) (fun a=>by obtain ⟨g,f,e⟩:=a;exact Sg.cut 1 Rb (Sg.seg (C:=C0) ap qf 60 ((I2.drop 2).take 1) (aaL c b (g,f,e)) (aaN b g e) (aaM c b f e) Ic [⟨[(.slot 4,.fre 1 1 (.ns .u64 ([]:List Int)))],[],[4,5]⟩,⟨[(.slot 4,.fre 1 1 (.ns .u64 ([]:List Int)))],[],[4,5]⟩,⟨[(.slot 4,.fre 1 1 (.ns .u64 ([]:List Int)))],[],[4,5]⟩,⟨[],[0],[1,2]⟩,⟨[],[0],[1,2]⟩] (by kernel_rfl)) (fun a=>by cases a;exact Sg.cut 1 Rb (Sg.seg (C:=C0) ap qf 60 (((I2.drop 2).drop 1).take 1) (aaM c b f e ()) (I3 b f e) aaO Ic [⟨[],[],[4,5]⟩] (by kernel_rfl)) (fun a=>by obtain ⟨i,j,k⟩:=a;exact Sg.seg (C:=C0) ap qf 60 (((I2.drop 2).drop 1).drop 1) (aaO (i,j,k)) (aaP i j k) (fun a:Empty=>a.elim) Ic [⟨[],[],[4,5]⟩] (by kernel_rfl)))))
    (fun x=>by cases x with | r0 l m n=>exact ⟨.inr rfl,[.imm .free (.ns .u64 l) 1 1 0 m,.int .i64 ((n:Nat):Int)],[],by kernel_rfl,trivial,by kernel_rfl⟩) h
def zW:Option nB→Bool
  | some _=>true
  | none=>false
def ui:Option nB→List Int
  | some (.r0 x _ _)=>x
  | _=>[]
def uj:Option nB→Nat
  | some (.r0 _ x _)=>x
  | _=>0
def Sy:Option nB→Nat
  | some (.r0 _ _ x)=>x
  | _=>0
theorem alb{x:Option nB}(h:zW x=true) :x=some (.r0 (ui x) (uj x) (Sy x)):=by
  unfold zW at h
  split at h <;> first | rfl | (cases h;done) | (rename_i y;cases y;rfl)
def ae2:aL:=cn ub (.cons (.ns .u64) (.cons (.int .i64) .nil)) fun t=>[⟨VD (.r0 (ui (ik t.1.2 t.2.1)) (uj (ik t.1.2 t.2.1)) (Sy (ik t.1.2 t.2.1))),[zW (ik t.1.2 t.2.1)]⟩]
theorem agm:aV prog ae2:=aP fun t=>(aQ (fun h=>ala t.1.1 t.1.2 t.2.1 (alb h)) ba)
def ae3:List aL:=ae2 :: Oe
theorem mG:bf prog (bi ae3):=aw agm qf
end
end Go.Plb.Seat
namespace Go.Plb.Seat
open Go Go.Plb
set_option linter.unusedVariables false
set_option maxRecDepth 100000
noncomputable section
inductive fF where
  | r0 (a:Nat) (b:Nat) (c:Nat) (d:Bool) (e:List Int)
def oj:fF→AE×aM
  | .r0 a b c d e=>(.ret,⟨an 97 [(4,.sl 0 1 1 a b c),(5,.bool false d)],[(0,.ns .u64 e)],1⟩)
theorem qY:l9 oj:=by intro x;cases x <;> (intro h;cases h)
theorem aaQ(id:Nat) :rL id oj:=by intro x;cases x <;> (intro h;cases h)
def VE:fF→jv
  | .r0 a b e c d=>⟨.tup [.imm .free (.ns .u64 d) 1 1 a b,.bool false c],[]⟩
def mV:List Code:=bS (bB t6)
def aaR(b:Lv)(a:List Int) :Int×Int×Bool×Nat×Nat→aM:=fun (c,r2,d,e,f)=>⟨an 97 [(0,.imm b (.ns .u64 a) 1 1 0 (List.length a)),(6,.int .i64 c),(7,.int .u64 r2),(8,.bool false d),(36,.imm b (.ns .u64 a) 1 1 0 e),(37,.int .i64 ((f:Nat):Int)),(38,.int .i64 (0:Int))],[],0⟩
def F8(b:List Int)(a:Int) :T ((Int×Int×Bool×Nat×Nat)⊕(fF)) :=
  .need ((64:Int) != (0:Int))<|.need (ej .i64 (Int.tdiv a (64:Int)))<|.need ((64:Int) != (0:Int))<|.ask (decide ((Int.tdiv a (64:Int)) ≥ (((List.length b):Nat):Int)))
    (.leaf (.inr (.r0 0 0 0 (decide ((((List.length b):Nat):Int) > (0:Int))) ([]:List Int))))
    (.need (iC (Int.tdiv a (64:Int)) (List.length b))<|.need (jt (Int.toNat (Int.tdiv a (64:Int))) (List.length b))<|.need (decide ((0:Int)≤(IntKind.u64.wrap (Int.tmod a (64:Int)))))<|.need (NW (Int.tdiv a (64:Int)) (List.length b))<|.need (NW (0:Int) (Int.toNat (Int.tdiv a (64:Int))))<|.leaf (.inl ((Int.tdiv a (64:Int)),(IntKind.u64.wrap (Int.tmod a (64:Int))),((fv .and .u64 (List.getD b (Int.toNat (Int.tdiv a (64:Int))) 0) (IntKind.u64.wrap ((IntKind.u64.wrap ((1:Int) * 2 ^ (min (Int.toNat (IntKind.u64.wrap (Int.tmod a (64:Int)))) (IntKind.u64.bits)))) - (1:Int)))) != (0:Int)),(Int.toNat (Int.tdiv a (64:Int))),(Int.toNat (Int.tdiv a (64:Int))))))
def zX(b:Lv)(a:List Int)(c:Int)(r2:Int)(d:Nat)(e:Nat) :Bool×Nat→aM:=fun (f,g)=>⟨an 97 [(0,.imm b (.ns .u64 a) 1 1 0 (List.length a)),(6,.int .i64 c),(7,.int .u64 r2),(8,.bool false f),(36,.imm b (.ns .u64 a) 1 1 0 d),(37,.int .i64 ((e:Nat):Int)),(38,.int .i64 ((g:Nat):Int))],[],0⟩
def El(b:Lv)(a:List Int)(c:Int)(r2:Int)(d:Bool) :aM:=⟨an 97 [(0,.imm b (.ns .u64 a) 1 1 0 (List.length a)),(6,.int .i64 c),(7,.int .u64 r2),(8,.bool false d)],[],0⟩
def LD:List Code:=bS (bW ((((mV.drop 6).take 1)).headD .skip))
def aaS(b:Lv)(a:List Int)(c:Int)(r2:Int)(d:Nat)(e:Nat)(f:Nat)(g:Bool) :aM:=⟨an 97 [(0,.imm b (.ns .u64 a) 1 1 0 (List.length a)),(6,.int .i64 c),(7,.int .u64 r2),(8,.bool false g),(36,.imm b (.ns .u64 a) 1 1 0 d),(37,.int .i64 ((e:Nat):Int)),(38,.int .i64 ((f:Nat):Int))],[],0⟩
def BS(b:List Int)(d:Nat)(e:Nat)(c:Bool)(a:Nat) :T ((Bool)⊕((Bool)⊕(fF))) :=
  .ask (decide (((a:Nat):Int) < ((e:Nat):Int)))
    (.need (iC ((a:Nat):Int) d)<|.need (jt a (List.length b))<|.ask c
      (.leaf (.inl true))
      (.leaf (.inl ((List.getD b a 0) != (0:Int)))))
    (.leaf (.inr (.inl c)))
def WQ(a:Nat)(b:Bool) :T ((Bool×Nat)⊕((Bool)⊕(fF))) :=
  .need (ej .i64 (((a+1):Nat):Int))<|.leaf (.inl (b,(a+1)))
def LE(b:List Int)(c:Nat)(d:Nat) :Bool×Nat→Option ((Bool×Nat)⊕((Bool)⊕(fF))):=fun (e,a) =>
  aH ((BS b c d e a).run) fun f =>
  (WQ a f).run
theorem ai5(b:Lv)(a:List Int)(c:Int)(r2:Int)(d:Nat)(e:Nat)(g:Bool)(f:Nat) :Sg prog [] LD (zX b a c r2 d e (g,f)) (LE a d e (g,f)) (zX b a c r2 d e) (aS 0 (El b a c r2) oj):=by
  unfold LE;exact Sg.cut 3 (aN qY) (Sg.seg (C:=C0) ap mG 60 (LD.take 3) (zX b a c r2 d e (g,f)) (BS a d e g f) (aaS b a c r2 d e f) (aS 0 (El b a c r2) oj) [⟨[],[],[0,6,7,8,36,37,38]⟩,⟨[],[],[0,6,7,8,36,37,38]⟩,⟨[],[],[0,6,7,8]⟩] (by kernel_rfl)) (fun h=>by exact Sg.seg (C:=C0) ap mG 60 (LD.drop 3) (aaS b a c r2 d e f h) (WQ f h) (zX b a c r2 d e) (aS 0 (El b a c r2) oj) [⟨[],[],[0,6,7,8,36,37,38]⟩] (by kernel_rfl))
def alc(a:Lv)(b:List Int)(c:Int)(r2:Int) :Bool→aM:=El a b c r2
def aaT(c:Lv)(a:List Int)(d:Int)(r2:Int)(e:Bool) :Nat×Nat×(List Int)→aM:=fun (b,f,g)=>⟨an 97 [(0,.imm c (.ns .u64 a) 1 1 0 (List.length a)),(6,.int .i64 d),(7,.int .u64 r2),(8,.bool false e),(11,.sl 0 1 1 0 b b),(54,.int .i64 ((f:Nat):Int)),(55,.int .i64 (0:Int))],[(0,.ns .u64 g)],1⟩
def F9(a:List Int)(b:Int) :T ((Nat×Nat×(List Int))⊕(fF)) :=
  .need (ej .i64 ((((List.length a):Nat):Int) - b))<|.need (decide ((0:Int)≤((((List.length a):Nat):Int) - b)))<|.need (decide (((((List.length a):Nat):Int) - b)≤((((List.length a):Nat):Int) - b)))<|.need (decide ((8:Int) * ((((List.length a):Nat):Int) - b)≤140737488355328))<|.need (ej .i64 ((((List.length a):Nat):Int) - b))<|.leaf (.inl ((Int.toNat ((((List.length a):Nat):Int) - b)),(Int.toNat ((((List.length a):Nat):Int) - b)),(List.replicate (Int.toNat ((((List.length a):Nat):Int) - b)) (0:Int))))
def xj(c:Lv)(a:List Int)(d:Int)(r2:Int)(e:Bool)(b:Nat)(f:Nat) :Nat×(List Int)→aM:=fun (g,h)=>⟨an 97 [(0,.imm c (.ns .u64 a) 1 1 0 (List.length a)),(6,.int .i64 d),(7,.int .u64 r2),(8,.bool false e),(11,.sl 0 1 1 0 b b),(54,.int .i64 ((f:Nat):Int)),(55,.int .i64 ((g:Nat):Int))],[(0,.ns .u64 h)],1⟩
def BT(b:Bool)(a:Nat)(c:(List Int)) :aM:=⟨an 97 [(8,.bool false b),(11,.sl 0 1 1 0 a a)],[(0,.ns .u64 c)],1⟩
def LF:List Code:=bS (bW ((((((mV.drop 6).drop 1).drop 2).take 1)).headD .skip))
def WR(c:Lv)(a:List Int)(d:Int)(r2:Int)(e:Bool)(b:Nat)(f:Nat)(g:Nat)(h:(List Int)) :aM:=⟨an 97 [(0,.imm c (.ns .u64 a) 1 1 0 (List.length a)),(6,.int .i64 d),(7,.int .u64 r2),(8,.bool false e),(11,.sl 0 1 1 0 b b),(54,.int .i64 ((f:Nat):Int)),(55,.int .i64 ((g:Nat):Int))],[(0,.ns .u64 h)],1⟩
def BU(c:List Int)(b:Int)(r2:Int)(e:Nat)(f:Nat)(a:Nat)(d:List Int) :T (((List Int))⊕(((List Int))⊕(fF))) :=
  .ask (decide (((a:Nat):Int) < ((f:Nat):Int)))
    (.need (ej .i64 (((a:Nat):Int)+b))<|.need (iC (((a:Nat):Int)+b) (List.length c))<|.need (jt (Int.toNat (((a:Nat):Int)+b)) (List.length c))<|.need (decide ((0:Int)≤r2))<|.need (iC ((a:Nat):Int) e)<|.need (jt a (List.length d))<|.need (ej .i64 (((a:Nat):Int)+b))<|.need (ej .i64 ((((a:Nat):Int)+b)+(1:Int)))<|.ask (decide (((((a:Nat):Int)+b)+(1:Int)) < (((List.length c):Nat):Int)))
      (.need (iC ((a:Nat):Int) e)<|.need (jt a (List.length (List.set d a (Int.fdiv (List.getD c (Int.toNat (((a:Nat):Int)+b)) 0) (2 ^ (min (Int.toNat r2) (IntKind.u64.bits)))))))<|.need (ej .i64 (((a:Nat):Int)+b))<|.need (ej .i64 ((((a:Nat):Int)+b)+(1:Int)))<|.need (iC ((((a:Nat):Int)+b)+(1:Int)) (List.length c))<|.need (jt (Int.toNat ((((a:Nat):Int)+b)+(1:Int))) (List.length c))<|.need (decide ((0:Int)≤(1:Int)))<|.need (decide ((0:Int)≤(IntKind.u64.wrap ((63:Int) - r2))))<|.need (iC ((a:Nat):Int) e)<|.need (jt a (List.length (List.set d a (Int.fdiv (List.getD c (Int.toNat (((a:Nat):Int)+b)) 0) (2 ^ (min (Int.toNat r2) (IntKind.u64.bits)))))))<|.leaf (.inl (List.set (List.set d a (Int.fdiv (List.getD c (Int.toNat (((a:Nat):Int)+b)) 0) (2 ^ (min (Int.toNat r2) (IntKind.u64.bits))))) a (fv .or .u64 (List.getD (List.set d a (Int.fdiv (List.getD c (Int.toNat (((a:Nat):Int)+b)) 0) (2 ^ (min (Int.toNat r2) (IntKind.u64.bits))))) a 0) (IntKind.u64.wrap ((IntKind.u64.wrap ((List.getD c (Int.toNat ((((a:Nat):Int)+b)+(1:Int))) 0) * 2 ^ (min (Int.toNat (1:Int)) (IntKind.u64.bits)))) * 2 ^ (min (Int.toNat (IntKind.u64.wrap ((63:Int) - r2))) (IntKind.u64.bits))))))))
      (.leaf (.inl (List.set d a (Int.fdiv (List.getD c (Int.toNat (((a:Nat):Int)+b)) 0) (2 ^ (min (Int.toNat r2) (IntKind.u64.bits))))))))
    (.leaf (.inr (.inl d)))
def WS(a:Nat)(b:List Int) :T ((Nat×(List Int))⊕(((List Int))⊕(fF))) :=
  .need (ej .i64 (((a+1):Nat):Int))<|.leaf (.inl ((a+1),b))
def LG(b:List Int)(c:Int)(r2:Int)(d:Nat)(e:Nat) :Nat×(List Int)→Option ((Nat×(List Int))⊕(((List Int))⊕(fF))):=fun (a,f) =>
  aH ((BU b c r2 d e a f).run) fun g =>
  (WS a g).run
theorem ai6(g:Lv)(c:List Int)(d:Int)(r2:Int)(b:Bool)(a:Nat)(e:Nat)(f:Nat)(h:List Int) :Sg prog [] LF (xj g c d r2 b a e (f,h)) (LG c d r2 a e (f,h)) (xj g c d r2 b a e) (aS 2 (BT b a) oj):=by
  unfold LG;exact Sg.cut 3 (aN qY) (Sg.seg (C:=C0) ap mG 60 (LF.take 3) (xj g c d r2 b a e (f,h)) (BU c d r2 a e f h) (WR g c d r2 b a e f) (aS 2 (BT b a) oj) [⟨[],[0],[0,6,7,8,11,54,55]⟩,⟨[],[0],[0,6,7,8,11,54,55]⟩,⟨[],[0],[8,11]⟩] (by kernel_rfl)) (fun i=>by exact Sg.seg (C:=C0) ap mG 60 (LF.drop 3) (WR g c d r2 b a e f i) (WS f i) (xj g c d r2 b a e) (aS 2 (BT b a) oj) [⟨[],[0],[0,6,7,8,11,54,55]⟩] (by kernel_rfl))
def ai7(a:Bool)(b:Nat) :(List Int)→aM:=BT a b
def WT(a:Bool) :Nat×Nat×Nat×(List Int)→aM:=fun (b,c,d,e)=>⟨an 97 [(4,.sl 0 1 1 b c d),(5,.bool false a)],[(0,.ns .u64 e)],1⟩
def LH(a:Nat)(b:List Int) :T ((Nat×Nat×Nat×(List Int))⊕(fF)) :=
  .need (lw (bG b 0 a a))<|.leaf (.inl ((kw (bG b 0 a a)),(kB (bG b 0 a a)),(kC (bG b 0 a a)),(kD (bG b 0 a a))))
def WU(a:Bool)(b:Nat)(c:Nat)(d:Nat)(e:List Int) :T ((Empty)⊕(fF)) :=
  .leaf (.inr (.r0 b c d a e))
def nC(a:List Int)(d:Int) :Option fF:=me (aH ((F8 a d).run) fun (b,r2,e,f,g) =>
  aH (eh (LE a f g) (e,0)) fun h =>
  aH ((F9 a b).run) fun (c,i,j) =>
  aH (eh (LG a b r2 c i) (0,j)) fun k =>
  aH ((LH c k).run) fun (l,m,n,o) =>
  (WU h l m n o).run)
theorem ald(c:Lv)(b:List Int)(g:Int){x:fF}(h:nC b g=some x) :ax prog t6 [] [.imm c (.ns .u64 b) 1 1 0 (List.length b),.int .i64 g] (VE x) :=
  Sg.contract true VE (by kernel_rfl:prog.funcs[t6]? = some (FN t6)) (by kernel_rfl:(FN t6).body=some (bB t6)) (Sg.cut 6 qY (Sg.seg (C:=C0) ap mG 60 (mV.take 6) (aT (FN t6) [] [.imm c (.ns .u64 b) 1 1 0 (List.length b),.int .i64 g]) (F8 b g) (aaR c b) oj [⟨[(.slot 4,.own 1 1 (.ns .u64 ([]:List Int)))],[288],[4,5]⟩,⟨[],[],[0,6,7,8,36,37,38]⟩] (by kernel_rfl)) (fun a=>by obtain ⟨d,r2,l,i,j⟩:=a;exact Sg.cut 1 qY (Sg.pre ⟨[],[],[0,6,7,8,36,37,38]⟩ rfl (by kernel_rfl:NS.on ⟨[],[],[0,6,7,8,36,37,38]⟩ (aaR c b (d,r2,l,i,j))=(zX c b d r2 i j) (l,0)) (cw (I:=(zX c b d r2 i j)) (J:=(El c b d r2)) (id:=0) (by kernel_rfl:((mV.drop 6).take 1) = [.block 0 (.loop (bW ((((mV.drop 6).take 1)).headD .skip)))]) qY (aaQ _) (fun s=>by obtain ⟨t,u⟩:=s;exact ai5 c b d r2 i j t u) (l,0))) (fun e=>by exact Sg.cut 2 qY (Sg.seg (C:=C0) ap mG 60 (((mV.drop 6).drop 1).take 2) (alc c b d r2 e) (F9 b d) (aaT c b d r2 e) oj [⟨[],[64],[0,6,7,8,11,54,55]⟩] (by kernel_rfl)) (fun a=>by obtain ⟨f,k,m⟩:=a;exact Sg.cut 1 qY (Sg.pre ⟨[],[0],[0,6,7,8,11,54,55]⟩ rfl (by kernel_rfl:NS.on ⟨[],[0],[0,6,7,8,11,54,55]⟩ (aaT c b d r2 e (f,k,m))=(xj c b d r2 e f k) (0,m)) (cw (I:=(xj c b d r2 e f k)) (J:=(BT e f)) (id:=2) (by kernel_rfl:((((mV.drop 6).drop 1).drop 2).take 1) = [.block 2 (.loop (bW ((((((mV.drop 6).drop 1).drop 2).take 1)).headD .skip)))]) qY (aaQ _) (fun s=>by obtain ⟨v,w⟩:=s;exact ai6 c b d r2 e f k v w) (0,m))) (fun n=>by exact Sg.cut 1 qY (Sg.seg (C:=C0) ap mG 60 (((((mV.drop 6).drop 1).drop 2).drop 1).take 1) (ai7 e f n) (LH f n) (WT e) oj [⟨[],[0],[4,5]⟩] (by kernel_rfl)) (fun a=>by obtain ⟨o,p,q,r⟩:=a;exact Sg.seg (C:=C0) ap mG 60 (((((mV.drop 6).drop 1).drop 2).drop 1).drop 1) (WT e (o,p,q,r)) (WU e o p q r) (fun a:Empty=>a.elim) oj [⟨[],[0],[4,5]⟩] (by kernel_rfl)))))))
    (fun x=>by cases x with | r0 y z A B D=>exact ⟨.inr rfl,[.sl 0 1 1 y z A,.bool false B],[],by kernel_rfl,trivial,by kernel_rfl⟩) h
def I4:Option fF→Bool
  | some _=>true
  | none=>false
def I5:Option fF→Nat
  | some (.r0 x _ _ _ _)=>x
  | _=>0
def I6:Option fF→Nat
  | some (.r0 _ x _ _ _)=>x
  | _=>0
def Sz:Option fF→Nat
  | some (.r0 _ _ x _ _)=>x
  | _=>0
def I7:Option fF→Bool
  | some (.r0 _ _ _ x _)=>x
  | _=>false
def I8:Option fF→List Int
  | some (.r0 _ _ _ _ x)=>x
  | _=>[]
theorem ale{x:Option fF}(h:I4 x=true) :x=some (.r0 (I5 x) (I6 x) (Sz x) (I7 x) (I8 x)):=by
  unfold I4 at h
  split at h <;> first | rfl | (cases h;done) | (rename_i y;cases y;rfl)
def ae4:aL:=cn t6 (.cons (.ns .u64) (.cons (.int .i64) .nil)) fun t=>[⟨VE (.r0 (I5 (nC t.1.2 t.2.1)) (I6 (nC t.1.2 t.2.1)) (Sz (nC t.1.2 t.2.1)) (I7 (nC t.1.2 t.2.1)) (I8 (nC t.1.2 t.2.1))),[I4 (nC t.1.2 t.2.1)]⟩]
theorem agn:aV prog ae4:=aP fun t=>(aQ (fun h=>ald t.1.1 t.1.2 t.2.1 (ale h)) ba)
def ae5:List aL:=ae4 :: ae3
theorem x7:bf prog (bi ae5):=aw agn mG
inductive kE where
  | r0 (a:List Int) (b:Nat) (c:Nat) (d:Bool) (e:Nat)
def Id:kE→AE×aM
  | .r0 a b c d e=>(.ret,⟨an 23 [(4,.imm .free (.ns .u64 a) 1 1 b c),(5,.bool false d),(6,.int .i64 ((e:Nat):Int))],[],0⟩)
theorem Rd:l9 Id:=by intro x;cases x <;> (intro h;cases h)
def VF:kE→jv
  | .r0 a b c d e=>⟨.tup [.imm .free (.ns .u64 a) 1 1 b c,.bool false d,.int .i64 ((e:Nat):Int)],[]⟩
def I9:List Code:=bS (bB tW)
def aaU(a:Lv)(b:Int) :Nat×(List Int)×Nat→aM:=fun (c,d,e)=>⟨an 23 [(1,.int .i64 b),(2,.ptr 0 1 0 0),(6,.int .i64 ((c:Nat):Int))],[(0,.vs [.imm a (.ns .u64 d) 1 1 0 e])],1⟩
def Re(a:List Int) :T ((Nat×(List Int)×Nat)⊕(kE)) :=
  .ask (decide ((0:Int) < (1:Int)))
    (.need (iC (0:Int) 1)<|.need (aR 0 (List.length a) a)<|.need (c7 (aF (aa 0 (List.length a) a)))<|.ask (decide ((((aO (aF (aa 0 (List.length a) a))):Nat):Int) > (4096:Int)))
      (.leaf (.inl (2,(be (aF (aa 0 (List.length a) a))),(aO (aF (aa 0 (List.length a) a))))))
      (.need (ej .i64 (1:Int))<|.ask (decide ((1:Int) < (1:Int)))
        (.fail)
        (.leaf (.inl (0,(be (aF (aa 0 (List.length a) a))),(aO (aF (aa 0 (List.length a) a))))))))
    (.fail)
def aaV(a:Lv)(b:Int)(c:List Int)(d:Nat)(e:Bool) :aM:=⟨an 23 [(1,.int .i64 b),(2,.ptr 0 1 0 0),(14,.bool false e)],[(0,.vs [.imm a (.ns .u64 c) 1 1 0 d])],1⟩
def aaW(a:Int)(b:Nat) :T ((Bool)⊕(kE)) :=
  .ask (((b:Nat):Int) != (0:Int))
    (.leaf (.inl true))
    (.leaf (.inl (decide (a < (0:Int)))))
def aaX:(List Int)×Nat×Nat×Bool→aM:=fun (a,b,c,d)=>⟨an 23 [(4,.imm .free (.ns .u64 a) 1 1 b c),(5,.bool false d)],[],0⟩
def Ja(c:Int)(a:List Int)(b:Nat)(d:Bool) :T (((List Int)×Nat×Nat×Bool)⊕(kE)) :=
  .ask d
    (.leaf (.inr (.r0 ([]:List Int) 0 0 false 2)))
    (.need (aR 0 b a)<|.need (I4 (nC (aa 0 b a) c))<|.leaf (.inl ((I8 (nC (aa 0 b a) c)),(I5 (nC (aa 0 b a) c)),(I6 (nC (aa 0 b a) c)),(I7 (nC (aa 0 b a) c)))))
def aaY(a:List Int)(b:Nat)(c:Nat)(d:Bool) :T ((Empty)⊕(kE)) :=
  .leaf (.inr (.r0 a b c d 0))
def ol(b:List Int)(a:Int) :Option kE:=me (aH ((Re b).run) fun (c,d,e) =>
  aH ((aaW a c).run) fun f =>
  aH ((Ja a d e f).run) fun (g,h,i,j) =>
  (aaY g h i j).run)
theorem alf(c:Lv)(d:List Int)(b:Int){x:kE}(h:ol d b=some x) :ax prog tW [] [.imm c (.ns .u64 d) 1 1 0 (List.length d),.int .i64 b] (VF x) :=
  Sg.contract true VF (by kernel_rfl:prog.funcs[tW]? = some (FN tW)) (by kernel_rfl:(FN tW).body=some (bB tW)) (Sg.cut 2 Rd (Sg.seg (C:=C0) ap x7 60 (I9.take 2) (aT (FN tW) [] [.imm c (.ns .u64 d) 1 1 0 (List.length d),.int .i64 b]) (Re d) (aaU c b) Id [⟨[],[0],[1,2,6]⟩,⟨[],[0],[1,2,6]⟩] (by kernel_rfl)) (fun a=>by obtain ⟨g,e,f⟩:=a;exact Sg.cut 1 Rd (Sg.seg (C:=C0) ap x7 60 ((I9.drop 2).take 1) (aaU c b (g,e,f)) (aaW b g) (aaV c b e f) Id [⟨[],[0],[1,2,14]⟩,⟨[],[0],[1,2,14]⟩] (by kernel_rfl)) (fun i=>by exact Sg.cut 2 Rd (Sg.seg (C:=C0) ap x7 60 (((I9.drop 2).drop 1).take 2) (aaV c b e f i) (Ja b e f i) aaX Id [⟨[(.slot 4,.fre 1 1 (.ns .u64 ([]:List Int)))],[],[4,5,6]⟩,⟨[],[],[4,5]⟩] (by kernel_rfl)) (fun a=>by obtain ⟨j,k,l,m⟩:=a;exact Sg.seg (C:=C0) ap x7 60 (((I9.drop 2).drop 1).drop 2) (aaX (j,k,l,m)) (aaY j k l m) (fun a:Empty=>a.elim) Id [⟨[],[],[4,5,6]⟩] (by kernel_rfl)))))
    (fun x=>by cases x with | r0 n o p q r=>exact ⟨.inr rfl,[.imm .free (.ns .u64 n) 1 1 o p,.bool false q,.int .i64 ((r:Nat):Int)],[],by kernel_rfl,trivial,by kernel_rfl⟩) h
def Jb:Option kE→Bool
  | some _=>true
  | none=>false
def Jc:Option kE→List Int
  | some (.r0 x _ _ _ _)=>x
  | _=>[]
def Jd:Option kE→Nat
  | some (.r0 _ x _ _ _)=>x
  | _=>0
def Je:Option kE→Nat
  | some (.r0 _ _ x _ _)=>x
  | _=>0
def SA:Option kE→Bool
  | some (.r0 _ _ _ x _)=>x
  | _=>false
def SB:Option kE→Nat
  | some (.r0 _ _ _ _ x)=>x
  | _=>0
theorem alg{x:Option kE}(h:Jb x=true) :x=some (.r0 (Jc x) (Jd x) (Je x) (SA x) (SB x)):=by
  unfold Jb at h
  split at h <;> first | rfl | (cases h;done) | (rename_i y;cases y;rfl)
def ae6:aL:=cn tW (.cons (.ns .u64) (.cons (.int .i64) .nil)) fun t=>[⟨VF (.r0 (Jc (ol t.1.2 t.2.1)) (Jd (ol t.1.2 t.2.1)) (Je (ol t.1.2 t.2.1)) (SA (ol t.1.2 t.2.1)) (SB (ol t.1.2 t.2.1))),[Jb (ol t.1.2 t.2.1)]⟩]
theorem ago:aV prog ae6:=aP fun t=>(aQ (fun h=>alf t.1.1 t.1.2 t.2.1 (alg h)) ba)
def ae7:List aL:=ae6 :: ae5
theorem qZ:bf prog (bi ae7):=aw ago x7
inductive gh where
  | r0 (a:Int) (b:Nat)
def pg:gh→AE×aM
  | .r0 a b=>(.ret,⟨an 31 [(2,.int .i64 a),(3,.int .i64 ((b:Nat):Int))],[],0⟩)
theorem uk:l9 pg:=by intro x;cases x <;> (intro h;cases h)
theorem agp(id:Nat) :rL id pg:=by intro x;cases x <;> (intro h;cases h)
def LI:gh→jv
  | .r0 a b=>⟨.tup [.int .i64 a,.int .i64 ((b:Nat):Int)],[]⟩
def ph:List Code:=bS (bB oV)
def SC(a:Lv) :Nat×(List Int)×Nat→aM:=fun (b,c,d)=>⟨an 31 [(1,.ptr 0 1 0 0),(4,.int .i64 ((b:Nat):Int))],[(0,.vs [.imm a (.ns .u64 c) 1 1 0 d])],1⟩
def GO(a:List Int) :T ((Nat×(List Int)×Nat)⊕(gh)) :=
  .ask (decide ((0:Int) < (1:Int)))
    (.need (iC (0:Int) 1)<|.need (aR 0 (List.length a) a)<|.need (c7 (aF (aa 0 (List.length a) a)))<|.ask (decide ((((aO (aF (aa 0 (List.length a) a))):Nat):Int) > (4096:Int)))
      (.leaf (.inl (2,(be (aF (aa 0 (List.length a) a))),(aO (aF (aa 0 (List.length a) a))))))
      (.need (ej .i64 (1:Int))<|.ask (decide ((1:Int) < (1:Int)))
        (.fail)
        (.leaf (.inl (0,(be (aF (aa 0 (List.length a) a))),(aO (aF (aa 0 (List.length a) a))))))))
    (.fail)
def SD(a:Lv)(b:Nat)(c:List Int)(d:Nat)(e:Bool) :aM:=⟨an 31 [(1,.ptr 0 1 0 0),(4,.int .i64 ((b:Nat):Int)),(14,.bool false e)],[(0,.vs [.imm a (.ns .u64 c) 1 1 0 d])],1⟩
def Of(a:Nat)(b:Nat) :T ((Bool)⊕(gh)) :=
  .ask (((a:Nat):Int) != (0:Int))
    (.leaf (.inl true))
    (.leaf (.inl (((b:Nat):Int) == (0:Int))))
def SE(a:Lv)(b:List Int)(c:Nat)(_:Unit) :aM:=⟨an 31 [(1,.ptr 0 1 0 0),(5,.int .i64 (0:Int))],[(0,.vs [.imm a (.ns .u64 b) 1 1 0 c])],1⟩
def Og(a:Nat)(b:Bool) :T ((Unit)⊕(gh)) :=
  .ask b
    (.leaf (.inr (.r0 (0:Int) a)))
    (.leaf (.inl ()))
def ul(a:Lv)(b:List Int)(c:Nat)(d:Nat) :aM:=⟨an 31 [(1,.ptr 0 1 0 0),(5,.int .i64 ((d:Nat):Int))],[(0,.vs [.imm a (.ns .u64 b) 1 1 0 c])],1⟩
def CZ(a:Lv)(b:List Int)(c:Nat)(d:Nat) :aM:=⟨an 31 [(1,.ptr 0 1 0 0),(5,.int .i64 ((d:Nat):Int))],[(0,.vs [.imm a (.ns .u64 b) 1 1 0 c])],1⟩
def Oh:List Code:=bS (bW ((((((ph.drop 2).drop 1).drop 2).take 1)).headD .skip))
def sd(b:List Int)(c:Nat)(a:Nat) :T ((Nat)⊕((Nat)⊕(gh))) :=
  .need (iC ((a:Nat):Int) c)<|.need (jt a (List.length b))<|.ask ((List.getD b a 0) == (0:Int))
    (.need (ej .i64 (((a+1):Nat):Int))<|.leaf (.inl (a+1)))
    (.leaf (.inr (.inl a)))
def GQ(a:List Int)(b:Nat) :Nat→Option ((Nat)⊕((Nat)⊕(gh))):=fun c =>
  (sd a b c).run
theorem acK(c:Lv)(a:List Int)(b:Nat)(d:Nat) :Sg prog [] Oh (ul c a b d) (GQ a b d) (ul c a b) (aS 0 (CZ c a b) pg):=by
  unfold GQ;exact Sg.seg (C:=C0) ap qZ 60 Oh (ul c a b d) (sd a b d) (ul c a b) (aS 0 (CZ c a b) pg) [⟨[],[0],[1,5]⟩,⟨[],[0],[1,5]⟩] (by kernel_rfl)
def agq(a:Lv)(b:List Int)(c:Nat) :Nat→aM:=CZ a b c
def SF(a:Int) :aM:=⟨an 31 [(2,.int .i64 a),(3,.int .i64 (0:Int))],[],0⟩
def GR(b:List Int)(c:Nat)(a:Nat) :T ((Int)⊕(gh)) :=
  .need (ej .i64 (((64 * a):Nat):Int))<|.need (iC ((a:Nat):Int) c)<|.need (jt a (List.length b))<|.need (fw (dM (List.getD b a 0)))<|.need (ej .i64 ((((64 * a):Nat):Int)+(e8 (dM (List.getD b a 0)))))<|.leaf (.inl ((((64 * a):Nat):Int)+(e8 (dM (List.getD b a 0)))))
def Oi(a:Int) :T ((Empty)⊕(gh)) :=
  .leaf (.inr (.r0 a 0))
def tc(d:List Int) :Option gh:=me (aH ((GO d).run) fun (b,c,a) =>
  aH ((Of b a).run) fun e =>
  aH ((Og b e).run) fun _ =>
  aH (eh (GQ c a) 0) fun f =>
  aH ((GR c a f).run) fun g =>
  (Oi g).run)
theorem agr(b:Lv)(e:List Int){x:gh}(h:tc e=some x) :ax prog oV [] [.imm b (.ns .u64 e) 1 1 0 (List.length e)] (LI x) :=
  Sg.contract true LI (by kernel_rfl:prog.funcs[oV]? = some (FN oV)) (by kernel_rfl:(FN oV).body=some (bB oV)) (Sg.cut 2 uk (Sg.seg (C:=C0) ap qZ 60 (ph.take 2) (aT (FN oV) [] [.imm b (.ns .u64 e) 1 1 0 (List.length e)]) (GO e) (SC b) pg [⟨[],[0],[1,4]⟩,⟨[],[0],[1,4]⟩] (by kernel_rfl)) (fun a=>by obtain ⟨f,d,c⟩:=a;exact Sg.cut 1 uk (Sg.seg (C:=C0) ap qZ 60 ((ph.drop 2).take 1) (SC b (f,d,c)) (Of f c) (SD b f d c) pg [⟨[],[0],[1,4,14]⟩,⟨[],[0],[1,4,14]⟩] (by kernel_rfl)) (fun g=>by exact Sg.cut 2 uk (Sg.seg (C:=C0) ap qZ 60 (((ph.drop 2).drop 1).take 2) (SD b f d c g) (Og f g) (SE b d c) pg [⟨[],[],[2,3]⟩,⟨[],[0],[1,5]⟩] (by kernel_rfl)) (fun a=>by cases a;exact Sg.cut 1 uk (Sg.pre ⟨[],[0],[1,5]⟩ rfl (by kernel_rfl:NS.on ⟨[],[0],[1,5]⟩ (SE b d c ())=(ul b d c) 0) (cw (I:=(ul b d c)) (J:=(CZ b d c)) (id:=0) (by kernel_rfl:((((ph.drop 2).drop 1).drop 2).take 1) = [.block 0 (.loop (bW ((((((ph.drop 2).drop 1).drop 2).take 1)).headD .skip)))]) uk (agp _) (fun s=>by exact acK b d c s) 0)) (fun i=>by exact Sg.cut 1 uk (Sg.seg (C:=C0) ap qZ 60 (((((ph.drop 2).drop 1).drop 2).drop 1).take 1) (agq b d c i) (GR d c i) SF pg [⟨[],[],[2,3]⟩] (by kernel_rfl)) (fun j=>by exact Sg.seg (C:=C0) ap qZ 60 (((((ph.drop 2).drop 1).drop 2).drop 1).drop 1) (SF j) (Oi j) (fun a:Empty=>a.elim) pg [⟨[],[],[2,3]⟩] (by kernel_rfl)))))))
    (fun x=>by cases x with | r0 k l=>exact ⟨.inr rfl,[.int .i64 k,.int .i64 ((l:Nat):Int)],[],by kernel_rfl,trivial,by kernel_rfl⟩) h
def C1:Option gh→Bool
  | some _=>true
  | none=>false
def Em:Option gh→Int
  | some (.r0 x _)=>x
  | _=>0
def LJ:Option gh→Nat
  | some (.r0 _ x)=>x
  | _=>0
theorem ags{x:Option gh}(h:C1 x=true) :x=some (.r0 (Em x) (LJ x)):=by
  unfold C1 at h
  split at h <;> first | rfl | (cases h;done) | (rename_i y;cases y;rfl)
def WV:aL:=cn oV (.cons (.ns .u64) .nil) fun t=>[⟨LI (.r0 (Em (tc t.1.2)) (LJ (tc t.1.2))),[C1 (tc t.1.2)]⟩]
theorem aaZ:aV prog WV:=aP fun t=>(aQ (fun h=>agr t.1.1 t.1.2 (ags h)) ba)
def WW:List aL:=WV :: ae7
theorem td:bf prog (bi WW):=aw aaZ qZ
inductive gi where
  | r0 (a:Bool) (b:List Int) (c:Nat) (d:Nat) (e:Int)
def BV:gi→AE×aM
  | .r0 a b c d e=>(.ret,⟨an 37 [(2,.ptr 0 1 0 0)],[(0,.vs [.bool false a,.imm .free (.ns .u64 b) 1 1 c d,.int .i64 e])],1⟩)
theorem Jf:l9 BV:=by intro x;cases x <;> (intro h;cases h)
def LK:gi→jv
  | .r0 a b c d e=>⟨.agg [.bool false a,.imm .free (.ns .u64 b) 1 1 c d,.int .i64 e],[]⟩
def C2:List Code:=bS (bB oN)
def SG(b:Bool)(c:Lv)(a:List Int)(d:Int) :(List Int)×Nat×Bool→aM:=fun (e,f,g)=>⟨an 37 [(1,.ptr 0 1 0 0),(2,.ptr 1 1 0 0),(3,.imm .free (.ns .u64 e) 1 1 0 f)],[(0,.vs [.bool false b,.imm c (.ns .u64 a) 1 1 0 (List.length a),.int .i64 d]),(1,.vs [.bool false g,.nsl,.int .i64 (0:Int)])],2⟩
def C3(a:List Int) :T (((List Int)×Nat×Bool)⊕(gi)) :=
  .need (aR 0 (List.length a) a)<|.need (BL (nK (aa 0 (List.length a) a)))<|.leaf (.inl ((GI (nK (aa 0 (List.length a) a))),(GG (nK (aa 0 (List.length a) a))),false))
def SH(b:Bool)(c:Lv)(a:List Int)(d:Int)(e:List Int)(f:Nat)(g:Bool)(h:Int) :aM:=⟨an 37 [(1,.ptr 0 1 0 0),(2,.ptr 1 1 0 0),(3,.imm .free (.ns .u64 e) 1 1 0 f),(5,.int .i64 h)],[(0,.vs [.bool false b,.imm c (.ns .u64 a) 1 1 0 (List.length a),.int .i64 d]),(1,.vs [.bool false g,.nsl,.int .i64 (0:Int)])],2⟩
def C4(b:List Int)(a:Nat) :T ((Int)⊕(gi)) :=
  .ask (((a:Nat):Int) == (0:Int))
    (.leaf (.inr (.r0 false ([]:List Int) 0 0 (0:Int))))
    (.need (aR 0 a b)<|.need (C1 (tc (aa 0 a b)))<|.leaf (.inl (Em (tc (aa 0 a b)))))
def SI(b:Bool)(c:Lv)(a:List Int)(d:Int)(e:Bool)(f:Int) :(List Int)×Nat×Nat→aM:=fun (g,h,i)=>⟨an 37 [(1,.ptr 0 1 0 0),(2,.ptr 1 1 0 0),(3,.imm .free (.ns .u64 g) 1 1 h i),(5,.int .i64 f)],[(0,.vs [.bool false b,.imm c (.ns .u64 a) 1 1 0 (List.length a),.int .i64 d]),(1,.vs [.bool false e,.nsl,.int .i64 (0:Int)])],2⟩
def C5(a:List Int)(b:Nat)(c:Int) :T (((List Int)×Nat×Nat)⊕(gi)) :=
  .need (aR 0 b a)<|.need (Jb (ol (aa 0 b a) c))<|.leaf (.inl ((Jc (ol (aa 0 b a) c)),(Jd (ol (aa 0 b a) c)),(Je (ol (aa 0 b a) c))))
def SJ(c:Bool)(a:Int)(b:Int)(d:List Int)(e:Nat)(f:Nat) :T ((Empty)⊕(gi)) :=
  .need (ej .i64 (a+b))<|.leaf (.inr (.r0 c d e f (a+b)))
def aE(d:Bool)(e:List Int)(f:Int) :Option gi:=me (aH ((C3 e).run) fun (a,b,j) =>
  aH ((C4 a b).run) fun c =>
  aH ((C5 a b c).run) fun (g,h,i) =>
  (SJ d f c g h i).run)
theorem agt(c:Bool)(e:Lv)(b:List Int)(d:Int){x:gi}(h:aE c b d=some x) :ax prog oN [] [.agg [.bool false c,.imm e (.ns .u64 b) 1 1 0 (List.length b),.int .i64 d]] (LK x) :=
  Sg.contract true LK (by kernel_rfl:prog.funcs[oN]? = some (FN oN)) (by kernel_rfl:(FN oN).body=some (bB oN)) (Sg.cut 2 Jf (Sg.seg (C:=C0) ap td 60 (C2.take 2) (aT (FN oN) [] [.agg [.bool false c,.imm e (.ns .u64 b) 1 1 0 (List.length b),.int .i64 d]]) (C3 b) (SG c e b d) BV [⟨[],[0,16],[1,2,3]⟩] (by kernel_rfl)) (fun a=>by obtain ⟨f,g,i⟩:=a;exact Sg.cut 3 Jf (Sg.seg (C:=C0) ap td 60 ((C2.drop 2).take 3) (SG c e b d (f,g,i)) (C4 f g) (SH c e b d f g i) BV [⟨[(.cell 1 1,.fre 1 1 (.ns .u64 ([]:List Int)))],[1],[2]⟩,⟨[],[0,1],[1,2,3,5]⟩] (by kernel_rfl)) (fun j=>by exact Sg.cut 1 Jf (Sg.seg (C:=C0) ap td 60 (((C2.drop 2).drop 3).take 1) (SH c e b d f g i j) (C5 f g j) (SI c e b d i j) BV [⟨[],[0,1],[1,2,3,5]⟩] (by kernel_rfl)) (fun a=>by obtain ⟨k,l,m⟩:=a;exact Sg.seg (C:=C0) ap td 60 (((C2.drop 2).drop 3).drop 1) (SI c e b d i j (k,l,m)) (SJ c d j k l m) (fun a:Empty=>a.elim) BV [⟨[],[1],[2]⟩] (by kernel_rfl)))))
    (fun x=>by cases x with | r0 n o p q r=>exact ⟨.inr rfl,[.agg [.bool false n,.imm .free (.ns .u64 o) 1 1 p q,.int .i64 r]],[],by kernel_rfl,trivial,by kernel_rfl⟩) h
def gO:Option gi→Bool
  | some _=>true
  | none=>false
def dT:Option gi→Bool
  | some (.r0 x _ _ _ _)=>x
  | _=>false
def dU:Option gi→List Int
  | some (.r0 _ x _ _ _)=>x
  | _=>[]
def dV:Option gi→Nat
  | some (.r0 _ _ x _ _)=>x
  | _=>0
def dW:Option gi→Nat
  | some (.r0 _ _ _ x _)=>x
  | _=>0
def dX:Option gi→Int
  | some (.r0 _ _ _ _ x)=>x
  | _=>0
theorem agu{x:Option gi}(h:gO x=true) :x=some (.r0 (dT x) (dU x) (dV x) (dW x) (dX x)):=by
  unfold gO at h
  split at h <;> first | rfl | (cases h;done) | (rename_i y;cases y;rfl)
def WX:aL:=cn oN (.cons (.agg (.cons .bool (.cons (.ns .u64) (.cons (.int .i64) .nil)))) .nil) fun t=>[⟨LK (.r0 (dT (aE t.1.1 t.1.2.1.2 t.1.2.2.1)) (dU (aE t.1.1 t.1.2.1.2 t.1.2.2.1)) (dV (aE t.1.1 t.1.2.1.2 t.1.2.2.1)) (dW (aE t.1.1 t.1.2.1.2 t.1.2.2.1)) (dX (aE t.1.1 t.1.2.1.2 t.1.2.2.1))),[gO (aE t.1.1 t.1.2.1.2 t.1.2.2.1)]⟩]
theorem aa0:aV prog WX:=aP fun t=>(aQ (fun h=>agt t.1.1 t.1.2.1.1 t.1.2.1.2 t.1.2.2.1 (agu h)) ba)
def WY:List aL:=WX :: WW
theorem x8:bf prog (bi WY):=aw aa0 td
inductive pK where
  | r0 (a:Bool)
def Jg:pK→AE×aM
  | .r0 a=>(.ret,⟨an 18 [(2,.bool false a)],[],0⟩)
theorem WZ:l9 Jg:=by intro x;cases x <;> (intro h;cases h)
def Rf:pK→jv
  | .r0 a=>⟨.bool false a,[]⟩
def LL:List Code:=bS (bB qR)
def W1(b:Bool)(c:Lv)(a:List Int)(d:Int)(e:Nat) :aM:=⟨an 18 [(1,.ptr 0 1 0 0),(4,.int .i64 ((e:Nat):Int))],[(0,.vs [.bool false b,.imm c (.ns .u64 a) 1 1 0 (List.length a),.int .i64 d])],1⟩
def LM(a:List Int) :T ((Nat)⊕(pK)) :=
  .need (aR 0 (List.length a) a)<|.need (BL (nK (aa 0 (List.length a) a)))<|.leaf (.inl (GH (nK (aa 0 (List.length a) a))))
def W2(a:Bool) :aM:=⟨an 18 [(2,.bool false a)],[],0⟩
def W3(a:Int)(b:Nat) :T ((Bool)⊕(pK)) :=
  .ask (((b:Nat):Int) == (0:Int))
    (.ask (decide (a ≥ (-262144:Int)))
      (.leaf (.inl (decide (a≤(262144:Int)))))
      (.leaf (.inl false)))
    (.leaf (.inl false))
def W4(a:Bool) :T ((Empty)⊕(pK)) :=
  .leaf (.inr (.r0 a))
def eI(a:List Int)(b:Int) :Option pK:=me (aH ((LM a).run) fun c =>
  aH ((W3 b c).run) fun d =>
  (W4 d).run)
theorem ai8(d:Bool)(e:Lv)(b:List Int)(c:Int){x:pK}(h:eI b c=some x) :ax prog qR [] [.agg [.bool false d,.imm e (.ns .u64 b) 1 1 0 (List.length b),.int .i64 c]] (Rf x) :=
  Sg.contract true Rf (by kernel_rfl:prog.funcs[qR]? = some (FN qR)) (by kernel_rfl:(FN qR).body=some (bB qR)) (Sg.cut 2 WZ (Sg.seg (C:=C0) ap x8 60 (LL.take 2) (aT (FN qR) [] [.agg [.bool false d,.imm e (.ns .u64 b) 1 1 0 (List.length b),.int .i64 c]]) (LM b) (W1 d e b c) Jg [⟨[],[0],[1,4]⟩] (by kernel_rfl)) (fun f=>by exact Sg.cut 1 WZ (Sg.seg (C:=C0) ap x8 60 ((LL.drop 2).take 1) (W1 d e b c f) (W3 c f) W2 Jg [⟨[],[],[2]⟩,⟨[],[],[2]⟩,⟨[],[],[2]⟩] (by kernel_rfl)) (fun g=>by exact Sg.seg (C:=C0) ap x8 60 ((LL.drop 2).drop 1) (W2 g) (W4 g) (fun a:Empty=>a.elim) Jg [⟨[],[],[2]⟩] (by kernel_rfl))))
    (fun x=>by cases x with | r0 i=>exact ⟨.inr rfl,[.bool false i],[],by kernel_rfl,trivial,by kernel_rfl⟩) h
def lz:Option pK→Bool
  | some _=>true
  | none=>false
def jx:Option pK→Bool
  | some (.r0 x)=>x
  | _=>false
theorem ai9{x:Option pK}(h:lz x=true) :x=some (.r0 (jx x)):=by
  unfold lz at h
  split at h <;> first | rfl | (cases h;done) | (rename_i y;cases y;rfl)
def aa1:aL:=cn qR (.cons (.agg (.cons .bool (.cons (.ns .u64) (.cons (.int .i64) .nil)))) .nil) fun t=>[⟨Rf (.r0 (jx (eI t.1.2.1.2 t.1.2.2.1))),[lz (eI t.1.2.1.2 t.1.2.2.1)]⟩]
theorem acL:aV prog aa1:=aP fun t=>(aQ (fun h=>ai8 t.1.1 t.1.2.1.1 t.1.2.1.2 t.1.2.2.1 (ai9 h)) ba)
def aa2:List aL:=aa1 :: WY
theorem AA:bf prog (bi aa2):=aw acL x8
inductive fo where
  | r0 (a:Nat) (b:Int) (c:List Int) (d:Nat) (e:List Int) (f:Nat)
def C6:fo→AE×aM
  | .r0 a b c d e f=>(.ret,⟨an 57 [(4,.ptr 0 1 0 0),(5,.int .i64 ((a:Nat):Int))],[(0,.vs [.int .i64 b,.imm .free (.ns .u64 c) 1 1 0 d,.imm .free (.ns .u64 e) 1 1 0 f])],1⟩)
theorem Oj:l9 C6:=by intro x;cases x <;> (intro h;cases h)
def Jh:fo→jv
  | .r0 a b c d e f=>⟨.tup [.agg [.int .i64 b,.imm .free (.ns .u64 c) 1 1 0 d,.imm .free (.ns .u64 e) 1 1 0 f],.int .i64 ((a:Nat):Int)],[]⟩
def GS:List Code:=bS (bB mw)
def Ol(c:Bool)(d:Lv)(a:List Int)(e:Int)(f:Bool)(g:Lv)(b:List Int)(h:Int)(i:Int) :aM:=⟨an 57 [(2,.ptr 0 1 0 0),(3,.ptr 1 1 0 0),(4,.ptr 2 1 0 0),(6,.ptr 3 1 0 0)],[(0,.vs [.bool false c,.imm d (.ns .u64 a) 1 1 0 (List.length a),.int .i64 e]),(1,.vs [.bool false f,.imm g (.ns .u64 b) 1 1 0 (List.length b),.int .i64 h]),(2,.vs [.int .i64 (0:Int),.nsl,.nsl]),(3,.vs [.int .i64 i,.nsl,.nsl])],4⟩
def se(c:List Int)(a:Int)(d:List Int)(b:Int) :T ((Int)⊕(fo)) :=
  .ask ((((List.length c):Nat):Int) == (0:Int))
    (.leaf (.inl b))
    (.ask ((((List.length d):Nat):Int) == (0:Int))
      (.leaf (.inl a))
      (.need (ej .i64 ((rH a b) - (B0 a b)))<|.ask (decide (((rH a b) - (B0 a b)) > (262144:Int)))
        (.leaf (.inr (.r0 3 (0:Int) ([]:List Int) 0 ([]:List Int) 0)))
        (.leaf (.inl (B0 a b)))))
def Om(a:Int) :(List Int)×Nat×(List Int)×Nat→aM:=fun (b,c,d,e)=>⟨an 57 [(4,.ptr 0 1 0 0),(6,.ptr 1 1 0 0)],[(0,.vs [.int .i64 (0:Int),.nsl,.nsl]),(1,.vs [.int .i64 a,.imm .free (.ns .u64 b) 1 1 0 c,.imm .free (.ns .u64 d) 1 1 0 e])],2⟩
def lc(c:List Int)(e:Int)(a:List Int)(d:Int)(b:Int) :T (((List Int)×Nat×(List Int)×Nat)⊕(fo)) :=
  .ask ((((List.length c):Nat):Int) == (0:Int))
    (.ask ((((List.length a):Nat):Int) == (0:Int))
      (.leaf (.inl (([]:List Int),0,([]:List Int),0)))
      (.need (ej .i64 (d - b))<|.need (aR 0 (List.length a) a)<|.need (zW (ik (aa 0 (List.length a) a) (d - b)))<|.leaf (.inl (([]:List Int),0,(ui (ik (aa 0 (List.length a) a) (d - b))),(uj (ik (aa 0 (List.length a) a) (d - b)))))))
    (.need (ej .i64 (e - b))<|.need (aR 0 (List.length c) c)<|.need (zW (ik (aa 0 (List.length c) c) (e - b)))<|.ask ((((List.length a):Nat):Int) == (0:Int))
      (.leaf (.inl ((ui (ik (aa 0 (List.length c) c) (e - b))),(uj (ik (aa 0 (List.length c) c) (e - b))),([]:List Int),0)))
      (.need (ej .i64 (d - b))<|.need (aR 0 (List.length a) a)<|.need (zW (ik (aa 0 (List.length a) a) (d - b)))<|.leaf (.inl ((ui (ik (aa 0 (List.length c) c) (e - b))),(uj (ik (aa 0 (List.length c) c) (e - b))),(ui (ik (aa 0 (List.length a) a) (d - b))),(uj (ik (aa 0 (List.length a) a) (d - b)))))))
def On(a:Int)(b:List Int)(c:Nat)(d:List Int)(e:Nat) :T ((Empty)⊕(fo)) :=
  .leaf (.inr (.r0 0 a b c d e))
def cX(a:List Int)(b:Int)(c:List Int)(d:Int) :Option fo:=me (aH ((se a b c d).run) fun e =>
  aH ((lc a b c d e).run) fun (f,g,h,i) =>
  (On e f g h i).run)
theorem acM(g:Bool)(i:Lv)(b:List Int)(d:Int)(j:Bool)(k:Lv)(c:List Int)(e:Int){x:fo}(h:cX b d c e=some x) :ax prog mw [] [.agg [.bool false g,.imm i (.ns .u64 b) 1 1 0 (List.length b),.int .i64 d],.agg [.bool false j,.imm k (.ns .u64 c) 1 1 0 (List.length c),.int .i64 e]] (Jh x) :=
  Sg.contract true Jh (by kernel_rfl:prog.funcs[mw]? = some (FN mw)) (by kernel_rfl:(FN mw).body=some (bB mw)) (Sg.cut 3 Oj (Sg.seg (C:=C0) ap AA 60 (GS.take 3) (aT (FN mw) [] [.agg [.bool false g,.imm i (.ns .u64 b) 1 1 0 (List.length b),.int .i64 d],.agg [.bool false j,.imm k (.ns .u64 c) 1 1 0 (List.length c),.int .i64 e]]) (se b d c e) (Ol g i b d j k c e) C6 [⟨[],[0,16,32,176],[2,3,4,6]⟩,⟨[],[0,16,32,176],[2,3,4,6]⟩,⟨[(.cell 32 1,.fre 1 1 (.ns .u64 ([]:List Int))),(.cell 32 2,.fre 1 1 (.ns .u64 ([]:List Int)))],[32],[4,5]⟩,⟨[],[0,16,32,176],[2,3,4,6]⟩] (by kernel_rfl)) (fun f=>by exact Sg.cut 2 Oj (Sg.seg (C:=C0) ap AA 60 ((GS.drop 3).take 2) (Ol g i b d j k c e f) (lc b d c e f) (Om f) C6 [⟨[(.cell 3 1,.fre 1 1 (.ns .u64 ([]:List Int))),(.cell 3 2,.fre 1 1 (.ns .u64 ([]:List Int)))],[2,3],[4,6]⟩,⟨[(.cell 3 1,.fre 1 1 (.ns .u64 ([]:List Int)))],[2,3],[4,6]⟩,⟨[(.cell 3 2,.fre 1 1 (.ns .u64 ([]:List Int)))],[2,3],[4,6]⟩,⟨[],[2,3],[4,6]⟩] (by kernel_rfl)) (fun a=>by obtain ⟨l,m,n,o⟩:=a;exact Sg.seg (C:=C0) ap AA 60 ((GS.drop 3).drop 2) (Om f (l,m,n,o)) (On f l m n o) (fun a:Empty=>a.elim) C6 [⟨[],[0],[4,5]⟩] (by kernel_rfl))))
    (fun x=>by cases x with | r0 p q r s t u=>exact ⟨.inr rfl,[.agg [.int .i64 q,.imm .free (.ns .u64 r) 1 1 0 s,.imm .free (.ns .u64 t) 1 1 0 u],.int .i64 ((p:Nat):Int)],[],by kernel_rfl,trivial,by kernel_rfl⟩) h
def u5:Option fo→Bool
  | some _=>true
  | none=>false
def vY:Option fo→Nat
  | some (.r0 x _ _ _ _ _)=>x
  | _=>0
def vZ:Option fo→Int
  | some (.r0 _ x _ _ _ _)=>x
  | _=>0
def v4:Option fo→List Int
  | some (.r0 _ _ x _ _ _)=>x
  | _=>[]
def v5:Option fo→Nat
  | some (.r0 _ _ _ x _ _)=>x
  | _=>0
def v6:Option fo→List Int
  | some (.r0 _ _ _ _ x _)=>x
  | _=>[]
def v7:Option fo→Nat
  | some (.r0 _ _ _ _ _ x)=>x
  | _=>0
theorem acN{x:Option fo}(h:u5 x=true) :x=some (.r0 (vY x) (vZ x) (v4 x) (v5 x) (v6 x) (v7 x)):=by
  unfold u5 at h
  split at h <;> first | rfl | (cases h;done) | (rename_i y;cases y;rfl)
def SK:aL:=cn mw (.cons (.agg (.cons .bool (.cons (.ns .u64) (.cons (.int .i64) .nil)))) (.cons (.agg (.cons .bool (.cons (.ns .u64) (.cons (.int .i64) .nil)))) .nil)) fun t=>[⟨Jh (.r0 (vY (cX t.1.2.1.2 t.1.2.2.1 t.2.1.2.1.2 t.2.1.2.2.1)) (vZ (cX t.1.2.1.2 t.1.2.2.1 t.2.1.2.1.2 t.2.1.2.2.1)) (v4 (cX t.1.2.1.2 t.1.2.2.1 t.2.1.2.1.2 t.2.1.2.2.1)) (v5 (cX t.1.2.1.2 t.1.2.2.1 t.2.1.2.1.2 t.2.1.2.2.1)) (v6 (cX t.1.2.1.2 t.1.2.2.1 t.2.1.2.1.2 t.2.1.2.2.1)) (v7 (cX t.1.2.1.2 t.1.2.2.1 t.2.1.2.1.2 t.2.1.2.2.1))),[u5 (cX t.1.2.1.2 t.1.2.2.1 t.2.1.2.1.2 t.2.1.2.2.1)]⟩]
theorem Yu:aV prog SK:=aP fun t=>(aQ (fun h=>acM t.1.1 t.1.2.1.1 t.1.2.1.2 t.1.2.2.1 t.2.1.1 t.2.1.2.1.1 t.2.1.2.1.2 t.2.1.2.2.1 (acN h)) ba)
def SL:List aL:=SK :: aa2
theorem v8:bf prog (bi SL):=aw Yu AA
inductive gj where
  | r0 (a:Nat) (b:Bool) (c:List Int) (d:Nat) (e:Nat) (f:Int)
def Ga:gj→AE×aM
  | .r0 a b c d e f=>(.ret,⟨an 11 [(2,.ptr 0 1 0 0),(3,.int .i64 ((a:Nat):Int))],[(0,.vs [.bool false b,.imm .free (.ns .u64 c) 1 1 d e,.int .i64 f])],1⟩)
theorem SM:l9 Ga:=by intro x;cases x <;> (intro h;cases h)
def LN:gj→jv
  | .r0 a b c d e f=>⟨.tup [.agg [.bool false b,.imm .free (.ns .u64 c) 1 1 d e,.int .i64 f],.int .i64 ((a:Nat):Int)],[]⟩
def Ji:List Code:=bS (bB oR)
def SN:Bool×(List Int)×Nat×Nat×Int×Bool→aM:=fun (a,b,c,d,e,f)=>⟨an 11 [(1,.ptr 0 1 0 0),(2,.ptr 1 1 0 0)],[(0,.vs [.bool false a,.imm .free (.ns .u64 b) 1 1 c d,.int .i64 e]),(1,.vs [.bool false f,.nsl,.int .i64 (0:Int)])],2⟩
def Jj(b:Bool)(a:List Int)(c:Int) :T ((Bool×(List Int)×Nat×Nat×Int×Bool)⊕(gj)) :=
  .need (aR 0 (List.length a) a)<|.need (gO (aE b (aa 0 (List.length a) a) c))<|.leaf (.inl ((dT (aE b (aa 0 (List.length a) a) c)),(dU (aE b (aa 0 (List.length a) a) c)),(dV (aE b (aa 0 (List.length a) a) c)),(dW (aE b (aa 0 (List.length a) a) c)),(dX (aE b (aa 0 (List.length a) a) c)),false))
def SO(a:Bool)(b:List Int)(c:Nat)(d:Nat)(e:Int)(f:Bool)(g:Bool) :aM:=⟨an 11 [(1,.ptr 0 1 0 0),(2,.ptr 1 1 0 0),(8,.bool false g)],[(0,.vs [.bool false a,.imm .free (.ns .u64 b) 1 1 c d,.int .i64 e]),(1,.vs [.bool false f,.nsl,.int .i64 (0:Int)])],2⟩
def C7(a:List Int)(b:Nat)(c:Nat)(d:Int) :T ((Bool)⊕(gj)) :=
  .need (aR b c a)<|.need (lz (eI (aa b c a) d))<|.leaf (.inl (!(jx (eI (aa b c a) d))))
def SP(a:Bool)(b:List Int)(c:Nat)(d:Nat)(e:Int)(f:Bool) :T ((Empty)⊕(gj)) :=
  .ask f
    (.leaf (.inr (.r0 3 false ([]:List Int) 0 0 (0:Int))))
    (.leaf (.inr (.r0 0 a b c d e)))
def cr(e:Bool)(f:List Int)(g:Int) :Option gj:=me (aH ((Jj e f g).run) fun (h,a,b,c,d,j) =>
  aH ((C7 a b c d).run) fun i =>
  (SP h a b c d i).run)
theorem agv(g:Bool)(l:Lv)(b:List Int)(i:Int){x:gj}(h:cr g b i=some x) :ax prog oR [] [.agg [.bool false g,.imm l (.ns .u64 b) 1 1 0 (List.length b),.int .i64 i]] (LN x) :=
  Sg.contract true LN (by kernel_rfl:prog.funcs[oR]? = some (FN oR)) (by kernel_rfl:(FN oR).body=some (bB oR)) (Sg.cut 2 SM (Sg.seg (C:=C0) ap v8 60 (Ji.take 2) (aT (FN oR) [] [.agg [.bool false g,.imm l (.ns .u64 b) 1 1 0 (List.length b),.int .i64 i]]) (Jj g b i) SN Ga [⟨[],[0,16],[1,2]⟩] (by kernel_rfl)) (fun a=>by obtain ⟨j,c,d,e,f,k⟩:=a;exact Sg.cut 1 SM (Sg.seg (C:=C0) ap v8 60 ((Ji.drop 2).take 1) (SN (j,c,d,e,f,k)) (C7 c d e f) (SO j c d e f k) Ga [⟨[],[0,1],[1,2,8]⟩] (by kernel_rfl)) (fun m=>by exact Sg.seg (C:=C0) ap v8 60 ((Ji.drop 2).drop 1) (SO j c d e f k m) (SP j c d e f m) (fun a:Empty=>a.elim) Ga [⟨[(.cell 1 1,.fre 1 1 (.ns .u64 ([]:List Int)))],[1],[2,3]⟩,⟨[],[1],[2,3]⟩] (by kernel_rfl))))
    (fun x=>by cases x with | r0 n o p q r s=>exact ⟨.inr rfl,[.agg [.bool false o,.imm .free (.ns .u64 p) 1 1 q r,.int .i64 s],.int .i64 ((n:Nat):Int)],[],by kernel_rfl,trivial,by kernel_rfl⟩) h
def um:Option gj→Bool
  | some _=>true
  | none=>false
def te:Option gj→Nat
  | some (.r0 x _ _ _ _ _)=>x
  | _=>0
def tf:Option gj→Bool
  | some (.r0 _ x _ _ _ _)=>x
  | _=>false
def tg:Option gj→List Int
  | some (.r0 _ _ x _ _ _)=>x
  | _=>[]
def th:Option gj→Nat
  | some (.r0 _ _ _ x _ _)=>x
  | _=>0
def ti:Option gj→Nat
  | some (.r0 _ _ _ _ x _)=>x
  | _=>0
def tj:Option gj→Int
  | some (.r0 _ _ _ _ _ x)=>x
  | _=>0
theorem agw{x:Option gj}(h:um x=true) :x=some (.r0 (te x) (tf x) (tg x) (th x) (ti x) (tj x)):=by
  unfold um at h
  split at h <;> first | rfl | (cases h;done) | (rename_i y;cases y;rfl)
def W5:aL:=cn oR (.cons (.agg (.cons .bool (.cons (.ns .u64) (.cons (.int .i64) .nil)))) .nil) fun t=>[⟨LN (.r0 (te (cr t.1.1 t.1.2.1.2 t.1.2.2.1)) (tf (cr t.1.1 t.1.2.1.2 t.1.2.2.1)) (tg (cr t.1.1 t.1.2.1.2 t.1.2.2.1)) (th (cr t.1.1 t.1.2.1.2 t.1.2.2.1)) (ti (cr t.1.1 t.1.2.1.2 t.1.2.2.1)) (tj (cr t.1.1 t.1.2.1.2 t.1.2.2.1))),[um (cr t.1.1 t.1.2.1.2 t.1.2.2.1)]⟩]
theorem aa3:aV prog W5:=aP fun t=>(aQ (fun h=>agv t.1.1 t.1.2.1.1 t.1.2.1.2 t.1.2.2.1 (agw h)) ba)
def W6:List aL:=W5 :: SL
theorem En:bf prog (bi W6):=aw aa3 v8
end
end Go.Plb.Seat
namespace Go.Plb.Seat
open Go Go.Plb
set_option linter.unusedVariables false
set_option maxRecDepth 100000
noncomputable section
inductive fN where
  | r0 (a:Nat) (b:Bool) (c:List Int) (d:Nat) (e:Nat) (f:Int)
def Jk:fN→AE×aM
  | .r0 a b c d e f=>(.ret,⟨an 21 [(7,.ptr 0 1 0 0),(8,.int .i64 ((a:Nat):Int))],[(0,.vs [.bool false b,.imm .free (.ns .u64 c) 1 1 d e,.int .i64 f])],1⟩)
theorem acO:l9 Jk:=by intro x;cases x <;> (intro h;cases h)
def Jl:fN→jv
  | .r0 a b c d e f=>⟨.tup [.agg [.bool false b,.imm .free (.ns .u64 c) 1 1 d e,.int .i64 f],.int .i64 ((a:Nat):Int)],[]⟩
def Oo:List Code:=bS (bB iF)
def Oq:Nat×Bool×(List Int)×Nat×Nat×Int→aM:=fun (a,b,c,d,e,f)=>⟨an 21 [(7,.ptr 0 1 0 0),(8,.int .i64 ((a:Nat):Int))],[(0,.vs [.bool false b,.imm .free (.ns .u64 c) 1 1 d e,.int .i64 f])],1⟩
def GT(b:Bool)(a:List Int)(d:Int)(c:Int) :T ((Nat×Bool×(List Int)×Nat×Nat×Int)⊕(fN)) :=
  .ask (d != (0:Int))
    (.leaf (.inr (.r0 3 false ([]:List Int) 0 0 (0:Int))))
    (.need (aR 0 (List.length a) a)<|.need (um (cr b (aa 0 (List.length a) a) c))<|.leaf (.inl ((te (cr b (aa 0 (List.length a) a) c)),(tf (cr b (aa 0 (List.length a) a) c)),(tg (cr b (aa 0 (List.length a) a) c)),(th (cr b (aa 0 (List.length a) a) c)),(ti (cr b (aa 0 (List.length a) a) c)),(tj (cr b (aa 0 (List.length a) a) c)))))
def Ot(a:Nat)(b:Bool)(c:List Int)(d:Nat)(e:Nat)(f:Int) :T ((Empty)⊕(fN)) :=
  .leaf (.inr (.r0 a b c d e f))
def cg(a:Bool)(b:List Int)(c:Int)(d:Int) :Option fN:=me (aH ((GT a b c d).run) fun (e,f,g,h,i,j) =>
  (Ot e f g h i j).run)
theorem acP(c:Bool)(i:Lv)(b:List Int)(d:Int)(j:Lv)(e:Int)(k:Lv)(f:List Int)(l:Lv)(g:List Int){x:fN}(h:cg c b d e=some x) :ax prog iF [] [.bool false c,.imm i (.ns .u64 b) 1 1 0 (List.length b),.int .i64 d,.iptr j (.vs [.int .i64 e,.imm k (.ns .u64 f) 1 1 0 (List.length f),.imm l (.ns .u64 g) 1 1 0 (List.length g)]) 1 0 0] (Jl x) :=
  Sg.contract false Jl (by kernel_rfl:prog.funcs[iF]? = some (FN iF)) (by kernel_rfl:(FN iF).body=some (bB iF)) (Sg.cut 4 acO (Sg.seg (C:=C0) ap En 60 (Oo.take 4) (aT (FN iF) [] [.bool false c,.imm i (.ns .u64 b) 1 1 0 (List.length b),.int .i64 d,.iptr j (.vs [.int .i64 e,.imm k (.ns .u64 f) 1 1 0 (List.length f),.imm l (.ns .u64 g) 1 1 0 (List.length g)]) 1 0 0]) (GT c b d e) Oq Jk [⟨[(.cell 0 1,.fre 1 1 (.ns .u64 ([]:List Int)))],[0],[7,8]⟩,⟨[],[0],[7,8]⟩] (by kernel_rfl)) (fun a=>by obtain ⟨m,n,o,p,q,r⟩:=a;exact Sg.seg (C:=C0) ap En 60 (Oo.drop 4) (Oq (m,n,o,p,q,r)) (Ot m n o p q r) (fun a:Empty=>a.elim) Jk [⟨[],[0],[7,8]⟩] (by kernel_rfl)))
    (fun x=>by cases x with | r0 s t u v w y=>exact ⟨.inr rfl,[.agg [.bool false t,.imm .free (.ns .u64 u) 1 1 v w,.int .i64 y],.int .i64 ((s:Nat):Int)],[],by kernel_rfl,trivial,by kernel_rfl⟩) h
def sf:Option fN→Bool
  | some _=>true
  | none=>false
def rO:Option fN→Nat
  | some (.r0 x _ _ _ _ _)=>x
  | _=>0
def rP:Option fN→Bool
  | some (.r0 _ x _ _ _ _)=>x
  | _=>false
def rQ:Option fN→List Int
  | some (.r0 _ _ x _ _ _)=>x
  | _=>[]
def rR:Option fN→Nat
  | some (.r0 _ _ _ x _ _)=>x
  | _=>0
def rS:Option fN→Nat
  | some (.r0 _ _ _ _ x _)=>x
  | _=>0
def rT:Option fN→Int
  | some (.r0 _ _ _ _ _ x)=>x
  | _=>0
theorem acQ{x:Option fN}(h:sf x=true) :x=some (.r0 (rO x) (rP x) (rQ x) (rR x) (rS x) (rT x)):=by
  unfold sf at h
  split at h <;> first | rfl | (cases h;done) | (rename_i y;cases y;rfl)
def SQ:aL:=cn iF (.cons .bool (.cons (.ns .u64) (.cons (.int .i64) (.cons (.ivs (.cons (.int .i64) (.cons (.ns .u64) (.cons (.ns .u64) .nil))) 1 0 0) .nil)))) fun t=>[⟨Jl (.r0 (rO (cg t.1 t.2.1.2 t.2.2.1 t.2.2.2.1.2.1)) (rP (cg t.1 t.2.1.2 t.2.2.1 t.2.2.2.1.2.1)) (rQ (cg t.1 t.2.1.2 t.2.2.1 t.2.2.2.1.2.1)) (rR (cg t.1 t.2.1.2 t.2.2.1 t.2.2.2.1.2.1)) (rS (cg t.1 t.2.1.2 t.2.2.1 t.2.2.2.1.2.1)) (rT (cg t.1 t.2.1.2 t.2.2.1 t.2.2.2.1.2.1))),[sf (cg t.1 t.2.1.2 t.2.2.1 t.2.2.2.1.2.1)]⟩]
theorem Yv:aV prog SQ:=aP fun t=>(aQ (fun h=>acP t.1 t.2.1.1 t.2.1.2 t.2.2.1 t.2.2.2.1.1 t.2.2.2.1.2.1 t.2.2.2.1.2.2.1.1 t.2.2.2.1.2.2.1.2 t.2.2.2.1.2.2.2.1.1 t.2.2.2.1.2.2.2.1.2 (acQ h)) ba)
def SS:List aL:=SQ :: W6
theorem iJ:bf prog (bi SS):=aw Yv En
inductive fa where
  | r0 (a:Nat) (b:Bool) (c:List Int) (d:Nat) (e:Nat) (f:Int)
def q7:fa→AE×aM
  | .r0 a b c d e f=>(.ret,⟨an 97 [(4,.ptr 0 1 0 0),(5,.int .i64 ((a:Nat):Int))],[(0,.vs [.bool false b,.imm .free (.ns .u64 c) 1 1 d e,.int .i64 f])],1⟩)
theorem tk:l9 q7:=by intro x;cases x <;> (intro h;cases h)
def Rg:fa→jv
  | .r0 a b c d e f=>⟨.tup [.agg [.bool false b,.imm .free (.ns .u64 c) 1 1 d e,.int .i64 f],.int .i64 ((a:Nat):Int)],[]⟩
def qD:List Code:=bS (bB qO)
def W7(a:Lv)(b:Lv) :Nat×Bool×(List Int)×Nat×Nat×Int×Bool×(List Int)×Nat×Nat×Int×Bool→aM:=fun (c,d,e,f,g,h,i,j,k,l,m,n)=>⟨an 97 [(2,.ptr 0 1 0 0),(3,.ptr 1 1 0 0),(4,.ptr 2 1 0 0),(6,.int .i64 ((c:Nat):Int))],[(0,.vs [.bool false d,.imm a (.ns .u64 e) 1 1 f g,.int .i64 h]),(1,.vs [.bool false i,.imm b (.ns .u64 j) 1 1 k l,.int .i64 m]),(2,.vs [.bool false n,.nsl,.int .i64 (0:Int)])],3⟩
def Gb(d : Bool)(a : List Int)(c : Int)(f : Bool)(b : List Int)(e : Int) : T ((Nat × Bool × (List Int) × Nat × Nat × Int × Bool × (List Int) × Nat × Nat × Int × Bool) ⊕ (fa)) :=
  .ask (decide ((0:Int) < (2:Int)))
    (.need (iC (0:Int) 2)<|.need (aR 0 (List.length a) a)<|.need (lz (eI (aa 0 (List.length a) a) c))<|.ask (!(jx (eI (aa 0 (List.length a) a) c)))
      (.leaf (.inl (2,d,a,0,(List.length a),c,f,b,0,(List.length b),e,false)))
      (.need (aR 0 (List.length a) a)<|.need (gO (aE d (aa 0 (List.length a) a) c))<|.need (ej .i64 (1:Int))<|.ask (decide ((1:Int) < (2:Int)))
        (.need (iC (1:Int) 2)<|.need (aR 0 (List.length b) b)<|.need (lz (eI (aa 0 (List.length b) b) e))<|.ask (!(jx (eI (aa 0 (List.length b) b) e)))
          (.leaf (.inl (2,(dT (aE d (aa 0 (List.length a) a) c)),(dU (aE d (aa 0 (List.length a) a) c)),(dV (aE d (aa 0 (List.length a) a) c)),(dW (aE d (aa 0 (List.length a) a) c)),(dX (aE d (aa 0 (List.length a) a) c)),f,b,0,(List.length b),e,false)))
          (.need (aR 0 (List.length b) b)<|.need (gO (aE f (aa 0 (List.length b) b) e))<|.need (ej .i64 (2:Int))<|.ask (decide ((2:Int) < (2:Int)))
            (.fail)
            (.leaf (.inl (0,(dT (aE d (aa 0 (List.length a) a) c)),(dU (aE d (aa 0 (List.length a) a) c)),(dV (aE d (aa 0 (List.length a) a) c)),(dW (aE d (aa 0 (List.length a) a) c)),(dX (aE d (aa 0 (List.length a) a) c)),(dT (aE f (aa 0 (List.length b) b) e)),(dU (aE f (aa 0 (List.length b) b) e)),(dV (aE f (aa 0 (List.length b) b) e)),(dW (aE f (aa 0 (List.length b) b) e)),(dX (aE f (aa 0 (List.length b) b) e)),false)))))
        (.fail)))
    (.fail)
def W8(a:Lv)(b:Lv)(c:Bool)(d:List Int)(e:Nat)(f:Nat)(g:Int)(h:Bool)(i:List Int)(j:Nat)(k:Nat)(l:Int)(m:Bool) :Nat×Int×(List Int)×Nat×(List Int)×Nat→aM:=fun (n,o,p,q,r,s)=>⟨an 97 [(2,.ptr 0 1 0 0),(3,.ptr 1 1 0 0),(4,.ptr 2 1 0 0),(7,.ptr 3 1 0 0),(8,.int .i64 ((n:Nat):Int))],[(0,.vs [.bool false c,.imm a (.ns .u64 d) 1 1 e f,.int .i64 g]),(1,.vs [.bool false h,.imm b (.ns .u64 i) 1 1 j k,.int .i64 l]),(2,.vs [.bool false m,.nsl,.int .i64 (0:Int)]),(3,.vs [.int .i64 o,.imm .free (.ns .u64 p) 1 1 0 q,.imm .free (.ns .u64 r) 1 1 0 s])],4⟩
def C8(i:Nat)(a:List Int)(b:Nat)(c:Nat)(g:Int)(d:List Int)(e:Nat)(f:Nat)(h:Int) :T ((Nat×Int×(List Int)×Nat×(List Int)×Nat)⊕(fa)) :=
  .ask (((i:Nat):Int) != (0:Int))
    (.leaf (.inr (.r0 i false ([]:List Int) 0 0 (0:Int))))
    (.need (aR b c a)<|.need (aR e f d)<|.need (u5 (cX (aa b c a) g (aa e f d) h))<|.leaf (.inl ((vY (cX (aa b c a) g (aa e f d) h)),(vZ (cX (aa b c a) g (aa e f d) h)),(v4 (cX (aa b c a) g (aa e f d) h)),(v5 (cX (aa b c a) g (aa e f d) h)),(v6 (cX (aa b c a) g (aa e f d) h)),(v7 (cX (aa b c a) g (aa e f d) h)))))
def W9(a:Lv)(b:Lv)(c:Bool)(d:List Int)(e:Nat)(f:Nat)(g:Int)(h:Bool)(i:List Int)(j:Nat)(k:Nat)(l:Int)(m:Bool)(n:Int)(o:List Int)(p:Nat)(q:List Int)(r:Nat)(_:Unit) :aM:=⟨an 97 [(2,.ptr 0 1 0 0),(3,.ptr 1 1 0 0),(4,.ptr 2 1 0 0),(7,.ptr 3 1 0 0),(9,.fn (.func iF) [] [.ptr 3 1 0 0])],[(0,.vs [.bool false c,.imm a (.ns .u64 d) 1 1 e f,.int .i64 g]),(1,.vs [.bool false h,.imm b (.ns .u64 i) 1 1 j k,.int .i64 l]),(2,.vs [.bool false m,.nsl,.int .i64 (0:Int)]),(3,.vs [.int .i64 n,.imm .free (.ns .u64 o) 1 1 0 p,.imm .free (.ns .u64 q) 1 1 0 r])],4⟩
def un(e:Bool)(h:Bool)(g:Nat)(f:Int)(a:List Int)(b:Nat)(c:List Int)(d:Nat) :T ((Unit)⊕(fa)) :=
  .ask (((g:Nat):Int) != (0:Int))
    (.leaf (.inr (.r0 g false ([]:List Int) 0 0 (0:Int))))
    (.ask (e == h)
      (.need (aR 0 b a)<|.need (aR 0 d c)<|.need (Eb (cu (aa 0 b a) (aa 0 d c)))<|.need (aR (jF (cu (aa 0 b a) (aa 0 d c))) (jG (cu (aa 0 b a) (aa 0 d c))) (jH (cu (aa 0 b a) (aa 0 d c))))<|.need (aR 0 b a)<|.need (aR 0 d c)<|.need (sf (cg e (aa (jF (cu (aa 0 b a) (aa 0 d c))) (jG (cu (aa 0 b a) (aa 0 d c))) (jH (cu (aa 0 b a) (aa 0 d c)))) (((k9 (cu (aa 0 b a) (aa 0 d c))):Nat):Int) f))<|.leaf (.inr (.r0 (rO (cg e (aa (jF (cu (aa 0 b a) (aa 0 d c))) (jG (cu (aa 0 b a) (aa 0 d c))) (jH (cu (aa 0 b a) (aa 0 d c)))) (((k9 (cu (aa 0 b a) (aa 0 d c))):Nat):Int) f)) (rP (cg e (aa (jF (cu (aa 0 b a) (aa 0 d c))) (jG (cu (aa 0 b a) (aa 0 d c))) (jH (cu (aa 0 b a) (aa 0 d c)))) (((k9 (cu (aa 0 b a) (aa 0 d c))):Nat):Int) f)) (rQ (cg e (aa (jF (cu (aa 0 b a) (aa 0 d c))) (jG (cu (aa 0 b a) (aa 0 d c))) (jH (cu (aa 0 b a) (aa 0 d c)))) (((k9 (cu (aa 0 b a) (aa 0 d c))):Nat):Int) f)) (rR (cg e (aa (jF (cu (aa 0 b a) (aa 0 d c))) (jG (cu (aa 0 b a) (aa 0 d c))) (jH (cu (aa 0 b a) (aa 0 d c)))) (((k9 (cu (aa 0 b a) (aa 0 d c))):Nat):Int) f)) (rS (cg e (aa (jF (cu (aa 0 b a) (aa 0 d c))) (jG (cu (aa 0 b a) (aa 0 d c))) (jH (cu (aa 0 b a) (aa 0 d c)))) (((k9 (cu (aa 0 b a) (aa 0 d c))):Nat):Int) f)) (rT (cg e (aa (jF (cu (aa 0 b a) (aa 0 d c))) (jG (cu (aa 0 b a) (aa 0 d c))) (jH (cu (aa 0 b a) (aa 0 d c)))) (((k9 (cu (aa 0 b a) (aa 0 d c))):Nat):Int) f)))))
      (.leaf (.inl ())))
def Xa(a:Lv)(b:Lv)(c:Bool)(d:List Int)(e:Nat)(f:Nat)(g:Int)(h:Bool)(i:List Int)(j:Nat)(k:Nat)(l:Int)(m:Bool)(n:Int)(o:List Int)(p:Nat)(q:List Int)(r:Nat)(s:Int) :aM:=⟨an 97 [(2,.ptr 0 1 0 0),(3,.ptr 1 1 0 0),(4,.ptr 2 1 0 0),(7,.ptr 3 1 0 0),(9,.fn (.func iF) [] [.ptr 3 1 0 0]),(12,.int .i64 s)],[(0,.vs [.bool false c,.imm a (.ns .u64 d) 1 1 e f,.int .i64 g]),(1,.vs [.bool false h,.imm b (.ns .u64 i) 1 1 j k,.int .i64 l]),(2,.vs [.bool false m,.nsl,.int .i64 (0:Int)]),(3,.vs [.int .i64 n,.imm .free (.ns .u64 o) 1 1 0 p,.imm .free (.ns .u64 q) 1 1 0 r])],4⟩
def C9(a:List Int)(b:Nat)(c:List Int)(d:Nat) :T ((Int)⊕(fa)) :=
  .need (aR 0 b a)<|.need (aR 0 d c)<|.need (D9 (ue (aa 0 b a) (aa 0 d c)))<|.leaf (.inl (CX (ue (aa 0 b a) (aa 0 d c))))
def Xb(a:Lv)(b:Bool)(c:List Int)(d:Nat)(e:Nat)(f:Int)(g:Bool)(h:Int)(i:List Int)(j:Nat)(k:List Int)(l:Nat)(_:Unit) :aM:=⟨an 97 [(2,.ptr 0 1 0 0),(4,.ptr 1 1 0 0),(7,.ptr 2 1 0 0),(9,.fn (.func iF) [] [.ptr 2 1 0 0])],[(0,.vs [.bool false b,.imm a (.ns .u64 c) 1 1 d e,.int .i64 f]),(1,.vs [.bool false g,.nsl,.int .i64 (0:Int)]),(2,.vs [.int .i64 h,.imm .free (.ns .u64 i) 1 1 0 j,.imm .free (.ns .u64 k) 1 1 0 l])],3⟩
def Da(e:Bool)(f:Int)(a:List Int)(b:Nat)(c:List Int)(d:Nat)(g:Int) :T ((Unit)⊕(fa)) :=
  .ask (decide (g < (0:Int)))
    (.need (aR 0 d c)<|.need (aR 0 b a)<|.need (zN (ca (aa 0 d c) (aa 0 b a)))<|.need (aR (iH (ca (aa 0 d c) (aa 0 b a))) (iI (ca (aa 0 d c) (aa 0 b a))) (iG (ca (aa 0 d c) (aa 0 b a))))<|.need (aR 0 b a)<|.need (aR 0 d c)<|.need (sf (cg e (aa (iH (ca (aa 0 d c) (aa 0 b a))) (iI (ca (aa 0 d c) (aa 0 b a))) (iG (ca (aa 0 d c) (aa 0 b a)))) (((jI (ca (aa 0 d c) (aa 0 b a))):Nat):Int) f))<|.leaf (.inr (.r0 (rO (cg e (aa (iH (ca (aa 0 d c) (aa 0 b a))) (iI (ca (aa 0 d c) (aa 0 b a))) (iG (ca (aa 0 d c) (aa 0 b a)))) (((jI (ca (aa 0 d c) (aa 0 b a))):Nat):Int) f)) (rP (cg e (aa (iH (ca (aa 0 d c) (aa 0 b a))) (iI (ca (aa 0 d c) (aa 0 b a))) (iG (ca (aa 0 d c) (aa 0 b a)))) (((jI (ca (aa 0 d c) (aa 0 b a))):Nat):Int) f)) (rQ (cg e (aa (iH (ca (aa 0 d c) (aa 0 b a))) (iI (ca (aa 0 d c) (aa 0 b a))) (iG (ca (aa 0 d c) (aa 0 b a)))) (((jI (ca (aa 0 d c) (aa 0 b a))):Nat):Int) f)) (rR (cg e (aa (iH (ca (aa 0 d c) (aa 0 b a))) (iI (ca (aa 0 d c) (aa 0 b a))) (iG (ca (aa 0 d c) (aa 0 b a)))) (((jI (ca (aa 0 d c) (aa 0 b a))):Nat):Int) f)) (rS (cg e (aa (iH (ca (aa 0 d c) (aa 0 b a))) (iI (ca (aa 0 d c) (aa 0 b a))) (iG (ca (aa 0 d c) (aa 0 b a)))) (((jI (ca (aa 0 d c) (aa 0 b a))):Nat):Int) f)) (rT (cg e (aa (iH (ca (aa 0 d c) (aa 0 b a))) (iI (ca (aa 0 d c) (aa 0 b a))) (iG (ca (aa 0 d c) (aa 0 b a)))) (((jI (ca (aa 0 d c) (aa 0 b a))):Nat):Int) f)))))
    (.leaf (.inl ()))
def Xc(a:Lv)(b:Bool)(c:List Int)(d:Nat)(e:Nat)(f:Int)(g:Bool)(h:Int)(i:List Int)(j:Nat)(k:List Int)(l:Nat) :Nat×(List Int)×Nat×Nat→aM:=fun (m,n,o,p)=>⟨an 97 [(2,.ptr 0 1 0 0),(4,.ptr 1 1 0 0),(8,.int .i64 ((m:Nat):Int)),(9,.fn (.func iF) [] [.ptr 2 1 0 0]),(16,.imm .free (.ns .u64 n) 1 1 o p)],[(0,.vs [.bool false b,.imm a (.ns .u64 c) 1 1 d e,.int .i64 f]),(1,.vs [.bool false g,.nsl,.int .i64 (0:Int)]),(2,.vs [.int .i64 h,.imm .free (.ns .u64 i) 1 1 0 j,.imm .free (.ns .u64 k) 1 1 0 l])],3⟩
def Db(a:List Int)(b:Nat)(c:List Int)(d:Nat) :T ((Nat×(List Int)×Nat×Nat)⊕(fa)) :=
  .need (aR 0 b a)<|.need (aR 0 d c)<|.need (zN (ca (aa 0 b a) (aa 0 d c)))<|.leaf (.inl ((jI (ca (aa 0 b a) (aa 0 d c))),(iG (ca (aa 0 b a) (aa 0 d c))),(iH (ca (aa 0 b a) (aa 0 d c))),(iI (ca (aa 0 b a) (aa 0 d c)))))
def Xd:Nat×Bool×(List Int)×Nat×Nat×Int→aM:=fun (a,b,c,d,e,f)=>⟨an 97 [(4,.ptr 0 1 0 0),(5,.int .i64 ((a:Nat):Int))],[(0,.vs [.bool false b,.imm .free (.ns .u64 c) 1 1 d e,.int .i64 f])],1⟩
def Dc(d:Bool)(e:Int)(g:List Int)(h:Nat)(i:List Int)(j:Nat)(f:Nat)(a:List Int)(b:Nat)(c:Nat) :T ((Nat×Bool×(List Int)×Nat×Nat×Int)⊕(fa)) :=
  .need (aR b c a)<|.need (aR 0 h g)<|.need (aR 0 j i)<|.need (sf (cg d (aa b c a) ((f:Nat):Int) e))<|.leaf (.inl ((rO (cg d (aa b c a) ((f:Nat):Int) e)),(rP (cg d (aa b c a) ((f:Nat):Int) e)),(rQ (cg d (aa b c a) ((f:Nat):Int) e)),(rR (cg d (aa b c a) ((f:Nat):Int) e)),(rS (cg d (aa b c a) ((f:Nat):Int) e)),(rT (cg d (aa b c a) ((f:Nat):Int) e))))
def ST(a:Nat)(b:Bool)(c:List Int)(d:Nat)(e:Nat)(f:Int) :T ((Empty)⊕(fa)) :=
  .leaf (.inr (.r0 a b c d e f))
def cI(h:Bool)(i:List Int)(j:Int)(k:Bool)(l:List Int)(m:Int) :Option fa:=me (aH ((Gb h i j k l m).run) fun (n,f,o,p,q,r,g,s,t,u,v,I) =>
  aH ((C8 n o p q r s t u v).run) fun (w,e,a,b,c,d) =>
  aH ((un f g w e a b c d).run) fun _ =>
  aH ((C9 a b c d).run) fun x =>
  aH ((Da g e a b c d x).run) fun _ =>
  aH ((Db a b c d).run) fun (y,z,A,B) =>
  aH ((Dc f e a b c d y z A B).run) fun (C,D,E,F,G,H) =>
  (ST C D E F G H).run)
theorem aja(w:Bool)(b:Lv)(u:List Int)(y:Int)(z:Bool)(n:Lv)(v:List Int)(A:Int){x:fa}(h:cI w u y z v A=some x) :ax prog qO [] [.agg [.bool false w,.imm b (.ns .u64 u) 1 1 0 (List.length u),.int .i64 y],.agg [.bool false z,.imm n (.ns .u64 v) 1 1 0 (List.length v),.int .i64 A]] (Rg x) :=
  Sg.contract true Rg (by kernel_rfl:prog.funcs[qO]? = some (FN qO)) (by kernel_rfl:(FN qO).body=some (bB qO)) (Sg.cut 2 tk (Sg.seg (C:=C0) ap iJ 60 (qD.take 2) (aT (FN qO) [] [.agg [.bool false w,.imm b (.ns .u64 u) 1 1 0 (List.length u),.int .i64 y],.agg [.bool false z,.imm n (.ns .u64 v) 1 1 0 (List.length v),.int .i64 A]]) (Gb w u y z v A) (W7 b n) q7 [⟨[],[0,16,32],[2,3,4,6]⟩,⟨[(.cell 0 1,.lev b)],[0,16,32],[2,3,4,6]⟩,⟨[(.cell 0 1,.lev b),(.cell 16 1,.lev n)],[0,16,32],[2,3,4,6]⟩] (by kernel_rfl)) (fun a=>by obtain ⟨B,g,i,j,k,l,p,q,r,s,t,o⟩:=a;exact Sg.cut 3 tk (Sg.seg (C:=C0) ap iJ 60 ((qD.drop 2).take 3) (W7 b n (B,g,i,j,k,l,p,q,r,s,t,o)) (C8 B i j k l q r s t) (W8 b n g i j k l p q r s t o) q7 [⟨[(.cell 2 1,.fre 1 1 (.ns .u64 ([]:List Int)))],[2],[4,5]⟩,⟨[],[0,1,2,131],[2,3,4,7,8]⟩] (by kernel_rfl)) (fun a=>by obtain ⟨D,m,c,d,e,f⟩:=a;exact Sg.cut 5 tk (Sg.seg (C:=C0) ap iJ 60 (((qD.drop 2).drop 3).take 5) (W8 b n g i j k l p q r s t o (D,m,c,d,e,f)) (un g p D m c d e f) (W9 b n g i j k l p q r s t o m c d e f) q7 [⟨[(.cell 2 1,.fre 1 1 (.ns .u64 ([]:List Int)))],[2],[4,5]⟩,⟨[],[2],[4,5]⟩,⟨[],[0,1,2,3],[2,3,4,7,9]⟩] (by kernel_rfl)) (fun a=>by cases a;exact Sg.cut 1 tk (Sg.seg (C:=C0) ap iJ 60 ((((qD.drop 2).drop 3).drop 5).take 1) (W9 b n g i j k l p q r s t o m c d e f ()) (C9 c d e f) (Xa b n g i j k l p q r s t o m c d e f) q7 [⟨[],[0,1,2,3],[2,3,4,7,9,12]⟩] (by kernel_rfl)) (fun E=>by exact Sg.cut 2 tk (Sg.seg (C:=C0) ap iJ 60 (((((qD.drop 2).drop 3).drop 5).drop 1).take 2) (Xa b n g i j k l p q r s t o m c d e f E) (Da p m c d e f E) (Xb b g i j k l o m c d e f) q7 [⟨[],[2],[4,5]⟩,⟨[],[0,2,3],[2,4,7,9]⟩] (by kernel_rfl)) (fun a=>by cases a;exact Sg.cut 1 tk (Sg.seg (C:=C0) ap iJ 60 ((((((qD.drop 2).drop 3).drop 5).drop 1).drop 2).take 1) (Xb b g i j k l o m c d e f ()) (Db c d e f) (Xc b g i j k l o m c d e f) q7 [⟨[],[0,1,2],[2,4,8,9,16]⟩] (by kernel_rfl)) (fun a=>by obtain ⟨F,G,H,I⟩:=a;exact Sg.cut 1 tk (Sg.seg (C:=C0) ap iJ 60 (((((((qD.drop 2).drop 3).drop 5).drop 1).drop 2).drop 1).take 1) (Xc b g i j k l o m c d e f (F,G,H,I)) (Dc g m c d e f F G H I) Xd q7 [⟨[],[1],[4,5]⟩] (by kernel_rfl)) (fun a=>by obtain ⟨J,K,L,M,N,O⟩:=a;exact Sg.seg (C:=C0) ap iJ 60 (((((((qD.drop 2).drop 3).drop 5).drop 1).drop 2).drop 1).drop 1) (Xd (J,K,L,M,N,O)) (ST J K L M N O) (fun a:Empty=>a.elim) q7 [⟨[],[0],[4,5]⟩] (by kernel_rfl)))))))))
    (fun x=>by cases x with | r0 P Q R S T U=>exact ⟨.inr rfl,[.agg [.bool false Q,.imm .free (.ns .u64 R) 1 1 S T,.int .i64 U],.int .i64 ((P:Nat):Int)],[],by kernel_rfl,trivial,by kernel_rfl⟩) h
def BW:Option fa→Bool
  | some _=>true
  | none=>false
def sh:Option fa→Nat
  | some (.r0 x _ _ _ _ _)=>x
  | _=>0
def u6:Option fa→Bool
  | some (.r0 _ x _ _ _ _)=>x
  | _=>false
def u7:Option fa→List Int
  | some (.r0 _ _ x _ _ _)=>x
  | _=>[]
def u9:Option fa→Nat
  | some (.r0 _ _ _ x _ _)=>x
  | _=>0
def va:Option fa→Nat
  | some (.r0 _ _ _ _ x _)=>x
  | _=>0
def vb:Option fa→Int
  | some (.r0 _ _ _ _ _ x)=>x
  | _=>0
theorem ajb{x:Option fa}(h:BW x=true) :x=some (.r0 (sh x) (u6 x) (u7 x) (u9 x) (va x) (vb x)):=by
  unfold BW at h
  split at h <;> first | rfl | (cases h;done) | (rename_i y;cases y;rfl)
def aa4:aL:=cn qO (.cons (.agg (.cons .bool (.cons (.ns .u64) (.cons (.int .i64) .nil)))) (.cons (.agg (.cons .bool (.cons (.ns .u64) (.cons (.int .i64) .nil)))) .nil)) fun t=>[⟨Rg (.r0 (sh (cI t.1.1 t.1.2.1.2 t.1.2.2.1 t.2.1.1 t.2.1.2.1.2 t.2.1.2.2.1)) (u6 (cI t.1.1 t.1.2.1.2 t.1.2.2.1 t.2.1.1 t.2.1.2.1.2 t.2.1.2.2.1)) (u7 (cI t.1.1 t.1.2.1.2 t.1.2.2.1 t.2.1.1 t.2.1.2.1.2 t.2.1.2.2.1)) (u9 (cI t.1.1 t.1.2.1.2 t.1.2.2.1 t.2.1.1 t.2.1.2.1.2 t.2.1.2.2.1)) (va (cI t.1.1 t.1.2.1.2 t.1.2.2.1 t.2.1.1 t.2.1.2.1.2 t.2.1.2.2.1)) (vb (cI t.1.1 t.1.2.1.2 t.1.2.2.1 t.2.1.1 t.2.1.2.1.2 t.2.1.2.2.1))),[BW (cI t.1.1 t.1.2.1.2 t.1.2.2.1 t.2.1.1 t.2.1.2.1.2 t.2.1.2.2.1)]⟩]
theorem acR:aV prog aa4:=aP fun t=>(aQ (fun h=>aja t.1.1 t.1.2.1.1 t.1.2.1.2 t.1.2.2.1 t.2.1.1 t.2.1.2.1.1 t.2.1.2.1.2 t.2.1.2.2.1 (ajb h)) ba)
def aa5:List aL:=aa4 :: SS
theorem vc:bf prog (bi aa5):=aw acR iJ
inductive gY where
  | r0 (a:Nat) (b:Bool) (c:List Int) (d:Nat) (e:Nat) (f:Int)
def Eo:gY→AE×aM
  | .r0 a b c d e f=>(.ret,⟨an 41 [(4,.ptr 0 1 0 0),(5,.int .i64 ((a:Nat):Int))],[(0,.vs [.bool false b,.imm .free (.ns .u64 c) 1 1 d e,.int .i64 f])],1⟩)
theorem LO:l9 Eo:=by intro x;cases x <;> (intro h;cases h)
def Rh:gY→jv
  | .r0 a b c d e f=>⟨.tup [.agg [.bool false b,.imm .free (.ns .u64 c) 1 1 d e,.int .i64 f],.int .i64 ((a:Nat):Int)],[]⟩
def Gc:List Code:=bS (bB qN)
def Xe(a:Lv)(b:Lv) :Nat×Bool×(List Int)×Nat×Nat×Int×Bool×(List Int)×Nat×Nat×Int×Bool→aM:=fun (c,d,e,f,g,h,i,j,k,l,m,n)=>⟨an 41 [(2,.ptr 0 1 0 0),(3,.ptr 1 1 0 0),(4,.ptr 2 1 0 0),(6,.int .i64 ((c:Nat):Int))],[(0,.vs [.bool false d,.imm a (.ns .u64 e) 1 1 f g,.int .i64 h]),(1,.vs [.bool false i,.imm b (.ns .u64 j) 1 1 k l,.int .i64 m]),(2,.vs [.bool false n,.nsl,.int .i64 (0:Int)])],3⟩
def LP(d : Bool)(a : List Int)(c : Int)(f : Bool)(b : List Int)(e : Int) : T ((Nat × Bool × (List Int) × Nat × Nat × Int × Bool × (List Int) × Nat × Nat × Int × Bool) ⊕ (gY)) :=
  .ask (decide ((0:Int) < (2:Int)))
    (.need (iC (0:Int) 2)<|.need (aR 0 (List.length a) a)<|.need (lz (eI (aa 0 (List.length a) a) c))<|.ask (!(jx (eI (aa 0 (List.length a) a) c)))
      (.leaf (.inl (2,d,a,0,(List.length a),c,f,b,0,(List.length b),e,false)))
      (.need (aR 0 (List.length a) a)<|.need (gO (aE d (aa 0 (List.length a) a) c))<|.need (ej .i64 (1:Int))<|.ask (decide ((1:Int) < (2:Int)))
        (.need (iC (1:Int) 2)<|.need (aR 0 (List.length b) b)<|.need (lz (eI (aa 0 (List.length b) b) e))<|.ask (!(jx (eI (aa 0 (List.length b) b) e)))
          (.leaf (.inl (2,(dT (aE d (aa 0 (List.length a) a) c)),(dU (aE d (aa 0 (List.length a) a) c)),(dV (aE d (aa 0 (List.length a) a) c)),(dW (aE d (aa 0 (List.length a) a) c)),(dX (aE d (aa 0 (List.length a) a) c)),f,b,0,(List.length b),e,false)))
          (.need (aR 0 (List.length b) b)<|.need (gO (aE f (aa 0 (List.length b) b) e))<|.need (ej .i64 (2:Int))<|.ask (decide ((2:Int) < (2:Int)))
            (.fail)
            (.leaf (.inl (0,(dT (aE d (aa 0 (List.length a) a) c)),(dU (aE d (aa 0 (List.length a) a) c)),(dV (aE d (aa 0 (List.length a) a) c)),(dW (aE d (aa 0 (List.length a) a) c)),(dX (aE d (aa 0 (List.length a) a) c)),(dT (aE f (aa 0 (List.length b) b) e)),(dU (aE f (aa 0 (List.length b) b) e)),(dV (aE f (aa 0 (List.length b) b) e)),(dW (aE f (aa 0 (List.length b) b) e)),(dX (aE f (aa 0 (List.length b) b) e)),false)))))
        (.fail)))
    (.fail)
def Xf(a:Lv)(b:Lv)(c:Bool)(d:List Int)(e:Nat)(f:Nat)(g:Int)(h:Bool)(i:List Int)(j:Nat)(k:Nat)(l:Int)(m:Bool) :(List Int)×Nat×Nat×Nat→aM:=fun (n,o,p,q)=>⟨an 41 [(2,.ptr 0 1 0 0),(3,.ptr 1 1 0 0),(4,.ptr 2 1 0 0),(7,.imm .free (.ns .u64 n) 1 1 o p),(8,.int .i64 ((q:Nat):Int))],[(0,.vs [.bool false c,.imm a (.ns .u64 d) 1 1 e f,.int .i64 g]),(1,.vs [.bool false h,.imm b (.ns .u64 i) 1 1 j k,.int .i64 l]),(2,.vs [.bool false m,.nsl,.int .i64 (0:Int)])],3⟩
def Gd(g:Nat)(a:List Int)(b:Nat)(c:Nat)(d:List Int)(e:Nat)(f:Nat) :T (((List Int)×Nat×Nat×Nat)⊕(gY)) :=
  .ask (((g:Nat):Int) != (0:Int))
    (.leaf (.inr (.r0 g false ([]:List Int) 0 0 (0:Int))))
    (.need (aR b c a)<|.need (aR e f d)<|.need (IW (nA (aa b c a) (aa e f d)))<|.leaf (.inl ((I0 (nA (aa b c a) (aa e f d))),(IX (nA (aa b c a) (aa e f d))),(IY (nA (aa b c a) (aa e f d))),(IZ (nA (aa b c a) (aa e f d))))))
def Xg:Nat×Bool×(List Int)×Nat×Nat×Int→aM:=fun (a,b,c,d,e,f)=>⟨an 41 [(4,.ptr 0 1 0 0),(5,.int .i64 ((a:Nat):Int))],[(0,.vs [.bool false b,.imm .free (.ns .u64 c) 1 1 d e,.int .i64 f])],1⟩
def Ge(f:Bool)(a:Int)(g:Bool)(b:Int)(c:List Int)(d:Nat)(e:Nat)(h:Nat) :T ((Nat×Bool×(List Int)×Nat×Nat×Int)⊕(gY)) :=
  .ask (((h:Nat):Int) != (0:Int))
    (.leaf (.inr (.r0 3 false ([]:List Int) 0 0 (0:Int))))
    (.need (ej .i64 (a+b))<|.need (aR d e c)<|.need (um (cr (!(f == g)) (aa d e c) (a+b)))<|.leaf (.inl ((te (cr (!(f == g)) (aa d e c) (a+b))),(tf (cr (!(f == g)) (aa d e c) (a+b))),(tg (cr (!(f == g)) (aa d e c) (a+b))),(th (cr (!(f == g)) (aa d e c) (a+b))),(ti (cr (!(f == g)) (aa d e c) (a+b))),(tj (cr (!(f == g)) (aa d e c) (a+b))))))
def Xh(a:Nat)(b:Bool)(c:List Int)(d:Nat)(e:Nat)(f:Int) :T ((Empty)⊕(gY)) :=
  .leaf (.inr (.r0 a b c d e f))
def ay(a:Bool)(b:List Int)(c:Int)(d:Bool)(e:List Int)(f:Int) :Option gY:=me (aH ((LP a b c d e f).run) fun (g,h,i,j,k,l,m,n,o,p,q,B) =>
  aH ((Gd g i j k n o p).run) fun (r,s,t,u) =>
  aH ((Ge h l m q r s t u).run) fun (v,w,x,y,z,A) =>
  (Xh v w x y z A).run)
theorem ajc(f:Bool)(b:Lv)(d:List Int)(g:Int)(i:Bool)(c:Lv)(e:List Int)(j:Int){x:gY}(h:ay f d g i e j=some x) :ax prog qN [] [.agg [.bool false f,.imm b (.ns .u64 d) 1 1 0 (List.length d),.int .i64 g],.agg [.bool false i,.imm c (.ns .u64 e) 1 1 0 (List.length e),.int .i64 j]] (Rh x) :=
  Sg.contract true Rh (by kernel_rfl:prog.funcs[qN]? = some (FN qN)) (by kernel_rfl:(FN qN).body=some (bB qN)) (Sg.cut 2 LO (Sg.seg (C:=C0) ap vc 60 (Gc.take 2) (aT (FN qN) [] [.agg [.bool false f,.imm b (.ns .u64 d) 1 1 0 (List.length d),.int .i64 g],.agg [.bool false i,.imm c (.ns .u64 e) 1 1 0 (List.length e),.int .i64 j]]) (LP f d g i e j) (Xe b c) Eo [⟨[],[0,16,32],[2,3,4,6]⟩,⟨[(.cell 0 1,.lev b)],[0,16,32],[2,3,4,6]⟩,⟨[(.cell 0 1,.lev b),(.cell 16 1,.lev c)],[0,16,32],[2,3,4,6]⟩] (by kernel_rfl)) (fun a=>by obtain ⟨v,k,l,m,n,o,p,q,r,s,t,u⟩:=a;exact Sg.cut 3 LO (Sg.seg (C:=C0) ap vc 60 ((Gc.drop 2).take 3) (Xe b c (v,k,l,m,n,o,p,q,r,s,t,u)) (Gd v l m n q r s) (Xf b c k l m n o p q r s t u) Eo [⟨[(.cell 2 1,.fre 1 1 (.ns .u64 ([]:List Int)))],[2],[4,5]⟩,⟨[],[0,1,2],[2,3,4,7,8]⟩] (by kernel_rfl)) (fun a=>by obtain ⟨w,y,z,A⟩:=a;exact Sg.cut 3 LO (Sg.seg (C:=C0) ap vc 60 (((Gc.drop 2).drop 3).take 3) (Xf b c k l m n o p q r s t u (w,y,z,A)) (Ge k o p t w y z A) Xg Eo [⟨[(.cell 2 1,.fre 1 1 (.ns .u64 ([]:List Int)))],[2],[4,5]⟩,⟨[],[2],[4,5]⟩] (by kernel_rfl)) (fun a=>by obtain ⟨B,D,E,F,G,H⟩:=a;exact Sg.seg (C:=C0) ap vc 60 (((Gc.drop 2).drop 3).drop 3) (Xg (B,D,E,F,G,H)) (Xh B D E F G H) (fun a:Empty=>a.elim) Eo [⟨[],[0],[4,5]⟩] (by kernel_rfl)))))
    (fun x=>by cases x with | r0 I J K L M N=>exact ⟨.inr rfl,[.agg [.bool false J,.imm .free (.ns .u64 K) 1 1 L M,.int .i64 N],.int .i64 ((I:Nat):Int)],[],by kernel_rfl,trivial,by kernel_rfl⟩) h
def qE:Option gY→Bool
  | some _=>true
  | none=>false
def mW:Option gY→Nat
  | some (.r0 x _ _ _ _ _)=>x
  | _=>0
def da:Option gY→Bool
  | some (.r0 _ x _ _ _ _)=>x
  | _=>false
def cT:Option gY→List Int
  | some (.r0 _ _ x _ _ _)=>x
  | _=>[]
def cU:Option gY→Nat
  | some (.r0 _ _ _ x _ _)=>x
  | _=>0
def cV:Option gY→Nat
  | some (.r0 _ _ _ _ x _)=>x
  | _=>0
def db:Option gY→Int
  | some (.r0 _ _ _ _ _ x)=>x
  | _=>0
theorem ajd{x:Option gY}(h:qE x=true) :x=some (.r0 (mW x) (da x) (cT x) (cU x) (cV x) (db x)):=by
  unfold qE at h
  split at h <;> first | rfl | (cases h;done) | (rename_i y;cases y;rfl)
def aa6:aL:=cn qN (.cons (.agg (.cons .bool (.cons (.ns .u64) (.cons (.int .i64) .nil)))) (.cons (.agg (.cons .bool (.cons (.ns .u64) (.cons (.int .i64) .nil)))) .nil)) fun t=>[⟨Rh (.r0 (mW (ay t.1.1 t.1.2.1.2 t.1.2.2.1 t.2.1.1 t.2.1.2.1.2 t.2.1.2.2.1)) (da (ay t.1.1 t.1.2.1.2 t.1.2.2.1 t.2.1.1 t.2.1.2.1.2 t.2.1.2.2.1)) (cT (ay t.1.1 t.1.2.1.2 t.1.2.2.1 t.2.1.1 t.2.1.2.1.2 t.2.1.2.2.1)) (cU (ay t.1.1 t.1.2.1.2 t.1.2.2.1 t.2.1.1 t.2.1.2.1.2 t.2.1.2.2.1)) (cV (ay t.1.1 t.1.2.1.2 t.1.2.2.1 t.2.1.1 t.2.1.2.1.2 t.2.1.2.2.1)) (db (ay t.1.1 t.1.2.1.2 t.1.2.2.1 t.2.1.1 t.2.1.2.1.2 t.2.1.2.2.1))),[qE (ay t.1.1 t.1.2.1.2 t.1.2.2.1 t.2.1.1 t.2.1.2.1.2 t.2.1.2.2.1)]⟩]
theorem acS:aV prog aa6:=aP fun t=>(aQ (fun h=>ajc t.1.1 t.1.2.1.1 t.1.2.1.2 t.1.2.2.1 t.2.1.1 t.2.1.2.1.1 t.2.1.2.1.2 t.2.1.2.2.1 (ajd h)) ba)
def aa7:List aL:=aa6 :: aa5
theorem Ou:bf prog (bi aa7):=aw acS vc
inductive qF where
  | r0 (a:Int)
def aje:qF→AE×aM
  | .r0 a=>(.ret,⟨an 11 [(2,.int .i64 a)],[],0⟩)
def LQ:qF→jv
  | .r0 a=>⟨.int .i64 a,[]⟩
def agx:List Code:=bS (bB o5)
def Jm(a:Bool)(b:List Int) :T ((Empty)⊕(qF)) :=
  .ask ((((List.length b):Nat):Int) == (0:Int))
    (.leaf (.inr (.r0 (0:Int))))
    (.ask a
      (.leaf (.inr (.r0 (-1:Int))))
      (.leaf (.inr (.r0 (1:Int)))))
def ic(a:Bool)(b:List Int) :Option qF:=me ((Jm a b).run)
theorem agy(c:Bool)(d:Lv)(b:List Int)(e:Int){x:qF}(h:ic c b=some x) :ax prog o5 [] [.agg [.bool false c,.imm d (.ns .u64 b) 1 1 0 (List.length b),.int .i64 e]] (LQ x) :=
  Sg.contract true LQ (by kernel_rfl:prog.funcs[o5]? = some (FN o5)) (by kernel_rfl:(FN o5).body=some (bB o5)) (Sg.seg (C:=C0) ap Ou 60 agx (aT (FN o5) [] [.agg [.bool false c,.imm d (.ns .u64 b) 1 1 0 (List.length b),.int .i64 e]]) (Jm c b) (fun a:Empty=>a.elim) aje [⟨[],[],[2]⟩,⟨[],[],[2]⟩,⟨[],[],[2]⟩] (by kernel_rfl))
    (fun x=>by cases x with | r0 f=>exact ⟨.inr rfl,[.int .i64 f],[],by kernel_rfl,trivial,by kernel_rfl⟩) h
def ld:Option qF→Bool
  | some _=>true
  | none=>false
def gk:Option qF→Int
  | some (.r0 x)=>x
  | _=>0
theorem agz{x:Option qF}(h:ld x=true) :x=some (.r0 (gk x)):=by
  unfold ld at h
  split at h <;> first | rfl | (cases h;done) | (rename_i y;cases y;rfl)
def Xi:aL:=cn o5 (.cons (.agg (.cons .bool (.cons (.ns .u64) (.cons (.int .i64) .nil)))) .nil) fun t=>[⟨LQ (.r0 (gk (ic t.1.1 t.1.2.1.2))),[ld (ic t.1.1 t.1.2.1.2)]⟩]
theorem aa8:aV prog Xi:=aP fun t=>(aQ (fun h=>agy t.1.1 t.1.2.1.1 t.1.2.1.2 t.1.2.2.1 (agz h)) ba)
def Xj:List aL:=Xi :: aa7
theorem qg:bf prog (bi Xj):=aw aa8 Ou
inductive kF where
  | r0 (a:Int) (b:Nat)
def zY:kF→AE×aM
  | .r0 a b=>(.ret,⟨an 52 [(4,.int .i64 a),(5,.int .i64 ((b:Nat):Int))],[],0⟩)
theorem Gf:l9 zY:=by intro x;cases x <;> (intro h;cases h)
def Ri:kF→jv
  | .r0 a b=>⟨.tup [.int .i64 a,.int .i64 ((b:Nat):Int)],[]⟩
def BX:List Code:=bS (bB qP)
def Xk(a:Lv)(b:Lv) :Nat×Bool×(List Int)×Nat×Nat×Int×Bool×(List Int)×Nat×Nat×Int→aM:=fun (c,d,e,f,g,h,i,j,k,l,m)=>⟨an 52 [(2,.ptr 0 1 0 0),(3,.ptr 1 1 0 0),(6,.int .i64 ((c:Nat):Int))],[(0,.vs [.bool false d,.imm a (.ns .u64 e) 1 1 f g,.int .i64 h]),(1,.vs [.bool false i,.imm b (.ns .u64 j) 1 1 k l,.int .i64 m])],2⟩
def LR(d : Bool)(a : List Int)(c : Int)(f : Bool)(b : List Int)(e : Int) : T ((Nat × Bool × (List Int) × Nat × Nat × Int × Bool × (List Int) × Nat × Nat × Int) ⊕ (kF)) :=
  .ask (decide ((0:Int) < (2:Int)))
    (.need (iC (0:Int) 2)<|.need (aR 0 (List.length a) a)<|.need (lz (eI (aa 0 (List.length a) a) c))<|.ask (!(jx (eI (aa 0 (List.length a) a) c)))
      (.leaf (.inl (2,d,a,0,(List.length a),c,f,b,0,(List.length b),e)))
      (.need (aR 0 (List.length a) a)<|.need (gO (aE d (aa 0 (List.length a) a) c))<|.need (ej .i64 (1:Int))<|.ask (decide ((1:Int) < (2:Int)))
        (.need (iC (1:Int) 2)<|.need (aR 0 (List.length b) b)<|.need (lz (eI (aa 0 (List.length b) b) e))<|.ask (!(jx (eI (aa 0 (List.length b) b) e)))
          (.leaf (.inl (2,(dT (aE d (aa 0 (List.length a) a) c)),(dU (aE d (aa 0 (List.length a) a) c)),(dV (aE d (aa 0 (List.length a) a) c)),(dW (aE d (aa 0 (List.length a) a) c)),(dX (aE d (aa 0 (List.length a) a) c)),f,b,0,(List.length b),e)))
          (.need (aR 0 (List.length b) b)<|.need (gO (aE f (aa 0 (List.length b) b) e))<|.need (ej .i64 (2:Int))<|.ask (decide ((2:Int) < (2:Int)))
            (.fail)
            (.leaf (.inl (0,(dT (aE d (aa 0 (List.length a) a) c)),(dU (aE d (aa 0 (List.length a) a) c)),(dV (aE d (aa 0 (List.length a) a) c)),(dW (aE d (aa 0 (List.length a) a) c)),(dX (aE d (aa 0 (List.length a) a) c)),(dT (aE f (aa 0 (List.length b) b) e)),(dU (aE f (aa 0 (List.length b) b) e)),(dV (aE f (aa 0 (List.length b) b) e)),(dW (aE f (aa 0 (List.length b) b) e)),(dX (aE f (aa 0 (List.length b) b) e)))))))
        (.fail)))
    (.fail)
def Xl(a:Lv)(b:Lv)(c:Bool)(d:List Int)(e:Nat)(f:Nat)(g:Int)(h:Bool)(i:List Int)(j:Nat)(k:Nat)(l:Int) :Nat×Int×(List Int)×Nat×(List Int)×Nat→aM:=fun (m,n,o,p,q,r)=>⟨an 52 [(2,.ptr 0 1 0 0),(3,.ptr 1 1 0 0),(7,.ptr 2 1 0 0),(8,.int .i64 ((m:Nat):Int))],[(0,.vs [.bool false c,.imm a (.ns .u64 d) 1 1 e f,.int .i64 g]),(1,.vs [.bool false h,.imm b (.ns .u64 i) 1 1 j k,.int .i64 l]),(2,.vs [.int .i64 n,.imm .free (.ns .u64 o) 1 1 0 p,.imm .free (.ns .u64 q) 1 1 0 r])],3⟩
def Gg(i:Nat)(a:List Int)(b:Nat)(c:Nat)(g:Int)(d:List Int)(e:Nat)(f:Nat)(h:Int) :T ((Nat×Int×(List Int)×Nat×(List Int)×Nat)⊕(kF)) :=
  .ask (((i:Nat):Int) != (0:Int))
    (.leaf (.inr (.r0 (0:Int) i)))
    (.need (aR b c a)<|.need (aR e f d)<|.need (u5 (cX (aa b c a) g (aa e f d) h))<|.leaf (.inl ((vY (cX (aa b c a) g (aa e f d) h)),(vZ (cX (aa b c a) g (aa e f d) h)),(v4 (cX (aa b c a) g (aa e f d) h)),(v5 (cX (aa b c a) g (aa e f d) h)),(v6 (cX (aa b c a) g (aa e f d) h)),(v7 (cX (aa b c a) g (aa e f d) h)))))
def Xm(a:Lv)(b:Lv)(c:Bool)(d:List Int)(e:Nat)(f:Nat)(g:Int)(h:Bool)(i:List Int)(j:Nat)(k:Nat)(l:Int)(m:Int) :aM:=⟨an 52 [(2,.ptr 0 1 0 0),(3,.ptr 1 1 0 0),(9,.int .i64 m)],[(0,.vs [.bool false c,.imm a (.ns .u64 d) 1 1 e f,.int .i64 g]),(1,.vs [.bool false h,.imm b (.ns .u64 i) 1 1 j k,.int .i64 l])],2⟩
def Gh(e:Nat)(a:List Int)(b:Nat)(c:List Int)(d:Nat) :T ((Int)⊕(kF)) :=
  .ask (((e:Nat):Int) != (0:Int))
    (.leaf (.inr (.r0 (0:Int) e)))
    (.need (aR 0 b a)<|.need (aR 0 d c)<|.need (D9 (ue (aa 0 b a) (aa 0 d c)))<|.leaf (.inl (CX (ue (aa 0 b a) (aa 0 d c)))))
def Xn(a:Int)(_:Unit) :aM:=⟨an 52 [(9,.int .i64 a)],[],0⟩
def tl(g:Bool)(a:List Int)(b:Nat)(c:Nat)(h:Bool)(d:List Int)(e:Nat)(f:Nat)(i:Int) :T ((Unit)⊕(kF)) :=
  .need (aR b c a)<|.need (ld (ic g (aa b c a)))<|.need (aR e f d)<|.need (ld (ic h (aa e f d)))<|.ask ((gk (ic g (aa b c a))) != (gk (ic h (aa e f d))))
    (.need (aR b c a)<|.need (ld (ic g (aa b c a)))<|.need (aR e f d)<|.need (ld (ic h (aa e f d)))<|.need (ej .i64 ((gk (ic g (aa b c a))) - (gk (ic h (aa e f d)))))<|.leaf (.inr (.r0 (rH (-1:Int) (B0 (1:Int) ((gk (ic g (aa b c a))) - (gk (ic h (aa e f d)))))) 0)))
    (.ask g
      (.need (ej .i64 ((0:Int) - i))<|.leaf (.inr (.r0 ((0:Int) - i) 0)))
      (.leaf (.inl ())))
def SU(a:Int) :T ((Empty)⊕(kF)) :=
  .leaf (.inr (.r0 a 0))
def q8(h:Bool)(i:List Int)(j:Int)(k:Bool)(l:List Int)(m:Int) :Option kF:=me (aH ((LR h i j k l m).run) fun (n,o,a,b,c,p,q,d,e,f,r) =>
  aH ((Gg n a b c p d e f r).run) fun (s,x,t,u,v,w) =>
  aH ((Gh s t u v w).run) fun g =>
  aH ((tl o a b c q d e f g).run) fun _ =>
  (SU g).run)
theorem ajf(r:Bool)(b:Lv)(k:List Int)(s:Int)(t:Bool)(c:Lv)(l:List Int)(u:Int){x:kF}(h:q8 r k s t l u=some x) :ax prog qP [] [.agg [.bool false r,.imm b (.ns .u64 k) 1 1 0 (List.length k),.int .i64 s],.agg [.bool false t,.imm c (.ns .u64 l) 1 1 0 (List.length l),.int .i64 u]] (Ri x) :=
  Sg.contract true Ri (by kernel_rfl:prog.funcs[qP]? = some (FN qP)) (by kernel_rfl:(FN qP).body=some (bB qP)) (Sg.cut 2 Gf (Sg.seg (C:=C0) ap qg 60 (BX.take 2) (aT (FN qP) [] [.agg [.bool false r,.imm b (.ns .u64 k) 1 1 0 (List.length k),.int .i64 s],.agg [.bool false t,.imm c (.ns .u64 l) 1 1 0 (List.length l),.int .i64 u]]) (LR r k s t l u) (Xk b c) zY [⟨[],[0,16],[2,3,6]⟩,⟨[(.cell 0 1,.lev b)],[0,16],[2,3,6]⟩,⟨[(.cell 0 1,.lev b),(.cell 16 1,.lev c)],[0,16],[2,3,6]⟩] (by kernel_rfl)) (fun a=>by obtain ⟨v,m,d,e,f,n,o,g,i,j,p⟩:=a;exact Sg.cut 3 Gf (Sg.seg (C:=C0) ap qg 60 ((BX.drop 2).take 3) (Xk b c (v,m,d,e,f,n,o,g,i,j,p)) (Gg v d e f n g i j p) (Xl b c m d e f n o g i j p) zY [⟨[],[],[4,5]⟩,⟨[],[0,1,130],[2,3,7,8]⟩] (by kernel_rfl)) (fun a=>by obtain ⟨w,D,y,z,A,B⟩:=a;exact Sg.cut 3 Gf (Sg.seg (C:=C0) ap qg 60 (((BX.drop 2).drop 3).take 3) (Xl b c m d e f n o g i j p (w,D,y,z,A,B)) (Gh w y z A B) (Xm b c m d e f n o g i j p) zY [⟨[],[],[4,5]⟩,⟨[],[0,1],[2,3,9]⟩] (by kernel_rfl)) (fun q=>by exact Sg.cut 1 Gf (Sg.seg (C:=C0) ap qg 60 ((((BX.drop 2).drop 3).drop 3).take 1) (Xm b c m d e f n o g i j p q) (tl m d e f o g i j q) (Xn q) zY [⟨[],[],[4,5]⟩,⟨[],[],[4,5]⟩,⟨[],[],[9]⟩] (by kernel_rfl)) (fun a=>by cases a;exact Sg.seg (C:=C0) ap qg 60 ((((BX.drop 2).drop 3).drop 3).drop 1) (Xn q ()) (SU q) (fun a:Empty=>a.elim) zY [⟨[],[],[4,5]⟩] (by kernel_rfl))))))
    (fun x=>by cases x with | r0 E F=>exact ⟨.inr rfl,[.int .i64 E,.int .i64 ((F:Nat):Int)],[],by kernel_rfl,trivial,by kernel_rfl⟩) h
def Gi:Option kF→Bool
  | some _=>true
  | none=>false
def GU:Option kF→Int
  | some (.r0 x _)=>x
  | _=>0
def GV:Option kF→Nat
  | some (.r0 _ x)=>x
  | _=>0
theorem ajg{x:Option kF}(h:Gi x=true) :x=some (.r0 (GU x) (GV x)):=by
  unfold Gi at h
  split at h <;> first | rfl | (cases h;done) | (rename_i y;cases y;rfl)
def aa9:aL:=cn qP (.cons (.agg (.cons .bool (.cons (.ns .u64) (.cons (.int .i64) .nil)))) (.cons (.agg (.cons .bool (.cons (.ns .u64) (.cons (.int .i64) .nil)))) .nil)) fun t=>[⟨Ri (.r0 (GU (q8 t.1.1 t.1.2.1.2 t.1.2.2.1 t.2.1.1 t.2.1.2.1.2 t.2.1.2.2.1)) (GV (q8 t.1.1 t.1.2.1.2 t.1.2.2.1 t.2.1.1 t.2.1.2.1.2 t.2.1.2.2.1))),[Gi (q8 t.1.1 t.1.2.1.2 t.1.2.2.1 t.2.1.1 t.2.1.2.1.2 t.2.1.2.2.1)]⟩]
theorem acT:aV prog aa9:=aP fun t=>(aQ (fun h=>ajf t.1.1 t.1.2.1.1 t.1.2.1.2 t.1.2.2.1 t.2.1.1 t.2.1.2.1.1 t.2.1.2.1.2 t.2.1.2.2.1 (ajg h)) ba)
def aba:List aL:=aa9 :: Xj
theorem vd:bf prog (bi aba):=aw acT qg
end
end Go.Plb.Seat
namespace Go.Plb.Seat
open Go Go.Plb
set_option linter.unusedVariables false
set_option maxRecDepth 100000
noncomputable section
inductive eY where
  | r0 (a:Nat) (b:Bool) (c:List Int) (d:Nat) (e:Nat) (f:Int)
def x9:eY→AE×aM
  | .r0 a b c d e f=>(.ret,⟨an 30 [(4,.ptr 0 1 0 0),(5,.int .i64 ((a:Nat):Int))],[(0,.vs [.bool false b,.imm .free (.ns .u64 c) 1 1 d e,.int .i64 f])],1⟩)
theorem GW:l9 x9:=by intro x;cases x <;> (intro h;cases h)
def Jn:eY→jv
  | .r0 a b c d e f=>⟨.tup [.agg [.bool false b,.imm .free (.ns .u64 c) 1 1 d e,.int .i64 f],.int .i64 ((a:Nat):Int)],[]⟩
def AB:List Code:=bS (bB mq)
def Ov(a:Lv)(b:Int) :Nat×Bool×(List Int)×Nat×Nat×Int×Bool→aM:=fun (c,d,e,f,g,h,i)=>⟨an 30 [(1,.int .i64 b),(2,.ptr 0 1 0 0),(4,.ptr 1 1 0 0),(6,.int .i64 ((c:Nat):Int))],[(0,.vs [.bool false d,.imm a (.ns .u64 e) 1 1 f g,.int .i64 h]),(1,.vs [.bool false i,.nsl,.int .i64 (0:Int)])],2⟩
def AC(c:Bool)(a:List Int)(b:Int) :T ((Nat×Bool×(List Int)×Nat×Nat×Int×Bool)⊕(eY)) :=
  .ask (decide ((0:Int) < (1:Int)))
    (.need (iC (0:Int) 1)<|.need (aR 0 (List.length a) a)<|.need (lz (eI (aa 0 (List.length a) a) b))<|.ask (!(jx (eI (aa 0 (List.length a) a) b)))
      (.leaf (.inl (2,c,a,0,(List.length a),b,false)))
      (.need (aR 0 (List.length a) a)<|.need (gO (aE c (aa 0 (List.length a) a) b))<|.need (ej .i64 (1:Int))<|.ask (decide ((1:Int) < (1:Int)))
        (.fail)
        (.leaf (.inl (0,(dT (aE c (aa 0 (List.length a) a) b)),(dU (aE c (aa 0 (List.length a) a) b)),(dV (aE c (aa 0 (List.length a) a) b)),(dW (aE c (aa 0 (List.length a) a) b)),(dX (aE c (aa 0 (List.length a) a) b)),false)))))
    (.fail)
def Ow(a:Lv)(b:Int)(c:Nat)(d:Bool)(e:List Int)(f:Nat)(g:Nat)(h:Int)(i:Bool)(j:Bool) :aM:=⟨an 30 [(1,.int .i64 b),(2,.ptr 0 1 0 0),(4,.ptr 1 1 0 0),(6,.int .i64 ((c:Nat):Int)),(16,.bool false j)],[(0,.vs [.bool false d,.imm a (.ns .u64 e) 1 1 f g,.int .i64 h]),(1,.vs [.bool false i,.nsl,.int .i64 (0:Int)])],2⟩
def Ox(a:Nat)(b:Nat) :T ((Bool)⊕(eY)) :=
  .ask (((a:Nat):Int) != (0:Int))
    (.leaf (.inl true))
    (.leaf (.inl (((b:Nat):Int) == (0:Int))))
def Oy:Nat×Bool×(List Int)×Nat×Nat×Int→aM:=fun (a,b,c,d,e,f)=>⟨an 30 [(4,.ptr 0 1 0 0),(5,.int .i64 ((a:Nat):Int))],[(0,.vs [.bool false b,.imm .free (.ns .u64 c) 1 1 d e,.int .i64 f])],1⟩
def AD(a:Int)(g:Nat)(f:Bool)(b:List Int)(c:Nat)(d:Nat)(e:Int)(h:Bool) :T ((Nat×Bool×(List Int)×Nat×Nat×Int)⊕(eY)) :=
  .ask h
    (.leaf (.inr (.r0 g false ([]:List Int) 0 0 (0:Int))))
    (.need (ej .i64 (e+(rH (-1048576:Int) (B0 (1048576:Int) a))))<|.need (aR c d b)<|.need (um (cr f (aa c d b) (e+(rH (-1048576:Int) (B0 (1048576:Int) a)))))<|.leaf (.inl ((te (cr f (aa c d b) (e+(rH (-1048576:Int) (B0 (1048576:Int) a))))),(tf (cr f (aa c d b) (e+(rH (-1048576:Int) (B0 (1048576:Int) a))))),(tg (cr f (aa c d b) (e+(rH (-1048576:Int) (B0 (1048576:Int) a))))),(th (cr f (aa c d b) (e+(rH (-1048576:Int) (B0 (1048576:Int) a))))),(ti (cr f (aa c d b) (e+(rH (-1048576:Int) (B0 (1048576:Int) a))))),(tj (cr f (aa c d b) (e+(rH (-1048576:Int) (B0 (1048576:Int) a))))))))
def Oz(a:Nat)(b:Bool)(c:List Int)(d:Nat)(e:Nat)(f:Int) :T ((Empty)⊕(eY)) :=
  .leaf (.inr (.r0 a b c d e f))
def eZ(c:Bool)(d:List Int)(e:Int)(f:Int) :Option eY:=me (aH ((AC c d e).run) fun (a,g,h,i,b,j,r) =>
  aH ((Ox a b).run) fun k =>
  aH ((AD f a g h i b j k).run) fun (l,m,n,o,p,q) =>
  (Oz l m n o p q).run)
theorem acU(g:Bool)(c:Lv)(d:List Int)(i:Int)(b:Int){x:eY}(h:eZ g d i b=some x) :ax prog mq [] [.agg [.bool false g,.imm c (.ns .u64 d) 1 1 0 (List.length d),.int .i64 i],.int .i64 b] (Jn x) :=
  Sg.contract true Jn (by kernel_rfl:prog.funcs[mq]? = some (FN mq)) (by kernel_rfl:(FN mq).body=some (bB mq)) (Sg.cut 2 GW (Sg.seg (C:=C0) ap vd 60 (AB.take 2) (aT (FN mq) [] [.agg [.bool false g,.imm c (.ns .u64 d) 1 1 0 (List.length d),.int .i64 i],.int .i64 b]) (AC g d i) (Ov c b) x9 [⟨[],[0,16],[1,2,4,6]⟩,⟨[(.cell 0 1,.lev c)],[0,16],[1,2,4,6]⟩] (by kernel_rfl)) (fun a=>by obtain ⟨e,j,k,l,f,m,n⟩:=a;exact Sg.cut 1 GW (Sg.seg (C:=C0) ap vd 60 ((AB.drop 2).take 1) (Ov c b (e,j,k,l,f,m,n)) (Ox e f) (Ow c b e j k l f m n) x9 [⟨[],[0,1],[1,2,4,6,16]⟩,⟨[],[0,1],[1,2,4,6,16]⟩] (by kernel_rfl)) (fun o=>by exact Sg.cut 3 GW (Sg.seg (C:=C0) ap vd 60 (((AB.drop 2).drop 1).take 3) (Ow c b e j k l f m n o) (AD b e j k l f m o) Oy x9 [⟨[(.cell 1 1,.fre 1 1 (.ns .u64 ([]:List Int)))],[1],[4,5]⟩,⟨[],[1],[4,5]⟩] (by kernel_rfl)) (fun a=>by obtain ⟨p,q,r,s,t,u⟩:=a;exact Sg.seg (C:=C0) ap vd 60 (((AB.drop 2).drop 1).drop 3) (Oy (p,q,r,s,t,u)) (Oz p q r s t u) (fun a:Empty=>a.elim) x9 [⟨[],[0],[4,5]⟩] (by kernel_rfl)))))
    (fun x=>by cases x with | r0 v w y z A B=>exact ⟨.inr rfl,[.agg [.bool false w,.imm .free (.ns .u64 y) 1 1 z A,.int .i64 B],.int .i64 ((v:Nat):Int)],[],by kernel_rfl,trivial,by kernel_rfl⟩) h
def AF:Option eY→Bool
  | some _=>true
  | none=>false
def Cb:Option eY→Nat
  | some (.r0 x _ _ _ _ _)=>x
  | _=>0
def Cc:Option eY→Bool
  | some (.r0 _ x _ _ _ _)=>x
  | _=>false
def Cd:Option eY→List Int
  | some (.r0 _ _ x _ _ _)=>x
  | _=>[]
def Ce:Option eY→Nat
  | some (.r0 _ _ _ x _ _)=>x
  | _=>0
def Cf:Option eY→Nat
  | some (.r0 _ _ _ _ x _)=>x
  | _=>0
def Cg:Option eY→Int
  | some (.r0 _ _ _ _ _ x)=>x
  | _=>0
theorem acV{x:Option eY}(h:AF x=true) :x=some (.r0 (Cb x) (Cc x) (Cd x) (Ce x) (Cf x) (Cg x)):=by
  unfold AF at h
  split at h <;> first | rfl | (cases h;done) | (rename_i y;cases y;rfl)
def SV:aL:=cn mq (.cons (.agg (.cons .bool (.cons (.ns .u64) (.cons (.int .i64) .nil)))) (.cons (.int .i64) .nil)) fun t=>[⟨Jn (.r0 (Cb (eZ t.1.1 t.1.2.1.2 t.1.2.2.1 t.2.1)) (Cc (eZ t.1.1 t.1.2.1.2 t.1.2.2.1 t.2.1)) (Cd (eZ t.1.1 t.1.2.1.2 t.1.2.2.1 t.2.1)) (Ce (eZ t.1.1 t.1.2.1.2 t.1.2.2.1 t.2.1)) (Cf (eZ t.1.1 t.1.2.1.2 t.1.2.2.1 t.2.1)) (Cg (eZ t.1.1 t.1.2.1.2 t.1.2.2.1 t.2.1))),[AF (eZ t.1.1 t.1.2.1.2 t.1.2.2.1 t.2.1)]⟩]
theorem Yw:aV prog SV:=aP fun t=>(aQ (fun h=>acU t.1.1 t.1.2.1.1 t.1.2.1.2 t.1.2.2.1 t.2.1 (acV h)) ba)
def SW:List aL:=SV :: aba
theorem v9:bf prog (bi SW):=aw Yw vd
inductive fO where
  | r0 (a:Bool) (b:List Int) (c:Nat) (d:Nat) (e:Int)
def Dd:fO→AE×aM
  | .r0 a b c d e=>(.ret,⟨an 16 [(2,.ptr 0 1 0 0)],[(0,.vs [.bool false a,.imm .free (.ns .u64 b) 1 1 c d,.int .i64 e])],1⟩)
theorem OA:l9 Dd:=by intro x;cases x <;> (intro h;cases h)
def Jo:fO→jv
  | .r0 a b c d e=>⟨.agg [.bool false a,.imm .free (.ns .u64 b) 1 1 c d,.int .i64 e],[]⟩
def GX:List Code:=bS (bB ml)
def OB(a:Int) :Int×Bool→aM:=fun (b,c)=>⟨an 16 [(0,.int .i64 a),(2,.ptr 0 1 0 0),(3,.int .u64 b)],[(0,.vs [.bool false c,.nsl,.int .i64 (0:Int)])],1⟩
def GY(a:Int) :T ((Int×Bool)⊕(fO)) :=
  .ask (decide (a < (0:Int)))
    (.leaf (.inl ((IntKind.u64.wrap ((0:Int) - (IntKind.u64.wrap a))),false)))
    (.leaf (.inl ((IntKind.u64.wrap a),false)))
def OC:Bool×(List Int)×Nat×Nat×Int→aM:=fun (a,b,c,d,e)=>⟨an 16 [(2,.ptr 0 1 0 0)],[(0,.vs [.bool false a,.imm .free (.ns .u64 b) 1 1 c d,.int .i64 e])],1⟩
def AG(b:Int)(a:Int) :T ((Bool×(List Int)×Nat×Nat×Int)⊕(fO)) :=
  .need (zI (cd a))<|.need (aR (eT (cd a)) (eU (cd a)) (eV (cd a)))<|.need (gO (aE (decide (b < (0:Int))) (aa (eT (cd a)) (eU (cd a)) (eV (cd a))) (0:Int)))<|.leaf (.inl ((dT (aE (decide (b < (0:Int))) (aa (eT (cd a)) (eU (cd a)) (eV (cd a))) (0:Int))),(dU (aE (decide (b < (0:Int))) (aa (eT (cd a)) (eU (cd a)) (eV (cd a))) (0:Int))),(dV (aE (decide (b < (0:Int))) (aa (eT (cd a)) (eU (cd a)) (eV (cd a))) (0:Int))),(dW (aE (decide (b < (0:Int))) (aa (eT (cd a)) (eU (cd a)) (eV (cd a))) (0:Int))),(dX (aE (decide (b < (0:Int))) (aa (eT (cd a)) (eU (cd a)) (eV (cd a))) (0:Int)))))
def OD(a:Bool)(b:List Int)(c:Nat)(d:Nat)(e:Int) :T ((Empty)⊕(fO)) :=
  .leaf (.inr (.r0 a b c d e))
def bk(a:Int) :Option fO:=me (aH ((GY a).run) fun (b,h) =>
  aH ((AG a b).run) fun (c,d,e,f,g) =>
  (OD c d e f g).run)
theorem acW(b:Int){x:fO}(h:bk b=some x) :ax prog ml [] [.int .i64 b] (Jo x) :=
  Sg.contract true Jo (by kernel_rfl:prog.funcs[ml]? = some (FN ml)) (by kernel_rfl:(FN ml).body=some (bB ml)) (Sg.cut 4 OA (Sg.seg (C:=C0) ap v9 60 (GX.take 4) (aT (FN ml) [] [.int .i64 b]) (GY b) (OB b) Dd [⟨[],[0],[0,2,3]⟩,⟨[],[0],[0,2,3]⟩] (by kernel_rfl)) (fun a=>by obtain ⟨c,j⟩:=a;exact Sg.cut 1 OA (Sg.seg (C:=C0) ap v9 60 ((GX.drop 4).take 1) (OB b (c,j)) (AG b c) OC Dd [⟨[],[0],[2]⟩] (by kernel_rfl)) (fun a=>by obtain ⟨d,e,f,g,i⟩:=a;exact Sg.seg (C:=C0) ap v9 60 ((GX.drop 4).drop 1) (OC (d,e,f,g,i)) (OD d e f g i) (fun a:Empty=>a.elim) Dd [⟨[],[0],[2]⟩] (by kernel_rfl))))
    (fun x=>by cases x with | r0 k l m n o=>exact ⟨.inr rfl,[.agg [.bool false k,.imm .free (.ns .u64 l) 1 1 m n,.int .i64 o]],[],by kernel_rfl,trivial,by kernel_rfl⟩) h
def pL:Option fO→Bool
  | some _=>true
  | none=>false
def j8:Option fO→Bool
  | some (.r0 x _ _ _ _)=>x
  | _=>false
def iK:Option fO→List Int
  | some (.r0 _ x _ _ _)=>x
  | _=>[]
def iL:Option fO→Nat
  | some (.r0 _ _ x _ _)=>x
  | _=>0
def iM:Option fO→Nat
  | some (.r0 _ _ _ x _)=>x
  | _=>0
def j9:Option fO→Int
  | some (.r0 _ _ _ _ x)=>x
  | _=>0
theorem acX{x:Option fO}(h:pL x=true) :x=some (.r0 (j8 x) (iK x) (iL x) (iM x) (j9 x)):=by
  unfold pL at h
  split at h <;> first | rfl | (cases h;done) | (rename_i y;cases y;rfl)
def SX:aL:=cn ml (.cons (.int .i64) .nil) fun t=>[⟨Jo (.r0 (j8 (bk t.1)) (iK (bk t.1)) (iL (bk t.1)) (iM (bk t.1)) (j9 (bk t.1))),[pL (bk t.1)]⟩]
theorem Yx:aV prog SX:=aP fun t=>(aQ (fun h=>acW t.1 (acX h)) ba)
def SY:List aL:=SX :: SW
theorem Ch:bf prog (bi SY):=aw Yx v9
inductive mH where
  | r0 (a:Nat)
def Jp:mH→AE×aM
  | .r0 a=>(.ret,⟨an 26 [(2,.int .i64 ((a:Nat):Int))],[],0⟩)
theorem acY:l9 Jp:=by intro x;cases x <;> (intro h;cases h)
def Jq:mH→jv
  | .r0 a=>⟨.int .i64 ((a:Nat):Int),[]⟩
def OE:List Code:=bS (bB o8)
def OF(_:Unit) :aM:=⟨an 26 [],[],0⟩
def ve(a : Int) : T ((Unit) ⊕ (mH)) :=
  .need (decide ((0:Int)≤(52:Int)))<|.ask ((fv .and .u64 (Int.fdiv a (2 ^ (min (Int.toNat (52:Int)) (IntKind.u64.bits)))) (2047:Int)) == (2047:Int))
    (.ask ((fv .and .u64 a (4503599627370495:Int)) != (0:Int))
      (.leaf (.inr (.r0 5)))
      (.ask ((fv .and .u64 (Int.fdiv a (2 ^ (min (Int.toNat (52:Int)) (IntKind.u64.bits)))) (2047:Int)) == (2047:Int))
        (.leaf (.inr (.r0 4)))
        (.ask ((fv .and .u64 (Int.fdiv a (2 ^ (min (Int.toNat (52:Int)) (IntKind.u64.bits)))) (2047:Int)) != (0:Int))
          (.leaf (.inr (.r0 3)))
          (.ask ((fv .and .u64 a (4503599627370495:Int)) != (0:Int))
            (.leaf (.inr (.r0 2)))
            (.leaf (.inl ()))))))
    (.ask ((fv .and .u64 (Int.fdiv a (2 ^ (min (Int.toNat (52:Int)) (IntKind.u64.bits)))) (2047:Int)) == (2047:Int))
      (.leaf (.inr (.r0 4)))
      (.ask ((fv .and .u64 (Int.fdiv a (2 ^ (min (Int.toNat (52:Int)) (IntKind.u64.bits)))) (2047:Int)) != (0:Int))
        (.leaf (.inr (.r0 3)))
        (.ask ((fv .and .u64 a (4503599627370495:Int)) != (0:Int))
          (.leaf (.inr (.r0 2)))
          (.leaf (.inl ())))))
def OG:T ((Empty)⊕(mH)) :=
  .leaf (.inr (.r0 1))
def uo(a:Int) :Option mH:=me (aH ((ve a).run) fun _ =>
  (OG).run)
theorem acZ(b:Int){x:mH}(h:uo b=some x) :ax prog o8 [] [.int .u64 b] (Jq x) :=
  Sg.contract false Jq (by kernel_rfl:prog.funcs[o8]? = some (FN o8)) (by kernel_rfl:(FN o8).body=some (bB o8)) (Sg.cut 3 acY (Sg.seg (C:=C0) ap Ch 60 (OE.take 3) (aT (FN o8) [] [.int .u64 b]) (ve b) OF Jp [⟨[],[],[2]⟩,⟨[],[],[2]⟩,⟨[],[],[2]⟩,⟨[],[],[2]⟩,⟨[],[],[]⟩,⟨[],[],[2]⟩,⟨[],[],[2]⟩,⟨[],[],[2]⟩,⟨[],[],[]⟩] (by kernel_rfl)) (fun a=>by cases a;exact Sg.seg (C:=C0) ap Ch 60 (OE.drop 3) (OF ()) (OG) (fun a:Empty=>a.elim) Jp [⟨[],[],[2]⟩] (by kernel_rfl)))
    (fun x=>by cases x with | r0 c=>exact ⟨.inr rfl,[.int .i64 ((c:Nat):Int)],[],by kernel_rfl,trivial,by kernel_rfl⟩) h
def AH:Option mH→Bool
  | some _=>true
  | none=>false
def Ci:Option mH→Nat
  | some (.r0 x)=>x
  | _=>0
theorem ac0{x:Option mH}(h:AH x=true) :x=some (.r0 (Ci x)):=by
  unfold AH at h
  split at h <;> first | rfl | (cases h;done) | (rename_i y;cases y;rfl)
def SZ:aL:=cn o8 (.cons (.int .u64) .nil) fun t=>[⟨Jq (.r0 (Ci (uo t.1))),[AH (uo t.1)]⟩]
theorem Yy:aV prog SZ:=aP fun t=>(aQ (fun h=>acZ t.1 (ac0 h)) ba)
def S0:List aL:=SZ :: SY
theorem Cj:bf prog (bi S0):=aw Yy Ch
inductive iN where
  | r0 (a:Nat) (b:Bool) (c:Int) (d:Int)
def Jr:iN→AE×aM
  | .r0 a b c d=>(.ret,⟨an 36 [(2,.ptr 0 1 0 0),(3,.int .i64 ((a:Nat):Int))],[(0,.vs [.bool false b,.int .u64 c,.int .i64 d])],1⟩)
theorem ac1:l9 Jr:=by intro x;cases x <;> (intro h;cases h)
def Js:iN→jv
  | .r0 a b c d=>⟨.tup [.agg [.bool false b,.int .u64 c,.int .i64 d],.int .i64 ((a:Nat):Int)],[]⟩
def OH:List Code:=bS (bB oU)
def OI(a:Int) :Nat×Bool×Bool×Int→aM:=fun (b,c,d,e)=>⟨an 36 [(0,.int .u64 a),(2,.ptr 0 1 0 0),(4,.ptr 1 1 0 0),(12,.int .i64 ((b:Nat):Int))],[(0,.vs [.bool false c,.int .u64 (0:Int),.int .i64 (0:Int)]),(1,.vs [.bool false d,.int .u64 e,.int .i64 (-1074:Int)])],2⟩
def GZ(a:Int) :T ((Nat×Bool×Bool×Int)⊕(iN)) :=
  .need (decide ((0:Int)≤(63:Int)))<|.need (AH (uo a))<|.leaf (.inl ((Ci (uo a)),false,((Int.fdiv a (2 ^ (min (Int.toNat (63:Int)) (IntKind.u64.bits)))) == (1:Int)),(fv .and .u64 a (4503599627370495:Int))))
def AI(a:Int)(b:Nat)(c:Bool)(d:Int) :T ((Empty)⊕(iN)) :=
  .ask (((b:Nat):Int) == (3:Int))
    (.need (decide ((0:Int)≤(52:Int)))<|.need (ej .i64 ((IntKind.i64.wrap (fv .and .u64 (Int.fdiv a (2 ^ (min (Int.toNat (52:Int)) (IntKind.u64.bits)))) (2047:Int))) - (1:Int)))<|.need (ej .i64 ((-1074:Int)+((IntKind.i64.wrap (fv .and .u64 (Int.fdiv a (2 ^ (min (Int.toNat (52:Int)) (IntKind.u64.bits)))) (2047:Int))) - (1:Int))))<|.leaf (.inr (.r0 0 c (fv .or .u64 d (4503599627370496:Int)) ((-1074:Int)+((IntKind.i64.wrap (fv .and .u64 (Int.fdiv a (2 ^ (min (Int.toNat (52:Int)) (IntKind.u64.bits)))) (2047:Int))) - (1:Int))))))
    (.ask (((b:Nat):Int) == (2:Int))
      (.leaf (.inr (.r0 0 c d (-1074:Int))))
      (.ask (((b:Nat):Int) == (1:Int))
        (.leaf (.inr (.r0 0 c d (0:Int))))
        (.leaf (.inr (.r0 2 false (0:Int) (0:Int))))))
def er(a:Int) :Option iN:=me (aH ((GZ a).run) fun (b,e,c,d) =>
  (AI a b c d).run)
theorem ac2(b:Int){x:iN}(h:er b=some x) :ax prog oU [] [.int .u64 b] (Js x) :=
  Sg.contract false Js (by kernel_rfl:prog.funcs[oU]? = some (FN oU)) (by kernel_rfl:(FN oU).body=some (bB oU)) (Sg.cut 3 ac1 (Sg.seg (C:=C0) ap Cj 60 (OH.take 3) (aT (FN oU) [] [.int .u64 b]) (GZ b) (OI b) Jr [⟨[],[0,128],[0,2,4,12]⟩] (by kernel_rfl)) (fun a=>by obtain ⟨c,f,d,e⟩:=a;exact Sg.seg (C:=C0) ap Cj 60 (OH.drop 3) (OI b (c,f,d,e)) (AI b c d e) (fun a:Empty=>a.elim) Jr [⟨[],[0],[2,3]⟩,⟨[],[0],[2,3]⟩,⟨[],[0],[2,3]⟩,⟨[],[0],[2,3]⟩] (by kernel_rfl)))
    (fun x=>by cases x with | r0 g i j k=>exact ⟨.inr rfl,[.agg [.bool false i,.int .u64 j,.int .i64 k],.int .i64 ((g:Nat):Int)],[],by kernel_rfl,trivial,by kernel_rfl⟩) h
def vf:Option iN→Bool
  | some _=>true
  | none=>false
def wa:Option iN→Nat
  | some (.r0 x _ _ _)=>x
  | _=>0
def wb:Option iN→Bool
  | some (.r0 _ x _ _)=>x
  | _=>false
def wc:Option iN→Int
  | some (.r0 _ _ x _)=>x
  | _=>0
def wd:Option iN→Int
  | some (.r0 _ _ _ x)=>x
  | _=>0
theorem ac3{x:Option iN}(h:vf x=true) :x=some (.r0 (wa x) (wb x) (wc x) (wd x)):=by
  unfold vf at h
  split at h <;> first | rfl | (cases h;done) | (rename_i y;cases y;rfl)
def S2:aL:=cn oU (.cons (.int .u64) .nil) fun t=>[⟨Js (.r0 (wa (er t.1)) (wb (er t.1)) (wc (er t.1)) (wd (er t.1))),[vf (er t.1)]⟩]
theorem Yz:aV prog S2:=aP fun t=>(aQ (fun h=>ac2 t.1 (ac3 h)) ba)
def S3:List aL:=S2 :: S0
theorem we:bf prog (bi S3):=aw Yz Cj
inductive kG where
  | r0 (a:Nat) (b:Bool) (c:List Int) (d:Nat) (e:Nat) (f:Int)
def NJ:kG→AE×aM
  | .r0 a b c d e f=>(.ret,⟨an 25 [(2,.ptr 0 1 0 0),(3,.int .i64 ((a:Nat):Int))],[(0,.vs [.bool false b,.imm .free (.ns .u64 c) 1 1 d e,.int .i64 f])],1⟩)
theorem abb:l9 NJ:=by intro x;cases x <;> (intro h;cases h)
def VG:kG→jv
  | .r0 a b c d e f=>⟨.tup [.agg [.bool false b,.imm .free (.ns .u64 c) 1 1 d e,.int .i64 f],.int .i64 ((a:Nat):Int)],[]⟩
def Rj:List Code:=bS (bB tU)
def abc:Nat×Bool×Bool×Int×Int→aM:=fun (a,b,c,d,e)=>⟨an 25 [(2,.ptr 0 1 0 0),(4,.ptr 1 1 0 0),(5,.int .i64 ((a:Nat):Int))],[(0,.vs [.bool false b,.nsl,.int .i64 (0:Int)]),(1,.vs [.bool false c,.int .u64 d,.int .i64 e])],2⟩
def Rk(a:Nat) :T ((Nat×Bool×Bool×Int×Int)⊕(kG)) :=
  .ask (Ze a a)
    (.need (vf (er (9221120237041090560:Int)))<|.leaf (.inl ((wa (er (9221120237041090560:Int))),false,(wb (er (9221120237041090560:Int))),(wc (er (9221120237041090560:Int))),(wd (er (9221120237041090560:Int))))))
    (.alt 0
      (.need (!isNaN a)<|.need (vf (er ((a:Nat):Int)))<|.leaf (.inl ((wa (er ((a:Nat):Int))),false,(wb (er ((a:Nat):Int))),(wc (er ((a:Nat):Int))),(wd (er ((a:Nat):Int))))))
      (.fail))
def abd:Bool×(List Int)×Nat×Nat×Int→aM:=fun (a,b,c,d,e)=>⟨an 25 [(2,.ptr 0 1 0 0),(3,.int .i64 (0:Int))],[(0,.vs [.bool false a,.imm .free (.ns .u64 b) 1 1 c d,.int .i64 e])],1⟩
def Jt(d:Nat)(b:Bool)(a:Int)(c:Int) :T ((Bool×(List Int)×Nat×Nat×Int)⊕(kG)) :=
  .ask (((d:Nat):Int) != (0:Int))
    (.leaf (.inr (.r0 d false ([]:List Int) 0 0 (0:Int))))
    (.need (zI (cd a))<|.need (aR (eT (cd a)) (eU (cd a)) (eV (cd a)))<|.need (gO (aE b (aa (eT (cd a)) (eU (cd a)) (eV (cd a))) c))<|.leaf (.inl ((dT (aE b (aa (eT (cd a)) (eU (cd a)) (eV (cd a))) c)),(dU (aE b (aa (eT (cd a)) (eU (cd a)) (eV (cd a))) c)),(dV (aE b (aa (eT (cd a)) (eU (cd a)) (eV (cd a))) c)),(dW (aE b (aa (eT (cd a)) (eU (cd a)) (eV (cd a))) c)),(dX (aE b (aa (eT (cd a)) (eU (cd a)) (eV (cd a))) c)))))
def abe(a:Bool)(b:List Int)(c:Nat)(d:Nat)(e:Int) :T ((Empty)⊕(kG)) :=
  .leaf (.inr (.r0 0 a b c d e))
def il(a:Nat) :Option kG:=me (aH ((Rk a).run) fun (b,k,c,d,e) =>
  aH ((Jt b c d e).run) fun (f,g,h,i,j) =>
  (abe f g h i j).run)
theorem alh(b:Nat){x:kG}(h:il b=some x) :ax prog tU [] [.flt false b] (VG x) :=
  Sg.contract true VG (by kernel_rfl:prog.funcs[tU]? = some (FN tU)) (by kernel_rfl:(FN tU).body=some (bB tU)) (Sg.cut 2 abb (Sg.seg (C:=C0) ap we 60 (Rj.take 2) (aT (FN tU) [] [.flt false b]) (Rk b) abc NJ [⟨[],[0,128],[2,4,5]⟩,⟨[],[0,128],[2,4,5]⟩] (by kernel_rfl)) (fun a=>by obtain ⟨c,m,d,e,f⟩:=a;exact Sg.cut 3 abb (Sg.seg (C:=C0) ap we 60 ((Rj.drop 2).take 3) (abc (c,m,d,e,f)) (Jt c d e f) abd NJ [⟨[(.cell 0 1,.fre 1 1 (.ns .u64 ([]:List Int)))],[0],[2,3]⟩,⟨[],[0],[2,3]⟩] (by kernel_rfl)) (fun a=>by obtain ⟨g,i,j,k,l⟩:=a;exact Sg.seg (C:=C0) ap we 60 ((Rj.drop 2).drop 3) (abd (g,i,j,k,l)) (abe g i j k l) (fun a:Empty=>a.elim) NJ [⟨[],[0],[2,3]⟩] (by kernel_rfl))))
    (fun x=>by cases x with | r0 n o p q r s=>exact ⟨.inr rfl,[.agg [.bool false o,.imm .free (.ns .u64 p) 1 1 q r,.int .i64 s],.int .i64 ((n:Nat):Int)],[],by kernel_rfl,trivial,by kernel_rfl⟩) h
def Ep:Option kG→Bool
  | some _=>true
  | none=>false
def S4:Option kG→Nat
  | some (.r0 x _ _ _ _ _)=>x
  | _=>0
def De:Option kG→Bool
  | some (.r0 _ x _ _ _ _)=>x
  | _=>false
def ya:Option kG→List Int
  | some (.r0 _ _ x _ _ _)=>x
  | _=>[]
def yc:Option kG→Nat
  | some (.r0 _ _ _ x _ _)=>x
  | _=>0
def yd:Option kG→Nat
  | some (.r0 _ _ _ _ x _)=>x
  | _=>0
def Df:Option kG→Int
  | some (.r0 _ _ _ _ _ x)=>x
  | _=>0
theorem ali{x:Option kG}(h:Ep x=true) :x=some (.r0 (S4 x) (De x) (ya x) (yc x) (yd x) (Df x)):=by
  unfold Ep at h
  split at h <;> first | rfl | (cases h;done) | (rename_i y;cases y;rfl)
def ae8:aL:=cn tU (.cons (.flt false) .nil) fun t=>[⟨VG (.r0 (S4 (il t.1)) (De (il t.1)) (ya (il t.1)) (yc (il t.1)) (yd (il t.1)) (Df (il t.1))),[Ep (il t.1)]⟩]
theorem agA:aV prog ae8:=aP fun t=>(aQ (fun h=>alh t.1 (ali h)) ba)
def ae9:List aL:=ae8 :: S3
theorem ye:bf prog (bi ae9):=aw agA we
inductive gP where
  | r0 (a:Nat) (b:List Int)
def q9:gP→AE×aM
  | .r0 a b=>(.ret,⟨an 22 [(2,.sl 0 1 1 0 a a)],[(0,.ns .u64 b)],1⟩)
theorem AJ:l9 q9:=by intro x;cases x <;> (intro h;cases h)
theorem ac4(id:Nat) :rL id q9:=by intro x;cases x <;> (intro h;cases h)
def Ju:gP→jv
  | .r0 a b=>⟨.imm .free (.ns .u64 b) 1 1 0 a,[]⟩
def tm:List Code:=bS (bB mv)
def OJ(b:Lv)(a:List Int)(_:Unit) :aM:=⟨an 22 [(0,.imm b (.ns .u64 a) 1 1 0 (List.length a)),(3,.int .i64 (((List.length a):Nat):Int))],[],0⟩
def LS:T ((Unit)⊕(gP)) :=
  .leaf (.inl ())
def si(b:Lv)(a:List Int)(c:Int) :aM:=⟨an 22 [(0,.imm b (.ns .u64 a) 1 1 0 (List.length a)),(3,.int .i64 c)],[],0⟩
def vg(b:Lv)(a:List Int)(c:Int) :aM:=⟨an 22 [(0,.imm b (.ns .u64 a) 1 1 0 (List.length a)),(3,.int .i64 c)],[],0⟩
def Eq:List Code:=bS (bW ((((tm.drop 2).take 1)).headD .skip))
def OK(b:Lv)(a:List Int)(c:Int)(d:Bool) :aM:=⟨an 22 [(0,.imm b (.ns .u64 a) 1 1 0 (List.length a)),(3,.int .i64 c),(15,.bool false d)],[],0⟩
def qh(b:List Int)(a:Int) :T ((Bool)⊕((Int)⊕(gP))) :=
  .ask (decide (a > (0:Int)))
    (.need (ej .i64 (a - (1:Int)))<|.need (iC (a - (1:Int)) (List.length b))<|.need (jt (Int.toNat (a - (1:Int))) (List.length b))<|.leaf (.inl ((List.getD b (Int.toNat (a - (1:Int))) 0) == (0:Int))))
    (.leaf (.inl false))
def Er(a:Int)(b:Bool) :T ((Int)⊕((Int)⊕(gP))) :=
  .ask b
    (.need (ej .i64 (a - (1:Int)))<|.leaf (.inl (a - (1:Int))))
    (.leaf (.inr (.inl a)))
def Es(b:List Int) :Int→Option ((Int)⊕((Int)⊕(gP))):=fun a =>
  aH ((qh b a).run) fun c =>
  (Er a c).run
theorem abf(b:Lv)(a:List Int)(c:Int) :Sg prog [] Eq (si b a c) (Es a c) (si b a) (aS 0 (vg b a) q9):=by
  unfold Es;exact Sg.cut 1 (aN AJ) (Sg.seg (C:=C0) ap ye 60 (Eq.take 1) (si b a c) (qh a c) (OK b a c) (aS 0 (vg b a) q9) [⟨[],[],[0,3,15]⟩,⟨[],[],[0,3,15]⟩] (by kernel_rfl)) (fun d=>by exact Sg.seg (C:=C0) ap ye 60 (Eq.drop 1) (OK b a c d) (Er c d) (si b a) (aS 0 (vg b a) q9) [⟨[],[],[0,3]⟩,⟨[],[],[0,3]⟩] (by kernel_rfl))
def ac5(a:Lv)(b:List Int) :Int→aM:=vg a b
def Et(b:List Int)(a:Int) :T ((Empty)⊕(gP)) :=
  .need (NW a (List.length b))<|.need (NW (0:Int) (Int.toNat a))<|.need (uP ((Int.toNat a) * 8) 140737488355328)<|.need (uP (Int.toNat a) 9223372036854775807)<|.need (uP (Int.toNat a) (List.length b))<|.leaf (.inr (.r0 (Int.toNat a) (List.take (Int.toNat a) b)))
def cY(a:List Int) :Option gP:=me (aH ((LS).run) fun _ =>
  aH (eh (Es a) (((List.length a):Nat):Int)) fun b =>
  (Et a b).run)
theorem ac6(c:Lv)(b:List Int){x:gP}(h:cY b=some x) :ax prog mv [] [.imm c (.ns .u64 b) 1 1 0 (List.length b)] (Ju x) :=
  Sg.contract true Ju (by kernel_rfl:prog.funcs[mv]? = some (FN mv)) (by kernel_rfl:(FN mv).body=some (bB mv)) (Sg.cut 2 AJ (Sg.seg (C:=C0) ap ye 60 (tm.take 2) (aT (FN mv) [] [.imm c (.ns .u64 b) 1 1 0 (List.length b)]) (LS) (OJ c b) q9 [⟨[],[],[0,3]⟩] (by kernel_rfl)) (fun a=>by cases a;exact Sg.cut 1 AJ (Sg.pre ⟨[],[],[0,3]⟩ rfl (by kernel_rfl:NS.on ⟨[],[],[0,3]⟩ (OJ c b ())=(si c b) (((List.length b):Nat):Int)) (cw (I:=(si c b)) (J:=(vg c b)) (id:=0) (by kernel_rfl:((tm.drop 2).take 1) = [.block 0 (.loop (bW ((((tm.drop 2).take 1)).headD .skip)))]) AJ (ac4 _) (fun s=>by exact abf c b s) (((List.length b):Nat):Int))) (fun d=>by exact Sg.seg (C:=C0) ap ye 60 ((tm.drop 2).drop 1) (ac5 c b d) (Et b d) (fun a:Empty=>a.elim) q9 [⟨[],[48],[2]⟩] (by kernel_rfl))))
    (fun x=>by cases x with | r0 e f=>exact ⟨.inr rfl,[.sl 0 1 1 0 e e],[],by kernel_rfl,trivial,by kernel_rfl⟩) h
def lf:Option gP→Bool
  | some _=>true
  | none=>false
def ka:Option gP→Nat
  | some (.r0 x _)=>x
  | _=>0
def kd:Option gP→List Int
  | some (.r0 _ x)=>x
  | _=>[]
theorem ac7{x:Option gP}(h:lf x=true) :x=some (.r0 (ka x) (kd x)):=by
  unfold lf at h
  split at h <;> first | rfl | (cases h;done) | (rename_i y;cases y;rfl)
def S5:aL:=cn mv (.cons (.ns .u64) .nil) fun t=>[⟨Ju (.r0 (ka (cY t.1.2)) (kd (cY t.1.2))),[lf (cY t.1.2)]⟩]
theorem YA:aV prog S5:=aP fun t=>(aQ (fun h=>ac6 t.1.1 t.1.2 (ac7 h)) ba)
def S6:List aL:=S5 :: ae9
theorem wg:bf prog (bi S6):=aw YA ye
inductive jc where
  | r0 (a:Nat) (b:Nat) (c:List Int)
def xk:jc→AE×aM
  | .r0 a b c=>(.ret,⟨an 25 [(2,.sl 0 1 1 0 a b)],[(0,.ns .u64 c)],1⟩)
theorem Jv:l9 xk:=by intro x;cases x <;> (intro h;cases h)
theorem agB(id:Nat) :rL id xk:=by intro x;cases x <;> (intro h;cases h)
def LT:jc→jv
  | .r0 a c b=>⟨.imm .free (.ns .u64 b) 1 1 0 a,[]⟩
def yf:List Code:=bS (bB pa)
def S7(b:Lv)(a:List Int)(_:Unit) :aM:=⟨an 25 [(0,.imm b (.ns .u64 a) 1 1 0 (List.length a)),(3,.nsl),(4,.int .i64 (0:Int))],[],0⟩
def S8:T ((Unit)⊕(jc)) :=
  .leaf (.inl ())
def uq(b:Lv)(a:List Int) :Nat×Nat×Nat×(List Int)→aM:=fun (c,d,e,f)=>⟨an 25 [(0,.imm b (.ns .u64 a) 1 1 0 (List.length a)),(3,.sl 0 1 1 0 c d),(4,.int .i64 ((e:Nat):Int))],[(0,.ns .u64 f)],1⟩
def Dg:Nat×Nat×(List Int)→aM:=fun (a,b,c)=>⟨an 25 [(3,.sl 0 1 1 0 a b)],[(0,.ns .u64 c)],1⟩
def S9:List Code:=bS (bW ((((yf.drop 3).take 1)).headD .skip))
def vh(b:List Int)(c:Nat)(e:Nat)(a:Nat)(d:List Int) :T ((Nat×Nat×Nat×(List Int))⊕((Nat×Nat×(List Int))⊕(jc))) :=
  .ask (decide (((a:Nat):Int) < (((List.length b):Nat):Int)))
    (.need (iC ((a:Nat):Int) (List.length b))<|.need (jt a (List.length b))<|.need ((4294967296:Int) != (0:Int))<|.need (iC ((a:Nat):Int) (List.length b))<|.need (jt a (List.length b))<|.need ((4294967296:Int) != (0:Int))<|.need (uP ((c+2) * 8) 140737488355328)<|.need (uP (c+2) 9223372036854775807)<|.need (uP 2 (List.length [(Int.tmod (List.getD b a 0) (4294967296:Int)),(IntKind.u64.wrap (Int.tdiv (List.getD b a 0) (4294967296:Int)))]))<|.need (uP c (List.length d))<|.need (ej .i64 (((a+1):Nat):Int))<|.leaf (.inl ((c+2),(c+2),(a+1),((List.take c d) ++ (List.take 2 [(Int.tmod (List.getD b a 0) (4294967296:Int)),(IntKind.u64.wrap (Int.tdiv (List.getD b a 0) (4294967296:Int)))])))))
    (.leaf (.inr (.inl (c,e,d))))
def G0(a:List Int) :Nat×Nat×Nat×(List Int)→Option ((Nat×Nat×Nat×(List Int))⊕((Nat×Nat×(List Int))⊕(jc))):=fun (b,c,d,e) =>
  (vh a b c d e).run
theorem ac8(b:Lv)(a:List Int)(c:Nat)(d:Nat)(e:Nat)(f:List Int) :Sg prog [] S9 (uq b a (c,d,e,f)) (G0 a (c,d,e,f)) (uq b a) (aS 0 Dg xk):=by
  unfold G0;exact Sg.seg (C:=C0) ap wg 60 S9 (uq b a (c,d,e,f)) (vh a c d e f) (uq b a) (aS 0 Dg xk) [⟨[],[257],[0,3,4]⟩,⟨[],[0],[3]⟩] (by kernel_rfl)
def agC:Nat×Nat×(List Int)→aM:=Dg
def OL(a:Nat)(b:Nat)(c:List Int) :T ((Empty)⊕(jc)) :=
  .leaf (.inr (.r0 a b c))
def dn(a:List Int) :Option jc:=me (aH ((S8).run) fun _ =>
  aH (eh (G0 a) (0,0,0,([]:List Int))) fun (b,c,d) =>
  (OL b c d).run)
theorem agD(c:Lv)(b:List Int){x:jc}(h:dn b=some x) :ax prog pa [] [.imm c (.ns .u64 b) 1 1 0 (List.length b)] (LT x) :=
  Sg.contract true LT (by kernel_rfl:prog.funcs[pa]? = some (FN pa)) (by kernel_rfl:(FN pa).body=some (bB pa)) (Sg.cut 3 Jv (Sg.seg (C:=C0) ap wg 60 (yf.take 3) (aT (FN pa) [] [.imm c (.ns .u64 b) 1 1 0 (List.length b)]) (S8) (S7 c b) xk [⟨[],[],[0,3,4]⟩] (by kernel_rfl)) (fun a=>by cases a;exact Sg.cut 1 Jv (Sg.pre ⟨[(.slot 3,.own 1 1 (.ns .u64 ([]:List Int)))],[0],[0,3,4]⟩ rfl (by kernel_rfl:NS.on ⟨[(.slot 3,.own 1 1 (.ns .u64 ([]:List Int)))],[0],[0,3,4]⟩ (S7 c b ())=(uq c b) (0,0,0,([]:List Int))) (cw (I:=(uq c b)) (J:=(Dg)) (id:=0) (by kernel_rfl:((yf.drop 3).take 1) = [.block 0 (.loop (bW ((((yf.drop 3).take 1)).headD .skip)))]) Jv (agB _) (fun s=>by obtain ⟨g,i,j,k⟩:=s;exact ac8 c b g i j k) (0,0,0,([]:List Int)))) (fun a=>by obtain ⟨d,e,f⟩:=a;exact Sg.seg (C:=C0) ap wg 60 ((yf.drop 3).drop 1) (agC (d,e,f)) (OL d e f) (fun a:Empty=>a.elim) xk [⟨[],[0],[2]⟩] (by kernel_rfl))))
    (fun x=>by cases x with | r0 l m n=>exact ⟨.inr rfl,[.sl 0 1 1 0 l m],[],by kernel_rfl,trivial,by kernel_rfl⟩) h
def mI:Option jc→Bool
  | some _=>true
  | none=>false
def lB:Option jc→Nat
  | some (.r0 x _ _)=>x
  | _=>0
def LU:Option jc→Nat
  | some (.r0 _ x _)=>x
  | _=>0
def lC:Option jc→List Int
  | some (.r0 _ _ x)=>x
  | _=>[]
theorem agE{x:Option jc}(h:mI x=true) :x=some (.r0 (lB x) (LU x) (lC x)):=by
  unfold mI at h
  split at h <;> first | rfl | (cases h;done) | (rename_i y;cases y;rfl)
def Xo:aL:=cn pa (.cons (.ns .u64) .nil) fun t=>[⟨LT (.r0 (lB (dn t.1.2)) (LU (dn t.1.2)) (lC (dn t.1.2))),[mI (dn t.1.2)]⟩]
theorem abg:aV prog Xo:=aP fun t=>(aQ (fun h=>agD t.1.1 t.1.2 (agE h)) ba)
def Xp:List aL:=Xo :: S6
theorem LV:bf prog (bi Xp):=aw abg wg
inductive m4 where
  | r0 (a:Int)
def ac9:m4→AE×aM
  | .r0 a=>(.ret,⟨an 13 [(4,.int .u64 a)],[],0⟩)
def G1:m4→jv
  | .r0 a=>⟨.int .u64 a,[]⟩
def abh:List Code:=bS (bB k7)
def Eu(a:List Int)(b:Int) :T ((Empty)⊕(m4)) :=
  .ask (decide (b < (((List.length a):Nat):Int)))
    (.need (iC b (List.length a))<|.need (jt (Int.toNat b) (List.length a))<|.leaf (.inr (.r0 (List.getD a (Int.toNat b) 0))))
    (.leaf (.inr (.r0 (0:Int))))
def d8(a:List Int)(b:Int) :Option m4:=me ((Eu a b).run)
theorem abi(d:Lv)(b:List Int)(c:Int){x:m4}(h:d8 b c=some x) :ax prog k7 [] [.imm d (.ns .u64 b) 1 1 0 (List.length b),.int .i64 c] (G1 x) :=
  Sg.contract true G1 (by kernel_rfl:prog.funcs[k7]? = some (FN k7)) (by kernel_rfl:(FN k7).body=some (bB k7)) (Sg.seg (C:=C0) ap LV 60 abh (aT (FN k7) [] [.imm d (.ns .u64 b) 1 1 0 (List.length b),.int .i64 c]) (Eu b c) (fun a:Empty=>a.elim) ac9 [⟨[],[],[4]⟩,⟨[],[],[4]⟩] (by kernel_rfl))
    (fun x=>by cases x with | r0 e=>exact ⟨.inr rfl,[.int .u64 e],[],by kernel_rfl,trivial,by kernel_rfl⟩) h
def lD:Option m4→Bool
  | some _=>true
  | none=>false
def dR:Option m4→Int
  | some (.r0 x)=>x
  | _=>0
theorem abj{x:Option m4}(h:lD x=true) :x=some (.r0 (dR x)):=by
  unfold lD at h
  split at h <;> first | rfl | (cases h;done) | (rename_i y;cases y;rfl)
def OM:aL:=cn k7 (.cons (.ns .u64) (.cons (.int .i64) .nil)) fun t=>[⟨G1 (.r0 (dR (d8 t.1.2 t.2.1))),[lD (d8 t.1.2 t.2.1)]⟩]
theorem VH:aV prog OM:=aP fun t=>(aQ (fun h=>abi t.1.1 t.1.2 t.2.1 (abj h)) ba)
def ON:List aL:=OM :: Xp
theorem nD:bf prog (bi ON):=aw VH LV
inductive fP where
  | r0 (a:List Int) (b:Nat)
def pj:fP→AE×aM
  | .r0 a b=>(.ret,⟨an 35 [(2,.imm .free (.ns .u64 a) 1 1 0 b)],[],0⟩)
theorem vi:l9 pj:=by intro x;cases x <;> (intro h;cases h)
theorem ada(id:Nat) :rL id pj:=by intro x;cases x <;> (intro h;cases h)
def Jw:fP→jv
  | .r0 a b=>⟨.imm .free (.ns .u64 a) 1 1 0 b,[]⟩
def qi:List Code:=bS (bB mC)
def OO(b:Lv)(a:List Int)(_:Unit) :aM:=⟨an 35 [(0,.imm b (.ns .u64 a) 1 1 0 (List.length a)),(3,.nsl),(4,.int .i64 (0:Int))],[],0⟩
def LW:T ((Unit)⊕(fP)) :=
  .leaf (.inl ())
def sj(b:Lv)(a:List Int) :Nat×Nat×Nat×(List Int)→aM:=fun (c,d,e,f)=>⟨an 35 [(0,.imm b (.ns .u64 a) 1 1 0 (List.length a)),(3,.sl 0 1 1 0 c d),(4,.int .i64 ((e:Nat):Int))],[(0,.ns .u64 f)],1⟩
def vj:Nat×Nat×(List Int)→aM:=fun (a,b,c)=>⟨an 35 [(3,.sl 0 1 1 0 a b)],[(0,.ns .u64 c)],1⟩
def Ev:List Code:=bS (bW ((((qi.drop 3).take 1)).headD .skip))
def OP(c:Lv)(a:List Int)(d:Nat) :Nat×(List Int)→aM:=fun (b,e)=>⟨an 35 [(0,.imm c (.ns .u64 a) 1 1 0 (List.length a)),(3,.sl 0 1 1 0 b b),(4,.int .i64 ((d:Nat):Int))],[(0,.ns .u64 e)],1⟩
def tn(b:List Int)(c:Nat)(e:Nat)(a:Nat)(d:List Int) :T ((Nat×(List Int))⊕((Nat×Nat×(List Int))⊕(fP))) :=
  .ask (decide (((a:Nat):Int) < (((List.length b):Nat):Int)))
    (.need (iC ((a:Nat):Int) (List.length b))<|.need (jt a (List.length b))<|.need (ej .i64 (((a+1):Nat):Int))<|.ask (decide ((((a+1):Nat):Int) < (((List.length b):Nat):Int)))
      (.need (ej .i64 (((a+1):Nat):Int))<|.need (iC (((a+1):Nat):Int) (List.length b))<|.need (jt (a+1) (List.length b))<|.need (uP ((c+1) * 8) 140737488355328)<|.need (uP (c+1) 9223372036854775807)<|.need (uP 1 (List.length [(IntKind.u64.wrap ((List.getD b a 0)+(IntKind.u64.wrap ((List.getD b (a+1) 0) * (4294967296:Int)))))]))<|.need (uP c (List.length d))<|.leaf (.inl ((c+1),((List.take c d) ++ (List.take 1 [(IntKind.u64.wrap ((List.getD b a 0)+(IntKind.u64.wrap ((List.getD b (a+1) 0) * (4294967296:Int)))))])))))
      (.need (uP ((c+1) * 8) 140737488355328)<|.need (uP (c+1) 9223372036854775807)<|.need (uP 1 (List.length [(List.getD b a 0)]))<|.need (uP c (List.length d))<|.leaf (.inl ((c+1),((List.take c d) ++ (List.take 1 [(List.getD b a 0)]))))))
    (.leaf (.inr (.inl (c,e,d))))
def LX(a:Nat)(b:Nat)(c:List Int) :T ((Nat×Nat×Nat×(List Int))⊕((Nat×Nat×(List Int))⊕(fP))) :=
  .need (ej .i64 (((a+2):Nat):Int))<|.leaf (.inl (b,b,(a+2),c))
def Ew(b:List Int) :Nat×Nat×Nat×(List Int)→Option ((Nat×Nat×Nat×(List Int))⊕((Nat×Nat×(List Int))⊕(fP))):=fun (c,d,a,e) =>
  aH ((tn b c d a e).run) fun (f,g) =>
  (LX a f g).run
theorem abk(d:Lv)(b:List Int)(e:Nat)(f:Nat)(c:Nat)(g:List Int) :Sg prog [] Ev (sj d b (e,f,c,g)) (Ew b (e,f,c,g)) (sj d b) (aS 0 vj pj):=by
  unfold Ew;exact Sg.cut 3 (aN vi) (Sg.seg (C:=C0) ap nD 60 (Ev.take 3) (sj d b (e,f,c,g)) (tn b e f c g) (OP d b c) (aS 0 vj pj) [⟨[],[417],[0,3,4]⟩,⟨[],[273],[0,3,4]⟩,⟨[],[0],[3]⟩] (by kernel_rfl)) (fun a=>by obtain ⟨h,i⟩:=a;exact Sg.seg (C:=C0) ap nD 60 (Ev.drop 3) (OP d b c (h,i)) (LX c h i) (sj d b) (aS 0 vj pj) [⟨[],[0],[0,3,4]⟩] (by kernel_rfl))
def adb:Nat×Nat×(List Int)→aM:=vj
def LY:(List Int)×Nat→aM:=fun (a,b)=>⟨an 35 [(2,.imm .free (.ns .u64 a) 1 1 0 b)],[],0⟩
def yg(a:Nat)(b:List Int) :T (((List Int)×Nat)⊕(fP)) :=
  .need (aR 0 a b)<|.need (lf (cY (aa 0 a b)))<|.leaf (.inl ((kd (cY (aa 0 a b))),(ka (cY (aa 0 a b)))))
def LZ(a:List Int)(b:Nat) :T ((Empty)⊕(fP)) :=
  .leaf (.inr (.r0 a b))
def fQ(a:List Int) :Option fP:=me (aH ((LW).run) fun _ =>
  aH (eh (Ew a) (0,0,0,([]:List Int))) fun (b,f,c) =>
  aH ((yg b c).run) fun (d,e) =>
  (LZ d e).run)
theorem adc(c:Lv)(b:List Int){x:fP}(h:fQ b=some x) :ax prog mC [] [.imm c (.ns .u64 b) 1 1 0 (List.length b)] (Jw x) :=
  Sg.contract true Jw (by kernel_rfl:prog.funcs[mC]? = some (FN mC)) (by kernel_rfl:(FN mC).body=some (bB mC)) (Sg.cut 3 vi (Sg.seg (C:=C0) ap nD 60 (qi.take 3) (aT (FN mC) [] [.imm c (.ns .u64 b) 1 1 0 (List.length b)]) (LW) (OO c b) pj [⟨[],[],[0,3,4]⟩] (by kernel_rfl)) (fun a=>by cases a;exact Sg.cut 1 vi (Sg.pre ⟨[(.slot 3,.own 1 1 (.ns .u64 ([]:List Int)))],[0],[0,3,4]⟩ rfl (by kernel_rfl:NS.on ⟨[(.slot 3,.own 1 1 (.ns .u64 ([]:List Int)))],[0],[0,3,4]⟩ (OO c b ())=(sj c b) (0,0,0,([]:List Int))) (cw (I:=(sj c b)) (J:=(vj)) (id:=0) (by kernel_rfl:((qi.drop 3).take 1) = [.block 0 (.loop (bW ((((qi.drop 3).take 1)).headD .skip)))]) vi (ada _) (fun s=>by obtain ⟨i,j,k,l⟩:=s;exact abk c b i j k l) (0,0,0,([]:List Int)))) (fun a=>by obtain ⟨d,m,e⟩:=a;exact Sg.cut 1 vi (Sg.seg (C:=C0) ap nD 60 (((qi.drop 3).drop 1).take 1) (adb (d,m,e)) (yg d e) LY pj [⟨[],[],[2]⟩] (by kernel_rfl)) (fun a=>by obtain ⟨f,g⟩:=a;exact Sg.seg (C:=C0) ap nD 60 (((qi.drop 3).drop 1).drop 1) (LY (f,g)) (LZ f g) (fun a:Empty=>a.elim) pj [⟨[],[],[2]⟩] (by kernel_rfl)))))
    (fun x=>by cases x with | r0 n o=>exact ⟨.inr rfl,[.imm .free (.ns .u64 n) 1 1 0 o],[],by kernel_rfl,trivial,by kernel_rfl⟩) h
def sk:Option fP→Bool
  | some _=>true
  | none=>false
def rU:Option fP→List Int
  | some (.r0 x _)=>x
  | _=>[]
def rV:Option fP→Nat
  | some (.r0 _ x)=>x
  | _=>0
theorem ade{x:Option fP}(h:sk x=true) :x=some (.r0 (rU x) (rV x)):=by
  unfold sk at h
  split at h <;> first | rfl | (cases h;done) | (rename_i y;cases y;rfl)
def Ta:aL:=cn mC (.cons (.ns .u64) .nil) fun t=>[⟨Jw (.r0 (rU (fQ t.1.2)) (rV (fQ t.1.2))),[sk (fQ t.1.2)]⟩]
theorem YB:aV prog Ta:=aP fun t=>(aQ (fun h=>adc t.1.1 t.1.2 (ade h)) ba)
def Tb:List aL:=Ta :: ON
theorem ke:bf prog (bi Tb):=aw YB nD
end
end Go.Plb.Seat
namespace Go.Plb.Seat
open Go Go.Plb
set_option linter.unusedVariables false
set_option maxRecDepth 100000
noncomputable section
inductive fJ where
  | r0 (a:List Int) (b:Nat)
def m5:fJ→AE×aM
  | .r0 a b=>(.ret,⟨an 48 [(4,.imm .free (.ns .u64 a) 1 1 0 b)],[],0⟩)
theorem ra:l9 m5:=by intro x;cases x <;> (intro h;cases h)
theorem agF(id:Nat) :rL id m5:=by intro x;cases x <;> (intro h;cases h)
def L0:fJ→jv
  | .r0 a b=>⟨.imm .free (.ns .u64 a) 1 1 0 b,[]⟩
def pM:List Code:=bS (bB oX)
def Tc:(List Int)×Nat×(List Int)×Nat→aM:=fun (a,b,c,d)=>⟨an 48 [(5,.imm .free (.ns .u64 a) 1 1 0 b),(6,.imm .free (.ns .u64 c) 1 1 0 d)],[],0⟩
def G2(a:List Int)(b:List Int) :T (((List Int)×Nat×(List Int)×Nat)⊕(fJ)) :=
  .need (aR 0 (List.length a) a)<|.need (mI (dn (aa 0 (List.length a) a)))<|.need (aR 0 (List.length b) b)<|.need (mI (dn (aa 0 (List.length b) b)))<|.leaf (.inl ((lC (dn (aa 0 (List.length a) a))),(lB (dn (aa 0 (List.length a) a))),(lC (dn (aa 0 (List.length b) b))),(lB (dn (aa 0 (List.length b) b)))))
def Td(a:List Int)(b:Nat)(c:List Int)(d:Nat)(_:Unit) :aM:=⟨an 48 [(5,.imm .free (.ns .u64 a) 1 1 0 b),(6,.imm .free (.ns .u64 c) 1 1 0 d),(7,.nsl),(8,.int .u64 (0:Int)),(9,.int .i64 (0:Int))],[],0⟩
def OQ:T ((Unit)⊕(fJ)) :=
  .leaf (.inl ())
def sm(a:List Int)(b:Nat)(c:List Int)(d:Nat) :Nat×Nat×Int×Nat×(List Int)→aM:=fun (e,f,g,h,i)=>⟨an 48 [(5,.imm .free (.ns .u64 a) 1 1 0 b),(6,.imm .free (.ns .u64 c) 1 1 0 d),(7,.sl 0 1 1 0 e f),(8,.int .u64 g),(9,.int .i64 ((h:Nat):Int))],[(0,.ns .u64 i)],1⟩
def sn:Nat×Nat×Int×(List Int)→aM:=fun (a,b,c,d)=>⟨an 48 [(7,.sl 0 1 1 0 a b),(8,.int .u64 c)],[(0,.ns .u64 d)],1⟩
def AK:List Code:=bS (bW (((((pM.drop 2).drop 3).take 1)).headD .skip))
def OR(a:List Int)(b:Nat)(c:List Int)(d:Nat)(e:Nat)(f:Nat)(g:Int)(h:Nat)(i:List Int)(j:Bool) :aM:=⟨an 48 [(5,.imm .free (.ns .u64 a) 1 1 0 b),(6,.imm .free (.ns .u64 c) 1 1 0 d),(7,.sl 0 1 1 0 e f),(8,.int .u64 g),(9,.int .i64 ((h:Nat):Int)),(24,.bool false j)],[(0,.ns .u64 i)],1⟩
def so(b:Nat)(c:Nat)(a:Nat) :T ((Bool)⊕((Nat×Nat×Int×(List Int))⊕(fJ))) :=
  .ask (decide (((a:Nat):Int) < ((b:Nat):Int)))
    (.leaf (.inl true))
    (.leaf (.inl (decide (((a:Nat):Int) < ((c:Nat):Int)))))
def OS(b:List Int)(c:Nat)(d:List Int)(e:Nat)(f:Nat) :Nat×Int×(List Int)→aM:=fun (a,g,h)=>⟨an 48 [(5,.imm .free (.ns .u64 b) 1 1 0 c),(6,.imm .free (.ns .u64 d) 1 1 0 e),(7,.sl 0 1 1 0 a a),(8,.int .u64 g),(9,.int .i64 ((f:Nat):Int))],[(0,.ns .u64 h)],1⟩
def AL(c:List Int)(d:Nat)(e:List Int)(f:Nat)(b:Nat)(i:Nat)(g:Int)(a:Nat)(h:List Int)(j:Bool) :T ((Nat×Int×(List Int))⊕((Nat×Nat×Int×(List Int))⊕(fJ))) :=
  .ask j
    (.need (aR 0 d c)<|.need (lD (d8 (aa 0 d c) ((a:Nat):Int)))<|.need (aR 0 f e)<|.need (lD (d8 (aa 0 f e) ((a:Nat):Int)))<|.need ((4294967296:Int) != (0:Int))<|.need (uP ((b+1) * 8) 140737488355328)<|.need (uP (b+1) 9223372036854775807)<|.need (uP 1 (List.length [(Int.tmod (IntKind.u64.wrap ((IntKind.u64.wrap ((dR (d8 (aa 0 d c) ((a:Nat):Int)))+(dR (d8 (aa 0 f e) ((a:Nat):Int)))))+g)) (4294967296:Int))]))<|.need (uP b (List.length h))<|.need ((4294967296:Int) != (0:Int))<|.leaf (.inl ((b+1),(IntKind.u64.wrap (Int.tdiv (IntKind.u64.wrap ((IntKind.u64.wrap ((dR (d8 (aa 0 d c) ((a:Nat):Int)))+(dR (d8 (aa 0 f e) ((a:Nat):Int)))))+g)) (4294967296:Int))),((List.take b h) ++ (List.take 1 [(Int.tmod (IntKind.u64.wrap ((IntKind.u64.wrap ((dR (d8 (aa 0 d c) ((a:Nat):Int)))+(dR (d8 (aa 0 f e) ((a:Nat):Int)))))+g)) (4294967296:Int))])))))
    (.leaf (.inr (.inl (b,i,g,h))))
def OT(a:Nat)(b:Nat)(c:Int)(d:List Int) :T ((Nat×Nat×Int×Nat×(List Int))⊕((Nat×Nat×Int×(List Int))⊕(fJ))) :=
  .need (ej .i64 (((a+1):Nat):Int))<|.leaf (.inl (b,b,c,(a+1),d))
def G3(d:List Int)(b:Nat)(e:List Int)(c:Nat) :Nat×Nat×Int×Nat×(List Int)→Option ((Nat×Nat×Int×Nat×(List Int))⊕((Nat×Nat×Int×(List Int))⊕(fJ))):=fun (f,g,h,a,i) =>
  aH ((so b c a).run) fun j =>
  aH ((AL d b e c f g h a i j).run) fun (k,l,m) =>
  (OT a k l m).run
theorem adf(d:List Int)(b:Nat)(e:List Int)(c:Nat)(g:Nat)(h:Nat)(i:Int)(f:Nat)(j:List Int) :Sg prog [] AK (sm d b e c (g,h,i,f,j)) (G3 d b e c (g,h,i,f,j)) (sm d b e c) (aS 0 sn m5):=by
  unfold G3;exact Sg.cut 1 (aN ra) (Sg.seg (C:=C0) ap ke 60 (AK.take 1) (sm d b e c (g,h,i,f,j)) (so b c f) (OR d b e c g h i f j) (aS 0 sn m5) [⟨[],[0],[5,6,7,8,9,24]⟩,⟨[],[0],[5,6,7,8,9,24]⟩] (by kernel_rfl)) (fun k=>by exact Sg.cut 2 (aN ra) (Sg.seg (C:=C0) ap ke 60 ((AK.drop 1).take 2) (OR d b e c g h i f j k) (AL d b e c g h i f j k) (OS d b e c f) (aS 0 sn m5) [⟨[],[225],[5,6,7,8,9]⟩,⟨[],[0],[7,8]⟩] (by kernel_rfl)) (fun a=>by obtain ⟨l,m,n⟩:=a;exact Sg.seg (C:=C0) ap ke 60 ((AK.drop 1).drop 2) (OS d b e c f (l,m,n)) (OT f l m n) (sm d b e c) (aS 0 sn m5) [⟨[],[0],[5,6,7,8,9]⟩] (by kernel_rfl)))
def adg:Nat×Nat×Int×(List Int)→aM:=sn
def OU:(List Int)×Nat→aM:=fun (a,b)=>⟨an 48 [(4,.imm .free (.ns .u64 a) 1 1 0 b)],[],0⟩
def AM(a:Nat)(b:Int)(c:List Int) :T (((List Int)×Nat)⊕(fJ)) :=
  .need (uP ((a+1) * 8) 140737488355328)<|.need (uP (a+1) 9223372036854775807)<|.need (uP 1 (List.length [b]))<|.need (uP a (List.length c))<|.need (aR 0 (a+1) ((List.take a c) ++ (List.take 1 [b])))<|.need (sk (fQ (aa 0 (a+1) ((List.take a c) ++ (List.take 1 [b])))))<|.leaf (.inl ((rU (fQ (aa 0 (a+1) ((List.take a c) ++ (List.take 1 [b]))))),(rV (fQ (aa 0 (a+1) ((List.take a c) ++ (List.take 1 [b])))))))
def OV(a:List Int)(b:Nat) :T ((Empty)⊕(fJ)) :=
  .leaf (.inr (.r0 a b))
def d6(a:List Int)(b:List Int) :Option fJ:=me (aH ((G2 a b).run) fun (c,d,e,f) =>
  aH ((OQ).run) fun _ =>
  aH (eh (G3 c d e f) (0,0,(0:Int),0,([]:List Int))) fun (g,l,h,i) =>
  aH ((AM g h i).run) fun (j,k) =>
  (OV j k).run)
theorem agG(i:Lv)(b:List Int)(j:Lv)(c:List Int){x:fJ}(h:d6 b c=some x) :ax prog oX [] [.imm i (.ns .u64 b) 1 1 0 (List.length b),.imm j (.ns .u64 c) 1 1 0 (List.length c)] (L0 x) :=
  Sg.contract true L0 (by kernel_rfl:prog.funcs[oX]? = some (FN oX)) (by kernel_rfl:(FN oX).body=some (bB oX)) (Sg.cut 2 ra (Sg.seg (C:=C0) ap ke 60 (pM.take 2) (aT (FN oX) [] [.imm i (.ns .u64 b) 1 1 0 (List.length b),.imm j (.ns .u64 c) 1 1 0 (List.length c)]) (G2 b c) Tc m5 [⟨[],[],[5,6]⟩] (by kernel_rfl)) (fun a=>by obtain ⟨d,e,f,g⟩:=a;exact Sg.cut 3 ra (Sg.seg (C:=C0) ap ke 60 ((pM.drop 2).take 3) (Tc (d,e,f,g)) (OQ) (Td d e f g) m5 [⟨[],[],[5,6,7,8,9]⟩] (by kernel_rfl)) (fun a=>by cases a;exact Sg.cut 1 ra (Sg.pre ⟨[(.slot 7,.own 1 1 (.ns .u64 ([]:List Int)))],[0],[5,6,7,8,9]⟩ rfl (by kernel_rfl:NS.on ⟨[(.slot 7,.own 1 1 (.ns .u64 ([]:List Int)))],[0],[5,6,7,8,9]⟩ (Td d e f g ())=(sm d e f g) (0,0,(0:Int),0,([]:List Int))) (cw (I:=(sm d e f g)) (J:=(sn)) (id:=0) (by kernel_rfl:(((pM.drop 2).drop 3).take 1) = [.block 0 (.loop (bW (((((pM.drop 2).drop 3).take 1)).headD .skip)))]) ra (agF _) (fun s=>by obtain ⟨p,q,r,t,u⟩:=s;exact adf d e f g p q r t u) (0,0,(0:Int),0,([]:List Int)))) (fun a=>by obtain ⟨k,v,l,m⟩:=a;exact Sg.cut 1 ra (Sg.seg (C:=C0) ap ke 60 ((((pM.drop 2).drop 3).drop 1).take 1) (adg (k,v,l,m)) (AM k l m) OU m5 [⟨[],[],[4]⟩] (by kernel_rfl)) (fun a=>by obtain ⟨n,o⟩:=a;exact Sg.seg (C:=C0) ap ke 60 ((((pM.drop 2).drop 3).drop 1).drop 1) (OU (n,o)) (OV n o) (fun a:Empty=>a.elim) m5 [⟨[],[],[4]⟩] (by kernel_rfl))))))
    (fun x=>by cases x with | r0 w y=>exact ⟨.inr rfl,[.imm .free (.ns .u64 w) 1 1 0 y],[],by kernel_rfl,trivial,by kernel_rfl⟩) h
def yh:Option fJ→Bool
  | some _=>true
  | none=>false
def iu:Option fJ→List Int
  | some (.r0 x _)=>x
  | _=>[]
def iv:Option fJ→Nat
  | some (.r0 _ x)=>x
  | _=>0
theorem agH{x:Option fJ}(h:yh x=true) :x=some (.r0 (iu x) (iv x)):=by
  unfold yh at h
  split at h <;> first | rfl | (cases h;done) | (rename_i y;cases y;rfl)
def Xq:aL:=cn oX (.cons (.ns .u64) (.cons (.ns .u64) .nil)) fun t=>[⟨L0 (.r0 (iu (d6 t.1.2 t.2.1.2)) (iv (d6 t.1.2 t.2.1.2))),[yh (d6 t.1.2 t.2.1.2)]⟩]
theorem abl:aV prog Xq:=aP fun t=>(aQ (fun h=>agG t.1.1 t.1.2 t.2.1.1 t.2.1.2 (agH h)) ba)
def Xr:List aL:=Xq :: Tb
theorem nL:bf prog (bi Xr):=aw abl ke
inductive gn where
  | r0 (a:List Int) (b:Nat)
def pk:gn→AE×aM
  | .r0 a b=>(.ret,⟨an 42 [(4,.imm .free (.ns .u64 a) 1 1 0 b)],[],0⟩)
theorem ur:l9 pk:=by intro x;cases x <;> (intro h;cases h)
theorem agI(id:Nat) :rL id pk:=by intro x;cases x <;> (intro h;cases h)
def L4:gn→jv
  | .r0 a b=>⟨.imm .free (.ns .u64 a) 1 1 0 b,[]⟩
def pN:List Code:=bS (bB oZ)
def Te:(List Int)×Nat×(List Int)×Nat→aM:=fun (a,b,c,d)=>⟨an 42 [(5,.imm .free (.ns .u64 a) 1 1 0 b),(6,.imm .free (.ns .u64 c) 1 1 0 d)],[],0⟩
def G4(a:List Int)(b:List Int) :T (((List Int)×Nat×(List Int)×Nat)⊕(gn)) :=
  .need (aR 0 (List.length a) a)<|.need (mI (dn (aa 0 (List.length a) a)))<|.need (aR 0 (List.length b) b)<|.need (mI (dn (aa 0 (List.length b) b)))<|.leaf (.inl ((lC (dn (aa 0 (List.length a) a))),(lB (dn (aa 0 (List.length a) a))),(lC (dn (aa 0 (List.length b) b))),(lB (dn (aa 0 (List.length b) b)))))
def Tf(a:List Int)(b:Nat)(c:List Int)(d:Nat)(_:Unit) :aM:=⟨an 42 [(5,.imm .free (.ns .u64 a) 1 1 0 b),(6,.imm .free (.ns .u64 c) 1 1 0 d),(7,.nsl),(8,.int .u64 (0:Int)),(9,.int .i64 (0:Int))],[],0⟩
def OW:T ((Unit)⊕(gn)) :=
  .leaf (.inl ())
def ut(a:List Int)(b:Nat)(c:List Int)(d:Nat) :Nat×Nat×Int×Nat×(List Int)→aM:=fun (e,f,g,h,i)=>⟨an 42 [(5,.imm .free (.ns .u64 a) 1 1 0 b),(6,.imm .free (.ns .u64 c) 1 1 0 d),(7,.sl 0 1 1 0 e f),(8,.int .u64 g),(9,.int .i64 ((h:Nat):Int))],[(0,.ns .u64 i)],1⟩
def vk:Nat×Nat×(List Int)→aM:=fun (a,b,c)=>⟨an 42 [(7,.sl 0 1 1 0 a b)],[(0,.ns .u64 c)],1⟩
def G5:List Code:=bS (bW (((((pN.drop 2).drop 3).take 1)).headD .skip))
def OX(b:List Int)(c:Nat)(d:List Int)(e:Nat)(f:Nat) :Nat×Int×(List Int)→aM:=fun (a,g,h)=>⟨an 42 [(5,.imm .free (.ns .u64 b) 1 1 0 c),(6,.imm .free (.ns .u64 d) 1 1 0 e),(7,.sl 0 1 1 0 a a),(8,.int .u64 g),(9,.int .i64 ((f:Nat):Int))],[(0,.ns .u64 h)],1⟩
def vl(e:List Int)(h:Nat)(c:List Int)(d:Nat)(b:Nat)(i:Nat)(f:Int)(a:Nat)(g:List Int) :T ((Nat×Int×(List Int))⊕((Nat×Nat×(List Int))⊕(gn))) :=
  .ask (decide (((a:Nat):Int) < ((h:Nat):Int)))
    (.need (iC ((a:Nat):Int) h)<|.need (jt a (List.length e))<|.need (aR 0 d c)<|.need (lD (d8 (aa 0 d c) ((a:Nat):Int)))<|.need ((4294967296:Int) != (0:Int))<|.need (uP ((b+1) * 8) 140737488355328)<|.need (uP (b+1) 9223372036854775807)<|.need (uP 1 (List.length [(Int.tmod (IntKind.u64.wrap ((IntKind.u64.wrap ((IntKind.u64.wrap ((4294967296:Int)+(List.getD e a 0))) - (dR (d8 (aa 0 d c) ((a:Nat):Int))))) - f)) (4294967296:Int))]))<|.need (uP b (List.length g))<|.need ((4294967296:Int) != (0:Int))<|.leaf (.inl ((b+1),(IntKind.u64.wrap ((1:Int) - (IntKind.u64.wrap (Int.tdiv (IntKind.u64.wrap ((IntKind.u64.wrap ((IntKind.u64.wrap ((4294967296:Int)+(List.getD e a 0))) - (dR (d8 (aa 0 d c) ((a:Nat):Int))))) - f)) (4294967296:Int))))),((List.take b g) ++ (List.take 1 [(Int.tmod (IntKind.u64.wrap ((IntKind.u64.wrap ((IntKind.u64.wrap ((4294967296:Int)+(List.getD e a 0))) - (dR (d8 (aa 0 d c) ((a:Nat):Int))))) - f)) (4294967296:Int))])))))
    (.leaf (.inr (.inl (b,i,g))))
def OY(a:Nat)(b:Nat)(c:Int)(d:List Int) :T ((Nat×Nat×Int×Nat×(List Int))⊕((Nat×Nat×(List Int))⊕(gn))) :=
  .need (ej .i64 (((a+1):Nat):Int))<|.leaf (.inl (b,b,c,(a+1),d))
def G6(b:List Int)(c:Nat)(d:List Int)(e:Nat) :Nat×Nat×Int×Nat×(List Int)→Option ((Nat×Nat×Int×Nat×(List Int))⊕((Nat×Nat×(List Int))⊕(gn))):=fun (f,g,h,a,i) =>
  aH ((vl b c d e f g h a i).run) fun (j,k,l) =>
  (OY a j k l).run
theorem adh(b:List Int)(c:Nat)(d:List Int)(e:Nat)(g:Nat)(h:Nat)(i:Int)(f:Nat)(j:List Int) :Sg prog [] G5 (ut b c d e (g,h,i,f,j)) (G6 b c d e (g,h,i,f,j)) (ut b c d e) (aS 0 vk pk):=by
  unfold G6;exact Sg.cut 3 (aN ur) (Sg.seg (C:=C0) ap nL 60 (G5.take 3) (ut b c d e (g,h,i,f,j)) (vl b c d e g h i f j) (OX b c d e f) (aS 0 vk pk) [⟨[],[321],[5,6,7,8,9]⟩,⟨[],[0],[7]⟩] (by kernel_rfl)) (fun a=>by obtain ⟨k,l,m⟩:=a;exact Sg.seg (C:=C0) ap nL 60 (G5.drop 3) (OX b c d e f (k,l,m)) (OY f k l m) (ut b c d e) (aS 0 vk pk) [⟨[],[0],[5,6,7,8,9]⟩] (by kernel_rfl))
def adi:Nat×Nat×(List Int)→aM:=vk
def OZ:(List Int)×Nat→aM:=fun (a,b)=>⟨an 42 [(4,.imm .free (.ns .u64 a) 1 1 0 b)],[],0⟩
def AN(a:Nat)(b:List Int) :T (((List Int)×Nat)⊕(gn)) :=
  .need (aR 0 a b)<|.need (sk (fQ (aa 0 a b)))<|.leaf (.inl ((rU (fQ (aa 0 a b))),(rV (fQ (aa 0 a b)))))
def O0(a:List Int)(b:Nat) :T ((Empty)⊕(gn)) :=
  .leaf (.inr (.r0 a b))
def bT(a:List Int)(b:List Int) :Option gn:=me (aH ((G4 a b).run) fun (c,d,e,f) =>
  aH ((OW).run) fun _ =>
  aH (eh (G6 c d e f) (0,0,(0:Int),0,([]:List Int))) fun (g,k,h) =>
  aH ((AN g h).run) fun (i,j) =>
  (O0 i j).run)
theorem agJ(i:Lv)(b:List Int)(j:Lv)(c:List Int){x:gn}(h:bT b c=some x) :ax prog oZ [] [.imm i (.ns .u64 b) 1 1 0 (List.length b),.imm j (.ns .u64 c) 1 1 0 (List.length c)] (L4 x) :=
  Sg.contract true L4 (by kernel_rfl:prog.funcs[oZ]? = some (FN oZ)) (by kernel_rfl:(FN oZ).body=some (bB oZ)) (Sg.cut 2 ur (Sg.seg (C:=C0) ap nL 60 (pN.take 2) (aT (FN oZ) [] [.imm i (.ns .u64 b) 1 1 0 (List.length b),.imm j (.ns .u64 c) 1 1 0 (List.length c)]) (G4 b c) Te pk [⟨[],[],[5,6]⟩] (by kernel_rfl)) (fun a=>by obtain ⟨d,e,f,g⟩:=a;exact Sg.cut 3 ur (Sg.seg (C:=C0) ap nL 60 ((pN.drop 2).take 3) (Te (d,e,f,g)) (OW) (Tf d e f g) pk [⟨[],[],[5,6,7,8,9]⟩] (by kernel_rfl)) (fun a=>by cases a;exact Sg.cut 1 ur (Sg.pre ⟨[(.slot 7,.own 1 1 (.ns .u64 ([]:List Int)))],[0],[5,6,7,8,9]⟩ rfl (by kernel_rfl:NS.on ⟨[(.slot 7,.own 1 1 (.ns .u64 ([]:List Int)))],[0],[5,6,7,8,9]⟩ (Tf d e f g ())=(ut d e f g) (0,0,(0:Int),0,([]:List Int))) (cw (I:=(ut d e f g)) (J:=(vk)) (id:=0) (by kernel_rfl:(((pN.drop 2).drop 3).take 1) = [.block 0 (.loop (bW (((((pN.drop 2).drop 3).take 1)).headD .skip)))]) ur (agI _) (fun s=>by obtain ⟨o,p,q,r,t⟩:=s;exact adh d e f g o p q r t) (0,0,(0:Int),0,([]:List Int)))) (fun a=>by obtain ⟨k,u,l⟩:=a;exact Sg.cut 1 ur (Sg.seg (C:=C0) ap nL 60 ((((pN.drop 2).drop 3).drop 1).take 1) (adi (k,u,l)) (AN k l) OZ pk [⟨[],[],[4]⟩] (by kernel_rfl)) (fun a=>by obtain ⟨m,n⟩:=a;exact Sg.seg (C:=C0) ap nL 60 ((((pN.drop 2).drop 3).drop 1).drop 1) (OZ (m,n)) (O0 m n) (fun a:Empty=>a.elim) pk [⟨[],[],[4]⟩] (by kernel_rfl))))))
    (fun x=>by cases x with | r0 v w=>exact ⟨.inr rfl,[.imm .free (.ns .u64 v) 1 1 0 w],[],by kernel_rfl,trivial,by kernel_rfl⟩) h
def rb:Option gn→Bool
  | some _=>true
  | none=>false
def dj:Option gn→List Int
  | some (.r0 x _)=>x
  | _=>[]
def dk:Option gn→Nat
  | some (.r0 _ x)=>x
  | _=>0
theorem agK{x:Option gn}(h:rb x=true) :x=some (.r0 (dj x) (dk x)):=by
  unfold rb at h
  split at h <;> first | rfl | (cases h;done) | (rename_i y;cases y;rfl)
def Xs:aL:=cn oZ (.cons (.ns .u64) (.cons (.ns .u64) .nil)) fun t=>[⟨L4 (.r0 (dj (bT t.1.2 t.2.1.2)) (dk (bT t.1.2 t.2.1.2))),[rb (bT t.1.2 t.2.1.2)]⟩]
theorem abm:aV prog Xs:=aP fun t=>(aQ (fun h=>agJ t.1.1 t.1.2 t.2.1.1 t.2.1.2 (agK h)) ba)
def Xt:List aL:=Xs :: Xr
theorem iw:bf prog (bi Xt):=aw abm nL
inductive eu where
  | r0 (a:List Int) (b:Nat)
def jd:eu→AE×aM
  | .r0 a b=>(.ret,⟨an 71 [(4,.imm .free (.ns .u64 a) 1 1 0 b)],[],0⟩)
theorem jJ:l9 jd:=by intro x;cases x <;> (intro h;cases h)
theorem Jx(id:Nat) :rL id jd:=by intro x;cases x <;> (intro h;cases h)
def L5:eu→jv
  | .r0 a b=>⟨.imm .free (.ns .u64 a) 1 1 0 b,[]⟩
def pO:List Code:=bS (bB o0)
def Tg:(List Int)×Nat×(List Int)×Nat→aM:=fun (a,b,c,d)=>⟨an 71 [(5,.imm .free (.ns .u64 a) 1 1 0 b),(6,.imm .free (.ns .u64 c) 1 1 0 d)],[],0⟩
def G7(a:List Int)(b:List Int) :T (((List Int)×Nat×(List Int)×Nat)⊕(eu)) :=
  .need (aR 0 (List.length a) a)<|.need (mI (dn (aa 0 (List.length a) a)))<|.need (aR 0 (List.length b) b)<|.need (mI (dn (aa 0 (List.length b) b)))<|.leaf (.inl ((lC (dn (aa 0 (List.length a) a))),(lB (dn (aa 0 (List.length a) a))),(lC (dn (aa 0 (List.length b) b))),(lB (dn (aa 0 (List.length b) b)))))
def Th(b:List Int)(c:Nat)(d:List Int)(e:Nat) :Nat×(List Int)→aM:=fun (a,f)=>⟨an 71 [(5,.imm .free (.ns .u64 b) 1 1 0 c),(6,.imm .free (.ns .u64 d) 1 1 0 e),(7,.sl 0 1 1 0 a a),(8,.int .i64 (0:Int))],[(0,.ns .u64 f)],1⟩
def AO(a:Nat)(b:Nat) :T ((Nat×(List Int))⊕(eu)) :=
  .need (ej .i64 (((a+b):Nat):Int))<|.need (ej .i64 ((((a+b)+1):Nat):Int))<|.need (decide ((0:Int)≤((((a+b)+1):Nat):Int)))<|.need (decide (((((a+b)+1):Nat):Int)≤((((a+b)+1):Nat):Int)))<|.need (decide ((8:Int) * ((((a+b)+1):Nat):Int)≤140737488355328))<|.need (ej .i64 ((((a+b)+1):Nat):Int))<|.leaf (.inl (((a+b)+1),(List.replicate ((a+b)+1) (0:Int))))
def sq(b:List Int)(c:Nat)(d:List Int)(e:Nat)(a:Nat) :Nat×(List Int)→aM:=fun (f,g)=>⟨an 71 [(5,.imm .free (.ns .u64 b) 1 1 0 c),(6,.imm .free (.ns .u64 d) 1 1 0 e),(7,.sl 0 1 1 0 a a),(8,.int .i64 ((f:Nat):Int))],[(0,.ns .u64 g)],1⟩
def lg(a:Nat)(b:(List Int)) :aM:=⟨an 71 [(7,.sl 0 1 1 0 a a)],[(0,.ns .u64 b)],1⟩
def su:List Code:=bS (bW (((((pO.drop 2).drop 2).take 1)).headD .skip))
def O1(b:List Int)(c:Nat)(d:List Int)(e:Nat)(a:Nat)(f:Nat)(g:List Int)(_:Unit) :aM:=⟨an 71 [(5,.imm .free (.ns .u64 b) 1 1 0 c),(6,.imm .free (.ns .u64 d) 1 1 0 e),(7,.sl 0 1 1 0 a a),(8,.int .i64 ((f:Nat):Int))],[(0,.ns .u64 g)],1⟩
def AP(a:Nat)(b:Nat)(c:List Int) :T ((Unit)⊕(((List Int))⊕(eu))) :=
  .ask (decide (((b:Nat):Int) < ((a:Nat):Int)))
    (.leaf (.inl ()))
    (.leaf (.inr (.inl c)))
def pP(b:List Int)(c:Nat)(d:List Int)(e:Nat)(a:Nat)(f:Nat)(g:(List Int)) :aM:=⟨an 71 [(5,.imm .free (.ns .u64 b) 1 1 0 c),(6,.imm .free (.ns .u64 d) 1 1 0 e),(7,.sl 0 1 1 0 a a),(8,.int .i64 ((f:Nat):Int))],[(0,.ns .u64 g)],1⟩
def vm:List Code:=bS (inBlock ((((su.drop 2).take 1)).headD .skip))
def O2(b:List Int)(c:Nat)(d:List Int)(e:Nat)(a:Nat)(f:Nat)(g:List Int)(_:Unit) :aM:=⟨an 71 [(5,.imm .free (.ns .u64 b) 1 1 0 c),(6,.imm .free (.ns .u64 d) 1 1 0 e),(7,.sl 0 1 1 0 a a),(8,.int .i64 ((f:Nat):Int)),(9,.int .u64 (0:Int)),(10,.int .i64 (0:Int))],[(0,.ns .u64 g)],1⟩
def O3:T ((Unit)⊕(((List Int))⊕(((List Int))⊕(eu)))) :=
  .leaf (.inl ())
def sv(b:List Int)(c:Nat)(d:List Int)(e:Nat)(a:Nat)(f:Nat) :Int×Nat×(List Int)→aM:=fun (g,h,i)=>⟨an 71 [(5,.imm .free (.ns .u64 b) 1 1 0 c),(6,.imm .free (.ns .u64 d) 1 1 0 e),(7,.sl 0 1 1 0 a a),(8,.int .i64 ((f:Nat):Int)),(9,.int .u64 g),(10,.int .i64 ((h:Nat):Int))],[(0,.ns .u64 i)],1⟩
def AQ(b:List Int)(c:Nat)(d:List Int)(e:Nat)(a:Nat)(f:Nat) :Int×(List Int)→aM:=fun (g,h)=>⟨an 71 [(5,.imm .free (.ns .u64 b) 1 1 0 c),(6,.imm .free (.ns .u64 d) 1 1 0 e),(7,.sl 0 1 1 0 a a),(8,.int .i64 ((f:Nat):Int)),(9,.int .u64 g)],[(0,.ns .u64 h)],1⟩
def O4:List Code:=bS (bW ((((vm.drop 2).take 1)).headD .skip))
def vn(d:List Int)(i:Nat)(e:List Int)(g:Nat)(h:Nat)(b:Nat)(f:Int)(a:Nat)(c:List Int) :T ((Int×Nat×(List Int))⊕((Int×(List Int))⊕(((List Int))⊕(((List Int))⊕(eu))))) :=
  .ask (decide (((a:Nat):Int) < ((g:Nat):Int)))
    (.need (ej .i64 (((b+a):Nat):Int))<|.need (iC (((b+a):Nat):Int) h)<|.need (jt (b+a) (List.length c))<|.need (iC ((b:Nat):Int) i)<|.need (jt b (List.length d))<|.need (iC ((a:Nat):Int) g)<|.need (jt a (List.length e))<|.need (ej .i64 (((b+a):Nat):Int))<|.need ((4294967296:Int) != (0:Int))<|.need (iC (((b+a):Nat):Int) h)<|.need (jt (b+a) (List.length c))<|.need ((4294967296:Int) != (0:Int))<|.need (ej .i64 (((a+1):Nat):Int))<|.leaf (.inl ((IntKind.u64.wrap (Int.tdiv (IntKind.u64.wrap ((IntKind.u64.wrap ((List.getD c (b+a) 0)+(IntKind.u64.wrap ((List.getD d b 0) * (List.getD e a 0)))))+f)) (4294967296:Int))),(a+1),(List.set c (b+a) (Int.tmod (IntKind.u64.wrap ((IntKind.u64.wrap ((List.getD c (b+a) 0)+(IntKind.u64.wrap ((List.getD d b 0) * (List.getD e a 0)))))+f)) (4294967296:Int))))))
    (.leaf (.inr (.inl (f,c))))
def G8(a:List Int)(b:Nat)(c:List Int)(d:Nat)(e:Nat)(f:Nat) :Int×Nat×(List Int)→Option ((Int×Nat×(List Int))⊕((Int×(List Int))⊕(((List Int))⊕(((List Int))⊕(eu))))):=fun (g,h,i) =>
  (vn a b c d e f g h i).run
theorem adj(b:List Int)(c:Nat)(d:List Int)(e:Nat)(a:Nat)(f:Nat)(g:Int)(h:Nat)(i:List Int) :Sg prog [] O4 (sv b c d e a f (g,h,i)) (G8 b c d e a f (g,h,i)) (sv b c d e a f) (aS 2 (AQ b c d e a f) (aS 1 (pP b c d e a f) (aS 0 (lg a) jd))):=by
  unfold G8;exact Sg.seg (C:=C0) ap iw 60 O4 (sv b c d e a f (g,h,i)) (vn b c d e a f g h i) (sv b c d e a f) (aS 2 (AQ b c d e a f) (aS 1 (pP b c d e a f) (aS 0 (lg a) jd))) [⟨[],[0],[5,6,7,8,9,10]⟩,⟨[],[0],[5,6,7,8,9]⟩] (by kernel_rfl)
def adk(a:List Int)(b:Nat)(c:List Int)(d:Nat)(e:Nat)(f:Nat) :Int×(List Int)→aM:=AQ a b c d e f
def AR(a:Nat)(d:Nat)(b:Nat)(e:Int)(c:List Int) :T (((List Int))⊕(((List Int))⊕(((List Int))⊕(eu)))) :=
  .need (ej .i64 (((b+a):Nat):Int))<|.need (iC (((b+a):Nat):Int) d)<|.need (jt (b+a) (List.length c))<|.leaf (.inl (List.set c (b+a) e))
def adl(a:List Int)(b:Nat)(c:List Int)(d:Nat)(e:Nat)(f:Nat) :(List Int)→aM:=pP a b c d e f
def O5(a:Nat)(b:List Int) :T ((Nat×(List Int))⊕(((List Int))⊕(eu))) :=
  .need (ej .i64 (((a+1):Nat):Int))<|.leaf (.inl ((a+1),b))
def G9(f:List Int)(b:Nat)(g:List Int)(c:Nat)(d:Nat) :Nat×(List Int)→Option ((Nat×(List Int))⊕(((List Int))⊕(eu))):=fun (a,e) =>
  aH ((AP b a e).run) fun _ =>
  aH (Sf (aH ((O3).run) fun _ =>
  aH (eh (G8 f b g c d a) ((0:Int),0,e)) fun (h,i) =>
  (AR c d a h i).run)) fun j =>
  (O5 a j).run
theorem adm(f:List Int)(c:Nat)(g:List Int)(d:Nat)(b:Nat)(e:Nat)(h:List Int) :Sg prog [] su (sq f c g d b (e,h)) (G9 f c g d b (e,h)) (sq f c g d b) (aS 0 (lg b) jd):=by
  unfold G9;exact Sg.cut 2 (aN jJ) (Sg.seg (C:=C0) ap iw 60 (su.take 2) (sq f c g d b (e,h)) (AP c e h) (O1 f c g d b e h) (aS 0 (lg b) jd) [⟨[],[0],[5,6,7,8]⟩,⟨[],[0],[7]⟩] (by kernel_rfl)) (fun a=>by cases a;exact Sg.cut 1 (aN jJ) (D1 (id:=1) (K:=(pP f c g d b e)) (by kernel_rfl:((su.drop 2).take 1) = [.block 1 (inBlock ((((su.drop 2).take 1)).headD .skip))]) (aN jJ) (gL (by decide) (Jx _)) (Sg.cut 2 (aN (aN jJ)) (Sg.seg (C:=C0) ap iw 60 (vm.take 2) (O1 f c g d b e h ()) (O3) (O2 f c g d b e h) (aS 1 (pP f c g d b e) (aS 0 (lg b) jd)) [⟨[],[0],[5,6,7,8,9,10]⟩] (by kernel_rfl)) (fun a=>by cases a;exact Sg.cut 1 (aN (aN jJ)) (Sg.pre ⟨[],[0],[5,6,7,8,9,10]⟩ rfl (by kernel_rfl:NS.on ⟨[],[0],[5,6,7,8,9,10]⟩ (O2 f c g d b e h ())=(sv f c g d b e) ((0:Int),0,h)) (cw (I:=(sv f c g d b e)) (J:=(AQ f c g d b e)) (id:=2) (by kernel_rfl:((vm.drop 2).take 1) = [.block 2 (.loop (bW ((((vm.drop 2).take 1)).headD .skip)))]) (aN (aN jJ)) (gL (by decide) (gL (by decide) (Jx _))) (fun s=>by obtain ⟨l,m,n⟩:=s;exact adj f c g d b e l m n) ((0:Int),0,h))) (fun a=>by obtain ⟨i,j⟩:=a;exact Sg.seg (C:=C0) ap iw 60 ((vm.drop 2).drop 1) (adk f c g d b e (i,j)) (AR d b e i j) (pP f c g d b e) (aS 1 (pP f c g d b e) (aS 0 (lg b) jd)) [⟨[],[0],[5,6,7,8]⟩] (by kernel_rfl))))) (fun k=>by exact Sg.seg (C:=C0) ap iw 60 ((su.drop 2).drop 1) (adl f c g d b e k) (O5 e k) (sq f c g d b) (aS 0 (lg b) jd) [⟨[],[0],[5,6,7,8]⟩] (by kernel_rfl)))
def adn(a:Nat) :(List Int)→aM:=lg a
def O6:(List Int)×Nat→aM:=fun (a,b)=>⟨an 71 [(4,.imm .free (.ns .u64 a) 1 1 0 b)],[],0⟩
def Ha(a:Nat)(b:List Int) :T (((List Int)×Nat)⊕(eu)) :=
  .need (aR 0 a b)<|.need (sk (fQ (aa 0 a b)))<|.leaf (.inl ((rU (fQ (aa 0 a b))),(rV (fQ (aa 0 a b)))))
def O7(a:List Int)(b:Nat) :T ((Empty)⊕(eu)) :=
  .leaf (.inr (.r0 a b))
def dA(d:List Int)(e:List Int) :Option eu:=me (aH ((G7 d e).run) fun (f,a,g,b) =>
  aH ((AO a b).run) fun (c,h) =>
  aH (eh (G9 f a g b c) (0,h)) fun i =>
  aH ((Ha c i).run) fun (j,k) =>
  (O7 j k).run)
theorem agL(k:Lv)(e:List Int)(l:Lv)(f:List Int){x:eu}(h:dA e f=some x) :ax prog o0 [] [.imm k (.ns .u64 e) 1 1 0 (List.length e),.imm l (.ns .u64 f) 1 1 0 (List.length f)] (L5 x) :=
  Sg.contract true L5 (by kernel_rfl:prog.funcs[o0]? = some (FN o0)) (by kernel_rfl:(FN o0).body=some (bB o0)) (Sg.cut 2 jJ (Sg.seg (C:=C0) ap iw 60 (pO.take 2) (aT (FN o0) [] [.imm k (.ns .u64 e) 1 1 0 (List.length e),.imm l (.ns .u64 f) 1 1 0 (List.length f)]) (G7 e f) Tg jd [⟨[],[],[5,6]⟩] (by kernel_rfl)) (fun a=>by obtain ⟨g,b,i,c⟩:=a;exact Sg.cut 2 jJ (Sg.seg (C:=C0) ap iw 60 ((pO.drop 2).take 2) (Tg (g,b,i,c)) (AO b c) (Th g b i c) jd [⟨[],[96],[5,6,7,8]⟩] (by kernel_rfl)) (fun a=>by obtain ⟨d,j⟩:=a;exact Sg.cut 1 jJ (Sg.pre ⟨[],[0],[5,6,7,8]⟩ rfl (by kernel_rfl:NS.on ⟨[],[0],[5,6,7,8]⟩ (Th g b i c (d,j))=(sq g b i c d) (0,j)) (cw (I:=(sq g b i c d)) (J:=(lg d)) (id:=0) (by kernel_rfl:(((pO.drop 2).drop 2).take 1) = [.block 0 (.loop (bW (((((pO.drop 2).drop 2).take 1)).headD .skip)))]) jJ (Jx _) (fun s=>by obtain ⟨p,q⟩:=s;exact adm g b i c d p q) (0,j))) (fun m=>by exact Sg.cut 1 jJ (Sg.seg (C:=C0) ap iw 60 ((((pO.drop 2).drop 2).drop 1).take 1) (adn d m) (Ha d m) O6 jd [⟨[],[],[4]⟩] (by kernel_rfl)) (fun a=>by obtain ⟨n,o⟩:=a;exact Sg.seg (C:=C0) ap iw 60 ((((pO.drop 2).drop 2).drop 1).drop 1) (O6 (n,o)) (O7 n o) (fun a:Empty=>a.elim) jd [⟨[],[],[4]⟩] (by kernel_rfl))))))
    (fun x=>by cases x with | r0 r t=>exact ⟨.inr rfl,[.imm .free (.ns .u64 r) 1 1 0 t],[],by kernel_rfl,trivial,by kernel_rfl⟩) h
def uu:Option eu→Bool
  | some _=>true
  | none=>false
def gp:Option eu→List Int
  | some (.r0 x _)=>x
  | _=>[]
def gq:Option eu→Nat
  | some (.r0 _ x)=>x
  | _=>0
theorem agM{x:Option eu}(h:uu x=true) :x=some (.r0 (gp x) (gq x)):=by
  unfold uu at h
  split at h <;> first | rfl | (cases h;done) | (rename_i y;cases y;rfl)
def Xu:aL:=cn o0 (.cons (.ns .u64) (.cons (.ns .u64) .nil)) fun t=>[⟨L5 (.r0 (gp (dA t.1.2 t.2.1.2)) (gq (dA t.1.2 t.2.1.2))),[uu (dA t.1.2 t.2.1.2)]⟩]
theorem abn:aV prog Xu:=aP fun t=>(aQ (fun h=>agL t.1.1 t.1.2 t.2.1.1 t.2.1.2 (agM h)) ba)
def Xv:List aL:=Xu :: Xt
theorem L6:bf prog (bi Xv):=aw abn iw
inductive mJ where
  | r0 (a:Nat) (b:List Int)
def agN:mJ→AE×aM
  | .r0 a b=>(.ret,⟨an 17 [(2,.sl 0 1 1 0 a a)],[(0,.ns .u64 b)],1⟩)
def Jy:mJ→jv
  | .r0 a b=>⟨.imm .free (.ns .u64 b) 1 1 0 a,[]⟩
def ado:List Code:=bS (bB mD)
def Hb(a:Int) :T ((Empty)⊕(mJ)) :=
  .need ((64:Int) != (0:Int))<|.need (ej .i64 (Int.tdiv a (64:Int)))<|.need (ej .i64 ((Int.tdiv a (64:Int))+(1:Int)))<|.need (decide ((0:Int)≤((Int.tdiv a (64:Int))+(1:Int))))<|.need (decide (((Int.tdiv a (64:Int))+(1:Int))≤((Int.tdiv a (64:Int))+(1:Int))))<|.need (decide ((8:Int) * ((Int.tdiv a (64:Int))+(1:Int))≤140737488355328))<|.need (ej .i64 ((Int.tdiv a (64:Int))+(1:Int)))<|.need ((64:Int) != (0:Int))<|.need (ej .i64 (Int.tdiv a (64:Int)))<|.need ((64:Int) != (0:Int))<|.need (decide ((0:Int)≤(IntKind.u64.wrap (Int.tmod a (64:Int)))))<|.need (iC (Int.tdiv a (64:Int)) (Int.toNat ((Int.tdiv a (64:Int))+(1:Int))))<|.need (jt (Int.toNat (Int.tdiv a (64:Int))) (List.length (List.replicate (Int.toNat ((Int.tdiv a (64:Int))+(1:Int))) (0:Int))))<|.leaf (.inr (.r0 (Int.toNat ((Int.tdiv a (64:Int))+(1:Int))) (List.set (List.replicate (Int.toNat ((Int.tdiv a (64:Int))+(1:Int))) (0:Int)) (Int.toNat (Int.tdiv a (64:Int))) (IntKind.u64.wrap ((1:Int) * 2 ^ (min (Int.toNat (IntKind.u64.wrap (Int.tmod a (64:Int)))) (IntKind.u64.bits)))))))
def fR(a:Int) :Option mJ:=me ((Hb a).run)
theorem adp(b:Int){x:mJ}(h:fR b=some x) :ax prog mD [] [.int .i64 b] (Jy x) :=
  Sg.contract true Jy (by kernel_rfl:prog.funcs[mD]? = some (FN mD)) (by kernel_rfl:(FN mD).body=some (bB mD)) (Sg.seg (C:=C0) ap L6 60 ado (aT (FN mD) [] [.int .i64 b]) (Hb b) (fun a:Empty=>a.elim) agN [⟨[],[64],[2]⟩] (by kernel_rfl))
    (fun x=>by cases x with | r0 c d=>exact ⟨.inr rfl,[.sl 0 1 1 0 c c],[],by kernel_rfl,trivial,by kernel_rfl⟩) h
def vo:Option mJ→Bool
  | some _=>true
  | none=>false
def l5:Option mJ→Nat
  | some (.r0 x _)=>x
  | _=>0
def l6:Option mJ→List Int
  | some (.r0 _ x)=>x
  | _=>[]
theorem adq{x:Option mJ}(h:vo x=true) :x=some (.r0 (l5 x) (l6 x)):=by
  unfold vo at h
  split at h <;> first | rfl | (cases h;done) | (rename_i y;cases y;rfl)
def Ti:aL:=cn mD (.cons (.int .i64) .nil) fun t=>[⟨Jy (.r0 (l5 (fR t.1)) (l6 (fR t.1))),[vo (fR t.1)]⟩]
theorem YC:aV prog Ti:=aP fun t=>(aQ (fun h=>adp t.1 (adq h)) ba)
def Tj:List aL:=Ti :: Xv
theorem Ck:bf prog (bi Tj):=aw YC L6
inductive m6 where
  | r0 (a:List Int) (b:Nat)
def L7:m6→AE×aM
  | .r0 a b=>(.ret,⟨an 9 [(4,.imm .free (.ns .u64 a) 1 1 0 b)],[],0⟩)
theorem agO:l9 L7:=by intro x;cases x <;> (intro h;cases h)
def L8:m6→jv
  | .r0 a b=>⟨.imm .free (.ns .u64 a) 1 1 0 b,[]⟩
def Tk:List Code:=bS (bB o9)
def Tl:(List Int)×Nat→aM:=fun (a,b)=>⟨an 9 [(4,.imm .free (.ns .u64 a) 1 1 0 b)],[],0⟩
def Jz(b:List Int)(a:Int) :T (((List Int)×Nat)⊕(m6)) :=
  .need (vo (fR a))<|.need (aR 0 (List.length b) b)<|.need (aR 0 (l5 (fR a)) (l6 (fR a)))<|.need (uu (dA (aa 0 (List.length b) b) (aa 0 (l5 (fR a)) (l6 (fR a)))))<|.leaf (.inl ((gp (dA (aa 0 (List.length b) b) (aa 0 (l5 (fR a)) (l6 (fR a))))),(gq (dA (aa 0 (List.length b) b) (aa 0 (l5 (fR a)) (l6 (fR a)))))))
def Tm(a:List Int)(b:Nat) :T ((Empty)⊕(m6)) :=
  .leaf (.inr (.r0 a b))
def je(a:List Int)(b:Int) :Option m6:=me (aH ((Jz a b).run) fun (c,d) =>
  (Tm c d).run)
theorem agP(d:Lv)(b:List Int)(c:Int){x:m6}(h:je b c=some x) :ax prog o9 [] [.imm d (.ns .u64 b) 1 1 0 (List.length b),.int .i64 c] (L8 x) :=
  Sg.contract true L8 (by kernel_rfl:prog.funcs[o9]? = some (FN o9)) (by kernel_rfl:(FN o9).body=some (bB o9)) (Sg.cut 2 agO (Sg.seg (C:=C0) ap Ck 60 (Tk.take 2) (aT (FN o9) [] [.imm d (.ns .u64 b) 1 1 0 (List.length b),.int .i64 c]) (Jz b c) Tl L7 [⟨[],[],[4]⟩] (by kernel_rfl)) (fun a=>by obtain ⟨e,f⟩:=a;exact Sg.seg (C:=C0) ap Ck 60 (Tk.drop 2) (Tl (e,f)) (Tm e f) (fun a:Empty=>a.elim) L7 [⟨[],[],[4]⟩] (by kernel_rfl)))
    (fun x=>by cases x with | r0 g i=>exact ⟨.inr rfl,[.imm .free (.ns .u64 g) 1 1 0 i],[],by kernel_rfl,trivial,by kernel_rfl⟩) h
def yi:Option m6→Bool
  | some _=>true
  | none=>false
def yj:Option m6→List Int
  | some (.r0 x _)=>x
  | _=>[]
def yk:Option m6→Nat
  | some (.r0 _ x)=>x
  | _=>0
theorem agQ{x:Option m6}(h:yi x=true) :x=some (.r0 (yj x) (yk x)):=by
  unfold yi at h
  split at h <;> first | rfl | (cases h;done) | (rename_i y;cases y;rfl)
def Xw:aL:=cn o9 (.cons (.ns .u64) (.cons (.int .i64) .nil)) fun t=>[⟨L8 (.r0 (yj (je t.1.2 t.2.1)) (yk (je t.1.2 t.2.1))),[yi (je t.1.2 t.2.1)]⟩]
theorem abo:aV prog Xw:=aP fun t=>(aQ (fun h=>agP t.1.1 t.1.2 t.2.1 (agQ h)) ba)
def Xx:List aL:=Xw :: Tj
theorem tp:bf prog (bi Xx):=aw abo Ck
inductive iO where
  | r0 (a:Int)
def rc:iO→AE×aM
  | .r0 a=>(.ret,⟨an 27 [(2,.int .i64 a)],[],0⟩)
theorem AS:l9 rc:=by intro x;cases x <;> (intro h;cases h)
theorem adr(id:Nat) :rL id rc:=by intro x;cases x <;> (intro h;cases h)
def JA:iO→jv
  | .r0 a=>⟨.int .i64 a,[]⟩
def sw:List Code:=bS (bB mB)
def O8:(List Int)×Nat→aM:=fun (a,b)=>⟨an 27 [(0,.imm .free (.ns .u64 a) 1 1 0 b)],[],0⟩
def AT(a:List Int) :T (((List Int)×Nat)⊕(iO)) :=
  .need (aR 0 (List.length a) a)<|.need (lf (cY (aa 0 (List.length a) a)))<|.leaf (.inl ((kd (cY (aa 0 (List.length a) a))),(ka (cY (aa 0 (List.length a) a)))))
def O9:Int×Int→aM:=fun (a,b)=>⟨an 27 [(3,.int .i64 a),(4,.int .u64 b)],[],0⟩
def AU(b:List Int)(a:Nat) :T ((Int×Int)⊕(iO)) :=
  .ask (((a:Nat):Int) == (0:Int))
    (.leaf (.inr (.r0 (0:Int))))
    (.need (ej .i64 (((a:Nat):Int) - (1:Int)))<|.need (ej .i64 ((64:Int) * (((a:Nat):Int) - (1:Int))))<|.need (ej .i64 (((a:Nat):Int) - (1:Int)))<|.need (iC (((a:Nat):Int) - (1:Int)) a)<|.need (jt (Int.toNat (((a:Nat):Int) - (1:Int))) (List.length b))<|.leaf (.inl (((64:Int) * (((a:Nat):Int) - (1:Int))),(List.getD b (Int.toNat (((a:Nat):Int) - (1:Int))) 0))))
def sA:Int×Int→aM:=fun (a,b)=>⟨an 27 [(3,.int .i64 a),(4,.int .u64 b)],[],0⟩
def AW(a:Int) :aM:=⟨an 27 [(3,.int .i64 a)],[],0⟩
def L9:List Code:=bS (bW (((((sw.drop 2).drop 4).take 1)).headD .skip))
def tq(a:Int)(b:Int) :T ((Int×Int)⊕((Int)⊕(iO))) :=
  .ask (decide (b > (0:Int)))
    (.need (ej .i64 (a+(1:Int)))<|.need ((2:Int) != (0:Int))<|.leaf (.inl ((a+(1:Int)),(IntKind.u64.wrap (Int.tdiv b (2:Int))))))
    (.leaf (.inr (.inl a)))
def Ex:Int×Int→Option ((Int×Int)⊕((Int)⊕(iO))):=fun (a,b) =>
  (tq a b).run
theorem abp(a:Int)(b:Int) :Sg prog [] L9 (sA (a,b)) (Ex (a,b)) sA (aS 0 AW rc):=by
  unfold Ex;exact Sg.seg (C:=C0) ap tp 60 L9 (sA (a,b)) (tq a b) sA (aS 0 AW rc) [⟨[],[],[3,4]⟩,⟨[],[],[3]⟩] (by kernel_rfl)
def ads:Int→aM:=AW
def Ma(a:Int) :T ((Empty)⊕(iO)) :=
  .leaf (.inr (.r0 a))
def pm(a:List Int) :Option iO:=me (aH ((AT a).run) fun (b,c) =>
  aH ((AU b c).run) fun (d,e) =>
  aH (eh (Ex) (d,e)) fun f =>
  (Ma f).run)
theorem adt(e:Lv)(b:List Int){x:iO}(h:pm b=some x) :ax prog mB [] [.imm e (.ns .u64 b) 1 1 0 (List.length b)] (JA x) :=
  Sg.contract true JA (by kernel_rfl:prog.funcs[mB]? = some (FN mB)) (by kernel_rfl:(FN mB).body=some (bB mB)) (Sg.cut 2 AS (Sg.seg (C:=C0) ap tp 60 (sw.take 2) (aT (FN mB) [] [.imm e (.ns .u64 b) 1 1 0 (List.length b)]) (AT b) O8 rc [⟨[],[],[0]⟩] (by kernel_rfl)) (fun a=>by obtain ⟨f,g⟩:=a;exact Sg.cut 4 AS (Sg.seg (C:=C0) ap tp 60 ((sw.drop 2).take 4) (O8 (f,g)) (AU f g) O9 rc [⟨[],[],[2]⟩,⟨[],[],[3,4]⟩] (by kernel_rfl)) (fun a=>by obtain ⟨c,d⟩:=a;exact Sg.cut 1 AS (Sg.pre ⟨[],[],[3,4]⟩ rfl (by kernel_rfl:NS.on ⟨[],[],[3,4]⟩ (O9 (c,d))=(sA) (c,d)) (cw (I:=(sA)) (J:=(AW)) (id:=0) (by kernel_rfl:(((sw.drop 2).drop 4).take 1) = [.block 0 (.loop (bW (((((sw.drop 2).drop 4).take 1)).headD .skip)))]) AS (adr _) (fun s=>by obtain ⟨j,k⟩:=s;exact abp j k) (c,d))) (fun i=>by exact Sg.seg (C:=C0) ap tp 60 (((sw.drop 2).drop 4).drop 1) (ads i) (Ma i) (fun a:Empty=>a.elim) rc [⟨[],[],[2]⟩] (by kernel_rfl)))))
    (fun x=>by cases x with | r0 l=>exact ⟨.inr rfl,[.int .i64 l],[],by kernel_rfl,trivial,by kernel_rfl⟩) h
def vp:Option iO→Bool
  | some _=>true
  | none=>false
def wh:Option iO→Int
  | some (.r0 x)=>x
  | _=>0
theorem adu{x:Option iO}(h:vp x=true) :x=some (.r0 (wh x)):=by
  unfold vp at h
  split at h <;> first | rfl | (cases h;done) | (rename_i y;cases y;rfl)
def Tn:aL:=cn mB (.cons (.ns .u64) .nil) fun t=>[⟨JA (.r0 (wh (pm t.1.2))),[vp (pm t.1.2)]⟩]
theorem YD:aV prog Tn:=aP fun t=>(aQ (fun h=>adt t.1.1 t.1.2 (adu h)) ba)
def To:List aL:=Tn :: Xx
theorem Cl:bf prog (bi To):=aw YD tp
inductive pn where
  | r0 (a:Bool)
def Mb:pn→AE×aM
  | .r0 a=>(.ret,⟨an 27 [(4,.bool false a)],[],0⟩)
theorem agR:l9 Mb:=by intro x;cases x <;> (intro h;cases h)
def Mc:pn→jv
  | .r0 a=>⟨.bool false a,[]⟩
def Tp:List Code:=bS (bB o7)
def Tq(a:Bool) :aM:=⟨an 27 [(4,.bool false a)],[],0⟩
def JB(b:List Int)(a:Int) :T ((Bool)⊕(pn)) :=
  .ask (decide (a ≥ (0:Int)))
    (.need ((64:Int) != (0:Int))<|.need (ej .i64 (Int.tdiv a (64:Int)))<|.ask (decide ((Int.tdiv a (64:Int)) < (((List.length b):Nat):Int)))
      (.need ((64:Int) != (0:Int))<|.need (ej .i64 (Int.tdiv a (64:Int)))<|.need (iC (Int.tdiv a (64:Int)) (List.length b))<|.need (jt (Int.toNat (Int.tdiv a (64:Int))) (List.length b))<|.need ((64:Int) != (0:Int))<|.need (decide ((0:Int)≤(IntKind.u64.wrap (Int.tmod a (64:Int)))))<|.need ((2:Int) != (0:Int))<|.leaf (.inl ((Int.tmod (Int.fdiv (List.getD b (Int.toNat (Int.tdiv a (64:Int))) 0) (2 ^ (min (Int.toNat (IntKind.u64.wrap (Int.tmod a (64:Int)))) (IntKind.u64.bits)))) (2:Int)) == (1:Int))))
      (.leaf (.inl false)))
    (.leaf (.inl false))
def Tr(a:Bool) :T ((Empty)⊕(pn)) :=
  .leaf (.inr (.r0 a))
def m7(a:List Int)(b:Int) :Option pn:=me (aH ((JB a b).run) fun c =>
  (Tr c).run)
theorem agS(d:Lv)(b:List Int)(c:Int){x:pn}(h:m7 b c=some x) :ax prog o7 [] [.imm d (.ns .u64 b) 1 1 0 (List.length b),.int .i64 c] (Mc x) :=
  Sg.contract true Mc (by kernel_rfl:prog.funcs[o7]? = some (FN o7)) (by kernel_rfl:(FN o7).body=some (bB o7)) (Sg.cut 2 agR (Sg.seg (C:=C0) ap Cl 60 (Tp.take 2) (aT (FN o7) [] [.imm d (.ns .u64 b) 1 1 0 (List.length b),.int .i64 c]) (JB b c) Tq Mb [⟨[],[],[4]⟩,⟨[],[],[4]⟩,⟨[],[],[4]⟩] (by kernel_rfl)) (fun e=>by exact Sg.seg (C:=C0) ap Cl 60 (Tp.drop 2) (Tq e) (Tr e) (fun a:Empty=>a.elim) Mb [⟨[],[],[4]⟩] (by kernel_rfl)))
    (fun x=>by cases x with | r0 f=>exact ⟨.inr rfl,[.bool false f],[],by kernel_rfl,trivial,by kernel_rfl⟩) h
def re:Option pn→Bool
  | some _=>true
  | none=>false
def qj:Option pn→Bool
  | some (.r0 x)=>x
  | _=>false
theorem agT{x:Option pn}(h:re x=true) :x=some (.r0 (qj x)):=by
  unfold re at h
  split at h <;> first | rfl | (cases h;done) | (rename_i y;cases y;rfl)
def Xy:aL:=cn o7 (.cons (.ns .u64) (.cons (.int .i64) .nil)) fun t=>[⟨Mc (.r0 (qj (m7 t.1.2 t.2.1))),[re (m7 t.1.2 t.2.1)]⟩]
theorem abq:aV prog Xy:=aP fun t=>(aQ (fun h=>agS t.1.1 t.1.2 t.2.1 (agT h)) ba)
def Xz:List aL:=Xy :: To
theorem gr:bf prog (bi Xz):=aw abq Cl
end
end Go.Plb.Seat
namespace Go.Plb.Seat
open Go Go.Plb
set_option linter.unusedVariables false
set_option maxRecDepth 100000
noncomputable section
inductive dN where
  | r0 (a:List Int) (b:Nat) (c:Bool)
def ig:dN→AE×aM
  | .r0 a b c=>(.ret,⟨an 68 [(4,.imm .free (.ns .u64 a) 1 1 0 b),(5,.bool false c)],[],0⟩)
theorem jK:l9 ig:=by intro x;cases x <;> (intro h;cases h)
theorem Ts(id:Nat) :rL id ig:=by intro x;cases x <;> (intro h;cases h)
def Md:dN→jv
  | .r0 a b c=>⟨.tup [.imm .free (.ns .u64 a) 1 1 0 b,.bool false c],[]⟩
def iy:List Code:=bS (bB oT)
def Tt(b:Lv)(a:List Int)(c:Int) :Bool×Int→aM:=fun (d,e)=>⟨an 68 [(0,.imm b (.ns .u64 a) 1 1 0 (List.length a)),(1,.int .i64 c),(6,.bool false d),(7,.int .i64 e)],[],0⟩
def AX(a:List Int) :T ((Bool×Int)⊕(dN)) :=
  .need (aR 0 (List.length a) a)<|.need (vp (pm (aa 0 (List.length a) a)))<|.leaf (.inl (false,(wh (pm (aa 0 (List.length a) a)))))
def Tu(b:Lv)(a:List Int)(c:Int)(d:Bool)(e:Int)(_:Unit) :aM:=⟨an 68 [(0,.imm b (.ns .u64 a) 1 1 0 (List.length a)),(1,.int .i64 c),(6,.bool false d),(7,.int .i64 e),(8,.int .i64 (0:Int))],[],0⟩
def Pa:T ((Unit)⊕(dN)) :=
  .leaf (.inl ())
def uv(b:Lv)(a:List Int)(c:Int)(d:Int) :Bool×Nat→aM:=fun (e,f)=>⟨an 68 [(0,.imm b (.ns .u64 a) 1 1 0 (List.length a)),(1,.int .i64 c),(6,.bool false e),(7,.int .i64 d),(8,.int .i64 ((f:Nat):Int))],[],0⟩
def uw(b:Lv)(a:List Int)(c:Int)(d:Int)(e:Bool) :aM:=⟨an 68 [(0,.imm b (.ns .u64 a) 1 1 0 (List.length a)),(1,.int .i64 c),(6,.bool false e),(7,.int .i64 d)],[],0⟩
def AY:List Code:=bS (bW (((((iy.drop 3).drop 1).take 1)).headD .skip))
def Tv(b:Lv)(a:List Int)(c:Int)(d:Int)(e:Bool)(f:Nat)(g:Bool) :aM:=⟨an 68 [(0,.imm b (.ns .u64 a) 1 1 0 (List.length a)),(1,.int .i64 c),(6,.bool false e),(7,.int .i64 d),(8,.int .i64 ((f:Nat):Int)),(20,.bool false g)],[],0⟩
def sB(b:Int)(c:Int)(a:Nat) :T ((Bool)⊕((Bool)⊕(dN))) :=
  .ask (decide (((a:Nat):Int) < b))
    (.leaf (.inl (decide (((a:Nat):Int) < c))))
    (.leaf (.inl false))
def Tw(b:Lv)(a:List Int)(c:Int)(d:Int)(e:Nat)(f:Bool) :aM:=⟨an 68 [(0,.imm b (.ns .u64 a) 1 1 0 (List.length a)),(1,.int .i64 c),(6,.bool false f),(7,.int .i64 d),(8,.int .i64 ((e:Nat):Int))],[],0⟩
def AZ(a:List Int)(b:Bool)(c:Nat)(d:Bool) :T ((Bool)⊕((Bool)⊕(dN))) :=
  .ask d
    (.ask b
      (.leaf (.inl true))
      (.need (aR 0 (List.length a) a)<|.need (re (m7 (aa 0 (List.length a) a) ((c:Nat):Int)))<|.leaf (.inl (qj (m7 (aa 0 (List.length a) a) ((c:Nat):Int))))))
    (.leaf (.inr (.inl b)))
def Pb(a:Nat)(b:Bool) :T ((Bool×Nat)⊕((Bool)⊕(dN))) :=
  .need (ej .i64 (((a+1):Nat):Int))<|.leaf (.inl (b,(a+1)))
def A0(b:List Int)(c:Int)(d:Int) :Bool×Nat→Option ((Bool×Nat)⊕((Bool)⊕(dN))):=fun (e,a) =>
  aH ((sB c d a).run) fun f =>
  aH ((AZ b e a f).run) fun g =>
  (Pb a g).run
theorem adv(d:Lv)(a:List Int)(b:Int)(c:Int)(f:Bool)(e:Nat) :Sg prog [] AY (uv d a b c (f,e)) (A0 a b c (f,e)) (uv d a b c) (aS 0 (uw d a b c) ig):=by
  unfold A0;exact Sg.cut 1 (aN jK) (Sg.seg (C:=C0) ap gr 60 (AY.take 1) (uv d a b c (f,e)) (sB b c e) (Tv d a b c f e) (aS 0 (uw d a b c) ig) [⟨[],[],[0,1,6,7,8,20]⟩,⟨[],[],[0,1,6,7,8,20]⟩] (by kernel_rfl)) (fun g=>by exact Sg.cut 2 (aN jK) (Sg.seg (C:=C0) ap gr 60 ((AY.drop 1).take 2) (Tv d a b c f e g) (AZ a f e g) (Tw d a b c e) (aS 0 (uw d a b c) ig) [⟨[],[],[0,1,6,7,8]⟩,⟨[],[],[0,1,6,7,8]⟩,⟨[],[],[0,1,6,7]⟩] (by kernel_rfl)) (fun h=>by exact Sg.seg (C:=C0) ap gr 60 ((AY.drop 1).drop 2) (Tw d a b c e h) (Pb e h) (uv d a b c) (aS 0 (uw d a b c) ig) [⟨[],[],[0,1,6,7,8]⟩] (by kernel_rfl)))
def adw(a:Lv)(b:List Int)(c:Int)(d:Int) :Bool→aM:=uw a b c d
def Pc(c:Lv)(a:List Int)(b:Int)(d:Int)(e:Bool)(f:(List Int)) :aM:=⟨an 68 [(0,.imm c (.ns .u64 a) 1 1 0 (List.length a)),(1,.int .i64 b),(6,.bool false e),(7,.int .i64 d),(9,.sl 0 1 1 0 (List.length a) (List.length a)),(10,.int .i64 b)],[(0,.ns .u64 f)],1⟩
def A1(a:List Int)(b:Int)(c:Int)(d:Bool) :T (((List Int))⊕(dN)) :=
  .ask (decide (b ≥ c))
    (.leaf (.inr (.r0 ([]:List Int) 0 d)))
    (.need (decide ((0:Int)≤(((List.length a):Nat):Int)))<|.need (decide ((((List.length a):Nat):Int)≤(((List.length a):Nat):Int)))<|.need (decide ((8:Int) * (((List.length a):Nat):Int)≤140737488355328))<|.need (ej .i64 (((List.length a):Nat):Int))<|.leaf (.inl (List.replicate (List.length a) (0:Int))))
def sC(b:Lv)(a:List Int)(c:Int)(d:Int)(e:Bool) :Int×(List Int)→aM:=fun (f,g)=>⟨an 68 [(0,.imm b (.ns .u64 a) 1 1 0 (List.length a)),(1,.int .i64 c),(6,.bool false e),(7,.int .i64 d),(9,.sl 0 1 1 0 (List.length a) (List.length a)),(10,.int .i64 f)],[(0,.ns .u64 g)],1⟩
def vq(a:List Int)(b:Bool)(c:(List Int)) :aM:=⟨an 68 [(6,.bool false b),(9,.sl 0 1 1 0 (List.length a) (List.length a))],[(0,.ns .u64 c)],1⟩
def Hc:List Code:=bS (bW (((((((iy.drop 3).drop 1).drop 1).drop 4).take 1)).headD .skip))
def Pd(b:Lv)(a:List Int)(c:Int)(d:Int)(e:Bool)(f:Int)(g:(List Int)) :aM:=⟨an 68 [(0,.imm b (.ns .u64 a) 1 1 0 (List.length a)),(1,.int .i64 c),(6,.bool false e),(7,.int .i64 d),(9,.sl 0 1 1 0 (List.length a) (List.length a)),(10,.int .i64 f)],[(0,.ns .u64 g)],1⟩
def vr(c:List Int)(b:Int)(e:Int)(a:Int)(d:List Int) :T (((List Int))⊕(((List Int))⊕(dN))) :=
  .ask (decide (a < e))
    (.need (aR 0 (List.length c) c)<|.need (re (m7 (aa 0 (List.length c) c) a))<|.ask (qj (m7 (aa 0 (List.length c) c) a))
      (.need (ej .i64 (a - b))<|.need ((64:Int) != (0:Int))<|.need (ej .i64 (Int.tdiv (a - b) (64:Int)))<|.need (ej .i64 (a - b))<|.need ((64:Int) != (0:Int))<|.need (ej .i64 (Int.tdiv (a - b) (64:Int)))<|.need (iC (Int.tdiv (a - b) (64:Int)) (List.length c))<|.need (jt (Int.toNat (Int.tdiv (a - b) (64:Int))) (List.length d))<|.need (ej .i64 (a - b))<|.need ((64:Int) != (0:Int))<|.need (decide ((0:Int)≤(IntKind.u64.wrap (Int.tmod (a - b) (64:Int)))))<|.need (iC (Int.tdiv (a - b) (64:Int)) (List.length c))<|.need (jt (Int.toNat (Int.tdiv (a - b) (64:Int))) (List.length d))<|.leaf (.inl (List.set d (Int.toNat (Int.tdiv (a - b) (64:Int))) (IntKind.u64.wrap ((List.getD d (Int.toNat (Int.tdiv (a - b) (64:Int))) 0)+(IntKind.u64.wrap ((1:Int) * 2 ^ (min (Int.toNat (IntKind.u64.wrap (Int.tmod (a - b) (64:Int)))) (IntKind.u64.bits)))))))))
      (.leaf (.inl d)))
    (.leaf (.inr (.inl d)))
def Pe(a:Int)(b:List Int) :T ((Int×(List Int))⊕(((List Int))⊕(dN))) :=
  .need (ej .i64 (a+(1:Int)))<|.leaf (.inl ((a+(1:Int)),b))
def Hd(b:List Int)(c:Int)(d:Int) :Int×(List Int)→Option ((Int×(List Int))⊕(((List Int))⊕(dN))):=fun (a,e) =>
  aH ((vr b c d a e).run) fun f =>
  (Pe a f).run
theorem adx(f:Lv)(a:List Int)(c:Int)(d:Int)(b:Bool)(e:Int)(g:List Int) :Sg prog [] Hc (sC f a c d b (e,g)) (Hd a c d (e,g)) (sC f a c d b) (aS 2 (vq a b) ig):=by
  unfold Hd;exact Sg.cut 3 (aN jK) (Sg.seg (C:=C0) ap gr 60 (Hc.take 3) (sC f a c d b (e,g)) (vr a c d e g) (Pd f a c d b e) (aS 2 (vq a b) ig) [⟨[],[0],[0,1,6,7,9,10]⟩,⟨[],[0],[0,1,6,7,9,10]⟩,⟨[],[0],[6,9]⟩] (by kernel_rfl)) (fun h=>by exact Sg.seg (C:=C0) ap gr 60 (Hc.drop 3) (Pd f a c d b e h) (Pe e h) (sC f a c d b) (aS 2 (vq a b) ig) [⟨[],[0],[0,1,6,7,9,10]⟩] (by kernel_rfl))
def ady(a:List Int)(b:Bool) :(List Int)→aM:=vq a b
def Pf(a:Bool) :(List Int)×Nat→aM:=fun (b,c)=>⟨an 68 [(4,.imm .free (.ns .u64 b) 1 1 0 c),(5,.bool false a)],[],0⟩
def He(a:List Int)(b:List Int) :T (((List Int)×Nat)⊕(dN)) :=
  .need (aR 0 (List.length a) b)<|.need (lf (cY (aa 0 (List.length a) b)))<|.leaf (.inl ((kd (cY (aa 0 (List.length a) b))),(ka (cY (aa 0 (List.length a) b)))))
def Pg(a:Bool)(b:List Int)(c:Nat) :T ((Empty)⊕(dN)) :=
  .leaf (.inr (.r0 b c a))
def po(a:List Int)(b:Int) :Option dN:=me (aH ((AX a).run) fun (e,c) =>
  aH ((Pa).run) fun _ =>
  aH (eh (A0 a b c) (e,0)) fun d =>
  aH ((A1 a b c d).run) fun f =>
  aH (eh (Hd a b c) (b,f)) fun g =>
  aH ((He a g).run) fun (h,i) =>
  (Pg d h i).run)
theorem agU(d:Lv)(b:List Int)(c:Int){x:dN}(h:po b c=some x) :ax prog oT [] [.imm d (.ns .u64 b) 1 1 0 (List.length b),.int .i64 c] (Md x) :=
  Sg.contract true Md (by kernel_rfl:prog.funcs[oT]? = some (FN oT)) (by kernel_rfl:(FN oT).body=some (bB oT)) (Sg.cut 3 jK (Sg.seg (C:=C0) ap gr 60 (iy.take 3) (aT (FN oT) [] [.imm d (.ns .u64 b) 1 1 0 (List.length b),.int .i64 c]) (AX b) (Tt d b c) ig [⟨[],[],[0,1,6,7]⟩] (by kernel_rfl)) (fun a=>by obtain ⟨g,e⟩:=a;exact Sg.cut 1 jK (Sg.seg (C:=C0) ap gr 60 ((iy.drop 3).take 1) (Tt d b c (g,e)) (Pa) (Tu d b c g e) ig [⟨[],[],[0,1,6,7,8]⟩] (by kernel_rfl)) (fun a=>by cases a;exact Sg.cut 1 jK (Sg.pre ⟨[],[],[0,1,6,7,8]⟩ rfl (by kernel_rfl:NS.on ⟨[],[],[0,1,6,7,8]⟩ (Tu d b c g e ())=(uv d b c e) (g,0)) (cw (I:=(uv d b c e)) (J:=(uw d b c e)) (id:=0) (by kernel_rfl:(((iy.drop 3).drop 1).take 1) = [.block 0 (.loop (bW (((((iy.drop 3).drop 1).take 1)).headD .skip)))]) jK (Ts _) (fun s=>by obtain ⟨m,n⟩:=s;exact adv d b c e m n) (g,0))) (fun f=>by exact Sg.cut 4 jK (Sg.seg (C:=C0) ap gr 60 ((((iy.drop 3).drop 1).drop 1).take 4) (adw d b c e f) (A1 b c e f) (Pc d b c e f) ig [⟨[(.slot 4,.fre 1 1 (.ns .u64 ([]:List Int)))],[],[4,5]⟩,⟨[],[80],[0,1,6,7,9,10]⟩] (by kernel_rfl)) (fun i=>by exact Sg.cut 1 jK (Sg.pre ⟨[],[0],[0,1,6,7,9,10]⟩ rfl (by kernel_rfl:NS.on ⟨[],[0],[0,1,6,7,9,10]⟩ (Pc d b c e f i)=(sC d b c e f) (c,i)) (cw (I:=(sC d b c e f)) (J:=(vq b f)) (id:=2) (by kernel_rfl:(((((iy.drop 3).drop 1).drop 1).drop 4).take 1) = [.block 2 (.loop (bW (((((((iy.drop 3).drop 1).drop 1).drop 4).take 1)).headD .skip)))]) jK (Ts _) (fun s=>by obtain ⟨o,p⟩:=s;exact adx d b c e f o p) (c,i))) (fun j=>by exact Sg.cut 1 jK (Sg.seg (C:=C0) ap gr 60 ((((((iy.drop 3).drop 1).drop 1).drop 4).drop 1).take 1) (ady b f j) (He b j) (Pf f) ig [⟨[],[],[4,5]⟩] (by kernel_rfl)) (fun a=>by obtain ⟨k,l⟩:=a;exact Sg.seg (C:=C0) ap gr 60 ((((((iy.drop 3).drop 1).drop 1).drop 4).drop 1).drop 1) (Pf f (k,l)) (Pg f k l) (fun a:Empty=>a.elim) ig [⟨[],[],[4,5]⟩] (by kernel_rfl))))))))
    (fun x=>by cases x with | r0 q r t=>exact ⟨.inr rfl,[.imm .free (.ns .u64 q) 1 1 0 r,.bool false t],[],by kernel_rfl,trivial,by kernel_rfl⟩) h
def Dh:Option dN→Bool
  | some _=>true
  | none=>false
def Ey:Option dN→List Int
  | some (.r0 x _ _)=>x
  | _=>[]
def Ez:Option dN→Nat
  | some (.r0 _ x _)=>x
  | _=>0
def Me:Option dN→Bool
  | some (.r0 _ _ x)=>x
  | _=>false
theorem agV{x:Option dN}(h:Dh x=true) :x=some (.r0 (Ey x) (Ez x) (Me x)):=by
  unfold Dh at h
  split at h <;> first | rfl | (cases h;done) | (rename_i y;cases y;rfl)
def XA:aL:=cn oT (.cons (.ns .u64) (.cons (.int .i64) .nil)) fun t=>[⟨Md (.r0 (Ey (po t.1.2 t.2.1)) (Ez (po t.1.2 t.2.1)) (Me (po t.1.2 t.2.1))),[Dh (po t.1.2 t.2.1)]⟩]
theorem abr:aV prog XA:=aP fun t=>(aQ (fun h=>agU t.1.1 t.1.2 t.2.1 (agV h)) ba)
def XB:List aL:=XA :: Xz
theorem qk:bf prog (bi XB):=aw abr gr
inductive fG where
  | r0 (a:Nat)
def m8:fG→AE×aM
  | .r0 a=>(.ret,⟨an 16 [(2,.int .i64 ((a:Nat):Int))],[],0⟩)
theorem tr:l9 m8:=by intro x;cases x <;> (intro h;cases h)
theorem abt(id:Nat) :rL id m8:=by intro x;cases x <;> (intro h;cases h)
def Hf:fG→jv
  | .r0 a=>⟨.int .i64 ((a:Nat):Int),[]⟩
def ql:List Code:=bS (bB kZ)
def Mf(b:Lv)(a:List Int)(c:Int) :aM:=⟨an 16 [(0,.imm b (.ns .u64 a) 1 1 0 (List.length a)),(3,.int .i64 c)],[],0⟩
def Cm(a:List Int) :T ((Int)⊕(fG)) :=
  .need (aR 0 (List.length a) a)<|.need (vp (pm (aa 0 (List.length a) a)))<|.leaf (.inl (wh (pm (aa 0 (List.length a) a))))
def Mg(b:Lv)(a:List Int)(c:Int)(_:Unit) :aM:=⟨an 16 [(0,.imm b (.ns .u64 a) 1 1 0 (List.length a)),(3,.int .i64 c),(4,.int .i64 (0:Int))],[],0⟩
def Kq:T ((Unit)⊕(fG)) :=
  .leaf (.inl ())
def qm(b:Lv)(a:List Int)(c:Int)(d:Nat) :aM:=⟨an 16 [(0,.imm b (.ns .u64 a) 1 1 0 (List.length a)),(3,.int .i64 c),(4,.int .i64 ((d:Nat):Int))],[],0⟩
def tt(_:Unit) :aM:=⟨an 16 [],[],0⟩
def Cn:List Code:=bS (bW (((((ql.drop 2).drop 1).take 1)).headD .skip))
def Mh(b:Lv)(a:List Int)(c:Int)(d:Nat)(_:Unit) :aM:=⟨an 16 [(0,.imm b (.ns .u64 a) 1 1 0 (List.length a)),(3,.int .i64 c),(4,.int .i64 ((d:Nat):Int))],[],0⟩
def om(a:List Int)(c:Int)(b:Nat) :T ((Unit)⊕((Unit)⊕(fG))) :=
  .ask (decide (((b:Nat):Int) < c))
    (.need (aR 0 (List.length a) a)<|.need (re (m7 (aa 0 (List.length a) a) ((b:Nat):Int)))<|.ask (qj (m7 (aa 0 (List.length a) a) ((b:Nat):Int)))
      (.leaf (.inr (.inr (.r0 b))))
      (.leaf (.inl ())))
    (.leaf (.inr (.inl ())))
def Kr(a:Nat) :T ((Nat)⊕((Unit)⊕(fG))) :=
  .need (ej .i64 (((a+1):Nat):Int))<|.leaf (.inl (a+1))
def Co(b:List Int)(c:Int) :Nat→Option ((Nat)⊕((Unit)⊕(fG))):=fun a =>
  aH ((om b c a).run) fun _ =>
  (Kr a).run
theorem YE(e:Lv)(b:List Int)(c:Int)(d:Nat) :Sg prog [] Cn (qm e b c d) (Co b c d) (qm e b c) (aS 0 tt m8):=by
  unfold Co;exact Sg.cut 3 (aN tr) (Sg.seg (C:=C0) ap qk 60 (Cn.take 3) (qm e b c d) (om b c d) (Mh e b c d) (aS 0 tt m8) [⟨[],[],[2]⟩,⟨[],[],[0,3,4]⟩,⟨[],[],[]⟩] (by kernel_rfl)) (fun a=>by cases a;exact Sg.seg (C:=C0) ap qk 60 (Cn.drop 3) (Mh e b c d ()) (Kr d) (qm e b c) (aS 0 tt m8) [⟨[],[],[0,3,4]⟩] (by kernel_rfl))
def abu:Unit→aM:=tt
def Ks:T ((Empty)⊕(fG)) :=
  .leaf (.inr (.r0 0))
def sD(a:List Int) :Option fG:=me (aH ((Cm a).run) fun b =>
  aH ((Kq).run) fun _ =>
  aH (eh (Co a b) 0) fun _ =>
  (Ks).run)
theorem abv(c:Lv)(b:List Int){x:fG}(h:sD b=some x) :ax prog kZ [] [.imm c (.ns .u64 b) 1 1 0 (List.length b)] (Hf x) :=
  Sg.contract true Hf (by kernel_rfl:prog.funcs[kZ]? = some (FN kZ)) (by kernel_rfl:(FN kZ).body=some (bB kZ)) (Sg.cut 2 tr (Sg.seg (C:=C0) ap qk 60 (ql.take 2) (aT (FN kZ) [] [.imm c (.ns .u64 b) 1 1 0 (List.length b)]) (Cm b) (Mf c b) m8 [⟨[],[],[0,3]⟩] (by kernel_rfl)) (fun d=>by exact Sg.cut 1 tr (Sg.seg (C:=C0) ap qk 60 ((ql.drop 2).take 1) (Mf c b d) (Kq) (Mg c b d) m8 [⟨[],[],[0,3,4]⟩] (by kernel_rfl)) (fun a=>by cases a;exact Sg.cut 1 tr (Sg.pre ⟨[],[],[0,3,4]⟩ rfl (by kernel_rfl:NS.on ⟨[],[],[0,3,4]⟩ (Mg c b d ())=(qm c b d) 0) (cw (I:=(qm c b d)) (J:=(tt)) (id:=0) (by kernel_rfl:(((ql.drop 2).drop 1).take 1) = [.block 0 (.loop (bW (((((ql.drop 2).drop 1).take 1)).headD .skip)))]) tr (abt _) (fun s=>by exact YE c b d s) 0)) (fun a=>by cases a;exact Sg.seg (C:=C0) ap qk 60 (((ql.drop 2).drop 1).drop 1) (abu ()) (Ks) (fun a:Empty=>a.elim) m8 [⟨[],[],[2]⟩] (by kernel_rfl)))))
    (fun x=>by cases x with | r0 e=>exact ⟨.inr rfl,[.int .i64 ((e:Nat):Int)],[],by kernel_rfl,trivial,by kernel_rfl⟩) h
def yn:Option fG→Bool
  | some _=>true
  | none=>false
def zZ:Option fG→Nat
  | some (.r0 x)=>x
  | _=>0
theorem abw{x:Option fG}(h:yn x=true) :x=some (.r0 (zZ x)):=by
  unfold yn at h
  split at h <;> first | rfl | (cases h;done) | (rename_i y;cases y;rfl)
def Ph:aL:=cn kZ (.cons (.ns .u64) .nil) fun t=>[⟨Hf (.r0 (zZ (sD t.1.2))),[yn (sD t.1.2)]⟩]
theorem VI:aV prog Ph:=aP fun t=>(aQ (fun h=>abv t.1.1 t.1.2 (abw h)) ba)
def Pi:List aL:=Ph :: XB
theorem qn:bf prog (bi Pi):=aw VI qk
inductive kf where
  | r0 (a:Int)
def tu:kf→AE×aM
  | .r0 a=>(.ret,⟨an 45 [(4,.int .i64 a)],[],0⟩)
theorem Di:l9 tu:=by intro x;cases x <;> (intro h;cases h)
theorem agW(id:Nat) :rL id tu:=by intro x;cases x <;> (intro h;cases h)
def Mi:kf→jv
  | .r0 a=>⟨.int .i64 a,[]⟩
def ux:List Code:=bS (bB oY)
def Tx:(List Int)×Nat×(List Int)×Nat→aM:=fun (a,b,c,d)=>⟨an 45 [(0,.imm .free (.ns .u64 a) 1 1 0 b),(1,.imm .free (.ns .u64 c) 1 1 0 d)],[],0⟩
def JC(a:List Int)(b:List Int) :T (((List Int)×Nat×(List Int)×Nat)⊕(kf)) :=
  .need (aR 0 (List.length a) a)<|.need (lf (cY (aa 0 (List.length a) a)))<|.need (aR 0 (List.length b) b)<|.need (lf (cY (aa 0 (List.length b) b)))<|.leaf (.inl ((kd (cY (aa 0 (List.length a) a))),(ka (cY (aa 0 (List.length a) a))),(kd (cY (aa 0 (List.length b) b))),(ka (cY (aa 0 (List.length b) b)))))
def Tz(a:List Int)(b:Nat)(c:List Int)(d:Nat)(e:Int) :aM:=⟨an 45 [(0,.imm .free (.ns .u64 a) 1 1 0 b),(1,.imm .free (.ns .u64 c) 1 1 0 d),(5,.int .i64 e)],[],0⟩
def TA(a:Nat)(b:Nat) :T ((Int)⊕(kf)) :=
  .ask (((a:Nat):Int) != ((b:Nat):Int))
    (.ask (decide (((a:Nat):Int) < ((b:Nat):Int)))
      (.leaf (.inr (.r0 (-1:Int))))
      (.leaf (.inr (.r0 (1:Int)))))
    (.need (ej .i64 (((a:Nat):Int) - (1:Int)))<|.leaf (.inl (((a:Nat):Int) - (1:Int))))
def uy(a:List Int)(b:Nat)(c:List Int)(d:Nat)(e:Int) :aM:=⟨an 45 [(0,.imm .free (.ns .u64 a) 1 1 0 b),(1,.imm .free (.ns .u64 c) 1 1 0 d),(5,.int .i64 e)],[],0⟩
def Dj(_:Unit) :aM:=⟨an 45 [],[],0⟩
def Pj:List Code:=bS (bW (((((ux.drop 2).drop 3).take 1)).headD .skip))
def sE(b:List Int)(d:Nat)(c:List Int)(e:Nat)(a:Int) :T ((Int)⊕((Unit)⊕(kf))) :=
  .ask (decide (a ≥ (0:Int)))
    (.need (iC a d)<|.need (jt (Int.toNat a) (List.length b))<|.need (iC a e)<|.need (jt (Int.toNat a) (List.length c))<|.ask (decide ((List.getD b (Int.toNat a) 0) < (List.getD c (Int.toNat a) 0)))
      (.leaf (.inr (.inr (.r0 (-1:Int)))))
      (.need (iC a d)<|.need (jt (Int.toNat a) (List.length b))<|.need (iC a e)<|.need (jt (Int.toNat a) (List.length c))<|.ask (decide ((List.getD b (Int.toNat a) 0) > (List.getD c (Int.toNat a) 0)))
        (.leaf (.inr (.inr (.r0 (1:Int)))))
        (.need (ej .i64 (a - (1:Int)))<|.leaf (.inl (a - (1:Int))))))
    (.leaf (.inr (.inl ())))
def A2(a:List Int)(b:Nat)(c:List Int)(d:Nat) :Int→Option ((Int)⊕((Unit)⊕(kf))):=fun e =>
  (sE a b c d e).run
theorem adz(a:List Int)(b:Nat)(c:List Int)(d:Nat)(e:Int) :Sg prog [] Pj (uy a b c d e) (A2 a b c d e) (uy a b c d) (aS 0 Dj tu):=by
  unfold A2;exact Sg.seg (C:=C0) ap qn 60 Pj (uy a b c d e) (sE a b c d e) (uy a b c d) (aS 0 Dj tu) [⟨[],[],[4]⟩,⟨[],[],[4]⟩,⟨[],[],[0,1,5]⟩,⟨[],[],[]⟩] (by kernel_rfl)
def agX:Unit→aM:=Dj
def Pk:T ((Empty)⊕(kf)) :=
  .leaf (.inr (.r0 (0:Int)))
def xn(c:List Int)(d:List Int) :Option kf:=me (aH ((JC c d).run) fun (e,a,f,b) =>
  aH ((TA a b).run) fun g =>
  aH (eh (A2 e a f b) g) fun _ =>
  (Pk).run)
theorem agY(j:Lv)(d:List Int)(k:Lv)(e:List Int){x:kf}(h:xn d e=some x) :ax prog oY [] [.imm j (.ns .u64 d) 1 1 0 (List.length d),.imm k (.ns .u64 e) 1 1 0 (List.length e)] (Mi x) :=
  Sg.contract true Mi (by kernel_rfl:prog.funcs[oY]? = some (FN oY)) (by kernel_rfl:(FN oY).body=some (bB oY)) (Sg.cut 2 Di (Sg.seg (C:=C0) ap qn 60 (ux.take 2) (aT (FN oY) [] [.imm j (.ns .u64 d) 1 1 0 (List.length d),.imm k (.ns .u64 e) 1 1 0 (List.length e)]) (JC d e) Tx tu [⟨[],[],[0,1]⟩] (by kernel_rfl)) (fun a=>by obtain ⟨f,b,g,c⟩:=a;exact Sg.cut 3 Di (Sg.seg (C:=C0) ap qn 60 ((ux.drop 2).take 3) (Tx (f,b,g,c)) (TA b c) (Tz f b g c) tu [⟨[],[],[4]⟩,⟨[],[],[4]⟩,⟨[],[],[0,1,5]⟩] (by kernel_rfl)) (fun i=>by exact Sg.cut 1 Di (Sg.pre ⟨[],[],[0,1,5]⟩ rfl (by kernel_rfl:NS.on ⟨[],[],[0,1,5]⟩ (Tz f b g c i)=(uy f b g c) i) (cw (I:=(uy f b g c)) (J:=(Dj)) (id:=0) (by kernel_rfl:(((ux.drop 2).drop 3).take 1) = [.block 0 (.loop (bW (((((ux.drop 2).drop 3).take 1)).headD .skip)))]) Di (agW _) (fun s=>by exact adz f b g c s) i)) (fun a=>by cases a;exact Sg.seg (C:=C0) ap qn 60 (((ux.drop 2).drop 3).drop 1) (agX ()) (Pk) (fun a:Empty=>a.elim) tu [⟨[],[],[4]⟩] (by kernel_rfl)))))
    (fun x=>by cases x with | r0 l=>exact ⟨.inr rfl,[.int .i64 l],[],by kernel_rfl,trivial,by kernel_rfl⟩) h
def Dk:Option kf→Bool
  | some _=>true
  | none=>false
def EA:Option kf→Int
  | some (.r0 x)=>x
  | _=>0
theorem agZ{x:Option kf}(h:Dk x=true) :x=some (.r0 (EA x)):=by
  unfold Dk at h
  split at h <;> first | rfl | (cases h;done) | (rename_i y;cases y;rfl)
def XC:aL:=cn oY (.cons (.ns .u64) (.cons (.ns .u64) .nil)) fun t=>[⟨Mi (.r0 (EA (xn t.1.2 t.2.1.2))),[Dk (xn t.1.2 t.2.1.2)]⟩]
theorem abx:aV prog XC:=aP fun t=>(aQ (fun h=>agY t.1.1 t.1.2 t.2.1.1 t.2.1.2 (agZ h)) ba)
def XD:List aL:=XC :: Pi
theorem tw:bf prog (bi XD):=aw abx qn
inductive jf where
  | r0 (a:Bool)
def tx:jf→AE×aM
  | .r0 a=>(.ret,⟨an 20 [(2,.bool false a)],[],0⟩)
theorem Dl:l9 tx:=by intro x;cases x <;> (intro h;cases h)
theorem ag0(id:Nat) :rL id tx:=by intro x;cases x <;> (intro h;cases h)
def Mj:jf→jv
  | .r0 a=>⟨.bool false a,[]⟩
def vt:List Code:=bS (bB o6)
def TB(b:Lv)(a:List Int)(_:Unit) :aM:=⟨an 20 [(0,.imm b (.ns .u64 a) 1 1 0 (List.length a)),(3,.int .i64 (((List.length a):Nat):Int))],[],0⟩
def Pm:T ((Unit)⊕(jf)) :=
  .leaf (.inl ())
def uz(b:Lv)(a:List Int)(c:Int) :aM:=⟨an 20 [(0,.imm b (.ns .u64 a) 1 1 0 (List.length a)),(3,.int .i64 c)],[],0⟩
def yo(a:Int) :aM:=⟨an 20 [(3,.int .i64 a)],[],0⟩
def Hg:List Code:=bS (bW ((((vt.drop 2).take 1)).headD .skip))
def TC(b:Lv)(a:List Int)(c:Int)(d:Bool) :aM:=⟨an 20 [(0,.imm b (.ns .u64 a) 1 1 0 (List.length a)),(3,.int .i64 c),(15,.bool false d)],[],0⟩
def sF(b:List Int)(a:Int) :T ((Bool)⊕((Int)⊕(jf))) :=
  .ask (decide (a > (0:Int)))
    (.need (ej .i64 (a - (1:Int)))<|.need (iC (a - (1:Int)) (List.length b))<|.need (jt (Int.toNat (a - (1:Int))) (List.length b))<|.leaf (.inl ((List.getD b (Int.toNat (a - (1:Int))) 0) == (0:Int))))
    (.leaf (.inl false))
def Hh(a:Int)(b:Bool) :T ((Int)⊕((Int)⊕(jf))) :=
  .ask b
    (.need (ej .i64 (a - (1:Int)))<|.leaf (.inl (a - (1:Int))))
    (.leaf (.inr (.inl a)))
def Hi(b:List Int) :Int→Option ((Int)⊕((Int)⊕(jf))):=fun a =>
  aH ((sF b a).run) fun c =>
  (Hh a c).run
theorem adA(c:Lv)(a:List Int)(b:Int) :Sg prog [] Hg (uz c a b) (Hi a b) (uz c a) (aS 0 yo tx):=by
  unfold Hi;exact Sg.cut 1 (aN Dl) (Sg.seg (C:=C0) ap tw 60 (Hg.take 1) (uz c a b) (sF a b) (TC c a b) (aS 0 yo tx) [⟨[],[],[0,3,15]⟩,⟨[],[],[0,3,15]⟩] (by kernel_rfl)) (fun d=>by exact Sg.seg (C:=C0) ap tw 60 (Hg.drop 1) (TC c a b d) (Hh b d) (uz c a) (aS 0 yo tx) [⟨[],[],[0,3]⟩,⟨[],[],[3]⟩] (by kernel_rfl))
def ag1:Int→aM:=yo
def Pn(a:Int) :T ((Empty)⊕(jf)) :=
  .leaf (.inr (.r0 (decide (a≤(4096:Int)))))
def xo(a:List Int) :Option jf:=me (aH ((Pm).run) fun _ =>
  aH (eh (Hi a) (((List.length a):Nat):Int)) fun b =>
  (Pn b).run)
theorem ag2(c:Lv)(b:List Int){x:jf}(h:xo b=some x) :ax prog o6 [] [.imm c (.ns .u64 b) 1 1 0 (List.length b)] (Mj x) :=
  Sg.contract true Mj (by kernel_rfl:prog.funcs[o6]? = some (FN o6)) (by kernel_rfl:(FN o6).body=some (bB o6)) (Sg.cut 2 Dl (Sg.seg (C:=C0) ap tw 60 (vt.take 2) (aT (FN o6) [] [.imm c (.ns .u64 b) 1 1 0 (List.length b)]) (Pm) (TB c b) tx [⟨[],[],[0,3]⟩] (by kernel_rfl)) (fun a=>by cases a;exact Sg.cut 1 Dl (Sg.pre ⟨[],[],[0,3]⟩ rfl (by kernel_rfl:NS.on ⟨[],[],[0,3]⟩ (TB c b ())=(uz c b) (((List.length b):Nat):Int)) (cw (I:=(uz c b)) (J:=(yo)) (id:=0) (by kernel_rfl:((vt.drop 2).take 1) = [.block 0 (.loop (bW ((((vt.drop 2).take 1)).headD .skip)))]) Dl (ag0 _) (fun s=>by exact adA c b s) (((List.length b):Nat):Int))) (fun d=>by exact Sg.seg (C:=C0) ap tw 60 ((vt.drop 2).drop 1) (ag1 d) (Pn d) (fun a:Empty=>a.elim) tx [⟨[],[],[2]⟩] (by kernel_rfl))))
    (fun x=>by cases x with | r0 e=>exact ⟨.inr rfl,[.bool false e],[],by kernel_rfl,trivial,by kernel_rfl⟩) h
def Dm:Option jf→Bool
  | some _=>true
  | none=>false
def EB:Option jf→Bool
  | some (.r0 x)=>x
  | _=>false
theorem ag3{x:Option jf}(h:Dm x=true) :x=some (.r0 (EB x)):=by
  unfold Dm at h
  split at h <;> first | rfl | (cases h;done) | (rename_i y;cases y;rfl)
def XE:aL:=cn o6 (.cons (.ns .u64) .nil) fun t=>[⟨Mj (.r0 (EB (xo t.1.2))),[Dm (xo t.1.2)]⟩]
theorem aby:aV prog XE:=aP fun t=>(aQ (fun h=>ag2 t.1.1 t.1.2 (ag3 h)) ba)
def XF:List aL:=XE :: XD
theorem EC:bf prog (bi XF):=aw aby tw
inductive pt where
  | r0 (a:Bool)
def Mk:pt→AE×aM
  | .r0 a=>(.ret,⟨an 16 [(2,.bool false a)],[],0⟩)
theorem ag4:l9 Mk:=by intro x;cases x <;> (intro h;cases h)
def Ml:pt→jv
  | .r0 a=>⟨.bool false a,[]⟩
def TD:List Code:=bS (bB oS)
def TE(a:Bool) :aM:=⟨an 16 [(2,.bool false a)],[],0⟩
def JD(a:List Int)(b:Int) :T ((Bool)⊕(pt)) :=
  .need (aR 0 (List.length a) a)<|.need (Dm (xo (aa 0 (List.length a) a)))<|.ask (EB (xo (aa 0 (List.length a) a)))
    (.ask (decide (b ≥ (-262144:Int)))
      (.leaf (.inl (decide (b≤(262144:Int)))))
      (.leaf (.inl false)))
    (.leaf (.inl false))
def TF(a:Bool) :T ((Empty)⊕(pt)) :=
  .leaf (.inr (.r0 a))
def gu(a:List Int)(b:Int) :Option pt:=me (aH ((JD a b).run) fun c =>
  (TF c).run)
theorem ag5(d:Bool)(e:Lv)(b:List Int)(c:Int){x:pt}(h:gu b c=some x) :ax prog oS [] [.agg [.bool false d,.imm e (.ns .u64 b) 1 1 0 (List.length b),.int .i64 c]] (Ml x) :=
  Sg.contract true Ml (by kernel_rfl:prog.funcs[oS]? = some (FN oS)) (by kernel_rfl:(FN oS).body=some (bB oS)) (Sg.cut 2 ag4 (Sg.seg (C:=C0) ap EC 60 (TD.take 2) (aT (FN oS) [] [.agg [.bool false d,.imm e (.ns .u64 b) 1 1 0 (List.length b),.int .i64 c]]) (JD b c) TE Mk [⟨[],[],[2]⟩,⟨[],[],[2]⟩,⟨[],[],[2]⟩] (by kernel_rfl)) (fun f=>by exact Sg.seg (C:=C0) ap EC 60 (TD.drop 2) (TE f) (TF f) (fun a:Empty=>a.elim) Mk [⟨[],[],[2]⟩] (by kernel_rfl)))
    (fun x=>by cases x with | r0 g=>exact ⟨.inr rfl,[.bool false g],[],by kernel_rfl,trivial,by kernel_rfl⟩) h
def pu:Option pt→Bool
  | some _=>true
  | none=>false
def nN:Option pt→Bool
  | some (.r0 x)=>x
  | _=>false
theorem ag6{x:Option pt}(h:pu x=true) :x=some (.r0 (nN x)):=by
  unfold pu at h
  split at h <;> first | rfl | (cases h;done) | (rename_i y;cases y;rfl)
def XG:aL:=cn oS (.cons (.agg (.cons .bool (.cons (.ns .u64) (.cons (.int .i64) .nil)))) .nil) fun t=>[⟨Ml (.r0 (nN (gu t.1.2.1.2 t.1.2.2.1))),[pu (gu t.1.2.1.2 t.1.2.2.1)]⟩]
theorem abz:aV prog XG:=aP fun t=>(aQ (fun h=>ag5 t.1.1 t.1.2.1.1 t.1.2.1.2 t.1.2.2.1 (ag6 h)) ba)
def XH:List aL:=XG :: XF
theorem tA:bf prog (bi XH):=aw abz EC
inductive fS where
  | r0 (a:Bool) (b:List Int) (c:Nat) (d:Int)
def yp:fS→AE×aM
  | .r0 a b c d=>(.ret,⟨an 28 [(2,.ptr 0 1 0 0)],[(0,.vs [.bool false a,.imm .free (.ns .u64 b) 1 1 0 c,.int .i64 d])],1⟩)
theorem Hj:l9 yp:=by intro x;cases x <;> (intro h;cases h)
def JE:fS→jv
  | .r0 a b c d=>⟨.agg [.bool false a,.imm .free (.ns .u64 b) 1 1 0 c,.int .i64 d],[]⟩
def A3:List Code:=bS (bB mr)
def Po(b:Bool)(c:Lv)(a:List Int)(d:Int) :(List Int)×Nat×Bool→aM:=fun (e,f,g)=>⟨an 28 [(1,.ptr 0 1 0 0),(2,.ptr 1 1 0 0),(3,.imm .free (.ns .u64 e) 1 1 0 f)],[(0,.vs [.bool false b,.imm c (.ns .u64 a) 1 1 0 (List.length a),.int .i64 d]),(1,.vs [.bool false g,.nsl,.int .i64 (0:Int)])],2⟩
def A4(a:List Int) :T (((List Int)×Nat×Bool)⊕(fS)) :=
  .need (aR 0 (List.length a) a)<|.need (lf (cY (aa 0 (List.length a) a)))<|.leaf (.inl ((kd (cY (aa 0 (List.length a) a))),(ka (cY (aa 0 (List.length a) a))),false))
def Pp(b:Bool)(c:Lv)(a:List Int)(d:Int)(e:List Int)(f:Nat)(g:Bool)(h:Nat) :aM:=⟨an 28 [(1,.ptr 0 1 0 0),(2,.ptr 1 1 0 0),(3,.imm .free (.ns .u64 e) 1 1 0 f),(4,.int .i64 ((h:Nat):Int))],[(0,.vs [.bool false b,.imm c (.ns .u64 a) 1 1 0 (List.length a),.int .i64 d]),(1,.vs [.bool false g,.nsl,.int .i64 (0:Int)])],2⟩
def A5(b:List Int)(a:Nat) :T ((Nat)⊕(fS)) :=
  .ask (((a:Nat):Int) == (0:Int))
    (.leaf (.inr (.r0 false ([]:List Int) 0 (0:Int))))
    (.need (aR 0 a b)<|.need (yn (sD (aa 0 a b)))<|.leaf (.inl (zZ (sD (aa 0 a b)))))
def Pq(b:Bool)(c:Lv)(a:List Int)(d:Int)(e:Bool)(f:Nat) :(List Int)×Nat→aM:=fun (g,h)=>⟨an 28 [(1,.ptr 0 1 0 0),(2,.ptr 1 1 0 0),(3,.imm .free (.ns .u64 g) 1 1 0 h),(4,.int .i64 ((f:Nat):Int))],[(0,.vs [.bool false b,.imm c (.ns .u64 a) 1 1 0 (List.length a),.int .i64 d]),(1,.vs [.bool false e,.nsl,.int .i64 (0:Int)])],2⟩
def A6(a:List Int)(b:Nat)(c:Nat) :T (((List Int)×Nat)⊕(fS)) :=
  .need (aR 0 b a)<|.need (Dh (po (aa 0 b a) ((c:Nat):Int)))<|.leaf (.inl ((Ey (po (aa 0 b a) ((c:Nat):Int))),(Ez (po (aa 0 b a) ((c:Nat):Int)))))
def Pr(c:Bool)(a:Int)(b:Nat)(d:List Int)(e:Nat) :T ((Empty)⊕(fS)) :=
  .need (ej .i64 (a+((b:Nat):Int)))<|.leaf (.inr (.r0 c d e (a+((b:Nat):Int))))
def bh(d:Bool)(e:List Int)(f:Int) :Option fS:=me (aH ((A4 e).run) fun (a,b,i) =>
  aH ((A5 a b).run) fun c =>
  aH ((A6 a b c).run) fun (g,h) =>
  (Pr d f c g h).run)
theorem adB(c:Bool)(e:Lv)(b:List Int)(d:Int){x:fS}(h:bh c b d=some x) :ax prog mr [] [.agg [.bool false c,.imm e (.ns .u64 b) 1 1 0 (List.length b),.int .i64 d]] (JE x) :=
  Sg.contract true JE (by kernel_rfl:prog.funcs[mr]? = some (FN mr)) (by kernel_rfl:(FN mr).body=some (bB mr)) (Sg.cut 2 Hj (Sg.seg (C:=C0) ap tA 60 (A3.take 2) (aT (FN mr) [] [.agg [.bool false c,.imm e (.ns .u64 b) 1 1 0 (List.length b),.int .i64 d]]) (A4 b) (Po c e b d) yp [⟨[],[0,16],[1,2,3]⟩] (by kernel_rfl)) (fun a=>by obtain ⟨f,g,i⟩:=a;exact Sg.cut 3 Hj (Sg.seg (C:=C0) ap tA 60 ((A3.drop 2).take 3) (Po c e b d (f,g,i)) (A5 f g) (Pp c e b d f g i) yp [⟨[(.cell 1 1,.fre 1 1 (.ns .u64 ([]:List Int)))],[1],[2]⟩,⟨[],[0,1],[1,2,3,4]⟩] (by kernel_rfl)) (fun j=>by exact Sg.cut 1 Hj (Sg.seg (C:=C0) ap tA 60 (((A3.drop 2).drop 3).take 1) (Pp c e b d f g i j) (A6 f g j) (Pq c e b d i j) yp [⟨[],[0,1],[1,2,3,4]⟩] (by kernel_rfl)) (fun a=>by obtain ⟨k,l⟩:=a;exact Sg.seg (C:=C0) ap tA 60 (((A3.drop 2).drop 3).drop 1) (Pq c e b d i j (k,l)) (Pr c d j k l) (fun a:Empty=>a.elim) yp [⟨[],[1],[2]⟩] (by kernel_rfl)))))
    (fun x=>by cases x with | r0 m n o p=>exact ⟨.inr rfl,[.agg [.bool false m,.imm .free (.ns .u64 n) 1 1 0 o,.int .i64 p]],[],by kernel_rfl,trivial,by kernel_rfl⟩) h
def jy:Option fS→Bool
  | some _=>true
  | none=>false
def iP:Option fS→Bool
  | some (.r0 x _ _ _)=>x
  | _=>false
def iQ:Option fS→List Int
  | some (.r0 _ x _ _)=>x
  | _=>[]
def iR:Option fS→Nat
  | some (.r0 _ _ x _)=>x
  | _=>0
def iS:Option fS→Int
  | some (.r0 _ _ _ x)=>x
  | _=>0
theorem adC{x:Option fS}(h:jy x=true) :x=some (.r0 (iP x) (iQ x) (iR x) (iS x)):=by
  unfold jy at h
  split at h <;> first | rfl | (cases h;done) | (rename_i y;cases y;rfl)
def TG:aL:=cn mr (.cons (.agg (.cons .bool (.cons (.ns .u64) (.cons (.int .i64) .nil)))) .nil) fun t=>[⟨JE (.r0 (iP (bh t.1.1 t.1.2.1.2 t.1.2.2.1)) (iQ (bh t.1.1 t.1.2.1.2 t.1.2.2.1)) (iR (bh t.1.1 t.1.2.1.2 t.1.2.2.1)) (iS (bh t.1.1 t.1.2.1.2 t.1.2.2.1))),[jy (bh t.1.1 t.1.2.1.2 t.1.2.2.1)]⟩]
theorem YF:aV prog TG:=aP fun t=>(aQ (fun h=>adB t.1.1 t.1.2.1.1 t.1.2.1.2 t.1.2.2.1 (adC h)) ba)
def TH:List aL:=TG :: XH
theorem Cp:bf prog (bi TH):=aw YF tA
inductive pv where
  | r0 (a:Bool)
def Mm:pv→AE×aM
  | .r0 a=>(.ret,⟨an 31 [(4,.bool false a)],[],0⟩)
theorem ag7:l9 Mm:=by intro x;cases x <;> (intro h;cases h)
def Mn:pv→jv
  | .r0 a=>⟨.bool false a,[]⟩
def TI:List Code:=bS (bB oW)
def TJ(a:Bool) :aM:=⟨an 31 [(4,.bool false a)],[],0⟩
def JF(c:List Int)(a:Int)(d:List Int)(b:Int) :T ((Bool)⊕(pv)) :=
  .ask (decide ((((List.length c):Nat):Int) > (0:Int)))
    (.ask (decide ((((List.length d):Nat):Int) > (0:Int)))
      (.need (ej .i64 (a - b))<|.ask (decide ((a - b) > (262144:Int)))
        (.leaf (.inl true))
        (.need (ej .i64 (b - a))<|.leaf (.inl (decide ((b - a) > (262144:Int))))))
      (.leaf (.inl false)))
    (.leaf (.inl false))
def TK(a:Bool) :T ((Empty)⊕(pv)) :=
  .leaf (.inr (.r0 a))
def xp(a:List Int)(b:Int)(c:List Int)(d:Int) :Option pv:=me (aH ((JF a b c d).run) fun e =>
  (TK e).run)
theorem ag8(f:Bool)(g:Lv)(b:List Int)(d:Int)(i:Bool)(j:Lv)(c:List Int)(e:Int){x:pv}(h:xp b d c e=some x) :ax prog oW [] [.agg [.bool false f,.imm g (.ns .u64 b) 1 1 0 (List.length b),.int .i64 d],.agg [.bool false i,.imm j (.ns .u64 c) 1 1 0 (List.length c),.int .i64 e]] (Mn x) :=
  Sg.contract true Mn (by kernel_rfl:prog.funcs[oW]? = some (FN oW)) (by kernel_rfl:(FN oW).body=some (bB oW)) (Sg.cut 2 ag7 (Sg.seg (C:=C0) ap Cp 60 (TI.take 2) (aT (FN oW) [] [.agg [.bool false f,.imm g (.ns .u64 b) 1 1 0 (List.length b),.int .i64 d],.agg [.bool false i,.imm j (.ns .u64 c) 1 1 0 (List.length c),.int .i64 e]]) (JF b d c e) TJ Mm [⟨[],[],[4]⟩,⟨[],[],[4]⟩,⟨[],[],[4]⟩,⟨[],[],[4]⟩] (by kernel_rfl)) (fun k=>by exact Sg.seg (C:=C0) ap Cp 60 (TI.drop 2) (TJ k) (TK k) (fun a:Empty=>a.elim) Mm [⟨[],[],[4]⟩] (by kernel_rfl)))
    (fun x=>by cases x with | r0 l=>exact ⟨.inr rfl,[.bool false l],[],by kernel_rfl,trivial,by kernel_rfl⟩) h
def Dn:Option pv→Bool
  | some _=>true
  | none=>false
def ED:Option pv→Bool
  | some (.r0 x)=>x
  | _=>false
theorem ag9{x:Option pv}(h:Dn x=true) :x=some (.r0 (ED x)):=by
  unfold Dn at h
  split at h <;> first | rfl | (cases h;done) | (rename_i y;cases y;rfl)
def XI:aL:=cn oW (.cons (.agg (.cons .bool (.cons (.ns .u64) (.cons (.int .i64) .nil)))) (.cons (.agg (.cons .bool (.cons (.ns .u64) (.cons (.int .i64) .nil)))) .nil)) fun t=>[⟨Mn (.r0 (ED (xp t.1.2.1.2 t.1.2.2.1 t.2.1.2.1.2 t.2.1.2.2.1))),[Dn (xp t.1.2.1.2 t.1.2.2.1 t.2.1.2.1.2 t.2.1.2.2.1)]⟩]
theorem abA:aV prog XI:=aP fun t=>(aQ (fun h=>ag8 t.1.1 t.1.2.1.1 t.1.2.1.2 t.1.2.2.1 t.2.1.1 t.2.1.2.1.1 t.2.1.2.1.2 t.2.1.2.2.1 (ag9 h)) ba)
def XJ:List aL:=XI :: TH
theorem qo:bf prog (bi XJ):=aw abA Cp
inductive d9 where
  | r0 (a:List Int) (b:Nat) (c:List Int) (d:Nat) (e:Int)
def sG(a:Lv)(b:Lv) :d9→AE×aM
  | .r0 c d e f g=>(.ret,⟨an 54 [(4,.imm a (.ns .u64 c) 1 1 0 d),(5,.imm b (.ns .u64 e) 1 1 0 f),(6,.int .i64 g)],[],0⟩)
theorem yq{a:Lv}{b:Lv} :l9 (sG a b):=by intro x;cases x <;> (intro h;cases h)
def Hk(a:Lv)(b:Lv) :d9→jv
  | .r0 c d e f g=>⟨.tup [.imm a (.ns .u64 c) 1 1 0 d,.imm b (.ns .u64 e) 1 1 0 f,.int .i64 g],[]⟩
def tB:List Code:=bS (bB k6)
def Mo(c:Bool)(d:Lv)(a:List Int)(e:Int)(f:Bool)(g:Lv)(b:List Int)(h:Int)(i:Int) :aM:=⟨an 54 [(2,.ptr 0 1 0 0),(3,.ptr 1 1 0 0),(7,.int .i64 i)],[(0,.vs [.bool false c,.imm d (.ns .u64 a) 1 1 0 (List.length a),.int .i64 e]),(1,.vs [.bool false f,.imm g (.ns .u64 b) 1 1 0 (List.length b),.int .i64 h])],2⟩
def nO(b:List Int)(c:Int)(a:Int) :T ((Int)⊕(d9)) :=
  .ask ((((List.length b):Nat):Int) == (0:Int))
    (.leaf (.inl a))
    (.leaf (.inl (B0 c a)))
def Mp(c:Bool)(d:Lv)(a:List Int)(e:Int)(f:Bool)(g:Lv)(b:List Int)(h:Int)(i:Int) :aM:=⟨an 54 [(2,.ptr 0 1 0 0),(3,.ptr 1 1 0 0),(7,.int .i64 i)],[(0,.vs [.bool false c,.imm d (.ns .u64 a) 1 1 0 (List.length a),.int .i64 e]),(1,.vs [.bool false f,.imm g (.ns .u64 b) 1 1 0 (List.length b),.int .i64 h])],2⟩
def nP(a:Int)(b:List Int)(c:Int) :T ((Int)⊕(d9)) :=
  .ask ((((List.length b):Nat):Int) == (0:Int))
    (.leaf (.inl a))
    (.leaf (.inl c))
def Mq(c:Lv)(d:Bool)(b:Lv)(a:List Int)(e:Int)(f:Int) :(List Int)×Nat→aM:=fun (g,h)=>⟨an 54 [(3,.ptr 0 1 0 0),(7,.int .i64 f),(8,.imm c (.ns .u64 g) 1 1 0 h),(9,.imm b (.ns .u64 a) 1 1 0 (List.length a))],[(0,.vs [.bool false d,.imm b (.ns .u64 a) 1 1 0 (List.length a),.int .i64 e])],1⟩
def tC(a:List Int)(b:Int)(c:Int) :T (((List Int)×Nat)⊕(d9)) :=
  .ask (decide (b > c))
    (.need (ej .i64 (b - c))<|.need (aR 0 (List.length a) a)<|.need (yi (je (aa 0 (List.length a) a) (b - c)))<|.leaf (.inl ((yj (je (aa 0 (List.length a) a) (b - c))),(yk (je (aa 0 (List.length a) a) (b - c))))))
    (.leaf (.inl (a,(List.length a))))
def Mr(a:Lv)(b:Lv)(c:Int)(d:List Int)(e:Nat) :(List Int)×Nat→aM:=fun (f,g)=>⟨an 54 [(7,.int .i64 c),(8,.imm a (.ns .u64 d) 1 1 0 e),(9,.imm b (.ns .u64 f) 1 1 0 g)],[],0⟩
def tD(a:List Int)(b:Int)(c:Int) :T (((List Int)×Nat)⊕(d9)) :=
  .ask (decide (b > c))
    (.need (ej .i64 (b - c))<|.need (aR 0 (List.length a) a)<|.need (yi (je (aa 0 (List.length a) a) (b - c)))<|.leaf (.inl ((yj (je (aa 0 (List.length a) a) (b - c))),(yk (je (aa 0 (List.length a) a) (b - c))))))
    (.leaf (.inl (a,(List.length a))))
def Kt(a:Int)(b:List Int)(c:Nat)(d:List Int)(e:Nat) :T ((Empty)⊕(d9)) :=
  .leaf (.inr (.r0 b c d e a))
def eJ(c:List Int)(a:Int)(d:List Int)(e:Int) :Option d9:=me (aH ((nO c a e).run) fun f =>
  aH ((nP a d f).run) fun b =>
  aH ((tC c a b).run) fun (g,h) =>
  aH ((tD d e b).run) fun (i,j) =>
  (Kt b g h i j).run)
theorem abB(k:Bool)(b:Lv)(e:List Int)(g:Int)(i:Bool)(c:Lv)(d:List Int)(f:Int){x:d9}(h:eJ e g d f=some x) :ax prog k6 [] [.agg [.bool false k,.imm b (.ns .u64 e) 1 1 0 (List.length e),.int .i64 g],.agg [.bool false i,.imm c (.ns .u64 d) 1 1 0 (List.length d),.int .i64 f]] (Hk b c x) :=
  Sg.contract true (Hk b c) (by kernel_rfl:prog.funcs[k6]? = some (FN k6)) (by kernel_rfl:(FN k6).body=some (bB k6)) (Sg.cut 4 yq (Sg.seg (C:=C0) ap qo 60 (tB.take 4) (aT (FN k6) [] [.agg [.bool false k,.imm b (.ns .u64 e) 1 1 0 (List.length e),.int .i64 g],.agg [.bool false i,.imm c (.ns .u64 d) 1 1 0 (List.length d),.int .i64 f]]) (nO e g f) (Mo k b e g i c d f) (sG b c) [⟨[],[0,16],[2,3,7]⟩,⟨[],[0,16],[2,3,7]⟩] (by kernel_rfl)) (fun n=>by exact Sg.cut 2 yq (Sg.seg (C:=C0) ap qo 60 ((tB.drop 4).take 2) (Mo k b e g i c d f n) (nP g d n) (Mp k b e g i c d f) (sG b c) [⟨[],[0,1],[2,3,7]⟩,⟨[],[0,1],[2,3,7]⟩] (by kernel_rfl)) (fun j=>by exact Sg.cut 3 yq (Sg.seg (C:=C0) ap qo 60 (((tB.drop 4).drop 2).take 3) (Mp k b e g i c d f j) (tC e g j) (Mq b i c d f j) (sG b c) [⟨[(.slot 8,.lev b)],[1],[3,7,8,9]⟩,⟨[],[1],[3,7,8,9]⟩] (by kernel_rfl)) (fun a=>by obtain ⟨l,m⟩:=a;exact Sg.cut 2 yq (Sg.seg (C:=C0) ap qo 60 ((((tB.drop 4).drop 2).drop 3).take 2) (Mq b i c d f j (l,m)) (tD d f j) (Mr b c j l m) (sG b c) [⟨[(.slot 9,.lev c)],[],[7,8,9]⟩,⟨[],[],[7,8,9]⟩] (by kernel_rfl)) (fun a=>by obtain ⟨o,p⟩:=a;exact Sg.seg (C:=C0) ap qo 60 ((((tB.drop 4).drop 2).drop 3).drop 2) (Mr b c j l m (o,p)) (Kt j l m o p) (fun a:Empty=>a.elim) (sG b c) [⟨[],[],[4,5,6]⟩] (by kernel_rfl))))))
    (fun x=>by cases x with | r0 q r s t u=>exact ⟨.inr rfl,[.imm b (.ns .u64 q) 1 1 0 r,.imm c (.ns .u64 s) 1 1 0 t,.int .i64 u],[],by kernel_rfl,trivial,by kernel_rfl⟩) h
def yr:Option d9→Bool
  | some _=>true
  | none=>false
def z4:Option d9→List Int
  | some (.r0 x _ _ _ _)=>x
  | _=>[]
def z5:Option d9→Nat
  | some (.r0 _ x _ _ _)=>x
  | _=>0
def z6:Option d9→List Int
  | some (.r0 _ _ x _ _)=>x
  | _=>[]
def z7:Option d9→Nat
  | some (.r0 _ _ _ x _)=>x
  | _=>0
def z8:Option d9→Int
  | some (.r0 _ _ _ _ x)=>x
  | _=>0
theorem abC{x:Option d9}(h:yr x=true) :x=some (.r0 (z4 x) (z5 x) (z6 x) (z7 x) (z8 x)):=by
  unfold yr at h
  split at h <;> first | rfl | (cases h;done) | (rename_i y;cases y;rfl)
def Ps:aL:=cn k6 (.cons (.agg (.cons .bool (.cons (.ns .u64) (.cons (.int .i64) .nil)))) (.cons (.agg (.cons .bool (.cons (.ns .u64) (.cons (.int .i64) .nil)))) .nil)) fun t=>[⟨Hk t.1.2.1.1 t.2.1.2.1.1 (.r0 (z4 (eJ t.1.2.1.2 t.1.2.2.1 t.2.1.2.1.2 t.2.1.2.2.1)) (z5 (eJ t.1.2.1.2 t.1.2.2.1 t.2.1.2.1.2 t.2.1.2.2.1)) (z6 (eJ t.1.2.1.2 t.1.2.2.1 t.2.1.2.1.2 t.2.1.2.2.1)) (z7 (eJ t.1.2.1.2 t.1.2.2.1 t.2.1.2.1.2 t.2.1.2.2.1)) (z8 (eJ t.1.2.1.2 t.1.2.2.1 t.2.1.2.1.2 t.2.1.2.2.1))),[yr (eJ t.1.2.1.2 t.1.2.2.1 t.2.1.2.1.2 t.2.1.2.2.1)]⟩]
theorem VJ:aV prog Ps:=aP fun t=>(aQ (fun h=>abB t.1.1 t.1.2.1.1 t.1.2.1.2 t.1.2.2.1 t.2.1.1 t.2.1.2.1.1 t.2.1.2.1.2 t.2.1.2.2.1 (abC h)) ba)
def Pt:List aL:=Ps :: XJ
theorem uA:bf prog (bi Pt):=aw VJ qo
end
end Go.Plb.Seat
