/-
  Part 3 of what the claim leans on: an evaluator of the model, proved sound; the contracts of the functions.
-/
import Derived.Test.YthikcnkmglbbbaaGreatDoorA2
namespace Go.Plb.Seat
open Go Go.Plb
set_option linter.unusedVariables false
set_option maxRecDepth 100000
noncomputable section
inductive dj where
  | r0 (a:Int)
def E3:dj→AE×aL
  | .r0 a=>(.ret,⟨ah 14 [(2,.int .i64 a)],[],0⟩)
def m4:dj→jc
  | .r0 a=>⟨.int .i64 a,[]⟩
def DZ:List Code:=bJ (bi di)
def mh(a:Int) :T ((Empty)⊕(dj)) :=
  .ask (a == (0:Int))
    (.leaf (.inr (.r0 (64:Int))))
    (.need (decide ((0:Int)≤(58:Int)))<|.need (iS (Int.fdiv (IntKind.u64.wrap ((fT .and .u64 a (IntKind.u64.wrap ((0:Int) - a))) * (285870213051353865:Int))) (2 ^ (min (Int.toNat (58:Int)) (IntKind.u64.bits)))) 64)<|.need (jC (l9 (l9 0 (adu (Int.toNat (Int.fdiv (IntKind.u64.wrap ((fT .and .u64 a (IntKind.u64.wrap ((0:Int) - a))) * (285870213051353865:Int))) (2 ^ (min (Int.toNat (58:Int)) (IntKind.u64.bits))))) 1)) 0) (List.length bx))<|.leaf (.inr (.r0 (IntKind.i64.wrap (List.getD bx (l9 (l9 0 (adu (Int.toNat (Int.fdiv (IntKind.u64.wrap ((fT .and .u64 a (IntKind.u64.wrap ((0:Int) - a))) * (285870213051353865:Int))) (2 ^ (min (Int.toNat (58:Int)) (IntKind.u64.bits))))) 1)) 0) 0)))))
def dU(a:Int) :Option dj:=ld ((mh a).run)
theorem D0(b:Int){x:dj}(h:dU b=some x) :aw prog di [] [.int .u64 b] (m4 x) :=
  Sg.contract false m4 (by kernel_rfl:prog.funcs[di]? = some (FN di)) (by kernel_rfl:(FN di).body=some (bi di)) (Sg.seg (C:=C0) an aup 60 DZ (aT (FN di) [] [.int .u64 b]) (mh b) (fun a:Empty=>a.elim) E3 [⟨[],[],[2]⟩,⟨[],[],[2]⟩] (by kernel_rfl))
    (fun x=>by cases x with | r0 c=>exact ⟨.inr rfl,[.int .i64 c],[],by kernel_rfl,trivial,by kernel_rfl⟩) h
def fU:Option dj→Bool
  | some _=>true
  | none=>false
def fC:Option dj→Int
  | some (.r0 x)=>x
  | _=>0
theorem D1{x:Option dj}(h:fU x=true) :x=some (.r0 (fC x)):=by
  unfold fU at h
  split at h <;> first | rfl | (cases h;done) | (rename_i y;cases y;rfl)
def tP:aJ:=bW di (.cons (.int .u64) .nil) fun t=>[⟨m4 (.r0 (fC (dU t.1))),[fU (dU t.1)]⟩]
theorem Bp:aU prog tP:=aO fun t=>(aP (fun h=>D0 t.1 (D1 h)) aW)
def tQ:List aJ:=tP :: L3
theorem kT:aY prog (bb tQ):=au Bp aup
inductive fG where
  | r0 (a:Int) (b:Int)
def zG:fG→AE×aL
  | .r0 a b=>(.ret,⟨ah 51 [(4,.int .u64 a),(5,.int .u64 b)],[],0⟩)
theorem UH:kR zG:=by intro x;cases x <;> (intro h;cases h)
def zH:fG→jc
  | .r0 a b=>⟨.tup [.int .u64 a,.int .u64 b],[]⟩
def Gb:List Code:=bJ (bi iK)
def Gc(a:Int)(b:Int) :Int×Int×Int×Int→aL:=fun (c,d,e,f)=>⟨ah 51 [(0,.int .u64 a),(1,.int .u64 b),(6,.int .u64 c),(7,.int .u64 d),(9,.int .u64 e),(11,.int .u64 f)],[],0⟩
def yr(a:Int)(b:Int) :T ((Int×Int×Int×Int)⊕(fG)) :=
  .need (decide ((0:Int)≤(32:Int)))<|.need (decide ((0:Int)≤(32:Int)))<|.need (decide ((0:Int)≤(32:Int)))<|.leaf (.inl ((fT .and .u64 a (4294967295:Int)),(Int.fdiv a (2 ^ (min (Int.toNat (32:Int)) (IntKind.u64.bits)))),(Int.fdiv b (2 ^ (min (Int.toNat (32:Int)) (IntKind.u64.bits)))),(IntKind.u64.wrap ((IntKind.u64.wrap ((Int.fdiv a (2 ^ (min (Int.toNat (32:Int)) (IntKind.u64.bits)))) * (fT .and .u64 b (4294967295:Int))))+(Int.fdiv (IntKind.u64.wrap ((fT .and .u64 a (4294967295:Int)) * (fT .and .u64 b (4294967295:Int)))) (2 ^ (min (Int.toNat (32:Int)) (IntKind.u64.bits))))))))
def r5(c:Int)(d:Int)(e:Int)(f:Int)(a:Int)(b:Int) :T ((Empty)⊕(fG)) :=
  .need (decide ((0:Int)≤(32:Int)))<|.need (decide ((0:Int)≤(32:Int)))<|.leaf (.inr (.r0 (IntKind.u64.wrap ((IntKind.u64.wrap ((IntKind.u64.wrap (f * a))+(Int.fdiv b (2 ^ (min (Int.toNat (32:Int)) (IntKind.u64.bits))))))+(Int.fdiv (IntKind.u64.wrap ((fT .and .u64 b (4294967295:Int))+(IntKind.u64.wrap (e * a)))) (2 ^ (min (Int.toNat (32:Int)) (IntKind.u64.bits)))))) (IntKind.u64.wrap (c * d))))
def fH(a:Int)(b:Int) :Option fG:=ld (aC ((yr a b).run) fun (c,d,e,f) =>
  (r5 a b c d e f).run)
theorem UI(b:Int)(c:Int){x:fG}(h:fH b c=some x) :aw prog iK [] [.int .u64 b,.int .u64 c] (zH x) :=
  Sg.contract false zH (by kernel_rfl:prog.funcs[iK]? = some (FN iK)) (by kernel_rfl:(FN iK).body=some (bi iK)) (Sg.cut 7 UH (Sg.seg (C:=C0) an kT 60 (Gb.take 7) (aT (FN iK) [] [.int .u64 b,.int .u64 c]) (yr b c) (Gc b c) zG [⟨[],[],[0,1,6,7,9,11]⟩] (by kernel_rfl)) (fun a=>by obtain ⟨d,e,f,g⟩:=a;exact Sg.seg (C:=C0) an kT 60 (Gb.drop 7) (Gc b c (d,e,f,g)) (r5 b c d e f g) (fun a:Empty=>a.elim) zG [⟨[],[],[4,5]⟩] (by kernel_rfl)))
    (fun x=>by cases x with | r0 i j=>exact ⟨.inr rfl,[.int .u64 i,.int .u64 j],[],by kernel_rfl,trivial,by kernel_rfl⟩) h
def oh:Option fG→Bool
  | some _=>true
  | none=>false
def pK:Option fG→Int
  | some (.r0 x _)=>x
  | _=>0
def jE:Option fG→Int
  | some (.r0 _ x)=>x
  | _=>0
theorem UJ{x:Option fG}(h:oh x=true) :x=some (.r0 (pK x) (jE x)):=by
  unfold oh at h
  split at h <;> first | rfl | (cases h;done) | (rename_i y;cases y;rfl)
def HX:aJ:=bW iK (.cons (.int .u64) (.cons (.int .u64) .nil)) fun t=>[⟨zH (.r0 (pK (fH t.1 t.2.1)) (jE (fH t.1 t.2.1))),[oh (fH t.1 t.2.1)]⟩]
theorem NU:aU prog HX:=aO fun t=>(aP (fun h=>UI t.1 t.2.1 (UJ h)) aW)
def HY:List aJ:=HX :: tQ
theorem lN:aY prog (bb HY):=au NU kT
inductive kU where
  | r0 (a:List Int) (b:Nat)
def yu(a:Lv) :kU→AE×aL
  | .r0 b c=>(.ret,⟨ah 21 [(2,.imm a (.ns .u64 b) 1 1 0 c)],[],0⟩)
theorem HZ{a:Lv} :kR (yu a):=by intro x;cases x <;> (intro h;cases h)
theorem ann{a:Lv}(id:Nat) :qE id (yu a):=by intro x;cases x <;> (intro h;cases h)
def UK(a:Lv) :kU→jc
  | .r0 b c=>⟨.imm a (.ns .u64 b) 1 1 0 c,[]⟩
def Dw:List Code:=bJ (bi gO)
def aaq(b:Lv)(a:List Int)(_:Unit) :aL:=⟨ah 21 [(0,.imm b (.ns .u64 a) 1 1 0 (List.length a))],[],0⟩
def aar:T ((Unit)⊕(kU)) :=
  .leaf (.inl ())
def yT(a:Lv)(b:List Int)(c:Nat) :aL:=⟨ah 21 [(0,.imm a (.ns .u64 b) 1 1 0 c)],[],0⟩
def Dx(a:Lv)(b:List Int)(c:Nat) :aL:=⟨ah 21 [(0,.imm a (.ns .u64 b) 1 1 0 c)],[],0⟩
def K4:List Code:=bJ (bK ((((Dw.drop 1).take 1)).headD .skip))
def aas(a:Lv)(b:List Int)(c:Nat)(d:Bool) :aL:=⟨ah 21 [(0,.imm a (.ns .u64 b) 1 1 0 c),(14,.bool false d)],[],0⟩
def vr(b:List Int)(a:Nat) :T ((Bool)⊕((Nat)⊕(kU))) :=
  .ask (decide (((a:Nat):Int) > (0:Int)))
    (.need (d8 .i64 (((a:Nat):Int) - (1:Int)))<|.need (iS (((a:Nat):Int) - (1:Int)) a)<|.need (jC (Int.toNat (((a:Nat):Int) - (1:Int))) (List.length b))<|.leaf (.inl ((List.getD b (Int.toNat (((a:Nat):Int) - (1:Int))) 0) == (0:Int))))
    (.leaf (.inl false))
def K5(a:Nat)(b:Bool) :T ((Nat)⊕((Nat)⊕(kU))) :=
  .ask b
    (.need (d8 .i64 (((a:Nat):Int) - (1:Int)))<|.need (Rm (((a:Nat):Int) - (1:Int)) a)<|.need (Rm (0:Int) (Int.toNat (((a:Nat):Int) - (1:Int))))<|.leaf (.inl (Int.toNat (((a:Nat):Int) - (1:Int)))))
    (.leaf (.inr (.inl a)))
def K6(b:List Int) :Nat→Option ((Nat)⊕((Nat)⊕(kU))):=fun a =>
  aC ((vr b a).run) fun c =>
  (K5 a c).run
theorem akI(a:Lv)(b:List Int)(c:Nat) :Sg prog [] K4 (yT a b c) (K6 b c) (yT a b) (aN 0 (Dx a b) (yu a)):=by
  unfold K6;exact Sg.cut 1 (aI HZ) (Sg.seg (C:=C0) an lN 60 (K4.take 1) (yT a b c) (vr b c) (aas a b c) (aN 0 (Dx a b) (yu a)) [⟨[],[],[0,14]⟩,⟨[],[],[0,14]⟩] (by kernel_rfl)) (fun d=>by exact Sg.seg (C:=C0) an lN 60 (K4.drop 1) (aas a b c d) (K5 c d) (yT a b) (aN 0 (Dx a b) (yu a)) [⟨[],[],[0]⟩,⟨[],[],[0]⟩] (by kernel_rfl))
def ano(a:Lv)(b:List Int) :Nat→aL:=Dx a b
def V7(a:List Int)(b:Nat) :T ((Empty)⊕(kU)) :=
  .leaf (.inr (.r0 a b))
def aH(a:List Int) :Option kU:=ld (aC ((aar).run) fun _ =>
  aC (dM (K6 a) (List.length a)) fun b =>
  (V7 a b).run)
theorem anp(c:Lv)(b:List Int){x:kU}(h:aH b=some x) :aw prog gO [] [.imm c (.ns .u64 b) 1 1 0 (List.length b)] (UK c x) :=
  Sg.contract false (UK c) (by kernel_rfl:prog.funcs[gO]? = some (FN gO)) (by kernel_rfl:(FN gO).body=some (bi gO)) (Sg.cut 1 HZ (Sg.seg (C:=C0) an lN 60 (Dw.take 1) (aT (FN gO) [] [.imm c (.ns .u64 b) 1 1 0 (List.length b)]) (aar) (aaq c b) (yu c) [⟨[],[],[0]⟩] (by kernel_rfl)) (fun a=>by cases a;exact Sg.cut 1 HZ (Sg.pre ⟨[],[],[0]⟩ rfl (by kernel_rfl:NS.on ⟨[],[],[0]⟩ (aaq c b ())=(yT c b) (List.length b)) (bU (I:=(yT c b)) (J:=(Dx c b)) (id:=0) (by kernel_rfl:((Dw.drop 1).take 1) = [.block 0 (.loop (bK ((((Dw.drop 1).take 1)).headD .skip)))]) HZ (ann _) (fun s=>by exact akI c b s) (List.length b))) (fun d=>by exact Sg.seg (C:=C0) an lN 60 ((Dw.drop 1).drop 1) (ano c b d) (V7 b d) (fun a:Empty=>a.elim) (yu c) [⟨[],[],[2]⟩] (by kernel_rfl))))
    (fun x=>by cases x with | r0 e f=>exact ⟨.inr rfl,[.imm c (.ns .u64 e) 1 1 0 f],[],by kernel_rfl,trivial,by kernel_rfl⟩) h
def cW:Option kU→Bool
  | some _=>true
  | none=>false
def bg:Option kU→List Int
  | some (.r0 x _)=>x
  | _=>[]
def aS:Option kU→Nat
  | some (.r0 _ x)=>x
  | _=>0
theorem anq{x:Option kU}(h:cW x=true) :x=some (.r0 (bg x) (aS x)):=by
  unfold cW at h
  split at h <;> first | rfl | (cases h;done) | (rename_i y;cases y;rfl)
def aei:aJ:=bW gO (.cons (.ns .u64) .nil) fun t=>[⟨UK t.1.1 (.r0 (bg (aH t.1.2)) (aS (aH t.1.2))),[cW (aH t.1.2)]⟩]
theorem ahb:aU prog aei:=aO fun t=>(aP (fun h=>anp t.1.1 t.1.2 (anq h)) aW)
def aej:List aJ:=aei :: HY
theorem IK:aY prog (bb aej):=au ahb lN
inductive oi where
  | r0 (a:Nat) (b:Nat) (c:List Int)
def UL:oi→AE×aL
  | .r0 a b c=>(.ret,⟨ah 12 [(2,.sl 0 1 1 0 a a),(3,.int .i64 ((b:Nat):Int))],[(0,.ns .u64 c)],1⟩)
theorem anr:kR UL:=by intro x;cases x <;> (intro h;cases h)
def UM:oi→jc
  | .r0 a b c=>⟨.tup [.imm .free (.ns .u64 c) 1 1 0 a,.int .i64 ((b:Nat):Int)],[]⟩
def aat:List Code:=bJ (bi rU)
def aau(a:Lv) :Nat×(List Int)×Nat→aL:=fun (b,c,d)=>⟨ah 12 [(1,.ptr 0 1 0 0),(4,.int .i64 ((b:Nat):Int))],[(0,.vs [.imm a (.ns .u64 c) 1 1 0 d])],1⟩
def H0(a:List Int) :T ((Nat×(List Int)×Nat)⊕(oi)) :=
  .ask (decide ((0:Int) < (1:Int)))
    (.need (iS (0:Int) 1)<|.need (aQ 0 (List.length a) a)<|.need (cW (aH (aa 0 (List.length a) a)))<|.ask (decide ((((aS (aH (aa 0 (List.length a) a))):Nat):Int) > (4096:Int)))
      (.leaf (.inl (2,(bg (aH (aa 0 (List.length a) a))),(aS (aH (aa 0 (List.length a) a))))))
      (.need (d8 .i64 (1:Int))<|.ask (decide ((1:Int) < (1:Int)))
        (.fail)
        (.leaf (.inl (0,(bg (aH (aa 0 (List.length a) a))),(aS (aH (aa 0 (List.length a) a))))))))
    (.fail)
def H3(c:Nat)(a:List Int)(b:Nat) :T ((Empty)⊕(oi)) :=
  .ask (((c:Nat):Int) != (0:Int))
    (.leaf (.inr (.r0 0 c ([]:List Int))))
    (.need (aQ 0 b a)<|.need (Be (List.length (aa 0 b a)))<|.leaf (.inr (.r0 (List.length (aa 0 b a)) 0 (aa 0 b a))))
def oj(a:List Int) :Option oi:=ld (aC ((H0 a).run) fun (b,c,d) =>
  (H3 b c d).run)
theorem ans(c:Lv)(b:List Int){x:oi}(h:oj b=some x) :aw prog rU [] [.imm c (.ns .u64 b) 1 1 0 (List.length b)] (UM x) :=
  Sg.contract true UM (by kernel_rfl:prog.funcs[rU]? = some (FN rU)) (by kernel_rfl:(FN rU).body=some (bi rU)) (Sg.cut 2 anr (Sg.seg (C:=C0) an IK 60 (aat.take 2) (aT (FN rU) [] [.imm c (.ns .u64 b) 1 1 0 (List.length b)]) (H0 b) (aau c) UL [⟨[],[0],[1,4]⟩,⟨[],[0],[1,4]⟩] (by kernel_rfl)) (fun a=>by obtain ⟨d,e,f⟩:=a;exact Sg.seg (C:=C0) an IK 60 (aat.drop 2) (aau c (d,e,f)) (H3 d e f) (fun a:Empty=>a.elim) UL [⟨[(.slot 2,.own 1 1 (.ns .u64 ([]:List Int)))],[81],[2,3]⟩,⟨[],[49],[2,3]⟩] (by kernel_rfl)))
    (fun x=>by cases x with | r0 g i j=>exact ⟨.inr rfl,[.sl 0 1 1 0 g g,.int .i64 ((i:Nat):Int)],[],by kernel_rfl,trivial,by kernel_rfl⟩) h
def Dy:Option oi→Bool
  | some _=>true
  | none=>false
def IL:Option oi→Nat
  | some (.r0 x _ _)=>x
  | _=>0
def IM:Option oi→Nat
  | some (.r0 _ x _)=>x
  | _=>0
def IN:Option oi→List Int
  | some (.r0 _ _ x)=>x
  | _=>[]
theorem ant{x:Option oi}(h:Dy x=true) :x=some (.r0 (IL x) (IM x) (IN x)):=by
  unfold Dy at h
  split at h <;> first | rfl | (cases h;done) | (rename_i y;cases y;rfl)
def aek:aJ:=bW rU (.cons (.ns .u64) .nil) fun t=>[⟨UM (.r0 (IL (oj t.1.2)) (IM (oj t.1.2)) (IN (oj t.1.2))),[Dy (oj t.1.2)]⟩]
theorem ahc:aU prog aek:=aO fun t=>(aP (fun h=>ans t.1.1 t.1.2 (ant h)) aW)
def ael:List aJ:=aek :: aej
theorem wy:aY prog (bb ael):=au ahc IK
inductive eT where
  | r0 (a:Nat) (b:Nat) (c:Nat) (d:List Int)
def qk:eT→AE×aL
  | .r0 a b c d=>(.ret,⟨ah 21 [(2,.sl 0 1 1 a b c)],[(0,.ns .u64 d)],1⟩)
theorem zI:kR qk:=by intro x;cases x <;> (intro h;cases h)
theorem aem(id:Nat) :qE id qk:=by intro x;cases x <;> (intro h;cases h)
def IO:eT→jc
  | .r0 a b c d=>⟨.sl 0 1 1 a b c,[some (.ns .u64 d)]⟩
def uf:List Code:=bJ (bi gO)
def NV(a:List Int)(b:Nat)(c:Nat)(d:Nat)(_:Unit) :aL:=⟨ah 21 [(0,.sl 0 1 1 b c d)],[(0,.ns .u64 a)],1⟩
def NW:T ((Unit)⊕(eT)) :=
  .leaf (.inl ())
def qO(a:List Int)(b:Nat) :Nat×Nat→aL:=fun (c,d)=>⟨ah 21 [(0,.sl 0 1 1 c d b)],[(0,.ns .u64 a)],1⟩
def ug(a:List Int)(b:Nat) :Nat×Nat→aL:=fun (c,d)=>⟨ah 21 [(0,.sl 0 1 1 c d b)],[(0,.ns .u64 a)],1⟩
def D2:List Code:=bJ (bK ((((uf.drop 1).take 1)).headD .skip))
def NX(a:List Int)(b:Nat)(c:Nat)(d:Nat)(e:Bool) :aL:=⟨ah 21 [(0,.sl 0 1 1 c d b),(14,.bool false e)],[(0,.ns .u64 a)],1⟩
def oM(b:List Int)(c:Nat)(a:Nat) :T ((Bool)⊕((Nat×Nat)⊕(eT))) :=
  .ask (decide (((a:Nat):Int) > (0:Int)))
    (.need (d8 .i64 (((a:Nat):Int) - (1:Int)))<|.need (iS (((a:Nat):Int) - (1:Int)) a)<|.need (jC (l9 c (Int.toNat (((a:Nat):Int) - (1:Int)))) (List.length b))<|.leaf (.inl ((List.getD b (l9 c (Int.toNat (((a:Nat):Int) - (1:Int)))) 0) == (0:Int))))
    (.leaf (.inl false))
def D3(c:Nat)(b:Nat)(a:Nat)(d:Bool) :T ((Nat×Nat)⊕((Nat×Nat)⊕(eT))) :=
  .ask d
    (.need (d8 .i64 (((a:Nat):Int) - (1:Int)))<|.need (Rm (((a:Nat):Int) - (1:Int)) c)<|.need (Rm (0:Int) (Int.toNat (((a:Nat):Int) - (1:Int))))<|.leaf (.inl ((l9 b 0),(Int.toNat (((a:Nat):Int) - (1:Int))))))
    (.leaf (.inr (.inl (b,a))))
def D4(c:List Int)(d:Nat) :Nat×Nat→Option ((Nat×Nat)⊕((Nat×Nat)⊕(eT))):=fun (a,b) =>
  aC ((oM c a b).run) fun e =>
  (D3 d a b e).run
theorem acw(a:List Int)(b:Nat)(c:Nat)(d:Nat) :Sg prog [.ns .u64 a] D2 (qO a b (c,d)) (D4 a b (c,d)) (qO a b) (aN 0 (ug a b) qk):=by
  unfold D4;exact Sg.cut 1 (aI zI) (Sg.seg (C:=C0) an wy 60 (D2.take 1) (qO a b (c,d)) (oM a c d) (NX a b c d) (aN 0 (ug a b) qk) [⟨[],[0],[0,14]⟩,⟨[],[0],[0,14]⟩] (by kernel_rfl)) (fun e=>by exact Sg.seg (C:=C0) an wy 60 (D2.drop 1) (NX a b c d e) (D3 b c d e) (qO a b) (aN 0 (ug a b) qk) [⟨[],[0],[0]⟩,⟨[],[0],[0]⟩] (by kernel_rfl))
def aen(a:List Int)(b:Nat) :Nat×Nat→aL:=ug a b
def MQ(a:List Int)(b:Nat)(c:Nat)(d:Nat) :T ((Empty)⊕(eT)) :=
  .leaf (.inr (.r0 c d b a))
def bO(a:List Int)(c:Nat)(d:Nat)(b:Nat) :Option eT:=ld (aC ((NW).run) fun _ =>
  aC (dM (D4 a b) (c,d)) fun (e,f) =>
  (MQ a b e f).run)
theorem aeo(b:List Int)(d:Nat)(e:Nat)(c:Nat){x:eT}(h:bO b d e c=some x) :aw prog gO [.ns .u64 b] [.sl 0 1 1 d e c] (IO x) :=
  Sg.contract false IO (by kernel_rfl:prog.funcs[gO]? = some (FN gO)) (by kernel_rfl:(FN gO).body=some (bi gO)) (Sg.cut 1 zI (Sg.seg (C:=C0) an wy 60 (uf.take 1) (aT (FN gO) [.ns .u64 b] [.sl 0 1 1 d e c]) (NW) (NV b d e c) qk [⟨[],[0],[0]⟩] (by kernel_rfl)) (fun a=>by cases a;exact Sg.cut 1 zI (Sg.pre ⟨[],[0],[0]⟩ rfl (by kernel_rfl:NS.on ⟨[],[0],[0]⟩ (NV b d e c ())=(qO b c) (d,e)) (bU (I:=(qO b c)) (J:=(ug b c)) (id:=0) (by kernel_rfl:((uf.drop 1).take 1) = [.block 0 (.loop (bK ((((uf.drop 1).take 1)).headD .skip)))]) zI (aem _) (fun s=>by obtain ⟨i,j⟩:=s;exact acw b c i j) (d,e))) (fun a=>by obtain ⟨f,g⟩:=a;exact Sg.seg (C:=C0) an wy 60 ((uf.drop 1).drop 1) (aen b c (f,g)) (MQ b c f g) (fun a:Empty=>a.elim) qk [⟨[],[0],[2]⟩] (by kernel_rfl))))
    (fun x=>by cases x with | r0 k l m n=>exact ⟨.inr rfl,[.sl 0 1 1 k l m],[],by kernel_rfl,trivial,by kernel_rfl⟩) h
def lP:Option eT→Bool
  | some _=>true
  | none=>false
def kV:Option eT→Nat
  | some (.r0 x _ _ _)=>x
  | _=>0
def kW:Option eT→Nat
  | some (.r0 _ x _ _)=>x
  | _=>0
def kX:Option eT→Nat
  | some (.r0 _ _ x _)=>x
  | _=>0
def kY:Option eT→List Int
  | some (.r0 _ _ _ x)=>x
  | _=>[]
theorem aep{x:Option eT}(h:lP x=true) :x=some (.r0 (kV x) (kW x) (kX x) (kY x)):=by
  unfold lP at h
  split at h <;> first | rfl | (cases h;done) | (rename_i y;cases y;rfl)
def Rx:aJ:=am3 gO [.ns .u64] (.cons (.lsl 0) .nil) fun x t=>[⟨IO (.r0 (kV (bO x.1 t.1.1 t.1.2.1 t.1.2.2)) (kW (bO x.1 t.1.1 t.1.2.1 t.1.2.2)) (kX (bO x.1 t.1.1 t.1.2.1 t.1.2.2)) (kY (bO x.1 t.1.1 t.1.2.1 t.1.2.2))),[lP (bO x.1 t.1.1 t.1.2.1 t.1.2.2)]⟩]
theorem Zi:aU prog Rx:=aea fun x t=>(Q0 (fun h=>aeo x.1 t.1.1 t.1.2.1 t.1.2.2 (aep h)) aeb)
def Ry:List aJ:=Rx :: ael
theorem Bq:aY prog (bb Ry):=au Zi wy
inductive sC where
  | r0 (a:Nat) (b:Nat) (c:Nat) (d:List Int)
def aeq:sC→AE×aL
  | .r0 a b c d=>(.ret,⟨ah 6 [(2,.sl 0 1 1 a b c)],[(0,.ns .u64 d)],1⟩)
theorem aru:kR aeq:=by intro x;cases x <;> (intro h;cases h)
def aer:sC→jc
  | .r0 a b d c=>⟨.imm .free (.ns .u64 c) 1 1 a b,[]⟩
def ajl:List Code:=bJ (bi zu)
def ajm:Nat×Nat×Nat×(List Int)→aL:=fun (a,b,c,d)=>⟨ah 6 [(2,.sl 0 1 1 a b c)],[(0,.ns .u64 d)],1⟩
def Zj(a:Int) :T ((Nat×Nat×Nat×(List Int))⊕(sC)) :=
  .need (lP (bO [a] 0 1 1))<|.leaf (.inl ((kV (bO [a] 0 1 1)),(kW (bO [a] 0 1 1)),(kX (bO [a] 0 1 1)),(kY (bO [a] 0 1 1))))
def ajn(a:Nat)(b:Nat)(c:Nat)(d:List Int) :T ((Empty)⊕(sC)) :=
  .leaf (.inr (.r0 a b c d))
def ch(a:Int) :Option sC:=ld (aC ((Zj a).run) fun (b,c,d,e) =>
  (ajn b c d e).run)
theorem arv(b:Int){x:sC}(h:ch b=some x) :aw prog zu [] [.int .u64 b] (aer x) :=
  Sg.contract true aer (by kernel_rfl:prog.funcs[zu]? = some (FN zu)) (by kernel_rfl:(FN zu).body=some (bi zu)) (Sg.cut 2 aru (Sg.seg (C:=C0) an Bq 60 (ajl.take 2) (aT (FN zu) [] [.int .u64 b]) (Zj b) ajm aeq [⟨[],[32],[2]⟩] (by kernel_rfl)) (fun a=>by obtain ⟨c,d,e,f⟩:=a;exact Sg.seg (C:=C0) an Bq 60 (ajl.drop 2) (ajm (c,d,e,f)) (ajn c d e f) (fun a:Empty=>a.elim) aeq [⟨[],[0],[2]⟩] (by kernel_rfl)))
    (fun x=>by cases x with | r0 g i j k=>exact ⟨.inr rfl,[.sl 0 1 1 g i j],[],by kernel_rfl,trivial,by kernel_rfl⟩) h
def Br:Option sC→Bool
  | some _=>true
  | none=>false
def fg:Option sC→Nat
  | some (.r0 x _ _ _)=>x
  | _=>0
def fh:Option sC→Nat
  | some (.r0 _ x _ _)=>x
  | _=>0
def aav:Option sC→Nat
  | some (.r0 _ _ x _)=>x
  | _=>0
def fi:Option sC→List Int
  | some (.r0 _ _ _ x)=>x
  | _=>[]
theorem arw{x:Option sC}(h:Br x=true) :x=some (.r0 (fg x) (fh x) (aav x) (fi x)):=by
  unfold Br at h
  split at h <;> first | rfl | (cases h;done) | (rename_i y;cases y;rfl)
def anu:aJ:=bW zu (.cons (.int .u64) .nil) fun t=>[⟨aer (.r0 (fg (ch t.1)) (fh (ch t.1)) (aav (ch t.1)) (fi (ch t.1))),[Br (ch t.1)]⟩]
theorem anv:aU prog anu:=aO fun t=>(aP (fun h=>arv t.1 (arw h)) aW)
def anw:List aJ:=anu :: Ry
theorem H4:aY prog (bb anw):=au anv Bq
inductive qP where
  | r0 (a:Int)
def F0:qP→AE×aL
  | .r0 a=>(.ret,⟨ah 45 [(4,.int .i64 a)],[],0⟩)
theorem UN:kR F0:=by intro x;cases x <;> (intro h;cases h)
theorem apj(id:Nat) :qE id F0:=by intro x;cases x <;> (intro h;cases h)
def Zk:qP→jc
  | .r0 a=>⟨.int .i64 a,[]⟩
def Gd:List Code:=bJ (bi yR)
def aes(c:Lv)(a:List Int)(d:Lv)(b:List Int)(e:Int) :aL:=⟨ah 45 [(0,.imm c (.ns .u64 a) 1 1 0 (List.length a)),(1,.imm d (.ns .u64 b) 1 1 0 (List.length b)),(5,.int .i64 e)],[],0⟩
def Ge(a:List Int)(b:List Int) :T ((Int)⊕(qP)) :=
  .ask (decide ((((List.length a):Nat):Int) < (((List.length b):Nat):Int)))
    (.leaf (.inr (.r0 (-1:Int))))
    (.ask (decide ((((List.length a):Nat):Int) > (((List.length b):Nat):Int)))
      (.leaf (.inr (.r0 (1:Int))))
      (.need (d8 .i64 ((((List.length a):Nat):Int) - (1:Int)))<|.leaf (.inl ((((List.length a):Nat):Int) - (1:Int)))))
def Bs(c:Lv)(a:List Int)(d:Lv)(b:List Int)(e:Int) :aL:=⟨ah 45 [(0,.imm c (.ns .u64 a) 1 1 0 (List.length a)),(1,.imm d (.ns .u64 b) 1 1 0 (List.length b)),(5,.int .i64 e)],[],0⟩
def K7(_:Unit) :aL:=⟨ah 45 [],[],0⟩
def aet:List Code:=bJ (bK ((((Gd.drop 3).take 1)).headD .skip))
def Bt(b:List Int)(c:List Int)(a:Int) :T ((Int)⊕((Unit)⊕(qP))) :=
  .ask (decide (a ≥ (0:Int)))
    (.need (iS a (List.length b))<|.need (jC (Int.toNat a) (List.length b))<|.need (iS a (List.length c))<|.need (jC (Int.toNat a) (List.length c))<|.ask (decide ((List.getD b (Int.toNat a) 0) < (List.getD c (Int.toNat a) 0)))
      (.leaf (.inr (.inr (.r0 (-1:Int)))))
      (.need (iS a (List.length b))<|.need (jC (Int.toNat a) (List.length b))<|.need (iS a (List.length c))<|.need (jC (Int.toNat a) (List.length c))<|.ask (decide ((List.getD b (Int.toNat a) 0) > (List.getD c (Int.toNat a) 0)))
        (.leaf (.inr (.inr (.r0 (1:Int)))))
        (.need (d8 .i64 (a - (1:Int)))<|.leaf (.inl (a - (1:Int))))))
    (.leaf (.inr (.inl ())))
def H5(a:List Int)(b:List Int) :Int→Option ((Int)⊕((Unit)⊕(qP))):=fun c =>
  (Bt a b c).run
theorem anx(c:Lv)(a:List Int)(d:Lv)(b:List Int)(e:Int) :Sg prog [] aet (Bs c a d b e) (H5 a b e) (Bs c a d b) (aN 1 K7 F0):=by
  unfold H5;exact Sg.seg (C:=C0) an H4 60 aet (Bs c a d b e) (Bt a b e) (Bs c a d b) (aN 1 K7 F0) [⟨[],[],[4]⟩,⟨[],[],[4]⟩,⟨[],[],[0,1,5]⟩,⟨[],[],[]⟩] (by kernel_rfl)
def apk:Unit→aL:=K7
def aaw:T ((Empty)⊕(qP)) :=
  .leaf (.inr (.r0 (0:Int)))
def yU(a:List Int)(b:List Int) :Option qP:=ld (aC ((Ge a b).run) fun c =>
  aC (dM (H5 a b) c) fun _ =>
  (aaw).run)
theorem apl(d:Lv)(b:List Int)(e:Lv)(c:List Int){x:qP}(h:yU b c=some x) :aw prog yR [] [.imm d (.ns .u64 b) 1 1 0 (List.length b),.imm e (.ns .u64 c) 1 1 0 (List.length c)] (Zk x) :=
  Sg.contract false Zk (by kernel_rfl:prog.funcs[yR]? = some (FN yR)) (by kernel_rfl:(FN yR).body=some (bi yR)) (Sg.cut 3 UN (Sg.seg (C:=C0) an H4 60 (Gd.take 3) (aT (FN yR) [] [.imm d (.ns .u64 b) 1 1 0 (List.length b),.imm e (.ns .u64 c) 1 1 0 (List.length c)]) (Ge b c) (aes d b e c) F0 [⟨[],[],[4]⟩,⟨[],[],[4]⟩,⟨[],[],[0,1,5]⟩] (by kernel_rfl)) (fun f=>by exact Sg.cut 1 UN (Sg.pre ⟨[],[],[0,1,5]⟩ rfl (by kernel_rfl:NS.on ⟨[],[],[0,1,5]⟩ (aes d b e c f)=(Bs d b e c) f) (bU (I:=(Bs d b e c)) (J:=(K7)) (id:=1) (by kernel_rfl:((Gd.drop 3).take 1) = [.block 1 (.loop (bK ((((Gd.drop 3).take 1)).headD .skip)))]) UN (apj _) (fun s=>by exact anx d b e c s) f)) (fun a=>by cases a;exact Sg.seg (C:=C0) an H4 60 ((Gd.drop 3).drop 1) (apk ()) (aaw) (fun a:Empty=>a.elim) F0 [⟨[],[],[4]⟩] (by kernel_rfl))))
    (fun x=>by cases x with | r0 g=>exact ⟨.inr rfl,[.int .i64 g],[],by kernel_rfl,trivial,by kernel_rfl⟩) h
def Gf:Option qP→Bool
  | some _=>true
  | none=>false
def E4:Option qP→Int
  | some (.r0 x)=>x
  | _=>0
theorem apm{x:Option qP}(h:Gf x=true) :x=some (.r0 (E4 x)):=by
  unfold Gf at h
  split at h <;> first | rfl | (cases h;done) | (rename_i y;cases y;rfl)
def ajo:aJ:=bW yR (.cons (.ns .u64) (.cons (.ns .u64) .nil)) fun t=>[⟨Zk (.r0 (E4 (yU t.1.2 t.2.1.2))),[Gf (yU t.1.2 t.2.1.2)]⟩]
theorem akJ:aU prog ajo:=aO fun t=>(aP (fun h=>apl t.1.1 t.1.2 t.2.1.1 t.2.1.2 (apm h)) aW)
def ajp:List aJ:=ajo :: anw
theorem E5:aY prog (bb ajp):=au akJ H4
inductive qQ where
  | r0 (a:Int) (b:Nat)
def Q5:qQ→AE×aL
  | .r0 a b=>(.ret,⟨ah 15 [(4,.int .i64 a),(5,.int .i64 ((b:Nat):Int))],[],0⟩)
theorem aeu:kR Q5:=by intro x;cases x <;> (intro h;cases h)
def Zl:qQ→jc
  | .r0 a b=>⟨.tup [.int .i64 a,.int .i64 ((b:Nat):Int)],[]⟩
def UO:List Code:=bJ (bi vk)
def aev(a:Lv)(b:Lv) :Nat×(List Int)×Nat×(List Int)×Nat→aL:=fun (c,d,e,f,g)=>⟨ah 15 [(2,.ptr 0 1 0 0),(3,.ptr 1 1 0 0),(6,.int .i64 ((c:Nat):Int))],[(0,.vs [.imm a (.ns .u64 d) 1 1 0 e]),(1,.vs [.imm b (.ns .u64 f) 1 1 0 g])],2⟩
def UP(a : List Int)(b : List Int) : T ((Nat × (List Int) × Nat × (List Int) × Nat) ⊕ (qQ)) :=
  .ask (decide ((0:Int) < (2:Int)))
    (.need (iS (0:Int) 2)<|.need (aQ 0 (List.length a) a)<|.need (cW (aH (aa 0 (List.length a) a)))<|.ask (decide ((((aS (aH (aa 0 (List.length a) a))):Nat):Int) > (4096:Int)))
      (.leaf (.inl (2,(bg (aH (aa 0 (List.length a) a))),(aS (aH (aa 0 (List.length a) a))),b,(List.length b))))
      (.need (d8 .i64 (1:Int))<|.ask (decide ((1:Int) < (2:Int)))
        (.need (iS (1:Int) 2)<|.need (aQ 0 (List.length b) b)<|.need (cW (aH (aa 0 (List.length b) b)))<|.ask (decide ((((aS (aH (aa 0 (List.length b) b))):Nat):Int) > (4096:Int)))
          (.leaf (.inl (2,(bg (aH (aa 0 (List.length a) a))),(aS (aH (aa 0 (List.length a) a))),(bg (aH (aa 0 (List.length b) b))),(aS (aH (aa 0 (List.length b) b))))))
          (.need (d8 .i64 (2:Int))<|.ask (decide ((2:Int) < (2:Int)))
            (.fail)
            (.leaf (.inl (0,(bg (aH (aa 0 (List.length a) a))),(aS (aH (aa 0 (List.length a) a))),(bg (aH (aa 0 (List.length b) b))),(aS (aH (aa 0 (List.length b) b))))))))
        (.fail)))
    (.fail)
def aew(a:Int) :aL:=⟨ah 15 [(4,.int .i64 a),(5,.int .i64 (0:Int))],[],0⟩
def UQ(e:Nat)(a:List Int)(b:Nat)(c:List Int)(d:Nat) :T ((Int)⊕(qQ)) :=
  .ask (((e:Nat):Int) != (0:Int))
    (.leaf (.inr (.r0 (0:Int) e)))
    (.need (aQ 0 b a)<|.need (aQ 0 d c)<|.need (Gf (yU (aa 0 b a) (aa 0 d c)))<|.leaf (.inl (E4 (yU (aa 0 b a) (aa 0 d c)))))
def aex(a:Int) :T ((Empty)⊕(qQ)) :=
  .leaf (.inr (.r0 a 0))
def vt(a:List Int)(b:List Int) :Option qQ:=ld (aC ((UP a b).run) fun (c,d,e,f,g) =>
  aC ((UQ c d e f g).run) fun h =>
  (aex h).run)
theorem apn(d:Lv)(b:List Int)(e:Lv)(c:List Int){x:qQ}(h:vt b c=some x) :aw prog vk [] [.imm d (.ns .u64 b) 1 1 0 (List.length b),.imm e (.ns .u64 c) 1 1 0 (List.length c)] (Zl x) :=
  Sg.contract true Zl (by kernel_rfl:prog.funcs[vk]? = some (FN vk)) (by kernel_rfl:(FN vk).body=some (bi vk)) (Sg.cut 2 aeu (Sg.seg (C:=C0) an E5 60 (UO.take 2) (aT (FN vk) [] [.imm d (.ns .u64 b) 1 1 0 (List.length b),.imm e (.ns .u64 c) 1 1 0 (List.length c)]) (UP b c) (aev d e) Q5 [⟨[],[0,16],[2,3,6]⟩,⟨[],[0,16],[2,3,6]⟩,⟨[],[0,16],[2,3,6]⟩] (by kernel_rfl)) (fun a=>by obtain ⟨f,g,i,j,k⟩:=a;exact Sg.cut 3 aeu (Sg.seg (C:=C0) an E5 60 ((UO.drop 2).take 3) (aev d e (f,g,i,j,k)) (UQ f g i j k) aew Q5 [⟨[],[],[4,5]⟩,⟨[],[],[4,5]⟩] (by kernel_rfl)) (fun l=>by exact Sg.seg (C:=C0) an E5 60 ((UO.drop 2).drop 3) (aew l) (aex l) (fun a:Empty=>a.elim) Q5 [⟨[],[],[4,5]⟩] (by kernel_rfl))))
    (fun x=>by cases x with | r0 m n=>exact ⟨.inr rfl,[.int .i64 m,.int .i64 ((n:Nat):Int)],[],by kernel_rfl,trivial,by kernel_rfl⟩) h
def Gg:Option qQ→Bool
  | some _=>true
  | none=>false
def E6:Option qQ→Int
  | some (.r0 x _)=>x
  | _=>0
def V8:Option qQ→Nat
  | some (.r0 _ x)=>x
  | _=>0
theorem apo{x:Option qQ}(h:Gg x=true) :x=some (.r0 (E6 x) (V8 x)):=by
  unfold Gg at h
  split at h <;> first | rfl | (cases h;done) | (rename_i y;cases y;rfl)
def ajq:aJ:=bW vk (.cons (.ns .u64) (.cons (.ns .u64) .nil)) fun t=>[⟨Zl (.r0 (E6 (vt t.1.2 t.2.1.2)) (V8 (vt t.1.2 t.2.1.2))),[Gg (vt t.1.2 t.2.1.2)]⟩]
theorem akK:aU prog ajq:=aO fun t=>(aP (fun h=>apn t.1.1 t.1.2 t.2.1.1 t.2.1.2 (apo h)) aW)
def ajr:List aJ:=ajq :: ajp
theorem K8:aY prog (bb ajr):=au akK E5
inductive jy where
  | r0 (a:List Int)
  | r1 (b:Nat) (c:Nat) (d:Nat) (e:List Int)
def UR:jy→AE×aL
  | .r0 a=>(.ret,⟨ah 10 [(2,.nsl),(3,.int .i64 (3:Int))],[(0,.ns .u64 a)],1⟩)
  | .r1 b c d e=>(.ret,⟨ah 10 [(2,.sl 0 1 1 b c d),(3,.int .i64 (0:Int))],[(0,.ns .u64 e)],1⟩)
theorem anz:kR UR:=by intro x;cases x <;> (intro h;cases h)
def K9:jy→jc
  | .r0 a=>⟨.tup [.nsl,.int .i64 (3:Int)],[some (.ns .u64 a)]⟩
  | .r1 b c d e=>⟨.tup [.sl 0 1 1 b c d,.int .i64 (0:Int)],[some (.ns .u64 e)]⟩
def aax:List Code:=bJ (bi gP)
def aay:Nat×Nat×Nat×(List Int)→aL:=fun (a,b,c,d)=>⟨ah 10 [(0,.sl 0 1 1 a b c)],[(0,.ns .u64 d)],1⟩
def NY(a:List Int)(b:Nat)(c:Nat)(d:Nat) :T ((Nat×Nat×Nat×(List Int))⊕(jy)) :=
  .need (lP (bO a b c d))<|.leaf (.inl ((kV (bO a b c d)),(kW (bO a b c d)),(kX (bO a b c d)),(kY (bO a b c d))))
def aaz(c:Nat)(a:Nat)(d:Nat)(b:List Int) :T ((Empty)⊕(jy)) :=
  .ask (decide (((a:Nat):Int) > (4096:Int)))
    (.leaf (.inr (.r0 b)))
    (.leaf (.inr (.r1 c a d b)))
def eU(a:List Int)(b:Nat)(c:Nat)(d:Nat) :Option jy:=ld (aC ((NY a b c d).run) fun (e,f,g,h) =>
  (aaz e f g h).run)
theorem aaA(b:List Int)(c:Nat)(d:Nat)(e:Nat){x:jy}(h:eU b c d e=some x) :aw prog gP [.ns .u64 b] [.sl 0 1 1 c d e] (K9 x) :=
  Sg.contract false K9 (by kernel_rfl:prog.funcs[gP]? = some (FN gP)) (by kernel_rfl:(FN gP).body=some (bi gP)) (Sg.cut 2 anz (Sg.seg (C:=C0) an K8 60 (aax.take 2) (aT (FN gP) [.ns .u64 b] [.sl 0 1 1 c d e]) (NY b c d e) aay UR [⟨[],[0],[0]⟩] (by kernel_rfl)) (fun a=>by obtain ⟨f,g,i,j⟩:=a;exact Sg.seg (C:=C0) an K8 60 (aax.drop 2) (aay (f,g,i,j)) (aaz f g i j) (fun a:Empty=>a.elim) UR [⟨[],[0],[2,3]⟩,⟨[],[0],[2,3]⟩] (by kernel_rfl)))
    (fun x=>by cases x with | r0 n=>exact ⟨.inr rfl,[.nsl,.int .i64 (3:Int)],[],by kernel_rfl,trivial,by kernel_rfl⟩ | r1 k l m o=>exact ⟨.inr rfl,[.sl 0 1 1 k l m,.int .i64 (0:Int)],[],by kernel_rfl,trivial,by kernel_rfl⟩) h
def Dz:Option jy→Bool
  | some (.r0 _)=>true
  | _=>false
def Rz:Option jy→List Int
  | some (.r0 x)=>x
  | _=>[]
theorem anA{x:Option jy}(h:Dz x=true) :x=some (.r0 (Rz x)):=by
  unfold Dz at h
  split at h <;> first | rfl | (cases h;done) | (rename_i y;cases y;rfl)
def DA:Option jy→Bool
  | some (.r1 _ _ _ _)=>true
  | _=>false
def Ck:Option jy→Nat
  | some (.r1 x _ _ _)=>x
  | _=>0
def Cl:Option jy→Nat
  | some (.r1 _ x _ _)=>x
  | _=>0
def Cm:Option jy→Nat
  | some (.r1 _ _ x _)=>x
  | _=>0
def Cn:Option jy→List Int
  | some (.r1 _ _ _ x)=>x
  | _=>[]
theorem anB{x:Option jy}(h:DA x=true) :x=some (.r1 (Ck x) (Cl x) (Cm x) (Cn x)):=by
  unfold DA at h
  split at h <;> first | rfl | (cases h;done) | (rename_i y;cases y;rfl)
def aey:aJ:=am3 gP [.ns .u64] (.cons (.lsl 0) .nil) fun x t=>[⟨K9 (.r0 (Rz (eU x.1 t.1.1 t.1.2.1 t.1.2.2))),[Dz (eU x.1 t.1.1 t.1.2.1 t.1.2.2)]⟩,⟨K9 (.r1 (Ck (eU x.1 t.1.1 t.1.2.1 t.1.2.2)) (Cl (eU x.1 t.1.1 t.1.2.1 t.1.2.2)) (Cm (eU x.1 t.1.1 t.1.2.1 t.1.2.2)) (Cn (eU x.1 t.1.1 t.1.2.1 t.1.2.2))),[DA (eU x.1 t.1.1 t.1.2.1 t.1.2.2)]⟩]
theorem ahd:aU prog aey:=aea fun x t=>(Q0 (fun h=>aaA x.1 t.1.1 t.1.2.1 t.1.2.2 (anA h)) (Q0 (fun h=>aaA x.1 t.1.1 t.1.2.1 t.1.2.2 (anB h)) aeb))
def aez:List aJ:=aey :: ajr
theorem nq:aY prog (bb aez):=au ahd K8
inductive im where
  | r0 (a:Nat) (b:Nat) (c:Nat) (d:Nat) (e:List Int)
def ta:im→AE×aL
  | .r0 a b c d e=>(.ret,⟨ah 62 [(4,.sl 0 1 1 a b c),(5,.int .i64 ((d:Nat):Int))],[(0,.ns .u64 e)],1⟩)
theorem yw:kR ta:=by intro x;cases x <;> (intro h;cases h)
theorem apq(id:Nat) :qE id ta:=by intro x;cases x <;> (intro h;cases h)
def Zm:im→jc
  | .r0 a b e c d=>⟨.tup [.imm .free (.ns .u64 d) 1 1 a b,.int .i64 ((c:Nat):Int)],[]⟩
def rD:List Code:=bJ (bi vj)
def aeA(a:Lv)(b:Lv) :Nat×(List Int)×Nat×(List Int)×Nat→aL:=fun (c,d,e,f,g)=>⟨ah 62 [(2,.ptr 0 1 0 0),(3,.ptr 1 1 0 0),(6,.int .i64 ((c:Nat):Int))],[(0,.vs [.imm a (.ns .u64 d) 1 1 0 e]),(1,.vs [.imm b (.ns .u64 f) 1 1 0 g])],2⟩
def NZ(a : List Int)(b : List Int) : T ((Nat × (List Int) × Nat × (List Int) × Nat) ⊕ (im)) :=
  .ask (decide ((0:Int) < (2:Int)))
    (.need (iS (0:Int) 2)<|.need (aQ 0 (List.length a) a)<|.need (cW (aH (aa 0 (List.length a) a)))<|.ask (decide ((((aS (aH (aa 0 (List.length a) a))):Nat):Int) > (4096:Int)))
      (.leaf (.inl (2,(bg (aH (aa 0 (List.length a) a))),(aS (aH (aa 0 (List.length a) a))),b,(List.length b))))
      (.need (d8 .i64 (1:Int))<|.ask (decide ((1:Int) < (2:Int)))
        (.need (iS (1:Int) 2)<|.need (aQ 0 (List.length b) b)<|.need (cW (aH (aa 0 (List.length b) b)))<|.ask (decide ((((aS (aH (aa 0 (List.length b) b))):Nat):Int) > (4096:Int)))
          (.leaf (.inl (2,(bg (aH (aa 0 (List.length a) a))),(aS (aH (aa 0 (List.length a) a))),(bg (aH (aa 0 (List.length b) b))),(aS (aH (aa 0 (List.length b) b))))))
          (.need (d8 .i64 (2:Int))<|.ask (decide ((2:Int) < (2:Int)))
            (.fail)
            (.leaf (.inl (0,(bg (aH (aa 0 (List.length a) a))),(aS (aH (aa 0 (List.length a) a))),(bg (aH (aa 0 (List.length b) b))),(aS (aH (aa 0 (List.length b) b))))))))
        (.fail)))
    (.fail)
def aeB:(List Int)×Nat×(List Int)×Nat→aL:=fun (a,b,c,d)=>⟨ah 62 [(2,.ptr 0 1 0 0),(3,.ptr 1 1 0 0)],[(0,.vs [.imm .lent (.ns .u64 a) 1 1 0 b]),(1,.vs [.imm .lent (.ns .u64 c) 1 1 0 d])],2⟩
def aaB(c:Nat)(d:List Int)(a:Nat)(e:List Int)(b:Nat) :T (((List Int)×Nat×(List Int)×Nat)⊕(im)) :=
  .ask (((c:Nat):Int) != (0:Int))
    (.leaf (.inr (.r0 0 0 0 c ([]:List Int))))
    (.ask (decide (((a:Nat):Int) < ((b:Nat):Int)))
      (.leaf (.inl (e,b,d,a)))
      (.leaf (.inl (d,a,e,b))))
def aeC(c:List Int)(a:Nat)(d:List Int)(e:Nat) :Nat×(List Int)→aL:=fun (b,f)=>⟨ah 62 [(2,.ptr 0 1 0 0),(3,.ptr 1 1 0 0),(7,.ptr 2 1 0 0),(8,.fn (.func HT) [] [.ptr 2 1 0 0]),(9,.sl 3 1 1 0 b b),(30,.int .i64 ((a:Nat):Int)),(31,.int .i64 (0:Int))],[(0,.vs [.imm .lent (.ns .u64 c) 1 1 0 a]),(1,.vs [.imm .lent (.ns .u64 d) 1 1 0 e]),(2,.vs [.int .u64 (0:Int)]),(3,.ns .u64 f)],4⟩
def H6(a:Nat) :T ((Nat×(List Int))⊕(im)) :=
  .need (d8 .i64 (((a+1):Nat):Int))<|.need (decide ((0:Int)≤(((a+1):Nat):Int)))<|.need (decide ((((a+1):Nat):Int)≤(((a+1):Nat):Int)))<|.need (decide ((8:Int) * (((a+1):Nat):Int)≤140737488355328))<|.need (d8 .i64 (((a+1):Nat):Int))<|.leaf (.inl ((a+1),(List.replicate (a+1) (0:Int))))
def Bu(c:List Int)(a:Nat)(d:List Int)(e:Nat)(b:Nat) :Nat×Nat×(List Int)→aL:=fun (f,g,h)=>⟨ah 62 [(2,.ptr 0 1 0 0),(3,.ptr 1 1 0 0),(7,.ptr 2 1 0 0),(8,.fn (.func HT) [] [.ptr 2 1 0 0]),(9,.sl 3 1 1 0 b b),(30,.int .i64 ((a:Nat):Int)),(31,.int .i64 ((f:Nat):Int))],[(0,.vs [.imm .lent (.ns .u64 c) 1 1 0 a]),(1,.vs [.imm .lent (.ns .u64 d) 1 1 0 e]),(2,.vs [.int .u64 ((g:Nat):Int)]),(3,.ns .u64 h)],4⟩
def Gh(b:List Int)(c:Nat)(a:Nat) :Nat×(List Int)→aL:=fun (d,e)=>⟨ah 62 [(2,.ptr 0 1 0 0),(7,.ptr 1 1 0 0),(9,.sl 2 1 1 0 a a)],[(0,.vs [.imm .lent (.ns .u64 b) 1 1 0 c]),(1,.vs [.int .u64 ((d:Nat):Int)]),(2,.ns .u64 e)],3⟩
def N0:List Code:=bJ (bK ((((((rD.drop 2).drop 4).drop 4).take 1)).headD .skip))
def aeD(c:List Int)(a:Nat)(d:List Int)(e:Nat)(b:Nat)(f:Nat) :Nat×(List Int)→aL:=fun (g,h)=>⟨ah 62 [(2,.ptr 0 1 0 0),(3,.ptr 1 1 0 0),(7,.ptr 2 1 0 0),(8,.fn (.func HT) [] [.ptr 2 1 0 0]),(9,.sl 3 1 1 0 b b),(30,.int .i64 ((a:Nat):Int)),(31,.int .i64 ((f:Nat):Int))],[(0,.vs [.imm .lent (.ns .u64 c) 1 1 0 a]),(1,.vs [.imm .lent (.ns .u64 d) 1 1 0 e]),(2,.vs [.int .u64 ((g:Nat):Int)]),(3,.ns .u64 h)],4⟩
def H7(c:List Int)(e:Nat)(f:List Int)(g:Nat)(h:Nat)(a:Nat)(b:Nat)(d:List Int) :T ((Nat×(List Int))⊕((Nat×(List Int))⊕(im))) :=
  .ask (decide (((a:Nat):Int) < ((e:Nat):Int)))
    (.ask (decide (((a:Nat):Int) < ((g:Nat):Int)))
      (.need (iS ((a:Nat):Int) g)<|.need (jC a (List.length f))<|.need (iS ((a:Nat):Int) e)<|.need (jC a (List.length c))<|.need (tZ b 1)<|.need (iS ((a:Nat):Int) h)<|.need (jC a (List.length d))<|.leaf (.inl ((((Int.toNat (List.getD c a 0))+(Int.toNat (List.getD f a 0))+b) / 18446744073709551616),(List.set d a (((((Int.toNat (List.getD c a 0))+(Int.toNat (List.getD f a 0))+b) % 18446744073709551616):Nat):Int)))))
      (.need (iS ((a:Nat):Int) e)<|.need (jC a (List.length c))<|.need (tZ b 1)<|.need (iS ((a:Nat):Int) h)<|.need (jC a (List.length d))<|.leaf (.inl ((((Int.toNat (List.getD c a 0))+0+b) / 18446744073709551616),(List.set d a (((((Int.toNat (List.getD c a 0))+0+b) % 18446744073709551616):Nat):Int))))))
    (.leaf (.inr (.inl (b,d))))
def aaC(a:Nat)(b:Nat)(c:List Int) :T ((Nat×Nat×(List Int))⊕((Nat×(List Int))⊕(im))) :=
  .need (d8 .i64 (((a+1):Nat):Int))<|.leaf (.inl ((a+1),b,c))
def DB(b:List Int)(c:Nat)(d:List Int)(e:Nat)(f:Nat) :Nat×Nat×(List Int)→Option ((Nat×Nat×(List Int))⊕((Nat×(List Int))⊕(im))):=fun (a,g,h) =>
  aC ((H7 b c d e f a g h).run) fun (i,j) =>
  (aaC a i j).run
theorem anC(b:List Int)(c:Nat)(e:List Int)(f:Nat)(d:Nat)(g:Nat)(h:Nat)(i:List Int) :Sg prog [] N0 (Bu b c e f d (g,h,i)) (DB b c e f d (g,h,i)) (Bu b c e f d) (aN 0 (Gh b c d) ta):=by
  unfold DB;exact Sg.cut 3 (aI yw) (Sg.seg (C:=C0) an nq 60 (N0.take 3) (Bu b c e f d (g,h,i)) (H7 b c e f d g h i) (aeD b c e f d g) (aN 0 (Gh b c d) ta) [⟨[],[0,1,2,3],[2,3,7,8,9,30,31]⟩,⟨[],[0,1,2,3],[2,3,7,8,9,30,31]⟩,⟨[],[0,2,3],[2,7,9]⟩] (by kernel_rfl)) (fun a=>by obtain ⟨j,k⟩:=a;exact Sg.seg (C:=C0) an nq 60 (N0.drop 3) (aeD b c e f d g (j,k)) (aaC g j k) (Bu b c e f d) (aN 0 (Gh b c d) ta) [⟨[],[0,1,2,3],[2,3,7,8,9,30,31]⟩] (by kernel_rfl))
def apr(a:List Int)(b:Nat)(c:Nat) :Nat×(List Int)→aL:=Gh a b c
def aaD:Nat×Nat×Nat×Nat×(List Int)→aL:=fun (a,b,c,d,e)=>⟨ah 62 [(4,.sl 0 1 1 a b c),(5,.int .i64 ((d:Nat):Int))],[(0,.ns .u64 e)],1⟩
def H8(b:Nat)(a:Nat)(d:Nat)(c:List Int) :T ((Nat×Nat×Nat×Nat×(List Int))⊕(im)) :=
  .need (iS ((b:Nat):Int) a)<|.need (jC b (List.length c))<|.alt 0
    (.need (Dz (eU (List.set c b ((d:Nat):Int)) 0 a a))<|.leaf (.inl (0,0,0,3,([]:List Int))))
    (.alt 1
      (.need (DA (eU (List.set c b ((d:Nat):Int)) 0 a a))<|.leaf (.inl ((Ck (eU (List.set c b ((d:Nat):Int)) 0 a a)),(Cl (eU (List.set c b ((d:Nat):Int)) 0 a a)),(Cm (eU (List.set c b ((d:Nat):Int)) 0 a a)),0,(Cn (eU (List.set c b ((d:Nat):Int)) 0 a a)))))
      (.fail))
def N2(a:Nat)(b:Nat)(c:Nat)(d:Nat)(e:List Int) :T ((Empty)⊕(im)) :=
  .leaf (.inr (.r0 a b c d e))
def cr(c:List Int)(d:List Int) :Option im:=ld (aC ((NZ c d).run) fun (e,f,g,h,i) =>
  aC ((aaB e f g h i).run) fun (j,a,k,l) =>
  aC ((H6 a).run) fun (b,m) =>
  aC (dM (DB j a k l b) (0,0,m)) fun (n,o) =>
  aC ((H8 a b n o).run) fun (p,q,r,s,t) =>
  (N2 p q r s t).run)
theorem aps(j:Lv)(e:List Int)(k:Lv)(f:List Int){x:im}(h:cr e f=some x) :aw prog vj [] [.imm j (.ns .u64 e) 1 1 0 (List.length e),.imm k (.ns .u64 f) 1 1 0 (List.length f)] (Zm x) :=
  Sg.contract true Zm (by kernel_rfl:prog.funcs[vj]? = some (FN vj)) (by kernel_rfl:(FN vj).body=some (bi vj)) (Sg.cut 2 yw (Sg.seg (C:=C0) an nq 60 (rD.take 2) (aT (FN vj) [] [.imm j (.ns .u64 e) 1 1 0 (List.length e),.imm k (.ns .u64 f) 1 1 0 (List.length f)]) (NZ e f) (aeA j k) ta [⟨[],[0,16],[2,3,6]⟩,⟨[],[0,16],[2,3,6]⟩,⟨[],[0,16],[2,3,6]⟩] (by kernel_rfl)) (fun a=>by obtain ⟨m,n,o,p,q⟩:=a;exact Sg.cut 4 yw (Sg.seg (C:=C0) an nq 60 ((rD.drop 2).take 4) (aeA j k (m,n,o,p,q)) (aaB m n o p q) aeB ta [⟨[(.slot 4,.own 1 1 (.ns .u64 ([]:List Int)))],[82],[4,5]⟩,⟨[(.cell 0 0,.low),(.cell 1 0,.low)],[0,1],[2,3]⟩,⟨[(.cell 0 0,.low),(.cell 1 0,.low)],[0,1],[2,3]⟩] (by kernel_rfl)) (fun a=>by obtain ⟨c,b,g,i⟩:=a;exact Sg.cut 4 yw (Sg.seg (C:=C0) an nq 60 (((rD.drop 2).drop 4).take 4) (aeB (c,b,g,i)) (H6 b) (aeC c b g i) ta [⟨[],[0,1,2,114],[2,3,7,8,9,30,31]⟩] (by kernel_rfl)) (fun a=>by obtain ⟨d,l⟩:=a;exact Sg.cut 1 yw (Sg.pre ⟨[],[0,1,2,3],[2,3,7,8,9,30,31]⟩ rfl (by kernel_rfl:NS.on ⟨[],[0,1,2,3],[2,3,7,8,9,30,31]⟩ (aeC c b g i (d,l))=(Bu c b g i d) (0,0,l)) (bU (I:=(Bu c b g i d)) (J:=(Gh c b d)) (id:=0) (by kernel_rfl:((((rD.drop 2).drop 4).drop 4).take 1) = [.block 0 (.loop (bK ((((((rD.drop 2).drop 4).drop 4).take 1)).headD .skip)))]) yw (apq _) (fun s=>by obtain ⟨A,B,D⟩:=s;exact anC c b g i d A B D) (0,0,l))) (fun a=>by obtain ⟨r,t⟩:=a;exact Sg.cut 2 yw (Sg.seg (C:=C0) an nq 60 (((((rD.drop 2).drop 4).drop 4).drop 1).take 2) (apr c b d (r,t)) (H8 b d r t) aaD ta [⟨[(.slot 4,.own 1 1 (.ns .u64 ([]:List Int)))],[195],[4,5]⟩,⟨[],[2],[4,5]⟩] (by kernel_rfl)) (fun a=>by obtain ⟨u,v,w,y,z⟩:=a;exact Sg.seg (C:=C0) an nq 60 (((((rD.drop 2).drop 4).drop 4).drop 1).drop 2) (aaD (u,v,w,y,z)) (N2 u v w y z) (fun a:Empty=>a.elim) ta [⟨[],[0],[4,5]⟩] (by kernel_rfl)))))))
    (fun x=>by cases x with | r0 E F G H K=>exact ⟨.inr rfl,[.sl 0 1 1 E F G,.int .i64 ((H:Nat):Int)],[],by kernel_rfl,trivial,by kernel_rfl⟩) h
def Gi:Option im→Bool
  | some _=>true
  | none=>false
def j0:Option im→Nat
  | some (.r0 x _ _ _ _)=>x
  | _=>0
def j1:Option im→Nat
  | some (.r0 _ x _ _ _)=>x
  | _=>0
def V9:Option im→Nat
  | some (.r0 _ _ x _ _)=>x
  | _=>0
def lF:Option im→Nat
  | some (.r0 _ _ _ x _)=>x
  | _=>0
def j2:Option im→List Int
  | some (.r0 _ _ _ _ x)=>x
  | _=>[]
theorem apt{x:Option im}(h:Gi x=true) :x=some (.r0 (j0 x) (j1 x) (V9 x) (lF x) (j2 x)):=by
  unfold Gi at h
  split at h <;> first | rfl | (cases h;done) | (rename_i y;cases y;rfl)
def ajs:aJ:=bW vj (.cons (.ns .u64) (.cons (.ns .u64) .nil)) fun t=>[⟨Zm (.r0 (j0 (cr t.1.2 t.2.1.2)) (j1 (cr t.1.2 t.2.1.2)) (V9 (cr t.1.2 t.2.1.2)) (lF (cr t.1.2 t.2.1.2)) (j2 (cr t.1.2 t.2.1.2))),[Gi (cr t.1.2 t.2.1.2)]⟩]
theorem akL:aU prog ajs:=aO fun t=>(aP (fun h=>aps t.1.1 t.1.2 t.2.1.1 t.2.1.2 (apt h)) aW)
def ajt:List aJ:=ajs :: aez
theorem vu:aY prog (bb ajt):=au akL nq
end
end Go.Plb.Seat
namespace Go.Plb.Seat
open Go Go.Plb
set_option linter.unusedVariables false
set_option maxRecDepth 100000
noncomputable section
inductive kq where
  | r0 (a:Nat) (b:Nat) (c:Nat) (d:List Int)
def yV:kq→AE×aL
  | .r0 a b c d=>(.ret,⟨ah 40 [(4,.sl 0 1 1 a b c)],[(0,.ns .u64 d)],1⟩)
theorem Gj:kR yV:=by intro x;cases x <;> (intro h;cases h)
theorem apu(id:Nat) :qE id yV:=by intro x;cases x <;> (intro h;cases h)
def Zn:kq→jc
  | .r0 a b d c=>⟨.imm .free (.ns .u64 c) 1 1 a b,[]⟩
def yW:List Code:=bJ (bi vo)
def aeE(d:Lv)(a:List Int)(e:Lv)(b:List Int) :Nat×(List Int)→aL:=fun (c,f)=>⟨ah 40 [(0,.imm d (.ns .u64 a) 1 1 0 (List.length a)),(1,.imm e (.ns .u64 b) 1 1 0 (List.length b)),(5,.sl 0 1 1 0 c c),(6,.int .u64 (0:Int)),(12,.int .i64 (((List.length a):Nat):Int)),(13,.int .i64 (0:Int))],[(0,.ns .u64 f)],1⟩
def N3(a:List Int) :T ((Nat×(List Int))⊕(kq)) :=
  .need (aQ 0 (List.length a) a)<|.need (Be (List.length (aa 0 (List.length a) a)))<|.leaf (.inl ((List.length (aa 0 (List.length a) a)),(aa 0 (List.length a) a)))
def Bv(d:Lv)(a:List Int)(e:Lv)(b:List Int)(c:Nat) :Int×Nat×(List Int)→aL:=fun (f,g,h)=>⟨ah 40 [(0,.imm d (.ns .u64 a) 1 1 0 (List.length a)),(1,.imm e (.ns .u64 b) 1 1 0 (List.length b)),(5,.sl 0 1 1 0 c c),(6,.int .u64 f),(12,.int .i64 (((List.length a):Nat):Int)),(13,.int .i64 ((g:Nat):Int))],[(0,.ns .u64 h)],1⟩
def Gk(a:Nat)(b:(List Int)) :aL:=⟨ah 40 [(5,.sl 0 1 1 0 a a)],[(0,.ns .u64 b)],1⟩
def N4:List Code:=bJ (bK ((((yW.drop 4).take 1)).headD .skip))
def aeF(d:Lv)(a:List Int)(e:Lv)(b:List Int)(c:Nat)(f:Nat) :Int×(List Int)→aL:=fun (g,h)=>⟨ah 40 [(0,.imm d (.ns .u64 a) 1 1 0 (List.length a)),(1,.imm e (.ns .u64 b) 1 1 0 (List.length b)),(5,.sl 0 1 1 0 c c),(6,.int .u64 g),(12,.int .i64 (((List.length a):Nat):Int)),(13,.int .i64 ((f:Nat):Int))],[(0,.ns .u64 h)],1⟩
def H9(b:List Int)(d:List Int)(f:Nat)(c:Int)(a:Nat)(e:List Int) :T ((Int×(List Int))⊕(((List Int))⊕(kq))) :=
  .ask (decide (((a:Nat):Int) < (((List.length b):Nat):Int)))
    (.ask (decide (((a:Nat):Int) < (((List.length d):Nat):Int)))
      (.need (iS ((a:Nat):Int) (List.length d))<|.need (jC a (List.length d))<|.need (iS ((a:Nat):Int) (List.length b))<|.need (jC a (List.length b))<|.need (tZ (Int.toNat c) 1)<|.need (iS ((a:Nat):Int) f)<|.need (jC a (List.length e))<|.leaf (.inl ((bif Nat.blt (Int.toNat (List.getD b a 0)) ((Int.toNat (List.getD d a 0))+(Int.toNat c)) then (1:Int) else (0:Int)),(List.set e a (((((Int.toNat (List.getD b a 0))+18446744073709551616 - (Int.toNat (List.getD d a 0)) - (Int.toNat c)) % 18446744073709551616):Nat):Int)))))
      (.need (iS ((a:Nat):Int) (List.length b))<|.need (jC a (List.length b))<|.need (tZ (Int.toNat c) 1)<|.need (iS ((a:Nat):Int) f)<|.need (jC a (List.length e))<|.leaf (.inl ((bif Nat.blt (Int.toNat (List.getD b a 0)) (0+(Int.toNat c)) then (1:Int) else (0:Int)),(List.set e a (((((Int.toNat (List.getD b a 0))+18446744073709551616 - 0 - (Int.toNat c)) % 18446744073709551616):Nat):Int))))))
    (.leaf (.inr (.inl e)))
def aaE(a:Nat)(b:Int)(c:List Int) :T ((Int×Nat×(List Int))⊕(((List Int))⊕(kq))) :=
  .need (d8 .i64 (((a+1):Nat):Int))<|.leaf (.inl (b,(a+1),c))
def N5(b:List Int)(c:List Int)(d:Nat) :Int×Nat×(List Int)→Option ((Int×Nat×(List Int))⊕(((List Int))⊕(kq))):=fun (e,a,f) =>
  aC ((H9 b c d e a f).run) fun (g,h) =>
  (aaE a g h).run
theorem anD(f:Lv)(c:List Int)(g:Lv)(d:List Int)(b:Nat)(h:Int)(e:Nat)(i:List Int) :Sg prog [] N4 (Bv f c g d b (h,e,i)) (N5 c d b (h,e,i)) (Bv f c g d b) (aN 0 (Gk b) yV):=by
  unfold N5;exact Sg.cut 3 (aI Gj) (Sg.seg (C:=C0) an vu 60 (N4.take 3) (Bv f c g d b (h,e,i)) (H9 c d b h e i) (aeF f c g d b e) (aN 0 (Gk b) yV) [⟨[],[0],[0,1,5,6,12,13]⟩,⟨[],[0],[0,1,5,6,12,13]⟩,⟨[],[0],[5]⟩] (by kernel_rfl)) (fun a=>by obtain ⟨j,k⟩:=a;exact Sg.seg (C:=C0) an vu 60 (N4.drop 3) (aeF f c g d b e (j,k)) (aaE e j k) (Bv f c g d b) (aN 0 (Gk b) yV) [⟨[],[0],[0,1,5,6,12,13]⟩] (by kernel_rfl))
def apv(a:Nat) :(List Int)→aL:=Gk a
def aaF:Nat×Nat×Nat×(List Int)→aL:=fun (a,b,c,d)=>⟨ah 40 [(4,.sl 0 1 1 a b c)],[(0,.ns .u64 d)],1⟩
def N6(a:Nat)(b:List Int) :T ((Nat×Nat×Nat×(List Int))⊕(kq)) :=
  .need (lP (bO b 0 a a))<|.leaf (.inl ((kV (bO b 0 a a)),(kW (bO b 0 a a)),(kX (bO b 0 a a)),(kY (bO b 0 a a))))
def aaG(a:Nat)(b:Nat)(c:Nat)(d:List Int) :T ((Empty)⊕(kq)) :=
  .leaf (.inr (.r0 a b c d))
def qR(a:List Int)(c:List Int) :Option kq:=ld (aC ((N3 a).run) fun (b,d) =>
  aC (dM (N5 a c b) ((0:Int),0,d)) fun e =>
  aC ((N6 b e).run) fun (f,g,h,i) =>
  (aaG f g h i).run)
theorem apw(d:Lv)(b:List Int)(e:Lv)(c:List Int){x:kq}(h:qR b c=some x) :aw prog vo [] [.imm d (.ns .u64 b) 1 1 0 (List.length b),.imm e (.ns .u64 c) 1 1 0 (List.length c)] (Zn x) :=
  Sg.contract true Zn (by kernel_rfl:prog.funcs[vo]? = some (FN vo)) (by kernel_rfl:(FN vo).body=some (bi vo)) (Sg.cut 4 Gj (Sg.seg (C:=C0) an vu 60 (yW.take 4) (aT (FN vo) [] [.imm d (.ns .u64 b) 1 1 0 (List.length b),.imm e (.ns .u64 c) 1 1 0 (List.length c)]) (N3 b) (aeE d b e c) yV [⟨[],[32],[0,1,5,6,12,13]⟩] (by kernel_rfl)) (fun a=>by obtain ⟨f,g⟩:=a;exact Sg.cut 1 Gj (Sg.pre ⟨[],[0],[0,1,5,6,12,13]⟩ rfl (by kernel_rfl:NS.on ⟨[],[0],[0,1,5,6,12,13]⟩ (aeE d b e c (f,g))=(Bv d b e c f) ((0:Int),0,g)) (bU (I:=(Bv d b e c f)) (J:=(Gk f)) (id:=0) (by kernel_rfl:((yW.drop 4).take 1) = [.block 0 (.loop (bK ((((yW.drop 4).take 1)).headD .skip)))]) Gj (apu _) (fun s=>by obtain ⟨n,o,p⟩:=s;exact anD d b e c f n o p) ((0:Int),0,g))) (fun i=>by exact Sg.cut 1 Gj (Sg.seg (C:=C0) an vu 60 (((yW.drop 4).drop 1).take 1) (apv f i) (N6 f i) aaF yV [⟨[],[0],[4]⟩] (by kernel_rfl)) (fun a=>by obtain ⟨j,k,l,m⟩:=a;exact Sg.seg (C:=C0) an vu 60 (((yW.drop 4).drop 1).drop 1) (aaF (j,k,l,m)) (aaG j k l m) (fun a:Empty=>a.elim) yV [⟨[],[0],[4]⟩] (by kernel_rfl)))))
    (fun x=>by cases x with | r0 q r t u=>exact ⟨.inr rfl,[.sl 0 1 1 q r t],[],by kernel_rfl,trivial,by kernel_rfl⟩) h
def La:Option kq→Bool
  | some _=>true
  | none=>false
def Lb:Option kq→Nat
  | some (.r0 x _ _ _)=>x
  | _=>0
def Lc:Option kq→Nat
  | some (.r0 _ x _ _)=>x
  | _=>0
def Wa:Option kq→Nat
  | some (.r0 _ _ x _)=>x
  | _=>0
def Ld:Option kq→List Int
  | some (.r0 _ _ _ x)=>x
  | _=>[]
theorem apx{x:Option kq}(h:La x=true) :x=some (.r0 (Lb x) (Lc x) (Wa x) (Ld x)):=by
  unfold La at h
  split at h <;> first | rfl | (cases h;done) | (rename_i y;cases y;rfl)
def aju:aJ:=bW vo (.cons (.ns .u64) (.cons (.ns .u64) .nil)) fun t=>[⟨Zn (.r0 (Lb (qR t.1.2 t.2.1.2)) (Lc (qR t.1.2 t.2.1.2)) (Wa (qR t.1.2 t.2.1.2)) (Ld (qR t.1.2 t.2.1.2))),[La (qR t.1.2 t.2.1.2)]⟩]
theorem akM:aU prog aju:=aO fun t=>(aP (fun h=>apw t.1.1 t.1.2 t.2.1.1 t.2.1.2 (apx h)) aW)
def ajv:List aJ:=aju :: ajt
theorem zJ:aY prog (bb ajv):=au akM vu
inductive mc where
  | r0 (a:List Int) (b:Nat) (c:Nat) (d:Nat)
def Ke:mc→AE×aL
  | .r0 a b c d=>(.ret,⟨ah 20 [(4,.imm .free (.ns .u64 a) 1 1 b c),(5,.int .i64 ((d:Nat):Int))],[],0⟩)
theorem US:kR Ke:=by intro x;cases x <;> (intro h;cases h)
def Zo:mc→jc
  | .r0 a b c d=>⟨.tup [.imm .free (.ns .u64 a) 1 1 b c,.int .i64 ((d:Nat):Int)],[]⟩
def Le:List Code:=bJ (bi vl)
def aeG(a:Lv)(b:Lv) :Nat×(List Int)×Nat×(List Int)×Nat→aL:=fun (c,d,e,f,g)=>⟨ah 20 [(2,.ptr 0 1 0 0),(3,.ptr 1 1 0 0),(6,.int .i64 ((c:Nat):Int))],[(0,.vs [.imm a (.ns .u64 d) 1 1 0 e]),(1,.vs [.imm b (.ns .u64 f) 1 1 0 g])],2⟩
def UT(a : List Int)(b : List Int) : T ((Nat × (List Int) × Nat × (List Int) × Nat) ⊕ (mc)) :=
  .ask (decide ((0:Int) < (2:Int)))
    (.need (iS (0:Int) 2)<|.need (aQ 0 (List.length a) a)<|.need (cW (aH (aa 0 (List.length a) a)))<|.ask (decide ((((aS (aH (aa 0 (List.length a) a))):Nat):Int) > (4096:Int)))
      (.leaf (.inl (2,(bg (aH (aa 0 (List.length a) a))),(aS (aH (aa 0 (List.length a) a))),b,(List.length b))))
      (.need (d8 .i64 (1:Int))<|.ask (decide ((1:Int) < (2:Int)))
        (.need (iS (1:Int) 2)<|.need (aQ 0 (List.length b) b)<|.need (cW (aH (aa 0 (List.length b) b)))<|.ask (decide ((((aS (aH (aa 0 (List.length b) b))):Nat):Int) > (4096:Int)))
          (.leaf (.inl (2,(bg (aH (aa 0 (List.length a) a))),(aS (aH (aa 0 (List.length a) a))),(bg (aH (aa 0 (List.length b) b))),(aS (aH (aa 0 (List.length b) b))))))
          (.need (d8 .i64 (2:Int))<|.ask (decide ((2:Int) < (2:Int)))
            (.fail)
            (.leaf (.inl (0,(bg (aH (aa 0 (List.length a) a))),(aS (aH (aa 0 (List.length a) a))),(bg (aH (aa 0 (List.length b) b))),(aS (aH (aa 0 (List.length b) b))))))))
        (.fail)))
    (.fail)
def aeH(a:Lv)(b:Lv)(c:List Int)(d:Nat)(e:List Int)(f:Nat)(g:Bool) :aL:=⟨ah 20 [(2,.ptr 0 1 0 0),(3,.ptr 1 1 0 0),(16,.bool false g)],[(0,.vs [.imm a (.ns .u64 c) 1 1 0 d]),(1,.vs [.imm b (.ns .u64 e) 1 1 0 f])],2⟩
def UU(e:Nat)(a:List Int)(b:Nat)(c:List Int)(d:Nat) :T ((Bool)⊕(mc)) :=
  .ask (((e:Nat):Int) != (0:Int))
    (.leaf (.inl true))
    (.need (aQ 0 b a)<|.need (aQ 0 d c)<|.need (Gf (yU (aa 0 b a) (aa 0 d c)))<|.leaf (.inl (decide ((E4 (yU (aa 0 b a) (aa 0 d c))) < (0:Int)))))
def aeI:(List Int)×Nat×Nat→aL:=fun (a,b,c)=>⟨ah 20 [(4,.imm .free (.ns .u64 a) 1 1 b c),(5,.int .i64 (0:Int))],[],0⟩
def UV(a:List Int)(b:Nat)(c:List Int)(d:Nat)(e:Bool) :T (((List Int)×Nat×Nat)⊕(mc)) :=
  .ask e
    (.leaf (.inr (.r0 ([]:List Int) 0 0 2)))
    (.need (aQ 0 b a)<|.need (aQ 0 d c)<|.need (La (qR (aa 0 b a) (aa 0 d c)))<|.leaf (.inl ((Ld (qR (aa 0 b a) (aa 0 d c))),(Lb (qR (aa 0 b a) (aa 0 d c))),(Lc (qR (aa 0 b a) (aa 0 d c))))))
def aeJ(a:List Int)(b:Nat)(c:Nat) :T ((Empty)⊕(mc)) :=
  .leaf (.inr (.r0 a b c 0))
def cg(e:List Int)(f:List Int) :Option mc:=ld (aC ((UT e f).run) fun (g,a,b,c,d) =>
  aC ((UU g a b c d).run) fun h =>
  aC ((UV a b c d h).run) fun (i,j,k) =>
  (aeJ i j k).run)
theorem apy(b:Lv)(c:List Int)(d:Lv)(e:List Int){x:mc}(h:cg c e=some x) :aw prog vl [] [.imm b (.ns .u64 c) 1 1 0 (List.length c),.imm d (.ns .u64 e) 1 1 0 (List.length e)] (Zo x) :=
  Sg.contract true Zo (by kernel_rfl:prog.funcs[vl]? = some (FN vl)) (by kernel_rfl:(FN vl).body=some (bi vl)) (Sg.cut 2 US (Sg.seg (C:=C0) an zJ 60 (Le.take 2) (aT (FN vl) [] [.imm b (.ns .u64 c) 1 1 0 (List.length c),.imm d (.ns .u64 e) 1 1 0 (List.length e)]) (UT c e) (aeG b d) Ke [⟨[],[0,16],[2,3,6]⟩,⟨[],[0,16],[2,3,6]⟩,⟨[],[0,16],[2,3,6]⟩] (by kernel_rfl)) (fun a=>by obtain ⟨k,f,g,i,j⟩:=a;exact Sg.cut 1 US (Sg.seg (C:=C0) an zJ 60 ((Le.drop 2).take 1) (aeG b d (k,f,g,i,j)) (UU k f g i j) (aeH b d f g i j) Ke [⟨[],[0,1],[2,3,16]⟩,⟨[],[0,1],[2,3,16]⟩] (by kernel_rfl)) (fun l=>by exact Sg.cut 2 US (Sg.seg (C:=C0) an zJ 60 (((Le.drop 2).drop 1).take 2) (aeH b d f g i j l) (UV f g i j l) aeI Ke [⟨[(.slot 4,.fre 1 1 (.ns .u64 ([]:List Int)))],[],[4,5]⟩,⟨[],[],[4,5]⟩] (by kernel_rfl)) (fun a=>by obtain ⟨m,n,o⟩:=a;exact Sg.seg (C:=C0) an zJ 60 (((Le.drop 2).drop 1).drop 2) (aeI (m,n,o)) (aeJ m n o) (fun a:Empty=>a.elim) Ke [⟨[],[],[4,5]⟩] (by kernel_rfl)))))
    (fun x=>by cases x with | r0 p q r s=>exact ⟨.inr rfl,[.imm .free (.ns .u64 p) 1 1 q r,.int .i64 ((s:Nat):Int)],[],by kernel_rfl,trivial,by kernel_rfl⟩) h
def Bw:Option mc→Bool
  | some _=>true
  | none=>false
def jg:Option mc→List Int
  | some (.r0 x _ _ _)=>x
  | _=>[]
def jh:Option mc→Nat
  | some (.r0 _ x _ _)=>x
  | _=>0
def ji:Option mc→Nat
  | some (.r0 _ _ x _)=>x
  | _=>0
def j3:Option mc→Nat
  | some (.r0 _ _ _ x)=>x
  | _=>0
theorem apz{x:Option mc}(h:Bw x=true) :x=some (.r0 (jg x) (jh x) (ji x) (j3 x)):=by
  unfold Bw at h
  split at h <;> first | rfl | (cases h;done) | (rename_i y;cases y;rfl)
def ajw:aJ:=bW vl (.cons (.ns .u64) (.cons (.ns .u64) .nil)) fun t=>[⟨Zo (.r0 (jg (cg t.1.2 t.2.1.2)) (jh (cg t.1.2 t.2.1.2)) (ji (cg t.1.2 t.2.1.2)) (j3 (cg t.1.2 t.2.1.2))),[Bw (cg t.1.2 t.2.1.2)]⟩]
theorem akN:aU prog ajw:=aO fun t=>(aP (fun h=>apy t.1.1 t.1.2 t.2.1.1 t.2.1.2 (apz h)) aW)
def ajx:List aJ:=ajw :: ajv
theorem zK:aY prog (bb ajx):=au akN zJ
inductive nY where
  | r0 (a:Int) (b:List Int)
def Bx:nY→AE×aL
  | .r0 a b=>(.ret,⟨ah 52 [(6,.int .u64 a)],[(0,.ns .u64 b)],1⟩)
theorem Lf:kR Bx:=by intro x;cases x <;> (intro h;cases h)
theorem apA(id:Nat) :qE id Bx:=by intro x;cases x <;> (intro h;cases h)
def Zp:nY→jc
  | .r0 a b=>⟨.int .u64 a,[some (.ns .u64 b)]⟩
def DC:List Code:=bJ (bi vm)
def aeK(b:List Int)(c:Nat)(d:Nat)(e:Nat)(f:Lv)(a:List Int)(g:Int)(_:Unit) :aL:=⟨ah 52 [(0,.sl 0 1 1 c d e),(1,.imm f (.ns .u64 a) 1 1 0 (List.length a)),(2,.int .u64 g),(7,.int .u64 (0:Int)),(13,.int .i64 (((List.length a):Nat):Int)),(14,.int .i64 (0:Int))],[(0,.ns .u64 b)],1⟩
def aaH:T ((Unit)⊕(nY)) :=
  .leaf (.inl ())
def By(b:Nat)(c:Nat)(d:Nat)(e:Lv)(a:List Int)(f:Int) :Int×Nat×(List Int)→aL:=fun (g,h,i)=>⟨ah 52 [(0,.sl 0 1 1 b c d),(1,.imm e (.ns .u64 a) 1 1 0 (List.length a)),(2,.int .u64 f),(7,.int .u64 g),(13,.int .i64 (((List.length a):Nat):Int)),(14,.int .i64 ((h:Nat):Int))],[(0,.ns .u64 i)],1⟩
def Gl:Int×(List Int)→aL:=fun (a,b)=>⟨ah 52 [(7,.int .u64 a)],[(0,.ns .u64 b)],1⟩
def N7:List Code:=bJ (bK ((((DC.drop 3).take 1)).headD .skip))
def aeL(b:Nat)(c:Nat)(d:Nat)(e:Lv)(a:List Int)(f:Int)(g:Nat) :Int×(List Int)→aL:=fun (h,i)=>⟨ah 52 [(0,.sl 0 1 1 b c d),(1,.imm e (.ns .u64 a) 1 1 0 (List.length a)),(2,.int .u64 f),(7,.int .u64 h),(13,.int .i64 (((List.length a):Nat):Int)),(14,.int .i64 ((g:Nat):Int))],[(0,.ns .u64 i)],1⟩
def yX(d:Nat)(g:Nat)(b:List Int)(e:Int)(f:Int)(a:Nat)(c:List Int) :T ((Int×(List Int))⊕((Int×(List Int))⊕(nY))) :=
  .ask (decide (((a:Nat):Int) < (((List.length b):Nat):Int)))
    (.need (iS ((a:Nat):Int) (List.length b))<|.need (jC a (List.length b))<|.need (oh (fH (List.getD b a 0) e))<|.need (tZ 0 1)<|.need (iS ((a:Nat):Int) g)<|.need (jC (l9 d a) (List.length c))<|.need (tZ 0 1)<|.need (iS ((a:Nat):Int) g)<|.need (jC (l9 d a) (List.length c))<|.leaf (.inl ((IntKind.u64.wrap ((IntKind.u64.wrap ((pK (fH (List.getD b a 0) e))+(((((Int.toNat (jE (fH (List.getD b a 0) e)))+(Int.toNat f)+0) / 18446744073709551616):Nat):Int)))+(((((Int.toNat (List.getD c (l9 d a) 0))+(((Int.toNat (jE (fH (List.getD b a 0) e)))+(Int.toNat f)+0) % 18446744073709551616)+0) / 18446744073709551616):Nat):Int))),(List.set c (l9 d a) (((((Int.toNat (List.getD c (l9 d a) 0))+(((Int.toNat (jE (fH (List.getD b a 0) e)))+(Int.toNat f)+0) % 18446744073709551616)+0) % 18446744073709551616):Nat):Int)))))
    (.leaf (.inr (.inl (f,c))))
def aaI(a:Nat)(b:Int)(c:List Int) :T ((Int×Nat×(List Int))⊕((Int×(List Int))⊕(nY))) :=
  .need (d8 .i64 (((a+1):Nat):Int))<|.leaf (.inl (b,(a+1),c))
def N8(b:Nat)(c:Nat)(d:List Int)(e:Int) :Int×Nat×(List Int)→Option ((Int×Nat×(List Int))⊕((Int×(List Int))⊕(nY))):=fun (f,a,g) =>
  aC ((yX b c d e f a g).run) fun (h,i) =>
  (aaI a h i).run
theorem anE(m:List Int)(b:Nat)(c:Nat)(g:Nat)(h:Lv)(d:List Int)(e:Int)(i:Int)(f:Nat)(j:List Int) :Sg prog [.ns .u64 m] N7 (By b c g h d e (i,f,j)) (N8 b c d e (i,f,j)) (By b c g h d e) (aN 0 Gl Bx):=by
  unfold N8;exact Sg.cut 3 (aI Lf) (Sg.seg (C:=C0) an zK 60 (N7.take 3) (By b c g h d e (i,f,j)) (yX b c d e i f j) (aeL b c g h d e f) (aN 0 Gl Bx) [⟨[],[0],[0,1,2,7,13,14]⟩,⟨[],[0],[7]⟩] (by kernel_rfl)) (fun a=>by obtain ⟨k,l⟩:=a;exact Sg.seg (C:=C0) an zK 60 (N7.drop 3) (aeL b c g h d e f (k,l)) (aaI f k l) (By b c g h d e) (aN 0 Gl Bx) [⟨[],[0],[0,1,2,7,13,14]⟩] (by kernel_rfl))
def apB:Int×(List Int)→aL:=Gl
def aaJ(a:Int)(b:List Int) :T ((Empty)⊕(nY)) :=
  .leaf (.inr (.r0 a b))
def vv(a:List Int)(b:Nat)(c:Nat)(d:List Int)(e:Int) :Option nY:=ld (aC ((aaH).run) fun _ =>
  aC (dM (N8 b c d e) ((0:Int),0,a)) fun (f,g) =>
  (aaJ f g).run)
theorem apC(c:List Int)(d:Nat)(e:Nat)(g:Nat)(i:Lv)(b:List Int)(f:Int){x:nY}(h:vv c d e b f=some x) :aw prog vm [.ns .u64 c] [.sl 0 1 1 d e g,.imm i (.ns .u64 b) 1 1 0 (List.length b),.int .u64 f] (Zp x) :=
  Sg.contract false Zp (by kernel_rfl:prog.funcs[vm]? = some (FN vm)) (by kernel_rfl:(FN vm).body=some (bi vm)) (Sg.cut 3 Lf (Sg.seg (C:=C0) an zK 60 (DC.take 3) (aT (FN vm) [.ns .u64 c] [.sl 0 1 1 d e g,.imm i (.ns .u64 b) 1 1 0 (List.length b),.int .u64 f]) (aaH) (aeK c d e g i b f) Bx [⟨[],[0],[0,1,2,7,13,14]⟩] (by kernel_rfl)) (fun a=>by cases a;exact Sg.cut 1 Lf (Sg.pre ⟨[],[0],[0,1,2,7,13,14]⟩ rfl (by kernel_rfl:NS.on ⟨[],[0],[0,1,2,7,13,14]⟩ (aeK c d e g i b f ())=(By d e g i b f) ((0:Int),0,c)) (bU (I:=(By d e g i b f)) (J:=(Gl)) (id:=0) (by kernel_rfl:((DC.drop 3).take 1) = [.block 0 (.loop (bK ((((DC.drop 3).take 1)).headD .skip)))]) Lf (apA _) (fun s=>by obtain ⟨l,m,n⟩:=s;exact anE c d e g i b f l m n) ((0:Int),0,c))) (fun a=>by obtain ⟨j,k⟩:=a;exact Sg.seg (C:=C0) an zK 60 ((DC.drop 3).drop 1) (apB (j,k)) (aaJ j k) (fun a:Empty=>a.elim) Bx [⟨[],[0],[6]⟩] (by kernel_rfl))))
    (fun x=>by cases x with | r0 o p=>exact ⟨.inr rfl,[.int .u64 o],[],by kernel_rfl,trivial,by kernel_rfl⟩) h
def Gm:Option nY→Bool
  | some _=>true
  | none=>false
def E7:Option nY→Int
  | some (.r0 x _)=>x
  | _=>0
def zL:Option nY→List Int
  | some (.r0 _ x)=>x
  | _=>[]
theorem apD{x:Option nY}(h:Gm x=true) :x=some (.r0 (E7 x) (zL x)):=by
  unfold Gm at h
  split at h <;> first | rfl | (cases h;done) | (rename_i y;cases y;rfl)
def ajy:aJ:=am3 vm [.ns .u64] (.cons (.lsl 0) (.cons (.ns .u64) (.cons (.int .u64) .nil))) fun x t=>[⟨Zp (.r0 (E7 (vv x.1 t.1.1 t.1.2.1 t.2.1.2 t.2.2.1)) (zL (vv x.1 t.1.1 t.1.2.1 t.2.1.2 t.2.2.1))),[Gm (vv x.1 t.1.1 t.1.2.1 t.2.1.2 t.2.2.1)]⟩]
theorem akO:aU prog ajy:=aea fun x t=>(Q0 (fun h=>apC x.1 t.1.1 t.1.2.1 t.1.2.2 t.2.1.1 t.2.1.2 t.2.2.1 (apD h)) aeb)
def ajz:List aJ:=ajy :: ajx
theorem pL:aY prog (bb ajz):=au akO zK
inductive io where
  | r0 (a:Nat) (b:Nat) (c:Nat) (d:Nat) (e:List Int)
def tc:io→AE×aL
  | .r0 a b c d e=>(.ret,⟨ah 61 [(4,.sl 0 1 1 a b c),(5,.int .i64 ((d:Nat):Int))],[(0,.ns .u64 e)],1⟩)
theorem yx:kR tc:=by intro x;cases x <;> (intro h;cases h)
theorem apE(id:Nat) :qE id tc:=by intro x;cases x <;> (intro h;cases h)
def Zq:io→jc
  | .r0 a b e c d=>⟨.tup [.imm .free (.ns .u64 d) 1 1 a b,.int .i64 ((c:Nat):Int)],[]⟩
def rE:List Code:=bJ (bi vh)
def aeM(a:Lv)(b:Lv) :Nat×(List Int)×Nat×(List Int)×Nat→aL:=fun (c,d,e,f,g)=>⟨ah 61 [(2,.ptr 0 1 0 0),(3,.ptr 1 1 0 0),(6,.int .i64 ((c:Nat):Int))],[(0,.vs [.imm a (.ns .u64 d) 1 1 0 e]),(1,.vs [.imm b (.ns .u64 f) 1 1 0 g])],2⟩
def N9(a : List Int)(b : List Int) : T ((Nat × (List Int) × Nat × (List Int) × Nat) ⊕ (io)) :=
  .ask (decide ((0:Int) < (2:Int)))
    (.need (iS (0:Int) 2)<|.need (aQ 0 (List.length a) a)<|.need (cW (aH (aa 0 (List.length a) a)))<|.ask (decide ((((aS (aH (aa 0 (List.length a) a))):Nat):Int) > (4096:Int)))
      (.leaf (.inl (2,(bg (aH (aa 0 (List.length a) a))),(aS (aH (aa 0 (List.length a) a))),b,(List.length b))))
      (.need (d8 .i64 (1:Int))<|.ask (decide ((1:Int) < (2:Int)))
        (.need (iS (1:Int) 2)<|.need (aQ 0 (List.length b) b)<|.need (cW (aH (aa 0 (List.length b) b)))<|.ask (decide ((((aS (aH (aa 0 (List.length b) b))):Nat):Int) > (4096:Int)))
          (.leaf (.inl (2,(bg (aH (aa 0 (List.length a) a))),(aS (aH (aa 0 (List.length a) a))),(bg (aH (aa 0 (List.length b) b))),(aS (aH (aa 0 (List.length b) b))))))
          (.need (d8 .i64 (2:Int))<|.ask (decide ((2:Int) < (2:Int)))
            (.fail)
            (.leaf (.inl (0,(bg (aH (aa 0 (List.length a) a))),(aS (aH (aa 0 (List.length a) a))),(bg (aH (aa 0 (List.length b) b))),(aS (aH (aa 0 (List.length b) b))))))))
        (.fail)))
    (.fail)
def aeN(a:Lv)(b:Lv)(c:List Int)(d:Nat)(e:List Int)(f:Nat)(g:Bool) :aL:=⟨ah 61 [(2,.ptr 0 1 0 0),(3,.ptr 1 1 0 0),(29,.bool false g)],[(0,.vs [.imm a (.ns .u64 c) 1 1 0 d]),(1,.vs [.imm b (.ns .u64 e) 1 1 0 f])],2⟩
def aaK(c:Nat)(a:Nat)(b:Nat) :T ((Bool)⊕(io)) :=
  .ask (((c:Nat):Int) != (0:Int))
    (.leaf (.inr (.r0 0 0 0 c ([]:List Int))))
    (.need (d8 .i64 (((a+b):Nat):Int))<|.ask (decide ((((a+b):Nat):Int) > (4097:Int)))
      (.ask (decide (((a:Nat):Int) > (0:Int)))
        (.leaf (.inl (decide (((b:Nat):Int) > (0:Int)))))
        (.leaf (.inl false)))
      (.leaf (.inl false)))
def aeO(c:Lv)(d:Lv)(e:List Int)(f:Nat)(g:List Int)(a:Nat) :Nat×(List Int)→aL:=fun (b,h)=>⟨ah 61 [(2,.ptr 0 1 0 0),(3,.ptr 1 1 0 0),(7,.sl 2 1 1 0 b b),(37,.int .i64 ((a:Nat):Int)),(38,.int .i64 (0:Int))],[(0,.vs [.imm c (.ns .u64 e) 1 1 0 f]),(1,.vs [.imm d (.ns .u64 g) 1 1 0 a]),(2,.ns .u64 h)],3⟩
def Oa(a:Nat)(b:Nat)(c:Bool) :T ((Nat×(List Int))⊕(io)) :=
  .ask c
    (.leaf (.inr (.r0 0 0 0 3 ([]:List Int))))
    (.need (d8 .i64 (((a+b):Nat):Int))<|.need (decide ((0:Int)≤(((a+b):Nat):Int)))<|.need (decide ((((a+b):Nat):Int)≤(((a+b):Nat):Int)))<|.need (decide ((8:Int) * (((a+b):Nat):Int)≤140737488355328))<|.need (d8 .i64 (((a+b):Nat):Int))<|.leaf (.inl ((a+b),(List.replicate (a+b) (0:Int)))))
def Bz(c:Lv)(d:Lv)(e:List Int)(f:Nat)(g:List Int)(a:Nat)(b:Nat) :Nat×(List Int)→aL:=fun (h,i)=>⟨ah 61 [(2,.ptr 0 1 0 0),(3,.ptr 1 1 0 0),(7,.sl 2 1 1 0 b b),(37,.int .i64 ((a:Nat):Int)),(38,.int .i64 ((h:Nat):Int))],[(0,.vs [.imm c (.ns .u64 e) 1 1 0 f]),(1,.vs [.imm d (.ns .u64 g) 1 1 0 a]),(2,.ns .u64 i)],3⟩
def Gn(a:Nat)(b:(List Int)) :aL:=⟨ah 61 [(7,.sl 0 1 1 0 a a)],[(0,.ns .u64 b)],1⟩
def Ob:List Code:=bJ (bK ((((((rE.drop 2).drop 3).drop 3).take 1)).headD .skip))
def aeP(c:Lv)(d:Lv)(e:List Int)(f:Nat)(g:List Int)(a:Nat)(b:Nat)(h:Nat)(i:(List Int)) :aL:=⟨ah 61 [(2,.ptr 0 1 0 0),(3,.ptr 1 1 0 0),(7,.sl 2 1 1 0 b b),(37,.int .i64 ((a:Nat):Int)),(38,.int .i64 ((h:Nat):Int))],[(0,.vs [.imm c (.ns .u64 e) 1 1 0 f]),(1,.vs [.imm d (.ns .u64 g) 1 1 0 a]),(2,.ns .u64 i)],3⟩
def Ia(d:List Int)(b:Nat)(e:List Int)(g:Nat)(c:Nat)(a:Nat)(f:List Int) :T (((List Int))⊕(((List Int))⊕(io))) :=
  .ask (decide (((a:Nat):Int) < ((g:Nat):Int)))
    (.need (d8 .i64 (((a+b):Nat):Int))<|.need (Rm ((c:Nat):Int) c)<|.need (Rm ((a:Nat):Int) c)<|.need (iS ((a:Nat):Int) g)<|.need (jC a (List.length e))<|.need (aQ 0 b d)<|.need (Gm (vv f a (c - a) (aa 0 b d) (List.getD e a 0)))<|.need (iS (((a+b):Nat):Int) c)<|.need (jC (a+b) (List.length (zL (vv f a (c - a) (aa 0 b d) (List.getD e a 0)))))<|.leaf (.inl (List.set (zL (vv f a (c - a) (aa 0 b d) (List.getD e a 0))) (a+b) (E7 (vv f a (c - a) (aa 0 b d) (List.getD e a 0))))))
    (.leaf (.inr (.inl f)))
def aaL(a:Nat)(b:List Int) :T ((Nat×(List Int))⊕(((List Int))⊕(io))) :=
  .need (d8 .i64 (((a+1):Nat):Int))<|.leaf (.inl ((a+1),b))
def Oc(b:List Int)(c:Nat)(d:List Int)(e:Nat)(f:Nat) :Nat×(List Int)→Option ((Nat×(List Int))⊕(((List Int))⊕(io))):=fun (a,g) =>
  aC ((Ia b c d e f a g).run) fun h =>
  (aaL a h).run
theorem anF(g:Lv)(h:Lv)(b:List Int)(c:Nat)(d:List Int)(e:Nat)(a:Nat)(f:Nat)(i:List Int) :Sg prog [] Ob (Bz g h b c d e a (f,i)) (Oc b c d e a (f,i)) (Bz g h b c d e a) (aN 0 (Gn a) tc):=by
  unfold Oc;exact Sg.cut 3 (aI yx) (Sg.seg (C:=C0) an pL 60 (Ob.take 3) (Bz g h b c d e a (f,i)) (Ia b c d e a f i) (aeP g h b c d e a f) (aN 0 (Gn a) tc) [⟨[],[0,1,2],[2,3,7,37,38]⟩,⟨[],[2],[7]⟩] (by kernel_rfl)) (fun j=>by exact Sg.seg (C:=C0) an pL 60 (Ob.drop 3) (aeP g h b c d e a f j) (aaL f j) (Bz g h b c d e a) (aN 0 (Gn a) tc) [⟨[],[0,1,2],[2,3,7,37,38]⟩] (by kernel_rfl))
def apF(a:Nat) :(List Int)→aL:=Gn a
def aaM:Nat×Nat×Nat×Nat×(List Int)→aL:=fun (a,b,c,d,e)=>⟨ah 61 [(4,.sl 0 1 1 a b c),(5,.int .i64 ((d:Nat):Int))],[(0,.ns .u64 e)],1⟩
def Od(a:Nat)(b:List Int) :T ((Nat×Nat×Nat×Nat×(List Int))⊕(io)) :=
  .alt 0
    (.need (Dz (eU b 0 a a))<|.leaf (.inl (0,0,0,3,([]:List Int))))
    (.alt 1
      (.need (DA (eU b 0 a a))<|.leaf (.inl ((Ck (eU b 0 a a)),(Cl (eU b 0 a a)),(Cm (eU b 0 a a)),0,(Cn (eU b 0 a a)))))
      (.fail))
def aaN(a:Nat)(b:Nat)(c:Nat)(d:Nat)(e:List Int) :T ((Empty)⊕(io)) :=
  .leaf (.inr (.r0 a b c d e))
def nZ(d:List Int)(e:List Int) :Option io:=ld (aC ((N9 d e).run) fun (f,g,a,h,b) =>
  aC ((aaK f a b).run) fun i =>
  aC ((Oa a b i).run) fun (c,j) =>
  aC (dM (Oc g a h b c) (0,j)) fun k =>
  aC ((Od c k).run) fun (l,m,n,o,p) =>
  (aaN l m n o p).run)
theorem apG(b:Lv)(j:List Int)(c:Lv)(k:List Int){x:io}(h:nZ j k=some x) :aw prog vh [] [.imm b (.ns .u64 j) 1 1 0 (List.length j),.imm c (.ns .u64 k) 1 1 0 (List.length k)] (Zq x) :=
  Sg.contract true Zq (by kernel_rfl:prog.funcs[vh]? = some (FN vh)) (by kernel_rfl:(FN vh).body=some (bi vh)) (Sg.cut 2 yx (Sg.seg (C:=C0) an pL 60 (rE.take 2) (aT (FN vh) [] [.imm b (.ns .u64 j) 1 1 0 (List.length j),.imm c (.ns .u64 k) 1 1 0 (List.length k)]) (N9 j k) (aeM b c) tc [⟨[],[0,16],[2,3,6]⟩,⟨[],[0,16],[2,3,6]⟩,⟨[],[0,16],[2,3,6]⟩] (by kernel_rfl)) (fun a=>by obtain ⟨m,f,d,g,e⟩:=a;exact Sg.cut 3 yx (Sg.seg (C:=C0) an pL 60 ((rE.drop 2).take 3) (aeM b c (m,f,d,g,e)) (aaK m d e) (aeN b c f d g e) tc [⟨[(.slot 4,.own 1 1 (.ns .u64 ([]:List Int)))],[82],[4,5]⟩,⟨[],[0,1],[2,3,29]⟩,⟨[],[0,1],[2,3,29]⟩,⟨[],[0,1],[2,3,29]⟩] (by kernel_rfl)) (fun n=>by exact Sg.cut 3 yx (Sg.seg (C:=C0) an pL 60 (((rE.drop 2).drop 3).take 3) (aeN b c f d g e n) (Oa d e n) (aeO b c f d g e) tc [⟨[(.slot 4,.own 1 1 (.ns .u64 ([]:List Int)))],[34],[4,5]⟩,⟨[],[0,1,82],[2,3,7,37,38]⟩] (by kernel_rfl)) (fun a=>by obtain ⟨i,l⟩:=a;exact Sg.cut 1 yx (Sg.pre ⟨[],[0,1,2],[2,3,7,37,38]⟩ rfl (by kernel_rfl:NS.on ⟨[],[0,1,2],[2,3,7,37,38]⟩ (aeO b c f d g e (i,l))=(Bz b c f d g e i) (0,l)) (bU (I:=(Bz b c f d g e i)) (J:=(Gn i)) (id:=0) (by kernel_rfl:((((rE.drop 2).drop 3).drop 3).take 1) = [.block 0 (.loop (bK ((((((rE.drop 2).drop 3).drop 3).take 1)).headD .skip)))]) yx (apE _) (fun s=>by obtain ⟨v,w⟩:=s;exact anF b c f d g e i v w) (0,l))) (fun o=>by exact Sg.cut 1 yx (Sg.seg (C:=C0) an pL 60 (((((rE.drop 2).drop 3).drop 3).drop 1).take 1) (apF i o) (Od i o) aaM tc [⟨[(.slot 4,.own 1 1 (.ns .u64 ([]:List Int)))],[97],[4,5]⟩,⟨[],[0],[4,5]⟩] (by kernel_rfl)) (fun a=>by obtain ⟨p,q,r,t,u⟩:=a;exact Sg.seg (C:=C0) an pL 60 (((((rE.drop 2).drop 3).drop 3).drop 1).drop 1) (aaM (p,q,r,t,u)) (aaN p q r t u) (fun a:Empty=>a.elim) tc [⟨[],[0],[4,5]⟩] (by kernel_rfl)))))))
    (fun x=>by cases x with | r0 y z A B D=>exact ⟨.inr rfl,[.sl 0 1 1 y z A,.int .i64 ((B:Nat):Int)],[],by kernel_rfl,trivial,by kernel_rfl⟩) h
def Lg:Option io→Bool
  | some _=>true
  | none=>false
def Lh:Option io→Nat
  | some (.r0 x _ _ _ _)=>x
  | _=>0
def Li:Option io→Nat
  | some (.r0 _ x _ _ _)=>x
  | _=>0
def Wb:Option io→Nat
  | some (.r0 _ _ x _ _)=>x
  | _=>0
def Lj:Option io→Nat
  | some (.r0 _ _ _ x _)=>x
  | _=>0
def Lk:Option io→List Int
  | some (.r0 _ _ _ _ x)=>x
  | _=>[]
theorem apH{x:Option io}(h:Lg x=true) :x=some (.r0 (Lh x) (Li x) (Wb x) (Lj x) (Lk x)):=by
  unfold Lg at h
  split at h <;> first | rfl | (cases h;done) | (rename_i y;cases y;rfl)
def ajA:aJ:=bW vh (.cons (.ns .u64) (.cons (.ns .u64) .nil)) fun t=>[⟨Zq (.r0 (Lh (nZ t.1.2 t.2.1.2)) (Li (nZ t.1.2 t.2.1.2)) (Wb (nZ t.1.2 t.2.1.2)) (Lj (nZ t.1.2 t.2.1.2)) (Lk (nZ t.1.2 t.2.1.2))),[Lg (nZ t.1.2 t.2.1.2)]⟩]
theorem akP:aU prog ajA:=aO fun t=>(aP (fun h=>apG t.1.1 t.1.2 t.2.1.1 t.2.1.2 (apH h)) aW)
def ajB:List aJ:=ajA :: ajz
theorem vw:aY prog (bb ajB):=au akP pL
inductive kr where
  | r0 (a:Nat) (b:Nat) (c:Nat) (d:List Int)
def yY:kr→AE×aL
  | .r0 a b c d=>(.ret,⟨ah 59 [(4,.sl 0 1 1 a b c)],[(0,.ns .u64 d)],1⟩)
theorem Gp:kR yY:=by intro x;cases x <;> (intro h;cases h)
theorem apI(id:Nat) :qE id yY:=by intro x;cases x <;> (intro h;cases h)
def Zr:kr→jc
  | .r0 a b d c=>⟨.imm .free (.ns .u64 c) 1 1 a b,[]⟩
def BA:List Code:=bJ (bi vq)
def aeQ(c:Lv)(a:List Int) :Int×Int×Nat×(List Int)→aL:=fun (d,r2,b,e)=>⟨ah 59 [(0,.imm c (.ns .u64 a) 1 1 0 (List.length a)),(5,.int .i64 d),(6,.int .u64 r2),(7,.sl 0 1 1 0 b b),(24,.int .i64 (((List.length a):Nat):Int)),(25,.int .i64 (0:Int))],[(0,.ns .u64 e)],1⟩
def Oe(b:List Int)(a:Int) :T ((Int×Int×Nat×(List Int))⊕(kr)) :=
  .ask ((((List.length b):Nat):Int) == (0:Int))
    (.leaf (.inr (.r0 0 0 0 ([]:List Int))))
    (.need ((64:Int) != (0:Int))<|.need (d8 .i64 (Int.tdiv a (64:Int)))<|.need ((64:Int) != (0:Int))<|.need (d8 .i64 ((((List.length b):Nat):Int)+(Int.tdiv a (64:Int))))<|.need (d8 .i64 (((((List.length b):Nat):Int)+(Int.tdiv a (64:Int)))+(1:Int)))<|.need (decide ((0:Int)≤(((((List.length b):Nat):Int)+(Int.tdiv a (64:Int)))+(1:Int))))<|.need (decide ((((((List.length b):Nat):Int)+(Int.tdiv a (64:Int)))+(1:Int))≤(((((List.length b):Nat):Int)+(Int.tdiv a (64:Int)))+(1:Int))))<|.need (decide ((8:Int) * (((((List.length b):Nat):Int)+(Int.tdiv a (64:Int)))+(1:Int))≤140737488355328))<|.need (d8 .i64 (((((List.length b):Nat):Int)+(Int.tdiv a (64:Int)))+(1:Int)))<|.leaf (.inl ((Int.tdiv a (64:Int)),(IntKind.u64.wrap (Int.tmod a (64:Int))),(Int.toNat (((((List.length b):Nat):Int)+(Int.tdiv a (64:Int)))+(1:Int))),(List.replicate (Int.toNat (((((List.length b):Nat):Int)+(Int.tdiv a (64:Int)))+(1:Int))) (0:Int)))))
def BB(c:Lv)(a:List Int)(d:Int)(r2:Int)(b:Nat) :Nat×(List Int)→aL:=fun (e,f)=>⟨ah 59 [(0,.imm c (.ns .u64 a) 1 1 0 (List.length a)),(5,.int .i64 d),(6,.int .u64 r2),(7,.sl 0 1 1 0 b b),(24,.int .i64 (((List.length a):Nat):Int)),(25,.int .i64 ((e:Nat):Int))],[(0,.ns .u64 f)],1⟩
def Gq(a:Nat)(b:(List Int)) :aL:=⟨ah 59 [(7,.sl 0 1 1 0 a a)],[(0,.ns .u64 b)],1⟩
def Of:List Code:=bJ (bK ((((BA.drop 6).take 1)).headD .skip))
def aeR(c:Lv)(a:List Int)(d:Int)(r2:Int)(b:Nat)(e:Nat)(f:(List Int)) :aL:=⟨ah 59 [(0,.imm c (.ns .u64 a) 1 1 0 (List.length a)),(5,.int .i64 d),(6,.int .u64 r2),(7,.sl 0 1 1 0 b b),(24,.int .i64 (((List.length a):Nat):Int)),(25,.int .i64 ((e:Nat):Int))],[(0,.ns .u64 f)],1⟩
def DD(c:List Int)(b:Int)(r2:Int)(e:Nat)(a:Nat)(d:List Int) :T (((List Int))⊕(((List Int))⊕(kr))) :=
  .ask (decide (((a:Nat):Int) < (((List.length c):Nat):Int)))
    (.need (d8 .i64 (((a:Nat):Int)+b))<|.need (iS (((a:Nat):Int)+b) e)<|.need (jC (Int.toNat (((a:Nat):Int)+b)) (List.length d))<|.need (iS ((a:Nat):Int) (List.length c))<|.need (jC a (List.length c))<|.need (decide ((0:Int)≤r2))<|.need (iS (((a:Nat):Int)+b) e)<|.need (jC (Int.toNat (((a:Nat):Int)+b)) (List.length d))<|.need (d8 .i64 (((a:Nat):Int)+b))<|.need (d8 .i64 ((((a:Nat):Int)+b)+(1:Int)))<|.need (iS ((a:Nat):Int) (List.length c))<|.need (jC a (List.length c))<|.need (decide ((0:Int)≤(1:Int)))<|.need (decide ((0:Int)≤(IntKind.u64.wrap ((63:Int) - r2))))<|.need (iS ((((a:Nat):Int)+b)+(1:Int)) e)<|.need (jC (Int.toNat ((((a:Nat):Int)+b)+(1:Int))) (List.length (List.set d (Int.toNat (((a:Nat):Int)+b)) (fT .or .u64 (List.getD d (Int.toNat (((a:Nat):Int)+b)) 0) (IntKind.u64.wrap ((List.getD c a 0) * 2 ^ (min (Int.toNat r2) (IntKind.u64.bits))))))))<|.leaf (.inl (List.set (List.set d (Int.toNat (((a:Nat):Int)+b)) (fT .or .u64 (List.getD d (Int.toNat (((a:Nat):Int)+b)) 0) (IntKind.u64.wrap ((List.getD c a 0) * 2 ^ (min (Int.toNat r2) (IntKind.u64.bits)))))) (Int.toNat ((((a:Nat):Int)+b)+(1:Int))) (Int.fdiv (Int.fdiv (List.getD c a 0) (2 ^ (min (Int.toNat (1:Int)) (IntKind.u64.bits)))) (2 ^ (min (Int.toNat (IntKind.u64.wrap ((63:Int) - r2))) (IntKind.u64.bits)))))))
    (.leaf (.inr (.inl d)))
def aaO(a:Nat)(b:List Int) :T ((Nat×(List Int))⊕(((List Int))⊕(kr))) :=
  .need (d8 .i64 (((a+1):Nat):Int))<|.leaf (.inl ((a+1),b))
def Og(b:List Int)(c:Int)(r2:Int)(d:Nat) :Nat×(List Int)→Option ((Nat×(List Int))⊕(((List Int))⊕(kr))):=fun (a,e) =>
  aC ((DD b c r2 d a e).run) fun f =>
  (aaO a f).run
theorem anG(e:Lv)(b:List Int)(c:Int)(r2:Int)(a:Nat)(d:Nat)(f:List Int) :Sg prog [] Of (BB e b c r2 a (d,f)) (Og b c r2 a (d,f)) (BB e b c r2 a) (aN 0 (Gq a) yY):=by
  unfold Og;exact Sg.cut 3 (aI Gp) (Sg.seg (C:=C0) an vw 60 (Of.take 3) (BB e b c r2 a (d,f)) (DD b c r2 a d f) (aeR e b c r2 a d) (aN 0 (Gq a) yY) [⟨[],[0],[0,5,6,7,24,25]⟩,⟨[],[0],[7]⟩] (by kernel_rfl)) (fun g=>by exact Sg.seg (C:=C0) an vw 60 (Of.drop 3) (aeR e b c r2 a d g) (aaO d g) (BB e b c r2 a) (aN 0 (Gq a) yY) [⟨[],[0],[0,5,6,7,24,25]⟩] (by kernel_rfl))
def apJ(a:Nat) :(List Int)→aL:=Gq a
def aeS:Nat×Nat×Nat×(List Int)→aL:=fun (a,b,c,d)=>⟨ah 59 [(4,.sl 0 1 1 a b c)],[(0,.ns .u64 d)],1⟩
def Oh(a:Nat)(b:List Int) :T ((Nat×Nat×Nat×(List Int))⊕(kr)) :=
  .need (lP (bO b 0 a a))<|.leaf (.inl ((kV (bO b 0 a a)),(kW (bO b 0 a a)),(kX (bO b 0 a a)),(kY (bO b 0 a a))))
def aaP(a:Nat)(b:Nat)(c:Nat)(d:List Int) :T ((Empty)⊕(kr)) :=
  .leaf (.inr (.r0 a b c d))
def fD(a:List Int)(c:Int) :Option kr:=ld (aC ((Oe a c).run) fun (d,r2,b,e) =>
  aC (dM (Og a d r2 b) (0,e)) fun f =>
  aC ((Oh b f).run) fun (g,h,i,j) =>
  (aaP g h i j).run)
theorem apK(c:Lv)(b:List Int)(e:Int){x:kr}(h:fD b e=some x) :aw prog vq [] [.imm c (.ns .u64 b) 1 1 0 (List.length b),.int .i64 e] (Zr x) :=
  Sg.contract true Zr (by kernel_rfl:prog.funcs[vq]? = some (FN vq)) (by kernel_rfl:(FN vq).body=some (bi vq)) (Sg.cut 6 Gp (Sg.seg (C:=C0) an vw 60 (BA.take 6) (aT (FN vq) [] [.imm c (.ns .u64 b) 1 1 0 (List.length b),.int .i64 e]) (Oe b e) (aeQ c b) yY [⟨[(.slot 4,.own 1 1 (.ns .u64 ([]:List Int)))],[80],[4]⟩,⟨[],[256],[0,5,6,7,24,25]⟩] (by kernel_rfl)) (fun a=>by obtain ⟨f,r2,d,g⟩:=a;exact Sg.cut 1 Gp (Sg.pre ⟨[],[0],[0,5,6,7,24,25]⟩ rfl (by kernel_rfl:NS.on ⟨[],[0],[0,5,6,7,24,25]⟩ (aeQ c b (f,r2,d,g))=(BB c b f r2 d) (0,g)) (bU (I:=(BB c b f r2 d)) (J:=(Gq d)) (id:=0) (by kernel_rfl:((BA.drop 6).take 1) = [.block 0 (.loop (bK ((((BA.drop 6).take 1)).headD .skip)))]) Gp (apI _) (fun s=>by obtain ⟨n,o⟩:=s;exact anG c b f r2 d n o) (0,g))) (fun i=>by exact Sg.cut 1 Gp (Sg.seg (C:=C0) an vw 60 (((BA.drop 6).drop 1).take 1) (apJ d i) (Oh d i) aeS yY [⟨[],[0],[4]⟩] (by kernel_rfl)) (fun a=>by obtain ⟨j,k,l,m⟩:=a;exact Sg.seg (C:=C0) an vw 60 (((BA.drop 6).drop 1).drop 1) (aeS (j,k,l,m)) (aaP j k l m) (fun a:Empty=>a.elim) yY [⟨[],[0],[4]⟩] (by kernel_rfl)))))
    (fun x=>by cases x with | r0 p q r t=>exact ⟨.inr rfl,[.sl 0 1 1 p q r],[],by kernel_rfl,trivial,by kernel_rfl⟩) h
def Gr:Option kr→Bool
  | some _=>true
  | none=>false
def pM:Option kr→Nat
  | some (.r0 x _ _ _)=>x
  | _=>0
def pN:Option kr→Nat
  | some (.r0 _ x _ _)=>x
  | _=>0
def Wc:Option kr→Nat
  | some (.r0 _ _ x _)=>x
  | _=>0
def pO:Option kr→List Int
  | some (.r0 _ _ _ x)=>x
  | _=>[]
theorem apL{x:Option kr}(h:Gr x=true) :x=some (.r0 (pM x) (pN x) (Wc x) (pO x)):=by
  unfold Gr at h
  split at h <;> first | rfl | (cases h;done) | (rename_i y;cases y;rfl)
def ajC:aJ:=bW vq (.cons (.ns .u64) (.cons (.int .i64) .nil)) fun t=>[⟨Zr (.r0 (pM (fD t.1.2 t.2.1)) (pN (fD t.1.2 t.2.1)) (Wc (fD t.1.2 t.2.1)) (pO (fD t.1.2 t.2.1))),[Gr (fD t.1.2 t.2.1)]⟩]
theorem akQ:aU prog ajC:=aO fun t=>(aP (fun h=>apK t.1.1 t.1.2 t.2.1 (apL h)) aW)
def ajD:List aJ:=ajC :: ajB
theorem Ll:aY prog (bb ajD):=au akQ vw
inductive iX where
  | r0 (a:List Int) (b:Nat) (c:Nat)
def IP(a:Lv) :iX→AE×aL
  | .r0 b c d=>(.ret,⟨ah 10 [(2,.imm a (.ns .u64 b) 1 1 0 c),(3,.int .i64 ((d:Nat):Int))],[],0⟩)
theorem aeT{a:Lv} :kR (IP a):=by intro x;cases x <;> (intro h;cases h)
def IQ(a:Lv) :iX→jc
  | .r0 b c d=>⟨.tup [.imm a (.ns .u64 b) 1 1 0 c,.int .i64 ((d:Nat):Int)],[]⟩
def Oi:List Code:=bJ (bi gP)
def Oj(a:Lv) :(List Int)×Nat→aL:=fun (b,c)=>⟨ah 10 [(0,.imm a (.ns .u64 b) 1 1 0 c)],[],0⟩
def Gs(a:List Int) :T (((List Int)×Nat)⊕(iX)) :=
  .need (aQ 0 (List.length a) a)<|.need (cW (aH (aa 0 (List.length a) a)))<|.leaf (.inl ((bg (aH (aa 0 (List.length a) a))),(aS (aH (aa 0 (List.length a) a)))))
def Ol(b:List Int)(a:Nat) :T ((Empty)⊕(iX)) :=
  .ask (decide (((a:Nat):Int) > (4096:Int)))
    (.leaf (.inr (.r0 ([]:List Int) 0 3)))
    (.leaf (.inr (.r0 b a 0)))
def jS(a:List Int) :Option iX:=ld (aC ((Gs a).run) fun (b,c) =>
  (Ol b c).run)
theorem aeU(b:Lv)(c:List Int){x:iX}(h:jS c=some x) :aw prog gP [] [.imm b (.ns .u64 c) 1 1 0 (List.length c)] (IQ b x) :=
  Sg.contract false (IQ b) (by kernel_rfl:prog.funcs[gP]? = some (FN gP)) (by kernel_rfl:(FN gP).body=some (bi gP)) (Sg.cut 2 aeT (Sg.seg (C:=C0) an Ll 60 (Oi.take 2) (aT (FN gP) [] [.imm b (.ns .u64 c) 1 1 0 (List.length c)]) (Gs c) (Oj b) (IP b) [⟨[],[],[0]⟩] (by kernel_rfl)) (fun a=>by obtain ⟨d,e⟩:=a;exact Sg.seg (C:=C0) an Ll 60 (Oi.drop 2) (Oj b (d,e)) (Ol d e) (fun a:Empty=>a.elim) (IP b) [⟨[(.slot 2,.fre 1 1 (.ns .u64 ([]:List Int))),(.slot 2,.lev b)],[],[2,3]⟩,⟨[],[],[2,3]⟩] (by kernel_rfl)))
    (fun x=>by cases x with | r0 f g i=>exact ⟨.inr rfl,[.imm b (.ns .u64 f) 1 1 0 g,.int .i64 ((i:Nat):Int)],[],by kernel_rfl,trivial,by kernel_rfl⟩) h
def zM:Option iX→Bool
  | some _=>true
  | none=>false
def BC:Option iX→List Int
  | some (.r0 x _ _)=>x
  | _=>[]
def BD:Option iX→Nat
  | some (.r0 _ x _)=>x
  | _=>0
def BE:Option iX→Nat
  | some (.r0 _ _ x)=>x
  | _=>0
theorem aeV{x:Option iX}(h:zM x=true) :x=some (.r0 (BC x) (BD x) (BE x)):=by
  unfold zM at h
  split at h <;> first | rfl | (cases h;done) | (rename_i y;cases y;rfl)
def RA:aJ:=bW gP (.cons (.ns .u64) .nil) fun t=>[⟨IQ t.1.1 (.r0 (BC (jS t.1.2)) (BD (jS t.1.2)) (BE (jS t.1.2))),[zM (jS t.1.2)]⟩]
theorem Zs:aU prog RA:=aO fun t=>(aP (fun h=>aeU t.1.1 t.1.2 (aeV h)) aW)
def RB:List aJ:=RA :: ajD
theorem qS:aY prog (bb RB):=au Zs Ll
inductive n4 where
  | r0 (a:List Int) (b:Nat) (c:Nat)
def Kf:n4→AE×aL
  | .r0 a b c=>(.ret,⟨ah 30 [(4,.imm .free (.ns .u64 a) 1 1 0 b),(5,.int .i64 ((c:Nat):Int))],[],0⟩)
theorem UW:kR Kf:=by intro x;cases x <;> (intro h;cases h)
def Zt:n4→jc
  | .r0 a b c=>⟨.tup [.imm .free (.ns .u64 a) 1 1 0 b,.int .i64 ((c:Nat):Int)],[]⟩
def Lm:List Code:=bJ (bi vp)
def aeW(a:Lv)(b:Int) :Nat×(List Int)×Nat→aL:=fun (c,d,e)=>⟨ah 30 [(1,.int .i64 b),(2,.ptr 0 1 0 0),(6,.int .i64 ((c:Nat):Int))],[(0,.vs [.imm a (.ns .u64 d) 1 1 0 e])],1⟩
def UX(a:List Int) :T ((Nat×(List Int)×Nat)⊕(n4)) :=
  .ask (decide ((0:Int) < (1:Int)))
    (.need (iS (0:Int) 1)<|.need (aQ 0 (List.length a) a)<|.need (cW (aH (aa 0 (List.length a) a)))<|.ask (decide ((((aS (aH (aa 0 (List.length a) a))):Nat):Int) > (4096:Int)))
      (.leaf (.inl (2,(bg (aH (aa 0 (List.length a) a))),(aS (aH (aa 0 (List.length a) a))))))
      (.need (d8 .i64 (1:Int))<|.ask (decide ((1:Int) < (1:Int)))
        (.fail)
        (.leaf (.inl (0,(bg (aH (aa 0 (List.length a) a))),(aS (aH (aa 0 (List.length a) a))))))))
    (.fail)
def aeX(a:Lv)(b:Int)(c:List Int)(d:Nat)(_:Unit) :aL:=⟨ah 30 [(1,.int .i64 b),(2,.ptr 0 1 0 0)],[(0,.vs [.imm a (.ns .u64 c) 1 1 0 d])],1⟩
def aeY(a:Int)(b:Nat)(c:Nat) :T ((Unit)⊕(n4)) :=
  .ask (((b:Nat):Int) != (0:Int))
    (.leaf (.inr (.r0 ([]:List Int) 0 2)))
    (.ask (decide (a < (0:Int)))
      (.leaf (.inr (.r0 ([]:List Int) 0 2)))
      (.ask (decide (((c:Nat):Int) > (0:Int)))
        (.ask (decide (a ≥ (262144:Int)))
          (.leaf (.inr (.r0 ([]:List Int) 0 3)))
          (.leaf (.inl ())))
        (.leaf (.inl ()))))
def aeZ:(List Int)×Nat×Nat→aL:=fun (a,b,c)=>⟨ah 30 [(4,.imm .free (.ns .u64 a) 1 1 0 b),(5,.int .i64 ((c:Nat):Int))],[],0⟩
def Ln(c:Int)(a:List Int)(b:Nat) :T (((List Int)×Nat×Nat)⊕(n4)) :=
  .need (aQ 0 b a)<|.need (Gr (fD (aa 0 b a) c))<|.need (aQ (pM (fD (aa 0 b a) c)) (pN (fD (aa 0 b a) c)) (pO (fD (aa 0 b a) c)))<|.need (zM (jS (aa (pM (fD (aa 0 b a) c)) (pN (fD (aa 0 b a) c)) (pO (fD (aa 0 b a) c)))))<|.leaf (.inl ((BC (jS (aa (pM (fD (aa 0 b a) c)) (pN (fD (aa 0 b a) c)) (pO (fD (aa 0 b a) c))))),(BD (jS (aa (pM (fD (aa 0 b a) c)) (pN (fD (aa 0 b a) c)) (pO (fD (aa 0 b a) c))))),(BE (jS (aa (pM (fD (aa 0 b a) c)) (pN (fD (aa 0 b a) c)) (pO (fD (aa 0 b a) c)))))))
def ae0(a:List Int)(b:Nat)(c:Nat) :T ((Empty)⊕(n4)) :=
  .leaf (.inr (.r0 a b c))
def iQ(c:List Int)(a:Int) :Option n4:=ld (aC ((UX c).run) fun (d,e,b) =>
  aC ((aeY a d b).run) fun _ =>
  aC ((Ln a e b).run) fun (f,g,h) =>
  (ae0 f g h).run)
theorem apM(c:Lv)(d:List Int)(b:Int){x:n4}(h:iQ d b=some x) :aw prog vp [] [.imm c (.ns .u64 d) 1 1 0 (List.length d),.int .i64 b] (Zt x) :=
  Sg.contract true Zt (by kernel_rfl:prog.funcs[vp]? = some (FN vp)) (by kernel_rfl:(FN vp).body=some (bi vp)) (Sg.cut 2 UW (Sg.seg (C:=C0) an qS 60 (Lm.take 2) (aT (FN vp) [] [.imm c (.ns .u64 d) 1 1 0 (List.length d),.int .i64 b]) (UX d) (aeW c b) Kf [⟨[],[0],[1,2,6]⟩,⟨[],[0],[1,2,6]⟩] (by kernel_rfl)) (fun a=>by obtain ⟨g,f,e⟩:=a;exact Sg.cut 1 UW (Sg.seg (C:=C0) an qS 60 ((Lm.drop 2).take 1) (aeW c b (g,f,e)) (aeY b g e) (aeX c b f e) Kf [⟨[(.slot 4,.fre 1 1 (.ns .u64 ([]:List Int)))],[],[4,5]⟩,⟨[(.slot 4,.fre 1 1 (.ns .u64 ([]:List Int)))],[],[4,5]⟩,⟨[(.slot 4,.fre 1 1 (.ns .u64 ([]:List Int)))],[],[4,5]⟩,⟨[],[0],[1,2]⟩,⟨[],[0],[1,2]⟩] (by kernel_rfl)) (fun a=>by cases a;exact Sg.cut 1 UW (Sg.seg (C:=C0) an qS 60 (((Lm.drop 2).drop 1).take 1) (aeX c b f e ()) (Ln b f e) aeZ Kf [⟨[],[],[4,5]⟩] (by kernel_rfl)) (fun a=>by obtain ⟨i,j,k⟩:=a;exact Sg.seg (C:=C0) an qS 60 (((Lm.drop 2).drop 1).drop 1) (aeZ (i,j,k)) (ae0 i j k) (fun a:Empty=>a.elim) Kf [⟨[],[],[4,5]⟩] (by kernel_rfl)))))
    (fun x=>by cases x with | r0 l m n=>exact ⟨.inr rfl,[.imm .free (.ns .u64 l) 1 1 0 m,.int .i64 ((n:Nat):Int)],[],by kernel_rfl,trivial,by kernel_rfl⟩) h
def BF:Option n4→Bool
  | some _=>true
  | none=>false
def vx:Option n4→List Int
  | some (.r0 x _ _)=>x
  | _=>[]
def vy:Option n4→Nat
  | some (.r0 _ x _)=>x
  | _=>0
def We:Option n4→Nat
  | some (.r0 _ _ x)=>x
  | _=>0
theorem apN{x:Option n4}(h:BF x=true) :x=some (.r0 (vx x) (vy x) (We x)):=by
  unfold BF at h
  split at h <;> first | rfl | (cases h;done) | (rename_i y;cases y;rfl)
def ajE:aJ:=bW vp (.cons (.ns .u64) (.cons (.int .i64) .nil)) fun t=>[⟨Zt (.r0 (vx (iQ t.1.2 t.2.1)) (vy (iQ t.1.2 t.2.1)) (We (iQ t.1.2 t.2.1))),[BF (iQ t.1.2 t.2.1)]⟩]
theorem akR:aU prog ajE:=aO fun t=>(aP (fun h=>apM t.1.1 t.1.2 t.2.1 (apN h)) aW)
def ajF:List aJ:=ajE :: RB
theorem m5:aY prog (bb ajF):=au akR qS
end
end Go.Plb.Seat
namespace Go.Plb.Seat
open Go Go.Plb
set_option linter.unusedVariables false
set_option maxRecDepth 100000
noncomputable section
inductive f9 where
  | r0 (a:Nat) (b:Nat) (c:Nat) (d:Bool) (e:List Int)
def oN:f9→AE×aL
  | .r0 a b c d e=>(.ret,⟨ah 97 [(4,.sl 0 1 1 a b c),(5,.bool false d)],[(0,.ns .u64 e)],1⟩)
theorem r6:kR oN:=by intro x;cases x <;> (intro h;cases h)
theorem ae1(id:Nat) :qE id oN:=by intro x;cases x <;> (intro h;cases h)
def Zu:f9→jc
  | .r0 a b e c d=>⟨.tup [.imm .free (.ns .u64 d) 1 1 a b,.bool false c],[]⟩
def nr:List Code:=bJ (bi vn)
def ae2(b:Lv)(a:List Int) :Int×Int×Bool×Nat×Nat→aL:=fun (c,r2,d,e,f)=>⟨ah 97 [(0,.imm b (.ns .u64 a) 1 1 0 (List.length a)),(6,.int .i64 c),(7,.int .u64 r2),(8,.bool false d),(36,.imm b (.ns .u64 a) 1 1 0 e),(37,.int .i64 ((f:Nat):Int)),(38,.int .i64 (0:Int))],[],0⟩
def Ib(b:List Int)(a:Int) :T ((Int×Int×Bool×Nat×Nat)⊕(f9)) :=
  .need ((64:Int) != (0:Int))<|.need (d8 .i64 (Int.tdiv a (64:Int)))<|.need ((64:Int) != (0:Int))<|.ask (decide ((Int.tdiv a (64:Int)) ≥ (((List.length b):Nat):Int)))
    (.leaf (.inr (.r0 0 0 0 (decide ((((List.length b):Nat):Int) > (0:Int))) ([]:List Int))))
    (.need (iS (Int.tdiv a (64:Int)) (List.length b))<|.need (jC (Int.toNat (Int.tdiv a (64:Int))) (List.length b))<|.need (decide ((0:Int)≤(IntKind.u64.wrap (Int.tmod a (64:Int)))))<|.need (Rm (Int.tdiv a (64:Int)) (List.length b))<|.need (Rm (0:Int) (Int.toNat (Int.tdiv a (64:Int))))<|.leaf (.inl ((Int.tdiv a (64:Int)),(IntKind.u64.wrap (Int.tmod a (64:Int))),((fT .and .u64 (List.getD b (Int.toNat (Int.tdiv a (64:Int))) 0) (IntKind.u64.wrap ((IntKind.u64.wrap ((1:Int) * 2 ^ (min (Int.toNat (IntKind.u64.wrap (Int.tmod a (64:Int)))) (IntKind.u64.bits)))) - (1:Int)))) != (0:Int)),(Int.toNat (Int.tdiv a (64:Int))),(Int.toNat (Int.tdiv a (64:Int))))))
def BG(b:Lv)(a:List Int)(c:Int)(r2:Int)(d:Nat)(e:Nat) :Bool×Nat→aL:=fun (f,g)=>⟨ah 97 [(0,.imm b (.ns .u64 a) 1 1 0 (List.length a)),(6,.int .i64 c),(7,.int .u64 r2),(8,.bool false f),(36,.imm b (.ns .u64 a) 1 1 0 d),(37,.int .i64 ((e:Nat):Int)),(38,.int .i64 ((g:Nat):Int))],[],0⟩
def Gt(b:Lv)(a:List Int)(c:Int)(r2:Int)(d:Bool) :aL:=⟨ah 97 [(0,.imm b (.ns .u64 a) 1 1 0 (List.length a)),(6,.int .i64 c),(7,.int .u64 r2),(8,.bool false d)],[],0⟩
def Om:List Code:=bJ (bK ((((nr.drop 6).take 1)).headD .skip))
def ae3(b:Lv)(a:List Int)(c:Int)(r2:Int)(d:Nat)(e:Nat)(f:Nat)(g:Bool) :aL:=⟨ah 97 [(0,.imm b (.ns .u64 a) 1 1 0 (List.length a)),(6,.int .i64 c),(7,.int .u64 r2),(8,.bool false g),(36,.imm b (.ns .u64 a) 1 1 0 d),(37,.int .i64 ((e:Nat):Int)),(38,.int .i64 ((f:Nat):Int))],[],0⟩
def DE(b:List Int)(d:Nat)(e:Nat)(c:Bool)(a:Nat) :T ((Bool)⊕((Bool)⊕(f9))) :=
  .ask (decide (((a:Nat):Int) < ((e:Nat):Int)))
    (.need (iS ((a:Nat):Int) d)<|.need (jC a (List.length b))<|.ask c
      (.leaf (.inl true))
      (.leaf (.inl ((List.getD b a 0) != (0:Int)))))
    (.leaf (.inr (.inl c)))
def aaQ(a:Nat)(b:Bool) :T ((Bool×Nat)⊕((Bool)⊕(f9))) :=
  .need (d8 .i64 (((a+1):Nat):Int))<|.leaf (.inl (b,(a+1)))
def On(b:List Int)(c:Nat)(d:Nat) :Bool×Nat→Option ((Bool×Nat)⊕((Bool)⊕(f9))):=fun (e,a) =>
  aC ((DE b c d e a).run) fun f =>
  (aaQ a f).run
theorem anH(b:Lv)(a:List Int)(c:Int)(r2:Int)(d:Nat)(e:Nat)(g:Bool)(f:Nat) :Sg prog [] Om (BG b a c r2 d e (g,f)) (On a d e (g,f)) (BG b a c r2 d e) (aN 0 (Gt b a c r2) oN):=by
  unfold On;exact Sg.cut 3 (aI r6) (Sg.seg (C:=C0) an m5 60 (Om.take 3) (BG b a c r2 d e (g,f)) (DE a d e g f) (ae3 b a c r2 d e f) (aN 0 (Gt b a c r2) oN) [⟨[],[],[0,6,7,8,36,37,38]⟩,⟨[],[],[0,6,7,8,36,37,38]⟩,⟨[],[],[0,6,7,8]⟩] (by kernel_rfl)) (fun h=>by exact Sg.seg (C:=C0) an m5 60 (Om.drop 3) (ae3 b a c r2 d e f h) (aaQ f h) (BG b a c r2 d e) (aN 0 (Gt b a c r2) oN) [⟨[],[],[0,6,7,8,36,37,38]⟩] (by kernel_rfl))
def apO(a:Lv)(b:List Int)(c:Int)(r2:Int) :Bool→aL:=Gt a b c r2
def ae4(c:Lv)(a:List Int)(d:Int)(r2:Int)(e:Bool) :Nat×Nat×(List Int)→aL:=fun (b,f,g)=>⟨ah 97 [(0,.imm c (.ns .u64 a) 1 1 0 (List.length a)),(6,.int .i64 d),(7,.int .u64 r2),(8,.bool false e),(11,.sl 0 1 1 0 b b),(54,.int .i64 ((f:Nat):Int)),(55,.int .i64 (0:Int))],[(0,.ns .u64 g)],1⟩
def Ic(a:List Int)(b:Int) :T ((Nat×Nat×(List Int))⊕(f9)) :=
  .need (d8 .i64 ((((List.length a):Nat):Int) - b))<|.need (decide ((0:Int)≤((((List.length a):Nat):Int) - b)))<|.need (decide (((((List.length a):Nat):Int) - b)≤((((List.length a):Nat):Int) - b)))<|.need (decide ((8:Int) * ((((List.length a):Nat):Int) - b)≤140737488355328))<|.need (d8 .i64 ((((List.length a):Nat):Int) - b))<|.leaf (.inl ((Int.toNat ((((List.length a):Nat):Int) - b)),(Int.toNat ((((List.length a):Nat):Int) - b)),(List.replicate (Int.toNat ((((List.length a):Nat):Int) - b)) (0:Int))))
def yZ(c:Lv)(a:List Int)(d:Int)(r2:Int)(e:Bool)(b:Nat)(f:Nat) :Nat×(List Int)→aL:=fun (g,h)=>⟨ah 97 [(0,.imm c (.ns .u64 a) 1 1 0 (List.length a)),(6,.int .i64 d),(7,.int .u64 r2),(8,.bool false e),(11,.sl 0 1 1 0 b b),(54,.int .i64 ((f:Nat):Int)),(55,.int .i64 ((g:Nat):Int))],[(0,.ns .u64 h)],1⟩
def DF(b:Bool)(a:Nat)(c:(List Int)) :aL:=⟨ah 97 [(8,.bool false b),(11,.sl 0 1 1 0 a a)],[(0,.ns .u64 c)],1⟩
def Oo:List Code:=bJ (bK ((((((nr.drop 6).drop 1).drop 2).take 1)).headD .skip))
def aaR(c:Lv)(a:List Int)(d:Int)(r2:Int)(e:Bool)(b:Nat)(f:Nat)(g:Nat)(h:(List Int)) :aL:=⟨ah 97 [(0,.imm c (.ns .u64 a) 1 1 0 (List.length a)),(6,.int .i64 d),(7,.int .u64 r2),(8,.bool false e),(11,.sl 0 1 1 0 b b),(54,.int .i64 ((f:Nat):Int)),(55,.int .i64 ((g:Nat):Int))],[(0,.ns .u64 h)],1⟩
def DG(c:List Int)(b:Int)(r2:Int)(e:Nat)(f:Nat)(a:Nat)(d:List Int) :T (((List Int))⊕(((List Int))⊕(f9))) :=
  .ask (decide (((a:Nat):Int) < ((f:Nat):Int)))
    (.need (d8 .i64 (((a:Nat):Int)+b))<|.need (iS (((a:Nat):Int)+b) (List.length c))<|.need (jC (Int.toNat (((a:Nat):Int)+b)) (List.length c))<|.need (decide ((0:Int)≤r2))<|.need (iS ((a:Nat):Int) e)<|.need (jC a (List.length d))<|.need (d8 .i64 (((a:Nat):Int)+b))<|.need (d8 .i64 ((((a:Nat):Int)+b)+(1:Int)))<|.ask (decide (((((a:Nat):Int)+b)+(1:Int)) < (((List.length c):Nat):Int)))
      (.need (iS ((a:Nat):Int) e)<|.need (jC a (List.length (List.set d a (Int.fdiv (List.getD c (Int.toNat (((a:Nat):Int)+b)) 0) (2 ^ (min (Int.toNat r2) (IntKind.u64.bits)))))))<|.need (d8 .i64 (((a:Nat):Int)+b))<|.need (d8 .i64 ((((a:Nat):Int)+b)+(1:Int)))<|.need (iS ((((a:Nat):Int)+b)+(1:Int)) (List.length c))<|.need (jC (Int.toNat ((((a:Nat):Int)+b)+(1:Int))) (List.length c))<|.need (decide ((0:Int)≤(1:Int)))<|.need (decide ((0:Int)≤(IntKind.u64.wrap ((63:Int) - r2))))<|.need (iS ((a:Nat):Int) e)<|.need (jC a (List.length (List.set d a (Int.fdiv (List.getD c (Int.toNat (((a:Nat):Int)+b)) 0) (2 ^ (min (Int.toNat r2) (IntKind.u64.bits)))))))<|.leaf (.inl (List.set (List.set d a (Int.fdiv (List.getD c (Int.toNat (((a:Nat):Int)+b)) 0) (2 ^ (min (Int.toNat r2) (IntKind.u64.bits))))) a (fT .or .u64 (List.getD (List.set d a (Int.fdiv (List.getD c (Int.toNat (((a:Nat):Int)+b)) 0) (2 ^ (min (Int.toNat r2) (IntKind.u64.bits))))) a 0) (IntKind.u64.wrap ((IntKind.u64.wrap ((List.getD c (Int.toNat ((((a:Nat):Int)+b)+(1:Int))) 0) * 2 ^ (min (Int.toNat (1:Int)) (IntKind.u64.bits)))) * 2 ^ (min (Int.toNat (IntKind.u64.wrap ((63:Int) - r2))) (IntKind.u64.bits))))))))
      (.leaf (.inl (List.set d a (Int.fdiv (List.getD c (Int.toNat (((a:Nat):Int)+b)) 0) (2 ^ (min (Int.toNat r2) (IntKind.u64.bits))))))))
    (.leaf (.inr (.inl d)))
def aaS(a:Nat)(b:List Int) :T ((Nat×(List Int))⊕(((List Int))⊕(f9))) :=
  .need (d8 .i64 (((a+1):Nat):Int))<|.leaf (.inl ((a+1),b))
def Oq(b:List Int)(c:Int)(r2:Int)(d:Nat)(e:Nat) :Nat×(List Int)→Option ((Nat×(List Int))⊕(((List Int))⊕(f9))):=fun (a,f) =>
  aC ((DG b c r2 d e a f).run) fun g =>
  (aaS a g).run
theorem anI(g:Lv)(c:List Int)(d:Int)(r2:Int)(b:Bool)(a:Nat)(e:Nat)(f:Nat)(h:List Int) :Sg prog [] Oo (yZ g c d r2 b a e (f,h)) (Oq c d r2 a e (f,h)) (yZ g c d r2 b a e) (aN 2 (DF b a) oN):=by
  unfold Oq;exact Sg.cut 3 (aI r6) (Sg.seg (C:=C0) an m5 60 (Oo.take 3) (yZ g c d r2 b a e (f,h)) (DG c d r2 a e f h) (aaR g c d r2 b a e f) (aN 2 (DF b a) oN) [⟨[],[0],[0,6,7,8,11,54,55]⟩,⟨[],[0],[0,6,7,8,11,54,55]⟩,⟨[],[0],[8,11]⟩] (by kernel_rfl)) (fun i=>by exact Sg.seg (C:=C0) an m5 60 (Oo.drop 3) (aaR g c d r2 b a e f i) (aaS f i) (yZ g c d r2 b a e) (aN 2 (DF b a) oN) [⟨[],[0],[0,6,7,8,11,54,55]⟩] (by kernel_rfl))
def anJ(a:Bool)(b:Nat) :(List Int)→aL:=DF a b
def aaT(a:Bool) :Nat×Nat×Nat×(List Int)→aL:=fun (b,c,d,e)=>⟨ah 97 [(4,.sl 0 1 1 b c d),(5,.bool false a)],[(0,.ns .u64 e)],1⟩
def Ot(a:Nat)(b:List Int) :T ((Nat×Nat×Nat×(List Int))⊕(f9)) :=
  .need (lP (bO b 0 a a))<|.leaf (.inl ((kV (bO b 0 a a)),(kW (bO b 0 a a)),(kX (bO b 0 a a)),(kY (bO b 0 a a))))
def aaU(a:Bool)(b:Nat)(c:Nat)(d:Nat)(e:List Int) :T ((Empty)⊕(f9)) :=
  .leaf (.inr (.r0 b c d a e))
def n5(a:List Int)(d:Int) :Option f9:=ld (aC ((Ib a d).run) fun (b,r2,e,f,g) =>
  aC (dM (On a f g) (e,0)) fun h =>
  aC ((Ic a b).run) fun (c,i,j) =>
  aC (dM (Oq a b r2 c i) (0,j)) fun k =>
  aC ((Ot c k).run) fun (l,m,n,o) =>
  (aaU h l m n o).run)
theorem apP(c:Lv)(b:List Int)(g:Int){x:f9}(h:n5 b g=some x) :aw prog vn [] [.imm c (.ns .u64 b) 1 1 0 (List.length b),.int .i64 g] (Zu x) :=
  Sg.contract true Zu (by kernel_rfl:prog.funcs[vn]? = some (FN vn)) (by kernel_rfl:(FN vn).body=some (bi vn)) (Sg.cut 6 r6 (Sg.seg (C:=C0) an m5 60 (nr.take 6) (aT (FN vn) [] [.imm c (.ns .u64 b) 1 1 0 (List.length b),.int .i64 g]) (Ib b g) (ae2 c b) oN [⟨[(.slot 4,.own 1 1 (.ns .u64 ([]:List Int)))],[288],[4,5]⟩,⟨[],[],[0,6,7,8,36,37,38]⟩] (by kernel_rfl)) (fun a=>by obtain ⟨d,r2,l,i,j⟩:=a;exact Sg.cut 1 r6 (Sg.pre ⟨[],[],[0,6,7,8,36,37,38]⟩ rfl (by kernel_rfl:NS.on ⟨[],[],[0,6,7,8,36,37,38]⟩ (ae2 c b (d,r2,l,i,j))=(BG c b d r2 i j) (l,0)) (bU (I:=(BG c b d r2 i j)) (J:=(Gt c b d r2)) (id:=0) (by kernel_rfl:((nr.drop 6).take 1) = [.block 0 (.loop (bK ((((nr.drop 6).take 1)).headD .skip)))]) r6 (ae1 _) (fun s=>by obtain ⟨t,u⟩:=s;exact anH c b d r2 i j t u) (l,0))) (fun e=>by exact Sg.cut 2 r6 (Sg.seg (C:=C0) an m5 60 (((nr.drop 6).drop 1).take 2) (apO c b d r2 e) (Ic b d) (ae4 c b d r2 e) oN [⟨[],[64],[0,6,7,8,11,54,55]⟩] (by kernel_rfl)) (fun a=>by obtain ⟨f,k,m⟩:=a;exact Sg.cut 1 r6 (Sg.pre ⟨[],[0],[0,6,7,8,11,54,55]⟩ rfl (by kernel_rfl:NS.on ⟨[],[0],[0,6,7,8,11,54,55]⟩ (ae4 c b d r2 e (f,k,m))=(yZ c b d r2 e f k) (0,m)) (bU (I:=(yZ c b d r2 e f k)) (J:=(DF e f)) (id:=2) (by kernel_rfl:((((nr.drop 6).drop 1).drop 2).take 1) = [.block 2 (.loop (bK ((((((nr.drop 6).drop 1).drop 2).take 1)).headD .skip)))]) r6 (ae1 _) (fun s=>by obtain ⟨v,w⟩:=s;exact anI c b d r2 e f k v w) (0,m))) (fun n=>by exact Sg.cut 1 r6 (Sg.seg (C:=C0) an m5 60 (((((nr.drop 6).drop 1).drop 2).drop 1).take 1) (anJ e f n) (Ot f n) (aaT e) oN [⟨[],[0],[4,5]⟩] (by kernel_rfl)) (fun a=>by obtain ⟨o,p,q,r⟩:=a;exact Sg.seg (C:=C0) an m5 60 (((((nr.drop 6).drop 1).drop 2).drop 1).drop 1) (aaT e (o,p,q,r)) (aaU e o p q r) (fun a:Empty=>a.elim) oN [⟨[],[0],[4,5]⟩] (by kernel_rfl)))))))
    (fun x=>by cases x with | r0 y z A B D=>exact ⟨.inr rfl,[.sl 0 1 1 y z A,.bool false B],[],by kernel_rfl,trivial,by kernel_rfl⟩) h
def Lo:Option f9→Bool
  | some _=>true
  | none=>false
def Lp:Option f9→Nat
  | some (.r0 x _ _ _ _)=>x
  | _=>0
def Lq:Option f9→Nat
  | some (.r0 _ x _ _ _)=>x
  | _=>0
def Wf:Option f9→Nat
  | some (.r0 _ _ x _ _)=>x
  | _=>0
def Lr:Option f9→Bool
  | some (.r0 _ _ _ x _)=>x
  | _=>false
def Ls:Option f9→List Int
  | some (.r0 _ _ _ _ x)=>x
  | _=>[]
theorem apQ{x:Option f9}(h:Lo x=true) :x=some (.r0 (Lp x) (Lq x) (Wf x) (Lr x) (Ls x)):=by
  unfold Lo at h
  split at h <;> first | rfl | (cases h;done) | (rename_i y;cases y;rfl)
def ajG:aJ:=bW vn (.cons (.ns .u64) (.cons (.int .i64) .nil)) fun t=>[⟨Zu (.r0 (Lp (n5 t.1.2 t.2.1)) (Lq (n5 t.1.2 t.2.1)) (Wf (n5 t.1.2 t.2.1)) (Lr (n5 t.1.2 t.2.1)) (Ls (n5 t.1.2 t.2.1))),[Lo (n5 t.1.2 t.2.1)]⟩]
theorem akS:aU prog ajG:=aO fun t=>(aP (fun h=>apP t.1.1 t.1.2 t.2.1 (apQ h)) aW)
def ajH:List aJ:=ajG :: ajF
theorem zN:aY prog (bb ajH):=au akS m5
inductive kZ where
  | r0 (a:List Int) (b:Nat) (c:Nat) (d:Bool) (e:Nat)
def Kg:kZ→AE×aL
  | .r0 a b c d e=>(.ret,⟨ah 23 [(4,.imm .free (.ns .u64 a) 1 1 b c),(5,.bool false d),(6,.int .i64 ((e:Nat):Int))],[],0⟩)
theorem UY:kR Kg:=by intro x;cases x <;> (intro h;cases h)
def Zv:kZ→jc
  | .r0 a b c d e=>⟨.tup [.imm .free (.ns .u64 a) 1 1 b c,.bool false d,.int .i64 ((e:Nat):Int)],[]⟩
def Lt:List Code:=bJ (bi vi)
def ae5(a:Lv)(b:Int) :Nat×(List Int)×Nat→aL:=fun (c,d,e)=>⟨ah 23 [(1,.int .i64 b),(2,.ptr 0 1 0 0),(6,.int .i64 ((c:Nat):Int))],[(0,.vs [.imm a (.ns .u64 d) 1 1 0 e])],1⟩
def UZ(a:List Int) :T ((Nat×(List Int)×Nat)⊕(kZ)) :=
  .ask (decide ((0:Int) < (1:Int)))
    (.need (iS (0:Int) 1)<|.need (aQ 0 (List.length a) a)<|.need (cW (aH (aa 0 (List.length a) a)))<|.ask (decide ((((aS (aH (aa 0 (List.length a) a))):Nat):Int) > (4096:Int)))
      (.leaf (.inl (2,(bg (aH (aa 0 (List.length a) a))),(aS (aH (aa 0 (List.length a) a))))))
      (.need (d8 .i64 (1:Int))<|.ask (decide ((1:Int) < (1:Int)))
        (.fail)
        (.leaf (.inl (0,(bg (aH (aa 0 (List.length a) a))),(aS (aH (aa 0 (List.length a) a))))))))
    (.fail)
def ae6(a:Lv)(b:Int)(c:List Int)(d:Nat)(e:Bool) :aL:=⟨ah 23 [(1,.int .i64 b),(2,.ptr 0 1 0 0),(14,.bool false e)],[(0,.vs [.imm a (.ns .u64 c) 1 1 0 d])],1⟩
def ae7(a:Int)(b:Nat) :T ((Bool)⊕(kZ)) :=
  .ask (((b:Nat):Int) != (0:Int))
    (.leaf (.inl true))
    (.leaf (.inl (decide (a < (0:Int)))))
def ae8:(List Int)×Nat×Nat×Bool→aL:=fun (a,b,c,d)=>⟨ah 23 [(4,.imm .free (.ns .u64 a) 1 1 b c),(5,.bool false d)],[],0⟩
def Lu(c:Int)(a:List Int)(b:Nat)(d:Bool) :T (((List Int)×Nat×Nat×Bool)⊕(kZ)) :=
  .ask d
    (.leaf (.inr (.r0 ([]:List Int) 0 0 false 2)))
    (.need (aQ 0 b a)<|.need (Lo (n5 (aa 0 b a) c))<|.leaf (.inl ((Ls (n5 (aa 0 b a) c)),(Lp (n5 (aa 0 b a) c)),(Lq (n5 (aa 0 b a) c)),(Lr (n5 (aa 0 b a) c)))))
def ae9(a:List Int)(b:Nat)(c:Nat)(d:Bool) :T ((Empty)⊕(kZ)) :=
  .leaf (.inr (.r0 a b c d 0))
def oO(b:List Int)(a:Int) :Option kZ:=ld (aC ((UZ b).run) fun (c,d,e) =>
  aC ((ae7 a c).run) fun f =>
  aC ((Lu a d e f).run) fun (g,h,i,j) =>
  (ae9 g h i j).run)
theorem apR(c:Lv)(d:List Int)(b:Int){x:kZ}(h:oO d b=some x) :aw prog vi [] [.imm c (.ns .u64 d) 1 1 0 (List.length d),.int .i64 b] (Zv x) :=
  Sg.contract true Zv (by kernel_rfl:prog.funcs[vi]? = some (FN vi)) (by kernel_rfl:(FN vi).body=some (bi vi)) (Sg.cut 2 UY (Sg.seg (C:=C0) an zN 60 (Lt.take 2) (aT (FN vi) [] [.imm c (.ns .u64 d) 1 1 0 (List.length d),.int .i64 b]) (UZ d) (ae5 c b) Kg [⟨[],[0],[1,2,6]⟩,⟨[],[0],[1,2,6]⟩] (by kernel_rfl)) (fun a=>by obtain ⟨g,e,f⟩:=a;exact Sg.cut 1 UY (Sg.seg (C:=C0) an zN 60 ((Lt.drop 2).take 1) (ae5 c b (g,e,f)) (ae7 b g) (ae6 c b e f) Kg [⟨[],[0],[1,2,14]⟩,⟨[],[0],[1,2,14]⟩] (by kernel_rfl)) (fun i=>by exact Sg.cut 2 UY (Sg.seg (C:=C0) an zN 60 (((Lt.drop 2).drop 1).take 2) (ae6 c b e f i) (Lu b e f i) ae8 Kg [⟨[(.slot 4,.fre 1 1 (.ns .u64 ([]:List Int)))],[],[4,5,6]⟩,⟨[],[],[4,5]⟩] (by kernel_rfl)) (fun a=>by obtain ⟨j,k,l,m⟩:=a;exact Sg.seg (C:=C0) an zN 60 (((Lt.drop 2).drop 1).drop 2) (ae8 (j,k,l,m)) (ae9 j k l m) (fun a:Empty=>a.elim) Kg [⟨[],[],[4,5,6]⟩] (by kernel_rfl)))))
    (fun x=>by cases x with | r0 n o p q r=>exact ⟨.inr rfl,[.imm .free (.ns .u64 n) 1 1 o p,.bool false q,.int .i64 ((r:Nat):Int)],[],by kernel_rfl,trivial,by kernel_rfl⟩) h
def Lw:Option kZ→Bool
  | some _=>true
  | none=>false
def Lx:Option kZ→List Int
  | some (.r0 x _ _ _ _)=>x
  | _=>[]
def Ly:Option kZ→Nat
  | some (.r0 _ x _ _ _)=>x
  | _=>0
def Lz:Option kZ→Nat
  | some (.r0 _ _ x _ _)=>x
  | _=>0
def Wg:Option kZ→Bool
  | some (.r0 _ _ _ x _)=>x
  | _=>false
def Wh:Option kZ→Nat
  | some (.r0 _ _ _ _ x)=>x
  | _=>0
theorem apS{x:Option kZ}(h:Lw x=true) :x=some (.r0 (Lx x) (Ly x) (Lz x) (Wg x) (Wh x)):=by
  unfold Lw at h
  split at h <;> first | rfl | (cases h;done) | (rename_i y;cases y;rfl)
def ajI:aJ:=bW vi (.cons (.ns .u64) (.cons (.int .i64) .nil)) fun t=>[⟨Zv (.r0 (Lx (oO t.1.2 t.2.1)) (Ly (oO t.1.2 t.2.1)) (Lz (oO t.1.2 t.2.1)) (Wg (oO t.1.2 t.2.1)) (Wh (oO t.1.2 t.2.1))),[Lw (oO t.1.2 t.2.1)]⟩]
theorem akT:aU prog ajI:=aO fun t=>(aP (fun h=>apR t.1.1 t.1.2 t.2.1 (apS h)) aW)
def ajJ:List aJ:=ajI :: ajH
theorem r7:aY prog (bb ajJ):=au akT zN
inductive gQ where
  | r0 (a:Int) (b:Nat)
def pP:gQ→AE×aL
  | .r0 a b=>(.ret,⟨ah 31 [(2,.int .i64 a),(3,.int .i64 ((b:Nat):Int))],[],0⟩)
theorem vz:kR pP:=by intro x;cases x <;> (intro h;cases h)
theorem akU(id:Nat) :qE id pP:=by intro x;cases x <;> (intro h;cases h)
def Ou:gQ→jc
  | .r0 a b=>⟨.tup [.int .i64 a,.int .i64 ((b:Nat):Int)],[]⟩
def pQ:List Code:=bJ (bi px)
def Wi(a:Lv) :Nat×(List Int)×Nat→aL:=fun (b,c,d)=>⟨ah 31 [(1,.ptr 0 1 0 0),(4,.int .i64 ((b:Nat):Int))],[(0,.vs [.imm a (.ns .u64 c) 1 1 0 d])],1⟩
def IR(a:List Int) :T ((Nat×(List Int)×Nat)⊕(gQ)) :=
  .ask (decide ((0:Int) < (1:Int)))
    (.need (iS (0:Int) 1)<|.need (aQ 0 (List.length a) a)<|.need (cW (aH (aa 0 (List.length a) a)))<|.ask (decide ((((aS (aH (aa 0 (List.length a) a))):Nat):Int) > (4096:Int)))
      (.leaf (.inl (2,(bg (aH (aa 0 (List.length a) a))),(aS (aH (aa 0 (List.length a) a))))))
      (.need (d8 .i64 (1:Int))<|.ask (decide ((1:Int) < (1:Int)))
        (.fail)
        (.leaf (.inl (0,(bg (aH (aa 0 (List.length a) a))),(aS (aH (aa 0 (List.length a) a))))))))
    (.fail)
def Wj(a:Lv)(b:Nat)(c:List Int)(d:Nat)(e:Bool) :aL:=⟨ah 31 [(1,.ptr 0 1 0 0),(4,.int .i64 ((b:Nat):Int)),(14,.bool false e)],[(0,.vs [.imm a (.ns .u64 c) 1 1 0 d])],1⟩
def RC(a:Nat)(b:Nat) :T ((Bool)⊕(gQ)) :=
  .ask (((a:Nat):Int) != (0:Int))
    (.leaf (.inl true))
    (.leaf (.inl (((b:Nat):Int) == (0:Int))))
def Wl(a:Lv)(b:List Int)(c:Nat)(_:Unit) :aL:=⟨ah 31 [(1,.ptr 0 1 0 0),(5,.int .i64 (0:Int))],[(0,.vs [.imm a (.ns .u64 b) 1 1 0 c])],1⟩
def RD(a:Nat)(b:Bool) :T ((Unit)⊕(gQ)) :=
  .ask b
    (.leaf (.inr (.r0 (0:Int) a)))
    (.leaf (.inl ()))
def vA(a:Lv)(b:List Int)(c:Nat)(d:Nat) :aL:=⟨ah 31 [(1,.ptr 0 1 0 0),(5,.int .i64 ((d:Nat):Int))],[(0,.vs [.imm a (.ns .u64 b) 1 1 0 c])],1⟩
def E8(a:Lv)(b:List Int)(c:Nat)(d:Nat) :aL:=⟨ah 31 [(1,.ptr 0 1 0 0),(5,.int .i64 ((d:Nat):Int))],[(0,.vs [.imm a (.ns .u64 b) 1 1 0 c])],1⟩
def RE:List Code:=bJ (bK ((((((pQ.drop 2).drop 1).drop 2).take 1)).headD .skip))
def td(b:List Int)(c:Nat)(a:Nat) :T ((Nat)⊕((Nat)⊕(gQ))) :=
  .need (iS ((a:Nat):Int) c)<|.need (jC a (List.length b))<|.ask ((List.getD b a 0) == (0:Int))
    (.need (d8 .i64 (((a+1):Nat):Int))<|.leaf (.inl (a+1)))
    (.leaf (.inr (.inl a)))
def IS(a:List Int)(b:Nat) :Nat→Option ((Nat)⊕((Nat)⊕(gQ))):=fun c =>
  (td a b c).run
theorem ahe(c:Lv)(a:List Int)(b:Nat)(d:Nat) :Sg prog [] RE (vA c a b d) (IS a b d) (vA c a b) (aN 0 (E8 c a b) pP):=by
  unfold IS;exact Sg.seg (C:=C0) an r7 60 RE (vA c a b d) (td a b d) (vA c a b) (aN 0 (E8 c a b) pP) [⟨[],[0],[1,5]⟩,⟨[],[0],[1,5]⟩] (by kernel_rfl)
def akV(a:Lv)(b:List Int)(c:Nat) :Nat→aL:=E8 a b c
def Wm(a:Int) :aL:=⟨ah 31 [(2,.int .i64 a),(3,.int .i64 (0:Int))],[],0⟩
def IT(b:List Int)(c:Nat)(a:Nat) :T ((Int)⊕(gQ)) :=
  .need (d8 .i64 (((64 * a):Nat):Int))<|.need (iS ((a:Nat):Int) c)<|.need (jC a (List.length b))<|.need (fU (dU (List.getD b a 0)))<|.need (d8 .i64 ((((64 * a):Nat):Int)+(fC (dU (List.getD b a 0)))))<|.leaf (.inl ((((64 * a):Nat):Int)+(fC (dU (List.getD b a 0)))))
def RF(a:Int) :T ((Empty)⊕(gQ)) :=
  .leaf (.inr (.r0 a 0))
def uh(d:List Int) :Option gQ:=ld (aC ((IR d).run) fun (b,c,a) =>
  aC ((RC b a).run) fun e =>
  aC ((RD b e).run) fun _ =>
  aC (dM (IS c a) 0) fun f =>
  aC ((IT c a f).run) fun g =>
  (RF g).run)
theorem akW(b:Lv)(e:List Int){x:gQ}(h:uh e=some x) :aw prog px [] [.imm b (.ns .u64 e) 1 1 0 (List.length e)] (Ou x) :=
  Sg.contract true Ou (by kernel_rfl:prog.funcs[px]? = some (FN px)) (by kernel_rfl:(FN px).body=some (bi px)) (Sg.cut 2 vz (Sg.seg (C:=C0) an r7 60 (pQ.take 2) (aT (FN px) [] [.imm b (.ns .u64 e) 1 1 0 (List.length e)]) (IR e) (Wi b) pP [⟨[],[0],[1,4]⟩,⟨[],[0],[1,4]⟩] (by kernel_rfl)) (fun a=>by obtain ⟨f,d,c⟩:=a;exact Sg.cut 1 vz (Sg.seg (C:=C0) an r7 60 ((pQ.drop 2).take 1) (Wi b (f,d,c)) (RC f c) (Wj b f d c) pP [⟨[],[0],[1,4,14]⟩,⟨[],[0],[1,4,14]⟩] (by kernel_rfl)) (fun g=>by exact Sg.cut 2 vz (Sg.seg (C:=C0) an r7 60 (((pQ.drop 2).drop 1).take 2) (Wj b f d c g) (RD f g) (Wl b d c) pP [⟨[],[],[2,3]⟩,⟨[],[0],[1,5]⟩] (by kernel_rfl)) (fun a=>by cases a;exact Sg.cut 1 vz (Sg.pre ⟨[],[0],[1,5]⟩ rfl (by kernel_rfl:NS.on ⟨[],[0],[1,5]⟩ (Wl b d c ())=(vA b d c) 0) (bU (I:=(vA b d c)) (J:=(E8 b d c)) (id:=0) (by kernel_rfl:((((pQ.drop 2).drop 1).drop 2).take 1) = [.block 0 (.loop (bK ((((((pQ.drop 2).drop 1).drop 2).take 1)).headD .skip)))]) vz (akU _) (fun s=>by exact ahe b d c s) 0)) (fun i=>by exact Sg.cut 1 vz (Sg.seg (C:=C0) an r7 60 (((((pQ.drop 2).drop 1).drop 2).drop 1).take 1) (akV b d c i) (IT d c i) Wm pP [⟨[],[],[2,3]⟩] (by kernel_rfl)) (fun j=>by exact Sg.seg (C:=C0) an r7 60 (((((pQ.drop 2).drop 1).drop 2).drop 1).drop 1) (Wm j) (RF j) (fun a:Empty=>a.elim) pP [⟨[],[],[2,3]⟩] (by kernel_rfl)))))))
    (fun x=>by cases x with | r0 k l=>exact ⟨.inr rfl,[.int .i64 k,.int .i64 ((l:Nat):Int)],[],by kernel_rfl,trivial,by kernel_rfl⟩) h
def E9:Option gQ→Bool
  | some _=>true
  | none=>false
def Gu:Option gQ→Int
  | some (.r0 x _)=>x
  | _=>0
def Ov:Option gQ→Nat
  | some (.r0 _ x)=>x
  | _=>0
theorem akX{x:Option gQ}(h:E9 x=true) :x=some (.r0 (Gu x) (Ov x)):=by
  unfold E9 at h
  split at h <;> first | rfl | (cases h;done) | (rename_i y;cases y;rfl)
def aaV:aJ:=bW px (.cons (.ns .u64) .nil) fun t=>[⟨Ou (.r0 (Gu (uh t.1.2)) (Ov (uh t.1.2))),[E9 (uh t.1.2)]⟩]
theorem afa:aU prog aaV:=aO fun t=>(aP (fun h=>akW t.1.1 t.1.2 (akX h)) aW)
def aaW:List aJ:=aaV :: ajJ
theorem ui:aY prog (bb aaW):=au afa r7
inductive gS where
  | r0 (a:Bool) (b:List Int) (c:Nat) (d:Nat) (e:Int)
def DH:gS→AE×aL
  | .r0 a b c d e=>(.ret,⟨ah 37 [(2,.ptr 0 1 0 0)],[(0,.vs [.bool false a,.imm .free (.ns .u64 b) 1 1 c d,.int .i64 e])],1⟩)
theorem LA:kR DH:=by intro x;cases x <;> (intro h;cases h)
def Ow:gS→jc
  | .r0 a b c d e=>⟨.agg [.bool false a,.imm .free (.ns .u64 b) 1 1 c d,.int .i64 e],[]⟩
def Fa:List Code:=bJ (bi pj)
def Wn(b:Bool)(c:Lv)(a:List Int)(d:Int) :(List Int)×Nat×Bool→aL:=fun (e,f,g)=>⟨ah 37 [(1,.ptr 0 1 0 0),(2,.ptr 1 1 0 0),(3,.imm .free (.ns .u64 e) 1 1 0 f)],[(0,.vs [.bool false b,.imm c (.ns .u64 a) 1 1 0 (List.length a),.int .i64 d]),(1,.vs [.bool false g,.nsl,.int .i64 (0:Int)])],2⟩
def Fb(a:List Int) :T (((List Int)×Nat×Bool)⊕(gS)) :=
  .need (aQ 0 (List.length a) a)<|.need (Dy (oj (aa 0 (List.length a) a)))<|.leaf (.inl ((IN (oj (aa 0 (List.length a) a))),(IL (oj (aa 0 (List.length a) a))),false))
def Wo(b:Bool)(c:Lv)(a:List Int)(d:Int)(e:List Int)(f:Nat)(g:Bool)(h:Int) :aL:=⟨ah 37 [(1,.ptr 0 1 0 0),(2,.ptr 1 1 0 0),(3,.imm .free (.ns .u64 e) 1 1 0 f),(5,.int .i64 h)],[(0,.vs [.bool false b,.imm c (.ns .u64 a) 1 1 0 (List.length a),.int .i64 d]),(1,.vs [.bool false g,.nsl,.int .i64 (0:Int)])],2⟩
def Fc(b:List Int)(a:Nat) :T ((Int)⊕(gS)) :=
  .ask (((a:Nat):Int) == (0:Int))
    (.leaf (.inr (.r0 false ([]:List Int) 0 0 (0:Int))))
    (.need (aQ 0 a b)<|.need (E9 (uh (aa 0 a b)))<|.leaf (.inl (Gu (uh (aa 0 a b)))))
def Wp(b:Bool)(c:Lv)(a:List Int)(d:Int)(e:Bool)(f:Int) :(List Int)×Nat×Nat→aL:=fun (g,h,i)=>⟨ah 37 [(1,.ptr 0 1 0 0),(2,.ptr 1 1 0 0),(3,.imm .free (.ns .u64 g) 1 1 h i),(5,.int .i64 f)],[(0,.vs [.bool false b,.imm c (.ns .u64 a) 1 1 0 (List.length a),.int .i64 d]),(1,.vs [.bool false e,.nsl,.int .i64 (0:Int)])],2⟩
def Fd(a:List Int)(b:Nat)(c:Int) :T (((List Int)×Nat×Nat)⊕(gS)) :=
  .need (aQ 0 b a)<|.need (Lw (oO (aa 0 b a) c))<|.leaf (.inl ((Lx (oO (aa 0 b a) c)),(Ly (oO (aa 0 b a) c)),(Lz (oO (aa 0 b a) c))))
def Wq(c:Bool)(a:Int)(b:Int)(d:List Int)(e:Nat)(f:Nat) :T ((Empty)⊕(gS)) :=
  .need (d8 .i64 (a+b))<|.leaf (.inr (.r0 c d e f (a+b)))
def aE(d:Bool)(e:List Int)(f:Int) :Option gS:=ld (aC ((Fb e).run) fun (a,b,j) =>
  aC ((Fc a b).run) fun c =>
  aC ((Fd a b c).run) fun (g,h,i) =>
  (Wq d f c g h i).run)
theorem akY(c:Bool)(e:Lv)(b:List Int)(d:Int){x:gS}(h:aE c b d=some x) :aw prog pj [] [.agg [.bool false c,.imm e (.ns .u64 b) 1 1 0 (List.length b),.int .i64 d]] (Ow x) :=
  Sg.contract true Ow (by kernel_rfl:prog.funcs[pj]? = some (FN pj)) (by kernel_rfl:(FN pj).body=some (bi pj)) (Sg.cut 2 LA (Sg.seg (C:=C0) an ui 60 (Fa.take 2) (aT (FN pj) [] [.agg [.bool false c,.imm e (.ns .u64 b) 1 1 0 (List.length b),.int .i64 d]]) (Fb b) (Wn c e b d) DH [⟨[],[0,16],[1,2,3]⟩] (by kernel_rfl)) (fun a=>by obtain ⟨f,g,i⟩:=a;exact Sg.cut 3 LA (Sg.seg (C:=C0) an ui 60 ((Fa.drop 2).take 3) (Wn c e b d (f,g,i)) (Fc f g) (Wo c e b d f g i) DH [⟨[(.cell 1 1,.fre 1 1 (.ns .u64 ([]:List Int)))],[1],[2]⟩,⟨[],[0,1],[1,2,3,5]⟩] (by kernel_rfl)) (fun j=>by exact Sg.cut 1 LA (Sg.seg (C:=C0) an ui 60 (((Fa.drop 2).drop 3).take 1) (Wo c e b d f g i j) (Fd f g j) (Wp c e b d i j) DH [⟨[],[0,1],[1,2,3,5]⟩] (by kernel_rfl)) (fun a=>by obtain ⟨k,l,m⟩:=a;exact Sg.seg (C:=C0) an ui 60 (((Fa.drop 2).drop 3).drop 1) (Wp c e b d i j (k,l,m)) (Wq c d j k l m) (fun a:Empty=>a.elim) DH [⟨[],[1],[2]⟩] (by kernel_rfl)))))
    (fun x=>by cases x with | r0 n o p q r=>exact ⟨.inr rfl,[.agg [.bool false n,.imm .free (.ns .u64 o) 1 1 p q,.int .i64 r]],[],by kernel_rfl,trivial,by kernel_rfl⟩) h
def ip:Option gS→Bool
  | some _=>true
  | none=>false
def d9:Option gS→Bool
  | some (.r0 x _ _ _ _)=>x
  | _=>false
def ee:Option gS→List Int
  | some (.r0 _ x _ _ _)=>x
  | _=>[]
def ef:Option gS→Nat
  | some (.r0 _ _ x _ _)=>x
  | _=>0
def eh:Option gS→Nat
  | some (.r0 _ _ _ x _)=>x
  | _=>0
def ei:Option gS→Int
  | some (.r0 _ _ _ _ x)=>x
  | _=>0
theorem akZ{x:Option gS}(h:ip x=true) :x=some (.r0 (d9 x) (ee x) (ef x) (eh x) (ei x)):=by
  unfold ip at h
  split at h <;> first | rfl | (cases h;done) | (rename_i y;cases y;rfl)
def aaX:aJ:=bW pj (.cons (.agg (.cons .bool (.cons (.ns .u64) (.cons (.int .i64) .nil)))) .nil) fun t=>[⟨Ow (.r0 (d9 (aE t.1.1 t.1.2.1.2 t.1.2.2.1)) (ee (aE t.1.1 t.1.2.1.2 t.1.2.2.1)) (ef (aE t.1.1 t.1.2.1.2 t.1.2.2.1)) (eh (aE t.1.1 t.1.2.1.2 t.1.2.2.1)) (ei (aE t.1.1 t.1.2.1.2 t.1.2.2.1))),[ip (aE t.1.1 t.1.2.1.2 t.1.2.2.1)]⟩]
theorem afb:aU prog aaX:=aO fun t=>(aP (fun h=>akY t.1.1 t.1.2.1.1 t.1.2.1.2 t.1.2.2.1 (akZ h)) aW)
def aaY:List aJ:=aaX :: aaW
theorem zO:aY prog (bb aaY):=au afb ui
inductive ql where
  | r0 (a:Bool)
def LB:ql→AE×aL
  | .r0 a=>(.ret,⟨ah 18 [(2,.bool false a)],[],0⟩)
theorem aaZ:kR LB:=by intro x;cases x <;> (intro h;cases h)
def U0:ql→jc
  | .r0 a=>⟨.bool false a,[]⟩
def Ox:List Code:=bJ (bi rV)
def aa0(b:Bool)(c:Lv)(a:List Int)(d:Int)(e:Nat) :aL:=⟨ah 18 [(1,.ptr 0 1 0 0),(4,.int .i64 ((e:Nat):Int))],[(0,.vs [.bool false b,.imm c (.ns .u64 a) 1 1 0 (List.length a),.int .i64 d])],1⟩
def Oy(a:List Int) :T ((Nat)⊕(ql)) :=
  .need (aQ 0 (List.length a) a)<|.need (Dy (oj (aa 0 (List.length a) a)))<|.leaf (.inl (IM (oj (aa 0 (List.length a) a))))
def aa1(a:Bool) :aL:=⟨ah 18 [(2,.bool false a)],[],0⟩
def aa2(a:Int)(b:Nat) :T ((Bool)⊕(ql)) :=
  .ask (((b:Nat):Int) == (0:Int))
    (.ask (decide (a ≥ (-262144:Int)))
      (.leaf (.inl (decide (a≤(262144:Int)))))
      (.leaf (.inl false)))
    (.leaf (.inl false))
def aa3(a:Bool) :T ((Empty)⊕(ql)) :=
  .leaf (.inr (.r0 a))
def eV(a:List Int)(b:Int) :Option ql:=ld (aC ((Oy a).run) fun c =>
  aC ((aa2 b c).run) fun d =>
  (aa3 d).run)
theorem anK(d:Bool)(e:Lv)(b:List Int)(c:Int){x:ql}(h:eV b c=some x) :aw prog rV [] [.agg [.bool false d,.imm e (.ns .u64 b) 1 1 0 (List.length b),.int .i64 c]] (U0 x) :=
  Sg.contract true U0 (by kernel_rfl:prog.funcs[rV]? = some (FN rV)) (by kernel_rfl:(FN rV).body=some (bi rV)) (Sg.cut 2 aaZ (Sg.seg (C:=C0) an zO 60 (Ox.take 2) (aT (FN rV) [] [.agg [.bool false d,.imm e (.ns .u64 b) 1 1 0 (List.length b),.int .i64 c]]) (Oy b) (aa0 d e b c) LB [⟨[],[0],[1,4]⟩] (by kernel_rfl)) (fun f=>by exact Sg.cut 1 aaZ (Sg.seg (C:=C0) an zO 60 ((Ox.drop 2).take 1) (aa0 d e b c f) (aa2 c f) aa1 LB [⟨[],[],[2]⟩,⟨[],[],[2]⟩,⟨[],[],[2]⟩] (by kernel_rfl)) (fun g=>by exact Sg.seg (C:=C0) an zO 60 ((Ox.drop 2).drop 1) (aa1 g) (aa3 g) (fun a:Empty=>a.elim) LB [⟨[],[],[2]⟩] (by kernel_rfl))))
    (fun x=>by cases x with | r0 i=>exact ⟨.inr rfl,[.bool false i],[],by kernel_rfl,trivial,by kernel_rfl⟩) h
def lQ:Option ql→Bool
  | some _=>true
  | none=>false
def jT:Option ql→Bool
  | some (.r0 x)=>x
  | _=>false
theorem anL{x:Option ql}(h:lQ x=true) :x=some (.r0 (jT x)):=by
  unfold lQ at h
  split at h <;> first | rfl | (cases h;done) | (rename_i y;cases y;rfl)
def afc:aJ:=bW rV (.cons (.agg (.cons .bool (.cons (.ns .u64) (.cons (.int .i64) .nil)))) .nil) fun t=>[⟨U0 (.r0 (jT (eV t.1.2.1.2 t.1.2.2.1))),[lQ (eV t.1.2.1.2 t.1.2.2.1)]⟩]
theorem ahf:aU prog afc:=aO fun t=>(aP (fun h=>anK t.1.1 t.1.2.1.1 t.1.2.1.2 t.1.2.2.1 (anL h)) aW)
def afd:List aJ:=afc :: aaY
theorem Co:aY prog (bb afd):=au ahf zO
inductive fQ where
  | r0 (a:Nat) (b:Int) (c:List Int) (d:Nat) (e:List Int) (f:Nat)
def Fe:fQ→AE×aL
  | .r0 a b c d e f=>(.ret,⟨ah 57 [(4,.ptr 0 1 0 0),(5,.int .i64 ((a:Nat):Int))],[(0,.vs [.int .i64 b,.imm .free (.ns .u64 c) 1 1 0 d,.imm .free (.ns .u64 e) 1 1 0 f])],1⟩)
theorem RG:kR Fe:=by intro x;cases x <;> (intro h;cases h)
def LC:fQ→jc
  | .r0 a b c d e f=>⟨.tup [.agg [.int .i64 b,.imm .free (.ns .u64 c) 1 1 0 d,.imm .free (.ns .u64 e) 1 1 0 f],.int .i64 ((a:Nat):Int)],[]⟩
def IU:List Code:=bJ (bi mQ)
def RH(c:Bool)(d:Lv)(a:List Int)(e:Int)(f:Bool)(g:Lv)(b:List Int)(h:Int)(i:Int) :aL:=⟨ah 57 [(2,.ptr 0 1 0 0),(3,.ptr 1 1 0 0),(4,.ptr 2 1 0 0),(6,.ptr 3 1 0 0)],[(0,.vs [.bool false c,.imm d (.ns .u64 a) 1 1 0 (List.length a),.int .i64 e]),(1,.vs [.bool false f,.imm g (.ns .u64 b) 1 1 0 (List.length b),.int .i64 h]),(2,.vs [.int .i64 (0:Int),.nsl,.nsl]),(3,.vs [.int .i64 i,.nsl,.nsl])],4⟩
def te(c:List Int)(a:Int)(d:List Int)(b:Int) :T ((Int)⊕(fQ)) :=
  .ask ((((List.length c):Nat):Int) == (0:Int))
    (.leaf (.inl b))
    (.ask ((((List.length d):Nat):Int) == (0:Int))
      (.leaf (.inl a))
      (.need (d8 .i64 ((oF a b) - (ws a b)))<|.ask (decide (((oF a b) - (ws a b)) > (262144:Int)))
        (.leaf (.inr (.r0 3 (0:Int) ([]:List Int) 0 ([]:List Int) 0)))
        (.leaf (.inl (ws a b)))))
def RI(a:Int) :(List Int)×Nat×(List Int)×Nat→aL:=fun (b,c,d,e)=>⟨ah 57 [(4,.ptr 0 1 0 0),(6,.ptr 1 1 0 0)],[(0,.vs [.int .i64 (0:Int),.nsl,.nsl]),(1,.vs [.int .i64 a,.imm .free (.ns .u64 b) 1 1 0 c,.imm .free (.ns .u64 d) 1 1 0 e])],2⟩
def lG(c:List Int)(e:Int)(a:List Int)(d:Int)(b:Int) :T (((List Int)×Nat×(List Int)×Nat)⊕(fQ)) :=
  .ask ((((List.length c):Nat):Int) == (0:Int))
    (.ask ((((List.length a):Nat):Int) == (0:Int))
      (.leaf (.inl (([]:List Int),0,([]:List Int),0)))
      (.need (d8 .i64 (d - b))<|.need (aQ 0 (List.length a) a)<|.need (BF (iQ (aa 0 (List.length a) a) (d - b)))<|.leaf (.inl (([]:List Int),0,(vx (iQ (aa 0 (List.length a) a) (d - b))),(vy (iQ (aa 0 (List.length a) a) (d - b)))))))
    (.need (d8 .i64 (e - b))<|.need (aQ 0 (List.length c) c)<|.need (BF (iQ (aa 0 (List.length c) c) (e - b)))<|.ask ((((List.length a):Nat):Int) == (0:Int))
      (.leaf (.inl ((vx (iQ (aa 0 (List.length c) c) (e - b))),(vy (iQ (aa 0 (List.length c) c) (e - b))),([]:List Int),0)))
      (.need (d8 .i64 (d - b))<|.need (aQ 0 (List.length a) a)<|.need (BF (iQ (aa 0 (List.length a) a) (d - b)))<|.leaf (.inl ((vx (iQ (aa 0 (List.length c) c) (e - b))),(vy (iQ (aa 0 (List.length c) c) (e - b))),(vx (iQ (aa 0 (List.length a) a) (d - b))),(vy (iQ (aa 0 (List.length a) a) (d - b)))))))
def RJ(a:Int)(b:List Int)(c:Nat)(d:List Int)(e:Nat) :T ((Empty)⊕(fQ)) :=
  .leaf (.inr (.r0 0 a b c d e))
def cP(a:List Int)(b:Int)(c:List Int)(d:Int) :Option fQ:=ld (aC ((te a b c d).run) fun e =>
  aC ((lG a b c d e).run) fun (f,g,h,i) =>
  (RJ e f g h i).run)
theorem ahg(g:Bool)(i:Lv)(b:List Int)(d:Int)(j:Bool)(k:Lv)(c:List Int)(e:Int){x:fQ}(h:cP b d c e=some x) :aw prog mQ [] [.agg [.bool false g,.imm i (.ns .u64 b) 1 1 0 (List.length b),.int .i64 d],.agg [.bool false j,.imm k (.ns .u64 c) 1 1 0 (List.length c),.int .i64 e]] (LC x) :=
  Sg.contract true LC (by kernel_rfl:prog.funcs[mQ]? = some (FN mQ)) (by kernel_rfl:(FN mQ).body=some (bi mQ)) (Sg.cut 3 RG (Sg.seg (C:=C0) an Co 60 (IU.take 3) (aT (FN mQ) [] [.agg [.bool false g,.imm i (.ns .u64 b) 1 1 0 (List.length b),.int .i64 d],.agg [.bool false j,.imm k (.ns .u64 c) 1 1 0 (List.length c),.int .i64 e]]) (te b d c e) (RH g i b d j k c e) Fe [⟨[],[0,16,32,176],[2,3,4,6]⟩,⟨[],[0,16,32,176],[2,3,4,6]⟩,⟨[(.cell 32 1,.fre 1 1 (.ns .u64 ([]:List Int))),(.cell 32 2,.fre 1 1 (.ns .u64 ([]:List Int)))],[32],[4,5]⟩,⟨[],[0,16,32,176],[2,3,4,6]⟩] (by kernel_rfl)) (fun f=>by exact Sg.cut 2 RG (Sg.seg (C:=C0) an Co 60 ((IU.drop 3).take 2) (RH g i b d j k c e f) (lG b d c e f) (RI f) Fe [⟨[(.cell 3 1,.fre 1 1 (.ns .u64 ([]:List Int))),(.cell 3 2,.fre 1 1 (.ns .u64 ([]:List Int)))],[2,3],[4,6]⟩,⟨[(.cell 3 1,.fre 1 1 (.ns .u64 ([]:List Int)))],[2,3],[4,6]⟩,⟨[(.cell 3 2,.fre 1 1 (.ns .u64 ([]:List Int)))],[2,3],[4,6]⟩,⟨[],[2,3],[4,6]⟩] (by kernel_rfl)) (fun a=>by obtain ⟨l,m,n,o⟩:=a;exact Sg.seg (C:=C0) an Co 60 ((IU.drop 3).drop 2) (RI f (l,m,n,o)) (RJ f l m n o) (fun a:Empty=>a.elim) Fe [⟨[],[0],[4,5]⟩] (by kernel_rfl))))
    (fun x=>by cases x with | r0 p q r s t u=>exact ⟨.inr rfl,[.agg [.int .i64 q,.imm .free (.ns .u64 r) 1 1 0 s,.imm .free (.ns .u64 t) 1 1 0 u],.int .i64 ((p:Nat):Int)],[],by kernel_rfl,trivial,by kernel_rfl⟩) h
def wz:Option fQ→Bool
  | some _=>true
  | none=>false
def xI:Option fQ→Nat
  | some (.r0 x _ _ _ _ _)=>x
  | _=>0
def xJ:Option fQ→Int
  | some (.r0 _ x _ _ _ _)=>x
  | _=>0
def xK:Option fQ→List Int
  | some (.r0 _ _ x _ _ _)=>x
  | _=>[]
def xL:Option fQ→Nat
  | some (.r0 _ _ _ x _ _)=>x
  | _=>0
def xM:Option fQ→List Int
  | some (.r0 _ _ _ _ x _)=>x
  | _=>[]
def xN:Option fQ→Nat
  | some (.r0 _ _ _ _ _ x)=>x
  | _=>0
theorem ahh{x:Option fQ}(h:wz x=true) :x=some (.r0 (xI x) (xJ x) (xK x) (xL x) (xM x) (xN x)):=by
  unfold wz at h
  split at h <;> first | rfl | (cases h;done) | (rename_i y;cases y;rfl)
def Wr:aJ:=bW mQ (.cons (.agg (.cons .bool (.cons (.ns .u64) (.cons (.int .i64) .nil)))) (.cons (.agg (.cons .bool (.cons (.ns .u64) (.cons (.int .i64) .nil)))) .nil)) fun t=>[⟨LC (.r0 (xI (cP t.1.2.1.2 t.1.2.2.1 t.2.1.2.1.2 t.2.1.2.2.1)) (xJ (cP t.1.2.1.2 t.1.2.2.1 t.2.1.2.1.2 t.2.1.2.2.1)) (xK (cP t.1.2.1.2 t.1.2.2.1 t.2.1.2.1.2 t.2.1.2.2.1)) (xL (cP t.1.2.1.2 t.1.2.2.1 t.2.1.2.1.2 t.2.1.2.2.1)) (xM (cP t.1.2.1.2 t.1.2.2.1 t.2.1.2.1.2 t.2.1.2.2.1)) (xN (cP t.1.2.1.2 t.1.2.2.1 t.2.1.2.1.2 t.2.1.2.2.1))),[wz (cP t.1.2.1.2 t.1.2.2.1 t.2.1.2.1.2 t.2.1.2.2.1)]⟩]
theorem acx:aU prog Wr:=aO fun t=>(aP (fun h=>ahg t.1.1 t.1.2.1.1 t.1.2.1.2 t.1.2.2.1 t.2.1.1 t.2.1.2.1.1 t.2.1.2.1.2 t.2.1.2.2.1 (ahh h)) aW)
def Ws:List aJ:=Wr :: afd
theorem xO:aY prog (bb Ws):=au acx Co
inductive gT where
  | r0 (a:Nat) (b:Bool) (c:List Int) (d:Nat) (e:Nat) (f:Int)
def Id:gT→AE×aL
  | .r0 a b c d e f=>(.ret,⟨ah 11 [(2,.ptr 0 1 0 0),(3,.int .i64 ((a:Nat):Int))],[(0,.vs [.bool false b,.imm .free (.ns .u64 c) 1 1 d e,.int .i64 f])],1⟩)
theorem Wt:kR Id:=by intro x;cases x <;> (intro h;cases h)
def Oz:gT→jc
  | .r0 a b c d e f=>⟨.tup [.agg [.bool false b,.imm .free (.ns .u64 c) 1 1 d e,.int .i64 f],.int .i64 ((a:Nat):Int)],[]⟩
def LD:List Code:=bJ (bi po)
def Wu:Bool×(List Int)×Nat×Nat×Int×Bool→aL:=fun (a,b,c,d,e,f)=>⟨ah 11 [(1,.ptr 0 1 0 0),(2,.ptr 1 1 0 0)],[(0,.vs [.bool false a,.imm .free (.ns .u64 b) 1 1 c d,.int .i64 e]),(1,.vs [.bool false f,.nsl,.int .i64 (0:Int)])],2⟩
def LE(b:Bool)(a:List Int)(c:Int) :T ((Bool×(List Int)×Nat×Nat×Int×Bool)⊕(gT)) :=
  .need (aQ 0 (List.length a) a)<|.need (ip (aE b (aa 0 (List.length a) a) c))<|.leaf (.inl ((d9 (aE b (aa 0 (List.length a) a) c)),(ee (aE b (aa 0 (List.length a) a) c)),(ef (aE b (aa 0 (List.length a) a) c)),(eh (aE b (aa 0 (List.length a) a) c)),(ei (aE b (aa 0 (List.length a) a) c)),false))
def Wv(a:Bool)(b:List Int)(c:Nat)(d:Nat)(e:Int)(f:Bool)(g:Bool) :aL:=⟨ah 11 [(1,.ptr 0 1 0 0),(2,.ptr 1 1 0 0),(8,.bool false g)],[(0,.vs [.bool false a,.imm .free (.ns .u64 b) 1 1 c d,.int .i64 e]),(1,.vs [.bool false f,.nsl,.int .i64 (0:Int)])],2⟩
def Ff(a:List Int)(b:Nat)(c:Nat)(d:Int) :T ((Bool)⊕(gT)) :=
  .need (aQ b c a)<|.need (lQ (eV (aa b c a) d))<|.leaf (.inl (!(jT (eV (aa b c a) d))))
def Ww(a:Bool)(b:List Int)(c:Nat)(d:Nat)(e:Int)(f:Bool) :T ((Empty)⊕(gT)) :=
  .ask f
    (.leaf (.inr (.r0 3 false ([]:List Int) 0 0 (0:Int))))
    (.leaf (.inr (.r0 0 a b c d e)))
def cq(e:Bool)(f:List Int)(g:Int) :Option gT:=ld (aC ((LE e f g).run) fun (h,a,b,c,d,j) =>
  aC ((Ff a b c d).run) fun i =>
  (Ww h a b c d i).run)
theorem ak0(g:Bool)(l:Lv)(b:List Int)(i:Int){x:gT}(h:cq g b i=some x) :aw prog po [] [.agg [.bool false g,.imm l (.ns .u64 b) 1 1 0 (List.length b),.int .i64 i]] (Oz x) :=
  Sg.contract true Oz (by kernel_rfl:prog.funcs[po]? = some (FN po)) (by kernel_rfl:(FN po).body=some (bi po)) (Sg.cut 2 Wt (Sg.seg (C:=C0) an xO 60 (LD.take 2) (aT (FN po) [] [.agg [.bool false g,.imm l (.ns .u64 b) 1 1 0 (List.length b),.int .i64 i]]) (LE g b i) Wu Id [⟨[],[0,16],[1,2]⟩] (by kernel_rfl)) (fun a=>by obtain ⟨j,c,d,e,f,k⟩:=a;exact Sg.cut 1 Wt (Sg.seg (C:=C0) an xO 60 ((LD.drop 2).take 1) (Wu (j,c,d,e,f,k)) (Ff c d e f) (Wv j c d e f k) Id [⟨[],[0,1],[1,2,8]⟩] (by kernel_rfl)) (fun m=>by exact Sg.seg (C:=C0) an xO 60 ((LD.drop 2).drop 1) (Wv j c d e f k m) (Ww j c d e f m) (fun a:Empty=>a.elim) Id [⟨[(.cell 1 1,.fre 1 1 (.ns .u64 ([]:List Int)))],[1],[2,3]⟩,⟨[],[1],[2,3]⟩] (by kernel_rfl))))
    (fun x=>by cases x with | r0 n o p q r s=>exact ⟨.inr rfl,[.agg [.bool false o,.imm .free (.ns .u64 p) 1 1 q r,.int .i64 s],.int .i64 ((n:Nat):Int)],[],by kernel_rfl,trivial,by kernel_rfl⟩) h
def vB:Option gT→Bool
  | some _=>true
  | none=>false
def uj:Option gT→Nat
  | some (.r0 x _ _ _ _ _)=>x
  | _=>0
def uk:Option gT→Bool
  | some (.r0 _ x _ _ _ _)=>x
  | _=>false
def ul:Option gT→List Int
  | some (.r0 _ _ x _ _ _)=>x
  | _=>[]
def um:Option gT→Nat
  | some (.r0 _ _ _ x _ _)=>x
  | _=>0
def un:Option gT→Nat
  | some (.r0 _ _ _ _ x _)=>x
  | _=>0
def uo:Option gT→Int
  | some (.r0 _ _ _ _ _ x)=>x
  | _=>0
theorem ak1{x:Option gT}(h:vB x=true) :x=some (.r0 (uj x) (uk x) (ul x) (um x) (un x) (uo x)):=by
  unfold vB at h
  split at h <;> first | rfl | (cases h;done) | (rename_i y;cases y;rfl)
def aa4:aJ:=bW po (.cons (.agg (.cons .bool (.cons (.ns .u64) (.cons (.int .i64) .nil)))) .nil) fun t=>[⟨Oz (.r0 (uj (cq t.1.1 t.1.2.1.2 t.1.2.2.1)) (uk (cq t.1.1 t.1.2.1.2 t.1.2.2.1)) (ul (cq t.1.1 t.1.2.1.2 t.1.2.2.1)) (um (cq t.1.1 t.1.2.1.2 t.1.2.2.1)) (un (cq t.1.1 t.1.2.1.2 t.1.2.2.1)) (uo (cq t.1.1 t.1.2.1.2 t.1.2.2.1))),[vB (cq t.1.1 t.1.2.1.2 t.1.2.2.1)]⟩]
theorem afe:aU prog aa4:=aO fun t=>(aP (fun h=>ak0 t.1.1 t.1.2.1.1 t.1.2.1.2 t.1.2.2.1 (ak1 h)) aW)
def aa5:List aJ:=aa4 :: Ws
theorem Gv:aY prog (bb aa5):=au afe xO
end
end Go.Plb.Seat
namespace Go.Plb.Seat
open Go Go.Plb
set_option linter.unusedVariables false
set_option maxRecDepth 100000
noncomputable section
inductive gr where
  | r0 (a:Nat) (b:Bool) (c:List Int) (d:Nat) (e:Nat) (f:Int)
def LF:gr→AE×aL
  | .r0 a b c d e f=>(.ret,⟨ah 21 [(7,.ptr 0 1 0 0),(8,.int .i64 ((a:Nat):Int))],[(0,.vs [.bool false b,.imm .free (.ns .u64 c) 1 1 d e,.int .i64 f])],1⟩)
theorem ahi:kR LF:=by intro x;cases x <;> (intro h;cases h)
def LG:gr→jc
  | .r0 a b c d e f=>⟨.tup [.agg [.bool false b,.imm .free (.ns .u64 c) 1 1 d e,.int .i64 f],.int .i64 ((a:Nat):Int)],[]⟩
def RK:List Code:=bJ (bi jf)
def RL:Nat×Bool×(List Int)×Nat×Nat×Int→aL:=fun (a,b,c,d,e,f)=>⟨ah 21 [(7,.ptr 0 1 0 0),(8,.int .i64 ((a:Nat):Int))],[(0,.vs [.bool false b,.imm .free (.ns .u64 c) 1 1 d e,.int .i64 f])],1⟩
def IV(b:Bool)(a:List Int)(d:Int)(c:Int) :T ((Nat×Bool×(List Int)×Nat×Nat×Int)⊕(gr)) :=
  .ask (d != (0:Int))
    (.leaf (.inr (.r0 3 false ([]:List Int) 0 0 (0:Int))))
    (.need (aQ 0 (List.length a) a)<|.need (vB (cq b (aa 0 (List.length a) a) c))<|.leaf (.inl ((uj (cq b (aa 0 (List.length a) a) c)),(uk (cq b (aa 0 (List.length a) a) c)),(ul (cq b (aa 0 (List.length a) a) c)),(um (cq b (aa 0 (List.length a) a) c)),(un (cq b (aa 0 (List.length a) a) c)),(uo (cq b (aa 0 (List.length a) a) c)))))
def RM(a:Nat)(b:Bool)(c:List Int)(d:Nat)(e:Nat)(f:Int) :T ((Empty)⊕(gr)) :=
  .leaf (.inr (.r0 a b c d e f))
def cj(a:Bool)(b:List Int)(c:Int)(d:Int) :Option gr:=ld (aC ((IV a b c d).run) fun (e,f,g,h,i,j) =>
  (RM e f g h i j).run)
theorem ahj(c:Bool)(i:Lv)(b:List Int)(d:Int)(j:Lv)(e:Int)(k:Lv)(f:List Int)(l:Lv)(g:List Int){x:gr}(h:cj c b d e=some x) :aw prog jf [] [.bool false c,.imm i (.ns .u64 b) 1 1 0 (List.length b),.int .i64 d,.iptr j (.vs [.int .i64 e,.imm k (.ns .u64 f) 1 1 0 (List.length f),.imm l (.ns .u64 g) 1 1 0 (List.length g)]) 1 0 0] (LG x) :=
  Sg.contract false LG (by kernel_rfl:prog.funcs[jf]? = some (FN jf)) (by kernel_rfl:(FN jf).body=some (bi jf)) (Sg.cut 4 ahi (Sg.seg (C:=C0) an Gv 60 (RK.take 4) (aT (FN jf) [] [.bool false c,.imm i (.ns .u64 b) 1 1 0 (List.length b),.int .i64 d,.iptr j (.vs [.int .i64 e,.imm k (.ns .u64 f) 1 1 0 (List.length f),.imm l (.ns .u64 g) 1 1 0 (List.length g)]) 1 0 0]) (IV c b d e) RL LF [⟨[(.cell 0 1,.fre 1 1 (.ns .u64 ([]:List Int)))],[0],[7,8]⟩,⟨[],[0],[7,8]⟩] (by kernel_rfl)) (fun a=>by obtain ⟨m,n,o,p,q,r⟩:=a;exact Sg.seg (C:=C0) an Gv 60 (RK.drop 4) (RL (m,n,o,p,q,r)) (RM m n o p q r) (fun a:Empty=>a.elim) LF [⟨[],[0],[7,8]⟩] (by kernel_rfl)))
    (fun x=>by cases x with | r0 s t u v w y=>exact ⟨.inr rfl,[.agg [.bool false t,.imm .free (.ns .u64 u) 1 1 v w,.int .i64 y],.int .i64 ((s:Nat):Int)],[],by kernel_rfl,trivial,by kernel_rfl⟩) h
def tf:Option gr→Bool
  | some _=>true
  | none=>false
def sD:Option gr→Nat
  | some (.r0 x _ _ _ _ _)=>x
  | _=>0
def sE:Option gr→Bool
  | some (.r0 _ x _ _ _ _)=>x
  | _=>false
def sF:Option gr→List Int
  | some (.r0 _ _ x _ _ _)=>x
  | _=>[]
def sG:Option gr→Nat
  | some (.r0 _ _ _ x _ _)=>x
  | _=>0
def sH:Option gr→Nat
  | some (.r0 _ _ _ _ x _)=>x
  | _=>0
def sI:Option gr→Int
  | some (.r0 _ _ _ _ _ x)=>x
  | _=>0
theorem ahk{x:Option gr}(h:tf x=true) :x=some (.r0 (sD x) (sE x) (sF x) (sG x) (sH x) (sI x)):=by
  unfold tf at h
  split at h <;> first | rfl | (cases h;done) | (rename_i y;cases y;rfl)
def Wx:aJ:=bW jf (.cons .bool (.cons (.ns .u64) (.cons (.int .i64) (.cons (.ivs (.cons (.int .i64) (.cons (.ns .u64) (.cons (.ns .u64) .nil))) 1 0 0) .nil)))) fun t=>[⟨LG (.r0 (sD (cj t.1 t.2.1.2 t.2.2.1 t.2.2.2.1.2.1)) (sE (cj t.1 t.2.1.2 t.2.2.1 t.2.2.2.1.2.1)) (sF (cj t.1 t.2.1.2 t.2.2.1 t.2.2.2.1.2.1)) (sG (cj t.1 t.2.1.2 t.2.2.1 t.2.2.2.1.2.1)) (sH (cj t.1 t.2.1.2 t.2.2.1 t.2.2.2.1.2.1)) (sI (cj t.1 t.2.1.2 t.2.2.1 t.2.2.2.1.2.1))),[tf (cj t.1 t.2.1.2 t.2.2.1 t.2.2.2.1.2.1)]⟩]
theorem acy:aU prog Wx:=aO fun t=>(aP (fun h=>ahj t.1 t.2.1.1 t.2.1.2 t.2.2.1 t.2.2.2.1.1 t.2.2.2.1.2.1 t.2.2.2.1.2.2.1.1 t.2.2.2.1.2.2.1.2 t.2.2.2.1.2.2.2.1.1 t.2.2.2.1.2.2.2.1.2 (ahk h)) aW)
def Wy:List aJ:=Wx :: aa5
theorem jj:aY prog (bb Wy):=au acy Gv
inductive fE where
  | r0 (a:Nat) (b:Bool) (c:List Int) (d:Nat) (e:Nat) (f:Int)
def r8:fE→AE×aL
  | .r0 a b c d e f=>(.ret,⟨ah 97 [(4,.ptr 0 1 0 0),(5,.int .i64 ((a:Nat):Int))],[(0,.vs [.bool false b,.imm .free (.ns .u64 c) 1 1 d e,.int .i64 f])],1⟩)
theorem uq:kR r8:=by intro x;cases x <;> (intro h;cases h)
def U1:fE→jc
  | .r0 a b c d e f=>⟨.tup [.agg [.bool false b,.imm .free (.ns .u64 c) 1 1 d e,.int .i64 f],.int .i64 ((a:Nat):Int)],[]⟩
def rF:List Code:=bJ (bi rS)
def aa6(a:Lv)(b:Lv) :Nat×Bool×(List Int)×Nat×Nat×Int×Bool×(List Int)×Nat×Nat×Int×Bool→aL:=fun (c,d,e,f,g,h,i,j,k,l,m,n)=>⟨ah 97 [(2,.ptr 0 1 0 0),(3,.ptr 1 1 0 0),(4,.ptr 2 1 0 0),(6,.int .i64 ((c:Nat):Int))],[(0,.vs [.bool false d,.imm a (.ns .u64 e) 1 1 f g,.int .i64 h]),(1,.vs [.bool false i,.imm b (.ns .u64 j) 1 1 k l,.int .i64 m]),(2,.vs [.bool false n,.nsl,.int .i64 (0:Int)])],3⟩
def Ie(d : Bool)(a : List Int)(c : Int)(f : Bool)(b : List Int)(e : Int) : T ((Nat × Bool × (List Int) × Nat × Nat × Int × Bool × (List Int) × Nat × Nat × Int × Bool) ⊕ (fE)) :=
  .ask (decide ((0:Int) < (2:Int)))
    (.need (iS (0:Int) 2)<|.need (aQ 0 (List.length a) a)<|.need (lQ (eV (aa 0 (List.length a) a) c))<|.ask (!(jT (eV (aa 0 (List.length a) a) c)))
      (.leaf (.inl (2,d,a,0,(List.length a),c,f,b,0,(List.length b),e,false)))
      (.need (aQ 0 (List.length a) a)<|.need (ip (aE d (aa 0 (List.length a) a) c))<|.need (d8 .i64 (1:Int))<|.ask (decide ((1:Int) < (2:Int)))
        (.need (iS (1:Int) 2)<|.need (aQ 0 (List.length b) b)<|.need (lQ (eV (aa 0 (List.length b) b) e))<|.ask (!(jT (eV (aa 0 (List.length b) b) e)))
          (.leaf (.inl (2,(d9 (aE d (aa 0 (List.length a) a) c)),(ee (aE d (aa 0 (List.length a) a) c)),(ef (aE d (aa 0 (List.length a) a) c)),(eh (aE d (aa 0 (List.length a) a) c)),(ei (aE d (aa 0 (List.length a) a) c)),f,b,0,(List.length b),e,false)))
          (.need (aQ 0 (List.length b) b)<|.need (ip (aE f (aa 0 (List.length b) b) e))<|.need (d8 .i64 (2:Int))<|.ask (decide ((2:Int) < (2:Int)))
            (.fail)
            (.leaf (.inl (0,(d9 (aE d (aa 0 (List.length a) a) c)),(ee (aE d (aa 0 (List.length a) a) c)),(ef (aE d (aa 0 (List.length a) a) c)),(eh (aE d (aa 0 (List.length a) a) c)),(ei (aE d (aa 0 (List.length a) a) c)),(d9 (aE f (aa 0 (List.length b) b) e)),(ee (aE f (aa 0 (List.length b) b) e)),(ef (aE f (aa 0 (List.length b) b) e)),(eh (aE f (aa 0 (List.length b) b) e)),(ei (aE f (aa 0 (List.length b) b) e)),false)))))
        (.fail)))
    (.fail)
def aa7(a:Lv)(b:Lv)(c:Bool)(d:List Int)(e:Nat)(f:Nat)(g:Int)(h:Bool)(i:List Int)(j:Nat)(k:Nat)(l:Int)(m:Bool) :Nat×Int×(List Int)×Nat×(List Int)×Nat→aL:=fun (n,o,p,q,r,s)=>⟨ah 97 [(2,.ptr 0 1 0 0),(3,.ptr 1 1 0 0),(4,.ptr 2 1 0 0),(7,.ptr 3 1 0 0),(8,.int .i64 ((n:Nat):Int))],[(0,.vs [.bool false c,.imm a (.ns .u64 d) 1 1 e f,.int .i64 g]),(1,.vs [.bool false h,.imm b (.ns .u64 i) 1 1 j k,.int .i64 l]),(2,.vs [.bool false m,.nsl,.int .i64 (0:Int)]),(3,.vs [.int .i64 o,.imm .free (.ns .u64 p) 1 1 0 q,.imm .free (.ns .u64 r) 1 1 0 s])],4⟩
def Fg(i:Nat)(a:List Int)(b:Nat)(c:Nat)(g:Int)(d:List Int)(e:Nat)(f:Nat)(h:Int) :T ((Nat×Int×(List Int)×Nat×(List Int)×Nat)⊕(fE)) :=
  .ask (((i:Nat):Int) != (0:Int))
    (.leaf (.inr (.r0 i false ([]:List Int) 0 0 (0:Int))))
    (.need (aQ b c a)<|.need (aQ e f d)<|.need (wz (cP (aa b c a) g (aa e f d) h))<|.leaf (.inl ((xI (cP (aa b c a) g (aa e f d) h)),(xJ (cP (aa b c a) g (aa e f d) h)),(xK (cP (aa b c a) g (aa e f d) h)),(xL (cP (aa b c a) g (aa e f d) h)),(xM (cP (aa b c a) g (aa e f d) h)),(xN (cP (aa b c a) g (aa e f d) h)))))
def aa8(a:Lv)(b:Lv)(c:Bool)(d:List Int)(e:Nat)(f:Nat)(g:Int)(h:Bool)(i:List Int)(j:Nat)(k:Nat)(l:Int)(m:Bool)(n:Int)(o:List Int)(p:Nat)(q:List Int)(r:Nat)(_:Unit) :aL:=⟨ah 97 [(2,.ptr 0 1 0 0),(3,.ptr 1 1 0 0),(4,.ptr 2 1 0 0),(7,.ptr 3 1 0 0),(9,.fn (.func jf) [] [.ptr 3 1 0 0])],[(0,.vs [.bool false c,.imm a (.ns .u64 d) 1 1 e f,.int .i64 g]),(1,.vs [.bool false h,.imm b (.ns .u64 i) 1 1 j k,.int .i64 l]),(2,.vs [.bool false m,.nsl,.int .i64 (0:Int)]),(3,.vs [.int .i64 n,.imm .free (.ns .u64 o) 1 1 0 p,.imm .free (.ns .u64 q) 1 1 0 r])],4⟩
def vC(e:Bool)(h:Bool)(g:Nat)(f:Int)(a:List Int)(b:Nat)(c:List Int)(d:Nat) :T ((Unit)⊕(fE)) :=
  .ask (((g:Nat):Int) != (0:Int))
    (.leaf (.inr (.r0 g false ([]:List Int) 0 0 (0:Int))))
    (.ask (e == h)
      (.need (aQ 0 b a)<|.need (aQ 0 d c)<|.need (Gi (cr (aa 0 b a) (aa 0 d c)))<|.need (aQ (j0 (cr (aa 0 b a) (aa 0 d c))) (j1 (cr (aa 0 b a) (aa 0 d c))) (j2 (cr (aa 0 b a) (aa 0 d c))))<|.need (aQ 0 b a)<|.need (aQ 0 d c)<|.need (tf (cj e (aa (j0 (cr (aa 0 b a) (aa 0 d c))) (j1 (cr (aa 0 b a) (aa 0 d c))) (j2 (cr (aa 0 b a) (aa 0 d c)))) (((lF (cr (aa 0 b a) (aa 0 d c))):Nat):Int) f))<|.leaf (.inr (.r0 (sD (cj e (aa (j0 (cr (aa 0 b a) (aa 0 d c))) (j1 (cr (aa 0 b a) (aa 0 d c))) (j2 (cr (aa 0 b a) (aa 0 d c)))) (((lF (cr (aa 0 b a) (aa 0 d c))):Nat):Int) f)) (sE (cj e (aa (j0 (cr (aa 0 b a) (aa 0 d c))) (j1 (cr (aa 0 b a) (aa 0 d c))) (j2 (cr (aa 0 b a) (aa 0 d c)))) (((lF (cr (aa 0 b a) (aa 0 d c))):Nat):Int) f)) (sF (cj e (aa (j0 (cr (aa 0 b a) (aa 0 d c))) (j1 (cr (aa 0 b a) (aa 0 d c))) (j2 (cr (aa 0 b a) (aa 0 d c)))) (((lF (cr (aa 0 b a) (aa 0 d c))):Nat):Int) f)) (sG (cj e (aa (j0 (cr (aa 0 b a) (aa 0 d c))) (j1 (cr (aa 0 b a) (aa 0 d c))) (j2 (cr (aa 0 b a) (aa 0 d c)))) (((lF (cr (aa 0 b a) (aa 0 d c))):Nat):Int) f)) (sH (cj e (aa (j0 (cr (aa 0 b a) (aa 0 d c))) (j1 (cr (aa 0 b a) (aa 0 d c))) (j2 (cr (aa 0 b a) (aa 0 d c)))) (((lF (cr (aa 0 b a) (aa 0 d c))):Nat):Int) f)) (sI (cj e (aa (j0 (cr (aa 0 b a) (aa 0 d c))) (j1 (cr (aa 0 b a) (aa 0 d c))) (j2 (cr (aa 0 b a) (aa 0 d c)))) (((lF (cr (aa 0 b a) (aa 0 d c))):Nat):Int) f)))))
      (.leaf (.inl ())))
def aa9(a:Lv)(b:Lv)(c:Bool)(d:List Int)(e:Nat)(f:Nat)(g:Int)(h:Bool)(i:List Int)(j:Nat)(k:Nat)(l:Int)(m:Bool)(n:Int)(o:List Int)(p:Nat)(q:List Int)(r:Nat)(s:Int) :aL:=⟨ah 97 [(2,.ptr 0 1 0 0),(3,.ptr 1 1 0 0),(4,.ptr 2 1 0 0),(7,.ptr 3 1 0 0),(9,.fn (.func jf) [] [.ptr 3 1 0 0]),(12,.int .i64 s)],[(0,.vs [.bool false c,.imm a (.ns .u64 d) 1 1 e f,.int .i64 g]),(1,.vs [.bool false h,.imm b (.ns .u64 i) 1 1 j k,.int .i64 l]),(2,.vs [.bool false m,.nsl,.int .i64 (0:Int)]),(3,.vs [.int .i64 n,.imm .free (.ns .u64 o) 1 1 0 p,.imm .free (.ns .u64 q) 1 1 0 r])],4⟩
def Fh(a:List Int)(b:Nat)(c:List Int)(d:Nat) :T ((Int)⊕(fE)) :=
  .need (aQ 0 b a)<|.need (aQ 0 d c)<|.need (Gg (vt (aa 0 b a) (aa 0 d c)))<|.leaf (.inl (E6 (vt (aa 0 b a) (aa 0 d c))))
def aba(a:Lv)(b:Bool)(c:List Int)(d:Nat)(e:Nat)(f:Int)(g:Bool)(h:Int)(i:List Int)(j:Nat)(k:List Int)(l:Nat)(_:Unit) :aL:=⟨ah 97 [(2,.ptr 0 1 0 0),(4,.ptr 1 1 0 0),(7,.ptr 2 1 0 0),(9,.fn (.func jf) [] [.ptr 2 1 0 0])],[(0,.vs [.bool false b,.imm a (.ns .u64 c) 1 1 d e,.int .i64 f]),(1,.vs [.bool false g,.nsl,.int .i64 (0:Int)]),(2,.vs [.int .i64 h,.imm .free (.ns .u64 i) 1 1 0 j,.imm .free (.ns .u64 k) 1 1 0 l])],3⟩
def Fi(e:Bool)(f:Int)(a:List Int)(b:Nat)(c:List Int)(d:Nat)(g:Int) :T ((Unit)⊕(fE)) :=
  .ask (decide (g < (0:Int)))
    (.need (aQ 0 d c)<|.need (aQ 0 b a)<|.need (Bw (cg (aa 0 d c) (aa 0 b a)))<|.need (aQ (jh (cg (aa 0 d c) (aa 0 b a))) (ji (cg (aa 0 d c) (aa 0 b a))) (jg (cg (aa 0 d c) (aa 0 b a))))<|.need (aQ 0 b a)<|.need (aQ 0 d c)<|.need (tf (cj e (aa (jh (cg (aa 0 d c) (aa 0 b a))) (ji (cg (aa 0 d c) (aa 0 b a))) (jg (cg (aa 0 d c) (aa 0 b a)))) (((j3 (cg (aa 0 d c) (aa 0 b a))):Nat):Int) f))<|.leaf (.inr (.r0 (sD (cj e (aa (jh (cg (aa 0 d c) (aa 0 b a))) (ji (cg (aa 0 d c) (aa 0 b a))) (jg (cg (aa 0 d c) (aa 0 b a)))) (((j3 (cg (aa 0 d c) (aa 0 b a))):Nat):Int) f)) (sE (cj e (aa (jh (cg (aa 0 d c) (aa 0 b a))) (ji (cg (aa 0 d c) (aa 0 b a))) (jg (cg (aa 0 d c) (aa 0 b a)))) (((j3 (cg (aa 0 d c) (aa 0 b a))):Nat):Int) f)) (sF (cj e (aa (jh (cg (aa 0 d c) (aa 0 b a))) (ji (cg (aa 0 d c) (aa 0 b a))) (jg (cg (aa 0 d c) (aa 0 b a)))) (((j3 (cg (aa 0 d c) (aa 0 b a))):Nat):Int) f)) (sG (cj e (aa (jh (cg (aa 0 d c) (aa 0 b a))) (ji (cg (aa 0 d c) (aa 0 b a))) (jg (cg (aa 0 d c) (aa 0 b a)))) (((j3 (cg (aa 0 d c) (aa 0 b a))):Nat):Int) f)) (sH (cj e (aa (jh (cg (aa 0 d c) (aa 0 b a))) (ji (cg (aa 0 d c) (aa 0 b a))) (jg (cg (aa 0 d c) (aa 0 b a)))) (((j3 (cg (aa 0 d c) (aa 0 b a))):Nat):Int) f)) (sI (cj e (aa (jh (cg (aa 0 d c) (aa 0 b a))) (ji (cg (aa 0 d c) (aa 0 b a))) (jg (cg (aa 0 d c) (aa 0 b a)))) (((j3 (cg (aa 0 d c) (aa 0 b a))):Nat):Int) f)))))
    (.leaf (.inl ()))
def abb(a:Lv)(b:Bool)(c:List Int)(d:Nat)(e:Nat)(f:Int)(g:Bool)(h:Int)(i:List Int)(j:Nat)(k:List Int)(l:Nat) :Nat×(List Int)×Nat×Nat→aL:=fun (m,n,o,p)=>⟨ah 97 [(2,.ptr 0 1 0 0),(4,.ptr 1 1 0 0),(8,.int .i64 ((m:Nat):Int)),(9,.fn (.func jf) [] [.ptr 2 1 0 0]),(16,.imm .free (.ns .u64 n) 1 1 o p)],[(0,.vs [.bool false b,.imm a (.ns .u64 c) 1 1 d e,.int .i64 f]),(1,.vs [.bool false g,.nsl,.int .i64 (0:Int)]),(2,.vs [.int .i64 h,.imm .free (.ns .u64 i) 1 1 0 j,.imm .free (.ns .u64 k) 1 1 0 l])],3⟩
def Fj(a:List Int)(b:Nat)(c:List Int)(d:Nat) :T ((Nat×(List Int)×Nat×Nat)⊕(fE)) :=
  .need (aQ 0 b a)<|.need (aQ 0 d c)<|.need (Bw (cg (aa 0 b a) (aa 0 d c)))<|.leaf (.inl ((j3 (cg (aa 0 b a) (aa 0 d c))),(jg (cg (aa 0 b a) (aa 0 d c))),(jh (cg (aa 0 b a) (aa 0 d c))),(ji (cg (aa 0 b a) (aa 0 d c)))))
def abc:Nat×Bool×(List Int)×Nat×Nat×Int→aL:=fun (a,b,c,d,e,f)=>⟨ah 97 [(4,.ptr 0 1 0 0),(5,.int .i64 ((a:Nat):Int))],[(0,.vs [.bool false b,.imm .free (.ns .u64 c) 1 1 d e,.int .i64 f])],1⟩
def Fk(d:Bool)(e:Int)(g:List Int)(h:Nat)(i:List Int)(j:Nat)(f:Nat)(a:List Int)(b:Nat)(c:Nat) :T ((Nat×Bool×(List Int)×Nat×Nat×Int)⊕(fE)) :=
  .need (aQ b c a)<|.need (aQ 0 h g)<|.need (aQ 0 j i)<|.need (tf (cj d (aa b c a) ((f:Nat):Int) e))<|.leaf (.inl ((sD (cj d (aa b c a) ((f:Nat):Int) e)),(sE (cj d (aa b c a) ((f:Nat):Int) e)),(sF (cj d (aa b c a) ((f:Nat):Int) e)),(sG (cj d (aa b c a) ((f:Nat):Int) e)),(sH (cj d (aa b c a) ((f:Nat):Int) e)),(sI (cj d (aa b c a) ((f:Nat):Int) e))))
def Wz(a:Nat)(b:Bool)(c:List Int)(d:Nat)(e:Nat)(f:Int) :T ((Empty)⊕(fE)) :=
  .leaf (.inr (.r0 a b c d e f))
def cA(h:Bool)(i:List Int)(j:Int)(k:Bool)(l:List Int)(m:Int) :Option fE:=ld (aC ((Ie h i j k l m).run) fun (n,f,o,p,q,r,g,s,t,u,v,I) =>
  aC ((Fg n o p q r s t u v).run) fun (w,e,a,b,c,d) =>
  aC ((vC f g w e a b c d).run) fun _ =>
  aC ((Fh a b c d).run) fun x =>
  aC ((Fi g e a b c d x).run) fun _ =>
  aC ((Fj a b c d).run) fun (y,z,A,B) =>
  aC ((Fk f e a b c d y z A B).run) fun (C,D,E,F,G,H) =>
  (Wz C D E F G H).run)
theorem anM(w:Bool)(b:Lv)(u:List Int)(y:Int)(z:Bool)(n:Lv)(v:List Int)(A:Int){x:fE}(h:cA w u y z v A=some x) :aw prog rS [] [.agg [.bool false w,.imm b (.ns .u64 u) 1 1 0 (List.length u),.int .i64 y],.agg [.bool false z,.imm n (.ns .u64 v) 1 1 0 (List.length v),.int .i64 A]] (U1 x) :=
  Sg.contract true U1 (by kernel_rfl:prog.funcs[rS]? = some (FN rS)) (by kernel_rfl:(FN rS).body=some (bi rS)) (Sg.cut 2 uq (Sg.seg (C:=C0) an jj 60 (rF.take 2) (aT (FN rS) [] [.agg [.bool false w,.imm b (.ns .u64 u) 1 1 0 (List.length u),.int .i64 y],.agg [.bool false z,.imm n (.ns .u64 v) 1 1 0 (List.length v),.int .i64 A]]) (Ie w u y z v A) (aa6 b n) r8 [⟨[],[0,16,32],[2,3,4,6]⟩,⟨[(.cell 0 1,.lev b)],[0,16,32],[2,3,4,6]⟩,⟨[(.cell 0 1,.lev b),(.cell 16 1,.lev n)],[0,16,32],[2,3,4,6]⟩] (by kernel_rfl)) (fun a=>by obtain ⟨B,g,i,j,k,l,p,q,r,s,t,o⟩:=a;exact Sg.cut 3 uq (Sg.seg (C:=C0) an jj 60 ((rF.drop 2).take 3) (aa6 b n (B,g,i,j,k,l,p,q,r,s,t,o)) (Fg B i j k l q r s t) (aa7 b n g i j k l p q r s t o) r8 [⟨[(.cell 2 1,.fre 1 1 (.ns .u64 ([]:List Int)))],[2],[4,5]⟩,⟨[],[0,1,2,131],[2,3,4,7,8]⟩] (by kernel_rfl)) (fun a=>by obtain ⟨D,m,c,d,e,f⟩:=a;exact Sg.cut 5 uq (Sg.seg (C:=C0) an jj 60 (((rF.drop 2).drop 3).take 5) (aa7 b n g i j k l p q r s t o (D,m,c,d,e,f)) (vC g p D m c d e f) (aa8 b n g i j k l p q r s t o m c d e f) r8 [⟨[(.cell 2 1,.fre 1 1 (.ns .u64 ([]:List Int)))],[2],[4,5]⟩,⟨[],[2],[4,5]⟩,⟨[],[0,1,2,3],[2,3,4,7,9]⟩] (by kernel_rfl)) (fun a=>by cases a;exact Sg.cut 1 uq (Sg.seg (C:=C0) an jj 60 ((((rF.drop 2).drop 3).drop 5).take 1) (aa8 b n g i j k l p q r s t o m c d e f ()) (Fh c d e f) (aa9 b n g i j k l p q r s t o m c d e f) r8 [⟨[],[0,1,2,3],[2,3,4,7,9,12]⟩] (by kernel_rfl)) (fun E=>by exact Sg.cut 2 uq (Sg.seg (C:=C0) an jj 60 (((((rF.drop 2).drop 3).drop 5).drop 1).take 2) (aa9 b n g i j k l p q r s t o m c d e f E) (Fi p m c d e f E) (aba b g i j k l o m c d e f) r8 [⟨[],[2],[4,5]⟩,⟨[],[0,2,3],[2,4,7,9]⟩] (by kernel_rfl)) (fun a=>by cases a;exact Sg.cut 1 uq (Sg.seg (C:=C0) an jj 60 ((((((rF.drop 2).drop 3).drop 5).drop 1).drop 2).take 1) (aba b g i j k l o m c d e f ()) (Fj c d e f) (abb b g i j k l o m c d e f) r8 [⟨[],[0,1,2],[2,4,8,9,16]⟩] (by kernel_rfl)) (fun a=>by obtain ⟨F,G,H,I⟩:=a;exact Sg.cut 1 uq (Sg.seg (C:=C0) an jj 60 (((((((rF.drop 2).drop 3).drop 5).drop 1).drop 2).drop 1).take 1) (abb b g i j k l o m c d e f (F,G,H,I)) (Fk g m c d e f F G H I) abc r8 [⟨[],[1],[4,5]⟩] (by kernel_rfl)) (fun a=>by obtain ⟨J,K,L,M,N,O⟩:=a;exact Sg.seg (C:=C0) an jj 60 (((((((rF.drop 2).drop 3).drop 5).drop 1).drop 2).drop 1).drop 1) (abc (J,K,L,M,N,O)) (Wz J K L M N O) (fun a:Empty=>a.elim) r8 [⟨[],[0],[4,5]⟩] (by kernel_rfl)))))))))
    (fun x=>by cases x with | r0 P Q R S T U=>exact ⟨.inr rfl,[.agg [.bool false Q,.imm .free (.ns .u64 R) 1 1 S T,.int .i64 U],.int .i64 ((P:Nat):Int)],[],by kernel_rfl,trivial,by kernel_rfl⟩) h
def DI:Option fE→Bool
  | some _=>true
  | none=>false
def tg:Option fE→Nat
  | some (.r0 x _ _ _ _ _)=>x
  | _=>0
def wB:Option fE→Bool
  | some (.r0 _ x _ _ _ _)=>x
  | _=>false
def wC:Option fE→List Int
  | some (.r0 _ _ x _ _ _)=>x
  | _=>[]
def wD:Option fE→Nat
  | some (.r0 _ _ _ x _ _)=>x
  | _=>0
def wE:Option fE→Nat
  | some (.r0 _ _ _ _ x _)=>x
  | _=>0
def wF:Option fE→Int
  | some (.r0 _ _ _ _ _ x)=>x
  | _=>0
theorem anN{x:Option fE}(h:DI x=true) :x=some (.r0 (tg x) (wB x) (wC x) (wD x) (wE x) (wF x)):=by
  unfold DI at h
  split at h <;> first | rfl | (cases h;done) | (rename_i y;cases y;rfl)
def aff:aJ:=bW rS (.cons (.agg (.cons .bool (.cons (.ns .u64) (.cons (.int .i64) .nil)))) (.cons (.agg (.cons .bool (.cons (.ns .u64) (.cons (.int .i64) .nil)))) .nil)) fun t=>[⟨U1 (.r0 (tg (cA t.1.1 t.1.2.1.2 t.1.2.2.1 t.2.1.1 t.2.1.2.1.2 t.2.1.2.2.1)) (wB (cA t.1.1 t.1.2.1.2 t.1.2.2.1 t.2.1.1 t.2.1.2.1.2 t.2.1.2.2.1)) (wC (cA t.1.1 t.1.2.1.2 t.1.2.2.1 t.2.1.1 t.2.1.2.1.2 t.2.1.2.2.1)) (wD (cA t.1.1 t.1.2.1.2 t.1.2.2.1 t.2.1.1 t.2.1.2.1.2 t.2.1.2.2.1)) (wE (cA t.1.1 t.1.2.1.2 t.1.2.2.1 t.2.1.1 t.2.1.2.1.2 t.2.1.2.2.1)) (wF (cA t.1.1 t.1.2.1.2 t.1.2.2.1 t.2.1.1 t.2.1.2.1.2 t.2.1.2.2.1))),[DI (cA t.1.1 t.1.2.1.2 t.1.2.2.1 t.2.1.1 t.2.1.2.1.2 t.2.1.2.2.1)]⟩]
theorem ahl:aU prog aff:=aO fun t=>(aP (fun h=>anM t.1.1 t.1.2.1.1 t.1.2.1.2 t.1.2.2.1 t.2.1.1 t.2.1.2.1.1 t.2.1.2.1.2 t.2.1.2.2.1 (anN h)) aW)
def afg:List aJ:=aff :: Wy
theorem wG:aY prog (bb afg):=au ahl jj
inductive iB where
  | r0 (a:Nat) (b:Bool) (c:List Int) (d:Nat) (e:Nat) (f:Int)
def Gw:iB→AE×aL
  | .r0 a b c d e f=>(.ret,⟨ah 41 [(4,.ptr 0 1 0 0),(5,.int .i64 ((a:Nat):Int))],[(0,.vs [.bool false b,.imm .free (.ns .u64 c) 1 1 d e,.int .i64 f])],1⟩)
theorem OA:kR Gw:=by intro x;cases x <;> (intro h;cases h)
def U2:iB→jc
  | .r0 a b c d e f=>⟨.tup [.agg [.bool false b,.imm .free (.ns .u64 c) 1 1 d e,.int .i64 f],.int .i64 ((a:Nat):Int)],[]⟩
def If:List Code:=bJ (bi rR)
def abd(a:Lv)(b:Lv) :Nat×Bool×(List Int)×Nat×Nat×Int×Bool×(List Int)×Nat×Nat×Int×Bool→aL:=fun (c,d,e,f,g,h,i,j,k,l,m,n)=>⟨ah 41 [(2,.ptr 0 1 0 0),(3,.ptr 1 1 0 0),(4,.ptr 2 1 0 0),(6,.int .i64 ((c:Nat):Int))],[(0,.vs [.bool false d,.imm a (.ns .u64 e) 1 1 f g,.int .i64 h]),(1,.vs [.bool false i,.imm b (.ns .u64 j) 1 1 k l,.int .i64 m]),(2,.vs [.bool false n,.nsl,.int .i64 (0:Int)])],3⟩
def OB(d : Bool)(a : List Int)(c : Int)(f : Bool)(b : List Int)(e : Int) : T ((Nat × Bool × (List Int) × Nat × Nat × Int × Bool × (List Int) × Nat × Nat × Int × Bool) ⊕ (iB)) :=
  .ask (decide ((0:Int) < (2:Int)))
    (.need (iS (0:Int) 2)<|.need (aQ 0 (List.length a) a)<|.need (lQ (eV (aa 0 (List.length a) a) c))<|.ask (!(jT (eV (aa 0 (List.length a) a) c)))
      (.leaf (.inl (2,d,a,0,(List.length a),c,f,b,0,(List.length b),e,false)))
      (.need (aQ 0 (List.length a) a)<|.need (ip (aE d (aa 0 (List.length a) a) c))<|.need (d8 .i64 (1:Int))<|.ask (decide ((1:Int) < (2:Int)))
        (.need (iS (1:Int) 2)<|.need (aQ 0 (List.length b) b)<|.need (lQ (eV (aa 0 (List.length b) b) e))<|.ask (!(jT (eV (aa 0 (List.length b) b) e)))
          (.leaf (.inl (2,(d9 (aE d (aa 0 (List.length a) a) c)),(ee (aE d (aa 0 (List.length a) a) c)),(ef (aE d (aa 0 (List.length a) a) c)),(eh (aE d (aa 0 (List.length a) a) c)),(ei (aE d (aa 0 (List.length a) a) c)),f,b,0,(List.length b),e,false)))
          (.need (aQ 0 (List.length b) b)<|.need (ip (aE f (aa 0 (List.length b) b) e))<|.need (d8 .i64 (2:Int))<|.ask (decide ((2:Int) < (2:Int)))
            (.fail)
            (.leaf (.inl (0,(d9 (aE d (aa 0 (List.length a) a) c)),(ee (aE d (aa 0 (List.length a) a) c)),(ef (aE d (aa 0 (List.length a) a) c)),(eh (aE d (aa 0 (List.length a) a) c)),(ei (aE d (aa 0 (List.length a) a) c)),(d9 (aE f (aa 0 (List.length b) b) e)),(ee (aE f (aa 0 (List.length b) b) e)),(ef (aE f (aa 0 (List.length b) b) e)),(eh (aE f (aa 0 (List.length b) b) e)),(ei (aE f (aa 0 (List.length b) b) e)),false)))))
        (.fail)))
    (.fail)
def abe(a:Lv)(b:Lv)(c:Bool)(d:List Int)(e:Nat)(f:Nat)(g:Int)(h:Bool)(i:List Int)(j:Nat)(k:Nat)(l:Int)(m:Bool) :(List Int)×Nat×Nat×Nat→aL:=fun (n,o,p,q)=>⟨ah 41 [(2,.ptr 0 1 0 0),(3,.ptr 1 1 0 0),(4,.ptr 2 1 0 0),(7,.imm .free (.ns .u64 n) 1 1 o p),(8,.int .i64 ((q:Nat):Int))],[(0,.vs [.bool false c,.imm a (.ns .u64 d) 1 1 e f,.int .i64 g]),(1,.vs [.bool false h,.imm b (.ns .u64 i) 1 1 j k,.int .i64 l]),(2,.vs [.bool false m,.nsl,.int .i64 (0:Int)])],3⟩
def Ig(g:Nat)(a:List Int)(b:Nat)(c:Nat)(d:List Int)(e:Nat)(f:Nat) :T (((List Int)×Nat×Nat×Nat)⊕(iB)) :=
  .ask (((g:Nat):Int) != (0:Int))
    (.leaf (.inr (.r0 g false ([]:List Int) 0 0 (0:Int))))
    (.need (aQ b c a)<|.need (aQ e f d)<|.need (Lg (nZ (aa b c a) (aa e f d)))<|.leaf (.inl ((Lk (nZ (aa b c a) (aa e f d))),(Lh (nZ (aa b c a) (aa e f d))),(Li (nZ (aa b c a) (aa e f d))),(Lj (nZ (aa b c a) (aa e f d))))))
def abf:Nat×Bool×(List Int)×Nat×Nat×Int→aL:=fun (a,b,c,d,e,f)=>⟨ah 41 [(4,.ptr 0 1 0 0),(5,.int .i64 ((a:Nat):Int))],[(0,.vs [.bool false b,.imm .free (.ns .u64 c) 1 1 d e,.int .i64 f])],1⟩
def Ih(f:Bool)(a:Int)(g:Bool)(b:Int)(c:List Int)(d:Nat)(e:Nat)(h:Nat) :T ((Nat×Bool×(List Int)×Nat×Nat×Int)⊕(iB)) :=
  .ask (((h:Nat):Int) != (0:Int))
    (.leaf (.inr (.r0 3 false ([]:List Int) 0 0 (0:Int))))
    (.need (d8 .i64 (a+b))<|.need (aQ d e c)<|.need (vB (cq (!(f == g)) (aa d e c) (a+b)))<|.leaf (.inl ((uj (cq (!(f == g)) (aa d e c) (a+b))),(uk (cq (!(f == g)) (aa d e c) (a+b))),(ul (cq (!(f == g)) (aa d e c) (a+b))),(um (cq (!(f == g)) (aa d e c) (a+b))),(un (cq (!(f == g)) (aa d e c) (a+b))),(uo (cq (!(f == g)) (aa d e c) (a+b))))))
def abg(a:Nat)(b:Bool)(c:List Int)(d:Nat)(e:Nat)(f:Int) :T ((Empty)⊕(iB)) :=
  .leaf (.inr (.r0 a b c d e f))
def ay(a:Bool)(b:List Int)(c:Int)(d:Bool)(e:List Int)(f:Int) :Option iB:=ld (aC ((OB a b c d e f).run) fun (g,h,i,j,k,l,m,n,o,p,q,B) =>
  aC ((Ig g i j k n o p).run) fun (r,s,t,u) =>
  aC ((Ih h l m q r s t u).run) fun (v,w,x,y,z,A) =>
  (abg v w x y z A).run)
theorem anO(f:Bool)(b:Lv)(d:List Int)(g:Int)(i:Bool)(c:Lv)(e:List Int)(j:Int){x:iB}(h:ay f d g i e j=some x) :aw prog rR [] [.agg [.bool false f,.imm b (.ns .u64 d) 1 1 0 (List.length d),.int .i64 g],.agg [.bool false i,.imm c (.ns .u64 e) 1 1 0 (List.length e),.int .i64 j]] (U2 x) :=
  Sg.contract true U2 (by kernel_rfl:prog.funcs[rR]? = some (FN rR)) (by kernel_rfl:(FN rR).body=some (bi rR)) (Sg.cut 2 OA (Sg.seg (C:=C0) an wG 60 (If.take 2) (aT (FN rR) [] [.agg [.bool false f,.imm b (.ns .u64 d) 1 1 0 (List.length d),.int .i64 g],.agg [.bool false i,.imm c (.ns .u64 e) 1 1 0 (List.length e),.int .i64 j]]) (OB f d g i e j) (abd b c) Gw [⟨[],[0,16,32],[2,3,4,6]⟩,⟨[(.cell 0 1,.lev b)],[0,16,32],[2,3,4,6]⟩,⟨[(.cell 0 1,.lev b),(.cell 16 1,.lev c)],[0,16,32],[2,3,4,6]⟩] (by kernel_rfl)) (fun a=>by obtain ⟨v,k,l,m,n,o,p,q,r,s,t,u⟩:=a;exact Sg.cut 3 OA (Sg.seg (C:=C0) an wG 60 ((If.drop 2).take 3) (abd b c (v,k,l,m,n,o,p,q,r,s,t,u)) (Ig v l m n q r s) (abe b c k l m n o p q r s t u) Gw [⟨[(.cell 2 1,.fre 1 1 (.ns .u64 ([]:List Int)))],[2],[4,5]⟩,⟨[],[0,1,2],[2,3,4,7,8]⟩] (by kernel_rfl)) (fun a=>by obtain ⟨w,y,z,A⟩:=a;exact Sg.cut 3 OA (Sg.seg (C:=C0) an wG 60 (((If.drop 2).drop 3).take 3) (abe b c k l m n o p q r s t u (w,y,z,A)) (Ih k o p t w y z A) abf Gw [⟨[(.cell 2 1,.fre 1 1 (.ns .u64 ([]:List Int)))],[2],[4,5]⟩,⟨[],[2],[4,5]⟩] (by kernel_rfl)) (fun a=>by obtain ⟨B,D,E,F,G,H⟩:=a;exact Sg.seg (C:=C0) an wG 60 (((If.drop 2).drop 3).drop 3) (abf (B,D,E,F,G,H)) (abg B D E F G H) (fun a:Empty=>a.elim) Gw [⟨[],[0],[4,5]⟩] (by kernel_rfl)))))
    (fun x=>by cases x with | r0 I J K L M N=>exact ⟨.inr rfl,[.agg [.bool false J,.imm .free (.ns .u64 K) 1 1 L M,.int .i64 N],.int .i64 ((I:Nat):Int)],[],by kernel_rfl,trivial,by kernel_rfl⟩) h
def rG:Option iB→Bool
  | some _=>true
  | none=>false
def nt:Option iB→Nat
  | some (.r0 x _ _ _ _ _)=>x
  | _=>0
def c7:Option iB→Bool
  | some (.r0 _ x _ _ _ _)=>x
  | _=>false
def cL:Option iB→List Int
  | some (.r0 _ _ x _ _ _)=>x
  | _=>[]
def cM:Option iB→Nat
  | some (.r0 _ _ _ x _ _)=>x
  | _=>0
def cN:Option iB→Nat
  | some (.r0 _ _ _ _ x _)=>x
  | _=>0
def c8:Option iB→Int
  | some (.r0 _ _ _ _ _ x)=>x
  | _=>0
theorem anP{x:Option iB}(h:rG x=true) :x=some (.r0 (nt x) (c7 x) (cL x) (cM x) (cN x) (c8 x)):=by
  unfold rG at h
  split at h <;> first | rfl | (cases h;done) | (rename_i y;cases y;rfl)
def afh:aJ:=bW rR (.cons (.agg (.cons .bool (.cons (.ns .u64) (.cons (.int .i64) .nil)))) (.cons (.agg (.cons .bool (.cons (.ns .u64) (.cons (.int .i64) .nil)))) .nil)) fun t=>[⟨U2 (.r0 (nt (ay t.1.1 t.1.2.1.2 t.1.2.2.1 t.2.1.1 t.2.1.2.1.2 t.2.1.2.2.1)) (c7 (ay t.1.1 t.1.2.1.2 t.1.2.2.1 t.2.1.1 t.2.1.2.1.2 t.2.1.2.2.1)) (cL (ay t.1.1 t.1.2.1.2 t.1.2.2.1 t.2.1.1 t.2.1.2.1.2 t.2.1.2.2.1)) (cM (ay t.1.1 t.1.2.1.2 t.1.2.2.1 t.2.1.1 t.2.1.2.1.2 t.2.1.2.2.1)) (cN (ay t.1.1 t.1.2.1.2 t.1.2.2.1 t.2.1.1 t.2.1.2.1.2 t.2.1.2.2.1)) (c8 (ay t.1.1 t.1.2.1.2 t.1.2.2.1 t.2.1.1 t.2.1.2.1.2 t.2.1.2.2.1))),[rG (ay t.1.1 t.1.2.1.2 t.1.2.2.1 t.2.1.1 t.2.1.2.1.2 t.2.1.2.2.1)]⟩]
theorem ahm:aU prog afh:=aO fun t=>(aP (fun h=>anO t.1.1 t.1.2.1.1 t.1.2.1.2 t.1.2.2.1 t.2.1.1 t.2.1.2.1.1 t.2.1.2.1.2 t.2.1.2.2.1 (anP h)) aW)
def afi:List aJ:=afh :: afg
theorem RN:aY prog (bb afi):=au ahm wG
inductive rH where
  | r0 (a:Int)
def anQ:rH→AE×aL
  | .r0 a=>(.ret,⟨ah 11 [(2,.int .i64 a)],[],0⟩)
def OC:rH→jc
  | .r0 a=>⟨.int .i64 a,[]⟩
def ak2:List Code:=bJ (bi pD)
def LH(a:Bool)(b:List Int) :T ((Empty)⊕(rH)) :=
  .ask ((((List.length b):Nat):Int) == (0:Int))
    (.leaf (.inr (.r0 (0:Int))))
    (.ask a
      (.leaf (.inr (.r0 (-1:Int))))
      (.leaf (.inr (.r0 (1:Int)))))
def iM(a:Bool)(b:List Int) :Option rH:=ld ((LH a b).run)
theorem ak3(c:Bool)(d:Lv)(b:List Int)(e:Int){x:rH}(h:iM c b=some x) :aw prog pD [] [.agg [.bool false c,.imm d (.ns .u64 b) 1 1 0 (List.length b),.int .i64 e]] (OC x) :=
  Sg.contract true OC (by kernel_rfl:prog.funcs[pD]? = some (FN pD)) (by kernel_rfl:(FN pD).body=some (bi pD)) (Sg.seg (C:=C0) an RN 60 ak2 (aT (FN pD) [] [.agg [.bool false c,.imm d (.ns .u64 b) 1 1 0 (List.length b),.int .i64 e]]) (LH c b) (fun a:Empty=>a.elim) anQ [⟨[],[],[2]⟩,⟨[],[],[2]⟩,⟨[],[],[2]⟩] (by kernel_rfl))
    (fun x=>by cases x with | r0 f=>exact ⟨.inr rfl,[.int .i64 f],[],by kernel_rfl,trivial,by kernel_rfl⟩) h
def lH:Option rH→Bool
  | some _=>true
  | none=>false
def gU:Option rH→Int
  | some (.r0 x)=>x
  | _=>0
theorem ak4{x:Option rH}(h:lH x=true) :x=some (.r0 (gU x)):=by
  unfold lH at h
  split at h <;> first | rfl | (cases h;done) | (rename_i y;cases y;rfl)
def abh:aJ:=bW pD (.cons (.agg (.cons .bool (.cons (.ns .u64) (.cons (.int .i64) .nil)))) .nil) fun t=>[⟨OC (.r0 (gU (iM t.1.1 t.1.2.1.2))),[lH (iM t.1.1 t.1.2.1.2)]⟩]
theorem afj:aU prog abh:=aO fun t=>(aP (fun h=>ak3 t.1.1 t.1.2.1.1 t.1.2.1.2 t.1.2.2.1 (ak4 h)) aW)
def abi:List aJ:=abh :: afi
theorem qT:aY prog (bb abi):=au afj RN
inductive k6 where
  | r0 (a:Int) (b:Nat)
def BH:k6→AE×aL
  | .r0 a b=>(.ret,⟨ah 52 [(4,.int .i64 a),(5,.int .i64 ((b:Nat):Int))],[],0⟩)
theorem Ii:kR BH:=by intro x;cases x <;> (intro h;cases h)
def U3:k6→jc
  | .r0 a b=>⟨.tup [.int .i64 a,.int .i64 ((b:Nat):Int)],[]⟩
def DJ:List Code:=bJ (bi rT)
def abj(a:Lv)(b:Lv) :Nat×Bool×(List Int)×Nat×Nat×Int×Bool×(List Int)×Nat×Nat×Int→aL:=fun (c,d,e,f,g,h,i,j,k,l,m)=>⟨ah 52 [(2,.ptr 0 1 0 0),(3,.ptr 1 1 0 0),(6,.int .i64 ((c:Nat):Int))],[(0,.vs [.bool false d,.imm a (.ns .u64 e) 1 1 f g,.int .i64 h]),(1,.vs [.bool false i,.imm b (.ns .u64 j) 1 1 k l,.int .i64 m])],2⟩
def OD(d : Bool)(a : List Int)(c : Int)(f : Bool)(b : List Int)(e : Int) : T ((Nat × Bool × (List Int) × Nat × Nat × Int × Bool × (List Int) × Nat × Nat × Int) ⊕ (k6)) :=
  .ask (decide ((0:Int) < (2:Int)))
    (.need (iS (0:Int) 2)<|.need (aQ 0 (List.length a) a)<|.need (lQ (eV (aa 0 (List.length a) a) c))<|.ask (!(jT (eV (aa 0 (List.length a) a) c)))
      (.leaf (.inl (2,d,a,0,(List.length a),c,f,b,0,(List.length b),e)))
      (.need (aQ 0 (List.length a) a)<|.need (ip (aE d (aa 0 (List.length a) a) c))<|.need (d8 .i64 (1:Int))<|.ask (decide ((1:Int) < (2:Int)))
        (.need (iS (1:Int) 2)<|.need (aQ 0 (List.length b) b)<|.need (lQ (eV (aa 0 (List.length b) b) e))<|.ask (!(jT (eV (aa 0 (List.length b) b) e)))
          (.leaf (.inl (2,(d9 (aE d (aa 0 (List.length a) a) c)),(ee (aE d (aa 0 (List.length a) a) c)),(ef (aE d (aa 0 (List.length a) a) c)),(eh (aE d (aa 0 (List.length a) a) c)),(ei (aE d (aa 0 (List.length a) a) c)),f,b,0,(List.length b),e)))
          (.need (aQ 0 (List.length b) b)<|.need (ip (aE f (aa 0 (List.length b) b) e))<|.need (d8 .i64 (2:Int))<|.ask (decide ((2:Int) < (2:Int)))
            (.fail)
            (.leaf (.inl (0,(d9 (aE d (aa 0 (List.length a) a) c)),(ee (aE d (aa 0 (List.length a) a) c)),(ef (aE d (aa 0 (List.length a) a) c)),(eh (aE d (aa 0 (List.length a) a) c)),(ei (aE d (aa 0 (List.length a) a) c)),(d9 (aE f (aa 0 (List.length b) b) e)),(ee (aE f (aa 0 (List.length b) b) e)),(ef (aE f (aa 0 (List.length b) b) e)),(eh (aE f (aa 0 (List.length b) b) e)),(ei (aE f (aa 0 (List.length b) b) e)))))))
        (.fail)))
    (.fail)
def abk(a:Lv)(b:Lv)(c:Bool)(d:List Int)(e:Nat)(f:Nat)(g:Int)(h:Bool)(i:List Int)(j:Nat)(k:Nat)(l:Int) :Nat×Int×(List Int)×Nat×(List Int)×Nat→aL:=fun (m,n,o,p,q,r)=>⟨ah 52 [(2,.ptr 0 1 0 0),(3,.ptr 1 1 0 0),(7,.ptr 2 1 0 0),(8,.int .i64 ((m:Nat):Int))],[(0,.vs [.bool false c,.imm a (.ns .u64 d) 1 1 e f,.int .i64 g]),(1,.vs [.bool false h,.imm b (.ns .u64 i) 1 1 j k,.int .i64 l]),(2,.vs [.int .i64 n,.imm .free (.ns .u64 o) 1 1 0 p,.imm .free (.ns .u64 q) 1 1 0 r])],3⟩
def Ij(i:Nat)(a:List Int)(b:Nat)(c:Nat)(g:Int)(d:List Int)(e:Nat)(f:Nat)(h:Int) :T ((Nat×Int×(List Int)×Nat×(List Int)×Nat)⊕(k6)) :=
  .ask (((i:Nat):Int) != (0:Int))
    (.leaf (.inr (.r0 (0:Int) i)))
    (.need (aQ b c a)<|.need (aQ e f d)<|.need (wz (cP (aa b c a) g (aa e f d) h))<|.leaf (.inl ((xI (cP (aa b c a) g (aa e f d) h)),(xJ (cP (aa b c a) g (aa e f d) h)),(xK (cP (aa b c a) g (aa e f d) h)),(xL (cP (aa b c a) g (aa e f d) h)),(xM (cP (aa b c a) g (aa e f d) h)),(xN (cP (aa b c a) g (aa e f d) h)))))
def abl(a:Lv)(b:Lv)(c:Bool)(d:List Int)(e:Nat)(f:Nat)(g:Int)(h:Bool)(i:List Int)(j:Nat)(k:Nat)(l:Int)(m:Int) :aL:=⟨ah 52 [(2,.ptr 0 1 0 0),(3,.ptr 1 1 0 0),(9,.int .i64 m)],[(0,.vs [.bool false c,.imm a (.ns .u64 d) 1 1 e f,.int .i64 g]),(1,.vs [.bool false h,.imm b (.ns .u64 i) 1 1 j k,.int .i64 l])],2⟩
def Ik(e:Nat)(a:List Int)(b:Nat)(c:List Int)(d:Nat) :T ((Int)⊕(k6)) :=
  .ask (((e:Nat):Int) != (0:Int))
    (.leaf (.inr (.r0 (0:Int) e)))
    (.need (aQ 0 b a)<|.need (aQ 0 d c)<|.need (Gg (vt (aa 0 b a) (aa 0 d c)))<|.leaf (.inl (E6 (vt (aa 0 b a) (aa 0 d c)))))
def abm(a:Int)(_:Unit) :aL:=⟨ah 52 [(9,.int .i64 a)],[],0⟩
def ur(g:Bool)(a:List Int)(b:Nat)(c:Nat)(h:Bool)(d:List Int)(e:Nat)(f:Nat)(i:Int) :T ((Unit)⊕(k6)) :=
  .need (aQ b c a)<|.need (lH (iM g (aa b c a)))<|.need (aQ e f d)<|.need (lH (iM h (aa e f d)))<|.ask ((gU (iM g (aa b c a))) != (gU (iM h (aa e f d))))
    (.need (aQ b c a)<|.need (lH (iM g (aa b c a)))<|.need (aQ e f d)<|.need (lH (iM h (aa e f d)))<|.need (d8 .i64 ((gU (iM g (aa b c a))) - (gU (iM h (aa e f d)))))<|.leaf (.inr (.r0 (oF (-1:Int) (ws (1:Int) ((gU (iM g (aa b c a))) - (gU (iM h (aa e f d)))))) 0)))
    (.ask g
      (.need (d8 .i64 ((0:Int) - i))<|.leaf (.inr (.r0 ((0:Int) - i) 0)))
      (.leaf (.inl ())))
def WA(a:Int) :T ((Empty)⊕(k6)) :=
  .leaf (.inr (.r0 a 0))
def r9(h:Bool)(i:List Int)(j:Int)(k:Bool)(l:List Int)(m:Int) :Option k6:=ld (aC ((OD h i j k l m).run) fun (n,o,a,b,c,p,q,d,e,f,r) =>
  aC ((Ij n a b c p d e f r).run) fun (s,x,t,u,v,w) =>
  aC ((Ik s t u v w).run) fun g =>
  aC ((ur o a b c q d e f g).run) fun _ =>
  (WA g).run)
theorem anR(r:Bool)(b:Lv)(k:List Int)(s:Int)(t:Bool)(c:Lv)(l:List Int)(u:Int){x:k6}(h:r9 r k s t l u=some x) :aw prog rT [] [.agg [.bool false r,.imm b (.ns .u64 k) 1 1 0 (List.length k),.int .i64 s],.agg [.bool false t,.imm c (.ns .u64 l) 1 1 0 (List.length l),.int .i64 u]] (U3 x) :=
  Sg.contract true U3 (by kernel_rfl:prog.funcs[rT]? = some (FN rT)) (by kernel_rfl:(FN rT).body=some (bi rT)) (Sg.cut 2 Ii (Sg.seg (C:=C0) an qT 60 (DJ.take 2) (aT (FN rT) [] [.agg [.bool false r,.imm b (.ns .u64 k) 1 1 0 (List.length k),.int .i64 s],.agg [.bool false t,.imm c (.ns .u64 l) 1 1 0 (List.length l),.int .i64 u]]) (OD r k s t l u) (abj b c) BH [⟨[],[0,16],[2,3,6]⟩,⟨[(.cell 0 1,.lev b)],[0,16],[2,3,6]⟩,⟨[(.cell 0 1,.lev b),(.cell 16 1,.lev c)],[0,16],[2,3,6]⟩] (by kernel_rfl)) (fun a=>by obtain ⟨v,m,d,e,f,n,o,g,i,j,p⟩:=a;exact Sg.cut 3 Ii (Sg.seg (C:=C0) an qT 60 ((DJ.drop 2).take 3) (abj b c (v,m,d,e,f,n,o,g,i,j,p)) (Ij v d e f n g i j p) (abk b c m d e f n o g i j p) BH [⟨[],[],[4,5]⟩,⟨[],[0,1,130],[2,3,7,8]⟩] (by kernel_rfl)) (fun a=>by obtain ⟨w,D,y,z,A,B⟩:=a;exact Sg.cut 3 Ii (Sg.seg (C:=C0) an qT 60 (((DJ.drop 2).drop 3).take 3) (abk b c m d e f n o g i j p (w,D,y,z,A,B)) (Ik w y z A B) (abl b c m d e f n o g i j p) BH [⟨[],[],[4,5]⟩,⟨[],[0,1],[2,3,9]⟩] (by kernel_rfl)) (fun q=>by exact Sg.cut 1 Ii (Sg.seg (C:=C0) an qT 60 ((((DJ.drop 2).drop 3).drop 3).take 1) (abl b c m d e f n o g i j p q) (ur m d e f o g i j q) (abm q) BH [⟨[],[],[4,5]⟩,⟨[],[],[4,5]⟩,⟨[],[],[9]⟩] (by kernel_rfl)) (fun a=>by cases a;exact Sg.seg (C:=C0) an qT 60 ((((DJ.drop 2).drop 3).drop 3).drop 1) (abm q ()) (WA q) (fun a:Empty=>a.elim) BH [⟨[],[],[4,5]⟩] (by kernel_rfl))))))
    (fun x=>by cases x with | r0 E F=>exact ⟨.inr rfl,[.int .i64 E,.int .i64 ((F:Nat):Int)],[],by kernel_rfl,trivial,by kernel_rfl⟩) h
def Il:Option k6→Bool
  | some _=>true
  | none=>false
def IW:Option k6→Int
  | some (.r0 x _)=>x
  | _=>0
def IX:Option k6→Nat
  | some (.r0 _ x)=>x
  | _=>0
theorem anS{x:Option k6}(h:Il x=true) :x=some (.r0 (IW x) (IX x)):=by
  unfold Il at h
  split at h <;> first | rfl | (cases h;done) | (rename_i y;cases y;rfl)
def afk:aJ:=bW rT (.cons (.agg (.cons .bool (.cons (.ns .u64) (.cons (.int .i64) .nil)))) (.cons (.agg (.cons .bool (.cons (.ns .u64) (.cons (.int .i64) .nil)))) .nil)) fun t=>[⟨U3 (.r0 (IW (r9 t.1.1 t.1.2.1.2 t.1.2.2.1 t.2.1.1 t.2.1.2.1.2 t.2.1.2.2.1)) (IX (r9 t.1.1 t.1.2.1.2 t.1.2.2.1 t.2.1.1 t.2.1.2.1.2 t.2.1.2.2.1))),[Il (r9 t.1.1 t.1.2.1.2 t.1.2.2.1 t.2.1.1 t.2.1.2.1.2 t.2.1.2.2.1)]⟩]
theorem ahn:aU prog afk:=aO fun t=>(aP (fun h=>anR t.1.1 t.1.2.1.1 t.1.2.1.2 t.1.2.2.1 t.2.1.1 t.2.1.2.1.1 t.2.1.2.1.2 t.2.1.2.2.1 (anS h)) aW)
def afl:List aJ:=afk :: abi
theorem wH:aY prog (bb afl):=au ahn qT
end
end Go.Plb.Seat
namespace Go.Plb.Seat
open Go Go.Plb
set_option linter.unusedVariables false
set_option maxRecDepth 100000
noncomputable section
inductive fj where
  | r0 (a:Nat) (b:Bool) (c:List Int) (d:Nat) (e:Nat) (f:Int)
def zP:fj→AE×aL
  | .r0 a b c d e f=>(.ret,⟨ah 30 [(4,.ptr 0 1 0 0),(5,.int .i64 ((a:Nat):Int))],[(0,.vs [.bool false b,.imm .free (.ns .u64 c) 1 1 d e,.int .i64 f])],1⟩)
theorem IY:kR zP:=by intro x;cases x <;> (intro h;cases h)
def LI:fj→jc
  | .r0 a b c d e f=>⟨.tup [.agg [.bool false b,.imm .free (.ns .u64 c) 1 1 d e,.int .i64 f],.int .i64 ((a:Nat):Int)],[]⟩
def Cp:List Code:=bJ (bi mL)
def RO(a:Lv)(b:Int) :Nat×Bool×(List Int)×Nat×Nat×Int×Bool→aL:=fun (c,d,e,f,g,h,i)=>⟨ah 30 [(1,.int .i64 b),(2,.ptr 0 1 0 0),(4,.ptr 1 1 0 0),(6,.int .i64 ((c:Nat):Int))],[(0,.vs [.bool false d,.imm a (.ns .u64 e) 1 1 f g,.int .i64 h]),(1,.vs [.bool false i,.nsl,.int .i64 (0:Int)])],2⟩
def Cq(c:Bool)(a:List Int)(b:Int) :T ((Nat×Bool×(List Int)×Nat×Nat×Int×Bool)⊕(fj)) :=
  .ask (decide ((0:Int) < (1:Int)))
    (.need (iS (0:Int) 1)<|.need (aQ 0 (List.length a) a)<|.need (lQ (eV (aa 0 (List.length a) a) b))<|.ask (!(jT (eV (aa 0 (List.length a) a) b)))
      (.leaf (.inl (2,c,a,0,(List.length a),b,false)))
      (.need (aQ 0 (List.length a) a)<|.need (ip (aE c (aa 0 (List.length a) a) b))<|.need (d8 .i64 (1:Int))<|.ask (decide ((1:Int) < (1:Int)))
        (.fail)
        (.leaf (.inl (0,(d9 (aE c (aa 0 (List.length a) a) b)),(ee (aE c (aa 0 (List.length a) a) b)),(ef (aE c (aa 0 (List.length a) a) b)),(eh (aE c (aa 0 (List.length a) a) b)),(ei (aE c (aa 0 (List.length a) a) b)),false)))))
    (.fail)
def RP(a:Lv)(b:Int)(c:Nat)(d:Bool)(e:List Int)(f:Nat)(g:Nat)(h:Int)(i:Bool)(j:Bool) :aL:=⟨ah 30 [(1,.int .i64 b),(2,.ptr 0 1 0 0),(4,.ptr 1 1 0 0),(6,.int .i64 ((c:Nat):Int)),(16,.bool false j)],[(0,.vs [.bool false d,.imm a (.ns .u64 e) 1 1 f g,.int .i64 h]),(1,.vs [.bool false i,.nsl,.int .i64 (0:Int)])],2⟩
def RQ(a:Nat)(b:Nat) :T ((Bool)⊕(fj)) :=
  .ask (((a:Nat):Int) != (0:Int))
    (.leaf (.inl true))
    (.leaf (.inl (((b:Nat):Int) == (0:Int))))
def RR:Nat×Bool×(List Int)×Nat×Nat×Int→aL:=fun (a,b,c,d,e,f)=>⟨ah 30 [(4,.ptr 0 1 0 0),(5,.int .i64 ((a:Nat):Int))],[(0,.vs [.bool false b,.imm .free (.ns .u64 c) 1 1 d e,.int .i64 f])],1⟩
def Cr(a:Int)(g:Nat)(f:Bool)(b:List Int)(c:Nat)(d:Nat)(e:Int)(h:Bool) :T ((Nat×Bool×(List Int)×Nat×Nat×Int)⊕(fj)) :=
  .ask h
    (.leaf (.inr (.r0 g false ([]:List Int) 0 0 (0:Int))))
    (.need (d8 .i64 (e+(oF (-1048576:Int) (ws (1048576:Int) a))))<|.need (aQ c d b)<|.need (vB (cq f (aa c d b) (e+(oF (-1048576:Int) (ws (1048576:Int) a)))))<|.leaf (.inl ((uj (cq f (aa c d b) (e+(oF (-1048576:Int) (ws (1048576:Int) a))))),(uk (cq f (aa c d b) (e+(oF (-1048576:Int) (ws (1048576:Int) a))))),(ul (cq f (aa c d b) (e+(oF (-1048576:Int) (ws (1048576:Int) a))))),(um (cq f (aa c d b) (e+(oF (-1048576:Int) (ws (1048576:Int) a))))),(un (cq f (aa c d b) (e+(oF (-1048576:Int) (ws (1048576:Int) a))))),(uo (cq f (aa c d b) (e+(oF (-1048576:Int) (ws (1048576:Int) a))))))))
def RS(a:Nat)(b:Bool)(c:List Int)(d:Nat)(e:Nat)(f:Int) :T ((Empty)⊕(fj)) :=
  .leaf (.inr (.r0 a b c d e f))
def fk(c:Bool)(d:List Int)(e:Int)(f:Int) :Option fj:=ld (aC ((Cq c d e).run) fun (a,g,h,i,b,j,r) =>
  aC ((RQ a b).run) fun k =>
  aC ((Cr f a g h i b j k).run) fun (l,m,n,o,p,q) =>
  (RS l m n o p q).run)
theorem aho(g:Bool)(c:Lv)(d:List Int)(i:Int)(b:Int){x:fj}(h:fk g d i b=some x) :aw prog mL [] [.agg [.bool false g,.imm c (.ns .u64 d) 1 1 0 (List.length d),.int .i64 i],.int .i64 b] (LI x) :=
  Sg.contract true LI (by kernel_rfl:prog.funcs[mL]? = some (FN mL)) (by kernel_rfl:(FN mL).body=some (bi mL)) (Sg.cut 2 IY (Sg.seg (C:=C0) an wH 60 (Cp.take 2) (aT (FN mL) [] [.agg [.bool false g,.imm c (.ns .u64 d) 1 1 0 (List.length d),.int .i64 i],.int .i64 b]) (Cq g d i) (RO c b) zP [⟨[],[0,16],[1,2,4,6]⟩,⟨[(.cell 0 1,.lev c)],[0,16],[1,2,4,6]⟩] (by kernel_rfl)) (fun a=>by obtain ⟨e,j,k,l,f,m,n⟩:=a;exact Sg.cut 1 IY (Sg.seg (C:=C0) an wH 60 ((Cp.drop 2).take 1) (RO c b (e,j,k,l,f,m,n)) (RQ e f) (RP c b e j k l f m n) zP [⟨[],[0,1],[1,2,4,6,16]⟩,⟨[],[0,1],[1,2,4,6,16]⟩] (by kernel_rfl)) (fun o=>by exact Sg.cut 3 IY (Sg.seg (C:=C0) an wH 60 (((Cp.drop 2).drop 1).take 3) (RP c b e j k l f m n o) (Cr b e j k l f m o) RR zP [⟨[(.cell 1 1,.fre 1 1 (.ns .u64 ([]:List Int)))],[1],[4,5]⟩,⟨[],[1],[4,5]⟩] (by kernel_rfl)) (fun a=>by obtain ⟨p,q,r,s,t,u⟩:=a;exact Sg.seg (C:=C0) an wH 60 (((Cp.drop 2).drop 1).drop 3) (RR (p,q,r,s,t,u)) (RS p q r s t u) (fun a:Empty=>a.elim) zP [⟨[],[0],[4,5]⟩] (by kernel_rfl)))))
    (fun x=>by cases x with | r0 v w y z A B=>exact ⟨.inr rfl,[.agg [.bool false w,.imm .free (.ns .u64 y) 1 1 z A,.int .i64 B],.int .i64 ((v:Nat):Int)],[],by kernel_rfl,trivial,by kernel_rfl⟩) h
def Cs:Option fj→Bool
  | some _=>true
  | none=>false
def D5:Option fj→Nat
  | some (.r0 x _ _ _ _ _)=>x
  | _=>0
def D6:Option fj→Bool
  | some (.r0 _ x _ _ _ _)=>x
  | _=>false
def D7:Option fj→List Int
  | some (.r0 _ _ x _ _ _)=>x
  | _=>[]
def D8:Option fj→Nat
  | some (.r0 _ _ _ x _ _)=>x
  | _=>0
def D9:Option fj→Nat
  | some (.r0 _ _ _ _ x _)=>x
  | _=>0
def Ea:Option fj→Int
  | some (.r0 _ _ _ _ _ x)=>x
  | _=>0
theorem ahp{x:Option fj}(h:Cs x=true) :x=some (.r0 (D5 x) (D6 x) (D7 x) (D8 x) (D9 x) (Ea x)):=by
  unfold Cs at h
  split at h <;> first | rfl | (cases h;done) | (rename_i y;cases y;rfl)
def WB:aJ:=bW mL (.cons (.agg (.cons .bool (.cons (.ns .u64) (.cons (.int .i64) .nil)))) (.cons (.int .i64) .nil)) fun t=>[⟨LI (.r0 (D5 (fk t.1.1 t.1.2.1.2 t.1.2.2.1 t.2.1)) (D6 (fk t.1.1 t.1.2.1.2 t.1.2.2.1 t.2.1)) (D7 (fk t.1.1 t.1.2.1.2 t.1.2.2.1 t.2.1)) (D8 (fk t.1.1 t.1.2.1.2 t.1.2.2.1 t.2.1)) (D9 (fk t.1.1 t.1.2.1.2 t.1.2.2.1 t.2.1)) (Ea (fk t.1.1 t.1.2.1.2 t.1.2.2.1 t.2.1))),[Cs (fk t.1.1 t.1.2.1.2 t.1.2.2.1 t.2.1)]⟩]
theorem acz:aU prog WB:=aO fun t=>(aP (fun h=>aho t.1.1 t.1.2.1.1 t.1.2.1.2 t.1.2.2.1 t.2.1 (ahp h)) aW)
def WC:List aJ:=WB :: afl
theorem xP:aY prog (bb WC):=au acz wH
inductive gu where
  | r0 (a:Bool) (b:List Int) (c:Nat) (d:Nat) (e:Int)
def Fl:gu→AE×aL
  | .r0 a b c d e=>(.ret,⟨ah 16 [(2,.ptr 0 1 0 0)],[(0,.vs [.bool false a,.imm .free (.ns .u64 b) 1 1 c d,.int .i64 e])],1⟩)
theorem RT:kR Fl:=by intro x;cases x <;> (intro h;cases h)
def LJ:gu→jc
  | .r0 a b c d e=>⟨.agg [.bool false a,.imm .free (.ns .u64 b) 1 1 c d,.int .i64 e],[]⟩
def IZ:List Code:=bJ (bi mH)
def RU(a:Int) :Int×Bool→aL:=fun (b,c)=>⟨ah 16 [(0,.int .i64 a),(2,.ptr 0 1 0 0),(3,.int .u64 b)],[(0,.vs [.bool false c,.nsl,.int .i64 (0:Int)])],1⟩
def I0(a:Int) :T ((Int×Bool)⊕(gu)) :=
  .ask (decide (a < (0:Int)))
    (.leaf (.inl ((IntKind.u64.wrap ((0:Int) - (IntKind.u64.wrap a))),false)))
    (.leaf (.inl ((IntKind.u64.wrap a),false)))
def RV:Bool×(List Int)×Nat×Nat×Int→aL:=fun (a,b,c,d,e)=>⟨ah 16 [(2,.ptr 0 1 0 0)],[(0,.vs [.bool false a,.imm .free (.ns .u64 b) 1 1 c d,.int .i64 e])],1⟩
def Ct(b:Int)(a:Int) :T ((Bool×(List Int)×Nat×Nat×Int)⊕(gu)) :=
  .need (Br (ch a))<|.need (aQ (fg (ch a)) (fh (ch a)) (fi (ch a)))<|.need (ip (aE (decide (b < (0:Int))) (aa (fg (ch a)) (fh (ch a)) (fi (ch a))) (0:Int)))<|.leaf (.inl ((d9 (aE (decide (b < (0:Int))) (aa (fg (ch a)) (fh (ch a)) (fi (ch a))) (0:Int))),(ee (aE (decide (b < (0:Int))) (aa (fg (ch a)) (fh (ch a)) (fi (ch a))) (0:Int))),(ef (aE (decide (b < (0:Int))) (aa (fg (ch a)) (fh (ch a)) (fi (ch a))) (0:Int))),(eh (aE (decide (b < (0:Int))) (aa (fg (ch a)) (fh (ch a)) (fi (ch a))) (0:Int))),(ei (aE (decide (b < (0:Int))) (aa (fg (ch a)) (fh (ch a)) (fi (ch a))) (0:Int)))))
def RW(a:Bool)(b:List Int)(c:Nat)(d:Nat)(e:Int) :T ((Empty)⊕(gu)) :=
  .leaf (.inr (.r0 a b c d e))
def bm(a:Int) :Option gu:=ld (aC ((I0 a).run) fun (b,h) =>
  aC ((Ct a b).run) fun (c,d,e,f,g) =>
  (RW c d e f g).run)
theorem ahq(b:Int){x:gu}(h:bm b=some x) :aw prog mH [] [.int .i64 b] (LJ x) :=
  Sg.contract true LJ (by kernel_rfl:prog.funcs[mH]? = some (FN mH)) (by kernel_rfl:(FN mH).body=some (bi mH)) (Sg.cut 4 RT (Sg.seg (C:=C0) an xP 60 (IZ.take 4) (aT (FN mH) [] [.int .i64 b]) (I0 b) (RU b) Fl [⟨[],[0],[0,2,3]⟩,⟨[],[0],[0,2,3]⟩] (by kernel_rfl)) (fun a=>by obtain ⟨c,j⟩:=a;exact Sg.cut 1 RT (Sg.seg (C:=C0) an xP 60 ((IZ.drop 4).take 1) (RU b (c,j)) (Ct b c) RV Fl [⟨[],[0],[2]⟩] (by kernel_rfl)) (fun a=>by obtain ⟨d,e,f,g,i⟩:=a;exact Sg.seg (C:=C0) an xP 60 ((IZ.drop 4).drop 1) (RV (d,e,f,g,i)) (RW d e f g i) (fun a:Empty=>a.elim) Fl [⟨[],[0],[2]⟩] (by kernel_rfl))))
    (fun x=>by cases x with | r0 k l m n o=>exact ⟨.inr rfl,[.agg [.bool false k,.imm .free (.ns .u64 l) 1 1 m n,.int .i64 o]],[],by kernel_rfl,trivial,by kernel_rfl⟩) h
def qm:Option gu→Bool
  | some _=>true
  | none=>false
def kv:Option gu→Bool
  | some (.r0 x _ _ _ _)=>x
  | _=>false
def jk:Option gu→List Int
  | some (.r0 _ x _ _ _)=>x
  | _=>[]
def jl:Option gu→Nat
  | some (.r0 _ _ x _ _)=>x
  | _=>0
def jm:Option gu→Nat
  | some (.r0 _ _ _ x _)=>x
  | _=>0
def kw:Option gu→Int
  | some (.r0 _ _ _ _ x)=>x
  | _=>0
theorem ahr{x:Option gu}(h:qm x=true) :x=some (.r0 (kv x) (jk x) (jl x) (jm x) (kw x)):=by
  unfold qm at h
  split at h <;> first | rfl | (cases h;done) | (rename_i y;cases y;rfl)
def WD:aJ:=bW mH (.cons (.int .i64) .nil) fun t=>[⟨LJ (.r0 (kv (bm t.1)) (jk (bm t.1)) (jl (bm t.1)) (jm (bm t.1)) (kw (bm t.1))),[qm (bm t.1)]⟩]
theorem acA:aU prog WD:=aO fun t=>(aP (fun h=>ahq t.1 (ahr h)) aW)
def WE:List aJ:=WD :: WC
theorem Eb:aY prog (bb WE):=au acA xP
inductive m6 where
  | r0 (a:Nat)
def LK:m6→AE×aL
  | .r0 a=>(.ret,⟨ah 26 [(2,.int .i64 ((a:Nat):Int))],[],0⟩)
theorem ahs:kR LK:=by intro x;cases x <;> (intro h;cases h)
def LL:m6→jc
  | .r0 a=>⟨.int .i64 ((a:Nat):Int),[]⟩
def RX:List Code:=bJ (bi pG)
def RY(_:Unit) :aL:=⟨ah 26 [],[],0⟩
def wI(a : Int) : T ((Unit) ⊕ (m6)) :=
  .need (decide ((0:Int)≤(52:Int)))<|.ask ((fT .and .u64 (Int.fdiv a (2 ^ (min (Int.toNat (52:Int)) (IntKind.u64.bits)))) (2047:Int)) == (2047:Int))
    (.ask ((fT .and .u64 a (4503599627370495:Int)) != (0:Int))
      (.leaf (.inr (.r0 5)))
      (.ask ((fT .and .u64 (Int.fdiv a (2 ^ (min (Int.toNat (52:Int)) (IntKind.u64.bits)))) (2047:Int)) == (2047:Int))
        (.leaf (.inr (.r0 4)))
        (.ask ((fT .and .u64 (Int.fdiv a (2 ^ (min (Int.toNat (52:Int)) (IntKind.u64.bits)))) (2047:Int)) != (0:Int))
          (.leaf (.inr (.r0 3)))
          (.ask ((fT .and .u64 a (4503599627370495:Int)) != (0:Int))
            (.leaf (.inr (.r0 2)))
            (.leaf (.inl ()))))))
    (.ask ((fT .and .u64 (Int.fdiv a (2 ^ (min (Int.toNat (52:Int)) (IntKind.u64.bits)))) (2047:Int)) == (2047:Int))
      (.leaf (.inr (.r0 4)))
      (.ask ((fT .and .u64 (Int.fdiv a (2 ^ (min (Int.toNat (52:Int)) (IntKind.u64.bits)))) (2047:Int)) != (0:Int))
        (.leaf (.inr (.r0 3)))
        (.ask ((fT .and .u64 a (4503599627370495:Int)) != (0:Int))
          (.leaf (.inr (.r0 2)))
          (.leaf (.inl ())))))
def RZ:T ((Empty)⊕(m6)) :=
  .leaf (.inr (.r0 1))
def vD(a:Int) :Option m6:=ld (aC ((wI a).run) fun _ =>
  (RZ).run)
theorem aht(b:Int){x:m6}(h:vD b=some x) :aw prog pG [] [.int .u64 b] (LL x) :=
  Sg.contract false LL (by kernel_rfl:prog.funcs[pG]? = some (FN pG)) (by kernel_rfl:(FN pG).body=some (bi pG)) (Sg.cut 3 ahs (Sg.seg (C:=C0) an Eb 60 (RX.take 3) (aT (FN pG) [] [.int .u64 b]) (wI b) RY LK [⟨[],[],[2]⟩,⟨[],[],[2]⟩,⟨[],[],[2]⟩,⟨[],[],[2]⟩,⟨[],[],[]⟩,⟨[],[],[2]⟩,⟨[],[],[2]⟩,⟨[],[],[2]⟩,⟨[],[],[]⟩] (by kernel_rfl)) (fun a=>by cases a;exact Sg.seg (C:=C0) an Eb 60 (RX.drop 3) (RY ()) (RZ) (fun a:Empty=>a.elim) LK [⟨[],[],[2]⟩] (by kernel_rfl)))
    (fun x=>by cases x with | r0 c=>exact ⟨.inr rfl,[.int .i64 ((c:Nat):Int)],[],by kernel_rfl,trivial,by kernel_rfl⟩) h
def Cu:Option m6→Bool
  | some _=>true
  | none=>false
def Ec:Option m6→Nat
  | some (.r0 x)=>x
  | _=>0
theorem ahu{x:Option m6}(h:Cu x=true) :x=some (.r0 (Ec x)):=by
  unfold Cu at h
  split at h <;> first | rfl | (cases h;done) | (rename_i y;cases y;rfl)
def WF:aJ:=bW pG (.cons (.int .u64) .nil) fun t=>[⟨LL (.r0 (Ec (vD t.1))),[Cu (vD t.1)]⟩]
theorem acB:aU prog WF:=aO fun t=>(aP (fun h=>aht t.1 (ahu h)) aW)
def WG:List aJ:=WF :: WE
theorem Ed:aY prog (bb WG):=au acB Eb
inductive jn where
  | r0 (a:Nat) (b:Bool) (c:Int) (d:Int)
def LM:jn→AE×aL
  | .r0 a b c d=>(.ret,⟨ah 36 [(2,.ptr 0 1 0 0),(3,.int .i64 ((a:Nat):Int))],[(0,.vs [.bool false b,.int .u64 c,.int .i64 d])],1⟩)
theorem ahv:kR LM:=by intro x;cases x <;> (intro h;cases h)
def LN:jn→jc
  | .r0 a b c d=>⟨.tup [.agg [.bool false b,.int .u64 c,.int .i64 d],.int .i64 ((a:Nat):Int)],[]⟩
def R0:List Code:=bJ (bi pw)
def R1(a:Int) :Nat×Bool×Bool×Int→aL:=fun (b,c,d,e)=>⟨ah 36 [(0,.int .u64 a),(2,.ptr 0 1 0 0),(4,.ptr 1 1 0 0),(12,.int .i64 ((b:Nat):Int))],[(0,.vs [.bool false c,.int .u64 (0:Int),.int .i64 (0:Int)]),(1,.vs [.bool false d,.int .u64 e,.int .i64 (-1074:Int)])],2⟩
def I1(a:Int) :T ((Nat×Bool×Bool×Int)⊕(jn)) :=
  .need (decide ((0:Int)≤(63:Int)))<|.need (Cu (vD a))<|.leaf (.inl ((Ec (vD a)),false,((Int.fdiv a (2 ^ (min (Int.toNat (63:Int)) (IntKind.u64.bits)))) == (1:Int)),(fT .and .u64 a (4503599627370495:Int))))
def Cv(a:Int)(b:Nat)(c:Bool)(d:Int) :T ((Empty)⊕(jn)) :=
  .ask (((b:Nat):Int) == (3:Int))
    (.need (decide ((0:Int)≤(52:Int)))<|.need (d8 .i64 ((IntKind.i64.wrap (fT .and .u64 (Int.fdiv a (2 ^ (min (Int.toNat (52:Int)) (IntKind.u64.bits)))) (2047:Int))) - (1:Int)))<|.need (d8 .i64 ((-1074:Int)+((IntKind.i64.wrap (fT .and .u64 (Int.fdiv a (2 ^ (min (Int.toNat (52:Int)) (IntKind.u64.bits)))) (2047:Int))) - (1:Int))))<|.leaf (.inr (.r0 0 c (fT .or .u64 d (4503599627370496:Int)) ((-1074:Int)+((IntKind.i64.wrap (fT .and .u64 (Int.fdiv a (2 ^ (min (Int.toNat (52:Int)) (IntKind.u64.bits)))) (2047:Int))) - (1:Int))))))
    (.ask (((b:Nat):Int) == (2:Int))
      (.leaf (.inr (.r0 0 c d (-1074:Int))))
      (.ask (((b:Nat):Int) == (1:Int))
        (.leaf (.inr (.r0 0 c d (0:Int))))
        (.leaf (.inr (.r0 2 false (0:Int) (0:Int))))))
def eN(a:Int) :Option jn:=ld (aC ((I1 a).run) fun (b,e,c,d) =>
  (Cv a b c d).run)
theorem ahw(b:Int){x:jn}(h:eN b=some x) :aw prog pw [] [.int .u64 b] (LN x) :=
  Sg.contract false LN (by kernel_rfl:prog.funcs[pw]? = some (FN pw)) (by kernel_rfl:(FN pw).body=some (bi pw)) (Sg.cut 3 ahv (Sg.seg (C:=C0) an Ed 60 (R0.take 3) (aT (FN pw) [] [.int .u64 b]) (I1 b) (R1 b) LM [⟨[],[0,128],[0,2,4,12]⟩] (by kernel_rfl)) (fun a=>by obtain ⟨c,f,d,e⟩:=a;exact Sg.seg (C:=C0) an Ed 60 (R0.drop 3) (R1 b (c,f,d,e)) (Cv b c d e) (fun a:Empty=>a.elim) LM [⟨[],[0],[2,3]⟩,⟨[],[0],[2,3]⟩,⟨[],[0],[2,3]⟩,⟨[],[0],[2,3]⟩] (by kernel_rfl)))
    (fun x=>by cases x with | r0 g i j k=>exact ⟨.inr rfl,[.agg [.bool false i,.int .u64 j,.int .i64 k],.int .i64 ((g:Nat):Int)],[],by kernel_rfl,trivial,by kernel_rfl⟩) h
def wJ:Option jn→Bool
  | some _=>true
  | none=>false
def xQ:Option jn→Nat
  | some (.r0 x _ _ _)=>x
  | _=>0
def xR:Option jn→Bool
  | some (.r0 _ x _ _)=>x
  | _=>false
def xS:Option jn→Int
  | some (.r0 _ _ x _)=>x
  | _=>0
def xT:Option jn→Int
  | some (.r0 _ _ _ x)=>x
  | _=>0
theorem ahx{x:Option jn}(h:wJ x=true) :x=some (.r0 (xQ x) (xR x) (xS x) (xT x)):=by
  unfold wJ at h
  split at h <;> first | rfl | (cases h;done) | (rename_i y;cases y;rfl)
def WH:aJ:=bW pw (.cons (.int .u64) .nil) fun t=>[⟨LN (.r0 (xQ (eN t.1)) (xR (eN t.1)) (xS (eN t.1)) (xT (eN t.1))),[wJ (eN t.1)]⟩]
theorem acC:aU prog WH:=aO fun t=>(aP (fun h=>ahw t.1 (ahx h)) aW)
def WI:List aJ:=WH :: WG
theorem xU:aY prog (bb WI):=au acC Ed
inductive k7 where
  | r0 (a:Nat) (b:Bool) (c:List Int) (d:Nat) (e:Nat) (f:Int)
def Q6:k7→AE×aL
  | .r0 a b c d e f=>(.ret,⟨ah 25 [(2,.ptr 0 1 0 0),(3,.int .i64 ((a:Nat):Int))],[(0,.vs [.bool false b,.imm .free (.ns .u64 c) 1 1 d e,.int .i64 f])],1⟩)
theorem afm:kR Q6:=by intro x;cases x <;> (intro h;cases h)
def Zw:k7→jc
  | .r0 a b c d e f=>⟨.tup [.agg [.bool false b,.imm .free (.ns .u64 c) 1 1 d e,.int .i64 f],.int .i64 ((a:Nat):Int)],[]⟩
def U4:List Code:=bJ (bi vg)
def afn:Nat×Bool×Bool×Int×Int→aL:=fun (a,b,c,d,e)=>⟨ah 25 [(2,.ptr 0 1 0 0),(4,.ptr 1 1 0 0),(5,.int .i64 ((a:Nat):Int))],[(0,.vs [.bool false b,.nsl,.int .i64 (0:Int)]),(1,.vs [.bool false c,.int .u64 d,.int .i64 e])],2⟩
def U5(a:Nat) :T ((Nat×Bool×Bool×Int×Int)⊕(k7)) :=
  .ask (fne a a)
    (.need (wJ (eN (9221120237041090560:Int)))<|.leaf (.inl ((xQ (eN (9221120237041090560:Int))),false,(xR (eN (9221120237041090560:Int))),(xS (eN (9221120237041090560:Int))),(xT (eN (9221120237041090560:Int))))))
    (.alt 0
      (.need (!isNaN a)<|.need (wJ (eN ((a:Nat):Int)))<|.leaf (.inl ((xQ (eN ((a:Nat):Int))),false,(xR (eN ((a:Nat):Int))),(xS (eN ((a:Nat):Int))),(xT (eN ((a:Nat):Int))))))
      (.fail))
def afp:Bool×(List Int)×Nat×Nat×Int→aL:=fun (a,b,c,d,e)=>⟨ah 25 [(2,.ptr 0 1 0 0),(3,.int .i64 (0:Int))],[(0,.vs [.bool false a,.imm .free (.ns .u64 b) 1 1 c d,.int .i64 e])],1⟩
def LO(d:Nat)(b:Bool)(a:Int)(c:Int) :T ((Bool×(List Int)×Nat×Nat×Int)⊕(k7)) :=
  .ask (((d:Nat):Int) != (0:Int))
    (.leaf (.inr (.r0 d false ([]:List Int) 0 0 (0:Int))))
    (.need (Br (ch a))<|.need (aQ (fg (ch a)) (fh (ch a)) (fi (ch a)))<|.need (ip (aE b (aa (fg (ch a)) (fh (ch a)) (fi (ch a))) c))<|.leaf (.inl ((d9 (aE b (aa (fg (ch a)) (fh (ch a)) (fi (ch a))) c)),(ee (aE b (aa (fg (ch a)) (fh (ch a)) (fi (ch a))) c)),(ef (aE b (aa (fg (ch a)) (fh (ch a)) (fi (ch a))) c)),(eh (aE b (aa (fg (ch a)) (fh (ch a)) (fi (ch a))) c)),(ei (aE b (aa (fg (ch a)) (fh (ch a)) (fi (ch a))) c)))))
def afq(a:Bool)(b:List Int)(c:Nat)(d:Nat)(e:Int) :T ((Empty)⊕(k7)) :=
  .leaf (.inr (.r0 0 a b c d e))
def iR(a:Nat) :Option k7:=ld (aC ((U5 a).run) fun (b,k,c,d,e) =>
  aC ((LO b c d e).run) fun (f,g,h,i,j) =>
  (afq f g h i j).run)
theorem apT(b:Nat){x:k7}(h:iR b=some x) :aw prog vg [] [.flt false b] (Zw x) :=
  Sg.contract true Zw (by kernel_rfl:prog.funcs[vg]? = some (FN vg)) (by kernel_rfl:(FN vg).body=some (bi vg)) (Sg.cut 2 afm (Sg.seg (C:=C0) an xU 60 (U4.take 2) (aT (FN vg) [] [.flt false b]) (U5 b) afn Q6 [⟨[],[0,128],[2,4,5]⟩,⟨[],[0,128],[2,4,5]⟩] (by kernel_rfl)) (fun a=>by obtain ⟨c,m,d,e,f⟩:=a;exact Sg.cut 3 afm (Sg.seg (C:=C0) an xU 60 ((U4.drop 2).take 3) (afn (c,m,d,e,f)) (LO c d e f) afp Q6 [⟨[(.cell 0 1,.fre 1 1 (.ns .u64 ([]:List Int)))],[0],[2,3]⟩,⟨[],[0],[2,3]⟩] (by kernel_rfl)) (fun a=>by obtain ⟨g,i,j,k,l⟩:=a;exact Sg.seg (C:=C0) an xU 60 ((U4.drop 2).drop 3) (afp (g,i,j,k,l)) (afq g i j k l) (fun a:Empty=>a.elim) Q6 [⟨[],[0],[2,3]⟩] (by kernel_rfl))))
    (fun x=>by cases x with | r0 n o p q r s=>exact ⟨.inr rfl,[.agg [.bool false o,.imm .free (.ns .u64 p) 1 1 q r,.int .i64 s],.int .i64 ((n:Nat):Int)],[],by kernel_rfl,trivial,by kernel_rfl⟩) h
def Gx:Option k7→Bool
  | some _=>true
  | none=>false
def WJ:Option k7→Nat
  | some (.r0 x _ _ _ _ _)=>x
  | _=>0
def Fm:Option k7→Bool
  | some (.r0 _ x _ _ _ _)=>x
  | _=>false
def zQ:Option k7→List Int
  | some (.r0 _ _ x _ _ _)=>x
  | _=>[]
def zR:Option k7→Nat
  | some (.r0 _ _ _ x _ _)=>x
  | _=>0
def zS:Option k7→Nat
  | some (.r0 _ _ _ _ x _)=>x
  | _=>0
def Fo:Option k7→Int
  | some (.r0 _ _ _ _ _ x)=>x
  | _=>0
theorem apU{x:Option k7}(h:Gx x=true) :x=some (.r0 (WJ x) (Fm x) (zQ x) (zR x) (zS x) (Fo x)):=by
  unfold Gx at h
  split at h <;> first | rfl | (cases h;done) | (rename_i y;cases y;rfl)
def ajK:aJ:=bW vg (.cons (.flt false) .nil) fun t=>[⟨Zw (.r0 (WJ (iR t.1)) (Fm (iR t.1)) (zQ (iR t.1)) (zR (iR t.1)) (zS (iR t.1)) (Fo (iR t.1))),[Gx (iR t.1)]⟩]
theorem ak5:aU prog ajK:=aO fun t=>(aP (fun h=>apT t.1 (apU h)) aW)
def ajL:List aJ:=ajK :: WI
theorem zT:aY prog (bb ajL):=au ak5 xU
inductive iq where
  | r0 (a:Nat) (b:List Int)
def sa:iq→AE×aL
  | .r0 a b=>(.ret,⟨ah 22 [(2,.sl 0 1 1 0 a a)],[(0,.ns .u64 b)],1⟩)
theorem Cw:kR sa:=by intro x;cases x <;> (intro h;cases h)
theorem ahy(id:Nat) :qE id sa:=by intro x;cases x <;> (intro h;cases h)
def LP:iq→jc
  | .r0 a b=>⟨.imm .free (.ns .u64 b) 1 1 0 a,[]⟩
def ut:List Code:=bJ (bi mP)
def R2(b:Lv)(a:List Int)(_:Unit) :aL:=⟨ah 22 [(0,.imm b (.ns .u64 a) 1 1 0 (List.length a)),(3,.int .i64 (((List.length a):Nat):Int))],[],0⟩
def OE:T ((Unit)⊕(iq)) :=
  .leaf (.inl ())
def th(b:Lv)(a:List Int)(c:Int) :aL:=⟨ah 22 [(0,.imm b (.ns .u64 a) 1 1 0 (List.length a)),(3,.int .i64 c)],[],0⟩
def wK(b:Lv)(a:List Int)(c:Int) :aL:=⟨ah 22 [(0,.imm b (.ns .u64 a) 1 1 0 (List.length a)),(3,.int .i64 c)],[],0⟩
def Gy:List Code:=bJ (bK ((((ut.drop 2).take 1)).headD .skip))
def R3(b:Lv)(a:List Int)(c:Int)(d:Bool) :aL:=⟨ah 22 [(0,.imm b (.ns .u64 a) 1 1 0 (List.length a)),(3,.int .i64 c),(15,.bool false d)],[],0⟩
def qU(b:List Int)(a:Int) :T ((Bool)⊕((Int)⊕(iq))) :=
  .ask (decide (a > (0:Int)))
    (.need (d8 .i64 (a - (1:Int)))<|.need (iS (a - (1:Int)) (List.length b))<|.need (jC (Int.toNat (a - (1:Int))) (List.length b))<|.leaf (.inl ((List.getD b (Int.toNat (a - (1:Int))) 0) == (0:Int))))
    (.leaf (.inl false))
def Gz(a:Int)(b:Bool) :T ((Int)⊕((Int)⊕(iq))) :=
  .ask b
    (.need (d8 .i64 (a - (1:Int)))<|.leaf (.inl (a - (1:Int))))
    (.leaf (.inr (.inl a)))
def GA(b:List Int) :Int→Option ((Int)⊕((Int)⊕(iq))):=fun a =>
  aC ((qU b a).run) fun c =>
  (Gz a c).run
theorem afs(b:Lv)(a:List Int)(c:Int) :Sg prog [] Gy (th b a c) (GA a c) (th b a) (aN 0 (wK b a) sa):=by
  unfold GA;exact Sg.cut 1 (aI Cw) (Sg.seg (C:=C0) an zT 60 (Gy.take 1) (th b a c) (qU a c) (R3 b a c) (aN 0 (wK b a) sa) [⟨[],[],[0,3,15]⟩,⟨[],[],[0,3,15]⟩] (by kernel_rfl)) (fun d=>by exact Sg.seg (C:=C0) an zT 60 (Gy.drop 1) (R3 b a c d) (Gz c d) (th b a) (aN 0 (wK b a) sa) [⟨[],[],[0,3]⟩,⟨[],[],[0,3]⟩] (by kernel_rfl))
def ahz(a:Lv)(b:List Int) :Int→aL:=wK a b
def GB(b:List Int)(a:Int) :T ((Empty)⊕(iq)) :=
  .need (Rm a (List.length b))<|.need (Rm (0:Int) (Int.toNat a))<|.need (tZ ((Int.toNat a) * 8) 140737488355328)<|.need (tZ (Int.toNat a) 9223372036854775807)<|.need (tZ (Int.toNat a) (List.length b))<|.leaf (.inr (.r0 (Int.toNat a) (List.take (Int.toNat a) b)))
def cQ(a:List Int) :Option iq:=ld (aC ((OE).run) fun _ =>
  aC (dM (GA a) (((List.length a):Nat):Int)) fun b =>
  (GB a b).run)
theorem ahA(c:Lv)(b:List Int){x:iq}(h:cQ b=some x) :aw prog mP [] [.imm c (.ns .u64 b) 1 1 0 (List.length b)] (LP x) :=
  Sg.contract true LP (by kernel_rfl:prog.funcs[mP]? = some (FN mP)) (by kernel_rfl:(FN mP).body=some (bi mP)) (Sg.cut 2 Cw (Sg.seg (C:=C0) an zT 60 (ut.take 2) (aT (FN mP) [] [.imm c (.ns .u64 b) 1 1 0 (List.length b)]) (OE) (R2 c b) sa [⟨[],[],[0,3]⟩] (by kernel_rfl)) (fun a=>by cases a;exact Sg.cut 1 Cw (Sg.pre ⟨[],[],[0,3]⟩ rfl (by kernel_rfl:NS.on ⟨[],[],[0,3]⟩ (R2 c b ())=(th c b) (((List.length b):Nat):Int)) (bU (I:=(th c b)) (J:=(wK c b)) (id:=0) (by kernel_rfl:((ut.drop 2).take 1) = [.block 0 (.loop (bK ((((ut.drop 2).take 1)).headD .skip)))]) Cw (ahy _) (fun s=>by exact afs c b s) (((List.length b):Nat):Int))) (fun d=>by exact Sg.seg (C:=C0) an zT 60 ((ut.drop 2).drop 1) (ahz c b d) (GB b d) (fun a:Empty=>a.elim) sa [⟨[],[48],[2]⟩] (by kernel_rfl))))
    (fun x=>by cases x with | r0 e f=>exact ⟨.inr rfl,[.sl 0 1 1 0 e e],[],by kernel_rfl,trivial,by kernel_rfl⟩) h
def lI:Option iq→Bool
  | some _=>true
  | none=>false
def kB:Option iq→Nat
  | some (.r0 x _)=>x
  | _=>0
def kC:Option iq→List Int
  | some (.r0 _ x)=>x
  | _=>[]
theorem ahB{x:Option iq}(h:lI x=true) :x=some (.r0 (kB x) (kC x)):=by
  unfold lI at h
  split at h <;> first | rfl | (cases h;done) | (rename_i y;cases y;rfl)
def WK:aJ:=bW mP (.cons (.ns .u64) .nil) fun t=>[⟨LP (.r0 (kB (cQ t.1.2)) (kC (cQ t.1.2))),[lI (cQ t.1.2)]⟩]
theorem acD:aU prog WK:=aO fun t=>(aP (fun h=>ahA t.1.1 t.1.2 (ahB h)) aW)
def WL:List aJ:=WK :: ajL
theorem xV:aY prog (bb WL):=au acD zT
inductive jF where
  | r0 (a:Nat) (b:Nat) (c:List Int)
def y4:jF→AE×aL
  | .r0 a b c=>(.ret,⟨ah 25 [(2,.sl 0 1 1 0 a b)],[(0,.ns .u64 c)],1⟩)
theorem LQ:kR y4:=by intro x;cases x <;> (intro h;cases h)
theorem ak6(id:Nat) :qE id y4:=by intro x;cases x <;> (intro h;cases h)
def OF:jF→jc
  | .r0 a c b=>⟨.imm .free (.ns .u64 b) 1 1 0 a,[]⟩
def zU:List Code:=bJ (bi pI)
def WM(b:Lv)(a:List Int)(_:Unit) :aL:=⟨ah 25 [(0,.imm b (.ns .u64 a) 1 1 0 (List.length a)),(3,.nsl),(4,.int .i64 (0:Int))],[],0⟩
def WN:T ((Unit)⊕(jF)) :=
  .leaf (.inl ())
def vE(b:Lv)(a:List Int) :Nat×Nat×Nat×(List Int)→aL:=fun (c,d,e,f)=>⟨ah 25 [(0,.imm b (.ns .u64 a) 1 1 0 (List.length a)),(3,.sl 0 1 1 0 c d),(4,.int .i64 ((e:Nat):Int))],[(0,.ns .u64 f)],1⟩
def Fp:Nat×Nat×(List Int)→aL:=fun (a,b,c)=>⟨ah 25 [(3,.sl 0 1 1 0 a b)],[(0,.ns .u64 c)],1⟩
def WO:List Code:=bJ (bK ((((zU.drop 3).take 1)).headD .skip))
def wL(b:List Int)(c:Nat)(e:Nat)(a:Nat)(d:List Int) :T ((Nat×Nat×Nat×(List Int))⊕((Nat×Nat×(List Int))⊕(jF))) :=
  .ask (decide (((a:Nat):Int) < (((List.length b):Nat):Int)))
    (.need (iS ((a:Nat):Int) (List.length b))<|.need (jC a (List.length b))<|.need ((4294967296:Int) != (0:Int))<|.need (iS ((a:Nat):Int) (List.length b))<|.need (jC a (List.length b))<|.need ((4294967296:Int) != (0:Int))<|.need (tZ ((c+2) * 8) 140737488355328)<|.need (tZ (c+2) 9223372036854775807)<|.need (tZ 2 (List.length [(Int.tmod (List.getD b a 0) (4294967296:Int)),(IntKind.u64.wrap (Int.tdiv (List.getD b a 0) (4294967296:Int)))]))<|.need (tZ c (List.length d))<|.need (d8 .i64 (((a+1):Nat):Int))<|.leaf (.inl ((c+2),(c+2),(a+1),((List.take c d) ++ (List.take 2 [(Int.tmod (List.getD b a 0) (4294967296:Int)),(IntKind.u64.wrap (Int.tdiv (List.getD b a 0) (4294967296:Int)))])))))
    (.leaf (.inr (.inl (c,e,d))))
def I2(a:List Int) :Nat×Nat×Nat×(List Int)→Option ((Nat×Nat×Nat×(List Int))⊕((Nat×Nat×(List Int))⊕(jF))):=fun (b,c,d,e) =>
  (wL a b c d e).run
theorem ahC(b:Lv)(a:List Int)(c:Nat)(d:Nat)(e:Nat)(f:List Int) :Sg prog [] WO (vE b a (c,d,e,f)) (I2 a (c,d,e,f)) (vE b a) (aN 0 Fp y4):=by
  unfold I2;exact Sg.seg (C:=C0) an xV 60 WO (vE b a (c,d,e,f)) (wL a c d e f) (vE b a) (aN 0 Fp y4) [⟨[],[257],[0,3,4]⟩,⟨[],[0],[3]⟩] (by kernel_rfl)
def ak7:Nat×Nat×(List Int)→aL:=Fp
def R4(a:Nat)(b:Nat)(c:List Int) :T ((Empty)⊕(jF)) :=
  .leaf (.inr (.r0 a b c))
def dk(a:List Int) :Option jF:=ld (aC ((WN).run) fun _ =>
  aC (dM (I2 a) (0,0,0,([]:List Int))) fun (b,c,d) =>
  (R4 b c d).run)
theorem ak8(c:Lv)(b:List Int){x:jF}(h:dk b=some x) :aw prog pI [] [.imm c (.ns .u64 b) 1 1 0 (List.length b)] (OF x) :=
  Sg.contract true OF (by kernel_rfl:prog.funcs[pI]? = some (FN pI)) (by kernel_rfl:(FN pI).body=some (bi pI)) (Sg.cut 3 LQ (Sg.seg (C:=C0) an xV 60 (zU.take 3) (aT (FN pI) [] [.imm c (.ns .u64 b) 1 1 0 (List.length b)]) (WN) (WM c b) y4 [⟨[],[],[0,3,4]⟩] (by kernel_rfl)) (fun a=>by cases a;exact Sg.cut 1 LQ (Sg.pre ⟨[(.slot 3,.own 1 1 (.ns .u64 ([]:List Int)))],[0],[0,3,4]⟩ rfl (by kernel_rfl:NS.on ⟨[(.slot 3,.own 1 1 (.ns .u64 ([]:List Int)))],[0],[0,3,4]⟩ (WM c b ())=(vE c b) (0,0,0,([]:List Int))) (bU (I:=(vE c b)) (J:=(Fp)) (id:=0) (by kernel_rfl:((zU.drop 3).take 1) = [.block 0 (.loop (bK ((((zU.drop 3).take 1)).headD .skip)))]) LQ (ak6 _) (fun s=>by obtain ⟨g,i,j,k⟩:=s;exact ahC c b g i j k) (0,0,0,([]:List Int)))) (fun a=>by obtain ⟨d,e,f⟩:=a;exact Sg.seg (C:=C0) an xV 60 ((zU.drop 3).drop 1) (ak7 (d,e,f)) (R4 d e f) (fun a:Empty=>a.elim) y4 [⟨[],[0],[2]⟩] (by kernel_rfl))))
    (fun x=>by cases x with | r0 l m n=>exact ⟨.inr rfl,[.sl 0 1 1 0 l m],[],by kernel_rfl,trivial,by kernel_rfl⟩) h
def m7:Option jF→Bool
  | some _=>true
  | none=>false
def lR:Option jF→Nat
  | some (.r0 x _ _)=>x
  | _=>0
def OG:Option jF→Nat
  | some (.r0 _ x _)=>x
  | _=>0
def lS:Option jF→List Int
  | some (.r0 _ _ x)=>x
  | _=>[]
theorem ak9{x:Option jF}(h:m7 x=true) :x=some (.r0 (lR x) (OG x) (lS x)):=by
  unfold m7 at h
  split at h <;> first | rfl | (cases h;done) | (rename_i y;cases y;rfl)
def abn:aJ:=bW pI (.cons (.ns .u64) .nil) fun t=>[⟨OF (.r0 (lR (dk t.1.2)) (OG (dk t.1.2)) (lS (dk t.1.2))),[m7 (dk t.1.2)]⟩]
theorem aft:aU prog abn:=aO fun t=>(aP (fun h=>ak8 t.1.1 t.1.2 (ak9 h)) aW)
def abo:List aJ:=abn :: WL
theorem OH:aY prog (bb abo):=au aft xV
inductive nu where
  | r0 (a:Int)
def ahD:nu→AE×aL
  | .r0 a=>(.ret,⟨ah 13 [(4,.int .u64 a)],[],0⟩)
def I3:nu→jc
  | .r0 a=>⟨.int .u64 a,[]⟩
def afu:List Code:=bJ (bi lD)
def GC(a:List Int)(b:Int) :T ((Empty)⊕(nu)) :=
  .ask (decide (b < (((List.length a):Nat):Int)))
    (.need (iS b (List.length a))<|.need (jC (Int.toNat b) (List.length a))<|.leaf (.inr (.r0 (List.getD a (Int.toNat b) 0))))
    (.leaf (.inr (.r0 (0:Int))))
def eC(a:List Int)(b:Int) :Option nu:=ld ((GC a b).run)
theorem afv(d:Lv)(b:List Int)(c:Int){x:nu}(h:eC b c=some x) :aw prog lD [] [.imm d (.ns .u64 b) 1 1 0 (List.length b),.int .i64 c] (I3 x) :=
  Sg.contract true I3 (by kernel_rfl:prog.funcs[lD]? = some (FN lD)) (by kernel_rfl:(FN lD).body=some (bi lD)) (Sg.seg (C:=C0) an OH 60 afu (aT (FN lD) [] [.imm d (.ns .u64 b) 1 1 0 (List.length b),.int .i64 c]) (GC b c) (fun a:Empty=>a.elim) ahD [⟨[],[],[4]⟩,⟨[],[],[4]⟩] (by kernel_rfl))
    (fun x=>by cases x with | r0 e=>exact ⟨.inr rfl,[.int .u64 e],[],by kernel_rfl,trivial,by kernel_rfl⟩) h
def lT:Option nu→Bool
  | some _=>true
  | none=>false
def d5:Option nu→Int
  | some (.r0 x)=>x
  | _=>0
theorem afw{x:Option nu}(h:lT x=true) :x=some (.r0 (d5 x)):=by
  unfold lT at h
  split at h <;> first | rfl | (cases h;done) | (rename_i y;cases y;rfl)
def R5:aJ:=bW lD (.cons (.ns .u64) (.cons (.int .i64) .nil)) fun t=>[⟨I3 (.r0 (d5 (eC t.1.2 t.2.1))),[lT (eC t.1.2 t.2.1)]⟩]
theorem Zx:aU prog R5:=aO fun t=>(aP (fun h=>afv t.1.1 t.1.2 t.2.1 (afw h)) aW)
def R6:List aJ:=R5 :: abo
theorem n6:aY prog (bb R6):=au Zx OH
inductive gv where
  | r0 (a:List Int) (b:Nat)
def pR:gv→AE×aL
  | .r0 a b=>(.ret,⟨ah 35 [(2,.imm .free (.ns .u64 a) 1 1 0 b)],[],0⟩)
theorem wM:kR pR:=by intro x;cases x <;> (intro h;cases h)
theorem ahE(id:Nat) :qE id pR:=by intro x;cases x <;> (intro h;cases h)
def LR:gv→jc
  | .r0 a b=>⟨.imm .free (.ns .u64 a) 1 1 0 b,[]⟩
def qV:List Code:=bJ (bi mU)
def R7(b:Lv)(a:List Int)(_:Unit) :aL:=⟨ah 35 [(0,.imm b (.ns .u64 a) 1 1 0 (List.length a)),(3,.nsl),(4,.int .i64 (0:Int))],[],0⟩
def OI:T ((Unit)⊕(gv)) :=
  .leaf (.inl ())
def ti(b:Lv)(a:List Int) :Nat×Nat×Nat×(List Int)→aL:=fun (c,d,e,f)=>⟨ah 35 [(0,.imm b (.ns .u64 a) 1 1 0 (List.length a)),(3,.sl 0 1 1 0 c d),(4,.int .i64 ((e:Nat):Int))],[(0,.ns .u64 f)],1⟩
def wN:Nat×Nat×(List Int)→aL:=fun (a,b,c)=>⟨ah 35 [(3,.sl 0 1 1 0 a b)],[(0,.ns .u64 c)],1⟩
def GD:List Code:=bJ (bK ((((qV.drop 3).take 1)).headD .skip))
def R8(c:Lv)(a:List Int)(d:Nat) :Nat×(List Int)→aL:=fun (b,e)=>⟨ah 35 [(0,.imm c (.ns .u64 a) 1 1 0 (List.length a)),(3,.sl 0 1 1 0 b b),(4,.int .i64 ((d:Nat):Int))],[(0,.ns .u64 e)],1⟩
def uu(b:List Int)(c:Nat)(e:Nat)(a:Nat)(d:List Int) :T ((Nat×(List Int))⊕((Nat×Nat×(List Int))⊕(gv))) :=
  .ask (decide (((a:Nat):Int) < (((List.length b):Nat):Int)))
    (.need (iS ((a:Nat):Int) (List.length b))<|.need (jC a (List.length b))<|.need (d8 .i64 (((a+1):Nat):Int))<|.ask (decide ((((a+1):Nat):Int) < (((List.length b):Nat):Int)))
      (.need (d8 .i64 (((a+1):Nat):Int))<|.need (iS (((a+1):Nat):Int) (List.length b))<|.need (jC (a+1) (List.length b))<|.need (tZ ((c+1) * 8) 140737488355328)<|.need (tZ (c+1) 9223372036854775807)<|.need (tZ 1 (List.length [(IntKind.u64.wrap ((List.getD b a 0)+(IntKind.u64.wrap ((List.getD b (a+1) 0) * (4294967296:Int)))))]))<|.need (tZ c (List.length d))<|.leaf (.inl ((c+1),((List.take c d) ++ (List.take 1 [(IntKind.u64.wrap ((List.getD b a 0)+(IntKind.u64.wrap ((List.getD b (a+1) 0) * (4294967296:Int)))))])))))
      (.need (tZ ((c+1) * 8) 140737488355328)<|.need (tZ (c+1) 9223372036854775807)<|.need (tZ 1 (List.length [(List.getD b a 0)]))<|.need (tZ c (List.length d))<|.leaf (.inl ((c+1),((List.take c d) ++ (List.take 1 [(List.getD b a 0)]))))))
    (.leaf (.inr (.inl (c,e,d))))
def OJ(a:Nat)(b:Nat)(c:List Int) :T ((Nat×Nat×Nat×(List Int))⊕((Nat×Nat×(List Int))⊕(gv))) :=
  .need (d8 .i64 (((a+2):Nat):Int))<|.leaf (.inl (b,b,(a+2),c))
def GE(b:List Int) :Nat×Nat×Nat×(List Int)→Option ((Nat×Nat×Nat×(List Int))⊕((Nat×Nat×(List Int))⊕(gv))):=fun (c,d,a,e) =>
  aC ((uu b c d a e).run) fun (f,g) =>
  (OJ a f g).run
theorem afx(d:Lv)(b:List Int)(e:Nat)(f:Nat)(c:Nat)(g:List Int) :Sg prog [] GD (ti d b (e,f,c,g)) (GE b (e,f,c,g)) (ti d b) (aN 0 wN pR):=by
  unfold GE;exact Sg.cut 3 (aI wM) (Sg.seg (C:=C0) an n6 60 (GD.take 3) (ti d b (e,f,c,g)) (uu b e f c g) (R8 d b c) (aN 0 wN pR) [⟨[],[417],[0,3,4]⟩,⟨[],[273],[0,3,4]⟩,⟨[],[0],[3]⟩] (by kernel_rfl)) (fun a=>by obtain ⟨h,i⟩:=a;exact Sg.seg (C:=C0) an n6 60 (GD.drop 3) (R8 d b c (h,i)) (OJ c h i) (ti d b) (aN 0 wN pR) [⟨[],[0],[0,3,4]⟩] (by kernel_rfl))
def ahF:Nat×Nat×(List Int)→aL:=wN
def OK:(List Int)×Nat→aL:=fun (a,b)=>⟨ah 35 [(2,.imm .free (.ns .u64 a) 1 1 0 b)],[],0⟩
def zV(a:Nat)(b:List Int) :T (((List Int)×Nat)⊕(gv)) :=
  .need (aQ 0 a b)<|.need (lI (cQ (aa 0 a b)))<|.leaf (.inl ((kC (cQ (aa 0 a b))),(kB (cQ (aa 0 a b)))))
def OL(a:List Int)(b:Nat) :T ((Empty)⊕(gv)) :=
  .leaf (.inr (.r0 a b))
def gw(a:List Int) :Option gv:=ld (aC ((OI).run) fun _ =>
  aC (dM (GE a) (0,0,0,([]:List Int))) fun (b,f,c) =>
  aC ((zV b c).run) fun (d,e) =>
  (OL d e).run)
theorem ahG(c:Lv)(b:List Int){x:gv}(h:gw b=some x) :aw prog mU [] [.imm c (.ns .u64 b) 1 1 0 (List.length b)] (LR x) :=
  Sg.contract true LR (by kernel_rfl:prog.funcs[mU]? = some (FN mU)) (by kernel_rfl:(FN mU).body=some (bi mU)) (Sg.cut 3 wM (Sg.seg (C:=C0) an n6 60 (qV.take 3) (aT (FN mU) [] [.imm c (.ns .u64 b) 1 1 0 (List.length b)]) (OI) (R7 c b) pR [⟨[],[],[0,3,4]⟩] (by kernel_rfl)) (fun a=>by cases a;exact Sg.cut 1 wM (Sg.pre ⟨[(.slot 3,.own 1 1 (.ns .u64 ([]:List Int)))],[0],[0,3,4]⟩ rfl (by kernel_rfl:NS.on ⟨[(.slot 3,.own 1 1 (.ns .u64 ([]:List Int)))],[0],[0,3,4]⟩ (R7 c b ())=(ti c b) (0,0,0,([]:List Int))) (bU (I:=(ti c b)) (J:=(wN)) (id:=0) (by kernel_rfl:((qV.drop 3).take 1) = [.block 0 (.loop (bK ((((qV.drop 3).take 1)).headD .skip)))]) wM (ahE _) (fun s=>by obtain ⟨i,j,k,l⟩:=s;exact afx c b i j k l) (0,0,0,([]:List Int)))) (fun a=>by obtain ⟨d,m,e⟩:=a;exact Sg.cut 1 wM (Sg.seg (C:=C0) an n6 60 (((qV.drop 3).drop 1).take 1) (ahF (d,m,e)) (zV d e) OK pR [⟨[],[],[2]⟩] (by kernel_rfl)) (fun a=>by obtain ⟨f,g⟩:=a;exact Sg.seg (C:=C0) an n6 60 (((qV.drop 3).drop 1).drop 1) (OK (f,g)) (OL f g) (fun a:Empty=>a.elim) pR [⟨[],[],[2]⟩] (by kernel_rfl)))))
    (fun x=>by cases x with | r0 n o=>exact ⟨.inr rfl,[.imm .free (.ns .u64 n) 1 1 0 o],[],by kernel_rfl,trivial,by kernel_rfl⟩) h
def tj:Option gv→Bool
  | some _=>true
  | none=>false
def sJ:Option gv→List Int
  | some (.r0 x _)=>x
  | _=>[]
def sK:Option gv→Nat
  | some (.r0 _ x)=>x
  | _=>0
theorem ahH{x:Option gv}(h:tj x=true) :x=some (.r0 (sJ x) (sK x)):=by
  unfold tj at h
  split at h <;> first | rfl | (cases h;done) | (rename_i y;cases y;rfl)
def WP:aJ:=bW mU (.cons (.ns .u64) .nil) fun t=>[⟨LR (.r0 (sJ (gw t.1.2)) (sK (gw t.1.2))),[tj (gw t.1.2)]⟩]
theorem acE:aU prog WP:=aO fun t=>(aP (fun h=>ahG t.1.1 t.1.2 (ahH h)) aW)
def WQ:List aJ:=WP :: R6
theorem kD:aY prog (bb WQ):=au acE n6
end
end Go.Plb.Seat
namespace Go.Plb.Seat
open Go Go.Plb
set_option linter.unusedVariables false
set_option maxRecDepth 100000
noncomputable section
inductive gk where
  | r0 (a:List Int) (b:Nat)
def nv:gk→AE×aL
  | .r0 a b=>(.ret,⟨ah 48 [(4,.imm .free (.ns .u64 a) 1 1 0 b)],[],0⟩)
theorem sb:kR nv:=by intro x;cases x <;> (intro h;cases h)
theorem ala(id:Nat) :qE id nv:=by intro x;cases x <;> (intro h;cases h)
def OM:gk→jc
  | .r0 a b=>⟨.imm .free (.ns .u64 a) 1 1 0 b,[]⟩
def qn:List Code:=bJ (bi pz)
def WR:(List Int)×Nat×(List Int)×Nat→aL:=fun (a,b,c,d)=>⟨ah 48 [(5,.imm .free (.ns .u64 a) 1 1 0 b),(6,.imm .free (.ns .u64 c) 1 1 0 d)],[],0⟩
def I4(a:List Int)(b:List Int) :T (((List Int)×Nat×(List Int)×Nat)⊕(gk)) :=
  .need (aQ 0 (List.length a) a)<|.need (m7 (dk (aa 0 (List.length a) a)))<|.need (aQ 0 (List.length b) b)<|.need (m7 (dk (aa 0 (List.length b) b)))<|.leaf (.inl ((lS (dk (aa 0 (List.length a) a))),(lR (dk (aa 0 (List.length a) a))),(lS (dk (aa 0 (List.length b) b))),(lR (dk (aa 0 (List.length b) b)))))
def WS(a:List Int)(b:Nat)(c:List Int)(d:Nat)(_:Unit) :aL:=⟨ah 48 [(5,.imm .free (.ns .u64 a) 1 1 0 b),(6,.imm .free (.ns .u64 c) 1 1 0 d),(7,.nsl),(8,.int .u64 (0:Int)),(9,.int .i64 (0:Int))],[],0⟩
def R9:T ((Unit)⊕(gk)) :=
  .leaf (.inl ())
def tk(a:List Int)(b:Nat)(c:List Int)(d:Nat) :Nat×Nat×Int×Nat×(List Int)→aL:=fun (e,f,g,h,i)=>⟨ah 48 [(5,.imm .free (.ns .u64 a) 1 1 0 b),(6,.imm .free (.ns .u64 c) 1 1 0 d),(7,.sl 0 1 1 0 e f),(8,.int .u64 g),(9,.int .i64 ((h:Nat):Int))],[(0,.ns .u64 i)],1⟩
def tl:Nat×Nat×Int×(List Int)→aL:=fun (a,b,c,d)=>⟨ah 48 [(7,.sl 0 1 1 0 a b),(8,.int .u64 c)],[(0,.ns .u64 d)],1⟩
def Cx:List Code:=bJ (bK (((((qn.drop 2).drop 3).take 1)).headD .skip))
def Sa(a:List Int)(b:Nat)(c:List Int)(d:Nat)(e:Nat)(f:Nat)(g:Int)(h:Nat)(i:List Int)(j:Bool) :aL:=⟨ah 48 [(5,.imm .free (.ns .u64 a) 1 1 0 b),(6,.imm .free (.ns .u64 c) 1 1 0 d),(7,.sl 0 1 1 0 e f),(8,.int .u64 g),(9,.int .i64 ((h:Nat):Int)),(24,.bool false j)],[(0,.ns .u64 i)],1⟩
def tm(b:Nat)(c:Nat)(a:Nat) :T ((Bool)⊕((Nat×Nat×Int×(List Int))⊕(gk))) :=
  .ask (decide (((a:Nat):Int) < ((b:Nat):Int)))
    (.leaf (.inl true))
    (.leaf (.inl (decide (((a:Nat):Int) < ((c:Nat):Int)))))
def Sb(b:List Int)(c:Nat)(d:List Int)(e:Nat)(f:Nat) :Nat×Int×(List Int)→aL:=fun (a,g,h)=>⟨ah 48 [(5,.imm .free (.ns .u64 b) 1 1 0 c),(6,.imm .free (.ns .u64 d) 1 1 0 e),(7,.sl 0 1 1 0 a a),(8,.int .u64 g),(9,.int .i64 ((f:Nat):Int))],[(0,.ns .u64 h)],1⟩
def Cy(c:List Int)(d:Nat)(e:List Int)(f:Nat)(b:Nat)(i:Nat)(g:Int)(a:Nat)(h:List Int)(j:Bool) :T ((Nat×Int×(List Int))⊕((Nat×Nat×Int×(List Int))⊕(gk))) :=
  .ask j
    (.need (aQ 0 d c)<|.need (lT (eC (aa 0 d c) ((a:Nat):Int)))<|.need (aQ 0 f e)<|.need (lT (eC (aa 0 f e) ((a:Nat):Int)))<|.need ((4294967296:Int) != (0:Int))<|.need (tZ ((b+1) * 8) 140737488355328)<|.need (tZ (b+1) 9223372036854775807)<|.need (tZ 1 (List.length [(Int.tmod (IntKind.u64.wrap ((IntKind.u64.wrap ((d5 (eC (aa 0 d c) ((a:Nat):Int)))+(d5 (eC (aa 0 f e) ((a:Nat):Int)))))+g)) (4294967296:Int))]))<|.need (tZ b (List.length h))<|.need ((4294967296:Int) != (0:Int))<|.leaf (.inl ((b+1),(IntKind.u64.wrap (Int.tdiv (IntKind.u64.wrap ((IntKind.u64.wrap ((d5 (eC (aa 0 d c) ((a:Nat):Int)))+(d5 (eC (aa 0 f e) ((a:Nat):Int)))))+g)) (4294967296:Int))),((List.take b h) ++ (List.take 1 [(Int.tmod (IntKind.u64.wrap ((IntKind.u64.wrap ((d5 (eC (aa 0 d c) ((a:Nat):Int)))+(d5 (eC (aa 0 f e) ((a:Nat):Int)))))+g)) (4294967296:Int))])))))
    (.leaf (.inr (.inl (b,i,g,h))))
def Sc(a:Nat)(b:Nat)(c:Int)(d:List Int) :T ((Nat×Nat×Int×Nat×(List Int))⊕((Nat×Nat×Int×(List Int))⊕(gk))) :=
  .need (d8 .i64 (((a+1):Nat):Int))<|.leaf (.inl (b,b,c,(a+1),d))
def I5(d:List Int)(b:Nat)(e:List Int)(c:Nat) :Nat×Nat×Int×Nat×(List Int)→Option ((Nat×Nat×Int×Nat×(List Int))⊕((Nat×Nat×Int×(List Int))⊕(gk))):=fun (f,g,h,a,i) =>
  aC ((tm b c a).run) fun j =>
  aC ((Cy d b e c f g h a i j).run) fun (k,l,m) =>
  (Sc a k l m).run
theorem ahI(d:List Int)(b:Nat)(e:List Int)(c:Nat)(g:Nat)(h:Nat)(i:Int)(f:Nat)(j:List Int) :Sg prog [] Cx (tk d b e c (g,h,i,f,j)) (I5 d b e c (g,h,i,f,j)) (tk d b e c) (aN 0 tl nv):=by
  unfold I5;exact Sg.cut 1 (aI sb) (Sg.seg (C:=C0) an kD 60 (Cx.take 1) (tk d b e c (g,h,i,f,j)) (tm b c f) (Sa d b e c g h i f j) (aN 0 tl nv) [⟨[],[0],[5,6,7,8,9,24]⟩,⟨[],[0],[5,6,7,8,9,24]⟩] (by kernel_rfl)) (fun k=>by exact Sg.cut 2 (aI sb) (Sg.seg (C:=C0) an kD 60 ((Cx.drop 1).take 2) (Sa d b e c g h i f j k) (Cy d b e c g h i f j k) (Sb d b e c f) (aN 0 tl nv) [⟨[],[225],[5,6,7,8,9]⟩,⟨[],[0],[7,8]⟩] (by kernel_rfl)) (fun a=>by obtain ⟨l,m,n⟩:=a;exact Sg.seg (C:=C0) an kD 60 ((Cx.drop 1).drop 2) (Sb d b e c f (l,m,n)) (Sc f l m n) (tk d b e c) (aN 0 tl nv) [⟨[],[0],[5,6,7,8,9]⟩] (by kernel_rfl)))
def ahJ:Nat×Nat×Int×(List Int)→aL:=tl
def Sd:(List Int)×Nat→aL:=fun (a,b)=>⟨ah 48 [(4,.imm .free (.ns .u64 a) 1 1 0 b)],[],0⟩
def Cz(a:Nat)(b:Int)(c:List Int) :T (((List Int)×Nat)⊕(gk)) :=
  .need (tZ ((a+1) * 8) 140737488355328)<|.need (tZ (a+1) 9223372036854775807)<|.need (tZ 1 (List.length [b]))<|.need (tZ a (List.length c))<|.need (aQ 0 (a+1) ((List.take a c) ++ (List.take 1 [b])))<|.need (tj (gw (aa 0 (a+1) ((List.take a c) ++ (List.take 1 [b])))))<|.leaf (.inl ((sJ (gw (aa 0 (a+1) ((List.take a c) ++ (List.take 1 [b]))))),(sK (gw (aa 0 (a+1) ((List.take a c) ++ (List.take 1 [b])))))))
def Se(a:List Int)(b:Nat) :T ((Empty)⊕(gk)) :=
  .leaf (.inr (.r0 a b))
def eA(a:List Int)(b:List Int) :Option gk:=ld (aC ((I4 a b).run) fun (c,d,e,f) =>
  aC ((R9).run) fun _ =>
  aC (dM (I5 c d e f) (0,0,(0:Int),0,([]:List Int))) fun (g,l,h,i) =>
  aC ((Cz g h i).run) fun (j,k) =>
  (Se j k).run)
theorem alb(i:Lv)(b:List Int)(j:Lv)(c:List Int){x:gk}(h:eA b c=some x) :aw prog pz [] [.imm i (.ns .u64 b) 1 1 0 (List.length b),.imm j (.ns .u64 c) 1 1 0 (List.length c)] (OM x) :=
  Sg.contract true OM (by kernel_rfl:prog.funcs[pz]? = some (FN pz)) (by kernel_rfl:(FN pz).body=some (bi pz)) (Sg.cut 2 sb (Sg.seg (C:=C0) an kD 60 (qn.take 2) (aT (FN pz) [] [.imm i (.ns .u64 b) 1 1 0 (List.length b),.imm j (.ns .u64 c) 1 1 0 (List.length c)]) (I4 b c) WR nv [⟨[],[],[5,6]⟩] (by kernel_rfl)) (fun a=>by obtain ⟨d,e,f,g⟩:=a;exact Sg.cut 3 sb (Sg.seg (C:=C0) an kD 60 ((qn.drop 2).take 3) (WR (d,e,f,g)) (R9) (WS d e f g) nv [⟨[],[],[5,6,7,8,9]⟩] (by kernel_rfl)) (fun a=>by cases a;exact Sg.cut 1 sb (Sg.pre ⟨[(.slot 7,.own 1 1 (.ns .u64 ([]:List Int)))],[0],[5,6,7,8,9]⟩ rfl (by kernel_rfl:NS.on ⟨[(.slot 7,.own 1 1 (.ns .u64 ([]:List Int)))],[0],[5,6,7,8,9]⟩ (WS d e f g ())=(tk d e f g) (0,0,(0:Int),0,([]:List Int))) (bU (I:=(tk d e f g)) (J:=(tl)) (id:=0) (by kernel_rfl:(((qn.drop 2).drop 3).take 1) = [.block 0 (.loop (bK (((((qn.drop 2).drop 3).take 1)).headD .skip)))]) sb (ala _) (fun s=>by obtain ⟨p,q,r,t,u⟩:=s;exact ahI d e f g p q r t u) (0,0,(0:Int),0,([]:List Int)))) (fun a=>by obtain ⟨k,v,l,m⟩:=a;exact Sg.cut 1 sb (Sg.seg (C:=C0) an kD 60 ((((qn.drop 2).drop 3).drop 1).take 1) (ahJ (k,v,l,m)) (Cz k l m) Sd nv [⟨[],[],[4]⟩] (by kernel_rfl)) (fun a=>by obtain ⟨n,o⟩:=a;exact Sg.seg (C:=C0) an kD 60 ((((qn.drop 2).drop 3).drop 1).drop 1) (Sd (n,o)) (Se n o) (fun a:Empty=>a.elim) nv [⟨[],[],[4]⟩] (by kernel_rfl))))))
    (fun x=>by cases x with | r0 w y=>exact ⟨.inr rfl,[.imm .free (.ns .u64 w) 1 1 0 y],[],by kernel_rfl,trivial,by kernel_rfl⟩) h
def zW:Option gk→Bool
  | some _=>true
  | none=>false
def iY:Option gk→List Int
  | some (.r0 x _)=>x
  | _=>[]
def iZ:Option gk→Nat
  | some (.r0 _ x)=>x
  | _=>0
theorem alc{x:Option gk}(h:zW x=true) :x=some (.r0 (iY x) (iZ x)):=by
  unfold zW at h
  split at h <;> first | rfl | (cases h;done) | (rename_i y;cases y;rfl)
def abp:aJ:=bW pz (.cons (.ns .u64) (.cons (.ns .u64) .nil)) fun t=>[⟨OM (.r0 (iY (eA t.1.2 t.2.1.2)) (iZ (eA t.1.2 t.2.1.2))),[zW (eA t.1.2 t.2.1.2)]⟩]
theorem afy:aU prog abp:=aO fun t=>(aP (fun h=>alb t.1.1 t.1.2 t.2.1.1 t.2.1.2 (alc h)) aW)
def abq:List aJ:=abp :: WQ
theorem ol:aY prog (bb abq):=au afy kD
inductive gV where
  | r0 (a:List Int) (b:Nat)
def pS:gV→AE×aL
  | .r0 a b=>(.ret,⟨ah 42 [(4,.imm .free (.ns .u64 a) 1 1 0 b)],[],0⟩)
theorem vF:kR pS:=by intro x;cases x <;> (intro h;cases h)
theorem ald(id:Nat) :qE id pS:=by intro x;cases x <;> (intro h;cases h)
def ON:gV→jc
  | .r0 a b=>⟨.imm .free (.ns .u64 a) 1 1 0 b,[]⟩
def qo:List Code:=bJ (bi pB)
def WT:(List Int)×Nat×(List Int)×Nat→aL:=fun (a,b,c,d)=>⟨ah 42 [(5,.imm .free (.ns .u64 a) 1 1 0 b),(6,.imm .free (.ns .u64 c) 1 1 0 d)],[],0⟩
def I6(a:List Int)(b:List Int) :T (((List Int)×Nat×(List Int)×Nat)⊕(gV)) :=
  .need (aQ 0 (List.length a) a)<|.need (m7 (dk (aa 0 (List.length a) a)))<|.need (aQ 0 (List.length b) b)<|.need (m7 (dk (aa 0 (List.length b) b)))<|.leaf (.inl ((lS (dk (aa 0 (List.length a) a))),(lR (dk (aa 0 (List.length a) a))),(lS (dk (aa 0 (List.length b) b))),(lR (dk (aa 0 (List.length b) b)))))
def WU(a:List Int)(b:Nat)(c:List Int)(d:Nat)(_:Unit) :aL:=⟨ah 42 [(5,.imm .free (.ns .u64 a) 1 1 0 b),(6,.imm .free (.ns .u64 c) 1 1 0 d),(7,.nsl),(8,.int .u64 (0:Int)),(9,.int .i64 (0:Int))],[],0⟩
def Sf:T ((Unit)⊕(gV)) :=
  .leaf (.inl ())
def vG(a:List Int)(b:Nat)(c:List Int)(d:Nat) :Nat×Nat×Int×Nat×(List Int)→aL:=fun (e,f,g,h,i)=>⟨ah 42 [(5,.imm .free (.ns .u64 a) 1 1 0 b),(6,.imm .free (.ns .u64 c) 1 1 0 d),(7,.sl 0 1 1 0 e f),(8,.int .u64 g),(9,.int .i64 ((h:Nat):Int))],[(0,.ns .u64 i)],1⟩
def wO:Nat×Nat×(List Int)→aL:=fun (a,b,c)=>⟨ah 42 [(7,.sl 0 1 1 0 a b)],[(0,.ns .u64 c)],1⟩
def I7:List Code:=bJ (bK (((((qo.drop 2).drop 3).take 1)).headD .skip))
def Sh(b:List Int)(c:Nat)(d:List Int)(e:Nat)(f:Nat) :Nat×Int×(List Int)→aL:=fun (a,g,h)=>⟨ah 42 [(5,.imm .free (.ns .u64 b) 1 1 0 c),(6,.imm .free (.ns .u64 d) 1 1 0 e),(7,.sl 0 1 1 0 a a),(8,.int .u64 g),(9,.int .i64 ((f:Nat):Int))],[(0,.ns .u64 h)],1⟩
def wP(e:List Int)(h:Nat)(c:List Int)(d:Nat)(b:Nat)(i:Nat)(f:Int)(a:Nat)(g:List Int) :T ((Nat×Int×(List Int))⊕((Nat×Nat×(List Int))⊕(gV))) :=
  .ask (decide (((a:Nat):Int) < ((h:Nat):Int)))
    (.need (iS ((a:Nat):Int) h)<|.need (jC a (List.length e))<|.need (aQ 0 d c)<|.need (lT (eC (aa 0 d c) ((a:Nat):Int)))<|.need ((4294967296:Int) != (0:Int))<|.need (tZ ((b+1) * 8) 140737488355328)<|.need (tZ (b+1) 9223372036854775807)<|.need (tZ 1 (List.length [(Int.tmod (IntKind.u64.wrap ((IntKind.u64.wrap ((IntKind.u64.wrap ((4294967296:Int)+(List.getD e a 0))) - (d5 (eC (aa 0 d c) ((a:Nat):Int))))) - f)) (4294967296:Int))]))<|.need (tZ b (List.length g))<|.need ((4294967296:Int) != (0:Int))<|.leaf (.inl ((b+1),(IntKind.u64.wrap ((1:Int) - (IntKind.u64.wrap (Int.tdiv (IntKind.u64.wrap ((IntKind.u64.wrap ((IntKind.u64.wrap ((4294967296:Int)+(List.getD e a 0))) - (d5 (eC (aa 0 d c) ((a:Nat):Int))))) - f)) (4294967296:Int))))),((List.take b g) ++ (List.take 1 [(Int.tmod (IntKind.u64.wrap ((IntKind.u64.wrap ((IntKind.u64.wrap ((4294967296:Int)+(List.getD e a 0))) - (d5 (eC (aa 0 d c) ((a:Nat):Int))))) - f)) (4294967296:Int))])))))
    (.leaf (.inr (.inl (b,i,g))))
def Si(a:Nat)(b:Nat)(c:Int)(d:List Int) :T ((Nat×Nat×Int×Nat×(List Int))⊕((Nat×Nat×(List Int))⊕(gV))) :=
  .need (d8 .i64 (((a+1):Nat):Int))<|.leaf (.inl (b,b,c,(a+1),d))
def I8(b:List Int)(c:Nat)(d:List Int)(e:Nat) :Nat×Nat×Int×Nat×(List Int)→Option ((Nat×Nat×Int×Nat×(List Int))⊕((Nat×Nat×(List Int))⊕(gV))):=fun (f,g,h,a,i) =>
  aC ((wP b c d e f g h a i).run) fun (j,k,l) =>
  (Si a j k l).run
theorem ahK(b:List Int)(c:Nat)(d:List Int)(e:Nat)(g:Nat)(h:Nat)(i:Int)(f:Nat)(j:List Int) :Sg prog [] I7 (vG b c d e (g,h,i,f,j)) (I8 b c d e (g,h,i,f,j)) (vG b c d e) (aN 0 wO pS):=by
  unfold I8;exact Sg.cut 3 (aI vF) (Sg.seg (C:=C0) an ol 60 (I7.take 3) (vG b c d e (g,h,i,f,j)) (wP b c d e g h i f j) (Sh b c d e f) (aN 0 wO pS) [⟨[],[321],[5,6,7,8,9]⟩,⟨[],[0],[7]⟩] (by kernel_rfl)) (fun a=>by obtain ⟨k,l,m⟩:=a;exact Sg.seg (C:=C0) an ol 60 (I7.drop 3) (Sh b c d e f (k,l,m)) (Si f k l m) (vG b c d e) (aN 0 wO pS) [⟨[],[0],[5,6,7,8,9]⟩] (by kernel_rfl))
def ahL:Nat×Nat×(List Int)→aL:=wO
def Sj:(List Int)×Nat→aL:=fun (a,b)=>⟨ah 42 [(4,.imm .free (.ns .u64 a) 1 1 0 b)],[],0⟩
def CA(a:Nat)(b:List Int) :T (((List Int)×Nat)⊕(gV)) :=
  .need (aQ 0 a b)<|.need (tj (gw (aa 0 a b)))<|.leaf (.inl ((sJ (gw (aa 0 a b))),(sK (gw (aa 0 a b)))))
def Sk(a:List Int)(b:Nat) :T ((Empty)⊕(gV)) :=
  .leaf (.inr (.r0 a b))
def bT(a:List Int)(b:List Int) :Option gV:=ld (aC ((I6 a b).run) fun (c,d,e,f) =>
  aC ((Sf).run) fun _ =>
  aC (dM (I8 c d e f) (0,0,(0:Int),0,([]:List Int))) fun (g,k,h) =>
  aC ((CA g h).run) fun (i,j) =>
  (Sk i j).run)
theorem ale(i:Lv)(b:List Int)(j:Lv)(c:List Int){x:gV}(h:bT b c=some x) :aw prog pB [] [.imm i (.ns .u64 b) 1 1 0 (List.length b),.imm j (.ns .u64 c) 1 1 0 (List.length c)] (ON x) :=
  Sg.contract true ON (by kernel_rfl:prog.funcs[pB]? = some (FN pB)) (by kernel_rfl:(FN pB).body=some (bi pB)) (Sg.cut 2 vF (Sg.seg (C:=C0) an ol 60 (qo.take 2) (aT (FN pB) [] [.imm i (.ns .u64 b) 1 1 0 (List.length b),.imm j (.ns .u64 c) 1 1 0 (List.length c)]) (I6 b c) WT pS [⟨[],[],[5,6]⟩] (by kernel_rfl)) (fun a=>by obtain ⟨d,e,f,g⟩:=a;exact Sg.cut 3 vF (Sg.seg (C:=C0) an ol 60 ((qo.drop 2).take 3) (WT (d,e,f,g)) (Sf) (WU d e f g) pS [⟨[],[],[5,6,7,8,9]⟩] (by kernel_rfl)) (fun a=>by cases a;exact Sg.cut 1 vF (Sg.pre ⟨[(.slot 7,.own 1 1 (.ns .u64 ([]:List Int)))],[0],[5,6,7,8,9]⟩ rfl (by kernel_rfl:NS.on ⟨[(.slot 7,.own 1 1 (.ns .u64 ([]:List Int)))],[0],[5,6,7,8,9]⟩ (WU d e f g ())=(vG d e f g) (0,0,(0:Int),0,([]:List Int))) (bU (I:=(vG d e f g)) (J:=(wO)) (id:=0) (by kernel_rfl:(((qo.drop 2).drop 3).take 1) = [.block 0 (.loop (bK (((((qo.drop 2).drop 3).take 1)).headD .skip)))]) vF (ald _) (fun s=>by obtain ⟨o,p,q,r,t⟩:=s;exact ahK d e f g o p q r t) (0,0,(0:Int),0,([]:List Int)))) (fun a=>by obtain ⟨k,u,l⟩:=a;exact Sg.cut 1 vF (Sg.seg (C:=C0) an ol 60 ((((qo.drop 2).drop 3).drop 1).take 1) (ahL (k,u,l)) (CA k l) Sj pS [⟨[],[],[4]⟩] (by kernel_rfl)) (fun a=>by obtain ⟨m,n⟩:=a;exact Sg.seg (C:=C0) an ol 60 ((((qo.drop 2).drop 3).drop 1).drop 1) (Sj (m,n)) (Sk m n) (fun a:Empty=>a.elim) pS [⟨[],[],[4]⟩] (by kernel_rfl))))))
    (fun x=>by cases x with | r0 v w=>exact ⟨.inr rfl,[.imm .free (.ns .u64 v) 1 1 0 w],[],by kernel_rfl,trivial,by kernel_rfl⟩) h
def sc:Option gV→Bool
  | some _=>true
  | none=>false
def dg:Option gV→List Int
  | some (.r0 x _)=>x
  | _=>[]
def dh:Option gV→Nat
  | some (.r0 _ x)=>x
  | _=>0
theorem alf{x:Option gV}(h:sc x=true) :x=some (.r0 (dg x) (dh x)):=by
  unfold sc at h
  split at h <;> first | rfl | (cases h;done) | (rename_i y;cases y;rfl)
def abr:aJ:=bW pB (.cons (.ns .u64) (.cons (.ns .u64) .nil)) fun t=>[⟨ON (.r0 (dg (bT t.1.2 t.2.1.2)) (dh (bT t.1.2 t.2.1.2))),[sc (bT t.1.2 t.2.1.2)]⟩]
theorem afz:aU prog abr:=aO fun t=>(aP (fun h=>ale t.1.1 t.1.2 t.2.1.1 t.2.1.2 (alf h)) aW)
def abt:List aJ:=abr :: abq
theorem i0:aY prog (bb abt):=au afz ol
inductive eO where
  | r0 (a:List Int) (b:Nat)
def jG:eO→AE×aL
  | .r0 a b=>(.ret,⟨ah 71 [(4,.imm .free (.ns .u64 a) 1 1 0 b)],[],0⟩)
theorem j4:kR jG:=by intro x;cases x <;> (intro h;cases h)
theorem LS(id:Nat) :qE id jG:=by intro x;cases x <;> (intro h;cases h)
def OO:eO→jc
  | .r0 a b=>⟨.imm .free (.ns .u64 a) 1 1 0 b,[]⟩
def qp:List Code:=bJ (bi pC)
def WV:(List Int)×Nat×(List Int)×Nat→aL:=fun (a,b,c,d)=>⟨ah 71 [(5,.imm .free (.ns .u64 a) 1 1 0 b),(6,.imm .free (.ns .u64 c) 1 1 0 d)],[],0⟩
def I9(a:List Int)(b:List Int) :T (((List Int)×Nat×(List Int)×Nat)⊕(eO)) :=
  .need (aQ 0 (List.length a) a)<|.need (m7 (dk (aa 0 (List.length a) a)))<|.need (aQ 0 (List.length b) b)<|.need (m7 (dk (aa 0 (List.length b) b)))<|.leaf (.inl ((lS (dk (aa 0 (List.length a) a))),(lR (dk (aa 0 (List.length a) a))),(lS (dk (aa 0 (List.length b) b))),(lR (dk (aa 0 (List.length b) b)))))
def WW(b:List Int)(c:Nat)(d:List Int)(e:Nat) :Nat×(List Int)→aL:=fun (a,f)=>⟨ah 71 [(5,.imm .free (.ns .u64 b) 1 1 0 c),(6,.imm .free (.ns .u64 d) 1 1 0 e),(7,.sl 0 1 1 0 a a),(8,.int .i64 (0:Int))],[(0,.ns .u64 f)],1⟩
def CB(a:Nat)(b:Nat) :T ((Nat×(List Int))⊕(eO)) :=
  .need (d8 .i64 (((a+b):Nat):Int))<|.need (d8 .i64 ((((a+b)+1):Nat):Int))<|.need (decide ((0:Int)≤((((a+b)+1):Nat):Int)))<|.need (decide (((((a+b)+1):Nat):Int)≤((((a+b)+1):Nat):Int)))<|.need (decide ((8:Int) * ((((a+b)+1):Nat):Int)≤140737488355328))<|.need (d8 .i64 ((((a+b)+1):Nat):Int))<|.leaf (.inl (((a+b)+1),(List.replicate ((a+b)+1) (0:Int))))
def tn(b:List Int)(c:Nat)(d:List Int)(e:Nat)(a:Nat) :Nat×(List Int)→aL:=fun (f,g)=>⟨ah 71 [(5,.imm .free (.ns .u64 b) 1 1 0 c),(6,.imm .free (.ns .u64 d) 1 1 0 e),(7,.sl 0 1 1 0 a a),(8,.int .i64 ((f:Nat):Int))],[(0,.ns .u64 g)],1⟩
def lJ(a:Nat)(b:(List Int)) :aL:=⟨ah 71 [(7,.sl 0 1 1 0 a a)],[(0,.ns .u64 b)],1⟩
def tp:List Code:=bJ (bK (((((qp.drop 2).drop 2).take 1)).headD .skip))
def Sl(b:List Int)(c:Nat)(d:List Int)(e:Nat)(a:Nat)(f:Nat)(g:List Int)(_:Unit) :aL:=⟨ah 71 [(5,.imm .free (.ns .u64 b) 1 1 0 c),(6,.imm .free (.ns .u64 d) 1 1 0 e),(7,.sl 0 1 1 0 a a),(8,.int .i64 ((f:Nat):Int))],[(0,.ns .u64 g)],1⟩
def CC(a:Nat)(b:Nat)(c:List Int) :T ((Unit)⊕(((List Int))⊕(eO))) :=
  .ask (decide (((b:Nat):Int) < ((a:Nat):Int)))
    (.leaf (.inl ()))
    (.leaf (.inr (.inl c)))
def qq(b:List Int)(c:Nat)(d:List Int)(e:Nat)(a:Nat)(f:Nat)(g:(List Int)) :aL:=⟨ah 71 [(5,.imm .free (.ns .u64 b) 1 1 0 c),(6,.imm .free (.ns .u64 d) 1 1 0 e),(7,.sl 0 1 1 0 a a),(8,.int .i64 ((f:Nat):Int))],[(0,.ns .u64 g)],1⟩
def wQ:List Code:=bJ (inBlock ((((tp.drop 2).take 1)).headD .skip))
def Sn(b:List Int)(c:Nat)(d:List Int)(e:Nat)(a:Nat)(f:Nat)(g:List Int)(_:Unit) :aL:=⟨ah 71 [(5,.imm .free (.ns .u64 b) 1 1 0 c),(6,.imm .free (.ns .u64 d) 1 1 0 e),(7,.sl 0 1 1 0 a a),(8,.int .i64 ((f:Nat):Int)),(9,.int .u64 (0:Int)),(10,.int .i64 (0:Int))],[(0,.ns .u64 g)],1⟩
def So:T ((Unit)⊕(((List Int))⊕(((List Int))⊕(eO)))) :=
  .leaf (.inl ())
def tq(b:List Int)(c:Nat)(d:List Int)(e:Nat)(a:Nat)(f:Nat) :Int×Nat×(List Int)→aL:=fun (g,h,i)=>⟨ah 71 [(5,.imm .free (.ns .u64 b) 1 1 0 c),(6,.imm .free (.ns .u64 d) 1 1 0 e),(7,.sl 0 1 1 0 a a),(8,.int .i64 ((f:Nat):Int)),(9,.int .u64 g),(10,.int .i64 ((h:Nat):Int))],[(0,.ns .u64 i)],1⟩
def CD(b:List Int)(c:Nat)(d:List Int)(e:Nat)(a:Nat)(f:Nat) :Int×(List Int)→aL:=fun (g,h)=>⟨ah 71 [(5,.imm .free (.ns .u64 b) 1 1 0 c),(6,.imm .free (.ns .u64 d) 1 1 0 e),(7,.sl 0 1 1 0 a a),(8,.int .i64 ((f:Nat):Int)),(9,.int .u64 g)],[(0,.ns .u64 h)],1⟩
def Sp:List Code:=bJ (bK ((((wQ.drop 2).take 1)).headD .skip))
def wR(d:List Int)(i:Nat)(e:List Int)(g:Nat)(h:Nat)(b:Nat)(f:Int)(a:Nat)(c:List Int) :T ((Int×Nat×(List Int))⊕((Int×(List Int))⊕(((List Int))⊕(((List Int))⊕(eO))))) :=
  .ask (decide (((a:Nat):Int) < ((g:Nat):Int)))
    (.need (d8 .i64 (((b+a):Nat):Int))<|.need (iS (((b+a):Nat):Int) h)<|.need (jC (b+a) (List.length c))<|.need (iS ((b:Nat):Int) i)<|.need (jC b (List.length d))<|.need (iS ((a:Nat):Int) g)<|.need (jC a (List.length e))<|.need (d8 .i64 (((b+a):Nat):Int))<|.need ((4294967296:Int) != (0:Int))<|.need (iS (((b+a):Nat):Int) h)<|.need (jC (b+a) (List.length c))<|.need ((4294967296:Int) != (0:Int))<|.need (d8 .i64 (((a+1):Nat):Int))<|.leaf (.inl ((IntKind.u64.wrap (Int.tdiv (IntKind.u64.wrap ((IntKind.u64.wrap ((List.getD c (b+a) 0)+(IntKind.u64.wrap ((List.getD d b 0) * (List.getD e a 0)))))+f)) (4294967296:Int))),(a+1),(List.set c (b+a) (Int.tmod (IntKind.u64.wrap ((IntKind.u64.wrap ((List.getD c (b+a) 0)+(IntKind.u64.wrap ((List.getD d b 0) * (List.getD e a 0)))))+f)) (4294967296:Int))))))
    (.leaf (.inr (.inl (f,c))))
def Ja(a:List Int)(b:Nat)(c:List Int)(d:Nat)(e:Nat)(f:Nat) :Int×Nat×(List Int)→Option ((Int×Nat×(List Int))⊕((Int×(List Int))⊕(((List Int))⊕(((List Int))⊕(eO))))):=fun (g,h,i) =>
  (wR a b c d e f g h i).run
theorem ahM(b:List Int)(c:Nat)(d:List Int)(e:Nat)(a:Nat)(f:Nat)(g:Int)(h:Nat)(i:List Int) :Sg prog [] Sp (tq b c d e a f (g,h,i)) (Ja b c d e a f (g,h,i)) (tq b c d e a f) (aN 2 (CD b c d e a f) (aN 1 (qq b c d e a f) (aN 0 (lJ a) jG))):=by
  unfold Ja;exact Sg.seg (C:=C0) an i0 60 Sp (tq b c d e a f (g,h,i)) (wR b c d e a f g h i) (tq b c d e a f) (aN 2 (CD b c d e a f) (aN 1 (qq b c d e a f) (aN 0 (lJ a) jG))) [⟨[],[0],[5,6,7,8,9,10]⟩,⟨[],[0],[5,6,7,8,9]⟩] (by kernel_rfl)
def ahN(a:List Int)(b:Nat)(c:List Int)(d:Nat)(e:Nat)(f:Nat) :Int×(List Int)→aL:=CD a b c d e f
def CE(a:Nat)(d:Nat)(b:Nat)(e:Int)(c:List Int) :T (((List Int))⊕(((List Int))⊕(((List Int))⊕(eO)))) :=
  .need (d8 .i64 (((b+a):Nat):Int))<|.need (iS (((b+a):Nat):Int) d)<|.need (jC (b+a) (List.length c))<|.leaf (.inl (List.set c (b+a) e))
def ahO(a:List Int)(b:Nat)(c:List Int)(d:Nat)(e:Nat)(f:Nat) :(List Int)→aL:=qq a b c d e f
def Sq(a:Nat)(b:List Int) :T ((Nat×(List Int))⊕(((List Int))⊕(eO))) :=
  .need (d8 .i64 (((a+1):Nat):Int))<|.leaf (.inl ((a+1),b))
def Jb(f:List Int)(b:Nat)(g:List Int)(c:Nat)(d:Nat) :Nat×(List Int)→Option ((Nat×(List Int))⊕(((List Int))⊕(eO))):=fun (a,e) =>
  aC ((CC b a e).run) fun _ =>
  aC (NN (aC ((So).run) fun _ =>
  aC (dM (Ja f b g c d a) ((0:Int),0,e)) fun (h,i) =>
  (CE c d a h i).run)) fun j =>
  (Sq a j).run
theorem ahP(f:List Int)(c:Nat)(g:List Int)(d:Nat)(b:Nat)(e:Nat)(h:List Int) :Sg prog [] tp (tn f c g d b (e,h)) (Jb f c g d b (e,h)) (tn f c g d b) (aN 0 (lJ b) jG):=by
  unfold Jb;exact Sg.cut 2 (aI j4) (Sg.seg (C:=C0) an i0 60 (tp.take 2) (tn f c g d b (e,h)) (CC c e h) (Sl f c g d b e h) (aN 0 (lJ b) jG) [⟨[],[0],[5,6,7,8]⟩,⟨[],[0],[7]⟩] (by kernel_rfl)) (fun a=>by cases a;exact Sg.cut 1 (aI j4) (yp (id:=1) (K:=(qq f c g d b e)) (by kernel_rfl:((tp.drop 2).take 1) = [.block 1 (inBlock ((((tp.drop 2).take 1)).headD .skip))]) (aI j4) (eK (by decide) (LS _)) (Sg.cut 2 (aI (aI j4)) (Sg.seg (C:=C0) an i0 60 (wQ.take 2) (Sl f c g d b e h ()) (So) (Sn f c g d b e h) (aN 1 (qq f c g d b e) (aN 0 (lJ b) jG)) [⟨[],[0],[5,6,7,8,9,10]⟩] (by kernel_rfl)) (fun a=>by cases a;exact Sg.cut 1 (aI (aI j4)) (Sg.pre ⟨[],[0],[5,6,7,8,9,10]⟩ rfl (by kernel_rfl:NS.on ⟨[],[0],[5,6,7,8,9,10]⟩ (Sn f c g d b e h ())=(tq f c g d b e) ((0:Int),0,h)) (bU (I:=(tq f c g d b e)) (J:=(CD f c g d b e)) (id:=2) (by kernel_rfl:((wQ.drop 2).take 1) = [.block 2 (.loop (bK ((((wQ.drop 2).take 1)).headD .skip)))]) (aI (aI j4)) (eK (by decide) (eK (by decide) (LS _))) (fun s=>by obtain ⟨l,m,n⟩:=s;exact ahM f c g d b e l m n) ((0:Int),0,h))) (fun a=>by obtain ⟨i,j⟩:=a;exact Sg.seg (C:=C0) an i0 60 ((wQ.drop 2).drop 1) (ahN f c g d b e (i,j)) (CE d b e i j) (qq f c g d b e) (aN 1 (qq f c g d b e) (aN 0 (lJ b) jG)) [⟨[],[0],[5,6,7,8]⟩] (by kernel_rfl))))) (fun k=>by exact Sg.seg (C:=C0) an i0 60 ((tp.drop 2).drop 1) (ahO f c g d b e k) (Sq e k) (tn f c g d b) (aN 0 (lJ b) jG) [⟨[],[0],[5,6,7,8]⟩] (by kernel_rfl)))
def ahQ(a:Nat) :(List Int)→aL:=lJ a
def Sr:(List Int)×Nat→aL:=fun (a,b)=>⟨ah 71 [(4,.imm .free (.ns .u64 a) 1 1 0 b)],[],0⟩
def Jc(a:Nat)(b:List Int) :T (((List Int)×Nat)⊕(eO)) :=
  .need (aQ 0 a b)<|.need (tj (gw (aa 0 a b)))<|.leaf (.inl ((sJ (gw (aa 0 a b))),(sK (gw (aa 0 a b)))))
def Ss(a:List Int)(b:Nat) :T ((Empty)⊕(eO)) :=
  .leaf (.inr (.r0 a b))
def dC(d:List Int)(e:List Int) :Option eO:=ld (aC ((I9 d e).run) fun (f,a,g,b) =>
  aC ((CB a b).run) fun (c,h) =>
  aC (dM (Jb f a g b c) (0,h)) fun i =>
  aC ((Jc c i).run) fun (j,k) =>
  (Ss j k).run)
theorem alg(k:Lv)(e:List Int)(l:Lv)(f:List Int){x:eO}(h:dC e f=some x) :aw prog pC [] [.imm k (.ns .u64 e) 1 1 0 (List.length e),.imm l (.ns .u64 f) 1 1 0 (List.length f)] (OO x) :=
  Sg.contract true OO (by kernel_rfl:prog.funcs[pC]? = some (FN pC)) (by kernel_rfl:(FN pC).body=some (bi pC)) (Sg.cut 2 j4 (Sg.seg (C:=C0) an i0 60 (qp.take 2) (aT (FN pC) [] [.imm k (.ns .u64 e) 1 1 0 (List.length e),.imm l (.ns .u64 f) 1 1 0 (List.length f)]) (I9 e f) WV jG [⟨[],[],[5,6]⟩] (by kernel_rfl)) (fun a=>by obtain ⟨g,b,i,c⟩:=a;exact Sg.cut 2 j4 (Sg.seg (C:=C0) an i0 60 ((qp.drop 2).take 2) (WV (g,b,i,c)) (CB b c) (WW g b i c) jG [⟨[],[96],[5,6,7,8]⟩] (by kernel_rfl)) (fun a=>by obtain ⟨d,j⟩:=a;exact Sg.cut 1 j4 (Sg.pre ⟨[],[0],[5,6,7,8]⟩ rfl (by kernel_rfl:NS.on ⟨[],[0],[5,6,7,8]⟩ (WW g b i c (d,j))=(tn g b i c d) (0,j)) (bU (I:=(tn g b i c d)) (J:=(lJ d)) (id:=0) (by kernel_rfl:(((qp.drop 2).drop 2).take 1) = [.block 0 (.loop (bK (((((qp.drop 2).drop 2).take 1)).headD .skip)))]) j4 (LS _) (fun s=>by obtain ⟨p,q⟩:=s;exact ahP g b i c d p q) (0,j))) (fun m=>by exact Sg.cut 1 j4 (Sg.seg (C:=C0) an i0 60 ((((qp.drop 2).drop 2).drop 1).take 1) (ahQ d m) (Jc d m) Sr jG [⟨[],[],[4]⟩] (by kernel_rfl)) (fun a=>by obtain ⟨n,o⟩:=a;exact Sg.seg (C:=C0) an i0 60 ((((qp.drop 2).drop 2).drop 1).drop 1) (Sr (n,o)) (Ss n o) (fun a:Empty=>a.elim) jG [⟨[],[],[4]⟩] (by kernel_rfl))))))
    (fun x=>by cases x with | r0 r t=>exact ⟨.inr rfl,[.imm .free (.ns .u64 r) 1 1 0 t],[],by kernel_rfl,trivial,by kernel_rfl⟩) h
def vH:Option eO→Bool
  | some _=>true
  | none=>false
def gW:Option eO→List Int
  | some (.r0 x _)=>x
  | _=>[]
def gX:Option eO→Nat
  | some (.r0 _ x)=>x
  | _=>0
theorem alh{x:Option eO}(h:vH x=true) :x=some (.r0 (gW x) (gX x)):=by
  unfold vH at h
  split at h <;> first | rfl | (cases h;done) | (rename_i y;cases y;rfl)
def abu:aJ:=bW pC (.cons (.ns .u64) (.cons (.ns .u64) .nil)) fun t=>[⟨OO (.r0 (gW (dC t.1.2 t.2.1.2)) (gX (dC t.1.2 t.2.1.2))),[vH (dC t.1.2 t.2.1.2)]⟩]
theorem afA:aU prog abu:=aO fun t=>(aP (fun h=>alg t.1.1 t.1.2 t.2.1.1 t.2.1.2 (alh h)) aW)
def abv:List aJ:=abu :: abt
theorem OP:aY prog (bb abv):=au afA i0
inductive m8 where
  | r0 (a:Nat) (b:List Int)
def ali:m8→AE×aL
  | .r0 a b=>(.ret,⟨ah 17 [(2,.sl 0 1 1 0 a a)],[(0,.ns .u64 b)],1⟩)
def LT:m8→jc
  | .r0 a b=>⟨.imm .free (.ns .u64 b) 1 1 0 a,[]⟩
def ahR:List Code:=bJ (bi mV)
def Jd(a:Int) :T ((Empty)⊕(m8)) :=
  .need ((64:Int) != (0:Int))<|.need (d8 .i64 (Int.tdiv a (64:Int)))<|.need (d8 .i64 ((Int.tdiv a (64:Int))+(1:Int)))<|.need (decide ((0:Int)≤((Int.tdiv a (64:Int))+(1:Int))))<|.need (decide (((Int.tdiv a (64:Int))+(1:Int))≤((Int.tdiv a (64:Int))+(1:Int))))<|.need (decide ((8:Int) * ((Int.tdiv a (64:Int))+(1:Int))≤140737488355328))<|.need (d8 .i64 ((Int.tdiv a (64:Int))+(1:Int)))<|.need ((64:Int) != (0:Int))<|.need (d8 .i64 (Int.tdiv a (64:Int)))<|.need ((64:Int) != (0:Int))<|.need (decide ((0:Int)≤(IntKind.u64.wrap (Int.tmod a (64:Int)))))<|.need (iS (Int.tdiv a (64:Int)) (Int.toNat ((Int.tdiv a (64:Int))+(1:Int))))<|.need (jC (Int.toNat (Int.tdiv a (64:Int))) (List.length (List.replicate (Int.toNat ((Int.tdiv a (64:Int))+(1:Int))) (0:Int))))<|.leaf (.inr (.r0 (Int.toNat ((Int.tdiv a (64:Int))+(1:Int))) (List.set (List.replicate (Int.toNat ((Int.tdiv a (64:Int))+(1:Int))) (0:Int)) (Int.toNat (Int.tdiv a (64:Int))) (IntKind.u64.wrap ((1:Int) * 2 ^ (min (Int.toNat (IntKind.u64.wrap (Int.tmod a (64:Int)))) (IntKind.u64.bits)))))))
def gA(a:Int) :Option m8:=ld ((Jd a).run)
theorem ahS(b:Int){x:m8}(h:gA b=some x) :aw prog mV [] [.int .i64 b] (LT x) :=
  Sg.contract true LT (by kernel_rfl:prog.funcs[mV]? = some (FN mV)) (by kernel_rfl:(FN mV).body=some (bi mV)) (Sg.seg (C:=C0) an OP 60 ahR (aT (FN mV) [] [.int .i64 b]) (Jd b) (fun a:Empty=>a.elim) ali [⟨[],[64],[2]⟩] (by kernel_rfl))
    (fun x=>by cases x with | r0 c d=>exact ⟨.inr rfl,[.sl 0 1 1 0 c c],[],by kernel_rfl,trivial,by kernel_rfl⟩) h
def wS:Option m8→Bool
  | some _=>true
  | none=>false
def mi:Option m8→Nat
  | some (.r0 x _)=>x
  | _=>0
def mj:Option m8→List Int
  | some (.r0 _ x)=>x
  | _=>[]
theorem ahT{x:Option m8}(h:wS x=true) :x=some (.r0 (mi x) (mj x)):=by
  unfold wS at h
  split at h <;> first | rfl | (cases h;done) | (rename_i y;cases y;rfl)
def WX:aJ:=bW mV (.cons (.int .i64) .nil) fun t=>[⟨LT (.r0 (mi (gA t.1)) (mj (gA t.1))),[wS (gA t.1)]⟩]
theorem acF:aU prog WX:=aO fun t=>(aP (fun h=>ahS t.1 (ahT h)) aW)
def WY:List aJ:=WX :: abv
theorem Ee:aY prog (bb WY):=au acF OP
inductive nw where
  | r0 (a:List Int) (b:Nat)
def OQ:nw→AE×aL
  | .r0 a b=>(.ret,⟨ah 9 [(4,.imm .free (.ns .u64 a) 1 1 0 b)],[],0⟩)
theorem alj:kR OQ:=by intro x;cases x <;> (intro h;cases h)
def OR:nw→jc
  | .r0 a b=>⟨.imm .free (.ns .u64 a) 1 1 0 b,[]⟩
def WZ:List Code:=bJ (bi pH)
def W1:(List Int)×Nat→aL:=fun (a,b)=>⟨ah 9 [(4,.imm .free (.ns .u64 a) 1 1 0 b)],[],0⟩
def LU(b:List Int)(a:Int) :T (((List Int)×Nat)⊕(nw)) :=
  .need (wS (gA a))<|.need (aQ 0 (List.length b) b)<|.need (aQ 0 (mi (gA a)) (mj (gA a)))<|.need (vH (dC (aa 0 (List.length b) b) (aa 0 (mi (gA a)) (mj (gA a)))))<|.leaf (.inl ((gW (dC (aa 0 (List.length b) b) (aa 0 (mi (gA a)) (mj (gA a))))),(gX (dC (aa 0 (List.length b) b) (aa 0 (mi (gA a)) (mj (gA a)))))))
def W2(a:List Int)(b:Nat) :T ((Empty)⊕(nw)) :=
  .leaf (.inr (.r0 a b))
def jH(a:List Int)(b:Int) :Option nw:=ld (aC ((LU a b).run) fun (c,d) =>
  (W2 c d).run)
theorem alk(d:Lv)(b:List Int)(c:Int){x:nw}(h:jH b c=some x) :aw prog pH [] [.imm d (.ns .u64 b) 1 1 0 (List.length b),.int .i64 c] (OR x) :=
  Sg.contract true OR (by kernel_rfl:prog.funcs[pH]? = some (FN pH)) (by kernel_rfl:(FN pH).body=some (bi pH)) (Sg.cut 2 alj (Sg.seg (C:=C0) an Ee 60 (WZ.take 2) (aT (FN pH) [] [.imm d (.ns .u64 b) 1 1 0 (List.length b),.int .i64 c]) (LU b c) W1 OQ [⟨[],[],[4]⟩] (by kernel_rfl)) (fun a=>by obtain ⟨e,f⟩:=a;exact Sg.seg (C:=C0) an Ee 60 (WZ.drop 2) (W1 (e,f)) (W2 e f) (fun a:Empty=>a.elim) OQ [⟨[],[],[4]⟩] (by kernel_rfl)))
    (fun x=>by cases x with | r0 g i=>exact ⟨.inr rfl,[.imm .free (.ns .u64 g) 1 1 0 i],[],by kernel_rfl,trivial,by kernel_rfl⟩) h
def zX:Option nw→Bool
  | some _=>true
  | none=>false
def zY:Option nw→List Int
  | some (.r0 x _)=>x
  | _=>[]
def zZ:Option nw→Nat
  | some (.r0 _ x)=>x
  | _=>0
theorem alm{x:Option nw}(h:zX x=true) :x=some (.r0 (zY x) (zZ x)):=by
  unfold zX at h
  split at h <;> first | rfl | (cases h;done) | (rename_i y;cases y;rfl)
def abw:aJ:=bW pH (.cons (.ns .u64) (.cons (.int .i64) .nil)) fun t=>[⟨OR (.r0 (zY (jH t.1.2 t.2.1)) (zZ (jH t.1.2 t.2.1))),[zX (jH t.1.2 t.2.1)]⟩]
theorem afB:aU prog abw:=aO fun t=>(aP (fun h=>alk t.1.1 t.1.2 t.2.1 (alm h)) aW)
def abx:List aJ:=abw :: WY
theorem uv:aY prog (bb abx):=au afB Ee
inductive jo where
  | r0 (a:Int)
def sd:jo→AE×aL
  | .r0 a=>(.ret,⟨ah 27 [(2,.int .i64 a)],[],0⟩)
theorem CF:kR sd:=by intro x;cases x <;> (intro h;cases h)
theorem ahU(id:Nat) :qE id sd:=by intro x;cases x <;> (intro h;cases h)
def LV:jo→jc
  | .r0 a=>⟨.int .i64 a,[]⟩
def tr:List Code:=bJ (bi mT)
def St:(List Int)×Nat→aL:=fun (a,b)=>⟨ah 27 [(0,.imm .free (.ns .u64 a) 1 1 0 b)],[],0⟩
def CG(a:List Int) :T (((List Int)×Nat)⊕(jo)) :=
  .need (aQ 0 (List.length a) a)<|.need (lI (cQ (aa 0 (List.length a) a)))<|.leaf (.inl ((kC (cQ (aa 0 (List.length a) a))),(kB (cQ (aa 0 (List.length a) a)))))
def Su:Int×Int→aL:=fun (a,b)=>⟨ah 27 [(3,.int .i64 a),(4,.int .u64 b)],[],0⟩
def CH(b:List Int)(a:Nat) :T ((Int×Int)⊕(jo)) :=
  .ask (((a:Nat):Int) == (0:Int))
    (.leaf (.inr (.r0 (0:Int))))
    (.need (d8 .i64 (((a:Nat):Int) - (1:Int)))<|.need (d8 .i64 ((64:Int) * (((a:Nat):Int) - (1:Int))))<|.need (d8 .i64 (((a:Nat):Int) - (1:Int)))<|.need (iS (((a:Nat):Int) - (1:Int)) a)<|.need (jC (Int.toNat (((a:Nat):Int) - (1:Int))) (List.length b))<|.leaf (.inl (((64:Int) * (((a:Nat):Int) - (1:Int))),(List.getD b (Int.toNat (((a:Nat):Int) - (1:Int))) 0))))
def tt:Int×Int→aL:=fun (a,b)=>⟨ah 27 [(3,.int .i64 a),(4,.int .u64 b)],[],0⟩
def CI(a:Int) :aL:=⟨ah 27 [(3,.int .i64 a)],[],0⟩
def OS:List Code:=bJ (bK (((((tr.drop 2).drop 4).take 1)).headD .skip))
def uw(a:Int)(b:Int) :T ((Int×Int)⊕((Int)⊕(jo))) :=
  .ask (decide (b > (0:Int)))
    (.need (d8 .i64 (a+(1:Int)))<|.need ((2:Int) != (0:Int))<|.leaf (.inl ((a+(1:Int)),(IntKind.u64.wrap (Int.tdiv b (2:Int))))))
    (.leaf (.inr (.inl a)))
def GF:Int×Int→Option ((Int×Int)⊕((Int)⊕(jo))):=fun (a,b) =>
  (uw a b).run
theorem afC(a:Int)(b:Int) :Sg prog [] OS (tt (a,b)) (GF (a,b)) tt (aN 0 CI sd):=by
  unfold GF;exact Sg.seg (C:=C0) an uv 60 OS (tt (a,b)) (uw a b) tt (aN 0 CI sd) [⟨[],[],[3,4]⟩,⟨[],[],[3]⟩] (by kernel_rfl)
def ahV:Int→aL:=CI
def OT(a:Int) :T ((Empty)⊕(jo)) :=
  .leaf (.inr (.r0 a))
def pT(a:List Int) :Option jo:=ld (aC ((CG a).run) fun (b,c) =>
  aC ((CH b c).run) fun (d,e) =>
  aC (dM (GF) (d,e)) fun f =>
  (OT f).run)
theorem ahW(e:Lv)(b:List Int){x:jo}(h:pT b=some x) :aw prog mT [] [.imm e (.ns .u64 b) 1 1 0 (List.length b)] (LV x) :=
  Sg.contract true LV (by kernel_rfl:prog.funcs[mT]? = some (FN mT)) (by kernel_rfl:(FN mT).body=some (bi mT)) (Sg.cut 2 CF (Sg.seg (C:=C0) an uv 60 (tr.take 2) (aT (FN mT) [] [.imm e (.ns .u64 b) 1 1 0 (List.length b)]) (CG b) St sd [⟨[],[],[0]⟩] (by kernel_rfl)) (fun a=>by obtain ⟨f,g⟩:=a;exact Sg.cut 4 CF (Sg.seg (C:=C0) an uv 60 ((tr.drop 2).take 4) (St (f,g)) (CH f g) Su sd [⟨[],[],[2]⟩,⟨[],[],[3,4]⟩] (by kernel_rfl)) (fun a=>by obtain ⟨c,d⟩:=a;exact Sg.cut 1 CF (Sg.pre ⟨[],[],[3,4]⟩ rfl (by kernel_rfl:NS.on ⟨[],[],[3,4]⟩ (Su (c,d))=(tt) (c,d)) (bU (I:=(tt)) (J:=(CI)) (id:=0) (by kernel_rfl:(((tr.drop 2).drop 4).take 1) = [.block 0 (.loop (bK (((((tr.drop 2).drop 4).take 1)).headD .skip)))]) CF (ahU _) (fun s=>by obtain ⟨j,k⟩:=s;exact afC j k) (c,d))) (fun i=>by exact Sg.seg (C:=C0) an uv 60 (((tr.drop 2).drop 4).drop 1) (ahV i) (OT i) (fun a:Empty=>a.elim) sd [⟨[],[],[2]⟩] (by kernel_rfl)))))
    (fun x=>by cases x with | r0 l=>exact ⟨.inr rfl,[.int .i64 l],[],by kernel_rfl,trivial,by kernel_rfl⟩) h
def wT:Option jo→Bool
  | some _=>true
  | none=>false
def xW:Option jo→Int
  | some (.r0 x)=>x
  | _=>0
theorem ahX{x:Option jo}(h:wT x=true) :x=some (.r0 (xW x)):=by
  unfold wT at h
  split at h <;> first | rfl | (cases h;done) | (rename_i y;cases y;rfl)
def W3:aJ:=bW mT (.cons (.ns .u64) .nil) fun t=>[⟨LV (.r0 (xW (pT t.1.2))),[wT (pT t.1.2)]⟩]
theorem acG:aU prog W3:=aO fun t=>(aP (fun h=>ahW t.1.1 t.1.2 (ahX h)) aW)
def W4:List aJ:=W3 :: abx
theorem Ef:aY prog (bb W4):=au acG uv
inductive pU where
  | r0 (a:Bool)
def OU:pU→AE×aL
  | .r0 a=>(.ret,⟨ah 27 [(4,.bool false a)],[],0⟩)
theorem aln:kR OU:=by intro x;cases x <;> (intro h;cases h)
def OV:pU→jc
  | .r0 a=>⟨.bool false a,[]⟩
def W5:List Code:=bJ (bi pF)
def W6(a:Bool) :aL:=⟨ah 27 [(4,.bool false a)],[],0⟩
def LW(b:List Int)(a:Int) :T ((Bool)⊕(pU)) :=
  .ask (decide (a ≥ (0:Int)))
    (.need ((64:Int) != (0:Int))<|.need (d8 .i64 (Int.tdiv a (64:Int)))<|.ask (decide ((Int.tdiv a (64:Int)) < (((List.length b):Nat):Int)))
      (.need ((64:Int) != (0:Int))<|.need (d8 .i64 (Int.tdiv a (64:Int)))<|.need (iS (Int.tdiv a (64:Int)) (List.length b))<|.need (jC (Int.toNat (Int.tdiv a (64:Int))) (List.length b))<|.need ((64:Int) != (0:Int))<|.need (decide ((0:Int)≤(IntKind.u64.wrap (Int.tmod a (64:Int)))))<|.need ((2:Int) != (0:Int))<|.leaf (.inl ((Int.tmod (Int.fdiv (List.getD b (Int.toNat (Int.tdiv a (64:Int))) 0) (2 ^ (min (Int.toNat (IntKind.u64.wrap (Int.tmod a (64:Int)))) (IntKind.u64.bits)))) (2:Int)) == (1:Int))))
      (.leaf (.inl false)))
    (.leaf (.inl false))
def W7(a:Bool) :T ((Empty)⊕(pU)) :=
  .leaf (.inr (.r0 a))
def nA(a:List Int)(b:Int) :Option pU:=ld (aC ((LW a b).run) fun c =>
  (W7 c).run)
theorem alo(d:Lv)(b:List Int)(c:Int){x:pU}(h:nA b c=some x) :aw prog pF [] [.imm d (.ns .u64 b) 1 1 0 (List.length b),.int .i64 c] (OV x) :=
  Sg.contract true OV (by kernel_rfl:prog.funcs[pF]? = some (FN pF)) (by kernel_rfl:(FN pF).body=some (bi pF)) (Sg.cut 2 aln (Sg.seg (C:=C0) an Ef 60 (W5.take 2) (aT (FN pF) [] [.imm d (.ns .u64 b) 1 1 0 (List.length b),.int .i64 c]) (LW b c) W6 OU [⟨[],[],[4]⟩,⟨[],[],[4]⟩,⟨[],[],[4]⟩] (by kernel_rfl)) (fun e=>by exact Sg.seg (C:=C0) an Ef 60 (W5.drop 2) (W6 e) (W7 e) (fun a:Empty=>a.elim) OU [⟨[],[],[4]⟩] (by kernel_rfl)))
    (fun x=>by cases x with | r0 f=>exact ⟨.inr rfl,[.bool false f],[],by kernel_rfl,trivial,by kernel_rfl⟩) h
def se:Option pU→Bool
  | some _=>true
  | none=>false
def qW:Option pU→Bool
  | some (.r0 x)=>x
  | _=>false
theorem alp{x:Option pU}(h:se x=true) :x=some (.r0 (qW x)):=by
  unfold se at h
  split at h <;> first | rfl | (cases h;done) | (rename_i y;cases y;rfl)
def aby:aJ:=bW pF (.cons (.ns .u64) (.cons (.int .i64) .nil)) fun t=>[⟨OV (.r0 (qW (nA t.1.2 t.2.1))),[se (nA t.1.2 t.2.1)]⟩]
theorem afD:aU prog aby:=aO fun t=>(aP (fun h=>alo t.1.1 t.1.2 t.2.1 (alp h)) aW)
def abz:List aJ:=aby :: W4
theorem gY:aY prog (bb abz):=au afD Ef
end
end Go.Plb.Seat
namespace Go.Plb.Seat
open Go Go.Plb
set_option linter.unusedVariables false
set_option maxRecDepth 100000
noncomputable section
inductive dV where
  | r0 (a:List Int) (b:Nat) (c:Bool)
def iN:dV→AE×aL
  | .r0 a b c=>(.ret,⟨ah 68 [(4,.imm .free (.ns .u64 a) 1 1 0 b),(5,.bool false c)],[],0⟩)
theorem j5:kR iN:=by intro x;cases x <;> (intro h;cases h)
theorem W8(id:Nat) :qE id iN:=by intro x;cases x <;> (intro h;cases h)
def OW:dV→jc
  | .r0 a b c=>⟨.tup [.imm .free (.ns .u64 a) 1 1 0 b,.bool false c],[]⟩
def i3:List Code:=bJ (bi pv)
def W9(b:Lv)(a:List Int)(c:Int) :Bool×Int→aL:=fun (d,e)=>⟨ah 68 [(0,.imm b (.ns .u64 a) 1 1 0 (List.length a)),(1,.int .i64 c),(6,.bool false d),(7,.int .i64 e)],[],0⟩
def CJ(a:List Int) :T ((Bool×Int)⊕(dV)) :=
  .need (aQ 0 (List.length a) a)<|.need (wT (pT (aa 0 (List.length a) a)))<|.leaf (.inl (false,(xW (pT (aa 0 (List.length a) a)))))
def Xa(b:Lv)(a:List Int)(c:Int)(d:Bool)(e:Int)(_:Unit) :aL:=⟨ah 68 [(0,.imm b (.ns .u64 a) 1 1 0 (List.length a)),(1,.int .i64 c),(6,.bool false d),(7,.int .i64 e),(8,.int .i64 (0:Int))],[],0⟩
def Sv:T ((Unit)⊕(dV)) :=
  .leaf (.inl ())
def vI(b:Lv)(a:List Int)(c:Int)(d:Int) :Bool×Nat→aL:=fun (e,f)=>⟨ah 68 [(0,.imm b (.ns .u64 a) 1 1 0 (List.length a)),(1,.int .i64 c),(6,.bool false e),(7,.int .i64 d),(8,.int .i64 ((f:Nat):Int))],[],0⟩
def vJ(b:Lv)(a:List Int)(c:Int)(d:Int)(e:Bool) :aL:=⟨ah 68 [(0,.imm b (.ns .u64 a) 1 1 0 (List.length a)),(1,.int .i64 c),(6,.bool false e),(7,.int .i64 d)],[],0⟩
def CL:List Code:=bJ (bK (((((i3.drop 3).drop 1).take 1)).headD .skip))
def Xb(b:Lv)(a:List Int)(c:Int)(d:Int)(e:Bool)(f:Nat)(g:Bool) :aL:=⟨ah 68 [(0,.imm b (.ns .u64 a) 1 1 0 (List.length a)),(1,.int .i64 c),(6,.bool false e),(7,.int .i64 d),(8,.int .i64 ((f:Nat):Int)),(20,.bool false g)],[],0⟩
def tu(b:Int)(c:Int)(a:Nat) :T ((Bool)⊕((Bool)⊕(dV))) :=
  .ask (decide (((a:Nat):Int) < b))
    (.leaf (.inl (decide (((a:Nat):Int) < c))))
    (.leaf (.inl false))
def Xc(b:Lv)(a:List Int)(c:Int)(d:Int)(e:Nat)(f:Bool) :aL:=⟨ah 68 [(0,.imm b (.ns .u64 a) 1 1 0 (List.length a)),(1,.int .i64 c),(6,.bool false f),(7,.int .i64 d),(8,.int .i64 ((e:Nat):Int))],[],0⟩
def CM(a:List Int)(b:Bool)(c:Nat)(d:Bool) :T ((Bool)⊕((Bool)⊕(dV))) :=
  .ask d
    (.ask b
      (.leaf (.inl true))
      (.need (aQ 0 (List.length a) a)<|.need (se (nA (aa 0 (List.length a) a) ((c:Nat):Int)))<|.leaf (.inl (qW (nA (aa 0 (List.length a) a) ((c:Nat):Int))))))
    (.leaf (.inr (.inl b)))
def Sw(a:Nat)(b:Bool) :T ((Bool×Nat)⊕((Bool)⊕(dV))) :=
  .need (d8 .i64 (((a+1):Nat):Int))<|.leaf (.inl (b,(a+1)))
def CN(b:List Int)(c:Int)(d:Int) :Bool×Nat→Option ((Bool×Nat)⊕((Bool)⊕(dV))):=fun (e,a) =>
  aC ((tu c d a).run) fun f =>
  aC ((CM b e a f).run) fun g =>
  (Sw a g).run
theorem ahY(d:Lv)(a:List Int)(b:Int)(c:Int)(f:Bool)(e:Nat) :Sg prog [] CL (vI d a b c (f,e)) (CN a b c (f,e)) (vI d a b c) (aN 0 (vJ d a b c) iN):=by
  unfold CN;exact Sg.cut 1 (aI j5) (Sg.seg (C:=C0) an gY 60 (CL.take 1) (vI d a b c (f,e)) (tu b c e) (Xb d a b c f e) (aN 0 (vJ d a b c) iN) [⟨[],[],[0,1,6,7,8,20]⟩,⟨[],[],[0,1,6,7,8,20]⟩] (by kernel_rfl)) (fun g=>by exact Sg.cut 2 (aI j5) (Sg.seg (C:=C0) an gY 60 ((CL.drop 1).take 2) (Xb d a b c f e g) (CM a f e g) (Xc d a b c e) (aN 0 (vJ d a b c) iN) [⟨[],[],[0,1,6,7,8]⟩,⟨[],[],[0,1,6,7,8]⟩,⟨[],[],[0,1,6,7]⟩] (by kernel_rfl)) (fun h=>by exact Sg.seg (C:=C0) an gY 60 ((CL.drop 1).drop 2) (Xc d a b c e h) (Sw e h) (vI d a b c) (aN 0 (vJ d a b c) iN) [⟨[],[],[0,1,6,7,8]⟩] (by kernel_rfl)))
def ahZ(a:Lv)(b:List Int)(c:Int)(d:Int) :Bool→aL:=vJ a b c d
def Sx(c:Lv)(a:List Int)(b:Int)(d:Int)(e:Bool)(f:(List Int)) :aL:=⟨ah 68 [(0,.imm c (.ns .u64 a) 1 1 0 (List.length a)),(1,.int .i64 b),(6,.bool false e),(7,.int .i64 d),(9,.sl 0 1 1 0 (List.length a) (List.length a)),(10,.int .i64 b)],[(0,.ns .u64 f)],1⟩
def CO(a:List Int)(b:Int)(c:Int)(d:Bool) :T (((List Int))⊕(dV)) :=
  .ask (decide (b ≥ c))
    (.leaf (.inr (.r0 ([]:List Int) 0 d)))
    (.need (decide ((0:Int)≤(((List.length a):Nat):Int)))<|.need (decide ((((List.length a):Nat):Int)≤(((List.length a):Nat):Int)))<|.need (decide ((8:Int) * (((List.length a):Nat):Int)≤140737488355328))<|.need (d8 .i64 (((List.length a):Nat):Int))<|.leaf (.inl (List.replicate (List.length a) (0:Int))))
def tw(b:Lv)(a:List Int)(c:Int)(d:Int)(e:Bool) :Int×(List Int)→aL:=fun (f,g)=>⟨ah 68 [(0,.imm b (.ns .u64 a) 1 1 0 (List.length a)),(1,.int .i64 c),(6,.bool false e),(7,.int .i64 d),(9,.sl 0 1 1 0 (List.length a) (List.length a)),(10,.int .i64 f)],[(0,.ns .u64 g)],1⟩
def wU(a:List Int)(b:Bool)(c:(List Int)) :aL:=⟨ah 68 [(6,.bool false b),(9,.sl 0 1 1 0 (List.length a) (List.length a))],[(0,.ns .u64 c)],1⟩
def Je:List Code:=bJ (bK (((((((i3.drop 3).drop 1).drop 1).drop 4).take 1)).headD .skip))
def Sy(b:Lv)(a:List Int)(c:Int)(d:Int)(e:Bool)(f:Int)(g:(List Int)) :aL:=⟨ah 68 [(0,.imm b (.ns .u64 a) 1 1 0 (List.length a)),(1,.int .i64 c),(6,.bool false e),(7,.int .i64 d),(9,.sl 0 1 1 0 (List.length a) (List.length a)),(10,.int .i64 f)],[(0,.ns .u64 g)],1⟩
def wW(c:List Int)(b:Int)(e:Int)(a:Int)(d:List Int) :T (((List Int))⊕(((List Int))⊕(dV))) :=
  .ask (decide (a < e))
    (.need (aQ 0 (List.length c) c)<|.need (se (nA (aa 0 (List.length c) c) a))<|.ask (qW (nA (aa 0 (List.length c) c) a))
      (.need (d8 .i64 (a - b))<|.need ((64:Int) != (0:Int))<|.need (d8 .i64 (Int.tdiv (a - b) (64:Int)))<|.need (d8 .i64 (a - b))<|.need ((64:Int) != (0:Int))<|.need (d8 .i64 (Int.tdiv (a - b) (64:Int)))<|.need (iS (Int.tdiv (a - b) (64:Int)) (List.length c))<|.need (jC (Int.toNat (Int.tdiv (a - b) (64:Int))) (List.length d))<|.need (d8 .i64 (a - b))<|.need ((64:Int) != (0:Int))<|.need (decide ((0:Int)≤(IntKind.u64.wrap (Int.tmod (a - b) (64:Int)))))<|.need (iS (Int.tdiv (a - b) (64:Int)) (List.length c))<|.need (jC (Int.toNat (Int.tdiv (a - b) (64:Int))) (List.length d))<|.leaf (.inl (List.set d (Int.toNat (Int.tdiv (a - b) (64:Int))) (IntKind.u64.wrap ((List.getD d (Int.toNat (Int.tdiv (a - b) (64:Int))) 0)+(IntKind.u64.wrap ((1:Int) * 2 ^ (min (Int.toNat (IntKind.u64.wrap (Int.tmod (a - b) (64:Int)))) (IntKind.u64.bits)))))))))
      (.leaf (.inl d)))
    (.leaf (.inr (.inl d)))
def Sz(a:Int)(b:List Int) :T ((Int×(List Int))⊕(((List Int))⊕(dV))) :=
  .need (d8 .i64 (a+(1:Int)))<|.leaf (.inl ((a+(1:Int)),b))
def Jf(b:List Int)(c:Int)(d:Int) :Int×(List Int)→Option ((Int×(List Int))⊕(((List Int))⊕(dV))):=fun (a,e) =>
  aC ((wW b c d a e).run) fun f =>
  (Sz a f).run
theorem ah0(f:Lv)(a:List Int)(c:Int)(d:Int)(b:Bool)(e:Int)(g:List Int) :Sg prog [] Je (tw f a c d b (e,g)) (Jf a c d (e,g)) (tw f a c d b) (aN 2 (wU a b) iN):=by
  unfold Jf;exact Sg.cut 3 (aI j5) (Sg.seg (C:=C0) an gY 60 (Je.take 3) (tw f a c d b (e,g)) (wW a c d e g) (Sy f a c d b e) (aN 2 (wU a b) iN) [⟨[],[0],[0,1,6,7,9,10]⟩,⟨[],[0],[0,1,6,7,9,10]⟩,⟨[],[0],[6,9]⟩] (by kernel_rfl)) (fun h=>by exact Sg.seg (C:=C0) an gY 60 (Je.drop 3) (Sy f a c d b e h) (Sz e h) (tw f a c d b) (aN 2 (wU a b) iN) [⟨[],[0],[0,1,6,7,9,10]⟩] (by kernel_rfl))
def ah1(a:List Int)(b:Bool) :(List Int)→aL:=wU a b
def SA(a:Bool) :(List Int)×Nat→aL:=fun (b,c)=>⟨ah 68 [(4,.imm .free (.ns .u64 b) 1 1 0 c),(5,.bool false a)],[],0⟩
def Jg(a:List Int)(b:List Int) :T (((List Int)×Nat)⊕(dV)) :=
  .need (aQ 0 (List.length a) b)<|.need (lI (cQ (aa 0 (List.length a) b)))<|.leaf (.inl ((kC (cQ (aa 0 (List.length a) b))),(kB (cQ (aa 0 (List.length a) b)))))
def SB(a:Bool)(b:List Int)(c:Nat) :T ((Empty)⊕(dV)) :=
  .leaf (.inr (.r0 b c a))
def pV(a:List Int)(b:Int) :Option dV:=ld (aC ((CJ a).run) fun (e,c) =>
  aC ((Sv).run) fun _ =>
  aC (dM (CN a b c) (e,0)) fun d =>
  aC ((CO a b c d).run) fun f =>
  aC (dM (Jf a b c) (b,f)) fun g =>
  aC ((Jg a g).run) fun (h,i) =>
  (SB d h i).run)
theorem alq(d:Lv)(b:List Int)(c:Int){x:dV}(h:pV b c=some x) :aw prog pv [] [.imm d (.ns .u64 b) 1 1 0 (List.length b),.int .i64 c] (OW x) :=
  Sg.contract true OW (by kernel_rfl:prog.funcs[pv]? = some (FN pv)) (by kernel_rfl:(FN pv).body=some (bi pv)) (Sg.cut 3 j5 (Sg.seg (C:=C0) an gY 60 (i3.take 3) (aT (FN pv) [] [.imm d (.ns .u64 b) 1 1 0 (List.length b),.int .i64 c]) (CJ b) (W9 d b c) iN [⟨[],[],[0,1,6,7]⟩] (by kernel_rfl)) (fun a=>by obtain ⟨g,e⟩:=a;exact Sg.cut 1 j5 (Sg.seg (C:=C0) an gY 60 ((i3.drop 3).take 1) (W9 d b c (g,e)) (Sv) (Xa d b c g e) iN [⟨[],[],[0,1,6,7,8]⟩] (by kernel_rfl)) (fun a=>by cases a;exact Sg.cut 1 j5 (Sg.pre ⟨[],[],[0,1,6,7,8]⟩ rfl (by kernel_rfl:NS.on ⟨[],[],[0,1,6,7,8]⟩ (Xa d b c g e ())=(vI d b c e) (g,0)) (bU (I:=(vI d b c e)) (J:=(vJ d b c e)) (id:=0) (by kernel_rfl:(((i3.drop 3).drop 1).take 1) = [.block 0 (.loop (bK (((((i3.drop 3).drop 1).take 1)).headD .skip)))]) j5 (W8 _) (fun s=>by obtain ⟨m,n⟩:=s;exact ahY d b c e m n) (g,0))) (fun f=>by exact Sg.cut 4 j5 (Sg.seg (C:=C0) an gY 60 ((((i3.drop 3).drop 1).drop 1).take 4) (ahZ d b c e f) (CO b c e f) (Sx d b c e f) iN [⟨[(.slot 4,.fre 1 1 (.ns .u64 ([]:List Int)))],[],[4,5]⟩,⟨[],[80],[0,1,6,7,9,10]⟩] (by kernel_rfl)) (fun i=>by exact Sg.cut 1 j5 (Sg.pre ⟨[],[0],[0,1,6,7,9,10]⟩ rfl (by kernel_rfl:NS.on ⟨[],[0],[0,1,6,7,9,10]⟩ (Sx d b c e f i)=(tw d b c e f) (c,i)) (bU (I:=(tw d b c e f)) (J:=(wU b f)) (id:=2) (by kernel_rfl:(((((i3.drop 3).drop 1).drop 1).drop 4).take 1) = [.block 2 (.loop (bK (((((((i3.drop 3).drop 1).drop 1).drop 4).take 1)).headD .skip)))]) j5 (W8 _) (fun s=>by obtain ⟨o,p⟩:=s;exact ah0 d b c e f o p) (c,i))) (fun j=>by exact Sg.cut 1 j5 (Sg.seg (C:=C0) an gY 60 ((((((i3.drop 3).drop 1).drop 1).drop 4).drop 1).take 1) (ah1 b f j) (Jg b j) (SA f) iN [⟨[],[],[4,5]⟩] (by kernel_rfl)) (fun a=>by obtain ⟨k,l⟩:=a;exact Sg.seg (C:=C0) an gY 60 ((((((i3.drop 3).drop 1).drop 1).drop 4).drop 1).drop 1) (SA f (k,l)) (SB f k l) (fun a:Empty=>a.elim) iN [⟨[],[],[4,5]⟩] (by kernel_rfl))))))))
    (fun x=>by cases x with | r0 q r t=>exact ⟨.inr rfl,[.imm .free (.ns .u64 q) 1 1 0 r,.bool false t],[],by kernel_rfl,trivial,by kernel_rfl⟩) h
def Fq:Option dV→Bool
  | some _=>true
  | none=>false
def GG:Option dV→List Int
  | some (.r0 x _ _)=>x
  | _=>[]
def GH:Option dV→Nat
  | some (.r0 _ x _)=>x
  | _=>0
def OX:Option dV→Bool
  | some (.r0 _ _ x)=>x
  | _=>false
theorem alr{x:Option dV}(h:Fq x=true) :x=some (.r0 (GG x) (GH x) (OX x)):=by
  unfold Fq at h
  split at h <;> first | rfl | (cases h;done) | (rename_i y;cases y;rfl)
def abA:aJ:=bW pv (.cons (.ns .u64) (.cons (.int .i64) .nil)) fun t=>[⟨OW (.r0 (GG (pV t.1.2 t.2.1)) (GH (pV t.1.2 t.2.1)) (OX (pV t.1.2 t.2.1))),[Fq (pV t.1.2 t.2.1)]⟩]
theorem afE:aU prog abA:=aO fun t=>(aP (fun h=>alq t.1.1 t.1.2 t.2.1 (alr h)) aW)
def abB:List aJ:=abA :: abz
theorem qX:aY prog (bb abB):=au afE gY
inductive gd where
  | r0 (a:Nat)
def nB:gd→AE×aL
  | .r0 a=>(.ret,⟨ah 16 [(2,.int .i64 ((a:Nat):Int))],[],0⟩)
theorem ux:kR nB:=by intro x;cases x <;> (intro h;cases h)
theorem afF(id:Nat) :qE id nB:=by intro x;cases x <;> (intro h;cases h)
def Jh:gd→jc
  | .r0 a=>⟨.int .i64 ((a:Nat):Int),[]⟩
def qY:List Code:=bJ (bi lB)
def OY(b:Lv)(a:List Int)(c:Int) :aL:=⟨ah 16 [(0,.imm b (.ns .u64 a) 1 1 0 (List.length a)),(3,.int .i64 c)],[],0⟩
def Eg(a:List Int) :T ((Int)⊕(gd)) :=
  .need (aQ 0 (List.length a) a)<|.need (wT (pT (aa 0 (List.length a) a)))<|.leaf (.inl (xW (pT (aa 0 (List.length a) a))))
def OZ(b:Lv)(a:List Int)(c:Int)(_:Unit) :aL:=⟨ah 16 [(0,.imm b (.ns .u64 a) 1 1 0 (List.length a)),(3,.int .i64 c),(4,.int .i64 (0:Int))],[],0⟩
def MR:T ((Unit)⊕(gd)) :=
  .leaf (.inl ())
def qZ(b:Lv)(a:List Int)(c:Int)(d:Nat) :aL:=⟨ah 16 [(0,.imm b (.ns .u64 a) 1 1 0 (List.length a)),(3,.int .i64 c),(4,.int .i64 ((d:Nat):Int))],[],0⟩
def uy(_:Unit) :aL:=⟨ah 16 [],[],0⟩
def Eh:List Code:=bJ (bK (((((qY.drop 2).drop 1).take 1)).headD .skip))
def O0(b:Lv)(a:List Int)(c:Int)(d:Nat)(_:Unit) :aL:=⟨ah 16 [(0,.imm b (.ns .u64 a) 1 1 0 (List.length a)),(3,.int .i64 c),(4,.int .i64 ((d:Nat):Int))],[],0⟩
def oP(a:List Int)(c:Int)(b:Nat) :T ((Unit)⊕((Unit)⊕(gd))) :=
  .ask (decide (((b:Nat):Int) < c))
    (.need (aQ 0 (List.length a) a)<|.need (se (nA (aa 0 (List.length a) a) ((b:Nat):Int)))<|.ask (qW (nA (aa 0 (List.length a) a) ((b:Nat):Int)))
      (.leaf (.inr (.inr (.r0 b))))
      (.leaf (.inl ())))
    (.leaf (.inr (.inl ())))
def MS(a:Nat) :T ((Nat)⊕((Unit)⊕(gd))) :=
  .need (d8 .i64 (((a+1):Nat):Int))<|.leaf (.inl (a+1))
def Ei(b:List Int)(c:Int) :Nat→Option ((Nat)⊕((Unit)⊕(gd))):=fun a =>
  aC ((oP b c a).run) fun _ =>
  (MS a).run
theorem acH(e:Lv)(b:List Int)(c:Int)(d:Nat) :Sg prog [] Eh (qZ e b c d) (Ei b c d) (qZ e b c) (aN 0 uy nB):=by
  unfold Ei;exact Sg.cut 3 (aI ux) (Sg.seg (C:=C0) an qX 60 (Eh.take 3) (qZ e b c d) (oP b c d) (O0 e b c d) (aN 0 uy nB) [⟨[],[],[2]⟩,⟨[],[],[0,3,4]⟩,⟨[],[],[]⟩] (by kernel_rfl)) (fun a=>by cases a;exact Sg.seg (C:=C0) an qX 60 (Eh.drop 3) (O0 e b c d ()) (MS d) (qZ e b c) (aN 0 uy nB) [⟨[],[],[0,3,4]⟩] (by kernel_rfl))
def afG:Unit→aL:=uy
def MT:T ((Empty)⊕(gd)) :=
  .leaf (.inr (.r0 0))
def tx(a:List Int) :Option gd:=ld (aC ((Eg a).run) fun b =>
  aC ((MR).run) fun _ =>
  aC (dM (Ei a b) 0) fun _ =>
  (MT).run)
theorem afH(c:Lv)(b:List Int){x:gd}(h:tx b=some x) :aw prog lB [] [.imm c (.ns .u64 b) 1 1 0 (List.length b)] (Jh x) :=
  Sg.contract true Jh (by kernel_rfl:prog.funcs[lB]? = some (FN lB)) (by kernel_rfl:(FN lB).body=some (bi lB)) (Sg.cut 2 ux (Sg.seg (C:=C0) an qX 60 (qY.take 2) (aT (FN lB) [] [.imm c (.ns .u64 b) 1 1 0 (List.length b)]) (Eg b) (OY c b) nB [⟨[],[],[0,3]⟩] (by kernel_rfl)) (fun d=>by exact Sg.cut 1 ux (Sg.seg (C:=C0) an qX 60 ((qY.drop 2).take 1) (OY c b d) (MR) (OZ c b d) nB [⟨[],[],[0,3,4]⟩] (by kernel_rfl)) (fun a=>by cases a;exact Sg.cut 1 ux (Sg.pre ⟨[],[],[0,3,4]⟩ rfl (by kernel_rfl:NS.on ⟨[],[],[0,3,4]⟩ (OZ c b d ())=(qZ c b d) 0) (bU (I:=(qZ c b d)) (J:=(uy)) (id:=0) (by kernel_rfl:(((qY.drop 2).drop 1).take 1) = [.block 0 (.loop (bK (((((qY.drop 2).drop 1).take 1)).headD .skip)))]) ux (afF _) (fun s=>by exact acH c b d s) 0)) (fun a=>by cases a;exact Sg.seg (C:=C0) an qX 60 (((qY.drop 2).drop 1).drop 1) (afG ()) (MT) (fun a:Empty=>a.elim) nB [⟨[],[],[2]⟩] (by kernel_rfl)))))
    (fun x=>by cases x with | r0 e=>exact ⟨.inr rfl,[.int .i64 ((e:Nat):Int)],[],by kernel_rfl,trivial,by kernel_rfl⟩) h
def z4:Option gd→Bool
  | some _=>true
  | none=>false
def BI:Option gd→Nat
  | some (.r0 x)=>x
  | _=>0
theorem afI{x:Option gd}(h:z4 x=true) :x=some (.r0 (BI x)):=by
  unfold z4 at h
  split at h <;> first | rfl | (cases h;done) | (rename_i y;cases y;rfl)
def SC:aJ:=bW lB (.cons (.ns .u64) .nil) fun t=>[⟨Jh (.r0 (BI (tx t.1.2))),[z4 (tx t.1.2)]⟩]
theorem Zy:aU prog SC:=aO fun t=>(aP (fun h=>afH t.1.1 t.1.2 (afI h)) aW)
def SD:List aJ:=SC :: abB
theorem q7:aY prog (bb SD):=au Zy qX
inductive kE where
  | r0 (a:Int)
def uz:kE→AE×aL
  | .r0 a=>(.ret,⟨ah 45 [(4,.int .i64 a)],[],0⟩)
theorem Fr:kR uz:=by intro x;cases x <;> (intro h;cases h)
theorem als(id:Nat) :qE id uz:=by intro x;cases x <;> (intro h;cases h)
def O1:kE→jc
  | .r0 a=>⟨.int .i64 a,[]⟩
def vK:List Code:=bJ (bi pA)
def Xd:(List Int)×Nat×(List Int)×Nat→aL:=fun (a,b,c,d)=>⟨ah 45 [(0,.imm .free (.ns .u64 a) 1 1 0 b),(1,.imm .free (.ns .u64 c) 1 1 0 d)],[],0⟩
def LX(a:List Int)(b:List Int) :T (((List Int)×Nat×(List Int)×Nat)⊕(kE)) :=
  .need (aQ 0 (List.length a) a)<|.need (lI (cQ (aa 0 (List.length a) a)))<|.need (aQ 0 (List.length b) b)<|.need (lI (cQ (aa 0 (List.length b) b)))<|.leaf (.inl ((kC (cQ (aa 0 (List.length a) a))),(kB (cQ (aa 0 (List.length a) a))),(kC (cQ (aa 0 (List.length b) b))),(kB (cQ (aa 0 (List.length b) b)))))
def Xe(a:List Int)(b:Nat)(c:List Int)(d:Nat)(e:Int) :aL:=⟨ah 45 [(0,.imm .free (.ns .u64 a) 1 1 0 b),(1,.imm .free (.ns .u64 c) 1 1 0 d),(5,.int .i64 e)],[],0⟩
def Xf(a:Nat)(b:Nat) :T ((Int)⊕(kE)) :=
  .ask (((a:Nat):Int) != ((b:Nat):Int))
    (.ask (decide (((a:Nat):Int) < ((b:Nat):Int)))
      (.leaf (.inr (.r0 (-1:Int))))
      (.leaf (.inr (.r0 (1:Int)))))
    (.need (d8 .i64 (((a:Nat):Int) - (1:Int)))<|.leaf (.inl (((a:Nat):Int) - (1:Int))))
def vL(a:List Int)(b:Nat)(c:List Int)(d:Nat)(e:Int) :aL:=⟨ah 45 [(0,.imm .free (.ns .u64 a) 1 1 0 b),(1,.imm .free (.ns .u64 c) 1 1 0 d),(5,.int .i64 e)],[],0⟩
def Fs(_:Unit) :aL:=⟨ah 45 [],[],0⟩
def SE:List Code:=bJ (bK (((((vK.drop 2).drop 3).take 1)).headD .skip))
def tA(b:List Int)(d:Nat)(c:List Int)(e:Nat)(a:Int) :T ((Int)⊕((Unit)⊕(kE))) :=
  .ask (decide (a ≥ (0:Int)))
    (.need (iS a d)<|.need (jC (Int.toNat a) (List.length b))<|.need (iS a e)<|.need (jC (Int.toNat a) (List.length c))<|.ask (decide ((List.getD b (Int.toNat a) 0) < (List.getD c (Int.toNat a) 0)))
      (.leaf (.inr (.inr (.r0 (-1:Int)))))
      (.need (iS a d)<|.need (jC (Int.toNat a) (List.length b))<|.need (iS a e)<|.need (jC (Int.toNat a) (List.length c))<|.ask (decide ((List.getD b (Int.toNat a) 0) > (List.getD c (Int.toNat a) 0)))
        (.leaf (.inr (.inr (.r0 (1:Int)))))
        (.need (d8 .i64 (a - (1:Int)))<|.leaf (.inl (a - (1:Int))))))
    (.leaf (.inr (.inl ())))
def CP(a:List Int)(b:Nat)(c:List Int)(d:Nat) :Int→Option ((Int)⊕((Unit)⊕(kE))):=fun e =>
  (tA a b c d e).run
theorem ah2(a:List Int)(b:Nat)(c:List Int)(d:Nat)(e:Int) :Sg prog [] SE (vL a b c d e) (CP a b c d e) (vL a b c d) (aN 0 Fs uz):=by
  unfold CP;exact Sg.seg (C:=C0) an q7 60 SE (vL a b c d e) (tA a b c d e) (vL a b c d) (aN 0 Fs uz) [⟨[],[],[4]⟩,⟨[],[],[4]⟩,⟨[],[],[0,1,5]⟩,⟨[],[],[]⟩] (by kernel_rfl)
def alu:Unit→aL:=Fs
def SF:T ((Empty)⊕(kE)) :=
  .leaf (.inr (.r0 (0:Int)))
def nC(c:List Int)(d:List Int) :Option kE:=ld (aC ((LX c d).run) fun (e,a,f,b) =>
  aC ((Xf a b).run) fun g =>
  aC (dM (CP e a f b) g) fun _ =>
  (SF).run)
theorem alv(j:Lv)(d:List Int)(k:Lv)(e:List Int){x:kE}(h:nC d e=some x) :aw prog pA [] [.imm j (.ns .u64 d) 1 1 0 (List.length d),.imm k (.ns .u64 e) 1 1 0 (List.length e)] (O1 x) :=
  Sg.contract true O1 (by kernel_rfl:prog.funcs[pA]? = some (FN pA)) (by kernel_rfl:(FN pA).body=some (bi pA)) (Sg.cut 2 Fr (Sg.seg (C:=C0) an q7 60 (vK.take 2) (aT (FN pA) [] [.imm j (.ns .u64 d) 1 1 0 (List.length d),.imm k (.ns .u64 e) 1 1 0 (List.length e)]) (LX d e) Xd uz [⟨[],[],[0,1]⟩] (by kernel_rfl)) (fun a=>by obtain ⟨f,b,g,c⟩:=a;exact Sg.cut 3 Fr (Sg.seg (C:=C0) an q7 60 ((vK.drop 2).take 3) (Xd (f,b,g,c)) (Xf b c) (Xe f b g c) uz [⟨[],[],[4]⟩,⟨[],[],[4]⟩,⟨[],[],[0,1,5]⟩] (by kernel_rfl)) (fun i=>by exact Sg.cut 1 Fr (Sg.pre ⟨[],[],[0,1,5]⟩ rfl (by kernel_rfl:NS.on ⟨[],[],[0,1,5]⟩ (Xe f b g c i)=(vL f b g c) i) (bU (I:=(vL f b g c)) (J:=(Fs)) (id:=0) (by kernel_rfl:(((vK.drop 2).drop 3).take 1) = [.block 0 (.loop (bK (((((vK.drop 2).drop 3).take 1)).headD .skip)))]) Fr (als _) (fun s=>by exact ah2 f b g c s) i)) (fun a=>by cases a;exact Sg.seg (C:=C0) an q7 60 (((vK.drop 2).drop 3).drop 1) (alu ()) (SF) (fun a:Empty=>a.elim) uz [⟨[],[],[4]⟩] (by kernel_rfl)))))
    (fun x=>by cases x with | r0 l=>exact ⟨.inr rfl,[.int .i64 l],[],by kernel_rfl,trivial,by kernel_rfl⟩) h
def vM:Option kE→Bool
  | some _=>true
  | none=>false
def uA:Option kE→Int
  | some (.r0 x)=>x
  | _=>0
theorem alw{x:Option kE}(h:vM x=true) :x=some (.r0 (uA x)):=by
  unfold vM at h
  split at h <;> first | rfl | (cases h;done) | (rename_i y;cases y;rfl)
def abC:aJ:=bW pA (.cons (.ns .u64) (.cons (.ns .u64) .nil)) fun t=>[⟨O1 (.r0 (uA (nC t.1.2 t.2.1.2))),[vM (nC t.1.2 t.2.1.2)]⟩]
theorem afJ:aU prog abC:=aO fun t=>(aP (fun h=>alv t.1.1 t.1.2 t.2.1.1 t.2.1.2 (alw h)) aW)
def abD:List aJ:=abC :: SD
theorem uB:aY prog (bb abD):=au afJ q7
inductive jI where
  | r0 (a:Bool)
def uC:jI→AE×aL
  | .r0 a=>(.ret,⟨ah 20 [(2,.bool false a)],[],0⟩)
theorem Ft:kR uC:=by intro x;cases x <;> (intro h;cases h)
theorem alx(id:Nat) :qE id uC:=by intro x;cases x <;> (intro h;cases h)
def O2:jI→jc
  | .r0 a=>⟨.bool false a,[]⟩
def wZ:List Code:=bJ (bi pE)
def Xg(b:Lv)(a:List Int)(_:Unit) :aL:=⟨ah 20 [(0,.imm b (.ns .u64 a) 1 1 0 (List.length a)),(3,.int .i64 (((List.length a):Nat):Int))],[],0⟩
def SG:T ((Unit)⊕(jI)) :=
  .leaf (.inl ())
def vN(b:Lv)(a:List Int)(c:Int) :aL:=⟨ah 20 [(0,.imm b (.ns .u64 a) 1 1 0 (List.length a)),(3,.int .i64 c)],[],0⟩
def z5(a:Int) :aL:=⟨ah 20 [(3,.int .i64 a)],[],0⟩
def Ji:List Code:=bJ (bK ((((wZ.drop 2).take 1)).headD .skip))
def Xh(b:Lv)(a:List Int)(c:Int)(d:Bool) :aL:=⟨ah 20 [(0,.imm b (.ns .u64 a) 1 1 0 (List.length a)),(3,.int .i64 c),(15,.bool false d)],[],0⟩
def tB(b:List Int)(a:Int) :T ((Bool)⊕((Int)⊕(jI))) :=
  .ask (decide (a > (0:Int)))
    (.need (d8 .i64 (a - (1:Int)))<|.need (iS (a - (1:Int)) (List.length b))<|.need (jC (Int.toNat (a - (1:Int))) (List.length b))<|.leaf (.inl ((List.getD b (Int.toNat (a - (1:Int))) 0) == (0:Int))))
    (.leaf (.inl false))
def Jj(a:Int)(b:Bool) :T ((Int)⊕((Int)⊕(jI))) :=
  .ask b
    (.need (d8 .i64 (a - (1:Int)))<|.leaf (.inl (a - (1:Int))))
    (.leaf (.inr (.inl a)))
def Jk(b:List Int) :Int→Option ((Int)⊕((Int)⊕(jI))):=fun a =>
  aC ((tB b a).run) fun c =>
  (Jj a c).run
theorem ah3(c:Lv)(a:List Int)(b:Int) :Sg prog [] Ji (vN c a b) (Jk a b) (vN c a) (aN 0 z5 uC):=by
  unfold Jk;exact Sg.cut 1 (aI Ft) (Sg.seg (C:=C0) an uB 60 (Ji.take 1) (vN c a b) (tB a b) (Xh c a b) (aN 0 z5 uC) [⟨[],[],[0,3,15]⟩,⟨[],[],[0,3,15]⟩] (by kernel_rfl)) (fun d=>by exact Sg.seg (C:=C0) an uB 60 (Ji.drop 1) (Xh c a b d) (Jj b d) (vN c a) (aN 0 z5 uC) [⟨[],[],[0,3]⟩,⟨[],[],[3]⟩] (by kernel_rfl))
def aly:Int→aL:=z5
def SH(a:Int) :T ((Empty)⊕(jI)) :=
  .leaf (.inr (.r0 (decide (a≤(4096:Int)))))
def y5(a:List Int) :Option jI:=ld (aC ((SG).run) fun _ =>
  aC (dM (Jk a) (((List.length a):Nat):Int)) fun b =>
  (SH b).run)
theorem alz(c:Lv)(b:List Int){x:jI}(h:y5 b=some x) :aw prog pE [] [.imm c (.ns .u64 b) 1 1 0 (List.length b)] (O2 x) :=
  Sg.contract true O2 (by kernel_rfl:prog.funcs[pE]? = some (FN pE)) (by kernel_rfl:(FN pE).body=some (bi pE)) (Sg.cut 2 Ft (Sg.seg (C:=C0) an uB 60 (wZ.take 2) (aT (FN pE) [] [.imm c (.ns .u64 b) 1 1 0 (List.length b)]) (SG) (Xg c b) uC [⟨[],[],[0,3]⟩] (by kernel_rfl)) (fun a=>by cases a;exact Sg.cut 1 Ft (Sg.pre ⟨[],[],[0,3]⟩ rfl (by kernel_rfl:NS.on ⟨[],[],[0,3]⟩ (Xg c b ())=(vN c b) (((List.length b):Nat):Int)) (bU (I:=(vN c b)) (J:=(z5)) (id:=0) (by kernel_rfl:((wZ.drop 2).take 1) = [.block 0 (.loop (bK ((((wZ.drop 2).take 1)).headD .skip)))]) Ft (alx _) (fun s=>by exact ah3 c b s) (((List.length b):Nat):Int))) (fun d=>by exact Sg.seg (C:=C0) an uB 60 ((wZ.drop 2).drop 1) (aly d) (SH d) (fun a:Empty=>a.elim) uC [⟨[],[],[2]⟩] (by kernel_rfl))))
    (fun x=>by cases x with | r0 e=>exact ⟨.inr rfl,[.bool false e],[],by kernel_rfl,trivial,by kernel_rfl⟩) h
def Fu:Option jI→Bool
  | some _=>true
  | none=>false
def GI:Option jI→Bool
  | some (.r0 x)=>x
  | _=>false
theorem alA{x:Option jI}(h:Fu x=true) :x=some (.r0 (GI x)):=by
  unfold Fu at h
  split at h <;> first | rfl | (cases h;done) | (rename_i y;cases y;rfl)
def abE:aJ:=bW pE (.cons (.ns .u64) .nil) fun t=>[⟨O2 (.r0 (GI (y5 t.1.2))),[Fu (y5 t.1.2)]⟩]
theorem afK:aU prog abE:=aO fun t=>(aP (fun h=>alz t.1.1 t.1.2 (alA h)) aW)
def abF:List aJ:=abE :: abD
theorem GJ:aY prog (bb abF):=au afK uB
inductive pW where
  | r0 (a:Bool)
def O3:pW→AE×aL
  | .r0 a=>(.ret,⟨ah 16 [(2,.bool false a)],[],0⟩)
theorem alB:kR O3:=by intro x;cases x <;> (intro h;cases h)
def O4:pW→jc
  | .r0 a=>⟨.bool false a,[]⟩
def Xi:List Code:=bJ (bi pu)
def Xj(a:Bool) :aL:=⟨ah 16 [(2,.bool false a)],[],0⟩
def LY(a:List Int)(b:Int) :T ((Bool)⊕(pW)) :=
  .need (aQ 0 (List.length a) a)<|.need (Fu (y5 (aa 0 (List.length a) a)))<|.ask (GI (y5 (aa 0 (List.length a) a)))
    (.ask (decide (b ≥ (-262144:Int)))
      (.leaf (.inl (decide (b≤(262144:Int)))))
      (.leaf (.inl false)))
    (.leaf (.inl false))
def Xk(a:Bool) :T ((Empty)⊕(pW)) :=
  .leaf (.inr (.r0 a))
def dW(a:List Int)(b:Int) :Option pW:=ld (aC ((LY a b).run) fun c =>
  (Xk c).run)
theorem alC(d:Bool)(e:Lv)(b:List Int)(c:Int){x:pW}(h:dW b c=some x) :aw prog pu [] [.agg [.bool false d,.imm e (.ns .u64 b) 1 1 0 (List.length b),.int .i64 c]] (O4 x) :=
  Sg.contract true O4 (by kernel_rfl:prog.funcs[pu]? = some (FN pu)) (by kernel_rfl:(FN pu).body=some (bi pu)) (Sg.cut 2 alB (Sg.seg (C:=C0) an GJ 60 (Xi.take 2) (aT (FN pu) [] [.agg [.bool false d,.imm e (.ns .u64 b) 1 1 0 (List.length b),.int .i64 c]]) (LY b c) Xj O3 [⟨[],[],[2]⟩,⟨[],[],[2]⟩,⟨[],[],[2]⟩] (by kernel_rfl)) (fun f=>by exact Sg.seg (C:=C0) an GJ 60 (Xi.drop 2) (Xj f) (Xk f) (fun a:Empty=>a.elim) O3 [⟨[],[],[2]⟩] (by kernel_rfl)))
    (fun x=>by cases x with | r0 g=>exact ⟨.inr rfl,[.bool false g],[],by kernel_rfl,trivial,by kernel_rfl⟩) h
def j6:Option pW→Bool
  | some _=>true
  | none=>false
def i4:Option pW→Bool
  | some (.r0 x)=>x
  | _=>false
theorem alD{x:Option pW}(h:j6 x=true) :x=some (.r0 (i4 x)):=by
  unfold j6 at h
  split at h <;> first | rfl | (cases h;done) | (rename_i y;cases y;rfl)
def abG:aJ:=bW pu (.cons (.agg (.cons .bool (.cons (.ns .u64) (.cons (.int .i64) .nil)))) .nil) fun t=>[⟨O4 (.r0 (i4 (dW t.1.2.1.2 t.1.2.2.1))),[j6 (dW t.1.2.1.2 t.1.2.2.1)]⟩]
theorem afL:aU prog abG:=aO fun t=>(aP (fun h=>alC t.1.1 t.1.2.1.1 t.1.2.1.2 t.1.2.2.1 (alD h)) aW)
def abH:List aJ:=abG :: abF
theorem uD:aY prog (bb abH):=au afL GJ
inductive gB where
  | r0 (a:Bool) (b:List Int) (c:Nat) (d:Int)
def z6:gB→AE×aL
  | .r0 a b c d=>(.ret,⟨ah 28 [(2,.ptr 0 1 0 0)],[(0,.vs [.bool false a,.imm .free (.ns .u64 b) 1 1 0 c,.int .i64 d])],1⟩)
theorem Jl:kR z6:=by intro x;cases x <;> (intro h;cases h)
def LZ:gB→jc
  | .r0 a b c d=>⟨.agg [.bool false a,.imm .free (.ns .u64 b) 1 1 0 c,.int .i64 d],[]⟩
def CQ:List Code:=bJ (bi mM)
def SI(b:Bool)(c:Lv)(a:List Int)(d:Int) :(List Int)×Nat×Bool→aL:=fun (e,f,g)=>⟨ah 28 [(1,.ptr 0 1 0 0),(2,.ptr 1 1 0 0),(3,.imm .free (.ns .u64 e) 1 1 0 f)],[(0,.vs [.bool false b,.imm c (.ns .u64 a) 1 1 0 (List.length a),.int .i64 d]),(1,.vs [.bool false g,.nsl,.int .i64 (0:Int)])],2⟩
def CR(a:List Int) :T (((List Int)×Nat×Bool)⊕(gB)) :=
  .need (aQ 0 (List.length a) a)<|.need (lI (cQ (aa 0 (List.length a) a)))<|.leaf (.inl ((kC (cQ (aa 0 (List.length a) a))),(kB (cQ (aa 0 (List.length a) a))),false))
def SJ(b:Bool)(c:Lv)(a:List Int)(d:Int)(e:List Int)(f:Nat)(g:Bool)(h:Nat) :aL:=⟨ah 28 [(1,.ptr 0 1 0 0),(2,.ptr 1 1 0 0),(3,.imm .free (.ns .u64 e) 1 1 0 f),(4,.int .i64 ((h:Nat):Int))],[(0,.vs [.bool false b,.imm c (.ns .u64 a) 1 1 0 (List.length a),.int .i64 d]),(1,.vs [.bool false g,.nsl,.int .i64 (0:Int)])],2⟩
def CS(b:List Int)(a:Nat) :T ((Nat)⊕(gB)) :=
  .ask (((a:Nat):Int) == (0:Int))
    (.leaf (.inr (.r0 false ([]:List Int) 0 (0:Int))))
    (.need (aQ 0 a b)<|.need (z4 (tx (aa 0 a b)))<|.leaf (.inl (BI (tx (aa 0 a b)))))
def SK(b:Bool)(c:Lv)(a:List Int)(d:Int)(e:Bool)(f:Nat) :(List Int)×Nat→aL:=fun (g,h)=>⟨ah 28 [(1,.ptr 0 1 0 0),(2,.ptr 1 1 0 0),(3,.imm .free (.ns .u64 g) 1 1 0 h),(4,.int .i64 ((f:Nat):Int))],[(0,.vs [.bool false b,.imm c (.ns .u64 a) 1 1 0 (List.length a),.int .i64 d]),(1,.vs [.bool false e,.nsl,.int .i64 (0:Int)])],2⟩
def CT(a:List Int)(b:Nat)(c:Nat) :T (((List Int)×Nat)⊕(gB)) :=
  .need (aQ 0 b a)<|.need (Fq (pV (aa 0 b a) ((c:Nat):Int)))<|.leaf (.inl ((GG (pV (aa 0 b a) ((c:Nat):Int))),(GH (pV (aa 0 b a) ((c:Nat):Int)))))
def SL(c:Bool)(a:Int)(b:Nat)(d:List Int)(e:Nat) :T ((Empty)⊕(gB)) :=
  .need (d8 .i64 (a+((b:Nat):Int)))<|.leaf (.inr (.r0 c d e (a+((b:Nat):Int))))
def aR(d:Bool)(e:List Int)(f:Int) :Option gB:=ld (aC ((CR e).run) fun (a,b,i) =>
  aC ((CS a b).run) fun c =>
  aC ((CT a b c).run) fun (g,h) =>
  (SL d f c g h).run)
theorem ah4(c:Bool)(e:Lv)(b:List Int)(d:Int){x:gB}(h:aR c b d=some x) :aw prog mM [] [.agg [.bool false c,.imm e (.ns .u64 b) 1 1 0 (List.length b),.int .i64 d]] (LZ x) :=
  Sg.contract true LZ (by kernel_rfl:prog.funcs[mM]? = some (FN mM)) (by kernel_rfl:(FN mM).body=some (bi mM)) (Sg.cut 2 Jl (Sg.seg (C:=C0) an uD 60 (CQ.take 2) (aT (FN mM) [] [.agg [.bool false c,.imm e (.ns .u64 b) 1 1 0 (List.length b),.int .i64 d]]) (CR b) (SI c e b d) z6 [⟨[],[0,16],[1,2,3]⟩] (by kernel_rfl)) (fun a=>by obtain ⟨f,g,i⟩:=a;exact Sg.cut 3 Jl (Sg.seg (C:=C0) an uD 60 ((CQ.drop 2).take 3) (SI c e b d (f,g,i)) (CS f g) (SJ c e b d f g i) z6 [⟨[(.cell 1 1,.fre 1 1 (.ns .u64 ([]:List Int)))],[1],[2]⟩,⟨[],[0,1],[1,2,3,4]⟩] (by kernel_rfl)) (fun j=>by exact Sg.cut 1 Jl (Sg.seg (C:=C0) an uD 60 (((CQ.drop 2).drop 3).take 1) (SJ c e b d f g i j) (CT f g j) (SK c e b d i j) z6 [⟨[],[0,1],[1,2,3,4]⟩] (by kernel_rfl)) (fun a=>by obtain ⟨k,l⟩:=a;exact Sg.seg (C:=C0) an uD 60 (((CQ.drop 2).drop 3).drop 1) (SK c e b d i j (k,l)) (SL c d j k l) (fun a:Empty=>a.elim) z6 [⟨[],[1],[2]⟩] (by kernel_rfl)))))
    (fun x=>by cases x with | r0 m n o p=>exact ⟨.inr rfl,[.agg [.bool false m,.imm .free (.ns .u64 n) 1 1 0 o,.int .i64 p]],[],by kernel_rfl,trivial,by kernel_rfl⟩) h
def gg:Option gB→Bool
  | some _=>true
  | none=>false
def fq:Option gB→Bool
  | some (.r0 x _ _ _)=>x
  | _=>false
def fu:Option gB→List Int
  | some (.r0 _ x _ _)=>x
  | _=>[]
def fv:Option gB→Nat
  | some (.r0 _ _ x _)=>x
  | _=>0
def fw:Option gB→Int
  | some (.r0 _ _ _ x)=>x
  | _=>0
theorem ah5{x:Option gB}(h:gg x=true) :x=some (.r0 (fq x) (fu x) (fv x) (fw x)):=by
  unfold gg at h
  split at h <;> first | rfl | (cases h;done) | (rename_i y;cases y;rfl)
def Xl:aJ:=bW mM (.cons (.agg (.cons .bool (.cons (.ns .u64) (.cons (.int .i64) .nil)))) .nil) fun t=>[⟨LZ (.r0 (fq (aR t.1.1 t.1.2.1.2 t.1.2.2.1)) (fu (aR t.1.1 t.1.2.1.2 t.1.2.2.1)) (fv (aR t.1.1 t.1.2.1.2 t.1.2.2.1)) (fw (aR t.1.1 t.1.2.1.2 t.1.2.2.1))),[gg (aR t.1.1 t.1.2.1.2 t.1.2.2.1)]⟩]
theorem acI:aU prog Xl:=aO fun t=>(aP (fun h=>ah4 t.1.1 t.1.2.1.1 t.1.2.1.2 t.1.2.2.1 (ah5 h)) aW)
def Xm:List aJ:=Xl :: abH
theorem Ej:aY prog (bb Xm):=au acI uD
inductive pX where
  | r0 (a:Bool)
def O5:pX→AE×aL
  | .r0 a=>(.ret,⟨ah 31 [(4,.bool false a)],[],0⟩)
theorem alE:kR O5:=by intro x;cases x <;> (intro h;cases h)
def O6:pX→jc
  | .r0 a=>⟨.bool false a,[]⟩
def Xn:List Code:=bJ (bi py)
def Xo(a:Bool) :aL:=⟨ah 31 [(4,.bool false a)],[],0⟩
def L0(c:List Int)(a:Int)(d:List Int)(b:Int) :T ((Bool)⊕(pX)) :=
  .ask (decide ((((List.length c):Nat):Int) > (0:Int)))
    (.ask (decide ((((List.length d):Nat):Int) > (0:Int)))
      (.need (d8 .i64 (a - b))<|.ask (decide ((a - b) > (262144:Int)))
        (.leaf (.inl true))
        (.need (d8 .i64 (b - a))<|.leaf (.inl (decide ((b - a) > (262144:Int))))))
      (.leaf (.inl false)))
    (.leaf (.inl false))
def Xp(a:Bool) :T ((Empty)⊕(pX)) :=
  .leaf (.inr (.r0 a))
def rI(a:List Int)(b:Int)(c:List Int)(d:Int) :Option pX:=ld (aC ((L0 a b c d).run) fun e =>
  (Xp e).run)
theorem alF(f:Bool)(g:Lv)(b:List Int)(d:Int)(i:Bool)(j:Lv)(c:List Int)(e:Int){x:pX}(h:rI b d c e=some x) :aw prog py [] [.agg [.bool false f,.imm g (.ns .u64 b) 1 1 0 (List.length b),.int .i64 d],.agg [.bool false i,.imm j (.ns .u64 c) 1 1 0 (List.length c),.int .i64 e]] (O6 x) :=
  Sg.contract true O6 (by kernel_rfl:prog.funcs[py]? = some (FN py)) (by kernel_rfl:(FN py).body=some (bi py)) (Sg.cut 2 alE (Sg.seg (C:=C0) an Ej 60 (Xn.take 2) (aT (FN py) [] [.agg [.bool false f,.imm g (.ns .u64 b) 1 1 0 (List.length b),.int .i64 d],.agg [.bool false i,.imm j (.ns .u64 c) 1 1 0 (List.length c),.int .i64 e]]) (L0 b d c e) Xo O5 [⟨[],[],[4]⟩,⟨[],[],[4]⟩,⟨[],[],[4]⟩,⟨[],[],[4]⟩] (by kernel_rfl)) (fun k=>by exact Sg.seg (C:=C0) an Ej 60 (Xn.drop 2) (Xo k) (Xp k) (fun a:Empty=>a.elim) O5 [⟨[],[],[4]⟩] (by kernel_rfl)))
    (fun x=>by cases x with | r0 l=>exact ⟨.inr rfl,[.bool false l],[],by kernel_rfl,trivial,by kernel_rfl⟩) h
def z7:Option pX→Bool
  | some _=>true
  | none=>false
def z8:Option pX→Bool
  | some (.r0 x)=>x
  | _=>false
theorem alG{x:Option pX}(h:z7 x=true) :x=some (.r0 (z8 x)):=by
  unfold z7 at h
  split at h <;> first | rfl | (cases h;done) | (rename_i y;cases y;rfl)
def abI:aJ:=bW py (.cons (.agg (.cons .bool (.cons (.ns .u64) (.cons (.int .i64) .nil)))) (.cons (.agg (.cons .bool (.cons (.ns .u64) (.cons (.int .i64) .nil)))) .nil)) fun t=>[⟨O6 (.r0 (z8 (rI t.1.2.1.2 t.1.2.2.1 t.2.1.2.1.2 t.2.1.2.2.1))),[z7 (rI t.1.2.1.2 t.1.2.2.1 t.2.1.2.1.2 t.2.1.2.2.1)]⟩]
theorem afM:aU prog abI:=aO fun t=>(aP (fun h=>alF t.1.1 t.1.2.1.1 t.1.2.1.2 t.1.2.2.1 t.2.1.1 t.2.1.2.1.1 t.2.1.2.1.2 t.2.1.2.2.1 (alG h)) aW)
def abJ:List aJ:=abI :: Xm
theorem q8:aY prog (bb abJ):=au afM Ej
inductive eF where
  | r0 (a:List Int) (b:Nat) (c:List Int) (d:Nat) (e:Int)
def tC(a:Lv)(b:Lv) :eF→AE×aL
  | .r0 c d e f g=>(.ret,⟨ah 54 [(4,.imm a (.ns .u64 c) 1 1 0 d),(5,.imm b (.ns .u64 e) 1 1 0 f),(6,.int .i64 g)],[],0⟩)
theorem z9{a:Lv}{b:Lv} :kR (tC a b):=by intro x;cases x <;> (intro h;cases h)
def Jm(a:Lv)(b:Lv) :eF→jc
  | .r0 c d e f g=>⟨.tup [.imm a (.ns .u64 c) 1 1 0 d,.imm b (.ns .u64 e) 1 1 0 f,.int .i64 g],[]⟩
def uE:List Code:=bJ (bi lC)
def O7(c:Bool)(d:Lv)(a:List Int)(e:Int)(f:Bool)(g:Lv)(b:List Int)(h:Int)(i:Int) :aL:=⟨ah 54 [(2,.ptr 0 1 0 0),(3,.ptr 1 1 0 0),(7,.int .i64 i)],[(0,.vs [.bool false c,.imm d (.ns .u64 a) 1 1 0 (List.length a),.int .i64 e]),(1,.vs [.bool false f,.imm g (.ns .u64 b) 1 1 0 (List.length b),.int .i64 h])],2⟩
def om(b:List Int)(c:Int)(a:Int) :T ((Int)⊕(eF)) :=
  .ask ((((List.length b):Nat):Int) == (0:Int))
    (.leaf (.inl a))
    (.leaf (.inl (ws c a)))
def O8(c:Bool)(d:Lv)(a:List Int)(e:Int)(f:Bool)(g:Lv)(b:List Int)(h:Int)(i:Int) :aL:=⟨ah 54 [(2,.ptr 0 1 0 0),(3,.ptr 1 1 0 0),(7,.int .i64 i)],[(0,.vs [.bool false c,.imm d (.ns .u64 a) 1 1 0 (List.length a),.int .i64 e]),(1,.vs [.bool false f,.imm g (.ns .u64 b) 1 1 0 (List.length b),.int .i64 h])],2⟩
def oo(a:Int)(b:List Int)(c:Int) :T ((Int)⊕(eF)) :=
  .ask ((((List.length b):Nat):Int) == (0:Int))
    (.leaf (.inl a))
    (.leaf (.inl c))
def O9(c:Lv)(d:Bool)(b:Lv)(a:List Int)(e:Int)(f:Int) :(List Int)×Nat→aL:=fun (g,h)=>⟨ah 54 [(3,.ptr 0 1 0 0),(7,.int .i64 f),(8,.imm c (.ns .u64 g) 1 1 0 h),(9,.imm b (.ns .u64 a) 1 1 0 (List.length a))],[(0,.vs [.bool false d,.imm b (.ns .u64 a) 1 1 0 (List.length a),.int .i64 e])],1⟩
def uF(a:List Int)(b:Int)(c:Int) :T (((List Int)×Nat)⊕(eF)) :=
  .ask (decide (b > c))
    (.need (d8 .i64 (b - c))<|.need (aQ 0 (List.length a) a)<|.need (zX (jH (aa 0 (List.length a) a) (b - c)))<|.leaf (.inl ((zY (jH (aa 0 (List.length a) a) (b - c))),(zZ (jH (aa 0 (List.length a) a) (b - c))))))
    (.leaf (.inl (a,(List.length a))))
def Pa(a:Lv)(b:Lv)(c:Int)(d:List Int)(e:Nat) :(List Int)×Nat→aL:=fun (f,g)=>⟨ah 54 [(7,.int .i64 c),(8,.imm a (.ns .u64 d) 1 1 0 e),(9,.imm b (.ns .u64 f) 1 1 0 g)],[],0⟩
def uG(a:List Int)(b:Int)(c:Int) :T (((List Int)×Nat)⊕(eF)) :=
  .ask (decide (b > c))
    (.need (d8 .i64 (b - c))<|.need (aQ 0 (List.length a) a)<|.need (zX (jH (aa 0 (List.length a) a) (b - c)))<|.leaf (.inl ((zY (jH (aa 0 (List.length a) a) (b - c))),(zZ (jH (aa 0 (List.length a) a) (b - c))))))
    (.leaf (.inl (a,(List.length a))))
def MU(a:Int)(b:List Int)(c:Nat)(d:List Int)(e:Nat) :T ((Empty)⊕(eF)) :=
  .leaf (.inr (.r0 b c d e a))
def c9(c:List Int)(a:Int)(d:List Int)(e:Int) :Option eF:=ld (aC ((om c a e).run) fun f =>
  aC ((oo a d f).run) fun b =>
  aC ((uF c a b).run) fun (g,h) =>
  aC ((uG d e b).run) fun (i,j) =>
  (MU b g h i j).run)
theorem afN(k:Bool)(b:Lv)(e:List Int)(g:Int)(i:Bool)(c:Lv)(d:List Int)(f:Int){x:eF}(h:c9 e g d f=some x) :aw prog lC [] [.agg [.bool false k,.imm b (.ns .u64 e) 1 1 0 (List.length e),.int .i64 g],.agg [.bool false i,.imm c (.ns .u64 d) 1 1 0 (List.length d),.int .i64 f]] (Jm b c x) :=
  Sg.contract true (Jm b c) (by kernel_rfl:prog.funcs[lC]? = some (FN lC)) (by kernel_rfl:(FN lC).body=some (bi lC)) (Sg.cut 4 z9 (Sg.seg (C:=C0) an q8 60 (uE.take 4) (aT (FN lC) [] [.agg [.bool false k,.imm b (.ns .u64 e) 1 1 0 (List.length e),.int .i64 g],.agg [.bool false i,.imm c (.ns .u64 d) 1 1 0 (List.length d),.int .i64 f]]) (om e g f) (O7 k b e g i c d f) (tC b c) [⟨[],[0,16],[2,3,7]⟩,⟨[],[0,16],[2,3,7]⟩] (by kernel_rfl)) (fun n=>by exact Sg.cut 2 z9 (Sg.seg (C:=C0) an q8 60 ((uE.drop 4).take 2) (O7 k b e g i c d f n) (oo g d n) (O8 k b e g i c d f) (tC b c) [⟨[],[0,1],[2,3,7]⟩,⟨[],[0,1],[2,3,7]⟩] (by kernel_rfl)) (fun j=>by exact Sg.cut 3 z9 (Sg.seg (C:=C0) an q8 60 (((uE.drop 4).drop 2).take 3) (O8 k b e g i c d f j) (uF e g j) (O9 b i c d f j) (tC b c) [⟨[(.slot 8,.lev b)],[1],[3,7,8,9]⟩,⟨[],[1],[3,7,8,9]⟩] (by kernel_rfl)) (fun a=>by obtain ⟨l,m⟩:=a;exact Sg.cut 2 z9 (Sg.seg (C:=C0) an q8 60 ((((uE.drop 4).drop 2).drop 3).take 2) (O9 b i c d f j (l,m)) (uG d f j) (Pa b c j l m) (tC b c) [⟨[(.slot 9,.lev c)],[],[7,8,9]⟩,⟨[],[],[7,8,9]⟩] (by kernel_rfl)) (fun a=>by obtain ⟨o,p⟩:=a;exact Sg.seg (C:=C0) an q8 60 ((((uE.drop 4).drop 2).drop 3).drop 2) (Pa b c j l m (o,p)) (MU j l m o p) (fun a:Empty=>a.elim) (tC b c) [⟨[],[],[4,5,6]⟩] (by kernel_rfl))))))
    (fun x=>by cases x with | r0 q r s t u=>exact ⟨.inr rfl,[.imm b (.ns .u64 q) 1 1 0 r,.imm c (.ns .u64 s) 1 1 0 t,.int .i64 u],[],by kernel_rfl,trivial,by kernel_rfl⟩) h
def uH:Option eF→Bool
  | some _=>true
  | none=>false
def vO:Option eF→List Int
  | some (.r0 x _ _ _ _)=>x
  | _=>[]
def vP:Option eF→Nat
  | some (.r0 _ x _ _ _)=>x
  | _=>0
def vQ:Option eF→List Int
  | some (.r0 _ _ x _ _)=>x
  | _=>[]
def vR:Option eF→Nat
  | some (.r0 _ _ _ x _)=>x
  | _=>0
def BJ:Option eF→Int
  | some (.r0 _ _ _ _ x)=>x
  | _=>0
theorem afO{x:Option eF}(h:uH x=true) :x=some (.r0 (vO x) (vP x) (vQ x) (vR x) (BJ x)):=by
  unfold uH at h
  split at h <;> first | rfl | (cases h;done) | (rename_i y;cases y;rfl)
def SM:aJ:=bW lC (.cons (.agg (.cons .bool (.cons (.ns .u64) (.cons (.int .i64) .nil)))) (.cons (.agg (.cons .bool (.cons (.ns .u64) (.cons (.int .i64) .nil)))) .nil)) fun t=>[⟨Jm t.1.2.1.1 t.2.1.2.1.1 (.r0 (vO (c9 t.1.2.1.2 t.1.2.2.1 t.2.1.2.1.2 t.2.1.2.2.1)) (vP (c9 t.1.2.1.2 t.1.2.2.1 t.2.1.2.1.2 t.2.1.2.2.1)) (vQ (c9 t.1.2.1.2 t.1.2.2.1 t.2.1.2.1.2 t.2.1.2.2.1)) (vR (c9 t.1.2.1.2 t.1.2.2.1 t.2.1.2.1.2 t.2.1.2.2.1)) (BJ (c9 t.1.2.1.2 t.1.2.2.1 t.2.1.2.1.2 t.2.1.2.2.1))),[uH (c9 t.1.2.1.2 t.1.2.2.1 t.2.1.2.1.2 t.2.1.2.2.1)]⟩]
theorem Zz:aU prog SM:=aO fun t=>(aP (fun h=>afN t.1.1 t.1.2.1.1 t.1.2.1.2 t.1.2.2.1 t.2.1.1 t.2.1.2.1.1 t.2.1.2.1.2 t.2.1.2.2.1 (afO h)) aW)
def SN:List aJ:=SM :: abJ
theorem vS:aY prog (bb SN):=au Zz q8
end
end Go.Plb.Seat
