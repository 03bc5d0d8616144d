/-
  Part 3 of what the claim leans on: an evaluator of the model, proved sound; the contracts of the functions.
-/
import Derived.Test.YthikcnkmglbbbaaGreatDoorA2
namespace Go.Plb.Seat
open Go Go.Plb
set_option linter.unusedVariables false
set_option maxRecDepth 100000
noncomputable section
inductive cO where
  | r0 (a:Int)
def B5:cO→AE×aC
  | .r0 a=>(.ret,⟨ag 14 [(2,.int .i64 a)],[],0⟩)
def lJ:cO→ju
  | .r0 a=>⟨.int .i64 a,[]⟩
def Bd:List Code:=bD (bp cN)
def kW(a:Int) :T ((Empty)⊕(cO)) :=
  .ask (a == (0:Int))
    (.leaf (.inr (.r0 (64:Int))))
    (.need (decide ((0:Int)≤(58:Int)))<|.need (iE (Int.fdiv (IntKind.u64.wrap ((gE .and .u64 a (IntKind.u64.wrap ((0:Int) - a))) * (285870213051353865:Int))) (2 ^ (min (Int.toNat (58:Int)) (IntKind.u64.bits)))) 64)<|.need (iX (kN (kN 0 (Ys (Int.toNat (Int.fdiv (IntKind.u64.wrap ((gE .and .u64 a (IntKind.u64.wrap ((0:Int) - a))) * (285870213051353865:Int))) (2 ^ (min (Int.toNat (58:Int)) (IntKind.u64.bits))))) 1)) 0) (List.length bh))<|.leaf (.inr (.r0 (IntKind.i64.wrap (List.getD bh (kN (kN 0 (Ys (Int.toNat (Int.fdiv (IntKind.u64.wrap ((gE .and .u64 a (IntKind.u64.wrap ((0:Int) - a))) * (285870213051353865:Int))) (2 ^ (min (Int.toNat (58:Int)) (IntKind.u64.bits))))) 1)) 0) 0)))))
def dn(a:Int) :Option cO:=l6 ((kW a).run)
theorem Be(b:Int){x:cO}(h:dn b=some x) :ak prog cN [] [.int .u64 b] (lJ x) :=
  Sg.contract false lJ (by kernel_rfl:prog.funcs[cN]? = some (FN cN)) (by kernel_rfl:(FN cN).body=some (bp cN)) (Sg.seg (C:=C0) ah aoF 60 Bd (aL (FN cN) [] [.int .u64 b]) (kW b) (fun a:Empty=>a.elim) B5 [⟨[],[],[2]⟩,⟨[],[],[2]⟩] (by kernel_rfl))
    (fun x=>by cases x with | r0 c=>exact ⟨.inr rfl,[.int .i64 c],[],by kernel_rfl,trivial,by kernel_rfl⟩) h
def eV:Option cO→Bool
  | some _=>true
  | none=>false
def eC:Option cO→Int
  | some (.r0 x)=>x
  | _=>0
theorem Bf{x:Option cO}(h:eV x=true) :x=some (.r0 (eC x)):=by
  unfold eV at h
  split at h <;> first | rfl | (cases h;done) | (rename_i y;cases y;rfl)
def rT:aD:=bW cN (.cons (.int .u64) .nil) fun t=>[⟨lJ (.r0 (eC (dn t.1))),[eV (dn t.1)]⟩]
theorem yR:aM prog rT:=aG fun t=>(aH (fun h=>Be t.1 (Bf h)) aR)
def rU:List aD:=rT :: L3
theorem jQ:aX prog (aZ rU):=am yR aoF
inductive eJ where
  | r0 (a:Int) (b:Int)
def xp:eJ→AE×aC
  | .r0 a b=>(.ret,⟨ag 51 [(4,.int .u64 a),(5,.int .u64 b)],[],0⟩)
theorem P0:lc xp:=by intro x;cases x <;> (intro h;cases h)
def xq:eJ→ju
  | .r0 a b=>⟨.tup [.int .u64 a,.int .u64 b],[]⟩
def C9:List Code:=bD (bp gP)
def Da(a:Int)(b:Int) :Int×Int×Int×Int→aC:=fun (c,d,e,f)=>⟨ag 51 [(0,.int .u64 a),(1,.int .u64 b),(6,.int .u64 c),(7,.int .u64 d),(9,.int .u64 e),(11,.int .u64 f)],[],0⟩
def wd(a:Int)(b:Int) :T ((Int×Int×Int×Int)⊕(eJ)) :=
  .need (decide ((0:Int)≤(32:Int)))<|.need (decide ((0:Int)≤(32:Int)))<|.need (decide ((0:Int)≤(32:Int)))<|.leaf (.inl ((gE .and .u64 a (4294967295:Int)),(Int.fdiv a (2 ^ (min (Int.toNat (32:Int)) (IntKind.u64.bits)))),(Int.fdiv b (2 ^ (min (Int.toNat (32:Int)) (IntKind.u64.bits)))),(IntKind.u64.wrap ((IntKind.u64.wrap ((Int.fdiv a (2 ^ (min (Int.toNat (32:Int)) (IntKind.u64.bits)))) * (gE .and .u64 b (4294967295:Int))))+(Int.fdiv (IntKind.u64.wrap ((gE .and .u64 a (4294967295:Int)) * (gE .and .u64 b (4294967295:Int)))) (2 ^ (min (Int.toNat (32:Int)) (IntKind.u64.bits))))))))
def qt(c:Int)(d:Int)(e:Int)(f:Int)(a:Int)(b:Int) :T ((Empty)⊕(eJ)) :=
  .need (decide ((0:Int)≤(32:Int)))<|.need (decide ((0:Int)≤(32:Int)))<|.leaf (.inr (.r0 (IntKind.u64.wrap ((IntKind.u64.wrap ((IntKind.u64.wrap (f * a))+(Int.fdiv b (2 ^ (min (Int.toNat (32:Int)) (IntKind.u64.bits))))))+(Int.fdiv (IntKind.u64.wrap ((gE .and .u64 b (4294967295:Int))+(IntKind.u64.wrap (e * a)))) (2 ^ (min (Int.toNat (32:Int)) (IntKind.u64.bits)))))) (IntKind.u64.wrap (c * d))))
def eK(a:Int)(b:Int) :Option eJ:=l6 (ax ((wd a b).run) fun (c,d,e,f) =>
  (qt a b c d e f).run)
theorem P3(b:Int)(c:Int){x:eJ}(h:eK b c=some x) :ak prog gP [] [.int .u64 b,.int .u64 c] (xq x) :=
  Sg.contract false xq (by kernel_rfl:prog.funcs[gP]? = some (FN gP)) (by kernel_rfl:(FN gP).body=some (bp gP)) (Sg.cut 7 P0 (Sg.seg (C:=C0) ah jQ 60 (C9.take 7) (aL (FN gP) [] [.int .u64 b,.int .u64 c]) (wd b c) (Da b c) xp [⟨[],[],[0,1,6,7,9,11]⟩] (by kernel_rfl)) (fun a=>by obtain ⟨d,e,f,g⟩:=a;exact Sg.seg (C:=C0) ah jQ 60 (C9.drop 7) (Da b c (d,e,f,g)) (qt b c d e f g) (fun a:Empty=>a.elim) xp [⟨[],[],[4,5]⟩] (by kernel_rfl)))
    (fun x=>by cases x with | r0 i j=>exact ⟨.inr rfl,[.int .u64 i,.int .u64 j],[],by kernel_rfl,trivial,by kernel_rfl⟩) h
def mS:Option eJ→Bool
  | some _=>true
  | none=>false
def oq:Option eJ→Int
  | some (.r0 x _)=>x
  | _=>0
def iH:Option eJ→Int
  | some (.r0 _ x)=>x
  | _=>0
theorem P4{x:Option eJ}(h:mS x=true) :x=some (.r0 (oq x) (iH x)):=by
  unfold mS at h
  split at h <;> first | rfl | (cases h;done) | (rename_i y;cases y;rfl)
def EC:aD:=bW gP (.cons (.int .u64) (.cons (.int .u64) .nil)) fun t=>[⟨xq (.r0 (oq (eK t.1 t.2.1)) (iH (eK t.1 t.2.1))),[mS (eK t.1 t.2.1)]⟩]
theorem JQ:aM prog EC:=aG fun t=>(aH (fun h=>P3 t.1 t.2.1 (P4 h)) aR)
def ED:List aD:=EC :: rU
theorem kv:aX prog (aZ ED):=am JQ jQ
inductive jR where
  | r0 (a:List Int) (b:Nat)
def we(a:Lv) :jR→AE×aC
  | .r0 b c=>(.ret,⟨ag 21 [(2,.imm a (.ns .u64 b) 1 1 0 c)],[],0⟩)
theorem EE{a:Lv} :lc (we a):=by intro x;cases x <;> (intro h;cases h)
theorem ahO{a:Lv}(id:Nat) :qp id (we a):=by intro x;cases x <;> (intro h;cases h)
def P5(a:Lv) :jR→ju
  | .r0 b c=>⟨.imm a (.ns .u64 b) 1 1 0 c,[]⟩
def AR:List Code:=bD (bp fJ)
def Vx(b:Lv)(a:List Int)(_:Unit) :aC:=⟨ag 21 [(0,.imm b (.ns .u64 a) 1 1 0 (List.length a))],[],0⟩
def Vy:T ((Unit)⊕(jR)) :=
  .leaf (.inl ())
def wD(a:Lv)(b:List Int)(c:Nat) :aC:=⟨ag 21 [(0,.imm a (.ns .u64 b) 1 1 0 c)],[],0⟩
def AS(a:Lv)(b:List Int)(c:Nat) :aC:=⟨ag 21 [(0,.imm a (.ns .u64 b) 1 1 0 c)],[],0⟩
def Hs:List Code:=bD (bE ((((AR.drop 1).take 1)).headD .skip))
def Vz(a:Lv)(b:List Int)(c:Nat)(d:Bool) :aC:=⟨ag 21 [(0,.imm a (.ns .u64 b) 1 1 0 c),(14,.bool false d)],[],0⟩
def tq(b:List Int)(a:Nat) :T ((Bool)⊕((Nat)⊕(jR))) :=
  .ask (decide (((a:Nat):Int) > (0:Int)))
    (.need (dP .i64 (((a:Nat):Int) - (1:Int)))<|.need (iE (((a:Nat):Int) - (1:Int)) a)<|.need (iX (Int.toNat (((a:Nat):Int) - (1:Int))) (List.length b))<|.leaf (.inl ((List.getD b (Int.toNat (((a:Nat):Int) - (1:Int))) 0) == (0:Int))))
    (.leaf (.inl false))
def Ht(a:Nat)(b:Bool) :T ((Nat)⊕((Nat)⊕(jR))) :=
  .ask b
    (.need (dP .i64 (((a:Nat):Int) - (1:Int)))<|.need (MI (((a:Nat):Int) - (1:Int)) a)<|.need (MI (0:Int) (Int.toNat (((a:Nat):Int) - (1:Int))))<|.leaf (.inl (Int.toNat (((a:Nat):Int) - (1:Int)))))
    (.leaf (.inr (.inl a)))
def Hu(b:List Int) :Nat→Option ((Nat)⊕((Nat)⊕(jR))):=fun a =>
  ax ((tq b a).run) fun c =>
  (Ht a c).run
theorem afc(a:Lv)(b:List Int)(c:Nat) :Sg prog [] Hs (wD a b c) (Hu b c) (wD a b) (aO 0 (AS a b) (we a)):=by
  unfold Hu;exact Sg.cut 1 (aW EE) (Sg.seg (C:=C0) ah kv 60 (Hs.take 1) (wD a b c) (tq b c) (Vz a b c) (aO 0 (AS a b) (we a)) [⟨[],[],[0,14]⟩,⟨[],[],[0,14]⟩] (by kernel_rfl)) (fun d=>by exact Sg.seg (C:=C0) ah kv 60 (Hs.drop 1) (Vz a b c d) (Ht c d) (wD a b) (aO 0 (AS a b) (we a)) [⟨[],[],[0]⟩,⟨[],[],[0]⟩] (by kernel_rfl))
def ahP(a:Lv)(b:List Int) :Nat→aC:=AS a b
def Rs(a:List Int)(b:Nat) :T ((Empty)⊕(jR)) :=
  .leaf (.inr (.r0 a b))
def aw(a:List Int) :Option jR:=l6 (ax ((Vy).run) fun _ =>
  ax (dH (Hu a) (List.length a)) fun b =>
  (Rs a b).run)
theorem ahQ(c:Lv)(b:List Int){x:jR}(h:aw b=some x) :ak prog fJ [] [.imm c (.ns .u64 b) 1 1 0 (List.length b)] (P5 c x) :=
  Sg.contract false (P5 c) (by kernel_rfl:prog.funcs[fJ]? = some (FN fJ)) (by kernel_rfl:(FN fJ).body=some (bp fJ)) (Sg.cut 1 EE (Sg.seg (C:=C0) ah kv 60 (AR.take 1) (aL (FN fJ) [] [.imm c (.ns .u64 b) 1 1 0 (List.length b)]) (Vy) (Vx c b) (we c) [⟨[],[],[0]⟩] (by kernel_rfl)) (fun a=>by cases a;exact Sg.cut 1 EE (Sg.pre ⟨[],[],[0]⟩ rfl (by kernel_rfl:NS.on ⟨[],[],[0]⟩ (Vx c b ())=(wD c b) (List.length b)) (bT (I:=(wD c b)) (J:=(AS c b)) (id:=0) (by kernel_rfl:((AR.drop 1).take 1) = [.block 0 (.loop (bE ((((AR.drop 1).take 1)).headD .skip)))]) EE (ahO _) (fun s=>by exact afc c b s) (List.length b))) (fun d=>by exact Sg.seg (C:=C0) ah kv 60 ((AR.drop 1).drop 1) (ahP c b d) (Rs b d) (fun a:Empty=>a.elim) (we c) [⟨[],[],[2]⟩] (by kernel_rfl))))
    (fun x=>by cases x with | r0 e f=>exact ⟨.inr rfl,[.imm c (.ns .u64 e) 1 1 0 f],[],by kernel_rfl,trivial,by kernel_rfl⟩) h
def cD:Option jR→Bool
  | some _=>true
  | none=>false
def aU:Option jR→List Int
  | some (.r0 x _)=>x
  | _=>[]
def aF:Option jR→Nat
  | some (.r0 _ x)=>x
  | _=>0
theorem ahR{x:Option jR}(h:cD x=true) :x=some (.r0 (aU x) (aF x)):=by
  unfold cD at h
  split at h <;> first | rfl | (cases h;done) | (rename_i y;cases y;rfl)
def Zj:aD:=bW fJ (.cons (.ns .u64) .nil) fun t=>[⟨P5 t.1.1 (.r0 (aU (aw t.1.2)) (aF (aw t.1.2))),[cD (aw t.1.2)]⟩]
theorem abS:aM prog Zj:=aG fun t=>(aH (fun h=>ahQ t.1.1 t.1.2 (ahR h)) aR)
def Zk:List aD:=Zj :: ED
theorem Fk:aX prog (aZ Zk):=am abS kv
inductive mT where
  | r0 (a:Nat) (b:Nat) (c:List Int)
def P6:mT→AE×aC
  | .r0 a b c=>(.ret,⟨ag 12 [(2,.sl 0 1 1 0 a a),(3,.int .i64 ((b:Nat):Int))],[(0,.ns .u64 c)],1⟩)
theorem ahS:lc P6:=by intro x;cases x <;> (intro h;cases h)
def P7:mT→ju
  | .r0 a b c=>⟨.tup [.imm .free (.ns .u64 c) 1 1 0 a,.int .i64 ((b:Nat):Int)],[]⟩
def VA:List Code:=bD (bp qm)
def VB(a:Lv) :Nat×(List Int)×Nat→aC:=fun (b,c,d)=>⟨ag 12 [(1,.ptr 0 1 0 0),(4,.int .i64 ((b:Nat):Int))],[(0,.vs [.imm a (.ns .u64 c) 1 1 0 d])],1⟩
def EF(a:List Int) :T ((Nat×(List Int)×Nat)⊕(mT)) :=
  .ask (decide ((0:Int) < (1:Int)))
    (.need (iE (0:Int) 1)<|.need (aI 0 (List.length a) a)<|.need (cD (aw (aa 0 (List.length a) a)))<|.ask (decide ((((aF (aw (aa 0 (List.length a) a))):Nat):Int) > (4096:Int)))
      (.leaf (.inl (2,(aU (aw (aa 0 (List.length a) a))),(aF (aw (aa 0 (List.length a) a))))))
      (.need (dP .i64 (1:Int))<|.ask (decide ((1:Int) < (1:Int)))
        (.fail)
        (.leaf (.inl (0,(aU (aw (aa 0 (List.length a) a))),(aF (aw (aa 0 (List.length a) a))))))))
    (.fail)
def EG(c:Nat)(a:List Int)(b:Nat) :T ((Empty)⊕(mT)) :=
  .ask (((c:Nat):Int) != (0:Int))
    (.leaf (.inr (.r0 0 c ([]:List Int))))
    (.need (aI 0 b a)<|.need (yH (List.length (aa 0 b a)))<|.leaf (.inr (.r0 (List.length (aa 0 b a)) 0 (aa 0 b a))))
def mU(a:List Int) :Option mT:=l6 (ax ((EF a).run) fun (b,c,d) =>
  (EG b c d).run)
theorem ahT(c:Lv)(b:List Int){x:mT}(h:mU b=some x) :ak prog qm [] [.imm c (.ns .u64 b) 1 1 0 (List.length b)] (P7 x) :=
  Sg.contract true P7 (by kernel_rfl:prog.funcs[qm]? = some (FN qm)) (by kernel_rfl:(FN qm).body=some (bp qm)) (Sg.cut 2 ahS (Sg.seg (C:=C0) ah Fk 60 (VA.take 2) (aL (FN qm) [] [.imm c (.ns .u64 b) 1 1 0 (List.length b)]) (EF b) (VB c) P6 [⟨[],[0],[1,4]⟩,⟨[],[0],[1,4]⟩] (by kernel_rfl)) (fun a=>by obtain ⟨d,e,f⟩:=a;exact Sg.seg (C:=C0) ah Fk 60 (VA.drop 2) (VB c (d,e,f)) (EG d e f) (fun a:Empty=>a.elim) P6 [⟨[(.slot 2,.own 1 1 (.ns .u64 ([]:List Int)))],[81],[2,3]⟩,⟨[],[49],[2,3]⟩] (by kernel_rfl)))
    (fun x=>by cases x with | r0 g i j=>exact ⟨.inr rfl,[.sl 0 1 1 0 g g,.int .i64 ((i:Nat):Int)],[],by kernel_rfl,trivial,by kernel_rfl⟩) h
def AT:Option mT→Bool
  | some _=>true
  | none=>false
def Fl:Option mT→Nat
  | some (.r0 x _ _)=>x
  | _=>0
def Fm:Option mT→Nat
  | some (.r0 _ x _)=>x
  | _=>0
def Fo:Option mT→List Int
  | some (.r0 _ _ x)=>x
  | _=>[]
theorem ahU{x:Option mT}(h:AT x=true) :x=some (.r0 (Fl x) (Fm x) (Fo x)):=by
  unfold AT at h
  split at h <;> first | rfl | (cases h;done) | (rename_i y;cases y;rfl)
def Zl:aD:=bW qm (.cons (.ns .u64) .nil) fun t=>[⟨P7 (.r0 (Fl (mU t.1.2)) (Fm (mU t.1.2)) (Fo (mU t.1.2))),[AT (mU t.1.2)]⟩]
theorem abT:aM prog Zl:=aG fun t=>(aH (fun h=>ahT t.1.1 t.1.2 (ahU h)) aR)
def Zm:List aD:=Zl :: Zk
theorem uB:aX prog (aZ Zm):=am abT Fk
inductive dY where
  | r0 (a:Nat) (b:Nat) (c:Nat) (d:List Int)
def o6:dY→AE×aC
  | .r0 a b c d=>(.ret,⟨ag 21 [(2,.sl 0 1 1 a b c)],[(0,.ns .u64 d)],1⟩)
theorem xr:lc o6:=by intro x;cases x <;> (intro h;cases h)
theorem Zn(id:Nat) :qp id o6:=by intro x;cases x <;> (intro h;cases h)
def Fp:dY→ju
  | .r0 a b c d=>⟨.sl 0 1 1 a b c,[some (.ns .u64 d)]⟩
def sf:List Code:=bD (bp fJ)
def JR(a:List Int)(b:Nat)(c:Nat)(d:Nat)(_:Unit) :aC:=⟨ag 21 [(0,.sl 0 1 1 b c d)],[(0,.ns .u64 a)],1⟩
def JS:T ((Unit)⊕(dY)) :=
  .leaf (.inl ())
def py(a:List Int)(b:Nat) :Nat×Nat→aC:=fun (c,d)=>⟨ag 21 [(0,.sl 0 1 1 c d b)],[(0,.ns .u64 a)],1⟩
def sh(a:List Int)(b:Nat) :Nat×Nat→aC:=fun (c,d)=>⟨ag 21 [(0,.sl 0 1 1 c d b)],[(0,.ns .u64 a)],1⟩
def Bg:List Code:=bD (bE ((((sf.drop 1).take 1)).headD .skip))
def JT(a:List Int)(b:Nat)(c:Nat)(d:Nat)(e:Bool) :aC:=⟨ag 21 [(0,.sl 0 1 1 c d b),(14,.bool false e)],[(0,.ns .u64 a)],1⟩
def nq(b:List Int)(c:Nat)(a:Nat) :T ((Bool)⊕((Nat×Nat)⊕(dY))) :=
  .ask (decide (((a:Nat):Int) > (0:Int)))
    (.need (dP .i64 (((a:Nat):Int) - (1:Int)))<|.need (iE (((a:Nat):Int) - (1:Int)) a)<|.need (iX (kN c (Int.toNat (((a:Nat):Int) - (1:Int)))) (List.length b))<|.leaf (.inl ((List.getD b (kN c (Int.toNat (((a:Nat):Int) - (1:Int)))) 0) == (0:Int))))
    (.leaf (.inl false))
def Bh(c:Nat)(b:Nat)(a:Nat)(d:Bool) :T ((Nat×Nat)⊕((Nat×Nat)⊕(dY))) :=
  .ask d
    (.need (dP .i64 (((a:Nat):Int) - (1:Int)))<|.need (MI (((a:Nat):Int) - (1:Int)) c)<|.need (MI (0:Int) (Int.toNat (((a:Nat):Int) - (1:Int))))<|.leaf (.inl ((kN b 0),(Int.toNat (((a:Nat):Int) - (1:Int))))))
    (.leaf (.inr (.inl (b,a))))
def Bi(c:List Int)(d:Nat) :Nat×Nat→Option ((Nat×Nat)⊕((Nat×Nat)⊕(dY))):=fun (a,b) =>
  ax ((nq c a b).run) fun e =>
  (Bh d a b e).run
theorem XB(a:List Int)(b:Nat)(c:Nat)(d:Nat) :Sg prog [.ns .u64 a] Bg (py a b (c,d)) (Bi a b (c,d)) (py a b) (aO 0 (sh a b) o6):=by
  unfold Bi;exact Sg.cut 1 (aW xr) (Sg.seg (C:=C0) ah uB 60 (Bg.take 1) (py a b (c,d)) (nq a c d) (JT a b c d) (aO 0 (sh a b) o6) [⟨[],[0],[0,14]⟩,⟨[],[0],[0,14]⟩] (by kernel_rfl)) (fun e=>by exact Sg.seg (C:=C0) ah uB 60 (Bg.drop 1) (JT a b c d e) (Bh b c d e) (py a b) (aO 0 (sh a b) o6) [⟨[],[0],[0]⟩,⟨[],[0],[0]⟩] (by kernel_rfl))
def Zo(a:List Int)(b:Nat) :Nat×Nat→aC:=sh a b
def I1(a:List Int)(b:Nat)(c:Nat)(d:Nat) :T ((Empty)⊕(dY)) :=
  .leaf (.inr (.r0 c d b a))
def bv(a:List Int)(c:Nat)(d:Nat)(b:Nat) :Option dY:=l6 (ax ((JS).run) fun _ =>
  ax (dH (Bi a b) (c,d)) fun (e,f) =>
  (I1 a b e f).run)
theorem Zp(b:List Int)(d:Nat)(e:Nat)(c:Nat){x:dY}(h:bv b d e c=some x) :ak prog fJ [.ns .u64 b] [.sl 0 1 1 d e c] (Fp x) :=
  Sg.contract false Fp (by kernel_rfl:prog.funcs[fJ]? = some (FN fJ)) (by kernel_rfl:(FN fJ).body=some (bp fJ)) (Sg.cut 1 xr (Sg.seg (C:=C0) ah uB 60 (sf.take 1) (aL (FN fJ) [.ns .u64 b] [.sl 0 1 1 d e c]) (JS) (JR b d e c) o6 [⟨[],[0],[0]⟩] (by kernel_rfl)) (fun a=>by cases a;exact Sg.cut 1 xr (Sg.pre ⟨[],[0],[0]⟩ rfl (by kernel_rfl:NS.on ⟨[],[0],[0]⟩ (JR b d e c ())=(py b c) (d,e)) (bT (I:=(py b c)) (J:=(sh b c)) (id:=0) (by kernel_rfl:((sf.drop 1).take 1) = [.block 0 (.loop (bE ((((sf.drop 1).take 1)).headD .skip)))]) xr (Zn _) (fun s=>by obtain ⟨i,j⟩:=s;exact XB b c i j) (d,e))) (fun a=>by obtain ⟨f,g⟩:=a;exact Sg.seg (C:=C0) ah uB 60 ((sf.drop 1).drop 1) (Zo b c (f,g)) (I1 b c f g) (fun a:Empty=>a.elim) o6 [⟨[],[0],[2]⟩] (by kernel_rfl))))
    (fun x=>by cases x with | r0 k l m n=>exact ⟨.inr rfl,[.sl 0 1 1 k l m],[],by kernel_rfl,trivial,by kernel_rfl⟩) h
def kw:Option dY→Bool
  | some _=>true
  | none=>false
def jS:Option dY→Nat
  | some (.r0 x _ _ _)=>x
  | _=>0
def jT:Option dY→Nat
  | some (.r0 _ x _ _)=>x
  | _=>0
def jU:Option dY→Nat
  | some (.r0 _ _ x _)=>x
  | _=>0
def jV:Option dY→List Int
  | some (.r0 _ _ _ x)=>x
  | _=>[]
theorem Zq{x:Option dY}(h:kw x=true) :x=some (.r0 (jS x) (jT x) (jU x) (jV x)):=by
  unfold kw at h
  split at h <;> first | rfl | (cases h;done) | (rename_i y;cases y;rfl)
def MS:aD:=aht fJ [.ns .u64] (.cons (.lsl 0) .nil) fun x t=>[⟨Fp (.r0 (jS (bv x.1 t.1.1 t.1.2.1 t.1.2.2)) (jT (bv x.1 t.1.1 t.1.2.1 t.1.2.2)) (jU (bv x.1 t.1.1 t.1.2.1 t.1.2.2)) (jV (bv x.1 t.1.1 t.1.2.1 t.1.2.2))),[kw (bv x.1 t.1.1 t.1.2.1 t.1.2.2)]⟩]
theorem Uy:aM prog MS:=Y8 fun x t=>(Mm (fun h=>Zp x.1 t.1.1 t.1.2.1 t.1.2.2 (Zq h)) Y9)
def MT:List aD:=MS :: Zm
theorem yS:aX prog (aZ MT):=am Uy uB
inductive qP where
  | r0 (a:Nat) (b:Nat) (c:Nat) (d:List Int)
def Zr:qP→AE×aC
  | .r0 a b c d=>(.ret,⟨ag 6 [(2,.sl 0 1 1 a b c)],[(0,.ns .u64 d)],1⟩)
theorem alT:lc Zr:=by intro x;cases x <;> (intro h;cases h)
def Zs:qP→ju
  | .r0 a b d c=>⟨.imm .free (.ns .u64 c) 1 1 a b,[]⟩
def adQ:List Code:=bD (bp xf)
def adR:Nat×Nat×Nat×(List Int)→aC:=fun (a,b,c,d)=>⟨ag 6 [(2,.sl 0 1 1 a b c)],[(0,.ns .u64 d)],1⟩
def Uz(a:Int) :T ((Nat×Nat×Nat×(List Int))⊕(qP)) :=
  .need (kw (bv [a] 0 1 1))<|.leaf (.inl ((jS (bv [a] 0 1 1)),(jT (bv [a] 0 1 1)),(jU (bv [a] 0 1 1)),(jV (bv [a] 0 1 1))))
def adS(a:Nat)(b:Nat)(c:Nat)(d:List Int) :T ((Empty)⊕(qP)) :=
  .leaf (.inr (.r0 a b c d))
def bM(a:Int) :Option qP:=l6 (ax ((Uz a).run) fun (b,c,d,e) =>
  (adS b c d e).run)
theorem alU(b:Int){x:qP}(h:bM b=some x) :ak prog xf [] [.int .u64 b] (Zs x) :=
  Sg.contract true Zs (by kernel_rfl:prog.funcs[xf]? = some (FN xf)) (by kernel_rfl:(FN xf).body=some (bp xf)) (Sg.cut 2 alT (Sg.seg (C:=C0) ah yS 60 (adQ.take 2) (aL (FN xf) [] [.int .u64 b]) (Uz b) adR Zr [⟨[],[32],[2]⟩] (by kernel_rfl)) (fun a=>by obtain ⟨c,d,e,f⟩:=a;exact Sg.seg (C:=C0) ah yS 60 (adQ.drop 2) (adR (c,d,e,f)) (adS c d e f) (fun a:Empty=>a.elim) Zr [⟨[],[0],[2]⟩] (by kernel_rfl)))
    (fun x=>by cases x with | r0 g i j k=>exact ⟨.inr rfl,[.sl 0 1 1 g i j],[],by kernel_rfl,trivial,by kernel_rfl⟩) h
def yT:Option qP→Bool
  | some _=>true
  | none=>false
def ej:Option qP→Nat
  | some (.r0 x _ _ _)=>x
  | _=>0
def em:Option qP→Nat
  | some (.r0 _ x _ _)=>x
  | _=>0
def VC:Option qP→Nat
  | some (.r0 _ _ x _)=>x
  | _=>0
def er:Option qP→List Int
  | some (.r0 _ _ _ x)=>x
  | _=>[]
theorem alV{x:Option qP}(h:yT x=true) :x=some (.r0 (ej x) (em x) (VC x) (er x)):=by
  unfold yT at h
  split at h <;> first | rfl | (cases h;done) | (rename_i y;cases y;rfl)
def ahV:aD:=bW xf (.cons (.int .u64) .nil) fun t=>[⟨Zs (.r0 (ej (bM t.1)) (em (bM t.1)) (VC (bM t.1)) (er (bM t.1))),[yT (bM t.1)]⟩]
theorem ahW:aM prog ahV:=aG fun t=>(aH (fun h=>alU t.1 (alV h)) aR)
def ahX:List aD:=ahV :: MT
theorem EH:aX prog (aZ ahX):=am ahW yS
inductive pz where
  | r0 (a:Int)
def CX:pz→AE×aC
  | .r0 a=>(.ret,⟨ag 45 [(4,.int .i64 a)],[],0⟩)
theorem P8:lc CX:=by intro x;cases x <;> (intro h;cases h)
theorem ajH(id:Nat) :qp id CX:=by intro x;cases x <;> (intro h;cases h)
def UA:pz→ju
  | .r0 a=>⟨.int .i64 a,[]⟩
def Db:List Code:=bD (bp wC)
def Zt(c:Lv)(a:List Int)(d:Lv)(b:List Int)(e:Int) :aC:=⟨ag 45 [(0,.imm c (.ns .u64 a) 1 1 0 (List.length a)),(1,.imm d (.ns .u64 b) 1 1 0 (List.length b)),(5,.int .i64 e)],[],0⟩
def Dc(a:List Int)(b:List Int) :T ((Int)⊕(pz)) :=
  .ask (decide ((((List.length a):Nat):Int) < (((List.length b):Nat):Int)))
    (.leaf (.inr (.r0 (-1:Int))))
    (.ask (decide ((((List.length a):Nat):Int) > (((List.length b):Nat):Int)))
      (.leaf (.inr (.r0 (1:Int))))
      (.need (dP .i64 ((((List.length a):Nat):Int) - (1:Int)))<|.leaf (.inl ((((List.length a):Nat):Int) - (1:Int)))))
def yU(c:Lv)(a:List Int)(d:Lv)(b:List Int)(e:Int) :aC:=⟨ag 45 [(0,.imm c (.ns .u64 a) 1 1 0 (List.length a)),(1,.imm d (.ns .u64 b) 1 1 0 (List.length b)),(5,.int .i64 e)],[],0⟩
def Hv(_:Unit) :aC:=⟨ag 45 [],[],0⟩
def Zu:List Code:=bD (bE ((((Db.drop 3).take 1)).headD .skip))
def yV(b:List Int)(c:List Int)(a:Int) :T ((Int)⊕((Unit)⊕(pz))) :=
  .ask (decide (a ≥ (0:Int)))
    (.need (iE a (List.length b))<|.need (iX (Int.toNat a) (List.length b))<|.need (iE a (List.length c))<|.need (iX (Int.toNat a) (List.length c))<|.ask (decide ((List.getD b (Int.toNat a) 0) < (List.getD c (Int.toNat a) 0)))
      (.leaf (.inr (.inr (.r0 (-1:Int)))))
      (.need (iE a (List.length b))<|.need (iX (Int.toNat a) (List.length b))<|.need (iE a (List.length c))<|.need (iX (Int.toNat a) (List.length c))<|.ask (decide ((List.getD b (Int.toNat a) 0) > (List.getD c (Int.toNat a) 0)))
        (.leaf (.inr (.inr (.r0 (1:Int)))))
        (.need (dP .i64 (a - (1:Int)))<|.leaf (.inl (a - (1:Int))))))
    (.leaf (.inr (.inl ())))
def EI(a:List Int)(b:List Int) :Int→Option ((Int)⊕((Unit)⊕(pz))):=fun c =>
  (yV a b c).run
theorem ahY(c:Lv)(a:List Int)(d:Lv)(b:List Int)(e:Int) :Sg prog [] Zu (yU c a d b e) (EI a b e) (yU c a d b) (aO 1 Hv CX):=by
  unfold EI;exact Sg.seg (C:=C0) ah EH 60 Zu (yU c a d b e) (yV a b e) (yU c a d b) (aO 1 Hv CX) [⟨[],[],[4]⟩,⟨[],[],[4]⟩,⟨[],[],[0,1,5]⟩,⟨[],[],[]⟩] (by kernel_rfl)
def ajI:Unit→aC:=Hv
def VD:T ((Empty)⊕(pz)) :=
  .leaf (.inr (.r0 (0:Int)))
def wE(a:List Int)(b:List Int) :Option pz:=l6 (ax ((Dc a b).run) fun c =>
  ax (dH (EI a b) c) fun _ =>
  (VD).run)
theorem ajJ(d:Lv)(b:List Int)(e:Lv)(c:List Int){x:pz}(h:wE b c=some x) :ak prog wC [] [.imm d (.ns .u64 b) 1 1 0 (List.length b),.imm e (.ns .u64 c) 1 1 0 (List.length c)] (UA x) :=
  Sg.contract false UA (by kernel_rfl:prog.funcs[wC]? = some (FN wC)) (by kernel_rfl:(FN wC).body=some (bp wC)) (Sg.cut 3 P8 (Sg.seg (C:=C0) ah EH 60 (Db.take 3) (aL (FN wC) [] [.imm d (.ns .u64 b) 1 1 0 (List.length b),.imm e (.ns .u64 c) 1 1 0 (List.length c)]) (Dc b c) (Zt d b e c) CX [⟨[],[],[4]⟩,⟨[],[],[4]⟩,⟨[],[],[0,1,5]⟩] (by kernel_rfl)) (fun f=>by exact Sg.cut 1 P8 (Sg.pre ⟨[],[],[0,1,5]⟩ rfl (by kernel_rfl:NS.on ⟨[],[],[0,1,5]⟩ (Zt d b e c f)=(yU d b e c) f) (bT (I:=(yU d b e c)) (J:=(Hv)) (id:=1) (by kernel_rfl:((Db.drop 3).take 1) = [.block 1 (.loop (bE ((((Db.drop 3).take 1)).headD .skip)))]) P8 (ajH _) (fun s=>by exact ahY d b e c s) f)) (fun a=>by cases a;exact Sg.seg (C:=C0) ah EH 60 ((Db.drop 3).drop 1) (ajI ()) (VD) (fun a:Empty=>a.elim) CX [⟨[],[],[4]⟩] (by kernel_rfl))))
    (fun x=>by cases x with | r0 g=>exact ⟨.inr rfl,[.int .i64 g],[],by kernel_rfl,trivial,by kernel_rfl⟩) h
def Dd:Option pz→Bool
  | some _=>true
  | none=>false
def B6:Option pz→Int
  | some (.r0 x)=>x
  | _=>0
theorem ajK{x:Option pz}(h:Dd x=true) :x=some (.r0 (B6 x)):=by
  unfold Dd at h
  split at h <;> first | rfl | (cases h;done) | (rename_i y;cases y;rfl)
def adT:aD:=bW wC (.cons (.ns .u64) (.cons (.ns .u64) .nil)) fun t=>[⟨UA (.r0 (B6 (wE t.1.2 t.2.1.2))),[Dd (wE t.1.2 t.2.1.2)]⟩]
theorem afd:aM prog adT:=aG fun t=>(aH (fun h=>ajJ t.1.1 t.1.2 t.2.1.1 t.2.1.2 (ajK h)) aR)
def adU:List aD:=adT :: ahX
theorem B7:aX prog (aZ adU):=am afd EH
inductive pA where
  | r0 (a:Int) (b:Nat)
def Mt:pA→AE×aC
  | .r0 a b=>(.ret,⟨ag 15 [(4,.int .i64 a),(5,.int .i64 ((b:Nat):Int))],[],0⟩)
theorem Zv:lc Mt:=by intro x;cases x <;> (intro h;cases h)
def UB:pA→ju
  | .r0 a b=>⟨.tup [.int .i64 a,.int .i64 ((b:Nat):Int)],[]⟩
def P9:List Code:=bD (bp te)
def Zw(a:Lv)(b:Lv) :Nat×(List Int)×Nat×(List Int)×Nat→aC:=fun (c,d,e,f,g)=>⟨ag 15 [(2,.ptr 0 1 0 0),(3,.ptr 1 1 0 0),(6,.int .i64 ((c:Nat):Int))],[(0,.vs [.imm a (.ns .u64 d) 1 1 0 e]),(1,.vs [.imm b (.ns .u64 f) 1 1 0 g])],2⟩
def Qa(a : List Int)(b : List Int) : T ((Nat × (List Int) × Nat × (List Int) × Nat) ⊕ (pA)) :=
  .ask (decide ((0:Int) < (2:Int)))
    (.need (iE (0:Int) 2)<|.need (aI 0 (List.length a) a)<|.need (cD (aw (aa 0 (List.length a) a)))<|.ask (decide ((((aF (aw (aa 0 (List.length a) a))):Nat):Int) > (4096:Int)))
      (.leaf (.inl (2,(aU (aw (aa 0 (List.length a) a))),(aF (aw (aa 0 (List.length a) a))),b,(List.length b))))
      (.need (dP .i64 (1:Int))<|.ask (decide ((1:Int) < (2:Int)))
        (.need (iE (1:Int) 2)<|.need (aI 0 (List.length b) b)<|.need (cD (aw (aa 0 (List.length b) b)))<|.ask (decide ((((aF (aw (aa 0 (List.length b) b))):Nat):Int) > (4096:Int)))
          (.leaf (.inl (2,(aU (aw (aa 0 (List.length a) a))),(aF (aw (aa 0 (List.length a) a))),(aU (aw (aa 0 (List.length b) b))),(aF (aw (aa 0 (List.length b) b))))))
          (.need (dP .i64 (2:Int))<|.ask (decide ((2:Int) < (2:Int)))
            (.fail)
            (.leaf (.inl (0,(aU (aw (aa 0 (List.length a) a))),(aF (aw (aa 0 (List.length a) a))),(aU (aw (aa 0 (List.length b) b))),(aF (aw (aa 0 (List.length b) b))))))))
        (.fail)))
    (.fail)
def Zx(a:Int) :aC:=⟨ag 15 [(4,.int .i64 a),(5,.int .i64 (0:Int))],[],0⟩
def Qb(e:Nat)(a:List Int)(b:Nat)(c:List Int)(d:Nat) :T ((Int)⊕(pA)) :=
  .ask (((e:Nat):Int) != (0:Int))
    (.leaf (.inr (.r0 (0:Int) e)))
    (.need (aI 0 b a)<|.need (aI 0 d c)<|.need (Dd (wE (aa 0 b a) (aa 0 d c)))<|.leaf (.inl (B6 (wE (aa 0 b a) (aa 0 d c)))))
def Zy(a:Int) :T ((Empty)⊕(pA)) :=
  .leaf (.inr (.r0 a 0))
def tr(a:List Int)(b:List Int) :Option pA:=l6 (ax ((Qa a b).run) fun (c,d,e,f,g) =>
  ax ((Qb c d e f g).run) fun h =>
  (Zy h).run)
theorem ajL(d:Lv)(b:List Int)(e:Lv)(c:List Int){x:pA}(h:tr b c=some x) :ak prog te [] [.imm d (.ns .u64 b) 1 1 0 (List.length b),.imm e (.ns .u64 c) 1 1 0 (List.length c)] (UB x) :=
  Sg.contract true UB (by kernel_rfl:prog.funcs[te]? = some (FN te)) (by kernel_rfl:(FN te).body=some (bp te)) (Sg.cut 2 Zv (Sg.seg (C:=C0) ah B7 60 (P9.take 2) (aL (FN te) [] [.imm d (.ns .u64 b) 1 1 0 (List.length b),.imm e (.ns .u64 c) 1 1 0 (List.length c)]) (Qa b c) (Zw d e) Mt [⟨[],[0,16],[2,3,6]⟩,⟨[],[0,16],[2,3,6]⟩,⟨[],[0,16],[2,3,6]⟩] (by kernel_rfl)) (fun a=>by obtain ⟨f,g,i,j,k⟩:=a;exact Sg.cut 3 Zv (Sg.seg (C:=C0) ah B7 60 ((P9.drop 2).take 3) (Zw d e (f,g,i,j,k)) (Qb f g i j k) Zx Mt [⟨[],[],[4,5]⟩,⟨[],[],[4,5]⟩] (by kernel_rfl)) (fun l=>by exact Sg.seg (C:=C0) ah B7 60 ((P9.drop 2).drop 3) (Zx l) (Zy l) (fun a:Empty=>a.elim) Mt [⟨[],[],[4,5]⟩] (by kernel_rfl))))
    (fun x=>by cases x with | r0 m n=>exact ⟨.inr rfl,[.int .i64 m,.int .i64 ((n:Nat):Int)],[],by kernel_rfl,trivial,by kernel_rfl⟩) h
def De:Option pA→Bool
  | some _=>true
  | none=>false
def B8:Option pA→Int
  | some (.r0 x _)=>x
  | _=>0
def Rt:Option pA→Nat
  | some (.r0 _ x)=>x
  | _=>0
theorem ajM{x:Option pA}(h:De x=true) :x=some (.r0 (B8 x) (Rt x)):=by
  unfold De at h
  split at h <;> first | rfl | (cases h;done) | (rename_i y;cases y;rfl)
def adV:aD:=bW te (.cons (.ns .u64) (.cons (.ns .u64) .nil)) fun t=>[⟨UB (.r0 (B8 (tr t.1.2 t.2.1.2)) (Rt (tr t.1.2 t.2.1.2))),[De (tr t.1.2 t.2.1.2)]⟩]
theorem afe:aM prog adV:=aG fun t=>(aH (fun h=>ajL t.1.1 t.1.2 t.2.1.1 t.2.1.2 (ajM h)) aR)
def adW:List aD:=adV :: adU
theorem Hw:aX prog (aZ adW):=am afe B7
inductive iB where
  | r0 (a:List Int)
  | r1 (b:Nat) (c:Nat) (d:Nat) (e:List Int)
def Qc:iB→AE×aC
  | .r0 a=>(.ret,⟨ag 10 [(2,.nsl),(3,.int .i64 (3:Int))],[(0,.ns .u64 a)],1⟩)
  | .r1 b c d e=>(.ret,⟨ag 10 [(2,.sl 0 1 1 b c d),(3,.int .i64 (0:Int))],[(0,.ns .u64 e)],1⟩)
theorem ahZ:lc Qc:=by intro x;cases x <;> (intro h;cases h)
def Hx:iB→ju
  | .r0 a=>⟨.tup [.nsl,.int .i64 (3:Int)],[some (.ns .u64 a)]⟩
  | .r1 b c d e=>⟨.tup [.sl 0 1 1 b c d,.int .i64 (0:Int)],[some (.ns .u64 e)]⟩
def VE:List Code:=bD (bp fK)
def VF:Nat×Nat×Nat×(List Int)→aC:=fun (a,b,c,d)=>⟨ag 10 [(0,.sl 0 1 1 a b c)],[(0,.ns .u64 d)],1⟩
def JU(a:List Int)(b:Nat)(c:Nat)(d:Nat) :T ((Nat×Nat×Nat×(List Int))⊕(iB)) :=
  .need (kw (bv a b c d))<|.leaf (.inl ((jS (bv a b c d)),(jT (bv a b c d)),(jU (bv a b c d)),(jV (bv a b c d))))
def VG(c:Nat)(a:Nat)(d:Nat)(b:List Int) :T ((Empty)⊕(iB)) :=
  .ask (decide (((a:Nat):Int) > (4096:Int)))
    (.leaf (.inr (.r0 b)))
    (.leaf (.inr (.r1 c a d b)))
def dZ(a:List Int)(b:Nat)(c:Nat)(d:Nat) :Option iB:=l6 (ax ((JU a b c d).run) fun (e,f,g,h) =>
  (VG e f g h).run)
theorem VH(b:List Int)(c:Nat)(d:Nat)(e:Nat){x:iB}(h:dZ b c d e=some x) :ak prog fK [.ns .u64 b] [.sl 0 1 1 c d e] (Hx x) :=
  Sg.contract false Hx (by kernel_rfl:prog.funcs[fK]? = some (FN fK)) (by kernel_rfl:(FN fK).body=some (bp fK)) (Sg.cut 2 ahZ (Sg.seg (C:=C0) ah Hw 60 (VE.take 2) (aL (FN fK) [.ns .u64 b] [.sl 0 1 1 c d e]) (JU b c d e) VF Qc [⟨[],[0],[0]⟩] (by kernel_rfl)) (fun a=>by obtain ⟨f,g,i,j⟩:=a;exact Sg.seg (C:=C0) ah Hw 60 (VE.drop 2) (VF (f,g,i,j)) (VG f g i j) (fun a:Empty=>a.elim) Qc [⟨[],[0],[2,3]⟩,⟨[],[0],[2,3]⟩] (by kernel_rfl)))
    (fun x=>by cases x with | r0 n=>exact ⟨.inr rfl,[.nsl,.int .i64 (3:Int)],[],by kernel_rfl,trivial,by kernel_rfl⟩ | r1 k l m o=>exact ⟨.inr rfl,[.sl 0 1 1 k l m,.int .i64 (0:Int)],[],by kernel_rfl,trivial,by kernel_rfl⟩) h
def AU:Option iB→Bool
  | some (.r0 _)=>true
  | _=>false
def MU:Option iB→List Int
  | some (.r0 x)=>x
  | _=>[]
theorem ah0{x:Option iB}(h:AU x=true) :x=some (.r0 (MU x)):=by
  unfold AU at h
  split at h <;> first | rfl | (cases h;done) | (rename_i y;cases y;rfl)
def AW:Option iB→Bool
  | some (.r1 _ _ _ _)=>true
  | _=>false
def zP:Option iB→Nat
  | some (.r1 x _ _ _)=>x
  | _=>0
def zQ:Option iB→Nat
  | some (.r1 _ x _ _)=>x
  | _=>0
def zR:Option iB→Nat
  | some (.r1 _ _ x _)=>x
  | _=>0
def zS:Option iB→List Int
  | some (.r1 _ _ _ x)=>x
  | _=>[]
theorem ah1{x:Option iB}(h:AW x=true) :x=some (.r1 (zP x) (zQ x) (zR x) (zS x)):=by
  unfold AW at h
  split at h <;> first | rfl | (cases h;done) | (rename_i y;cases y;rfl)
def Zz:aD:=aht fK [.ns .u64] (.cons (.lsl 0) .nil) fun x t=>[⟨Hx (.r0 (MU (dZ x.1 t.1.1 t.1.2.1 t.1.2.2))),[AU (dZ x.1 t.1.1 t.1.2.1 t.1.2.2)]⟩,⟨Hx (.r1 (zP (dZ x.1 t.1.1 t.1.2.1 t.1.2.2)) (zQ (dZ x.1 t.1.1 t.1.2.1 t.1.2.2)) (zR (dZ x.1 t.1.1 t.1.2.1 t.1.2.2)) (zS (dZ x.1 t.1.1 t.1.2.1 t.1.2.2))),[AW (dZ x.1 t.1.1 t.1.2.1 t.1.2.2)]⟩]
theorem abU:aM prog Zz:=Y8 fun x t=>(Mm (fun h=>VH x.1 t.1.1 t.1.2.1 t.1.2.2 (ah0 h)) (Mm (fun h=>VH x.1 t.1.1 t.1.2.1 t.1.2.2 (ah1 h)) Y9))
def ZA:List aD:=Zz :: adW
theorem l7:aX prog (aZ ZA):=am abU Hw
inductive gj where
  | r0 (a:Nat) (b:Nat) (c:Nat) (d:Nat) (e:List Int)
def rq:gj→AE×aC
  | .r0 a b c d e=>(.ret,⟨ag 62 [(4,.sl 0 1 1 a b c),(5,.int .i64 ((d:Nat):Int))],[(0,.ns .u64 e)],1⟩)
theorem wg:lc rq:=by intro x;cases x <;> (intro h;cases h)
theorem ajN(id:Nat) :qp id rq:=by intro x;cases x <;> (intro h;cases h)
def UC:gj→ju
  | .r0 a b e c d=>⟨.tup [.imm .free (.ns .u64 d) 1 1 a b,.int .i64 ((c:Nat):Int)],[]⟩
def p7:List Code:=bD (bp td)
def ZB(a:Lv)(b:Lv) :Nat×(List Int)×Nat×(List Int)×Nat→aC:=fun (c,d,e,f,g)=>⟨ag 62 [(2,.ptr 0 1 0 0),(3,.ptr 1 1 0 0),(6,.int .i64 ((c:Nat):Int))],[(0,.vs [.imm a (.ns .u64 d) 1 1 0 e]),(1,.vs [.imm b (.ns .u64 f) 1 1 0 g])],2⟩
def JV(a : List Int)(b : List Int) : T ((Nat × (List Int) × Nat × (List Int) × Nat) ⊕ (gj)) :=
  .ask (decide ((0:Int) < (2:Int)))
    (.need (iE (0:Int) 2)<|.need (aI 0 (List.length a) a)<|.need (cD (aw (aa 0 (List.length a) a)))<|.ask (decide ((((aF (aw (aa 0 (List.length a) a))):Nat):Int) > (4096:Int)))
      (.leaf (.inl (2,(aU (aw (aa 0 (List.length a) a))),(aF (aw (aa 0 (List.length a) a))),b,(List.length b))))
      (.need (dP .i64 (1:Int))<|.ask (decide ((1:Int) < (2:Int)))
        (.need (iE (1:Int) 2)<|.need (aI 0 (List.length b) b)<|.need (cD (aw (aa 0 (List.length b) b)))<|.ask (decide ((((aF (aw (aa 0 (List.length b) b))):Nat):Int) > (4096:Int)))
          (.leaf (.inl (2,(aU (aw (aa 0 (List.length a) a))),(aF (aw (aa 0 (List.length a) a))),(aU (aw (aa 0 (List.length b) b))),(aF (aw (aa 0 (List.length b) b))))))
          (.need (dP .i64 (2:Int))<|.ask (decide ((2:Int) < (2:Int)))
            (.fail)
            (.leaf (.inl (0,(aU (aw (aa 0 (List.length a) a))),(aF (aw (aa 0 (List.length a) a))),(aU (aw (aa 0 (List.length b) b))),(aF (aw (aa 0 (List.length b) b))))))))
        (.fail)))
    (.fail)
def ZC:(List Int)×Nat×(List Int)×Nat→aC:=fun (a,b,c,d)=>⟨ag 62 [(2,.ptr 0 1 0 0),(3,.ptr 1 1 0 0)],[(0,.vs [.imm .lent (.ns .u64 a) 1 1 0 b]),(1,.vs [.imm .lent (.ns .u64 c) 1 1 0 d])],2⟩
def VI(c:Nat)(d:List Int)(a:Nat)(e:List Int)(b:Nat) :T (((List Int)×Nat×(List Int)×Nat)⊕(gj)) :=
  .ask (((c:Nat):Int) != (0:Int))
    (.leaf (.inr (.r0 0 0 0 c ([]:List Int))))
    (.ask (decide (((a:Nat):Int) < ((b:Nat):Int)))
      (.leaf (.inl (e,b,d,a)))
      (.leaf (.inl (d,a,e,b))))
def ZD(c:List Int)(a:Nat)(d:List Int)(e:Nat) :Nat×(List Int)→aC:=fun (b,f)=>⟨ag 62 [(2,.ptr 0 1 0 0),(3,.ptr 1 1 0 0),(7,.ptr 2 1 0 0),(8,.fn (.func Ey) [] [.ptr 2 1 0 0]),(9,.sl 3 1 1 0 b b),(30,.int .i64 ((a:Nat):Int)),(31,.int .i64 (0:Int))],[(0,.vs [.imm .lent (.ns .u64 c) 1 1 0 a]),(1,.vs [.imm .lent (.ns .u64 d) 1 1 0 e]),(2,.vs [.int .u64 (0:Int)]),(3,.ns .u64 f)],4⟩
def EJ(a:Nat) :T ((Nat×(List Int))⊕(gj)) :=
  .need (dP .i64 (((a+1):Nat):Int))<|.need (decide ((0:Int)≤(((a+1):Nat):Int)))<|.need (decide ((((a+1):Nat):Int)≤(((a+1):Nat):Int)))<|.need (decide ((8:Int) * (((a+1):Nat):Int)≤140737488355328))<|.need (dP .i64 (((a+1):Nat):Int))<|.leaf (.inl ((a+1),(List.replicate (a+1) (0:Int))))
def yW(c:List Int)(a:Nat)(d:List Int)(e:Nat)(b:Nat) :Nat×Nat×(List Int)→aC:=fun (f,g,h)=>⟨ag 62 [(2,.ptr 0 1 0 0),(3,.ptr 1 1 0 0),(7,.ptr 2 1 0 0),(8,.fn (.func Ey) [] [.ptr 2 1 0 0]),(9,.sl 3 1 1 0 b b),(30,.int .i64 ((a:Nat):Int)),(31,.int .i64 ((f:Nat):Int))],[(0,.vs [.imm .lent (.ns .u64 c) 1 1 0 a]),(1,.vs [.imm .lent (.ns .u64 d) 1 1 0 e]),(2,.vs [.int .u64 ((g:Nat):Int)]),(3,.ns .u64 h)],4⟩
def Df(b:List Int)(c:Nat)(a:Nat) :Nat×(List Int)→aC:=fun (d,e)=>⟨ag 62 [(2,.ptr 0 1 0 0),(7,.ptr 1 1 0 0),(9,.sl 2 1 1 0 a a)],[(0,.vs [.imm .lent (.ns .u64 b) 1 1 0 c]),(1,.vs [.int .u64 ((d:Nat):Int)]),(2,.ns .u64 e)],3⟩
def JW:List Code:=bD (bE ((((((p7.drop 2).drop 4).drop 4).take 1)).headD .skip))
def ZE(c:List Int)(a:Nat)(d:List Int)(e:Nat)(b:Nat)(f:Nat) :Nat×(List Int)→aC:=fun (g,h)=>⟨ag 62 [(2,.ptr 0 1 0 0),(3,.ptr 1 1 0 0),(7,.ptr 2 1 0 0),(8,.fn (.func Ey) [] [.ptr 2 1 0 0]),(9,.sl 3 1 1 0 b b),(30,.int .i64 ((a:Nat):Int)),(31,.int .i64 ((f:Nat):Int))],[(0,.vs [.imm .lent (.ns .u64 c) 1 1 0 a]),(1,.vs [.imm .lent (.ns .u64 d) 1 1 0 e]),(2,.vs [.int .u64 ((g:Nat):Int)]),(3,.ns .u64 h)],4⟩
def EK(c:List Int)(e:Nat)(f:List Int)(g:Nat)(h:Nat)(a:Nat)(b:Nat)(d:List Int) :T ((Nat×(List Int))⊕((Nat×(List Int))⊕(gj))) :=
  .ask (decide (((a:Nat):Int) < ((e:Nat):Int)))
    (.ask (decide (((a:Nat):Int) < ((g:Nat):Int)))
      (.need (iE ((a:Nat):Int) g)<|.need (iX a (List.length f))<|.need (iE ((a:Nat):Int) e)<|.need (iX a (List.length c))<|.need (r6 b 1)<|.need (iE ((a:Nat):Int) h)<|.need (iX a (List.length d))<|.leaf (.inl ((((Int.toNat (List.getD c a 0))+(Int.toNat (List.getD f a 0))+b) / 18446744073709551616),(List.set d a (((((Int.toNat (List.getD c a 0))+(Int.toNat (List.getD f a 0))+b) % 18446744073709551616):Nat):Int)))))
      (.need (iE ((a:Nat):Int) e)<|.need (iX a (List.length c))<|.need (r6 b 1)<|.need (iE ((a:Nat):Int) h)<|.need (iX a (List.length d))<|.leaf (.inl ((((Int.toNat (List.getD c a 0))+0+b) / 18446744073709551616),(List.set d a (((((Int.toNat (List.getD c a 0))+0+b) % 18446744073709551616):Nat):Int))))))
    (.leaf (.inr (.inl (b,d))))
def VJ(a:Nat)(b:Nat)(c:List Int) :T ((Nat×Nat×(List Int))⊕((Nat×(List Int))⊕(gj))) :=
  .need (dP .i64 (((a+1):Nat):Int))<|.leaf (.inl ((a+1),b,c))
def AX(b:List Int)(c:Nat)(d:List Int)(e:Nat)(f:Nat) :Nat×Nat×(List Int)→Option ((Nat×Nat×(List Int))⊕((Nat×(List Int))⊕(gj))):=fun (a,g,h) =>
  ax ((EK b c d e f a g h).run) fun (i,j) =>
  (VJ a i j).run
theorem ah2(b:List Int)(c:Nat)(e:List Int)(f:Nat)(d:Nat)(g:Nat)(h:Nat)(i:List Int) :Sg prog [] JW (yW b c e f d (g,h,i)) (AX b c e f d (g,h,i)) (yW b c e f d) (aO 0 (Df b c d) rq):=by
  unfold AX;exact Sg.cut 3 (aW wg) (Sg.seg (C:=C0) ah l7 60 (JW.take 3) (yW b c e f d (g,h,i)) (EK b c e f d g h i) (ZE b c e f d g) (aO 0 (Df b c d) rq) [⟨[],[0,1,2,3],[2,3,7,8,9,30,31]⟩,⟨[],[0,1,2,3],[2,3,7,8,9,30,31]⟩,⟨[],[0,2,3],[2,7,9]⟩] (by kernel_rfl)) (fun a=>by obtain ⟨j,k⟩:=a;exact Sg.seg (C:=C0) ah l7 60 (JW.drop 3) (ZE b c e f d g (j,k)) (VJ g j k) (yW b c e f d) (aO 0 (Df b c d) rq) [⟨[],[0,1,2,3],[2,3,7,8,9,30,31]⟩] (by kernel_rfl))
def ajO(a:List Int)(b:Nat)(c:Nat) :Nat×(List Int)→aC:=Df a b c
def VK:Nat×Nat×Nat×Nat×(List Int)→aC:=fun (a,b,c,d,e)=>⟨ag 62 [(4,.sl 0 1 1 a b c),(5,.int .i64 ((d:Nat):Int))],[(0,.ns .u64 e)],1⟩
def EL(b:Nat)(a:Nat)(d:Nat)(c:List Int) :T ((Nat×Nat×Nat×Nat×(List Int))⊕(gj)) :=
  .need (iE ((b:Nat):Int) a)<|.need (iX b (List.length c))<|.alt 0
    (.need (AU (dZ (List.set c b ((d:Nat):Int)) 0 a a))<|.leaf (.inl (0,0,0,3,([]:List Int))))
    (.alt 1
      (.need (AW (dZ (List.set c b ((d:Nat):Int)) 0 a a))<|.leaf (.inl ((zP (dZ (List.set c b ((d:Nat):Int)) 0 a a)),(zQ (dZ (List.set c b ((d:Nat):Int)) 0 a a)),(zR (dZ (List.set c b ((d:Nat):Int)) 0 a a)),0,(zS (dZ (List.set c b ((d:Nat):Int)) 0 a a)))))
      (.fail))
def JX(a:Nat)(b:Nat)(c:Nat)(d:Nat)(e:List Int) :T ((Empty)⊕(gj)) :=
  .leaf (.inr (.r0 a b c d e))
def bU(c:List Int)(d:List Int) :Option gj:=l6 (ax ((JV c d).run) fun (e,f,g,h,i) =>
  ax ((VI e f g h i).run) fun (j,a,k,l) =>
  ax ((EJ a).run) fun (b,m) =>
  ax (dH (AX j a k l b) (0,0,m)) fun (n,o) =>
  ax ((EL a b n o).run) fun (p,q,r,s,t) =>
  (JX p q r s t).run)
theorem ajP(j:Lv)(e:List Int)(k:Lv)(f:List Int){x:gj}(h:bU e f=some x) :ak prog td [] [.imm j (.ns .u64 e) 1 1 0 (List.length e),.imm k (.ns .u64 f) 1 1 0 (List.length f)] (UC x) :=
  Sg.contract true UC (by kernel_rfl:prog.funcs[td]? = some (FN td)) (by kernel_rfl:(FN td).body=some (bp td)) (Sg.cut 2 wg (Sg.seg (C:=C0) ah l7 60 (p7.take 2) (aL (FN td) [] [.imm j (.ns .u64 e) 1 1 0 (List.length e),.imm k (.ns .u64 f) 1 1 0 (List.length f)]) (JV e f) (ZB j k) rq [⟨[],[0,16],[2,3,6]⟩,⟨[],[0,16],[2,3,6]⟩,⟨[],[0,16],[2,3,6]⟩] (by kernel_rfl)) (fun a=>by obtain ⟨m,n,o,p,q⟩:=a;exact Sg.cut 4 wg (Sg.seg (C:=C0) ah l7 60 ((p7.drop 2).take 4) (ZB j k (m,n,o,p,q)) (VI m n o p q) ZC rq [⟨[(.slot 4,.own 1 1 (.ns .u64 ([]:List Int)))],[82],[4,5]⟩,⟨[(.cell 0 0,.low),(.cell 1 0,.low)],[0,1],[2,3]⟩,⟨[(.cell 0 0,.low),(.cell 1 0,.low)],[0,1],[2,3]⟩] (by kernel_rfl)) (fun a=>by obtain ⟨c,b,g,i⟩:=a;exact Sg.cut 4 wg (Sg.seg (C:=C0) ah l7 60 (((p7.drop 2).drop 4).take 4) (ZC (c,b,g,i)) (EJ b) (ZD c b g i) rq [⟨[],[0,1,2,114],[2,3,7,8,9,30,31]⟩] (by kernel_rfl)) (fun a=>by obtain ⟨d,l⟩:=a;exact Sg.cut 1 wg (Sg.pre ⟨[],[0,1,2,3],[2,3,7,8,9,30,31]⟩ rfl (by kernel_rfl:NS.on ⟨[],[0,1,2,3],[2,3,7,8,9,30,31]⟩ (ZD c b g i (d,l))=(yW c b g i d) (0,0,l)) (bT (I:=(yW c b g i d)) (J:=(Df c b d)) (id:=0) (by kernel_rfl:((((p7.drop 2).drop 4).drop 4).take 1) = [.block 0 (.loop (bE ((((((p7.drop 2).drop 4).drop 4).take 1)).headD .skip)))]) wg (ajN _) (fun s=>by obtain ⟨A,B,D⟩:=s;exact ah2 c b g i d A B D) (0,0,l))) (fun a=>by obtain ⟨r,t⟩:=a;exact Sg.cut 2 wg (Sg.seg (C:=C0) ah l7 60 (((((p7.drop 2).drop 4).drop 4).drop 1).take 2) (ajO c b d (r,t)) (EL b d r t) VK rq [⟨[(.slot 4,.own 1 1 (.ns .u64 ([]:List Int)))],[195],[4,5]⟩,⟨[],[2],[4,5]⟩] (by kernel_rfl)) (fun a=>by obtain ⟨u,v,w,y,z⟩:=a;exact Sg.seg (C:=C0) ah l7 60 (((((p7.drop 2).drop 4).drop 4).drop 1).drop 2) (VK (u,v,w,y,z)) (JX u v w y z) (fun a:Empty=>a.elim) rq [⟨[],[0],[4,5]⟩] (by kernel_rfl)))))))
    (fun x=>by cases x with | r0 E F G H K=>exact ⟨.inr rfl,[.sl 0 1 1 E F G,.int .i64 ((H:Nat):Int)],[],by kernel_rfl,trivial,by kernel_rfl⟩) h
def Dg:Option gj→Bool
  | some _=>true
  | none=>false
def i8:Option gj→Nat
  | some (.r0 x _ _ _ _)=>x
  | _=>0
def i9:Option gj→Nat
  | some (.r0 _ x _ _ _)=>x
  | _=>0
def Ru:Option gj→Nat
  | some (.r0 _ _ x _ _)=>x
  | _=>0
def kj:Option gj→Nat
  | some (.r0 _ _ _ x _)=>x
  | _=>0
def ja:Option gj→List Int
  | some (.r0 _ _ _ _ x)=>x
  | _=>[]
theorem ajQ{x:Option gj}(h:Dg x=true) :x=some (.r0 (i8 x) (i9 x) (Ru x) (kj x) (ja x)):=by
  unfold Dg at h
  split at h <;> first | rfl | (cases h;done) | (rename_i y;cases y;rfl)
def adX:aD:=bW td (.cons (.ns .u64) (.cons (.ns .u64) .nil)) fun t=>[⟨UC (.r0 (i8 (bU t.1.2 t.2.1.2)) (i9 (bU t.1.2 t.2.1.2)) (Ru (bU t.1.2 t.2.1.2)) (kj (bU t.1.2 t.2.1.2)) (ja (bU t.1.2 t.2.1.2))),[Dg (bU t.1.2 t.2.1.2)]⟩]
theorem aff:aM prog adX:=aG fun t=>(aH (fun h=>ajP t.1.1 t.1.2 t.2.1.1 t.2.1.2 (ajQ h)) aR)
def adY:List aD:=adX :: ZA
theorem tt:aX prog (aZ adY):=am aff l7
end
end Go.Plb.Seat
namespace Go.Plb.Seat
open Go Go.Plb
set_option linter.unusedVariables false
set_option maxRecDepth 100000
noncomputable section
inductive jv where
  | r0 (a:Nat) (b:Nat) (c:Nat) (d:List Int)
def wF:jv→AE×aC
  | .r0 a b c d=>(.ret,⟨ag 40 [(4,.sl 0 1 1 a b c)],[(0,.ns .u64 d)],1⟩)
theorem Dh:lc wF:=by intro x;cases x <;> (intro h;cases h)
theorem ajR(id:Nat) :qp id wF:=by intro x;cases x <;> (intro h;cases h)
def UD:jv→ju
  | .r0 a b d c=>⟨.imm .free (.ns .u64 c) 1 1 a b,[]⟩
def wG:List Code:=bD (bp tj)
def ZF(d:Lv)(a:List Int)(e:Lv)(b:List Int) :Nat×(List Int)→aC:=fun (c,f)=>⟨ag 40 [(0,.imm d (.ns .u64 a) 1 1 0 (List.length a)),(1,.imm e (.ns .u64 b) 1 1 0 (List.length b)),(5,.sl 0 1 1 0 c c),(6,.int .u64 (0:Int)),(12,.int .i64 (((List.length a):Nat):Int)),(13,.int .i64 (0:Int))],[(0,.ns .u64 f)],1⟩
def JY(a:List Int) :T ((Nat×(List Int))⊕(jv)) :=
  .need (aI 0 (List.length a) a)<|.need (yH (List.length (aa 0 (List.length a) a)))<|.leaf (.inl ((List.length (aa 0 (List.length a) a)),(aa 0 (List.length a) a)))
def yX(d:Lv)(a:List Int)(e:Lv)(b:List Int)(c:Nat) :Int×Nat×(List Int)→aC:=fun (f,g,h)=>⟨ag 40 [(0,.imm d (.ns .u64 a) 1 1 0 (List.length a)),(1,.imm e (.ns .u64 b) 1 1 0 (List.length b)),(5,.sl 0 1 1 0 c c),(6,.int .u64 f),(12,.int .i64 (((List.length a):Nat):Int)),(13,.int .i64 ((g:Nat):Int))],[(0,.ns .u64 h)],1⟩
def Di(a:Nat)(b:(List Int)) :aC:=⟨ag 40 [(5,.sl 0 1 1 0 a a)],[(0,.ns .u64 b)],1⟩
def JZ:List Code:=bD (bE ((((wG.drop 4).take 1)).headD .skip))
def ZG(d:Lv)(a:List Int)(e:Lv)(b:List Int)(c:Nat)(f:Nat) :Int×(List Int)→aC:=fun (g,h)=>⟨ag 40 [(0,.imm d (.ns .u64 a) 1 1 0 (List.length a)),(1,.imm e (.ns .u64 b) 1 1 0 (List.length b)),(5,.sl 0 1 1 0 c c),(6,.int .u64 g),(12,.int .i64 (((List.length a):Nat):Int)),(13,.int .i64 ((f:Nat):Int))],[(0,.ns .u64 h)],1⟩
def EM(b:List Int)(d:List Int)(f:Nat)(c:Int)(a:Nat)(e:List Int) :T ((Int×(List Int))⊕(((List Int))⊕(jv))) :=
  .ask (decide (((a:Nat):Int) < (((List.length b):Nat):Int)))
    (.ask (decide (((a:Nat):Int) < (((List.length d):Nat):Int)))
      (.need (iE ((a:Nat):Int) (List.length d))<|.need (iX a (List.length d))<|.need (iE ((a:Nat):Int) (List.length b))<|.need (iX a (List.length b))<|.need (r6 (Int.toNat c) 1)<|.need (iE ((a:Nat):Int) f)<|.need (iX a (List.length e))<|.leaf (.inl ((bif Nat.blt (Int.toNat (List.getD b a 0)) ((Int.toNat (List.getD d a 0))+(Int.toNat c)) then (1:Int) else (0:Int)),(List.set e a (((((Int.toNat (List.getD b a 0))+18446744073709551616 - (Int.toNat (List.getD d a 0)) - (Int.toNat c)) % 18446744073709551616):Nat):Int)))))
      (.need (iE ((a:Nat):Int) (List.length b))<|.need (iX a (List.length b))<|.need (r6 (Int.toNat c) 1)<|.need (iE ((a:Nat):Int) f)<|.need (iX a (List.length e))<|.leaf (.inl ((bif Nat.blt (Int.toNat (List.getD b a 0)) (0+(Int.toNat c)) then (1:Int) else (0:Int)),(List.set e a (((((Int.toNat (List.getD b a 0))+18446744073709551616 - 0 - (Int.toNat c)) % 18446744073709551616):Nat):Int))))))
    (.leaf (.inr (.inl e)))
def VL(a:Nat)(b:Int)(c:List Int) :T ((Int×Nat×(List Int))⊕(((List Int))⊕(jv))) :=
  .need (dP .i64 (((a+1):Nat):Int))<|.leaf (.inl (b,(a+1),c))
def J0(b:List Int)(c:List Int)(d:Nat) :Int×Nat×(List Int)→Option ((Int×Nat×(List Int))⊕(((List Int))⊕(jv))):=fun (e,a,f) =>
  ax ((EM b c d e a f).run) fun (g,h) =>
  (VL a g h).run
theorem ah3(f:Lv)(c:List Int)(g:Lv)(d:List Int)(b:Nat)(h:Int)(e:Nat)(i:List Int) :Sg prog [] JZ (yX f c g d b (h,e,i)) (J0 c d b (h,e,i)) (yX f c g d b) (aO 0 (Di b) wF):=by
  unfold J0;exact Sg.cut 3 (aW Dh) (Sg.seg (C:=C0) ah tt 60 (JZ.take 3) (yX f c g d b (h,e,i)) (EM c d b h e i) (ZG f c g d b e) (aO 0 (Di b) wF) [⟨[],[0],[0,1,5,6,12,13]⟩,⟨[],[0],[0,1,5,6,12,13]⟩,⟨[],[0],[5]⟩] (by kernel_rfl)) (fun a=>by obtain ⟨j,k⟩:=a;exact Sg.seg (C:=C0) ah tt 60 (JZ.drop 3) (ZG f c g d b e (j,k)) (VL e j k) (yX f c g d b) (aO 0 (Di b) wF) [⟨[],[0],[0,1,5,6,12,13]⟩] (by kernel_rfl))
def ajS(a:Nat) :(List Int)→aC:=Di a
def VM:Nat×Nat×Nat×(List Int)→aC:=fun (a,b,c,d)=>⟨ag 40 [(4,.sl 0 1 1 a b c)],[(0,.ns .u64 d)],1⟩
def J1(a:Nat)(b:List Int) :T ((Nat×Nat×Nat×(List Int))⊕(jv)) :=
  .need (kw (bv b 0 a a))<|.leaf (.inl ((jS (bv b 0 a a)),(jT (bv b 0 a a)),(jU (bv b 0 a a)),(jV (bv b 0 a a))))
def VN(a:Nat)(b:Nat)(c:Nat)(d:List Int) :T ((Empty)⊕(jv)) :=
  .leaf (.inr (.r0 a b c d))
def pB(a:List Int)(c:List Int) :Option jv:=l6 (ax ((JY a).run) fun (b,d) =>
  ax (dH (J0 a c b) ((0:Int),0,d)) fun e =>
  ax ((J1 b e).run) fun (f,g,h,i) =>
  (VN f g h i).run)
theorem ajT(d:Lv)(b:List Int)(e:Lv)(c:List Int){x:jv}(h:pB b c=some x) :ak prog tj [] [.imm d (.ns .u64 b) 1 1 0 (List.length b),.imm e (.ns .u64 c) 1 1 0 (List.length c)] (UD x) :=
  Sg.contract true UD (by kernel_rfl:prog.funcs[tj]? = some (FN tj)) (by kernel_rfl:(FN tj).body=some (bp tj)) (Sg.cut 4 Dh (Sg.seg (C:=C0) ah tt 60 (wG.take 4) (aL (FN tj) [] [.imm d (.ns .u64 b) 1 1 0 (List.length b),.imm e (.ns .u64 c) 1 1 0 (List.length c)]) (JY b) (ZF d b e c) wF [⟨[],[32],[0,1,5,6,12,13]⟩] (by kernel_rfl)) (fun a=>by obtain ⟨f,g⟩:=a;exact Sg.cut 1 Dh (Sg.pre ⟨[],[0],[0,1,5,6,12,13]⟩ rfl (by kernel_rfl:NS.on ⟨[],[0],[0,1,5,6,12,13]⟩ (ZF d b e c (f,g))=(yX d b e c f) ((0:Int),0,g)) (bT (I:=(yX d b e c f)) (J:=(Di f)) (id:=0) (by kernel_rfl:((wG.drop 4).take 1) = [.block 0 (.loop (bE ((((wG.drop 4).take 1)).headD .skip)))]) Dh (ajR _) (fun s=>by obtain ⟨n,o,p⟩:=s;exact ah3 d b e c f n o p) ((0:Int),0,g))) (fun i=>by exact Sg.cut 1 Dh (Sg.seg (C:=C0) ah tt 60 (((wG.drop 4).drop 1).take 1) (ajS f i) (J1 f i) VM wF [⟨[],[0],[4]⟩] (by kernel_rfl)) (fun a=>by obtain ⟨j,k,l,m⟩:=a;exact Sg.seg (C:=C0) ah tt 60 (((wG.drop 4).drop 1).drop 1) (VM (j,k,l,m)) (VN j k l m) (fun a:Empty=>a.elim) wF [⟨[],[0],[4]⟩] (by kernel_rfl)))))
    (fun x=>by cases x with | r0 q r t u=>exact ⟨.inr rfl,[.sl 0 1 1 q r t],[],by kernel_rfl,trivial,by kernel_rfl⟩) h
def Hy:Option jv→Bool
  | some _=>true
  | none=>false
def Hz:Option jv→Nat
  | some (.r0 x _ _ _)=>x
  | _=>0
def HA:Option jv→Nat
  | some (.r0 _ x _ _)=>x
  | _=>0
def Rv:Option jv→Nat
  | some (.r0 _ _ x _)=>x
  | _=>0
def HB:Option jv→List Int
  | some (.r0 _ _ _ x)=>x
  | _=>[]
theorem ajU{x:Option jv}(h:Hy x=true) :x=some (.r0 (Hz x) (HA x) (Rv x) (HB x)):=by
  unfold Hy at h
  split at h <;> first | rfl | (cases h;done) | (rename_i y;cases y;rfl)
def adZ:aD:=bW tj (.cons (.ns .u64) (.cons (.ns .u64) .nil)) fun t=>[⟨UD (.r0 (Hz (pB t.1.2 t.2.1.2)) (HA (pB t.1.2 t.2.1.2)) (Rv (pB t.1.2 t.2.1.2)) (HB (pB t.1.2 t.2.1.2))),[Hy (pB t.1.2 t.2.1.2)]⟩]
theorem afg:aM prog adZ:=aG fun t=>(aH (fun h=>ajT t.1.1 t.1.2 t.2.1.1 t.2.1.2 (ajU h)) aR)
def ad0:List aD:=adZ :: adY
theorem xt:aX prog (aZ ad0):=am afg tt
inductive kQ where
  | r0 (a:List Int) (b:Nat) (c:Nat) (d:Nat)
def GM:kQ→AE×aC
  | .r0 a b c d=>(.ret,⟨ag 20 [(4,.imm .free (.ns .u64 a) 1 1 b c),(5,.int .i64 ((d:Nat):Int))],[],0⟩)
theorem Qd:lc GM:=by intro x;cases x <;> (intro h;cases h)
def UE:kQ→ju
  | .r0 a b c d=>⟨.tup [.imm .free (.ns .u64 a) 1 1 b c,.int .i64 ((d:Nat):Int)],[]⟩
def HC:List Code:=bD (bp tg)
def ZH(a:Lv)(b:Lv) :Nat×(List Int)×Nat×(List Int)×Nat→aC:=fun (c,d,e,f,g)=>⟨ag 20 [(2,.ptr 0 1 0 0),(3,.ptr 1 1 0 0),(6,.int .i64 ((c:Nat):Int))],[(0,.vs [.imm a (.ns .u64 d) 1 1 0 e]),(1,.vs [.imm b (.ns .u64 f) 1 1 0 g])],2⟩
def Qe(a : List Int)(b : List Int) : T ((Nat × (List Int) × Nat × (List Int) × Nat) ⊕ (kQ)) :=
  .ask (decide ((0:Int) < (2:Int)))
    (.need (iE (0:Int) 2)<|.need (aI 0 (List.length a) a)<|.need (cD (aw (aa 0 (List.length a) a)))<|.ask (decide ((((aF (aw (aa 0 (List.length a) a))):Nat):Int) > (4096:Int)))
      (.leaf (.inl (2,(aU (aw (aa 0 (List.length a) a))),(aF (aw (aa 0 (List.length a) a))),b,(List.length b))))
      (.need (dP .i64 (1:Int))<|.ask (decide ((1:Int) < (2:Int)))
        (.need (iE (1:Int) 2)<|.need (aI 0 (List.length b) b)<|.need (cD (aw (aa 0 (List.length b) b)))<|.ask (decide ((((aF (aw (aa 0 (List.length b) b))):Nat):Int) > (4096:Int)))
          (.leaf (.inl (2,(aU (aw (aa 0 (List.length a) a))),(aF (aw (aa 0 (List.length a) a))),(aU (aw (aa 0 (List.length b) b))),(aF (aw (aa 0 (List.length b) b))))))
          (.need (dP .i64 (2:Int))<|.ask (decide ((2:Int) < (2:Int)))
            (.fail)
            (.leaf (.inl (0,(aU (aw (aa 0 (List.length a) a))),(aF (aw (aa 0 (List.length a) a))),(aU (aw (aa 0 (List.length b) b))),(aF (aw (aa 0 (List.length b) b))))))))
        (.fail)))
    (.fail)
def ZI(a:Lv)(b:Lv)(c:List Int)(d:Nat)(e:List Int)(f:Nat)(g:Bool) :aC:=⟨ag 20 [(2,.ptr 0 1 0 0),(3,.ptr 1 1 0 0),(16,.bool false g)],[(0,.vs [.imm a (.ns .u64 c) 1 1 0 d]),(1,.vs [.imm b (.ns .u64 e) 1 1 0 f])],2⟩
def Qf(e:Nat)(a:List Int)(b:Nat)(c:List Int)(d:Nat) :T ((Bool)⊕(kQ)) :=
  .ask (((e:Nat):Int) != (0:Int))
    (.leaf (.inl true))
    (.need (aI 0 b a)<|.need (aI 0 d c)<|.need (Dd (wE (aa 0 b a) (aa 0 d c)))<|.leaf (.inl (decide ((B6 (wE (aa 0 b a) (aa 0 d c))) < (0:Int)))))
def ZJ:(List Int)×Nat×Nat→aC:=fun (a,b,c)=>⟨ag 20 [(4,.imm .free (.ns .u64 a) 1 1 b c),(5,.int .i64 (0:Int))],[],0⟩
def Qg(a:List Int)(b:Nat)(c:List Int)(d:Nat)(e:Bool) :T (((List Int)×Nat×Nat)⊕(kQ)) :=
  .ask e
    (.leaf (.inr (.r0 ([]:List Int) 0 0 2)))
    (.need (aI 0 b a)<|.need (aI 0 d c)<|.need (Hy (pB (aa 0 b a) (aa 0 d c)))<|.leaf (.inl ((HB (pB (aa 0 b a) (aa 0 d c))),(Hz (pB (aa 0 b a) (aa 0 d c))),(HA (pB (aa 0 b a) (aa 0 d c))))))
def ZK(a:List Int)(b:Nat)(c:Nat) :T ((Empty)⊕(kQ)) :=
  .leaf (.inr (.r0 a b c 0))
def bK(e:List Int)(f:List Int) :Option kQ:=l6 (ax ((Qe e f).run) fun (g,a,b,c,d) =>
  ax ((Qf g a b c d).run) fun h =>
  ax ((Qg a b c d h).run) fun (i,j,k) =>
  (ZK i j k).run)
theorem ajV(b:Lv)(c:List Int)(d:Lv)(e:List Int){x:kQ}(h:bK c e=some x) :ak prog tg [] [.imm b (.ns .u64 c) 1 1 0 (List.length c),.imm d (.ns .u64 e) 1 1 0 (List.length e)] (UE x) :=
  Sg.contract true UE (by kernel_rfl:prog.funcs[tg]? = some (FN tg)) (by kernel_rfl:(FN tg).body=some (bp tg)) (Sg.cut 2 Qd (Sg.seg (C:=C0) ah xt 60 (HC.take 2) (aL (FN tg) [] [.imm b (.ns .u64 c) 1 1 0 (List.length c),.imm d (.ns .u64 e) 1 1 0 (List.length e)]) (Qe c e) (ZH b d) GM [⟨[],[0,16],[2,3,6]⟩,⟨[],[0,16],[2,3,6]⟩,⟨[],[0,16],[2,3,6]⟩] (by kernel_rfl)) (fun a=>by obtain ⟨k,f,g,i,j⟩:=a;exact Sg.cut 1 Qd (Sg.seg (C:=C0) ah xt 60 ((HC.drop 2).take 1) (ZH b d (k,f,g,i,j)) (Qf k f g i j) (ZI b d f g i j) GM [⟨[],[0,1],[2,3,16]⟩,⟨[],[0,1],[2,3,16]⟩] (by kernel_rfl)) (fun l=>by exact Sg.cut 2 Qd (Sg.seg (C:=C0) ah xt 60 (((HC.drop 2).drop 1).take 2) (ZI b d f g i j l) (Qg f g i j l) ZJ GM [⟨[(.slot 4,.fre 1 1 (.ns .u64 ([]:List Int)))],[],[4,5]⟩,⟨[],[],[4,5]⟩] (by kernel_rfl)) (fun a=>by obtain ⟨m,n,o⟩:=a;exact Sg.seg (C:=C0) ah xt 60 (((HC.drop 2).drop 1).drop 2) (ZJ (m,n,o)) (ZK m n o) (fun a:Empty=>a.elim) GM [⟨[],[],[4,5]⟩] (by kernel_rfl)))))
    (fun x=>by cases x with | r0 p q r s=>exact ⟨.inr rfl,[.imm .free (.ns .u64 p) 1 1 q r,.int .i64 ((s:Nat):Int)],[],by kernel_rfl,trivial,by kernel_rfl⟩) h
def yY:Option kQ→Bool
  | some _=>true
  | none=>false
def ig:Option kQ→List Int
  | some (.r0 x _ _ _)=>x
  | _=>[]
def ii:Option kQ→Nat
  | some (.r0 _ x _ _)=>x
  | _=>0
def ij:Option kQ→Nat
  | some (.r0 _ _ x _)=>x
  | _=>0
def jb:Option kQ→Nat
  | some (.r0 _ _ _ x)=>x
  | _=>0
theorem ajW{x:Option kQ}(h:yY x=true) :x=some (.r0 (ig x) (ii x) (ij x) (jb x)):=by
  unfold yY at h
  split at h <;> first | rfl | (cases h;done) | (rename_i y;cases y;rfl)
def ad1:aD:=bW tg (.cons (.ns .u64) (.cons (.ns .u64) .nil)) fun t=>[⟨UE (.r0 (ig (bK t.1.2 t.2.1.2)) (ii (bK t.1.2 t.2.1.2)) (ij (bK t.1.2 t.2.1.2)) (jb (bK t.1.2 t.2.1.2))),[yY (bK t.1.2 t.2.1.2)]⟩]
theorem afh:aM prog ad1:=aG fun t=>(aH (fun h=>ajV t.1.1 t.1.2 t.2.1.1 t.2.1.2 (ajW h)) aR)
def ad2:List aD:=ad1 :: ad0
theorem xu:aX prog (aZ ad2):=am afh xt
inductive mC where
  | r0 (a:Int) (b:List Int)
def yZ:mC→AE×aC
  | .r0 a b=>(.ret,⟨ag 52 [(6,.int .u64 a)],[(0,.ns .u64 b)],1⟩)
theorem HD:lc yZ:=by intro x;cases x <;> (intro h;cases h)
theorem ajX(id:Nat) :qp id yZ:=by intro x;cases x <;> (intro h;cases h)
def UF:mC→ju
  | .r0 a b=>⟨.int .u64 a,[some (.ns .u64 b)]⟩
def AY:List Code:=bD (bp th)
def ZL(b:List Int)(c:Nat)(d:Nat)(e:Nat)(f:Lv)(a:List Int)(g:Int)(_:Unit) :aC:=⟨ag 52 [(0,.sl 0 1 1 c d e),(1,.imm f (.ns .u64 a) 1 1 0 (List.length a)),(2,.int .u64 g),(7,.int .u64 (0:Int)),(13,.int .i64 (((List.length a):Nat):Int)),(14,.int .i64 (0:Int))],[(0,.ns .u64 b)],1⟩
def VO:T ((Unit)⊕(mC)) :=
  .leaf (.inl ())
def y4(b:Nat)(c:Nat)(d:Nat)(e:Lv)(a:List Int)(f:Int) :Int×Nat×(List Int)→aC:=fun (g,h,i)=>⟨ag 52 [(0,.sl 0 1 1 b c d),(1,.imm e (.ns .u64 a) 1 1 0 (List.length a)),(2,.int .u64 f),(7,.int .u64 g),(13,.int .i64 (((List.length a):Nat):Int)),(14,.int .i64 ((h:Nat):Int))],[(0,.ns .u64 i)],1⟩
def Dj:Int×(List Int)→aC:=fun (a,b)=>⟨ag 52 [(7,.int .u64 a)],[(0,.ns .u64 b)],1⟩
def J2:List Code:=bD (bE ((((AY.drop 3).take 1)).headD .skip))
def ZM(b:Nat)(c:Nat)(d:Nat)(e:Lv)(a:List Int)(f:Int)(g:Nat) :Int×(List Int)→aC:=fun (h,i)=>⟨ag 52 [(0,.sl 0 1 1 b c d),(1,.imm e (.ns .u64 a) 1 1 0 (List.length a)),(2,.int .u64 f),(7,.int .u64 h),(13,.int .i64 (((List.length a):Nat):Int)),(14,.int .i64 ((g:Nat):Int))],[(0,.ns .u64 i)],1⟩
def wH(d:Nat)(g:Nat)(b:List Int)(e:Int)(f:Int)(a:Nat)(c:List Int) :T ((Int×(List Int))⊕((Int×(List Int))⊕(mC))) :=
  .ask (decide (((a:Nat):Int) < (((List.length b):Nat):Int)))
    (.need (iE ((a:Nat):Int) (List.length b))<|.need (iX a (List.length b))<|.need (mS (eK (List.getD b a 0) e))<|.need (r6 0 1)<|.need (iE ((a:Nat):Int) g)<|.need (iX (kN d a) (List.length c))<|.need (r6 0 1)<|.need (iE ((a:Nat):Int) g)<|.need (iX (kN d a) (List.length c))<|.leaf (.inl ((IntKind.u64.wrap ((IntKind.u64.wrap ((oq (eK (List.getD b a 0) e))+(((((Int.toNat (iH (eK (List.getD b a 0) e)))+(Int.toNat f)+0) / 18446744073709551616):Nat):Int)))+(((((Int.toNat (List.getD c (kN d a) 0))+(((Int.toNat (iH (eK (List.getD b a 0) e)))+(Int.toNat f)+0) % 18446744073709551616)+0) / 18446744073709551616):Nat):Int))),(List.set c (kN d a) (((((Int.toNat (List.getD c (kN d a) 0))+(((Int.toNat (iH (eK (List.getD b a 0) e)))+(Int.toNat f)+0) % 18446744073709551616)+0) % 18446744073709551616):Nat):Int)))))
    (.leaf (.inr (.inl (f,c))))
def VP(a:Nat)(b:Int)(c:List Int) :T ((Int×Nat×(List Int))⊕((Int×(List Int))⊕(mC))) :=
  .need (dP .i64 (((a+1):Nat):Int))<|.leaf (.inl (b,(a+1),c))
def J3(b:Nat)(c:Nat)(d:List Int)(e:Int) :Int×Nat×(List Int)→Option ((Int×Nat×(List Int))⊕((Int×(List Int))⊕(mC))):=fun (f,a,g) =>
  ax ((wH b c d e f a g).run) fun (h,i) =>
  (VP a h i).run
theorem ah4(m:List Int)(b:Nat)(c:Nat)(g:Nat)(h:Lv)(d:List Int)(e:Int)(i:Int)(f:Nat)(j:List Int) :Sg prog [.ns .u64 m] J2 (y4 b c g h d e (i,f,j)) (J3 b c d e (i,f,j)) (y4 b c g h d e) (aO 0 Dj yZ):=by
  unfold J3;exact Sg.cut 3 (aW HD) (Sg.seg (C:=C0) ah xu 60 (J2.take 3) (y4 b c g h d e (i,f,j)) (wH b c d e i f j) (ZM b c g h d e f) (aO 0 Dj yZ) [⟨[],[0],[0,1,2,7,13,14]⟩,⟨[],[0],[7]⟩] (by kernel_rfl)) (fun a=>by obtain ⟨k,l⟩:=a;exact Sg.seg (C:=C0) ah xu 60 (J2.drop 3) (ZM b c g h d e f (k,l)) (VP f k l) (y4 b c g h d e) (aO 0 Dj yZ) [⟨[],[0],[0,1,2,7,13,14]⟩] (by kernel_rfl))
def ajY:Int×(List Int)→aC:=Dj
def VQ(a:Int)(b:List Int) :T ((Empty)⊕(mC)) :=
  .leaf (.inr (.r0 a b))
def tu(a:List Int)(b:Nat)(c:Nat)(d:List Int)(e:Int) :Option mC:=l6 (ax ((VO).run) fun _ =>
  ax (dH (J3 b c d e) ((0:Int),0,a)) fun (f,g) =>
  (VQ f g).run)
theorem ajZ(c:List Int)(d:Nat)(e:Nat)(g:Nat)(i:Lv)(b:List Int)(f:Int){x:mC}(h:tu c d e b f=some x) :ak prog th [.ns .u64 c] [.sl 0 1 1 d e g,.imm i (.ns .u64 b) 1 1 0 (List.length b),.int .u64 f] (UF x) :=
  Sg.contract false UF (by kernel_rfl:prog.funcs[th]? = some (FN th)) (by kernel_rfl:(FN th).body=some (bp th)) (Sg.cut 3 HD (Sg.seg (C:=C0) ah xu 60 (AY.take 3) (aL (FN th) [.ns .u64 c] [.sl 0 1 1 d e g,.imm i (.ns .u64 b) 1 1 0 (List.length b),.int .u64 f]) (VO) (ZL c d e g i b f) yZ [⟨[],[0],[0,1,2,7,13,14]⟩] (by kernel_rfl)) (fun a=>by cases a;exact Sg.cut 1 HD (Sg.pre ⟨[],[0],[0,1,2,7,13,14]⟩ rfl (by kernel_rfl:NS.on ⟨[],[0],[0,1,2,7,13,14]⟩ (ZL c d e g i b f ())=(y4 d e g i b f) ((0:Int),0,c)) (bT (I:=(y4 d e g i b f)) (J:=(Dj)) (id:=0) (by kernel_rfl:((AY.drop 3).take 1) = [.block 0 (.loop (bE ((((AY.drop 3).take 1)).headD .skip)))]) HD (ajX _) (fun s=>by obtain ⟨l,m,n⟩:=s;exact ah4 c d e g i b f l m n) ((0:Int),0,c))) (fun a=>by obtain ⟨j,k⟩:=a;exact Sg.seg (C:=C0) ah xu 60 ((AY.drop 3).drop 1) (ajY (j,k)) (VQ j k) (fun a:Empty=>a.elim) yZ [⟨[],[0],[6]⟩] (by kernel_rfl))))
    (fun x=>by cases x with | r0 o p=>exact ⟨.inr rfl,[.int .u64 o],[],by kernel_rfl,trivial,by kernel_rfl⟩) h
def Dk:Option mC→Bool
  | some _=>true
  | none=>false
def B9:Option mC→Int
  | some (.r0 x _)=>x
  | _=>0
def xv:Option mC→List Int
  | some (.r0 _ x)=>x
  | _=>[]
theorem aj0{x:Option mC}(h:Dk x=true) :x=some (.r0 (B9 x) (xv x)):=by
  unfold Dk at h
  split at h <;> first | rfl | (cases h;done) | (rename_i y;cases y;rfl)
def ad3:aD:=aht th [.ns .u64] (.cons (.lsl 0) (.cons (.ns .u64) (.cons (.int .u64) .nil))) fun x t=>[⟨UF (.r0 (B9 (tu x.1 t.1.1 t.1.2.1 t.2.1.2 t.2.2.1)) (xv (tu x.1 t.1.1 t.1.2.1 t.2.1.2 t.2.2.1))),[Dk (tu x.1 t.1.1 t.1.2.1 t.2.1.2 t.2.2.1)]⟩]
theorem afi:aM prog ad3:=Y8 fun x t=>(Mm (fun h=>ajZ x.1 t.1.1 t.1.2.1 t.1.2.2 t.2.1.1 t.2.1.2 t.2.2.1 (aj0 h)) Y9)
def ad4:List aD:=ad3 :: ad2
theorem ot:aX prog (aZ ad4):=am afi xu
inductive gk where
  | r0 (a:Nat) (b:Nat) (c:Nat) (d:Nat) (e:List Int)
def rr:gk→AE×aC
  | .r0 a b c d e=>(.ret,⟨ag 61 [(4,.sl 0 1 1 a b c),(5,.int .i64 ((d:Nat):Int))],[(0,.ns .u64 e)],1⟩)
theorem wh:lc rr:=by intro x;cases x <;> (intro h;cases h)
theorem aj1(id:Nat) :qp id rr:=by intro x;cases x <;> (intro h;cases h)
def UG:gk→ju
  | .r0 a b e c d=>⟨.tup [.imm .free (.ns .u64 d) 1 1 a b,.int .i64 ((c:Nat):Int)],[]⟩
def p8:List Code:=bD (bp ta)
def ZN(a:Lv)(b:Lv) :Nat×(List Int)×Nat×(List Int)×Nat→aC:=fun (c,d,e,f,g)=>⟨ag 61 [(2,.ptr 0 1 0 0),(3,.ptr 1 1 0 0),(6,.int .i64 ((c:Nat):Int))],[(0,.vs [.imm a (.ns .u64 d) 1 1 0 e]),(1,.vs [.imm b (.ns .u64 f) 1 1 0 g])],2⟩
def J4(a : List Int)(b : List Int) : T ((Nat × (List Int) × Nat × (List Int) × Nat) ⊕ (gk)) :=
  .ask (decide ((0:Int) < (2:Int)))
    (.need (iE (0:Int) 2)<|.need (aI 0 (List.length a) a)<|.need (cD (aw (aa 0 (List.length a) a)))<|.ask (decide ((((aF (aw (aa 0 (List.length a) a))):Nat):Int) > (4096:Int)))
      (.leaf (.inl (2,(aU (aw (aa 0 (List.length a) a))),(aF (aw (aa 0 (List.length a) a))),b,(List.length b))))
      (.need (dP .i64 (1:Int))<|.ask (decide ((1:Int) < (2:Int)))
        (.need (iE (1:Int) 2)<|.need (aI 0 (List.length b) b)<|.need (cD (aw (aa 0 (List.length b) b)))<|.ask (decide ((((aF (aw (aa 0 (List.length b) b))):Nat):Int) > (4096:Int)))
          (.leaf (.inl (2,(aU (aw (aa 0 (List.length a) a))),(aF (aw (aa 0 (List.length a) a))),(aU (aw (aa 0 (List.length b) b))),(aF (aw (aa 0 (List.length b) b))))))
          (.need (dP .i64 (2:Int))<|.ask (decide ((2:Int) < (2:Int)))
            (.fail)
            (.leaf (.inl (0,(aU (aw (aa 0 (List.length a) a))),(aF (aw (aa 0 (List.length a) a))),(aU (aw (aa 0 (List.length b) b))),(aF (aw (aa 0 (List.length b) b))))))))
        (.fail)))
    (.fail)
def ZO(a:Lv)(b:Lv)(c:List Int)(d:Nat)(e:List Int)(f:Nat)(g:Bool) :aC:=⟨ag 61 [(2,.ptr 0 1 0 0),(3,.ptr 1 1 0 0),(29,.bool false g)],[(0,.vs [.imm a (.ns .u64 c) 1 1 0 d]),(1,.vs [.imm b (.ns .u64 e) 1 1 0 f])],2⟩
def VS(c:Nat)(a:Nat)(b:Nat) :T ((Bool)⊕(gk)) :=
  .ask (((c:Nat):Int) != (0:Int))
    (.leaf (.inr (.r0 0 0 0 c ([]:List Int))))
    (.need (dP .i64 (((a+b):Nat):Int))<|.ask (decide ((((a+b):Nat):Int) > (4097:Int)))
      (.ask (decide (((a:Nat):Int) > (0:Int)))
        (.leaf (.inl (decide (((b:Nat):Int) > (0:Int)))))
        (.leaf (.inl false)))
      (.leaf (.inl false)))
def ZP(c:Lv)(d:Lv)(e:List Int)(f:Nat)(g:List Int)(a:Nat) :Nat×(List Int)→aC:=fun (b,h)=>⟨ag 61 [(2,.ptr 0 1 0 0),(3,.ptr 1 1 0 0),(7,.sl 2 1 1 0 b b),(37,.int .i64 ((a:Nat):Int)),(38,.int .i64 (0:Int))],[(0,.vs [.imm c (.ns .u64 e) 1 1 0 f]),(1,.vs [.imm d (.ns .u64 g) 1 1 0 a]),(2,.ns .u64 h)],3⟩
def J5(a:Nat)(b:Nat)(c:Bool) :T ((Nat×(List Int))⊕(gk)) :=
  .ask c
    (.leaf (.inr (.r0 0 0 0 3 ([]:List Int))))
    (.need (dP .i64 (((a+b):Nat):Int))<|.need (decide ((0:Int)≤(((a+b):Nat):Int)))<|.need (decide ((((a+b):Nat):Int)≤(((a+b):Nat):Int)))<|.need (decide ((8:Int) * (((a+b):Nat):Int)≤140737488355328))<|.need (dP .i64 (((a+b):Nat):Int))<|.leaf (.inl ((a+b),(List.replicate (a+b) (0:Int)))))
def y5(c:Lv)(d:Lv)(e:List Int)(f:Nat)(g:List Int)(a:Nat)(b:Nat) :Nat×(List Int)→aC:=fun (h,i)=>⟨ag 61 [(2,.ptr 0 1 0 0),(3,.ptr 1 1 0 0),(7,.sl 2 1 1 0 b b),(37,.int .i64 ((a:Nat):Int)),(38,.int .i64 ((h:Nat):Int))],[(0,.vs [.imm c (.ns .u64 e) 1 1 0 f]),(1,.vs [.imm d (.ns .u64 g) 1 1 0 a]),(2,.ns .u64 i)],3⟩
def Dl(a:Nat)(b:(List Int)) :aC:=⟨ag 61 [(7,.sl 0 1 1 0 a a)],[(0,.ns .u64 b)],1⟩
def J6:List Code:=bD (bE ((((((p8.drop 2).drop 3).drop 3).take 1)).headD .skip))
def ZQ(c:Lv)(d:Lv)(e:List Int)(f:Nat)(g:List Int)(a:Nat)(b:Nat)(h:Nat)(i:(List Int)) :aC:=⟨ag 61 [(2,.ptr 0 1 0 0),(3,.ptr 1 1 0 0),(7,.sl 2 1 1 0 b b),(37,.int .i64 ((a:Nat):Int)),(38,.int .i64 ((h:Nat):Int))],[(0,.vs [.imm c (.ns .u64 e) 1 1 0 f]),(1,.vs [.imm d (.ns .u64 g) 1 1 0 a]),(2,.ns .u64 i)],3⟩
def EN(d:List Int)(b:Nat)(e:List Int)(g:Nat)(c:Nat)(a:Nat)(f:List Int) :T (((List Int))⊕(((List Int))⊕(gk))) :=
  .ask (decide (((a:Nat):Int) < ((g:Nat):Int)))
    (.need (dP .i64 (((a+b):Nat):Int))<|.need (MI ((c:Nat):Int) c)<|.need (MI ((a:Nat):Int) c)<|.need (iE ((a:Nat):Int) g)<|.need (iX a (List.length e))<|.need (aI 0 b d)<|.need (Dk (tu f a (c - a) (aa 0 b d) (List.getD e a 0)))<|.need (iE (((a+b):Nat):Int) c)<|.need (iX (a+b) (List.length (xv (tu f a (c - a) (aa 0 b d) (List.getD e a 0)))))<|.leaf (.inl (List.set (xv (tu f a (c - a) (aa 0 b d) (List.getD e a 0))) (a+b) (B9 (tu f a (c - a) (aa 0 b d) (List.getD e a 0))))))
    (.leaf (.inr (.inl f)))
def VT(a:Nat)(b:List Int) :T ((Nat×(List Int))⊕(((List Int))⊕(gk))) :=
  .need (dP .i64 (((a+1):Nat):Int))<|.leaf (.inl ((a+1),b))
def J7(b:List Int)(c:Nat)(d:List Int)(e:Nat)(f:Nat) :Nat×(List Int)→Option ((Nat×(List Int))⊕(((List Int))⊕(gk))):=fun (a,g) =>
  ax ((EN b c d e f a g).run) fun h =>
  (VT a h).run
theorem ah5(g:Lv)(h:Lv)(b:List Int)(c:Nat)(d:List Int)(e:Nat)(a:Nat)(f:Nat)(i:List Int) :Sg prog [] J6 (y5 g h b c d e a (f,i)) (J7 b c d e a (f,i)) (y5 g h b c d e a) (aO 0 (Dl a) rr):=by
  unfold J7;exact Sg.cut 3 (aW wh) (Sg.seg (C:=C0) ah ot 60 (J6.take 3) (y5 g h b c d e a (f,i)) (EN b c d e a f i) (ZQ g h b c d e a f) (aO 0 (Dl a) rr) [⟨[],[0,1,2],[2,3,7,37,38]⟩,⟨[],[2],[7]⟩] (by kernel_rfl)) (fun j=>by exact Sg.seg (C:=C0) ah ot 60 (J6.drop 3) (ZQ g h b c d e a f j) (VT f j) (y5 g h b c d e a) (aO 0 (Dl a) rr) [⟨[],[0,1,2],[2,3,7,37,38]⟩] (by kernel_rfl))
def aj2(a:Nat) :(List Int)→aC:=Dl a
def VU:Nat×Nat×Nat×Nat×(List Int)→aC:=fun (a,b,c,d,e)=>⟨ag 61 [(4,.sl 0 1 1 a b c),(5,.int .i64 ((d:Nat):Int))],[(0,.ns .u64 e)],1⟩
def J8(a:Nat)(b:List Int) :T ((Nat×Nat×Nat×Nat×(List Int))⊕(gk)) :=
  .alt 0
    (.need (AU (dZ b 0 a a))<|.leaf (.inl (0,0,0,3,([]:List Int))))
    (.alt 1
      (.need (AW (dZ b 0 a a))<|.leaf (.inl ((zP (dZ b 0 a a)),(zQ (dZ b 0 a a)),(zR (dZ b 0 a a)),0,(zS (dZ b 0 a a)))))
      (.fail))
def VV(a:Nat)(b:Nat)(c:Nat)(d:Nat)(e:List Int) :T ((Empty)⊕(gk)) :=
  .leaf (.inr (.r0 a b c d e))
def mD(d:List Int)(e:List Int) :Option gk:=l6 (ax ((J4 d e).run) fun (f,g,a,h,b) =>
  ax ((VS f a b).run) fun i =>
  ax ((J5 a b i).run) fun (c,j) =>
  ax (dH (J7 g a h b c) (0,j)) fun k =>
  ax ((J8 c k).run) fun (l,m,n,o,p) =>
  (VV l m n o p).run)
theorem aj3(b:Lv)(j:List Int)(c:Lv)(k:List Int){x:gk}(h:mD j k=some x) :ak prog ta [] [.imm b (.ns .u64 j) 1 1 0 (List.length j),.imm c (.ns .u64 k) 1 1 0 (List.length k)] (UG x) :=
  Sg.contract true UG (by kernel_rfl:prog.funcs[ta]? = some (FN ta)) (by kernel_rfl:(FN ta).body=some (bp ta)) (Sg.cut 2 wh (Sg.seg (C:=C0) ah ot 60 (p8.take 2) (aL (FN ta) [] [.imm b (.ns .u64 j) 1 1 0 (List.length j),.imm c (.ns .u64 k) 1 1 0 (List.length k)]) (J4 j k) (ZN b c) rr [⟨[],[0,16],[2,3,6]⟩,⟨[],[0,16],[2,3,6]⟩,⟨[],[0,16],[2,3,6]⟩] (by kernel_rfl)) (fun a=>by obtain ⟨m,f,d,g,e⟩:=a;exact Sg.cut 3 wh (Sg.seg (C:=C0) ah ot 60 ((p8.drop 2).take 3) (ZN b c (m,f,d,g,e)) (VS m d e) (ZO b c f d g e) rr [⟨[(.slot 4,.own 1 1 (.ns .u64 ([]:List Int)))],[82],[4,5]⟩,⟨[],[0,1],[2,3,29]⟩,⟨[],[0,1],[2,3,29]⟩,⟨[],[0,1],[2,3,29]⟩] (by kernel_rfl)) (fun n=>by exact Sg.cut 3 wh (Sg.seg (C:=C0) ah ot 60 (((p8.drop 2).drop 3).take 3) (ZO b c f d g e n) (J5 d e n) (ZP b c f d g e) rr [⟨[(.slot 4,.own 1 1 (.ns .u64 ([]:List Int)))],[34],[4,5]⟩,⟨[],[0,1,82],[2,3,7,37,38]⟩] (by kernel_rfl)) (fun a=>by obtain ⟨i,l⟩:=a;exact Sg.cut 1 wh (Sg.pre ⟨[],[0,1,2],[2,3,7,37,38]⟩ rfl (by kernel_rfl:NS.on ⟨[],[0,1,2],[2,3,7,37,38]⟩ (ZP b c f d g e (i,l))=(y5 b c f d g e i) (0,l)) (bT (I:=(y5 b c f d g e i)) (J:=(Dl i)) (id:=0) (by kernel_rfl:((((p8.drop 2).drop 3).drop 3).take 1) = [.block 0 (.loop (bE ((((((p8.drop 2).drop 3).drop 3).take 1)).headD .skip)))]) wh (aj1 _) (fun s=>by obtain ⟨v,w⟩:=s;exact ah5 b c f d g e i v w) (0,l))) (fun o=>by exact Sg.cut 1 wh (Sg.seg (C:=C0) ah ot 60 (((((p8.drop 2).drop 3).drop 3).drop 1).take 1) (aj2 i o) (J8 i o) VU rr [⟨[(.slot 4,.own 1 1 (.ns .u64 ([]:List Int)))],[97],[4,5]⟩,⟨[],[0],[4,5]⟩] (by kernel_rfl)) (fun a=>by obtain ⟨p,q,r,t,u⟩:=a;exact Sg.seg (C:=C0) ah ot 60 (((((p8.drop 2).drop 3).drop 3).drop 1).drop 1) (VU (p,q,r,t,u)) (VV p q r t u) (fun a:Empty=>a.elim) rr [⟨[],[0],[4,5]⟩] (by kernel_rfl)))))))
    (fun x=>by cases x with | r0 y z A B D=>exact ⟨.inr rfl,[.sl 0 1 1 y z A,.int .i64 ((B:Nat):Int)],[],by kernel_rfl,trivial,by kernel_rfl⟩) h
def HE:Option gk→Bool
  | some _=>true
  | none=>false
def HF:Option gk→Nat
  | some (.r0 x _ _ _ _)=>x
  | _=>0
def HG:Option gk→Nat
  | some (.r0 _ x _ _ _)=>x
  | _=>0
def Rw:Option gk→Nat
  | some (.r0 _ _ x _ _)=>x
  | _=>0
def HH:Option gk→Nat
  | some (.r0 _ _ _ x _)=>x
  | _=>0
def HI:Option gk→List Int
  | some (.r0 _ _ _ _ x)=>x
  | _=>[]
theorem aj4{x:Option gk}(h:HE x=true) :x=some (.r0 (HF x) (HG x) (Rw x) (HH x) (HI x)):=by
  unfold HE at h
  split at h <;> first | rfl | (cases h;done) | (rename_i y;cases y;rfl)
def ad5:aD:=bW ta (.cons (.ns .u64) (.cons (.ns .u64) .nil)) fun t=>[⟨UG (.r0 (HF (mD t.1.2 t.2.1.2)) (HG (mD t.1.2 t.2.1.2)) (Rw (mD t.1.2 t.2.1.2)) (HH (mD t.1.2 t.2.1.2)) (HI (mD t.1.2 t.2.1.2))),[HE (mD t.1.2 t.2.1.2)]⟩]
theorem afj:aM prog ad5:=aG fun t=>(aH (fun h=>aj3 t.1.1 t.1.2 t.2.1.1 t.2.1.2 (aj4 h)) aR)
def ad6:List aD:=ad5 :: ad4
theorem tw:aX prog (aZ ad6):=am afj ot
inductive jw where
  | r0 (a:Nat) (b:Nat) (c:Nat) (d:List Int)
def wI:jw→AE×aC
  | .r0 a b c d=>(.ret,⟨ag 59 [(4,.sl 0 1 1 a b c)],[(0,.ns .u64 d)],1⟩)
theorem Dm:lc wI:=by intro x;cases x <;> (intro h;cases h)
theorem aj5(id:Nat) :qp id wI:=by intro x;cases x <;> (intro h;cases h)
def UH:jw→ju
  | .r0 a b d c=>⟨.imm .free (.ns .u64 c) 1 1 a b,[]⟩
def y6:List Code:=bD (bp tm)
def ZR(c:Lv)(a:List Int) :Int×Int×Nat×(List Int)→aC:=fun (d,r2,b,e)=>⟨ag 59 [(0,.imm c (.ns .u64 a) 1 1 0 (List.length a)),(5,.int .i64 d),(6,.int .u64 r2),(7,.sl 0 1 1 0 b b),(24,.int .i64 (((List.length a):Nat):Int)),(25,.int .i64 (0:Int))],[(0,.ns .u64 e)],1⟩
def J9(b:List Int)(a:Int) :T ((Int×Int×Nat×(List Int))⊕(jw)) :=
  .ask ((((List.length b):Nat):Int) == (0:Int))
    (.leaf (.inr (.r0 0 0 0 ([]:List Int))))
    (.need ((64:Int) != (0:Int))<|.need (dP .i64 (Int.tdiv a (64:Int)))<|.need ((64:Int) != (0:Int))<|.need (dP .i64 ((((List.length b):Nat):Int)+(Int.tdiv a (64:Int))))<|.need (dP .i64 (((((List.length b):Nat):Int)+(Int.tdiv a (64:Int)))+(1:Int)))<|.need (decide ((0:Int)≤(((((List.length b):Nat):Int)+(Int.tdiv a (64:Int)))+(1:Int))))<|.need (decide ((((((List.length b):Nat):Int)+(Int.tdiv a (64:Int)))+(1:Int))≤(((((List.length b):Nat):Int)+(Int.tdiv a (64:Int)))+(1:Int))))<|.need (decide ((8:Int) * (((((List.length b):Nat):Int)+(Int.tdiv a (64:Int)))+(1:Int))≤140737488355328))<|.need (dP .i64 (((((List.length b):Nat):Int)+(Int.tdiv a (64:Int)))+(1:Int)))<|.leaf (.inl ((Int.tdiv a (64:Int)),(IntKind.u64.wrap (Int.tmod a (64:Int))),(Int.toNat (((((List.length b):Nat):Int)+(Int.tdiv a (64:Int)))+(1:Int))),(List.replicate (Int.toNat (((((List.length b):Nat):Int)+(Int.tdiv a (64:Int)))+(1:Int))) (0:Int)))))
def y7(c:Lv)(a:List Int)(d:Int)(r2:Int)(b:Nat) :Nat×(List Int)→aC:=fun (e,f)=>⟨ag 59 [(0,.imm c (.ns .u64 a) 1 1 0 (List.length a)),(5,.int .i64 d),(6,.int .u64 r2),(7,.sl 0 1 1 0 b b),(24,.int .i64 (((List.length a):Nat):Int)),(25,.int .i64 ((e:Nat):Int))],[(0,.ns .u64 f)],1⟩
def Dn(a:Nat)(b:(List Int)) :aC:=⟨ag 59 [(7,.sl 0 1 1 0 a a)],[(0,.ns .u64 b)],1⟩
def Ka:List Code:=bD (bE ((((y6.drop 6).take 1)).headD .skip))
def ZS(c:Lv)(a:List Int)(d:Int)(r2:Int)(b:Nat)(e:Nat)(f:(List Int)) :aC:=⟨ag 59 [(0,.imm c (.ns .u64 a) 1 1 0 (List.length a)),(5,.int .i64 d),(6,.int .u64 r2),(7,.sl 0 1 1 0 b b),(24,.int .i64 (((List.length a):Nat):Int)),(25,.int .i64 ((e:Nat):Int))],[(0,.ns .u64 f)],1⟩
def AZ(c:List Int)(b:Int)(r2:Int)(e:Nat)(a:Nat)(d:List Int) :T (((List Int))⊕(((List Int))⊕(jw))) :=
  .ask (decide (((a:Nat):Int) < (((List.length c):Nat):Int)))
    (.need (dP .i64 (((a:Nat):Int)+b))<|.need (iE (((a:Nat):Int)+b) e)<|.need (iX (Int.toNat (((a:Nat):Int)+b)) (List.length d))<|.need (iE ((a:Nat):Int) (List.length c))<|.need (iX a (List.length c))<|.need (decide ((0:Int)≤r2))<|.need (iE (((a:Nat):Int)+b) e)<|.need (iX (Int.toNat (((a:Nat):Int)+b)) (List.length d))<|.need (dP .i64 (((a:Nat):Int)+b))<|.need (dP .i64 ((((a:Nat):Int)+b)+(1:Int)))<|.need (iE ((a:Nat):Int) (List.length c))<|.need (iX a (List.length c))<|.need (decide ((0:Int)≤(1:Int)))<|.need (decide ((0:Int)≤(IntKind.u64.wrap ((63:Int) - r2))))<|.need (iE ((((a:Nat):Int)+b)+(1:Int)) e)<|.need (iX (Int.toNat ((((a:Nat):Int)+b)+(1:Int))) (List.length (List.set d (Int.toNat (((a:Nat):Int)+b)) (gE .or .u64 (List.getD d (Int.toNat (((a:Nat):Int)+b)) 0) (IntKind.u64.wrap ((List.getD c a 0) * 2 ^ (min (Int.toNat r2) (IntKind.u64.bits))))))))<|.leaf (.inl (List.set (List.set d (Int.toNat (((a:Nat):Int)+b)) (gE .or .u64 (List.getD d (Int.toNat (((a:Nat):Int)+b)) 0) (IntKind.u64.wrap ((List.getD c a 0) * 2 ^ (min (Int.toNat r2) (IntKind.u64.bits)))))) (Int.toNat ((((a:Nat):Int)+b)+(1:Int))) (Int.fdiv (Int.fdiv (List.getD c a 0) (2 ^ (min (Int.toNat (1:Int)) (IntKind.u64.bits)))) (2 ^ (min (Int.toNat (IntKind.u64.wrap ((63:Int) - r2))) (IntKind.u64.bits)))))))
    (.leaf (.inr (.inl d)))
def VW(a:Nat)(b:List Int) :T ((Nat×(List Int))⊕(((List Int))⊕(jw))) :=
  .need (dP .i64 (((a+1):Nat):Int))<|.leaf (.inl ((a+1),b))
def Kb(b:List Int)(c:Int)(r2:Int)(d:Nat) :Nat×(List Int)→Option ((Nat×(List Int))⊕(((List Int))⊕(jw))):=fun (a,e) =>
  ax ((AZ b c r2 d a e).run) fun f =>
  (VW a f).run
theorem ah6(e:Lv)(b:List Int)(c:Int)(r2:Int)(a:Nat)(d:Nat)(f:List Int) :Sg prog [] Ka (y7 e b c r2 a (d,f)) (Kb b c r2 a (d,f)) (y7 e b c r2 a) (aO 0 (Dn a) wI):=by
  unfold Kb;exact Sg.cut 3 (aW Dm) (Sg.seg (C:=C0) ah tw 60 (Ka.take 3) (y7 e b c r2 a (d,f)) (AZ b c r2 a d f) (ZS e b c r2 a d) (aO 0 (Dn a) wI) [⟨[],[0],[0,5,6,7,24,25]⟩,⟨[],[0],[7]⟩] (by kernel_rfl)) (fun g=>by exact Sg.seg (C:=C0) ah tw 60 (Ka.drop 3) (ZS e b c r2 a d g) (VW d g) (y7 e b c r2 a) (aO 0 (Dn a) wI) [⟨[],[0],[0,5,6,7,24,25]⟩] (by kernel_rfl))
def aj6(a:Nat) :(List Int)→aC:=Dn a
def ZT:Nat×Nat×Nat×(List Int)→aC:=fun (a,b,c,d)=>⟨ag 59 [(4,.sl 0 1 1 a b c)],[(0,.ns .u64 d)],1⟩
def Kc(a:Nat)(b:List Int) :T ((Nat×Nat×Nat×(List Int))⊕(jw)) :=
  .need (kw (bv b 0 a a))<|.leaf (.inl ((jS (bv b 0 a a)),(jT (bv b 0 a a)),(jU (bv b 0 a a)),(jV (bv b 0 a a))))
def VX(a:Nat)(b:Nat)(c:Nat)(d:List Int) :T ((Empty)⊕(jw)) :=
  .leaf (.inr (.r0 a b c d))
def eF(a:List Int)(c:Int) :Option jw:=l6 (ax ((J9 a c).run) fun (d,r2,b,e) =>
  ax (dH (Kb a d r2 b) (0,e)) fun f =>
  ax ((Kc b f).run) fun (g,h,i,j) =>
  (VX g h i j).run)
theorem aj7(c:Lv)(b:List Int)(e:Int){x:jw}(h:eF b e=some x) :ak prog tm [] [.imm c (.ns .u64 b) 1 1 0 (List.length b),.int .i64 e] (UH x) :=
  Sg.contract true UH (by kernel_rfl:prog.funcs[tm]? = some (FN tm)) (by kernel_rfl:(FN tm).body=some (bp tm)) (Sg.cut 6 Dm (Sg.seg (C:=C0) ah tw 60 (y6.take 6) (aL (FN tm) [] [.imm c (.ns .u64 b) 1 1 0 (List.length b),.int .i64 e]) (J9 b e) (ZR c b) wI [⟨[(.slot 4,.own 1 1 (.ns .u64 ([]:List Int)))],[80],[4]⟩,⟨[],[256],[0,5,6,7,24,25]⟩] (by kernel_rfl)) (fun a=>by obtain ⟨f,r2,d,g⟩:=a;exact Sg.cut 1 Dm (Sg.pre ⟨[],[0],[0,5,6,7,24,25]⟩ rfl (by kernel_rfl:NS.on ⟨[],[0],[0,5,6,7,24,25]⟩ (ZR c b (f,r2,d,g))=(y7 c b f r2 d) (0,g)) (bT (I:=(y7 c b f r2 d)) (J:=(Dn d)) (id:=0) (by kernel_rfl:((y6.drop 6).take 1) = [.block 0 (.loop (bE ((((y6.drop 6).take 1)).headD .skip)))]) Dm (aj5 _) (fun s=>by obtain ⟨n,o⟩:=s;exact ah6 c b f r2 d n o) (0,g))) (fun i=>by exact Sg.cut 1 Dm (Sg.seg (C:=C0) ah tw 60 (((y6.drop 6).drop 1).take 1) (aj6 d i) (Kc d i) ZT wI [⟨[],[0],[4]⟩] (by kernel_rfl)) (fun a=>by obtain ⟨j,k,l,m⟩:=a;exact Sg.seg (C:=C0) ah tw 60 (((y6.drop 6).drop 1).drop 1) (ZT (j,k,l,m)) (VX j k l m) (fun a:Empty=>a.elim) wI [⟨[],[0],[4]⟩] (by kernel_rfl)))))
    (fun x=>by cases x with | r0 p q r t=>exact ⟨.inr rfl,[.sl 0 1 1 p q r],[],by kernel_rfl,trivial,by kernel_rfl⟩) h
def Do:Option jw→Bool
  | some _=>true
  | none=>false
def ou:Option jw→Nat
  | some (.r0 x _ _ _)=>x
  | _=>0
def ov:Option jw→Nat
  | some (.r0 _ x _ _)=>x
  | _=>0
def Rx:Option jw→Nat
  | some (.r0 _ _ x _)=>x
  | _=>0
def ow:Option jw→List Int
  | some (.r0 _ _ _ x)=>x
  | _=>[]
theorem aj8{x:Option jw}(h:Do x=true) :x=some (.r0 (ou x) (ov x) (Rx x) (ow x)):=by
  unfold Do at h
  split at h <;> first | rfl | (cases h;done) | (rename_i y;cases y;rfl)
def ad7:aD:=bW tm (.cons (.ns .u64) (.cons (.int .i64) .nil)) fun t=>[⟨UH (.r0 (ou (eF t.1.2 t.2.1)) (ov (eF t.1.2 t.2.1)) (Rx (eF t.1.2 t.2.1)) (ow (eF t.1.2 t.2.1))),[Do (eF t.1.2 t.2.1)]⟩]
theorem afk:aM prog ad7:=aG fun t=>(aH (fun h=>aj7 t.1.1 t.1.2 t.2.1 (aj8 h)) aR)
def ad8:List aD:=ad7 :: ad6
theorem HJ:aX prog (aZ ad8):=am afk tw
inductive g4 where
  | r0 (a:List Int) (b:Nat) (c:Nat)
def Fq(a:Lv) :g4→AE×aC
  | .r0 b c d=>(.ret,⟨ag 10 [(2,.imm a (.ns .u64 b) 1 1 0 c),(3,.int .i64 ((d:Nat):Int))],[],0⟩)
theorem ZU{a:Lv} :lc (Fq a):=by intro x;cases x <;> (intro h;cases h)
def Fr(a:Lv) :g4→ju
  | .r0 b c d=>⟨.tup [.imm a (.ns .u64 b) 1 1 0 c,.int .i64 ((d:Nat):Int)],[]⟩
def Kd:List Code:=bD (bp fK)
def Ke(a:Lv) :(List Int)×Nat→aC:=fun (b,c)=>⟨ag 10 [(0,.imm a (.ns .u64 b) 1 1 0 c)],[],0⟩
def Dp(a:List Int) :T (((List Int)×Nat)⊕(g4)) :=
  .need (aI 0 (List.length a) a)<|.need (cD (aw (aa 0 (List.length a) a)))<|.leaf (.inl ((aU (aw (aa 0 (List.length a) a))),(aF (aw (aa 0 (List.length a) a)))))
def Kf(b:List Int)(a:Nat) :T ((Empty)⊕(g4)) :=
  .ask (decide (((a:Nat):Int) > (4096:Int)))
    (.leaf (.inr (.r0 ([]:List Int) 0 3)))
    (.leaf (.inr (.r0 b a 0)))
def iY(a:List Int) :Option g4:=l6 (ax ((Dp a).run) fun (b,c) =>
  (Kf b c).run)
theorem ZV(b:Lv)(c:List Int){x:g4}(h:iY c=some x) :ak prog fK [] [.imm b (.ns .u64 c) 1 1 0 (List.length c)] (Fr b x) :=
  Sg.contract false (Fr b) (by kernel_rfl:prog.funcs[fK]? = some (FN fK)) (by kernel_rfl:(FN fK).body=some (bp fK)) (Sg.cut 2 ZU (Sg.seg (C:=C0) ah HJ 60 (Kd.take 2) (aL (FN fK) [] [.imm b (.ns .u64 c) 1 1 0 (List.length c)]) (Dp c) (Ke b) (Fq b) [⟨[],[],[0]⟩] (by kernel_rfl)) (fun a=>by obtain ⟨d,e⟩:=a;exact Sg.seg (C:=C0) ah HJ 60 (Kd.drop 2) (Ke b (d,e)) (Kf d e) (fun a:Empty=>a.elim) (Fq b) [⟨[(.slot 2,.fre 1 1 (.ns .u64 ([]:List Int))),(.slot 2,.lev b)],[],[2,3]⟩,⟨[],[],[2,3]⟩] (by kernel_rfl)))
    (fun x=>by cases x with | r0 f g i=>exact ⟨.inr rfl,[.imm b (.ns .u64 f) 1 1 0 g,.int .i64 ((i:Nat):Int)],[],by kernel_rfl,trivial,by kernel_rfl⟩) h
def xw:Option g4→Bool
  | some _=>true
  | none=>false
def y8:Option g4→List Int
  | some (.r0 x _ _)=>x
  | _=>[]
def y9:Option g4→Nat
  | some (.r0 _ x _)=>x
  | _=>0
def za:Option g4→Nat
  | some (.r0 _ _ x)=>x
  | _=>0
theorem ZW{x:Option g4}(h:xw x=true) :x=some (.r0 (y8 x) (y9 x) (za x)):=by
  unfold xw at h
  split at h <;> first | rfl | (cases h;done) | (rename_i y;cases y;rfl)
def MV:aD:=bW fK (.cons (.ns .u64) .nil) fun t=>[⟨Fr t.1.1 (.r0 (y8 (iY t.1.2)) (y9 (iY t.1.2)) (za (iY t.1.2))),[xw (iY t.1.2)]⟩]
theorem UI:aM prog MV:=aG fun t=>(aH (fun h=>ZV t.1.1 t.1.2 (ZW h)) aR)
def MW:List aD:=MV :: ad8
theorem pC:aX prog (aZ MW):=am UI HJ
inductive mE where
  | r0 (a:List Int) (b:Nat) (c:Nat)
def GN:mE→AE×aC
  | .r0 a b c=>(.ret,⟨ag 30 [(4,.imm .free (.ns .u64 a) 1 1 0 b),(5,.int .i64 ((c:Nat):Int))],[],0⟩)
theorem Qh:lc GN:=by intro x;cases x <;> (intro h;cases h)
def UJ:mE→ju
  | .r0 a b c=>⟨.tup [.imm .free (.ns .u64 a) 1 1 0 b,.int .i64 ((c:Nat):Int)],[]⟩
def HK:List Code:=bD (bp tk)
def ZX(a:Lv)(b:Int) :Nat×(List Int)×Nat→aC:=fun (c,d,e)=>⟨ag 30 [(1,.int .i64 b),(2,.ptr 0 1 0 0),(6,.int .i64 ((c:Nat):Int))],[(0,.vs [.imm a (.ns .u64 d) 1 1 0 e])],1⟩
def Qi(a:List Int) :T ((Nat×(List Int)×Nat)⊕(mE)) :=
  .ask (decide ((0:Int) < (1:Int)))
    (.need (iE (0:Int) 1)<|.need (aI 0 (List.length a) a)<|.need (cD (aw (aa 0 (List.length a) a)))<|.ask (decide ((((aF (aw (aa 0 (List.length a) a))):Nat):Int) > (4096:Int)))
      (.leaf (.inl (2,(aU (aw (aa 0 (List.length a) a))),(aF (aw (aa 0 (List.length a) a))))))
      (.need (dP .i64 (1:Int))<|.ask (decide ((1:Int) < (1:Int)))
        (.fail)
        (.leaf (.inl (0,(aU (aw (aa 0 (List.length a) a))),(aF (aw (aa 0 (List.length a) a))))))))
    (.fail)
def ZY(a:Lv)(b:Int)(c:List Int)(d:Nat)(_:Unit) :aC:=⟨ag 30 [(1,.int .i64 b),(2,.ptr 0 1 0 0)],[(0,.vs [.imm a (.ns .u64 c) 1 1 0 d])],1⟩
def ZZ(a:Int)(b:Nat)(c:Nat) :T ((Unit)⊕(mE)) :=
  .ask (((b:Nat):Int) != (0:Int))
    (.leaf (.inr (.r0 ([]:List Int) 0 2)))
    (.ask (decide (a < (0:Int)))
      (.leaf (.inr (.r0 ([]:List Int) 0 2)))
      (.ask (decide (((c:Nat):Int) > (0:Int)))
        (.ask (decide (a ≥ (262144:Int)))
          (.leaf (.inr (.r0 ([]:List Int) 0 3)))
          (.leaf (.inl ())))
        (.leaf (.inl ()))))
def Z0:(List Int)×Nat×Nat→aC:=fun (a,b,c)=>⟨ag 30 [(4,.imm .free (.ns .u64 a) 1 1 0 b),(5,.int .i64 ((c:Nat):Int))],[],0⟩
def HL(c:Int)(a:List Int)(b:Nat) :T (((List Int)×Nat×Nat)⊕(mE)) :=
  .need (aI 0 b a)<|.need (Do (eF (aa 0 b a) c))<|.need (aI (ou (eF (aa 0 b a) c)) (ov (eF (aa 0 b a) c)) (ow (eF (aa 0 b a) c)))<|.need (xw (iY (aa (ou (eF (aa 0 b a) c)) (ov (eF (aa 0 b a) c)) (ow (eF (aa 0 b a) c)))))<|.leaf (.inl ((y8 (iY (aa (ou (eF (aa 0 b a) c)) (ov (eF (aa 0 b a) c)) (ow (eF (aa 0 b a) c))))),(y9 (iY (aa (ou (eF (aa 0 b a) c)) (ov (eF (aa 0 b a) c)) (ow (eF (aa 0 b a) c))))),(za (iY (aa (ou (eF (aa 0 b a) c)) (ov (eF (aa 0 b a) c)) (ow (eF (aa 0 b a) c)))))))
def Z1(a:List Int)(b:Nat)(c:Nat) :T ((Empty)⊕(mE)) :=
  .leaf (.inr (.r0 a b c))
def gU(c:List Int)(a:Int) :Option mE:=l6 (ax ((Qi c).run) fun (d,e,b) =>
  ax ((ZZ a d b).run) fun _ =>
  ax ((HL a e b).run) fun (f,g,h) =>
  (Z1 f g h).run)
theorem aj9(c:Lv)(d:List Int)(b:Int){x:mE}(h:gU d b=some x) :ak prog tk [] [.imm c (.ns .u64 d) 1 1 0 (List.length d),.int .i64 b] (UJ x) :=
  Sg.contract true UJ (by kernel_rfl:prog.funcs[tk]? = some (FN tk)) (by kernel_rfl:(FN tk).body=some (bp tk)) (Sg.cut 2 Qh (Sg.seg (C:=C0) ah pC 60 (HK.take 2) (aL (FN tk) [] [.imm c (.ns .u64 d) 1 1 0 (List.length d),.int .i64 b]) (Qi d) (ZX c b) GN [⟨[],[0],[1,2,6]⟩,⟨[],[0],[1,2,6]⟩] (by kernel_rfl)) (fun a=>by obtain ⟨g,f,e⟩:=a;exact Sg.cut 1 Qh (Sg.seg (C:=C0) ah pC 60 ((HK.drop 2).take 1) (ZX c b (g,f,e)) (ZZ b g e) (ZY c b f e) GN [⟨[(.slot 4,.fre 1 1 (.ns .u64 ([]:List Int)))],[],[4,5]⟩,⟨[(.slot 4,.fre 1 1 (.ns .u64 ([]:List Int)))],[],[4,5]⟩,⟨[(.slot 4,.fre 1 1 (.ns .u64 ([]:List Int)))],[],[4,5]⟩,⟨[],[0],[1,2]⟩,⟨[],[0],[1,2]⟩] (by kernel_rfl)) (fun a=>by cases a;exact Sg.cut 1 Qh (Sg.seg (C:=C0) ah pC 60 (((HK.drop 2).drop 1).take 1) (ZY c b f e ()) (HL b f e) Z0 GN [⟨[],[],[4,5]⟩] (by kernel_rfl)) (fun a=>by obtain ⟨i,j,k⟩:=a;exact Sg.seg (C:=C0) ah pC 60 (((HK.drop 2).drop 1).drop 1) (Z0 (i,j,k)) (Z1 i j k) (fun a:Empty=>a.elim) GN [⟨[],[],[4,5]⟩] (by kernel_rfl)))))
    (fun x=>by cases x with | r0 l m n=>exact ⟨.inr rfl,[.imm .free (.ns .u64 l) 1 1 0 m,.int .i64 ((n:Nat):Int)],[],by kernel_rfl,trivial,by kernel_rfl⟩) h
def zb:Option mE→Bool
  | some _=>true
  | none=>false
def tx:Option mE→List Int
  | some (.r0 x _ _)=>x
  | _=>[]
def tA:Option mE→Nat
  | some (.r0 _ x _)=>x
  | _=>0
def Ry:Option mE→Nat
  | some (.r0 _ _ x)=>x
  | _=>0
theorem aka{x:Option mE}(h:zb x=true) :x=some (.r0 (tx x) (tA x) (Ry x)):=by
  unfold zb at h
  split at h <;> first | rfl | (cases h;done) | (rename_i y;cases y;rfl)
def ad9:aD:=bW tk (.cons (.ns .u64) (.cons (.int .i64) .nil)) fun t=>[⟨UJ (.r0 (tx (gU t.1.2 t.2.1)) (tA (gU t.1.2 t.2.1)) (Ry (gU t.1.2 t.2.1))),[zb (gU t.1.2 t.2.1)]⟩]
theorem afl:aM prog ad9:=aG fun t=>(aH (fun h=>aj9 t.1.1 t.1.2 t.2.1 (aka h)) aR)
def aea:List aD:=ad9 :: MW
theorem lK:aX prog (aZ aea):=am afl pC
end
end Go.Plb.Seat
namespace Go.Plb.Seat
open Go Go.Plb
set_option linter.unusedVariables false
set_option maxRecDepth 100000
noncomputable section
inductive fb where
  | r0 (a:Nat) (b:Nat) (c:Nat) (d:Bool) (e:List Int)
def nr:fb→AE×aC
  | .r0 a b c d e=>(.ret,⟨ag 97 [(4,.sl 0 1 1 a b c),(5,.bool false d)],[(0,.ns .u64 e)],1⟩)
theorem qu:lc nr:=by intro x;cases x <;> (intro h;cases h)
theorem Z2(id:Nat) :qp id nr:=by intro x;cases x <;> (intro h;cases h)
def UK:fb→ju
  | .r0 a b e c d=>⟨.tup [.imm .free (.ns .u64 d) 1 1 a b,.bool false c],[]⟩
def l8:List Code:=bD (bp ti)
def Z3(b:Lv)(a:List Int) :Int×Int×Bool×Nat×Nat→aC:=fun (c,r2,d,e,f)=>⟨ag 97 [(0,.imm b (.ns .u64 a) 1 1 0 (List.length a)),(6,.int .i64 c),(7,.int .u64 r2),(8,.bool false d),(36,.imm b (.ns .u64 a) 1 1 0 e),(37,.int .i64 ((f:Nat):Int)),(38,.int .i64 (0:Int))],[],0⟩
def EO(b:List Int)(a:Int) :T ((Int×Int×Bool×Nat×Nat)⊕(fb)) :=
  .need ((64:Int) != (0:Int))<|.need (dP .i64 (Int.tdiv a (64:Int)))<|.need ((64:Int) != (0:Int))<|.ask (decide ((Int.tdiv a (64:Int)) ≥ (((List.length b):Nat):Int)))
    (.leaf (.inr (.r0 0 0 0 (decide ((((List.length b):Nat):Int) > (0:Int))) ([]:List Int))))
    (.need (iE (Int.tdiv a (64:Int)) (List.length b))<|.need (iX (Int.toNat (Int.tdiv a (64:Int))) (List.length b))<|.need (decide ((0:Int)≤(IntKind.u64.wrap (Int.tmod a (64:Int)))))<|.need (MI (Int.tdiv a (64:Int)) (List.length b))<|.need (MI (0:Int) (Int.toNat (Int.tdiv a (64:Int))))<|.leaf (.inl ((Int.tdiv a (64:Int)),(IntKind.u64.wrap (Int.tmod a (64:Int))),((gE .and .u64 (List.getD b (Int.toNat (Int.tdiv a (64:Int))) 0) (IntKind.u64.wrap ((IntKind.u64.wrap ((1:Int) * 2 ^ (min (Int.toNat (IntKind.u64.wrap (Int.tmod a (64:Int)))) (IntKind.u64.bits)))) - (1:Int)))) != (0:Int)),(Int.toNat (Int.tdiv a (64:Int))),(Int.toNat (Int.tdiv a (64:Int))))))
def zc(b:Lv)(a:List Int)(c:Int)(r2:Int)(d:Nat)(e:Nat) :Bool×Nat→aC:=fun (f,g)=>⟨ag 97 [(0,.imm b (.ns .u64 a) 1 1 0 (List.length a)),(6,.int .i64 c),(7,.int .u64 r2),(8,.bool false f),(36,.imm b (.ns .u64 a) 1 1 0 d),(37,.int .i64 ((e:Nat):Int)),(38,.int .i64 ((g:Nat):Int))],[],0⟩
def Dq(b:Lv)(a:List Int)(c:Int)(r2:Int)(d:Bool) :aC:=⟨ag 97 [(0,.imm b (.ns .u64 a) 1 1 0 (List.length a)),(6,.int .i64 c),(7,.int .u64 r2),(8,.bool false d)],[],0⟩
def Kg:List Code:=bD (bE ((((l8.drop 6).take 1)).headD .skip))
def Z4(b:Lv)(a:List Int)(c:Int)(r2:Int)(d:Nat)(e:Nat)(f:Nat)(g:Bool) :aC:=⟨ag 97 [(0,.imm b (.ns .u64 a) 1 1 0 (List.length a)),(6,.int .i64 c),(7,.int .u64 r2),(8,.bool false g),(36,.imm b (.ns .u64 a) 1 1 0 d),(37,.int .i64 ((e:Nat):Int)),(38,.int .i64 ((f:Nat):Int))],[],0⟩
def A0(b:List Int)(d:Nat)(e:Nat)(c:Bool)(a:Nat) :T ((Bool)⊕((Bool)⊕(fb))) :=
  .ask (decide (((a:Nat):Int) < ((e:Nat):Int)))
    (.need (iE ((a:Nat):Int) d)<|.need (iX a (List.length b))<|.ask c
      (.leaf (.inl true))
      (.leaf (.inl ((List.getD b a 0) != (0:Int)))))
    (.leaf (.inr (.inl c)))
def VY(a:Nat)(b:Bool) :T ((Bool×Nat)⊕((Bool)⊕(fb))) :=
  .need (dP .i64 (((a+1):Nat):Int))<|.leaf (.inl (b,(a+1)))
def Kh(b:List Int)(c:Nat)(d:Nat) :Bool×Nat→Option ((Bool×Nat)⊕((Bool)⊕(fb))):=fun (e,a) =>
  ax ((A0 b c d e a).run) fun f =>
  (VY a f).run
theorem ah7(b:Lv)(a:List Int)(c:Int)(r2:Int)(d:Nat)(e:Nat)(g:Bool)(f:Nat) :Sg prog [] Kg (zc b a c r2 d e (g,f)) (Kh a d e (g,f)) (zc b a c r2 d e) (aO 0 (Dq b a c r2) nr):=by
  unfold Kh;exact Sg.cut 3 (aW qu) (Sg.seg (C:=C0) ah lK 60 (Kg.take 3) (zc b a c r2 d e (g,f)) (A0 a d e g f) (Z4 b a c r2 d e f) (aO 0 (Dq b a c r2) nr) [⟨[],[],[0,6,7,8,36,37,38]⟩,⟨[],[],[0,6,7,8,36,37,38]⟩,⟨[],[],[0,6,7,8]⟩] (by kernel_rfl)) (fun h=>by exact Sg.seg (C:=C0) ah lK 60 (Kg.drop 3) (Z4 b a c r2 d e f h) (VY f h) (zc b a c r2 d e) (aO 0 (Dq b a c r2) nr) [⟨[],[],[0,6,7,8,36,37,38]⟩] (by kernel_rfl))
def akb(a:Lv)(b:List Int)(c:Int)(r2:Int) :Bool→aC:=Dq a b c r2
def Z5(c:Lv)(a:List Int)(d:Int)(r2:Int)(e:Bool) :Nat×Nat×(List Int)→aC:=fun (b,f,g)=>⟨ag 97 [(0,.imm c (.ns .u64 a) 1 1 0 (List.length a)),(6,.int .i64 d),(7,.int .u64 r2),(8,.bool false e),(11,.sl 0 1 1 0 b b),(54,.int .i64 ((f:Nat):Int)),(55,.int .i64 (0:Int))],[(0,.ns .u64 g)],1⟩
def EP(a:List Int)(b:Int) :T ((Nat×Nat×(List Int))⊕(fb)) :=
  .need (dP .i64 ((((List.length a):Nat):Int) - b))<|.need (decide ((0:Int)≤((((List.length a):Nat):Int) - b)))<|.need (decide (((((List.length a):Nat):Int) - b)≤((((List.length a):Nat):Int) - b)))<|.need (decide ((8:Int) * ((((List.length a):Nat):Int) - b)≤140737488355328))<|.need (dP .i64 ((((List.length a):Nat):Int) - b))<|.leaf (.inl ((Int.toNat ((((List.length a):Nat):Int) - b)),(Int.toNat ((((List.length a):Nat):Int) - b)),(List.replicate (Int.toNat ((((List.length a):Nat):Int) - b)) (0:Int))))
def wJ(c:Lv)(a:List Int)(d:Int)(r2:Int)(e:Bool)(b:Nat)(f:Nat) :Nat×(List Int)→aC:=fun (g,h)=>⟨ag 97 [(0,.imm c (.ns .u64 a) 1 1 0 (List.length a)),(6,.int .i64 d),(7,.int .u64 r2),(8,.bool false e),(11,.sl 0 1 1 0 b b),(54,.int .i64 ((f:Nat):Int)),(55,.int .i64 ((g:Nat):Int))],[(0,.ns .u64 h)],1⟩
def A1(b:Bool)(a:Nat)(c:(List Int)) :aC:=⟨ag 97 [(8,.bool false b),(11,.sl 0 1 1 0 a a)],[(0,.ns .u64 c)],1⟩
def Ki:List Code:=bD (bE ((((((l8.drop 6).drop 1).drop 2).take 1)).headD .skip))
def VZ(c:Lv)(a:List Int)(d:Int)(r2:Int)(e:Bool)(b:Nat)(f:Nat)(g:Nat)(h:(List Int)) :aC:=⟨ag 97 [(0,.imm c (.ns .u64 a) 1 1 0 (List.length a)),(6,.int .i64 d),(7,.int .u64 r2),(8,.bool false e),(11,.sl 0 1 1 0 b b),(54,.int .i64 ((f:Nat):Int)),(55,.int .i64 ((g:Nat):Int))],[(0,.ns .u64 h)],1⟩
def A2(c:List Int)(b:Int)(r2:Int)(e:Nat)(f:Nat)(a:Nat)(d:List Int) :T (((List Int))⊕(((List Int))⊕(fb))) :=
  .ask (decide (((a:Nat):Int) < ((f:Nat):Int)))
    (.need (dP .i64 (((a:Nat):Int)+b))<|.need (iE (((a:Nat):Int)+b) (List.length c))<|.need (iX (Int.toNat (((a:Nat):Int)+b)) (List.length c))<|.need (decide ((0:Int)≤r2))<|.need (iE ((a:Nat):Int) e)<|.need (iX a (List.length d))<|.need (dP .i64 (((a:Nat):Int)+b))<|.need (dP .i64 ((((a:Nat):Int)+b)+(1:Int)))<|.ask (decide (((((a:Nat):Int)+b)+(1:Int)) < (((List.length c):Nat):Int)))
      (.need (iE ((a:Nat):Int) e)<|.need (iX a (List.length (List.set d a (Int.fdiv (List.getD c (Int.toNat (((a:Nat):Int)+b)) 0) (2 ^ (min (Int.toNat r2) (IntKind.u64.bits)))))))<|.need (dP .i64 (((a:Nat):Int)+b))<|.need (dP .i64 ((((a:Nat):Int)+b)+(1:Int)))<|.need (iE ((((a:Nat):Int)+b)+(1:Int)) (List.length c))<|.need (iX (Int.toNat ((((a:Nat):Int)+b)+(1:Int))) (List.length c))<|.need (decide ((0:Int)≤(1:Int)))<|.need (decide ((0:Int)≤(IntKind.u64.wrap ((63:Int) - r2))))<|.need (iE ((a:Nat):Int) e)<|.need (iX a (List.length (List.set d a (Int.fdiv (List.getD c (Int.toNat (((a:Nat):Int)+b)) 0) (2 ^ (min (Int.toNat r2) (IntKind.u64.bits)))))))<|.leaf (.inl (List.set (List.set d a (Int.fdiv (List.getD c (Int.toNat (((a:Nat):Int)+b)) 0) (2 ^ (min (Int.toNat r2) (IntKind.u64.bits))))) a (gE .or .u64 (List.getD (List.set d a (Int.fdiv (List.getD c (Int.toNat (((a:Nat):Int)+b)) 0) (2 ^ (min (Int.toNat r2) (IntKind.u64.bits))))) a 0) (IntKind.u64.wrap ((IntKind.u64.wrap ((List.getD c (Int.toNat ((((a:Nat):Int)+b)+(1:Int))) 0) * 2 ^ (min (Int.toNat (1:Int)) (IntKind.u64.bits)))) * 2 ^ (min (Int.toNat (IntKind.u64.wrap ((63:Int) - r2))) (IntKind.u64.bits))))))))
      (.leaf (.inl (List.set d a (Int.fdiv (List.getD c (Int.toNat (((a:Nat):Int)+b)) 0) (2 ^ (min (Int.toNat r2) (IntKind.u64.bits))))))))
    (.leaf (.inr (.inl d)))
def V0(a:Nat)(b:List Int) :T ((Nat×(List Int))⊕(((List Int))⊕(fb))) :=
  .need (dP .i64 (((a+1):Nat):Int))<|.leaf (.inl ((a+1),b))
def Kj(b:List Int)(c:Int)(r2:Int)(d:Nat)(e:Nat) :Nat×(List Int)→Option ((Nat×(List Int))⊕(((List Int))⊕(fb))):=fun (a,f) =>
  ax ((A2 b c r2 d e a f).run) fun g =>
  (V0 a g).run
theorem ah8(g:Lv)(c:List Int)(d:Int)(r2:Int)(b:Bool)(a:Nat)(e:Nat)(f:Nat)(h:List Int) :Sg prog [] Ki (wJ g c d r2 b a e (f,h)) (Kj c d r2 a e (f,h)) (wJ g c d r2 b a e) (aO 2 (A1 b a) nr):=by
  unfold Kj;exact Sg.cut 3 (aW qu) (Sg.seg (C:=C0) ah lK 60 (Ki.take 3) (wJ g c d r2 b a e (f,h)) (A2 c d r2 a e f h) (VZ g c d r2 b a e f) (aO 2 (A1 b a) nr) [⟨[],[0],[0,6,7,8,11,54,55]⟩,⟨[],[0],[0,6,7,8,11,54,55]⟩,⟨[],[0],[8,11]⟩] (by kernel_rfl)) (fun i=>by exact Sg.seg (C:=C0) ah lK 60 (Ki.drop 3) (VZ g c d r2 b a e f i) (V0 f i) (wJ g c d r2 b a e) (aO 2 (A1 b a) nr) [⟨[],[0],[0,6,7,8,11,54,55]⟩] (by kernel_rfl))
def ah9(a:Bool)(b:Nat) :(List Int)→aC:=A1 a b
def V1(a:Bool) :Nat×Nat×Nat×(List Int)→aC:=fun (b,c,d,e)=>⟨ag 97 [(4,.sl 0 1 1 b c d),(5,.bool false a)],[(0,.ns .u64 e)],1⟩
def Kk(a:Nat)(b:List Int) :T ((Nat×Nat×Nat×(List Int))⊕(fb)) :=
  .need (kw (bv b 0 a a))<|.leaf (.inl ((jS (bv b 0 a a)),(jT (bv b 0 a a)),(jU (bv b 0 a a)),(jV (bv b 0 a a))))
def V2(a:Bool)(b:Nat)(c:Nat)(d:Nat)(e:List Int) :T ((Empty)⊕(fb)) :=
  .leaf (.inr (.r0 b c d a e))
def mF(a:List Int)(d:Int) :Option fb:=l6 (ax ((EO a d).run) fun (b,r2,e,f,g) =>
  ax (dH (Kh a f g) (e,0)) fun h =>
  ax ((EP a b).run) fun (c,i,j) =>
  ax (dH (Kj a b r2 c i) (0,j)) fun k =>
  ax ((Kk c k).run) fun (l,m,n,o) =>
  (V2 h l m n o).run)
theorem akc(c:Lv)(b:List Int)(g:Int){x:fb}(h:mF b g=some x) :ak prog ti [] [.imm c (.ns .u64 b) 1 1 0 (List.length b),.int .i64 g] (UK x) :=
  Sg.contract true UK (by kernel_rfl:prog.funcs[ti]? = some (FN ti)) (by kernel_rfl:(FN ti).body=some (bp ti)) (Sg.cut 6 qu (Sg.seg (C:=C0) ah lK 60 (l8.take 6) (aL (FN ti) [] [.imm c (.ns .u64 b) 1 1 0 (List.length b),.int .i64 g]) (EO b g) (Z3 c b) nr [⟨[(.slot 4,.own 1 1 (.ns .u64 ([]:List Int)))],[288],[4,5]⟩,⟨[],[],[0,6,7,8,36,37,38]⟩] (by kernel_rfl)) (fun a=>by obtain ⟨d,r2,l,i,j⟩:=a;exact Sg.cut 1 qu (Sg.pre ⟨[],[],[0,6,7,8,36,37,38]⟩ rfl (by kernel_rfl:NS.on ⟨[],[],[0,6,7,8,36,37,38]⟩ (Z3 c b (d,r2,l,i,j))=(zc c b d r2 i j) (l,0)) (bT (I:=(zc c b d r2 i j)) (J:=(Dq c b d r2)) (id:=0) (by kernel_rfl:((l8.drop 6).take 1) = [.block 0 (.loop (bE ((((l8.drop 6).take 1)).headD .skip)))]) qu (Z2 _) (fun s=>by obtain ⟨t,u⟩:=s;exact ah7 c b d r2 i j t u) (l,0))) (fun e=>by exact Sg.cut 2 qu (Sg.seg (C:=C0) ah lK 60 (((l8.drop 6).drop 1).take 2) (akb c b d r2 e) (EP b d) (Z5 c b d r2 e) nr [⟨[],[64],[0,6,7,8,11,54,55]⟩] (by kernel_rfl)) (fun a=>by obtain ⟨f,k,m⟩:=a;exact Sg.cut 1 qu (Sg.pre ⟨[],[0],[0,6,7,8,11,54,55]⟩ rfl (by kernel_rfl:NS.on ⟨[],[0],[0,6,7,8,11,54,55]⟩ (Z5 c b d r2 e (f,k,m))=(wJ c b d r2 e f k) (0,m)) (bT (I:=(wJ c b d r2 e f k)) (J:=(A1 e f)) (id:=2) (by kernel_rfl:((((l8.drop 6).drop 1).drop 2).take 1) = [.block 2 (.loop (bE ((((((l8.drop 6).drop 1).drop 2).take 1)).headD .skip)))]) qu (Z2 _) (fun s=>by obtain ⟨v,w⟩:=s;exact ah8 c b d r2 e f k v w) (0,m))) (fun n=>by exact Sg.cut 1 qu (Sg.seg (C:=C0) ah lK 60 (((((l8.drop 6).drop 1).drop 2).drop 1).take 1) (ah9 e f n) (Kk f n) (V1 e) nr [⟨[],[0],[4,5]⟩] (by kernel_rfl)) (fun a=>by obtain ⟨o,p,q,r⟩:=a;exact Sg.seg (C:=C0) ah lK 60 (((((l8.drop 6).drop 1).drop 2).drop 1).drop 1) (V1 e (o,p,q,r)) (V2 e o p q r) (fun a:Empty=>a.elim) nr [⟨[],[0],[4,5]⟩] (by kernel_rfl)))))))
    (fun x=>by cases x with | r0 y z A B D=>exact ⟨.inr rfl,[.sl 0 1 1 y z A,.bool false B],[],by kernel_rfl,trivial,by kernel_rfl⟩) h
def HM:Option fb→Bool
  | some _=>true
  | none=>false
def HN:Option fb→Nat
  | some (.r0 x _ _ _ _)=>x
  | _=>0
def HO:Option fb→Nat
  | some (.r0 _ x _ _ _)=>x
  | _=>0
def Rz:Option fb→Nat
  | some (.r0 _ _ x _ _)=>x
  | _=>0
def HP:Option fb→Bool
  | some (.r0 _ _ _ x _)=>x
  | _=>false
def HQ:Option fb→List Int
  | some (.r0 _ _ _ _ x)=>x
  | _=>[]
theorem akd{x:Option fb}(h:HM x=true) :x=some (.r0 (HN x) (HO x) (Rz x) (HP x) (HQ x)):=by
  unfold HM at h
  split at h <;> first | rfl | (cases h;done) | (rename_i y;cases y;rfl)
def aeb:aD:=bW ti (.cons (.ns .u64) (.cons (.int .i64) .nil)) fun t=>[⟨UK (.r0 (HN (mF t.1.2 t.2.1)) (HO (mF t.1.2 t.2.1)) (Rz (mF t.1.2 t.2.1)) (HP (mF t.1.2 t.2.1)) (HQ (mF t.1.2 t.2.1))),[HM (mF t.1.2 t.2.1)]⟩]
theorem afm:aM prog aeb:=aG fun t=>(aH (fun h=>akc t.1.1 t.1.2 t.2.1 (akd h)) aR)
def aec:List aD:=aeb :: aea
theorem xx:aX prog (aZ aec):=am afm lK
inductive jW where
  | r0 (a:List Int) (b:Nat) (c:Nat) (d:Bool) (e:Nat)
def GO:jW→AE×aC
  | .r0 a b c d e=>(.ret,⟨ag 23 [(4,.imm .free (.ns .u64 a) 1 1 b c),(5,.bool false d),(6,.int .i64 ((e:Nat):Int))],[],0⟩)
theorem Qj:lc GO:=by intro x;cases x <;> (intro h;cases h)
def UL:jW→ju
  | .r0 a b c d e=>⟨.tup [.imm .free (.ns .u64 a) 1 1 b c,.bool false d,.int .i64 ((e:Nat):Int)],[]⟩
def HS:List Code:=bD (bp tc)
def Z6(a:Lv)(b:Int) :Nat×(List Int)×Nat→aC:=fun (c,d,e)=>⟨ag 23 [(1,.int .i64 b),(2,.ptr 0 1 0 0),(6,.int .i64 ((c:Nat):Int))],[(0,.vs [.imm a (.ns .u64 d) 1 1 0 e])],1⟩
def Qk(a:List Int) :T ((Nat×(List Int)×Nat)⊕(jW)) :=
  .ask (decide ((0:Int) < (1:Int)))
    (.need (iE (0:Int) 1)<|.need (aI 0 (List.length a) a)<|.need (cD (aw (aa 0 (List.length a) a)))<|.ask (decide ((((aF (aw (aa 0 (List.length a) a))):Nat):Int) > (4096:Int)))
      (.leaf (.inl (2,(aU (aw (aa 0 (List.length a) a))),(aF (aw (aa 0 (List.length a) a))))))
      (.need (dP .i64 (1:Int))<|.ask (decide ((1:Int) < (1:Int)))
        (.fail)
        (.leaf (.inl (0,(aU (aw (aa 0 (List.length a) a))),(aF (aw (aa 0 (List.length a) a))))))))
    (.fail)
def Z7(a:Lv)(b:Int)(c:List Int)(d:Nat)(e:Bool) :aC:=⟨ag 23 [(1,.int .i64 b),(2,.ptr 0 1 0 0),(14,.bool false e)],[(0,.vs [.imm a (.ns .u64 c) 1 1 0 d])],1⟩
def Z8(a:Int)(b:Nat) :T ((Bool)⊕(jW)) :=
  .ask (((b:Nat):Int) != (0:Int))
    (.leaf (.inl true))
    (.leaf (.inl (decide (a < (0:Int)))))
def Z9:(List Int)×Nat×Nat×Bool→aC:=fun (a,b,c,d)=>⟨ag 23 [(4,.imm .free (.ns .u64 a) 1 1 b c),(5,.bool false d)],[],0⟩
def HT(c:Int)(a:List Int)(b:Nat)(d:Bool) :T (((List Int)×Nat×Nat×Bool)⊕(jW)) :=
  .ask d
    (.leaf (.inr (.r0 ([]:List Int) 0 0 false 2)))
    (.need (aI 0 b a)<|.need (HM (mF (aa 0 b a) c))<|.leaf (.inl ((HQ (mF (aa 0 b a) c)),(HN (mF (aa 0 b a) c)),(HO (mF (aa 0 b a) c)),(HP (mF (aa 0 b a) c)))))
def aaa(a:List Int)(b:Nat)(c:Nat)(d:Bool) :T ((Empty)⊕(jW)) :=
  .leaf (.inr (.r0 a b c d 0))
def nt(b:List Int)(a:Int) :Option jW:=l6 (ax ((Qk b).run) fun (c,d,e) =>
  ax ((Z8 a c).run) fun f =>
  ax ((HT a d e f).run) fun (g,h,i,j) =>
  (aaa g h i j).run)
theorem ake(c:Lv)(d:List Int)(b:Int){x:jW}(h:nt d b=some x) :ak prog tc [] [.imm c (.ns .u64 d) 1 1 0 (List.length d),.int .i64 b] (UL x) :=
  Sg.contract true UL (by kernel_rfl:prog.funcs[tc]? = some (FN tc)) (by kernel_rfl:(FN tc).body=some (bp tc)) (Sg.cut 2 Qj (Sg.seg (C:=C0) ah xx 60 (HS.take 2) (aL (FN tc) [] [.imm c (.ns .u64 d) 1 1 0 (List.length d),.int .i64 b]) (Qk d) (Z6 c b) GO [⟨[],[0],[1,2,6]⟩,⟨[],[0],[1,2,6]⟩] (by kernel_rfl)) (fun a=>by obtain ⟨g,e,f⟩:=a;exact Sg.cut 1 Qj (Sg.seg (C:=C0) ah xx 60 ((HS.drop 2).take 1) (Z6 c b (g,e,f)) (Z8 b g) (Z7 c b e f) GO [⟨[],[0],[1,2,14]⟩,⟨[],[0],[1,2,14]⟩] (by kernel_rfl)) (fun i=>by exact Sg.cut 2 Qj (Sg.seg (C:=C0) ah xx 60 (((HS.drop 2).drop 1).take 2) (Z7 c b e f i) (HT b e f i) Z9 GO [⟨[(.slot 4,.fre 1 1 (.ns .u64 ([]:List Int)))],[],[4,5,6]⟩,⟨[],[],[4,5]⟩] (by kernel_rfl)) (fun a=>by obtain ⟨j,k,l,m⟩:=a;exact Sg.seg (C:=C0) ah xx 60 (((HS.drop 2).drop 1).drop 2) (Z9 (j,k,l,m)) (aaa j k l m) (fun a:Empty=>a.elim) GO [⟨[],[],[4,5,6]⟩] (by kernel_rfl)))))
    (fun x=>by cases x with | r0 n o p q r=>exact ⟨.inr rfl,[.imm .free (.ns .u64 n) 1 1 o p,.bool false q,.int .i64 ((r:Nat):Int)],[],by kernel_rfl,trivial,by kernel_rfl⟩) h
def HU:Option jW→Bool
  | some _=>true
  | none=>false
def HV:Option jW→List Int
  | some (.r0 x _ _ _ _)=>x
  | _=>[]
def HW:Option jW→Nat
  | some (.r0 _ x _ _ _)=>x
  | _=>0
def HX:Option jW→Nat
  | some (.r0 _ _ x _ _)=>x
  | _=>0
def RA:Option jW→Bool
  | some (.r0 _ _ _ x _)=>x
  | _=>false
def RB:Option jW→Nat
  | some (.r0 _ _ _ _ x)=>x
  | _=>0
theorem akf{x:Option jW}(h:HU x=true) :x=some (.r0 (HV x) (HW x) (HX x) (RA x) (RB x)):=by
  unfold HU at h
  split at h <;> first | rfl | (cases h;done) | (rename_i y;cases y;rfl)
def aed:aD:=bW tc (.cons (.ns .u64) (.cons (.int .i64) .nil)) fun t=>[⟨UL (.r0 (HV (nt t.1.2 t.2.1)) (HW (nt t.1.2 t.2.1)) (HX (nt t.1.2 t.2.1)) (RA (nt t.1.2 t.2.1)) (RB (nt t.1.2 t.2.1))),[HU (nt t.1.2 t.2.1)]⟩]
theorem afn:aM prog aed:=aG fun t=>(aH (fun h=>ake t.1.1 t.1.2 t.2.1 (akf h)) aR)
def aee:List aD:=aed :: aec
theorem qv:aX prog (aZ aee):=am afn xx
inductive fL where
  | r0 (a:Int) (b:Nat)
def oz:fL→AE×aC
  | .r0 a b=>(.ret,⟨ag 31 [(2,.int .i64 a),(3,.int .i64 ((b:Nat):Int))],[],0⟩)
theorem tB:lc oz:=by intro x;cases x <;> (intro h;cases h)
theorem afp(id:Nat) :qp id oz:=by intro x;cases x <;> (intro h;cases h)
def Kl:fL→ju
  | .r0 a b=>⟨.tup [.int .i64 a,.int .i64 ((b:Nat):Int)],[]⟩
def oA:List Code:=bD (bp n8)
def RC(a:Lv) :Nat×(List Int)×Nat→aC:=fun (b,c,d)=>⟨ag 31 [(1,.ptr 0 1 0 0),(4,.int .i64 ((b:Nat):Int))],[(0,.vs [.imm a (.ns .u64 c) 1 1 0 d])],1⟩
def Fs(a:List Int) :T ((Nat×(List Int)×Nat)⊕(fL)) :=
  .ask (decide ((0:Int) < (1:Int)))
    (.need (iE (0:Int) 1)<|.need (aI 0 (List.length a) a)<|.need (cD (aw (aa 0 (List.length a) a)))<|.ask (decide ((((aF (aw (aa 0 (List.length a) a))):Nat):Int) > (4096:Int)))
      (.leaf (.inl (2,(aU (aw (aa 0 (List.length a) a))),(aF (aw (aa 0 (List.length a) a))))))
      (.need (dP .i64 (1:Int))<|.ask (decide ((1:Int) < (1:Int)))
        (.fail)
        (.leaf (.inl (0,(aU (aw (aa 0 (List.length a) a))),(aF (aw (aa 0 (List.length a) a))))))))
    (.fail)
def RD(a:Lv)(b:Nat)(c:List Int)(d:Nat)(e:Bool) :aC:=⟨ag 31 [(1,.ptr 0 1 0 0),(4,.int .i64 ((b:Nat):Int)),(14,.bool false e)],[(0,.vs [.imm a (.ns .u64 c) 1 1 0 d])],1⟩
def MX(a:Nat)(b:Nat) :T ((Bool)⊕(fL)) :=
  .ask (((a:Nat):Int) != (0:Int))
    (.leaf (.inl true))
    (.leaf (.inl (((b:Nat):Int) == (0:Int))))
def RE(a:Lv)(b:List Int)(c:Nat)(_:Unit) :aC:=⟨ag 31 [(1,.ptr 0 1 0 0),(5,.int .i64 (0:Int))],[(0,.vs [.imm a (.ns .u64 b) 1 1 0 c])],1⟩
def MY(a:Nat)(b:Bool) :T ((Unit)⊕(fL)) :=
  .ask b
    (.leaf (.inr (.r0 (0:Int) a)))
    (.leaf (.inl ()))
def tC(a:Lv)(b:List Int)(c:Nat)(d:Nat) :aC:=⟨ag 31 [(1,.ptr 0 1 0 0),(5,.int .i64 ((d:Nat):Int))],[(0,.vs [.imm a (.ns .u64 b) 1 1 0 c])],1⟩
def Ca(a:Lv)(b:List Int)(c:Nat)(d:Nat) :aC:=⟨ag 31 [(1,.ptr 0 1 0 0),(5,.int .i64 ((d:Nat):Int))],[(0,.vs [.imm a (.ns .u64 b) 1 1 0 c])],1⟩
def MZ:List Code:=bD (bE ((((((oA.drop 2).drop 1).drop 2).take 1)).headD .skip))
def rt(b:List Int)(c:Nat)(a:Nat) :T ((Nat)⊕((Nat)⊕(fL))) :=
  .need (iE ((a:Nat):Int) c)<|.need (iX a (List.length b))<|.ask ((List.getD b a 0) == (0:Int))
    (.need (dP .i64 (((a+1):Nat):Int))<|.leaf (.inl (a+1)))
    (.leaf (.inr (.inl a)))
def Ft(a:List Int)(b:Nat) :Nat→Option ((Nat)⊕((Nat)⊕(fL))):=fun c =>
  (rt a b c).run
theorem abV(c:Lv)(a:List Int)(b:Nat)(d:Nat) :Sg prog [] MZ (tC c a b d) (Ft a b d) (tC c a b) (aO 0 (Ca c a b) oz):=by
  unfold Ft;exact Sg.seg (C:=C0) ah qv 60 MZ (tC c a b d) (rt a b d) (tC c a b) (aO 0 (Ca c a b) oz) [⟨[],[0],[1,5]⟩,⟨[],[0],[1,5]⟩] (by kernel_rfl)
def afq(a:Lv)(b:List Int)(c:Nat) :Nat→aC:=Ca a b c
def RF(a:Int) :aC:=⟨ag 31 [(2,.int .i64 a),(3,.int .i64 (0:Int))],[],0⟩
def Fu(b:List Int)(c:Nat)(a:Nat) :T ((Int)⊕(fL)) :=
  .need (dP .i64 (((64 * a):Nat):Int))<|.need (iE ((a:Nat):Int) c)<|.need (iX a (List.length b))<|.need (eV (dn (List.getD b a 0)))<|.need (dP .i64 ((((64 * a):Nat):Int)+(eC (dn (List.getD b a 0)))))<|.leaf (.inl ((((64 * a):Nat):Int)+(eC (dn (List.getD b a 0)))))
def M0(a:Int) :T ((Empty)⊕(fL)) :=
  .leaf (.inr (.r0 a 0))
def si(d:List Int) :Option fL:=l6 (ax ((Fs d).run) fun (b,c,a) =>
  ax ((MX b a).run) fun e =>
  ax ((MY b e).run) fun _ =>
  ax (dH (Ft c a) 0) fun f =>
  ax ((Fu c a f).run) fun g =>
  (M0 g).run)
theorem afs(b:Lv)(e:List Int){x:fL}(h:si e=some x) :ak prog n8 [] [.imm b (.ns .u64 e) 1 1 0 (List.length e)] (Kl x) :=
  Sg.contract true Kl (by kernel_rfl:prog.funcs[n8]? = some (FN n8)) (by kernel_rfl:(FN n8).body=some (bp n8)) (Sg.cut 2 tB (Sg.seg (C:=C0) ah qv 60 (oA.take 2) (aL (FN n8) [] [.imm b (.ns .u64 e) 1 1 0 (List.length e)]) (Fs e) (RC b) oz [⟨[],[0],[1,4]⟩,⟨[],[0],[1,4]⟩] (by kernel_rfl)) (fun a=>by obtain ⟨f,d,c⟩:=a;exact Sg.cut 1 tB (Sg.seg (C:=C0) ah qv 60 ((oA.drop 2).take 1) (RC b (f,d,c)) (MX f c) (RD b f d c) oz [⟨[],[0],[1,4,14]⟩,⟨[],[0],[1,4,14]⟩] (by kernel_rfl)) (fun g=>by exact Sg.cut 2 tB (Sg.seg (C:=C0) ah qv 60 (((oA.drop 2).drop 1).take 2) (RD b f d c g) (MY f g) (RE b d c) oz [⟨[],[],[2,3]⟩,⟨[],[0],[1,5]⟩] (by kernel_rfl)) (fun a=>by cases a;exact Sg.cut 1 tB (Sg.pre ⟨[],[0],[1,5]⟩ rfl (by kernel_rfl:NS.on ⟨[],[0],[1,5]⟩ (RE b d c ())=(tC b d c) 0) (bT (I:=(tC b d c)) (J:=(Ca b d c)) (id:=0) (by kernel_rfl:((((oA.drop 2).drop 1).drop 2).take 1) = [.block 0 (.loop (bE ((((((oA.drop 2).drop 1).drop 2).take 1)).headD .skip)))]) tB (afp _) (fun s=>by exact abV b d c s) 0)) (fun i=>by exact Sg.cut 1 tB (Sg.seg (C:=C0) ah qv 60 (((((oA.drop 2).drop 1).drop 2).drop 1).take 1) (afq b d c i) (Fu d c i) RF oz [⟨[],[],[2,3]⟩] (by kernel_rfl)) (fun j=>by exact Sg.seg (C:=C0) ah qv 60 (((((oA.drop 2).drop 1).drop 2).drop 1).drop 1) (RF j) (M0 j) (fun a:Empty=>a.elim) oz [⟨[],[],[2,3]⟩] (by kernel_rfl)))))))
    (fun x=>by cases x with | r0 k l=>exact ⟨.inr rfl,[.int .i64 k,.int .i64 ((l:Nat):Int)],[],by kernel_rfl,trivial,by kernel_rfl⟩) h
def Cb:Option fL→Bool
  | some _=>true
  | none=>false
def Dr:Option fL→Int
  | some (.r0 x _)=>x
  | _=>0
def Km:Option fL→Nat
  | some (.r0 _ x)=>x
  | _=>0
theorem aft{x:Option fL}(h:Cb x=true) :x=some (.r0 (Dr x) (Km x)):=by
  unfold Cb at h
  split at h <;> first | rfl | (cases h;done) | (rename_i y;cases y;rfl)
def V3:aD:=bW n8 (.cons (.ns .u64) .nil) fun t=>[⟨Kl (.r0 (Dr (si t.1.2)) (Km (si t.1.2))),[Cb (si t.1.2)]⟩]
theorem aab:aM prog V3:=aG fun t=>(aH (fun h=>afs t.1.1 t.1.2 (aft h)) aR)
def V4:List aD:=V3 :: aee
theorem sj:aX prog (aZ V4):=am aab qv
inductive fM where
  | r0 (a:Bool) (b:List Int) (c:Nat) (d:Nat) (e:Int)
def A3:fM→AE×aC
  | .r0 a b c d e=>(.ret,⟨ag 37 [(2,.ptr 0 1 0 0)],[(0,.vs [.bool false a,.imm .free (.ns .u64 b) 1 1 c d,.int .i64 e])],1⟩)
theorem HY:lc A3:=by intro x;cases x <;> (intro h;cases h)
def Kn:fM→ju
  | .r0 a b c d e=>⟨.agg [.bool false a,.imm .free (.ns .u64 b) 1 1 c d,.int .i64 e],[]⟩
def Cc:List Code:=bD (bp nW)
def RG(b:Bool)(c:Lv)(a:List Int)(d:Int) :(List Int)×Nat×Bool→aC:=fun (e,f,g)=>⟨ag 37 [(1,.ptr 0 1 0 0),(2,.ptr 1 1 0 0),(3,.imm .free (.ns .u64 e) 1 1 0 f)],[(0,.vs [.bool false b,.imm c (.ns .u64 a) 1 1 0 (List.length a),.int .i64 d]),(1,.vs [.bool false g,.nsl,.int .i64 (0:Int)])],2⟩
def Cd(a:List Int) :T (((List Int)×Nat×Bool)⊕(fM)) :=
  .need (aI 0 (List.length a) a)<|.need (AT (mU (aa 0 (List.length a) a)))<|.leaf (.inl ((Fo (mU (aa 0 (List.length a) a))),(Fl (mU (aa 0 (List.length a) a))),false))
def RH(b:Bool)(c:Lv)(a:List Int)(d:Int)(e:List Int)(f:Nat)(g:Bool)(h:Int) :aC:=⟨ag 37 [(1,.ptr 0 1 0 0),(2,.ptr 1 1 0 0),(3,.imm .free (.ns .u64 e) 1 1 0 f),(5,.int .i64 h)],[(0,.vs [.bool false b,.imm c (.ns .u64 a) 1 1 0 (List.length a),.int .i64 d]),(1,.vs [.bool false g,.nsl,.int .i64 (0:Int)])],2⟩
def Ce(b:List Int)(a:Nat) :T ((Int)⊕(fM)) :=
  .ask (((a:Nat):Int) == (0:Int))
    (.leaf (.inr (.r0 false ([]:List Int) 0 0 (0:Int))))
    (.need (aI 0 a b)<|.need (Cb (si (aa 0 a b)))<|.leaf (.inl (Dr (si (aa 0 a b)))))
def RI(b:Bool)(c:Lv)(a:List Int)(d:Int)(e:Bool)(f:Int) :(List Int)×Nat×Nat→aC:=fun (g,h,i)=>⟨ag 37 [(1,.ptr 0 1 0 0),(2,.ptr 1 1 0 0),(3,.imm .free (.ns .u64 g) 1 1 h i),(5,.int .i64 f)],[(0,.vs [.bool false b,.imm c (.ns .u64 a) 1 1 0 (List.length a),.int .i64 d]),(1,.vs [.bool false e,.nsl,.int .i64 (0:Int)])],2⟩
def Cf(a:List Int)(b:Nat)(c:Int) :T (((List Int)×Nat×Nat)⊕(fM)) :=
  .need (aI 0 b a)<|.need (HU (nt (aa 0 b a) c))<|.leaf (.inl ((HV (nt (aa 0 b a) c)),(HW (nt (aa 0 b a) c)),(HX (nt (aa 0 b a) c))))
def RJ(c:Bool)(a:Int)(b:Int)(d:List Int)(e:Nat)(f:Nat) :T ((Empty)⊕(fM)) :=
  .need (dP .i64 (a+b))<|.leaf (.inr (.r0 c d e f (a+b)))
def au(d:Bool)(e:List Int)(f:Int) :Option fM:=l6 (ax ((Cd e).run) fun (a,b,j) =>
  ax ((Ce a b).run) fun c =>
  ax ((Cf a b c).run) fun (g,h,i) =>
  (RJ d f c g h i).run)
theorem afu(c:Bool)(e:Lv)(b:List Int)(d:Int){x:fM}(h:au c b d=some x) :ak prog nW [] [.agg [.bool false c,.imm e (.ns .u64 b) 1 1 0 (List.length b),.int .i64 d]] (Kn x) :=
  Sg.contract true Kn (by kernel_rfl:prog.funcs[nW]? = some (FN nW)) (by kernel_rfl:(FN nW).body=some (bp nW)) (Sg.cut 2 HY (Sg.seg (C:=C0) ah sj 60 (Cc.take 2) (aL (FN nW) [] [.agg [.bool false c,.imm e (.ns .u64 b) 1 1 0 (List.length b),.int .i64 d]]) (Cd b) (RG c e b d) A3 [⟨[],[0,16],[1,2,3]⟩] (by kernel_rfl)) (fun a=>by obtain ⟨f,g,i⟩:=a;exact Sg.cut 3 HY (Sg.seg (C:=C0) ah sj 60 ((Cc.drop 2).take 3) (RG c e b d (f,g,i)) (Ce f g) (RH c e b d f g i) A3 [⟨[(.cell 1 1,.fre 1 1 (.ns .u64 ([]:List Int)))],[1],[2]⟩,⟨[],[0,1],[1,2,3,5]⟩] (by kernel_rfl)) (fun j=>by exact Sg.cut 1 HY (Sg.seg (C:=C0) ah sj 60 (((Cc.drop 2).drop 3).take 1) (RH c e b d f g i j) (Cf f g j) (RI c e b d i j) A3 [⟨[],[0,1],[1,2,3,5]⟩] (by kernel_rfl)) (fun a=>by obtain ⟨k,l,m⟩:=a;exact Sg.seg (C:=C0) ah sj 60 (((Cc.drop 2).drop 3).drop 1) (RI c e b d i j (k,l,m)) (RJ c d j k l m) (fun a:Empty=>a.elim) A3 [⟨[],[1],[2]⟩] (by kernel_rfl)))))
    (fun x=>by cases x with | r0 n o p q r=>exact ⟨.inr rfl,[.agg [.bool false n,.imm .free (.ns .u64 o) 1 1 p q,.int .i64 r]],[],by kernel_rfl,trivial,by kernel_rfl⟩) h
def gn:Option fM→Bool
  | some _=>true
  | none=>false
def dA:Option fM→Bool
  | some (.r0 x _ _ _ _)=>x
  | _=>false
def dB:Option fM→List Int
  | some (.r0 _ x _ _ _)=>x
  | _=>[]
def dC:Option fM→Nat
  | some (.r0 _ _ x _ _)=>x
  | _=>0
def dD:Option fM→Nat
  | some (.r0 _ _ _ x _)=>x
  | _=>0
def dE:Option fM→Int
  | some (.r0 _ _ _ _ x)=>x
  | _=>0
theorem afv{x:Option fM}(h:gn x=true) :x=some (.r0 (dA x) (dB x) (dC x) (dD x) (dE x)):=by
  unfold gn at h
  split at h <;> first | rfl | (cases h;done) | (rename_i y;cases y;rfl)
def V5:aD:=bW nW (.cons (.agg (.cons .bool (.cons (.ns .u64) (.cons (.int .i64) .nil)))) .nil) fun t=>[⟨Kn (.r0 (dA (au t.1.1 t.1.2.1.2 t.1.2.2.1)) (dB (au t.1.1 t.1.2.1.2 t.1.2.2.1)) (dC (au t.1.1 t.1.2.1.2 t.1.2.2.1)) (dD (au t.1.1 t.1.2.1.2 t.1.2.2.1)) (dE (au t.1.1 t.1.2.1.2 t.1.2.2.1))),[gn (au t.1.1 t.1.2.1.2 t.1.2.2.1)]⟩]
theorem aac:aM prog V5:=aG fun t=>(aH (fun h=>afu t.1.1 t.1.2.1.1 t.1.2.1.2 t.1.2.2.1 (afv h)) aR)
def V6:List aD:=V5 :: V4
theorem xy:aX prog (aZ V6):=am aac sj
inductive o7 where
  | r0 (a:Bool)
def HZ:o7→AE×aC
  | .r0 a=>(.ret,⟨ag 18 [(2,.bool false a)],[],0⟩)
theorem V7:lc HZ:=by intro x;cases x <;> (intro h;cases h)
def Ql:o7→ju
  | .r0 a=>⟨.bool false a,[]⟩
def Ko:List Code:=bD (bp qn)
def V8(b:Bool)(c:Lv)(a:List Int)(d:Int)(e:Nat) :aC:=⟨ag 18 [(1,.ptr 0 1 0 0),(4,.int .i64 ((e:Nat):Int))],[(0,.vs [.bool false b,.imm c (.ns .u64 a) 1 1 0 (List.length a),.int .i64 d])],1⟩
def Kp(a:List Int) :T ((Nat)⊕(o7)) :=
  .need (aI 0 (List.length a) a)<|.need (AT (mU (aa 0 (List.length a) a)))<|.leaf (.inl (Fm (mU (aa 0 (List.length a) a))))
def V9(a:Bool) :aC:=⟨ag 18 [(2,.bool false a)],[],0⟩
def Wa(a:Int)(b:Nat) :T ((Bool)⊕(o7)) :=
  .ask (((b:Nat):Int) == (0:Int))
    (.ask (decide (a ≥ (-262144:Int)))
      (.leaf (.inl (decide (a≤(262144:Int)))))
      (.leaf (.inl false)))
    (.leaf (.inl false))
def Wb(a:Bool) :T ((Empty)⊕(o7)) :=
  .leaf (.inr (.r0 a))
def d4(a:List Int)(b:Int) :Option o7:=l6 (ax ((Kp a).run) fun c =>
  ax ((Wa b c).run) fun d =>
  (Wb d).run)
theorem aia(d:Bool)(e:Lv)(b:List Int)(c:Int){x:o7}(h:d4 b c=some x) :ak prog qn [] [.agg [.bool false d,.imm e (.ns .u64 b) 1 1 0 (List.length b),.int .i64 c]] (Ql x) :=
  Sg.contract true Ql (by kernel_rfl:prog.funcs[qn]? = some (FN qn)) (by kernel_rfl:(FN qn).body=some (bp qn)) (Sg.cut 2 V7 (Sg.seg (C:=C0) ah xy 60 (Ko.take 2) (aL (FN qn) [] [.agg [.bool false d,.imm e (.ns .u64 b) 1 1 0 (List.length b),.int .i64 c]]) (Kp b) (V8 d e b c) HZ [⟨[],[0],[1,4]⟩] (by kernel_rfl)) (fun f=>by exact Sg.cut 1 V7 (Sg.seg (C:=C0) ah xy 60 ((Ko.drop 2).take 1) (V8 d e b c f) (Wa c f) V9 HZ [⟨[],[],[2]⟩,⟨[],[],[2]⟩,⟨[],[],[2]⟩] (by kernel_rfl)) (fun g=>by exact Sg.seg (C:=C0) ah xy 60 ((Ko.drop 2).drop 1) (V9 g) (Wb g) (fun a:Empty=>a.elim) HZ [⟨[],[],[2]⟩] (by kernel_rfl))))
    (fun x=>by cases x with | r0 i=>exact ⟨.inr rfl,[.bool false i],[],by kernel_rfl,trivial,by kernel_rfl⟩) h
def kB:Option o7→Bool
  | some _=>true
  | none=>false
def iZ:Option o7→Bool
  | some (.r0 x)=>x
  | _=>false
theorem aib{x:Option o7}(h:kB x=true) :x=some (.r0 (iZ x)):=by
  unfold kB at h
  split at h <;> first | rfl | (cases h;done) | (rename_i y;cases y;rfl)
def aad:aD:=bW qn (.cons (.agg (.cons .bool (.cons (.ns .u64) (.cons (.int .i64) .nil)))) .nil) fun t=>[⟨Ql (.r0 (iZ (d4 t.1.2.1.2 t.1.2.2.1))),[kB (d4 t.1.2.1.2 t.1.2.2.1)]⟩]
theorem abW:aM prog aad:=aG fun t=>(aH (fun h=>aia t.1.1 t.1.2.1.1 t.1.2.1.2 t.1.2.2.1 (aib h)) aR)
def aae:List aD:=aad :: V6
theorem zT:aX prog (aZ aae):=am abW xy
inductive eS where
  | r0 (a:Nat) (b:Int) (c:List Int) (d:Nat) (e:List Int) (f:Nat)
def Cg:eS→AE×aC
  | .r0 a b c d e f=>(.ret,⟨ag 57 [(4,.ptr 0 1 0 0),(5,.int .i64 ((a:Nat):Int))],[(0,.vs [.int .i64 b,.imm .free (.ns .u64 c) 1 1 0 d,.imm .free (.ns .u64 e) 1 1 0 f])],1⟩)
theorem M1:lc Cg:=by intro x;cases x <;> (intro h;cases h)
def H0:eS→ju
  | .r0 a b c d e f=>⟨.tup [.agg [.int .i64 b,.imm .free (.ns .u64 c) 1 1 0 d,.imm .free (.ns .u64 e) 1 1 0 f],.int .i64 ((a:Nat):Int)],[]⟩
def Fv:List Code:=bD (bp lD)
def M2(c:Bool)(d:Lv)(a:List Int)(e:Int)(f:Bool)(g:Lv)(b:List Int)(h:Int)(i:Int) :aC:=⟨ag 57 [(2,.ptr 0 1 0 0),(3,.ptr 1 1 0 0),(4,.ptr 2 1 0 0),(6,.ptr 3 1 0 0)],[(0,.vs [.bool false c,.imm d (.ns .u64 a) 1 1 0 (List.length a),.int .i64 e]),(1,.vs [.bool false f,.imm g (.ns .u64 b) 1 1 0 (List.length b),.int .i64 h]),(2,.vs [.int .i64 (0:Int),.nsl,.nsl]),(3,.vs [.int .i64 i,.nsl,.nsl])],4⟩
def ru(c:List Int)(a:Int)(d:List Int)(b:Int) :T ((Int)⊕(eS)) :=
  .ask ((((List.length c):Nat):Int) == (0:Int))
    (.leaf (.inl b))
    (.ask ((((List.length d):Nat):Int) == (0:Int))
      (.leaf (.inl a))
      (.need (dP .i64 ((na a b) - (v9 a b)))<|.ask (decide (((na a b) - (v9 a b)) > (262144:Int)))
        (.leaf (.inr (.r0 3 (0:Int) ([]:List Int) 0 ([]:List Int) 0)))
        (.leaf (.inl (v9 a b)))))
def M3(a:Int) :(List Int)×Nat×(List Int)×Nat→aC:=fun (b,c,d,e)=>⟨ag 57 [(4,.ptr 0 1 0 0),(6,.ptr 1 1 0 0)],[(0,.vs [.int .i64 (0:Int),.nsl,.nsl]),(1,.vs [.int .i64 a,.imm .free (.ns .u64 b) 1 1 0 c,.imm .free (.ns .u64 d) 1 1 0 e])],2⟩
def km(c:List Int)(e:Int)(a:List Int)(d:Int)(b:Int) :T (((List Int)×Nat×(List Int)×Nat)⊕(eS)) :=
  .ask ((((List.length c):Nat):Int) == (0:Int))
    (.ask ((((List.length a):Nat):Int) == (0:Int))
      (.leaf (.inl (([]:List Int),0,([]:List Int),0)))
      (.need (dP .i64 (d - b))<|.need (aI 0 (List.length a) a)<|.need (zb (gU (aa 0 (List.length a) a) (d - b)))<|.leaf (.inl (([]:List Int),0,(tx (gU (aa 0 (List.length a) a) (d - b))),(tA (gU (aa 0 (List.length a) a) (d - b)))))))
    (.need (dP .i64 (e - b))<|.need (aI 0 (List.length c) c)<|.need (zb (gU (aa 0 (List.length c) c) (e - b)))<|.ask ((((List.length a):Nat):Int) == (0:Int))
      (.leaf (.inl ((tx (gU (aa 0 (List.length c) c) (e - b))),(tA (gU (aa 0 (List.length c) c) (e - b))),([]:List Int),0)))
      (.need (dP .i64 (d - b))<|.need (aI 0 (List.length a) a)<|.need (zb (gU (aa 0 (List.length a) a) (d - b)))<|.leaf (.inl ((tx (gU (aa 0 (List.length c) c) (e - b))),(tA (gU (aa 0 (List.length c) c) (e - b))),(tx (gU (aa 0 (List.length a) a) (d - b))),(tA (gU (aa 0 (List.length a) a) (d - b)))))))
def M4(a:Int)(b:List Int)(c:Nat)(d:List Int)(e:Nat) :T ((Empty)⊕(eS)) :=
  .leaf (.inr (.r0 0 a b c d e))
def cz(a:List Int)(b:Int)(c:List Int)(d:Int) :Option eS:=l6 (ax ((ru a b c d).run) fun e =>
  ax ((km a b c d e).run) fun (f,g,h,i) =>
  (M4 e f g h i).run)
theorem abX(g:Bool)(i:Lv)(b:List Int)(d:Int)(j:Bool)(k:Lv)(c:List Int)(e:Int){x:eS}(h:cz b d c e=some x) :ak prog lD [] [.agg [.bool false g,.imm i (.ns .u64 b) 1 1 0 (List.length b),.int .i64 d],.agg [.bool false j,.imm k (.ns .u64 c) 1 1 0 (List.length c),.int .i64 e]] (H0 x) :=
  Sg.contract true H0 (by kernel_rfl:prog.funcs[lD]? = some (FN lD)) (by kernel_rfl:(FN lD).body=some (bp lD)) (Sg.cut 3 M1 (Sg.seg (C:=C0) ah zT 60 (Fv.take 3) (aL (FN lD) [] [.agg [.bool false g,.imm i (.ns .u64 b) 1 1 0 (List.length b),.int .i64 d],.agg [.bool false j,.imm k (.ns .u64 c) 1 1 0 (List.length c),.int .i64 e]]) (ru b d c e) (M2 g i b d j k c e) Cg [⟨[],[0,16,32,176],[2,3,4,6]⟩,⟨[],[0,16,32,176],[2,3,4,6]⟩,⟨[(.cell 32 1,.fre 1 1 (.ns .u64 ([]:List Int))),(.cell 32 2,.fre 1 1 (.ns .u64 ([]:List Int)))],[32],[4,5]⟩,⟨[],[0,16,32,176],[2,3,4,6]⟩] (by kernel_rfl)) (fun f=>by exact Sg.cut 2 M1 (Sg.seg (C:=C0) ah zT 60 ((Fv.drop 3).take 2) (M2 g i b d j k c e f) (km b d c e f) (M3 f) Cg [⟨[(.cell 3 1,.fre 1 1 (.ns .u64 ([]:List Int))),(.cell 3 2,.fre 1 1 (.ns .u64 ([]:List Int)))],[2,3],[4,6]⟩,⟨[(.cell 3 1,.fre 1 1 (.ns .u64 ([]:List Int)))],[2,3],[4,6]⟩,⟨[(.cell 3 2,.fre 1 1 (.ns .u64 ([]:List Int)))],[2,3],[4,6]⟩,⟨[],[2,3],[4,6]⟩] (by kernel_rfl)) (fun a=>by obtain ⟨l,m,n,o⟩:=a;exact Sg.seg (C:=C0) ah zT 60 ((Fv.drop 3).drop 2) (M3 f (l,m,n,o)) (M4 f l m n o) (fun a:Empty=>a.elim) Cg [⟨[],[0],[4,5]⟩] (by kernel_rfl))))
    (fun x=>by cases x with | r0 p q r s t u=>exact ⟨.inr rfl,[.agg [.int .i64 q,.imm .free (.ns .u64 r) 1 1 0 s,.imm .free (.ns .u64 t) 1 1 0 u],.int .i64 ((p:Nat):Int)],[],by kernel_rfl,trivial,by kernel_rfl⟩) h
def uC:Option eS→Bool
  | some _=>true
  | none=>false
def vw:Option eS→Nat
  | some (.r0 x _ _ _ _ _)=>x
  | _=>0
def vx:Option eS→Int
  | some (.r0 _ x _ _ _ _)=>x
  | _=>0
def vy:Option eS→List Int
  | some (.r0 _ _ x _ _ _)=>x
  | _=>[]
def vz:Option eS→Nat
  | some (.r0 _ _ _ x _ _)=>x
  | _=>0
def vA:Option eS→List Int
  | some (.r0 _ _ _ _ x _)=>x
  | _=>[]
def vB:Option eS→Nat
  | some (.r0 _ _ _ _ _ x)=>x
  | _=>0
theorem abY{x:Option eS}(h:uC x=true) :x=some (.r0 (vw x) (vx x) (vy x) (vz x) (vA x) (vB x)):=by
  unfold uC at h
  split at h <;> first | rfl | (cases h;done) | (rename_i y;cases y;rfl)
def RK:aD:=bW lD (.cons (.agg (.cons .bool (.cons (.ns .u64) (.cons (.int .i64) .nil)))) (.cons (.agg (.cons .bool (.cons (.ns .u64) (.cons (.int .i64) .nil)))) .nil)) fun t=>[⟨H0 (.r0 (vw (cz t.1.2.1.2 t.1.2.2.1 t.2.1.2.1.2 t.2.1.2.2.1)) (vx (cz t.1.2.1.2 t.1.2.2.1 t.2.1.2.1.2 t.2.1.2.2.1)) (vy (cz t.1.2.1.2 t.1.2.2.1 t.2.1.2.1.2 t.2.1.2.2.1)) (vz (cz t.1.2.1.2 t.1.2.2.1 t.2.1.2.1.2 t.2.1.2.2.1)) (vA (cz t.1.2.1.2 t.1.2.2.1 t.2.1.2.1.2 t.2.1.2.2.1)) (vB (cz t.1.2.1.2 t.1.2.2.1 t.2.1.2.1.2 t.2.1.2.2.1))),[uC (cz t.1.2.1.2 t.1.2.2.1 t.2.1.2.1.2 t.2.1.2.2.1)]⟩]
theorem XC:aM prog RK:=aG fun t=>(aH (fun h=>abX t.1.1 t.1.2.1.1 t.1.2.1.2 t.1.2.2.1 t.2.1.1 t.2.1.2.1.1 t.2.1.2.1.2 t.2.1.2.2.1 (abY h)) aR)
def RL:List aD:=RK :: aae
theorem vC:aX prog (aZ RL):=am XC zT
inductive fN where
  | r0 (a:Nat) (b:Bool) (c:List Int) (d:Nat) (e:Nat) (f:Int)
def EQ:fN→AE×aC
  | .r0 a b c d e f=>(.ret,⟨ag 11 [(2,.ptr 0 1 0 0),(3,.int .i64 ((a:Nat):Int))],[(0,.vs [.bool false b,.imm .free (.ns .u64 c) 1 1 d e,.int .i64 f])],1⟩)
theorem RM:lc EQ:=by intro x;cases x <;> (intro h;cases h)
def Kq:fN→ju
  | .r0 a b c d e f=>⟨.tup [.agg [.bool false b,.imm .free (.ns .u64 c) 1 1 d e,.int .i64 f],.int .i64 ((a:Nat):Int)],[]⟩
def H3:List Code:=bD (bp nZ)
def RN:Bool×(List Int)×Nat×Nat×Int×Bool→aC:=fun (a,b,c,d,e,f)=>⟨ag 11 [(1,.ptr 0 1 0 0),(2,.ptr 1 1 0 0)],[(0,.vs [.bool false a,.imm .free (.ns .u64 b) 1 1 c d,.int .i64 e]),(1,.vs [.bool false f,.nsl,.int .i64 (0:Int)])],2⟩
def H4(b:Bool)(a:List Int)(c:Int) :T ((Bool×(List Int)×Nat×Nat×Int×Bool)⊕(fN)) :=
  .need (aI 0 (List.length a) a)<|.need (gn (au b (aa 0 (List.length a) a) c))<|.leaf (.inl ((dA (au b (aa 0 (List.length a) a) c)),(dB (au b (aa 0 (List.length a) a) c)),(dC (au b (aa 0 (List.length a) a) c)),(dD (au b (aa 0 (List.length a) a) c)),(dE (au b (aa 0 (List.length a) a) c)),false))
def RO(a:Bool)(b:List Int)(c:Nat)(d:Nat)(e:Int)(f:Bool)(g:Bool) :aC:=⟨ag 11 [(1,.ptr 0 1 0 0),(2,.ptr 1 1 0 0),(8,.bool false g)],[(0,.vs [.bool false a,.imm .free (.ns .u64 b) 1 1 c d,.int .i64 e]),(1,.vs [.bool false f,.nsl,.int .i64 (0:Int)])],2⟩
def Ch(a:List Int)(b:Nat)(c:Nat)(d:Int) :T ((Bool)⊕(fN)) :=
  .need (aI b c a)<|.need (kB (d4 (aa b c a) d))<|.leaf (.inl (!(iZ (d4 (aa b c a) d))))
def RP(a:Bool)(b:List Int)(c:Nat)(d:Nat)(e:Int)(f:Bool) :T ((Empty)⊕(fN)) :=
  .ask f
    (.leaf (.inr (.r0 3 false ([]:List Int) 0 0 (0:Int))))
    (.leaf (.inr (.r0 0 a b c d e)))
def bS(e:Bool)(f:List Int)(g:Int) :Option fN:=l6 (ax ((H4 e f g).run) fun (h,a,b,c,d,j) =>
  ax ((Ch a b c d).run) fun i =>
  (RP h a b c d i).run)
theorem afw(g:Bool)(l:Lv)(b:List Int)(i:Int){x:fN}(h:bS g b i=some x) :ak prog nZ [] [.agg [.bool false g,.imm l (.ns .u64 b) 1 1 0 (List.length b),.int .i64 i]] (Kq x) :=
  Sg.contract true Kq (by kernel_rfl:prog.funcs[nZ]? = some (FN nZ)) (by kernel_rfl:(FN nZ).body=some (bp nZ)) (Sg.cut 2 RM (Sg.seg (C:=C0) ah vC 60 (H3.take 2) (aL (FN nZ) [] [.agg [.bool false g,.imm l (.ns .u64 b) 1 1 0 (List.length b),.int .i64 i]]) (H4 g b i) RN EQ [⟨[],[0,16],[1,2]⟩] (by kernel_rfl)) (fun a=>by obtain ⟨j,c,d,e,f,k⟩:=a;exact Sg.cut 1 RM (Sg.seg (C:=C0) ah vC 60 ((H3.drop 2).take 1) (RN (j,c,d,e,f,k)) (Ch c d e f) (RO j c d e f k) EQ [⟨[],[0,1],[1,2,8]⟩] (by kernel_rfl)) (fun m=>by exact Sg.seg (C:=C0) ah vC 60 ((H3.drop 2).drop 1) (RO j c d e f k m) (RP j c d e f m) (fun a:Empty=>a.elim) EQ [⟨[(.cell 1 1,.fre 1 1 (.ns .u64 ([]:List Int)))],[1],[2,3]⟩,⟨[],[1],[2,3]⟩] (by kernel_rfl))))
    (fun x=>by cases x with | r0 n o p q r s=>exact ⟨.inr rfl,[.agg [.bool false o,.imm .free (.ns .u64 p) 1 1 q r,.int .i64 s],.int .i64 ((n:Nat):Int)],[],by kernel_rfl,trivial,by kernel_rfl⟩) h
def tD:Option fN→Bool
  | some _=>true
  | none=>false
def sk:Option fN→Nat
  | some (.r0 x _ _ _ _ _)=>x
  | _=>0
def sm:Option fN→Bool
  | some (.r0 _ x _ _ _ _)=>x
  | _=>false
def sn:Option fN→List Int
  | some (.r0 _ _ x _ _ _)=>x
  | _=>[]
def so:Option fN→Nat
  | some (.r0 _ _ _ x _ _)=>x
  | _=>0
def sq:Option fN→Nat
  | some (.r0 _ _ _ _ x _)=>x
  | _=>0
def su:Option fN→Int
  | some (.r0 _ _ _ _ _ x)=>x
  | _=>0
theorem afx{x:Option fN}(h:tD x=true) :x=some (.r0 (sk x) (sm x) (sn x) (so x) (sq x) (su x)):=by
  unfold tD at h
  split at h <;> first | rfl | (cases h;done) | (rename_i y;cases y;rfl)
def Wc:aD:=bW nZ (.cons (.agg (.cons .bool (.cons (.ns .u64) (.cons (.int .i64) .nil)))) .nil) fun t=>[⟨Kq (.r0 (sk (bS t.1.1 t.1.2.1.2 t.1.2.2.1)) (sm (bS t.1.1 t.1.2.1.2 t.1.2.2.1)) (sn (bS t.1.1 t.1.2.1.2 t.1.2.2.1)) (so (bS t.1.1 t.1.2.1.2 t.1.2.2.1)) (sq (bS t.1.1 t.1.2.1.2 t.1.2.2.1)) (su (bS t.1.1 t.1.2.1.2 t.1.2.2.1))),[tD (bS t.1.1 t.1.2.1.2 t.1.2.2.1)]⟩]
theorem aaf:aM prog Wc:=aG fun t=>(aH (fun h=>afw t.1.1 t.1.2.1.1 t.1.2.1.2 t.1.2.2.1 (afx h)) aR)
def We:List aD:=Wc :: RL
theorem Ds:aX prog (aZ We):=am aaf vC
end
end Go.Plb.Seat
namespace Go.Plb.Seat
open Go Go.Plb
set_option linter.unusedVariables false
set_option maxRecDepth 100000
noncomputable section
inductive fp where
  | r0 (a:Nat) (b:Bool) (c:List Int) (d:Nat) (e:Nat) (f:Int)
def H5:fp→AE×aC
  | .r0 a b c d e f=>(.ret,⟨ag 21 [(7,.ptr 0 1 0 0),(8,.int .i64 ((a:Nat):Int))],[(0,.vs [.bool false b,.imm .free (.ns .u64 c) 1 1 d e,.int .i64 f])],1⟩)
theorem abZ:lc H5:=by intro x;cases x <;> (intro h;cases h)
def H6:fp→ju
  | .r0 a b c d e f=>⟨.tup [.agg [.bool false b,.imm .free (.ns .u64 c) 1 1 d e,.int .i64 f],.int .i64 ((a:Nat):Int)],[]⟩
def M5:List Code:=bD (bp ic)
def M6:Nat×Bool×(List Int)×Nat×Nat×Int→aC:=fun (a,b,c,d,e,f)=>⟨ag 21 [(7,.ptr 0 1 0 0),(8,.int .i64 ((a:Nat):Int))],[(0,.vs [.bool false b,.imm .free (.ns .u64 c) 1 1 d e,.int .i64 f])],1⟩
def Fw(b:Bool)(a:List Int)(d:Int)(c:Int) :T ((Nat×Bool×(List Int)×Nat×Nat×Int)⊕(fp)) :=
  .ask (d != (0:Int))
    (.leaf (.inr (.r0 3 false ([]:List Int) 0 0 (0:Int))))
    (.need (aI 0 (List.length a) a)<|.need (tD (bS b (aa 0 (List.length a) a) c))<|.leaf (.inl ((sk (bS b (aa 0 (List.length a) a) c)),(sm (bS b (aa 0 (List.length a) a) c)),(sn (bS b (aa 0 (List.length a) a) c)),(so (bS b (aa 0 (List.length a) a) c)),(sq (bS b (aa 0 (List.length a) a) c)),(su (bS b (aa 0 (List.length a) a) c)))))
def M7(a:Nat)(b:Bool)(c:List Int)(d:Nat)(e:Nat)(f:Int) :T ((Empty)⊕(fp)) :=
  .leaf (.inr (.r0 a b c d e f))
def bN(a:Bool)(b:List Int)(c:Int)(d:Int) :Option fp:=l6 (ax ((Fw a b c d).run) fun (e,f,g,h,i,j) =>
  (M7 e f g h i j).run)
theorem ab0(c:Bool)(i:Lv)(b:List Int)(d:Int)(j:Lv)(e:Int)(k:Lv)(f:List Int)(l:Lv)(g:List Int){x:fp}(h:bN c b d e=some x) :ak prog ic [] [.bool false c,.imm i (.ns .u64 b) 1 1 0 (List.length b),.int .i64 d,.iptr j (.vs [.int .i64 e,.imm k (.ns .u64 f) 1 1 0 (List.length f),.imm l (.ns .u64 g) 1 1 0 (List.length g)]) 1 0 0] (H6 x) :=
  Sg.contract false H6 (by kernel_rfl:prog.funcs[ic]? = some (FN ic)) (by kernel_rfl:(FN ic).body=some (bp ic)) (Sg.cut 4 abZ (Sg.seg (C:=C0) ah Ds 60 (M5.take 4) (aL (FN ic) [] [.bool false c,.imm i (.ns .u64 b) 1 1 0 (List.length b),.int .i64 d,.iptr j (.vs [.int .i64 e,.imm k (.ns .u64 f) 1 1 0 (List.length f),.imm l (.ns .u64 g) 1 1 0 (List.length g)]) 1 0 0]) (Fw c b d e) M6 H5 [⟨[(.cell 0 1,.fre 1 1 (.ns .u64 ([]:List Int)))],[0],[7,8]⟩,⟨[],[0],[7,8]⟩] (by kernel_rfl)) (fun a=>by obtain ⟨m,n,o,p,q,r⟩:=a;exact Sg.seg (C:=C0) ah Ds 60 (M5.drop 4) (M6 (m,n,o,p,q,r)) (M7 m n o p q r) (fun a:Empty=>a.elim) H5 [⟨[],[0],[7,8]⟩] (by kernel_rfl)))
    (fun x=>by cases x with | r0 s t u v w y=>exact ⟨.inr rfl,[.agg [.bool false t,.imm .free (.ns .u64 u) 1 1 v w,.int .i64 y],.int .i64 ((s:Nat):Int)],[],by kernel_rfl,trivial,by kernel_rfl⟩) h
def rv:Option fp→Bool
  | some _=>true
  | none=>false
def qQ:Option fp→Nat
  | some (.r0 x _ _ _ _ _)=>x
  | _=>0
def qR:Option fp→Bool
  | some (.r0 _ x _ _ _ _)=>x
  | _=>false
def qS:Option fp→List Int
  | some (.r0 _ _ x _ _ _)=>x
  | _=>[]
def qT:Option fp→Nat
  | some (.r0 _ _ _ x _ _)=>x
  | _=>0
def qU:Option fp→Nat
  | some (.r0 _ _ _ _ x _)=>x
  | _=>0
def qV:Option fp→Int
  | some (.r0 _ _ _ _ _ x)=>x
  | _=>0
theorem ab1{x:Option fp}(h:rv x=true) :x=some (.r0 (qQ x) (qR x) (qS x) (qT x) (qU x) (qV x)):=by
  unfold rv at h
  split at h <;> first | rfl | (cases h;done) | (rename_i y;cases y;rfl)
def RQ:aD:=bW ic (.cons .bool (.cons (.ns .u64) (.cons (.int .i64) (.cons (.ivs (.cons (.int .i64) (.cons (.ns .u64) (.cons (.ns .u64) .nil))) 1 0 0) .nil)))) fun t=>[⟨H6 (.r0 (qQ (bN t.1 t.2.1.2 t.2.2.1 t.2.2.2.1.2.1)) (qR (bN t.1 t.2.1.2 t.2.2.1 t.2.2.2.1.2.1)) (qS (bN t.1 t.2.1.2 t.2.2.1 t.2.2.2.1.2.1)) (qT (bN t.1 t.2.1.2 t.2.2.1 t.2.2.2.1.2.1)) (qU (bN t.1 t.2.1.2 t.2.2.1 t.2.2.2.1.2.1)) (qV (bN t.1 t.2.1.2 t.2.2.1 t.2.2.2.1.2.1))),[rv (bN t.1 t.2.1.2 t.2.2.1 t.2.2.2.1.2.1)]⟩]
theorem XD:aM prog RQ:=aG fun t=>(aH (fun h=>ab0 t.1 t.2.1.1 t.2.1.2 t.2.2.1 t.2.2.2.1.1 t.2.2.2.1.2.1 t.2.2.2.1.2.2.1.1 t.2.2.2.1.2.2.1.2 t.2.2.2.1.2.2.2.1.1 t.2.2.2.1.2.2.2.1.2 (ab1 h)) aR)
def RR:List aD:=RQ :: We
theorem ik:aX prog (aZ RR):=am XD Ds
inductive eG where
  | r0 (a:Nat) (b:Bool) (c:List Int) (d:Nat) (e:Nat) (f:Int)
def qw:eG→AE×aC
  | .r0 a b c d e f=>(.ret,⟨ag 97 [(4,.ptr 0 1 0 0),(5,.int .i64 ((a:Nat):Int))],[(0,.vs [.bool false b,.imm .free (.ns .u64 c) 1 1 d e,.int .i64 f])],1⟩)
theorem sv:lc qw:=by intro x;cases x <;> (intro h;cases h)
def Qm:eG→ju
  | .r0 a b c d e f=>⟨.tup [.agg [.bool false b,.imm .free (.ns .u64 c) 1 1 d e,.int .i64 f],.int .i64 ((a:Nat):Int)],[]⟩
def p9:List Code:=bD (bp qk)
def Wf(a:Lv)(b:Lv) :Nat×Bool×(List Int)×Nat×Nat×Int×Bool×(List Int)×Nat×Nat×Int×Bool→aC:=fun (c,d,e,f,g,h,i,j,k,l,m,n)=>⟨ag 97 [(2,.ptr 0 1 0 0),(3,.ptr 1 1 0 0),(4,.ptr 2 1 0 0),(6,.int .i64 ((c:Nat):Int))],[(0,.vs [.bool false d,.imm a (.ns .u64 e) 1 1 f g,.int .i64 h]),(1,.vs [.bool false i,.imm b (.ns .u64 j) 1 1 k l,.int .i64 m]),(2,.vs [.bool false n,.nsl,.int .i64 (0:Int)])],3⟩
def ER(d : Bool)(a : List Int)(c : Int)(f : Bool)(b : List Int)(e : Int) : T ((Nat × Bool × (List Int) × Nat × Nat × Int × Bool × (List Int) × Nat × Nat × Int × Bool) ⊕ (eG)) :=
  .ask (decide ((0:Int) < (2:Int)))
    (.need (iE (0:Int) 2)<|.need (aI 0 (List.length a) a)<|.need (kB (d4 (aa 0 (List.length a) a) c))<|.ask (!(iZ (d4 (aa 0 (List.length a) a) c)))
      (.leaf (.inl (2,d,a,0,(List.length a),c,f,b,0,(List.length b),e,false)))
      (.need (aI 0 (List.length a) a)<|.need (gn (au d (aa 0 (List.length a) a) c))<|.need (dP .i64 (1:Int))<|.ask (decide ((1:Int) < (2:Int)))
        (.need (iE (1:Int) 2)<|.need (aI 0 (List.length b) b)<|.need (kB (d4 (aa 0 (List.length b) b) e))<|.ask (!(iZ (d4 (aa 0 (List.length b) b) e)))
          (.leaf (.inl (2,(dA (au d (aa 0 (List.length a) a) c)),(dB (au d (aa 0 (List.length a) a) c)),(dC (au d (aa 0 (List.length a) a) c)),(dD (au d (aa 0 (List.length a) a) c)),(dE (au d (aa 0 (List.length a) a) c)),f,b,0,(List.length b),e,false)))
          (.need (aI 0 (List.length b) b)<|.need (gn (au f (aa 0 (List.length b) b) e))<|.need (dP .i64 (2:Int))<|.ask (decide ((2:Int) < (2:Int)))
            (.fail)
            (.leaf (.inl (0,(dA (au d (aa 0 (List.length a) a) c)),(dB (au d (aa 0 (List.length a) a) c)),(dC (au d (aa 0 (List.length a) a) c)),(dD (au d (aa 0 (List.length a) a) c)),(dE (au d (aa 0 (List.length a) a) c)),(dA (au f (aa 0 (List.length b) b) e)),(dB (au f (aa 0 (List.length b) b) e)),(dC (au f (aa 0 (List.length b) b) e)),(dD (au f (aa 0 (List.length b) b) e)),(dE (au f (aa 0 (List.length b) b) e)),false)))))
        (.fail)))
    (.fail)
def Wg(a:Lv)(b:Lv)(c:Bool)(d:List Int)(e:Nat)(f:Nat)(g:Int)(h:Bool)(i:List Int)(j:Nat)(k:Nat)(l:Int)(m:Bool) :Nat×Int×(List Int)×Nat×(List Int)×Nat→aC:=fun (n,o,p,q,r,s)=>⟨ag 97 [(2,.ptr 0 1 0 0),(3,.ptr 1 1 0 0),(4,.ptr 2 1 0 0),(7,.ptr 3 1 0 0),(8,.int .i64 ((n:Nat):Int))],[(0,.vs [.bool false c,.imm a (.ns .u64 d) 1 1 e f,.int .i64 g]),(1,.vs [.bool false h,.imm b (.ns .u64 i) 1 1 j k,.int .i64 l]),(2,.vs [.bool false m,.nsl,.int .i64 (0:Int)]),(3,.vs [.int .i64 o,.imm .free (.ns .u64 p) 1 1 0 q,.imm .free (.ns .u64 r) 1 1 0 s])],4⟩
def Ci(i:Nat)(a:List Int)(b:Nat)(c:Nat)(g:Int)(d:List Int)(e:Nat)(f:Nat)(h:Int) :T ((Nat×Int×(List Int)×Nat×(List Int)×Nat)⊕(eG)) :=
  .ask (((i:Nat):Int) != (0:Int))
    (.leaf (.inr (.r0 i false ([]:List Int) 0 0 (0:Int))))
    (.need (aI b c a)<|.need (aI e f d)<|.need (uC (cz (aa b c a) g (aa e f d) h))<|.leaf (.inl ((vw (cz (aa b c a) g (aa e f d) h)),(vx (cz (aa b c a) g (aa e f d) h)),(vy (cz (aa b c a) g (aa e f d) h)),(vz (cz (aa b c a) g (aa e f d) h)),(vA (cz (aa b c a) g (aa e f d) h)),(vB (cz (aa b c a) g (aa e f d) h)))))
def Wh(a:Lv)(b:Lv)(c:Bool)(d:List Int)(e:Nat)(f:Nat)(g:Int)(h:Bool)(i:List Int)(j:Nat)(k:Nat)(l:Int)(m:Bool)(n:Int)(o:List Int)(p:Nat)(q:List Int)(r:Nat)(_:Unit) :aC:=⟨ag 97 [(2,.ptr 0 1 0 0),(3,.ptr 1 1 0 0),(4,.ptr 2 1 0 0),(7,.ptr 3 1 0 0),(9,.fn (.func ic) [] [.ptr 3 1 0 0])],[(0,.vs [.bool false c,.imm a (.ns .u64 d) 1 1 e f,.int .i64 g]),(1,.vs [.bool false h,.imm b (.ns .u64 i) 1 1 j k,.int .i64 l]),(2,.vs [.bool false m,.nsl,.int .i64 (0:Int)]),(3,.vs [.int .i64 n,.imm .free (.ns .u64 o) 1 1 0 p,.imm .free (.ns .u64 q) 1 1 0 r])],4⟩
def tE(e:Bool)(h:Bool)(g:Nat)(f:Int)(a:List Int)(b:Nat)(c:List Int)(d:Nat) :T ((Unit)⊕(eG)) :=
  .ask (((g:Nat):Int) != (0:Int))
    (.leaf (.inr (.r0 g false ([]:List Int) 0 0 (0:Int))))
    (.ask (e == h)
      (.need (aI 0 b a)<|.need (aI 0 d c)<|.need (Dg (bU (aa 0 b a) (aa 0 d c)))<|.need (aI (i8 (bU (aa 0 b a) (aa 0 d c))) (i9 (bU (aa 0 b a) (aa 0 d c))) (ja (bU (aa 0 b a) (aa 0 d c))))<|.need (aI 0 b a)<|.need (aI 0 d c)<|.need (rv (bN e (aa (i8 (bU (aa 0 b a) (aa 0 d c))) (i9 (bU (aa 0 b a) (aa 0 d c))) (ja (bU (aa 0 b a) (aa 0 d c)))) (((kj (bU (aa 0 b a) (aa 0 d c))):Nat):Int) f))<|.leaf (.inr (.r0 (qQ (bN e (aa (i8 (bU (aa 0 b a) (aa 0 d c))) (i9 (bU (aa 0 b a) (aa 0 d c))) (ja (bU (aa 0 b a) (aa 0 d c)))) (((kj (bU (aa 0 b a) (aa 0 d c))):Nat):Int) f)) (qR (bN e (aa (i8 (bU (aa 0 b a) (aa 0 d c))) (i9 (bU (aa 0 b a) (aa 0 d c))) (ja (bU (aa 0 b a) (aa 0 d c)))) (((kj (bU (aa 0 b a) (aa 0 d c))):Nat):Int) f)) (qS (bN e (aa (i8 (bU (aa 0 b a) (aa 0 d c))) (i9 (bU (aa 0 b a) (aa 0 d c))) (ja (bU (aa 0 b a) (aa 0 d c)))) (((kj (bU (aa 0 b a) (aa 0 d c))):Nat):Int) f)) (qT (bN e (aa (i8 (bU (aa 0 b a) (aa 0 d c))) (i9 (bU (aa 0 b a) (aa 0 d c))) (ja (bU (aa 0 b a) (aa 0 d c)))) (((kj (bU (aa 0 b a) (aa 0 d c))):Nat):Int) f)) (qU (bN e (aa (i8 (bU (aa 0 b a) (aa 0 d c))) (i9 (bU (aa 0 b a) (aa 0 d c))) (ja (bU (aa 0 b a) (aa 0 d c)))) (((kj (bU (aa 0 b a) (aa 0 d c))):Nat):Int) f)) (qV (bN e (aa (i8 (bU (aa 0 b a) (aa 0 d c))) (i9 (bU (aa 0 b a) (aa 0 d c))) (ja (bU (aa 0 b a) (aa 0 d c)))) (((kj (bU (aa 0 b a) (aa 0 d c))):Nat):Int) f)))))
      (.leaf (.inl ())))
def Wi(a:Lv)(b:Lv)(c:Bool)(d:List Int)(e:Nat)(f:Nat)(g:Int)(h:Bool)(i:List Int)(j:Nat)(k:Nat)(l:Int)(m:Bool)(n:Int)(o:List Int)(p:Nat)(q:List Int)(r:Nat)(s:Int) :aC:=⟨ag 97 [(2,.ptr 0 1 0 0),(3,.ptr 1 1 0 0),(4,.ptr 2 1 0 0),(7,.ptr 3 1 0 0),(9,.fn (.func ic) [] [.ptr 3 1 0 0]),(12,.int .i64 s)],[(0,.vs [.bool false c,.imm a (.ns .u64 d) 1 1 e f,.int .i64 g]),(1,.vs [.bool false h,.imm b (.ns .u64 i) 1 1 j k,.int .i64 l]),(2,.vs [.bool false m,.nsl,.int .i64 (0:Int)]),(3,.vs [.int .i64 n,.imm .free (.ns .u64 o) 1 1 0 p,.imm .free (.ns .u64 q) 1 1 0 r])],4⟩
def Cj(a:List Int)(b:Nat)(c:List Int)(d:Nat) :T ((Int)⊕(eG)) :=
  .need (aI 0 b a)<|.need (aI 0 d c)<|.need (De (tr (aa 0 b a) (aa 0 d c)))<|.leaf (.inl (B8 (tr (aa 0 b a) (aa 0 d c))))
def Wj(a:Lv)(b:Bool)(c:List Int)(d:Nat)(e:Nat)(f:Int)(g:Bool)(h:Int)(i:List Int)(j:Nat)(k:List Int)(l:Nat)(_:Unit) :aC:=⟨ag 97 [(2,.ptr 0 1 0 0),(4,.ptr 1 1 0 0),(7,.ptr 2 1 0 0),(9,.fn (.func ic) [] [.ptr 2 1 0 0])],[(0,.vs [.bool false b,.imm a (.ns .u64 c) 1 1 d e,.int .i64 f]),(1,.vs [.bool false g,.nsl,.int .i64 (0:Int)]),(2,.vs [.int .i64 h,.imm .free (.ns .u64 i) 1 1 0 j,.imm .free (.ns .u64 k) 1 1 0 l])],3⟩
def Ck(e:Bool)(f:Int)(a:List Int)(b:Nat)(c:List Int)(d:Nat)(g:Int) :T ((Unit)⊕(eG)) :=
  .ask (decide (g < (0:Int)))
    (.need (aI 0 d c)<|.need (aI 0 b a)<|.need (yY (bK (aa 0 d c) (aa 0 b a)))<|.need (aI (ii (bK (aa 0 d c) (aa 0 b a))) (ij (bK (aa 0 d c) (aa 0 b a))) (ig (bK (aa 0 d c) (aa 0 b a))))<|.need (aI 0 b a)<|.need (aI 0 d c)<|.need (rv (bN e (aa (ii (bK (aa 0 d c) (aa 0 b a))) (ij (bK (aa 0 d c) (aa 0 b a))) (ig (bK (aa 0 d c) (aa 0 b a)))) (((jb (bK (aa 0 d c) (aa 0 b a))):Nat):Int) f))<|.leaf (.inr (.r0 (qQ (bN e (aa (ii (bK (aa 0 d c) (aa 0 b a))) (ij (bK (aa 0 d c) (aa 0 b a))) (ig (bK (aa 0 d c) (aa 0 b a)))) (((jb (bK (aa 0 d c) (aa 0 b a))):Nat):Int) f)) (qR (bN e (aa (ii (bK (aa 0 d c) (aa 0 b a))) (ij (bK (aa 0 d c) (aa 0 b a))) (ig (bK (aa 0 d c) (aa 0 b a)))) (((jb (bK (aa 0 d c) (aa 0 b a))):Nat):Int) f)) (qS (bN e (aa (ii (bK (aa 0 d c) (aa 0 b a))) (ij (bK (aa 0 d c) (aa 0 b a))) (ig (bK (aa 0 d c) (aa 0 b a)))) (((jb (bK (aa 0 d c) (aa 0 b a))):Nat):Int) f)) (qT (bN e (aa (ii (bK (aa 0 d c) (aa 0 b a))) (ij (bK (aa 0 d c) (aa 0 b a))) (ig (bK (aa 0 d c) (aa 0 b a)))) (((jb (bK (aa 0 d c) (aa 0 b a))):Nat):Int) f)) (qU (bN e (aa (ii (bK (aa 0 d c) (aa 0 b a))) (ij (bK (aa 0 d c) (aa 0 b a))) (ig (bK (aa 0 d c) (aa 0 b a)))) (((jb (bK (aa 0 d c) (aa 0 b a))):Nat):Int) f)) (qV (bN e (aa (ii (bK (aa 0 d c) (aa 0 b a))) (ij (bK (aa 0 d c) (aa 0 b a))) (ig (bK (aa 0 d c) (aa 0 b a)))) (((jb (bK (aa 0 d c) (aa 0 b a))):Nat):Int) f)))))
    (.leaf (.inl ()))
def Wl(a:Lv)(b:Bool)(c:List Int)(d:Nat)(e:Nat)(f:Int)(g:Bool)(h:Int)(i:List Int)(j:Nat)(k:List Int)(l:Nat) :Nat×(List Int)×Nat×Nat→aC:=fun (m,n,o,p)=>⟨ag 97 [(2,.ptr 0 1 0 0),(4,.ptr 1 1 0 0),(8,.int .i64 ((m:Nat):Int)),(9,.fn (.func ic) [] [.ptr 2 1 0 0]),(16,.imm .free (.ns .u64 n) 1 1 o p)],[(0,.vs [.bool false b,.imm a (.ns .u64 c) 1 1 d e,.int .i64 f]),(1,.vs [.bool false g,.nsl,.int .i64 (0:Int)]),(2,.vs [.int .i64 h,.imm .free (.ns .u64 i) 1 1 0 j,.imm .free (.ns .u64 k) 1 1 0 l])],3⟩
def Cl(a:List Int)(b:Nat)(c:List Int)(d:Nat) :T ((Nat×(List Int)×Nat×Nat)⊕(eG)) :=
  .need (aI 0 b a)<|.need (aI 0 d c)<|.need (yY (bK (aa 0 b a) (aa 0 d c)))<|.leaf (.inl ((jb (bK (aa 0 b a) (aa 0 d c))),(ig (bK (aa 0 b a) (aa 0 d c))),(ii (bK (aa 0 b a) (aa 0 d c))),(ij (bK (aa 0 b a) (aa 0 d c)))))
def Wm:Nat×Bool×(List Int)×Nat×Nat×Int→aC:=fun (a,b,c,d,e,f)=>⟨ag 97 [(4,.ptr 0 1 0 0),(5,.int .i64 ((a:Nat):Int))],[(0,.vs [.bool false b,.imm .free (.ns .u64 c) 1 1 d e,.int .i64 f])],1⟩
def Cm(d:Bool)(e:Int)(g:List Int)(h:Nat)(i:List Int)(j:Nat)(f:Nat)(a:List Int)(b:Nat)(c:Nat) :T ((Nat×Bool×(List Int)×Nat×Nat×Int)⊕(eG)) :=
  .need (aI b c a)<|.need (aI 0 h g)<|.need (aI 0 j i)<|.need (rv (bN d (aa b c a) ((f:Nat):Int) e))<|.leaf (.inl ((qQ (bN d (aa b c a) ((f:Nat):Int) e)),(qR (bN d (aa b c a) ((f:Nat):Int) e)),(qS (bN d (aa b c a) ((f:Nat):Int) e)),(qT (bN d (aa b c a) ((f:Nat):Int) e)),(qU (bN d (aa b c a) ((f:Nat):Int) e)),(qV (bN d (aa b c a) ((f:Nat):Int) e))))
def RS(a:Nat)(b:Bool)(c:List Int)(d:Nat)(e:Nat)(f:Int) :T ((Empty)⊕(eG)) :=
  .leaf (.inr (.r0 a b c d e f))
def ck(h:Bool)(i:List Int)(j:Int)(k:Bool)(l:List Int)(m:Int) :Option eG:=l6 (ax ((ER h i j k l m).run) fun (n,f,o,p,q,r,g,s,t,u,v,I) =>
  ax ((Ci n o p q r s t u v).run) fun (w,e,a,b,c,d) =>
  ax ((tE f g w e a b c d).run) fun _ =>
  ax ((Cj a b c d).run) fun x =>
  ax ((Ck g e a b c d x).run) fun _ =>
  ax ((Cl a b c d).run) fun (y,z,A,B) =>
  ax ((Cm f e a b c d y z A B).run) fun (C,D,E,F,G,H) =>
  (RS C D E F G H).run)
theorem aic(w:Bool)(b:Lv)(u:List Int)(y:Int)(z:Bool)(n:Lv)(v:List Int)(A:Int){x:eG}(h:ck w u y z v A=some x) :ak prog qk [] [.agg [.bool false w,.imm b (.ns .u64 u) 1 1 0 (List.length u),.int .i64 y],.agg [.bool false z,.imm n (.ns .u64 v) 1 1 0 (List.length v),.int .i64 A]] (Qm x) :=
  Sg.contract true Qm (by kernel_rfl:prog.funcs[qk]? = some (FN qk)) (by kernel_rfl:(FN qk).body=some (bp qk)) (Sg.cut 2 sv (Sg.seg (C:=C0) ah ik 60 (p9.take 2) (aL (FN qk) [] [.agg [.bool false w,.imm b (.ns .u64 u) 1 1 0 (List.length u),.int .i64 y],.agg [.bool false z,.imm n (.ns .u64 v) 1 1 0 (List.length v),.int .i64 A]]) (ER w u y z v A) (Wf b n) qw [⟨[],[0,16,32],[2,3,4,6]⟩,⟨[(.cell 0 1,.lev b)],[0,16,32],[2,3,4,6]⟩,⟨[(.cell 0 1,.lev b),(.cell 16 1,.lev n)],[0,16,32],[2,3,4,6]⟩] (by kernel_rfl)) (fun a=>by obtain ⟨B,g,i,j,k,l,p,q,r,s,t,o⟩:=a;exact Sg.cut 3 sv (Sg.seg (C:=C0) ah ik 60 ((p9.drop 2).take 3) (Wf b n (B,g,i,j,k,l,p,q,r,s,t,o)) (Ci B i j k l q r s t) (Wg b n g i j k l p q r s t o) qw [⟨[(.cell 2 1,.fre 1 1 (.ns .u64 ([]:List Int)))],[2],[4,5]⟩,⟨[],[0,1,2,131],[2,3,4,7,8]⟩] (by kernel_rfl)) (fun a=>by obtain ⟨D,m,c,d,e,f⟩:=a;exact Sg.cut 5 sv (Sg.seg (C:=C0) ah ik 60 (((p9.drop 2).drop 3).take 5) (Wg b n g i j k l p q r s t o (D,m,c,d,e,f)) (tE g p D m c d e f) (Wh b n g i j k l p q r s t o m c d e f) qw [⟨[(.cell 2 1,.fre 1 1 (.ns .u64 ([]:List Int)))],[2],[4,5]⟩,⟨[],[2],[4,5]⟩,⟨[],[0,1,2,3],[2,3,4,7,9]⟩] (by kernel_rfl)) (fun a=>by cases a;exact Sg.cut 1 sv (Sg.seg (C:=C0) ah ik 60 ((((p9.drop 2).drop 3).drop 5).take 1) (Wh b n g i j k l p q r s t o m c d e f ()) (Cj c d e f) (Wi b n g i j k l p q r s t o m c d e f) qw [⟨[],[0,1,2,3],[2,3,4,7,9,12]⟩] (by kernel_rfl)) (fun E=>by exact Sg.cut 2 sv (Sg.seg (C:=C0) ah ik 60 (((((p9.drop 2).drop 3).drop 5).drop 1).take 2) (Wi b n g i j k l p q r s t o m c d e f E) (Ck p m c d e f E) (Wj b g i j k l o m c d e f) qw [⟨[],[2],[4,5]⟩,⟨[],[0,2,3],[2,4,7,9]⟩] (by kernel_rfl)) (fun a=>by cases a;exact Sg.cut 1 sv (Sg.seg (C:=C0) ah ik 60 ((((((p9.drop 2).drop 3).drop 5).drop 1).drop 2).take 1) (Wj b g i j k l o m c d e f ()) (Cl c d e f) (Wl b g i j k l o m c d e f) qw [⟨[],[0,1,2],[2,4,8,9,16]⟩] (by kernel_rfl)) (fun a=>by obtain ⟨F,G,H,I⟩:=a;exact Sg.cut 1 sv (Sg.seg (C:=C0) ah ik 60 (((((((p9.drop 2).drop 3).drop 5).drop 1).drop 2).drop 1).take 1) (Wl b g i j k l o m c d e f (F,G,H,I)) (Cm g m c d e f F G H I) Wm qw [⟨[],[1],[4,5]⟩] (by kernel_rfl)) (fun a=>by obtain ⟨J,K,L,M,N,O⟩:=a;exact Sg.seg (C:=C0) ah ik 60 (((((((p9.drop 2).drop 3).drop 5).drop 1).drop 2).drop 1).drop 1) (Wm (J,K,L,M,N,O)) (RS J K L M N O) (fun a:Empty=>a.elim) qw [⟨[],[0],[4,5]⟩] (by kernel_rfl)))))))))
    (fun x=>by cases x with | r0 P Q R S T U=>exact ⟨.inr rfl,[.agg [.bool false Q,.imm .free (.ns .u64 R) 1 1 S T,.int .i64 U],.int .i64 ((P:Nat):Int)],[],by kernel_rfl,trivial,by kernel_rfl⟩) h
def A4:Option eG→Bool
  | some _=>true
  | none=>false
def rx:Option eG→Nat
  | some (.r0 x _ _ _ _ _)=>x
  | _=>0
def uD:Option eG→Bool
  | some (.r0 _ x _ _ _ _)=>x
  | _=>false
def uE:Option eG→List Int
  | some (.r0 _ _ x _ _ _)=>x
  | _=>[]
def uF:Option eG→Nat
  | some (.r0 _ _ _ x _ _)=>x
  | _=>0
def uG:Option eG→Nat
  | some (.r0 _ _ _ _ x _)=>x
  | _=>0
def uH:Option eG→Int
  | some (.r0 _ _ _ _ _ x)=>x
  | _=>0
theorem aid{x:Option eG}(h:A4 x=true) :x=some (.r0 (rx x) (uD x) (uE x) (uF x) (uG x) (uH x)):=by
  unfold A4 at h
  split at h <;> first | rfl | (cases h;done) | (rename_i y;cases y;rfl)
def aag:aD:=bW qk (.cons (.agg (.cons .bool (.cons (.ns .u64) (.cons (.int .i64) .nil)))) (.cons (.agg (.cons .bool (.cons (.ns .u64) (.cons (.int .i64) .nil)))) .nil)) fun t=>[⟨Qm (.r0 (rx (ck t.1.1 t.1.2.1.2 t.1.2.2.1 t.2.1.1 t.2.1.2.1.2 t.2.1.2.2.1)) (uD (ck t.1.1 t.1.2.1.2 t.1.2.2.1 t.2.1.1 t.2.1.2.1.2 t.2.1.2.2.1)) (uE (ck t.1.1 t.1.2.1.2 t.1.2.2.1 t.2.1.1 t.2.1.2.1.2 t.2.1.2.2.1)) (uF (ck t.1.1 t.1.2.1.2 t.1.2.2.1 t.2.1.1 t.2.1.2.1.2 t.2.1.2.2.1)) (uG (ck t.1.1 t.1.2.1.2 t.1.2.2.1 t.2.1.1 t.2.1.2.1.2 t.2.1.2.2.1)) (uH (ck t.1.1 t.1.2.1.2 t.1.2.2.1 t.2.1.1 t.2.1.2.1.2 t.2.1.2.2.1))),[A4 (ck t.1.1 t.1.2.1.2 t.1.2.2.1 t.2.1.1 t.2.1.2.1.2 t.2.1.2.2.1)]⟩]
theorem ab2:aM prog aag:=aG fun t=>(aH (fun h=>aic t.1.1 t.1.2.1.1 t.1.2.1.2 t.1.2.2.1 t.2.1.1 t.2.1.2.1.1 t.2.1.2.1.2 t.2.1.2.2.1 (aid h)) aR)
def aah:List aD:=aag :: RR
theorem uI:aX prog (aZ aah):=am ab2 ik
inductive gF where
  | r0 (a:Nat) (b:Bool) (c:List Int) (d:Nat) (e:Nat) (f:Int)
def Dt:gF→AE×aC
  | .r0 a b c d e f=>(.ret,⟨ag 41 [(4,.ptr 0 1 0 0),(5,.int .i64 ((a:Nat):Int))],[(0,.vs [.bool false b,.imm .free (.ns .u64 c) 1 1 d e,.int .i64 f])],1⟩)
theorem Kr:lc Dt:=by intro x;cases x <;> (intro h;cases h)
def Qn:gF→ju
  | .r0 a b c d e f=>⟨.tup [.agg [.bool false b,.imm .free (.ns .u64 c) 1 1 d e,.int .i64 f],.int .i64 ((a:Nat):Int)],[]⟩
def ES:List Code:=bD (bp qj)
def Wn(a:Lv)(b:Lv) :Nat×Bool×(List Int)×Nat×Nat×Int×Bool×(List Int)×Nat×Nat×Int×Bool→aC:=fun (c,d,e,f,g,h,i,j,k,l,m,n)=>⟨ag 41 [(2,.ptr 0 1 0 0),(3,.ptr 1 1 0 0),(4,.ptr 2 1 0 0),(6,.int .i64 ((c:Nat):Int))],[(0,.vs [.bool false d,.imm a (.ns .u64 e) 1 1 f g,.int .i64 h]),(1,.vs [.bool false i,.imm b (.ns .u64 j) 1 1 k l,.int .i64 m]),(2,.vs [.bool false n,.nsl,.int .i64 (0:Int)])],3⟩
def Ks(d : Bool)(a : List Int)(c : Int)(f : Bool)(b : List Int)(e : Int) : T ((Nat × Bool × (List Int) × Nat × Nat × Int × Bool × (List Int) × Nat × Nat × Int × Bool) ⊕ (gF)) :=
  .ask (decide ((0:Int) < (2:Int)))
    (.need (iE (0:Int) 2)<|.need (aI 0 (List.length a) a)<|.need (kB (d4 (aa 0 (List.length a) a) c))<|.ask (!(iZ (d4 (aa 0 (List.length a) a) c)))
      (.leaf (.inl (2,d,a,0,(List.length a),c,f,b,0,(List.length b),e,false)))
      (.need (aI 0 (List.length a) a)<|.need (gn (au d (aa 0 (List.length a) a) c))<|.need (dP .i64 (1:Int))<|.ask (decide ((1:Int) < (2:Int)))
        (.need (iE (1:Int) 2)<|.need (aI 0 (List.length b) b)<|.need (kB (d4 (aa 0 (List.length b) b) e))<|.ask (!(iZ (d4 (aa 0 (List.length b) b) e)))
          (.leaf (.inl (2,(dA (au d (aa 0 (List.length a) a) c)),(dB (au d (aa 0 (List.length a) a) c)),(dC (au d (aa 0 (List.length a) a) c)),(dD (au d (aa 0 (List.length a) a) c)),(dE (au d (aa 0 (List.length a) a) c)),f,b,0,(List.length b),e,false)))
          (.need (aI 0 (List.length b) b)<|.need (gn (au f (aa 0 (List.length b) b) e))<|.need (dP .i64 (2:Int))<|.ask (decide ((2:Int) < (2:Int)))
            (.fail)
            (.leaf (.inl (0,(dA (au d (aa 0 (List.length a) a) c)),(dB (au d (aa 0 (List.length a) a) c)),(dC (au d (aa 0 (List.length a) a) c)),(dD (au d (aa 0 (List.length a) a) c)),(dE (au d (aa 0 (List.length a) a) c)),(dA (au f (aa 0 (List.length b) b) e)),(dB (au f (aa 0 (List.length b) b) e)),(dC (au f (aa 0 (List.length b) b) e)),(dD (au f (aa 0 (List.length b) b) e)),(dE (au f (aa 0 (List.length b) b) e)),false)))))
        (.fail)))
    (.fail)
def Wo(a:Lv)(b:Lv)(c:Bool)(d:List Int)(e:Nat)(f:Nat)(g:Int)(h:Bool)(i:List Int)(j:Nat)(k:Nat)(l:Int)(m:Bool) :(List Int)×Nat×Nat×Nat→aC:=fun (n,o,p,q)=>⟨ag 41 [(2,.ptr 0 1 0 0),(3,.ptr 1 1 0 0),(4,.ptr 2 1 0 0),(7,.imm .free (.ns .u64 n) 1 1 o p),(8,.int .i64 ((q:Nat):Int))],[(0,.vs [.bool false c,.imm a (.ns .u64 d) 1 1 e f,.int .i64 g]),(1,.vs [.bool false h,.imm b (.ns .u64 i) 1 1 j k,.int .i64 l]),(2,.vs [.bool false m,.nsl,.int .i64 (0:Int)])],3⟩
def ET(g:Nat)(a:List Int)(b:Nat)(c:Nat)(d:List Int)(e:Nat)(f:Nat) :T (((List Int)×Nat×Nat×Nat)⊕(gF)) :=
  .ask (((g:Nat):Int) != (0:Int))
    (.leaf (.inr (.r0 g false ([]:List Int) 0 0 (0:Int))))
    (.need (aI b c a)<|.need (aI e f d)<|.need (HE (mD (aa b c a) (aa e f d)))<|.leaf (.inl ((HI (mD (aa b c a) (aa e f d))),(HF (mD (aa b c a) (aa e f d))),(HG (mD (aa b c a) (aa e f d))),(HH (mD (aa b c a) (aa e f d))))))
def Wp:Nat×Bool×(List Int)×Nat×Nat×Int→aC:=fun (a,b,c,d,e,f)=>⟨ag 41 [(4,.ptr 0 1 0 0),(5,.int .i64 ((a:Nat):Int))],[(0,.vs [.bool false b,.imm .free (.ns .u64 c) 1 1 d e,.int .i64 f])],1⟩
def EU(f:Bool)(a:Int)(g:Bool)(b:Int)(c:List Int)(d:Nat)(e:Nat)(h:Nat) :T ((Nat×Bool×(List Int)×Nat×Nat×Int)⊕(gF)) :=
  .ask (((h:Nat):Int) != (0:Int))
    (.leaf (.inr (.r0 3 false ([]:List Int) 0 0 (0:Int))))
    (.need (dP .i64 (a+b))<|.need (aI d e c)<|.need (tD (bS (!(f == g)) (aa d e c) (a+b)))<|.leaf (.inl ((sk (bS (!(f == g)) (aa d e c) (a+b))),(sm (bS (!(f == g)) (aa d e c) (a+b))),(sn (bS (!(f == g)) (aa d e c) (a+b))),(so (bS (!(f == g)) (aa d e c) (a+b))),(sq (bS (!(f == g)) (aa d e c) (a+b))),(su (bS (!(f == g)) (aa d e c) (a+b))))))
def Wq(a:Nat)(b:Bool)(c:List Int)(d:Nat)(e:Nat)(f:Int) :T ((Empty)⊕(gF)) :=
  .leaf (.inr (.r0 a b c d e f))
def an(a:Bool)(b:List Int)(c:Int)(d:Bool)(e:List Int)(f:Int) :Option gF:=l6 (ax ((Ks a b c d e f).run) fun (g,h,i,j,k,l,m,n,o,p,q,B) =>
  ax ((ET g i j k n o p).run) fun (r,s,t,u) =>
  ax ((EU h l m q r s t u).run) fun (v,w,x,y,z,A) =>
  (Wq v w x y z A).run)
theorem aie(f:Bool)(b:Lv)(d:List Int)(g:Int)(i:Bool)(c:Lv)(e:List Int)(j:Int){x:gF}(h:an f d g i e j=some x) :ak prog qj [] [.agg [.bool false f,.imm b (.ns .u64 d) 1 1 0 (List.length d),.int .i64 g],.agg [.bool false i,.imm c (.ns .u64 e) 1 1 0 (List.length e),.int .i64 j]] (Qn x) :=
  Sg.contract true Qn (by kernel_rfl:prog.funcs[qj]? = some (FN qj)) (by kernel_rfl:(FN qj).body=some (bp qj)) (Sg.cut 2 Kr (Sg.seg (C:=C0) ah uI 60 (ES.take 2) (aL (FN qj) [] [.agg [.bool false f,.imm b (.ns .u64 d) 1 1 0 (List.length d),.int .i64 g],.agg [.bool false i,.imm c (.ns .u64 e) 1 1 0 (List.length e),.int .i64 j]]) (Ks f d g i e j) (Wn b c) Dt [⟨[],[0,16,32],[2,3,4,6]⟩,⟨[(.cell 0 1,.lev b)],[0,16,32],[2,3,4,6]⟩,⟨[(.cell 0 1,.lev b),(.cell 16 1,.lev c)],[0,16,32],[2,3,4,6]⟩] (by kernel_rfl)) (fun a=>by obtain ⟨v,k,l,m,n,o,p,q,r,s,t,u⟩:=a;exact Sg.cut 3 Kr (Sg.seg (C:=C0) ah uI 60 ((ES.drop 2).take 3) (Wn b c (v,k,l,m,n,o,p,q,r,s,t,u)) (ET v l m n q r s) (Wo b c k l m n o p q r s t u) Dt [⟨[(.cell 2 1,.fre 1 1 (.ns .u64 ([]:List Int)))],[2],[4,5]⟩,⟨[],[0,1,2],[2,3,4,7,8]⟩] (by kernel_rfl)) (fun a=>by obtain ⟨w,y,z,A⟩:=a;exact Sg.cut 3 Kr (Sg.seg (C:=C0) ah uI 60 (((ES.drop 2).drop 3).take 3) (Wo b c k l m n o p q r s t u (w,y,z,A)) (EU k o p t w y z A) Wp Dt [⟨[(.cell 2 1,.fre 1 1 (.ns .u64 ([]:List Int)))],[2],[4,5]⟩,⟨[],[2],[4,5]⟩] (by kernel_rfl)) (fun a=>by obtain ⟨B,D,E,F,G,H⟩:=a;exact Sg.seg (C:=C0) ah uI 60 (((ES.drop 2).drop 3).drop 3) (Wp (B,D,E,F,G,H)) (Wq B D E F G H) (fun a:Empty=>a.elim) Dt [⟨[],[0],[4,5]⟩] (by kernel_rfl)))))
    (fun x=>by cases x with | r0 I J K L M N=>exact ⟨.inr rfl,[.agg [.bool false J,.imm .free (.ns .u64 K) 1 1 L M,.int .i64 N],.int .i64 ((I:Nat):Int)],[],by kernel_rfl,trivial,by kernel_rfl⟩) h
def qa:Option gF→Bool
  | some _=>true
  | none=>false
def l9:Option gF→Nat
  | some (.r0 x _ _ _ _ _)=>x
  | _=>0
def cF:Option gF→Bool
  | some (.r0 _ x _ _ _ _)=>x
  | _=>false
def ct:Option gF→List Int
  | some (.r0 _ _ x _ _ _)=>x
  | _=>[]
def cu:Option gF→Nat
  | some (.r0 _ _ _ x _ _)=>x
  | _=>0
def cv:Option gF→Nat
  | some (.r0 _ _ _ _ x _)=>x
  | _=>0
def cG:Option gF→Int
  | some (.r0 _ _ _ _ _ x)=>x
  | _=>0
theorem aif{x:Option gF}(h:qa x=true) :x=some (.r0 (l9 x) (cF x) (ct x) (cu x) (cv x) (cG x)):=by
  unfold qa at h
  split at h <;> first | rfl | (cases h;done) | (rename_i y;cases y;rfl)
def aai:aD:=bW qj (.cons (.agg (.cons .bool (.cons (.ns .u64) (.cons (.int .i64) .nil)))) (.cons (.agg (.cons .bool (.cons (.ns .u64) (.cons (.int .i64) .nil)))) .nil)) fun t=>[⟨Qn (.r0 (l9 (an t.1.1 t.1.2.1.2 t.1.2.2.1 t.2.1.1 t.2.1.2.1.2 t.2.1.2.2.1)) (cF (an t.1.1 t.1.2.1.2 t.1.2.2.1 t.2.1.1 t.2.1.2.1.2 t.2.1.2.2.1)) (ct (an t.1.1 t.1.2.1.2 t.1.2.2.1 t.2.1.1 t.2.1.2.1.2 t.2.1.2.2.1)) (cu (an t.1.1 t.1.2.1.2 t.1.2.2.1 t.2.1.1 t.2.1.2.1.2 t.2.1.2.2.1)) (cv (an t.1.1 t.1.2.1.2 t.1.2.2.1 t.2.1.1 t.2.1.2.1.2 t.2.1.2.2.1)) (cG (an t.1.1 t.1.2.1.2 t.1.2.2.1 t.2.1.1 t.2.1.2.1.2 t.2.1.2.2.1))),[qa (an t.1.1 t.1.2.1.2 t.1.2.2.1 t.2.1.1 t.2.1.2.1.2 t.2.1.2.2.1)]⟩]
theorem ab3:aM prog aai:=aG fun t=>(aH (fun h=>aie t.1.1 t.1.2.1.1 t.1.2.1.2 t.1.2.2.1 t.2.1.1 t.2.1.2.1.1 t.2.1.2.1.2 t.2.1.2.2.1 (aif h)) aR)
def aaj:List aD:=aai :: aah
theorem M8:aX prog (aZ aaj):=am ab3 uI
inductive qb where
  | r0 (a:Int)
def aig:qb→AE×aC
  | .r0 a=>(.ret,⟨ag 11 [(2,.int .i64 a)],[],0⟩)
def Kt:qb→ju
  | .r0 a=>⟨.int .i64 a,[]⟩
def afy:List Code:=bD (bp og)
def H7(a:Bool)(b:List Int) :T ((Empty)⊕(qb)) :=
  .ask ((((List.length b):Nat):Int) == (0:Int))
    (.leaf (.inr (.r0 (0:Int))))
    (.ask a
      (.leaf (.inr (.r0 (-1:Int))))
      (.leaf (.inr (.r0 (1:Int)))))
def gQ(a:Bool)(b:List Int) :Option qb:=l6 ((H7 a b).run)
theorem afz(c:Bool)(d:Lv)(b:List Int)(e:Int){x:qb}(h:gQ c b=some x) :ak prog og [] [.agg [.bool false c,.imm d (.ns .u64 b) 1 1 0 (List.length b),.int .i64 e]] (Kt x) :=
  Sg.contract true Kt (by kernel_rfl:prog.funcs[og]? = some (FN og)) (by kernel_rfl:(FN og).body=some (bp og)) (Sg.seg (C:=C0) ah M8 60 afy (aL (FN og) [] [.agg [.bool false c,.imm d (.ns .u64 b) 1 1 0 (List.length b),.int .i64 e]]) (H7 c b) (fun a:Empty=>a.elim) aig [⟨[],[],[2]⟩,⟨[],[],[2]⟩,⟨[],[],[2]⟩] (by kernel_rfl))
    (fun x=>by cases x with | r0 f=>exact ⟨.inr rfl,[.int .i64 f],[],by kernel_rfl,trivial,by kernel_rfl⟩) h
def ko:Option qb→Bool
  | some _=>true
  | none=>false
def fO:Option qb→Int
  | some (.r0 x)=>x
  | _=>0
theorem afA{x:Option qb}(h:ko x=true) :x=some (.r0 (fO x)):=by
  unfold ko at h
  split at h <;> first | rfl | (cases h;done) | (rename_i y;cases y;rfl)
def Wr:aD:=bW og (.cons (.agg (.cons .bool (.cons (.ns .u64) (.cons (.int .i64) .nil)))) .nil) fun t=>[⟨Kt (.r0 (fO (gQ t.1.1 t.1.2.1.2))),[ko (gQ t.1.1 t.1.2.1.2)]⟩]
theorem aak:aM prog Wr:=aG fun t=>(aH (fun h=>afz t.1.1 t.1.2.1.1 t.1.2.1.2 t.1.2.2.1 (afA h)) aR)
def Ws:List aD:=Wr :: aaj
theorem pD:aX prog (aZ Ws):=am aak M8
inductive jX where
  | r0 (a:Int) (b:Nat)
def zd:jX→AE×aC
  | .r0 a b=>(.ret,⟨ag 52 [(4,.int .i64 a),(5,.int .i64 ((b:Nat):Int))],[],0⟩)
theorem EV:lc zd:=by intro x;cases x <;> (intro h;cases h)
def Qo:jX→ju
  | .r0 a b=>⟨.tup [.int .i64 a,.int .i64 ((b:Nat):Int)],[]⟩
def A5:List Code:=bD (bp ql)
def Wt(a:Lv)(b:Lv) :Nat×Bool×(List Int)×Nat×Nat×Int×Bool×(List Int)×Nat×Nat×Int→aC:=fun (c,d,e,f,g,h,i,j,k,l,m)=>⟨ag 52 [(2,.ptr 0 1 0 0),(3,.ptr 1 1 0 0),(6,.int .i64 ((c:Nat):Int))],[(0,.vs [.bool false d,.imm a (.ns .u64 e) 1 1 f g,.int .i64 h]),(1,.vs [.bool false i,.imm b (.ns .u64 j) 1 1 k l,.int .i64 m])],2⟩
def Ku(d : Bool)(a : List Int)(c : Int)(f : Bool)(b : List Int)(e : Int) : T ((Nat × Bool × (List Int) × Nat × Nat × Int × Bool × (List Int) × Nat × Nat × Int) ⊕ (jX)) :=
  .ask (decide ((0:Int) < (2:Int)))
    (.need (iE (0:Int) 2)<|.need (aI 0 (List.length a) a)<|.need (kB (d4 (aa 0 (List.length a) a) c))<|.ask (!(iZ (d4 (aa 0 (List.length a) a) c)))
      (.leaf (.inl (2,d,a,0,(List.length a),c,f,b,0,(List.length b),e)))
      (.need (aI 0 (List.length a) a)<|.need (gn (au d (aa 0 (List.length a) a) c))<|.need (dP .i64 (1:Int))<|.ask (decide ((1:Int) < (2:Int)))
        (.need (iE (1:Int) 2)<|.need (aI 0 (List.length b) b)<|.need (kB (d4 (aa 0 (List.length b) b) e))<|.ask (!(iZ (d4 (aa 0 (List.length b) b) e)))
          (.leaf (.inl (2,(dA (au d (aa 0 (List.length a) a) c)),(dB (au d (aa 0 (List.length a) a) c)),(dC (au d (aa 0 (List.length a) a) c)),(dD (au d (aa 0 (List.length a) a) c)),(dE (au d (aa 0 (List.length a) a) c)),f,b,0,(List.length b),e)))
          (.need (aI 0 (List.length b) b)<|.need (gn (au f (aa 0 (List.length b) b) e))<|.need (dP .i64 (2:Int))<|.ask (decide ((2:Int) < (2:Int)))
            (.fail)
            (.leaf (.inl (0,(dA (au d (aa 0 (List.length a) a) c)),(dB (au d (aa 0 (List.length a) a) c)),(dC (au d (aa 0 (List.length a) a) c)),(dD (au d (aa 0 (List.length a) a) c)),(dE (au d (aa 0 (List.length a) a) c)),(dA (au f (aa 0 (List.length b) b) e)),(dB (au f (aa 0 (List.length b) b) e)),(dC (au f (aa 0 (List.length b) b) e)),(dD (au f (aa 0 (List.length b) b) e)),(dE (au f (aa 0 (List.length b) b) e)))))))
        (.fail)))
    (.fail)
def Wu(a:Lv)(b:Lv)(c:Bool)(d:List Int)(e:Nat)(f:Nat)(g:Int)(h:Bool)(i:List Int)(j:Nat)(k:Nat)(l:Int) :Nat×Int×(List Int)×Nat×(List Int)×Nat→aC:=fun (m,n,o,p,q,r)=>⟨ag 52 [(2,.ptr 0 1 0 0),(3,.ptr 1 1 0 0),(7,.ptr 2 1 0 0),(8,.int .i64 ((m:Nat):Int))],[(0,.vs [.bool false c,.imm a (.ns .u64 d) 1 1 e f,.int .i64 g]),(1,.vs [.bool false h,.imm b (.ns .u64 i) 1 1 j k,.int .i64 l]),(2,.vs [.int .i64 n,.imm .free (.ns .u64 o) 1 1 0 p,.imm .free (.ns .u64 q) 1 1 0 r])],3⟩
def EW(i:Nat)(a:List Int)(b:Nat)(c:Nat)(g:Int)(d:List Int)(e:Nat)(f:Nat)(h:Int) :T ((Nat×Int×(List Int)×Nat×(List Int)×Nat)⊕(jX)) :=
  .ask (((i:Nat):Int) != (0:Int))
    (.leaf (.inr (.r0 (0:Int) i)))
    (.need (aI b c a)<|.need (aI e f d)<|.need (uC (cz (aa b c a) g (aa e f d) h))<|.leaf (.inl ((vw (cz (aa b c a) g (aa e f d) h)),(vx (cz (aa b c a) g (aa e f d) h)),(vy (cz (aa b c a) g (aa e f d) h)),(vz (cz (aa b c a) g (aa e f d) h)),(vA (cz (aa b c a) g (aa e f d) h)),(vB (cz (aa b c a) g (aa e f d) h)))))
def Wv(a:Lv)(b:Lv)(c:Bool)(d:List Int)(e:Nat)(f:Nat)(g:Int)(h:Bool)(i:List Int)(j:Nat)(k:Nat)(l:Int)(m:Int) :aC:=⟨ag 52 [(2,.ptr 0 1 0 0),(3,.ptr 1 1 0 0),(9,.int .i64 m)],[(0,.vs [.bool false c,.imm a (.ns .u64 d) 1 1 e f,.int .i64 g]),(1,.vs [.bool false h,.imm b (.ns .u64 i) 1 1 j k,.int .i64 l])],2⟩
def EX(e:Nat)(a:List Int)(b:Nat)(c:List Int)(d:Nat) :T ((Int)⊕(jX)) :=
  .ask (((e:Nat):Int) != (0:Int))
    (.leaf (.inr (.r0 (0:Int) e)))
    (.need (aI 0 b a)<|.need (aI 0 d c)<|.need (De (tr (aa 0 b a) (aa 0 d c)))<|.leaf (.inl (B8 (tr (aa 0 b a) (aa 0 d c)))))
def Ww(a:Int)(_:Unit) :aC:=⟨ag 52 [(9,.int .i64 a)],[],0⟩
def sw(g:Bool)(a:List Int)(b:Nat)(c:Nat)(h:Bool)(d:List Int)(e:Nat)(f:Nat)(i:Int) :T ((Unit)⊕(jX)) :=
  .need (aI b c a)<|.need (ko (gQ g (aa b c a)))<|.need (aI e f d)<|.need (ko (gQ h (aa e f d)))<|.ask ((fO (gQ g (aa b c a))) != (fO (gQ h (aa e f d))))
    (.need (aI b c a)<|.need (ko (gQ g (aa b c a)))<|.need (aI e f d)<|.need (ko (gQ h (aa e f d)))<|.need (dP .i64 ((fO (gQ g (aa b c a))) - (fO (gQ h (aa e f d)))))<|.leaf (.inr (.r0 (na (-1:Int) (v9 (1:Int) ((fO (gQ g (aa b c a))) - (fO (gQ h (aa e f d)))))) 0)))
    (.ask g
      (.need (dP .i64 ((0:Int) - i))<|.leaf (.inr (.r0 ((0:Int) - i) 0)))
      (.leaf (.inl ())))
def RT(a:Int) :T ((Empty)⊕(jX)) :=
  .leaf (.inr (.r0 a 0))
def qx(h:Bool)(i:List Int)(j:Int)(k:Bool)(l:List Int)(m:Int) :Option jX:=l6 (ax ((Ku h i j k l m).run) fun (n,o,a,b,c,p,q,d,e,f,r) =>
  ax ((EW n a b c p d e f r).run) fun (s,x,t,u,v,w) =>
  ax ((EX s t u v w).run) fun g =>
  ax ((sw o a b c q d e f g).run) fun _ =>
  (RT g).run)
theorem aih(r:Bool)(b:Lv)(k:List Int)(s:Int)(t:Bool)(c:Lv)(l:List Int)(u:Int){x:jX}(h:qx r k s t l u=some x) :ak prog ql [] [.agg [.bool false r,.imm b (.ns .u64 k) 1 1 0 (List.length k),.int .i64 s],.agg [.bool false t,.imm c (.ns .u64 l) 1 1 0 (List.length l),.int .i64 u]] (Qo x) :=
  Sg.contract true Qo (by kernel_rfl:prog.funcs[ql]? = some (FN ql)) (by kernel_rfl:(FN ql).body=some (bp ql)) (Sg.cut 2 EV (Sg.seg (C:=C0) ah pD 60 (A5.take 2) (aL (FN ql) [] [.agg [.bool false r,.imm b (.ns .u64 k) 1 1 0 (List.length k),.int .i64 s],.agg [.bool false t,.imm c (.ns .u64 l) 1 1 0 (List.length l),.int .i64 u]]) (Ku r k s t l u) (Wt b c) zd [⟨[],[0,16],[2,3,6]⟩,⟨[(.cell 0 1,.lev b)],[0,16],[2,3,6]⟩,⟨[(.cell 0 1,.lev b),(.cell 16 1,.lev c)],[0,16],[2,3,6]⟩] (by kernel_rfl)) (fun a=>by obtain ⟨v,m,d,e,f,n,o,g,i,j,p⟩:=a;exact Sg.cut 3 EV (Sg.seg (C:=C0) ah pD 60 ((A5.drop 2).take 3) (Wt b c (v,m,d,e,f,n,o,g,i,j,p)) (EW v d e f n g i j p) (Wu b c m d e f n o g i j p) zd [⟨[],[],[4,5]⟩,⟨[],[0,1,130],[2,3,7,8]⟩] (by kernel_rfl)) (fun a=>by obtain ⟨w,D,y,z,A,B⟩:=a;exact Sg.cut 3 EV (Sg.seg (C:=C0) ah pD 60 (((A5.drop 2).drop 3).take 3) (Wu b c m d e f n o g i j p (w,D,y,z,A,B)) (EX w y z A B) (Wv b c m d e f n o g i j p) zd [⟨[],[],[4,5]⟩,⟨[],[0,1],[2,3,9]⟩] (by kernel_rfl)) (fun q=>by exact Sg.cut 1 EV (Sg.seg (C:=C0) ah pD 60 ((((A5.drop 2).drop 3).drop 3).take 1) (Wv b c m d e f n o g i j p q) (sw m d e f o g i j q) (Ww q) zd [⟨[],[],[4,5]⟩,⟨[],[],[4,5]⟩,⟨[],[],[9]⟩] (by kernel_rfl)) (fun a=>by cases a;exact Sg.seg (C:=C0) ah pD 60 ((((A5.drop 2).drop 3).drop 3).drop 1) (Ww q ()) (RT q) (fun a:Empty=>a.elim) zd [⟨[],[],[4,5]⟩] (by kernel_rfl))))))
    (fun x=>by cases x with | r0 E F=>exact ⟨.inr rfl,[.int .i64 E,.int .i64 ((F:Nat):Int)],[],by kernel_rfl,trivial,by kernel_rfl⟩) h
def EY:Option jX→Bool
  | some _=>true
  | none=>false
def Fx:Option jX→Int
  | some (.r0 x _)=>x
  | _=>0
def Fy:Option jX→Nat
  | some (.r0 _ x)=>x
  | _=>0
theorem aii{x:Option jX}(h:EY x=true) :x=some (.r0 (Fx x) (Fy x)):=by
  unfold EY at h
  split at h <;> first | rfl | (cases h;done) | (rename_i y;cases y;rfl)
def aal:aD:=bW ql (.cons (.agg (.cons .bool (.cons (.ns .u64) (.cons (.int .i64) .nil)))) (.cons (.agg (.cons .bool (.cons (.ns .u64) (.cons (.int .i64) .nil)))) .nil)) fun t=>[⟨Qo (.r0 (Fx (qx t.1.1 t.1.2.1.2 t.1.2.2.1 t.2.1.1 t.2.1.2.1.2 t.2.1.2.2.1)) (Fy (qx t.1.1 t.1.2.1.2 t.1.2.2.1 t.2.1.1 t.2.1.2.1.2 t.2.1.2.2.1))),[EY (qx t.1.1 t.1.2.1.2 t.1.2.2.1 t.2.1.1 t.2.1.2.1.2 t.2.1.2.2.1)]⟩]
theorem ab4:aM prog aal:=aG fun t=>(aH (fun h=>aih t.1.1 t.1.2.1.1 t.1.2.1.2 t.1.2.2.1 t.2.1.1 t.2.1.2.1.1 t.2.1.2.1.2 t.2.1.2.2.1 (aii h)) aR)
def aam:List aD:=aal :: Ws
theorem uJ:aX prog (aZ aam):=am ab4 pD
end
end Go.Plb.Seat
namespace Go.Plb.Seat
open Go Go.Plb
set_option linter.unusedVariables false
set_option maxRecDepth 100000
noncomputable section
inductive eu where
  | r0 (a:Nat) (b:Bool) (c:List Int) (d:Nat) (e:Nat) (f:Int)
def xz:eu→AE×aC
  | .r0 a b c d e f=>(.ret,⟨ag 30 [(4,.ptr 0 1 0 0),(5,.int .i64 ((a:Nat):Int))],[(0,.vs [.bool false b,.imm .free (.ns .u64 c) 1 1 d e,.int .i64 f])],1⟩)
theorem Fz:lc xz:=by intro x;cases x <;> (intro h;cases h)
def H8:eu→ju
  | .r0 a b c d e f=>⟨.tup [.agg [.bool false b,.imm .free (.ns .u64 c) 1 1 d e,.int .i64 f],.int .i64 ((a:Nat):Int)],[]⟩
def zU:List Code:=bD (bp lw)
def M9(a:Lv)(b:Int) :Nat×Bool×(List Int)×Nat×Nat×Int×Bool→aC:=fun (c,d,e,f,g,h,i)=>⟨ag 30 [(1,.int .i64 b),(2,.ptr 0 1 0 0),(4,.ptr 1 1 0 0),(6,.int .i64 ((c:Nat):Int))],[(0,.vs [.bool false d,.imm a (.ns .u64 e) 1 1 f g,.int .i64 h]),(1,.vs [.bool false i,.nsl,.int .i64 (0:Int)])],2⟩
def zV(c:Bool)(a:List Int)(b:Int) :T ((Nat×Bool×(List Int)×Nat×Nat×Int×Bool)⊕(eu)) :=
  .ask (decide ((0:Int) < (1:Int)))
    (.need (iE (0:Int) 1)<|.need (aI 0 (List.length a) a)<|.need (kB (d4 (aa 0 (List.length a) a) b))<|.ask (!(iZ (d4 (aa 0 (List.length a) a) b)))
      (.leaf (.inl (2,c,a,0,(List.length a),b,false)))
      (.need (aI 0 (List.length a) a)<|.need (gn (au c (aa 0 (List.length a) a) b))<|.need (dP .i64 (1:Int))<|.ask (decide ((1:Int) < (1:Int)))
        (.fail)
        (.leaf (.inl (0,(dA (au c (aa 0 (List.length a) a) b)),(dB (au c (aa 0 (List.length a) a) b)),(dC (au c (aa 0 (List.length a) a) b)),(dD (au c (aa 0 (List.length a) a) b)),(dE (au c (aa 0 (List.length a) a) b)),false)))))
    (.fail)
def Na(a:Lv)(b:Int)(c:Nat)(d:Bool)(e:List Int)(f:Nat)(g:Nat)(h:Int)(i:Bool)(j:Bool) :aC:=⟨ag 30 [(1,.int .i64 b),(2,.ptr 0 1 0 0),(4,.ptr 1 1 0 0),(6,.int .i64 ((c:Nat):Int)),(16,.bool false j)],[(0,.vs [.bool false d,.imm a (.ns .u64 e) 1 1 f g,.int .i64 h]),(1,.vs [.bool false i,.nsl,.int .i64 (0:Int)])],2⟩
def Nb(a:Nat)(b:Nat) :T ((Bool)⊕(eu)) :=
  .ask (((a:Nat):Int) != (0:Int))
    (.leaf (.inl true))
    (.leaf (.inl (((b:Nat):Int) == (0:Int))))
def Nc:Nat×Bool×(List Int)×Nat×Nat×Int→aC:=fun (a,b,c,d,e,f)=>⟨ag 30 [(4,.ptr 0 1 0 0),(5,.int .i64 ((a:Nat):Int))],[(0,.vs [.bool false b,.imm .free (.ns .u64 c) 1 1 d e,.int .i64 f])],1⟩
def zW(a:Int)(g:Nat)(f:Bool)(b:List Int)(c:Nat)(d:Nat)(e:Int)(h:Bool) :T ((Nat×Bool×(List Int)×Nat×Nat×Int)⊕(eu)) :=
  .ask h
    (.leaf (.inr (.r0 g false ([]:List Int) 0 0 (0:Int))))
    (.need (dP .i64 (e+(na (-1048576:Int) (v9 (1048576:Int) a))))<|.need (aI c d b)<|.need (tD (bS f (aa c d b) (e+(na (-1048576:Int) (v9 (1048576:Int) a)))))<|.leaf (.inl ((sk (bS f (aa c d b) (e+(na (-1048576:Int) (v9 (1048576:Int) a))))),(sm (bS f (aa c d b) (e+(na (-1048576:Int) (v9 (1048576:Int) a))))),(sn (bS f (aa c d b) (e+(na (-1048576:Int) (v9 (1048576:Int) a))))),(so (bS f (aa c d b) (e+(na (-1048576:Int) (v9 (1048576:Int) a))))),(sq (bS f (aa c d b) (e+(na (-1048576:Int) (v9 (1048576:Int) a))))),(su (bS f (aa c d b) (e+(na (-1048576:Int) (v9 (1048576:Int) a))))))))
def Nd(a:Nat)(b:Bool)(c:List Int)(d:Nat)(e:Nat)(f:Int) :T ((Empty)⊕(eu)) :=
  .leaf (.inr (.r0 a b c d e f))
def ew(c:Bool)(d:List Int)(e:Int)(f:Int) :Option eu:=l6 (ax ((zV c d e).run) fun (a,g,h,i,b,j,r) =>
  ax ((Nb a b).run) fun k =>
  ax ((zW f a g h i b j k).run) fun (l,m,n,o,p,q) =>
  (Nd l m n o p q).run)
theorem ab5(g:Bool)(c:Lv)(d:List Int)(i:Int)(b:Int){x:eu}(h:ew g d i b=some x) :ak prog lw [] [.agg [.bool false g,.imm c (.ns .u64 d) 1 1 0 (List.length d),.int .i64 i],.int .i64 b] (H8 x) :=
  Sg.contract true H8 (by kernel_rfl:prog.funcs[lw]? = some (FN lw)) (by kernel_rfl:(FN lw).body=some (bp lw)) (Sg.cut 2 Fz (Sg.seg (C:=C0) ah uJ 60 (zU.take 2) (aL (FN lw) [] [.agg [.bool false g,.imm c (.ns .u64 d) 1 1 0 (List.length d),.int .i64 i],.int .i64 b]) (zV g d i) (M9 c b) xz [⟨[],[0,16],[1,2,4,6]⟩,⟨[(.cell 0 1,.lev c)],[0,16],[1,2,4,6]⟩] (by kernel_rfl)) (fun a=>by obtain ⟨e,j,k,l,f,m,n⟩:=a;exact Sg.cut 1 Fz (Sg.seg (C:=C0) ah uJ 60 ((zU.drop 2).take 1) (M9 c b (e,j,k,l,f,m,n)) (Nb e f) (Na c b e j k l f m n) xz [⟨[],[0,1],[1,2,4,6,16]⟩,⟨[],[0,1],[1,2,4,6,16]⟩] (by kernel_rfl)) (fun o=>by exact Sg.cut 3 Fz (Sg.seg (C:=C0) ah uJ 60 (((zU.drop 2).drop 1).take 3) (Na c b e j k l f m n o) (zW b e j k l f m o) Nc xz [⟨[(.cell 1 1,.fre 1 1 (.ns .u64 ([]:List Int)))],[1],[4,5]⟩,⟨[],[1],[4,5]⟩] (by kernel_rfl)) (fun a=>by obtain ⟨p,q,r,s,t,u⟩:=a;exact Sg.seg (C:=C0) ah uJ 60 (((zU.drop 2).drop 1).drop 3) (Nc (p,q,r,s,t,u)) (Nd p q r s t u) (fun a:Empty=>a.elim) xz [⟨[],[0],[4,5]⟩] (by kernel_rfl)))))
    (fun x=>by cases x with | r0 v w y z A B=>exact ⟨.inr rfl,[.agg [.bool false w,.imm .free (.ns .u64 y) 1 1 z A,.int .i64 B],.int .i64 ((v:Nat):Int)],[],by kernel_rfl,trivial,by kernel_rfl⟩) h
def zX:Option eu→Bool
  | some _=>true
  | none=>false
def Bj:Option eu→Nat
  | some (.r0 x _ _ _ _ _)=>x
  | _=>0
def Bk:Option eu→Bool
  | some (.r0 _ x _ _ _ _)=>x
  | _=>false
def Bl:Option eu→List Int
  | some (.r0 _ _ x _ _ _)=>x
  | _=>[]
def Bm:Option eu→Nat
  | some (.r0 _ _ _ x _ _)=>x
  | _=>0
def Bn:Option eu→Nat
  | some (.r0 _ _ _ _ x _)=>x
  | _=>0
def Bo:Option eu→Int
  | some (.r0 _ _ _ _ _ x)=>x
  | _=>0
theorem ab6{x:Option eu}(h:zX x=true) :x=some (.r0 (Bj x) (Bk x) (Bl x) (Bm x) (Bn x) (Bo x)):=by
  unfold zX at h
  split at h <;> first | rfl | (cases h;done) | (rename_i y;cases y;rfl)
def RU:aD:=bW lw (.cons (.agg (.cons .bool (.cons (.ns .u64) (.cons (.int .i64) .nil)))) (.cons (.int .i64) .nil)) fun t=>[⟨H8 (.r0 (Bj (ew t.1.1 t.1.2.1.2 t.1.2.2.1 t.2.1)) (Bk (ew t.1.1 t.1.2.1.2 t.1.2.2.1 t.2.1)) (Bl (ew t.1.1 t.1.2.1.2 t.1.2.2.1 t.2.1)) (Bm (ew t.1.1 t.1.2.1.2 t.1.2.2.1 t.2.1)) (Bn (ew t.1.1 t.1.2.1.2 t.1.2.2.1 t.2.1)) (Bo (ew t.1.1 t.1.2.1.2 t.1.2.2.1 t.2.1))),[zX (ew t.1.1 t.1.2.1.2 t.1.2.2.1 t.2.1)]⟩]
theorem XE:aM prog RU:=aG fun t=>(aH (fun h=>ab5 t.1.1 t.1.2.1.1 t.1.2.1.2 t.1.2.2.1 t.2.1 (ab6 h)) aR)
def RV:List aD:=RU :: aam
theorem vD:aX prog (aZ RV):=am XE uJ
inductive fq where
  | r0 (a:Bool) (b:List Int) (c:Nat) (d:Nat) (e:Int)
def Cn:fq→AE×aC
  | .r0 a b c d e=>(.ret,⟨ag 16 [(2,.ptr 0 1 0 0)],[(0,.vs [.bool false a,.imm .free (.ns .u64 b) 1 1 c d,.int .i64 e])],1⟩)
theorem Ne:lc Cn:=by intro x;cases x <;> (intro h;cases h)
def H9:fq→ju
  | .r0 a b c d e=>⟨.agg [.bool false a,.imm .free (.ns .u64 b) 1 1 c d,.int .i64 e],[]⟩
def FB:List Code:=bD (bp lq)
def Nf(a:Int) :Int×Bool→aC:=fun (b,c)=>⟨ag 16 [(0,.int .i64 a),(2,.ptr 0 1 0 0),(3,.int .u64 b)],[(0,.vs [.bool false c,.nsl,.int .i64 (0:Int)])],1⟩
def FC(a:Int) :T ((Int×Bool)⊕(fq)) :=
  .ask (decide (a < (0:Int)))
    (.leaf (.inl ((IntKind.u64.wrap ((0:Int) - (IntKind.u64.wrap a))),false)))
    (.leaf (.inl ((IntKind.u64.wrap a),false)))
def Ng:Bool×(List Int)×Nat×Nat×Int→aC:=fun (a,b,c,d,e)=>⟨ag 16 [(2,.ptr 0 1 0 0)],[(0,.vs [.bool false a,.imm .free (.ns .u64 b) 1 1 c d,.int .i64 e])],1⟩
def zY(b:Int)(a:Int) :T ((Bool×(List Int)×Nat×Nat×Int)⊕(fq)) :=
  .need (yT (bM a))<|.need (aI (ej (bM a)) (em (bM a)) (er (bM a)))<|.need (gn (au (decide (b < (0:Int))) (aa (ej (bM a)) (em (bM a)) (er (bM a))) (0:Int)))<|.leaf (.inl ((dA (au (decide (b < (0:Int))) (aa (ej (bM a)) (em (bM a)) (er (bM a))) (0:Int))),(dB (au (decide (b < (0:Int))) (aa (ej (bM a)) (em (bM a)) (er (bM a))) (0:Int))),(dC (au (decide (b < (0:Int))) (aa (ej (bM a)) (em (bM a)) (er (bM a))) (0:Int))),(dD (au (decide (b < (0:Int))) (aa (ej (bM a)) (em (bM a)) (er (bM a))) (0:Int))),(dE (au (decide (b < (0:Int))) (aa (ej (bM a)) (em (bM a)) (er (bM a))) (0:Int)))))
def Nh(a:Bool)(b:List Int)(c:Nat)(d:Nat)(e:Int) :T ((Empty)⊕(fq)) :=
  .leaf (.inr (.r0 a b c d e))
def ba(a:Int) :Option fq:=l6 (ax ((FC a).run) fun (b,h) =>
  ax ((zY a b).run) fun (c,d,e,f,g) =>
  (Nh c d e f g).run)
theorem ab7(b:Int){x:fq}(h:ba b=some x) :ak prog lq [] [.int .i64 b] (H9 x) :=
  Sg.contract true H9 (by kernel_rfl:prog.funcs[lq]? = some (FN lq)) (by kernel_rfl:(FN lq).body=some (bp lq)) (Sg.cut 4 Ne (Sg.seg (C:=C0) ah vD 60 (FB.take 4) (aL (FN lq) [] [.int .i64 b]) (FC b) (Nf b) Cn [⟨[],[0],[0,2,3]⟩,⟨[],[0],[0,2,3]⟩] (by kernel_rfl)) (fun a=>by obtain ⟨c,j⟩:=a;exact Sg.cut 1 Ne (Sg.seg (C:=C0) ah vD 60 ((FB.drop 4).take 1) (Nf b (c,j)) (zY b c) Ng Cn [⟨[],[0],[2]⟩] (by kernel_rfl)) (fun a=>by obtain ⟨d,e,f,g,i⟩:=a;exact Sg.seg (C:=C0) ah vD 60 ((FB.drop 4).drop 1) (Ng (d,e,f,g,i)) (Nh d e f g i) (fun a:Empty=>a.elim) Cn [⟨[],[0],[2]⟩] (by kernel_rfl))))
    (fun x=>by cases x with | r0 k l m n o=>exact ⟨.inr rfl,[.agg [.bool false k,.imm .free (.ns .u64 l) 1 1 m n,.int .i64 o]],[],by kernel_rfl,trivial,by kernel_rfl⟩) h
def o8:Option fq→Bool
  | some _=>true
  | none=>false
def jy:Option fq→Bool
  | some (.r0 x _ _ _ _)=>x
  | _=>false
def il:Option fq→List Int
  | some (.r0 _ x _ _ _)=>x
  | _=>[]
def im:Option fq→Nat
  | some (.r0 _ _ x _ _)=>x
  | _=>0
def io:Option fq→Nat
  | some (.r0 _ _ _ x _)=>x
  | _=>0
def jz:Option fq→Int
  | some (.r0 _ _ _ _ x)=>x
  | _=>0
theorem ab8{x:Option fq}(h:o8 x=true) :x=some (.r0 (jy x) (il x) (im x) (io x) (jz x)):=by
  unfold o8 at h
  split at h <;> first | rfl | (cases h;done) | (rename_i y;cases y;rfl)
def RW:aD:=bW lq (.cons (.int .i64) .nil) fun t=>[⟨H9 (.r0 (jy (ba t.1)) (il (ba t.1)) (im (ba t.1)) (io (ba t.1)) (jz (ba t.1))),[o8 (ba t.1)]⟩]
theorem XF:aM prog RW:=aG fun t=>(aH (fun h=>ab7 t.1 (ab8 h)) aR)
def RX:List aD:=RW :: RV
theorem Bp:aX prog (aZ RX):=am XF vD
inductive lL where
  | r0 (a:Nat)
def Ia:lL→AE×aC
  | .r0 a=>(.ret,⟨ag 26 [(2,.int .i64 ((a:Nat):Int))],[],0⟩)
theorem ab9:lc Ia:=by intro x;cases x <;> (intro h;cases h)
def Ib:lL→ju
  | .r0 a=>⟨.int .i64 ((a:Nat):Int),[]⟩
def Ni:List Code:=bD (bp oj)
def Nj(_:Unit) :aC:=⟨ag 26 [],[],0⟩
def uK(a : Int) : T ((Unit) ⊕ (lL)) :=
  .need (decide ((0:Int)≤(52:Int)))<|.ask ((gE .and .u64 (Int.fdiv a (2 ^ (min (Int.toNat (52:Int)) (IntKind.u64.bits)))) (2047:Int)) == (2047:Int))
    (.ask ((gE .and .u64 a (4503599627370495:Int)) != (0:Int))
      (.leaf (.inr (.r0 5)))
      (.ask ((gE .and .u64 (Int.fdiv a (2 ^ (min (Int.toNat (52:Int)) (IntKind.u64.bits)))) (2047:Int)) == (2047:Int))
        (.leaf (.inr (.r0 4)))
        (.ask ((gE .and .u64 (Int.fdiv a (2 ^ (min (Int.toNat (52:Int)) (IntKind.u64.bits)))) (2047:Int)) != (0:Int))
          (.leaf (.inr (.r0 3)))
          (.ask ((gE .and .u64 a (4503599627370495:Int)) != (0:Int))
            (.leaf (.inr (.r0 2)))
            (.leaf (.inl ()))))))
    (.ask ((gE .and .u64 (Int.fdiv a (2 ^ (min (Int.toNat (52:Int)) (IntKind.u64.bits)))) (2047:Int)) == (2047:Int))
      (.leaf (.inr (.r0 4)))
      (.ask ((gE .and .u64 (Int.fdiv a (2 ^ (min (Int.toNat (52:Int)) (IntKind.u64.bits)))) (2047:Int)) != (0:Int))
        (.leaf (.inr (.r0 3)))
        (.ask ((gE .and .u64 a (4503599627370495:Int)) != (0:Int))
          (.leaf (.inr (.r0 2)))
          (.leaf (.inl ())))))
def Nk:T ((Empty)⊕(lL)) :=
  .leaf (.inr (.r0 1))
def tF(a:Int) :Option lL:=l6 (ax ((uK a).run) fun _ =>
  (Nk).run)
theorem aca(b:Int){x:lL}(h:tF b=some x) :ak prog oj [] [.int .u64 b] (Ib x) :=
  Sg.contract false Ib (by kernel_rfl:prog.funcs[oj]? = some (FN oj)) (by kernel_rfl:(FN oj).body=some (bp oj)) (Sg.cut 3 ab9 (Sg.seg (C:=C0) ah Bp 60 (Ni.take 3) (aL (FN oj) [] [.int .u64 b]) (uK b) Nj Ia [⟨[],[],[2]⟩,⟨[],[],[2]⟩,⟨[],[],[2]⟩,⟨[],[],[2]⟩,⟨[],[],[]⟩,⟨[],[],[2]⟩,⟨[],[],[2]⟩,⟨[],[],[2]⟩,⟨[],[],[]⟩] (by kernel_rfl)) (fun a=>by cases a;exact Sg.seg (C:=C0) ah Bp 60 (Ni.drop 3) (Nj ()) (Nk) (fun a:Empty=>a.elim) Ia [⟨[],[],[2]⟩] (by kernel_rfl)))
    (fun x=>by cases x with | r0 c=>exact ⟨.inr rfl,[.int .i64 ((c:Nat):Int)],[],by kernel_rfl,trivial,by kernel_rfl⟩) h
def zZ:Option lL→Bool
  | some _=>true
  | none=>false
def Bq:Option lL→Nat
  | some (.r0 x)=>x
  | _=>0
theorem acb{x:Option lL}(h:zZ x=true) :x=some (.r0 (Bq x)):=by
  unfold zZ at h
  split at h <;> first | rfl | (cases h;done) | (rename_i y;cases y;rfl)
def RY:aD:=bW oj (.cons (.int .u64) .nil) fun t=>[⟨Ib (.r0 (Bq (tF t.1))),[zZ (tF t.1)]⟩]
theorem XG:aM prog RY:=aG fun t=>(aH (fun h=>aca t.1 (acb h)) aR)
def RZ:List aD:=RY :: RX
theorem Br:aX prog (aZ RZ):=am XG Bp
inductive ip where
  | r0 (a:Nat) (b:Bool) (c:Int) (d:Int)
def Ic:ip→AE×aC
  | .r0 a b c d=>(.ret,⟨ag 36 [(2,.ptr 0 1 0 0),(3,.int .i64 ((a:Nat):Int))],[(0,.vs [.bool false b,.int .u64 c,.int .i64 d])],1⟩)
theorem acd:lc Ic:=by intro x;cases x <;> (intro h;cases h)
def Id:ip→ju
  | .r0 a b c d=>⟨.tup [.agg [.bool false b,.int .u64 c,.int .i64 d],.int .i64 ((a:Nat):Int)],[]⟩
def Nl:List Code:=bD (bp n7)
def Nm(a:Int) :Nat×Bool×Bool×Int→aC:=fun (b,c,d,e)=>⟨ag 36 [(0,.int .u64 a),(2,.ptr 0 1 0 0),(4,.ptr 1 1 0 0),(12,.int .i64 ((b:Nat):Int))],[(0,.vs [.bool false c,.int .u64 (0:Int),.int .i64 (0:Int)]),(1,.vs [.bool false d,.int .u64 e,.int .i64 (-1074:Int)])],2⟩
def FD(a:Int) :T ((Nat×Bool×Bool×Int)⊕(ip)) :=
  .need (decide ((0:Int)≤(63:Int)))<|.need (zZ (tF a))<|.leaf (.inl ((Bq (tF a)),false,((Int.fdiv a (2 ^ (min (Int.toNat (63:Int)) (IntKind.u64.bits)))) == (1:Int)),(gE .and .u64 a (4503599627370495:Int))))
def z4(a:Int)(b:Nat)(c:Bool)(d:Int) :T ((Empty)⊕(ip)) :=
  .ask (((b:Nat):Int) == (3:Int))
    (.need (decide ((0:Int)≤(52:Int)))<|.need (dP .i64 ((IntKind.i64.wrap (gE .and .u64 (Int.fdiv a (2 ^ (min (Int.toNat (52:Int)) (IntKind.u64.bits)))) (2047:Int))) - (1:Int)))<|.need (dP .i64 ((-1074:Int)+((IntKind.i64.wrap (gE .and .u64 (Int.fdiv a (2 ^ (min (Int.toNat (52:Int)) (IntKind.u64.bits)))) (2047:Int))) - (1:Int))))<|.leaf (.inr (.r0 0 c (gE .or .u64 d (4503599627370496:Int)) ((-1074:Int)+((IntKind.i64.wrap (gE .and .u64 (Int.fdiv a (2 ^ (min (Int.toNat (52:Int)) (IntKind.u64.bits)))) (2047:Int))) - (1:Int))))))
    (.ask (((b:Nat):Int) == (2:Int))
      (.leaf (.inr (.r0 0 c d (-1074:Int))))
      (.ask (((b:Nat):Int) == (1:Int))
        (.leaf (.inr (.r0 0 c d (0:Int))))
        (.leaf (.inr (.r0 2 false (0:Int) (0:Int))))))
def dS(a:Int) :Option ip:=l6 (ax ((FD a).run) fun (b,e,c,d) =>
  (z4 a b c d).run)
theorem ace(b:Int){x:ip}(h:dS b=some x) :ak prog n7 [] [.int .u64 b] (Id x) :=
  Sg.contract false Id (by kernel_rfl:prog.funcs[n7]? = some (FN n7)) (by kernel_rfl:(FN n7).body=some (bp n7)) (Sg.cut 3 acd (Sg.seg (C:=C0) ah Br 60 (Nl.take 3) (aL (FN n7) [] [.int .u64 b]) (FD b) (Nm b) Ic [⟨[],[0,128],[0,2,4,12]⟩] (by kernel_rfl)) (fun a=>by obtain ⟨c,f,d,e⟩:=a;exact Sg.seg (C:=C0) ah Br 60 (Nl.drop 3) (Nm b (c,f,d,e)) (z4 b c d e) (fun a:Empty=>a.elim) Ic [⟨[],[0],[2,3]⟩,⟨[],[0],[2,3]⟩,⟨[],[0],[2,3]⟩,⟨[],[0],[2,3]⟩] (by kernel_rfl)))
    (fun x=>by cases x with | r0 g i j k=>exact ⟨.inr rfl,[.agg [.bool false i,.int .u64 j,.int .i64 k],.int .i64 ((g:Nat):Int)],[],by kernel_rfl,trivial,by kernel_rfl⟩) h
def uL:Option ip→Bool
  | some _=>true
  | none=>false
def vE:Option ip→Nat
  | some (.r0 x _ _ _)=>x
  | _=>0
def vF:Option ip→Bool
  | some (.r0 _ x _ _)=>x
  | _=>false
def vG:Option ip→Int
  | some (.r0 _ _ x _)=>x
  | _=>0
def vH:Option ip→Int
  | some (.r0 _ _ _ x)=>x
  | _=>0
theorem acf{x:Option ip}(h:uL x=true) :x=some (.r0 (vE x) (vF x) (vG x) (vH x)):=by
  unfold uL at h
  split at h <;> first | rfl | (cases h;done) | (rename_i y;cases y;rfl)
def R0:aD:=bW n7 (.cons (.int .u64) .nil) fun t=>[⟨Id (.r0 (vE (dS t.1)) (vF (dS t.1)) (vG (dS t.1)) (vH (dS t.1))),[uL (dS t.1)]⟩]
theorem XH:aM prog R0:=aG fun t=>(aH (fun h=>ace t.1 (acf h)) aR)
def R1:List aD:=R0 :: RZ
theorem vI:aX prog (aZ R1):=am XH Br
inductive jY where
  | r0 (a:Nat) (b:Bool) (c:List Int) (d:Nat) (e:Nat) (f:Int)
def Mu:jY→AE×aC
  | .r0 a b c d e f=>(.ret,⟨ag 25 [(2,.ptr 0 1 0 0),(3,.int .i64 ((a:Nat):Int))],[(0,.vs [.bool false b,.imm .free (.ns .u64 c) 1 1 d e,.int .i64 f])],1⟩)
theorem aan:lc Mu:=by intro x;cases x <;> (intro h;cases h)
def UM:jY→ju
  | .r0 a b c d e f=>⟨.tup [.agg [.bool false b,.imm .free (.ns .u64 c) 1 1 d e,.int .i64 f],.int .i64 ((a:Nat):Int)],[]⟩
def Qp:List Code:=bD (bp s8)
def aao:Nat×Bool×Bool×Int×Int→aC:=fun (a,b,c,d,e)=>⟨ag 25 [(2,.ptr 0 1 0 0),(4,.ptr 1 1 0 0),(5,.int .i64 ((a:Nat):Int))],[(0,.vs [.bool false b,.nsl,.int .i64 (0:Int)]),(1,.vs [.bool false c,.int .u64 d,.int .i64 e])],2⟩
def Qq(a:Nat) :T ((Nat×Bool×Bool×Int×Int)⊕(jY)) :=
  .ask (fne a a)
    (.need (uL (dS (9221120237041090560:Int)))<|.leaf (.inl ((vE (dS (9221120237041090560:Int))),false,(vF (dS (9221120237041090560:Int))),(vG (dS (9221120237041090560:Int))),(vH (dS (9221120237041090560:Int))))))
    (.alt 0
      (.need (!isNaN a)<|.need (uL (dS ((a:Nat):Int)))<|.leaf (.inl ((vE (dS ((a:Nat):Int))),false,(vF (dS ((a:Nat):Int))),(vG (dS ((a:Nat):Int))),(vH (dS ((a:Nat):Int))))))
      (.fail))
def aap:Bool×(List Int)×Nat×Nat×Int→aC:=fun (a,b,c,d,e)=>⟨ag 25 [(2,.ptr 0 1 0 0),(3,.int .i64 (0:Int))],[(0,.vs [.bool false a,.imm .free (.ns .u64 b) 1 1 c d,.int .i64 e])],1⟩
def Ie(d:Nat)(b:Bool)(a:Int)(c:Int) :T ((Bool×(List Int)×Nat×Nat×Int)⊕(jY)) :=
  .ask (((d:Nat):Int) != (0:Int))
    (.leaf (.inr (.r0 d false ([]:List Int) 0 0 (0:Int))))
    (.need (yT (bM a))<|.need (aI (ej (bM a)) (em (bM a)) (er (bM a)))<|.need (gn (au b (aa (ej (bM a)) (em (bM a)) (er (bM a))) c))<|.leaf (.inl ((dA (au b (aa (ej (bM a)) (em (bM a)) (er (bM a))) c)),(dB (au b (aa (ej (bM a)) (em (bM a)) (er (bM a))) c)),(dC (au b (aa (ej (bM a)) (em (bM a)) (er (bM a))) c)),(dD (au b (aa (ej (bM a)) (em (bM a)) (er (bM a))) c)),(dE (au b (aa (ej (bM a)) (em (bM a)) (er (bM a))) c)))))
def aaq(a:Bool)(b:List Int)(c:Nat)(d:Nat)(e:Int) :T ((Empty)⊕(jY)) :=
  .leaf (.inr (.r0 0 a b c d e))
def gV(a:Nat) :Option jY:=l6 (ax ((Qq a).run) fun (b,k,c,d,e) =>
  ax ((Ie b c d e).run) fun (f,g,h,i,j) =>
  (aaq f g h i j).run)
theorem akg(b:Nat){x:jY}(h:gV b=some x) :ak prog s8 [] [.flt false b] (UM x) :=
  Sg.contract true UM (by kernel_rfl:prog.funcs[s8]? = some (FN s8)) (by kernel_rfl:(FN s8).body=some (bp s8)) (Sg.cut 2 aan (Sg.seg (C:=C0) ah vI 60 (Qp.take 2) (aL (FN s8) [] [.flt false b]) (Qq b) aao Mu [⟨[],[0,128],[2,4,5]⟩,⟨[],[0,128],[2,4,5]⟩] (by kernel_rfl)) (fun a=>by obtain ⟨c,m,d,e,f⟩:=a;exact Sg.cut 3 aan (Sg.seg (C:=C0) ah vI 60 ((Qp.drop 2).take 3) (aao (c,m,d,e,f)) (Ie c d e f) aap Mu [⟨[(.cell 0 1,.fre 1 1 (.ns .u64 ([]:List Int)))],[0],[2,3]⟩,⟨[],[0],[2,3]⟩] (by kernel_rfl)) (fun a=>by obtain ⟨g,i,j,k,l⟩:=a;exact Sg.seg (C:=C0) ah vI 60 ((Qp.drop 2).drop 3) (aap (g,i,j,k,l)) (aaq g i j k l) (fun a:Empty=>a.elim) Mu [⟨[],[0],[2,3]⟩] (by kernel_rfl))))
    (fun x=>by cases x with | r0 n o p q r s=>exact ⟨.inr rfl,[.agg [.bool false o,.imm .free (.ns .u64 p) 1 1 q r,.int .i64 s],.int .i64 ((n:Nat):Int)],[],by kernel_rfl,trivial,by kernel_rfl⟩) h
def Du:Option jY→Bool
  | some _=>true
  | none=>false
def R2:Option jY→Nat
  | some (.r0 x _ _ _ _ _)=>x
  | _=>0
def Co:Option jY→Bool
  | some (.r0 _ x _ _ _ _)=>x
  | _=>false
def xA:Option jY→List Int
  | some (.r0 _ _ x _ _ _)=>x
  | _=>[]
def xB:Option jY→Nat
  | some (.r0 _ _ _ x _ _)=>x
  | _=>0
def xC:Option jY→Nat
  | some (.r0 _ _ _ _ x _)=>x
  | _=>0
def Cp:Option jY→Int
  | some (.r0 _ _ _ _ _ x)=>x
  | _=>0
theorem akh{x:Option jY}(h:Du x=true) :x=some (.r0 (R2 x) (Co x) (xA x) (xB x) (xC x) (Cp x)):=by
  unfold Du at h
  split at h <;> first | rfl | (cases h;done) | (rename_i y;cases y;rfl)
def aef:aD:=bW s8 (.cons (.flt false) .nil) fun t=>[⟨UM (.r0 (R2 (gV t.1)) (Co (gV t.1)) (xA (gV t.1)) (xB (gV t.1)) (xC (gV t.1)) (Cp (gV t.1))),[Du (gV t.1)]⟩]
theorem afB:aM prog aef:=aG fun t=>(aH (fun h=>akg t.1 (akh h)) aR)
def aeg:List aD:=aef :: R1
theorem xD:aX prog (aZ aeg):=am afB vI
inductive gp where
  | r0 (a:Nat) (b:List Int)
def qy:gp→AE×aC
  | .r0 a b=>(.ret,⟨ag 22 [(2,.sl 0 1 1 0 a a)],[(0,.ns .u64 b)],1⟩)
theorem z5:lc qy:=by intro x;cases x <;> (intro h;cases h)
theorem acg(id:Nat) :qp id qy:=by intro x;cases x <;> (intro h;cases h)
def If:gp→ju
  | .r0 a b=>⟨.imm .free (.ns .u64 b) 1 1 0 a,[]⟩
def sA:List Code:=bD (bp lC)
def Nn(b:Lv)(a:List Int)(_:Unit) :aC:=⟨ag 22 [(0,.imm b (.ns .u64 a) 1 1 0 (List.length a)),(3,.int .i64 (((List.length a):Nat):Int))],[],0⟩
def Kv:T ((Unit)⊕(gp)) :=
  .leaf (.inl ())
def ry(b:Lv)(a:List Int)(c:Int) :aC:=⟨ag 22 [(0,.imm b (.ns .u64 a) 1 1 0 (List.length a)),(3,.int .i64 c)],[],0⟩
def uM(b:Lv)(a:List Int)(c:Int) :aC:=⟨ag 22 [(0,.imm b (.ns .u64 a) 1 1 0 (List.length a)),(3,.int .i64 c)],[],0⟩
def Dv:List Code:=bD (bE ((((sA.drop 2).take 1)).headD .skip))
def No(b:Lv)(a:List Int)(c:Int)(d:Bool) :aC:=⟨ag 22 [(0,.imm b (.ns .u64 a) 1 1 0 (List.length a)),(3,.int .i64 c),(15,.bool false d)],[],0⟩
def pE(b:List Int)(a:Int) :T ((Bool)⊕((Int)⊕(gp))) :=
  .ask (decide (a > (0:Int)))
    (.need (dP .i64 (a - (1:Int)))<|.need (iE (a - (1:Int)) (List.length b))<|.need (iX (Int.toNat (a - (1:Int))) (List.length b))<|.leaf (.inl ((List.getD b (Int.toNat (a - (1:Int))) 0) == (0:Int))))
    (.leaf (.inl false))
def Dw(a:Int)(b:Bool) :T ((Int)⊕((Int)⊕(gp))) :=
  .ask b
    (.need (dP .i64 (a - (1:Int)))<|.leaf (.inl (a - (1:Int))))
    (.leaf (.inr (.inl a)))
def Dx(b:List Int) :Int→Option ((Int)⊕((Int)⊕(gp))):=fun a =>
  ax ((pE b a).run) fun c =>
  (Dw a c).run
theorem aar(b:Lv)(a:List Int)(c:Int) :Sg prog [] Dv (ry b a c) (Dx a c) (ry b a) (aO 0 (uM b a) qy):=by
  unfold Dx;exact Sg.cut 1 (aW z5) (Sg.seg (C:=C0) ah xD 60 (Dv.take 1) (ry b a c) (pE a c) (No b a c) (aO 0 (uM b a) qy) [⟨[],[],[0,3,15]⟩,⟨[],[],[0,3,15]⟩] (by kernel_rfl)) (fun d=>by exact Sg.seg (C:=C0) ah xD 60 (Dv.drop 1) (No b a c d) (Dw c d) (ry b a) (aO 0 (uM b a) qy) [⟨[],[],[0,3]⟩,⟨[],[],[0,3]⟩] (by kernel_rfl))
def ach(a:Lv)(b:List Int) :Int→aC:=uM a b
def Dy(b:List Int)(a:Int) :T ((Empty)⊕(gp)) :=
  .need (MI a (List.length b))<|.need (MI (0:Int) (Int.toNat a))<|.need (r6 ((Int.toNat a) * 8) 140737488355328)<|.need (r6 (Int.toNat a) 9223372036854775807)<|.need (r6 (Int.toNat a) (List.length b))<|.leaf (.inr (.r0 (Int.toNat a) (List.take (Int.toNat a) b)))
def cA(a:List Int) :Option gp:=l6 (ax ((Kv).run) fun _ =>
  ax (dH (Dx a) (((List.length a):Nat):Int)) fun b =>
  (Dy a b).run)
theorem aci(c:Lv)(b:List Int){x:gp}(h:cA b=some x) :ak prog lC [] [.imm c (.ns .u64 b) 1 1 0 (List.length b)] (If x) :=
  Sg.contract true If (by kernel_rfl:prog.funcs[lC]? = some (FN lC)) (by kernel_rfl:(FN lC).body=some (bp lC)) (Sg.cut 2 z5 (Sg.seg (C:=C0) ah xD 60 (sA.take 2) (aL (FN lC) [] [.imm c (.ns .u64 b) 1 1 0 (List.length b)]) (Kv) (Nn c b) qy [⟨[],[],[0,3]⟩] (by kernel_rfl)) (fun a=>by cases a;exact Sg.cut 1 z5 (Sg.pre ⟨[],[],[0,3]⟩ rfl (by kernel_rfl:NS.on ⟨[],[],[0,3]⟩ (Nn c b ())=(ry c b) (((List.length b):Nat):Int)) (bT (I:=(ry c b)) (J:=(uM c b)) (id:=0) (by kernel_rfl:((sA.drop 2).take 1) = [.block 0 (.loop (bE ((((sA.drop 2).take 1)).headD .skip)))]) z5 (acg _) (fun s=>by exact aar c b s) (((List.length b):Nat):Int))) (fun d=>by exact Sg.seg (C:=C0) ah xD 60 ((sA.drop 2).drop 1) (ach c b d) (Dy b d) (fun a:Empty=>a.elim) qy [⟨[],[48],[2]⟩] (by kernel_rfl))))
    (fun x=>by cases x with | r0 e f=>exact ⟨.inr rfl,[.sl 0 1 1 0 e e],[],by kernel_rfl,trivial,by kernel_rfl⟩) h
def kp:Option gp→Bool
  | some _=>true
  | none=>false
def jA:Option gp→Nat
  | some (.r0 x _)=>x
  | _=>0
def jB:Option gp→List Int
  | some (.r0 _ x)=>x
  | _=>[]
theorem acj{x:Option gp}(h:kp x=true) :x=some (.r0 (jA x) (jB x)):=by
  unfold kp at h
  split at h <;> first | rfl | (cases h;done) | (rename_i y;cases y;rfl)
def R3:aD:=bW lC (.cons (.ns .u64) .nil) fun t=>[⟨If (.r0 (jA (cA t.1.2)) (jB (cA t.1.2))),[kp (cA t.1.2)]⟩]
theorem XI:aM prog R3:=aG fun t=>(aH (fun h=>aci t.1.1 t.1.2 (acj h)) aR)
def R4:List aD:=R3 :: aeg
theorem vJ:aX prog (aZ R4):=am XI xD
inductive iI where
  | r0 (a:Nat) (b:Nat) (c:List Int)
def wK:iI→AE×aC
  | .r0 a b c=>(.ret,⟨ag 25 [(2,.sl 0 1 1 0 a b)],[(0,.ns .u64 c)],1⟩)
theorem Ig:lc wK:=by intro x;cases x <;> (intro h;cases h)
theorem afC(id:Nat) :qp id wK:=by intro x;cases x <;> (intro h;cases h)
def Kw:iI→ju
  | .r0 a c b=>⟨.imm .free (.ns .u64 b) 1 1 0 a,[]⟩
def xE:List Code:=bD (bp om)
def R5(b:Lv)(a:List Int)(_:Unit) :aC:=⟨ag 25 [(0,.imm b (.ns .u64 a) 1 1 0 (List.length a)),(3,.nsl),(4,.int .i64 (0:Int))],[],0⟩
def R6:T ((Unit)⊕(iI)) :=
  .leaf (.inl ())
def tH(b:Lv)(a:List Int) :Nat×Nat×Nat×(List Int)→aC:=fun (c,d,e,f)=>⟨ag 25 [(0,.imm b (.ns .u64 a) 1 1 0 (List.length a)),(3,.sl 0 1 1 0 c d),(4,.int .i64 ((e:Nat):Int))],[(0,.ns .u64 f)],1⟩
def Cq:Nat×Nat×(List Int)→aC:=fun (a,b,c)=>⟨ag 25 [(3,.sl 0 1 1 0 a b)],[(0,.ns .u64 c)],1⟩
def R7:List Code:=bD (bE ((((xE.drop 3).take 1)).headD .skip))
def uN(b:List Int)(c:Nat)(e:Nat)(a:Nat)(d:List Int) :T ((Nat×Nat×Nat×(List Int))⊕((Nat×Nat×(List Int))⊕(iI))) :=
  .ask (decide (((a:Nat):Int) < (((List.length b):Nat):Int)))
    (.need (iE ((a:Nat):Int) (List.length b))<|.need (iX a (List.length b))<|.need ((4294967296:Int) != (0:Int))<|.need (iE ((a:Nat):Int) (List.length b))<|.need (iX a (List.length b))<|.need ((4294967296:Int) != (0:Int))<|.need (r6 ((c+2) * 8) 140737488355328)<|.need (r6 (c+2) 9223372036854775807)<|.need (r6 2 (List.length [(Int.tmod (List.getD b a 0) (4294967296:Int)),(IntKind.u64.wrap (Int.tdiv (List.getD b a 0) (4294967296:Int)))]))<|.need (r6 c (List.length d))<|.need (dP .i64 (((a+1):Nat):Int))<|.leaf (.inl ((c+2),(c+2),(a+1),((List.take c d) ++ (List.take 2 [(Int.tmod (List.getD b a 0) (4294967296:Int)),(IntKind.u64.wrap (Int.tdiv (List.getD b a 0) (4294967296:Int)))])))))
    (.leaf (.inr (.inl (c,e,d))))
def FE(a:List Int) :Nat×Nat×Nat×(List Int)→Option ((Nat×Nat×Nat×(List Int))⊕((Nat×Nat×(List Int))⊕(iI))):=fun (b,c,d,e) =>
  (uN a b c d e).run
theorem ack(b:Lv)(a:List Int)(c:Nat)(d:Nat)(e:Nat)(f:List Int) :Sg prog [] R7 (tH b a (c,d,e,f)) (FE a (c,d,e,f)) (tH b a) (aO 0 Cq wK):=by
  unfold FE;exact Sg.seg (C:=C0) ah vJ 60 R7 (tH b a (c,d,e,f)) (uN a c d e f) (tH b a) (aO 0 Cq wK) [⟨[],[257],[0,3,4]⟩,⟨[],[0],[3]⟩] (by kernel_rfl)
def afD:Nat×Nat×(List Int)→aC:=Cq
def Np(a:Nat)(b:Nat)(c:List Int) :T ((Empty)⊕(iI)) :=
  .leaf (.inr (.r0 a b c))
def cP(a:List Int) :Option iI:=l6 (ax ((R6).run) fun _ =>
  ax (dH (FE a) (0,0,0,([]:List Int))) fun (b,c,d) =>
  (Np b c d).run)
theorem afE(c:Lv)(b:List Int){x:iI}(h:cP b=some x) :ak prog om [] [.imm c (.ns .u64 b) 1 1 0 (List.length b)] (Kw x) :=
  Sg.contract true Kw (by kernel_rfl:prog.funcs[om]? = some (FN om)) (by kernel_rfl:(FN om).body=some (bp om)) (Sg.cut 3 Ig (Sg.seg (C:=C0) ah vJ 60 (xE.take 3) (aL (FN om) [] [.imm c (.ns .u64 b) 1 1 0 (List.length b)]) (R6) (R5 c b) wK [⟨[],[],[0,3,4]⟩] (by kernel_rfl)) (fun a=>by cases a;exact Sg.cut 1 Ig (Sg.pre ⟨[(.slot 3,.own 1 1 (.ns .u64 ([]:List Int)))],[0],[0,3,4]⟩ rfl (by kernel_rfl:NS.on ⟨[(.slot 3,.own 1 1 (.ns .u64 ([]:List Int)))],[0],[0,3,4]⟩ (R5 c b ())=(tH c b) (0,0,0,([]:List Int))) (bT (I:=(tH c b)) (J:=(Cq)) (id:=0) (by kernel_rfl:((xE.drop 3).take 1) = [.block 0 (.loop (bE ((((xE.drop 3).take 1)).headD .skip)))]) Ig (afC _) (fun s=>by obtain ⟨g,i,j,k⟩:=s;exact ack c b g i j k) (0,0,0,([]:List Int)))) (fun a=>by obtain ⟨d,e,f⟩:=a;exact Sg.seg (C:=C0) ah vJ 60 ((xE.drop 3).drop 1) (afD (d,e,f)) (Np d e f) (fun a:Empty=>a.elim) wK [⟨[],[0],[2]⟩] (by kernel_rfl))))
    (fun x=>by cases x with | r0 l m n=>exact ⟨.inr rfl,[.sl 0 1 1 0 l m],[],by kernel_rfl,trivial,by kernel_rfl⟩) h
def lM:Option iI→Bool
  | some _=>true
  | none=>false
def kC:Option iI→Nat
  | some (.r0 x _ _)=>x
  | _=>0
def Kx:Option iI→Nat
  | some (.r0 _ x _)=>x
  | _=>0
def kD:Option iI→List Int
  | some (.r0 _ _ x)=>x
  | _=>[]
theorem afF{x:Option iI}(h:lM x=true) :x=some (.r0 (kC x) (Kx x) (kD x)):=by
  unfold lM at h
  split at h <;> first | rfl | (cases h;done) | (rename_i y;cases y;rfl)
def Wx:aD:=bW om (.cons (.ns .u64) .nil) fun t=>[⟨Kw (.r0 (kC (cP t.1.2)) (Kx (cP t.1.2)) (kD (cP t.1.2))),[lM (cP t.1.2)]⟩]
theorem aas:aM prog Wx:=aG fun t=>(aH (fun h=>afE t.1.1 t.1.2 (afF h)) aR)
def Wy:List aD:=Wx :: R4
theorem Ky:aX prog (aZ Wy):=am aas vJ
inductive ma where
  | r0 (a:Int)
def acl:ma→AE×aC
  | .r0 a=>(.ret,⟨ag 13 [(4,.int .u64 a)],[],0⟩)
def FF:ma→ju
  | .r0 a=>⟨.int .u64 a,[]⟩
def aat:List Code:=bD (bp kh)
def Kz(a:List Int)(b:Int) :T ((Empty)⊕(ma)) :=
  .ask (decide (b < (((List.length a):Nat):Int)))
    (.need (iE b (List.length a))<|.need (iX (Int.toNat b) (List.length a))<|.leaf (.inr (.r0 (List.getD a (Int.toNat b) 0))))
    (.leaf (.inr (.r0 (0:Int))))
def d5(a:List Int)(b:Int) :Option ma:=l6 ((Kz a b).run)
theorem aau(d:Lv)(b:List Int)(c:Int){x:ma}(h:d5 b c=some x) :ak prog kh [] [.imm d (.ns .u64 b) 1 1 0 (List.length b),.int .i64 c] (FF x) :=
  Sg.contract true FF (by kernel_rfl:prog.funcs[kh]? = some (FN kh)) (by kernel_rfl:(FN kh).body=some (bp kh)) (Sg.seg (C:=C0) ah Ky 60 aat (aL (FN kh) [] [.imm d (.ns .u64 b) 1 1 0 (List.length b),.int .i64 c]) (Kz b c) (fun a:Empty=>a.elim) acl [⟨[],[],[4]⟩,⟨[],[],[4]⟩] (by kernel_rfl))
    (fun x=>by cases x with | r0 e=>exact ⟨.inr rfl,[.int .u64 e],[],by kernel_rfl,trivial,by kernel_rfl⟩) h
def pF:Option ma→Bool
  | some _=>true
  | none=>false
def eH:Option ma→Int
  | some (.r0 x)=>x
  | _=>0
theorem aav{x:Option ma}(h:pF x=true) :x=some (.r0 (eH x)):=by
  unfold pF at h
  split at h <;> first | rfl | (cases h;done) | (rename_i y;cases y;rfl)
def Nq:aD:=bW kh (.cons (.ns .u64) (.cons (.int .i64) .nil)) fun t=>[⟨FF (.r0 (eH (d5 t.1.2 t.2.1))),[pF (d5 t.1.2 t.2.1)]⟩]
theorem UN:aM prog Nq:=aG fun t=>(aH (fun h=>aau t.1.1 t.1.2 t.2.1 (aav h)) aR)
def Nr:List aD:=Nq :: Wy
theorem mG:aX prog (aZ Nr):=am UN Ky
inductive fu where
  | r0 (a:List Int) (b:Nat)
def oB:fu→AE×aC
  | .r0 a b=>(.ret,⟨ag 35 [(2,.imm .free (.ns .u64 a) 1 1 0 b)],[],0⟩)
theorem uO:lc oB:=by intro x;cases x <;> (intro h;cases h)
theorem acm(id:Nat) :qp id oB:=by intro x;cases x <;> (intro h;cases h)
def Ih:fu→ju
  | .r0 a b=>⟨.imm .free (.ns .u64 a) 1 1 0 b,[]⟩
def pG:List Code:=bD (bp lG)
def Ns(b:Lv)(a:List Int)(_:Unit) :aC:=⟨ag 35 [(0,.imm b (.ns .u64 a) 1 1 0 (List.length a)),(3,.nsl),(4,.int .i64 (0:Int))],[],0⟩
def KA:T ((Unit)⊕(fu)) :=
  .leaf (.inl ())
def rz(b:Lv)(a:List Int) :Nat×Nat×Nat×(List Int)→aC:=fun (c,d,e,f)=>⟨ag 35 [(0,.imm b (.ns .u64 a) 1 1 0 (List.length a)),(3,.sl 0 1 1 0 c d),(4,.int .i64 ((e:Nat):Int))],[(0,.ns .u64 f)],1⟩
def uP:Nat×Nat×(List Int)→aC:=fun (a,b,c)=>⟨ag 35 [(3,.sl 0 1 1 0 a b)],[(0,.ns .u64 c)],1⟩
def Dz:List Code:=bD (bE ((((pG.drop 3).take 1)).headD .skip))
def Nt(c:Lv)(a:List Int)(d:Nat) :Nat×(List Int)→aC:=fun (b,e)=>⟨ag 35 [(0,.imm c (.ns .u64 a) 1 1 0 (List.length a)),(3,.sl 0 1 1 0 b b),(4,.int .i64 ((d:Nat):Int))],[(0,.ns .u64 e)],1⟩
def sB(b:List Int)(c:Nat)(e:Nat)(a:Nat)(d:List Int) :T ((Nat×(List Int))⊕((Nat×Nat×(List Int))⊕(fu))) :=
  .ask (decide (((a:Nat):Int) < (((List.length b):Nat):Int)))
    (.need (iE ((a:Nat):Int) (List.length b))<|.need (iX a (List.length b))<|.need (dP .i64 (((a+1):Nat):Int))<|.ask (decide ((((a+1):Nat):Int) < (((List.length b):Nat):Int)))
      (.need (dP .i64 (((a+1):Nat):Int))<|.need (iE (((a+1):Nat):Int) (List.length b))<|.need (iX (a+1) (List.length b))<|.need (r6 ((c+1) * 8) 140737488355328)<|.need (r6 (c+1) 9223372036854775807)<|.need (r6 1 (List.length [(IntKind.u64.wrap ((List.getD b a 0)+(IntKind.u64.wrap ((List.getD b (a+1) 0) * (4294967296:Int)))))]))<|.need (r6 c (List.length d))<|.leaf (.inl ((c+1),((List.take c d) ++ (List.take 1 [(IntKind.u64.wrap ((List.getD b a 0)+(IntKind.u64.wrap ((List.getD b (a+1) 0) * (4294967296:Int)))))])))))
      (.need (r6 ((c+1) * 8) 140737488355328)<|.need (r6 (c+1) 9223372036854775807)<|.need (r6 1 (List.length [(List.getD b a 0)]))<|.need (r6 c (List.length d))<|.leaf (.inl ((c+1),((List.take c d) ++ (List.take 1 [(List.getD b a 0)]))))))
    (.leaf (.inr (.inl (c,e,d))))
def KB(a:Nat)(b:Nat)(c:List Int) :T ((Nat×Nat×Nat×(List Int))⊕((Nat×Nat×(List Int))⊕(fu))) :=
  .need (dP .i64 (((a+2):Nat):Int))<|.leaf (.inl (b,b,(a+2),c))
def DA(b:List Int) :Nat×Nat×Nat×(List Int)→Option ((Nat×Nat×Nat×(List Int))⊕((Nat×Nat×(List Int))⊕(fu))):=fun (c,d,a,e) =>
  ax ((sB b c d a e).run) fun (f,g) =>
  (KB a f g).run
theorem aaw(d:Lv)(b:List Int)(e:Nat)(f:Nat)(c:Nat)(g:List Int) :Sg prog [] Dz (rz d b (e,f,c,g)) (DA b (e,f,c,g)) (rz d b) (aO 0 uP oB):=by
  unfold DA;exact Sg.cut 3 (aW uO) (Sg.seg (C:=C0) ah mG 60 (Dz.take 3) (rz d b (e,f,c,g)) (sB b e f c g) (Nt d b c) (aO 0 uP oB) [⟨[],[417],[0,3,4]⟩,⟨[],[273],[0,3,4]⟩,⟨[],[0],[3]⟩] (by kernel_rfl)) (fun a=>by obtain ⟨h,i⟩:=a;exact Sg.seg (C:=C0) ah mG 60 (Dz.drop 3) (Nt d b c (h,i)) (KB c h i) (rz d b) (aO 0 uP oB) [⟨[],[0],[0,3,4]⟩] (by kernel_rfl))
def acn:Nat×Nat×(List Int)→aC:=uP
def KC:(List Int)×Nat→aC:=fun (a,b)=>⟨ag 35 [(2,.imm .free (.ns .u64 a) 1 1 0 b)],[],0⟩
def xF(a:Nat)(b:List Int) :T (((List Int)×Nat)⊕(fu)) :=
  .need (aI 0 a b)<|.need (kp (cA (aa 0 a b)))<|.leaf (.inl ((jB (cA (aa 0 a b))),(jA (cA (aa 0 a b)))))
def KD(a:List Int)(b:Nat) :T ((Empty)⊕(fu)) :=
  .leaf (.inr (.r0 a b))
def fv(a:List Int) :Option fu:=l6 (ax ((KA).run) fun _ =>
  ax (dH (DA a) (0,0,0,([]:List Int))) fun (b,f,c) =>
  ax ((xF b c).run) fun (d,e) =>
  (KD d e).run)
theorem aco(c:Lv)(b:List Int){x:fu}(h:fv b=some x) :ak prog lG [] [.imm c (.ns .u64 b) 1 1 0 (List.length b)] (Ih x) :=
  Sg.contract true Ih (by kernel_rfl:prog.funcs[lG]? = some (FN lG)) (by kernel_rfl:(FN lG).body=some (bp lG)) (Sg.cut 3 uO (Sg.seg (C:=C0) ah mG 60 (pG.take 3) (aL (FN lG) [] [.imm c (.ns .u64 b) 1 1 0 (List.length b)]) (KA) (Ns c b) oB [⟨[],[],[0,3,4]⟩] (by kernel_rfl)) (fun a=>by cases a;exact Sg.cut 1 uO (Sg.pre ⟨[(.slot 3,.own 1 1 (.ns .u64 ([]:List Int)))],[0],[0,3,4]⟩ rfl (by kernel_rfl:NS.on ⟨[(.slot 3,.own 1 1 (.ns .u64 ([]:List Int)))],[0],[0,3,4]⟩ (Ns c b ())=(rz c b) (0,0,0,([]:List Int))) (bT (I:=(rz c b)) (J:=(uP)) (id:=0) (by kernel_rfl:((pG.drop 3).take 1) = [.block 0 (.loop (bE ((((pG.drop 3).take 1)).headD .skip)))]) uO (acm _) (fun s=>by obtain ⟨i,j,k,l⟩:=s;exact aaw c b i j k l) (0,0,0,([]:List Int)))) (fun a=>by obtain ⟨d,m,e⟩:=a;exact Sg.cut 1 uO (Sg.seg (C:=C0) ah mG 60 (((pG.drop 3).drop 1).take 1) (acn (d,m,e)) (xF d e) KC oB [⟨[],[],[2]⟩] (by kernel_rfl)) (fun a=>by obtain ⟨f,g⟩:=a;exact Sg.seg (C:=C0) ah mG 60 (((pG.drop 3).drop 1).drop 1) (KC (f,g)) (KD f g) (fun a:Empty=>a.elim) oB [⟨[],[],[2]⟩] (by kernel_rfl)))))
    (fun x=>by cases x with | r0 n o=>exact ⟨.inr rfl,[.imm .free (.ns .u64 n) 1 1 0 o],[],by kernel_rfl,trivial,by kernel_rfl⟩) h
def rA:Option fu→Bool
  | some _=>true
  | none=>false
def qW:Option fu→List Int
  | some (.r0 x _)=>x
  | _=>[]
def qX:Option fu→Nat
  | some (.r0 _ x)=>x
  | _=>0
theorem acp{x:Option fu}(h:rA x=true) :x=some (.r0 (qW x) (qX x)):=by
  unfold rA at h
  split at h <;> first | rfl | (cases h;done) | (rename_i y;cases y;rfl)
def R8:aD:=bW lG (.cons (.ns .u64) .nil) fun t=>[⟨Ih (.r0 (qW (fv t.1.2)) (qX (fv t.1.2))),[rA (fv t.1.2)]⟩]
theorem XJ:aM prog R8:=aG fun t=>(aH (fun h=>aco t.1.1 t.1.2 (acp h)) aR)
def R9:List aD:=R8 :: Nr
theorem jC:aX prog (aZ R9):=am XJ mG
end
end Go.Plb.Seat
namespace Go.Plb.Seat
open Go Go.Plb
set_option linter.unusedVariables false
set_option maxRecDepth 100000
noncomputable section
inductive fi where
  | r0 (a:List Int) (b:Nat)
def mb:fi→AE×aC
  | .r0 a b=>(.ret,⟨ag 48 [(4,.imm .free (.ns .u64 a) 1 1 0 b)],[],0⟩)
theorem qz:lc mb:=by intro x;cases x <;> (intro h;cases h)
theorem afG(id:Nat) :qp id mb:=by intro x;cases x <;> (intro h;cases h)
def KE:fi→ju
  | .r0 a b=>⟨.imm .free (.ns .u64 a) 1 1 0 b,[]⟩
def o9:List Code:=bD (bp oa)
def Sa:(List Int)×Nat×(List Int)×Nat→aC:=fun (a,b,c,d)=>⟨ag 48 [(5,.imm .free (.ns .u64 a) 1 1 0 b),(6,.imm .free (.ns .u64 c) 1 1 0 d)],[],0⟩
def Nu(a:List Int)(b:List Int) :T (((List Int)×Nat×(List Int)×Nat)⊕(fi)) :=
  .need (aI 0 (List.length a) a)<|.need (lM (cP (aa 0 (List.length a) a)))<|.need (aI 0 (List.length b) b)<|.need (lM (cP (aa 0 (List.length b) b)))<|.leaf (.inl ((kD (cP (aa 0 (List.length a) a))),(kC (cP (aa 0 (List.length a) a))),(kD (cP (aa 0 (List.length b) b))),(kC (cP (aa 0 (List.length b) b)))))
def Sb(a:List Int)(b:Nat)(c:List Int)(d:Nat)(_:Unit) :aC:=⟨ag 48 [(5,.imm .free (.ns .u64 a) 1 1 0 b),(6,.imm .free (.ns .u64 c) 1 1 0 d),(7,.nsl),(8,.int .u64 (0:Int)),(9,.int .i64 (0:Int))],[],0⟩
def Nv:T ((Unit)⊕(fi)) :=
  .leaf (.inl ())
def rB(a:List Int)(b:Nat)(c:List Int)(d:Nat) :Nat×Nat×Int×Nat×(List Int)→aC:=fun (e,f,g,h,i)=>⟨ag 48 [(5,.imm .free (.ns .u64 a) 1 1 0 b),(6,.imm .free (.ns .u64 c) 1 1 0 d),(7,.sl 0 1 1 0 e f),(8,.int .u64 g),(9,.int .i64 ((h:Nat):Int))],[(0,.ns .u64 i)],1⟩
def rC:Nat×Nat×Int×(List Int)→aC:=fun (a,b,c,d)=>⟨ag 48 [(7,.sl 0 1 1 0 a b),(8,.int .u64 c)],[(0,.ns .u64 d)],1⟩
def z6:List Code:=bD (bE (((((o9.drop 2).drop 3).take 1)).headD .skip))
def Nw(a:List Int)(b:Nat)(c:List Int)(d:Nat)(e:Nat)(f:Nat)(g:Int)(h:Nat)(i:List Int)(j:Bool) :aC:=⟨ag 48 [(5,.imm .free (.ns .u64 a) 1 1 0 b),(6,.imm .free (.ns .u64 c) 1 1 0 d),(7,.sl 0 1 1 0 e f),(8,.int .u64 g),(9,.int .i64 ((h:Nat):Int)),(24,.bool false j)],[(0,.ns .u64 i)],1⟩
def Nz(b:Nat)(c:Nat)(a:Nat) :T ((Bool)⊕((Nat×Nat×Int×(List Int))⊕(fi))) :=
  .ask (decide (((a:Nat):Int) < ((b:Nat):Int)))
    (.leaf (.inl true))
    (.leaf (.inl (decide (((a:Nat):Int) < ((c:Nat):Int)))))
def NA(b:List Int)(c:Nat)(d:List Int)(e:Nat)(f:Nat) :Nat×Int×(List Int)→aC:=fun (a,g,h)=>⟨ag 48 [(5,.imm .free (.ns .u64 b) 1 1 0 c),(6,.imm .free (.ns .u64 d) 1 1 0 e),(7,.sl 0 1 1 0 a a),(8,.int .u64 g),(9,.int .i64 ((f:Nat):Int))],[(0,.ns .u64 h)],1⟩
def NB(c:List Int)(d:Nat)(e:List Int)(f:Nat)(b:Nat)(i:Nat)(g:Int)(a:Nat)(h:List Int)(j:Bool) :T ((Nat×Int×(List Int))⊕((Nat×Nat×Int×(List Int))⊕(fi))) :=
  .ask j
    (.need (aI 0 d c)<|.need (pF (d5 (aa 0 d c) ((a:Nat):Int)))<|.need (aI 0 f e)<|.need (pF (d5 (aa 0 f e) ((a:Nat):Int)))<|.need ((4294967296:Int) != (0:Int))<|.need (r6 ((b+1) * 8) 140737488355328)<|.need (r6 (b+1) 9223372036854775807)<|.need (r6 1 (List.length [(Int.tmod (IntKind.u64.wrap ((IntKind.u64.wrap ((eH (d5 (aa 0 d c) ((a:Nat):Int)))+(eH (d5 (aa 0 f e) ((a:Nat):Int)))))+g)) (4294967296:Int))]))<|.need (r6 b (List.length h))<|.need ((4294967296:Int) != (0:Int))<|.leaf (.inl ((b+1),(IntKind.u64.wrap (Int.tdiv (IntKind.u64.wrap ((IntKind.u64.wrap ((eH (d5 (aa 0 d c) ((a:Nat):Int)))+(eH (d5 (aa 0 f e) ((a:Nat):Int)))))+g)) (4294967296:Int))),((List.take b h) ++ (List.take 1 [(Int.tmod (IntKind.u64.wrap ((IntKind.u64.wrap ((eH (d5 (aa 0 d c) ((a:Nat):Int)))+(eH (d5 (aa 0 f e) ((a:Nat):Int)))))+g)) (4294967296:Int))])))))
    (.leaf (.inr (.inl (b,i,g,h))))
def NC(a:Nat)(b:Nat)(c:Int)(d:List Int) :T ((Nat×Nat×Int×Nat×(List Int))⊕((Nat×Nat×Int×(List Int))⊕(fi))) :=
  .need (dP .i64 (((a+1):Nat):Int))<|.leaf (.inl (b,b,c,(a+1),d))
def FG(d:List Int)(b:Nat)(e:List Int)(c:Nat) :Nat×Nat×Int×Nat×(List Int)→Option ((Nat×Nat×Int×Nat×(List Int))⊕((Nat×Nat×Int×(List Int))⊕(fi))):=fun (f,g,h,a,i) =>
  ax ((Nz b c a).run) fun j =>
  ax ((NB d b e c f g h a i j).run) fun (k,l,m) =>
  (NC a k l m).run
theorem acq(d:List Int)(b:Nat)(e:List Int)(c:Nat)(g:Nat)(h:Nat)(i:Int)(f:Nat)(j:List Int) :Sg prog [] z6 (rB d b e c (g,h,i,f,j)) (FG d b e c (g,h,i,f,j)) (rB d b e c) (aO 0 rC mb):=by
  unfold FG;exact Sg.cut 1 (aW qz) (Sg.seg (C:=C0) ah jC 60 (z6.take 1) (rB d b e c (g,h,i,f,j)) (Nz b c f) (Nw d b e c g h i f j) (aO 0 rC mb) [⟨[],[0],[5,6,7,8,9,24]⟩,⟨[],[0],[5,6,7,8,9,24]⟩] (by kernel_rfl)) (fun k=>by exact Sg.cut 2 (aW qz) (Sg.seg (C:=C0) ah jC 60 ((z6.drop 1).take 2) (Nw d b e c g h i f j k) (NB d b e c g h i f j k) (NA d b e c f) (aO 0 rC mb) [⟨[],[225],[5,6,7,8,9]⟩,⟨[],[0],[7,8]⟩] (by kernel_rfl)) (fun a=>by obtain ⟨l,m,n⟩:=a;exact Sg.seg (C:=C0) ah jC 60 ((z6.drop 1).drop 2) (NA d b e c f (l,m,n)) (NC f l m n) (rB d b e c) (aO 0 rC mb) [⟨[],[0],[5,6,7,8,9]⟩] (by kernel_rfl)))
def acr:Nat×Nat×Int×(List Int)→aC:=rC
def ND:(List Int)×Nat→aC:=fun (a,b)=>⟨ag 48 [(4,.imm .free (.ns .u64 a) 1 1 0 b)],[],0⟩
def NE(a:Nat)(b:Int)(c:List Int) :T (((List Int)×Nat)⊕(fi)) :=
  .need (r6 ((a+1) * 8) 140737488355328)<|.need (r6 (a+1) 9223372036854775807)<|.need (r6 1 (List.length [b]))<|.need (r6 a (List.length c))<|.need (aI 0 (a+1) ((List.take a c) ++ (List.take 1 [b])))<|.need (rA (fv (aa 0 (a+1) ((List.take a c) ++ (List.take 1 [b])))))<|.leaf (.inl ((qW (fv (aa 0 (a+1) ((List.take a c) ++ (List.take 1 [b]))))),(qX (fv (aa 0 (a+1) ((List.take a c) ++ (List.take 1 [b])))))))
def NF(a:List Int)(b:Nat) :T ((Empty)⊕(fi)) :=
  .leaf (.inr (.r0 a b))
def dT(a:List Int)(b:List Int) :Option fi:=l6 (ax ((Nu a b).run) fun (c,d,e,f) =>
  ax ((Nv).run) fun _ =>
  ax (dH (FG c d e f) (0,0,(0:Int),0,([]:List Int))) fun (g,l,h,i) =>
  ax ((NE g h i).run) fun (j,k) =>
  (NF j k).run)
theorem afH(i:Lv)(b:List Int)(j:Lv)(c:List Int){x:fi}(h:dT b c=some x) :ak prog oa [] [.imm i (.ns .u64 b) 1 1 0 (List.length b),.imm j (.ns .u64 c) 1 1 0 (List.length c)] (KE x) :=
  Sg.contract true KE (by kernel_rfl:prog.funcs[oa]? = some (FN oa)) (by kernel_rfl:(FN oa).body=some (bp oa)) (Sg.cut 2 qz (Sg.seg (C:=C0) ah jC 60 (o9.take 2) (aL (FN oa) [] [.imm i (.ns .u64 b) 1 1 0 (List.length b),.imm j (.ns .u64 c) 1 1 0 (List.length c)]) (Nu b c) Sa mb [⟨[],[],[5,6]⟩] (by kernel_rfl)) (fun a=>by obtain ⟨d,e,f,g⟩:=a;exact Sg.cut 3 qz (Sg.seg (C:=C0) ah jC 60 ((o9.drop 2).take 3) (Sa (d,e,f,g)) (Nv) (Sb d e f g) mb [⟨[],[],[5,6,7,8,9]⟩] (by kernel_rfl)) (fun a=>by cases a;exact Sg.cut 1 qz (Sg.pre ⟨[(.slot 7,.own 1 1 (.ns .u64 ([]:List Int)))],[0],[5,6,7,8,9]⟩ rfl (by kernel_rfl:NS.on ⟨[(.slot 7,.own 1 1 (.ns .u64 ([]:List Int)))],[0],[5,6,7,8,9]⟩ (Sb d e f g ())=(rB d e f g) (0,0,(0:Int),0,([]:List Int))) (bT (I:=(rB d e f g)) (J:=(rC)) (id:=0) (by kernel_rfl:(((o9.drop 2).drop 3).take 1) = [.block 0 (.loop (bE (((((o9.drop 2).drop 3).take 1)).headD .skip)))]) qz (afG _) (fun s=>by obtain ⟨p,q,r,t,u⟩:=s;exact acq d e f g p q r t u) (0,0,(0:Int),0,([]:List Int)))) (fun a=>by obtain ⟨k,v,l,m⟩:=a;exact Sg.cut 1 qz (Sg.seg (C:=C0) ah jC 60 ((((o9.drop 2).drop 3).drop 1).take 1) (acr (k,v,l,m)) (NE k l m) ND mb [⟨[],[],[4]⟩] (by kernel_rfl)) (fun a=>by obtain ⟨n,o⟩:=a;exact Sg.seg (C:=C0) ah jC 60 ((((o9.drop 2).drop 3).drop 1).drop 1) (ND (n,o)) (NF n o) (fun a:Empty=>a.elim) mb [⟨[],[],[4]⟩] (by kernel_rfl))))))
    (fun x=>by cases x with | r0 w y=>exact ⟨.inr rfl,[.imm .free (.ns .u64 w) 1 1 0 y],[],by kernel_rfl,trivial,by kernel_rfl⟩) h
def Cr:Option fi→Bool
  | some _=>true
  | none=>false
def jc:Option fi→List Int
  | some (.r0 x _)=>x
  | _=>[]
def jd:Option fi→Nat
  | some (.r0 _ x)=>x
  | _=>0
theorem afI{x:Option fi}(h:Cr x=true) :x=some (.r0 (jc x) (jd x)):=by
  unfold Cr at h
  split at h <;> first | rfl | (cases h;done) | (rename_i y;cases y;rfl)
def Wz:aD:=bW oa (.cons (.ns .u64) (.cons (.ns .u64) .nil)) fun t=>[⟨KE (.r0 (jc (dT t.1.2 t.2.1.2)) (jd (dT t.1.2 t.2.1.2))),[Cr (dT t.1.2 t.2.1.2)]⟩]
theorem aax:aM prog Wz:=aG fun t=>(aH (fun h=>afH t.1.1 t.1.2 t.2.1.1 t.2.1.2 (afI h)) aR)
def WA:List aD:=Wz :: R9
theorem mV:aX prog (aZ WA):=am aax jC
inductive fP where
  | r0 (a:List Int) (b:Nat)
def oC:fP→AE×aC
  | .r0 a b=>(.ret,⟨ag 42 [(4,.imm .free (.ns .u64 a) 1 1 0 b)],[],0⟩)
theorem tI:lc oC:=by intro x;cases x <;> (intro h;cases h)
theorem afJ(id:Nat) :qp id oC:=by intro x;cases x <;> (intro h;cases h)
def KF:fP→ju
  | .r0 a b=>⟨.imm .free (.ns .u64 a) 1 1 0 b,[]⟩
def pa:List Code:=bD (bp od)
def Sc:(List Int)×Nat×(List Int)×Nat→aC:=fun (a,b,c,d)=>⟨ag 42 [(5,.imm .free (.ns .u64 a) 1 1 0 b),(6,.imm .free (.ns .u64 c) 1 1 0 d)],[],0⟩
def NG(a:List Int)(b:List Int) :T (((List Int)×Nat×(List Int)×Nat)⊕(fP)) :=
  .need (aI 0 (List.length a) a)<|.need (lM (cP (aa 0 (List.length a) a)))<|.need (aI 0 (List.length b) b)<|.need (lM (cP (aa 0 (List.length b) b)))<|.leaf (.inl ((kD (cP (aa 0 (List.length a) a))),(kC (cP (aa 0 (List.length a) a))),(kD (cP (aa 0 (List.length b) b))),(kC (cP (aa 0 (List.length b) b)))))
def Sd(a:List Int)(b:Nat)(c:List Int)(d:Nat)(_:Unit) :aC:=⟨ag 42 [(5,.imm .free (.ns .u64 a) 1 1 0 b),(6,.imm .free (.ns .u64 c) 1 1 0 d),(7,.nsl),(8,.int .u64 (0:Int)),(9,.int .i64 (0:Int))],[],0⟩
def NH:T ((Unit)⊕(fP)) :=
  .leaf (.inl ())
def tJ(a:List Int)(b:Nat)(c:List Int)(d:Nat) :Nat×Nat×Int×Nat×(List Int)→aC:=fun (e,f,g,h,i)=>⟨ag 42 [(5,.imm .free (.ns .u64 a) 1 1 0 b),(6,.imm .free (.ns .u64 c) 1 1 0 d),(7,.sl 0 1 1 0 e f),(8,.int .u64 g),(9,.int .i64 ((h:Nat):Int))],[(0,.ns .u64 i)],1⟩
def uQ:Nat×Nat×(List Int)→aC:=fun (a,b,c)=>⟨ag 42 [(7,.sl 0 1 1 0 a b)],[(0,.ns .u64 c)],1⟩
def FH:List Code:=bD (bE (((((pa.drop 2).drop 3).take 1)).headD .skip))
def NI(b:List Int)(c:Nat)(d:List Int)(e:Nat)(f:Nat) :Nat×Int×(List Int)→aC:=fun (a,g,h)=>⟨ag 42 [(5,.imm .free (.ns .u64 b) 1 1 0 c),(6,.imm .free (.ns .u64 d) 1 1 0 e),(7,.sl 0 1 1 0 a a),(8,.int .u64 g),(9,.int .i64 ((f:Nat):Int))],[(0,.ns .u64 h)],1⟩
def NJ(e:List Int)(h:Nat)(c:List Int)(d:Nat)(b:Nat)(i:Nat)(f:Int)(a:Nat)(g:List Int) :T ((Nat×Int×(List Int))⊕((Nat×Nat×(List Int))⊕(fP))) :=
  .ask (decide (((a:Nat):Int) < ((h:Nat):Int)))
    (.need (iE ((a:Nat):Int) h)<|.need (iX a (List.length e))<|.need (aI 0 d c)<|.need (pF (d5 (aa 0 d c) ((a:Nat):Int)))<|.need ((4294967296:Int) != (0:Int))<|.need (r6 ((b+1) * 8) 140737488355328)<|.need (r6 (b+1) 9223372036854775807)<|.need (r6 1 (List.length [(Int.tmod (IntKind.u64.wrap ((IntKind.u64.wrap ((IntKind.u64.wrap ((4294967296:Int)+(List.getD e a 0))) - (eH (d5 (aa 0 d c) ((a:Nat):Int))))) - f)) (4294967296:Int))]))<|.need (r6 b (List.length g))<|.need ((4294967296:Int) != (0:Int))<|.leaf (.inl ((b+1),(IntKind.u64.wrap ((1:Int) - (IntKind.u64.wrap (Int.tdiv (IntKind.u64.wrap ((IntKind.u64.wrap ((IntKind.u64.wrap ((4294967296:Int)+(List.getD e a 0))) - (eH (d5 (aa 0 d c) ((a:Nat):Int))))) - f)) (4294967296:Int))))),((List.take b g) ++ (List.take 1 [(Int.tmod (IntKind.u64.wrap ((IntKind.u64.wrap ((IntKind.u64.wrap ((4294967296:Int)+(List.getD e a 0))) - (eH (d5 (aa 0 d c) ((a:Nat):Int))))) - f)) (4294967296:Int))])))))
    (.leaf (.inr (.inl (b,i,g))))
def NK(a:Nat)(b:Nat)(c:Int)(d:List Int) :T ((Nat×Nat×Int×Nat×(List Int))⊕((Nat×Nat×(List Int))⊕(fP))) :=
  .need (dP .i64 (((a+1):Nat):Int))<|.leaf (.inl (b,b,c,(a+1),d))
def FI(b:List Int)(c:Nat)(d:List Int)(e:Nat) :Nat×Nat×Int×Nat×(List Int)→Option ((Nat×Nat×Int×Nat×(List Int))⊕((Nat×Nat×(List Int))⊕(fP))):=fun (f,g,h,a,i) =>
  ax ((NJ b c d e f g h a i).run) fun (j,k,l) =>
  (NK a j k l).run
theorem acs(b:List Int)(c:Nat)(d:List Int)(e:Nat)(g:Nat)(h:Nat)(i:Int)(f:Nat)(j:List Int) :Sg prog [] FH (tJ b c d e (g,h,i,f,j)) (FI b c d e (g,h,i,f,j)) (tJ b c d e) (aO 0 uQ oC):=by
  unfold FI;exact Sg.cut 3 (aW tI) (Sg.seg (C:=C0) ah mV 60 (FH.take 3) (tJ b c d e (g,h,i,f,j)) (NJ b c d e g h i f j) (NI b c d e f) (aO 0 uQ oC) [⟨[],[321],[5,6,7,8,9]⟩,⟨[],[0],[7]⟩] (by kernel_rfl)) (fun a=>by obtain ⟨k,l,m⟩:=a;exact Sg.seg (C:=C0) ah mV 60 (FH.drop 3) (NI b c d e f (k,l,m)) (NK f k l m) (tJ b c d e) (aO 0 uQ oC) [⟨[],[0],[5,6,7,8,9]⟩] (by kernel_rfl))
def act:Nat×Nat×(List Int)→aC:=uQ
def NL:(List Int)×Nat→aC:=fun (a,b)=>⟨ag 42 [(4,.imm .free (.ns .u64 a) 1 1 0 b)],[],0⟩
def NM(a:Nat)(b:List Int) :T (((List Int)×Nat)⊕(fP)) :=
  .need (aI 0 a b)<|.need (rA (fv (aa 0 a b)))<|.leaf (.inl ((qW (fv (aa 0 a b))),(qX (fv (aa 0 a b)))))
def NN(a:List Int)(b:Nat) :T ((Empty)⊕(fP)) :=
  .leaf (.inr (.r0 a b))
def bL(a:List Int)(b:List Int) :Option fP:=l6 (ax ((NG a b).run) fun (c,d,e,f) =>
  ax ((NH).run) fun _ =>
  ax (dH (FI c d e f) (0,0,(0:Int),0,([]:List Int))) fun (g,k,h) =>
  ax ((NM g h).run) fun (i,j) =>
  (NN i j).run)
theorem afK(i:Lv)(b:List Int)(j:Lv)(c:List Int){x:fP}(h:bL b c=some x) :ak prog od [] [.imm i (.ns .u64 b) 1 1 0 (List.length b),.imm j (.ns .u64 c) 1 1 0 (List.length c)] (KF x) :=
  Sg.contract true KF (by kernel_rfl:prog.funcs[od]? = some (FN od)) (by kernel_rfl:(FN od).body=some (bp od)) (Sg.cut 2 tI (Sg.seg (C:=C0) ah mV 60 (pa.take 2) (aL (FN od) [] [.imm i (.ns .u64 b) 1 1 0 (List.length b),.imm j (.ns .u64 c) 1 1 0 (List.length c)]) (NG b c) Sc oC [⟨[],[],[5,6]⟩] (by kernel_rfl)) (fun a=>by obtain ⟨d,e,f,g⟩:=a;exact Sg.cut 3 tI (Sg.seg (C:=C0) ah mV 60 ((pa.drop 2).take 3) (Sc (d,e,f,g)) (NH) (Sd d e f g) oC [⟨[],[],[5,6,7,8,9]⟩] (by kernel_rfl)) (fun a=>by cases a;exact Sg.cut 1 tI (Sg.pre ⟨[(.slot 7,.own 1 1 (.ns .u64 ([]:List Int)))],[0],[5,6,7,8,9]⟩ rfl (by kernel_rfl:NS.on ⟨[(.slot 7,.own 1 1 (.ns .u64 ([]:List Int)))],[0],[5,6,7,8,9]⟩ (Sd d e f g ())=(tJ d e f g) (0,0,(0:Int),0,([]:List Int))) (bT (I:=(tJ d e f g)) (J:=(uQ)) (id:=0) (by kernel_rfl:(((pa.drop 2).drop 3).take 1) = [.block 0 (.loop (bE (((((pa.drop 2).drop 3).take 1)).headD .skip)))]) tI (afJ _) (fun s=>by obtain ⟨o,p,q,r,t⟩:=s;exact acs d e f g o p q r t) (0,0,(0:Int),0,([]:List Int)))) (fun a=>by obtain ⟨k,u,l⟩:=a;exact Sg.cut 1 tI (Sg.seg (C:=C0) ah mV 60 ((((pa.drop 2).drop 3).drop 1).take 1) (act (k,u,l)) (NM k l) NL oC [⟨[],[],[4]⟩] (by kernel_rfl)) (fun a=>by obtain ⟨m,n⟩:=a;exact Sg.seg (C:=C0) ah mV 60 ((((pa.drop 2).drop 3).drop 1).drop 1) (NL (m,n)) (NN m n) (fun a:Empty=>a.elim) oC [⟨[],[],[4]⟩] (by kernel_rfl))))))
    (fun x=>by cases x with | r0 v w=>exact ⟨.inr rfl,[.imm .free (.ns .u64 v) 1 1 0 w],[],by kernel_rfl,trivial,by kernel_rfl⟩) h
def xG:Option fP→Bool
  | some _=>true
  | none=>false
def df:Option fP→List Int
  | some (.r0 x _)=>x
  | _=>[]
def dg:Option fP→Nat
  | some (.r0 _ x)=>x
  | _=>0
theorem afL{x:Option fP}(h:xG x=true) :x=some (.r0 (df x) (dg x)):=by
  unfold xG at h
  split at h <;> first | rfl | (cases h;done) | (rename_i y;cases y;rfl)
def WB:aD:=bW od (.cons (.ns .u64) (.cons (.ns .u64) .nil)) fun t=>[⟨KF (.r0 (df (bL t.1.2 t.2.1.2)) (dg (bL t.1.2 t.2.1.2))),[xG (bL t.1.2 t.2.1.2)]⟩]
theorem aay:aM prog WB:=aG fun t=>(aH (fun h=>afK t.1.1 t.1.2 t.2.1.1 t.2.1.2 (afL h)) aR)
def WC:List aD:=WB :: WA
theorem g5:aX prog (aZ WC):=am aay mV
inductive dU where
  | r0 (a:List Int) (b:Nat)
def iJ:dU→AE×aC
  | .r0 a b=>(.ret,⟨ag 71 [(4,.imm .free (.ns .u64 a) 1 1 0 b)],[],0⟩)
theorem je:lc iJ:=by intro x;cases x <;> (intro h;cases h)
theorem Ii(id:Nat) :qp id iJ:=by intro x;cases x <;> (intro h;cases h)
def KG:dU→ju
  | .r0 a b=>⟨.imm .free (.ns .u64 a) 1 1 0 b,[]⟩
def pb:List Code:=bD (bp oe)
def Se:(List Int)×Nat×(List Int)×Nat→aC:=fun (a,b,c,d)=>⟨ag 71 [(5,.imm .free (.ns .u64 a) 1 1 0 b),(6,.imm .free (.ns .u64 c) 1 1 0 d)],[],0⟩
def FJ(a:List Int)(b:List Int) :T (((List Int)×Nat×(List Int)×Nat)⊕(dU)) :=
  .need (aI 0 (List.length a) a)<|.need (lM (cP (aa 0 (List.length a) a)))<|.need (aI 0 (List.length b) b)<|.need (lM (cP (aa 0 (List.length b) b)))<|.leaf (.inl ((kD (cP (aa 0 (List.length a) a))),(kC (cP (aa 0 (List.length a) a))),(kD (cP (aa 0 (List.length b) b))),(kC (cP (aa 0 (List.length b) b)))))
def Sf(b:List Int)(c:Nat)(d:List Int)(e:Nat) :Nat×(List Int)→aC:=fun (a,f)=>⟨ag 71 [(5,.imm .free (.ns .u64 b) 1 1 0 c),(6,.imm .free (.ns .u64 d) 1 1 0 e),(7,.sl 0 1 1 0 a a),(8,.int .i64 (0:Int))],[(0,.ns .u64 f)],1⟩
def z7(a:Nat)(b:Nat) :T ((Nat×(List Int))⊕(dU)) :=
  .need (dP .i64 (((a+b):Nat):Int))<|.need (dP .i64 ((((a+b)+1):Nat):Int))<|.need (decide ((0:Int)≤((((a+b)+1):Nat):Int)))<|.need (decide (((((a+b)+1):Nat):Int)≤((((a+b)+1):Nat):Int)))<|.need (decide ((8:Int) * ((((a+b)+1):Nat):Int)≤140737488355328))<|.need (dP .i64 ((((a+b)+1):Nat):Int))<|.leaf (.inl (((a+b)+1),(List.replicate ((a+b)+1) (0:Int))))
def rD(b:List Int)(c:Nat)(d:List Int)(e:Nat)(a:Nat) :Nat×(List Int)→aC:=fun (f,g)=>⟨ag 71 [(5,.imm .free (.ns .u64 b) 1 1 0 c),(6,.imm .free (.ns .u64 d) 1 1 0 e),(7,.sl 0 1 1 0 a a),(8,.int .i64 ((f:Nat):Int))],[(0,.ns .u64 g)],1⟩
def kq(a:Nat)(b:(List Int)) :aC:=⟨ag 71 [(7,.sl 0 1 1 0 a a)],[(0,.ns .u64 b)],1⟩
def rE:List Code:=bD (bE (((((pb.drop 2).drop 2).take 1)).headD .skip))
def NO(b:List Int)(c:Nat)(d:List Int)(e:Nat)(a:Nat)(f:Nat)(g:List Int)(_:Unit) :aC:=⟨ag 71 [(5,.imm .free (.ns .u64 b) 1 1 0 c),(6,.imm .free (.ns .u64 d) 1 1 0 e),(7,.sl 0 1 1 0 a a),(8,.int .i64 ((f:Nat):Int))],[(0,.ns .u64 g)],1⟩
def z8(a:Nat)(b:Nat)(c:List Int) :T ((Unit)⊕(((List Int))⊕(dU))) :=
  .ask (decide (((b:Nat):Int) < ((a:Nat):Int)))
    (.leaf (.inl ()))
    (.leaf (.inr (.inl c)))
def pc(b:List Int)(c:Nat)(d:List Int)(e:Nat)(a:Nat)(f:Nat)(g:(List Int)) :aC:=⟨ag 71 [(5,.imm .free (.ns .u64 b) 1 1 0 c),(6,.imm .free (.ns .u64 d) 1 1 0 e),(7,.sl 0 1 1 0 a a),(8,.int .i64 ((f:Nat):Int))],[(0,.ns .u64 g)],1⟩
def uR:List Code:=bD (inBlock ((((rE.drop 2).take 1)).headD .skip))
def NP(b:List Int)(c:Nat)(d:List Int)(e:Nat)(a:Nat)(f:Nat)(g:List Int)(_:Unit) :aC:=⟨ag 71 [(5,.imm .free (.ns .u64 b) 1 1 0 c),(6,.imm .free (.ns .u64 d) 1 1 0 e),(7,.sl 0 1 1 0 a a),(8,.int .i64 ((f:Nat):Int)),(9,.int .u64 (0:Int)),(10,.int .i64 (0:Int))],[(0,.ns .u64 g)],1⟩
def NQ:T ((Unit)⊕(((List Int))⊕(((List Int))⊕(dU)))) :=
  .leaf (.inl ())
def rF(b:List Int)(c:Nat)(d:List Int)(e:Nat)(a:Nat)(f:Nat) :Int×Nat×(List Int)→aC:=fun (g,h,i)=>⟨ag 71 [(5,.imm .free (.ns .u64 b) 1 1 0 c),(6,.imm .free (.ns .u64 d) 1 1 0 e),(7,.sl 0 1 1 0 a a),(8,.int .i64 ((f:Nat):Int)),(9,.int .u64 g),(10,.int .i64 ((h:Nat):Int))],[(0,.ns .u64 i)],1⟩
def z9(b:List Int)(c:Nat)(d:List Int)(e:Nat)(a:Nat)(f:Nat) :Int×(List Int)→aC:=fun (g,h)=>⟨ag 71 [(5,.imm .free (.ns .u64 b) 1 1 0 c),(6,.imm .free (.ns .u64 d) 1 1 0 e),(7,.sl 0 1 1 0 a a),(8,.int .i64 ((f:Nat):Int)),(9,.int .u64 g)],[(0,.ns .u64 h)],1⟩
def NR:List Code:=bD (bE ((((uR.drop 2).take 1)).headD .skip))
def uS(d:List Int)(i:Nat)(e:List Int)(g:Nat)(h:Nat)(b:Nat)(f:Int)(a:Nat)(c:List Int) :T ((Int×Nat×(List Int))⊕((Int×(List Int))⊕(((List Int))⊕(((List Int))⊕(dU))))) :=
  .ask (decide (((a:Nat):Int) < ((g:Nat):Int)))
    (.need (dP .i64 (((b+a):Nat):Int))<|.need (iE (((b+a):Nat):Int) h)<|.need (iX (b+a) (List.length c))<|.need (iE ((b:Nat):Int) i)<|.need (iX b (List.length d))<|.need (iE ((a:Nat):Int) g)<|.need (iX a (List.length e))<|.need (dP .i64 (((b+a):Nat):Int))<|.need ((4294967296:Int) != (0:Int))<|.need (iE (((b+a):Nat):Int) h)<|.need (iX (b+a) (List.length c))<|.need ((4294967296:Int) != (0:Int))<|.need (dP .i64 (((a+1):Nat):Int))<|.leaf (.inl ((IntKind.u64.wrap (Int.tdiv (IntKind.u64.wrap ((IntKind.u64.wrap ((List.getD c (b+a) 0)+(IntKind.u64.wrap ((List.getD d b 0) * (List.getD e a 0)))))+f)) (4294967296:Int))),(a+1),(List.set c (b+a) (Int.tmod (IntKind.u64.wrap ((IntKind.u64.wrap ((List.getD c (b+a) 0)+(IntKind.u64.wrap ((List.getD d b 0) * (List.getD e a 0)))))+f)) (4294967296:Int))))))
    (.leaf (.inr (.inl (f,c))))
def FK(a:List Int)(b:Nat)(c:List Int)(d:Nat)(e:Nat)(f:Nat) :Int×Nat×(List Int)→Option ((Int×Nat×(List Int))⊕((Int×(List Int))⊕(((List Int))⊕(((List Int))⊕(dU))))):=fun (g,h,i) =>
  (uS a b c d e f g h i).run
theorem acu(b:List Int)(c:Nat)(d:List Int)(e:Nat)(a:Nat)(f:Nat)(g:Int)(h:Nat)(i:List Int) :Sg prog [] NR (rF b c d e a f (g,h,i)) (FK b c d e a f (g,h,i)) (rF b c d e a f) (aO 2 (z9 b c d e a f) (aO 1 (pc b c d e a f) (aO 0 (kq a) iJ))):=by
  unfold FK;exact Sg.seg (C:=C0) ah g5 60 NR (rF b c d e a f (g,h,i)) (uS b c d e a f g h i) (rF b c d e a f) (aO 2 (z9 b c d e a f) (aO 1 (pc b c d e a f) (aO 0 (kq a) iJ))) [⟨[],[0],[5,6,7,8,9,10]⟩,⟨[],[0],[5,6,7,8,9]⟩] (by kernel_rfl)
def acv(a:List Int)(b:Nat)(c:List Int)(d:Nat)(e:Nat)(f:Nat) :Int×(List Int)→aC:=z9 a b c d e f
def Aa(a:Nat)(d:Nat)(b:Nat)(e:Int)(c:List Int) :T (((List Int))⊕(((List Int))⊕(((List Int))⊕(dU)))) :=
  .need (dP .i64 (((b+a):Nat):Int))<|.need (iE (((b+a):Nat):Int) d)<|.need (iX (b+a) (List.length c))<|.leaf (.inl (List.set c (b+a) e))
def acw(a:List Int)(b:Nat)(c:List Int)(d:Nat)(e:Nat)(f:Nat) :(List Int)→aC:=pc a b c d e f
def NT(a:Nat)(b:List Int) :T ((Nat×(List Int))⊕(((List Int))⊕(dU))) :=
  .need (dP .i64 (((a+1):Nat):Int))<|.leaf (.inl ((a+1),b))
def FL(f:List Int)(b:Nat)(g:List Int)(c:Nat)(d:Nat) :Nat×(List Int)→Option ((Nat×(List Int))⊕(((List Int))⊕(dU))):=fun (a,e) =>
  ax ((z8 b a e).run) fun _ =>
  ax (Rg (ax ((NQ).run) fun _ =>
  ax (dH (FK f b g c d a) ((0:Int),0,e)) fun (h,i) =>
  (Aa c d a h i).run)) fun j =>
  (NT a j).run
theorem acx(f:List Int)(c:Nat)(g:List Int)(d:Nat)(b:Nat)(e:Nat)(h:List Int) :Sg prog [] rE (rD f c g d b (e,h)) (FL f c g d b (e,h)) (rD f c g d b) (aO 0 (kq b) iJ):=by
  unfold FL;exact Sg.cut 2 (aW je) (Sg.seg (C:=C0) ah g5 60 (rE.take 2) (rD f c g d b (e,h)) (z8 c e h) (NO f c g d b e h) (aO 0 (kq b) iJ) [⟨[],[0],[5,6,7,8]⟩,⟨[],[0],[7]⟩] (by kernel_rfl)) (fun a=>by cases a;exact Sg.cut 1 (aW je) (C7 (id:=1) (K:=(pc f c g d b e)) (by kernel_rfl:((rE.drop 2).take 1) = [.block 1 (inBlock ((((rE.drop 2).take 1)).headD .skip))]) (aW je) (jO (by decide) (Ii _)) (Sg.cut 2 (aW (aW je)) (Sg.seg (C:=C0) ah g5 60 (uR.take 2) (NO f c g d b e h ()) (NQ) (NP f c g d b e h) (aO 1 (pc f c g d b e) (aO 0 (kq b) iJ)) [⟨[],[0],[5,6,7,8,9,10]⟩] (by kernel_rfl)) (fun a=>by cases a;exact Sg.cut 1 (aW (aW je)) (Sg.pre ⟨[],[0],[5,6,7,8,9,10]⟩ rfl (by kernel_rfl:NS.on ⟨[],[0],[5,6,7,8,9,10]⟩ (NP f c g d b e h ())=(rF f c g d b e) ((0:Int),0,h)) (bT (I:=(rF f c g d b e)) (J:=(z9 f c g d b e)) (id:=2) (by kernel_rfl:((uR.drop 2).take 1) = [.block 2 (.loop (bE ((((uR.drop 2).take 1)).headD .skip)))]) (aW (aW je)) (jO (by decide) (jO (by decide) (Ii _))) (fun s=>by obtain ⟨l,m,n⟩:=s;exact acu f c g d b e l m n) ((0:Int),0,h))) (fun a=>by obtain ⟨i,j⟩:=a;exact Sg.seg (C:=C0) ah g5 60 ((uR.drop 2).drop 1) (acv f c g d b e (i,j)) (Aa d b e i j) (pc f c g d b e) (aO 1 (pc f c g d b e) (aO 0 (kq b) iJ)) [⟨[],[0],[5,6,7,8]⟩] (by kernel_rfl))))) (fun k=>by exact Sg.seg (C:=C0) ah g5 60 ((rE.drop 2).drop 1) (acw f c g d b e k) (NT e k) (rD f c g d b) (aO 0 (kq b) iJ) [⟨[],[0],[5,6,7,8]⟩] (by kernel_rfl)))
def acy(a:Nat) :(List Int)→aC:=kq a
def NU:(List Int)×Nat→aC:=fun (a,b)=>⟨ag 71 [(4,.imm .free (.ns .u64 a) 1 1 0 b)],[],0⟩
def FM(a:Nat)(b:List Int) :T (((List Int)×Nat)⊕(dU)) :=
  .need (aI 0 a b)<|.need (rA (fv (aa 0 a b)))<|.leaf (.inl ((qW (fv (aa 0 a b))),(qX (fv (aa 0 a b)))))
def NV(a:List Int)(b:Nat) :T ((Empty)⊕(dU)) :=
  .leaf (.inr (.r0 a b))
def cX(d:List Int)(e:List Int) :Option dU:=l6 (ax ((FJ d e).run) fun (f,a,g,b) =>
  ax ((z7 a b).run) fun (c,h) =>
  ax (dH (FL f a g b c) (0,h)) fun i =>
  ax ((FM c i).run) fun (j,k) =>
  (NV j k).run)
theorem afM(k:Lv)(e:List Int)(l:Lv)(f:List Int){x:dU}(h:cX e f=some x) :ak prog oe [] [.imm k (.ns .u64 e) 1 1 0 (List.length e),.imm l (.ns .u64 f) 1 1 0 (List.length f)] (KG x) :=
  Sg.contract true KG (by kernel_rfl:prog.funcs[oe]? = some (FN oe)) (by kernel_rfl:(FN oe).body=some (bp oe)) (Sg.cut 2 je (Sg.seg (C:=C0) ah g5 60 (pb.take 2) (aL (FN oe) [] [.imm k (.ns .u64 e) 1 1 0 (List.length e),.imm l (.ns .u64 f) 1 1 0 (List.length f)]) (FJ e f) Se iJ [⟨[],[],[5,6]⟩] (by kernel_rfl)) (fun a=>by obtain ⟨g,b,i,c⟩:=a;exact Sg.cut 2 je (Sg.seg (C:=C0) ah g5 60 ((pb.drop 2).take 2) (Se (g,b,i,c)) (z7 b c) (Sf g b i c) iJ [⟨[],[96],[5,6,7,8]⟩] (by kernel_rfl)) (fun a=>by obtain ⟨d,j⟩:=a;exact Sg.cut 1 je (Sg.pre ⟨[],[0],[5,6,7,8]⟩ rfl (by kernel_rfl:NS.on ⟨[],[0],[5,6,7,8]⟩ (Sf g b i c (d,j))=(rD g b i c d) (0,j)) (bT (I:=(rD g b i c d)) (J:=(kq d)) (id:=0) (by kernel_rfl:(((pb.drop 2).drop 2).take 1) = [.block 0 (.loop (bE (((((pb.drop 2).drop 2).take 1)).headD .skip)))]) je (Ii _) (fun s=>by obtain ⟨p,q⟩:=s;exact acx g b i c d p q) (0,j))) (fun m=>by exact Sg.cut 1 je (Sg.seg (C:=C0) ah g5 60 ((((pb.drop 2).drop 2).drop 1).take 1) (acy d m) (FM d m) NU iJ [⟨[],[],[4]⟩] (by kernel_rfl)) (fun a=>by obtain ⟨n,o⟩:=a;exact Sg.seg (C:=C0) ah g5 60 ((((pb.drop 2).drop 2).drop 1).drop 1) (NU (n,o)) (NV n o) (fun a:Empty=>a.elim) iJ [⟨[],[],[4]⟩] (by kernel_rfl))))))
    (fun x=>by cases x with | r0 r t=>exact ⟨.inr rfl,[.imm .free (.ns .u64 r) 1 1 0 t],[],by kernel_rfl,trivial,by kernel_rfl⟩) h
def tK:Option dU→Bool
  | some _=>true
  | none=>false
def fQ:Option dU→List Int
  | some (.r0 x _)=>x
  | _=>[]
def fR:Option dU→Nat
  | some (.r0 _ x)=>x
  | _=>0
theorem afN{x:Option dU}(h:tK x=true) :x=some (.r0 (fQ x) (fR x)):=by
  unfold tK at h
  split at h <;> first | rfl | (cases h;done) | (rename_i y;cases y;rfl)
def WD:aD:=bW oe (.cons (.ns .u64) (.cons (.ns .u64) .nil)) fun t=>[⟨KG (.r0 (fQ (cX t.1.2 t.2.1.2)) (fR (cX t.1.2 t.2.1.2))),[tK (cX t.1.2 t.2.1.2)]⟩]
theorem aaz:aM prog WD:=aG fun t=>(aH (fun h=>afM t.1.1 t.1.2 t.2.1.1 t.2.1.2 (afN h)) aR)
def WE:List aD:=WD :: WC
theorem KH:aX prog (aZ WE):=am aaz g5
inductive lN where
  | r0 (a:Nat) (b:List Int)
def afO:lN→AE×aC
  | .r0 a b=>(.ret,⟨ag 17 [(2,.sl 0 1 1 0 a a)],[(0,.ns .u64 b)],1⟩)
def Ij:lN→ju
  | .r0 a b=>⟨.imm .free (.ns .u64 b) 1 1 0 a,[]⟩
def acz:List Code:=bD (bp lH)
def NW(a:Int) :T ((Empty)⊕(lN)) :=
  .need ((64:Int) != (0:Int))<|.need (dP .i64 (Int.tdiv a (64:Int)))<|.need (dP .i64 ((Int.tdiv a (64:Int))+(1:Int)))<|.need (decide ((0:Int)≤((Int.tdiv a (64:Int))+(1:Int))))<|.need (decide (((Int.tdiv a (64:Int))+(1:Int))≤((Int.tdiv a (64:Int))+(1:Int))))<|.need (decide ((8:Int) * ((Int.tdiv a (64:Int))+(1:Int))≤140737488355328))<|.need (dP .i64 ((Int.tdiv a (64:Int))+(1:Int)))<|.need ((64:Int) != (0:Int))<|.need (dP .i64 (Int.tdiv a (64:Int)))<|.need ((64:Int) != (0:Int))<|.need (decide ((0:Int)≤(IntKind.u64.wrap (Int.tmod a (64:Int)))))<|.need (iE (Int.tdiv a (64:Int)) (Int.toNat ((Int.tdiv a (64:Int))+(1:Int))))<|.need (iX (Int.toNat (Int.tdiv a (64:Int))) (List.length (List.replicate (Int.toNat ((Int.tdiv a (64:Int))+(1:Int))) (0:Int))))<|.leaf (.inr (.r0 (Int.toNat ((Int.tdiv a (64:Int))+(1:Int))) (List.set (List.replicate (Int.toNat ((Int.tdiv a (64:Int))+(1:Int))) (0:Int)) (Int.toNat (Int.tdiv a (64:Int))) (IntKind.u64.wrap ((1:Int) * 2 ^ (min (Int.toNat (IntKind.u64.wrap (Int.tmod a (64:Int)))) (IntKind.u64.bits)))))))
def gq(a:Int) :Option lN:=l6 ((NW a).run)
theorem acA(b:Int){x:lN}(h:gq b=some x) :ak prog lH [] [.int .i64 b] (Ij x) :=
  Sg.contract true Ij (by kernel_rfl:prog.funcs[lH]? = some (FN lH)) (by kernel_rfl:(FN lH).body=some (bp lH)) (Sg.seg (C:=C0) ah KH 60 acz (aL (FN lH) [] [.int .i64 b]) (NW b) (fun a:Empty=>a.elim) afO [⟨[],[64],[2]⟩] (by kernel_rfl))
    (fun x=>by cases x with | r0 c d=>exact ⟨.inr rfl,[.sl 0 1 1 0 c c],[],by kernel_rfl,trivial,by kernel_rfl⟩) h
def Ab:Option lN→Bool
  | some _=>true
  | none=>false
def nu:Option lN→Nat
  | some (.r0 x _)=>x
  | _=>0
def nv:Option lN→List Int
  | some (.r0 _ x)=>x
  | _=>[]
theorem acB{x:Option lN}(h:Ab x=true) :x=some (.r0 (nu x) (nv x)):=by
  unfold Ab at h
  split at h <;> first | rfl | (cases h;done) | (rename_i y;cases y;rfl)
def Sh:aD:=bW lH (.cons (.int .i64) .nil) fun t=>[⟨Ij (.r0 (nu (gq t.1)) (nv (gq t.1))),[Ab (gq t.1)]⟩]
theorem XK:aM prog Sh:=aG fun t=>(aH (fun h=>acA t.1 (acB h)) aR)
def Si:List aD:=Sh :: WE
theorem Bs:aX prog (aZ Si):=am XK KH
inductive mc where
  | r0 (a:List Int) (b:Nat)
def KI:mc→AE×aC
  | .r0 a b=>(.ret,⟨ag 9 [(4,.imm .free (.ns .u64 a) 1 1 0 b)],[],0⟩)
theorem afP:lc KI:=by intro x;cases x <;> (intro h;cases h)
def KJ:mc→ju
  | .r0 a b=>⟨.imm .free (.ns .u64 a) 1 1 0 b,[]⟩
def Sj:List Code:=bD (bp ol)
def Sk:(List Int)×Nat→aC:=fun (a,b)=>⟨ag 9 [(4,.imm .free (.ns .u64 a) 1 1 0 b)],[],0⟩
def Sl(b:List Int)(a:Int) :T (((List Int)×Nat)⊕(mc)) :=
  .need (Ab (gq a))<|.need (aI 0 (List.length b) b)<|.need (aI 0 (nu (gq a)) (nv (gq a)))<|.need (tK (cX (aa 0 (List.length b) b) (aa 0 (nu (gq a)) (nv (gq a)))))<|.leaf (.inl ((fQ (cX (aa 0 (List.length b) b) (aa 0 (nu (gq a)) (nv (gq a))))),(fR (cX (aa 0 (List.length b) b) (aa 0 (nu (gq a)) (nv (gq a)))))))
def Sn(a:List Int)(b:Nat) :T ((Empty)⊕(mc)) :=
  .leaf (.inr (.r0 a b))
def md(a:List Int)(b:Int) :Option mc:=l6 (ax ((Sl a b).run) fun (c,d) =>
  (Sn c d).run)
theorem afQ(d:Lv)(b:List Int)(c:Int){x:mc}(h:md b c=some x) :ak prog ol [] [.imm d (.ns .u64 b) 1 1 0 (List.length b),.int .i64 c] (KJ x) :=
  Sg.contract true KJ (by kernel_rfl:prog.funcs[ol]? = some (FN ol)) (by kernel_rfl:(FN ol).body=some (bp ol)) (Sg.cut 2 afP (Sg.seg (C:=C0) ah Bs 60 (Sj.take 2) (aL (FN ol) [] [.imm d (.ns .u64 b) 1 1 0 (List.length b),.int .i64 c]) (Sl b c) Sk KI [⟨[],[],[4]⟩] (by kernel_rfl)) (fun a=>by obtain ⟨e,f⟩:=a;exact Sg.seg (C:=C0) ah Bs 60 (Sj.drop 2) (Sk (e,f)) (Sn e f) (fun a:Empty=>a.elim) KI [⟨[],[],[4]⟩] (by kernel_rfl)))
    (fun x=>by cases x with | r0 g i=>exact ⟨.inr rfl,[.imm .free (.ns .u64 g) 1 1 0 i],[],by kernel_rfl,trivial,by kernel_rfl⟩) h
def xH:Option mc→Bool
  | some _=>true
  | none=>false
def xI:Option mc→List Int
  | some (.r0 x _)=>x
  | _=>[]
def xJ:Option mc→Nat
  | some (.r0 _ x)=>x
  | _=>0
theorem afR{x:Option mc}(h:xH x=true) :x=some (.r0 (xI x) (xJ x)):=by
  unfold xH at h
  split at h <;> first | rfl | (cases h;done) | (rename_i y;cases y;rfl)
def WF:aD:=bW ol (.cons (.ns .u64) (.cons (.int .i64) .nil)) fun t=>[⟨KJ (.r0 (xI (md t.1.2 t.2.1)) (xJ (md t.1.2 t.2.1))),[xH (md t.1.2 t.2.1)]⟩]
theorem aaA:aM prog WF:=aG fun t=>(aH (fun h=>afQ t.1.1 t.1.2 t.2.1 (afR h)) aR)
def WG:List aD:=WF :: Si
theorem sC:aX prog (aZ WG):=am aaA Bs
inductive iq where
  | r0 (a:Int)
def qA:iq→AE×aC
  | .r0 a=>(.ret,⟨ag 27 [(2,.int .i64 a)],[],0⟩)
theorem Ac:lc qA:=by intro x;cases x <;> (intro h;cases h)
theorem acC(id:Nat) :qp id qA:=by intro x;cases x <;> (intro h;cases h)
def Ik:iq→ju
  | .r0 a=>⟨.int .i64 a,[]⟩
def rG:List Code:=bD (bp lF)
def NX:(List Int)×Nat→aC:=fun (a,b)=>⟨ag 27 [(0,.imm .free (.ns .u64 a) 1 1 0 b)],[],0⟩
def Ad(a:List Int) :T (((List Int)×Nat)⊕(iq)) :=
  .need (aI 0 (List.length a) a)<|.need (kp (cA (aa 0 (List.length a) a)))<|.leaf (.inl ((jB (cA (aa 0 (List.length a) a))),(jA (cA (aa 0 (List.length a) a)))))
def NY:Int×Int→aC:=fun (a,b)=>⟨ag 27 [(3,.int .i64 a),(4,.int .u64 b)],[],0⟩
def Ae(b:List Int)(a:Nat) :T ((Int×Int)⊕(iq)) :=
  .ask (((a:Nat):Int) == (0:Int))
    (.leaf (.inr (.r0 (0:Int))))
    (.need (dP .i64 (((a:Nat):Int) - (1:Int)))<|.need (dP .i64 ((64:Int) * (((a:Nat):Int) - (1:Int))))<|.need (dP .i64 (((a:Nat):Int) - (1:Int)))<|.need (iE (((a:Nat):Int) - (1:Int)) a)<|.need (iX (Int.toNat (((a:Nat):Int) - (1:Int))) (List.length b))<|.leaf (.inl (((64:Int) * (((a:Nat):Int) - (1:Int))),(List.getD b (Int.toNat (((a:Nat):Int) - (1:Int))) 0))))
def rH:Int×Int→aC:=fun (a,b)=>⟨ag 27 [(3,.int .i64 a),(4,.int .u64 b)],[],0⟩
def Af(a:Int) :aC:=⟨ag 27 [(3,.int .i64 a)],[],0⟩
def KK:List Code:=bD (bE (((((rG.drop 2).drop 4).take 1)).headD .skip))
def sD(a:Int)(b:Int) :T ((Int×Int)⊕((Int)⊕(iq))) :=
  .ask (decide (b > (0:Int)))
    (.need (dP .i64 (a+(1:Int)))<|.need ((2:Int) != (0:Int))<|.leaf (.inl ((a+(1:Int)),(IntKind.u64.wrap (Int.tdiv b (2:Int))))))
    (.leaf (.inr (.inl a)))
def DB:Int×Int→Option ((Int×Int)⊕((Int)⊕(iq))):=fun (a,b) =>
  (sD a b).run
theorem aaB(a:Int)(b:Int) :Sg prog [] KK (rH (a,b)) (DB (a,b)) rH (aO 0 Af qA):=by
  unfold DB;exact Sg.seg (C:=C0) ah sC 60 KK (rH (a,b)) (sD a b) rH (aO 0 Af qA) [⟨[],[],[3,4]⟩,⟨[],[],[3]⟩] (by kernel_rfl)
def acD:Int→aC:=Af
def KL(a:Int) :T ((Empty)⊕(iq)) :=
  .leaf (.inr (.r0 a))
def oD(a:List Int) :Option iq:=l6 (ax ((Ad a).run) fun (b,c) =>
  ax ((Ae b c).run) fun (d,e) =>
  ax (dH (DB) (d,e)) fun f =>
  (KL f).run)
theorem acE(e:Lv)(b:List Int){x:iq}(h:oD b=some x) :ak prog lF [] [.imm e (.ns .u64 b) 1 1 0 (List.length b)] (Ik x) :=
  Sg.contract true Ik (by kernel_rfl:prog.funcs[lF]? = some (FN lF)) (by kernel_rfl:(FN lF).body=some (bp lF)) (Sg.cut 2 Ac (Sg.seg (C:=C0) ah sC 60 (rG.take 2) (aL (FN lF) [] [.imm e (.ns .u64 b) 1 1 0 (List.length b)]) (Ad b) NX qA [⟨[],[],[0]⟩] (by kernel_rfl)) (fun a=>by obtain ⟨f,g⟩:=a;exact Sg.cut 4 Ac (Sg.seg (C:=C0) ah sC 60 ((rG.drop 2).take 4) (NX (f,g)) (Ae f g) NY qA [⟨[],[],[2]⟩,⟨[],[],[3,4]⟩] (by kernel_rfl)) (fun a=>by obtain ⟨c,d⟩:=a;exact Sg.cut 1 Ac (Sg.pre ⟨[],[],[3,4]⟩ rfl (by kernel_rfl:NS.on ⟨[],[],[3,4]⟩ (NY (c,d))=(rH) (c,d)) (bT (I:=(rH)) (J:=(Af)) (id:=0) (by kernel_rfl:(((rG.drop 2).drop 4).take 1) = [.block 0 (.loop (bE (((((rG.drop 2).drop 4).take 1)).headD .skip)))]) Ac (acC _) (fun s=>by obtain ⟨j,k⟩:=s;exact aaB j k) (c,d))) (fun i=>by exact Sg.seg (C:=C0) ah sC 60 (((rG.drop 2).drop 4).drop 1) (acD i) (KL i) (fun a:Empty=>a.elim) qA [⟨[],[],[2]⟩] (by kernel_rfl)))))
    (fun x=>by cases x with | r0 l=>exact ⟨.inr rfl,[.int .i64 l],[],by kernel_rfl,trivial,by kernel_rfl⟩) h
def uT:Option iq→Bool
  | some _=>true
  | none=>false
def vK:Option iq→Int
  | some (.r0 x)=>x
  | _=>0
theorem acF{x:Option iq}(h:uT x=true) :x=some (.r0 (vK x)):=by
  unfold uT at h
  split at h <;> first | rfl | (cases h;done) | (rename_i y;cases y;rfl)
def So:aD:=bW lF (.cons (.ns .u64) .nil) fun t=>[⟨Ik (.r0 (vK (oD t.1.2))),[uT (oD t.1.2)]⟩]
theorem XL:aM prog So:=aG fun t=>(aH (fun h=>acE t.1.1 t.1.2 (acF h)) aR)
def Sp:List aD:=So :: WG
theorem Bt:aX prog (aZ Sp):=am XL sC
inductive oE where
  | r0 (a:Bool)
def KM:oE→AE×aC
  | .r0 a=>(.ret,⟨ag 27 [(4,.bool false a)],[],0⟩)
theorem afS:lc KM:=by intro x;cases x <;> (intro h;cases h)
def KN:oE→ju
  | .r0 a=>⟨.bool false a,[]⟩
def Sq:List Code:=bD (bp oi)
def Sr(a:Bool) :aC:=⟨ag 27 [(4,.bool false a)],[],0⟩
def Il(b:List Int)(a:Int) :T ((Bool)⊕(oE)) :=
  .ask (decide (a ≥ (0:Int)))
    (.need ((64:Int) != (0:Int))<|.need (dP .i64 (Int.tdiv a (64:Int)))<|.ask (decide ((Int.tdiv a (64:Int)) < (((List.length b):Nat):Int)))
      (.need ((64:Int) != (0:Int))<|.need (dP .i64 (Int.tdiv a (64:Int)))<|.need (iE (Int.tdiv a (64:Int)) (List.length b))<|.need (iX (Int.toNat (Int.tdiv a (64:Int))) (List.length b))<|.need ((64:Int) != (0:Int))<|.need (decide ((0:Int)≤(IntKind.u64.wrap (Int.tmod a (64:Int)))))<|.need ((2:Int) != (0:Int))<|.leaf (.inl ((Int.tmod (Int.fdiv (List.getD b (Int.toNat (Int.tdiv a (64:Int))) 0) (2 ^ (min (Int.toNat (IntKind.u64.wrap (Int.tmod a (64:Int)))) (IntKind.u64.bits)))) (2:Int)) == (1:Int))))
      (.leaf (.inl false)))
    (.leaf (.inl false))
def Ss(a:Bool) :T ((Empty)⊕(oE)) :=
  .leaf (.inr (.r0 a))
def me(a:List Int)(b:Int) :Option oE:=l6 (ax ((Il a b).run) fun c =>
  (Ss c).run)
theorem afT(d:Lv)(b:List Int)(c:Int){x:oE}(h:me b c=some x) :ak prog oi [] [.imm d (.ns .u64 b) 1 1 0 (List.length b),.int .i64 c] (KN x) :=
  Sg.contract true KN (by kernel_rfl:prog.funcs[oi]? = some (FN oi)) (by kernel_rfl:(FN oi).body=some (bp oi)) (Sg.cut 2 afS (Sg.seg (C:=C0) ah Bt 60 (Sq.take 2) (aL (FN oi) [] [.imm d (.ns .u64 b) 1 1 0 (List.length b),.int .i64 c]) (Il b c) Sr KM [⟨[],[],[4]⟩,⟨[],[],[4]⟩,⟨[],[],[4]⟩] (by kernel_rfl)) (fun e=>by exact Sg.seg (C:=C0) ah Bt 60 (Sq.drop 2) (Sr e) (Ss e) (fun a:Empty=>a.elim) KM [⟨[],[],[4]⟩] (by kernel_rfl)))
    (fun x=>by cases x with | r0 f=>exact ⟨.inr rfl,[.bool false f],[],by kernel_rfl,trivial,by kernel_rfl⟩) h
def qB:Option oE→Bool
  | some _=>true
  | none=>false
def pH:Option oE→Bool
  | some (.r0 x)=>x
  | _=>false
theorem afU{x:Option oE}(h:qB x=true) :x=some (.r0 (pH x)):=by
  unfold qB at h
  split at h <;> first | rfl | (cases h;done) | (rename_i y;cases y;rfl)
def WH:aD:=bW oi (.cons (.ns .u64) (.cons (.int .i64) .nil)) fun t=>[⟨KN (.r0 (pH (me t.1.2 t.2.1))),[qB (me t.1.2 t.2.1)]⟩]
theorem aaC:aM prog WH:=aG fun t=>(aH (fun h=>afT t.1.1 t.1.2 t.2.1 (afU h)) aR)
def WI:List aD:=WH :: Sp
theorem fS:aX prog (aZ WI):=am aaC Bt
end
end Go.Plb.Seat
namespace Go.Plb.Seat
open Go Go.Plb
set_option linter.unusedVariables false
set_option maxRecDepth 100000
noncomputable section
inductive dq where
  | r0 (a:List Int) (b:Nat) (c:Bool)
def gS:dq→AE×aC
  | .r0 a b c=>(.ret,⟨ag 68 [(4,.imm .free (.ns .u64 a) 1 1 0 b),(5,.bool false c)],[],0⟩)
theorem jf:lc gS:=by intro x;cases x <;> (intro h;cases h)
theorem St(id:Nat) :qp id gS:=by intro x;cases x <;> (intro h;cases h)
def KO:dq→ju
  | .r0 a b c=>⟨.tup [.imm .free (.ns .u64 a) 1 1 0 b,.bool false c],[]⟩
def g6:List Code:=bD (bp n6)
def Su(b:Lv)(a:List Int)(c:Int) :Bool×Int→aC:=fun (d,e)=>⟨ag 68 [(0,.imm b (.ns .u64 a) 1 1 0 (List.length a)),(1,.int .i64 c),(6,.bool false d),(7,.int .i64 e)],[],0⟩
def Ag(a:List Int) :T ((Bool×Int)⊕(dq)) :=
  .need (aI 0 (List.length a) a)<|.need (uT (oD (aa 0 (List.length a) a)))<|.leaf (.inl (false,(vK (oD (aa 0 (List.length a) a)))))
def Sv(b:Lv)(a:List Int)(c:Int)(d:Bool)(e:Int)(_:Unit) :aC:=⟨ag 68 [(0,.imm b (.ns .u64 a) 1 1 0 (List.length a)),(1,.int .i64 c),(6,.bool false d),(7,.int .i64 e),(8,.int .i64 (0:Int))],[],0⟩
def NZ:T ((Unit)⊕(dq)) :=
  .leaf (.inl ())
def tL(b:Lv)(a:List Int)(c:Int)(d:Int) :Bool×Nat→aC:=fun (e,f)=>⟨ag 68 [(0,.imm b (.ns .u64 a) 1 1 0 (List.length a)),(1,.int .i64 c),(6,.bool false e),(7,.int .i64 d),(8,.int .i64 ((f:Nat):Int))],[],0⟩
def tM(b:Lv)(a:List Int)(c:Int)(d:Int)(e:Bool) :aC:=⟨ag 68 [(0,.imm b (.ns .u64 a) 1 1 0 (List.length a)),(1,.int .i64 c),(6,.bool false e),(7,.int .i64 d)],[],0⟩
def Ah:List Code:=bD (bE (((((g6.drop 3).drop 1).take 1)).headD .skip))
def Sw(b:Lv)(a:List Int)(c:Int)(d:Int)(e:Bool)(f:Nat)(g:Bool) :aC:=⟨ag 68 [(0,.imm b (.ns .u64 a) 1 1 0 (List.length a)),(1,.int .i64 c),(6,.bool false e),(7,.int .i64 d),(8,.int .i64 ((f:Nat):Int)),(20,.bool false g)],[],0⟩
def rI(b:Int)(c:Int)(a:Nat) :T ((Bool)⊕((Bool)⊕(dq))) :=
  .ask (decide (((a:Nat):Int) < b))
    (.leaf (.inl (decide (((a:Nat):Int) < c))))
    (.leaf (.inl false))
def Sx(b:Lv)(a:List Int)(c:Int)(d:Int)(e:Nat)(f:Bool) :aC:=⟨ag 68 [(0,.imm b (.ns .u64 a) 1 1 0 (List.length a)),(1,.int .i64 c),(6,.bool false f),(7,.int .i64 d),(8,.int .i64 ((e:Nat):Int))],[],0⟩
def Ai(a:List Int)(b:Bool)(c:Nat)(d:Bool) :T ((Bool)⊕((Bool)⊕(dq))) :=
  .ask d
    (.ask b
      (.leaf (.inl true))
      (.need (aI 0 (List.length a) a)<|.need (qB (me (aa 0 (List.length a) a) ((c:Nat):Int)))<|.leaf (.inl (pH (me (aa 0 (List.length a) a) ((c:Nat):Int))))))
    (.leaf (.inr (.inl b)))
def N0(a:Nat)(b:Bool) :T ((Bool×Nat)⊕((Bool)⊕(dq))) :=
  .need (dP .i64 (((a+1):Nat):Int))<|.leaf (.inl (b,(a+1)))
def Aj(b:List Int)(c:Int)(d:Int) :Bool×Nat→Option ((Bool×Nat)⊕((Bool)⊕(dq))):=fun (e,a) =>
  ax ((rI c d a).run) fun f =>
  ax ((Ai b e a f).run) fun g =>
  (N0 a g).run
theorem acG(d:Lv)(a:List Int)(b:Int)(c:Int)(f:Bool)(e:Nat) :Sg prog [] Ah (tL d a b c (f,e)) (Aj a b c (f,e)) (tL d a b c) (aO 0 (tM d a b c) gS):=by
  unfold Aj;exact Sg.cut 1 (aW jf) (Sg.seg (C:=C0) ah fS 60 (Ah.take 1) (tL d a b c (f,e)) (rI b c e) (Sw d a b c f e) (aO 0 (tM d a b c) gS) [⟨[],[],[0,1,6,7,8,20]⟩,⟨[],[],[0,1,6,7,8,20]⟩] (by kernel_rfl)) (fun g=>by exact Sg.cut 2 (aW jf) (Sg.seg (C:=C0) ah fS 60 ((Ah.drop 1).take 2) (Sw d a b c f e g) (Ai a f e g) (Sx d a b c e) (aO 0 (tM d a b c) gS) [⟨[],[],[0,1,6,7,8]⟩,⟨[],[],[0,1,6,7,8]⟩,⟨[],[],[0,1,6,7]⟩] (by kernel_rfl)) (fun h=>by exact Sg.seg (C:=C0) ah fS 60 ((Ah.drop 1).drop 2) (Sx d a b c e h) (N0 e h) (tL d a b c) (aO 0 (tM d a b c) gS) [⟨[],[],[0,1,6,7,8]⟩] (by kernel_rfl)))
def acH(a:Lv)(b:List Int)(c:Int)(d:Int) :Bool→aC:=tM a b c d
def N2(c:Lv)(a:List Int)(b:Int)(d:Int)(e:Bool)(f:(List Int)) :aC:=⟨ag 68 [(0,.imm c (.ns .u64 a) 1 1 0 (List.length a)),(1,.int .i64 b),(6,.bool false e),(7,.int .i64 d),(9,.sl 0 1 1 0 (List.length a) (List.length a)),(10,.int .i64 b)],[(0,.ns .u64 f)],1⟩
def Ak(a:List Int)(b:Int)(c:Int)(d:Bool) :T (((List Int))⊕(dq)) :=
  .ask (decide (b ≥ c))
    (.leaf (.inr (.r0 ([]:List Int) 0 d)))
    (.need (decide ((0:Int)≤(((List.length a):Nat):Int)))<|.need (decide ((((List.length a):Nat):Int)≤(((List.length a):Nat):Int)))<|.need (decide ((8:Int) * (((List.length a):Nat):Int)≤140737488355328))<|.need (dP .i64 (((List.length a):Nat):Int))<|.leaf (.inl (List.replicate (List.length a) (0:Int))))
def rJ(b:Lv)(a:List Int)(c:Int)(d:Int)(e:Bool) :Int×(List Int)→aC:=fun (f,g)=>⟨ag 68 [(0,.imm b (.ns .u64 a) 1 1 0 (List.length a)),(1,.int .i64 c),(6,.bool false e),(7,.int .i64 d),(9,.sl 0 1 1 0 (List.length a) (List.length a)),(10,.int .i64 f)],[(0,.ns .u64 g)],1⟩
def uU(a:List Int)(b:Bool)(c:(List Int)) :aC:=⟨ag 68 [(6,.bool false b),(9,.sl 0 1 1 0 (List.length a) (List.length a))],[(0,.ns .u64 c)],1⟩
def FO:List Code:=bD (bE (((((((g6.drop 3).drop 1).drop 1).drop 4).take 1)).headD .skip))
def N3(b:Lv)(a:List Int)(c:Int)(d:Int)(e:Bool)(f:Int)(g:(List Int)) :aC:=⟨ag 68 [(0,.imm b (.ns .u64 a) 1 1 0 (List.length a)),(1,.int .i64 c),(6,.bool false e),(7,.int .i64 d),(9,.sl 0 1 1 0 (List.length a) (List.length a)),(10,.int .i64 f)],[(0,.ns .u64 g)],1⟩
def uV(c:List Int)(b:Int)(e:Int)(a:Int)(d:List Int) :T (((List Int))⊕(((List Int))⊕(dq))) :=
  .ask (decide (a < e))
    (.need (aI 0 (List.length c) c)<|.need (qB (me (aa 0 (List.length c) c) a))<|.ask (pH (me (aa 0 (List.length c) c) a))
      (.need (dP .i64 (a - b))<|.need ((64:Int) != (0:Int))<|.need (dP .i64 (Int.tdiv (a - b) (64:Int)))<|.need (dP .i64 (a - b))<|.need ((64:Int) != (0:Int))<|.need (dP .i64 (Int.tdiv (a - b) (64:Int)))<|.need (iE (Int.tdiv (a - b) (64:Int)) (List.length c))<|.need (iX (Int.toNat (Int.tdiv (a - b) (64:Int))) (List.length d))<|.need (dP .i64 (a - b))<|.need ((64:Int) != (0:Int))<|.need (decide ((0:Int)≤(IntKind.u64.wrap (Int.tmod (a - b) (64:Int)))))<|.need (iE (Int.tdiv (a - b) (64:Int)) (List.length c))<|.need (iX (Int.toNat (Int.tdiv (a - b) (64:Int))) (List.length d))<|.leaf (.inl (List.set d (Int.toNat (Int.tdiv (a - b) (64:Int))) (IntKind.u64.wrap ((List.getD d (Int.toNat (Int.tdiv (a - b) (64:Int))) 0)+(IntKind.u64.wrap ((1:Int) * 2 ^ (min (Int.toNat (IntKind.u64.wrap (Int.tmod (a - b) (64:Int)))) (IntKind.u64.bits)))))))))
      (.leaf (.inl d)))
    (.leaf (.inr (.inl d)))
def N4(a:Int)(b:List Int) :T ((Int×(List Int))⊕(((List Int))⊕(dq))) :=
  .need (dP .i64 (a+(1:Int)))<|.leaf (.inl ((a+(1:Int)),b))
def FP(b:List Int)(c:Int)(d:Int) :Int×(List Int)→Option ((Int×(List Int))⊕(((List Int))⊕(dq))):=fun (a,e) =>
  ax ((uV b c d a e).run) fun f =>
  (N4 a f).run
theorem acI(f:Lv)(a:List Int)(c:Int)(d:Int)(b:Bool)(e:Int)(g:List Int) :Sg prog [] FO (rJ f a c d b (e,g)) (FP a c d (e,g)) (rJ f a c d b) (aO 2 (uU a b) gS):=by
  unfold FP;exact Sg.cut 3 (aW jf) (Sg.seg (C:=C0) ah fS 60 (FO.take 3) (rJ f a c d b (e,g)) (uV a c d e g) (N3 f a c d b e) (aO 2 (uU a b) gS) [⟨[],[0],[0,1,6,7,9,10]⟩,⟨[],[0],[0,1,6,7,9,10]⟩,⟨[],[0],[6,9]⟩] (by kernel_rfl)) (fun h=>by exact Sg.seg (C:=C0) ah fS 60 (FO.drop 3) (N3 f a c d b e h) (N4 e h) (rJ f a c d b) (aO 2 (uU a b) gS) [⟨[],[0],[0,1,6,7,9,10]⟩] (by kernel_rfl))
def acJ(a:List Int)(b:Bool) :(List Int)→aC:=uU a b
def N5(a:Bool) :(List Int)×Nat→aC:=fun (b,c)=>⟨ag 68 [(4,.imm .free (.ns .u64 b) 1 1 0 c),(5,.bool false a)],[],0⟩
def FQ(a:List Int)(b:List Int) :T (((List Int)×Nat)⊕(dq)) :=
  .need (aI 0 (List.length a) b)<|.need (kp (cA (aa 0 (List.length a) b)))<|.leaf (.inl ((jB (cA (aa 0 (List.length a) b))),(jA (cA (aa 0 (List.length a) b)))))
def N6(a:Bool)(b:List Int)(c:Nat) :T ((Empty)⊕(dq)) :=
  .leaf (.inr (.r0 b c a))
def oF(a:List Int)(b:Int) :Option dq:=l6 (ax ((Ag a).run) fun (e,c) =>
  ax ((NZ).run) fun _ =>
  ax (dH (Aj a b c) (e,0)) fun d =>
  ax ((Ak a b c d).run) fun f =>
  ax (dH (FP a b c) (b,f)) fun g =>
  ax ((FQ a g).run) fun (h,i) =>
  (N6 d h i).run)
theorem afV(d:Lv)(b:List Int)(c:Int){x:dq}(h:oF b c=some x) :ak prog n6 [] [.imm d (.ns .u64 b) 1 1 0 (List.length b),.int .i64 c] (KO x) :=
  Sg.contract true KO (by kernel_rfl:prog.funcs[n6]? = some (FN n6)) (by kernel_rfl:(FN n6).body=some (bp n6)) (Sg.cut 3 jf (Sg.seg (C:=C0) ah fS 60 (g6.take 3) (aL (FN n6) [] [.imm d (.ns .u64 b) 1 1 0 (List.length b),.int .i64 c]) (Ag b) (Su d b c) gS [⟨[],[],[0,1,6,7]⟩] (by kernel_rfl)) (fun a=>by obtain ⟨g,e⟩:=a;exact Sg.cut 1 jf (Sg.seg (C:=C0) ah fS 60 ((g6.drop 3).take 1) (Su d b c (g,e)) (NZ) (Sv d b c g e) gS [⟨[],[],[0,1,6,7,8]⟩] (by kernel_rfl)) (fun a=>by cases a;exact Sg.cut 1 jf (Sg.pre ⟨[],[],[0,1,6,7,8]⟩ rfl (by kernel_rfl:NS.on ⟨[],[],[0,1,6,7,8]⟩ (Sv d b c g e ())=(tL d b c e) (g,0)) (bT (I:=(tL d b c e)) (J:=(tM d b c e)) (id:=0) (by kernel_rfl:(((g6.drop 3).drop 1).take 1) = [.block 0 (.loop (bE (((((g6.drop 3).drop 1).take 1)).headD .skip)))]) jf (St _) (fun s=>by obtain ⟨m,n⟩:=s;exact acG d b c e m n) (g,0))) (fun f=>by exact Sg.cut 4 jf (Sg.seg (C:=C0) ah fS 60 ((((g6.drop 3).drop 1).drop 1).take 4) (acH d b c e f) (Ak b c e f) (N2 d b c e f) gS [⟨[(.slot 4,.fre 1 1 (.ns .u64 ([]:List Int)))],[],[4,5]⟩,⟨[],[80],[0,1,6,7,9,10]⟩] (by kernel_rfl)) (fun i=>by exact Sg.cut 1 jf (Sg.pre ⟨[],[0],[0,1,6,7,9,10]⟩ rfl (by kernel_rfl:NS.on ⟨[],[0],[0,1,6,7,9,10]⟩ (N2 d b c e f i)=(rJ d b c e f) (c,i)) (bT (I:=(rJ d b c e f)) (J:=(uU b f)) (id:=2) (by kernel_rfl:(((((g6.drop 3).drop 1).drop 1).drop 4).take 1) = [.block 2 (.loop (bE (((((((g6.drop 3).drop 1).drop 1).drop 4).take 1)).headD .skip)))]) jf (St _) (fun s=>by obtain ⟨o,p⟩:=s;exact acI d b c e f o p) (c,i))) (fun j=>by exact Sg.cut 1 jf (Sg.seg (C:=C0) ah fS 60 ((((((g6.drop 3).drop 1).drop 1).drop 4).drop 1).take 1) (acJ b f j) (FQ b j) (N5 f) gS [⟨[],[],[4,5]⟩] (by kernel_rfl)) (fun a=>by obtain ⟨k,l⟩:=a;exact Sg.seg (C:=C0) ah fS 60 ((((((g6.drop 3).drop 1).drop 1).drop 4).drop 1).drop 1) (N5 f (k,l)) (N6 f k l) (fun a:Empty=>a.elim) gS [⟨[],[],[4,5]⟩] (by kernel_rfl))))))))
    (fun x=>by cases x with | r0 q r t=>exact ⟨.inr rfl,[.imm .free (.ns .u64 q) 1 1 0 r,.bool false t],[],by kernel_rfl,trivial,by kernel_rfl⟩) h
def Cs:Option dq→Bool
  | some _=>true
  | none=>false
def DC:Option dq→List Int
  | some (.r0 x _ _)=>x
  | _=>[]
def DD:Option dq→Nat
  | some (.r0 _ x _)=>x
  | _=>0
def KP:Option dq→Bool
  | some (.r0 _ _ x)=>x
  | _=>false
theorem afW{x:Option dq}(h:Cs x=true) :x=some (.r0 (DC x) (DD x) (KP x)):=by
  unfold Cs at h
  split at h <;> first | rfl | (cases h;done) | (rename_i y;cases y;rfl)
def WJ:aD:=bW n6 (.cons (.ns .u64) (.cons (.int .i64) .nil)) fun t=>[⟨KO (.r0 (DC (oF t.1.2 t.2.1)) (DD (oF t.1.2 t.2.1)) (KP (oF t.1.2 t.2.1))),[Cs (oF t.1.2 t.2.1)]⟩]
theorem aaD:aM prog WJ:=aG fun t=>(aH (fun h=>afV t.1.1 t.1.2 t.2.1 (afW h)) aR)
def WK:List aD:=WJ :: WI
theorem pI:aX prog (aZ WK):=am aaD fS
inductive fc where
  | r0 (a:Nat)
def mf:fc→AE×aC
  | .r0 a=>(.ret,⟨ag 16 [(2,.int .i64 ((a:Nat):Int))],[],0⟩)
theorem sE:lc mf:=by intro x;cases x <;> (intro h;cases h)
theorem aaE(id:Nat) :qp id mf:=by intro x;cases x <;> (intro h;cases h)
def FS:fc→ju
  | .r0 a=>⟨.int .i64 ((a:Nat):Int),[]⟩
def pJ:List Code:=bD (bp kf)
def KQ(b:Lv)(a:List Int)(c:Int) :aC:=⟨ag 16 [(0,.imm b (.ns .u64 a) 1 1 0 (List.length a)),(3,.int .i64 c)],[],0⟩
def Bu(a:List Int) :T ((Int)⊕(fc)) :=
  .need (aI 0 (List.length a) a)<|.need (uT (oD (aa 0 (List.length a) a)))<|.leaf (.inl (vK (oD (aa 0 (List.length a) a))))
def KR(b:Lv)(a:List Int)(c:Int)(_:Unit) :aC:=⟨ag 16 [(0,.imm b (.ns .u64 a) 1 1 0 (List.length a)),(3,.int .i64 c),(4,.int .i64 (0:Int))],[],0⟩
def I2:T ((Unit)⊕(fc)) :=
  .leaf (.inl ())
def pK(b:Lv)(a:List Int)(c:Int)(d:Nat) :aC:=⟨ag 16 [(0,.imm b (.ns .u64 a) 1 1 0 (List.length a)),(3,.int .i64 c),(4,.int .i64 ((d:Nat):Int))],[],0⟩
def sF(_:Unit) :aC:=⟨ag 16 [],[],0⟩
def Bv:List Code:=bD (bE (((((pJ.drop 2).drop 1).take 1)).headD .skip))
def KS(b:Lv)(a:List Int)(c:Int)(d:Nat)(_:Unit) :aC:=⟨ag 16 [(0,.imm b (.ns .u64 a) 1 1 0 (List.length a)),(3,.int .i64 c),(4,.int .i64 ((d:Nat):Int))],[],0⟩
def nw(a:List Int)(c:Int)(b:Nat) :T ((Unit)⊕((Unit)⊕(fc))) :=
  .ask (decide (((b:Nat):Int) < c))
    (.need (aI 0 (List.length a) a)<|.need (qB (me (aa 0 (List.length a) a) ((b:Nat):Int)))<|.ask (pH (me (aa 0 (List.length a) a) ((b:Nat):Int)))
      (.leaf (.inr (.inr (.r0 b))))
      (.leaf (.inl ())))
    (.leaf (.inr (.inl ())))
def I3(a:Nat) :T ((Nat)⊕((Unit)⊕(fc))) :=
  .need (dP .i64 (((a+1):Nat):Int))<|.leaf (.inl (a+1))
def Bw(b:List Int)(c:Int) :Nat→Option ((Nat)⊕((Unit)⊕(fc))):=fun a =>
  ax ((nw b c a).run) fun _ =>
  (I3 a).run
theorem XM(e:Lv)(b:List Int)(c:Int)(d:Nat) :Sg prog [] Bv (pK e b c d) (Bw b c d) (pK e b c) (aO 0 sF mf):=by
  unfold Bw;exact Sg.cut 3 (aW sE) (Sg.seg (C:=C0) ah pI 60 (Bv.take 3) (pK e b c d) (nw b c d) (KS e b c d) (aO 0 sF mf) [⟨[],[],[2]⟩,⟨[],[],[0,3,4]⟩,⟨[],[],[]⟩] (by kernel_rfl)) (fun a=>by cases a;exact Sg.seg (C:=C0) ah pI 60 (Bv.drop 3) (KS e b c d ()) (I3 d) (pK e b c) (aO 0 sF mf) [⟨[],[],[0,3,4]⟩] (by kernel_rfl))
def aaF:Unit→aC:=sF
def I4:T ((Empty)⊕(fc)) :=
  .leaf (.inr (.r0 0))
def rK(a:List Int) :Option fc:=l6 (ax ((Bu a).run) fun b =>
  ax ((I2).run) fun _ =>
  ax (dH (Bw a b) 0) fun _ =>
  (I4).run)
theorem aaG(c:Lv)(b:List Int){x:fc}(h:rK b=some x) :ak prog kf [] [.imm c (.ns .u64 b) 1 1 0 (List.length b)] (FS x) :=
  Sg.contract true FS (by kernel_rfl:prog.funcs[kf]? = some (FN kf)) (by kernel_rfl:(FN kf).body=some (bp kf)) (Sg.cut 2 sE (Sg.seg (C:=C0) ah pI 60 (pJ.take 2) (aL (FN kf) [] [.imm c (.ns .u64 b) 1 1 0 (List.length b)]) (Bu b) (KQ c b) mf [⟨[],[],[0,3]⟩] (by kernel_rfl)) (fun d=>by exact Sg.cut 1 sE (Sg.seg (C:=C0) ah pI 60 ((pJ.drop 2).take 1) (KQ c b d) (I2) (KR c b d) mf [⟨[],[],[0,3,4]⟩] (by kernel_rfl)) (fun a=>by cases a;exact Sg.cut 1 sE (Sg.pre ⟨[],[],[0,3,4]⟩ rfl (by kernel_rfl:NS.on ⟨[],[],[0,3,4]⟩ (KR c b d ())=(pK c b d) 0) (bT (I:=(pK c b d)) (J:=(sF)) (id:=0) (by kernel_rfl:(((pJ.drop 2).drop 1).take 1) = [.block 0 (.loop (bE (((((pJ.drop 2).drop 1).take 1)).headD .skip)))]) sE (aaE _) (fun s=>by exact XM c b d s) 0)) (fun a=>by cases a;exact Sg.seg (C:=C0) ah pI 60 (((pJ.drop 2).drop 1).drop 1) (aaF ()) (I4) (fun a:Empty=>a.elim) mf [⟨[],[],[2]⟩] (by kernel_rfl)))))
    (fun x=>by cases x with | r0 e=>exact ⟨.inr rfl,[.int .i64 ((e:Nat):Int)],[],by kernel_rfl,trivial,by kernel_rfl⟩) h
def xK:Option fc→Bool
  | some _=>true
  | none=>false
def ze:Option fc→Nat
  | some (.r0 x)=>x
  | _=>0
theorem aaH{x:Option fc}(h:xK x=true) :x=some (.r0 (ze x)):=by
  unfold xK at h
  split at h <;> first | rfl | (cases h;done) | (rename_i y;cases y;rfl)
def N7:aD:=bW kf (.cons (.ns .u64) .nil) fun t=>[⟨FS (.r0 (ze (rK t.1.2))),[xK (rK t.1.2)]⟩]
theorem UO:aM prog N7:=aG fun t=>(aH (fun h=>aaG t.1.1 t.1.2 (aaH h)) aR)
def N8:List aD:=N7 :: WK
theorem pL:aX prog (aZ N8):=am UO pI
inductive jD where
  | r0 (a:Int)
def sG:jD→AE×aC
  | .r0 a=>(.ret,⟨ag 45 [(4,.int .i64 a)],[],0⟩)
theorem Ct:lc sG:=by intro x;cases x <;> (intro h;cases h)
theorem afX(id:Nat) :qp id sG:=by intro x;cases x <;> (intro h;cases h)
def KT:jD→ju
  | .r0 a=>⟨.int .i64 a,[]⟩
def tN:List Code:=bD (bp oc)
def Sy:(List Int)×Nat×(List Int)×Nat→aC:=fun (a,b,c,d)=>⟨ag 45 [(0,.imm .free (.ns .u64 a) 1 1 0 b),(1,.imm .free (.ns .u64 c) 1 1 0 d)],[],0⟩
def Sz(a:List Int)(b:List Int) :T (((List Int)×Nat×(List Int)×Nat)⊕(jD)) :=
  .need (aI 0 (List.length a) a)<|.need (kp (cA (aa 0 (List.length a) a)))<|.need (aI 0 (List.length b) b)<|.need (kp (cA (aa 0 (List.length b) b)))<|.leaf (.inl ((jB (cA (aa 0 (List.length a) a))),(jA (cA (aa 0 (List.length a) a))),(jB (cA (aa 0 (List.length b) b))),(jA (cA (aa 0 (List.length b) b)))))
def SA(a:List Int)(b:Nat)(c:List Int)(d:Nat)(e:Int) :aC:=⟨ag 45 [(0,.imm .free (.ns .u64 a) 1 1 0 b),(1,.imm .free (.ns .u64 c) 1 1 0 d),(5,.int .i64 e)],[],0⟩
def SB(a:Nat)(b:Nat) :T ((Int)⊕(jD)) :=
  .ask (((a:Nat):Int) != ((b:Nat):Int))
    (.ask (decide (((a:Nat):Int) < ((b:Nat):Int)))
      (.leaf (.inr (.r0 (-1:Int))))
      (.leaf (.inr (.r0 (1:Int)))))
    (.need (dP .i64 (((a:Nat):Int) - (1:Int)))<|.leaf (.inl (((a:Nat):Int) - (1:Int))))
def tO(a:List Int)(b:Nat)(c:List Int)(d:Nat)(e:Int) :aC:=⟨ag 45 [(0,.imm .free (.ns .u64 a) 1 1 0 b),(1,.imm .free (.ns .u64 c) 1 1 0 d),(5,.int .i64 e)],[],0⟩
def Cu(_:Unit) :aC:=⟨ag 45 [],[],0⟩
def N9:List Code:=bD (bE (((((tN.drop 2).drop 3).take 1)).headD .skip))
def Oa(b:List Int)(d:Nat)(c:List Int)(e:Nat)(a:Int) :T ((Int)⊕((Unit)⊕(jD))) :=
  .ask (decide (a ≥ (0:Int)))
    (.need (iE a d)<|.need (iX (Int.toNat a) (List.length b))<|.need (iE a e)<|.need (iX (Int.toNat a) (List.length c))<|.ask (decide ((List.getD b (Int.toNat a) 0) < (List.getD c (Int.toNat a) 0)))
      (.leaf (.inr (.inr (.r0 (-1:Int)))))
      (.need (iE a d)<|.need (iX (Int.toNat a) (List.length b))<|.need (iE a e)<|.need (iX (Int.toNat a) (List.length c))<|.ask (decide ((List.getD b (Int.toNat a) 0) > (List.getD c (Int.toNat a) 0)))
        (.leaf (.inr (.inr (.r0 (1:Int)))))
        (.need (dP .i64 (a - (1:Int)))<|.leaf (.inl (a - (1:Int))))))
    (.leaf (.inr (.inl ())))
def FU(a:List Int)(b:Nat)(c:List Int)(d:Nat) :Int→Option ((Int)⊕((Unit)⊕(jD))):=fun e =>
  (Oa a b c d e).run
theorem acK(a:List Int)(b:Nat)(c:List Int)(d:Nat)(e:Int) :Sg prog [] N9 (tO a b c d e) (FU a b c d e) (tO a b c d) (aO 0 Cu sG):=by
  unfold FU;exact Sg.seg (C:=C0) ah pL 60 N9 (tO a b c d e) (Oa a b c d e) (tO a b c d) (aO 0 Cu sG) [⟨[],[],[4]⟩,⟨[],[],[4]⟩,⟨[],[],[0,1,5]⟩,⟨[],[],[]⟩] (by kernel_rfl)
def afY:Unit→aC:=Cu
def Ob:T ((Empty)⊕(jD)) :=
  .leaf (.inr (.r0 (0:Int)))
def oG(c:List Int)(d:List Int) :Option jD:=l6 (ax ((Sz c d).run) fun (e,a,f,b) =>
  ax ((SB a b).run) fun g =>
  ax (dH (FU e a f b) g) fun _ =>
  (Ob).run)
theorem afZ(j:Lv)(d:List Int)(k:Lv)(e:List Int){x:jD}(h:oG d e=some x) :ak prog oc [] [.imm j (.ns .u64 d) 1 1 0 (List.length d),.imm k (.ns .u64 e) 1 1 0 (List.length e)] (KT x) :=
  Sg.contract true KT (by kernel_rfl:prog.funcs[oc]? = some (FN oc)) (by kernel_rfl:(FN oc).body=some (bp oc)) (Sg.cut 2 Ct (Sg.seg (C:=C0) ah pL 60 (tN.take 2) (aL (FN oc) [] [.imm j (.ns .u64 d) 1 1 0 (List.length d),.imm k (.ns .u64 e) 1 1 0 (List.length e)]) (Sz d e) Sy sG [⟨[],[],[0,1]⟩] (by kernel_rfl)) (fun a=>by obtain ⟨f,b,g,c⟩:=a;exact Sg.cut 3 Ct (Sg.seg (C:=C0) ah pL 60 ((tN.drop 2).take 3) (Sy (f,b,g,c)) (SB b c) (SA f b g c) sG [⟨[],[],[4]⟩,⟨[],[],[4]⟩,⟨[],[],[0,1,5]⟩] (by kernel_rfl)) (fun i=>by exact Sg.cut 1 Ct (Sg.pre ⟨[],[],[0,1,5]⟩ rfl (by kernel_rfl:NS.on ⟨[],[],[0,1,5]⟩ (SA f b g c i)=(tO f b g c) i) (bT (I:=(tO f b g c)) (J:=(Cu)) (id:=0) (by kernel_rfl:(((tN.drop 2).drop 3).take 1) = [.block 0 (.loop (bE (((((tN.drop 2).drop 3).take 1)).headD .skip)))]) Ct (afX _) (fun s=>by exact acK f b g c s) i)) (fun a=>by cases a;exact Sg.seg (C:=C0) ah pL 60 (((tN.drop 2).drop 3).drop 1) (afY ()) (Ob) (fun a:Empty=>a.elim) sG [⟨[],[],[4]⟩] (by kernel_rfl)))))
    (fun x=>by cases x with | r0 l=>exact ⟨.inr rfl,[.int .i64 l],[],by kernel_rfl,trivial,by kernel_rfl⟩) h
def tP:Option jD→Bool
  | some _=>true
  | none=>false
def sH:Option jD→Int
  | some (.r0 x)=>x
  | _=>0
theorem af0{x:Option jD}(h:tP x=true) :x=some (.r0 (sH x)):=by
  unfold tP at h
  split at h <;> first | rfl | (cases h;done) | (rename_i y;cases y;rfl)
def WL:aD:=bW oc (.cons (.ns .u64) (.cons (.ns .u64) .nil)) fun t=>[⟨KT (.r0 (sH (oG t.1.2 t.2.1.2))),[tP (oG t.1.2 t.2.1.2)]⟩]
theorem aaI:aM prog WL:=aG fun t=>(aH (fun h=>afZ t.1.1 t.1.2 t.2.1.1 t.2.1.2 (af0 h)) aR)
def WM:List aD:=WL :: N8
theorem sI:aX prog (aZ WM):=am aaI pL
inductive iK where
  | r0 (a:Bool)
def sJ:iK→AE×aC
  | .r0 a=>(.ret,⟨ag 20 [(2,.bool false a)],[],0⟩)
theorem Cv:lc sJ:=by intro x;cases x <;> (intro h;cases h)
theorem af1(id:Nat) :qp id sJ:=by intro x;cases x <;> (intro h;cases h)
def KU:iK→ju
  | .r0 a=>⟨.bool false a,[]⟩
def uW:List Code:=bD (bp oh)
def SC(b:Lv)(a:List Int)(_:Unit) :aC:=⟨ag 20 [(0,.imm b (.ns .u64 a) 1 1 0 (List.length a)),(3,.int .i64 (((List.length a):Nat):Int))],[],0⟩
def Oc:T ((Unit)⊕(iK)) :=
  .leaf (.inl ())
def tQ(b:Lv)(a:List Int)(c:Int) :aC:=⟨ag 20 [(0,.imm b (.ns .u64 a) 1 1 0 (List.length a)),(3,.int .i64 c)],[],0⟩
def xL(a:Int) :aC:=⟨ag 20 [(3,.int .i64 a)],[],0⟩
def FV:List Code:=bD (bE ((((uW.drop 2).take 1)).headD .skip))
def SD(b:Lv)(a:List Int)(c:Int)(d:Bool) :aC:=⟨ag 20 [(0,.imm b (.ns .u64 a) 1 1 0 (List.length a)),(3,.int .i64 c),(15,.bool false d)],[],0⟩
def rL(b:List Int)(a:Int) :T ((Bool)⊕((Int)⊕(iK))) :=
  .ask (decide (a > (0:Int)))
    (.need (dP .i64 (a - (1:Int)))<|.need (iE (a - (1:Int)) (List.length b))<|.need (iX (Int.toNat (a - (1:Int))) (List.length b))<|.leaf (.inl ((List.getD b (Int.toNat (a - (1:Int))) 0) == (0:Int))))
    (.leaf (.inl false))
def FW(a:Int)(b:Bool) :T ((Int)⊕((Int)⊕(iK))) :=
  .ask b
    (.need (dP .i64 (a - (1:Int)))<|.leaf (.inl (a - (1:Int))))
    (.leaf (.inr (.inl a)))
def FX(b:List Int) :Int→Option ((Int)⊕((Int)⊕(iK))):=fun a =>
  ax ((rL b a).run) fun c =>
  (FW a c).run
theorem acL(c:Lv)(a:List Int)(b:Int) :Sg prog [] FV (tQ c a b) (FX a b) (tQ c a) (aO 0 xL sJ):=by
  unfold FX;exact Sg.cut 1 (aW Cv) (Sg.seg (C:=C0) ah sI 60 (FV.take 1) (tQ c a b) (rL a b) (SD c a b) (aO 0 xL sJ) [⟨[],[],[0,3,15]⟩,⟨[],[],[0,3,15]⟩] (by kernel_rfl)) (fun d=>by exact Sg.seg (C:=C0) ah sI 60 (FV.drop 1) (SD c a b d) (FW b d) (tQ c a) (aO 0 xL sJ) [⟨[],[],[0,3]⟩,⟨[],[],[3]⟩] (by kernel_rfl))
def af2:Int→aC:=xL
def Od(a:Int) :T ((Empty)⊕(iK)) :=
  .leaf (.inr (.r0 (decide (a≤(4096:Int)))))
def wL(a:List Int) :Option iK:=l6 (ax ((Oc).run) fun _ =>
  ax (dH (FX a) (((List.length a):Nat):Int)) fun b =>
  (Od b).run)
theorem af3(c:Lv)(b:List Int){x:iK}(h:wL b=some x) :ak prog oh [] [.imm c (.ns .u64 b) 1 1 0 (List.length b)] (KU x) :=
  Sg.contract true KU (by kernel_rfl:prog.funcs[oh]? = some (FN oh)) (by kernel_rfl:(FN oh).body=some (bp oh)) (Sg.cut 2 Cv (Sg.seg (C:=C0) ah sI 60 (uW.take 2) (aL (FN oh) [] [.imm c (.ns .u64 b) 1 1 0 (List.length b)]) (Oc) (SC c b) sJ [⟨[],[],[0,3]⟩] (by kernel_rfl)) (fun a=>by cases a;exact Sg.cut 1 Cv (Sg.pre ⟨[],[],[0,3]⟩ rfl (by kernel_rfl:NS.on ⟨[],[],[0,3]⟩ (SC c b ())=(tQ c b) (((List.length b):Nat):Int)) (bT (I:=(tQ c b)) (J:=(xL)) (id:=0) (by kernel_rfl:((uW.drop 2).take 1) = [.block 0 (.loop (bE ((((uW.drop 2).take 1)).headD .skip)))]) Cv (af1 _) (fun s=>by exact acL c b s) (((List.length b):Nat):Int))) (fun d=>by exact Sg.seg (C:=C0) ah sI 60 ((uW.drop 2).drop 1) (af2 d) (Od d) (fun a:Empty=>a.elim) sJ [⟨[],[],[2]⟩] (by kernel_rfl))))
    (fun x=>by cases x with | r0 e=>exact ⟨.inr rfl,[.bool false e],[],by kernel_rfl,trivial,by kernel_rfl⟩) h
def Cw:Option iK→Bool
  | some _=>true
  | none=>false
def DE:Option iK→Bool
  | some (.r0 x)=>x
  | _=>false
theorem af4{x:Option iK}(h:Cw x=true) :x=some (.r0 (DE x)):=by
  unfold Cw at h
  split at h <;> first | rfl | (cases h;done) | (rename_i y;cases y;rfl)
def WN:aD:=bW oh (.cons (.ns .u64) .nil) fun t=>[⟨KU (.r0 (DE (wL t.1.2))),[Cw (wL t.1.2)]⟩]
theorem aaJ:aM prog WN:=aG fun t=>(aH (fun h=>af3 t.1.1 t.1.2 (af4 h)) aR)
def WO:List aD:=WN :: WM
theorem DF:aX prog (aZ WO):=am aaJ sI
inductive oH where
  | r0 (a:Bool)
def KV:oH→AE×aC
  | .r0 a=>(.ret,⟨ag 16 [(2,.bool false a)],[],0⟩)
theorem af5:lc KV:=by intro x;cases x <;> (intro h;cases h)
def KW:oH→ju
  | .r0 a=>⟨.bool false a,[]⟩
def SE:List Code:=bD (bp n5)
def SF(a:Bool) :aC:=⟨ag 16 [(2,.bool false a)],[],0⟩
def Im(a:List Int)(b:Int) :T ((Bool)⊕(oH)) :=
  .need (aI 0 (List.length a) a)<|.need (Cw (wL (aa 0 (List.length a) a)))<|.ask (DE (wL (aa 0 (List.length a) a)))
    (.ask (decide (b ≥ (-262144:Int)))
      (.leaf (.inl (decide (b≤(262144:Int)))))
      (.leaf (.inl false)))
    (.leaf (.inl false))
def SG(a:Bool) :T ((Empty)⊕(oH)) :=
  .leaf (.inr (.r0 a))
def dr(a:List Int)(b:Int) :Option oH:=l6 (ax ((Im a b).run) fun c =>
  (SG c).run)
theorem af6(d:Bool)(e:Lv)(b:List Int)(c:Int){x:oH}(h:dr b c=some x) :ak prog n5 [] [.agg [.bool false d,.imm e (.ns .u64 b) 1 1 0 (List.length b),.int .i64 c]] (KW x) :=
  Sg.contract true KW (by kernel_rfl:prog.funcs[n5]? = some (FN n5)) (by kernel_rfl:(FN n5).body=some (bp n5)) (Sg.cut 2 af5 (Sg.seg (C:=C0) ah DF 60 (SE.take 2) (aL (FN n5) [] [.agg [.bool false d,.imm e (.ns .u64 b) 1 1 0 (List.length b),.int .i64 c]]) (Im b c) SF KV [⟨[],[],[2]⟩,⟨[],[],[2]⟩,⟨[],[],[2]⟩] (by kernel_rfl)) (fun f=>by exact Sg.seg (C:=C0) ah DF 60 (SE.drop 2) (SF f) (SG f) (fun a:Empty=>a.elim) KV [⟨[],[],[2]⟩] (by kernel_rfl)))
    (fun x=>by cases x with | r0 g=>exact ⟨.inr rfl,[.bool false g],[],by kernel_rfl,trivial,by kernel_rfl⟩) h
def jg:Option oH→Bool
  | some _=>true
  | none=>false
def g7:Option oH→Bool
  | some (.r0 x)=>x
  | _=>false
theorem af7{x:Option oH}(h:jg x=true) :x=some (.r0 (g7 x)):=by
  unfold jg at h
  split at h <;> first | rfl | (cases h;done) | (rename_i y;cases y;rfl)
def WP:aD:=bW n5 (.cons (.agg (.cons .bool (.cons (.ns .u64) (.cons (.int .i64) .nil)))) .nil) fun t=>[⟨KW (.r0 (g7 (dr t.1.2.1.2 t.1.2.2.1))),[jg (dr t.1.2.1.2 t.1.2.2.1)]⟩]
theorem aaK:aM prog WP:=aG fun t=>(aH (fun h=>af6 t.1.1 t.1.2.1.1 t.1.2.1.2 t.1.2.2.1 (af7 h)) aR)
def WQ:List aD:=WP :: WO
theorem sK:aX prog (aZ WQ):=am aaK DF
inductive fw where
  | r0 (a:Bool) (b:List Int) (c:Nat) (d:Int)
def xM:fw→AE×aC
  | .r0 a b c d=>(.ret,⟨ag 28 [(2,.ptr 0 1 0 0)],[(0,.vs [.bool false a,.imm .free (.ns .u64 b) 1 1 0 c,.int .i64 d])],1⟩)
theorem FY:lc xM:=by intro x;cases x <;> (intro h;cases h)
def In:fw→ju
  | .r0 a b c d=>⟨.agg [.bool false a,.imm .free (.ns .u64 b) 1 1 0 c,.int .i64 d],[]⟩
def Al:List Code:=bD (bp lz)
def Oe(b:Bool)(c:Lv)(a:List Int)(d:Int) :(List Int)×Nat×Bool→aC:=fun (e,f,g)=>⟨ag 28 [(1,.ptr 0 1 0 0),(2,.ptr 1 1 0 0),(3,.imm .free (.ns .u64 e) 1 1 0 f)],[(0,.vs [.bool false b,.imm c (.ns .u64 a) 1 1 0 (List.length a),.int .i64 d]),(1,.vs [.bool false g,.nsl,.int .i64 (0:Int)])],2⟩
def Am(a:List Int) :T (((List Int)×Nat×Bool)⊕(fw)) :=
  .need (aI 0 (List.length a) a)<|.need (kp (cA (aa 0 (List.length a) a)))<|.leaf (.inl ((jB (cA (aa 0 (List.length a) a))),(jA (cA (aa 0 (List.length a) a))),false))
def Of(b:Bool)(c:Lv)(a:List Int)(d:Int)(e:List Int)(f:Nat)(g:Bool)(h:Nat) :aC:=⟨ag 28 [(1,.ptr 0 1 0 0),(2,.ptr 1 1 0 0),(3,.imm .free (.ns .u64 e) 1 1 0 f),(4,.int .i64 ((h:Nat):Int))],[(0,.vs [.bool false b,.imm c (.ns .u64 a) 1 1 0 (List.length a),.int .i64 d]),(1,.vs [.bool false g,.nsl,.int .i64 (0:Int)])],2⟩
def An(b:List Int)(a:Nat) :T ((Nat)⊕(fw)) :=
  .ask (((a:Nat):Int) == (0:Int))
    (.leaf (.inr (.r0 false ([]:List Int) 0 (0:Int))))
    (.need (aI 0 a b)<|.need (xK (rK (aa 0 a b)))<|.leaf (.inl (ze (rK (aa 0 a b)))))
def Og(b:Bool)(c:Lv)(a:List Int)(d:Int)(e:Bool)(f:Nat) :(List Int)×Nat→aC:=fun (g,h)=>⟨ag 28 [(1,.ptr 0 1 0 0),(2,.ptr 1 1 0 0),(3,.imm .free (.ns .u64 g) 1 1 0 h),(4,.int .i64 ((f:Nat):Int))],[(0,.vs [.bool false b,.imm c (.ns .u64 a) 1 1 0 (List.length a),.int .i64 d]),(1,.vs [.bool false e,.nsl,.int .i64 (0:Int)])],2⟩
def Ao(a:List Int)(b:Nat)(c:Nat) :T (((List Int)×Nat)⊕(fw)) :=
  .need (aI 0 b a)<|.need (Cs (oF (aa 0 b a) ((c:Nat):Int)))<|.leaf (.inl ((DC (oF (aa 0 b a) ((c:Nat):Int))),(DD (oF (aa 0 b a) ((c:Nat):Int)))))
def Oh(c:Bool)(a:Int)(b:Nat)(d:List Int)(e:Nat) :T ((Empty)⊕(fw)) :=
  .need (dP .i64 (a+((b:Nat):Int)))<|.leaf (.inr (.r0 c d e (a+((b:Nat):Int))))
def aJ(d:Bool)(e:List Int)(f:Int) :Option fw:=l6 (ax ((Am e).run) fun (a,b,i) =>
  ax ((An a b).run) fun c =>
  ax ((Ao a b c).run) fun (g,h) =>
  (Oh d f c g h).run)
theorem acM(c:Bool)(e:Lv)(b:List Int)(d:Int){x:fw}(h:aJ c b d=some x) :ak prog lz [] [.agg [.bool false c,.imm e (.ns .u64 b) 1 1 0 (List.length b),.int .i64 d]] (In x) :=
  Sg.contract true In (by kernel_rfl:prog.funcs[lz]? = some (FN lz)) (by kernel_rfl:(FN lz).body=some (bp lz)) (Sg.cut 2 FY (Sg.seg (C:=C0) ah sK 60 (Al.take 2) (aL (FN lz) [] [.agg [.bool false c,.imm e (.ns .u64 b) 1 1 0 (List.length b),.int .i64 d]]) (Am b) (Oe c e b d) xM [⟨[],[0,16],[1,2,3]⟩] (by kernel_rfl)) (fun a=>by obtain ⟨f,g,i⟩:=a;exact Sg.cut 3 FY (Sg.seg (C:=C0) ah sK 60 ((Al.drop 2).take 3) (Oe c e b d (f,g,i)) (An f g) (Of c e b d f g i) xM [⟨[(.cell 1 1,.fre 1 1 (.ns .u64 ([]:List Int)))],[1],[2]⟩,⟨[],[0,1],[1,2,3,4]⟩] (by kernel_rfl)) (fun j=>by exact Sg.cut 1 FY (Sg.seg (C:=C0) ah sK 60 (((Al.drop 2).drop 3).take 1) (Of c e b d f g i j) (Ao f g j) (Og c e b d i j) xM [⟨[],[0,1],[1,2,3,4]⟩] (by kernel_rfl)) (fun a=>by obtain ⟨k,l⟩:=a;exact Sg.seg (C:=C0) ah sK 60 (((Al.drop 2).drop 3).drop 1) (Og c e b d i j (k,l)) (Oh c d j k l) (fun a:Empty=>a.elim) xM [⟨[],[1],[2]⟩] (by kernel_rfl)))))
    (fun x=>by cases x with | r0 m n o p=>exact ⟨.inr rfl,[.agg [.bool false m,.imm .free (.ns .u64 n) 1 1 0 o,.int .i64 p]],[],by kernel_rfl,trivial,by kernel_rfl⟩) h
def f7:Option fw→Bool
  | some _=>true
  | none=>false
def eX:Option fw→Bool
  | some (.r0 x _ _ _)=>x
  | _=>false
def eY:Option fw→List Int
  | some (.r0 _ x _ _)=>x
  | _=>[]
def eZ:Option fw→Nat
  | some (.r0 _ _ x _)=>x
  | _=>0
def e7:Option fw→Int
  | some (.r0 _ _ _ x)=>x
  | _=>0
theorem acN{x:Option fw}(h:f7 x=true) :x=some (.r0 (eX x) (eY x) (eZ x) (e7 x)):=by
  unfold f7 at h
  split at h <;> first | rfl | (cases h;done) | (rename_i y;cases y;rfl)
def SH:aD:=bW lz (.cons (.agg (.cons .bool (.cons (.ns .u64) (.cons (.int .i64) .nil)))) .nil) fun t=>[⟨In (.r0 (eX (aJ t.1.1 t.1.2.1.2 t.1.2.2.1)) (eY (aJ t.1.1 t.1.2.1.2 t.1.2.2.1)) (eZ (aJ t.1.1 t.1.2.1.2 t.1.2.2.1)) (e7 (aJ t.1.1 t.1.2.1.2 t.1.2.2.1))),[f7 (aJ t.1.1 t.1.2.1.2 t.1.2.2.1)]⟩]
theorem XN:aM prog SH:=aG fun t=>(aH (fun h=>acM t.1.1 t.1.2.1.1 t.1.2.1.2 t.1.2.2.1 (acN h)) aR)
def SI:List aD:=SH :: WQ
theorem Bx:aX prog (aZ SI):=am XN sK
inductive oI where
  | r0 (a:Bool)
def KX:oI→AE×aC
  | .r0 a=>(.ret,⟨ag 31 [(4,.bool false a)],[],0⟩)
theorem af8:lc KX:=by intro x;cases x <;> (intro h;cases h)
def KY:oI→ju
  | .r0 a=>⟨.bool false a,[]⟩
def SJ:List Code:=bD (bp n9)
def SK(a:Bool) :aC:=⟨ag 31 [(4,.bool false a)],[],0⟩
def SL(c:List Int)(a:Int)(d:List Int)(b:Int) :T ((Bool)⊕(oI)) :=
  .ask (decide ((((List.length c):Nat):Int) > (0:Int)))
    (.ask (decide ((((List.length d):Nat):Int) > (0:Int)))
      (.need (dP .i64 (a - b))<|.ask (decide ((a - b) > (262144:Int)))
        (.leaf (.inl true))
        (.need (dP .i64 (b - a))<|.leaf (.inl (decide ((b - a) > (262144:Int))))))
      (.leaf (.inl false)))
    (.leaf (.inl false))
def SM(a:Bool) :T ((Empty)⊕(oI)) :=
  .leaf (.inr (.r0 a))
def sL(a:List Int)(b:Int)(c:List Int)(d:Int) :Option oI:=l6 (ax ((SL a b c d).run) fun e =>
  (SM e).run)
theorem af9(f:Bool)(g:Lv)(b:List Int)(d:Int)(i:Bool)(j:Lv)(c:List Int)(e:Int){x:oI}(h:sL b d c e=some x) :ak prog n9 [] [.agg [.bool false f,.imm g (.ns .u64 b) 1 1 0 (List.length b),.int .i64 d],.agg [.bool false i,.imm j (.ns .u64 c) 1 1 0 (List.length c),.int .i64 e]] (KY x) :=
  Sg.contract true KY (by kernel_rfl:prog.funcs[n9]? = some (FN n9)) (by kernel_rfl:(FN n9).body=some (bp n9)) (Sg.cut 2 af8 (Sg.seg (C:=C0) ah Bx 60 (SJ.take 2) (aL (FN n9) [] [.agg [.bool false f,.imm g (.ns .u64 b) 1 1 0 (List.length b),.int .i64 d],.agg [.bool false i,.imm j (.ns .u64 c) 1 1 0 (List.length c),.int .i64 e]]) (SL b d c e) SK KX [⟨[],[],[4]⟩,⟨[],[],[4]⟩,⟨[],[],[4]⟩,⟨[],[],[4]⟩] (by kernel_rfl)) (fun k=>by exact Sg.seg (C:=C0) ah Bx 60 (SJ.drop 2) (SK k) (SM k) (fun a:Empty=>a.elim) KX [⟨[],[],[4]⟩] (by kernel_rfl)))
    (fun x=>by cases x with | r0 l=>exact ⟨.inr rfl,[.bool false l],[],by kernel_rfl,trivial,by kernel_rfl⟩) h
def xN:Option oI→Bool
  | some _=>true
  | none=>false
def xO:Option oI→Bool
  | some (.r0 x)=>x
  | _=>false
theorem aga{x:Option oI}(h:xN x=true) :x=some (.r0 (xO x)):=by
  unfold xN at h
  split at h <;> first | rfl | (cases h;done) | (rename_i y;cases y;rfl)
def WR:aD:=bW n9 (.cons (.agg (.cons .bool (.cons (.ns .u64) (.cons (.int .i64) .nil)))) (.cons (.agg (.cons .bool (.cons (.ns .u64) (.cons (.int .i64) .nil)))) .nil)) fun t=>[⟨KY (.r0 (xO (sL t.1.2.1.2 t.1.2.2.1 t.2.1.2.1.2 t.2.1.2.2.1))),[xN (sL t.1.2.1.2 t.1.2.2.1 t.2.1.2.1.2 t.2.1.2.2.1)]⟩]
theorem aaL:aM prog WR:=aG fun t=>(aH (fun h=>af9 t.1.1 t.1.2.1.1 t.1.2.1.2 t.1.2.2.1 t.2.1.1 t.2.1.2.1.1 t.2.1.2.1.2 t.2.1.2.2.1 (aga h)) aR)
def WS:List aD:=WR :: SI
theorem pM:aX prog (aZ WS):=am aaL Bx
inductive dK where
  | r0 (a:List Int) (b:Nat) (c:List Int) (d:Nat) (e:Int)
def rM(a:Lv)(b:Lv) :dK→AE×aC
  | .r0 c d e f g=>(.ret,⟨ag 54 [(4,.imm a (.ns .u64 c) 1 1 0 d),(5,.imm b (.ns .u64 e) 1 1 0 f),(6,.int .i64 g)],[],0⟩)
theorem xP{a:Lv}{b:Lv} :lc (rM a b):=by intro x;cases x <;> (intro h;cases h)
def FZ(a:Lv)(b:Lv) :dK→ju
  | .r0 c d e f g=>⟨.tup [.imm a (.ns .u64 c) 1 1 0 d,.imm b (.ns .u64 e) 1 1 0 f,.int .i64 g],[]⟩
def sM:List Code:=bD (bp kg)
def KZ(c:Bool)(d:Lv)(a:List Int)(e:Int)(f:Bool)(g:Lv)(b:List Int)(h:Int)(i:Int) :aC:=⟨ag 54 [(2,.ptr 0 1 0 0),(3,.ptr 1 1 0 0),(7,.int .i64 i)],[(0,.vs [.bool false c,.imm d (.ns .u64 a) 1 1 0 (List.length a),.int .i64 e]),(1,.vs [.bool false f,.imm g (.ns .u64 b) 1 1 0 (List.length b),.int .i64 h])],2⟩
def K0(b:List Int)(c:Int)(a:Int) :T ((Int)⊕(dK)) :=
  .ask ((((List.length b):Nat):Int) == (0:Int))
    (.leaf (.inl a))
    (.leaf (.inl (v9 c a)))
def K1(c:Bool)(d:Lv)(a:List Int)(e:Int)(f:Bool)(g:Lv)(b:List Int)(h:Int)(i:Int) :aC:=⟨ag 54 [(2,.ptr 0 1 0 0),(3,.ptr 1 1 0 0),(7,.int .i64 i)],[(0,.vs [.bool false c,.imm d (.ns .u64 a) 1 1 0 (List.length a),.int .i64 e]),(1,.vs [.bool false f,.imm g (.ns .u64 b) 1 1 0 (List.length b),.int .i64 h])],2⟩
def K2(a:Int)(b:List Int)(c:Int) :T ((Int)⊕(dK)) :=
  .ask ((((List.length b):Nat):Int) == (0:Int))
    (.leaf (.inl a))
    (.leaf (.inl c))
def K3(c:Lv)(d:Bool)(b:Lv)(a:List Int)(e:Int)(f:Int) :(List Int)×Nat→aC:=fun (g,h)=>⟨ag 54 [(3,.ptr 0 1 0 0),(7,.int .i64 f),(8,.imm c (.ns .u64 g) 1 1 0 h),(9,.imm b (.ns .u64 a) 1 1 0 (List.length a))],[(0,.vs [.bool false d,.imm b (.ns .u64 a) 1 1 0 (List.length a),.int .i64 e])],1⟩
def K4(a:List Int)(b:Int)(c:Int) :T (((List Int)×Nat)⊕(dK)) :=
  .ask (decide (b > c))
    (.need (dP .i64 (b - c))<|.need (aI 0 (List.length a) a)<|.need (xH (md (aa 0 (List.length a) a) (b - c)))<|.leaf (.inl ((xI (md (aa 0 (List.length a) a) (b - c))),(xJ (md (aa 0 (List.length a) a) (b - c))))))
    (.leaf (.inl (a,(List.length a))))
def K5(a:Lv)(b:Lv)(c:Int)(d:List Int)(e:Nat) :(List Int)×Nat→aC:=fun (f,g)=>⟨ag 54 [(7,.int .i64 c),(8,.imm a (.ns .u64 d) 1 1 0 e),(9,.imm b (.ns .u64 f) 1 1 0 g)],[],0⟩
def K6(a:List Int)(b:Int)(c:Int) :T (((List Int)×Nat)⊕(dK)) :=
  .ask (decide (b > c))
    (.need (dP .i64 (b - c))<|.need (aI 0 (List.length a) a)<|.need (xH (md (aa 0 (List.length a) a) (b - c)))<|.leaf (.inl ((xI (md (aa 0 (List.length a) a) (b - c))),(xJ (md (aa 0 (List.length a) a) (b - c))))))
    (.leaf (.inl (a,(List.length a))))
def I5(a:Int)(b:List Int)(c:Nat)(d:List Int)(e:Nat) :T ((Empty)⊕(dK)) :=
  .leaf (.inr (.r0 b c d e a))
def da(c:List Int)(a:Int)(d:List Int)(e:Int) :Option dK:=l6 (ax ((K0 c a e).run) fun f =>
  ax ((K2 a d f).run) fun b =>
  ax ((K4 c a b).run) fun (g,h) =>
  ax ((K6 d e b).run) fun (i,j) =>
  (I5 b g h i j).run)
theorem aaM(k:Bool)(b:Lv)(e:List Int)(g:Int)(i:Bool)(c:Lv)(d:List Int)(f:Int){x:dK}(h:da e g d f=some x) :ak prog kg [] [.agg [.bool false k,.imm b (.ns .u64 e) 1 1 0 (List.length e),.int .i64 g],.agg [.bool false i,.imm c (.ns .u64 d) 1 1 0 (List.length d),.int .i64 f]] (FZ b c x) :=
  Sg.contract true (FZ b c) (by kernel_rfl:prog.funcs[kg]? = some (FN kg)) (by kernel_rfl:(FN kg).body=some (bp kg)) (Sg.cut 4 xP (Sg.seg (C:=C0) ah pM 60 (sM.take 4) (aL (FN kg) [] [.agg [.bool false k,.imm b (.ns .u64 e) 1 1 0 (List.length e),.int .i64 g],.agg [.bool false i,.imm c (.ns .u64 d) 1 1 0 (List.length d),.int .i64 f]]) (K0 e g f) (KZ k b e g i c d f) (rM b c) [⟨[],[0,16],[2,3,7]⟩,⟨[],[0,16],[2,3,7]⟩] (by kernel_rfl)) (fun n=>by exact Sg.cut 2 xP (Sg.seg (C:=C0) ah pM 60 ((sM.drop 4).take 2) (KZ k b e g i c d f n) (K2 g d n) (K1 k b e g i c d f) (rM b c) [⟨[],[0,1],[2,3,7]⟩,⟨[],[0,1],[2,3,7]⟩] (by kernel_rfl)) (fun j=>by exact Sg.cut 3 xP (Sg.seg (C:=C0) ah pM 60 (((sM.drop 4).drop 2).take 3) (K1 k b e g i c d f j) (K4 e g j) (K3 b i c d f j) (rM b c) [⟨[(.slot 8,.lev b)],[1],[3,7,8,9]⟩,⟨[],[1],[3,7,8,9]⟩] (by kernel_rfl)) (fun a=>by obtain ⟨l,m⟩:=a;exact Sg.cut 2 xP (Sg.seg (C:=C0) ah pM 60 ((((sM.drop 4).drop 2).drop 3).take 2) (K3 b i c d f j (l,m)) (K6 d f j) (K5 b c j l m) (rM b c) [⟨[(.slot 9,.lev c)],[],[7,8,9]⟩,⟨[],[],[7,8,9]⟩] (by kernel_rfl)) (fun a=>by obtain ⟨o,p⟩:=a;exact Sg.seg (C:=C0) ah pM 60 ((((sM.drop 4).drop 2).drop 3).drop 2) (K5 b c j l m (o,p)) (I5 j l m o p) (fun a:Empty=>a.elim) (rM b c) [⟨[],[],[4,5,6]⟩] (by kernel_rfl))))))
    (fun x=>by cases x with | r0 q r s t u=>exact ⟨.inr rfl,[.imm b (.ns .u64 q) 1 1 0 r,.imm c (.ns .u64 s) 1 1 0 t,.int .i64 u],[],by kernel_rfl,trivial,by kernel_rfl⟩) h
def sN:Option dK→Bool
  | some _=>true
  | none=>false
def tS:Option dK→List Int
  | some (.r0 x _ _ _ _)=>x
  | _=>[]
def tT:Option dK→Nat
  | some (.r0 _ x _ _ _)=>x
  | _=>0
def tU:Option dK→List Int
  | some (.r0 _ _ x _ _)=>x
  | _=>[]
def tV:Option dK→Nat
  | some (.r0 _ _ _ x _)=>x
  | _=>0
def zf:Option dK→Int
  | some (.r0 _ _ _ _ x)=>x
  | _=>0
theorem aaN{x:Option dK}(h:sN x=true) :x=some (.r0 (tS x) (tT x) (tU x) (tV x) (zf x)):=by
  unfold sN at h
  split at h <;> first | rfl | (cases h;done) | (rename_i y;cases y;rfl)
def Oi:aD:=bW kg (.cons (.agg (.cons .bool (.cons (.ns .u64) (.cons (.int .i64) .nil)))) (.cons (.agg (.cons .bool (.cons (.ns .u64) (.cons (.int .i64) .nil)))) .nil)) fun t=>[⟨FZ t.1.2.1.1 t.2.1.2.1.1 (.r0 (tS (da t.1.2.1.2 t.1.2.2.1 t.2.1.2.1.2 t.2.1.2.2.1)) (tT (da t.1.2.1.2 t.1.2.2.1 t.2.1.2.1.2 t.2.1.2.2.1)) (tU (da t.1.2.1.2 t.1.2.2.1 t.2.1.2.1.2 t.2.1.2.2.1)) (tV (da t.1.2.1.2 t.1.2.2.1 t.2.1.2.1.2 t.2.1.2.2.1)) (zf (da t.1.2.1.2 t.1.2.2.1 t.2.1.2.1.2 t.2.1.2.2.1))),[sN (da t.1.2.1.2 t.1.2.2.1 t.2.1.2.1.2 t.2.1.2.2.1)]⟩]
theorem UP:aM prog Oi:=aG fun t=>(aH (fun h=>aaM t.1.1 t.1.2.1.1 t.1.2.1.2 t.1.2.2.1 t.2.1.1 t.2.1.2.1.1 t.2.1.2.1.2 t.2.1.2.2.1 (aaN h)) aR)
def Oj:List aD:=Oi :: WS
theorem tW:aX prog (aZ Oj):=am UP pM
end
end Go.Plb.Seat
