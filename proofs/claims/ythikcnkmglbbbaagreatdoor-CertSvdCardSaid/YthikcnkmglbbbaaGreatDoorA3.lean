/-
  Part 3 of what the claim leans on: an evaluator of the model, proved sound; the contracts of the functions.
-/
import Derived.Test.YthikcnkmglbbbaaGreatDoorA2
namespace Go.Plb.Seat
open Go Go.Plb
set_option linter.unusedVariables false
set_option maxRecDepth 100000
noncomputable section
inductive c9 where
  | r0 (a:Int)
def AF:c9→AE×aQ
  | .r0 a=>(.ret,⟨an 14 [(2,.int .i64 a)],[],0⟩)
def lK:c9→gM
  | .r0 a=>⟨.int .i64 a,[]⟩
def pA(a:Int) :T ((Empty)⊕(c9)) :=
  .ask (a==(0:Int))
    (.leaf (.inr (.r0 (64:Int))))
    (.need (decide ((0:Int)≤(58:Int)))<|.need (fv (Int.fdiv (IntKind.u64.wrap ((fc .and .u64 a (IntKind.u64.wrap ((0:Int)-a)))*(285870213051353865:Int))) (2^(min (Int.toNat (58:Int)) (IntKind.u64.bits)))) 64)<|.need (g9 (k9 (k9 0 (X7 (Int.toNat (Int.fdiv (IntKind.u64.wrap ((fc .and .u64 a (IntKind.u64.wrap ((0:Int)-a)))*(285870213051353865:Int))) (2^(min (Int.toNat (58:Int)) (IntKind.u64.bits))))) 1)) 0) (List.length bx))<|.leaf (.inr (.r0 (IntKind.i64.wrap (List.getD bx (k9 (k9 0 (X7 (Int.toNat (Int.fdiv (IntKind.u64.wrap ((fc .and .u64 a (IntKind.u64.wrap ((0:Int)-a)))*(285870213051353865:Int))) (2^(min (Int.toNat (58:Int)) (IntKind.u64.bits))))) 1)) 0) 0)))))
def ei(a:Int) :Option c9:=jM ((pA a).run)
theorem zu(a:Int){x:c9}(h:ei a=some x) :ay prog qf [] [.int .u64 a] (lK x) :=
  kf false lK AF h (bj awa _ [⟨[],[],[2]⟩,⟨[],[],[2]⟩])
    (fun x=>by cases x with | r0 b=>exact jN [.int .i64 b])
def ff:Option c9→Bool
  | some _=>true
  | none=>false
def eN:Option c9→Int
  | some (.r0 x)=>x
  | _=>0
theorem zw{x:Option c9}(h:ff x=true) :x=some (.r0 (eN x)):=by
  unfold ff at h
  split at h<;>first | rfl | (cases h;done) | (rename_i y;cases y;rfl)
def qg:aM:=bK qf (.cons (.int .u64) .nil) fun t=>(fun q=>[⟨lK (.r0 (eN q)),[ff q]⟩]) (ei t.1)
theorem xh:aY prog qg:=aR fun t=>(aS (fun h=>zu t.1 (zw h)) bc)
def qh:List aM:=qg::L3
theorem kh:be prog (bh qh):=ax xh awa
inductive eT where
  | r0 (a:Int) (b:Int)
def Dm:eT→AE×aQ
  | .r0 a b=>(.ret,⟨an 51 [(4,.int .u64 a),(5,.int .u64 b)],[],0⟩)
theorem OI:jJ Dm:=by intro x;cases x<;>(intro h;cases h)
def vw:eT→gM
  | .r0 a b=>⟨.tup [.int .u64 a,.int .u64 b],[]⟩
def OJ(a:Int)(b:Int) :Int×Int×Int×Int→aQ:=fun (c,d,e,f)=>⟨an 51 [(0,.int .u64 a),(1,.int .u64 b),(6,.int .u64 c),(7,.int .u64 d),(9,.int .u64 e),(11,.int .u64 f)],[],0⟩
def Bu(a:Int)(b:Int) :T ((Int×Int×Int×Int)⊕(eT)) :=
  .need (decide ((0:Int)≤(32:Int)))<|.need (decide ((0:Int)≤(32:Int)))<|.need (decide ((0:Int)≤(32:Int)))<|.leaf (.inl ((fc .and .u64 a (4294967295:Int)),(Int.fdiv a (2^(min (Int.toNat (32:Int)) (IntKind.u64.bits)))),(Int.fdiv b (2^(min (Int.toNat (32:Int)) (IntKind.u64.bits)))),(IntKind.u64.wrap ((IntKind.u64.wrap ((Int.fdiv a (2^(min (Int.toNat (32:Int)) (IntKind.u64.bits))))*(fc .and .u64 b (4294967295:Int))))+(Int.fdiv (IntKind.u64.wrap ((fc .and .u64 a (4294967295:Int))*(fc .and .u64 b (4294967295:Int)))) (2^(min (Int.toNat (32:Int)) (IntKind.u64.bits))))))))
def uo(c:Int)(d:Int)(e:Int)(f:Int)(a:Int)(b:Int) :T ((Empty)⊕(eT)) :=
  .need (decide ((0:Int)≤(32:Int)))<|.need (decide ((0:Int)≤(32:Int)))<|.leaf (.inr (.r0 (IntKind.u64.wrap ((IntKind.u64.wrap ((IntKind.u64.wrap (f*a))+(Int.fdiv b (2^(min (Int.toNat (32:Int)) (IntKind.u64.bits))))))+(Int.fdiv (IntKind.u64.wrap ((fc .and .u64 b (4294967295:Int))+(IntKind.u64.wrap (e*a)))) (2^(min (Int.toNat (32:Int)) (IntKind.u64.bits)))))) (IntKind.u64.wrap (c*d))))
def gZ(a:Int)(b:Int) :Option eT:=jM (aC ((Bu a b).run) fun (c,d,e,f) =>
  (uo a b c d e f).run)
theorem OK(a:Int)(b:Int){x:eT}(h:gZ a b=some x) :ay prog Dh [] [.int .u64 a,.int .u64 b] (vw x) :=
  kf false vw Dm h (Sg.cut 7 OI (bj kh (OJ a b) [⟨[],[],[0,1,6,7,9,11]⟩]) (fun ⟨e,f,g,i⟩=>bj kh _ [⟨[],[],[4,5]⟩]))
    (fun x=>by cases x with | r0 c d=>exact jN [.int .u64 c,.int .u64 d])
def mv:Option eT→Bool
  | some _=>true
  | none=>false
def nq:Option eT→Int
  | some (.r0 x _)=>x
  | _=>0
def i7:Option eT→Int
  | some (.r0 _ x)=>x
  | _=>0
theorem OL{x:Option eT}(h:mv x=true) :x=some (.r0 (nq x) (i7 x)):=by
  unfold mv at h
  split at h<;>first | rfl | (cases h;done) | (rename_i y;cases y;rfl)
def Dn:aM:=bK Dh (.cons (.int .u64) (.cons (.int .u64) .nil)) fun t=>(fun q=>[⟨vw (.r0 (nq q) (i7 q)),[mv q]⟩]) (gZ t.1 t.2.1)
theorem JX:aY prog Dn:=aR fun t=>(aS (fun h=>OK t.1 t.2.1 (OL h)) bc)
def Do:List aM:=Dn::qh
theorem kM:be prog (bh Do):=ax JX kh
inductive ki where
  | r0 (a:List Int) (b:Nat)
def G9(a:Lv) :ki→AE×aQ
  | .r0 b c=>(.ret,⟨an 21 [(2,.imm a (.ns .u64 b) 1 1 0 c)],[],0⟩)
theorem Dp{a:Lv} :jJ (G9 a):=by intro x;cases x<;>(intro h;cases h)
theorem amV{a:Lv}(id:Nat) :mP id (G9 a):=by intro x;cases x<;>(intro h;cases h)
def OM(a:Lv) :ki→gM
  | .r0 b c=>⟨.imm a (.ns .u64 b) 1 1 0 c,[]⟩
def amW:List Code:=cN (oa um)
def amX(b:Lv)(a:List Int)(_:Unit) :aQ:=⟨an 21 [(0,.imm b (.ns .u64 a) 1 1 0 (List.length a))],[],0⟩
def amY:T ((Unit)⊕(ki)) :=
  .leaf (.inl ())
def JY(a:Lv)(b:List Int)(c:Nat) :aQ:=⟨an 21 [(0,.imm a (.ns .u64 b) 1 1 0 c)],[],0⟩
def UX(a:Lv)(b:List Int)(c:Nat) :aQ:=⟨an 21 [(0,.imm a (.ns .u64 b) 1 1 0 c)],[],0⟩
def aiE:List Code:=cN (dn ((((amW.drop 1).take 1)).headD .skip))
def amZ(a:Lv)(b:List Int)(c:Nat)(d:Bool) :aQ:=⟨an 21 [(0,.imm a (.ns .u64 b) 1 1 0 c),(14,.bool false d)],[],0⟩
def vx(b:List Int)(a:Nat) :T ((Bool)⊕((Nat)⊕(ki))) :=
  .ask (decide (((a:Nat):Int)>(0:Int)))
    (.need (di .i64 (((a:Nat):Int)-(1:Int)))<|.need (fv (((a:Nat):Int)-(1:Int)) a)<|.need (g9 (Int.toNat (((a:Nat):Int)-(1:Int))) (List.length b))<|.leaf (.inl ((List.getD b (Int.toNat (((a:Nat):Int)-(1:Int))) 0)==(0:Int))))
    (.leaf (.inl false))
def QK(a:Nat)(b:Bool) :T ((Nat)⊕((Nat)⊕(ki))) :=
  .ask b
    (.need (di .i64 (((a:Nat):Int)-(1:Int)))<|.need (Mk (((a:Nat):Int)-(1:Int)) a)<|.need (Mk (0:Int) (Int.toNat (((a:Nat):Int)-(1:Int))))<|.leaf (.inl (Int.toNat (((a:Nat):Int)-(1:Int)))))
    (.leaf (.inr (.inl a)))
def Ha(b:List Int) :Nat→Option ((Nat)⊕((Nat)⊕(ki))):=fun a =>
  aC ((vx b a).run) fun c =>
  (QK a c).run
theorem aiF(a:Lv)(b:List Int)(c:Nat) :Sg prog [] aiE (JY a b c) (Ha b c) (JY a b) (cy 0 (UX a b) (G9 a)):=by
  unfold Ha;exact Sg.cut 1 (az Dp) (bj kM (amZ a b c) [⟨[],[],[0,14]⟩,⟨[],[],[0,14]⟩]) (fun d=>bj kM _ [⟨[],[],[0]⟩,⟨[],[],[0]⟩])
def aiG(a:List Int)(b:Nat) :T ((Empty)⊕(ki)) :=
  .leaf (.inr (.r0 a b))
def aN(a:List Int) :Option ki:=jM (aC ((amY).run) fun _ =>
  aC (dh (Ha a) (List.length a)) fun b =>
  (aiG a b).run)
theorem am0(a:Lv)(b:List Int){x:ki}(h:aN b=some x) :ay prog um [] [.imm a (.ns .u64 b) 1 1 0 (List.length b)] (OM a x) :=
  kf false (OM a) (G9 a) h (Sg.cut 1 Dp (bj kM (amX a b) [⟨[],[],[0]⟩]) (fun _=>Sg.cut 1 Dp (AD ⟨[],[],[0]⟩ (JY a b) (UX a b) 0 Dp (amV _) (fun c=>aiF a b c)) (fun f=>bj kM _ [⟨[],[],[2]⟩])))
    (fun x=>by cases x with | r0 d e=>exact jN [.imm a (.ns .u64 d) 1 1 0 e])
def cW:Option ki→Bool
  | some _=>true
  | none=>false
def bm:Option ki→List Int
  | some (.r0 x _)=>x
  | _=>[]
def ba:Option ki→Nat
  | some (.r0 _ x)=>x
  | _=>0
theorem am1{x:Option ki}(h:cW x=true) :x=some (.r0 (bm x) (ba x)):=by
  unfold cW at h
  split at h<;>first | rfl | (cases h;done) | (rename_i y;cases y;rfl)
def YY:aM:=bK um (.cons (.ns .u64) .nil) fun t=>(fun q=>[⟨OM t.1.1 (.r0 (bm q) (ba q)),[cW q]⟩]) (aN t.1.2)
theorem acL:aY prog YY:=aR fun t=>(aS (fun h=>am0 t.1.1 t.1.2 (am1 h)) bc)
def YZ:List aM:=YY::Do
theorem D8:be prog (bh YZ):=ax acL kM
inductive mw where
  | r0 (a:Nat) (b:Nat) (c:List Int)
def Y0:mw→AE×aQ
  | .r0 a b c=>(.ret,⟨an 12 [(2,.sl 0 1 1 0 a a),(3,.int .i64 ((b:Nat):Int))],[(0,.ns .u64 c)],1⟩)
theorem am2:jJ Y0:=by intro x;cases x<;>(intro h;cases h)
def ON:mw→gM
  | .r0 a b c=>⟨.tup [.imm .free (.ns .u64 c) 1 1 0 a,.int .i64 ((b:Nat):Int)],[]⟩
def am3(a:Lv) :Nat×(List Int)×Nat→aQ:=fun (b,c,d)=>⟨an 12 [(1,.ptr 0 1 0 0),(4,.int .i64 ((b:Nat):Int))],[(0,.vs [.imm a (.ns .u64 c) 1 1 0 d])],1⟩
def JZ(a:List Int) :T ((Nat×(List Int)×Nat)⊕(mw)) :=
  .ask (decide ((0:Int)<(1:Int)))
    (.need (fv (0:Int) 1)<|.need (aG 0 (List.length a) a)<|.need (cW (aN (ab 0 (List.length a) a)))<|.ask (decide ((((ba (aN (ab 0 (List.length a) a))):Nat):Int)>(4096:Int)))
      (.leaf (.inl (2,(bm (aN (ab 0 (List.length a) a))),(ba (aN (ab 0 (List.length a) a))))))
      (.need (di .i64 (1:Int))<|.ask (decide ((1:Int)<(1:Int)))
        (.fail)
        (.leaf (.inl (0,(bm (aN (ab 0 (List.length a) a))),(ba (aN (ab 0 (List.length a) a))))))))
    (.fail)
def J0(c:Nat)(a:List Int)(b:Nat) :T ((Empty)⊕(mw)) :=
  .ask (((c:Nat):Int) != (0:Int))
    (.leaf (.inr (.r0 0 c ([]:List Int))))
    (.need (aG 0 b a)<|.need (wZ (List.length (ab 0 b a)))<|.leaf (.inr (.r0 (List.length (ab 0 b a)) 0 (ab 0 b a))))
def qB(a:List Int) :Option mw:=jM (aC ((JZ a).run) fun (b,c,d) =>
  (J0 b c d).run)
theorem am4(b:Lv)(a:List Int){x:mw}(h:qB a=some x) :ay prog OA [] [.imm b (.ns .u64 a) 1 1 0 (List.length a)] (ON x) :=
  kf true ON Y0 h (Sg.cut 2 am2 (bj D8 (am3 b) [⟨[],[0],[1,4]⟩,⟨[],[0],[1,4]⟩]) (fun ⟨e,f,g⟩=>bj D8 _ [⟨[(.slot 2,.own 1 1 (.ns .u64 ([]:List Int)))],[81],[2,3]⟩,⟨[],[49],[2,3]⟩]))
    (fun x=>by cases x with | r0 c d i=>exact jN [.sl 0 1 1 0 c c,.int .i64 ((d:Nat):Int)])
def y9:Option mw→Bool
  | some _=>true
  | none=>false
def D9:Option mw→Nat
  | some (.r0 x _ _)=>x
  | _=>0
def Ea:Option mw→Nat
  | some (.r0 _ x _)=>x
  | _=>0
def Eb:Option mw→List Int
  | some (.r0 _ _ x)=>x
  | _=>[]
theorem am5{x:Option mw}(h:y9 x=true) :x=some (.r0 (D9 x) (Ea x) (Eb x)):=by
  unfold y9 at h
  split at h<;>first | rfl | (cases h;done) | (rename_i y;cases y;rfl)
def Y1:aM:=bK OA (.cons (.ns .u64) .nil) fun t=>(fun q=>[⟨ON (.r0 (D9 q) (Ea q) (Eb q)),[y9 q]⟩]) (qB t.1.2)
theorem acM:aY prog Y1:=aR fun t=>(aS (fun h=>am4 t.1.1 t.1.2 (am5 h)) bc)
def Y2:List aM:=Y1::YZ
theorem sb:be prog (bh Y2):=ax acM D8
inductive d6 where
  | r0 (a:Nat) (b:Nat) (c:Nat) (d:List Int)
def yu:d6→AE×aQ
  | .r0 a b c d=>(.ret,⟨an 21 [(2,.sl 0 1 1 a b c)],[(0,.ns .u64 d)],1⟩)
theorem vy:jJ yu:=by intro x;cases x<;>(intro h;cases h)
theorem Y3(id:Nat) :mP id yu:=by intro x;cases x<;>(intro h;cases h)
def Ec:d6→gM
  | .r0 a b c d=>⟨.sl 0 1 1 a b c,[some (.ns .u64 d)]⟩
def Y4:List Code:=cN (oa um)
def Y5(a:List Int)(b:Nat)(c:Nat)(d:Nat)(_:Unit) :aQ:=⟨an 21 [(0,.sl 0 1 1 b c d)],[(0,.ns .u64 a)],1⟩
def Y6:T ((Unit)⊕(d6)) :=
  .leaf (.inl ())
def Bv(a:List Int)(b:Nat) :Nat×Nat→aQ:=fun (c,d)=>⟨an 21 [(0,.sl 0 1 1 c d b)],[(0,.ns .u64 a)],1⟩
def J1(a:List Int)(b:Nat) :Nat×Nat→aQ:=fun (c,d)=>⟨an 21 [(0,.sl 0 1 1 c d b)],[(0,.ns .u64 a)],1⟩
def WC:List Code:=cN (dn ((((Y4.drop 1).take 1)).headD .skip))
def Y7(a:List Int)(b:Nat)(c:Nat)(d:Nat)(e:Bool) :aQ:=⟨an 21 [(0,.sl 0 1 1 c d b),(14,.bool false e)],[(0,.ns .u64 a)],1⟩
def pB(b:List Int)(c:Nat)(a:Nat) :T ((Bool)⊕((Nat×Nat)⊕(d6))) :=
  .ask (decide (((a:Nat):Int)>(0:Int)))
    (.need (di .i64 (((a:Nat):Int)-(1:Int)))<|.need (fv (((a:Nat):Int)-(1:Int)) a)<|.need (g9 (k9 c (Int.toNat (((a:Nat):Int)-(1:Int)))) (List.length b))<|.leaf (.inl ((List.getD b (k9 c (Int.toNat (((a:Nat):Int)-(1:Int)))) 0)==(0:Int))))
    (.leaf (.inl false))
def IZ(c:Nat)(b:Nat)(a:Nat)(d:Bool) :T ((Nat×Nat)⊕((Nat×Nat)⊕(d6))) :=
  .ask d
    (.need (di .i64 (((a:Nat):Int)-(1:Int)))<|.need (Mk (((a:Nat):Int)-(1:Int)) c)<|.need (Mk (0:Int) (Int.toNat (((a:Nat):Int)-(1:Int))))<|.leaf (.inl ((k9 b 0),(Int.toNat (((a:Nat):Int)-(1:Int))))))
    (.leaf (.inr (.inl (b,a))))
def zz(c:List Int)(d:Nat) :Nat×Nat→Option ((Nat×Nat)⊕((Nat×Nat)⊕(d6))):=fun (a,b) =>
  aC ((pB c a b).run) fun e =>
  (IZ d a b e).run
theorem WD(a:List Int)(b:Nat)(c:Nat)(d:Nat) :Sg prog [.ns .u64 a] WC (Bv a b (c,d)) (zz a b (c,d)) (Bv a b) (cy 0 (J1 a b) yu):=by
  unfold zz;exact Sg.cut 1 (az vy) (bj sb (Y7 a b c d) [⟨[],[0],[0,14]⟩,⟨[],[0],[0,14]⟩]) (fun e=>bj sb _ [⟨[],[0],[0]⟩,⟨[],[0],[0]⟩])
def WE(a:List Int)(b:Nat)(c:Nat)(d:Nat) :T ((Empty)⊕(d6)) :=
  .leaf (.inr (.r0 c d b a))
def bO(a:List Int)(c:Nat)(d:Nat)(b:Nat) :Option d6:=jM (aC ((Y6).run) fun _ =>
  aC (dh (zz a b) (c,d)) fun (e,f) =>
  (WE a b e f).run)
theorem Y8(a:List Int)(c:Nat)(d:Nat)(b:Nat){x:d6}(h:bO a c d b=some x) :ay prog um [.ns .u64 a] [.sl 0 1 1 c d b] (Ec x) :=
  kf false Ec yu h (Sg.cut 1 vy (bj sb (Y5 a c d b) [⟨[],[0],[0]⟩]) (fun _=>Sg.cut 1 vy (AD ⟨[],[0],[0]⟩ (Bv a b) (J1 a b) 0 vy (Y3 _) (fun ⟨e,f⟩=>WD a b e f)) (fun ⟨k,l⟩=>bj sb _ [⟨[],[0],[2]⟩])))
    (fun x=>by cases x with | r0 g i j m=>exact jN [.sl 0 1 1 g i j])
def kN:Option d6→Bool
  | some _=>true
  | none=>false
def kj:Option d6→Nat
  | some (.r0 x _ _ _)=>x
  | _=>0
def km:Option d6→Nat
  | some (.r0 _ x _ _)=>x
  | _=>0
def ko:Option d6→Nat
  | some (.r0 _ _ x _)=>x
  | _=>0
def kp:Option d6→List Int
  | some (.r0 _ _ _ x)=>x
  | _=>[]
theorem Y9{x:Option d6}(h:kN x=true) :x=some (.r0 (kj x) (km x) (ko x) (kp x)):=by
  unfold kN at h
  split at h<;>first | rfl | (cases h;done) | (rename_i y;cases y;rfl)
def My:aM:=amE um [.ns .u64] (.cons (.lsl 0) .nil) fun x t=>(fun q=>[⟨Ec (.r0 (kj q) (km q) (ko q) (kp q)),[kN q]⟩]) (bO x.1 t.1.1 t.1.2.1 t.1.2.2)
theorem TB:aY prog My:=YN fun x t=>(LJ (fun h=>Y8 x.1 t.1.1 t.1.2.1 t.1.2.2 (Y9 h)) YO)
def Mz:List aM:=My::Y2
theorem xi:be prog (bh Mz):=ax TB sb
inductive pC where
  | r0 (a:Nat) (b:Nat) (c:Nat) (d:List Int)
def am6:pC→AE×aQ
  | .r0 a b c d=>(.ret,⟨an 6 [(2,.sl 0 1 1 a b c)],[(0,.ns .u64 d)],1⟩)
theorem as9:jJ am6:=by intro x;cases x<;>(intro h;cases h)
def Za:pC→gM
  | .r0 a b d c=>⟨.imm .free (.ns .u64 c) 1 1 a b,[]⟩
def ata:Nat×Nat×Nat×(List Int)→aQ:=fun (a,b,c,d)=>⟨an 6 [(2,.sl 0 1 1 a b c)],[(0,.ns .u64 d)],1⟩
def ag7(a:Int) :T ((Nat×Nat×Nat×(List Int))⊕(pC)) :=
  .need (kN (bO [a] 0 1 1))<|.leaf (.inl ((kj (bO [a] 0 1 1)),(km (bO [a] 0 1 1)),(ko (bO [a] 0 1 1)),(kp (bO [a] 0 1 1))))
def atb(a:Nat)(b:Nat)(c:Nat)(d:List Int) :T ((Empty)⊕(pC)) :=
  .leaf (.inr (.r0 a b c d))
def ck(a:Int) :Option pC:=jM (aC ((ag7 a).run) fun (b,c,d,e) =>
  (atb b c d e).run)
theorem atc(a:Int){x:pC}(h:ck a=some x) :ay prog YP [] [.int .u64 a] (Za x) :=
  kf true Za am6 h (Sg.cut 2 as9 (bj xi ata [⟨[],[32],[2]⟩]) (fun ⟨e,f,g,i⟩=>bj xi _ [⟨[],[0],[2]⟩]))
    (fun x=>by cases x with | r0 b c d j=>exact jN [.sl 0 1 1 b c d])
def xj:Option pC→Bool
  | some _=>true
  | none=>false
def em:Option pC→Nat
  | some (.r0 x _ _ _)=>x
  | _=>0
def er:Option pC→Nat
  | some (.r0 _ x _ _)=>x
  | _=>0
def UY:Option pC→Nat
  | some (.r0 _ _ x _)=>x
  | _=>0
def eu:Option pC→List Int
  | some (.r0 _ _ _ x)=>x
  | _=>[]
theorem atd{x:Option pC}(h:xj x=true) :x=some (.r0 (em x) (er x) (UY x) (eu x)):=by
  unfold xj at h
  split at h<;>first | rfl | (cases h;done) | (rename_i y;cases y;rfl)
def am7:aM:=bK YP (.cons (.int .u64) .nil) fun t=>(fun q=>[⟨Za (.r0 (em q) (er q) (UY q) (eu q)),[xj q]⟩]) (ck t.1)
theorem am8:aY prog am7:=aR fun t=>(aS (fun h=>atc t.1 (atd h)) bc)
def am9:List aM:=am7::Mz
theorem Dq:be prog (bh am9):=ax am8 xi
inductive oz where
  | r0 (a:Int)
def LT:oz→AE×aQ
  | .r0 a=>(.ret,⟨an 45 [(4,.int .i64 a)],[],0⟩)
theorem OO:jJ LT:=by intro x;cases x<;>(intro h;cases h)
theorem aqd(id:Nat) :mP id LT:=by intro x;cases x<;>(intro h;cases h)
def TC:oz→gM
  | .r0 a=>⟨.int .i64 a,[]⟩
def aqe:List Code:=cN (oa Tu)
def aqf(c:Lv)(a:List Int)(d:Lv)(b:List Int)(e:Int) :aQ:=⟨an 45 [(0,.imm c (.ns .u64 a) 1 1 0 (List.length a)),(1,.imm d (.ns .u64 b) 1 1 0 (List.length b)),(5,.int .i64 e)],[],0⟩
def Hb(a:List Int)(b:List Int) :T ((Int)⊕(oz)) :=
  .ask (decide ((((List.length a):Nat):Int)<(((List.length b):Nat):Int)))
    (.leaf (.inr (.r0 (-1:Int))))
    (.ask (decide ((((List.length a):Nat):Int)>(((List.length b):Nat):Int)))
      (.leaf (.inr (.r0 (1:Int))))
      (.need (di .i64 ((((List.length a):Nat):Int)-(1:Int)))<|.leaf (.inl ((((List.length a):Nat):Int)-(1:Int)))))
def OP(c:Lv)(a:List Int)(d:Lv)(b:List Int)(e:Int) :aQ:=⟨an 45 [(0,.imm c (.ns .u64 a) 1 1 0 (List.length a)),(1,.imm d (.ns .u64 b) 1 1 0 (List.length b)),(5,.int .i64 e)],[],0⟩
def Zb(_:Unit) :aQ:=⟨an 45 [],[],0⟩
def aqg:List Code:=cN (dn ((((aqe.drop 3).take 1)).headD .skip))
def Bw(b:List Int)(c:List Int)(a:Int) :T ((Int)⊕((Unit)⊕(oz))) :=
  .ask (decide (a≥(0:Int)))
    (.need (fv a (List.length b))<|.need (g9 (Int.toNat a) (List.length b))<|.need (fv a (List.length c))<|.need (g9 (Int.toNat a) (List.length c))<|.ask (decide ((List.getD b (Int.toNat a) 0)<(List.getD c (Int.toNat a) 0)))
      (.leaf (.inr (.inr (.r0 (-1:Int)))))
      (.need (fv a (List.length b))<|.need (g9 (Int.toNat a) (List.length b))<|.need (fv a (List.length c))<|.need (g9 (Int.toNat a) (List.length c))<|.ask (decide ((List.getD b (Int.toNat a) 0)>(List.getD c (Int.toNat a) 0)))
        (.leaf (.inr (.inr (.r0 (1:Int)))))
        (.need (di .i64 (a-(1:Int)))<|.leaf (.inl (a-(1:Int))))))
    (.leaf (.inr (.inl ())))
def Dr(a:List Int)(b:List Int) :Int→Option ((Int)⊕((Unit)⊕(oz))):=fun c =>
  (Bw a b c).run
theorem ana(c:Lv)(a:List Int)(d:Lv)(b:List Int)(e:Int) :Sg prog [] aqg (OP c a d b e) (Dr a b e) (OP c a d b) (cy 1 Zb LT):=by
  unfold Dr;exact bj Dq _ [⟨[],[],[4]⟩,⟨[],[],[4]⟩,⟨[],[],[0,1,5]⟩,⟨[],[],[]⟩]
def anb:T ((Empty)⊕(oz)) :=
  .leaf (.inr (.r0 (0:Int)))
def xk(a:List Int)(b:List Int) :Option oz:=jM (aC ((Hb a b).run) fun c =>
  aC (dh (Dr a b) c) fun _ =>
  (anb).run)
theorem aqh(c:Lv)(a:List Int)(d:Lv)(b:List Int){x:oz}(h:xk a b=some x) :ay prog Tu [] [.imm c (.ns .u64 a) 1 1 0 (List.length a),.imm d (.ns .u64 b) 1 1 0 (List.length b)] (TC x) :=
  kf false TC LT h (Sg.cut 3 OO (bj Dq (aqf c a d b) [⟨[],[],[4]⟩,⟨[],[],[4]⟩,⟨[],[],[0,1,5]⟩]) (fun g=>Sg.cut 1 OO (AD ⟨[],[],[0,1,5]⟩ (OP c a d b) (Zb) 1 OO (aqd _) (fun e=>ana c a d b e)) (fun _=>bj Dq _ [⟨[],[],[4]⟩])))
    (fun x=>by cases x with | r0 f=>exact jN [.int .i64 f])
def Bx:Option oz→Bool
  | some _=>true
  | none=>false
def AG:Option oz→Int
  | some (.r0 x)=>x
  | _=>0
theorem aqi{x:Option oz}(h:Bx x=true) :x=some (.r0 (AG x)):=by
  unfold Bx at h
  split at h<;>first | rfl | (cases h;done) | (rename_i y;cases y;rfl)
def ag8:aM:=bK Tu (.cons (.ns .u64) (.cons (.ns .u64) .nil)) fun t=>(fun q=>[⟨TC (.r0 (AG q)),[Bx q]⟩]) (xk t.1.2 t.2.1.2)
theorem aiH:aY prog ag8:=aR fun t=>(aS (fun h=>aqh t.1.1 t.1.2 t.2.1.1 t.2.1.2 (aqi h)) bc)
def ag9:List aM:=ag8::am9
theorem AH:be prog (bh ag9):=ax aiH Dq
inductive oA where
  | r0 (a:Int) (b:Nat)
def aha:oA→AE×aQ
  | .r0 a b=>(.ret,⟨an 15 [(4,.int .i64 a),(5,.int .i64 ((b:Nat):Int))],[],0⟩)
theorem Zc:jJ aha:=by intro x;cases x<;>(intro h;cases h)
def TD:oA→gM
  | .r0 a b=>⟨.tup [.int .i64 a,.int .i64 ((b:Nat):Int)],[]⟩
def aqj(a:Lv)(b:Lv) :Nat×(List Int)×Nat×(List Int)×Nat→aQ:=fun (c,d,e,f,g)=>⟨an 15 [(2,.ptr 0 1 0 0),(3,.ptr 1 1 0 0),(6,.int .i64 ((c:Nat):Int))],[(0,.vs [.imm a (.ns .u64 d) 1 1 0 e]),(1,.vs [.imm b (.ns .u64 f) 1 1 0 g])],2⟩
def Zd(a : List Int)(b : List Int) : T ((Nat × (List Int) × Nat × (List Int) × Nat) ⊕ (oA)) :=
  .ask (decide ((0:Int)<(2:Int)))
    (.need (fv (0:Int) 2)<|.need (aG 0 (List.length a) a)<|.need (cW (aN (ab 0 (List.length a) a)))<|.ask (decide ((((ba (aN (ab 0 (List.length a) a))):Nat):Int)>(4096:Int)))
      (.leaf (.inl (2,(bm (aN (ab 0 (List.length a) a))),(ba (aN (ab 0 (List.length a) a))),b,(List.length b))))
      (.need (di .i64 (1:Int))<|.ask (decide ((1:Int)<(2:Int)))
        (.need (fv (1:Int) 2)<|.need (aG 0 (List.length b) b)<|.need (cW (aN (ab 0 (List.length b) b)))<|.ask (decide ((((ba (aN (ab 0 (List.length b) b))):Nat):Int)>(4096:Int)))
          (.leaf (.inl (2,(bm (aN (ab 0 (List.length a) a))),(ba (aN (ab 0 (List.length a) a))),(bm (aN (ab 0 (List.length b) b))),(ba (aN (ab 0 (List.length b) b))))))
          (.need (di .i64 (2:Int))<|.ask (decide ((2:Int)<(2:Int)))
            (.fail)
            (.leaf (.inl (0,(bm (aN (ab 0 (List.length a) a))),(ba (aN (ab 0 (List.length a) a))),(bm (aN (ab 0 (List.length b) b))),(ba (aN (ab 0 (List.length b) b))))))))
        (.fail)))
    (.fail)
def aqk(a:Int) :aQ:=⟨an 15 [(4,.int .i64 a),(5,.int .i64 (0:Int))],[],0⟩
def Ze(e:Nat)(a:List Int)(b:Nat)(c:List Int)(d:Nat) :T ((Int)⊕(oA)) :=
  .ask (((e:Nat):Int) != (0:Int))
    (.leaf (.inr (.r0 (0:Int) e)))
    (.need (aG 0 b a)<|.need (aG 0 d c)<|.need (Bx (xk (ab 0 b a) (ab 0 d c)))<|.leaf (.inl (AG (xk (ab 0 b a) (ab 0 d c)))))
def aql(a:Int) :T ((Empty)⊕(oA)) :=
  .leaf (.inr (.r0 a 0))
def xn(a:List Int)(b:List Int) :Option oA:=jM (aC ((Zd a b).run) fun (c,d,e,f,g) =>
  aC ((Ze c d e f g).run) fun h =>
  (aql h).run)
theorem aqm(c:Lv)(a:List Int)(d:Lv)(b:List Int){x:oA}(h:xn a b=some x) :ay prog Ts [] [.imm c (.ns .u64 a) 1 1 0 (List.length a),.imm d (.ns .u64 b) 1 1 0 (List.length b)] (TD x) :=
  kf true TD aha h (Sg.cut 2 Zc (bj AH (aqj c d) [⟨[],[0,16],[2,3,6]⟩,⟨[],[0,16],[2,3,6]⟩,⟨[],[0,16],[2,3,6]⟩]) (fun ⟨g,i,j,k,l⟩=>Sg.cut 3 Zc (bj AH aqk [⟨[],[],[4,5]⟩,⟨[],[],[4,5]⟩]) (fun m=>bj AH _ [⟨[],[],[4,5]⟩])))
    (fun x=>by cases x with | r0 e f=>exact jN [.int .i64 e,.int .i64 ((f:Nat):Int)])
def By:Option oA→Bool
  | some _=>true
  | none=>false
def AI:Option oA→Int
  | some (.r0 x _)=>x
  | _=>0
def QL:Option oA→Nat
  | some (.r0 _ x)=>x
  | _=>0
theorem aqn{x:Option oA}(h:By x=true) :x=some (.r0 (AI x) (QL x)):=by
  unfold By at h
  split at h<;>first | rfl | (cases h;done) | (rename_i y;cases y;rfl)
def ahb:aM:=bK Ts (.cons (.ns .u64) (.cons (.ns .u64) .nil)) fun t=>(fun q=>[⟨TD (.r0 (AI q) (QL q)),[By q]⟩]) (xn t.1.2 t.2.1.2)
theorem aiI:aY prog ahb:=aR fun t=>(aS (fun h=>aqm t.1.1 t.1.2 t.2.1.1 t.2.1.2 (aqn h)) bc)
def ahc:List aM:=ahb::ag9
theorem Hc:be prog (bh ahc):=ax aiI AH
inductive iV where
  | r0 (a:List Int)
  | r1 (b:Nat) (c:Nat) (d:Nat) (e:List Int)
def Zf:iV→AE×aQ
  | .r0 a=>(.ret,⟨an 10 [(2,.nsl),(3,.int .i64 (3:Int))],[(0,.ns .u64 a)],1⟩)
  | .r1 b c d e=>(.ret,⟨an 10 [(2,.sl 0 1 1 b c d),(3,.int .i64 (0:Int))],[(0,.ns .u64 e)],1⟩)
theorem anc:jJ Zf:=by intro x;cases x<;>(intro h;cases h)
def Hd:iV→gM
  | .r0 a=>⟨.tup [.nsl,.int .i64 (3:Int)],[some (.ns .u64 a)]⟩
  | .r1 b c d e=>⟨.tup [.sl 0 1 1 b c d,.int .i64 (0:Int)],[some (.ns .u64 e)]⟩
def ane:Nat×Nat×Nat×(List Int)→aQ:=fun (a,b,c,d)=>⟨an 10 [(0,.sl 0 1 1 a b c)],[(0,.ns .u64 d)],1⟩
def UZ(a:List Int)(b:Nat)(c:Nat)(d:Nat) :T ((Nat×Nat×Nat×(List Int))⊕(iV)) :=
  .need (kN (bO a b c d))<|.leaf (.inl ((kj (bO a b c d)),(km (bO a b c d)),(ko (bO a b c d)),(kp (bO a b c d))))
def anf(c:Nat)(a:Nat)(d:Nat)(b:List Int) :T ((Empty)⊕(iV)) :=
  .ask (decide (((a:Nat):Int)>(4096:Int)))
    (.leaf (.inr (.r0 b)))
    (.leaf (.inr (.r1 c a d b)))
def iW(a:List Int)(b:Nat)(c:Nat)(d:Nat) :Option iV:=jM (aC ((UZ a b c d).run) fun (e,f,g,h) =>
  (anf e f g h).run)
theorem U0(a:List Int)(b:Nat)(c:Nat)(d:Nat){x:iV}(h:iW a b c d=some x) :ay prog Bs [.ns .u64 a] [.sl 0 1 1 b c d] (Hd x) :=
  kf false Hd Zf h (Sg.cut 2 anc (bj Hc ane [⟨[],[0],[0]⟩]) (fun ⟨i,j,k,l⟩=>bj Hc _ [⟨[],[0],[2,3]⟩,⟨[],[0],[2,3]⟩]))
    (fun x=>by cases x with | r0 m=>exact jN [.nsl,.int .i64 (3:Int)] | r1 e f g n=>exact jN [.sl 0 1 1 e f g,.int .i64 (0:Int)])
def za:Option iV→Bool
  | some (.r0 _)=>true
  | _=>false
def MA:Option iV→List Int
  | some (.r0 x)=>x
  | _=>[]
theorem ang{x:Option iV}(h:za x=true) :x=some (.r0 (MA x)):=by
  unfold za at h
  split at h<;>first | rfl | (cases h;done) | (rename_i y;cases y;rfl)
def zb:Option iV→Bool
  | some (.r1 _ _ _ _)=>true
  | _=>false
def yw:Option iV→Nat
  | some (.r1 x _ _ _)=>x
  | _=>0
def yx:Option iV→Nat
  | some (.r1 _ x _ _)=>x
  | _=>0
def yy:Option iV→Nat
  | some (.r1 _ _ x _)=>x
  | _=>0
def yz:Option iV→List Int
  | some (.r1 _ _ _ x)=>x
  | _=>[]
theorem anh{x:Option iV}(h:zb x=true) :x=some (.r1 (yw x) (yx x) (yy x) (yz x)):=by
  unfold zb at h
  split at h<;>first | rfl | (cases h;done) | (rename_i y;cases y;rfl)
def Zg:aM:=amE Bs [.ns .u64] (.cons (.lsl 0) .nil) fun x t=>(fun q=>[⟨Hd (.r0 (MA q)),[za q]⟩,⟨Hd (.r1 (yw q) (yx q) (yy q) (yz q)),[zb q]⟩]) (iW x.1 t.1.1 t.1.2.1 t.1.2.2)
theorem acN:aY prog Zg:=YN fun x t=>(LJ (fun h=>U0 x.1 t.1.1 t.1.2.1 t.1.2.2 (ang h)) (LJ (fun h=>U0 x.1 t.1.1 t.1.2.1 t.1.2.2 (anh h)) YO))
def Zh:List aM:=Zg::ahc
theorem lZ:be prog (bh Zh):=ax acN Hc
inductive gB where
  | r0 (a:Nat) (b:Nat) (c:Nat) (d:Nat) (e:List Int)
def LU:gB→AE×aQ
  | .r0 a b c d e=>(.ret,⟨an 62 [(4,.sl 0 1 1 a b c),(5,.int .i64 ((d:Nat):Int))],[(0,.ns .u64 e)],1⟩)
theorem uq:jJ LU:=by intro x;cases x<;>(intro h;cases h)
theorem aqo(id:Nat) :mP id LU:=by intro x;cases x<;>(intro h;cases h)
def TE:gB→gM
  | .r0 a b e c d=>⟨.tup [.imm .free (.ns .u64 d) 1 1 a b,.int .i64 ((c:Nat):Int)],[]⟩
def ani:List Code:=cN (oa LL)
def aqp(a:Lv)(b:Lv) :Nat×(List Int)×Nat×(List Int)×Nat→aQ:=fun (c,d,e,f,g)=>⟨an 62 [(2,.ptr 0 1 0 0),(3,.ptr 1 1 0 0),(6,.int .i64 ((c:Nat):Int))],[(0,.vs [.imm a (.ns .u64 d) 1 1 0 e]),(1,.vs [.imm b (.ns .u64 f) 1 1 0 g])],2⟩
def U1(a : List Int)(b : List Int) : T ((Nat × (List Int) × Nat × (List Int) × Nat) ⊕ (gB)) :=
  .ask (decide ((0:Int)<(2:Int)))
    (.need (fv (0:Int) 2)<|.need (aG 0 (List.length a) a)<|.need (cW (aN (ab 0 (List.length a) a)))<|.ask (decide ((((ba (aN (ab 0 (List.length a) a))):Nat):Int)>(4096:Int)))
      (.leaf (.inl (2,(bm (aN (ab 0 (List.length a) a))),(ba (aN (ab 0 (List.length a) a))),b,(List.length b))))
      (.need (di .i64 (1:Int))<|.ask (decide ((1:Int)<(2:Int)))
        (.need (fv (1:Int) 2)<|.need (aG 0 (List.length b) b)<|.need (cW (aN (ab 0 (List.length b) b)))<|.ask (decide ((((ba (aN (ab 0 (List.length b) b))):Nat):Int)>(4096:Int)))
          (.leaf (.inl (2,(bm (aN (ab 0 (List.length a) a))),(ba (aN (ab 0 (List.length a) a))),(bm (aN (ab 0 (List.length b) b))),(ba (aN (ab 0 (List.length b) b))))))
          (.need (di .i64 (2:Int))<|.ask (decide ((2:Int)<(2:Int)))
            (.fail)
            (.leaf (.inl (0,(bm (aN (ab 0 (List.length a) a))),(ba (aN (ab 0 (List.length a) a))),(bm (aN (ab 0 (List.length b) b))),(ba (aN (ab 0 (List.length b) b))))))))
        (.fail)))
    (.fail)
def aqq:(List Int)×Nat×(List Int)×Nat→aQ:=fun (a,b,c,d)=>⟨an 62 [(2,.ptr 0 1 0 0),(3,.ptr 1 1 0 0)],[(0,.vs [.imm .lent (.ns .u64 a) 1 1 0 b]),(1,.vs [.imm .lent (.ns .u64 c) 1 1 0 d])],2⟩
def anj(c:Nat)(d:List Int)(a:Nat)(e:List Int)(b:Nat) :T (((List Int)×Nat×(List Int)×Nat)⊕(gB)) :=
  .ask (((c:Nat):Int) != (0:Int))
    (.leaf (.inr (.r0 0 0 0 c ([]:List Int))))
    (.ask (decide (((a:Nat):Int)<((b:Nat):Int)))
      (.leaf (.inl (e,b,d,a)))
      (.leaf (.inl (d,a,e,b))))
def aqr(c:List Int)(a:Nat)(d:List Int)(e:Nat) :Nat×(List Int)→aQ:=fun (b,f)=>⟨an 62 [(2,.ptr 0 1 0 0),(3,.ptr 1 1 0 0),(7,.ptr 2 1 0 0),(8,.fn (.func Df) [] [.ptr 2 1 0 0]),(9,.sl 3 1 1 0 b b),(30,.int .i64 ((a:Nat):Int)),(31,.int .i64 (0:Int))],[(0,.vs [.imm .lent (.ns .u64 c) 1 1 0 a]),(1,.vs [.imm .lent (.ns .u64 d) 1 1 0 e]),(2,.vs [.int .u64 (0:Int)]),(3,.ns .u64 f)],4⟩
def J2(a:Nat) :T ((Nat×(List Int))⊕(gB)) :=
  .need (di .i64 (((a+1):Nat):Int))<|.need (decide ((0:Int)≤(((a+1):Nat):Int)))<|.need (decide ((((a+1):Nat):Int)≤(((a+1):Nat):Int)))<|.need (decide ((8:Int)*(((a+1):Nat):Int)≤140737488355328))<|.need (di .i64 (((a+1):Nat):Int))<|.leaf (.inl ((a+1),(List.replicate (a+1) (0:Int))))
def OQ(c:List Int)(a:Nat)(d:List Int)(e:Nat)(b:Nat) :Nat×Nat×(List Int)→aQ:=fun (f,g,h)=>⟨an 62 [(2,.ptr 0 1 0 0),(3,.ptr 1 1 0 0),(7,.ptr 2 1 0 0),(8,.fn (.func Df) [] [.ptr 2 1 0 0]),(9,.sl 3 1 1 0 b b),(30,.int .i64 ((a:Nat):Int)),(31,.int .i64 ((f:Nat):Int))],[(0,.vs [.imm .lent (.ns .u64 c) 1 1 0 a]),(1,.vs [.imm .lent (.ns .u64 d) 1 1 0 e]),(2,.vs [.int .u64 ((g:Nat):Int)]),(3,.ns .u64 h)],4⟩
def Zi(b:List Int)(c:Nat)(a:Nat) :Nat×(List Int)→aQ:=fun (d,e)=>⟨an 62 [(2,.ptr 0 1 0 0),(7,.ptr 1 1 0 0),(9,.sl 2 1 1 0 a a)],[(0,.vs [.imm .lent (.ns .u64 b) 1 1 0 c]),(1,.vs [.int .u64 ((d:Nat):Int)]),(2,.ns .u64 e)],3⟩
def ank:List Code:=cN (dn ((((((ani.drop 2).drop 4).drop 4).take 1)).headD .skip))
def aqs(c:List Int)(a:Nat)(d:List Int)(e:Nat)(b:Nat)(f:Nat) :Nat×(List Int)→aQ:=fun (g,h)=>⟨an 62 [(2,.ptr 0 1 0 0),(3,.ptr 1 1 0 0),(7,.ptr 2 1 0 0),(8,.fn (.func Df) [] [.ptr 2 1 0 0]),(9,.sl 3 1 1 0 b b),(30,.int .i64 ((a:Nat):Int)),(31,.int .i64 ((f:Nat):Int))],[(0,.vs [.imm .lent (.ns .u64 c) 1 1 0 a]),(1,.vs [.imm .lent (.ns .u64 d) 1 1 0 e]),(2,.vs [.int .u64 ((g:Nat):Int)]),(3,.ns .u64 h)],4⟩
def J3(c:List Int)(e:Nat)(f:List Int)(g:Nat)(h:Nat)(a:Nat)(b:Nat)(d:List Int) :T ((Nat×(List Int))⊕((Nat×(List Int))⊕(gB))) :=
  .ask (decide (((a:Nat):Int)<((e:Nat):Int)))
    (.ask (decide (((a:Nat):Int)<((g:Nat):Int)))
      (.need (fv ((a:Nat):Int) g)<|.need (g9 a (List.length f))<|.need (fv ((a:Nat):Int) e)<|.need (g9 a (List.length c))<|.need (qt b 1)<|.need (fv ((a:Nat):Int) h)<|.need (g9 a (List.length d))<|.leaf (.inl ((((Int.toNat (List.getD c a 0))+(Int.toNat (List.getD f a 0))+b)/18446744073709551616),(List.set d a (((((Int.toNat (List.getD c a 0))+(Int.toNat (List.getD f a 0))+b)%18446744073709551616):Nat):Int)))))
      (.need (fv ((a:Nat):Int) e)<|.need (g9 a (List.length c))<|.need (qt b 1)<|.need (fv ((a:Nat):Int) h)<|.need (g9 a (List.length d))<|.leaf (.inl ((((Int.toNat (List.getD c a 0))+0+b)/18446744073709551616),(List.set d a (((((Int.toNat (List.getD c a 0))+0+b)%18446744073709551616):Nat):Int))))))
    (.leaf (.inr (.inl (b,d))))
def anl(a:Nat)(b:Nat)(c:List Int) :T ((Nat×Nat×(List Int))⊕((Nat×(List Int))⊕(gB))) :=
  .need (di .i64 (((a+1):Nat):Int))<|.leaf (.inl ((a+1),b,c))
def zc(b:List Int)(c:Nat)(d:List Int)(e:Nat)(f:Nat) :Nat×Nat×(List Int)→Option ((Nat×Nat×(List Int))⊕((Nat×(List Int))⊕(gB))):=fun (a,g,h) =>
  aC ((J3 b c d e f a g h).run) fun (i,j) =>
  (anl a i j).run
theorem anm(a:List Int)(b:Nat)(d:List Int)(e:Nat)(c:Nat)(f:Nat)(g:Nat)(h:List Int) :Sg prog [] ank (OQ a b d e c (f,g,h)) (zc a b d e c (f,g,h)) (OQ a b d e c) (cy 0 (Zi a b c) LU):=by
  unfold zc;exact Sg.cut 3 (az uq) (bj lZ (aqs a b d e c f) [⟨[],[0,1,2,3],[2,3,7,8,9,30,31]⟩,⟨[],[0,1,2,3],[2,3,7,8,9,30,31]⟩,⟨[],[0,2,3],[2,7,9]⟩]) (fun ⟨i,j⟩=>bj lZ _ [⟨[],[0,1,2,3],[2,3,7,8,9,30,31]⟩])
def ann:Nat×Nat×Nat×Nat×(List Int)→aQ:=fun (a,b,c,d,e)=>⟨an 62 [(4,.sl 0 1 1 a b c),(5,.int .i64 ((d:Nat):Int))],[(0,.ns .u64 e)],1⟩
def J4(b:Nat)(a:Nat)(d:Nat)(c:List Int) :T ((Nat×Nat×Nat×Nat×(List Int))⊕(gB)) :=
  .need (fv ((b:Nat):Int) a)<|.need (g9 b (List.length c))<|.alt 0
    (.need (za (iW (List.set c b ((d:Nat):Int)) 0 a a))<|.leaf (.inl (0,0,0,3,([]:List Int))))
    (.alt 1
      (.need (zb (iW (List.set c b ((d:Nat):Int)) 0 a a))<|.leaf (.inl ((yw (iW (List.set c b ((d:Nat):Int)) 0 a a)),(yx (iW (List.set c b ((d:Nat):Int)) 0 a a)),(yy (iW (List.set c b ((d:Nat):Int)) 0 a a)),0,(yz (iW (List.set c b ((d:Nat):Int)) 0 a a)))))
      (.fail))
def U2(a:Nat)(b:Nat)(c:Nat)(d:Nat)(e:List Int) :T ((Empty)⊕(gB)) :=
  .leaf (.inr (.r0 a b c d e))
def cI(c:List Int)(d:List Int) :Option gB:=jM (aC ((U1 c d).run) fun (e,f,g,h,i) =>
  aC ((anj e f g h i).run) fun (j,a,k,l) =>
  aC ((J2 a).run) fun (b,m) =>
  aC (dh (zc j a k l b) (0,0,m)) fun (n,o) =>
  aC ((J4 a b n o).run) fun (p,q,r,s,t) =>
  (U2 p q r s t).run)
theorem aqt(i:Lv)(c:List Int)(j:Lv)(d:List Int){x:gB}(h:cI c d=some x) :ay prog LL [] [.imm i (.ns .u64 c) 1 1 0 (List.length c),.imm j (.ns .u64 d) 1 1 0 (List.length d)] (TE x) :=
  kf true TE LU h (Sg.cut 2 uq (bj lZ (aqp i j) [⟨[],[0,16],[2,3,6]⟩,⟨[],[0,16],[2,3,6]⟩,⟨[],[0,16],[2,3,6]⟩]) (fun ⟨r,s,t,u,v⟩=>Sg.cut 4 uq (bj lZ aqq [⟨[(.slot 4,.own 1 1 (.ns .u64 ([]:List Int)))],[82],[4,5]⟩,⟨[(.cell 0 0,.low),(.cell 1 0,.low)],[0,1],[2,3]⟩,⟨[(.cell 0 0,.low),(.cell 1 0,.low)],[0,1],[2,3]⟩]) (fun ⟨a,b,e,f⟩=>Sg.cut 4 uq (bj lZ (aqr a b e f) [⟨[],[0,1,2,114],[2,3,7,8,9,30,31]⟩]) (fun ⟨g,w⟩=>Sg.cut 1 uq (AD ⟨[],[0,1,2,3],[2,3,7,8,9,30,31]⟩ (OQ a b e f g) (Zi a b g) 0 uq (aqo _) (fun ⟨k,l,m⟩=>anm a b e f g k l m)) (fun ⟨y,z⟩=>Sg.cut 2 uq (bj lZ ann [⟨[(.slot 4,.own 1 1 (.ns .u64 ([]:List Int)))],[195],[4,5]⟩,⟨[],[2],[4,5]⟩]) (fun ⟨A,B,C,D,E⟩=>bj lZ _ [⟨[],[0],[4,5]⟩]))))))
    (fun x=>by cases x with | r0 n o p q F=>exact jN [.sl 0 1 1 n o p,.int .i64 ((q:Nat):Int)])
def Bz:Option gB→Bool
  | some _=>true
  | none=>false
def jm:Option gB→Nat
  | some (.r0 x _ _ _ _)=>x
  | _=>0
def jn:Option gB→Nat
  | some (.r0 _ x _ _ _)=>x
  | _=>0
def QM:Option gB→Nat
  | some (.r0 _ _ x _ _)=>x
  | _=>0
def kD:Option gB→Nat
  | some (.r0 _ _ _ x _)=>x
  | _=>0
def jo:Option gB→List Int
  | some (.r0 _ _ _ _ x)=>x
  | _=>[]
theorem aqu{x:Option gB}(h:Bz x=true) :x=some (.r0 (jm x) (jn x) (QM x) (kD x) (jo x)):=by
  unfold Bz at h
  split at h<;>first | rfl | (cases h;done) | (rename_i y;cases y;rfl)
def ahd:aM:=bK LL (.cons (.ns .u64) (.cons (.ns .u64) .nil)) fun t=>(fun q=>[⟨TE (.r0 (jm q) (jn q) (QM q) (kD q) (jo q)),[Bz q]⟩]) (cI t.1.2 t.2.1.2)
theorem aiJ:aY prog ahd:=aR fun t=>(aS (fun h=>aqt t.1.1 t.1.2 t.2.1.1 t.2.1.2 (aqu h)) bc)
def ahe:List aM:=ahd::Zh
theorem rv:be prog (bh ahe):=ax aiJ lZ
inductive jK where
  | r0 (a:Nat) (b:Nat) (c:Nat) (d:List Int)
def LV:jK→AE×aQ
  | .r0 a b c d=>(.ret,⟨an 40 [(4,.sl 0 1 1 a b c)],[(0,.ns .u64 d)],1⟩)
theorem BA:jJ LV:=by intro x;cases x<;>(intro h;cases h)
theorem aqv(id:Nat) :mP id LV:=by intro x;cases x<;>(intro h;cases h)
def TF:jK→gM
  | .r0 a b d c=>⟨.imm .free (.ns .u64 c) 1 1 a b,[]⟩
def ano:List Code:=cN (oa LO)
def aqw(d:Lv)(a:List Int)(e:Lv)(b:List Int) :Nat×(List Int)→aQ:=fun (c,f)=>⟨an 40 [(0,.imm d (.ns .u64 a) 1 1 0 (List.length a)),(1,.imm e (.ns .u64 b) 1 1 0 (List.length b)),(5,.sl 0 1 1 0 c c),(6,.int .u64 (0:Int)),(12,.int .i64 (((List.length a):Nat):Int)),(13,.int .i64 (0:Int))],[(0,.ns .u64 f)],1⟩
def U3(a:List Int) :T ((Nat×(List Int))⊕(jK)) :=
  .need (aG 0 (List.length a) a)<|.need (wZ (List.length (ab 0 (List.length a) a)))<|.leaf (.inl ((List.length (ab 0 (List.length a) a)),(ab 0 (List.length a) a)))
def OR(d:Lv)(a:List Int)(e:Lv)(b:List Int)(c:Nat) :Int×Nat×(List Int)→aQ:=fun (f,g,h)=>⟨an 40 [(0,.imm d (.ns .u64 a) 1 1 0 (List.length a)),(1,.imm e (.ns .u64 b) 1 1 0 (List.length b)),(5,.sl 0 1 1 0 c c),(6,.int .u64 f),(12,.int .i64 (((List.length a):Nat):Int)),(13,.int .i64 ((g:Nat):Int))],[(0,.ns .u64 h)],1⟩
def Zj(a:Nat)(b:(List Int)) :aQ:=⟨an 40 [(5,.sl 0 1 1 0 a a)],[(0,.ns .u64 b)],1⟩
def anp:List Code:=cN (dn ((((ano.drop 4).take 1)).headD .skip))
def aqx(d:Lv)(a:List Int)(e:Lv)(b:List Int)(c:Nat)(f:Nat) :Int×(List Int)→aQ:=fun (g,h)=>⟨an 40 [(0,.imm d (.ns .u64 a) 1 1 0 (List.length a)),(1,.imm e (.ns .u64 b) 1 1 0 (List.length b)),(5,.sl 0 1 1 0 c c),(6,.int .u64 g),(12,.int .i64 (((List.length a):Nat):Int)),(13,.int .i64 ((f:Nat):Int))],[(0,.ns .u64 h)],1⟩
def J5(b:List Int)(d:List Int)(f:Nat)(c:Int)(a:Nat)(e:List Int) :T ((Int×(List Int))⊕(((List Int))⊕(jK))) :=
  .ask (decide (((a:Nat):Int)<(((List.length b):Nat):Int)))
    (.ask (decide (((a:Nat):Int)<(((List.length d):Nat):Int)))
      (.need (fv ((a:Nat):Int) (List.length d))<|.need (g9 a (List.length d))<|.need (fv ((a:Nat):Int) (List.length b))<|.need (g9 a (List.length b))<|.need (qt (Int.toNat c) 1)<|.need (fv ((a:Nat):Int) f)<|.need (g9 a (List.length e))<|.leaf (.inl ((bif Nat.blt (Int.toNat (List.getD b a 0)) ((Int.toNat (List.getD d a 0))+(Int.toNat c)) then (1:Int) else (0:Int)),(List.set e a (((((Int.toNat (List.getD b a 0))+18446744073709551616-(Int.toNat (List.getD d a 0))-(Int.toNat c))%18446744073709551616):Nat):Int)))))
      (.need (fv ((a:Nat):Int) (List.length b))<|.need (g9 a (List.length b))<|.need (qt (Int.toNat c) 1)<|.need (fv ((a:Nat):Int) f)<|.need (g9 a (List.length e))<|.leaf (.inl ((bif Nat.blt (Int.toNat (List.getD b a 0)) (0+(Int.toNat c)) then (1:Int) else (0:Int)),(List.set e a (((((Int.toNat (List.getD b a 0))+18446744073709551616-0-(Int.toNat c))%18446744073709551616):Nat):Int))))))
    (.leaf (.inr (.inl e)))
def anq(a:Nat)(b:Int)(c:List Int) :T ((Int×Nat×(List Int))⊕(((List Int))⊕(jK))) :=
  .need (di .i64 (((a+1):Nat):Int))<|.leaf (.inl (b,(a+1),c))
def J6(b:List Int)(c:List Int)(d:Nat) :Int×Nat×(List Int)→Option ((Int×Nat×(List Int))⊕(((List Int))⊕(jK))):=fun (e,a,f) =>
  aC ((J5 b c d e a f).run) fun (g,h) =>
  (anq a g h).run
theorem anr(d:Lv)(b:List Int)(e:Lv)(c:List Int)(a:Nat)(g:Int)(f:Nat)(h:List Int) :Sg prog [] anp (OR d b e c a (g,f,h)) (J6 b c a (g,f,h)) (OR d b e c a) (cy 0 (Zj a) LV):=by
  unfold J6;exact Sg.cut 3 (az BA) (bj rv (aqx d b e c a f) [⟨[],[0],[0,1,5,6,12,13]⟩,⟨[],[0],[0,1,5,6,12,13]⟩,⟨[],[0],[5]⟩]) (fun ⟨i,j⟩=>bj rv _ [⟨[],[0],[0,1,5,6,12,13]⟩])
def ans:Nat×Nat×Nat×(List Int)→aQ:=fun (a,b,c,d)=>⟨an 40 [(4,.sl 0 1 1 a b c)],[(0,.ns .u64 d)],1⟩
def U4(a:Nat)(b:List Int) :T ((Nat×Nat×Nat×(List Int))⊕(jK)) :=
  .need (kN (bO b 0 a a))<|.leaf (.inl ((kj (bO b 0 a a)),(km (bO b 0 a a)),(ko (bO b 0 a a)),(kp (bO b 0 a a))))
def ant(a:Nat)(b:Nat)(c:Nat)(d:List Int) :T ((Empty)⊕(jK)) :=
  .leaf (.inr (.r0 a b c d))
def xo(a:List Int)(c:List Int) :Option jK:=jM (aC ((U3 a).run) fun (b,d) =>
  aC (dh (J6 a c b) ((0:Int),0,d)) fun e =>
  aC ((U4 b e).run) fun (f,g,h,i) =>
  (ant f g h i).run)
theorem aqy(c:Lv)(a:List Int)(d:Lv)(b:List Int){x:jK}(h:xo a b=some x) :ay prog LO [] [.imm c (.ns .u64 a) 1 1 0 (List.length a),.imm d (.ns .u64 b) 1 1 0 (List.length b)] (TF x) :=
  kf true TF LV h (Sg.cut 4 BA (bj rv (aqw c a d b) [⟨[],[32],[0,1,5,6,12,13]⟩]) (fun ⟨e,m⟩=>Sg.cut 1 BA (AD ⟨[],[0],[0,1,5,6,12,13]⟩ (OR c a d b e) (Zj e) 0 BA (aqv _) (fun ⟨f,g,i⟩=>anr c a d b e f g i)) (fun n=>Sg.cut 1 BA (bj rv ans [⟨[],[0],[4]⟩]) (fun ⟨o,p,q,r⟩=>bj rv _ [⟨[],[0],[4]⟩]))))
    (fun x=>by cases x with | r0 j k l s=>exact jN [.sl 0 1 1 j k l])
def He:Option jK→Bool
  | some _=>true
  | none=>false
def Hf:Option jK→Nat
  | some (.r0 x _ _ _)=>x
  | _=>0
def Hg:Option jK→Nat
  | some (.r0 _ x _ _)=>x
  | _=>0
def QN:Option jK→Nat
  | some (.r0 _ _ x _)=>x
  | _=>0
def Hh:Option jK→List Int
  | some (.r0 _ _ _ x)=>x
  | _=>[]
theorem aqz{x:Option jK}(h:He x=true) :x=some (.r0 (Hf x) (Hg x) (QN x) (Hh x)):=by
  unfold He at h
  split at h<;>first | rfl | (cases h;done) | (rename_i y;cases y;rfl)
def ahf:aM:=bK LO (.cons (.ns .u64) (.cons (.ns .u64) .nil)) fun t=>(fun q=>[⟨TF (.r0 (Hf q) (Hg q) (QN q) (Hh q)),[He q]⟩]) (xo t.1.2 t.2.1.2)
theorem aiK:aY prog ahf:=aR fun t=>(aS (fun h=>aqy t.1.1 t.1.2 t.2.1.1 t.2.1.2 (aqz h)) bc)
def ahg:List aM:=ahf::ahe
theorem vz:be prog (bh ahg):=ax aiK rv
inductive lf where
  | r0 (a:List Int) (b:Nat) (c:Nat) (d:Nat)
def ahh:lf→AE×aQ
  | .r0 a b c d=>(.ret,⟨an 20 [(4,.imm .free (.ns .u64 a) 1 1 b c),(5,.int .i64 ((d:Nat):Int))],[],0⟩)
theorem OS:jJ ahh:=by intro x;cases x<;>(intro h;cases h)
def TG:lf→gM
  | .r0 a b c d=>⟨.tup [.imm .free (.ns .u64 a) 1 1 b c,.int .i64 ((d:Nat):Int)],[]⟩
def aqA(a:Lv)(b:Lv) :Nat×(List Int)×Nat×(List Int)×Nat→aQ:=fun (c,d,e,f,g)=>⟨an 20 [(2,.ptr 0 1 0 0),(3,.ptr 1 1 0 0),(6,.int .i64 ((c:Nat):Int))],[(0,.vs [.imm a (.ns .u64 d) 1 1 0 e]),(1,.vs [.imm b (.ns .u64 f) 1 1 0 g])],2⟩
def Zk(a : List Int)(b : List Int) : T ((Nat × (List Int) × Nat × (List Int) × Nat) ⊕ (lf)) :=
  .ask (decide ((0:Int)<(2:Int)))
    (.need (fv (0:Int) 2)<|.need (aG 0 (List.length a) a)<|.need (cW (aN (ab 0 (List.length a) a)))<|.ask (decide ((((ba (aN (ab 0 (List.length a) a))):Nat):Int)>(4096:Int)))
      (.leaf (.inl (2,(bm (aN (ab 0 (List.length a) a))),(ba (aN (ab 0 (List.length a) a))),b,(List.length b))))
      (.need (di .i64 (1:Int))<|.ask (decide ((1:Int)<(2:Int)))
        (.need (fv (1:Int) 2)<|.need (aG 0 (List.length b) b)<|.need (cW (aN (ab 0 (List.length b) b)))<|.ask (decide ((((ba (aN (ab 0 (List.length b) b))):Nat):Int)>(4096:Int)))
          (.leaf (.inl (2,(bm (aN (ab 0 (List.length a) a))),(ba (aN (ab 0 (List.length a) a))),(bm (aN (ab 0 (List.length b) b))),(ba (aN (ab 0 (List.length b) b))))))
          (.need (di .i64 (2:Int))<|.ask (decide ((2:Int)<(2:Int)))
            (.fail)
            (.leaf (.inl (0,(bm (aN (ab 0 (List.length a) a))),(ba (aN (ab 0 (List.length a) a))),(bm (aN (ab 0 (List.length b) b))),(ba (aN (ab 0 (List.length b) b))))))))
        (.fail)))
    (.fail)
def aqB(a:Lv)(b:Lv)(c:List Int)(d:Nat)(e:List Int)(f:Nat)(g:Bool) :aQ:=⟨an 20 [(2,.ptr 0 1 0 0),(3,.ptr 1 1 0 0),(16,.bool false g)],[(0,.vs [.imm a (.ns .u64 c) 1 1 0 d]),(1,.vs [.imm b (.ns .u64 e) 1 1 0 f])],2⟩
def Zl(e:Nat)(a:List Int)(b:Nat)(c:List Int)(d:Nat) :T ((Bool)⊕(lf)) :=
  .ask (((e:Nat):Int) != (0:Int))
    (.leaf (.inl true))
    (.need (aG 0 b a)<|.need (aG 0 d c)<|.need (Bx (xk (ab 0 b a) (ab 0 d c)))<|.leaf (.inl (decide ((AG (xk (ab 0 b a) (ab 0 d c)))<(0:Int)))))
def aqC:(List Int)×Nat×Nat→aQ:=fun (a,b,c)=>⟨an 20 [(4,.imm .free (.ns .u64 a) 1 1 b c),(5,.int .i64 (0:Int))],[],0⟩
def Zm(a:List Int)(b:Nat)(c:List Int)(d:Nat)(e:Bool) :T (((List Int)×Nat×Nat)⊕(lf)) :=
  .ask e
    (.leaf (.inr (.r0 ([]:List Int) 0 0 2)))
    (.need (aG 0 b a)<|.need (aG 0 d c)<|.need (He (xo (ab 0 b a) (ab 0 d c)))<|.leaf (.inl ((Hh (xo (ab 0 b a) (ab 0 d c))),(Hf (xo (ab 0 b a) (ab 0 d c))),(Hg (xo (ab 0 b a) (ab 0 d c))))))
def aqD(a:List Int)(b:Nat)(c:Nat) :T ((Empty)⊕(lf)) :=
  .leaf (.inr (.r0 a b c 0))
def cm(e:List Int)(f:List Int) :Option lf:=jM (aC ((Zk e f).run) fun (g,a,b,c,d) =>
  aC ((Zl g a b c d).run) fun h =>
  aC ((Zm a b c d h).run) fun (i,j,k) =>
  (aqD i j k).run)
theorem aqE(a:Lv)(b:List Int)(c:Lv)(d:List Int){x:lf}(h:cm b d=some x) :ay prog Tt [] [.imm a (.ns .u64 b) 1 1 0 (List.length b),.imm c (.ns .u64 d) 1 1 0 (List.length d)] (TG x) :=
  kf true TG ahh h (Sg.cut 2 OS (bj vz (aqA a c) [⟨[],[0,16],[2,3,6]⟩,⟨[],[0,16],[2,3,6]⟩,⟨[],[0,16],[2,3,6]⟩]) (fun ⟨n,e,f,g,i⟩=>Sg.cut 1 OS (bj vz (aqB a c e f g i) [⟨[],[0,1],[2,3,16]⟩,⟨[],[0,1],[2,3,16]⟩]) (fun o=>Sg.cut 2 OS (bj vz aqC [⟨[(.slot 4,.fre 1 1 (.ns .u64 ([]:List Int)))],[],[4,5]⟩,⟨[],[],[4,5]⟩]) (fun ⟨p,q,r⟩=>bj vz _ [⟨[],[],[4,5]⟩]))))
    (fun x=>by cases x with | r0 j k l m=>exact jN [.imm .free (.ns .u64 j) 1 1 k l,.int .i64 ((m:Nat):Int)])
def xp:Option lf→Bool
  | some _=>true
  | none=>false
def iA:Option lf→List Int
  | some (.r0 x _ _ _)=>x
  | _=>[]
def iB:Option lf→Nat
  | some (.r0 _ x _ _)=>x
  | _=>0
def iC:Option lf→Nat
  | some (.r0 _ _ x _)=>x
  | _=>0
def jp:Option lf→Nat
  | some (.r0 _ _ _ x)=>x
  | _=>0
theorem aqF{x:Option lf}(h:xp x=true) :x=some (.r0 (iA x) (iB x) (iC x) (jp x)):=by
  unfold xp at h
  split at h<;>first | rfl | (cases h;done) | (rename_i y;cases y;rfl)
def ahi:aM:=bK Tt (.cons (.ns .u64) (.cons (.ns .u64) .nil)) fun t=>(fun q=>[⟨TG (.r0 (iA q) (iB q) (iC q) (jp q)),[xp q]⟩]) (cm t.1.2 t.2.1.2)
theorem aiL:aY prog ahi:=aR fun t=>(aS (fun h=>aqE t.1.1 t.1.2 t.2.1.1 t.2.1.2 (aqF h)) bc)
def ahj:List aM:=ahi::ahg
theorem vA:be prog (bh ahj):=ax aiL vz
inductive mg where
  | r0 (a:Int) (b:List Int)
def LW:mg→AE×aQ
  | .r0 a b=>(.ret,⟨an 52 [(6,.int .u64 a)],[(0,.ns .u64 b)],1⟩)
theorem Hi:jJ LW:=by intro x;cases x<;>(intro h;cases h)
theorem aqG(id:Nat) :mP id LW:=by intro x;cases x<;>(intro h;cases h)
def TH:mg→gM
  | .r0 a b=>⟨.int .u64 a,[some (.ns .u64 b)]⟩
def anu:List Code:=cN (oa LM)
def aqH(b:List Int)(c:Nat)(d:Nat)(e:Nat)(f:Lv)(a:List Int)(g:Int)(_:Unit) :aQ:=⟨an 52 [(0,.sl 0 1 1 c d e),(1,.imm f (.ns .u64 a) 1 1 0 (List.length a)),(2,.int .u64 g),(7,.int .u64 (0:Int)),(13,.int .i64 (((List.length a):Nat):Int)),(14,.int .i64 (0:Int))],[(0,.ns .u64 b)],1⟩
def anv:T ((Unit)⊕(mg)) :=
  .leaf (.inl ())
def OT(b:Nat)(c:Nat)(d:Nat)(e:Lv)(a:List Int)(f:Int) :Int×Nat×(List Int)→aQ:=fun (g,h,i)=>⟨an 52 [(0,.sl 0 1 1 b c d),(1,.imm e (.ns .u64 a) 1 1 0 (List.length a)),(2,.int .u64 f),(7,.int .u64 g),(13,.int .i64 (((List.length a):Nat):Int)),(14,.int .i64 ((h:Nat):Int))],[(0,.ns .u64 i)],1⟩
def Zn:Int×(List Int)→aQ:=fun (a,b)=>⟨an 52 [(7,.int .u64 a)],[(0,.ns .u64 b)],1⟩
def anw:List Code:=cN (dn ((((anu.drop 3).take 1)).headD .skip))
def aqI(b:Nat)(c:Nat)(d:Nat)(e:Lv)(a:List Int)(f:Int)(g:Nat) :Int×(List Int)→aQ:=fun (h,i)=>⟨an 52 [(0,.sl 0 1 1 b c d),(1,.imm e (.ns .u64 a) 1 1 0 (List.length a)),(2,.int .u64 f),(7,.int .u64 h),(13,.int .i64 (((List.length a):Nat):Int)),(14,.int .i64 ((g:Nat):Int))],[(0,.ns .u64 i)],1⟩
def zd(d:Nat)(g:Nat)(b:List Int)(e:Int)(f:Int)(a:Nat)(c:List Int) :T ((Int×(List Int))⊕((Int×(List Int))⊕(mg))) :=
  .ask (decide (((a:Nat):Int)<(((List.length b):Nat):Int)))
    (.need (fv ((a:Nat):Int) (List.length b))<|.need (g9 a (List.length b))<|.need (mv (gZ (List.getD b a 0) e))<|.need (qt 0 1)<|.need (fv ((a:Nat):Int) g)<|.need (g9 (k9 d a) (List.length c))<|.need (qt 0 1)<|.need (fv ((a:Nat):Int) g)<|.need (g9 (k9 d a) (List.length c))<|.leaf (.inl ((IntKind.u64.wrap ((IntKind.u64.wrap ((nq (gZ (List.getD b a 0) e))+(((((Int.toNat (i7 (gZ (List.getD b a 0) e)))+(Int.toNat f)+0)/18446744073709551616):Nat):Int)))+(((((Int.toNat (List.getD c (k9 d a) 0))+(((Int.toNat (i7 (gZ (List.getD b a 0) e)))+(Int.toNat f)+0)%18446744073709551616)+0)/18446744073709551616):Nat):Int))),(List.set c (k9 d a) (((((Int.toNat (List.getD c (k9 d a) 0))+(((Int.toNat (i7 (gZ (List.getD b a 0) e)))+(Int.toNat f)+0)%18446744073709551616)+0)%18446744073709551616):Nat):Int)))))
    (.leaf (.inr (.inl (f,c))))
def anx(a:Nat)(b:Int)(c:List Int) :T ((Int×Nat×(List Int))⊕((Int×(List Int))⊕(mg))) :=
  .need (di .i64 (((a+1):Nat):Int))<|.leaf (.inl (b,(a+1),c))
def J7(b:Nat)(c:Nat)(d:List Int)(e:Int) :Int×Nat×(List Int)→Option ((Int×Nat×(List Int))⊕((Int×(List Int))⊕(mg))):=fun (f,a,g) =>
  aC ((zd b c d e f a g).run) fun (h,i) =>
  (anx a h i).run
theorem anz(j:List Int)(a:Nat)(b:Nat)(e:Nat)(f:Lv)(c:List Int)(d:Int)(h:Int)(g:Nat)(i:List Int) :Sg prog [.ns .u64 j] anw (OT a b e f c d (h,g,i)) (J7 a b c d (h,g,i)) (OT a b e f c d) (cy 0 Zn LW):=by
  unfold J7;exact Sg.cut 3 (az Hi) (bj vA (aqI a b e f c d g) [⟨[],[0],[0,1,2,7,13,14]⟩,⟨[],[0],[7]⟩]) (fun ⟨k,l⟩=>bj vA _ [⟨[],[0],[0,1,2,7,13,14]⟩])
def anA(a:Int)(b:List Int) :T ((Empty)⊕(mg)) :=
  .leaf (.inr (.r0 a b))
def xq(a:List Int)(b:Nat)(c:Nat)(d:List Int)(e:Int) :Option mg:=jM (aC ((anv).run) fun _ =>
  aC (dh (J7 b c d e) ((0:Int),0,a)) fun (f,g) =>
  (anA f g).run)
theorem aqJ(e:List Int)(b:Nat)(c:Nat)(f:Nat)(g:Lv)(a:List Int)(d:Int){x:mg}(h:xq e b c a d=some x) :ay prog LM [.ns .u64 e] [.sl 0 1 1 b c f,.imm g (.ns .u64 a) 1 1 0 (List.length a),.int .u64 d] (TH x) :=
  kf false TH LW h (Sg.cut 3 Hi (bj vA (aqH e b c f g a d) [⟨[],[0],[0,1,2,7,13,14]⟩]) (fun _=>Sg.cut 1 Hi (AD ⟨[],[0],[0,1,2,7,13,14]⟩ (OT b c f g a d) (Zn) 0 Hi (aqG _) (fun ⟨i,j,k⟩=>anz e b c f g a d i j k)) (fun ⟨m,n⟩=>bj vA _ [⟨[],[0],[6]⟩])))
    (fun x=>by cases x with | r0 l o=>exact jN [.int .u64 l])
def BB:Option mg→Bool
  | some _=>true
  | none=>false
def AJ:Option mg→Int
  | some (.r0 x _)=>x
  | _=>0
def vB:Option mg→List Int
  | some (.r0 _ x)=>x
  | _=>[]
theorem aqK{x:Option mg}(h:BB x=true) :x=some (.r0 (AJ x) (vB x)):=by
  unfold BB at h
  split at h<;>first | rfl | (cases h;done) | (rename_i y;cases y;rfl)
def ahk:aM:=amE LM [.ns .u64] (.cons (.lsl 0) (.cons (.ns .u64) (.cons (.int .u64) .nil))) fun x t=>(fun q=>[⟨TH (.r0 (AJ q) (vB q)),[BB q]⟩]) (xq x.1 t.1.1 t.1.2.1 t.2.1.2 t.2.2.1)
theorem aiM:aY prog ahk:=YN fun x t=>(LJ (fun h=>aqJ x.1 t.1.1 t.1.2.1 t.1.2.2 t.2.1.1 t.2.1.2 t.2.2.1 (aqK h)) YO)
def ahl:List aM:=ahk::ahj
theorem nr:be prog (bh ahl):=ax aiM vA
inductive gC where
  | r0 (a:Nat) (b:Nat) (c:Nat) (d:Nat) (e:List Int)
def LX:gC→AE×aQ
  | .r0 a b c d e=>(.ret,⟨an 61 [(4,.sl 0 1 1 a b c),(5,.int .i64 ((d:Nat):Int))],[(0,.ns .u64 e)],1⟩)
theorem ur:jJ LX:=by intro x;cases x<;>(intro h;cases h)
theorem aqL(id:Nat) :mP id LX:=by intro x;cases x<;>(intro h;cases h)
def TI:gC→gM
  | .r0 a b e c d=>⟨.tup [.imm .free (.ns .u64 d) 1 1 a b,.int .i64 ((c:Nat):Int)],[]⟩
def anB:List Code:=cN (oa LK)
def aqM(a:Lv)(b:Lv) :Nat×(List Int)×Nat×(List Int)×Nat→aQ:=fun (c,d,e,f,g)=>⟨an 61 [(2,.ptr 0 1 0 0),(3,.ptr 1 1 0 0),(6,.int .i64 ((c:Nat):Int))],[(0,.vs [.imm a (.ns .u64 d) 1 1 0 e]),(1,.vs [.imm b (.ns .u64 f) 1 1 0 g])],2⟩
def U5(a : List Int)(b : List Int) : T ((Nat × (List Int) × Nat × (List Int) × Nat) ⊕ (gC)) :=
  .ask (decide ((0:Int)<(2:Int)))
    (.need (fv (0:Int) 2)<|.need (aG 0 (List.length a) a)<|.need (cW (aN (ab 0 (List.length a) a)))<|.ask (decide ((((ba (aN (ab 0 (List.length a) a))):Nat):Int)>(4096:Int)))
      (.leaf (.inl (2,(bm (aN (ab 0 (List.length a) a))),(ba (aN (ab 0 (List.length a) a))),b,(List.length b))))
      (.need (di .i64 (1:Int))<|.ask (decide ((1:Int)<(2:Int)))
        (.need (fv (1:Int) 2)<|.need (aG 0 (List.length b) b)<|.need (cW (aN (ab 0 (List.length b) b)))<|.ask (decide ((((ba (aN (ab 0 (List.length b) b))):Nat):Int)>(4096:Int)))
          (.leaf (.inl (2,(bm (aN (ab 0 (List.length a) a))),(ba (aN (ab 0 (List.length a) a))),(bm (aN (ab 0 (List.length b) b))),(ba (aN (ab 0 (List.length b) b))))))
          (.need (di .i64 (2:Int))<|.ask (decide ((2:Int)<(2:Int)))
            (.fail)
            (.leaf (.inl (0,(bm (aN (ab 0 (List.length a) a))),(ba (aN (ab 0 (List.length a) a))),(bm (aN (ab 0 (List.length b) b))),(ba (aN (ab 0 (List.length b) b))))))))
        (.fail)))
    (.fail)
def aqN(a:Lv)(b:Lv)(c:List Int)(d:Nat)(e:List Int)(f:Nat)(g:Bool) :aQ:=⟨an 61 [(2,.ptr 0 1 0 0),(3,.ptr 1 1 0 0),(29,.bool false g)],[(0,.vs [.imm a (.ns .u64 c) 1 1 0 d]),(1,.vs [.imm b (.ns .u64 e) 1 1 0 f])],2⟩
def anC(c:Nat)(a:Nat)(b:Nat) :T ((Bool)⊕(gC)) :=
  .ask (((c:Nat):Int) != (0:Int))
    (.leaf (.inr (.r0 0 0 0 c ([]:List Int))))
    (.need (di .i64 (((a+b):Nat):Int))<|.ask (decide ((((a+b):Nat):Int)>(4097:Int)))
      (.ask (decide (((a:Nat):Int)>(0:Int)))
        (.leaf (.inl (decide (((b:Nat):Int)>(0:Int)))))
        (.leaf (.inl false)))
      (.leaf (.inl false)))
def aqO(c:Lv)(d:Lv)(e:List Int)(f:Nat)(g:List Int)(a:Nat) :Nat×(List Int)→aQ:=fun (b,h)=>⟨an 61 [(2,.ptr 0 1 0 0),(3,.ptr 1 1 0 0),(7,.sl 2 1 1 0 b b),(37,.int .i64 ((a:Nat):Int)),(38,.int .i64 (0:Int))],[(0,.vs [.imm c (.ns .u64 e) 1 1 0 f]),(1,.vs [.imm d (.ns .u64 g) 1 1 0 a]),(2,.ns .u64 h)],3⟩
def U6(a:Nat)(b:Nat)(c:Bool) :T ((Nat×(List Int))⊕(gC)) :=
  .ask c
    (.leaf (.inr (.r0 0 0 0 3 ([]:List Int))))
    (.need (di .i64 (((a+b):Nat):Int))<|.need (decide ((0:Int)≤(((a+b):Nat):Int)))<|.need (decide ((((a+b):Nat):Int)≤(((a+b):Nat):Int)))<|.need (decide ((8:Int)*(((a+b):Nat):Int)≤140737488355328))<|.need (di .i64 (((a+b):Nat):Int))<|.leaf (.inl ((a+b),(List.replicate (a+b) (0:Int)))))
def OU(c:Lv)(d:Lv)(e:List Int)(f:Nat)(g:List Int)(a:Nat)(b:Nat) :Nat×(List Int)→aQ:=fun (h,i)=>⟨an 61 [(2,.ptr 0 1 0 0),(3,.ptr 1 1 0 0),(7,.sl 2 1 1 0 b b),(37,.int .i64 ((a:Nat):Int)),(38,.int .i64 ((h:Nat):Int))],[(0,.vs [.imm c (.ns .u64 e) 1 1 0 f]),(1,.vs [.imm d (.ns .u64 g) 1 1 0 a]),(2,.ns .u64 i)],3⟩
def Zo(a:Nat)(b:(List Int)) :aQ:=⟨an 61 [(7,.sl 0 1 1 0 a a)],[(0,.ns .u64 b)],1⟩
def anD:List Code:=cN (dn ((((((anB.drop 2).drop 3).drop 3).take 1)).headD .skip))
def aqP(c:Lv)(d:Lv)(e:List Int)(f:Nat)(g:List Int)(a:Nat)(b:Nat)(h:Nat)(i:(List Int)) :aQ:=⟨an 61 [(2,.ptr 0 1 0 0),(3,.ptr 1 1 0 0),(7,.sl 2 1 1 0 b b),(37,.int .i64 ((a:Nat):Int)),(38,.int .i64 ((h:Nat):Int))],[(0,.vs [.imm c (.ns .u64 e) 1 1 0 f]),(1,.vs [.imm d (.ns .u64 g) 1 1 0 a]),(2,.ns .u64 i)],3⟩
def J8(d:List Int)(b:Nat)(e:List Int)(g:Nat)(c:Nat)(a:Nat)(f:List Int) :T (((List Int))⊕(((List Int))⊕(gC))) :=
  .ask (decide (((a:Nat):Int)<((g:Nat):Int)))
    (.need (di .i64 (((a+b):Nat):Int))<|.need (Mk ((c:Nat):Int) c)<|.need (Mk ((a:Nat):Int) c)<|.need (fv ((a:Nat):Int) g)<|.need (g9 a (List.length e))<|.need (aG 0 b d)<|.need (BB (xq f a (c-a) (ab 0 b d) (List.getD e a 0)))<|.need (fv (((a+b):Nat):Int) c)<|.need (g9 (a+b) (List.length (vB (xq f a (c-a) (ab 0 b d) (List.getD e a 0)))))<|.leaf (.inl (List.set (vB (xq f a (c-a) (ab 0 b d) (List.getD e a 0))) (a+b) (AJ (xq f a (c-a) (ab 0 b d) (List.getD e a 0))))))
    (.leaf (.inr (.inl f)))
def anE(a:Nat)(b:List Int) :T ((Nat×(List Int))⊕(((List Int))⊕(gC))) :=
  .need (di .i64 (((a+1):Nat):Int))<|.leaf (.inl ((a+1),b))
def J9(b:List Int)(c:Nat)(d:List Int)(e:Nat)(f:Nat) :Nat×(List Int)→Option ((Nat×(List Int))⊕(((List Int))⊕(gC))):=fun (a,g) =>
  aC ((J8 b c d e f a g).run) fun h =>
  (anE a h).run
theorem anF(f:Lv)(g:Lv)(b:List Int)(c:Nat)(d:List Int)(e:Nat)(a:Nat)(h:Nat)(i:List Int) :Sg prog [] anD (OU f g b c d e a (h,i)) (J9 b c d e a (h,i)) (OU f g b c d e a) (cy 0 (Zo a) LX):=by
  unfold J9;exact Sg.cut 3 (az ur) (bj nr (aqP f g b c d e a h) [⟨[],[0,1,2],[2,3,7,37,38]⟩,⟨[],[2],[7]⟩]) (fun j=>bj nr _ [⟨[],[0,1,2],[2,3,7,37,38]⟩])
def anG:Nat×Nat×Nat×Nat×(List Int)→aQ:=fun (a,b,c,d,e)=>⟨an 61 [(4,.sl 0 1 1 a b c),(5,.int .i64 ((d:Nat):Int))],[(0,.ns .u64 e)],1⟩
def U7(a:Nat)(b:List Int) :T ((Nat×Nat×Nat×Nat×(List Int))⊕(gC)) :=
  .alt 0
    (.need (za (iW b 0 a a))<|.leaf (.inl (0,0,0,3,([]:List Int))))
    (.alt 1
      (.need (zb (iW b 0 a a))<|.leaf (.inl ((yw (iW b 0 a a)),(yx (iW b 0 a a)),(yy (iW b 0 a a)),0,(yz (iW b 0 a a)))))
      (.fail))
def anH(a:Nat)(b:Nat)(c:Nat)(d:Nat)(e:List Int) :T ((Empty)⊕(gC)) :=
  .leaf (.inr (.r0 a b c d e))
def uS(d:List Int)(e:List Int) :Option gC:=jM (aC ((U5 d e).run) fun (f,g,a,h,b) =>
  aC ((anC f a b).run) fun i =>
  aC ((U6 a b i).run) fun (c,j) =>
  aC (dh (J9 g a h b c) (0,j)) fun k =>
  aC ((U7 c k).run) fun (l,m,n,o,p) =>
  (anH l m n o p).run)
theorem aqQ(a:Lv)(g:List Int)(b:Lv)(i:List Int){x:gC}(h:uS g i=some x) :ay prog LK [] [.imm a (.ns .u64 g) 1 1 0 (List.length g),.imm b (.ns .u64 i) 1 1 0 (List.length i)] (TI x) :=
  kf true TI LX h (Sg.cut 2 ur (bj nr (aqM a b) [⟨[],[0,16],[2,3,6]⟩,⟨[],[0,16],[2,3,6]⟩,⟨[],[0,16],[2,3,6]⟩]) (fun ⟨q,c,d,e,f⟩=>Sg.cut 3 ur (bj nr (aqN a b c d e f) [⟨[(.slot 4,.own 1 1 (.ns .u64 ([]:List Int)))],[82],[4,5]⟩,⟨[],[0,1],[2,3,29]⟩,⟨[],[0,1],[2,3,29]⟩,⟨[],[0,1],[2,3,29]⟩]) (fun r=>Sg.cut 3 ur (bj nr (aqO a b c d e f) [⟨[(.slot 4,.own 1 1 (.ns .u64 ([]:List Int)))],[34],[4,5]⟩,⟨[],[0,1,82],[2,3,7,37,38]⟩]) (fun ⟨j,s⟩=>Sg.cut 1 ur (AD ⟨[],[0,1,2],[2,3,7,37,38]⟩ (OU a b c d e f j) (Zo j) 0 ur (aqL _) (fun ⟨k,l⟩=>anF a b c d e f j k l)) (fun t=>Sg.cut 1 ur (bj nr anG [⟨[(.slot 4,.own 1 1 (.ns .u64 ([]:List Int)))],[97],[4,5]⟩,⟨[],[0],[4,5]⟩]) (fun ⟨u,v,w,y,z⟩=>bj nr _ [⟨[],[0],[4,5]⟩]))))))
    (fun x=>by cases x with | r0 m n o p A=>exact jN [.sl 0 1 1 m n o,.int .i64 ((p:Nat):Int)])
def Hj:Option gC→Bool
  | some _=>true
  | none=>false
def Hk:Option gC→Nat
  | some (.r0 x _ _ _ _)=>x
  | _=>0
def Hl:Option gC→Nat
  | some (.r0 _ x _ _ _)=>x
  | _=>0
def QO:Option gC→Nat
  | some (.r0 _ _ x _ _)=>x
  | _=>0
def Hm:Option gC→Nat
  | some (.r0 _ _ _ x _)=>x
  | _=>0
def Hn:Option gC→List Int
  | some (.r0 _ _ _ _ x)=>x
  | _=>[]
theorem aqR{x:Option gC}(h:Hj x=true) :x=some (.r0 (Hk x) (Hl x) (QO x) (Hm x) (Hn x)):=by
  unfold Hj at h
  split at h<;>first | rfl | (cases h;done) | (rename_i y;cases y;rfl)
def ahm:aM:=bK LK (.cons (.ns .u64) (.cons (.ns .u64) .nil)) fun t=>(fun q=>[⟨TI (.r0 (Hk q) (Hl q) (QO q) (Hm q) (Hn q)),[Hj q]⟩]) (uS t.1.2 t.2.1.2)
theorem aiN:aY prog ahm:=aR fun t=>(aS (fun h=>aqQ t.1.1 t.1.2 t.2.1.1 t.2.1.2 (aqR h)) bc)
def ahn:List aM:=ahm::ahl
theorem rx:be prog (bh ahn):=ax aiN nr
inductive jL where
  | r0 (a:Nat) (b:Nat) (c:Nat) (d:List Int)
def LY:jL→AE×aQ
  | .r0 a b c d=>(.ret,⟨an 59 [(4,.sl 0 1 1 a b c)],[(0,.ns .u64 d)],1⟩)
theorem BC:jJ LY:=by intro x;cases x<;>(intro h;cases h)
theorem aqS(id:Nat) :mP id LY:=by intro x;cases x<;>(intro h;cases h)
def TJ:jL→gM
  | .r0 a b d c=>⟨.imm .free (.ns .u64 c) 1 1 a b,[]⟩
def aqT:List Code:=cN (oa LP)
def aqU(c:Lv)(a:List Int) :Int×Int×Nat×(List Int)→aQ:=fun (d,r2,b,e)=>⟨an 59 [(0,.imm c (.ns .u64 a) 1 1 0 (List.length a)),(5,.int .i64 d),(6,.int .u64 r2),(7,.sl 0 1 1 0 b b),(24,.int .i64 (((List.length a):Nat):Int)),(25,.int .i64 (0:Int))],[(0,.ns .u64 e)],1⟩
def U8(b:List Int)(a:Int) :T ((Int×Int×Nat×(List Int))⊕(jL)) :=
  .ask ((((List.length b):Nat):Int)==(0:Int))
    (.leaf (.inr (.r0 0 0 0 ([]:List Int))))
    (.need ((64:Int) != (0:Int))<|.need (di .i64 (Int.tdiv a (64:Int)))<|.need ((64:Int) != (0:Int))<|.need (di .i64 ((((List.length b):Nat):Int)+(Int.tdiv a (64:Int))))<|.need (di .i64 (((((List.length b):Nat):Int)+(Int.tdiv a (64:Int)))+(1:Int)))<|.need (decide ((0:Int)≤(((((List.length b):Nat):Int)+(Int.tdiv a (64:Int)))+(1:Int))))<|.need (decide ((((((List.length b):Nat):Int)+(Int.tdiv a (64:Int)))+(1:Int))≤(((((List.length b):Nat):Int)+(Int.tdiv a (64:Int)))+(1:Int))))<|.need (decide ((8:Int)*(((((List.length b):Nat):Int)+(Int.tdiv a (64:Int)))+(1:Int))≤140737488355328))<|.need (di .i64 (((((List.length b):Nat):Int)+(Int.tdiv a (64:Int)))+(1:Int)))<|.leaf (.inl ((Int.tdiv a (64:Int)),(IntKind.u64.wrap (Int.tmod a (64:Int))),(Int.toNat (((((List.length b):Nat):Int)+(Int.tdiv a (64:Int)))+(1:Int))),(List.replicate (Int.toNat (((((List.length b):Nat):Int)+(Int.tdiv a (64:Int)))+(1:Int))) (0:Int)))))
def OV(c:Lv)(a:List Int)(d:Int)(r2:Int)(b:Nat) :Nat×(List Int)→aQ:=fun (e,f)=>⟨an 59 [(0,.imm c (.ns .u64 a) 1 1 0 (List.length a)),(5,.int .i64 d),(6,.int .u64 r2),(7,.sl 0 1 1 0 b b),(24,.int .i64 (((List.length a):Nat):Int)),(25,.int .i64 ((e:Nat):Int))],[(0,.ns .u64 f)],1⟩
def Zp(a:Nat)(b:(List Int)) :aQ:=⟨an 59 [(7,.sl 0 1 1 0 a a)],[(0,.ns .u64 b)],1⟩
def anI:List Code:=cN (dn ((((aqT.drop 6).take 1)).headD .skip))
def aqV(c:Lv)(a:List Int)(d:Int)(r2:Int)(b:Nat)(e:Nat)(f:(List Int)) :aQ:=⟨an 59 [(0,.imm c (.ns .u64 a) 1 1 0 (List.length a)),(5,.int .i64 d),(6,.int .u64 r2),(7,.sl 0 1 1 0 b b),(24,.int .i64 (((List.length a):Nat):Int)),(25,.int .i64 ((e:Nat):Int))],[(0,.ns .u64 f)],1⟩
def Ds(c:List Int)(b:Int)(r2:Int)(e:Nat)(a:Nat)(d:List Int) :T (((List Int))⊕(((List Int))⊕(jL))) :=
  .ask (decide (((a:Nat):Int)<(((List.length c):Nat):Int)))
    (.need (di .i64 (((a:Nat):Int)+b))<|.need (fv (((a:Nat):Int)+b) e)<|.need (g9 (Int.toNat (((a:Nat):Int)+b)) (List.length d))<|.need (fv ((a:Nat):Int) (List.length c))<|.need (g9 a (List.length c))<|.need (decide ((0:Int)≤r2))<|.need (fv (((a:Nat):Int)+b) e)<|.need (g9 (Int.toNat (((a:Nat):Int)+b)) (List.length d))<|.need (di .i64 (((a:Nat):Int)+b))<|.need (di .i64 ((((a:Nat):Int)+b)+(1:Int)))<|.need (fv ((a:Nat):Int) (List.length c))<|.need (g9 a (List.length c))<|.need (decide ((0:Int)≤(1:Int)))<|.need (decide ((0:Int)≤(IntKind.u64.wrap ((63:Int)-r2))))<|.need (fv ((((a:Nat):Int)+b)+(1:Int)) e)<|.need (g9 (Int.toNat ((((a:Nat):Int)+b)+(1:Int))) (List.length (List.set d (Int.toNat (((a:Nat):Int)+b)) (fc .or .u64 (List.getD d (Int.toNat (((a:Nat):Int)+b)) 0) (IntKind.u64.wrap ((List.getD c a 0)*2^(min (Int.toNat r2) (IntKind.u64.bits))))))))<|.leaf (.inl (List.set (List.set d (Int.toNat (((a:Nat):Int)+b)) (fc .or .u64 (List.getD d (Int.toNat (((a:Nat):Int)+b)) 0) (IntKind.u64.wrap ((List.getD c a 0)*2^(min (Int.toNat r2) (IntKind.u64.bits)))))) (Int.toNat ((((a:Nat):Int)+b)+(1:Int))) (Int.fdiv (Int.fdiv (List.getD c a 0) (2^(min (Int.toNat (1:Int)) (IntKind.u64.bits)))) (2^(min (Int.toNat (IntKind.u64.wrap ((63:Int)-r2))) (IntKind.u64.bits)))))))
    (.leaf (.inr (.inl d)))
def anJ(a:Nat)(b:List Int) :T ((Nat×(List Int))⊕(((List Int))⊕(jL))) :=
  .need (di .i64 (((a+1):Nat):Int))<|.leaf (.inl ((a+1),b))
def Ka(b:List Int)(c:Int)(r2:Int)(d:Nat) :Nat×(List Int)→Option ((Nat×(List Int))⊕(((List Int))⊕(jL))):=fun (a,e) =>
  aC ((Ds b c r2 d a e).run) fun f =>
  (anJ a f).run
theorem anK(d:Lv)(b:List Int)(c:Int)(r2:Int)(a:Nat)(e:Nat)(f:List Int) :Sg prog [] anI (OV d b c r2 a (e,f)) (Ka b c r2 a (e,f)) (OV d b c r2 a) (cy 0 (Zp a) LY):=by
  unfold Ka;exact Sg.cut 3 (az BC) (bj rx (aqV d b c r2 a e) [⟨[],[0],[0,5,6,7,24,25]⟩,⟨[],[0],[7]⟩]) (fun g=>bj rx _ [⟨[],[0],[0,5,6,7,24,25]⟩])
def aqW:Nat×Nat×Nat×(List Int)→aQ:=fun (a,b,c,d)=>⟨an 59 [(4,.sl 0 1 1 a b c)],[(0,.ns .u64 d)],1⟩
def U9(a:Nat)(b:List Int) :T ((Nat×Nat×Nat×(List Int))⊕(jL)) :=
  .need (kN (bO b 0 a a))<|.leaf (.inl ((kj (bO b 0 a a)),(km (bO b 0 a a)),(ko (bO b 0 a a)),(kp (bO b 0 a a))))
def anL(a:Nat)(b:Nat)(c:Nat)(d:List Int) :T ((Empty)⊕(jL)) :=
  .leaf (.inr (.r0 a b c d))
def gD(a:List Int)(c:Int) :Option jL:=jM (aC ((U8 a c).run) fun (d,r2,b,e) =>
  aC (dh (Ka a d r2 b) (0,e)) fun f =>
  aC ((U9 b f).run) fun (g,h,i,j) =>
  (anL g h i j).run)
theorem aqX(b:Lv)(a:List Int)(d:Int){x:jL}(h:gD a d=some x) :ay prog LP [] [.imm b (.ns .u64 a) 1 1 0 (List.length a),.int .i64 d] (TJ x) :=
  kf true TJ LY h (Sg.cut 6 BC (bj rx (aqU b a) [⟨[(.slot 4,.own 1 1 (.ns .u64 ([]:List Int)))],[80],[4]⟩,⟨[],[256],[0,5,6,7,24,25]⟩]) (fun ⟨e,r2,c,l⟩=>Sg.cut 1 BC (AD ⟨[],[0],[0,5,6,7,24,25]⟩ (OV b a e r2 c) (Zp c) 0 BC (aqS _) (fun ⟨f,g⟩=>anK b a e r2 c f g)) (fun m=>Sg.cut 1 BC (bj rx aqW [⟨[],[0],[4]⟩]) (fun ⟨n,o,p,q⟩=>bj rx _ [⟨[],[0],[4]⟩]))))
    (fun x=>by cases x with | r0 i j k r=>exact jN [.sl 0 1 1 i j k])
def BD:Option jL→Bool
  | some _=>true
  | none=>false
def nt:Option jL→Nat
  | some (.r0 x _ _ _)=>x
  | _=>0
def nu:Option jL→Nat
  | some (.r0 _ x _ _)=>x
  | _=>0
def QP:Option jL→Nat
  | some (.r0 _ _ x _)=>x
  | _=>0
def nv:Option jL→List Int
  | some (.r0 _ _ _ x)=>x
  | _=>[]
theorem aqY{x:Option jL}(h:BD x=true) :x=some (.r0 (nt x) (nu x) (QP x) (nv x)):=by
  unfold BD at h
  split at h<;>first | rfl | (cases h;done) | (rename_i y;cases y;rfl)
def aho:aM:=bK LP (.cons (.ns .u64) (.cons (.int .i64) .nil)) fun t=>(fun q=>[⟨TJ (.r0 (nt q) (nu q) (QP q) (nv q)),[BD q]⟩]) (gD t.1.2 t.2.1)
theorem aiO:aY prog aho:=aR fun t=>(aS (fun h=>aqX t.1.1 t.1.2 t.2.1 (aqY h)) bc)
def ahp:List aM:=aho::ahn
theorem Ho:be prog (bh ahp):=ax aiO rx
inductive ig where
  | r0 (a:List Int) (b:Nat) (c:Nat)
def MB(a:Lv) :ig→AE×aQ
  | .r0 b c d=>(.ret,⟨an 10 [(2,.imm a (.ns .u64 b) 1 1 0 c),(3,.int .i64 ((d:Nat):Int))],[],0⟩)
theorem Zq{a:Lv} :jJ (MB a):=by intro x;cases x<;>(intro h;cases h)
def Ed(a:Lv) :ig→gM
  | .r0 b c d=>⟨.tup [.imm a (.ns .u64 b) 1 1 0 c,.int .i64 ((d:Nat):Int)],[]⟩
def Zr(a:Lv) :(List Int)×Nat→aQ:=fun (b,c)=>⟨an 10 [(0,.imm a (.ns .u64 b) 1 1 0 c)],[],0⟩
def Kb(a:List Int) :T (((List Int)×Nat)⊕(ig)) :=
  .need (aG 0 (List.length a) a)<|.need (cW (aN (ab 0 (List.length a) a)))<|.leaf (.inl ((bm (aN (ab 0 (List.length a) a))),(ba (aN (ab 0 (List.length a) a)))))
def Zs(b:List Int)(a:Nat) :T ((Empty)⊕(ig)) :=
  .ask (decide (((a:Nat):Int)>(4096:Int)))
    (.leaf (.inr (.r0 ([]:List Int) 0 3)))
    (.leaf (.inr (.r0 b a 0)))
def oc(a:List Int) :Option ig:=jM (aC ((Kb a).run) fun (b,c) =>
  (Zs b c).run)
theorem Zt(a:Lv)(b:List Int){x:ig}(h:oc b=some x) :ay prog Bs [] [.imm a (.ns .u64 b) 1 1 0 (List.length b)] (Ed a x) :=
  kf false (Ed a) (MB a) h (Sg.cut 2 Zq (bj Ho (Zr a) [⟨[],[],[0]⟩]) (fun ⟨f,g⟩=>bj Ho _ [⟨[(.slot 2,.fre 1 1 (.ns .u64 ([]:List Int))),(.slot 2,.lev a)],[],[2,3]⟩,⟨[],[],[2,3]⟩]))
    (fun x=>by cases x with | r0 c d e=>exact jN [.imm a (.ns .u64 c) 1 1 0 d,.int .i64 ((e:Nat):Int)])
def vC:Option ig→Bool
  | some _=>true
  | none=>false
def xr:Option ig→List Int
  | some (.r0 x _ _)=>x
  | _=>[]
def xt:Option ig→Nat
  | some (.r0 _ x _)=>x
  | _=>0
def xu:Option ig→Nat
  | some (.r0 _ _ x)=>x
  | _=>0
theorem Zu{x:Option ig}(h:vC x=true) :x=some (.r0 (xr x) (xt x) (xu x)):=by
  unfold vC at h
  split at h<;>first | rfl | (cases h;done) | (rename_i y;cases y;rfl)
def MC:aM:=bK Bs (.cons (.ns .u64) .nil) fun t=>(fun q=>[⟨Ed t.1.1 (.r0 (xr q) (xt q) (xu q)),[vC q]⟩]) (oc t.1.2)
theorem TK:aY prog MC:=aR fun t=>(aS (fun h=>Zt t.1.1 t.1.2 (Zu h)) bc)
def MD:List aM:=MC::ahp
theorem oB:be prog (bh MD):=ax TK Ho
inductive mh where
  | r0 (a:List Int) (b:Nat) (c:Nat)
def ahq:mh→AE×aQ
  | .r0 a b c=>(.ret,⟨an 30 [(4,.imm .free (.ns .u64 a) 1 1 0 b),(5,.int .i64 ((c:Nat):Int))],[],0⟩)
theorem OW:jJ ahq:=by intro x;cases x<;>(intro h;cases h)
def TL:mh→gM
  | .r0 a b c=>⟨.tup [.imm .free (.ns .u64 a) 1 1 0 b,.int .i64 ((c:Nat):Int)],[]⟩
def aqZ(a:Lv)(b:Int) :Nat×(List Int)×Nat→aQ:=fun (c,d,e)=>⟨an 30 [(1,.int .i64 b),(2,.ptr 0 1 0 0),(6,.int .i64 ((c:Nat):Int))],[(0,.vs [.imm a (.ns .u64 d) 1 1 0 e])],1⟩
def Zv(a:List Int) :T ((Nat×(List Int)×Nat)⊕(mh)) :=
  .ask (decide ((0:Int)<(1:Int)))
    (.need (fv (0:Int) 1)<|.need (aG 0 (List.length a) a)<|.need (cW (aN (ab 0 (List.length a) a)))<|.ask (decide ((((ba (aN (ab 0 (List.length a) a))):Nat):Int)>(4096:Int)))
      (.leaf (.inl (2,(bm (aN (ab 0 (List.length a) a))),(ba (aN (ab 0 (List.length a) a))))))
      (.need (di .i64 (1:Int))<|.ask (decide ((1:Int)<(1:Int)))
        (.fail)
        (.leaf (.inl (0,(bm (aN (ab 0 (List.length a) a))),(ba (aN (ab 0 (List.length a) a))))))))
    (.fail)
def aq0(a:Lv)(b:Int)(c:List Int)(d:Nat)(_:Unit) :aQ:=⟨an 30 [(1,.int .i64 b),(2,.ptr 0 1 0 0)],[(0,.vs [.imm a (.ns .u64 c) 1 1 0 d])],1⟩
def aq1(a:Int)(b:Nat)(c:Nat) :T ((Unit)⊕(mh)) :=
  .ask (((b:Nat):Int) != (0:Int))
    (.leaf (.inr (.r0 ([]:List Int) 0 2)))
    (.ask (decide (a<(0:Int)))
      (.leaf (.inr (.r0 ([]:List Int) 0 2)))
      (.ask (decide (((c:Nat):Int)>(0:Int)))
        (.ask (decide (a≥(262144:Int)))
          (.leaf (.inr (.r0 ([]:List Int) 0 3)))
          (.leaf (.inl ())))
        (.leaf (.inl ()))))
def aq2:(List Int)×Nat×Nat→aQ:=fun (a,b,c)=>⟨an 30 [(4,.imm .free (.ns .u64 a) 1 1 0 b),(5,.int .i64 ((c:Nat):Int))],[],0⟩
def OX(c:Int)(a:List Int)(b:Nat) :T (((List Int)×Nat×Nat)⊕(mh)) :=
  .need (aG 0 b a)<|.need (BD (gD (ab 0 b a) c))<|.need (aG (nt (gD (ab 0 b a) c)) (nu (gD (ab 0 b a) c)) (nv (gD (ab 0 b a) c)))<|.need (vC (oc (ab (nt (gD (ab 0 b a) c)) (nu (gD (ab 0 b a) c)) (nv (gD (ab 0 b a) c)))))<|.leaf (.inl ((xr (oc (ab (nt (gD (ab 0 b a) c)) (nu (gD (ab 0 b a) c)) (nv (gD (ab 0 b a) c))))),(xt (oc (ab (nt (gD (ab 0 b a) c)) (nu (gD (ab 0 b a) c)) (nv (gD (ab 0 b a) c))))),(xu (oc (ab (nt (gD (ab 0 b a) c)) (nu (gD (ab 0 b a) c)) (nv (gD (ab 0 b a) c)))))))
def aq3(a:List Int)(b:Nat)(c:Nat) :T ((Empty)⊕(mh)) :=
  .leaf (.inr (.r0 a b c))
def kq(c:List Int)(a:Int) :Option mh:=jM (aC ((Zv c).run) fun (d,e,b) =>
  aC ((aq1 a d b).run) fun _ =>
  aC ((OX a e b).run) fun (f,g,h) =>
  (aq3 f g h).run)
theorem aq4(b:Lv)(c:List Int)(a:Int){x:mh}(h:kq c a=some x) :ay prog Tv [] [.imm b (.ns .u64 c) 1 1 0 (List.length c),.int .i64 a] (TL x) :=
  kf true TL ahq h (Sg.cut 2 OW (bj oB (aqZ b a) [⟨[],[0],[1,2,6]⟩,⟨[],[0],[1,2,6]⟩]) (fun ⟨j,d,e⟩=>Sg.cut 1 OW (bj oB (aq0 b a d e) [⟨[(.slot 4,.fre 1 1 (.ns .u64 ([]:List Int)))],[],[4,5]⟩,⟨[(.slot 4,.fre 1 1 (.ns .u64 ([]:List Int)))],[],[4,5]⟩,⟨[(.slot 4,.fre 1 1 (.ns .u64 ([]:List Int)))],[],[4,5]⟩,⟨[],[0],[1,2]⟩,⟨[],[0],[1,2]⟩]) (fun _=>Sg.cut 1 OW (bj oB aq2 [⟨[],[],[4,5]⟩]) (fun ⟨k,l,m⟩=>bj oB _ [⟨[],[],[4,5]⟩]))))
    (fun x=>by cases x with | r0 f g i=>exact jN [.imm .free (.ns .u64 f) 1 1 0 g,.int .i64 ((i:Nat):Int)])
def xv:Option mh→Bool
  | some _=>true
  | none=>false
def ry:Option mh→List Int
  | some (.r0 x _ _)=>x
  | _=>[]
def rz:Option mh→Nat
  | some (.r0 _ x _)=>x
  | _=>0
def QQ:Option mh→Nat
  | some (.r0 _ _ x)=>x
  | _=>0
theorem aq5{x:Option mh}(h:xv x=true) :x=some (.r0 (ry x) (rz x) (QQ x)):=by
  unfold xv at h
  split at h<;>first | rfl | (cases h;done) | (rename_i y;cases y;rfl)
def ahr:aM:=bK Tv (.cons (.ns .u64) (.cons (.int .i64) .nil)) fun t=>(fun q=>[⟨TL (.r0 (ry q) (rz q) (QQ q)),[xv q]⟩]) (kq t.1.2 t.2.1)
theorem aiP:aY prog ahr:=aR fun t=>(aS (fun h=>aq4 t.1.1 t.1.2 t.2.1 (aq5 h)) bc)
def ahs:List aM:=ahr::MD
theorem lL:be prog (bh ahs):=ax aiP oB
inductive fk where
  | r0 (a:Nat) (b:Nat) (c:Nat) (d:Bool) (e:List Int)
def F9:fk→AE×aQ
  | .r0 a b c d e=>(.ret,⟨an 97 [(4,.sl 0 1 1 a b c),(5,.bool false d)],[(0,.ns .u64 e)],1⟩)
theorem o9:jJ F9:=by intro x;cases x<;>(intro h;cases h)
theorem Zw(id:Nat) :mP id F9:=by intro x;cases x<;>(intro h;cases h)
def TM:fk→gM
  | .r0 a b e c d=>⟨.tup [.imm .free (.ns .u64 d) 1 1 a b,.bool false c],[]⟩
def Va:List Code:=cN (oa LN)
def aq6(b:Lv)(a:List Int) :Int×Int×Bool×Nat×Nat→aQ:=fun (c,r2,d,e,f)=>⟨an 97 [(0,.imm b (.ns .u64 a) 1 1 0 (List.length a)),(6,.int .i64 c),(7,.int .u64 r2),(8,.bool false d),(36,.imm b (.ns .u64 a) 1 1 0 e),(37,.int .i64 ((f:Nat):Int)),(38,.int .i64 (0:Int))],[],0⟩
def Kc(b:List Int)(a:Int) :T ((Int×Int×Bool×Nat×Nat)⊕(fk)) :=
  .need ((64:Int) != (0:Int))<|.need (di .i64 (Int.tdiv a (64:Int)))<|.need ((64:Int) != (0:Int))<|.ask (decide ((Int.tdiv a (64:Int))≥(((List.length b):Nat):Int)))
    (.leaf (.inr (.r0 0 0 0 (decide ((((List.length b):Nat):Int)>(0:Int))) ([]:List Int))))
    (.need (fv (Int.tdiv a (64:Int)) (List.length b))<|.need (g9 (Int.toNat (Int.tdiv a (64:Int))) (List.length b))<|.need (decide ((0:Int)≤(IntKind.u64.wrap (Int.tmod a (64:Int)))))<|.need (Mk (Int.tdiv a (64:Int)) (List.length b))<|.need (Mk (0:Int) (Int.toNat (Int.tdiv a (64:Int))))<|.leaf (.inl ((Int.tdiv a (64:Int)),(IntKind.u64.wrap (Int.tmod a (64:Int))),((fc .and .u64 (List.getD b (Int.toNat (Int.tdiv a (64:Int))) 0) (IntKind.u64.wrap ((IntKind.u64.wrap ((1:Int)*2^(min (Int.toNat (IntKind.u64.wrap (Int.tmod a (64:Int)))) (IntKind.u64.bits))))-(1:Int)))) != (0:Int)),(Int.toNat (Int.tdiv a (64:Int))),(Int.toNat (Int.tdiv a (64:Int))))))
def OY(b:Lv)(a:List Int)(c:Int)(r2:Int)(d:Nat)(e:Nat) :Bool×Nat→aQ:=fun (f,g)=>⟨an 97 [(0,.imm b (.ns .u64 a) 1 1 0 (List.length a)),(6,.int .i64 c),(7,.int .u64 r2),(8,.bool false f),(36,.imm b (.ns .u64 a) 1 1 0 d),(37,.int .i64 ((e:Nat):Int)),(38,.int .i64 ((g:Nat):Int))],[],0⟩
def Zx(b:Lv)(a:List Int)(c:Int)(r2:Int)(d:Bool) :aQ:=⟨an 97 [(0,.imm b (.ns .u64 a) 1 1 0 (List.length a)),(6,.int .i64 c),(7,.int .u64 r2),(8,.bool false d)],[],0⟩
def anM:List Code:=cN (dn ((((Va.drop 6).take 1)).headD .skip))
def aq7(b:Lv)(a:List Int)(c:Int)(r2:Int)(d:Nat)(e:Nat)(f:Nat)(g:Bool) :aQ:=⟨an 97 [(0,.imm b (.ns .u64 a) 1 1 0 (List.length a)),(6,.int .i64 c),(7,.int .u64 r2),(8,.bool false g),(36,.imm b (.ns .u64 a) 1 1 0 d),(37,.int .i64 ((e:Nat):Int)),(38,.int .i64 ((f:Nat):Int))],[],0⟩
def Dt(b:List Int)(d:Nat)(e:Nat)(c:Bool)(a:Nat) :T ((Bool)⊕((Bool)⊕(fk))) :=
  .ask (decide (((a:Nat):Int)<((e:Nat):Int)))
    (.need (fv ((a:Nat):Int) d)<|.need (g9 a (List.length b))<|.ask c
      (.leaf (.inl true))
      (.leaf (.inl ((List.getD b a 0) != (0:Int)))))
    (.leaf (.inr (.inl c)))
def anN(a:Nat)(b:Bool) :T ((Bool×Nat)⊕((Bool)⊕(fk))) :=
  .need (di .i64 (((a+1):Nat):Int))<|.leaf (.inl (b,(a+1)))
def Kd(b:List Int)(c:Nat)(d:Nat) :Bool×Nat→Option ((Bool×Nat)⊕((Bool)⊕(fk))):=fun (e,a) =>
  aC ((Dt b c d e a).run) fun f =>
  (anN a f).run
theorem anO(b:Lv)(a:List Int)(c:Int)(r2:Int)(d:Nat)(e:Nat)(g:Bool)(f:Nat) :Sg prog [] anM (OY b a c r2 d e (g,f)) (Kd a d e (g,f)) (OY b a c r2 d e) (cy 0 (Zx b a c r2) F9):=by
  unfold Kd;exact Sg.cut 3 (az o9) (bj lL (aq7 b a c r2 d e f) [⟨[],[],[0,6,7,8,36,37,38]⟩,⟨[],[],[0,6,7,8,36,37,38]⟩,⟨[],[],[0,6,7,8]⟩]) (fun h=>bj lL _ [⟨[],[],[0,6,7,8,36,37,38]⟩])
def aq8(c:Lv)(a:List Int)(d:Int)(r2:Int)(e:Bool) :Nat×Nat×(List Int)→aQ:=fun (b,f,g)=>⟨an 97 [(0,.imm c (.ns .u64 a) 1 1 0 (List.length a)),(6,.int .i64 d),(7,.int .u64 r2),(8,.bool false e),(11,.sl 0 1 1 0 b b),(54,.int .i64 ((f:Nat):Int)),(55,.int .i64 (0:Int))],[(0,.ns .u64 g)],1⟩
def Ke(a:List Int)(b:Int) :T ((Nat×Nat×(List Int))⊕(fk)) :=
  .need (di .i64 ((((List.length a):Nat):Int)-b))<|.need (decide ((0:Int)≤((((List.length a):Nat):Int)-b)))<|.need (decide (((((List.length a):Nat):Int)-b)≤((((List.length a):Nat):Int)-b)))<|.need (decide ((8:Int)*((((List.length a):Nat):Int)-b)≤140737488355328))<|.need (di .i64 ((((List.length a):Nat):Int)-b))<|.leaf (.inl ((Int.toNat ((((List.length a):Nat):Int)-b)),(Int.toNat ((((List.length a):Nat):Int)-b)),(List.replicate (Int.toNat ((((List.length a):Nat):Int)-b)) (0:Int))))
def Kf(c:Lv)(a:List Int)(d:Int)(r2:Int)(e:Bool)(b:Nat)(f:Nat) :Nat×(List Int)→aQ:=fun (g,h)=>⟨an 97 [(0,.imm c (.ns .u64 a) 1 1 0 (List.length a)),(6,.int .i64 d),(7,.int .u64 r2),(8,.bool false e),(11,.sl 0 1 1 0 b b),(54,.int .i64 ((f:Nat):Int)),(55,.int .i64 ((g:Nat):Int))],[(0,.ns .u64 h)],1⟩
def Vb(b:Bool)(a:Nat)(c:(List Int)) :aQ:=⟨an 97 [(8,.bool false b),(11,.sl 0 1 1 0 a a)],[(0,.ns .u64 c)],1⟩
def anP:List Code:=cN (dn ((((((Va.drop 6).drop 1).drop 2).take 1)).headD .skip))
def anQ(c:Lv)(a:List Int)(d:Int)(r2:Int)(e:Bool)(b:Nat)(f:Nat)(g:Nat)(h:(List Int)) :aQ:=⟨an 97 [(0,.imm c (.ns .u64 a) 1 1 0 (List.length a)),(6,.int .i64 d),(7,.int .u64 r2),(8,.bool false e),(11,.sl 0 1 1 0 b b),(54,.int .i64 ((f:Nat):Int)),(55,.int .i64 ((g:Nat):Int))],[(0,.ns .u64 h)],1⟩
def Du(c:List Int)(b:Int)(r2:Int)(e:Nat)(f:Nat)(a:Nat)(d:List Int) :T (((List Int))⊕(((List Int))⊕(fk))) :=
  .ask (decide (((a:Nat):Int)<((f:Nat):Int)))
    (.need (di .i64 (((a:Nat):Int)+b))<|.need (fv (((a:Nat):Int)+b) (List.length c))<|.need (g9 (Int.toNat (((a:Nat):Int)+b)) (List.length c))<|.need (decide ((0:Int)≤r2))<|.need (fv ((a:Nat):Int) e)<|.need (g9 a (List.length d))<|.need (di .i64 (((a:Nat):Int)+b))<|.need (di .i64 ((((a:Nat):Int)+b)+(1:Int)))<|.ask (decide (((((a:Nat):Int)+b)+(1:Int))<(((List.length c):Nat):Int)))
      (.need (fv ((a:Nat):Int) e)<|.need (g9 a (List.length (List.set d a (Int.fdiv (List.getD c (Int.toNat (((a:Nat):Int)+b)) 0) (2^(min (Int.toNat r2) (IntKind.u64.bits)))))))<|.need (di .i64 (((a:Nat):Int)+b))<|.need (di .i64 ((((a:Nat):Int)+b)+(1:Int)))<|.need (fv ((((a:Nat):Int)+b)+(1:Int)) (List.length c))<|.need (g9 (Int.toNat ((((a:Nat):Int)+b)+(1:Int))) (List.length c))<|.need (decide ((0:Int)≤(1:Int)))<|.need (decide ((0:Int)≤(IntKind.u64.wrap ((63:Int)-r2))))<|.need (fv ((a:Nat):Int) e)<|.need (g9 a (List.length (List.set d a (Int.fdiv (List.getD c (Int.toNat (((a:Nat):Int)+b)) 0) (2^(min (Int.toNat r2) (IntKind.u64.bits)))))))<|.leaf (.inl (List.set (List.set d a (Int.fdiv (List.getD c (Int.toNat (((a:Nat):Int)+b)) 0) (2^(min (Int.toNat r2) (IntKind.u64.bits))))) a (fc .or .u64 (List.getD (List.set d a (Int.fdiv (List.getD c (Int.toNat (((a:Nat):Int)+b)) 0) (2^(min (Int.toNat r2) (IntKind.u64.bits))))) a 0) (IntKind.u64.wrap ((IntKind.u64.wrap ((List.getD c (Int.toNat ((((a:Nat):Int)+b)+(1:Int))) 0)*2^(min (Int.toNat (1:Int)) (IntKind.u64.bits))))*2^(min (Int.toNat (IntKind.u64.wrap ((63:Int)-r2))) (IntKind.u64.bits))))))))
      (.leaf (.inl (List.set d a (Int.fdiv (List.getD c (Int.toNat (((a:Nat):Int)+b)) 0) (2^(min (Int.toNat r2) (IntKind.u64.bits))))))))
    (.leaf (.inr (.inl d)))
def anR(a:Nat)(b:List Int) :T ((Nat×(List Int))⊕(((List Int))⊕(fk))) :=
  .need (di .i64 (((a+1):Nat):Int))<|.leaf (.inl ((a+1),b))
def Kg(b:List Int)(c:Int)(r2:Int)(d:Nat)(e:Nat) :Nat×(List Int)→Option ((Nat×(List Int))⊕(((List Int))⊕(fk))):=fun (a,f) =>
  aC ((Du b c r2 d e a f).run) fun g =>
  (anR a g).run
theorem anS(f:Lv)(b:List Int)(c:Int)(r2:Int)(d:Bool)(a:Nat)(e:Nat)(g:Nat)(h:List Int) :Sg prog [] anP (Kf f b c r2 d a e (g,h)) (Kg b c r2 a e (g,h)) (Kf f b c r2 d a e) (cy 2 (Vb d a) F9):=by
  unfold Kg;exact Sg.cut 3 (az o9) (bj lL (anQ f b c r2 d a e g) [⟨[],[0],[0,6,7,8,11,54,55]⟩,⟨[],[0],[0,6,7,8,11,54,55]⟩,⟨[],[0],[8,11]⟩]) (fun i=>bj lL _ [⟨[],[0],[0,6,7,8,11,54,55]⟩])
def anT(a:Bool) :Nat×Nat×Nat×(List Int)→aQ:=fun (b,c,d,e)=>⟨an 97 [(4,.sl 0 1 1 b c d),(5,.bool false a)],[(0,.ns .u64 e)],1⟩
def Vc(a:Nat)(b:List Int) :T ((Nat×Nat×Nat×(List Int))⊕(fk)) :=
  .need (kN (bO b 0 a a))<|.leaf (.inl ((kj (bO b 0 a a)),(km (bO b 0 a a)),(ko (bO b 0 a a)),(kp (bO b 0 a a))))
def anU(a:Bool)(b:Nat)(c:Nat)(d:Nat)(e:List Int) :T ((Empty)⊕(fk)) :=
  .leaf (.inr (.r0 b c d a e))
def uT(a:List Int)(d:Int) :Option fk:=jM (aC ((Kc a d).run) fun (b,r2,e,f,g) =>
  aC (dh (Kd a f g) (e,0)) fun h =>
  aC ((Ke a b).run) fun (c,i,j) =>
  aC (dh (Kg a b r2 c i) (0,j)) fun k =>
  aC ((Vc c k).run) fun (l,m,n,o) =>
  (anU h l m n o).run)
theorem aq9(b:Lv)(a:List Int)(f:Int){x:fk}(h:uT a f=some x) :ay prog LN [] [.imm b (.ns .u64 a) 1 1 0 (List.length a),.int .i64 f] (TM x) :=
  kf true TM F9 h (Sg.cut 6 o9 (bj lL (aq6 b a) [⟨[(.slot 4,.own 1 1 (.ns .u64 ([]:List Int)))],[288],[4,5]⟩,⟨[],[],[0,6,7,8,36,37,38]⟩]) (fun ⟨c,r2,s,g,i⟩=>Sg.cut 1 o9 (AD ⟨[],[],[0,6,7,8,36,37,38]⟩ (OY b a c r2 g i) (Zx b a c r2) 0 o9 (Zw _) (fun ⟨k,l⟩=>anO b a c r2 g i k l)) (fun d=>Sg.cut 2 o9 (bj lL (aq8 b a c r2 d) [⟨[],[64],[0,6,7,8,11,54,55]⟩]) (fun ⟨e,j,t⟩=>Sg.cut 1 o9 (AD ⟨[],[0],[0,6,7,8,11,54,55]⟩ (Kf b a c r2 d e j) (Vb d e) 2 o9 (Zw _) (fun ⟨m,n⟩=>anS b a c r2 d e j m n)) (fun u=>Sg.cut 1 o9 (bj lL (anT d) [⟨[],[0],[4,5]⟩]) (fun ⟨v,w,y,z⟩=>bj lL _ [⟨[],[0],[4,5]⟩]))))))
    (fun x=>by cases x with | r0 o p q r A=>exact jN [.sl 0 1 1 o p q,.bool false r])
def Hp:Option fk→Bool
  | some _=>true
  | none=>false
def Hq:Option fk→Nat
  | some (.r0 x _ _ _ _)=>x
  | _=>0
def Hr:Option fk→Nat
  | some (.r0 _ x _ _ _)=>x
  | _=>0
def QR:Option fk→Nat
  | some (.r0 _ _ x _ _)=>x
  | _=>0
def Hs:Option fk→Bool
  | some (.r0 _ _ _ x _)=>x
  | _=>false
def Ht:Option fk→List Int
  | some (.r0 _ _ _ _ x)=>x
  | _=>[]
theorem ara{x:Option fk}(h:Hp x=true) :x=some (.r0 (Hq x) (Hr x) (QR x) (Hs x) (Ht x)):=by
  unfold Hp at h
  split at h<;>first | rfl | (cases h;done) | (rename_i y;cases y;rfl)
def aht:aM:=bK LN (.cons (.ns .u64) (.cons (.int .i64) .nil)) fun t=>(fun q=>[⟨TM (.r0 (Hq q) (Hr q) (QR q) (Hs q) (Ht q)),[Hp q]⟩]) (uT t.1.2 t.2.1)
theorem aiQ:aY prog aht:=aR fun t=>(aS (fun h=>aq9 t.1.1 t.1.2 t.2.1 (ara h)) bc)
def ahu:List aM:=aht::ahs
theorem vD:be prog (bh ahu):=ax aiQ lL
inductive kr where
  | r0 (a:List Int) (b:Nat) (c:Nat) (d:Bool) (e:Nat)
def ahv:kr→AE×aQ
  | .r0 a b c d e=>(.ret,⟨an 23 [(4,.imm .free (.ns .u64 a) 1 1 b c),(5,.bool false d),(6,.int .i64 ((e:Nat):Int))],[],0⟩)
theorem OZ:jJ ahv:=by intro x;cases x<;>(intro h;cases h)
def TN:kr→gM
  | .r0 a b c d e=>⟨.tup [.imm .free (.ns .u64 a) 1 1 b c,.bool false d,.int .i64 ((e:Nat):Int)],[]⟩
def arb(a:Lv)(b:Int) :Nat×(List Int)×Nat→aQ:=fun (c,d,e)=>⟨an 23 [(1,.int .i64 b),(2,.ptr 0 1 0 0),(6,.int .i64 ((c:Nat):Int))],[(0,.vs [.imm a (.ns .u64 d) 1 1 0 e])],1⟩
def Zy(a:List Int) :T ((Nat×(List Int)×Nat)⊕(kr)) :=
  .ask (decide ((0:Int)<(1:Int)))
    (.need (fv (0:Int) 1)<|.need (aG 0 (List.length a) a)<|.need (cW (aN (ab 0 (List.length a) a)))<|.ask (decide ((((ba (aN (ab 0 (List.length a) a))):Nat):Int)>(4096:Int)))
      (.leaf (.inl (2,(bm (aN (ab 0 (List.length a) a))),(ba (aN (ab 0 (List.length a) a))))))
      (.need (di .i64 (1:Int))<|.ask (decide ((1:Int)<(1:Int)))
        (.fail)
        (.leaf (.inl (0,(bm (aN (ab 0 (List.length a) a))),(ba (aN (ab 0 (List.length a) a))))))))
    (.fail)
def arc(a:Lv)(b:Int)(c:List Int)(d:Nat)(e:Bool) :aQ:=⟨an 23 [(1,.int .i64 b),(2,.ptr 0 1 0 0),(14,.bool false e)],[(0,.vs [.imm a (.ns .u64 c) 1 1 0 d])],1⟩
def ard(a:Int)(b:Nat) :T ((Bool)⊕(kr)) :=
  .ask (((b:Nat):Int) != (0:Int))
    (.leaf (.inl true))
    (.leaf (.inl (decide (a<(0:Int)))))
def are:(List Int)×Nat×Nat×Bool→aQ:=fun (a,b,c,d)=>⟨an 23 [(4,.imm .free (.ns .u64 a) 1 1 b c),(5,.bool false d)],[],0⟩
def O0(c:Int)(a:List Int)(b:Nat)(d:Bool) :T (((List Int)×Nat×Nat×Bool)⊕(kr)) :=
  .ask d
    (.leaf (.inr (.r0 ([]:List Int) 0 0 false 2)))
    (.need (aG 0 b a)<|.need (Hp (uT (ab 0 b a) c))<|.leaf (.inl ((Ht (uT (ab 0 b a) c)),(Hq (uT (ab 0 b a) c)),(Hr (uT (ab 0 b a) c)),(Hs (uT (ab 0 b a) c)))))
def arf(a:List Int)(b:Nat)(c:Nat)(d:Bool) :T ((Empty)⊕(kr)) :=
  .leaf (.inr (.r0 a b c d 0))
def xw(b:List Int)(a:Int) :Option kr:=jM (aC ((Zy b).run) fun (c,d,e) =>
  aC ((ard a c).run) fun f =>
  aC ((O0 a d e f).run) fun (g,h,i,j) =>
  (arf g h i j).run)
theorem arg(b:Lv)(c:List Int)(a:Int){x:kr}(h:xw c a=some x) :ay prog Tr [] [.imm b (.ns .u64 c) 1 1 0 (List.length c),.int .i64 a] (TN x) :=
  kf true TN ahv h (Sg.cut 2 OZ (bj vD (arb b a) [⟨[],[0],[1,2,6]⟩,⟨[],[0],[1,2,6]⟩]) (fun ⟨l,d,e⟩=>Sg.cut 1 OZ (bj vD (arc b a d e) [⟨[],[0],[1,2,14]⟩,⟨[],[0],[1,2,14]⟩]) (fun m=>Sg.cut 2 OZ (bj vD are [⟨[(.slot 4,.fre 1 1 (.ns .u64 ([]:List Int)))],[],[4,5,6]⟩,⟨[],[],[4,5]⟩]) (fun ⟨n,o,p,q⟩=>bj vD _ [⟨[],[],[4,5,6]⟩]))))
    (fun x=>by cases x with | r0 f g i j k=>exact jN [.imm .free (.ns .u64 f) 1 1 g i,.bool false j,.int .i64 ((k:Nat):Int)])
def Hu:Option kr→Bool
  | some _=>true
  | none=>false
def Hv:Option kr→List Int
  | some (.r0 x _ _ _ _)=>x
  | _=>[]
def Hw:Option kr→Nat
  | some (.r0 _ x _ _ _)=>x
  | _=>0
def Hx:Option kr→Nat
  | some (.r0 _ _ x _ _)=>x
  | _=>0
def QS:Option kr→Bool
  | some (.r0 _ _ _ x _)=>x
  | _=>false
def QT:Option kr→Nat
  | some (.r0 _ _ _ _ x)=>x
  | _=>0
theorem arh{x:Option kr}(h:Hu x=true) :x=some (.r0 (Hv x) (Hw x) (Hx x) (QS x) (QT x)):=by
  unfold Hu at h
  split at h<;>first | rfl | (cases h;done) | (rename_i y;cases y;rfl)
def ahw:aM:=bK Tr (.cons (.ns .u64) (.cons (.int .i64) .nil)) fun t=>(fun q=>[⟨TN (.r0 (Hv q) (Hw q) (Hx q) (QS q) (QT q)),[Hu q]⟩]) (xw t.1.2 t.2.1)
theorem aiR:aY prog ahw:=aR fun t=>(aS (fun h=>arg t.1.1 t.1.2 t.2.1 (arh h)) bc)
def ahx:List aM:=ahw::ahu
theorem pa:be prog (bh ahx):=ax aiR vD
inductive fO where
  | r0 (a:Int) (b:Nat)
def Dv:fO→AE×aQ
  | .r0 a b=>(.ret,⟨an 31 [(2,.int .i64 a),(3,.int .i64 ((b:Nat):Int))],[],0⟩)
theorem rA:jJ Dv:=by intro x;cases x<;>(intro h;cases h)
theorem aiS(id:Nat) :mP id Dv:=by intro x;cases x<;>(intro h;cases h)
def Kh:fO→gM
  | .r0 a b=>⟨.tup [.int .i64 a,.int .i64 ((b:Nat):Int)],[]⟩
def aiT:List Code:=cN (oa C9)
def aiU(a:Lv) :Nat×(List Int)×Nat→aQ:=fun (b,c,d)=>⟨an 31 [(1,.ptr 0 1 0 0),(4,.int .i64 ((b:Nat):Int))],[(0,.vs [.imm a (.ns .u64 c) 1 1 0 d])],1⟩
def ME(a:List Int) :T ((Nat×(List Int)×Nat)⊕(fO)) :=
  .ask (decide ((0:Int)<(1:Int)))
    (.need (fv (0:Int) 1)<|.need (aG 0 (List.length a) a)<|.need (cW (aN (ab 0 (List.length a) a)))<|.ask (decide ((((ba (aN (ab 0 (List.length a) a))):Nat):Int)>(4096:Int)))
      (.leaf (.inl (2,(bm (aN (ab 0 (List.length a) a))),(ba (aN (ab 0 (List.length a) a))))))
      (.need (di .i64 (1:Int))<|.ask (decide ((1:Int)<(1:Int)))
        (.fail)
        (.leaf (.inl (0,(bm (aN (ab 0 (List.length a) a))),(ba (aN (ab 0 (List.length a) a))))))))
    (.fail)
def aiV(a:Lv)(b:Nat)(c:List Int)(d:Nat)(e:Bool) :aQ:=⟨an 31 [(1,.ptr 0 1 0 0),(4,.int .i64 ((b:Nat):Int)),(14,.bool false e)],[(0,.vs [.imm a (.ns .u64 c) 1 1 0 d])],1⟩
def acO(a:Nat)(b:Nat) :T ((Bool)⊕(fO)) :=
  .ask (((a:Nat):Int) != (0:Int))
    (.leaf (.inl true))
    (.leaf (.inl (((b:Nat):Int)==(0:Int))))
def aiW(a:Lv)(b:List Int)(c:Nat)(_:Unit) :aQ:=⟨an 31 [(1,.ptr 0 1 0 0),(5,.int .i64 (0:Int))],[(0,.vs [.imm a (.ns .u64 b) 1 1 0 c])],1⟩
def acP(a:Nat)(b:Bool) :T ((Unit)⊕(fO)) :=
  .ask b
    (.leaf (.inr (.r0 (0:Int) a)))
    (.leaf (.inl ()))
def Hy(a:Lv)(b:List Int)(c:Nat)(d:Nat) :aQ:=⟨an 31 [(1,.ptr 0 1 0 0),(5,.int .i64 ((d:Nat):Int))],[(0,.vs [.imm a (.ns .u64 b) 1 1 0 c])],1⟩
def QU(a:Lv)(b:List Int)(c:Nat)(d:Nat) :aQ:=⟨an 31 [(1,.ptr 0 1 0 0),(5,.int .i64 ((d:Nat):Int))],[(0,.vs [.imm a (.ns .u64 b) 1 1 0 c])],1⟩
def acQ:List Code:=cN (dn ((((((aiT.drop 2).drop 1).drop 2).take 1)).headD .skip))
def sc(b:List Int)(c:Nat)(a:Nat) :T ((Nat)⊕((Nat)⊕(fO))) :=
  .need (fv ((a:Nat):Int) c)<|.need (g9 a (List.length b))<|.ask ((List.getD b a 0)==(0:Int))
    (.need (di .i64 (((a+1):Nat):Int))<|.leaf (.inl (a+1)))
    (.leaf (.inr (.inl a)))
def Ee(a:List Int)(b:Nat) :Nat→Option ((Nat)⊕((Nat)⊕(fO))):=fun c =>
  (sc a b c).run
theorem acR(c:Lv)(a:List Int)(b:Nat)(d:Nat) :Sg prog [] acQ (Hy c a b d) (Ee a b d) (Hy c a b) (cy 0 (QU c a b) Dv):=by
  unfold Ee;exact bj pa _ [⟨[],[0],[1,5]⟩,⟨[],[0],[1,5]⟩]
def aiX(a:Int) :aQ:=⟨an 31 [(2,.int .i64 a),(3,.int .i64 (0:Int))],[],0⟩
def MF(b:List Int)(c:Nat)(a:Nat) :T ((Int)⊕(fO)) :=
  .need (di .i64 (((64*a):Nat):Int))<|.need (fv ((a:Nat):Int) c)<|.need (g9 a (List.length b))<|.need (ff (ei (List.getD b a 0)))<|.need (di .i64 ((((64*a):Nat):Int)+(eN (ei (List.getD b a 0)))))<|.leaf (.inl ((((64*a):Nat):Int)+(eN (ei (List.getD b a 0)))))
def acS(a:Int) :T ((Empty)⊕(fO)) :=
  .leaf (.inr (.r0 a 0))
def ze(d:List Int) :Option fO:=jM (aC ((ME d).run) fun (b,c,a) =>
  aC ((acO b a).run) fun e =>
  aC ((acP b e).run) fun _ =>
  aC (dh (Ee c a) 0) fun f =>
  aC ((MF c a f).run) fun g =>
  (acS g).run)
theorem aiY(a:Lv)(d:List Int){x:fO}(h:ze d=some x) :ay prog C9 [] [.imm a (.ns .u64 d) 1 1 0 (List.length d)] (Kh x) :=
  kf true Kh Dv h (Sg.cut 2 rA (bj pa (aiU a) [⟨[],[0],[1,4]⟩,⟨[],[0],[1,4]⟩]) (fun ⟨e,b,c⟩=>Sg.cut 1 rA (bj pa (aiV a e b c) [⟨[],[0],[1,4,14]⟩,⟨[],[0],[1,4,14]⟩]) (fun j=>Sg.cut 2 rA (bj pa (aiW a b c) [⟨[],[],[2,3]⟩,⟨[],[0],[1,5]⟩]) (fun _=>Sg.cut 1 rA (AD ⟨[],[0],[1,5]⟩ (Hy a b c) (QU a b c) 0 rA (aiS _) (fun f=>acR a b c f)) (fun k=>Sg.cut 1 rA (bj pa aiX [⟨[],[],[2,3]⟩]) (fun l=>bj pa _ [⟨[],[],[2,3]⟩]))))))
    (fun x=>by cases x with | r0 g i=>exact jN [.int .i64 g,.int .i64 ((i:Nat):Int)])
def AK:Option fO→Bool
  | some _=>true
  | none=>false
def BE:Option fO→Int
  | some (.r0 x _)=>x
  | _=>0
def Ki:Option fO→Nat
  | some (.r0 _ x)=>x
  | _=>0
theorem aiZ{x:Option fO}(h:AK x=true) :x=some (.r0 (BE x) (Ki x)):=by
  unfold AK at h
  split at h<;>first | rfl | (cases h;done) | (rename_i y;cases y;rfl)
def Vd:aM:=bK C9 (.cons (.ns .u64) .nil) fun t=>(fun q=>[⟨Kh (.r0 (BE q) (Ki q)),[AK q]⟩]) (ze t.1.2)
theorem Zz:aY prog Vd:=aR fun t=>(aS (fun h=>aiY t.1.1 t.1.2 (aiZ h)) bc)
def Ve:List aM:=Vd::ahx
theorem qC:be prog (bh Ve):=ax Zz pa
inductive fP where
  | r0 (a:Bool) (b:List Int) (c:Nat) (d:Nat) (e:Int)
def Vf:fP→AE×aQ
  | .r0 a b c d e=>(.ret,⟨an 37 [(2,.ptr 0 1 0 0)],[(0,.vs [.bool false a,.imm .free (.ns .u64 b) 1 1 c d,.int .i64 e])],1⟩)
theorem Hz:jJ Vf:=by intro x;cases x<;>(intro h;cases h)
def Kj:fP→gM
  | .r0 a b c d e=>⟨.agg [.bool false a,.imm .free (.ns .u64 b) 1 1 c d,.int .i64 e],[]⟩
def ai0(b:Bool)(c:Lv)(a:List Int)(d:Int) :(List Int)×Nat×Bool→aQ:=fun (e,f,g)=>⟨an 37 [(1,.ptr 0 1 0 0),(2,.ptr 1 1 0 0),(3,.imm .free (.ns .u64 e) 1 1 0 f)],[(0,.vs [.bool false b,.imm c (.ns .u64 a) 1 1 0 (List.length a),.int .i64 d]),(1,.vs [.bool false g,.nsl,.int .i64 (0:Int)])],2⟩
def HA(a:List Int) :T (((List Int)×Nat×Bool)⊕(fP)) :=
  .need (aG 0 (List.length a) a)<|.need (y9 (qB (ab 0 (List.length a) a)))<|.leaf (.inl ((Eb (qB (ab 0 (List.length a) a))),(D9 (qB (ab 0 (List.length a) a))),false))
def ai1(b:Bool)(c:Lv)(a:List Int)(d:Int)(e:List Int)(f:Nat)(g:Bool)(h:Int) :aQ:=⟨an 37 [(1,.ptr 0 1 0 0),(2,.ptr 1 1 0 0),(3,.imm .free (.ns .u64 e) 1 1 0 f),(5,.int .i64 h)],[(0,.vs [.bool false b,.imm c (.ns .u64 a) 1 1 0 (List.length a),.int .i64 d]),(1,.vs [.bool false g,.nsl,.int .i64 (0:Int)])],2⟩
def HB(b:List Int)(a:Nat) :T ((Int)⊕(fP)) :=
  .ask (((a:Nat):Int)==(0:Int))
    (.leaf (.inr (.r0 false ([]:List Int) 0 0 (0:Int))))
    (.need (aG 0 a b)<|.need (AK (ze (ab 0 a b)))<|.leaf (.inl (BE (ze (ab 0 a b)))))
def ai2(b:Bool)(c:Lv)(a:List Int)(d:Int)(e:Bool)(f:Int) :(List Int)×Nat×Nat→aQ:=fun (g,h,i)=>⟨an 37 [(1,.ptr 0 1 0 0),(2,.ptr 1 1 0 0),(3,.imm .free (.ns .u64 g) 1 1 h i),(5,.int .i64 f)],[(0,.vs [.bool false b,.imm c (.ns .u64 a) 1 1 0 (List.length a),.int .i64 d]),(1,.vs [.bool false e,.nsl,.int .i64 (0:Int)])],2⟩
def HC(a:List Int)(b:Nat)(c:Int) :T (((List Int)×Nat×Nat)⊕(fP)) :=
  .need (aG 0 b a)<|.need (Hu (xw (ab 0 b a) c))<|.leaf (.inl ((Hv (xw (ab 0 b a) c)),(Hw (xw (ab 0 b a) c)),(Hx (xw (ab 0 b a) c))))
def ai3(c:Bool)(a:Int)(b:Int)(d:List Int)(e:Nat)(f:Nat) :T ((Empty)⊕(fP)) :=
  .need (di .i64 (a+b))<|.leaf (.inr (.r0 c d e f (a+b)))
def aL(d:Bool)(e:List Int)(f:Int) :Option fP:=jM (aC ((HA e).run) fun (a,b,j) =>
  aC ((HB a b).run) fun c =>
  aC ((HC a b c).run) fun (g,h,i) =>
  (ai3 d f c g h i).run)
theorem ai4(b:Bool)(d:Lv)(a:List Int)(c:Int){x:fP}(h:aL b a c=some x) :ay prog JG [] [.agg [.bool false b,.imm d (.ns .u64 a) 1 1 0 (List.length a),.int .i64 c]] (Kj x) :=
  kf true Kj Vf h (Sg.cut 2 Hz (bj qC (ai0 b d a c) [⟨[],[0,16],[1,2,3]⟩]) (fun ⟨f,g,e⟩=>Sg.cut 3 Hz (bj qC (ai1 b d a c f g e) [⟨[(.cell 1 1,.fre 1 1 (.ns .u64 ([]:List Int)))],[1],[2]⟩,⟨[],[0,1],[1,2,3,5]⟩]) (fun i=>Sg.cut 1 Hz (bj qC (ai2 b d a c e i) [⟨[],[0,1],[1,2,3,5]⟩]) (fun ⟨o,p,q⟩=>bj qC _ [⟨[],[1],[2]⟩]))))
    (fun x=>by cases x with | r0 j k l m n=>exact jN [.agg [.bool false j,.imm .free (.ns .u64 k) 1 1 l m,.int .i64 n]])
def gE:Option fP→Bool
  | some _=>true
  | none=>false
def dG:Option fP→Bool
  | some (.r0 x _ _ _ _)=>x
  | _=>false
def dH:Option fP→List Int
  | some (.r0 _ x _ _ _)=>x
  | _=>[]
def dI:Option fP→Nat
  | some (.r0 _ _ x _ _)=>x
  | _=>0
def dJ:Option fP→Nat
  | some (.r0 _ _ _ x _)=>x
  | _=>0
def dK:Option fP→Int
  | some (.r0 _ _ _ _ x)=>x
  | _=>0
theorem ai5{x:Option fP}(h:gE x=true) :x=some (.r0 (dG x) (dH x) (dI x) (dJ x) (dK x)):=by
  unfold gE at h
  split at h<;>first | rfl | (cases h;done) | (rename_i y;cases y;rfl)
def Vg:aM:=bK JG (.cons (.agg (.cons .bool (.cons (.ns .u64) (.cons (.int .i64) .nil)))) .nil) fun t=>(fun q=>[⟨Kj (.r0 (dG q) (dH q) (dI q) (dJ q) (dK q)),[gE q]⟩]) (aL t.1.1 t.1.2.1.2 t.1.2.2.1)
theorem ZA:aY prog Vg:=aR fun t=>(aS (fun h=>ai4 t.1.1 t.1.2.1.1 t.1.2.1.2 t.1.2.2.1 (ai5 h)) bc)
def Vh:List aM:=Vg::Ve
theorem vE:be prog (bh Vh):=ax ZA qC
inductive od where
  | r0 (a:Bool)
def ZB:od→AE×aQ
  | .r0 a=>(.ret,⟨an 18 [(2,.bool false a)],[],0⟩)
theorem Vi:jJ ZB:=by intro x;cases x<;>(intro h;cases h)
def O1:od→gM
  | .r0 a=>⟨.bool false a,[]⟩
def anV(b:Bool)(c:Lv)(a:List Int)(d:Int)(e:Nat) :aQ:=⟨an 18 [(1,.ptr 0 1 0 0),(4,.int .i64 ((e:Nat):Int))],[(0,.vs [.bool false b,.imm c (.ns .u64 a) 1 1 0 (List.length a),.int .i64 d])],1⟩
def Vj(a:List Int) :T ((Nat)⊕(od)) :=
  .need (aG 0 (List.length a) a)<|.need (y9 (qB (ab 0 (List.length a) a)))<|.leaf (.inl (Ea (qB (ab 0 (List.length a) a))))
def anW(a:Bool) :aQ:=⟨an 18 [(2,.bool false a)],[],0⟩
def anX(a:Int)(b:Nat) :T ((Bool)⊕(od)) :=
  .ask (((b:Nat):Int)==(0:Int))
    (.ask (decide (a≥(-262144:Int)))
      (.leaf (.inl (decide (a≤(262144:Int)))))
      (.leaf (.inl false)))
    (.leaf (.inl false))
def anY(a:Bool) :T ((Empty)⊕(od)) :=
  .leaf (.inr (.r0 a))
def eO(a:List Int)(b:Int) :Option od:=jM (aC ((Vj a).run) fun c =>
  aC ((anX b c).run) fun d =>
  (anY d).run)
theorem anZ(c:Bool)(d:Lv)(a:List Int)(b:Int){x:od}(h:eO a b=some x) :ay prog OB [] [.agg [.bool false c,.imm d (.ns .u64 a) 1 1 0 (List.length a),.int .i64 b]] (O1 x) :=
  kf true O1 ZB h (Sg.cut 2 Vi (bj vE (anV c d a b) [⟨[],[0],[1,4]⟩]) (fun f=>Sg.cut 1 Vi (bj vE anW [⟨[],[],[2]⟩,⟨[],[],[2]⟩,⟨[],[],[2]⟩]) (fun g=>bj vE _ [⟨[],[],[2]⟩])))
    (fun x=>by cases x with | r0 e=>exact jN [.bool false e])
def kO:Option od→Bool
  | some _=>true
  | none=>false
def ji:Option od→Bool
  | some (.r0 x)=>x
  | _=>false
theorem an0{x:Option od}(h:kO x=true) :x=some (.r0 (ji x)):=by
  unfold kO at h
  split at h<;>first | rfl | (cases h;done) | (rename_i y;cases y;rfl)
def ZC:aM:=bK OB (.cons (.agg (.cons .bool (.cons (.ns .u64) (.cons (.int .i64) .nil)))) .nil) fun t=>(fun q=>[⟨O1 (.r0 (ji q)),[kO q]⟩]) (eO t.1.2.1.2 t.1.2.2.1)
theorem acT:aY prog ZC:=aR fun t=>(aS (fun h=>anZ t.1.1 t.1.2.1.1 t.1.2.1.2 t.1.2.2.1 (an0 h)) bc)
def ZD:List aM:=ZC::Vh
theorem yA:be prog (bh ZD):=ax acT vE
inductive e9 where
  | r0 (a:Nat) (b:Int) (c:List Int) (d:Nat) (e:List Int) (f:Nat)
def QV:e9→AE×aQ
  | .r0 a b c d e f=>(.ret,⟨an 57 [(4,.ptr 0 1 0 0),(5,.int .i64 ((a:Nat):Int))],[(0,.vs [.int .i64 b,.imm .free (.ns .u64 c) 1 1 0 d,.imm .free (.ns .u64 e) 1 1 0 f])],1⟩)
theorem MG:jJ QV:=by intro x;cases x<;>(intro h;cases h)
def HD:e9→gM
  | .r0 a b c d e f=>⟨.tup [.agg [.int .i64 b,.imm .free (.ns .u64 c) 1 1 0 d,.imm .free (.ns .u64 e) 1 1 0 f],.int .i64 ((a:Nat):Int)],[]⟩
def acU(c:Bool)(d:Lv)(a:List Int)(e:Int)(f:Bool)(g:Lv)(b:List Int)(h:Int)(i:Int) :aQ:=⟨an 57 [(2,.ptr 0 1 0 0),(3,.ptr 1 1 0 0),(4,.ptr 2 1 0 0),(6,.ptr 3 1 0 0)],[(0,.vs [.bool false c,.imm d (.ns .u64 a) 1 1 0 (List.length a),.int .i64 e]),(1,.vs [.bool false f,.imm g (.ns .u64 b) 1 1 0 (List.length b),.int .i64 h]),(2,.vs [.int .i64 (0:Int),.nsl,.nsl]),(3,.vs [.int .i64 i,.nsl,.nsl])],4⟩
def sd(c:List Int)(a:Int)(d:List Int)(b:Int) :T ((Int)⊕(e9)) :=
  .ask ((((List.length c):Nat):Int)==(0:Int))
    (.leaf (.inl b))
    (.ask ((((List.length d):Nat):Int)==(0:Int))
      (.leaf (.inl a))
      (.need (di .i64 ((mr a b)-(ke a b)))<|.ask (decide (((mr a b)-(ke a b))>(262144:Int)))
        (.leaf (.inr (.r0 3 (0:Int) ([]:List Int) 0 ([]:List Int) 0)))
        (.leaf (.inl (ke a b)))))
def acV(a:Int) :(List Int)×Nat×(List Int)×Nat→aQ:=fun (b,c,d,e)=>⟨an 57 [(4,.ptr 0 1 0 0),(6,.ptr 1 1 0 0)],[(0,.vs [.int .i64 (0:Int),.nsl,.nsl]),(1,.vs [.int .i64 a,.imm .free (.ns .u64 b) 1 1 0 c,.imm .free (.ns .u64 d) 1 1 0 e])],2⟩
def l4(c:List Int)(e:Int)(a:List Int)(d:Int)(b:Int) :T (((List Int)×Nat×(List Int)×Nat)⊕(e9)) :=
  .ask ((((List.length c):Nat):Int)==(0:Int))
    (.ask ((((List.length a):Nat):Int)==(0:Int))
      (.leaf (.inl (([]:List Int),0,([]:List Int),0)))
      (.need (di .i64 (d-b))<|.need (aG 0 (List.length a) a)<|.need (xv (kq (ab 0 (List.length a) a) (d-b)))<|.leaf (.inl (([]:List Int),0,(ry (kq (ab 0 (List.length a) a) (d-b))),(rz (kq (ab 0 (List.length a) a) (d-b)))))))
    (.need (di .i64 (e-b))<|.need (aG 0 (List.length c) c)<|.need (xv (kq (ab 0 (List.length c) c) (e-b)))<|.ask ((((List.length a):Nat):Int)==(0:Int))
      (.leaf (.inl ((ry (kq (ab 0 (List.length c) c) (e-b))),(rz (kq (ab 0 (List.length c) c) (e-b))),([]:List Int),0)))
      (.need (di .i64 (d-b))<|.need (aG 0 (List.length a) a)<|.need (xv (kq (ab 0 (List.length a) a) (d-b)))<|.leaf (.inl ((ry (kq (ab 0 (List.length c) c) (e-b))),(rz (kq (ab 0 (List.length c) c) (e-b))),(ry (kq (ab 0 (List.length a) a) (d-b))),(rz (kq (ab 0 (List.length a) a) (d-b)))))))
def acW(a:Int)(b:List Int)(c:Nat)(d:List Int)(e:Nat) :T ((Empty)⊕(e9)) :=
  .leaf (.inr (.r0 0 a b c d e))
def dV(a:List Int)(b:Int)(c:List Int)(d:Int) :Option e9:=jM (aC ((sd a b c d).run) fun e =>
  aC ((l4 a b c d e).run) fun (f,g,h,i) =>
  (acW e f g h i).run)
theorem acX(e:Bool)(f:Lv)(a:List Int)(c:Int)(g:Bool)(i:Lv)(b:List Int)(d:Int){x:e9}(h:dV a c b d=some x) :ay prog G3 [] [.agg [.bool false e,.imm f (.ns .u64 a) 1 1 0 (List.length a),.int .i64 c],.agg [.bool false g,.imm i (.ns .u64 b) 1 1 0 (List.length b),.int .i64 d]] (HD x) :=
  kf true HD QV h (Sg.cut 3 MG (bj yA (acU e f a c g i b d) [⟨[],[0,16,32,176],[2,3,4,6]⟩,⟨[],[0,16,32,176],[2,3,4,6]⟩,⟨[(.cell 32 1,.fre 1 1 (.ns .u64 ([]:List Int))),(.cell 32 2,.fre 1 1 (.ns .u64 ([]:List Int)))],[32],[4,5]⟩,⟨[],[0,16,32,176],[2,3,4,6]⟩]) (fun j=>Sg.cut 2 MG (bj yA (acV j) [⟨[(.cell 3 1,.fre 1 1 (.ns .u64 ([]:List Int))),(.cell 3 2,.fre 1 1 (.ns .u64 ([]:List Int)))],[2,3],[4,6]⟩,⟨[(.cell 3 1,.fre 1 1 (.ns .u64 ([]:List Int)))],[2,3],[4,6]⟩,⟨[(.cell 3 2,.fre 1 1 (.ns .u64 ([]:List Int)))],[2,3],[4,6]⟩,⟨[],[2,3],[4,6]⟩]) (fun ⟨q,r,s,t⟩=>bj yA _ [⟨[],[0],[4,5]⟩])))
    (fun x=>by cases x with | r0 k l m n o p=>exact jN [.agg [.int .i64 l,.imm .free (.ns .u64 m) 1 1 0 n,.imm .free (.ns .u64 o) 1 1 0 p],.int .i64 ((k:Nat):Int)])
def se:Option e9→Bool
  | some _=>true
  | none=>false
def tB:Option e9→Nat
  | some (.r0 x _ _ _ _ _)=>x
  | _=>0
def tC:Option e9→Int
  | some (.r0 _ x _ _ _ _)=>x
  | _=>0
def tD:Option e9→List Int
  | some (.r0 _ _ x _ _ _)=>x
  | _=>[]
def tE:Option e9→Nat
  | some (.r0 _ _ _ x _ _)=>x
  | _=>0
def tF:Option e9→List Int
  | some (.r0 _ _ _ _ x _)=>x
  | _=>[]
def tH:Option e9→Nat
  | some (.r0 _ _ _ _ _ x)=>x
  | _=>0
theorem acY{x:Option e9}(h:se x=true) :x=some (.r0 (tB x) (tC x) (tD x) (tE x) (tF x) (tH x)):=by
  unfold se at h
  split at h<;>first | rfl | (cases h;done) | (rename_i y;cases y;rfl)
def QW:aM:=bK G3 (.cons (.agg (.cons .bool (.cons (.ns .u64) (.cons (.int .i64) .nil)))) (.cons (.agg (.cons .bool (.cons (.ns .u64) (.cons (.int .i64) .nil)))) .nil)) fun t=>(fun q=>[⟨HD (.r0 (tB q) (tC q) (tD q) (tE q) (tF q) (tH q)),[se q]⟩]) (dV t.1.2.1.2 t.1.2.2.1 t.2.1.2.1.2 t.2.1.2.2.1)
theorem WF:aY prog QW:=aR fun t=>(aS (fun h=>acX t.1.1 t.1.2.1.1 t.1.2.1.2 t.1.2.2.1 t.2.1.1 t.2.1.2.1.1 t.2.1.2.1.2 t.2.1.2.2.1 (acY h)) bc)
def QX:List aM:=QW::ZD
theorem tI:be prog (bh QX):=ax WF yA
inductive fQ where
  | r0 (a:Nat) (b:Bool) (c:List Int) (d:Nat) (e:Nat) (f:Int)
def Vk:fQ→AE×aQ
  | .r0 a b c d e f=>(.ret,⟨an 11 [(2,.ptr 0 1 0 0),(3,.int .i64 ((a:Nat):Int))],[(0,.vs [.bool false b,.imm .free (.ns .u64 c) 1 1 d e,.int .i64 f])],1⟩)
theorem QY:jJ Vk:=by intro x;cases x<;>(intro h;cases h)
def Kk:fQ→gM
  | .r0 a b c d e f=>⟨.tup [.agg [.bool false b,.imm .free (.ns .u64 c) 1 1 d e,.int .i64 f],.int .i64 ((a:Nat):Int)],[]⟩
def ai6:Bool×(List Int)×Nat×Nat×Int×Bool→aQ:=fun (a,b,c,d,e,f)=>⟨an 11 [(1,.ptr 0 1 0 0),(2,.ptr 1 1 0 0)],[(0,.vs [.bool false a,.imm .free (.ns .u64 b) 1 1 c d,.int .i64 e]),(1,.vs [.bool false f,.nsl,.int .i64 (0:Int)])],2⟩
def QZ(b:Bool)(a:List Int)(c:Int) :T ((Bool×(List Int)×Nat×Nat×Int×Bool)⊕(fQ)) :=
  .need (aG 0 (List.length a) a)<|.need (gE (aL b (ab 0 (List.length a) a) c))<|.leaf (.inl ((dG (aL b (ab 0 (List.length a) a) c)),(dH (aL b (ab 0 (List.length a) a) c)),(dI (aL b (ab 0 (List.length a) a) c)),(dJ (aL b (ab 0 (List.length a) a) c)),(dK (aL b (ab 0 (List.length a) a) c)),false))
def ai7(a:Bool)(b:List Int)(c:Nat)(d:Nat)(e:Int)(f:Bool)(g:Bool) :aQ:=⟨an 11 [(1,.ptr 0 1 0 0),(2,.ptr 1 1 0 0),(8,.bool false g)],[(0,.vs [.bool false a,.imm .free (.ns .u64 b) 1 1 c d,.int .i64 e]),(1,.vs [.bool false f,.nsl,.int .i64 (0:Int)])],2⟩
def HE(a:List Int)(b:Nat)(c:Nat)(d:Int) :T ((Bool)⊕(fQ)) :=
  .need (aG b c a)<|.need (kO (eO (ab b c a) d))<|.leaf (.inl (!(ji (eO (ab b c a) d))))
def ai8(a:Bool)(b:List Int)(c:Nat)(d:Nat)(e:Int)(f:Bool) :T ((Empty)⊕(fQ)) :=
  .ask f
    (.leaf (.inr (.r0 3 false ([]:List Int) 0 0 (0:Int))))
    (.leaf (.inr (.r0 0 a b c d e)))
def cX(e:Bool)(f:List Int)(g:Int) :Option fQ:=jM (aC ((QZ e f g).run) fun (h,a,b,c,d,j) =>
  aC ((HE a b c d).run) fun i =>
  (ai8 h a b c d i).run)
theorem ai9(b:Bool)(d:Lv)(a:List Int)(c:Int){x:fQ}(h:cX b a c=some x) :ay prog JK [] [.agg [.bool false b,.imm d (.ns .u64 a) 1 1 0 (List.length a),.int .i64 c]] (Kk x) :=
  kf true Kk Vk h (Sg.cut 2 QY (bj tI ai6 [⟨[],[0,16],[1,2]⟩]) (fun ⟨e,f,g,i,j,k⟩=>Sg.cut 1 QY (bj tI (ai7 e f g i j k) [⟨[],[0,1],[1,2,8]⟩]) (fun r=>bj tI _ [⟨[(.cell 1 1,.fre 1 1 (.ns .u64 ([]:List Int)))],[1],[2,3]⟩,⟨[],[1],[2,3]⟩])))
    (fun x=>by cases x with | r0 l m n o p q=>exact jN [.agg [.bool false m,.imm .free (.ns .u64 n) 1 1 o p,.int .i64 q],.int .i64 ((l:Nat):Int)])
def rB:Option fQ→Bool
  | some _=>true
  | none=>false
def qD:Option fQ→Nat
  | some (.r0 x _ _ _ _ _)=>x
  | _=>0
def qE:Option fQ→Bool
  | some (.r0 _ x _ _ _ _)=>x
  | _=>false
def qF:Option fQ→List Int
  | some (.r0 _ _ x _ _ _)=>x
  | _=>[]
def qG:Option fQ→Nat
  | some (.r0 _ _ _ x _ _)=>x
  | _=>0
def qH:Option fQ→Nat
  | some (.r0 _ _ _ _ x _)=>x
  | _=>0
def qI:Option fQ→Int
  | some (.r0 _ _ _ _ _ x)=>x
  | _=>0
theorem aja{x:Option fQ}(h:rB x=true) :x=some (.r0 (qD x) (qE x) (qF x) (qG x) (qH x) (qI x)):=by
  unfold rB at h
  split at h<;>first | rfl | (cases h;done) | (rename_i y;cases y;rfl)
def Vl:aM:=bK JK (.cons (.agg (.cons .bool (.cons (.ns .u64) (.cons (.int .i64) .nil)))) .nil) fun t=>(fun q=>[⟨Kk (.r0 (qD q) (qE q) (qF q) (qG q) (qH q) (qI q)),[rB q]⟩]) (cX t.1.1 t.1.2.1.2 t.1.2.2.1)
theorem ZE:aY prog Vl:=aR fun t=>(aS (fun h=>ai9 t.1.1 t.1.2.1.1 t.1.2.1.2 t.1.2.2.1 (aja h)) bc)
def Vm:List aM:=Vl::QX
theorem BF:be prog (bh Vm):=ax ZE tI
inductive fD where
  | r0 (a:Nat) (b:Bool) (c:List Int) (d:Nat) (e:Nat) (f:Int)
def Q0:fD→AE×aQ
  | .r0 a b c d e f=>(.ret,⟨an 21 [(7,.ptr 0 1 0 0),(8,.int .i64 ((a:Nat):Int))],[(0,.vs [.bool false b,.imm .free (.ns .u64 c) 1 1 d e,.int .i64 f])],1⟩)
theorem acZ:jJ Q0:=by intro x;cases x<;>(intro h;cases h)
def HF:fD→gM
  | .r0 a b c d e f=>⟨.tup [.agg [.bool false b,.imm .free (.ns .u64 c) 1 1 d e,.int .i64 f],.int .i64 ((a:Nat):Int)],[]⟩
def ac0:Nat×Bool×(List Int)×Nat×Nat×Int→aQ:=fun (a,b,c,d,e,f)=>⟨an 21 [(7,.ptr 0 1 0 0),(8,.int .i64 ((a:Nat):Int))],[(0,.vs [.bool false b,.imm .free (.ns .u64 c) 1 1 d e,.int .i64 f])],1⟩
def MH(b:Bool)(a:List Int)(d:Int)(c:Int) :T ((Nat×Bool×(List Int)×Nat×Nat×Int)⊕(fD)) :=
  .ask (d != (0:Int))
    (.leaf (.inr (.r0 3 false ([]:List Int) 0 0 (0:Int))))
    (.need (aG 0 (List.length a) a)<|.need (rB (cX b (ab 0 (List.length a) a) c))<|.leaf (.inl ((qD (cX b (ab 0 (List.length a) a) c)),(qE (cX b (ab 0 (List.length a) a) c)),(qF (cX b (ab 0 (List.length a) a) c)),(qG (cX b (ab 0 (List.length a) a) c)),(qH (cX b (ab 0 (List.length a) a) c)),(qI (cX b (ab 0 (List.length a) a) c)))))
def ac1(a:Nat)(b:Bool)(c:List Int)(d:Nat)(e:Nat)(f:Int) :T ((Empty)⊕(fD)) :=
  .leaf (.inr (.r0 a b c d e f))
def cL(a:Bool)(b:List Int)(c:Int)(d:Int) :Option fD:=jM (aC ((MH a b c d).run) fun (e,f,g,h,i,j) =>
  (ac1 e f g h i j).run)
theorem ac2(b:Bool)(g:Lv)(a:List Int)(c:Int)(i:Lv)(d:Int)(j:Lv)(e:List Int)(k:Lv)(f:List Int){x:fD}(h:cL b a c d=some x) :ay prog rt [] [.bool false b,.imm g (.ns .u64 a) 1 1 0 (List.length a),.int .i64 c,.iptr i (.vs [.int .i64 d,.imm j (.ns .u64 e) 1 1 0 (List.length e),.imm k (.ns .u64 f) 1 1 0 (List.length f)]) 1 0 0] (HF x) :=
  kf false HF Q0 h (Sg.cut 4 acZ (bj BF ac0 [⟨[(.cell 0 1,.fre 1 1 (.ns .u64 ([]:List Int)))],[0],[7,8]⟩,⟨[],[0],[7,8]⟩]) (fun ⟨r,s,t,u,v,w⟩=>bj BF _ [⟨[],[0],[7,8]⟩]))
    (fun x=>by cases x with | r0 l m n o p q=>exact jN [.agg [.bool false m,.imm .free (.ns .u64 n) 1 1 o p,.int .i64 q],.int .i64 ((l:Nat):Int)])
def p6:Option fD→Bool
  | some _=>true
  | none=>false
def pD:Option fD→Nat
  | some (.r0 x _ _ _ _ _)=>x
  | _=>0
def pE:Option fD→Bool
  | some (.r0 _ x _ _ _ _)=>x
  | _=>false
def pF:Option fD→List Int
  | some (.r0 _ _ x _ _ _)=>x
  | _=>[]
def pG:Option fD→Nat
  | some (.r0 _ _ _ x _ _)=>x
  | _=>0
def pH:Option fD→Nat
  | some (.r0 _ _ _ _ x _)=>x
  | _=>0
def pI:Option fD→Int
  | some (.r0 _ _ _ _ _ x)=>x
  | _=>0
theorem ac3{x:Option fD}(h:p6 x=true) :x=some (.r0 (pD x) (pE x) (pF x) (pG x) (pH x) (pI x)):=by
  unfold p6 at h
  split at h<;>first | rfl | (cases h;done) | (rename_i y;cases y;rfl)
def Q2:aM:=bK rt (.cons .bool (.cons (.ns .u64) (.cons (.int .i64) (.cons (.ivs (.cons (.int .i64) (.cons (.ns .u64) (.cons (.ns .u64) .nil))) 1 0 0) .nil)))) fun t=>(fun q=>[⟨HF (.r0 (pD q) (pE q) (pF q) (pG q) (pH q) (pI q)),[p6 q]⟩]) (cL t.1 t.2.1.2 t.2.2.1 t.2.2.2.1.2.1)
theorem WG:aY prog Q2:=aR fun t=>(aS (fun h=>ac2 t.1 t.2.1.1 t.2.1.2 t.2.2.1 t.2.2.2.1.1 t.2.2.2.1.2.1 t.2.2.2.1.2.2.1.1 t.2.2.2.1.2.2.1.2 t.2.2.2.1.2.2.2.1.1 t.2.2.2.1.2.2.2.1.2 (ac3 h)) bc)
def Q3:List aM:=Q2::Vm
theorem iD:be prog (bh Q3):=ax WG BF
inductive eP where
  | r0 (a:Nat) (b:Bool) (c:List Int) (d:Nat) (e:Nat) (f:Int)
def ZF:eP→AE×aQ
  | .r0 a b c d e f=>(.ret,⟨an 97 [(4,.ptr 0 1 0 0),(5,.int .i64 ((a:Nat):Int))],[(0,.vs [.bool false b,.imm .free (.ns .u64 c) 1 1 d e,.int .i64 f])],1⟩)
theorem qJ:jJ ZF:=by intro x;cases x<;>(intro h;cases h)
def O2:eP→gM
  | .r0 a b c d e f=>⟨.tup [.agg [.bool false b,.imm .free (.ns .u64 c) 1 1 d e,.int .i64 f],.int .i64 ((a:Nat):Int)],[]⟩
def an1(a:Lv)(b:Lv) :Nat×Bool×(List Int)×Nat×Nat×Int×Bool×(List Int)×Nat×Nat×Int×Bool→aQ:=fun (c,d,e,f,g,h,i,j,k,l,m,n)=>⟨an 97 [(2,.ptr 0 1 0 0),(3,.ptr 1 1 0 0),(4,.ptr 2 1 0 0),(6,.int .i64 ((c:Nat):Int))],[(0,.vs [.bool false d,.imm a (.ns .u64 e) 1 1 f g,.int .i64 h]),(1,.vs [.bool false i,.imm b (.ns .u64 j) 1 1 k l,.int .i64 m]),(2,.vs [.bool false n,.nsl,.int .i64 (0:Int)])],3⟩
def Kl(d : Bool)(a : List Int)(c : Int)(f : Bool)(b : List Int)(e : Int) : T ((Nat × Bool × (List Int) × Nat × Nat × Int × Bool × (List Int) × Nat × Nat × Int × Bool) ⊕ (eP)) :=
  .ask (decide ((0:Int)<(2:Int)))
    (.need (fv (0:Int) 2)<|.need (aG 0 (List.length a) a)<|.need (kO (eO (ab 0 (List.length a) a) c))<|.ask (!(ji (eO (ab 0 (List.length a) a) c)))
      (.leaf (.inl (2,d,a,0,(List.length a),c,f,b,0,(List.length b),e,false)))
      (.need (aG 0 (List.length a) a)<|.need (gE (aL d (ab 0 (List.length a) a) c))<|.need (di .i64 (1:Int))<|.ask (decide ((1:Int)<(2:Int)))
        (.need (fv (1:Int) 2)<|.need (aG 0 (List.length b) b)<|.need (kO (eO (ab 0 (List.length b) b) e))<|.ask (!(ji (eO (ab 0 (List.length b) b) e)))
          (.leaf (.inl (2,(dG (aL d (ab 0 (List.length a) a) c)),(dH (aL d (ab 0 (List.length a) a) c)),(dI (aL d (ab 0 (List.length a) a) c)),(dJ (aL d (ab 0 (List.length a) a) c)),(dK (aL d (ab 0 (List.length a) a) c)),f,b,0,(List.length b),e,false)))
          (.need (aG 0 (List.length b) b)<|.need (gE (aL f (ab 0 (List.length b) b) e))<|.need (di .i64 (2:Int))<|.ask (decide ((2:Int)<(2:Int)))
            (.fail)
            (.leaf (.inl (0,(dG (aL d (ab 0 (List.length a) a) c)),(dH (aL d (ab 0 (List.length a) a) c)),(dI (aL d (ab 0 (List.length a) a) c)),(dJ (aL d (ab 0 (List.length a) a) c)),(dK (aL d (ab 0 (List.length a) a) c)),(dG (aL f (ab 0 (List.length b) b) e)),(dH (aL f (ab 0 (List.length b) b) e)),(dI (aL f (ab 0 (List.length b) b) e)),(dJ (aL f (ab 0 (List.length b) b) e)),(dK (aL f (ab 0 (List.length b) b) e)),false)))))
        (.fail)))
    (.fail)
def an2(a:Lv)(b:Lv)(c:Bool)(d:List Int)(e:Nat)(f:Nat)(g:Int)(h:Bool)(i:List Int)(j:Nat)(k:Nat)(l:Int)(m:Bool) :Nat×Int×(List Int)×Nat×(List Int)×Nat→aQ:=fun (n,o,p,q,r,s)=>⟨an 97 [(2,.ptr 0 1 0 0),(3,.ptr 1 1 0 0),(4,.ptr 2 1 0 0),(7,.ptr 3 1 0 0),(8,.int .i64 ((n:Nat):Int))],[(0,.vs [.bool false c,.imm a (.ns .u64 d) 1 1 e f,.int .i64 g]),(1,.vs [.bool false h,.imm b (.ns .u64 i) 1 1 j k,.int .i64 l]),(2,.vs [.bool false m,.nsl,.int .i64 (0:Int)]),(3,.vs [.int .i64 o,.imm .free (.ns .u64 p) 1 1 0 q,.imm .free (.ns .u64 r) 1 1 0 s])],4⟩
def HG(i:Nat)(a:List Int)(b:Nat)(c:Nat)(g:Int)(d:List Int)(e:Nat)(f:Nat)(h:Int) :T ((Nat×Int×(List Int)×Nat×(List Int)×Nat)⊕(eP)) :=
  .ask (((i:Nat):Int) != (0:Int))
    (.leaf (.inr (.r0 i false ([]:List Int) 0 0 (0:Int))))
    (.need (aG b c a)<|.need (aG e f d)<|.need (se (dV (ab b c a) g (ab e f d) h))<|.leaf (.inl ((tB (dV (ab b c a) g (ab e f d) h)),(tC (dV (ab b c a) g (ab e f d) h)),(tD (dV (ab b c a) g (ab e f d) h)),(tE (dV (ab b c a) g (ab e f d) h)),(tF (dV (ab b c a) g (ab e f d) h)),(tH (dV (ab b c a) g (ab e f d) h)))))
def an3(a:Lv)(b:Lv)(c:Bool)(d:List Int)(e:Nat)(f:Nat)(g:Int)(h:Bool)(i:List Int)(j:Nat)(k:Nat)(l:Int)(m:Bool)(n:Int)(o:List Int)(p:Nat)(q:List Int)(r:Nat)(_:Unit) :aQ:=⟨an 97 [(2,.ptr 0 1 0 0),(3,.ptr 1 1 0 0),(4,.ptr 2 1 0 0),(7,.ptr 3 1 0 0),(9,.fn (.func rt) [] [.ptr 3 1 0 0])],[(0,.vs [.bool false c,.imm a (.ns .u64 d) 1 1 e f,.int .i64 g]),(1,.vs [.bool false h,.imm b (.ns .u64 i) 1 1 j k,.int .i64 l]),(2,.vs [.bool false m,.nsl,.int .i64 (0:Int)]),(3,.vs [.int .i64 n,.imm .free (.ns .u64 o) 1 1 0 p,.imm .free (.ns .u64 q) 1 1 0 r])],4⟩
def vF(e:Bool)(h:Bool)(g:Nat)(f:Int)(a:List Int)(b:Nat)(c:List Int)(d:Nat) :T ((Unit)⊕(eP)) :=
  .ask (((g:Nat):Int) != (0:Int))
    (.leaf (.inr (.r0 g false ([]:List Int) 0 0 (0:Int))))
    (.ask (e==h)
      (.need (aG 0 b a)<|.need (aG 0 d c)<|.need (Bz (cI (ab 0 b a) (ab 0 d c)))<|.need (aG (jm (cI (ab 0 b a) (ab 0 d c))) (jn (cI (ab 0 b a) (ab 0 d c))) (jo (cI (ab 0 b a) (ab 0 d c))))<|.need (aG 0 b a)<|.need (aG 0 d c)<|.need (p6 (cL e (ab (jm (cI (ab 0 b a) (ab 0 d c))) (jn (cI (ab 0 b a) (ab 0 d c))) (jo (cI (ab 0 b a) (ab 0 d c)))) (((kD (cI (ab 0 b a) (ab 0 d c))):Nat):Int) f))<|.leaf (.inr (.r0 (pD (cL e (ab (jm (cI (ab 0 b a) (ab 0 d c))) (jn (cI (ab 0 b a) (ab 0 d c))) (jo (cI (ab 0 b a) (ab 0 d c)))) (((kD (cI (ab 0 b a) (ab 0 d c))):Nat):Int) f)) (pE (cL e (ab (jm (cI (ab 0 b a) (ab 0 d c))) (jn (cI (ab 0 b a) (ab 0 d c))) (jo (cI (ab 0 b a) (ab 0 d c)))) (((kD (cI (ab 0 b a) (ab 0 d c))):Nat):Int) f)) (pF (cL e (ab (jm (cI (ab 0 b a) (ab 0 d c))) (jn (cI (ab 0 b a) (ab 0 d c))) (jo (cI (ab 0 b a) (ab 0 d c)))) (((kD (cI (ab 0 b a) (ab 0 d c))):Nat):Int) f)) (pG (cL e (ab (jm (cI (ab 0 b a) (ab 0 d c))) (jn (cI (ab 0 b a) (ab 0 d c))) (jo (cI (ab 0 b a) (ab 0 d c)))) (((kD (cI (ab 0 b a) (ab 0 d c))):Nat):Int) f)) (pH (cL e (ab (jm (cI (ab 0 b a) (ab 0 d c))) (jn (cI (ab 0 b a) (ab 0 d c))) (jo (cI (ab 0 b a) (ab 0 d c)))) (((kD (cI (ab 0 b a) (ab 0 d c))):Nat):Int) f)) (pI (cL e (ab (jm (cI (ab 0 b a) (ab 0 d c))) (jn (cI (ab 0 b a) (ab 0 d c))) (jo (cI (ab 0 b a) (ab 0 d c)))) (((kD (cI (ab 0 b a) (ab 0 d c))):Nat):Int) f)))))
      (.leaf (.inl ())))
def an4(a:Lv)(b:Lv)(c:Bool)(d:List Int)(e:Nat)(f:Nat)(g:Int)(h:Bool)(i:List Int)(j:Nat)(k:Nat)(l:Int)(m:Bool)(n:Int)(o:List Int)(p:Nat)(q:List Int)(r:Nat)(s:Int) :aQ:=⟨an 97 [(2,.ptr 0 1 0 0),(3,.ptr 1 1 0 0),(4,.ptr 2 1 0 0),(7,.ptr 3 1 0 0),(9,.fn (.func rt) [] [.ptr 3 1 0 0]),(12,.int .i64 s)],[(0,.vs [.bool false c,.imm a (.ns .u64 d) 1 1 e f,.int .i64 g]),(1,.vs [.bool false h,.imm b (.ns .u64 i) 1 1 j k,.int .i64 l]),(2,.vs [.bool false m,.nsl,.int .i64 (0:Int)]),(3,.vs [.int .i64 n,.imm .free (.ns .u64 o) 1 1 0 p,.imm .free (.ns .u64 q) 1 1 0 r])],4⟩
def HH(a:List Int)(b:Nat)(c:List Int)(d:Nat) :T ((Int)⊕(eP)) :=
  .need (aG 0 b a)<|.need (aG 0 d c)<|.need (By (xn (ab 0 b a) (ab 0 d c)))<|.leaf (.inl (AI (xn (ab 0 b a) (ab 0 d c))))
def an5(a:Lv)(b:Bool)(c:List Int)(d:Nat)(e:Nat)(f:Int)(g:Bool)(h:Int)(i:List Int)(j:Nat)(k:List Int)(l:Nat)(_:Unit) :aQ:=⟨an 97 [(2,.ptr 0 1 0 0),(4,.ptr 1 1 0 0),(7,.ptr 2 1 0 0),(9,.fn (.func rt) [] [.ptr 2 1 0 0])],[(0,.vs [.bool false b,.imm a (.ns .u64 c) 1 1 d e,.int .i64 f]),(1,.vs [.bool false g,.nsl,.int .i64 (0:Int)]),(2,.vs [.int .i64 h,.imm .free (.ns .u64 i) 1 1 0 j,.imm .free (.ns .u64 k) 1 1 0 l])],3⟩
def HI(e:Bool)(f:Int)(a:List Int)(b:Nat)(c:List Int)(d:Nat)(g:Int) :T ((Unit)⊕(eP)) :=
  .ask (decide (g<(0:Int)))
    (.need (aG 0 d c)<|.need (aG 0 b a)<|.need (xp (cm (ab 0 d c) (ab 0 b a)))<|.need (aG (iB (cm (ab 0 d c) (ab 0 b a))) (iC (cm (ab 0 d c) (ab 0 b a))) (iA (cm (ab 0 d c) (ab 0 b a))))<|.need (aG 0 b a)<|.need (aG 0 d c)<|.need (p6 (cL e (ab (iB (cm (ab 0 d c) (ab 0 b a))) (iC (cm (ab 0 d c) (ab 0 b a))) (iA (cm (ab 0 d c) (ab 0 b a)))) (((jp (cm (ab 0 d c) (ab 0 b a))):Nat):Int) f))<|.leaf (.inr (.r0 (pD (cL e (ab (iB (cm (ab 0 d c) (ab 0 b a))) (iC (cm (ab 0 d c) (ab 0 b a))) (iA (cm (ab 0 d c) (ab 0 b a)))) (((jp (cm (ab 0 d c) (ab 0 b a))):Nat):Int) f)) (pE (cL e (ab (iB (cm (ab 0 d c) (ab 0 b a))) (iC (cm (ab 0 d c) (ab 0 b a))) (iA (cm (ab 0 d c) (ab 0 b a)))) (((jp (cm (ab 0 d c) (ab 0 b a))):Nat):Int) f)) (pF (cL e (ab (iB (cm (ab 0 d c) (ab 0 b a))) (iC (cm (ab 0 d c) (ab 0 b a))) (iA (cm (ab 0 d c) (ab 0 b a)))) (((jp (cm (ab 0 d c) (ab 0 b a))):Nat):Int) f)) (pG (cL e (ab (iB (cm (ab 0 d c) (ab 0 b a))) (iC (cm (ab 0 d c) (ab 0 b a))) (iA (cm (ab 0 d c) (ab 0 b a)))) (((jp (cm (ab 0 d c) (ab 0 b a))):Nat):Int) f)) (pH (cL e (ab (iB (cm (ab 0 d c) (ab 0 b a))) (iC (cm (ab 0 d c) (ab 0 b a))) (iA (cm (ab 0 d c) (ab 0 b a)))) (((jp (cm (ab 0 d c) (ab 0 b a))):Nat):Int) f)) (pI (cL e (ab (iB (cm (ab 0 d c) (ab 0 b a))) (iC (cm (ab 0 d c) (ab 0 b a))) (iA (cm (ab 0 d c) (ab 0 b a)))) (((jp (cm (ab 0 d c) (ab 0 b a))):Nat):Int) f)))))
    (.leaf (.inl ()))
def an6(a:Lv)(b:Bool)(c:List Int)(d:Nat)(e:Nat)(f:Int)(g:Bool)(h:Int)(i:List Int)(j:Nat)(k:List Int)(l:Nat) :Nat×(List Int)×Nat×Nat→aQ:=fun (m,n,o,p)=>⟨an 97 [(2,.ptr 0 1 0 0),(4,.ptr 1 1 0 0),(8,.int .i64 ((m:Nat):Int)),(9,.fn (.func rt) [] [.ptr 2 1 0 0]),(16,.imm .free (.ns .u64 n) 1 1 o p)],[(0,.vs [.bool false b,.imm a (.ns .u64 c) 1 1 d e,.int .i64 f]),(1,.vs [.bool false g,.nsl,.int .i64 (0:Int)]),(2,.vs [.int .i64 h,.imm .free (.ns .u64 i) 1 1 0 j,.imm .free (.ns .u64 k) 1 1 0 l])],3⟩
def HJ(a:List Int)(b:Nat)(c:List Int)(d:Nat) :T ((Nat×(List Int)×Nat×Nat)⊕(eP)) :=
  .need (aG 0 b a)<|.need (aG 0 d c)<|.need (xp (cm (ab 0 b a) (ab 0 d c)))<|.leaf (.inl ((jp (cm (ab 0 b a) (ab 0 d c))),(iA (cm (ab 0 b a) (ab 0 d c))),(iB (cm (ab 0 b a) (ab 0 d c))),(iC (cm (ab 0 b a) (ab 0 d c)))))
def an7:Nat×Bool×(List Int)×Nat×Nat×Int→aQ:=fun (a,b,c,d,e,f)=>⟨an 97 [(4,.ptr 0 1 0 0),(5,.int .i64 ((a:Nat):Int))],[(0,.vs [.bool false b,.imm .free (.ns .u64 c) 1 1 d e,.int .i64 f])],1⟩
def HK(d:Bool)(e:Int)(g:List Int)(h:Nat)(i:List Int)(j:Nat)(f:Nat)(a:List Int)(b:Nat)(c:Nat) :T ((Nat×Bool×(List Int)×Nat×Nat×Int)⊕(eP)) :=
  .need (aG b c a)<|.need (aG 0 h g)<|.need (aG 0 j i)<|.need (p6 (cL d (ab b c a) ((f:Nat):Int) e))<|.leaf (.inl ((pD (cL d (ab b c a) ((f:Nat):Int) e)),(pE (cL d (ab b c a) ((f:Nat):Int) e)),(pF (cL d (ab b c a) ((f:Nat):Int) e)),(pG (cL d (ab b c a) ((f:Nat):Int) e)),(pH (cL d (ab b c a) ((f:Nat):Int) e)),(pI (cL d (ab b c a) ((f:Nat):Int) e))))
def ajb(a:Nat)(b:Bool)(c:List Int)(d:Nat)(e:Nat)(f:Int) :T ((Empty)⊕(eP)) :=
  .leaf (.inr (.r0 a b c d e f))
def dp(h:Bool)(i:List Int)(j:Int)(k:Bool)(l:List Int)(m:Int) :Option eP:=jM (aC ((Kl h i j k l m).run) fun (n,f,o,p,q,r,g,s,t,u,v,I) =>
  aC ((HG n o p q r s t u v).run) fun (w,e,a,b,c,d) =>
  aC ((vF f g w e a b c d).run) fun _ =>
  aC ((HH a b c d).run) fun x =>
  aC ((HI g e a b c d x).run) fun _ =>
  aC ((HJ a b c d).run) fun (y,z,A,B) =>
  aC ((HK f e a b c d y z A B).run) fun (C,D,E,F,G,H) =>
  (ajb C D E F G H).run)
theorem an8(v:Bool)(a:Lv)(o:List Int)(w:Int)(y:Bool)(b:Lv)(p:List Int)(z:Int){x:eP}(h:dp v o w y p z=some x) :ay prog Oy [] [.agg [.bool false v,.imm a (.ns .u64 o) 1 1 0 (List.length o),.int .i64 w],.agg [.bool false y,.imm b (.ns .u64 p) 1 1 0 (List.length p),.int .i64 z]] (O2 x) :=
  kf true O2 ZF h (Sg.cut 2 qJ (bj iD (an1 a b) [⟨[],[0,16,32],[2,3,4,6]⟩,⟨[(.cell 0 1,.lev a)],[0,16,32],[2,3,4,6]⟩,⟨[(.cell 0 1,.lev a),(.cell 16 1,.lev b)],[0,16,32],[2,3,4,6]⟩]) (fun ⟨G,c,d,e,f,g,q,r,s,t,u,i⟩=>Sg.cut 3 qJ (bj iD (an2 a b c d e f g q r s t u i) [⟨[(.cell 2 1,.fre 1 1 (.ns .u64 ([]:List Int)))],[2],[4,5]⟩,⟨[],[0,1,2,131],[2,3,4,7,8]⟩]) (fun ⟨H,j,k,l,m,n⟩=>Sg.cut 5 qJ (bj iD (an3 a b c d e f g q r s t u i j k l m n) [⟨[(.cell 2 1,.fre 1 1 (.ns .u64 ([]:List Int)))],[2],[4,5]⟩,⟨[],[2],[4,5]⟩,⟨[],[0,1,2,3],[2,3,4,7,9]⟩]) (fun _=>Sg.cut 1 qJ (bj iD (an4 a b c d e f g q r s t u i j k l m n) [⟨[],[0,1,2,3],[2,3,4,7,9,12]⟩]) (fun I=>Sg.cut 2 qJ (bj iD (an5 a c d e f g i j k l m n) [⟨[],[2],[4,5]⟩,⟨[],[0,2,3],[2,4,7,9]⟩]) (fun _=>Sg.cut 1 qJ (bj iD (an6 a c d e f g i j k l m n) [⟨[],[0,1,2],[2,4,8,9,16]⟩]) (fun ⟨J,K,L,M⟩=>Sg.cut 1 qJ (bj iD an7 [⟨[],[1],[4,5]⟩]) (fun ⟨N,O,P,Q,R,S⟩=>bj iD _ [⟨[],[0],[4,5]⟩]))))))))
    (fun x=>by cases x with | r0 A B C D E F=>exact jN [.agg [.bool false B,.imm .free (.ns .u64 C) 1 1 D E,.int .i64 F],.int .i64 ((A:Nat):Int)])
def zf:Option eP→Bool
  | some _=>true
  | none=>false
def p7:Option eP→Nat
  | some (.r0 x _ _ _ _ _)=>x
  | _=>0
def sf:Option eP→Bool
  | some (.r0 _ x _ _ _ _)=>x
  | _=>false
def sh:Option eP→List Int
  | some (.r0 _ _ x _ _ _)=>x
  | _=>[]
def si:Option eP→Nat
  | some (.r0 _ _ _ x _ _)=>x
  | _=>0
def sj:Option eP→Nat
  | some (.r0 _ _ _ _ x _)=>x
  | _=>0
def sk:Option eP→Int
  | some (.r0 _ _ _ _ _ x)=>x
  | _=>0
theorem an9{x:Option eP}(h:zf x=true) :x=some (.r0 (p7 x) (sf x) (sh x) (si x) (sj x) (sk x)):=by
  unfold zf at h
  split at h<;>first | rfl | (cases h;done) | (rename_i y;cases y;rfl)
def ZG:aM:=bK Oy (.cons (.agg (.cons .bool (.cons (.ns .u64) (.cons (.int .i64) .nil)))) (.cons (.agg (.cons .bool (.cons (.ns .u64) (.cons (.int .i64) .nil)))) .nil)) fun t=>(fun q=>[⟨O2 (.r0 (p7 q) (sf q) (sh q) (si q) (sj q) (sk q)),[zf q]⟩]) (dp t.1.1 t.1.2.1.2 t.1.2.2.1 t.2.1.1 t.2.1.2.1.2 t.2.1.2.2.1)
theorem ac4:aY prog ZG:=aR fun t=>(aS (fun h=>an8 t.1.1 t.1.2.1.1 t.1.2.1.2 t.1.2.2.1 t.2.1.1 t.2.1.2.1.1 t.2.1.2.1.2 t.2.1.2.2.1 (an9 h)) bc)
def ZH:List aM:=ZG::Q3
theorem sm:be prog (bh ZH):=ax ac4 iD
inductive gN where
  | r0 (a:Nat) (b:Bool) (c:List Int) (d:Nat) (e:Nat) (f:Int)
def ZI:gN→AE×aQ
  | .r0 a b c d e f=>(.ret,⟨an 41 [(4,.ptr 0 1 0 0),(5,.int .i64 ((a:Nat):Int))],[(0,.vs [.bool false b,.imm .free (.ns .u64 c) 1 1 d e,.int .i64 f])],1⟩)
theorem Km:jJ ZI:=by intro x;cases x<;>(intro h;cases h)
def O3:gN→gM
  | .r0 a b c d e f=>⟨.tup [.agg [.bool false b,.imm .free (.ns .u64 c) 1 1 d e,.int .i64 f],.int .i64 ((a:Nat):Int)],[]⟩
def aoa(a:Lv)(b:Lv) :Nat×Bool×(List Int)×Nat×Nat×Int×Bool×(List Int)×Nat×Nat×Int×Bool→aQ:=fun (c,d,e,f,g,h,i,j,k,l,m,n)=>⟨an 41 [(2,.ptr 0 1 0 0),(3,.ptr 1 1 0 0),(4,.ptr 2 1 0 0),(6,.int .i64 ((c:Nat):Int))],[(0,.vs [.bool false d,.imm a (.ns .u64 e) 1 1 f g,.int .i64 h]),(1,.vs [.bool false i,.imm b (.ns .u64 j) 1 1 k l,.int .i64 m]),(2,.vs [.bool false n,.nsl,.int .i64 (0:Int)])],3⟩
def Vn(d : Bool)(a : List Int)(c : Int)(f : Bool)(b : List Int)(e : Int) : T ((Nat × Bool × (List Int) × Nat × Nat × Int × Bool × (List Int) × Nat × Nat × Int × Bool) ⊕ (gN)) :=
  .ask (decide ((0:Int)<(2:Int)))
    (.need (fv (0:Int) 2)<|.need (aG 0 (List.length a) a)<|.need (kO (eO (ab 0 (List.length a) a) c))<|.ask (!(ji (eO (ab 0 (List.length a) a) c)))
      (.leaf (.inl (2,d,a,0,(List.length a),c,f,b,0,(List.length b),e,false)))
      (.need (aG 0 (List.length a) a)<|.need (gE (aL d (ab 0 (List.length a) a) c))<|.need (di .i64 (1:Int))<|.ask (decide ((1:Int)<(2:Int)))
        (.need (fv (1:Int) 2)<|.need (aG 0 (List.length b) b)<|.need (kO (eO (ab 0 (List.length b) b) e))<|.ask (!(ji (eO (ab 0 (List.length b) b) e)))
          (.leaf (.inl (2,(dG (aL d (ab 0 (List.length a) a) c)),(dH (aL d (ab 0 (List.length a) a) c)),(dI (aL d (ab 0 (List.length a) a) c)),(dJ (aL d (ab 0 (List.length a) a) c)),(dK (aL d (ab 0 (List.length a) a) c)),f,b,0,(List.length b),e,false)))
          (.need (aG 0 (List.length b) b)<|.need (gE (aL f (ab 0 (List.length b) b) e))<|.need (di .i64 (2:Int))<|.ask (decide ((2:Int)<(2:Int)))
            (.fail)
            (.leaf (.inl (0,(dG (aL d (ab 0 (List.length a) a) c)),(dH (aL d (ab 0 (List.length a) a) c)),(dI (aL d (ab 0 (List.length a) a) c)),(dJ (aL d (ab 0 (List.length a) a) c)),(dK (aL d (ab 0 (List.length a) a) c)),(dG (aL f (ab 0 (List.length b) b) e)),(dH (aL f (ab 0 (List.length b) b) e)),(dI (aL f (ab 0 (List.length b) b) e)),(dJ (aL f (ab 0 (List.length b) b) e)),(dK (aL f (ab 0 (List.length b) b) e)),false)))))
        (.fail)))
    (.fail)
def aob(a:Lv)(b:Lv)(c:Bool)(d:List Int)(e:Nat)(f:Nat)(g:Int)(h:Bool)(i:List Int)(j:Nat)(k:Nat)(l:Int)(m:Bool) :(List Int)×Nat×Nat×Nat→aQ:=fun (n,o,p,q)=>⟨an 41 [(2,.ptr 0 1 0 0),(3,.ptr 1 1 0 0),(4,.ptr 2 1 0 0),(7,.imm .free (.ns .u64 n) 1 1 o p),(8,.int .i64 ((q:Nat):Int))],[(0,.vs [.bool false c,.imm a (.ns .u64 d) 1 1 e f,.int .i64 g]),(1,.vs [.bool false h,.imm b (.ns .u64 i) 1 1 j k,.int .i64 l]),(2,.vs [.bool false m,.nsl,.int .i64 (0:Int)])],3⟩
def Kn(g:Nat)(a:List Int)(b:Nat)(c:Nat)(d:List Int)(e:Nat)(f:Nat) :T (((List Int)×Nat×Nat×Nat)⊕(gN)) :=
  .ask (((g:Nat):Int) != (0:Int))
    (.leaf (.inr (.r0 g false ([]:List Int) 0 0 (0:Int))))
    (.need (aG b c a)<|.need (aG e f d)<|.need (Hj (uS (ab b c a) (ab e f d)))<|.leaf (.inl ((Hn (uS (ab b c a) (ab e f d))),(Hk (uS (ab b c a) (ab e f d))),(Hl (uS (ab b c a) (ab e f d))),(Hm (uS (ab b c a) (ab e f d))))))
def aoc:Nat×Bool×(List Int)×Nat×Nat×Int→aQ:=fun (a,b,c,d,e,f)=>⟨an 41 [(4,.ptr 0 1 0 0),(5,.int .i64 ((a:Nat):Int))],[(0,.vs [.bool false b,.imm .free (.ns .u64 c) 1 1 d e,.int .i64 f])],1⟩
def Ko(f:Bool)(a:Int)(g:Bool)(b:Int)(c:List Int)(d:Nat)(e:Nat)(h:Nat) :T ((Nat×Bool×(List Int)×Nat×Nat×Int)⊕(gN)) :=
  .ask (((h:Nat):Int) != (0:Int))
    (.leaf (.inr (.r0 3 false ([]:List Int) 0 0 (0:Int))))
    (.need (di .i64 (a+b))<|.need (aG d e c)<|.need (rB (cX (!(f==g)) (ab d e c) (a+b)))<|.leaf (.inl ((qD (cX (!(f==g)) (ab d e c) (a+b))),(qE (cX (!(f==g)) (ab d e c) (a+b))),(qF (cX (!(f==g)) (ab d e c) (a+b))),(qG (cX (!(f==g)) (ab d e c) (a+b))),(qH (cX (!(f==g)) (ab d e c) (a+b))),(qI (cX (!(f==g)) (ab d e c) (a+b))))))
def aod(a:Nat)(b:Bool)(c:List Int)(d:Nat)(e:Nat)(f:Int) :T ((Empty)⊕(gN)) :=
  .leaf (.inr (.r0 a b c d e f))
def aD(a:Bool)(b:List Int)(c:Int)(d:Bool)(e:List Int)(f:Int) :Option gN:=jM (aC ((Vn a b c d e f).run) fun (g,h,i,j,k,l,m,n,o,p,q,B) =>
  aC ((Kn g i j k n o p).run) fun (r,s,t,u) =>
  aC ((Ko h l m q r s t u).run) fun (v,w,x,y,z,A) =>
  (aod v w x y z A).run)
theorem aoe(e:Bool)(a:Lv)(c:List Int)(f:Int)(g:Bool)(b:Lv)(d:List Int)(i:Int){x:gN}(h:aD e c f g d i=some x) :ay prog Ox [] [.agg [.bool false e,.imm a (.ns .u64 c) 1 1 0 (List.length c),.int .i64 f],.agg [.bool false g,.imm b (.ns .u64 d) 1 1 0 (List.length d),.int .i64 i]] (O3 x) :=
  kf true O3 ZI h (Sg.cut 2 Km (bj sm (aoa a b) [⟨[],[0,16,32],[2,3,4,6]⟩,⟨[(.cell 0 1,.lev a)],[0,16,32],[2,3,4,6]⟩,⟨[(.cell 0 1,.lev a),(.cell 16 1,.lev b)],[0,16,32],[2,3,4,6]⟩]) (fun ⟨B,j,k,l,m,n,o,p,q,r,s,t⟩=>Sg.cut 3 Km (bj sm (aob a b j k l m n o p q r s t) [⟨[(.cell 2 1,.fre 1 1 (.ns .u64 ([]:List Int)))],[2],[4,5]⟩,⟨[],[0,1,2],[2,3,4,7,8]⟩]) (fun ⟨C,D,E,F⟩=>Sg.cut 3 Km (bj sm aoc [⟨[(.cell 2 1,.fre 1 1 (.ns .u64 ([]:List Int)))],[2],[4,5]⟩,⟨[],[2],[4,5]⟩]) (fun ⟨G,H,I,J,K,L⟩=>bj sm _ [⟨[],[0],[4,5]⟩]))))
    (fun x=>by cases x with | r0 u v w y z A=>exact jN [.agg [.bool false v,.imm .free (.ns .u64 w) 1 1 y z,.int .i64 A],.int .i64 ((u:Nat):Int)])
def oS:Option gN→Bool
  | some _=>true
  | none=>false
def l5:Option gN→Nat
  | some (.r0 x _ _ _ _ _)=>x
  | _=>0
def cZ:Option gN→Bool
  | some (.r0 _ x _ _ _ _)=>x
  | _=>false
def cO:Option gN→List Int
  | some (.r0 _ _ x _ _ _)=>x
  | _=>[]
def cP:Option gN→Nat
  | some (.r0 _ _ _ x _ _)=>x
  | _=>0
def cQ:Option gN→Nat
  | some (.r0 _ _ _ _ x _)=>x
  | _=>0
def c4:Option gN→Int
  | some (.r0 _ _ _ _ _ x)=>x
  | _=>0
theorem aof{x:Option gN}(h:oS x=true) :x=some (.r0 (l5 x) (cZ x) (cO x) (cP x) (cQ x) (c4 x)):=by
  unfold oS at h
  split at h<;>first | rfl | (cases h;done) | (rename_i y;cases y;rfl)
def ZJ:aM:=bK Ox (.cons (.agg (.cons .bool (.cons (.ns .u64) (.cons (.int .i64) .nil)))) (.cons (.agg (.cons .bool (.cons (.ns .u64) (.cons (.int .i64) .nil)))) .nil)) fun t=>(fun q=>[⟨O3 (.r0 (l5 q) (cZ q) (cO q) (cP q) (cQ q) (c4 q)),[oS q]⟩]) (aD t.1.1 t.1.2.1.2 t.1.2.2.1 t.2.1.1 t.2.1.2.1.2 t.2.1.2.2.1)
theorem ac5:aY prog ZJ:=aR fun t=>(aS (fun h=>aoe t.1.1 t.1.2.1.1 t.1.2.1.2 t.1.2.2.1 t.2.1.1 t.2.1.2.1.1 t.2.1.2.1.2 t.2.1.2.2.1 (aof h)) bc)
def ZK:List aM:=ZJ::ZH
theorem MI:be prog (bh ZK):=ax ac5 sm
inductive oT where
  | r0 (a:Int)
def aog:oT→AE×aQ
  | .r0 a=>(.ret,⟨an 11 [(2,.int .i64 a)],[],0⟩)
def Kp:oT→gM
  | .r0 a=>⟨.int .i64 a,[]⟩
def Q4(a:Bool)(b:List Int) :T ((Empty)⊕(oT)) :=
  .ask ((((List.length b):Nat):Int)==(0:Int))
    (.leaf (.inr (.r0 (0:Int))))
    (.ask a
      (.leaf (.inr (.r0 (-1:Int))))
      (.leaf (.inr (.r0 (1:Int)))))
def i8(a:Bool)(b:List Int) :Option oT:=jM ((Q4 a b).run)
theorem ajc(b:Bool)(c:Lv)(a:List Int)(d:Int){x:oT}(h:i8 b a=some x) :ay prog JO [] [.agg [.bool false b,.imm c (.ns .u64 a) 1 1 0 (List.length a),.int .i64 d]] (Kp x) :=
  kf true Kp aog h (bj MI _ [⟨[],[],[2]⟩,⟨[],[],[2]⟩,⟨[],[],[2]⟩])
    (fun x=>by cases x with | r0 e=>exact jN [.int .i64 e])
def kE:Option oT→Bool
  | some _=>true
  | none=>false
def fR:Option oT→Int
  | some (.r0 x)=>x
  | _=>0
theorem ajd{x:Option oT}(h:kE x=true) :x=some (.r0 (fR x)):=by
  unfold kE at h
  split at h<;>first | rfl | (cases h;done) | (rename_i y;cases y;rfl)
def Vo:aM:=bK JO (.cons (.agg (.cons .bool (.cons (.ns .u64) (.cons (.int .i64) .nil)))) .nil) fun t=>(fun q=>[⟨Kp (.r0 (fR q)),[kE q]⟩]) (i8 t.1.1 t.1.2.1.2)
theorem ZL:aY prog Vo:=aR fun t=>(aS (fun h=>ajc t.1.1 t.1.2.1.1 t.1.2.1.2 t.1.2.2.1 (ajd h)) bc)
def Vp:List aM:=Vo::ZK
theorem oC:be prog (bh Vp):=ax ZL MI
inductive kt where
  | r0 (a:Int) (b:Nat)
def ZM:kt→AE×aQ
  | .r0 a b=>(.ret,⟨an 52 [(4,.int .i64 a),(5,.int .i64 ((b:Nat):Int))],[],0⟩)
theorem Dw:jJ ZM:=by intro x;cases x<;>(intro h;cases h)
def O4:kt→gM
  | .r0 a b=>⟨.tup [.int .i64 a,.int .i64 ((b:Nat):Int)],[]⟩
def aoh(a:Lv)(b:Lv) :Nat×Bool×(List Int)×Nat×Nat×Int×Bool×(List Int)×Nat×Nat×Int→aQ:=fun (c,d,e,f,g,h,i,j,k,l,m)=>⟨an 52 [(2,.ptr 0 1 0 0),(3,.ptr 1 1 0 0),(6,.int .i64 ((c:Nat):Int))],[(0,.vs [.bool false d,.imm a (.ns .u64 e) 1 1 f g,.int .i64 h]),(1,.vs [.bool false i,.imm b (.ns .u64 j) 1 1 k l,.int .i64 m])],2⟩
def Vq(d : Bool)(a : List Int)(c : Int)(f : Bool)(b : List Int)(e : Int) : T ((Nat × Bool × (List Int) × Nat × Nat × Int × Bool × (List Int) × Nat × Nat × Int) ⊕ (kt)) :=
  .ask (decide ((0:Int)<(2:Int)))
    (.need (fv (0:Int) 2)<|.need (aG 0 (List.length a) a)<|.need (kO (eO (ab 0 (List.length a) a) c))<|.ask (!(ji (eO (ab 0 (List.length a) a) c)))
      (.leaf (.inl (2,d,a,0,(List.length a),c,f,b,0,(List.length b),e)))
      (.need (aG 0 (List.length a) a)<|.need (gE (aL d (ab 0 (List.length a) a) c))<|.need (di .i64 (1:Int))<|.ask (decide ((1:Int)<(2:Int)))
        (.need (fv (1:Int) 2)<|.need (aG 0 (List.length b) b)<|.need (kO (eO (ab 0 (List.length b) b) e))<|.ask (!(ji (eO (ab 0 (List.length b) b) e)))
          (.leaf (.inl (2,(dG (aL d (ab 0 (List.length a) a) c)),(dH (aL d (ab 0 (List.length a) a) c)),(dI (aL d (ab 0 (List.length a) a) c)),(dJ (aL d (ab 0 (List.length a) a) c)),(dK (aL d (ab 0 (List.length a) a) c)),f,b,0,(List.length b),e)))
          (.need (aG 0 (List.length b) b)<|.need (gE (aL f (ab 0 (List.length b) b) e))<|.need (di .i64 (2:Int))<|.ask (decide ((2:Int)<(2:Int)))
            (.fail)
            (.leaf (.inl (0,(dG (aL d (ab 0 (List.length a) a) c)),(dH (aL d (ab 0 (List.length a) a) c)),(dI (aL d (ab 0 (List.length a) a) c)),(dJ (aL d (ab 0 (List.length a) a) c)),(dK (aL d (ab 0 (List.length a) a) c)),(dG (aL f (ab 0 (List.length b) b) e)),(dH (aL f (ab 0 (List.length b) b) e)),(dI (aL f (ab 0 (List.length b) b) e)),(dJ (aL f (ab 0 (List.length b) b) e)),(dK (aL f (ab 0 (List.length b) b) e)))))))
        (.fail)))
    (.fail)
def aoi(a:Lv)(b:Lv)(c:Bool)(d:List Int)(e:Nat)(f:Nat)(g:Int)(h:Bool)(i:List Int)(j:Nat)(k:Nat)(l:Int) :Nat×Int×(List Int)×Nat×(List Int)×Nat→aQ:=fun (m,n,o,p,q,r)=>⟨an 52 [(2,.ptr 0 1 0 0),(3,.ptr 1 1 0 0),(7,.ptr 2 1 0 0),(8,.int .i64 ((m:Nat):Int))],[(0,.vs [.bool false c,.imm a (.ns .u64 d) 1 1 e f,.int .i64 g]),(1,.vs [.bool false h,.imm b (.ns .u64 i) 1 1 j k,.int .i64 l]),(2,.vs [.int .i64 n,.imm .free (.ns .u64 o) 1 1 0 p,.imm .free (.ns .u64 q) 1 1 0 r])],3⟩
def Kq(i:Nat)(a:List Int)(b:Nat)(c:Nat)(g:Int)(d:List Int)(e:Nat)(f:Nat)(h:Int) :T ((Nat×Int×(List Int)×Nat×(List Int)×Nat)⊕(kt)) :=
  .ask (((i:Nat):Int) != (0:Int))
    (.leaf (.inr (.r0 (0:Int) i)))
    (.need (aG b c a)<|.need (aG e f d)<|.need (se (dV (ab b c a) g (ab e f d) h))<|.leaf (.inl ((tB (dV (ab b c a) g (ab e f d) h)),(tC (dV (ab b c a) g (ab e f d) h)),(tD (dV (ab b c a) g (ab e f d) h)),(tE (dV (ab b c a) g (ab e f d) h)),(tF (dV (ab b c a) g (ab e f d) h)),(tH (dV (ab b c a) g (ab e f d) h)))))
def aoj(a:Lv)(b:Lv)(c:Bool)(d:List Int)(e:Nat)(f:Nat)(g:Int)(h:Bool)(i:List Int)(j:Nat)(k:Nat)(l:Int)(m:Int) :aQ:=⟨an 52 [(2,.ptr 0 1 0 0),(3,.ptr 1 1 0 0),(9,.int .i64 m)],[(0,.vs [.bool false c,.imm a (.ns .u64 d) 1 1 e f,.int .i64 g]),(1,.vs [.bool false h,.imm b (.ns .u64 i) 1 1 j k,.int .i64 l])],2⟩
def Kr(e:Nat)(a:List Int)(b:Nat)(c:List Int)(d:Nat) :T ((Int)⊕(kt)) :=
  .ask (((e:Nat):Int) != (0:Int))
    (.leaf (.inr (.r0 (0:Int) e)))
    (.need (aG 0 b a)<|.need (aG 0 d c)<|.need (By (xn (ab 0 b a) (ab 0 d c)))<|.leaf (.inl (AI (xn (ab 0 b a) (ab 0 d c)))))
def aok(a:Int)(_:Unit) :aQ:=⟨an 52 [(9,.int .i64 a)],[],0⟩
def uU(g:Bool)(a:List Int)(b:Nat)(c:Nat)(h:Bool)(d:List Int)(e:Nat)(f:Nat)(i:Int) :T ((Unit)⊕(kt)) :=
  .need (aG b c a)<|.need (kE (i8 g (ab b c a)))<|.need (aG e f d)<|.need (kE (i8 h (ab e f d)))<|.ask ((fR (i8 g (ab b c a))) != (fR (i8 h (ab e f d))))
    (.need (aG b c a)<|.need (kE (i8 g (ab b c a)))<|.need (aG e f d)<|.need (kE (i8 h (ab e f d)))<|.need (di .i64 ((fR (i8 g (ab b c a)))-(fR (i8 h (ab e f d)))))<|.leaf (.inr (.r0 (mr (-1:Int) (ke (1:Int) ((fR (i8 g (ab b c a)))-(fR (i8 h (ab e f d)))))) 0)))
    (.ask g
      (.need (di .i64 ((0:Int)-i))<|.leaf (.inr (.r0 ((0:Int)-i) 0)))
      (.leaf (.inl ())))
def aje(a:Int) :T ((Empty)⊕(kt)) :=
  .leaf (.inr (.r0 a 0))
def ut(h:Bool)(i:List Int)(j:Int)(k:Bool)(l:List Int)(m:Int) :Option kt:=jM (aC ((Vq h i j k l m).run) fun (n,o,a,b,c,p,q,d,e,f,r) =>
  aC ((Kq n a b c p d e f r).run) fun (s,x,t,u,v,w) =>
  aC ((Kr s t u v w).run) fun g =>
  aC ((uU o a b c q d e f g).run) fun _ =>
  (aje g).run)
theorem aol(e:Bool)(a:Lv)(c:List Int)(f:Int)(g:Bool)(b:Lv)(d:List Int)(i:Int){x:kt}(h:ut e c f g d i=some x) :ay prog Oz [] [.agg [.bool false e,.imm a (.ns .u64 c) 1 1 0 (List.length c),.int .i64 f],.agg [.bool false g,.imm b (.ns .u64 d) 1 1 0 (List.length d),.int .i64 i]] (O4 x) :=
  kf true O4 ZM h (Sg.cut 2 Dw (bj oC (aoh a b) [⟨[],[0,16],[2,3,6]⟩,⟨[(.cell 0 1,.lev a)],[0,16],[2,3,6]⟩,⟨[(.cell 0 1,.lev a),(.cell 16 1,.lev b)],[0,16],[2,3,6]⟩]) (fun ⟨w,j,k,l,m,n,o,p,q,r,s⟩=>Sg.cut 3 Dw (bj oC (aoi a b j k l m n o p q r s) [⟨[],[],[4,5]⟩,⟨[],[0,1,130],[2,3,7,8]⟩]) (fun ⟨y,z,A,B,C,D⟩=>Sg.cut 3 Dw (bj oC (aoj a b j k l m n o p q r s) [⟨[],[],[4,5]⟩,⟨[],[0,1],[2,3,9]⟩]) (fun t=>Sg.cut 1 Dw (bj oC (aok t) [⟨[],[],[4,5]⟩,⟨[],[],[4,5]⟩,⟨[],[],[9]⟩]) (fun _=>bj oC _ [⟨[],[],[4,5]⟩])))))
    (fun x=>by cases x with | r0 u v=>exact jN [.int .i64 u,.int .i64 ((v:Nat):Int)])
def Dx:Option kt→Bool
  | some _=>true
  | none=>false
def Ef:Option kt→Int
  | some (.r0 x _)=>x
  | _=>0
def Eg:Option kt→Nat
  | some (.r0 _ x)=>x
  | _=>0
theorem aom{x:Option kt}(h:Dx x=true) :x=some (.r0 (Ef x) (Eg x)):=by
  unfold Dx at h
  split at h<;>first | rfl | (cases h;done) | (rename_i y;cases y;rfl)
def ZN:aM:=bK Oz (.cons (.agg (.cons .bool (.cons (.ns .u64) (.cons (.int .i64) .nil)))) (.cons (.agg (.cons .bool (.cons (.ns .u64) (.cons (.int .i64) .nil)))) .nil)) fun t=>(fun q=>[⟨O4 (.r0 (Ef q) (Eg q)),[Dx q]⟩]) (ut t.1.1 t.1.2.1.2 t.1.2.2.1 t.2.1.1 t.2.1.2.1.2 t.2.1.2.2.1)
theorem ac6:aY prog ZN:=aR fun t=>(aS (fun h=>aol t.1.1 t.1.2.1.1 t.1.2.1.2 t.1.2.2.1 t.2.1.1 t.2.1.2.1.1 t.2.1.2.1.2 t.2.1.2.2.1 (aom h)) bc)
def ZO:List aM:=ZN::Vp
theorem sn:be prog (bh ZO):=ax ac6 oC
inductive ez where
  | r0 (a:Nat) (b:Bool) (c:List Int) (d:Nat) (e:Nat) (f:Int)
def Q5:ez→AE×aQ
  | .r0 a b c d e f=>(.ret,⟨an 30 [(4,.ptr 0 1 0 0),(5,.int .i64 ((a:Nat):Int))],[(0,.vs [.bool false b,.imm .free (.ns .u64 c) 1 1 d e,.int .i64 f])],1⟩)
theorem Eh:jJ Q5:=by intro x;cases x<;>(intro h;cases h)
def HL:ez→gM
  | .r0 a b c d e f=>⟨.tup [.agg [.bool false b,.imm .free (.ns .u64 c) 1 1 d e,.int .i64 f],.int .i64 ((a:Nat):Int)],[]⟩
def ac7(a:Lv)(b:Int) :Nat×Bool×(List Int)×Nat×Nat×Int×Bool→aQ:=fun (c,d,e,f,g,h,i)=>⟨an 30 [(1,.int .i64 b),(2,.ptr 0 1 0 0),(4,.ptr 1 1 0 0),(6,.int .i64 ((c:Nat):Int))],[(0,.vs [.bool false d,.imm a (.ns .u64 e) 1 1 f g,.int .i64 h]),(1,.vs [.bool false i,.nsl,.int .i64 (0:Int)])],2⟩
def Ei(c:Bool)(a:List Int)(b:Int) :T ((Nat×Bool×(List Int)×Nat×Nat×Int×Bool)⊕(ez)) :=
  .ask (decide ((0:Int)<(1:Int)))
    (.need (fv (0:Int) 1)<|.need (aG 0 (List.length a) a)<|.need (kO (eO (ab 0 (List.length a) a) b))<|.ask (!(ji (eO (ab 0 (List.length a) a) b)))
      (.leaf (.inl (2,c,a,0,(List.length a),b,false)))
      (.need (aG 0 (List.length a) a)<|.need (gE (aL c (ab 0 (List.length a) a) b))<|.need (di .i64 (1:Int))<|.ask (decide ((1:Int)<(1:Int)))
        (.fail)
        (.leaf (.inl (0,(dG (aL c (ab 0 (List.length a) a) b)),(dH (aL c (ab 0 (List.length a) a) b)),(dI (aL c (ab 0 (List.length a) a) b)),(dJ (aL c (ab 0 (List.length a) a) b)),(dK (aL c (ab 0 (List.length a) a) b)),false)))))
    (.fail)
def ac8(a:Lv)(b:Int)(c:Nat)(d:Bool)(e:List Int)(f:Nat)(g:Nat)(h:Int)(i:Bool)(j:Bool) :aQ:=⟨an 30 [(1,.int .i64 b),(2,.ptr 0 1 0 0),(4,.ptr 1 1 0 0),(6,.int .i64 ((c:Nat):Int)),(16,.bool false j)],[(0,.vs [.bool false d,.imm a (.ns .u64 e) 1 1 f g,.int .i64 h]),(1,.vs [.bool false i,.nsl,.int .i64 (0:Int)])],2⟩
def ac9(a:Nat)(b:Nat) :T ((Bool)⊕(ez)) :=
  .ask (((a:Nat):Int) != (0:Int))
    (.leaf (.inl true))
    (.leaf (.inl (((b:Nat):Int)==(0:Int))))
def ada:Nat×Bool×(List Int)×Nat×Nat×Int→aQ:=fun (a,b,c,d,e,f)=>⟨an 30 [(4,.ptr 0 1 0 0),(5,.int .i64 ((a:Nat):Int))],[(0,.vs [.bool false b,.imm .free (.ns .u64 c) 1 1 d e,.int .i64 f])],1⟩
def Ej(a:Int)(g:Nat)(f:Bool)(b:List Int)(c:Nat)(d:Nat)(e:Int)(h:Bool) :T ((Nat×Bool×(List Int)×Nat×Nat×Int)⊕(ez)) :=
  .ask h
    (.leaf (.inr (.r0 g false ([]:List Int) 0 0 (0:Int))))
    (.need (di .i64 (e+(mr (-1048576:Int) (ke (1048576:Int) a))))<|.need (aG c d b)<|.need (rB (cX f (ab c d b) (e+(mr (-1048576:Int) (ke (1048576:Int) a)))))<|.leaf (.inl ((qD (cX f (ab c d b) (e+(mr (-1048576:Int) (ke (1048576:Int) a))))),(qE (cX f (ab c d b) (e+(mr (-1048576:Int) (ke (1048576:Int) a))))),(qF (cX f (ab c d b) (e+(mr (-1048576:Int) (ke (1048576:Int) a))))),(qG (cX f (ab c d b) (e+(mr (-1048576:Int) (ke (1048576:Int) a))))),(qH (cX f (ab c d b) (e+(mr (-1048576:Int) (ke (1048576:Int) a))))),(qI (cX f (ab c d b) (e+(mr (-1048576:Int) (ke (1048576:Int) a))))))))
def adb(a:Nat)(b:Bool)(c:List Int)(d:Nat)(e:Nat)(f:Int) :T ((Empty)⊕(ez)) :=
  .leaf (.inr (.r0 a b c d e f))
def kF(c:Bool)(d:List Int)(e:Int)(f:Int) :Option ez:=jM (aC ((Ei c d e).run) fun (a,g,h,i,b,j,r) =>
  aC ((ac9 a b).run) fun k =>
  aC ((Ej f a g h i b j k).run) fun (l,m,n,o,p,q) =>
  (adb l m n o p q).run)
theorem adc(d:Bool)(a:Lv)(c:List Int)(e:Int)(b:Int){x:ez}(h:kF d c e b=some x) :ay prog GY [] [.agg [.bool false d,.imm a (.ns .u64 c) 1 1 0 (List.length c),.int .i64 e],.int .i64 b] (HL x) :=
  kf true HL Q5 h (Sg.cut 2 Eh (bj sn (ac7 a b) [⟨[],[0,16],[1,2,4,6]⟩,⟨[(.cell 0 1,.lev a)],[0,16],[1,2,4,6]⟩]) (fun ⟨f,g,i,j,k,l,m⟩=>Sg.cut 1 Eh (bj sn (ac8 a b f g i j k l m) [⟨[],[0,1],[1,2,4,6,16]⟩,⟨[],[0,1],[1,2,4,6,16]⟩]) (fun t=>Sg.cut 3 Eh (bj sn ada [⟨[(.cell 1 1,.fre 1 1 (.ns .u64 ([]:List Int)))],[1],[4,5]⟩,⟨[],[1],[4,5]⟩]) (fun ⟨u,v,w,y,z,A⟩=>bj sn _ [⟨[],[0],[4,5]⟩]))))
    (fun x=>by cases x with | r0 n o p q r s=>exact jN [.agg [.bool false o,.imm .free (.ns .u64 p) 1 1 q r,.int .i64 s],.int .i64 ((n:Nat):Int)])
def yB:Option ez→Bool
  | some _=>true
  | none=>false
def zA:Option ez→Nat
  | some (.r0 x _ _ _ _ _)=>x
  | _=>0
def zB:Option ez→Bool
  | some (.r0 _ x _ _ _ _)=>x
  | _=>false
def zC:Option ez→List Int
  | some (.r0 _ _ x _ _ _)=>x
  | _=>[]
def zD:Option ez→Nat
  | some (.r0 _ _ _ x _ _)=>x
  | _=>0
def zE:Option ez→Nat
  | some (.r0 _ _ _ _ x _)=>x
  | _=>0
def zF:Option ez→Int
  | some (.r0 _ _ _ _ _ x)=>x
  | _=>0
theorem ade{x:Option ez}(h:yB x=true) :x=some (.r0 (zA x) (zB x) (zC x) (zD x) (zE x) (zF x)):=by
  unfold yB at h
  split at h<;>first | rfl | (cases h;done) | (rename_i y;cases y;rfl)
def Q6:aM:=bK GY (.cons (.agg (.cons .bool (.cons (.ns .u64) (.cons (.int .i64) .nil)))) (.cons (.int .i64) .nil)) fun t=>(fun q=>[⟨HL (.r0 (zA q) (zB q) (zC q) (zD q) (zE q) (zF q)),[yB q]⟩]) (kF t.1.1 t.1.2.1.2 t.1.2.2.1 t.2.1)
theorem WH:aY prog Q6:=aR fun t=>(aS (fun h=>adc t.1.1 t.1.2.1.1 t.1.2.1.2 t.1.2.2.1 t.2.1 (ade h)) bc)
def Q7:List aM:=Q6::ZO
theorem tJ:be prog (bh Q7):=ax WH sn
inductive fE where
  | r0 (a:Bool) (b:List Int) (c:Nat) (d:Nat) (e:Int)
def Q8:fE→AE×aQ
  | .r0 a b c d e=>(.ret,⟨an 16 [(2,.ptr 0 1 0 0)],[(0,.vs [.bool false a,.imm .free (.ns .u64 b) 1 1 c d,.int .i64 e])],1⟩)
theorem MJ:jJ Q8:=by intro x;cases x<;>(intro h;cases h)
def HM:fE→gM
  | .r0 a b c d e=>⟨.agg [.bool false a,.imm .free (.ns .u64 b) 1 1 c d,.int .i64 e],[]⟩
def adf(a:Int) :Int×Bool→aQ:=fun (b,c)=>⟨an 16 [(0,.int .i64 a),(2,.ptr 0 1 0 0),(3,.int .u64 b)],[(0,.vs [.bool false c,.nsl,.int .i64 (0:Int)])],1⟩
def MK(a:Int) :T ((Int×Bool)⊕(fE)) :=
  .ask (decide (a<(0:Int)))
    (.leaf (.inl ((IntKind.u64.wrap ((0:Int)-(IntKind.u64.wrap a))),false)))
    (.leaf (.inl ((IntKind.u64.wrap a),false)))
def adg:Bool×(List Int)×Nat×Nat×Int→aQ:=fun (a,b,c,d,e)=>⟨an 16 [(2,.ptr 0 1 0 0)],[(0,.vs [.bool false a,.imm .free (.ns .u64 b) 1 1 c d,.int .i64 e])],1⟩
def Ek(b:Int)(a:Int) :T ((Bool×(List Int)×Nat×Nat×Int)⊕(fE)) :=
  .need (xj (ck a))<|.need (aG (em (ck a)) (er (ck a)) (eu (ck a)))<|.need (gE (aL (decide (b<(0:Int))) (ab (em (ck a)) (er (ck a)) (eu (ck a))) (0:Int)))<|.leaf (.inl ((dG (aL (decide (b<(0:Int))) (ab (em (ck a)) (er (ck a)) (eu (ck a))) (0:Int))),(dH (aL (decide (b<(0:Int))) (ab (em (ck a)) (er (ck a)) (eu (ck a))) (0:Int))),(dI (aL (decide (b<(0:Int))) (ab (em (ck a)) (er (ck a)) (eu (ck a))) (0:Int))),(dJ (aL (decide (b<(0:Int))) (ab (em (ck a)) (er (ck a)) (eu (ck a))) (0:Int))),(dK (aL (decide (b<(0:Int))) (ab (em (ck a)) (er (ck a)) (eu (ck a))) (0:Int)))))
def adh(a:Bool)(b:List Int)(c:Nat)(d:Nat)(e:Int) :T ((Empty)⊕(fE)) :=
  .leaf (.inr (.r0 a b c d e))
def bo(a:Int) :Option fE:=jM (aC ((MK a).run) fun (b,h) =>
  aC ((Ek a b).run) fun (c,d,e,f,g) =>
  (adh c d e f g).run)
theorem adi(a:Int){x:fE}(h:bo a=some x) :ay prog GT [] [.int .i64 a] (HM x) :=
  kf true HM Q8 h (Sg.cut 4 MJ (bj tJ (adf a) [⟨[],[0],[0,2,3]⟩,⟨[],[0],[0,2,3]⟩]) (fun ⟨g,i⟩=>Sg.cut 1 MJ (bj tJ adg [⟨[],[0],[2]⟩]) (fun ⟨j,k,l,m,n⟩=>bj tJ _ [⟨[],[0],[2]⟩])))
    (fun x=>by cases x with | r0 b c d e f=>exact jN [.agg [.bool false b,.imm .free (.ns .u64 c) 1 1 d e,.int .i64 f]])
def l6:Option fE→Bool
  | some _=>true
  | none=>false
def iE:Option fE→Bool
  | some (.r0 x _ _ _ _)=>x
  | _=>false
def gk:Option fE→List Int
  | some (.r0 _ x _ _ _)=>x
  | _=>[]
def gn:Option fE→Nat
  | some (.r0 _ _ x _ _)=>x
  | _=>0
def gp:Option fE→Nat
  | some (.r0 _ _ _ x _)=>x
  | _=>0
def iF:Option fE→Int
  | some (.r0 _ _ _ _ x)=>x
  | _=>0
theorem adj{x:Option fE}(h:l6 x=true) :x=some (.r0 (iE x) (gk x) (gn x) (gp x) (iF x)):=by
  unfold l6 at h
  split at h<;>first | rfl | (cases h;done) | (rename_i y;cases y;rfl)
def Q9:aM:=bK GT (.cons (.int .i64) .nil) fun t=>(fun q=>[⟨HM (.r0 (iE q) (gk q) (gn q) (gp q) (iF q)),[l6 q]⟩]) (bo t.1)
theorem WI:aY prog Q9:=aR fun t=>(aS (fun h=>adi t.1 (adj h)) bc)
def Ra:List aM:=Q9::Q7
theorem zG:be prog (bh Ra):=ax WI tJ
inductive lM where
  | r0 (a:Nat)
def Rb:lM→AE×aQ
  | .r0 a=>(.ret,⟨an 26 [(2,.int .i64 ((a:Nat):Int))],[],0⟩)
theorem adk:jJ Rb:=by intro x;cases x<;>(intro h;cases h)
def HN:lM→gM
  | .r0 a=>⟨.int .i64 ((a:Nat):Int),[]⟩
def adl(_:Unit) :aQ:=⟨an 26 [],[],0⟩
def yC(a : Int) : T ((Unit) ⊕ (lM)) :=
  .need (decide ((0:Int)≤(52:Int)))<|.ask ((fc .and .u64 (Int.fdiv a (2^(min (Int.toNat (52:Int)) (IntKind.u64.bits)))) (2047:Int))==(2047:Int))
    (.ask ((fc .and .u64 a (4503599627370495:Int)) != (0:Int))
      (.leaf (.inr (.r0 5)))
      (.ask ((fc .and .u64 (Int.fdiv a (2^(min (Int.toNat (52:Int)) (IntKind.u64.bits)))) (2047:Int))==(2047:Int))
        (.leaf (.inr (.r0 4)))
        (.ask ((fc .and .u64 (Int.fdiv a (2^(min (Int.toNat (52:Int)) (IntKind.u64.bits)))) (2047:Int)) != (0:Int))
          (.leaf (.inr (.r0 3)))
          (.ask ((fc .and .u64 a (4503599627370495:Int)) != (0:Int))
            (.leaf (.inr (.r0 2)))
            (.leaf (.inl ()))))))
    (.ask ((fc .and .u64 (Int.fdiv a (2^(min (Int.toNat (52:Int)) (IntKind.u64.bits)))) (2047:Int))==(2047:Int))
      (.leaf (.inr (.r0 4)))
      (.ask ((fc .and .u64 (Int.fdiv a (2^(min (Int.toNat (52:Int)) (IntKind.u64.bits)))) (2047:Int)) != (0:Int))
        (.leaf (.inr (.r0 3)))
        (.ask ((fc .and .u64 a (4503599627370495:Int)) != (0:Int))
          (.leaf (.inr (.r0 2)))
          (.leaf (.inl ())))))
def adm:T ((Empty)⊕(lM)) :=
  .leaf (.inr (.r0 1))
def vG(a:Int) :Option lM:=jM (aC ((yC a).run) fun _ =>
  (adm).run)
theorem adn(a:Int){x:lM}(h:vG a=some x) :ay prog Qx [] [.int .u64 a] (HN x) :=
  kf false HN Rb h (Sg.cut 3 adk (bj zG adl [⟨[],[],[2]⟩,⟨[],[],[2]⟩,⟨[],[],[2]⟩,⟨[],[],[2]⟩,⟨[],[],[]⟩,⟨[],[],[2]⟩,⟨[],[],[2]⟩,⟨[],[],[2]⟩,⟨[],[],[]⟩]) (fun _=>bj zG _ [⟨[],[],[2]⟩]))
    (fun x=>by cases x with | r0 b=>exact jN [.int .i64 ((b:Nat):Int)])
def yD:Option lM→Bool
  | some _=>true
  | none=>false
def zH:Option lM→Nat
  | some (.r0 x)=>x
  | _=>0
theorem ado{x:Option lM}(h:yD x=true) :x=some (.r0 (zH x)):=by
  unfold yD at h
  split at h<;>first | rfl | (cases h;done) | (rename_i y;cases y;rfl)
def Rc:aM:=bK Qx (.cons (.int .u64) .nil) fun t=>(fun q=>[⟨HN (.r0 (zH q)),[yD q]⟩]) (vG t.1)
theorem WJ:aY prog Rc:=aR fun t=>(aS (fun h=>adn t.1 (ado h)) bc)
def Rd:List aM:=Rc::Ra
theorem zI:be prog (bh Rd):=ax WJ zG
inductive iG where
  | r0 (a:Nat) (b:Bool) (c:Int) (d:Int)
def Re:iG→AE×aQ
  | .r0 a b c d=>(.ret,⟨an 36 [(2,.ptr 0 1 0 0),(3,.int .i64 ((a:Nat):Int))],[(0,.vs [.bool false b,.int .u64 c,.int .i64 d])],1⟩)
theorem adp:jJ Re:=by intro x;cases x<;>(intro h;cases h)
def HO:iG→gM
  | .r0 a b c d=>⟨.tup [.agg [.bool false b,.int .u64 c,.int .i64 d],.int .i64 ((a:Nat):Int)],[]⟩
def adq(a:Int) :Nat×Bool×Bool×Int→aQ:=fun (b,c,d,e)=>⟨an 36 [(0,.int .u64 a),(2,.ptr 0 1 0 0),(4,.ptr 1 1 0 0),(12,.int .i64 ((b:Nat):Int))],[(0,.vs [.bool false c,.int .u64 (0:Int),.int .i64 (0:Int)]),(1,.vs [.bool false d,.int .u64 e,.int .i64 (-1074:Int)])],2⟩
def ML(a:Int) :T ((Nat×Bool×Bool×Int)⊕(iG)) :=
  .need (decide ((0:Int)≤(63:Int)))<|.need (yD (vG a))<|.leaf (.inl ((zH (vG a)),false,((Int.fdiv a (2^(min (Int.toNat (63:Int)) (IntKind.u64.bits))))==(1:Int)),(fc .and .u64 a (4503599627370495:Int))))
def El(a:Int)(b:Nat)(c:Bool)(d:Int) :T ((Empty)⊕(iG)) :=
  .ask (((b:Nat):Int)==(3:Int))
    (.need (decide ((0:Int)≤(52:Int)))<|.need (di .i64 ((IntKind.i64.wrap (fc .and .u64 (Int.fdiv a (2^(min (Int.toNat (52:Int)) (IntKind.u64.bits)))) (2047:Int)))-(1:Int)))<|.need (di .i64 ((-1074:Int)+((IntKind.i64.wrap (fc .and .u64 (Int.fdiv a (2^(min (Int.toNat (52:Int)) (IntKind.u64.bits)))) (2047:Int)))-(1:Int))))<|.leaf (.inr (.r0 0 c (fc .or .u64 d (4503599627370496:Int)) ((-1074:Int)+((IntKind.i64.wrap (fc .and .u64 (Int.fdiv a (2^(min (Int.toNat (52:Int)) (IntKind.u64.bits)))) (2047:Int)))-(1:Int))))))
    (.ask (((b:Nat):Int)==(2:Int))
      (.leaf (.inr (.r0 0 c d (-1074:Int))))
      (.ask (((b:Nat):Int)==(1:Int))
        (.leaf (.inr (.r0 0 c d (0:Int))))
        (.leaf (.inr (.r0 2 false (0:Int) (0:Int))))))
def gF(a:Int) :Option iG:=jM (aC ((ML a).run) fun (b,e,c,d) =>
  (El a b c d).run)
theorem adr(a:Int){x:iG}(h:gF a=some x) :ay prog Qw [] [.int .u64 a] (HO x) :=
  kf false HO Re h (Sg.cut 3 adp (bj zI (adq a) [⟨[],[0,128],[0,2,4,12]⟩]) (fun ⟨f,g,i,j⟩=>bj zI _ [⟨[],[0],[2,3]⟩,⟨[],[0],[2,3]⟩,⟨[],[0],[2,3]⟩,⟨[],[0],[2,3]⟩]))
    (fun x=>by cases x with | r0 b c d e=>exact jN [.agg [.bool false c,.int .u64 d,.int .i64 e],.int .i64 ((b:Nat):Int)])
def so:Option iG→Bool
  | some _=>true
  | none=>false
def tK:Option iG→Nat
  | some (.r0 x _ _ _)=>x
  | _=>0
def tL:Option iG→Bool
  | some (.r0 _ x _ _)=>x
  | _=>false
def tM:Option iG→Int
  | some (.r0 _ _ x _)=>x
  | _=>0
def tN:Option iG→Int
  | some (.r0 _ _ _ x)=>x
  | _=>0
theorem ads{x:Option iG}(h:so x=true) :x=some (.r0 (tK x) (tL x) (tM x) (tN x)):=by
  unfold so at h
  split at h<;>first | rfl | (cases h;done) | (rename_i y;cases y;rfl)
def Rf:aM:=bK Qw (.cons (.int .u64) .nil) fun t=>(fun q=>[⟨HO (.r0 (tK q) (tL q) (tM q) (tN q)),[so q]⟩]) (gF t.1)
theorem WK:aY prog Rf:=aR fun t=>(aS (fun h=>adr t.1 (ads h)) bc)
def Rg:List aM:=Rf::Rd
theorem tO:be prog (bh Rg):=ax WK zI
inductive ku where
  | r0 (a:Nat) (b:Bool) (c:List Int) (d:Nat) (e:Nat) (f:Int)
def ahy:ku→AE×aQ
  | .r0 a b c d e f=>(.ret,⟨an 25 [(2,.ptr 0 1 0 0),(3,.int .i64 ((a:Nat):Int))],[(0,.vs [.bool false b,.imm .free (.ns .u64 c) 1 1 d e,.int .i64 f])],1⟩)
theorem ZP:jJ ahy:=by intro x;cases x<;>(intro h;cases h)
def TO:ku→gM
  | .r0 a b c d e f=>⟨.tup [.agg [.bool false b,.imm .free (.ns .u64 c) 1 1 d e,.int .i64 f],.int .i64 ((a:Nat):Int)],[]⟩
def ari:Nat×Bool×Bool×Int×Int→aQ:=fun (a,b,c,d,e)=>⟨an 25 [(2,.ptr 0 1 0 0),(4,.ptr 1 1 0 0),(5,.int .i64 ((a:Nat):Int))],[(0,.vs [.bool false b,.nsl,.int .i64 (0:Int)]),(1,.vs [.bool false c,.int .u64 d,.int .i64 e])],2⟩
def ZQ(a:Nat) :T ((Nat×Bool×Bool×Int×Int)⊕(ku)) :=
  .ask (X4 a a)
    (.need (so (gF (9221120237041090560:Int)))<|.leaf (.inl ((tK (gF (9221120237041090560:Int))),false,(tL (gF (9221120237041090560:Int))),(tM (gF (9221120237041090560:Int))),(tN (gF (9221120237041090560:Int))))))
    (.alt 0
      (.need (!isNaN a)<|.need (so (gF ((a:Nat):Int)))<|.leaf (.inl ((tK (gF ((a:Nat):Int))),false,(tL (gF ((a:Nat):Int))),(tM (gF ((a:Nat):Int))),(tN (gF ((a:Nat):Int))))))
      (.fail))
def arj:Bool×(List Int)×Nat×Nat×Int→aQ:=fun (a,b,c,d,e)=>⟨an 25 [(2,.ptr 0 1 0 0),(3,.int .i64 (0:Int))],[(0,.vs [.bool false a,.imm .free (.ns .u64 b) 1 1 c d,.int .i64 e])],1⟩
def O5(d:Nat)(b:Bool)(a:Int)(c:Int) :T ((Bool×(List Int)×Nat×Nat×Int)⊕(ku)) :=
  .ask (((d:Nat):Int) != (0:Int))
    (.leaf (.inr (.r0 d false ([]:List Int) 0 0 (0:Int))))
    (.need (xj (ck a))<|.need (aG (em (ck a)) (er (ck a)) (eu (ck a)))<|.need (gE (aL b (ab (em (ck a)) (er (ck a)) (eu (ck a))) c))<|.leaf (.inl ((dG (aL b (ab (em (ck a)) (er (ck a)) (eu (ck a))) c)),(dH (aL b (ab (em (ck a)) (er (ck a)) (eu (ck a))) c)),(dI (aL b (ab (em (ck a)) (er (ck a)) (eu (ck a))) c)),(dJ (aL b (ab (em (ck a)) (er (ck a)) (eu (ck a))) c)),(dK (aL b (ab (em (ck a)) (er (ck a)) (eu (ck a))) c)))))
def ark(a:Bool)(b:List Int)(c:Nat)(d:Nat)(e:Int) :T ((Empty)⊕(ku)) :=
  .leaf (.inr (.r0 0 a b c d e))
def m8(a:Nat) :Option ku:=jM (aC ((ZQ a).run) fun (b,k,c,d,e) =>
  aC ((O5 b c d e).run) fun (f,g,h,i,j) =>
  (ark f g h i j).run)
theorem arl(a:Nat){x:ku}(h:m8 a=some x) :ay prog Tq [] [.flt false a] (TO x) :=
  kf true TO ahy h (Sg.cut 2 ZP (bj tO ari [⟨[],[0,128],[2,4,5]⟩,⟨[],[0,128],[2,4,5]⟩]) (fun ⟨i,j,k,l,m⟩=>Sg.cut 3 ZP (bj tO arj [⟨[(.cell 0 1,.fre 1 1 (.ns .u64 ([]:List Int)))],[0],[2,3]⟩,⟨[],[0],[2,3]⟩]) (fun ⟨n,o,p,q,r⟩=>bj tO _ [⟨[],[0],[2,3]⟩])))
    (fun x=>by cases x with | r0 b c d e f g=>exact jN [.agg [.bool false c,.imm .free (.ns .u64 d) 1 1 e f,.int .i64 g],.int .i64 ((b:Nat):Int)])
def BG:Option ku→Bool
  | some _=>true
  | none=>false
def Rh:Option ku→Nat
  | some (.r0 x _ _ _ _ _)=>x
  | _=>0
def AL:Option ku→Bool
  | some (.r0 _ x _ _ _ _)=>x
  | _=>false
def vH:Option ku→List Int
  | some (.r0 _ _ x _ _ _)=>x
  | _=>[]
def vI:Option ku→Nat
  | some (.r0 _ _ _ x _ _)=>x
  | _=>0
def vJ:Option ku→Nat
  | some (.r0 _ _ _ _ x _)=>x
  | _=>0
def AM:Option ku→Int
  | some (.r0 _ _ _ _ _ x)=>x
  | _=>0
theorem arm{x:Option ku}(h:BG x=true) :x=some (.r0 (Rh x) (AL x) (vH x) (vI x) (vJ x) (AM x)):=by
  unfold BG at h
  split at h<;>first | rfl | (cases h;done) | (rename_i y;cases y;rfl)
def ahz:aM:=bK Tq (.cons (.flt false) .nil) fun t=>(fun q=>[⟨TO (.r0 (Rh q) (AL q) (vH q) (vI q) (vJ q) (AM q)),[BG q]⟩]) (m8 t.1)
theorem ajf:aY prog ahz:=aR fun t=>(aS (fun h=>arl t.1 (arm h)) bc)
def ahA:List aM:=ahz::Rg
theorem vK:be prog (bh ahA):=ax ajf tO
inductive gH where
  | r0 (a:Nat) (b:List Int)
def AN:gH→AE×aQ
  | .r0 a b=>(.ret,⟨an 22 [(2,.sl 0 1 1 0 a a)],[(0,.ns .u64 b)],1⟩)
theorem yE:jJ AN:=by intro x;cases x<;>(intro h;cases h)
theorem adt(id:Nat) :mP id AN:=by intro x;cases x<;>(intro h;cases h)
def HP:gH→gM
  | .r0 a b=>⟨.imm .free (.ns .u64 b) 1 1 0 a,[]⟩
def ZR:List Code:=cN (oa AA)
def adu(b:Lv)(a:List Int)(_:Unit) :aQ:=⟨an 22 [(0,.imm b (.ns .u64 a) 1 1 0 (List.length a)),(3,.int .i64 (((List.length a):Nat):Int))],[],0⟩
def ZS:T ((Unit)⊕(gH)) :=
  .leaf (.inl ())
def Em(b:Lv)(a:List Int)(c:Int) :aQ:=⟨an 22 [(0,.imm b (.ns .u64 a) 1 1 0 (List.length a)),(3,.int .i64 c)],[],0⟩
def MM(b:Lv)(a:List Int)(c:Int) :aQ:=⟨an 22 [(0,.imm b (.ns .u64 a) 1 1 0 (List.length a)),(3,.int .i64 c)],[],0⟩
def ZT:List Code:=cN (dn ((((ZR.drop 2).take 1)).headD .skip))
def adv(b:Lv)(a:List Int)(c:Int)(d:Bool) :aQ:=⟨an 22 [(0,.imm b (.ns .u64 a) 1 1 0 (List.length a)),(3,.int .i64 c),(15,.bool false d)],[],0⟩
def qK(b:List Int)(a:Int) :T ((Bool)⊕((Int)⊕(gH))) :=
  .ask (decide (a>(0:Int)))
    (.need (di .i64 (a-(1:Int)))<|.need (fv (a-(1:Int)) (List.length b))<|.need (g9 (Int.toNat (a-(1:Int))) (List.length b))<|.leaf (.inl ((List.getD b (Int.toNat (a-(1:Int))) 0)==(0:Int))))
    (.leaf (.inl false))
def Ks(a:Int)(b:Bool) :T ((Int)⊕((Int)⊕(gH))) :=
  .ask b
    (.need (di .i64 (a-(1:Int)))<|.leaf (.inl (a-(1:Int))))
    (.leaf (.inr (.inl a)))
def BH(b:List Int) :Int→Option ((Int)⊕((Int)⊕(gH))):=fun a =>
  aC ((qK b a).run) fun c =>
  (Ks a c).run
theorem ZU(b:Lv)(a:List Int)(c:Int) :Sg prog [] ZT (Em b a c) (BH a c) (Em b a) (cy 0 (MM b a) AN):=by
  unfold BH;exact Sg.cut 1 (az yE) (bj vK (adv b a c) [⟨[],[],[0,3,15]⟩,⟨[],[],[0,3,15]⟩]) (fun d=>bj vK _ [⟨[],[],[0,3]⟩,⟨[],[],[0,3]⟩])
def Kt(b:List Int)(a:Int) :T ((Empty)⊕(gH)) :=
  .need (Mk a (List.length b))<|.need (Mk (0:Int) (Int.toNat a))<|.need (qt ((Int.toNat a)*8) 140737488355328)<|.need (qt (Int.toNat a) 9223372036854775807)<|.need (qt (Int.toNat a) (List.length b))<|.leaf (.inr (.r0 (Int.toNat a) (List.take (Int.toNat a) b)))
def df(a:List Int) :Option gH:=jM (aC ((ZS).run) fun _ =>
  aC (dh (BH a) (((List.length a):Nat):Int)) fun b =>
  (Kt a b).run)
theorem adw(b:Lv)(a:List Int){x:gH}(h:df a=some x) :ay prog AA [] [.imm b (.ns .u64 a) 1 1 0 (List.length a)] (HP x) :=
  kf true HP AN h (Sg.cut 2 yE (bj vK (adu b a) [⟨[],[],[0,3]⟩]) (fun _=>Sg.cut 1 yE (AD ⟨[],[],[0,3]⟩ (Em b a) (MM b a) 0 yE (adt _) (fun d=>ZU b a d)) (fun e=>bj vK _ [⟨[],[48],[2]⟩])))
    (fun x=>by cases x with | r0 c f=>exact jN [.sl 0 1 1 0 c c])
def kG:Option gH→Bool
  | some _=>true
  | none=>false
def jO:Option gH→Nat
  | some (.r0 x _)=>x
  | _=>0
def jP:Option gH→List Int
  | some (.r0 _ x)=>x
  | _=>[]
theorem adx{x:Option gH}(h:kG x=true) :x=some (.r0 (jO x) (jP x)):=by
  unfold kG at h
  split at h<;>first | rfl | (cases h;done) | (rename_i y;cases y;rfl)
def Ri:aM:=bK AA (.cons (.ns .u64) .nil) fun t=>(fun q=>[⟨HP (.r0 (jO q) (jP q)),[kG q]⟩]) (df t.1.2)
theorem WL:aY prog Ri:=aR fun t=>(aS (fun h=>adw t.1.1 t.1.2 (adx h)) bc)
def Rj:List aM:=Ri::ahA
theorem tP:be prog (bh Rj):=ax WL vK
inductive i9 where
  | r0 (a:Nat) (b:Nat) (c:List Int)
def Dy:i9→AE×aQ
  | .r0 a b c=>(.ret,⟨an 25 [(2,.sl 0 1 1 0 a b)],[(0,.ns .u64 c)],1⟩)
theorem HQ:jJ Dy:=by intro x;cases x<;>(intro h;cases h)
theorem ajg(id:Nat) :mP id Dy:=by intro x;cases x<;>(intro h;cases h)
def Ku:i9→gM
  | .r0 a c b=>⟨.imm .free (.ns .u64 b) 1 1 0 a,[]⟩
def ajh:List Code:=cN (oa Dg)
def aji(b:Lv)(a:List Int)(_:Unit) :aQ:=⟨an 25 [(0,.imm b (.ns .u64 a) 1 1 0 (List.length a)),(3,.nsl),(4,.int .i64 (0:Int))],[],0⟩
def ajj:T ((Unit)⊕(i9)) :=
  .leaf (.inl ())
def HS(b:Lv)(a:List Int) :Nat×Nat×Nat×(List Int)→aQ:=fun (c,d,e,f)=>⟨an 25 [(0,.imm b (.ns .u64 a) 1 1 0 (List.length a)),(3,.sl 0 1 1 0 c d),(4,.int .i64 ((e:Nat):Int))],[(0,.ns .u64 f)],1⟩
def Rk:Nat×Nat×(List Int)→aQ:=fun (a,b,c)=>⟨an 25 [(3,.sl 0 1 1 0 a b)],[(0,.ns .u64 c)],1⟩
def ajk:List Code:=cN (dn ((((ajh.drop 3).take 1)).headD .skip))
def yF(b:List Int)(c:Nat)(e:Nat)(a:Nat)(d:List Int) :T ((Nat×Nat×Nat×(List Int))⊕((Nat×Nat×(List Int))⊕(i9))) :=
  .ask (decide (((a:Nat):Int)<(((List.length b):Nat):Int)))
    (.need (fv ((a:Nat):Int) (List.length b))<|.need (g9 a (List.length b))<|.need ((4294967296:Int) != (0:Int))<|.need (fv ((a:Nat):Int) (List.length b))<|.need (g9 a (List.length b))<|.need ((4294967296:Int) != (0:Int))<|.need (qt ((c+2)*8) 140737488355328)<|.need (qt (c+2) 9223372036854775807)<|.need (qt 2 (List.length [(Int.tmod (List.getD b a 0) (4294967296:Int)),(IntKind.u64.wrap (Int.tdiv (List.getD b a 0) (4294967296:Int)))]))<|.need (qt c (List.length d))<|.need (di .i64 (((a+1):Nat):Int))<|.leaf (.inl ((c+2),(c+2),(a+1),((List.take c d)++(List.take 2 [(Int.tmod (List.getD b a 0) (4294967296:Int)),(IntKind.u64.wrap (Int.tdiv (List.getD b a 0) (4294967296:Int)))])))))
    (.leaf (.inr (.inl (c,e,d))))
def En(a:List Int) :Nat×Nat×Nat×(List Int)→Option ((Nat×Nat×Nat×(List Int))⊕((Nat×Nat×(List Int))⊕(i9))):=fun (b,c,d,e) =>
  (yF a b c d e).run
theorem ady(b:Lv)(a:List Int)(c:Nat)(d:Nat)(e:Nat)(f:List Int) :Sg prog [] ajk (HS b a (c,d,e,f)) (En a (c,d,e,f)) (HS b a) (cy 0 Rk Dy):=by
  unfold En;exact bj tP _ [⟨[],[257],[0,3,4]⟩,⟨[],[0],[3]⟩]
def adz(a:Nat)(b:Nat)(c:List Int) :T ((Empty)⊕(i9)) :=
  .leaf (.inr (.r0 a b c))
def dA(a:List Int) :Option i9:=jM (aC ((ajj).run) fun _ =>
  aC (dh (En a) (0,0,0,([]:List Int))) fun (b,c,d) =>
  (adz b c d).run)
theorem ajl(b:Lv)(a:List Int){x:i9}(h:dA a=some x) :ay prog Dg [] [.imm b (.ns .u64 a) 1 1 0 (List.length a)] (Ku x) :=
  kf true Ku Dy h (Sg.cut 3 HQ (bj tP (aji b a) [⟨[],[],[0,3,4]⟩]) (fun _=>Sg.cut 1 HQ (AD ⟨[(.slot 3,.own 1 1 (.ns .u64 ([]:List Int)))],[0],[0,3,4]⟩ (HS b a) (Rk) 0 HQ (ajg _) (fun ⟨c,d,e,f⟩=>ady b a c d e f)) (fun ⟨j,k,l⟩=>bj tP _ [⟨[],[0],[2]⟩])))
    (fun x=>by cases x with | r0 g i m=>exact jN [.sl 0 1 1 0 g i])
def lN:Option i9→Bool
  | some _=>true
  | none=>false
def kP:Option i9→Nat
  | some (.r0 x _ _)=>x
  | _=>0
def Kv:Option i9→Nat
  | some (.r0 _ x _)=>x
  | _=>0
def kQ:Option i9→List Int
  | some (.r0 _ _ x)=>x
  | _=>[]
theorem ajm{x:Option i9}(h:lN x=true) :x=some (.r0 (kP x) (Kv x) (kQ x)):=by
  unfold lN at h
  split at h<;>first | rfl | (cases h;done) | (rename_i y;cases y;rfl)
def Vr:aM:=bK Dg (.cons (.ns .u64) .nil) fun t=>(fun q=>[⟨Ku (.r0 (kP q) (Kv q) (kQ q)),[lN q]⟩]) (dA t.1.2)
theorem ZV:aY prog Vr:=aR fun t=>(aS (fun h=>ajl t.1.1 t.1.2 (ajm h)) bc)
def Vs:List aM:=Vr::Rj
theorem Kw:be prog (bh Vs):=ax ZV tP
inductive l7 where
  | r0 (a:Int)
def adA:l7→AE×aQ
  | .r0 a=>(.ret,⟨an 13 [(4,.int .u64 a)],[],0⟩)
def Eo:l7→gM
  | .r0 a=>⟨.int .u64 a,[]⟩
def Kx(a:List Int)(b:Int) :T ((Empty)⊕(l7)) :=
  .ask (decide (b<(((List.length a):Nat):Int)))
    (.need (fv b (List.length a))<|.need (g9 (Int.toNat b) (List.length a))<|.leaf (.inr (.r0 (List.getD a (Int.toNat b) 0))))
    (.leaf (.inr (.r0 (0:Int))))
def d7(a:List Int)(b:Int) :Option l7:=jM ((Kx a b).run)
theorem ZW(c:Lv)(a:List Int)(b:Int){x:l7}(h:d7 a b=some x) :ay prog D5 [] [.imm c (.ns .u64 a) 1 1 0 (List.length a),.int .i64 b] (Eo x) :=
  kf true Eo adA h (bj Kw _ [⟨[],[],[4]⟩,⟨[],[],[4]⟩])
    (fun x=>by cases x with | r0 d=>exact jN [.int .u64 d])
def kR:Option l7→Bool
  | some _=>true
  | none=>false
def dD:Option l7→Int
  | some (.r0 x)=>x
  | _=>0
theorem ZX{x:Option l7}(h:kR x=true) :x=some (.r0 (dD x)):=by
  unfold kR at h
  split at h<;>first | rfl | (cases h;done) | (rename_i y;cases y;rfl)
def MN:aM:=bK D5 (.cons (.ns .u64) (.cons (.int .i64) .nil)) fun t=>(fun q=>[⟨Eo (.r0 (dD q)),[kR q]⟩]) (d7 t.1.2 t.2.1)
theorem TP:aY prog MN:=aR fun t=>(aS (fun h=>ZW t.1.1 t.1.2 t.2.1 (ZX h)) bc)
def MO:List aM:=MN::Vs
theorem mi:be prog (bh MO):=ax TP Kw
inductive fF where
  | r0 (a:List Int) (b:Nat)
def AO:fF→AE×aQ
  | .r0 a b=>(.ret,⟨an 35 [(2,.imm .free (.ns .u64 a) 1 1 0 b)],[],0⟩)
theorem sq:jJ AO:=by intro x;cases x<;>(intro h;cases h)
theorem adB(id:Nat) :mP id AO:=by intro x;cases x<;>(intro h;cases h)
def HT:fF→gM
  | .r0 a b=>⟨.imm .free (.ns .u64 a) 1 1 0 b,[]⟩
def ZY:List Code:=cN (oa AC)
def adC(b:Lv)(a:List Int)(_:Unit) :aQ:=⟨an 35 [(0,.imm b (.ns .u64 a) 1 1 0 (List.length a)),(3,.nsl),(4,.int .i64 (0:Int))],[],0⟩
def ZZ:T ((Unit)⊕(fF)) :=
  .leaf (.inl ())
def Ep(b:Lv)(a:List Int) :Nat×Nat×Nat×(List Int)→aQ:=fun (c,d,e,f)=>⟨an 35 [(0,.imm b (.ns .u64 a) 1 1 0 (List.length a)),(3,.sl 0 1 1 0 c d),(4,.int .i64 ((e:Nat):Int))],[(0,.ns .u64 f)],1⟩
def MP:Nat×Nat×(List Int)→aQ:=fun (a,b,c)=>⟨an 35 [(3,.sl 0 1 1 0 a b)],[(0,.ns .u64 c)],1⟩
def Z0:List Code:=cN (dn ((((ZY.drop 3).take 1)).headD .skip))
def adD(c:Lv)(a:List Int)(d:Nat) :Nat×(List Int)→aQ:=fun (b,e)=>⟨an 35 [(0,.imm c (.ns .u64 a) 1 1 0 (List.length a)),(3,.sl 0 1 1 0 b b),(4,.int .i64 ((d:Nat):Int))],[(0,.ns .u64 e)],1⟩
def vL(b:List Int)(c:Nat)(e:Nat)(a:Nat)(d:List Int) :T ((Nat×(List Int))⊕((Nat×Nat×(List Int))⊕(fF))) :=
  .ask (decide (((a:Nat):Int)<(((List.length b):Nat):Int)))
    (.need (fv ((a:Nat):Int) (List.length b))<|.need (g9 a (List.length b))<|.need (di .i64 (((a+1):Nat):Int))<|.ask (decide ((((a+1):Nat):Int)<(((List.length b):Nat):Int)))
      (.need (di .i64 (((a+1):Nat):Int))<|.need (fv (((a+1):Nat):Int) (List.length b))<|.need (g9 (a+1) (List.length b))<|.need (qt ((c+1)*8) 140737488355328)<|.need (qt (c+1) 9223372036854775807)<|.need (qt 1 (List.length [(IntKind.u64.wrap ((List.getD b a 0)+(IntKind.u64.wrap ((List.getD b (a+1) 0)*(4294967296:Int)))))]))<|.need (qt c (List.length d))<|.leaf (.inl ((c+1),((List.take c d)++(List.take 1 [(IntKind.u64.wrap ((List.getD b a 0)+(IntKind.u64.wrap ((List.getD b (a+1) 0)*(4294967296:Int)))))])))))
      (.need (qt ((c+1)*8) 140737488355328)<|.need (qt (c+1) 9223372036854775807)<|.need (qt 1 (List.length [(List.getD b a 0)]))<|.need (qt c (List.length d))<|.leaf (.inl ((c+1),((List.take c d)++(List.take 1 [(List.getD b a 0)]))))))
    (.leaf (.inr (.inl (c,e,d))))
def Z1(a:Nat)(b:Nat)(c:List Int) :T ((Nat×Nat×Nat×(List Int))⊕((Nat×Nat×(List Int))⊕(fF))) :=
  .need (di .i64 (((a+2):Nat):Int))<|.leaf (.inl (b,b,(a+2),c))
def BI(b:List Int) :Nat×Nat×Nat×(List Int)→Option ((Nat×Nat×Nat×(List Int))⊕((Nat×Nat×(List Int))⊕(fF))):=fun (c,d,a,e) =>
  aC ((vL b c d a e).run) fun (f,g) =>
  (Z1 a f g).run
theorem Z2(b:Lv)(a:List Int)(d:Nat)(e:Nat)(c:Nat)(f:List Int) :Sg prog [] Z0 (Ep b a (d,e,c,f)) (BI a (d,e,c,f)) (Ep b a) (cy 0 MP AO):=by
  unfold BI;exact Sg.cut 3 (az sq) (bj mi (adD b a c) [⟨[],[417],[0,3,4]⟩,⟨[],[273],[0,3,4]⟩,⟨[],[0],[3]⟩]) (fun ⟨g,h⟩=>bj mi _ [⟨[],[0],[0,3,4]⟩])
def Z3:(List Int)×Nat→aQ:=fun (a,b)=>⟨an 35 [(2,.imm .free (.ns .u64 a) 1 1 0 b)],[],0⟩
def BJ(a:Nat)(b:List Int) :T (((List Int)×Nat)⊕(fF)) :=
  .need (aG 0 a b)<|.need (kG (df (ab 0 a b)))<|.leaf (.inl ((jP (df (ab 0 a b))),(jO (df (ab 0 a b)))))
def Z4(a:List Int)(b:Nat) :T ((Empty)⊕(fF)) :=
  .leaf (.inr (.r0 a b))
def iH(a:List Int) :Option fF:=jM (aC ((ZZ).run) fun _ =>
  aC (dh (BI a) (0,0,0,([]:List Int))) fun (b,f,c) =>
  aC ((BJ b c).run) fun (d,e) =>
  (Z4 d e).run)
theorem adE(b:Lv)(a:List Int){x:fF}(h:iH a=some x) :ay prog AC [] [.imm b (.ns .u64 a) 1 1 0 (List.length a)] (HT x) :=
  kf true HT AO h (Sg.cut 3 sq (bj mi (adC b a) [⟨[],[],[0,3,4]⟩]) (fun _=>Sg.cut 1 sq (AD ⟨[(.slot 3,.own 1 1 (.ns .u64 ([]:List Int)))],[0],[0,3,4]⟩ (Ep b a) (MP) 0 sq (adB _) (fun ⟨c,d,e,f⟩=>Z2 b a c d e f)) (fun ⟨j,k,l⟩=>Sg.cut 1 sq (bj mi Z3 [⟨[],[],[2]⟩]) (fun ⟨m,n⟩=>bj mi _ [⟨[],[],[2]⟩]))))
    (fun x=>by cases x with | r0 g i=>exact jN [.imm .free (.ns .u64 g) 1 1 0 i])
def p8:Option fF→Bool
  | some _=>true
  | none=>false
def pJ:Option fF→List Int
  | some (.r0 x _)=>x
  | _=>[]
def pK:Option fF→Nat
  | some (.r0 _ x)=>x
  | _=>0
theorem adF{x:Option fF}(h:p8 x=true) :x=some (.r0 (pJ x) (pK x)):=by
  unfold p8 at h
  split at h<;>first | rfl | (cases h;done) | (rename_i y;cases y;rfl)
def Rl:aM:=bK AC (.cons (.ns .u64) .nil) fun t=>(fun q=>[⟨HT (.r0 (pJ q) (pK q)),[p8 q]⟩]) (iH t.1.2)
theorem WM:aY prog Rl:=aR fun t=>(aS (fun h=>adE t.1.1 t.1.2 (adF h)) bc)
def Rm:List aM:=Rl::MO
theorem jQ:be prog (bh Rm):=ax WM mi
inductive fw where
  | r0 (a:List Int) (b:Nat)
def Dz:fw→AE×aQ
  | .r0 a b=>(.ret,⟨an 48 [(4,.imm .free (.ns .u64 a) 1 1 0 b)],[],0⟩)
theorem pb:jJ Dz:=by intro x;cases x<;>(intro h;cases h)
theorem ajn(id:Nat) :mP id Dz:=by intro x;cases x<;>(intro h;cases h)
def Ky:fw→gM
  | .r0 a b=>⟨.imm .free (.ns .u64 a) 1 1 0 b,[]⟩
def adG:List Code:=cN (oa Da)
def ajo:(List Int)×Nat×(List Int)×Nat→aQ:=fun (a,b,c,d)=>⟨an 48 [(5,.imm .free (.ns .u64 a) 1 1 0 b),(6,.imm .free (.ns .u64 c) 1 1 0 d)],[],0⟩
def MQ(a:List Int)(b:List Int) :T (((List Int)×Nat×(List Int)×Nat)⊕(fw)) :=
  .need (aG 0 (List.length a) a)<|.need (lN (dA (ab 0 (List.length a) a)))<|.need (aG 0 (List.length b) b)<|.need (lN (dA (ab 0 (List.length b) b)))<|.leaf (.inl ((kQ (dA (ab 0 (List.length a) a))),(kP (dA (ab 0 (List.length a) a))),(kQ (dA (ab 0 (List.length b) b))),(kP (dA (ab 0 (List.length b) b)))))
def ajp(a:List Int)(b:Nat)(c:List Int)(d:Nat)(_:Unit) :aQ:=⟨an 48 [(5,.imm .free (.ns .u64 a) 1 1 0 b),(6,.imm .free (.ns .u64 c) 1 1 0 d),(7,.nsl),(8,.int .u64 (0:Int)),(9,.int .i64 (0:Int))],[],0⟩
def adH:T ((Unit)⊕(fw)) :=
  .leaf (.inl ())
def Eq(a:List Int)(b:Nat)(c:List Int)(d:Nat) :Nat×Nat×Int×Nat×(List Int)→aQ:=fun (e,f,g,h,i)=>⟨an 48 [(5,.imm .free (.ns .u64 a) 1 1 0 b),(6,.imm .free (.ns .u64 c) 1 1 0 d),(7,.sl 0 1 1 0 e f),(8,.int .u64 g),(9,.int .i64 ((h:Nat):Int))],[(0,.ns .u64 i)],1⟩
def MR:Nat×Nat×Int×(List Int)→aQ:=fun (a,b,c,d)=>⟨an 48 [(7,.sl 0 1 1 0 a b),(8,.int .u64 c)],[(0,.ns .u64 d)],1⟩
def adI:List Code:=cN (dn (((((adG.drop 2).drop 3).take 1)).headD .skip))
def adJ(a:List Int)(b:Nat)(c:List Int)(d:Nat)(e:Nat)(f:Nat)(g:Int)(h:Nat)(i:List Int)(j:Bool) :aQ:=⟨an 48 [(5,.imm .free (.ns .u64 a) 1 1 0 b),(6,.imm .free (.ns .u64 c) 1 1 0 d),(7,.sl 0 1 1 0 e f),(8,.int .u64 g),(9,.int .i64 ((h:Nat):Int)),(24,.bool false j)],[(0,.ns .u64 i)],1⟩
def su(b:Nat)(c:Nat)(a:Nat) :T ((Bool)⊕((Nat×Nat×Int×(List Int))⊕(fw))) :=
  .ask (decide (((a:Nat):Int)<((b:Nat):Int)))
    (.leaf (.inl true))
    (.leaf (.inl (decide (((a:Nat):Int)<((c:Nat):Int)))))
def adK(b:List Int)(c:Nat)(d:List Int)(e:Nat)(f:Nat) :Nat×Int×(List Int)→aQ:=fun (a,g,h)=>⟨an 48 [(5,.imm .free (.ns .u64 b) 1 1 0 c),(6,.imm .free (.ns .u64 d) 1 1 0 e),(7,.sl 0 1 1 0 a a),(8,.int .u64 g),(9,.int .i64 ((f:Nat):Int))],[(0,.ns .u64 h)],1⟩
def Er(c:List Int)(d:Nat)(e:List Int)(f:Nat)(b:Nat)(i:Nat)(g:Int)(a:Nat)(h:List Int)(j:Bool) :T ((Nat×Int×(List Int))⊕((Nat×Nat×Int×(List Int))⊕(fw))) :=
  .ask j
    (.need (aG 0 d c)<|.need (kR (d7 (ab 0 d c) ((a:Nat):Int)))<|.need (aG 0 f e)<|.need (kR (d7 (ab 0 f e) ((a:Nat):Int)))<|.need ((4294967296:Int) != (0:Int))<|.need (qt ((b+1)*8) 140737488355328)<|.need (qt (b+1) 9223372036854775807)<|.need (qt 1 (List.length [(Int.tmod (IntKind.u64.wrap ((IntKind.u64.wrap ((dD (d7 (ab 0 d c) ((a:Nat):Int)))+(dD (d7 (ab 0 f e) ((a:Nat):Int)))))+g)) (4294967296:Int))]))<|.need (qt b (List.length h))<|.need ((4294967296:Int) != (0:Int))<|.leaf (.inl ((b+1),(IntKind.u64.wrap (Int.tdiv (IntKind.u64.wrap ((IntKind.u64.wrap ((dD (d7 (ab 0 d c) ((a:Nat):Int)))+(dD (d7 (ab 0 f e) ((a:Nat):Int)))))+g)) (4294967296:Int))),((List.take b h)++(List.take 1 [(Int.tmod (IntKind.u64.wrap ((IntKind.u64.wrap ((dD (d7 (ab 0 d c) ((a:Nat):Int)))+(dD (d7 (ab 0 f e) ((a:Nat):Int)))))+g)) (4294967296:Int))])))))
    (.leaf (.inr (.inl (b,i,g,h))))
def adL(a:Nat)(b:Nat)(c:Int)(d:List Int) :T ((Nat×Nat×Int×Nat×(List Int))⊕((Nat×Nat×Int×(List Int))⊕(fw))) :=
  .need (di .i64 (((a+1):Nat):Int))<|.leaf (.inl (b,b,c,(a+1),d))
def Es(d:List Int)(b:Nat)(e:List Int)(c:Nat) :Nat×Nat×Int×Nat×(List Int)→Option ((Nat×Nat×Int×Nat×(List Int))⊕((Nat×Nat×Int×(List Int))⊕(fw))):=fun (f,g,h,a,i) =>
  aC ((su b c a).run) fun j =>
  aC ((Er d b e c f g h a i j).run) fun (k,l,m) =>
  (adL a k l m).run
theorem adM(a:List Int)(b:Nat)(c:List Int)(d:Nat)(f:Nat)(g:Nat)(h:Int)(e:Nat)(i:List Int) :Sg prog [] adI (Eq a b c d (f,g,h,e,i)) (Es a b c d (f,g,h,e,i)) (Eq a b c d) (cy 0 MR Dz):=by
  unfold Es;exact Sg.cut 1 (az pb) (bj jQ (adJ a b c d f g h e i) [⟨[],[0],[5,6,7,8,9,24]⟩,⟨[],[0],[5,6,7,8,9,24]⟩]) (fun j=>Sg.cut 2 (az pb) (bj jQ (adK a b c d e) [⟨[],[225],[5,6,7,8,9]⟩,⟨[],[0],[7,8]⟩]) (fun ⟨k,l,m⟩=>bj jQ _ [⟨[],[0],[5,6,7,8,9]⟩]))
def adN:(List Int)×Nat→aQ:=fun (a,b)=>⟨an 48 [(4,.imm .free (.ns .u64 a) 1 1 0 b)],[],0⟩
def Et(a:Nat)(b:Int)(c:List Int) :T (((List Int)×Nat)⊕(fw)) :=
  .need (qt ((a+1)*8) 140737488355328)<|.need (qt (a+1) 9223372036854775807)<|.need (qt 1 (List.length [b]))<|.need (qt a (List.length c))<|.need (aG 0 (a+1) ((List.take a c)++(List.take 1 [b])))<|.need (p8 (iH (ab 0 (a+1) ((List.take a c)++(List.take 1 [b])))))<|.leaf (.inl ((pJ (iH (ab 0 (a+1) ((List.take a c)++(List.take 1 [b]))))),(pK (iH (ab 0 (a+1) ((List.take a c)++(List.take 1 [b])))))))
def adO(a:List Int)(b:Nat) :T ((Empty)⊕(fw)) :=
  .leaf (.inr (.r0 a b))
def ew(a:List Int)(b:List Int) :Option fw:=jM (aC ((MQ a b).run) fun (c,d,e,f) =>
  aC ((adH).run) fun _ =>
  aC (dh (Es c d e f) (0,0,(0:Int),0,([]:List Int))) fun (g,l,h,i) =>
  aC ((Et g h i).run) fun (j,k) =>
  (adO j k).run)
theorem ajq(g:Lv)(a:List Int)(i:Lv)(b:List Int){x:fw}(h:ew a b=some x) :ay prog Da [] [.imm g (.ns .u64 a) 1 1 0 (List.length a),.imm i (.ns .u64 b) 1 1 0 (List.length b)] (Ky x) :=
  kf true Ky Dz h (Sg.cut 2 pb (bj jQ ajo [⟨[],[],[5,6]⟩]) (fun ⟨c,d,e,f⟩=>Sg.cut 3 pb (bj jQ (ajp c d e f) [⟨[],[],[5,6,7,8,9]⟩]) (fun _=>Sg.cut 1 pb (AD ⟨[(.slot 7,.own 1 1 (.ns .u64 ([]:List Int)))],[0],[5,6,7,8,9]⟩ (Eq c d e f) (MR) 0 pb (ajn _) (fun ⟨j,k,l,m,n⟩=>adM c d e f j k l m n)) (fun ⟨q,r,s,t⟩=>Sg.cut 1 pb (bj jQ adN [⟨[],[],[4]⟩]) (fun ⟨u,v⟩=>bj jQ _ [⟨[],[],[4]⟩])))))
    (fun x=>by cases x with | r0 o p=>exact jN [.imm .free (.ns .u64 o) 1 1 0 p])
def vM:Option fw→Bool
  | some _=>true
  | none=>false
def ii:Option fw→List Int
  | some (.r0 x _)=>x
  | _=>[]
def ij:Option fw→Nat
  | some (.r0 _ x)=>x
  | _=>0
theorem ajr{x:Option fw}(h:vM x=true) :x=some (.r0 (ii x) (ij x)):=by
  unfold vM at h
  split at h<;>first | rfl | (cases h;done) | (rename_i y;cases y;rfl)
def Vt:aM:=bK Da (.cons (.ns .u64) (.cons (.ns .u64) .nil)) fun t=>(fun q=>[⟨Ky (.r0 (ii q) (ij q)),[vM q]⟩]) (ew t.1.2 t.2.1.2)
theorem Z5:aY prog Vt:=aR fun t=>(aS (fun h=>ajq t.1.1 t.1.2 t.2.1.1 t.2.1.2 (ajr h)) bc)
def Vu:List aM:=Vt::Rm
theorem mz:be prog (bh Vu):=ax Z5 jQ
inductive fT where
  | r0 (a:List Int) (b:Nat)
def DA:fT→AE×aQ
  | .r0 a b=>(.ret,⟨an 42 [(4,.imm .free (.ns .u64 a) 1 1 0 b)],[],0⟩)
theorem rC:jJ DA:=by intro x;cases x<;>(intro h;cases h)
theorem ajs(id:Nat) :mP id DA:=by intro x;cases x<;>(intro h;cases h)
def Kz:fT→gM
  | .r0 a b=>⟨.imm .free (.ns .u64 a) 1 1 0 b,[]⟩
def adP:List Code:=cN (oa Dc)
def ajt:(List Int)×Nat×(List Int)×Nat→aQ:=fun (a,b,c,d)=>⟨an 42 [(5,.imm .free (.ns .u64 a) 1 1 0 b),(6,.imm .free (.ns .u64 c) 1 1 0 d)],[],0⟩
def MS(a:List Int)(b:List Int) :T (((List Int)×Nat×(List Int)×Nat)⊕(fT)) :=
  .need (aG 0 (List.length a) a)<|.need (lN (dA (ab 0 (List.length a) a)))<|.need (aG 0 (List.length b) b)<|.need (lN (dA (ab 0 (List.length b) b)))<|.leaf (.inl ((kQ (dA (ab 0 (List.length a) a))),(kP (dA (ab 0 (List.length a) a))),(kQ (dA (ab 0 (List.length b) b))),(kP (dA (ab 0 (List.length b) b)))))
def aju(a:List Int)(b:Nat)(c:List Int)(d:Nat)(_:Unit) :aQ:=⟨an 42 [(5,.imm .free (.ns .u64 a) 1 1 0 b),(6,.imm .free (.ns .u64 c) 1 1 0 d),(7,.nsl),(8,.int .u64 (0:Int)),(9,.int .i64 (0:Int))],[],0⟩
def adQ:T ((Unit)⊕(fT)) :=
  .leaf (.inl ())
def HU(a:List Int)(b:Nat)(c:List Int)(d:Nat) :Nat×Nat×Int×Nat×(List Int)→aQ:=fun (e,f,g,h,i)=>⟨an 42 [(5,.imm .free (.ns .u64 a) 1 1 0 b),(6,.imm .free (.ns .u64 c) 1 1 0 d),(7,.sl 0 1 1 0 e f),(8,.int .u64 g),(9,.int .i64 ((h:Nat):Int))],[(0,.ns .u64 i)],1⟩
def MT:Nat×Nat×(List Int)→aQ:=fun (a,b,c)=>⟨an 42 [(7,.sl 0 1 1 0 a b)],[(0,.ns .u64 c)],1⟩
def adR:List Code:=cN (dn (((((adP.drop 2).drop 3).take 1)).headD .skip))
def adS(b:List Int)(c:Nat)(d:List Int)(e:Nat)(f:Nat) :Nat×Int×(List Int)→aQ:=fun (a,g,h)=>⟨an 42 [(5,.imm .free (.ns .u64 b) 1 1 0 c),(6,.imm .free (.ns .u64 d) 1 1 0 e),(7,.sl 0 1 1 0 a a),(8,.int .u64 g),(9,.int .i64 ((f:Nat):Int))],[(0,.ns .u64 h)],1⟩
def yG(e:List Int)(h:Nat)(c:List Int)(d:Nat)(b:Nat)(i:Nat)(f:Int)(a:Nat)(g:List Int) :T ((Nat×Int×(List Int))⊕((Nat×Nat×(List Int))⊕(fT))) :=
  .ask (decide (((a:Nat):Int)<((h:Nat):Int)))
    (.need (fv ((a:Nat):Int) h)<|.need (g9 a (List.length e))<|.need (aG 0 d c)<|.need (kR (d7 (ab 0 d c) ((a:Nat):Int)))<|.need ((4294967296:Int) != (0:Int))<|.need (qt ((b+1)*8) 140737488355328)<|.need (qt (b+1) 9223372036854775807)<|.need (qt 1 (List.length [(Int.tmod (IntKind.u64.wrap ((IntKind.u64.wrap ((IntKind.u64.wrap ((4294967296:Int)+(List.getD e a 0)))-(dD (d7 (ab 0 d c) ((a:Nat):Int)))))-f)) (4294967296:Int))]))<|.need (qt b (List.length g))<|.need ((4294967296:Int) != (0:Int))<|.leaf (.inl ((b+1),(IntKind.u64.wrap ((1:Int)-(IntKind.u64.wrap (Int.tdiv (IntKind.u64.wrap ((IntKind.u64.wrap ((IntKind.u64.wrap ((4294967296:Int)+(List.getD e a 0)))-(dD (d7 (ab 0 d c) ((a:Nat):Int)))))-f)) (4294967296:Int))))),((List.take b g)++(List.take 1 [(Int.tmod (IntKind.u64.wrap ((IntKind.u64.wrap ((IntKind.u64.wrap ((4294967296:Int)+(List.getD e a 0)))-(dD (d7 (ab 0 d c) ((a:Nat):Int)))))-f)) (4294967296:Int))])))))
    (.leaf (.inr (.inl (b,i,g))))
def adT(a:Nat)(b:Nat)(c:Int)(d:List Int) :T ((Nat×Nat×Int×Nat×(List Int))⊕((Nat×Nat×(List Int))⊕(fT))) :=
  .need (di .i64 (((a+1):Nat):Int))<|.leaf (.inl (b,b,c,(a+1),d))
def Eu(b:List Int)(c:Nat)(d:List Int)(e:Nat) :Nat×Nat×Int×Nat×(List Int)→Option ((Nat×Nat×Int×Nat×(List Int))⊕((Nat×Nat×(List Int))⊕(fT))):=fun (f,g,h,a,i) =>
  aC ((yG b c d e f g h a i).run) fun (j,k,l) =>
  (adT a j k l).run
theorem adU(a:List Int)(b:Nat)(c:List Int)(d:Nat)(f:Nat)(g:Nat)(h:Int)(e:Nat)(i:List Int) :Sg prog [] adR (HU a b c d (f,g,h,e,i)) (Eu a b c d (f,g,h,e,i)) (HU a b c d) (cy 0 MT DA):=by
  unfold Eu;exact Sg.cut 3 (az rC) (bj mz (adS a b c d e) [⟨[],[321],[5,6,7,8,9]⟩,⟨[],[0],[7]⟩]) (fun ⟨j,k,l⟩=>bj mz _ [⟨[],[0],[5,6,7,8,9]⟩])
def adV:(List Int)×Nat→aQ:=fun (a,b)=>⟨an 42 [(4,.imm .free (.ns .u64 a) 1 1 0 b)],[],0⟩
def Ev(a:Nat)(b:List Int) :T (((List Int)×Nat)⊕(fT)) :=
  .need (aG 0 a b)<|.need (p8 (iH (ab 0 a b)))<|.leaf (.inl ((pJ (iH (ab 0 a b))),(pK (iH (ab 0 a b)))))
def adW(a:List Int)(b:Nat) :T ((Empty)⊕(fT)) :=
  .leaf (.inr (.r0 a b))
def bQ(a:List Int)(b:List Int) :Option fT:=jM (aC ((MS a b).run) fun (c,d,e,f) =>
  aC ((adQ).run) fun _ =>
  aC (dh (Eu c d e f) (0,0,(0:Int),0,([]:List Int))) fun (g,k,h) =>
  aC ((Ev g h).run) fun (i,j) =>
  (adW i j).run)
theorem ajv(g:Lv)(a:List Int)(i:Lv)(b:List Int){x:fT}(h:bQ a b=some x) :ay prog Dc [] [.imm g (.ns .u64 a) 1 1 0 (List.length a),.imm i (.ns .u64 b) 1 1 0 (List.length b)] (Kz x) :=
  kf true Kz DA h (Sg.cut 2 rC (bj mz ajt [⟨[],[],[5,6]⟩]) (fun ⟨c,d,e,f⟩=>Sg.cut 3 rC (bj mz (aju c d e f) [⟨[],[],[5,6,7,8,9]⟩]) (fun _=>Sg.cut 1 rC (AD ⟨[(.slot 7,.own 1 1 (.ns .u64 ([]:List Int)))],[0],[5,6,7,8,9]⟩ (HU c d e f) (MT) 0 rC (ajs _) (fun ⟨j,k,l,m,n⟩=>adU c d e f j k l m n)) (fun ⟨q,r,s⟩=>Sg.cut 1 rC (bj mz adV [⟨[],[],[4]⟩]) (fun ⟨t,u⟩=>bj mz _ [⟨[],[],[4]⟩])))))
    (fun x=>by cases x with | r0 o p=>exact jN [.imm .free (.ns .u64 o) 1 1 0 p])
def pc:Option fT→Bool
  | some _=>true
  | none=>false
def c6:Option fT→List Int
  | some (.r0 x _)=>x
  | _=>[]
def c7:Option fT→Nat
  | some (.r0 _ x)=>x
  | _=>0
theorem ajw{x:Option fT}(h:pc x=true) :x=some (.r0 (c6 x) (c7 x)):=by
  unfold pc at h
  split at h<;>first | rfl | (cases h;done) | (rename_i y;cases y;rfl)
def Vv:aM:=bK Dc (.cons (.ns .u64) (.cons (.ns .u64) .nil)) fun t=>(fun q=>[⟨Kz (.r0 (c6 q) (c7 q)),[pc q]⟩]) (bQ t.1.2 t.2.1.2)
theorem Z6:aY prog Vv:=aR fun t=>(aS (fun h=>ajv t.1.1 t.1.2 t.2.1.1 t.2.1.2 (ajw h)) bc)
def Vw:List aM:=Vv::Vu
theorem ik:be prog (bh Vw):=ax Z6 mz
inductive dW where
  | r0 (a:List Int) (b:Nat)
def zg:dW→AE×aQ
  | .r0 a b=>(.ret,⟨an 71 [(4,.imm .free (.ns .u64 a) 1 1 0 b)],[],0⟩)
theorem jq:jJ zg:=by intro x;cases x<;>(intro h;cases h)
theorem HV(id:Nat) :mP id zg:=by intro x;cases x<;>(intro h;cases h)
def KA:dW→gM
  | .r0 a b=>⟨.imm .free (.ns .u64 a) 1 1 0 b,[]⟩
def adX:List Code:=cN (oa Dd)
def ajx:(List Int)×Nat×(List Int)×Nat→aQ:=fun (a,b,c,d)=>⟨an 71 [(5,.imm .free (.ns .u64 a) 1 1 0 b),(6,.imm .free (.ns .u64 c) 1 1 0 d)],[],0⟩
def MU(a:List Int)(b:List Int) :T (((List Int)×Nat×(List Int)×Nat)⊕(dW)) :=
  .need (aG 0 (List.length a) a)<|.need (lN (dA (ab 0 (List.length a) a)))<|.need (aG 0 (List.length b) b)<|.need (lN (dA (ab 0 (List.length b) b)))<|.leaf (.inl ((kQ (dA (ab 0 (List.length a) a))),(kP (dA (ab 0 (List.length a) a))),(kQ (dA (ab 0 (List.length b) b))),(kP (dA (ab 0 (List.length b) b)))))
def ajy(b:List Int)(c:Nat)(d:List Int)(e:Nat) :Nat×(List Int)→aQ:=fun (a,f)=>⟨an 71 [(5,.imm .free (.ns .u64 b) 1 1 0 c),(6,.imm .free (.ns .u64 d) 1 1 0 e),(7,.sl 0 1 1 0 a a),(8,.int .i64 (0:Int))],[(0,.ns .u64 f)],1⟩
def Ew(a:Nat)(b:Nat) :T ((Nat×(List Int))⊕(dW)) :=
  .need (di .i64 (((a+b):Nat):Int))<|.need (di .i64 ((((a+b)+1):Nat):Int))<|.need (decide ((0:Int)≤((((a+b)+1):Nat):Int)))<|.need (decide (((((a+b)+1):Nat):Int)≤((((a+b)+1):Nat):Int)))<|.need (decide ((8:Int)*((((a+b)+1):Nat):Int)≤140737488355328))<|.need (di .i64 ((((a+b)+1):Nat):Int))<|.leaf (.inl (((a+b)+1),(List.replicate ((a+b)+1) (0:Int))))
def Ex(b:List Int)(c:Nat)(d:List Int)(e:Nat)(a:Nat) :Nat×(List Int)→aQ:=fun (f,g)=>⟨an 71 [(5,.imm .free (.ns .u64 b) 1 1 0 c),(6,.imm .free (.ns .u64 d) 1 1 0 e),(7,.sl 0 1 1 0 a a),(8,.int .i64 ((f:Nat):Int))],[(0,.ns .u64 g)],1⟩
def Ey(a:Nat)(b:(List Int)) :aQ:=⟨an 71 [(7,.sl 0 1 1 0 a a)],[(0,.ns .u64 b)],1⟩
def MV:List Code:=cN (dn (((((adX.drop 2).drop 2).take 1)).headD .skip))
def adY(b:List Int)(c:Nat)(d:List Int)(e:Nat)(a:Nat)(f:Nat)(g:List Int)(_:Unit) :aQ:=⟨an 71 [(5,.imm .free (.ns .u64 b) 1 1 0 c),(6,.imm .free (.ns .u64 d) 1 1 0 e),(7,.sl 0 1 1 0 a a),(8,.int .i64 ((f:Nat):Int))],[(0,.ns .u64 g)],1⟩
def Ez(a:Nat)(b:Nat)(c:List Int) :T ((Unit)⊕(((List Int))⊕(dW))) :=
  .ask (decide (((b:Nat):Int)<((a:Nat):Int)))
    (.leaf (.inl ()))
    (.leaf (.inr (.inl c)))
def MW(b:List Int)(c:Nat)(d:List Int)(e:Nat)(a:Nat)(f:Nat)(g:(List Int)) :aQ:=⟨an 71 [(5,.imm .free (.ns .u64 b) 1 1 0 c),(6,.imm .free (.ns .u64 d) 1 1 0 e),(7,.sl 0 1 1 0 a a),(8,.int .i64 ((f:Nat):Int))],[(0,.ns .u64 g)],1⟩
def adZ:List Code:=cN (inBlock ((((MV.drop 2).take 1)).headD .skip))
def ad0(b:List Int)(c:Nat)(d:List Int)(e:Nat)(a:Nat)(f:Nat)(g:List Int)(_:Unit) :aQ:=⟨an 71 [(5,.imm .free (.ns .u64 b) 1 1 0 c),(6,.imm .free (.ns .u64 d) 1 1 0 e),(7,.sl 0 1 1 0 a a),(8,.int .i64 ((f:Nat):Int)),(9,.int .u64 (0:Int)),(10,.int .i64 (0:Int))],[(0,.ns .u64 g)],1⟩
def ad1:T ((Unit)⊕(((List Int))⊕(((List Int))⊕(dW)))) :=
  .leaf (.inl ())
def EA(b:List Int)(c:Nat)(d:List Int)(e:Nat)(a:Nat)(f:Nat) :Int×Nat×(List Int)→aQ:=fun (g,h,i)=>⟨an 71 [(5,.imm .free (.ns .u64 b) 1 1 0 c),(6,.imm .free (.ns .u64 d) 1 1 0 e),(7,.sl 0 1 1 0 a a),(8,.int .i64 ((f:Nat):Int)),(9,.int .u64 g),(10,.int .i64 ((h:Nat):Int))],[(0,.ns .u64 i)],1⟩
def MX(b:List Int)(c:Nat)(d:List Int)(e:Nat)(a:Nat)(f:Nat) :Int×(List Int)→aQ:=fun (g,h)=>⟨an 71 [(5,.imm .free (.ns .u64 b) 1 1 0 c),(6,.imm .free (.ns .u64 d) 1 1 0 e),(7,.sl 0 1 1 0 a a),(8,.int .i64 ((f:Nat):Int)),(9,.int .u64 g)],[(0,.ns .u64 h)],1⟩
def ad2:List Code:=cN (dn ((((adZ.drop 2).take 1)).headD .skip))
def yH(d:List Int)(i:Nat)(e:List Int)(g:Nat)(h:Nat)(b:Nat)(f:Int)(a:Nat)(c:List Int) :T ((Int×Nat×(List Int))⊕((Int×(List Int))⊕(((List Int))⊕(((List Int))⊕(dW))))) :=
  .ask (decide (((a:Nat):Int)<((g:Nat):Int)))
    (.need (di .i64 (((b+a):Nat):Int))<|.need (fv (((b+a):Nat):Int) h)<|.need (g9 (b+a) (List.length c))<|.need (fv ((b:Nat):Int) i)<|.need (g9 b (List.length d))<|.need (fv ((a:Nat):Int) g)<|.need (g9 a (List.length e))<|.need (di .i64 (((b+a):Nat):Int))<|.need ((4294967296:Int) != (0:Int))<|.need (fv (((b+a):Nat):Int) h)<|.need (g9 (b+a) (List.length c))<|.need ((4294967296:Int) != (0:Int))<|.need (di .i64 (((a+1):Nat):Int))<|.leaf (.inl ((IntKind.u64.wrap (Int.tdiv (IntKind.u64.wrap ((IntKind.u64.wrap ((List.getD c (b+a) 0)+(IntKind.u64.wrap ((List.getD d b 0)*(List.getD e a 0)))))+f)) (4294967296:Int))),(a+1),(List.set c (b+a) (Int.tmod (IntKind.u64.wrap ((IntKind.u64.wrap ((List.getD c (b+a) 0)+(IntKind.u64.wrap ((List.getD d b 0)*(List.getD e a 0)))))+f)) (4294967296:Int))))))
    (.leaf (.inr (.inl (f,c))))
def EB(a:List Int)(b:Nat)(c:List Int)(d:Nat)(e:Nat)(f:Nat) :Int×Nat×(List Int)→Option ((Int×Nat×(List Int))⊕((Int×(List Int))⊕(((List Int))⊕(((List Int))⊕(dW))))):=fun (g,h,i) =>
  (yH a b c d e f g h i).run
theorem ad3(b:List Int)(c:Nat)(d:List Int)(e:Nat)(a:Nat)(f:Nat)(g:Int)(h:Nat)(i:List Int) :Sg prog [] ad2 (EA b c d e a f (g,h,i)) (EB b c d e a f (g,h,i)) (EA b c d e a f) (cy 2 (MX b c d e a f) (cy 1 (MW b c d e a f) (cy 0 (Ey a) zg))):=by
  unfold EB;exact bj ik _ [⟨[],[0],[5,6,7,8,9,10]⟩,⟨[],[0],[5,6,7,8,9]⟩]
def EC(a:Nat)(d:Nat)(b:Nat)(e:Int)(c:List Int) :T (((List Int))⊕(((List Int))⊕(((List Int))⊕(dW)))) :=
  .need (di .i64 (((b+a):Nat):Int))<|.need (fv (((b+a):Nat):Int) d)<|.need (g9 (b+a) (List.length c))<|.leaf (.inl (List.set c (b+a) e))
def ad4(a:Nat)(b:List Int) :T ((Nat×(List Int))⊕(((List Int))⊕(dW))) :=
  .need (di .i64 (((a+1):Nat):Int))<|.leaf (.inl ((a+1),b))
def ED(f:List Int)(b:Nat)(g:List Int)(c:Nat)(d:Nat) :Nat×(List Int)→Option ((Nat×(List Int))⊕(((List Int))⊕(dW))):=fun (a,e) =>
  aC ((Ez b a e).run) fun _ =>
  aC (Di (aC ((ad1).run) fun _ =>
  aC (dh (EB f b g c d a) ((0:Int),0,e)) fun (h,i) =>
  (EC c d a h i).run)) fun j =>
  (ad4 a j).run
theorem ad5(b:List Int)(c:Nat)(d:List Int)(e:Nat)(a:Nat)(f:Nat)(g:List Int) :Sg prog [] MV (Ex b c d e a (f,g)) (ED b c d e a (f,g)) (Ex b c d e a) (cy 0 (Ey a) zg):=by
  unfold ED;exact Sg.cut 2 (az jq) (bj ik (adY b c d e a f g) [⟨[],[0],[5,6,7,8]⟩,⟨[],[0],[7]⟩]) (fun _=>Sg.cut 1 (az jq) (sgb (MW b c d e a f) 1 (az jq) (cD (by decide) (HV _)) (Sg.cut 2 (az (az jq)) (bj ik (ad0 b c d e a f g) [⟨[],[0],[5,6,7,8,9,10]⟩]) (fun _=>Sg.cut 1 (az (az jq)) (AD ⟨[],[0],[5,6,7,8,9,10]⟩ (EA b c d e a f) (MX b c d e a f) 2 (az (az jq)) (cD (by decide) (cD (by decide) (HV _))) (fun ⟨h,i,j⟩=>ad3 b c d e a f h i j)) (fun ⟨k,l⟩=>bj ik _ [⟨[],[0],[5,6,7,8]⟩])))) (fun m=>bj ik _ [⟨[],[0],[5,6,7,8]⟩]))
def ad6:(List Int)×Nat→aQ:=fun (a,b)=>⟨an 71 [(4,.imm .free (.ns .u64 a) 1 1 0 b)],[],0⟩
def MY(a:Nat)(b:List Int) :T (((List Int)×Nat)⊕(dW)) :=
  .need (aG 0 a b)<|.need (p8 (iH (ab 0 a b)))<|.leaf (.inl ((pJ (iH (ab 0 a b))),(pK (iH (ab 0 a b)))))
def ad7(a:List Int)(b:Nat) :T ((Empty)⊕(dW)) :=
  .leaf (.inr (.r0 a b))
def dB(d:List Int)(e:List Int) :Option dW:=jM (aC ((MU d e).run) fun (f,a,g,b) =>
  aC ((Ew a b).run) fun (c,h) =>
  aC (dh (ED f a g b c) (0,h)) fun i =>
  aC ((MY c i).run) fun (j,k) =>
  (ad7 j k).run)
theorem ajz(i:Lv)(a:List Int)(j:Lv)(b:List Int){x:dW}(h:dB a b=some x) :ay prog Dd [] [.imm i (.ns .u64 a) 1 1 0 (List.length a),.imm j (.ns .u64 b) 1 1 0 (List.length b)] (KA x) :=
  kf true KA zg h (Sg.cut 2 jq (bj ik ajx [⟨[],[],[5,6]⟩]) (fun ⟨c,d,e,f⟩=>Sg.cut 2 jq (bj ik (ajy c d e f) [⟨[],[96],[5,6,7,8]⟩]) (fun ⟨g,o⟩=>Sg.cut 1 jq (AD ⟨[],[0],[5,6,7,8]⟩ (Ex c d e f g) (Ey g) 0 jq (HV _) (fun ⟨k,l⟩=>ad5 c d e f g k l)) (fun p=>Sg.cut 1 jq (bj ik ad6 [⟨[],[],[4]⟩]) (fun ⟨q,r⟩=>bj ik _ [⟨[],[],[4]⟩])))))
    (fun x=>by cases x with | r0 m n=>exact jN [.imm .free (.ns .u64 m) 1 1 0 n])
def rD:Option dW→Bool
  | some _=>true
  | none=>false
def fW:Option dW→List Int
  | some (.r0 x _)=>x
  | _=>[]
def fZ:Option dW→Nat
  | some (.r0 _ x)=>x
  | _=>0
theorem ajA{x:Option dW}(h:rD x=true) :x=some (.r0 (fW x) (fZ x)):=by
  unfold rD at h
  split at h<;>first | rfl | (cases h;done) | (rename_i y;cases y;rfl)
def Vx:aM:=bK Dd (.cons (.ns .u64) (.cons (.ns .u64) .nil)) fun t=>(fun q=>[⟨KA (.r0 (fW q) (fZ q)),[rD q]⟩]) (dB t.1.2 t.2.1.2)
theorem Z7:aY prog Vx:=aR fun t=>(aS (fun h=>ajz t.1.1 t.1.2 t.2.1.1 t.2.1.2 (ajA h)) bc)
def Vy:List aM:=Vx::Vw
theorem KB:be prog (bh Vy):=ax Z7 ik
inductive lP where
  | r0 (a:Nat) (b:List Int)
def ajB:lP→AE×aQ
  | .r0 a b=>(.ret,⟨an 17 [(2,.sl 0 1 1 0 a a)],[(0,.ns .u64 b)],1⟩)
def HW:lP→gM
  | .r0 a b=>⟨.imm .free (.ns .u64 b) 1 1 0 a,[]⟩
def MZ(a:Int) :T ((Empty)⊕(lP)) :=
  .need ((64:Int) != (0:Int))<|.need (di .i64 (Int.tdiv a (64:Int)))<|.need (di .i64 ((Int.tdiv a (64:Int))+(1:Int)))<|.need (decide ((0:Int)≤((Int.tdiv a (64:Int))+(1:Int))))<|.need (decide (((Int.tdiv a (64:Int))+(1:Int))≤((Int.tdiv a (64:Int))+(1:Int))))<|.need (decide ((8:Int)*((Int.tdiv a (64:Int))+(1:Int))≤140737488355328))<|.need (di .i64 ((Int.tdiv a (64:Int))+(1:Int)))<|.need ((64:Int) != (0:Int))<|.need (di .i64 (Int.tdiv a (64:Int)))<|.need ((64:Int) != (0:Int))<|.need (decide ((0:Int)≤(IntKind.u64.wrap (Int.tmod a (64:Int)))))<|.need (fv (Int.tdiv a (64:Int)) (Int.toNat ((Int.tdiv a (64:Int))+(1:Int))))<|.need (g9 (Int.toNat (Int.tdiv a (64:Int))) (List.length (List.replicate (Int.toNat ((Int.tdiv a (64:Int))+(1:Int))) (0:Int))))<|.leaf (.inr (.r0 (Int.toNat ((Int.tdiv a (64:Int))+(1:Int))) (List.set (List.replicate (Int.toNat ((Int.tdiv a (64:Int))+(1:Int))) (0:Int)) (Int.toNat (Int.tdiv a (64:Int))) (IntKind.u64.wrap ((1:Int)*2^(min (Int.toNat (IntKind.u64.wrap (Int.tmod a (64:Int)))) (IntKind.u64.bits)))))))
def iI(a:Int) :Option lP:=jM ((MZ a).run)
theorem ad8(a:Int){x:lP}(h:iI a=some x) :ay prog G6 [] [.int .i64 a] (HW x) :=
  kf true HW ajB h (bj KB _ [⟨[],[64],[2]⟩])
    (fun x=>by cases x with | r0 b c=>exact jN [.sl 0 1 1 0 b b])
def sv:Option lP→Bool
  | some _=>true
  | none=>false
def lq:Option lP→Nat
  | some (.r0 x _)=>x
  | _=>0
def lr:Option lP→List Int
  | some (.r0 _ x)=>x
  | _=>[]
theorem ad9{x:Option lP}(h:sv x=true) :x=some (.r0 (lq x) (lr x)):=by
  unfold sv at h
  split at h<;>first | rfl | (cases h;done) | (rename_i y;cases y;rfl)
def Rn:aM:=bK G6 (.cons (.int .i64) .nil) fun t=>(fun q=>[⟨HW (.r0 (lq q) (lr q)),[sv q]⟩]) (iI t.1)
theorem WN:aY prog Rn:=aR fun t=>(aS (fun h=>ad8 t.1 (ad9 h)) bc)
def Ro:List aM:=Rn::Vy
theorem zJ:be prog (bh Ro):=ax WN KB
inductive l8 where
  | r0 (a:List Int) (b:Nat)
def Vz:l8→AE×aQ
  | .r0 a b=>(.ret,⟨an 9 [(4,.imm .free (.ns .u64 a) 1 1 0 b)],[],0⟩)
theorem ajC:jJ Vz:=by intro x;cases x<;>(intro h;cases h)
def KC:l8→gM
  | .r0 a b=>⟨.imm .free (.ns .u64 a) 1 1 0 b,[]⟩
def ajD:(List Int)×Nat→aQ:=fun (a,b)=>⟨an 9 [(4,.imm .free (.ns .u64 a) 1 1 0 b)],[],0⟩
def Rp(b:List Int)(a:Int) :T (((List Int)×Nat)⊕(l8)) :=
  .need (sv (iI a))<|.need (aG 0 (List.length b) b)<|.need (aG 0 (lq (iI a)) (lr (iI a)))<|.need (rD (dB (ab 0 (List.length b) b) (ab 0 (lq (iI a)) (lr (iI a)))))<|.leaf (.inl ((fW (dB (ab 0 (List.length b) b) (ab 0 (lq (iI a)) (lr (iI a))))),(fZ (dB (ab 0 (List.length b) b) (ab 0 (lq (iI a)) (lr (iI a)))))))
def ajE(a:List Int)(b:Nat) :T ((Empty)⊕(l8)) :=
  .leaf (.inr (.r0 a b))
def kS(a:List Int)(b:Int) :Option l8:=jM (aC ((Rp a b).run) fun (c,d) =>
  (ajE c d).run)
theorem ajF(c:Lv)(a:List Int)(b:Int){x:l8}(h:kS a b=some x) :ay prog JQ [] [.imm c (.ns .u64 a) 1 1 0 (List.length a),.int .i64 b] (KC x) :=
  kf true KC Vz h (Sg.cut 2 ajC (bj zJ ajD [⟨[],[],[4]⟩]) (fun ⟨f,g⟩=>bj zJ _ [⟨[],[],[4]⟩]))
    (fun x=>by cases x with | r0 d e=>exact jN [.imm .free (.ns .u64 d) 1 1 0 e])
def vN:Option l8→Bool
  | some _=>true
  | none=>false
def vO:Option l8→List Int
  | some (.r0 x _)=>x
  | _=>[]
def vP:Option l8→Nat
  | some (.r0 _ x)=>x
  | _=>0
theorem ajG{x:Option l8}(h:vN x=true) :x=some (.r0 (vO x) (vP x)):=by
  unfold vN at h
  split at h<;>first | rfl | (cases h;done) | (rename_i y;cases y;rfl)
def VA:aM:=bK JQ (.cons (.ns .u64) (.cons (.int .i64) .nil)) fun t=>(fun q=>[⟨KC (.r0 (vO q) (vP q)),[vN q]⟩]) (kS t.1.2 t.2.1)
theorem Z8:aY prog VA:=aR fun t=>(aS (fun h=>ajF t.1.1 t.1.2 t.2.1 (ajG h)) bc)
def VB:List aM:=VA::Ro
theorem qL:be prog (bh VB):=ax Z8 zJ
inductive iJ where
  | r0 (a:Int)
def AP:iJ→AE×aQ
  | .r0 a=>(.ret,⟨an 27 [(2,.int .i64 a)],[],0⟩)
theorem yI:jJ AP:=by intro x;cases x<;>(intro h;cases h)
theorem aea(id:Nat) :mP id AP:=by intro x;cases x<;>(intro h;cases h)
def HX:iJ→gM
  | .r0 a=>⟨.int .i64 a,[]⟩
def aeb:List Code:=cN (oa AB)
def aec:(List Int)×Nat→aQ:=fun (a,b)=>⟨an 27 [(0,.imm .free (.ns .u64 a) 1 1 0 b)],[],0⟩
def EE(a:List Int) :T (((List Int)×Nat)⊕(iJ)) :=
  .need (aG 0 (List.length a) a)<|.need (kG (df (ab 0 (List.length a) a)))<|.leaf (.inl ((jP (df (ab 0 (List.length a) a))),(jO (df (ab 0 (List.length a) a)))))
def aed:Int×Int→aQ:=fun (a,b)=>⟨an 27 [(3,.int .i64 a),(4,.int .u64 b)],[],0⟩
def EF(b:List Int)(a:Nat) :T ((Int×Int)⊕(iJ)) :=
  .ask (((a:Nat):Int)==(0:Int))
    (.leaf (.inr (.r0 (0:Int))))
    (.need (di .i64 (((a:Nat):Int)-(1:Int)))<|.need (di .i64 ((64:Int)*(((a:Nat):Int)-(1:Int))))<|.need (di .i64 (((a:Nat):Int)-(1:Int)))<|.need (fv (((a:Nat):Int)-(1:Int)) a)<|.need (g9 (Int.toNat (((a:Nat):Int)-(1:Int))) (List.length b))<|.leaf (.inl (((64:Int)*(((a:Nat):Int)-(1:Int))),(List.getD b (Int.toNat (((a:Nat):Int)-(1:Int))) 0))))
def EG:Int×Int→aQ:=fun (a,b)=>⟨an 27 [(3,.int .i64 a),(4,.int .u64 b)],[],0⟩
def M0(a:Int) :aQ:=⟨an 27 [(3,.int .i64 a)],[],0⟩
def Z9:List Code:=cN (dn (((((aeb.drop 2).drop 4).take 1)).headD .skip))
def vQ(a:Int)(b:Int) :T ((Int×Int)⊕((Int)⊕(iJ))) :=
  .ask (decide (b>(0:Int)))
    (.need (di .i64 (a+(1:Int)))<|.need ((2:Int) != (0:Int))<|.leaf (.inl ((a+(1:Int)),(IntKind.u64.wrap (Int.tdiv b (2:Int))))))
    (.leaf (.inr (.inl a)))
def BL:Int×Int→Option ((Int×Int)⊕((Int)⊕(iJ))):=fun (a,b) =>
  (vQ a b).run
theorem aaa(a:Int)(b:Int) :Sg prog [] Z9 (EG (a,b)) (BL (a,b)) EG (cy 0 M0 AP):=by
  unfold BL;exact bj qL _ [⟨[],[],[3,4]⟩,⟨[],[],[3]⟩]
def aab(a:Int) :T ((Empty)⊕(iJ)) :=
  .leaf (.inr (.r0 a))
def pd(a:List Int) :Option iJ:=jM (aC ((EE a).run) fun (b,c) =>
  aC ((EF b c).run) fun (d,e) =>
  aC (dh (BL) (d,e)) fun f =>
  (aab f).run)
theorem aee(b:Lv)(a:List Int){x:iJ}(h:pd a=some x) :ay prog AB [] [.imm b (.ns .u64 a) 1 1 0 (List.length a)] (HX x) :=
  kf true HX AP h (Sg.cut 2 yI (bj qL aec [⟨[],[],[0]⟩]) (fun ⟨f,g⟩=>Sg.cut 4 yI (bj qL aed [⟨[],[],[2]⟩,⟨[],[],[3,4]⟩]) (fun ⟨i,j⟩=>Sg.cut 1 yI (AD ⟨[],[],[3,4]⟩ (EG) (M0) 0 yI (aea _) (fun ⟨c,d⟩=>aaa c d)) (fun k=>bj qL _ [⟨[],[],[2]⟩]))))
    (fun x=>by cases x with | r0 e=>exact jN [.int .i64 e])
def sw:Option iJ→Bool
  | some _=>true
  | none=>false
def tQ:Option iJ→Int
  | some (.r0 x)=>x
  | _=>0
theorem aef{x:Option iJ}(h:sw x=true) :x=some (.r0 (tQ x)):=by
  unfold sw at h
  split at h<;>first | rfl | (cases h;done) | (rename_i y;cases y;rfl)
def Rq:aM:=bK AB (.cons (.ns .u64) .nil) fun t=>(fun q=>[⟨HX (.r0 (tQ q)),[sw q]⟩]) (pd t.1.2)
theorem WO:aY prog Rq:=aR fun t=>(aS (fun h=>aee t.1.1 t.1.2 (aef h)) bc)
def Rr:List aM:=Rq::VB
theorem zK:be prog (bh Rr):=ax WO qL
inductive nw where
  | r0 (a:Bool)
def VC:nw→AE×aQ
  | .r0 a=>(.ret,⟨an 27 [(4,.bool false a)],[],0⟩)
theorem ajH:jJ VC:=by intro x;cases x<;>(intro h;cases h)
def KD:nw→gM
  | .r0 a=>⟨.bool false a,[]⟩
def ajI(a:Bool) :aQ:=⟨an 27 [(4,.bool false a)],[],0⟩
def Rs(b:List Int)(a:Int) :T ((Bool)⊕(nw)) :=
  .ask (decide (a≥(0:Int)))
    (.need ((64:Int) != (0:Int))<|.need (di .i64 (Int.tdiv a (64:Int)))<|.ask (decide ((Int.tdiv a (64:Int))<(((List.length b):Nat):Int)))
      (.need ((64:Int) != (0:Int))<|.need (di .i64 (Int.tdiv a (64:Int)))<|.need (fv (Int.tdiv a (64:Int)) (List.length b))<|.need (g9 (Int.toNat (Int.tdiv a (64:Int))) (List.length b))<|.need ((64:Int) != (0:Int))<|.need (decide ((0:Int)≤(IntKind.u64.wrap (Int.tmod a (64:Int)))))<|.need ((2:Int) != (0:Int))<|.leaf (.inl ((Int.tmod (Int.fdiv (List.getD b (Int.toNat (Int.tdiv a (64:Int))) 0) (2^(min (Int.toNat (IntKind.u64.wrap (Int.tmod a (64:Int)))) (IntKind.u64.bits)))) (2:Int))==(1:Int))))
      (.leaf (.inl false)))
    (.leaf (.inl false))
def ajJ(a:Bool) :T ((Empty)⊕(nw)) :=
  .leaf (.inr (.r0 a))
def nA(a:List Int)(b:Int) :Option nw:=jM (aC ((Rs a b).run) fun c =>
  (ajJ c).run)
theorem ajK(c:Lv)(a:List Int)(b:Int){x:nw}(h:nA a b=some x) :ay prog JP [] [.imm c (.ns .u64 a) 1 1 0 (List.length a),.int .i64 b] (KD x) :=
  kf true KD VC h (Sg.cut 2 ajH (bj zK ajI [⟨[],[],[4]⟩,⟨[],[],[4]⟩,⟨[],[],[4]⟩]) (fun e=>bj zK _ [⟨[],[],[4]⟩]))
    (fun x=>by cases x with | r0 d=>exact jN [.bool false d])
def pe:Option nw→Bool
  | some _=>true
  | none=>false
def oD:Option nw→Bool
  | some (.r0 x)=>x
  | _=>false
theorem ajL{x:Option nw}(h:pe x=true) :x=some (.r0 (oD x)):=by
  unfold pe at h
  split at h<;>first | rfl | (cases h;done) | (rename_i y;cases y;rfl)
def VD:aM:=bK JP (.cons (.ns .u64) (.cons (.int .i64) .nil)) fun t=>(fun q=>[⟨KD (.r0 (oD q)),[pe q]⟩]) (nA t.1.2 t.2.1)
theorem aac:aY prog VD:=aR fun t=>(aS (fun h=>ajK t.1.1 t.1.2 t.2.1 (ajL h)) bc)
def VE:List aM:=VD::Rr
theorem f4:be prog (bh VE):=ax aac zK
inductive dC where
  | r0 (a:List Int) (b:Nat) (c:Bool)
def zh:dC→AE×aQ
  | .r0 a b c=>(.ret,⟨an 68 [(4,.imm .free (.ns .u64 a) 1 1 0 b),(5,.bool false c)],[],0⟩)
theorem jr:jJ zh:=by intro x;cases x<;>(intro h;cases h)
theorem Rt(id:Nat) :mP id zh:=by intro x;cases x<;>(intro h;cases h)
def KE:dC→gM
  | .r0 a b c=>⟨.tup [.imm .free (.ns .u64 a) 1 1 0 b,.bool false c],[]⟩
def M1:List Code:=cN (oa C8)
def ajM(b:Lv)(a:List Int)(c:Int) :Bool×Int→aQ:=fun (d,e)=>⟨an 68 [(0,.imm b (.ns .u64 a) 1 1 0 (List.length a)),(1,.int .i64 c),(6,.bool false d),(7,.int .i64 e)],[],0⟩
def EH(a:List Int) :T ((Bool×Int)⊕(dC)) :=
  .need (aG 0 (List.length a) a)<|.need (sw (pd (ab 0 (List.length a) a)))<|.leaf (.inl (false,(tQ (pd (ab 0 (List.length a) a)))))
def ajN(b:Lv)(a:List Int)(c:Int)(d:Bool)(e:Int)(_:Unit) :aQ:=⟨an 68 [(0,.imm b (.ns .u64 a) 1 1 0 (List.length a)),(1,.int .i64 c),(6,.bool false d),(7,.int .i64 e),(8,.int .i64 (0:Int))],[],0⟩
def aeg:T ((Unit)⊕(dC)) :=
  .leaf (.inl ())
def HY(b:Lv)(a:List Int)(c:Int)(d:Int) :Bool×Nat→aQ:=fun (e,f)=>⟨an 68 [(0,.imm b (.ns .u64 a) 1 1 0 (List.length a)),(1,.int .i64 c),(6,.bool false e),(7,.int .i64 d),(8,.int .i64 ((f:Nat):Int))],[],0⟩
def Ru(b:Lv)(a:List Int)(c:Int)(d:Int)(e:Bool) :aQ:=⟨an 68 [(0,.imm b (.ns .u64 a) 1 1 0 (List.length a)),(1,.int .i64 c),(6,.bool false e),(7,.int .i64 d)],[],0⟩
def aeh:List Code:=cN (dn (((((M1.drop 3).drop 1).take 1)).headD .skip))
def ajO(b:Lv)(a:List Int)(c:Int)(d:Int)(e:Bool)(f:Nat)(g:Bool) :aQ:=⟨an 68 [(0,.imm b (.ns .u64 a) 1 1 0 (List.length a)),(1,.int .i64 c),(6,.bool false e),(7,.int .i64 d),(8,.int .i64 ((f:Nat):Int)),(20,.bool false g)],[],0⟩
def sA(b:Int)(c:Int)(a:Nat) :T ((Bool)⊕((Bool)⊕(dC))) :=
  .ask (decide (((a:Nat):Int)<b))
    (.leaf (.inl (decide (((a:Nat):Int)<c))))
    (.leaf (.inl false))
def ajP(b:Lv)(a:List Int)(c:Int)(d:Int)(e:Nat)(f:Bool) :aQ:=⟨an 68 [(0,.imm b (.ns .u64 a) 1 1 0 (List.length a)),(1,.int .i64 c),(6,.bool false f),(7,.int .i64 d),(8,.int .i64 ((e:Nat):Int))],[],0⟩
def EI(a:List Int)(b:Bool)(c:Nat)(d:Bool) :T ((Bool)⊕((Bool)⊕(dC))) :=
  .ask d
    (.ask b
      (.leaf (.inl true))
      (.need (aG 0 (List.length a) a)<|.need (pe (nA (ab 0 (List.length a) a) ((c:Nat):Int)))<|.leaf (.inl (oD (nA (ab 0 (List.length a) a) ((c:Nat):Int))))))
    (.leaf (.inr (.inl b)))
def aei(a:Nat)(b:Bool) :T ((Bool×Nat)⊕((Bool)⊕(dC))) :=
  .need (di .i64 (((a+1):Nat):Int))<|.leaf (.inl (b,(a+1)))
def yJ(b:List Int)(c:Int)(d:Int) :Bool×Nat→Option ((Bool×Nat)⊕((Bool)⊕(dC))):=fun (e,a) =>
  aC ((sA c d a).run) fun f =>
  aC ((EI b e a f).run) fun g =>
  (aei a g).run
theorem aej(d:Lv)(a:List Int)(b:Int)(c:Int)(f:Bool)(e:Nat) :Sg prog [] aeh (HY d a b c (f,e)) (yJ a b c (f,e)) (HY d a b c) (cy 0 (Ru d a b c) zh):=by
  unfold yJ;exact Sg.cut 1 (az jr) (bj f4 (ajO d a b c f e) [⟨[],[],[0,1,6,7,8,20]⟩,⟨[],[],[0,1,6,7,8,20]⟩]) (fun g=>Sg.cut 2 (az jr) (bj f4 (ajP d a b c e) [⟨[],[],[0,1,6,7,8]⟩,⟨[],[],[0,1,6,7,8]⟩,⟨[],[],[0,1,6,7]⟩]) (fun h=>bj f4 _ [⟨[],[],[0,1,6,7,8]⟩]))
def aek(c:Lv)(a:List Int)(b:Int)(d:Int)(e:Bool)(f:(List Int)) :aQ:=⟨an 68 [(0,.imm c (.ns .u64 a) 1 1 0 (List.length a)),(1,.int .i64 b),(6,.bool false e),(7,.int .i64 d),(9,.sl 0 1 1 0 (List.length a) (List.length a)),(10,.int .i64 b)],[(0,.ns .u64 f)],1⟩
def EJ(a:List Int)(b:Int)(c:Int)(d:Bool) :T (((List Int))⊕(dC)) :=
  .ask (decide (b≥c))
    (.leaf (.inr (.r0 ([]:List Int) 0 d)))
    (.need (decide ((0:Int)≤(((List.length a):Nat):Int)))<|.need (decide ((((List.length a):Nat):Int)≤(((List.length a):Nat):Int)))<|.need (decide ((8:Int)*(((List.length a):Nat):Int)≤140737488355328))<|.need (di .i64 (((List.length a):Nat):Int))<|.leaf (.inl (List.replicate (List.length a) (0:Int))))
def EK(b:Lv)(a:List Int)(c:Int)(d:Int)(e:Bool) :Int×(List Int)→aQ:=fun (f,g)=>⟨an 68 [(0,.imm b (.ns .u64 a) 1 1 0 (List.length a)),(1,.int .i64 c),(6,.bool false e),(7,.int .i64 d),(9,.sl 0 1 1 0 (List.length a) (List.length a)),(10,.int .i64 f)],[(0,.ns .u64 g)],1⟩
def M2(a:List Int)(b:Bool)(c:(List Int)) :aQ:=⟨an 68 [(6,.bool false b),(9,.sl 0 1 1 0 (List.length a) (List.length a))],[(0,.ns .u64 c)],1⟩
def ael:List Code:=cN (dn (((((((M1.drop 3).drop 1).drop 1).drop 4).take 1)).headD .skip))
def aem(b:Lv)(a:List Int)(c:Int)(d:Int)(e:Bool)(f:Int)(g:(List Int)) :aQ:=⟨an 68 [(0,.imm b (.ns .u64 a) 1 1 0 (List.length a)),(1,.int .i64 c),(6,.bool false e),(7,.int .i64 d),(9,.sl 0 1 1 0 (List.length a) (List.length a)),(10,.int .i64 f)],[(0,.ns .u64 g)],1⟩
def yK(c:List Int)(b:Int)(e:Int)(a:Int)(d:List Int) :T (((List Int))⊕(((List Int))⊕(dC))) :=
  .ask (decide (a<e))
    (.need (aG 0 (List.length c) c)<|.need (pe (nA (ab 0 (List.length c) c) a))<|.ask (oD (nA (ab 0 (List.length c) c) a))
      (.need (di .i64 (a-b))<|.need ((64:Int) != (0:Int))<|.need (di .i64 (Int.tdiv (a-b) (64:Int)))<|.need (di .i64 (a-b))<|.need ((64:Int) != (0:Int))<|.need (di .i64 (Int.tdiv (a-b) (64:Int)))<|.need (fv (Int.tdiv (a-b) (64:Int)) (List.length c))<|.need (g9 (Int.toNat (Int.tdiv (a-b) (64:Int))) (List.length d))<|.need (di .i64 (a-b))<|.need ((64:Int) != (0:Int))<|.need (decide ((0:Int)≤(IntKind.u64.wrap (Int.tmod (a-b) (64:Int)))))<|.need (fv (Int.tdiv (a-b) (64:Int)) (List.length c))<|.need (g9 (Int.toNat (Int.tdiv (a-b) (64:Int))) (List.length d))<|.leaf (.inl (List.set d (Int.toNat (Int.tdiv (a-b) (64:Int))) (IntKind.u64.wrap ((List.getD d (Int.toNat (Int.tdiv (a-b) (64:Int))) 0)+(IntKind.u64.wrap ((1:Int)*2^(min (Int.toNat (IntKind.u64.wrap (Int.tmod (a-b) (64:Int)))) (IntKind.u64.bits)))))))))
      (.leaf (.inl d)))
    (.leaf (.inr (.inl d)))
def aen(a:Int)(b:List Int) :T ((Int×(List Int))⊕(((List Int))⊕(dC))) :=
  .need (di .i64 (a+(1:Int)))<|.leaf (.inl ((a+(1:Int)),b))
def EL(b:List Int)(c:Int)(d:Int) :Int×(List Int)→Option ((Int×(List Int))⊕(((List Int))⊕(dC))):=fun (a,e) =>
  aC ((yK b c d a e).run) fun f =>
  (aen a f).run
theorem aeo(e:Lv)(a:List Int)(b:Int)(c:Int)(d:Bool)(f:Int)(g:List Int) :Sg prog [] ael (EK e a b c d (f,g)) (EL a b c (f,g)) (EK e a b c d) (cy 2 (M2 a d) zh):=by
  unfold EL;exact Sg.cut 3 (az jr) (bj f4 (aem e a b c d f) [⟨[],[0],[0,1,6,7,9,10]⟩,⟨[],[0],[0,1,6,7,9,10]⟩,⟨[],[0],[6,9]⟩]) (fun h=>bj f4 _ [⟨[],[0],[0,1,6,7,9,10]⟩])
def aep(a:Bool) :(List Int)×Nat→aQ:=fun (b,c)=>⟨an 68 [(4,.imm .free (.ns .u64 b) 1 1 0 c),(5,.bool false a)],[],0⟩
def M3(a:List Int)(b:List Int) :T (((List Int)×Nat)⊕(dC)) :=
  .need (aG 0 (List.length a) b)<|.need (kG (df (ab 0 (List.length a) b)))<|.leaf (.inl ((jP (df (ab 0 (List.length a) b))),(jO (df (ab 0 (List.length a) b)))))
def aeq(a:Bool)(b:List Int)(c:Nat) :T ((Empty)⊕(dC)) :=
  .leaf (.inr (.r0 b c a))
def uV(a:List Int)(b:Int) :Option dC:=jM (aC ((EH a).run) fun (e,c) =>
  aC ((aeg).run) fun _ =>
  aC (dh (yJ a b c) (e,0)) fun d =>
  aC ((EJ a b c d).run) fun f =>
  aC (dh (EL a b c) (b,f)) fun g =>
  aC ((M3 a g).run) fun (h,i) =>
  (aeq d h i).run)
theorem ajQ(c:Lv)(a:List Int)(b:Int){x:dC}(h:uV a b=some x) :ay prog C8 [] [.imm c (.ns .u64 a) 1 1 0 (List.length a),.int .i64 b] (KE x) :=
  kf true KE zh h (Sg.cut 3 jr (bj f4 (ajM c a b) [⟨[],[],[0,1,6,7]⟩]) (fun ⟨f,d⟩=>Sg.cut 1 jr (bj f4 (ajN c a b f d) [⟨[],[],[0,1,6,7,8]⟩]) (fun _=>Sg.cut 1 jr (AD ⟨[],[],[0,1,6,7,8]⟩ (HY c a b d) (Ru c a b d) 0 jr (Rt _) (fun ⟨g,i⟩=>aej c a b d g i)) (fun e=>Sg.cut 4 jr (bj f4 (aek c a b d e) [⟨[(.slot 4,.fre 1 1 (.ns .u64 ([]:List Int)))],[],[4,5]⟩,⟨[],[80],[0,1,6,7,9,10]⟩]) (fun o=>Sg.cut 1 jr (AD ⟨[],[0],[0,1,6,7,9,10]⟩ (EK c a b d e) (M2 a e) 2 jr (Rt _) (fun ⟨j,k⟩=>aeo c a b d e j k)) (fun p=>Sg.cut 1 jr (bj f4 (aep e) [⟨[],[],[4,5]⟩]) (fun ⟨q,r⟩=>bj f4 _ [⟨[],[],[4,5]⟩])))))))
    (fun x=>by cases x with | r0 l m n=>exact jN [.imm .free (.ns .u64 l) 1 1 0 m,.bool false n])
def AQ:Option dC→Bool
  | some _=>true
  | none=>false
def BM:Option dC→List Int
  | some (.r0 x _ _)=>x
  | _=>[]
def BN:Option dC→Nat
  | some (.r0 _ x _)=>x
  | _=>0
def KF:Option dC→Bool
  | some (.r0 _ _ x)=>x
  | _=>false
theorem ajR{x:Option dC}(h:AQ x=true) :x=some (.r0 (BM x) (BN x) (KF x)):=by
  unfold AQ at h
  split at h<;>first | rfl | (cases h;done) | (rename_i y;cases y;rfl)
def VF:aM:=bK C8 (.cons (.ns .u64) (.cons (.int .i64) .nil)) fun t=>(fun q=>[⟨KE (.r0 (BM q) (BN q) (KF q)),[AQ q]⟩]) (uV t.1.2 t.2.1)
theorem aad:aY prog VF:=aR fun t=>(aS (fun h=>ajQ t.1.1 t.1.2 t.2.1 (ajR h)) bc)
def VG:List aM:=VF::VE
theorem oE:be prog (bh VG):=ax aad f4
inductive fo where
  | r0 (a:Nat)
def yL:fo→AE×aQ
  | .r0 a=>(.ret,⟨an 16 [(2,.int .i64 ((a:Nat):Int))],[],0⟩)
theorem qM:jJ yL:=by intro x;cases x<;>(intro h;cases h)
theorem aae(id:Nat) :mP id yL:=by intro x;cases x<;>(intro h;cases h)
def EM:fo→gM
  | .r0 a=>⟨.int .i64 ((a:Nat):Int),[]⟩
def aaf:List Code:=cN (oa yr)
def aag(b:Lv)(a:List Int)(c:Int) :aQ:=⟨an 16 [(0,.imm b (.ns .u64 a) 1 1 0 (List.length a)),(3,.int .i64 c)],[],0⟩
def I0(a:List Int) :T ((Int)⊕(fo)) :=
  .need (aG 0 (List.length a) a)<|.need (sw (pd (ab 0 (List.length a) a)))<|.leaf (.inl (tQ (pd (ab 0 (List.length a) a))))
def aah(b:Lv)(a:List Int)(c:Int)(_:Unit) :aQ:=⟨an 16 [(0,.imm b (.ns .u64 a) 1 1 0 (List.length a)),(3,.int .i64 c),(4,.int .i64 (0:Int))],[],0⟩
def WP:T ((Unit)⊕(fo)) :=
  .leaf (.inl ())
def BO(b:Lv)(a:List Int)(c:Int)(d:Nat) :aQ:=⟨an 16 [(0,.imm b (.ns .u64 a) 1 1 0 (List.length a)),(3,.int .i64 c),(4,.int .i64 ((d:Nat):Int))],[],0⟩
def KG(_:Unit) :aQ:=⟨an 16 [],[],0⟩
def WQ:List Code:=cN (dn (((((aaf.drop 2).drop 1).take 1)).headD .skip))
def aai(b:Lv)(a:List Int)(c:Int)(d:Nat)(_:Unit) :aQ:=⟨an 16 [(0,.imm b (.ns .u64 a) 1 1 0 (List.length a)),(3,.int .i64 c),(4,.int .i64 ((d:Nat):Int))],[],0⟩
def pL(a:List Int)(c:Int)(b:Nat) :T ((Unit)⊕((Unit)⊕(fo))) :=
  .ask (decide (((b:Nat):Int)<c))
    (.need (aG 0 (List.length a) a)<|.need (pe (nA (ab 0 (List.length a) a) ((b:Nat):Int)))<|.ask (oD (nA (ab 0 (List.length a) a) ((b:Nat):Int)))
      (.leaf (.inr (.inr (.r0 b))))
      (.leaf (.inl ())))
    (.leaf (.inr (.inl ())))
def WR(a:Nat) :T ((Nat)⊕((Unit)⊕(fo))) :=
  .need (di .i64 (((a+1):Nat):Int))<|.leaf (.inl (a+1))
def zL(b:List Int)(c:Int) :Nat→Option ((Nat)⊕((Unit)⊕(fo))):=fun a =>
  aC ((pL b c a).run) fun _ =>
  (WR a).run
theorem WS(c:Lv)(a:List Int)(b:Int)(d:Nat) :Sg prog [] WQ (BO c a b d) (zL a b d) (BO c a b) (cy 0 KG yL):=by
  unfold zL;exact Sg.cut 3 (az qM) (bj oE (aai c a b d) [⟨[],[],[2]⟩,⟨[],[],[0,3,4]⟩,⟨[],[],[]⟩]) (fun _=>bj oE _ [⟨[],[],[0,3,4]⟩])
def WT:T ((Empty)⊕(fo)) :=
  .leaf (.inr (.r0 0))
def sB(a:List Int) :Option fo:=jM (aC ((I0 a).run) fun b =>
  aC ((WP).run) fun _ =>
  aC (dh (zL a b) 0) fun _ =>
  (WT).run)
theorem aaj(b:Lv)(a:List Int){x:fo}(h:sB a=some x) :ay prog yr [] [.imm b (.ns .u64 a) 1 1 0 (List.length a)] (EM x) :=
  kf true EM yL h (Sg.cut 2 qM (bj oE (aag b a) [⟨[],[],[0,3]⟩]) (fun c=>Sg.cut 1 qM (bj oE (aah b a c) [⟨[],[],[0,3,4]⟩]) (fun _=>Sg.cut 1 qM (AD ⟨[],[],[0,3,4]⟩ (BO b a c) (KG) 0 qM (aae _) (fun d=>WS b a c d)) (fun _=>bj oE _ [⟨[],[],[2]⟩]))))
    (fun x=>by cases x with | r0 e=>exact jN [.int .i64 ((e:Nat):Int)])
def vR:Option fo→Bool
  | some _=>true
  | none=>false
def xx:Option fo→Nat
  | some (.r0 x)=>x
  | _=>0
theorem aak{x:Option fo}(h:vR x=true) :x=some (.r0 (xx x)):=by
  unfold vR at h
  split at h<;>first | rfl | (cases h;done) | (rename_i y;cases y;rfl)
def M4:aM:=bK yr (.cons (.ns .u64) .nil) fun t=>(fun q=>[⟨EM (.r0 (xx q)),[vR q]⟩]) (sB t.1.2)
theorem TQ:aY prog M4:=aR fun t=>(aS (fun h=>aaj t.1.1 t.1.2 (aak h)) bc)
def M5:List aM:=M4::VG
theorem oF:be prog (bh M5):=ax TQ oE
inductive jR where
  | r0 (a:Int)
def DB:jR→AE×aQ
  | .r0 a=>(.ret,⟨an 45 [(4,.int .i64 a)],[],0⟩)
theorem AR:jJ DB:=by intro x;cases x<;>(intro h;cases h)
theorem ajS(id:Nat) :mP id DB:=by intro x;cases x<;>(intro h;cases h)
def KH:jR→gM
  | .r0 a=>⟨.int .i64 a,[]⟩
def ajT:List Code:=cN (oa Db)
def ajU:(List Int)×Nat×(List Int)×Nat→aQ:=fun (a,b,c,d)=>⟨an 45 [(0,.imm .free (.ns .u64 a) 1 1 0 b),(1,.imm .free (.ns .u64 c) 1 1 0 d)],[],0⟩
def Rv(a:List Int)(b:List Int) :T (((List Int)×Nat×(List Int)×Nat)⊕(jR)) :=
  .need (aG 0 (List.length a) a)<|.need (kG (df (ab 0 (List.length a) a)))<|.need (aG 0 (List.length b) b)<|.need (kG (df (ab 0 (List.length b) b)))<|.leaf (.inl ((jP (df (ab 0 (List.length a) a))),(jO (df (ab 0 (List.length a) a))),(jP (df (ab 0 (List.length b) b))),(jO (df (ab 0 (List.length b) b)))))
def ajV(a:List Int)(b:Nat)(c:List Int)(d:Nat)(e:Int) :aQ:=⟨an 45 [(0,.imm .free (.ns .u64 a) 1 1 0 b),(1,.imm .free (.ns .u64 c) 1 1 0 d),(5,.int .i64 e)],[],0⟩
def ajW(a:Nat)(b:Nat) :T ((Int)⊕(jR)) :=
  .ask (((a:Nat):Int) != ((b:Nat):Int))
    (.ask (decide (((a:Nat):Int)<((b:Nat):Int)))
      (.leaf (.inr (.r0 (-1:Int))))
      (.leaf (.inr (.r0 (1:Int)))))
    (.need (di .i64 (((a:Nat):Int)-(1:Int)))<|.leaf (.inl (((a:Nat):Int)-(1:Int))))
def HZ(a:List Int)(b:Nat)(c:List Int)(d:Nat)(e:Int) :aQ:=⟨an 45 [(0,.imm .free (.ns .u64 a) 1 1 0 b),(1,.imm .free (.ns .u64 c) 1 1 0 d),(5,.int .i64 e)],[],0⟩
def Rw(_:Unit) :aQ:=⟨an 45 [],[],0⟩
def aer:List Code:=cN (dn (((((ajT.drop 2).drop 3).take 1)).headD .skip))
def sC(b:List Int)(d:Nat)(c:List Int)(e:Nat)(a:Int) :T ((Int)⊕((Unit)⊕(jR))) :=
  .ask (decide (a≥(0:Int)))
    (.need (fv a d)<|.need (g9 (Int.toNat a) (List.length b))<|.need (fv a e)<|.need (g9 (Int.toNat a) (List.length c))<|.ask (decide ((List.getD b (Int.toNat a) 0)<(List.getD c (Int.toNat a) 0)))
      (.leaf (.inr (.inr (.r0 (-1:Int)))))
      (.need (fv a d)<|.need (g9 (Int.toNat a) (List.length b))<|.need (fv a e)<|.need (g9 (Int.toNat a) (List.length c))<|.ask (decide ((List.getD b (Int.toNat a) 0)>(List.getD c (Int.toNat a) 0)))
        (.leaf (.inr (.inr (.r0 (1:Int)))))
        (.need (di .i64 (a-(1:Int)))<|.leaf (.inl (a-(1:Int))))))
    (.leaf (.inr (.inl ())))
def yM(a:List Int)(b:Nat)(c:List Int)(d:Nat) :Int→Option ((Int)⊕((Unit)⊕(jR))):=fun e =>
  (sC a b c d e).run
theorem aes(a:List Int)(b:Nat)(c:List Int)(d:Nat)(e:Int) :Sg prog [] aer (HZ a b c d e) (yM a b c d e) (HZ a b c d) (cy 0 Rw DB):=by
  unfold yM;exact bj oF _ [⟨[],[],[4]⟩,⟨[],[],[4]⟩,⟨[],[],[0,1,5]⟩,⟨[],[],[]⟩]
def aet:T ((Empty)⊕(jR)) :=
  .leaf (.inr (.r0 (0:Int)))
def nB(c:List Int)(d:List Int) :Option jR:=jM (aC ((Rv c d).run) fun (e,a,f,b) =>
  aC ((ajW a b).run) fun g =>
  aC (dh (yM e a f b) g) fun _ =>
  (aet).run)
theorem ajX(g:Lv)(a:List Int)(i:Lv)(b:List Int){x:jR}(h:nB a b=some x) :ay prog Db [] [.imm g (.ns .u64 a) 1 1 0 (List.length a),.imm i (.ns .u64 b) 1 1 0 (List.length b)] (KH x) :=
  kf true KH DB h (Sg.cut 2 AR (bj oF ajU [⟨[],[],[0,1]⟩]) (fun ⟨c,d,e,f⟩=>Sg.cut 3 AR (bj oF (ajV c d e f) [⟨[],[],[4]⟩,⟨[],[],[4]⟩,⟨[],[],[0,1,5]⟩]) (fun l=>Sg.cut 1 AR (AD ⟨[],[],[0,1,5]⟩ (HZ c d e f) (Rw) 0 AR (ajS _) (fun j=>aes c d e f j)) (fun _=>bj oF _ [⟨[],[],[4]⟩]))))
    (fun x=>by cases x with | r0 k=>exact jN [.int .i64 k])
def rE:Option jR→Bool
  | some _=>true
  | none=>false
def qN:Option jR→Int
  | some (.r0 x)=>x
  | _=>0
theorem ajY{x:Option jR}(h:rE x=true) :x=some (.r0 (qN x)):=by
  unfold rE at h
  split at h<;>first | rfl | (cases h;done) | (rename_i y;cases y;rfl)
def VH:aM:=bK Db (.cons (.ns .u64) (.cons (.ns .u64) .nil)) fun t=>(fun q=>[⟨KH (.r0 (qN q)),[rE q]⟩]) (nB t.1.2 t.2.1.2)
theorem aal:aY prog VH:=aR fun t=>(aS (fun h=>ajX t.1.1 t.1.2 t.2.1.1 t.2.1.2 (ajY h)) bc)
def VI:List aM:=VH::M5
theorem qO:be prog (bh VI):=ax aal oF
inductive ja where
  | r0 (a:Bool)
def DC:ja→AE×aQ
  | .r0 a=>(.ret,⟨an 20 [(2,.bool false a)],[],0⟩)
theorem AS:jJ DC:=by intro x;cases x<;>(intro h;cases h)
theorem ajZ(id:Nat) :mP id DC:=by intro x;cases x<;>(intro h;cases h)
def KI:ja→gM
  | .r0 a=>⟨.bool false a,[]⟩
def aeu:List Code:=cN (oa De)
def aj0(b:Lv)(a:List Int)(_:Unit) :aQ:=⟨an 20 [(0,.imm b (.ns .u64 a) 1 1 0 (List.length a)),(3,.int .i64 (((List.length a):Nat):Int))],[],0⟩
def aev:T ((Unit)⊕(ja)) :=
  .leaf (.inl ())
def H0(b:Lv)(a:List Int)(c:Int) :aQ:=⟨an 20 [(0,.imm b (.ns .u64 a) 1 1 0 (List.length a)),(3,.int .i64 c)],[],0⟩
def Rx(a:Int) :aQ:=⟨an 20 [(3,.int .i64 a)],[],0⟩
def aew:List Code:=cN (dn ((((aeu.drop 2).take 1)).headD .skip))
def aj1(b:Lv)(a:List Int)(c:Int)(d:Bool) :aQ:=⟨an 20 [(0,.imm b (.ns .u64 a) 1 1 0 (List.length a)),(3,.int .i64 c),(15,.bool false d)],[],0⟩
def sD(b:List Int)(a:Int) :T ((Bool)⊕((Int)⊕(ja))) :=
  .ask (decide (a>(0:Int)))
    (.need (di .i64 (a-(1:Int)))<|.need (fv (a-(1:Int)) (List.length b))<|.need (g9 (Int.toNat (a-(1:Int))) (List.length b))<|.leaf (.inl ((List.getD b (Int.toNat (a-(1:Int))) 0)==(0:Int))))
    (.leaf (.inl false))
def M6(a:Int)(b:Bool) :T ((Int)⊕((Int)⊕(ja))) :=
  .ask b
    (.need (di .i64 (a-(1:Int)))<|.leaf (.inl (a-(1:Int))))
    (.leaf (.inr (.inl a)))
def EN(b:List Int) :Int→Option ((Int)⊕((Int)⊕(ja))):=fun a =>
  aC ((sD b a).run) fun c =>
  (M6 a c).run
theorem aex(b:Lv)(a:List Int)(c:Int) :Sg prog [] aew (H0 b a c) (EN a c) (H0 b a) (cy 0 Rx DC):=by
  unfold EN;exact Sg.cut 1 (az AS) (bj qO (aj1 b a c) [⟨[],[],[0,3,15]⟩,⟨[],[],[0,3,15]⟩]) (fun d=>bj qO _ [⟨[],[],[0,3]⟩,⟨[],[],[3]⟩])
def aey(a:Int) :T ((Empty)⊕(ja)) :=
  .leaf (.inr (.r0 (decide (a≤(4096:Int)))))
def zi(a:List Int) :Option ja:=jM (aC ((aev).run) fun _ =>
  aC (dh (EN a) (((List.length a):Nat):Int)) fun b =>
  (aey b).run)
theorem aj2(b:Lv)(a:List Int){x:ja}(h:zi a=some x) :ay prog De [] [.imm b (.ns .u64 a) 1 1 0 (List.length a)] (KI x) :=
  kf true KI DC h (Sg.cut 2 AS (bj qO (aj0 b a) [⟨[],[],[0,3]⟩]) (fun _=>Sg.cut 1 AS (AD ⟨[],[],[0,3]⟩ (H0 b a) (Rx) 0 AS (ajZ _) (fun c=>aex b a c)) (fun e=>bj qO _ [⟨[],[],[2]⟩])))
    (fun x=>by cases x with | r0 d=>exact jN [.bool false d])
def AT:Option ja→Bool
  | some _=>true
  | none=>false
def BP:Option ja→Bool
  | some (.r0 x)=>x
  | _=>false
theorem aj3{x:Option ja}(h:AT x=true) :x=some (.r0 (BP x)):=by
  unfold AT at h
  split at h<;>first | rfl | (cases h;done) | (rename_i y;cases y;rfl)
def VJ:aM:=bK De (.cons (.ns .u64) .nil) fun t=>(fun q=>[⟨KI (.r0 (BP q)),[AT q]⟩]) (zi t.1.2)
theorem aam:aY prog VJ:=aR fun t=>(aS (fun h=>aj2 t.1.1 t.1.2 (aj3 h)) bc)
def VK:List aM:=VJ::VI
theorem BQ:be prog (bh VK):=ax aam qO
inductive nC where
  | r0 (a:Bool)
def VL:nC→AE×aQ
  | .r0 a=>(.ret,⟨an 16 [(2,.bool false a)],[],0⟩)
theorem aj4:jJ VL:=by intro x;cases x<;>(intro h;cases h)
def KJ:nC→gM
  | .r0 a=>⟨.bool false a,[]⟩
def aj5(a:Bool) :aQ:=⟨an 16 [(2,.bool false a)],[],0⟩
def Ry(a:List Int)(b:Int) :T ((Bool)⊕(nC)) :=
  .need (aG 0 (List.length a) a)<|.need (AT (zi (ab 0 (List.length a) a)))<|.ask (BP (zi (ab 0 (List.length a) a)))
    (.ask (decide (b≥(-262144:Int)))
      (.leaf (.inl (decide (b≤(262144:Int)))))
      (.leaf (.inl false)))
    (.leaf (.inl false))
def aj6(a:Bool) :T ((Empty)⊕(nC)) :=
  .leaf (.inr (.r0 a))
def dM(a:List Int)(b:Int) :Option nC:=jM (aC ((Ry a b).run) fun c =>
  (aj6 c).run)
theorem aj7(c:Bool)(d:Lv)(a:List Int)(b:Int){x:nC}(h:dM a b=some x) :ay prog JM [] [.agg [.bool false c,.imm d (.ns .u64 a) 1 1 0 (List.length a),.int .i64 b]] (KJ x) :=
  kf true KJ VL h (Sg.cut 2 aj4 (bj BQ aj5 [⟨[],[],[2]⟩,⟨[],[],[2]⟩,⟨[],[],[2]⟩]) (fun f=>bj BQ _ [⟨[],[],[2]⟩]))
    (fun x=>by cases x with | r0 e=>exact jN [.bool false e])
def js:Option nC→Bool
  | some _=>true
  | none=>false
def il:Option nC→Bool
  | some (.r0 x)=>x
  | _=>false
theorem aj8{x:Option nC}(h:js x=true) :x=some (.r0 (il x)):=by
  unfold js at h
  split at h<;>first | rfl | (cases h;done) | (rename_i y;cases y;rfl)
def VM:aM:=bK JM (.cons (.agg (.cons .bool (.cons (.ns .u64) (.cons (.int .i64) .nil)))) .nil) fun t=>(fun q=>[⟨KJ (.r0 (il q)),[js q]⟩]) (dM t.1.2.1.2 t.1.2.2.1)
theorem aan:aY prog VM:=aR fun t=>(aS (fun h=>aj7 t.1.1 t.1.2.1.1 t.1.2.1.2 t.1.2.2.1 (aj8 h)) bc)
def VN:List aM:=VM::VK
theorem qP:be prog (bh VN):=ax aan BQ
inductive fG where
  | r0 (a:Bool) (b:List Int) (c:Nat) (d:Int)
def Rz:fG→AE×aQ
  | .r0 a b c d=>(.ret,⟨an 28 [(2,.ptr 0 1 0 0)],[(0,.vs [.bool false a,.imm .free (.ns .u64 b) 1 1 0 c,.int .i64 d])],1⟩)
theorem EO:jJ Rz:=by intro x;cases x<;>(intro h;cases h)
def H3:fG→gM
  | .r0 a b c d=>⟨.agg [.bool false a,.imm .free (.ns .u64 b) 1 1 0 c,.int .i64 d],[]⟩
def aez(b:Bool)(c:Lv)(a:List Int)(d:Int) :(List Int)×Nat×Bool→aQ:=fun (e,f,g)=>⟨an 28 [(1,.ptr 0 1 0 0),(2,.ptr 1 1 0 0),(3,.imm .free (.ns .u64 e) 1 1 0 f)],[(0,.vs [.bool false b,.imm c (.ns .u64 a) 1 1 0 (List.length a),.int .i64 d]),(1,.vs [.bool false g,.nsl,.int .i64 (0:Int)])],2⟩
def EP(a:List Int) :T (((List Int)×Nat×Bool)⊕(fG)) :=
  .need (aG 0 (List.length a) a)<|.need (kG (df (ab 0 (List.length a) a)))<|.leaf (.inl ((jP (df (ab 0 (List.length a) a))),(jO (df (ab 0 (List.length a) a))),false))
def aeA(b:Bool)(c:Lv)(a:List Int)(d:Int)(e:List Int)(f:Nat)(g:Bool)(h:Nat) :aQ:=⟨an 28 [(1,.ptr 0 1 0 0),(2,.ptr 1 1 0 0),(3,.imm .free (.ns .u64 e) 1 1 0 f),(4,.int .i64 ((h:Nat):Int))],[(0,.vs [.bool false b,.imm c (.ns .u64 a) 1 1 0 (List.length a),.int .i64 d]),(1,.vs [.bool false g,.nsl,.int .i64 (0:Int)])],2⟩
def EQ(b:List Int)(a:Nat) :T ((Nat)⊕(fG)) :=
  .ask (((a:Nat):Int)==(0:Int))
    (.leaf (.inr (.r0 false ([]:List Int) 0 (0:Int))))
    (.need (aG 0 a b)<|.need (vR (sB (ab 0 a b)))<|.leaf (.inl (xx (sB (ab 0 a b)))))
def aeB(b:Bool)(c:Lv)(a:List Int)(d:Int)(e:Bool)(f:Nat) :(List Int)×Nat→aQ:=fun (g,h)=>⟨an 28 [(1,.ptr 0 1 0 0),(2,.ptr 1 1 0 0),(3,.imm .free (.ns .u64 g) 1 1 0 h),(4,.int .i64 ((f:Nat):Int))],[(0,.vs [.bool false b,.imm c (.ns .u64 a) 1 1 0 (List.length a),.int .i64 d]),(1,.vs [.bool false e,.nsl,.int .i64 (0:Int)])],2⟩
def ER(a:List Int)(b:Nat)(c:Nat) :T (((List Int)×Nat)⊕(fG)) :=
  .need (aG 0 b a)<|.need (AQ (uV (ab 0 b a) ((c:Nat):Int)))<|.leaf (.inl ((BM (uV (ab 0 b a) ((c:Nat):Int))),(BN (uV (ab 0 b a) ((c:Nat):Int)))))
def aeC(c:Bool)(a:Int)(b:Nat)(d:List Int)(e:Nat) :T ((Empty)⊕(fG)) :=
  .need (di .i64 (a+((b:Nat):Int)))<|.leaf (.inr (.r0 c d e (a+((b:Nat):Int))))
def bd(d:Bool)(e:List Int)(f:Int) :Option fG:=jM (aC ((EP e).run) fun (a,b,i) =>
  aC ((EQ a b).run) fun c =>
  aC ((ER a b c).run) fun (g,h) =>
  (aeC d f c g h).run)
theorem aeD(b:Bool)(d:Lv)(a:List Int)(c:Int){x:fG}(h:bd b a c=some x) :ay prog GZ [] [.agg [.bool false b,.imm d (.ns .u64 a) 1 1 0 (List.length a),.int .i64 c]] (H3 x) :=
  kf true H3 Rz h (Sg.cut 2 EO (bj qP (aez b d a c) [⟨[],[0,16],[1,2,3]⟩]) (fun ⟨f,g,e⟩=>Sg.cut 3 EO (bj qP (aeA b d a c f g e) [⟨[(.cell 1 1,.fre 1 1 (.ns .u64 ([]:List Int)))],[1],[2]⟩,⟨[],[0,1],[1,2,3,4]⟩]) (fun i=>Sg.cut 1 EO (bj qP (aeB b d a c e i) [⟨[],[0,1],[1,2,3,4]⟩]) (fun ⟨n,o⟩=>bj qP _ [⟨[],[1],[2]⟩]))))
    (fun x=>by cases x with | r0 j k l m=>exact jN [.agg [.bool false j,.imm .free (.ns .u64 k) 1 1 0 l,.int .i64 m]])
def fp:Option fG→Bool
  | some _=>true
  | none=>false
def eF:Option fG→Bool
  | some (.r0 x _ _ _)=>x
  | _=>false
def eG:Option fG→List Int
  | some (.r0 _ x _ _)=>x
  | _=>[]
def eI:Option fG→Nat
  | some (.r0 _ _ x _)=>x
  | _=>0
def eJ:Option fG→Int
  | some (.r0 _ _ _ x)=>x
  | _=>0
theorem aeE{x:Option fG}(h:fp x=true) :x=some (.r0 (eF x) (eG x) (eI x) (eJ x)):=by
  unfold fp at h
  split at h<;>first | rfl | (cases h;done) | (rename_i y;cases y;rfl)
def RA:aM:=bK GZ (.cons (.agg (.cons .bool (.cons (.ns .u64) (.cons (.int .i64) .nil)))) .nil) fun t=>(fun q=>[⟨H3 (.r0 (eF q) (eG q) (eI q) (eJ q)),[fp q]⟩]) (bd t.1.1 t.1.2.1.2 t.1.2.2.1)
theorem WU:aY prog RA:=aR fun t=>(aS (fun h=>aeD t.1.1 t.1.2.1.1 t.1.2.1.2 t.1.2.2.1 (aeE h)) bc)
def RB:List aM:=RA::VN
theorem zM:be prog (bh RB):=ax WU qP
inductive nD where
  | r0 (a:Bool)
def VO:nD→AE×aQ
  | .r0 a=>(.ret,⟨an 31 [(4,.bool false a)],[],0⟩)
theorem aj9:jJ VO:=by intro x;cases x<;>(intro h;cases h)
def KK:nD→gM
  | .r0 a=>⟨.bool false a,[]⟩
def aka(a:Bool) :aQ:=⟨an 31 [(4,.bool false a)],[],0⟩
def RC(c:List Int)(a:Int)(d:List Int)(b:Int) :T ((Bool)⊕(nD)) :=
  .ask (decide ((((List.length c):Nat):Int)>(0:Int)))
    (.ask (decide ((((List.length d):Nat):Int)>(0:Int)))
      (.need (di .i64 (a-b))<|.ask (decide ((a-b)>(262144:Int)))
        (.leaf (.inl true))
        (.need (di .i64 (b-a))<|.leaf (.inl (decide ((b-a)>(262144:Int))))))
      (.leaf (.inl false)))
    (.leaf (.inl false))
def akb(a:Bool) :T ((Empty)⊕(nD)) :=
  .leaf (.inr (.r0 a))
def qQ(a:List Int)(b:Int)(c:List Int)(d:Int) :Option nD:=jM (aC ((RC a b c d).run) fun e =>
  (akb e).run)
theorem akc(e:Bool)(f:Lv)(a:List Int)(c:Int)(g:Bool)(i:Lv)(b:List Int)(d:Int){x:nD}(h:qQ a c b d=some x) :ay prog JN [] [.agg [.bool false e,.imm f (.ns .u64 a) 1 1 0 (List.length a),.int .i64 c],.agg [.bool false g,.imm i (.ns .u64 b) 1 1 0 (List.length b),.int .i64 d]] (KK x) :=
  kf true KK VO h (Sg.cut 2 aj9 (bj zM aka [⟨[],[],[4]⟩,⟨[],[],[4]⟩,⟨[],[],[4]⟩,⟨[],[],[4]⟩]) (fun k=>bj zM _ [⟨[],[],[4]⟩]))
    (fun x=>by cases x with | r0 j=>exact jN [.bool false j])
def vS:Option nD→Bool
  | some _=>true
  | none=>false
def vT:Option nD→Bool
  | some (.r0 x)=>x
  | _=>false
theorem akd{x:Option nD}(h:vS x=true) :x=some (.r0 (vT x)):=by
  unfold vS at h
  split at h<;>first | rfl | (cases h;done) | (rename_i y;cases y;rfl)
def VP:aM:=bK JN (.cons (.agg (.cons .bool (.cons (.ns .u64) (.cons (.int .i64) .nil)))) (.cons (.agg (.cons .bool (.cons (.ns .u64) (.cons (.int .i64) .nil)))) .nil)) fun t=>(fun q=>[⟨KK (.r0 (vT q)),[vS q]⟩]) (qQ t.1.2.1.2 t.1.2.2.1 t.2.1.2.1.2 t.2.1.2.2.1)
theorem aao:aY prog VP:=aR fun t=>(aS (fun h=>akc t.1.1 t.1.2.1.1 t.1.2.1.2 t.1.2.2.1 t.2.1.1 t.2.1.2.1.1 t.2.1.2.1.2 t.2.1.2.2.1 (akd h)) bc)
def VQ:List aM:=VP::RB
theorem oG:be prog (bh VQ):=ax aao zM
inductive dO where
  | r0 (a:List Int) (b:Nat) (c:List Int) (d:Nat) (e:Int)
def M7(a:Lv)(b:Lv) :dO→AE×aQ
  | .r0 c d e f g=>(.ret,⟨an 54 [(4,.imm a (.ns .u64 c) 1 1 0 d),(5,.imm b (.ns .u64 e) 1 1 0 f),(6,.int .i64 g)],[],0⟩)
theorem vU{a:Lv}{b:Lv} :jJ (M7 a b):=by intro x;cases x<;>(intro h;cases h)
def ES(a:Lv)(b:Lv) :dO→gM
  | .r0 c d e f g=>⟨.tup [.imm a (.ns .u64 c) 1 1 0 d,.imm b (.ns .u64 e) 1 1 0 f,.int .i64 g],[]⟩
def aap(c:Bool)(d:Lv)(a:List Int)(e:Int)(f:Bool)(g:Lv)(b:List Int)(h:Int)(i:Int) :aQ:=⟨an 54 [(2,.ptr 0 1 0 0),(3,.ptr 1 1 0 0),(7,.int .i64 i)],[(0,.vs [.bool false c,.imm d (.ns .u64 a) 1 1 0 (List.length a),.int .i64 e]),(1,.vs [.bool false f,.imm g (.ns .u64 b) 1 1 0 (List.length b),.int .i64 h])],2⟩
def oH(b:List Int)(c:Int)(a:Int) :T ((Int)⊕(dO)) :=
  .ask ((((List.length b):Nat):Int)==(0:Int))
    (.leaf (.inl a))
    (.leaf (.inl (ke c a)))
def aaq(c:Bool)(d:Lv)(a:List Int)(e:Int)(f:Bool)(g:Lv)(b:List Int)(h:Int)(i:Int) :aQ:=⟨an 54 [(2,.ptr 0 1 0 0),(3,.ptr 1 1 0 0),(7,.int .i64 i)],[(0,.vs [.bool false c,.imm d (.ns .u64 a) 1 1 0 (List.length a),.int .i64 e]),(1,.vs [.bool false f,.imm g (.ns .u64 b) 1 1 0 (List.length b),.int .i64 h])],2⟩
def oI(a:Int)(b:List Int)(c:Int) :T ((Int)⊕(dO)) :=
  .ask ((((List.length b):Nat):Int)==(0:Int))
    (.leaf (.inl a))
    (.leaf (.inl c))
def aar(c:Lv)(d:Bool)(b:Lv)(a:List Int)(e:Int)(f:Int) :(List Int)×Nat→aQ:=fun (g,h)=>⟨an 54 [(3,.ptr 0 1 0 0),(7,.int .i64 f),(8,.imm c (.ns .u64 g) 1 1 0 h),(9,.imm b (.ns .u64 a) 1 1 0 (List.length a))],[(0,.vs [.bool false d,.imm b (.ns .u64 a) 1 1 0 (List.length a),.int .i64 e])],1⟩
def vV(a:List Int)(b:Int)(c:Int) :T (((List Int)×Nat)⊕(dO)) :=
  .ask (decide (b>c))
    (.need (di .i64 (b-c))<|.need (aG 0 (List.length a) a)<|.need (vN (kS (ab 0 (List.length a) a) (b-c)))<|.leaf (.inl ((vO (kS (ab 0 (List.length a) a) (b-c))),(vP (kS (ab 0 (List.length a) a) (b-c))))))
    (.leaf (.inl (a,(List.length a))))
def aas(a:Lv)(b:Lv)(c:Int)(d:List Int)(e:Nat) :(List Int)×Nat→aQ:=fun (f,g)=>⟨an 54 [(7,.int .i64 c),(8,.imm a (.ns .u64 d) 1 1 0 e),(9,.imm b (.ns .u64 f) 1 1 0 g)],[],0⟩
def vW(a:List Int)(b:Int)(c:Int) :T (((List Int)×Nat)⊕(dO)) :=
  .ask (decide (b>c))
    (.need (di .i64 (b-c))<|.need (aG 0 (List.length a) a)<|.need (vN (kS (ab 0 (List.length a) a) (b-c)))<|.leaf (.inl ((vO (kS (ab 0 (List.length a) a) (b-c))),(vP (kS (ab 0 (List.length a) a) (b-c))))))
    (.leaf (.inl (a,(List.length a))))
def WV(a:Int)(b:List Int)(c:Nat)(d:List Int)(e:Nat) :T ((Empty)⊕(dO)) :=
  .leaf (.inr (.r0 b c d e a))
def d8(c:List Int)(a:Int)(d:List Int)(e:Int) :Option dO:=jM (aC ((oH c a e).run) fun f =>
  aC ((oI a d f).run) fun b =>
  aC ((vV c a b).run) fun (g,h) =>
  aC ((vW d e b).run) fun (i,j) =>
  (WV b g h i j).run)
theorem aat(i:Bool)(a:Lv)(d:List Int)(f:Int)(g:Bool)(b:Lv)(c:List Int)(e:Int){x:dO}(h:d8 d f c e=some x) :ay prog D4 [] [.agg [.bool false i,.imm a (.ns .u64 d) 1 1 0 (List.length d),.int .i64 f],.agg [.bool false g,.imm b (.ns .u64 c) 1 1 0 (List.length c),.int .i64 e]] (ES a b x) :=
  kf true (ES a b) (M7 a b) h (Sg.cut 4 vU (bj oG (aap i a d f g b c e) [⟨[],[0,16],[2,3,7]⟩,⟨[],[0,16],[2,3,7]⟩]) (fun r=>Sg.cut 2 vU (bj oG (aaq i a d f g b c e) [⟨[],[0,1],[2,3,7]⟩,⟨[],[0,1],[2,3,7]⟩]) (fun j=>Sg.cut 3 vU (bj oG (aar a g b c e j) [⟨[(.slot 8,.lev a)],[1],[3,7,8,9]⟩,⟨[],[1],[3,7,8,9]⟩]) (fun ⟨k,l⟩=>Sg.cut 2 vU (bj oG (aas a b j k l) [⟨[(.slot 9,.lev b)],[],[7,8,9]⟩,⟨[],[],[7,8,9]⟩]) (fun ⟨s,t⟩=>bj oG _ [⟨[],[],[4,5,6]⟩])))))
    (fun x=>by cases x with | r0 m n o p q=>exact jN [.imm a (.ns .u64 m) 1 1 0 n,.imm b (.ns .u64 o) 1 1 0 p,.int .i64 q])
def qR:Option dO→Bool
  | some _=>true
  | none=>false
def rF:Option dO→List Int
  | some (.r0 x _ _ _ _)=>x
  | _=>[]
def rG:Option dO→Nat
  | some (.r0 _ x _ _ _)=>x
  | _=>0
def rH:Option dO→List Int
  | some (.r0 _ _ x _ _)=>x
  | _=>[]
def rI:Option dO→Nat
  | some (.r0 _ _ _ x _)=>x
  | _=>0
def xy:Option dO→Int
  | some (.r0 _ _ _ _ x)=>x
  | _=>0
theorem aau{x:Option dO}(h:qR x=true) :x=some (.r0 (rF x) (rG x) (rH x) (rI x) (xy x)):=by
  unfold qR at h
  split at h<;>first | rfl | (cases h;done) | (rename_i y;cases y;rfl)
def M8:aM:=bK D4 (.cons (.agg (.cons .bool (.cons (.ns .u64) (.cons (.int .i64) .nil)))) (.cons (.agg (.cons .bool (.cons (.ns .u64) (.cons (.int .i64) .nil)))) .nil)) fun t=>(fun q=>[⟨ES t.1.2.1.1 t.2.1.2.1.1 (.r0 (rF q) (rG q) (rH q) (rI q) (xy q)),[qR q]⟩]) (d8 t.1.2.1.2 t.1.2.2.1 t.2.1.2.1.2 t.2.1.2.2.1)
theorem TR:aY prog M8:=aR fun t=>(aS (fun h=>aat t.1.1 t.1.2.1.1 t.1.2.1.2 t.1.2.2.1 t.2.1.1 t.2.1.2.1.1 t.2.1.2.1.2 t.2.1.2.2.1 (aau h)) bc)
def M9:List aM:=M8::VQ
theorem rJ:be prog (bh M9):=ax TR oG
inductive fH where
  | r0 (a:Nat) (b:Bool) (c:List Int) (d:Nat) (e:Int)
def RD:fH→AE×aQ
  | .r0 a b c d e=>(.ret,⟨an 11 [(2,.ptr 0 1 0 0),(3,.int .i64 ((a:Nat):Int))],[(0,.vs [.bool false b,.imm .free (.ns .u64 c) 1 1 0 d,.int .i64 e])],1⟩)
theorem Na:jJ RD:=by intro x;cases x<;>(intro h;cases h)
def H4:fH→gM
  | .r0 a b c d e=>⟨.tup [.agg [.bool false b,.imm .free (.ns .u64 c) 1 1 0 d,.int .i64 e],.int .i64 ((a:Nat):Int)],[]⟩
def aeF:Bool×(List Int)×Nat×Int×Bool→aQ:=fun (a,b,c,d,e)=>⟨an 11 [(1,.ptr 0 1 0 0),(2,.ptr 1 1 0 0)],[(0,.vs [.bool false a,.imm .free (.ns .u64 b) 1 1 0 c,.int .i64 d]),(1,.vs [.bool false e,.nsl,.int .i64 (0:Int)])],2⟩
def Nb(b:Bool)(a:List Int)(c:Int) :T ((Bool×(List Int)×Nat×Int×Bool)⊕(fH)) :=
  .need (aG 0 (List.length a) a)<|.need (fp (bd b (ab 0 (List.length a) a) c))<|.leaf (.inl ((eF (bd b (ab 0 (List.length a) a) c)),(eG (bd b (ab 0 (List.length a) a) c)),(eI (bd b (ab 0 (List.length a) a) c)),(eJ (bd b (ab 0 (List.length a) a) c)),false))
def aeG(a:Bool)(b:List Int)(c:Nat)(d:Int)(e:Bool)(f:Bool) :aQ:=⟨an 11 [(1,.ptr 0 1 0 0),(2,.ptr 1 1 0 0),(8,.bool false f)],[(0,.vs [.bool false a,.imm .free (.ns .u64 b) 1 1 0 c,.int .i64 d]),(1,.vs [.bool false e,.nsl,.int .i64 (0:Int)])],2⟩
def ET(a:List Int)(b:Nat)(c:Int) :T ((Bool)⊕(fH)) :=
  .need (aG 0 b a)<|.need (js (dM (ab 0 b a) c))<|.leaf (.inl (!(il (dM (ab 0 b a) c))))
def aeH(a:Bool)(b:List Int)(c:Nat)(d:Int)(e:Bool) :T ((Empty)⊕(fH)) :=
  .ask e
    (.leaf (.inr (.r0 3 false ([]:List Int) 0 (0:Int))))
    (.leaf (.inr (.r0 0 a b c d)))
def bG(d:Bool)(e:List Int)(f:Int) :Option fH:=jM (aC ((Nb d e f).run) fun (g,a,b,c,i) =>
  aC ((ET a b c).run) fun h =>
  (aeH g a b c h).run)
theorem aeI(b:Bool)(d:Lv)(a:List Int)(c:Int){x:fH}(h:bG b a c=some x) :ay prog G1 [] [.agg [.bool false b,.imm d (.ns .u64 a) 1 1 0 (List.length a),.int .i64 c]] (H4 x) :=
  kf true H4 RD h (Sg.cut 2 Na (bj rJ aeF [⟨[],[0,16],[1,2]⟩]) (fun ⟨e,f,g,i,j⟩=>Sg.cut 1 Na (bj rJ (aeG e f g i j) [⟨[],[0,1],[1,2,8]⟩]) (fun p=>bj rJ _ [⟨[(.cell 1 1,.fre 1 1 (.ns .u64 ([]:List Int)))],[1],[2,3]⟩,⟨[],[1],[2,3]⟩])))
    (fun x=>by cases x with | r0 k l m n o=>exact jN [.agg [.bool false l,.imm .free (.ns .u64 m) 1 1 0 n,.int .i64 o],.int .i64 ((k:Nat):Int)])
def l9:Option fH→Bool
  | some _=>true
  | none=>false
def lu:Option fH→Nat
  | some (.r0 x _ _ _ _)=>x
  | _=>0
def lw:Option fH→Bool
  | some (.r0 _ x _ _ _)=>x
  | _=>false
def lz:Option fH→List Int
  | some (.r0 _ _ x _ _)=>x
  | _=>[]
def lB:Option fH→Nat
  | some (.r0 _ _ _ x _)=>x
  | _=>0
def lC:Option fH→Int
  | some (.r0 _ _ _ _ x)=>x
  | _=>0
theorem aeJ{x:Option fH}(h:l9 x=true) :x=some (.r0 (lu x) (lw x) (lz x) (lB x) (lC x)):=by
  unfold l9 at h
  split at h<;>first | rfl | (cases h;done) | (rename_i y;cases y;rfl)
def RE:aM:=bK G1 (.cons (.agg (.cons .bool (.cons (.ns .u64) (.cons (.int .i64) .nil)))) .nil) fun t=>(fun q=>[⟨H4 (.r0 (lu q) (lw q) (lz q) (lB q) (lC q)),[l9 q]⟩]) (bG t.1.1 t.1.2.1.2 t.1.2.2.1)
theorem WW:aY prog RE:=aR fun t=>(aS (fun h=>aeI t.1.1 t.1.2.1.1 t.1.2.1.2 t.1.2.2.1 (aeJ h)) bc)
def RF:List aM:=RE::M9
theorem gq:be prog (bh RF):=ax WW rJ
inductive dN where
  | r0 (a:Nat) (b:Bool) (c:List Int) (d:Nat) (e:Int)
def VS:dN→AE×aQ
  | .r0 a b c d e=>(.ret,⟨an 72 [(4,.ptr 0 1 0 0),(5,.int .i64 ((a:Nat):Int))],[(0,.vs [.bool false b,.imm .free (.ns .u64 c) 1 1 0 d,.int .i64 e])],1⟩)
theorem nF:jJ VS:=by intro x;cases x<;>(intro h;cases h)
def KL:dN→gM
  | .r0 a b c d e=>⟨.tup [.agg [.bool false b,.imm .free (.ns .u64 c) 1 1 0 d,.int .i64 e],.int .i64 ((a:Nat):Int)],[]⟩
def ake(c:Bool)(d:Lv)(a:List Int)(e:Int)(f:Bool)(g:Lv)(b:List Int)(h:Int) :Bool×Bool→aQ:=fun (i,j)=>⟨an 72 [(2,.ptr 0 1 0 0),(3,.ptr 1 1 0 0),(4,.ptr 2 1 0 0),(16,.bool false i)],[(0,.vs [.bool false c,.imm d (.ns .u64 a) 1 1 0 (List.length a),.int .i64 e]),(1,.vs [.bool false f,.imm g (.ns .u64 b) 1 1 0 (List.length b),.int .i64 h]),(2,.vs [.bool false j,.nsl,.int .i64 (0:Int)])],3⟩
def EU(a:List Int)(c:Int)(b:List Int)(d:Int) :T ((Bool×Bool)⊕(dN)) :=
  .need (aG 0 (List.length a) a)<|.need (js (dM (ab 0 (List.length a) a) c))<|.ask (!(il (dM (ab 0 (List.length a) a) c)))
    (.leaf (.inl (true,false)))
    (.need (aG 0 (List.length b) b)<|.need (js (dM (ab 0 (List.length b) b) d))<|.leaf (.inl ((!(il (dM (ab 0 (List.length b) b) d))),false)))
def akf(a:Bool) :Bool×(List Int)×Nat×Int×Bool×(List Int)×Nat×Int→aQ:=fun (b,c,d,e,f,g,h,i)=>⟨an 72 [(2,.ptr 0 1 0 0),(3,.ptr 1 1 0 0),(4,.ptr 2 1 0 0)],[(0,.vs [.bool false b,.imm .free (.ns .u64 c) 1 1 0 d,.int .i64 e]),(1,.vs [.bool false f,.imm .free (.ns .u64 g) 1 1 0 h,.int .i64 i]),(2,.vs [.bool false a,.nsl,.int .i64 (0:Int)])],3⟩
def EV(c:Bool)(a:List Int)(d:Int)(e:Bool)(b:List Int)(f:Int)(g:Bool) :T ((Bool×(List Int)×Nat×Int×Bool×(List Int)×Nat×Int)⊕(dN)) :=
  .ask g
    (.leaf (.inr (.r0 2 false ([]:List Int) 0 (0:Int))))
    (.need (aG 0 (List.length a) a)<|.need (fp (bd c (ab 0 (List.length a) a) d))<|.need (aG 0 (List.length b) b)<|.need (fp (bd e (ab 0 (List.length b) b) f))<|.leaf (.inl ((eF (bd c (ab 0 (List.length a) a) d)),(eG (bd c (ab 0 (List.length a) a) d)),(eI (bd c (ab 0 (List.length a) a) d)),(eJ (bd c (ab 0 (List.length a) a) d)),(eF (bd e (ab 0 (List.length b) b) f)),(eG (bd e (ab 0 (List.length b) b) f)),(eI (bd e (ab 0 (List.length b) b) f)),(eJ (bd e (ab 0 (List.length b) b) f)))))
def akg(a:Bool)(b:Bool)(c:List Int)(d:Nat)(e:Int)(f:Bool)(g:List Int)(h:Nat)(i:Int)(j:Bool) :aQ:=⟨an 72 [(2,.ptr 0 1 0 0),(3,.ptr 1 1 0 0),(4,.ptr 2 1 0 0),(24,.bool false j)],[(0,.vs [.bool false b,.imm .free (.ns .u64 c) 1 1 0 d,.int .i64 e]),(1,.vs [.bool false f,.imm .free (.ns .u64 g) 1 1 0 h,.int .i64 i]),(2,.vs [.bool false a,.nsl,.int .i64 (0:Int)])],3⟩
def EW(a:List Int)(b:Nat)(e:Int)(c:List Int)(d:Nat)(f:Int) :T ((Bool)⊕(dN)) :=
  .need (aG 0 b a)<|.need (aG 0 d c)<|.need (vS (qQ (ab 0 b a) e (ab 0 d c) f))<|.leaf (.inl (vT (qQ (ab 0 b a) e (ab 0 d c) f)))
def akh(a:Bool)(b:Bool)(c:List Int)(d:Nat)(e:Int)(f:Bool)(g:List Int)(h:Nat)(i:Int) :(List Int)×Nat×(List Int)×Nat×Int→aQ:=fun (j,k,l,m,n)=>⟨an 72 [(2,.ptr 0 1 0 0),(3,.ptr 1 1 0 0),(4,.ptr 2 1 0 0),(6,.imm .free (.ns .u64 j) 1 1 0 k),(7,.imm .free (.ns .u64 l) 1 1 0 m),(8,.int .i64 n)],[(0,.vs [.bool false b,.imm .free (.ns .u64 c) 1 1 0 d,.int .i64 e]),(1,.vs [.bool false f,.imm .free (.ns .u64 g) 1 1 0 h,.int .i64 i]),(2,.vs [.bool false a,.nsl,.int .i64 (0:Int)])],3⟩
def EX(a:List Int)(b:Nat)(e:Int)(c:List Int)(d:Nat)(f:Int)(g:Bool) :T (((List Int)×Nat×(List Int)×Nat×Int)⊕(dN)) :=
  .ask g
    (.leaf (.inr (.r0 3 false ([]:List Int) 0 (0:Int))))
    (.need (aG 0 b a)<|.need (aG 0 d c)<|.need (qR (d8 (ab 0 b a) e (ab 0 d c) f))<|.leaf (.inl ((rF (d8 (ab 0 b a) e (ab 0 d c) f)),(rG (d8 (ab 0 b a) e (ab 0 d c) f)),(rH (d8 (ab 0 b a) e (ab 0 d c) f)),(rI (d8 (ab 0 b a) e (ab 0 d c) f)),(xy (d8 (ab 0 b a) e (ab 0 d c) f)))))
def aki(a:Bool)(b:Bool)(c:List Int)(d:Nat)(e:Int)(f:Bool)(g:List Int)(h:Nat)(i:Int)(j:List Int)(k:Nat)(l:List Int)(m:Nat)(n:Int)(_:Unit) :aQ:=⟨an 72 [(2,.ptr 0 1 0 0),(3,.ptr 1 1 0 0),(4,.ptr 2 1 0 0),(6,.imm .free (.ns .u64 j) 1 1 0 k),(7,.imm .free (.ns .u64 l) 1 1 0 m),(8,.int .i64 n)],[(0,.vs [.bool false b,.imm .free (.ns .u64 c) 1 1 0 d,.int .i64 e]),(1,.vs [.bool false f,.imm .free (.ns .u64 g) 1 1 0 h,.int .i64 i]),(2,.vs [.bool false a,.nsl,.int .i64 (0:Int)])],3⟩
def sE(e:Bool)(g:Bool)(a:List Int)(b:Nat)(c:List Int)(d:Nat)(f:Int) :T ((Unit)⊕(dN)) :=
  .ask (e==g)
    (.need (aG 0 b a)<|.need (aG 0 d c)<|.need (vM (ew (ab 0 b a) (ab 0 d c)))<|.need (aG 0 (ij (ew (ab 0 b a) (ab 0 d c))) (ii (ew (ab 0 b a) (ab 0 d c))))<|.need (l9 (bG e (ab 0 (ij (ew (ab 0 b a) (ab 0 d c))) (ii (ew (ab 0 b a) (ab 0 d c)))) f))<|.leaf (.inr (.r0 (lu (bG e (ab 0 (ij (ew (ab 0 b a) (ab 0 d c))) (ii (ew (ab 0 b a) (ab 0 d c)))) f)) (lw (bG e (ab 0 (ij (ew (ab 0 b a) (ab 0 d c))) (ii (ew (ab 0 b a) (ab 0 d c)))) f)) (lz (bG e (ab 0 (ij (ew (ab 0 b a) (ab 0 d c))) (ii (ew (ab 0 b a) (ab 0 d c)))) f)) (lB (bG e (ab 0 (ij (ew (ab 0 b a) (ab 0 d c))) (ii (ew (ab 0 b a) (ab 0 d c)))) f)) (lC (bG e (ab 0 (ij (ew (ab 0 b a) (ab 0 d c))) (ii (ew (ab 0 b a) (ab 0 d c)))) f)))))
    (.leaf (.inl ()))
def akj(a:Bool)(b:Bool)(c:List Int)(d:Nat)(e:Int)(f:Bool)(g:List Int)(h:Nat)(i:Int)(j:List Int)(k:Nat)(l:List Int)(m:Nat)(n:Int)(o:Bool) :aQ:=⟨an 72 [(2,.ptr 0 1 0 0),(3,.ptr 1 1 0 0),(4,.ptr 2 1 0 0),(6,.imm .free (.ns .u64 j) 1 1 0 k),(7,.imm .free (.ns .u64 l) 1 1 0 m),(8,.int .i64 n),(51,.bool false o)],[(0,.vs [.bool false b,.imm .free (.ns .u64 c) 1 1 0 d,.int .i64 e]),(1,.vs [.bool false f,.imm .free (.ns .u64 g) 1 1 0 h,.int .i64 i]),(2,.vs [.bool false a,.nsl,.int .i64 (0:Int)])],3⟩
def EY(a:List Int)(b:Nat)(c:List Int)(d:Nat) :T ((Bool)⊕(dN)) :=
  .need (aG 0 b a)<|.need (aG 0 d c)<|.need (rE (nB (ab 0 b a) (ab 0 d c)))<|.leaf (.inl (decide ((qN (nB (ab 0 b a) (ab 0 d c)))≥(0:Int))))
def akk(a:Bool)(b:Bool)(c:List Int)(d:Nat)(e:Int)(f:List Int)(g:Nat)(h:List Int)(i:Nat)(j:Int)(_:Unit) :aQ:=⟨an 72 [(3,.ptr 0 1 0 0),(4,.ptr 1 1 0 0),(6,.imm .free (.ns .u64 f) 1 1 0 g),(7,.imm .free (.ns .u64 h) 1 1 0 i),(8,.int .i64 j)],[(0,.vs [.bool false b,.imm .free (.ns .u64 c) 1 1 0 d,.int .i64 e]),(1,.vs [.bool false a,.nsl,.int .i64 (0:Int)])],2⟩
def EZ(e:Bool)(a:List Int)(b:Nat)(c:List Int)(d:Nat)(f:Int)(g:Bool) :T ((Unit)⊕(dN)) :=
  .ask g
    (.need (aG 0 b a)<|.need (aG 0 d c)<|.need (pc (bQ (ab 0 b a) (ab 0 d c)))<|.need (aG 0 (c7 (bQ (ab 0 b a) (ab 0 d c))) (c6 (bQ (ab 0 b a) (ab 0 d c))))<|.need (l9 (bG e (ab 0 (c7 (bQ (ab 0 b a) (ab 0 d c))) (c6 (bQ (ab 0 b a) (ab 0 d c)))) f))<|.leaf (.inr (.r0 (lu (bG e (ab 0 (c7 (bQ (ab 0 b a) (ab 0 d c))) (c6 (bQ (ab 0 b a) (ab 0 d c)))) f)) (lw (bG e (ab 0 (c7 (bQ (ab 0 b a) (ab 0 d c))) (c6 (bQ (ab 0 b a) (ab 0 d c)))) f)) (lz (bG e (ab 0 (c7 (bQ (ab 0 b a) (ab 0 d c))) (c6 (bQ (ab 0 b a) (ab 0 d c)))) f)) (lB (bG e (ab 0 (c7 (bQ (ab 0 b a) (ab 0 d c))) (c6 (bQ (ab 0 b a) (ab 0 d c)))) f)) (lC (bG e (ab 0 (c7 (bQ (ab 0 b a) (ab 0 d c))) (c6 (bQ (ab 0 b a) (ab 0 d c)))) f)))))
    (.leaf (.inl ()))
def akl:Nat×Bool×(List Int)×Nat×Int→aQ:=fun (a,b,c,d,e)=>⟨an 72 [(4,.ptr 0 1 0 0),(5,.int .i64 ((a:Nat):Int))],[(0,.vs [.bool false b,.imm .free (.ns .u64 c) 1 1 0 d,.int .i64 e])],1⟩
def E1(e:Bool)(a:List Int)(b:Nat)(c:List Int)(d:Nat)(f:Int) :T ((Nat×Bool×(List Int)×Nat×Int)⊕(dN)) :=
  .need (aG 0 d c)<|.need (aG 0 b a)<|.need (pc (bQ (ab 0 d c) (ab 0 b a)))<|.need (aG 0 (c7 (bQ (ab 0 d c) (ab 0 b a))) (c6 (bQ (ab 0 d c) (ab 0 b a))))<|.need (l9 (bG e (ab 0 (c7 (bQ (ab 0 d c) (ab 0 b a))) (c6 (bQ (ab 0 d c) (ab 0 b a)))) f))<|.leaf (.inl ((lu (bG e (ab 0 (c7 (bQ (ab 0 d c) (ab 0 b a))) (c6 (bQ (ab 0 d c) (ab 0 b a)))) f)),(lw (bG e (ab 0 (c7 (bQ (ab 0 d c) (ab 0 b a))) (c6 (bQ (ab 0 d c) (ab 0 b a)))) f)),(lz (bG e (ab 0 (c7 (bQ (ab 0 d c) (ab 0 b a))) (c6 (bQ (ab 0 d c) (ab 0 b a)))) f)),(lB (bG e (ab 0 (c7 (bQ (ab 0 d c) (ab 0 b a))) (c6 (bQ (ab 0 d c) (ab 0 b a)))) f)),(lC (bG e (ab 0 (c7 (bQ (ab 0 d c) (ab 0 b a))) (c6 (bQ (ab 0 d c) (ab 0 b a)))) f))))
def aeK(a:Nat)(b:Bool)(c:List Int)(d:Nat)(e:Int) :T ((Empty)⊕(dN)) :=
  .leaf (.inr (.r0 a b c d e))
def g6(r:Bool)(f:List Int)(g:Int)(s:Bool)(h:List Int)(i:Int) :Option dN:=jM (aC ((EU f g h i).run) fun (t,B) =>
  aC ((EV r f g s h i t).run) fun (j,k,l,m,n,o,p,q) =>
  aC ((EW k l m o p q).run) fun u =>
  aC ((EX k l m o p q u).run) fun (a,b,c,d,e) =>
  aC ((sE j n a b c d e).run) fun _ =>
  aC ((EY a b c d).run) fun v =>
  aC ((EZ j a b c d e v).run) fun _ =>
  aC ((E1 n a b c d e).run) fun (w,x,y,z,A) =>
  (aeK w x y z A).run)
theorem akm(m:Bool)(v:Lv)(f:List Int)(n:Int)(o:Bool)(w:Lv)(g:List Int)(p:Int){x:dN}(h:g6 m f n o g p=some x) :ay prog JH [] [.agg [.bool false m,.imm v (.ns .u64 f) 1 1 0 (List.length f),.int .i64 n],.agg [.bool false o,.imm w (.ns .u64 g) 1 1 0 (List.length g),.int .i64 p]] (KL x) :=
  kf true KL VS h (Sg.cut 2 nF (bj gq (ake m v f n o w g p) [⟨[],[0,16,32],[2,3,4,16]⟩,⟨[],[0,16,32],[2,3,4,16]⟩]) (fun ⟨D,a⟩=>Sg.cut 2 nF (bj gq (akf a) [⟨[(.cell 2 1,.fre 1 1 (.ns .u64 ([]:List Int)))],[2],[4,5]⟩,⟨[],[0,1,2],[2,3,4]⟩]) (fun ⟨i,j,k,l,b,c,d,e⟩=>Sg.cut 1 nF (bj gq (akg a i j k l b c d e) [⟨[],[0,1,2],[2,3,4,24]⟩]) (fun E=>Sg.cut 2 nF (bj gq (akh a i j k l b c d e) [⟨[(.cell 2 1,.fre 1 1 (.ns .u64 ([]:List Int)))],[2],[4,5]⟩,⟨[],[0,1,2],[2,3,4,6,7,8]⟩]) (fun ⟨q,r,s,t,u⟩=>Sg.cut 2 nF (bj gq (aki a i j k l b c d e q r s t u) [⟨[],[2],[4,5]⟩,⟨[],[0,1,2],[2,3,4,6,7,8]⟩]) (fun _=>Sg.cut 1 nF (bj gq (akj a i j k l b c d e q r s t u) [⟨[],[0,1,2],[2,3,4,6,7,8,51]⟩]) (fun F=>Sg.cut 1 nF (bj gq (akk a b c d e q r s t u) [⟨[],[2],[4,5]⟩,⟨[],[1,2],[3,4,6,7,8]⟩]) (fun _=>Sg.cut 1 nF (bj gq akl [⟨[],[1],[4,5]⟩]) (fun ⟨G,H,I,J,K⟩=>bj gq _ [⟨[],[0],[4,5]⟩])))))))))
    (fun x=>by cases x with | r0 y z A B C=>exact jN [.agg [.bool false z,.imm .free (.ns .u64 A) 1 1 0 B,.int .i64 C],.int .i64 ((y:Nat):Int)])
def vX:Option dN→Bool
  | some _=>true
  | none=>false
def BS:Option dN→Nat
  | some (.r0 x _ _ _ _)=>x
  | _=>0
def vY:Option dN→Bool
  | some (.r0 _ x _ _ _)=>x
  | _=>false
def vZ:Option dN→List Int
  | some (.r0 _ _ x _ _)=>x
  | _=>[]
def v4:Option dN→Nat
  | some (.r0 _ _ _ x _)=>x
  | _=>0
def v5:Option dN→Int
  | some (.r0 _ _ _ _ x)=>x
  | _=>0
theorem akn{x:Option dN}(h:vX x=true) :x=some (.r0 (BS x) (vY x) (vZ x) (v4 x) (v5 x)):=by
  unfold vX at h
  split at h<;>first | rfl | (cases h;done) | (rename_i y;cases y;rfl)
def VT:aM:=bK JH (.cons (.agg (.cons .bool (.cons (.ns .u64) (.cons (.int .i64) .nil)))) (.cons (.agg (.cons .bool (.cons (.ns .u64) (.cons (.int .i64) .nil)))) .nil)) fun t=>(fun q=>[⟨KL (.r0 (BS q) (vY q) (vZ q) (v4 q) (v5 q)),[vX q]⟩]) (g6 t.1.1 t.1.2.1.2 t.1.2.2.1 t.2.1.1 t.2.1.2.1.2 t.2.1.2.2.1)
theorem aav:aY prog VT:=aR fun t=>(aS (fun h=>akm t.1.1 t.1.2.1.1 t.1.2.1.2 t.1.2.2.1 t.2.1.1 t.2.1.2.1.1 t.2.1.2.1.2 t.2.1.2.2.1 (akn h)) bc)
def VU:List aM:=VT::RF
theorem qS:be prog (bh VU):=ax aav gq
inductive f5 where
  | r0 (a:Nat) (b:Bool) (c:List Int) (d:Nat) (e:Int)
def VV:f5→AE×aQ
  | .r0 a b c d e=>(.ret,⟨an 38 [(4,.ptr 0 1 0 0),(5,.int .i64 ((a:Nat):Int))],[(0,.vs [.bool false b,.imm .free (.ns .u64 c) 1 1 0 d,.int .i64 e])],1⟩)
theorem H5:jJ VV:=by intro x;cases x<;>(intro h;cases h)
def KM:f5→gM
  | .r0 a b c d e=>⟨.tup [.agg [.bool false b,.imm .free (.ns .u64 c) 1 1 0 d,.int .i64 e],.int .i64 ((a:Nat):Int)],[]⟩
def ako(c:Bool)(d:Lv)(a:List Int)(e:Int)(f:Bool)(g:Lv)(b:List Int)(h:Int) :Bool×Bool→aQ:=fun (i,j)=>⟨an 38 [(2,.ptr 0 1 0 0),(3,.ptr 1 1 0 0),(4,.ptr 2 1 0 0),(13,.bool false i)],[(0,.vs [.bool false c,.imm d (.ns .u64 a) 1 1 0 (List.length a),.int .i64 e]),(1,.vs [.bool false f,.imm g (.ns .u64 b) 1 1 0 (List.length b),.int .i64 h]),(2,.vs [.bool false j,.nsl,.int .i64 (0:Int)])],3⟩
def RG(a:List Int)(c:Int)(b:List Int)(d:Int) :T ((Bool×Bool)⊕(f5)) :=
  .need (aG 0 (List.length a) a)<|.need (js (dM (ab 0 (List.length a) a) c))<|.ask (!(il (dM (ab 0 (List.length a) a) c)))
    (.leaf (.inl (true,false)))
    (.need (aG 0 (List.length b) b)<|.need (js (dM (ab 0 (List.length b) b) d))<|.leaf (.inl ((!(il (dM (ab 0 (List.length b) b) d))),false)))
def akp(a:Bool) :Bool×(List Int)×Nat×Int×Bool×(List Int)×Nat×Int→aQ:=fun (b,c,d,e,f,g,h,i)=>⟨an 38 [(2,.ptr 0 1 0 0),(3,.ptr 1 1 0 0),(4,.ptr 2 1 0 0)],[(0,.vs [.bool false b,.imm .free (.ns .u64 c) 1 1 0 d,.int .i64 e]),(1,.vs [.bool false f,.imm .free (.ns .u64 g) 1 1 0 h,.int .i64 i]),(2,.vs [.bool false a,.nsl,.int .i64 (0:Int)])],3⟩
def H6(c:Bool)(a:List Int)(d:Int)(e:Bool)(b:List Int)(f:Int)(g:Bool) :T ((Bool×(List Int)×Nat×Int×Bool×(List Int)×Nat×Int)⊕(f5)) :=
  .ask g
    (.leaf (.inr (.r0 2 false ([]:List Int) 0 (0:Int))))
    (.need (aG 0 (List.length a) a)<|.need (fp (bd c (ab 0 (List.length a) a) d))<|.need (aG 0 (List.length b) b)<|.need (fp (bd e (ab 0 (List.length b) b) f))<|.leaf (.inl ((eF (bd c (ab 0 (List.length a) a) d)),(eG (bd c (ab 0 (List.length a) a) d)),(eI (bd c (ab 0 (List.length a) a) d)),(eJ (bd c (ab 0 (List.length a) a) d)),(eF (bd e (ab 0 (List.length b) b) f)),(eG (bd e (ab 0 (List.length b) b) f)),(eI (bd e (ab 0 (List.length b) b) f)),(eJ (bd e (ab 0 (List.length b) b) f)))))
def akq:Nat×Bool×(List Int)×Nat×Int→aQ:=fun (a,b,c,d,e)=>⟨an 38 [(4,.ptr 0 1 0 0),(5,.int .i64 ((a:Nat):Int))],[(0,.vs [.bool false b,.imm .free (.ns .u64 c) 1 1 0 d,.int .i64 e])],1⟩
def H7(g:Bool)(a:List Int)(b:Nat)(e:Int)(h:Bool)(c:List Int)(d:Nat)(f:Int) :T ((Nat×Bool×(List Int)×Nat×Int)⊕(f5)) :=
  .need (aG 0 b a)<|.need (aG 0 d c)<|.need (rD (dB (ab 0 b a) (ab 0 d c)))<|.need (di .i64 (e+f))<|.need (aG 0 (fZ (dB (ab 0 b a) (ab 0 d c))) (fW (dB (ab 0 b a) (ab 0 d c))))<|.need (l9 (bG (!(g==h)) (ab 0 (fZ (dB (ab 0 b a) (ab 0 d c))) (fW (dB (ab 0 b a) (ab 0 d c)))) (e+f)))<|.leaf (.inl ((lu (bG (!(g==h)) (ab 0 (fZ (dB (ab 0 b a) (ab 0 d c))) (fW (dB (ab 0 b a) (ab 0 d c)))) (e+f))),(lw (bG (!(g==h)) (ab 0 (fZ (dB (ab 0 b a) (ab 0 d c))) (fW (dB (ab 0 b a) (ab 0 d c)))) (e+f))),(lz (bG (!(g==h)) (ab 0 (fZ (dB (ab 0 b a) (ab 0 d c))) (fW (dB (ab 0 b a) (ab 0 d c)))) (e+f))),(lB (bG (!(g==h)) (ab 0 (fZ (dB (ab 0 b a) (ab 0 d c))) (fW (dB (ab 0 b a) (ab 0 d c)))) (e+f))),(lC (bG (!(g==h)) (ab 0 (fZ (dB (ab 0 b a) (ab 0 d c))) (fW (dB (ab 0 b a) (ab 0 d c)))) (e+f)))))
def akr(a:Nat)(b:Bool)(c:List Int)(d:Nat)(e:Int) :T ((Empty)⊕(f5)) :=
  .leaf (.inr (.r0 a b c d e))
def oU(e:Bool)(a:List Int)(b:Int)(f:Bool)(c:List Int)(d:Int) :Option f5:=jM (aC ((RG a b c d).run) fun (g,u) =>
  aC ((H6 e a b f c d g).run) fun (h,i,j,k,l,m,n,o) =>
  aC ((H7 h i j k l m n o).run) fun (p,q,r,s,t) =>
  (akr p q r s t).run)
theorem aks(c:Bool)(g:Lv)(a:List Int)(d:Int)(e:Bool)(i:Lv)(b:List Int)(f:Int){x:f5}(h:oU c a d e b f=some x) :ay prog JI [] [.agg [.bool false c,.imm g (.ns .u64 a) 1 1 0 (List.length a),.int .i64 d],.agg [.bool false e,.imm i (.ns .u64 b) 1 1 0 (List.length b),.int .i64 f]] (KM x) :=
  kf true KM VV h (Sg.cut 2 H5 (bj qS (ako c g a d e i b f) [⟨[],[0,16,32],[2,3,4,13]⟩,⟨[],[0,16,32],[2,3,4,13]⟩]) (fun ⟨p,j⟩=>Sg.cut 2 H5 (bj qS (akp j) [⟨[(.cell 2 1,.fre 1 1 (.ns .u64 ([]:List Int)))],[2],[4,5]⟩,⟨[],[0,1,2],[2,3,4]⟩]) (fun ⟨q,r,s,t,u,v,w,y⟩=>Sg.cut 1 H5 (bj qS akq [⟨[],[2],[4,5]⟩]) (fun ⟨z,A,B,C,D⟩=>bj qS _ [⟨[],[0],[4,5]⟩]))))
    (fun x=>by cases x with | r0 k l m n o=>exact jN [.agg [.bool false l,.imm .free (.ns .u64 m) 1 1 0 n,.int .i64 o],.int .i64 ((k:Nat):Int)])
def AU:Option f5→Bool
  | some _=>true
  | none=>false
def KN:Option f5→Nat
  | some (.r0 x _ _ _ _)=>x
  | _=>0
def BT:Option f5→Bool
  | some (.r0 _ x _ _ _)=>x
  | _=>false
def BU:Option f5→List Int
  | some (.r0 _ _ x _ _)=>x
  | _=>[]
def BV:Option f5→Nat
  | some (.r0 _ _ _ x _)=>x
  | _=>0
def BW:Option f5→Int
  | some (.r0 _ _ _ _ x)=>x
  | _=>0
theorem akt{x:Option f5}(h:AU x=true) :x=some (.r0 (KN x) (BT x) (BU x) (BV x) (BW x)):=by
  unfold AU at h
  split at h<;>first | rfl | (cases h;done) | (rename_i y;cases y;rfl)
def VW:aM:=bK JI (.cons (.agg (.cons .bool (.cons (.ns .u64) (.cons (.int .i64) .nil)))) (.cons (.agg (.cons .bool (.cons (.ns .u64) (.cons (.int .i64) .nil)))) .nil)) fun t=>(fun q=>[⟨KM (.r0 (KN q) (BT q) (BU q) (BV q) (BW q)),[AU q]⟩]) (oU t.1.1 t.1.2.1.2 t.1.2.2.1 t.2.1.1 t.2.1.2.1.2 t.2.1.2.2.1)
theorem aaw:aY prog VW:=aR fun t=>(aS (fun h=>aks t.1.1 t.1.2.1.1 t.1.2.1.2 t.1.2.2.1 t.2.1.1 t.2.1.2.1.1 t.2.1.2.1.2 t.2.1.2.2.1 (akt h)) bc)
def VX:List aM:=VW::VU
theorem KO:be prog (bh VX):=ax aaw qS
inductive nG where
  | r0 (a:Int)
def aku:nG→AE×aQ
  | .r0 a=>(.ret,⟨an 9 [(2,.int .i64 a)],[],0⟩)
def H8:nG→gM
  | .r0 a=>⟨.int .i64 a,[]⟩
def Nc(a:Bool)(b:List Int) :T ((Empty)⊕(nG)) :=
  .ask ((((List.length b):Nat):Int)==(0:Int))
    (.leaf (.inr (.r0 (0:Int))))
    (.ask a
      (.leaf (.inr (.r0 (-1:Int))))
      (.leaf (.inr (.r0 (1:Int)))))
def jt(a:Bool)(b:List Int) :Option nG:=jM ((Nc a b).run)
theorem aeL(b:Bool)(c:Lv)(a:List Int)(d:Int){x:nG}(h:jt b a=some x) :ay prog G5 [] [.agg [.bool false b,.imm c (.ns .u64 a) 1 1 0 (List.length a),.int .i64 d]] (H8 x) :=
  kf true H8 aku h (bj KO _ [⟨[],[],[2]⟩,⟨[],[],[2]⟩,⟨[],[],[2]⟩])
    (fun x=>by cases x with | r0 e=>exact jN [.int .i64 e])
def oe:Option nG→Bool
  | some _=>true
  | none=>false
def m9:Option nG→Int
  | some (.r0 x)=>x
  | _=>0
theorem aeM{x:Option nG}(h:oe x=true) :x=some (.r0 (m9 x)):=by
  unfold oe at h
  split at h<;>first | rfl | (cases h;done) | (rename_i y;cases y;rfl)
def RH:aM:=bK G5 (.cons (.agg (.cons .bool (.cons (.ns .u64) (.cons (.int .i64) .nil)))) .nil) fun t=>(fun q=>[⟨H8 (.r0 (m9 q)),[oe q]⟩]) (jt t.1.1 t.1.2.1.2)
theorem WX:aY prog RH:=aR fun t=>(aS (fun h=>aeL t.1.1 t.1.2.1.1 t.1.2.1.2 t.1.2.2.1 (aeM h)) bc)
def RI:List aM:=RH::VX
theorem gr:be prog (bh RI):=ax WX KO
inductive eZ where
  | r0 (a:Int) (b:Nat)
def VY:eZ→AE×aQ
  | .r0 a b=>(.ret,⟨an 49 [(4,.int .i64 a),(5,.int .i64 ((b:Nat):Int))],[],0⟩)
theorem nH:jJ VY:=by intro x;cases x<;>(intro h;cases h)
def KP:eZ→gM
  | .r0 a b=>⟨.tup [.int .i64 a,.int .i64 ((b:Nat):Int)],[]⟩
def akv(c:Bool)(d:Lv)(a:List Int)(e:Int)(f:Bool)(g:Lv)(b:List Int)(h:Int)(i:Bool) :aQ:=⟨an 49 [(2,.ptr 0 1 0 0),(3,.ptr 1 1 0 0),(16,.bool false i)],[(0,.vs [.bool false c,.imm d (.ns .u64 a) 1 1 0 (List.length a),.int .i64 e]),(1,.vs [.bool false f,.imm g (.ns .u64 b) 1 1 0 (List.length b),.int .i64 h])],2⟩
def E3(a:List Int)(c:Int)(b:List Int)(d:Int) :T ((Bool)⊕(eZ)) :=
  .need (aG 0 (List.length a) a)<|.need (js (dM (ab 0 (List.length a) a) c))<|.ask (!(il (dM (ab 0 (List.length a) a) c)))
    (.leaf (.inl true))
    (.need (aG 0 (List.length b) b)<|.need (js (dM (ab 0 (List.length b) b) d))<|.leaf (.inl (!(il (dM (ab 0 (List.length b) b) d)))))
def akw:Bool×(List Int)×Nat×Int×Bool×(List Int)×Nat×Int→aQ:=fun (a,b,c,d,e,f,g,h)=>⟨an 49 [(2,.ptr 0 1 0 0),(3,.ptr 1 1 0 0)],[(0,.vs [.bool false a,.imm .free (.ns .u64 b) 1 1 0 c,.int .i64 d]),(1,.vs [.bool false e,.imm .free (.ns .u64 f) 1 1 0 g,.int .i64 h])],2⟩
def E4(c:Bool)(a:List Int)(d:Int)(e:Bool)(b:List Int)(f:Int)(g:Bool) :T ((Bool×(List Int)×Nat×Int×Bool×(List Int)×Nat×Int)⊕(eZ)) :=
  .ask g
    (.leaf (.inr (.r0 (0:Int) 2)))
    (.need (aG 0 (List.length a) a)<|.need (fp (bd c (ab 0 (List.length a) a) d))<|.need (aG 0 (List.length b) b)<|.need (fp (bd e (ab 0 (List.length b) b) f))<|.leaf (.inl ((eF (bd c (ab 0 (List.length a) a) d)),(eG (bd c (ab 0 (List.length a) a) d)),(eI (bd c (ab 0 (List.length a) a) d)),(eJ (bd c (ab 0 (List.length a) a) d)),(eF (bd e (ab 0 (List.length b) b) f)),(eG (bd e (ab 0 (List.length b) b) f)),(eI (bd e (ab 0 (List.length b) b) f)),(eJ (bd e (ab 0 (List.length b) b) f)))))
def akx(a:Bool)(b:List Int)(c:Nat)(d:Int)(e:Bool)(f:List Int)(g:Nat)(h:Int)(i:Bool) :aQ:=⟨an 49 [(2,.ptr 0 1 0 0),(3,.ptr 1 1 0 0),(23,.bool false i)],[(0,.vs [.bool false a,.imm .free (.ns .u64 b) 1 1 0 c,.int .i64 d]),(1,.vs [.bool false e,.imm .free (.ns .u64 f) 1 1 0 g,.int .i64 h])],2⟩
def E5(a:List Int)(b:Nat)(e:Int)(c:List Int)(d:Nat)(f:Int) :T ((Bool)⊕(eZ)) :=
  .need (aG 0 b a)<|.need (aG 0 d c)<|.need (vS (qQ (ab 0 b a) e (ab 0 d c) f))<|.leaf (.inl (vT (qQ (ab 0 b a) e (ab 0 d c) f)))
def aky(a:Bool)(b:List Int)(c:Nat)(d:Int)(e:Bool)(f:List Int)(g:Nat)(h:Int)(i:Bool) :aQ:=⟨an 49 [(2,.ptr 0 1 0 0),(3,.ptr 1 1 0 0),(28,.bool false i)],[(0,.vs [.bool false a,.imm .free (.ns .u64 b) 1 1 0 c,.int .i64 d]),(1,.vs [.bool false e,.imm .free (.ns .u64 f) 1 1 0 g,.int .i64 h])],2⟩
def E6(e:Bool)(a:List Int)(b:Nat)(f:Bool)(c:List Int)(d:Nat)(g:Bool) :T ((Bool)⊕(eZ)) :=
  .ask g
    (.leaf (.inr (.r0 (0:Int) 3)))
    (.need (aG 0 b a)<|.need (oe (jt e (ab 0 b a)))<|.need (aG 0 d c)<|.need (oe (jt f (ab 0 d c)))<|.leaf (.inl ((m9 (jt e (ab 0 b a))) != (m9 (jt f (ab 0 d c))))))
def akz(a:Bool)(b:List Int)(c:Nat)(d:Int)(e:Bool)(f:List Int)(g:Nat)(h:Int)(_:Unit) :aQ:=⟨an 49 [(2,.ptr 0 1 0 0),(3,.ptr 1 1 0 0)],[(0,.vs [.bool false a,.imm .free (.ns .u64 b) 1 1 0 c,.int .i64 d]),(1,.vs [.bool false e,.imm .free (.ns .u64 f) 1 1 0 g,.int .i64 h])],2⟩
def E7(e:Bool)(a:List Int)(b:Nat)(f:Bool)(c:List Int)(d:Nat)(g:Bool) :T ((Unit)⊕(eZ)) :=
  .ask g
    (.need (aG 0 b a)<|.need (oe (jt e (ab 0 b a)))<|.need (aG 0 d c)<|.need (oe (jt f (ab 0 d c)))<|.ask (decide ((m9 (jt e (ab 0 b a)))<(m9 (jt f (ab 0 d c)))))
      (.leaf (.inr (.r0 (-1:Int) 0)))
      (.leaf (.inr (.r0 (1:Int) 0))))
    (.leaf (.inl ()))
def akA(a:Bool)(b:List Int)(c:Nat)(d:Int) :(List Int)×Nat×(List Int)×Nat→aQ:=fun (e,f,g,h)=>⟨an 49 [(2,.ptr 0 1 0 0),(6,.imm .free (.ns .u64 e) 1 1 0 f),(7,.imm .free (.ns .u64 g) 1 1 0 h)],[(0,.vs [.bool false a,.imm .free (.ns .u64 b) 1 1 0 c,.int .i64 d])],1⟩
def E8(a:List Int)(b:Nat)(e:Int)(c:List Int)(d:Nat)(f:Int) :T (((List Int)×Nat×(List Int)×Nat)⊕(eZ)) :=
  .need (aG 0 b a)<|.need (aG 0 d c)<|.need (qR (d8 (ab 0 b a) e (ab 0 d c) f))<|.leaf (.inl ((rF (d8 (ab 0 b a) e (ab 0 d c) f)),(rG (d8 (ab 0 b a) e (ab 0 d c) f)),(rH (d8 (ab 0 b a) e (ab 0 d c) f)),(rI (d8 (ab 0 b a) e (ab 0 d c) f))))
def akB(a:List Int)(b:Nat)(c:List Int)(d:Nat)(_:Unit) :aQ:=⟨an 49 [(6,.imm .free (.ns .u64 a) 1 1 0 b),(7,.imm .free (.ns .u64 c) 1 1 0 d)],[],0⟩
def E9(e:Bool)(a:List Int)(b:Nat)(c:List Int)(d:Nat) :T ((Unit)⊕(eZ)) :=
  .ask e
    (.need (aG 0 d c)<|.need (aG 0 b a)<|.need (rE (nB (ab 0 d c) (ab 0 b a)))<|.leaf (.inr (.r0 (qN (nB (ab 0 d c) (ab 0 b a))) 0)))
    (.leaf (.inl ()))
def akC(a:Int) :aQ:=⟨an 49 [(4,.int .i64 a),(5,.int .i64 (0:Int))],[],0⟩
def Fa(a:List Int)(b:Nat)(c:List Int)(d:Nat) :T ((Int)⊕(eZ)) :=
  .need (aG 0 b a)<|.need (aG 0 d c)<|.need (rE (nB (ab 0 b a) (ab 0 d c)))<|.leaf (.inl (qN (nB (ab 0 b a) (ab 0 d c))))
def aeN(a:Int) :T ((Empty)⊕(eZ)) :=
  .leaf (.inr (.r0 a 0))
def zj(q:Bool)(f:List Int)(g:Int)(r:Bool)(h:List Int)(i:Int) :Option eZ:=jM (aC ((E3 f g h i).run) fun s =>
  aC ((E4 q f g r h i s).run) fun (e,a,b,j,k,c,d,l) =>
  aC ((E5 a b j c d l).run) fun t =>
  aC ((E6 e a b k c d t).run) fun u =>
  aC ((E7 e a b k c d u).run) fun _ =>
  aC ((E8 a b j c d l).run) fun (m,n,o,p) =>
  aC ((E9 e m n o p).run) fun _ =>
  aC ((Fa m n o p).run) fun v =>
  (aeN v).run)
theorem akD(g:Bool)(p:Lv)(a:List Int)(i:Int)(j:Bool)(q:Lv)(b:List Int)(k:Int){x:eZ}(h:zj g a i j b k=some x) :ay prog JL [] [.agg [.bool false g,.imm p (.ns .u64 a) 1 1 0 (List.length a),.int .i64 i],.agg [.bool false j,.imm q (.ns .u64 b) 1 1 0 (List.length b),.int .i64 k]] (KP x) :=
  kf true KP VY h (Sg.cut 2 nH (bj gr (akv g p a i j q b k) [⟨[],[0,16],[2,3,16]⟩,⟨[],[0,16],[2,3,16]⟩]) (fun y=>Sg.cut 2 nH (bj gr akw [⟨[],[],[4,5]⟩,⟨[],[0,1],[2,3]⟩]) (fun ⟨c,d,e,f,l,m,n,o⟩=>Sg.cut 1 nH (bj gr (akx c d e f l m n o) [⟨[],[0,1],[2,3,23]⟩]) (fun z=>Sg.cut 2 nH (bj gr (aky c d e f l m n o) [⟨[],[],[4,5]⟩,⟨[],[0,1],[2,3,28]⟩]) (fun A=>Sg.cut 1 nH (bj gr (akz c d e f l m n o) [⟨[],[],[4,5]⟩,⟨[],[],[4,5]⟩,⟨[],[0,1],[2,3]⟩]) (fun _=>Sg.cut 1 nH (bj gr (akA c d e f) [⟨[],[0],[2,6,7]⟩]) (fun ⟨r,s,t,u⟩=>Sg.cut 2 nH (bj gr (akB r s t u) [⟨[],[],[4,5]⟩,⟨[],[],[6,7]⟩]) (fun _=>Sg.cut 1 nH (bj gr akC [⟨[],[],[4,5]⟩]) (fun B=>bj gr _ [⟨[],[],[4,5]⟩])))))))))
    (fun x=>by cases x with | r0 v w=>exact jN [.int .i64 v,.int .i64 ((w:Nat):Int)])
def AW:Option eZ→Bool
  | some _=>true
  | none=>false
def BX:Option eZ→Int
  | some (.r0 x _)=>x
  | _=>0
def KQ:Option eZ→Nat
  | some (.r0 _ x)=>x
  | _=>0
theorem akE{x:Option eZ}(h:AW x=true) :x=some (.r0 (BX x) (KQ x)):=by
  unfold AW at h
  split at h<;>first | rfl | (cases h;done) | (rename_i y;cases y;rfl)
def VZ:aM:=bK JL (.cons (.agg (.cons .bool (.cons (.ns .u64) (.cons (.int .i64) .nil)))) (.cons (.agg (.cons .bool (.cons (.ns .u64) (.cons (.int .i64) .nil)))) .nil)) fun t=>(fun q=>[⟨KP (.r0 (BX q) (KQ q)),[AW q]⟩]) (zj t.1.1 t.1.2.1.2 t.1.2.2.1 t.2.1.1 t.2.1.2.1.2 t.2.1.2.2.1)
theorem aax:aY prog VZ:=aR fun t=>(aS (fun h=>akD t.1.1 t.1.2.1.1 t.1.2.1.2 t.1.2.2.1 t.2.1.1 t.2.1.2.1.1 t.2.1.2.1.2 t.2.1.2.2.1 (akE h)) bc)
def V0:List aM:=VZ::RI
theorem qT:be prog (bh V0):=ax aax gr
inductive d9 where
  | r0 (a:Nat) (b:Bool) (c:List Int) (d:Nat) (e:Int)
def Nd:d9→AE×aQ
  | .r0 a b c d e=>(.ret,⟨an 28 [(4,.ptr 0 1 0 0),(5,.int .i64 ((a:Nat):Int))],[(0,.vs [.bool false b,.imm .free (.ns .u64 c) 1 1 0 d,.int .i64 e])],1⟩)
theorem BY:jJ Nd:=by intro x;cases x<;>(intro h;cases h)
def Fb:d9→gM
  | .r0 a b c d e=>⟨.tup [.agg [.bool false b,.imm .free (.ns .u64 c) 1 1 0 d,.int .i64 e],.int .i64 ((a:Nat):Int)],[]⟩
def aay(b:Bool)(c:Lv)(a:List Int)(d:Int)(e:Int) :Bool×Bool→aQ:=fun (f,g)=>⟨an 28 [(1,.int .i64 e),(2,.ptr 0 1 0 0),(4,.ptr 1 1 0 0),(8,.bool false f)],[(0,.vs [.bool false b,.imm c (.ns .u64 a) 1 1 0 (List.length a),.int .i64 d]),(1,.vs [.bool false g,.nsl,.int .i64 (0:Int)])],2⟩
def BZ(a:List Int)(b:Int) :T ((Bool×Bool)⊕(d9)) :=
  .need (aG 0 (List.length a) a)<|.need (js (dM (ab 0 (List.length a) a) b))<|.leaf (.inl ((!(il (dM (ab 0 (List.length a) a) b))),false))
def aaz(a:Int)(b:Bool) :Bool×(List Int)×Nat×Int→aQ:=fun (c,d,e,f)=>⟨an 28 [(1,.int .i64 a),(2,.ptr 0 1 0 0),(4,.ptr 1 1 0 0)],[(0,.vs [.bool false c,.imm .free (.ns .u64 d) 1 1 0 e,.int .i64 f]),(1,.vs [.bool false b,.nsl,.int .i64 (0:Int)])],2⟩
def B0(b:Bool)(a:List Int)(c:Int)(d:Bool) :T ((Bool×(List Int)×Nat×Int)⊕(d9)) :=
  .ask d
    (.leaf (.inr (.r0 2 false ([]:List Int) 0 (0:Int))))
    (.need (aG 0 (List.length a) a)<|.need (fp (bd b (ab 0 (List.length a) a) c))<|.leaf (.inl ((eF (bd b (ab 0 (List.length a) a) c)),(eG (bd b (ab 0 (List.length a) a) c)),(eI (bd b (ab 0 (List.length a) a) c)),(eJ (bd b (ab 0 (List.length a) a) c)))))
def aaA:Nat×Bool×(List Int)×Nat×Int→aQ:=fun (a,b,c,d,e)=>⟨an 28 [(4,.ptr 0 1 0 0),(5,.int .i64 ((a:Nat):Int))],[(0,.vs [.bool false b,.imm .free (.ns .u64 c) 1 1 0 d,.int .i64 e])],1⟩
def B1(d:Int)(e:Bool)(b:List Int)(a:Nat)(c:Int) :T ((Nat×Bool×(List Int)×Nat×Int)⊕(d9)) :=
  .ask (((a:Nat):Int)==(0:Int))
    (.leaf (.inr (.r0 0 e b a c)))
    (.need (di .i64 (c+(mr (-1048576:Int) (ke (1048576:Int) d))))<|.need (aG 0 a b)<|.need (l9 (bG e (ab 0 a b) (c+(mr (-1048576:Int) (ke (1048576:Int) d)))))<|.leaf (.inl ((lu (bG e (ab 0 a b) (c+(mr (-1048576:Int) (ke (1048576:Int) d))))),(lw (bG e (ab 0 a b) (c+(mr (-1048576:Int) (ke (1048576:Int) d))))),(lz (bG e (ab 0 a b) (c+(mr (-1048576:Int) (ke (1048576:Int) d))))),(lB (bG e (ab 0 a b) (c+(mr (-1048576:Int) (ke (1048576:Int) d))))),(lC (bG e (ab 0 a b) (c+(mr (-1048576:Int) (ke (1048576:Int) d))))))))
def aaB(a:Nat)(b:Bool)(c:List Int)(d:Nat)(e:Int) :T ((Empty)⊕(d9)) :=
  .leaf (.inr (.r0 a b c d e))
def kH(c:Bool)(a:List Int)(b:Int)(d:Int) :Option d9:=jM (aC ((BZ a b).run) fun (e,o) =>
  aC ((B0 c a b e).run) fun (f,g,h,i) =>
  aC ((B1 d f g h i).run) fun (j,k,l,m,n) =>
  (aaB j k l m n).run)
theorem aaC(c:Bool)(e:Lv)(a:List Int)(d:Int)(b:Int){x:d9}(h:kH c a d b=some x) :ay prog D3 [] [.agg [.bool false c,.imm e (.ns .u64 a) 1 1 0 (List.length a),.int .i64 d],.int .i64 b] (Fb x) :=
  kf true Fb Nd h (Sg.cut 2 BY (bj qT (aay c e a d b) [⟨[],[0,16],[1,2,4,8]⟩]) (fun ⟨m,f⟩=>Sg.cut 2 BY (bj qT (aaz b f) [⟨[(.cell 1 1,.fre 1 1 (.ns .u64 ([]:List Int)))],[1],[4,5]⟩,⟨[],[0,1],[1,2,4]⟩]) (fun ⟨n,o,p,q⟩=>Sg.cut 4 BY (bj qT aaA [⟨[],[1],[4,5]⟩,⟨[],[1],[4,5]⟩]) (fun ⟨r,s,t,u,v⟩=>bj qT _ [⟨[],[0],[4,5]⟩]))))
    (fun x=>by cases x with | r0 g i j k l=>exact jN [.agg [.bool false i,.imm .free (.ns .u64 j) 1 1 0 k,.int .i64 l],.int .i64 ((g:Nat):Int)])
def v6:Option d9→Bool
  | some _=>true
  | none=>false
def Ga:Option d9→Nat
  | some (.r0 x _ _ _ _)=>x
  | _=>0
def xz:Option d9→Bool
  | some (.r0 _ x _ _ _)=>x
  | _=>false
def xA:Option d9→List Int
  | some (.r0 _ _ x _ _)=>x
  | _=>[]
def xB:Option d9→Nat
  | some (.r0 _ _ _ x _)=>x
  | _=>0
def xC:Option d9→Int
  | some (.r0 _ _ _ _ x)=>x
  | _=>0
theorem aaD{x:Option d9}(h:v6 x=true) :x=some (.r0 (Ga x) (xz x) (xA x) (xB x) (xC x)):=by
  unfold v6 at h
  split at h<;>first | rfl | (cases h;done) | (rename_i y;cases y;rfl)
def Ne:aM:=bK D3 (.cons (.agg (.cons .bool (.cons (.ns .u64) (.cons (.int .i64) .nil)))) (.cons (.int .i64) .nil)) fun t=>(fun q=>[⟨Fb (.r0 (Ga q) (xz q) (xA q) (xB q) (xC q)),[v6 q]⟩]) (kH t.1.1 t.1.2.1.2 t.1.2.2.1 t.2.1)
theorem TS:aY prog Ne:=aR fun t=>(aS (fun h=>aaC t.1.1 t.1.2.1.1 t.1.2.1.2 t.1.2.2.1 t.2.1 (aaD h)) bc)
def Nf:List aM:=Ne::V0
theorem rK:be prog (bh Nf):=ax TS qT
inductive jb where
  | r0 (a:Int) (b:Nat) (c:List Nat)
def DD:jb→AE×aQ
  | .r0 a b c=>(.ret,⟨an 26 [(2,.ptr 0 1 0 0)],[(0,.vs [.int .i64 a,.int .i64 a,.sl 1 1 1 0 b b]),(1,.fl c)],2⟩)
theorem H9:jJ DD:=by intro x;cases x<;>(intro h;cases h)
theorem akF(id:Nat) :mP id DD:=by intro x;cases x<;>(intro h;cases h)
def KR:jb→gM
  | .r0 a b c=>⟨.agg [.int .i64 a,.int .i64 a,.sl 0 1 1 0 b b],[some (.fl c)]⟩
def akG:List Code:=cN (oa JE)
def akH(a:Int) :Nat×(List Nat)→aQ:=fun (b,c)=>⟨an 26 [(0,.int .i64 a),(2,.ptr 0 1 0 0),(3,.ptr 1 1 0 0),(4,.int .i64 (0:Int))],[(0,.vs [.int .i64 (0:Int),.int .i64 (0:Int),.nsl]),(1,.vs [.int .i64 a,.int .i64 a,.sl 2 1 1 0 b b]),(2,.fl c)],3⟩
def akI(a:Int) :T ((Nat×(List Nat))⊕(jb)) :=
  .need (di .i64 (a*a))<|.need (decide ((0:Int)≤(a*a)))<|.need (decide ((a*a)≤(a*a)))<|.need (decide ((8:Int)*(a*a)≤140737488355328))<|.need (di .i64 (a*a))<|.leaf (.inl ((Int.toNat (a*a)),(List.replicate (Int.toNat (a*a)) 0)))
def Ia(a:Int)(b:Nat) :Nat×(List Nat)→aQ:=fun (c,d)=>⟨an 26 [(0,.int .i64 a),(2,.ptr 0 1 0 0),(3,.ptr 1 1 0 0),(4,.int .i64 ((c:Nat):Int))],[(0,.vs [.int .i64 (0:Int),.int .i64 (0:Int),.nsl]),(1,.vs [.int .i64 a,.int .i64 a,.sl 2 1 1 0 b b]),(2,.fl d)],3⟩
def RJ(a:Int)(b:Nat)(c:(List Nat)) :aQ:=⟨an 26 [(2,.ptr 0 1 0 0),(3,.ptr 1 1 0 0)],[(0,.vs [.int .i64 (0:Int),.int .i64 (0:Int),.nsl]),(1,.vs [.int .i64 a,.int .i64 a,.sl 2 1 1 0 b b]),(2,.fl c)],3⟩
def akJ:List Code:=cN (dn ((((akG.drop 3).take 1)).headD .skip))
def akK(b:Int)(d:Nat)(a:Nat)(c:List Nat) :T ((Nat×(List Nat))⊕(((List Nat))⊕(jb))) :=
  .ask (decide (((a:Nat):Int)<b))
    (.need (di .i64 (((a:Nat):Int)*b))<|.need (di .i64 ((((a:Nat):Int)*b)+((a:Nat):Int)))<|.need (fv ((((a:Nat):Int)*b)+((a:Nat):Int)) d)<|.need (g9 (Int.toNat ((((a:Nat):Int)*b)+((a:Nat):Int))) (List.length c))<|.need (di .i64 (((a+1):Nat):Int))<|.leaf (.inl ((a+1),(List.set c (Int.toNat ((((a:Nat):Int)*b)+((a:Nat):Int))) 4607182418800017408))))
    (.leaf (.inr (.inl c)))
def Fc(a:Int)(b:Nat) :Nat×(List Nat)→Option ((Nat×(List Nat))⊕(((List Nat))⊕(jb))):=fun (c,d) =>
  (akK a b c d).run
theorem aeO(a:Int)(b:Nat)(c:Nat)(d:List Nat) :Sg prog [] akJ (Ia a b (c,d)) (Fc a b (c,d)) (Ia a b) (cy 0 (RJ a b) DD):=by
  unfold Fc;exact bj rK _ [⟨[],[0,1,2],[0,2,3,4]⟩,⟨[],[0,1,2],[2,3]⟩]
def aeP(a:Int)(b:Nat)(c:List Nat) :T ((Empty)⊕(jb)) :=
  .leaf (.inr (.r0 a b c))
def qU(a:Int) :Option jb:=jM (aC ((akI a).run) fun (b,c) =>
  aC (dh (Fc a b) (0,c)) fun d =>
  (aeP a b d).run)
theorem akL(a:Int){x:jb}(h:qU a=some x) :ay prog JE [] [.int .i64 a] (KR x) :=
  kf false KR DD h (Sg.cut 3 H9 (bj rK (akH a) [⟨[],[0,128,96],[0,2,3,4]⟩]) (fun ⟨b,g⟩=>Sg.cut 1 H9 (AD ⟨[],[0,1,2],[0,2,3,4]⟩ (Ia a b) (RJ a b) 0 H9 (akF _) (fun ⟨e,f⟩=>aeO a b e f)) (fun i=>bj rK _ [⟨[],[0,2],[2]⟩])))
    (fun x=>by cases x with | r0 c d j=>exact jN [.agg [.int .i64 c,.int .i64 c,.sl 1 1 1 0 d d]])
def AX:Option jb→Bool
  | some _=>true
  | none=>false
def B2:Option jb→Int
  | some (.r0 x _ _)=>x
  | _=>0
def B3:Option jb→Nat
  | some (.r0 _ x _)=>x
  | _=>0
def B4:Option jb→List Nat
  | some (.r0 _ _ x)=>x
  | _=>[]
theorem akM{x:Option jb}(h:AX x=true) :x=some (.r0 (B2 x) (B3 x) (B4 x)):=by
  unfold AX at h
  split at h<;>first | rfl | (cases h;done) | (rename_i y;cases y;rfl)
def V1:aM:=bK JE (.cons (.int .i64) .nil) fun t=>(fun q=>[⟨KR (.r0 (B2 q) (B3 q) (B4 q)),[AX q]⟩]) (qU t.1)
theorem aaE:aY prog V1:=aR fun t=>(aS (fun h=>akL t.1 (akM h)) bc)
def V2:List aM:=V1::Nf
theorem B5:be prog (bh V2):=ax aaE rK
inductive lQ where
  | r0 (a:Bool)
def RK:lQ→AE×aQ
  | .r0 a=>(.ret,⟨an 32 [(2,.bool false a)],[],0⟩)
theorem aeQ:jJ RK:=by intro x;cases x<;>(intro h;cases h)
def Ib:lQ→gM
  | .r0 a=>⟨.bool false a,[]⟩
def aeR(a:Bool) :aQ:=⟨an 32 [(2,.bool false a)],[],0⟩
def Ng(a:Int)(b:Int)(c:List Nat) :T ((Bool)⊕(lQ)) :=
  .ask (decide (a<(0:Int)))
    (.leaf (.inl true))
    (.ask (decide (a>(512:Int)))
      (.leaf (.inl true))
      (.ask (decide (b<(0:Int)))
        (.leaf (.inl true))
        (.ask (decide (b>(512:Int)))
          (.leaf (.inl true))
          (.need (di .i64 (a*b))<|.leaf (.inl ((((List.length c):Nat):Int) != (a*b)))))))
def aeS(a:Bool) :T ((Empty)⊕(lQ)) :=
  .leaf (.inr (.r0 a))
def cu(a:Int)(b:Int)(c:List Nat) :Option lQ:=jM (aC ((Ng a b c).run) fun d =>
  (aeS d).run)
theorem aeT(b:Int)(c:Int)(d:Lv)(a:List Nat){x:lQ}(h:cu b c a=some x) :ay prog Qv [] [.agg [.int .i64 b,.int .i64 c,.imm d (.fl a) 1 1 0 (List.length a)]] (Ib x) :=
  kf false Ib RK h (Sg.cut 2 aeQ (bj B5 aeR [⟨[],[],[2]⟩,⟨[],[],[2]⟩,⟨[],[],[2]⟩,⟨[],[],[2]⟩,⟨[],[],[2]⟩]) (fun f=>bj B5 _ [⟨[],[],[2]⟩]))
    (fun x=>by cases x with | r0 e=>exact jN [.bool false e])
def eU:Option lQ→Bool
  | some _=>true
  | none=>false
def dT:Option lQ→Bool
  | some (.r0 x)=>x
  | _=>false
theorem aeU{x:Option lQ}(h:eU x=true) :x=some (.r0 (dT x)):=by
  unfold eU at h
  split at h<;>first | rfl | (cases h;done) | (rename_i y;cases y;rfl)
def RL:aM:=bK Qv (.cons (.agg (.cons (.int .i64) (.cons (.int .i64) (.cons .fl .nil)))) .nil) fun t=>(fun q=>[⟨Ib (.r0 (dT q)),[eU q]⟩]) (cu t.1.1 t.1.2.1 t.1.2.2.1.2)
theorem WY:aY prog RL:=aR fun t=>(aS (fun h=>aeT t.1.1 t.1.2.1 t.1.2.2.1.1 t.1.2.2.1.2 (aeU h)) bc)
def RM:List aM:=RL::V2
theorem tS:be prog (bh RM):=ax WY B5
inductive bp where
  | r0 (a:Int)
def dX:bp→AE×aQ
  | .r0 a=>(.ret,⟨an 19 [(4,.int .i64 a)],[],0⟩)
theorem fJ:jJ dX:=by intro x;cases x<;>(intro h;cases h)
theorem qm(id:Nat) :mP id dX:=by intro x;cases x<;>(intro h;cases h)
def f6:bp→gM
  | .r0 a=>⟨.int .i64 a,[]⟩
def qn:List Code:=cN (oa qc)
def qo(b:Lv)(a:List Nat)(_:Unit) :aQ:=⟨an 19 [(0,.imm b (.fl a) 1 1 0 (List.length a)),(1,.fn (.func tA) [] []),(7,.int .i64 (((List.length a):Nat):Int)),(8,.int .i64 (0:Int))],[],0⟩
def qp:T ((Unit)⊕(bp)) :=
  .leaf (.inl ())
def fK(b:Lv)(a:List Nat)(c:Nat) :aQ:=⟨an 19 [(0,.imm b (.fl a) 1 1 0 (List.length a)),(1,.fn (.func tA) [] []),(7,.int .i64 (((List.length a):Nat):Int)),(8,.int .i64 ((c:Nat):Int))],[],0⟩
def kw(_:Unit) :aQ:=⟨an 19 [],[],0⟩
def qq:List Code:=cN (dn ((((qn.drop 2).take 1)).headD .skip))
def dc(b:List Nat)(a:Nat) :T ((Nat)⊕((Unit)⊕(bp))) :=
  .ask (decide (((a:Nat):Int)<(((List.length b):Nat):Int)))
    (.need (fv ((a:Nat):Int) (List.length b))<|.need (g9 a (List.length b))<|.ask (X4 (List.getD b a 0) (List.getD b a 0))
      (.leaf (.inr (.inr (.r0 ((a:Nat):Int)))))
      (.ask ((0:Int)==(0:Int))
        (.ask (fgt (Ot (List.getD b a 0)) 9218868437227405311)
          (.leaf (.inr (.inr (.r0 ((a:Nat):Int)))))
          (.need (di .i64 (((a+1):Nat):Int))<|.leaf (.inl (a+1))))
        (.fail)))
    (.leaf (.inr (.inl ())))
def dL(a:List Nat) :Nat→Option ((Nat)⊕((Unit)⊕(bp))):=fun b =>
  (dc a b).run
theorem qd(b:Lv)(a:List Nat)(c:Nat) :Sg prog [] qq (fK b a c) (dL a c) (fK b a) (cy 0 kw dX):=by
  unfold dL;exact bj tS _ [⟨[],[],[4]⟩,⟨[],[],[4]⟩,⟨[],[],[0,1,7,8]⟩,⟨[],[],[]⟩]
def qe:T ((Empty)⊕(bp)) :=
  .leaf (.inr (.r0 (-1:Int)))
def au(a:List Nat) :Option bp:=jM (aC ((qp).run) fun _ =>
  aC (dh (dL a) 0) fun _ =>
  (qe).run)
theorem qr(b:Lv)(a:List Nat){x:bp}(h:au a=some x) :ay prog qc [] [.imm b (.fl a) 1 1 0 (List.length a),.fn (.func tA) [] []] (f6 x) :=
  kf false f6 dX h (Sg.cut 2 fJ (bj tS (qo b a) [⟨[],[],[0,1,7,8]⟩]) (fun _=>Sg.cut 1 fJ (AD ⟨[],[],[0,1,7,8]⟩ (fK b a) (kw) 0 fJ (qm _) (fun c=>qd b a c)) (fun _=>bj tS _ [⟨[],[],[4]⟩])))
    (fun x=>by cases x with | r0 d=>exact jN [.int .i64 d])
def aV:Option bp→Bool
  | some _=>true
  | none=>false
def aW:Option bp→Int
  | some (.r0 x)=>x
  | _=>0
theorem qs{x:Option bp}(h:aV x=true) :x=some (.r0 (aW x)):=by
  unfold aV at h
  split at h<;>first | rfl | (cases h;done) | (rename_i y;cases y;rfl)
def kT:aM:=bK qc (.cons .fl (.cons (.fn tA .nil .nil) .nil)) fun t=>(fun q=>[⟨f6 (.r0 (aW q)),[aV q]⟩]) (au t.1.2)
theorem pM:aY prog kT:=aR fun t=>(aS (fun h=>qr t.1.1 t.1.2 (qs h)) bc)
def kU:List aM:=kT::RM
theorem fg:be prog (bh kU):=ax pM tS
inductive pf where
  | r0 (a:Bool)
def aaF:pf→AE×aQ
  | .r0 a=>(.ret,⟨an 17 [(4,.bool false a)],[],0⟩)
theorem aon:jJ aaF:=by intro x;cases x<;>(intro h;cases h)
def O6:pf→gM
  | .r0 a=>⟨.bool false a,[]⟩
def aoo(a:Bool) :aQ:=⟨an 17 [(4,.bool false a)],[],0⟩
def aop(a:Nat)(b:Nat) :T ((Bool)⊕(pf)) :=
  .ask (X4 a a)
    (.ask (!(X4 b b))
      (.leaf (.inl true))
      (.leaf (.inl (flt a b))))
    (.leaf (.inl (flt a b)))
def aoq(a:Bool) :T ((Empty)⊕(pf)) :=
  .leaf (.inr (.r0 a))
def B6(a:Nat)(b:Nat) :Option pf:=jM (aC ((aop a b).run) fun c =>
  (aoq c).run)
theorem aor(a:Nat)(b:Nat){x:pf}(h:B6 a b=some x) :ay prog YQ [] [.flt false a,.flt false b] (O6 x) :=
  kf false O6 aaF h (Sg.cut 2 aon (bj fg aoo [⟨[],[],[4]⟩,⟨[],[],[4]⟩,⟨[],[],[4]⟩]) (fun d=>bj fg _ [⟨[],[],[4]⟩]))
    (fun x=>by cases x with | r0 c=>exact jN [.bool false c])
def DE:Option pf→Bool
  | some _=>true
  | none=>false
def Fd:Option pf→Bool
  | some (.r0 x)=>x
  | _=>false
theorem aos{x:Option pf}(h:DE x=true) :x=some (.r0 (Fd x)):=by
  unfold DE at h
  split at h<;>first | rfl | (cases h;done) | (rename_i y;cases y;rfl)
def aaG:aM:=bK YQ (.cons (.flt false) (.cons (.flt false) .nil)) fun t=>(fun q=>[⟨O6 (.r0 (Fd q)),[DE q]⟩]) (B6 t.1 t.2.1)
theorem aeV:aY prog aaG:=aR fun t=>(aS (fun h=>aor t.1 t.2.1 (aos h)) bc)
def aaH:List aM:=aaG::kU
theorem sF:be prog (bh aaH):=ax aeV fg
inductive dE where
  | r0 (a:Bool)
def qi:dE→AE×aQ
  | .r0 a=>(.ret,⟨an 21 [(2,.bool false a)],[],0⟩)
theorem pg:jJ qi:=by intro x;cases x<;>(intro h;cases h)
theorem O7(id:Nat) :mP id qi:=by intro x;cases x<;>(intro h;cases h)
def v7:dE→gM
  | .r0 a=>⟨.bool false a,[]⟩
def O8:List Code:=cN (oa vk)
def O9(b:Lv)(a:List Nat)(c:Int) :aQ:=⟨an 21 [(0,.imm b (.fl a) 1 1 0 (List.length a)),(3,.int .i64 c)],[],0⟩
def Pa(a:List Nat) :T ((Int)⊕(dE)) :=
  .need (di .i64 ((((List.length a):Nat):Int)-(1:Int)))<|.leaf (.inl ((((List.length a):Nat):Int)-(1:Int)))
def uu(b:Lv)(a:List Nat)(c:Int) :aQ:=⟨an 21 [(0,.imm b (.fl a) 1 1 0 (List.length a)),(3,.int .i64 c)],[],0⟩
def B7(_:Unit) :aQ:=⟨an 21 [],[],0⟩
def Mc:List Code:=cN (dn ((((O8.drop 2).take 1)).headD .skip))
def Pb(b:Lv)(a:List Nat)(c:Int)(_:Unit) :aQ:=⟨an 21 [(0,.imm b (.fl a) 1 1 0 (List.length a)),(3,.int .i64 c)],[],0⟩
def ou(b:List Nat)(a:Int) :T ((Unit)⊕((Unit)⊕(dE))) :=
  .ask (decide (a>(0:Int)))
    (.need (fv a (List.length b))<|.need (g9 (Int.toNat a) (List.length b))<|.need (di .i64 (a-(1:Int)))<|.need (fv (a-(1:Int)) (List.length b))<|.need (g9 (Int.toNat (a-(1:Int))) (List.length b))<|.need (DE (B6 (List.getD b (Int.toNat a) 0) (List.getD b (Int.toNat (a-(1:Int))) 0)))<|.ask (Fd (B6 (List.getD b (Int.toNat a) 0) (List.getD b (Int.toNat (a-(1:Int))) 0)))
      (.leaf (.inr (.inr (.r0 false))))
      (.leaf (.inl ())))
    (.leaf (.inr (.inl ())))
def Md(a:Int) :T ((Int)⊕((Unit)⊕(dE))) :=
  .need (di .i64 (a-(1:Int)))<|.leaf (.inl (a-(1:Int)))
def ov(b:List Nat) :Int→Option ((Int)⊕((Unit)⊕(dE))):=fun a =>
  aC ((ou b a).run) fun _ =>
  (Md a).run
theorem Me(b:Lv)(a:List Nat)(c:Int) :Sg prog [] Mc (uu b a c) (ov a c) (uu b a) (cy 0 B7 qi):=by
  unfold ov;exact Sg.cut 3 (az pg) (bj sF (Pb b a c) [⟨[],[],[2]⟩,⟨[],[],[0,3]⟩,⟨[],[],[]⟩]) (fun _=>bj sF _ [⟨[],[],[0,3]⟩])
def Mf:T ((Empty)⊕(dE)) :=
  .leaf (.inr (.r0 true))
def nI(a:List Nat) :Option dE:=jM (aC ((Pa a).run) fun b =>
  aC (dh (ov a) b) fun _ =>
  (Mf).run)
theorem Pc(b:Lv)(a:List Nat){x:dE}(h:nI a=some x) :ay prog vk [] [.imm b (.fl a) 1 1 0 (List.length a)] (v7 x) :=
  kf false v7 qi h (Sg.cut 2 pg (bj sF (O9 b a) [⟨[],[],[0,3]⟩]) (fun e=>Sg.cut 1 pg (AD ⟨[],[],[0,3]⟩ (uu b a) (B7) 0 pg (O7 _) (fun c=>Me b a c)) (fun _=>bj sF _ [⟨[],[],[2]⟩])))
    (fun x=>by cases x with | r0 d=>exact jN [.bool false d])
def ph:Option dE→Bool
  | some _=>true
  | none=>false
def qV:Option dE→Bool
  | some (.r0 x)=>x
  | _=>false
theorem Pd{x:Option dE}(h:ph x=true) :x=some (.r0 (qV x)):=by
  unfold ph at h
  split at h<;>first | rfl | (cases h;done) | (rename_i y;cases y;rfl)
def DF:aM:=bK vk (.cons .fl .nil) fun t=>(fun q=>[⟨v7 (.r0 (qV q)),[ph q]⟩]) (nI t.1.2)
theorem KS:aY prog DF:=aR fun t=>(aS (fun h=>Pc t.1.1 t.1.2 (Pd h)) bc)
def DG:List aM:=DF::aaH
theorem jc:be prog (bh DG):=ax KS sF
inductive dY where
  | r0 (a:Nat) (b:Bool) (c:List Int) (d:Nat) (e:Nat) (f:Int)
def RN:dY→AE×aQ
  | .r0 a b c d e f=>(.ret,⟨an 45 [(4,.ptr 0 1 0 0),(5,.int .i64 ((a:Nat):Int))],[(0,.vs [.bool false b,.imm .free (.ns .u64 c) 1 1 d e,.int .i64 f])],1⟩)
theorem yN:jJ RN:=by intro x;cases x<;>(intro h;cases h)
def Ic:dY→gM
  | .r0 a b c d e f=>⟨.tup [.agg [.bool false b,.imm .free (.ns .u64 c) 1 1 d e,.int .i64 f],.int .i64 ((a:Nat):Int)],[]⟩
def aeW(a:Int)(b:Int) :Bool×Bool→aQ:=fun (c,d)=>⟨an 45 [(0,.int .i64 a),(1,.int .i64 b),(4,.ptr 0 1 0 0),(22,.bool false c)],[(0,.vs [.bool false d,.nsl,.int .i64 (0:Int)])],1⟩
def Nh(a:Int)(b:Int) :T ((Bool×Bool)⊕(dY)) :=
  .ask (decide (a<(0:Int)))
    (.leaf (.inl (true,false)))
    (.ask (decide (a>(512:Int)))
      (.leaf (.inl (true,false)))
      (.ask (decide (b<(0:Int)))
        (.leaf (.inl (true,false)))
        (.leaf (.inl ((decide (b>(512:Int))),false)))))
def aeX(a:Bool) :Bool×(List Int)×Nat×Nat×Int→aQ:=fun (b,c,d,e,f)=>⟨an 45 [(4,.ptr 0 1 0 0),(6,.ptr 1 1 0 0)],[(0,.vs [.bool false a,.nsl,.int .i64 (0:Int)]),(1,.vs [.bool false b,.imm .free (.ns .u64 c) 1 1 d e,.int .i64 f])],2⟩
def Fe(a:Int)(b:Int)(c:Bool) :T ((Bool×(List Int)×Nat×Nat×Int)⊕(dY)) :=
  .ask c
    (.leaf (.inr (.r0 2 false ([]:List Int) 0 0 (0:Int))))
    (.need (di .i64 ((64:Int)*(mr a (1:Int))))<|.need (di .i64 (((64:Int)*(mr a (1:Int)))*(mr b (1:Int))))<|.need (l6 (bo (((64:Int)*(mr a (1:Int)))*(mr b (1:Int)))))<|.leaf (.inl ((iE (bo (((64:Int)*(mr a (1:Int)))*(mr b (1:Int))))),(gk (bo (((64:Int)*(mr a (1:Int)))*(mr b (1:Int))))),(gn (bo (((64:Int)*(mr a (1:Int)))*(mr b (1:Int))))),(gp (bo (((64:Int)*(mr a (1:Int)))*(mr b (1:Int))))),(iF (bo (((64:Int)*(mr a (1:Int)))*(mr b (1:Int))))))))
def aeY(a:Bool) :Nat×Bool×(List Int)×Nat×Nat×Int→aQ:=fun (b,c,d,e,f,g)=>⟨an 45 [(4,.ptr 0 1 0 0),(7,.ptr 1 1 0 0),(8,.int .i64 ((b:Nat):Int))],[(0,.vs [.bool false a,.nsl,.int .i64 (0:Int)]),(1,.vs [.bool false c,.imm .free (.ns .u64 d) 1 1 e f,.int .i64 g])],2⟩
def Ff(d:Bool)(a:List Int)(b:Nat)(c:Nat)(e:Int) :T ((Nat×Bool×(List Int)×Nat×Nat×Int)⊕(dY)) :=
  .need (aG b c a)<|.need (aG b c a)<|.need (oS (aD d (ab b c a) e d (ab b c a) e))<|.leaf (.inl ((l5 (aD d (ab b c a) e d (ab b c a) e)),(cZ (aD d (ab b c a) e d (ab b c a) e)),(cO (aD d (ab b c a) e d (ab b c a) e)),(cP (aD d (ab b c a) e d (ab b c a) e)),(cQ (aD d (ab b c a) e d (ab b c a) e)),(c4 (aD d (ab b c a) e d (ab b c a) e))))
def aeZ:Nat×Bool×(List Int)×Nat×Nat×Int→aQ:=fun (a,b,c,d,e,f)=>⟨an 45 [(4,.ptr 0 1 0 0),(5,.int .i64 ((a:Nat):Int))],[(0,.vs [.bool false b,.imm .free (.ns .u64 c) 1 1 d e,.int .i64 f])],1⟩
def Fg(f:Nat)(d:Bool)(a:List Int)(b:Nat)(c:Nat)(e:Int) :T ((Nat×Bool×(List Int)×Nat×Nat×Int)⊕(dY)) :=
  .ask (((f:Nat):Int) != (0:Int))
    (.leaf (.inr (.r0 f false ([]:List Int) 0 0 (0:Int))))
    (.need (aG b c a)<|.need (yB (kF d (ab b c a) e (-106:Int)))<|.leaf (.inl ((zA (kF d (ab b c a) e (-106:Int))),(zB (kF d (ab b c a) e (-106:Int))),(zC (kF d (ab b c a) e (-106:Int))),(zD (kF d (ab b c a) e (-106:Int))),(zE (kF d (ab b c a) e (-106:Int))),(zF (kF d (ab b c a) e (-106:Int))))))
def aaI(a:Nat)(b:Bool)(c:List Int)(d:Nat)(e:Nat)(f:Int) :T ((Empty)⊕(dY)) :=
  .leaf (.inr (.r0 a b c d e f))
def cv(a:Int)(b:Int) :Option dY:=jM (aC ((Nh a b).run) fun (c,u) =>
  aC ((Fe a b c).run) fun (d,e,f,g,h) =>
  aC ((Ff d e f g h).run) fun (i,j,k,l,m,n) =>
  aC ((Fg i j k l m n).run) fun (o,p,q,r,s,t) =>
  (aaI o p q r s t).run)
theorem ae0(a:Int)(b:Int){x:dY}(h:cv a b=some x) :ay prog GQ [] [.int .i64 a,.int .i64 b] (Ic x) :=
  kf true Ic RN h (Sg.cut 2 yN (bj jc (aeW a b) [⟨[],[0],[0,1,4,22]⟩,⟨[],[0],[0,1,4,22]⟩,⟨[],[0],[0,1,4,22]⟩,⟨[],[0],[0,1,4,22]⟩]) (fun ⟨k,c⟩=>Sg.cut 2 yN (bj jc (aeX c) [⟨[(.cell 0 1,.fre 1 1 (.ns .u64 ([]:List Int)))],[0],[4,5]⟩,⟨[],[0,113],[4,6]⟩]) (fun ⟨l,m,n,o,p⟩=>Sg.cut 1 yN (bj jc (aeY c) [⟨[],[0,98],[4,7,8]⟩]) (fun ⟨q,r,s,t,u,v⟩=>Sg.cut 3 yN (bj jc aeZ [⟨[(.cell 0 1,.fre 1 1 (.ns .u64 ([]:List Int)))],[0],[4,5]⟩,⟨[],[0],[4,5]⟩]) (fun ⟨w,y,z,A,B,C⟩=>bj jc _ [⟨[],[0],[4,5]⟩])))))
    (fun x=>by cases x with | r0 d e f g i j=>exact jN [.agg [.bool false e,.imm .free (.ns .u64 f) 1 1 g i,.int .i64 j],.int .i64 ((d:Nat):Int)])
def p9:Option dY→Bool
  | some _=>true
  | none=>false
def pN:Option dY→Nat
  | some (.r0 x _ _ _ _ _)=>x
  | _=>0
def pO:Option dY→Bool
  | some (.r0 _ x _ _ _ _)=>x
  | _=>false
def pP:Option dY→List Int
  | some (.r0 _ _ x _ _ _)=>x
  | _=>[]
def pQ:Option dY→Nat
  | some (.r0 _ _ _ x _ _)=>x
  | _=>0
def pR:Option dY→Nat
  | some (.r0 _ _ _ _ x _)=>x
  | _=>0
def pS:Option dY→Int
  | some (.r0 _ _ _ _ _ x)=>x
  | _=>0
theorem ae1{x:Option dY}(h:p9 x=true) :x=some (.r0 (pN x) (pO x) (pP x) (pQ x) (pR x) (pS x)):=by
  unfold p9 at h
  split at h<;>first | rfl | (cases h;done) | (rename_i y;cases y;rfl)
def RO:aM:=bK GQ (.cons (.int .i64) (.cons (.int .i64) .nil)) fun t=>(fun q=>[⟨Ic (.r0 (pN q) (pO q) (pP q) (pQ q) (pR q) (pS q)),[p9 q]⟩]) (cv t.1 t.2.1)
theorem WZ:aY prog RO:=aR fun t=>(aS (fun h=>ae0 t.1 t.2.1 (ae1 h)) bc)
def RP:List aM:=RO::DG
theorem pT:be prog (bh RP):=ax WZ jc
inductive fa where
  | r0 (a:Nat) (b:List Bool) (c:List (List Int)) (d:List Int)
def AY:fa→AE×aQ
  | .r0 a b c d=>(.ret,⟨an 26 [(2,.sl 0 3 3 0 a a)],[(0,.cols a [.cb b,.cns .u64 c,.ci .i64 d])],1⟩)
theorem yO:jJ AY:=by intro x;cases x<;>(intro h;cases h)
theorem ae2(id:Nat) :mP id AY:=by intro x;cases x<;>(intro h;cases h)
def Id:fa→gM
  | .r0 a b c d=>⟨.imm .free (.cols a [.cb b,.cns .u64 c,.ci .i64 d]) 3 3 0 a,[]⟩
def ae3:List Code:=cN (oa Ay)
def ae4(b:Lv)(a:List Nat) :(List Bool)×(List (List Int))×(List Int)→aQ:=fun (c,d,e)=>⟨an 26 [(3,.sl 0 3 3 0 (List.length a) (List.length a)),(9,.imm b (.fl a) 1 1 0 (List.length a)),(10,.int .i64 (((List.length a):Nat):Int)),(11,.int .i64 (0:Int))],[(0,.cols (List.length a) [.cb c,.cns .u64 d,.ci .i64 e])],1⟩
def Ni(a:List Nat) :T (((List Bool)×(List (List Int))×(List Int))⊕(fa)) :=
  .need (decide ((0:Int)≤(((List.length a):Nat):Int)))<|.need (decide ((((List.length a):Nat):Int)≤(((List.length a):Nat):Int)))<|.need (decide ((40:Int)*(((List.length a):Nat):Int)≤140737488355328))<|.need (di .i64 (((List.length a):Nat):Int))<|.leaf (.inl ((List.replicate (List.length a) false),(List.replicate (List.length a) []),(List.replicate (List.length a) (0:Int))))
def Fh(b:Lv)(a:List Nat) :Nat×(List Bool)×(List (List Int))×(List Int)→aQ:=fun (c,d,e,f)=>⟨an 26 [(3,.sl 0 3 3 0 (List.length a) (List.length a)),(9,.imm b (.fl a) 1 1 0 (List.length a)),(10,.int .i64 (((List.length a):Nat):Int)),(11,.int .i64 ((c:Nat):Int))],[(0,.cols (List.length a) [.cb d,.cns .u64 e,.ci .i64 f])],1⟩
def Nj(a:List Nat) :(List Bool)×(List (List Int))×(List Int)→aQ:=fun (b,c,d)=>⟨an 26 [(3,.sl 0 3 3 0 (List.length a) (List.length a))],[(0,.cols (List.length a) [.cb b,.cns .u64 c,.ci .i64 d])],1⟩
def aaJ:List Code:=cN (dn ((((ae3.drop 3).take 1)).headD .skip))
def ae5(b:Lv)(a:List Nat)(c:Nat) :(List Bool)×(List (List Int))×(List Int)→aQ:=fun (d,e,f)=>⟨an 26 [(3,.sl 0 3 3 0 (List.length a) (List.length a)),(9,.imm b (.fl a) 1 1 0 (List.length a)),(10,.int .i64 (((List.length a):Nat):Int)),(11,.int .i64 ((c:Nat):Int))],[(0,.cols (List.length a) [.cb d,.cns .u64 e,.ci .i64 f])],1⟩
def v8(b:List Nat)(a:Nat)(c:List Bool)(d:List (List Int))(e:List Int) :T (((List Bool)×(List (List Int))×(List Int))⊕(((List Bool)×(List (List Int))×(List Int))⊕(fa))) :=
  .ask (decide (((a:Nat):Int)<(((List.length b):Nat):Int)))
    (.need (fv ((a:Nat):Int) (List.length b))<|.need (g9 a (List.length b))<|.need (BG (m8 (List.getD b a 0)))<|.need (fv ((a:Nat):Int) (List.length b))<|.need (g9 a (List.length c))<|.need (g9 a (List.length d))<|.need (decide ((vI (m8 (List.getD b a 0)))+(vJ (m8 (List.getD b a 0)))≤List.length (vH (m8 (List.getD b a 0)))))<|.need (g9 a (List.length e))<|.leaf (.inl ((List.set c a (AL (m8 (List.getD b a 0)))),(List.set d a (List.take (vJ (m8 (List.getD b a 0))) (List.drop (vI (m8 (List.getD b a 0))) (vH (m8 (List.getD b a 0)))))),(List.set e a (AM (m8 (List.getD b a 0)))))))
    (.leaf (.inr (.inl (c,d,e))))
def aaK(a:Nat)(b:List Bool)(c:List (List Int))(d:List Int) :T ((Nat×(List Bool)×(List (List Int))×(List Int))⊕(((List Bool)×(List (List Int))×(List Int))⊕(fa))) :=
  .need (di .i64 (((a+1):Nat):Int))<|.leaf (.inl ((a+1),b,c,d))
def B8(b:List Nat) :Nat×(List Bool)×(List (List Int))×(List Int)→Option ((Nat×(List Bool)×(List (List Int))×(List Int))⊕(((List Bool)×(List (List Int))×(List Int))⊕(fa))):=fun (a,c,d,e) =>
  aC ((v8 b a c d e).run) fun (f,g,h) =>
  (aaK a f g h).run
theorem aaL(b:Lv)(a:List Nat)(c:Nat)(d:List Bool)(e:List (List Int))(f:List Int) :Sg prog [] aaJ (Fh b a (c,d,e,f)) (B8 a (c,d,e,f)) (Fh b a) (cy 0 (Nj a) AY):=by
  unfold B8;exact Sg.cut 3 (az yO) (bj pT (ae5 b a c) [⟨[],[0],[3,9,10,11]⟩,⟨[],[0],[3]⟩]) (fun ⟨g,h,i⟩=>bj pT _ [⟨[],[0],[3,9,10,11]⟩])
def aaM(a:List Nat)(b:List Bool)(c:List (List Int))(d:List Int) :T ((Empty)⊕(fa)) :=
  .leaf (.inr (.r0 (List.length a) b c d))
def aE(a:List Nat) :Option fa:=jM (aC ((Ni a).run) fun (b,c,d) =>
  aC (dh (B8 a) (0,b,c,d)) fun (e,f,g) =>
  (aaM a e f g).run)
theorem ae6(b:Lv)(a:List Nat){x:fa}(h:aE a=some x) :ay prog Ay [] [.imm b (.fl a) 1 1 0 (List.length a)] (Id x) :=
  kf true Id AY h (Sg.cut 3 yO (bj pT (ae4 b a) [⟨[],[48],[3,9,10,11]⟩]) (fun ⟨i,j,k⟩=>Sg.cut 1 yO (AD ⟨[],[0],[3,9,10,11]⟩ (Fh b a) (Nj a) 0 yO (ae2 _) (fun ⟨d,e,f,g⟩=>aaL b a d e f g)) (fun ⟨l,m,n⟩=>bj pT _ [⟨[],[0],[2]⟩])))
    (fun x=>by cases x with | r0 c o p q=>exact jN [.sl 0 3 3 0 c c])
def jj:Option fa→Bool
  | some _=>true
  | none=>false
def bg:Option fa→Nat
  | some (.r0 x _ _ _)=>x
  | _=>0
def dq:Option fa→List Bool
  | some (.r0 _ x _ _)=>x
  | _=>[]
def dr:Option fa→List (List Int)
  | some (.r0 _ _ x _)=>x
  | _=>[]
def dt:Option fa→List Int
  | some (.r0 _ _ _ x)=>x
  | _=>[]
theorem ae7{x:Option fa}(h:jj x=true) :x=some (.r0 (bg x) (dq x) (dr x) (dt x)):=by
  unfold jj at h
  split at h<;>first | rfl | (cases h;done) | (rename_i y;cases y;rfl)
def RQ:aM:=bK Ay (.cons .fl .nil) fun t=>(fun q=>[⟨Id (.r0 (bg q) (dq q) (dr q) (dt q)),[jj q]⟩]) (aE t.1.2)
theorem W1:aY prog RQ:=aR fun t=>(aS (fun h=>ae6 t.1.1 t.1.2 (ae7 h)) bc)
def RR:List aM:=RQ::RP
theorem na:be prog (bh RR):=ax W1 pT
end
end Go.Plb.Seat
