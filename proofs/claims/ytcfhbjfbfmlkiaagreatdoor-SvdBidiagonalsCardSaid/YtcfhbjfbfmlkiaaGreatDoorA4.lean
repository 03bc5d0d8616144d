/-
  Part 4 of what the claim leans on: an evaluator of the model, proved sound; the contracts of the functions.
-/
import Derived.Test.YtcfhbjfbfmlkiaaGreatDoorA3
namespace Go.Plb.Seat
open Go Go.Plb
set_option linter.unusedVariables false
set_option maxRecDepth 100000
noncomputable section
inductive bd where
  | r0 (i2:Int)
def dl:bd→AE×aM
  | .r0 i2=>(.ret,⟨aq 19 [(4,.int .i64 i2)],[],0⟩)
theorem eC:ld dl:=by intro x;cases x<;>(intro h;cases h)
theorem ol(id:Nat) :ko id dl:=by intro x;cases x<;>(intro h;cases h)
def eK:bd→ib
  | .r0 i2=>⟨.int .i64 i2,[]⟩
noncomputable def om:List Code:=cg (kB mn)
def oo(v_0:Lv)(s_1:List Int)(_:Unit) :aM:=⟨aq 19 [(0,.imm v_0 (.ns .u64 s_1) 1 1 0 (List.length s_1)),(1,.fn (.func tk) [] []),(7,.int .i64 (((List.length s_1):Nat):Int)),(8,.int .i64 (0:Int))],[],0⟩
def oq:T ((Unit)⊕(bd)) :=
  .leaf (.inl ())
def dh(v_0:Lv)(s_1:List Int)(a1:Nat) :aM:=⟨aq 19 [(0,.imm v_0 (.ns .u64 s_1) 1 1 0 (List.length s_1)),(1,.fn (.func tk) [] []),(7,.int .i64 (((List.length s_1):Nat):Int)),(8,.int .i64 ((a1:Nat):Int))],[],0⟩
def iN(_:Unit) :aM:=⟨aq 19 [],[],0⟩
noncomputable def ot:List Code:=cg (cw ((((om.drop 2).take 1)).headD .skip))
def bK(s_1:List Int)(a1:Nat) :T ((Nat)⊕((Unit)⊕(bd))) :=
  .ask (decide (((a1:Nat):Int)<(((List.length s_1):Nat):Int)))
    (.need (fi ((a1:Nat):Int) (List.length s_1))<|.need (eS a1 (List.length s_1))<|.need (decide ((0:Int)≤(52:Int)))<|.ask (!((IntKind.i64.wrap (cL .and .u64 (Int.fdiv (List.getD s_1 a1 0) (2^(min (Int.toNat (52:Int)) (IntKind.u64.bits)))) (2047:Int))) != (2047:Int)))
      (.leaf (.inr (.inr (.r0 ((a1:Nat):Int)))))
      (.need (cK .i64 (((a1+1):Nat):Int))<|.leaf (.inl (a1+1))))
    (.leaf (.inr (.inl ())))
noncomputable def ep(s_1:List Int) :Nat→Option ((Nat)⊕((Unit)⊕(bd))):=fun a1 =>
  (bK s_1 a1).run
theorem nH(v_0:Lv)(s_1:List Int)(a1:Nat) :Sg prog [] ot (dh v_0 s_1 a1) (ep s_1 a1) (dh v_0 s_1) (bS 0 iN dl):=by
  unfold ep;exact aV Uf (dh v_0 s_1) [⟨[],[],[4]⟩,⟨[],[],[0,1,7,8]⟩,⟨[],[],[]⟩]
def nI:T ((Empty)⊕(bd)) :=
  .leaf (.inr (.r0 (-1:Int)))
noncomputable def cr(s_1:List Int) :Option bd:=lG (aL ((oq).run) fun _ =>
  aL (ch (ep s_1) 0) fun _ =>
  (nI).run)
theorem ou(v_0:Lv)(s_1:List Int){x:bd}(h:cr s_1=some x) :aB prog mn [] [.imm v_0 (.ns .u64 s_1) 1 1 0 (List.length s_1),.fn (.func tk) [] []] (eK x) :=
  mo false eK dl h (Sg.cut 2 eC (aV Uf (oo v_0 s_1) [⟨[],[],[0,1,7,8]⟩]) (fun _=>Sg.cut 1 eC (vg ⟨[],[],[0,1,7,8]⟩ (dh v_0 s_1) (iN) 0 eC (ol _) (fun a1=>nH v_0 s_1 a1)) (fun _=>aV Uf lx [⟨[],[],[4]⟩])))
    (fun x=>by cases x with | r0 i2=>exact ly [.int .i64 i2])
def di:Option bd→Bool
  | some _=>true
  | none=>false
def dW:Option bd→Int
  | some (.r0 x)=>x
  | _=>0
theorem ov{x:Option bd}(h:di x=true) :x=some (.r0 (dW x)):=by
  unfold di at h
  split at h<;>first | rfl | (cases h;done) | (rename_i y;cases y;rfl)
noncomputable def ja:aK:=cy mn (.cons (.ns .u64) (.cons (.fn tk .nil .nil) .nil)) fun t=>(fun q=>[⟨eK (.r0 (dW q)),[di q]⟩]) (cr t.1.2)
theorem mY:aY prog ja:=ba fun t=>(aZ (fun h=>ou t.1.1 t.1.2 (ov h)) bj)
noncomputable def jb:List aK:=ja::arH
theorem dX:aW prog (aT jb):=aF mY Uf
inductive fN where
  | r0 (b2:Bool)
def Gu:fN→AE×aM
  | .r0 b2=>(.ret,⟨aq 20 [(2,.bool false b2)],[],0⟩)
theorem PA:ld Gu:=by intro x;cases x<;>(intro h;cases h)
def yI:fN→ib
  | .r0 b2=>⟨.bool false b2,[]⟩
def PB(b1:Bool) :aM:=⟨aq 20 [(2,.bool false b1)],[],0⟩
def DU(w_0:Int) :T ((Bool)⊕(fN)) :=
  .need (decide ((0:Int)≤(1:Int)))<|.need (decide ((0:Int)≤(1:Int)))<|.ask ((Int.fdiv (IntKind.u64.wrap (w_0*2^(min (Int.toNat (1:Int)) (IntKind.u64.bits)))) (2^(min (Int.toNat (1:Int)) (IntKind.u64.bits))))==(0:Int))
    (.leaf (.inl true))
    (.need (decide ((0:Int)≤(1:Int)))<|.need (decide ((0:Int)≤(1:Int)))<|.ask (decide ((Int.fdiv (IntKind.u64.wrap (w_0*2^(min (Int.toNat (1:Int)) (IntKind.u64.bits)))) (2^(min (Int.toNat (1:Int)) (IntKind.u64.bits))))≥(2805742567851819008:Int)))
      (.need (decide ((0:Int)≤(1:Int)))<|.need (decide ((0:Int)≤(1:Int)))<|.leaf (.inl (decide ((Int.fdiv (IntKind.u64.wrap (w_0*2^(min (Int.toNat (1:Int)) (IntKind.u64.bits)))) (2^(min (Int.toNat (1:Int)) (IntKind.u64.bits))))≤(6408622269748215808:Int)))))
      (.leaf (.inl false)))
def PC(b1:Bool) :T ((Empty)⊕(fN)) :=
  .leaf (.inr (.r0 b1))
noncomputable def mZ(w_0:Int) :Option fN:=lG (aL ((DU w_0).run) fun b1 =>
  (PC b1).run)
theorem PD(w_0:Int){x:fN}(h:mZ w_0=some x) :aB prog Gt [] [.int .u64 w_0] (yI x) :=
  mo false yI Gu h (Sg.cut 3 PA (aV dX PB [⟨[],[],[2]⟩,⟨[],[],[2]⟩,⟨[],[],[2]⟩]) (fun b1=>aV dX lx [⟨[],[],[2]⟩]))
    (fun x=>by cases x with | r0 b2=>exact ly [.bool false b2])
def px:Option fN→Bool
  | some _=>true
  | none=>false
def rE:Option fN→Bool
  | some (.r0 x)=>x
  | _=>false
theorem PE{x:Option fN}(h:px x=true) :x=some (.r0 (rE x)):=by
  unfold px at h
  split at h<;>first | rfl | (cases h;done) | (rename_i y;cases y;rfl)
noncomputable def Gv:aK:=cy Gt (.cons (.int .u64) .nil) fun t=>(fun q=>[⟨yI (.r0 (rE q)),[px q]⟩]) (mZ t.1)
theorem LY:aY prog Gv:=ba fun t=>(aZ (fun h=>PD t.1 (PE h)) bj)
noncomputable def Gw:List aK:=Gv::jb
theorem cW:aW prog (aT Gw):=aF LY dX
inductive aI where
  | r0 (a17:Nat) (i18:Int) (i19:Int) (a20:Nat) (a21:Nat) (l22:List Nat)
def dz:aI→AE×aM
  | .r0 a17 i18 i19 a20 a21 l22=>(.ret,⟨aq 80 [(8,.ptr 0 1 0 0),(9,.int .i64 ((a17:Nat):Int))],[(0,.vs [.int .i64 i18,.int .i64 i19,.sl 1 1 1 0 a20 a21]),(1,.fl l22)],2⟩)
theorem bk:ld dz:=by intro x;cases x<;>(intro h;cases h)
theorem fO(id:Nat) :ko id dz:=by intro x;cases x<;>(intro h;cases h)
def jO:aI→ib
  | .r0 a17 i18 i19 a20 a21 l22=>⟨.tup [.agg [.int .i64 i18,.int .i64 i19,.sl 0 1 1 0 a20 a21],.int .i64 ((a17:Nat):Int)],[some (.fl l22)]⟩
noncomputable def mc:List Code:=cg (kB E8)
def yJ(m_0:Int)(n_1:Int)(v_2:Lv)(words_3:List Int)(b1:Bool) :aM:=⟨aq 80 [(0,.int .i64 m_0),(1,.int .i64 n_1),(2,.imm v_2 (.ns .u64 words_3) 1 1 0 (List.length words_3)),(3,.fn (.func gB) [] []),(8,.ptr 0 1 0 0),(40,.bool false b1)],[(0,.vs [.int .i64 (0:Int),.int .i64 (0:Int),.nsl])],1⟩
def jc(m_0:Int)(n_1:Int)(words_3:List Int) :T ((Bool)⊕(aI)) :=
  .ask (decide (m_0<(0:Int)))
    (.leaf (.inl true))
    (.ask (decide (m_0>(512:Int)))
      (.leaf (.inl true))
      (.ask (decide (n_1<(0:Int)))
        (.leaf (.inl true))
        (.ask (decide (n_1>(512:Int)))
          (.leaf (.inl true))
          (.need (cK .i64 (m_0*n_1))<|.ask ((((List.length words_3):Nat):Int) != (m_0*n_1))
            (.leaf (.inl true))
            (.need (bL 0 (List.length words_3) words_3)<|.need (di (cr (an 0 (List.length words_3) words_3)))<|.leaf (.inl (decide ((dW (cr (an 0 (List.length words_3) words_3)))≥(0:Int)))))))))
def yK(m_0:Int)(n_1:Int)(v_2:Lv)(words_3:List Int)(_:Unit) :aM:=⟨aq 80 [(0,.int .i64 m_0),(1,.int .i64 n_1),(2,.imm v_2 (.ns .u64 words_3) 1 1 0 (List.length words_3)),(3,.fn (.func gB) [] []),(8,.ptr 0 1 0 0),(42,.int .i64 m_0),(43,.int .i64 (0:Int))],[(0,.vs [.int .i64 (0:Int),.int .i64 (0:Int),.nsl])],1⟩
def xE(b1:Bool) :T ((Unit)⊕(aI)) :=
  .ask b1
    (.leaf (.inr (.r0 1 (0:Int) (0:Int) 0 0 ([]:List Nat))))
    (.leaf (.inl ()))
def fk(m_0:Int)(n_1:Int)(v_2:Lv)(words_3:List Int)(a3:Nat) :aM:=⟨aq 80 [(0,.int .i64 m_0),(1,.int .i64 n_1),(2,.imm v_2 (.ns .u64 words_3) 1 1 0 (List.length words_3)),(3,.fn (.func gB) [] []),(8,.ptr 0 1 0 0),(42,.int .i64 m_0),(43,.int .i64 ((a3:Nat):Int))],[(0,.vs [.int .i64 (0:Int),.int .i64 (0:Int),.nsl])],1⟩
def jd(m_0:Int)(n_1:Int)(v_2:Lv)(words_3:List Int)(_:Unit) :aM:=⟨aq 80 [(0,.int .i64 m_0),(1,.int .i64 n_1),(2,.imm v_2 (.ns .u64 words_3) 1 1 0 (List.length words_3)),(8,.ptr 0 1 0 0)],[(0,.vs [.int .i64 (0:Int),.int .i64 (0:Int),.nsl])],1⟩
noncomputable def md:List Code:=cg (cw (((((mc.drop 2).drop 2).take 1)).headD .skip))
def xF(m_0:Int)(n_1:Int)(v_2:Lv)(words_3:List Int)(a3:Nat)(_:Unit) :aM:=⟨aq 80 [(0,.int .i64 m_0),(1,.int .i64 n_1),(2,.imm v_2 (.ns .u64 words_3) 1 1 0 (List.length words_3)),(3,.fn (.func gB) [] []),(8,.ptr 0 1 0 0),(42,.int .i64 m_0),(43,.int .i64 ((a3:Nat):Int))],[(0,.vs [.int .i64 (0:Int),.int .i64 (0:Int),.nsl])],1⟩
def xG(m_0:Int)(a3:Nat) :T ((Unit)⊕((Unit)⊕(aI))) :=
  .ask (decide (((a3:Nat):Int)<m_0))
    (.leaf (.inl ()))
    (.leaf (.inr (.inl ())))
def je(m_0:Int)(n_1:Int)(v_2:Lv)(words_3:List Int)(a3:Nat)(_:Unit) :aM:=⟨aq 80 [(0,.int .i64 m_0),(1,.int .i64 n_1),(2,.imm v_2 (.ns .u64 words_3) 1 1 0 (List.length words_3)),(3,.fn (.func gB) [] []),(8,.ptr 0 1 0 0),(42,.int .i64 m_0),(43,.int .i64 ((a3:Nat):Int))],[(0,.vs [.int .i64 (0:Int),.int .i64 (0:Int),.nsl])],1⟩
noncomputable def xH:List Code:=cg (inBlock ((((md.drop 2).take 1)).headD .skip))
def xI(m_0:Int)(n_1:Int)(v_2:Lv)(words_3:List Int)(a3:Nat)(_:Unit) :aM:=⟨aq 80 [(0,.int .i64 m_0),(1,.int .i64 n_1),(2,.imm v_2 (.ns .u64 words_3) 1 1 0 (List.length words_3)),(3,.fn (.func gB) [] []),(8,.ptr 0 1 0 0),(10,.int .i64 ((a3:Nat):Int)),(42,.int .i64 m_0),(43,.int .i64 ((a3:Nat):Int)),(46,.int .i64 n_1),(47,.int .i64 (0:Int))],[(0,.vs [.int .i64 (0:Int),.int .i64 (0:Int),.nsl])],1⟩
def xJ:T ((Unit)⊕((Unit)⊕((Unit)⊕(aI)))) :=
  .leaf (.inl ())
def fo(m_0:Int)(n_1:Int)(v_2:Lv)(words_3:List Int)(a3:Nat)(a4:Nat) :aM:=⟨aq 80 [(0,.int .i64 m_0),(1,.int .i64 n_1),(2,.imm v_2 (.ns .u64 words_3) 1 1 0 (List.length words_3)),(3,.fn (.func gB) [] []),(8,.ptr 0 1 0 0),(10,.int .i64 ((a3:Nat):Int)),(42,.int .i64 m_0),(43,.int .i64 ((a3:Nat):Int)),(46,.int .i64 n_1),(47,.int .i64 ((a4:Nat):Int))],[(0,.vs [.int .i64 (0:Int),.int .i64 (0:Int),.nsl])],1⟩
def me(m_0:Int)(n_1:Int)(v_2:Lv)(words_3:List Int)(a3:Nat)(_:Unit) :aM:=⟨aq 80 [(0,.int .i64 m_0),(1,.int .i64 n_1),(2,.imm v_2 (.ns .u64 words_3) 1 1 0 (List.length words_3)),(3,.fn (.func gB) [] []),(8,.ptr 0 1 0 0),(42,.int .i64 m_0),(43,.int .i64 ((a3:Nat):Int))],[(0,.vs [.int .i64 (0:Int),.int .i64 (0:Int),.nsl])],1⟩
noncomputable def xK:List Code:=cg (cw ((((xH.drop 2).take 1)).headD .skip))
def xL(n_1:Int)(a4:Nat) :T ((Nat)⊕((Unit)⊕((Unit)⊕((Unit)⊕(aI))))) :=
  .ask (decide (((a4:Nat):Int)<n_1))
    (.need (cK .i64 (((a4+1):Nat):Int))<|.leaf (.inl (a4+1)))
    (.leaf (.inr (.inl ())))
noncomputable def jf(n_1:Int) :Nat→Option ((Nat)⊕((Unit)⊕((Unit)⊕((Unit)⊕(aI))))):=fun a4 =>
  (xL n_1 a4).run
theorem xM(m_0:Int)(n_1:Int)(v_2:Lv)(words_3:List Int)(a3:Nat)(a4:Nat) :Sg prog [] xK (fo m_0 n_1 v_2 words_3 a3 a4) (jf n_1 a4) (fo m_0 n_1 v_2 words_3 a3) (bS 2 (me m_0 n_1 v_2 words_3 a3) (bS 1 (je m_0 n_1 v_2 words_3 a3) (bS 0 (jd m_0 n_1 v_2 words_3) dz))):=by
  unfold jf;exact aV cW (fo m_0 n_1 v_2 words_3 a3) [⟨[],[0],[0,1,2,3,8,10,42,43,46,47]⟩,⟨[],[0],[0,1,2,3,8,42,43]⟩]
def xN:T ((Unit)⊕((Unit)⊕((Unit)⊕(aI)))) :=
  .leaf (.inl ())
def xO(a3:Nat) :T ((Nat)⊕((Unit)⊕(aI))) :=
  .need (cK .i64 (((a3+1):Nat):Int))<|.leaf (.inl (a3+1))
noncomputable def fp(m_0:Int)(n_1:Int) :Nat→Option ((Nat)⊕((Unit)⊕(aI))):=fun a3 =>
  aL ((xG m_0 a3).run) fun _ =>
  aL (vj (aL ((xJ).run) fun _ =>
  aL (ch (jf n_1) 0) fun _ =>
  (xN).run)) fun _ =>
  (xO a3).run
theorem xP(m_0:Int)(n_1:Int)(v_2:Lv)(words_3:List Int)(a3:Nat) :Sg prog [] md (fk m_0 n_1 v_2 words_3 a3) (fp m_0 n_1 a3) (fk m_0 n_1 v_2 words_3) (bS 0 (jd m_0 n_1 v_2 words_3) dz):=by
  unfold fp;exact Sg.cut 2 (aD bk) (aV cW (xF m_0 n_1 v_2 words_3 a3) [⟨[],[0],[0,1,2,3,8,42,43]⟩,⟨[],[0],[0,1,2,8]⟩]) (fun _=>Sg.cut 1 (aD bk) (sgb (je m_0 n_1 v_2 words_3 a3) 1 (aD bk) (ck (by decide) (fO _)) (Sg.cut 2 (aD (aD bk)) (aV cW (xI m_0 n_1 v_2 words_3 a3) [⟨[],[0],[0,1,2,3,8,10,42,43,46,47]⟩]) (fun _=>Sg.cut 1 (aD (aD bk)) (vg ⟨[],[0],[0,1,2,3,8,10,42,43,46,47]⟩ (fo m_0 n_1 v_2 words_3 a3) (me m_0 n_1 v_2 words_3 a3) 2 (aD (aD bk)) (ck (by decide) (ck (by decide) (fO _))) (fun a4=>xM m_0 n_1 v_2 words_3 a3 a4)) (fun _=>aV cW (je m_0 n_1 v_2 words_3 a3) [⟨[],[0],[0,1,2,3,8,42,43]⟩])))) (fun _=>aV cW (fk m_0 n_1 v_2 words_3) [⟨[],[0],[0,1,2,3,8,42,43]⟩]))
def xQ(m_0:Int)(n_1:Int)(v_2:Lv)(words_3:List Int)(_:Unit) :aM:=⟨aq 80 [(8,.ptr 0 1 0 0),(12,.ptr 1 1 0 0),(61,.imm v_2 (.ns .u64 words_3) 1 1 0 (List.length words_3)),(62,.int .i64 (((List.length words_3):Nat):Int)),(63,.int .i64 (0:Int))],[(0,.vs [.int .i64 (0:Int),.int .i64 (0:Int),.nsl]),(1,.vs [.int .i64 m_0,.int .i64 n_1,.nsl])],2⟩
def xR:T ((Unit)⊕(aI)) :=
  .leaf (.inl ())
def fq(m_0:Int)(n_1:Int)(v_2:Lv)(words_3:List Int) :Nat×Nat×Nat×(List Nat)→aM:=fun (a8,a9,a10,l11)=>⟨aq 80 [(8,.ptr 0 1 0 0),(12,.ptr 1 1 0 0),(61,.imm v_2 (.ns .u64 words_3) 1 1 0 (List.length words_3)),(62,.int .i64 (((List.length words_3):Nat):Int)),(63,.int .i64 ((a8:Nat):Int))],[(0,.vs [.int .i64 (0:Int),.int .i64 (0:Int),.nsl]),(1,.vs [.int .i64 m_0,.int .i64 n_1,.sl 2 1 1 0 a9 a10]),(2,.fl l11)],3⟩
def mf(m_0:Int)(n_1:Int) :Nat×Nat×(List Nat)→aM:=fun (a14,a15,l16)=>⟨aq 80 [(8,.ptr 0 1 0 0),(12,.ptr 1 1 0 0)],[(0,.vs [.int .i64 (0:Int),.int .i64 (0:Int),.nsl]),(1,.vs [.int .i64 m_0,.int .i64 n_1,.sl 2 1 1 0 a14 a15]),(2,.fl l16)],3⟩
noncomputable def xS:List Code:=cg (cw (((((((mc.drop 2).drop 2).drop 1).drop 2).take 1)).headD .skip))
def xT(m_0:Int)(n_1:Int)(v_2:Lv)(words_3:List Int)(a8:Nat) :Nat×(List Nat)→aM:=fun (a12,l13)=>⟨aq 80 [(8,.ptr 0 1 0 0),(12,.ptr 1 1 0 0),(61,.imm v_2 (.ns .u64 words_3) 1 1 0 (List.length words_3)),(62,.int .i64 (((List.length words_3):Nat):Int)),(63,.int .i64 ((a8:Nat):Int))],[(0,.vs [.int .i64 (0:Int),.int .i64 (0:Int),.nsl]),(1,.vs [.int .i64 m_0,.int .i64 n_1,.sl 2 1 1 0 a12 a12]),(2,.fl l13)],3⟩
def jg(words_3:List Int)(a8:Nat)(a9:Nat)(a10:Nat)(l11:List Nat) :T ((Nat×(List Nat))⊕((Nat×Nat×(List Nat))⊕(aI))) :=
  .ask (decide (((a8:Nat):Int)<(((List.length words_3):Nat):Int)))
    (.need (fi ((a8:Nat):Int) (List.length words_3))<|.need (eS a8 (List.length words_3))<|.need (px (mZ (List.getD words_3 a8 0)))<|.ask (!(rE (mZ (List.getD words_3 a8 0))))
      (.leaf (.inr (.inr (.r0 2 (0:Int) (0:Int) 0 0 ([]:List Nat)))))
      (.need (dK ((a9+1)*8) 140737488355328)<|.need (dK (a9+1) 9223372036854775807)<|.need (dK 1 (List.length [(Int.toNat (List.getD words_3 a8 0))]))<|.need (dK a9 (List.length l11))<|.leaf (.inl ((a9+1),((List.take a9 l11)++(List.take 1 [(Int.toNat (List.getD words_3 a8 0))]))))))
    (.leaf (.inr (.inl (a9,a10,l11))))
def xU(a8:Nat)(a12:Nat)(l13:List Nat) :T ((Nat×Nat×Nat×(List Nat))⊕((Nat×Nat×(List Nat))⊕(aI))) :=
  .need (cK .i64 (((a8+1):Nat):Int))<|.leaf (.inl ((a8+1),a12,a12,l13))
noncomputable def fu(words_3:List Int) :Nat×Nat×Nat×(List Nat)→Option ((Nat×Nat×Nat×(List Nat))⊕((Nat×Nat×(List Nat))⊕(aI))):=fun (a8,a9,a10,l11) =>
  aL ((jg words_3 a8 a9 a10 l11).run) fun (a12,l13) =>
  (xU a8 a12 l13).run
theorem xV(m_0:Int)(n_1:Int)(v_2:Lv)(words_3:List Int)(a8:Nat)(a9:Nat)(a10:Nat)(l11:List Nat) :Sg prog [] xS (fq m_0 n_1 v_2 words_3 (a8,a9,a10,l11)) (fu words_3 (a8,a9,a10,l11)) (fq m_0 n_1 v_2 words_3) (bS 4 (mf m_0 n_1) dz):=by
  unfold fu;exact Sg.cut 3 (aD bk) (aV cW (xT m_0 n_1 v_2 words_3 a8) [⟨[(.cell 0 2,.own 1 1 (.fl ([]:List Nat)))],[0,163],[8,9]⟩,⟨[],[0,1,195],[8,12,61,62,63]⟩,⟨[],[0,1,2],[8,12]⟩]) (fun ⟨a12,l13⟩=>aV cW (fq m_0 n_1 v_2 words_3) [⟨[],[0,1,2],[8,12,61,62,63]⟩])
def xW(m_0:Int)(n_1:Int)(a14:Nat)(a15:Nat)(l16:List Nat) :T ((Empty)⊕(aI)) :=
  .leaf (.inr (.r0 0 m_0 n_1 a14 a15 l16))
noncomputable def bB(m_0:Int)(n_1:Int)(words_3:List Int) :Option aI:=lG (aL ((jc m_0 n_1 words_3).run) fun b1 =>
  aL ((xE b1).run) fun _ =>
  aL (ch (fp m_0 n_1) 0) fun _ =>
  aL ((xR).run) fun _ =>
  aL (ch (fu words_3) (0,0,0,([]:List Nat))) fun (a14,a15,l16) =>
  (xW m_0 n_1 a14 a15 l16).run)
theorem yL(m_0:Int)(n_1:Int)(v_2:Lv)(words_3:List Int){x:aI}(h:bB m_0 n_1 words_3=some x) :aB prog E8 [] [.int .i64 m_0,.int .i64 n_1,.imm v_2 (.ns .u64 words_3) 1 1 0 (List.length words_3),.fn (.func gB) [] []] (jO x) :=
  mo false jO dz h (Sg.cut 2 bk (aV cW (yJ m_0 n_1 v_2 words_3) [⟨[],[0],[0,1,2,3,8,40]⟩,⟨[],[0],[0,1,2,3,8,40]⟩,⟨[],[0],[0,1,2,3,8,40]⟩,⟨[],[0],[0,1,2,3,8,40]⟩,⟨[],[0],[0,1,2,3,8,40]⟩,⟨[],[0],[0,1,2,3,8,40]⟩]) (fun b1=>Sg.cut 2 bk (aV cW (yK m_0 n_1 v_2 words_3) [⟨[(.cell 0 2,.own 1 1 (.fl ([]:List Nat)))],[0,49],[8,9]⟩,⟨[],[0],[0,1,2,3,8,42,43]⟩]) (fun _=>Sg.cut 1 bk (vg ⟨[],[0],[0,1,2,3,8,42,43]⟩ (fk m_0 n_1 v_2 words_3) (jd m_0 n_1 v_2 words_3) 0 bk (fO _) (fun a3=>xP m_0 n_1 v_2 words_3 a3)) (fun _=>Sg.cut 2 bk (aV cW (xQ m_0 n_1 v_2 words_3) [⟨[],[0,49],[8,12,61,62,63]⟩]) (fun _=>Sg.cut 1 bk (vg ⟨[(.cell 1 2,.own 1 1 (.fl ([]:List Nat)))],[0,1,2],[8,12,61,62,63]⟩ (fq m_0 n_1 v_2 words_3) (mf m_0 n_1) 4 bk (fO _) (fun ⟨a8,a9,a10,l11⟩=>xV m_0 n_1 v_2 words_3 a8 a9 a10 l11)) (fun ⟨a14,a15,l16⟩=>aV cW lx [⟨[],[0,2],[8,9]⟩]))))))
    (fun x=>by cases x with | r0 a17 i18 i19 a20 a21 l22=>exact ly [.agg [.int .i64 i18,.int .i64 i19,.sl 1 1 1 0 a20 a21],.int .i64 ((a17:Nat):Int)])
def fP:Option aI→Bool
  | some _=>true
  | none=>false
def iE:Option aI→Nat
  | some (.r0 x _ _ _ _ _)=>x
  | _=>0
def iF:Option aI→Int
  | some (.r0 _ x _ _ _ _)=>x
  | _=>0
def iG:Option aI→Int
  | some (.r0 _ _ x _ _ _)=>x
  | _=>0
def iH:Option aI→Nat
  | some (.r0 _ _ _ x _ _)=>x
  | _=>0
def iI:Option aI→Nat
  | some (.r0 _ _ _ _ x _)=>x
  | _=>0
def iJ:Option aI→List Nat
  | some (.r0 _ _ _ _ _ x)=>x
  | _=>[]
theorem yM{x:Option aI}(h:fP x=true) :x=some (.r0 (iE x) (iF x) (iG x) (iH x) (iI x) (iJ x)):=by
  unfold fP at h
  split at h<;>first | rfl | (cases h;done) | (rename_i y;cases y;rfl)
noncomputable def nT:aK:=cy E8 (.cons (.int .i64) (.cons (.int .i64) (.cons (.ns .u64) (.cons (.fn gB .nil .nil) .nil)))) fun t=>(fun q=>[⟨jO (.r0 (iE q) (iF q) (iG q) (iH q) (iI q) (iJ q)),[fP q]⟩]) (bB t.1 t.2.1 t.2.2.1.2)
theorem vJ:aY prog nT:=ba fun t=>(aZ (fun h=>yL t.1 t.2.1 t.2.2.1.1 t.2.2.1.2 (yM h)) bj)
noncomputable def nU:List aK:=nT::Gw
theorem iK:aW prog (aT nU):=aF vJ cW
inductive iS where
  | r0 (b2:Bool)
def KC:iS→AE×aM
  | .r0 b2=>(.ret,⟨aq 21 [(2,.bool false b2)],[],0⟩)
theorem Wp:ld KC:=by intro x;cases x<;>(intro h;cases h)
def Dd:iS→ib
  | .r0 b2=>⟨.bool false b2,[]⟩
def Wq(b1:Bool) :aM:=⟨aq 21 [(2,.bool false b1)],[],0⟩
def Is(a_0:Int)(a_1:Int) :T ((Bool)⊕(iS)) :=
  .ask (decide (a_0≥(0:Int)))
    (.ask (decide (a_0≤(512:Int)))
      (.ask (decide (a_1≥(0:Int)))
        (.leaf (.inl (decide (a_1≤(512:Int)))))
        (.leaf (.inl false)))
      (.leaf (.inl false)))
    (.leaf (.inl false))
def Wr(b1:Bool) :T ((Empty)⊕(iS)) :=
  .leaf (.inr (.r0 b1))
noncomputable def fE(a_0:Int)(a_1:Int) :Option iS:=lG (aL ((Is a_0 a_1).run) fun b1 =>
  (Wr b1).run)
theorem Ws(a_0:Int)(a_1:Int)(v_2:Lv)(a_3:List Nat){x:iS}(h:fE a_0 a_1=some x) :aB prog Kf [] [.agg [.int .i64 a_0,.int .i64 a_1,.imm v_2 (.fl a_3) 1 1 0 (List.length a_3)]] (Dd x) :=
  mo false Dd KC h (Sg.cut 2 Wp (aV iK Wq [⟨[],[],[2]⟩,⟨[],[],[2]⟩,⟨[],[],[2]⟩,⟨[],[],[2]⟩]) (fun b1=>aV iK lx [⟨[],[],[2]⟩]))
    (fun x=>by cases x with | r0 b2=>exact ly [.bool false b2])
def kq:Option iS→Bool
  | some _=>true
  | none=>false
def kg:Option iS→Bool
  | some (.r0 x)=>x
  | _=>false
theorem Wt{x:Option iS}(h:kq x=true) :x=some (.r0 (kg x)):=by
  unfold kq at h
  split at h<;>first | rfl | (cases h;done) | (rename_i y;cases y;rfl)
noncomputable def KD:aK:=cy Kf (.cons (.agg (.cons (.int .i64) (.cons (.int .i64) (.cons .fl .nil)))) .nil) fun t=>(fun q=>[⟨Dd (.r0 (kg q)),[kq q]⟩]) (fE t.1.1 t.1.2.1)
theorem PF:aY prog KD:=ba fun t=>(aZ (fun h=>Ws t.1.1 t.1.2.1 t.1.2.2.1.1 t.1.2.2.1.2 (Wt h)) bj)
noncomputable def KE:List aK:=KD::nU
theorem vK:aW prog (aT KE):=aF PF iK
inductive kR where
  | r0 (b2:Bool)
def RL:kR→AE×aM
  | .r0 b2=>(.ret,⟨aq 16 [(2,.bool false b2)],[],0⟩)
theorem adn:ld RL:=by intro x;cases x<;>(intro h;cases h)
def It:kR→ib
  | .r0 b2=>⟨.bool false b2,[]⟩
def ado(b1:Bool) :aM:=⟨aq 16 [(2,.bool false b1)],[],0⟩
def Nr(a_0:Int)(a_1:Int)(a_3:List Nat) :T ((Bool)⊕(kR)) :=
  .need (bL 0 (List.length a_3) a_3)<|.need (kq (fE a_0 a_1))<|.ask (kg (fE a_0 a_1))
    (.need (cK .i64 (a_0*a_1))<|.leaf (.inl ((((List.length a_3):Nat):Int)==(a_0*a_1))))
    (.leaf (.inl false))
def adp(b1:Bool) :T ((Empty)⊕(kR)) :=
  .leaf (.inr (.r0 b1))
noncomputable def oK(a_0:Int)(a_1:Int)(a_3:List Nat) :Option kR:=lG (aL ((Nr a_0 a_1 a_3).run) fun b1 =>
  (adp b1).run)
theorem adq(a_0:Int)(a_1:Int)(v_2:Lv)(a_3:List Nat){x:kR}(h:oK a_0 a_1 a_3=some x) :aB prog Ro [] [.agg [.int .i64 a_0,.int .i64 a_1,.imm v_2 (.fl a_3) 1 1 0 (List.length a_3)]] (It x) :=
  mo false It RL h (Sg.cut 2 adn (aV vK ado [⟨[],[],[2]⟩,⟨[],[],[2]⟩]) (fun b1=>aV vK lx [⟨[],[],[2]⟩]))
    (fun x=>by cases x with | r0 b2=>exact ly [.bool false b2])
def tK:Option kR→Bool
  | some _=>true
  | none=>false
def tL:Option kR→Bool
  | some (.r0 x)=>x
  | _=>false
theorem adr{x:Option kR}(h:tK x=true) :x=some (.r0 (tL x)):=by
  unfold tK at h
  split at h<;>first | rfl | (cases h;done) | (rename_i y;cases y;rfl)
noncomputable def RM:aK:=cy Ro (.cons (.agg (.cons (.int .i64) (.cons (.int .i64) (.cons .fl .nil)))) .nil) fun t=>(fun q=>[⟨It (.r0 (tL q)),[tK q]⟩]) (oK t.1.1 t.1.2.1 t.1.2.2.1.2)
theorem Wu:aY prog RM:=ba fun t=>(aZ (fun h=>adq t.1.1 t.1.2.1 t.1.2.2.1.1 t.1.2.2.1.2 (adr h)) bj)
noncomputable def RN:List aK:=RM::KE
theorem tM:aW prog (aT RN):=aF Wu vK
inductive eL where
  | r0 (b2:Bool)
def tN:eL→AE×aM
  | .r0 b2=>(.ret,⟨aq 16 [(2,.bool false b2)],[],0⟩)
theorem yN:ld tN:=by intro x;cases x<;>(intro h;cases h)
theorem Sc(id:Nat) :ko id tN:=by intro x;cases x<;>(intro h;cases h)
def AS:eL→ib
  | .r0 b2=>⟨.bool false b2,[]⟩
noncomputable def Sd:List Code:=cg (kB AH)
def Se(v_0:Lv)(l_1:List Nat)(_:Unit) :aM:=⟨aq 16 [(5,.imm v_0 (.fl l_1) 1 1 0 (List.length l_1)),(6,.int .i64 (((List.length l_1):Nat):Int)),(7,.int .i64 (0:Int))],[],0⟩
def Sh:T ((Unit)⊕(eL)) :=
  .leaf (.inl ())
def qH(v_0:Lv)(l_1:List Nat)(a1:Nat) :aM:=⟨aq 16 [(5,.imm v_0 (.fl l_1) 1 1 0 (List.length l_1)),(6,.int .i64 (((List.length l_1):Nat):Int)),(7,.int .i64 ((a1:Nat):Int))],[],0⟩
def Gx(_:Unit) :aM:=⟨aq 16 [],[],0⟩
noncomputable def Si:List Code:=cg (cw ((((Sd.drop 2).take 1)).headD .skip))
def yO(l_1:List Nat)(a1:Nat) :T ((Nat)⊕((Unit)⊕(eL))) :=
  .ask (decide (((a1:Nat):Int)<(((List.length l_1):Nat):Int)))
    (.need (fi ((a1:Nat):Int) (List.length l_1))<|.need (eS a1 (List.length l_1))<|.alt 0
      (.need (!isNaN (List.getD l_1 a1 0))<|.need (decide ((0:Int)≤(52:Int)))<|.ask (!((IntKind.i64.wrap (cL .and .u64 (Int.fdiv (((List.getD l_1 a1 0):Nat):Int) (2^(min (Int.toNat (52:Int)) (IntKind.u64.bits)))) (2047:Int))) != (2047:Int)))
        (.leaf (.inr (.inr (.r0 false))))
        (.need (cK .i64 (((a1+1):Nat):Int))<|.leaf (.inl (a1+1))))
      (.alt 1
        (.need (isNaN (List.getD l_1 a1 0))<|.leaf (.inr (.inr (.r0 false))))
        (.fail)))
    (.leaf (.inr (.inl ())))
noncomputable def vL(l_1:List Nat) :Nat→Option ((Nat)⊕((Unit)⊕(eL))):=fun a1 =>
  (yO l_1 a1).run
theorem PG(v_0:Lv)(l_1:List Nat)(a1:Nat) :Sg prog [] Si (qH v_0 l_1 a1) (vL l_1 a1) (qH v_0 l_1) (bS 0 Gx tN):=by
  unfold vL;exact aV tM (qH v_0 l_1) [⟨[],[],[2]⟩,⟨[],[],[5,6,7]⟩,⟨[],[],[2]⟩,⟨[],[],[]⟩]
def PH:T ((Empty)⊕(eL)) :=
  .leaf (.inr (.r0 true))
noncomputable def kr(l_1:List Nat) :Option eL:=lG (aL ((Sh).run) fun _ =>
  aL (ch (vL l_1) 0) fun _ =>
  (PH).run)
theorem Sj(v_0:Lv)(l_1:List Nat){x:eL}(h:kr l_1=some x) :aB prog AH [] [.imm v_0 (.fl l_1) 1 1 0 (List.length l_1)] (AS x) :=
  mo false AS tN h (Sg.cut 2 yN (aV tM (Se v_0 l_1) [⟨[],[],[5,6,7]⟩]) (fun _=>Sg.cut 1 yN (vg ⟨[],[],[5,6,7]⟩ (qH v_0 l_1) (Gx) 0 yN (Sc _) (fun a1=>PG v_0 l_1 a1)) (fun _=>aV tM lx [⟨[],[],[2]⟩])))
    (fun x=>by cases x with | r0 b2=>exact ly [.bool false b2])
def na:Option eL→Bool
  | some _=>true
  | none=>false
def nV:Option eL→Bool
  | some (.r0 x)=>x
  | _=>false
theorem Sk{x:Option eL}(h:na x=true) :x=some (.r0 (nV x)):=by
  unfold na at h
  split at h<;>first | rfl | (cases h;done) | (rename_i y;cases y;rfl)
noncomputable def Iu:aK:=cy AH (.cons .fl .nil) fun t=>(fun q=>[⟨AS (.r0 (nV q)),[na q]⟩]) (kr t.1.2)
theorem Ns:aY prog Iu:=ba fun t=>(aZ (fun h=>Sj t.1.1 t.1.2 (Sk h)) bj)
noncomputable def Iv:List aK:=Iu::RN
theorem tO:aW prog (aT Iv):=aF Ns tM
inductive gQ where
  | r0 (frac3:Nat) (exp4:Int)
def Nt:gQ→AE×aM
  | .r0 frac3 exp4=>(.ret,⟨aq 38 [(2,.flt false frac3),(3,.int .i64 exp4)],[],0⟩)
theorem Zo:ld Nt:=by intro x;cases x<;>(intro h;cases h)
def FY:gQ→ib
  | .r0 frac3 exp4=>⟨.tup [.flt false frac3,.int .i64 exp4],[]⟩
def Zp:Nat×Int→aM:=fun (f1,exp2)=>⟨aq 38 [(0,.flt false f1),(3,.int .i64 exp2)],[],0⟩
def KF(f_0:Nat) :T ((Nat×Int)⊕(gQ)) :=
  .ask (yp f_0 0)
    (.leaf (.inr (.r0 f_0 (0:Int))))
    (.ask ((0:Int)==(0:Int))
      (.ask (Yh (co f_0) 9218868437227405311)
        (.leaf (.inr (.r0 f_0 (0:Int))))
        (.ask (fne f_0 f_0)
          (.leaf (.inr (.r0 f_0 (0:Int))))
          (.ask (flt (co f_0) 4503599627370496)
            (.leaf (.inl ((eY f_0 4841369599423283200),(-52:Int))))
            (.leaf (.inl (f_0,(0:Int)))))))
      (.fail))
def De(f1:Nat)(exp2:Int) :T ((Empty)⊕(gQ)) :=
  .alt 0
    (.need (!isNaN f1)<|.need (decide ((0:Int)≤(52:Int)))<|.need (cK .i64 ((IntKind.i64.wrap (cL .and .u64 (Int.fdiv ((f1:Nat):Int) (2^(min (Int.toNat (52:Int)) (IntKind.u64.bits)))) (2047:Int)))-(1023:Int)))<|.need (cK .i64 (((IntKind.i64.wrap (cL .and .u64 (Int.fdiv ((f1:Nat):Int) (2^(min (Int.toNat (52:Int)) (IntKind.u64.bits)))) (2047:Int)))-(1023:Int))+(1:Int)))<|.need (cK .i64 (exp2+(((IntKind.i64.wrap (cL .and .u64 (Int.fdiv ((f1:Nat):Int) (2^(min (Int.toNat (52:Int)) (IntKind.u64.bits)))) (2047:Int)))-(1023:Int))+(1:Int))))<|.leaf (.inr (.r0 (Int.toNat (cL .or .u64 (cL .andNot .u64 ((f1:Nat):Int) (9218868437227405312:Int)) (4602678819172646912:Int))) (exp2+(((IntKind.i64.wrap (cL .and .u64 (Int.fdiv ((f1:Nat):Int) (2^(min (Int.toNat (52:Int)) (IntKind.u64.bits)))) (2047:Int)))-(1023:Int))+(1:Int))))))
    (.fail)
noncomputable def my(f_0:Nat) :Option gQ:=lG (aL ((KF f_0).run) fun (f1,exp2) =>
  (De f1 exp2).run)
theorem Zq(f_0:Nat){x:gQ}(h:my f_0=some x) :aB prog MZ [] [.flt false f_0] (FY x) :=
  mo false FY Nt h (Sg.cut 3 Zo (aV tO Zp [⟨[],[],[2,3]⟩,⟨[],[],[2,3]⟩,⟨[],[],[2,3]⟩,⟨[],[],[0,3]⟩,⟨[],[],[0,3]⟩]) (fun ⟨f1,exp2⟩=>aV tO lx [⟨[],[],[2,3]⟩]))
    (fun x=>by cases x with | r0 frac3 exp4=>exact ly [.flt false frac3,.int .i64 exp4])
def xc:Option gQ→Bool
  | some _=>true
  | none=>false
def Gy:Option gQ→Nat
  | some (.r0 x _)=>x
  | _=>0
def nc:Option gQ→Int
  | some (.r0 _ x)=>x
  | _=>0
theorem Zr{x:Option gQ}(h:xc x=true) :x=some (.r0 (Gy x) (nc x)):=by
  unfold xc at h
  split at h<;>first | rfl | (cases h;done) | (rename_i y;cases y;rfl)
noncomputable def Nu:aK:=cy MZ (.cons (.flt false) .nil) fun t=>(fun q=>[⟨FY (.r0 (Gy q) (nc q)),[xc q]⟩]) (my t.1)
theorem Sl:aY prog Nu:=ba fun t=>(aZ (fun h=>Zq t.1 (Zr h)) bj)
noncomputable def Nv:List aK:=Nu::Iv
theorem kH:aW prog (aT Nv):=aF Sl tO
inductive dN where
  | r0 (i17:Int) (a18:Nat)
def xd:dN→AE×aM
  | .r0 i17 a18=>(.ret,⟨aq 40 [(2,.int .i64 i17),(3,.int .i64 ((a18:Nat):Int))],[],0⟩)
theorem oL:ld xd:=by intro x;cases x<;>(intro h;cases h)
theorem Wv(id:Nat) :ko id xd:=by intro x;cases x<;>(intro h;cases h)
def Df:dN→ib
  | .r0 i17 a18=>⟨.tup [.int .i64 i17,.int .i64 ((a18:Nat):Int)],[]⟩
noncomputable def Sn:List Code:=cg (kB CT)
def Ww(a_0:Int)(a_1:Int)(v_2:Lv)(a_3:List Nat)(e1:Nat) :aM:=⟨aq 40 [(1,.ptr 0 1 0 0),(4,.int .i64 ((e1:Nat):Int))],[(0,.vs [.int .i64 a_0,.int .i64 a_1,.imm v_2 (.fl a_3) 1 1 0 (List.length a_3)])],1⟩
def Gz(a_0:Int)(a_1:Int)(a_3:List Nat) :T ((Nat)⊕(dN)) :=
  .need (bL 0 (List.length a_3) a_3)<|.need (kq (fE a_0 a_1))<|.ask (!(kg (fE a_0 a_1)))
    (.leaf (.inl 2))
    (.need (bL 0 (List.length a_3) a_3)<|.need (tK (oK a_0 a_1 (an 0 (List.length a_3) a_3)))<|.ask (!(tL (oK a_0 a_1 (an 0 (List.length a_3) a_3))))
      (.leaf (.inl 8))
      (.need (bL 0 (List.length a_3) a_3)<|.need (na (kr (an 0 (List.length a_3) a_3)))<|.ask (!(nV (kr (an 0 (List.length a_3) a_3))))
        (.leaf (.inl 10))
        (.leaf (.inl 0))))
def Wx(v_2:Lv)(a_3:List Nat)(any2:Bool) :aM:=⟨aq 40 [(5,.int .i64 (0:Int)),(6,.bool false any2),(17,.imm v_2 (.fl a_3) 1 1 0 (List.length a_3)),(18,.int .i64 (((List.length a_3):Nat):Int)),(19,.int .i64 (0:Int))],[],0⟩
def So(e1:Nat) :T ((Bool)⊕(dN)) :=
  .ask (((e1:Nat):Int) != (0:Int))
    (.leaf (.inr (.r0 (0:Int) e1)))
    (.leaf (.inl false))
def tP(v_2:Lv)(a_3:List Nat) :Int×Bool×Nat→aM:=fun (best10,any11,a12)=>⟨aq 40 [(5,.int .i64 best10),(6,.bool false any11),(17,.imm v_2 (.fl a_3) 1 1 0 (List.length a_3)),(18,.int .i64 (((List.length a_3):Nat):Int)),(19,.int .i64 ((a12:Nat):Int))],[],0⟩
def Iw(best15:Int) :aM:=⟨aq 40 [(5,.int .i64 best15)],[],0⟩
noncomputable def Sp:List Code:=cg (cw (((((Sn.drop 2).drop 4).take 1)).headD .skip))
def Wy(v_2:Lv)(a_3:List Nat)(a12:Nat) :Int×Bool→aM:=fun (best13,any14)=>⟨aq 40 [(5,.int .i64 best13),(6,.bool false any14),(17,.imm v_2 (.fl a_3) 1 1 0 (List.length a_3)),(18,.int .i64 (((List.length a_3):Nat):Int)),(19,.int .i64 ((a12:Nat):Int))],[],0⟩
def GA(a_3:List Nat)(best10:Int)(any11:Bool)(a12:Nat) :T ((Int×Bool)⊕((Int)⊕(dN))) :=
  .ask (decide (((a12:Nat):Int)<(((List.length a_3):Nat):Int)))
    (.need (fi ((a12:Nat):Int) (List.length a_3))<|.need (eS a12 (List.length a_3))<|.ask (yp (List.getD a_3 a12 0) 0)
      (.leaf (.inl (best10,any11)))
      (.need (xc (my (List.getD a_3 a12 0)))<|.ask (!any11)
        (.leaf (.inl ((nc (my (List.getD a_3 a12 0))),true)))
        (.ask (decide ((nc (my (List.getD a_3 a12 0)))>best10))
          (.leaf (.inl ((nc (my (List.getD a_3 a12 0))),true)))
          (.leaf (.inl (best10,any11))))))
    (.leaf (.inr (.inl best10)))
def Sq(a12:Nat)(best13:Int)(any14:Bool) :T ((Int×Bool×Nat)⊕((Int)⊕(dN))) :=
  .need (cK .i64 (((a12+1):Nat):Int))<|.leaf (.inl (best13,any14,(a12+1)))
noncomputable def qI(a_3:List Nat) :Int×Bool×Nat→Option ((Int×Bool×Nat)⊕((Int)⊕(dN))):=fun (best10,any11,a12) =>
  aL ((GA a_3 best10 any11 a12).run) fun (best13,any14) =>
  (Sq a12 best13 any14).run
theorem Sr(v_2:Lv)(a_3:List Nat)(best10:Int)(any11:Bool)(a12:Nat) :Sg prog [] Sp (tP v_2 a_3 (best10,any11,a12)) (qI a_3 (best10,any11,a12)) (tP v_2 a_3) (bS 0 Iw xd):=by
  unfold qI;exact Sg.cut 3 (aD oL) (aV kH (Wy v_2 a_3 a12) [⟨[],[],[5,6,17,18,19]⟩,⟨[],[],[5,6,17,18,19]⟩,⟨[],[],[5,6,17,18,19]⟩,⟨[],[],[5,6,17,18,19]⟩,⟨[],[],[5]⟩]) (fun ⟨best13,any14⟩=>aV kH (tP v_2 a_3) [⟨[],[],[5,6,17,18,19]⟩])
def Ss(best15:Int) :T ((Empty)⊕(dN)) :=
  .leaf (.inr (.r0 best15 0))
noncomputable def eU(a_0:Int)(a_1:Int)(a_3:List Nat) :Option dN:=lG (aL ((Gz a_0 a_1 a_3).run) fun e1 =>
  aL ((So e1).run) fun any2 =>
  aL (ch (qI a_3) ((0:Int),any2,0)) fun best15 =>
  (Ss best15).run)
theorem Wz(a_0:Int)(a_1:Int)(v_2:Lv)(a_3:List Nat){x:dN}(h:eU a_0 a_1 a_3=some x) :aB prog CT [] [.agg [.int .i64 a_0,.int .i64 a_1,.imm v_2 (.fl a_3) 1 1 0 (List.length a_3)]] (Df x) :=
  mo false Df xd h (Sg.cut 2 oL (aV kH (Ww a_0 a_1 v_2 a_3) [⟨[],[0],[1,4]⟩,⟨[],[0],[1,4]⟩,⟨[],[0],[1,4]⟩,⟨[],[0],[1,4]⟩]) (fun e1=>Sg.cut 4 oL (aV kH (Wx v_2 a_3) [⟨[],[],[2,3]⟩,⟨[],[],[5,6,17,18,19]⟩]) (fun any2=>Sg.cut 1 oL (vg ⟨[],[],[5,6,17,18,19]⟩ (tP v_2 a_3) (Iw) 0 oL (Wv _) (fun ⟨best10,any11,a12⟩=>Sr v_2 a_3 best10 any11 a12)) (fun best15=>aV kH lx [⟨[],[],[2,3]⟩]))))
    (fun x=>by cases x with | r0 i17 a18=>exact ly [.int .i64 i17,.int .i64 ((a18:Nat):Int)])
def tQ:Option dN→Bool
  | some _=>true
  | none=>false
def dJ:Option dN→Int
  | some (.r0 x _)=>x
  | _=>0
def DV:Option dN→Nat
  | some (.r0 _ x)=>x
  | _=>0
theorem WA{x:Option dN}(h:tQ x=true) :x=some (.r0 (dJ x) (DV x)):=by
  unfold tQ at h
  split at h<;>first | rfl | (cases h;done) | (rename_i y;cases y;rfl)
noncomputable def KG:aK:=cy CT (.cons (.agg (.cons (.int .i64) (.cons (.int .i64) (.cons .fl .nil)))) .nil) fun t=>(fun q=>[⟨Df (.r0 (dJ q) (DV q)),[tQ q]⟩]) (eU t.1.1 t.1.2.1 t.1.2.2.1.2)
theorem PI:aY prog KG:=ba fun t=>(aZ (fun h=>Wz t.1.1 t.1.2.1 t.1.2.2.1.1 t.1.2.2.1.2 (WA h)) bj)
noncomputable def KH:List aK:=KG::Nv
theorem py:aW prog (aT KH):=aF PI kH
inductive gR where
  | r0 (a5:Nat)
def Nw:gR→AE×aM
  | .r0 a5=>(.ret,⟨aq 63 [(4,.flt false a5)],[],0⟩)
theorem KI:ld Nw:=by intro x;cases x<;>(intro h;cases h)
def FZ:gR→ib
  | .r0 a5=>⟨.flt false a5,[]⟩
def Zs(exp_1:Int) :Nat×Int→aM:=fun (frac1,e2)=>⟨aq 63 [(0,.flt false frac1),(1,.int .i64 exp_1),(5,.int .i64 e2)],[],0⟩
def KJ(frac_0:Nat) :T ((Nat×Int)⊕(gR)) :=
  .ask (yp frac_0 0)
    (.leaf (.inr (.r0 frac_0)))
    (.ask ((0:Int)==(0:Int))
      (.ask (Yh (co frac_0) 9218868437227405311)
        (.leaf (.inr (.r0 frac_0)))
        (.ask (fne frac_0 frac_0)
          (.leaf (.inr (.r0 frac_0)))
          (.ask (flt (co frac_0) 4503599627370496)
            (.leaf (.inl ((eY frac_0 4841369599423283200),(-52:Int))))
            (.leaf (.inl (frac_0,(0:Int)))))))
      (.fail))
def Zt(frac1:Nat) :Int×Nat→aM:=fun (exp3,m4)=>⟨aq 63 [(1,.int .i64 exp3),(6,.int .u64 ((frac1:Nat):Int)),(7,.flt false m4)],[],0⟩
def Dg(exp_1:Int)(frac1:Nat)(e2:Int) :T ((Int×Nat)⊕(gR)) :=
  .need (cK .i64 (exp_1+e2))<|.alt 0
    (.need (!isNaN frac1)<|.need (decide ((0:Int)≤(52:Int)))<|.need (cK .i64 ((cL .and .i64 (IntKind.i64.wrap (Int.fdiv ((frac1:Nat):Int) (2^(min (Int.toNat (52:Int)) (IntKind.u64.bits))))) (2047:Int))-(1023:Int)))<|.need (cK .i64 ((exp_1+e2)+((cL .and .i64 (IntKind.i64.wrap (Int.fdiv ((frac1:Nat):Int) (2^(min (Int.toNat (52:Int)) (IntKind.u64.bits))))) (2047:Int))-(1023:Int))))<|.ask (decide (((exp_1+e2)+((cL .and .i64 (IntKind.i64.wrap (Int.fdiv ((frac1:Nat):Int) (2^(min (Int.toNat (52:Int)) (IntKind.u64.bits))))) (2047:Int))-(1023:Int)))<(-1075:Int)))
      (.need (!isNaN frac1||isNaN 0)<|.leaf (.inr (.r0 (kj 0 frac1))))
      (.ask (decide (((exp_1+e2)+((cL .and .i64 (IntKind.i64.wrap (Int.fdiv ((frac1:Nat):Int) (2^(min (Int.toNat (52:Int)) (IntKind.u64.bits))))) (2047:Int))-(1023:Int)))>(1023:Int)))
        (.ask (flt frac1 0)
          (.ask (decide ((-1:Int)≥(0:Int)))
            (.fail)
            (.leaf (.inr (.r0 18442240474082181120))))
          (.ask (decide ((1:Int)≥(0:Int)))
            (.leaf (.inr (.r0 9218868437227405312)))
            (.fail)))
        (.ask (decide (((exp_1+e2)+((cL .and .i64 (IntKind.i64.wrap (Int.fdiv ((frac1:Nat):Int) (2^(min (Int.toNat (52:Int)) (IntKind.u64.bits))))) (2047:Int))-(1023:Int)))<(-1022:Int)))
          (.need (cK .i64 (((exp_1+e2)+((cL .and .i64 (IntKind.i64.wrap (Int.fdiv ((frac1:Nat):Int) (2^(min (Int.toNat (52:Int)) (IntKind.u64.bits))))) (2047:Int))-(1023:Int)))+(53:Int)))<|.leaf (.inl ((((exp_1+e2)+((cL .and .i64 (IntKind.i64.wrap (Int.fdiv ((frac1:Nat):Int) (2^(min (Int.toNat (52:Int)) (IntKind.u64.bits))))) (2047:Int))-(1023:Int)))+(53:Int)),4368491638549381120)))
          (.leaf (.inl (((exp_1+e2)+((cL .and .i64 (IntKind.i64.wrap (Int.fdiv ((frac1:Nat):Int) (2^(min (Int.toNat (52:Int)) (IntKind.u64.bits))))) (2047:Int))-(1023:Int))),4607182418800017408))))))
    (.fail)
def Dh(frac1:Nat)(exp3:Int)(m4:Nat) :T ((Empty)⊕(gR)) :=
  .need (cK .i64 (exp3+(1023:Int)))<|.need (decide ((0:Int)≤(52:Int)))<|.leaf (.inr (.r0 (eY m4 (Int.toNat (cL .or .u64 (cL .andNot .u64 ((frac1:Nat):Int) (9218868437227405312:Int)) (IntKind.u64.wrap ((IntKind.u64.wrap (exp3+(1023:Int)))*2^(min (Int.toNat (52:Int)) (IntKind.u64.bits)))))))))
noncomputable def mz(frac_0:Nat)(exp_1:Int) :Option gR:=lG (aL ((KJ frac_0).run) fun (frac1,e2) =>
  aL ((Dg exp_1 frac1 e2).run) fun (exp3,m4) =>
  (Dh frac1 exp3 m4).run)
theorem Zu(frac_0:Nat)(exp_1:Int){x:gR}(h:mz frac_0 exp_1=some x) :aB prog MS [] [.flt false frac_0,.int .i64 exp_1] (FZ x) :=
  mo false FZ Nw h (Sg.cut 3 KI (aV py (Zs exp_1) [⟨[],[],[4]⟩,⟨[],[],[4]⟩,⟨[],[],[4]⟩,⟨[],[],[0,1,5]⟩,⟨[],[],[0,1,5]⟩]) (fun ⟨frac1,e2⟩=>Sg.cut 10 KI (aV py (Zt frac1) [⟨[],[],[4]⟩,⟨[],[],[4]⟩,⟨[],[],[4]⟩,⟨[],[],[1,6,7]⟩,⟨[],[],[1,6,7]⟩]) (fun ⟨exp3,m4⟩=>aV py lx [⟨[],[],[4]⟩])))
    (fun x=>by cases x with | r0 a5=>exact ly [.flt false a5])
def xe:Option gR→Bool
  | some _=>true
  | none=>false
def ng:Option gR→Nat
  | some (.r0 x)=>x
  | _=>0
theorem Zv{x:Option gR}(h:xe x=true) :x=some (.r0 (ng x)):=by
  unfold xe at h
  split at h<;>first | rfl | (cases h;done) | (rename_i y;cases y;rfl)
noncomputable def Nx:aK:=cy MS (.cons (.flt false) (.cons (.int .i64) .nil)) fun t=>(fun q=>[⟨FZ (.r0 (ng q)),[xe q]⟩]) (mz t.1 t.2.1)
theorem St:aY prog Nx:=ba fun t=>(aZ (fun h=>Zu t.1 t.2.1 (Zv h)) bj)
noncomputable def Ny:List aK:=Nx::KH
theorem jD:aW prog (aT Ny):=aF St py
inductive cO where
  | r0 (a15:Nat) (i17:Int) (i18:Int) (a19:Nat) (a20:Nat) (l21:List Nat)
def xf:cO→AE×aM
  | .r0 a15 i17 i18 a19 a20 l21=>(.ret,⟨aq 50 [(4,.ptr 0 1 0 0),(5,.int .i64 ((a15:Nat):Int))],[(0,.vs [.int .i64 i17,.int .i64 i18,.sl 1 1 1 0 a19 a20]),(1,.fl l21)],2⟩)
theorem lK:ld xf:=by intro x;cases x<;>(intro h;cases h)
theorem WB(id:Nat) :ko id xf:=by intro x;cases x<;>(intro h;cases h)
def Di:cO→ib
  | .r0 a15 i17 i18 a19 a20 l21=>⟨.tup [.agg [.int .i64 i17,.int .i64 i18,.sl 0 1 1 0 a19 a20],.int .i64 ((a15:Nat):Int)],[some (.fl l21)]⟩
noncomputable def Su:List Code:=cg (kB CU)
def WC(a_0:Int)(a_1:Int)(v_2:Lv)(a_3:List Nat)(p_4:Int)(b1:Bool) :aM:=⟨aq 50 [(1,.int .i64 p_4),(2,.ptr 0 1 0 0),(4,.ptr 1 1 0 0),(20,.bool false b1)],[(0,.vs [.int .i64 a_0,.int .i64 a_1,.imm v_2 (.fl a_3) 1 1 0 (List.length a_3)]),(1,.vs [.int .i64 (0:Int),.int .i64 (0:Int),.nsl])],2⟩
def GB(a_0:Int)(a_1:Int)(a_3:List Nat)(p_4:Int) :T ((Bool)⊕(cO)) :=
  .need (bL 0 (List.length a_3) a_3)<|.need (kq (fE a_0 a_1))<|.ask (!(kg (fE a_0 a_1)))
    (.leaf (.inl true))
    (.ask (decide (p_4<(-2000:Int)))
      (.leaf (.inl true))
      (.leaf (.inl (decide (p_4>(2000:Int))))))
def WD(a_0:Int)(a_1:Int)(v_2:Lv)(a_3:List Nat)(p_4:Int)(e2:Nat) :aM:=⟨aq 50 [(1,.int .i64 p_4),(2,.ptr 0 1 0 0),(4,.ptr 1 1 0 0),(6,.int .i64 ((e2:Nat):Int))],[(0,.vs [.int .i64 a_0,.int .i64 a_1,.imm v_2 (.fl a_3) 1 1 0 (List.length a_3)]),(1,.vs [.int .i64 (0:Int),.int .i64 (0:Int),.nsl])],2⟩
def GC(a_0:Int)(a_1:Int)(a_3:List Nat)(b1:Bool) :T ((Nat)⊕(cO)) :=
  .ask b1
    (.leaf (.inr (.r0 2 (0:Int) (0:Int) 0 0 ([]:List Nat))))
    (.need (bL 0 (List.length a_3) a_3)<|.need (kq (fE a_0 a_1))<|.ask (!(kg (fE a_0 a_1)))
      (.leaf (.inl 2))
      (.need (bL 0 (List.length a_3) a_3)<|.need (tK (oK a_0 a_1 (an 0 (List.length a_3) a_3)))<|.ask (!(tL (oK a_0 a_1 (an 0 (List.length a_3) a_3))))
        (.leaf (.inl 8))
        (.need (bL 0 (List.length a_3) a_3)<|.need (na (kr (an 0 (List.length a_3) a_3)))<|.ask (!(nV (kr (an 0 (List.length a_3) a_3))))
          (.leaf (.inl 10))
          (.leaf (.inl 0)))))
def WE(a_0:Int)(a_1:Int)(v_2:Lv)(a_3:List Nat)(p_4:Int)(_:Unit) :aM:=⟨aq 50 [(1,.int .i64 p_4),(4,.ptr 0 1 0 0),(7,.ptr 1 1 0 0),(34,.imm v_2 (.fl a_3) 1 1 0 (List.length a_3)),(35,.int .i64 (((List.length a_3):Nat):Int)),(36,.int .i64 (0:Int))],[(0,.vs [.int .i64 (0:Int),.int .i64 (0:Int),.nsl]),(1,.vs [.int .i64 a_0,.int .i64 a_1,.nsl])],2⟩
def Sv(e2:Nat) :T ((Unit)⊕(cO)) :=
  .ask (((e2:Nat):Int) != (0:Int))
    (.leaf (.inr (.r0 e2 (0:Int) (0:Int) 0 0 ([]:List Nat))))
    (.leaf (.inl ()))
def tR(a_0:Int)(a_1:Int)(v_2:Lv)(a_3:List Nat)(p_4:Int) :Nat×Nat×Nat×(List Nat)→aM:=fun (a6,a7,a8,l9)=>⟨aq 50 [(1,.int .i64 p_4),(4,.ptr 0 1 0 0),(7,.ptr 1 1 0 0),(34,.imm v_2 (.fl a_3) 1 1 0 (List.length a_3)),(35,.int .i64 (((List.length a_3):Nat):Int)),(36,.int .i64 ((a6:Nat):Int))],[(0,.vs [.int .i64 (0:Int),.int .i64 (0:Int),.nsl]),(1,.vs [.int .i64 a_0,.int .i64 a_1,.sl 2 1 1 0 a7 a8]),(2,.fl l9)],3⟩
def GD(a_0:Int)(a_1:Int) :Nat×Nat×(List Nat)→aM:=fun (a12,a13,l14)=>⟨aq 50 [(4,.ptr 0 1 0 0),(7,.ptr 1 1 0 0)],[(0,.vs [.int .i64 (0:Int),.int .i64 (0:Int),.nsl]),(1,.vs [.int .i64 a_0,.int .i64 a_1,.sl 2 1 1 0 a12 a13]),(2,.fl l14)],3⟩
noncomputable def Sw:List Code:=cg (cw ((((((Su.drop 2).drop 2).drop 4).take 1)).headD .skip))
def WF(a_0:Int)(a_1:Int)(v_2:Lv)(a_3:List Nat)(p_4:Int)(a6:Nat) :Nat×(List Nat)→aM:=fun (a10,l11)=>⟨aq 50 [(1,.int .i64 p_4),(4,.ptr 0 1 0 0),(7,.ptr 1 1 0 0),(34,.imm v_2 (.fl a_3) 1 1 0 (List.length a_3)),(35,.int .i64 (((List.length a_3):Nat):Int)),(36,.int .i64 ((a6:Nat):Int))],[(0,.vs [.int .i64 (0:Int),.int .i64 (0:Int),.nsl]),(1,.vs [.int .i64 a_0,.int .i64 a_1,.sl 2 1 1 0 a10 a10]),(2,.fl l11)],3⟩
def yP(a_3:List Nat)(p_4:Int)(a6:Nat)(a7:Nat)(a8:Nat)(l9:List Nat) :T ((Nat×(List Nat))⊕((Nat×Nat×(List Nat))⊕(cO))) :=
  .ask (decide (((a6:Nat):Int)<(((List.length a_3):Nat):Int)))
    (.need (fi ((a6:Nat):Int) (List.length a_3))<|.need (eS a6 (List.length a_3))<|.need (xe (mz (List.getD a_3 a6 0) (abo (-5000:Int) (Yp p_4 (5000:Int)))))<|.need (dK ((a7+1)*8) 140737488355328)<|.need (dK (a7+1) 9223372036854775807)<|.need (dK 1 (List.length [(ng (mz (List.getD a_3 a6 0) (abo (-5000:Int) (Yp p_4 (5000:Int)))))]))<|.need (dK a7 (List.length l9))<|.leaf (.inl ((a7+1),((List.take a7 l9)++(List.take 1 [(ng (mz (List.getD a_3 a6 0) (abo (-5000:Int) (Yp p_4 (5000:Int)))))])))))
    (.leaf (.inr (.inl (a7,a8,l9))))
def Sx(a6:Nat)(a10:Nat)(l11:List Nat) :T ((Nat×Nat×Nat×(List Nat))⊕((Nat×Nat×(List Nat))⊕(cO))) :=
  .need (cK .i64 (((a6+1):Nat):Int))<|.leaf (.inl ((a6+1),a10,a10,l11))
noncomputable def yQ(a_3:List Nat)(p_4:Int) :Nat×Nat×Nat×(List Nat)→Option ((Nat×Nat×Nat×(List Nat))⊕((Nat×Nat×(List Nat))⊕(cO))):=fun (a6,a7,a8,l9) =>
  aL ((yP a_3 p_4 a6 a7 a8 l9).run) fun (a10,l11) =>
  (Sx a6 a10 l11).run
theorem Sy(a_0:Int)(a_1:Int)(v_2:Lv)(a_3:List Nat)(p_4:Int)(a6:Nat)(a7:Nat)(a8:Nat)(l9:List Nat) :Sg prog [] Sw (tR a_0 a_1 v_2 a_3 p_4 (a6,a7,a8,l9)) (yQ a_3 p_4 (a6,a7,a8,l9)) (tR a_0 a_1 v_2 a_3 p_4) (bS 0 (GD a_0 a_1) xf):=by
  unfold yQ;exact Sg.cut 3 (aD lK) (aV jD (WF a_0 a_1 v_2 a_3 p_4 a6) [⟨[],[0,1,163],[1,4,7,34,35,36]⟩,⟨[],[0,1,2],[4,7]⟩]) (fun ⟨a10,l11⟩=>aV jD (tR a_0 a_1 v_2 a_3 p_4) [⟨[],[0,1,2],[1,4,7,34,35,36]⟩])
def Sz(a_0:Int)(a_1:Int)(a12:Nat)(a13:Nat)(l14:List Nat) :T ((Empty)⊕(cO)) :=
  .leaf (.inr (.r0 0 a_0 a_1 a12 a13 l14))
noncomputable def iT(a_0:Int)(a_1:Int)(a_3:List Nat)(p_4:Int) :Option cO:=lG (aL ((GB a_0 a_1 a_3 p_4).run) fun b1 =>
  aL ((GC a_0 a_1 a_3 b1).run) fun e2 =>
  aL ((Sv e2).run) fun _ =>
  aL (ch (yQ a_3 p_4) (0,0,0,([]:List Nat))) fun (a12,a13,l14) =>
  (Sz a_0 a_1 a12 a13 l14).run)
theorem WG(a_0:Int)(a_1:Int)(v_2:Lv)(a_3:List Nat)(p_4:Int){x:cO}(h:iT a_0 a_1 a_3 p_4=some x) :aB prog CU [] [.agg [.int .i64 a_0,.int .i64 a_1,.imm v_2 (.fl a_3) 1 1 0 (List.length a_3)],.int .i64 p_4] (Di x) :=
  mo false Di xf h (Sg.cut 2 lK (aV jD (WC a_0 a_1 v_2 a_3 p_4) [⟨[],[0,16],[1,2,4,20]⟩,⟨[],[0,16],[1,2,4,20]⟩,⟨[],[0,16],[1,2,4,20]⟩]) (fun b1=>Sg.cut 2 lK (aV jD (WD a_0 a_1 v_2 a_3 p_4) [⟨[(.cell 1 2,.own 1 1 (.fl ([]:List Nat)))],[1,50],[4,5]⟩,⟨[],[0,1],[1,2,4,6]⟩,⟨[],[0,1],[1,2,4,6]⟩,⟨[],[0,1],[1,2,4,6]⟩,⟨[],[0,1],[1,2,4,6]⟩]) (fun e2=>Sg.cut 4 lK (aV jD (WE a_0 a_1 v_2 a_3 p_4) [⟨[(.cell 1 2,.own 1 1 (.fl ([]:List Nat)))],[1,98],[4,5]⟩,⟨[],[1,114],[1,4,7,34,35,36]⟩]) (fun _=>Sg.cut 1 lK (vg ⟨[(.cell 1 2,.own 1 1 (.fl ([]:List Nat)))],[0,1,2],[1,4,7,34,35,36]⟩ (tR a_0 a_1 v_2 a_3 p_4) (GD a_0 a_1) 0 lK (WB _) (fun ⟨a6,a7,a8,l9⟩=>Sy a_0 a_1 v_2 a_3 p_4 a6 a7 a8 l9)) (fun ⟨a12,a13,l14⟩=>aV jD lx [⟨[],[0,2],[4,5]⟩])))))
    (fun x=>by cases x with | r0 a15 i17 i18 a19 a20 l21=>exact ly [.agg [.int .i64 i17,.int .i64 i18,.sl 1 1 1 0 a19 a20],.int .i64 ((a15:Nat):Int)])
def tS:Option cO→Bool
  | some _=>true
  | none=>false
def DW:Option cO→Nat
  | some (.r0 x _ _ _ _ _)=>x
  | _=>0
def vM:Option cO→Int
  | some (.r0 _ x _ _ _ _)=>x
  | _=>0
def vN:Option cO→Int
  | some (.r0 _ _ x _ _ _)=>x
  | _=>0
def vO:Option cO→Nat
  | some (.r0 _ _ _ x _ _)=>x
  | _=>0
def vP:Option cO→Nat
  | some (.r0 _ _ _ _ x _)=>x
  | _=>0
def vQ:Option cO→List Nat
  | some (.r0 _ _ _ _ _ x)=>x
  | _=>[]
theorem WH{x:Option cO}(h:tS x=true) :x=some (.r0 (DW x) (vM x) (vN x) (vO x) (vP x) (vQ x)):=by
  unfold tS at h
  split at h<;>first | rfl | (cases h;done) | (rename_i y;cases y;rfl)
noncomputable def KK:aK:=cy CU (.cons (.agg (.cons (.int .i64) (.cons (.int .i64) (.cons .fl .nil)))) (.cons (.int .i64) .nil)) fun t=>(fun q=>[⟨Di (.r0 (DW q) (vM q) (vN q) (vO q) (vP q) (vQ q)),[tS q]⟩]) (iT t.1.1 t.1.2.1 t.1.2.2.1.2 t.2.1)
theorem PJ:aY prog KK:=ba fun t=>(aZ (fun h=>WG t.1.1 t.1.2.1 t.1.2.2.1.1 t.1.2.2.1.2 t.2.1 (WH h)) bj)
noncomputable def KL:List aK:=KK::Ny
theorem vR:aW prog (aT KL):=aF PJ jD
inductive jP where
  | r0 (b2:Bool)
def Nz:jP→AE×aM
  | .r0 b2=>(.ret,⟨aq 32 [(2,.bool false b2)],[],0⟩)
theorem Zw:ld Nz:=by intro x;cases x<;>(intro h;cases h)
def F0:jP→ib
  | .r0 b2=>⟨.bool false b2,[]⟩
def Zx(b1:Bool) :aM:=⟨aq 32 [(2,.bool false b1)],[],0⟩
def KM(a_0:Int)(a_1:Int)(a_3:List Nat) :T ((Bool)⊕(jP)) :=
  .ask (decide (a_0<(0:Int)))
    (.leaf (.inl true))
    (.ask (decide (a_0>(512:Int)))
      (.leaf (.inl true))
      (.ask (decide (a_1<(0:Int)))
        (.leaf (.inl true))
        (.ask (decide (a_1>(512:Int)))
          (.leaf (.inl true))
          (.need (cK .i64 (a_0*a_1))<|.leaf (.inl ((((List.length a_3):Nat):Int) != (a_0*a_1)))))))
def Zy(b1:Bool) :T ((Empty)⊕(jP)) :=
  .leaf (.inr (.r0 b1))
noncomputable def tT(a_0:Int)(a_1:Int)(a_3:List Nat) :Option jP:=lG (aL ((KM a_0 a_1 a_3).run) fun b1 =>
  (Zy b1).run)
theorem Zz(a_0:Int)(a_1:Int)(v_2:Lv)(a_3:List Nat){x:jP}(h:tT a_0 a_1 a_3=some x) :aB prog MY [] [.agg [.int .i64 a_0,.int .i64 a_1,.imm v_2 (.fl a_3) 1 1 0 (List.length a_3)]] (F0 x) :=
  mo false F0 Nz h (Sg.cut 2 Zw (aV vR Zx [⟨[],[],[2]⟩,⟨[],[],[2]⟩,⟨[],[],[2]⟩,⟨[],[],[2]⟩,⟨[],[],[2]⟩]) (fun b1=>aV vR lx [⟨[],[],[2]⟩]))
    (fun x=>by cases x with | r0 b2=>exact ly [.bool false b2])
def xg:Option jP→Bool
  | some _=>true
  | none=>false
def yR:Option jP→Bool
  | some (.r0 x)=>x
  | _=>false
theorem ZA{x:Option jP}(h:xg x=true) :x=some (.r0 (yR x)):=by
  unfold xg at h
  split at h<;>first | rfl | (cases h;done) | (rename_i y;cases y;rfl)
noncomputable def NA:aK:=cy MY (.cons (.agg (.cons (.int .i64) (.cons (.int .i64) (.cons .fl .nil)))) .nil) fun t=>(fun q=>[⟨F0 (.r0 (yR q)),[xg q]⟩]) (tT t.1.1 t.1.2.1 t.1.2.2.1.2)
theorem SA:aY prog NA:=ba fun t=>(aZ (fun h=>Zz t.1.1 t.1.2.1 t.1.2.2.1.1 t.1.2.2.1.2 (ZA h)) bj)
noncomputable def NB:List aK:=NA::KL
theorem fQ:aW prog (aT NB):=aF SA vR
inductive cp where
  | r0 (a41:Nat) (i42:Int) (i43:Int) (a44:Nat) (a45:Nat) (l46:List Nat)
def qp:cp→AE×aM
  | .r0 a41 i42 i43 a44 a45 l46=>(.ret,⟨aq 45 [(2,.ptr 0 1 0 0),(3,.int .i64 ((a41:Nat):Int))],[(0,.vs [.int .i64 i42,.int .i64 i43,.sl 1 1 1 0 a44 a45]),(1,.fl l46)],2⟩)
theorem fF:ld qp:=by intro x;cases x<;>(intro h;cases h)
theorem AT(id:Nat) :ko id qp:=by intro x;cases x<;>(intro h;cases h)
def Dj:cp→ib
  | .r0 a41 i42 i43 a44 a45 l46=>⟨.tup [.agg [.int .i64 i42,.int .i64 i43,.imm .free (.fl l46) 1 1 0 a44],.int .i64 ((a41:Nat):Int)],[]⟩
noncomputable def SB:List Code:=cg (kB wT)
def WI(a_0:Int)(a_1:Int)(v_2:Lv)(a_3:List Nat)(b1:Bool) :aM:=⟨aq 45 [(1,.ptr 0 1 0 0),(2,.ptr 1 1 0 0),(10,.bool false b1)],[(0,.vs [.int .i64 a_0,.int .i64 a_1,.imm v_2 (.fl a_3) 1 1 0 (List.length a_3)]),(1,.vs [.int .i64 (0:Int),.int .i64 (0:Int),.nsl])],2⟩
def GE(a_0:Int)(a_1:Int)(a_3:List Nat) :T ((Bool)⊕(cp)) :=
  .ask (decide ((0:Int)<(1:Int)))
    (.need (fi (0:Int) 1)<|.need (bL 0 (List.length a_3) a_3)<|.need (xg (tT a_0 a_1 (an 0 (List.length a_3) a_3)))<|.ask (yR (tT a_0 a_1 (an 0 (List.length a_3) a_3)))
      (.leaf (.inl (!(!(decide ((0:Int)≥(0:Int)))))))
      (.need (cK .i64 (1:Int))<|.ask (decide ((1:Int)<(1:Int)))
        (.fail)
        (.leaf (.inl (!(!(decide ((-1:Int)≥(0:Int)))))))))
    (.fail)
def WJ(a_0:Int)(a_1:Int)(v_2:Lv)(a_3:List Nat)(_:Unit) :aM:=⟨aq 45 [(1,.ptr 0 1 0 0),(2,.ptr 1 1 0 0),(4,.ptr 2 1 0 0),(18,.int .i64 a_1),(19,.int .i64 (0:Int))],[(0,.vs [.int .i64 a_0,.int .i64 a_1,.imm v_2 (.fl a_3) 1 1 0 (List.length a_3)]),(1,.vs [.int .i64 (0:Int),.int .i64 (0:Int),.nsl]),(2,.vs [.int .i64 a_1,.int .i64 a_0,.nsl])],3⟩
def SC(b1:Bool) :T ((Unit)⊕(cp)) :=
  .ask b1
    (.leaf (.inr (.r0 2 (0:Int) (0:Int) 0 0 ([]:List Nat))))
    (.leaf (.inl ()))
def qJ(a_0:Int)(a_1:Int)(v_2:Lv)(a_3:List Nat) :Nat×Nat×Nat×(List Nat)→aM:=fun (a24,a25,a26,l27)=>⟨aq 45 [(1,.ptr 0 1 0 0),(2,.ptr 1 1 0 0),(4,.ptr 2 1 0 0),(18,.int .i64 a_1),(19,.int .i64 ((a24:Nat):Int))],[(0,.vs [.int .i64 a_0,.int .i64 a_1,.imm v_2 (.fl a_3) 1 1 0 (List.length a_3)]),(1,.vs [.int .i64 (0:Int),.int .i64 (0:Int),.nsl]),(2,.vs [.int .i64 a_1,.int .i64 a_0,.sl 3 1 1 0 a25 a26]),(3,.fl l27)],4⟩
def yS(a_0:Int)(a_1:Int) :Nat×Nat×(List Nat)→aM:=fun (a38,a39,l40)=>⟨aq 45 [(2,.ptr 0 1 0 0),(4,.ptr 1 1 0 0)],[(0,.vs [.int .i64 (0:Int),.int .i64 (0:Int),.nsl]),(1,.vs [.int .i64 a_1,.int .i64 a_0,.sl 2 1 1 0 a38 a39]),(2,.fl l40)],3⟩
noncomputable def GF:List Code:=cg (cw (((((SB.drop 2).drop 3).take 1)).headD .skip))
def SD(a_0:Int)(a_1:Int)(v_2:Lv)(a_3:List Nat)(a24:Nat)(a25:Nat)(a26:Nat)(l27:List Nat)(_:Unit) :aM:=⟨aq 45 [(1,.ptr 0 1 0 0),(2,.ptr 1 1 0 0),(4,.ptr 2 1 0 0),(18,.int .i64 a_1),(19,.int .i64 ((a24:Nat):Int))],[(0,.vs [.int .i64 a_0,.int .i64 a_1,.imm v_2 (.fl a_3) 1 1 0 (List.length a_3)]),(1,.vs [.int .i64 (0:Int),.int .i64 (0:Int),.nsl]),(2,.vs [.int .i64 a_1,.int .i64 a_0,.sl 3 1 1 0 a25 a26]),(3,.fl l27)],4⟩
def yT(a_1:Int)(a24:Nat)(a25:Nat)(a26:Nat)(l27:List Nat) :T ((Unit)⊕((Nat×Nat×(List Nat))⊕(cp))) :=
  .ask (decide (((a24:Nat):Int)<a_1))
    (.leaf (.inl ()))
    (.leaf (.inr (.inl (a25,a26,l27))))
def yU(a_0:Int)(a_1:Int)(v_2:Lv)(a_3:List Nat)(a24:Nat) :Nat×Nat×(List Nat)→aM:=fun (a35,a36,l37)=>⟨aq 45 [(1,.ptr 0 1 0 0),(2,.ptr 1 1 0 0),(4,.ptr 2 1 0 0),(18,.int .i64 a_1),(19,.int .i64 ((a24:Nat):Int))],[(0,.vs [.int .i64 a_0,.int .i64 a_1,.imm v_2 (.fl a_3) 1 1 0 (List.length a_3)]),(1,.vs [.int .i64 (0:Int),.int .i64 (0:Int),.nsl]),(2,.vs [.int .i64 a_1,.int .i64 a_0,.sl 3 1 1 0 a35 a36]),(3,.fl l37)],4⟩
noncomputable def SE:List Code:=cg (inBlock ((((GF.drop 2).take 1)).headD .skip))
def SF(a_0:Int)(a_1:Int)(v_2:Lv)(a_3:List Nat)(a24:Nat)(a25:Nat)(a26:Nat)(l27:List Nat)(_:Unit) :aM:=⟨aq 45 [(1,.ptr 0 1 0 0),(2,.ptr 1 1 0 0),(4,.ptr 2 1 0 0),(5,.int .i64 ((a24:Nat):Int)),(18,.int .i64 a_1),(19,.int .i64 ((a24:Nat):Int)),(23,.int .i64 a_0),(24,.int .i64 (0:Int))],[(0,.vs [.int .i64 a_0,.int .i64 a_1,.imm v_2 (.fl a_3) 1 1 0 (List.length a_3)]),(1,.vs [.int .i64 (0:Int),.int .i64 (0:Int),.nsl]),(2,.vs [.int .i64 a_1,.int .i64 a_0,.sl 3 1 1 0 a25 a26]),(3,.fl l27)],4⟩
def SG:T ((Unit)⊕((Nat×Nat×(List Nat))⊕((Nat×Nat×(List Nat))⊕(cp)))) :=
  .leaf (.inl ())
def qK(a_0:Int)(a_1:Int)(v_2:Lv)(a_3:List Nat)(a24:Nat) :Nat×Nat×Nat×(List Nat)→aM:=fun (a28,a29,a30,l31)=>⟨aq 45 [(1,.ptr 0 1 0 0),(2,.ptr 1 1 0 0),(4,.ptr 2 1 0 0),(5,.int .i64 ((a24:Nat):Int)),(18,.int .i64 a_1),(19,.int .i64 ((a24:Nat):Int)),(23,.int .i64 a_0),(24,.int .i64 ((a28:Nat):Int))],[(0,.vs [.int .i64 a_0,.int .i64 a_1,.imm v_2 (.fl a_3) 1 1 0 (List.length a_3)]),(1,.vs [.int .i64 (0:Int),.int .i64 (0:Int),.nsl]),(2,.vs [.int .i64 a_1,.int .i64 a_0,.sl 3 1 1 0 a29 a30]),(3,.fl l31)],4⟩
def GG(a_0:Int)(a_1:Int)(v_2:Lv)(a_3:List Nat)(a24:Nat) :Nat×Nat×(List Nat)→aM:=fun (a32,a33,l34)=>⟨aq 45 [(1,.ptr 0 1 0 0),(2,.ptr 1 1 0 0),(4,.ptr 2 1 0 0),(18,.int .i64 a_1),(19,.int .i64 ((a24:Nat):Int))],[(0,.vs [.int .i64 a_0,.int .i64 a_1,.imm v_2 (.fl a_3) 1 1 0 (List.length a_3)]),(1,.vs [.int .i64 (0:Int),.int .i64 (0:Int),.nsl]),(2,.vs [.int .i64 a_1,.int .i64 a_0,.sl 3 1 1 0 a32 a33]),(3,.fl l34)],4⟩
noncomputable def SH:List Code:=cg (cw ((((SE.drop 2).take 1)).headD .skip))
def yV(a_0:Int)(a_1:Int)(a_3:List Nat)(a24:Nat)(a28:Nat)(a29:Nat)(a30:Nat)(l31:List Nat) :T ((Nat×Nat×Nat×(List Nat))⊕((Nat×Nat×(List Nat))⊕((Nat×Nat×(List Nat))⊕((Nat×Nat×(List Nat))⊕(cp))))) :=
  .ask (decide (((a28:Nat):Int)<a_0))
    (.need (cK .i64 (((a28:Nat):Int)*a_1))<|.need (cK .i64 ((((a28:Nat):Int)*a_1)+((a24:Nat):Int)))<|.need (fi ((((a28:Nat):Int)*a_1)+((a24:Nat):Int)) (List.length a_3))<|.need (eS (Int.toNat ((((a28:Nat):Int)*a_1)+((a24:Nat):Int))) (List.length a_3))<|.need (dK ((a29+1)*8) 140737488355328)<|.need (dK (a29+1) 9223372036854775807)<|.need (dK 1 (List.length [(List.getD a_3 (Int.toNat ((((a28:Nat):Int)*a_1)+((a24:Nat):Int))) 0)]))<|.need (dK a29 (List.length l31))<|.need (cK .i64 (((a28+1):Nat):Int))<|.leaf (.inl ((a28+1),(a29+1),(a29+1),((List.take a29 l31)++(List.take 1 [(List.getD a_3 (Int.toNat ((((a28:Nat):Int)*a_1)+((a24:Nat):Int))) 0)])))))
    (.leaf (.inr (.inl (a29,a30,l31))))
noncomputable def yW(a_0:Int)(a_1:Int)(a_3:List Nat)(a24:Nat) :Nat×Nat×Nat×(List Nat)→Option ((Nat×Nat×Nat×(List Nat))⊕((Nat×Nat×(List Nat))⊕((Nat×Nat×(List Nat))⊕((Nat×Nat×(List Nat))⊕(cp))))):=fun (a28,a29,a30,l31) =>
  (yV a_0 a_1 a_3 a24 a28 a29 a30 l31).run
theorem SI(a_0:Int)(a_1:Int)(v_2:Lv)(a_3:List Nat)(a24:Nat)(a28:Nat)(a29:Nat)(a30:Nat)(l31:List Nat) :Sg prog [] SH (qK a_0 a_1 v_2 a_3 a24 (a28,a29,a30,l31)) (yW a_0 a_1 a_3 a24 (a28,a29,a30,l31)) (qK a_0 a_1 v_2 a_3 a24) (bS 2 (GG a_0 a_1 v_2 a_3 a24) (bS 1 (yU a_0 a_1 v_2 a_3 a24) (bS 0 (yS a_0 a_1) qp))):=by
  unfold yW;exact aV fQ (qK a_0 a_1 v_2 a_3 a24) [⟨[],[0,1,2,260],[1,2,4,5,18,19,23,24]⟩,⟨[],[0,1,2,3],[1,2,4,18,19]⟩]
def SJ(a32:Nat)(a33:Nat)(l34:List Nat) :T ((Nat×Nat×(List Nat))⊕((Nat×Nat×(List Nat))⊕((Nat×Nat×(List Nat))⊕(cp)))) :=
  .leaf (.inl (a32,a33,l34))
def SK(a24:Nat)(a35:Nat)(a36:Nat)(l37:List Nat) :T ((Nat×Nat×Nat×(List Nat))⊕((Nat×Nat×(List Nat))⊕(cp))) :=
  .need (cK .i64 (((a24+1):Nat):Int))<|.leaf (.inl ((a24+1),a35,a36,l37))
noncomputable def yX(a_0:Int)(a_1:Int)(a_3:List Nat) :Nat×Nat×Nat×(List Nat)→Option ((Nat×Nat×Nat×(List Nat))⊕((Nat×Nat×(List Nat))⊕(cp))):=fun (a24,a25,a26,l27) =>
  aL ((yT a_1 a24 a25 a26 l27).run) fun _ =>
  aL (vj (aL ((SG).run) fun _ =>
  aL (ch (yW a_0 a_1 a_3 a24) (0,a25,a26,l27)) fun (a32,a33,l34) =>
  (SJ a32 a33 l34).run)) fun (a35,a36,l37) =>
  (SK a24 a35 a36 l37).run
theorem SL(a_0:Int)(a_1:Int)(v_2:Lv)(a_3:List Nat)(a24:Nat)(a25:Nat)(a26:Nat)(l27:List Nat) :Sg prog [] GF (qJ a_0 a_1 v_2 a_3 (a24,a25,a26,l27)) (yX a_0 a_1 a_3 (a24,a25,a26,l27)) (qJ a_0 a_1 v_2 a_3) (bS 0 (yS a_0 a_1) qp):=by
  unfold yX;exact Sg.cut 2 (aD fF) (aV fQ (SD a_0 a_1 v_2 a_3 a24 a25 a26 l27) [⟨[],[0,1,2,3],[1,2,4,18,19]⟩,⟨[],[1,2,3],[2,4]⟩]) (fun _=>Sg.cut 1 (aD fF) (sgb (yU a_0 a_1 v_2 a_3 a24) 1 (aD fF) (ck (by decide) (AT _)) (Sg.cut 2 (aD (aD fF)) (aV fQ (SF a_0 a_1 v_2 a_3 a24 a25 a26 l27) [⟨[],[0,1,2,3],[1,2,4,5,18,19,23,24]⟩]) (fun _=>Sg.cut 1 (aD (aD fF)) (vg ⟨[],[0,1,2,3],[1,2,4,5,18,19,23,24]⟩ (qK a_0 a_1 v_2 a_3 a24) (GG a_0 a_1 v_2 a_3 a24) 2 (aD (aD fF)) (ck (by decide) (ck (by decide) (AT _))) (fun ⟨a28,a29,a30,l31⟩=>SI a_0 a_1 v_2 a_3 a24 a28 a29 a30 l31)) (fun ⟨a32,a33,l34⟩=>aV fQ (yU a_0 a_1 v_2 a_3 a24) [⟨[],[0,1,2,3],[1,2,4,18,19]⟩])))) (fun ⟨a35,a36,l37⟩=>aV fQ (qJ a_0 a_1 v_2 a_3) [⟨[],[0,1,2,3],[1,2,4,18,19]⟩]))
def SM(a_0:Int)(a_1:Int)(a38:Nat)(a39:Nat)(l40:List Nat) :T ((Empty)⊕(cp)) :=
  .leaf (.inr (.r0 0 a_1 a_0 a38 a39 l40))
noncomputable def jV(a_0:Int)(a_1:Int)(a_3:List Nat) :Option cp:=lG (aL ((GE a_0 a_1 a_3).run) fun b1 =>
  aL ((SC b1).run) fun _ =>
  aL (ch (yX a_0 a_1 a_3) (0,0,0,([]:List Nat))) fun (a38,a39,l40) =>
  (SM a_0 a_1 a38 a39 l40).run)
theorem WK(a_0:Int)(a_1:Int)(v_2:Lv)(a_3:List Nat){x:cp}(h:jV a_0 a_1 a_3=some x) :aB prog wT [] [.agg [.int .i64 a_0,.int .i64 a_1,.imm v_2 (.fl a_3) 1 1 0 (List.length a_3)]] (Dj x) :=
  mo true Dj qp h (Sg.cut 2 fF (aV fQ (WI a_0 a_1 v_2 a_3) [⟨[],[0,16],[1,2,10]⟩,⟨[],[0,16],[1,2,10]⟩]) (fun b1=>Sg.cut 3 fF (aV fQ (WJ a_0 a_1 v_2 a_3) [⟨[(.cell 1 2,.own 1 1 (.fl ([]:List Nat)))],[1,50],[2,3]⟩,⟨[],[0,1,82],[1,2,4,18,19]⟩]) (fun _=>Sg.cut 1 fF (vg ⟨[(.cell 2 2,.own 1 1 (.fl ([]:List Nat)))],[0,1,2,3],[1,2,4,18,19]⟩ (qJ a_0 a_1 v_2 a_3) (yS a_0 a_1) 0 fF (AT _) (fun ⟨a24,a25,a26,l27⟩=>SL a_0 a_1 v_2 a_3 a24 a25 a26 l27)) (fun ⟨a38,a39,l40⟩=>aV fQ lx [⟨[],[0,2],[2,3]⟩]))))
    (fun x=>by cases x with | r0 a41 i42 i43 a44 a45 l46=>exact ly [.agg [.int .i64 i42,.int .i64 i43,.sl 1 1 1 0 a44 a45],.int .i64 ((a41:Nat):Int)])
def tU:Option cp→Bool
  | some _=>true
  | none=>false
def DX:Option cp→Nat
  | some (.r0 x _ _ _ _ _)=>x
  | _=>0
def vS:Option cp→Int
  | some (.r0 _ x _ _ _ _)=>x
  | _=>0
def vT:Option cp→Int
  | some (.r0 _ _ x _ _ _)=>x
  | _=>0
def vU:Option cp→Nat
  | some (.r0 _ _ _ x _ _)=>x
  | _=>0
def DY:Option cp→Nat
  | some (.r0 _ _ _ _ x _)=>x
  | _=>0
def vV:Option cp→List Nat
  | some (.r0 _ _ _ _ _ x)=>x
  | _=>[]
theorem WL{x:Option cp}(h:tU x=true) :x=some (.r0 (DX x) (vS x) (vT x) (vU x) (DY x) (vV x)):=by
  unfold tU at h
  split at h<;>first | rfl | (cases h;done) | (rename_i y;cases y;rfl)
noncomputable def KN:aK:=cy wT (.cons (.agg (.cons (.int .i64) (.cons (.int .i64) (.cons .fl .nil)))) .nil) fun t=>(fun q=>[⟨Dj (.r0 (DX q) (vS q) (vT q) (vU q) (DY q) (vV q)),[tU q]⟩]) (jV t.1.1 t.1.2.1 t.1.2.2.1.2)
theorem PK:aY prog KN:=ba fun t=>(aZ (fun h=>WK t.1.1 t.1.2.1 t.1.2.2.1.1 t.1.2.2.1.2 (WL h)) bj)
noncomputable def KO:List aK:=KN::NB
theorem pz:aW prog (aT KO):=aF PK fQ
inductive jh where
  | r0 (b2:Bool)
def Cc:jh→AE×aM
  | .r0 b2=>(.ret,⟨aq 18 [(2,.bool false b2)],[],0⟩)
theorem F1:ld Cc:=by intro x;cases x<;>(intro h;cases h)
theorem ads(id:Nat) :ko id Cc:=by intro x;cases x<;>(intro h;cases h)
def Ix:jh→ib
  | .r0 b2=>⟨.bool false b2,[]⟩
noncomputable def adt:List Code:=cg (kB H4)
def adu(v_0:Lv)(n_1:List Int)(_:Unit) :aM:=⟨aq 18 [(5,.imm v_0 (.ns .i64 n_1) 1 1 0 (List.length n_1)),(6,.int .i64 (((List.length n_1):Nat):Int)),(7,.int .i64 (0:Int))],[],0⟩
def adv:T ((Unit)⊕(jh)) :=
  .leaf (.inl ())
def zR(v_0:Lv)(n_1:List Int)(a1:Nat) :aM:=⟨aq 18 [(5,.imm v_0 (.ns .i64 n_1) 1 1 0 (List.length n_1)),(6,.int .i64 (((List.length n_1):Nat):Int)),(7,.int .i64 ((a1:Nat):Int))],[],0⟩
def NC(_:Unit) :aM:=⟨aq 18 [],[],0⟩
noncomputable def adw:List Code:=cg (cw ((((adt.drop 2).take 1)).headD .skip))
def adx(n_1:List Int)(a1:Nat) :T ((Nat)⊕((Unit)⊕(jh))) :=
  .ask (decide (((a1:Nat):Int)<(((List.length n_1):Nat):Int)))
    (.need (fi ((a1:Nat):Int) (List.length n_1))<|.need (eS a1 (List.length n_1))<|.ask (decide ((List.getD n_1 a1 0)<(0:Int)))
      (.leaf (.inr (.inr (.r0 false))))
      (.ask (decide ((List.getD n_1 a1 0)>(512:Int)))
        (.leaf (.inr (.inr (.r0 false))))
        (.need (cK .i64 (((a1+1):Nat):Int))<|.leaf (.inl (a1+1)))))
    (.leaf (.inr (.inl ())))
noncomputable def Dk(n_1:List Int) :Nat→Option ((Nat)⊕((Unit)⊕(jh))):=fun a1 =>
  (adx n_1 a1).run
theorem ZB(v_0:Lv)(n_1:List Int)(a1:Nat) :Sg prog [] adw (zR v_0 n_1 a1) (Dk n_1 a1) (zR v_0 n_1) (bS 0 NC Cc):=by
  unfold Dk;exact aV pz (zR v_0 n_1) [⟨[],[],[2]⟩,⟨[],[],[2]⟩,⟨[],[],[5,6,7]⟩,⟨[],[],[]⟩]
def ZC:T ((Empty)⊕(jh)) :=
  .leaf (.inr (.r0 true))
noncomputable def xX(n_1:List Int) :Option jh:=lG (aL ((adv).run) fun _ =>
  aL (ch (Dk n_1) 0) fun _ =>
  (ZC).run)
theorem ady(v_0:Lv)(n_1:List Int){x:jh}(h:xX n_1=some x) :aB prog H4 [] [.imm v_0 (.ns .i64 n_1) 1 1 0 (List.length n_1)] (Ix x) :=
  mo false Ix Cc h (Sg.cut 2 F1 (aV pz (adu v_0 n_1) [⟨[],[],[5,6,7]⟩]) (fun _=>Sg.cut 1 F1 (vg ⟨[],[],[5,6,7]⟩ (zR v_0 n_1) (NC) 0 F1 (ads _) (fun a1=>ZB v_0 n_1 a1)) (fun _=>aV pz lx [⟨[],[],[2]⟩])))
    (fun x=>by cases x with | r0 b2=>exact ly [.bool false b2])
def zS:Option jh→Bool
  | some _=>true
  | none=>false
def AU:Option jh→Bool
  | some (.r0 x)=>x
  | _=>false
theorem adz{x:Option jh}(h:zS x=true) :x=some (.r0 (AU x)):=by
  unfold zS at h
  split at h<;>first | rfl | (cases h;done) | (rename_i y;cases y;rfl)
noncomputable def RO:aK:=cy H4 (.cons (.ns .i64) .nil) fun t=>(fun q=>[⟨Ix (.r0 (AU q)),[zS q]⟩]) (xX t.1.2)
theorem WM:aY prog RO:=ba fun t=>(aZ (fun h=>ady t.1.1 t.1.2 (adz h)) bj)
noncomputable def RP:List aK:=RO::KO
theorem tV:aW prog (aT RP):=aF WM pz
inductive iL where
  | r0
  | r1 (i3:Int) (i4:Int) (a5:Nat) (l6:List Nat)
def aaY:iL→AE×aM
  | .r0=>(.ret,⟨aq 37 [(2,.ptr 0 1 0 0),(3,.int .i64 (2:Int))],[(0,.vs [.nptr,.int .i64 (0:Int),.int .i64 (0:Int),.int .i64 (0:Int),.int .i64 (0:Int),.int .i64 (0:Int)])],1⟩)
  | .r1 i3 i4 a5 l6=>(.ret,⟨aq 37 [(2,.ptr 0 1 0 0),(3,.int .i64 (0:Int))],[(0,.vs [.ptr 1 1 0 0,.int .i64 i3,.int .i64 i4,.int .i64 (0:Int),.int .i64 i4,.int .i64 (1:Int)]),(1,.vs [.sl 2 1 1 0 a5 a5]),(2,.fl l6)],3⟩)
theorem aj6:ld aaY:=by intro x;cases x<;>(intro h;cases h)
def JI:iL→ib
  | .r0=>⟨.tup [.agg [.nptr,.int .i64 (0:Int),.int .i64 (0:Int),.int .i64 (0:Int),.int .i64 (0:Int),.int .i64 (0:Int)],.int .i64 (2:Int)],[]⟩
  | .r1 i3 i4 a5 l6=>⟨.tup [.agg [.ptr 0 1 0 0,.int .i64 i3,.int .i64 i4,.int .i64 (0:Int),.int .i64 i4,.int .i64 (1:Int)],.int .i64 (0:Int)],[some (.vs [.sl 1 1 1 0 a5 a5]),some (.fl l6)]⟩
def aj7(m_0:Int)(m_1:Int)(v_2:Lv)(m_3:List Nat)(_:Unit) :aM:=⟨aq 37 [(1,.ptr 0 1 0 0),(2,.ptr 1 1 0 0),(4,.ptr 2 1 0 0),(5,.int .i64 (2:Int))],[(0,.vs [.int .i64 m_0,.int .i64 m_1,.imm v_2 (.fl m_3) 1 1 0 (List.length m_3)]),(1,.vs [.nptr,.int .i64 (0:Int),.int .i64 (0:Int),.int .i64 (0:Int),.int .i64 (0:Int),.int .i64 (0:Int)]),(2,.vs [.nptr,.int .i64 (0:Int),.int .i64 (0:Int),.int .i64 (0:Int),.int .i64 (0:Int),.int .i64 (0:Int)])],3⟩
def aj8(m_0:Int)(m_1:Int)(v_2:Lv)(m_3:List Nat) :Nat×(List Nat)→aM:=fun (a1,l2)=>⟨aq 37 [(1,.ptr 0 1 0 0),(2,.ptr 1 1 0 0),(4,.ptr 2 1 0 0),(5,.int .i64 (0:Int))],[(0,.vs [.int .i64 m_0,.int .i64 m_1,.imm v_2 (.fl m_3) 1 1 0 (List.length m_3)]),(1,.vs [.nptr,.int .i64 (0:Int),.int .i64 (0:Int),.int .i64 (0:Int),.int .i64 (0:Int),.int .i64 (0:Int)]),(2,.vs [.ptr 3 1 0 0,.int .i64 m_0,.int .i64 m_1,.int .i64 (0:Int),.int .i64 m_1,.int .i64 (1:Int)]),(3,.vs [.sl 4 1 1 0 a1 a1]),(4,.fl l2)],5⟩
def WN(m_0:Int)(m_1:Int) :T (((Unit)⊕((Nat×(List Nat))))⊕(iL)) :=
  .need (bL 0 2 [m_0,m_1])<|.need (zS (xX (an 0 2 [m_0,m_1])))<|.ask (!(AU (xX (an 0 2 [m_0,m_1]))))
    (.leaf (.inl (.inl ())))
    (.need (cK .i64 (m_0*m_1))<|.need (decide ((0:Int)≤(m_0*m_1)))<|.need (decide ((m_0*m_1)≤(m_0*m_1)))<|.need (decide ((8:Int)*(m_0*m_1)≤140737488355328))<|.need (cK .i64 (m_0*m_1))<|.leaf (.inl (.inr ((Int.toNat (m_0*m_1)),(List.replicate (Int.toNat (m_0*m_1)) 0)))))
def aj9:T ((Empty)⊕(iL)) :=
  .ask ((2:Int) != (0:Int))
    (.leaf (.inr (.r0)))
    (.fail)
def LZ(m_0:Int)(m_1:Int)(m_3:List Nat)(a1:Nat)(l2:List Nat) :T ((Empty)⊕(iL)) :=
  .ask ((0:Int) != (0:Int))
    (.fail)
    (.need (cK .i64 (m_0*m_1))<|.ask ((((List.length m_3):Nat):Int) != (m_0*m_1))
      (.leaf (.inr (.r0)))
      (.need (dK (List.length m_3) (List.length m_3))<|.need (dK (0+(Nat.min (List.length m_3) a1)) (List.length l2))<|.need (dK (Nat.min (List.length m_3) a1) (List.length (List.take (List.length m_3) m_3)))<|.leaf (.inr (.r1 m_0 m_1 a1 (cpL l2 0 (Nat.min (List.length m_3) a1) (List.take (List.length m_3) m_3))))))
noncomputable def gi(m_0:Int)(m_1:Int)(m_3:List Nat) :Option iL:=lG (aL ((WN m_0 m_1).run) (Sum.elim (fun _ =>
  (aj9).run) (fun (a1,l2) =>
  (LZ m_0 m_1 m_3 a1 l2).run)))
theorem WO(m_0:Int)(m_1:Int)(v_2:Lv)(m_3:List Nat){x:iL}(h:gi m_0 m_1 m_3=some x) :aB prog aat [] [.agg [.int .i64 m_0,.int .i64 m_1,.imm v_2 (.fl m_3) 1 1 0 (List.length m_3)]] (JI x) :=
  mo false JI aaY h (Sg.cut 2 aj6 (aV tV (Sum.elim (aj7 m_0 m_1 v_2 m_3) (aj8 m_0 m_1 v_2 m_3)) [⟨[],[0,16,176],[1,2,4,5]⟩,⟨[],[0,16,176,112,113],[1,2,4,5]⟩]) (sga (fun _=>aV tV lx [⟨[],[1],[2,3]⟩]) (fun ⟨a1,l2⟩=>aV tV lx [⟨[],[1],[2,3]⟩,⟨[],[1,3,4],[2,3]⟩])))
    (fun x=>by cases x with | r0=>exact ly [.agg [.nptr,.int .i64 (0:Int),.int .i64 (0:Int),.int .i64 (0:Int),.int .i64 (0:Int),.int .i64 (0:Int)],.int .i64 (2:Int)] | r1 i3 i4 a5 l6=>exact ly [.agg [.ptr 1 1 0 0,.int .i64 i3,.int .i64 i4,.int .i64 (0:Int),.int .i64 i4,.int .i64 (1:Int)],.int .i64 (0:Int)])
def vW:Option iL→Bool
  | some (.r0)=>true
  | _=>false
theorem aka{x:Option iL}(h:vW x=true) :x=some (.r0):=by
  unfold vW at h
  split at h<;>first | rfl | (cases h;done) | (rename_i y;cases y;rfl)
def vX:Option iL→Bool
  | some (.r1 _ _ _ _)=>true
  | _=>false
def zT:Option iL→Int
  | some (.r1 x _ _ _)=>x
  | _=>0
def zU:Option iL→Int
  | some (.r1 _ x _ _)=>x
  | _=>0
def zV:Option iL→Nat
  | some (.r1 _ _ x _)=>x
  | _=>0
def zW:Option iL→List Nat
  | some (.r1 _ _ _ x)=>x
  | _=>[]
theorem akb{x:Option iL}(h:vX x=true) :x=some (.r1 (zT x) (zU x) (zV x) (zW x)):=by
  unfold vX at h
  split at h<;>first | rfl | (cases h;done) | (rename_i y;cases y;rfl)
noncomputable def aaZ:aK:=cy aat (.cons (.agg (.cons (.int .i64) (.cons (.int .i64) (.cons .fl .nil)))) .nil) fun t=>(fun q=>[⟨JI (.r0),[vW q]⟩,⟨JI (.r1 (zT q) (zU q) (zV q) (zW q)),[vX q]⟩]) (gi t.1.1 t.1.2.1 t.1.2.2.1.2)
theorem adA:aY prog aaZ:=ba fun t=>(aZ (fun h=>WO t.1.1 t.1.2.1 t.1.2.2.1.1 t.1.2.2.1.2 (aka h)) (aZ (fun h=>WO t.1.1 t.1.2.1 t.1.2.2.1.1 t.1.2.2.1.2 (akb h)) bj))
noncomputable def aa0:List aK:=aaZ::RP
theorem zX:aW prog (aT aa0):=aF adA tV
inductive bf where
  | r0 (i2:Int)
def dA:bf→AE×aM
  | .r0 i2=>(.ret,⟨aq 19 [(4,.int .i64 i2)],[],0⟩)
theorem eM:ld dA:=by intro x;cases x<;>(intro h;cases h)
theorem oM(id:Nat) :ko id dA:=by intro x;cases x<;>(intro h;cases h)
def fe:bf→ib
  | .r0 i2=>⟨.int .i64 i2,[]⟩
noncomputable def oN:List Code:=cg (kB rz)
def oO(v_0:Lv)(s_1:List Nat)(_:Unit) :aM:=⟨aq 19 [(0,.imm v_0 (.fl s_1) 1 1 0 (List.length s_1)),(1,.fn (.func nO) [] []),(7,.int .i64 (((List.length s_1):Nat):Int)),(8,.int .i64 (0:Int))],[],0⟩
def oP:T ((Unit)⊕(bf)) :=
  .leaf (.inl ())
def dm(v_0:Lv)(s_1:List Nat)(a1:Nat) :aM:=⟨aq 19 [(0,.imm v_0 (.fl s_1) 1 1 0 (List.length s_1)),(1,.fn (.func nO) [] []),(7,.int .i64 (((List.length s_1):Nat):Int)),(8,.int .i64 ((a1:Nat):Int))],[],0⟩
def ji(_:Unit) :aM:=⟨aq 19 [],[],0⟩
noncomputable def oQ:List Code:=cg (cw ((((oN.drop 2).take 1)).headD .skip))
def eO(s_1:List Nat)(a1:Nat) :T ((Nat)⊕((Unit)⊕(bf))) :=
  .ask (decide (((a1:Nat):Int)<(((List.length s_1):Nat):Int)))
    (.need (fi ((a1:Nat):Int) (List.length s_1))<|.need (eS a1 (List.length s_1))<|.ask (fne (sO (List.getD s_1 a1 0) (List.getD s_1 a1 0)) 0)
      (.leaf (.inr (.inr (.r0 ((a1:Nat):Int)))))
      (.need (cK .i64 (((a1+1):Nat):Int))<|.leaf (.inl (a1+1))))
    (.leaf (.inr (.inl ())))
noncomputable def eD(s_1:List Nat) :Nat→Option ((Nat)⊕((Unit)⊕(bf))):=fun a1 =>
  (eO s_1 a1).run
theorem ow(v_0:Lv)(s_1:List Nat)(a1:Nat) :Sg prog [] oQ (dm v_0 s_1 a1) (eD s_1 a1) (dm v_0 s_1) (bS 0 ji dA):=by
  unfold eD;exact aV zX (dm v_0 s_1) [⟨[],[],[4]⟩,⟨[],[],[0,1,7,8]⟩,⟨[],[],[]⟩]
def ox:T ((Empty)⊕(bf)) :=
  .leaf (.inr (.r0 (-1:Int)))
noncomputable def cR(s_1:List Nat) :Option bf:=lG (aL ((oP).run) fun _ =>
  aL (ch (eD s_1) 0) fun _ =>
  (ox).run)
theorem oR(v_0:Lv)(s_1:List Nat){x:bf}(h:cR s_1=some x) :aB prog rz [] [.imm v_0 (.fl s_1) 1 1 0 (List.length s_1),.fn (.func nO) [] []] (fe x) :=
  mo false fe dA h (Sg.cut 2 eM (aV zX (oO v_0 s_1) [⟨[],[],[0,1,7,8]⟩]) (fun _=>Sg.cut 1 eM (vg ⟨[],[],[0,1,7,8]⟩ (dm v_0 s_1) (ji) 0 eM (oM _) (fun a1=>ow v_0 s_1 a1)) (fun _=>aV zX lx [⟨[],[],[4]⟩])))
    (fun x=>by cases x with | r0 i2=>exact ly [.int .i64 i2])
def dn:Option bf→Bool
  | some _=>true
  | none=>false
def er:Option bf→Int
  | some (.r0 x)=>x
  | _=>0
theorem oS{x:Option bf}(h:dn x=true) :x=some (.r0 (er x)):=by
  unfold dn at h
  split at h<;>first | rfl | (cases h;done) | (rename_i y;cases y;rfl)
noncomputable def jp:aK:=cy rz (.cons .fl (.cons (.fn nO .nil .nil) .nil)) fun t=>(fun q=>[⟨fe (.r0 (er q)),[dn q]⟩]) (cR t.1.2)
theorem nJ:aY prog jp:=ba fun t=>(aZ (fun h=>oR t.1.1 t.1.2 (oS h)) bj)
noncomputable def jq:List aK:=jp::aa0
theorem io:aW prog (aT jq):=aF nJ zX
inductive fX where
  | r0
def L0:fX→AE×aM
  | .r0=>(.ret,⟨aq 44 [(10,.ptr 0 1 0 0)],[(0,.vs [.nptr,.int .i64 (0:Int),.int .i64 (0:Int),.int .i64 (0:Int),.int .i64 (0:Int),.int .i64 (0:Int)])],1⟩)
def rF:fX→ib
  | .r0=>⟨.agg [.nptr,.int .i64 (0:Int),.int .i64 (0:Int),.int .i64 (0:Int),.int .i64 (0:Int),.int .i64 (0:Int)],[]⟩
def JR:T ((Empty)⊕(fX)) :=
  .leaf (.inr (.r0))
noncomputable def mA:Option fX:=lG ((JR).run)
theorem JS(v_0:Int)(v_1:Int)(v_2:Int)(v_3:Int)(v_4:Int)(i_5:Int)(j_6:Int)(rows_7:Int)(cols_8:Int){x:fX}(h:mA=some x) :aB prog km [] [.agg [.nptr,.int .i64 v_0,.int .i64 v_1,.int .i64 v_2,.int .i64 v_3,.int .i64 v_4],.int .i64 i_5,.int .i64 j_6,.int .i64 rows_7,.int .i64 cols_8] (rF x) :=
  mo false rF L0 h (aV io lx [⟨[],[16],[10]⟩])
    (fun x=>by cases x with | r0=>exact ly [.agg [.nptr,.int .i64 (0:Int),.int .i64 (0:Int),.int .i64 (0:Int),.int .i64 (0:Int),.int .i64 (0:Int)]])
def jE:Option fX→Bool
  | some _=>true
  | none=>false
theorem JT{x:Option fX}(h:jE x=true) :x=some (.r0):=by
  unfold jE at h
  split at h<;>first | rfl | (cases h;done) | (rename_i y;cases y;rfl)
noncomputable def AW:aK:=cy km (.cons (.agg (.cons .nptr (.cons (.int .i64) (.cons (.int .i64) (.cons (.int .i64) (.cons (.int .i64) (.cons (.int .i64) .nil))))))) (.cons (.int .i64) (.cons (.int .i64) (.cons (.int .i64) (.cons (.int .i64) .nil))))) fun t=>(fun q=>[⟨rF (.r0),[jE q]⟩]) (mA)
theorem G8:aY prog AW:=ba fun t=>(aZ (fun h=>JS t.1.2.1 t.1.2.2.1 t.1.2.2.2.1 t.1.2.2.2.2.1 t.1.2.2.2.2.2.1 t.2.1 t.2.2.1 t.2.2.2.1 t.2.2.2.2.1 (JT h)) bj)
noncomputable def AX:List aK:=AW::jq
theorem vk:aW prog (aT AX):=aF G8 io
inductive dR where
  | r0 (b1:Bool)
def Iy:dR→AE×aM
  | .r0 b1=>(.ret,⟨aq 26 [(2,.bool false b1)],[],0⟩)
def oT:dR→ib
  | .r0 b1=>⟨.bool false b1,[]⟩
def G9:T ((Empty)⊕(dR)) :=
  .leaf (.inr (.r0 false))
noncomputable def gj:Option dR:=lG ((G9).run)
theorem Ha(v_0:Int)(v_1:Int)(v_2:Int)(v_3:Int)(v_4:Int){x:dR}(h:gj=some x) :aB prog kM [] [.agg [.nptr,.int .i64 v_0,.int .i64 v_1,.int .i64 v_2,.int .i64 v_3,.int .i64 v_4]] (oT x) :=
  mo false oT Iy h (aV vk lx [⟨[],[],[2]⟩])
    (fun x=>by cases x with | r0 b1=>exact ly [.bool false b1])
def ip:Option dR→Bool
  | some _=>true
  | none=>false
def jr:Option dR→Bool
  | some (.r0 x)=>x
  | _=>false
theorem Hb{x:Option dR}(h:ip x=true) :x=some (.r0 (jr x)):=by
  unfold ip at h
  split at h<;>first | rfl | (cases h;done) | (rename_i y;cases y;rfl)
noncomputable def xY:aK:=cy kM (.cons (.agg (.cons .nptr (.cons (.int .i64) (.cons (.int .i64) (.cons (.int .i64) (.cons (.int .i64) (.cons (.int .i64) .nil))))))) .nil) fun t=>(fun q=>[⟨oT (.r0 (jr q)),[ip q]⟩]) (gj)
theorem DZ:aY prog xY:=ba fun t=>(aZ (fun h=>Ha t.1.2.1 t.1.2.2.1 t.1.2.2.2.1 t.1.2.2.2.2.1 t.1.2.2.2.2.2.1 (Hb h)) bj)
noncomputable def xZ:List aK:=xY::AX
theorem lL:aW prog (aT xZ):=aF DZ vk
inductive dp where
  | r0 (b2:Bool)
def ya:dp→AE×aM
  | .r0 b2=>(.ret,⟨aq 25 [(6,.bool false b2)],[],0⟩)
theorem Hc:ld ya:=by intro x;cases x<;>(intro h;cases h)
def oU:dp→ib
  | .r0 b2=>⟨.bool false b2,[]⟩
def Hd(b1:Bool) :aM:=⟨aq 25 [(6,.bool false b1)],[],0⟩
def He(v_0:Int)(v_1:Int)(i_5:Int)(j_6:Int) :T ((Bool)⊕(dp)) :=
  .ask (decide (i_5≥(0:Int)))
    (.ask (decide (i_5<v_0))
      (.ask (decide (j_6≥(0:Int)))
        (.leaf (.inl (decide (j_6<v_1))))
        (.leaf (.inl false)))
      (.leaf (.inl false)))
    (.leaf (.inl false))
def Hf(b1:Bool) :T ((Empty)⊕(dp)) :=
  .leaf (.inr (.r0 b1))
noncomputable def gk(v_0:Int)(v_1:Int)(i_5:Int)(j_6:Int) :Option dp:=lG (aL ((He v_0 v_1 i_5 j_6).run) fun b1 =>
  (Hf b1).run)
theorem Hg(v_0:Int)(v_1:Int)(v_2:Int)(v_3:Int)(v_4:Int)(i_5:Int)(j_6:Int){x:dp}(h:gk v_0 v_1 i_5 j_6=some x) :aB prog kN [] [.agg [.nptr,.int .i64 v_0,.int .i64 v_1,.int .i64 v_2,.int .i64 v_3,.int .i64 v_4],.int .i64 i_5,.int .i64 j_6] (oU x) :=
  mo false oU ya h (Sg.cut 2 Hc (aV lL Hd [⟨[],[],[6]⟩,⟨[],[],[6]⟩,⟨[],[],[6]⟩,⟨[],[],[6]⟩]) (fun b1=>aV lL lx [⟨[],[],[6]⟩]))
    (fun x=>by cases x with | r0 b2=>exact ly [.bool false b2])
def iq:Option dp→Bool
  | some _=>true
  | none=>false
def js:Option dp→Bool
  | some (.r0 x)=>x
  | _=>false
theorem Hh{x:Option dp}(h:iq x=true) :x=some (.r0 (js x)):=by
  unfold iq at h
  split at h<;>first | rfl | (cases h;done) | (rename_i y;cases y;rfl)
noncomputable def yb:aK:=cy kN (.cons (.agg (.cons .nptr (.cons (.int .i64) (.cons (.int .i64) (.cons (.int .i64) (.cons (.int .i64) (.cons (.int .i64) .nil))))))) (.cons (.int .i64) (.cons (.int .i64) .nil))) fun t=>(fun q=>[⟨oU (.r0 (js q)),[iq q]⟩]) (gk t.1.2.1 t.1.2.2.1 t.2.1 t.2.2.1)
theorem D0:aY prog yb:=ba fun t=>(aZ (fun h=>Hg t.1.2.1 t.1.2.2.1 t.1.2.2.2.1 t.1.2.2.2.2.1 t.1.2.2.2.2.2.1 t.2.1 t.2.2.1 (Hh h)) bj)
noncomputable def yc:List aK:=yb::xZ
theorem gl:aW prog (aT yc):=aF D0 lL
inductive cS where
  | r0 (a14:Nat) (a15:Nat) (l16:List Nat)
def pA:cS→AE×aM
  | .r0 a14 a15 l16=>(.ret,⟨aq 21 [(2,.sl 0 1 1 0 a14 a15)],[(0,.fl l16)],1⟩)
theorem nW:ld pA:=by intro x;cases x<;>(intro h;cases h)
theorem ND(id:Nat) :ko id pA:=by intro x;cases x<;>(intro h;cases h)
def vY:cS→ib
  | .r0 a14 a15 l16=>⟨.sl 0 1 1 0 a14 a15,[some (.fl l16)]⟩
noncomputable def L4:List Code:=cg (kB ka)
def NE(v_0:Int)(v_1:Int)(v_2:Int)(v_3:Int)(v_4:Int)(i1:Int) :aM:=⟨aq 21 [(3,.fn (.func jn) [.agg [.nptr,.int .i64 v_0,.int .i64 v_1,.int .i64 v_2,.int .i64 v_3,.int .i64 v_4]] []),(4,.nsl),(9,.int .i64 i1),(10,.int .i64 (0:Int))],[],0⟩
def L5(v_0:Int)(v_1:Int) :T ((Int)⊕(cS)) :=
  .need (ip (gj))<|.ask (!(jr (gj)))
    (.leaf (.inl (0:Int)))
    (.need (cK .i64 (v_0*v_1))<|.leaf (.inl (v_0*v_1)))
def nX(v_0:Int)(v_1:Int)(v_2:Int)(v_3:Int)(v_4:Int)(i1:Int) :Nat×Nat×Nat×(List Nat)→aM:=fun (l5,l6,a7,l8)=>⟨aq 21 [(3,.fn (.func jn) [.agg [.nptr,.int .i64 v_0,.int .i64 v_1,.int .i64 v_2,.int .i64 v_3,.int .i64 v_4]] []),(4,.sl 0 1 1 0 l5 l6),(9,.int .i64 i1),(10,.int .i64 ((a7:Nat):Int))],[(0,.fl l8)],1⟩
def Cd:Nat×Nat×(List Nat)→aM:=fun (l11,l12,l13)=>⟨aq 21 [(4,.sl 0 1 1 0 l11 l12)],[(0,.fl l13)],1⟩
noncomputable def L6:List Code:=cg (cw ((((L4.drop 4).take 1)).headD .skip))
def NF(v_0:Int)(v_1:Int)(v_2:Int)(v_3:Int)(v_4:Int)(i1:Int)(a7:Nat) :Nat×(List Nat)→aM:=fun (l9,l10)=>⟨aq 21 [(3,.fn (.func jn) [.agg [.nptr,.int .i64 v_0,.int .i64 v_1,.int .i64 v_2,.int .i64 v_3,.int .i64 v_4]] []),(4,.sl 0 1 1 0 l9 l9),(9,.int .i64 i1),(10,.int .i64 ((a7:Nat):Int))],[(0,.fl l10)],1⟩
def L7(v_0:Int)(v_1:Int)(i1:Int)(l5:Nat)(l6:Nat)(a7:Nat)(l8:List Nat) :T ((Nat×(List Nat))⊕((Nat×Nat×(List Nat))⊕(cS))) :=
  .ask (decide (((a7:Nat):Int)<i1))
    (.need (ip (gj))<|.ask (!(jr (gj)))
      (.need (dK ((l5+1)*8) 140737488355328)<|.need (dK (l5+1) 9223372036854775807)<|.need (dK 1 (List.length [0]))<|.need (dK l5 (List.length l8))<|.leaf (.inl ((l5+1),((List.take l5 l8)++(List.take 1 [0])))))
      (.ask (v_0==(1:Int))
        (.need (iq (gk v_0 v_1 (0:Int) ((a7:Nat):Int)))<|.ask (!(js (gk v_0 v_1 (0:Int) ((a7:Nat):Int))))
          (.need (dK ((l5+1)*8) 140737488355328)<|.need (dK (l5+1) 9223372036854775807)<|.need (dK 1 (List.length [0]))<|.need (dK l5 (List.length l8))<|.leaf (.inl ((l5+1),((List.take l5 l8)++(List.take 1 [0])))))
          (.fail))
        (.need (iq (gk v_0 v_1 ((a7:Nat):Int) (0:Int)))<|.ask (!(js (gk v_0 v_1 ((a7:Nat):Int) (0:Int))))
          (.need (dK ((l5+1)*8) 140737488355328)<|.need (dK (l5+1) 9223372036854775807)<|.need (dK 1 (List.length [0]))<|.need (dK l5 (List.length l8))<|.leaf (.inl ((l5+1),((List.take l5 l8)++(List.take 1 [0])))))
          (.fail))))
    (.leaf (.inr (.inl (l5,l6,l8))))
def L8(a7:Nat)(l9:Nat)(l10:List Nat) :T ((Nat×Nat×Nat×(List Nat))⊕((Nat×Nat×(List Nat))⊕(cS))) :=
  .need (cK .i64 (((a7+1):Nat):Int))<|.leaf (.inl (l9,l9,(a7+1),l10))
noncomputable def rG(v_0:Int)(v_1:Int)(i1:Int) :Nat×Nat×Nat×(List Nat)→Option ((Nat×Nat×Nat×(List Nat))⊕((Nat×Nat×(List Nat))⊕(cS))):=fun (l5,l6,a7,l8) =>
  aL ((L7 v_0 v_1 i1 l5 l6 a7 l8).run) fun (l9,l10) =>
  (L8 a7 l9 l10).run
theorem L9(v_0:Int)(v_1:Int)(v_2:Int)(v_3:Int)(v_4:Int)(i1:Int)(l5:Nat)(l6:Nat)(a7:Nat)(l8:List Nat) :Sg prog [] L6 (nX v_0 v_1 v_2 v_3 v_4 i1 (l5,l6,a7,l8)) (rG v_0 v_1 i1 (l5,l6,a7,l8)) (nX v_0 v_1 v_2 v_3 v_4 i1) (bS 0 Cd pA):=by
  unfold rG;exact Sg.cut 3 (aD nW) (aV gl (NF v_0 v_1 v_2 v_3 v_4 i1 a7) [⟨[],[129],[3,4,9,10]⟩,⟨[],[129],[3,4,9,10]⟩,⟨[],[129],[3,4,9,10]⟩,⟨[],[0],[4]⟩]) (fun ⟨l9,l10⟩=>aV gl (nX v_0 v_1 v_2 v_3 v_4 i1) [⟨[],[0],[3,4,9,10]⟩])
def Ma(l11:Nat)(l12:Nat)(l13:List Nat) :T ((Empty)⊕(cS)) :=
  .leaf (.inr (.r0 l11 l12 l13))
noncomputable def cd(v_0:Int)(v_1:Int) :Option cS:=lG (aL ((L5 v_0 v_1).run) fun i1 =>
  aL (ch (rG v_0 v_1 i1) (0,0,0,([]:List Nat))) fun (l11,l12,l13) =>
  (Ma l11 l12 l13).run)
theorem NG(v_0:Int)(v_1:Int)(v_2:Int)(v_3:Int)(v_4:Int){x:cS}(h:cd v_0 v_1=some x) :aB prog ka [] [.agg [.nptr,.int .i64 v_0,.int .i64 v_1,.int .i64 v_2,.int .i64 v_3,.int .i64 v_4]] (vY x) :=
  mo false vY pA h (Sg.cut 4 nW (aV gl (NE v_0 v_1 v_2 v_3 v_4) [⟨[],[],[3,4,9,10]⟩,⟨[],[],[3,4,9,10]⟩]) (fun i1=>Sg.cut 1 nW (vg ⟨[(.slot 4,.own 1 1 (.fl ([]:List Nat)))],[0],[3,4,9,10]⟩ (nX v_0 v_1 v_2 v_3 v_4 i1) (Cd) 0 nW (ND _) (fun ⟨l5,l6,a7,l8⟩=>L9 v_0 v_1 v_2 v_3 v_4 i1 l5 l6 a7 l8)) (fun ⟨l11,l12,l13⟩=>aV gl lx [⟨[],[0],[2]⟩])))
    (fun x=>by cases x with | r0 a14 a15 l16=>exact ly [.sl 0 1 1 0 a14 a15])
def gS:Option cS→Bool
  | some _=>true
  | none=>false
def hX:Option cS→Nat
  | some (.r0 x _ _)=>x
  | _=>0
def hY:Option cS→Nat
  | some (.r0 _ x _)=>x
  | _=>0
def ia:Option cS→List Nat
  | some (.r0 _ _ x)=>x
  | _=>[]
theorem NH{x:Option cS}(h:gS x=true) :x=some (.r0 (hX x) (hY x) (ia x)):=by
  unfold gS at h
  split at h<;>first | rfl | (cases h;done) | (rename_i y;cases y;rfl)
noncomputable def D1:aK:=cy ka (.cons (.agg (.cons .nptr (.cons (.int .i64) (.cons (.int .i64) (.cons (.int .i64) (.cons (.int .i64) (.cons (.int .i64) .nil))))))) .nil) fun t=>(fun q=>[⟨vY (.r0 (hX q) (hY q) (ia q)),[gS q]⟩]) (cd t.1.2.1 t.1.2.2.1)
theorem JU:aY prog D1:=ba fun t=>(aZ (fun h=>NG t.1.2.1 t.1.2.2.1 t.1.2.2.2.1 t.1.2.2.2.2.1 t.1.2.2.2.2.2.1 (NH h)) bj)
noncomputable def D2:List aK:=D1::yc
theorem pZ:aW prog (aT D2):=aF JU gl
inductive dq where
  | r0 (b2:Bool)
def yd:dq→AE×aM
  | .r0 b2=>(.ret,⟨aq 25 [(6,.bool false b2)],[],0⟩)
theorem Hi:ld yd:=by intro x;cases x<;>(intro h;cases h)
def oV:dq→ib
  | .r0 b2=>⟨.bool false b2,[]⟩
def Hj(b1:Bool) :aM:=⟨aq 25 [(6,.bool false b1)],[],0⟩
def vm(from_0:Int)(n_1:Int)(all_2:Int) :T ((Bool)⊕(dq)) :=
  .ask (decide (from_0≥(0:Int)))
    (.ask (decide (n_1≥(0:Int)))
      (.ask (decide (from_0≤all_2))
        (.need (cK .i64 (all_2-from_0))<|.leaf (.inl (decide (n_1≤(all_2-from_0)))))
        (.leaf (.inl false)))
      (.leaf (.inl false)))
    (.leaf (.inl false))
def Hk(b1:Bool) :T ((Empty)⊕(dq)) :=
  .leaf (.inr (.r0 b1))
noncomputable def eP(from_0:Int)(n_1:Int)(all_2:Int) :Option dq:=lG (aL ((vm from_0 n_1 all_2).run) fun b1 =>
  (Hk b1).run)
theorem Hl(from_0:Int)(n_1:Int)(all_2:Int){x:dq}(h:eP from_0 n_1 all_2=some x) :aB prog xA [] [.int .i64 from_0,.int .i64 n_1,.int .i64 all_2] (oV x) :=
  mo false oV yd h (Sg.cut 2 Hi (aV pZ Hj [⟨[],[],[6]⟩,⟨[],[],[6]⟩,⟨[],[],[6]⟩,⟨[],[],[6]⟩]) (fun b1=>aV pZ lx [⟨[],[],[6]⟩]))
    (fun x=>by cases x with | r0 b2=>exact ly [.bool false b2])
def ir:Option dq→Bool
  | some _=>true
  | none=>false
def jt:Option dq→Bool
  | some (.r0 x)=>x
  | _=>false
theorem Hm{x:Option dq}(h:ir x=true) :x=some (.r0 (jt x)):=by
  unfold ir at h
  split at h<;>first | rfl | (cases h;done) | (rename_i y;cases y;rfl)
noncomputable def ye:aK:=cy xA (.cons (.int .i64) (.cons (.int .i64) (.cons (.int .i64) .nil))) fun t=>(fun q=>[⟨oV (.r0 (jt q)),[ir q]⟩]) (eP t.1 t.2.1 t.2.2.1)
theorem D3:aY prog ye:=ba fun t=>(aZ (fun h=>Hl t.1 t.2.1 t.2.2.1 (Hm h)) bj)
noncomputable def yf:List aK:=ye::D2
theorem lM:aW prog (aT yf):=aF D3 pZ
inductive bg where
  | r0 (a2:Nat) (a3:Nat) (l4:List Nat)
  | r1 (a5:Nat) (a6:Nat) (l7:List Nat) (i9:Int) (i10:Int) (i11:Int) (i12:Int) (i13:Int)
def vn:bg→AE×aM
  | .r0 a2 a3 l4=>(.ret,⟨aq 44 [(10,.ptr 2 1 0 0)],[(0,.vs [.sl 1 1 1 0 a2 a3]),(1,.fl l4),(2,.vs [.nptr,.int .i64 (0:Int),.int .i64 (0:Int),.int .i64 (0:Int),.int .i64 (0:Int),.int .i64 (0:Int)])],3⟩)
  | .r1 a5 a6 l7 i9 i10 i11 i12 i13=>(.ret,⟨aq 44 [(10,.ptr 2 1 0 0)],[(0,.vs [.sl 1 1 1 0 a5 a6]),(1,.fl l7),(2,.vs [.ptr 0 1 0 0,.int .i64 i9,.int .i64 i10,.int .i64 i11,.int .i64 i12,.int .i64 i13])],3⟩)
theorem F2:ld vn:=by intro x;cases x<;>(intro h;cases h)
def ky:bg→ib
  | .r0 a2 a3 l4=>⟨.agg [.nptr,.int .i64 (0:Int),.int .i64 (0:Int),.int .i64 (0:Int),.int .i64 (0:Int),.int .i64 (0:Int)],[some (.vs [.sl 1 1 1 0 a2 a3]),some (.fl l4)]⟩
  | .r1 a5 a6 l7 i9 i10 i11 i12 i13=>⟨.agg [.ptr 0 1 0 0,.int .i64 i9,.int .i64 i10,.int .i64 i11,.int .i64 i12,.int .i64 i13],[some (.vs [.sl 1 1 1 0 a5 a6]),some (.fl l7)]⟩
def F3(n_0:Nat)(c_1:Nat)(l_2:List Nat)(v_3:Int)(v_4:Int)(v_5:Int)(v_6:Int)(v_7:Int)(i_8:Int)(j_9:Int)(rows_10:Int)(cols_11:Int)(b1:Bool) :aM:=⟨aq 44 [(1,.int .i64 i_8),(2,.int .i64 j_9),(3,.int .i64 rows_10),(4,.int .i64 cols_11),(5,.ptr 2 1 0 0),(10,.ptr 3 1 0 0),(32,.bool false b1)],[(0,.vs [.sl 1 1 1 0 n_0 c_1]),(1,.fl l_2),(2,.vs [.ptr 0 1 0 0,.int .i64 v_3,.int .i64 v_4,.int .i64 v_5,.int .i64 v_6,.int .i64 v_7]),(3,.vs [.nptr,.int .i64 (0:Int),.int .i64 (0:Int),.int .i64 (0:Int),.int .i64 (0:Int),.int .i64 (0:Int)])],4⟩
def tW(v_3:Int)(v_4:Int)(i_8:Int)(j_9:Int)(rows_10:Int)(cols_11:Int) :T ((Bool)⊕(bg)) :=
  .need (ir (eP i_8 rows_10 v_3))<|.ask (!(jt (eP i_8 rows_10 v_3)))
    (.leaf (.inl true))
    (.need (ir (eP j_9 cols_11 v_4))<|.leaf (.inl (!(jt (eP j_9 cols_11 v_4)))))
def mB(n_0:Nat)(c_1:Nat)(l_2:List Nat)(v_5:Int)(v_6:Int)(v_7:Int)(i_8:Int)(j_9:Int)(rows_10:Int)(cols_11:Int)(b1:Bool) :T ((Empty)⊕(bg)) :=
  .ask b1
    (.leaf (.inr (.r0 n_0 c_1 l_2)))
    (.need (cK .i64 (i_8*v_6))<|.need (cK .i64 (v_5+(i_8*v_6)))<|.need (cK .i64 (j_9*v_7))<|.need (cK .i64 ((v_5+(i_8*v_6))+(j_9*v_7)))<|.leaf (.inr (.r1 n_0 c_1 l_2 rows_10 cols_11 ((v_5+(i_8*v_6))+(j_9*v_7)) v_6 v_7)))
noncomputable def ao(n_0:Nat)(c_1:Nat)(l_2:List Nat)(v_3:Int)(v_4:Int)(v_5:Int)(v_6:Int)(v_7:Int)(i_8:Int)(j_9:Int)(rows_10:Int)(cols_11:Int) :Option bg:=lG (aL ((tW v_3 v_4 i_8 j_9 rows_10 cols_11).run) fun b1 =>
  (mB n_0 c_1 l_2 v_5 v_6 v_7 i_8 j_9 rows_10 cols_11 b1).run)
theorem tX(n_0:Nat)(c_1:Nat)(l_2:List Nat)(v_3:Int)(v_4:Int)(v_5:Int)(v_6:Int)(v_7:Int)(i_8:Int)(j_9:Int)(rows_10:Int)(cols_11:Int){x:bg}(h:ao n_0 c_1 l_2 v_3 v_4 v_5 v_6 v_7 i_8 j_9 rows_10 cols_11=some x) :aB prog km [.vs [.sl 1 1 1 0 n_0 c_1],.fl l_2] [.agg [.ptr 0 1 0 0,.int .i64 v_3,.int .i64 v_4,.int .i64 v_5,.int .i64 v_6,.int .i64 v_7],.int .i64 i_8,.int .i64 j_9,.int .i64 rows_10,.int .i64 cols_11] (ky x) :=
  mo false ky vn h (Sg.cut 3 F2 (aV lM (F3 n_0 c_1 l_2 v_3 v_4 v_5 v_6 v_7 i_8 j_9 rows_10 cols_11) [⟨[],[0,1,2,18],[1,2,3,4,5,10,32]⟩,⟨[],[0,1,2,18],[1,2,3,4,5,10,32]⟩]) (fun b1=>aV lM lx [⟨[],[0,1,3],[10]⟩,⟨[],[0,1,3],[10]⟩]))
    (fun x=>by cases x with | r0 a2 a3 l4=>exact ly [.agg [.nptr,.int .i64 (0:Int),.int .i64 (0:Int),.int .i64 (0:Int),.int .i64 (0:Int),.int .i64 (0:Int)]] | r1 a5 a6 l7 i9 i10 i11 i12 i13=>exact ly [.agg [.ptr 0 1 0 0,.int .i64 i9,.int .i64 i10,.int .i64 i11,.int .i64 i12,.int .i64 i13]])
def gT:Option bg→Bool
  | some (.r0 _ _ _)=>true
  | _=>false
def qq:Option bg→Nat
  | some (.r0 x _ _)=>x
  | _=>0
def qr:Option bg→Nat
  | some (.r0 _ x _)=>x
  | _=>0
def qs:Option bg→List Nat
  | some (.r0 _ _ x)=>x
  | _=>[]
theorem F4{x:Option bg}(h:gT x=true) :x=some (.r0 (qq x) (qr x) (qs x)):=by
  unfold gT at h
  split at h<;>first | rfl | (cases h;done) | (rename_i y;cases y;rfl)
def gU:Option bg→Bool
  | some (.r1 _ _ _ _ _ _ _ _)=>true
  | _=>false
def bx:Option bg→Nat
  | some (.r1 x _ _ _ _ _ _ _)=>x
  | _=>0
def qt:Option bg→Nat
  | some (.r1 _ x _ _ _ _ _ _)=>x
  | _=>0
def bz:Option bg→List Nat
  | some (.r1 _ _ x _ _ _ _ _)=>x
  | _=>[]
def bN:Option bg→Int
  | some (.r1 _ _ _ x _ _ _ _)=>x
  | _=>0
def bO:Option bg→Int
  | some (.r1 _ _ _ _ x _ _ _)=>x
  | _=>0
def bP:Option bg→Int
  | some (.r1 _ _ _ _ _ x _ _)=>x
  | _=>0
def bQ:Option bg→Int
  | some (.r1 _ _ _ _ _ _ x _)=>x
  | _=>0
def bR:Option bg→Int
  | some (.r1 _ _ _ _ _ _ _ x)=>x
  | _=>0
theorem F5{x:Option bg}(h:gU x=true) :x=some (.r1 (bx x) (qt x) (bz x) (bN x) (bO x) (bP x) (bQ x) (bR x)):=by
  unfold gU at h
  split at h<;>first | rfl | (cases h;done) | (rename_i y;cases y;rfl)
noncomputable def vo:aK:=aaw km [.vs [.lsl0 1],.fl] (.cons (.agg (.cons (.lptr 0 1 0 0) (.cons (.int .i64) (.cons (.int .i64) (.cons (.int .i64) (.cons (.int .i64) (.cons (.int .i64) .nil))))))) (.cons (.int .i64) (.cons (.int .i64) (.cons (.int .i64) (.cons (.int .i64) .nil))))) fun x t=>(fun q=>[⟨ky (.r0 (qq q) (qr q) (qs q)),[gT q]⟩,⟨ky (.r1 (bx q) (qt q) (bz q) (bN q) (bO q) (bP q) (bQ q) (bR q)),[gU q]⟩]) (ao x.1.1.1 x.1.1.2 x.2.1 t.1.2.1 t.1.2.2.1 t.1.2.2.2.1 t.1.2.2.2.2.1 t.1.2.2.2.2.2.1 t.2.1 t.2.2.1 t.2.2.2.1 t.2.2.2.2.1)
theorem Dl:aY prog vo:=M3 fun x t=>(Ah (fun h=>tX x.1.1.1 x.1.1.2 x.2.1 t.1.2.1 t.1.2.2.1 t.1.2.2.2.1 t.1.2.2.2.2.1 t.1.2.2.2.2.2.1 t.2.1 t.2.2.1 t.2.2.2.1 t.2.2.2.2.1 (F4 h)) (Ah (fun h=>tX x.1.1.1 x.1.1.2 x.2.1 t.1.2.1 t.1.2.2.1 t.1.2.2.2.1 t.1.2.2.2.2.1 t.1.2.2.2.2.2.1 t.2.1 t.2.2.1 t.2.2.2.1 t.2.2.2.2.1 (F5 h)) M4))
noncomputable def vq:List aK:=vo::yf
theorem lm:aW prog (aT vq):=aF Dl lM
inductive cT where
  | r0 (b2:Bool)
def sk:cT→AE×aM
  | .r0 b2=>(.ret,⟨aq 26 [(2,.bool false b2)],[],0⟩)
theorem Dm:ld sk:=by intro x;cases x<;>(intro h;cases h)
def lN:cT→ib
  | .r0 b2=>⟨.bool false b2,[]⟩
def Dn(b1:Bool) :aM:=⟨aq 26 [(2,.bool false b1)],[],0⟩
def qu(v_3:Int)(v_4:Int) :T ((Bool)⊕(cT)) :=
  .ask (v_3==(1:Int))
    (.leaf (.inl true))
    (.ask (v_4==(1:Int))
      (.leaf (.inl true))
      (.ask (v_3==(0:Int))
        (.leaf (.inl (v_4==(0:Int))))
        (.leaf (.inl false))))
def Do(b1:Bool) :T ((Empty)⊕(cT)) :=
  .leaf (.inr (.r0 b1))
noncomputable def df(v_3:Int)(v_4:Int) :Option cT:=lG (aL ((qu v_3 v_4).run) fun b1 =>
  (Do b1).run)
theorem Dp(v_0:Lv)(v_1:Lv)(v_2:List Nat)(v_3:Int)(v_4:Int)(v_5:Int)(v_6:Int)(v_7:Int){x:cT}(h:df v_3 v_4=some x) :aB prog kM [] [.agg [.iptr v_0 (.vs [.imm v_1 (.fl v_2) 1 1 0 (List.length v_2)]) 1 0 0,.int .i64 v_3,.int .i64 v_4,.int .i64 v_5,.int .i64 v_6,.int .i64 v_7]] (lN x) :=
  mo false lN sk h (Sg.cut 2 Dm (aV lm Dn [⟨[],[],[2]⟩,⟨[],[],[2]⟩,⟨[],[],[2]⟩,⟨[],[],[2]⟩]) (fun b1=>aV lm lx [⟨[],[],[2]⟩]))
    (fun x=>by cases x with | r0 b2=>exact ly [.bool false b2])
def fG:Option cT→Bool
  | some _=>true
  | none=>false
def gV:Option cT→Bool
  | some (.r0 x)=>x
  | _=>false
theorem Dq{x:Option cT}(h:fG x=true) :x=some (.r0 (gV x)):=by
  unfold fG at h
  split at h<;>first | rfl | (cases h;done) | (rename_i y;cases y;rfl)
noncomputable def sn:aK:=cy kM (.cons (.agg (.cons (.ivs (.cons .fl .nil) 1 0 0) (.cons (.int .i64) (.cons (.int .i64) (.cons (.int .i64) (.cons (.int .i64) (.cons (.int .i64) .nil))))))) .nil) fun t=>(fun q=>[⟨lN (.r0 (gV q)),[fG q]⟩]) (df t.1.2.1 t.1.2.2.1)
theorem AY:aY prog sn:=ba fun t=>(aZ (fun h=>Dp t.1.1.1 t.1.1.2.1.1 t.1.1.2.1.2 t.1.2.1 t.1.2.2.1 t.1.2.2.2.1 t.1.2.2.2.2.1 t.1.2.2.2.2.2.1 (Dq h)) bj)
noncomputable def so:List aK:=sn::vq
theorem ku:aW prog (aT so):=aF AY lm
inductive cU where
  | r0 (b2:Bool)
def sq:cU→AE×aM
  | .r0 b2=>(.ret,⟨aq 25 [(6,.bool false b2)],[],0⟩)
theorem Dr:ld sq:=by intro x;cases x<;>(intro h;cases h)
def lO:cU→ib
  | .r0 b2=>⟨.bool false b2,[]⟩
def Ds(b1:Bool) :aM:=⟨aq 25 [(6,.bool false b1)],[],0⟩
def qv(v_3:Int)(v_4:Int)(i_8:Int)(j_9:Int) :T ((Bool)⊕(cU)) :=
  .ask (decide (i_8≥(0:Int)))
    (.ask (decide (i_8<v_3))
      (.ask (decide (j_9≥(0:Int)))
        (.leaf (.inl (decide (j_9<v_4))))
        (.leaf (.inl false)))
      (.leaf (.inl false)))
    (.leaf (.inl false))
def Dt(b1:Bool) :T ((Empty)⊕(cU)) :=
  .leaf (.inr (.r0 b1))
noncomputable def cH(v_3:Int)(v_4:Int)(i_8:Int)(j_9:Int) :Option cU:=lG (aL ((qv v_3 v_4 i_8 j_9).run) fun b1 =>
  (Dt b1).run)
theorem Du(v_0:Lv)(v_1:Lv)(v_2:List Nat)(v_3:Int)(v_4:Int)(v_5:Int)(v_6:Int)(v_7:Int)(i_8:Int)(j_9:Int){x:cU}(h:cH v_3 v_4 i_8 j_9=some x) :aB prog kN [] [.agg [.iptr v_0 (.vs [.imm v_1 (.fl v_2) 1 1 0 (List.length v_2)]) 1 0 0,.int .i64 v_3,.int .i64 v_4,.int .i64 v_5,.int .i64 v_6,.int .i64 v_7],.int .i64 i_8,.int .i64 j_9] (lO x) :=
  mo false lO sq h (Sg.cut 2 Dr (aV ku Ds [⟨[],[],[6]⟩,⟨[],[],[6]⟩,⟨[],[],[6]⟩,⟨[],[],[6]⟩]) (fun b1=>aV ku lx [⟨[],[],[6]⟩]))
    (fun x=>by cases x with | r0 b2=>exact ly [.bool false b2])
def fH:Option cU→Bool
  | some _=>true
  | none=>false
def gW:Option cU→Bool
  | some (.r0 x)=>x
  | _=>false
theorem Dv{x:Option cU}(h:fH x=true) :x=some (.r0 (gW x)):=by
  unfold fH at h
  split at h<;>first | rfl | (cases h;done) | (rename_i y;cases y;rfl)
noncomputable def sv:aK:=cy kN (.cons (.agg (.cons (.ivs (.cons .fl .nil) 1 0 0) (.cons (.int .i64) (.cons (.int .i64) (.cons (.int .i64) (.cons (.int .i64) (.cons (.int .i64) .nil))))))) (.cons (.int .i64) (.cons (.int .i64) .nil))) fun t=>(fun q=>[⟨lO (.r0 (gW q)),[fH q]⟩]) (cH t.1.2.1 t.1.2.2.1 t.2.1 t.2.2.1)
theorem AZ:aY prog sv:=ba fun t=>(aZ (fun h=>Du t.1.1.1 t.1.1.2.1.1 t.1.1.2.1.2 t.1.2.1 t.1.2.2.1 t.1.2.2.2.1 t.1.2.2.2.2.1 t.1.2.2.2.2.2.1 t.2.1 t.2.2.1 (Dv h)) bj)
noncomputable def sw:List aK:=sv::so
theorem eQ:aW prog (aT sw):=aF AZ ku
inductive cm where
  | r0 (a14:Nat) (a15:Nat) (l16:List Nat)
def lz:cm→AE×aM
  | .r0 a14 a15 l16=>(.ret,⟨aq 21 [(2,.sl 0 1 1 0 a14 a15)],[(0,.fl l16)],1⟩)
theorem kS:ld lz:=by intro x;cases x<;>(intro h;cases h)
theorem Iz(id:Nat) :ko id lz:=by intro x;cases x<;>(intro h;cases h)
def qa:cm→ib
  | .r0 a14 a15 l16=>⟨.sl 0 1 1 0 a14 a15,[some (.fl l16)]⟩
noncomputable def Hn:List Code:=cg (kB ka)
def IA(v_0:Lv)(v_1:Lv)(v_2:List Nat)(v_3:Int)(v_4:Int)(v_5:Int)(v_6:Int)(v_7:Int)(i1:Int) :aM:=⟨aq 21 [(3,.fn (.func jn) [.agg [.iptr v_0 (.vs [.imm v_1 (.fl v_2) 1 1 0 (List.length v_2)]) 1 0 0,.int .i64 v_3,.int .i64 v_4,.int .i64 v_5,.int .i64 v_6,.int .i64 v_7]] []),(4,.nsl),(9,.int .i64 i1),(10,.int .i64 (0:Int))],[],0⟩
def nK(v_2:List Nat)(v_3:Int)(v_4:Int) :T ((Int)⊕(cm)) :=
  .need (bL 0 (List.length v_2) v_2)<|.need (fG (df v_3 v_4))<|.ask (!(gV (df v_3 v_4)))
    (.leaf (.inl (0:Int)))
    (.need (cK .i64 (v_3*v_4))<|.leaf (.inl (v_3*v_4)))
def kT(v_0:Lv)(v_1:Lv)(v_2:List Nat)(v_3:Int)(v_4:Int)(v_5:Int)(v_6:Int)(v_7:Int)(i1:Int) :Nat×Nat×Nat×(List Nat)→aM:=fun (l5,l6,a7,l8)=>⟨aq 21 [(3,.fn (.func jn) [.agg [.iptr v_0 (.vs [.imm v_1 (.fl v_2) 1 1 0 (List.length v_2)]) 1 0 0,.int .i64 v_3,.int .i64 v_4,.int .i64 v_5,.int .i64 v_6,.int .i64 v_7]] []),(4,.sl 0 1 1 0 l5 l6),(9,.int .i64 i1),(10,.int .i64 ((a7:Nat):Int))],[(0,.fl l8)],1⟩
def yg:Nat×Nat×(List Nat)→aM:=fun (l11,l12,l13)=>⟨aq 21 [(4,.sl 0 1 1 0 l11 l12)],[(0,.fl l13)],1⟩
noncomputable def Ho:List Code:=cg (cw ((((Hn.drop 4).take 1)).headD .skip))
def IB(v_0:Lv)(v_1:Lv)(v_2:List Nat)(v_3:Int)(v_4:Int)(v_5:Int)(v_6:Int)(v_7:Int)(i1:Int)(a7:Nat) :Nat×(List Nat)→aM:=fun (l9,l10)=>⟨aq 21 [(3,.fn (.func jn) [.agg [.iptr v_0 (.vs [.imm v_1 (.fl v_2) 1 1 0 (List.length v_2)]) 1 0 0,.int .i64 v_3,.int .i64 v_4,.int .i64 v_5,.int .i64 v_6,.int .i64 v_7]] []),(4,.sl 0 1 1 0 l9 l9),(9,.int .i64 i1),(10,.int .i64 ((a7:Nat):Int))],[(0,.fl l10)],1⟩
def iu(v_2:List Nat)(v_3:Int)(v_4:Int)(v_5:Int)(v_6:Int)(v_7:Int)(i1:Int)(l5:Nat)(l6:Nat)(a7:Nat)(l8:List Nat) :T ((Nat×(List Nat))⊕((Nat×Nat×(List Nat))⊕(cm))) :=
  .ask (decide (((a7:Nat):Int)<i1))
    (.need (bL 0 (List.length v_2) v_2)<|.need (fG (df v_3 v_4))<|.ask (!(gV (df v_3 v_4)))
      (.need (dK ((l5+1)*8) 140737488355328)<|.need (dK (l5+1) 9223372036854775807)<|.need (dK 1 (List.length [0]))<|.need (dK l5 (List.length l8))<|.leaf (.inl ((l5+1),((List.take l5 l8)++(List.take 1 [0])))))
      (.ask (v_3==(1:Int))
        (.need (bL 0 (List.length v_2) v_2)<|.need (fH (cH v_3 v_4 (0:Int) ((a7:Nat):Int)))<|.ask (!(gW (cH v_3 v_4 (0:Int) ((a7:Nat):Int))))
          (.need (dK ((l5+1)*8) 140737488355328)<|.need (dK (l5+1) 9223372036854775807)<|.need (dK 1 (List.length [0]))<|.need (dK l5 (List.length l8))<|.leaf (.inl ((l5+1),((List.take l5 l8)++(List.take 1 [0])))))
          (.need (cK .i64 ((0:Int)*v_6))<|.need (cK .i64 (v_5+((0:Int)*v_6)))<|.need (cK .i64 (((a7:Nat):Int)*v_7))<|.need (cK .i64 ((v_5+((0:Int)*v_6))+(((a7:Nat):Int)*v_7)))<|.need (fi ((v_5+((0:Int)*v_6))+(((a7:Nat):Int)*v_7)) (List.length v_2))<|.need (eS (Int.toNat ((v_5+((0:Int)*v_6))+(((a7:Nat):Int)*v_7))) (List.length v_2))<|.need (dK ((l5+1)*8) 140737488355328)<|.need (dK (l5+1) 9223372036854775807)<|.need (dK 1 (List.length [(List.getD v_2 (Int.toNat ((v_5+((0:Int)*v_6))+(((a7:Nat):Int)*v_7))) 0)]))<|.need (dK l5 (List.length l8))<|.leaf (.inl ((l5+1),((List.take l5 l8)++(List.take 1 [(List.getD v_2 (Int.toNat ((v_5+((0:Int)*v_6))+(((a7:Nat):Int)*v_7))) 0)]))))))
        (.need (bL 0 (List.length v_2) v_2)<|.need (fH (cH v_3 v_4 ((a7:Nat):Int) (0:Int)))<|.ask (!(gW (cH v_3 v_4 ((a7:Nat):Int) (0:Int))))
          (.need (dK ((l5+1)*8) 140737488355328)<|.need (dK (l5+1) 9223372036854775807)<|.need (dK 1 (List.length [0]))<|.need (dK l5 (List.length l8))<|.leaf (.inl ((l5+1),((List.take l5 l8)++(List.take 1 [0])))))
          (.need (cK .i64 (((a7:Nat):Int)*v_6))<|.need (cK .i64 (v_5+(((a7:Nat):Int)*v_6)))<|.need (cK .i64 ((0:Int)*v_7))<|.need (cK .i64 ((v_5+(((a7:Nat):Int)*v_6))+((0:Int)*v_7)))<|.need (fi ((v_5+(((a7:Nat):Int)*v_6))+((0:Int)*v_7)) (List.length v_2))<|.need (eS (Int.toNat ((v_5+(((a7:Nat):Int)*v_6))+((0:Int)*v_7))) (List.length v_2))<|.need (dK ((l5+1)*8) 140737488355328)<|.need (dK (l5+1) 9223372036854775807)<|.need (dK 1 (List.length [(List.getD v_2 (Int.toNat ((v_5+(((a7:Nat):Int)*v_6))+((0:Int)*v_7))) 0)]))<|.need (dK l5 (List.length l8))<|.leaf (.inl ((l5+1),((List.take l5 l8)++(List.take 1 [(List.getD v_2 (Int.toNat ((v_5+(((a7:Nat):Int)*v_6))+((0:Int)*v_7))) 0)]))))))))
    (.leaf (.inr (.inl (l5,l6,l8))))
def Hp(a7:Nat)(l9:Nat)(l10:List Nat) :T ((Nat×Nat×Nat×(List Nat))⊕((Nat×Nat×(List Nat))⊕(cm))) :=
  .need (cK .i64 (((a7+1):Nat):Int))<|.leaf (.inl (l9,l9,(a7+1),l10))
noncomputable def nL(v_2:List Nat)(v_3:Int)(v_4:Int)(v_5:Int)(v_6:Int)(v_7:Int)(i1:Int) :Nat×Nat×Nat×(List Nat)→Option ((Nat×Nat×Nat×(List Nat))⊕((Nat×Nat×(List Nat))⊕(cm))):=fun (l5,l6,a7,l8) =>
  aL ((iu v_2 v_3 v_4 v_5 v_6 v_7 i1 l5 l6 a7 l8).run) fun (l9,l10) =>
  (Hp a7 l9 l10).run
theorem Hq(v_0:Lv)(v_1:Lv)(v_2:List Nat)(v_3:Int)(v_4:Int)(v_5:Int)(v_6:Int)(v_7:Int)(i1:Int)(l5:Nat)(l6:Nat)(a7:Nat)(l8:List Nat) :Sg prog [] Ho (kT v_0 v_1 v_2 v_3 v_4 v_5 v_6 v_7 i1 (l5,l6,a7,l8)) (nL v_2 v_3 v_4 v_5 v_6 v_7 i1 (l5,l6,a7,l8)) (kT v_0 v_1 v_2 v_3 v_4 v_5 v_6 v_7 i1) (bS 0 yg lz):=by
  unfold nL;exact Sg.cut 3 (aD kS) (aV eQ (IB v_0 v_1 v_2 v_3 v_4 v_5 v_6 v_7 i1 a7) [⟨[],[129],[3,4,9,10]⟩,⟨[],[129],[3,4,9,10]⟩,⟨[],[129],[3,4,9,10]⟩,⟨[],[129],[3,4,9,10]⟩,⟨[],[129],[3,4,9,10]⟩,⟨[],[0],[4]⟩]) (fun ⟨l9,l10⟩=>aV eQ (kT v_0 v_1 v_2 v_3 v_4 v_5 v_6 v_7 i1) [⟨[],[0],[3,4,9,10]⟩])
def Hr(l11:Nat)(l12:Nat)(l13:List Nat) :T ((Empty)⊕(cm)) :=
  .leaf (.inr (.r0 l11 l12 l13))
noncomputable def cn(v_2:List Nat)(v_3:Int)(v_4:Int)(v_5:Int)(v_6:Int)(v_7:Int) :Option cm:=lG (aL ((nK v_2 v_3 v_4).run) fun i1 =>
  aL (ch (nL v_2 v_3 v_4 v_5 v_6 v_7 i1) (0,0,0,([]:List Nat))) fun (l11,l12,l13) =>
  (Hr l11 l12 l13).run)
theorem IC(v_0:Lv)(v_1:Lv)(v_2:List Nat)(v_3:Int)(v_4:Int)(v_5:Int)(v_6:Int)(v_7:Int){x:cm}(h:cn v_2 v_3 v_4 v_5 v_6 v_7=some x) :aB prog ka [] [.agg [.iptr v_0 (.vs [.imm v_1 (.fl v_2) 1 1 0 (List.length v_2)]) 1 0 0,.int .i64 v_3,.int .i64 v_4,.int .i64 v_5,.int .i64 v_6,.int .i64 v_7]] (qa x) :=
  mo false qa lz h (Sg.cut 4 kS (aV eQ (IA v_0 v_1 v_2 v_3 v_4 v_5 v_6 v_7) [⟨[],[],[3,4,9,10]⟩,⟨[],[],[3,4,9,10]⟩]) (fun i1=>Sg.cut 1 kS (vg ⟨[(.slot 4,.own 1 1 (.fl ([]:List Nat)))],[0],[3,4,9,10]⟩ (kT v_0 v_1 v_2 v_3 v_4 v_5 v_6 v_7 i1) (yg) 0 kS (Iz _) (fun ⟨l5,l6,a7,l8⟩=>Hq v_0 v_1 v_2 v_3 v_4 v_5 v_6 v_7 i1 l5 l6 a7 l8)) (fun ⟨l11,l12,l13⟩=>aV eQ lx [⟨[],[0],[2]⟩])))
    (fun x=>by cases x with | r0 a14 a15 l16=>exact ly [.sl 0 1 1 0 a14 a15])
def jj:Option cm→Bool
  | some _=>true
  | none=>false
def jQ:Option cm→Nat
  | some (.r0 x _ _)=>x
  | _=>0
def jR:Option cm→Nat
  | some (.r0 _ x _)=>x
  | _=>0
def jS:Option cm→List Nat
  | some (.r0 _ _ x)=>x
  | _=>[]
theorem ID{x:Option cm}(h:jj x=true) :x=some (.r0 (jQ x) (jR x) (jS x)):=by
  unfold jj at h
  split at h<;>first | rfl | (cases h;done) | (rename_i y;cases y;rfl)
noncomputable def zt:aK:=cy ka (.cons (.agg (.cons (.ivs (.cons .fl .nil) 1 0 0) (.cons (.int .i64) (.cons (.int .i64) (.cons (.int .i64) (.cons (.int .i64) (.cons (.int .i64) .nil))))))) .nil) fun t=>(fun q=>[⟨qa (.r0 (jQ q) (jR q) (jS q)),[jj q]⟩]) (cn t.1.1.2.1.2 t.1.2.1 t.1.2.2.1 t.1.2.2.2.1 t.1.2.2.2.2.1 t.1.2.2.2.2.2.1)
theorem F6:aY prog zt:=ba fun t=>(aZ (fun h=>IC t.1.1.1 t.1.1.2.1.1 t.1.1.2.1.2 t.1.2.1 t.1.2.2.1 t.1.2.2.2.1 t.1.2.2.2.2.1 t.1.2.2.2.2.2.1 (ID h)) bj)
noncomputable def zu:List aK:=zt::sw
theorem ff:aW prog (aT zu):=aF F6 eQ
inductive bE where
  | r0 (a11:Nat) (a12:Nat) (l13:List Nat)
def sx:bE→AE×aM
  | .r0 a11 a12 l13=>(.ret,⟨aq 27 [(4,.sl 0 1 1 0 a11 a12)],[(0,.fl l13)],1⟩)
theorem ln:ld sx:=by intro x;cases x<;>(intro h;cases h)
def lP:bE→ib
  | .r0 a11 a12 l13=>⟨.sl 0 1 1 0 a11 a12,[some (.fl l13)]⟩
def Dw(v_0:Lv)(w_1:Int)(w_2:Int)(v_3:Lv)(w_4:List Nat)(k_5:Int)(_:Unit) :aM:=⟨aq 27 [(0,.iptr v_0 (.vs [.int .i64 w_1,.int .i64 w_2,.imm v_3 (.fl w_4) 1 1 0 (List.length w_4)]) 1 0 0),(1,.int .i64 k_5),(5,.ptr 0 1 0 0)],[(0,.vs [.nptr,.int .i64 (0:Int),.int .i64 (0:Int),.int .i64 (0:Int),.int .i64 (0:Int),.int .i64 (0:Int)])],1⟩
def Dx(v_0:Lv)(w_1:Int)(w_2:Int)(v_3:Lv)(w_4:List Nat)(k_5:Int) :Int×Int×Nat×(List Nat)→aM:=fun (i1,i2,a3,l4)=>⟨aq 27 [(0,.iptr v_0 (.vs [.int .i64 w_1,.int .i64 w_2,.imm v_3 (.fl w_4) 1 1 0 (List.length w_4)]) 1 0 0),(1,.int .i64 k_5),(5,.ptr 0 1 0 0)],[(0,.vs [.ptr 1 1 0 0,.int .i64 i1,.int .i64 i2,.int .i64 (0:Int),.int .i64 i2,.int .i64 (1:Int)]),(1,.vs [.sl 2 1 1 0 a3 a3]),(2,.fl l4)],3⟩
def qw(w_1:Int)(w_2:Int)(w_4:List Nat) :T (((Unit)⊕((Int×Int×Nat×(List Nat))))⊕(bE)) :=
  .alt 0
    (.need (bL 0 (List.length w_4) w_4)<|.need (vW (gi w_1 w_2 (an 0 (List.length w_4) w_4)))<|.leaf (.inl (.inl ())))
    (.alt 1
      (.need (bL 0 (List.length w_4) w_4)<|.need (vX (gi w_1 w_2 (an 0 (List.length w_4) w_4)))<|.leaf (.inl (.inr ((zT (gi w_1 w_2 (an 0 (List.length w_4) w_4))),(zU (gi w_1 w_2 (an 0 (List.length w_4) w_4))),(zV (gi w_1 w_2 (an 0 (List.length w_4) w_4))),(zW (gi w_1 w_2 (an 0 (List.length w_4) w_4)))))))
      (.fail))
def Dy:Nat×Nat×(List Nat)→aM:=fun (a5,a6,l7)=>⟨aq 27 [(4,.sl 0 1 1 0 a5 a6)],[(0,.fl l7)],1⟩
def Dz(w_1:Int)(k_5:Int) :T ((Nat×Nat×(List Nat))⊕(bE)) :=
  .need (cK .i64 (w_1-k_5))<|.need (jE (mA))<|.need (gS (cd (0:Int) (0:Int)))<|.leaf (.inl ((hX (cd (0:Int) (0:Int))),(hY (cd (0:Int) (0:Int))),(ia (cd (0:Int) (0:Int)))))
def DA(a5:Nat)(a6:Nat)(l7:List Nat) :T ((Empty)⊕(bE)) :=
  .leaf (.inr (.r0 a5 a6 l7))
def DB:Nat×Nat×(List Nat)→aM:=fun (a8,a9,l10)=>⟨aq 27 [(4,.sl 0 1 1 0 a8 a9)],[(0,.fl l10)],1⟩
def kD(w_1:Int)(k_5:Int)(i1:Int)(i2:Int)(a3:Nat)(l4:List Nat) :T ((Nat×Nat×(List Nat))⊕(bE)) :=
  .need (cK .i64 (w_1-k_5))<|.alt 0
    (.need (gT (ao a3 a3 l4 i1 i2 (0:Int) i2 (1:Int) k_5 k_5 (w_1-k_5) (1:Int)))<|.need (gS (cd (0:Int) (0:Int)))<|.leaf (.inl ((hX (cd (0:Int) (0:Int))),(hY (cd (0:Int) (0:Int))),(ia (cd (0:Int) (0:Int))))))
    (.alt 1
      (.need (gU (ao a3 a3 l4 i1 i2 (0:Int) i2 (1:Int) k_5 k_5 (w_1-k_5) (1:Int)))<|.need (bL 0 (bx (ao a3 a3 l4 i1 i2 (0:Int) i2 (1:Int) k_5 k_5 (w_1-k_5) (1:Int))) (bz (ao a3 a3 l4 i1 i2 (0:Int) i2 (1:Int) k_5 k_5 (w_1-k_5) (1:Int))))<|.need (jj (cn (an 0 (bx (ao a3 a3 l4 i1 i2 (0:Int) i2 (1:Int) k_5 k_5 (w_1-k_5) (1:Int))) (bz (ao a3 a3 l4 i1 i2 (0:Int) i2 (1:Int) k_5 k_5 (w_1-k_5) (1:Int)))) (bN (ao a3 a3 l4 i1 i2 (0:Int) i2 (1:Int) k_5 k_5 (w_1-k_5) (1:Int))) (bO (ao a3 a3 l4 i1 i2 (0:Int) i2 (1:Int) k_5 k_5 (w_1-k_5) (1:Int))) (bP (ao a3 a3 l4 i1 i2 (0:Int) i2 (1:Int) k_5 k_5 (w_1-k_5) (1:Int))) (bQ (ao a3 a3 l4 i1 i2 (0:Int) i2 (1:Int) k_5 k_5 (w_1-k_5) (1:Int))) (bR (ao a3 a3 l4 i1 i2 (0:Int) i2 (1:Int) k_5 k_5 (w_1-k_5) (1:Int)))))<|.leaf (.inl ((jQ (cn (an 0 (bx (ao a3 a3 l4 i1 i2 (0:Int) i2 (1:Int) k_5 k_5 (w_1-k_5) (1:Int))) (bz (ao a3 a3 l4 i1 i2 (0:Int) i2 (1:Int) k_5 k_5 (w_1-k_5) (1:Int)))) (bN (ao a3 a3 l4 i1 i2 (0:Int) i2 (1:Int) k_5 k_5 (w_1-k_5) (1:Int))) (bO (ao a3 a3 l4 i1 i2 (0:Int) i2 (1:Int) k_5 k_5 (w_1-k_5) (1:Int))) (bP (ao a3 a3 l4 i1 i2 (0:Int) i2 (1:Int) k_5 k_5 (w_1-k_5) (1:Int))) (bQ (ao a3 a3 l4 i1 i2 (0:Int) i2 (1:Int) k_5 k_5 (w_1-k_5) (1:Int))) (bR (ao a3 a3 l4 i1 i2 (0:Int) i2 (1:Int) k_5 k_5 (w_1-k_5) (1:Int))))),(jR (cn (an 0 (bx (ao a3 a3 l4 i1 i2 (0:Int) i2 (1:Int) k_5 k_5 (w_1-k_5) (1:Int))) (bz (ao a3 a3 l4 i1 i2 (0:Int) i2 (1:Int) k_5 k_5 (w_1-k_5) (1:Int)))) (bN (ao a3 a3 l4 i1 i2 (0:Int) i2 (1:Int) k_5 k_5 (w_1-k_5) (1:Int))) (bO (ao a3 a3 l4 i1 i2 (0:Int) i2 (1:Int) k_5 k_5 (w_1-k_5) (1:Int))) (bP (ao a3 a3 l4 i1 i2 (0:Int) i2 (1:Int) k_5 k_5 (w_1-k_5) (1:Int))) (bQ (ao a3 a3 l4 i1 i2 (0:Int) i2 (1:Int) k_5 k_5 (w_1-k_5) (1:Int))) (bR (ao a3 a3 l4 i1 i2 (0:Int) i2 (1:Int) k_5 k_5 (w_1-k_5) (1:Int))))),(jS (cn (an 0 (bx (ao a3 a3 l4 i1 i2 (0:Int) i2 (1:Int) k_5 k_5 (w_1-k_5) (1:Int))) (bz (ao a3 a3 l4 i1 i2 (0:Int) i2 (1:Int) k_5 k_5 (w_1-k_5) (1:Int)))) (bN (ao a3 a3 l4 i1 i2 (0:Int) i2 (1:Int) k_5 k_5 (w_1-k_5) (1:Int))) (bO (ao a3 a3 l4 i1 i2 (0:Int) i2 (1:Int) k_5 k_5 (w_1-k_5) (1:Int))) (bP (ao a3 a3 l4 i1 i2 (0:Int) i2 (1:Int) k_5 k_5 (w_1-k_5) (1:Int))) (bQ (ao a3 a3 l4 i1 i2 (0:Int) i2 (1:Int) k_5 k_5 (w_1-k_5) (1:Int))) (bR (ao a3 a3 l4 i1 i2 (0:Int) i2 (1:Int) k_5 k_5 (w_1-k_5) (1:Int))))))))
      (.fail))
def BG(a8:Nat)(a9:Nat)(l10:List Nat) :T ((Empty)⊕(bE)) :=
  .leaf (.inr (.r0 a8 a9 l10))
noncomputable def bt(w_1:Int)(w_2:Int)(w_4:List Nat)(k_5:Int) :Option bE:=lG (aL ((qw w_1 w_2 w_4).run) (Sum.elim (fun _ =>
  aL ((Dz w_1 k_5).run) fun (a5,a6,l7) =>
  (DA a5 a6 l7).run) (fun (i1,i2,a3,l4) =>
  aL ((kD w_1 k_5 i1 i2 a3 l4).run) fun (a8,a9,l10) =>
  (BG a8 a9 l10).run)))
theorem DC(v_0:Lv)(w_1:Int)(w_2:Int)(v_3:Lv)(w_4:List Nat)(k_5:Int){x:bE}(h:bt w_1 w_2 w_4 k_5=some x) :aB prog si [] [.iptr v_0 (.vs [.int .i64 w_1,.int .i64 w_2,.imm v_3 (.fl w_4) 1 1 0 (List.length w_4)]) 1 0 0,.int .i64 k_5] (lP x) :=
  mo false lP sx h (Sg.cut 2 ln (aV ff (Sum.elim (Dw v_0 w_1 w_2 v_3 w_4 k_5) (Dx v_0 w_1 w_2 v_3 w_4 k_5)) [⟨[],[144],[0,1,5]⟩,⟨[],[144,80,81],[0,1,5]⟩]) (sga (fun _=>Sg.cut 1 ln (aV ff Dy [⟨[],[177],[4]⟩]) (fun ⟨a5,a6,l7⟩=>aV ff lx [⟨[],[0],[4]⟩])) (fun ⟨i1,i2,a3,l4⟩=>Sg.cut 1 ln (aV ff DB [⟨[],[179],[4]⟩,⟨[],[179],[4]⟩]) (fun ⟨a8,a9,l10⟩=>aV ff lx [⟨[],[0],[4]⟩]))))
    (fun x=>by cases x with | r0 a11 a12 l13=>exact ly [.sl 0 1 1 0 a11 a12])
def iU:Option bE→Bool
  | some _=>true
  | none=>false
def cA:Option bE→Nat
  | some (.r0 x _ _)=>x
  | _=>0
def oW:Option bE→Nat
  | some (.r0 _ x _)=>x
  | _=>0
def cB:Option bE→List Nat
  | some (.r0 _ _ x)=>x
  | _=>[]
theorem DD{x:Option bE}(h:iU x=true) :x=some (.r0 (cA x) (oW x) (cB x)):=by
  unfold iU at h
  split at h<;>first | rfl | (cases h;done) | (rename_i y;cases y;rfl)
noncomputable def sy:aK:=cy si (.cons (.ivs (.cons (.int .i64) (.cons (.int .i64) (.cons .fl .nil))) 1 0 0) (.cons (.int .i64) .nil)) fun t=>(fun q=>[⟨lP (.r0 (cA q) (oW q) (cB q)),[iU q]⟩]) (bt t.1.2.1 t.1.2.2.1 t.1.2.2.2.1.2 t.2.1)
theorem A0:aY prog sy:=ba fun t=>(aZ (fun h=>DC t.1.1 t.1.2.1 t.1.2.2.1 t.1.2.2.2.1.1 t.1.2.2.2.1.2 t.2.1 (DD h)) bj)
noncomputable def sz:List aK:=sy::zu
theorem eR:aW prog (aT sz):=aF A0 ff
inductive fR where
  | r0 (a10:Nat)
def zY:fR→AE×aM
  | .r0 a10=>(.ret,⟨aq 48 [(2,.flt false a10)],[],0⟩)
theorem xh:ld zY:=by intro x;cases x<;>(intro h;cases h)
theorem ZD(id:Nat) :ko id zY:=by intro x;cases x<;>(intro h;cases h)
def F7:fR→ib
  | .r0 a10=>⟨.flt false a10,[]⟩
noncomputable def ZE:List Code:=cg (kB Fb)
def ZF(v_0:Lv)(l_1:List Nat)(_:Unit) :aM:=⟨aq 48 [(3,.flt false 0),(4,.flt false 4607182418800017408),(11,.imm v_0 (.fl l_1) 1 1 0 (List.length l_1)),(12,.int .i64 (((List.length l_1):Nat):Int)),(13,.int .i64 (0:Int))],[],0⟩
def ZG:T ((Unit)⊕(fR)) :=
  .leaf (.inl ())
def xi(v_0:Lv)(l_1:List Nat) :Nat×Nat×Nat→aM:=fun (scale3,sum4,a5)=>⟨aq 48 [(3,.flt false scale3),(4,.flt false sum4),(11,.imm v_0 (.fl l_1) 1 1 0 (List.length l_1)),(12,.int .i64 (((List.length l_1):Nat):Int)),(13,.int .i64 ((a5:Nat):Int))],[],0⟩
def KP:Nat×Nat→aM:=fun (scale8,sum9)=>⟨aq 48 [(3,.flt false scale8),(4,.flt false sum9)],[],0⟩
noncomputable def WP:List Code:=cg (cw ((((ZE.drop 3).take 1)).headD .skip))
def ZH(v_0:Lv)(l_1:List Nat)(a5:Nat) :Nat×Nat→aM:=fun (scale6,sum7)=>⟨aq 48 [(3,.flt false scale6),(4,.flt false sum7),(11,.imm v_0 (.fl l_1) 1 1 0 (List.length l_1)),(12,.int .i64 (((List.length l_1):Nat):Int)),(13,.int .i64 ((a5:Nat):Int))],[],0⟩
def IE(l_1:List Nat)(scale3:Nat)(sum4:Nat)(a5:Nat) :T ((Nat×Nat)⊕((Nat×Nat)⊕(fR))) :=
  .ask (decide (((a5:Nat):Int)<(((List.length l_1):Nat):Int)))
    (.need (fi ((a5:Nat):Int) (List.length l_1))<|.need (eS a5 (List.length l_1))<|.ask (yp (List.getD l_1 a5 0) 0)
      (.leaf (.inl (scale3,sum4)))
      (.ask (flt scale3 (co (List.getD l_1 a5 0)))
        (.leaf (.inl ((co (List.getD l_1 a5 0)),(Aq 4607182418800017408 (eY (eY sum4 (fdiv scale3 (co (List.getD l_1 a5 0)))) (fdiv scale3 (co (List.getD l_1 a5 0))))))))
        (.leaf (.inl (scale3,(Aq sum4 (eY (fdiv (co (List.getD l_1 a5 0)) scale3) (fdiv (co (List.getD l_1 a5 0)) scale3))))))))
    (.leaf (.inr (.inl (scale3,sum4))))
def WQ(a5:Nat)(scale6:Nat)(sum7:Nat) :T ((Nat×Nat×Nat)⊕((Nat×Nat)⊕(fR))) :=
  .need (cK .i64 (((a5+1):Nat):Int))<|.leaf (.inl (scale6,sum7,(a5+1)))
noncomputable def A1(l_1:List Nat) :Nat×Nat×Nat→Option ((Nat×Nat×Nat)⊕((Nat×Nat)⊕(fR))):=fun (scale3,sum4,a5) =>
  aL ((IE l_1 scale3 sum4 a5).run) fun (scale6,sum7) =>
  (WQ a5 scale6 sum7).run
theorem WR(v_0:Lv)(l_1:List Nat)(scale3:Nat)(sum4:Nat)(a5:Nat) :Sg prog [] WP (xi v_0 l_1 (scale3,sum4,a5)) (A1 l_1 (scale3,sum4,a5)) (xi v_0 l_1) (bS 0 KP zY):=by
  unfold A1;exact Sg.cut 3 (aD xh) (aV eR (ZH v_0 l_1 a5) [⟨[],[],[3,4,11,12,13]⟩,⟨[],[],[3,4,11,12,13]⟩,⟨[],[],[3,4,11,12,13]⟩,⟨[],[],[3,4]⟩]) (fun ⟨scale6,sum7⟩=>aV eR (xi v_0 l_1) [⟨[],[],[3,4,11,12,13]⟩])
def WS(scale8:Nat)(sum9:Nat) :T ((Empty)⊕(fR)) :=
  .leaf (.inr (.r0 (eY scale8 (xr sum9))))
noncomputable def tY(l_1:List Nat) :Option fR:=lG (aL ((ZG).run) fun _ =>
  aL (ch (A1 l_1) (0,4607182418800017408,0)) fun (scale8,sum9) =>
  (WS scale8 sum9).run)
theorem ZI(v_0:Lv)(l_1:List Nat){x:fR}(h:tY l_1=some x) :aB prog Fb [] [.imm v_0 (.fl l_1) 1 1 0 (List.length l_1)] (F7 x) :=
  mo false F7 zY h (Sg.cut 3 xh (aV eR (ZF v_0 l_1) [⟨[],[],[3,4,11,12,13]⟩]) (fun _=>Sg.cut 1 xh (vg ⟨[],[],[3,4,11,12,13]⟩ (xi v_0 l_1) (KP) 0 xh (ZD _) (fun ⟨scale3,sum4,a5⟩=>WR v_0 l_1 scale3 sum4 a5)) (fun ⟨scale8,sum9⟩=>aV eR lx [⟨[],[],[2]⟩])))
    (fun x=>by cases x with | r0 a10=>exact ly [.flt false a10])
def qx:Option fR→Bool
  | some _=>true
  | none=>false
def qL:Option fR→Nat
  | some (.r0 x)=>x
  | _=>0
theorem ZJ{x:Option fR}(h:qx x=true) :x=some (.r0 (qL x)):=by
  unfold qx at h
  split at h<;>first | rfl | (cases h;done) | (rename_i y;cases y;rfl)
noncomputable def NI:aK:=cy Fb (.cons .fl .nil) fun t=>(fun q=>[⟨F7 (.r0 (qL q)),[qx q]⟩]) (tY t.1.2)
theorem SN:aY prog NI:=ba fun t=>(aZ (fun h=>ZI t.1.1 t.1.2 (ZJ h)) bj)
noncomputable def NJ:List aK:=NI::sz
theorem kI:aW prog (aT NJ):=aF SN eR
inductive cQ where
  | r0 (a9:Nat) (a10:Nat) (a11:Nat) (a12:Nat) (l13:List Nat)
def tZ:cQ→AE×aM
  | .r0 a9 a10 a11 a12 l13=>(.ret,⟨aq 72 [(2,.ptr 0 1 0 0),(3,.flt false a9),(4,.int .i64 ((a10:Nat):Int))],[(0,.vs [.sl 1 1 1 0 a11 a11,.flt false a12]),(1,.fl l13)],2⟩)
theorem nh:ld tZ:=by intro x;cases x<;>(intro h;cases h)
theorem SO(id:Nat) :ko id tZ:=by intro x;cases x<;>(intro h;cases h)
def A2:cQ→ib
  | .r0 a9 a10 a11 a12 l13=>⟨.tup [.agg [.imm .free (.fl l13) 1 1 0 a11,.flt false a12],.flt false a9,.int .i64 ((a10:Nat):Int)],[]⟩
noncomputable def SP:List Code:=cg (kB ti)
def SQ(v_0:Lv)(x_1:List Nat) :Nat×(List Nat)→aM:=fun (long1,l2)=>⟨aq 72 [(0,.imm v_0 (.fl x_1) 1 1 0 (List.length x_1)),(2,.ptr 0 1 0 0),(5,.ptr 1 1 0 0),(6,.flt false long1)],[(0,.vs [.nsl,.flt false 0]),(1,.vs [.sl 2 1 1 0 (List.length x_1) (List.length x_1),.flt false 0]),(2,.fl l2)],3⟩
def GH(x_1:List Nat) :T ((Nat×(List Nat))⊕(cQ)) :=
  .ask ((((List.length x_1):Nat):Int)==(0:Int))
    (.leaf (.inr (.r0 0 2 0 0 ([]:List Nat))))
    (.need (decide ((0:Int)≤(((List.length x_1):Nat):Int)))<|.need (decide ((((List.length x_1):Nat):Int)≤(((List.length x_1):Nat):Int)))<|.need (decide ((8:Int)*(((List.length x_1):Nat):Int)≤140737488355328))<|.need (cK .i64 (((List.length x_1):Nat):Int))<|.need (fi (0:Int) (List.length x_1))<|.need (eS 0 (List.length (List.replicate (List.length x_1) 0)))<|.need (CC (((List.length x_1):Nat):Int) (List.length x_1))<|.need (CC (1:Int) (List.length x_1))<|.need (bL 1 ((List.length x_1)-1) x_1)<|.need (qx (tY (an 1 ((List.length x_1)-1) x_1)))<|.leaf (.inl ((qL (tY (an 1 ((List.length x_1)-1) x_1))),(List.set (List.replicate (List.length x_1) 0) 0 4607182418800017408))))
def SS(v_0:Lv)(x_1:List Nat)(l2:List Nat)(beta3:Nat) :aM:=⟨aq 72 [(0,.imm v_0 (.fl x_1) 1 1 0 (List.length x_1)),(2,.ptr 0 1 0 0),(5,.ptr 1 1 0 0),(7,.flt false beta3)],[(0,.vs [.nsl,.flt false 0]),(1,.vs [.sl 2 1 1 0 (List.length x_1) (List.length x_1),.flt false 0]),(2,.fl l2)],3⟩
def D4(x_1:List Nat)(long1:Nat)(l2:List Nat) :T ((Nat)⊕(cQ)) :=
  .ask (yp long1 0)
    (.need (fi (0:Int) (List.length x_1))<|.need (eS 0 (List.length x_1))<|.leaf (.inr (.r0 (List.getD x_1 0 0) 0 (List.length x_1) 0 l2)))
    (.need (fi (0:Int) (List.length x_1))<|.need (eS 0 (List.length x_1))<|.ask (Yh (co long1) (co (List.getD x_1 0 0)))
      (.ask (yp (co long1) 0)
        (.need (fi (0:Int) (List.length x_1))<|.need (eS 0 (List.length x_1))<|.need (!isNaN (List.getD x_1 0 0)||isNaN (co long1))<|.leaf (.inl (CB (kj (co long1) (List.getD x_1 0 0)))))
        (.need (fi (0:Int) (List.length x_1))<|.need (eS 0 (List.length x_1))<|.need (!isNaN (List.getD x_1 0 0)||isNaN (eY (co long1) (xr (Aq 4607182418800017408 (eY (fdiv (co (List.getD x_1 0 0)) (co long1)) (fdiv (co (List.getD x_1 0 0)) (co long1)))))))<|.leaf (.inl (CB (kj (eY (co long1) (xr (Aq 4607182418800017408 (eY (fdiv (co (List.getD x_1 0 0)) (co long1)) (fdiv (co (List.getD x_1 0 0)) (co long1)))))) (List.getD x_1 0 0))))))
      (.ask (yp (co (List.getD x_1 0 0)) 0)
        (.need (fi (0:Int) (List.length x_1))<|.need (eS 0 (List.length x_1))<|.need (!isNaN (List.getD x_1 0 0)||isNaN (co (List.getD x_1 0 0)))<|.leaf (.inl (CB (kj (co (List.getD x_1 0 0)) (List.getD x_1 0 0)))))
        (.need (fi (0:Int) (List.length x_1))<|.need (eS 0 (List.length x_1))<|.need (!isNaN (List.getD x_1 0 0)||isNaN (eY (co (List.getD x_1 0 0)) (xr (Aq 4607182418800017408 (eY (fdiv (co long1) (co (List.getD x_1 0 0))) (fdiv (co long1) (co (List.getD x_1 0 0))))))))<|.leaf (.inl (CB (kj (eY (co (List.getD x_1 0 0)) (xr (Aq 4607182418800017408 (eY (fdiv (co long1) (co (List.getD x_1 0 0))) (fdiv (co long1) (co (List.getD x_1 0 0))))))) (List.getD x_1 0 0)))))))
def SU(v_0:Lv)(x_1:List Nat)(l2:List Nat)(beta3:Nat) :Nat×Nat→aM:=fun (q4,a5)=>⟨aq 72 [(0,.imm v_0 (.fl x_1) 1 1 0 (List.length x_1)),(2,.ptr 0 1 0 0),(5,.ptr 1 1 0 0),(7,.flt false beta3),(8,.flt false q4),(9,.int .i64 (1:Int))],[(0,.vs [.nsl,.flt false 0]),(1,.vs [.sl 2 1 1 0 (List.length x_1) (List.length x_1),.flt false a5]),(2,.fl l2)],3⟩
def PL(x_1:List Nat)(beta3:Nat) :T ((Nat×Nat)⊕(cQ)) :=
  .need (fi (0:Int) (List.length x_1))<|.need (eS 0 (List.length x_1))<|.need (fi (0:Int) (List.length x_1))<|.need (eS 0 (List.length x_1))<|.leaf (.inl ((fdiv 4607182418800017408 (sO (List.getD x_1 0 0) beta3)),(fdiv (sO beta3 (List.getD x_1 0 0)) beta3)))
def qM(v_0:Lv)(x_1:List Nat)(beta3:Nat)(q4:Nat)(a5:Nat) :Nat×(List Nat)→aM:=fun (i6,l7)=>⟨aq 72 [(0,.imm v_0 (.fl x_1) 1 1 0 (List.length x_1)),(2,.ptr 0 1 0 0),(5,.ptr 1 1 0 0),(7,.flt false beta3),(8,.flt false q4),(9,.int .i64 ((i6:Nat):Int))],[(0,.vs [.nsl,.flt false 0]),(1,.vs [.sl 2 1 1 0 (List.length x_1) (List.length x_1),.flt false a5]),(2,.fl l7)],3⟩
def GI(x_1:List Nat)(beta3:Nat)(a5:Nat)(l8:(List Nat)) :aM:=⟨aq 72 [(2,.ptr 0 1 0 0),(5,.ptr 1 1 0 0),(7,.flt false beta3)],[(0,.vs [.nsl,.flt false 0]),(1,.vs [.sl 2 1 1 0 (List.length x_1) (List.length x_1),.flt false a5]),(2,.fl l8)],3⟩
noncomputable def PM:List Code:=cg (cw ((((((SP.drop 6).drop 3).drop 3).take 1)).headD .skip))
def vZ(x_1:List Nat)(q4:Nat)(i6:Nat)(l7:List Nat) :T ((Nat×(List Nat))⊕(((List Nat))⊕(cQ))) :=
  .ask (decide (((i6:Nat):Int)<(((List.length x_1):Nat):Int)))
    (.need (fi ((i6:Nat):Int) (List.length x_1))<|.need (eS i6 (List.length x_1))<|.need (fi ((i6:Nat):Int) (List.length x_1))<|.need (eS i6 (List.length l7))<|.need (cK .i64 (((i6+1):Nat):Int))<|.leaf (.inl ((i6+1),(List.set l7 i6 (eY (List.getD x_1 i6 0) q4)))))
    (.leaf (.inr (.inl l7)))
noncomputable def wa(x_1:List Nat)(q4:Nat) :Nat×(List Nat)→Option ((Nat×(List Nat))⊕(((List Nat))⊕(cQ))):=fun (i6,l7) =>
  (vZ x_1 q4 i6 l7).run
theorem PN(v_0:Lv)(x_1:List Nat)(beta3:Nat)(q4:Nat)(a5:Nat)(i6:Nat)(l7:List Nat) :Sg prog [] PM (qM v_0 x_1 beta3 q4 a5 (i6,l7)) (wa x_1 q4 (i6,l7)) (qM v_0 x_1 beta3 q4 a5) (bS 0 (GI x_1 beta3 a5) tZ):=by
  unfold wa;exact aV kI (qM v_0 x_1 beta3 q4 a5) [⟨[],[0,1,2],[0,2,5,7,8,9]⟩,⟨[],[0,1,2],[2,5,7]⟩]
def PO(x_1:List Nat)(beta3:Nat)(a5:Nat)(l8:List Nat) :T ((Empty)⊕(cQ)) :=
  .leaf (.inr (.r0 beta3 0 (List.length x_1) a5 l8))
noncomputable def bh(x_1:List Nat) :Option cQ:=lG (aL ((GH x_1).run) fun (long1,l2) =>
  aL ((D4 x_1 long1 l2).run) fun beta3 =>
  aL ((PL x_1 beta3).run) fun (q4,a5) =>
  aL (ch (wa x_1 q4) (1,l2)) fun l8 =>
  (PO x_1 beta3 a5 l8).run)
theorem SV(v_0:Lv)(x_1:List Nat){x:cQ}(h:bh x_1=some x) :aB prog ti [] [.imm v_0 (.fl x_1) 1 1 0 (List.length x_1)] (A2 x) :=
  mo true A2 tZ h (Sg.cut 6 nh (aV kI (SQ v_0 x_1) [⟨[(.cell 0 0,.own 1 1 (.fl ([]:List Nat)))],[0,160],[2,3,4]⟩,⟨[],[0,160,128],[0,2,5,6]⟩]) (fun ⟨long1,l2⟩=>Sg.cut 3 nh (aV kI (SS v_0 x_1 l2) [⟨[],[0,2],[2,3,4]⟩,⟨[],[0,1,2],[0,2,5,7]⟩,⟨[],[0,1,2],[0,2,5,7]⟩,⟨[],[0,1,2],[0,2,5,7]⟩,⟨[],[0,1,2],[0,2,5,7]⟩]) (fun beta3=>Sg.cut 3 nh (aV kI (SU v_0 x_1 l2 beta3) [⟨[],[0,1,2],[0,2,5,7,8,9]⟩]) (fun ⟨q4,a5⟩=>Sg.cut 1 nh (vg ⟨[],[0,1,2],[0,2,5,7,8,9]⟩ (qM v_0 x_1 beta3 q4 a5) (GI x_1 beta3 a5) 0 nh (SO _) (fun ⟨i6,l7⟩=>PN v_0 x_1 beta3 q4 a5 i6 l7)) (fun l8=>aV kI lx [⟨[],[0,2],[2,3,4]⟩])))))
    (fun x=>by cases x with | r0 a9 a10 a11 a12 l13=>exact ly [.agg [.sl 1 1 1 0 a11 a11,.flt false a12],.flt false a9,.int .i64 ((a10:Nat):Int)])
def ni:Option cQ→Bool
  | some _=>true
  | none=>false
def ju:Option cQ→Nat
  | some (.r0 x _ _ _ _)=>x
  | _=>0
def Ce:Option cQ→Nat
  | some (.r0 _ x _ _ _)=>x
  | _=>0
def db:Option cQ→Nat
  | some (.r0 _ _ x _ _)=>x
  | _=>0
def dO:Option cQ→Nat
  | some (.r0 _ _ _ x _)=>x
  | _=>0
def dc:Option cQ→List Nat
  | some (.r0 _ _ _ _ x)=>x
  | _=>[]
theorem SW{x:Option cQ}(h:ni x=true) :x=some (.r0 (ju x) (Ce x) (db x) (dO x) (dc x)):=by
  unfold ni at h
  split at h<;>first | rfl | (cases h;done) | (rename_i y;cases y;rfl)
noncomputable def IF:aK:=cy ti (.cons .fl .nil) fun t=>(fun q=>[⟨A2 (.r0 (ju q) (Ce q) (db q) (dO q) (dc q)),[ni q]⟩]) (bh t.1.2)
theorem NK:aY prog IF:=ba fun t=>(aZ (fun h=>SV t.1.1 t.1.2 (SW h)) bj)
noncomputable def IG:List aK:=IF::NJ
theorem ua:aW prog (aT IG):=aF NK kI
inductive iV where
  | r0 (b2:Bool)
def KQ:iV→AE×aM
  | .r0 b2=>(.ret,⟨aq 32 [(2,.bool false b2)],[],0⟩)
theorem WT:ld KQ:=by intro x;cases x<;>(intro h;cases h)
def DE:iV→ib
  | .r0 b2=>⟨.bool false b2,[]⟩
def WU(b1:Bool) :aM:=⟨aq 32 [(2,.bool false b1)],[],0⟩
def IH(a_0:Int)(a_1:Int)(a_3:List Nat) :T ((Bool)⊕(iV)) :=
  .ask (decide (a_0≥(0:Int)))
    (.ask (decide (a_0≤(512:Int)))
      (.ask (decide (a_1≥(0:Int)))
        (.ask (decide (a_1≤(512:Int)))
          (.need (cK .i64 (a_0*a_1))<|.leaf (.inl ((((List.length a_3):Nat):Int)==(a_0*a_1))))
          (.leaf (.inl false)))
        (.leaf (.inl false)))
      (.leaf (.inl false)))
    (.leaf (.inl false))
def WV(b1:Bool) :T ((Empty)⊕(iV)) :=
  .leaf (.inr (.r0 b1))
noncomputable def lp(a_0:Int)(a_1:Int)(a_3:List Nat) :Option iV:=lG (aL ((IH a_0 a_1 a_3).run) fun b1 =>
  (WV b1).run)
theorem WW(a_0:Int)(a_1:Int)(v_2:Lv)(a_3:List Nat){x:iV}(h:lp a_0 a_1 a_3=some x) :aB prog Kg [] [.agg [.int .i64 a_0,.int .i64 a_1,.imm v_2 (.fl a_3) 1 1 0 (List.length a_3)]] (DE x) :=
  mo false DE KQ h (Sg.cut 2 WT (aV ua WU [⟨[],[],[2]⟩,⟨[],[],[2]⟩,⟨[],[],[2]⟩,⟨[],[],[2]⟩,⟨[],[],[2]⟩]) (fun b1=>aV ua lx [⟨[],[],[2]⟩]))
    (fun x=>by cases x with | r0 b2=>exact ly [.bool false b2])
def oX:Option iV→Bool
  | some _=>true
  | none=>false
def pB:Option iV→Bool
  | some (.r0 x)=>x
  | _=>false
theorem WX{x:Option iV}(h:oX x=true) :x=some (.r0 (pB x)):=by
  unfold oX at h
  split at h<;>first | rfl | (cases h;done) | (rename_i y;cases y;rfl)
noncomputable def KR:aK:=cy Kg (.cons (.agg (.cons (.int .i64) (.cons (.int .i64) (.cons .fl .nil)))) .nil) fun t=>(fun q=>[⟨DE (.r0 (pB q)),[oX q]⟩]) (lp t.1.1 t.1.2.1 t.1.2.2.1.2)
theorem PP:aY prog KR:=ba fun t=>(aZ (fun h=>WW t.1.1 t.1.2.1 t.1.2.2.1.1 t.1.2.2.1.2 (WX h)) bj)
noncomputable def KS:List aK:=KR::IG
theorem pC:aW prog (aT KS):=aF PP ua
inductive bv where
  | r0 (a4:Nat)
def eG:bv→AE×aM
  | .r0 a4=>(.ret,⟨aq 18 [(4,.flt false a4)],[],0⟩)
theorem gX:ld eG:=by intro x;cases x<;>(intro h;cases h)
theorem ub(id:Nat) :ko id eG:=by intro x;cases x<;>(intro h;cases h)
def ij:bv→ib
  | .r0 a4=>⟨.flt false a4,[]⟩
noncomputable def uc:List Code:=cg (kB ny)
def ud(n_0:Int)(v_1:Lv)(v_2:Lv)(one_3:List Nat)(one_4:Nat)(v_5:Lv)(one_6:Int)(one_7:Int)(v_8:Lv)(one_9:List Nat)(v_10:Lv)(one_11:Int)(v_12:Lv)(one_13:Int)(_:Unit) :aM:=⟨aq 18 [(1,.fn (.func pn) [] [.iptr v_1 (.vs [.imm v_2 (.fl one_3) 1 1 0 (List.length one_3),.flt false one_4]) 1 0 0,.iptr v_5 (.vs [.int .i64 one_6,.int .i64 one_7,.imm v_8 (.fl one_9) 1 1 0 (List.length one_9)]) 1 0 0,.iptr v_10 (.vs [.int .i64 one_11]) 1 0 0,.iptr v_12 (.vs [.int .i64 one_13]) 1 0 0]),(5,.flt false 0),(7,.int .i64 n_0),(8,.int .i64 (0:Int))],[],0⟩
def ue:T ((Unit)⊕(bv)) :=
  .leaf (.inl ())
def ez(n_0:Int)(v_1:Lv)(v_2:Lv)(one_3:List Nat)(one_4:Nat)(v_5:Lv)(one_6:Int)(one_7:Int)(v_8:Lv)(one_9:List Nat)(v_10:Lv)(one_11:Int)(v_12:Lv)(one_13:Int) :Nat×Nat→aM:=fun (s1,a2)=>⟨aq 18 [(1,.fn (.func pn) [] [.iptr v_1 (.vs [.imm v_2 (.fl one_3) 1 1 0 (List.length one_3),.flt false one_4]) 1 0 0,.iptr v_5 (.vs [.int .i64 one_6,.int .i64 one_7,.imm v_8 (.fl one_9) 1 1 0 (List.length one_9)]) 1 0 0,.iptr v_10 (.vs [.int .i64 one_11]) 1 0 0,.iptr v_12 (.vs [.int .i64 one_13]) 1 0 0]),(5,.flt false s1),(7,.int .i64 n_0),(8,.int .i64 ((a2:Nat):Int))],[],0⟩
def kU(s3:Nat) :aM:=⟨aq 18 [(5,.flt false s3)],[],0⟩
noncomputable def uf:List Code:=cg (cw ((((uc.drop 3).take 1)).headD .skip))
def gY(n_0:Int)(one_3:List Nat)(one_7:Int)(one_9:List Nat)(one_11:Int)(one_13:Int)(s1:Nat)(a2:Nat) :T ((Nat×Nat)⊕((Nat)⊕(bv))) :=
  .ask (decide (((a2:Nat):Int)<n_0))
    (.need (fi ((a2:Nat):Int) (List.length one_3))<|.need (eS a2 (List.length one_3))<|.need (cK .i64 (one_11+((a2:Nat):Int)))<|.need (cK .i64 ((one_11+((a2:Nat):Int))*one_7))<|.need (cK .i64 (((one_11+((a2:Nat):Int))*one_7)+one_13))<|.need (fi (((one_11+((a2:Nat):Int))*one_7)+one_13) (List.length one_9))<|.need (eS (Int.toNat (((one_11+((a2:Nat):Int))*one_7)+one_13)) (List.length one_9))<|.need (cK .i64 (((a2+1):Nat):Int))<|.leaf (.inl ((Aq s1 (eY (List.getD one_3 a2 0) (List.getD one_9 (Int.toNat (((one_11+((a2:Nat):Int))*one_7)+one_13)) 0))),(a2+1))))
    (.leaf (.inr (.inl s1)))
noncomputable def gw(n_0:Int)(one_3:List Nat)(one_7:Int)(one_9:List Nat)(one_11:Int)(one_13:Int) :Nat×Nat→Option ((Nat×Nat)⊕((Nat)⊕(bv))):=fun (s1,a2) =>
  (gY n_0 one_3 one_7 one_9 one_11 one_13 s1 a2).run
theorem sE(n_0:Int)(v_1:Lv)(v_2:Lv)(one_3:List Nat)(one_4:Nat)(v_5:Lv)(one_6:Int)(one_7:Int)(v_8:Lv)(one_9:List Nat)(v_10:Lv)(one_11:Int)(v_12:Lv)(one_13:Int)(s1:Nat)(a2:Nat) :Sg prog [] uf (ez n_0 v_1 v_2 one_3 one_4 v_5 one_6 one_7 v_8 one_9 v_10 one_11 v_12 one_13 (s1,a2)) (gw n_0 one_3 one_7 one_9 one_11 one_13 (s1,a2)) (ez n_0 v_1 v_2 one_3 one_4 v_5 one_6 one_7 v_8 one_9 v_10 one_11 v_12 one_13) (bS 0 kU eG):=by
  unfold gw;exact aV pC (ez n_0 v_1 v_2 one_3 one_4 v_5 one_6 one_7 v_8 one_9 v_10 one_11 v_12 one_13) [⟨[],[],[1,5,7,8]⟩,⟨[],[],[5]⟩]
def sF(s3:Nat) :T ((Empty)⊕(bv)) :=
  .leaf (.inr (.r0 s3))
noncomputable def dB(n_0:Int)(one_3:List Nat)(one_7:Int)(one_9:List Nat)(one_11:Int)(one_13:Int) :Option bv:=lG (aL ((ue).run) fun _ =>
  aL (ch (gw n_0 one_3 one_7 one_9 one_11 one_13) (0,0)) fun s3 =>
  (sF s3).run)
theorem ug(n_0:Int)(v_1:Lv)(v_2:Lv)(one_3:List Nat)(one_4:Nat)(v_5:Lv)(one_6:Int)(one_7:Int)(v_8:Lv)(one_9:List Nat)(v_10:Lv)(one_11:Int)(v_12:Lv)(one_13:Int){x:bv}(h:dB n_0 one_3 one_7 one_9 one_11 one_13=some x) :aB prog ny [] [.int .i64 n_0,.fn (.func pn) [] [.iptr v_1 (.vs [.imm v_2 (.fl one_3) 1 1 0 (List.length one_3),.flt false one_4]) 1 0 0,.iptr v_5 (.vs [.int .i64 one_6,.int .i64 one_7,.imm v_8 (.fl one_9) 1 1 0 (List.length one_9)]) 1 0 0,.iptr v_10 (.vs [.int .i64 one_11]) 1 0 0,.iptr v_12 (.vs [.int .i64 one_13]) 1 0 0]] (ij x) :=
  mo false ij eG h (Sg.cut 3 gX (aV pC (ud n_0 v_1 v_2 one_3 one_4 v_5 one_6 one_7 v_8 one_9 v_10 one_11 v_12 one_13) [⟨[],[],[1,5,7,8]⟩]) (fun _=>Sg.cut 1 gX (vg ⟨[],[],[1,5,7,8]⟩ (ez n_0 v_1 v_2 one_3 one_4 v_5 one_6 one_7 v_8 one_9 v_10 one_11 v_12 one_13) (kU) 0 gX (ub _) (fun ⟨s1,a2⟩=>sE n_0 v_1 v_2 one_3 one_4 v_5 one_6 one_7 v_8 one_9 v_10 one_11 v_12 one_13 s1 a2)) (fun s3=>aV pC lx [⟨[],[],[4]⟩])))
    (fun x=>by cases x with | r0 a4=>exact ly [.flt false a4])
def eA:Option bv→Bool
  | some _=>true
  | none=>false
def fY:Option bv→Nat
  | some (.r0 x)=>x
  | _=>0
theorem uh{x:Option bv}(h:eA x=true) :x=some (.r0 (fY x)):=by
  unfold eA at h
  split at h<;>first | rfl | (cases h;done) | (rename_i y;cases y;rfl)
noncomputable def lu:aK:=cy ny (.cons (.int .i64) (.cons (.fn pn .nil (.cons (.ivs (.cons .fl (.cons (.flt false) .nil)) 1 0 0) (.cons (.ivs (.cons (.int .i64) (.cons (.int .i64) (.cons .fl .nil))) 1 0 0) (.cons (.ivs (.cons (.int .i64) .nil) 1 0 0) (.cons (.ivs (.cons (.int .i64) .nil) 1 0 0) .nil))))) .nil)) fun t=>(fun q=>[⟨ij (.r0 (fY q)),[eA q]⟩]) (dB t.1 t.2.1.2.1.2.1.2 t.2.1.2.2.1.2.2.1 t.2.1.2.2.1.2.2.2.1.2 t.2.1.2.2.2.1.2.1 t.2.1.2.2.2.2.1.2.1)
theorem rH:aY prog lu:=ba fun t=>(aZ (fun h=>ug t.1 t.2.1.2.1.1 t.2.1.2.1.2.1.1 t.2.1.2.1.2.1.2 t.2.1.2.1.2.2.1 t.2.1.2.2.1.1 t.2.1.2.2.1.2.1 t.2.1.2.2.1.2.2.1 t.2.1.2.2.1.2.2.2.1.1 t.2.1.2.2.1.2.2.2.1.2 t.2.1.2.2.2.1.1 t.2.1.2.2.2.1.2.1 t.2.1.2.2.2.2.1.1 t.2.1.2.2.2.2.1.2.1 (uh h)) bj)
noncomputable def lw:List aK:=lu::KS
theorem bn:aW prog (aT lw):=aF rH pC
inductive bM where
  | r0 (a18:Nat) (i19:Int) (i20:Int) (a21:Nat) (l22:List Nat)
def oY:bM→AE×aM
  | .r0 a18 i19 i20 a21 l22=>(.ret,⟨aq 103 [(8,.ptr 0 1 0 0),(9,.int .i64 ((a18:Nat):Int))],[(0,.vs [.int .i64 i19,.int .i64 i20,.sl 1 1 1 0 a21 a21]),(1,.fl l22)],2⟩)
theorem dF:ld oY:=by intro x;cases x<;>(intro h;cases h)
theorem yY(id:Nat) :ko id oY:=by intro x;cases x<;>(intro h;cases h)
def A3:bM→ib
  | .r0 a18 i19 i20 a21 l22=>⟨.tup [.agg [.int .i64 i19,.int .i64 i20,.imm .free (.fl l22) 1 1 0 a21],.int .i64 ((a18:Nat):Int)],[]⟩
noncomputable def PQ:List Code:=cg (kB tm)
def SX(a_0:Int)(a_1:Int)(v_2:Lv)(a_3:List Nat)(at_4:Int)(from_5:Int)(v_6:Lv)(h_7:List Nat)(h_8:Nat)(b1:Bool) :aM:=⟨aq 103 [(2,.int .i64 from_5),(4,.ptr 0 1 0 0),(5,.ptr 1 1 0 0),(7,.ptr 2 1 0 0),(8,.ptr 3 1 0 0),(31,.bool false b1)],[(0,.vs [.int .i64 a_0,.int .i64 a_1,.imm v_2 (.fl a_3) 1 1 0 (List.length a_3)]),(1,.vs [.int .i64 at_4]),(2,.vs [.imm v_6 (.fl h_7) 1 1 0 (List.length h_7),.flt false h_8]),(3,.vs [.int .i64 (0:Int),.int .i64 (0:Int),.nsl])],4⟩
def D5(a_0:Int)(a_1:Int)(a_3:List Nat)(at_4:Int)(from_5:Int)(h_7:List Nat) :T ((Bool)⊕(bM)) :=
  .need (bL 0 (List.length a_3) a_3)<|.need (oX (lp a_0 a_1 (an 0 (List.length a_3) a_3)))<|.ask (!(pB (lp a_0 a_1 (an 0 (List.length a_3) a_3))))
    (.leaf (.inl true))
    (.ask ((((List.length h_7):Nat):Int)==(0:Int))
      (.leaf (.inl true))
      (.ask (decide (at_4<(0:Int)))
        (.leaf (.inl true))
        (.leaf (.inl (decide (from_5<(0:Int)))))))
def SY(a_0:Int)(a_1:Int)(v_2:Lv)(a_3:List Nat)(at_4:Int)(from_5:Int)(v_6:Lv)(h_7:List Nat)(h_8:Nat)(b2:Bool) :aM:=⟨aq 103 [(2,.int .i64 from_5),(4,.ptr 0 1 0 0),(5,.ptr 1 1 0 0),(7,.ptr 2 1 0 0),(8,.ptr 3 1 0 0),(46,.bool false b2)],[(0,.vs [.int .i64 a_0,.int .i64 a_1,.imm v_2 (.fl a_3) 1 1 0 (List.length a_3)]),(1,.vs [.int .i64 at_4]),(2,.vs [.imm v_6 (.fl h_7) 1 1 0 (List.length h_7),.flt false h_8]),(3,.vs [.int .i64 (0:Int),.int .i64 (0:Int),.nsl])],4⟩
def D6(a_0:Int)(a_1:Int)(at_4:Int)(from_5:Int)(h_7:List Nat)(b1:Bool) :T ((Bool)⊕(bM)) :=
  .ask b1
    (.leaf (.inr (.r0 2 (0:Int) (0:Int) 0 ([]:List Nat))))
    (.need (cK .i64 (a_0-(((List.length h_7):Nat):Int)))<|.ask (decide (at_4>(a_0-(((List.length h_7):Nat):Int))))
      (.leaf (.inl true))
      (.leaf (.inl (decide (from_5>a_1)))))
def SZ(a_0:Int)(a_1:Int)(v_2:Lv)(a_3:List Nat)(at_4:Int)(from_5:Int)(v_6:Lv)(h_7:List Nat)(h_8:Nat) :Nat×(List Nat)→aM:=fun (a3,l4)=>⟨aq 103 [(4,.ptr 0 1 0 0),(5,.ptr 1 1 0 0),(7,.ptr 2 1 0 0),(8,.ptr 3 1 0 0),(10,.ptr 4 1 0 0),(11,.ptr 5 1 0 0)],[(0,.vs [.int .i64 a_0,.int .i64 a_1,.imm v_2 (.fl a_3) 1 1 0 (List.length a_3)]),(1,.vs [.int .i64 at_4]),(2,.vs [.imm v_6 (.fl h_7) 1 1 0 (List.length h_7),.flt false h_8]),(3,.vs [.int .i64 (0:Int),.int .i64 (0:Int),.nsl]),(4,.vs [.int .i64 a_0,.int .i64 a_1,.sl 6 1 1 0 a3 a3]),(5,.vs [.int .i64 from_5]),(6,.fl l4)],7⟩
def wb(a_0:Int)(a_1:Int)(a_3:List Nat)(h_8:Nat)(b2:Bool) :T ((Nat×(List Nat))⊕(bM)) :=
  .ask b2
    (.leaf (.inr (.r0 8 (0:Int) (0:Int) 0 ([]:List Nat))))
    (.need (bL 0 (List.length a_3) a_3)<|.need (ap (List.length (an 0 (List.length a_3) a_3)))<|.ask (yp h_8 0)
      (.leaf (.inr (.r0 0 a_0 a_1 (List.length (an 0 (List.length a_3) a_3)) (an 0 (List.length a_3) a_3))))
      (.leaf (.inl ((List.length (an 0 (List.length a_3) a_3)),(an 0 (List.length a_3) a_3)))))
def pD(a_0:Int)(a_1:Int)(v_2:Lv)(a_3:List Nat)(at_4:Int)(v_6:Lv)(h_7:List Nat)(h_8:Nat)(a3:Nat) :Int×(List Nat)→aM:=fun (i10,l11)=>⟨aq 103 [(4,.ptr 0 1 0 0),(5,.ptr 1 1 0 0),(7,.ptr 2 1 0 0),(8,.ptr 3 1 0 0),(10,.ptr 4 1 0 0),(11,.ptr 5 1 0 0)],[(0,.vs [.int .i64 a_0,.int .i64 a_1,.imm v_2 (.fl a_3) 1 1 0 (List.length a_3)]),(1,.vs [.int .i64 at_4]),(2,.vs [.imm v_6 (.fl h_7) 1 1 0 (List.length h_7),.flt false h_8]),(3,.vs [.int .i64 (0:Int),.int .i64 (0:Int),.nsl]),(4,.vs [.int .i64 a_0,.int .i64 a_1,.sl 6 1 1 0 a3 a3]),(5,.vs [.int .i64 i10]),(6,.fl l11)],7⟩
def wc(a_0:Int)(a_1:Int)(a3:Nat)(l17:(List Nat)) :aM:=⟨aq 103 [(8,.ptr 0 1 0 0),(10,.ptr 1 1 0 0)],[(0,.vs [.int .i64 (0:Int),.int .i64 (0:Int),.nsl]),(1,.vs [.int .i64 a_0,.int .i64 a_1,.sl 2 1 1 0 a3 a3]),(2,.fl l17)],3⟩
noncomputable def D7:List Code:=cg (cw ((((((PQ.drop 2).drop 2).drop 5).take 1)).headD .skip))
def PR(a_0:Int)(a_1:Int)(v_2:Lv)(a_3:List Nat)(at_4:Int)(v_6:Lv)(h_7:List Nat)(h_8:Nat)(a3:Nat)(i10:Int)(l11:List Nat)(_:Unit) :aM:=⟨aq 103 [(4,.ptr 0 1 0 0),(5,.ptr 1 1 0 0),(7,.ptr 2 1 0 0),(8,.ptr 3 1 0 0),(10,.ptr 4 1 0 0),(11,.ptr 5 1 0 0)],[(0,.vs [.int .i64 a_0,.int .i64 a_1,.imm v_2 (.fl a_3) 1 1 0 (List.length a_3)]),(1,.vs [.int .i64 at_4]),(2,.vs [.imm v_6 (.fl h_7) 1 1 0 (List.length h_7),.flt false h_8]),(3,.vs [.int .i64 (0:Int),.int .i64 (0:Int),.nsl]),(4,.vs [.int .i64 a_0,.int .i64 a_1,.sl 6 1 1 0 a3 a3]),(5,.vs [.int .i64 i10]),(6,.fl l11)],7⟩
def we(a_1:Int)(i10:Int)(l11:List Nat) :T ((Unit)⊕(((List Nat))⊕(bM))) :=
  .ask (decide (i10<a_1))
    (.leaf (.inl ()))
    (.leaf (.inr (.inl l11)))
def wg(a_0:Int)(a_1:Int)(v_2:Lv)(a_3:List Nat)(at_4:Int)(v_6:Lv)(h_7:List Nat)(h_8:Nat)(a3:Nat)(i10:Int)(l16:(List Nat)) :aM:=⟨aq 103 [(4,.ptr 0 1 0 0),(5,.ptr 1 1 0 0),(7,.ptr 2 1 0 0),(8,.ptr 3 1 0 0),(10,.ptr 4 1 0 0),(11,.ptr 5 1 0 0)],[(0,.vs [.int .i64 a_0,.int .i64 a_1,.imm v_2 (.fl a_3) 1 1 0 (List.length a_3)]),(1,.vs [.int .i64 at_4]),(2,.vs [.imm v_6 (.fl h_7) 1 1 0 (List.length h_7),.flt false h_8]),(3,.vs [.int .i64 (0:Int),.int .i64 (0:Int),.nsl]),(4,.vs [.int .i64 a_0,.int .i64 a_1,.sl 6 1 1 0 a3 a3]),(5,.vs [.int .i64 i10]),(6,.fl l16)],7⟩
noncomputable def PS:List Code:=cg (inBlock ((((D7.drop 2).take 1)).headD .skip))
def PT(a_0:Int)(a_1:Int)(v_2:Lv)(a_3:List Nat)(at_4:Int)(v_6:Lv)(h_7:List Nat)(h_8:Nat)(a3:Nat)(i10:Int)(l11:List Nat)(w12:Nat) :aM:=⟨aq 103 [(4,.ptr 0 1 0 0),(5,.ptr 1 1 0 0),(7,.ptr 2 1 0 0),(8,.ptr 3 1 0 0),(10,.ptr 4 1 0 0),(11,.ptr 5 1 0 0),(12,.flt false w12)],[(0,.vs [.int .i64 a_0,.int .i64 a_1,.imm v_2 (.fl a_3) 1 1 0 (List.length a_3)]),(1,.vs [.int .i64 at_4]),(2,.vs [.imm v_6 (.fl h_7) 1 1 0 (List.length h_7),.flt false h_8]),(3,.vs [.int .i64 (0:Int),.int .i64 (0:Int),.nsl]),(4,.vs [.int .i64 a_0,.int .i64 a_1,.sl 6 1 1 0 a3 a3]),(5,.vs [.int .i64 i10]),(6,.fl l11)],7⟩
def D8(a_1:Int)(a_3:List Nat)(at_4:Int)(h_7:List Nat)(h_8:Nat)(i10:Int) :T ((Nat)⊕(((List Nat))⊕(((List Nat))⊕(bM)))) :=
  .need (bL 0 (List.length h_7) h_7)<|.need (bL 0 (List.length a_3) a_3)<|.need (eA (dB (((List.length h_7):Nat):Int) (an 0 (List.length h_7) h_7) a_1 (an 0 (List.length a_3) a_3) at_4 i10))<|.leaf (.inl (eY h_8 (fY (dB (((List.length h_7):Nat):Int) (an 0 (List.length h_7) h_7) a_1 (an 0 (List.length a_3) a_3) at_4 i10))))
def PU(a_0:Int)(a_1:Int)(v_2:Lv)(a_3:List Nat)(at_4:Int)(v_6:Lv)(h_7:List Nat)(h_8:Nat)(a3:Nat)(i10:Int)(l11:List Nat)(w12:Nat)(_:Unit) :aM:=⟨aq 103 [(4,.ptr 0 1 0 0),(5,.ptr 1 1 0 0),(7,.ptr 2 1 0 0),(8,.ptr 3 1 0 0),(10,.ptr 4 1 0 0),(11,.ptr 5 1 0 0),(12,.flt false w12),(76,.imm v_6 (.fl h_7) 1 1 0 (List.length h_7)),(77,.int .i64 (((List.length h_7):Nat):Int)),(78,.int .i64 (0:Int))],[(0,.vs [.int .i64 a_0,.int .i64 a_1,.imm v_2 (.fl a_3) 1 1 0 (List.length a_3)]),(1,.vs [.int .i64 at_4]),(2,.vs [.imm v_6 (.fl h_7) 1 1 0 (List.length h_7),.flt false h_8]),(3,.vs [.int .i64 (0:Int),.int .i64 (0:Int),.nsl]),(4,.vs [.int .i64 a_0,.int .i64 a_1,.sl 6 1 1 0 a3 a3]),(5,.vs [.int .i64 i10]),(6,.fl l11)],7⟩
def PV:T ((Unit)⊕(((List Nat))⊕(((List Nat))⊕(bM)))) :=
  .leaf (.inl ())
def pF(a_0:Int)(a_1:Int)(v_2:Lv)(a_3:List Nat)(at_4:Int)(v_6:Lv)(h_7:List Nat)(h_8:Nat)(a3:Nat)(i10:Int)(w12:Nat) :Nat×(List Nat)→aM:=fun (a13,l14)=>⟨aq 103 [(4,.ptr 0 1 0 0),(5,.ptr 1 1 0 0),(7,.ptr 2 1 0 0),(8,.ptr 3 1 0 0),(10,.ptr 4 1 0 0),(11,.ptr 5 1 0 0),(12,.flt false w12),(76,.imm v_6 (.fl h_7) 1 1 0 (List.length h_7)),(77,.int .i64 (((List.length h_7):Nat):Int)),(78,.int .i64 ((a13:Nat):Int))],[(0,.vs [.int .i64 a_0,.int .i64 a_1,.imm v_2 (.fl a_3) 1 1 0 (List.length a_3)]),(1,.vs [.int .i64 at_4]),(2,.vs [.imm v_6 (.fl h_7) 1 1 0 (List.length h_7),.flt false h_8]),(3,.vs [.int .i64 (0:Int),.int .i64 (0:Int),.nsl]),(4,.vs [.int .i64 a_0,.int .i64 a_1,.sl 6 1 1 0 a3 a3]),(5,.vs [.int .i64 i10]),(6,.fl l14)],7⟩
def D9(a_0:Int)(a_1:Int)(v_2:Lv)(a_3:List Nat)(at_4:Int)(v_6:Lv)(h_7:List Nat)(h_8:Nat)(a3:Nat)(i10:Int)(l15:(List Nat)) :aM:=⟨aq 103 [(4,.ptr 0 1 0 0),(5,.ptr 1 1 0 0),(7,.ptr 2 1 0 0),(8,.ptr 3 1 0 0),(10,.ptr 4 1 0 0),(11,.ptr 5 1 0 0)],[(0,.vs [.int .i64 a_0,.int .i64 a_1,.imm v_2 (.fl a_3) 1 1 0 (List.length a_3)]),(1,.vs [.int .i64 at_4]),(2,.vs [.imm v_6 (.fl h_7) 1 1 0 (List.length h_7),.flt false h_8]),(3,.vs [.int .i64 (0:Int),.int .i64 (0:Int),.nsl]),(4,.vs [.int .i64 a_0,.int .i64 a_1,.sl 6 1 1 0 a3 a3]),(5,.vs [.int .i64 i10]),(6,.fl l15)],7⟩
noncomputable def PW:List Code:=cg (cw (((((PS.drop 1).drop 1).take 1)).headD .skip))
def wh(a_1:Int)(at_4:Int)(h_7:List Nat)(a3:Nat)(i10:Int)(w12:Nat)(a13:Nat)(l14:List Nat) :T ((Nat×(List Nat))⊕(((List Nat))⊕(((List Nat))⊕(((List Nat))⊕(bM))))) :=
  .ask (decide (((a13:Nat):Int)<(((List.length h_7):Nat):Int)))
    (.need (fi ((a13:Nat):Int) (List.length h_7))<|.need (eS a13 (List.length h_7))<|.need (cK .i64 (at_4+((a13:Nat):Int)))<|.need (cK .i64 ((at_4+((a13:Nat):Int))*a_1))<|.need (cK .i64 (((at_4+((a13:Nat):Int))*a_1)+i10))<|.need (fi (((at_4+((a13:Nat):Int))*a_1)+i10) a3)<|.need (eS (Int.toNat (((at_4+((a13:Nat):Int))*a_1)+i10)) (List.length l14))<|.need (fi (((at_4+((a13:Nat):Int))*a_1)+i10) a3)<|.need (eS (Int.toNat (((at_4+((a13:Nat):Int))*a_1)+i10)) (List.length l14))<|.need (cK .i64 (((a13+1):Nat):Int))<|.leaf (.inl ((a13+1),(List.set l14 (Int.toNat (((at_4+((a13:Nat):Int))*a_1)+i10)) (sO (List.getD l14 (Int.toNat (((at_4+((a13:Nat):Int))*a_1)+i10)) 0) (eY (List.getD h_7 a13 0) w12))))))
    (.leaf (.inr (.inl l14)))
noncomputable def pG(a_1:Int)(at_4:Int)(h_7:List Nat)(a3:Nat)(i10:Int)(w12:Nat) :Nat×(List Nat)→Option ((Nat×(List Nat))⊕(((List Nat))⊕(((List Nat))⊕(((List Nat))⊕(bM))))):=fun (a13,l14) =>
  (wh a_1 at_4 h_7 a3 i10 w12 a13 l14).run
theorem PX(a_0:Int)(a_1:Int)(v_2:Lv)(a_3:List Nat)(at_4:Int)(v_6:Lv)(h_7:List Nat)(h_8:Nat)(a3:Nat)(i10:Int)(w12:Nat)(a13:Nat)(l14:List Nat) :Sg prog [] PW (pF a_0 a_1 v_2 a_3 at_4 v_6 h_7 h_8 a3 i10 w12 (a13,l14)) (pG a_1 at_4 h_7 a3 i10 w12 (a13,l14)) (pF a_0 a_1 v_2 a_3 at_4 v_6 h_7 h_8 a3 i10 w12) (bS 2 (D9 a_0 a_1 v_2 a_3 at_4 v_6 h_7 h_8 a3 i10) (bS 1 (wg a_0 a_1 v_2 a_3 at_4 v_6 h_7 h_8 a3 i10) (bS 0 (wc a_0 a_1 a3) oY))):=by
  unfold pG;exact aV bn (pF a_0 a_1 v_2 a_3 at_4 v_6 h_7 h_8 a3 i10 w12) [⟨[],[0,1,2,3,4,5,6],[4,5,7,8,10,11,12,76,77,78]⟩,⟨[],[0,1,2,3,4,5,6],[4,5,7,8,10,11]⟩]
def PY(l15:List Nat) :T (((List Nat))⊕(((List Nat))⊕(((List Nat))⊕(bM)))) :=
  .leaf (.inl l15)
def PZ(i10:Int)(l16:List Nat) :T ((Int×(List Nat))⊕(((List Nat))⊕(bM))) :=
  .need (cK .i64 (i10+(1:Int)))<|.leaf (.inl ((i10+(1:Int)),l16))
noncomputable def wj(a_1:Int)(a_3:List Nat)(at_4:Int)(h_7:List Nat)(h_8:Nat)(a3:Nat) :Int×(List Nat)→Option ((Int×(List Nat))⊕(((List Nat))⊕(bM))):=fun (i10,l11) =>
  aL ((we a_1 i10 l11).run) fun _ =>
  aL (vj (aL ((D8 a_1 a_3 at_4 h_7 h_8 i10).run) fun w12 =>
  aL ((PV).run) fun _ =>
  aL (ch (pG a_1 at_4 h_7 a3 i10 w12) (0,l11)) fun l15 =>
  (PY l15).run)) fun l16 =>
  (PZ i10 l16).run
theorem P3(a_0:Int)(a_1:Int)(v_2:Lv)(a_3:List Nat)(at_4:Int)(v_6:Lv)(h_7:List Nat)(h_8:Nat)(a3:Nat)(i10:Int)(l11:List Nat) :Sg prog [] D7 (pD a_0 a_1 v_2 a_3 at_4 v_6 h_7 h_8 a3 (i10,l11)) (wj a_1 a_3 at_4 h_7 h_8 a3 (i10,l11)) (pD a_0 a_1 v_2 a_3 at_4 v_6 h_7 h_8 a3) (bS 0 (wc a_0 a_1 a3) oY):=by
  unfold wj;exact Sg.cut 2 (aD dF) (aV bn (PR a_0 a_1 v_2 a_3 at_4 v_6 h_7 h_8 a3 i10 l11) [⟨[],[0,1,2,3,4,5,6],[4,5,7,8,10,11]⟩,⟨[],[3,4,6],[8,10]⟩]) (fun _=>Sg.cut 1 (aD dF) (sgb (wg a_0 a_1 v_2 a_3 at_4 v_6 h_7 h_8 a3 i10) 1 (aD dF) (ck (by decide) (yY _)) (Sg.cut 1 (aD (aD dF)) (aV bn (PT a_0 a_1 v_2 a_3 at_4 v_6 h_7 h_8 a3 i10 l11) [⟨[],[0,1,2,3,4,5,6],[4,5,7,8,10,11,12]⟩]) (fun w12=>Sg.cut 1 (aD (aD dF)) (aV bn (PU a_0 a_1 v_2 a_3 at_4 v_6 h_7 h_8 a3 i10 l11 w12) [⟨[],[0,1,2,3,4,5,6],[4,5,7,8,10,11,12,76,77,78]⟩]) (fun _=>Sg.cut 1 (aD (aD dF)) (vg ⟨[],[0,1,2,3,4,5,6],[4,5,7,8,10,11,12,76,77,78]⟩ (pF a_0 a_1 v_2 a_3 at_4 v_6 h_7 h_8 a3 i10 w12) (D9 a_0 a_1 v_2 a_3 at_4 v_6 h_7 h_8 a3 i10) 2 (aD (aD dF)) (ck (by decide) (ck (by decide) (yY _))) (fun ⟨a13,l14⟩=>PX a_0 a_1 v_2 a_3 at_4 v_6 h_7 h_8 a3 i10 w12 a13 l14)) (fun l15=>aV bn (wg a_0 a_1 v_2 a_3 at_4 v_6 h_7 h_8 a3 i10) [⟨[],[0,1,2,3,4,5,6],[4,5,7,8,10,11]⟩]))))) (fun l16=>aV bn (pD a_0 a_1 v_2 a_3 at_4 v_6 h_7 h_8 a3) [⟨[],[0,1,2,3,4,23,6],[4,5,7,8,10,11]⟩]))
def P5(a_0:Int)(a_1:Int)(a3:Nat)(l17:List Nat) :T ((Empty)⊕(bM)) :=
  .leaf (.inr (.r0 0 a_0 a_1 a3 l17))
noncomputable def jk(a_0:Int)(a_1:Int)(a_3:List Nat)(at_4:Int)(from_5:Int)(h_7:List Nat)(h_8:Nat) :Option bM:=lG (aL ((D5 a_0 a_1 a_3 at_4 from_5 h_7).run) fun b1 =>
  aL ((D6 a_0 a_1 at_4 from_5 h_7 b1).run) fun b2 =>
  aL ((wb a_0 a_1 a_3 h_8 b2).run) fun (a3,l4) =>
  aL (ch (wj a_1 a_3 at_4 h_7 h_8 a3) (from_5,l4)) fun l17 =>
  (P5 a_0 a_1 a3 l17).run)
theorem S5(a_0:Int)(a_1:Int)(v_2:Lv)(a_3:List Nat)(at_4:Int)(from_5:Int)(v_6:Lv)(h_7:List Nat)(h_8:Nat){x:bM}(h:jk a_0 a_1 a_3 at_4 from_5 h_7 h_8=some x) :aB prog tm [] [.agg [.int .i64 a_0,.int .i64 a_1,.imm v_2 (.fl a_3) 1 1 0 (List.length a_3)],.int .i64 at_4,.int .i64 from_5,.agg [.imm v_6 (.fl h_7) 1 1 0 (List.length h_7),.flt false h_8]] (A3 x) :=
  mo true A3 oY h (Sg.cut 2 dF (aV bn (SX a_0 a_1 v_2 a_3 at_4 from_5 v_6 h_7 h_8) [⟨[],[0,16,32,48],[2,4,5,7,8,31]⟩,⟨[],[0,16,32,48],[2,4,5,7,8,31]⟩,⟨[],[0,16,32,48],[2,4,5,7,8,31]⟩,⟨[],[0,16,32,48],[2,4,5,7,8,31]⟩]) (fun b1=>Sg.cut 2 dF (aV bn (SY a_0 a_1 v_2 a_3 at_4 from_5 v_6 h_7 h_8) [⟨[(.cell 3 2,.own 1 1 (.fl ([]:List Nat)))],[3,52],[8,9]⟩,⟨[],[0,1,2,3],[2,4,5,7,8,46]⟩,⟨[],[0,1,2,3],[2,4,5,7,8,46]⟩]) (fun b2=>Sg.cut 5 dF (aV bn (SZ a_0 a_1 v_2 a_3 at_4 from_5 v_6 h_7 h_8) [⟨[(.cell 3 2,.own 1 1 (.fl ([]:List Nat)))],[3,52],[8,9]⟩,⟨[],[3,100],[8,9]⟩,⟨[],[0,1,2,3,132,228,100],[4,5,7,8,10,11]⟩]) (fun ⟨a3,l4⟩=>Sg.cut 1 dF (vg ⟨[],[0,1,2,3,4,5,6],[4,5,7,8,10,11]⟩ (pD a_0 a_1 v_2 a_3 at_4 v_6 h_7 h_8 a3) (wc a_0 a_1 a3) 0 dF (yY _) (fun ⟨i10,l11⟩=>P3 a_0 a_1 v_2 a_3 at_4 v_6 h_7 h_8 a3 i10 l11)) (fun l17=>aV bn lx [⟨[],[0,2],[8,9]⟩])))))
    (fun x=>by cases x with | r0 a18 i19 i20 a21 l22=>exact ly [.agg [.int .i64 i19,.int .i64 i20,.sl 1 1 1 0 a21 a21],.int .i64 ((a18:Nat):Int)])
def qN:Option bM→Bool
  | some _=>true
  | none=>false
def Cf:Option bM→Nat
  | some (.r0 x _ _ _ _)=>x
  | _=>0
def ui:Option bM→Int
  | some (.r0 _ x _ _ _)=>x
  | _=>0
def uj:Option bM→Int
  | some (.r0 _ _ x _ _)=>x
  | _=>0
def uk:Option bM→Nat
  | some (.r0 _ _ _ x _)=>x
  | _=>0
def ul:Option bM→List Nat
  | some (.r0 _ _ _ _ x)=>x
  | _=>[]
theorem S6{x:Option bM}(h:qN x=true) :x=some (.r0 (Cf x) (ui x) (uj x) (uk x) (ul x)):=by
  unfold qN at h
  split at h<;>first | rfl | (cases h;done) | (rename_i y;cases y;rfl)
noncomputable def II:aK:=cy tm (.cons (.agg (.cons (.int .i64) (.cons (.int .i64) (.cons .fl .nil)))) (.cons (.int .i64) (.cons (.int .i64) (.cons (.agg (.cons .fl (.cons (.flt false) .nil))) .nil)))) fun t=>(fun q=>[⟨A3 (.r0 (Cf q) (ui q) (uj q) (uk q) (ul q)),[qN q]⟩]) (jk t.1.1 t.1.2.1 t.1.2.2.1.2 t.2.1 t.2.2.1 t.2.2.2.1.1.2 t.2.2.2.1.2.1)
theorem NL:aY prog II:=ba fun t=>(aZ (fun h=>S5 t.1.1 t.1.2.1 t.1.2.2.1.1 t.1.2.2.1.2 t.2.1 t.2.2.1 t.2.2.2.1.1.1 t.2.2.2.1.1.2 t.2.2.2.1.2.1 (S6 h)) bj)
noncomputable def IJ:List aK:=II::lw
theorem jv:aW prog (aT IJ):=aF NL bn
inductive bZ where
  | r0 (a11:Nat) (a12:Nat) (l13:List Nat)
def yh:bZ→AE×aM
  | .r0 a11 a12 l13=>(.ret,⟨aq 29 [(4,.sl 0 1 1 0 a11 a12)],[(0,.fl l13)],1⟩)
theorem nM:ld yh:=by intro x;cases x<;>(intro h;cases h)
def oZ:bZ→ib
  | .r0 a11 a12 l13=>⟨.sl 0 1 1 0 a11 a12,[some (.fl l13)]⟩
def Hs(v_0:Lv)(w_1:Int)(w_2:Int)(v_3:Lv)(w_4:List Nat)(k_5:Int)(_:Unit) :aM:=⟨aq 29 [(0,.iptr v_0 (.vs [.int .i64 w_1,.int .i64 w_2,.imm v_3 (.fl w_4) 1 1 0 (List.length w_4)]) 1 0 0),(1,.int .i64 k_5),(5,.ptr 0 1 0 0)],[(0,.vs [.nptr,.int .i64 (0:Int),.int .i64 (0:Int),.int .i64 (0:Int),.int .i64 (0:Int),.int .i64 (0:Int)])],1⟩
def Ht(v_0:Lv)(w_1:Int)(w_2:Int)(v_3:Lv)(w_4:List Nat)(k_5:Int) :Int×Int×Nat×(List Nat)→aM:=fun (i1,i2,a3,l4)=>⟨aq 29 [(0,.iptr v_0 (.vs [.int .i64 w_1,.int .i64 w_2,.imm v_3 (.fl w_4) 1 1 0 (List.length w_4)]) 1 0 0),(1,.int .i64 k_5),(5,.ptr 0 1 0 0)],[(0,.vs [.ptr 1 1 0 0,.int .i64 i1,.int .i64 i2,.int .i64 (0:Int),.int .i64 i2,.int .i64 (1:Int)]),(1,.vs [.sl 2 1 1 0 a3 a3]),(2,.fl l4)],3⟩
def nN(w_1:Int)(w_2:Int)(w_4:List Nat) :T (((Unit)⊕((Int×Int×Nat×(List Nat))))⊕(bZ)) :=
  .alt 0
    (.need (bL 0 (List.length w_4) w_4)<|.need (vW (gi w_1 w_2 (an 0 (List.length w_4) w_4)))<|.leaf (.inl (.inl ())))
    (.alt 1
      (.need (bL 0 (List.length w_4) w_4)<|.need (vX (gi w_1 w_2 (an 0 (List.length w_4) w_4)))<|.leaf (.inl (.inr ((zT (gi w_1 w_2 (an 0 (List.length w_4) w_4))),(zU (gi w_1 w_2 (an 0 (List.length w_4) w_4))),(zV (gi w_1 w_2 (an 0 (List.length w_4) w_4))),(zW (gi w_1 w_2 (an 0 (List.length w_4) w_4)))))))
      (.fail))
def Hu:Nat×Nat×(List Nat)→aM:=fun (a5,a6,l7)=>⟨aq 29 [(4,.sl 0 1 1 0 a5 a6)],[(0,.fl l7)],1⟩
def Hv(w_2:Int)(k_5:Int) :T ((Nat×Nat×(List Nat))⊕(bZ)) :=
  .need (cK .i64 (k_5+(1:Int)))<|.need (cK .i64 (w_2-k_5))<|.need (cK .i64 ((w_2-k_5)-(1:Int)))<|.need (jE (mA))<|.need (gS (cd (0:Int) (0:Int)))<|.leaf (.inl ((hX (cd (0:Int) (0:Int))),(hY (cd (0:Int) (0:Int))),(ia (cd (0:Int) (0:Int)))))
def Hw(a5:Nat)(a6:Nat)(l7:List Nat) :T ((Empty)⊕(bZ)) :=
  .leaf (.inr (.r0 a5 a6 l7))
def Hx:Nat×Nat×(List Nat)→aM:=fun (a8,a9,l10)=>⟨aq 29 [(4,.sl 0 1 1 0 a8 a9)],[(0,.fl l10)],1⟩
def mC(w_2:Int)(k_5:Int)(i1:Int)(i2:Int)(a3:Nat)(l4:List Nat) :T ((Nat×Nat×(List Nat))⊕(bZ)) :=
  .need (cK .i64 (k_5+(1:Int)))<|.need (cK .i64 (w_2-k_5))<|.need (cK .i64 ((w_2-k_5)-(1:Int)))<|.alt 0
    (.need (gT (ao a3 a3 l4 i1 i2 (0:Int) i2 (1:Int) k_5 (k_5+(1:Int)) (1:Int) ((w_2-k_5)-(1:Int))))<|.need (gS (cd (0:Int) (0:Int)))<|.leaf (.inl ((hX (cd (0:Int) (0:Int))),(hY (cd (0:Int) (0:Int))),(ia (cd (0:Int) (0:Int))))))
    (.alt 1
      (.need (gU (ao a3 a3 l4 i1 i2 (0:Int) i2 (1:Int) k_5 (k_5+(1:Int)) (1:Int) ((w_2-k_5)-(1:Int))))<|.need (bL 0 (bx (ao a3 a3 l4 i1 i2 (0:Int) i2 (1:Int) k_5 (k_5+(1:Int)) (1:Int) ((w_2-k_5)-(1:Int)))) (bz (ao a3 a3 l4 i1 i2 (0:Int) i2 (1:Int) k_5 (k_5+(1:Int)) (1:Int) ((w_2-k_5)-(1:Int)))))<|.need (jj (cn (an 0 (bx (ao a3 a3 l4 i1 i2 (0:Int) i2 (1:Int) k_5 (k_5+(1:Int)) (1:Int) ((w_2-k_5)-(1:Int)))) (bz (ao a3 a3 l4 i1 i2 (0:Int) i2 (1:Int) k_5 (k_5+(1:Int)) (1:Int) ((w_2-k_5)-(1:Int))))) (bN (ao a3 a3 l4 i1 i2 (0:Int) i2 (1:Int) k_5 (k_5+(1:Int)) (1:Int) ((w_2-k_5)-(1:Int)))) (bO (ao a3 a3 l4 i1 i2 (0:Int) i2 (1:Int) k_5 (k_5+(1:Int)) (1:Int) ((w_2-k_5)-(1:Int)))) (bP (ao a3 a3 l4 i1 i2 (0:Int) i2 (1:Int) k_5 (k_5+(1:Int)) (1:Int) ((w_2-k_5)-(1:Int)))) (bQ (ao a3 a3 l4 i1 i2 (0:Int) i2 (1:Int) k_5 (k_5+(1:Int)) (1:Int) ((w_2-k_5)-(1:Int)))) (bR (ao a3 a3 l4 i1 i2 (0:Int) i2 (1:Int) k_5 (k_5+(1:Int)) (1:Int) ((w_2-k_5)-(1:Int))))))<|.leaf (.inl ((jQ (cn (an 0 (bx (ao a3 a3 l4 i1 i2 (0:Int) i2 (1:Int) k_5 (k_5+(1:Int)) (1:Int) ((w_2-k_5)-(1:Int)))) (bz (ao a3 a3 l4 i1 i2 (0:Int) i2 (1:Int) k_5 (k_5+(1:Int)) (1:Int) ((w_2-k_5)-(1:Int))))) (bN (ao a3 a3 l4 i1 i2 (0:Int) i2 (1:Int) k_5 (k_5+(1:Int)) (1:Int) ((w_2-k_5)-(1:Int)))) (bO (ao a3 a3 l4 i1 i2 (0:Int) i2 (1:Int) k_5 (k_5+(1:Int)) (1:Int) ((w_2-k_5)-(1:Int)))) (bP (ao a3 a3 l4 i1 i2 (0:Int) i2 (1:Int) k_5 (k_5+(1:Int)) (1:Int) ((w_2-k_5)-(1:Int)))) (bQ (ao a3 a3 l4 i1 i2 (0:Int) i2 (1:Int) k_5 (k_5+(1:Int)) (1:Int) ((w_2-k_5)-(1:Int)))) (bR (ao a3 a3 l4 i1 i2 (0:Int) i2 (1:Int) k_5 (k_5+(1:Int)) (1:Int) ((w_2-k_5)-(1:Int)))))),(jR (cn (an 0 (bx (ao a3 a3 l4 i1 i2 (0:Int) i2 (1:Int) k_5 (k_5+(1:Int)) (1:Int) ((w_2-k_5)-(1:Int)))) (bz (ao a3 a3 l4 i1 i2 (0:Int) i2 (1:Int) k_5 (k_5+(1:Int)) (1:Int) ((w_2-k_5)-(1:Int))))) (bN (ao a3 a3 l4 i1 i2 (0:Int) i2 (1:Int) k_5 (k_5+(1:Int)) (1:Int) ((w_2-k_5)-(1:Int)))) (bO (ao a3 a3 l4 i1 i2 (0:Int) i2 (1:Int) k_5 (k_5+(1:Int)) (1:Int) ((w_2-k_5)-(1:Int)))) (bP (ao a3 a3 l4 i1 i2 (0:Int) i2 (1:Int) k_5 (k_5+(1:Int)) (1:Int) ((w_2-k_5)-(1:Int)))) (bQ (ao a3 a3 l4 i1 i2 (0:Int) i2 (1:Int) k_5 (k_5+(1:Int)) (1:Int) ((w_2-k_5)-(1:Int)))) (bR (ao a3 a3 l4 i1 i2 (0:Int) i2 (1:Int) k_5 (k_5+(1:Int)) (1:Int) ((w_2-k_5)-(1:Int)))))),(jS (cn (an 0 (bx (ao a3 a3 l4 i1 i2 (0:Int) i2 (1:Int) k_5 (k_5+(1:Int)) (1:Int) ((w_2-k_5)-(1:Int)))) (bz (ao a3 a3 l4 i1 i2 (0:Int) i2 (1:Int) k_5 (k_5+(1:Int)) (1:Int) ((w_2-k_5)-(1:Int))))) (bN (ao a3 a3 l4 i1 i2 (0:Int) i2 (1:Int) k_5 (k_5+(1:Int)) (1:Int) ((w_2-k_5)-(1:Int)))) (bO (ao a3 a3 l4 i1 i2 (0:Int) i2 (1:Int) k_5 (k_5+(1:Int)) (1:Int) ((w_2-k_5)-(1:Int)))) (bP (ao a3 a3 l4 i1 i2 (0:Int) i2 (1:Int) k_5 (k_5+(1:Int)) (1:Int) ((w_2-k_5)-(1:Int)))) (bQ (ao a3 a3 l4 i1 i2 (0:Int) i2 (1:Int) k_5 (k_5+(1:Int)) (1:Int) ((w_2-k_5)-(1:Int)))) (bR (ao a3 a3 l4 i1 i2 (0:Int) i2 (1:Int) k_5 (k_5+(1:Int)) (1:Int) ((w_2-k_5)-(1:Int)))))))))
      (.fail))
def F8(a8:Nat)(a9:Nat)(l10:List Nat) :T ((Empty)⊕(bZ)) :=
  .leaf (.inr (.r0 a8 a9 l10))
noncomputable def az(w_1:Int)(w_2:Int)(w_4:List Nat)(k_5:Int) :Option bZ:=lG (aL ((nN w_1 w_2 w_4).run) (Sum.elim (fun _ =>
  aL ((Hv w_2 k_5).run) fun (a5,a6,l7) =>
  (Hw a5 a6 l7).run) (fun (i1,i2,a3,l4) =>
  aL ((mC w_2 k_5 i1 i2 a3 l4).run) fun (a8,a9,l10) =>
  (F8 a8 a9 l10).run)))
theorem Hy(v_0:Lv)(w_1:Int)(w_2:Int)(v_3:Lv)(w_4:List Nat)(k_5:Int){x:bZ}(h:az w_1 w_2 w_4 k_5=some x) :aB prog xy [] [.iptr v_0 (.vs [.int .i64 w_1,.int .i64 w_2,.imm v_3 (.fl w_4) 1 1 0 (List.length w_4)]) 1 0 0,.int .i64 k_5] (oZ x) :=
  mo false oZ yh h (Sg.cut 2 nM (aV jv (Sum.elim (Hs v_0 w_1 w_2 v_3 w_4 k_5) (Ht v_0 w_1 w_2 v_3 w_4 k_5)) [⟨[],[144],[0,1,5]⟩,⟨[],[144,80,81],[0,1,5]⟩]) (sga (fun _=>Sg.cut 1 nM (aV jv Hu [⟨[],[209],[4]⟩]) (fun ⟨a5,a6,l7⟩=>aV jv lx [⟨[],[0],[4]⟩])) (fun ⟨i1,i2,a3,l4⟩=>Sg.cut 1 nM (aV jv Hx [⟨[],[211],[4]⟩,⟨[],[211],[4]⟩]) (fun ⟨a8,a9,l10⟩=>aV jv lx [⟨[],[0],[4]⟩]))))
    (fun x=>by cases x with | r0 a11 a12 l13=>exact ly [.sl 0 1 1 0 a11 a12])
def iv:Option bZ→Bool
  | some _=>true
  | none=>false
def aJ:Option bZ→Nat
  | some (.r0 x _ _)=>x
  | _=>0
def sA:Option bZ→Nat
  | some (.r0 _ x _)=>x
  | _=>0
def aG:Option bZ→List Nat
  | some (.r0 _ _ x)=>x
  | _=>[]
theorem Hz{x:Option bZ}(h:iv x=true) :x=some (.r0 (aJ x) (sA x) (aG x)):=by
  unfold iv at h
  split at h<;>first | rfl | (cases h;done) | (rename_i y;cases y;rfl)
noncomputable def yj:aK:=cy xy (.cons (.ivs (.cons (.int .i64) (.cons (.int .i64) (.cons .fl .nil))) 1 0 0) (.cons (.int .i64) .nil)) fun t=>(fun q=>[⟨oZ (.r0 (aJ q) (sA q) (aG q)),[iv q]⟩]) (az t.1.2.1 t.1.2.2.1 t.1.2.2.2.1.2 t.2.1)
theorem Ea:aY prog yj:=ba fun t=>(aZ (fun h=>Hy t.1.1 t.1.2.1 t.1.2.2.1 t.1.2.2.2.1.1 t.1.2.2.2.1.2 t.2.1 (Hz h)) bj)
noncomputable def yk:List aK:=yj::IJ
theorem jw:aW prog (aT yk):=aF Ea jv
inductive br where
  | r0 (a4:Nat)
def eB:br→AE×aM
  | .r0 a4=>(.ret,⟨aq 18 [(4,.flt false a4)],[],0⟩)
theorem gz:ld eB:=by intro x;cases x<;>(intro h;cases h)
theorem sG(id:Nat) :ko id eB:=by intro x;cases x<;>(intro h;cases h)
def gZ:br→ib
  | .r0 a4=>⟨.flt false a4,[]⟩
noncomputable def sH:List Code:=cg (kB ny)
def sI(n_0:Int)(v_1:Lv)(one_2:Int)(one_3:Int)(v_4:Lv)(one_5:List Nat)(v_6:Lv)(one_7:Int)(v_8:Lv)(one_9:Int)(v_10:Lv)(v_11:Lv)(one_12:List Nat)(one_13:Nat)(_:Unit) :aM:=⟨aq 18 [(1,.fn (.func nP) [] [.iptr v_1 (.vs [.int .i64 one_2,.int .i64 one_3,.imm v_4 (.fl one_5) 1 1 0 (List.length one_5)]) 1 0 0,.iptr v_6 (.vs [.int .i64 one_7]) 1 0 0,.iptr v_8 (.vs [.int .i64 one_9]) 1 0 0,.iptr v_10 (.vs [.imm v_11 (.fl one_12) 1 1 0 (List.length one_12),.flt false one_13]) 1 0 0]),(5,.flt false 0),(7,.int .i64 n_0),(8,.int .i64 (0:Int))],[],0⟩
def sJ:T ((Unit)⊕(br)) :=
  .leaf (.inl ())
def dZ(n_0:Int)(v_1:Lv)(one_2:Int)(one_3:Int)(v_4:Lv)(one_5:List Nat)(v_6:Lv)(one_7:Int)(v_8:Lv)(one_9:Int)(v_10:Lv)(v_11:Lv)(one_12:List Nat)(one_13:Nat) :Nat×Nat→aM:=fun (s1,a2)=>⟨aq 18 [(1,.fn (.func nP) [] [.iptr v_1 (.vs [.int .i64 one_2,.int .i64 one_3,.imm v_4 (.fl one_5) 1 1 0 (List.length one_5)]) 1 0 0,.iptr v_6 (.vs [.int .i64 one_7]) 1 0 0,.iptr v_8 (.vs [.int .i64 one_9]) 1 0 0,.iptr v_10 (.vs [.imm v_11 (.fl one_12) 1 1 0 (List.length one_12),.flt false one_13]) 1 0 0]),(5,.flt false s1),(7,.int .i64 n_0),(8,.int .i64 ((a2:Nat):Int))],[],0⟩
def kC(s3:Nat) :aM:=⟨aq 18 [(5,.flt false s3)],[],0⟩
noncomputable def sK:List Code:=cg (cw ((((sH.drop 3).take 1)).headD .skip))
def gA(n_0:Int)(one_3:Int)(one_5:List Nat)(one_7:Int)(one_9:Int)(one_12:List Nat)(s1:Nat)(a2:Nat) :T ((Nat×Nat)⊕((Nat)⊕(br))) :=
  .ask (decide (((a2:Nat):Int)<n_0))
    (.need (cK .i64 (one_7*one_3))<|.need (cK .i64 ((one_7*one_3)+one_9))<|.need (cK .i64 (((one_7*one_3)+one_9)+((a2:Nat):Int)))<|.need (fi (((one_7*one_3)+one_9)+((a2:Nat):Int)) (List.length one_5))<|.need (eS (Int.toNat (((one_7*one_3)+one_9)+((a2:Nat):Int))) (List.length one_5))<|.need (fi ((a2:Nat):Int) (List.length one_12))<|.need (eS a2 (List.length one_12))<|.need (cK .i64 (((a2+1):Nat):Int))<|.leaf (.inl ((Aq s1 (eY (List.getD one_5 (Int.toNat (((one_7*one_3)+one_9)+((a2:Nat):Int))) 0) (List.getD one_12 a2 0))),(a2+1))))
    (.leaf (.inr (.inl s1)))
noncomputable def fZ(n_0:Int)(one_3:Int)(one_5:List Nat)(one_7:Int)(one_9:Int)(one_12:List Nat) :Nat×Nat→Option ((Nat×Nat)⊕((Nat)⊕(br))):=fun (s1,a2) =>
  (gA n_0 one_3 one_5 one_7 one_9 one_12 s1 a2).run
theorem rI(n_0:Int)(v_1:Lv)(one_2:Int)(one_3:Int)(v_4:Lv)(one_5:List Nat)(v_6:Lv)(one_7:Int)(v_8:Lv)(one_9:Int)(v_10:Lv)(v_11:Lv)(one_12:List Nat)(one_13:Nat)(s1:Nat)(a2:Nat) :Sg prog [] sK (dZ n_0 v_1 one_2 one_3 v_4 one_5 v_6 one_7 v_8 one_9 v_10 v_11 one_12 one_13 (s1,a2)) (fZ n_0 one_3 one_5 one_7 one_9 one_12 (s1,a2)) (dZ n_0 v_1 one_2 one_3 v_4 one_5 v_6 one_7 v_8 one_9 v_10 v_11 one_12 one_13) (bS 0 kC eB):=by
  unfold fZ;exact aV jw (dZ n_0 v_1 one_2 one_3 v_4 one_5 v_6 one_7 v_8 one_9 v_10 v_11 one_12 one_13) [⟨[],[],[1,5,7,8]⟩,⟨[],[],[5]⟩]
def rJ(s3:Nat) :T ((Empty)⊕(br)) :=
  .leaf (.inr (.r0 s3))
noncomputable def dr(n_0:Int)(one_3:Int)(one_5:List Nat)(one_7:Int)(one_9:Int)(one_12:List Nat) :Option br:=lG (aL ((sJ).run) fun _ =>
  aL (ch (fZ n_0 one_3 one_5 one_7 one_9 one_12) (0,0)) fun s3 =>
  (rJ s3).run)
theorem sL(n_0:Int)(v_1:Lv)(one_2:Int)(one_3:Int)(v_4:Lv)(one_5:List Nat)(v_6:Lv)(one_7:Int)(v_8:Lv)(one_9:Int)(v_10:Lv)(v_11:Lv)(one_12:List Nat)(one_13:Nat){x:br}(h:dr n_0 one_3 one_5 one_7 one_9 one_12=some x) :aB prog ny [] [.int .i64 n_0,.fn (.func nP) [] [.iptr v_1 (.vs [.int .i64 one_2,.int .i64 one_3,.imm v_4 (.fl one_5) 1 1 0 (List.length one_5)]) 1 0 0,.iptr v_6 (.vs [.int .i64 one_7]) 1 0 0,.iptr v_8 (.vs [.int .i64 one_9]) 1 0 0,.iptr v_10 (.vs [.imm v_11 (.fl one_12) 1 1 0 (List.length one_12),.flt false one_13]) 1 0 0]] (gZ x) :=
  mo false gZ eB h (Sg.cut 3 gz (aV jw (sI n_0 v_1 one_2 one_3 v_4 one_5 v_6 one_7 v_8 one_9 v_10 v_11 one_12 one_13) [⟨[],[],[1,5,7,8]⟩]) (fun _=>Sg.cut 1 gz (vg ⟨[],[],[1,5,7,8]⟩ (dZ n_0 v_1 one_2 one_3 v_4 one_5 v_6 one_7 v_8 one_9 v_10 v_11 one_12 one_13) (kC) 0 gz (sG _) (fun ⟨s1,a2⟩=>rI n_0 v_1 one_2 one_3 v_4 one_5 v_6 one_7 v_8 one_9 v_10 v_11 one_12 one_13 s1 a2)) (fun s3=>aV jw lx [⟨[],[],[4]⟩])))
    (fun x=>by cases x with | r0 a4=>exact ly [.flt false a4])
def ed:Option br→Bool
  | some _=>true
  | none=>false
def fI:Option br→Nat
  | some (.r0 x)=>x
  | _=>0
theorem sM{x:Option br}(h:ed x=true) :x=some (.r0 (fI x)):=by
  unfold ed at h
  split at h<;>first | rfl | (cases h;done) | (rename_i y;cases y;rfl)
noncomputable def kV:aK:=cy ny (.cons (.int .i64) (.cons (.fn nP .nil (.cons (.ivs (.cons (.int .i64) (.cons (.int .i64) (.cons .fl .nil))) 1 0 0) (.cons (.ivs (.cons (.int .i64) .nil) 1 0 0) (.cons (.ivs (.cons (.int .i64) .nil) 1 0 0) (.cons (.ivs (.cons .fl (.cons (.flt false) .nil)) 1 0 0) .nil))))) .nil)) fun t=>(fun q=>[⟨gZ (.r0 (fI q)),[ed q]⟩]) (dr t.1 t.2.1.2.1.2.2.1 t.2.1.2.1.2.2.2.1.2 t.2.1.2.2.1.2.1 t.2.1.2.2.2.1.2.1 t.2.1.2.2.2.2.1.2.1.2)
theorem qy:aY prog kV:=ba fun t=>(aZ (fun h=>sL t.1 t.2.1.2.1.1 t.2.1.2.1.2.1 t.2.1.2.1.2.2.1 t.2.1.2.1.2.2.2.1.1 t.2.1.2.1.2.2.2.1.2 t.2.1.2.2.1.1 t.2.1.2.2.1.2.1 t.2.1.2.2.2.1.1 t.2.1.2.2.2.1.2.1 t.2.1.2.2.2.2.1.1 t.2.1.2.2.2.2.1.2.1.1 t.2.1.2.2.2.2.1.2.1.2 t.2.1.2.2.2.2.1.2.2.1 (sM h)) bj)
noncomputable def kW:List aK:=kV::yk
theorem bi:aW prog (aT kW):=aF qy jw
inductive bF where
  | r0 (a18:Nat) (i19:Int) (i20:Int) (a21:Nat) (l22:List Nat)
def nj:bF→AE×aM
  | .r0 a18 i19 i20 a21 l22=>(.ret,⟨aq 103 [(8,.ptr 0 1 0 0),(9,.int .i64 ((a18:Nat):Int))],[(0,.vs [.int .i64 i19,.int .i64 i20,.sl 1 1 1 0 a21 a21]),(1,.fl l22)],2⟩)
theorem dj:ld nj:=by intro x;cases x<;>(intro h;cases h)
theorem wk(id:Nat) :ko id nj:=by intro x;cases x<;>(intro h;cases h)
def yZ:bF→ib
  | .r0 a18 i19 i20 a21 l22=>⟨.tup [.agg [.int .i64 i19,.int .i64 i20,.imm .free (.fl l22) 1 1 0 a21],.int .i64 ((a18:Nat):Int)],[]⟩
noncomputable def NM:List Code:=cg (kB qF)
def P6(a_0:Int)(a_1:Int)(v_2:Lv)(a_3:List Nat)(at_4:Int)(from_5:Int)(v_6:Lv)(h_7:List Nat)(h_8:Nat)(b1:Bool) :aM:=⟨aq 103 [(2,.int .i64 from_5),(4,.ptr 0 1 0 0),(5,.ptr 1 1 0 0),(7,.ptr 2 1 0 0),(8,.ptr 3 1 0 0),(31,.bool false b1)],[(0,.vs [.int .i64 a_0,.int .i64 a_1,.imm v_2 (.fl a_3) 1 1 0 (List.length a_3)]),(1,.vs [.int .i64 at_4]),(2,.vs [.imm v_6 (.fl h_7) 1 1 0 (List.length h_7),.flt false h_8]),(3,.vs [.int .i64 (0:Int),.int .i64 (0:Int),.nsl])],4⟩
def Cg(a_0:Int)(a_1:Int)(a_3:List Nat)(at_4:Int)(from_5:Int)(h_7:List Nat) :T ((Bool)⊕(bF)) :=
  .need (bL 0 (List.length a_3) a_3)<|.need (oX (lp a_0 a_1 (an 0 (List.length a_3) a_3)))<|.ask (!(pB (lp a_0 a_1 (an 0 (List.length a_3) a_3))))
    (.leaf (.inl true))
    (.ask ((((List.length h_7):Nat):Int)==(0:Int))
      (.leaf (.inl true))
      (.ask (decide (at_4<(0:Int)))
        (.leaf (.inl true))
        (.leaf (.inl (decide (from_5<(0:Int)))))))
def P7(a_0:Int)(a_1:Int)(v_2:Lv)(a_3:List Nat)(at_4:Int)(from_5:Int)(v_6:Lv)(h_7:List Nat)(h_8:Nat)(b2:Bool) :aM:=⟨aq 103 [(2,.int .i64 from_5),(4,.ptr 0 1 0 0),(5,.ptr 1 1 0 0),(7,.ptr 2 1 0 0),(8,.ptr 3 1 0 0),(46,.bool false b2)],[(0,.vs [.int .i64 a_0,.int .i64 a_1,.imm v_2 (.fl a_3) 1 1 0 (List.length a_3)]),(1,.vs [.int .i64 at_4]),(2,.vs [.imm v_6 (.fl h_7) 1 1 0 (List.length h_7),.flt false h_8]),(3,.vs [.int .i64 (0:Int),.int .i64 (0:Int),.nsl])],4⟩
def Ch(a_0:Int)(a_1:Int)(at_4:Int)(from_5:Int)(h_7:List Nat)(b1:Bool) :T ((Bool)⊕(bF)) :=
  .ask b1
    (.leaf (.inr (.r0 2 (0:Int) (0:Int) 0 ([]:List Nat))))
    (.need (cK .i64 (a_1-(((List.length h_7):Nat):Int)))<|.ask (decide (at_4>(a_1-(((List.length h_7):Nat):Int))))
      (.leaf (.inl true))
      (.leaf (.inl (decide (from_5>a_0)))))
def P8(a_0:Int)(a_1:Int)(v_2:Lv)(a_3:List Nat)(at_4:Int)(from_5:Int)(v_6:Lv)(h_7:List Nat)(h_8:Nat) :Nat×(List Nat)→aM:=fun (a3,l4)=>⟨aq 103 [(4,.ptr 0 1 0 0),(5,.ptr 1 1 0 0),(7,.ptr 2 1 0 0),(8,.ptr 3 1 0 0),(10,.ptr 4 1 0 0),(11,.ptr 5 1 0 0)],[(0,.vs [.int .i64 a_0,.int .i64 a_1,.imm v_2 (.fl a_3) 1 1 0 (List.length a_3)]),(1,.vs [.int .i64 at_4]),(2,.vs [.imm v_6 (.fl h_7) 1 1 0 (List.length h_7),.flt false h_8]),(3,.vs [.int .i64 (0:Int),.int .i64 (0:Int),.nsl]),(4,.vs [.int .i64 a_0,.int .i64 a_1,.sl 6 1 1 0 a3 a3]),(5,.vs [.int .i64 from_5]),(6,.fl l4)],7⟩
def um(a_0:Int)(a_1:Int)(a_3:List Nat)(h_8:Nat)(b2:Bool) :T ((Nat×(List Nat))⊕(bF)) :=
  .ask b2
    (.leaf (.inr (.r0 8 (0:Int) (0:Int) 0 ([]:List Nat))))
    (.need (bL 0 (List.length a_3) a_3)<|.need (ap (List.length (an 0 (List.length a_3) a_3)))<|.ask (yp h_8 0)
      (.leaf (.inr (.r0 0 a_0 a_1 (List.length (an 0 (List.length a_3) a_3)) (an 0 (List.length a_3) a_3))))
      (.leaf (.inl ((List.length (an 0 (List.length a_3) a_3)),(an 0 (List.length a_3) a_3)))))
def nY(a_0:Int)(a_1:Int)(v_2:Lv)(a_3:List Nat)(at_4:Int)(v_6:Lv)(h_7:List Nat)(h_8:Nat)(a3:Nat) :Int×(List Nat)→aM:=fun (i10,l11)=>⟨aq 103 [(4,.ptr 0 1 0 0),(5,.ptr 1 1 0 0),(7,.ptr 2 1 0 0),(8,.ptr 3 1 0 0),(10,.ptr 4 1 0 0),(11,.ptr 5 1 0 0)],[(0,.vs [.int .i64 a_0,.int .i64 a_1,.imm v_2 (.fl a_3) 1 1 0 (List.length a_3)]),(1,.vs [.int .i64 at_4]),(2,.vs [.imm v_6 (.fl h_7) 1 1 0 (List.length h_7),.flt false h_8]),(3,.vs [.int .i64 (0:Int),.int .i64 (0:Int),.nsl]),(4,.vs [.int .i64 a_0,.int .i64 a_1,.sl 6 1 1 0 a3 a3]),(5,.vs [.int .i64 i10]),(6,.fl l11)],7⟩
def un(a_0:Int)(a_1:Int)(a3:Nat)(l17:(List Nat)) :aM:=⟨aq 103 [(8,.ptr 0 1 0 0),(10,.ptr 1 1 0 0)],[(0,.vs [.int .i64 (0:Int),.int .i64 (0:Int),.nsl]),(1,.vs [.int .i64 a_0,.int .i64 a_1,.sl 2 1 1 0 a3 a3]),(2,.fl l17)],3⟩
noncomputable def Ci:List Code:=cg (cw ((((((NM.drop 2).drop 2).drop 5).take 1)).headD .skip))
def NN(a_0:Int)(a_1:Int)(v_2:Lv)(a_3:List Nat)(at_4:Int)(v_6:Lv)(h_7:List Nat)(h_8:Nat)(a3:Nat)(i10:Int)(l11:List Nat)(_:Unit) :aM:=⟨aq 103 [(4,.ptr 0 1 0 0),(5,.ptr 1 1 0 0),(7,.ptr 2 1 0 0),(8,.ptr 3 1 0 0),(10,.ptr 4 1 0 0),(11,.ptr 5 1 0 0)],[(0,.vs [.int .i64 a_0,.int .i64 a_1,.imm v_2 (.fl a_3) 1 1 0 (List.length a_3)]),(1,.vs [.int .i64 at_4]),(2,.vs [.imm v_6 (.fl h_7) 1 1 0 (List.length h_7),.flt false h_8]),(3,.vs [.int .i64 (0:Int),.int .i64 (0:Int),.nsl]),(4,.vs [.int .i64 a_0,.int .i64 a_1,.sl 6 1 1 0 a3 a3]),(5,.vs [.int .i64 i10]),(6,.fl l11)],7⟩
def uo(a_0:Int)(i10:Int)(l11:List Nat) :T ((Unit)⊕(((List Nat))⊕(bF))) :=
  .ask (decide (i10<a_0))
    (.leaf (.inl ()))
    (.leaf (.inr (.inl l11)))
def uq(a_0:Int)(a_1:Int)(v_2:Lv)(a_3:List Nat)(at_4:Int)(v_6:Lv)(h_7:List Nat)(h_8:Nat)(a3:Nat)(i10:Int)(l16:(List Nat)) :aM:=⟨aq 103 [(4,.ptr 0 1 0 0),(5,.ptr 1 1 0 0),(7,.ptr 2 1 0 0),(8,.ptr 3 1 0 0),(10,.ptr 4 1 0 0),(11,.ptr 5 1 0 0)],[(0,.vs [.int .i64 a_0,.int .i64 a_1,.imm v_2 (.fl a_3) 1 1 0 (List.length a_3)]),(1,.vs [.int .i64 at_4]),(2,.vs [.imm v_6 (.fl h_7) 1 1 0 (List.length h_7),.flt false h_8]),(3,.vs [.int .i64 (0:Int),.int .i64 (0:Int),.nsl]),(4,.vs [.int .i64 a_0,.int .i64 a_1,.sl 6 1 1 0 a3 a3]),(5,.vs [.int .i64 i10]),(6,.fl l16)],7⟩
noncomputable def NO:List Code:=cg (inBlock ((((Ci.drop 2).take 1)).headD .skip))
def NP(a_0:Int)(a_1:Int)(v_2:Lv)(a_3:List Nat)(at_4:Int)(v_6:Lv)(h_7:List Nat)(h_8:Nat)(a3:Nat)(i10:Int)(l11:List Nat)(w12:Nat) :aM:=⟨aq 103 [(4,.ptr 0 1 0 0),(5,.ptr 1 1 0 0),(7,.ptr 2 1 0 0),(8,.ptr 3 1 0 0),(10,.ptr 4 1 0 0),(11,.ptr 5 1 0 0),(12,.flt false w12)],[(0,.vs [.int .i64 a_0,.int .i64 a_1,.imm v_2 (.fl a_3) 1 1 0 (List.length a_3)]),(1,.vs [.int .i64 at_4]),(2,.vs [.imm v_6 (.fl h_7) 1 1 0 (List.length h_7),.flt false h_8]),(3,.vs [.int .i64 (0:Int),.int .i64 (0:Int),.nsl]),(4,.vs [.int .i64 a_0,.int .i64 a_1,.sl 6 1 1 0 a3 a3]),(5,.vs [.int .i64 i10]),(6,.fl l11)],7⟩
def Cj(a_1:Int)(a_3:List Nat)(at_4:Int)(h_7:List Nat)(h_8:Nat)(i10:Int) :T ((Nat)⊕(((List Nat))⊕(((List Nat))⊕(bF)))) :=
  .need (bL 0 (List.length a_3) a_3)<|.need (bL 0 (List.length h_7) h_7)<|.need (ed (dr (((List.length h_7):Nat):Int) a_1 (an 0 (List.length a_3) a_3) i10 at_4 (an 0 (List.length h_7) h_7)))<|.leaf (.inl (eY h_8 (fI (dr (((List.length h_7):Nat):Int) a_1 (an 0 (List.length a_3) a_3) i10 at_4 (an 0 (List.length h_7) h_7)))))
def NQ(a_0:Int)(a_1:Int)(v_2:Lv)(a_3:List Nat)(at_4:Int)(v_6:Lv)(h_7:List Nat)(h_8:Nat)(a3:Nat)(i10:Int)(l11:List Nat)(w12:Nat)(_:Unit) :aM:=⟨aq 103 [(4,.ptr 0 1 0 0),(5,.ptr 1 1 0 0),(7,.ptr 2 1 0 0),(8,.ptr 3 1 0 0),(10,.ptr 4 1 0 0),(11,.ptr 5 1 0 0),(12,.flt false w12),(76,.imm v_6 (.fl h_7) 1 1 0 (List.length h_7)),(77,.int .i64 (((List.length h_7):Nat):Int)),(78,.int .i64 (0:Int))],[(0,.vs [.int .i64 a_0,.int .i64 a_1,.imm v_2 (.fl a_3) 1 1 0 (List.length a_3)]),(1,.vs [.int .i64 at_4]),(2,.vs [.imm v_6 (.fl h_7) 1 1 0 (List.length h_7),.flt false h_8]),(3,.vs [.int .i64 (0:Int),.int .i64 (0:Int),.nsl]),(4,.vs [.int .i64 a_0,.int .i64 a_1,.sl 6 1 1 0 a3 a3]),(5,.vs [.int .i64 i10]),(6,.fl l11)],7⟩
def NR:T ((Unit)⊕(((List Nat))⊕(((List Nat))⊕(bF)))) :=
  .leaf (.inl ())
def nZ(a_0:Int)(a_1:Int)(v_2:Lv)(a_3:List Nat)(at_4:Int)(v_6:Lv)(h_7:List Nat)(h_8:Nat)(a3:Nat)(i10:Int)(w12:Nat) :Nat×(List Nat)→aM:=fun (a13,l14)=>⟨aq 103 [(4,.ptr 0 1 0 0),(5,.ptr 1 1 0 0),(7,.ptr 2 1 0 0),(8,.ptr 3 1 0 0),(10,.ptr 4 1 0 0),(11,.ptr 5 1 0 0),(12,.flt false w12),(76,.imm v_6 (.fl h_7) 1 1 0 (List.length h_7)),(77,.int .i64 (((List.length h_7):Nat):Int)),(78,.int .i64 ((a13:Nat):Int))],[(0,.vs [.int .i64 a_0,.int .i64 a_1,.imm v_2 (.fl a_3) 1 1 0 (List.length a_3)]),(1,.vs [.int .i64 at_4]),(2,.vs [.imm v_6 (.fl h_7) 1 1 0 (List.length h_7),.flt false h_8]),(3,.vs [.int .i64 (0:Int),.int .i64 (0:Int),.nsl]),(4,.vs [.int .i64 a_0,.int .i64 a_1,.sl 6 1 1 0 a3 a3]),(5,.vs [.int .i64 i10]),(6,.fl l14)],7⟩
def Ck(a_0:Int)(a_1:Int)(v_2:Lv)(a_3:List Nat)(at_4:Int)(v_6:Lv)(h_7:List Nat)(h_8:Nat)(a3:Nat)(i10:Int)(l15:(List Nat)) :aM:=⟨aq 103 [(4,.ptr 0 1 0 0),(5,.ptr 1 1 0 0),(7,.ptr 2 1 0 0),(8,.ptr 3 1 0 0),(10,.ptr 4 1 0 0),(11,.ptr 5 1 0 0)],[(0,.vs [.int .i64 a_0,.int .i64 a_1,.imm v_2 (.fl a_3) 1 1 0 (List.length a_3)]),(1,.vs [.int .i64 at_4]),(2,.vs [.imm v_6 (.fl h_7) 1 1 0 (List.length h_7),.flt false h_8]),(3,.vs [.int .i64 (0:Int),.int .i64 (0:Int),.nsl]),(4,.vs [.int .i64 a_0,.int .i64 a_1,.sl 6 1 1 0 a3 a3]),(5,.vs [.int .i64 i10]),(6,.fl l15)],7⟩
noncomputable def NT:List Code:=cg (cw (((((NO.drop 1).drop 1).take 1)).headD .skip))
def ur(a_1:Int)(at_4:Int)(h_7:List Nat)(a3:Nat)(i10:Int)(w12:Nat)(a13:Nat)(l14:List Nat) :T ((Nat×(List Nat))⊕(((List Nat))⊕(((List Nat))⊕(((List Nat))⊕(bF))))) :=
  .ask (decide (((a13:Nat):Int)<(((List.length h_7):Nat):Int)))
    (.need (fi ((a13:Nat):Int) (List.length h_7))<|.need (eS a13 (List.length h_7))<|.need (cK .i64 (i10*a_1))<|.need (cK .i64 ((i10*a_1)+at_4))<|.need (cK .i64 (((i10*a_1)+at_4)+((a13:Nat):Int)))<|.need (fi (((i10*a_1)+at_4)+((a13:Nat):Int)) a3)<|.need (eS (Int.toNat (((i10*a_1)+at_4)+((a13:Nat):Int))) (List.length l14))<|.need (fi (((i10*a_1)+at_4)+((a13:Nat):Int)) a3)<|.need (eS (Int.toNat (((i10*a_1)+at_4)+((a13:Nat):Int))) (List.length l14))<|.need (cK .i64 (((a13+1):Nat):Int))<|.leaf (.inl ((a13+1),(List.set l14 (Int.toNat (((i10*a_1)+at_4)+((a13:Nat):Int))) (sO (List.getD l14 (Int.toNat (((i10*a_1)+at_4)+((a13:Nat):Int))) 0) (eY w12 (List.getD h_7 a13 0)))))))
    (.leaf (.inr (.inl l14)))
noncomputable def oa(a_1:Int)(at_4:Int)(h_7:List Nat)(a3:Nat)(i10:Int)(w12:Nat) :Nat×(List Nat)→Option ((Nat×(List Nat))⊕(((List Nat))⊕(((List Nat))⊕(((List Nat))⊕(bF))))):=fun (a13,l14) =>
  (ur a_1 at_4 h_7 a3 i10 w12 a13 l14).run
theorem NU(a_0:Int)(a_1:Int)(v_2:Lv)(a_3:List Nat)(at_4:Int)(v_6:Lv)(h_7:List Nat)(h_8:Nat)(a3:Nat)(i10:Int)(w12:Nat)(a13:Nat)(l14:List Nat) :Sg prog [] NT (nZ a_0 a_1 v_2 a_3 at_4 v_6 h_7 h_8 a3 i10 w12 (a13,l14)) (oa a_1 at_4 h_7 a3 i10 w12 (a13,l14)) (nZ a_0 a_1 v_2 a_3 at_4 v_6 h_7 h_8 a3 i10 w12) (bS 2 (Ck a_0 a_1 v_2 a_3 at_4 v_6 h_7 h_8 a3 i10) (bS 1 (uq a_0 a_1 v_2 a_3 at_4 v_6 h_7 h_8 a3 i10) (bS 0 (un a_0 a_1 a3) nj))):=by
  unfold oa;exact aV bi (nZ a_0 a_1 v_2 a_3 at_4 v_6 h_7 h_8 a3 i10 w12) [⟨[],[0,1,2,3,4,5,6],[4,5,7,8,10,11,12,76,77,78]⟩,⟨[],[0,1,2,3,4,5,6],[4,5,7,8,10,11]⟩]
def NV(l15:List Nat) :T (((List Nat))⊕(((List Nat))⊕(((List Nat))⊕(bF)))) :=
  .leaf (.inl l15)
def NW(i10:Int)(l16:List Nat) :T ((Int×(List Nat))⊕(((List Nat))⊕(bF))) :=
  .need (cK .i64 (i10+(1:Int)))<|.leaf (.inl ((i10+(1:Int)),l16))
noncomputable def ut(a_0:Int)(a_1:Int)(a_3:List Nat)(at_4:Int)(h_7:List Nat)(h_8:Nat)(a3:Nat) :Int×(List Nat)→Option ((Int×(List Nat))⊕(((List Nat))⊕(bF))):=fun (i10,l11) =>
  aL ((uo a_0 i10 l11).run) fun _ =>
  aL (vj (aL ((Cj a_1 a_3 at_4 h_7 h_8 i10).run) fun w12 =>
  aL ((NR).run) fun _ =>
  aL (ch (oa a_1 at_4 h_7 a3 i10 w12) (0,l11)) fun l15 =>
  (NV l15).run)) fun l16 =>
  (NW i10 l16).run
theorem NX(a_0:Int)(a_1:Int)(v_2:Lv)(a_3:List Nat)(at_4:Int)(v_6:Lv)(h_7:List Nat)(h_8:Nat)(a3:Nat)(i10:Int)(l11:List Nat) :Sg prog [] Ci (nY a_0 a_1 v_2 a_3 at_4 v_6 h_7 h_8 a3 (i10,l11)) (ut a_0 a_1 a_3 at_4 h_7 h_8 a3 (i10,l11)) (nY a_0 a_1 v_2 a_3 at_4 v_6 h_7 h_8 a3) (bS 0 (un a_0 a_1 a3) nj):=by
  unfold ut;exact Sg.cut 2 (aD dj) (aV bi (NN a_0 a_1 v_2 a_3 at_4 v_6 h_7 h_8 a3 i10 l11) [⟨[],[0,1,2,3,4,5,6],[4,5,7,8,10,11]⟩,⟨[],[3,4,6],[8,10]⟩]) (fun _=>Sg.cut 1 (aD dj) (sgb (uq a_0 a_1 v_2 a_3 at_4 v_6 h_7 h_8 a3 i10) 1 (aD dj) (ck (by decide) (wk _)) (Sg.cut 1 (aD (aD dj)) (aV bi (NP a_0 a_1 v_2 a_3 at_4 v_6 h_7 h_8 a3 i10 l11) [⟨[],[0,1,2,3,4,5,6],[4,5,7,8,10,11,12]⟩]) (fun w12=>Sg.cut 1 (aD (aD dj)) (aV bi (NQ a_0 a_1 v_2 a_3 at_4 v_6 h_7 h_8 a3 i10 l11 w12) [⟨[],[0,1,2,3,4,5,6],[4,5,7,8,10,11,12,76,77,78]⟩]) (fun _=>Sg.cut 1 (aD (aD dj)) (vg ⟨[],[0,1,2,3,4,5,6],[4,5,7,8,10,11,12,76,77,78]⟩ (nZ a_0 a_1 v_2 a_3 at_4 v_6 h_7 h_8 a3 i10 w12) (Ck a_0 a_1 v_2 a_3 at_4 v_6 h_7 h_8 a3 i10) 2 (aD (aD dj)) (ck (by decide) (ck (by decide) (wk _))) (fun ⟨a13,l14⟩=>NU a_0 a_1 v_2 a_3 at_4 v_6 h_7 h_8 a3 i10 w12 a13 l14)) (fun l15=>aV bi (uq a_0 a_1 v_2 a_3 at_4 v_6 h_7 h_8 a3 i10) [⟨[],[0,1,2,3,4,5,6],[4,5,7,8,10,11]⟩]))))) (fun l16=>aV bi (nY a_0 a_1 v_2 a_3 at_4 v_6 h_7 h_8 a3) [⟨[],[0,1,2,3,4,23,6],[4,5,7,8,10,11]⟩]))
def NY(a_0:Int)(a_1:Int)(a3:Nat)(l17:List Nat) :T ((Empty)⊕(bF)) :=
  .leaf (.inr (.r0 0 a_0 a_1 a3 l17))
noncomputable def ic(a_0:Int)(a_1:Int)(a_3:List Nat)(at_4:Int)(from_5:Int)(h_7:List Nat)(h_8:Nat) :Option bF:=lG (aL ((Cg a_0 a_1 a_3 at_4 from_5 h_7).run) fun b1 =>
  aL ((Ch a_0 a_1 at_4 from_5 h_7 b1).run) fun b2 =>
  aL ((um a_0 a_1 a_3 h_8 b2).run) fun (a3,l4) =>
  aL (ch (ut a_0 a_1 a_3 at_4 h_7 h_8 a3) (from_5,l4)) fun l17 =>
  (NY a_0 a_1 a3 l17).run)
theorem P9(a_0:Int)(a_1:Int)(v_2:Lv)(a_3:List Nat)(at_4:Int)(from_5:Int)(v_6:Lv)(h_7:List Nat)(h_8:Nat){x:bF}(h:ic a_0 a_1 a_3 at_4 from_5 h_7 h_8=some x) :aB prog qF [] [.agg [.int .i64 a_0,.int .i64 a_1,.imm v_2 (.fl a_3) 1 1 0 (List.length a_3)],.int .i64 at_4,.int .i64 from_5,.agg [.imm v_6 (.fl h_7) 1 1 0 (List.length h_7),.flt false h_8]] (yZ x) :=
  mo true yZ nj h (Sg.cut 2 dj (aV bi (P6 a_0 a_1 v_2 a_3 at_4 from_5 v_6 h_7 h_8) [⟨[],[0,16,32,48],[2,4,5,7,8,31]⟩,⟨[],[0,16,32,48],[2,4,5,7,8,31]⟩,⟨[],[0,16,32,48],[2,4,5,7,8,31]⟩,⟨[],[0,16,32,48],[2,4,5,7,8,31]⟩]) (fun b1=>Sg.cut 2 dj (aV bi (P7 a_0 a_1 v_2 a_3 at_4 from_5 v_6 h_7 h_8) [⟨[(.cell 3 2,.own 1 1 (.fl ([]:List Nat)))],[3,52],[8,9]⟩,⟨[],[0,1,2,3],[2,4,5,7,8,46]⟩,⟨[],[0,1,2,3],[2,4,5,7,8,46]⟩]) (fun b2=>Sg.cut 5 dj (aV bi (P8 a_0 a_1 v_2 a_3 at_4 from_5 v_6 h_7 h_8) [⟨[(.cell 3 2,.own 1 1 (.fl ([]:List Nat)))],[3,52],[8,9]⟩,⟨[],[3,100],[8,9]⟩,⟨[],[0,1,2,3,132,228,100],[4,5,7,8,10,11]⟩]) (fun ⟨a3,l4⟩=>Sg.cut 1 dj (vg ⟨[],[0,1,2,3,4,5,6],[4,5,7,8,10,11]⟩ (nY a_0 a_1 v_2 a_3 at_4 v_6 h_7 h_8 a3) (un a_0 a_1 a3) 0 dj (wk _) (fun ⟨i10,l11⟩=>NX a_0 a_1 v_2 a_3 at_4 v_6 h_7 h_8 a3 i10 l11)) (fun l17=>aV bi lx [⟨[],[0,2],[8,9]⟩])))))
    (fun x=>by cases x with | r0 a18 i19 i20 a21 l22=>exact ly [.agg [.int .i64 i19,.int .i64 i20,.sl 1 1 1 0 a21 a21],.int .i64 ((a18:Nat):Int)])
def pH:Option bF→Bool
  | some _=>true
  | none=>false
def A4:Option bF→Nat
  | some (.r0 x _ _ _ _)=>x
  | _=>0
def rK:Option bF→Int
  | some (.r0 _ x _ _ _)=>x
  | _=>0
def rL:Option bF→Int
  | some (.r0 _ _ x _ _)=>x
  | _=>0
def rM:Option bF→Nat
  | some (.r0 _ _ _ x _)=>x
  | _=>0
def rO:Option bF→List Nat
  | some (.r0 _ _ _ _ x)=>x
  | _=>[]
theorem Qa{x:Option bF}(h:pH x=true) :x=some (.r0 (A4 x) (rK x) (rL x) (rM x) (rO x)):=by
  unfold pH at h
  split at h<;>first | rfl | (cases h;done) | (rename_i y;cases y;rfl)
noncomputable def GJ:aK:=cy qF (.cons (.agg (.cons (.int .i64) (.cons (.int .i64) (.cons .fl .nil)))) (.cons (.int .i64) (.cons (.int .i64) (.cons (.agg (.cons .fl (.cons (.flt false) .nil))) .nil)))) fun t=>(fun q=>[⟨yZ (.r0 (A4 q) (rK q) (rL q) (rM q) (rO q)),[pH q]⟩]) (ic t.1.1 t.1.2.1 t.1.2.2.1.2 t.2.1 t.2.2.1 t.2.2.2.1.1.2 t.2.2.2.1.2.1)
theorem Mb:aY prog GJ:=ba fun t=>(aZ (fun h=>P9 t.1.1 t.1.2.1 t.1.2.2.1.1 t.1.2.2.1.2 t.2.1 t.2.2.1 t.2.2.2.1.1.1 t.2.2.2.1.1.2 t.2.2.2.1.2.1 (Qa h)) bj)
noncomputable def GM:List aK:=GJ::kW
theorem dd:aW prog (aT GM):=aF Mb bi
inductive bb where
  | r0 (a149:Nat) (a150:Nat) (a151:Nat) (a152:Nat) (a153:Nat) (a154:Nat) (a155:Nat) (a156:Nat) (a157:Nat) (a158:Nat) (l159:List (List Nat)) (l160:List Nat) (a161:Nat) (l162:List (List Nat)) (l163:List Nat) (l164:List Nat) (l165:List Nat)
def qO:bb→AE×aM
  | .r0 a149 a150 a151 a152 a153 a154 a155 a156 a157 a158 l159 l160 a161 l162 l163 l164 l165=>(.ret,⟨aq 133 [(2,.ptr 0 1 0 0),(3,.sl 1 2 2 0 a149 a150),(4,.sl 2 2 2 0 a151 a152),(5,.int .i64 ((a153:Nat):Int))],[(0,.vs [.sl 3 1 1 0 a154 a155,.sl 4 1 1 0 a156 a157]),(1,.cols a158 [.cfl l159,.cf l160]),(2,.cols a161 [.cfl l162,.cf l163]),(3,.fl l164),(4,.fl l165)],5⟩)
theorem da:ld qO:=by intro x;cases x<;>(intro h;cases h)
theorem pI(id:Nat) :ko id qO:=by intro x;cases x<;>(intro h;cases h)
def za:bb→ib
  | .r0 a149 a150 a151 a152 a153 a154 a155 a156 a157 a158 l159 l160 a161 l162 l163 l164 l165=>⟨.tup [.agg [.sl 0 1 1 0 a154 a155,.sl 1 1 1 0 a156 a157],.sl 2 2 2 0 a149 a150,.sl 3 2 2 0 a151 a152,.int .i64 ((a153:Nat):Int)],[some (.fl l164),some (.fl l165),some (.cols a158 [.cfl l159,.cf l160]),some (.cols a161 [.cfl l162,.cf l163])]⟩
noncomputable def NZ:List Code:=cg (kB yx)
def Qb(a_0:Int)(a_1:Int)(v_2:Lv)(a_3:List Nat)(e1:Nat) :aM:=⟨aq 133 [(1,.ptr 0 1 0 0),(2,.ptr 1 1 0 0),(7,.int .i64 ((e1:Nat):Int))],[(0,.vs [.int .i64 a_0,.int .i64 a_1,.imm v_2 (.fl a_3) 1 1 0 (List.length a_3)]),(1,.vs [.nsl,.nsl])],2⟩
def Cl(a_0:Int)(a_1:Int)(a_3:List Nat) :T ((Nat)⊕(bb)) :=
  .alt 0
    (.need (bL 0 (List.length a_3) a_3)<|.need (vW (gi a_0 a_1 (an 0 (List.length a_3) a_3)))<|.leaf (.inl 2))
    (.alt 1
      (.need (bL 0 (List.length a_3) a_3)<|.need (vX (gi a_0 a_1 (an 0 (List.length a_3) a_3)))<|.leaf (.inl 0))
      (.fail))
def Eb(a_0:Int)(a_1:Int)(v_2:Lv)(a_3:List Nat)(_:Unit) :aM:=⟨aq 133 [(1,.ptr 0 1 0 0),(2,.ptr 1 1 0 0)],[(0,.vs [.int .i64 a_0,.int .i64 a_1,.imm v_2 (.fl a_3) 1 1 0 (List.length a_3)]),(1,.vs [.nsl,.nsl])],2⟩
def Cm(a_0:Int)(a_1:Int)(a_3:List Nat)(e1:Nat) :T ((Unit)⊕((Unit)⊕(bb))) :=
  .ask (((e1:Nat):Int) != (0:Int))
    (.leaf (.inr (.inr (.r0 0 0 0 0 e1 0 0 0 0 0 ([]:List (List Nat)) ([]:List Nat) 0 ([]:List (List Nat)) ([]:List Nat) ([]:List Nat) ([]:List Nat)))))
    (.ask (decide (a_0<a_1))
      (.leaf (.inr (.inr (.r0 0 0 0 0 8 0 0 0 0 0 ([]:List (List Nat)) ([]:List Nat) 0 ([]:List (List Nat)) ([]:List Nat) ([]:List Nat) ([]:List Nat)))))
      (.need (bL 0 (List.length a_3) a_3)<|.need (dn (cR (an 0 (List.length a_3) a_3)))<|.ask (decide ((er (cR (an 0 (List.length a_3) a_3)))≥(0:Int)))
        (.leaf (.inr (.inr (.r0 0 0 0 0 10 0 0 0 0 0 ([]:List (List Nat)) ([]:List Nat) 0 ([]:List (List Nat)) ([]:List Nat) ([]:List Nat) ([]:List Nat)))))
        (.leaf (.inl ()))))
def Qc(a_0:Int)(a_1:Int)(v_2:Lv)(a_3:List Nat)(_:Unit) :aM:=⟨aq 133 [(1,.ptr 0 1 0 0),(2,.ptr 1 1 0 0),(8,.ptr 2 1 0 0),(9,.nsl),(10,.nsl),(11,.ptr 3 1 0 0),(45,.int .i64 a_1),(46,.int .i64 (0:Int))],[(0,.vs [.int .i64 a_0,.int .i64 a_1,.imm v_2 (.fl a_3) 1 1 0 (List.length a_3)]),(1,.vs [.nsl,.nsl]),(2,.vs [.nsl,.nsl]),(3,.vs [.int .i64 a_0,.int .i64 a_1,.imm v_2 (.fl a_3) 1 1 0 (List.length a_3)])],4⟩
def N2:T ((Unit)⊕(bb)) :=
  .leaf (.inl ())
def oc(a_0:Int)(a_1:Int)(v_2:Lv)(a_3:List Nat) :Nat×Nat×Nat×Nat×Nat×Nat×Nat×Nat×Nat×Nat×(List (List Nat))×(List Nat)×Nat×(List (List Nat))×(List Nat)×Int×Int×(List Nat)×Nat×(List Nat)×(List Nat)→aM:=fun (l70,l71,r72,r73,a74,a75,a76,a77,a78,a79,l80,l81,a82,l83,l84,i85,i86,l87,a88,l89,l90)=>⟨aq 133 [(1,.ptr 0 1 0 0),(2,.ptr 1 1 0 0),(8,.ptr 2 1 0 0),(9,.sl 3 2 2 0 l70 l71),(10,.sl 4 2 2 0 r72 r73),(11,.ptr 5 1 0 0),(45,.int .i64 a_1),(46,.int .i64 ((a74:Nat):Int))],[(0,.vs [.int .i64 a_0,.int .i64 a_1,.imm v_2 (.fl a_3) 1 1 0 (List.length a_3)]),(1,.vs [.nsl,.nsl]),(2,.vs [.sl 6 1 1 0 a75 a76,.sl 7 1 1 0 a77 a78]),(3,.cols a79 [.cfl l80,.cf l81]),(4,.cols a82 [.cfl l83,.cf l84]),(5,.vs [.int .i64 i85,.int .i64 i86,.imm v_2 (.fl l87) 1 1 0 a88]),(6,.fl l89),(7,.fl l90)],8⟩
def Cn:Nat×Nat×Nat×Nat×Nat×Nat×Nat×Nat×Nat×(List (List Nat))×(List Nat)×Nat×(List (List Nat))×(List Nat)×(List Nat)×(List Nat)→aM:=fun (l133,l134,r135,r136,a137,a138,a139,a140,a141,l142,l143,a144,l145,l146,l147,l148)=>⟨aq 133 [(2,.ptr 0 1 0 0),(8,.ptr 1 1 0 0),(9,.sl 2 2 2 0 l133 l134),(10,.sl 3 2 2 0 r135 r136)],[(0,.vs [.nsl,.nsl]),(1,.vs [.sl 4 1 1 0 a137 a138,.sl 5 1 1 0 a139 a140]),(2,.cols a141 [.cfl l142,.cf l143]),(3,.cols a144 [.cfl l145,.cf l146]),(4,.fl l147),(5,.fl l148)],6⟩
noncomputable def N3:List Code:=cg (cw ((((((NZ.drop 2).drop 1).drop 4).take 1)).headD .skip))
def N4(a_0:Int)(a_1:Int)(v_2:Lv)(a_3:List Nat)(l70:Nat)(l71:Nat)(r72:Nat)(r73:Nat)(a74:Nat)(a75:Nat)(a76:Nat)(a77:Nat)(a78:Nat)(a79:Nat)(l80:List (List Nat))(l81:List Nat)(a82:Nat)(l83:List (List Nat))(l84:List Nat)(i85:Int)(i86:Int)(l87:List Nat)(a88:Nat)(l89:List Nat)(l90:List Nat)(_:Unit) :aM:=⟨aq 133 [(1,.ptr 0 1 0 0),(2,.ptr 1 1 0 0),(8,.ptr 2 1 0 0),(9,.sl 3 2 2 0 l70 l71),(10,.sl 4 2 2 0 r72 r73),(11,.ptr 5 1 0 0),(45,.int .i64 a_1),(46,.int .i64 ((a74:Nat):Int))],[(0,.vs [.int .i64 a_0,.int .i64 a_1,.imm v_2 (.fl a_3) 1 1 0 (List.length a_3)]),(1,.vs [.nsl,.nsl]),(2,.vs [.sl 6 1 1 0 a75 a76,.sl 7 1 1 0 a77 a78]),(3,.cols a79 [.cfl l80,.cf l81]),(4,.cols a82 [.cfl l83,.cf l84]),(5,.vs [.int .i64 i85,.int .i64 i86,.imm v_2 (.fl l87) 1 1 0 a88]),(6,.fl l89),(7,.fl l90)],8⟩
def N5(a_1:Int)(l70:Nat)(l71:Nat)(r72:Nat)(r73:Nat)(a74:Nat)(a75:Nat)(a76:Nat)(a77:Nat)(a78:Nat)(a79:Nat)(l80:List (List Nat))(l81:List Nat)(a82:Nat)(l83:List (List Nat))(l84:List Nat)(l89:List Nat)(l90:List Nat) :T ((Unit)⊕((Nat×Nat×Nat×Nat×Nat×Nat×Nat×Nat×Nat×(List (List Nat))×(List Nat)×Nat×(List (List Nat))×(List Nat)×(List Nat)×(List Nat))⊕(bb))) :=
  .ask (decide (((a74:Nat):Int)<a_1))
    (.leaf (.inl ()))
    (.leaf (.inr (.inl (l70,l71,r72,r73,a75,a76,a77,a78,a79,l80,l81,a82,l83,l84,l89,l90))))
def Co(a_0:Int)(a_1:Int)(v_2:Lv)(a_3:List Nat)(a74:Nat) :Nat×Nat×Nat×Nat×Nat×Nat×(List (List Nat))×(List Nat)×Nat×(List (List Nat))×(List Nat)×Int×Int×(List Nat)×Nat×(List Nat)×(List Nat)→aM:=fun (l116,r117,r118,a119,a120,a121,l122,l123,a124,l125,l126,i127,i128,l129,a130,l131,l132)=>⟨aq 133 [(1,.ptr 0 1 0 0),(2,.ptr 1 1 0 0),(8,.ptr 2 1 0 0),(9,.sl 3 2 2 0 l116 l116),(10,.sl 4 2 2 0 r117 r118),(11,.ptr 5 1 0 0),(45,.int .i64 a_1),(46,.int .i64 ((a74:Nat):Int))],[(0,.vs [.int .i64 a_0,.int .i64 a_1,.imm v_2 (.fl a_3) 1 1 0 (List.length a_3)]),(1,.vs [.nsl,.nsl]),(2,.vs [.sl 6 1 1 0 a119 a119,.sl 7 1 1 0 a120 a121]),(3,.cols l116 [.cfl l122,.cf l123]),(4,.cols a124 [.cfl l125,.cf l126]),(5,.vs [.int .i64 i127,.int .i64 i128,.imm .free (.fl l129) 1 1 0 a130]),(6,.fl l131),(7,.fl l132)],8⟩
def N6(a_0:Int)(a_1:Int)(v_2:Lv)(a_3:List Nat)(l70:Nat)(l71:Nat)(r72:Nat)(r73:Nat)(a74:Nat)(a75:Nat)(a76:Nat)(a77:Nat)(a78:Nat)(a79:Nat)(l80:List (List Nat))(l81:List Nat)(a82:Nat)(l83:List (List Nat))(l84:List Nat)(i85:Int)(i86:Int)(l87:List Nat)(a88:Nat)(l89:List Nat)(l90:List Nat) :Nat×(List Nat)×Nat×Nat→aM:=fun (beta91,l92,a93,a94)=>⟨aq 133 [(1,.ptr 0 1 0 0),(2,.ptr 1 1 0 0),(8,.ptr 2 1 0 0),(9,.sl 3 2 2 0 l70 l71),(10,.sl 4 2 2 0 r72 r73),(11,.ptr 5 1 0 0),(12,.int .i64 ((a74:Nat):Int)),(13,.ptr 6 1 0 0),(14,.flt false beta91),(45,.int .i64 a_1),(46,.int .i64 ((a74:Nat):Int))],[(0,.vs [.int .i64 a_0,.int .i64 a_1,.imm v_2 (.fl a_3) 1 1 0 (List.length a_3)]),(1,.vs [.nsl,.nsl]),(2,.vs [.sl 7 1 1 0 a75 a76,.sl 8 1 1 0 a77 a78]),(3,.cols a79 [.cfl l80,.cf l81]),(4,.cols a82 [.cfl l83,.cf l84]),(5,.vs [.int .i64 i85,.int .i64 i86,.imm v_2 (.fl l87) 1 1 0 a88]),(6,.vs [.imm .free (.fl l92) 1 1 0 a93,.flt false a94]),(7,.fl l89),(8,.fl l90)],9⟩
def uu(a74:Nat)(i85:Int)(i86:Int)(l87:List Nat)(a88:Nat) :T ((Nat×(List Nat)×Nat×Nat)⊕((Nat×Nat×Nat×Nat×Nat×Nat×(List (List Nat))×(List Nat)×Nat×(List (List Nat))×(List Nat)×Int×Int×(List Nat)×Nat×(List Nat)×(List Nat))⊕((Nat×Nat×Nat×Nat×Nat×Nat×Nat×Nat×Nat×(List (List Nat))×(List Nat)×Nat×(List (List Nat))×(List Nat)×(List Nat)×(List Nat))⊕(bb)))) :=
  .need (bL 0 a88 l87)<|.need (iU (bt i85 i86 (an 0 a88 l87) ((a74:Nat):Int)))<|.need (bL 0 (cA (bt i85 i86 (an 0 a88 l87) ((a74:Nat):Int))) (cB (bt i85 i86 (an 0 a88 l87) ((a74:Nat):Int))))<|.need (ni (bh (an 0 (cA (bt i85 i86 (an 0 a88 l87) ((a74:Nat):Int))) (cB (bt i85 i86 (an 0 a88 l87) ((a74:Nat):Int))))))<|.leaf (.inl ((ju (bh (an 0 (cA (bt i85 i86 (an 0 a88 l87) ((a74:Nat):Int))) (cB (bt i85 i86 (an 0 a88 l87) ((a74:Nat):Int)))))),(dc (bh (an 0 (cA (bt i85 i86 (an 0 a88 l87) ((a74:Nat):Int))) (cB (bt i85 i86 (an 0 a88 l87) ((a74:Nat):Int)))))),(db (bh (an 0 (cA (bt i85 i86 (an 0 a88 l87) ((a74:Nat):Int))) (cB (bt i85 i86 (an 0 a88 l87) ((a74:Nat):Int)))))),(dO (bh (an 0 (cA (bt i85 i86 (an 0 a88 l87) ((a74:Nat):Int))) (cB (bt i85 i86 (an 0 a88 l87) ((a74:Nat):Int))))))))
def N7(a_0:Int)(a_1:Int)(v_2:Lv)(a_3:List Nat)(r72:Nat)(r73:Nat)(a74:Nat)(a77:Nat)(a78:Nat)(a82:Nat)(l83:List (List Nat))(l84:List Nat)(l90:List Nat) :Nat×Nat×(List (List Nat))×(List Nat)×Int×Int×(List Nat)×Nat×(List Nat)→aM:=fun (l95,a96,l97,l98,i99,i100,l101,a102,l103)=>⟨aq 133 [(1,.ptr 0 1 0 0),(2,.ptr 1 1 0 0),(8,.ptr 2 1 0 0),(9,.sl 3 2 2 0 l95 l95),(10,.sl 4 2 2 0 r72 r73),(11,.ptr 5 1 0 0),(12,.int .i64 ((a74:Nat):Int)),(45,.int .i64 a_1),(46,.int .i64 ((a74:Nat):Int))],[(0,.vs [.int .i64 a_0,.int .i64 a_1,.imm v_2 (.fl a_3) 1 1 0 (List.length a_3)]),(1,.vs [.nsl,.nsl]),(2,.vs [.sl 6 1 1 0 a96 a96,.sl 7 1 1 0 a77 a78]),(3,.cols l95 [.cfl l97,.cf l98]),(4,.cols a82 [.cfl l83,.cf l84]),(5,.vs [.int .i64 i99,.int .i64 i100,.imm .free (.fl l101) 1 1 0 a102]),(6,.fl l103),(7,.fl l90)],8⟩
def uv(l70:Nat)(a74:Nat)(a75:Nat)(a79:Nat)(l80:List (List Nat))(l81:List Nat)(i85:Int)(i86:Int)(l87:List Nat)(a88:Nat)(l89:List Nat)(beta91:Nat)(l92:List Nat)(a93:Nat)(a94:Nat) :T ((Nat×Nat×(List (List Nat))×(List Nat)×Int×Int×(List Nat)×Nat×(List Nat))⊕((Nat×Nat×Nat×Nat×Nat×Nat×(List (List Nat))×(List Nat)×Nat×(List (List Nat))×(List Nat)×Int×Int×(List Nat)×Nat×(List Nat)×(List Nat))⊕((Nat×Nat×Nat×Nat×Nat×Nat×Nat×Nat×Nat×(List (List Nat))×(List Nat)×Nat×(List (List Nat))×(List Nat)×(List Nat)×(List Nat))⊕(bb)))) :=
  .need (dK ((a75+1)*8) 140737488355328)<|.need (dK (a75+1) 9223372036854775807)<|.need (dK 1 (List.length [beta91]))<|.need (dK a75 (List.length l89))<|.need (dK ((l70+1)*32) 140737488355328)<|.need (dK (l70+1) 9223372036854775807)<|.need (dK 2 2)<|.need (dK l70 a79)<|.need (decide (0+a93≤List.length l92))<|.need (cK .i64 (((a74+1):Nat):Int))<|.need (bL 0 a88 l87)<|.need (bL 0 a93 l92)<|.need (qN (jk i85 i86 (an 0 a88 l87) ((a74:Nat):Int) (((a74+1):Nat):Int) (an 0 a93 l92) a94))<|.leaf (.inl ((l70+1),(a75+1),((List.take l70 l80)++[(List.take a93 (List.drop 0 l92))]),((List.take l70 l81)++[a94]),(ui (jk i85 i86 (an 0 a88 l87) ((a74:Nat):Int) (((a74+1):Nat):Int) (an 0 a93 l92) a94)),(uj (jk i85 i86 (an 0 a88 l87) ((a74:Nat):Int) (((a74+1):Nat):Int) (an 0 a93 l92) a94)),(ul (jk i85 i86 (an 0 a88 l87) ((a74:Nat):Int) (((a74+1):Nat):Int) (an 0 a93 l92) a94)),(uk (jk i85 i86 (an 0 a88 l87) ((a74:Nat):Int) (((a74+1):Nat):Int) (an 0 a93 l92) a94)),((List.take a75 l89)++(List.take 1 [beta91]))))
def Cp(a_0:Int)(a_1:Int)(v_2:Lv)(a_3:List Nat)(a74:Nat)(l95:Nat)(a96:Nat)(l97:List (List Nat))(l98:List Nat)(l103:List Nat) :Nat×Nat×Nat×Nat×Nat×(List (List Nat))×(List Nat)×Int×Int×(List Nat)×Nat×(List Nat)→aM:=fun (r104,r105,a106,a107,a108,l109,l110,i111,i112,l113,a114,l115)=>⟨aq 133 [(1,.ptr 0 1 0 0),(2,.ptr 1 1 0 0),(8,.ptr 2 1 0 0),(9,.sl 3 2 2 0 l95 l95),(10,.sl 4 2 2 0 r104 r105),(11,.ptr 5 1 0 0),(45,.int .i64 a_1),(46,.int .i64 ((a74:Nat):Int))],[(0,.vs [.int .i64 a_0,.int .i64 a_1,.imm v_2 (.fl a_3) 1 1 0 (List.length a_3)]),(1,.vs [.nsl,.nsl]),(2,.vs [.sl 6 1 1 0 a96 a96,.sl 7 1 1 0 a106 a107]),(3,.cols l95 [.cfl l97,.cf l98]),(4,.cols a108 [.cfl l109,.cf l110]),(5,.vs [.int .i64 i111,.int .i64 i112,.imm .free (.fl l113) 1 1 0 a114]),(6,.fl l103),(7,.fl l115)],8⟩
def od(a_1:Int)(r72:Nat)(r73:Nat)(a74:Nat)(a77:Nat)(a78:Nat)(a82:Nat)(l83:List (List Nat))(l84:List Nat)(l90:List Nat)(i99:Int)(i100:Int)(l101:List Nat)(a102:Nat) :T ((Nat×Nat×Nat×Nat×Nat×(List (List Nat))×(List Nat)×Int×Int×(List Nat)×Nat×(List Nat))⊕((Nat×Nat×Nat×Nat×Nat×(List (List Nat))×(List Nat)×Int×Int×(List Nat)×Nat×(List Nat))⊕((Nat×Nat×Nat×Nat×Nat×Nat×(List (List Nat))×(List Nat)×Nat×(List (List Nat))×(List Nat)×Int×Int×(List Nat)×Nat×(List Nat)×(List Nat))⊕((Nat×Nat×Nat×Nat×Nat×Nat×Nat×Nat×Nat×(List (List Nat))×(List Nat)×Nat×(List (List Nat))×(List Nat)×(List Nat)×(List Nat))⊕(bb))))) :=
  .need (cK .i64 (((a74+2):Nat):Int))<|.ask (decide ((((a74+2):Nat):Int)<a_1))
    (.need (bL 0 a102 l101)<|.need (iv (az i99 i100 (an 0 a102 l101) ((a74:Nat):Int)))<|.need (bL 0 (aJ (az i99 i100 (an 0 a102 l101) ((a74:Nat):Int))) (aG (az i99 i100 (an 0 a102 l101) ((a74:Nat):Int))))<|.need (ni (bh (an 0 (aJ (az i99 i100 (an 0 a102 l101) ((a74:Nat):Int))) (aG (az i99 i100 (an 0 a102 l101) ((a74:Nat):Int))))))<|.need (dK ((a77+1)*8) 140737488355328)<|.need (dK (a77+1) 9223372036854775807)<|.need (dK 1 (List.length [(ju (bh (an 0 (aJ (az i99 i100 (an 0 a102 l101) ((a74:Nat):Int))) (aG (az i99 i100 (an 0 a102 l101) ((a74:Nat):Int))))))]))<|.need (dK a77 (List.length l90))<|.need (dK ((r72+1)*32) 140737488355328)<|.need (dK (r72+1) 9223372036854775807)<|.need (dK 2 2)<|.need (dK r72 a82)<|.need (decide (0+(db (bh (an 0 (aJ (az i99 i100 (an 0 a102 l101) ((a74:Nat):Int))) (aG (az i99 i100 (an 0 a102 l101) ((a74:Nat):Int))))))≤List.length (dc (bh (an 0 (aJ (az i99 i100 (an 0 a102 l101) ((a74:Nat):Int))) (aG (az i99 i100 (an 0 a102 l101) ((a74:Nat):Int))))))))<|.need (cK .i64 (((a74+1):Nat):Int))<|.need (cK .i64 (((a74+1):Nat):Int))<|.need (bL 0 a102 l101)<|.need (bL 0 (db (bh (an 0 (aJ (az i99 i100 (an 0 a102 l101) ((a74:Nat):Int))) (aG (az i99 i100 (an 0 a102 l101) ((a74:Nat):Int)))))) (dc (bh (an 0 (aJ (az i99 i100 (an 0 a102 l101) ((a74:Nat):Int))) (aG (az i99 i100 (an 0 a102 l101) ((a74:Nat):Int)))))))<|.need (pH (ic i99 i100 (an 0 a102 l101) (((a74+1):Nat):Int) (((a74+1):Nat):Int) (an 0 (db (bh (an 0 (aJ (az i99 i100 (an 0 a102 l101) ((a74:Nat):Int))) (aG (az i99 i100 (an 0 a102 l101) ((a74:Nat):Int)))))) (dc (bh (an 0 (aJ (az i99 i100 (an 0 a102 l101) ((a74:Nat):Int))) (aG (az i99 i100 (an 0 a102 l101) ((a74:Nat):Int))))))) (dO (bh (an 0 (aJ (az i99 i100 (an 0 a102 l101) ((a74:Nat):Int))) (aG (az i99 i100 (an 0 a102 l101) ((a74:Nat):Int))))))))<|.leaf (.inl ((r72+1),(r72+1),(a77+1),(a77+1),(r72+1),((List.take r72 l83)++[(List.take (db (bh (an 0 (aJ (az i99 i100 (an 0 a102 l101) ((a74:Nat):Int))) (aG (az i99 i100 (an 0 a102 l101) ((a74:Nat):Int)))))) (List.drop 0 (dc (bh (an 0 (aJ (az i99 i100 (an 0 a102 l101) ((a74:Nat):Int))) (aG (az i99 i100 (an 0 a102 l101) ((a74:Nat):Int))))))))]),((List.take r72 l84)++[(dO (bh (an 0 (aJ (az i99 i100 (an 0 a102 l101) ((a74:Nat):Int))) (aG (az i99 i100 (an 0 a102 l101) ((a74:Nat):Int))))))]),(rK (ic i99 i100 (an 0 a102 l101) (((a74+1):Nat):Int) (((a74+1):Nat):Int) (an 0 (db (bh (an 0 (aJ (az i99 i100 (an 0 a102 l101) ((a74:Nat):Int))) (aG (az i99 i100 (an 0 a102 l101) ((a74:Nat):Int)))))) (dc (bh (an 0 (aJ (az i99 i100 (an 0 a102 l101) ((a74:Nat):Int))) (aG (az i99 i100 (an 0 a102 l101) ((a74:Nat):Int))))))) (dO (bh (an 0 (aJ (az i99 i100 (an 0 a102 l101) ((a74:Nat):Int))) (aG (az i99 i100 (an 0 a102 l101) ((a74:Nat):Int)))))))),(rL (ic i99 i100 (an 0 a102 l101) (((a74+1):Nat):Int) (((a74+1):Nat):Int) (an 0 (db (bh (an 0 (aJ (az i99 i100 (an 0 a102 l101) ((a74:Nat):Int))) (aG (az i99 i100 (an 0 a102 l101) ((a74:Nat):Int)))))) (dc (bh (an 0 (aJ (az i99 i100 (an 0 a102 l101) ((a74:Nat):Int))) (aG (az i99 i100 (an 0 a102 l101) ((a74:Nat):Int))))))) (dO (bh (an 0 (aJ (az i99 i100 (an 0 a102 l101) ((a74:Nat):Int))) (aG (az i99 i100 (an 0 a102 l101) ((a74:Nat):Int)))))))),(rO (ic i99 i100 (an 0 a102 l101) (((a74+1):Nat):Int) (((a74+1):Nat):Int) (an 0 (db (bh (an 0 (aJ (az i99 i100 (an 0 a102 l101) ((a74:Nat):Int))) (aG (az i99 i100 (an 0 a102 l101) ((a74:Nat):Int)))))) (dc (bh (an 0 (aJ (az i99 i100 (an 0 a102 l101) ((a74:Nat):Int))) (aG (az i99 i100 (an 0 a102 l101) ((a74:Nat):Int))))))) (dO (bh (an 0 (aJ (az i99 i100 (an 0 a102 l101) ((a74:Nat):Int))) (aG (az i99 i100 (an 0 a102 l101) ((a74:Nat):Int)))))))),(rM (ic i99 i100 (an 0 a102 l101) (((a74+1):Nat):Int) (((a74+1):Nat):Int) (an 0 (db (bh (an 0 (aJ (az i99 i100 (an 0 a102 l101) ((a74:Nat):Int))) (aG (az i99 i100 (an 0 a102 l101) ((a74:Nat):Int)))))) (dc (bh (an 0 (aJ (az i99 i100 (an 0 a102 l101) ((a74:Nat):Int))) (aG (az i99 i100 (an 0 a102 l101) ((a74:Nat):Int))))))) (dO (bh (an 0 (aJ (az i99 i100 (an 0 a102 l101) ((a74:Nat):Int))) (aG (az i99 i100 (an 0 a102 l101) ((a74:Nat):Int)))))))),((List.take a77 l90)++(List.take 1 [(ju (bh (an 0 (aJ (az i99 i100 (an 0 a102 l101) ((a74:Nat):Int))) (aG (az i99 i100 (an 0 a102 l101) ((a74:Nat):Int))))))])))))
    (.need (cK .i64 (((a74+2):Nat):Int))<|.ask ((((a74+2):Nat):Int)==a_1)
      (.need (bL 0 a102 l101)<|.need (iv (az i99 i100 (an 0 a102 l101) ((a74:Nat):Int)))<|.need (fi (0:Int) (aJ (az i99 i100 (an 0 a102 l101) ((a74:Nat):Int))))<|.need (eS 0 (List.length (aG (az i99 i100 (an 0 a102 l101) ((a74:Nat):Int)))))<|.need (dK ((a77+1)*8) 140737488355328)<|.need (dK (a77+1) 9223372036854775807)<|.need (dK 1 (List.length [(List.getD (aG (az i99 i100 (an 0 a102 l101) ((a74:Nat):Int))) 0 0)]))<|.need (dK a77 (List.length l90))<|.leaf (.inl (r72,r73,(a77+1),(a77+1),a82,l83,l84,i99,i100,l101,a102,((List.take a77 l90)++(List.take 1 [(List.getD (aG (az i99 i100 (an 0 a102 l101) ((a74:Nat):Int))) 0 0)])))))
      (.leaf (.inl (r72,r73,a77,a78,a82,l83,l84,i99,i100,l101,a102,l90))))
def N8(l95:Nat)(a96:Nat)(l97:List (List Nat))(l98:List Nat)(l103:List Nat)(r104:Nat)(r105:Nat)(a106:Nat)(a107:Nat)(a108:Nat)(l109:List (List Nat))(l110:List Nat)(i111:Int)(i112:Int)(l113:List Nat)(a114:Nat)(l115:List Nat) :T ((Nat×Nat×Nat×Nat×Nat×Nat×(List (List Nat))×(List Nat)×Nat×(List (List Nat))×(List Nat)×Int×Int×(List Nat)×Nat×(List Nat)×(List Nat))⊕((Nat×Nat×Nat×Nat×Nat×Nat×(List (List Nat))×(List Nat)×Nat×(List (List Nat))×(List Nat)×Int×Int×(List Nat)×Nat×(List Nat)×(List Nat))⊕((Nat×Nat×Nat×Nat×Nat×Nat×Nat×Nat×Nat×(List (List Nat))×(List Nat)×Nat×(List (List Nat))×(List Nat)×(List Nat)×(List Nat))⊕(bb)))) :=
  .leaf (.inl (l95,r104,r105,a96,a106,a107,l97,l98,a108,l109,l110,i111,i112,l113,a114,l103,l115))
def N9(a74:Nat)(l116:Nat)(r117:Nat)(r118:Nat)(a119:Nat)(a120:Nat)(a121:Nat)(l122:List (List Nat))(l123:List Nat)(a124:Nat)(l125:List (List Nat))(l126:List Nat)(i127:Int)(i128:Int)(l129:List Nat)(a130:Nat)(l131:List Nat)(l132:List Nat) :T ((Nat×Nat×Nat×Nat×Nat×Nat×Nat×Nat×Nat×Nat×(List (List Nat))×(List Nat)×Nat×(List (List Nat))×(List Nat)×Int×Int×(List Nat)×Nat×(List Nat)×(List Nat))⊕((Nat×Nat×Nat×Nat×Nat×Nat×Nat×Nat×Nat×(List (List Nat))×(List Nat)×Nat×(List (List Nat))×(List Nat)×(List Nat)×(List Nat))⊕(bb))) :=
  .need (cK .i64 (((a74+1):Nat):Int))<|.leaf (.inl (l116,l116,r117,r118,(a74+1),a119,a119,a120,a121,l116,l122,l123,a124,l125,l126,i127,i128,l129,a130,l131,l132))
noncomputable def oe(a_1:Int) :Nat×Nat×Nat×Nat×Nat×Nat×Nat×Nat×Nat×Nat×(List (List Nat))×(List Nat)×Nat×(List (List Nat))×(List Nat)×Int×Int×(List Nat)×Nat×(List Nat)×(List Nat)→Option ((Nat×Nat×Nat×Nat×Nat×Nat×Nat×Nat×Nat×Nat×(List (List Nat))×(List Nat)×Nat×(List (List Nat))×(List Nat)×Int×Int×(List Nat)×Nat×(List Nat)×(List Nat))⊕((Nat×Nat×Nat×Nat×Nat×Nat×Nat×Nat×Nat×(List (List Nat))×(List Nat)×Nat×(List (List Nat))×(List Nat)×(List Nat)×(List Nat))⊕(bb))):=fun (l70,l71,r72,r73,a74,a75,a76,a77,a78,a79,l80,l81,a82,l83,l84,i85,i86,l87,a88,l89,l90) =>
  aL ((N5 a_1 l70 l71 r72 r73 a74 a75 a76 a77 a78 a79 l80 l81 a82 l83 l84 l89 l90).run) fun _ =>
  aL (vj (aL ((uu a74 i85 i86 l87 a88).run) fun (beta91,l92,a93,a94) =>
  aL ((uv l70 a74 a75 a79 l80 l81 i85 i86 l87 a88 l89 beta91 l92 a93 a94).run) fun (l95,a96,l97,l98,i99,i100,l101,a102,l103) =>
  aL (vj ((od a_1 r72 r73 a74 a77 a78 a82 l83 l84 l90 i99 i100 l101 a102).run)) fun (r104,r105,a106,a107,a108,l109,l110,i111,i112,l113,a114,l115) =>
  (N8 l95 a96 l97 l98 l103 r104 r105 a106 a107 a108 l109 l110 i111 i112 l113 a114 l115).run)) fun (l116,r117,r118,a119,a120,a121,l122,l123,a124,l125,l126,i127,i128,l129,a130,l131,l132) =>
  (N9 a74 l116 r117 r118 a119 a120 a121 l122 l123 a124 l125 l126 i127 i128 l129 a130 l131 l132).run
theorem Oa(a_0:Int)(a_1:Int)(v_2:Lv)(a_3:List Nat)(l70:Nat)(l71:Nat)(r72:Nat)(r73:Nat)(a74:Nat)(a75:Nat)(a76:Nat)(a77:Nat)(a78:Nat)(a79:Nat)(l80:List (List Nat))(l81:List Nat)(a82:Nat)(l83:List (List Nat))(l84:List Nat)(i85:Int)(i86:Int)(l87:List Nat)(a88:Nat)(l89:List Nat)(l90:List Nat) :Sg prog [] N3 (oc a_0 a_1 v_2 a_3 (l70,l71,r72,r73,a74,a75,a76,a77,a78,a79,l80,l81,a82,l83,l84,i85,i86,l87,a88,l89,l90)) (oe a_1 (l70,l71,r72,r73,a74,a75,a76,a77,a78,a79,l80,l81,a82,l83,l84,i85,i86,l87,a88,l89,l90)) (oc a_0 a_1 v_2 a_3) (bS 1 Cn qO):=by
  unfold oe;exact Sg.cut 2 (aD da) (aV dd (N4 a_0 a_1 v_2 a_3 l70 l71 r72 r73 a74 a75 a76 a77 a78 a79 l80 l81 a82 l83 l84 i85 i86 l87 a88 l89 l90) [⟨[],[0,1,2,3,4,5,6,7],[1,2,8,9,10,11,45,46]⟩,⟨[],[1,2,3,4,6,7],[2,8,9,10]⟩]) (fun _=>Sg.cut 1 (aD da) (sgb (Co a_0 a_1 v_2 a_3 a74) 2 (aD da) (ck (by decide) (pI _)) (Sg.cut 2 (aD (aD da)) (aV dd (N6 a_0 a_1 v_2 a_3 l70 l71 r72 r73 a74 a75 a76 a77 a78 a79 l80 l81 a82 l83 l84 i85 i86 l87 a88 l89 l90) [⟨[],[0,1,2,3,4,5,168,6,7],[1,2,8,9,10,11,12,13,14,45,46]⟩]) (fun ⟨beta91,l92,a93,a94⟩=>Sg.cut 2 (aD (aD da)) (aV dd (N7 a_0 a_1 v_2 a_3 r72 r73 a74 a77 a78 a82 l83 l84 l90) [⟨[],[0,1,2,137,4,5,73,8],[1,2,8,9,10,11,12,45,46]⟩]) (fun ⟨l95,a96,l97,l98,i99,i100,l101,a102,l103⟩=>Sg.cut 1 (aD (aD da)) (sgb (Cp a_0 a_1 v_2 a_3 a74 l95 a96 l97 l98 l103) 3 (aD (aD da)) (ck (by decide) (ck (by decide) (pI _))) (aV dd (Cp a_0 a_1 v_2 a_3 a74 l95 a96 l97 l98 l103) [⟨[],[0,1,2,3,424,5,6,360],[1,2,8,9,10,11,45,46]⟩,⟨[],[0,1,2,3,4,5,6,328],[1,2,8,9,10,11,45,46]⟩,⟨[],[0,1,2,3,4,5,6,7],[1,2,8,9,10,11,45,46]⟩])) (fun ⟨r104,r105,a106,a107,a108,l109,l110,i111,i112,l113,a114,l115⟩=>aV dd (Co a_0 a_1 v_2 a_3 a74) [⟨[],[0,1,2,3,4,5,6,7],[1,2,8,9,10,11,45,46]⟩]))))) (fun ⟨l116,r117,r118,a119,a120,a121,l122,l123,a124,l125,l126,i127,i128,l129,a130,l131,l132⟩=>aV dd (oc a_0 a_1 v_2 a_3) [⟨[(.cell 5 2,.lev v_2)],[0,1,2,3,4,5,6,7],[1,2,8,9,10,11,45,46]⟩]))
def Ob(l133:Nat)(l134:Nat)(r135:Nat)(r136:Nat)(a137:Nat)(a138:Nat)(a139:Nat)(a140:Nat)(a141:Nat)(l142:List (List Nat))(l143:List Nat)(a144:Nat)(l145:List (List Nat))(l146:List Nat)(l147:List Nat)(l148:List Nat) :T ((Empty)⊕(bb)) :=
  .leaf (.inr (.r0 l133 l134 r135 r136 0 a137 a138 a139 a140 a141 l142 l143 a144 l145 l146 l147 l148))
noncomputable def cF(a_0:Int)(a_1:Int)(a_3:List Nat) :Option bb:=lG (aL ((Cl a_0 a_1 a_3).run) fun e1 =>
  aL (vj ((Cm a_0 a_1 a_3 e1).run)) fun _ =>
  aL ((N2).run) fun _ =>
  aL (ch (oe a_1) (0,0,0,0,0,0,0,0,0,0,([]:List (List Nat)),([]:List Nat),0,([]:List (List Nat)),([]:List Nat),a_0,a_1,a_3,(List.length a_3),([]:List Nat),([]:List Nat))) fun (l133,l134,r135,r136,a137,a138,a139,a140,a141,l142,l143,a144,l145,l146,l147,l148) =>
  (Ob l133 l134 r135 r136 a137 a138 a139 a140 a141 l142 l143 a144 l145 l146 l147 l148).run)
theorem Qd(a_0:Int)(a_1:Int)(v_2:Lv)(a_3:List Nat){x:bb}(h:cF a_0 a_1 a_3=some x) :aB prog yx [] [.agg [.int .i64 a_0,.int .i64 a_1,.imm v_2 (.fl a_3) 1 1 0 (List.length a_3)]] (za x) :=
  mo false za qO h (Sg.cut 2 da (aV dd (Qb a_0 a_1 v_2 a_3) [⟨[],[0,16],[1,2,7]⟩,⟨[],[0,16],[1,2,7]⟩]) (fun e1=>Sg.cut 1 da (sgb (Eb a_0 a_1 v_2 a_3) 0 da (pI _) (aV dd (Eb a_0 a_1 v_2 a_3) [⟨[(.cell 1 0,.own 1 1 (.fl ([]:List Nat))),(.cell 1 1,.own 1 1 (.fl ([]:List Nat))),(.slot 3,.own 2 2 (.cols 0 [.cfl ([]:List (List Nat)),.cf ([]:List Nat)])),(.slot 4,.own 2 2 (.cols 0 [.cfl ([]:List (List Nat)),.cf ([]:List Nat)]))],[1,148,149,146,147],[2,3,4,5]⟩,⟨[(.cell 1 0,.own 1 1 (.fl ([]:List Nat))),(.cell 1 1,.own 1 1 (.fl ([]:List Nat))),(.slot 3,.own 2 2 (.cols 0 [.cfl ([]:List (List Nat)),.cf ([]:List Nat)])),(.slot 4,.own 2 2 (.cols 0 [.cfl ([]:List (List Nat)),.cf ([]:List Nat)]))],[1,228,229,226,227],[2,3,4,5]⟩,⟨[(.cell 1 0,.own 1 1 (.fl ([]:List Nat))),(.cell 1 1,.own 1 1 (.fl ([]:List Nat))),(.slot 3,.own 2 2 (.cols 0 [.cfl ([]:List (List Nat)),.cf ([]:List Nat)])),(.slot 4,.own 2 2 (.cols 0 [.cfl ([]:List (List Nat)),.cf ([]:List Nat)]))],[1,292,293,290,291],[2,3,4,5]⟩,⟨[],[0,1],[1,2]⟩])) (fun _=>Sg.cut 4 da (aV dd (Qc a_0 a_1 v_2 a_3) [⟨[],[0,1,2,82],[1,2,8,9,10,11,45,46]⟩]) (fun _=>Sg.cut 1 da (vg ⟨[(.cell 2 0,.own 1 1 (.fl ([]:List Nat))),(.cell 2 1,.own 1 1 (.fl ([]:List Nat))),(.slot 9,.own 2 2 (.cols 0 [.cfl ([]:List (List Nat)),.cf ([]:List Nat)])),(.slot 10,.own 2 2 (.cols 0 [.cfl ([]:List (List Nat)),.cf ([]:List Nat)]))],[0,1,2,6,7,3,4,5],[1,2,8,9,10,11,45,46]⟩ (oc a_0 a_1 v_2 a_3) (Cn) 1 da (pI _) (fun ⟨l70,l71,r72,r73,a74,a75,a76,a77,a78,a79,l80,l81,a82,l83,l84,i85,i86,l87,a88,l89,l90⟩=>Oa a_0 a_1 v_2 a_3 l70 l71 r72 r73 a74 a75 a76 a77 a78 a79 l80 l81 a82 l83 l84 i85 i86 l87 a88 l89 l90)) (fun ⟨l133,l134,r135,r136,a137,a138,a139,a140,a141,l142,l143,a144,l145,l146,l147,l148⟩=>aV dd lx [⟨[],[0,2,3,4,5],[2,3,4,5]⟩])))))
    (fun x=>by cases x with | r0 a149 a150 a151 a152 a153 a154 a155 a156 a157 a158 l159 l160 a161 l162 l163 l164 l165=>exact ly [.agg [.sl 3 1 1 0 a154 a155,.sl 4 1 1 0 a156 a157],.sl 1 2 2 0 a149 a150,.sl 2 2 2 0 a151 a152,.int .i64 ((a153:Nat):Int)])
def lQ:Option bb→Bool
  | some _=>true
  | none=>false
def A5:Option bb→Nat
  | some (.r0 x _ _ _ _ _ _ _ _ _ _ _ _ _ _ _ _)=>x
  | _=>0
def A6:Option bb→Nat
  | some (.r0 _ x _ _ _ _ _ _ _ _ _ _ _ _ _ _ _)=>x
  | _=>0
def A7:Option bb→Nat
  | some (.r0 _ _ x _ _ _ _ _ _ _ _ _ _ _ _ _ _)=>x
  | _=>0
def A8:Option bb→Nat
  | some (.r0 _ _ _ x _ _ _ _ _ _ _ _ _ _ _ _ _)=>x
  | _=>0
def A9:Option bb→Nat
  | some (.r0 _ _ _ _ x _ _ _ _ _ _ _ _ _ _ _ _)=>x
  | _=>0
def mD:Option bb→Nat
  | some (.r0 _ _ _ _ _ x _ _ _ _ _ _ _ _ _ _ _)=>x
  | _=>0
def mE:Option bb→Nat
  | some (.r0 _ _ _ _ _ _ x _ _ _ _ _ _ _ _ _ _)=>x
  | _=>0
def mF:Option bb→Nat
  | some (.r0 _ _ _ _ _ _ _ x _ _ _ _ _ _ _ _ _)=>x
  | _=>0
def mG:Option bb→Nat
  | some (.r0 _ _ _ _ _ _ _ _ x _ _ _ _ _ _ _ _)=>x
  | _=>0
def Ba:Option bb→Nat
  | some (.r0 _ _ _ _ _ _ _ _ _ x _ _ _ _ _ _ _)=>x
  | _=>0
def zw:Option bb→List (List Nat)
  | some (.r0 _ _ _ _ _ _ _ _ _ _ x _ _ _ _ _ _)=>x
  | _=>[]
def zx:Option bb→List Nat
  | some (.r0 _ _ _ _ _ _ _ _ _ _ _ x _ _ _ _ _)=>x
  | _=>[]
def zy:Option bb→Nat
  | some (.r0 _ _ _ _ _ _ _ _ _ _ _ _ x _ _ _ _)=>x
  | _=>0
def zz:Option bb→List (List Nat)
  | some (.r0 _ _ _ _ _ _ _ _ _ _ _ _ _ x _ _ _)=>x
  | _=>[]
def zA:Option bb→List Nat
  | some (.r0 _ _ _ _ _ _ _ _ _ _ _ _ _ _ x _ _)=>x
  | _=>[]
def lA:Option bb→List Nat
  | some (.r0 _ _ _ _ _ _ _ _ _ _ _ _ _ _ _ x _)=>x
  | _=>[]
def lB:Option bb→List Nat
  | some (.r0 _ _ _ _ _ _ _ _ _ _ _ _ _ _ _ _ x)=>x
  | _=>[]
theorem Qe{x:Option bb}(h:lQ x=true) :x=some (.r0 (A5 x) (A6 x) (A7 x) (A8 x) (A9 x) (mD x) (mE x) (mF x) (mG x) (Ba x) (zw x) (zx x) (zy x) (zz x) (zA x) (lA x) (lB x)):=by
  unfold lQ at h
  split at h<;>first | rfl | (cases h;done) | (rename_i y;cases y;rfl)
noncomputable def GN:aK:=cy yx (.cons (.agg (.cons (.int .i64) (.cons (.int .i64) (.cons .fl .nil)))) .nil) fun t=>(fun q=>[⟨za (.r0 (A5 q) (A6 q) (A7 q) (A8 q) (A9 q) (mD q) (mE q) (mF q) (mG q) (Ba q) (zw q) (zx q) (zy q) (zz q) (zA q) (lA q) (lB q)),[lQ q]⟩]) (cF t.1.1 t.1.2.1 t.1.2.2.1.2)
theorem Mc:aY prog GN:=ba fun t=>(aZ (fun h=>Qd t.1.1 t.1.2.1 t.1.2.2.1.1 t.1.2.2.1.2 (Qe h)) bj)
noncomputable def GO:List aK:=GN::GM
theorem dU:aW prog (aT GO):=aF Mc dd
inductive bC where
  | r0 (i33:Int) (a34:Nat) (a35:Nat) (a36:Nat) (a37:Nat) (a38:Nat) (l39:List Nat) (l40:List Nat)
def Ec:bC→AE×aM
  | .r0 i33 a34 a35 a36 a37 a38 l39 l40=>(.ret,⟨aq 50 [(6,.ptr 0 1 0 0),(7,.int .i64 i33),(8,.int .i64 ((a34:Nat):Int))],[(0,.vs [.sl 1 1 1 0 a35 a36,.sl 2 1 1 0 a37 a38]),(1,.fl l39),(2,.fl l40)],3⟩)
theorem jx:ld Ec:=by intro x;cases x<;>(intro h;cases h)
def wl:bC→ib
  | .r0 i33 a34 a35 a36 a37 a38 l39 l40=>⟨.tup [.agg [.sl 0 1 1 0 a35 a36,.sl 1 1 1 0 a37 a38],.int .i64 i33,.int .i64 ((a34:Nat):Int)],[some (.fl l39),some (.fl l40)]⟩
def Oc:Nat×Int×Int×Nat×Nat×(List Nat)→aM:=fun (c1,i2,i3,a4,a5,l6)=>⟨aq 50 [(6,.ptr 0 1 0 0),(9,.ptr 1 1 0 0),(10,.int .i64 ((c1:Nat):Int))],[(0,.vs [.nsl,.nsl]),(1,.vs [.int .i64 i2,.int .i64 i3,.sl 2 1 1 0 a4 a5]),(2,.fl l6)],3⟩
def kX(m_0:Int)(n_1:Int)(words_3:List Int) :T ((Nat×Int×Int×Nat×Nat×(List Nat))⊕(bC)) :=
  .need (bL 0 (List.length words_3) words_3)<|.need (fP (bB m_0 n_1 (an 0 (List.length words_3) words_3)))<|.leaf (.inl ((iE (bB m_0 n_1 (an 0 (List.length words_3) words_3))),(iF (bB m_0 n_1 (an 0 (List.length words_3) words_3))),(iG (bB m_0 n_1 (an 0 (List.length words_3) words_3))),(iH (bB m_0 n_1 (an 0 (List.length words_3) words_3))),(iI (bB m_0 n_1 (an 0 (List.length words_3) words_3))),(iJ (bB m_0 n_1 (an 0 (List.length words_3) words_3)))))
def Od(i2:Int)(i3:Int)(a4:Nat)(a5:Nat)(l6:List Nat) :Int×Int×Int×Nat×Nat×(List Nat)→aM:=fun (p7,i9,i10,a11,a12,l13)=>⟨aq 50 [(6,.ptr 0 1 0 0),(9,.ptr 1 1 0 0),(11,.ptr 2 1 0 0),(12,.int .i64 p7)],[(0,.vs [.nsl,.nsl]),(1,.vs [.int .i64 i2,.int .i64 i3,.sl 3 1 1 0 a4 a5]),(2,.vs [.int .i64 i9,.int .i64 i10,.sl 4 1 1 0 a11 a12]),(3,.fl l6),(4,.fl l13)],5⟩
def rP(c1:Nat)(i2:Int)(i3:Int)(a4:Nat)(l6:List Nat) :T ((Int×Int×Int×Nat×Nat×(List Nat))⊕(bC)) :=
  .ask (((c1:Nat):Int) != (0:Int))
    (.leaf (.inr (.r0 (0:Int) c1 0 0 0 0 ([]:List Nat) ([]:List Nat))))
    (.need (bL 0 a4 l6)<|.need (tQ (eU i2 i3 (an 0 a4 l6)))<|.need (cK .i64 ((0:Int)-(dJ (eU i2 i3 (an 0 a4 l6)))))<|.need (bL 0 a4 l6)<|.need (tS (iT i2 i3 (an 0 a4 l6) ((0:Int)-(dJ (eU i2 i3 (an 0 a4 l6))))))<|.leaf (.inl ((dJ (eU i2 i3 (an 0 a4 l6))),(vM (iT i2 i3 (an 0 a4 l6) ((0:Int)-(dJ (eU i2 i3 (an 0 a4 l6)))))),(vN (iT i2 i3 (an 0 a4 l6) ((0:Int)-(dJ (eU i2 i3 (an 0 a4 l6)))))),(vO (iT i2 i3 (an 0 a4 l6) ((0:Int)-(dJ (eU i2 i3 (an 0 a4 l6)))))),(vP (iT i2 i3 (an 0 a4 l6) ((0:Int)-(dJ (eU i2 i3 (an 0 a4 l6)))))),(vQ (iT i2 i3 (an 0 a4 l6) ((0:Int)-(dJ (eU i2 i3 (an 0 a4 l6)))))))))
def Oe(p7:Int)(i9:Int)(i10:Int)(a11:Nat)(a12:Nat)(l13:List Nat)(b14:Bool) :aM:=⟨aq 50 [(6,.ptr 0 1 0 0),(11,.ptr 1 1 0 0),(12,.int .i64 p7),(35,.bool false b14)],[(0,.vs [.nsl,.nsl]),(1,.vs [.int .i64 i9,.int .i64 i10,.sl 2 1 1 0 a11 a12]),(2,.fl l13)],3⟩
def Md(i2:Int)(i3:Int) :T ((Bool)⊕(bC)) :=
  .ask (decide (i2<i3))
    (.leaf (.inl ((1:Int)==(1:Int))))
    (.leaf (.inl ((0:Int)==(1:Int))))
def Of(p7:Int) :Int×Int×(List Nat)×Nat→aM:=fun (i15,i17,l18,a19)=>⟨aq 50 [(6,.ptr 0 1 0 0),(11,.ptr 1 1 0 0),(12,.int .i64 p7)],[(0,.vs [.nsl,.nsl]),(1,.vs [.int .i64 i15,.int .i64 i17,.imm .free (.fl l18) 1 1 0 a19])],2⟩
def Og(p7:Int)(i9:Int)(i10:Int)(a11:Nat)(a12:Nat)(l13:List Nat)(_:Unit) :aM:=⟨aq 50 [(6,.ptr 0 1 0 0),(11,.ptr 1 1 0 0),(12,.int .i64 p7)],[(0,.vs [.nsl,.nsl]),(1,.vs [.int .i64 i9,.int .i64 i10,.sl 2 1 1 0 a11 a12]),(2,.fl l13)],3⟩
def rQ(i9:Int)(i10:Int)(a11:Nat)(l13:List Nat)(b14:Bool) :T (((Int×Int×(List Nat)×Nat)⊕((Unit)))⊕(bC)) :=
  .ask b14
    (.need (bL 0 a11 l13)<|.need (tU (jV i9 i10 (an 0 a11 l13)))<|.leaf (.inl (.inl ((vS (jV i9 i10 (an 0 a11 l13))),(vT (jV i9 i10 (an 0 a11 l13))),(vV (jV i9 i10 (an 0 a11 l13))),(vU (jV i9 i10 (an 0 a11 l13)))))))
    (.leaf (.inl (.inr ())))
def Oh(p7:Int) :Nat×Nat×Nat×Nat×(List Nat)×(List Nat)→aM:=fun (a20,a21,a22,a23,l24,l25)=>⟨aq 50 [(6,.ptr 0 1 0 0),(12,.int .i64 p7),(13,.ptr 1 1 0 0)],[(0,.vs [.nsl,.nsl]),(1,.vs [.sl 2 1 1 0 a20 a21,.sl 3 1 1 0 a22 a23]),(2,.fl l24),(3,.fl l25)],4⟩
def rR(i15:Int)(i17:Int)(l18:List Nat)(a19:Nat) :T ((Nat×Nat×Nat×Nat×(List Nat)×(List Nat))⊕(bC)) :=
  .need (bL 0 a19 l18)<|.need (lQ (cF i15 i17 (an 0 a19 l18)))<|.leaf (.inl ((mD (cF i15 i17 (an 0 a19 l18))),(mE (cF i15 i17 (an 0 a19 l18))),(mF (cF i15 i17 (an 0 a19 l18))),(mG (cF i15 i17 (an 0 a19 l18))),(lA (cF i15 i17 (an 0 a19 l18))),(lB (cF i15 i17 (an 0 a19 l18)))))
def Me(p7:Int)(a20:Nat)(a21:Nat)(a22:Nat)(a23:Nat)(l24:List Nat)(l25:List Nat) :T ((Empty)⊕(bC)) :=
  .leaf (.inr (.r0 p7 0 a20 a21 a22 a23 l24 l25))
def Oi(p7:Int) :Nat×Nat×Nat×Nat×(List Nat)×(List Nat)→aM:=fun (a26,a27,a28,a29,l30,l31)=>⟨aq 50 [(6,.ptr 0 1 0 0),(12,.int .i64 p7),(13,.ptr 1 1 0 0)],[(0,.vs [.nsl,.nsl]),(1,.vs [.sl 2 1 1 0 a26 a27,.sl 3 1 1 0 a28 a29]),(2,.fl l30),(3,.fl l31)],4⟩
def rS(i9:Int)(i10:Int)(a11:Nat)(l13:List Nat) :T ((Nat×Nat×Nat×Nat×(List Nat)×(List Nat))⊕(bC)) :=
  .need (bL 0 a11 l13)<|.need (lQ (cF i9 i10 (an 0 a11 l13)))<|.leaf (.inl ((mD (cF i9 i10 (an 0 a11 l13))),(mE (cF i9 i10 (an 0 a11 l13))),(mF (cF i9 i10 (an 0 a11 l13))),(mG (cF i9 i10 (an 0 a11 l13))),(lA (cF i9 i10 (an 0 a11 l13))),(lB (cF i9 i10 (an 0 a11 l13)))))
def Mf(p7:Int)(a26:Nat)(a27:Nat)(a28:Nat)(a29:Nat)(l30:List Nat)(l31:List Nat) :T ((Empty)⊕(bC)) :=
  .leaf (.inr (.r0 p7 0 a26 a27 a28 a29 l30 l31))
noncomputable def cE(m_0:Int)(n_1:Int)(words_3:List Int) :Option bC:=lG (aL ((kX m_0 n_1 words_3).run) fun (c1,i2,i3,a4,a5,l6) =>
  aL ((rP c1 i2 i3 a4 l6).run) fun (p7,i9,i10,a11,a12,l13) =>
  aL ((Md i2 i3).run) fun b14 =>
  aL ((rQ i9 i10 a11 l13 b14).run) (Sum.elim (fun (i15,i17,l18,a19) =>
  aL ((rR i15 i17 l18 a19).run) fun (a20,a21,a22,a23,l24,l25) =>
  (Me p7 a20 a21 a22 a23 l24 l25).run) (fun _ =>
  aL ((rS i9 i10 a11 l13).run) fun (a26,a27,a28,a29,l30,l31) =>
  (Mf p7 a26 a27 a28 a29 l30 l31).run)))
theorem Oj(m_0:Int)(n_1:Int)(v_2:Lv)(words_3:List Int){x:bC}(h:cE m_0 n_1 words_3=some x) :aB prog DR [] [.int .i64 m_0,.int .i64 n_1,.imm v_2 (.ns .u64 words_3) 1 1 0 (List.length words_3)] (wl x) :=
  mo false wl Ec h (Sg.cut 2 jx (aV dU Oc [⟨[],[0,160,96],[6,9,10]⟩]) (fun ⟨c1,i2,i3,a4,a5,l6⟩=>Sg.cut 3 jx (aV dU (Od i2 i3 a4 a5 l6) [⟨[(.cell 0 0,.own 1 1 (.fl ([]:List Nat))),(.cell 0 1,.own 1 1 (.fl ([]:List Nat)))],[0,115,116],[6,7,8]⟩,⟨[],[0,1,115,2,51],[6,9,11,12]⟩]) (fun ⟨p7,i9,i10,a11,a12,l13⟩=>Sg.cut 1 jx (aV dU (Oe p7 i9 i10 a11 a12 l13) [⟨[],[0,2,4],[6,11,12,35]⟩,⟨[],[0,2,4],[6,11,12,35]⟩]) (fun b14=>Sg.cut 1 jx (aV dU (Sum.elim (Of p7) (Og p7 i9 i10 a11 a12 l13)) [⟨[],[0,1],[6,11,12]⟩,⟨[],[0,1,2],[6,11,12]⟩]) (sga (fun ⟨i15,i17,l18,a19⟩=>Sg.cut 1 jx (aV dU (Oh p7) [⟨[],[0,114,18,19],[6,12,13]⟩]) (fun ⟨a20,a21,a22,a23,l24,l25⟩=>aV dU lx [⟨[],[0,2,3],[6,7,8]⟩])) (fun _=>Sg.cut 1 jx (aV dU (Oi p7) [⟨[],[0,115,19,20],[6,12,13]⟩]) (fun ⟨a26,a27,a28,a29,l30,l31⟩=>aV dU lx [⟨[],[0,2,3],[6,7,8]⟩])))))))
    (fun x=>by cases x with | r0 i33 a34 a35 a36 a37 a38 l39 l40=>exact ly [.agg [.sl 1 1 1 0 a35 a36,.sl 2 1 1 0 a37 a38],.int .i64 i33,.int .i64 ((a34:Nat):Int)])
def og:Option bC→Bool
  | some _=>true
  | none=>false
def qb:Option bC→Int
  | some (.r0 x _ _ _ _ _ _ _)=>x
  | _=>0
def qc:Option bC→Nat
  | some (.r0 _ x _ _ _ _ _ _)=>x
  | _=>0
def qd:Option bC→Nat
  | some (.r0 _ _ x _ _ _ _ _)=>x
  | _=>0
def qe:Option bC→Nat
  | some (.r0 _ _ _ x _ _ _ _)=>x
  | _=>0
def qf:Option bC→Nat
  | some (.r0 _ _ _ _ x _ _ _)=>x
  | _=>0
def qg:Option bC→Nat
  | some (.r0 _ _ _ _ _ x _ _)=>x
  | _=>0
def qh:Option bC→List Nat
  | some (.r0 _ _ _ _ _ _ x _)=>x
  | _=>[]
def qi:Option bC→List Nat
  | some (.r0 _ _ _ _ _ _ _ x)=>x
  | _=>[]
theorem Ol{x:Option bC}(h:og x=true) :x=some (.r0 (qb x) (qc x) (qd x) (qe x) (qf x) (qg x) (qh x) (qi x)):=by
  unfold og at h
  split at h<;>first | rfl | (cases h;done) | (rename_i y;cases y;rfl)
noncomputable def Ed:aK:=cy DR (.cons (.int .i64) (.cons (.int .i64) (.cons (.ns .u64) .nil))) fun t=>(fun q=>[⟨wl (.r0 (qb q) (qc q) (qd q) (qe q) (qf q) (qg q) (qh q) (qi q)),[og q]⟩]) (cE t.1 t.2.1 t.2.2.1.2)
theorem JV:aY prog Ed:=ba fun t=>(aZ (fun h=>Oj t.1 t.2.1 t.2.2.1.1 t.2.2.1.2 (Ol h)) bj)
noncomputable def Ee:List aK:=Ed::GO
theorem qj:aW prog (aT Ee):=aF JV dU
inductive fS where
  | r0 (b2:Bool)
def GQ:fS→AE×aM
  | .r0 b2=>(.ret,⟨aq 21 [(2,.bool false b2)],[],0⟩)
theorem Qf:ld GQ:=by intro x;cases x<;>(intro h;cases h)
def zb:fS→ib
  | .r0 b2=>⟨.bool false b2,[]⟩
def Qg(b1:Bool) :aM:=⟨aq 21 [(2,.bool false b1)],[],0⟩
def wn(w_0:Int) :T ((Bool)⊕(fS)) :=
  .need (decide ((0:Int)≤(52:Int)))<|.need ((2048:Int) != (0:Int))<|.ask (!((Int.tmod (Int.fdiv w_0 (2^(min (Int.toNat (52:Int)) (IntKind.u64.bits)))) (2048:Int)) != (2047:Int)))
    (.leaf (.inr (.r0 false)))
    (.need (decide ((0:Int)≤(1:Int)))<|.need (decide ((0:Int)≤(1:Int)))<|.ask (yp (Int.toNat (Int.fdiv (IntKind.u64.wrap (w_0*2^(min (Int.toNat (1:Int)) (IntKind.u64.bits)))) (2^(min (Int.toNat (1:Int)) (IntKind.u64.bits))))) 0)
      (.leaf (.inl true))
      (.ask (fge (Int.toNat (Int.fdiv (IntKind.u64.wrap (w_0*2^(min (Int.toNat (1:Int)) (IntKind.u64.bits)))) (2^(min (Int.toNat (1:Int)) (IntKind.u64.bits))))) 2805742567851819008)
        (.leaf (.inl (fle (Int.toNat (Int.fdiv (IntKind.u64.wrap (w_0*2^(min (Int.toNat (1:Int)) (IntKind.u64.bits)))) (2^(min (Int.toNat (1:Int)) (IntKind.u64.bits))))) 6408622269748215808)))
        (.leaf (.inl false))))
def Qh(b1:Bool) :T ((Empty)⊕(fS)) :=
  .leaf (.inr (.r0 b1))
noncomputable def nk(w_0:Int) :Option fS:=lG (aL ((wn w_0).run) fun b1 =>
  (Qh b1).run)
theorem Qj(w_0:Int){x:fS}(h:nk w_0=some x) :aB prog Gs [] [.int .u64 w_0] (zb x) :=
  mo false zb GQ h (Sg.cut 5 Qf (aV qj Qg [⟨[],[],[2]⟩,⟨[],[],[2]⟩,⟨[],[],[2]⟩,⟨[],[],[2]⟩]) (fun b1=>aV qj lx [⟨[],[],[2]⟩]))
    (fun x=>by cases x with | r0 b2=>exact ly [.bool false b2])
def pJ:Option fS→Bool
  | some _=>true
  | none=>false
def rU:Option fS→Bool
  | some (.r0 x)=>x
  | _=>false
theorem Qk{x:Option fS}(h:pJ x=true) :x=some (.r0 (rU x)):=by
  unfold pJ at h
  split at h<;>first | rfl | (cases h;done) | (rename_i y;cases y;rfl)
noncomputable def GR:aK:=cy Gs (.cons (.int .u64) .nil) fun t=>(fun q=>[⟨zb (.r0 (rU q)),[pJ q]⟩]) (nk t.1)
theorem Mg:aY prog GR:=ba fun t=>(aZ (fun h=>Qj t.1 (Qk h)) bj)
noncomputable def GS:List aK:=GR::Ee
theorem bX:aW prog (aT GS):=aF Mg qj
inductive ca where
  | r0 (a10:Nat)
def mH:ca→AE×aM
  | .r0 a10=>(.ret,⟨aq 103 [(8,.int .i64 ((a10:Nat):Int))],[],0⟩)
theorem cP:ld mH:=by intro x;cases x<;>(intro h;cases h)
theorem qz(id:Nat) :ko id mH:=by intro x;cases x<;>(intro h;cases h)
def F9:ca→ib
  | .r0 a10=>⟨.int .i64 ((a10:Nat):Int),[]⟩
noncomputable def Bb:List Code:=cg (kB E3)
def ZK(m_0:Int)(n_1:Int)(v_2:Lv)(words_3:List Int) :Bool×Bool→aM:=fun (symmetric1,b2)=>⟨aq 103 [(0,.int .i64 m_0),(1,.int .i64 n_1),(2,.imm v_2 (.ns .u64 words_3) 1 1 0 (List.length words_3)),(3,.bool false symmetric1),(36,.bool false b2)],[],0⟩
def Bc(m_0:Int)(n_1:Int)(words_3:List Int) :T ((Bool×Bool)⊕(ca)) :=
  .ask (decide (m_0<(0:Int)))
    (.leaf (.inl (false,true)))
    (.ask (decide (m_0>(512:Int)))
      (.leaf (.inl (false,true)))
      (.ask (decide (n_1<(0:Int)))
        (.leaf (.inl (false,true)))
        (.ask (decide (n_1>(512:Int)))
          (.leaf (.inl (false,true)))
          (.need (cK .i64 (m_0*n_1))<|.leaf (.inl (false,((((List.length words_3):Nat):Int) != (m_0*n_1))))))))
def ZL(m_0:Int)(n_1:Int)(v_2:Lv)(words_3:List Int)(symmetric1:Bool)(_:Unit) :aM:=⟨aq 103 [(0,.int .i64 m_0),(1,.int .i64 n_1),(2,.imm v_2 (.ns .u64 words_3) 1 1 0 (List.length words_3)),(3,.bool false symmetric1),(9,.int .i64 (0:Int))],[],0⟩
def WY(b2:Bool) :T ((Unit)⊕(ca)) :=
  .ask b2
    (.leaf (.inr (.r0 1)))
    (.leaf (.inl ()))
def xj(m_0:Int)(n_1:Int)(v_2:Lv)(words_3:List Int)(symmetric1:Bool)(i3:Nat) :aM:=⟨aq 103 [(0,.int .i64 m_0),(1,.int .i64 n_1),(2,.imm v_2 (.ns .u64 words_3) 1 1 0 (List.length words_3)),(3,.bool false symmetric1),(9,.int .i64 ((i3:Nat):Int))],[],0⟩
def KT(m_0:Int)(n_1:Int)(v_2:Lv)(words_3:List Int)(symmetric1:Bool)(_:Unit) :aM:=⟨aq 103 [(0,.int .i64 m_0),(1,.int .i64 n_1),(2,.imm v_2 (.ns .u64 words_3) 1 1 0 (List.length words_3)),(3,.bool false symmetric1)],[],0⟩
noncomputable def WZ:List Code:=cg (cw (((((Bb.drop 2).drop 2).take 1)).headD .skip))
def pa(words_3:List Int)(i3:Nat) :T ((Nat)⊕((Unit)⊕(ca))) :=
  .ask (decide (((i3:Nat):Int)<(((List.length words_3):Nat):Int)))
    (.need (fi ((i3:Nat):Int) (List.length words_3))<|.need (eS i3 (List.length words_3))<|.need (decide ((0:Int)≤(52:Int)))<|.need ((2048:Int) != (0:Int))<|.ask (!((Int.tmod (Int.fdiv (List.getD words_3 i3 0) (2^(min (Int.toNat (52:Int)) (IntKind.u64.bits)))) (2048:Int)) != (2047:Int)))
      (.leaf (.inr (.inr (.r0 1))))
      (.need (cK .i64 (((i3+1):Nat):Int))<|.leaf (.inl (i3+1))))
    (.leaf (.inr (.inl ())))
noncomputable def uw(words_3:List Int) :Nat→Option ((Nat)⊕((Unit)⊕(ca))):=fun i3 =>
  (pa words_3 i3).run
theorem W3(m_0:Int)(n_1:Int)(v_2:Lv)(words_3:List Int)(symmetric1:Bool)(i3:Nat) :Sg prog [] WZ (xj m_0 n_1 v_2 words_3 symmetric1 i3) (uw words_3 i3) (xj m_0 n_1 v_2 words_3 symmetric1) (bS 0 (KT m_0 n_1 v_2 words_3 symmetric1) mH):=by
  unfold uw;exact aV bX (xj m_0 n_1 v_2 words_3 symmetric1) [⟨[],[],[8]⟩,⟨[],[],[0,1,2,3,9]⟩,⟨[],[],[0,1,2,3]⟩]
def ZM(m_0:Int)(n_1:Int)(v_2:Lv)(words_3:List Int)(symmetric1:Bool)(_:Unit) :aM:=⟨aq 103 [(0,.int .i64 m_0),(1,.int .i64 n_1),(2,.imm v_2 (.ns .u64 words_3) 1 1 0 (List.length words_3)),(3,.bool false symmetric1),(10,.int .i64 (0:Int))],[],0⟩
def W5:T ((Unit)⊕(ca)) :=
  .leaf (.inl ())
def ux(m_0:Int)(n_1:Int)(v_2:Lv)(words_3:List Int)(symmetric1:Bool)(i5:Nat) :aM:=⟨aq 103 [(0,.int .i64 m_0),(1,.int .i64 n_1),(2,.imm v_2 (.ns .u64 words_3) 1 1 0 (List.length words_3)),(3,.bool false symmetric1),(10,.int .i64 ((i5:Nat):Int))],[],0⟩
def Bd(v_2:Lv)(words_3:List Int)(_:Unit) :aM:=⟨aq 103 [(2,.imm v_2 (.ns .u64 words_3) 1 1 0 (List.length words_3))],[],0⟩
noncomputable def IK:List Code:=cg (cw (((((((Bb.drop 2).drop 2).drop 1).drop 1).take 1)).headD .skip))
def W6(m_0:Int)(n_1:Int)(v_2:Lv)(words_3:List Int)(symmetric1:Bool)(i5:Nat)(b6:Bool) :aM:=⟨aq 103 [(0,.int .i64 m_0),(1,.int .i64 n_1),(2,.imm v_2 (.ns .u64 words_3) 1 1 0 (List.length words_3)),(3,.bool false symmetric1),(10,.int .i64 ((i5:Nat):Int)),(54,.bool false b6)],[],0⟩
def IL(m_0:Int)(symmetric1:Bool)(i5:Nat) :T ((Bool)⊕((Unit)⊕(ca))) :=
  .ask (decide (((i5:Nat):Int)<m_0))
    (.leaf (.inl symmetric1))
    (.leaf (.inl false))
def W7(m_0:Int)(n_1:Int)(v_2:Lv)(words_3:List Int)(symmetric1:Bool)(i5:Nat)(_:Unit) :aM:=⟨aq 103 [(0,.int .i64 m_0),(1,.int .i64 n_1),(2,.imm v_2 (.ns .u64 words_3) 1 1 0 (List.length words_3)),(3,.bool false symmetric1),(10,.int .i64 ((i5:Nat):Int))],[],0⟩
def W8(b6:Bool) :T ((Unit)⊕((Unit)⊕(ca))) :=
  .ask b6
    (.leaf (.inl ()))
    (.leaf (.inr (.inl ())))
def Be(m_0:Int)(n_1:Int)(v_2:Lv)(words_3:List Int)(symmetric1:Bool)(i5:Nat)(_:Unit) :aM:=⟨aq 103 [(0,.int .i64 m_0),(1,.int .i64 n_1),(2,.imm v_2 (.ns .u64 words_3) 1 1 0 (List.length words_3)),(3,.bool false symmetric1),(10,.int .i64 ((i5:Nat):Int))],[],0⟩
noncomputable def W9:List Code:=cg (inBlock (((((IK.drop 1).drop 1).take 1)).headD .skip))
def Xa(m_0:Int)(n_1:Int)(v_2:Lv)(words_3:List Int)(symmetric1:Bool)(i5:Nat)(_:Unit) :aM:=⟨aq 103 [(0,.int .i64 m_0),(1,.int .i64 n_1),(2,.imm v_2 (.ns .u64 words_3) 1 1 0 (List.length words_3)),(3,.bool false symmetric1),(10,.int .i64 ((i5:Nat):Int)),(11,.int .i64 (0:Int))],[],0⟩
def Xb:T ((Unit)⊕((Unit)⊕((Unit)⊕(ca)))) :=
  .leaf (.inl ())
def uy(m_0:Int)(n_1:Int)(v_2:Lv)(words_3:List Int)(symmetric1:Bool)(i5:Nat)(k7:Nat) :aM:=⟨aq 103 [(0,.int .i64 m_0),(1,.int .i64 n_1),(2,.imm v_2 (.ns .u64 words_3) 1 1 0 (List.length words_3)),(3,.bool false symmetric1),(10,.int .i64 ((i5:Nat):Int)),(11,.int .i64 ((k7:Nat):Int))],[],0⟩
def IM(m_0:Int)(n_1:Int)(v_2:Lv)(words_3:List Int)(symmetric1:Bool)(i5:Nat)(_:Unit) :aM:=⟨aq 103 [(0,.int .i64 m_0),(1,.int .i64 n_1),(2,.imm v_2 (.ns .u64 words_3) 1 1 0 (List.length words_3)),(3,.bool false symmetric1),(10,.int .i64 ((i5:Nat):Int))],[],0⟩
noncomputable def Xc:List Code:=cg (cw ((((W9.drop 1).take 1)).headD .skip))
def Xd(m_0:Int)(n_1:Int)(v_2:Lv)(words_3:List Int)(symmetric1:Bool)(i5:Nat)(k7:Nat)(_:Unit) :aM:=⟨aq 103 [(0,.int .i64 m_0),(1,.int .i64 n_1),(2,.imm v_2 (.ns .u64 words_3) 1 1 0 (List.length words_3)),(3,.bool false symmetric1),(10,.int .i64 ((i5:Nat):Int)),(11,.int .i64 ((k7:Nat):Int))],[],0⟩
def Xe(n_1:Int)(words_3:List Int)(i5:Nat)(k7:Nat) :T ((Unit)⊕((Unit)⊕((Unit)⊕((Unit)⊕(ca))))) :=
  .ask (decide (((k7:Nat):Int)<((i5:Nat):Int)))
    (.need (cK .i64 (((i5:Nat):Int)*n_1))<|.need (cK .i64 ((((i5:Nat):Int)*n_1)+((k7:Nat):Int)))<|.need (fi ((((i5:Nat):Int)*n_1)+((k7:Nat):Int)) (List.length words_3))<|.need (eS (Int.toNat ((((i5:Nat):Int)*n_1)+((k7:Nat):Int))) (List.length words_3))<|.need (cK .i64 (((k7:Nat):Int)*n_1))<|.need (cK .i64 ((((k7:Nat):Int)*n_1)+((i5:Nat):Int)))<|.need (fi ((((k7:Nat):Int)*n_1)+((i5:Nat):Int)) (List.length words_3))<|.need (eS (Int.toNat ((((k7:Nat):Int)*n_1)+((i5:Nat):Int))) (List.length words_3))<|.ask ((List.getD words_3 (Int.toNat ((((i5:Nat):Int)*n_1)+((k7:Nat):Int))) 0) != (List.getD words_3 (Int.toNat ((((k7:Nat):Int)*n_1)+((i5:Nat):Int))) 0))
      (.need (decide ((0:Int)≤(1:Int)))<|.ask ((IntKind.u64.wrap ((List.getD words_3 (Int.toNat ((((i5:Nat):Int)*n_1)+((k7:Nat):Int))) 0)*2^(min (Int.toNat (1:Int)) (IntKind.u64.bits)))) != (0:Int))
        (.leaf (.inr (.inr (.inr (.inr (.r0 1))))))
        (.need (decide ((0:Int)≤(1:Int)))<|.ask ((IntKind.u64.wrap ((List.getD words_3 (Int.toNat ((((k7:Nat):Int)*n_1)+((i5:Nat):Int))) 0)*2^(min (Int.toNat (1:Int)) (IntKind.u64.bits)))) != (0:Int))
          (.leaf (.inr (.inr (.inr (.inr (.r0 1))))))
          (.leaf (.inl ()))))
      (.leaf (.inl ())))
    (.leaf (.inr (.inl ())))
def Xf(k7:Nat) :T ((Nat)⊕((Unit)⊕((Unit)⊕((Unit)⊕(ca))))) :=
  .need (cK .i64 (((k7+1):Nat):Int))<|.leaf (.inl (k7+1))
noncomputable def Bf(n_1:Int)(words_3:List Int)(i5:Nat) :Nat→Option ((Nat)⊕((Unit)⊕((Unit)⊕((Unit)⊕(ca))))):=fun k7 =>
  aL ((Xe n_1 words_3 i5 k7).run) fun _ =>
  (Xf k7).run
theorem Xg(m_0:Int)(n_1:Int)(v_2:Lv)(words_3:List Int)(symmetric1:Bool)(i5:Nat)(k7:Nat) :Sg prog [] Xc (uy m_0 n_1 v_2 words_3 symmetric1 i5 k7) (Bf n_1 words_3 i5 k7) (uy m_0 n_1 v_2 words_3 symmetric1 i5) (bS 4 (IM m_0 n_1 v_2 words_3 symmetric1 i5) (bS 3 (Be m_0 n_1 v_2 words_3 symmetric1 i5) (bS 2 (Bd v_2 words_3) mH))):=by
  unfold Bf;exact Sg.cut 3 (aD (aD (aD cP))) (aV bX (Xd m_0 n_1 v_2 words_3 symmetric1 i5 k7) [⟨[],[],[8]⟩,⟨[],[],[8]⟩,⟨[],[],[0,1,2,3,10,11]⟩,⟨[],[],[0,1,2,3,10,11]⟩,⟨[],[],[0,1,2,3,10]⟩]) (fun _=>aV bX (uy m_0 n_1 v_2 words_3 symmetric1 i5) [⟨[],[],[0,1,2,3,10,11]⟩])
def Xh:T ((Unit)⊕((Unit)⊕((Unit)⊕(ca)))) :=
  .leaf (.inl ())
def Xi(i5:Nat) :T ((Nat)⊕((Unit)⊕(ca))) :=
  .need (cK .i64 (((i5+1):Nat):Int))<|.leaf (.inl (i5+1))
noncomputable def uz(m_0:Int)(n_1:Int)(words_3:List Int)(symmetric1:Bool) :Nat→Option ((Nat)⊕((Unit)⊕(ca))):=fun i5 =>
  aL ((IL m_0 symmetric1 i5).run) fun b6 =>
  aL ((W8 b6).run) fun _ =>
  aL (vj (aL ((Xb).run) fun _ =>
  aL (ch (Bf n_1 words_3 i5) 0) fun _ =>
  (Xh).run)) fun _ =>
  (Xi i5).run
theorem Xj(m_0:Int)(n_1:Int)(v_2:Lv)(words_3:List Int)(symmetric1:Bool)(i5:Nat) :Sg prog [] IK (ux m_0 n_1 v_2 words_3 symmetric1 i5) (uz m_0 n_1 words_3 symmetric1 i5) (ux m_0 n_1 v_2 words_3 symmetric1) (bS 2 (Bd v_2 words_3) mH):=by
  unfold uz;exact Sg.cut 1 (aD cP) (aV bX (W6 m_0 n_1 v_2 words_3 symmetric1 i5) [⟨[],[],[0,1,2,3,10,54]⟩,⟨[],[],[0,1,2,3,10,54]⟩]) (fun b6=>Sg.cut 1 (aD cP) (aV bX (W7 m_0 n_1 v_2 words_3 symmetric1 i5) [⟨[],[],[0,1,2,3,10]⟩,⟨[],[],[2]⟩]) (fun _=>Sg.cut 1 (aD cP) (sgb (Be m_0 n_1 v_2 words_3 symmetric1 i5) 3 (aD cP) (ck (by decide) (qz _)) (Sg.cut 1 (aD (aD cP)) (aV bX (Xa m_0 n_1 v_2 words_3 symmetric1 i5) [⟨[],[],[0,1,2,3,10,11]⟩]) (fun _=>Sg.cut 1 (aD (aD cP)) (vg ⟨[],[],[0,1,2,3,10,11]⟩ (uy m_0 n_1 v_2 words_3 symmetric1 i5) (IM m_0 n_1 v_2 words_3 symmetric1 i5) 4 (aD (aD cP)) (ck (by decide) (ck (by decide) (qz _))) (fun k7=>Xg m_0 n_1 v_2 words_3 symmetric1 i5 k7)) (fun _=>aV bX (Be m_0 n_1 v_2 words_3 symmetric1 i5) [⟨[],[],[0,1,2,3,10]⟩])))) (fun _=>aV bX (ux m_0 n_1 v_2 words_3 symmetric1) [⟨[],[],[0,1,2,3,10]⟩])))
def Xk(v_2:Lv)(words_3:List Int)(_:Unit) :aM:=⟨aq 103 [(2,.imm v_2 (.ns .u64 words_3) 1 1 0 (List.length words_3)),(14,.int .i64 (0:Int))],[],0⟩
def Xl:T ((Unit)⊕(ca)) :=
  .leaf (.inl ())
def uA(v_2:Lv)(words_3:List Int)(i9:Nat) :aM:=⟨aq 103 [(2,.imm v_2 (.ns .u64 words_3) 1 1 0 (List.length words_3)),(14,.int .i64 ((i9:Nat):Int))],[],0⟩
def IN(_:Unit) :aM:=⟨aq 103 [],[],0⟩
noncomputable def Xm:List Code:=cg (cw (((((((((Bb.drop 2).drop 2).drop 1).drop 1).drop 1).drop 1).take 1)).headD .skip))
def Xn(v_2:Lv)(words_3:List Int)(i9:Nat)(_:Unit) :aM:=⟨aq 103 [(2,.imm v_2 (.ns .u64 words_3) 1 1 0 (List.length words_3)),(14,.int .i64 ((i9:Nat):Int))],[],0⟩
def Bg(words_3:List Int)(i9:Nat) :T ((Unit)⊕((Unit)⊕(ca))) :=
  .ask (decide (((i9:Nat):Int)<(((List.length words_3):Nat):Int)))
    (.need (fi ((i9:Nat):Int) (List.length words_3))<|.need (eS i9 (List.length words_3))<|.need (pJ (nk (List.getD words_3 i9 0)))<|.ask (!(rU (nk (List.getD words_3 i9 0))))
      (.leaf (.inr (.inr (.r0 2))))
      (.leaf (.inl ())))
    (.leaf (.inr (.inl ())))
def Xo(i9:Nat) :T ((Nat)⊕((Unit)⊕(ca))) :=
  .need (cK .i64 (((i9+1):Nat):Int))<|.leaf (.inl (i9+1))
noncomputable def uB(words_3:List Int) :Nat→Option ((Nat)⊕((Unit)⊕(ca))):=fun i9 =>
  aL ((Bg words_3 i9).run) fun _ =>
  (Xo i9).run
theorem Xp(v_2:Lv)(words_3:List Int)(i9:Nat) :Sg prog [] Xm (uA v_2 words_3 i9) (uB words_3 i9) (uA v_2 words_3) (bS 6 IN mH):=by
  unfold uB;exact Sg.cut 3 (aD cP) (aV bX (Xn v_2 words_3 i9) [⟨[],[],[8]⟩,⟨[],[],[2,14]⟩,⟨[],[],[]⟩]) (fun _=>aV bX (uA v_2 words_3) [⟨[],[],[2,14]⟩])
def Xq:T ((Empty)⊕(ca)) :=
  .leaf (.inr (.r0 0))
noncomputable def kY(m_0:Int)(n_1:Int)(words_3:List Int) :Option ca:=lG (aL ((Bc m_0 n_1 words_3).run) fun (symmetric1,b2) =>
  aL ((WY b2).run) fun _ =>
  aL (ch (uw words_3) 0) fun _ =>
  aL ((W5).run) fun _ =>
  aL (ch (uz m_0 n_1 words_3 symmetric1) 0) fun _ =>
  aL ((Xl).run) fun _ =>
  aL (ch (uB words_3) 0) fun _ =>
  (Xq).run)
theorem ZN(m_0:Int)(n_1:Int)(v_2:Lv)(words_3:List Int){x:ca}(h:kY m_0 n_1 words_3=some x) :aB prog E3 [] [.int .i64 m_0,.int .i64 n_1,.imm v_2 (.ns .u64 words_3) 1 1 0 (List.length words_3),.bool true false] (F9 x) :=
  mo false F9 mH h (Sg.cut 2 cP (aV bX (ZK m_0 n_1 v_2 words_3) [⟨[],[],[0,1,2,3,36]⟩,⟨[],[],[0,1,2,3,36]⟩,⟨[],[],[0,1,2,3,36]⟩,⟨[],[],[0,1,2,3,36]⟩,⟨[],[],[0,1,2,3,36]⟩]) (fun ⟨symmetric1,b2⟩=>Sg.cut 2 cP (aV bX (ZL m_0 n_1 v_2 words_3 symmetric1) [⟨[],[],[8]⟩,⟨[],[],[0,1,2,3,9]⟩]) (fun _=>Sg.cut 1 cP (vg ⟨[],[],[0,1,2,3,9]⟩ (xj m_0 n_1 v_2 words_3 symmetric1) (KT m_0 n_1 v_2 words_3 symmetric1) 0 cP (qz _) (fun i3=>W3 m_0 n_1 v_2 words_3 symmetric1 i3)) (fun _=>Sg.cut 1 cP (aV bX (ZM m_0 n_1 v_2 words_3 symmetric1) [⟨[],[],[0,1,2,3,10]⟩]) (fun _=>Sg.cut 1 cP (vg ⟨[],[],[0,1,2,3,10]⟩ (ux m_0 n_1 v_2 words_3 symmetric1) (Bd v_2 words_3) 2 cP (qz _) (fun i5=>Xj m_0 n_1 v_2 words_3 symmetric1 i5)) (fun _=>Sg.cut 1 cP (aV bX (Xk v_2 words_3) [⟨[],[],[2,14]⟩]) (fun _=>Sg.cut 1 cP (vg ⟨[],[],[2,14]⟩ (uA v_2 words_3) (IN) 6 cP (qz _) (fun i9=>Xp v_2 words_3 i9)) (fun _=>aV bX lx [⟨[],[],[8]⟩]))))))))
    (fun x=>by cases x with | r0 a10=>exact ly [.int .i64 ((a10:Nat):Int)])
def xk:Option ca→Bool
  | some _=>true
  | none=>false
def zc:Option ca→Nat
  | some (.r0 x)=>x
  | _=>0
theorem ZO{x:Option ca}(h:xk x=true) :x=some (.r0 (zc x)):=by
  unfold xk at h
  split at h<;>first | rfl | (cases h;done) | (rename_i y;cases y;rfl)
noncomputable def Om:aK:=cy E3 (.cons (.int .i64) (.cons (.int .i64) (.cons (.ns .u64) (.cons (.kbool false) .nil)))) fun t=>(fun q=>[⟨F9 (.r0 (zc q)),[xk q]⟩]) (kY t.1 t.2.1 t.2.2.1.2)
theorem S7:aY prog Om:=ba fun t=>(aZ (fun h=>ZN t.1 t.2.1 t.2.2.1.1 t.2.2.1.2 (ZO h)) bj)
noncomputable def On:List aK:=Om::GS
theorem qP:aW prog (aT On):=aF S7 bX
inductive de where
  | r0 (i9:Int) (i10:Int) (a11:Nat) (a12:Nat) (l13:List Nat)
def uC:de→AE×aM
  | .r0 i9 i10 a11 a12 l13=>(.ret,⟨aq 29 [(6,.ptr 0 1 0 0)],[(0,.vs [.int .i64 i9,.int .i64 i10,.sl 1 1 1 0 a11 a12]),(1,.fl l13)],2⟩)
theorem zd:ld uC:=by intro x;cases x<;>(intro h;cases h)
theorem S8(id:Nat) :ko id uC:=by intro x;cases x<;>(intro h;cases h)
def Bh:de→ib
  | .r0 i9 i10 a11 a12 l13=>⟨.agg [.int .i64 i9,.int .i64 i10,.sl 0 1 1 0 a11 a12],[some (.fl l13)]⟩
noncomputable def S9:List Code:=cg (kB AC)
def Ta(m_0:Int)(n_1:Int)(v_2:Lv)(words_3:List Int)(_:Unit) :aM:=⟨aq 29 [(2,.imm v_2 (.ns .u64 words_3) 1 1 0 (List.length words_3)),(6,.ptr 0 1 0 0),(7,.ptr 1 1 0 0),(8,.int .i64 (0:Int))],[(0,.vs [.int .i64 (0:Int),.int .i64 (0:Int),.nsl]),(1,.vs [.int .i64 m_0,.int .i64 n_1,.nsl])],2⟩
def Tb:T ((Unit)⊕(de)) :=
  .leaf (.inl ())
def qQ(m_0:Int)(n_1:Int)(v_2:Lv)(words_3:List Int) :Nat×Nat×Nat×(List Nat)→aM:=fun (i2,a3,a4,l5)=>⟨aq 29 [(2,.imm v_2 (.ns .u64 words_3) 1 1 0 (List.length words_3)),(6,.ptr 0 1 0 0),(7,.ptr 1 1 0 0),(8,.int .i64 ((i2:Nat):Int))],[(0,.vs [.int .i64 (0:Int),.int .i64 (0:Int),.nsl]),(1,.vs [.int .i64 m_0,.int .i64 n_1,.sl 2 1 1 0 a3 a4]),(2,.fl l5)],3⟩
def GT(m_0:Int)(n_1:Int) :Nat×Nat×(List Nat)→aM:=fun (a6,a7,l8)=>⟨aq 29 [(6,.ptr 0 1 0 0),(7,.ptr 1 1 0 0)],[(0,.vs [.int .i64 (0:Int),.int .i64 (0:Int),.nsl]),(1,.vs [.int .i64 m_0,.int .i64 n_1,.sl 2 1 1 0 a6 a7]),(2,.fl l8)],3⟩
noncomputable def Tc:List Code:=cg (cw ((((S9.drop 3).take 1)).headD .skip))
def wo(words_3:List Int)(i2:Nat)(a3:Nat)(a4:Nat)(l5:List Nat) :T ((Nat×Nat×Nat×(List Nat))⊕((Nat×Nat×(List Nat))⊕(de))) :=
  .ask (decide (((i2:Nat):Int)<(((List.length words_3):Nat):Int)))
    (.need (fi ((i2:Nat):Int) (List.length words_3))<|.need (eS i2 (List.length words_3))<|.need (dK ((a3+1)*8) 140737488355328)<|.need (dK (a3+1) 9223372036854775807)<|.need (dK 1 (List.length [(Int.toNat (List.getD words_3 i2 0))]))<|.need (dK a3 (List.length l5))<|.need (cK .i64 (((i2+1):Nat):Int))<|.leaf (.inl ((i2+1),(a3+1),(a3+1),((List.take a3 l5)++(List.take 1 [(Int.toNat (List.getD words_3 i2 0))])))))
    (.leaf (.inr (.inl (a3,a4,l5))))
noncomputable def wq(words_3:List Int) :Nat×Nat×Nat×(List Nat)→Option ((Nat×Nat×Nat×(List Nat))⊕((Nat×Nat×(List Nat))⊕(de))):=fun (i2,a3,a4,l5) =>
  (wo words_3 i2 a3 a4 l5).run
theorem Ql(m_0:Int)(n_1:Int)(v_2:Lv)(words_3:List Int)(i2:Nat)(a3:Nat)(a4:Nat)(l5:List Nat) :Sg prog [] Tc (qQ m_0 n_1 v_2 words_3 (i2,a3,a4,l5)) (wq words_3 (i2,a3,a4,l5)) (qQ m_0 n_1 v_2 words_3) (bS 0 (GT m_0 n_1) uC):=by
  unfold wq;exact aV qP (qQ m_0 n_1 v_2 words_3) [⟨[],[0,1,195],[2,6,7,8]⟩,⟨[],[0,1,2],[6,7]⟩]
def Qm(m_0:Int)(n_1:Int)(a6:Nat)(a7:Nat)(l8:List Nat) :T ((Empty)⊕(de)) :=
  .leaf (.inr (.r0 m_0 n_1 a6 a7 l8))
noncomputable def ab(m_0:Int)(n_1:Int)(words_3:List Int) :Option de:=lG (aL ((Tb).run) fun _ =>
  aL (ch (wq words_3) (0,0,0,([]:List Nat))) fun (a6,a7,l8) =>
  (Qm m_0 n_1 a6 a7 l8).run)
theorem Td(m_0:Int)(n_1:Int)(v_2:Lv)(words_3:List Int){x:de}(h:ab m_0 n_1 words_3=some x) :aB prog AC [] [.int .i64 m_0,.int .i64 n_1,.imm v_2 (.ns .u64 words_3) 1 1 0 (List.length words_3)] (Bh x) :=
  mo false Bh uC h (Sg.cut 3 zd (aV qP (Ta m_0 n_1 v_2 words_3) [⟨[],[0,64],[2,6,7,8]⟩]) (fun _=>Sg.cut 1 zd (vg ⟨[(.cell 1 2,.own 1 1 (.fl ([]:List Nat)))],[0,1,2],[2,6,7,8]⟩ (qQ m_0 n_1 v_2 words_3) (GT m_0 n_1) 0 zd (S8 _) (fun ⟨i2,a3,a4,l5⟩=>Ql m_0 n_1 v_2 words_3 i2 a3 a4 l5)) (fun ⟨a6,a7,l8⟩=>aV qP lx [⟨[],[0,2],[6]⟩])))
    (fun x=>by cases x with | r0 i9 i10 a11 a12 l13=>exact ly [.agg [.int .i64 i9,.int .i64 i10,.sl 1 1 1 0 a11 a12]])
def qR:Option de→Bool
  | some _=>true
  | none=>false
def aN:Option de→Int
  | some (.r0 x _ _ _ _)=>x
  | _=>0
def aO:Option de→Int
  | some (.r0 _ x _ _ _)=>x
  | _=>0
def ax:Option de→Nat
  | some (.r0 _ _ x _ _)=>x
  | _=>0
def Cq:Option de→Nat
  | some (.r0 _ _ _ x _)=>x
  | _=>0
def ay:Option de→List Nat
  | some (.r0 _ _ _ _ x)=>x
  | _=>[]
theorem Te{x:Option de}(h:qR x=true) :x=some (.r0 (aN x) (aO x) (ax x) (Cq x) (ay x)):=by
  unfold qR at h
  split at h<;>first | rfl | (cases h;done) | (rename_i y;cases y;rfl)
noncomputable def IP:aK:=cy AC (.cons (.int .i64) (.cons (.int .i64) (.cons (.ns .u64) .nil))) fun t=>(fun q=>[⟨Bh (.r0 (aN q) (aO q) (ax q) (Cq q) (ay q)),[qR q]⟩]) (ab t.1 t.2.1 t.2.2.1.2)
theorem Oo:aY prog IP:=ba fun t=>(aZ (fun h=>Td t.1 t.2.1 t.2.2.1.1 t.2.2.1.2 (Te h)) bj)
noncomputable def IQ:List aK:=IP::On
theorem fv:aW prog (aT IQ):=aF Oo qP
inductive cZ where
  | r0 (i15:Int)
def nC:cZ→AE×aM
  | .r0 i15=>(.ret,⟨aq 40 [(2,.int .i64 i15)],[],0⟩)
theorem hH:ld nC:=by intro x;cases x<;>(intro h;cases h)
theorem Bi(id:Nat) :ko id nC:=by intro x;cases x<;>(intro h;cases h)
def DF:cZ→ib
  | .r0 i15=>⟨.int .i64 i15,[]⟩
noncomputable def ze:List Code:=cg (kB CR)
def Xr(v_0:Lv)(l_1:List Nat)(_:Unit) :aM:=⟨aq 40 [(0,.imm v_0 (.fl l_1) 1 1 0 (List.length l_1)),(3,.flt false 0),(4,.int .i64 (0:Int))],[],0⟩
def Tf:T ((Unit)⊕(cZ)) :=
  .leaf (.inl ())
def uD(v_0:Lv)(l_1:List Nat) :Nat×Nat→aM:=fun (most2,i3)=>⟨aq 40 [(0,.imm v_0 (.fl l_1) 1 1 0 (List.length l_1)),(3,.flt false most2),(4,.int .i64 ((i3:Nat):Int))],[],0⟩
def IR(most5:Nat) :aM:=⟨aq 40 [(3,.flt false most5)],[],0⟩
noncomputable def Tg:List Code:=cg (cw ((((ze.drop 3).take 1)).headD .skip))
def Xs(v_0:Lv)(l_1:List Nat)(i3:Nat)(most4:Nat) :aM:=⟨aq 40 [(0,.imm v_0 (.fl l_1) 1 1 0 (List.length l_1)),(3,.flt false most4),(4,.int .i64 ((i3:Nat):Int))],[],0⟩
def GU(l_1:List Nat)(most2:Nat)(i3:Nat) :T ((Nat)⊕((Nat)⊕(cZ))) :=
  .ask (decide (((i3:Nat):Int)<(((List.length l_1):Nat):Int)))
    (.need (fi ((i3:Nat):Int) (List.length l_1))<|.need (eS i3 (List.length l_1))<|.ask (flt (List.getD l_1 i3 0) 0)
      (.ask (Yh (CB (List.getD l_1 i3 0)) most2)
        (.leaf (.inl (CB (List.getD l_1 i3 0))))
        (.leaf (.inl most2)))
      (.ask (Yh (List.getD l_1 i3 0) most2)
        (.leaf (.inl (List.getD l_1 i3 0)))
        (.leaf (.inl most2))))
    (.leaf (.inr (.inl most2)))
def Th(i3:Nat)(most4:Nat) :T ((Nat×Nat)⊕((Nat)⊕(cZ))) :=
  .need (cK .i64 (((i3+1):Nat):Int))<|.leaf (.inl (most4,(i3+1)))
noncomputable def qS(l_1:List Nat) :Nat×Nat→Option ((Nat×Nat)⊕((Nat)⊕(cZ))):=fun (most2,i3) =>
  aL ((GU l_1 most2 i3).run) fun most4 =>
  (Th i3 most4).run
theorem Ti(v_0:Lv)(l_1:List Nat)(most2:Nat)(i3:Nat) :Sg prog [] Tg (uD v_0 l_1 (most2,i3)) (qS l_1 (most2,i3)) (uD v_0 l_1) (bS 0 IR nC):=by
  unfold qS;exact Sg.cut 3 (aD hH) (aV fv (Xs v_0 l_1 i3) [⟨[],[],[0,3,4]⟩,⟨[],[],[0,3,4]⟩,⟨[],[],[0,3,4]⟩,⟨[],[],[0,3,4]⟩,⟨[],[],[3]⟩]) (fun most4=>aV fv (uD v_0 l_1) [⟨[],[],[0,3,4]⟩])
def Xt(most5:Nat)(_:Unit) :aM:=⟨aq 40 [(3,.flt false most5),(6,.int .i64 (0:Int))],[],0⟩
def Tj(most5:Nat) :T ((Unit)⊕(cZ)) :=
  .ask (yp most5 0)
    (.leaf (.inr (.r0 (0:Int))))
    (.leaf (.inl ()))
def qT:Nat×Nat→aM:=fun (most6,p7)=>⟨aq 40 [(3,.flt false most6),(6,.int .i64 ((p7:Nat):Int))],[],0⟩
def GV:Nat×Nat→aM:=fun (most8,p9)=>⟨aq 40 [(3,.flt false most8),(6,.int .i64 ((p9:Nat):Int))],[],0⟩
noncomputable def Tk:List Code:=cg (cw ((((((ze.drop 3).drop 1).drop 3).take 1)).headD .skip))
def np(most6:Nat)(p7:Nat) :T ((Nat×Nat)⊕((Nat×Nat)⊕(cZ))) :=
  .ask (fge most6 4607182418800017408)
    (.need (cK .i64 (((p7+1):Nat):Int))<|.leaf (.inl ((fdiv most6 4611686018427387904),(p7+1))))
    (.leaf (.inr (.inl (most6,p7))))
noncomputable def qU:Nat×Nat→Option ((Nat×Nat)⊕((Nat×Nat)⊕(cZ))):=fun (most6,p7) =>
  (np most6 p7).run
theorem Tl(most6:Nat)(p7:Nat) :Sg prog [] Tk (qT (most6,p7)) (qU (most6,p7)) qT (bS 2 GV nC):=by
  unfold qU;exact aV fv qT [⟨[],[],[3,6]⟩,⟨[],[],[3,6]⟩]
def qV:Nat×Int→aM:=fun (most12,p13)=>⟨aq 40 [(3,.flt false most12),(6,.int .i64 p13)],[],0⟩
def GW(p14:Int) :aM:=⟨aq 40 [(6,.int .i64 p14)],[],0⟩
noncomputable def Tm:List Code:=cg (cw (((((((ze.drop 3).drop 1).drop 3).drop 1).take 1)).headD .skip))
def nq(most12:Nat)(p13:Int) :T ((Nat×Int)⊕((Int)⊕(cZ))) :=
  .ask (flt most12 4602678819172646912)
    (.need (cK .i64 (p13-(1:Int)))<|.leaf (.inl ((eY most12 4611686018427387904),(p13-(1:Int)))))
    (.leaf (.inr (.inl p13)))
noncomputable def qW:Nat×Int→Option ((Nat×Int)⊕((Int)⊕(cZ))):=fun (most12,p13) =>
  (nq most12 p13).run
theorem Tn(most12:Nat)(p13:Int) :Sg prog [] Tm (qV (most12,p13)) (qW (most12,p13)) qV (bS 4 GW nC):=by
  unfold qW;exact aV fv qV [⟨[],[],[3,6]⟩,⟨[],[],[6]⟩]
def To(p14:Int) :T ((Empty)⊕(cZ)) :=
  .leaf (.inr (.r0 p14))
noncomputable def bc(l_1:List Nat) :Option cZ:=lG (aL ((Tf).run) fun _ =>
  aL (ch (qS l_1) (0,0)) fun most5 =>
  aL ((Tj most5).run) fun _ =>
  aL (ch (qU) (most5,0)) fun (most8,p9) =>
  aL (ch (qW) (most8,((p9:Nat):Int))) fun p14 =>
  (To p14).run)
theorem Xu(v_0:Lv)(l_1:List Nat){x:cZ}(h:bc l_1=some x) :aB prog CR [] [.imm v_0 (.fl l_1) 1 1 0 (List.length l_1)] (DF x) :=
  mo false DF nC h (Sg.cut 3 hH (aV fv (Xr v_0 l_1) [⟨[],[],[0,3,4]⟩]) (fun _=>Sg.cut 1 hH (vg ⟨[],[],[0,3,4]⟩ (uD v_0 l_1) (IR) 0 hH (Bi _) (fun ⟨most2,i3⟩=>Ti v_0 l_1 most2 i3)) (fun most5=>Sg.cut 3 hH (aV fv (Xt most5) [⟨[],[],[2]⟩,⟨[],[],[3,6]⟩]) (fun _=>Sg.cut 1 hH (vg ⟨[],[],[3,6]⟩ (qT) (GV) 2 hH (Bi _) (fun ⟨most6,p7⟩=>Tl most6 p7)) (fun ⟨most8,p9⟩=>Sg.cut 1 hH (vg ⟨[],[],[3,6]⟩ (qV) (GW) 4 hH (Bi _) (fun ⟨most12,p13⟩=>Tn most12 p13)) (fun p14=>aV fv lx [⟨[],[],[2]⟩]))))))
    (fun x=>by cases x with | r0 i15=>exact ly [.int .i64 i15])
def uE:Option cZ→Bool
  | some _=>true
  | none=>false
def aP:Option cZ→Int
  | some (.r0 x)=>x
  | _=>0
theorem Xv{x:Option cZ}(h:uE x=true) :x=some (.r0 (aP x)):=by
  unfold uE at h
  split at h<;>first | rfl | (cases h;done) | (rename_i y;cases y;rfl)
noncomputable def KU:aK:=cy CR (.cons .fl .nil) fun t=>(fun q=>[⟨DF (.r0 (aP q)),[uE q]⟩]) (bc t.1.2)
theorem Qn:aY prog KU:=ba fun t=>(aZ (fun h=>Xu t.1.1 t.1.2 (Xv h)) bj)
noncomputable def KV:List aK:=KU::IQ
theorem gn:aW prog (aT KV):=aF Qn fv
inductive dw where
  | r0 (a13:Nat)
def xl:dw→AE×aM
  | .r0 a13=>(.ret,⟨aq 110 [(4,.flt false a13)],[],0⟩)
theorem kv:ld xl:=by intro x;cases x<;>(intro h;cases h)
theorem Xw(id:Nat) :ko id xl:=by intro x;cases x<;>(intro h;cases h)
def DG:dw→ib
  | .r0 a13=>⟨.flt false a13,[]⟩
noncomputable def Tp:List Code:=cg (kB CV)
def Xx(p_1:Int) :Int×Int×Int→aM:=fun (sign1,m2,e3)=>⟨aq 110 [(1,.int .i64 p_1),(6,.int .u64 sign1),(7,.int .u64 m2),(8,.int .i64 e3)],[],0⟩
def qX(x_0:Nat)(p_1:Int) :T ((Int×Int×Int)⊕(dw)) :=
  .alt 0
    (.need (!isNaN x_0)<|.need (decide ((0:Int)≤(52:Int)))<|.need ((2048:Int) != (0:Int))<|.ask (!((Int.tmod (Int.fdiv ((x_0:Nat):Int) (2^(min (Int.toNat (52:Int)) (IntKind.u64.bits)))) (2048:Int)) != (2047:Int)))
      (.leaf (.inr (.r0 x_0)))
      (.need (decide ((0:Int)≤(1:Int)))<|.ask ((IntKind.u64.wrap (((x_0:Nat):Int)*2^(min (Int.toNat (1:Int)) (IntKind.u64.bits))))==(0:Int))
        (.leaf (.inr (.r0 x_0)))
        (.ask (p_1==(0:Int))
          (.leaf (.inr (.r0 x_0)))
          (.need (decide ((0:Int)≤(63:Int)))<|.need (decide ((0:Int)≤(63:Int)))<|.need (decide ((0:Int)≤(12:Int)))<|.need (decide ((0:Int)≤(12:Int)))<|.need (decide ((0:Int)≤(52:Int)))<|.need ((2048:Int) != (0:Int))<|.ask ((IntKind.i64.wrap (Int.tmod (Int.fdiv ((x_0:Nat):Int) (2^(min (Int.toNat (52:Int)) (IntKind.u64.bits)))) (2048:Int)))==(0:Int))
            (.leaf (.inl ((IntKind.u64.wrap ((Int.fdiv ((x_0:Nat):Int) (2^(min (Int.toNat (63:Int)) (IntKind.u64.bits))))*2^(min (Int.toNat (63:Int)) (IntKind.u64.bits)))),(Int.fdiv (IntKind.u64.wrap (((x_0:Nat):Int)*2^(min (Int.toNat (12:Int)) (IntKind.u64.bits)))) (2^(min (Int.toNat (12:Int)) (IntKind.u64.bits)))),(1:Int))))
            (.leaf (.inl ((IntKind.u64.wrap ((Int.fdiv ((x_0:Nat):Int) (2^(min (Int.toNat (63:Int)) (IntKind.u64.bits))))*2^(min (Int.toNat (63:Int)) (IntKind.u64.bits)))),(IntKind.u64.wrap ((Int.fdiv (IntKind.u64.wrap (((x_0:Nat):Int)*2^(min (Int.toNat (12:Int)) (IntKind.u64.bits)))) (2^(min (Int.toNat (12:Int)) (IntKind.u64.bits))))+(4503599627370496:Int))),(IntKind.i64.wrap (Int.tmod (Int.fdiv ((x_0:Nat):Int) (2^(min (Int.toNat (52:Int)) (IntKind.u64.bits)))) (2048:Int))))))))))
    (.alt 1
      (.need (isNaN x_0)<|.leaf (.inr (.r0 x_0)))
      (.fail))
def uF(p_1:Int)(sign1:Int) :Int×Int→aM:=fun (m4,e5)=>⟨aq 110 [(1,.int .i64 p_1),(6,.int .u64 sign1),(7,.int .u64 m4),(8,.int .i64 e5)],[],0⟩
def IS(p_1:Int)(sign1:Int) :Int×Int→aM:=fun (m6,e7)=>⟨aq 110 [(1,.int .i64 p_1),(6,.int .u64 sign1),(7,.int .u64 m6),(8,.int .i64 e7)],[],0⟩
noncomputable def Tq:List Code:=cg (cw ((((Tp.drop 9).take 1)).headD .skip))
def Tr(m4:Int)(e5:Int) :T ((Int×Int)⊕((Int×Int)⊕(dw))) :=
  .ask (decide (m4<(4503599627370496:Int)))
    (.need (cK .i64 (e5-(1:Int)))<|.leaf (.inl ((IntKind.u64.wrap (m4*(2:Int))),(e5-(1:Int)))))
    (.leaf (.inr (.inl (m4,e5))))
noncomputable def zf:Int×Int→Option ((Int×Int)⊕((Int×Int)⊕(dw))):=fun (m4,e5) =>
  (Tr m4 e5).run
theorem Ts(p_1:Int)(sign1:Int)(m4:Int)(e5:Int) :Sg prog [] Tq (uF p_1 sign1 (m4,e5)) (zf (m4,e5)) (uF p_1 sign1) (bS 0 (IS p_1 sign1) xl):=by
  unfold zf;exact aV gn (uF p_1 sign1) [⟨[],[],[1,6,7,8]⟩,⟨[],[],[1,6,7,8]⟩]
def Xy(sign1:Int)(m6:Int)(e7:Int)(p8:Int) :aM:=⟨aq 110 [(1,.int .i64 p8),(6,.int .u64 sign1),(7,.int .u64 m6),(8,.int .i64 e7)],[],0⟩
def Tt(p_1:Int) :T ((Int)⊕(dw)) :=
  .ask (decide (p_1>(5000:Int)))
    (.leaf (.inl (5000:Int)))
    (.leaf (.inl p_1))
def Xz(sign1:Int)(m6:Int)(e7:Int)(p9:Int) :aM:=⟨aq 110 [(1,.int .i64 p9),(6,.int .u64 sign1),(7,.int .u64 m6),(8,.int .i64 e7)],[],0⟩
def Tu(p8:Int) :T ((Int)⊕(dw)) :=
  .ask (decide (p8<(-5000:Int)))
    (.leaf (.inl (-5000:Int)))
    (.leaf (.inl p8))
def XA(sign1:Int) :Int×Bool→aM:=fun (q10,b11)=>⟨aq 110 [(6,.int .u64 sign1),(10,.int .u64 q10),(103,.bool false b11)],[],0⟩
def GX(sign1:Int)(m6:Int)(e7:Int)(p9:Int) :T ((Int×Bool)⊕(dw)) :=
  .need (cK .i64 (e7+p9))<|.ask (decide ((e7+p9)≥(2047:Int)))
    (.leaf (.inr (.r0 (Int.toNat (IntKind.u64.wrap (sign1+(9218868437227405312:Int)))))))
    (.ask (decide ((e7+p9)≥(1:Int)))
      (.need (decide ((0:Int)≤(52:Int)))<|.leaf (.inr (.r0 (Int.toNat (IntKind.u64.wrap ((IntKind.u64.wrap ((IntKind.u64.wrap (sign1+(IntKind.u64.wrap ((IntKind.u64.wrap (e7+p9))*2^(min (Int.toNat (52:Int)) (IntKind.u64.bits))))))+m6))-(4503599627370496:Int)))))))
      (.need (cK .i64 ((1:Int)-(e7+p9)))<|.ask (decide (((1:Int)-(e7+p9))>(60:Int)))
        (.leaf (.inr (.r0 (Int.toNat sign1))))
        (.need (decide ((0:Int)≤(IntKind.u64.wrap ((1:Int)-(e7+p9)))))<|.need (decide ((0:Int)≤(IntKind.u64.wrap ((1:Int)-(e7+p9)))))<|.need (cK .i64 (((1:Int)-(e7+p9))-(1:Int)))<|.need (decide ((0:Int)≤(IntKind.u64.wrap (((1:Int)-(e7+p9))-(1:Int)))))<|.ask (decide ((IntKind.u64.wrap (m6-(IntKind.u64.wrap ((Int.fdiv m6 (2^(min (Int.toNat (IntKind.u64.wrap ((1:Int)-(e7+p9)))) (IntKind.u64.bits))))*2^(min (Int.toNat (IntKind.u64.wrap ((1:Int)-(e7+p9)))) (IntKind.u64.bits))))))>(IntKind.u64.wrap ((1:Int)*2^(min (Int.toNat (IntKind.u64.wrap (((1:Int)-(e7+p9))-(1:Int)))) (IntKind.u64.bits))))))
          (.leaf (.inl ((Int.fdiv m6 (2^(min (Int.toNat (IntKind.u64.wrap ((1:Int)-(e7+p9)))) (IntKind.u64.bits)))),true)))
          (.ask ((IntKind.u64.wrap (m6-(IntKind.u64.wrap ((Int.fdiv m6 (2^(min (Int.toNat (IntKind.u64.wrap ((1:Int)-(e7+p9)))) (IntKind.u64.bits))))*2^(min (Int.toNat (IntKind.u64.wrap ((1:Int)-(e7+p9)))) (IntKind.u64.bits))))))==(IntKind.u64.wrap ((1:Int)*2^(min (Int.toNat (IntKind.u64.wrap (((1:Int)-(e7+p9))-(1:Int)))) (IntKind.u64.bits)))))
            (.need ((2:Int) != (0:Int))<|.leaf (.inl ((Int.fdiv m6 (2^(min (Int.toNat (IntKind.u64.wrap ((1:Int)-(e7+p9)))) (IntKind.u64.bits)))),((Int.tmod (Int.fdiv m6 (2^(min (Int.toNat (IntKind.u64.wrap ((1:Int)-(e7+p9)))) (IntKind.u64.bits)))) (2:Int))==(1:Int)))))
            (.leaf (.inl ((Int.fdiv m6 (2^(min (Int.toNat (IntKind.u64.wrap ((1:Int)-(e7+p9)))) (IntKind.u64.bits)))),false)))))))
def XB(sign1:Int)(q12:Int) :aM:=⟨aq 110 [(6,.int .u64 sign1),(10,.int .u64 q12)],[],0⟩
def Tv(q10:Int)(b11:Bool) :T ((Int)⊕(dw)) :=
  .ask b11
    (.leaf (.inl (IntKind.u64.wrap (q10+(1:Int)))))
    (.leaf (.inl q10))
def Tw(sign1:Int)(q12:Int) :T ((Empty)⊕(dw)) :=
  .leaf (.inr (.r0 (Int.toNat (IntKind.u64.wrap (sign1+q12)))))
noncomputable def lq(x_0:Nat)(p_1:Int) :Option dw:=lG (aL ((qX x_0 p_1).run) fun (sign1,m2,e3) =>
  aL (ch (zf) (m2,e3)) fun (m6,e7) =>
  aL ((Tt p_1).run) fun p8 =>
  aL ((Tu p8).run) fun p9 =>
  aL ((GX sign1 m6 e7 p9).run) fun (q10,b11) =>
  aL ((Tv q10 b11).run) fun q12 =>
  (Tw sign1 q12).run)
theorem XC(x_0:Nat)(p_1:Int){x:dw}(h:lq x_0 p_1=some x) :aB prog CV [] [.flt false x_0,.int .i64 p_1] (DG x) :=
  mo false DG xl h (Sg.cut 9 kv (aV gn (Xx p_1) [⟨[],[],[4]⟩,⟨[],[],[4]⟩,⟨[],[],[4]⟩,⟨[],[],[1,6,7,8]⟩,⟨[],[],[1,6,7,8]⟩,⟨[],[],[4]⟩]) (fun ⟨sign1,m2,e3⟩=>Sg.cut 1 kv (vg ⟨[],[],[1,6,7,8]⟩ (uF p_1 sign1) (IS p_1 sign1) 0 kv (Xw _) (fun ⟨m4,e5⟩=>Ts p_1 sign1 m4 e5)) (fun ⟨m6,e7⟩=>Sg.cut 2 kv (aV gn (Xy sign1 m6 e7) [⟨[],[],[1,6,7,8]⟩,⟨[],[],[1,6,7,8]⟩]) (fun p8=>Sg.cut 2 kv (aV gn (Xz sign1 m6 e7) [⟨[],[],[1,6,7,8]⟩,⟨[],[],[1,6,7,8]⟩]) (fun p9=>Sg.cut 12 kv (aV gn (XA sign1) [⟨[],[],[4]⟩,⟨[],[],[4]⟩,⟨[],[],[4]⟩,⟨[],[],[6,10,103]⟩,⟨[],[],[6,10,103]⟩,⟨[],[],[6,10,103]⟩]) (fun ⟨q10,b11⟩=>Sg.cut 1 kv (aV gn (XB sign1) [⟨[],[],[6,10]⟩,⟨[],[],[6,10]⟩]) (fun q12=>aV gn lx [⟨[],[],[4]⟩])))))))
    (fun x=>by cases x with | r0 a13=>exact ly [.flt false a13])
def uG:Option dw→Bool
  | some _=>true
  | none=>false
def lR:Option dw→Nat
  | some (.r0 x)=>x
  | _=>0
theorem XD{x:Option dw}(h:uG x=true) :x=some (.r0 (lR x)):=by
  unfold uG at h
  split at h<;>first | rfl | (cases h;done) | (rename_i y;cases y;rfl)
noncomputable def KW:aK:=cy CV (.cons (.flt false) (.cons (.int .i64) .nil)) fun t=>(fun q=>[⟨DG (.r0 (lR q)),[uG q]⟩]) (lq t.1 t.2.1)
theorem Qo:aY prog KW:=ba fun t=>(aZ (fun h=>XC t.1 t.2.1 (XD h)) bj)
noncomputable def KX:List aK:=KW::KV
theorem lS:aW prog (aT KX):=aF Qo gn
inductive cY where
  | r0 (i13:Int) (i14:Int) (a15:Nat) (a16:Nat) (l17:List Nat)
def uH:cY→AE×aM
  | .r0 i13 i14 a15 a16 l17=>(.ret,⟨aq 32 [(4,.ptr 0 1 0 0)],[(0,.vs [.int .i64 i13,.int .i64 i14,.sl 1 1 1 0 a15 a16]),(1,.fl l17)],2⟩)
theorem qY:ld uH:=by intro x;cases x<;>(intro h;cases h)
theorem Tx(id:Nat) :ko id uH:=by intro x;cases x<;>(intro h;cases h)
def Bj:cY→ib
  | .r0 i13 i14 a15 a16 l17=>⟨.agg [.int .i64 i13,.int .i64 i14,.sl 0 1 1 0 a15 a16],[some (.fl l17)]⟩
noncomputable def Qp:List Code:=cg (kB AF)
def Tz(a_0:Int)(a_1:Int)(v_2:Lv)(a_3:List Nat)(p_4:Int)(_:Unit) :aM:=⟨aq 32 [(1,.int .i64 p_4),(2,.ptr 0 1 0 0),(4,.ptr 1 1 0 0),(5,.ptr 2 1 0 0),(6,.int .i64 (0:Int))],[(0,.vs [.int .i64 a_0,.int .i64 a_1,.imm v_2 (.fl a_3) 1 1 0 (List.length a_3)]),(1,.vs [.int .i64 (0:Int),.int .i64 (0:Int),.nsl]),(2,.vs [.int .i64 a_0,.int .i64 a_1,.nsl])],3⟩
def Qq:T ((Unit)⊕(cY)) :=
  .leaf (.inl ())
def qZ(a_0:Int)(a_1:Int)(v_2:Lv)(a_3:List Nat)(p_4:Int) :Nat×Nat×Nat×(List Nat)→aM:=fun (i4,a5,a6,l7)=>⟨aq 32 [(1,.int .i64 p_4),(2,.ptr 0 1 0 0),(4,.ptr 1 1 0 0),(5,.ptr 2 1 0 0),(6,.int .i64 ((i4:Nat):Int))],[(0,.vs [.int .i64 a_0,.int .i64 a_1,.imm v_2 (.fl a_3) 1 1 0 (List.length a_3)]),(1,.vs [.int .i64 (0:Int),.int .i64 (0:Int),.nsl]),(2,.vs [.int .i64 a_0,.int .i64 a_1,.sl 3 1 1 0 a5 a6]),(3,.fl l7)],4⟩
def GY(a_0:Int)(a_1:Int) :Nat×Nat×(List Nat)→aM:=fun (a10,a11,l12)=>⟨aq 32 [(4,.ptr 0 1 0 0),(5,.ptr 1 1 0 0)],[(0,.vs [.int .i64 (0:Int),.int .i64 (0:Int),.nsl]),(1,.vs [.int .i64 a_0,.int .i64 a_1,.sl 2 1 1 0 a10 a11]),(2,.fl l12)],3⟩
noncomputable def Qr:List Code:=cg (cw ((((Qp.drop 3).take 1)).headD .skip))
def TA(a_0:Int)(a_1:Int)(v_2:Lv)(a_3:List Nat)(p_4:Int)(i4:Nat) :Nat×(List Nat)→aM:=fun (a8,l9)=>⟨aq 32 [(1,.int .i64 p_4),(2,.ptr 0 1 0 0),(4,.ptr 1 1 0 0),(5,.ptr 2 1 0 0),(6,.int .i64 ((i4:Nat):Int))],[(0,.vs [.int .i64 a_0,.int .i64 a_1,.imm v_2 (.fl a_3) 1 1 0 (List.length a_3)]),(1,.vs [.int .i64 (0:Int),.int .i64 (0:Int),.nsl]),(2,.vs [.int .i64 a_0,.int .i64 a_1,.sl 3 1 1 0 a8 a8]),(3,.fl l9)],4⟩
def ws(a_3:List Nat)(p_4:Int)(i4:Nat)(a5:Nat)(a6:Nat)(l7:List Nat) :T ((Nat×(List Nat))⊕((Nat×Nat×(List Nat))⊕(cY))) :=
  .ask (decide (((i4:Nat):Int)<(((List.length a_3):Nat):Int)))
    (.need (fi ((i4:Nat):Int) (List.length a_3))<|.need (eS i4 (List.length a_3))<|.need (uG (lq (List.getD a_3 i4 0) p_4))<|.need (dK ((a5+1)*8) 140737488355328)<|.need (dK (a5+1) 9223372036854775807)<|.need (dK 1 (List.length [(lR (lq (List.getD a_3 i4 0) p_4))]))<|.need (dK a5 (List.length l7))<|.leaf (.inl ((a5+1),((List.take a5 l7)++(List.take 1 [(lR (lq (List.getD a_3 i4 0) p_4))])))))
    (.leaf (.inr (.inl (a5,a6,l7))))
def Qs(i4:Nat)(a8:Nat)(l9:List Nat) :T ((Nat×Nat×Nat×(List Nat))⊕((Nat×Nat×(List Nat))⊕(cY))) :=
  .need (cK .i64 (((i4+1):Nat):Int))<|.leaf (.inl ((i4+1),a8,a8,l9))
noncomputable def wt(a_3:List Nat)(p_4:Int) :Nat×Nat×Nat×(List Nat)→Option ((Nat×Nat×Nat×(List Nat))⊕((Nat×Nat×(List Nat))⊕(cY))):=fun (i4,a5,a6,l7) =>
  aL ((ws a_3 p_4 i4 a5 a6 l7).run) fun (a8,l9) =>
  (Qs i4 a8 l9).run
theorem Qt(a_0:Int)(a_1:Int)(v_2:Lv)(a_3:List Nat)(p_4:Int)(i4:Nat)(a5:Nat)(a6:Nat)(l7:List Nat) :Sg prog [] Qr (qZ a_0 a_1 v_2 a_3 p_4 (i4,a5,a6,l7)) (wt a_3 p_4 (i4,a5,a6,l7)) (qZ a_0 a_1 v_2 a_3 p_4) (bS 0 (GY a_0 a_1) uH):=by
  unfold wt;exact Sg.cut 3 (aD qY) (aV lS (TA a_0 a_1 v_2 a_3 p_4 i4) [⟨[],[0,1,2,244],[1,2,4,5,6]⟩,⟨[],[1,2,3],[4,5]⟩]) (fun ⟨a8,l9⟩=>aV lS (qZ a_0 a_1 v_2 a_3 p_4) [⟨[],[0,1,2,3],[1,2,4,5,6]⟩])
def Qu(a_0:Int)(a_1:Int)(a10:Nat)(a11:Nat)(l12:List Nat) :T ((Empty)⊕(cY)) :=
  .leaf (.inr (.r0 a_0 a_1 a10 a11 l12))
noncomputable def be(a_0:Int)(a_1:Int)(a_3:List Nat)(p_4:Int) :Option cY:=lG (aL ((Qq).run) fun _ =>
  aL (ch (wt a_3 p_4) (0,0,0,([]:List Nat))) fun (a10,a11,l12) =>
  (Qu a_0 a_1 a10 a11 l12).run)
theorem TB(a_0:Int)(a_1:Int)(v_2:Lv)(a_3:List Nat)(p_4:Int){x:cY}(h:be a_0 a_1 a_3 p_4=some x) :aB prog AF [] [.agg [.int .i64 a_0,.int .i64 a_1,.imm v_2 (.fl a_3) 1 1 0 (List.length a_3)],.int .i64 p_4] (Bj x) :=
  mo false Bj uH h (Sg.cut 3 qY (aV lS (Tz a_0 a_1 v_2 a_3 p_4) [⟨[],[0,16,112],[1,2,4,5,6]⟩]) (fun _=>Sg.cut 1 qY (vg ⟨[(.cell 2 2,.own 1 1 (.fl ([]:List Nat)))],[0,1,2,3],[1,2,4,5,6]⟩ (qZ a_0 a_1 v_2 a_3 p_4) (GY a_0 a_1) 0 qY (Tx _) (fun ⟨i4,a5,a6,l7⟩=>Qt a_0 a_1 v_2 a_3 p_4 i4 a5 a6 l7)) (fun ⟨a10,a11,l12⟩=>aV lS lx [⟨[],[0,2],[4]⟩])))
    (fun x=>by cases x with | r0 i13 i14 a15 a16 l17=>exact ly [.agg [.int .i64 i13,.int .i64 i14,.sl 1 1 1 0 a15 a16]])
def ra:Option cY→Bool
  | some _=>true
  | none=>false
def dP:Option cY→Int
  | some (.r0 x _ _ _ _)=>x
  | _=>0
def dQ:Option cY→Int
  | some (.r0 _ x _ _ _)=>x
  | _=>0
def dt:Option cY→Nat
  | some (.r0 _ _ x _ _)=>x
  | _=>0
def uI:Option cY→Nat
  | some (.r0 _ _ _ x _)=>x
  | _=>0
def du:Option cY→List Nat
  | some (.r0 _ _ _ _ x)=>x
  | _=>[]
theorem TC{x:Option cY}(h:ra x=true) :x=some (.r0 (dP x) (dQ x) (dt x) (uI x) (du x)):=by
  unfold ra at h
  split at h<;>first | rfl | (cases h;done) | (rename_i y;cases y;rfl)
noncomputable def IT:aK:=cy AF (.cons (.agg (.cons (.int .i64) (.cons (.int .i64) (.cons .fl .nil)))) (.cons (.int .i64) .nil)) fun t=>(fun q=>[⟨Bj (.r0 (dP q) (dQ q) (dt q) (uI q) (du q)),[ra q]⟩]) (be t.1.1 t.1.2.1 t.1.2.2.1.2 t.2.1)
theorem Oq:aY prog IT:=ba fun t=>(aZ (fun h=>TB t.1.1 t.1.2.1 t.1.2.2.1.1 t.1.2.2.1.2 t.2.1 (TC h)) bj)
noncomputable def IU:List aK:=IT::KX
theorem fw:aW prog (aT IU):=aF Oq lS
inductive cC where
  | r0 (i14:Int) (i15:Int) (a16:Nat) (l17:List Nat)
def pb:cC→AE×aM
  | .r0 i14 i15 a16 l17=>(.ret,⟨aq 37 [(2,.ptr 0 1 0 0)],[(0,.vs [.int .i64 i14,.int .i64 i15,.sl 1 1 1 0 a16 a16]),(1,.fl l17)],2⟩)
theorem fT:ld pb:=by intro x;cases x<;>(intro h;cases h)
theorem zg(id:Nat) :ko id pb:=by intro x;cases x<;>(intro h;cases h)
def Bk:cC→ib
  | .r0 i14 i15 a16 l17=>⟨.agg [.int .i64 i14,.int .i64 i15,.sl 0 1 1 0 a16 a16],[some (.fl l17)]⟩
noncomputable def Qv:List Code:=cg (kB AG)
def TD(a_0:Int)(a_1:Int)(v_2:Lv)(a_3:List Nat) :Nat×(List Nat)→aM:=fun (a1,l2)=>⟨aq 37 [(1,.ptr 0 1 0 0),(2,.ptr 1 1 0 0),(3,.ptr 2 1 0 0),(4,.int .i64 (0:Int))],[(0,.vs [.int .i64 a_0,.int .i64 a_1,.imm v_2 (.fl a_3) 1 1 0 (List.length a_3)]),(1,.vs [.int .i64 (0:Int),.int .i64 (0:Int),.nsl]),(2,.vs [.int .i64 a_1,.int .i64 a_0,.sl 3 1 1 0 a1 a1]),(3,.fl l2)],4⟩
def Ef(a_0:Int)(a_1:Int) :T ((Nat×(List Nat))⊕(cC)) :=
  .need (cK .i64 (a_1*a_0))<|.need (decide ((0:Int)≤(a_1*a_0)))<|.need (decide ((a_1*a_0)≤(a_1*a_0)))<|.need (decide ((8:Int)*(a_1*a_0)≤140737488355328))<|.need (cK .i64 (a_1*a_0))<|.leaf (.inl ((Int.toNat (a_1*a_0)),(List.replicate (Int.toNat (a_1*a_0)) 0)))
def pK(a_0:Int)(a_1:Int)(v_2:Lv)(a_3:List Nat)(a1:Nat) :Nat×(List Nat)→aM:=fun (i7,l8)=>⟨aq 37 [(1,.ptr 0 1 0 0),(2,.ptr 1 1 0 0),(3,.ptr 2 1 0 0),(4,.int .i64 ((i7:Nat):Int))],[(0,.vs [.int .i64 a_0,.int .i64 a_1,.imm v_2 (.fl a_3) 1 1 0 (List.length a_3)]),(1,.vs [.int .i64 (0:Int),.int .i64 (0:Int),.nsl]),(2,.vs [.int .i64 a_1,.int .i64 a_0,.sl 3 1 1 0 a1 a1]),(3,.fl l8)],4⟩
def wu(a_0:Int)(a_1:Int)(a1:Nat)(l13:(List Nat)) :aM:=⟨aq 37 [(2,.ptr 0 1 0 0),(3,.ptr 1 1 0 0)],[(0,.vs [.int .i64 (0:Int),.int .i64 (0:Int),.nsl]),(1,.vs [.int .i64 a_1,.int .i64 a_0,.sl 2 1 1 0 a1 a1]),(2,.fl l13)],3⟩
noncomputable def Eg:List Code:=cg (cw ((((Qv.drop 3).take 1)).headD .skip))
def Qw(a_0:Int)(a_1:Int)(v_2:Lv)(a_3:List Nat)(a1:Nat)(i7:Nat)(l8:List Nat)(_:Unit) :aM:=⟨aq 37 [(1,.ptr 0 1 0 0),(2,.ptr 1 1 0 0),(3,.ptr 2 1 0 0),(4,.int .i64 ((i7:Nat):Int))],[(0,.vs [.int .i64 a_0,.int .i64 a_1,.imm v_2 (.fl a_3) 1 1 0 (List.length a_3)]),(1,.vs [.int .i64 (0:Int),.int .i64 (0:Int),.nsl]),(2,.vs [.int .i64 a_1,.int .i64 a_0,.sl 3 1 1 0 a1 a1]),(3,.fl l8)],4⟩
def wv(a_0:Int)(i7:Nat)(l8:List Nat) :T ((Unit)⊕(((List Nat))⊕(cC))) :=
  .ask (decide (((i7:Nat):Int)<a_0))
    (.leaf (.inl ()))
    (.leaf (.inr (.inl l8)))
def ww(a_0:Int)(a_1:Int)(v_2:Lv)(a_3:List Nat)(a1:Nat)(i7:Nat)(l12:(List Nat)) :aM:=⟨aq 37 [(1,.ptr 0 1 0 0),(2,.ptr 1 1 0 0),(3,.ptr 2 1 0 0),(4,.int .i64 ((i7:Nat):Int))],[(0,.vs [.int .i64 a_0,.int .i64 a_1,.imm v_2 (.fl a_3) 1 1 0 (List.length a_3)]),(1,.vs [.int .i64 (0:Int),.int .i64 (0:Int),.nsl]),(2,.vs [.int .i64 a_1,.int .i64 a_0,.sl 3 1 1 0 a1 a1]),(3,.fl l12)],4⟩
noncomputable def Qx:List Code:=cg (inBlock ((((Eg.drop 2).take 1)).headD .skip))
def Qy(a_0:Int)(a_1:Int)(v_2:Lv)(a_3:List Nat)(a1:Nat)(i7:Nat)(l8:List Nat)(_:Unit) :aM:=⟨aq 37 [(1,.ptr 0 1 0 0),(2,.ptr 1 1 0 0),(3,.ptr 2 1 0 0),(4,.int .i64 ((i7:Nat):Int)),(5,.int .i64 (0:Int))],[(0,.vs [.int .i64 a_0,.int .i64 a_1,.imm v_2 (.fl a_3) 1 1 0 (List.length a_3)]),(1,.vs [.int .i64 (0:Int),.int .i64 (0:Int),.nsl]),(2,.vs [.int .i64 a_1,.int .i64 a_0,.sl 3 1 1 0 a1 a1]),(3,.fl l8)],4⟩
def Qz:T ((Unit)⊕(((List Nat))⊕(((List Nat))⊕(cC)))) :=
  .leaf (.inl ())
def pL(a_0:Int)(a_1:Int)(v_2:Lv)(a_3:List Nat)(a1:Nat)(i7:Nat) :Nat×(List Nat)→aM:=fun (k9,l10)=>⟨aq 37 [(1,.ptr 0 1 0 0),(2,.ptr 1 1 0 0),(3,.ptr 2 1 0 0),(4,.int .i64 ((i7:Nat):Int)),(5,.int .i64 ((k9:Nat):Int))],[(0,.vs [.int .i64 a_0,.int .i64 a_1,.imm v_2 (.fl a_3) 1 1 0 (List.length a_3)]),(1,.vs [.int .i64 (0:Int),.int .i64 (0:Int),.nsl]),(2,.vs [.int .i64 a_1,.int .i64 a_0,.sl 3 1 1 0 a1 a1]),(3,.fl l10)],4⟩
def Eh(a_0:Int)(a_1:Int)(v_2:Lv)(a_3:List Nat)(a1:Nat)(i7:Nat)(l11:(List Nat)) :aM:=⟨aq 37 [(1,.ptr 0 1 0 0),(2,.ptr 1 1 0 0),(3,.ptr 2 1 0 0),(4,.int .i64 ((i7:Nat):Int))],[(0,.vs [.int .i64 a_0,.int .i64 a_1,.imm v_2 (.fl a_3) 1 1 0 (List.length a_3)]),(1,.vs [.int .i64 (0:Int),.int .i64 (0:Int),.nsl]),(2,.vs [.int .i64 a_1,.int .i64 a_0,.sl 3 1 1 0 a1 a1]),(3,.fl l11)],4⟩
noncomputable def QA:List Code:=cg (cw ((((Qx.drop 1).take 1)).headD .skip))
def wx(a_0:Int)(a_1:Int)(a_3:List Nat)(a1:Nat)(i7:Nat)(k9:Nat)(l10:List Nat) :T ((Nat×(List Nat))⊕(((List Nat))⊕(((List Nat))⊕(((List Nat))⊕(cC))))) :=
  .ask (decide (((k9:Nat):Int)<a_1))
    (.need (cK .i64 (((k9:Nat):Int)*a_0))<|.need (cK .i64 ((((k9:Nat):Int)*a_0)+((i7:Nat):Int)))<|.need (cK .i64 (((i7:Nat):Int)*a_1))<|.need (cK .i64 ((((i7:Nat):Int)*a_1)+((k9:Nat):Int)))<|.need (fi ((((i7:Nat):Int)*a_1)+((k9:Nat):Int)) (List.length a_3))<|.need (eS (Int.toNat ((((i7:Nat):Int)*a_1)+((k9:Nat):Int))) (List.length a_3))<|.need (fi ((((k9:Nat):Int)*a_0)+((i7:Nat):Int)) a1)<|.need (eS (Int.toNat ((((k9:Nat):Int)*a_0)+((i7:Nat):Int))) (List.length l10))<|.need (cK .i64 (((k9+1):Nat):Int))<|.leaf (.inl ((k9+1),(List.set l10 (Int.toNat ((((k9:Nat):Int)*a_0)+((i7:Nat):Int))) (List.getD a_3 (Int.toNat ((((i7:Nat):Int)*a_1)+((k9:Nat):Int))) 0)))))
    (.leaf (.inr (.inl l10)))
noncomputable def wy(a_0:Int)(a_1:Int)(a_3:List Nat)(a1:Nat)(i7:Nat) :Nat×(List Nat)→Option ((Nat×(List Nat))⊕(((List Nat))⊕(((List Nat))⊕(((List Nat))⊕(cC))))):=fun (k9,l10) =>
  (wx a_0 a_1 a_3 a1 i7 k9 l10).run
theorem QB(a_0:Int)(a_1:Int)(v_2:Lv)(a_3:List Nat)(a1:Nat)(i7:Nat)(k9:Nat)(l10:List Nat) :Sg prog [] QA (pL a_0 a_1 v_2 a_3 a1 i7 (k9,l10)) (wy a_0 a_1 a_3 a1 i7 (k9,l10)) (pL a_0 a_1 v_2 a_3 a1 i7) (bS 2 (Eh a_0 a_1 v_2 a_3 a1 i7) (bS 1 (ww a_0 a_1 v_2 a_3 a1 i7) (bS 0 (wu a_0 a_1 a1) pb))):=by
  unfold wy;exact aV fw (pL a_0 a_1 v_2 a_3 a1 i7) [⟨[],[0,1,2,3],[1,2,3,4,5]⟩,⟨[],[0,1,2,3],[1,2,3,4]⟩]
def QC(l11:List Nat) :T (((List Nat))⊕(((List Nat))⊕(((List Nat))⊕(cC)))) :=
  .leaf (.inl l11)
def QD(i7:Nat)(l12:List Nat) :T ((Nat×(List Nat))⊕(((List Nat))⊕(cC))) :=
  .need (cK .i64 (((i7+1):Nat):Int))<|.leaf (.inl ((i7+1),l12))
noncomputable def wz(a_0:Int)(a_1:Int)(a_3:List Nat)(a1:Nat) :Nat×(List Nat)→Option ((Nat×(List Nat))⊕(((List Nat))⊕(cC))):=fun (i7,l8) =>
  aL ((wv a_0 i7 l8).run) fun _ =>
  aL (vj (aL ((Qz).run) fun _ =>
  aL (ch (wy a_0 a_1 a_3 a1 i7) (0,l8)) fun l11 =>
  (QC l11).run)) fun l12 =>
  (QD i7 l12).run
theorem QE(a_0:Int)(a_1:Int)(v_2:Lv)(a_3:List Nat)(a1:Nat)(i7:Nat)(l8:List Nat) :Sg prog [] Eg (pK a_0 a_1 v_2 a_3 a1 (i7,l8)) (wz a_0 a_1 a_3 a1 (i7,l8)) (pK a_0 a_1 v_2 a_3 a1) (bS 0 (wu a_0 a_1 a1) pb):=by
  unfold wz;exact Sg.cut 2 (aD fT) (aV fw (Qw a_0 a_1 v_2 a_3 a1 i7 l8) [⟨[],[0,1,2,3],[1,2,3,4]⟩,⟨[],[1,2,3],[2,3]⟩]) (fun _=>Sg.cut 1 (aD fT) (sgb (ww a_0 a_1 v_2 a_3 a1 i7) 1 (aD fT) (ck (by decide) (zg _)) (Sg.cut 1 (aD (aD fT)) (aV fw (Qy a_0 a_1 v_2 a_3 a1 i7 l8) [⟨[],[0,1,2,3],[1,2,3,4,5]⟩]) (fun _=>Sg.cut 1 (aD (aD fT)) (vg ⟨[],[0,1,2,3],[1,2,3,4,5]⟩ (pL a_0 a_1 v_2 a_3 a1 i7) (Eh a_0 a_1 v_2 a_3 a1 i7) 2 (aD (aD fT)) (ck (by decide) (ck (by decide) (zg _))) (fun ⟨k9,l10⟩=>QB a_0 a_1 v_2 a_3 a1 i7 k9 l10)) (fun l11=>aV fw (ww a_0 a_1 v_2 a_3 a1 i7) [⟨[],[0,1,2,3],[1,2,3,4]⟩])))) (fun l12=>aV fw (pK a_0 a_1 v_2 a_3 a1) [⟨[],[0,1,2,3],[1,2,3,4]⟩]))
def QF(a_0:Int)(a_1:Int)(a1:Nat)(l13:List Nat) :T ((Empty)⊕(cC)) :=
  .leaf (.inr (.r0 a_1 a_0 a1 l13))
noncomputable def hJ(a_0:Int)(a_1:Int)(a_3:List Nat) :Option cC:=lG (aL ((Ef a_0 a_1).run) fun (a1,l2) =>
  aL (ch (wz a_0 a_1 a_3 a1) (0,l2)) fun l13 =>
  (QF a_0 a_1 a1 l13).run)
theorem TE(a_0:Int)(a_1:Int)(v_2:Lv)(a_3:List Nat){x:cC}(h:hJ a_0 a_1 a_3=some x) :aB prog AG [] [.agg [.int .i64 a_0,.int .i64 a_1,.imm v_2 (.fl a_3) 1 1 0 (List.length a_3)]] (Bk x) :=
  mo false Bk pb h (Sg.cut 3 fT (aV fw (TD a_0 a_1 v_2 a_3) [⟨[],[0,16,112,96],[1,2,3,4]⟩]) (fun ⟨a1,l2⟩=>Sg.cut 1 fT (vg ⟨[],[0,1,2,3],[1,2,3,4]⟩ (pK a_0 a_1 v_2 a_3 a1) (wu a_0 a_1 a1) 0 fT (zg _) (fun ⟨i7,l8⟩=>QE a_0 a_1 v_2 a_3 a1 i7 l8)) (fun l13=>aV fw lx [⟨[],[0,2],[2]⟩])))
    (fun x=>by cases x with | r0 i14 i15 a16 l17=>exact ly [.agg [.int .i64 i14,.int .i64 i15,.sl 1 1 1 0 a16 a16]])
def rb:Option cC→Bool
  | some _=>true
  | none=>false
def uJ:Option cC→Int
  | some (.r0 x _ _ _)=>x
  | _=>0
def uK:Option cC→Int
  | some (.r0 _ x _ _)=>x
  | _=>0
def oh:Option cC→Nat
  | some (.r0 _ _ x _)=>x
  | _=>0
def uL:Option cC→List Nat
  | some (.r0 _ _ _ x)=>x
  | _=>[]
theorem TF{x:Option cC}(h:rb x=true) :x=some (.r0 (uJ x) (uK x) (oh x) (uL x)):=by
  unfold rb at h
  split at h<;>first | rfl | (cases h;done) | (rename_i y;cases y;rfl)
noncomputable def IV:aK:=cy AG (.cons (.agg (.cons (.int .i64) (.cons (.int .i64) (.cons .fl .nil)))) .nil) fun t=>(fun q=>[⟨Bk (.r0 (uJ q) (uK q) (oh q) (uL q)),[rb q]⟩]) (hJ t.1.1 t.1.2.1 t.1.2.2.1.2)
theorem Ot:aY prog IV:=ba fun t=>(aZ (fun h=>TE t.1.1 t.1.2.1 t.1.2.2.1.1 t.1.2.2.1.2 (TF h)) bj)
noncomputable def IW:List aK:=IV::IU
theorem kZ:aW prog (aT IW):=aF Ot fw
inductive fU where
  | r0 (a10:Nat)
def zZ:fU→AE×aM
  | .r0 a10=>(.ret,⟨aq 55 [(2,.flt false a10)],[],0⟩)
theorem xm:ld zZ:=by intro x;cases x<;>(intro h;cases h)
theorem ZP(id:Nat) :ko id zZ:=by intro x;cases x<;>(intro h;cases h)
def Ga:fU→ib
  | .r0 a10=>⟨.flt false a10,[]⟩
noncomputable def ZQ:List Code:=cg (kB E9)
def ZR(v_0:Lv)(l_1:List Nat)(_:Unit) :aM:=⟨aq 55 [(0,.imm v_0 (.fl l_1) 1 1 0 (List.length l_1)),(3,.flt false 0),(4,.flt false 4607182418800017408),(5,.int .i64 (0:Int))],[],0⟩
def ZS:T ((Unit)⊕(fU)) :=
  .leaf (.inl ())
def xn(v_0:Lv)(l_1:List Nat) :Nat×Nat×Nat→aM:=fun (scale3,sum4,i5)=>⟨aq 55 [(0,.imm v_0 (.fl l_1) 1 1 0 (List.length l_1)),(3,.flt false scale3),(4,.flt false sum4),(5,.int .i64 ((i5:Nat):Int))],[],0⟩
def KY:Nat×Nat→aM:=fun (scale8,sum9)=>⟨aq 55 [(3,.flt false scale8),(4,.flt false sum9)],[],0⟩
noncomputable def XE:List Code:=cg (cw ((((ZQ.drop 4).take 1)).headD .skip))
def ZT(v_0:Lv)(l_1:List Nat)(i5:Nat) :Nat×Nat→aM:=fun (scale6,sum7)=>⟨aq 55 [(0,.imm v_0 (.fl l_1) 1 1 0 (List.length l_1)),(3,.flt false scale6),(4,.flt false sum7),(5,.int .i64 ((i5:Nat):Int))],[],0⟩
def IX(l_1:List Nat)(scale3:Nat)(sum4:Nat)(i5:Nat) :T ((Nat×Nat)⊕((Nat×Nat)⊕(fU))) :=
  .ask (decide (((i5:Nat):Int)<(((List.length l_1):Nat):Int)))
    (.need (fi ((i5:Nat):Int) (List.length l_1))<|.need (eS i5 (List.length l_1))<|.ask (yp (List.getD l_1 i5 0) 0)
      (.leaf (.inl (scale3,sum4)))
      (.need (fi ((i5:Nat):Int) (List.length l_1))<|.need (eS i5 (List.length l_1))<|.ask (flt scale3 (co (List.getD l_1 i5 0)))
        (.leaf (.inl ((co (List.getD l_1 i5 0)),(Aq 4607182418800017408 (eY (eY sum4 (fdiv scale3 (co (List.getD l_1 i5 0)))) (fdiv scale3 (co (List.getD l_1 i5 0))))))))
        (.leaf (.inl (scale3,(Aq sum4 (eY (fdiv (co (List.getD l_1 i5 0)) scale3) (fdiv (co (List.getD l_1 i5 0)) scale3))))))))
    (.leaf (.inr (.inl (scale3,sum4))))
def XF(i5:Nat)(scale6:Nat)(sum7:Nat) :T ((Nat×Nat×Nat)⊕((Nat×Nat)⊕(fU))) :=
  .need (cK .i64 (((i5+1):Nat):Int))<|.leaf (.inl (scale6,sum7,(i5+1)))
noncomputable def Bl(l_1:List Nat) :Nat×Nat×Nat→Option ((Nat×Nat×Nat)⊕((Nat×Nat)⊕(fU))):=fun (scale3,sum4,i5) =>
  aL ((IX l_1 scale3 sum4 i5).run) fun (scale6,sum7) =>
  (XF i5 scale6 sum7).run
theorem XG(v_0:Lv)(l_1:List Nat)(scale3:Nat)(sum4:Nat)(i5:Nat) :Sg prog [] XE (xn v_0 l_1 (scale3,sum4,i5)) (Bl l_1 (scale3,sum4,i5)) (xn v_0 l_1) (bS 0 KY zZ):=by
  unfold Bl;exact Sg.cut 3 (aD xm) (aV kZ (ZT v_0 l_1 i5) [⟨[],[],[0,3,4,5]⟩,⟨[],[],[0,3,4,5]⟩,⟨[],[],[0,3,4,5]⟩,⟨[],[],[3,4]⟩]) (fun ⟨scale6,sum7⟩=>aV kZ (xn v_0 l_1) [⟨[],[],[0,3,4,5]⟩])
def XH(scale8:Nat)(sum9:Nat) :T ((Empty)⊕(fU)) :=
  .leaf (.inr (.r0 (eY scale8 (xr sum9))))
noncomputable def uM(l_1:List Nat) :Option fU:=lG (aL ((ZS).run) fun _ =>
  aL (ch (Bl l_1) (0,4607182418800017408,0)) fun (scale8,sum9) =>
  (XH scale8 sum9).run)
theorem ZU(v_0:Lv)(l_1:List Nat){x:fU}(h:uM l_1=some x) :aB prog E9 [] [.imm v_0 (.fl l_1) 1 1 0 (List.length l_1)] (Ga x) :=
  mo false Ga zZ h (Sg.cut 4 xm (aV kZ (ZR v_0 l_1) [⟨[],[],[0,3,4,5]⟩]) (fun _=>Sg.cut 1 xm (vg ⟨[],[],[0,3,4,5]⟩ (xn v_0 l_1) (KY) 0 xm (ZP _) (fun ⟨scale3,sum4,i5⟩=>XG v_0 l_1 scale3 sum4 i5)) (fun ⟨scale8,sum9⟩=>aV kZ lx [⟨[],[],[2]⟩])))
    (fun x=>by cases x with | r0 a10=>exact ly [.flt false a10])
def qA:Option fU→Bool
  | some _=>true
  | none=>false
def rc:Option fU→Nat
  | some (.r0 x)=>x
  | _=>0
theorem ZV{x:Option fU}(h:qA x=true) :x=some (.r0 (rc x)):=by
  unfold qA at h
  split at h<;>first | rfl | (cases h;done) | (rename_i y;cases y;rfl)
noncomputable def Ou:aK:=cy E9 (.cons .fl .nil) fun t=>(fun q=>[⟨Ga (.r0 (rc q)),[qA q]⟩]) (uM t.1.2)
theorem TG:aY prog Ou:=ba fun t=>(aZ (fun h=>ZU t.1.1 t.1.2 (ZV h)) bj)
noncomputable def Ov:List aK:=Ou::IW
theorem kJ:aW prog (aT Ov):=aF TG kZ
inductive dD where
  | r0 (a9:Nat) (a10:Nat) (a11:Nat) (l12:List Nat)
def Aa:dD→AE×aM
  | .r0 a9 a10 a11 l12=>(.ret,⟨aq 68 [(2,.ptr 0 1 0 0),(3,.flt false a9)],[(0,.vs [.sl 1 1 1 0 a10 a10,.flt false a11]),(1,.fl l12)],2⟩)
theorem qB:ld Aa:=by intro x;cases x<;>(intro h;cases h)
theorem ZW(id:Nat) :ko id Aa:=by intro x;cases x<;>(intro h;cases h)
def Gb:dD→ib
  | .r0 a9 a10 a11 l12=>⟨.tup [.agg [.imm .free (.fl l12) 1 1 0 a10,.flt false a11],.flt false a9],[]⟩
noncomputable def ZX:List Code:=cg (kB zI)
def ZY(v_0:Lv)(x_1:List Nat) :Nat×(List Nat)→aM:=fun (long1,l2)=>⟨aq 68 [(0,.imm v_0 (.fl x_1) 1 1 0 (List.length x_1)),(2,.ptr 0 1 0 0),(4,.int .i64 (((List.length x_1):Nat):Int)),(5,.sl 1 1 1 0 (List.length x_1) (List.length x_1)),(6,.flt false long1)],[(0,.vs [.nsl,.flt false 0]),(1,.fl l2)],2⟩
def KZ(x_1:List Nat) :T ((Nat×(List Nat))⊕(dD)) :=
  .need (decide ((0:Int)≤(((List.length x_1):Nat):Int)))<|.need (decide ((((List.length x_1):Nat):Int)≤(((List.length x_1):Nat):Int)))<|.need (decide ((8:Int)*(((List.length x_1):Nat):Int)≤140737488355328))<|.need (cK .i64 (((List.length x_1):Nat):Int))<|.need (fi (0:Int) (List.length x_1))<|.need (eS 0 (List.length (List.replicate (List.length x_1) 0)))<|.need (CC (((List.length x_1):Nat):Int) (List.length x_1))<|.need (CC (1:Int) (List.length x_1))<|.need (bL 1 ((List.length x_1)-1) x_1)<|.need (qA (uM (an 1 ((List.length x_1)-1) x_1)))<|.leaf (.inl ((rc (uM (an 1 ((List.length x_1)-1) x_1))),(List.set (List.replicate (List.length x_1) 0) 0 4607182418800017408)))
def ZZ(v_0:Lv)(x_1:List Nat)(l2:List Nat)(beta3:Nat) :aM:=⟨aq 68 [(0,.imm v_0 (.fl x_1) 1 1 0 (List.length x_1)),(2,.ptr 0 1 0 0),(4,.int .i64 (((List.length x_1):Nat):Int)),(5,.sl 1 1 1 0 (List.length x_1) (List.length x_1)),(7,.flt false beta3)],[(0,.vs [.nsl,.flt false 0]),(1,.fl l2)],2⟩
def IY(x_1:List Nat)(long1:Nat)(l2:List Nat) :T ((Nat)⊕(dD)) :=
  .ask (yp long1 0)
    (.need (fi (0:Int) (List.length x_1))<|.need (eS 0 (List.length x_1))<|.leaf (.inr (.r0 (List.getD x_1 0 0) (List.length x_1) 0 l2)))
    (.need (fi (0:Int) (List.length x_1))<|.need (eS 0 (List.length x_1))<|.ask (Yh (co long1) (co (List.getD x_1 0 0)))
      (.ask (yp (co long1) 0)
        (.need (fi (0:Int) (List.length x_1))<|.need (eS 0 (List.length x_1))<|.need (!isNaN (List.getD x_1 0 0)||isNaN (co long1))<|.leaf (.inl (CB (kj (co long1) (List.getD x_1 0 0)))))
        (.need (fi (0:Int) (List.length x_1))<|.need (eS 0 (List.length x_1))<|.need (!isNaN (List.getD x_1 0 0)||isNaN (eY (co long1) (xr (Aq 4607182418800017408 (eY (fdiv (co (List.getD x_1 0 0)) (co long1)) (fdiv (co (List.getD x_1 0 0)) (co long1)))))))<|.leaf (.inl (CB (kj (eY (co long1) (xr (Aq 4607182418800017408 (eY (fdiv (co (List.getD x_1 0 0)) (co long1)) (fdiv (co (List.getD x_1 0 0)) (co long1)))))) (List.getD x_1 0 0))))))
      (.ask (yp (co (List.getD x_1 0 0)) 0)
        (.need (fi (0:Int) (List.length x_1))<|.need (eS 0 (List.length x_1))<|.need (!isNaN (List.getD x_1 0 0)||isNaN (co (List.getD x_1 0 0)))<|.leaf (.inl (CB (kj (co (List.getD x_1 0 0)) (List.getD x_1 0 0)))))
        (.need (fi (0:Int) (List.length x_1))<|.need (eS 0 (List.length x_1))<|.need (!isNaN (List.getD x_1 0 0)||isNaN (eY (co (List.getD x_1 0 0)) (xr (Aq 4607182418800017408 (eY (fdiv (co long1) (co (List.getD x_1 0 0))) (fdiv (co long1) (co (List.getD x_1 0 0))))))))<|.leaf (.inl (CB (kj (eY (co (List.getD x_1 0 0)) (xr (Aq 4607182418800017408 (eY (fdiv (co long1) (co (List.getD x_1 0 0))) (fdiv (co long1) (co (List.getD x_1 0 0))))))) (List.getD x_1 0 0)))))))
def Z0(v_0:Lv)(x_1:List Nat)(l2:List Nat)(beta3:Nat) :Nat×Nat→aM:=fun (tau4,q5)=>⟨aq 68 [(0,.imm v_0 (.fl x_1) 1 1 0 (List.length x_1)),(2,.ptr 0 1 0 0),(4,.int .i64 (((List.length x_1):Nat):Int)),(5,.sl 1 1 1 0 (List.length x_1) (List.length x_1)),(7,.flt false beta3),(8,.flt false tau4),(9,.flt false q5),(10,.int .i64 (1:Int))],[(0,.vs [.nsl,.flt false 0]),(1,.fl l2)],2⟩
def XI(x_1:List Nat)(beta3:Nat) :T ((Nat×Nat)⊕(dD)) :=
  .need (fi (0:Int) (List.length x_1))<|.need (eS 0 (List.length x_1))<|.need (fi (0:Int) (List.length x_1))<|.need (eS 0 (List.length x_1))<|.leaf (.inl ((fdiv (sO beta3 (List.getD x_1 0 0)) beta3),(fdiv 4607182418800017408 (sO (List.getD x_1 0 0) beta3))))
def xo(v_0:Lv)(x_1:List Nat)(beta3:Nat)(tau4:Nat)(q5:Nat) :Nat×(List Nat)→aM:=fun (i6,l7)=>⟨aq 68 [(0,.imm v_0 (.fl x_1) 1 1 0 (List.length x_1)),(2,.ptr 0 1 0 0),(4,.int .i64 (((List.length x_1):Nat):Int)),(5,.sl 1 1 1 0 (List.length x_1) (List.length x_1)),(7,.flt false beta3),(8,.flt false tau4),(9,.flt false q5),(10,.int .i64 ((i6:Nat):Int))],[(0,.vs [.nsl,.flt false 0]),(1,.fl l7)],2⟩
def K0(x_1:List Nat)(beta3:Nat)(tau4:Nat)(l8:(List Nat)) :aM:=⟨aq 68 [(2,.ptr 0 1 0 0),(5,.sl 1 1 1 0 (List.length x_1) (List.length x_1)),(7,.flt false beta3),(8,.flt false tau4)],[(0,.vs [.nsl,.flt false 0]),(1,.fl l8)],2⟩
noncomputable def XJ:List Code:=cg (cw ((((((ZX.drop 5).drop 3).drop 3).take 1)).headD .skip))
def Bm(x_1:List Nat)(q5:Nat)(i6:Nat)(l7:List Nat) :T ((Nat×(List Nat))⊕(((List Nat))⊕(dD))) :=
  .ask (decide (((i6:Nat):Int)<(((List.length x_1):Nat):Int)))
    (.need (fi ((i6:Nat):Int) (List.length x_1))<|.need (eS i6 (List.length x_1))<|.need (fi ((i6:Nat):Int) (List.length x_1))<|.need (eS i6 (List.length l7))<|.need (cK .i64 (((i6+1):Nat):Int))<|.leaf (.inl ((i6+1),(List.set l7 i6 (eY (List.getD x_1 i6 0) q5)))))
    (.leaf (.inr (.inl l7)))
noncomputable def Bn(x_1:List Nat)(q5:Nat) :Nat×(List Nat)→Option ((Nat×(List Nat))⊕(((List Nat))⊕(dD))):=fun (i6,l7) =>
  (Bm x_1 q5 i6 l7).run
theorem XK(v_0:Lv)(x_1:List Nat)(beta3:Nat)(tau4:Nat)(q5:Nat)(i6:Nat)(l7:List Nat) :Sg prog [] XJ (xo v_0 x_1 beta3 tau4 q5 (i6,l7)) (Bn x_1 q5 (i6,l7)) (xo v_0 x_1 beta3 tau4 q5) (bS 0 (K0 x_1 beta3 tau4) Aa):=by
  unfold Bn;exact aV kJ (xo v_0 x_1 beta3 tau4 q5) [⟨[],[0,1],[0,2,4,5,7,8,9,10]⟩,⟨[],[0,1],[2,5,7,8]⟩]
def XL(x_1:List Nat)(beta3:Nat)(tau4:Nat)(l8:List Nat) :T ((Empty)⊕(dD)) :=
  .leaf (.inr (.r0 beta3 (List.length x_1) tau4 l8))
noncomputable def fg(x_1:List Nat) :Option dD:=lG (aL ((KZ x_1).run) fun (long1,l2) =>
  aL ((IY x_1 long1 l2).run) fun beta3 =>
  aL ((XI x_1 beta3).run) fun (tau4,q5) =>
  aL (ch (Bn x_1 q5) (1,l2)) fun l8 =>
  (XL x_1 beta3 tau4 l8).run)
theorem Z1(v_0:Lv)(x_1:List Nat){x:dD}(h:fg x_1=some x) :aB prog zI [] [.imm v_0 (.fl x_1) 1 1 0 (List.length x_1)] (Gb x) :=
  mo true Gb Aa h (Sg.cut 5 qB (aV kJ (ZY v_0 x_1) [⟨[],[0,96],[0,2,4,5,6]⟩]) (fun ⟨long1,l2⟩=>Sg.cut 3 qB (aV kJ (ZZ v_0 x_1 l2) [⟨[],[0,1],[2,3]⟩,⟨[],[0,1],[0,2,4,5,7]⟩,⟨[],[0,1],[0,2,4,5,7]⟩,⟨[],[0,1],[0,2,4,5,7]⟩,⟨[],[0,1],[0,2,4,5,7]⟩]) (fun beta3=>Sg.cut 3 qB (aV kJ (Z0 v_0 x_1 l2 beta3) [⟨[],[0,1],[0,2,4,5,7,8,9,10]⟩]) (fun ⟨tau4,q5⟩=>Sg.cut 1 qB (vg ⟨[],[0,1],[0,2,4,5,7,8,9,10]⟩ (xo v_0 x_1 beta3 tau4 q5) (K0 x_1 beta3 tau4) 0 qB (ZW _) (fun ⟨i6,l7⟩=>XK v_0 x_1 beta3 tau4 q5 i6 l7)) (fun l8=>aV kJ lx [⟨[],[0,1],[2,3]⟩])))))
    (fun x=>by cases x with | r0 a9 a10 a11 l12=>exact ly [.agg [.sl 1 1 1 0 a10 a10,.flt false a11],.flt false a9])
def qC:Option dD→Bool
  | some _=>true
  | none=>false
def re:Option dD→Nat
  | some (.r0 x _ _ _)=>x
  | _=>0
def rf:Option dD→Nat
  | some (.r0 _ x _ _)=>x
  | _=>0
def rg:Option dD→Nat
  | some (.r0 _ _ x _)=>x
  | _=>0
def rh:Option dD→List Nat
  | some (.r0 _ _ _ x)=>x
  | _=>[]
theorem Z2{x:Option dD}(h:qC x=true) :x=some (.r0 (re x) (rf x) (rg x) (rh x)):=by
  unfold qC at h
  split at h<;>first | rfl | (cases h;done) | (rename_i y;cases y;rfl)
noncomputable def Ow:aK:=cy zI (.cons .fl .nil) fun t=>(fun q=>[⟨Gb (.r0 (re q) (rf q) (rg q) (rh q)),[qC q]⟩]) (fg t.1.2)
theorem TH:aY prog Ow:=ba fun t=>(aZ (fun h=>Z1 t.1.1 t.1.2 (Z2 h)) bj)
noncomputable def Ox:List aK:=Ow::Ov
theorem eV:aW prog (aT Ox):=aF TH kJ
inductive cJ where
  | r0 (i22:Int) (i23:Int) (a24:Nat) (l25:List Nat)
def pM:cJ→AE×aM
  | .r0 i22 i23 a24 l25=>(.ret,⟨aq 101 [(8,.ptr 0 1 0 0)],[(0,.vs [.int .i64 i22,.int .i64 i23,.sl 1 1 1 0 a24 a24]),(1,.fl l25)],2⟩)
theorem eW:ld pM:=by intro x;cases x<;>(intro h;cases h)
theorem xp(id:Nat) :ko id pM:=by intro x;cases x<;>(intro h;cases h)
def Gc:cJ→ib
  | .r0 i22 i23 a24 l25=>⟨.agg [.int .i64 i22,.int .i64 i23,.sl 0 1 1 0 a24 a24],[some (.fl l25)]⟩
noncomputable def XM:List Code:=cg (kB E7)
def Z3(a_0:Int)(a_1:Int)(v_2:Lv)(a_3:List Nat)(at_4:Int)(from_5:Int)(v_6:Lv)(h_7:List Nat)(h_8:Nat)(l1:(List Nat)) :aM:=⟨aq 101 [(1,.int .i64 at_4),(4,.ptr 0 1 0 0),(7,.ptr 1 1 0 0),(8,.ptr 2 1 0 0),(9,.ptr 3 1 0 0),(10,.int .i64 from_5)],[(0,.vs [.int .i64 a_0,.int .i64 a_1,.imm v_2 (.fl a_3) 1 1 0 (List.length a_3)]),(1,.vs [.imm v_6 (.fl h_7) 1 1 0 (List.length h_7),.flt false h_8]),(2,.vs [.int .i64 (0:Int),.int .i64 (0:Int),.nsl]),(3,.vs [.int .i64 a_0,.int .i64 a_1,.sl 4 1 1 0 (List.length a_3) (List.length a_3)]),(4,.fl l1)],5⟩
def Bo(a_0:Int)(a_1:Int)(a_3:List Nat)(h_8:Nat) :T (((List Nat))⊕(cJ)) :=
  .need (dK ((List.length a_3)*8) 140737488355328)<|.need (dK (List.length a_3) 9223372036854775807)<|.need (dK (List.length a_3) (List.length a_3))<|.ask (yp h_8 0)
    (.leaf (.inr (.r0 a_0 a_1 (List.length a_3) (List.take (List.length a_3) a_3))))
    (.leaf (.inl (List.take (List.length a_3) a_3)))
def uN(a_0:Int)(a_1:Int)(v_2:Lv)(a_3:List Nat)(at_4:Int)(v_6:Lv)(h_7:List Nat)(h_8:Nat) :Int×(List Nat)→aM:=fun (k10,l11)=>⟨aq 101 [(1,.int .i64 at_4),(4,.ptr 0 1 0 0),(7,.ptr 1 1 0 0),(8,.ptr 2 1 0 0),(9,.ptr 3 1 0 0),(10,.int .i64 k10)],[(0,.vs [.int .i64 a_0,.int .i64 a_1,.imm v_2 (.fl a_3) 1 1 0 (List.length a_3)]),(1,.vs [.imm v_6 (.fl h_7) 1 1 0 (List.length h_7),.flt false h_8]),(2,.vs [.int .i64 (0:Int),.int .i64 (0:Int),.nsl]),(3,.vs [.int .i64 a_0,.int .i64 a_1,.sl 4 1 1 0 (List.length a_3) (List.length a_3)]),(4,.fl l11)],5⟩
def uO(a_0:Int)(a_1:Int)(a_3:List Nat)(l21:(List Nat)) :aM:=⟨aq 101 [(8,.ptr 0 1 0 0),(9,.ptr 1 1 0 0)],[(0,.vs [.int .i64 (0:Int),.int .i64 (0:Int),.nsl]),(1,.vs [.int .i64 a_0,.int .i64 a_1,.sl 2 1 1 0 (List.length a_3) (List.length a_3)]),(2,.fl l21)],3⟩
noncomputable def IZ:List Code:=cg (cw ((((XM.drop 5).take 1)).headD .skip))
def XN(a_0:Int)(a_1:Int)(v_2:Lv)(a_3:List Nat)(at_4:Int)(v_6:Lv)(h_7:List Nat)(h_8:Nat)(k10:Int)(l11:List Nat)(_:Unit) :aM:=⟨aq 101 [(1,.int .i64 at_4),(4,.ptr 0 1 0 0),(7,.ptr 1 1 0 0),(8,.ptr 2 1 0 0),(9,.ptr 3 1 0 0),(10,.int .i64 k10)],[(0,.vs [.int .i64 a_0,.int .i64 a_1,.imm v_2 (.fl a_3) 1 1 0 (List.length a_3)]),(1,.vs [.imm v_6 (.fl h_7) 1 1 0 (List.length h_7),.flt false h_8]),(2,.vs [.int .i64 (0:Int),.int .i64 (0:Int),.nsl]),(3,.vs [.int .i64 a_0,.int .i64 a_1,.sl 4 1 1 0 (List.length a_3) (List.length a_3)]),(4,.fl l11)],5⟩
def Bp(a_1:Int)(k10:Int)(l11:List Nat) :T ((Unit)⊕(((List Nat))⊕(cJ))) :=
  .ask (decide (k10<a_1))
    (.leaf (.inl ()))
    (.leaf (.inr (.inl l11)))
def uP(a_0:Int)(a_1:Int)(v_2:Lv)(a_3:List Nat)(at_4:Int)(v_6:Lv)(h_7:List Nat)(h_8:Nat)(k10:Int)(l20:(List Nat)) :aM:=⟨aq 101 [(1,.int .i64 at_4),(4,.ptr 0 1 0 0),(7,.ptr 1 1 0 0),(8,.ptr 2 1 0 0),(9,.ptr 3 1 0 0),(10,.int .i64 k10)],[(0,.vs [.int .i64 a_0,.int .i64 a_1,.imm v_2 (.fl a_3) 1 1 0 (List.length a_3)]),(1,.vs [.imm v_6 (.fl h_7) 1 1 0 (List.length h_7),.flt false h_8]),(2,.vs [.int .i64 (0:Int),.int .i64 (0:Int),.nsl]),(3,.vs [.int .i64 a_0,.int .i64 a_1,.sl 4 1 1 0 (List.length a_3) (List.length a_3)]),(4,.fl l20)],5⟩
noncomputable def I0:List Code:=cg (inBlock ((((IZ.drop 2).take 1)).headD .skip))
def XO(a_0:Int)(a_1:Int)(v_2:Lv)(a_3:List Nat)(at_4:Int)(v_6:Lv)(h_7:List Nat)(h_8:Nat)(k10:Int)(l11:List Nat)(_:Unit) :aM:=⟨aq 101 [(1,.int .i64 at_4),(4,.ptr 0 1 0 0),(7,.ptr 1 1 0 0),(8,.ptr 2 1 0 0),(9,.ptr 3 1 0 0),(10,.int .i64 k10),(11,.flt false 0),(12,.int .i64 (0:Int))],[(0,.vs [.int .i64 a_0,.int .i64 a_1,.imm v_2 (.fl a_3) 1 1 0 (List.length a_3)]),(1,.vs [.imm v_6 (.fl h_7) 1 1 0 (List.length h_7),.flt false h_8]),(2,.vs [.int .i64 (0:Int),.int .i64 (0:Int),.nsl]),(3,.vs [.int .i64 a_0,.int .i64 a_1,.sl 4 1 1 0 (List.length a_3) (List.length a_3)]),(4,.fl l11)],5⟩
def XP:T ((Unit)⊕(((List Nat))⊕(((List Nat))⊕(cJ)))) :=
  .leaf (.inl ())
def uQ(a_0:Int)(a_1:Int)(v_2:Lv)(a_3:List Nat)(at_4:Int)(v_6:Lv)(h_7:List Nat)(h_8:Nat)(k10:Int)(l11:List Nat) :Nat×Nat→aM:=fun (w12,i13)=>⟨aq 101 [(1,.int .i64 at_4),(4,.ptr 0 1 0 0),(7,.ptr 1 1 0 0),(8,.ptr 2 1 0 0),(9,.ptr 3 1 0 0),(10,.int .i64 k10),(11,.flt false w12),(12,.int .i64 ((i13:Nat):Int))],[(0,.vs [.int .i64 a_0,.int .i64 a_1,.imm v_2 (.fl a_3) 1 1 0 (List.length a_3)]),(1,.vs [.imm v_6 (.fl h_7) 1 1 0 (List.length h_7),.flt false h_8]),(2,.vs [.int .i64 (0:Int),.int .i64 (0:Int),.nsl]),(3,.vs [.int .i64 a_0,.int .i64 a_1,.sl 4 1 1 0 (List.length a_3) (List.length a_3)]),(4,.fl l11)],5⟩
def I1(a_0:Int)(a_1:Int)(v_2:Lv)(a_3:List Nat)(at_4:Int)(v_6:Lv)(h_7:List Nat)(h_8:Nat)(k10:Int)(l11:List Nat)(w14:Nat) :aM:=⟨aq 101 [(1,.int .i64 at_4),(4,.ptr 0 1 0 0),(7,.ptr 1 1 0 0),(8,.ptr 2 1 0 0),(9,.ptr 3 1 0 0),(10,.int .i64 k10),(11,.flt false w14)],[(0,.vs [.int .i64 a_0,.int .i64 a_1,.imm v_2 (.fl a_3) 1 1 0 (List.length a_3)]),(1,.vs [.imm v_6 (.fl h_7) 1 1 0 (List.length h_7),.flt false h_8]),(2,.vs [.int .i64 (0:Int),.int .i64 (0:Int),.nsl]),(3,.vs [.int .i64 a_0,.int .i64 a_1,.sl 4 1 1 0 (List.length a_3) (List.length a_3)]),(4,.fl l11)],5⟩
noncomputable def XQ:List Code:=cg (cw ((((I0.drop 2).take 1)).headD .skip))
def Bq(a_1:Int)(a_3:List Nat)(at_4:Int)(h_7:List Nat)(k10:Int)(w12:Nat)(i13:Nat) :T ((Nat×Nat)⊕((Nat)⊕(((List Nat))⊕(((List Nat))⊕(cJ))))) :=
  .ask (decide (((i13:Nat):Int)<(((List.length h_7):Nat):Int)))
    (.need (fi ((i13:Nat):Int) (List.length h_7))<|.need (eS i13 (List.length h_7))<|.need (cK .i64 (at_4+((i13:Nat):Int)))<|.need (cK .i64 ((at_4+((i13:Nat):Int))*a_1))<|.need (cK .i64 (((at_4+((i13:Nat):Int))*a_1)+k10))<|.need (fi (((at_4+((i13:Nat):Int))*a_1)+k10) (List.length a_3))<|.need (eS (Int.toNat (((at_4+((i13:Nat):Int))*a_1)+k10)) (List.length a_3))<|.need (cK .i64 (((i13+1):Nat):Int))<|.leaf (.inl ((Aq w12 (eY (List.getD h_7 i13 0) (List.getD a_3 (Int.toNat (((at_4+((i13:Nat):Int))*a_1)+k10)) 0))),(i13+1))))
    (.leaf (.inr (.inl w12)))
noncomputable def uR(a_1:Int)(a_3:List Nat)(at_4:Int)(h_7:List Nat)(k10:Int) :Nat×Nat→Option ((Nat×Nat)⊕((Nat)⊕(((List Nat))⊕(((List Nat))⊕(cJ))))):=fun (w12,i13) =>
  (Bq a_1 a_3 at_4 h_7 k10 w12 i13).run
theorem XR(a_0:Int)(a_1:Int)(v_2:Lv)(a_3:List Nat)(at_4:Int)(v_6:Lv)(h_7:List Nat)(h_8:Nat)(k10:Int)(l11:List Nat)(w12:Nat)(i13:Nat) :Sg prog [] XQ (uQ a_0 a_1 v_2 a_3 at_4 v_6 h_7 h_8 k10 l11 (w12,i13)) (uR a_1 a_3 at_4 h_7 k10 (w12,i13)) (uQ a_0 a_1 v_2 a_3 at_4 v_6 h_7 h_8 k10 l11) (bS 2 (I1 a_0 a_1 v_2 a_3 at_4 v_6 h_7 h_8 k10 l11) (bS 1 (uP a_0 a_1 v_2 a_3 at_4 v_6 h_7 h_8 k10) (bS 0 (uO a_0 a_1 a_3) pM))):=by
  unfold uR;exact aV eV (uQ a_0 a_1 v_2 a_3 at_4 v_6 h_7 h_8 k10 l11) [⟨[],[0,1,2,3,4],[1,4,7,8,9,10,11,12]⟩,⟨[],[0,1,2,3,4],[1,4,7,8,9,10,11]⟩]
def XS(a_0:Int)(a_1:Int)(v_2:Lv)(a_3:List Nat)(at_4:Int)(v_6:Lv)(h_7:List Nat)(h_8:Nat)(k10:Int)(l11:List Nat)(w15:Nat) :aM:=⟨aq 101 [(1,.int .i64 at_4),(4,.ptr 0 1 0 0),(7,.ptr 1 1 0 0),(8,.ptr 2 1 0 0),(9,.ptr 3 1 0 0),(10,.int .i64 k10),(11,.flt false w15),(14,.int .i64 (0:Int))],[(0,.vs [.int .i64 a_0,.int .i64 a_1,.imm v_2 (.fl a_3) 1 1 0 (List.length a_3)]),(1,.vs [.imm v_6 (.fl h_7) 1 1 0 (List.length h_7),.flt false h_8]),(2,.vs [.int .i64 (0:Int),.int .i64 (0:Int),.nsl]),(3,.vs [.int .i64 a_0,.int .i64 a_1,.sl 4 1 1 0 (List.length a_3) (List.length a_3)]),(4,.fl l11)],5⟩
def XT(h_8:Nat)(w14:Nat) :T ((Nat)⊕(((List Nat))⊕(((List Nat))⊕(cJ)))) :=
  .leaf (.inl (eY h_8 w14))
def uS(a_0:Int)(a_1:Int)(v_2:Lv)(a_3:List Nat)(at_4:Int)(v_6:Lv)(h_7:List Nat)(h_8:Nat)(k10:Int)(w15:Nat) :Nat×(List Nat)→aM:=fun (i17,l18)=>⟨aq 101 [(1,.int .i64 at_4),(4,.ptr 0 1 0 0),(7,.ptr 1 1 0 0),(8,.ptr 2 1 0 0),(9,.ptr 3 1 0 0),(10,.int .i64 k10),(11,.flt false w15),(14,.int .i64 ((i17:Nat):Int))],[(0,.vs [.int .i64 a_0,.int .i64 a_1,.imm v_2 (.fl a_3) 1 1 0 (List.length a_3)]),(1,.vs [.imm v_6 (.fl h_7) 1 1 0 (List.length h_7),.flt false h_8]),(2,.vs [.int .i64 (0:Int),.int .i64 (0:Int),.nsl]),(3,.vs [.int .i64 a_0,.int .i64 a_1,.sl 4 1 1 0 (List.length a_3) (List.length a_3)]),(4,.fl l18)],5⟩
def I2(a_0:Int)(a_1:Int)(v_2:Lv)(a_3:List Nat)(at_4:Int)(v_6:Lv)(h_7:List Nat)(h_8:Nat)(k10:Int)(l19:(List Nat)) :aM:=⟨aq 101 [(1,.int .i64 at_4),(4,.ptr 0 1 0 0),(7,.ptr 1 1 0 0),(8,.ptr 2 1 0 0),(9,.ptr 3 1 0 0),(10,.int .i64 k10)],[(0,.vs [.int .i64 a_0,.int .i64 a_1,.imm v_2 (.fl a_3) 1 1 0 (List.length a_3)]),(1,.vs [.imm v_6 (.fl h_7) 1 1 0 (List.length h_7),.flt false h_8]),(2,.vs [.int .i64 (0:Int),.int .i64 (0:Int),.nsl]),(3,.vs [.int .i64 a_0,.int .i64 a_1,.sl 4 1 1 0 (List.length a_3) (List.length a_3)]),(4,.fl l19)],5⟩
noncomputable def XU:List Code:=cg (cw ((((((I0.drop 2).drop 1).drop 2).take 1)).headD .skip))
def Br(a_1:Int)(a_3:List Nat)(at_4:Int)(h_7:List Nat)(k10:Int)(w15:Nat)(i17:Nat)(l18:List Nat) :T ((Nat×(List Nat))⊕(((List Nat))⊕(((List Nat))⊕(((List Nat))⊕(cJ))))) :=
  .ask (decide (((i17:Nat):Int)<(((List.length h_7):Nat):Int)))
    (.need (fi ((i17:Nat):Int) (List.length h_7))<|.need (eS i17 (List.length h_7))<|.need (cK .i64 (at_4+((i17:Nat):Int)))<|.need (cK .i64 ((at_4+((i17:Nat):Int))*a_1))<|.need (cK .i64 (((at_4+((i17:Nat):Int))*a_1)+k10))<|.need (cK .i64 (at_4+((i17:Nat):Int)))<|.need (cK .i64 ((at_4+((i17:Nat):Int))*a_1))<|.need (cK .i64 (((at_4+((i17:Nat):Int))*a_1)+k10))<|.need (fi (((at_4+((i17:Nat):Int))*a_1)+k10) (List.length a_3))<|.need (eS (Int.toNat (((at_4+((i17:Nat):Int))*a_1)+k10)) (List.length a_3))<|.need (fi (((at_4+((i17:Nat):Int))*a_1)+k10) (List.length a_3))<|.need (eS (Int.toNat (((at_4+((i17:Nat):Int))*a_1)+k10)) (List.length l18))<|.need (cK .i64 (((i17+1):Nat):Int))<|.leaf (.inl ((i17+1),(List.set l18 (Int.toNat (((at_4+((i17:Nat):Int))*a_1)+k10)) (sO (List.getD a_3 (Int.toNat (((at_4+((i17:Nat):Int))*a_1)+k10)) 0) (eY (List.getD h_7 i17 0) w15))))))
    (.leaf (.inr (.inl l18)))
noncomputable def uT(a_1:Int)(a_3:List Nat)(at_4:Int)(h_7:List Nat)(k10:Int)(w15:Nat) :Nat×(List Nat)→Option ((Nat×(List Nat))⊕(((List Nat))⊕(((List Nat))⊕(((List Nat))⊕(cJ))))):=fun (i17,l18) =>
  (Br a_1 a_3 at_4 h_7 k10 w15 i17 l18).run
theorem XV(a_0:Int)(a_1:Int)(v_2:Lv)(a_3:List Nat)(at_4:Int)(v_6:Lv)(h_7:List Nat)(h_8:Nat)(k10:Int)(w15:Nat)(i17:Nat)(l18:List Nat) :Sg prog [] XU (uS a_0 a_1 v_2 a_3 at_4 v_6 h_7 h_8 k10 w15 (i17,l18)) (uT a_1 a_3 at_4 h_7 k10 w15 (i17,l18)) (uS a_0 a_1 v_2 a_3 at_4 v_6 h_7 h_8 k10 w15) (bS 4 (I2 a_0 a_1 v_2 a_3 at_4 v_6 h_7 h_8 k10) (bS 1 (uP a_0 a_1 v_2 a_3 at_4 v_6 h_7 h_8 k10) (bS 0 (uO a_0 a_1 a_3) pM))):=by
  unfold uT;exact aV eV (uS a_0 a_1 v_2 a_3 at_4 v_6 h_7 h_8 k10 w15) [⟨[],[0,1,2,3,4],[1,4,7,8,9,10,11,14]⟩,⟨[],[0,1,2,3,4],[1,4,7,8,9,10]⟩]
def XW(l19:List Nat) :T (((List Nat))⊕(((List Nat))⊕(((List Nat))⊕(cJ)))) :=
  .leaf (.inl l19)
def XX(k10:Int)(l20:List Nat) :T ((Int×(List Nat))⊕(((List Nat))⊕(cJ))) :=
  .need (cK .i64 (k10+(1:Int)))<|.leaf (.inl ((k10+(1:Int)),l20))
noncomputable def Bs(a_1:Int)(a_3:List Nat)(at_4:Int)(h_7:List Nat)(h_8:Nat) :Int×(List Nat)→Option ((Int×(List Nat))⊕(((List Nat))⊕(cJ))):=fun (k10,l11) =>
  aL ((Bp a_1 k10 l11).run) fun _ =>
  aL (vj (aL ((XP).run) fun _ =>
  aL (ch (uR a_1 a_3 at_4 h_7 k10) (0,0)) fun w14 =>
  aL ((XT h_8 w14).run) fun w15 =>
  aL (ch (uT a_1 a_3 at_4 h_7 k10 w15) (0,l11)) fun l19 =>
  (XW l19).run)) fun l20 =>
  (XX k10 l20).run
theorem XY(a_0:Int)(a_1:Int)(v_2:Lv)(a_3:List Nat)(at_4:Int)(v_6:Lv)(h_7:List Nat)(h_8:Nat)(k10:Int)(l11:List Nat) :Sg prog [] IZ (uN a_0 a_1 v_2 a_3 at_4 v_6 h_7 h_8 (k10,l11)) (Bs a_1 a_3 at_4 h_7 h_8 (k10,l11)) (uN a_0 a_1 v_2 a_3 at_4 v_6 h_7 h_8) (bS 0 (uO a_0 a_1 a_3) pM):=by
  unfold Bs;exact Sg.cut 2 (aD eW) (aV eV (XN a_0 a_1 v_2 a_3 at_4 v_6 h_7 h_8 k10 l11) [⟨[],[0,1,2,3,4],[1,4,7,8,9,10]⟩,⟨[],[2,3,4],[8,9]⟩]) (fun _=>Sg.cut 1 (aD eW) (sgb (uP a_0 a_1 v_2 a_3 at_4 v_6 h_7 h_8 k10) 1 (aD eW) (ck (by decide) (xp _)) (Sg.cut 2 (aD (aD eW)) (aV eV (XO a_0 a_1 v_2 a_3 at_4 v_6 h_7 h_8 k10 l11) [⟨[],[0,1,2,3,4],[1,4,7,8,9,10,11,12]⟩]) (fun _=>Sg.cut 1 (aD (aD eW)) (vg ⟨[],[0,1,2,3,4],[1,4,7,8,9,10,11,12]⟩ (uQ a_0 a_1 v_2 a_3 at_4 v_6 h_7 h_8 k10 l11) (I1 a_0 a_1 v_2 a_3 at_4 v_6 h_7 h_8 k10 l11) 2 (aD (aD eW)) (ck (by decide) (ck (by decide) (xp _))) (fun ⟨w12,i13⟩=>XR a_0 a_1 v_2 a_3 at_4 v_6 h_7 h_8 k10 l11 w12 i13)) (fun w14=>Sg.cut 2 (aD (aD eW)) (aV eV (XS a_0 a_1 v_2 a_3 at_4 v_6 h_7 h_8 k10 l11) [⟨[],[0,1,2,3,4],[1,4,7,8,9,10,11,14]⟩]) (fun w15=>Sg.cut 1 (aD (aD eW)) (vg ⟨[],[0,1,2,3,4],[1,4,7,8,9,10,11,14]⟩ (uS a_0 a_1 v_2 a_3 at_4 v_6 h_7 h_8 k10 w15) (I2 a_0 a_1 v_2 a_3 at_4 v_6 h_7 h_8 k10) 4 (aD (aD eW)) (ck (by decide) (ck (by decide) (xp _))) (fun ⟨i17,l18⟩=>XV a_0 a_1 v_2 a_3 at_4 v_6 h_7 h_8 k10 w15 i17 l18)) (fun l19=>aV eV (uP a_0 a_1 v_2 a_3 at_4 v_6 h_7 h_8 k10) [⟨[],[0,1,2,3,4],[1,4,7,8,9,10]⟩])))))) (fun l20=>aV eV (uN a_0 a_1 v_2 a_3 at_4 v_6 h_7 h_8) [⟨[],[0,1,2,3,4],[1,4,7,8,9,10]⟩]))
def XZ(a_0:Int)(a_1:Int)(a_3:List Nat)(l21:List Nat) :T ((Empty)⊕(cJ)) :=
  .leaf (.inr (.r0 a_0 a_1 (List.length a_3) l21))
noncomputable def lb(a_0:Int)(a_1:Int)(a_3:List Nat)(at_4:Int)(from_5:Int)(h_7:List Nat)(h_8:Nat) :Option cJ:=lG (aL ((Bo a_0 a_1 a_3 h_8).run) fun l1 =>
  aL (ch (Bs a_1 a_3 at_4 h_7 h_8) (from_5,l1)) fun l21 =>
  (XZ a_0 a_1 a_3 l21).run)
theorem Z4(a_0:Int)(a_1:Int)(v_2:Lv)(a_3:List Nat)(at_4:Int)(from_5:Int)(v_6:Lv)(h_7:List Nat)(h_8:Nat){x:cJ}(h:lb a_0 a_1 a_3 at_4 from_5 h_7 h_8=some x) :aB prog E7 [] [.agg [.int .i64 a_0,.int .i64 a_1,.imm v_2 (.fl a_3) 1 1 0 (List.length a_3)],.int .i64 at_4,.int .i64 from_5,.agg [.imm v_6 (.fl h_7) 1 1 0 (List.length h_7),.flt false h_8]] (Gc x) :=
  mo false Gc pM h (Sg.cut 5 eW (aV eV (Z3 a_0 a_1 v_2 a_3 at_4 from_5 v_6 h_7 h_8) [⟨[],[32,64],[8]⟩,⟨[],[0,16,32,80,64],[1,4,7,8,9,10]⟩]) (fun l1=>Sg.cut 1 eW (vg ⟨[],[0,1,2,3,4],[1,4,7,8,9,10]⟩ (uN a_0 a_1 v_2 a_3 at_4 v_6 h_7 h_8) (uO a_0 a_1 a_3) 0 eW (xp _) (fun ⟨k10,l11⟩=>XY a_0 a_1 v_2 a_3 at_4 v_6 h_7 h_8 k10 l11)) (fun l21=>aV eV lx [⟨[],[0,2],[8]⟩])))
    (fun x=>by cases x with | r0 i22 i23 a24 l25=>exact ly [.agg [.int .i64 i22,.int .i64 i23,.sl 1 1 1 0 a24 a24]])
def xq:Option cJ→Bool
  | some _=>true
  | none=>false
def zh:Option cJ→Int
  | some (.r0 x _ _ _)=>x
  | _=>0
def zi:Option cJ→Int
  | some (.r0 _ x _ _)=>x
  | _=>0
def zj:Option cJ→Nat
  | some (.r0 _ _ x _)=>x
  | _=>0
def zk:Option cJ→List Nat
  | some (.r0 _ _ _ x)=>x
  | _=>[]
theorem Z5{x:Option cJ}(h:xq x=true) :x=some (.r0 (zh x) (zi x) (zj x) (zk x)):=by
  unfold xq at h
  split at h<;>first | rfl | (cases h;done) | (rename_i y;cases y;rfl)
noncomputable def Oy:aK:=cy E7 (.cons (.agg (.cons (.int .i64) (.cons (.int .i64) (.cons .fl .nil)))) (.cons (.int .i64) (.cons (.int .i64) (.cons (.agg (.cons .fl (.cons (.flt false) .nil))) .nil)))) fun t=>(fun q=>[⟨Gc (.r0 (zh q) (zi q) (zj q) (zk q)),[xq q]⟩]) (lb t.1.1 t.1.2.1 t.1.2.2.1.2 t.2.1 t.2.2.1 t.2.2.2.1.1.2 t.2.2.2.1.2.1)
theorem TI:aY prog Oy:=ba fun t=>(aZ (fun h=>Z4 t.1.1 t.1.2.1 t.1.2.2.1.1 t.1.2.2.1.2 t.2.1 t.2.2.1 t.2.2.2.1.1.1 t.2.2.2.1.1.2 t.2.2.2.1.2.1 (Z5 h)) bj)
noncomputable def Oz:List aK:=Oy::Ox
theorem eX:aW prog (aT Oz):=aF TI eV
end
end Go.Plb.Seat
