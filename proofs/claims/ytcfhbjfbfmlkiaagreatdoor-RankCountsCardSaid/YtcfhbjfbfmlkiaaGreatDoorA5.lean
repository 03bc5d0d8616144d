/-
  Part 5 of what the claim leans on: an evaluator of the model, proved sound; the contracts of the functions.
-/
import Derived.Test.YtcfhbjfbfmlkiaaGreatDoorA4
namespace Go.Plb.Seat
open Go Go.Plb
set_option linter.unusedVariables false
set_option maxRecDepth 100000
noncomputable section
inductive bg where
  | r0 (i6:Int)
def eY:bg→AE×aC
  | .r0 i6=>(.ret,⟨ae 26 [(4,.int .i64 i6)],[],0⟩)
theorem ik:jm eY:=by intro x;cases x<;>(intro h;cases h)
theorem uf(id:Nat) :lD id eY:=by intro x;cases x<;>(intro h;cases h)
def iC:bg→fU
  | .r0 i6=>⟨.int .i64 i6,[]⟩
noncomputable def ug:List Code:=cp (md BD)
def uh(n_0:Int)(v_1:Lv)(v_2:Lv)(f_3:List Nat)(v_4:Lv)(f_5:Bool)(v_6:Lv)(f_7:List Int)(f_8:Int)(_:Unit) :aC:=⟨ae 26 [(1,.fn (.func ko) [] [.iptr v_1 (.vs [.imm v_2 (.fl f_3) 1 1 0 (List.length f_3)]) 1 0 0,.iptr v_4 (.vs [.bool false f_5,.imm v_6 (.ns .u64 f_7) 1 1 0 (List.length f_7),.int .i64 f_8]) 1 0 0]),(5,.int .i64 (0:Int)),(6,.int .i64 n_0)],[],0⟩
def ui:T ((Unit)⊕(bg)) :=
  .leaf (.inl ())
def er(v_1:Lv)(v_2:Lv)(f_3:List Nat)(v_4:Lv)(f_5:Bool)(v_6:Lv)(f_7:List Int)(f_8:Int) :Int×Int→aC:=fun (i3,j4)=>⟨ae 26 [(1,.fn (.func ko) [] [.iptr v_1 (.vs [.imm v_2 (.fl f_3) 1 1 0 (List.length f_3)]) 1 0 0,.iptr v_4 (.vs [.bool false f_5,.imm v_6 (.ns .u64 f_7) 1 1 0 (List.length f_7),.int .i64 f_8]) 1 0 0]),(5,.int .i64 i3),(6,.int .i64 j4)],[],0⟩
def lz(i5:Int) :aC:=⟨ae 26 [(5,.int .i64 i5)],[],0⟩
noncomputable def uj:List Code:=cp (dg ((((ug.drop 2).take 1)).headD .skip))
def bL(f_3:List Nat)(f_5:Bool)(f_7:List Int)(f_8:Int)(i3:Int)(j4:Int) :T ((Int×Int)⊕((Int)⊕(bg))) :=
  .ask (decide (i3<j4))
    (.need (cV .i64 (i3+j4))<|.need (decide ((0:Int)≤(1:Int)))<|.need (aK 0 (List.length f_3) f_3)<|.need (aK 0 (List.length f_7) f_7)<|.need (po (nD (IntKind.i64.wrap (Int.fdiv (IntKind.u64.wrap (i3+j4)) (2^(min (Int.toNat (1:Int)) (IntKind.u64.bits))))) (aa 0 (List.length f_3) f_3) f_5 (aa 0 (List.length f_7) f_7) f_8))<|.ask (!(rG (nD (IntKind.i64.wrap (Int.fdiv (IntKind.u64.wrap (i3+j4)) (2^(min (Int.toNat (1:Int)) (IntKind.u64.bits))))) (aa 0 (List.length f_3) f_3) f_5 (aa 0 (List.length f_7) f_7) f_8)))
      (.need (cV .i64 ((IntKind.i64.wrap (Int.fdiv (IntKind.u64.wrap (i3+j4)) (2^(min (Int.toNat (1:Int)) (IntKind.u64.bits)))))+(1:Int)))<|.leaf (.inl (((IntKind.i64.wrap (Int.fdiv (IntKind.u64.wrap (i3+j4)) (2^(min (Int.toNat (1:Int)) (IntKind.u64.bits)))))+(1:Int)),j4)))
      (.leaf (.inl (i3,(IntKind.i64.wrap (Int.fdiv (IntKind.u64.wrap (i3+j4)) (2^(min (Int.toNat (1:Int)) (IntKind.u64.bits)))))))))
    (.leaf (.inr (.inl i3)))
noncomputable def ee(f_3:List Nat)(f_5:Bool)(f_7:List Int)(f_8:Int) :Int×Int→Option ((Int×Int)⊕((Int)⊕(bg))):=fun (i3,j4) =>
  (bL f_3 f_5 f_7 f_8 i3 j4).run
theorem te(v_1:Lv)(v_2:Lv)(f_3:List Nat)(v_4:Lv)(f_5:Bool)(v_6:Lv)(f_7:List Int)(f_8:Int)(i3:Int)(j4:Int) :Sg prog [] uj (er v_1 v_2 f_3 v_4 f_5 v_6 f_7 f_8 (i3,j4)) (ee f_3 f_5 f_7 f_8 (i3,j4)) (er v_1 v_2 f_3 v_4 f_5 v_6 f_7 f_8) (cN 0 lz eY):=by
  unfold ee;exact bf mM (er v_1 v_2 f_3 v_4 f_5 v_6 f_7 f_8) [⟨[],[],[1,5,6]⟩,⟨[],[],[1,5,6]⟩,⟨[],[],[5]⟩]
def tf(i5:Int) :T ((Empty)⊕(bg)) :=
  .leaf (.inr (.r0 i5))
noncomputable def dm(n_0:Int)(f_3:List Nat)(f_5:Bool)(f_7:List Int)(f_8:Int) :Option bg:=jP (aB ((ui).run) fun _ =>
  aB (cU (ee f_3 f_5 f_7 f_8) ((0:Int),n_0)) fun i5 =>
  (tf i5).run)
theorem uk(n_0:Int)(v_1:Lv)(v_2:Lv)(f_3:List Nat)(v_4:Lv)(f_5:Bool)(v_6:Lv)(f_7:List Int)(f_8:Int){x:bg}(h:dm n_0 f_3 f_5 f_7 f_8=some x) :ai prog BD [] [.int .i64 n_0,.fn (.func ko) [] [.iptr v_1 (.vs [.imm v_2 (.fl f_3) 1 1 0 (List.length f_3)]) 1 0 0,.iptr v_4 (.vs [.bool false f_5,.imm v_6 (.ns .u64 f_7) 1 1 0 (List.length f_7),.int .i64 f_8]) 1 0 0]] (iC x) :=
  kh false iC eY h (Sg.cut 2 ik (bf mM (uh n_0 v_1 v_2 f_3 v_4 f_5 v_6 f_7 f_8) [⟨[],[],[1,5,6]⟩]) (fun _=>Sg.cut 1 ik (DG ⟨[],[],[1,5,6]⟩ (er v_1 v_2 f_3 v_4 f_5 v_6 f_7 f_8) (lz) 0 ik (uf _) (fun ⟨i3,j4⟩=>te v_1 v_2 f_3 v_4 f_5 v_6 f_7 f_8 i3 j4)) (fun i5=>bf mM kb [⟨[],[],[4]⟩])))
    (fun x=>by cases x with | r0 i6=>exact jR [.int .i64 i6])
def eu:Option bg→Bool
  | some _=>true
  | none=>false
def gq:Option bg→Int
  | some (.r0 x)=>x
  | _=>0
theorem ul{x:Option bg}(h:eu x=true) :x=some (.r0 (gq x)):=by
  unfold eu at h
  split at h<;>first | rfl | (cases h;done) | (rename_i y;cases y;rfl)
noncomputable def lL:ax:=bx BD (.cons (.int .i64) (.cons (.fn ko .nil (.cons (.ivs (.cons .fl .nil) 1 0 0) (.cons (.ivs (.cons .bool (.cons (.ns .u64) (.cons (.int .i64) .nil))) 1 0 0) .nil))) .nil)) fun t=>(fun q=>[⟨iC (.r0 (gq q)),[eu q]⟩]) (dm t.1 t.2.1.2.1.2.1.2 t.2.1.2.2.1.2.1 t.2.1.2.2.1.2.2.1.2 t.2.1.2.2.1.2.2.2.1)
theorem rW:aI prog lL:=aE fun t=>(aF (fun h=>uk t.1 t.2.1.2.1.1 t.2.1.2.1.2.1.1 t.2.1.2.1.2.1.2 t.2.1.2.2.1.1 t.2.1.2.2.1.2.1 t.2.1.2.2.1.2.2.1.1 t.2.1.2.2.1.2.2.1.2 t.2.1.2.2.1.2.2.2.1 (ul h)) aQ)
noncomputable def lM:List ax:=lL::Fm
theorem bA:aJ prog (aG lM):=aj rW mM
inductive cX where
  | r0 (i19:Int) (a20:Nat)
def I3:cX→AE×aC
  | .r0 i19 a20=>(.ret,⟨ae 53 [(4,.int .i64 i19),(5,.int .i64 ((a20:Nat):Int))],[],0⟩)
theorem lN:jm I3:=by intro x;cases x<;>(intro h;cases h)
def B3:cX→fU
  | .r0 i19 a20=>⟨.tup [.int .i64 i19,.int .i64 ((a20:Nat):Int)],[]⟩
def Vf(v_0:Lv)(s_1:List Nat)(t_2:Nat)(e1:Nat) :aC:=⟨ae 53 [(1,.flt false t_2),(2,.ptr 0 1 0 0),(6,.int .i64 ((e1:Nat):Int))],[(0,.vs [.imm v_0 (.fl s_1) 1 1 0 (List.length s_1)])],1⟩
def oG(s_1:List Nat) :T ((Nat)⊕(cX)) :=
  .need (aK 0 (List.length s_1) s_1)<|.need (Bl (Ad (aa 0 (List.length s_1) s_1)))<|.leaf (.inl (B1 (Ad (aa 0 (List.length s_1) s_1))))
def Vg(v_0:Lv)(s_1:List Nat)(t_2:Nat)(_:Unit) :aC:=⟨ae 53 [(1,.flt false t_2),(2,.ptr 0 1 0 0)],[(0,.vs [.imm v_0 (.fl s_1) 1 1 0 (List.length s_1)])],1⟩
def lP(s_1:List Nat)(t_2:Nat)(e1:Nat) :T ((Unit)⊕(cX)) :=
  .ask (((e1:Nat):Int)==(2:Int))
    (.leaf (.inr (.r0 (0:Int) 2)))
    (.need (Bj (Ac t_2))<|.ask (!(BY (Ac t_2)))
      (.leaf (.inr (.r0 (0:Int) 2)))
      (.ask (((e1:Nat):Int) != (0:Int))
        (.leaf (.inr (.r0 (0:Int) e1)))
        (.ask ((((List.length s_1):Nat):Int)==(0:Int))
          (.leaf (.inr (.r0 (0:Int) 0)))
          (.leaf (.inl ())))))
def Vh(v_0:Lv)(s_1:List Nat) :Bool×(List Int)×Nat×Nat×Int→aC:=fun (b2,l3,a4,a5,i6)=>⟨ae 53 [(2,.ptr 0 1 0 0),(7,.ptr 1 1 0 0)],[(0,.vs [.imm v_0 (.fl s_1) 1 1 0 (List.length s_1)]),(1,.vs [.bool false b2,.imm .free (.ns .u64 l3) 1 1 a4 a5,.int .i64 i6])],2⟩
def Fo(t_2:Nat) :T ((Bool×(List Int)×Nat×Nat×Int)⊕(cX)) :=
  .need (rA (bZ t_2))<|.leaf (.inl ((pa (bZ t_2)),(mr (bZ t_2)),(mt (bZ t_2)),(mu (bZ t_2)),(pb (bZ t_2))))
def Vi(v_0:Lv)(s_1:List Nat)(b2:Bool)(l3:List Int)(a4:Nat)(a5:Nat)(i6:Int) :Bool×(List Int)×Nat×Nat×Int→aC:=fun (b7,l8,a9,a10,i11)=>⟨ae 53 [(2,.ptr 0 1 0 0),(7,.ptr 1 1 0 0),(9,.ptr 2 1 0 0)],[(0,.vs [.imm v_0 (.fl s_1) 1 1 0 (List.length s_1)]),(1,.vs [.bool false b2,.imm .free (.ns .u64 l3) 1 1 a4 a5,.int .i64 i6]),(2,.vs [.bool false b7,.imm .free (.ns .u64 l8) 1 1 a9 a10,.int .i64 i11])],3⟩
def Fp(s_1:List Nat) :T ((Bool×(List Int)×Nat×Nat×Int)⊕(cX)) :=
  .need (fp (0:Int) (List.length s_1))<|.need (fO 0 (List.length s_1))<|.need (rA (bZ (List.getD s_1 0 0)))<|.leaf (.inl ((pa (bZ (List.getD s_1 0 0))),(mr (bZ (List.getD s_1 0 0))),(mt (bZ (List.getD s_1 0 0))),(mu (bZ (List.getD s_1 0 0))),(pb (bZ (List.getD s_1 0 0)))))
def Vj(v_0:Lv)(s_1:List Nat) :Bool×(List Int)×Nat×Nat×Int→aC:=fun (b12,l13,a14,a15,i17)=>⟨ae 53 [(2,.ptr 0 1 0 0),(11,.ptr 1 1 0 0)],[(0,.vs [.imm v_0 (.fl s_1) 1 1 0 (List.length s_1)]),(1,.vs [.bool false b12,.imm .free (.ns .u64 l13) 1 1 a14 a15,.int .i64 i17])],2⟩
def xJ(b2:Bool)(l3:List Int)(a4:Nat)(a5:Nat)(i6:Int)(b7:Bool)(l8:List Int)(a9:Nat)(a10:Nat)(i11:Int) :T ((Bool×(List Int)×Nat×Nat×Int)⊕(cX)) :=
  .need (aK a4 a5 l3)<|.need (aK a9 a10 l8)<|.need (mf (an b2 (aa a4 a5 l3) i6 b7 (aa a9 a10 l8) i11))<|.leaf (.inl ((bP (an b2 (aa a4 a5 l3) i6 b7 (aa a9 a10 l8) i11)),(bH (an b2 (aa a4 a5 l3) i6 b7 (aa a9 a10 l8) i11)),(bI (an b2 (aa a4 a5 l3) i6 b7 (aa a9 a10 l8) i11)),(bJ (an b2 (aa a4 a5 l3) i6 b7 (aa a9 a10 l8) i11)),(bQ (an b2 (aa a4 a5 l3) i6 b7 (aa a9 a10 l8) i11))))
def Vk(i18:Int) :aC:=⟨ae 53 [(4,.int .i64 i18),(5,.int .i64 (0:Int))],[],0⟩
def xK(s_1:List Nat)(b12:Bool)(l13:List Int)(a14:Nat)(a15:Nat)(i17:Int) :T ((Int)⊕(cX)) :=
  .need (aK 0 (List.length s_1) s_1)<|.need (aK a14 a15 l13)<|.need (eu (dm (((List.length s_1):Nat):Int) (aa 0 (List.length s_1) s_1) b12 (aa a14 a15 l13) i17))<|.leaf (.inl (gq (dm (((List.length s_1):Nat):Int) (aa 0 (List.length s_1) s_1) b12 (aa a14 a15 l13) i17)))
def RB(i18:Int) :T ((Empty)⊕(cX)) :=
  .leaf (.inr (.r0 i18 0))
noncomputable def iK(s_1:List Nat)(t_2:Nat) :Option cX:=jP (aB ((oG s_1).run) fun e1 =>
  aB ((lP s_1 t_2 e1).run) fun _ =>
  aB ((Fo t_2).run) fun (b2,l3,a4,a5,i6) =>
  aB ((Fp s_1).run) fun (b7,l8,a9,a10,i11) =>
  aB ((xJ b2 l3 a4 a5 i6 b7 l8 a9 a10 i11).run) fun (b12,l13,a14,a15,i17) =>
  aB ((xK s_1 b12 l13 a14 a15 i17).run) fun i18 =>
  (RB i18).run)
theorem Vl(v_0:Lv)(s_1:List Nat)(t_2:Nat){x:cX}(h:iK s_1 t_2=some x) :ai prog It [] [.imm v_0 (.fl s_1) 1 1 0 (List.length s_1),.flt false t_2] (B3 x) :=
  kh false B3 I3 h (Sg.cut 2 lN (bf bA (Vf v_0 s_1 t_2) [⟨[],[0],[1,2,6]⟩]) (fun e1=>Sg.cut 1 lN (bf bA (Vg v_0 s_1 t_2) [⟨[],[],[4,5]⟩,⟨[],[],[4,5]⟩,⟨[],[],[4,5]⟩,⟨[],[],[4,5]⟩,⟨[],[0],[1,2]⟩]) (fun _=>Sg.cut 1 lN (bf bA (Vh v_0 s_1) [⟨[],[0,81],[2,7]⟩]) (fun ⟨b2,l3,a4,a5,i6⟩=>Sg.cut 1 lN (bf bA (Vi v_0 s_1 b2 l3 a4 a5 i6) [⟨[],[0,1,114],[2,7,9]⟩]) (fun ⟨b7,l8,a9,a10,i11⟩=>Sg.cut 1 lN (bf bA (Vj v_0 s_1) [⟨[],[0,99],[2,11]⟩]) (fun ⟨b12,l13,a14,a15,i17⟩=>Sg.cut 1 lN (bf bA Vk [⟨[],[],[4,5]⟩]) (fun i18=>bf bA kb [⟨[],[],[4,5]⟩])))))))
    (fun x=>by cases x with | r0 i19 a20=>exact jR [.int .i64 i19,.int .i64 ((a20:Nat):Int)])
def tg:Option cX→Bool
  | some _=>true
  | none=>false
def uY:Option cX→Int
  | some (.r0 x _)=>x
  | _=>0
def uZ:Option cX→Nat
  | some (.r0 _ x)=>x
  | _=>0
theorem Vm{x:Option cX}(h:tg x=true) :x=some (.r0 (uY x) (uZ x)):=by
  unfold tg at h
  split at h<;>first | rfl | (cases h;done) | (rename_i y;cases y;rfl)
noncomputable def I4:ax:=bx It (.cons .fl (.cons (.flt false) .nil)) fun t=>(fun q=>[⟨B3 (.r0 (uY q) (uZ q)),[tg q]⟩]) (iK t.1.2 t.2.1)
theorem OO:aI prog I4:=aE fun t=>(aF (fun h=>Vl t.1.1 t.1.2 t.2.1 (Vm h)) aQ)
noncomputable def I5:List ax:=I4::lM
theorem jK:aJ prog (aG I5):=aj OO bA
inductive dC where
  | r0 (b10:Bool) (i11:Int) (i12:Int)
def I6:dC→AE×aC
  | .r0 b10 i11 i12=>(.ret,⟨ae 27 [(2,.ptr 0 1 0 0)],[(0,.vs [.bool false b10,.int .u64 i11,.int .i64 i12])],1⟩)
theorem th:jm I6:=by intro x;cases x<;>(intro h;cases h)
def B4:dC→fU
  | .r0 b10 i11 i12=>⟨.agg [.bool false b10,.int .u64 i11,.int .i64 i12],[]⟩
def Vn(w_0:Int) :Bool×Bool×Bool×Int→aC:=fun (b1,b2,b3,i4)=>⟨ae 27 [(0,.int .u64 w_0),(2,.ptr 0 1 0 0),(3,.ptr 1 1 0 0),(11,.bool false b1)],[(0,.vs [.bool false b2,.int .u64 (0:Int),.int .i64 (0:Int)]),(1,.vs [.bool false b3,.int .u64 i4,.int .i64 (-1074:Int)])],2⟩
def G2(w_0:Int) :T ((Bool×Bool×Bool×Int)⊕(dC)) :=
  .need (oE (lp w_0))<|.leaf (.inl (((((pm (lp w_0)):Nat):Int)==(1:Int)),false,(decide (w_0≥(9223372036854775808:Int))),(cq .and .u64 w_0 (4503599627370495:Int))))
def Vo(w_0:Int)(b2:Bool)(b3:Bool)(i4:Int)(i5:Int) :aC:=⟨ae 27 [(0,.int .u64 w_0),(2,.ptr 0 1 0 0),(3,.ptr 1 1 0 0)],[(0,.vs [.bool false b2,.int .u64 (0:Int),.int .i64 (0:Int)]),(1,.vs [.bool false b3,.int .u64 i4,.int .i64 i5])],2⟩
def Ag(b1:Bool) :T ((Int)⊕(dC)) :=
  .ask b1
    (.leaf (.inl (0:Int)))
    (.leaf (.inl (-1074:Int)))
def Vp(w_0:Int)(b2:Bool)(b3:Bool)(i4:Int)(i5:Int)(b6:Bool) :aC:=⟨ae 27 [(0,.int .u64 w_0),(2,.ptr 0 1 0 0),(3,.ptr 1 1 0 0),(15,.bool false b6)],[(0,.vs [.bool false b2,.int .u64 (0:Int),.int .i64 (0:Int)]),(1,.vs [.bool false b3,.int .u64 i4,.int .i64 i5])],2⟩
def Ah(w_0:Int) :T ((Bool)⊕(dC)) :=
  .need (oE (lp w_0))<|.leaf (.inl ((((pm (lp w_0)):Nat):Int)==(3:Int)))
def Vq(b2:Bool)(b3:Bool) :Int×Int→aC:=fun (i7,i9)=>⟨ae 27 [(2,.ptr 0 1 0 0),(3,.ptr 1 1 0 0)],[(0,.vs [.bool false b2,.int .u64 (0:Int),.int .i64 (0:Int)]),(1,.vs [.bool false b3,.int .u64 i7,.int .i64 i9])],2⟩
def Ai(w_0:Int)(i4:Int)(i5:Int)(b6:Bool) :T ((Int×Int)⊕(dC)) :=
  .ask b6
    (.need (decide ((0:Int)≤(52:Int)))<|.need (cV .i64 ((IntKind.i64.wrap (cq .and .u64 (Int.fdiv w_0 (2^(min (Int.toNat (52:Int)) (IntKind.u64.bits)))) (2047:Int)))-(1075:Int)))<|.leaf (.inl ((IntKind.u64.wrap (i4+(4503599627370496:Int))),((IntKind.i64.wrap (cq .and .u64 (Int.fdiv w_0 (2^(min (Int.toNat (52:Int)) (IntKind.u64.bits)))) (2047:Int)))-(1075:Int)))))
    (.leaf (.inl (i4,i5)))
def RC(b3:Bool)(i7:Int)(i9:Int) :T ((Empty)⊕(dC)) :=
  .leaf (.inr (.r0 b3 i7 i9))
noncomputable def lq(w_0:Int) :Option dC:=jP (aB ((G2 w_0).run) fun (b1,b2,b3,i4) =>
  aB ((Ag b1).run) fun i5 =>
  aB ((Ah w_0).run) fun b6 =>
  aB ((Ai w_0 i4 i5 b6).run) fun (i7,i9) =>
  (RC b3 i7 i9).run)
theorem Vr(w_0:Int){x:dC}(h:lq w_0=some x) :ai prog Iw [] [.int .u64 w_0] (B4 x) :=
  kh false B4 I6 h (Sg.cut 3 th (bf jK (Vn w_0) [⟨[],[0,96],[0,2,3,11]⟩]) (fun ⟨b1,b2,b3,i4⟩=>Sg.cut 1 th (bf jK (Vo w_0 b2 b3 i4) [⟨[],[0,1],[0,2,3]⟩,⟨[],[0,1],[0,2,3]⟩]) (fun i5=>Sg.cut 1 th (bf jK (Vp w_0 b2 b3 i4 i5) [⟨[],[0,1],[0,2,3,15]⟩]) (fun b6=>Sg.cut 1 th (bf jK (Vq b2 b3) [⟨[],[0,1],[2,3]⟩,⟨[],[0,1],[2,3]⟩]) (fun ⟨i7,i9⟩=>bf jK kb [⟨[],[0],[2]⟩])))))
    (fun x=>by cases x with | r0 b10 i11 i12=>exact jR [.agg [.bool false b10,.int .u64 i11,.int .i64 i12]])
def ti:Option dC→Bool
  | some _=>true
  | none=>false
def va:Option dC→Bool
  | some (.r0 x _ _)=>x
  | _=>false
def vb:Option dC→Int
  | some (.r0 _ x _)=>x
  | _=>0
def vc:Option dC→Int
  | some (.r0 _ _ x)=>x
  | _=>0
theorem Vs{x:Option dC}(h:ti x=true) :x=some (.r0 (va x) (vb x) (vc x)):=by
  unfold ti at h
  split at h<;>first | rfl | (cases h;done) | (rename_i y;cases y;rfl)
noncomputable def I7:ax:=bx Iw (.cons (.int .u64) .nil) fun t=>(fun q=>[⟨B4 (.r0 (va q) (vb q) (vc q)),[ti q]⟩]) (lq t.1)
theorem OP:aI prog I7:=aE fun t=>(aF (fun h=>Vr t.1 (Vs h)) aQ)
noncomputable def I8:List ax:=I7::I5
theorem lQ:aJ prog (aG I8):=aj OP jK
inductive eZ where
  | r0 (a7:Nat) (l8:List Int)
def yK:eZ→AE×aC
  | .r0 a7 l8=>(.ret,⟨ae 22 [(2,.sl 0 1 1 0 a7 a7)],[(0,.ns .u64 l8)],1⟩)
theorem vZ:jm yK:=by intro x;cases x<;>(intro h;cases h)
theorem Y2(id:Nat) :lD id yK:=by intro x;cases x<;>(intro h;cases h)
def EJ:eZ→fU
  | .r0 a7 l8=>⟨.imm .free (.ns .u64 l8) 1 1 0 a7,[]⟩
noncomputable def Vt:List Code:=cp (md yo)
def Y3(v_0:Lv)(a_1:List Int)(_:Unit) :aC:=⟨ae 22 [(0,.imm v_0 (.ns .u64 a_1) 1 1 0 (List.length a_1)),(3,.int .i64 (((List.length a_1):Nat):Int))],[],0⟩
def Vu:T ((Unit)⊕(eZ)) :=
  .leaf (.inl ())
def wa(v_0:Lv)(a_1:List Int)(n4:Int) :aC:=⟨ae 22 [(0,.imm v_0 (.ns .u64 a_1) 1 1 0 (List.length a_1)),(3,.int .i64 n4)],[],0⟩
def I9(v_0:Lv)(a_1:List Int)(n6:Int) :aC:=⟨ae 22 [(0,.imm v_0 (.ns .u64 a_1) 1 1 0 (List.length a_1)),(3,.int .i64 n6)],[],0⟩
noncomputable def Vv:List Code:=cp (dg ((((Vt.drop 2).take 1)).headD .skip))
def Y4(v_0:Lv)(a_1:List Int)(n4:Int)(b5:Bool) :aC:=⟨ae 22 [(0,.imm v_0 (.ns .u64 a_1) 1 1 0 (List.length a_1)),(3,.int .i64 n4),(15,.bool false b5)],[],0⟩
def oH(a_1:List Int)(n4:Int) :T ((Bool)⊕((Int)⊕(eZ))) :=
  .ask (decide (n4>(0:Int)))
    (.need (cV .i64 (n4-(1:Int)))<|.need (fp (n4-(1:Int)) (List.length a_1))<|.need (fO (Int.toNat (n4-(1:Int))) (List.length a_1))<|.leaf (.inl ((List.getD a_1 (Int.toNat (n4-(1:Int))) 0)==(0:Int))))
    (.leaf (.inl false))
def G3(n4:Int)(b5:Bool) :T ((Int)⊕((Int)⊕(eZ))) :=
  .ask b5
    (.need (cV .i64 (n4-(1:Int)))<|.leaf (.inl (n4-(1:Int))))
    (.leaf (.inr (.inl n4)))
noncomputable def Aj(a_1:List Int) :Int→Option ((Int)⊕((Int)⊕(eZ))):=fun n4 =>
  aB ((oH a_1 n4).run) fun b5 =>
  (G3 n4 b5).run
theorem Vw(v_0:Lv)(a_1:List Int)(n4:Int) :Sg prog [] Vv (wa v_0 a_1 n4) (Aj a_1 n4) (wa v_0 a_1) (cN 0 (I9 v_0 a_1) yK):=by
  unfold Aj;exact Sg.cut 1 (aW vZ) (bf lQ (Y4 v_0 a_1 n4) [⟨[],[],[0,3,15]⟩,⟨[],[],[0,3,15]⟩]) (fun b5=>bf lQ (wa v_0 a_1) [⟨[],[],[0,3]⟩,⟨[],[],[0,3]⟩])
def G4(a_1:List Int)(n6:Int) :T ((Empty)⊕(eZ)) :=
  .need (CE n6 (List.length a_1))<|.need (CE (0:Int) (Int.toNat n6))<|.need (mQ ((Int.toNat n6)*8) 140737488355328)<|.need (mQ (Int.toNat n6) 9223372036854775807)<|.need (mQ (Int.toNat n6) (List.length a_1))<|.leaf (.inr (.r0 (Int.toNat n6) (List.take (Int.toNat n6) a_1)))
noncomputable def bY(a_1:List Int) :Option eZ:=jP (aB ((Vu).run) fun _ =>
  aB (cU (Aj a_1) (((List.length a_1):Nat):Int)) fun n6 =>
  (G4 a_1 n6).run)
theorem Y5(v_0:Lv)(a_1:List Int){x:eZ}(h:bY a_1=some x) :ai prog yo [] [.imm v_0 (.ns .u64 a_1) 1 1 0 (List.length a_1)] (EJ x) :=
  kh true EJ yK h (Sg.cut 2 vZ (bf lQ (Y3 v_0 a_1) [⟨[],[],[0,3]⟩]) (fun _=>Sg.cut 1 vZ (DG ⟨[],[],[0,3]⟩ (wa v_0 a_1) (I9 v_0 a_1) 0 vZ (Y2 _) (fun n4=>Vw v_0 a_1 n4)) (fun n6=>bf lQ kb [⟨[],[48],[2]⟩])))
    (fun x=>by cases x with | r0 a7 l8=>exact jR [.sl 0 1 1 0 a7 a7])
def iL:Option eZ→Bool
  | some _=>true
  | none=>false
def gY:Option eZ→Nat
  | some (.r0 x _)=>x
  | _=>0
def gZ:Option eZ→List Int
  | some (.r0 _ x)=>x
  | _=>[]
theorem Y6{x:Option eZ}(h:iL x=true) :x=some (.r0 (gY x) (gZ x)):=by
  unfold iL at h
  split at h<;>first | rfl | (cases h;done) | (rename_i y;cases y;rfl)
noncomputable def MT:ax:=bx yo (.cons (.ns .u64) .nil) fun t=>(fun q=>[⟨EJ (.r0 (gY q) (gZ q)),[iL q]⟩]) (bY t.1.2)
theorem RD:aI prog MT:=aE fun t=>(aF (fun h=>Y5 t.1.1 t.1.2 (Y6 h)) aQ)
noncomputable def MU:List ax:=MT::I8
theorem nF:aJ prog (aG MU):=aj RD lQ
inductive fS where
  | r0 (i9:Int)
def yL:fS→AE×aC
  | .r0 i9=>(.ret,⟨ae 27 [(2,.int .i64 i9)],[],0⟩)
theorem wb:jm yL:=by intro x;cases x<;>(intro h;cases h)
theorem Y7(id:Nat) :lD id yL:=by intro x;cases x<;>(intro h;cases h)
def EK:fS→fU
  | .r0 i9=>⟨.int .i64 i9,[]⟩
noncomputable def Y8:List Code:=cp (md yq)
def Y9:(List Int)×Nat→aC:=fun (a1,a2)=>⟨ae 27 [(0,.imm .free (.ns .u64 a1) 1 1 0 a2)],[],0⟩
def B5(a_1:List Int) :T (((List Int)×Nat)⊕(fS)) :=
  .need (aK 0 (List.length a_1) a_1)<|.need (iL (bY (aa 0 (List.length a_1) a_1)))<|.leaf (.inl ((gZ (bY (aa 0 (List.length a_1) a_1))),(gY (bY (aa 0 (List.length a_1) a_1)))))
def Za:Int×Int→aC:=fun (n3,top4)=>⟨ae 27 [(3,.int .i64 n3),(4,.int .u64 top4)],[],0⟩
def B6(a1:List Int)(a2:Nat) :T ((Int×Int)⊕(fS)) :=
  .ask (((a2:Nat):Int)==(0:Int))
    (.leaf (.inr (.r0 (0:Int))))
    (.need (cV .i64 (((a2:Nat):Int)-(1:Int)))<|.need (cV .i64 ((64:Int)*(((a2:Nat):Int)-(1:Int))))<|.need (cV .i64 (((a2:Nat):Int)-(1:Int)))<|.need (fp (((a2:Nat):Int)-(1:Int)) a2)<|.need (fO (Int.toNat (((a2:Nat):Int)-(1:Int))) (List.length a1))<|.leaf (.inl (((64:Int)*(((a2:Nat):Int)-(1:Int))),(List.getD a1 (Int.toNat (((a2:Nat):Int)-(1:Int))) 0))))
def wc:Int×Int→aC:=fun (n5,top6)=>⟨ae 27 [(3,.int .i64 n5),(4,.int .u64 top6)],[],0⟩
def Ja(n7:Int) :aC:=⟨ae 27 [(3,.int .i64 n7)],[],0⟩
noncomputable def Vx:List Code:=cp (dg (((((Y8.drop 2).drop 4).take 1)).headD .skip))
def tj(n5:Int)(top6:Int) :T ((Int×Int)⊕((Int)⊕(fS))) :=
  .ask (decide (top6>(0:Int)))
    (.need (cV .i64 (n5+(1:Int)))<|.need ((2:Int) != (0:Int))<|.leaf (.inl ((n5+(1:Int)),(IntKind.u64.wrap (Int.tdiv top6 (2:Int))))))
    (.leaf (.inr (.inl n5)))
noncomputable def Ak:Int×Int→Option ((Int×Int)⊕((Int)⊕(fS))):=fun (n5,top6) =>
  (tj n5 top6).run
theorem Vy(n5:Int)(top6:Int) :Sg prog [] Vx (wc (n5,top6)) (Ak (n5,top6)) wc (cN 0 Ja yL):=by
  unfold Ak;exact bf nF wc [⟨[],[],[3,4]⟩,⟨[],[],[3]⟩]
def Vz(n7:Int) :T ((Empty)⊕(fS)) :=
  .leaf (.inr (.r0 n7))
noncomputable def mN(a_1:List Int) :Option fS:=jP (aB ((B5 a_1).run) fun (a1,a2) =>
  aB ((B6 a1 a2).run) fun (n3,top4) =>
  aB (cU (Ak) (n3,top4)) fun n7 =>
  (Vz n7).run)
theorem Zb(v_0:Lv)(a_1:List Int){x:fS}(h:mN a_1=some x) :ai prog yq [] [.imm v_0 (.ns .u64 a_1) 1 1 0 (List.length a_1)] (EK x) :=
  kh true EK yL h (Sg.cut 2 wb (bf nF Y9 [⟨[],[],[0]⟩]) (fun ⟨a1,a2⟩=>Sg.cut 4 wb (bf nF Za [⟨[],[],[2]⟩,⟨[],[],[3,4]⟩]) (fun ⟨n3,top4⟩=>Sg.cut 1 wb (DG ⟨[],[],[3,4]⟩ (wc) (Ja) 0 wb (Y7 _) (fun ⟨n5,top6⟩=>Vy n5 top6)) (fun n7=>bf nF kb [⟨[],[],[2]⟩]))))
    (fun x=>by cases x with | r0 i9=>exact jR [.int .i64 i9])
def qD:Option fS→Bool
  | some _=>true
  | none=>false
def rm:Option fS→Int
  | some (.r0 x)=>x
  | _=>0
theorem Zc{x:Option fS}(h:qD x=true) :x=some (.r0 (rm x)):=by
  unfold qD at h
  split at h<;>first | rfl | (cases h;done) | (rename_i y;cases y;rfl)
noncomputable def MV:ax:=bx yq (.cons (.ns .u64) .nil) fun t=>(fun q=>[⟨EK (.r0 (rm q)),[qD q]⟩]) (mN t.1.2)
theorem RE:aI prog MV:=aE fun t=>(aF (fun h=>Zb t.1.1 t.1.2 (Zc h)) aQ)
noncomputable def MW:List ax:=MV::MU
theorem xL:aJ prog (aG MW):=aj RE nF
inductive kS where
  | r0 (b2:Bool)
def P5:kS→AE×aC
  | .r0 b2=>(.ret,⟨ae 27 [(4,.bool false b2)],[],0⟩)
theorem aeg:jm P5:=by intro x;cases x<;>(intro h;cases h)
def G5:kS→fU
  | .r0 b2=>⟨.bool false b2,[]⟩
def aeh(b1:Bool) :aC:=⟨ae 27 [(4,.bool false b1)],[],0⟩
def MX(a_1:List Int)(i_2:Int) :T ((Bool)⊕(kS)) :=
  .ask (decide (i_2≥(0:Int)))
    (.need ((64:Int) != (0:Int))<|.need (cV .i64 (Int.tdiv i_2 (64:Int)))<|.ask (decide ((Int.tdiv i_2 (64:Int))<(((List.length a_1):Nat):Int)))
      (.need ((64:Int) != (0:Int))<|.need (cV .i64 (Int.tdiv i_2 (64:Int)))<|.need (fp (Int.tdiv i_2 (64:Int)) (List.length a_1))<|.need (fO (Int.toNat (Int.tdiv i_2 (64:Int))) (List.length a_1))<|.need ((64:Int) != (0:Int))<|.need (decide ((0:Int)≤(IntKind.u64.wrap (Int.tmod i_2 (64:Int)))))<|.need ((2:Int) != (0:Int))<|.leaf (.inl ((Int.tmod (Int.fdiv (List.getD a_1 (Int.toNat (Int.tdiv i_2 (64:Int))) 0) (2^(min (Int.toNat (IntKind.u64.wrap (Int.tmod i_2 (64:Int)))) (IntKind.u64.bits)))) (2:Int))==(1:Int))))
      (.leaf (.inl false)))
    (.leaf (.inl false))
def aei(b1:Bool) :T ((Empty)⊕(kS)) :=
  .leaf (.inr (.r0 b1))
noncomputable def kT(a_1:List Int)(i_2:Int) :Option kS:=jP (aB ((MX a_1 i_2).run) fun b1 =>
  (aei b1).run)
theorem aej(v_0:Lv)(a_1:List Int)(i_2:Int){x:kS}(h:kT a_1 i_2=some x) :ai prog Ga [] [.imm v_0 (.ns .u64 a_1) 1 1 0 (List.length a_1),.int .i64 i_2] (G5 x) :=
  kh true G5 P5 h (Sg.cut 2 aeg (bf xL aeh [⟨[],[],[4]⟩,⟨[],[],[4]⟩,⟨[],[],[4]⟩]) (fun b1=>bf xL kb [⟨[],[],[4]⟩]))
    (fun x=>by cases x with | r0 b2=>exact jR [.bool false b2])
def mO:Option kS→Bool
  | some _=>true
  | none=>false
def lR:Option kS→Bool
  | some (.r0 x)=>x
  | _=>false
theorem aek{x:Option kS}(h:mO x=true) :x=some (.r0 (lR x)):=by
  unfold mO at h
  split at h<;>first | rfl | (cases h;done) | (rename_i y;cases y;rfl)
noncomputable def P6:ax:=bx Ga (.cons (.ns .u64) (.cons (.int .i64) .nil)) fun t=>(fun q=>[⟨G5 (.r0 (lR q)),[mO q]⟩]) (kT t.1.2 t.2.1)
theorem VA:aI prog P6:=aE fun t=>(aF (fun h=>aej t.1.1 t.1.2 t.2.1 (aek h)) aQ)
noncomputable def P7:List ax:=P6::MW
theorem lS:aJ prog (aG P7):=aj VA xL
inductive dT where
  | r0 (a3:Nat)
def wd:dT→AE×aC
  | .r0 a3=>(.ret,⟨ae 16 [(2,.int .i64 ((a3:Nat):Int))],[],0⟩)
theorem oI:jm wd:=by intro x;cases x<;>(intro h;cases h)
theorem VB(id:Nat) :lD id wd:=by intro x;cases x<;>(intro h;cases h)
def B7:dT→fU
  | .r0 a3=>⟨.int .i64 ((a3:Nat):Int),[]⟩
noncomputable def VC:List Code:=cp (md vw)
def VD(v_0:Lv)(a_1:List Int)(n1:Int) :aC:=⟨ae 16 [(0,.imm v_0 (.ns .u64 a_1) 1 1 0 (List.length a_1)),(3,.int .i64 n1)],[],0⟩
def Fq(a_1:List Int) :T ((Int)⊕(dT)) :=
  .need (aK 0 (List.length a_1) a_1)<|.need (qD (mN (aa 0 (List.length a_1) a_1)))<|.leaf (.inl (rm (mN (aa 0 (List.length a_1) a_1))))
def VE(v_0:Lv)(a_1:List Int)(n1:Int)(_:Unit) :aC:=⟨ae 16 [(0,.imm v_0 (.ns .u64 a_1) 1 1 0 (List.length a_1)),(3,.int .i64 n1),(4,.int .i64 (0:Int))],[],0⟩
def RF:T ((Unit)⊕(dT)) :=
  .leaf (.inl ())
def tk(v_0:Lv)(a_1:List Int)(n1:Int)(i2:Nat) :aC:=⟨ae 16 [(0,.imm v_0 (.ns .u64 a_1) 1 1 0 (List.length a_1)),(3,.int .i64 n1),(4,.int .i64 ((i2:Nat):Int))],[],0⟩
def G6(_:Unit) :aC:=⟨ae 16 [],[],0⟩
noncomputable def RG:List Code:=cp (dg (((((VC.drop 2).drop 1).take 1)).headD .skip))
def VF(v_0:Lv)(a_1:List Int)(n1:Int)(i2:Nat)(_:Unit) :aC:=⟨ae 16 [(0,.imm v_0 (.ns .u64 a_1) 1 1 0 (List.length a_1)),(3,.int .i64 n1),(4,.int .i64 ((i2:Nat):Int))],[],0⟩
def nG(a_1:List Int)(n1:Int)(i2:Nat) :T ((Unit)⊕((Unit)⊕(dT))) :=
  .ask (decide (((i2:Nat):Int)<n1))
    (.need (aK 0 (List.length a_1) a_1)<|.need (mO (kT (aa 0 (List.length a_1) a_1) ((i2:Nat):Int)))<|.ask (lR (kT (aa 0 (List.length a_1) a_1) ((i2:Nat):Int)))
      (.leaf (.inr (.inr (.r0 i2))))
      (.leaf (.inl ())))
    (.leaf (.inr (.inl ())))
def RH(i2:Nat) :T ((Nat)⊕((Unit)⊕(dT))) :=
  .need (cV .i64 (((i2+1):Nat):Int))<|.leaf (.inl (i2+1))
noncomputable def xM(a_1:List Int)(n1:Int) :Nat→Option ((Nat)⊕((Unit)⊕(dT))):=fun i2 =>
  aB ((nG a_1 n1 i2).run) fun _ =>
  (RH i2).run
theorem RI(v_0:Lv)(a_1:List Int)(n1:Int)(i2:Nat) :Sg prog [] RG (tk v_0 a_1 n1 i2) (xM a_1 n1 i2) (tk v_0 a_1 n1) (cN 0 G6 wd):=by
  unfold xM;exact Sg.cut 3 (aW oI) (bf lS (VF v_0 a_1 n1 i2) [⟨[],[],[2]⟩,⟨[],[],[0,3,4]⟩,⟨[],[],[]⟩]) (fun _=>bf lS (tk v_0 a_1 n1) [⟨[],[],[0,3,4]⟩])
def RJ:T ((Empty)⊕(dT)) :=
  .leaf (.inr (.r0 0))
noncomputable def qE(a_1:List Int) :Option dT:=jP (aB ((Fq a_1).run) fun n1 =>
  aB ((RF).run) fun _ =>
  aB (cU (xM a_1 n1) 0) fun _ =>
  (RJ).run)
theorem VG(v_0:Lv)(a_1:List Int){x:dT}(h:qE a_1=some x) :ai prog vw [] [.imm v_0 (.ns .u64 a_1) 1 1 0 (List.length a_1)] (B7 x) :=
  kh true B7 wd h (Sg.cut 2 oI (bf lS (VD v_0 a_1) [⟨[],[],[0,3]⟩]) (fun n1=>Sg.cut 1 oI (bf lS (VE v_0 a_1 n1) [⟨[],[],[0,3,4]⟩]) (fun _=>Sg.cut 1 oI (DG ⟨[],[],[0,3,4]⟩ (tk v_0 a_1 n1) (G6) 0 oI (VB _) (fun i2=>RI v_0 a_1 n1 i2)) (fun _=>bf lS kb [⟨[],[],[2]⟩]))))
    (fun x=>by cases x with | r0 a3=>exact jR [.int .i64 ((a3:Nat):Int)])
def tl:Option dT→Bool
  | some _=>true
  | none=>false
def ve:Option dT→Nat
  | some (.r0 x)=>x
  | _=>0
theorem VH{x:Option dT}(h:tl x=true) :x=some (.r0 (ve x)):=by
  unfold tl at h
  split at h<;>first | rfl | (cases h;done) | (rename_i y;cases y;rfl)
noncomputable def Jb:ax:=bx vw (.cons (.ns .u64) .nil) fun t=>(fun q=>[⟨B7 (.r0 (ve q)),[tl q]⟩]) (qE t.1.2)
theorem OQ:aI prog Jb:=aE fun t=>(aF (fun h=>VG t.1.1 t.1.2 (VH h)) aQ)
noncomputable def Jc:List ax:=Jb::P7
theorem dn:aJ prog (aG Jc):=aj OQ lS
inductive cu where
  | r0 (l18:List Int) (a19:Nat) (b20:Bool)
def wP:cu→AE×aC
  | .r0 l18 a19 b20=>(.ret,⟨ae 68 [(4,.imm .free (.ns .u64 l18) 1 1 0 a19),(5,.bool false b20)],[],0⟩)
theorem gS:jm wP:=by intro x;cases x<;>(intro h;cases h)
theorem MY(id:Nat) :lD id wP:=by intro x;cases x<;>(intro h;cases h)
def G7:cu→fU
  | .r0 l18 a19 b20=>⟨.tup [.imm .free (.ns .u64 l18) 1 1 0 a19,.bool false b20],[]⟩
noncomputable def Jd:List Code:=cp (md AQ)
def ael(v_0:Lv)(a_1:List Int)(k_2:Int) :Bool×Int→aC:=fun (lost1,n2)=>⟨ae 68 [(0,.imm v_0 (.ns .u64 a_1) 1 1 0 (List.length a_1)),(1,.int .i64 k_2),(6,.bool false lost1),(7,.int .i64 n2)],[],0⟩
def B8(a_1:List Int) :T ((Bool×Int)⊕(cu)) :=
  .need (aK 0 (List.length a_1) a_1)<|.need (qD (mN (aa 0 (List.length a_1) a_1)))<|.leaf (.inl (false,(rm (mN (aa 0 (List.length a_1) a_1)))))
def aem(v_0:Lv)(a_1:List Int)(k_2:Int)(lost1:Bool)(n2:Int)(_:Unit) :aC:=⟨ae 68 [(0,.imm v_0 (.ns .u64 a_1) 1 1 0 (List.length a_1)),(1,.int .i64 k_2),(6,.bool false lost1),(7,.int .i64 n2),(8,.int .i64 (0:Int))],[],0⟩
def Zd:T ((Unit)⊕(cu)) :=
  .leaf (.inl ())
def yM(v_0:Lv)(a_1:List Int)(k_2:Int)(n2:Int) :Bool×Nat→aC:=fun (lost5,i6)=>⟨ae 68 [(0,.imm v_0 (.ns .u64 a_1) 1 1 0 (List.length a_1)),(1,.int .i64 k_2),(6,.bool false lost5),(7,.int .i64 n2),(8,.int .i64 ((i6:Nat):Int))],[],0⟩
def MZ(v_0:Lv)(a_1:List Int)(k_2:Int)(n2:Int)(lost9:Bool) :aC:=⟨ae 68 [(0,.imm v_0 (.ns .u64 a_1) 1 1 0 (List.length a_1)),(1,.int .i64 k_2),(6,.bool false lost9),(7,.int .i64 n2)],[],0⟩
noncomputable def Ze:List Code:=cp (dg (((((Jd.drop 3).drop 1).take 1)).headD .skip))
def aen(v_0:Lv)(a_1:List Int)(k_2:Int)(n2:Int)(lost5:Bool)(i6:Nat)(b7:Bool) :aC:=⟨ae 68 [(0,.imm v_0 (.ns .u64 a_1) 1 1 0 (List.length a_1)),(1,.int .i64 k_2),(6,.bool false lost5),(7,.int .i64 n2),(8,.int .i64 ((i6:Nat):Int)),(20,.bool false b7)],[],0⟩
def qF(k_2:Int)(n2:Int)(i6:Nat) :T ((Bool)⊕((Bool)⊕(cu))) :=
  .ask (decide (((i6:Nat):Int)<k_2))
    (.leaf (.inl (decide (((i6:Nat):Int)<n2))))
    (.leaf (.inl false))
def aeo(v_0:Lv)(a_1:List Int)(k_2:Int)(n2:Int)(i6:Nat)(lost8:Bool) :aC:=⟨ae 68 [(0,.imm v_0 (.ns .u64 a_1) 1 1 0 (List.length a_1)),(1,.int .i64 k_2),(6,.bool false lost8),(7,.int .i64 n2),(8,.int .i64 ((i6:Nat):Int))],[],0⟩
def B9(a_1:List Int)(lost5:Bool)(i6:Nat)(b7:Bool) :T ((Bool)⊕((Bool)⊕(cu))) :=
  .ask b7
    (.ask lost5
      (.leaf (.inl true))
      (.need (aK 0 (List.length a_1) a_1)<|.need (mO (kT (aa 0 (List.length a_1) a_1) ((i6:Nat):Int)))<|.leaf (.inl (lR (kT (aa 0 (List.length a_1) a_1) ((i6:Nat):Int))))))
    (.leaf (.inr (.inl lost5)))
def Zf(i6:Nat)(lost8:Bool) :T ((Bool×Nat)⊕((Bool)⊕(cu))) :=
  .need (cV .i64 (((i6+1):Nat):Int))<|.leaf (.inl (lost8,(i6+1)))
noncomputable def we(a_1:List Int)(k_2:Int)(n2:Int) :Bool×Nat→Option ((Bool×Nat)⊕((Bool)⊕(cu))):=fun (lost5,i6) =>
  aB ((qF k_2 n2 i6).run) fun b7 =>
  aB ((B9 a_1 lost5 i6 b7).run) fun lost8 =>
  (Zf i6 lost8).run
theorem Zg(v_0:Lv)(a_1:List Int)(k_2:Int)(n2:Int)(lost5:Bool)(i6:Nat) :Sg prog [] Ze (yM v_0 a_1 k_2 n2 (lost5,i6)) (we a_1 k_2 n2 (lost5,i6)) (yM v_0 a_1 k_2 n2) (cN 0 (MZ v_0 a_1 k_2 n2) wP):=by
  unfold we;exact Sg.cut 1 (aW gS) (bf dn (aen v_0 a_1 k_2 n2 lost5 i6) [⟨[],[],[0,1,6,7,8,20]⟩,⟨[],[],[0,1,6,7,8,20]⟩]) (fun b7=>Sg.cut 2 (aW gS) (bf dn (aeo v_0 a_1 k_2 n2 i6) [⟨[],[],[0,1,6,7,8]⟩,⟨[],[],[0,1,6,7,8]⟩,⟨[],[],[0,1,6,7]⟩]) (fun lost8=>bf dn (yM v_0 a_1 k_2 n2) [⟨[],[],[0,1,6,7,8]⟩]))
def Zh(v_0:Lv)(a_1:List Int)(k_2:Int)(n2:Int)(lost9:Bool)(l10:(List Int)) :aC:=⟨ae 68 [(0,.imm v_0 (.ns .u64 a_1) 1 1 0 (List.length a_1)),(1,.int .i64 k_2),(6,.bool false lost9),(7,.int .i64 n2),(9,.sl 0 1 1 0 (List.length a_1) (List.length a_1)),(10,.int .i64 k_2)],[(0,.ns .u64 l10)],1⟩
def Ca(a_1:List Int)(k_2:Int)(n2:Int)(lost9:Bool) :T (((List Int))⊕(cu)) :=
  .ask (decide (k_2≥n2))
    (.leaf (.inr (.r0 ([]:List Int) 0 lost9)))
    (.need (decide ((0:Int)≤(((List.length a_1):Nat):Int)))<|.need (decide ((((List.length a_1):Nat):Int)≤(((List.length a_1):Nat):Int)))<|.need (decide ((8:Int)*(((List.length a_1):Nat):Int)≤140737488355328))<|.need (cV .i64 (((List.length a_1):Nat):Int))<|.leaf (.inl (List.replicate (List.length a_1) (0:Int))))
def wg(v_0:Lv)(a_1:List Int)(k_2:Int)(n2:Int)(lost9:Bool) :Int×(List Int)→aC:=fun (i12,l13)=>⟨ae 68 [(0,.imm v_0 (.ns .u64 a_1) 1 1 0 (List.length a_1)),(1,.int .i64 k_2),(6,.bool false lost9),(7,.int .i64 n2),(9,.sl 0 1 1 0 (List.length a_1) (List.length a_1)),(10,.int .i64 i12)],[(0,.ns .u64 l13)],1⟩
def Je(a_1:List Int)(lost9:Bool)(l15:(List Int)) :aC:=⟨ae 68 [(6,.bool false lost9),(9,.sl 0 1 1 0 (List.length a_1) (List.length a_1))],[(0,.ns .u64 l15)],1⟩
noncomputable def Zi:List Code:=cp (dg (((((((Jd.drop 3).drop 1).drop 1).drop 4).take 1)).headD .skip))
def Zj(v_0:Lv)(a_1:List Int)(k_2:Int)(n2:Int)(lost9:Bool)(i12:Int)(l14:(List Int)) :aC:=⟨ae 68 [(0,.imm v_0 (.ns .u64 a_1) 1 1 0 (List.length a_1)),(1,.int .i64 k_2),(6,.bool false lost9),(7,.int .i64 n2),(9,.sl 0 1 1 0 (List.length a_1) (List.length a_1)),(10,.int .i64 i12)],[(0,.ns .u64 l14)],1⟩
def wh(a_1:List Int)(k_2:Int)(n2:Int)(i12:Int)(l13:List Int) :T (((List Int))⊕(((List Int))⊕(cu))) :=
  .ask (decide (i12<n2))
    (.need (aK 0 (List.length a_1) a_1)<|.need (mO (kT (aa 0 (List.length a_1) a_1) i12))<|.ask (lR (kT (aa 0 (List.length a_1) a_1) i12))
      (.need (cV .i64 (i12-k_2))<|.need ((64:Int) != (0:Int))<|.need (cV .i64 (Int.tdiv (i12-k_2) (64:Int)))<|.need (cV .i64 (i12-k_2))<|.need ((64:Int) != (0:Int))<|.need (cV .i64 (Int.tdiv (i12-k_2) (64:Int)))<|.need (fp (Int.tdiv (i12-k_2) (64:Int)) (List.length a_1))<|.need (fO (Int.toNat (Int.tdiv (i12-k_2) (64:Int))) (List.length l13))<|.need (cV .i64 (i12-k_2))<|.need ((64:Int) != (0:Int))<|.need (decide ((0:Int)≤(IntKind.u64.wrap (Int.tmod (i12-k_2) (64:Int)))))<|.need (fp (Int.tdiv (i12-k_2) (64:Int)) (List.length a_1))<|.need (fO (Int.toNat (Int.tdiv (i12-k_2) (64:Int))) (List.length l13))<|.leaf (.inl (List.set l13 (Int.toNat (Int.tdiv (i12-k_2) (64:Int))) (IntKind.u64.wrap ((List.getD l13 (Int.toNat (Int.tdiv (i12-k_2) (64:Int))) 0)+(IntKind.u64.wrap ((1:Int)*2^(min (Int.toNat (IntKind.u64.wrap (Int.tmod (i12-k_2) (64:Int)))) (IntKind.u64.bits)))))))))
      (.leaf (.inl l13)))
    (.leaf (.inr (.inl l13)))
def Zk(i12:Int)(l14:List Int) :T ((Int×(List Int))⊕(((List Int))⊕(cu))) :=
  .need (cV .i64 (i12+(1:Int)))<|.leaf (.inl ((i12+(1:Int)),l14))
noncomputable def Cb(a_1:List Int)(k_2:Int)(n2:Int) :Int×(List Int)→Option ((Int×(List Int))⊕(((List Int))⊕(cu))):=fun (i12,l13) =>
  aB ((wh a_1 k_2 n2 i12 l13).run) fun l14 =>
  (Zk i12 l14).run
theorem Zl(v_0:Lv)(a_1:List Int)(k_2:Int)(n2:Int)(lost9:Bool)(i12:Int)(l13:List Int) :Sg prog [] Zi (wg v_0 a_1 k_2 n2 lost9 (i12,l13)) (Cb a_1 k_2 n2 (i12,l13)) (wg v_0 a_1 k_2 n2 lost9) (cN 2 (Je a_1 lost9) wP):=by
  unfold Cb;exact Sg.cut 3 (aW gS) (bf dn (Zj v_0 a_1 k_2 n2 lost9 i12) [⟨[],[0],[0,1,6,7,9,10]⟩,⟨[],[0],[0,1,6,7,9,10]⟩,⟨[],[0],[6,9]⟩]) (fun l14=>bf dn (wg v_0 a_1 k_2 n2 lost9) [⟨[],[0],[0,1,6,7,9,10]⟩])
def Zm(lost9:Bool) :(List Int)×Nat→aC:=fun (l16,a17)=>⟨ae 68 [(4,.imm .free (.ns .u64 l16) 1 1 0 a17),(5,.bool false lost9)],[],0⟩
def Jf(a_1:List Int)(l15:List Int) :T (((List Int)×Nat)⊕(cu)) :=
  .need (aK 0 (List.length a_1) l15)<|.need (iL (bY (aa 0 (List.length a_1) l15)))<|.leaf (.inl ((gZ (bY (aa 0 (List.length a_1) l15))),(gY (bY (aa 0 (List.length a_1) l15)))))
def Zn(lost9:Bool)(l16:List Int)(a17:Nat) :T ((Empty)⊕(cu)) :=
  .leaf (.inr (.r0 l16 a17 lost9))
noncomputable def rT(a_1:List Int)(k_2:Int) :Option cu:=jP (aB ((B8 a_1).run) fun (lost1,n2) =>
  aB ((Zd).run) fun _ =>
  aB (cU (we a_1 k_2 n2) (lost1,0)) fun lost9 =>
  aB ((Ca a_1 k_2 n2 lost9).run) fun l10 =>
  aB (cU (Cb a_1 k_2 n2) (k_2,l10)) fun l15 =>
  aB ((Jf a_1 l15).run) fun (l16,a17) =>
  (Zn lost9 l16 a17).run)
theorem aep(v_0:Lv)(a_1:List Int)(k_2:Int){x:cu}(h:rT a_1 k_2=some x) :ai prog AQ [] [.imm v_0 (.ns .u64 a_1) 1 1 0 (List.length a_1),.int .i64 k_2] (G7 x) :=
  kh true G7 wP h (Sg.cut 3 gS (bf dn (ael v_0 a_1 k_2) [⟨[],[],[0,1,6,7]⟩]) (fun ⟨lost1,n2⟩=>Sg.cut 1 gS (bf dn (aem v_0 a_1 k_2 lost1 n2) [⟨[],[],[0,1,6,7,8]⟩]) (fun _=>Sg.cut 1 gS (DG ⟨[],[],[0,1,6,7,8]⟩ (yM v_0 a_1 k_2 n2) (MZ v_0 a_1 k_2 n2) 0 gS (MY _) (fun ⟨lost5,i6⟩=>Zg v_0 a_1 k_2 n2 lost5 i6)) (fun lost9=>Sg.cut 4 gS (bf dn (Zh v_0 a_1 k_2 n2 lost9) [⟨[(.slot 4,.fre 1 1 (.ns .u64 ([]:List Int)))],[],[4,5]⟩,⟨[],[80],[0,1,6,7,9,10]⟩]) (fun l10=>Sg.cut 1 gS (DG ⟨[],[0],[0,1,6,7,9,10]⟩ (wg v_0 a_1 k_2 n2 lost9) (Je a_1 lost9) 2 gS (MY _) (fun ⟨i12,l13⟩=>Zl v_0 a_1 k_2 n2 lost9 i12 l13)) (fun l15=>Sg.cut 1 gS (bf dn (Zm lost9) [⟨[],[],[4,5]⟩]) (fun ⟨l16,a17⟩=>bf dn kb [⟨[],[],[4,5]⟩])))))))
    (fun x=>by cases x with | r0 l18 a19 b20=>exact jR [.imm .free (.ns .u64 l18) 1 1 0 a19,.bool false b20])
def yN:Option cu→Bool
  | some _=>true
  | none=>false
def Al:Option cu→List Int
  | some (.r0 x _ _)=>x
  | _=>[]
def Am:Option cu→Nat
  | some (.r0 _ x _)=>x
  | _=>0
def G8:Option cu→Bool
  | some (.r0 _ _ x)=>x
  | _=>false
theorem aeq{x:Option cu}(h:yN x=true) :x=some (.r0 (Al x) (Am x) (G8 x)):=by
  unfold yN at h
  split at h<;>first | rfl | (cases h;done) | (rename_i y;cases y;rfl)
noncomputable def P8:ax:=bx AQ (.cons (.ns .u64) (.cons (.int .i64) .nil)) fun t=>(fun q=>[⟨G7 (.r0 (Al q) (Am q) (G8 q)),[yN q]⟩]) (rT t.1.2 t.2.1)
theorem VI:aI prog P8:=aE fun t=>(aF (fun h=>aep t.1.1 t.1.2 t.2.1 (aeq h)) aQ)
noncomputable def P9:List ax:=P8::Jc
theorem oJ:aJ prog (aG P9):=aj VI dn
inductive ef where
  | r0 (b7:Bool) (l8:List Int) (a9:Nat) (i10:Int)
def M0:ef→AE×aC
  | .r0 b7 l8 a9 i10=>(.ret,⟨ae 28 [(2,.ptr 0 1 0 0)],[(0,.vs [.bool false b7,.imm .free (.ns .u64 l8) 1 1 0 a9,.int .i64 i10])],1⟩)
theorem Cc:jm M0:=by intro x;cases x<;>(intro h;cases h)
def EL:ef→fU
  | .r0 b7 l8 a9 i10=>⟨.agg [.bool false b7,.imm .free (.ns .u64 l8) 1 1 0 a9,.int .i64 i10],[]⟩
def Zo(d_0:Bool)(v_1:Lv)(d_2:List Int)(d_3:Int) :(List Int)×Nat×Bool→aC:=fun (m1,m2,b3)=>⟨ae 28 [(1,.ptr 0 1 0 0),(2,.ptr 1 1 0 0),(3,.imm .free (.ns .u64 m1) 1 1 0 m2)],[(0,.vs [.bool false d_0,.imm v_1 (.ns .u64 d_2) 1 1 0 (List.length d_2),.int .i64 d_3]),(1,.vs [.bool false b3,.nsl,.int .i64 (0:Int)])],2⟩
def Cd(d_2:List Int) :T (((List Int)×Nat×Bool)⊕(ef)) :=
  .need (aK 0 (List.length d_2) d_2)<|.need (iL (bY (aa 0 (List.length d_2) d_2)))<|.leaf (.inl ((gZ (bY (aa 0 (List.length d_2) d_2))),(gY (bY (aa 0 (List.length d_2) d_2))),false))
def Zp(d_0:Bool)(v_1:Lv)(d_2:List Int)(d_3:Int)(m1:List Int)(m2:Nat)(b3:Bool)(z4:Nat) :aC:=⟨ae 28 [(1,.ptr 0 1 0 0),(2,.ptr 1 1 0 0),(3,.imm .free (.ns .u64 m1) 1 1 0 m2),(4,.int .i64 ((z4:Nat):Int))],[(0,.vs [.bool false d_0,.imm v_1 (.ns .u64 d_2) 1 1 0 (List.length d_2),.int .i64 d_3]),(1,.vs [.bool false b3,.nsl,.int .i64 (0:Int)])],2⟩
def Ce(m1:List Int)(m2:Nat) :T ((Nat)⊕(ef)) :=
  .ask (((m2:Nat):Int)==(0:Int))
    (.leaf (.inr (.r0 false ([]:List Int) 0 (0:Int))))
    (.need (aK 0 m2 m1)<|.need (tl (qE (aa 0 m2 m1)))<|.leaf (.inl (ve (qE (aa 0 m2 m1)))))
def Zq(d_0:Bool)(v_1:Lv)(d_2:List Int)(d_3:Int)(b3:Bool)(z4:Nat) :(List Int)×Nat→aC:=fun (m5,m6)=>⟨ae 28 [(1,.ptr 0 1 0 0),(2,.ptr 1 1 0 0),(3,.imm .free (.ns .u64 m5) 1 1 0 m6),(4,.int .i64 ((z4:Nat):Int))],[(0,.vs [.bool false d_0,.imm v_1 (.ns .u64 d_2) 1 1 0 (List.length d_2),.int .i64 d_3]),(1,.vs [.bool false b3,.nsl,.int .i64 (0:Int)])],2⟩
def Cf(m1:List Int)(m2:Nat)(z4:Nat) :T (((List Int)×Nat)⊕(ef)) :=
  .need (aK 0 m2 m1)<|.need (yN (rT (aa 0 m2 m1) ((z4:Nat):Int)))<|.leaf (.inl ((Al (rT (aa 0 m2 m1) ((z4:Nat):Int))),(Am (rT (aa 0 m2 m1) ((z4:Nat):Int)))))
def Zr(d_0:Bool)(d_3:Int)(z4:Nat)(m5:List Int)(m6:Nat) :T ((Empty)⊕(ef)) :=
  .need (cV .i64 (d_3+((z4:Nat):Int)))<|.leaf (.inr (.r0 d_0 m5 m6 (d_3+((z4:Nat):Int))))
noncomputable def bh(d_0:Bool)(d_2:List Int)(d_3:Int) :Option ef:=jP (aB ((Cd d_2).run) fun (m1,m2,b3) =>
  aB ((Ce m1 m2).run) fun z4 =>
  aB ((Cf m1 m2 z4).run) fun (m5,m6) =>
  (Zr d_0 d_3 z4 m5 m6).run)
theorem Zs(d_0:Bool)(v_1:Lv)(d_2:List Int)(d_3:Int){x:ef}(h:bh d_0 d_2 d_3=some x) :ai prog Du [] [.agg [.bool false d_0,.imm v_1 (.ns .u64 d_2) 1 1 0 (List.length d_2),.int .i64 d_3]] (EL x) :=
  kh true EL M0 h (Sg.cut 2 Cc (bf oJ (Zo d_0 v_1 d_2 d_3) [⟨[],[0,16],[1,2,3]⟩]) (fun ⟨m1,m2,b3⟩=>Sg.cut 3 Cc (bf oJ (Zp d_0 v_1 d_2 d_3 m1 m2 b3) [⟨[(.cell 1 1,.fre 1 1 (.ns .u64 ([]:List Int)))],[1],[2]⟩,⟨[],[0,1],[1,2,3,4]⟩]) (fun z4=>Sg.cut 1 Cc (bf oJ (Zq d_0 v_1 d_2 d_3 b3 z4) [⟨[],[0,1],[1,2,3,4]⟩]) (fun ⟨m5,m6⟩=>bf oJ kb [⟨[],[1],[2]⟩]))))
    (fun x=>by cases x with | r0 b7 l8 a9 i10=>exact jR [.agg [.bool false b7,.imm .free (.ns .u64 l8) 1 1 0 a9,.int .i64 i10]])
def iM:Option ef→Bool
  | some _=>true
  | none=>false
def hD:Option ef→Bool
  | some (.r0 x _ _ _)=>x
  | _=>false
def hH:Option ef→List Int
  | some (.r0 _ x _ _)=>x
  | _=>[]
def hJ:Option ef→Nat
  | some (.r0 _ _ x _)=>x
  | _=>0
def hP:Option ef→Int
  | some (.r0 _ _ _ x)=>x
  | _=>0
theorem Zt{x:Option ef}(h:iM x=true) :x=some (.r0 (hD x) (hH x) (hJ x) (hP x)):=by
  unfold iM at h
  split at h<;>first | rfl | (cases h;done) | (rename_i y;cases y;rfl)
noncomputable def M1:ax:=bx Du (.cons (.agg (.cons .bool (.cons (.ns .u64) (.cons (.int .i64) .nil)))) .nil) fun t=>(fun q=>[⟨EL (.r0 (hD q) (hH q) (hJ q) (hP q)),[iM q]⟩]) (bh t.1.1 t.1.2.1.2 t.1.2.2.1)
theorem RK:aI prog M1:=aE fun t=>(aF (fun h=>Zs t.1.1 t.1.2.1.1 t.1.2.1.2 t.1.2.2.1 (Zt h)) aQ)
noncomputable def M2:List ax:=M1::P9
theorem rn:aJ prog (aG M2):=aj RK oJ
inductive fa where
  | r0 (b10:Bool) (l11:List Int) (a12:Nat) (i13:Int)
def M3:fa→AE×aC
  | .r0 b10 l11 a12 i13=>(.ret,⟨ae 15 [(2,.ptr 0 1 0 0)],[(0,.vs [.bool false b10,.imm .free (.ns .u64 l11) 1 1 0 a12,.int .i64 i13])],1⟩)
theorem Jg:jm M3:=by intro x;cases x<;>(intro h;cases h)
def EM:fa→fU
  | .r0 b10 l11 a12 i13=>⟨.agg [.bool false b10,.imm .free (.ns .u64 l11) 1 1 0 a12,.int .i64 i13],[]⟩
def Zu:Bool×Bool×Int×Int→aC:=fun (b1,b2,i3,i4)=>⟨ae 15 [(2,.ptr 0 1 0 0),(3,.ptr 1 1 0 0)],[(0,.vs [.bool false b1,.nsl,.int .i64 (0:Int)]),(1,.vs [.bool false b2,.int .u64 i3,.int .i64 i4])],2⟩
def Jh(w_0:Int) :T ((Bool×Bool×Int×Int)⊕(fa)) :=
  .need (ti (lq w_0))<|.leaf (.inl (false,(va (lq w_0)),(vb (lq w_0)),(vc (lq w_0))))
def Zv:Bool×(List Int)×Nat×Int→aC:=fun (b5,l6,a7,i9)=>⟨ae 15 [(2,.ptr 0 1 0 0)],[(0,.vs [.bool false b5,.imm .free (.ns .u64 l6) 1 1 0 a7,.int .i64 i9])],1⟩
def Cg(b2:Bool)(i3:Int)(i4:Int) :T ((Bool×(List Int)×Nat×Int)⊕(fa)) :=
  .need (aK 0 1 [i3])<|.need (iM (bh b2 (aa 0 1 [i3]) i4))<|.leaf (.inl ((hD (bh b2 (aa 0 1 [i3]) i4)),(hH (bh b2 (aa 0 1 [i3]) i4)),(hJ (bh b2 (aa 0 1 [i3]) i4)),(hP (bh b2 (aa 0 1 [i3]) i4))))
def Zw(b5:Bool)(l6:List Int)(a7:Nat)(i9:Int) :T ((Empty)⊕(fa)) :=
  .leaf (.inr (.r0 b5 l6 a7 i9))
noncomputable def kU(w_0:Int) :Option fa:=jP (aB ((Jh w_0).run) fun (b1,b2,i3,i4) =>
  aB ((Cg b2 i3 i4).run) fun (b5,l6,a7,i9) =>
  (Zw b5 l6 a7 i9).run)
theorem Zx(w_0:Int){x:fa}(h:kU w_0=some x) :ai prog Dw [] [.int .u64 w_0] (EM x) :=
  kh true EM M3 h (Sg.cut 2 Jg (bf rn Zu [⟨[],[0,48],[2,3]⟩]) (fun ⟨b1,b2,i3,i4⟩=>Sg.cut 1 Jg (bf rn Zv [⟨[],[0],[2]⟩]) (fun ⟨b5,l6,a7,i9⟩=>bf rn kb [⟨[],[0],[2]⟩])))
    (fun x=>by cases x with | r0 b10 l11 a12 i13=>exact jR [.agg [.bool false b10,.imm .free (.ns .u64 l11) 1 1 0 a12,.int .i64 i13]])
def wi:Option fa→Bool
  | some _=>true
  | none=>false
def xN:Option fa→Bool
  | some (.r0 x _ _ _)=>x
  | _=>false
def xO:Option fa→List Int
  | some (.r0 _ x _ _)=>x
  | _=>[]
def xP:Option fa→Nat
  | some (.r0 _ _ x _)=>x
  | _=>0
def xQ:Option fa→Int
  | some (.r0 _ _ _ x)=>x
  | _=>0
theorem Zy{x:Option fa}(h:wi x=true) :x=some (.r0 (xN x) (xO x) (xP x) (xQ x)):=by
  unfold wi at h
  split at h<;>first | rfl | (cases h;done) | (rename_i y;cases y;rfl)
noncomputable def M4:ax:=bx Dw (.cons (.int .u64) .nil) fun t=>(fun q=>[⟨EM (.r0 (xN q) (xO q) (xP q) (xQ q)),[wi q]⟩]) (kU t.1)
theorem RL:aI prog M4:=aE fun t=>(aF (fun h=>Zx t.1 (Zy h)) aQ)
noncomputable def M5:List ax:=M4::M2
theorem xR:aJ prog (aG M5):=aj RL rn
inductive eN where
  | r0 (b5:Bool) (l6:List Int) (a7:Nat) (i9:Int)
def Ji:eN→AE×aC
  | .r0 b5 l6 a7 i9=>(.ret,⟨ae 6 [(2,.ptr 0 1 0 0)],[(0,.vs [.bool false b5,.imm .free (.ns .u64 l6) 1 1 0 a7,.int .i64 i9])],1⟩)
theorem VJ:jm Ji:=by intro x;cases x<;>(intro h;cases h)
def Ch:eN→fU
  | .r0 b5 l6 a7 i9=>⟨.agg [.bool false b5,.imm .free (.ns .u64 l6) 1 1 0 a7,.int .i64 i9],[]⟩
def VK:Bool×(List Int)×Nat×Int→aC:=fun (b1,l2,a3,i4)=>⟨ae 6 [(2,.ptr 0 1 0 0)],[(0,.vs [.bool false b1,.imm .free (.ns .u64 l2) 1 1 0 a3,.int .i64 i4])],1⟩
def G9(x_0:Nat) :T ((Bool×(List Int)×Nat×Int)⊕(eN)) :=
  .alt 0
    (.need (!isNaN x_0)<|.need (wi (kU ((x_0:Nat):Int)))<|.leaf (.inl ((xN (kU ((x_0:Nat):Int))),(xO (kU ((x_0:Nat):Int))),(xP (kU ((x_0:Nat):Int))),(xQ (kU ((x_0:Nat):Int))))))
    (.fail)
def VL(b1:Bool)(l2:List Int)(a3:Nat)(i4:Int) :T ((Empty)⊕(eN)) :=
  .leaf (.inr (.r0 b1 l2 a3 i4))
noncomputable def ag(x_0:Nat) :Option eN:=jP (aB ((G9 x_0).run) fun (b1,l2,a3,i4) =>
  (VL b1 l2 a3 i4).run)
theorem VM(x_0:Nat){x:eN}(h:ag x_0=some x) :ai prog Iv [] [.flt false x_0] (Ch x) :=
  kh false Ch Ji h (Sg.cut 2 VJ (bf xR VK [⟨[],[0],[2]⟩]) (fun ⟨b1,l2,a3,i4⟩=>bf xR kb [⟨[],[0],[2]⟩]))
    (fun x=>by cases x with | r0 b5 l6 a7 i9=>exact jR [.agg [.bool false b5,.imm .free (.ns .u64 l6) 1 1 0 a7,.int .i64 i9]])
def jU:Option eN→Bool
  | some _=>true
  | none=>false
def aZ:Option eN→Bool
  | some (.r0 x _ _ _)=>x
  | _=>false
def aS:Option eN→List Int
  | some (.r0 _ x _ _)=>x
  | _=>[]
def aT:Option eN→Nat
  | some (.r0 _ _ x _)=>x
  | _=>0
def ba:Option eN→Int
  | some (.r0 _ _ _ x)=>x
  | _=>0
theorem VN{x:Option eN}(h:jU x=true) :x=some (.r0 (aZ x) (aS x) (aT x) (ba x)):=by
  unfold jU at h
  split at h<;>first | rfl | (cases h;done) | (rename_i y;cases y;rfl)
noncomputable def Jj:ax:=bx Iv (.cons (.flt false) .nil) fun t=>(fun q=>[⟨Ch (.r0 (aZ q) (aS q) (aT q) (ba q)),[jU q]⟩]) (ag t.1)
theorem OR:aI prog Jj:=aE fun t=>(aF (fun h=>VM t.1 (VN h)) aQ)
noncomputable def Jk:List ax:=Jj::M5
theorem lT:aJ prog (aG Jk):=aj OR xR
inductive gi where
  | r0 (b7:Bool)
def Bn:gi→AE×aC
  | .r0 b7=>(.ret,⟨ae 20 [(2,.bool false b7)],[],0⟩)
theorem yO:jm Bn:=by intro x;cases x<;>(intro h;cases h)
theorem aer(id:Nat) :lD id Bn:=by intro x;cases x<;>(intro h;cases h)
def Ha:gi→fU
  | .r0 b7=>⟨.bool false b7,[]⟩
noncomputable def Zz:List Code:=cp (md AP)
def aes(v_0:Lv)(a_1:List Int)(_:Unit) :aC:=⟨ae 20 [(0,.imm v_0 (.ns .u64 a_1) 1 1 0 (List.length a_1)),(3,.int .i64 (((List.length a_1):Nat):Int))],[],0⟩
def ZA:T ((Unit)⊕(gi)) :=
  .leaf (.inl ())
def yP(v_0:Lv)(a_1:List Int)(n4:Int) :aC:=⟨ae 20 [(0,.imm v_0 (.ns .u64 a_1) 1 1 0 (List.length a_1)),(3,.int .i64 n4)],[],0⟩
def M6(n6:Int) :aC:=⟨ae 20 [(3,.int .i64 n6)],[],0⟩
noncomputable def ZB:List Code:=cp (dg ((((Zz.drop 2).take 1)).headD .skip))
def aet(v_0:Lv)(a_1:List Int)(n4:Int)(b5:Bool) :aC:=⟨ae 20 [(0,.imm v_0 (.ns .u64 a_1) 1 1 0 (List.length a_1)),(3,.int .i64 n4),(15,.bool false b5)],[],0⟩
def qG(a_1:List Int)(n4:Int) :T ((Bool)⊕((Int)⊕(gi))) :=
  .ask (decide (n4>(0:Int)))
    (.need (cV .i64 (n4-(1:Int)))<|.need (fp (n4-(1:Int)) (List.length a_1))<|.need (fO (Int.toNat (n4-(1:Int))) (List.length a_1))<|.leaf (.inl ((List.getD a_1 (Int.toNat (n4-(1:Int))) 0)==(0:Int))))
    (.leaf (.inl false))
def Jl(n4:Int)(b5:Bool) :T ((Int)⊕((Int)⊕(gi))) :=
  .ask b5
    (.need (cV .i64 (n4-(1:Int)))<|.leaf (.inl (n4-(1:Int))))
    (.leaf (.inr (.inl n4)))
noncomputable def Ci(a_1:List Int) :Int→Option ((Int)⊕((Int)⊕(gi))):=fun n4 =>
  aB ((qG a_1 n4).run) fun b5 =>
  (Jl n4 b5).run
theorem ZC(v_0:Lv)(a_1:List Int)(n4:Int) :Sg prog [] ZB (yP v_0 a_1 n4) (Ci a_1 n4) (yP v_0 a_1) (cN 0 M6 Bn):=by
  unfold Ci;exact Sg.cut 1 (aW yO) (bf lT (aet v_0 a_1 n4) [⟨[],[],[0,3,15]⟩,⟨[],[],[0,3,15]⟩]) (fun b5=>bf lT (yP v_0 a_1) [⟨[],[],[0,3]⟩,⟨[],[],[3]⟩])
def ZD(n6:Int) :T ((Empty)⊕(gi)) :=
  .leaf (.inr (.r0 (decide (n6≤(4096:Int)))))
noncomputable def wQ(a_1:List Int) :Option gi:=jP (aB ((ZA).run) fun _ =>
  aB (cU (Ci a_1) (((List.length a_1):Nat):Int)) fun n6 =>
  (ZD n6).run)
theorem aeu(v_0:Lv)(a_1:List Int){x:gi}(h:wQ a_1=some x) :ai prog AP [] [.imm v_0 (.ns .u64 a_1) 1 1 0 (List.length a_1)] (Ha x) :=
  kh true Ha Bn h (Sg.cut 2 yO (bf lT (aes v_0 a_1) [⟨[],[],[0,3]⟩]) (fun _=>Sg.cut 1 yO (DG ⟨[],[],[0,3]⟩ (yP v_0 a_1) (M6) 0 yO (aer _) (fun n4=>ZC v_0 a_1 n4)) (fun n6=>bf lT kb [⟨[],[],[2]⟩])))
    (fun x=>by cases x with | r0 b7=>exact jR [.bool false b7])
def yQ:Option gi→Bool
  | some _=>true
  | none=>false
def An:Option gi→Bool
  | some (.r0 x)=>x
  | _=>false
theorem aev{x:Option gi}(h:yQ x=true) :x=some (.r0 (An x)):=by
  unfold yQ at h
  split at h<;>first | rfl | (cases h;done) | (rename_i y;cases y;rfl)
noncomputable def Qa:ax:=bx AP (.cons (.ns .u64) .nil) fun t=>(fun q=>[⟨Ha (.r0 (An q)),[yQ q]⟩]) (wQ t.1.2)
theorem VO:aI prog Qa:=aE fun t=>(aF (fun h=>aeu t.1.1 t.1.2 (aev h)) aQ)
noncomputable def Qb:List ax:=Qa::Jk
theorem Ao:aJ prog (aG Qb):=aj VO lT
inductive kV where
  | r0 (b2:Bool)
def Qc:kV→AE×aC
  | .r0 b2=>(.ret,⟨ae 16 [(2,.bool false b2)],[],0⟩)
theorem aew:jm Qc:=by intro x;cases x<;>(intro h;cases h)
def Hb:kV→fU
  | .r0 b2=>⟨.bool false b2,[]⟩
def aex(b1:Bool) :aC:=⟨ae 16 [(2,.bool false b1)],[],0⟩
def M7(d_2:List Int)(d_3:Int) :T ((Bool)⊕(kV)) :=
  .need (aK 0 (List.length d_2) d_2)<|.need (yQ (wQ (aa 0 (List.length d_2) d_2)))<|.ask (An (wQ (aa 0 (List.length d_2) d_2)))
    (.ask (decide (d_3≥(-262144:Int)))
      (.leaf (.inl (decide (d_3≤(262144:Int)))))
      (.leaf (.inl false)))
    (.leaf (.inl false))
def aey(b1:Bool) :T ((Empty)⊕(kV)) :=
  .leaf (.inr (.r0 b1))
noncomputable def fw(d_2:List Int)(d_3:Int) :Option kV:=jP (aB ((M7 d_2 d_3).run) fun b1 =>
  (aey b1).run)
theorem aez(d_0:Bool)(v_1:Lv)(d_2:List Int)(d_3:Int){x:kV}(h:fw d_2 d_3=some x) :ai prog F6 [] [.agg [.bool false d_0,.imm v_1 (.ns .u64 d_2) 1 1 0 (List.length d_2),.int .i64 d_3]] (Hb x) :=
  kh true Hb Qc h (Sg.cut 2 aew (bf Ao aex [⟨[],[],[2]⟩,⟨[],[],[2]⟩,⟨[],[],[2]⟩]) (fun b1=>bf Ao kb [⟨[],[],[2]⟩]))
    (fun x=>by cases x with | r0 b2=>exact jR [.bool false b2])
def kW:Option kV→Bool
  | some _=>true
  | none=>false
def jV:Option kV→Bool
  | some (.r0 x)=>x
  | _=>false
theorem aeA{x:Option kV}(h:kW x=true) :x=some (.r0 (jV x)):=by
  unfold kW at h
  split at h<;>first | rfl | (cases h;done) | (rename_i y;cases y;rfl)
noncomputable def Qd:ax:=bx F6 (.cons (.agg (.cons .bool (.cons (.ns .u64) (.cons (.int .i64) .nil)))) .nil) fun t=>(fun q=>[⟨Hb (.r0 (jV q)),[kW q]⟩]) (fw t.1.2.1.2 t.1.2.2.1)
theorem VP:aI prog Qd:=aE fun t=>(aF (fun h=>aez t.1.1 t.1.2.1.1 t.1.2.1.2 t.1.2.2.1 (aeA h)) aQ)
noncomputable def Qe:List ax:=Qd::Qb
theorem tm:aJ prog (aG Qe):=aj VP Ao
inductive gj where
  | r0 (a9:Nat) (a10:Nat) (l11:List Int)
def Bo:gj→AE×aC
  | .r0 a9 a10 l11=>(.ret,⟨ae 25 [(2,.sl 0 1 1 0 a9 a10)],[(0,.ns .u64 l11)],1⟩)
theorem EN:jm Bo:=by intro x;cases x<;>(intro h;cases h)
theorem aeB(id:Nat) :lD id Bo:=by intro x;cases x<;>(intro h;cases h)
def Hc:gj→fU
  | .r0 a9 a10 l11=>⟨.imm .free (.ns .u64 l11) 1 1 0 a9,[]⟩
noncomputable def aeC:List Code:=cp (md AR)
def aeD(v_0:Lv)(a_1:List Int)(_:Unit) :aC:=⟨ae 25 [(0,.imm v_0 (.ns .u64 a_1) 1 1 0 (List.length a_1)),(3,.nsl),(4,.int .i64 (0:Int))],[],0⟩
def aeE:T ((Unit)⊕(gj)) :=
  .leaf (.inl ())
def yR(v_0:Lv)(a_1:List Int) :Nat×Nat×Nat×(List Int)→aC:=fun (d2,d3,i4,l5)=>⟨ae 25 [(0,.imm v_0 (.ns .u64 a_1) 1 1 0 (List.length a_1)),(3,.sl 0 1 1 0 d2 d3),(4,.int .i64 ((i4:Nat):Int))],[(0,.ns .u64 l5)],1⟩
def M8:Nat×Nat×(List Int)→aC:=fun (d6,d7,l8)=>⟨ae 25 [(3,.sl 0 1 1 0 d6 d7)],[(0,.ns .u64 l8)],1⟩
noncomputable def aeF:List Code:=cp (dg ((((aeC.drop 3).take 1)).headD .skip))
def wj(a_1:List Int)(d2:Nat)(d3:Nat)(i4:Nat)(l5:List Int) :T ((Nat×Nat×Nat×(List Int))⊕((Nat×Nat×(List Int))⊕(gj))) :=
  .ask (decide (((i4:Nat):Int)<(((List.length a_1):Nat):Int)))
    (.need (fp ((i4:Nat):Int) (List.length a_1))<|.need (fO i4 (List.length a_1))<|.need ((4294967296:Int) != (0:Int))<|.need (fp ((i4:Nat):Int) (List.length a_1))<|.need (fO i4 (List.length a_1))<|.need ((4294967296:Int) != (0:Int))<|.need (mQ ((d2+2)*8) 140737488355328)<|.need (mQ (d2+2) 9223372036854775807)<|.need (mQ 2 (List.length [(Int.tmod (List.getD a_1 i4 0) (4294967296:Int)),(IntKind.u64.wrap (Int.tdiv (List.getD a_1 i4 0) (4294967296:Int)))]))<|.need (mQ d2 (List.length l5))<|.need (cV .i64 (((i4+1):Nat):Int))<|.leaf (.inl ((d2+2),(d2+2),(i4+1),((List.take d2 l5)++(List.take 2 [(Int.tmod (List.getD a_1 i4 0) (4294967296:Int)),(IntKind.u64.wrap (Int.tdiv (List.getD a_1 i4 0) (4294967296:Int)))])))))
    (.leaf (.inr (.inl (d2,d3,l5))))
noncomputable def Cj(a_1:List Int) :Nat×Nat×Nat×(List Int)→Option ((Nat×Nat×Nat×(List Int))⊕((Nat×Nat×(List Int))⊕(gj))):=fun (d2,d3,i4,l5) =>
  (wj a_1 d2 d3 i4 l5).run
theorem ZE(v_0:Lv)(a_1:List Int)(d2:Nat)(d3:Nat)(i4:Nat)(l5:List Int) :Sg prog [] aeF (yR v_0 a_1 (d2,d3,i4,l5)) (Cj a_1 (d2,d3,i4,l5)) (yR v_0 a_1) (cN 0 M8 Bo):=by
  unfold Cj;exact bf tm (yR v_0 a_1) [⟨[],[257],[0,3,4]⟩,⟨[],[0],[3]⟩]
def ZF(d6:Nat)(d7:Nat)(l8:List Int) :T ((Empty)⊕(gj)) :=
  .leaf (.inr (.r0 d6 d7 l8))
noncomputable def kX(a_1:List Int) :Option gj:=jP (aB ((aeE).run) fun _ =>
  aB (cU (Cj a_1) (0,0,0,([]:List Int))) fun (d6,d7,l8) =>
  (ZF d6 d7 l8).run)
theorem aeG(v_0:Lv)(a_1:List Int){x:gj}(h:kX a_1=some x) :ai prog AR [] [.imm v_0 (.ns .u64 a_1) 1 1 0 (List.length a_1)] (Hc x) :=
  kh true Hc Bo h (Sg.cut 3 EN (bf tm (aeD v_0 a_1) [⟨[],[],[0,3,4]⟩]) (fun _=>Sg.cut 1 EN (DG ⟨[(.slot 3,.own 1 1 (.ns .u64 ([]:List Int)))],[0],[0,3,4]⟩ (yR v_0 a_1) (M8) 0 EN (aeB _) (fun ⟨d2,d3,i4,l5⟩=>ZE v_0 a_1 d2 d3 i4 l5)) (fun ⟨d6,d7,l8⟩=>bf tm kb [⟨[],[0],[2]⟩])))
    (fun x=>by cases x with | r0 a9 a10 l11=>exact jR [.sl 0 1 1 0 a9 a10])
def tn:Option gj→Bool
  | some _=>true
  | none=>false
def tp:Option gj→Nat
  | some (.r0 x _ _)=>x
  | _=>0
def Hd:Option gj→Nat
  | some (.r0 _ x _)=>x
  | _=>0
def tq:Option gj→List Int
  | some (.r0 _ _ x)=>x
  | _=>[]
theorem aeH{x:Option gj}(h:tn x=true) :x=some (.r0 (tp x) (Hd x) (tq x)):=by
  unfold tn at h
  split at h<;>first | rfl | (cases h;done) | (rename_i y;cases y;rfl)
noncomputable def Qf:ax:=bx AR (.cons (.ns .u64) .nil) fun t=>(fun q=>[⟨Hc (.r0 (tp q) (Hd q) (tq q)),[tn q]⟩]) (kX t.1.2)
theorem VQ:aI prog Qf:=aE fun t=>(aF (fun h=>aeG t.1.1 t.1.2 (aeH h)) aQ)
noncomputable def Qg:List ax:=Qf::Qe
theorem lU:aJ prog (aG Qg):=aj VQ tm
inductive eh where
  | r0 (l15:List Int) (a16:Nat)
def yS:eh→AE×aC
  | .r0 l15 a16=>(.ret,⟨ae 35 [(2,.imm .free (.ns .u64 l15) 1 1 0 a16)],[],0⟩)
theorem qH:jm yS:=by intro x;cases x<;>(intro h;cases h)
theorem ZG(id:Nat) :lD id yS:=by intro x;cases x<;>(intro h;cases h)
def EO:eh→fU
  | .r0 l15 a16=>⟨.imm .free (.ns .u64 l15) 1 1 0 a16,[]⟩
noncomputable def VS:List Code:=cp (md yp)
def ZH(v_0:Lv)(d_1:List Int)(_:Unit) :aC:=⟨ae 35 [(0,.imm v_0 (.ns .u64 d_1) 1 1 0 (List.length d_1)),(3,.nsl),(4,.int .i64 (0:Int))],[],0⟩
def VT:T ((Unit)⊕(eh)) :=
  .leaf (.inl ())
def wk(v_0:Lv)(d_1:List Int) :Nat×Nat×Nat×(List Int)→aC:=fun (a4,a5,i6,l7)=>⟨ae 35 [(0,.imm v_0 (.ns .u64 d_1) 1 1 0 (List.length d_1)),(3,.sl 0 1 1 0 a4 a5),(4,.int .i64 ((i6:Nat):Int))],[(0,.ns .u64 l7)],1⟩
def Jm:Nat×Nat×(List Int)→aC:=fun (a10,a11,l12)=>⟨ae 35 [(3,.sl 0 1 1 0 a10 a11)],[(0,.ns .u64 l12)],1⟩
noncomputable def VU:List Code:=cp (dg ((((VS.drop 3).take 1)).headD .skip))
def ZI(v_0:Lv)(d_1:List Int)(i6:Nat) :Nat×(List Int)→aC:=fun (a8,l9)=>⟨ae 35 [(0,.imm v_0 (.ns .u64 d_1) 1 1 0 (List.length d_1)),(3,.sl 0 1 1 0 a8 a8),(4,.int .i64 ((i6:Nat):Int))],[(0,.ns .u64 l9)],1⟩
def tr(d_1:List Int)(a4:Nat)(a5:Nat)(i6:Nat)(l7:List Int) :T ((Nat×(List Int))⊕((Nat×Nat×(List Int))⊕(eh))) :=
  .ask (decide (((i6:Nat):Int)<(((List.length d_1):Nat):Int)))
    (.need (fp ((i6:Nat):Int) (List.length d_1))<|.need (fO i6 (List.length d_1))<|.need (cV .i64 (((i6+1):Nat):Int))<|.ask (decide ((((i6+1):Nat):Int)<(((List.length d_1):Nat):Int)))
      (.need (cV .i64 (((i6+1):Nat):Int))<|.need (fp (((i6+1):Nat):Int) (List.length d_1))<|.need (fO (i6+1) (List.length d_1))<|.need (mQ ((a4+1)*8) 140737488355328)<|.need (mQ (a4+1) 9223372036854775807)<|.need (mQ 1 (List.length [(IntKind.u64.wrap ((List.getD d_1 i6 0)+(IntKind.u64.wrap ((List.getD d_1 (i6+1) 0)*(4294967296:Int)))))]))<|.need (mQ a4 (List.length l7))<|.leaf (.inl ((a4+1),((List.take a4 l7)++(List.take 1 [(IntKind.u64.wrap ((List.getD d_1 i6 0)+(IntKind.u64.wrap ((List.getD d_1 (i6+1) 0)*(4294967296:Int)))))])))))
      (.need (mQ ((a4+1)*8) 140737488355328)<|.need (mQ (a4+1) 9223372036854775807)<|.need (mQ 1 (List.length [(List.getD d_1 i6 0)]))<|.need (mQ a4 (List.length l7))<|.leaf (.inl ((a4+1),((List.take a4 l7)++(List.take 1 [(List.getD d_1 i6 0)]))))))
    (.leaf (.inr (.inl (a4,a5,l7))))
def VV(i6:Nat)(a8:Nat)(l9:List Int) :T ((Nat×Nat×Nat×(List Int))⊕((Nat×Nat×(List Int))⊕(eh))) :=
  .need (cV .i64 (((i6+2):Nat):Int))<|.leaf (.inl (a8,a8,(i6+2),l9))
noncomputable def Ap(d_1:List Int) :Nat×Nat×Nat×(List Int)→Option ((Nat×Nat×Nat×(List Int))⊕((Nat×Nat×(List Int))⊕(eh))):=fun (a4,a5,i6,l7) =>
  aB ((tr d_1 a4 a5 i6 l7).run) fun (a8,l9) =>
  (VV i6 a8 l9).run
theorem VW(v_0:Lv)(d_1:List Int)(a4:Nat)(a5:Nat)(i6:Nat)(l7:List Int) :Sg prog [] VU (wk v_0 d_1 (a4,a5,i6,l7)) (Ap d_1 (a4,a5,i6,l7)) (wk v_0 d_1) (cN 0 Jm yS):=by
  unfold Ap;exact Sg.cut 3 (aW qH) (bf lU (ZI v_0 d_1 i6) [⟨[],[417],[0,3,4]⟩,⟨[],[273],[0,3,4]⟩,⟨[],[0],[3]⟩]) (fun ⟨a8,l9⟩=>bf lU (wk v_0 d_1) [⟨[],[0],[0,3,4]⟩])
def VX:(List Int)×Nat→aC:=fun (l13,a14)=>⟨ae 35 [(2,.imm .free (.ns .u64 l13) 1 1 0 a14)],[],0⟩
def Aq(a10:Nat)(l12:List Int) :T (((List Int)×Nat)⊕(eh)) :=
  .need (aK 0 a10 l12)<|.need (iL (bY (aa 0 a10 l12)))<|.leaf (.inl ((gZ (bY (aa 0 a10 l12))),(gY (bY (aa 0 a10 l12)))))
def VY(l13:List Int)(a14:Nat) :T ((Empty)⊕(eh)) :=
  .leaf (.inr (.r0 l13 a14))
noncomputable def pq(d_1:List Int) :Option eh:=jP (aB ((VT).run) fun _ =>
  aB (cU (Ap d_1) (0,0,0,([]:List Int))) fun (a10,a11,l12) =>
  aB ((Aq a10 l12).run) fun (l13,a14) =>
  (VY l13 a14).run)
theorem ZJ(v_0:Lv)(d_1:List Int){x:eh}(h:pq d_1=some x) :ai prog yp [] [.imm v_0 (.ns .u64 d_1) 1 1 0 (List.length d_1)] (EO x) :=
  kh true EO yS h (Sg.cut 3 qH (bf lU (ZH v_0 d_1) [⟨[],[],[0,3,4]⟩]) (fun _=>Sg.cut 1 qH (DG ⟨[(.slot 3,.own 1 1 (.ns .u64 ([]:List Int)))],[0],[0,3,4]⟩ (wk v_0 d_1) (Jm) 0 qH (ZG _) (fun ⟨a4,a5,i6,l7⟩=>VW v_0 d_1 a4 a5 i6 l7)) (fun ⟨a10,a11,l12⟩=>Sg.cut 1 qH (bf lU VX [⟨[],[],[2]⟩]) (fun ⟨l13,a14⟩=>bf lU kb [⟨[],[],[2]⟩]))))
    (fun x=>by cases x with | r0 l15 a16=>exact jR [.imm .free (.ns .u64 l15) 1 1 0 a16])
def wl:Option eh→Bool
  | some _=>true
  | none=>false
def xS:Option eh→List Int
  | some (.r0 x _)=>x
  | _=>[]
def xT:Option eh→Nat
  | some (.r0 _ x)=>x
  | _=>0
theorem ZK{x:Option eh}(h:wl x=true) :x=some (.r0 (xS x) (xT x)):=by
  unfold wl at h
  split at h<;>first | rfl | (cases h;done) | (rename_i y;cases y;rfl)
noncomputable def M9:ax:=bx yp (.cons (.ns .u64) .nil) fun t=>(fun q=>[⟨EO (.r0 (xS q) (xT q)),[wl q]⟩]) (pq t.1.2)
theorem RM:aI prog M9:=aE fun t=>(aF (fun h=>ZJ t.1.1 t.1.2 (ZK h)) aQ)
noncomputable def Na:List ax:=M9::Qg
theorem eO:aJ prog (aG Na):=aj RM lU
inductive cS where
  | r0 (l31:List Int) (a32:Nat)
def wR:cS→AE×aC
  | .r0 l31 a32=>(.ret,⟨ae 71 [(4,.imm .free (.ns .u64 l31) 1 1 0 a32)],[],0⟩)
theorem gT:jm wR:=by intro x;cases x<;>(intro h;cases h)
theorem EP(id:Nat) :lD id wR:=by intro x;cases x<;>(intro h;cases h)
def He:cS→fU
  | .r0 l31 a32=>⟨.imm .free (.ns .u64 l31) 1 1 0 a32,[]⟩
noncomputable def ZL:List Code:=cp (md AJ)
def aeI:(List Int)×Nat×(List Int)×Nat→aC:=fun (x1,x2,y3,y4)=>⟨ae 71 [(5,.imm .free (.ns .u64 x1) 1 1 0 x2),(6,.imm .free (.ns .u64 y3) 1 1 0 y4)],[],0⟩
def Jn(a_1:List Int)(b_3:List Int) :T (((List Int)×Nat×(List Int)×Nat)⊕(cS)) :=
  .need (aK 0 (List.length a_1) a_1)<|.need (tn (kX (aa 0 (List.length a_1) a_1)))<|.need (aK 0 (List.length b_3) b_3)<|.need (tn (kX (aa 0 (List.length b_3) b_3)))<|.leaf (.inl ((tq (kX (aa 0 (List.length a_1) a_1))),(tp (kX (aa 0 (List.length a_1) a_1))),(tq (kX (aa 0 (List.length b_3) b_3))),(tp (kX (aa 0 (List.length b_3) b_3)))))
def aeJ(x1:List Int)(x2:Nat)(y3:List Int)(y4:Nat) :Nat×(List Int)→aC:=fun (o5,l6)=>⟨ae 71 [(5,.imm .free (.ns .u64 x1) 1 1 0 x2),(6,.imm .free (.ns .u64 y3) 1 1 0 y4),(7,.sl 0 1 1 0 o5 o5),(8,.int .i64 (0:Int))],[(0,.ns .u64 l6)],1⟩
def Ck(x2:Nat)(y4:Nat) :T ((Nat×(List Int))⊕(cS)) :=
  .need (cV .i64 (((x2+y4):Nat):Int))<|.need (cV .i64 ((((x2+y4)+1):Nat):Int))<|.need (decide ((0:Int)≤((((x2+y4)+1):Nat):Int)))<|.need (decide (((((x2+y4)+1):Nat):Int)≤((((x2+y4)+1):Nat):Int)))<|.need (decide ((8:Int)*((((x2+y4)+1):Nat):Int)≤140737488355328))<|.need (cV .i64 ((((x2+y4)+1):Nat):Int))<|.leaf (.inl (((x2+y4)+1),(List.replicate ((x2+y4)+1) (0:Int))))
def wn(x1:List Int)(x2:Nat)(y3:List Int)(y4:Nat)(o5:Nat) :Nat×(List Int)→aC:=fun (i17,l18)=>⟨ae 71 [(5,.imm .free (.ns .u64 x1) 1 1 0 x2),(6,.imm .free (.ns .u64 y3) 1 1 0 y4),(7,.sl 0 1 1 0 o5 o5),(8,.int .i64 ((i17:Nat):Int))],[(0,.ns .u64 l18)],1⟩
def Cl(o5:Nat)(l28:(List Int)) :aC:=⟨ae 71 [(7,.sl 0 1 1 0 o5 o5)],[(0,.ns .u64 l28)],1⟩
noncomputable def Jo:List Code:=cp (dg (((((ZL.drop 2).drop 2).take 1)).headD .skip))
def ZM(x1:List Int)(x2:Nat)(y3:List Int)(y4:Nat)(o5:Nat)(i17:Nat)(l18:List Int)(_:Unit) :aC:=⟨ae 71 [(5,.imm .free (.ns .u64 x1) 1 1 0 x2),(6,.imm .free (.ns .u64 y3) 1 1 0 y4),(7,.sl 0 1 1 0 o5 o5),(8,.int .i64 ((i17:Nat):Int))],[(0,.ns .u64 l18)],1⟩
def Cm(x2:Nat)(i17:Nat)(l18:List Int) :T ((Unit)⊕(((List Int))⊕(cS))) :=
  .ask (decide (((i17:Nat):Int)<((x2:Nat):Int)))
    (.leaf (.inl ()))
    (.leaf (.inr (.inl l18)))
def Cn(x1:List Int)(x2:Nat)(y3:List Int)(y4:Nat)(o5:Nat)(i17:Nat)(l27:(List Int)) :aC:=⟨ae 71 [(5,.imm .free (.ns .u64 x1) 1 1 0 x2),(6,.imm .free (.ns .u64 y3) 1 1 0 y4),(7,.sl 0 1 1 0 o5 o5),(8,.int .i64 ((i17:Nat):Int))],[(0,.ns .u64 l27)],1⟩
noncomputable def ZN:List Code:=cp (inBlock ((((Jo.drop 2).take 1)).headD .skip))
def ZO(x1:List Int)(x2:Nat)(y3:List Int)(y4:Nat)(o5:Nat)(i17:Nat)(l18:List Int)(_:Unit) :aC:=⟨ae 71 [(5,.imm .free (.ns .u64 x1) 1 1 0 x2),(6,.imm .free (.ns .u64 y3) 1 1 0 y4),(7,.sl 0 1 1 0 o5 o5),(8,.int .i64 ((i17:Nat):Int)),(9,.int .u64 (0:Int)),(10,.int .i64 (0:Int))],[(0,.ns .u64 l18)],1⟩
def ZP:T ((Unit)⊕(((List Int))⊕(((List Int))⊕(cS)))) :=
  .leaf (.inl ())
def wo(x1:List Int)(x2:Nat)(y3:List Int)(y4:Nat)(o5:Nat)(i17:Nat) :Int×Nat×(List Int)→aC:=fun (carry22,k23,l24)=>⟨ae 71 [(5,.imm .free (.ns .u64 x1) 1 1 0 x2),(6,.imm .free (.ns .u64 y3) 1 1 0 y4),(7,.sl 0 1 1 0 o5 o5),(8,.int .i64 ((i17:Nat):Int)),(9,.int .u64 carry22),(10,.int .i64 ((k23:Nat):Int))],[(0,.ns .u64 l24)],1⟩
def Jp(x1:List Int)(x2:Nat)(y3:List Int)(y4:Nat)(o5:Nat)(i17:Nat) :Int×(List Int)→aC:=fun (carry25,l26)=>⟨ae 71 [(5,.imm .free (.ns .u64 x1) 1 1 0 x2),(6,.imm .free (.ns .u64 y3) 1 1 0 y4),(7,.sl 0 1 1 0 o5 o5),(8,.int .i64 ((i17:Nat):Int)),(9,.int .u64 carry25)],[(0,.ns .u64 l26)],1⟩
noncomputable def ZQ:List Code:=cp (dg ((((ZN.drop 2).take 1)).headD .skip))
def wq(x1:List Int)(x2:Nat)(y3:List Int)(y4:Nat)(o5:Nat)(i17:Nat)(carry22:Int)(k23:Nat)(l24:List Int) :T ((Int×Nat×(List Int))⊕((Int×(List Int))⊕(((List Int))⊕(((List Int))⊕(cS))))) :=
  .ask (decide (((k23:Nat):Int)<((y4:Nat):Int)))
    (.need (cV .i64 (((i17+k23):Nat):Int))<|.need (fp (((i17+k23):Nat):Int) o5)<|.need (fO (i17+k23) (List.length l24))<|.need (fp ((i17:Nat):Int) x2)<|.need (fO i17 (List.length x1))<|.need (fp ((k23:Nat):Int) y4)<|.need (fO k23 (List.length y3))<|.need (cV .i64 (((i17+k23):Nat):Int))<|.need ((4294967296:Int) != (0:Int))<|.need (fp (((i17+k23):Nat):Int) o5)<|.need (fO (i17+k23) (List.length l24))<|.need ((4294967296:Int) != (0:Int))<|.need (cV .i64 (((k23+1):Nat):Int))<|.leaf (.inl ((IntKind.u64.wrap (Int.tdiv (IntKind.u64.wrap ((IntKind.u64.wrap ((List.getD l24 (i17+k23) 0)+(IntKind.u64.wrap ((List.getD x1 i17 0)*(List.getD y3 k23 0)))))+carry22)) (4294967296:Int))),(k23+1),(List.set l24 (i17+k23) (Int.tmod (IntKind.u64.wrap ((IntKind.u64.wrap ((List.getD l24 (i17+k23) 0)+(IntKind.u64.wrap ((List.getD x1 i17 0)*(List.getD y3 k23 0)))))+carry22)) (4294967296:Int))))))
    (.leaf (.inr (.inl (carry22,l24))))
noncomputable def Co(x1:List Int)(x2:Nat)(y3:List Int)(y4:Nat)(o5:Nat)(i17:Nat) :Int×Nat×(List Int)→Option ((Int×Nat×(List Int))⊕((Int×(List Int))⊕(((List Int))⊕(((List Int))⊕(cS))))):=fun (carry22,k23,l24) =>
  (wq x1 x2 y3 y4 o5 i17 carry22 k23 l24).run
theorem ZR(x1:List Int)(x2:Nat)(y3:List Int)(y4:Nat)(o5:Nat)(i17:Nat)(carry22:Int)(k23:Nat)(l24:List Int) :Sg prog [] ZQ (wo x1 x2 y3 y4 o5 i17 (carry22,k23,l24)) (Co x1 x2 y3 y4 o5 i17 (carry22,k23,l24)) (wo x1 x2 y3 y4 o5 i17) (cN 2 (Jp x1 x2 y3 y4 o5 i17) (cN 1 (Cn x1 x2 y3 y4 o5 i17) (cN 0 (Cl o5) wR))):=by
  unfold Co;exact bf eO (wo x1 x2 y3 y4 o5 i17) [⟨[],[0],[5,6,7,8,9,10]⟩,⟨[],[0],[5,6,7,8,9]⟩]
def Cp(y4:Nat)(o5:Nat)(i17:Nat)(carry25:Int)(l26:List Int) :T (((List Int))⊕(((List Int))⊕(((List Int))⊕(cS)))) :=
  .need (cV .i64 (((i17+y4):Nat):Int))<|.need (fp (((i17+y4):Nat):Int) o5)<|.need (fO (i17+y4) (List.length l26))<|.leaf (.inl (List.set l26 (i17+y4) carry25))
def ZS(i17:Nat)(l27:List Int) :T ((Nat×(List Int))⊕(((List Int))⊕(cS))) :=
  .need (cV .i64 (((i17+1):Nat):Int))<|.leaf (.inl ((i17+1),l27))
noncomputable def Cq(x1:List Int)(x2:Nat)(y3:List Int)(y4:Nat)(o5:Nat) :Nat×(List Int)→Option ((Nat×(List Int))⊕(((List Int))⊕(cS))):=fun (i17,l18) =>
  aB ((Cm x2 i17 l18).run) fun _ =>
  aB (Lx (aB ((ZP).run) fun _ =>
  aB (cU (Co x1 x2 y3 y4 o5 i17) ((0:Int),0,l18)) fun (carry25,l26) =>
  (Cp y4 o5 i17 carry25 l26).run)) fun l27 =>
  (ZS i17 l27).run
theorem ZT(x1:List Int)(x2:Nat)(y3:List Int)(y4:Nat)(o5:Nat)(i17:Nat)(l18:List Int) :Sg prog [] Jo (wn x1 x2 y3 y4 o5 (i17,l18)) (Cq x1 x2 y3 y4 o5 (i17,l18)) (wn x1 x2 y3 y4 o5) (cN 0 (Cl o5) wR):=by
  unfold Cq;exact Sg.cut 2 (aW gT) (bf eO (ZM x1 x2 y3 y4 o5 i17 l18) [⟨[],[0],[5,6,7,8]⟩,⟨[],[0],[7]⟩]) (fun _=>Sg.cut 1 (aW gT) (sgb (Cn x1 x2 y3 y4 o5 i17) 1 (aW gT) (kp (by decide) (EP _)) (Sg.cut 2 (aW (aW gT)) (bf eO (ZO x1 x2 y3 y4 o5 i17 l18) [⟨[],[0],[5,6,7,8,9,10]⟩]) (fun _=>Sg.cut 1 (aW (aW gT)) (DG ⟨[],[0],[5,6,7,8,9,10]⟩ (wo x1 x2 y3 y4 o5 i17) (Jp x1 x2 y3 y4 o5 i17) 2 (aW (aW gT)) (kp (by decide) (kp (by decide) (EP _))) (fun ⟨carry22,k23,l24⟩=>ZR x1 x2 y3 y4 o5 i17 carry22 k23 l24)) (fun ⟨carry25,l26⟩=>bf eO (Cn x1 x2 y3 y4 o5 i17) [⟨[],[0],[5,6,7,8]⟩])))) (fun l27=>bf eO (wn x1 x2 y3 y4 o5) [⟨[],[0],[5,6,7,8]⟩]))
def ZU:(List Int)×Nat→aC:=fun (l29,a30)=>⟨ae 71 [(4,.imm .free (.ns .u64 l29) 1 1 0 a30)],[],0⟩
def Jq(o5:Nat)(l28:List Int) :T (((List Int)×Nat)⊕(cS)) :=
  .need (aK 0 o5 l28)<|.need (wl (pq (aa 0 o5 l28)))<|.leaf (.inl ((xS (pq (aa 0 o5 l28))),(xT (pq (aa 0 o5 l28)))))
def ZV(l29:List Int)(a30:Nat) :T ((Empty)⊕(cS)) :=
  .leaf (.inr (.r0 l29 a30))
noncomputable def cv(a_1:List Int)(b_3:List Int) :Option cS:=jP (aB ((Jn a_1 b_3).run) fun (x1,x2,y3,y4) =>
  aB ((Ck x2 y4).run) fun (o5,l6) =>
  aB (cU (Cq x1 x2 y3 y4 o5) (0,l6)) fun l28 =>
  aB ((Jq o5 l28).run) fun (l29,a30) =>
  (ZV l29 a30).run)
theorem aeK(v_0:Lv)(a_1:List Int)(v_2:Lv)(b_3:List Int){x:cS}(h:cv a_1 b_3=some x) :ai prog AJ [] [.imm v_0 (.ns .u64 a_1) 1 1 0 (List.length a_1),.imm v_2 (.ns .u64 b_3) 1 1 0 (List.length b_3)] (He x) :=
  kh true He wR h (Sg.cut 2 gT (bf eO aeI [⟨[],[],[5,6]⟩]) (fun ⟨x1,x2,y3,y4⟩=>Sg.cut 2 gT (bf eO (aeJ x1 x2 y3 y4) [⟨[],[96],[5,6,7,8]⟩]) (fun ⟨o5,l6⟩=>Sg.cut 1 gT (DG ⟨[],[0],[5,6,7,8]⟩ (wn x1 x2 y3 y4 o5) (Cl o5) 0 gT (EP _) (fun ⟨i17,l18⟩=>ZT x1 x2 y3 y4 o5 i17 l18)) (fun l28=>Sg.cut 1 gT (bf eO ZU [⟨[],[],[4]⟩]) (fun ⟨l29,a30⟩=>bf eO kb [⟨[],[],[4]⟩])))))
    (fun x=>by cases x with | r0 l31 a32=>exact jR [.imm .free (.ns .u64 l31) 1 1 0 a32])
def pt:Option cS→Bool
  | some _=>true
  | none=>false
def eG:Option cS→List Int
  | some (.r0 x _)=>x
  | _=>[]
def eH:Option cS→Nat
  | some (.r0 _ x)=>x
  | _=>0
theorem aeL{x:Option cS}(h:pt x=true) :x=some (.r0 (eG x) (eH x)):=by
  unfold pt at h
  split at h<;>first | rfl | (cases h;done) | (rename_i y;cases y;rfl)
noncomputable def Qh:ax:=bx AJ (.cons (.ns .u64) (.cons (.ns .u64) .nil)) fun t=>(fun q=>[⟨He (.r0 (eG q) (eH q)),[pt q]⟩]) (cv t.1.2 t.2.1.2)
theorem VZ:aI prog Qh:=aE fun t=>(aF (fun h=>aeK t.1.1 t.1.2 t.2.1.1 t.2.1.2 (aeL h)) aQ)
noncomputable def Qi:List ax:=Qh::Na
theorem tt:aJ prog (aG Qi):=aj VZ eO
inductive ei where
  | r0 (a7:Nat) (b8:Bool) (l9:List Int) (a10:Nat) (i11:Int)
def Nb:ei→AE×aC
  | .r0 a7 b8 l9 a10 i11=>(.ret,⟨ae 11 [(2,.ptr 0 1 0 0),(3,.int .i64 ((a7:Nat):Int))],[(0,.vs [.bool false b8,.imm .free (.ns .u64 l9) 1 1 0 a10,.int .i64 i11])],1⟩)
theorem Jr:jm Nb:=by intro x;cases x<;>(intro h;cases h)
def EQ:ei→fU
  | .r0 a7 b8 l9 a10 i11=>⟨.tup [.agg [.bool false b8,.imm .free (.ns .u64 l9) 1 1 0 a10,.int .i64 i11],.int .i64 ((a7:Nat):Int)],[]⟩
def ZW:Bool×(List Int)×Nat×Int×Bool→aC:=fun (b1,l2,a3,i4,b5)=>⟨ae 11 [(1,.ptr 0 1 0 0),(2,.ptr 1 1 0 0)],[(0,.vs [.bool false b1,.imm .free (.ns .u64 l2) 1 1 0 a3,.int .i64 i4]),(1,.vs [.bool false b5,.nsl,.int .i64 (0:Int)])],2⟩
def Js(d_0:Bool)(d_2:List Int)(d_3:Int) :T ((Bool×(List Int)×Nat×Int×Bool)⊕(ei)) :=
  .need (aK 0 (List.length d_2) d_2)<|.need (iM (bh d_0 (aa 0 (List.length d_2) d_2) d_3))<|.leaf (.inl ((hD (bh d_0 (aa 0 (List.length d_2) d_2) d_3)),(hH (bh d_0 (aa 0 (List.length d_2) d_2) d_3)),(hJ (bh d_0 (aa 0 (List.length d_2) d_2) d_3)),(hP (bh d_0 (aa 0 (List.length d_2) d_2) d_3)),false))
def ZX(b1:Bool)(l2:List Int)(a3:Nat)(i4:Int)(b5:Bool)(b6:Bool) :aC:=⟨ae 11 [(1,.ptr 0 1 0 0),(2,.ptr 1 1 0 0),(8,.bool false b6)],[(0,.vs [.bool false b1,.imm .free (.ns .u64 l2) 1 1 0 a3,.int .i64 i4]),(1,.vs [.bool false b5,.nsl,.int .i64 (0:Int)])],2⟩
def Cr(l2:List Int)(a3:Nat)(i4:Int) :T ((Bool)⊕(ei)) :=
  .need (aK 0 a3 l2)<|.need (kW (fw (aa 0 a3 l2) i4))<|.leaf (.inl (!(jV (fw (aa 0 a3 l2) i4))))
def ZY(b1:Bool)(l2:List Int)(a3:Nat)(i4:Int)(b6:Bool) :T ((Empty)⊕(ei)) :=
  .ask b6
    (.leaf (.inr (.r0 3 false ([]:List Int) 0 (0:Int))))
    (.leaf (.inr (.r0 0 b1 l2 a3 i4)))
noncomputable def iN(d_0:Bool)(d_2:List Int)(d_3:Int) :Option ei:=jP (aB ((Js d_0 d_2 d_3).run) fun (b1,l2,a3,i4,b5) =>
  aB ((Cr l2 a3 i4).run) fun b6 =>
  (ZY b1 l2 a3 i4 b6).run)
theorem ZZ(d_0:Bool)(v_1:Lv)(d_2:List Int)(d_3:Int){x:ei}(h:iN d_0 d_2 d_3=some x) :ai prog Dv [] [.agg [.bool false d_0,.imm v_1 (.ns .u64 d_2) 1 1 0 (List.length d_2),.int .i64 d_3]] (EQ x) :=
  kh true EQ Nb h (Sg.cut 2 Jr (bf tt ZW [⟨[],[0,16],[1,2]⟩]) (fun ⟨b1,l2,a3,i4,b5⟩=>Sg.cut 1 Jr (bf tt (ZX b1 l2 a3 i4 b5) [⟨[],[0,1],[1,2,8]⟩]) (fun b6=>bf tt kb [⟨[(.cell 1 1,.fre 1 1 (.ns .u64 ([]:List Int)))],[1],[2,3]⟩,⟨[],[1],[2,3]⟩])))
    (fun x=>by cases x with | r0 a7 b8 l9 a10 i11=>exact jR [.agg [.bool false b8,.imm .free (.ns .u64 l9) 1 1 0 a10,.int .i64 i11],.int .i64 ((a7:Nat):Int)])
def ws:Option ei→Bool
  | some _=>true
  | none=>false
def xU:Option ei→Nat
  | some (.r0 x _ _ _ _)=>x
  | _=>0
def xV:Option ei→Bool
  | some (.r0 _ x _ _ _)=>x
  | _=>false
def xW:Option ei→List Int
  | some (.r0 _ _ x _ _)=>x
  | _=>[]
def xX:Option ei→Nat
  | some (.r0 _ _ _ x _)=>x
  | _=>0
def xY:Option ei→Int
  | some (.r0 _ _ _ _ x)=>x
  | _=>0
theorem Z0{x:Option ei}(h:ws x=true) :x=some (.r0 (xU x) (xV x) (xW x) (xX x) (xY x)):=by
  unfold ws at h
  split at h<;>first | rfl | (cases h;done) | (rename_i y;cases y;rfl)
noncomputable def Nc:ax:=bx Dv (.cons (.agg (.cons .bool (.cons (.ns .u64) (.cons (.int .i64) .nil)))) .nil) fun t=>(fun q=>[⟨EQ (.r0 (xU q) (xV q) (xW q) (xX q) (xY q)),[ws q]⟩]) (iN t.1.1 t.1.2.1.2 t.1.2.2.1)
theorem RN:aI prog Nc:=aE fun t=>(aF (fun h=>ZZ t.1.1 t.1.2.1.1 t.1.2.1.2 t.1.2.2.1 (Z0 h)) aQ)
noncomputable def Nd:List ax:=Nc::Qi
theorem nH:aJ prog (aG Nd):=aj RN tt
inductive eI where
  | r0 (a16:Nat) (b17:Bool) (l18:List Int) (a19:Nat) (i20:Int)
def Qj:eI→AE×aC
  | .r0 a16 b17 l18 a19 i20=>(.ret,⟨ae 38 [(4,.ptr 0 1 0 0),(5,.int .i64 ((a16:Nat):Int))],[(0,.vs [.bool false b17,.imm .free (.ns .u64 l18) 1 1 0 a19,.int .i64 i20])],1⟩)
theorem ER:jm Qj:=by intro x;cases x<;>(intro h;cases h)
def Hf:eI→fU
  | .r0 a16 b17 l18 a19 i20=>⟨.tup [.agg [.bool false b17,.imm .free (.ns .u64 l18) 1 1 0 a19,.int .i64 i20],.int .i64 ((a16:Nat):Int)],[]⟩
def aeM(a_0:Bool)(v_1:Lv)(a_2:List Int)(a_3:Int)(b_4:Bool)(v_5:Lv)(b_6:List Int)(b_7:Int) :Bool×Bool→aC:=fun (b1,b2)=>⟨ae 38 [(2,.ptr 0 1 0 0),(3,.ptr 1 1 0 0),(4,.ptr 2 1 0 0),(13,.bool false b1)],[(0,.vs [.bool false a_0,.imm v_1 (.ns .u64 a_2) 1 1 0 (List.length a_2),.int .i64 a_3]),(1,.vs [.bool false b_4,.imm v_5 (.ns .u64 b_6) 1 1 0 (List.length b_6),.int .i64 b_7]),(2,.vs [.bool false b2,.nsl,.int .i64 (0:Int)])],3⟩
def Nf(a_2:List Int)(a_3:Int)(b_6:List Int)(b_7:Int) :T ((Bool×Bool)⊕(eI)) :=
  .need (aK 0 (List.length a_2) a_2)<|.need (kW (fw (aa 0 (List.length a_2) a_2) a_3))<|.ask (!(jV (fw (aa 0 (List.length a_2) a_2) a_3)))
    (.leaf (.inl (true,false)))
    (.need (aK 0 (List.length b_6) b_6)<|.need (kW (fw (aa 0 (List.length b_6) b_6) b_7))<|.leaf (.inl ((!(jV (fw (aa 0 (List.length b_6) b_6) b_7))),false)))
def aeN(b2:Bool) :Bool×(List Int)×Nat×Int×Bool×(List Int)×Nat×Int→aC:=fun (b3,l4,a5,i6,b7,l8,a9,i10)=>⟨ae 38 [(2,.ptr 0 1 0 0),(3,.ptr 1 1 0 0),(4,.ptr 2 1 0 0)],[(0,.vs [.bool false b3,.imm .free (.ns .u64 l4) 1 1 0 a5,.int .i64 i6]),(1,.vs [.bool false b7,.imm .free (.ns .u64 l8) 1 1 0 a9,.int .i64 i10]),(2,.vs [.bool false b2,.nsl,.int .i64 (0:Int)])],3⟩
def ES(a_0:Bool)(a_2:List Int)(a_3:Int)(b_4:Bool)(b_6:List Int)(b_7:Int)(b1:Bool) :T ((Bool×(List Int)×Nat×Int×Bool×(List Int)×Nat×Int)⊕(eI)) :=
  .ask b1
    (.leaf (.inr (.r0 2 false ([]:List Int) 0 (0:Int))))
    (.need (aK 0 (List.length a_2) a_2)<|.need (iM (bh a_0 (aa 0 (List.length a_2) a_2) a_3))<|.need (aK 0 (List.length b_6) b_6)<|.need (iM (bh b_4 (aa 0 (List.length b_6) b_6) b_7))<|.leaf (.inl ((hD (bh a_0 (aa 0 (List.length a_2) a_2) a_3)),(hH (bh a_0 (aa 0 (List.length a_2) a_2) a_3)),(hJ (bh a_0 (aa 0 (List.length a_2) a_2) a_3)),(hP (bh a_0 (aa 0 (List.length a_2) a_2) a_3)),(hD (bh b_4 (aa 0 (List.length b_6) b_6) b_7)),(hH (bh b_4 (aa 0 (List.length b_6) b_6) b_7)),(hJ (bh b_4 (aa 0 (List.length b_6) b_6) b_7)),(hP (bh b_4 (aa 0 (List.length b_6) b_6) b_7)))))
def aeO:Nat×Bool×(List Int)×Nat×Int→aC:=fun (a11,b12,l13,a14,i15)=>⟨ae 38 [(4,.ptr 0 1 0 0),(5,.int .i64 ((a11:Nat):Int))],[(0,.vs [.bool false b12,.imm .free (.ns .u64 l13) 1 1 0 a14,.int .i64 i15])],1⟩
def ET(b3:Bool)(l4:List Int)(a5:Nat)(i6:Int)(b7:Bool)(l8:List Int)(a9:Nat)(i10:Int) :T ((Nat×Bool×(List Int)×Nat×Int)⊕(eI)) :=
  .need (aK 0 a5 l4)<|.need (aK 0 a9 l8)<|.need (pt (cv (aa 0 a5 l4) (aa 0 a9 l8)))<|.need (cV .i64 (i6+i10))<|.need (aK 0 (eH (cv (aa 0 a5 l4) (aa 0 a9 l8))) (eG (cv (aa 0 a5 l4) (aa 0 a9 l8))))<|.need (ws (iN (!(b3==b7)) (aa 0 (eH (cv (aa 0 a5 l4) (aa 0 a9 l8))) (eG (cv (aa 0 a5 l4) (aa 0 a9 l8)))) (i6+i10)))<|.leaf (.inl ((xU (iN (!(b3==b7)) (aa 0 (eH (cv (aa 0 a5 l4) (aa 0 a9 l8))) (eG (cv (aa 0 a5 l4) (aa 0 a9 l8)))) (i6+i10))),(xV (iN (!(b3==b7)) (aa 0 (eH (cv (aa 0 a5 l4) (aa 0 a9 l8))) (eG (cv (aa 0 a5 l4) (aa 0 a9 l8)))) (i6+i10))),(xW (iN (!(b3==b7)) (aa 0 (eH (cv (aa 0 a5 l4) (aa 0 a9 l8))) (eG (cv (aa 0 a5 l4) (aa 0 a9 l8)))) (i6+i10))),(xX (iN (!(b3==b7)) (aa 0 (eH (cv (aa 0 a5 l4) (aa 0 a9 l8))) (eG (cv (aa 0 a5 l4) (aa 0 a9 l8)))) (i6+i10))),(xY (iN (!(b3==b7)) (aa 0 (eH (cv (aa 0 a5 l4) (aa 0 a9 l8))) (eG (cv (aa 0 a5 l4) (aa 0 a9 l8)))) (i6+i10)))))
def aeP(a11:Nat)(b12:Bool)(l13:List Int)(a14:Nat)(i15:Int) :T ((Empty)⊕(eI)) :=
  .leaf (.inr (.r0 a11 b12 l13 a14 i15))
noncomputable def fA(a_0:Bool)(a_2:List Int)(a_3:Int)(b_4:Bool)(b_6:List Int)(b_7:Int) :Option eI:=jP (aB ((Nf a_2 a_3 b_6 b_7).run) fun (b1,b2) =>
  aB ((ES a_0 a_2 a_3 b_4 b_6 b_7 b1).run) fun (b3,l4,a5,i6,b7,l8,a9,i10) =>
  aB ((ET b3 l4 a5 i6 b7 l8 a9 i10).run) fun (a11,b12,l13,a14,i15) =>
  (aeP a11 b12 l13 a14 i15).run)
theorem aeQ(a_0:Bool)(v_1:Lv)(a_2:List Int)(a_3:Int)(b_4:Bool)(v_5:Lv)(b_6:List Int)(b_7:Int){x:eI}(h:fA a_0 a_2 a_3 b_4 b_6 b_7=some x) :ai prog FZ [] [.agg [.bool false a_0,.imm v_1 (.ns .u64 a_2) 1 1 0 (List.length a_2),.int .i64 a_3],.agg [.bool false b_4,.imm v_5 (.ns .u64 b_6) 1 1 0 (List.length b_6),.int .i64 b_7]] (Hf x) :=
  kh true Hf Qj h (Sg.cut 2 ER (bf nH (aeM a_0 v_1 a_2 a_3 b_4 v_5 b_6 b_7) [⟨[],[0,16,32],[2,3,4,13]⟩,⟨[],[0,16,32],[2,3,4,13]⟩]) (fun ⟨b1,b2⟩=>Sg.cut 2 ER (bf nH (aeN b2) [⟨[(.cell 2 1,.fre 1 1 (.ns .u64 ([]:List Int)))],[2],[4,5]⟩,⟨[],[0,1,2],[2,3,4]⟩]) (fun ⟨b3,l4,a5,i6,b7,l8,a9,i10⟩=>Sg.cut 1 ER (bf nH aeO [⟨[],[2],[4,5]⟩]) (fun ⟨a11,b12,l13,a14,i15⟩=>bf nH kb [⟨[],[0],[4,5]⟩]))))
    (fun x=>by cases x with | r0 a16 b17 l18 a19 i20=>exact jR [.agg [.bool false b17,.imm .free (.ns .u64 l18) 1 1 0 a19,.int .i64 i20],.int .i64 ((a16:Nat):Int)])
def tu:Option eI→Bool
  | some _=>true
  | none=>false
def Hg:Option eI→Nat
  | some (.r0 x _ _ _ _)=>x
  | _=>0
def oK:Option eI→Bool
  | some (.r0 _ x _ _ _)=>x
  | _=>false
def lV:Option eI→List Int
  | some (.r0 _ _ x _ _)=>x
  | _=>[]
def lW:Option eI→Nat
  | some (.r0 _ _ _ x _)=>x
  | _=>0
def oL:Option eI→Int
  | some (.r0 _ _ _ _ x)=>x
  | _=>0
theorem aeR{x:Option eI}(h:tu x=true) :x=some (.r0 (Hg x) (oK x) (lV x) (lW x) (oL x)):=by
  unfold tu at h
  split at h<;>first | rfl | (cases h;done) | (rename_i y;cases y;rfl)
noncomputable def Qk:ax:=bx FZ (.cons (.agg (.cons .bool (.cons (.ns .u64) (.cons (.int .i64) .nil)))) (.cons (.agg (.cons .bool (.cons (.ns .u64) (.cons (.int .i64) .nil)))) .nil)) fun t=>(fun q=>[⟨Hf (.r0 (Hg q) (oK q) (lV q) (lW q) (oL q)),[tu q]⟩]) (fA t.1.1 t.1.2.1.2 t.1.2.2.1 t.2.1.1 t.2.1.2.1.2 t.2.1.2.2.1)
theorem V0:aI prog Qk:=aE fun t=>(aF (fun h=>aeQ t.1.1 t.1.2.1.1 t.1.2.1.2 t.1.2.2.1 t.2.1.1 t.2.1.2.1.1 t.2.1.2.1.2 t.2.1.2.2.1 (aeR h)) aQ)
noncomputable def Ql:List ax:=Qk::Nd
theorem Ar:aJ prog (aG Ql):=aj V0 nH
inductive kY where
  | r0 (b2:Bool)
def Qm:kY→AE×aC
  | .r0 b2=>(.ret,⟨ae 31 [(4,.bool false b2)],[],0⟩)
theorem aeS:jm Qm:=by intro x;cases x<;>(intro h;cases h)
def Hh:kY→fU
  | .r0 b2=>⟨.bool false b2,[]⟩
def aeT(b1:Bool) :aC:=⟨ae 31 [(4,.bool false b1)],[],0⟩
def Ng(a_2:List Int)(a_3:Int)(b_6:List Int)(b_7:Int) :T ((Bool)⊕(kY)) :=
  .ask (decide ((((List.length a_2):Nat):Int)>(0:Int)))
    (.ask (decide ((((List.length b_6):Nat):Int)>(0:Int)))
      (.need (cV .i64 (a_3-b_7))<|.ask (decide ((a_3-b_7)>(262144:Int)))
        (.leaf (.inl true))
        (.need (cV .i64 (b_7-a_3))<|.leaf (.inl (decide ((b_7-a_3)>(262144:Int))))))
      (.leaf (.inl false)))
    (.leaf (.inl false))
def aeU(b1:Bool) :T ((Empty)⊕(kY)) :=
  .leaf (.inr (.r0 b1))
noncomputable def wS(a_2:List Int)(a_3:Int)(b_6:List Int)(b_7:Int) :Option kY:=jP (aB ((Ng a_2 a_3 b_6 b_7).run) fun b1 =>
  (aeU b1).run)
theorem aeV(a_0:Bool)(v_1:Lv)(a_2:List Int)(a_3:Int)(b_4:Bool)(v_5:Lv)(b_6:List Int)(b_7:Int){x:kY}(h:wS a_2 a_3 b_6 b_7=some x) :ai prog F7 [] [.agg [.bool false a_0,.imm v_1 (.ns .u64 a_2) 1 1 0 (List.length a_2),.int .i64 a_3],.agg [.bool false b_4,.imm v_5 (.ns .u64 b_6) 1 1 0 (List.length b_6),.int .i64 b_7]] (Hh x) :=
  kh true Hh Qm h (Sg.cut 2 aeS (bf Ar aeT [⟨[],[],[4]⟩,⟨[],[],[4]⟩,⟨[],[],[4]⟩,⟨[],[],[4]⟩]) (fun b1=>bf Ar kb [⟨[],[],[4]⟩]))
    (fun x=>by cases x with | r0 b2=>exact jR [.bool false b2])
def yT:Option kY→Bool
  | some _=>true
  | none=>false
def As:Option kY→Bool
  | some (.r0 x)=>x
  | _=>false
theorem aeW{x:Option kY}(h:yT x=true) :x=some (.r0 (As x)):=by
  unfold yT at h
  split at h<;>first | rfl | (cases h;done) | (rename_i y;cases y;rfl)
noncomputable def Qn:ax:=bx F7 (.cons (.agg (.cons .bool (.cons (.ns .u64) (.cons (.int .i64) .nil)))) (.cons (.agg (.cons .bool (.cons (.ns .u64) (.cons (.int .i64) .nil)))) .nil)) fun t=>(fun q=>[⟨Hh (.r0 (As q)),[yT q]⟩]) (wS t.1.2.1.2 t.1.2.2.1 t.2.1.2.1.2 t.2.1.2.2.1)
theorem V1:aI prog Qn:=aE fun t=>(aF (fun h=>aeV t.1.1 t.1.2.1.1 t.1.2.1.2 t.1.2.2.1 t.2.1.1 t.2.1.2.1.1 t.2.1.2.1.2 t.2.1.2.2.1 (aeW h)) aQ)
noncomputable def Qo:List ax:=Qn::Ql
theorem Hi:aJ prog (aG Qo):=aj V1 Ar
inductive kZ where
  | r0 (i1:Int)
def aeX:kZ→AE×aC
  | .r0 i1=>(.ret,⟨ae 9 [(2,.int .i64 i1)],[],0⟩)
def EU:kZ→fU
  | .r0 i1=>⟨.int .i64 i1,[]⟩
def Jt(d_0:Bool)(d_2:List Int) :T ((Empty)⊕(kZ)) :=
  .ask ((((List.length d_2):Nat):Int)==(0:Int))
    (.leaf (.inr (.r0 (0:Int))))
    (.ask d_0
      (.leaf (.inr (.r0 (-1:Int))))
      (.leaf (.inr (.r0 (1:Int)))))
noncomputable def gU(d_0:Bool)(d_2:List Int) :Option kZ:=jP ((Jt d_0 d_2).run)
theorem Z1(d_0:Bool)(v_1:Lv)(d_2:List Int)(d_3:Int){x:kZ}(h:gU d_0 d_2=some x) :ai prog Dx [] [.agg [.bool false d_0,.imm v_1 (.ns .u64 d_2) 1 1 0 (List.length d_2),.int .i64 d_3]] (EU x) :=
  kh true EU aeX h (bf Hi kb [⟨[],[],[2]⟩,⟨[],[],[2]⟩,⟨[],[],[2]⟩])
    (fun x=>by cases x with | r0 i1=>exact jR [.int .i64 i1])
def lr:Option kZ→Bool
  | some _=>true
  | none=>false
def kx:Option kZ→Int
  | some (.r0 x)=>x
  | _=>0
theorem Z2{x:Option kZ}(h:lr x=true) :x=some (.r0 (kx x)):=by
  unfold lr at h
  split at h<;>first | rfl | (cases h;done) | (rename_i y;cases y;rfl)
noncomputable def Nh:ax:=bx Dx (.cons (.agg (.cons .bool (.cons (.ns .u64) (.cons (.int .i64) .nil)))) .nil) fun t=>(fun q=>[⟨EU (.r0 (kx q)),[lr q]⟩]) (gU t.1.1 t.1.2.1.2)
theorem RO:aI prog Nh:=aE fun t=>(aF (fun h=>Z1 t.1.1 t.1.2.1.1 t.1.2.1.2 t.1.2.2.1 (Z2 h)) aQ)
noncomputable def Ni:List ax:=Nh::Qo
theorem Fr:aJ prog (aG Ni):=aj RO Hi
inductive jw where
  | r0 (a1:Nat) (l2:List Int)
def aeY:jw→AE×aC
  | .r0 a1 l2=>(.ret,⟨ae 17 [(2,.sl 0 1 1 0 a1 a1)],[(0,.ns .u64 l2)],1⟩)
def EW:jw→fU
  | .r0 a1 l2=>⟨.imm .free (.ns .u64 l2) 1 1 0 a1,[]⟩
def Ju(k_0:Int) :T ((Empty)⊕(jw)) :=
  .need ((64:Int) != (0:Int))<|.need (cV .i64 (Int.tdiv k_0 (64:Int)))<|.need (cV .i64 ((Int.tdiv k_0 (64:Int))+(1:Int)))<|.need (decide ((0:Int)≤((Int.tdiv k_0 (64:Int))+(1:Int))))<|.need (decide (((Int.tdiv k_0 (64:Int))+(1:Int))≤((Int.tdiv k_0 (64:Int))+(1:Int))))<|.need (decide ((8:Int)*((Int.tdiv k_0 (64:Int))+(1:Int))≤140737488355328))<|.need (cV .i64 ((Int.tdiv k_0 (64:Int))+(1:Int)))<|.need ((64:Int) != (0:Int))<|.need (cV .i64 (Int.tdiv k_0 (64:Int)))<|.need ((64:Int) != (0:Int))<|.need (decide ((0:Int)≤(IntKind.u64.wrap (Int.tmod k_0 (64:Int)))))<|.need (fp (Int.tdiv k_0 (64:Int)) (Int.toNat ((Int.tdiv k_0 (64:Int))+(1:Int))))<|.need (fO (Int.toNat (Int.tdiv k_0 (64:Int))) (List.length (List.replicate (Int.toNat ((Int.tdiv k_0 (64:Int))+(1:Int))) (0:Int))))<|.leaf (.inr (.r0 (Int.toNat ((Int.tdiv k_0 (64:Int))+(1:Int))) (List.set (List.replicate (Int.toNat ((Int.tdiv k_0 (64:Int))+(1:Int))) (0:Int)) (Int.toNat (Int.tdiv k_0 (64:Int))) (IntKind.u64.wrap ((1:Int)*2^(min (Int.toNat (IntKind.u64.wrap (Int.tmod k_0 (64:Int)))) (IntKind.u64.bits)))))))
noncomputable def fT(k_0:Int) :Option jw:=jP ((Ju k_0).run)
theorem Z3(k_0:Int){x:jw}(h:fT k_0=some x) :ai prog DA [] [.int .i64 k_0] (EW x) :=
  kh true EW aeY h (bf Fr kb [⟨[],[64],[2]⟩])
    (fun x=>by cases x with | r0 a1 l2=>exact jR [.sl 0 1 1 0 a1 a1])
def qI:Option jw→Bool
  | some _=>true
  | none=>false
def jf:Option jw→Nat
  | some (.r0 x _)=>x
  | _=>0
def jg:Option jw→List Int
  | some (.r0 _ x)=>x
  | _=>[]
theorem Z4{x:Option jw}(h:qI x=true) :x=some (.r0 (jf x) (jg x)):=by
  unfold qI at h
  split at h<;>first | rfl | (cases h;done) | (rename_i y;cases y;rfl)
noncomputable def Nj:ax:=bx DA (.cons (.int .i64) .nil) fun t=>(fun q=>[⟨EW (.r0 (jf q) (jg q)),[qI q]⟩]) (fT t.1)
theorem RP:aI prog Nj:=aE fun t=>(aF (fun h=>Z3 t.1 (Z4 h)) aQ)
noncomputable def Nk:List ax:=Nj::Ni
theorem xZ:aJ prog (aG Nk):=aj RP Fr
inductive jF where
  | r0 (l3:List Int) (a4:Nat)
def Qp:jF→AE×aC
  | .r0 l3 a4=>(.ret,⟨ae 9 [(4,.imm .free (.ns .u64 l3) 1 1 0 a4)],[],0⟩)
theorem aeZ:jm Qp:=by intro x;cases x<;>(intro h;cases h)
def Hj:jF→fU
  | .r0 l3 a4=>⟨.imm .free (.ns .u64 l3) 1 1 0 a4,[]⟩
def ae0:(List Int)×Nat→aC:=fun (l1,a2)=>⟨ae 9 [(4,.imm .free (.ns .u64 l1) 1 1 0 a2)],[],0⟩
def Nl(a_1:List Int)(k_2:Int) :T (((List Int)×Nat)⊕(jF)) :=
  .need (qI (fT k_2))<|.need (aK 0 (List.length a_1) a_1)<|.need (aK 0 (jf (fT k_2)) (jg (fT k_2)))<|.need (pt (cv (aa 0 (List.length a_1) a_1) (aa 0 (jf (fT k_2)) (jg (fT k_2)))))<|.leaf (.inl ((eG (cv (aa 0 (List.length a_1) a_1) (aa 0 (jf (fT k_2)) (jg (fT k_2))))),(eH (cv (aa 0 (List.length a_1) a_1) (aa 0 (jf (fT k_2)) (jg (fT k_2)))))))
def ae1(l1:List Int)(a2:Nat) :T ((Empty)⊕(jF)) :=
  .leaf (.inr (.r0 l1 a2))
noncomputable def iW(a_1:List Int)(k_2:Int) :Option jF:=jP (aB ((Nl a_1 k_2).run) fun (l1,a2) =>
  (ae1 l1 a2).run)
theorem ae2(v_0:Lv)(a_1:List Int)(k_2:Int){x:jF}(h:iW a_1 k_2=some x) :ai prog F8 [] [.imm v_0 (.ns .u64 a_1) 1 1 0 (List.length a_1),.int .i64 k_2] (Hj x) :=
  kh true Hj Qp h (Sg.cut 2 aeZ (bf xZ ae0 [⟨[],[],[4]⟩]) (fun ⟨l1,a2⟩=>bf xZ kb [⟨[],[],[4]⟩]))
    (fun x=>by cases x with | r0 l3 a4=>exact jR [.imm .free (.ns .u64 l3) 1 1 0 a4])
def tw:Option jF→Bool
  | some _=>true
  | none=>false
def tx:Option jF→List Int
  | some (.r0 x _)=>x
  | _=>[]
def tA:Option jF→Nat
  | some (.r0 _ x)=>x
  | _=>0
theorem ae3{x:Option jF}(h:tw x=true) :x=some (.r0 (tx x) (tA x)):=by
  unfold tw at h
  split at h<;>first | rfl | (cases h;done) | (rename_i y;cases y;rfl)
noncomputable def Qq:ax:=bx F8 (.cons (.ns .u64) (.cons (.int .i64) .nil)) fun t=>(fun q=>[⟨Hj (.r0 (tx q) (tA q)),[tw q]⟩]) (iW t.1.2 t.2.1)
theorem V2:aI prog Qq:=aE fun t=>(aF (fun h=>ae2 t.1.1 t.1.2 t.2.1 (ae3 h)) aQ)
noncomputable def Qr:List ax:=Qq::Nk
theorem lX:aJ prog (aG Qr):=aj V2 xZ
inductive cJ where
  | r0 (l7:List Int) (a8:Nat) (l9:List Int) (a10:Nat) (i11:Int)
def Jv(v_1:Lv)(v_5:Lv) :cJ→AE×aC
  | .r0 l7 a8 l9 a10 i11=>(.ret,⟨ae 54 [(4,.imm v_1 (.ns .u64 l7) 1 1 0 a8),(5,.imm v_5 (.ns .u64 l9) 1 1 0 a10),(6,.int .i64 i11)],[],0⟩)
theorem tB{v_1:Lv}{v_5:Lv} :jm (Jv v_1 v_5):=by intro x;cases x<;>(intro h;cases h)
def Cs(v_1:Lv)(v_5:Lv) :cJ→fU
  | .r0 l7 a8 l9 a10 i11=>⟨.tup [.imm v_1 (.ns .u64 l7) 1 1 0 a8,.imm v_5 (.ns .u64 l9) 1 1 0 a10,.int .i64 i11],[]⟩
def V3(a_0:Bool)(v_1:Lv)(a_2:List Int)(a_3:Int)(b_4:Bool)(v_5:Lv)(b_6:List Int)(b_7:Int)(e1:Int) :aC:=⟨ae 54 [(2,.ptr 0 1 0 0),(3,.ptr 1 1 0 0),(7,.int .i64 e1)],[(0,.vs [.bool false a_0,.imm v_1 (.ns .u64 a_2) 1 1 0 (List.length a_2),.int .i64 a_3]),(1,.vs [.bool false b_4,.imm v_5 (.ns .u64 b_6) 1 1 0 (List.length b_6),.int .i64 b_7])],2⟩
def lY(a_2:List Int)(a_3:Int)(b_7:Int) :T ((Int)⊕(cJ)) :=
  .ask ((((List.length a_2):Nat):Int)==(0:Int))
    (.leaf (.inl b_7))
    (.leaf (.inl (uu a_3 b_7)))
def V4(a_0:Bool)(v_1:Lv)(a_2:List Int)(a_3:Int)(b_4:Bool)(v_5:Lv)(b_6:List Int)(b_7:Int)(e2:Int) :aC:=⟨ae 54 [(2,.ptr 0 1 0 0),(3,.ptr 1 1 0 0),(7,.int .i64 e2)],[(0,.vs [.bool false a_0,.imm v_1 (.ns .u64 a_2) 1 1 0 (List.length a_2),.int .i64 a_3]),(1,.vs [.bool false b_4,.imm v_5 (.ns .u64 b_6) 1 1 0 (List.length b_6),.int .i64 b_7])],2⟩
def lZ(a_3:Int)(b_6:List Int)(e1:Int) :T ((Int)⊕(cJ)) :=
  .ask ((((List.length b_6):Nat):Int)==(0:Int))
    (.leaf (.inl a_3))
    (.leaf (.inl e1))
def V5(v_1:Lv)(b_4:Bool)(v_5:Lv)(b_6:List Int)(b_7:Int)(e2:Int) :(List Int)×Nat→aC:=fun (x3,x4)=>⟨ae 54 [(3,.ptr 0 1 0 0),(7,.int .i64 e2),(8,.imm v_1 (.ns .u64 x3) 1 1 0 x4),(9,.imm v_5 (.ns .u64 b_6) 1 1 0 (List.length b_6))],[(0,.vs [.bool false b_4,.imm v_5 (.ns .u64 b_6) 1 1 0 (List.length b_6),.int .i64 b_7])],1⟩
def tC(a_2:List Int)(a_3:Int)(e2:Int) :T (((List Int)×Nat)⊕(cJ)) :=
  .ask (decide (a_3>e2))
    (.need (cV .i64 (a_3-e2))<|.need (aK 0 (List.length a_2) a_2)<|.need (tw (iW (aa 0 (List.length a_2) a_2) (a_3-e2)))<|.leaf (.inl ((tx (iW (aa 0 (List.length a_2) a_2) (a_3-e2))),(tA (iW (aa 0 (List.length a_2) a_2) (a_3-e2))))))
    (.leaf (.inl (a_2,(List.length a_2))))
def V6(v_1:Lv)(v_5:Lv)(e2:Int)(x3:List Int)(x4:Nat) :(List Int)×Nat→aC:=fun (y5,y6)=>⟨ae 54 [(7,.int .i64 e2),(8,.imm v_1 (.ns .u64 x3) 1 1 0 x4),(9,.imm v_5 (.ns .u64 y5) 1 1 0 y6)],[],0⟩
def tD(b_6:List Int)(b_7:Int)(e2:Int) :T (((List Int)×Nat)⊕(cJ)) :=
  .ask (decide (b_7>e2))
    (.need (cV .i64 (b_7-e2))<|.need (aK 0 (List.length b_6) b_6)<|.need (tw (iW (aa 0 (List.length b_6) b_6) (b_7-e2)))<|.leaf (.inl ((tx (iW (aa 0 (List.length b_6) b_6) (b_7-e2))),(tA (iW (aa 0 (List.length b_6) b_6) (b_7-e2))))))
    (.leaf (.inl (b_6,(List.length b_6))))
def RQ(e2:Int)(x3:List Int)(x4:Nat)(y5:List Int)(y6:Nat) :T ((Empty)⊕(cJ)) :=
  .leaf (.inr (.r0 x3 x4 y5 y6 e2))
noncomputable def iO(a_2:List Int)(a_3:Int)(b_6:List Int)(b_7:Int) :Option cJ:=jP (aB ((lY a_2 a_3 b_7).run) fun e1 =>
  aB ((lZ a_3 b_6 e1).run) fun e2 =>
  aB ((tC a_2 a_3 e2).run) fun (x3,x4) =>
  aB ((tD b_6 b_7 e2).run) fun (y5,y6) =>
  (RQ e2 x3 x4 y5 y6).run)
theorem V7(a_0:Bool)(v_1:Lv)(a_2:List Int)(a_3:Int)(b_4:Bool)(v_5:Lv)(b_6:List Int)(b_7:Int){x:cJ}(h:iO a_2 a_3 b_6 b_7=some x) :ai prog BE [] [.agg [.bool false a_0,.imm v_1 (.ns .u64 a_2) 1 1 0 (List.length a_2),.int .i64 a_3],.agg [.bool false b_4,.imm v_5 (.ns .u64 b_6) 1 1 0 (List.length b_6),.int .i64 b_7]] (Cs v_1 v_5 x) :=
  kh true (Cs v_1 v_5) (Jv v_1 v_5) h (Sg.cut 4 tB (bf lX (V3 a_0 v_1 a_2 a_3 b_4 v_5 b_6 b_7) [⟨[],[0,16],[2,3,7]⟩,⟨[],[0,16],[2,3,7]⟩]) (fun e1=>Sg.cut 2 tB (bf lX (V4 a_0 v_1 a_2 a_3 b_4 v_5 b_6 b_7) [⟨[],[0,1],[2,3,7]⟩,⟨[],[0,1],[2,3,7]⟩]) (fun e2=>Sg.cut 3 tB (bf lX (V5 v_1 b_4 v_5 b_6 b_7 e2) [⟨[(.slot 8,.lev v_1)],[1],[3,7,8,9]⟩,⟨[],[1],[3,7,8,9]⟩]) (fun ⟨x3,x4⟩=>Sg.cut 2 tB (bf lX (V6 v_1 v_5 e2 x3 x4) [⟨[(.slot 9,.lev v_5)],[],[7,8,9]⟩,⟨[],[],[7,8,9]⟩]) (fun ⟨y5,y6⟩=>bf lX kb [⟨[],[],[4,5,6]⟩])))))
    (fun x=>by cases x with | r0 l7 a8 l9 a10 i11=>exact jR [.imm v_1 (.ns .u64 l7) 1 1 0 a8,.imm v_5 (.ns .u64 l9) 1 1 0 a10,.int .i64 i11])
def tE:Option cJ→Bool
  | some _=>true
  | none=>false
def vf:Option cJ→List Int
  | some (.r0 x _ _ _ _)=>x
  | _=>[]
def vg:Option cJ→Nat
  | some (.r0 _ x _ _ _)=>x
  | _=>0
def vh:Option cJ→List Int
  | some (.r0 _ _ x _ _)=>x
  | _=>[]
def vi:Option cJ→Nat
  | some (.r0 _ _ _ x _)=>x
  | _=>0
def CV:Option cJ→Int
  | some (.r0 _ _ _ _ x)=>x
  | _=>0
theorem V8{x:Option cJ}(h:tE x=true) :x=some (.r0 (vf x) (vg x) (vh x) (vi x) (CV x)):=by
  unfold tE at h
  split at h<;>first | rfl | (cases h;done) | (rename_i y;cases y;rfl)
noncomputable def Jw:ax:=bx BE (.cons (.agg (.cons .bool (.cons (.ns .u64) (.cons (.int .i64) .nil)))) (.cons (.agg (.cons .bool (.cons (.ns .u64) (.cons (.int .i64) .nil)))) .nil)) fun t=>(fun q=>[⟨Cs t.1.2.1.1 t.2.1.2.1.1 (.r0 (vf q) (vg q) (vh q) (vi q) (CV q)),[tE q]⟩]) (iO t.1.2.1.2 t.1.2.2.1 t.2.1.2.1.2 t.2.1.2.2.1)
theorem OS:aI prog Jw:=aE fun t=>(aF (fun h=>V7 t.1.1 t.1.2.1.1 t.1.2.1.2 t.1.2.2.1 t.2.1.1 t.2.1.2.1.1 t.2.1.2.1.2 t.2.1.2.2.1 (V8 h)) aQ)
noncomputable def Jx:List ax:=Jw::Qr
theorem ma:aJ prog (aG Jx):=aj OS lX
inductive hZ where
  | r0 (i7:Int)
def Bp:hZ→AE×aC
  | .r0 i7=>(.ret,⟨ae 45 [(4,.int .i64 i7)],[],0⟩)
theorem yU:jm Bp:=by intro x;cases x<;>(intro h;cases h)
theorem ae4(id:Nat) :lD id Bp:=by intro x;cases x<;>(intro h;cases h)
def Hk:hZ→fU
  | .r0 i7=>⟨.int .i64 i7,[]⟩
noncomputable def ae5:List Code:=cp (md AL)
def ae6:(List Int)×Nat×(List Int)×Nat→aC:=fun (a1,a2,b3,b4)=>⟨ae 45 [(0,.imm .free (.ns .u64 a1) 1 1 0 a2),(1,.imm .free (.ns .u64 b3) 1 1 0 b4)],[],0⟩
def Nm(a_1:List Int)(b_3:List Int) :T (((List Int)×Nat×(List Int)×Nat)⊕(hZ)) :=
  .need (aK 0 (List.length a_1) a_1)<|.need (iL (bY (aa 0 (List.length a_1) a_1)))<|.need (aK 0 (List.length b_3) b_3)<|.need (iL (bY (aa 0 (List.length b_3) b_3)))<|.leaf (.inl ((gZ (bY (aa 0 (List.length a_1) a_1))),(gY (bY (aa 0 (List.length a_1) a_1))),(gZ (bY (aa 0 (List.length b_3) b_3))),(gY (bY (aa 0 (List.length b_3) b_3)))))
def ae7(a1:List Int)(a2:Nat)(b3:List Int)(b4:Nat)(i5:Int) :aC:=⟨ae 45 [(0,.imm .free (.ns .u64 a1) 1 1 0 a2),(1,.imm .free (.ns .u64 b3) 1 1 0 b4),(5,.int .i64 i5)],[],0⟩
def ae8(a2:Nat)(b4:Nat) :T ((Int)⊕(hZ)) :=
  .ask (((a2:Nat):Int) != ((b4:Nat):Int))
    (.ask (decide (((a2:Nat):Int)<((b4:Nat):Int)))
      (.leaf (.inr (.r0 (-1:Int))))
      (.leaf (.inr (.r0 (1:Int)))))
    (.need (cV .i64 (((a2:Nat):Int)-(1:Int)))<|.leaf (.inl (((a2:Nat):Int)-(1:Int))))
def yV(a1:List Int)(a2:Nat)(b3:List Int)(b4:Nat)(i6:Int) :aC:=⟨ae 45 [(0,.imm .free (.ns .u64 a1) 1 1 0 a2),(1,.imm .free (.ns .u64 b3) 1 1 0 b4),(5,.int .i64 i6)],[],0⟩
def Nn(_:Unit) :aC:=⟨ae 45 [],[],0⟩
noncomputable def Z5:List Code:=cp (dg (((((ae5.drop 2).drop 3).take 1)).headD .skip))
def qJ(a1:List Int)(a2:Nat)(b3:List Int)(b4:Nat)(i6:Int) :T ((Int)⊕((Unit)⊕(hZ))) :=
  .ask (decide (i6≥(0:Int)))
    (.need (fp i6 a2)<|.need (fO (Int.toNat i6) (List.length a1))<|.need (fp i6 b4)<|.need (fO (Int.toNat i6) (List.length b3))<|.ask (decide ((List.getD a1 (Int.toNat i6) 0)<(List.getD b3 (Int.toNat i6) 0)))
      (.leaf (.inr (.inr (.r0 (-1:Int)))))
      (.need (fp i6 a2)<|.need (fO (Int.toNat i6) (List.length a1))<|.need (fp i6 b4)<|.need (fO (Int.toNat i6) (List.length b3))<|.ask (decide ((List.getD a1 (Int.toNat i6) 0)>(List.getD b3 (Int.toNat i6) 0)))
        (.leaf (.inr (.inr (.r0 (1:Int)))))
        (.need (cV .i64 (i6-(1:Int)))<|.leaf (.inl (i6-(1:Int))))))
    (.leaf (.inr (.inl ())))
noncomputable def wt(a1:List Int)(a2:Nat)(b3:List Int)(b4:Nat) :Int→Option ((Int)⊕((Unit)⊕(hZ))):=fun i6 =>
  (qJ a1 a2 b3 b4 i6).run
theorem Z6(a1:List Int)(a2:Nat)(b3:List Int)(b4:Nat)(i6:Int) :Sg prog [] Z5 (yV a1 a2 b3 b4 i6) (wt a1 a2 b3 b4 i6) (yV a1 a2 b3 b4) (cN 0 Nn Bp):=by
  unfold wt;exact bf ma (yV a1 a2 b3 b4) [⟨[],[],[4]⟩,⟨[],[],[4]⟩,⟨[],[],[0,1,5]⟩,⟨[],[],[]⟩]
def Z7:T ((Empty)⊕(hZ)) :=
  .leaf (.inr (.r0 (0:Int)))
noncomputable def oM(a_1:List Int)(b_3:List Int) :Option hZ:=jP (aB ((Nm a_1 b_3).run) fun (a1,a2,b3,b4) =>
  aB ((ae8 a2 b4).run) fun i5 =>
  aB (cU (wt a1 a2 b3 b4) i5) fun _ =>
  (Z7).run)
theorem ae9(v_0:Lv)(a_1:List Int)(v_2:Lv)(b_3:List Int){x:hZ}(h:oM a_1 b_3=some x) :ai prog AL [] [.imm v_0 (.ns .u64 a_1) 1 1 0 (List.length a_1),.imm v_2 (.ns .u64 b_3) 1 1 0 (List.length b_3)] (Hk x) :=
  kh true Hk Bp h (Sg.cut 2 yU (bf ma ae6 [⟨[],[],[0,1]⟩]) (fun ⟨a1,a2,b3,b4⟩=>Sg.cut 3 yU (bf ma (ae7 a1 a2 b3 b4) [⟨[],[],[4]⟩,⟨[],[],[4]⟩,⟨[],[],[0,1,5]⟩]) (fun i5=>Sg.cut 1 yU (DG ⟨[],[],[0,1,5]⟩ (yV a1 a2 b3 b4) (Nn) 0 yU (ae4 _) (fun i6=>Z6 a1 a2 b3 b4 i6)) (fun _=>bf ma kb [⟨[],[],[4]⟩]))))
    (fun x=>by cases x with | r0 i7=>exact jR [.int .i64 i7])
def tF:Option hZ→Bool
  | some _=>true
  | none=>false
def tG:Option hZ→Int
  | some (.r0 x)=>x
  | _=>0
theorem afa{x:Option hZ}(h:tF x=true) :x=some (.r0 (tG x)):=by
  unfold tF at h
  split at h<;>first | rfl | (cases h;done) | (rename_i y;cases y;rfl)
noncomputable def Qs:ax:=bx AL (.cons (.ns .u64) (.cons (.ns .u64) .nil)) fun t=>(fun q=>[⟨Hk (.r0 (tG q)),[tF q]⟩]) (oM t.1.2 t.2.1.2)
theorem V9:aI prog Qs:=aE fun t=>(aF (fun h=>ae9 t.1.1 t.1.2 t.2.1.1 t.2.1.2 (afa h)) aQ)
noncomputable def Qt:List ax:=Qs::Jx
theorem fN:aJ prog (aG Qt):=aj V9 ma
inductive dI where
  | r0 (i18:Int) (a19:Nat)
def Qu:dI→AE×aC
  | .r0 i18 a19=>(.ret,⟨ae 49 [(4,.int .i64 i18),(5,.int .i64 ((a19:Nat):Int))],[],0⟩)
theorem lc:jm Qu:=by intro x;cases x<;>(intro h;cases h)
def Hl:dI→fU
  | .r0 i18 a19=>⟨.tup [.int .i64 i18,.int .i64 ((a19:Nat):Int)],[]⟩
def afb(a_0:Bool)(v_1:Lv)(a_2:List Int)(a_3:Int)(b_4:Bool)(v_5:Lv)(b_6:List Int)(b_7:Int)(b1:Bool) :aC:=⟨ae 49 [(2,.ptr 0 1 0 0),(3,.ptr 1 1 0 0),(16,.bool false b1)],[(0,.vs [.bool false a_0,.imm v_1 (.ns .u64 a_2) 1 1 0 (List.length a_2),.int .i64 a_3]),(1,.vs [.bool false b_4,.imm v_5 (.ns .u64 b_6) 1 1 0 (List.length b_6),.int .i64 b_7])],2⟩
def Ct(a_2:List Int)(a_3:Int)(b_6:List Int)(b_7:Int) :T ((Bool)⊕(dI)) :=
  .need (aK 0 (List.length a_2) a_2)<|.need (kW (fw (aa 0 (List.length a_2) a_2) a_3))<|.ask (!(jV (fw (aa 0 (List.length a_2) a_2) a_3)))
    (.leaf (.inl true))
    (.need (aK 0 (List.length b_6) b_6)<|.need (kW (fw (aa 0 (List.length b_6) b_6) b_7))<|.leaf (.inl (!(jV (fw (aa 0 (List.length b_6) b_6) b_7)))))
def afc:Bool×(List Int)×Nat×Int×Bool×(List Int)×Nat×Int→aC:=fun (b2,l3,a4,i5,b6,l7,a8,i9)=>⟨ae 49 [(2,.ptr 0 1 0 0),(3,.ptr 1 1 0 0)],[(0,.vs [.bool false b2,.imm .free (.ns .u64 l3) 1 1 0 a4,.int .i64 i5]),(1,.vs [.bool false b6,.imm .free (.ns .u64 l7) 1 1 0 a8,.int .i64 i9])],2⟩
def Cu(a_0:Bool)(a_2:List Int)(a_3:Int)(b_4:Bool)(b_6:List Int)(b_7:Int)(b1:Bool) :T ((Bool×(List Int)×Nat×Int×Bool×(List Int)×Nat×Int)⊕(dI)) :=
  .ask b1
    (.leaf (.inr (.r0 (0:Int) 2)))
    (.need (aK 0 (List.length a_2) a_2)<|.need (iM (bh a_0 (aa 0 (List.length a_2) a_2) a_3))<|.need (aK 0 (List.length b_6) b_6)<|.need (iM (bh b_4 (aa 0 (List.length b_6) b_6) b_7))<|.leaf (.inl ((hD (bh a_0 (aa 0 (List.length a_2) a_2) a_3)),(hH (bh a_0 (aa 0 (List.length a_2) a_2) a_3)),(hJ (bh a_0 (aa 0 (List.length a_2) a_2) a_3)),(hP (bh a_0 (aa 0 (List.length a_2) a_2) a_3)),(hD (bh b_4 (aa 0 (List.length b_6) b_6) b_7)),(hH (bh b_4 (aa 0 (List.length b_6) b_6) b_7)),(hJ (bh b_4 (aa 0 (List.length b_6) b_6) b_7)),(hP (bh b_4 (aa 0 (List.length b_6) b_6) b_7)))))
def afd(b2:Bool)(l3:List Int)(a4:Nat)(i5:Int)(b6:Bool)(l7:List Int)(a8:Nat)(i9:Int)(b10:Bool) :aC:=⟨ae 49 [(2,.ptr 0 1 0 0),(3,.ptr 1 1 0 0),(23,.bool false b10)],[(0,.vs [.bool false b2,.imm .free (.ns .u64 l3) 1 1 0 a4,.int .i64 i5]),(1,.vs [.bool false b6,.imm .free (.ns .u64 l7) 1 1 0 a8,.int .i64 i9])],2⟩
def Cv(l3:List Int)(a4:Nat)(i5:Int)(l7:List Int)(a8:Nat)(i9:Int) :T ((Bool)⊕(dI)) :=
  .need (aK 0 a4 l3)<|.need (aK 0 a8 l7)<|.need (yT (wS (aa 0 a4 l3) i5 (aa 0 a8 l7) i9))<|.leaf (.inl (As (wS (aa 0 a4 l3) i5 (aa 0 a8 l7) i9)))
def afe(b2:Bool)(l3:List Int)(a4:Nat)(i5:Int)(b6:Bool)(l7:List Int)(a8:Nat)(i9:Int)(b11:Bool) :aC:=⟨ae 49 [(2,.ptr 0 1 0 0),(3,.ptr 1 1 0 0),(28,.bool false b11)],[(0,.vs [.bool false b2,.imm .free (.ns .u64 l3) 1 1 0 a4,.int .i64 i5]),(1,.vs [.bool false b6,.imm .free (.ns .u64 l7) 1 1 0 a8,.int .i64 i9])],2⟩
def Cw(b2:Bool)(l3:List Int)(a4:Nat)(b6:Bool)(l7:List Int)(a8:Nat)(b10:Bool) :T ((Bool)⊕(dI)) :=
  .ask b10
    (.leaf (.inr (.r0 (0:Int) 3)))
    (.need (aK 0 a4 l3)<|.need (lr (gU b2 (aa 0 a4 l3)))<|.need (aK 0 a8 l7)<|.need (lr (gU b6 (aa 0 a8 l7)))<|.leaf (.inl ((kx (gU b2 (aa 0 a4 l3))) != (kx (gU b6 (aa 0 a8 l7))))))
def aff(b2:Bool)(l3:List Int)(a4:Nat)(i5:Int)(b6:Bool)(l7:List Int)(a8:Nat)(i9:Int)(_:Unit) :aC:=⟨ae 49 [(2,.ptr 0 1 0 0),(3,.ptr 1 1 0 0)],[(0,.vs [.bool false b2,.imm .free (.ns .u64 l3) 1 1 0 a4,.int .i64 i5]),(1,.vs [.bool false b6,.imm .free (.ns .u64 l7) 1 1 0 a8,.int .i64 i9])],2⟩
def Cx(b2:Bool)(l3:List Int)(a4:Nat)(b6:Bool)(l7:List Int)(a8:Nat)(b11:Bool) :T ((Unit)⊕(dI)) :=
  .ask b11
    (.need (aK 0 a4 l3)<|.need (lr (gU b2 (aa 0 a4 l3)))<|.need (aK 0 a8 l7)<|.need (lr (gU b6 (aa 0 a8 l7)))<|.ask (decide ((kx (gU b2 (aa 0 a4 l3)))<(kx (gU b6 (aa 0 a8 l7)))))
      (.leaf (.inr (.r0 (-1:Int) 0)))
      (.leaf (.inr (.r0 (1:Int) 0))))
    (.leaf (.inl ()))
def afg(b2:Bool)(l3:List Int)(a4:Nat)(i5:Int) :(List Int)×Nat×(List Int)×Nat→aC:=fun (x12,x13,y14,y15)=>⟨ae 49 [(2,.ptr 0 1 0 0),(6,.imm .free (.ns .u64 x12) 1 1 0 x13),(7,.imm .free (.ns .u64 y14) 1 1 0 y15)],[(0,.vs [.bool false b2,.imm .free (.ns .u64 l3) 1 1 0 a4,.int .i64 i5])],1⟩
def Cy(l3:List Int)(a4:Nat)(i5:Int)(l7:List Int)(a8:Nat)(i9:Int) :T (((List Int)×Nat×(List Int)×Nat)⊕(dI)) :=
  .need (aK 0 a4 l3)<|.need (aK 0 a8 l7)<|.need (tE (iO (aa 0 a4 l3) i5 (aa 0 a8 l7) i9))<|.leaf (.inl ((vf (iO (aa 0 a4 l3) i5 (aa 0 a8 l7) i9)),(vg (iO (aa 0 a4 l3) i5 (aa 0 a8 l7) i9)),(vh (iO (aa 0 a4 l3) i5 (aa 0 a8 l7) i9)),(vi (iO (aa 0 a4 l3) i5 (aa 0 a8 l7) i9))))
def afh(x12:List Int)(x13:Nat)(y14:List Int)(y15:Nat)(_:Unit) :aC:=⟨ae 49 [(6,.imm .free (.ns .u64 x12) 1 1 0 x13),(7,.imm .free (.ns .u64 y14) 1 1 0 y15)],[],0⟩
def Cz(b2:Bool)(x12:List Int)(x13:Nat)(y14:List Int)(y15:Nat) :T ((Unit)⊕(dI)) :=
  .ask b2
    (.need (aK 0 y15 y14)<|.need (aK 0 x13 x12)<|.need (tF (oM (aa 0 y15 y14) (aa 0 x13 x12)))<|.leaf (.inr (.r0 (tG (oM (aa 0 y15 y14) (aa 0 x13 x12))) 0)))
    (.leaf (.inl ()))
def afi(i17:Int) :aC:=⟨ae 49 [(4,.int .i64 i17),(5,.int .i64 (0:Int))],[],0⟩
def CA(x12:List Int)(x13:Nat)(y14:List Int)(y15:Nat) :T ((Int)⊕(dI)) :=
  .need (aK 0 x13 x12)<|.need (aK 0 y15 y14)<|.need (tF (oM (aa 0 x13 x12) (aa 0 y15 y14)))<|.leaf (.inl (tG (oM (aa 0 x13 x12) (aa 0 y15 y14))))
def Z8(i17:Int) :T ((Empty)⊕(dI)) :=
  .leaf (.inr (.r0 i17 0))
noncomputable def wT(a_0:Bool)(a_2:List Int)(a_3:Int)(b_4:Bool)(b_6:List Int)(b_7:Int) :Option dI:=jP (aB ((Ct a_2 a_3 b_6 b_7).run) fun b1 =>
  aB ((Cu a_0 a_2 a_3 b_4 b_6 b_7 b1).run) fun (b2,l3,a4,i5,b6,l7,a8,i9) =>
  aB ((Cv l3 a4 i5 l7 a8 i9).run) fun b10 =>
  aB ((Cw b2 l3 a4 b6 l7 a8 b10).run) fun b11 =>
  aB ((Cx b2 l3 a4 b6 l7 a8 b11).run) fun _ =>
  aB ((Cy l3 a4 i5 l7 a8 i9).run) fun (x12,x13,y14,y15) =>
  aB ((Cz b2 x12 x13 y14 y15).run) fun _ =>
  aB ((CA x12 x13 y14 y15).run) fun i17 =>
  (Z8 i17).run)
theorem afj(a_0:Bool)(v_1:Lv)(a_2:List Int)(a_3:Int)(b_4:Bool)(v_5:Lv)(b_6:List Int)(b_7:Int){x:dI}(h:wT a_0 a_2 a_3 b_4 b_6 b_7=some x) :ai prog F0 [] [.agg [.bool false a_0,.imm v_1 (.ns .u64 a_2) 1 1 0 (List.length a_2),.int .i64 a_3],.agg [.bool false b_4,.imm v_5 (.ns .u64 b_6) 1 1 0 (List.length b_6),.int .i64 b_7]] (Hl x) :=
  kh true Hl Qu h (Sg.cut 2 lc (bf fN (afb a_0 v_1 a_2 a_3 b_4 v_5 b_6 b_7) [⟨[],[0,16],[2,3,16]⟩,⟨[],[0,16],[2,3,16]⟩]) (fun b1=>Sg.cut 2 lc (bf fN afc [⟨[],[],[4,5]⟩,⟨[],[0,1],[2,3]⟩]) (fun ⟨b2,l3,a4,i5,b6,l7,a8,i9⟩=>Sg.cut 1 lc (bf fN (afd b2 l3 a4 i5 b6 l7 a8 i9) [⟨[],[0,1],[2,3,23]⟩]) (fun b10=>Sg.cut 2 lc (bf fN (afe b2 l3 a4 i5 b6 l7 a8 i9) [⟨[],[],[4,5]⟩,⟨[],[0,1],[2,3,28]⟩]) (fun b11=>Sg.cut 1 lc (bf fN (aff b2 l3 a4 i5 b6 l7 a8 i9) [⟨[],[],[4,5]⟩,⟨[],[],[4,5]⟩,⟨[],[0,1],[2,3]⟩]) (fun _=>Sg.cut 1 lc (bf fN (afg b2 l3 a4 i5) [⟨[],[0],[2,6,7]⟩]) (fun ⟨x12,x13,y14,y15⟩=>Sg.cut 2 lc (bf fN (afh x12 x13 y14 y15) [⟨[],[],[4,5]⟩,⟨[],[],[6,7]⟩]) (fun _=>Sg.cut 1 lc (bf fN afi [⟨[],[],[4,5]⟩]) (fun i17=>bf fN kb [⟨[],[],[4,5]⟩])))))))))
    (fun x=>by cases x with | r0 i18 a19=>exact jR [.int .i64 i18,.int .i64 ((a19:Nat):Int)])
def tH:Option dI→Bool
  | some _=>true
  | none=>false
def tI:Option dI→Int
  | some (.r0 x _)=>x
  | _=>0
def Hm:Option dI→Nat
  | some (.r0 _ x)=>x
  | _=>0
theorem afk{x:Option dI}(h:tH x=true) :x=some (.r0 (tI x) (Hm x)):=by
  unfold tH at h
  split at h<;>first | rfl | (cases h;done) | (rename_i y;cases y;rfl)
noncomputable def Qv:ax:=bx F0 (.cons (.agg (.cons .bool (.cons (.ns .u64) (.cons (.int .i64) .nil)))) (.cons (.agg (.cons .bool (.cons (.ns .u64) (.cons (.int .i64) .nil)))) .nil)) fun t=>(fun q=>[⟨Hl (.r0 (tI q) (Hm q)),[tH q]⟩]) (wT t.1.1 t.1.2.1.2 t.1.2.2.1 t.2.1.1 t.2.1.2.1.2 t.2.1.2.2.1)
theorem Wa:aI prog Qv:=aE fun t=>(aF (fun h=>afj t.1.1 t.1.2.1.1 t.1.2.1.2 t.1.2.2.1 t.2.1.1 t.2.1.2.1.1 t.2.1.2.1.2 t.2.1.2.2.1 (afk h)) aQ)
noncomputable def Qw:List ax:=Qv::Qt
theorem mb:aJ prog (aG Qw):=aj Wa fN
inductive dp where
  | r0 (a8:Nat)
def tJ:dp→AE×aC
  | .r0 a8=>(.ret,⟨ae 48 [(4,.int .i64 ((a8:Nat):Int))],[],0⟩)
theorem nI:jm tJ:=by intro x;cases x<;>(intro h;cases h)
theorem RR(id:Nat) :lD id tJ:=by intro x;cases x<;>(intro h;cases h)
def Au:dp→fU
  | .r0 a8=>⟨.int .i64 ((a8:Nat):Int),[]⟩
noncomputable def OT:List Code:=cp (md zw)
def RS(v_0:Lv)(s_1:List Nat)(t_2:Nat)(_:Unit) :aC:=⟨ae 48 [(0,.imm v_0 (.fl s_1) 1 1 0 (List.length s_1)),(1,.flt false t_2),(5,.int .i64 (0:Int)),(6,.int .i64 (0:Int))],[],0⟩
def OU:T ((Unit)⊕(dp)) :=
  .leaf (.inl ())
def rp(v_0:Lv)(s_1:List Nat)(t_2:Nat) :Nat×Nat→aC:=fun (n3,i4)=>⟨ae 48 [(0,.imm v_0 (.fl s_1) 1 1 0 (List.length s_1)),(1,.flt false t_2),(5,.int .i64 ((n3:Nat):Int)),(6,.int .i64 ((i4:Nat):Int))],[],0⟩
def Fs(n7:Nat) :aC:=⟨ae 48 [(5,.int .i64 ((n7:Nat):Int))],[],0⟩
noncomputable def OV:List Code:=cp (dg ((((OT.drop 3).take 1)).headD .skip))
def RT(v_0:Lv)(s_1:List Nat)(t_2:Nat)(n3:Nat)(i4:Nat)(b5:Bool) :aC:=⟨ae 48 [(0,.imm v_0 (.fl s_1) 1 1 0 (List.length s_1)),(1,.flt false t_2),(5,.int .i64 ((n3:Nat):Int)),(6,.int .i64 ((i4:Nat):Int)),(20,.bool false b5)],[],0⟩
def mc(s_1:List Nat)(i4:Nat) :T ((Bool)⊕((Nat)⊕(dp))) :=
  .ask (decide (((i4:Nat):Int)<(((List.length s_1):Nat):Int)))
    (.need (fp (0:Int) (List.length s_1))<|.need (fO 0 (List.length s_1))<|.leaf (.inl (fne (List.getD s_1 0 0) 0)))
    (.leaf (.inl false))
def RU(v_0:Lv)(s_1:List Nat)(t_2:Nat)(i4:Nat)(n6:Nat) :aC:=⟨ae 48 [(0,.imm v_0 (.fl s_1) 1 1 0 (List.length s_1)),(1,.flt false t_2),(5,.int .i64 ((n6:Nat):Int)),(6,.int .i64 ((i4:Nat):Int))],[],0⟩
def jL(s_1:List Nat)(t_2:Nat)(n3:Nat)(i4:Nat)(b5:Bool) :T ((Nat)⊕((Nat)⊕(dp))) :=
  .ask b5
    (.need (jU (ag t_2))<|.need (fp (0:Int) (List.length s_1))<|.need (fO 0 (List.length s_1))<|.need (jU (ag (List.getD s_1 0 0)))<|.need (aK 0 (aT (ag t_2)) (aS (ag t_2)))<|.need (aK 0 (aT (ag (List.getD s_1 0 0))) (aS (ag (List.getD s_1 0 0))))<|.need (tu (fA (aZ (ag t_2)) (aa 0 (aT (ag t_2)) (aS (ag t_2))) (ba (ag t_2)) (aZ (ag (List.getD s_1 0 0))) (aa 0 (aT (ag (List.getD s_1 0 0))) (aS (ag (List.getD s_1 0 0)))) (ba (ag (List.getD s_1 0 0)))))<|.need (fp ((i4:Nat):Int) (List.length s_1))<|.need (fO i4 (List.length s_1))<|.need (jU (ag (List.getD s_1 i4 0)))<|.need (aK 0 (aT (ag (List.getD s_1 i4 0))) (aS (ag (List.getD s_1 i4 0))))<|.need (aK 0 (lW (fA (aZ (ag t_2)) (aa 0 (aT (ag t_2)) (aS (ag t_2))) (ba (ag t_2)) (aZ (ag (List.getD s_1 0 0))) (aa 0 (aT (ag (List.getD s_1 0 0))) (aS (ag (List.getD s_1 0 0)))) (ba (ag (List.getD s_1 0 0))))) (lV (fA (aZ (ag t_2)) (aa 0 (aT (ag t_2)) (aS (ag t_2))) (ba (ag t_2)) (aZ (ag (List.getD s_1 0 0))) (aa 0 (aT (ag (List.getD s_1 0 0))) (aS (ag (List.getD s_1 0 0)))) (ba (ag (List.getD s_1 0 0))))))<|.need (tH (wT (aZ (ag (List.getD s_1 i4 0))) (aa 0 (aT (ag (List.getD s_1 i4 0))) (aS (ag (List.getD s_1 i4 0)))) (ba (ag (List.getD s_1 i4 0))) (oK (fA (aZ (ag t_2)) (aa 0 (aT (ag t_2)) (aS (ag t_2))) (ba (ag t_2)) (aZ (ag (List.getD s_1 0 0))) (aa 0 (aT (ag (List.getD s_1 0 0))) (aS (ag (List.getD s_1 0 0)))) (ba (ag (List.getD s_1 0 0))))) (aa 0 (lW (fA (aZ (ag t_2)) (aa 0 (aT (ag t_2)) (aS (ag t_2))) (ba (ag t_2)) (aZ (ag (List.getD s_1 0 0))) (aa 0 (aT (ag (List.getD s_1 0 0))) (aS (ag (List.getD s_1 0 0)))) (ba (ag (List.getD s_1 0 0))))) (lV (fA (aZ (ag t_2)) (aa 0 (aT (ag t_2)) (aS (ag t_2))) (ba (ag t_2)) (aZ (ag (List.getD s_1 0 0))) (aa 0 (aT (ag (List.getD s_1 0 0))) (aS (ag (List.getD s_1 0 0)))) (ba (ag (List.getD s_1 0 0)))))) (oL (fA (aZ (ag t_2)) (aa 0 (aT (ag t_2)) (aS (ag t_2))) (ba (ag t_2)) (aZ (ag (List.getD s_1 0 0))) (aa 0 (aT (ag (List.getD s_1 0 0))) (aS (ag (List.getD s_1 0 0)))) (ba (ag (List.getD s_1 0 0)))))))<|.ask (decide ((tI (wT (aZ (ag (List.getD s_1 i4 0))) (aa 0 (aT (ag (List.getD s_1 i4 0))) (aS (ag (List.getD s_1 i4 0)))) (ba (ag (List.getD s_1 i4 0))) (oK (fA (aZ (ag t_2)) (aa 0 (aT (ag t_2)) (aS (ag t_2))) (ba (ag t_2)) (aZ (ag (List.getD s_1 0 0))) (aa 0 (aT (ag (List.getD s_1 0 0))) (aS (ag (List.getD s_1 0 0)))) (ba (ag (List.getD s_1 0 0))))) (aa 0 (lW (fA (aZ (ag t_2)) (aa 0 (aT (ag t_2)) (aS (ag t_2))) (ba (ag t_2)) (aZ (ag (List.getD s_1 0 0))) (aa 0 (aT (ag (List.getD s_1 0 0))) (aS (ag (List.getD s_1 0 0)))) (ba (ag (List.getD s_1 0 0))))) (lV (fA (aZ (ag t_2)) (aa 0 (aT (ag t_2)) (aS (ag t_2))) (ba (ag t_2)) (aZ (ag (List.getD s_1 0 0))) (aa 0 (aT (ag (List.getD s_1 0 0))) (aS (ag (List.getD s_1 0 0)))) (ba (ag (List.getD s_1 0 0)))))) (oL (fA (aZ (ag t_2)) (aa 0 (aT (ag t_2)) (aS (ag t_2))) (ba (ag t_2)) (aZ (ag (List.getD s_1 0 0))) (aa 0 (aT (ag (List.getD s_1 0 0))) (aS (ag (List.getD s_1 0 0)))) (ba (ag (List.getD s_1 0 0)))))))>(0:Int)))
      (.need (cV .i64 (((n3+1):Nat):Int))<|.leaf (.inl (n3+1)))
      (.leaf (.inl n3)))
    (.leaf (.inr (.inl n3)))
def OW(i4:Nat)(n6:Nat) :T ((Nat×Nat)⊕((Nat)⊕(dp))) :=
  .need (cV .i64 (((i4+1):Nat):Int))<|.leaf (.inl (n6,(i4+1)))
noncomputable def pu(s_1:List Nat)(t_2:Nat) :Nat×Nat→Option ((Nat×Nat)⊕((Nat)⊕(dp))):=fun (n3,i4) =>
  aB ((mc s_1 i4).run) fun b5 =>
  aB ((jL s_1 t_2 n3 i4 b5).run) fun n6 =>
  (OW i4 n6).run
theorem OX(v_0:Lv)(s_1:List Nat)(t_2:Nat)(n3:Nat)(i4:Nat) :Sg prog [] OV (rp v_0 s_1 t_2 (n3,i4)) (pu s_1 t_2 (n3,i4)) (rp v_0 s_1 t_2) (cN 0 Fs tJ):=by
  unfold pu;exact Sg.cut 1 (aW nI) (bf mb (RT v_0 s_1 t_2 n3 i4) [⟨[],[],[0,1,5,6,20]⟩,⟨[],[],[0,1,5,6,20]⟩]) (fun b5=>Sg.cut 2 (aW nI) (bf mb (RU v_0 s_1 t_2 i4) [⟨[],[],[0,1,5,6]⟩,⟨[],[],[0,1,5,6]⟩,⟨[],[],[5]⟩]) (fun n6=>bf mb (rp v_0 s_1 t_2) [⟨[],[],[0,1,5,6]⟩]))
def OY(n7:Nat) :T ((Empty)⊕(dp)) :=
  .leaf (.inr (.r0 n7))
noncomputable def oN(s_1:List Nat)(t_2:Nat) :Option dp:=jP (aB ((OU).run) fun _ =>
  aB (cU (pu s_1 t_2) (0,0)) fun n7 =>
  (OY n7).run)
theorem RV(v_0:Lv)(s_1:List Nat)(t_2:Nat){x:dp}(h:oN s_1 t_2=some x) :ai prog zw [] [.imm v_0 (.fl s_1) 1 1 0 (List.length s_1),.flt false t_2] (Au x) :=
  kh false Au tJ h (Sg.cut 3 nI (bf mb (RS v_0 s_1 t_2) [⟨[],[],[0,1,5,6]⟩]) (fun _=>Sg.cut 1 nI (DG ⟨[],[],[0,1,5,6]⟩ (rp v_0 s_1 t_2) (Fs) 0 nI (RR _) (fun ⟨n3,i4⟩=>OX v_0 s_1 t_2 n3 i4)) (fun n7=>bf mb kb [⟨[],[],[4]⟩])))
    (fun x=>by cases x with | r0 a8=>exact jR [.int .i64 ((a8:Nat):Int)])
def rq:Option dp→Bool
  | some _=>true
  | none=>false
def nY:Option dp→Nat
  | some (.r0 x)=>x
  | _=>0
theorem RW{x:Option dp}(h:rq x=true) :x=some (.r0 (nY x)):=by
  unfold rq at h
  split at h<;>first | rfl | (cases h;done) | (rename_i y;cases y;rfl)
noncomputable def Hn:ax:=bx zw (.cons .fl (.cons (.flt false) .nil)) fun t=>(fun q=>[⟨Au (.r0 (nY q)),[rq q]⟩]) (oN t.1.2 t.2.1)
theorem No:aI prog Hn:=aE fun t=>(aF (fun h=>RV t.1.1 t.1.2 t.2.1 (RW h)) aQ)
noncomputable def Ho:List ax:=Hn::Qw
theorem gV:aJ prog (aG Ho):=aj No mb
inductive bV where
  | r0 (b7:Bool)
def Av:bV→AE×aC
  | .r0 b7=>(.ret,⟨ae 53 [(4,.bool false b7)],[],0⟩)
theorem ji:jm Av:=by intro x;cases x<;>(intro h;cases h)
def rH:bV→fU
  | .r0 b7=>⟨.bool false b7,[]⟩
def Ic(v_0:Lv)(s_1:List Nat)(t_2:Nat) :Int×Nat→aC:=fun (n1,e2)=>⟨ae 53 [(0,.imm v_0 (.fl s_1) 1 1 0 (List.length s_1)),(1,.flt false t_2),(5,.int .i64 n1),(6,.int .i64 ((e2:Nat):Int))],[],0⟩
def lA(s_1:List Nat)(t_2:Nat) :T ((Int×Nat)⊕(bV)) :=
  .ask (decide ((((List.length s_1):Nat):Int)>(600:Int)))
    (.leaf (.inr (.r0 true)))
    (.need (aK 0 (List.length s_1) s_1)<|.need (tg (iK (aa 0 (List.length s_1) s_1) t_2))<|.leaf (.inl ((uY (iK (aa 0 (List.length s_1) s_1) t_2)),(uZ (iK (aa 0 (List.length s_1) s_1) t_2)))))
def Ie(v_0:Lv)(s_1:List Nat)(t_2:Nat)(n1:Int)(e2:Nat)(no3:Nat) :aC:=⟨ae 53 [(0,.imm v_0 (.fl s_1) 1 1 0 (List.length s_1)),(1,.flt false t_2),(5,.int .i64 n1),(6,.int .i64 ((e2:Nat):Int)),(7,.int .i64 ((no3:Nat):Int))],[],0⟩
def pI(s_1:List Nat) :T ((Nat)⊕(bV)) :=
  .need (aK 0 (List.length s_1) s_1)<|.need (yJ (wO (aa 0 (List.length s_1) s_1)))<|.leaf (.inl (Af (wO (aa 0 (List.length s_1) s_1))))
def If(v_0:Lv)(s_1:List Nat)(t_2:Nat)(n1:Int)(e2:Nat)(no3:Nat)(b4:Bool) :aC:=⟨ae 53 [(0,.imm v_0 (.fl s_1) 1 1 0 (List.length s_1)),(1,.flt false t_2),(5,.int .i64 n1),(6,.int .i64 ((e2:Nat):Int)),(7,.int .i64 ((no3:Nat):Int)),(26,.bool false b4)],[],0⟩
def dW(t_2:Nat)(no3:Nat) :T ((Bool)⊕(bV)) :=
  .ask (((no3:Nat):Int) != (2:Int))
    (.need (vW (sX t_2))<|.leaf (.inl (!(xG (sX t_2)))))
    (.leaf (.inl false))
def Ig(v_0:Lv)(s_1:List Nat)(t_2:Nat)(n1:Int)(e2:Nat)(no5:Nat) :aC:=⟨ae 53 [(0,.imm v_0 (.fl s_1) 1 1 0 (List.length s_1)),(1,.flt false t_2),(5,.int .i64 n1),(6,.int .i64 ((e2:Nat):Int)),(7,.int .i64 ((no5:Nat):Int))],[],0⟩
def gk(no3:Nat)(b4:Bool) :T ((Nat)⊕(bV)) :=
  .ask b4
    (.leaf (.inl 2))
    (.leaf (.inl no3))
def Ih(b6:Bool) :aC:=⟨ae 53 [(4,.bool false b6)],[],0⟩
def oO(s_1:List Nat)(t_2:Nat)(n1:Int)(e2:Nat)(no5:Nat) :T ((Bool)⊕(bV)) :=
  .ask (((no5:Nat):Int) != (0:Int))
    (.ask (n1==(0:Int))
      (.ask (((e2:Nat):Int)==((no5:Nat):Int))
        (.leaf (.inr (.r0 true)))
        (.leaf (.inr (.r0 false))))
      (.leaf (.inr (.r0 false))))
    (.need (aK 0 (List.length s_1) s_1)<|.need (rq (oN (aa 0 (List.length s_1) s_1) t_2))<|.ask (n1==(((nY (oN (aa 0 (List.length s_1) s_1) t_2)):Nat):Int))
      (.ask (((e2:Nat):Int)==(0:Int))
        (.leaf (.inl true))
        (.leaf (.inl false)))
      (.leaf (.inl false)))
def Hp(b6:Bool) :T ((Empty)⊕(bV)) :=
  .leaf (.inr (.r0 b6))
noncomputable def mP(s_1:List Nat)(t_2:Nat) :Option bV:=jP (aB ((lA s_1 t_2).run) fun (n1,e2) =>
  aB ((pI s_1).run) fun no3 =>
  aB ((dW t_2 no3).run) fun b4 =>
  aB ((gk no3 b4).run) fun no5 =>
  aB ((oO s_1 t_2 n1 e2 no5).run) fun b6 =>
  (Hp b6).run)
theorem yc(v_0:Lv)(s_1:List Nat)(t_2:Nat){x:bV}(h:mP s_1 t_2=some x) :ai prog rr [] [.imm v_0 (.fl s_1) 1 1 0 (List.length s_1),.flt true t_2] (rH x) :=
  kh false rH Av h (Sg.cut 4 ji (bf gV (Ic v_0 s_1 t_2) [⟨[],[],[4]⟩,⟨[],[],[0,1,5,6]⟩]) (fun ⟨n1,e2⟩=>Sg.cut 1 ji (bf gV (Ie v_0 s_1 t_2 n1 e2) [⟨[],[],[0,1,5,6,7]⟩]) (fun no3=>Sg.cut 1 ji (bf gV (If v_0 s_1 t_2 n1 e2 no3) [⟨[],[],[0,1,5,6,7,26]⟩,⟨[],[],[0,1,5,6,7,26]⟩]) (fun b4=>Sg.cut 1 ji (bf gV (Ig v_0 s_1 t_2 n1 e2) [⟨[],[],[0,1,5,6,7]⟩,⟨[],[],[0,1,5,6,7]⟩]) (fun no5=>Sg.cut 3 ji (bf gV Ih [⟨[],[],[4]⟩,⟨[],[],[4]⟩,⟨[],[],[4]⟩,⟨[],[],[4]⟩,⟨[],[],[4]⟩,⟨[],[],[4]⟩]) (fun b6=>bf gV kb [⟨[],[],[4]⟩]))))))
    (fun x=>by cases x with | r0 b7=>exact jR [.bool false b7])
def pJ:Option bV→Bool
  | some _=>true
  | none=>false
def uq:Option bV→Bool
  | some (.r0 x)=>x
  | _=>false
theorem Ii{x:Option bV}(h:pJ x=true) :x=some (.r0 (uq x)):=by
  unfold pJ at h
  split at h<;>first | rfl | (cases h;done) | (rename_i y;cases y;rfl)
noncomputable def Aw:ax:=bx rr (.cons .fl (.cons (.flt true) .nil)) fun t=>(fun q=>[⟨rH (.r0 (uq q)),[pJ q]⟩]) (mP t.1.2 t.2.1)
theorem Fv:aI prog Aw:=aE fun t=>(aF (fun h=>yc t.1.1 t.1.2 t.2.1 (Ii h)) aQ)
noncomputable def KE:List ax:=Aw::Ho
theorem aft:aJ prog (aG KE):=aj Fv gV
end
end Go.Plb.Seat
namespace Go.Plb.Seat
open Go Go.Plb
set_option linter.unusedSimpArgs false
set_option linter.unusedVariables false
theorem amN{α:Type}{n:Nat}{l:List α}(h:l.length=n) :aK 0 n l=true:=by rw [←h];exact agy l
theorem ak{α:Type}{b:Bool}{t:T α}{x:Option α}(k:t.run=x)(h:b=true:=by simp only [cO,AU,CJ,nU,oR,gC,oS,oT,decide_eq_true_eq,decide_eq_false_iff_not,beq_iff_eq,beq_eq_false_iff_ne,bne_iff_ne,bne_eq_false_iff_eq,Bool.not_eq_true',Bool.not_eq_false',List.length_set,ne_eq,ge_iff_le,gt_iff_lt,kC,cM,wE];omega) :(T.need b t).run=x:=fE h k
theorem cg{α:Type}{b:Bool}{t f:T α}{x:Option α}(k:t.run=x)(h:b=true:=by simp only [cO,AU,CJ,nU,oR,gC,oS,oT,decide_eq_true_eq,decide_eq_false_iff_not,beq_iff_eq,beq_eq_false_iff_ne,bne_iff_ne,bne_eq_false_iff_eq,Bool.not_eq_true',Bool.not_eq_false',List.length_set,ne_eq,ge_iff_le,gt_iff_lt,kC,cM,wE];omega) :(T.ask b t f).run=x:=tL h k
theorem cG{α:Type}{b:Bool}{t f:T α}{x:Option α}(k:f.run=x)(h:b=false:=by simp only [cO,AU,CJ,nU,oR,gC,oS,oT,decide_eq_true_eq,decide_eq_false_iff_not,beq_iff_eq,beq_eq_false_iff_ne,bne_iff_ne,bne_eq_false_iff_eq,Bool.not_eq_true',Bool.not_eq_false',List.length_set,ne_eq,ge_iff_le,gt_iff_lt,kC,cM,wE];omega) :(T.ask b t f).run=x:=kg h k
theorem jb{α:Type}{b:Bool}{t:T α}{x:Option α}(k:t.run=x)(h:b=true:=by exact amN aw) :(T.need b t).run=x:=fE h k
theorem cH{v n m:Nat}(h:m≤n) :aK 0 m (aL v n)=true:=by rw [gC,aw];omega
theorem nQ{v n:Nat}(h:v<W^n)(hn:n≤1000000000) :ay (aL v n)=some (.r0 (aL v n) (nl v)):=by
  have hl:=me h
  refine bi (ah rfl (ah (a:=nl v) (cr (fun j=>n-j) (n-nl v) (by simp only [aw];rfl) (fun j hj=>?_) ?_) rfl))
  · show aB (sy _ _).run _=_
    have e:Int.toNat (((n-j:Nat):Int)-1)=n-(j+1):=by omega
    have z:(aL v n).getD (n-(j+1)) 0=0:=by
      rw [cj h]
      exact AW (Nat.lt_of_lt_of_le (ej v) (Nat.pow_le_pow_right (by decide) (by omega)))
    refine ah (a:=true) ?_ ?_
    · unfold sy
      rw [e,z,aw]
      exact cg (ak (ak (ak rfl)))
    · unfold LH
      rw [e]
      exact co (ak (ak (ak rfl)))
  · have e0:n-(n-nl v)=nl v:=by omega
    show aB (sy _ _).run _=_
    rw [e0]
    by_cases h0:v=0
    · have z:=je.2 h0
      rw [z]
      exact ah (a:=false) (bz rfl) (bz rfl)
    · have hp:=zE h0
      have e:Int.toNat (((nl v:Nat):Int)-1)=nl v-1:=by omega
      refine ah (a:=false) ?_ (bz rfl)
      unfold sy
      rw [e,cj h,aw]
      refine cg (ak (ak (ak ?_)))
      show some (Sum.inl _)=_
      congr 2
      rw [beq_eq_false_iff_ne];exact ack h0
theorem EX{v n:Nat}(h:v<W^n)(hn:n≤1000000000) :bk (aL v n) 0 n n=some (.r0 0 (nl v) n (aL v n)):=by
  have hl:=me h
  refine bi (ah rfl (ah (a:=(0,nl v)) (cr (fun j=>(0,n-j)) (n-nl v) rfl (fun j hj=>?_) ?_) rfl))
  · show aB (mY _ _ _).run _=_
    have e:Int.toNat (((n-j:Nat):Int)-1)=n-(j+1):=by omega
    have z:(aL v n).getD (n-(j+1)) 0=0:=by
      rw [cj h]
      exact AW (Nat.lt_of_lt_of_le (ej v) (Nat.pow_le_pow_right (by decide) (by omega)))
    refine ah (a:=true) ?_ ?_
    · unfold mY
      rw [e,ky,Nat.zero_add,z,aw]
      exact cg (ak (ak (ak rfl)))
    · unfold Fc
      rw [e]
      exact co (ak (ak (ak rfl)))
  · have e0:n-(n-nl v)=nl v:=by omega
    show aB (mY _ _ _).run _=_
    rw [e0]
    by_cases h0:v=0
    · have z:=je.2 h0
      rw [z]
      exact ah (a:=false) (bz rfl) (bz rfl)
    · have hp:=zE h0
      have e:Int.toNat (((nl v:Nat):Int)-1)=nl v-1:=by omega
      refine ah (a:=false) ?_ (bz rfl)
      unfold mY
      rw [e,ky,Nat.zero_add,cj h,aw]
      refine cg (ak (ak (ak ?_)))
      show some (Sum.inl _)=_
      congr 2
      rw [beq_eq_false_iff_ne];exact ack h0
theorem abb{v n:Nat}(h:v<W^n)(hn:n≤1000000000) :oj (aL v n)=some (if 4096<nl v then .r0 0 2 [] else .r0 (nl v) 0 (aL v (nl v))):=by
  have hl:=me h
  have hc:aa 0 (aL v n).length (aL v n)=aL v n:=bj _
  by_cases hb:4096<nl v
  · rw [if_pos hb]
    refine bi (ah (a:=(2,aL v n,nl v)) ?_ (co rfl))
    unfold Gk
    rw [hc,nQ h hn]
    simp only [ca,aU,aD]
    exact co (aA (cK (aA (cg rfl))))
  · rw [if_neg hb]
    refine bi (ah (a:=(0,aL v n,nl v)) ?_ ?_)
    · unfold Gk
      rw [hc,nQ h hn]
      simp only [ca,aU,aD]
      exact co (aA (cK (aA (cG (aA (bz rfl))))))
    · show (Gl _ _ _).run=_
      unfold Gl
      rw [dN hl,aw]
      exact bz (fE (cH hl) (ak rfl))
theorem aq3{v:Nat}(h:v<W) :bt (v:Int)=some (.r0 0 (nl v) 1 (aL v 1)):=by
  have e:([(v:Int)]:List Int)=aL v 1:=by
    show [(v:Int)]=[]++[lm v 0]
    unfold lm;rw [Nat.pow_zero,Nat.div_one,Nat.mod_eq_of_lt h];rfl
  refine bi (ah (a:=(0,nl v,1,aL v 1)) ?_ rfl)
  unfold aaE
  rw [e,EX (by rw [Nat.pow_one];exact h) (by decide)]
  exact aA rfl
theorem an3{v n:Nat}(h:v<W^n)(hn:n≤1000000000) :fW (aL v n) 0 n n=some (if 4096<nl v then .r0 (aL v n) else .r1 0 (nl v) n (aL v n)):=by
  refine bi (ah (a:=(0,nl v,n,aL v n)) ?_ ?_)
  · unfold Pq
    rw [EX h hn]
    exact aA rfl
  · by_cases hb:4096<nl v
    · rw [if_pos hb];exact cg rfl
    · rw [if_neg hb];exact cG rfl
theorem ap7{a b:Nat}(ha:nl a≤1000000)(hb:nl b≤1000000) :uD (aL a (nl a)) (aL b (nl b))=some (.r0 (sv a b)):=by
  refine bi ?_
  by_cases h1:nl a<nl b
  · have:sv a b = -1:=by unfold sv;rw [if_pos (LA h1)]
    rw [this]
    refine bB ?_
    unfold DJ
    rw [aw,aw]
    exact cg rfl
  by_cases h2:nl b<nl a
  · have hlt:=LA h2
    have:sv a b=1:=by unfold sv;rw [if_neg (by omega),if_pos hlt]
    rw [this]
    refine bB ?_
    unfold DJ
    rw [aw,aw]
    exact cG (cg rfl)
  have hn:nl b=nl a:=by omega
  have hA:=ej a
  have hB:=ej b
  rw [hn] at hB hb ⊢
  generalize nl a=n at *
  refine ah (a:=((n:Int)-1)) ?_ ?_
  · unfold DJ
    rw [aw,aw]
    exact cG (cG (ak rfl))
  have step:∀ j,j<n→lm a (n-1-j)=lm b (n-1-j)→A5 (aL a n) (aL b n) ((n:Int)-1-j)=some (.inl ((n:Int)-1-(j+1:Nat))):=by
    intro j hj he
    show (zH _ _ _).run=_
    unfold zH
    have e:Int.toNat ((n:Int)-1-(j:Int))=n-1-j:=by omega
    rw [e,cj hA,cj hB,aw,aw,he]
    refine cg (ak (ak (ak (ak (kg (by simp) (ak (ak (ak (ak (kg (by simp) (ak ?_)))))))))))
    show some (Sum.inl _)=_
    congr 2;omega
  by_cases hall:∀ j,j<n→lm a (n-1-j)=lm b (n-1-j)
  · have hab:a=b:=by
      have:=Gf hA hB (d:=n) (Nat.le_refl _) fun k _ h2=>by
        have:=hall (n-1-k) (by omega)
        rwa [show n-1-(n-1-k)=k by omega] at this
      simpa using this
    subst hab
    have:sv a a=0:=by unfold sv;rw [if_neg (Nat.lt_irrefl _),if_neg (Nat.lt_irrefl _)]
    rw [this]
    exact ah (cr (fun j=>(n:Int)-1-(j:Nat)) n (by omega) (fun j hj=>step j hj (hall j hj)) (cG rfl)) rfl
  · obtain ⟨k,hk,hb',hf⟩:=uA hall
    have hup:a/W^(n-1-k+1)=b/W^(n-1-k+1):=by
      have:=Gf hA hB (d:=k) (by omega) fun i h1 h2=>by
        have:=hf (n-1-i) (by omega)
        rwa [show n-1-(n-1-i)=i by omega] at this
      rwa [show n-k=n-1-k+1 by omega] at this
    refine bB (cr (fun j=>(n:Int)-1-(j:Nat)) k (by omega) (fun j hj=>step j (by omega) (hf j hj)) ?_)
    show (zH _ _ _).run=_
    unfold zH
    have e:Int.toNat ((n:Int)-1-(k:Int))=n-1-k:=by omega
    rw [e,cj hA,cj hB,aw,aw]
    refine cg (ak (ak (ak (ak ?_))))
    by_cases hlt:lm a (n-1-k)<lm b (n-1-k)
    · have:=DE hup hlt
      have:sv a b = -1:=by unfold sv;rw [if_pos this]
      rw [this]
      exact tL (decide_eq_true hlt) rfl
    · have hgt:lm b (n-1-k)<lm a (n-1-k):=by omega
      have hlt':=DE hup.symm hgt
      have:sv a b=1:=by unfold sv;rw [if_neg (by omega),if_pos hlt']
      rw [this]
      exact kg (decide_eq_false hlt) (ak (ak (ak (ak (tL (decide_eq_true hgt) rfl)))))
theorem ap8{a b n m:Nat}(ha:a<W^n)(hb:b<W^m)(hn:n≤1000000)(hm:m≤1000000)(h1:nl a≤4096)(h2:nl b≤4096) :
    uE (aL a n) (aL b m)=some (.r0 (sv a b) 0):=by
  have la:=me ha
  have lb:=me hb
  refine bi (ah (a:=(0,aL a n,nl a,aL b m,nl b)) ?_ (ah (a:=sv a b) ?_ rfl))
  · unfold TX
    rw [bj,bj,nQ ha (by omega),nQ hb (by omega)]
    simp only [ca,aU,aD]
    exact co (aA (cK (aA (cG (aA (co (aA (cK (aA (cG (aA (bz rfl))))))))))))
  · unfold TY
    rw [dN la,dN lb,ap7 (by omega) (by omega)]
    exact bz (fE (cH la) (fE (cH lb) (aA rfl)))
theorem alE{x y:Nat}(hx:x<W)(hy:y<W) :fu (x:Int) (y:Int)=some (.r0 ((x*y/W:Nat):Int) ((x*y%W:Nat):Int)):=by
  obtain ⟨h1,h2,h3,h4,h5,h6,h7,h8,h9⟩:=aj1 hx hy
  have s:∀ z:Nat,Int.fdiv (z:Int) (2^(min (Int.toNat (32:Int)) (IntKind.u64.bits)))=((z/4294967296:Nat):Int):=fun z=>AX z (k:=32) (by decide)
  refine bi (ah (a:=(((x%4294967296:Nat):Int),((x/4294967296:Nat):Int),((y/4294967296:Nat):Int),((x/4294967296*(y%4294967296)+x%4294967296*(y%4294967296)/4294967296:Nat):Int))) ?_ ?_)
  · unfold zG
    rw [acm hx,acm hy,s,s,wD,wD,Nat.mod_eq_of_lt h2,Nat.mod_eq_of_lt h3,s,oi,Nat.mod_eq_of_lt h1]
    exact aA (aA (aA rfl))
  · show (rx _ _ _ _ _ _).run=_
    unfold rx
    rw [wD,wD,wD,acm h1,s,oi,oi,Nat.mod_eq_of_lt h4,Nat.mod_eq_of_lt h5,Nat.mod_eq_of_lt h6,Nat.mod_eq_of_lt h7,s,oi,h8,Nat.mod_eq_of_lt h9]
    exact aA (aA rfl)
theorem ap9{O a m k n N:Nat}(hO:O<W^(k+n))(ha:a<W^n)(hm:m<W)(hN:k+n≤N)(hb:N≤1000000) :
    uF (aL O N) k (N-k) (aL a n) (m:Int)=some (.r0 (((O+a*m*W^k)/W^(k+n):Nat):Int) (aL ((O+a*m*W^k)%W^(k+n)) N)):=by
  refine bi (ah rfl (ah (a:=((((O+a*m*W^k)/W^(k+n):Nat):Int),aL ((O+a*m*W^k)%W^(k+n)) N)) ?_ rfl))
  have c0:sw O a m k 0/W^(k+0)=0:=by
    have e:sw O a m k 0=O%W^k:=by unfold sw;rw [Nat.pow_zero,Nat.mod_one,Nat.zero_mul,Nat.zero_mul,Nat.add_zero,Nat.add_zero]
    rw [e,Nat.add_zero,Nat.div_eq_of_lt (Nat.mod_lt _ (iP _))]
  refine cr (fun i=>(((sw O a m k i/W^(k+i):Nat):Int),i,WP O a m k N i)) n (by rw [c0,anA];rfl) (fun i hi=>?_) ?_
  · have hc:=aj2 (O:=O) (a:=a) (m:=m) (k:=k) (i:=i)
    have hcW:sw O a m k i/W^(k+i)<W:=Nat.lt_of_le_of_lt hc hm
    have hla:=Nat.mod_lt (a/W^i) (show W>0 by decide)
    have hlO:=Nat.mod_lt (O/W^(k+i)) (show W>0 by decide)
    have hl:=apu (O:=O) (a:=a) (m:=m) (k:=k) (n:=N) (i:=i)
    have hat:=aqQ (O:=O) (a:=a) (m:=m) (k:=k) (n:=N) (i:=i) (by omega)
    have hst:=anB (O:=O) (a:=a) (m:=m) (k:=k) (n:=N) (i:=i) (by omega)
    obtain ⟨w1,w2,w3,w4⟩:=apw hla hm hcW hlO
    have hS:=Nat.mod_lt (sw O a m k i) (iP (k+i))
    obtain ⟨d1,_⟩:=TD (t:=O/W^(k+i)%W+a/W^i%W*m+sw O a m k i/W^(k+i)) hS
    rw [←aaz] at d1
    show aB (wI _ _ _ _ _ _ _).run _=_
    refine ah (a:=(((sw O a m k (i+1)/W^(k+i+1):Nat):Int),WP O a m k N (i+1))) ?_ (ak rfl)
    unfold wI
    rw [cj ha,su,alE hla hm]
    simp only [jS,kD,gd,ky]
    rw [hat,su,aw,hl]
    simp only [cM,Nat.add_zero]
    rw [oi,Nat.mod_eq_of_lt w2,oi,w1,w3,Nat.mod_eq_of_lt w4,hst,←d1]
    exact cg (ak (ak (aA (aA (ak (ak (aA (ak (ak rfl)))))))))
  · show aB (wI _ _ _ _ _ _ _).run _=_
    refine bB ?_
    unfold wI
    rw [agB hO ha,apv hO,agB hO ha,aw]
    exact kg (by simp) rfl
theorem afl{a b n m:Nat}(ha:a<W^n)(hb:b<W^m) :a*b<W^(n+m):=by
  rw [Nat.pow_add]
  rcases Nat.eq_zero_or_pos b with h | h
  · rw [h,Nat.mul_zero];exact Nat.mul_pos (iP _) (iP _)
  · exact Nat.mul_lt_mul_of_lt_of_le ha (Nat.le_of_lt hb) (iP _) |> fun q=>q
theorem aqa{a b n m:Nat}(ha:a<W^n)(hb:b<W^m)(hn:n≤1000000)(hm:m≤1000000)(h1:nl a+nl b≤4096) :
    rO (aL a n) (aL b m)=some (.r0 0 (nl (a*b)) (nl a+nl b) 0 (aL (a*b) (nl a+nl b))):=by
  have la:=me ha
  have lb:=me hb
  have hA:=ej a
  have hB:=ej b
  have hab:=afl hA hB
  have hnab:=me hab
  refine bi (ah (a:=(0,aL a n,nl a,aL b m,nl b)) ?_ (ah (a:=false) (bz (ak (cG rfl))) (ah (a:=(nl a+nl b,aL 0 (nl a+nl b))) ?_ (ah (a:=aL (a*b) (nl a+nl b)) ?_ (ah (a:=(0,nl (a*b),nl a+nl b,0,aL (a*b) (nl a+nl b))) ?_ rfl)))))
  · unfold Ps
    rw [bj,bj,nQ ha (by omega),nQ hb (by omega)]
    simp only [ca,aU,aD]
    exact co (aA (cK (aA (cG (aA (co (aA (cK (aA (cG (aA (bz rfl))))))))))))
  · unfold Pt
    rw [HS]
    exact bz (ak (ak (ak (ak (ak rfl)))))
  · refine cr (fun k=>(k,aL (a*(b%W^k)) (nl a+nl b))) (nl b) (by simp [Nat.mod_one]) (fun k hk=>?_) (bB (cG (by rw [Nat.mod_eq_of_lt hB];rfl)))
    have hO:a*(b%W^k)<W^(k+nl a):=by rw [Nat.add_comm];exact afl hA (Nat.mod_lt _ (iP k))
    have hlb:=Nat.mod_lt (b/W^k) (show W>0 by decide)
    have hs:=ap9 (N:=nl a+nl b) hO hA hlb (by omega) (by omega)
    have e:a*(b%W^k)+a*(b/W^k%W)*W^k=a*(b%W^(k+1)):=by rw [Ge,Nat.mul_add,Nat.mul_assoc]
    rw [e] at hs
    have hO1:a*(b%W^(k+1))<W^(k+nl a+1):=by
      rw [show k+nl a+1=nl a+(k+1) by omega];exact afl hA (Nat.mod_lt _ (iP (k+1)))
    have hcar:a*(b%W^(k+1))/W^(k+nl a)<W:=by
      exact Nat.div_lt_of_lt_mul (by rw [←Nat.pow_succ];exact hO1)
    have fB:=DD (u:=a*(b%W^(k+1))%W^(k+nl a)) (x:=a*(b%W^(k+1))/W^(k+nl a)) (j:=k+nl a) (n:=nl a+nl b) (Nat.mod_lt _ (iP _)) hcar (by omega)
    have hv:a*(b%W^(k+1))%W^(k+nl a)+a*(b%W^(k+1))/W^(k+nl a)*W^(k+nl a)=a*(b%W^(k+1)):=by rw [Nat.mul_comm (a*(b%W^(k+1))/W^(k+nl a))];exact Nat.mod_add_div _ _
    rw [hv] at fB
    show aB (Gr _ _ _ _ _ _ _).run _=_
    refine ah (a:=aL (a*(b%W^(k+1))) (nl a+nl b)) ?_ (ak rfl)
    unfold Gr
    rw [dN la,cj hb,su,hs]
    simp only [zM,yA,sD]
    rw [fB,aw,aw]
    exact cg (ak (ak (ak (ak (ak (fE (cH la) (aA (ak (ak rfl)))))))))
  · unfold Pu
    rw [an3 hab (by omega),if_neg (by omega)]
    exact asz (asA rfl) (anw (aA rfl))
theorem asb:∀ z:Fin 64,List.getD aV (2^z.val*285870213051353865%W/2^58) 0=(z.val:Int)∧2^z.val*285870213051353865%W/2^58<64:=by decide +kernel
theorem aq4:List.length aV=64:=by decide +kernel
theorem asc{x:Nat}(h0:x≠0)(h:x<W) :cq .and .u64 (x:Int) (IntKind.u64.wrap ((0:Int)-(x:Int)))=((2^tz x:Nat):Int):=by
  rw [apA h0 h,LB,Nat.mod_eq_of_lt h,Nat.mod_eq_of_lt (Nat.sub_lt (by decide) (Nat.pos_of_ne_zero h0)),aqS h0 h]
theorem aq5(y:Nat) :Int.fdiv (IntKind.u64.wrap ((y:Int)*(285870213051353865:Int))) (2^(min (Int.toNat (58:Int)) IntKind.u64.bits))=((y*285870213051353865%W/2^58:Nat):Int):=by
  have e:(285870213051353865:Int)=((285870213051353865:Nat):Int):=by omega
  rw [e,wD]
  exact AX _ (k:=58) (by decide)
theorem asd{z:Nat}(h:z<64) :IntKind.i64.wrap ((z:Nat):Int)=((z:Nat):Int):=by
  have:∀ z:Fin 64,IntKind.i64.wrap ((z.val:Nat):Int)=((z.val:Nat):Int):=by decide
  exact this ⟨z,h⟩
theorem ase{x:Nat}(h0:x≠0)(h:x<W) :∃ y:Nat,Int.fdiv (IntKind.u64.wrap ((cq .and .u64 (x:Int) (IntKind.u64.wrap ((0:Int)-(x:Int))))*(285870213051353865:Int))) (2^(min (Int.toNat (58:Int)) IntKind.u64.bits))=(y:Int)∧List.getD aV y 0=((tz x:Nat):Int)∧y<64:=by
  have hz:=aaA (n:=64) h0 h
  obtain ⟨t1,t2⟩:=asb ⟨tz x,hz⟩
  exact ⟨_,by rw [asc h0 h,aq5],t1,t2⟩
theorem Hq{x:Nat}(h0:x≠0)(h:x<W) :cZ (x:Int)=some (.r0 ((tz x:Nat):Int)):=by
  have hz:=aaA (n:=64) h0 h
  obtain ⟨y,e,t1,t2⟩:=ase h0 h
  refine bi ?_
  unfold mX
  have ix:gw (gw 0 (Sj (Int.toNat (y:Int)) 1)) 0=y:=by simp only [ky,CZ,Nat.zero_add,Nat.mul_one,Nat.add_zero,cM]
  rw [e,ix,t1,aq4,asd hz]
  refine kg (by rw [beq_eq_false_iff_ne];omega) (fE (by decide) (fE ?_ (fE ?_ rfl)))
  · rw [AU];omega
  · rw [nU];exact t2
theorem aqb{v:Nat}(h:v≠0) :∃ i,i<nl v∧v%W^i=0∧v/W^i%W≠0∧tz v=64*i+tz (v/W^i%W):=by
  obtain ⟨h1,h2⟩:=AY v h
  have e:2^tz v=2^(tz v%64)*W^(tz v/64):=Gg _
  have h3:v%W^(tz v/64)=0:=by
    have d:W^(tz v/64) ∣ v:=Nat.dvd_trans ⟨2^(tz v%64),by rw [Nat.mul_comm];exact e⟩ (Nat.dvd_of_mod_eq_zero h1)
    exact Nat.mod_eq_zero_of_dvd d
  have hb:v=v/W^(tz v/64)*W^(tz v/64):=(Nat.div_mul_cancel (Nat.dvd_of_mod_eq_zero h3)).symm
  have h5:v/W^(tz v/64)≠0:=by intro q;rw [q,Nat.zero_mul] at hb;exact h hb
  have key:tz (v/W^(tz v/64))=tz v%64:=by
    have q:=aj3 h5 (64*(tz v/64))
    have w:2^(64*(tz v/64))=W^(tz v/64):=by rw [Nat.pow_mul]
    rw [w,←hb] at q
    omega
  obtain ⟨k1,k2⟩:=AY _ h5
  rw [key] at k1 k2
  have hr:tz v%64<64:=Nat.mod_lt _ (by decide)
  have e64:W=2^(tz v%64)*2^(64-tz v%64):=by rw [←Nat.pow_add];show 2^64=_;congr 1;omega
  have l1:(v/W^(tz v/64)%W)%2^(tz v%64)=0:=by
    revert k1;generalize v/W^(tz v/64)=y;intro k1;rw [e64,Nat.mod_mul_right_mod];exact k1
  have l2:(v/W^(tz v/64)%W)/2^(tz v%64)%2=1:=by
    have a:2^(64-tz v%64)=2*2^(63-tz v%64):=by rw [show 64-tz v%64=(63-tz v%64)+1 by omega,Nat.pow_succ,Nat.mul_comm]
    revert k2;generalize v/W^(tz v/64)=y;intro k2;rw [e64,Nat.mod_mul_right_div_self,a,Nat.mod_mul_right_mod];exact k2
  have l3:v/W^(tz v/64)%W≠0:=by intro q;rw [q,Nat.zero_div] at l2;exact absurd l2 (by decide)
  refine ⟨tz v/64,?_,h3,l3,?_⟩
  · rcases Nat.lt_or_ge (tz v/64) (nl v) with q | q
    · exact q
    · exfalso;apply l3
      rw [Nat.div_eq_of_lt (Nat.lt_of_lt_of_le (ej v) (Nat.pow_le_pow_right (by decide) q)),Nat.zero_mod]
  · rw [N6 l1 l2];omega
theorem alF{v n:Nat}(hv:v<W^n)(h0:v≠0)(hn:nl v≤4096)(hn2:n≤1000000) :wJ (aL v n)=some (.r0 ((tz v:Nat):Int) 0):=by
  have hl:=me hv
  have hp:=zE h0
  obtain ⟨i,h1,h2,h3,h4⟩:=aqb h0
  have hW:v/W^i%W<W:=Nat.mod_lt _ (by decide)
  have hz:=aaA (n:=64) h3 hW
  refine bi (ah (a:=(0,aL v n,nl v)) ?_ (ah (a:=false) (bz (by show some _=_;congr 2;rw [beq_eq_false_iff_ne];omega)) (ah (a:=()) (bz rfl) (ah (a:=i) (cr (fun j=>j) i rfl (fun j hj=>?_) ?_) (ah (a:=((tz v:Nat):Int)) ?_ rfl)))))
  · unfold IF
    rw [bj,nQ hv (by omega)]
    simp only [ca,aU,aD]
    exact co (aA (cK (aA (cG (aA (bz rfl))))))
  · have z:lm v j=0:=by
      unfold lm
      obtain ⟨d,rfl⟩:∃ d,i=j+1+d:=⟨i-j-1,by omega⟩
      have dv:W^(j+1+d) ∣ v:=Nat.dvd_of_mod_eq_zero h2
      obtain ⟨c,hc⟩:=dv
      have:v=(W^d*c*W)*W^j:=by
        rw [hc,Nat.pow_add,Nat.pow_succ];simp only [Nat.mul_assoc,Nat.mul_comm,Nat.mul_left_comm]
      rw [this,Nat.mul_div_cancel _ (iP j),Nat.mul_mod_left];rfl
    show (pR _ _ _).run=_
    unfold pR
    rw [cj hv,z,aw]
    exact ak (ak (co (ak rfl)))
  · show (pR _ _ _).run=_
    unfold pR
    rw [cj hv,su,aw]
    refine ak (ak (kg (by rw [beq_eq_false_iff_ne];omega) rfl))
  · unfold IG
    rw [cj hv,su,aw,Hq h3 hW]
    simp only [dO,dh]
    have e:(((64*i:Nat):Int)+((tz (v/W^i%W):Nat):Int))=((tz v:Nat):Int):=by rw [h4,Int.natCast_add]
    rw [e]
    exact ak (ak (ak (aA (fE (by rw [cO];omega) rfl))))
theorem OZ(k:Nat) :Int.tdiv (k:Int) (64:Int)=((k/64:Nat):Int):=rfl
theorem O0(k:Nat) :IntKind.u64.wrap (Int.tmod (k:Int) (64:Int))=((k%64:Nat):Int):=by
  rw [show Int.tmod (k:Int) (64:Int)=((k%64:Nat):Int) from rfl,zF (Nat.lt_trans (Nat.mod_lt k (by decide:64>0)) (by decide))]
theorem aqc{v n k:Nat}(hv:v<W^n)(h0:n≠0)(hn:n≤1000000)(hk:k≤1000000) :
    eS (aL v n) (k:Int)=some (.r0 0 (nl (v*2^k)) (n+k/64+1) (aL (v*2^k) (n+k/64+1))):=by
  have hr:k%64<64:=Nat.mod_lt _ (by decide)
  have hq:k/64≤1000000:=by omega
  have hsh:=apD (k:=k) hv
  refine bi (ah (a:=(((k/64:Nat):Int),((k%64:Nat):Int),n+k/64+1,aL 0 (n+k/64+1))) ?_ (ah (a:=aL (v*2^k) (n+k/64+1)) (cr (fun i=>(i,aL (v%W^i*2^(k%64)*W^(k/64)) (n+k/64+1))) n (by simp [Nat.mod_one]) (fun i hi=>?_) ?_) (ah (a:=(0,nl (v*2^k),n+k/64+1,aL (v*2^k) (n+k/64+1))) ?_ rfl)))
  · unfold Pv
    rw [aw,OZ,O0]
    have e:(((n:Nat):Int)+((k/64:Nat):Int))+(1:Int)=((n+k/64+1:Nat):Int):=by omega
    rw [e,cM,HS]
    exact cG (ak (ak (aA (ak (ak (ak (ak (ak (ak rfl)))))))))
  · show aB (A6 _ _ _ _ _ _).run _=_
    refine ah (a:=aL (v%W^(i+1)*2^(k%64)*W^(k/64)) (n+k/64+1)) ?_ (ak rfl)
    unfold A6
    have e1:Int.toNat (((i:Nat):Int)+((k/64:Nat):Int))=i+k/64:=rfl
    have e2:Int.toNat ((((i:Nat):Int)+((k/64:Nat):Int))+(1:Int))=i+k/64+1:=rfl
    rw [e1,e2,cj hv,su,LC _ (by omega),TE hr,show (1:Int)=((1:Nat):Int) from rfl,AX _ (by decide),AX _ (by omega),Nat.pow_one,apB hr (by omega),aw]
    simp only [List.length_set,aw]
    exact cg (ak (ak (ak (ak (ak (ak (ak (ak (ak (ak (ak (ak (ak (ak (ak (ak rfl))))))))))))))))
  · show aB (A6 _ _ _ _ _ _).run _=_
    refine bB (kg (by rw [aw];exact (by simp only [cO,AU,CJ,nU,oR,gC,oS,oT,decide_eq_true_eq,decide_eq_false_iff_not,beq_iff_eq,beq_eq_false_iff_ne,bne_iff_ne,bne_eq_false_iff_eq,Bool.not_eq_true',Bool.not_eq_false',List.length_set,ne_eq,ge_iff_le,gt_iff_lt,kC,cM,wE];omega)) ?_)
    rw [Nat.mod_eq_of_lt hv,Nat.mul_assoc,←Gg];rfl
  · unfold Pw
    rw [EX hsh (by omega)]
    exact aA rfl
theorem alG{v n:Nat}(h:v<W^n)(hn:n≤100000000)(hb:nl v≤4096) :ld (aL v n)=some (.r0 (aL v n) (nl v) 0):=by
  refine bi (ah (a:=(aL v n,nl v)) ?_ (cG rfl))
  unfold Gu
  rw [bj,nQ h (by omega)]
  exact cK (aA rfl)
theorem aqd{v n k:Nat}(hv:v<W^n)(h0:v≠0)(hn:n≤1000000)(hk:k<262144)(hl:nl v≤4096)(hb:nl (v*2^k)≤4096) :
    iv (aL v n) (k:Int)=some (.r0 (aL (v*2^k) (nl (v*2^k))) (nl (v*2^k)) 0):=by
  have hp:=zE h0
  have hln:=me hv
  refine bi (ah (a:=(0,aL v n,nl v)) ?_ (ah (a:=()) ?_ (ah (a:=(aL (v*2^k) (nl (v*2^k)),nl (v*2^k),0)) ?_ rfl)))
  · unfold Ue
    rw [bj,nQ hv (by omega)]
    simp only [ca,aU,aD]
    exact co (aA (cK (aA (cG (aA (bz rfl))))))
  · exact bz (cG (cg (cG rfl)))
  · have hsl:=apD (k:=k) (ej v)
    have hls:=me hsl
    show (Kf _ _ _).run=_
    unfold Kf
    rw [dN hln,aqc (ej v) (by omega) (by omega) (by omega)]
    simp only [zO,kF,kG,kH]
    rw [dN hls,alG (ej _) (by omega) hb]
    exact fE (cH hln) (aA (fE (cH hls) (aA rfl)))
theorem aqe{v n k:Nat}(hv:v<W^n)(hn:n≤1000000)(hk:k≤100000000) :
    ∃ b N,rP (aL v n) (k:Int)=some (.r0 0 (nl (v/2^k)) N b (aL (v/2^k) N))∧nl (v/2^k)≤N∧N≤n:=by
  have hr:k%64<64:=Nat.mod_lt _ (by decide)
  have hq:k/64≤10000000:=by omega
  rcases Nat.lt_or_ge (k/64) n with hlt | hge
  · have hs:=arY (k:=k) hv (Nat.le_of_lt hlt)
    have hls:=me hs
    let f0:=((cq .and .u64 (List.getD (aL v n) (Int.toNat (Int.tdiv (k:Int) (64:Int))) 0) (IntKind.u64.wrap ((IntKind.u64.wrap ((1:Int)*2^(min (Int.toNat (IntKind.u64.wrap (Int.tmod (k:Int) (64:Int)))) (IntKind.u64.bits))))-(1:Int)))) != (0:Int))
    let f:Nat→Bool:=fun j=>Nat.rec (motive:=fun _=>Bool) f0 (fun j b=>b||(lm v j != (0:Int))) j
    refine ⟨f (k/64),n-k/64,bi (ah (a:=(((k/64:Nat):Int),((k%64:Nat):Int),f0,k/64,k/64)) ?_ (ah (a:=f (k/64)) (cr (fun j=>(f j,j)) (k/64) rfl (fun j hj=>?_) ?_) (ah (a:=(n-k/64,n-k/64,List.replicate (n-k/64) (0:Int))) ?_ (ah (a:=aL (v/2^k) (n-k/64)) (cr (fun i=>(i,mW (fun j=>if j<i then lm (v/2^k) j else 0) (n-k/64))) (n-k/64) (by simp only [wZ];congr 1) (fun i hi=>?_) ?_) (ah (a:=(0,nl (v/2^k),n-k/64,aL (v/2^k) (n-k/64))) ?_ rfl))))),hls,Nat.sub_le _ _⟩
    · unfold Gv
      have e:=OZ k
      refine aA (fE (by rw [e];exact (by simp only [cO,AU,CJ,nU,oR,gC,oS,oT,decide_eq_true_eq,decide_eq_false_iff_not,beq_iff_eq,beq_eq_false_iff_ne,bne_iff_ne,bne_eq_false_iff_eq,Bool.not_eq_true',Bool.not_eq_false',List.length_set,ne_eq,ge_iff_le,gt_iff_lt,kC,cM,wE];omega)) (aA (kg (by rw [e,aw];exact (by simp only [cO,AU,CJ,nU,oR,gC,oS,oT,decide_eq_true_eq,decide_eq_false_iff_not,beq_iff_eq,beq_eq_false_iff_ne,bne_iff_ne,bne_eq_false_iff_eq,Bool.not_eq_true',Bool.not_eq_false',List.length_set,ne_eq,ge_iff_le,gt_iff_lt,kC,cM,wE];omega)) (fE (by rw [e,aw];exact (by simp only [cO,AU,CJ,nU,oR,gC,oS,oT,decide_eq_true_eq,decide_eq_false_iff_not,beq_iff_eq,beq_eq_false_iff_ne,bne_iff_ne,bne_eq_false_iff_eq,Bool.not_eq_true',Bool.not_eq_false',List.length_set,ne_eq,ge_iff_le,gt_iff_lt,kC,cM,wE];omega)) (fE (by rw [e,aw];exact (by simp only [cO,AU,CJ,nU,oR,gC,oS,oT,decide_eq_true_eq,decide_eq_false_iff_not,beq_iff_eq,beq_eq_false_iff_ne,bne_iff_ne,bne_eq_false_iff_eq,Bool.not_eq_true',Bool.not_eq_false',List.length_set,ne_eq,ge_iff_le,gt_iff_lt,kC,cM,wE];omega)) (fE (by rw [O0];exact (by simp only [cO,AU,CJ,nU,oR,gC,oS,oT,decide_eq_true_eq,decide_eq_false_iff_not,beq_iff_eq,beq_eq_false_iff_ne,bne_iff_ne,bne_eq_false_iff_eq,Bool.not_eq_true',Bool.not_eq_false',List.length_set,ne_eq,ge_iff_le,gt_iff_lt,kC,cM,wE];omega)) (fE (by rw [e,aw];exact (by simp only [cO,AU,CJ,nU,oR,gC,oS,oT,decide_eq_true_eq,decide_eq_false_iff_not,beq_iff_eq,beq_eq_false_iff_ne,bne_iff_ne,bne_eq_false_iff_eq,Bool.not_eq_true',Bool.not_eq_false',List.length_set,ne_eq,ge_iff_le,gt_iff_lt,kC,cM,wE];omega)) (fE (by rw [e];exact (by simp only [cO,AU,CJ,nU,oR,gC,oS,oT,decide_eq_true_eq,decide_eq_false_iff_not,beq_iff_eq,beq_eq_false_iff_ne,bne_iff_ne,bne_eq_false_iff_eq,Bool.not_eq_true',Bool.not_eq_false',List.length_set,ne_eq,ge_iff_le,gt_iff_lt,kC,cM,wE];omega)) ?_))))))))
      show some (Sum.inl (_,IntKind.u64.wrap _,f0,_,_))=_
      rw [O0];rfl
    · show aB (A7 _ _ _ _ _).run _=_
      refine ah (a:=f (j+1)) ?_ (ak rfl)
      unfold A7
      rw [cj hv,aw]
      refine cg (ak (ak ?_))
      have hf:f (j+1)=(f j||(lm v j != (0:Int))):=rfl
      rw [hf]
      cases f j
      · exact bz rfl
      · exact co rfl
    · show aB (A7 _ _ _ _ _).run _=_
      exact bB (cG rfl)
    · show (Gx _ _).run=_
      unfold Gx
      have e:((n:Nat):Int)-((k/64:Nat):Int)=((n-k/64:Nat):Int):=by omega
      rw [aw,e]
      exact ak (ak (ak (ak (ak rfl))))
    · show aB (A9 _ _ _ _ _ _ _).run _=_
      refine ah (a:=mW (fun j=>if j<i+1 then lm (v/2^k) j else 0) (n-k/64)) ?_ (ak rfl)
      have e1:Int.toNat (((i:Nat):Int)+((k/64:Nat):Int))=i+k/64:=rfl
      have e2:Int.toNat ((((i:Nat):Int)+((k/64:Nat):Int))+(1:Int))=i+k/64+1:=rfl
      obtain ⟨w1,w2⟩:=apz (V:=v/W^(i+k/64)) hr
      have hV:v/W^(i+k/64)/W=v/W^(i+k/64+1):=by rw [Nat.pow_succ,Nat.div_div_eq_div_mul]
      have pK:∀ x:Int,x=lm (v/2^k) i→(mW (fun j=>if j<i then lm (v/2^k) j else 0) (n-k/64)).set i x=mW (fun j=>if j<i+1 then lm (v/2^k) j else 0) (n-k/64):=by
        intro x hx
        rw [zc hi]
        refine dU fun j hj=>?_
        by_cases e:j=i
        · subst e;rw [if_pos rfl,if_pos (Nat.lt_succ_self _),hx]
        · rw [if_neg e]
          by_cases e':j<i
          · rw [if_pos e',if_pos (by omega)]
          · rw [if_neg e',if_neg (by omega)]
      unfold A9
      rw [e1,e2,cj hv,cj hv,su,su,AX _ (by omega),TE hr,show (1:Int)=((1:Nat):Int) from rfl,LC _ (by decide),LC _ (by omega),Nat.pow_one]
      simp only [List.length_set,aw,iY,List.set_set]
      by_cases hlast:i+k/64+1<n
      · refine cg (ak (ak (ak (ak (ak (ak (ak (ak (cg (ak (ak (ak (ak (ak (ak (aA (ak (ak (ak ?_)))))))))))))))))))
        show some (Sum.inl _)=_
        congr 2
        refine pK _ ?_
        rw [List.getD_eq_getElem?_getD,List.getElem?_set_self (by rw [iY];exact hi)]
        show cq .or .u64 _ _=_
        have m1:v/W^(i+k/64)%W/2^(k%64)%W=v/W^(i+k/64)%W/2^(k%64):=Nat.mod_eq_of_lt (Nat.lt_of_le_of_lt (Nat.div_le_self _ _) (Nat.mod_lt _ (by decide)))
        show cq .or .u64 ((v/W^(i+k/64)%W/2^(k%64):Nat):Int) _=_
        rw [acl,m1,Nat.mod_mod,←hV,w2,←w1,apC]
      · refine cg (ak (ak (ak (ak (ak (ak (ak (ak (cG ?_)))))))))
        show some (Sum.inl _)=_
        congr 2
        refine pK _ ?_
        have z:v/W^(i+k/64)/W=0:=by
          rw [hV];exact Nat.div_eq_of_lt (Nat.lt_of_lt_of_le hv (Nat.pow_le_pow_right (by decide) (by omega)))
        rw [z] at w1
        rw [apC,w1]
        simp
    · show aB (A9 _ _ _ _ _ _ _).run _=_
      refine bB (cG ?_)
      show some (Sum.inr (Sum.inl _))=_
      congr 3
      exact dU fun j hj=>if_pos hj
    · unfold Pz
      rw [EX hs (by omega)]
      exact aA rfl
  · have hz:=agD hv hge
    refine ⟨decide (((n:Nat):Int)>(0:Int)),0,?_,by rw [hz,fq];exact Nat.le_refl 0,Nat.zero_le _⟩
    refine bi (bB ?_)
    unfold Gv
    rw [OZ,aw,hz,fq]
    exact aA (ak (aA (cg rfl)))
theorem aqf{v n k:Nat}(hv:v<W^n)(hn:n≤1000000)(hl:nl v≤4096)(hk:k≤100000000) :
    ∃ b N,uK (aL v n) (k:Int)=some (.r0 (aL (v/2^k) N) 0 (nl (v/2^k)) b 0)∧nl (v/2^k)≤N∧N≤4096:=by
  have hln:=me hv
  obtain ⟨b,N,h1,h2,h3⟩:=aqe (k:=k) (ej v) (by omega) hk
  refine ⟨b,N,bi (ah (a:=(0,aL v n,nl v)) ?_ (ah (a:=false) ?_ (ah (a:=(aL (v/2^k) N,0,nl (v/2^k),b)) ?_ rfl))),h2,by omega⟩
  · unfold Uh
    rw [bj,nQ hv (by omega)]
    simp only [ca,aU,aD]
    exact co (aA (cK (aA (cG (aA (bz rfl))))))
  · refine bz ?_
    show some (Sum.inl (decide (((k:Nat):Int)<0)))=_
    rw [decide_eq_false (by omega)]
  · show (Kh _ _ _ _).run=_
    unfold Kh
    rw [dN hln,h1]
    exact bz (fE (cH hln) (aA rfl))
theorem uv(s:Bool){v n:Nat}(hv:v<W^n)(hn:n≤1000000)(hl:nl v≤4096){e:Int}(he : -1000000≤e∧e≤1000000) :
    ∃ N,au s (aL v n) e=some (.r0 (nS (sg s v)) (aL (nM (sg s v)) N) 0 (nl (nM (sg s v))) (nE (sg s v) e))∧nl (nM (sg s v))≤N∧N≤4096:=by
  have t5:(Ef (aL v n)).run=some (.inl (aL v (nl v),nl v,false)):=by
    unfold Ef
    rw [bj,abb hv (by omega),if_neg (by omega)]
    exact cK (aA rfl)
  by_cases h0:v=0
  · have z:sg s v=0:=yv.2 h0
    rw [z,jn,amr]
    rw [jZ,fq]
    refine ⟨0,bi (ah t5 (bB ?_)),Nat.le_refl _,Nat.zero_le _⟩
    rw [h0,fq]
    exact co rfl
  · have z:sg s v≠0:=fun q=>h0 (yv.1 q)
    have hp:=zE h0
    have ht:=agF (v:=v)
    obtain ⟨b,N,h1,h2,h3⟩:=aqf (k:=tz v) (ej v) (by omega) hl (by omega)
    have eM:nM (sg s v)=v/2^tz v:=by unfold nM;rw [Gh]
    have eE:nE (sg s v) e=e+((tz v:Nat):Int):=by rw [lE z,Gh]
    rw [aru h0,eM,eE]
    refine ⟨N,bi (ah t5 (ah (a:=((tz v:Nat):Int)) ?_ (ah (a:=(aL (v/2^tz v) N,0,nl (v/2^tz v))) ?_ ?_))),h2,h3⟩
    · show (Eg _ _).run=_
      unfold Eg
      rw [dr aw,alF (ej v) h0 hl (by omega)]
      exact cG (jb (aA rfl))
    · show (Eh _ _ _).run=_
      unfold Eh
      rw [dr aw,h1]
      exact jb (aA rfl)
    · exact fE (by rw [cO];omega) rfl
theorem ai0{v n:Nat}(hv:v<W^n)(hn:n≤1000000)(hl:nl v≤4096){e:Int}(he : -262144≤e∧e≤262144) :di (aL v n) e=some (.r0 true):=by
  refine bi (ah (a:=0) ?_ (ah (a:=true) ?_ rfl))
  · unfold PG
    rw [bj,abb hv (by omega),if_neg (by omega)]
    exact cK (aA rfl)
  · refine co (cg ?_)
    show some (Sum.inl (decide (e≤262144)))=_
    rw [decide_eq_true he.2]
theorem Sc{z e:Int}{s:Bool}(hs:z≠0→s=nS z)(h:Sm z e) :∃ N,au s (aL (nM z) (nl (nM z))) (nE z e)=some (.r0 (nS z) (aL (nM z) N) 0 (nl (nM z)) (nE z e))∧nl (nM z)≤N∧N≤4096:=by
  have hm:=h.m
  have hb:=h.b
  obtain ⟨N,h1,h2,h3⟩:=uv s (ej (nM z)) (by omega) (by omega:nl (nM z)≤4096) (e:=nE z e) (by omega)
  obtain ⟨a,b,c⟩:=agE (e:=e) hs
  rw [a,b,c] at h1
  rw [b] at h2
  exact ⟨N,h1,h2,h3⟩
theorem afm{z e:Int}(h:Sm z e) :di (aL (nM z) (nl (nM z))) (nE z e)=some (.r0 true):=by
  have hm:=h.m
  have hb:=h.b
  exact ai0 (ej (nM z)) (by omega) (by omega) (by omega)
theorem alH(s:Bool){v n:Nat}(hv:v<W^n)(hn:n≤1000000)(hl:nl v≤1000){e:Int}(he : -150000≤e∧e≤150000) :
    ∃ N,bM s (aL v n) e=some (.r0 0 (nS (sg s v)) (aL (nM (sg s v)) N) 0 (nl (nM (sg s v))) (nE (sg s v) e))∧nl (nM (sg s v))≤N∧N≤4096:=by
  obtain ⟨N,h1,h2,h3⟩:=uv s hv hn (by omega) (e:=e) (by omega)
  have ht:=agF (v:=v)
  have hE' : -262144≤nE (sg s v) e∧nE (sg s v) e≤262144:=by
    unfold nE;rw [Gh];split<;>omega
  obtain ⟨hE',hE⟩:=hE'
  refine ⟨N,bi (ah (a:=(nS (sg s v),aL (nM (sg s v)) N,0,nl (nM (sg s v)),nE (sg s v) e,false)) ?_ (ah (a:=false) ?_ rfl)),h2,h3⟩
  · unfold LX
    rw [bj,h1]
    exact cK (aA rfl)
  · show (Ej _ _ _ _).run=_
    unfold Ej
    rw [dN h2,ai0 (ej _) (by omega) (by omega) ⟨hE',hE⟩]
    exact fE (cH h2) (aA rfl)
theorem wu{z:Int}{m:Nat}(h:m≤tz z.natAbs) :nM z*2^(tz z.natAbs-m)=z.natAbs/2^m∧z.natAbs/2^m*2^m=z.natAbs:=by
  have b:=ams z
  have e:tz z.natAbs=(tz z.natAbs-m)+m:=by omega
  have d:z.natAbs/2^m*2^m=z.natAbs:=by
    refine Nat.div_mul_cancel ⟨nM z*2^(tz z.natAbs-m),?_⟩
    rw [e,Nat.pow_add,←Nat.mul_assoc] at b
    rw [Nat.mul_comm (2^m)];exact b.symm
  refine ⟨?_,d⟩
  rw [e,Nat.pow_add,←Nat.mul_assoc] at b
  exact (Nat.div_eq_of_eq_mul_left (iD m) b.symm).symm
theorem H0{z e:Int}{m:Nat}(h:Sm z e)(h0:z≠0)(hm:m≤tz z.natAbs){k:Int}(hk:k=((tz z.natAbs-m:Nat):Int)) :
    iv (aL (nM z) (nl (nM z))) k=some (.r0 (aL (z.natAbs/2^m) (nl (z.natAbs/2^m))) (nl (z.natAbs/2^m)) 0):=by
  obtain ⟨e1,e2⟩:=wu hm
  have ht:=h.t
  have hM:=h.m
  have hN:nl (z.natAbs/2^m)≤300:=Nat.le_trans (DF (Nat.div_le_self _ _)) h.l
  rw [hk,aqd (ej _) (LD h0) (by omega) (by omega) (by omega) (by rw [e1];omega),e1]
theorem amO{a b:Int}(h:a≤b) :uu a b=a:=by unfold uu;rw [if_neg (by omega)]
theorem amP{a b:Int}(h:b≤a) :uu a b=b:=by
  unfold uu
  by_cases q:b<a
  · rw [if_pos q]
  · rw [if_neg q];omega
theorem aq6{a b:Int}(h:a≤b) :nZ a b=b:=by
  unfold nZ
  by_cases q:b>a
  · rw [if_pos q]
  · rw [if_neg q];omega
theorem aq7{a b:Int}(h:b≤a) :nZ a b=a:=by unfold nZ;rw [if_neg (by omega)]
structure Lvl (x y e:Int) (m:Nat) (ep:Int):Prop where
  x2:x.natAbs/2^m*2^m=x.natAbs
  y2:y.natAbs/2^m*2^m=y.natAbs
  at':(x=0∧y=0∧ep=0)∨ep=e+m
  b : -50000≤ep∧ep≤94800
theorem alI{x y e:Int}(hx:Sm x e)(hy:Sm y e) :∃ m ep,cP (aL (nM x) (nl (nM x))) (nE x e) (aL (nM y) (nl (nM y))) (nE y e) =
    some (.r0 0 ep (aL (x.natAbs/2^m) (nl (x.natAbs/2^m))) (nl (x.natAbs/2^m)) (aL (y.natAbs/2^m) (nl (y.natAbs/2^m))) (nl (y.natAbs/2^m)))∧Lvl x y e m ep:=by
  have hxt:=hx.t
  have hyt:=hy.t
  obtain ⟨_,e1,e2⟩:=hx
  have zn:∀ m,((0:Int).natAbs/2^m)=0:=fun m=>by rw [Int.natAbs_zero,Nat.zero_div]
  by_cases h1:x=0
  · subst h1
    have l0:nl (nM 0)=0:=by rw [jZ,fq]
    by_cases h2:y=0
    · subst h2
      refine ⟨0,0,bi (ah (a:=0) ?_ (ah (a:=([],0,[],0)) ?_ ?_)),⟨by simp,by simp,.inl ⟨rfl,rfl,rfl⟩,by omega⟩⟩
      · unfold pS;rw [aw,l0,jn];exact co rfl
      · unfold jz;rw [aw,l0];exact co (co rfl)
      · rw [zn,fq];rfl
    · have ly:nl (nM y)≠0:=fun q=>LD h2 (je.1 q)
      obtain ⟨_,d⟩:=wu (z:=y) (Nat.le_refl _)
      refine ⟨tz y.natAbs,nE y e,bi (ah (a:=nE y e) ?_ (ah (a:=([],0,aL (y.natAbs/2^tz y.natAbs) (nl (y.natAbs/2^tz y.natAbs)),nl (y.natAbs/2^tz y.natAbs))) ?_ ?_)),⟨by simp,d,.inr (lE h2),by rw [lE h2];omega⟩⟩
      · unfold pS;rw [aw,l0];exact co rfl
      · show (jz _ _ _ _ _).run=_
        unfold jz
        rw [aw,aw,l0,dr aw,H0 hy h2 (Nat.le_refl _) (k:=nE y e-nE y e) (by omega)]
        exact co (cG (fE (by rw [cO];omega) (jb (aA rfl))))
      · rw [zn,fq];rfl
  · have lx:nl (nM x)≠0:=fun q=>LD h1 (je.1 q)
    by_cases h2:y=0
    · subst h2
      have l0:nl (nM 0)=0:=by rw [jZ,fq]
      obtain ⟨_,d⟩:=wu (z:=x) (Nat.le_refl _)
      have hx:Sm x e:=⟨by assumption,e1,e2⟩
      refine ⟨tz x.natAbs,nE x e,bi (ah (a:=nE x e) ?_ (ah (a:=(aL (x.natAbs/2^tz x.natAbs) (nl (x.natAbs/2^tz x.natAbs)),nl (x.natAbs/2^tz x.natAbs),[],0)) ?_ ?_)),⟨d,by simp,.inr (lE h1),by rw [lE h1];omega⟩⟩
      · unfold pS;rw [aw,aw,l0];exact cG (co rfl)
      · show (jz _ _ _ _ _).run=_
        unfold jz
        rw [aw,aw,l0,dr (l:=aL (nM x) (nl (nM x))) aw,H0 hx h1 (Nat.le_refl _) (k:=nE x e-nE x e) (by omega)]
        exact cG (fE (by rw [cO];omega) (jb (aA (co rfl))))
      · rw [zn,fq];rfl
    · have ly:nl (nM y)≠0:=fun q=>LD h2 (je.1 q)
      have hx:Sm x e:=⟨by assumption,e1,e2⟩
      have ex:=lE (e:=e) h1
      have ey:=lE (e:=e) h2
      have emin:uu (nE x e) (nE y e)=e+((min (tz x.natAbs) (tz y.natAbs):Nat):Int):=by
        rw [ex,ey]
        rcases Nat.le_total (tz x.natAbs) (tz y.natAbs) with q | q
        · rw [amO (by omega),Nat.min_eq_left q]
        · rw [amP (by omega),Nat.min_eq_right q]
      have emax:nZ (nE x e) (nE y e)=e+((max (tz x.natAbs) (tz y.natAbs):Nat):Int):=by
        rw [ex,ey]
        rcases Nat.le_total (tz x.natAbs) (tz y.natAbs) with q | q
        · rw [aq6 (by omega),Nat.max_eq_right q]
        · rw [aq7 (by omega),Nat.max_eq_left q]
      have mx:min (tz x.natAbs) (tz y.natAbs)≤tz x.natAbs:=Nat.min_le_left _ _
      have my:min (tz x.natAbs) (tz y.natAbs)≤tz y.natAbs:=Nat.min_le_right _ _
      have gx:max (tz x.natAbs) (tz y.natAbs)≤44800:=by omega
      have gl:min (tz x.natAbs) (tz y.natAbs)≤max (tz x.natAbs) (tz y.natAbs):=by omega
      revert emin emax mx my gx gl
      generalize min (tz x.natAbs) (tz y.natAbs)=m
      generalize max (tz x.natAbs) (tz y.natAbs)=g
      intro emin emax mx my gx gl
      obtain ⟨_,dx⟩:=wu mx
      obtain ⟨_,dy⟩:=wu my
      refine ⟨m,e+m,bi (ah (a:=e+(m:Int)) ?_ (ah (a:=(aL (x.natAbs/2^m) (nl (x.natAbs/2^m)),nl (x.natAbs/2^m),aL (y.natAbs/2^m) (nl (y.natAbs/2^m)),nl (y.natAbs/2^m))) ?_ rfl)),⟨dx,dy,.inr rfl,by omega⟩⟩
      · unfold pS
        rw [aw,aw,emin,emax]
        exact cG (cG (fE (by rw [cO];omega) (kg (by rw [decide_eq_false_iff_not];omega) rfl)))
      · show (jz _ _ _ _ _).run=_
        unfold jz
        rw [aw,aw,dr (l:=aL (nM x) (nl (nM x))) aw,dr (l:=aL (nM y) (nl (nM y))) aw,H0 hx h1 mx (k:=nE x e-(e+(m:Int))) (by omega),H0 hy h2 my (k:=nE y e-(e+(m:Int))) (by omega)]
        exact cG (fE (by rw [cO];omega) (jb (aA (cG (fE (by rw [cO];omega) (jb (aA rfl)))))))
theorem an4{x y e f:Int}(hx:Sm x e)(hy:Sm y f) :
    ∃ N,an (nS x) (aL (nM x) (nl (nM x))) (nE x e) (nS y) (aL (nM y) (nl (nM y))) (nE y f)=some (.r0 0 (nS (x*y)) (aL (nM (x*y)) N) 0 (nl (nM (x*y))) (nE (x*y) (e+f)))∧nl (nM (x*y))≤N∧N≤4096:=by
  obtain ⟨Nx,x1,x2,x3⟩:=Sc (s:=nS x) (fun _=>rfl) hx
  obtain ⟨Ny,y1,y2,y3⟩:=Sc (s:=nS y) (fun _=>rfl) hy
  have xm:=hx.m
  have ym:=hy.m
  have xb:=hx.b
  have yb:=hy.b
  have hm:=acn (a:=nM x) (b:=nM y)
  obtain ⟨N,h1,h2,h3⟩:=alH (nS x != nS y) (v:=nM x*nM y) (ej _) (by omega) (by omega) (e:=nE x e+nE y f) (by omega)
  have key:nS (x*y)=nS (sg (nS x != nS y) (nM x*nM y))∧nM (x*y)=nM (sg (nS x != nS y) (nM x*nM y))∧nE (x*y) (e+f)=nE (sg (nS x != nS y) (nM x*nM y)) (nE x e+nE y f):=by
    have hz:x*y=sg (nS x != nS y) (nM x*nM y)*((2^(tz x.natAbs+tz y.natAbs):Nat):Int):=by
      have a:=LF x
      have b:=LF y
      rw [←aaC,Nat.pow_add,Int.natCast_mul]
      conv=>lhs;rw [←a,←b]
      simp only [Int.mul_assoc,Int.mul_comm,Int.mul_left_comm]
    obtain ⟨a,b,c⟩:=Gi hz (e+f)
    refine ⟨a,b,?_⟩
    rw [c]
    by_cases p:x=0
    · subst p;rw [jZ,Nat.zero_mul]
      have:sg (nS 0 != nS y) 0=0:=yv.2 rfl
      rw [this,jn,jn]
    · by_cases q:y=0
      · subst q;rw [jZ,Nat.mul_zero]
        have:sg (nS x != nS 0) 0=0:=yv.2 rfl
        rw [this,jn,jn]
      · rw [lE p,lE q];congr 1;omega
  obtain ⟨a,b,c⟩:=key
  rw [a,b,c]
  refine ⟨N,bi (ah (a:=(0,nS x,aL (nM x) Nx,0,nl (nM x),nE x e,nS y,aL (nM y) Ny,0,nl (nM y),nE y f,false)) ?_ (ah (a:=(aL (nM x*nM y) (nl (nM x)+nl (nM y)),0,nl (nM x*nM y),0)) ?_ (ah (a:=(0,nS (sg (nS x != nS y) (nM x*nM y)),aL (nM (sg (nS x != nS y) (nM x*nM y))) N,0,nl (nM (sg (nS x != nS y) (nM x*nM y))),nE (sg (nS x != nS y) (nM x*nM y)) (nE x e+nE y f))) ?_ rfl))),h2,h3⟩
  · unfold PK
    rw [bj,bj,afm hx,afm hy,x1,y1]
    exact co (aA (cK (aA (bz (cK (aA (aA (co (aA (cK (aA (bz (cK (aA (aA (bz rfl))))))))))))))))
  · show (GE _ _ _ _ _ _ _).run=_
    unfold GE
    rw [dN x2,dN y2,aqa (ej (nM x)) (ej (nM y)) (by omega) (by omega) (by omega)]
    have e1:nl (nM x)=nl (nM x):=rfl
    exact bz (fE (cH x2) (fE (cH y2) (aA rfl)))
  · show (GF _ _ _ _ _ _ _ _).run=_
    unfold GF
    rw [dN hm]
    have h1':bM (!(nS x==nS y)) (aL (nM x*nM y) (nl (nM x*nM y))) (nE x e+nE y f)=_:=h1
    rw [h1']
    exact bz (fE (by rw [cO];omega) (fE (cH hm) (aA rfl)))
def mj(z:Int) :Int:=if z<0 then -1 else if 0<z then 1 else 0
theorem zg(z:Int) :gg (nS z) (aL (nM z) (nl (nM z)))=some (.r0 (mj z)):=by
  refine bi ?_
  unfold L4
  rw [aw]
  unfold mj nS
  by_cases h0:z=0
  · subst h0;rw [jZ,fq];exact co rfl
  · have:nl (nM z)≠0:=fun q=>LD h0 (je.1 q)
    by_cases h:z<0
    · rw [if_pos h];exact cG (tL (decide_eq_true h) rfl)
    · rw [if_neg h,if_pos (by omega)];exact cG (kg (decide_eq_false h) rfl)
theorem afn{X Y p:Nat}(hp:0<p) :sv X Y=Ix ((X:Int)*p) ((Y:Int)*p):=by
  unfold sv Ix
  have h:∀ {a b:Nat},a<b↔(a:Int)*p<(b:Int)*p:=fun {a b}=>by
    rw [←Int.natCast_mul,←Int.natCast_mul,Int.ofNat_lt]
    exact ⟨fun q=>Nat.mul_lt_mul_of_pos_right q hp,fun q=>Nat.lt_of_mul_lt_mul_right q⟩
  simp only [h]
theorem aq8{a b:Int} :(0:Int)-Ix a b=Ix (-a) (-b):=by unfold Ix;split<;>split<;>(try split)<;>omega
theorem an5{x y e:Int}(hx:Sm x e)(hy:Sm y e) :
    ox (nS x) (aL (nM x) (nl (nM x))) (nE x e) (nS y) (aL (nM y) (nl (nM y))) (nE y e)=some (.r0 (Ix x y) 0):=by
  obtain ⟨Nx,x1,x2,x3⟩:=Sc (s:=nS x) (fun _=>rfl) hx
  obtain ⟨Ny,y1,y2,y3⟩:=Sc (s:=nS y) (fun _=>rfl) hy
  obtain ⟨m,ep,l1,l2⟩:=alI hx hy
  have xl:=hx.l
  have yl:=hy.l
  have hX:nl (x.natAbs/2^m)≤300:=Nat.le_trans (DF (Nat.div_le_self _ _)) xl
  have hY:nl (y.natAbs/2^m)≤300:=Nat.le_trans (DF (Nat.div_le_self _ _)) yl
  have hc:sv (x.natAbs/2^m) (y.natAbs/2^m)=Ix (x.natAbs:Int) (y.natAbs:Int):=by
    rw [afn (iD m),←Int.natCast_mul,←Int.natCast_mul,l2.x2,l2.y2]
  have t8:(GI 0 (aL (x.natAbs/2^m) (nl (x.natAbs/2^m))) (nl (x.natAbs/2^m)) (aL (y.natAbs/2^m) (nl (y.natAbs/2^m))) (nl (y.natAbs/2^m))).run=some (.inl (Ix (x.natAbs:Int) (y.natAbs:Int))):=by
    unfold GI
    rw [dr aw,dr aw,ap8 (ej _) (ej _) (by omega) (by omega) (by omega) (by omega),←hc]
    exact bz (jb (jb (aA rfl)))
  have t7:(GH 0 (aL (nM x) Nx) 0 (nl (nM x)) (nE x e) (aL (nM y) Ny) 0 (nl (nM y)) (nE y e)).run=some (.inl (0,ep,aL (x.natAbs/2^m) (nl (x.natAbs/2^m)),nl (x.natAbs/2^m),aL (y.natAbs/2^m) (nl (y.natAbs/2^m)),nl (y.natAbs/2^m))):=by
    unfold GH
    rw [dN x2,dN y2,l1]
    exact bz (fE (cH x2) (fE (cH y2) (aA rfl)))
  refine bi (ah (a:=(0,nS x,aL (nM x) Nx,0,nl (nM x),nE x e,nS y,aL (nM y) Ny,0,nl (nM y),nE y e)) ?_ (ah t7 (ah t8 ?_)))
  · unfold PN
    rw [bj,bj,afm hx,afm hy,x1,y1]
    exact co (aA (cK (aA (bz (cK (aA (aA (co (aA (cK (aA (bz (cK (aA (aA (bz rfl))))))))))))))))
  · have h9:∀ n18,rQ (nS x) (aL (nM x) Nx) 0 (nl (nM x)) (nS y) (aL (nM y) Ny) 0 (nl (nM y)) n18=rQ (nS x) (aL (nM x) Nx) 0 (nl (nM x)) (nS y) (aL (nM y) Ny) 0 (nl (nM y)) n18:=fun _=>rfl
    by_cases hs:mj x=mj y
    · by_cases hn:x<0
      · have e1:nS x=true:=decide_eq_true hn
        have hy0:y<0:=by unfold mj at hs;rw [if_pos hn] at hs;revert hs;split<;>(try split)<;>omega
        have ev:(0:Int)-Ix (x.natAbs:Int) (y.natAbs:Int)=Ix x y:=by
          rw [aq8];congr 1<;>omega
        refine bB ?_
        unfold rQ
        rw [dN x2,dN y2,zg,zg]
        simp only [iI,eB]
        refine fE (cH x2) (aA (fE (cH y2) (aA (kg (by rw [hs,bne_self_eq_false]) (tL e1 (fE ?_ ?_))))))
        · rw [ev,cO];unfold Ix;split<;>(try split)<;>omega
        · rw [ev];rfl
      · have e1:nS x=false:=decide_eq_false hn
        have hy0 : ¬ y<0:=by unfold mj at hs;rw [if_neg hn] at hs;revert hs;split<;>(try split)<;>(try split)<;>omega
        have ev:Ix (x.natAbs:Int) (y.natAbs:Int)=Ix x y:=by congr 1<;>omega
        refine ah (a:=()) ?_ (by rw [ev];rfl)
        unfold rQ
        rw [dN x2,dN y2,zg,zg]
        simp only [iI,eB]
        exact fE (cH x2) (aA (fE (cH y2) (aA (kg (by rw [hs,bne_self_eq_false]) (kg e1 rfl)))))
    · have ev:nZ (-1) (uu 1 (mj x-mj y))=Ix x y:=by
        unfold nZ uu Ix;unfold mj at hs ⊢
        revert hs
        repeat' split
        all_goals omega
      refine bB ?_
      unfold rQ
      rw [dN x2,dN y2,zg,zg]
      simp only [iI,eB]
      rw [ev]
      refine fE (cH x2) (aA (fE (cH y2) (aA (tL (bne_iff_ne.2 hs) (fE (cH x2) (aA (fE (cH y2) (aA (fE ?_ rfl)))))))))
      rw [cO];unfold mj;split<;>(try split)<;>(try split)<;>(try split)<;>omega
theorem CW{x:Nat}(hx:x<CN) :cq .and .u64 (Int.fdiv (x:Int) (2^(min (Int.toNat (52:Int)) IntKind.u64.bits))) 2047=((Iy x:Nat):Int):=by
  have e:(52:Int)=((52:Nat):Int):=by omega
  have e':(2047:Int)=((2047:Nat):Int):=by omega
  rw [e,AX _ (by decide),e',LB]
  have h1:x/2^52<W:=Nat.lt_of_le_of_lt (Nat.div_le_self _ _) hx
  rw [Nat.mod_eq_of_lt h1,Nat.mod_eq_of_lt (show 2047<W by decide)]
  congr 1
  exact Nat.and_two_pow_sub_one_eq_mod _ 11
theorem zh{x:Nat}(hx:x<CN) :cq .and .u64 (x:Int) 4503599627370495=((x%4503599627370496:Nat):Int):=by
  have e':(4503599627370495:Int)=((4503599627370495:Nat):Int):=by omega
  rw [e',LB,Nat.mod_eq_of_lt hx,Nat.mod_eq_of_lt (show 4503599627370495<W by decide)]
  congr 1
  exact Nat.and_two_pow_sub_one_eq_mod _ 52
theorem an6{x:Nat}(hx:x<CN) :Int.fdiv (x:Int) (2^(min (Int.toNat (63:Int)) IntKind.u64.bits))=((x/9223372036854775808:Nat):Int):=by
  have e:(63:Int)=((63:Nat):Int):=by omega
  rw [e,AX _ (by decide)]
theorem aqg{y:Nat}(h:y<4503599627370496) :cq .or .u64 (y:Int) 4503599627370496=((y+4503599627370496:Nat):Int):=by
  have e':(4503599627370496:Int)=((4503599627370496:Nat):Int):=by omega
  have hy:y<W:=Nat.lt_trans h (by decide)
  rw [e',acl,Nat.mod_eq_of_lt hy,Nat.mod_eq_of_lt (show 4503599627370496<W by decide)]
  congr 1
  have:=aj4 (h:=y) (x:=1) (r:=52) h
  rw [Nat.one_mul] at this
  exact this
def px(x:Nat) :Nat:=if Iy x≠0 then 3 else if x%4503599627370496≠0 then 2 else 1
theorem alJ{x:Nat}(hx:x<CN)(h:pK x=true) :sH (x:Int)=some (.r0 (px x)):=by
  have h':Iy x≠2047:=by unfold pK at h;exact bne_iff_ne.1 h
  unfold px
  by_cases h1:Iy x=0
  · by_cases h2:x%4503599627370496=0
    · rw [if_neg (by omega),if_neg (by omega)]
      refine bi (ah (a:=()) ?_ rfl)
      unfold vM
      rw [CW hx,zh hx,h1,h2]
      exact aA (bz (bz (bz (bz rfl))))
    · rw [if_neg (by omega),if_pos h2]
      refine bi (bB ?_)
      unfold vM
      rw [CW hx,zh hx,h1]
      exact aA (bz (bz (bz (cg rfl))))
  · rw [if_pos h1]
    refine bi (bB ?_)
    unfold vM
    rw [CW hx,zh hx]
    exact aA (cG (cG (cg rfl)))
def fm(x:Nat) :Nat:=if Iy x≠0 then x%4503599627370496+4503599627370496 else x%4503599627370496
def fe(x:Nat) :Int:=if Iy x≠0 then -1074+((Iy x:Int)-1) else if x%4503599627370496≠0 then -1074 else 0
theorem abc{z:Nat}(h:z<4096) :IntKind.i64.wrap ((z:Nat):Int)=((z:Nat):Int):=by
  simp only [IntKind.wrap,IntKind.signed,IntKind.bits]
  simp
  omega
theorem O1(x:Nat) :Iy x<2048:=Nat.mod_lt _ (by decide)
theorem alK{x:Nat}(hx:x<CN)(h:pK x=true) :eU (x:Int)=some (.r0 0 (x/9223372036854775808==1) ((fm x:Nat):Int) (fe x)):=by
  have hl:=O1 x
  have hs:(((x/9223372036854775808:Nat):Int)==(1:Int))=(x/9223372036854775808==1):=by
    rw [Bool.eq_iff_iff,beq_iff_eq,beq_iff_eq];omega
  refine bi (ah (a:=(px x,false,(x/9223372036854775808==1),((x%4503599627370496:Nat):Int))) ?_ ?_)
  · unfold IK
    rw [alJ hx h,zh hx,an6 hx,hs]
    exact aA (aA rfl)
  · show (BS _ _ _ _).run=_
    unfold BS px fm fe
    rw [CW hx,abc (by omega),aqg (Nat.mod_lt _ (by decide))]
    by_cases h1:Iy x=0
    · by_cases h2:x%4503599627370496=0
      · rw [if_neg (by omega),if_neg (by omega),if_neg (by omega),if_neg (by omega),if_neg (by omega)]
        exact bz (bz (co rfl))
      · rw [if_neg (by omega),if_pos h2,if_neg (by omega),if_neg (by omega),if_pos h2]
        exact bz (co rfl)
    · rw [if_pos h1,if_pos h1,if_pos h1]
      exact co (aA (fE (by rw [cO];omega) (fE (by rw [cO];omega) rfl)))
theorem ary(x:Nat) :fm x<W:=by
  have:=Nat.mod_lt x (show 4503599627370496>0 by decide)
  have w:(9007199254740992:Nat)<W:=by decide
  unfold fm;split<;>omega
theorem ai1{x:Nat}(hx:x<CN)(h:pK x=true) :nS (sg (x/9223372036854775808==1) (fm x))=nS (fz x)∧nM (sg (x/9223372036854775808==1) (fm x))=nM (fz x)∧nE (sg (x/9223372036854775808==1) (fm x)) (fe x)=nE (fz x) (-1074):=by
  have hx':x<18446744073709551616:=hx
  have hl:=O1 x
  unfold fz fm fe
  have hmod:x%4503599627370496=x%9223372036854775808%4503599627370496:=by omega
  by_cases h1:Iy x=0
  · have h3:x%9223372036854775808<4503599627370496:=by unfold Iy at h1;omega
    have h4:jQ (x%9223372036854775808)=0:=by unfold jQ;omega
    have h5:zD (x%9223372036854775808)=x%4503599627370496:=by unfold zD;rw [if_pos h3];omega
    rw [h4,h5,Nat.pow_zero,Nat.mul_one,if_neg (by omega),if_neg (by omega)]
    by_cases h2:x%4503599627370496=0
    · rw [h2,if_neg (by omega)]
      have z:sg (x/9223372036854775808==1) 0=0:=yv.2 rfl
      rw [z,jn,jn];exact ⟨rfl,rfl,rfl⟩
    · rw [if_pos h2];exact ⟨rfl,rfl,rfl⟩
  · have h3 : ¬ x%9223372036854775808<4503599627370496:=by unfold Iy at h1;omega
    have h4:jQ (x%9223372036854775808)=Iy x-1:=by unfold jQ Iy;omega
    have h5:zD (x%9223372036854775808)=x%4503599627370496+4503599627370496:=by unfold zD;rw [if_neg h3];omega
    rw [h4,h5,if_pos h1,if_pos h1]
    obtain ⟨a,b,c⟩:=Gi (z:=sg (x/9223372036854775808==1) ((x%4503599627370496+4503599627370496)*2^(Iy x-1))) (z':=sg (x/9223372036854775808==1) (x%4503599627370496+4503599627370496)) (m:=Iy x-1) apE (-1074)
    refine ⟨a.symm,b.symm,?_⟩
    rw [c];congr 1;omega
theorem Wb{x:Nat}(hx:x<CN)(h:pK x=true) :
    ∃ N,bZ x=some (.r0 0 (nS (fz x)) (aL (nM (fz x)) N) 0 (nl (nM (fz x))) (nE (fz x) (-1074)))∧nl (nM (fz x))≤N∧N≤4096:=by
  have hm:=ary x
  have hn:nl (fm x)≤1:=me (by rw [Nat.pow_one];exact hm)
  have hl:=O1 x
  have he : -1000000≤fe x∧fe x≤1000000:=by unfold fe;split<;>(try split)<;>omega
  obtain ⟨N,h1,h2,h3⟩:=uv (x/9223372036854775808==1) (v:=fm x) (ej _) (by omega) (by omega) he
  obtain ⟨a,b,c⟩:=ai1 hx h
  rw [a,b,c] at h1
  rw [b] at h2
  refine ⟨N,bi (ah (a:=(0,false,(x/9223372036854775808==1),((fm x:Nat):Int),fe x)) ?_ (ah (a:=(nS (fz x),aL (nM (fz x)) N,0,nl (nM (fz x)),nE (fz x) (-1074))) ?_ rfl)),h2,h3⟩
  · unfold UC
    rw [alK hx h]
    exact kg (amt hx h) (anw (fE (by rw [aqU hx h];rfl) (aA rfl)))
  · show (Kn _ _ _ _).run=_
    unfold Kn
    rw [aq3 hm]
    simp only [ze,dD,dE,dF]
    rw [dN hn,h1]
    exact bz (aA (fE (cH hn) (aA rfl)))
end Go.Plb.Seat
namespace Go.Plb
set_option linter.unusedSimpArgs false
set_option linter.unusedVariables false
set_option linter.unusedSectionVars false
variable [Rom]
abbrev H:Nat:=4294967296
def lmh(v i:Nat) :Int:=((v/H^i%H:Nat):Int)
def jG(v n:Nat) :List Int:=mW (lmh v) n
theorem Ax(n:Nat) :0<H^n:=Nat.pow_pos (by decide)
theorem pv{v n:Nat} :(jG v n).length=n:=iY
theorem Np{v i:Nat}(h:v<H^i) :lmh v i=0:=by unfold lmh;rw [Nat.div_eq_of_lt h];rfl
theorem Wc{v n i:Nat}(h:i<n) :(jG v n).getD i 0=lmh v i:=DC h
theorem EY{v n:Nat}(h:v<H^n)(i:Nat) :(jG v n).getD i 0=lmh v i:=by
  by_cases hi:i<n
  · exact Wc hi
  · rw [List.getD_eq_getElem?_getD,List.getElem?_eq_none (by rw [pv];omega)]
    exact (Np (Nat.lt_of_lt_of_le h (Nat.pow_le_pow_right (by decide) (by omega)))).symm
theorem an8{v n m:Nat}(h:m≤n) :aa 0 m (jG v n)=jG v m:=aay h
theorem alL{n:Nat} :List.replicate n (0:Int)=jG 0 n:=by
  rw [wZ];exact dU fun i _=>(Np (Ax i)).symm
theorem Qx{u x j:Nat}(hu:u<H^j)(hx:x<H)(i:Nat) :lmh (u+x*H^j) i=if i=j then (x:Int) else lmh u i:=by
  unfold lmh
  by_cases e:i=j
  · subst e
    rw [if_pos rfl,Nat.add_mul_div_right _ _ (Ax i),Nat.div_eq_of_lt hu,Nat.zero_add,Nat.mod_eq_of_lt hx]
  · rw [if_neg e]
    congr 1
    rcases Nat.lt_or_ge i j with h | h
    · obtain ⟨d,rfl⟩:∃ d,j=i+1+d:=⟨j-i-1,by omega⟩
      have:x*H^(i+1+d)=(x*H^d*H)*H^i:=by
        rw [Nat.pow_add,Nat.pow_succ];simp only [Nat.mul_assoc,Nat.mul_comm,Nat.mul_left_comm]
      rw [this,Nat.add_mul_div_right _ _ (Ax i),Nat.add_mul_mod_self_right]
    · have h1:H^(j+1)≤H^i:=Nat.pow_le_pow_right (by decide) (by omega)
      have h2:u+x*H^j<H^(j+1):=by
        rw [Nat.pow_succ,Nat.mul_comm (H^j)]
        have:(x+1)*H^j≤H*H^j:=Nat.mul_le_mul_right _ hx
        rw [Nat.add_mul,Nat.one_mul] at this
        omega
      have h3:H^j≤H^(j+1):=Nat.pow_le_pow_right (by decide) (by omega)
      rw [Nat.div_eq_of_lt (Nat.lt_of_lt_of_le h2 h1),Nat.div_eq_of_lt (by omega)]
theorem Z9{u x j n:Nat}(hu:u<H^j)(hx:x<H)(hj:j<n) :(jG u n).set j (x:Int)=jG (u+x*H^j) n:=by
  unfold jG
  rw [zc hj]
  exact dU fun i _=>(Qx hu hx i).symm
theorem H3(v j:Nat) :v%H^(j+1)=v%H^j+(v/H^j%H)*H^j:=by
  rw [Nat.pow_succ,Nat.mod_mul,Nat.mul_comm (H^j)]
theorem an9{v n:Nat} :jG (v%H^n) n=jG v n:=by
  refine dU fun i hi=>?_
  unfold lmh
  obtain ⟨d,rfl⟩:∃ d,n=i+1+d:=⟨n-i-1,by omega⟩
  congr 1
  have h:=Nat.mod_mul (a:=H^i) (b:=H^(d+1)) (x:=v)
  have e:H^(i+1+d)=H^i*H^(d+1):=by rw [←Nat.pow_add];congr 1;omega
  rw [e,h,Nat.add_mul_div_left _ _ (Ax i),Nat.div_eq_of_lt (Nat.mod_lt _ (Ax i)),Nat.zero_add,Nat.pow_succ,Nat.mod_mul_left_mod]
theorem Qy{S t j:Nat}(hS:S<H^j) :(S+t*H^j)/H^(j+1)=t/H∧(S+t*H^j)%H^(j+1)=S+(t%H)*H^j:=by
  have e1:(S+t*H^j)/H^j=t:=by rw [Nat.add_mul_div_right _ _ (Ax j),Nat.div_eq_of_lt hS,Nat.zero_add]
  have e2:(S+t*H^j)%H^j=S:=by rw [Nat.add_mul_mod_self_right,Nat.mod_eq_of_lt hS]
  constructor
  · rw [Nat.pow_succ,←Nat.div_div_eq_div_mul,e1]
  · rw [H3,e1,e2]
theorem H4(v i:Nat) :lmh v i=((v/H^i%H:Nat):Int):=rfl
def jW(O a m k i:Nat) :Nat:=O%H^(k+i)+a%H^i*m*H^k
theorem We(O a m k i:Nat) :jW O a m k (i+1)=jW O a m k i%H^(k+i)+(O/H^(k+i)%H+a/H^i%H*m+jW O a m k i/H^(k+i))*H^(k+i):=by
  have h:=Nat.div_add_mod (jW O a m k i) (H^(k+i))
  have e:H^i*H^k=H^(k+i):=by rw [Nat.pow_add,Nat.mul_comm]
  have e2:(a/H^i%H)*H^i*m*H^k=a/H^i%H*m*H^(k+i):=by
    rw [←e];generalize a/H^i%H=x;ac_rfl
  have e3:jW O a m k (i+1)=jW O a m k i+(O/H^(k+i)%H*H^(k+i)+a/H^i%H*m*H^(k+i)):=by
    unfold jW
    rw [←Nat.add_assoc k i 1,H3 O,H3 a,Nat.add_mul,Nat.add_mul,e2]
    omega
  rw [e3,Nat.add_mul,Nat.add_mul,Nat.mul_comm (jW O a m k i/H^(k+i))]
  omega
theorem ai2{O a m k i:Nat} :jW O a m k i/H^(k+i)≤m:=by
  have h1:=Nat.mod_lt O (Ax (k+i))
  have h2:=Nat.mod_lt a (Ax i)
  have e:H^i*H^k=H^(k+i):=by rw [Nat.pow_add,Nat.mul_comm]
  have h3:a%H^i*m*H^k≤H^(k+i)*m:=by
    have:a%H^i*(m*H^k)≤H^i*(m*H^k):=Nat.mul_le_mul_right _ (by omega)
    have e4:H^i*(m*H^k)=H^(k+i)*m:=by rw [←e];ac_rfl
    rw [Nat.mul_assoc];omega
  have:jW O a m k i<(m+1)*H^(k+i):=by
    rw [Nat.add_mul,Nat.one_mul,Nat.mul_comm m]
    unfold jW;omega
  have:=(Nat.div_lt_iff_lt_mul (Ax (k+i))).2 this
  omega
def Jy(O a m k n i:Nat) :List Int:=mW (fun q=>if q<k+i then lmh (jW O a m k i%H^(k+i)) q else lmh O q) n
theorem aoa{O a m k n i:Nat} :(Jy O a m k n i).length=n:=iY
theorem aqh{O a m k n i:Nat}(h:k+i<n) :(Jy O a m k n i).getD (k+i) 0=lmh O (k+i):=by
  unfold Jy;rw [DC h,if_neg (Nat.lt_irrefl _)]
theorem alM{O a m k n:Nat} :Jy O a m k n 0=jG O n:=by
  refine dU fun q hq=>?_
  by_cases h:q<k+0
  · rw [if_pos h]
    have e:jW O a m k 0%H^(k+0)=O%H^k:=by unfold jW;rw [Nat.pow_zero,Nat.mod_one,Nat.zero_mul,Nat.zero_mul,Nat.add_zero,Nat.add_zero,Nat.mod_mod]
    rw [e]
    have:(jG (O%H^k) k).getD q 0=(jG O k).getD q 0:=by rw [an9]
    rwa [Wc (by omega),Wc (by omega)] at this
  · rw [if_neg h]
theorem alN{O a m k n i:Nat}(h:k+i<n) :(Jy O a m k n i).set (k+i) (((O/H^(k+i)%H+a/H^i%H*m+jW O a m k i/H^(k+i))%H:Nat):Int)=Jy O a m k n (i+1):=by
  unfold Jy
  rw [zc h]
  refine dU fun q hq=>?_
  have hS:=Nat.mod_lt (jW O a m k i) (Ax (k+i))
  obtain ⟨_,d2⟩:=Qy (t:=O/H^(k+i)%H+a/H^i%H*m+jW O a m k i/H^(k+i)) hS
  rw [←We] at d2
  have hl:=Qx hS (Nat.mod_lt (O/H^(k+i)%H+a/H^i%H*m+jW O a m k i/H^(k+i)) (show H>0 by decide)) q
  rw [←d2] at hl
  rw [←Nat.add_assoc k i 1]
  by_cases e:q=k+i
  · rw [if_pos e] at hl ⊢
    rw [if_pos (by omega),hl]
  · rw [if_neg e] at hl ⊢
    by_cases r:q<k+i
    · rw [if_pos r,if_pos (by omega),hl]
    · rw [if_neg r,if_neg (by omega)]
theorem aob{O a m k n:Nat}(hO:O<H^(k+n))(ha:a<H^n) :jW O a m k n=O+a*m*H^k:=by
  unfold jW;rw [Nat.mod_eq_of_lt hO,Nat.mod_eq_of_lt ha]
theorem aoc{O a m k n N:Nat}(hO:O<H^(k+n)) :Jy O a m k N n=jG (jW O a m k n%H^(k+n)) N:=by
  refine dU fun q hq=>?_
  by_cases h:q<k+n
  · rw [if_pos h]
  · rw [if_neg h,Np (Nat.lt_of_lt_of_le hO (Nat.pow_le_pow_right (by decide) (by omega))),Np (Nat.lt_of_lt_of_le (Nat.mod_lt _ (Ax _)) (Nat.pow_le_pow_right (by decide) (by omega)))]
theorem H2(i:Nat) :W^i=H^(2*i):=by rw [Nat.pow_mul,show H^2=W by decide]
theorem amQ(v i:Nat) :v/W^i%W%H=v/H^(2*i)%H:=by
  rw [H2,show W=H*H by decide,Nat.mod_mul_right_mod]
theorem amR(v i:Nat) :v/W^i%W/H=v/H^(2*i+1)%H:=by
  rw [H2,show W=H*H by decide,Nat.mod_mul_right_div_self,Nat.div_div_eq_div_mul,Nat.pow_succ]
theorem ai3(v i:Nat) :v/W^i%W=v/H^(2*i)%H+v/H^(2*i+1)%H*H:=by
  rw [←amQ,←amR,Nat.mul_comm];exact (Nat.mod_add_div _ _).symm
end Go.Plb
namespace Go.Plb.Seat
open Go Go.Plb
set_option linter.unusedSimpArgs false
set_option linter.unusedVariables false
theorem abd{v n m:Nat}(h:m≤n) :List.take m (aL v n)=aL v m:=by
  have:=dN (v:=v) h
  rwa [HN,List.drop_zero] at this
theorem vj{v n:Nat}(h:v<W^n)(hn:n≤1000000) :bY (aL v n)=some (.r0 (nl v) (aL v (nl v))):=by
  have hl:=me h
  refine bi (ah rfl (ah (a:=((nl v:Nat):Int)) (cr (fun j=>((n-j:Nat):Int)) (n-nl v) (by simp only [aw];rfl) (fun j hj=>?_) ?_) ?_))
  · show aB (oH _ _).run _=_
    have e:Int.toNat (((n-j:Nat):Int)-1)=n-(j+1):=by omega
    have z:(aL v n).getD (n-(j+1)) 0=0:=by
      rw [cj h]
      exact AW (Nat.lt_of_lt_of_le (ej v) (Nat.pow_le_pow_right (by decide) (by omega)))
    refine ah (a:=true) ?_ ?_
    · unfold oH
      rw [e,z,aw]
      exact cg (ak (ak (ak rfl)))
    · unfold G3
      refine co (ak ?_)
      show some (Sum.inl _)=_
      congr 2;omega
  · have e0:n-(n-nl v)=nl v:=by omega
    show aB (oH _ _).run _=_
    rw [e0]
    by_cases h0:v=0
    · have z:=je.2 h0
      rw [z]
      exact ah (a:=false) (bz rfl) (bz rfl)
    · have hp:=zE h0
      have e:Int.toNat (((nl v:Nat):Int)-1)=nl v-1:=by omega
      refine ah (a:=false) ?_ (bz rfl)
      unfold oH
      rw [e,cj h,aw]
      refine cg (ak (ak (ak ?_)))
      show some (Sum.inl _)=_
      congr 2
      rw [beq_eq_false_iff_ne];exact ack h0
  · unfold G4
    rw [aw,cM,abd hl]
    exact ak (ak (ak (ak (ak rfl))))
theorem aod{v n:Nat}(h:v<W^n)(hn:n≤1000000)(hv:nl v≤4096) :wQ (aL v n)=some (.r0 true):=by
  have hl:=me h
  refine bi (ah rfl (ah (a:=((nl v:Nat):Int)) (cr (fun j=>((n-j:Nat):Int)) (n-nl v) (by simp only [aw];rfl) (fun j hj=>?_) ?_) ?_))
  · show aB (qG _ _).run _=_
    have e:Int.toNat (((n-j:Nat):Int)-1)=n-(j+1):=by omega
    have z:(aL v n).getD (n-(j+1)) 0=0:=by
      rw [cj h]
      exact AW (Nat.lt_of_lt_of_le (ej v) (Nat.pow_le_pow_right (by decide) (by omega)))
    refine ah (a:=true) ?_ ?_
    · unfold qG
      rw [e,z,aw]
      exact cg (ak (ak (ak rfl)))
    · unfold Jl
      refine co (ak ?_)
      show some (Sum.inl _)=_
      congr 2;omega
  · have e0:n-(n-nl v)=nl v:=by omega
    show aB (qG _ _).run _=_
    rw [e0]
    by_cases h0:v=0
    · have z:=je.2 h0
      rw [z]
      exact ah (a:=false) (bz rfl) (bz rfl)
    · have hp:=zE h0
      have e:Int.toNat (((nl v:Nat):Int)-1)=nl v-1:=by omega
      refine ah (a:=false) ?_ (bz rfl)
      unfold qG
      rw [e,cj h,aw]
      refine cg (ak (ak (ak ?_)))
      show some (Sum.inl _)=_
      congr 2
      rw [beq_eq_false_iff_ne];exact ack h0
  · show some (Sum.inr (gi.r0 (decide (((nl v:Nat):Int)≤4096))))=_
    rw [decide_eq_true (by omega)]
theorem arz(x:Nat) :Int.tmod (x:Int) (4294967296:Int)=((x%4294967296:Nat):Int):=rfl
theorem arA(x:Nat) :Int.tdiv (x:Int) (4294967296:Int)=((x/4294967296:Nat):Int):=rfl
theorem alO{v n m:Nat}(h:m≤n) :List.take m (jG v n)=jG v m:=by
  have:=an8 (v:=v) h
  rwa [HN,List.drop_zero] at this
theorem Nq(v n:Nat) :v%H^n<H^n:=Nat.mod_lt _ (Ax n)
theorem ai4{v n:Nat}(h:v<W^n)(hn:n≤100000) :kX (aL v n)=some (.r0 (2*n) (2*n) (jG v (2*n))):=by
  refine bi (ah rfl (ah (a:=(2*n,2*n,jG v (2*n))) (cr (fun i=>(2*i,2*i,i,jG v (2*i))) n rfl (fun i hi=>?_) ?_) rfl))
  · show (wj _ _ _ _ _).run=_
    unfold wj
    have e1:jG v (2*(i+1))=jG v (2*i)++[((v/H^(2*i)%H:Nat):Int),((v/H^(2*i+1)%H:Nat):Int)]:=by
      show mW _ (2*i+1+1)=_
      simp only [mW,jG,H4,List.append_assoc];rfl
    rw [cj h,su,aw,pv,arz,arA]
    have hlt:v/W^i%W/4294967296<W:=Nat.lt_of_le_of_lt (Nat.div_le_self _ _) (Nat.mod_lt _ (by decide))
    rw [zF hlt,alO (Nat.le_refl _)]
    have w1:v/W^i%W%4294967296=v/H^(2*i)%H:=amQ v i
    have w2:v/W^i%W/4294967296=v/H^(2*i+1)%H:=amR v i
    rw [w1,w2]
    refine cg (ak (ak (aA (ak (ak (aA (ak (ak (aA (ak (ak ?_)))))))))))
    show some (Sum.inl (2*i+2,2*i+2,i+1,jG v (2*i)++[((v/H^(2*i)%H:Nat):Int),((v/H^(2*i+1)%H:Nat):Int)]))=_
    rw [←e1];rfl
  · show (wj _ _ _ _ _).run=_
    exact kg (by rw [aw];exact (by simp only [cO,AU,CJ,nU,oR,gC,oS,oT,decide_eq_true_eq,decide_eq_false_iff_not,beq_iff_eq,beq_eq_false_iff_ne,bne_iff_ne,bne_eq_false_iff_eq,Bool.not_eq_true',Bool.not_eq_false',List.length_set,ne_eq,ge_iff_le,gt_iff_lt,kC,cM,wE];omega)) rfl
theorem aoe{v m:Nat}(h:v<H^m)(hm:m≤200000) :pq (jG v m)=some (.r0 (aL v (nl v)) (nl v)):=by
  have hW:v<W^((m+1)/2):=by
    rw [H2];exact Nat.lt_of_lt_of_le h (Nat.pow_le_pow_right (by decide) (by omega))
  refine bi (ah rfl (ah (a:=((m+1)/2,(m+1)/2,aL v ((m+1)/2))) (cr (fun j=>(j,j,2*j,aL v j)) ((m+1)/2) rfl (fun j hj=>?_) ?_) (ah (a:=(aL v (nl v),nl v)) ?_ rfl)))
  · show aB (tr _ _ _ _ _).run _=_
    have e1:aL v (j+1)=aL v j++[((v/W^j%W:Nat):Int)]:=rfl
    refine ah (a:=(j+1,aL v (j+1))) ?_ (ak rfl)
    unfold tr
    rw [EY h,EY h,H4,H4,pv,aw,abd (Nat.le_refl _)]
    have lo:=Nat.mod_lt (v/H^(2*j)) (show H>0 by decide)
    have hi:=Nat.mod_lt (v/H^(2*j+1)) (show H>0 by decide)
    have hb:=ai3 v j
    have hlt:v/W^j%W<W:=Nat.mod_lt _ (by decide)
    by_cases hlast:2*j+1<m
    · have w1:IntKind.u64.wrap (((v/H^(2*j+1)%H:Nat):Int)*(4294967296:Int))=((v/H^(2*j+1)%H*H:Nat):Int):=by
        rw [show (4294967296:Int)=((H:Nat):Int) from rfl,wD,Nat.mod_eq_of_lt (by omega)]
      rw [w1,oi,←hb,Nat.mod_eq_of_lt hlt]
      exact cg (ak (ak (ak (cg (ak (ak (ak (ak (ak (aA (ak rfl)))))))))))
    · have z:v/H^(2*j+1)%H=0:=by
        rw [Nat.div_eq_of_lt (Nat.lt_of_lt_of_le h (Nat.pow_le_pow_right (by decide) (by omega)))];rfl
      rw [z,Nat.zero_mul,Nat.add_zero] at hb
      rw [←hb]
      exact cg (ak (ak (ak (cG (ak (ak (aA (ak rfl))))))))
  · show aB (tr _ _ _ _ _).run _=_
    exact bB (kg (by rw [pv];exact (by simp only [cO,AU,CJ,nU,oR,gC,oS,oT,decide_eq_true_eq,decide_eq_false_iff_not,beq_iff_eq,beq_eq_false_iff_ne,bne_iff_ne,bne_eq_false_iff_eq,Bool.not_eq_true',Bool.not_eq_false',List.length_set,ne_eq,ge_iff_le,gt_iff_lt,kC,cM,wE];omega)) rfl)
  · show (Aq _ _).run=_
    unfold Aq
    rw [dr aw,vj hW (by omega)]
    exact jb (aA rfl)
theorem abe{a b n m:Nat}(ha:a<W^n)(hb:b<W^m)(hn:n≤10000)(hm:m≤10000) :oM (aL a n) (aL b m)=some (.r0 (sv a b)):=by
  have la:=me ha
  have lb:=me hb
  refine bi (ah (a:=(aL a (nl a),nl a,aL b (nl b),nl b)) ?_ ?_)
  · unfold Nm
    rw [bj,bj,vj ha (by omega),vj hb (by omega)]
    exact cK (aA (cK (aA rfl)))
  by_cases h1:nl a<nl b
  · have:sv a b = -1:=by unfold sv;rw [if_pos (LA h1)]
    rw [this]
    exact bB (cg (cg rfl))
  by_cases h2:nl b<nl a
  · have hlt:=LA h2
    have:sv a b=1:=by unfold sv;rw [if_neg (by omega),if_pos hlt]
    rw [this]
    exact bB (cg (cG rfl))
  have hn':nl b=nl a:=by omega
  have hA:=ej a
  have hB:=ej b
  have hk:nl a≤10000:=by omega
  rw [hn'] at hB ⊢
  clear la lb h1 h2 hn'
  generalize nl a=n at *
  refine ah (a:=((n:Int)-1)) (kg (by simp) (ak rfl)) ?_
  have step:∀ j,j<n→lm a (n-1-j)=lm b (n-1-j)→wt (aL a n) n (aL b n) n ((n:Int)-1-j)=some (.inl ((n:Int)-1-(j+1:Nat))):=by
    intro j hj he
    show (qJ _ _ _ _ _).run=_
    unfold qJ
    have e:Int.toNat ((n:Int)-1-(j:Int))=n-1-j:=by omega
    rw [e,cj hA,cj hB,aw,aw,he]
    refine cg (ak (ak (ak (ak (kg (by simp) (ak (ak (ak (ak (kg (by simp) (ak ?_)))))))))))
    show some (Sum.inl _)=_
    congr 2;omega
  by_cases hall:∀ j,j<n→lm a (n-1-j)=lm b (n-1-j)
  · have hab:a=b:=by
      have:=Gf hA hB (d:=n) (Nat.le_refl _) fun k _ h2=>by
        have:=hall (n-1-k) (by omega)
        rwa [show n-1-(n-1-k)=k by omega] at this
      simpa using this
    subst hab
    have:sv a a=0:=by unfold sv;rw [if_neg (Nat.lt_irrefl _),if_neg (Nat.lt_irrefl _)]
    rw [this]
    exact ah (cr (fun j=>(n:Int)-1-(j:Nat)) n (by omega) (fun j hj=>step j hj (hall j hj)) (cG rfl)) rfl
  · obtain ⟨k,hk,hb',hf⟩:=uA hall
    have hup:a/W^(n-1-k+1)=b/W^(n-1-k+1):=by
      have:=Gf hA hB (d:=k) (by omega) fun i h1 h2=>by
        have:=hf (n-1-i) (by omega)
        rwa [show n-1-(n-1-i)=i by omega] at this
      rwa [show n-k=n-1-k+1 by omega] at this
    refine bB (cr (fun j=>(n:Int)-1-(j:Nat)) k (by omega) (fun j hj=>step j (by omega) (hf j hj)) ?_)
    show (qJ _ _ _ _ _).run=_
    unfold qJ
    have e:Int.toNat ((n:Int)-1-(k:Int))=n-1-k:=by omega
    rw [e,cj hA,cj hB,aw,aw]
    refine cg (ak (ak (ak (ak ?_))))
    by_cases hlt:lm a (n-1-k)<lm b (n-1-k)
    · have:=DE hup hlt
      have:sv a b = -1:=by unfold sv;rw [if_pos this]
      rw [this]
      exact tL (decide_eq_true hlt) rfl
    · have hgt:lm b (n-1-k)<lm a (n-1-k):=by omega
      have hlt':=DE hup.symm hgt
      have:sv a b=1:=by unfold sv;rw [if_neg (by omega),if_pos hlt']
      rw [this]
      exact kg (decide_eq_false hlt) (ak (ak (ak (ak (tL (decide_eq_true hgt) rfl)))))
theorem Wf{a b n m:Nat}(ha:a<H^n)(hb:b<H^m) :a*b<H^(n+m):=by
  rw [Nat.pow_add]
  rcases Nat.eq_zero_or_pos b with h | h
  · rw [h,Nat.mul_zero];exact Nat.mul_pos (Ax _) (Ax _)
  · exact Nat.mul_lt_mul_of_lt_of_le ha (Nat.le_of_lt hb) (Ax _)
theorem aof{x y c o:Nat}(hx:x<H)(hy:y<H)(hc:c≤x)(ho:o<H) :o+x*y+c<W:=by
  have hp:x*y≤4294967295*4294967295:=Nat.mul_le_mul (by have:x<4294967296:=hx;omega) (by have:y<4294967296:=hy;omega)
  have h1:x<4294967296:=hx
  have h2:o<4294967296:=ho
  show _<18446744073709551616
  omega
theorem abf{a b n m:Nat}(ha:a<W^n)(hb:b<W^m)(hn:n≤10000)(hm:m≤10000) :cv (aL a n) (aL b m)=some (.r0 (aL (a*b) (nl (a*b))) (nl (a*b))):=by
  have ha':a<H^(2*n):=by rw [←H2];exact ha
  have hb':b<H^(2*m):=by rw [←H2];exact hb
  have hab:=Wf ha' hb'
  have hab1:a*b<H^(2*n+2*m+1):=Nat.lt_of_lt_of_le hab (Nat.pow_le_pow_right (by decide) (by omega))
  refine bi (ah (a:=(jG a (2*n),2*n,jG b (2*m),2*m)) ?_ (ah (a:=(2*n+2*m+1,jG 0 (2*n+2*m+1))) ?_ (ah (a:=jG (a*b) (2*n+2*m+1)) (cr (fun i=>(i,jG (a%H^i*b) (2*n+2*m+1))) (2*n) (by simp [Nat.mod_one]) (fun i hi=>?_) ?_) (ah (a:=(aL (a*b) (nl (a*b)),nl (a*b))) ?_ rfl))))
  · unfold Jn
    rw [bj,bj,ai4 ha (by omega),ai4 hb (by omega)]
    exact cK (aA (cK (aA rfl)))
  · show (Ck _ _).run=_
    unfold Ck
    rw [alL]
    exact ak (ak (ak (ak (ak (ak rfl)))))
  · have hO:a%H^i*b<H^(i+2*m):=Wf (Nq _ _) hb'
    have lx:=Nat.mod_lt (a/H^i) (show H>0 by decide)
    have e2:a%H^i*b+b*(a/H^i%H)*H^i=a%H^(i+1)*b:=by rw [H3,Nat.add_mul,Nat.mul_comm b,Nat.mul_right_comm]
    have hA:=aob (O:=a%H^i*b) (a:=b) (m:=a/H^i%H) (k:=i) hO hb'
    have hL:=aoc (O:=a%H^i*b) (a:=b) (m:=a/H^i%H) (k:=i) (N:=2*n+2*m+1) hO
    rw [e2] at hA
    rw [hA] at hL
    show aB (Cm _ _ _).run _=_
    refine ah (a:=()) (cg rfl) (ah (a:=jG (a%H^(i+1)*b) (2*n+2*m+1)) (apn (ah rfl (ah (a:=(((a%H^(i+1)*b/H^(i+2*m):Nat):Int),jG (a%H^(i+1)*b%H^(i+2*m)) (2*n+2*m+1))) ?_ ?_))) (ak rfl))
    · have c0:jW (a%H^i*b) b (a/H^i%H) i 0/H^(i+0)=0:=by
        have e:jW (a%H^i*b) b (a/H^i%H) i 0=a%H^i*b%H^i:=by unfold jW;rw [Nat.pow_zero,Nat.mod_one,Nat.zero_mul,Nat.zero_mul,Nat.add_zero,Nat.add_zero]
        rw [e,Nat.add_zero,Nat.div_eq_of_lt (Nq _ _)]
      refine cr (fun k=>(((jW (a%H^i*b) b (a/H^i%H) i k/H^(i+k):Nat):Int),k,Jy (a%H^i*b) b (a/H^i%H) i (2*n+2*m+1) k)) (2*m) (by rw [c0,alM];rfl) (fun k hk=>?_) ?_
      · have hc:=ai2 (O:=a%H^i*b) (a:=b) (m:=a/H^i%H) (k:=i) (i:=k)
        have ly:=Nat.mod_lt (b/H^k) (show H>0 by decide)
        have lO:=Nat.mod_lt (a%H^i*b/H^(i+k)) (show H>0 by decide)
        have hl:=aoa (O:=a%H^i*b) (a:=b) (m:=a/H^i%H) (k:=i) (n:=2*n+2*m+1) (i:=k)
        have hat:=aqh (O:=a%H^i*b) (a:=b) (m:=a/H^i%H) (k:=i) (n:=2*n+2*m+1) (i:=k) (by omega)
        have hst:=alN (O:=a%H^i*b) (a:=b) (m:=a/H^i%H) (k:=i) (n:=2*n+2*m+1) (i:=k) (by omega)
        have hw:=aof (x:=a/H^i%H) (y:=b/H^k%H) (c:=jW (a%H^i*b) b (a/H^i%H) i k/H^(i+k)) (o:=a%H^i*b/H^(i+k)%H) lx ly hc lO
        have hS:=Nq (jW (a%H^i*b) b (a/H^i%H) i k) (i+k)
        obtain ⟨d1,_⟩:=Qy (t:=a%H^i*b/H^(i+k)%H+b/H^k%H*(a/H^i%H)+jW (a%H^i*b) b (a/H^i%H) i k/H^(i+k)) hS
        rw [←We] at d1
        rw [Nat.mul_comm (a/H^i%H)] at hw
        show (wq _ _ _ _ _ _ _ _ _).run=_
        unfold wq
        rw [hat,H4,EY ha',EY hb',H4,H4,hl,pv,pv,wD,Nat.mul_comm (a/H^i%H),Nat.mod_eq_of_lt (Nat.lt_of_le_of_lt (Nat.le_trans (Nat.le_add_left _ _) (Nat.le_add_right _ _)) hw:b/H^k%H*(a/H^i%H)<W),oi,Nat.mod_eq_of_lt (Nat.lt_of_le_of_lt (Nat.le_add_right _ _) hw:a%H^i*b/H^(i+k)%H+b/H^k%H*(a/H^i%H)<W),oi,Nat.mod_eq_of_lt hw,arz,arA,zF (Nat.lt_of_le_of_lt (Nat.div_le_self _ _) hw)]
        have d1':(a%H^i*b/H^(i+k)%H+b/H^k%H*(a/H^i%H)+jW (a%H^i*b) b (a/H^i%H) i k/H^(i+k))/4294967296=jW (a%H^i*b) b (a/H^i%H) i (k+1)/H^(i+(k+1)):=d1.symm
        have hst':(Jy (a%H^i*b) b (a/H^i%H) i (2*n+2*m+1) k).set (i+k) (((a%H^i*b/H^(i+k)%H+b/H^k%H*(a/H^i%H)+jW (a%H^i*b) b (a/H^i%H) i k/H^(i+k))%4294967296:Nat):Int)=_:=hst
        rw [d1',hst']
        exact cg (ak (ak (ak (ak (ak (ak (ak (ak (aA (ak (ak (aA (ak rfl)))))))))))))
      · show (wq _ _ _ _ _ _ _ _ _).run=_
        refine kg (by rw [decide_eq_false_iff_not];omega) ?_
        rw [hL,hA];rfl
    · have hO1:a%H^(i+1)*b<H^(i+1+2*m):=Wf (Nq _ _) hb'
      have hcar:a%H^(i+1)*b/H^(i+2*m)<H:=by
        refine Nat.div_lt_of_lt_mul ?_
        rw [←Nat.pow_succ,show (i+2*m).succ=i+1+2*m by omega];exact hO1
      have fB:=Z9 (u:=a%H^(i+1)*b%H^(i+2*m)) (x:=a%H^(i+1)*b/H^(i+2*m)) (j:=i+2*m) (n:=2*n+2*m+1) (Nq _ _) hcar (by omega)
      have hv:a%H^(i+1)*b%H^(i+2*m)+a%H^(i+1)*b/H^(i+2*m)*H^(i+2*m)=a%H^(i+1)*b:=by rw [Nat.mul_comm (a%H^(i+1)*b/H^(i+2*m))];exact Nat.mod_add_div _ _
      rw [hv] at fB
      show (Cp _ _ _ _ _).run=_
      unfold Cp
      rw [fB,pv]
      exact ak (ak (ak rfl))
  · show aB (Cm _ _ _).run _=_
    refine bB (kg (by rw [decide_eq_false_iff_not];omega) ?_)
    rw [Nat.mod_eq_of_lt ha'];rfl
  · unfold Jq
    rw [dr pv,aoe hab1 (by omega)]
    exact fE (amN pv) (aA rfl)
theorem alP{k:Nat}(hk:k≤1000000) :fT (k:Int)=some (.r0 (k/64+1) (aL (2^k) (k/64+1))):=by
  have hr:k%64<64:=Nat.mod_lt _ (by decide)
  have fB:=DD (u:=0) (x:=2^(k%64)) (j:=k/64) (n:=k/64+1) (iP _) (zd hr) (by omega)
  rw [Nat.zero_add,←Gg] at fB
  have e1:((k/64:Nat):Int)+(1:Int)=((k/64+1:Nat):Int):=by omega
  have hp:2^(k%64)<W:=zd hr
  have e2:IntKind.u64.wrap ((1:Int)*2^(min (Int.toNat (((k%64:Nat)):Int)) IntKind.u64.bits))=((2^(k%64):Nat):Int):=by
    rw [show (1:Int)=((1:Nat):Int) from rfl,LC _ (by omega),Nat.one_mul,Nat.mod_eq_of_lt hp]
  refine bi ?_
  unfold Ju
  rw [OZ,O0,e1,e2,cM,cM,HS,fB,aw]
  exact aA (ak (ak (ak (ak (ak (ak (aA (ak (aA (ak (ak (ak rfl))))))))))))
theorem aog(k:Nat) :2^k<W^(k/64+1):=by
  rw [Gg,Nat.pow_succ,Nat.mul_comm]
  exact Nat.mul_lt_mul_of_pos_left (zd (Nat.mod_lt _ (by decide))) (iP _)
theorem abg{v n k:Nat}(hv:v<W^n)(hn:n≤10000)(hk:k≤600000) :iW (aL v n) (k:Int)=some (.r0 (aL (v*2^k) (nl (v*2^k))) (nl (v*2^k))):=by
  refine bi (ah (a:=(aL (v*2^k) (nl (v*2^k)),nl (v*2^k))) ?_ rfl)
  unfold Nl
  rw [alP (by omega)]
  simp only [qI,jf,jg]
  rw [bj,dr aw,abf hv (aog k) hn (by omega)]
  exact aA (cK (jb (aA rfl)))
def bl(v:Nat) :Nat:=if v=0 then 0 else v.log2+1
theorem aq9(v:Nat) :v<2^bl v∧∀ j,j<bl v→0<v/2^j:=by
  unfold bl
  by_cases h:v=0
  · subst h;exact ⟨by decide,fun j hj=>absurd hj (by simp)⟩
  · rw [if_neg h]
    refine ⟨Nat.lt_log2_self,fun j hj=>?_⟩
    exact Nat.div_pos (Nat.le_trans (Nat.pow_le_pow_right (by decide) (by omega)) (Nat.log2_self_le h)) (iD j)
theorem Wg{v n:Nat}(hv:v<W^n)(hn:n≤10000) :∃ b:Nat,mN (aL v n)=some (.r0 (b:Int))∧v<2^b∧b≤64*nl v:=by
  have hl:=me hv
  have t8:(B5 (aL v n)).run=some (.inl (aL v (nl v),nl v)):=by
    unfold B5
    rw [bj,vj hv (by omega)]
    exact cK (aA rfl)
  by_cases h0:v=0
  · refine ⟨0,bi (ah t8 (bB ?_)),by rw [h0];decide,Nat.zero_le _⟩
    rw [h0,fq];exact co rfl
  · have hp:=zE h0
    obtain ⟨b1,b2⟩:=aq9 (v/W^(nl v-1)%W)
    have hlt:v/W^(nl v-1)%W<W:=Nat.mod_lt _ (by decide)
    have hb64:bl (v/W^(nl v-1)%W)≤64:=by
      rcases Nat.lt_or_ge 64 (bl (v/W^(nl v-1)%W)) with q | q
      · exfalso
        have:=b2 64 q
        have e:v/W^(nl v-1)%W/2^64=0:=Nat.div_eq_of_lt hlt
        omega
      · exact q
    have hdiv:v/W^(nl v-1)%W=v/W^(nl v-1):=by
      refine Nat.mod_eq_of_lt (Nat.div_lt_of_lt_mul ?_)
      rw [←Nat.pow_succ,show (nl v-1).succ=nl v by omega];exact ej v
    refine ⟨64*(nl v-1)+bl (v/W^(nl v-1)%W),bi (ah t8 (ah (a:=(((64*(nl v-1):Nat):Int),((v/W^(nl v-1)%W:Nat):Int))) ?_ (ah (a:=((64*(nl v-1)+bl (v/W^(nl v-1)%W):Nat):Int)) (cr (fun j=>(((64*(nl v-1)+j:Nat):Int),((v/W^(nl v-1)%W/2^j:Nat):Int))) (bl (v/W^(nl v-1)%W)) (by simp) (fun j hj=>?_) ?_) rfl))),?_,by omega⟩
    · show (B6 _ _).run=_
      unfold B6
      have e1:Int.toNat (((nl v:Nat):Int)-1)=nl v-1:=by omega
      have e2:(64:Int)*(((nl v:Nat):Int)-1)=((64*(nl v-1):Nat):Int):=by omega
      rw [e1,e2,cj (ej v),su,aw]
      exact cG (ak (ak (ak (ak (ak rfl)))))
    · show (tj _ _).run=_
      have hpos:=b2 j hj
      unfold tj
      have e1:((64*(nl v-1)+j:Nat):Int)+(1:Int)=((64*(nl v-1)+(j+1):Nat):Int):=by omega
      have e2:Int.tdiv ((v/W^(nl v-1)%W/2^j:Nat):Int) (2:Int)=((v/W^(nl v-1)%W/2^(j+1):Nat):Int):=by
        show ((v/W^(nl v-1)%W/2^j/2:Nat):Int)=_
        rw [Nat.pow_succ,Nat.div_div_eq_div_mul]
      rw [e1,e2,zF (Nat.lt_of_le_of_lt (Nat.div_le_self _ _) hlt)]
      exact cg (ak (aA rfl))
    · show (tj _ _).run=_
      have z:v/W^(nl v-1)%W/2^bl (v/W^(nl v-1)%W)=0:=Nat.div_eq_of_lt b1
      rw [z]
      exact bz rfl
    · have e:W^(nl v-1)=2^(64*(nl v-1)):=by rw [Nat.pow_mul]
      rw [Nat.pow_add,←e]
      rw [hdiv] at b1 ⊢
      have:=(Nat.div_lt_iff_lt_mul (iP (nl v-1))).1 b1
      rw [Nat.mul_comm];exact this
theorem aqi(v i:Nat) :v/W^(i/64)%W/2^(i%64)%2=v/2^i%2:=by
  have hr:i%64<64:=Nat.mod_lt _ (by decide)
  have e64:W=2^(i%64)*(2*2^(63-i%64)):=by
    rw [←Nat.mul_assoc,←Nat.pow_succ,←Nat.pow_add];show 2^64=_;congr 1;omega
  rw [Gg i,Nat.mul_comm (2^(i%64)),←Nat.div_div_eq_div_mul]
  generalize v/W^(i/64)=y
  rw [e64,Nat.mod_mul_right_div_self,Nat.mod_mul_right_mod]
theorem H5{v n i:Nat}(hv:v<W^n)(hn:n≤10000)(hi:i≤1000000) :kT (aL v n) (i:Int)=some (.r0 (v/2^i%2==1)):=by
  have hr:i%64<64:=Nat.mod_lt _ (by decide)
  refine bi (ah (a:=(v/2^i%2==1)) ?_ rfl)
  unfold MX
  rw [OZ,O0,cM,cj hv,su,AX _ (by omega),aw]
  by_cases h:i/64<n
  · refine cg (aA (ak (cg (aA (ak (ak (ak (aA (ak (aA ?_))))))))))
    have e:Int.tmod ((v/W^(i/64)%W/2^(i%64):Nat):Int) (2:Int)=((v/W^(i/64)%W/2^(i%64)%2:Nat):Int):=rfl
    rw [e,aqi]
    show some (Sum.inl _)=_
    congr 2
    rw [Bool.eq_iff_iff,beq_iff_eq,beq_iff_eq];omega
  · have z:v/2^i=0:=agD hv (by omega)
    rw [z]
    exact cg (aA (ak (cG rfl)))
theorem ai5{v n:Nat}(hv:v<W^n)(hn:n≤10000)(h0:v≠0) :qE (aL v n)=some (.r0 (tz v)):=by
  have hl:=me hv
  obtain ⟨b,h1,h2,h3⟩:=Wg hv hn
  have ht:=aaA h0 h2
  obtain ⟨z1,z2⟩:=AY v h0
  refine bi (ah (a:=(b:Int)) ?_ (ah rfl (bB (cr (fun i=>i) (tz v) rfl (fun j hj=>?_) ?_))))
  · unfold Fq
    rw [bj,h1]
    exact cK (aA rfl)
  · have z:v/2^j%2=0:=by
      obtain ⟨d,hd⟩:∃ d,tz v=j+1+d:=⟨tz v-j-1,by omega⟩
      obtain ⟨c,hc⟩:=Nat.dvd_of_mod_eq_zero z1
      have:v=(2^d*c*2)*2^j:=by
        rw [hd,Nat.pow_add,Nat.pow_succ] at hc
        rw [hc];simp only [Nat.mul_assoc,Nat.mul_comm,Nat.mul_left_comm]
      rw [this,Nat.mul_div_cancel _ (iD j),Nat.mul_mod_left]
    show aB (nG _ _ _).run _=_
    refine ah (a:=()) ?_ (ak rfl)
    unfold nG
    rw [bj,H5 hv hn (by omega),z]
    exact cg (cK (aA (bz rfl)))
  · show aB (nG _ _ _).run _=_
    refine bB ?_
    unfold nG
    rw [bj,H5 hv hn (by omega),z2]
    exact cg (cK (aA (co rfl)))
theorem aqj(v k j:Nat) :v%2^(k+(j+1))/2^k=v%2^(k+j)/2^k+v/2^(k+j)%2*2^j:=by
  rw [←Nat.add_assoc,Nat.pow_succ,Nat.mod_mul,Nat.pow_add,Nat.mul_assoc,Nat.add_mul_div_left _ _ (iD k),Nat.mul_comm (2^j)]
theorem aoh{v n k:Nat}(hv:v<W^n)(hn:n≤10000)(hk:k≤1000000) :
    ∃ b,rT (aL v n) (k:Int)=some (.r0 (aL (v/2^k) (nl (v/2^k))) (nl (v/2^k)) b):=by
  have hl:=me hv
  obtain ⟨b,h1,h2,h3⟩:=Wg hv hn
  let f:Nat→Bool:=fun j=>Nat.rec (motive:=fun _=>Bool) false (fun j b=>b||(v/2^j%2==1)) j
  have t20:(B8 (aL v n)).run=some (.inl (false,(b:Int))):=by
    unfold B8
    rw [bj,h1]
    exact cK (aA rfl)
  have hmin:min k b≤640000:=by omega
  have hm1:∀ j,j<min k b→j<k∧j<b:=fun j hj=>by omega
  have hm2 : ¬ (min k b<k∧min k b<b):=by omega
  have l26:cU (we (aL v n) (k:Int) (b:Int)) (false,0)=some (.inl (f (min k b))):=by
    revert hmin hm1 hm2
    generalize min k b=g
    intro hmin hm1 hm2
    refine cr (fun j=>(f j,j)) g rfl (fun j hj=>?_) ?_
    · obtain ⟨q1,q2⟩:=hm1 j hj
      show aB (qF _ _ _).run _=_
      refine ah (a:=true) ?_ (ah (a:=f (j+1)) ?_ (ak rfl))
      · unfold qF
        refine cg ?_
        show some (Sum.inl (decide _))=_
        rw [decide_eq_true (by omega)]
      · show (B9 _ _ _ _).run=_
        unfold B9
        rw [bj,H5 hv hn (by omega)]
        have hf:f (j+1)=(f j||(v/2^j%2==1)):=rfl
        rw [hf]
        refine co ?_
        cases f j
        · exact bz (cK (aA rfl))
        · exact co rfl
    · show aB (qF _ _ _).run _=_
      refine ah (a:=false) ?_ (bB (bz rfl))
      unfold qF
      by_cases q:g<k
      · refine cg ?_
        show some (Sum.inl (decide _))=_
        rw [decide_eq_false (by omega)]
      · exact cG rfl
  refine ⟨f (min k b),bi (ah t20 (ah rfl (ah l26 ?_)))⟩
  by_cases hkb:b≤k
  · have z:v/2^k=0:=Nat.div_eq_of_lt (Nat.lt_of_lt_of_le h2 (Nat.pow_le_pow_right (by decide) hkb))
    rw [z,fq]
    refine bB ?_
    unfold Ca
    exact cg rfl
  · have e0:v%2^(k+0)/2^k=0:=Nat.div_eq_of_lt (Nat.mod_lt _ (iD _))
    have eb:v%2^(k+(b-k))/2^k=v/2^k:=by rw [show k+(b-k)=b by omega,Nat.mod_eq_of_lt h2]
    refine ah (a:=aL 0 n) ?_ (ah (a:=aL (v/2^k) n) (cr (fun j=>(((k+j:Nat):Int),aL (v%2^(k+j)/2^k) n)) (b-k) (by rw [e0];rfl) (fun j hj=>?_) ?_) (ah (a:=(aL (v/2^k) (nl (v/2^k)),nl (v/2^k))) ?_ rfl))
    · unfold Ca
      rw [aw,HS]
      exact cG (ak (ak (ak (ak rfl))))
    · show aB (wh _ _ _ _ _).run _=_
      refine ah (a:=aL (v%2^(k+(j+1))/2^k) n) ?_ (fE (by rw [cO];omega) rfl)
      unfold wh
      have hbs:=aqj v k j
      have es:((k+j:Nat):Int)-(k:Int)=(j:Int):=by omega
      rw [bj,H5 hv hn (by omega),es,OZ,O0,cM]
      simp only [mO,lR]
      refine tL (by rw [decide_eq_true_eq];omega) (cK (aA ?_))
      have hr:j%64<64:=Nat.mod_lt _ (by decide)
      have hjn:j/64<n:=by omega
      by_cases hbit:v/2^(k+j)%2=1
      · rw [hbit,Nat.one_mul] at hbs
        have hU:v%2^(k+j)/2^k<2^j:=by
          refine Nat.div_lt_of_lt_mul ?_
          rw [←Nat.pow_add];exact Nat.mod_lt _ (iD _)
        have hUW:v%2^(k+j)/2^k<W^n:=by
          refine Nat.lt_of_lt_of_le hU ?_
          rw [show W^n=2^(64*n) by rw [Nat.pow_mul]]
          exact Nat.pow_le_pow_right (by decide) (by omega)
        rw [hbs]
        revert hU hUW
        generalize v%2^(k+j)/2^k=U
        intro hU hUW
        have hd:U/W^(j/64)<2^(j%64):=by
          refine Nat.div_lt_of_lt_mul ?_
          rw [Nat.mul_comm,←Gg];exact hU
        have hp:2^(j%64)<W:=zd hr
        have hp2:2^(j%64)+2^(j%64)≤W:=by
          have:2^(j%64+1)≤2^64:=Nat.pow_le_pow_right (by decide) hr
          rw [Nat.pow_succ] at this
          have w:W=2^64:=by decide
          omega
        have hx:U/W^(j/64)%W+2^(j%64)<W:=by
          have:=Nat.mod_le (U/W^(j/64)) W
          omega
        have fB:=agC (n:=n) hx hjn
        rw [←Gg] at fB
        have e2:IntKind.u64.wrap ((1:Int)*2^(min (Int.toNat (((j%64:Nat)):Int)) IntKind.u64.bits))=((2^(j%64):Nat):Int):=by
          rw [show (1:Int)=((1:Nat):Int) from rfl,LC _ (by omega),Nat.one_mul,Nat.mod_eq_of_lt hp]
        rw [hbit,e2,cj hUW,su,oi,Nat.mod_eq_of_lt hx,fB,aw,aw]
        exact co (ak (aA (ak (ak (aA (ak (ak (ak (ak (aA (ak (ak (ak rfl)))))))))))))
      · have z:v/2^(k+j)%2=0:=by omega
        rw [z,Nat.zero_mul,Nat.add_zero] at hbs
        rw [z,hbs]
        exact bz rfl
    · show aB (wh _ _ _ _ _).run _=_
      refine bB (kg (by rw [decide_eq_false_iff_not];omega) ?_)
      rw [eb];rfl
    · have hq:v/2^k<W^n:=Nat.lt_of_le_of_lt (Nat.div_le_self _ _) hv
      unfold Jf
      rw [aw,dr aw,vj hq (by omega)]
      exact jb (aA rfl)
theorem KF(s:Bool){v n:Nat}(hv:v<W^n)(hn:n≤10000)(hl:nl v≤4096){e:Int}(he : -1000000≤e∧e≤1000000) :
    bh s (aL v n) e=some (.r0 (nS (sg s v)) (aL (nM (sg s v)) (nl (nM (sg s v)))) (nl (nM (sg s v))) (nE (sg s v) e)):=by
  have t5:(Cd (aL v n)).run=some (.inl (aL v (nl v),nl v,false)):=by
    unfold Cd
    rw [bj,vj hv (by omega)]
    exact cK (aA rfl)
  by_cases h0:v=0
  · have z:sg s v=0:=yv.2 h0
    rw [z,jn,amr,jZ,fq]
    refine bi (ah t5 (bB ?_))
    rw [h0,fq]
    exact co rfl
  · have z:sg s v≠0:=fun q=>h0 (yv.1 q)
    have hp:=zE h0
    have ht:=agF (v:=v)
    obtain ⟨b,h1⟩:=aoh (k:=tz v) (ej v) (by omega) (by omega)
    have eM:nM (sg s v)=v/2^tz v:=by unfold nM;rw [Gh]
    have eE:nE (sg s v) e=e+((tz v:Nat):Int):=by rw [lE z,Gh]
    rw [aru h0,eM,eE]
    refine bi (ah t5 (ah (a:=tz v) ?_ (ah (a:=(aL (v/2^tz v) (nl (v/2^tz v)),nl (v/2^tz v))) ?_ ?_)))
    · show (Ce _ _).run=_
      unfold Ce
      rw [dr aw,ai5 (ej v) (by omega) h0]
      exact cG (jb (aA rfl))
    · show (Cf _ _ _).run=_
      unfold Cf
      rw [dr aw,h1]
      exact jb (aA rfl)
    · exact fE (by rw [cO];omega) rfl
theorem abh{v n:Nat}(hv:v<W^n)(hn:n≤1000000)(hl:nl v≤4096){e:Int}(he : -262144≤e∧e≤262144) :fw (aL v n) e=some (.r0 true):=by
  refine bi (ah (a:=true) ?_ rfl)
  unfold M7
  rw [bj,aod hv hn hl]
  refine cK (aA (co (cg ?_)))
  show some (Sum.inl (decide (e≤262144)))=_
  rw [decide_eq_true he.2]
theorem Nr{z e:Int}{s:Bool}(hs:z≠0→s=nS z)(h:Sm z e) :bh s (aL (nM z) (nl (nM z))) (nE z e)=some (.r0 (nS z) (aL (nM z) (nl (nM z))) (nl (nM z)) (nE z e)):=by
  have hm:=h.m
  have hb:=h.b
  have h1:=KF s (ej (nM z)) (by omega) (by omega) (e:=nE z e) (by omega)
  obtain ⟨a,b,c⟩:=agE (e:=e) hs
  rw [a,b,c] at h1
  exact h1
theorem Sd{z e:Int}(h:Sm z e) :fw (aL (nM z) (nl (nM z))) (nE z e)=some (.r0 true):=by
  have hm:=h.m
  have hb:=h.b
  exact abh (ej (nM z)) (by omega) (by omega) (by omega)
theorem alQ(s:Bool){v n:Nat}(hv:v<W^n)(hn:n≤10000)(hl:nl v≤1000){e:Int}(he : -150000≤e∧e≤150000) :
    iN s (aL v n) e=some (.r0 0 (nS (sg s v)) (aL (nM (sg s v)) (nl (nM (sg s v)))) (nl (nM (sg s v))) (nE (sg s v) e)):=by
  have h1:=KF s hv hn (by omega) (e:=e) (by omega)
  have ht:=agF (v:=v)
  have hE' : -262144≤nE (sg s v) e∧nE (sg s v) e≤262144:=by
    unfold nE;rw [Gh];split<;>omega
  have hM:nl (nM (sg s v))≤nl v:=by have:=DF (arv (z:=sg s v));rwa [Gh] at this
  refine bi (ah (a:=(nS (sg s v),aL (nM (sg s v)) (nl (nM (sg s v))),nl (nM (sg s v)),nE (sg s v) e,false)) ?_ (ah (a:=false) ?_ rfl))
  · unfold Js
    rw [bj,h1]
    exact cK (aA rfl)
  · show (Cr _ _ _).run=_
    unfold Cr
    rw [dr aw,abh (ej _) (by omega) (by omega) hE']
    exact jb (aA rfl)
theorem alR{z e:Int}{m:Nat}(h:Sm z e)(h0:z≠0)(hm:m≤tz z.natAbs){k:Int}(hk:k=((tz z.natAbs-m:Nat):Int)) :
    iW (aL (nM z) (nl (nM z))) k=some (.r0 (aL (z.natAbs/2^m) (nl (z.natAbs/2^m))) (nl (z.natAbs/2^m))):=by
  obtain ⟨e1,e2⟩:=wu hm
  have ht:=h.t
  have hM:=h.m
  rw [hk,abg (ej _) (by omega) (by omega),e1]
theorem asf{k:Nat}(hk:k≤100000) :iW (aL (nM 0) (nl (nM 0))) (k:Int)=some (.r0 (aL 0 0) 0):=by
  rw [jZ,fq,abg (v:=0) (n:=0) (by decide) (by omega) (by omega),Nat.zero_mul,fq]
theorem ai6{z e ep:Int}{m:Nat}(h:Sm z e)(hp:z≠0→m≤tz z.natAbs∧ep=e+m)(hb : -50000≤ep∧ep≤94800) :
    (tC (aL (nM z) (nl (nM z))) (nE z e) ep).run=some (.inl (aL (z.natAbs/2^m) (nl (z.natAbs/2^m)),nl (z.natAbs/2^m))) ∧
    (tD (aL (nM z) (nl (nM z))) (nE z e) ep).run=some (.inl (aL (z.natAbs/2^m) (nl (z.natAbs/2^m)),nl (z.natAbs/2^m))):=by
  by_cases h0:z=0
  · subst h0
    rw [Int.natAbs_zero,Nat.zero_div,fq,jn]
    unfold tC tD
    rw [bj]
    by_cases hq:(0:Int)>ep
    · obtain ⟨k,hk⟩:∃ k:Nat,(0:Int)-ep=(k:Int):=⟨(0-ep).toNat,by omega⟩
      rw [hk,asf (by omega)]
      exact ⟨tL (decide_eq_true hq) (fE (by rw [cO];omega) (cK (aA rfl))),tL (decide_eq_true hq) (fE (by rw [cO];omega) (cK (aA rfl)))⟩
    · rw [jZ,fq]
      exact ⟨kg (decide_eq_false hq) rfl,kg (decide_eq_false hq) rfl⟩
  · obtain ⟨h1,h2⟩:=hp h0
    have e1:=lE (e:=e) h0
    have ht:=h.t
    have hM:=h.m
    unfold tC tD
    rw [bj]
    by_cases hq:nE z e>ep
    · rw [alR h h0 h1 (k:=nE z e-ep) (by omega)]
      exact ⟨tL (decide_eq_true hq) (fE (by rw [cO];omega) (cK (aA rfl))),tL (decide_eq_true hq) (fE (by rw [cO];omega) (cK (aA rfl)))⟩
    · have hm:m=tz z.natAbs:=by omega
      have e2:z.natAbs/2^m=nM z:=by rw [hm];rfl
      rw [e2]
      exact ⟨kg (decide_eq_false hq) (by rw [aw];rfl),kg (decide_eq_false hq) (by rw [aw];rfl)⟩
theorem ai7{x y e:Int}(hx:Sm x e)(hy:Sm y e) :∃ m ep,iO (aL (nM x) (nl (nM x))) (nE x e) (aL (nM y) (nl (nM y))) (nE y e) =
    some (.r0 (aL (x.natAbs/2^m) (nl (x.natAbs/2^m))) (nl (x.natAbs/2^m)) (aL (y.natAbs/2^m) (nl (y.natAbs/2^m))) (nl (y.natAbs/2^m)) ep)∧Lvl x y e m ep:=by
  have hxt:=hx.t
  have hyt:=hy.t
  have hxb:=hx.b
  have hyb:=hy.b
  have he:=hx.2
  have key:∀ m ep,(x≠0→m≤tz x.natAbs∧ep=e+m)→(y≠0→m≤tz y.natAbs∧ep=e+m)→(-50000≤ep∧ep≤94800) →
      (∃ e1,(lY (aL (nM x) (nl (nM x))) (nE x e) (nE y e)).run=some (.inl e1)∧(lZ (nE x e) (aL (nM y) (nl (nM y))) e1).run=some (.inl ep)) →
      iO (aL (nM x) (nl (nM x))) (nE x e) (aL (nM y) (nl (nM y))) (nE y e)=some (.r0 (aL (x.natAbs/2^m) (nl (x.natAbs/2^m))) (nl (x.natAbs/2^m)) (aL (y.natAbs/2^m) (nl (y.natAbs/2^m))) (nl (y.natAbs/2^m)) ep):=by
    intro m ep h1 h2 h3 ⟨e1,h4,h5⟩
    exact bi (ah h4 (ah h5 (ah (ai6 hx h1 h3).1 (ah (ai6 hy h2 h3).2 rfl))))
  have dz:∀ m,(0:Int).natAbs/2^m*2^m=(0:Int).natAbs:=fun m=>by rw [Int.natAbs_zero,Nat.zero_div,Nat.zero_mul]
  by_cases h1:x=0
  · have l0:nl (nM x)=0:=by rw [h1,jZ,fq]
    by_cases h2:y=0
    · have l1:nl (nM y)=0:=by rw [h2,jZ,fq]
      refine ⟨0,0,key 0 0 (fun q=>absurd h1 q) (fun q=>absurd h2 q) (by omega) ⟨nE y e,?_,?_⟩,⟨by rw [h1];exact dz 0,by rw [h2];exact dz 0,.inl ⟨h1,h2,rfl⟩,by omega⟩⟩
      · unfold lY;rw [aw,l0];exact co rfl
      · unfold lZ;rw [aw,l1];refine co ?_;rw [h1,jn];rfl
    · have ly:nl (nM y)≠0:=fun q=>LD h2 (je.1 q)
      have ey:=lE (e:=e) h2
      refine ⟨tz y.natAbs,nE y e,key _ _ (fun q=>absurd h1 q) (fun _=>⟨Nat.le_refl _,ey⟩) (by omega) ⟨nE y e,?_,?_⟩,⟨by rw [h1];exact dz _,(wu (Nat.le_refl _)).2,.inr ey,by omega⟩⟩
      · unfold lY;rw [aw,l0];exact co rfl
      · unfold lZ;rw [aw];exact cG rfl
  · have lx:nl (nM x)≠0:=fun q=>LD h1 (je.1 q)
    have ex:=lE (e:=e) h1
    by_cases h2:y=0
    · have l1:nl (nM y)=0:=by rw [h2,jZ,fq]
      refine ⟨tz x.natAbs,nE x e,key _ _ (fun _=>⟨Nat.le_refl _,ex⟩) (fun q=>absurd h2 q) (by omega) ⟨uu (nE x e) (nE y e),?_,?_⟩,⟨(wu (Nat.le_refl _)).2,by rw [h2];exact dz _,.inr ex,by omega⟩⟩
      · unfold lY;rw [aw];exact cG rfl
      · unfold lZ;rw [aw,l1];exact co rfl
    · have ly:nl (nM y)≠0:=fun q=>LD h2 (je.1 q)
      have ey:=lE (e:=e) h2
      have emin:uu (nE x e) (nE y e)=e+((min (tz x.natAbs) (tz y.natAbs):Nat):Int):=by
        rw [ex,ey]
        rcases Nat.le_total (tz x.natAbs) (tz y.natAbs) with q | q
        · rw [amO (by omega),Nat.min_eq_left q]
        · rw [amP (by omega),Nat.min_eq_right q]
      have mx:min (tz x.natAbs) (tz y.natAbs)≤tz x.natAbs:=Nat.min_le_left _ _
      have my:min (tz x.natAbs) (tz y.natAbs)≤tz y.natAbs:=Nat.min_le_right _ _
      revert emin mx my
      generalize min (tz x.natAbs) (tz y.natAbs)=m
      intro emin mx my
      refine ⟨m,e+m,key m _ (fun _=>⟨mx,rfl⟩) (fun _=>⟨my,rfl⟩) (by omega) ⟨e+m,?_,?_⟩,⟨(wu mx).2,(wu my).2,.inr rfl,by omega⟩⟩
      · unfold lY;rw [aw,emin];exact cG rfl
      · unfold lZ;rw [aw];exact cG rfl
theorem aoi{x y e:Int}(hx:Sm x e)(hy:Sm y e) :wS (aL (nM x) (nl (nM x))) (nE x e) (aL (nM y) (nl (nM y))) (nE y e)=some (.r0 false):=by
  have hxb:=hx.b
  have hyb:=hy.b
  refine bi (ah (a:=false) ?_ rfl)
  unfold Ng
  rw [aw,aw]
  by_cases h1:nl (nM x)=0
  · exact cG rfl
  · by_cases h2:nl (nM y)=0
    · exact cg (cG rfl)
    · refine cg (cg (fE (by rw [cO];omega) (kg (by rw [decide_eq_false_iff_not];omega) (fE (by rw [cO];omega) ?_))))
      show some (Sum.inl (decide _))=_
      rw [decide_eq_false (by omega)]
theorem asg{x y e f:Int} :nS (x*y)=nS (sg (nS x != nS y) (nM x*nM y))∧nM (x*y)=nM (sg (nS x != nS y) (nM x*nM y))∧nE (x*y) (e+f)=nE (sg (nS x != nS y) (nM x*nM y)) (nE x e+nE y f):=by
  have hz:x*y=sg (nS x != nS y) (nM x*nM y)*((2^(tz x.natAbs+tz y.natAbs):Nat):Int):=by
    have a:=LF x
    have b:=LF y
    rw [←aaC,Nat.pow_add,Int.natCast_mul]
    conv=>lhs;rw [←a,←b]
    simp only [Int.mul_assoc,Int.mul_comm,Int.mul_left_comm]
  obtain ⟨a,b,c⟩:=Gi hz (e+f)
  refine ⟨a,b,?_⟩
  rw [c]
  by_cases p:x=0
  · subst p;rw [jZ,Nat.zero_mul]
    have:sg (nS 0 != nS y) 0=0:=yv.2 rfl
    rw [this,jn,jn]
  · by_cases q:y=0
    · subst q;rw [jZ,Nat.mul_zero]
      have:sg (nS x != nS 0) 0=0:=yv.2 rfl
      rw [this,jn,jn]
    · rw [lE p,lE q];congr 1;omega
theorem asK{x y e f:Int}(hx:Sm x e)(hy:Sm y f) :
    fA (nS x) (aL (nM x) (nl (nM x))) (nE x e) (nS y) (aL (nM y) (nl (nM y))) (nE y f)=some (.r0 0 (nS (x*y)) (aL (nM (x*y)) (nl (nM (x*y)))) (nl (nM (x*y))) (nE (x*y) (e+f))):=by
  have x1:=Nr (s:=nS x) (fun _=>rfl) hx
  have y1:=Nr (s:=nS y) (fun _=>rfl) hy
  have xm:=hx.m
  have ym:=hy.m
  have xb:=hx.b
  have yb:=hy.b
  have hm:=acn (a:=nM x) (b:=nM y)
  have h1:=alQ (nS x != nS y) (v:=nM x*nM y) (ej _) (by omega) (by omega) (e:=nE x e+nE y f) (by omega)
  obtain ⟨a,b,c⟩:=asg (x:=x) (y:=y) (e:=e) (f:=f)
  rw [a,b,c]
  refine bi (ah (a:=(false,false)) ?_ (ah (a:=(nS x,aL (nM x) (nl (nM x)),nl (nM x),nE x e,nS y,aL (nM y) (nl (nM y)),nl (nM y),nE y f)) ?_ (ah (a:=(0,nS (sg (nS x != nS y) (nM x*nM y)),aL (nM (sg (nS x != nS y) (nM x*nM y))) (nl (nM (sg (nS x != nS y) (nM x*nM y)))),nl (nM (sg (nS x != nS y) (nM x*nM y))),nE (sg (nS x != nS y) (nM x*nM y)) (nE x e+nE y f))) ?_ rfl)))
  · unfold Nf
    rw [bj,bj,Sd hx,Sd hy]
    exact cK (aA (bz (cK (aA rfl))))
  · show (ES _ _ _ _ _ _ _).run=_
    unfold ES
    rw [bj,bj,x1,y1]
    exact bz (cK (aA (cK (aA rfl))))
  · show (ET _ _ _ _ _ _ _ _).run=_
    unfold ET
    have h1':iN (!(nS x==nS y)) (aL (nM x*nM y) (nl (nM x*nM y))) (nE x e+nE y f)=_:=h1
    rw [dr aw,dr aw,abf (ej (nM x)) (ej (nM y)) (by omega) (by omega)]
    simp only [pt,eG,eH]
    rw [dr aw,h1']
    exact jb (jb (aA (fE (by rw [cO];omega) (jb (aA rfl)))))
theorem EZ(z:Int) :gU (nS z) (aL (nM z) (nl (nM z)))=some (.r0 (mj z)):=by
  refine bi ?_
  unfold Jt
  rw [aw]
  unfold mj nS
  by_cases h0:z=0
  · subst h0;rw [jZ,fq];exact co rfl
  · have:nl (nM z)≠0:=fun q=>LD h0 (je.1 q)
    by_cases h:z<0
    · rw [if_pos h];exact cG (tL (decide_eq_true h) rfl)
    · rw [if_neg h,if_pos (by omega)];exact cG (kg (decide_eq_false h) rfl)
theorem asL{x y e:Int}(hx:Sm x e)(hy:Sm y e) :
    wT (nS x) (aL (nM x) (nl (nM x))) (nE x e) (nS y) (aL (nM y) (nl (nM y))) (nE y e)=some (.r0 (Ix x y) 0):=by
  have x1:=Nr (s:=nS x) (fun _=>rfl) hx
  have y1:=Nr (s:=nS y) (fun _=>rfl) hy
  obtain ⟨m,ep,l1,l2⟩:=ai7 hx hy
  have xl:=hx.l
  have yl:=hy.l
  have hX:nl (x.natAbs/2^m)≤300:=Nat.le_trans (DF (Nat.div_le_self _ _)) xl
  have hY:nl (y.natAbs/2^m)≤300:=Nat.le_trans (DF (Nat.div_le_self _ _)) yl
  have hc:sv (x.natAbs/2^m) (y.natAbs/2^m)=Ix (x.natAbs:Int) (y.natAbs:Int):=by
    rw [afn (iD m),←Int.natCast_mul,←Int.natCast_mul,l2.x2,l2.y2]
  have hc':sv (y.natAbs/2^m) (x.natAbs/2^m)=Ix (y.natAbs:Int) (x.natAbs:Int):=by
    rw [afn (iD m),←Int.natCast_mul,←Int.natCast_mul,l2.x2,l2.y2]
  have t10:(Ct (aL (nM x) (nl (nM x))) (nE x e) (aL (nM y) (nl (nM y))) (nE y e)).run=some (.inl false):=by
    unfold Ct
    rw [bj,bj,Sd hx,Sd hy]
    exact cK (aA (bz (cK (aA rfl))))
  have t11:(Cu (nS x) (aL (nM x) (nl (nM x))) (nE x e) (nS y) (aL (nM y) (nl (nM y))) (nE y e) false).run=some (.inl (nS x,aL (nM x) (nl (nM x)),nl (nM x),nE x e,nS y,aL (nM y) (nl (nM y)),nl (nM y),nE y e)):=by
    unfold Cu
    rw [bj,bj,x1,y1]
    exact bz (cK (aA (cK (aA rfl))))
  have t12:(Cv (aL (nM x) (nl (nM x))) (nl (nM x)) (nE x e) (aL (nM y) (nl (nM y))) (nl (nM y)) (nE y e)).run=some (.inl false):=by
    unfold Cv
    rw [dr aw,dr aw,aoi hx hy]
    exact jb (jb (aA rfl))
  have t13:(Cw (nS x) (aL (nM x) (nl (nM x))) (nl (nM x)) (nS y) (aL (nM y) (nl (nM y))) (nl (nM y)) false).run=some (.inl (mj x != mj y)):=by
    unfold Cw
    rw [dr aw,dr aw,EZ,EZ]
    exact bz (jb (aA (jb (aA rfl))))
  have t15:(Cy (aL (nM x) (nl (nM x))) (nl (nM x)) (nE x e) (aL (nM y) (nl (nM y))) (nl (nM y)) (nE y e)).run=some (.inl (aL (x.natAbs/2^m) (nl (x.natAbs/2^m)),nl (x.natAbs/2^m),aL (y.natAbs/2^m) (nl (y.natAbs/2^m)),nl (y.natAbs/2^m))):=by
    unfold Cy
    rw [dr aw,dr aw,l1]
    exact jb (jb (aA rfl))
  refine bi (ah t10 (ah t11 (ah t12 (ah t13 ?_))))
  by_cases hs:mj x=mj y
  · have hb:(mj x != mj y)=false:=by rw [hs,bne_self_eq_false]
    refine ah (a:=()) (by rw [hb];exact bz rfl) (ah t15 ?_)
    by_cases hn:x<0
    · have e1:nS x=true:=decide_eq_true hn
      have hy0:y<0:=by unfold mj at hs;rw [if_pos hn] at hs;revert hs;split<;>(try split)<;>omega
      have ev:Ix (y.natAbs:Int) (x.natAbs:Int)=Ix x y:=by
        unfold Ix;repeat' split
        all_goals omega
      refine bB ?_
      show (Cz _ _ _ _ _).run=_
      unfold Cz
      rw [dr aw,dr aw,abe (ej _) (ej _) (by omega) (by omega),hc',ev]
      exact tL e1 (jb (jb (aA rfl)))
    · have e1:nS x=false:=decide_eq_false hn
      have hy0 : ¬ y<0:=by unfold mj at hs;rw [if_neg hn] at hs;revert hs;split<;>(try split)<;>(try split)<;>omega
      have ev:Ix (x.natAbs:Int) (y.natAbs:Int)=Ix x y:=by congr 1<;>omega
      refine ah (a:=()) (kg e1 rfl) (ah (a:=Ix x y) ?_ rfl)
      show (CA _ _ _ _).run=_
      unfold CA
      rw [dr aw,dr aw,abe (ej _) (ej _) (by omega) (by omega),hc,ev]
      exact jb (jb (aA rfl))
  · have hb:(mj x != mj y)=true:=bne_iff_ne.2 hs
    refine bB ?_
    show (Cx _ _ _ _ _ _ _).run=_
    unfold Cx
    rw [dr aw,dr aw,EZ,EZ,hb]
    refine co (jb (aA (jb (aA ?_))))
    by_cases hlt:mj x<mj y
    · have ev:Ix x y = -1:=by
        unfold Ix;unfold mj at hlt;revert hlt;repeat' split
        all_goals omega
      rw [ev];exact tL (decide_eq_true hlt) rfl
    · have ev:Ix x y=1:=by
        unfold Ix;unfold mj at hlt hs;revert hlt hs;repeat' split
        all_goals omega
      rw [ev];exact kg (decide_eq_false hlt) rfl
theorem aqk{m:Nat}(h:m<W) :([(m:Int)]:List Int)=aL m 1:=by
  show [(m:Int)]=[]++[lm m 0]
  unfold lm;rw [Nat.pow_zero,Nat.div_one,Nat.mod_eq_of_lt h];rfl
theorem Qz{x:Nat}(hx:x<CN)(h:pK x=true) :lp (x:Int)=some (.r0 (px x)):=by
  have h':Iy x≠2047:=by unfold pK at h;exact bne_iff_ne.1 h
  refine bi ?_
  unfold GY px
  rw [CW hx,zh hx]
  by_cases h1:Iy x=0
  · by_cases h2:x%4503599627370496=0
    · rw [if_neg (by omega),if_neg (by omega),h1,h2]
      exact aA (bz (bz (bz rfl)))
    · rw [if_neg (by omega),if_pos h2,h1]
      exact aA (bz (bz (cg rfl)))
  · rw [if_pos h1]
    exact aA (cG (cg rfl))
theorem ai8{x:Nat}(hx:x<CN)(h:pK x=true) :lq (x:Int)=some (.r0 (x/9223372036854775808==1) ((fm x:Nat):Int) (fe x)):=by
  have hx':x<18446744073709551616:=hx
  have hl:=O1 x
  have hs:decide (((x:Nat):Int)≥(9223372036854775808:Int))=(x/9223372036854775808==1):=by
    rw [Bool.eq_iff_iff,decide_eq_true_eq,beq_iff_eq];omega
  have hf:=Nat.mod_lt x (show 4503599627370496>0 by decide)
  have hW:W=18446744073709551616:=rfl
  refine bi (ah (a:=((px x==1),false,(x/9223372036854775808==1),((x%4503599627370496:Nat):Int))) ?_ (ah (a:=if px x=1 then 0 else -1074) ?_ (ah (a:=(px x==3)) ?_ (ah (a:=(((fm x:Nat):Int),fe x)) ?_ rfl))))
  · unfold G2
    rw [Qz hx h,zh hx,hs]
    refine aA ?_
    show some (Sum.inl ((((px x:Nat):Int)==1),_,_,_))=_
    have:(((px x:Nat):Int)==1)=(px x==1):=by rw [Bool.eq_iff_iff,beq_iff_eq,beq_iff_eq];omega
    rw [this]
  · show (Ag _).run=_
    unfold Ag
    by_cases q:px x=1
    · rw [if_pos q];exact tL (beq_iff_eq.2 q) rfl
    · rw [if_neg q];exact kg (beq_eq_false_iff_ne.2 q) rfl
  · show (Ah _).run=_
    unfold Ah
    rw [Qz hx h]
    refine aA ?_
    show some (Sum.inl (((px x:Nat):Int)==3))=_
    have:(((px x:Nat):Int)==3)=(px x==3):=by rw [Bool.eq_iff_iff,beq_iff_eq,beq_iff_eq];omega
    rw [this]
  · show (Ai _ _ _ _).run=_
    unfold Ai
    rw [CW hx,abc (by omega)]
    by_cases h1:Iy x=0
    · have hfm:fm x=x%4503599627370496:=by unfold fm;rw [if_neg (by omega)]
      by_cases h2:x%4503599627370496=0
      · have hk:px x=1:=by unfold px;rw [if_neg (by omega),if_neg (by omega)]
        have hfe:fe x=0:=by unfold fe;rw [if_neg (by omega),if_neg (by omega)]
        rw [hk,hfm,hfe,if_pos rfl]
        exact bz rfl
      · have hk:px x=2:=by unfold px;rw [if_neg (by omega),if_pos h2]
        have hfe:fe x = -1074:=by unfold fe;rw [if_neg (by omega),if_pos h2]
        rw [hk,hfm,hfe,if_neg (by omega)]
        exact bz rfl
    · have hk:px x=3:=by unfold px;rw [if_pos h1]
      have hfm:fm x=x%4503599627370496+4503599627370496:=by unfold fm;rw [if_pos h1]
      have hfe:fe x = -1074+(((Iy x:Nat):Int)-1):=by unfold fe;rw [if_pos h1]
      rw [hk,hfm,hfe,if_neg (by omega)]
      have e1:IntKind.u64.wrap (((x%4503599627370496:Nat):Int)+(4503599627370496:Int))=((x%4503599627370496+4503599627370496:Nat):Int):=by
        have e':(4503599627370496:Int)=((4503599627370496:Nat):Int):=by omega
        rw [e',oi,Nat.mod_eq_of_lt (by omega)]
      rw [e1]
      refine co (aA (fE (by rw [cO];omega) ?_))
      have e2:((Iy x:Nat):Int)-1075 = -1074+(((Iy x:Nat):Int)-1):=by omega
      rw [e2];rfl
theorem alS{x:Nat}(hx:x<CN)(h:pK x=true) :
    kU (x:Int)=some (.r0 (nS (fz x)) (aL (nM (fz x)) (nl (nM (fz x)))) (nl (nM (fz x))) (nE (fz x) (-1074))):=by
  have hm:=ary x
  have hn:nl (fm x)≤1:=me (by rw [Nat.pow_one];exact hm)
  have hl:=O1 x
  have he : -1000000≤fe x∧fe x≤1000000:=by unfold fe;split<;>(try split)<;>omega
  have h1:=KF (x/9223372036854775808==1) (v:=fm x) (n:=1) (by rw [Nat.pow_one];exact hm) (by omega) (by omega) he
  obtain ⟨a,b,c⟩:=ai1 hx h
  rw [a,b,c] at h1
  refine bi (ah (a:=(false,(x/9223372036854775808==1),((fm x:Nat):Int),fe x)) ?_ (ah (a:=(nS (fz x),aL (nM (fz x)) (nl (nM (fz x))),nl (nM (fz x)),nE (fz x) (-1074))) ?_ rfl))
  · unfold Jh
    rw [ai8 hx h]
    exact aA rfl
  · show (Cg _ _ _).run=_
    unfold Cg
    rw [aqk hm,dr aw,h1]
    exact jb (aA rfl)
end Go.Plb.Seat
namespace Go.Plb
set_option linter.unusedSimpArgs false
set_option linter.unusedVariables false
set_option linter.unusedSectionVars false
variable [Rom]
theorem abi(s:Bool)(m a b:Nat) :Ieee.signed s m (a+b)=Ieee.signed s m a*((2^b:Nat):Int):=by
  unfold Ieee.signed
  rw [Nat.shiftLeft_eq,Nat.shiftLeft_eq,Nat.pow_add,←Nat.mul_assoc,Int.natCast_mul (m*2^a) (2^b)]
  cases s
  · rfl
  · rw [if_pos rfl,if_pos rfl,Int.neg_mul]
theorem abj(s:Bool)(m a:Nat) :Ieee.signed s m a=sg s (m*2^a):=by
  unfold Ieee.signed sg
  rw [Nat.shiftLeft_eq]
theorem ai9{x:Nat}(hx:x<CN) :(x/9223372036854775808%2==1)=(x/9223372036854775808==1):=by
  have hx:x<18446744073709551616:=hx
  have:x/9223372036854775808%2=x/9223372036854775808:=by omega
  rw [this]
theorem amS{x y:Nat}(hx:x<CN)(hy:y<CN)(fx:pK x=true)(fy:pK y=true) :rU x y=some (compare (fz x) (fz y)):=by
  unfold rU Ieee.Format.order
  rw [LG hx fx,LG hy fy,ai9 hx,ai9 hy]
  unfold fz
  generalize (x/9223372036854775808==1)=s
  generalize (y/9223372036854775808==1)=t
  generalize zD (x%9223372036854775808)=m
  generalize zD (y%9223372036854775808)=n
  generalize jQ (x%9223372036854775808)=i
  generalize jQ (y%9223372036854775808)=j
  simp only [Ieee.Datum.order]
  have e1:((-1074+(i:Int))-min (-1074+(i:Int)) (-1074+(j:Int))).toNat=i-min i j:=by omega
  have e2:((-1074+(j:Int))-min (-1074+(i:Int)) (-1074+(j:Int))).toNat=j-min i j:=by omega
  rw [e1,e2,←abj,←abj]
  have h1:Ieee.signed s m i=Ieee.signed s m (i-min i j)*((2^(min i j):Nat):Int):=by rw [←abi];congr 1;omega
  have h2:Ieee.signed t n j=Ieee.signed t n (j-min i j)*((2^(min i j):Nat):Int):=by rw [←abi];congr 1;omega
  rw [h1,h2]
  have hp:(0:Int)<((2^(min i j):Nat):Int):=by have:=Nat.pow_pos (n:=min i j) (show 0<2 by decide);omega
  generalize Ieee.signed s m (i-min i j)=a
  generalize Ieee.signed t n (j-min i j)=b
  generalize ((2^(min i j):Nat):Int)=p at hp
  have e:∀ a b:Int,(a*p<b*p)↔a<b:=fun a b=>⟨fun h=>Int.lt_of_mul_lt_mul_right h (Int.le_of_lt hp),fun h=>Int.mul_lt_mul_of_pos_right h hp⟩
  congr 1
  rcases Int.lt_trichotomy a b with h | h | h
  · rw [Int.compare_eq_lt.2 h,Int.compare_eq_lt.2 ((e a b).2 h)]
  · subst h;rw [Int.compare_eq_eq.2 rfl,Int.compare_eq_eq.2 rfl]
  · rw [Int.compare_eq_gt.2 h,Int.compare_eq_gt.2 ((e b a).2 h)]
theorem aql{x y:Nat}(hx:x<CN)(hy:y<CN)(fx:pK x=true)(fy:pK y=true) :fgt x y=decide (fz y<fz x):=by
  unfold fgt
  rw [amS hx hy fx fy,Bool.eq_iff_iff,decide_eq_true_eq,beq_iff_eq,Option.some.injEq]
  exact Int.compare_eq_gt
theorem ash{x y:Nat}(hx:x<CN)(hy:y<CN)(fx:pK x=true)(fy:pK y=true) :fne x y = !decide (fz x=fz y):=by
  unfold fne
  rw [amS hx hy fx fy]
  show (!(some (compare (fz x) (fz y))==some Ordering.eq))=_
  congr 1
  rw [Bool.eq_iff_iff,decide_eq_true_eq,beq_iff_eq,Option.some.injEq]
  exact Int.compare_eq_eq
end Go.Plb
namespace Go.Plb.Seat
open Go Go.Plb
set_option linter.unusedSimpArgs false
set_option linter.unusedVariables false
noncomputable def Wh(l:List Nat) :Bool:=@decide (Fn l) (Classical.propDecidable _)
theorem H6{l:List Nat} :Wh l=true↔Fn l:=@decide_eq_true_iff _ (Classical.propDecidable _)
theorem Wi{l:List Nat} :Wh l=false↔¬ Fn l:=@decide_eq_false_iff_not _ (Classical.propDecidable _)
theorem amT{x:Nat}(h:pK x=true) :isNaN x=false:=by
  rw [pL,decide_eq_false_iff_not]
  unfold pK Iy at h
  rw [bne_iff_ne] at h
  omega
theorem fld(x:Nat) :cq .and .u64 (Int.fdiv (x:Int) (2^(min (Int.toNat (52:Int)) (IntKind.u64.bits)))) (2047:Int)=((Iy x:Nat):Int):=by
  have e1:(2^min (Int.toNat 52) IntKind.u64.bits:Int)=((4503599627370496:Nat):Int):=by decide
  have e2:Int.fdiv (x:Int) ((4503599627370496:Nat):Int)=((x/4503599627370496:Nat):Int):=by
    rw [Int.fdiv_eq_ediv_of_nonneg _ (by omega)];omega
  rw [e1,e2,aiK];rfl
theorem aqm(x:Nat) :IntKind.i64.wrap ((Iy x:Nat):Int)=((Iy x:Nat):Int):=by
  have:=O1 x
  simp only [IntKind.wrap,IntKind.signed,IntKind.bits]
  simp
  omega
theorem asM(x:Nat) :(IntKind.i64.wrap (cq .and .u64 (Int.fdiv (x:Int) (2^(min (Int.toNat (52:Int)) (IntKind.u64.bits)))) (2047:Int)) != (2047:Int))=pK x:=by
  rw [fld,aqm]
  unfold pK
  cases q:(Iy x != 2047) with
  | true=>rw [bne_iff_ne] at q ⊢;omega
  | false=>rw [bne_eq_false_iff_eq] at q ⊢;omega
theorem aoj{l:List Nat}(hn:l.length≤1000000000) :oD l=some (.r0 (Wh l)):=by
  have step:∀ j,j<l.length→pK (l.getD j 0)=true→pk l j=some (.inl (j+1)):=by
    intro j hj hf
    show (nB _ _).run=_
    unfold nB
    exact cg (ak (ak (anw (fE (by rw [amT hf];rfl) (aA (kg (by rw [asM,hf];rfl) (ak rfl)))))))
  by_cases h:Fn l
  · rw [H6.2 h]
    exact bi (ah (a:=()) rfl (ah (a:=()) (cr (fun j=>j) l.length rfl (fun j hj=>step j hj (h j hj)) (cG rfl)) rfl))
  · obtain ⟨k,hk,hb,hf⟩:=uA (p:=fun i=>pK (l.getD i 0)=true) h
    have hbf:pK (l.getD k 0)=false:=by cases q:pK (l.getD k 0) with | true=>exact absurd q hb | false=>rfl
    rw [Wi.2 h]
    refine bi (ah (a:=()) rfl (bB (cr (fun j=>j) k rfl (fun j hj=>step j (by omega) (hf j hj)) ?_)))
    show (nB _ _).run=_
    unfold nB
    refine cg (ak (ak ?_))
    cases q:isNaN (l.getD k 0) with
    | true=>exact asz (asA rfl) (anw (aA rfl))
    | false=>exact anw (aA (aA (tL (by rw [asM,hbf];rfl) rfl)))
theorem aok{l:List Nat}(hw:Wd l)(hn:l.length≤1000000000) :oF l=some (.r0 (Wh l)):=by
  have step:∀ j,j<l.length→pK (l.getD j 0)=true→pn l j=some (.inl (j+1)):=by
    intro j hj hf
    show (nC _ _).run=_
    unfold nC
    exact cg (ak (ak (kg (amt (hw j) hf) (ak (ak (co (kg (aqV (hw j) hf) (ak rfl))))))))
  by_cases h:Fn l
  · rw [H6.2 h]
    exact bi (ah (a:=()) rfl (ah (a:=()) (cr (fun j=>j) l.length rfl (fun j hj=>step j hj (h j hj)) (cG rfl)) rfl))
  · obtain ⟨k,hk,hb,hf⟩:=uA (p:=fun i=>pK (l.getD i 0)=true) h
    have hbf:pK (l.getD k 0)=false:=by cases q:pK (l.getD k 0) with | true=>exact absurd q hb | false=>rfl
    rw [Wi.2 h]
    refine bi (ah (a:=()) rfl (bB (cr (fun j=>j) k rfl (fun j hj=>step j (by omega) (hf j hj)) ?_)))
    show (nC _ _).run=_
    unfold nC
    refine cg (ak (ak ?_))
    rcases aaD (hw k) hbf with q | ⟨q1,q2,q3⟩
    · exact tL (amu q) rfl
    · exact kg q3 (ak (ak (co (tL (aqW (hw k) q2) rfl))))
def afp(t:Nat) :Bool:=bif fgt t 0 then flt t 4607182418800017408 else false
theorem Ns(t:Nat) :Ac t=some (.r0 (afp t)):=by
  unfold afp
  cases q:fgt t 0 with
  | true=>exact bi (ah (tL q rfl) rfl)
  | false=>exact bi (ah (kg q rfl) rfl)
theorem Bq(t:Nat) :sX t=some (.r0 (afp t)):=by
  unfold afp
  cases q:fgt t 0 with
  | true=>exact bi (ah (tL q rfl) rfl)
  | false=>exact bi (ah (kg q rfl) rfl)
def yd(s:List Nat)(j:Nat) :Bool:=flt (s.getD j 0) 0||(decide (0<j)&&fgt (s.getD j 0) (s.getD (j-1) 0))
def Hr(s:List Nat) :Prop:=∀ j,j<s.length→yd s j=false
noncomputable def RX(s:List Nat) :Nat:=@ite _ (Hr s) (Classical.propDecidable _) (bif Wh s then 0 else 10) 2
theorem E3{s:List Nat}(h:Hr s) :RX s=bif Wh s then 0 else 10:=@if_pos _ (Classical.propDecidable _) h _ _ _
theorem Wj{s:List Nat}(h : ¬ Hr s) :RX s=2:=@if_neg _ (Classical.propDecidable _) h _ _ _
theorem ara{j:Nat} :Int.toNat ((j:Int)-1)=j-1:=by omega
theorem aja{s:List Nat}(hn:s.length≤1000000) :Ad s=some (.r0 (RX s)):=by
  have ok:∀ j,j<s.length→yd s j=false→sY s j=some (.inl (j+1)):=by
    intro j hj hb
    unfold yd at hb
    rw [Bool.or_eq_false_iff] at hb
    refine ah (a:=()) ?_ (ak rfl)
    unfold yH
    refine cg (ak (ak (kg hb.1 ?_)))
    by_cases h0:0<j
    · refine cg (ak (ak (ak (kg ?_ rfl))))
      have h2:=hb.2
      rw [decide_eq_true h0,Bool.true_and] at h2
      rw [ara];exact h2
    · exact cG rfl
  have no:∀ j,j<s.length→yd s j=true→sY s j=some (.inr (.inr (.r0 2))):=by
    intro j hj hb
    unfold yd at hb
    refine bB ?_
    unfold yH
    refine cg (ak (ak ?_))
    cases h1:flt (s.getD j 0) 0 with
    | true=>exact co rfl
    | false =>
      rw [h1,Bool.false_or,Bool.and_eq_true,decide_eq_true_eq] at hb
      refine bz (cg (ak (ak (ak (tL ?_ rfl)))))
      rw [ara];exact hb.2
  by_cases h:Hr s
  · rw [E3 h]
    have hg:(EI s).run=some (.inl (!Wh s)):=by
      unfold EI
      rw [bj,aoj (by omega)]
      exact cK (aA rfl)
    refine bi (ah (a:=()) rfl (ah (a:=()) (cr (fun j=>j) s.length rfl (fun j hj=>ok j hj (h j hj)) (bB (by unfold yH;exact cG rfl))) (ah hg ?_)))
    cases Wh s with
    | true=>exact bz rfl
    | false=>exact co rfl
  · rw [Wj h]
    obtain ⟨k,hk,hb,hf⟩:=uA (p:=fun i=>yd s i=false) h
    have hb:yd s k=true:=by cases q:yd s k with | true=>rfl | false=>exact absurd q hb
    exact bi (ah (a:=()) rfl (bB (cr (fun j=>j) k rfl (fun j hj=>ok j (by omega) (hf j hj)) (no k hk hb))))
theorem aol{s:List Nat}(hw:Wd s)(hn:s.length≤1000000) :wO s=some (.r0 (RX s)):=by
  have ok:∀ j,j<s.length→yd s j=false→qC s j=some (.inl (j+1)):=by
    intro j hj hb
    unfold yd at hb
    rw [Bool.or_eq_false_iff] at hb
    refine ah (a:=()) ?_ (ak rfl)
    unfold vY
    refine cg (ak (ak (kg hb.1 ?_)))
    by_cases h0:0<j
    · refine cg (ak (ak (ak (ak (ak (kg ?_ rfl))))))
      have h2:=hb.2
      rw [decide_eq_true h0,Bool.true_and] at h2
      rw [ara];exact h2
    · exact cG rfl
  have no:∀ j,j<s.length→yd s j=true→qC s j=some (.inr (.inr (.r0 2))):=by
    intro j hj hb
    unfold yd at hb
    refine bB ?_
    unfold vY
    refine cg (ak (ak ?_))
    cases h1:flt (s.getD j 0) 0 with
    | true=>exact co rfl
    | false =>
      rw [h1,Bool.false_or,Bool.and_eq_true,decide_eq_true_eq] at hb
      refine bz (cg (ak (ak (ak (ak (ak (tL ?_ rfl)))))))
      rw [ara];exact hb.2
  by_cases h:Hr s
  · rw [E3 h]
    have hg:(B2 s).run=some (.inl (!Wh s)):=by
      unfold B2
      rw [bj,aok hw (by omega)]
      exact cK (aA rfl)
    refine bi (ah (a:=()) rfl (ah (a:=()) (cr (fun j=>j) s.length rfl (fun j hj=>ok j hj (h j hj)) (bB (by unfold vY;exact cG rfl))) (ah hg ?_)))
    cases Wh s with
    | true=>exact bz rfl
    | false=>exact co rfl
  · rw [Wj h]
    obtain ⟨k,hk,hb,hf⟩:=uA (p:=fun i=>yd s i=false) h
    have hb:yd s k=true:=by cases q:yd s k with | true=>rfl | false=>exact absurd q hb
    exact bi (ah (a:=()) rfl (bB (cr (fun j=>j) k rfl (fun j hj=>ok j (by omega) (hf j hj)) (no k hk hb))))
def Wl(z:Int) :Int:=z*((2^1074:Nat):Int)
theorem arB(z:Int) :nS (Wl z)=nS z∧nM (Wl z)=nM z∧nE (Wl z) (-2148)=nE z (-1074):=by
  obtain ⟨a,b,c⟩:=Gi (z:=Wl z) (z':=z) (m:=1074) rfl (-2148)
  exact ⟨a,b,by rw [c];congr 1⟩
theorem arC{z:Int}(h:nl z.natAbs≤33) :Sm (Wl z) (-2148):=by
  refine ⟨?_,by decide,by decide⟩
  unfold Wl
  rw [Int.natAbs_mul,Int.natAbs_natCast]
  refine Nat.le_trans acn ?_
  have:nl (2^1074)≤18:=me (by decide +kernel)
  omega
theorem aqn{x y:Int}(hx:nl x.natAbs≤33)(hy:nl y.natAbs≤33) :Sm (x*y) (-2148):=by
  refine ⟨?_,by decide,by decide⟩
  rw [Int.natAbs_mul]
  have:=acn (a:=x.natAbs) (b:=y.natAbs)
  omega
def vk(s:List Nat)(t i:Nat) :Bool:=decide (Wl (fz (s.getD i 0))≤fz t*fz (s.getD 0 0))
theorem aqo{x y:Int} :decide (Ix x y≤0)=decide (x≤y):=by
  rw [Bool.eq_iff_iff,decide_eq_true_eq,decide_eq_true_eq];unfold Ix;split<;>(try split)<;>omega
theorem arb{s:List Nat}{t i:Nat}(hw:Wd s)(hf:Fn s)(ht:t<CN)(ft:pK t=true)(hi:i<s.length) :
    nD (i:Int) s (nS (fz t*fz (s.getD 0 0))) (aL (nM (fz t*fz (s.getD 0 0))) (nl (nM (fz t*fz (s.getD 0 0))))) (nE (fz t*fz (s.getD 0 0)) (-2148))=some (.r0 (vk s t i)):=by
  obtain ⟨N,h1,h2,h3⟩:=Wb (hw i) (hf i hi)
  obtain ⟨a,b,c⟩:=arB (fz (s.getD i 0))
  have hc:=an5 (arC (TF (hw i) (hf i hi))) (aqn (TF ht ft) (TF (hw 0) (hf 0 (by omega))))
  refine bi (ah (a:=(nS (fz (s.getD i 0)),aL (nM (fz (s.getD i 0))) N,0,nl (nM (fz (s.getD i 0))),nE (fz (s.getD i 0)) (-1074))) ?_ (ah (a:=Ix (Wl (fz (s.getD i 0))) (fz t*fz (s.getD 0 0))) ?_ ?_))
  · unfold CT
    rw [cM,h1]
    exact ak (ak (aA rfl))
  · show (uX _ _ _ _ _ _ _ _).run=_
    unfold uX
    rw [a,b,c] at hc
    rw [dN h2,bj,hc]
    exact fE (cH h2) (cK (aA rfl))
  · unfold CU vk
    rw [aqo];rfl
theorem ajb{s:List Nat}{t:Nat}(hw:Wd s)(hf:Fn s)(hF:Hr s) :∀ {i j:Nat},i≤j→j<s.length→vk s t i=true→vk s t j=true:=by
  intro i j hij hj h
  induction j with
  | zero => have : i = 0 := by omega
            subst this;exact h
  | succ j ih =>
    rcases Nat.eq_or_lt_of_le hij with rfl | q
    · exact h
    have hp:=ih (by omega) (by omega)
    have hb:=hF (j+1) hj
    unfold yd at hb
    rw [Bool.or_eq_false_iff] at hb
    have h2:=hb.2
    rw [decide_eq_true (by omega),Bool.true_and,Nat.add_sub_cancel,aql (hw _) (hw _) (hf _ hj) (hf _ (by omega)),decide_eq_false_iff_not] at h2
    unfold vk at hp ⊢
    rw [decide_eq_true_eq] at hp ⊢
    refine Int.le_trans ?_ hp
    unfold Wl
    exact Int.mul_le_mul_of_nonneg_right (by omega) (by omega)
theorem arc{a b:Nat}(h:a+b<2000000) :IntKind.i64.wrap (Int.fdiv (IntKind.u64.wrap ((a:Int)+(b:Int))) (2^(min (Int.toNat (1:Int)) (IntKind.u64.bits))))=(((a+b)/2:Nat):Int):=by
  have e1:(2^min (Int.toNat 1) IntKind.u64.bits:Int)=((2:Nat):Int):=by decide
  have e0:IntKind.u64.wrap ((a:Int)+(b:Int))=((a+b:Nat):Int):=by
    simp only [IntKind.wrap,IntKind.signed,IntKind.bits]
    simp
    omega
  have e2:Int.fdiv ((a+b:Nat):Int) ((2:Nat):Int)=(((a+b)/2:Nat):Int):=by
    rw [Int.fdiv_eq_ediv_of_nonneg _ (by omega)];omega
  rw [e0,e1,e2]
  simp only [IntKind.wrap,IntKind.signed,IntKind.bits]
  simp
  omega
theorem ajc{s:List Nat}{t:Nat}(hw:Wd s)(hf:Fn s)(hF:Hr s)(ht:t<CN)(ft:pK t=true)(hn:s.length≤600) :
    ∃ k:Nat,dm ((s.length:Nat):Int) s (nS (fz t*fz (s.getD 0 0))) (aL (nM (fz t*fz (s.getD 0 0))) (nl (nM (fz t*fz (s.getD 0 0))))) (nE (fz t*fz (s.getD 0 0)) (-2148))=some (.r0 (k:Int)) ∧
      k≤s.length∧(∀ i,i<k→vk s t i=false)∧∀ i,k≤i→i<s.length→vk s t i=true:=by
  let G:Int×Int→Prop:=fun p=>∃ a b:Nat,p=((a:Int),(b:Int))∧a≤b∧b≤s.length∧(∀ i,i<a→vk s t i=false)∧∀ i,b≤i→i<s.length→vk s t i=true
  let Q:(Int)⊕(bg)→Prop:=fun y=>∃ k:Nat,y=.inl (k:Int)∧k≤s.length∧(∀ i,i<k→vk s t i=false)∧∀ i,k≤i→i<s.length→vk s t i=true
  have hl:=anu (B:=ee s (nS (fz t*fz (s.getD 0 0))) (aL (nM (fz t*fz (s.getD 0 0))) (nl (nM (fz t*fz (s.getD 0 0))))) (nE (fz t*fz (s.getD 0 0)) (-2148))) G (fun p=>(p.2-p.1).toNat) Q ?_ ((0:Int),((s.length:Nat):Int)) ⟨0,s.length,rfl,by omega,by omega,fun i h=>by omega,fun i h1 h2=>by omega⟩
  · obtain ⟨y,h1,k,rfl,h2,h3,h4⟩:=hl
    exact ⟨k,bi (ah (a:=()) rfl (ah h1 rfl)),h2,h3,h4⟩
  · rintro p ⟨a, b, rfl, hab, hb, h1, h2⟩
    by_cases hlt:a<b
    · left
      have hc:=arb (i:=(a+b)/2) hw hf ht ft (by omega)
      have hh:=arc (a:=a) (b:=b) (by omega)
      have hN1:(a+b)/2<b:=by omega
      have hN2:a≤(a+b)/2:=by omega
      cases hq:vk s t ((a+b)/2) with
      | false =>
        refine ⟨((((a+b)/2+1:Nat):Int),(b:Int)),?_,⟨(a+b)/2+1,b,rfl,by omega,hb,fun i hi=>?_,h2⟩,by simp only;omega⟩
        · show (bL _ _ _ _ _ _).run=_
          unfold bL
          rw [hh,bj,bj,hc,hq]
          refine cg (ak (aA (cK (cK (aA (co (ak ?_)))))))
          show some (Sum.inl _)=_
          congr 2
        · cases q : vk s t i with
          | false=>rfl
          | true => have := ajb (t := t) hw hf hF (i := i) (j := (a + b) / 2) (by omega) (by omega) q
                    rw [hq] at this;cases this
      | true =>
        refine ⟨((a:Int),(((a+b)/2:Nat):Int)),?_,⟨a,(a+b)/2,rfl,by omega,by omega,h1,fun i h3 h4=>ajb (t:=t) hw hf hF h3 h4 hq⟩,by simp only;omega⟩
        show (bL _ _ _ _ _ _).run=_
        unfold bL
        rw [hh,bj,bj,hc,hq]
        exact cg (ak (aA (cK (cK (aA (bz rfl))))))
    · right
      have:a=b:=by omega
      subst this
      refine ⟨.inl (a:Int),?_,a,rfl,hb,h1,h2⟩
      show (bL _ _ _ _ _ _).run=_
      unfold bL
      exact cG rfl
theorem amU{t:Nat}(ht:t<CN)(h:afp t=true) :pK t=true∧0<fz t:=by
  have hz:fz 0=0:=by decide +kernel
  have f0:pK 0=true:=by decide +kernel
  unfold afp at h
  cases q:fgt t 0 with
  | false=>rw [q] at h;cases h
  | true =>
    rw [q,cond_true] at h
    cases hf:pK t with
    | true =>
      refine ⟨rfl,?_⟩
      rw [aql ht (by decide) hf f0,decide_eq_true_eq,hz] at q
      exact q
    | false =>
      exfalso
      rcases aaD ht hf with q1 | ⟨q1,q2,q3⟩
      · have:=amu (x:=t) (y:=0) q1
        unfold fgt at q
        unfold fne at this
        cases hd:rU t 0 with
        | none=>rw [hd] at q;cases q
        | some o =>
          have h0:rU t 0=none:=by
            unfold rU
            obtain ⟨s',f',e⟩:=zj q1
            simp [Ieee.Format.order,e,Ieee.Datum.order]
          rw [h0] at hd;cases hd
      · have ht':t=9218868437227405312∨t=18442240474082181120:=by unfold CN at ht;omega
        rcases ht' with rfl | rfl
        · revert h;decide +kernel
        · revert q;decide +kernel
def CX(s:List Nat)(t:Nat) :Nat→Nat
  | 0=>0
  | j+1=>CX s t j+(bif vk s t j then 0 else 1)
theorem aqp{s:List Nat}{t k:Nat}(h1:∀ i,i<k→vk s t i=false)(h2:∀ i,k≤i→i<s.length→vk s t i=true) :∀ j,j≤s.length→CX s t j=min j k
  | 0,_=>by simp [CX]
  | j+1,hj=>by
    have ih:=aqp h1 h2 j (by omega)
    simp only [CX,ih]
    by_cases q:j<k
    · rw [h1 j q,cond_false];omega
    · rw [h2 j (by omega) (by omega),cond_true];omega
theorem ajd{s:List Nat}{t:Nat}(hw:Wd s)(hf:Fn s)(hF:Hr s)(ht:t<CN)(hm:afp t=true)(hn:s.length≤600) :∃ k:Nat,iK s t=some (.r0 (k:Int) 0)∧k≤s.length∧(∀ i,i<k→vk s t i=false)∧∀ i,k≤i→i<s.length→vk s t i=true:=by
  have ft:=(amU ht hm).1
  have hask:RX s=0:=by rw [E3 hF,H6.2 hf];rfl
  have h8:(oG s).run=some (.inl 0):=by
    unfold oG
    rw [bj,aja (by omega),hask]
    exact cK (aA rfl)
  by_cases h0:s.length=0
  · refine ⟨0,bi (ah h8 (bB ?_)),by omega,fun i h=>by omega,fun i h1 h2=>by omega⟩
    unfold lP
    rw [Ns,hm]
    exact bz (aA (bz (bz (cg rfl))))
  · obtain ⟨k,hk,k1,k2,k3⟩:=ajc hw hf hF ht ft hn
    refine ⟨k,?_,k1,k2,k3⟩
    obtain ⟨N,a1,a2,a3⟩:=Wb ht ft
    obtain ⟨M,b1,b2,b3⟩:=Wb (hw 0) (hf 0 (by omega))
    obtain ⟨L,c1,c2,c3⟩:=an4 (amv ht ft) (amv (hw 0) (hf 0 (by omega)))
    refine bi (ah h8 (ah (a:=()) ?_ (ah (a:=(nS (fz t),aL (nM (fz t)) N,0,nl (nM (fz t)),nE (fz t) (-1074))) ?_ (ah (a:=(nS (fz (s.getD 0 0)),aL (nM (fz (s.getD 0 0))) M,0,nl (nM (fz (s.getD 0 0))),nE (fz (s.getD 0 0)) (-1074))) ?_
      (ah (a:=(nS (fz t*fz (s.getD 0 0)),aL (nM (fz t*fz (s.getD 0 0))) L,0,nl (nM (fz t*fz (s.getD 0 0))),nE (fz t*fz (s.getD 0 0)) (-2148))) ?_ (ah (a:=(k:Int)) ?_ rfl))))))
    · unfold lP
      rw [Ns,hm]
      exact bz (aA (bz (bz (cG rfl))))
    · unfold Fo
      rw [a1]
      exact aA rfl
    · unfold Fp
      rw [b1]
      exact ak (ak (aA rfl))
    · show (xJ _ _ _ _ _ _ _ _ _ _).run=_
      unfold xJ
      rw [dN a2,dN b2,c1]
      exact fE (cH a2) (fE (cH b2) (aA rfl))
    · show (xK _ _ _ _ _ _).run=_
      unfold xK
      rw [bj,dN c2,hk]
      exact cK (fE (cH c2) (aA rfl))
theorem Hs{x:Nat}(hx:x<CN)(h:pK x=true) :
    ag x=some (.r0 (nS (fz x)) (aL (nM (fz x)) (nl (nM (fz x)))) (nl (nM (fz x))) (nE (fz x) (-1074))):=by
  refine bi (ah (a:=(nS (fz x),aL (nM (fz x)) (nl (nM (fz x))),nl (nM (fz x)),nE (fz x) (-1074))) ?_ rfl)
  unfold G9
  rw [alS hx h]
  exact anw (fE (by rw [amT h];rfl) (aA rfl))
theorem abk{v n:Nat} :aa 0 n (aL v n)=aL v n:=dr aw
theorem r14{s:List Nat}{t n i:Nat}(hw:Wd s)(hf:Fn s)(ht:t<CN)(ft:pK t=true)(hi:i<s.length)(hn:n≤600) :
    (jL s t n i true).run=some (.inl (bif vk s t i then n else n+1)):=by
  have h0:=Hs (hw 0) (hf 0 (by omega))
  have hI:=Hs (hw i) (hf i hi)
  obtain ⟨a,b,c⟩:=arB (fz (s.getD i 0))
  have hc:=asL (arC (TF (hw i) (hf i hi))) (aqn (TF ht ft) (TF (hw 0) (hf 0 (by omega))))
  rw [a,b,c] at hc
  have hM:=asK (amv ht ft) (amv (hw 0) (hf 0 (by omega)))
  rw [show (-1074 + -1074:Int) = -2148 from rfl] at hM
  unfold jL
  rw [Hs ht ft,h0,hI]
  simp only [jU,aZ,aS,aT,ba]
  simp only [abk]
  rw [hM]
  simp only [tu,oK,lV,lW,oL]
  simp only [abk]
  rw [hc]
  simp only [tH,tI]
  have ev:Ix (Wl (fz (s.getD i 0))) (fz t*fz (s.getD 0 0))>0↔vk s t i=false:=by
    unfold vk
    rw [←aqo,decide_eq_false_iff_not]
    omega
  refine co (aA (ak (ak (aA (jb (jb (aA (ak (ak (aA (jb (jb (aA ?_)))))))))))))
  cases q:vk s t i with
  | true=>exact kg (decide_eq_false (fun h=>by rw [ev.1 h] at q;cases q)) rfl
  | false=>exact tL (decide_eq_true (ev.2 q)) (ak rfl)
theorem afq{s:List Nat}{t k:Nat}(hw:Wd s)(hf:Fn s)(hF:Hr s)(ht:t<CN)(hm:afp t=true)(hn:s.length≤600)(hk:k≤s.length)(h1:∀ i,i<k→vk s t i=false)(h2:∀ i,k≤i→i<s.length→vk s t i=true) :
    oN s t=some (.r0 k):=by
  have ft:=(amU ht hm).1
  have hz:fz 0=0:=by decide +kernel
  have f0:pK 0=true:=by decide +kernel
  by_cases h0:s.length=0
  · have:k=0:=by omega
    subst this
    refine bi (ah (a:=()) rfl (ah (a:=0) (cr (fun j=>(0,j)) 0 rfl (fun j hj=>by omega) ?_) rfl))
    exact ah (a:=false) (by unfold mc;exact cG rfl) (bB (by unfold jL;exact bz rfl))
  · have hne:=ash (hw 0) (by decide) (hf 0 (by omega)) f0
    rw [hz] at hne
    by_cases q:fz (s.getD 0 0)=0
    · have:k=0:=by
        refine Classical.byContradiction fun hk0=>?_
        have:=h1 0 (by omega)
        unfold vk at this
        rw [q,decide_eq_false_iff_not] at this
        apply this
        unfold Wl
        rw [Int.zero_mul,Int.mul_zero]
        exact Int.le_refl 0
      subst this
      rw [q] at hne
      refine bi (ah (a:=()) rfl (ah (a:=0) (cr (fun j=>(0,j)) 0 rfl (fun j hj=>by omega) ?_) rfl))
      exact ah (a:=false) (by unfold mc;rw [hne];exact cg (ak (ak rfl))) (bB (by unfold jL;exact bz rfl))
    · have hne:fne (s.getD 0 0) 0=true:=by rw [hne,decide_eq_false q];rfl
      have hc:=aqp h1 h2
      have step:∀ j,j<s.length→pu s t (CX s t j,j)=some (.inl (CX s t (j+1),j+1)):=by
        intro j hj
        have hcj:=hc j (by omega)
        refine ah (a:=true) (by unfold mc;rw [hne];exact cg (ak (ak rfl))) (ah (r14 hw hf ht ft hj (by omega)) ?_)
        have e:(bif vk s t j then CX s t j else CX s t j+1)=CX s t (j+1):=by
          simp only [CX];cases vk s t j<;>rfl
        rw [e]
        exact ak rfl
      have hlast:=hc s.length (Nat.le_refl _)
      have e:CX s t s.length=k:=by rw [hlast];omega
      refine bi (ah (a:=()) rfl (ah (a:=CX s t s.length) (cr (fun j=>(CX s t j,j)) s.length rfl step ?_) (by rw [e];rfl)))
      exact ah (a:=false) (by unfold mc;exact cG rfl) (bB (by unfold jL;exact bz rfl))
theorem KG(s:List Nat) :(RX s=0∧Hr s∧Fn s)∨RX s=2∨RX s=10:=by
  by_cases h:Hr s
  · rw [E3 h]
    cases q:Wh s with
    | true=>exact .inl ⟨rfl,h,H6.1 q⟩
    | false=>exact .inr (.inr rfl)
  · rw [Wj h];exact .inr (.inl rfl)
theorem ard{s:List Nat}{t:Nat}(hw:Wd s)(ht:t<CN) :mP s t=some (.r0 true):=by
  by_cases hn:s.length≤600
  · have ha:=aol hw (s:=s) (by omega)
    have h8:(pI s).run=some (.inl (RX s)):=by
      unfold pI
      rw [bj,ha];exact cK (aA rfl)
    have p8:(oG s).run=some (.inl (RX s)):=by
      unfold oG
      rw [bj,aja (by omega)]
      exact cK (aA rfl)
    have fin7:∀ {k:Int} {e:Nat},iK s t=some (.r0 k e)→(lA s t).run=some (.inl (k,e)):=fun h=>by
      unfold lA
      rw [bj,h];exact cG (cK (aA rfl))
    have bad:∀ (e:Nat) (b:Bool),e≠0→iK s t=some (.r0 0 e)→(dW t (RX s)).run=some (.inl b)→(gk (RX s) b).run=some (.inl e)→mP s t=some (.r0 true):=fun e b he h1 h2 h3=>by
      refine bi (ah (fin7 h1) (ah h8 (ah h2 (ah h3 (bB ?_)))))
      unfold oO
      exact cg (co (tL (by simp) rfl))
    cases hm:afp t with
    | false =>
      have hp:iK s t=some (.r0 0 2):=by
        refine bi (ah p8 (bB ?_))
        unfold lP
        rw [Ns,hm]
        rcases KG s with ⟨q,_⟩ | q | q<;>rw [q]
        · exact bz (aA (co rfl))
        · exact co rfl
        · exact bz (aA (co rfl))
      rcases KG s with ⟨q,_⟩ | q | q
      · exact bad 2 true (by decide) hp (by unfold dW;rw [Bq,hm,q];exact co (aA rfl)) (by exact co rfl)
      · exact bad 2 false (by decide) hp (by unfold dW;rw [q];exact bz rfl) (by unfold gk;rw [q];exact bz rfl)
      · exact bad 2 true (by decide) hp (by unfold dW;rw [Bq,hm,q];exact co (aA rfl)) (by exact co rfl)
    | true =>
      rcases KG s with ⟨q,hF,hf⟩ | q | q
      · obtain ⟨k,hk,k1,k2,k3⟩:=ajd hw hf hF ht hm hn
        have hr:=afq hw hf hF ht hm hn k1 k2 k3
        refine bi (ah (fin7 hk) (ah h8 (ah (a:=false) (by unfold dW;rw [Bq,hm,q];exact co (aA rfl)) (ah (a:=0) (by unfold gk;rw [q];exact bz rfl) (ah (a:=true) ?_ rfl)))))
        unfold oO
        rw [bj,hr]
        exact bz (cK (aA (tL (by simp [nY]) (co rfl))))
      · exact bad 2 false (by decide) (bi (ah p8 (bB (by unfold lP;rw [q];exact co rfl)))) (by unfold dW;rw [q];exact bz rfl) (by unfold gk;rw [q];exact bz rfl)
      · exact bad 10 false (by decide) (bi (ah p8 (bB (by unfold lP;rw [Ns,hm,q];exact bz (aA (bz (co rfl))))))) (by unfold dW;rw [Bq,hm,q];exact co (aA rfl)) (by unfold gk;rw [q];exact bz rfl)
  · refine bi (bB ?_)
    unfold lA
    exact cg rfl
end Go.Plb.Seat
namespace Go.Plb.Seat
open Go Go.Plb
theorem afs(v:Lv)(s:List Nat)(t:Nat)(hw:Wd s)(ht:t<CN) :ai prog rr [] [.imm v (.fl s) 1 1 0 s.length,.flt true t] ⟨.bool false true,[]⟩ :=
  yc v s t (ard hw ht)
end Go.Plb.Seat
