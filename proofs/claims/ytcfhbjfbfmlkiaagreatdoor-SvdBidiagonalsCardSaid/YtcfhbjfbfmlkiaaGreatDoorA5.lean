/-
  Part 5 of what the claim leans on: an evaluator of the model, proved sound; the contracts of the functions.
-/
import Derived.Test.YtcfhbjfbfmlkiaaGreatDoorA4
namespace Go.Plb.Seat
open Go Go.Plb
set_option linter.unusedVariables false
set_option maxRecDepth 100000
noncomputable section
inductive cq where
  | r0 (i21:Int) (i22:Int) (a23:Nat) (l24:List Nat)
def nD:cq→AE×aM
  | .r0 i21 i22 a23 l24=>(.ret,⟨aq 101 [(8,.ptr 0 1 0 0)],[(0,.vs [.int .i64 i21,.int .i64 i22,.sl 1 1 1 0 a23 a23]),(1,.fl l24)],2⟩)
theorem dY:ld nD:=by intro x;cases x<;>(intro h;cases h)
theorem uU(id:Nat) :ko id nD:=by intro x;cases x<;>(intro h;cases h)
def DH:cq→ib
  | .r0 i21 i22 a23 l24=>⟨.agg [.int .i64 i21,.int .i64 i22,.sl 0 1 1 0 a23 a23],[some (.fl l24)]⟩
noncomputable def TJ:List Code:=cg (kB CS)
def X0(a_0:Int)(a_1:Int)(v_2:Lv)(a_3:List Nat)(at_4:Int)(from_5:Int)(v_6:Lv)(h_7:List Nat)(h_8:Nat)(l1:(List Nat)) :aM:=⟨aq 101 [(1,.int .i64 at_4),(4,.ptr 0 1 0 0),(7,.ptr 1 1 0 0),(8,.ptr 2 1 0 0),(9,.ptr 3 1 0 0),(10,.int .i64 from_5)],[(0,.vs [.int .i64 a_0,.int .i64 a_1,.imm v_2 (.fl a_3) 1 1 0 (List.length a_3)]),(1,.vs [.imm v_6 (.fl h_7) 1 1 0 (List.length h_7),.flt false h_8]),(2,.vs [.int .i64 (0:Int),.int .i64 (0:Int),.nsl]),(3,.vs [.int .i64 a_0,.int .i64 a_1,.sl 4 1 1 0 (List.length a_3) (List.length a_3)]),(4,.fl l1)],5⟩
def zl(a_0:Int)(a_1:Int)(a_3:List Nat)(h_8:Nat) :T (((List Nat))⊕(cq)) :=
  .need (dK ((List.length a_3)*8) 140737488355328)<|.need (dK (List.length a_3) 9223372036854775807)<|.need (dK (List.length a_3) (List.length a_3))<|.ask (yp h_8 0)
    (.leaf (.inr (.r0 a_0 a_1 (List.length a_3) (List.take (List.length a_3) a_3))))
    (.leaf (.inl (List.take (List.length a_3) a_3)))
def ri(a_0:Int)(a_1:Int)(v_2:Lv)(a_3:List Nat)(at_4:Int)(v_6:Lv)(h_7:List Nat)(h_8:Nat) :Int×(List Nat)→aM:=fun (i10,l11)=>⟨aq 101 [(1,.int .i64 at_4),(4,.ptr 0 1 0 0),(7,.ptr 1 1 0 0),(8,.ptr 2 1 0 0),(9,.ptr 3 1 0 0),(10,.int .i64 i10)],[(0,.vs [.int .i64 a_0,.int .i64 a_1,.imm v_2 (.fl a_3) 1 1 0 (List.length a_3)]),(1,.vs [.imm v_6 (.fl h_7) 1 1 0 (List.length h_7),.flt false h_8]),(2,.vs [.int .i64 (0:Int),.int .i64 (0:Int),.nsl]),(3,.vs [.int .i64 a_0,.int .i64 a_1,.sl 4 1 1 0 (List.length a_3) (List.length a_3)]),(4,.fl l11)],5⟩
def rj(a_0:Int)(a_1:Int)(a_3:List Nat)(l20:(List Nat)) :aM:=⟨aq 101 [(8,.ptr 0 1 0 0),(9,.ptr 1 1 0 0)],[(0,.vs [.int .i64 (0:Int),.int .i64 (0:Int),.nsl]),(1,.vs [.int .i64 a_0,.int .i64 a_1,.sl 2 1 1 0 (List.length a_3) (List.length a_3)]),(2,.fl l20)],3⟩
noncomputable def GZ:List Code:=cg (cw ((((TJ.drop 5).take 1)).headD .skip))
def TK(a_0:Int)(a_1:Int)(v_2:Lv)(a_3:List Nat)(at_4:Int)(v_6:Lv)(h_7:List Nat)(h_8:Nat)(i10:Int)(l11:List Nat)(_:Unit) :aM:=⟨aq 101 [(1,.int .i64 at_4),(4,.ptr 0 1 0 0),(7,.ptr 1 1 0 0),(8,.ptr 2 1 0 0),(9,.ptr 3 1 0 0),(10,.int .i64 i10)],[(0,.vs [.int .i64 a_0,.int .i64 a_1,.imm v_2 (.fl a_3) 1 1 0 (List.length a_3)]),(1,.vs [.imm v_6 (.fl h_7) 1 1 0 (List.length h_7),.flt false h_8]),(2,.vs [.int .i64 (0:Int),.int .i64 (0:Int),.nsl]),(3,.vs [.int .i64 a_0,.int .i64 a_1,.sl 4 1 1 0 (List.length a_3) (List.length a_3)]),(4,.fl l11)],5⟩
def zm(a_0:Int)(i10:Int)(l11:List Nat) :T ((Unit)⊕(((List Nat))⊕(cq))) :=
  .ask (decide (i10<a_0))
    (.leaf (.inl ()))
    (.leaf (.inr (.inl l11)))
def rl(a_0:Int)(a_1:Int)(v_2:Lv)(a_3:List Nat)(at_4:Int)(v_6:Lv)(h_7:List Nat)(h_8:Nat)(i10:Int)(l19:(List Nat)) :aM:=⟨aq 101 [(1,.int .i64 at_4),(4,.ptr 0 1 0 0),(7,.ptr 1 1 0 0),(8,.ptr 2 1 0 0),(9,.ptr 3 1 0 0),(10,.int .i64 i10)],[(0,.vs [.int .i64 a_0,.int .i64 a_1,.imm v_2 (.fl a_3) 1 1 0 (List.length a_3)]),(1,.vs [.imm v_6 (.fl h_7) 1 1 0 (List.length h_7),.flt false h_8]),(2,.vs [.int .i64 (0:Int),.int .i64 (0:Int),.nsl]),(3,.vs [.int .i64 a_0,.int .i64 a_1,.sl 4 1 1 0 (List.length a_3) (List.length a_3)]),(4,.fl l19)],5⟩
noncomputable def G0:List Code:=cg (inBlock ((((GZ.drop 2).take 1)).headD .skip))
def TL(a_0:Int)(a_1:Int)(v_2:Lv)(a_3:List Nat)(at_4:Int)(v_6:Lv)(h_7:List Nat)(h_8:Nat)(i10:Int)(l11:List Nat)(_:Unit) :aM:=⟨aq 101 [(1,.int .i64 at_4),(4,.ptr 0 1 0 0),(7,.ptr 1 1 0 0),(8,.ptr 2 1 0 0),(9,.ptr 3 1 0 0),(10,.int .i64 i10),(11,.flt false 0),(12,.int .i64 (0:Int))],[(0,.vs [.int .i64 a_0,.int .i64 a_1,.imm v_2 (.fl a_3) 1 1 0 (List.length a_3)]),(1,.vs [.imm v_6 (.fl h_7) 1 1 0 (List.length h_7),.flt false h_8]),(2,.vs [.int .i64 (0:Int),.int .i64 (0:Int),.nsl]),(3,.vs [.int .i64 a_0,.int .i64 a_1,.sl 4 1 1 0 (List.length a_3) (List.length a_3)]),(4,.fl l11)],5⟩
def TM:T ((Unit)⊕(((List Nat))⊕(((List Nat))⊕(cq)))) :=
  .leaf (.inl ())
def rm(a_0:Int)(a_1:Int)(v_2:Lv)(a_3:List Nat)(at_4:Int)(v_6:Lv)(h_7:List Nat)(h_8:Nat)(i10:Int)(l11:List Nat) :Nat×Nat→aM:=fun (w12,k13)=>⟨aq 101 [(1,.int .i64 at_4),(4,.ptr 0 1 0 0),(7,.ptr 1 1 0 0),(8,.ptr 2 1 0 0),(9,.ptr 3 1 0 0),(10,.int .i64 i10),(11,.flt false w12),(12,.int .i64 ((k13:Nat):Int))],[(0,.vs [.int .i64 a_0,.int .i64 a_1,.imm v_2 (.fl a_3) 1 1 0 (List.length a_3)]),(1,.vs [.imm v_6 (.fl h_7) 1 1 0 (List.length h_7),.flt false h_8]),(2,.vs [.int .i64 (0:Int),.int .i64 (0:Int),.nsl]),(3,.vs [.int .i64 a_0,.int .i64 a_1,.sl 4 1 1 0 (List.length a_3) (List.length a_3)]),(4,.fl l11)],5⟩
def G1(a_0:Int)(a_1:Int)(v_2:Lv)(a_3:List Nat)(at_4:Int)(v_6:Lv)(h_7:List Nat)(h_8:Nat)(i10:Int)(l11:List Nat)(w14:Nat) :aM:=⟨aq 101 [(1,.int .i64 at_4),(4,.ptr 0 1 0 0),(7,.ptr 1 1 0 0),(8,.ptr 2 1 0 0),(9,.ptr 3 1 0 0),(10,.int .i64 i10),(11,.flt false w14)],[(0,.vs [.int .i64 a_0,.int .i64 a_1,.imm v_2 (.fl a_3) 1 1 0 (List.length a_3)]),(1,.vs [.imm v_6 (.fl h_7) 1 1 0 (List.length h_7),.flt false h_8]),(2,.vs [.int .i64 (0:Int),.int .i64 (0:Int),.nsl]),(3,.vs [.int .i64 a_0,.int .i64 a_1,.sl 4 1 1 0 (List.length a_3) (List.length a_3)]),(4,.fl l11)],5⟩
noncomputable def TN:List Code:=cg (cw ((((G0.drop 2).take 1)).headD .skip))
def zn(a_1:Int)(a_3:List Nat)(at_4:Int)(h_7:List Nat)(i10:Int)(w12:Nat)(k13:Nat) :T ((Nat×Nat)⊕((Nat)⊕(((List Nat))⊕(((List Nat))⊕(cq))))) :=
  .ask (decide (((k13:Nat):Int)<(((List.length h_7):Nat):Int)))
    (.need (cK .i64 (i10*a_1))<|.need (cK .i64 ((i10*a_1)+at_4))<|.need (cK .i64 (((i10*a_1)+at_4)+((k13:Nat):Int)))<|.need (fi (((i10*a_1)+at_4)+((k13:Nat):Int)) (List.length a_3))<|.need (eS (Int.toNat (((i10*a_1)+at_4)+((k13:Nat):Int))) (List.length a_3))<|.need (fi ((k13:Nat):Int) (List.length h_7))<|.need (eS k13 (List.length h_7))<|.need (cK .i64 (((k13+1):Nat):Int))<|.leaf (.inl ((Aq w12 (eY (List.getD a_3 (Int.toNat (((i10*a_1)+at_4)+((k13:Nat):Int))) 0) (List.getD h_7 k13 0))),(k13+1))))
    (.leaf (.inr (.inl w12)))
noncomputable def rp(a_1:Int)(a_3:List Nat)(at_4:Int)(h_7:List Nat)(i10:Int) :Nat×Nat→Option ((Nat×Nat)⊕((Nat)⊕(((List Nat))⊕(((List Nat))⊕(cq))))):=fun (w12,k13) =>
  (zn a_1 a_3 at_4 h_7 i10 w12 k13).run
theorem TO(a_0:Int)(a_1:Int)(v_2:Lv)(a_3:List Nat)(at_4:Int)(v_6:Lv)(h_7:List Nat)(h_8:Nat)(i10:Int)(l11:List Nat)(w12:Nat)(k13:Nat) :Sg prog [] TN (rm a_0 a_1 v_2 a_3 at_4 v_6 h_7 h_8 i10 l11 (w12,k13)) (rp a_1 a_3 at_4 h_7 i10 (w12,k13)) (rm a_0 a_1 v_2 a_3 at_4 v_6 h_7 h_8 i10 l11) (bS 2 (G1 a_0 a_1 v_2 a_3 at_4 v_6 h_7 h_8 i10 l11) (bS 1 (rl a_0 a_1 v_2 a_3 at_4 v_6 h_7 h_8 i10) (bS 0 (rj a_0 a_1 a_3) nD))):=by
  unfold rp;exact aV eX (rm a_0 a_1 v_2 a_3 at_4 v_6 h_7 h_8 i10 l11) [⟨[],[0,1,2,3,4],[1,4,7,8,9,10,11,12]⟩,⟨[],[0,1,2,3,4],[1,4,7,8,9,10,11]⟩]
def TP(a_0:Int)(a_1:Int)(v_2:Lv)(a_3:List Nat)(at_4:Int)(v_6:Lv)(h_7:List Nat)(h_8:Nat)(i10:Int)(l11:List Nat)(w15:Nat) :aM:=⟨aq 101 [(1,.int .i64 at_4),(4,.ptr 0 1 0 0),(7,.ptr 1 1 0 0),(8,.ptr 2 1 0 0),(9,.ptr 3 1 0 0),(10,.int .i64 i10),(11,.flt false w15),(14,.int .i64 (0:Int))],[(0,.vs [.int .i64 a_0,.int .i64 a_1,.imm v_2 (.fl a_3) 1 1 0 (List.length a_3)]),(1,.vs [.imm v_6 (.fl h_7) 1 1 0 (List.length h_7),.flt false h_8]),(2,.vs [.int .i64 (0:Int),.int .i64 (0:Int),.nsl]),(3,.vs [.int .i64 a_0,.int .i64 a_1,.sl 4 1 1 0 (List.length a_3) (List.length a_3)]),(4,.fl l11)],5⟩
def TQ(h_8:Nat)(w14:Nat) :T ((Nat)⊕(((List Nat))⊕(((List Nat))⊕(cq)))) :=
  .leaf (.inl (eY h_8 w14))
def rq(a_0:Int)(a_1:Int)(v_2:Lv)(a_3:List Nat)(at_4:Int)(v_6:Lv)(h_7:List Nat)(h_8:Nat)(i10:Int)(w15:Nat) :Nat×(List Nat)→aM:=fun (k16,l17)=>⟨aq 101 [(1,.int .i64 at_4),(4,.ptr 0 1 0 0),(7,.ptr 1 1 0 0),(8,.ptr 2 1 0 0),(9,.ptr 3 1 0 0),(10,.int .i64 i10),(11,.flt false w15),(14,.int .i64 ((k16:Nat):Int))],[(0,.vs [.int .i64 a_0,.int .i64 a_1,.imm v_2 (.fl a_3) 1 1 0 (List.length a_3)]),(1,.vs [.imm v_6 (.fl h_7) 1 1 0 (List.length h_7),.flt false h_8]),(2,.vs [.int .i64 (0:Int),.int .i64 (0:Int),.nsl]),(3,.vs [.int .i64 a_0,.int .i64 a_1,.sl 4 1 1 0 (List.length a_3) (List.length a_3)]),(4,.fl l17)],5⟩
def G2(a_0:Int)(a_1:Int)(v_2:Lv)(a_3:List Nat)(at_4:Int)(v_6:Lv)(h_7:List Nat)(h_8:Nat)(i10:Int)(l18:(List Nat)) :aM:=⟨aq 101 [(1,.int .i64 at_4),(4,.ptr 0 1 0 0),(7,.ptr 1 1 0 0),(8,.ptr 2 1 0 0),(9,.ptr 3 1 0 0),(10,.int .i64 i10)],[(0,.vs [.int .i64 a_0,.int .i64 a_1,.imm v_2 (.fl a_3) 1 1 0 (List.length a_3)]),(1,.vs [.imm v_6 (.fl h_7) 1 1 0 (List.length h_7),.flt false h_8]),(2,.vs [.int .i64 (0:Int),.int .i64 (0:Int),.nsl]),(3,.vs [.int .i64 a_0,.int .i64 a_1,.sl 4 1 1 0 (List.length a_3) (List.length a_3)]),(4,.fl l18)],5⟩
noncomputable def TR:List Code:=cg (cw ((((((G0.drop 2).drop 1).drop 2).take 1)).headD .skip))
def zo(a_1:Int)(a_3:List Nat)(at_4:Int)(h_7:List Nat)(i10:Int)(w15:Nat)(k16:Nat)(l17:List Nat) :T ((Nat×(List Nat))⊕(((List Nat))⊕(((List Nat))⊕(((List Nat))⊕(cq))))) :=
  .ask (decide (((k16:Nat):Int)<(((List.length h_7):Nat):Int)))
    (.need (fi ((k16:Nat):Int) (List.length h_7))<|.need (eS k16 (List.length h_7))<|.need (cK .i64 (i10*a_1))<|.need (cK .i64 ((i10*a_1)+at_4))<|.need (cK .i64 (((i10*a_1)+at_4)+((k16:Nat):Int)))<|.need (cK .i64 (i10*a_1))<|.need (cK .i64 ((i10*a_1)+at_4))<|.need (cK .i64 (((i10*a_1)+at_4)+((k16:Nat):Int)))<|.need (fi (((i10*a_1)+at_4)+((k16:Nat):Int)) (List.length a_3))<|.need (eS (Int.toNat (((i10*a_1)+at_4)+((k16:Nat):Int))) (List.length a_3))<|.need (fi (((i10*a_1)+at_4)+((k16:Nat):Int)) (List.length a_3))<|.need (eS (Int.toNat (((i10*a_1)+at_4)+((k16:Nat):Int))) (List.length l17))<|.need (cK .i64 (((k16+1):Nat):Int))<|.leaf (.inl ((k16+1),(List.set l17 (Int.toNat (((i10*a_1)+at_4)+((k16:Nat):Int))) (sO (List.getD a_3 (Int.toNat (((i10*a_1)+at_4)+((k16:Nat):Int))) 0) (eY w15 (List.getD h_7 k16 0)))))))
    (.leaf (.inr (.inl l17)))
noncomputable def rr(a_1:Int)(a_3:List Nat)(at_4:Int)(h_7:List Nat)(i10:Int)(w15:Nat) :Nat×(List Nat)→Option ((Nat×(List Nat))⊕(((List Nat))⊕(((List Nat))⊕(((List Nat))⊕(cq))))):=fun (k16,l17) =>
  (zo a_1 a_3 at_4 h_7 i10 w15 k16 l17).run
theorem TS(a_0:Int)(a_1:Int)(v_2:Lv)(a_3:List Nat)(at_4:Int)(v_6:Lv)(h_7:List Nat)(h_8:Nat)(i10:Int)(w15:Nat)(k16:Nat)(l17:List Nat) :Sg prog [] TR (rq a_0 a_1 v_2 a_3 at_4 v_6 h_7 h_8 i10 w15 (k16,l17)) (rr a_1 a_3 at_4 h_7 i10 w15 (k16,l17)) (rq a_0 a_1 v_2 a_3 at_4 v_6 h_7 h_8 i10 w15) (bS 4 (G2 a_0 a_1 v_2 a_3 at_4 v_6 h_7 h_8 i10) (bS 1 (rl a_0 a_1 v_2 a_3 at_4 v_6 h_7 h_8 i10) (bS 0 (rj a_0 a_1 a_3) nD))):=by
  unfold rr;exact aV eX (rq a_0 a_1 v_2 a_3 at_4 v_6 h_7 h_8 i10 w15) [⟨[],[0,1,2,3,4],[1,4,7,8,9,10,11,14]⟩,⟨[],[0,1,2,3,4],[1,4,7,8,9,10]⟩]
def TT(l18:List Nat) :T (((List Nat))⊕(((List Nat))⊕(((List Nat))⊕(cq)))) :=
  .leaf (.inl l18)
def TU(i10:Int)(l19:List Nat) :T ((Int×(List Nat))⊕(((List Nat))⊕(cq))) :=
  .need (cK .i64 (i10+(1:Int)))<|.leaf (.inl ((i10+(1:Int)),l19))
noncomputable def zp(a_0:Int)(a_1:Int)(a_3:List Nat)(at_4:Int)(h_7:List Nat)(h_8:Nat) :Int×(List Nat)→Option ((Int×(List Nat))⊕(((List Nat))⊕(cq))):=fun (i10,l11) =>
  aL ((zm a_0 i10 l11).run) fun _ =>
  aL (vj (aL ((TM).run) fun _ =>
  aL (ch (rp a_1 a_3 at_4 h_7 i10) (0,0)) fun w14 =>
  aL ((TQ h_8 w14).run) fun w15 =>
  aL (ch (rr a_1 a_3 at_4 h_7 i10 w15) (0,l11)) fun l18 =>
  (TT l18).run)) fun l19 =>
  (TU i10 l19).run
theorem TV(a_0:Int)(a_1:Int)(v_2:Lv)(a_3:List Nat)(at_4:Int)(v_6:Lv)(h_7:List Nat)(h_8:Nat)(i10:Int)(l11:List Nat) :Sg prog [] GZ (ri a_0 a_1 v_2 a_3 at_4 v_6 h_7 h_8 (i10,l11)) (zp a_0 a_1 a_3 at_4 h_7 h_8 (i10,l11)) (ri a_0 a_1 v_2 a_3 at_4 v_6 h_7 h_8) (bS 0 (rj a_0 a_1 a_3) nD):=by
  unfold zp;exact Sg.cut 2 (aD dY) (aV eX (TK a_0 a_1 v_2 a_3 at_4 v_6 h_7 h_8 i10 l11) [⟨[],[0,1,2,3,4],[1,4,7,8,9,10]⟩,⟨[],[2,3,4],[8,9]⟩]) (fun _=>Sg.cut 1 (aD dY) (sgb (rl a_0 a_1 v_2 a_3 at_4 v_6 h_7 h_8 i10) 1 (aD dY) (ck (by decide) (uU _)) (Sg.cut 2 (aD (aD dY)) (aV eX (TL a_0 a_1 v_2 a_3 at_4 v_6 h_7 h_8 i10 l11) [⟨[],[0,1,2,3,4],[1,4,7,8,9,10,11,12]⟩]) (fun _=>Sg.cut 1 (aD (aD dY)) (vg ⟨[],[0,1,2,3,4],[1,4,7,8,9,10,11,12]⟩ (rm a_0 a_1 v_2 a_3 at_4 v_6 h_7 h_8 i10 l11) (G1 a_0 a_1 v_2 a_3 at_4 v_6 h_7 h_8 i10 l11) 2 (aD (aD dY)) (ck (by decide) (ck (by decide) (uU _))) (fun ⟨w12,k13⟩=>TO a_0 a_1 v_2 a_3 at_4 v_6 h_7 h_8 i10 l11 w12 k13)) (fun w14=>Sg.cut 2 (aD (aD dY)) (aV eX (TP a_0 a_1 v_2 a_3 at_4 v_6 h_7 h_8 i10 l11) [⟨[],[0,1,2,3,4],[1,4,7,8,9,10,11,14]⟩]) (fun w15=>Sg.cut 1 (aD (aD dY)) (vg ⟨[],[0,1,2,3,4],[1,4,7,8,9,10,11,14]⟩ (rq a_0 a_1 v_2 a_3 at_4 v_6 h_7 h_8 i10 w15) (G2 a_0 a_1 v_2 a_3 at_4 v_6 h_7 h_8 i10) 4 (aD (aD dY)) (ck (by decide) (ck (by decide) (uU _))) (fun ⟨k16,l17⟩=>TS a_0 a_1 v_2 a_3 at_4 v_6 h_7 h_8 i10 w15 k16 l17)) (fun l18=>aV eX (rl a_0 a_1 v_2 a_3 at_4 v_6 h_7 h_8 i10) [⟨[],[0,1,2,3,4],[1,4,7,8,9,10]⟩])))))) (fun l19=>aV eX (ri a_0 a_1 v_2 a_3 at_4 v_6 h_7 h_8) [⟨[],[0,1,2,3,4],[1,4,7,8,9,10]⟩]))
def TW(a_0:Int)(a_1:Int)(a_3:List Nat)(l20:List Nat) :T ((Empty)⊕(cq)) :=
  .leaf (.inr (.r0 a_0 a_1 (List.length a_3) l20))
noncomputable def jW(a_0:Int)(a_1:Int)(a_3:List Nat)(at_4:Int)(from_5:Int)(h_7:List Nat)(h_8:Nat) :Option cq:=lG (aL ((zl a_0 a_1 a_3 h_8).run) fun l1 =>
  aL (ch (zp a_0 a_1 a_3 at_4 h_7 h_8) (from_5,l1)) fun l20 =>
  (TW a_0 a_1 a_3 l20).run)
theorem X1(a_0:Int)(a_1:Int)(v_2:Lv)(a_3:List Nat)(at_4:Int)(from_5:Int)(v_6:Lv)(h_7:List Nat)(h_8:Nat){x:cq}(h:jW a_0 a_1 a_3 at_4 from_5 h_7 h_8=some x) :aB prog CS [] [.agg [.int .i64 a_0,.int .i64 a_1,.imm v_2 (.fl a_3) 1 1 0 (List.length a_3)],.int .i64 at_4,.int .i64 from_5,.agg [.imm v_6 (.fl h_7) 1 1 0 (List.length h_7),.flt false h_8]] (DH x) :=
  mo false DH nD h (Sg.cut 5 dY (aV eX (X0 a_0 a_1 v_2 a_3 at_4 from_5 v_6 h_7 h_8) [⟨[],[32,64],[8]⟩,⟨[],[0,16,32,80,64],[1,4,7,8,9,10]⟩]) (fun l1=>Sg.cut 1 dY (vg ⟨[],[0,1,2,3,4],[1,4,7,8,9,10]⟩ (ri a_0 a_1 v_2 a_3 at_4 v_6 h_7 h_8) (rj a_0 a_1 a_3) 0 dY (uU _) (fun ⟨i10,l11⟩=>TV a_0 a_1 v_2 a_3 at_4 v_6 h_7 h_8 i10 l11)) (fun l20=>aV eX lx [⟨[],[0,2],[8]⟩])))
    (fun x=>by cases x with | r0 i21 i22 a23 l24=>exact ly [.agg [.int .i64 i21,.int .i64 i22,.sl 1 1 1 0 a23 a23]])
def uV:Option cq→Bool
  | some _=>true
  | none=>false
def wA:Option cq→Int
  | some (.r0 x _ _ _)=>x
  | _=>0
def wB:Option cq→Int
  | some (.r0 _ x _ _)=>x
  | _=>0
def wC:Option cq→Nat
  | some (.r0 _ _ x _)=>x
  | _=>0
def wD:Option cq→List Nat
  | some (.r0 _ _ _ x)=>x
  | _=>[]
theorem X2{x:Option cq}(h:uV x=true) :x=some (.r0 (wA x) (wB x) (wC x) (wD x)):=by
  unfold uV at h
  split at h<;>first | rfl | (cases h;done) | (rename_i y;cases y;rfl)
noncomputable def K1:aK:=cy CS (.cons (.agg (.cons (.int .i64) (.cons (.int .i64) (.cons .fl .nil)))) (.cons (.int .i64) (.cons (.int .i64) (.cons (.agg (.cons .fl (.cons (.flt false) .nil))) .nil)))) fun t=>(fun q=>[⟨DH (.r0 (wA q) (wB q) (wC q) (wD q)),[uV q]⟩]) (jW t.1.1 t.1.2.1 t.1.2.2.1.2 t.2.1 t.2.2.1 t.2.2.2.1.1.2 t.2.2.2.1.2.1)
theorem QG:aY prog K1:=ba fun t=>(aZ (fun h=>X1 t.1.1 t.1.2.1 t.1.2.2.1.1 t.1.2.2.1.2 t.2.1 t.2.2.1 t.2.2.2.1.1.1 t.2.2.2.1.1.2 t.2.2.2.1.2.1 (X2 h)) bj)
noncomputable def K2:List aK:=K1::Oz
theorem ct:aW prog (aT K2):=aF QG eX
inductive aR where
  | r0 (a219:Nat) (a220:Nat) (a221:Nat) (a222:Nat) (a223:Nat) (a224:Nat) (a225:Nat) (a226:Nat) (a227:Nat) (l228:List (List Nat)) (l229:List Nat) (a230:Nat) (l231:List (List Nat)) (l232:List Nat) (l233:List Nat) (l234:List Nat)
def lU:aR→AE×aM
  | .r0 a219 a220 a221 a222 a223 a224 a225 a226 a227 l228 l229 a230 l231 l232 l233 l234=>(.ret,⟨aq 120 [(2,.ptr 0 1 0 0),(3,.sl 1 2 2 0 a219 a220),(4,.sl 2 2 2 0 a221 a222)],[(0,.vs [.sl 3 1 1 0 a223 a224,.sl 4 1 1 0 a225 a226]),(1,.cols a227 [.cfl l228,.cf l229]),(2,.cols a230 [.cfl l231,.cf l232]),(3,.fl l233),(4,.fl l234)],5⟩)
theorem cj:ld lU:=by intro x;cases x<;>(intro h;cases h)
theorem rt(id:Nat) :ko id lU:=by intro x;cases x<;>(intro h;cases h)
def Bt:aR→ib
  | .r0 a219 a220 a221 a222 a223 a224 a225 a226 a227 l228 l229 a230 l231 l232 l233 l234=>⟨.tup [.agg [.sl 0 1 1 0 a223 a224,.sl 1 1 1 0 a225 a226],.sl 2 2 2 0 a219 a220,.sl 3 2 2 0 a221 a222],[some (.fl l233),some (.fl l234),some (.cols a227 [.cfl l228,.cf l229]),some (.cols a230 [.cfl l231,.cf l232])]⟩
noncomputable def QH:List Code:=cg (kB AD)
def TX(a_0:Int)(a_1:Int)(a_3:List Nat)(l1:(List Nat)) :aM:=⟨aq 120 [(1,.ptr 0 1 0 0),(2,.ptr 1 1 0 0),(5,.ptr 2 1 0 0),(6,.nsl),(7,.nsl),(8,.int .i64 (0:Int))],[(0,.vs [.int .i64 a_0,.int .i64 a_1,.sl 3 1 1 0 (List.length a_3) (List.length a_3)]),(1,.vs [.nsl,.nsl]),(2,.vs [.nsl,.nsl]),(3,.fl l1)],4⟩
def Ei(a_3:List Nat) :T (((List Nat))⊕(aR)) :=
  .need (dK ((List.length a_3)*8) 140737488355328)<|.need (dK (List.length a_3) 9223372036854775807)<|.need (dK (List.length a_3) (List.length a_3))<|.leaf (.inl (List.take (List.length a_3) a_3))
def pN:Nat×Nat×Nat×Nat×Nat×Int×Int×Nat×Nat×Nat×Nat×Nat×Nat×Nat×(List (List Nat))×(List Nat)×Nat×(List (List Nat))×(List Nat)×(List Nat)×(List Nat)×(List Nat)→aM:=fun (left114,left115,right116,right117,k118,i119,i120,a121,a122,a123,a124,a125,a126,a127,l128,l129,a130,l131,l132,l133,l134,l135)=>⟨aq 120 [(1,.ptr 0 1 0 0),(2,.ptr 1 1 0 0),(5,.ptr 2 1 0 0),(6,.sl 3 2 2 0 left114 left115),(7,.sl 4 2 2 0 right116 right117),(8,.int .i64 ((k118:Nat):Int))],[(0,.vs [.int .i64 i119,.int .i64 i120,.sl 5 1 1 0 a121 a122]),(1,.vs [.nsl,.nsl]),(2,.vs [.sl 6 1 1 0 a123 a124,.sl 7 1 1 0 a125 a126]),(3,.cols a127 [.cfl l128,.cf l129]),(4,.cols a130 [.cfl l131,.cf l132]),(5,.fl l133),(6,.fl l134),(7,.fl l135)],8⟩
def pO:Nat×Nat×Nat×Nat×Nat×Nat×Nat×Nat×Nat×(List (List Nat))×(List Nat)×Nat×(List (List Nat))×(List Nat)×(List Nat)×(List Nat)→aM:=fun (left203,left204,right205,right206,a207,a208,a209,a210,a211,l212,l213,a214,l215,l216,l217,l218)=>⟨aq 120 [(2,.ptr 0 1 0 0),(5,.ptr 1 1 0 0),(6,.sl 2 2 2 0 left203 left204),(7,.sl 3 2 2 0 right205 right206)],[(0,.vs [.nsl,.nsl]),(1,.vs [.sl 4 1 1 0 a207 a208,.sl 5 1 1 0 a209 a210]),(2,.cols a211 [.cfl l212,.cf l213]),(3,.cols a214 [.cfl l215,.cf l216]),(4,.fl l217),(5,.fl l218)],6⟩
noncomputable def Ej:List Code:=cg (cw ((((QH.drop 5).take 1)).headD .skip))
def QI(left114:Nat)(left115:Nat)(right116:Nat)(right117:Nat)(k118:Nat)(i119:Int)(i120:Int)(a121:Nat)(a122:Nat)(a123:Nat)(a124:Nat)(a125:Nat)(a126:Nat)(a127:Nat)(l128:List (List Nat))(l129:List Nat)(a130:Nat)(l131:List (List Nat))(l132:List Nat)(l133:List Nat)(l134:List Nat)(l135:List Nat)(_:Unit) :aM:=⟨aq 120 [(1,.ptr 0 1 0 0),(2,.ptr 1 1 0 0),(5,.ptr 2 1 0 0),(6,.sl 3 2 2 0 left114 left115),(7,.sl 4 2 2 0 right116 right117),(8,.int .i64 ((k118:Nat):Int))],[(0,.vs [.int .i64 i119,.int .i64 i120,.sl 5 1 1 0 a121 a122]),(1,.vs [.nsl,.nsl]),(2,.vs [.sl 6 1 1 0 a123 a124,.sl 7 1 1 0 a125 a126]),(3,.cols a127 [.cfl l128,.cf l129]),(4,.cols a130 [.cfl l131,.cf l132]),(5,.fl l133),(6,.fl l134),(7,.fl l135)],8⟩
def QJ(left114:Nat)(left115:Nat)(right116:Nat)(right117:Nat)(k118:Nat)(i120:Int)(a123:Nat)(a124:Nat)(a125:Nat)(a126:Nat)(a127:Nat)(l128:List (List Nat))(l129:List Nat)(a130:Nat)(l131:List (List Nat))(l132:List Nat)(l134:List Nat)(l135:List Nat) :T ((Unit)⊕((Nat×Nat×Nat×Nat×Nat×Nat×Nat×Nat×Nat×(List (List Nat))×(List Nat)×Nat×(List (List Nat))×(List Nat)×(List Nat)×(List Nat))⊕(aR))) :=
  .ask (decide (((k118:Nat):Int)<i120))
    (.leaf (.inl ()))
    (.leaf (.inr (.inl (left114,left115,right116,right117,a123,a124,a125,a126,a127,l128,l129,a130,l131,l132,l134,l135))))
def pP(k118:Nat) :Nat×Nat×Nat×Int×Int×Nat×Nat×Nat×Nat×(List (List Nat))×(List Nat)×Nat×(List (List Nat))×(List Nat)×(List Nat)×(List Nat)×(List Nat)→aM:=fun (left186,right187,right188,i189,i190,a191,a192,a193,a194,l195,l196,a197,l198,l199,l200,l201,l202)=>⟨aq 120 [(1,.ptr 0 1 0 0),(2,.ptr 1 1 0 0),(5,.ptr 2 1 0 0),(6,.sl 3 2 2 0 left186 left186),(7,.sl 4 2 2 0 right187 right188),(8,.int .i64 ((k118:Nat):Int))],[(0,.vs [.int .i64 i189,.int .i64 i190,.sl 5 1 1 0 a191 a191]),(1,.vs [.nsl,.nsl]),(2,.vs [.sl 6 1 1 0 a192 a192,.sl 7 1 1 0 a193 a194]),(3,.cols left186 [.cfl l195,.cf l196]),(4,.cols a197 [.cfl l198,.cf l199]),(5,.fl l200),(6,.fl l201),(7,.fl l202)],8⟩
noncomputable def lW:List Code:=cg (inBlock ((((Ej.drop 2).take 1)).headD .skip))
def QK(left114:Nat)(left115:Nat)(right116:Nat)(right117:Nat)(k118:Nat)(i119:Int)(i120:Int)(a121:Nat)(a122:Nat)(a123:Nat)(a124:Nat)(a125:Nat)(a126:Nat)(a127:Nat)(l128:List (List Nat))(l129:List Nat)(a130:Nat)(l131:List (List Nat))(l132:List Nat)(l133:List Nat)(l134:List Nat)(l135:List Nat)(_:Unit) :aM:=⟨aq 120 [(1,.ptr 0 1 0 0),(2,.ptr 1 1 0 0),(5,.ptr 2 1 0 0),(6,.sl 3 2 2 0 left114 left115),(7,.sl 4 2 2 0 right116 right117),(8,.int .i64 ((k118:Nat):Int)),(9,.nsl),(10,.int .i64 ((k118:Nat):Int))],[(0,.vs [.int .i64 i119,.int .i64 i120,.sl 5 1 1 0 a121 a122]),(1,.vs [.nsl,.nsl]),(2,.vs [.sl 6 1 1 0 a123 a124,.sl 7 1 1 0 a125 a126]),(3,.cols a127 [.cfl l128,.cf l129]),(4,.cols a130 [.cfl l131,.cf l132]),(5,.fl l133),(6,.fl l134),(7,.fl l135)],8⟩
def QL:T ((Unit)⊕((Nat×Nat×Nat×Int×Int×Nat×Nat×Nat×Nat×(List (List Nat))×(List Nat)×Nat×(List (List Nat))×(List Nat)×(List Nat)×(List Nat)×(List Nat))⊕((Nat×Nat×Nat×Nat×Nat×Nat×Nat×Nat×Nat×(List (List Nat))×(List Nat)×Nat×(List (List Nat))×(List Nat)×(List Nat)×(List Nat))⊕(aR)))) :=
  .leaf (.inl ())
def pQ(left114:Nat)(left115:Nat)(right116:Nat)(right117:Nat)(k118:Nat)(i119:Int)(i120:Int)(a121:Nat)(a122:Nat)(a123:Nat)(a124:Nat)(a125:Nat)(a126:Nat)(a127:Nat)(l128:List (List Nat))(l129:List Nat)(a130:Nat)(l131:List (List Nat))(l132:List Nat)(l133:List Nat)(l134:List Nat)(l135:List Nat) :Nat×Nat×Nat×(List Nat)→aM:=fun (x137,x138,i139,l140)=>⟨aq 120 [(1,.ptr 0 1 0 0),(2,.ptr 1 1 0 0),(5,.ptr 2 1 0 0),(6,.sl 3 2 2 0 left114 left115),(7,.sl 4 2 2 0 right116 right117),(8,.int .i64 ((k118:Nat):Int)),(9,.sl 5 1 1 0 x137 x138),(10,.int .i64 ((i139:Nat):Int))],[(0,.vs [.int .i64 i119,.int .i64 i120,.sl 6 1 1 0 a121 a122]),(1,.vs [.nsl,.nsl]),(2,.vs [.sl 7 1 1 0 a123 a124,.sl 8 1 1 0 a125 a126]),(3,.cols a127 [.cfl l128,.cf l129]),(4,.cols a130 [.cfl l131,.cf l132]),(5,.fl l140),(6,.fl l133),(7,.fl l134),(8,.fl l135)],9⟩
def Ek(left114:Nat)(left115:Nat)(right116:Nat)(right117:Nat)(k118:Nat)(i119:Int)(i120:Int)(a121:Nat)(a122:Nat)(a123:Nat)(a124:Nat)(a125:Nat)(a126:Nat)(a127:Nat)(l128:List (List Nat))(l129:List Nat)(a130:Nat)(l131:List (List Nat))(l132:List Nat)(l133:List Nat)(l134:List Nat)(l135:List Nat) :Nat×Nat×(List Nat)→aM:=fun (x141,x142,l143)=>⟨aq 120 [(1,.ptr 0 1 0 0),(2,.ptr 1 1 0 0),(5,.ptr 2 1 0 0),(6,.sl 3 2 2 0 left114 left115),(7,.sl 4 2 2 0 right116 right117),(8,.int .i64 ((k118:Nat):Int)),(9,.sl 5 1 1 0 x141 x142)],[(0,.vs [.int .i64 i119,.int .i64 i120,.sl 6 1 1 0 a121 a122]),(1,.vs [.nsl,.nsl]),(2,.vs [.sl 7 1 1 0 a123 a124,.sl 8 1 1 0 a125 a126]),(3,.cols a127 [.cfl l128,.cf l129]),(4,.cols a130 [.cfl l131,.cf l132]),(5,.fl l143),(6,.fl l133),(7,.fl l134),(8,.fl l135)],9⟩
noncomputable def QM:List Code:=cg (cw ((((lW.drop 2).take 1)).headD .skip))
def wE(k118:Nat)(i119:Int)(i120:Int)(a121:Nat)(l133:List Nat)(x137:Nat)(x138:Nat)(i139:Nat)(l140:List Nat) :T ((Nat×Nat×Nat×(List Nat))⊕((Nat×Nat×(List Nat))⊕((Nat×Nat×Nat×Int×Int×Nat×Nat×Nat×Nat×(List (List Nat))×(List Nat)×Nat×(List (List Nat))×(List Nat)×(List Nat)×(List Nat)×(List Nat))⊕((Nat×Nat×Nat×Nat×Nat×Nat×Nat×Nat×Nat×(List (List Nat))×(List Nat)×Nat×(List (List Nat))×(List Nat)×(List Nat)×(List Nat))⊕(aR))))) :=
  .ask (decide (((i139:Nat):Int)<i119))
    (.need (cK .i64 (((i139:Nat):Int)*i120))<|.need (cK .i64 ((((i139:Nat):Int)*i120)+((k118:Nat):Int)))<|.need (fi ((((i139:Nat):Int)*i120)+((k118:Nat):Int)) a121)<|.need (eS (Int.toNat ((((i139:Nat):Int)*i120)+((k118:Nat):Int))) (List.length l133))<|.need (dK ((x137+1)*8) 140737488355328)<|.need (dK (x137+1) 9223372036854775807)<|.need (dK 1 (List.length [(List.getD l133 (Int.toNat ((((i139:Nat):Int)*i120)+((k118:Nat):Int))) 0)]))<|.need (dK x137 (List.length l140))<|.need (cK .i64 (((i139+1):Nat):Int))<|.leaf (.inl ((x137+1),(x137+1),(i139+1),((List.take x137 l140)++(List.take 1 [(List.getD l133 (Int.toNat ((((i139:Nat):Int)*i120)+((k118:Nat):Int))) 0)])))))
    (.leaf (.inr (.inl (x137,x138,l140))))
noncomputable def pR(k118:Nat)(i119:Int)(i120:Int)(a121:Nat)(l133:List Nat) :Nat×Nat×Nat×(List Nat)→Option ((Nat×Nat×Nat×(List Nat))⊕((Nat×Nat×(List Nat))⊕((Nat×Nat×Nat×Int×Int×Nat×Nat×Nat×Nat×(List (List Nat))×(List Nat)×Nat×(List (List Nat))×(List Nat)×(List Nat)×(List Nat)×(List Nat))⊕((Nat×Nat×Nat×Nat×Nat×Nat×Nat×Nat×Nat×(List (List Nat))×(List Nat)×Nat×(List (List Nat))×(List Nat)×(List Nat)×(List Nat))⊕(aR))))):=fun (x137,x138,i139,l140) =>
  (wE k118 i119 i120 a121 l133 x137 x138 i139 l140).run
theorem QN(left114:Nat)(left115:Nat)(right116:Nat)(right117:Nat)(k118:Nat)(i119:Int)(i120:Int)(a121:Nat)(a122:Nat)(a123:Nat)(a124:Nat)(a125:Nat)(a126:Nat)(a127:Nat)(l128:List (List Nat))(l129:List Nat)(a130:Nat)(l131:List (List Nat))(l132:List Nat)(l133:List Nat)(l134:List Nat)(l135:List Nat)(x137:Nat)(x138:Nat)(i139:Nat)(l140:List Nat) :Sg prog [] QM (pQ left114 left115 right116 right117 k118 i119 i120 a121 a122 a123 a124 a125 a126 a127 l128 l129 a130 l131 l132 l133 l134 l135 (x137,x138,i139,l140)) (pR k118 i119 i120 a121 l133 (x137,x138,i139,l140)) (pQ left114 left115 right116 right117 k118 i119 i120 a121 a122 a123 a124 a125 a126 a127 l128 l129 a130 l131 l132 l133 l134 l135) (bS 2 (Ek left114 left115 right116 right117 k118 i119 i120 a121 a122 a123 a124 a125 a126 a127 l128 l129 a130 l131 l132 l133 l134 l135) (bS 1 (pP k118) (bS 0 pO lU))):=by
  unfold pR;exact aV ct (pQ left114 left115 right116 right117 k118 i119 i120 a121 a122 a123 a124 a125 a126 a127 l128 l129 a130 l131 l132 l133 l134 l135) [⟨[],[0,1,2,3,4,169,6,7,8],[1,2,5,6,7,8,9,10]⟩,⟨[],[0,1,2,3,4,5,6,7,8],[1,2,5,6,7,8,9]⟩]
def QO(left114:Nat)(left115:Nat)(right116:Nat)(right117:Nat)(k118:Nat)(i119:Int)(i120:Int)(a121:Nat)(a122:Nat)(a123:Nat)(a124:Nat)(a125:Nat)(a126:Nat)(a127:Nat)(l128:List (List Nat))(l129:List Nat)(a130:Nat)(l131:List (List Nat))(l132:List Nat)(l133:List Nat)(l134:List Nat)(l135:List Nat) :Nat×(List Nat)×Nat×Nat→aM:=fun (beta144,l145,a146,a147)=>⟨aq 120 [(1,.ptr 0 1 0 0),(2,.ptr 1 1 0 0),(5,.ptr 2 1 0 0),(6,.sl 3 2 2 0 left114 left115),(7,.sl 4 2 2 0 right116 right117),(8,.int .i64 ((k118:Nat):Int)),(11,.ptr 5 1 0 0),(12,.flt false beta144)],[(0,.vs [.int .i64 i119,.int .i64 i120,.sl 6 1 1 0 a121 a122]),(1,.vs [.nsl,.nsl]),(2,.vs [.sl 7 1 1 0 a123 a124,.sl 8 1 1 0 a125 a126]),(3,.cols a127 [.cfl l128,.cf l129]),(4,.cols a130 [.cfl l131,.cf l132]),(5,.vs [.imm .free (.fl l145) 1 1 0 a146,.flt false a147]),(6,.fl l133),(7,.fl l134),(8,.fl l135)],9⟩
def wF(x141:Nat)(l143:List Nat) :T ((Nat×(List Nat)×Nat×Nat)⊕((Nat×Nat×Nat×Int×Int×Nat×Nat×Nat×Nat×(List (List Nat))×(List Nat)×Nat×(List (List Nat))×(List Nat)×(List Nat)×(List Nat)×(List Nat))⊕((Nat×Nat×Nat×Nat×Nat×Nat×Nat×Nat×Nat×(List (List Nat))×(List Nat)×Nat×(List (List Nat))×(List Nat)×(List Nat)×(List Nat))⊕(aR)))) :=
  .need (bL 0 x141 l143)<|.need (qC (fg (an 0 x141 l143)))<|.leaf (.inl ((re (fg (an 0 x141 l143))),(rh (fg (an 0 x141 l143))),(rf (fg (an 0 x141 l143))),(rg (fg (an 0 x141 l143)))))
def QP(right116:Nat)(right117:Nat)(k118:Nat)(a125:Nat)(a126:Nat)(a130:Nat)(l131:List (List Nat))(l132:List Nat)(l135:List Nat) :Nat×Int×Int×Nat×Nat×(List (List Nat))×(List Nat)×(List Nat)×(List Nat)→aM:=fun (left148,i149,i150,a151,a152,l153,l154,l155,l156)=>⟨aq 120 [(1,.ptr 0 1 0 0),(2,.ptr 1 1 0 0),(5,.ptr 2 1 0 0),(6,.sl 3 2 2 0 left148 left148),(7,.sl 4 2 2 0 right116 right117),(8,.int .i64 ((k118:Nat):Int))],[(0,.vs [.int .i64 i149,.int .i64 i150,.sl 5 1 1 0 a151 a151]),(1,.vs [.nsl,.nsl]),(2,.vs [.sl 6 1 1 0 a152 a152,.sl 7 1 1 0 a125 a126]),(3,.cols left148 [.cfl l153,.cf l154]),(4,.cols a130 [.cfl l131,.cf l132]),(5,.fl l155),(6,.fl l156),(7,.fl l135)],8⟩
def wG(left114:Nat)(k118:Nat)(i119:Int)(i120:Int)(a121:Nat)(a123:Nat)(a127:Nat)(l128:List (List Nat))(l129:List Nat)(l133:List Nat)(l134:List Nat)(beta144:Nat)(l145:List Nat)(a146:Nat)(a147:Nat) :T ((Nat×Int×Int×Nat×Nat×(List (List Nat))×(List Nat)×(List Nat)×(List Nat))⊕((Nat×Nat×Nat×Int×Int×Nat×Nat×Nat×Nat×(List (List Nat))×(List Nat)×Nat×(List (List Nat))×(List Nat)×(List Nat)×(List Nat)×(List Nat))⊕((Nat×Nat×Nat×Nat×Nat×Nat×Nat×Nat×Nat×(List (List Nat))×(List Nat)×Nat×(List (List Nat))×(List Nat)×(List Nat)×(List Nat))⊕(aR)))) :=
  .need (dK ((a123+1)*8) 140737488355328)<|.need (dK (a123+1) 9223372036854775807)<|.need (dK 1 (List.length [beta144]))<|.need (dK a123 (List.length l134))<|.need (dK ((left114+1)*32) 140737488355328)<|.need (dK (left114+1) 9223372036854775807)<|.need (dK 2 2)<|.need (dK left114 a127)<|.need (decide (0+a146≤List.length l145))<|.need (cK .i64 (((k118+1):Nat):Int))<|.need (bL 0 a121 l133)<|.need (bL 0 a146 l145)<|.need (xq (lb i119 i120 (an 0 a121 l133) ((k118:Nat):Int) (((k118+1):Nat):Int) (an 0 a146 l145) a147))<|.leaf (.inl ((left114+1),(zh (lb i119 i120 (an 0 a121 l133) ((k118:Nat):Int) (((k118+1):Nat):Int) (an 0 a146 l145) a147)),(zi (lb i119 i120 (an 0 a121 l133) ((k118:Nat):Int) (((k118+1):Nat):Int) (an 0 a146 l145) a147)),(zj (lb i119 i120 (an 0 a121 l133) ((k118:Nat):Int) (((k118+1):Nat):Int) (an 0 a146 l145) a147)),(a123+1),((List.take left114 l128)++[(List.take a146 (List.drop 0 l145))]),((List.take left114 l129)++[a147]),(zk (lb i119 i120 (an 0 a121 l133) ((k118:Nat):Int) (((k118+1):Nat):Int) (an 0 a146 l145) a147)),((List.take a123 l134)++(List.take 1 [beta144]))))
def QQ(right116:Nat)(right117:Nat)(k118:Nat)(a130:Nat)(l131:List (List Nat))(l132:List Nat)(left148:Nat)(i149:Int)(i150:Int)(a151:Nat)(a152:Nat)(l153:List (List Nat))(l154:List Nat)(l155:List Nat)(l156:List Nat) :Nat×Nat×(List Nat)→aM:=fun (a157,a158,l159)=>⟨aq 120 [(1,.ptr 0 1 0 0),(2,.ptr 1 1 0 0),(5,.ptr 2 1 0 0),(6,.sl 3 2 2 0 left148 left148),(7,.sl 4 2 2 0 right116 right117),(8,.int .i64 ((k118:Nat):Int))],[(0,.vs [.int .i64 i149,.int .i64 i150,.sl 5 1 1 0 a151 a151]),(1,.vs [.nsl,.nsl]),(2,.vs [.sl 6 1 1 0 a152 a152,.sl 7 1 1 0 a157 a158]),(3,.cols left148 [.cfl l153,.cf l154]),(4,.cols a130 [.cfl l131,.cf l132]),(5,.fl l155),(6,.fl l156),(7,.fl l159)],8⟩
def wH(k118:Nat)(a125:Nat)(a126:Nat)(l135:List Nat)(i150:Int)(a151:Nat)(l155:List Nat) :T ((Nat×Nat×(List Nat))⊕((Nat×Nat×Nat×Int×Int×Nat×Nat×Nat×Nat×(List (List Nat))×(List Nat)×Nat×(List (List Nat))×(List Nat)×(List Nat)×(List Nat)×(List Nat))⊕((Nat×Nat×Nat×Nat×Nat×Nat×Nat×Nat×Nat×(List (List Nat))×(List Nat)×Nat×(List (List Nat))×(List Nat)×(List Nat)×(List Nat))⊕(aR)))) :=
  .need (cK .i64 (((k118+2):Nat):Int))<|.ask ((((k118+2):Nat):Int)==i150)
    (.need (cK .i64 (((k118+1):Nat):Int))<|.need (cK .i64 (((k118:Nat):Int)*i150))<|.need (cK .i64 ((((k118:Nat):Int)*i150)+(((k118+1):Nat):Int)))<|.need (fi ((((k118:Nat):Int)*i150)+(((k118+1):Nat):Int)) a151)<|.need (eS (Int.toNat ((((k118:Nat):Int)*i150)+(((k118+1):Nat):Int))) (List.length l155))<|.need (dK ((a125+1)*8) 140737488355328)<|.need (dK (a125+1) 9223372036854775807)<|.need (dK 1 (List.length [(List.getD l155 (Int.toNat ((((k118:Nat):Int)*i150)+(((k118+1):Nat):Int))) 0)]))<|.need (dK a125 (List.length l135))<|.leaf (.inl ((a125+1),(a125+1),((List.take a125 l135)++(List.take 1 [(List.getD l155 (Int.toNat ((((k118:Nat):Int)*i150)+(((k118+1):Nat):Int))) 0)])))))
    (.leaf (.inl (a125,a126,l135)))
def QR(right116:Nat)(right117:Nat)(k118:Nat)(a130:Nat)(l131:List (List Nat))(l132:List Nat)(left148:Nat)(i149:Int)(i150:Int)(a151:Nat)(a152:Nat)(l153:List (List Nat))(l154:List Nat)(l155:List Nat)(l156:List Nat)(a157:Nat)(a158:Nat)(l159:List Nat)(b160:Bool) :aM:=⟨aq 120 [(1,.ptr 0 1 0 0),(2,.ptr 1 1 0 0),(5,.ptr 2 1 0 0),(6,.sl 3 2 2 0 left148 left148),(7,.sl 4 2 2 0 right116 right117),(8,.int .i64 ((k118:Nat):Int)),(79,.bool false b160)],[(0,.vs [.int .i64 i149,.int .i64 i150,.sl 5 1 1 0 a151 a151]),(1,.vs [.nsl,.nsl]),(2,.vs [.sl 6 1 1 0 a152 a152,.sl 7 1 1 0 a157 a158]),(3,.cols left148 [.cfl l153,.cf l154]),(4,.cols a130 [.cfl l131,.cf l132]),(5,.fl l155),(6,.fl l156),(7,.fl l159)],8⟩
def El(k118:Nat)(i150:Int) :T ((Bool)⊕((Nat×Nat×Nat×Int×Int×Nat×Nat×Nat×Nat×(List (List Nat))×(List Nat)×Nat×(List (List Nat))×(List Nat)×(List Nat)×(List Nat)×(List Nat))⊕((Nat×Nat×Nat×Nat×Nat×Nat×Nat×Nat×Nat×(List (List Nat))×(List Nat)×Nat×(List (List Nat))×(List Nat)×(List Nat)×(List Nat))⊕(aR)))) :=
  .need (cK .i64 (((k118+2):Nat):Int))<|.leaf (.inl (decide ((((k118+2):Nat):Int)<i150)))
def Em(k118:Nat)(left148:Nat)(a152:Nat)(l153:List (List Nat))(l154:List Nat)(l156:List Nat) :Nat×Nat×Int×Int×Nat×Nat×Nat×Nat×(List (List Nat))×(List Nat)×(List Nat)×(List Nat)→aM:=fun (right174,right175,i176,i177,a178,a179,a180,a181,l182,l183,l184,l185)=>⟨aq 120 [(1,.ptr 0 1 0 0),(2,.ptr 1 1 0 0),(5,.ptr 2 1 0 0),(6,.sl 3 2 2 0 left148 left148),(7,.sl 4 2 2 0 right174 right175),(8,.int .i64 ((k118:Nat):Int))],[(0,.vs [.int .i64 i176,.int .i64 i177,.sl 5 1 1 0 a178 a178]),(1,.vs [.nsl,.nsl]),(2,.vs [.sl 6 1 1 0 a152 a152,.sl 7 1 1 0 a179 a180]),(3,.cols left148 [.cfl l153,.cf l154]),(4,.cols a181 [.cfl l182,.cf l183]),(5,.fl l184),(6,.fl l156),(7,.fl l185)],8⟩
noncomputable def QS:List Code:=cg (anN (((((((((lW.drop 2).drop 1).drop 1).drop 3).drop 2).drop 1).take 1)).headD .skip))
def QT(right116:Nat)(right117:Nat)(k118:Nat)(a130:Nat)(l131:List (List Nat))(l132:List Nat)(left148:Nat)(i149:Int)(i150:Int)(a151:Nat)(a152:Nat)(l153:List (List Nat))(l154:List Nat)(l155:List Nat)(l156:List Nat)(a157:Nat)(a158:Nat)(l159:List Nat)(j161:Nat) :aM:=⟨aq 120 [(1,.ptr 0 1 0 0),(2,.ptr 1 1 0 0),(5,.ptr 2 1 0 0),(6,.sl 3 2 2 0 left148 left148),(7,.sl 4 2 2 0 right116 right117),(8,.int .i64 ((k118:Nat):Int)),(13,.nsl),(14,.int .i64 ((j161:Nat):Int))],[(0,.vs [.int .i64 i149,.int .i64 i150,.sl 5 1 1 0 a151 a151]),(1,.vs [.nsl,.nsl]),(2,.vs [.sl 6 1 1 0 a152 a152,.sl 7 1 1 0 a157 a158]),(3,.cols left148 [.cfl l153,.cf l154]),(4,.cols a130 [.cfl l131,.cf l132]),(5,.fl l155),(6,.fl l156),(7,.fl l159)],8⟩
def En(k118:Nat) :T ((Nat)⊕((Nat×Nat×Nat×Int×Int×Nat×Nat×Nat×Nat×(List (List Nat))×(List Nat)×Nat×(List (List Nat))×(List Nat)×(List Nat)×(List Nat)×(List Nat))⊕((Nat×Nat×Nat×Nat×Nat×Nat×Nat×Nat×Nat×(List (List Nat))×(List Nat)×Nat×(List (List Nat))×(List Nat)×(List Nat)×(List Nat))⊕(aR)))) :=
  .need (cK .i64 (((k118+1):Nat):Int))<|.leaf (.inl (k118+1))
def pS(right116:Nat)(right117:Nat)(k118:Nat)(a130:Nat)(l131:List (List Nat))(l132:List Nat)(left148:Nat)(i149:Int)(i150:Int)(a151:Nat)(a152:Nat)(l153:List (List Nat))(l154:List Nat)(l155:List Nat)(l156:List Nat)(a157:Nat)(a158:Nat)(l159:List Nat) :Nat×Nat×Nat×(List Nat)→aM:=fun (y163,y164,j165,l166)=>⟨aq 120 [(1,.ptr 0 1 0 0),(2,.ptr 1 1 0 0),(5,.ptr 2 1 0 0),(6,.sl 3 2 2 0 left148 left148),(7,.sl 4 2 2 0 right116 right117),(8,.int .i64 ((k118:Nat):Int)),(13,.sl 5 1 1 0 y163 y164),(14,.int .i64 ((j165:Nat):Int))],[(0,.vs [.int .i64 i149,.int .i64 i150,.sl 6 1 1 0 a151 a151]),(1,.vs [.nsl,.nsl]),(2,.vs [.sl 7 1 1 0 a152 a152,.sl 8 1 1 0 a157 a158]),(3,.cols left148 [.cfl l153,.cf l154]),(4,.cols a130 [.cfl l131,.cf l132]),(5,.fl l166),(6,.fl l155),(7,.fl l156),(8,.fl l159)],9⟩
def Eo(right116:Nat)(right117:Nat)(k118:Nat)(a130:Nat)(l131:List (List Nat))(l132:List Nat)(left148:Nat)(i149:Int)(i150:Int)(a151:Nat)(a152:Nat)(l153:List (List Nat))(l154:List Nat)(l155:List Nat)(l156:List Nat)(a157:Nat)(a158:Nat)(l159:List Nat) :Nat×Nat×(List Nat)→aM:=fun (y167,y168,l169)=>⟨aq 120 [(1,.ptr 0 1 0 0),(2,.ptr 1 1 0 0),(5,.ptr 2 1 0 0),(6,.sl 3 2 2 0 left148 left148),(7,.sl 4 2 2 0 right116 right117),(8,.int .i64 ((k118:Nat):Int)),(13,.sl 5 1 1 0 y167 y168)],[(0,.vs [.int .i64 i149,.int .i64 i150,.sl 6 1 1 0 a151 a151]),(1,.vs [.nsl,.nsl]),(2,.vs [.sl 7 1 1 0 a152 a152,.sl 8 1 1 0 a157 a158]),(3,.cols left148 [.cfl l153,.cf l154]),(4,.cols a130 [.cfl l131,.cf l132]),(5,.fl l169),(6,.fl l155),(7,.fl l156),(8,.fl l159)],9⟩
noncomputable def QU:List Code:=cg (cw ((((QS.drop 2).take 1)).headD .skip))
def wI(k118:Nat)(i150:Int)(a151:Nat)(l155:List Nat)(y163:Nat)(y164:Nat)(j165:Nat)(l166:List Nat) :T ((Nat×Nat×Nat×(List Nat))⊕((Nat×Nat×(List Nat))⊕((Nat×Nat×Nat×Int×Int×Nat×Nat×Nat×Nat×(List (List Nat))×(List Nat)×Nat×(List (List Nat))×(List Nat)×(List Nat)×(List Nat)×(List Nat))⊕((Nat×Nat×Nat×Nat×Nat×Nat×Nat×Nat×Nat×(List (List Nat))×(List Nat)×Nat×(List (List Nat))×(List Nat)×(List Nat)×(List Nat))⊕(aR))))) :=
  .ask (decide (((j165:Nat):Int)<i150))
    (.need (cK .i64 (((k118:Nat):Int)*i150))<|.need (cK .i64 ((((k118:Nat):Int)*i150)+((j165:Nat):Int)))<|.need (fi ((((k118:Nat):Int)*i150)+((j165:Nat):Int)) a151)<|.need (eS (Int.toNat ((((k118:Nat):Int)*i150)+((j165:Nat):Int))) (List.length l155))<|.need (dK ((y163+1)*8) 140737488355328)<|.need (dK (y163+1) 9223372036854775807)<|.need (dK 1 (List.length [(List.getD l155 (Int.toNat ((((k118:Nat):Int)*i150)+((j165:Nat):Int))) 0)]))<|.need (dK y163 (List.length l166))<|.need (cK .i64 (((j165+1):Nat):Int))<|.leaf (.inl ((y163+1),(y163+1),(j165+1),((List.take y163 l166)++(List.take 1 [(List.getD l155 (Int.toNat ((((k118:Nat):Int)*i150)+((j165:Nat):Int))) 0)])))))
    (.leaf (.inr (.inl (y163,y164,l166))))
noncomputable def lX(k118:Nat)(i150:Int)(a151:Nat)(l155:List Nat) :Nat×Nat×Nat×(List Nat)→Option ((Nat×Nat×Nat×(List Nat))⊕((Nat×Nat×(List Nat))⊕((Nat×Nat×Nat×Int×Int×Nat×Nat×Nat×Nat×(List (List Nat))×(List Nat)×Nat×(List (List Nat))×(List Nat)×(List Nat)×(List Nat)×(List Nat))⊕((Nat×Nat×Nat×Nat×Nat×Nat×Nat×Nat×Nat×(List (List Nat))×(List Nat)×Nat×(List (List Nat))×(List Nat)×(List Nat)×(List Nat))⊕(aR))))):=fun (y163,y164,j165,l166) =>
  (wI k118 i150 a151 l155 y163 y164 j165 l166).run
theorem QV(right116:Nat)(right117:Nat)(k118:Nat)(a130:Nat)(l131:List (List Nat))(l132:List Nat)(left148:Nat)(i149:Int)(i150:Int)(a151:Nat)(a152:Nat)(l153:List (List Nat))(l154:List Nat)(l155:List Nat)(l156:List Nat)(a157:Nat)(a158:Nat)(l159:List Nat)(y163:Nat)(y164:Nat)(j165:Nat)(l166:List Nat) :Sg prog [] QU (pS right116 right117 k118 a130 l131 l132 left148 i149 i150 a151 a152 l153 l154 l155 l156 a157 a158 l159 (y163,y164,j165,l166)) (lX k118 i150 a151 l155 (y163,y164,j165,l166)) (pS right116 right117 k118 a130 l131 l132 left148 i149 i150 a151 a152 l153 l154 l155 l156 a157 a158 l159) (bS 4 (Eo right116 right117 k118 a130 l131 l132 left148 i149 i150 a151 a152 l153 l154 l155 l156 a157 a158 l159) (bS 1 (pP k118) (bS 0 pO lU))):=by
  unfold lX;exact aV ct (pS right116 right117 k118 a130 l131 l132 left148 i149 i150 a151 a152 l153 l154 l155 l156 a157 a158 l159) [⟨[],[0,1,2,3,4,169,6,7,8],[1,2,5,6,7,8,13,14]⟩,⟨[],[0,1,2,3,4,5,6,7,8],[1,2,5,6,7,8,13]⟩]
def QW(right116:Nat)(right117:Nat)(k118:Nat)(a130:Nat)(l131:List (List Nat))(l132:List Nat)(left148:Nat)(i149:Int)(i150:Int)(a151:Nat)(a152:Nat)(l153:List (List Nat))(l154:List Nat)(l155:List Nat)(l156:List Nat)(a157:Nat)(a158:Nat)(l159:List Nat) :Nat×(List Nat)×Nat×Nat→aM:=fun (beta170,l171,a172,a173)=>⟨aq 120 [(1,.ptr 0 1 0 0),(2,.ptr 1 1 0 0),(5,.ptr 2 1 0 0),(6,.sl 3 2 2 0 left148 left148),(7,.sl 4 2 2 0 right116 right117),(8,.int .i64 ((k118:Nat):Int)),(15,.ptr 5 1 0 0),(16,.flt false beta170)],[(0,.vs [.int .i64 i149,.int .i64 i150,.sl 6 1 1 0 a151 a151]),(1,.vs [.nsl,.nsl]),(2,.vs [.sl 7 1 1 0 a152 a152,.sl 8 1 1 0 a157 a158]),(3,.cols left148 [.cfl l153,.cf l154]),(4,.cols a130 [.cfl l131,.cf l132]),(5,.vs [.imm .free (.fl l171) 1 1 0 a172,.flt false a173]),(6,.fl l155),(7,.fl l156),(8,.fl l159)],9⟩
def pT(y167:Nat)(l169:List Nat) :T ((Nat×(List Nat)×Nat×Nat)⊕((Nat×Nat×Nat×Int×Int×Nat×Nat×Nat×Nat×(List (List Nat))×(List Nat)×Nat×(List (List Nat))×(List Nat)×(List Nat)×(List Nat)×(List Nat))⊕((Nat×Nat×Nat×Nat×Nat×Nat×Nat×Nat×Nat×(List (List Nat))×(List Nat)×Nat×(List (List Nat))×(List Nat)×(List Nat)×(List Nat))⊕(aR)))) :=
  .need (bL 0 y167 l169)<|.need (qC (fg (an 0 y167 l169)))<|.leaf (.inl ((re (fg (an 0 y167 l169))),(rh (fg (an 0 y167 l169))),(rf (fg (an 0 y167 l169))),(rg (fg (an 0 y167 l169)))))
def pU(right116:Nat)(k118:Nat)(a130:Nat)(l131:List (List Nat))(l132:List Nat)(i149:Int)(i150:Int)(a151:Nat)(l155:List Nat)(a157:Nat)(l159:List Nat)(beta170:Nat)(l171:List Nat)(a172:Nat)(a173:Nat) :T ((Nat×Nat×Int×Int×Nat×Nat×Nat×Nat×(List (List Nat))×(List Nat)×(List Nat)×(List Nat))⊕((Nat×Nat×Nat×Int×Int×Nat×Nat×Nat×Nat×(List (List Nat))×(List Nat)×Nat×(List (List Nat))×(List Nat)×(List Nat)×(List Nat)×(List Nat))⊕((Nat×Nat×Nat×Nat×Nat×Nat×Nat×Nat×Nat×(List (List Nat))×(List Nat)×Nat×(List (List Nat))×(List Nat)×(List Nat)×(List Nat))⊕(aR)))) :=
  .need (dK ((a157+1)*8) 140737488355328)<|.need (dK (a157+1) 9223372036854775807)<|.need (dK 1 (List.length [beta170]))<|.need (dK a157 (List.length l159))<|.need (dK ((right116+1)*32) 140737488355328)<|.need (dK (right116+1) 9223372036854775807)<|.need (dK 2 2)<|.need (dK right116 a130)<|.need (decide (0+a172≤List.length l171))<|.need (cK .i64 (((k118+1):Nat):Int))<|.need (cK .i64 (((k118+1):Nat):Int))<|.need (bL 0 a151 l155)<|.need (bL 0 a172 l171)<|.need (uV (jW i149 i150 (an 0 a151 l155) (((k118+1):Nat):Int) (((k118+1):Nat):Int) (an 0 a172 l171) a173))<|.leaf (.inl ((right116+1),(right116+1),(wA (jW i149 i150 (an 0 a151 l155) (((k118+1):Nat):Int) (((k118+1):Nat):Int) (an 0 a172 l171) a173)),(wB (jW i149 i150 (an 0 a151 l155) (((k118+1):Nat):Int) (((k118+1):Nat):Int) (an 0 a172 l171) a173)),(wC (jW i149 i150 (an 0 a151 l155) (((k118+1):Nat):Int) (((k118+1):Nat):Int) (an 0 a172 l171) a173)),(a157+1),(a157+1),(right116+1),((List.take right116 l131)++[(List.take a172 (List.drop 0 l171))]),((List.take right116 l132)++[a173]),(wD (jW i149 i150 (an 0 a151 l155) (((k118+1):Nat):Int) (((k118+1):Nat):Int) (an 0 a172 l171) a173)),((List.take a157 l159)++(List.take 1 [beta170]))))
def Ep(right116:Nat)(right117:Nat)(a130:Nat)(l131:List (List Nat))(l132:List Nat)(i149:Int)(i150:Int)(a151:Nat)(l155:List Nat)(a157:Nat)(a158:Nat)(l159:List Nat) :T ((Nat×Nat×Int×Int×Nat×Nat×Nat×Nat×(List (List Nat))×(List Nat)×(List Nat)×(List Nat))⊕((Nat×Nat×Nat×Int×Int×Nat×Nat×Nat×Nat×(List (List Nat))×(List Nat)×Nat×(List (List Nat))×(List Nat)×(List Nat)×(List Nat)×(List Nat))⊕((Nat×Nat×Nat×Nat×Nat×Nat×Nat×Nat×Nat×(List (List Nat))×(List Nat)×Nat×(List (List Nat))×(List Nat)×(List Nat)×(List Nat))⊕(aR)))) :=
  .leaf (.inl (right116,right117,i149,i150,a151,a157,a158,a130,l131,l132,l155,l159))
def Er(left148:Nat)(a152:Nat)(l153:List (List Nat))(l154:List Nat)(l156:List Nat)(right174:Nat)(right175:Nat)(i176:Int)(i177:Int)(a178:Nat)(a179:Nat)(a180:Nat)(a181:Nat)(l182:List (List Nat))(l183:List Nat)(l184:List Nat)(l185:List Nat) :T ((Nat×Nat×Nat×Int×Int×Nat×Nat×Nat×Nat×(List (List Nat))×(List Nat)×Nat×(List (List Nat))×(List Nat)×(List Nat)×(List Nat)×(List Nat))⊕((Nat×Nat×Nat×Int×Int×Nat×Nat×Nat×Nat×(List (List Nat))×(List Nat)×Nat×(List (List Nat))×(List Nat)×(List Nat)×(List Nat)×(List Nat))⊕((Nat×Nat×Nat×Nat×Nat×Nat×Nat×Nat×Nat×(List (List Nat))×(List Nat)×Nat×(List (List Nat))×(List Nat)×(List Nat)×(List Nat))⊕(aR)))) :=
  .leaf (.inl (left148,right174,right175,i176,i177,a178,a152,a179,a180,l153,l154,a181,l182,l183,l184,l156,l185))
def QX(k118:Nat)(left186:Nat)(right187:Nat)(right188:Nat)(i189:Int)(i190:Int)(a191:Nat)(a192:Nat)(a193:Nat)(a194:Nat)(l195:List (List Nat))(l196:List Nat)(a197:Nat)(l198:List (List Nat))(l199:List Nat)(l200:List Nat)(l201:List Nat)(l202:List Nat) :T ((Nat×Nat×Nat×Nat×Nat×Int×Int×Nat×Nat×Nat×Nat×Nat×Nat×Nat×(List (List Nat))×(List Nat)×Nat×(List (List Nat))×(List Nat)×(List Nat)×(List Nat)×(List Nat))⊕((Nat×Nat×Nat×Nat×Nat×Nat×Nat×Nat×Nat×(List (List Nat))×(List Nat)×Nat×(List (List Nat))×(List Nat)×(List Nat)×(List Nat))⊕(aR))) :=
  .need (cK .i64 (((k118+1):Nat):Int))<|.leaf (.inl (left186,left186,right187,right188,(k118+1),i189,i190,a191,a191,a192,a192,a193,a194,left186,l195,l196,a197,l198,l199,l200,l201,l202))
noncomputable def pV:Nat×Nat×Nat×Nat×Nat×Int×Int×Nat×Nat×Nat×Nat×Nat×Nat×Nat×(List (List Nat))×(List Nat)×Nat×(List (List Nat))×(List Nat)×(List Nat)×(List Nat)×(List Nat)→Option ((Nat×Nat×Nat×Nat×Nat×Int×Int×Nat×Nat×Nat×Nat×Nat×Nat×Nat×(List (List Nat))×(List Nat)×Nat×(List (List Nat))×(List Nat)×(List Nat)×(List Nat)×(List Nat))⊕((Nat×Nat×Nat×Nat×Nat×Nat×Nat×Nat×Nat×(List (List Nat))×(List Nat)×Nat×(List (List Nat))×(List Nat)×(List Nat)×(List Nat))⊕(aR))):=fun (left114,left115,right116,right117,k118,i119,i120,a121,a122,a123,a124,a125,a126,a127,l128,l129,a130,l131,l132,l133,l134,l135) =>
  aL ((QJ left114 left115 right116 right117 k118 i120 a123 a124 a125 a126 a127 l128 l129 a130 l131 l132 l134 l135).run) fun _ =>
  aL (vj (aL ((QL).run) fun _ =>
  aL (ch (pR k118 i119 i120 a121 l133) (0,0,k118,([]:List Nat))) fun (x141,x142,l143) =>
  aL ((wF x141 l143).run) fun (beta144,l145,a146,a147) =>
  aL ((wG left114 k118 i119 i120 a121 a123 a127 l128 l129 l133 l134 beta144 l145 a146 a147).run) fun (left148,i149,i150,a151,a152,l153,l154,l155,l156) =>
  aL ((wH k118 a125 a126 l135 i150 a151 l155).run) fun (a157,a158,l159) =>
  aL ((El k118 i150).run) fun b160 =>
  aL ((bif b160 then aL ((En k118).run) fun j161 =>
  aL (ch (lX k118 i150 a151 l155) (0,0,j161,([]:List Nat))) fun (y167,y168,l169) =>
  aL ((pT y167 l169).run) fun (beta170,l171,a172,a173) =>
  (pU right116 k118 a130 l131 l132 i149 i150 a151 l155 a157 l159 beta170 l171 a172 a173).run else (Ep right116 right117 a130 l131 l132 i149 i150 a151 l155 a157 a158 l159).run)) fun (right174,right175,i176,i177,a178,a179,a180,a181,l182,l183,l184,l185) =>
  (Er left148 a152 l153 l154 l156 right174 right175 i176 i177 a178 a179 a180 a181 l182 l183 l184 l185).run)) fun (left186,right187,right188,i189,i190,a191,a192,a193,a194,l195,l196,a197,l198,l199,l200,l201,l202) =>
  (QX k118 left186 right187 right188 i189 i190 a191 a192 a193 a194 l195 l196 a197 l198 l199 l200 l201 l202).run
theorem QY(left114:Nat)(left115:Nat)(right116:Nat)(right117:Nat)(k118:Nat)(i119:Int)(i120:Int)(a121:Nat)(a122:Nat)(a123:Nat)(a124:Nat)(a125:Nat)(a126:Nat)(a127:Nat)(l128:List (List Nat))(l129:List Nat)(a130:Nat)(l131:List (List Nat))(l132:List Nat)(l133:List Nat)(l134:List Nat)(l135:List Nat) :Sg prog [] Ej (pN (left114,left115,right116,right117,k118,i119,i120,a121,a122,a123,a124,a125,a126,a127,l128,l129,a130,l131,l132,l133,l134,l135)) (pV (left114,left115,right116,right117,k118,i119,i120,a121,a122,a123,a124,a125,a126,a127,l128,l129,a130,l131,l132,l133,l134,l135)) pN (bS 0 pO lU):=by
  unfold pV;exact Sg.cut 2 (aD cj) (aV ct (QI left114 left115 right116 right117 k118 i119 i120 a121 a122 a123 a124 a125 a126 a127 l128 l129 a130 l131 l132 l133 l134 l135) [⟨[],[0,1,2,3,4,5,6,7],[1,2,5,6,7,8]⟩,⟨[],[1,2,3,4,6,7],[2,5,6,7]⟩]) (fun _=>Sg.cut 1 (aD cj) (sgb (pP k118) 1 (aD cj) (ck (by decide) (rt _)) (Sg.cut 2 (aD (aD cj)) (aV ct (QK left114 left115 right116 right117 k118 i119 i120 a121 a122 a123 a124 a125 a126 a127 l128 l129 a130 l131 l132 l133 l134 l135) [⟨[],[0,1,2,3,4,5,6,7],[1,2,5,6,7,8,9,10]⟩]) (fun _=>Sg.cut 1 (aD (aD cj)) (vg ⟨[(.slot 9,.own 1 1 (.fl ([]:List Nat)))],[0,1,2,3,4,8,5,6,7],[1,2,5,6,7,8,9,10]⟩ (pQ left114 left115 right116 right117 k118 i119 i120 a121 a122 a123 a124 a125 a126 a127 l128 l129 a130 l131 l132 l133 l134 l135) (Ek left114 left115 right116 right117 k118 i119 i120 a121 a122 a123 a124 a125 a126 a127 l128 l129 a130 l131 l132 l133 l134 l135) 2 (aD (aD cj)) (ck (by decide) (ck (by decide) (rt _))) (fun ⟨x137,x138,i139,l140⟩=>QN left114 left115 right116 right117 k118 i119 i120 a121 a122 a123 a124 a125 a126 a127 l128 l129 a130 l131 l132 l133 l134 l135 x137 x138 i139 l140)) (fun ⟨x141,x142,l143⟩=>Sg.cut 1 (aD (aD cj)) (aV ct (QO left114 left115 right116 right117 k118 i119 i120 a121 a122 a123 a124 a125 a126 a127 l128 l129 a130 l131 l132 l133 l134 l135) [⟨[],[0,1,2,3,4,89,6,7,8],[1,2,5,6,7,8,11,12]⟩]) (fun ⟨beta144,l145,a146,a147⟩=>Sg.cut 3 (aD (aD cj)) (aV ct (QP right116 right117 k118 a125 a126 a130 l131 l132 l135) [⟨[],[0,1,2,169,4,281,73,8],[1,2,5,6,7,8]⟩]) (fun ⟨left148,i149,i150,a151,a152,l153,l154,l155,l156⟩=>Sg.cut 2 (aD (aD cj)) (aV ct (QQ right116 right117 k118 a130 l131 l132 left148 i149 i150 a151 a152 l153 l154 l155 l156) [⟨[],[0,1,2,3,4,5,6,216],[1,2,5,6,7,8]⟩,⟨[],[0,1,2,3,4,5,6,7],[1,2,5,6,7,8]⟩]) (fun ⟨a157,a158,l159⟩=>Sg.cut 1 (aD (aD cj)) (aV ct (QR right116 right117 k118 a130 l131 l132 left148 i149 i150 a151 a152 l153 l154 l155 l156 a157 a158 l159) [⟨[],[0,1,2,3,4,5,6,7],[1,2,5,6,7,8,79]⟩]) (fun b160=>Sg.cut 1 (aD (aD cj)) (ama (c:=.tmp 79) (kn:=false) (b:=b160) (by kernel_rfl:(((((((lW.drop 2).drop 1).drop 1).drop 3).drop 2).drop 1).take 1)=[.cond (.tmp 79) (anN (((((((((lW.drop 2).drop 1).drop 1).drop 3).drop 2).drop 1).take 1)).headD .skip)) (aqV (((((((((lW.drop 2).drop 1).drop 1).drop 3).drop 2).drop 1).take 1)).headD .skip))]) (aD (aD cj)) (by kernel_rfl) (Sg.cut 2 (aD (aD cj)) (aV ct (QT right116 right117 k118 a130 l131 l132 left148 i149 i150 a151 a152 l153 l154 l155 l156 a157 a158 l159) [⟨[],[0,1,2,3,4,5,6,7],[1,2,5,6,7,8,13,14]⟩]) (fun j161=>Sg.cut 1 (aD (aD cj)) (vg ⟨[(.slot 13,.own 1 1 (.fl ([]:List Nat)))],[0,1,2,3,4,8,5,6,7],[1,2,5,6,7,8,13,14]⟩ (pS right116 right117 k118 a130 l131 l132 left148 i149 i150 a151 a152 l153 l154 l155 l156 a157 a158 l159) (Eo right116 right117 k118 a130 l131 l132 left148 i149 i150 a151 a152 l153 l154 l155 l156 a157 a158 l159) 4 (aD (aD cj)) (ck (by decide) (ck (by decide) (rt _))) (fun ⟨y163,y164,j165,l166⟩=>QV right116 right117 k118 a130 l131 l132 left148 i149 i150 a151 a152 l153 l154 l155 l156 a157 a158 l159 y163 y164 j165 l166)) (fun ⟨y167,y168,l169⟩=>Sg.cut 1 (aD (aD cj)) (aV ct (QW right116 right117 k118 a130 l131 l132 left148 i149 i150 a151 a152 l153 l154 l155 l156 a157 a158 l159) [⟨[],[0,1,2,3,4,89,6,7,8],[1,2,5,6,7,8,15,16]⟩]) (fun ⟨beta170,l171,a172,a173⟩=>aV ct (Em k118 left148 a152 l153 l154 l156) [⟨[],[0,1,2,3,169,297,7,73],[1,2,5,6,7,8]⟩])))) (aV ct (Em k118 left148 a152 l153 l154 l156) [⟨[],[0,1,2,3,4,5,6,7],[1,2,5,6,7,8]⟩])) (fun ⟨right174,right175,i176,i177,a178,a179,a180,a181,l182,l183,l184,l185⟩=>aV ct (pP k118) [⟨[],[0,1,2,3,4,5,6,7],[1,2,5,6,7,8]⟩]))))))))) (fun ⟨left186,right187,right188,i189,i190,a191,a192,a193,a194,l195,l196,a197,l198,l199,l200,l201,l202⟩=>aV ct pN [⟨[],[0,1,2,3,4,5,6,7],[1,2,5,6,7,8]⟩]))
def QZ(left203:Nat)(left204:Nat)(right205:Nat)(right206:Nat)(a207:Nat)(a208:Nat)(a209:Nat)(a210:Nat)(a211:Nat)(l212:List (List Nat))(l213:List Nat)(a214:Nat)(l215:List (List Nat))(l216:List Nat)(l217:List Nat)(l218:List Nat) :T ((Empty)⊕(aR)) :=
  .leaf (.inr (.r0 left203 left204 right205 right206 a207 a208 a209 a210 a211 l212 l213 a214 l215 l216 l217 l218))
noncomputable def fJ(a_0:Int)(a_1:Int)(a_3:List Nat) :Option aR:=lG (aL ((Ei a_3).run) fun l1 =>
  aL (ch (pV) (0,0,0,0,0,a_0,a_1,(List.length a_3),(List.length a_3),0,0,0,0,0,([]:List (List Nat)),([]:List Nat),0,([]:List (List Nat)),([]:List Nat),l1,([]:List Nat),([]:List Nat))) fun (left203,left204,right205,right206,a207,a208,a209,a210,a211,l212,l213,a214,l215,l216,l217,l218) =>
  (QZ left203 left204 right205 right206 a207 a208 a209 a210 a211 l212 l213 a214 l215 l216 l217 l218).run)
theorem TY(a_0:Int)(a_1:Int)(v_2:Lv)(a_3:List Nat){x:aR}(h:fJ a_0 a_1 a_3=some x) :aB prog AD [] [.agg [.int .i64 a_0,.int .i64 a_1,.imm v_2 (.fl a_3) 1 1 0 (List.length a_3)]] (Bt x) :=
  mo false Bt lU h (Sg.cut 5 cj (aV ct (TX a_0 a_1 a_3) [⟨[],[0,16,112,80],[1,2,5,6,7,8]⟩]) (fun l1=>Sg.cut 1 cj (vg ⟨[(.cell 2 0,.own 1 1 (.fl ([]:List Nat))),(.cell 2 1,.own 1 1 (.fl ([]:List Nat))),(.slot 6,.own 2 2 (.cols 0 [.cfl ([]:List (List Nat)),.cf ([]:List Nat)])),(.slot 7,.own 2 2 (.cols 0 [.cfl ([]:List (List Nat)),.cf ([]:List Nat)]))],[0,1,2,6,7,3,4,5],[1,2,5,6,7,8]⟩ (pN) (pO) 0 cj (rt _) (fun ⟨left114,left115,right116,right117,k118,i119,i120,a121,a122,a123,a124,a125,a126,a127,l128,l129,a130,l131,l132,l133,l134,l135⟩=>QY left114 left115 right116 right117 k118 i119 i120 a121 a122 a123 a124 a125 a126 a127 l128 l129 a130 l131 l132 l133 l134 l135)) (fun ⟨left203,left204,right205,right206,a207,a208,a209,a210,a211,l212,l213,a214,l215,l216,l217,l218⟩=>aV ct lx [⟨[],[0,2,3,4,5],[2,3,4]⟩])))
    (fun x=>by cases x with | r0 a219 a220 a221 a222 a223 a224 a225 a226 a227 l228 l229 a230 l231 l232 l233 l234=>exact ly [.agg [.sl 3 1 1 0 a223 a224,.sl 4 1 1 0 a225 a226],.sl 1 2 2 0 a219 a220,.sl 2 2 2 0 a221 a222])
def ru:Option aR→Bool
  | some _=>true
  | none=>false
def Cr:Option aR→Nat
  | some (.r0 x _ _ _ _ _ _ _ _ _ _ _ _ _ _ _)=>x
  | _=>0
def Cs:Option aR→Nat
  | some (.r0 _ x _ _ _ _ _ _ _ _ _ _ _ _ _ _)=>x
  | _=>0
def Ct:Option aR→Nat
  | some (.r0 _ _ x _ _ _ _ _ _ _ _ _ _ _ _ _)=>x
  | _=>0
def Cu:Option aR→Nat
  | some (.r0 _ _ _ x _ _ _ _ _ _ _ _ _ _ _ _)=>x
  | _=>0
def uW:Option aR→Nat
  | some (.r0 _ _ _ _ x _ _ _ _ _ _ _ _ _ _ _)=>x
  | _=>0
def uX:Option aR→Nat
  | some (.r0 _ _ _ _ _ x _ _ _ _ _ _ _ _ _ _)=>x
  | _=>0
def uY:Option aR→Nat
  | some (.r0 _ _ _ _ _ _ x _ _ _ _ _ _ _ _ _)=>x
  | _=>0
def uZ:Option aR→Nat
  | some (.r0 _ _ _ _ _ _ _ x _ _ _ _ _ _ _ _)=>x
  | _=>0
def Cv:Option aR→Nat
  | some (.r0 _ _ _ _ _ _ _ _ x _ _ _ _ _ _ _)=>x
  | _=>0
def Cw:Option aR→List (List Nat)
  | some (.r0 _ _ _ _ _ _ _ _ _ x _ _ _ _ _ _)=>x
  | _=>[]
def Bu:Option aR→List Nat
  | some (.r0 _ _ _ _ _ _ _ _ _ _ x _ _ _ _ _)=>x
  | _=>[]
def Bv:Option aR→Nat
  | some (.r0 _ _ _ _ _ _ _ _ _ _ _ x _ _ _ _)=>x
  | _=>0
def Bw:Option aR→List (List Nat)
  | some (.r0 _ _ _ _ _ _ _ _ _ _ _ _ x _ _ _)=>x
  | _=>[]
def Bx:Option aR→List Nat
  | some (.r0 _ _ _ _ _ _ _ _ _ _ _ _ _ x _ _)=>x
  | _=>[]
def rW:Option aR→List Nat
  | some (.r0 _ _ _ _ _ _ _ _ _ _ _ _ _ _ x _)=>x
  | _=>[]
def rX:Option aR→List Nat
  | some (.r0 _ _ _ _ _ _ _ _ _ _ _ _ _ _ _ x)=>x
  | _=>[]
theorem TZ{x:Option aR}(h:ru x=true) :x=some (.r0 (Cr x) (Cs x) (Ct x) (Cu x) (uW x) (uX x) (uY x) (uZ x) (Cv x) (Cw x) (Bu x) (Bv x) (Bw x) (Bx x) (rW x) (rX x)):=by
  unfold ru at h
  split at h<;>first | rfl | (cases h;done) | (rename_i y;cases y;rfl)
noncomputable def I3:aK:=cy AD (.cons (.agg (.cons (.int .i64) (.cons (.int .i64) (.cons .fl .nil)))) .nil) fun t=>(fun q=>[⟨Bt (.r0 (Cr q) (Cs q) (Ct q) (Cu q) (uW q) (uX q) (uY q) (uZ q) (Cv q) (Cw q) (Bu q) (Bv q) (Bw q) (Bx q) (rW q) (rX q)),[ru q]⟩]) (fJ t.1.1 t.1.2.1 t.1.2.2.1.2)
theorem OA:aY prog I3:=ba fun t=>(aZ (fun h=>TY t.1.1 t.1.2.1 t.1.2.2.1.1 t.1.2.2.1.2 (TZ h)) bj)
noncomputable def I4:List aK:=I3::K2
theorem Cx:aW prog (aT I4):=aF OA ct
inductive jX where
  | r0 (a1:Nat)
def Z6:jX→AE×aM
  | .r0 a1=>(.ret,⟨aq 18 [(2,.int .i64 ((a1:Nat):Int))],[],0⟩)
def DI:jX→ib
  | .r0 a1=>⟨.int .i64 ((a1:Nat):Int),[]⟩
def I5(w_0:Int) :T ((Empty)⊕(jX)) :=
  .need (decide ((0:Int)≤(52:Int)))<|.ask ((cL .and .u64 (Int.fdiv w_0 (2^(min (Int.toNat (52:Int)) (IntKind.u64.bits)))) (2047:Int))==(2047:Int))
    (.ask ((cL .and .u64 w_0 (4503599627370495:Int))==(0:Int))
      (.leaf (.inr (.r0 4)))
      (.leaf (.inr (.r0 5))))
    (.ask (decide ((cL .and .u64 (Int.fdiv w_0 (2^(min (Int.toNat (52:Int)) (IntKind.u64.bits)))) (2047:Int))>(0:Int)))
      (.leaf (.inr (.r0 3)))
      (.ask (decide ((cL .and .u64 w_0 (4503599627370495:Int))>(0:Int)))
        (.leaf (.inr (.r0 2)))
        (.leaf (.inr (.r0 1)))))
noncomputable def nF(w_0:Int) :Option jX:=lG ((I5 w_0).run)
theorem X3(w_0:Int){x:jX}(h:nF w_0=some x) :aB prog Ke [] [.int .u64 w_0] (DI x) :=
  mo false DI Z6 h (aV Cx lx [⟨[],[],[2]⟩,⟨[],[],[2]⟩,⟨[],[],[2]⟩,⟨[],[],[2]⟩,⟨[],[],[2]⟩])
    (fun x=>by cases x with | r0 a1=>exact ly [.int .i64 ((a1:Nat):Int)])
def va:Option jX→Bool
  | some _=>true
  | none=>false
def wJ:Option jX→Nat
  | some (.r0 x)=>x
  | _=>0
theorem X4{x:Option jX}(h:va x=true) :x=some (.r0 (wJ x)):=by
  unfold va at h
  split at h<;>first | rfl | (cases h;done) | (rename_i y;cases y;rfl)
noncomputable def K3:aK:=cy Ke (.cons (.int .u64) .nil) fun t=>(fun q=>[⟨DI (.r0 (wJ q)),[va q]⟩]) (nF t.1)
theorem Q0:aY prog K3:=ba fun t=>(aZ (fun h=>X3 t.1 (X4 h)) bj)
noncomputable def K4:List aK:=K3::I4
theorem wK:aW prog (aT K4):=aF Q0 Cx
inductive lc where
  | r0 (i2:Int)
def RQ:lc→AE×aM
  | .r0 i2=>(.ret,⟨aq 7 [(2,.int .u64 i2)],[],0⟩)
theorem adB:ld RQ:=by intro x;cases x<;>(intro h;cases h)
def I6:lc→ib
  | .r0 i2=>⟨.int .u64 i2,[]⟩
def adC(w_0:Int)(b1:Bool) :aM:=⟨aq 7 [(0,.int .u64 w_0),(5,.bool false b1)],[],0⟩
def Gd(w_0:Int) :T ((Bool)⊕(lc)) :=
  .need (va (nF w_0))<|.leaf (.inl ((((wJ (nF w_0)):Nat):Int)==(5:Int)))
def adD(w_0:Int)(b1:Bool) :T ((Empty)⊕(lc)) :=
  .ask b1
    (.leaf (.inr (.r0 (9221120237041090560:Int))))
    (.leaf (.inr (.r0 w_0)))
noncomputable def jY(w_0:Int) :Option lc:=lG (aL ((Gd w_0).run) fun b1 =>
  (adD w_0 b1).run)
theorem adE(w_0:Int){x:lc}(h:jY w_0=some x) :aB prog xz [] [.int .u64 w_0] (I6 x) :=
  mo false I6 RQ h (Sg.cut 2 adB (aV wK (adC w_0) [⟨[],[],[0,5]⟩]) (fun b1=>aV wK lx [⟨[],[],[2]⟩,⟨[],[],[2]⟩]))
    (fun x=>by cases x with | r0 i2=>exact ly [.int .u64 i2])
def pW:Option lc→Bool
  | some _=>true
  | none=>false
def lY:Option lc→Int
  | some (.r0 x)=>x
  | _=>0
theorem adF{x:Option lc}(h:pW x=true) :x=some (.r0 (lY x)):=by
  unfold pW at h
  split at h<;>first | rfl | (cases h;done) | (rename_i y;cases y;rfl)
noncomputable def RR:aK:=cy xz (.cons (.int .u64) .nil) fun t=>(fun q=>[⟨I6 (.r0 (lY q)),[pW q]⟩]) (jY t.1)
theorem X5:aY prog RR:=ba fun t=>(aZ (fun h=>adE t.1 (adF h)) bj)
noncomputable def RS:List aK:=RR::K4
theorem pc:aW prog (aT RS):=aF X5 wK
inductive cX where
  | r0 (b2:Bool)
def mI:cX→AE×aM
  | .r0 b2=>(.ret,⟨aq 28 [(4,.bool false b2)],[],0⟩)
theorem lC:ld mI:=by intro x;cases x<;>(intro h;cases h)
theorem JW(id:Nat) :ko id mI:=by intro x;cases x<;>(intro h;cases h)
def rY:cX→ib
  | .r0 b2=>⟨.bool false b2,[]⟩
noncomputable def JX:List Code:=cg (kB ry)
def JY(v_0:Lv)(a_1:List Nat)(v_2:Lv)(b_3:List Nat)(_:Unit) :aM:=⟨aq 28 [(0,.imm v_0 (.fl a_1) 1 1 0 (List.length a_1)),(1,.imm v_2 (.fl b_3) 1 1 0 (List.length b_3)),(5,.int .i64 (0:Int))],[],0⟩
def JZ(a_1:List Nat)(b_3:List Nat) :T ((Unit)⊕(cX)) :=
  .ask ((((List.length a_1):Nat):Int) != (((List.length b_3):Nat):Int))
    (.leaf (.inr (.r0 false)))
    (.leaf (.inl ()))
def lD(v_0:Lv)(a_1:List Nat)(v_2:Lv)(b_3:List Nat)(i1:Nat) :aM:=⟨aq 28 [(0,.imm v_0 (.fl a_1) 1 1 0 (List.length a_1)),(1,.imm v_2 (.fl b_3) 1 1 0 (List.length b_3)),(5,.int .i64 ((i1:Nat):Int))],[],0⟩
def zB(_:Unit) :aM:=⟨aq 28 [],[],0⟩
noncomputable def I7:List Code:=cg (cw ((((JX.drop 4).take 1)).headD .skip))
def J0(v_0:Lv)(a_1:List Nat)(v_2:Lv)(b_3:List Nat)(i1:Nat)(_:Unit) :aM:=⟨aq 28 [(0,.imm v_0 (.fl a_1) 1 1 0 (List.length a_1)),(1,.imm v_2 (.fl b_3) 1 1 0 (List.length b_3)),(5,.int .i64 ((i1:Nat):Int))],[],0⟩
def yl(a_1 : List Nat)(b_3 : List Nat)(i1 : Nat) : T ((Unit) ⊕ ((Unit) ⊕ (cX))) :=
  .ask (decide (((i1:Nat):Int)<(((List.length a_1):Nat):Int)))
    (.need (fi ((i1:Nat):Int) (List.length a_1))<|.need (eS i1 (List.length a_1))<|.alt 0
      (.need (!isNaN (List.getD a_1 i1 0))<|.need (pW (jY (((List.getD a_1 i1 0):Nat):Int)))<|.need (fi ((i1:Nat):Int) (List.length b_3))<|.need (eS i1 (List.length b_3))<|.alt 0
        (.need (!isNaN (List.getD b_3 i1 0))<|.need (pW (jY (((List.getD b_3 i1 0):Nat):Int)))<|.ask ((lY (jY (((List.getD a_1 i1 0):Nat):Int))) != (lY (jY (((List.getD b_3 i1 0):Nat):Int))))
          (.leaf (.inr (.inr (.r0 false))))
          (.leaf (.inl ())))
        (.alt 1
          (.need (isNaN (List.getD b_3 i1 0))<|.ask ((lY (jY (((List.getD a_1 i1 0):Nat):Int))) != (9221120237041090560:Int))
            (.leaf (.inr (.inr (.r0 false))))
            (.leaf (.inl ())))
          (.fail)))
      (.alt 1
        (.need (isNaN (List.getD a_1 i1 0))<|.need (fi ((i1:Nat):Int) (List.length b_3))<|.need (eS i1 (List.length b_3))<|.alt 0
          (.need (!isNaN (List.getD b_3 i1 0))<|.need (pW (jY (((List.getD b_3 i1 0):Nat):Int)))<|.ask ((9221120237041090560:Int) != (lY (jY (((List.getD b_3 i1 0):Nat):Int))))
            (.leaf (.inr (.inr (.r0 false))))
            (.leaf (.inl ())))
          (.alt 1
            (.need (isNaN (List.getD b_3 i1 0))<|.ask ((9221120237041090560:Int) != (9221120237041090560:Int))
              (.fail)
              (.leaf (.inl ())))
            (.fail)))
        (.fail)))
    (.leaf (.inr (.inl ())))
def I8(i1:Nat) :T ((Nat)⊕((Unit)⊕(cX))) :=
  .need (cK .i64 (((i1+1):Nat):Int))<|.leaf (.inl (i1+1))
noncomputable def pd(a_1:List Nat)(b_3:List Nat) :Nat→Option ((Nat)⊕((Unit)⊕(cX))):=fun i1 =>
  aL ((yl a_1 b_3 i1).run) fun _ =>
  (I8 i1).run
theorem I9(v_0:Lv)(a_1:List Nat)(v_2:Lv)(b_3:List Nat)(i1:Nat) :Sg prog [] I7 (lD v_0 a_1 v_2 b_3 i1) (pd a_1 b_3 i1) (lD v_0 a_1 v_2 b_3) (bS 0 zB mI):=by
  unfold pd;exact Sg.cut 3 (aD lC) (aV pc (J0 v_0 a_1 v_2 b_3 i1) [⟨[],[],[4]⟩,⟨[],[],[0,1,5]⟩,⟨[],[],[4]⟩,⟨[],[],[0,1,5]⟩,⟨[],[],[4]⟩,⟨[],[],[0,1,5]⟩,⟨[],[],[0,1,5]⟩,⟨[],[],[]⟩]) (fun _=>aV pc (lD v_0 a_1 v_2 b_3) [⟨[],[],[0,1,5]⟩])
def Ja:T ((Empty)⊕(cX)) :=
  .leaf (.inr (.r0 true))
noncomputable def gd(a_1:List Nat)(b_3:List Nat) :Option cX:=lG (aL ((JZ a_1 b_3).run) fun _ =>
  aL (ch (pd a_1 b_3) 0) fun _ =>
  (Ja).run)
theorem J1(v_0:Lv)(a_1:List Nat)(v_2:Lv)(b_3:List Nat){x:cX}(h:gd a_1 b_3=some x) :aB prog ry [] [.imm v_0 (.fl a_1) 1 1 0 (List.length a_1),.imm v_2 (.fl b_3) 1 1 0 (List.length b_3)] (rY x) :=
  mo false rY mI h (Sg.cut 4 lC (aV pc (JY v_0 a_1 v_2 b_3) [⟨[],[],[4]⟩,⟨[],[],[0,1,5]⟩]) (fun _=>Sg.cut 1 lC (vg ⟨[],[],[0,1,5]⟩ (lD v_0 a_1 v_2 b_3) (zB) 0 lC (JW _) (fun i1=>I9 v_0 a_1 v_2 b_3 i1)) (fun _=>aV pc lx [⟨[],[],[4]⟩])))
    (fun x=>by cases x with | r0 b2=>exact ly [.bool false b2])
def jF:Option cX→Bool
  | some _=>true
  | none=>false
def kz:Option cX→Bool
  | some (.r0 x)=>x
  | _=>false
theorem J2{x:Option cX}(h:jF x=true) :x=some (.r0 (kz x)):=by
  unfold jF at h
  split at h<;>first | rfl | (cases h;done) | (rename_i y;cases y;rfl)
noncomputable def By:aK:=cy ry (.cons .fl (.cons .fl .nil)) fun t=>(fun q=>[⟨rY (.r0 (kz q)),[jF q]⟩]) (gd t.1.2 t.2.1.2)
theorem HA:aY prog By:=ba fun t=>(aZ (fun h=>J1 t.1.1 t.1.2 t.2.1.1 t.2.1.2 (J2 h)) bj)
noncomputable def Bz:List aK:=By::RS
theorem eu:aW prog (aT Bz):=aF HA pc
inductive bW where
  | r0 (b23:Bool)
def vb:bW→AE×aM
  | .r0 b23=>(.ret,⟨aq 94 [(6,.bool false b23)],[],0⟩)
theorem gp:ld vb:=by intro x;cases x<;>(intro h;cases h)
def mJ:bW→ib
  | .r0 b23=>⟨.bool false b23,[]⟩
def Es(m_0:Int)(n_1:Int)(v_2:Lv)(l_3:List Int) :Int×Nat×Nat×Nat×Nat×Nat×(List Nat)×(List Nat)→aM:=fun (p1,c2,a3,a4,a5,a6,l7,l8)=>⟨aq 94 [(0,.int .i64 m_0),(1,.int .i64 n_1),(2,.imm v_2 (.ns .u64 l_3) 1 1 0 (List.length l_3)),(7,.ptr 0 1 0 0),(8,.int .i64 p1),(9,.int .i64 ((c2:Nat):Int))],[(0,.vs [.sl 1 1 1 0 a3 a4,.sl 2 1 1 0 a5 a6]),(1,.fl l7),(2,.fl l8)],3⟩
def jy(m_0:Int)(n_1:Int)(l_3:List Int) :T ((Int×Nat×Nat×Nat×Nat×Nat×(List Nat)×(List Nat))⊕(bW)) :=
  .ask (decide ((((List.length l_3):Nat):Int)>(100:Int)))
    (.leaf (.inr (.r0 true)))
    (.need (bL 0 (List.length l_3) l_3)<|.need (og (cE m_0 n_1 (an 0 (List.length l_3) l_3)))<|.leaf (.inl ((qb (cE m_0 n_1 (an 0 (List.length l_3) l_3))),(qc (cE m_0 n_1 (an 0 (List.length l_3) l_3))),(qd (cE m_0 n_1 (an 0 (List.length l_3) l_3))),(qe (cE m_0 n_1 (an 0 (List.length l_3) l_3))),(qf (cE m_0 n_1 (an 0 (List.length l_3) l_3))),(qg (cE m_0 n_1 (an 0 (List.length l_3) l_3))),(qh (cE m_0 n_1 (an 0 (List.length l_3) l_3))),(qi (cE m_0 n_1 (an 0 (List.length l_3) l_3))))))
def Et(m_0:Int)(n_1:Int)(v_2:Lv)(l_3:List Int)(p1:Int)(c2:Nat)(a3:Nat)(a4:Nat)(a5:Nat)(a6:Nat)(l7:List Nat)(l8:List Nat)(no9:Nat) :aM:=⟨aq 94 [(0,.int .i64 m_0),(1,.int .i64 n_1),(2,.imm v_2 (.ns .u64 l_3) 1 1 0 (List.length l_3)),(7,.ptr 0 1 0 0),(8,.int .i64 p1),(9,.int .i64 ((c2:Nat):Int)),(10,.int .i64 ((no9:Nat):Int))],[(0,.vs [.sl 1 1 1 0 a3 a4,.sl 2 1 1 0 a5 a6]),(1,.fl l7),(2,.fl l8)],3⟩
def lZ(m_0:Int)(n_1:Int)(l_3:List Int) :T ((Nat)⊕(bW)) :=
  .need (bL 0 (List.length l_3) l_3)<|.need (xk (kY m_0 n_1 (an 0 (List.length l_3) l_3)))<|.leaf (.inl (zc (kY m_0 n_1 (an 0 (List.length l_3) l_3))))
def Eu(p1:Int)(c2:Nat)(a3:Nat)(a4:Nat)(a5:Nat)(a6:Nat)(l7:List Nat)(l8:List Nat) :Int×Int×Int×Nat×Nat×(List Nat)→aM:=fun (q10,i11,i12,a13,a14,l15)=>⟨aq 94 [(7,.ptr 0 1 0 0),(8,.int .i64 p1),(9,.int .i64 ((c2:Nat):Int)),(11,.ptr 1 1 0 0),(13,.int .i64 q10)],[(0,.vs [.sl 2 1 1 0 a3 a4,.sl 3 1 1 0 a5 a6]),(1,.vs [.int .i64 i11,.int .i64 i12,.sl 4 1 1 0 a13 a14]),(2,.fl l7),(3,.fl l8),(4,.fl l15)],5⟩
def gq(m_0:Int)(n_1:Int)(l_3:List Int)(p1:Int)(c2:Nat)(a3:Nat)(a5:Nat)(no9:Nat) :T ((Int×Int×Int×Nat×Nat×(List Nat))⊕(bW)) :=
  .ask (((no9:Nat):Int) != (0:Int))
    (.ask (((c2:Nat):Int)==((no9:Nat):Int))
      (.ask (p1==(0:Int))
        (.need (cK .i64 (((a3+a5):Nat):Int))<|.ask ((((a3+a5):Nat):Int)==(0:Int))
          (.leaf (.inr (.r0 true)))
          (.leaf (.inr (.r0 false))))
        (.leaf (.inr (.r0 false))))
      (.leaf (.inr (.r0 false))))
    (.need (bL 0 (List.length l_3) l_3)<|.need (qR (ab m_0 n_1 (an 0 (List.length l_3) l_3)))<|.need (bL 0 (ax (ab m_0 n_1 (an 0 (List.length l_3) l_3))) (ay (ab m_0 n_1 (an 0 (List.length l_3) l_3))))<|.need (uE (bc (an 0 (ax (ab m_0 n_1 (an 0 (List.length l_3) l_3))) (ay (ab m_0 n_1 (an 0 (List.length l_3) l_3))))))<|.need (cK .i64 ((0:Int)-(aP (bc (an 0 (ax (ab m_0 n_1 (an 0 (List.length l_3) l_3))) (ay (ab m_0 n_1 (an 0 (List.length l_3) l_3))))))))<|.need (bL 0 (ax (ab m_0 n_1 (an 0 (List.length l_3) l_3))) (ay (ab m_0 n_1 (an 0 (List.length l_3) l_3))))<|.need (ra (be (aN (ab m_0 n_1 (an 0 (List.length l_3) l_3))) (aO (ab m_0 n_1 (an 0 (List.length l_3) l_3))) (an 0 (ax (ab m_0 n_1 (an 0 (List.length l_3) l_3))) (ay (ab m_0 n_1 (an 0 (List.length l_3) l_3)))) ((0:Int)-(aP (bc (an 0 (ax (ab m_0 n_1 (an 0 (List.length l_3) l_3))) (ay (ab m_0 n_1 (an 0 (List.length l_3) l_3)))))))))<|.ask (decide ((aN (ab m_0 n_1 (an 0 (List.length l_3) l_3)))<(aO (ab m_0 n_1 (an 0 (List.length l_3) l_3)))))
      (.need (bL 0 (dt (be (aN (ab m_0 n_1 (an 0 (List.length l_3) l_3))) (aO (ab m_0 n_1 (an 0 (List.length l_3) l_3))) (an 0 (ax (ab m_0 n_1 (an 0 (List.length l_3) l_3))) (ay (ab m_0 n_1 (an 0 (List.length l_3) l_3)))) ((0:Int)-(aP (bc (an 0 (ax (ab m_0 n_1 (an 0 (List.length l_3) l_3))) (ay (ab m_0 n_1 (an 0 (List.length l_3) l_3))))))))) (du (be (aN (ab m_0 n_1 (an 0 (List.length l_3) l_3))) (aO (ab m_0 n_1 (an 0 (List.length l_3) l_3))) (an 0 (ax (ab m_0 n_1 (an 0 (List.length l_3) l_3))) (ay (ab m_0 n_1 (an 0 (List.length l_3) l_3)))) ((0:Int)-(aP (bc (an 0 (ax (ab m_0 n_1 (an 0 (List.length l_3) l_3))) (ay (ab m_0 n_1 (an 0 (List.length l_3) l_3))))))))))<|.need (rb (hJ (dP (be (aN (ab m_0 n_1 (an 0 (List.length l_3) l_3))) (aO (ab m_0 n_1 (an 0 (List.length l_3) l_3))) (an 0 (ax (ab m_0 n_1 (an 0 (List.length l_3) l_3))) (ay (ab m_0 n_1 (an 0 (List.length l_3) l_3)))) ((0:Int)-(aP (bc (an 0 (ax (ab m_0 n_1 (an 0 (List.length l_3) l_3))) (ay (ab m_0 n_1 (an 0 (List.length l_3) l_3))))))))) (dQ (be (aN (ab m_0 n_1 (an 0 (List.length l_3) l_3))) (aO (ab m_0 n_1 (an 0 (List.length l_3) l_3))) (an 0 (ax (ab m_0 n_1 (an 0 (List.length l_3) l_3))) (ay (ab m_0 n_1 (an 0 (List.length l_3) l_3)))) ((0:Int)-(aP (bc (an 0 (ax (ab m_0 n_1 (an 0 (List.length l_3) l_3))) (ay (ab m_0 n_1 (an 0 (List.length l_3) l_3))))))))) (an 0 (dt (be (aN (ab m_0 n_1 (an 0 (List.length l_3) l_3))) (aO (ab m_0 n_1 (an 0 (List.length l_3) l_3))) (an 0 (ax (ab m_0 n_1 (an 0 (List.length l_3) l_3))) (ay (ab m_0 n_1 (an 0 (List.length l_3) l_3)))) ((0:Int)-(aP (bc (an 0 (ax (ab m_0 n_1 (an 0 (List.length l_3) l_3))) (ay (ab m_0 n_1 (an 0 (List.length l_3) l_3))))))))) (du (be (aN (ab m_0 n_1 (an 0 (List.length l_3) l_3))) (aO (ab m_0 n_1 (an 0 (List.length l_3) l_3))) (an 0 (ax (ab m_0 n_1 (an 0 (List.length l_3) l_3))) (ay (ab m_0 n_1 (an 0 (List.length l_3) l_3)))) ((0:Int)-(aP (bc (an 0 (ax (ab m_0 n_1 (an 0 (List.length l_3) l_3))) (ay (ab m_0 n_1 (an 0 (List.length l_3) l_3))))))))))))<|.leaf (.inl ((aP (bc (an 0 (ax (ab m_0 n_1 (an 0 (List.length l_3) l_3))) (ay (ab m_0 n_1 (an 0 (List.length l_3) l_3)))))),(uJ (hJ (dP (be (aN (ab m_0 n_1 (an 0 (List.length l_3) l_3))) (aO (ab m_0 n_1 (an 0 (List.length l_3) l_3))) (an 0 (ax (ab m_0 n_1 (an 0 (List.length l_3) l_3))) (ay (ab m_0 n_1 (an 0 (List.length l_3) l_3)))) ((0:Int)-(aP (bc (an 0 (ax (ab m_0 n_1 (an 0 (List.length l_3) l_3))) (ay (ab m_0 n_1 (an 0 (List.length l_3) l_3))))))))) (dQ (be (aN (ab m_0 n_1 (an 0 (List.length l_3) l_3))) (aO (ab m_0 n_1 (an 0 (List.length l_3) l_3))) (an 0 (ax (ab m_0 n_1 (an 0 (List.length l_3) l_3))) (ay (ab m_0 n_1 (an 0 (List.length l_3) l_3)))) ((0:Int)-(aP (bc (an 0 (ax (ab m_0 n_1 (an 0 (List.length l_3) l_3))) (ay (ab m_0 n_1 (an 0 (List.length l_3) l_3))))))))) (an 0 (dt (be (aN (ab m_0 n_1 (an 0 (List.length l_3) l_3))) (aO (ab m_0 n_1 (an 0 (List.length l_3) l_3))) (an 0 (ax (ab m_0 n_1 (an 0 (List.length l_3) l_3))) (ay (ab m_0 n_1 (an 0 (List.length l_3) l_3)))) ((0:Int)-(aP (bc (an 0 (ax (ab m_0 n_1 (an 0 (List.length l_3) l_3))) (ay (ab m_0 n_1 (an 0 (List.length l_3) l_3))))))))) (du (be (aN (ab m_0 n_1 (an 0 (List.length l_3) l_3))) (aO (ab m_0 n_1 (an 0 (List.length l_3) l_3))) (an 0 (ax (ab m_0 n_1 (an 0 (List.length l_3) l_3))) (ay (ab m_0 n_1 (an 0 (List.length l_3) l_3)))) ((0:Int)-(aP (bc (an 0 (ax (ab m_0 n_1 (an 0 (List.length l_3) l_3))) (ay (ab m_0 n_1 (an 0 (List.length l_3) l_3)))))))))))),(uK (hJ (dP (be (aN (ab m_0 n_1 (an 0 (List.length l_3) l_3))) (aO (ab m_0 n_1 (an 0 (List.length l_3) l_3))) (an 0 (ax (ab m_0 n_1 (an 0 (List.length l_3) l_3))) (ay (ab m_0 n_1 (an 0 (List.length l_3) l_3)))) ((0:Int)-(aP (bc (an 0 (ax (ab m_0 n_1 (an 0 (List.length l_3) l_3))) (ay (ab m_0 n_1 (an 0 (List.length l_3) l_3))))))))) (dQ (be (aN (ab m_0 n_1 (an 0 (List.length l_3) l_3))) (aO (ab m_0 n_1 (an 0 (List.length l_3) l_3))) (an 0 (ax (ab m_0 n_1 (an 0 (List.length l_3) l_3))) (ay (ab m_0 n_1 (an 0 (List.length l_3) l_3)))) ((0:Int)-(aP (bc (an 0 (ax (ab m_0 n_1 (an 0 (List.length l_3) l_3))) (ay (ab m_0 n_1 (an 0 (List.length l_3) l_3))))))))) (an 0 (dt (be (aN (ab m_0 n_1 (an 0 (List.length l_3) l_3))) (aO (ab m_0 n_1 (an 0 (List.length l_3) l_3))) (an 0 (ax (ab m_0 n_1 (an 0 (List.length l_3) l_3))) (ay (ab m_0 n_1 (an 0 (List.length l_3) l_3)))) ((0:Int)-(aP (bc (an 0 (ax (ab m_0 n_1 (an 0 (List.length l_3) l_3))) (ay (ab m_0 n_1 (an 0 (List.length l_3) l_3))))))))) (du (be (aN (ab m_0 n_1 (an 0 (List.length l_3) l_3))) (aO (ab m_0 n_1 (an 0 (List.length l_3) l_3))) (an 0 (ax (ab m_0 n_1 (an 0 (List.length l_3) l_3))) (ay (ab m_0 n_1 (an 0 (List.length l_3) l_3)))) ((0:Int)-(aP (bc (an 0 (ax (ab m_0 n_1 (an 0 (List.length l_3) l_3))) (ay (ab m_0 n_1 (an 0 (List.length l_3) l_3)))))))))))),(oh (hJ (dP (be (aN (ab m_0 n_1 (an 0 (List.length l_3) l_3))) (aO (ab m_0 n_1 (an 0 (List.length l_3) l_3))) (an 0 (ax (ab m_0 n_1 (an 0 (List.length l_3) l_3))) (ay (ab m_0 n_1 (an 0 (List.length l_3) l_3)))) ((0:Int)-(aP (bc (an 0 (ax (ab m_0 n_1 (an 0 (List.length l_3) l_3))) (ay (ab m_0 n_1 (an 0 (List.length l_3) l_3))))))))) (dQ (be (aN (ab m_0 n_1 (an 0 (List.length l_3) l_3))) (aO (ab m_0 n_1 (an 0 (List.length l_3) l_3))) (an 0 (ax (ab m_0 n_1 (an 0 (List.length l_3) l_3))) (ay (ab m_0 n_1 (an 0 (List.length l_3) l_3)))) ((0:Int)-(aP (bc (an 0 (ax (ab m_0 n_1 (an 0 (List.length l_3) l_3))) (ay (ab m_0 n_1 (an 0 (List.length l_3) l_3))))))))) (an 0 (dt (be (aN (ab m_0 n_1 (an 0 (List.length l_3) l_3))) (aO (ab m_0 n_1 (an 0 (List.length l_3) l_3))) (an 0 (ax (ab m_0 n_1 (an 0 (List.length l_3) l_3))) (ay (ab m_0 n_1 (an 0 (List.length l_3) l_3)))) ((0:Int)-(aP (bc (an 0 (ax (ab m_0 n_1 (an 0 (List.length l_3) l_3))) (ay (ab m_0 n_1 (an 0 (List.length l_3) l_3))))))))) (du (be (aN (ab m_0 n_1 (an 0 (List.length l_3) l_3))) (aO (ab m_0 n_1 (an 0 (List.length l_3) l_3))) (an 0 (ax (ab m_0 n_1 (an 0 (List.length l_3) l_3))) (ay (ab m_0 n_1 (an 0 (List.length l_3) l_3)))) ((0:Int)-(aP (bc (an 0 (ax (ab m_0 n_1 (an 0 (List.length l_3) l_3))) (ay (ab m_0 n_1 (an 0 (List.length l_3) l_3)))))))))))),(oh (hJ (dP (be (aN (ab m_0 n_1 (an 0 (List.length l_3) l_3))) (aO (ab m_0 n_1 (an 0 (List.length l_3) l_3))) (an 0 (ax (ab m_0 n_1 (an 0 (List.length l_3) l_3))) (ay (ab m_0 n_1 (an 0 (List.length l_3) l_3)))) ((0:Int)-(aP (bc (an 0 (ax (ab m_0 n_1 (an 0 (List.length l_3) l_3))) (ay (ab m_0 n_1 (an 0 (List.length l_3) l_3))))))))) (dQ (be (aN (ab m_0 n_1 (an 0 (List.length l_3) l_3))) (aO (ab m_0 n_1 (an 0 (List.length l_3) l_3))) (an 0 (ax (ab m_0 n_1 (an 0 (List.length l_3) l_3))) (ay (ab m_0 n_1 (an 0 (List.length l_3) l_3)))) ((0:Int)-(aP (bc (an 0 (ax (ab m_0 n_1 (an 0 (List.length l_3) l_3))) (ay (ab m_0 n_1 (an 0 (List.length l_3) l_3))))))))) (an 0 (dt (be (aN (ab m_0 n_1 (an 0 (List.length l_3) l_3))) (aO (ab m_0 n_1 (an 0 (List.length l_3) l_3))) (an 0 (ax (ab m_0 n_1 (an 0 (List.length l_3) l_3))) (ay (ab m_0 n_1 (an 0 (List.length l_3) l_3)))) ((0:Int)-(aP (bc (an 0 (ax (ab m_0 n_1 (an 0 (List.length l_3) l_3))) (ay (ab m_0 n_1 (an 0 (List.length l_3) l_3))))))))) (du (be (aN (ab m_0 n_1 (an 0 (List.length l_3) l_3))) (aO (ab m_0 n_1 (an 0 (List.length l_3) l_3))) (an 0 (ax (ab m_0 n_1 (an 0 (List.length l_3) l_3))) (ay (ab m_0 n_1 (an 0 (List.length l_3) l_3)))) ((0:Int)-(aP (bc (an 0 (ax (ab m_0 n_1 (an 0 (List.length l_3) l_3))) (ay (ab m_0 n_1 (an 0 (List.length l_3) l_3)))))))))))),(uL (hJ (dP (be (aN (ab m_0 n_1 (an 0 (List.length l_3) l_3))) (aO (ab m_0 n_1 (an 0 (List.length l_3) l_3))) (an 0 (ax (ab m_0 n_1 (an 0 (List.length l_3) l_3))) (ay (ab m_0 n_1 (an 0 (List.length l_3) l_3)))) ((0:Int)-(aP (bc (an 0 (ax (ab m_0 n_1 (an 0 (List.length l_3) l_3))) (ay (ab m_0 n_1 (an 0 (List.length l_3) l_3))))))))) (dQ (be (aN (ab m_0 n_1 (an 0 (List.length l_3) l_3))) (aO (ab m_0 n_1 (an 0 (List.length l_3) l_3))) (an 0 (ax (ab m_0 n_1 (an 0 (List.length l_3) l_3))) (ay (ab m_0 n_1 (an 0 (List.length l_3) l_3)))) ((0:Int)-(aP (bc (an 0 (ax (ab m_0 n_1 (an 0 (List.length l_3) l_3))) (ay (ab m_0 n_1 (an 0 (List.length l_3) l_3))))))))) (an 0 (dt (be (aN (ab m_0 n_1 (an 0 (List.length l_3) l_3))) (aO (ab m_0 n_1 (an 0 (List.length l_3) l_3))) (an 0 (ax (ab m_0 n_1 (an 0 (List.length l_3) l_3))) (ay (ab m_0 n_1 (an 0 (List.length l_3) l_3)))) ((0:Int)-(aP (bc (an 0 (ax (ab m_0 n_1 (an 0 (List.length l_3) l_3))) (ay (ab m_0 n_1 (an 0 (List.length l_3) l_3))))))))) (du (be (aN (ab m_0 n_1 (an 0 (List.length l_3) l_3))) (aO (ab m_0 n_1 (an 0 (List.length l_3) l_3))) (an 0 (ax (ab m_0 n_1 (an 0 (List.length l_3) l_3))) (ay (ab m_0 n_1 (an 0 (List.length l_3) l_3)))) ((0:Int)-(aP (bc (an 0 (ax (ab m_0 n_1 (an 0 (List.length l_3) l_3))) (ay (ab m_0 n_1 (an 0 (List.length l_3) l_3)))))))))))))))
      (.leaf (.inl ((aP (bc (an 0 (ax (ab m_0 n_1 (an 0 (List.length l_3) l_3))) (ay (ab m_0 n_1 (an 0 (List.length l_3) l_3)))))),(dP (be (aN (ab m_0 n_1 (an 0 (List.length l_3) l_3))) (aO (ab m_0 n_1 (an 0 (List.length l_3) l_3))) (an 0 (ax (ab m_0 n_1 (an 0 (List.length l_3) l_3))) (ay (ab m_0 n_1 (an 0 (List.length l_3) l_3)))) ((0:Int)-(aP (bc (an 0 (ax (ab m_0 n_1 (an 0 (List.length l_3) l_3))) (ay (ab m_0 n_1 (an 0 (List.length l_3) l_3))))))))),(dQ (be (aN (ab m_0 n_1 (an 0 (List.length l_3) l_3))) (aO (ab m_0 n_1 (an 0 (List.length l_3) l_3))) (an 0 (ax (ab m_0 n_1 (an 0 (List.length l_3) l_3))) (ay (ab m_0 n_1 (an 0 (List.length l_3) l_3)))) ((0:Int)-(aP (bc (an 0 (ax (ab m_0 n_1 (an 0 (List.length l_3) l_3))) (ay (ab m_0 n_1 (an 0 (List.length l_3) l_3))))))))),(dt (be (aN (ab m_0 n_1 (an 0 (List.length l_3) l_3))) (aO (ab m_0 n_1 (an 0 (List.length l_3) l_3))) (an 0 (ax (ab m_0 n_1 (an 0 (List.length l_3) l_3))) (ay (ab m_0 n_1 (an 0 (List.length l_3) l_3)))) ((0:Int)-(aP (bc (an 0 (ax (ab m_0 n_1 (an 0 (List.length l_3) l_3))) (ay (ab m_0 n_1 (an 0 (List.length l_3) l_3))))))))),(uI (be (aN (ab m_0 n_1 (an 0 (List.length l_3) l_3))) (aO (ab m_0 n_1 (an 0 (List.length l_3) l_3))) (an 0 (ax (ab m_0 n_1 (an 0 (List.length l_3) l_3))) (ay (ab m_0 n_1 (an 0 (List.length l_3) l_3)))) ((0:Int)-(aP (bc (an 0 (ax (ab m_0 n_1 (an 0 (List.length l_3) l_3))) (ay (ab m_0 n_1 (an 0 (List.length l_3) l_3))))))))),(du (be (aN (ab m_0 n_1 (an 0 (List.length l_3) l_3))) (aO (ab m_0 n_1 (an 0 (List.length l_3) l_3))) (an 0 (ax (ab m_0 n_1 (an 0 (List.length l_3) l_3))) (ay (ab m_0 n_1 (an 0 (List.length l_3) l_3)))) ((0:Int)-(aP (bc (an 0 (ax (ab m_0 n_1 (an 0 (List.length l_3) l_3))) (ay (ab m_0 n_1 (an 0 (List.length l_3) l_3)))))))))))))
def Ev(p1:Int)(c2:Nat)(a3:Nat)(a4:Nat)(a5:Nat)(a6:Nat)(l7:List Nat)(l8:List Nat)(q10:Int) :Nat×Nat×Nat×Nat×(List Nat)×(List Nat)→aM:=fun (a16,a17,a18,a19,l20,l21)=>⟨aq 94 [(7,.ptr 0 1 0 0),(8,.int .i64 p1),(9,.int .i64 ((c2:Nat):Int)),(13,.int .i64 q10),(14,.ptr 1 1 0 0)],[(0,.vs [.sl 2 1 1 0 a3 a4,.sl 3 1 1 0 a5 a6]),(1,.vs [.sl 4 1 1 0 a16 a17,.sl 5 1 1 0 a18 a19]),(2,.fl l7),(3,.fl l8),(4,.fl l20),(5,.fl l21)],6⟩
def fK(i11:Int)(i12:Int)(a13:Nat)(l15:List Nat) :T ((Nat×Nat×Nat×Nat×(List Nat)×(List Nat))⊕(bW)) :=
  .need (bL 0 a13 l15)<|.need (ru (fJ i11 i12 (an 0 a13 l15)))<|.leaf (.inl ((uW (fJ i11 i12 (an 0 a13 l15))),(uX (fJ i11 i12 (an 0 a13 l15))),(uY (fJ i11 i12 (an 0 a13 l15))),(uZ (fJ i11 i12 (an 0 a13 l15))),(rW (fJ i11 i12 (an 0 a13 l15))),(rX (fJ i11 i12 (an 0 a13 l15)))))
def Ew(b22:Bool) :aM:=⟨aq 94 [(6,.bool false b22)],[],0⟩
def lr(p1:Int)(c2:Nat)(a3:Nat)(a5:Nat)(l7:List Nat)(l8:List Nat)(q10:Int)(a16:Nat)(a18:Nat)(l20:List Nat)(l21:List Nat) :T ((Bool)⊕(bW)) :=
  .ask (((c2:Nat):Int)==(0:Int))
    (.ask (p1==q10)
      (.need (bL 0 a3 l7)<|.need (bL 0 a16 l20)<|.need (jF (gd (an 0 a3 l7) (an 0 a16 l20)))<|.ask (kz (gd (an 0 a3 l7) (an 0 a16 l20)))
        (.need (bL 0 a5 l8)<|.need (bL 0 a18 l21)<|.need (jF (gd (an 0 a5 l8) (an 0 a18 l21)))<|.ask (kz (gd (an 0 a5 l8) (an 0 a18 l21)))
          (.leaf (.inl true))
          (.leaf (.inl false)))
        (.leaf (.inl false)))
      (.leaf (.inl false)))
    (.leaf (.inl false))
def DJ(b22:Bool) :T ((Empty)⊕(bW)) :=
  .leaf (.inr (.r0 b22))
noncomputable def mK(m_0:Int)(n_1:Int)(l_3:List Int) :Option bW:=lG (aL ((jy m_0 n_1 l_3).run) fun (p1,c2,a3,a4,a5,a6,l7,l8) =>
  aL ((lZ m_0 n_1 l_3).run) fun no9 =>
  aL ((gq m_0 n_1 l_3 p1 c2 a3 a5 no9).run) fun (q10,i11,i12,a13,a14,l15) =>
  aL ((fK i11 i12 a13 l15).run) fun (a16,a17,a18,a19,l20,l21) =>
  aL ((lr p1 c2 a3 a5 l7 l8 q10 a16 a18 l20 l21).run) fun b22 =>
  (DJ b22).run)
theorem sB(m_0:Int)(n_1:Int)(v_2:Lv)(l_3:List Int){x:bW}(h:mK m_0 n_1 l_3=some x) :aB prog mj [] [.int .i64 m_0,.int .i64 n_1,.imm v_2 (.ns .u64 l_3) 1 1 0 (List.length l_3)] (mJ x) :=
  mo false mJ vb h (Sg.cut 4 gp (aV eu (Es m_0 n_1 v_2 l_3) [⟨[],[],[6]⟩,⟨[],[192,112,113],[0,1,2,7,8,9]⟩]) (fun ⟨p1,c2,a3,a4,a5,a6,l7,l8⟩=>Sg.cut 1 gp (aV eu (Et m_0 n_1 v_2 l_3 p1 c2 a3 a4 a5 a6 l7 l8) [⟨[],[0,1,2],[0,1,2,7,8,9,10]⟩]) (fun no9=>Sg.cut 3 gp (aV eu (Eu p1 c2 a3 a4 a5 a6 l7 l8) [⟨[],[],[6]⟩,⟨[],[],[6]⟩,⟨[],[],[6]⟩,⟨[],[],[6]⟩,⟨[],[0,179,1,2,99],[7,8,9,11,13]⟩,⟨[],[0,179,1,2,99],[7,8,9,11,13]⟩]) (fun ⟨q10,i11,i12,a13,a14,l15⟩=>Sg.cut 1 gp (aV eu (Ev p1 c2 a3 a4 a5 a6 l7 l8 q10) [⟨[],[0,101,2,3,21,22],[7,8,9,13,14]⟩]) (fun ⟨a16,a17,a18,a19,l20,l21⟩=>Sg.cut 1 gp (aV eu Ew [⟨[],[],[6]⟩,⟨[],[],[6]⟩,⟨[],[],[6]⟩,⟨[],[],[6]⟩,⟨[],[],[6]⟩]) (fun b22=>aV eu lx [⟨[],[],[6]⟩]))))))
    (fun x=>by cases x with | r0 b23=>exact ly [.bool false b23])
def ma:Option bW→Bool
  | some _=>true
  | none=>false
def pX:Option bW→Bool
  | some (.r0 x)=>x
  | _=>false
theorem Ex{x:Option bW}(h:ma x=true) :x=some (.r0 (pX x)):=by
  unfold ma at h
  split at h<;>first | rfl | (cases h;done) | (rename_i y;cases y;rfl)
noncomputable def vc:aK:=cy mj (.cons (.int .i64) (.cons (.int .i64) (.cons (.ns .u64) .nil))) fun t=>(fun q=>[⟨mJ (.r0 (pX q)),[ma q]⟩]) (mK t.1 t.2.1 t.2.2.1.2)
theorem BH:aY prog vc:=ba fun t=>(aZ (fun h=>sB t.1 t.2.1 t.2.2.1.1 t.2.2.1.2 (Ex h)) bj)
noncomputable def Ge:List aK:=vc::Bz
theorem Yj:aW prog (aT Ge):=aF BH eu
end
end Go.Plb.Seat
namespace Go.Plb
set_option linter.unusedSimpArgs false
set_option linter.unusedVariables false
set_option linter.unusedSectionVars false
variable [Rom]
theorem aE{α:Type}{b:Bool}{t:T α}{x:Option α}(h:b=true)(k:t.run=x) :(T.need b t).run=x:=by subst h;exact k
theorem cV{α:Type}{b:Bool}{t f:T α}{x:Option α}(h:b=true)(k:t.run=x) :(T.ask b t f).run=x:=by subst h;exact k
theorem bY{α:Type}{b:Bool}{t f:T α}{x:Option α}(h:b=false)(k:f.run=x) :(T.ask b t f).run=x:=by subst h;exact k
theorem Mh{α:Type}{k:Nat}{t f:T α}{a:α}(h:t.run=some a) :(T.alt k t f).run=some a:=by simp only [T.run,h]
theorem akc{α:Type}{k:Nat}{t f:T α}{x:Option α}(h:t.run=none)(q:f.run=x) :(T.alt k t f).run=x:=by simp only [T.run,h];exact q
theorem akd{α:Type}{b:Bool}{t:T α}(h:b=false) :(T.need b t).run=none:=by subst h;rfl
theorem aS{α:Type}{b:Bool}{t:T α}{x:Option α}(k:t.run=x)(h:b=true:=by exact rfl) :(T.need b t).run=x:=aE h k
theorem dS{α:Type}{b:Bool}{t f:T α}{x:Option α}(k:t.run=x)(h:b=true:=by exact rfl) :(T.ask b t f).run=x:=cV h k
theorem cu{α:Type}{b:Bool}{t f:T α}{x:Option α}(k:f.run=x)(h:b=false:=by exact rfl) :(T.ask b t f).run=x:=bY h k
theorem aA{α β X:Type}{m:Option (α⊕X)}{k:α→Option (β⊕X)}{a:α}{x:Option (β⊕X)}(h:m=some (.inl a))(q:k a=x) :aL m k=x:=by subst h;exact q
theorem bU{α β X:Type}{m:Option (α⊕X)}{k:α→Option (β⊕X)}{y:X}(h:m=some (.inr y)) :aL m k=some (.inr y):=by subst h;rfl
theorem pf{κ X:Type}{m:Option (κ⊕(κ⊕X))}{a:κ}(h:m=some (.inl a)) :vj m=some (.inl a):=by subst h;rfl
theorem amD{κ X:Type}{m:Option (κ⊕(κ⊕X))}{a:κ}(h:m=some (.inr (.inl a))) :vj m=some (.inl a):=by subst h;rfl
theorem bT{X:Type}{m:Option (Empty⊕X)}{x:X}(h:m=some (.inr x)) :lG m=some x:=by subst h;rfl
theorem amE{σ Y:Type}{B:σ→Option (σ⊕Y)}(st:Nat→σ)(n:Nat){y:Y}(i:Nat)(hi:i≤n)(step:∀ j,i≤j→j<n→B (st j)=some (.inl (st (j+1))))(done:B (st n)=some (.inr y)) :ch B (st i)=some y:=by
  obtain ⟨d,rfl⟩:∃ d,n=i+d:=⟨n-i,by omega⟩
  clear hi
  induction d generalizing i with
  | zero=>exact al8 done
  | succ d ih =>
    rw [anM (step i (Nat.le_refl _) (by omega))]
    have e:i+(d+1)=i+1+d:=by omega
    rw [e] at step done
    exact ih (i+1) (fun j h1 h2=>step j (by omega) h2) done
theorem bH{σ Y:Type}{B:σ→Option (σ⊕Y)}(st:Nat→σ)(n:Nat){y:Y}{s0:σ}(h0:s0=st 0)(step:∀ j,j<n→B (st j)=some (.inl (st (j+1))))(done:B (st n)=some (.inr y)) :ch B s0=some y:=by
  rw [h0];exact amE st n 0 (Nat.zero_le _) (fun j _=>step j) done
theorem ag{n:Int} :cK .i64 n=true↔-9223372036854775808≤n∧n≤9223372036854775807:=by
  have e1:IntKind.i64.min = -9223372036854775808:=by decide
  have e2:IntKind.i64.max=9223372036854775807:=by decide
  simp only [cK,e1,e2,Bool.and_eq_true,decide_eq_true_eq]
theorem au{k:Int}{n:Nat} :fi k n=true↔0≤k∧k<n:=by simp only [fi,Bool.and_eq_true,decide_eq_true_eq]
theorem aw{k:Int}{n:Nat} :CC k n=true↔0≤k∧k≤n:=by simp only [CC,Bool.and_eq_true,decide_eq_true_eq]
theorem aj{k n:Nat} :eS k n=true↔k<n:=by simp [eS]
theorem ah{k n:Nat} :dK k n=true↔k≤n:=by simp [dK]
theorem ak{k n:Nat} :Nat.ble k n=true↔k≤n:=by rw [Nat.ble_eq]
theorem am{k n:Nat} :Nat.blt k n=true↔k<n:=by rw [Nat.blt_eq]
def Z7(f:Nat→Nat) :Nat→Nat
  | 0=>0
  | n+1=>Aq (Z7 f n) (f n)
def ake{α:Type}(pos:Nat→Nat)(val:Nat→α)(l:List α) :Nat→List α
  | 0=>l
  | n+1=>(ake pos val l n).set (pos n) (val n)
theorem ac{α:Type}{pos:Nat→Nat}{val:Nat→α}{l:List α} :∀ {n:Nat},(ake pos val l n).length=l.length
  | 0=>rfl
  | n+1=>by simp only [ake,List.length_set];exact ac
theorem Gf{α:Type}{pos:Nat→Nat}{val:Nat→α}{l:List α}{p:Nat}{d:α} :∀ {n:Nat},(∀ i,i<n→pos i≠p)→(ake pos val l n).getD p d=l.getD p d
  | 0,_=>rfl
  | n+1,h=>by
    have h1:=h n (by omega)
    simp only [ake,List.getD_eq_getElem?_getD,List.getElem?_set,if_neg h1]
    have:=Gf (pos:=pos) (val:=val) (l:=l) (p:=p) (d:=d) (n:=n) (fun i hi=>h i (by omega))
    simpa [List.getD_eq_getElem?_getD] using this
def aa1{α:Type}(f:Nat→α→α)(a:α) :Nat→α
  | 0=>a
  | n+1=>f n (aa1 f a n)
theorem pg{i k r c:Nat}(hi:i<r)(hk:k<c) :i*c+k<r*c:=by
  have:(i+1)*c≤r*c:=Nat.mul_le_mul_right c hi
  rw [Nat.add_mul,Nat.one_mul] at this
  omega
theorem Ug{i k i' k' c:Nat}(hk:k<c)(hk':k'<c)(h:i*c+k=i'*c+k') :i=i'∧k=k':=by
  have hc:0<c:=by omega
  have e1:(i*c+k)/c=i:=by rw [Nat.mul_comm,Nat.mul_add_div hc,Nat.div_eq_of_lt hk,Nat.add_zero]
  have e2:(i'*c+k')/c=i':=by rw [Nat.mul_comm,Nat.mul_add_div hc,Nat.div_eq_of_lt hk',Nat.add_zero]
  have e:i=i':=by rw [←e1,←e2,h]
  subst e
  exact ⟨rfl,by omega⟩
theorem nr{α:Type}(l:List α) :bL 0 l.length l=true:=by rw [ae];omega
theorem jl{α:Type}{b:Bool}{t:T α}{x:Option α}(k:t.run=x)(h:b=true:=by exact nr _) :(T.need b t).run=x:=aE h k
theorem ahi(n:Nat) :dK n n=true:=by rw [ah];exact Nat.le_refl n
structure Idx (e1 e2 e3:Int) (L p:Nat):Prop where
  a:cK .i64 e1=true
  b:cK .i64 e2=true
  c:cK .i64 e3=true
  d:fi e3 L=true
  e:eS (Int.toNat e3) L=true
  f:Int.toNat e3=p
theorem BA{x c k L:Nat}(h:x*c+k<L)(hL:L≤1000000000)(hx:x≤1000000000) :Idx (x:Int) ((x:Int)*(c:Int)) ((x:Int)*(c:Int)+(k:Int)) L (x*c+k):=by
  have e:(x:Int)*(c:Int)=((x*c:Nat):Int):=by rw [Int.natCast_mul]
  rw [e]
  generalize x*c=q at h ⊢
  have e3:((q:Int)+(k:Int)).toNat=q+k:=by omega
  refine ⟨?_,?_,?_,?_,?_,e3⟩
  · rw [ag];omega
  · rw [ag];omega
  · rw [ag];omega
  · rw [au];omega
  · rw [aj];omega
theorem gu{α:Type}{n:Nat}{l:List α}(h:l.length=n) :an 0 n l=l:=by rw [←h];exact dg l
theorem Ey{p:Nat→Prop} [DecidablePred p]:∀ {n:Nat},(¬ ∀ i,i<n→p i)→∃ k,k<n∧¬ p k∧∀ j,j<k→p j
  | 0,h=>(h fun i hi=>absurd hi (Nat.not_lt_zero _)).elim
  | n+1,h=>by
    by_cases q:∀ i,i<n→p i
    · refine ⟨n,Nat.lt_succ_self _,fun r=>h fun i hi=>?_,q⟩
      rcases Nat.lt_succ_iff_lt_or_eq.1 hi with a | rfl
      · exact q i a
      · exact r
    · obtain ⟨k,h1,h2,h3⟩:=Ey q
      exact ⟨k,by omega,h2,h3⟩
theorem aa(n:Nat) :Int.toNat (n:Int)=n:=rfl
def pushF{α:Type}(f:Nat→α) :Nat→List α
  | 0=>[]
  | n+1=>pushF f n++[f n]
theorem pushF_len{α:Type}{f:Nat→α} :∀ {n:Nat},(pushF f n).length=n
  | 0=>rfl
  | n+1=>by simp only [pushF,List.length_append,List.length_singleton,pushF_len (n:=n)]
theorem BB{α:Type}{f:Nat→α}{n:Nat} :(pushF f n).take n=pushF f n:=by
  rw [List.take_of_length_le];rw [pushF_len];exact Nat.le_refl n
theorem amF{α:Type}{f:Nat→α}{n:Nat} :List.take n (pushF f n)++List.take 1 [f n]=pushF f (n+1):=by
  rw [BB];rfl
theorem rZ{α:Type}{f:Nat→α}{n:Nat} :List.take n (pushF f n)++[f n]=pushF f (n+1):=by
  rw [BB];rfl
theorem JJ{α:Type}{f:Nat→α} :∀ {n i:Nat},i<n→(pushF f n)[i]? = some (f i)
  | 0,i,h=>absurd h (Nat.not_lt_zero _)
  | n+1,i,h=>by
    simp only [pushF]
    by_cases e:i=n
    · subst e;rw [List.getElem?_append_right (by rw [pushF_len];exact Nat.le_refl _),pushF_len,Nat.sub_self];rfl
    · rw [List.getElem?_append_left (by rw [pushF_len];omega)];exact JJ (by omega)
theorem pushF_getD{α:Type}{f:Nat→α}{n i:Nat}{d:α}(h:i<n) :(pushF f n).getD i d=f i:=by
  rw [List.getD_eq_getElem?_getD,JJ h];rfl
theorem pushF_congr{α:Type}{f g:Nat→α} :∀ {n:Nat},(∀ i,i<n→f i=g i)→pushF f n=pushF g n
  | 0,_=>rfl
  | n+1,h=>by simp only [pushF];rw [pushF_congr fun i hi=>h i (by omega),h n (by omega)]
theorem aa2{α:Type}{f:Nat→α}{n:Nat}{l:List α}(hl:l.length=n)(h:∀ i,i<n→l[i]? = some (f i)) :l=pushF f n:=by
  apply List.ext_getElem?
  intro i
  by_cases hi:i<n
  · rw [h i hi,JJ hi]
  · rw [List.getElem?_eq_none (by omega),List.getElem?_eq_none (by rw [pushF_len];omega)]
theorem amG{α:Type}{f:Nat→α}{n i:Nat}{x:α}(h:i<n) :(pushF f n).set i x=pushF (fun j=>if j=i then x else f j) n:=by
  refine aa2 (by rw [List.length_set,pushF_len]) fun j hj=>?_
  rw [List.getElem?_set,pushF_len]
  by_cases e:i=j
  · subst e;rw [if_pos rfl,if_pos h,if_pos rfl]
  · rw [if_neg e,JJ hj,if_neg fun q=>e q.symm]
theorem T1{α:Type}{n:Nat}{x:α} :List.replicate n x=pushF (fun _=>x) n :=
  aa2 List.length_replicate fun i hi=>by rw [List.getElem?_replicate,if_pos hi]
abbrev W:Nat:=18446744073709551616
def nl(v:Nat) :Nat:=if h:v=0 then 0 else nl (v/W)+1
termination_by v
decreasing_by exact Nat.div_lt_self (Nat.pos_of_ne_zero h) (by decide)
theorem arJ:∀ (v:Nat),v<W^nl v:=by
  intro v
  induction v using Nat.strongRecOn with
  | _ v ih =>
    rw [nl]
    split
    · rename_i h;subst h;decide
    · rename_i h
      have:=ih (v/W) (Nat.div_lt_self (Nat.pos_of_ne_zero h) (by decide))
      rw [Nat.pow_succ]
      exact (Nat.div_lt_iff_lt_mul (by decide)).1 this
def tz(v:Nat) :Nat:=if h:v%2=1∨v=0 then 0 else tz (v/2)+1
termination_by v
decreasing_by omega
theorem apD:∀ (v:Nat),v≠0→v%2^tz v=0∧v/2^tz v%2=1:=by
  intro v
  induction v using Nat.strongRecOn with
  | _ v ih =>
    intro h
    rw [tz]
    split
    · rename_i q;rw [Nat.pow_zero,Nat.mod_one,Nat.div_one];omega
    · rename_i q
      obtain ⟨h1,h2⟩:=ih (v/2) (by omega) (by omega)
      rw [Nat.pow_succ,Nat.mul_comm (2^_),Nat.mod_mul,←Nat.div_div_eq_div_mul,h1,h2]
      omega
theorem apE:tz 0=0:=by rw [tz,dif_pos (.inr rfl)]
theorem arK{v n:Nat}(h:v≠0)(hv:v<2^n) :tz v<n:=by
  obtain ⟨h1,h2⟩:=apD v h
  rcases Nat.lt_or_ge (tz v) n with q | q
  · exact q
  · rw [Nat.div_eq_of_lt (Nat.lt_of_lt_of_le hv (Nat.pow_le_pow_right (by decide) q))] at h2;omega
def sg(s:Bool)(v:Nat) :Int:=if s then -(v:Int) else (v:Int)
def nE(z e:Int) :Int:=if z=0 then 0 else e+(tz z.natAbs:Nat)
theorem aow{s:Bool}{v:Nat} :(sg s v).natAbs=v:=by cases s<;>simp [sg]
theorem alh{s:Bool}{v:Nat} :sg s v=0↔v=0:=by cases s<;>simp [sg]
theorem arL{v:Nat} :tz v≤64*nl v:=by
  by_cases h:v=0
  · subst h;rw [apE];exact Nat.zero_le _
  · have:=arJ v
    have e:W^nl v=2^(64*nl v):=by rw [Nat.pow_mul]
    rw [e] at this
    exact Nat.le_of_lt (arK h this)
def Sm(z e:Int) :Prop:=nl z.natAbs≤300∧-30000≤e∧e≤30000
theorem asc{z e:Int}(h:Sm z e) :tz z.natAbs≤19200:=Nat.le_trans arL (by have:=h.1;omega)
theorem Sm.b{z e:Int}(h:Sm z e) : -30000≤nE z e∧nE z e≤49200:=by
  have ht:=asc h
  obtain ⟨_,h2,h3⟩:=h
  unfold nE
  split<;>omega
def sgn(x y:Int) :Int:=if x<y then -1 else if y<x then 1 else 0
def jG(x:Nat) :Nat:=if x<4503599627370496 then x else 4503599627370496+x%4503599627370496
def fV(x:Nat) :Nat:=x/4503599627370496-1
theorem ahj{x:Nat}(h:x<9218868437227405312) :FloatKind.f64.format.read x=.number false (jG x) (-1074+(fV x:Int)):=by
  have e1:Ieee.double.signWeight=9223372036854775808:=by decide
  have e2:Ieee.double.binade=4503599627370496:=by decide
  have e3:Ieee.double.infRung=9218868437227405312:=by decide
  have e4:Ieee.double.leastPlace = -1074:=by decide
  show Ieee.double.read x=_
  unfold Ieee.Format.read
  simp only [e1,e2,e3,e4]
  have h1:x/9223372036854775808%2=0:=by omega
  have h2:x%9223372036854775808=x:=by omega
  rw [h1,h2]
  by_cases h3:x<4503599627370496
  · rw [if_pos h3]
    have:fV x=0:=by unfold fV;omega
    simp only [jG,if_pos h3,this];rfl
  · rw [if_neg h3,if_pos h]
    simp only [jG,if_neg h3,fV];rfl
theorem adG(x:Nat) :jG x<9007199254740992:=by unfold jG;split<;>omega
theorem apF{x:Nat}(h:0<fV x) :4503599627370496≤jG x:=by unfold fV at h;unfold jG;rw [if_neg (by omega)];omega
theorem OB{x y:Nat}(hx:x<9218868437227405312)(hy:y<9218868437227405312) :
    vv x y=some (compare ((jG x*2^(fV x-min (fV x) (fV y)):Nat):Int) ((jG y*2^(fV y-min (fV x) (fV y)):Nat):Int)):=by
  unfold vv Ieee.Format.order
  rw [ahj hx,ahj hy]
  simp only [Ieee.Datum.order,Ieee.signed,Bool.false_eq_true,if_false,Nat.shiftLeft_eq]
  have e1:((-1074+(fV x:Int))-min (-1074+(fV x:Int)) (-1074+(fV y:Int))).toNat=fV x-min (fV x) (fV y):=by omega
  have e2:((-1074+(fV y:Int))-min (-1074+(fV x:Int)) (-1074+(fV y:Int))).toNat=fV y-min (fV x) (fV y):=by omega
  rw [e1,e2]
theorem apG{x y:Nat}(hx:x<9218868437227405312)(hy:y<9218868437227405312) :vv x y=some .gt↔vv y x=some .lt:=by
  rw [OB hx hy,OB hy hx,Nat.min_comm]
  simp only [Option.some.injEq]
  rw [Int.compare_eq_gt,Int.compare_eq_lt]
theorem ali{x y:Nat}(hx:x<9218868437227405312)(hy:y<9218868437227405312)(h:x<y) :vv x y=some .lt:=by
  rw [OB hx hy]
  have hle:fV x≤fV y:=by unfold fV;omega
  rw [Nat.min_eq_left hle,Nat.sub_self,Nat.pow_zero,Nat.mul_one]
  have key:jG x<jG y*2^(fV y-fV x):=by
    rcases Nat.eq_or_lt_of_le hle with h1 | h1
    · rw [h1,Nat.sub_self,Nat.pow_zero,Nat.mul_one]
      unfold fV at h1;unfold jG
      split<;>split<;>omega
    · have a:=apF (x:=y) (by omega)
      have b:=adG x
      have c:2^1≤2^(fV y-fV x):=Nat.pow_le_pow_right (by decide) (by omega)
      have d:4503599627370496*2≤jG y*2^(fV y-fV x):=Nat.mul_le_mul a c
      omega
  rw [Int.compare_eq_lt.2 (by exact_mod_cast key)]
theorem ym{x y:Nat}(hx:x<9218868437227405312)(hy:y<9218868437227405312) :vv x y=some (compare x y):=by
  rcases Nat.lt_trichotomy x y with h | rfl | h
  · rw [ali hx hy h,Nat.compare_eq_lt.2 h]
  · rw [OB hx hx];simp
  · rw [(apG hx hy).2 (ali hy hx h),Nat.compare_eq_gt.2 h]
abbrev vh:Nat:=18446744073709551616
def xpo(x:Nat) :Nat:=x/4503599627370496%2048
def fin(x:Nat) :Bool:=xpo x != 2047
theorem nt{x:Nat}(hx:x<vh)(h:fin x=true) :FloatKind.f64.format.read x=.number (x/9223372036854775808%2==1) (jG (x%9223372036854775808)) (-1074+(fV (x%9223372036854775808):Int)):=by
  have e1:Ieee.double.signWeight=9223372036854775808:=by decide
  have e2:Ieee.double.binade=4503599627370496:=by decide
  have e3:Ieee.double.infRung=9218868437227405312:=by decide
  have e4:Ieee.double.leastPlace = -1074:=by decide
  have hx:x<18446744073709551616:=hx
  have h':x%9223372036854775808<9218868437227405312:=by
    unfold fin xpo at h;simp only [bne_iff_ne,ne_eq] at h;omega
  show Ieee.double.read x=_
  unfold Ieee.Format.read
  simp only [e1,e2,e3,e4]
  by_cases h3:x%9223372036854775808<4503599627370496
  · rw [if_pos h3]
    have:fV (x%9223372036854775808)=0:=by unfold fV;omega
    simp only [jG,if_pos h3,this];rfl
  · rw [if_neg h3,if_pos h']
    simp only [jG,if_neg h3,fV]
theorem aa3{x:Nat}(hx:x<vh)(h:x%9223372036854775808=9218868437227405312) :FloatKind.f64.format.read x=.infinity (x/9223372036854775808%2==1):=by
  have e1:Ieee.double.signWeight=9223372036854775808:=by decide
  have e2:Ieee.double.binade=4503599627370496:=by decide
  have e3:Ieee.double.infRung=9218868437227405312:=by decide
  have e4:Ieee.double.leastPlace = -1074:=by decide
  show Ieee.double.read x=_
  unfold Ieee.Format.read
  simp only [e1,e2,e3,e4]
  rw [h,if_neg (by decide),if_neg (by decide),if_pos rfl]
theorem amH{x:Nat}(hx:x<vh)(h:9218868437227405312<x%9223372036854775808) :isNaN x=true:=by
  have e1:Ieee.double.signWeight=9223372036854775808:=by decide
  have e2:Ieee.double.binade=4503599627370496:=by decide
  have e3:Ieee.double.infRung=9218868437227405312:=by decide
  have e4:Ieee.double.leastPlace = -1074:=by decide
  show (Ieee.double.read x).isNaN=true
  unfold Ieee.Format.read
  simp only [e1,e2,e3,e4]
  rw [if_neg (by omega),if_neg (by omega),if_neg (by omega)];rfl
theorem Gg{x:Nat}(hx:x<vh)(h:fin x=true) :isNaN x=false:=by
  show (Ieee.double.read x).isNaN=false
  have e:=nt hx h
  have e':Ieee.double.read x=_:=e
  rw [e'];rfl
theorem apI{x y:Nat}(h:isNaN x=true) :fne x y=true:=by
  obtain ⟨s,t,e⟩:=Ar h
  unfold fne vv Ieee.Format.order
  rw [e];rfl
theorem amI{x:Nat}(hx:x<vh)(h:fin x=false) :isNaN x=true∨(isNaN x=false∧x%9223372036854775808=9218868437227405312∧fne x x=false):=by
  have hx':x<18446744073709551616:=hx
  have h':9218868437227405312≤x%9223372036854775808:=by
    unfold fin xpo at h;simp only [bne_eq_false_iff_eq] at h;omega
  rcases Nat.lt_or_ge 9218868437227405312 (x%9223372036854775808) with q | q
  · exact .inl (amH hx q)
  · have e:x%9223372036854775808=9218868437227405312:=by omega
    have r:=aa3 hx e
    refine .inr ⟨?_,e,?_⟩
    · show (Ieee.double.read x).isNaN=false
      have r':Ieee.double.read x=_:=r
      rw [r'];rfl
    · unfold fne vv Ieee.Format.order
      rw [r]
      simp [Ieee.Datum.order]
theorem ahk{x:Nat}(hx:x<vh) :co x=x%9223372036854775808:=by
  unfold co;rfl
theorem alj{x:Nat}(hx:x<vh)(h:fin x=true) :Yh (co x) 9218868437227405311=false:=by
  have hx':x<18446744073709551616:=hx
  have h':x%9223372036854775808<9218868437227405312:=by
    unfold fin xpo at h;simp only [bne_iff_ne,ne_eq] at h;omega
  unfold Yh
  rw [ahk hx,ym h' (by decide)]
  rcases Nat.lt_trichotomy (x%9223372036854775808) 9218868437227405311 with q | q | q
  · rw [Nat.compare_eq_lt.2 q];rfl
  · rw [q];rfl
  · omega
theorem akf(s:Bool)(m k:Nat) :Ieee.signed s m k+Ieee.signed (!s) m k=0:=by
  cases s<;>simp [Ieee.signed]<;>omega
theorem aox{x:Nat}(hx:x<vh)(h:fin x=true) :sO x x=0:=by
  unfold sO Ieee.Format.sub
  rw [nt hx h]
  simp only [Ieee.Datum.opposite,Ieee.Datum.sum,Int.min_self,Int.sub_self,akf,if_true]
  cases (x/9223372036854775808%2==1)<;>rfl
theorem aoy{x:Nat}(hx:x<vh)(h:fin x=false) :fne (sO x x) 0=true:=by
  have q:sO x x=Yk:=by
    unfold sO Ieee.Format.sub
    rcases amI hx h with h1 | ⟨_,h1,_⟩
    · obtain ⟨s,t,e⟩:=Ar h1
      rw [e];rfl
    · rw [aa3 hx h1]
      cases (x/9223372036854775808%2==1)<;>rfl
  rw [q]
  exact apI ED
theorem aoz{x:Nat}(hx:x<vh) :fne (sO x x) 0 = !(fin x):=by
  cases h:fin x
  · rw [aoy hx h];rfl
  · rw [aox hx h];decide +kernel
def fz(x:Nat) :Int:=sg (x/9223372036854775808==1) (jG (x%9223372036854775808)*2^fV (x%9223372036854775808))
abbrev H:Nat:=4294967296
theorem H2(i:Nat) :W^i=H^(2*i):=by rw [Nat.pow_mul,show H^2=W by decide]
theorem Sm.of{z e:Int}{k:Nat}(h:nl z.natAbs≤k)(hk:k≤300)(he : -30000≤e∧e≤30000) :Sm z e:=⟨Nat.le_trans h hk,he.1,he.2⟩
def Fn(l:List Nat) :Prop:=∀ i,i<l.length→fin (l.getD i 0)=true
end Go.Plb
namespace Go.Plb.Seat
open Go Go.Plb
set_option linter.unusedSimpArgs false
set_option linter.unusedVariables false
def okM(r c:Int)(n:Nat) :Bool:=decide (0≤r∧r≤512∧0≤c∧c≤512∧(n:Int)=r*c)
theorem apJ{r c:Int}{n:Nat} :okM r c n=true↔0≤r∧r≤512∧0≤c∧c≤512∧(n:Int)=r*c:=decide_eq_true_iff
theorem aq8{r c:Int}(h1:0≤r)(h2:r≤512)(h3:0≤c)(h4:c≤512) :0≤r*c∧r*c≤262144:=by
  refine ⟨Int.mul_nonneg h1 h3,?_⟩
  have:r*c≤512*512:=Int.mul_le_mul h2 h4 h3 (by decide)
  omega
theorem amK(r c:Int)(l:List Nat) :tT r c l=some (.r0 (!(okM r c l.length))):=by
  refine bT (aA (a:=!(okM r c l.length)) ?_ rfl)
  unfold KM
  by_cases h1:r<0
  · have:okM r c l.length=false:=by unfold okM;rw [decide_eq_false_iff_not];omega
    rw [this];exact cV (decide_eq_true h1) rfl
  by_cases h2:r>512
  · have:okM r c l.length=false:=by unfold okM;rw [decide_eq_false_iff_not];omega
    rw [this];exact bY (decide_eq_false h1) (cV (decide_eq_true h2) rfl)
  by_cases h3:c<0
  · have:okM r c l.length=false:=by unfold okM;rw [decide_eq_false_iff_not];omega
    rw [this];exact bY (decide_eq_false h1) (bY (decide_eq_false h2) (cV (decide_eq_true h3) rfl))
  by_cases h4:c>512
  · have:okM r c l.length=false:=by unfold okM;rw [decide_eq_false_iff_not];omega
    rw [this];exact bY (decide_eq_false h1) (bY (decide_eq_false h2) (bY (decide_eq_false h3) (cV (decide_eq_true h4) rfl)))
  have hb:=aq8 (by omega:0≤r) (by omega:r≤512) (by omega:0≤c) (by omega:c≤512)
  refine bY (decide_eq_false h1) (bY (decide_eq_false h2) (bY (decide_eq_false h3) (bY (decide_eq_false h4) (aE (by rw [ag];omega) ?_))))
  show some (Sum.inl (((l.length:Nat):Int) != r*c))=_
  congr 2
  unfold okM
  by_cases h5:((l.length:Nat):Int)=r*c
  · rw [decide_eq_true ⟨by omega,by omega,by omega,by omega,h5⟩,h5];simp
  · rw [decide_eq_false (by omega),bne_iff_ne.2 h5];rfl
end Go.Plb.Seat
namespace Go.Plb.Seat
open Go Go.Plb
set_option linter.unusedSimpArgs false
set_option linter.unusedVariables false
theorem pq{i k c:Nat}(h:k<c) :(i*c+k)/c=i∧(i*c+k)%c=k:=by
  have hc:0<c:=by omega
  refine ⟨by rw [Nat.mul_comm,Nat.mul_add_div hc,Nat.div_eq_of_lt h,Nat.add_zero],?_⟩
  rw [Nat.mul_comm,Nat.mul_add_mod,Nat.mod_eq_of_lt h]
end Go.Plb.Seat
namespace Go.Plb.Seat
open Go Go.Plb
set_option linter.unusedSimpArgs false
set_option linter.unusedVariables false
theorem adH(j c i:Nat) :((j:Int)*(c:Int))+(i:Int)=((j*c+i:Nat):Int):=by rw [Int.natCast_add,Int.natCast_mul]
theorem Uh(j c:Nat) :(j:Int)*(c:Int)=((j*c:Nat):Int):=by rw [Int.natCast_mul]
end Go.Plb.Seat
namespace Go.Plb.Seat
open Go Go.Plb
set_option linter.unusedSimpArgs false
set_option linter.unusedVariables false
theorem aq9{r c n:Nat}(hr:r≤512)(hc:c≤512)(hn:n=r*c) :okM (r:Int) (c:Int) n=true :=
  apJ.2 ⟨by omega,by omega,by omega,by omega,by rw [hn,Int.natCast_mul]⟩
section
variable {A X Y V : List Nat} {r c d : Nat}
end
end Go.Plb.Seat
namespace Go.Plb.Seat
open Go Go.Plb
set_option linter.unusedSimpArgs false
set_option linter.unusedVariables false
def tv(A:List Nat)(r c p:Nat) :Nat:=A.getD ((p%r)*c+p/r) 0
theorem aqu{A:List Nat}{r c i k:Nat}(h:i<r) :tv A r c (k*r+i)=A.getD (i*c+k) 0:=by
  obtain ⟨q1,q2⟩:=pq (i:=k) h
  unfold tv;rw [q1,q2]
theorem ara{f:Nat→Nat}{n:Nat} :List.take n (pushF f n)++List.take 1 [f n]=pushF f (n+1):=amF
theorem ahl{A:List Nat}{r c:Nat}(hl:A.length=r*c)(hr:r≤512)(hc:c≤512) :
    jV (r:Int) (c:Int) A=some (.r0 0 (c:Int) (r:Int) (c*r) (c*r) (pushF (tv A r c) (c*r))):=by
  have hb:r*c≤512*512:=Nat.mul_le_mul hr hc
  have m:=aq9 hr hc hl
  refine bT (aA (a:=false) ?_ (aA (a:=()) rfl (aA (a:=(c*r,c*r,pushF (tv A r c) (c*r))) (bH (fun k=>(k,k*r,k*r,pushF (tv A r c) (k*r))) c (by rw [Nat.zero_mul];rfl) (fun k hk=>?_) ?_) rfl)))
  · unfold GE
    rw [dg,amK,m]
    exact (dS (aS (jl (aS (cu (aS (cu rfl)))))))
  · show aL (yT _ _ _ _ _).run _=_
    have hnx:(k+1)*r=k*r+r:=by rw [Nat.add_mul,Nat.one_mul]
    have hkr:k*r≤512*512:=Nat.mul_le_mul (by omega) hr
    refine aA (a:=()) (cV (by simp only [ag,au,aw,aj,ah,ae,ak,am,decide_eq_true_eq,decide_eq_false_iff_not,beq_iff_eq,beq_eq_false_iff_ne,bne_iff_ne,bne_eq_false_iff_eq,Bool.not_eq_true',Bool.not_eq_false',List.length_set,ne_eq,ge_iff_le,gt_iff_lt,ac,aa,ap];omega) rfl) (aA (a:=((k+1)*r,(k+1)*r,pushF (tv A r c) ((k+1)*r))) (pf (aA (a:=()) rfl (aA (a:=(k*r+r,k*r+r,pushF (tv A r c) (k*r+r))) (bH (fun i=>(i,k*r+i,k*r+i,pushF (tv A r c) (k*r+i))) r rfl (fun i hi=>?_) ?_) (by rw [hnx];rfl)))) (aE (by simp only [ag,au,aw,aj,ah,ae,ak,am,decide_eq_true_eq,decide_eq_false_iff_not,beq_iff_eq,beq_eq_false_iff_ne,bne_iff_ne,bne_eq_false_iff_eq,Bool.not_eq_true',Bool.not_eq_false',List.length_set,ne_eq,ge_iff_le,gt_iff_lt,ac,aa,ap];omega) rfl))
    · have hlt:i*c+k<A.length:=by rw [hl];exact pg hi hk
      show (yV _ _ _ _ _ _ _ _).run=_
      unfold yV
      rw [adH,Uh,aa,←aqu hi,ara,pushF_len]
      exact (cV (by simp only [ag,au,aw,aj,ah,ae,ak,am,decide_eq_true_eq,decide_eq_false_iff_not,beq_iff_eq,beq_eq_false_iff_ne,bne_iff_ne,bne_eq_false_iff_eq,Bool.not_eq_true',Bool.not_eq_false',List.length_set,ne_eq,ge_iff_le,gt_iff_lt,ac,aa,ap];omega) (aE (by simp only [ag,au,aw,aj,ah,ae,ak,am,decide_eq_true_eq,decide_eq_false_iff_not,beq_iff_eq,beq_eq_false_iff_ne,bne_iff_ne,bne_eq_false_iff_eq,Bool.not_eq_true',Bool.not_eq_false',List.length_set,ne_eq,ge_iff_le,gt_iff_lt,ac,aa,ap];omega) (aE (by simp only [ag,au,aw,aj,ah,ae,ak,am,decide_eq_true_eq,decide_eq_false_iff_not,beq_iff_eq,beq_eq_false_iff_ne,bne_iff_ne,bne_eq_false_iff_eq,Bool.not_eq_true',Bool.not_eq_false',List.length_set,ne_eq,ge_iff_le,gt_iff_lt,ac,aa,ap];omega) (aE (by simp only [ag,au,aw,aj,ah,ae,ak,am,decide_eq_true_eq,decide_eq_false_iff_not,beq_iff_eq,beq_eq_false_iff_ne,bne_iff_ne,bne_eq_false_iff_eq,Bool.not_eq_true',Bool.not_eq_false',List.length_set,ne_eq,ge_iff_le,gt_iff_lt,ac,aa,ap];omega) (aE (by simp only [ag,au,aw,aj,ah,ae,ak,am,decide_eq_true_eq,decide_eq_false_iff_not,beq_iff_eq,beq_eq_false_iff_ne,bne_iff_ne,bne_eq_false_iff_eq,Bool.not_eq_true',Bool.not_eq_false',List.length_set,ne_eq,ge_iff_le,gt_iff_lt,ac,aa,ap];omega) (aE (by simp only [ag,au,aw,aj,ah,ae,ak,am,decide_eq_true_eq,decide_eq_false_iff_not,beq_iff_eq,beq_eq_false_iff_ne,bne_iff_ne,bne_eq_false_iff_eq,Bool.not_eq_true',Bool.not_eq_false',List.length_set,ne_eq,ge_iff_le,gt_iff_lt,ac,aa,ap];omega) (aE (by simp only [ag,au,aw,aj,ah,ae,ak,am,decide_eq_true_eq,decide_eq_false_iff_not,beq_iff_eq,beq_eq_false_iff_ne,bne_iff_ne,bne_eq_false_iff_eq,Bool.not_eq_true',Bool.not_eq_false',List.length_set,ne_eq,ge_iff_le,gt_iff_lt,ac,aa,ap];omega) (aS (aE (by simp only [ag,au,aw,aj,ah,ae,ak,am,decide_eq_true_eq,decide_eq_false_iff_not,beq_iff_eq,beq_eq_false_iff_ne,bne_iff_ne,bne_eq_false_iff_eq,Bool.not_eq_true',Bool.not_eq_false',List.length_set,ne_eq,ge_iff_le,gt_iff_lt,ac,aa,ap];omega) (aE (by simp only [ag,au,aw,aj,ah,ae,ak,am,decide_eq_true_eq,decide_eq_false_iff_not,beq_iff_eq,beq_eq_false_iff_ne,bne_iff_ne,bne_eq_false_iff_eq,Bool.not_eq_true',Bool.not_eq_false',List.length_set,ne_eq,ge_iff_le,gt_iff_lt,ac,aa,ap];omega) rfl))))))))))
    · exact bY (by simp only [ag,au,aw,aj,ah,ae,ak,am,decide_eq_true_eq,decide_eq_false_iff_not,beq_iff_eq,beq_eq_false_iff_ne,bne_iff_ne,bne_eq_false_iff_eq,Bool.not_eq_true',Bool.not_eq_false',List.length_set,ne_eq,ge_iff_le,gt_iff_lt,ac,aa,ap];omega) rfl
  · show aL (yT _ _ _ _ _).run _=_
    exact bU (bY (by simp only [ag,au,aw,aj,ah,ae,ak,am,decide_eq_true_eq,decide_eq_false_iff_not,beq_iff_eq,beq_eq_false_iff_ne,bne_iff_ne,bne_eq_false_iff_eq,Bool.not_eq_true',Bool.not_eq_false',List.length_set,ne_eq,ge_iff_le,gt_iff_lt,ac,aa,ap];omega) rfl)
def tf(A:List Nat)(r c i k:Nat) :List Nat:=pushF (fun p=>if p%r<i∨(p%r=i∧p/r<k) then tv A r c p else 0) (c*r)
theorem arb{A:List Nat}{r c i k:Nat}(hi:i<r)(hk:k<c) :(tf A r c i k).set (k*r+i) (A.getD (i*c+k) 0)=tf A r c i (k+1):=by
  obtain ⟨q1,q2⟩:=pq (i:=k) hi
  unfold tf
  rw [amG (pg hk hi)]
  refine pushF_congr fun p _=>?_
  by_cases e:p=k*r+i
  · rw [if_pos e,e,if_pos (.inr ⟨q2,by rw [q1];omega⟩),aqu hi]
  · rw [if_neg e]
    by_cases h1:p%r<i∨(p%r=i∧p/r<k)
    · rw [if_pos h1,if_pos (by rcases h1 with q | ⟨q,w⟩;exact .inl q;exact .inr ⟨q,by omega⟩)]
    · rw [if_neg h1,if_neg]
      intro h2
      apply h1
      rcases h2 with q | ⟨q,w⟩
      · exact .inl q
      · refine .inr ⟨q,?_⟩
        rcases Nat.lt_or_ge (p/r) k with z | z
        · exact z
        · exfalso;apply e
          have e1:p/r=k:=by omega
          have e2:=Nat.div_add_mod p r
          rw [e1,q,Nat.mul_comm] at e2
          exact e2.symm
theorem apK{A:List Nat}{r c i:Nat} :tf A r c i c=tf A r c (i+1) 0:=by
  refine pushF_congr fun p hp=>?_
  have h2:p/r<c:=Nat.div_lt_of_lt_mul (by rw [Nat.mul_comm];exact hp)
  by_cases h:p%r<i+1
  · have h1:p%r<i∨(p%r=i∧p/r<c):=by
      by_cases q:p%r<i
      · exact .inl q
      · exact .inr ⟨by omega,h2⟩
    rw [if_pos h1,if_pos (.inl h)]
  · rw [if_neg (by intro h1;rcases h1 with q | ⟨q,_⟩<;>omega),if_neg (by intro h1;rcases h1 with q | ⟨q,w⟩;exact h q;exact Nat.not_lt_zero _ w)]
end Go.Plb.Seat
namespace Go.Plb.Seat
open Go Go.Plb
set_option linter.unusedSimpArgs false
set_option linter.unusedVariables false
theorem ahm(a b:Nat) :(a:Int)+(b:Int)=((a+b:Nat):Int):=rfl
theorem amL{c at_ k n:Nat}{vs xs:List Nat}(hn:n≤vs.length)(hi:∀ i,i<n→(at_+i)*c+k<xs.length)(hL:xs.length≤1000000000)(hx:at_+n≤1000000000) :
    dB (n:Int) vs (c:Int) xs (at_:Int) (k:Int)=some (.r0 (Z7 (fun i=>eY (vs.getD i 0) (xs.getD ((at_+i)*c+k) 0)) n)):=by
  refine bT (aA rfl (aA (bH (fun j=>(Z7 (fun i=>eY (vs.getD i 0) (xs.getD ((at_+i)*c+k) 0)) j,j)) n rfl (fun j hj=>?_) ?_) rfl))
  · have h:=BA (x:=at_+j) (hi j hj) hL (by omega)
    show (gY _ _ _ _ _ _ _ _).run=_
    unfold gY
    rw [ahm]
    refine cV (by simp only [ag,au,aw,aj,ah,ae,ak,am,decide_eq_true_eq,decide_eq_false_iff_not,beq_iff_eq,beq_eq_false_iff_ne,bne_iff_ne,bne_eq_false_iff_eq,Bool.not_eq_true',Bool.not_eq_false',List.length_set,ne_eq,ge_iff_le,gt_iff_lt,ac,aa,ap];omega) (aE (by simp only [ag,au,aw,aj,ah,ae,ak,am,decide_eq_true_eq,decide_eq_false_iff_not,beq_iff_eq,beq_eq_false_iff_ne,bne_iff_ne,bne_eq_false_iff_eq,Bool.not_eq_true',Bool.not_eq_false',List.length_set,ne_eq,ge_iff_le,gt_iff_lt,ac,aa,ap];omega) (aE (by simp only [ag,au,aw,aj,ah,ae,ak,am,decide_eq_true_eq,decide_eq_false_iff_not,beq_iff_eq,beq_eq_false_iff_ne,bne_iff_ne,bne_eq_false_iff_eq,Bool.not_eq_true',Bool.not_eq_false',List.length_set,ne_eq,ge_iff_le,gt_iff_lt,ac,aa,ap];omega) (aE h.a (aE h.b (aE h.c (aE h.d (aE h.e (aE (by simp only [ag,au,aw,aj,ah,ae,ak,am,decide_eq_true_eq,decide_eq_false_iff_not,beq_iff_eq,beq_eq_false_iff_ne,bne_iff_ne,bne_eq_false_iff_eq,Bool.not_eq_true',Bool.not_eq_false',List.length_set,ne_eq,ge_iff_le,gt_iff_lt,ac,aa,ap];omega) ?_))))))))
    rw [h.f];rfl
  · exact bY (by simp only [ag,au,aw,aj,ah,ae,ak,am,decide_eq_true_eq,decide_eq_false_iff_not,beq_iff_eq,beq_eq_false_iff_ne,bne_iff_ne,bne_eq_false_iff_eq,Bool.not_eq_true',Bool.not_eq_false',List.length_set,ne_eq,ge_iff_le,gt_iff_lt,ac,aa,ap];omega) rfl
def akg(a b:Int)(n:Nat) :Bool:=decide (0≤a)&&(decide (a≤512)&&(decide (0≤b)&&(decide (b≤512)&&((n:Int)==a*b))))
theorem arc{a b:Int}(h1:0≤a)(h2:a≤512)(h3:0≤b)(h4:b≤512) :0≤a*b∧a*b≤262144 :=
  ⟨Int.mul_nonneg h1 h3,Int.le_trans (Int.mul_le_mul h2 h4 h3 (by omega)) (by omega)⟩
theorem ahn(a b:Int)(xs:List Nat) :lp a b xs=some (.r0 (akg a b xs.length)):=by
  refine bT (aA (a:=akg a b xs.length) ?_ rfl)
  unfold IH akg
  by_cases h1:0≤a
  · by_cases h2:a≤512
    · by_cases h3:0≤b
      · by_cases h4:b≤512
        · have:=arc h1 h2 h3 h4
          refine cV (by simp only [ag,au,aw,aj,ah,ae,ak,am,decide_eq_true_eq,decide_eq_false_iff_not,beq_iff_eq,beq_eq_false_iff_ne,bne_iff_ne,bne_eq_false_iff_eq,Bool.not_eq_true',Bool.not_eq_false',List.length_set,ne_eq,ge_iff_le,gt_iff_lt,ac,aa,ap];omega) (cV (by simp only [ag,au,aw,aj,ah,ae,ak,am,decide_eq_true_eq,decide_eq_false_iff_not,beq_iff_eq,beq_eq_false_iff_ne,bne_iff_ne,bne_eq_false_iff_eq,Bool.not_eq_true',Bool.not_eq_false',List.length_set,ne_eq,ge_iff_le,gt_iff_lt,ac,aa,ap];omega) (cV (by simp only [ag,au,aw,aj,ah,ae,ak,am,decide_eq_true_eq,decide_eq_false_iff_not,beq_iff_eq,beq_eq_false_iff_ne,bne_iff_ne,bne_eq_false_iff_eq,Bool.not_eq_true',Bool.not_eq_false',List.length_set,ne_eq,ge_iff_le,gt_iff_lt,ac,aa,ap];omega) (cV (by simp only [ag,au,aw,aj,ah,ae,ak,am,decide_eq_true_eq,decide_eq_false_iff_not,beq_iff_eq,beq_eq_false_iff_ne,bne_iff_ne,bne_eq_false_iff_eq,Bool.not_eq_true',Bool.not_eq_false',List.length_set,ne_eq,ge_iff_le,gt_iff_lt,ac,aa,ap];omega) (aE (by rw [ag];omega) ?_))))
          simp only [h1,h2,h3,h4,decide_true,Bool.true_and];rfl
        · refine cV (by simp only [ag,au,aw,aj,ah,ae,ak,am,decide_eq_true_eq,decide_eq_false_iff_not,beq_iff_eq,beq_eq_false_iff_ne,bne_iff_ne,bne_eq_false_iff_eq,Bool.not_eq_true',Bool.not_eq_false',List.length_set,ne_eq,ge_iff_le,gt_iff_lt,ac,aa,ap];omega) (cV (by simp only [ag,au,aw,aj,ah,ae,ak,am,decide_eq_true_eq,decide_eq_false_iff_not,beq_iff_eq,beq_eq_false_iff_ne,bne_iff_ne,bne_eq_false_iff_eq,Bool.not_eq_true',Bool.not_eq_false',List.length_set,ne_eq,ge_iff_le,gt_iff_lt,ac,aa,ap];omega) (cV (by simp only [ag,au,aw,aj,ah,ae,ak,am,decide_eq_true_eq,decide_eq_false_iff_not,beq_iff_eq,beq_eq_false_iff_ne,bne_iff_ne,bne_eq_false_iff_eq,Bool.not_eq_true',Bool.not_eq_false',List.length_set,ne_eq,ge_iff_le,gt_iff_lt,ac,aa,ap];omega) (bY (by simp only [ag,au,aw,aj,ah,ae,ak,am,decide_eq_true_eq,decide_eq_false_iff_not,beq_iff_eq,beq_eq_false_iff_ne,bne_iff_ne,bne_eq_false_iff_eq,Bool.not_eq_true',Bool.not_eq_false',List.length_set,ne_eq,ge_iff_le,gt_iff_lt,ac,aa,ap];omega) ?_)))
          simp only [h1,h2,h3,h4,decide_true,decide_false,Bool.true_and,Bool.false_and];rfl
      · refine cV (by simp only [ag,au,aw,aj,ah,ae,ak,am,decide_eq_true_eq,decide_eq_false_iff_not,beq_iff_eq,beq_eq_false_iff_ne,bne_iff_ne,bne_eq_false_iff_eq,Bool.not_eq_true',Bool.not_eq_false',List.length_set,ne_eq,ge_iff_le,gt_iff_lt,ac,aa,ap];omega) (cV (by simp only [ag,au,aw,aj,ah,ae,ak,am,decide_eq_true_eq,decide_eq_false_iff_not,beq_iff_eq,beq_eq_false_iff_ne,bne_iff_ne,bne_eq_false_iff_eq,Bool.not_eq_true',Bool.not_eq_false',List.length_set,ne_eq,ge_iff_le,gt_iff_lt,ac,aa,ap];omega) (bY (by simp only [ag,au,aw,aj,ah,ae,ak,am,decide_eq_true_eq,decide_eq_false_iff_not,beq_iff_eq,beq_eq_false_iff_ne,bne_iff_ne,bne_eq_false_iff_eq,Bool.not_eq_true',Bool.not_eq_false',List.length_set,ne_eq,ge_iff_le,gt_iff_lt,ac,aa,ap];omega) ?_))
        simp only [h1,h2,h3,decide_true,decide_false,Bool.true_and,Bool.false_and];rfl
    · refine cV (by simp only [ag,au,aw,aj,ah,ae,ak,am,decide_eq_true_eq,decide_eq_false_iff_not,beq_iff_eq,beq_eq_false_iff_ne,bne_iff_ne,bne_eq_false_iff_eq,Bool.not_eq_true',Bool.not_eq_false',List.length_set,ne_eq,ge_iff_le,gt_iff_lt,ac,aa,ap];omega) (bY (by simp only [ag,au,aw,aj,ah,ae,ak,am,decide_eq_true_eq,decide_eq_false_iff_not,beq_iff_eq,beq_eq_false_iff_ne,bne_iff_ne,bne_eq_false_iff_eq,Bool.not_eq_true',Bool.not_eq_false',List.length_set,ne_eq,ge_iff_le,gt_iff_lt,ac,aa,ap];omega) ?_)
      simp only [h1,h2,decide_true,decide_false,Bool.true_and,Bool.false_and];rfl
  · refine bY (by simp only [ag,au,aw,aj,ah,ae,ak,am,decide_eq_true_eq,decide_eq_false_iff_not,beq_iff_eq,beq_eq_false_iff_ne,bne_iff_ne,bne_eq_false_iff_eq,Bool.not_eq_true',Bool.not_eq_false',List.length_set,ne_eq,ge_iff_le,gt_iff_lt,ac,aa,ap];omega) ?_
    simp only [h1,decide_true,decide_false,Bool.true_and,Bool.false_and];rfl
def ard(xs:List Nat)(tau m:Nat)(A:Nat→Nat→Nat)(k:Nat) :Nat:=eY tau (Z7 (A k) m)
def ph(xs:List Nat)(P:Nat→Nat→Nat)(V:Nat→Nat→Nat)(w k:Nat)(out:List Nat)(n:Nat) :List Nat :=
  ake (P k) (fun i=>sO (xs.getD (P k i) 0) (V i w)) out n
def yn(xs:List Nat)(P:Nat→Nat→Nat)(A:Nat→Nat→Nat)(V:Nat→Nat→Nat)(tau m frm:Nat)(n:Nat) :List Nat :=
  aa1 (fun j out=>ph xs P V (ard xs tau m A (frm+j)) (frm+j) out m) xs n
def aho(xs:List Nat)(P:Nat→Nat→Nat)(A:Nat→Nat→Nat)(V:Nat→Nat→Nat)(tau m frm n:Nat) :List Nat :=
  bif yp tau 0 then xs else yn xs P A V tau m frm n
theorem Am{xs:List Nat}{P A V:Nat→Nat→Nat}{tau m frm:Nat} :∀ {n:Nat},(yn xs P A V tau m frm n).length=xs.length
  | 0=>rfl
  | n+1=>by simp only [yn,aa1,ph,ac];exact Am (n:=n)
theorem ahp{xs:List Nat}{P A V:Nat→Nat→Nat}{tau m frm n:Nat} :(aho xs P A V tau m frm n).length=xs.length:=by
  unfold aho;cases yp tau 0<;>simp only [cond_true,cond_false];exact Am
theorem Jb{xs:List Nat}{P A V:Nat→Nat→Nat}{tau m frm:Nat}{p:Nat} :∀ {n:Nat},(∀ j i,j<n→i<m→P (frm+j) i≠p)→(yn xs P A V tau m frm n).getD p 0=xs.getD p 0
  | 0,_=>rfl
  | n+1,h=>by
    simp only [yn,aa1,ph]
    rw [Gf fun i hi=>h n i (by omega) hi]
    exact Jb (n:=n) fun j i hj hi=>h j i (by omega) hi
def leP(c at_:Nat)(k i:Nat) :Nat:=(at_+i)*c+k
def leA(xs vs:List Nat)(c at_:Nat)(k i:Nat) :Nat:=eY (vs.getD i 0) (xs.getD ((at_+i)*c+k) 0)
def leV(vs:List Nat)(i w:Nat) :Nat:=eY (vs.getD i 0) w
def aa4(xs vs:List Nat)(c at_ frm tau:Nat) :List Nat:=aho xs (leP c at_) (leA xs vs c at_) (leV vs) tau vs.length frm (c-frm)
theorem apL{xs vs out:List Nat}{r c at_ k w n:Nat}(hx:xs.length=r*c)(hk:k<c)(hat:at_+vs.length≤r)(hr:r≤512)(hc:c≤512)(ho:out.length=xs.length)(hn:n=xs.length) 
    (hsame:∀ i,i<vs.length→out.getD (leP c at_ k i) 0=xs.getD (leP c at_ k i) 0) :
    ch (pG (c:Int) (at_:Int) vs n (k:Int) w) (0,out)=some (.inl (ph xs (leP c at_) (leV vs) w k out vs.length)):=by
  have hL:r*c≤262144:=Nat.mul_le_mul hr hc
  refine bH (fun j=>(j,ph xs (leP c at_) (leV vs) w k out j)) vs.length rfl (fun j hj=>?_) ?_
  · have hi:(at_+j)*c+k<xs.length:=by rw [hx];exact pg (by omega) hk
    have h:=BA (x:=at_+j) hi (by omega) (by omega)
    have hl:(ph xs (leP c at_) (leV vs) w k out j).length=xs.length:=by unfold ph;rw [ac,ho]
    show (wh _ _ _ _ _ _ _ _).run=_
    unfold wh
    rw [ahm,hl,hn]
    refine cV (by simp only [ag,au,aw,aj,ah,ae,ak,am,decide_eq_true_eq,decide_eq_false_iff_not,beq_iff_eq,beq_eq_false_iff_ne,bne_iff_ne,bne_eq_false_iff_eq,Bool.not_eq_true',Bool.not_eq_false',List.length_set,ne_eq,ge_iff_le,gt_iff_lt,ac,aa,ap];omega) (aE (by simp only [ag,au,aw,aj,ah,ae,ak,am,decide_eq_true_eq,decide_eq_false_iff_not,beq_iff_eq,beq_eq_false_iff_ne,bne_iff_ne,bne_eq_false_iff_eq,Bool.not_eq_true',Bool.not_eq_false',List.length_set,ne_eq,ge_iff_le,gt_iff_lt,ac,aa,ap];omega) (aE (by simp only [ag,au,aw,aj,ah,ae,ak,am,decide_eq_true_eq,decide_eq_false_iff_not,beq_iff_eq,beq_eq_false_iff_ne,bne_iff_ne,bne_eq_false_iff_eq,Bool.not_eq_true',Bool.not_eq_false',List.length_set,ne_eq,ge_iff_le,gt_iff_lt,ac,aa,ap];omega) (aE h.a (aE h.b (aE h.c (aE h.d (aE h.e (aE h.d (aE h.e (aE (by simp only [ag,au,aw,aj,ah,ae,ak,am,decide_eq_true_eq,decide_eq_false_iff_not,beq_iff_eq,beq_eq_false_iff_ne,bne_iff_ne,bne_eq_false_iff_eq,Bool.not_eq_true',Bool.not_eq_false',List.length_set,ne_eq,ge_iff_le,gt_iff_lt,ac,aa,ap];omega) ?_))))))))))
    rw [h.f]
    have e:(ph xs (leP c at_) (leV vs) w k out j).getD ((at_+j)*c+k) 0=xs.getD ((at_+j)*c+k) 0:=by
      unfold ph
      rw [Gf (fun i hi=>?_)]
      · exact hsame j hj
      · intro q
        have:=(Ug hk hk q).1
        omega
    rw [e];rfl
  · exact bY (by simp only [ag,au,aw,aj,ah,ae,ak,am,decide_eq_true_eq,decide_eq_false_iff_not,beq_iff_eq,beq_eq_false_iff_ne,bne_iff_ne,bne_eq_false_iff_eq,Bool.not_eq_true',Bool.not_eq_false',List.length_set,ne_eq,ge_iff_le,gt_iff_lt,ac,aa,ap];omega) rfl
theorem amM{xs vs:List Nat}{r c at_ frm tau:Nat}(hx:xs.length=r*c)(hr:r≤512)(hc:c≤512)(hv:0<vs.length)(hat:at_+vs.length≤r)(hf:frm≤c) :
    jk (r:Int) (c:Int) xs (at_:Int) (frm:Int) vs tau=some (.r0 0 r c xs.length (aa4 xs vs c at_ frm tau)):=by
  have hL:r*c≤262144:=Nat.mul_le_mul hr hc
  have hm:akg (r:Int) (c:Int) xs.length=true:=by
    unfold akg
    have:(xs.length:Int)=(r:Int)*(c:Int):=by rw [hx,Int.natCast_mul]
    simp only [Bool.and_eq_true,decide_eq_true_eq,beq_iff_eq];omega
  refine bT (aA (a:=false) ?_ (aA (a:=false) ?_ ?_))
  · unfold D5
    rw [dg,ahn,hm]
    exact aE (nr xs) (aS (cu (bY (by simp only [ag,au,aw,aj,ah,ae,ak,am,decide_eq_true_eq,decide_eq_false_iff_not,beq_iff_eq,beq_eq_false_iff_ne,bne_iff_ne,bne_eq_false_iff_eq,Bool.not_eq_true',Bool.not_eq_false',List.length_set,ne_eq,ge_iff_le,gt_iff_lt,ac,aa,ap];omega) (bY (by simp only [ag,au,aw,aj,ah,ae,ak,am,decide_eq_true_eq,decide_eq_false_iff_not,beq_iff_eq,beq_eq_false_iff_ne,bne_iff_ne,bne_eq_false_iff_eq,Bool.not_eq_true',Bool.not_eq_false',List.length_set,ne_eq,ge_iff_le,gt_iff_lt,ac,aa,ap];omega) (by rw [decide_eq_false (by omega)];rfl)))))
  · unfold D6
    exact cu (aE (by simp only [ag,au,aw,aj,ah,ae,ak,am,decide_eq_true_eq,decide_eq_false_iff_not,beq_iff_eq,beq_eq_false_iff_ne,bne_iff_ne,bne_eq_false_iff_eq,Bool.not_eq_true',Bool.not_eq_false',List.length_set,ne_eq,ge_iff_le,gt_iff_lt,ac,aa,ap];omega) (bY (by simp only [ag,au,aw,aj,ah,ae,ak,am,decide_eq_true_eq,decide_eq_false_iff_not,beq_iff_eq,beq_eq_false_iff_ne,bne_iff_ne,bne_eq_false_iff_eq,Bool.not_eq_true',Bool.not_eq_false',List.length_set,ne_eq,ge_iff_le,gt_iff_lt,ac,aa,ap];omega) (by rw [decide_eq_false (by omega)];rfl)))
  · unfold aa4 aho
    cases ht:yp tau 0 with
    | true =>
      refine bU ?_
      unfold wb
      rw [dg]
      exact cu (aE (nr xs) (aE (by simp only [ag,au,aw,aj,ah,ae,ak,am,decide_eq_true_eq,decide_eq_false_iff_not,beq_iff_eq,beq_eq_false_iff_ne,bne_iff_ne,bne_eq_false_iff_eq,Bool.not_eq_true',Bool.not_eq_false',List.length_set,ne_eq,ge_iff_le,gt_iff_lt,ac,aa,ap];omega) (cV ht rfl)))
    | false =>
      refine aA (a:=(xs.length,xs)) ?_ (aA (a:=yn xs (leP c at_) (leA xs vs c at_) (leV vs) tau vs.length frm (c-frm)) ?_ rfl)
      · unfold wb
        rw [dg]
        exact cu (aE (nr xs) (aE (by simp only [ag,au,aw,aj,ah,ae,ak,am,decide_eq_true_eq,decide_eq_false_iff_not,beq_iff_eq,beq_eq_false_iff_ne,bne_iff_ne,bne_eq_false_iff_eq,Bool.not_eq_true',Bool.not_eq_false',List.length_set,ne_eq,ge_iff_le,gt_iff_lt,ac,aa,ap];omega) (bY ht rfl)))
      · refine bH (fun j=>(((frm+j:Nat):Int),yn xs (leP c at_) (leA xs vs c at_) (leV vs) tau vs.length frm j)) (c-frm) rfl (fun j hj=>?_) ?_
        · show aL (we _ _ _).run _=_
          have hk:frm+j<c:=by omega
          refine aA (a:=()) (cV (by simp only [ag,au,aw,aj,ah,ae,ak,am,decide_eq_true_eq,decide_eq_false_iff_not,beq_iff_eq,beq_eq_false_iff_ne,bne_iff_ne,bne_eq_false_iff_eq,Bool.not_eq_true',Bool.not_eq_false',List.length_set,ne_eq,ge_iff_le,gt_iff_lt,ac,aa,ap];omega) rfl) (aA (pf (a:=yn xs (leP c at_) (leA xs vs c at_) (leV vs) tau vs.length frm (j+1)) ?_) ?_)
          · refine aA (a:=ard xs tau vs.length (leA xs vs c at_) (frm+j)) ?_ (aA rfl (aA ?_ rfl))
            · unfold D8
              rw [dg,dg,amL (Nat.le_refl _) (fun i hi=>by rw [hx];exact pg (by omega) hk) (by omega) (by omega)]
              exact aE (nr vs) (aE (nr xs) (aS rfl))
            · refine apL hx hk hat hr hc Am rfl (fun i hi=>?_)
              refine Jb fun j' i' hj' hi' q=>?_
              have:=(Ug (by omega) hk q).2
              omega
          · refine aE (by simp only [ag,au,aw,aj,ah,ae,ak,am,decide_eq_true_eq,decide_eq_false_iff_not,beq_iff_eq,beq_eq_false_iff_ne,bne_iff_ne,bne_eq_false_iff_eq,Bool.not_eq_true',Bool.not_eq_false',List.length_set,ne_eq,ge_iff_le,gt_iff_lt,ac,aa,ap];omega) ?_
            rfl
        · show aL (we _ _ _).run _=_
          exact bU (bY (by simp only [ag,au,aw,aj,ah,ae,ak,am,decide_eq_true_eq,decide_eq_false_iff_not,beq_iff_eq,beq_eq_false_iff_ne,bne_iff_ne,bne_eq_false_iff_eq,Bool.not_eq_true',Bool.not_eq_false',List.length_set,ne_eq,ge_iff_le,gt_iff_lt,ac,aa,ap];omega) rfl)
theorem amN{xs vs:List Nat}{r c at_ k:Nat}(hx:xs.length=r*c)(hk:k<c)(hat:at_+vs.length≤r)(hr:r≤512)(hc:c≤512) :
    ch (uR (c:Int) xs (at_:Int) vs (k:Int)) (0,0)=some (.inl (Z7 (leA xs vs c at_ k) vs.length)):=by
  have hL:r*c≤262144:=Nat.mul_le_mul hr hc
  refine bH (fun j=>(Z7 (leA xs vs c at_ k) j,j)) vs.length rfl (fun j hj=>?_) ?_
  · have hi:(at_+j)*c+k<xs.length:=by rw [hx];exact pg (by omega) hk
    have h:=BA (x:=at_+j) hi (by omega) (by omega)
    show (Bq _ _ _ _ _ _ _).run=_
    unfold Bq
    rw [ahm]
    refine cV (by simp only [ag,au,aw,aj,ah,ae,ak,am,decide_eq_true_eq,decide_eq_false_iff_not,beq_iff_eq,beq_eq_false_iff_ne,bne_iff_ne,bne_eq_false_iff_eq,Bool.not_eq_true',Bool.not_eq_false',List.length_set,ne_eq,ge_iff_le,gt_iff_lt,ac,aa,ap];omega) (aE (by simp only [ag,au,aw,aj,ah,ae,ak,am,decide_eq_true_eq,decide_eq_false_iff_not,beq_iff_eq,beq_eq_false_iff_ne,bne_iff_ne,bne_eq_false_iff_eq,Bool.not_eq_true',Bool.not_eq_false',List.length_set,ne_eq,ge_iff_le,gt_iff_lt,ac,aa,ap];omega) (aE (by simp only [ag,au,aw,aj,ah,ae,ak,am,decide_eq_true_eq,decide_eq_false_iff_not,beq_iff_eq,beq_eq_false_iff_ne,bne_iff_ne,bne_eq_false_iff_eq,Bool.not_eq_true',Bool.not_eq_false',List.length_set,ne_eq,ge_iff_le,gt_iff_lt,ac,aa,ap];omega) (aE h.a (aE h.b (aE h.c (aE h.d (aE h.e (aE (by simp only [ag,au,aw,aj,ah,ae,ak,am,decide_eq_true_eq,decide_eq_false_iff_not,beq_iff_eq,beq_eq_false_iff_ne,bne_iff_ne,bne_eq_false_iff_eq,Bool.not_eq_true',Bool.not_eq_false',List.length_set,ne_eq,ge_iff_le,gt_iff_lt,ac,aa,ap];omega) ?_))))))))
    rw [h.f];rfl
  · exact bY (by simp only [ag,au,aw,aj,ah,ae,ak,am,decide_eq_true_eq,decide_eq_false_iff_not,beq_iff_eq,beq_eq_false_iff_ne,bne_iff_ne,bne_eq_false_iff_eq,Bool.not_eq_true',Bool.not_eq_false',List.length_set,ne_eq,ge_iff_le,gt_iff_lt,ac,aa,ap];omega) rfl
theorem aoA{xs vs out:List Nat}{r c at_ k w:Nat}(hx:xs.length=r*c)(hk:k<c)(hat:at_+vs.length≤r)(hr:r≤512)(hc:c≤512)(ho:out.length=xs.length) :
    ch (uT (c:Int) xs (at_:Int) vs (k:Int) w) (0,out)=some (.inl (ph xs (leP c at_) (leV vs) w k out vs.length)):=by
  have hL:r*c≤262144:=Nat.mul_le_mul hr hc
  refine bH (fun j=>(j,ph xs (leP c at_) (leV vs) w k out j)) vs.length rfl (fun j hj=>?_) ?_
  · have hi:(at_+j)*c+k<xs.length:=by rw [hx];exact pg (by omega) hk
    have h:=BA (x:=at_+j) hi (by omega) (by omega)
    have hl:(ph xs (leP c at_) (leV vs) w k out j).length=xs.length:=by unfold ph;rw [ac,ho]
    show (Br _ _ _ _ _ _ _ _).run=_
    unfold Br
    rw [ahm,hl]
    refine cV (by simp only [ag,au,aw,aj,ah,ae,ak,am,decide_eq_true_eq,decide_eq_false_iff_not,beq_iff_eq,beq_eq_false_iff_ne,bne_iff_ne,bne_eq_false_iff_eq,Bool.not_eq_true',Bool.not_eq_false',List.length_set,ne_eq,ge_iff_le,gt_iff_lt,ac,aa,ap];omega) (aE (by simp only [ag,au,aw,aj,ah,ae,ak,am,decide_eq_true_eq,decide_eq_false_iff_not,beq_iff_eq,beq_eq_false_iff_ne,bne_iff_ne,bne_eq_false_iff_eq,Bool.not_eq_true',Bool.not_eq_false',List.length_set,ne_eq,ge_iff_le,gt_iff_lt,ac,aa,ap];omega) (aE (by simp only [ag,au,aw,aj,ah,ae,ak,am,decide_eq_true_eq,decide_eq_false_iff_not,beq_iff_eq,beq_eq_false_iff_ne,bne_iff_ne,bne_eq_false_iff_eq,Bool.not_eq_true',Bool.not_eq_false',List.length_set,ne_eq,ge_iff_le,gt_iff_lt,ac,aa,ap];omega) (aE h.a (aE h.b (aE h.c (aE h.a (aE h.b (aE h.c (aE h.d (aE h.e (aE h.d (aE h.e (aE (by simp only [ag,au,aw,aj,ah,ae,ak,am,decide_eq_true_eq,decide_eq_false_iff_not,beq_iff_eq,beq_eq_false_iff_ne,bne_iff_ne,bne_eq_false_iff_eq,Bool.not_eq_true',Bool.not_eq_false',List.length_set,ne_eq,ge_iff_le,gt_iff_lt,ac,aa,ap];omega) ?_)))))))))))))
    rw [h.f];rfl
  · exact bY (by simp only [ag,au,aw,aj,ah,ae,ak,am,decide_eq_true_eq,decide_eq_false_iff_not,beq_iff_eq,beq_eq_false_iff_ne,bne_iff_ne,bne_eq_false_iff_eq,Bool.not_eq_true',Bool.not_eq_false',List.length_set,ne_eq,ge_iff_le,gt_iff_lt,ac,aa,ap];omega) rfl
theorem akh{xs vs:List Nat}{r c at_ frm tau:Nat}(hx:xs.length=r*c)(hr:r≤512)(hc:c≤512)(hat:at_+vs.length≤r)(hf:frm≤c) :
    lb (r:Int) (c:Int) xs (at_:Int) (frm:Int) vs tau=some (.r0 r c xs.length (aa4 xs vs c at_ frm tau)):=by
  have hL:r*c≤262144:=Nat.mul_le_mul hr hc
  refine bT ?_
  unfold aa4 aho
  cases ht:yp tau 0 with
  | true =>
    refine bU ?_
    unfold Bo
    rw [List.take_length]
    exact aE (by simp only [ag,au,aw,aj,ah,ae,ak,am,decide_eq_true_eq,decide_eq_false_iff_not,beq_iff_eq,beq_eq_false_iff_ne,bne_iff_ne,bne_eq_false_iff_eq,Bool.not_eq_true',Bool.not_eq_false',List.length_set,ne_eq,ge_iff_le,gt_iff_lt,ac,aa,ap];omega) (aE (by simp only [ag,au,aw,aj,ah,ae,ak,am,decide_eq_true_eq,decide_eq_false_iff_not,beq_iff_eq,beq_eq_false_iff_ne,bne_iff_ne,bne_eq_false_iff_eq,Bool.not_eq_true',Bool.not_eq_false',List.length_set,ne_eq,ge_iff_le,gt_iff_lt,ac,aa,ap];omega) (aE (by simp only [ag,au,aw,aj,ah,ae,ak,am,decide_eq_true_eq,decide_eq_false_iff_not,beq_iff_eq,beq_eq_false_iff_ne,bne_iff_ne,bne_eq_false_iff_eq,Bool.not_eq_true',Bool.not_eq_false',List.length_set,ne_eq,ge_iff_le,gt_iff_lt,ac,aa,ap];omega) (cV ht rfl)))
  | false =>
    refine aA (a:=xs) ?_ (aA (a:=yn xs (leP c at_) (leA xs vs c at_) (leV vs) tau vs.length frm (c-frm)) ?_ rfl)
    · unfold Bo
      rw [List.take_length]
      exact aE (by simp only [ag,au,aw,aj,ah,ae,ak,am,decide_eq_true_eq,decide_eq_false_iff_not,beq_iff_eq,beq_eq_false_iff_ne,bne_iff_ne,bne_eq_false_iff_eq,Bool.not_eq_true',Bool.not_eq_false',List.length_set,ne_eq,ge_iff_le,gt_iff_lt,ac,aa,ap];omega) (aE (by simp only [ag,au,aw,aj,ah,ae,ak,am,decide_eq_true_eq,decide_eq_false_iff_not,beq_iff_eq,beq_eq_false_iff_ne,bne_iff_ne,bne_eq_false_iff_eq,Bool.not_eq_true',Bool.not_eq_false',List.length_set,ne_eq,ge_iff_le,gt_iff_lt,ac,aa,ap];omega) (aE (by simp only [ag,au,aw,aj,ah,ae,ak,am,decide_eq_true_eq,decide_eq_false_iff_not,beq_iff_eq,beq_eq_false_iff_ne,bne_iff_ne,bne_eq_false_iff_eq,Bool.not_eq_true',Bool.not_eq_false',List.length_set,ne_eq,ge_iff_le,gt_iff_lt,ac,aa,ap];omega) (bY ht rfl)))
    · refine bH (fun j=>(((frm+j:Nat):Int),yn xs (leP c at_) (leA xs vs c at_) (leV vs) tau vs.length frm j)) (c-frm) rfl (fun j hj=>?_) ?_
      · show aL (Bp _ _ _).run _=_
        have hk:frm+j<c:=by omega
        refine aA (a:=()) (cV (by simp only [ag,au,aw,aj,ah,ae,ak,am,decide_eq_true_eq,decide_eq_false_iff_not,beq_iff_eq,beq_eq_false_iff_ne,bne_iff_ne,bne_eq_false_iff_eq,Bool.not_eq_true',Bool.not_eq_false',List.length_set,ne_eq,ge_iff_le,gt_iff_lt,ac,aa,ap];omega) rfl) (aA (pf (a:=yn xs (leP c at_) (leA xs vs c at_) (leV vs) tau vs.length frm (j+1)) ?_) ?_)
        · exact aA rfl (aA (amN hx hk hat hr hc) (aA rfl (aA (aoA hx hk hat hr hc Am) rfl)))
        · refine aE (by simp only [ag,au,aw,aj,ah,ae,ak,am,decide_eq_true_eq,decide_eq_false_iff_not,beq_iff_eq,beq_eq_false_iff_ne,bne_iff_ne,bne_eq_false_iff_eq,Bool.not_eq_true',Bool.not_eq_false',List.length_set,ne_eq,ge_iff_le,gt_iff_lt,ac,aa,ap];omega) ?_
          rfl
      · show aL (Bp _ _ _).run _=_
        exact bU (bY (by simp only [ag,au,aw,aj,ah,ae,ak,am,decide_eq_true_eq,decide_eq_false_iff_not,beq_iff_eq,beq_eq_false_iff_ne,bne_iff_ne,bne_eq_false_iff_eq,Bool.not_eq_true',Bool.not_eq_false',List.length_set,ne_eq,ge_iff_le,gt_iff_lt,ac,aa,ap];omega) rfl)
theorem aoB{a b:Nat}(h:Yh a b=true) :isNaN a=false∧isNaN b=false:=by
  constructor
  · cases q:isNaN a with
    | false=>rfl
    | true=>unfold Yh at h;rw [BI (.inl q)] at h;cases h
  · cases q:isNaN b with
    | false=>rfl
    | true=>unfold Yh at h;rw [BI (.inr q)] at h;cases h
theorem aoC{a b:Nat}(h:yp a b=true) :isNaN a=false:=by
  cases q:isNaN a with
  | false=>rfl
  | true=>unfold yp at h;rw [BI (.inl q)] at h;cases h
theorem ahq{a b:Nat}(h:isNaN a=true) :isNaN (eY a b)=true:=by
  have e:eY a b=Yk:=congrArg (·.getD Yk) (Ml .mul (x:=a) (y:=b) (.inl h))
  rw [e];exact ED
def X6(v:Nat)(s:Nat×Nat) :Nat×Nat :=
  bif yp v 0 then s else bif flt s.1 (co v) then (co v,Aq 4607182418800017408 (eY (eY s.2 (fdiv s.1 (co v))) (fdiv s.1 (co v)))) else (s.1,Aq s.2 (eY (fdiv (co v) s.1) (fdiv (co v) s.1)))
def J3(l:List Nat) :Nat→Nat×Nat:=aa1 (fun j s=>X6 (l.getD j 0) s) (0,4607182418800017408)
def nmF(l:List Nat) :Nat:=eY (J3 l l.length).1 (xr (J3 l l.length).2)
theorem amO{l:List Nat}(h:l.length≤1000000000) :tY l=some (.r0 (nmF l)):=by
  refine bT (aA rfl (aA (a:=J3 l l.length) (bH (fun j=>((J3 l j).1,(J3 l j).2,j)) l.length rfl (fun j hj=>?_) ?_) rfl))
  · show aL (IE _ _ _ _).run _=_
    refine aA (a:=J3 l (j+1)) ?_ (aE (by simp only [ag,au,aw,aj,ah,ae,ak,am,decide_eq_true_eq,decide_eq_false_iff_not,beq_iff_eq,beq_eq_false_iff_ne,bne_iff_ne,bne_eq_false_iff_eq,Bool.not_eq_true',Bool.not_eq_false',List.length_set,ne_eq,ge_iff_le,gt_iff_lt,ac,aa,ap];omega) rfl)
    refine cV (by simp only [ag,au,aw,aj,ah,ae,ak,am,decide_eq_true_eq,decide_eq_false_iff_not,beq_iff_eq,beq_eq_false_iff_ne,bne_iff_ne,bne_eq_false_iff_eq,Bool.not_eq_true',Bool.not_eq_false',List.length_set,ne_eq,ge_iff_le,gt_iff_lt,ac,aa,ap];omega) (aE (by simp only [ag,au,aw,aj,ah,ae,ak,am,decide_eq_true_eq,decide_eq_false_iff_not,beq_iff_eq,beq_eq_false_iff_ne,bne_iff_ne,bne_eq_false_iff_eq,Bool.not_eq_true',Bool.not_eq_false',List.length_set,ne_eq,ge_iff_le,gt_iff_lt,ac,aa,ap];omega) (aE (by simp only [ag,au,aw,aj,ah,ae,ak,am,decide_eq_true_eq,decide_eq_false_iff_not,beq_iff_eq,beq_eq_false_iff_ne,bne_iff_ne,bne_eq_false_iff_eq,Bool.not_eq_true',Bool.not_eq_false',List.length_set,ne_eq,ge_iff_le,gt_iff_lt,ac,aa,ap];omega) ?_))
    rw [show J3 l (j+1)=X6 (l.getD j 0) (J3 l j) from rfl]
    generalize l.getD j 0=v
    generalize J3 l j=s
    obtain ⟨sc,su⟩:=s
    unfold X6
    cases h1:yp v 0 with
    | true=>rfl
    | false =>
      cases h2:flt sc (co v) with
      | true=>simp only [h2];exact cu (dS rfl)
      | false=>simp only [h2];exact cu (cu rfl)
  · exact bU (bY (by simp only [ag,au,aw,aj,ah,ae,ak,am,decide_eq_true_eq,decide_eq_false_iff_not,beq_iff_eq,beq_eq_false_iff_ne,bne_iff_ne,bne_eq_false_iff_eq,Bool.not_eq_true',Bool.not_eq_false',List.length_set,ne_eq,ge_iff_le,gt_iff_lt,ac,aa,ap];omega) rfl)
theorem aki{l:List Nat}(h:l.length≤1000000000) :uM l=some (.r0 (nmF l)):=by
  refine bT (aA rfl (aA (a:=J3 l l.length) (bH (fun j=>((J3 l j).1,(J3 l j).2,j)) l.length rfl (fun j hj=>?_) ?_) rfl))
  · show aL (IX _ _ _ _).run _=_
    refine aA (a:=J3 l (j+1)) ?_ (aE (by simp only [ag,au,aw,aj,ah,ae,ak,am,decide_eq_true_eq,decide_eq_false_iff_not,beq_iff_eq,beq_eq_false_iff_ne,bne_iff_ne,bne_eq_false_iff_eq,Bool.not_eq_true',Bool.not_eq_false',List.length_set,ne_eq,ge_iff_le,gt_iff_lt,ac,aa,ap];omega) rfl)
    refine cV (by simp only [ag,au,aw,aj,ah,ae,ak,am,decide_eq_true_eq,decide_eq_false_iff_not,beq_iff_eq,beq_eq_false_iff_ne,bne_iff_ne,bne_eq_false_iff_eq,Bool.not_eq_true',Bool.not_eq_false',List.length_set,ne_eq,ge_iff_le,gt_iff_lt,ac,aa,ap];omega) (aE (by simp only [ag,au,aw,aj,ah,ae,ak,am,decide_eq_true_eq,decide_eq_false_iff_not,beq_iff_eq,beq_eq_false_iff_ne,bne_iff_ne,bne_eq_false_iff_eq,Bool.not_eq_true',Bool.not_eq_false',List.length_set,ne_eq,ge_iff_le,gt_iff_lt,ac,aa,ap];omega) (aE (by simp only [ag,au,aw,aj,ah,ae,ak,am,decide_eq_true_eq,decide_eq_false_iff_not,beq_iff_eq,beq_eq_false_iff_ne,bne_iff_ne,bne_eq_false_iff_eq,Bool.not_eq_true',Bool.not_eq_false',List.length_set,ne_eq,ge_iff_le,gt_iff_lt,ac,aa,ap];omega) ?_))
    rw [show J3 l (j+1)=X6 (l.getD j 0) (J3 l j) from rfl]
    generalize l.getD j 0=v
    generalize J3 l j=s
    obtain ⟨sc,su⟩:=s
    unfold X6
    cases h1:yp v 0 with
    | true=>rfl
    | false =>
      cases h2:flt sc (co v) with
      | true=>simp only [h2];exact cu (aE (by simp only [ag,au,aw,aj,ah,ae,ak,am,decide_eq_true_eq,decide_eq_false_iff_not,beq_iff_eq,beq_eq_false_iff_ne,bne_iff_ne,bne_eq_false_iff_eq,Bool.not_eq_true',Bool.not_eq_false',List.length_set,ne_eq,ge_iff_le,gt_iff_lt,ac,aa,ap];omega) (aE (by simp only [ag,au,aw,aj,ah,ae,ak,am,decide_eq_true_eq,decide_eq_false_iff_not,beq_iff_eq,beq_eq_false_iff_ne,bne_iff_ne,bne_eq_false_iff_eq,Bool.not_eq_true',Bool.not_eq_false',List.length_set,ne_eq,ge_iff_le,gt_iff_lt,ac,aa,ap];omega) (dS rfl)))
      | false=>simp only [h2];exact cu (aE (by simp only [ag,au,aw,aj,ah,ae,ak,am,decide_eq_true_eq,decide_eq_false_iff_not,beq_iff_eq,beq_eq_false_iff_ne,bne_iff_ne,bne_eq_false_iff_eq,Bool.not_eq_true',Bool.not_eq_false',List.length_set,ne_eq,ge_iff_le,gt_iff_lt,ac,aa,ap];omega) (aE (by simp only [ag,au,aw,aj,ah,ae,ak,am,decide_eq_true_eq,decide_eq_false_iff_not,beq_iff_eq,beq_eq_false_iff_ne,bne_iff_ne,bne_eq_false_iff_eq,Bool.not_eq_true',Bool.not_eq_false',List.length_set,ne_eq,ge_iff_le,gt_iff_lt,ac,aa,ap];omega) (cu rfl)))
  · exact bU (bY (by simp only [ag,au,aw,aj,ah,ae,ak,am,decide_eq_true_eq,decide_eq_false_iff_not,beq_iff_eq,beq_eq_false_iff_ne,bne_iff_ne,bne_eq_false_iff_eq,Bool.not_eq_true',Bool.not_eq_false',List.length_set,ne_eq,ge_iff_le,gt_iff_lt,ac,aa,ap];omega) rfl)
def ahr(a b x:Nat) :Nat:=bif yp a 0 then CB (kj a x) else CB (kj (eY a (xr (Aq 4607182418800017408 (eY (fdiv b a) (fdiv b a))))) x)
def oi(x long:Nat) :Nat:=bif Yh (co long) (co x) then ahr (co long) (co x) x else ahr (co x) (co long) x
def jz(xs:List Nat) :Nat:=nmF (an 1 (xs.length-1) xs)
def K5(xs:List Nat) :Nat:=bif yp (jz xs) 0 then xs.getD 0 0 else oi (xs.getD 0 0) (jz xs)
def G3(xs:List Nat) :Nat:=bif yp (jz xs) 0 then 0 else fdiv (sO (oi (xs.getD 0 0) (jz xs)) (xs.getD 0 0)) (oi (xs.getD 0 0) (jz xs))
def e1F(n:Nat) :List Nat:=(List.replicate n 0).set 0 4607182418800017408
def vGo(xs:List Nat)(q j:Nat) :List Nat:=ake (fun i=>i+1) (fun i=>eY (xs.getD (i+1) 0) q) (e1F xs.length) j
def Cy(xs:List Nat) :List Nat:=bif yp (jz xs) 0 then e1F xs.length else vGo xs (fdiv 4607182418800017408 (sO (xs.getD 0 0) (oi (xs.getD 0 0) (jz xs)))) (xs.length-1)
theorem adI{xs:List Nat}{q j:Nat} :(vGo xs q j).length=xs.length:=by simp only [vGo,ac,e1F,List.length_set,List.length_replicate]
theorem aa5{xs:List Nat} :(Cy xs).length=xs.length:=by
  unfold Cy;cases yp (jz xs) 0<;>simp only [cond_true,cond_false,adI,e1F,List.length_set,List.length_replicate]
theorem ahs{xs:List Nat}(h:0<xs.length) :(an 1 (xs.length-1) xs).length=xs.length-1:=by
  rw [oG (by omega)]
theorem aoD{xs:List Nat}(h:yp (jz xs) 0=true) :K5 xs=xs.getD 0 0∧G3 xs=0∧Cy xs=e1F xs.length:=by
  unfold K5 G3 Cy;rw [h,cond_true,cond_true,cond_true];exact ⟨rfl,rfl,rfl⟩
theorem aoE{xs:List Nat}(h:yp (jz xs) 0=false) :K5 xs=oi (xs.getD 0 0) (jz xs)∧G3 xs=fdiv (sO (oi (xs.getD 0 0) (jz xs)) (xs.getD 0 0)) (oi (xs.getD 0 0) (jz xs))
    ∧ Cy xs=vGo xs (fdiv 4607182418800017408 (sO (xs.getD 0 0) (oi (xs.getD 0 0) (jz xs)))) (xs.length-1):=by
  unfold K5 G3 Cy;rw [h,cond_false,cond_false,cond_false];exact ⟨rfl,rfl,rfl⟩
theorem adJ{a b x:Nat}(h:yp a 0=true) :ahr a b x=CB (kj a x):=by unfold ahr;rw [h,cond_true]
theorem adK{a b x:Nat}(h:yp a 0=false) :ahr a b x=CB (kj (eY a (xr (Aq 4607182418800017408 (eY (fdiv b a) (fdiv b a))))) x):=by unfold ahr;rw [h,cond_false]
theorem alm{x l:Nat}(h:Yh (co l) (co x)=true) :oi x l=ahr (co l) (co x) x:=by unfold oi;rw [h,cond_true]
theorem aln{x l:Nat}(h:Yh (co l) (co x)=false) :oi x l=ahr (co x) (co l) x:=by unfold oi;rw [h,cond_false]
theorem aa6{xs:List Nat}(h0:0<xs.length)(h:xs.length≤1000000) :bh xs=some (.r0 (K5 xs) 0 xs.length (G3 xs) (Cy xs)):=by
  refine bT (aA (a:=(jz xs,e1F xs.length)) ?_ ?_)
  · unfold GH
    rw [amO (by rw [ahs h0];omega),List.length_replicate]
    simp only [qx,qL]
    refine bY (by simp only [ag,au,aw,aj,ah,ae,ak,am,decide_eq_true_eq,decide_eq_false_iff_not,beq_iff_eq,beq_eq_false_iff_ne,bne_iff_ne,bne_eq_false_iff_eq,Bool.not_eq_true',Bool.not_eq_false',List.length_set,ne_eq,ge_iff_le,gt_iff_lt,ac,aa,ap];omega) ?_
    (refine aE (by simp only [ag,au,aw,aj,ah,ae,ak,am,decide_eq_true_eq,decide_eq_false_iff_not,beq_iff_eq,beq_eq_false_iff_ne,bne_iff_ne,bne_eq_false_iff_eq,Bool.not_eq_true',Bool.not_eq_false',List.length_set,ne_eq,ge_iff_le,gt_iff_lt,ac,aa,ap];omega) ?_;refine aE (by simp only [ag,au,aw,aj,ah,ae,ak,am,decide_eq_true_eq,decide_eq_false_iff_not,beq_iff_eq,beq_eq_false_iff_ne,bne_iff_ne,bne_eq_false_iff_eq,Bool.not_eq_true',Bool.not_eq_false',List.length_set,ne_eq,ge_iff_le,gt_iff_lt,ac,aa,ap];omega) ?_;refine aE (by simp only [ag,au,aw,aj,ah,ae,ak,am,decide_eq_true_eq,decide_eq_false_iff_not,beq_iff_eq,beq_eq_false_iff_ne,bne_iff_ne,bne_eq_false_iff_eq,Bool.not_eq_true',Bool.not_eq_false',List.length_set,ne_eq,ge_iff_le,gt_iff_lt,ac,aa,ap];omega) ?_;refine aE (by simp only [ag,au,aw,aj,ah,ae,ak,am,decide_eq_true_eq,decide_eq_false_iff_not,beq_iff_eq,beq_eq_false_iff_ne,bne_iff_ne,bne_eq_false_iff_eq,Bool.not_eq_true',Bool.not_eq_false',List.length_set,ne_eq,ge_iff_le,gt_iff_lt,ac,aa,ap];omega) ?_;refine aE (by simp only [ag,au,aw,aj,ah,ae,ak,am,decide_eq_true_eq,decide_eq_false_iff_not,beq_iff_eq,beq_eq_false_iff_ne,bne_iff_ne,bne_eq_false_iff_eq,Bool.not_eq_true',Bool.not_eq_false',List.length_set,ne_eq,ge_iff_le,gt_iff_lt,ac,aa,ap];omega) ?_;refine aE (by simp only [ag,au,aw,aj,ah,ae,ak,am,decide_eq_true_eq,decide_eq_false_iff_not,beq_iff_eq,beq_eq_false_iff_ne,bne_iff_ne,bne_eq_false_iff_eq,Bool.not_eq_true',Bool.not_eq_false',List.length_set,ne_eq,ge_iff_le,gt_iff_lt,ac,aa,ap];omega) ?_;refine aE (by simp only [ag,au,aw,aj,ah,ae,ak,am,decide_eq_true_eq,decide_eq_false_iff_not,beq_iff_eq,beq_eq_false_iff_ne,bne_iff_ne,bne_eq_false_iff_eq,Bool.not_eq_true',Bool.not_eq_false',List.length_set,ne_eq,ge_iff_le,gt_iff_lt,ac,aa,ap];omega) ?_;refine aE (by simp only [ag,au,aw,aj,ah,ae,ak,am,decide_eq_true_eq,decide_eq_false_iff_not,beq_iff_eq,beq_eq_false_iff_ne,bne_iff_ne,bne_eq_false_iff_eq,Bool.not_eq_true',Bool.not_eq_false',List.length_set,ne_eq,ge_iff_le,gt_iff_lt,ac,aa,ap];omega) ?_)
    refine aE (by simp only [ag,au,aw,aj,ah,ae,ak,am,decide_eq_true_eq,decide_eq_false_iff_not,beq_iff_eq,beq_eq_false_iff_ne,bne_iff_ne,bne_eq_false_iff_eq,Bool.not_eq_true',Bool.not_eq_false',List.length_set,ne_eq,ge_iff_le,gt_iff_lt,ac,aa,ap];omega) (aS rfl)
  · cases hl:yp (jz xs) 0 with
    | true=>obtain ⟨e1,e2,e3⟩:=aoD hl;rw [e1,e2,e3];exact bU (cV hl (aE (by simp only [ag,au,aw,aj,ah,ae,ak,am,decide_eq_true_eq,decide_eq_false_iff_not,beq_iff_eq,beq_eq_false_iff_ne,bne_iff_ne,bne_eq_false_iff_eq,Bool.not_eq_true',Bool.not_eq_false',List.length_set,ne_eq,ge_iff_le,gt_iff_lt,ac,aa,ap];omega) (aE (by simp only [ag,au,aw,aj,ah,ae,ak,am,decide_eq_true_eq,decide_eq_false_iff_not,beq_iff_eq,beq_eq_false_iff_ne,bne_iff_ne,bne_eq_false_iff_eq,Bool.not_eq_true',Bool.not_eq_false',List.length_set,ne_eq,ge_iff_le,gt_iff_lt,ac,aa,ap];omega) rfl)))
    | false =>
      obtain ⟨e1,e2,e3⟩:=aoE hl
      rw [e1,e2,e3]
      refine aA (a:=oi (xs.getD 0 0) (jz xs)) ?_ (aA (a:=(fdiv 4607182418800017408 (sO (xs.getD 0 0) (oi (xs.getD 0 0) (jz xs))),fdiv (sO (oi (xs.getD 0 0) (jz xs)) (xs.getD 0 0)) (oi (xs.getD 0 0) (jz xs)))) ?_ (aA (a:=vGo xs (fdiv 4607182418800017408 (sO (xs.getD 0 0) (oi (xs.getD 0 0) (jz xs)))) (xs.length-1)) ?_ rfl))
      · unfold D4
        refine bY hl (aE (by simp only [ag,au,aw,aj,ah,ae,ak,am,decide_eq_true_eq,decide_eq_false_iff_not,beq_iff_eq,beq_eq_false_iff_ne,bne_iff_ne,bne_eq_false_iff_eq,Bool.not_eq_true',Bool.not_eq_false',List.length_set,ne_eq,ge_iff_le,gt_iff_lt,ac,aa,ap];omega) (aE (by simp only [ag,au,aw,aj,ah,ae,ak,am,decide_eq_true_eq,decide_eq_false_iff_not,beq_iff_eq,beq_eq_false_iff_ne,bne_iff_ne,bne_eq_false_iff_eq,Bool.not_eq_true',Bool.not_eq_false',List.length_set,ne_eq,ge_iff_le,gt_iff_lt,ac,aa,ap];omega) ?_))
        cases hg:Yh (co (jz xs)) (co (xs.getD 0 0)) with
        | true =>
          rw [alm hg]
          have hn:isNaN (xs.getD 0 0)=false:=by have:=(aoB hg).2;rwa [oF] at this
          cases he:yp (co (jz xs)) 0 with
          | true=>rw [adJ he];exact dS (dS (aE (by simp only [ag,au,aw,aj,ah,ae,ak,am,decide_eq_true_eq,decide_eq_false_iff_not,beq_iff_eq,beq_eq_false_iff_ne,bne_iff_ne,bne_eq_false_iff_eq,Bool.not_eq_true',Bool.not_eq_false',List.length_set,ne_eq,ge_iff_le,gt_iff_lt,ac,aa,ap];omega) (aE (by simp only [ag,au,aw,aj,ah,ae,ak,am,decide_eq_true_eq,decide_eq_false_iff_not,beq_iff_eq,beq_eq_false_iff_ne,bne_iff_ne,bne_eq_false_iff_eq,Bool.not_eq_true',Bool.not_eq_false',List.length_set,ne_eq,ge_iff_le,gt_iff_lt,ac,aa,ap];omega) (aE (by rw [hn];rfl) rfl))))
          | false=>rw [adK he];exact dS (cu (aE (by simp only [ag,au,aw,aj,ah,ae,ak,am,decide_eq_true_eq,decide_eq_false_iff_not,beq_iff_eq,beq_eq_false_iff_ne,bne_iff_ne,bne_eq_false_iff_eq,Bool.not_eq_true',Bool.not_eq_false',List.length_set,ne_eq,ge_iff_le,gt_iff_lt,ac,aa,ap];omega) (aE (by simp only [ag,au,aw,aj,ah,ae,ak,am,decide_eq_true_eq,decide_eq_false_iff_not,beq_iff_eq,beq_eq_false_iff_ne,bne_iff_ne,bne_eq_false_iff_eq,Bool.not_eq_true',Bool.not_eq_false',List.length_set,ne_eq,ge_iff_le,gt_iff_lt,ac,aa,ap];omega) (aE (by rw [hn];rfl) rfl))))
        | false =>
          rw [aln hg]
          cases he:yp (co (xs.getD 0 0)) 0 with
          | true =>
            rw [adJ he]
            have hn:isNaN (xs.getD 0 0)=false:=by have:=aoC he;rwa [oF] at this
            exact cu (dS (aE (by simp only [ag,au,aw,aj,ah,ae,ak,am,decide_eq_true_eq,decide_eq_false_iff_not,beq_iff_eq,beq_eq_false_iff_ne,bne_iff_ne,bne_eq_false_iff_eq,Bool.not_eq_true',Bool.not_eq_false',List.length_set,ne_eq,ge_iff_le,gt_iff_lt,ac,aa,ap];omega) (aE (by simp only [ag,au,aw,aj,ah,ae,ak,am,decide_eq_true_eq,decide_eq_false_iff_not,beq_iff_eq,beq_eq_false_iff_ne,bne_iff_ne,bne_eq_false_iff_eq,Bool.not_eq_true',Bool.not_eq_false',List.length_set,ne_eq,ge_iff_le,gt_iff_lt,ac,aa,ap];omega) (aE (by rw [hn];rfl) rfl))))
          | false =>
            rw [adK he]
            refine cu (cu (aE (by simp only [ag,au,aw,aj,ah,ae,ak,am,decide_eq_true_eq,decide_eq_false_iff_not,beq_iff_eq,beq_eq_false_iff_ne,bne_iff_ne,bne_eq_false_iff_eq,Bool.not_eq_true',Bool.not_eq_false',List.length_set,ne_eq,ge_iff_le,gt_iff_lt,ac,aa,ap];omega) (aE (by simp only [ag,au,aw,aj,ah,ae,ak,am,decide_eq_true_eq,decide_eq_false_iff_not,beq_iff_eq,beq_eq_false_iff_ne,bne_iff_ne,bne_eq_false_iff_eq,Bool.not_eq_true',Bool.not_eq_false',List.length_set,ne_eq,ge_iff_le,gt_iff_lt,ac,aa,ap];omega) (aE ?_ rfl))))
            cases hn:isNaN (xs.getD 0 0) with
            | false=>rfl
            | true=>exact ahq (by rw [oF];exact hn)
      · exact aE (by simp only [ag,au,aw,aj,ah,ae,ak,am,decide_eq_true_eq,decide_eq_false_iff_not,beq_iff_eq,beq_eq_false_iff_ne,bne_iff_ne,bne_eq_false_iff_eq,Bool.not_eq_true',Bool.not_eq_false',List.length_set,ne_eq,ge_iff_le,gt_iff_lt,ac,aa,ap];omega) (aE (by simp only [ag,au,aw,aj,ah,ae,ak,am,decide_eq_true_eq,decide_eq_false_iff_not,beq_iff_eq,beq_eq_false_iff_ne,bne_iff_ne,bne_eq_false_iff_eq,Bool.not_eq_true',Bool.not_eq_false',List.length_set,ne_eq,ge_iff_le,gt_iff_lt,ac,aa,ap];omega) (aE (by simp only [ag,au,aw,aj,ah,ae,ak,am,decide_eq_true_eq,decide_eq_false_iff_not,beq_iff_eq,beq_eq_false_iff_ne,bne_iff_ne,bne_eq_false_iff_eq,Bool.not_eq_true',Bool.not_eq_false',List.length_set,ne_eq,ge_iff_le,gt_iff_lt,ac,aa,ap];omega) (aE (by simp only [ag,au,aw,aj,ah,ae,ak,am,decide_eq_true_eq,decide_eq_false_iff_not,beq_iff_eq,beq_eq_false_iff_ne,bne_iff_ne,bne_eq_false_iff_eq,Bool.not_eq_true',Bool.not_eq_false',List.length_set,ne_eq,ge_iff_le,gt_iff_lt,ac,aa,ap];omega) rfl)))
      · refine bH (fun j=>(j+1,vGo xs (fdiv 4607182418800017408 (sO (xs.getD 0 0) (oi (xs.getD 0 0) (jz xs)))) j)) (xs.length-1) rfl (fun j hj=>?_) (bY (by simp only [ag,au,aw,aj,ah,ae,ak,am,decide_eq_true_eq,decide_eq_false_iff_not,beq_iff_eq,beq_eq_false_iff_ne,bne_iff_ne,bne_eq_false_iff_eq,Bool.not_eq_true',Bool.not_eq_false',List.length_set,ne_eq,ge_iff_le,gt_iff_lt,ac,aa,ap];omega) rfl)
        show (vZ _ _ _ _).run=_
        unfold vZ
        rw [adI]
        exact cV (by simp only [ag,au,aw,aj,ah,ae,ak,am,decide_eq_true_eq,decide_eq_false_iff_not,beq_iff_eq,beq_eq_false_iff_ne,bne_iff_ne,bne_eq_false_iff_eq,Bool.not_eq_true',Bool.not_eq_false',List.length_set,ne_eq,ge_iff_le,gt_iff_lt,ac,aa,ap];omega) (aE (by simp only [ag,au,aw,aj,ah,ae,ak,am,decide_eq_true_eq,decide_eq_false_iff_not,beq_iff_eq,beq_eq_false_iff_ne,bne_iff_ne,bne_eq_false_iff_eq,Bool.not_eq_true',Bool.not_eq_false',List.length_set,ne_eq,ge_iff_le,gt_iff_lt,ac,aa,ap];omega) (aE (by simp only [ag,au,aw,aj,ah,ae,ak,am,decide_eq_true_eq,decide_eq_false_iff_not,beq_iff_eq,beq_eq_false_iff_ne,bne_iff_ne,bne_eq_false_iff_eq,Bool.not_eq_true',Bool.not_eq_false',List.length_set,ne_eq,ge_iff_le,gt_iff_lt,ac,aa,ap];omega) (aE (by simp only [ag,au,aw,aj,ah,ae,ak,am,decide_eq_true_eq,decide_eq_false_iff_not,beq_iff_eq,beq_eq_false_iff_ne,bne_iff_ne,bne_eq_false_iff_eq,Bool.not_eq_true',Bool.not_eq_false',List.length_set,ne_eq,ge_iff_le,gt_iff_lt,ac,aa,ap];omega) (aE (by simp only [ag,au,aw,aj,ah,ae,ak,am,decide_eq_true_eq,decide_eq_false_iff_not,beq_iff_eq,beq_eq_false_iff_ne,bne_iff_ne,bne_eq_false_iff_eq,Bool.not_eq_true',Bool.not_eq_false',List.length_set,ne_eq,ge_iff_le,gt_iff_lt,ac,aa,ap];omega) (aE (by simp only [ag,au,aw,aj,ah,ae,ak,am,decide_eq_true_eq,decide_eq_false_iff_not,beq_iff_eq,beq_eq_false_iff_ne,bne_iff_ne,bne_eq_false_iff_eq,Bool.not_eq_true',Bool.not_eq_false',List.length_set,ne_eq,ge_iff_le,gt_iff_lt,ac,aa,ap];omega) rfl)))))
theorem X7{xs:List Nat}(h0:0<xs.length)(h:xs.length≤1000000) :fg xs=some (.r0 (K5 xs) xs.length (G3 xs) (Cy xs)):=by
  refine bT (aA (a:=(jz xs,e1F xs.length)) ?_ ?_)
  · unfold KZ
    rw [aki (by rw [ahs h0];omega),List.length_replicate]
    simp only [qA,rc]
    (refine aE (by simp only [ag,au,aw,aj,ah,ae,ak,am,decide_eq_true_eq,decide_eq_false_iff_not,beq_iff_eq,beq_eq_false_iff_ne,bne_iff_ne,bne_eq_false_iff_eq,Bool.not_eq_true',Bool.not_eq_false',List.length_set,ne_eq,ge_iff_le,gt_iff_lt,ac,aa,ap];omega) ?_;refine aE (by simp only [ag,au,aw,aj,ah,ae,ak,am,decide_eq_true_eq,decide_eq_false_iff_not,beq_iff_eq,beq_eq_false_iff_ne,bne_iff_ne,bne_eq_false_iff_eq,Bool.not_eq_true',Bool.not_eq_false',List.length_set,ne_eq,ge_iff_le,gt_iff_lt,ac,aa,ap];omega) ?_;refine aE (by simp only [ag,au,aw,aj,ah,ae,ak,am,decide_eq_true_eq,decide_eq_false_iff_not,beq_iff_eq,beq_eq_false_iff_ne,bne_iff_ne,bne_eq_false_iff_eq,Bool.not_eq_true',Bool.not_eq_false',List.length_set,ne_eq,ge_iff_le,gt_iff_lt,ac,aa,ap];omega) ?_;refine aE (by simp only [ag,au,aw,aj,ah,ae,ak,am,decide_eq_true_eq,decide_eq_false_iff_not,beq_iff_eq,beq_eq_false_iff_ne,bne_iff_ne,bne_eq_false_iff_eq,Bool.not_eq_true',Bool.not_eq_false',List.length_set,ne_eq,ge_iff_le,gt_iff_lt,ac,aa,ap];omega) ?_;refine aE (by simp only [ag,au,aw,aj,ah,ae,ak,am,decide_eq_true_eq,decide_eq_false_iff_not,beq_iff_eq,beq_eq_false_iff_ne,bne_iff_ne,bne_eq_false_iff_eq,Bool.not_eq_true',Bool.not_eq_false',List.length_set,ne_eq,ge_iff_le,gt_iff_lt,ac,aa,ap];omega) ?_;refine aE (by simp only [ag,au,aw,aj,ah,ae,ak,am,decide_eq_true_eq,decide_eq_false_iff_not,beq_iff_eq,beq_eq_false_iff_ne,bne_iff_ne,bne_eq_false_iff_eq,Bool.not_eq_true',Bool.not_eq_false',List.length_set,ne_eq,ge_iff_le,gt_iff_lt,ac,aa,ap];omega) ?_;refine aE (by simp only [ag,au,aw,aj,ah,ae,ak,am,decide_eq_true_eq,decide_eq_false_iff_not,beq_iff_eq,beq_eq_false_iff_ne,bne_iff_ne,bne_eq_false_iff_eq,Bool.not_eq_true',Bool.not_eq_false',List.length_set,ne_eq,ge_iff_le,gt_iff_lt,ac,aa,ap];omega) ?_;refine aE (by simp only [ag,au,aw,aj,ah,ae,ak,am,decide_eq_true_eq,decide_eq_false_iff_not,beq_iff_eq,beq_eq_false_iff_ne,bne_iff_ne,bne_eq_false_iff_eq,Bool.not_eq_true',Bool.not_eq_false',List.length_set,ne_eq,ge_iff_le,gt_iff_lt,ac,aa,ap];omega) ?_)
    refine aE (by simp only [ag,au,aw,aj,ah,ae,ak,am,decide_eq_true_eq,decide_eq_false_iff_not,beq_iff_eq,beq_eq_false_iff_ne,bne_iff_ne,bne_eq_false_iff_eq,Bool.not_eq_true',Bool.not_eq_false',List.length_set,ne_eq,ge_iff_le,gt_iff_lt,ac,aa,ap];omega) (aS rfl)
  · cases hl:yp (jz xs) 0 with
    | true=>obtain ⟨e1,e2,e3⟩:=aoD hl;rw [e1,e2,e3];exact bU (cV hl (aE (by simp only [ag,au,aw,aj,ah,ae,ak,am,decide_eq_true_eq,decide_eq_false_iff_not,beq_iff_eq,beq_eq_false_iff_ne,bne_iff_ne,bne_eq_false_iff_eq,Bool.not_eq_true',Bool.not_eq_false',List.length_set,ne_eq,ge_iff_le,gt_iff_lt,ac,aa,ap];omega) (aE (by simp only [ag,au,aw,aj,ah,ae,ak,am,decide_eq_true_eq,decide_eq_false_iff_not,beq_iff_eq,beq_eq_false_iff_ne,bne_iff_ne,bne_eq_false_iff_eq,Bool.not_eq_true',Bool.not_eq_false',List.length_set,ne_eq,ge_iff_le,gt_iff_lt,ac,aa,ap];omega) rfl)))
    | false =>
      obtain ⟨e1,e2,e3⟩:=aoE hl
      rw [e1,e2,e3]
      refine aA (a:=oi (xs.getD 0 0) (jz xs)) ?_ (aA (a:=(fdiv (sO (oi (xs.getD 0 0) (jz xs)) (xs.getD 0 0)) (oi (xs.getD 0 0) (jz xs)),fdiv 4607182418800017408 (sO (xs.getD 0 0) (oi (xs.getD 0 0) (jz xs))))) ?_ (aA (a:=vGo xs (fdiv 4607182418800017408 (sO (xs.getD 0 0) (oi (xs.getD 0 0) (jz xs)))) (xs.length-1)) ?_ rfl))
      · unfold IY
        refine bY hl (aE (by simp only [ag,au,aw,aj,ah,ae,ak,am,decide_eq_true_eq,decide_eq_false_iff_not,beq_iff_eq,beq_eq_false_iff_ne,bne_iff_ne,bne_eq_false_iff_eq,Bool.not_eq_true',Bool.not_eq_false',List.length_set,ne_eq,ge_iff_le,gt_iff_lt,ac,aa,ap];omega) (aE (by simp only [ag,au,aw,aj,ah,ae,ak,am,decide_eq_true_eq,decide_eq_false_iff_not,beq_iff_eq,beq_eq_false_iff_ne,bne_iff_ne,bne_eq_false_iff_eq,Bool.not_eq_true',Bool.not_eq_false',List.length_set,ne_eq,ge_iff_le,gt_iff_lt,ac,aa,ap];omega) ?_))
        cases hg:Yh (co (jz xs)) (co (xs.getD 0 0)) with
        | true =>
          rw [alm hg]
          have hn:isNaN (xs.getD 0 0)=false:=by have:=(aoB hg).2;rwa [oF] at this
          cases he:yp (co (jz xs)) 0 with
          | true=>rw [adJ he];exact dS (dS (aE (by simp only [ag,au,aw,aj,ah,ae,ak,am,decide_eq_true_eq,decide_eq_false_iff_not,beq_iff_eq,beq_eq_false_iff_ne,bne_iff_ne,bne_eq_false_iff_eq,Bool.not_eq_true',Bool.not_eq_false',List.length_set,ne_eq,ge_iff_le,gt_iff_lt,ac,aa,ap];omega) (aE (by simp only [ag,au,aw,aj,ah,ae,ak,am,decide_eq_true_eq,decide_eq_false_iff_not,beq_iff_eq,beq_eq_false_iff_ne,bne_iff_ne,bne_eq_false_iff_eq,Bool.not_eq_true',Bool.not_eq_false',List.length_set,ne_eq,ge_iff_le,gt_iff_lt,ac,aa,ap];omega) (aE (by rw [hn];rfl) rfl))))
          | false=>rw [adK he];exact dS (cu (aE (by simp only [ag,au,aw,aj,ah,ae,ak,am,decide_eq_true_eq,decide_eq_false_iff_not,beq_iff_eq,beq_eq_false_iff_ne,bne_iff_ne,bne_eq_false_iff_eq,Bool.not_eq_true',Bool.not_eq_false',List.length_set,ne_eq,ge_iff_le,gt_iff_lt,ac,aa,ap];omega) (aE (by simp only [ag,au,aw,aj,ah,ae,ak,am,decide_eq_true_eq,decide_eq_false_iff_not,beq_iff_eq,beq_eq_false_iff_ne,bne_iff_ne,bne_eq_false_iff_eq,Bool.not_eq_true',Bool.not_eq_false',List.length_set,ne_eq,ge_iff_le,gt_iff_lt,ac,aa,ap];omega) (aE (by rw [hn];rfl) rfl))))
        | false =>
          rw [aln hg]
          cases he:yp (co (xs.getD 0 0)) 0 with
          | true =>
            rw [adJ he]
            have hn:isNaN (xs.getD 0 0)=false:=by have:=aoC he;rwa [oF] at this
            exact cu (dS (aE (by simp only [ag,au,aw,aj,ah,ae,ak,am,decide_eq_true_eq,decide_eq_false_iff_not,beq_iff_eq,beq_eq_false_iff_ne,bne_iff_ne,bne_eq_false_iff_eq,Bool.not_eq_true',Bool.not_eq_false',List.length_set,ne_eq,ge_iff_le,gt_iff_lt,ac,aa,ap];omega) (aE (by simp only [ag,au,aw,aj,ah,ae,ak,am,decide_eq_true_eq,decide_eq_false_iff_not,beq_iff_eq,beq_eq_false_iff_ne,bne_iff_ne,bne_eq_false_iff_eq,Bool.not_eq_true',Bool.not_eq_false',List.length_set,ne_eq,ge_iff_le,gt_iff_lt,ac,aa,ap];omega) (aE (by rw [hn];rfl) rfl))))
          | false =>
            rw [adK he]
            refine cu (cu (aE (by simp only [ag,au,aw,aj,ah,ae,ak,am,decide_eq_true_eq,decide_eq_false_iff_not,beq_iff_eq,beq_eq_false_iff_ne,bne_iff_ne,bne_eq_false_iff_eq,Bool.not_eq_true',Bool.not_eq_false',List.length_set,ne_eq,ge_iff_le,gt_iff_lt,ac,aa,ap];omega) (aE (by simp only [ag,au,aw,aj,ah,ae,ak,am,decide_eq_true_eq,decide_eq_false_iff_not,beq_iff_eq,beq_eq_false_iff_ne,bne_iff_ne,bne_eq_false_iff_eq,Bool.not_eq_true',Bool.not_eq_false',List.length_set,ne_eq,ge_iff_le,gt_iff_lt,ac,aa,ap];omega) (aE ?_ rfl))))
            cases hn:isNaN (xs.getD 0 0) with
            | false=>rfl
            | true=>exact ahq (by rw [oF];exact hn)
      · exact aE (by simp only [ag,au,aw,aj,ah,ae,ak,am,decide_eq_true_eq,decide_eq_false_iff_not,beq_iff_eq,beq_eq_false_iff_ne,bne_iff_ne,bne_eq_false_iff_eq,Bool.not_eq_true',Bool.not_eq_false',List.length_set,ne_eq,ge_iff_le,gt_iff_lt,ac,aa,ap];omega) (aE (by simp only [ag,au,aw,aj,ah,ae,ak,am,decide_eq_true_eq,decide_eq_false_iff_not,beq_iff_eq,beq_eq_false_iff_ne,bne_iff_ne,bne_eq_false_iff_eq,Bool.not_eq_true',Bool.not_eq_false',List.length_set,ne_eq,ge_iff_le,gt_iff_lt,ac,aa,ap];omega) (aE (by simp only [ag,au,aw,aj,ah,ae,ak,am,decide_eq_true_eq,decide_eq_false_iff_not,beq_iff_eq,beq_eq_false_iff_ne,bne_iff_ne,bne_eq_false_iff_eq,Bool.not_eq_true',Bool.not_eq_false',List.length_set,ne_eq,ge_iff_le,gt_iff_lt,ac,aa,ap];omega) (aE (by simp only [ag,au,aw,aj,ah,ae,ak,am,decide_eq_true_eq,decide_eq_false_iff_not,beq_iff_eq,beq_eq_false_iff_ne,bne_iff_ne,bne_eq_false_iff_eq,Bool.not_eq_true',Bool.not_eq_false',List.length_set,ne_eq,ge_iff_le,gt_iff_lt,ac,aa,ap];omega) rfl)))
      · refine bH (fun j=>(j+1,vGo xs (fdiv 4607182418800017408 (sO (xs.getD 0 0) (oi (xs.getD 0 0) (jz xs)))) j)) (xs.length-1) rfl (fun j hj=>?_) (bY (by simp only [ag,au,aw,aj,ah,ae,ak,am,decide_eq_true_eq,decide_eq_false_iff_not,beq_iff_eq,beq_eq_false_iff_ne,bne_iff_ne,bne_eq_false_iff_eq,Bool.not_eq_true',Bool.not_eq_false',List.length_set,ne_eq,ge_iff_le,gt_iff_lt,ac,aa,ap];omega) rfl)
        show (Bm _ _ _ _).run=_
        unfold Bm
        rw [adI]
        exact cV (by simp only [ag,au,aw,aj,ah,ae,ak,am,decide_eq_true_eq,decide_eq_false_iff_not,beq_iff_eq,beq_eq_false_iff_ne,bne_iff_ne,bne_eq_false_iff_eq,Bool.not_eq_true',Bool.not_eq_false',List.length_set,ne_eq,ge_iff_le,gt_iff_lt,ac,aa,ap];omega) (aE (by simp only [ag,au,aw,aj,ah,ae,ak,am,decide_eq_true_eq,decide_eq_false_iff_not,beq_iff_eq,beq_eq_false_iff_ne,bne_iff_ne,bne_eq_false_iff_eq,Bool.not_eq_true',Bool.not_eq_false',List.length_set,ne_eq,ge_iff_le,gt_iff_lt,ac,aa,ap];omega) (aE (by simp only [ag,au,aw,aj,ah,ae,ak,am,decide_eq_true_eq,decide_eq_false_iff_not,beq_iff_eq,beq_eq_false_iff_ne,bne_iff_ne,bne_eq_false_iff_eq,Bool.not_eq_true',Bool.not_eq_false',List.length_set,ne_eq,ge_iff_le,gt_iff_lt,ac,aa,ap];omega) (aE (by simp only [ag,au,aw,aj,ah,ae,ak,am,decide_eq_true_eq,decide_eq_false_iff_not,beq_iff_eq,beq_eq_false_iff_ne,bne_iff_ne,bne_eq_false_iff_eq,Bool.not_eq_true',Bool.not_eq_false',List.length_set,ne_eq,ge_iff_le,gt_iff_lt,ac,aa,ap];omega) (aE (by simp only [ag,au,aw,aj,ah,ae,ak,am,decide_eq_true_eq,decide_eq_false_iff_not,beq_iff_eq,beq_eq_false_iff_ne,bne_iff_ne,bne_eq_false_iff_eq,Bool.not_eq_true',Bool.not_eq_false',List.length_set,ne_eq,ge_iff_le,gt_iff_lt,ac,aa,ap];omega) (aE (by simp only [ag,au,aw,aj,ah,ae,ak,am,decide_eq_true_eq,decide_eq_false_iff_not,beq_iff_eq,beq_eq_false_iff_ne,bne_iff_ne,bne_eq_false_iff_eq,Bool.not_eq_true',Bool.not_eq_false',List.length_set,ne_eq,ge_iff_le,gt_iff_lt,ac,aa,ap];omega) rfl)))))
def pushF{α:Type}(f:Nat→α) :Nat→List α
  | 0=>[]
  | n+1=>pushF f n++[f n]
theorem pushF_len{α:Type}{f:Nat→α} :∀ {n:Nat},(pushF f n).length=n
  | 0=>rfl
  | n+1=>by simp only [pushF,List.length_append,List.length_singleton,pushF_len (n:=n)]
theorem BB{α:Type}{f:Nat→α}{n:Nat} :(pushF f n).take n=pushF f n:=by
  rw [List.take_of_length_le];rw [pushF_len];exact Nat.le_refl n
theorem amP{c i at_ n:Nat}{vs xs:List Nat}(hn:n≤vs.length)(hi:∀ j,j<n→i*c+(at_+j)<xs.length)(hL:xs.length≤1000000000)(hx:i≤1000000000)(hn':n≤1000000000) :
    dr (n:Int) (c:Int) xs (i:Int) (at_:Int) vs=some (.r0 (Z7 (fun j=>eY (xs.getD (i*c+(at_+j)) 0) (vs.getD j 0)) n)):=by
  refine bT (aA rfl (aA (bH (fun j=>(Z7 (fun j=>eY (xs.getD (i*c+(at_+j)) 0) (vs.getD j 0)) j,j)) n rfl (fun j hj=>?_) ?_) rfl))
  · have h:=BA (x:=i) (hi j hj) hL (by omega)
    have h':=BA (x:=i) (c:=c) (k:=at_) (L:=xs.length) (by have:=hi j hj;omega) hL (by omega)
    show (gA _ _ _ _ _ _ _ _).run=_
    unfold gA
    rw [Int.add_assoc,ahm]
    refine cV (by simp only [ag,au,aw,aj,ah,ae,ak,am,decide_eq_true_eq,decide_eq_false_iff_not,beq_iff_eq,beq_eq_false_iff_ne,bne_iff_ne,bne_eq_false_iff_eq,Bool.not_eq_true',Bool.not_eq_false',List.length_set,ne_eq,ge_iff_le,gt_iff_lt,ac,aa,ap];omega) (aE h.b (aE h'.c (aE h.c (aE h.d (aE h.e (aE (by simp only [ag,au,aw,aj,ah,ae,ak,am,decide_eq_true_eq,decide_eq_false_iff_not,beq_iff_eq,beq_eq_false_iff_ne,bne_iff_ne,bne_eq_false_iff_eq,Bool.not_eq_true',Bool.not_eq_false',List.length_set,ne_eq,ge_iff_le,gt_iff_lt,ac,aa,ap];omega) (aE (by simp only [ag,au,aw,aj,ah,ae,ak,am,decide_eq_true_eq,decide_eq_false_iff_not,beq_iff_eq,beq_eq_false_iff_ne,bne_iff_ne,bne_eq_false_iff_eq,Bool.not_eq_true',Bool.not_eq_false',List.length_set,ne_eq,ge_iff_le,gt_iff_lt,ac,aa,ap];omega) (aE (by simp only [ag,au,aw,aj,ah,ae,ak,am,decide_eq_true_eq,decide_eq_false_iff_not,beq_iff_eq,beq_eq_false_iff_ne,bne_iff_ne,bne_eq_false_iff_eq,Bool.not_eq_true',Bool.not_eq_false',List.length_set,ne_eq,ge_iff_le,gt_iff_lt,ac,aa,ap];omega) ?_))))))))
    rw [h.f];rfl
  · exact bY (by simp only [ag,au,aw,aj,ah,ae,ak,am,decide_eq_true_eq,decide_eq_false_iff_not,beq_iff_eq,beq_eq_false_iff_ne,bne_iff_ne,bne_eq_false_iff_eq,Bool.not_eq_true',Bool.not_eq_false',List.length_set,ne_eq,ge_iff_le,gt_iff_lt,ac,aa,ap];omega) rfl
def riP(c at_:Nat)(k i:Nat) :Nat:=k*c+(at_+i)
def riA(xs vs:List Nat)(c at_:Nat)(k i:Nat) :Nat:=eY (xs.getD (k*c+(at_+i)) 0) (vs.getD i 0)
def riV(vs:List Nat)(i w:Nat) :Nat:=eY w (vs.getD i 0)
def Q2(xs vs:List Nat)(r c at_ frm tau:Nat) :List Nat:=aho xs (riP c at_) (riA xs vs c at_) (riV vs) tau vs.length frm (r-frm)
theorem aoF{xs vs out:List Nat}{r c at_ k w n:Nat}(hx:xs.length=r*c)(hk:k<r)(hat:at_+vs.length≤c)(hr:r≤512)(hc:c≤512)(ho:out.length=xs.length)(hn:n=xs.length) 
    (hsame:∀ i,i<vs.length→out.getD (riP c at_ k i) 0=xs.getD (riP c at_ k i) 0) :
    ch (oa (c:Int) (at_:Int) vs n (k:Int) w) (0,out)=some (.inl (ph xs (riP c at_) (riV vs) w k out vs.length)):=by
  have hL:r*c≤262144:=Nat.mul_le_mul hr hc
  refine bH (fun j=>(j,ph xs (riP c at_) (riV vs) w k out j)) vs.length rfl (fun j hj=>?_) ?_
  · have hi:k*c+(at_+j)<xs.length:=by rw [hx];exact pg hk (by omega)
    have h:=BA (x:=k) hi (by omega) (by omega)
    have h':=BA (x:=k) (c:=c) (k:=at_) (L:=xs.length) (by omega) (by omega) (by omega)
    have hl:(ph xs (riP c at_) (riV vs) w k out j).length=xs.length:=by unfold ph;rw [ac,ho]
    show (ur _ _ _ _ _ _ _ _).run=_
    unfold ur
    rw [Int.add_assoc,ahm,hl,hn]
    refine cV (by simp only [ag,au,aw,aj,ah,ae,ak,am,decide_eq_true_eq,decide_eq_false_iff_not,beq_iff_eq,beq_eq_false_iff_ne,bne_iff_ne,bne_eq_false_iff_eq,Bool.not_eq_true',Bool.not_eq_false',List.length_set,ne_eq,ge_iff_le,gt_iff_lt,ac,aa,ap];omega) (aE (by simp only [ag,au,aw,aj,ah,ae,ak,am,decide_eq_true_eq,decide_eq_false_iff_not,beq_iff_eq,beq_eq_false_iff_ne,bne_iff_ne,bne_eq_false_iff_eq,Bool.not_eq_true',Bool.not_eq_false',List.length_set,ne_eq,ge_iff_le,gt_iff_lt,ac,aa,ap];omega) (aE (by simp only [ag,au,aw,aj,ah,ae,ak,am,decide_eq_true_eq,decide_eq_false_iff_not,beq_iff_eq,beq_eq_false_iff_ne,bne_iff_ne,bne_eq_false_iff_eq,Bool.not_eq_true',Bool.not_eq_false',List.length_set,ne_eq,ge_iff_le,gt_iff_lt,ac,aa,ap];omega) (aE h.b (aE h'.c (aE h.c (aE h.d (aE h.e (aE h.d (aE h.e (aE (by simp only [ag,au,aw,aj,ah,ae,ak,am,decide_eq_true_eq,decide_eq_false_iff_not,beq_iff_eq,beq_eq_false_iff_ne,bne_iff_ne,bne_eq_false_iff_eq,Bool.not_eq_true',Bool.not_eq_false',List.length_set,ne_eq,ge_iff_le,gt_iff_lt,ac,aa,ap];omega) ?_))))))))))
    rw [h.f]
    have e:(ph xs (riP c at_) (riV vs) w k out j).getD (k*c+(at_+j)) 0=xs.getD (k*c+(at_+j)) 0:=by
      unfold ph
      rw [Gf (fun i hi=>?_)]
      · exact hsame j hj
      · intro q
        have:=(Ug (i:=k) (i':=k) (by omega) (by omega) q).2
        omega
    rw [e];rfl
  · exact bY (by simp only [ag,au,aw,aj,ah,ae,ak,am,decide_eq_true_eq,decide_eq_false_iff_not,beq_iff_eq,beq_eq_false_iff_ne,bne_iff_ne,bne_eq_false_iff_eq,Bool.not_eq_true',Bool.not_eq_false',List.length_set,ne_eq,ge_iff_le,gt_iff_lt,ac,aa,ap];omega) rfl
theorem akj{xs vs:List Nat}{r c at_ frm tau:Nat}(hx:xs.length=r*c)(hr:r≤512)(hc:c≤512)(hv:0<vs.length)(hat:at_+vs.length≤c)(hf:frm≤r) :
    ic (r:Int) (c:Int) xs (at_:Int) (frm:Int) vs tau=some (.r0 0 r c xs.length (Q2 xs vs r c at_ frm tau)):=by
  have hL:r*c≤262144:=Nat.mul_le_mul hr hc
  have hm:akg (r:Int) (c:Int) xs.length=true:=by
    unfold akg
    have:(xs.length:Int)=(r:Int)*(c:Int):=by rw [hx,Int.natCast_mul]
    simp only [Bool.and_eq_true,decide_eq_true_eq,beq_iff_eq];omega
  refine bT (aA (a:=false) ?_ (aA (a:=false) ?_ ?_))
  · unfold Cg
    rw [dg,ahn,hm]
    exact aE (nr xs) (aS (cu (bY (by simp only [ag,au,aw,aj,ah,ae,ak,am,decide_eq_true_eq,decide_eq_false_iff_not,beq_iff_eq,beq_eq_false_iff_ne,bne_iff_ne,bne_eq_false_iff_eq,Bool.not_eq_true',Bool.not_eq_false',List.length_set,ne_eq,ge_iff_le,gt_iff_lt,ac,aa,ap];omega) (bY (by simp only [ag,au,aw,aj,ah,ae,ak,am,decide_eq_true_eq,decide_eq_false_iff_not,beq_iff_eq,beq_eq_false_iff_ne,bne_iff_ne,bne_eq_false_iff_eq,Bool.not_eq_true',Bool.not_eq_false',List.length_set,ne_eq,ge_iff_le,gt_iff_lt,ac,aa,ap];omega) (by rw [decide_eq_false (by omega)];rfl)))))
  · unfold Ch
    exact cu (aE (by simp only [ag,au,aw,aj,ah,ae,ak,am,decide_eq_true_eq,decide_eq_false_iff_not,beq_iff_eq,beq_eq_false_iff_ne,bne_iff_ne,bne_eq_false_iff_eq,Bool.not_eq_true',Bool.not_eq_false',List.length_set,ne_eq,ge_iff_le,gt_iff_lt,ac,aa,ap];omega) (bY (by simp only [ag,au,aw,aj,ah,ae,ak,am,decide_eq_true_eq,decide_eq_false_iff_not,beq_iff_eq,beq_eq_false_iff_ne,bne_iff_ne,bne_eq_false_iff_eq,Bool.not_eq_true',Bool.not_eq_false',List.length_set,ne_eq,ge_iff_le,gt_iff_lt,ac,aa,ap];omega) (by rw [decide_eq_false (by omega)];rfl)))
  · unfold Q2 aho
    cases ht:yp tau 0 with
    | true =>
      refine bU ?_
      unfold um
      rw [dg]
      exact cu (aE (nr xs) (aE (by simp only [ag,au,aw,aj,ah,ae,ak,am,decide_eq_true_eq,decide_eq_false_iff_not,beq_iff_eq,beq_eq_false_iff_ne,bne_iff_ne,bne_eq_false_iff_eq,Bool.not_eq_true',Bool.not_eq_false',List.length_set,ne_eq,ge_iff_le,gt_iff_lt,ac,aa,ap];omega) (cV ht rfl)))
    | false =>
      refine aA (a:=(xs.length,xs)) ?_ (aA (a:=yn xs (riP c at_) (riA xs vs c at_) (riV vs) tau vs.length frm (r-frm)) ?_ rfl)
      · unfold um
        rw [dg]
        exact cu (aE (nr xs) (aE (by simp only [ag,au,aw,aj,ah,ae,ak,am,decide_eq_true_eq,decide_eq_false_iff_not,beq_iff_eq,beq_eq_false_iff_ne,bne_iff_ne,bne_eq_false_iff_eq,Bool.not_eq_true',Bool.not_eq_false',List.length_set,ne_eq,ge_iff_le,gt_iff_lt,ac,aa,ap];omega) (bY ht rfl)))
      · refine bH (fun j=>(((frm+j:Nat):Int),yn xs (riP c at_) (riA xs vs c at_) (riV vs) tau vs.length frm j)) (r-frm) rfl (fun j hj=>?_) ?_
        · show aL (uo _ _ _).run _=_
          have hk:frm+j<r:=by omega
          refine aA (a:=()) (cV (by simp only [ag,au,aw,aj,ah,ae,ak,am,decide_eq_true_eq,decide_eq_false_iff_not,beq_iff_eq,beq_eq_false_iff_ne,bne_iff_ne,bne_eq_false_iff_eq,Bool.not_eq_true',Bool.not_eq_false',List.length_set,ne_eq,ge_iff_le,gt_iff_lt,ac,aa,ap];omega) rfl) (aA (pf (a:=yn xs (riP c at_) (riA xs vs c at_) (riV vs) tau vs.length frm (j+1)) ?_) ?_)
          · refine aA (a:=ard xs tau vs.length (riA xs vs c at_) (frm+j)) ?_ (aA rfl (aA ?_ rfl))
            · unfold Cj
              rw [dg,dg,amP (Nat.le_refl _) (fun i hi=>by rw [hx];exact pg hk (by omega)) (by omega) (by omega) (by omega)]
              exact aE (nr xs) (aE (nr vs) (aS rfl))
            · refine aoF hx hk hat hr hc Am rfl (fun i hi=>?_)
              refine Jb fun j' i' hj' hi' q=>?_
              have:=(Ug (by omega) (by omega) q).1
              omega
          · refine aE (by simp only [ag,au,aw,aj,ah,ae,ak,am,decide_eq_true_eq,decide_eq_false_iff_not,beq_iff_eq,beq_eq_false_iff_ne,bne_iff_ne,bne_eq_false_iff_eq,Bool.not_eq_true',Bool.not_eq_false',List.length_set,ne_eq,ge_iff_le,gt_iff_lt,ac,aa,ap];omega) ?_
            rfl
        · show aL (uo _ _ _).run _=_
          exact bU (bY (by simp only [ag,au,aw,aj,ah,ae,ak,am,decide_eq_true_eq,decide_eq_false_iff_not,beq_iff_eq,beq_eq_false_iff_ne,bne_iff_ne,bne_eq_false_iff_eq,Bool.not_eq_true',Bool.not_eq_false',List.length_set,ne_eq,ge_iff_le,gt_iff_lt,ac,aa,ap];omega) rfl)
theorem akk{xs vs:List Nat}{r c at_ k:Nat}(hx:xs.length=r*c)(hk:k<r)(hat:at_+vs.length≤c)(hr:r≤512)(hc:c≤512) :
    ch (rp (c:Int) xs (at_:Int) vs (k:Int)) (0,0)=some (.inl (Z7 (riA xs vs c at_ k) vs.length)):=by
  have hL:r*c≤262144:=Nat.mul_le_mul hr hc
  refine bH (fun j=>(Z7 (riA xs vs c at_ k) j,j)) vs.length rfl (fun j hj=>?_) ?_
  · have hi:k*c+(at_+j)<xs.length:=by rw [hx];exact pg hk (by omega)
    have h:=BA (x:=k) hi (by omega) (by omega)
    have h':=BA (x:=k) (c:=c) (k:=at_) (L:=xs.length) (by omega) (by omega) (by omega)
    show (zn _ _ _ _ _ _ _).run=_
    unfold zn
    rw [Int.add_assoc,ahm]
    refine cV (by simp only [ag,au,aw,aj,ah,ae,ak,am,decide_eq_true_eq,decide_eq_false_iff_not,beq_iff_eq,beq_eq_false_iff_ne,bne_iff_ne,bne_eq_false_iff_eq,Bool.not_eq_true',Bool.not_eq_false',List.length_set,ne_eq,ge_iff_le,gt_iff_lt,ac,aa,ap];omega) (aE h.b (aE h'.c (aE h.c (aE h.d (aE h.e (aE (by simp only [ag,au,aw,aj,ah,ae,ak,am,decide_eq_true_eq,decide_eq_false_iff_not,beq_iff_eq,beq_eq_false_iff_ne,bne_iff_ne,bne_eq_false_iff_eq,Bool.not_eq_true',Bool.not_eq_false',List.length_set,ne_eq,ge_iff_le,gt_iff_lt,ac,aa,ap];omega) (aE (by simp only [ag,au,aw,aj,ah,ae,ak,am,decide_eq_true_eq,decide_eq_false_iff_not,beq_iff_eq,beq_eq_false_iff_ne,bne_iff_ne,bne_eq_false_iff_eq,Bool.not_eq_true',Bool.not_eq_false',List.length_set,ne_eq,ge_iff_le,gt_iff_lt,ac,aa,ap];omega) (aE (by simp only [ag,au,aw,aj,ah,ae,ak,am,decide_eq_true_eq,decide_eq_false_iff_not,beq_iff_eq,beq_eq_false_iff_ne,bne_iff_ne,bne_eq_false_iff_eq,Bool.not_eq_true',Bool.not_eq_false',List.length_set,ne_eq,ge_iff_le,gt_iff_lt,ac,aa,ap];omega) ?_))))))))
    rw [h.f];rfl
  · exact bY (by simp only [ag,au,aw,aj,ah,ae,ak,am,decide_eq_true_eq,decide_eq_false_iff_not,beq_iff_eq,beq_eq_false_iff_ne,bne_iff_ne,bne_eq_false_iff_eq,Bool.not_eq_true',Bool.not_eq_false',List.length_set,ne_eq,ge_iff_le,gt_iff_lt,ac,aa,ap];omega) rfl
theorem amQ{xs vs out:List Nat}{r c at_ k w:Nat}(hx:xs.length=r*c)(hk:k<r)(hat:at_+vs.length≤c)(hr:r≤512)(hc:c≤512)(ho:out.length=xs.length) :
    ch (rr (c:Int) xs (at_:Int) vs (k:Int) w) (0,out)=some (.inl (ph xs (riP c at_) (riV vs) w k out vs.length)):=by
  have hL:r*c≤262144:=Nat.mul_le_mul hr hc
  refine bH (fun j=>(j,ph xs (riP c at_) (riV vs) w k out j)) vs.length rfl (fun j hj=>?_) ?_
  · have hi:k*c+(at_+j)<xs.length:=by rw [hx];exact pg hk (by omega)
    have h:=BA (x:=k) hi (by omega) (by omega)
    have h':=BA (x:=k) (c:=c) (k:=at_) (L:=xs.length) (by omega) (by omega) (by omega)
    have hl:(ph xs (riP c at_) (riV vs) w k out j).length=xs.length:=by unfold ph;rw [ac,ho]
    show (zo _ _ _ _ _ _ _ _).run=_
    unfold zo
    rw [Int.add_assoc,ahm,hl]
    refine cV (by simp only [ag,au,aw,aj,ah,ae,ak,am,decide_eq_true_eq,decide_eq_false_iff_not,beq_iff_eq,beq_eq_false_iff_ne,bne_iff_ne,bne_eq_false_iff_eq,Bool.not_eq_true',Bool.not_eq_false',List.length_set,ne_eq,ge_iff_le,gt_iff_lt,ac,aa,ap];omega) (aE (by simp only [ag,au,aw,aj,ah,ae,ak,am,decide_eq_true_eq,decide_eq_false_iff_not,beq_iff_eq,beq_eq_false_iff_ne,bne_iff_ne,bne_eq_false_iff_eq,Bool.not_eq_true',Bool.not_eq_false',List.length_set,ne_eq,ge_iff_le,gt_iff_lt,ac,aa,ap];omega) (aE (by simp only [ag,au,aw,aj,ah,ae,ak,am,decide_eq_true_eq,decide_eq_false_iff_not,beq_iff_eq,beq_eq_false_iff_ne,bne_iff_ne,bne_eq_false_iff_eq,Bool.not_eq_true',Bool.not_eq_false',List.length_set,ne_eq,ge_iff_le,gt_iff_lt,ac,aa,ap];omega) (aE h.b (aE h'.c (aE h.c (aE h.b (aE h'.c (aE h.c (aE h.d (aE h.e (aE h.d (aE h.e (aE (by simp only [ag,au,aw,aj,ah,ae,ak,am,decide_eq_true_eq,decide_eq_false_iff_not,beq_iff_eq,beq_eq_false_iff_ne,bne_iff_ne,bne_eq_false_iff_eq,Bool.not_eq_true',Bool.not_eq_false',List.length_set,ne_eq,ge_iff_le,gt_iff_lt,ac,aa,ap];omega) ?_)))))))))))))
    rw [h.f];rfl
  · exact bY (by simp only [ag,au,aw,aj,ah,ae,ak,am,decide_eq_true_eq,decide_eq_false_iff_not,beq_iff_eq,beq_eq_false_iff_ne,bne_iff_ne,bne_eq_false_iff_eq,Bool.not_eq_true',Bool.not_eq_false',List.length_set,ne_eq,ge_iff_le,gt_iff_lt,ac,aa,ap];omega) rfl
theorem aht{xs vs:List Nat}{r c at_ frm tau:Nat}(hx:xs.length=r*c)(hr:r≤512)(hc:c≤512)(hat:at_+vs.length≤c)(hf:frm≤r) :
    jW (r:Int) (c:Int) xs (at_:Int) (frm:Int) vs tau=some (.r0 r c xs.length (Q2 xs vs r c at_ frm tau)):=by
  have hL:r*c≤262144:=Nat.mul_le_mul hr hc
  refine bT ?_
  unfold Q2 aho
  cases ht:yp tau 0 with
  | true =>
    refine bU ?_
    unfold zl
    rw [List.take_length]
    exact aE (by simp only [ag,au,aw,aj,ah,ae,ak,am,decide_eq_true_eq,decide_eq_false_iff_not,beq_iff_eq,beq_eq_false_iff_ne,bne_iff_ne,bne_eq_false_iff_eq,Bool.not_eq_true',Bool.not_eq_false',List.length_set,ne_eq,ge_iff_le,gt_iff_lt,ac,aa,ap];omega) (aE (by simp only [ag,au,aw,aj,ah,ae,ak,am,decide_eq_true_eq,decide_eq_false_iff_not,beq_iff_eq,beq_eq_false_iff_ne,bne_iff_ne,bne_eq_false_iff_eq,Bool.not_eq_true',Bool.not_eq_false',List.length_set,ne_eq,ge_iff_le,gt_iff_lt,ac,aa,ap];omega) (aE (by simp only [ag,au,aw,aj,ah,ae,ak,am,decide_eq_true_eq,decide_eq_false_iff_not,beq_iff_eq,beq_eq_false_iff_ne,bne_iff_ne,bne_eq_false_iff_eq,Bool.not_eq_true',Bool.not_eq_false',List.length_set,ne_eq,ge_iff_le,gt_iff_lt,ac,aa,ap];omega) (cV ht rfl)))
  | false =>
    refine aA (a:=xs) ?_ (aA (a:=yn xs (riP c at_) (riA xs vs c at_) (riV vs) tau vs.length frm (r-frm)) ?_ rfl)
    · unfold zl
      rw [List.take_length]
      exact aE (by simp only [ag,au,aw,aj,ah,ae,ak,am,decide_eq_true_eq,decide_eq_false_iff_not,beq_iff_eq,beq_eq_false_iff_ne,bne_iff_ne,bne_eq_false_iff_eq,Bool.not_eq_true',Bool.not_eq_false',List.length_set,ne_eq,ge_iff_le,gt_iff_lt,ac,aa,ap];omega) (aE (by simp only [ag,au,aw,aj,ah,ae,ak,am,decide_eq_true_eq,decide_eq_false_iff_not,beq_iff_eq,beq_eq_false_iff_ne,bne_iff_ne,bne_eq_false_iff_eq,Bool.not_eq_true',Bool.not_eq_false',List.length_set,ne_eq,ge_iff_le,gt_iff_lt,ac,aa,ap];omega) (aE (by simp only [ag,au,aw,aj,ah,ae,ak,am,decide_eq_true_eq,decide_eq_false_iff_not,beq_iff_eq,beq_eq_false_iff_ne,bne_iff_ne,bne_eq_false_iff_eq,Bool.not_eq_true',Bool.not_eq_false',List.length_set,ne_eq,ge_iff_le,gt_iff_lt,ac,aa,ap];omega) (bY ht rfl)))
    · refine bH (fun j=>(((frm+j:Nat):Int),yn xs (riP c at_) (riA xs vs c at_) (riV vs) tau vs.length frm j)) (r-frm) rfl (fun j hj=>?_) ?_
      · show aL (zm _ _ _).run _=_
        have hk:frm+j<r:=by omega
        refine aA (a:=()) (cV (by simp only [ag,au,aw,aj,ah,ae,ak,am,decide_eq_true_eq,decide_eq_false_iff_not,beq_iff_eq,beq_eq_false_iff_ne,bne_iff_ne,bne_eq_false_iff_eq,Bool.not_eq_true',Bool.not_eq_false',List.length_set,ne_eq,ge_iff_le,gt_iff_lt,ac,aa,ap];omega) rfl) (aA (pf (a:=yn xs (riP c at_) (riA xs vs c at_) (riV vs) tau vs.length frm (j+1)) ?_) ?_)
        · exact aA rfl (aA (akk hx hk hat hr hc) (aA rfl (aA (amQ hx hk hat hr hc Am) rfl)))
        · refine aE (by simp only [ag,au,aw,aj,ah,ae,ak,am,decide_eq_true_eq,decide_eq_false_iff_not,beq_iff_eq,beq_eq_false_iff_ne,bne_iff_ne,bne_eq_false_iff_eq,Bool.not_eq_true',Bool.not_eq_false',List.length_set,ne_eq,ge_iff_le,gt_iff_lt,ac,aa,ap];omega) ?_
          rfl
      · show aL (zm _ _ _).run _=_
        exact bU (bY (by simp only [ag,au,aw,aj,ah,ae,ak,am,decide_eq_true_eq,decide_eq_false_iff_not,beq_iff_eq,beq_eq_false_iff_ne,bne_iff_ne,bne_eq_false_iff_eq,Bool.not_eq_true',Bool.not_eq_false',List.length_set,ne_eq,ge_iff_le,gt_iff_lt,ac,aa,ap];omega) rfl)
theorem akl{r c:Nat}(hr:r≤512)(hc:c≤512) :xX [(r:Int),(c:Int)]=some (.r0 true):=by
  refine bT (aA (a:=()) rfl (aA (a:=()) (bH (fun j=>j) 2 rfl (fun j hj=>?_) (cu rfl)) rfl))
  rcases (show j=0∨j=1 by omega) with rfl | rfl
  · exact dS (aS (aS (bY (decide_eq_false (by show ¬ ((r:Int)<0);omega)) (bY (decide_eq_false (by show ¬ ((r:Int)>512);omega)) (aS rfl)))))
  · exact dS (aS (aS (bY (decide_eq_false (by show ¬ ((c:Int)<0);omega)) (bY (decide_eq_false (by show ¬ ((c:Int)>512);omega)) (aS rfl)))))
theorem apM{xs:List Nat} :cpL (List.replicate xs.length 0) 0 (Nat.min xs.length xs.length) (List.take xs.length xs)=xs:=by
  unfold cpL
  rw [show Nat.min xs.length xs.length=xs.length from Nat.min_self _]
  simp
theorem X8{xs:List Nat}{r c:Nat}(hx:xs.length=r*c)(hr:r≤512)(hc:c≤512) :gi (r:Int) (c:Int) xs=some (.r1 r c xs.length xs):=by
  have hL:r*c≤262144:=Nat.mul_le_mul hr hc
  have e:(r:Int)*(c:Int)=(xs.length:Int):=by rw [hx,Int.natCast_mul]
  have et:Int.toNat ((r:Int)*(c:Int))=xs.length:=by omega
  refine bT (aA (a:=.inr (xs.length,List.replicate xs.length 0)) ?_ ?_)
  · unfold WN
    rw [show an 0 2 [(r:Int),(c:Int)]=[(r:Int),(c:Int)] from gu rfl,akl hr hc,et,e]
    refine aS (aS (cu (aE (by simp only [ag,au,aw,aj,ah,ae,ak,am,decide_eq_true_eq,decide_eq_false_iff_not,beq_iff_eq,beq_eq_false_iff_ne,bne_iff_ne,bne_eq_false_iff_eq,Bool.not_eq_true',Bool.not_eq_false',List.length_set,ne_eq,ge_iff_le,gt_iff_lt,ac,aa,ap];omega) (aE (by simp only [ag,au,aw,aj,ah,ae,ak,am,decide_eq_true_eq,decide_eq_false_iff_not,beq_iff_eq,beq_eq_false_iff_ne,bne_iff_ne,bne_eq_false_iff_eq,Bool.not_eq_true',Bool.not_eq_false',List.length_set,ne_eq,ge_iff_le,gt_iff_lt,ac,aa,ap];omega) (aE (by simp only [ag,au,aw,aj,ah,ae,ak,am,decide_eq_true_eq,decide_eq_false_iff_not,beq_iff_eq,beq_eq_false_iff_ne,bne_iff_ne,bne_eq_false_iff_eq,Bool.not_eq_true',Bool.not_eq_false',List.length_set,ne_eq,ge_iff_le,gt_iff_lt,ac,aa,ap];omega) (aE (by simp only [ag,au,aw,aj,ah,ae,ak,am,decide_eq_true_eq,decide_eq_false_iff_not,beq_iff_eq,beq_eq_false_iff_ne,bne_iff_ne,bne_eq_false_iff_eq,Bool.not_eq_true',Bool.not_eq_false',List.length_set,ne_eq,ge_iff_le,gt_iff_lt,ac,aa,ap];omega) (aE (by simp only [ag,au,aw,aj,ah,ae,ak,am,decide_eq_true_eq,decide_eq_false_iff_not,beq_iff_eq,beq_eq_false_iff_ne,bne_iff_ne,bne_eq_false_iff_eq,Bool.not_eq_true',Bool.not_eq_false',List.length_set,ne_eq,ge_iff_le,gt_iff_lt,ac,aa,ap];omega) rfl)))))))
  · show (LZ _ _ _ _ _).run=_
    unfold LZ
    rw [e]
    refine cu (aE (by simp only [ag,au,aw,aj,ah,ae,ak,am,decide_eq_true_eq,decide_eq_false_iff_not,beq_iff_eq,beq_eq_false_iff_ne,bne_iff_ne,bne_eq_false_iff_eq,Bool.not_eq_true',Bool.not_eq_false',List.length_set,ne_eq,ge_iff_le,gt_iff_lt,ac,aa,ap];omega) (bY (by simp) (aE (ahi _) (aE (by rw [ah];simp) (aE (by rw [ah];simp) ?_)))))
    rw [apM];rfl
theorem ahu{a n l:Nat}(h:a+n≤l)(hl:l≤512) :eP (a:Int) (n:Int) (l:Int)=some (.r0 true):=by
  refine bT (aA (a:=true) ?_ rfl)
  unfold vm
  exact cV (by simp only [ag,au,aw,aj,ah,ae,ak,am,decide_eq_true_eq,decide_eq_false_iff_not,beq_iff_eq,beq_eq_false_iff_ne,bne_iff_ne,bne_eq_false_iff_eq,Bool.not_eq_true',Bool.not_eq_false',List.length_set,ne_eq,ge_iff_le,gt_iff_lt,ac,aa,ap];omega) (cV (by simp only [ag,au,aw,aj,ah,ae,ak,am,decide_eq_true_eq,decide_eq_false_iff_not,beq_iff_eq,beq_eq_false_iff_ne,bne_iff_ne,bne_eq_false_iff_eq,Bool.not_eq_true',Bool.not_eq_false',List.length_set,ne_eq,ge_iff_le,gt_iff_lt,ac,aa,ap];omega) (cV (by simp only [ag,au,aw,aj,ah,ae,ak,am,decide_eq_true_eq,decide_eq_false_iff_not,beq_iff_eq,beq_eq_false_iff_ne,bne_iff_ne,bne_eq_false_iff_eq,Bool.not_eq_true',Bool.not_eq_false',List.length_set,ne_eq,ge_iff_le,gt_iff_lt,ac,aa,ap];omega) (aE (by simp only [ag,au,aw,aj,ah,ae,ak,am,decide_eq_true_eq,decide_eq_false_iff_not,beq_iff_eq,beq_eq_false_iff_ne,bne_iff_ne,bne_eq_false_iff_eq,Bool.not_eq_true',Bool.not_eq_false',List.length_set,ne_eq,ge_iff_le,gt_iff_lt,ac,aa,ap];omega) (by rw [decide_eq_true (by omega)];rfl))))
theorem aa7{xs:List Nat}{r c i j m n:Nat}(hr:r≤512)(hc:c≤512)(h1:i+m≤r)(h2:j+n≤c) :
    ao xs.length xs.length xs (r:Int) (c:Int) 0 (c:Int) 1 (i:Int) (j:Int) (m:Int) (n:Int)=some (.r1 xs.length xs.length xs m n ((i*c+j:Nat):Int) c 1):=by
  refine bT (aA (a:=false) ?_ ?_)
  · unfold tW
    rw [ahu h1 hr,ahu h2 hc]
    exact aS (cu (aS rfl))
  · show (mB _ _ _ _ _ _ _ _ _ _ _).run=_
    unfold mB
    have hL:i*c≤512*512:=Nat.mul_le_mul (show i≤512 by omega) hc
    have e:(i:Int)*(c:Int)=((i*c:Nat):Int):=by rw [Int.natCast_mul]
    rw [e,show (0:Int)+((i*c:Nat):Int)+(j:Int)*1=((i*c+j:Nat):Int) from by omega]
    generalize i*c=q at hL
    exact cu (aE (by simp only [ag,au,aw,aj,ah,ae,ak,am,decide_eq_true_eq,decide_eq_false_iff_not,beq_iff_eq,beq_eq_false_iff_ne,bne_iff_ne,bne_eq_false_iff_eq,Bool.not_eq_true',Bool.not_eq_false',List.length_set,ne_eq,ge_iff_le,gt_iff_lt,ac,aa,ap];omega) (aE (by simp only [ag,au,aw,aj,ah,ae,ak,am,decide_eq_true_eq,decide_eq_false_iff_not,beq_iff_eq,beq_eq_false_iff_ne,bne_iff_ne,bne_eq_false_iff_eq,Bool.not_eq_true',Bool.not_eq_false',List.length_set,ne_eq,ge_iff_le,gt_iff_lt,ac,aa,ap];omega) (aE (by simp only [ag,au,aw,aj,ah,ae,ak,am,decide_eq_true_eq,decide_eq_false_iff_not,beq_iff_eq,beq_eq_false_iff_ne,bne_iff_ne,bne_eq_false_iff_eq,Bool.not_eq_true',Bool.not_eq_false',List.length_set,ne_eq,ge_iff_le,gt_iff_lt,ac,aa,ap];omega) (aE (by simp only [ag,au,aw,aj,ah,ae,ak,am,decide_eq_true_eq,decide_eq_false_iff_not,beq_iff_eq,beq_eq_false_iff_ne,bne_iff_ne,bne_eq_false_iff_eq,Bool.not_eq_true',Bool.not_eq_false',List.length_set,ne_eq,ge_iff_le,gt_iff_lt,ac,aa,ap];omega) rfl))))
theorem alp(n:Nat) :df (n:Int) 1=some (.r0 true):=by
  refine bT (aA (a:=true) ?_ rfl)
  unfold qu
  by_cases h:n=1
  · subst h;exact dS rfl
  · exact bY (by rw [beq_eq_false_iff_ne];omega) (dS rfl)
theorem alq(n:Int) :df 1 n=some (.r0 true):=by
  refine bT (aA (a:=true) ?_ rfl)
  exact dS rfl
theorem Mi{m n i j:Nat}(h1:i<m)(h2:j<n) :cH (m:Int) (n:Int) (i:Int) (j:Int)=some (.r0 true):=by
  refine bT (aA (a:=true) ?_ rfl)
  unfold qv
  exact cV (by simp only [ag,au,aw,aj,ah,ae,ak,am,decide_eq_true_eq,decide_eq_false_iff_not,beq_iff_eq,beq_eq_false_iff_ne,bne_iff_ne,bne_eq_false_iff_eq,Bool.not_eq_true',Bool.not_eq_false',List.length_set,ne_eq,ge_iff_le,gt_iff_lt,ac,aa,ap];omega) (cV (by simp only [ag,au,aw,aj,ah,ae,ak,am,decide_eq_true_eq,decide_eq_false_iff_not,beq_iff_eq,beq_eq_false_iff_ne,bne_iff_ne,bne_eq_false_iff_eq,Bool.not_eq_true',Bool.not_eq_false',List.length_set,ne_eq,ge_iff_le,gt_iff_lt,ac,aa,ap];omega) (cV (by simp only [ag,au,aw,aj,ah,ae,ak,am,decide_eq_true_eq,decide_eq_false_iff_not,beq_iff_eq,beq_eq_false_iff_ne,bne_iff_ne,bne_eq_false_iff_eq,Bool.not_eq_true',Bool.not_eq_false',List.length_set,ne_eq,ge_iff_le,gt_iff_lt,ac,aa,ap];omega) (by rw [decide_eq_true (by omega)];rfl)))
theorem X9{f:Nat→Nat}{n:Nat} :List.take n (pushF f n)++List.take 1 [f n]=pushF f (n+1):=by
  rw [BB];rfl
theorem aoG{xs:List Nat}{n p c:Nat}(hn:n≤512)(hp:∀ i,i<n→p+i*c<xs.length)(hL:xs.length≤1000000) :
    cn xs (n:Int) 1 (p:Int) (c:Int) 1=some (.r0 n n (pushF (fun i=>xs.getD (p+i*c) 0) n)):=by
  refine bT (aA (a:=(n:Int)) ?_ (aA (a:=(n,n,pushF (fun i=>xs.getD (p+i*c) 0) n)) (bH (fun j=>(j,j,j,pushF (fun i=>xs.getD (p+i*c) 0) j)) n rfl (fun j hj=>?_) ?_) rfl))
  · unfold nK
    rw [alp,Int.mul_one]
    exact jl (aS (cu (aE (by simp only [ag,au,aw,aj,ah,ae,ak,am,decide_eq_true_eq,decide_eq_false_iff_not,beq_iff_eq,beq_eq_false_iff_ne,bne_iff_ne,bne_eq_false_iff_eq,Bool.not_eq_true',Bool.not_eq_false',List.length_set,ne_eq,ge_iff_le,gt_iff_lt,ac,aa,ap];omega) rfl)))
  · have hpj:=hp j hj
    have e:(j:Int)*(c:Int)=((j*c:Nat):Int):=by rw [Int.natCast_mul]
    refine aA (a:=(j+1,pushF (fun i=>xs.getD (p+i*c) 0) (j+1))) ?_ (aE (by simp only [ag,au,aw,aj,ah,ae,ak,am,decide_eq_true_eq,decide_eq_false_iff_not,beq_iff_eq,beq_eq_false_iff_ne,bne_iff_ne,bne_eq_false_iff_eq,Bool.not_eq_true',Bool.not_eq_false',List.length_set,ne_eq,ge_iff_le,gt_iff_lt,ac,aa,ap];omega) rfl)
    show (iu _ _ _ _ _ _ _ _ _ _ _).run=_
    unfold iu
    rw [alp]
    refine cV (by simp only [ag,au,aw,aj,ah,ae,ak,am,decide_eq_true_eq,decide_eq_false_iff_not,beq_iff_eq,beq_eq_false_iff_ne,bne_iff_ne,bne_eq_false_iff_eq,Bool.not_eq_true',Bool.not_eq_false',List.length_set,ne_eq,ge_iff_le,gt_iff_lt,ac,aa,ap];omega) (jl (aS (cu ?_)))
    have hl:(pushF (fun i=>xs.getD (p+i*c) 0) j).length=j:=pushF_len
    by_cases h1:n=1
    · subst h1
      have:j=0:=by omega
      subst this
      rw [show cH ((1:Nat):Int) (1:Int) (0:Int) ((0:Nat):Int)=some (.r0 true) from Mi (m:=1) (n:=1) (i:=0) (j:=0) (by omega) (by omega)]
      simp only [Nat.zero_mul,Nat.add_zero] at hpj
      refine dS (jl (aS (cu ?_)))
      rw [show (p:Int)+0*(c:Int)+((0:Nat):Int)*1=(p:Int) from by omega,show (p:Int)+0*(c:Int)=(p:Int) from by omega,show (0:Int)*(c:Int)=0 from by omega,show (((0:Nat):Int)*1)=0 from rfl,Int.toNat_natCast]
      refine aS (aE (by simp only [ag,au,aw,aj,ah,ae,ak,am,decide_eq_true_eq,decide_eq_false_iff_not,beq_iff_eq,beq_eq_false_iff_ne,bne_iff_ne,bne_eq_false_iff_eq,Bool.not_eq_true',Bool.not_eq_false',List.length_set,ne_eq,ge_iff_le,gt_iff_lt,ac,aa,ap];omega) (aS (aE (by simp only [ag,au,aw,aj,ah,ae,ak,am,decide_eq_true_eq,decide_eq_false_iff_not,beq_iff_eq,beq_eq_false_iff_ne,bne_iff_ne,bne_eq_false_iff_eq,Bool.not_eq_true',Bool.not_eq_false',List.length_set,ne_eq,ge_iff_le,gt_iff_lt,ac,aa,ap];omega) (aE (by simp only [ag,au,aw,aj,ah,ae,ak,am,decide_eq_true_eq,decide_eq_false_iff_not,beq_iff_eq,beq_eq_false_iff_ne,bne_iff_ne,bne_eq_false_iff_eq,Bool.not_eq_true',Bool.not_eq_false',List.length_set,ne_eq,ge_iff_le,gt_iff_lt,ac,aa,ap];omega) (aE (by simp only [ag,au,aw,aj,ah,ae,ak,am,decide_eq_true_eq,decide_eq_false_iff_not,beq_iff_eq,beq_eq_false_iff_ne,bne_iff_ne,bne_eq_false_iff_eq,Bool.not_eq_true',Bool.not_eq_false',List.length_set,ne_eq,ge_iff_le,gt_iff_lt,ac,aa,ap];omega) (aS (aS (aS (aE (by rw [ah,hl];omega) ?_)))))))))
      show some (Sum.inl _)=_
      simp [pushF]
    · rw [show cH (n:Int) (1:Int) (j:Int) (0:Int)=some (.r0 true) from Mi (m:=n) (n:=1) (i:=j) (j:=0) hj (by omega)]
      refine bY (by rw [beq_eq_false_iff_ne];omega) (jl (aS (cu ?_)))
      rw [e,show (p:Int)+((j*c:Nat):Int)+0*1=((p+j*c:Nat):Int) from by omega,show (p:Int)+((j*c:Nat):Int)=((p+j*c:Nat):Int) from by omega,Int.toNat_natCast]
      generalize hq:p+j*c=q at hpj ⊢
      refine aE (by rw [ag];omega) (aE (by simp only [ag,au,aw,aj,ah,ae,ak,am,decide_eq_true_eq,decide_eq_false_iff_not,beq_iff_eq,beq_eq_false_iff_ne,bne_iff_ne,bne_eq_false_iff_eq,Bool.not_eq_true',Bool.not_eq_false',List.length_set,ne_eq,ge_iff_le,gt_iff_lt,ac,aa,ap];omega) (aS (aE (by simp only [ag,au,aw,aj,ah,ae,ak,am,decide_eq_true_eq,decide_eq_false_iff_not,beq_iff_eq,beq_eq_false_iff_ne,bne_iff_ne,bne_eq_false_iff_eq,Bool.not_eq_true',Bool.not_eq_false',List.length_set,ne_eq,ge_iff_le,gt_iff_lt,ac,aa,ap];omega) (aE (by simp only [ag,au,aw,aj,ah,ae,ak,am,decide_eq_true_eq,decide_eq_false_iff_not,beq_iff_eq,beq_eq_false_iff_ne,bne_iff_ne,bne_eq_false_iff_eq,Bool.not_eq_true',Bool.not_eq_false',List.length_set,ne_eq,ge_iff_le,gt_iff_lt,ac,aa,ap];omega) (aE (by simp only [ag,au,aw,aj,ah,ae,ak,am,decide_eq_true_eq,decide_eq_false_iff_not,beq_iff_eq,beq_eq_false_iff_ne,bne_iff_ne,bne_eq_false_iff_eq,Bool.not_eq_true',Bool.not_eq_false',List.length_set,ne_eq,ge_iff_le,gt_iff_lt,ac,aa,ap];omega) (aE (by simp only [ag,au,aw,aj,ah,ae,ak,am,decide_eq_true_eq,decide_eq_false_iff_not,beq_iff_eq,beq_eq_false_iff_ne,bne_iff_ne,bne_eq_false_iff_eq,Bool.not_eq_true',Bool.not_eq_false',List.length_set,ne_eq,ge_iff_le,gt_iff_lt,ac,aa,ap];omega) (aE (by simp only [ag,au,aw,aj,ah,ae,ak,am,decide_eq_true_eq,decide_eq_false_iff_not,beq_iff_eq,beq_eq_false_iff_ne,bne_iff_ne,bne_eq_false_iff_eq,Bool.not_eq_true',Bool.not_eq_false',List.length_set,ne_eq,ge_iff_le,gt_iff_lt,ac,aa,ap];omega) (aS (aE (by rw [ah,hl];omega) ?_)))))))))
      rw [←hq]
      show some (Sum.inl (j+1,List.take j (pushF (fun i=>xs.getD (p+i*c) 0) j)++List.take 1 [(fun i=>xs.getD (p+i*c) 0) j]))=_
      rw [X9]
  · exact bU (bY (by simp only [ag,au,aw,aj,ah,ae,ak,am,decide_eq_true_eq,decide_eq_false_iff_not,beq_iff_eq,beq_eq_false_iff_ne,bne_iff_ne,bne_eq_false_iff_eq,Bool.not_eq_true',Bool.not_eq_false',List.length_set,ne_eq,ge_iff_le,gt_iff_lt,ac,aa,ap];omega) rfl)
theorem aoH{xs:List Nat}{n p c:Nat}(hn:n≤512)(hp:∀ i,i<n→p+i<xs.length)(hL:xs.length≤1000000)(hc:c≤512) :
    cn xs 1 (n:Int) (p:Int) (c:Int) 1=some (.r0 n n (pushF (fun i=>xs.getD (p+i) 0) n)):=by
  refine bT (aA (a:=(n:Int)) ?_ (aA (a:=(n,n,pushF (fun i=>xs.getD (p+i) 0) n)) (bH (fun j=>(j,j,j,pushF (fun i=>xs.getD (p+i) 0) j)) n rfl (fun j hj=>?_) ?_) rfl))
  · unfold nK
    rw [alq,Int.one_mul]
    exact jl (aS (cu (aE (by simp only [ag,au,aw,aj,ah,ae,ak,am,decide_eq_true_eq,decide_eq_false_iff_not,beq_iff_eq,beq_eq_false_iff_ne,bne_iff_ne,bne_eq_false_iff_eq,Bool.not_eq_true',Bool.not_eq_false',List.length_set,ne_eq,ge_iff_le,gt_iff_lt,ac,aa,ap];omega) rfl)))
  · have hpj:=hp j hj
    refine aA (a:=(j+1,pushF (fun i=>xs.getD (p+i) 0) (j+1))) ?_ (aE (by simp only [ag,au,aw,aj,ah,ae,ak,am,decide_eq_true_eq,decide_eq_false_iff_not,beq_iff_eq,beq_eq_false_iff_ne,bne_iff_ne,bne_eq_false_iff_eq,Bool.not_eq_true',Bool.not_eq_false',List.length_set,ne_eq,ge_iff_le,gt_iff_lt,ac,aa,ap];omega) rfl)
    show (iu _ _ _ _ _ _ _ _ _ _ _).run=_
    unfold iu
    rw [alq,show cH (1:Int) (n:Int) (0:Int) ((j:Nat):Int)=some (.r0 true) from Mi (m:=1) (n:=n) (i:=0) (j:=j) (by omega) hj]
    refine cV (by simp only [ag,au,aw,aj,ah,ae,ak,am,decide_eq_true_eq,decide_eq_false_iff_not,beq_iff_eq,beq_eq_false_iff_ne,bne_iff_ne,bne_eq_false_iff_eq,Bool.not_eq_true',Bool.not_eq_false',List.length_set,ne_eq,ge_iff_le,gt_iff_lt,ac,aa,ap];omega) (jl (aS (cu (dS (jl (aS (cu ?_)))))))
    have hl:(pushF (fun i=>xs.getD (p+i) 0) j).length=j:=pushF_len
    rw [show (p:Int)+0*(c:Int)+(j:Int)*1=((p+j:Nat):Int) from by omega,show (p:Int)+0*(c:Int)=(p:Int) from by omega,show (0:Int)*(c:Int)=0 from by omega,Int.mul_one,Int.toNat_natCast]
    refine aS (aE (by simp only [ag,au,aw,aj,ah,ae,ak,am,decide_eq_true_eq,decide_eq_false_iff_not,beq_iff_eq,beq_eq_false_iff_ne,bne_iff_ne,bne_eq_false_iff_eq,Bool.not_eq_true',Bool.not_eq_false',List.length_set,ne_eq,ge_iff_le,gt_iff_lt,ac,aa,ap];omega) (aE (by simp only [ag,au,aw,aj,ah,ae,ak,am,decide_eq_true_eq,decide_eq_false_iff_not,beq_iff_eq,beq_eq_false_iff_ne,bne_iff_ne,bne_eq_false_iff_eq,Bool.not_eq_true',Bool.not_eq_false',List.length_set,ne_eq,ge_iff_le,gt_iff_lt,ac,aa,ap];omega) (aE (by simp only [ag,au,aw,aj,ah,ae,ak,am,decide_eq_true_eq,decide_eq_false_iff_not,beq_iff_eq,beq_eq_false_iff_ne,bne_iff_ne,bne_eq_false_iff_eq,Bool.not_eq_true',Bool.not_eq_false',List.length_set,ne_eq,ge_iff_le,gt_iff_lt,ac,aa,ap];omega) (aE (by simp only [ag,au,aw,aj,ah,ae,ak,am,decide_eq_true_eq,decide_eq_false_iff_not,beq_iff_eq,beq_eq_false_iff_ne,bne_iff_ne,bne_eq_false_iff_eq,Bool.not_eq_true',Bool.not_eq_false',List.length_set,ne_eq,ge_iff_le,gt_iff_lt,ac,aa,ap];omega) (aE (by simp only [ag,au,aw,aj,ah,ae,ak,am,decide_eq_true_eq,decide_eq_false_iff_not,beq_iff_eq,beq_eq_false_iff_ne,bne_iff_ne,bne_eq_false_iff_eq,Bool.not_eq_true',Bool.not_eq_false',List.length_set,ne_eq,ge_iff_le,gt_iff_lt,ac,aa,ap];omega) (aE (by simp only [ag,au,aw,aj,ah,ae,ak,am,decide_eq_true_eq,decide_eq_false_iff_not,beq_iff_eq,beq_eq_false_iff_ne,bne_iff_ne,bne_eq_false_iff_eq,Bool.not_eq_true',Bool.not_eq_false',List.length_set,ne_eq,ge_iff_le,gt_iff_lt,ac,aa,ap];omega) (aE (by simp only [ag,au,aw,aj,ah,ae,ak,am,decide_eq_true_eq,decide_eq_false_iff_not,beq_iff_eq,beq_eq_false_iff_ne,bne_iff_ne,bne_eq_false_iff_eq,Bool.not_eq_true',Bool.not_eq_false',List.length_set,ne_eq,ge_iff_le,gt_iff_lt,ac,aa,ap];omega) (aS (aE (by rw [ah,hl];omega) ?_)))))))))
    show some (Sum.inl (j+1,List.take j (pushF (fun i=>xs.getD (p+i) 0) j)++List.take 1 [(fun i=>xs.getD (p+i) 0) j]))=_
    rw [X9]
  · exact bU (bY (by simp only [ag,au,aw,aj,ah,ae,ak,am,decide_eq_true_eq,decide_eq_false_iff_not,beq_iff_eq,beq_eq_false_iff_ne,bne_iff_ne,bne_eq_false_iff_eq,Bool.not_eq_true',Bool.not_eq_false',List.length_set,ne_eq,ge_iff_le,gt_iff_lt,ac,aa,ap];omega) rfl)
end Go.Plb.Seat
namespace Go.Plb.Seat
open Go Go.Plb
set_option linter.unusedSimpArgs false
set_option linter.unusedVariables false
set_option maxRecDepth 100000
theorem pushF_congr{α:Type}{f g:Nat→α} :∀ {n:Nat},(∀ i,i<n→f i=g i)→pushF f n=pushF g n
  | 0,_=>rfl
  | n+1,h=>by rw [pushF,pushF,pushF_congr (n:=n) fun i hi=>h i (by omega),h n (by omega)]
theorem iM{α:Type}{f:Nat→α}{n:Nat} :List.take n (pushF f n)++[f n]=pushF f (n+1):=by
  rw [BB];rfl
theorem aoI{α α' β X:Type}{m:Option ((α⊕α')⊕X)}{f:α→Option (β⊕X)}{g:α'→Option (β⊕X)}{v:α'}{x:Option (β⊕X)}(h:m=some (.inl (.inr v)))(q:g v=x) :aL m (Sum.elim f g)=x:=by subst h;exact q
def cx(A:List Nat)(r c k:Nat) :List Nat:=pushF (fun i=>A.getD ((k+i)*c+k) 0) (r-k)
def rx(A:List Nat)(c k:Nat) :List Nat:=pushF (fun i=>A.getD (k*c+(k+1+i)) 0) (c-(k+1))
theorem DK{A:List Nat}{r c k:Nat} :(cx A r c k).length=r-k:=pushF_len
theorem zq{A:List Nat}{c k:Nat} :(rx A c k).length=c-(k+1):=pushF_len
def An(r c k:Nat)(A:List Nat) :List Nat:=aa4 A (Cy (cx A r c k)) c k (k+1) (G3 (cx A r c k))
def bs2(r c k:Nat)(A:List Nat) :List Nat:=Q2 A (Cy (rx A c k)) r c (k+1) (k+1) (G3 (rx A c k))
def bst(r c k:Nat)(A:List Nat) :List Nat:=bif Nat.blt (k+2) c then bs2 r c k (An r c k A) else An r c k A
def dV(xs:List Nat)(r c:Nat) :Nat→List Nat:=aa1 (fun k A=>bst r c k A) xs
theorem amR{xs vs:List Nat}{c at_ frm tau:Nat} :(aa4 xs vs c at_ frm tau).length=xs.length:=ahp
theorem akm{xs vs:List Nat}{r c at_ frm tau:Nat} :(Q2 xs vs r c at_ frm tau).length=xs.length:=ahp
theorem OC{r c k:Nat}{A:List Nat} :(An r c k A).length=A.length:=amR
theorem apN{r c k:Nat}{A:List Nat} :(bs2 r c k A).length=A.length:=akm
theorem apO{r c k:Nat}{A:List Nat} :(bst r c k A).length=A.length:=by
  unfold bst;cases Nat.blt (k+2) c
  · exact OC
  · exact apN.trans OC
theorem yo{xs:List Nat}{r c:Nat} :∀ {k:Nat},(dV xs r c k).length=xs.length
  | 0=>rfl
  | k+1=>apO.trans (yo (k:=k))
def dE(xs:List Nat)(r c k:Nat) :Nat:=K5 (cx (dV xs r c k) r c k)
def eE(xs:List Nat)(r c k:Nat) :Nat:=bif Nat.blt (k+2) c then K5 (rx (An r c k (dV xs r c k)) c k) else (An r c k (dV xs r c k)).getD (k*c+(k+1)) 0
def lV(xs:List Nat)(r c k:Nat) :List Nat:=Cy (cx (dV xs r c k) r c k)
def lT(xs:List Nat)(r c k:Nat) :Nat:=G3 (cx (dV xs r c k) r c k)
def rV(xs:List Nat)(r c k:Nat) :List Nat:=Cy (rx (An r c k (dV xs r c k)) c k)
def rT(xs:List Nat)(r c k:Nat) :Nat:=G3 (rx (An r c k (dV xs r c k)) c k)
theorem ahv{A:List Nat}{r c k:Nat}(hx:A.length=r*c)(hr:r≤512)(hc:c≤512)(hk:k<c)(hkr:k≤r) :
    bt (r:Int) (c:Int) A (k:Int)=some (.r0 (cx A r c k).length (cx A r c k).length (cx A r c k)):=by
  have hL:r*c≤512*512:=Nat.mul_le_mul hr hc
  have hv:=X8 hx hr hc
  have hp:=aa7 (xs:=A) (i:=k) (j:=k) (m:=r-k) (n:=1) hr hc (by omega) (by omega)
  have hq:=aoG (xs:=A) (n:=r-k) (p:=k*c+k) (c:=c) (by omega) (fun i hi=>by
    rw [hx]
    have:=pg (i:=k+i) (k:=k) (r:=r) (c:=c) (by omega) hk
    rw [Nat.add_mul] at this;omega) (by omega)
  have e:pushF (fun i=>A.getD (k*c+k+i*c) 0) (r-k)=cx A r c k:=pushF_congr fun i hi=>by rw [Nat.add_mul];congr 1;omega
  rw [e] at hq
  have ei:(r:Int)-(k:Int)=((r-k:Nat):Int):=by omega
  refine bT (aA (a:=.inr (r,c,A.length,A)) ?_ ?_)
  · unfold qw
    rw [dg,hv]
    exact akc (jl (akd rfl)) (Mh (jl (aS rfl)))
  · refine aA (a:=((cx A r c k).length,(cx A r c k).length,cx A r c k)) ?_ rfl
    show (kD _ _ _ _ _ _).run=_
    unfold kD
    rw [ei]
    rw [show ao A.length A.length A (r:Int) (c:Int) 0 (c:Int) 1 (k:Int) (k:Int) ((r-k:Nat):Int) 1=some (.r1 A.length A.length A ((r-k:Nat):Int) ((1:Nat):Int) ((k*c+k:Nat):Int) c 1) from hp]
    simp only [bx,bz,bN,bO,bP,bQ,bR]
    rw [dg,show cn A ((r-k:Nat):Int) ((1:Nat):Int) ((k*c+k:Nat):Int) (c:Int) 1=_ from hq,DK]
    exact aE (by simp only [ag,au,aw,aj,ah,ae,ak,am,decide_eq_true_eq,decide_eq_false_iff_not,beq_iff_eq,beq_eq_false_iff_ne,bne_iff_ne,bne_eq_false_iff_eq,Bool.not_eq_true',Bool.not_eq_false',List.length_set,ne_eq,ge_iff_le,gt_iff_lt,ac,aa,ap];omega) (akc (akd rfl) (Mh (aS (jl (aS rfl)))))
theorem adL{A:List Nat}{r c k:Nat}(hx:A.length=r*c)(hr:r≤512)(hc:c≤512)(hk:k+1≤c)(hkr:k<r) :
    (mC (c:Int) (k:Int) (r:Int) (c:Int) A.length A).run=some (.inl (c-(k+1),c-(k+1),rx A c k)):=by
  have hL:r*c≤512*512:=Nat.mul_le_mul hr hc
  have hp:=aa7 (xs:=A) (i:=k) (j:=k+1) (m:=1) (n:=c-(k+1)) hr hc (by omega) (by omega)
  have hq:=aoH (xs:=A) (n:=c-(k+1)) (p:=k*c+(k+1)) (c:=c) (by omega) (fun i hi=>by
    rw [hx]
    have:=pg (i:=k) (k:=k+1+i) (r:=r) (c:=c) hkr (by omega)
    omega) (by omega) hc
  have e:pushF (fun i=>A.getD (k*c+(k+1)+i) 0) (c-(k+1))=rx A c k:=pushF_congr fun i hi=>by congr 1;omega
  rw [e] at hq
  have ei:(c:Int)-(k:Int)-1=((c-(k+1):Nat):Int):=by omega
  unfold mC
  rw [ei,show (k:Int)+1=((k+1:Nat):Int) from rfl]
  rw [show ao A.length A.length A (r:Int) (c:Int) 0 (c:Int) 1 (k:Int) ((k+1:Nat):Int) 1 ((c-(k+1):Nat):Int)=some (.r1 A.length A.length A ((1:Nat):Int) ((c-(k+1):Nat):Int) ((k*c+(k+1):Nat):Int) c 1) from hp]
  simp only [bx,bz,bN,bO,bP,bQ,bR]
  rw [dg,show cn A ((1:Nat):Int) ((c-(k+1):Nat):Int) ((k*c+(k+1):Nat):Int) (c:Int) 1=_ from hq]
  exact aE (by simp only [ag,au,aw,aj,ah,ae,ak,am,decide_eq_true_eq,decide_eq_false_iff_not,beq_iff_eq,beq_eq_false_iff_ne,bne_iff_ne,bne_eq_false_iff_eq,Bool.not_eq_true',Bool.not_eq_false',List.length_set,ne_eq,ge_iff_le,gt_iff_lt,ac,aa,ap];omega) (aE (by simp only [ag,au,aw,aj,ah,ae,ak,am,decide_eq_true_eq,decide_eq_false_iff_not,beq_iff_eq,beq_eq_false_iff_ne,bne_iff_ne,bne_eq_false_iff_eq,Bool.not_eq_true',Bool.not_eq_false',List.length_set,ne_eq,ge_iff_le,gt_iff_lt,ac,aa,ap];omega) (aE (by simp only [ag,au,aw,aj,ah,ae,ak,am,decide_eq_true_eq,decide_eq_false_iff_not,beq_iff_eq,beq_eq_false_iff_ne,bne_iff_ne,bne_eq_false_iff_eq,Bool.not_eq_true',Bool.not_eq_false',List.length_set,ne_eq,ge_iff_le,gt_iff_lt,ac,aa,ap];omega) (akc (akd rfl) (Mh (aS (jl (aS rfl)))))))
theorem Ya{A:List Nat}{r c k:Nat}(hx:A.length=r*c)(hr:r≤512)(hc:c≤512)(hk:k+1≤c)(hkr:k<r) :
    az (r:Int) (c:Int) A (k:Int)=some (.r0 (rx A c k).length (rx A c k).length (rx A c k)):=by
  have h1:(nN (r:Int) (c:Int) A).run=some (.inl (.inr ((r:Int),(c:Int),A.length,A))):=by
    unfold nN
    rw [dg,X8 hx hr hc]
    exact akc (jl (akd rfl)) (Mh (jl (aS rfl)))
  rw [zq]
  exact bT (aoI h1 (aA (adL hx hr hc hk hkr) rfl))
end Go.Plb.Seat
namespace Go.Plb.Seat
open Go Go.Plb
set_option linter.unusedSimpArgs false
set_option linter.unusedVariables false
set_option linter.unusedSectionVars false
def eN(c j:Nat) :Nat:=min j (c-1)
def rN(c j:Nat) :Nat:=min j (c-2)
theorem BC{xs:List Nat}{r c k:Nat} :(lV xs r c k).length=(cx (dV xs r c k) r c k).length:=aa5
theorem BD{xs:List Nat}{r c k:Nat} :(rV xs r c k).length=(rx (An r c k (dV xs r c k)) c k).length:=aa5
theorem JK{α:Type}{l:List α}{n:Nat}(h:l.length=n) :List.take n (List.drop 0 l)=l:=by
  rw [List.drop_zero,←h,List.take_length]
theorem OD{α:Type}{n:Nat}{l:List α}(h:l.length=n) :bL 0 n l=true:=by rw [←h];exact nr l
def pst(xs:List Nat)(r c j:Nat) :Nat×Nat×Nat×Nat×Nat×Nat×Nat×Nat×Nat×Nat×(List (List Nat))×(List Nat)×Nat×(List (List Nat))×(List Nat)×Int×Int×(List Nat)×Nat×(List Nat)×(List Nat) :=
  (j,j,rN c j,rN c j,j,j,j,eN c j,eN c j,j,pushF (lV xs r c) j,pushF (lT xs r c) j,rN c j,pushF (rV xs r c) (rN c j),pushF (rT xs r c) (rN c j),(r:Int),(c:Int),dV xs r c j,xs.length,pushF (dE xs r c) j,pushF (eE xs r c) (eN c j))
section
theorem p39{xs:List Nat}{r c j:Nat}(hx:xs.length=r*c)(hr:r≤512)(hc:c≤512)(hcr:c≤r)(hj:j<c) :(uu j (r:Int) (c:Int) (dV xs r c j) xs.length).run=some (.inl (dE xs r c j,lV xs r c j,(cx (dV xs r c j) r c j).length,lT xs r c j)):=by
  unfold uu
  have hA:(dV xs r c j).length=xs.length:=yo
  rw [gu hA,ahv (hA.trans hx) hr hc hj (by omega)]
  simp only [cA,cB]
  rw [dg,aa6 (by rw [DK];omega) (by rw [DK];omega)]
  exact aE (OD hA) (aS (jl (aS rfl)))
theorem p40{xs:List Nat}{r c j:Nat}(hx:xs.length=r*c)(hr:r≤512)(hc:c≤512)(hcr:c≤r)(hj:j<c) :(uv j j j j (pushF (lV xs r c) j) (pushF (lT xs r c) j) (r:Int) (c:Int) (dV xs r c j) xs.length (pushF (dE xs r c) j) (dE xs r c j) (lV xs r c j) (cx (dV xs r c j) r c j).length (lT xs r c j)).run =
    some (.inl (j+1,j+1,pushF (lV xs r c) (j+1),pushF (lT xs r c) (j+1),(r:Int),(c:Int),An r c j (dV xs r c j),xs.length,pushF (dE xs r c) (j+1))):=by
  unfold uv
  have hA:(dV xs r c j).length=xs.length:=yo
  have hl:=amM (xs:=dV xs r c j) (vs:=lV xs r c j) (r:=r) (c:=c) (at_:=j) (frm:=j+1) (tau:=lT xs r c j) (hA.trans hx) hr hc (by rw [BC,DK];omega) (by rw [BC,DK];omega) (by omega)
  rw [gu hA,gu BC,hl,hA,JK BC,iM]
  have e1:List.take j (pushF (lT xs r c) j)++[lT xs r c j]=pushF (lT xs r c) (j+1):=iM
  have e2:List.take j (pushF (dE xs r c) j)++List.take 1 [dE xs r c j]=pushF (dE xs r c) (j+1):=iM
  rw [e1,e2]
  exact aE (by simp only [ag,au,aw,aj,ah,ae,ak,am,decide_eq_true_eq,decide_eq_false_iff_not,beq_iff_eq,beq_eq_false_iff_ne,bne_iff_ne,bne_eq_false_iff_eq,Bool.not_eq_true',Bool.not_eq_false',List.length_set,ne_eq,ge_iff_le,gt_iff_lt,ac,aa,ap];omega) (aE (by simp only [ag,au,aw,aj,ah,ae,ak,am,decide_eq_true_eq,decide_eq_false_iff_not,beq_iff_eq,beq_eq_false_iff_ne,bne_iff_ne,bne_eq_false_iff_eq,Bool.not_eq_true',Bool.not_eq_false',List.length_set,ne_eq,ge_iff_le,gt_iff_lt,ac,aa,ap];omega) (aS (aE (by rw [ah,pushF_len];omega) (aE (by simp only [ag,au,aw,aj,ah,ae,ak,am,decide_eq_true_eq,decide_eq_false_iff_not,beq_iff_eq,beq_eq_false_iff_ne,bne_iff_ne,bne_eq_false_iff_eq,Bool.not_eq_true',Bool.not_eq_false',List.length_set,ne_eq,ge_iff_le,gt_iff_lt,ac,aa,ap];omega) (aE (by simp only [ag,au,aw,aj,ah,ae,ak,am,decide_eq_true_eq,decide_eq_false_iff_not,beq_iff_eq,beq_eq_false_iff_ne,bne_iff_ne,bne_eq_false_iff_eq,Bool.not_eq_true',Bool.not_eq_false',List.length_set,ne_eq,ge_iff_le,gt_iff_lt,ac,aa,ap];omega) (aS (aE (by simp only [ag,au,aw,aj,ah,ae,ak,am,decide_eq_true_eq,decide_eq_false_iff_not,beq_iff_eq,beq_eq_false_iff_ne,bne_iff_ne,bne_eq_false_iff_eq,Bool.not_eq_true',Bool.not_eq_false',List.length_set,ne_eq,ge_iff_le,gt_iff_lt,ac,aa,ap];omega) (aE (by rw [BC];simp) (aE (by simp only [ag,au,aw,aj,ah,ae,ak,am,decide_eq_true_eq,decide_eq_false_iff_not,beq_iff_eq,beq_eq_false_iff_ne,bne_iff_ne,bne_eq_false_iff_eq,Bool.not_eq_true',Bool.not_eq_false',List.length_set,ne_eq,ge_iff_le,gt_iff_lt,ac,aa,ap];omega) (aE (OD hA) (aE (OD BC) (aS rfl))))))))))))
theorem p42{xs:List Nat}{r c j:Nat}(hx:xs.length=r*c)(hr:r≤512)(hc:c≤512)(hcr:c≤r)(hj:j<c) :(od (c:Int) (rN c j) (rN c j) j (eN c j) (eN c j) (rN c j) (pushF (rV xs r c) (rN c j)) (pushF (rT xs r c) (rN c j)) (pushF (eE xs r c) (eN c j)) (r:Int) (c:Int) (An r c j (dV xs r c j)) xs.length).run =
    some (.inl (rN c (j+1),rN c (j+1),eN c (j+1),eN c (j+1),rN c (j+1),pushF (rV xs r c) (rN c (j+1)),pushF (rT xs r c) (rN c (j+1)),(r:Int),(c:Int),dV xs r c (j+1),xs.length,pushF (eE xs r c) (eN c (j+1)))) ∨
    (od (c:Int) (rN c j) (rN c j) j (eN c j) (eN c j) (rN c j) (pushF (rV xs r c) (rN c j)) (pushF (rT xs r c) (rN c j)) (pushF (eE xs r c) (eN c j)) (r:Int) (c:Int) (An r c j (dV xs r c j)) xs.length).run =
    some (.inr (.inl (rN c (j+1),rN c (j+1),eN c (j+1),eN c (j+1),rN c (j+1),pushF (rV xs r c) (rN c (j+1)),pushF (rT xs r c) (rN c (j+1)),(r:Int),(c:Int),dV xs r c (j+1),xs.length,pushF (eE xs r c) (eN c (j+1))))):=by
  have hA:(An r c j (dV xs r c j)).length=xs.length:=OC.trans yo
  unfold od
  by_cases h1:j+2<c
  · left
    have en:eN c j=j:=by unfold eN;omega
    have en1:eN c (j+1)=j+1:=by unfold eN;omega
    have rn:rN c j=j:=by unfold rN;omega
    have rn1:rN c (j+1)=j+1:=by unfold rN;omega
    have hb:Nat.blt (j+2) c=true:=by rw [Nat.blt_eq];exact h1
    have em:dV xs r c (j+1)=bs2 r c j (An r c j (dV xs r c j)):=by show bst r c j _=_;unfold bst;rw [hb];rfl
    have ee:eE xs r c j=K5 (rx (An r c j (dV xs r c j)) c j):=by unfold eE;rw [hb];rfl
    rw [en,en1,rn,rn1,em]
    have hl:=akj (xs:=An r c j (dV xs r c j)) (vs:=rV xs r c j) (r:=r) (c:=c) (at_:=j+1) (frm:=j+1) (tau:=rT xs r c j) (hA.trans hx) hr hc (by rw [BD,zq];omega) (by rw [BD,zq];omega) (by omega)
    have hm:=aa6 (xs:=rx (An r c j (dV xs r c j)) c j) (by rw [zq];omega) (by rw [zq];omega)
    rw [show Cy (rx (An r c j (dV xs r c j)) c j)=rV xs r c j from rfl,show G3 (rx (An r c j (dV xs r c j)) c j)=rT xs r c j from rfl,←ee] at hm
    rw [gu hA,Ya (hA.trans hx) hr hc (by omega) (by omega)]
    simp only [aJ,aG]
    simp only [dg,hm,ju,db,dO,dc]
    rw [gu BD,hl,hA,JK BD,iM]
    have e1:List.take j (pushF (rT xs r c) j)++[rT xs r c j]=pushF (rT xs r c) (j+1):=iM
    have e2:List.take j (pushF (eE xs r c) j)++List.take 1 [eE xs r c j]=pushF (eE xs r c) (j+1):=iM
    rw [e1,e2]
    exact aE (by simp only [ag,au,aw,aj,ah,ae,ak,am,decide_eq_true_eq,decide_eq_false_iff_not,beq_iff_eq,beq_eq_false_iff_ne,bne_iff_ne,bne_eq_false_iff_eq,Bool.not_eq_true',Bool.not_eq_false',List.length_set,ne_eq,ge_iff_le,gt_iff_lt,ac,aa,ap];omega) (cV (by simp only [ag,au,aw,aj,ah,ae,ak,am,decide_eq_true_eq,decide_eq_false_iff_not,beq_iff_eq,beq_eq_false_iff_ne,bne_iff_ne,bne_eq_false_iff_eq,Bool.not_eq_true',Bool.not_eq_false',List.length_set,ne_eq,ge_iff_le,gt_iff_lt,ac,aa,ap];omega) (aE (OD hA) (aS (jl (aS (aE (by simp only [ag,au,aw,aj,ah,ae,ak,am,decide_eq_true_eq,decide_eq_false_iff_not,beq_iff_eq,beq_eq_false_iff_ne,bne_iff_ne,bne_eq_false_iff_eq,Bool.not_eq_true',Bool.not_eq_false',List.length_set,ne_eq,ge_iff_le,gt_iff_lt,ac,aa,ap];omega) (aE (by simp only [ag,au,aw,aj,ah,ae,ak,am,decide_eq_true_eq,decide_eq_false_iff_not,beq_iff_eq,beq_eq_false_iff_ne,bne_iff_ne,bne_eq_false_iff_eq,Bool.not_eq_true',Bool.not_eq_false',List.length_set,ne_eq,ge_iff_le,gt_iff_lt,ac,aa,ap];omega) (aS (aE (by rw [ah,pushF_len];omega) (aE (by simp only [ag,au,aw,aj,ah,ae,ak,am,decide_eq_true_eq,decide_eq_false_iff_not,beq_iff_eq,beq_eq_false_iff_ne,bne_iff_ne,bne_eq_false_iff_eq,Bool.not_eq_true',Bool.not_eq_false',List.length_set,ne_eq,ge_iff_le,gt_iff_lt,ac,aa,ap];omega) (aE (by simp only [ag,au,aw,aj,ah,ae,ak,am,decide_eq_true_eq,decide_eq_false_iff_not,beq_iff_eq,beq_eq_false_iff_ne,bne_iff_ne,bne_eq_false_iff_eq,Bool.not_eq_true',Bool.not_eq_false',List.length_set,ne_eq,ge_iff_le,gt_iff_lt,ac,aa,ap];omega) (aS (aE (by simp only [ag,au,aw,aj,ah,ae,ak,am,decide_eq_true_eq,decide_eq_false_iff_not,beq_iff_eq,beq_eq_false_iff_ne,bne_iff_ne,bne_eq_false_iff_eq,Bool.not_eq_true',Bool.not_eq_false',List.length_set,ne_eq,ge_iff_le,gt_iff_lt,ac,aa,ap];omega) (aE (decide_eq_true (by rw [BD];omega)) (aE (by simp only [ag,au,aw,aj,ah,ae,ak,am,decide_eq_true_eq,decide_eq_false_iff_not,beq_iff_eq,beq_eq_false_iff_ne,bne_iff_ne,bne_eq_false_iff_eq,Bool.not_eq_true',Bool.not_eq_false',List.length_set,ne_eq,ge_iff_le,gt_iff_lt,ac,aa,ap];omega) (aE (by simp only [ag,au,aw,aj,ah,ae,ak,am,decide_eq_true_eq,decide_eq_false_iff_not,beq_iff_eq,beq_eq_false_iff_ne,bne_iff_ne,bne_eq_false_iff_eq,Bool.not_eq_true',Bool.not_eq_false',List.length_set,ne_eq,ge_iff_le,gt_iff_lt,ac,aa,ap];omega) (aE (OD hA) (aE (OD BD) (aS rfl)))))))))))))))))))
  · have hb:Nat.blt (j+2) c=false:=by rw [Bool.eq_false_iff,ne_eq,Nat.blt_eq];exact h1
    have em:dV xs r c (j+1)=An r c j (dV xs r c j):=by show bst r c j _=_;unfold bst;rw [hb];rfl
    have ee:eE xs r c j=(An r c j (dV xs r c j)).getD (j*c+(j+1)) 0:=by unfold eE;rw [hb];rfl
    rw [em]
    by_cases h2:j+2=c
    · left
      have en:eN c j=j:=by unfold eN;omega
      have en1:eN c (j+1)=j+1:=by unfold eN;omega
      have rn:rN c j=j:=by unfold rN;omega
      have rn1:rN c (j+1)=j:=by unfold rN;omega
      rw [en,en1,rn,rn1,gu hA,Ya (hA.trans hx) hr hc (by omega) (by omega)]
      simp only [aJ,aG]
      have e0:(rx (An r c j (dV xs r c j)) c j).getD 0 0=eE xs r c j:=by
        rw [ee];unfold rx;rw [show c-(j+1)=1 from by omega];rfl
      have e2:List.take j (pushF (eE xs r c) j)++List.take 1 [eE xs r c j]=pushF (eE xs r c) (j+1):=iM
      rw [e0,e2]
      exact aE (by simp only [ag,au,aw,aj,ah,ae,ak,am,decide_eq_true_eq,decide_eq_false_iff_not,beq_iff_eq,beq_eq_false_iff_ne,bne_iff_ne,bne_eq_false_iff_eq,Bool.not_eq_true',Bool.not_eq_false',List.length_set,ne_eq,ge_iff_le,gt_iff_lt,ac,aa,ap];omega) (bY (decide_eq_false (by omega)) (aE (by simp only [ag,au,aw,aj,ah,ae,ak,am,decide_eq_true_eq,decide_eq_false_iff_not,beq_iff_eq,beq_eq_false_iff_ne,bne_iff_ne,bne_eq_false_iff_eq,Bool.not_eq_true',Bool.not_eq_false',List.length_set,ne_eq,ge_iff_le,gt_iff_lt,ac,aa,ap];omega)<|cV (by rw [beq_iff_eq];omega) (aE (OD hA) (aS (aE (by rw [au,zq];omega) (aE (by rw [aj,zq];omega) (aE (by simp only [ag,au,aw,aj,ah,ae,ak,am,decide_eq_true_eq,decide_eq_false_iff_not,beq_iff_eq,beq_eq_false_iff_ne,bne_iff_ne,bne_eq_false_iff_eq,Bool.not_eq_true',Bool.not_eq_false',List.length_set,ne_eq,ge_iff_le,gt_iff_lt,ac,aa,ap];omega) (aE (by simp only [ag,au,aw,aj,ah,ae,ak,am,decide_eq_true_eq,decide_eq_false_iff_not,beq_iff_eq,beq_eq_false_iff_ne,bne_iff_ne,bne_eq_false_iff_eq,Bool.not_eq_true',Bool.not_eq_false',List.length_set,ne_eq,ge_iff_le,gt_iff_lt,ac,aa,ap];omega) (aS (aE (by rw [ah,pushF_len];omega) rfl))))))))))
    · left
      have en1:eN c (j+1)=eN c j:=by unfold eN;omega
      have rn1:rN c (j+1)=rN c j:=by unfold rN;omega
      rw [en1,rn1]
      exact aE (by simp only [ag,au,aw,aj,ah,ae,ak,am,decide_eq_true_eq,decide_eq_false_iff_not,beq_iff_eq,beq_eq_false_iff_ne,bne_iff_ne,bne_eq_false_iff_eq,Bool.not_eq_true',Bool.not_eq_false',List.length_set,ne_eq,ge_iff_le,gt_iff_lt,ac,aa,ap];omega) (bY (decide_eq_false (by omega)) (aE (by simp only [ag,au,aw,aj,ah,ae,ak,am,decide_eq_true_eq,decide_eq_false_iff_not,beq_iff_eq,beq_eq_false_iff_ne,bne_iff_ne,bne_eq_false_iff_eq,Bool.not_eq_true',Bool.not_eq_false',List.length_set,ne_eq,ge_iff_le,gt_iff_lt,ac,aa,ap];omega)<|bY (by rw [beq_eq_false_iff_ne];omega) rfl))
theorem arM{xs:List Nat}{r c j:Nat}(hx:xs.length=r*c)(hr:r≤512)(hc:c≤512)(hcr:c≤r)(hj:j<c) :oe (c:Int) (pst xs r c j)=some (.inl (pst xs r c (j+1))):=by
  refine aA (a:=()) (cV (by simp only [ag,au,aw,aj,ah,ae,ak,am,decide_eq_true_eq,decide_eq_false_iff_not,beq_iff_eq,beq_eq_false_iff_ne,bne_iff_ne,bne_eq_false_iff_eq,Bool.not_eq_true',Bool.not_eq_false',List.length_set,ne_eq,ge_iff_le,gt_iff_lt,ac,aa,ap];omega) rfl) (aA (pf (a:=(j+1,rN c (j+1),rN c (j+1),j+1,eN c (j+1),eN c (j+1),pushF (lV xs r c) (j+1),pushF (lT xs r c) (j+1),rN c (j+1),pushF (rV xs r c) (rN c (j+1)),pushF (rT xs r c) (rN c (j+1)),(r:Int),(c:Int),dV xs r c (j+1),xs.length,pushF (dE xs r c) (j+1),pushF (eE xs r c) (eN c (j+1)))) ?_) (aE (by simp only [ag,au,aw,aj,ah,ae,ak,am,decide_eq_true_eq,decide_eq_false_iff_not,beq_iff_eq,beq_eq_false_iff_ne,bne_iff_ne,bne_eq_false_iff_eq,Bool.not_eq_true',Bool.not_eq_false',List.length_set,ne_eq,ge_iff_le,gt_iff_lt,ac,aa,ap];omega) rfl))
  refine aA (p39 hx hr hc hcr hj) (aA (p40 hx hr hc hcr hj) ?_)
  rcases p42 hx hr hc hcr hj with h | h
  · exact aA (pf h) rfl
  · exact aA (amD h) rfl
end
theorem ahw{xs:List Nat}{r c:Nat}(hx:xs.length=r*c)(hr:r≤512)(hc:c≤512)(hcr:c≤r)(hw:∀ i,xs.getD i 0<vh)(hf:∀ i,i<xs.length→fin (xs.getD i 0)=true) :
    cF (r:Int) (c:Int) xs=some (.r0 c c (rN c c) (rN c c) 0 c c (eN c c) (eN c c) c (pushF (lV xs r c) c) (pushF (lT xs r c) c) (rN c c) (pushF (rV xs r c) (rN c c)) (pushF (rT xs r c) (rN c c)) (pushF (dE xs r c) c) (pushF (eE xs r c) (eN c c))):=by
  have hL:r*c≤512*512:=Nat.mul_le_mul hr hc
  have hi:cR xs=some (.r0 (-1)):=by
    refine bT (aA (a:=()) rfl (aA (a:=()) (bH (fun j=>j) xs.length rfl (fun j hj=>?_) ?_) rfl))
    · show (eO _ _).run=_
      unfold eO
      exact cV (by simp only [ag,au,aw,aj,ah,ae,ak,am,decide_eq_true_eq,decide_eq_false_iff_not,beq_iff_eq,beq_eq_false_iff_ne,bne_iff_ne,bne_eq_false_iff_eq,Bool.not_eq_true',Bool.not_eq_false',List.length_set,ne_eq,ge_iff_le,gt_iff_lt,ac,aa,ap];omega) (aE (by simp only [ag,au,aw,aj,ah,ae,ak,am,decide_eq_true_eq,decide_eq_false_iff_not,beq_iff_eq,beq_eq_false_iff_ne,bne_iff_ne,bne_eq_false_iff_eq,Bool.not_eq_true',Bool.not_eq_false',List.length_set,ne_eq,ge_iff_le,gt_iff_lt,ac,aa,ap];omega) (aE (by simp only [ag,au,aw,aj,ah,ae,ak,am,decide_eq_true_eq,decide_eq_false_iff_not,beq_iff_eq,beq_eq_false_iff_ne,bne_iff_ne,bne_eq_false_iff_eq,Bool.not_eq_true',Bool.not_eq_false',List.length_set,ne_eq,ge_iff_le,gt_iff_lt,ac,aa,ap];omega) (bY (by rw [aoz (hw j),hf j hj];rfl) (aE (by simp only [ag,au,aw,aj,ah,ae,ak,am,decide_eq_true_eq,decide_eq_false_iff_not,beq_iff_eq,beq_eq_false_iff_ne,bne_iff_ne,bne_eq_false_iff_eq,Bool.not_eq_true',Bool.not_eq_false',List.length_set,ne_eq,ge_iff_le,gt_iff_lt,ac,aa,ap];omega) rfl))))
    · exact bY (by simp only [ag,au,aw,aj,ah,ae,ak,am,decide_eq_true_eq,decide_eq_false_iff_not,beq_iff_eq,beq_eq_false_iff_ne,bne_iff_ne,bne_eq_false_iff_eq,Bool.not_eq_true',Bool.not_eq_false',List.length_set,ne_eq,ge_iff_le,gt_iff_lt,ac,aa,ap];omega) rfl
  refine bT (aA (a:=0) ?_ (aA (a:=()) (pf ?_) (aA (a:=()) rfl (aA (a:=(c,c,rN c c,rN c c,c,c,eN c c,eN c c,c,pushF (lV xs r c) c,pushF (lT xs r c) c,rN c c,pushF (rV xs r c) (rN c c),pushF (rT xs r c) (rN c c),pushF (dE xs r c) c,pushF (eE xs r c) (eN c c))) (bH (pst xs r c) c rfl (fun j hj=>arM hx hr hc hcr hj) ?_) rfl))))
  · unfold Cl
    rw [dg,X8 hx hr hc]
    exact akc (jl (akd rfl)) (Mh (jl (aS rfl)))
  · unfold Cm
    rw [dg,hi]
    exact cu (bY (decide_eq_false (by omega)) (jl (aS (cu rfl))))
  · exact bU (bY (by simp only [ag,au,aw,aj,ah,ae,ak,am,decide_eq_true_eq,decide_eq_false_iff_not,beq_iff_eq,beq_eq_false_iff_ne,bne_iff_ne,bne_eq_false_iff_eq,Bool.not_eq_true',Bool.not_eq_false',List.length_set,ne_eq,ge_iff_le,gt_iff_lt,ac,aa,ap];omega) rfl)
def rst(xs:List Nat)(r c j:Nat) :Nat×Nat×Nat×Nat×Nat×Int×Int×Nat×Nat×Nat×Nat×Nat×Nat×Nat×(List (List Nat))×(List Nat)×Nat×(List (List Nat))×(List Nat)×(List Nat)×(List Nat)×(List Nat) :=
  (j,j,rN c j,rN c j,j,(r:Int),(c:Int),xs.length,xs.length,j,j,eN c j,eN c j,j,pushF (lV xs r c) j,pushF (lT xs r c) j,rN c j,pushF (rV xs r c) (rN c j),pushF (rT xs r c) (rN c j),dV xs r c j,pushF (dE xs r c) j,pushF (eE xs r c) (eN c j))
theorem rZ{f:Nat→Nat}{n:Nat} :List.take n (pushF f n)++List.take 1 [f n]=pushF f (n+1):=iM
section
theorem q78{xs:List Nat}{r c j:Nat}(hx:xs.length=r*c)(hr:r≤512)(hc:c≤512)(hcr:c≤r)(hj:j<c) :ch (pR j (r:Int) (c:Int) xs.length (dV xs r c j)) (0,0,j,([]:List Nat))=some (.inl (r-j,r-j,cx (dV xs r c j) r c j)):=by
  have hL:r*c≤512*512:=Nat.mul_le_mul hr hc
  have hA:(dV xs r c j).length=xs.length:=yo
  refine bH (fun i=>(i,i,j+i,pushF (fun i=>(dV xs r c j).getD ((j+i)*c+j) 0) i)) (r-j) rfl (fun i hi=>?_) ?_
  · have hq:(j+i)*c+j<xs.length:=by rw [hx];exact pg (by omega) hj
    have h:=BA (x:=j+i) hq (by omega) (by omega)
    show (wE _ _ _ _ _ _ _ _ _).run=_
    unfold wE
    rw [h.f,rZ (f:=fun i=>(dV xs r c j).getD ((j+i)*c+j) 0),hA]
    have hd:=h.d
    have he:=h.e
    rw [h.f] at he
    exact cV (by simp only [ag,au,aw,aj,ah,ae,ak,am,decide_eq_true_eq,decide_eq_false_iff_not,beq_iff_eq,beq_eq_false_iff_ne,bne_iff_ne,bne_eq_false_iff_eq,Bool.not_eq_true',Bool.not_eq_false',List.length_set,ne_eq,ge_iff_le,gt_iff_lt,ac,aa,ap];omega) (aE h.b (aE h.c (aE h.d (aE he (aE (by simp only [ag,au,aw,aj,ah,ae,ak,am,decide_eq_true_eq,decide_eq_false_iff_not,beq_iff_eq,beq_eq_false_iff_ne,bne_iff_ne,bne_eq_false_iff_eq,Bool.not_eq_true',Bool.not_eq_false',List.length_set,ne_eq,ge_iff_le,gt_iff_lt,ac,aa,ap];omega) (aE (by simp only [ag,au,aw,aj,ah,ae,ak,am,decide_eq_true_eq,decide_eq_false_iff_not,beq_iff_eq,beq_eq_false_iff_ne,bne_iff_ne,bne_eq_false_iff_eq,Bool.not_eq_true',Bool.not_eq_false',List.length_set,ne_eq,ge_iff_le,gt_iff_lt,ac,aa,ap];omega) (aS (aE (by rw [ah,pushF_len];omega) (aE (by simp only [ag,au,aw,aj,ah,ae,ak,am,decide_eq_true_eq,decide_eq_false_iff_not,beq_iff_eq,beq_eq_false_iff_ne,bne_iff_ne,bne_eq_false_iff_eq,Bool.not_eq_true',Bool.not_eq_false',List.length_set,ne_eq,ge_iff_le,gt_iff_lt,ac,aa,ap];omega) rfl)))))))))
  · exact bY (by simp only [ag,au,aw,aj,ah,ae,ak,am,decide_eq_true_eq,decide_eq_false_iff_not,beq_iff_eq,beq_eq_false_iff_ne,bne_iff_ne,bne_eq_false_iff_eq,Bool.not_eq_true',Bool.not_eq_false',List.length_set,ne_eq,ge_iff_le,gt_iff_lt,ac,aa,ap];omega) rfl
theorem q79{xs:List Nat}{r c j:Nat}(hx:xs.length=r*c)(hr:r≤512)(hc:c≤512)(hcr:c≤r)(hj:j<c) :(wF (r-j) (cx (dV xs r c j) r c j)).run=some (.inl (dE xs r c j,lV xs r c j,(cx (dV xs r c j) r c j).length,lT xs r c j)):=by
  unfold wF
  rw [gu DK,X7 (by rw [DK];omega) (by rw [DK];omega)]
  exact aE (OD DK) (aS rfl)
theorem q80{xs:List Nat}{r c j:Nat}(hx:xs.length=r*c)(hr:r≤512)(hc:c≤512)(hcr:c≤r)(hj:j<c) :(wG j j (r:Int) (c:Int) xs.length j j (pushF (lV xs r c) j) (pushF (lT xs r c) j) (dV xs r c j) (pushF (dE xs r c) j) (dE xs r c j) (lV xs r c j) (cx (dV xs r c j) r c j).length (lT xs r c j)).run =
    some (.inl (j+1,(r:Int),(c:Int),xs.length,j+1,pushF (lV xs r c) (j+1),pushF (lT xs r c) (j+1),An r c j (dV xs r c j),pushF (dE xs r c) (j+1))):=by
  unfold wG
  have hA:(dV xs r c j).length=xs.length:=yo
  have hl:=akh (xs:=dV xs r c j) (vs:=lV xs r c j) (r:=r) (c:=c) (at_:=j) (frm:=j+1) (tau:=lT xs r c j) (hA.trans hx) hr hc (by rw [BC,DK];omega) (by omega)
  rw [gu hA,gu BC,hl,hA,JK BC,iM]
  have e1:List.take j (pushF (lT xs r c) j)++[lT xs r c j]=pushF (lT xs r c) (j+1):=iM
  have e2:List.take j (pushF (dE xs r c) j)++List.take 1 [dE xs r c j]=pushF (dE xs r c) (j+1):=iM
  rw [e1,e2]
  exact aE (by simp only [ag,au,aw,aj,ah,ae,ak,am,decide_eq_true_eq,decide_eq_false_iff_not,beq_iff_eq,beq_eq_false_iff_ne,bne_iff_ne,bne_eq_false_iff_eq,Bool.not_eq_true',Bool.not_eq_false',List.length_set,ne_eq,ge_iff_le,gt_iff_lt,ac,aa,ap];omega) (aE (by simp only [ag,au,aw,aj,ah,ae,ak,am,decide_eq_true_eq,decide_eq_false_iff_not,beq_iff_eq,beq_eq_false_iff_ne,bne_iff_ne,bne_eq_false_iff_eq,Bool.not_eq_true',Bool.not_eq_false',List.length_set,ne_eq,ge_iff_le,gt_iff_lt,ac,aa,ap];omega) (aS (aE (by rw [ah,pushF_len];omega) (aE (by simp only [ag,au,aw,aj,ah,ae,ak,am,decide_eq_true_eq,decide_eq_false_iff_not,beq_iff_eq,beq_eq_false_iff_ne,bne_iff_ne,bne_eq_false_iff_eq,Bool.not_eq_true',Bool.not_eq_false',List.length_set,ne_eq,ge_iff_le,gt_iff_lt,ac,aa,ap];omega) (aE (by simp only [ag,au,aw,aj,ah,ae,ak,am,decide_eq_true_eq,decide_eq_false_iff_not,beq_iff_eq,beq_eq_false_iff_ne,bne_iff_ne,bne_eq_false_iff_eq,Bool.not_eq_true',Bool.not_eq_false',List.length_set,ne_eq,ge_iff_le,gt_iff_lt,ac,aa,ap];omega) (aS (aE (by simp only [ag,au,aw,aj,ah,ae,ak,am,decide_eq_true_eq,decide_eq_false_iff_not,beq_iff_eq,beq_eq_false_iff_ne,bne_iff_ne,bne_eq_false_iff_eq,Bool.not_eq_true',Bool.not_eq_false',List.length_set,ne_eq,ge_iff_le,gt_iff_lt,ac,aa,ap];omega) (aE (by rw [BC];simp) (aE (by simp only [ag,au,aw,aj,ah,ae,ak,am,decide_eq_true_eq,decide_eq_false_iff_not,beq_iff_eq,beq_eq_false_iff_ne,bne_iff_ne,bne_eq_false_iff_eq,Bool.not_eq_true',Bool.not_eq_false',List.length_set,ne_eq,ge_iff_le,gt_iff_lt,ac,aa,ap];omega) (aE (OD hA) (aE (OD BC) (aS rfl))))))))))))
theorem q87{xs:List Nat}{r c j:Nat}(hx:xs.length=r*c)(hr:r≤512)(hc:c≤512)(hcr:c≤r)(hj:j<c)(h1:j+2<c) :ch (lX j (c:Int) xs.length (An r c j (dV xs r c j))) (0,0,j+1,([]:List Nat))=some (.inl (c-(j+1),c-(j+1),rx (An r c j (dV xs r c j)) c j)):=by
  have hL:r*c≤512*512:=Nat.mul_le_mul hr hc
  have hA:(An r c j (dV xs r c j)).length=xs.length:=OC.trans yo
  refine bH (fun i=>(i,i,j+1+i,pushF (fun i=>(An r c j (dV xs r c j)).getD (j*c+(j+1+i)) 0) i)) (c-(j+1)) rfl (fun i hi=>?_) ?_
  · have hq:j*c+(j+1+i)<xs.length:=by rw [hx];exact pg (by omega) (by omega)
    have h:=BA (x:=j) hq (by omega) (by omega)
    show (wI _ _ _ _ _ _ _ _).run=_
    unfold wI
    rw [h.f,rZ (f:=fun i=>(An r c j (dV xs r c j)).getD (j*c+(j+1+i)) 0),hA]
    have he:=h.e
    rw [h.f] at he
    exact cV (by simp only [ag,au,aw,aj,ah,ae,ak,am,decide_eq_true_eq,decide_eq_false_iff_not,beq_iff_eq,beq_eq_false_iff_ne,bne_iff_ne,bne_eq_false_iff_eq,Bool.not_eq_true',Bool.not_eq_false',List.length_set,ne_eq,ge_iff_le,gt_iff_lt,ac,aa,ap];omega) (aE h.b (aE h.c (aE h.d (aE he (aE (by simp only [ag,au,aw,aj,ah,ae,ak,am,decide_eq_true_eq,decide_eq_false_iff_not,beq_iff_eq,beq_eq_false_iff_ne,bne_iff_ne,bne_eq_false_iff_eq,Bool.not_eq_true',Bool.not_eq_false',List.length_set,ne_eq,ge_iff_le,gt_iff_lt,ac,aa,ap];omega) (aE (by simp only [ag,au,aw,aj,ah,ae,ak,am,decide_eq_true_eq,decide_eq_false_iff_not,beq_iff_eq,beq_eq_false_iff_ne,bne_iff_ne,bne_eq_false_iff_eq,Bool.not_eq_true',Bool.not_eq_false',List.length_set,ne_eq,ge_iff_le,gt_iff_lt,ac,aa,ap];omega) (aS (aE (by rw [ah,pushF_len];omega) (aE (by simp only [ag,au,aw,aj,ah,ae,ak,am,decide_eq_true_eq,decide_eq_false_iff_not,beq_iff_eq,beq_eq_false_iff_ne,bne_iff_ne,bne_eq_false_iff_eq,Bool.not_eq_true',Bool.not_eq_false',List.length_set,ne_eq,ge_iff_le,gt_iff_lt,ac,aa,ap];omega) rfl)))))))))
  · exact bY (by simp only [ag,au,aw,aj,ah,ae,ak,am,decide_eq_true_eq,decide_eq_false_iff_not,beq_iff_eq,beq_eq_false_iff_ne,bne_iff_ne,bne_eq_false_iff_eq,Bool.not_eq_true',Bool.not_eq_false',List.length_set,ne_eq,ge_iff_le,gt_iff_lt,ac,aa,ap];omega) rfl
theorem arN{xs:List Nat}{r c j:Nat}(hx:xs.length=r*c)(hr:r≤512)(hc:c≤512)(hcr:c≤r)(hj:j<c) :(aL (wH j (eN c j) (eN c j) (pushF (eE xs r c) (eN c j)) (c:Int) xs.length (An r c j (dV xs r c j))).run fun (a157,a158,l159) =>
    aL ((El j (c:Int)).run) fun b160 =>
    aL ((bif b160 then aL ((En j).run) fun j161 =>
      aL (ch (lX j (c:Int) xs.length (An r c j (dV xs r c j))) (0,0,j161,([]:List Nat))) fun (y167,y168,l169) =>
      aL ((pT y167 l169).run) fun (beta170,l171,a172,a173) =>
      (pU (rN c j) j (rN c j) (pushF (rV xs r c) (rN c j)) (pushF (rT xs r c) (rN c j)) (r:Int) (c:Int) xs.length (An r c j (dV xs r c j)) a157 l159 beta170 l171 a172 a173).run else (Ep (rN c j) (rN c j) (rN c j) (pushF (rV xs r c) (rN c j)) (pushF (rT xs r c) (rN c j)) (r:Int) (c:Int) xs.length (An r c j (dV xs r c j)) a157 a158 l159).run)) fun (right174,right175,i176,i177,a178,a179,a180,a181,l182,l183,l184,l185) =>
    (Er (j+1) (j+1) (pushF (lV xs r c) (j+1)) (pushF (lT xs r c) (j+1)) (pushF (dE xs r c) (j+1)) right174 right175 i176 i177 a178 a179 a180 a181 l182 l183 l184 l185).run) =
    some (.inl (j+1,rN c (j+1),rN c (j+1),(r:Int),(c:Int),xs.length,j+1,eN c (j+1),eN c (j+1),pushF (lV xs r c) (j+1),pushF (lT xs r c) (j+1),rN c (j+1),pushF (rV xs r c) (rN c (j+1)),pushF (rT xs r c) (rN c (j+1)),dV xs r c (j+1),pushF (dE xs r c) (j+1),pushF (eE xs r c) (eN c (j+1)))):=by
  have hL:r*c≤512*512:=Nat.mul_le_mul hr hc
  have hA:(An r c j (dV xs r c j)).length=xs.length:=OC.trans yo
  by_cases h1:j+2<c
  · have en:eN c j=j:=by unfold eN;omega
    have en1:eN c (j+1)=j+1:=by unfold eN;omega
    have rn:rN c j=j:=by unfold rN;omega
    have rn1:rN c (j+1)=j+1:=by unfold rN;omega
    have hb:Nat.blt (j+2) c=true:=by rw [Nat.blt_eq];exact h1
    have em:dV xs r c (j+1)=bs2 r c j (An r c j (dV xs r c j)):=by show bst r c j _=_;unfold bst;rw [hb];rfl
    have ee:eE xs r c j=K5 (rx (An r c j (dV xs r c j)) c j):=by unfold eE;rw [hb];rfl
    rw [en,en1,rn,rn1,em]
    have hm:=X7 (xs:=rx (An r c j (dV xs r c j)) c j) (by rw [zq];omega) (by rw [zq];omega)
    rw [show Cy (rx (An r c j (dV xs r c j)) c j)=rV xs r c j from rfl,show G3 (rx (An r c j (dV xs r c j)) c j)=rT xs r c j from rfl,←ee] at hm
    have h88:(pT (c-(j+1)) (rx (An r c j (dV xs r c j)) c j)).run=some (.inl (eE xs r c j,rV xs r c j,(rx (An r c j (dV xs r c j)) c j).length,rT xs r c j)):=by
      unfold pT
      rw [gu zq,hm]
      exact aE (OD zq) (aS rfl)
    have hl:=aht (xs:=An r c j (dV xs r c j)) (vs:=rV xs r c j) (r:=r) (c:=c) (at_:=j+1) (frm:=j+1) (tau:=rT xs r c j) (hA.trans hx) hr hc (by rw [BD,zq];omega) (by omega)
    have h89:(pU j j j (pushF (rV xs r c) j) (pushF (rT xs r c) j) (r:Int) (c:Int) xs.length (An r c j (dV xs r c j)) j (pushF (eE xs r c) j) (eE xs r c j) (rV xs r c j) (rx (An r c j (dV xs r c j)) c j).length (rT xs r c j)).run =
        some (.inl (j+1,j+1,(r:Int),(c:Int),xs.length,j+1,j+1,j+1,pushF (rV xs r c) (j+1),pushF (rT xs r c) (j+1),bs2 r c j (An r c j (dV xs r c j)),pushF (eE xs r c) (j+1))):=by
      unfold pU
      rw [gu hA,gu BD,hl,hA,JK BD,iM]
      have e1:List.take j (pushF (rT xs r c) j)++[rT xs r c j]=pushF (rT xs r c) (j+1):=iM
      have e2:List.take j (pushF (eE xs r c) j)++List.take 1 [eE xs r c j]=pushF (eE xs r c) (j+1):=iM
      rw [e1,e2]
      exact aE (by simp only [ag,au,aw,aj,ah,ae,ak,am,decide_eq_true_eq,decide_eq_false_iff_not,beq_iff_eq,beq_eq_false_iff_ne,bne_iff_ne,bne_eq_false_iff_eq,Bool.not_eq_true',Bool.not_eq_false',List.length_set,ne_eq,ge_iff_le,gt_iff_lt,ac,aa,ap];omega) (aE (by simp only [ag,au,aw,aj,ah,ae,ak,am,decide_eq_true_eq,decide_eq_false_iff_not,beq_iff_eq,beq_eq_false_iff_ne,bne_iff_ne,bne_eq_false_iff_eq,Bool.not_eq_true',Bool.not_eq_false',List.length_set,ne_eq,ge_iff_le,gt_iff_lt,ac,aa,ap];omega) (aS (aE (by rw [ah,pushF_len];omega) (aE (by simp only [ag,au,aw,aj,ah,ae,ak,am,decide_eq_true_eq,decide_eq_false_iff_not,beq_iff_eq,beq_eq_false_iff_ne,bne_iff_ne,bne_eq_false_iff_eq,Bool.not_eq_true',Bool.not_eq_false',List.length_set,ne_eq,ge_iff_le,gt_iff_lt,ac,aa,ap];omega) (aE (by simp only [ag,au,aw,aj,ah,ae,ak,am,decide_eq_true_eq,decide_eq_false_iff_not,beq_iff_eq,beq_eq_false_iff_ne,bne_iff_ne,bne_eq_false_iff_eq,Bool.not_eq_true',Bool.not_eq_false',List.length_set,ne_eq,ge_iff_le,gt_iff_lt,ac,aa,ap];omega) (aS (aE (by simp only [ag,au,aw,aj,ah,ae,ak,am,decide_eq_true_eq,decide_eq_false_iff_not,beq_iff_eq,beq_eq_false_iff_ne,bne_iff_ne,bne_eq_false_iff_eq,Bool.not_eq_true',Bool.not_eq_false',List.length_set,ne_eq,ge_iff_le,gt_iff_lt,ac,aa,ap];omega) (aE (decide_eq_true (by rw [BD];omega)) (aE (by simp only [ag,au,aw,aj,ah,ae,ak,am,decide_eq_true_eq,decide_eq_false_iff_not,beq_iff_eq,beq_eq_false_iff_ne,bne_iff_ne,bne_eq_false_iff_eq,Bool.not_eq_true',Bool.not_eq_false',List.length_set,ne_eq,ge_iff_le,gt_iff_lt,ac,aa,ap];omega) (aE (by simp only [ag,au,aw,aj,ah,ae,ak,am,decide_eq_true_eq,decide_eq_false_iff_not,beq_iff_eq,beq_eq_false_iff_ne,bne_iff_ne,bne_eq_false_iff_eq,Bool.not_eq_true',Bool.not_eq_false',List.length_set,ne_eq,ge_iff_le,gt_iff_lt,ac,aa,ap];omega) (aE (OD hA) (aE (OD BD) (aS rfl)))))))))))))
    refine aA (a:=(j,j,pushF (eE xs r c) j)) ?_ (aA (a:=true) ?_ (aA (a:=(j+1,j+1,(r:Int),(c:Int),xs.length,j+1,j+1,j+1,pushF (rV xs r c) (j+1),pushF (rT xs r c) (j+1),bs2 r c j (An r c j (dV xs r c j)),pushF (eE xs r c) (j+1))) ?_ rfl))
    · exact aE (by simp only [ag,au,aw,aj,ah,ae,ak,am,decide_eq_true_eq,decide_eq_false_iff_not,beq_iff_eq,beq_eq_false_iff_ne,bne_iff_ne,bne_eq_false_iff_eq,Bool.not_eq_true',Bool.not_eq_false',List.length_set,ne_eq,ge_iff_le,gt_iff_lt,ac,aa,ap];omega) (bY (by rw [beq_eq_false_iff_ne];omega) rfl)
    · exact aE (by simp only [ag,au,aw,aj,ah,ae,ak,am,decide_eq_true_eq,decide_eq_false_iff_not,beq_iff_eq,beq_eq_false_iff_ne,bne_iff_ne,bne_eq_false_iff_eq,Bool.not_eq_true',Bool.not_eq_false',List.length_set,ne_eq,ge_iff_le,gt_iff_lt,ac,aa,ap];omega) (by rw [decide_eq_true (by omega)];rfl)
    · rw [cond_true]
      exact aA (a:=j+1) (aE (by simp only [ag,au,aw,aj,ah,ae,ak,am,decide_eq_true_eq,decide_eq_false_iff_not,beq_iff_eq,beq_eq_false_iff_ne,bne_iff_ne,bne_eq_false_iff_eq,Bool.not_eq_true',Bool.not_eq_false',List.length_set,ne_eq,ge_iff_le,gt_iff_lt,ac,aa,ap];omega) rfl) (aA (q87 hx hr hc hcr hj h1) (aA h88 h89))
  · have hb:Nat.blt (j+2) c=false:=by rw [Bool.eq_false_iff,ne_eq,Nat.blt_eq];exact h1
    have em:dV xs r c (j+1)=An r c j (dV xs r c j):=by show bst r c j _=_;unfold bst;rw [hb];rfl
    have ee:eE xs r c j=(An r c j (dV xs r c j)).getD (j*c+(j+1)) 0:=by unfold eE;rw [hb];rfl
    rw [em]
    by_cases h2:j+2=c
    · have en:eN c j=j:=by unfold eN;omega
      have en1:eN c (j+1)=j+1:=by unfold eN;omega
      have rn:rN c j=j:=by unfold rN;omega
      have rn1:rN c (j+1)=j:=by unfold rN;omega
      rw [en,en1,rn,rn1]
      refine aA (a:=(j+1,j+1,pushF (eE xs r c) (j+1))) ?_ (aA (a:=false) ?_ (aA (a:=(j,j,(r:Int),(c:Int),xs.length,j+1,j+1,j,pushF (rV xs r c) j,pushF (rT xs r c) j,An r c j (dV xs r c j),pushF (eE xs r c) (j+1))) rfl rfl))
      · have hq:j*c+(j+1)<xs.length:=by rw [hx];exact pg (by omega) (by omega)
        have h:=BA (x:=j) hq (by omega) (by omega)
        unfold wH
        have e2:List.take j (pushF (eE xs r c) j)++List.take 1 [eE xs r c j]=pushF (eE xs r c) (j+1):=iM
        rw [h.f,←ee,e2,hA]
        have he:=h.e
        rw [h.f] at he
        exact aE (by simp only [ag,au,aw,aj,ah,ae,ak,am,decide_eq_true_eq,decide_eq_false_iff_not,beq_iff_eq,beq_eq_false_iff_ne,bne_iff_ne,bne_eq_false_iff_eq,Bool.not_eq_true',Bool.not_eq_false',List.length_set,ne_eq,ge_iff_le,gt_iff_lt,ac,aa,ap];omega) (cV (by rw [beq_iff_eq];omega) (aE (by simp only [ag,au,aw,aj,ah,ae,ak,am,decide_eq_true_eq,decide_eq_false_iff_not,beq_iff_eq,beq_eq_false_iff_ne,bne_iff_ne,bne_eq_false_iff_eq,Bool.not_eq_true',Bool.not_eq_false',List.length_set,ne_eq,ge_iff_le,gt_iff_lt,ac,aa,ap];omega) (aE h.b (aE h.c (aE h.d (aE he (aE (by simp only [ag,au,aw,aj,ah,ae,ak,am,decide_eq_true_eq,decide_eq_false_iff_not,beq_iff_eq,beq_eq_false_iff_ne,bne_iff_ne,bne_eq_false_iff_eq,Bool.not_eq_true',Bool.not_eq_false',List.length_set,ne_eq,ge_iff_le,gt_iff_lt,ac,aa,ap];omega) (aE (by simp only [ag,au,aw,aj,ah,ae,ak,am,decide_eq_true_eq,decide_eq_false_iff_not,beq_iff_eq,beq_eq_false_iff_ne,bne_iff_ne,bne_eq_false_iff_eq,Bool.not_eq_true',Bool.not_eq_false',List.length_set,ne_eq,ge_iff_le,gt_iff_lt,ac,aa,ap];omega) (aS (aE (by rw [ah,pushF_len];omega) rfl))))))))))
      · exact aE (by simp only [ag,au,aw,aj,ah,ae,ak,am,decide_eq_true_eq,decide_eq_false_iff_not,beq_iff_eq,beq_eq_false_iff_ne,bne_iff_ne,bne_eq_false_iff_eq,Bool.not_eq_true',Bool.not_eq_false',List.length_set,ne_eq,ge_iff_le,gt_iff_lt,ac,aa,ap];omega) (by rw [decide_eq_false (by omega)];rfl)
    · have en1:eN c (j+1)=eN c j:=by unfold eN;omega
      have rn1:rN c (j+1)=rN c j:=by unfold rN;omega
      rw [en1,rn1]
      refine aA (a:=(eN c j,eN c j,pushF (eE xs r c) (eN c j))) ?_ (aA (a:=false) ?_ (aA (a:=(rN c j,rN c j,(r:Int),(c:Int),xs.length,eN c j,eN c j,rN c j,pushF (rV xs r c) (rN c j),pushF (rT xs r c) (rN c j),An r c j (dV xs r c j),pushF (eE xs r c) (eN c j))) rfl rfl))
      · exact aE (by simp only [ag,au,aw,aj,ah,ae,ak,am,decide_eq_true_eq,decide_eq_false_iff_not,beq_iff_eq,beq_eq_false_iff_ne,bne_iff_ne,bne_eq_false_iff_eq,Bool.not_eq_true',Bool.not_eq_false',List.length_set,ne_eq,ge_iff_le,gt_iff_lt,ac,aa,ap];omega) (bY (by rw [beq_eq_false_iff_ne];omega) rfl)
      · exact aE (by simp only [ag,au,aw,aj,ah,ae,ak,am,decide_eq_true_eq,decide_eq_false_iff_not,beq_iff_eq,beq_eq_false_iff_ne,bne_iff_ne,bne_eq_false_iff_eq,Bool.not_eq_true',Bool.not_eq_false',List.length_set,ne_eq,ge_iff_le,gt_iff_lt,ac,aa,ap];omega) (by rw [decide_eq_false (by omega)];rfl)
theorem arO{xs:List Nat}{r c j:Nat}(hx:xs.length=r*c)(hr:r≤512)(hc:c≤512)(hcr:c≤r)(hj:j<c) :pV (rst xs r c j)=some (.inl (rst xs r c (j+1))):=by
  refine aA (a:=()) (cV (by simp only [ag,au,aw,aj,ah,ae,ak,am,decide_eq_true_eq,decide_eq_false_iff_not,beq_iff_eq,beq_eq_false_iff_ne,bne_iff_ne,bne_eq_false_iff_eq,Bool.not_eq_true',Bool.not_eq_false',List.length_set,ne_eq,ge_iff_le,gt_iff_lt,ac,aa,ap];omega) rfl) (aA (pf (aA (a:=()) rfl (aA (q78 hx hr hc hcr hj) (aA (q79 hx hr hc hcr hj) (aA (q80 hx hr hc hcr hj) (arN hx hr hc hcr hj)))))) (aE (by simp only [ag,au,aw,aj,ah,ae,ak,am,decide_eq_true_eq,decide_eq_false_iff_not,beq_iff_eq,beq_eq_false_iff_ne,bne_iff_ne,bne_eq_false_iff_eq,Bool.not_eq_true',Bool.not_eq_false',List.length_set,ne_eq,ge_iff_le,gt_iff_lt,ac,aa,ap];omega) rfl))
end
theorem aa8{xs:List Nat}{r c:Nat}(hx:xs.length=r*c)(hr:r≤512)(hc:c≤512)(hcr:c≤r) :
    fJ (r:Int) (c:Int) xs=some (.r0 c c (rN c c) (rN c c) c c (eN c c) (eN c c) c (pushF (lV xs r c) c) (pushF (lT xs r c) c) (rN c c) (pushF (rV xs r c) (rN c c)) (pushF (rT xs r c) (rN c c)) (pushF (dE xs r c) c) (pushF (eE xs r c) (eN c c))):=by
  have hL:r*c≤512*512:=Nat.mul_le_mul hr hc
  refine bT (aA (a:=xs) ?_ (aA (a:=(c,c,rN c c,rN c c,c,c,eN c c,eN c c,c,pushF (lV xs r c) c,pushF (lT xs r c) c,rN c c,pushF (rV xs r c) (rN c c),pushF (rT xs r c) (rN c c),pushF (dE xs r c) c,pushF (eE xs r c) (eN c c))) (bH (rst xs r c) c rfl (fun j hj=>arO hx hr hc hcr hj) ?_) rfl))
  · unfold Ei
    rw [List.take_length]
    exact aE (by simp only [ag,au,aw,aj,ah,ae,ak,am,decide_eq_true_eq,decide_eq_false_iff_not,beq_iff_eq,beq_eq_false_iff_ne,bne_iff_ne,bne_eq_false_iff_eq,Bool.not_eq_true',Bool.not_eq_false',List.length_set,ne_eq,ge_iff_le,gt_iff_lt,ac,aa,ap];omega) (aE (by simp only [ag,au,aw,aj,ah,ae,ak,am,decide_eq_true_eq,decide_eq_false_iff_not,beq_iff_eq,beq_eq_false_iff_ne,bne_iff_ne,bne_eq_false_iff_eq,Bool.not_eq_true',Bool.not_eq_false',List.length_set,ne_eq,ge_iff_le,gt_iff_lt,ac,aa,ap];omega) (aE (ahi _) rfl))
  · exact bU (bY (by simp only [ag,au,aw,aj,ah,ae,ak,am,decide_eq_true_eq,decide_eq_false_iff_not,beq_iff_eq,beq_eq_false_iff_ne,bne_iff_ne,bne_eq_false_iff_eq,Bool.not_eq_true',Bool.not_eq_false',List.length_set,ne_eq,ge_iff_le,gt_iff_lt,ac,aa,ap];omega) rfl)
end Go.Plb.Seat
namespace Go.Plb.Seat
open Go Go.Plb
set_option linter.unusedSimpArgs false
set_option linter.unusedVariables false
theorem adM{A:List Nat}{r c:Nat}(hl:A.length=r*c)(hr:r≤512)(hc:c≤512) :
    hJ (r:Int) (c:Int) A=some (.r0 (c:Int) (r:Int) (c*r) (Go.Plb.pushF (tv A r c) (c*r))):=by
  have hb:r*c≤512*512:=Nat.mul_le_mul hr hc
  have hl':A.length=c*r:=by rw [hl,Nat.mul_comm]
  have e0:tf A r c 0 0=List.replicate (c*r) 0:=by
    rw [T1]
    exact Go.Plb.pushF_congr fun p _=>if_neg (by intro h;rcases h with q | ⟨_,q⟩;exact Nat.not_lt_zero _ q;exact Nat.not_lt_zero _ q)
  have en:tf A r c r 0=Go.Plb.pushF (tv A r c) (c*r):=by
    refine Go.Plb.pushF_congr fun p hp=>if_pos (.inl (Nat.mod_lt _ ?_))
    rcases Nat.eq_zero_or_pos r with q | q
    · subst q;omega
    · exact q
  have tl:∀ i k,(tf A r c i k).length=c*r:=fun i k=>Go.Plb.pushF_len
  refine bT (aA (a:=(c*r,tf A r c 0 0)) ?_ (aA (a:=tf A r c r 0) (bH (fun i=>(i,tf A r c i 0)) r rfl (fun i hi=>?_) ?_) (by rw [en];rfl)))
  · unfold Ef
    rw [e0,Uh,aa]
    rw [hl] at hl'
    exact (aE (by simp only [ag,au,aw,aj,ah,ae,ak,am,decide_eq_true_eq,decide_eq_false_iff_not,beq_iff_eq,beq_eq_false_iff_ne,bne_iff_ne,bne_eq_false_iff_eq,Bool.not_eq_true',Bool.not_eq_false',List.length_set,ne_eq,ge_iff_le,gt_iff_lt,ac,aa,ap];omega) (aE (by simp only [ag,au,aw,aj,ah,ae,ak,am,decide_eq_true_eq,decide_eq_false_iff_not,beq_iff_eq,beq_eq_false_iff_ne,bne_iff_ne,bne_eq_false_iff_eq,Bool.not_eq_true',Bool.not_eq_false',List.length_set,ne_eq,ge_iff_le,gt_iff_lt,ac,aa,ap];omega) (aE (by simp only [ag,au,aw,aj,ah,ae,ak,am,decide_eq_true_eq,decide_eq_false_iff_not,beq_iff_eq,beq_eq_false_iff_ne,bne_iff_ne,bne_eq_false_iff_eq,Bool.not_eq_true',Bool.not_eq_false',List.length_set,ne_eq,ge_iff_le,gt_iff_lt,ac,aa,ap];omega) (aE (by simp only [ag,au,aw,aj,ah,ae,ak,am,decide_eq_true_eq,decide_eq_false_iff_not,beq_iff_eq,beq_eq_false_iff_ne,bne_iff_ne,bne_eq_false_iff_eq,Bool.not_eq_true',Bool.not_eq_false',List.length_set,ne_eq,ge_iff_le,gt_iff_lt,ac,aa,ap];omega) (aE (by simp only [ag,au,aw,aj,ah,ae,ak,am,decide_eq_true_eq,decide_eq_false_iff_not,beq_iff_eq,beq_eq_false_iff_ne,bne_iff_ne,bne_eq_false_iff_eq,Bool.not_eq_true',Bool.not_eq_false',List.length_set,ne_eq,ge_iff_le,gt_iff_lt,ac,aa,ap];omega) rfl)))))
  · show aL (wv _ _ _).run _=_
    refine aA (a:=()) (cV (by simp only [ag,au,aw,aj,ah,ae,ak,am,decide_eq_true_eq,decide_eq_false_iff_not,beq_iff_eq,beq_eq_false_iff_ne,bne_iff_ne,bne_eq_false_iff_eq,Bool.not_eq_true',Bool.not_eq_false',List.length_set,ne_eq,ge_iff_le,gt_iff_lt,ac,aa,ap];omega) rfl) (aA (a:=tf A r c (i+1) 0) (pf (aA (a:=()) rfl (aA (a:=tf A r c i c) (bH (fun k=>(k,tf A r c i k)) c rfl (fun k hk=>?_) ?_) (by rw [←apK];rfl)))) (aE (by simp only [ag,au,aw,aj,ah,ae,ak,am,decide_eq_true_eq,decide_eq_false_iff_not,beq_iff_eq,beq_eq_false_iff_ne,bne_iff_ne,bne_eq_false_iff_eq,Bool.not_eq_true',Bool.not_eq_false',List.length_set,ne_eq,ge_iff_le,gt_iff_lt,ac,aa,ap];omega) rfl))
    · have h1:i*c+k<r*c:=pg hi hk
      have h2:k*r+i<c*r:=pg hk hi
      show (wx _ _ _ _ _ _ _).run=_
      unfold wx
      rw [adH,adH,Uh,Uh,aa,aa,arb hi hk,tl]
      rw [hl] at hl' ⊢
      exact (cV (by simp only [ag,au,aw,aj,ah,ae,ak,am,decide_eq_true_eq,decide_eq_false_iff_not,beq_iff_eq,beq_eq_false_iff_ne,bne_iff_ne,bne_eq_false_iff_eq,Bool.not_eq_true',Bool.not_eq_false',List.length_set,ne_eq,ge_iff_le,gt_iff_lt,ac,aa,ap];omega) (aE (by simp only [ag,au,aw,aj,ah,ae,ak,am,decide_eq_true_eq,decide_eq_false_iff_not,beq_iff_eq,beq_eq_false_iff_ne,bne_iff_ne,bne_eq_false_iff_eq,Bool.not_eq_true',Bool.not_eq_false',List.length_set,ne_eq,ge_iff_le,gt_iff_lt,ac,aa,ap];omega) (aE (by simp only [ag,au,aw,aj,ah,ae,ak,am,decide_eq_true_eq,decide_eq_false_iff_not,beq_iff_eq,beq_eq_false_iff_ne,bne_iff_ne,bne_eq_false_iff_eq,Bool.not_eq_true',Bool.not_eq_false',List.length_set,ne_eq,ge_iff_le,gt_iff_lt,ac,aa,ap];omega) (aE (by simp only [ag,au,aw,aj,ah,ae,ak,am,decide_eq_true_eq,decide_eq_false_iff_not,beq_iff_eq,beq_eq_false_iff_ne,bne_iff_ne,bne_eq_false_iff_eq,Bool.not_eq_true',Bool.not_eq_false',List.length_set,ne_eq,ge_iff_le,gt_iff_lt,ac,aa,ap];omega) (aE (by simp only [ag,au,aw,aj,ah,ae,ak,am,decide_eq_true_eq,decide_eq_false_iff_not,beq_iff_eq,beq_eq_false_iff_ne,bne_iff_ne,bne_eq_false_iff_eq,Bool.not_eq_true',Bool.not_eq_false',List.length_set,ne_eq,ge_iff_le,gt_iff_lt,ac,aa,ap];omega) (aE (by simp only [ag,au,aw,aj,ah,ae,ak,am,decide_eq_true_eq,decide_eq_false_iff_not,beq_iff_eq,beq_eq_false_iff_ne,bne_iff_ne,bne_eq_false_iff_eq,Bool.not_eq_true',Bool.not_eq_false',List.length_set,ne_eq,ge_iff_le,gt_iff_lt,ac,aa,ap];omega) (aE (by simp only [ag,au,aw,aj,ah,ae,ak,am,decide_eq_true_eq,decide_eq_false_iff_not,beq_iff_eq,beq_eq_false_iff_ne,bne_iff_ne,bne_eq_false_iff_eq,Bool.not_eq_true',Bool.not_eq_false',List.length_set,ne_eq,ge_iff_le,gt_iff_lt,ac,aa,ap];omega) (aE (by simp only [ag,au,aw,aj,ah,ae,ak,am,decide_eq_true_eq,decide_eq_false_iff_not,beq_iff_eq,beq_eq_false_iff_ne,bne_iff_ne,bne_eq_false_iff_eq,Bool.not_eq_true',Bool.not_eq_false',List.length_set,ne_eq,ge_iff_le,gt_iff_lt,ac,aa,ap];omega) (aE (by simp only [ag,au,aw,aj,ah,ae,ak,am,decide_eq_true_eq,decide_eq_false_iff_not,beq_iff_eq,beq_eq_false_iff_ne,bne_iff_ne,bne_eq_false_iff_eq,Bool.not_eq_true',Bool.not_eq_false',List.length_set,ne_eq,ge_iff_le,gt_iff_lt,ac,aa,ap];omega) (aE (by simp only [ag,au,aw,aj,ah,ae,ak,am,decide_eq_true_eq,decide_eq_false_iff_not,beq_iff_eq,beq_eq_false_iff_ne,bne_iff_ne,bne_eq_false_iff_eq,Bool.not_eq_true',Bool.not_eq_false',List.length_set,ne_eq,ge_iff_le,gt_iff_lt,ac,aa,ap];omega) rfl))))))))))
    · exact bY (by simp only [ag,au,aw,aj,ah,ae,ak,am,decide_eq_true_eq,decide_eq_false_iff_not,beq_iff_eq,beq_eq_false_iff_ne,bne_iff_ne,bne_eq_false_iff_eq,Bool.not_eq_true',Bool.not_eq_false',List.length_set,ne_eq,ge_iff_le,gt_iff_lt,ac,aa,ap];omega) rfl
  · show aL (wv _ _ _).run _=_
    exact bU (bY (by simp only [ag,au,aw,aj,ah,ae,ak,am,decide_eq_true_eq,decide_eq_false_iff_not,beq_iff_eq,beq_eq_false_iff_ne,bne_iff_ne,bne_eq_false_iff_eq,Bool.not_eq_true',Bool.not_eq_false',List.length_set,ne_eq,ge_iff_le,gt_iff_lt,ac,aa,ap];omega) rfl)
theorem apP(w:Nat) :Int.fdiv (w:Int) (2^min (Int.toNat (52:Int)) IntKind.u64.bits)=((w/4503599627370496:Nat):Int):=by
  have e1:(2^min (Int.toNat 52) IntKind.u64.bits:Int)=((4503599627370496:Nat):Int):=by decide
  rw [e1,Int.fdiv_eq_ediv_of_nonneg _ (by omega)];omega
theorem aqw(m:Nat) :cL .and .u64 (m:Int) 2047=((m%2048:Nat):Int):=by
  unfold cL
  simp only [BitVec.toNat_and,BitVec.toNat_ofInt]
  have e1:((2047:Int)%((2^IntKind.u64.bits:Nat):Int)).toNat=2^11-1:=by decide
  have e2:((m:Int)%((2^IntKind.u64.bits:Nat):Int)).toNat=m%2^64:=by
    show ((m:Int)%((2^64:Nat):Int)).toNat=_
    omega
  rw [e1,e2,Nat.and_two_pow_sub_one_eq_mod]
  have e3:m%2^64%2^11=m%2048:=by omega
  rw [e3]
  have:m%2048<2048:=Nat.mod_lt _ (by decide)
  simp only [IntKind.wrap,IntKind.signed,IntKind.bits]
  simp
  omega
theorem Yb{m:Nat}(h:m<9223372036854775808) :IntKind.i64.wrap (m:Int)=(m:Int):=by
  simp only [IntKind.wrap,IntKind.signed,IntKind.bits]
  simp
  omega
theorem BE{m:Nat}(h:m<vh) :IntKind.u64.wrap (m:Int)=(m:Int):=by
  unfold vh at h
  simp only [IntKind.wrap,IntKind.signed,IntKind.bits]
  simp
  omega
theorem apQ(w:Nat) :(IntKind.i64.wrap (cL .and .u64 (Int.fdiv (w:Int) (2^min (Int.toNat (52:Int)) IntKind.u64.bits)) 2047) != 2047)=fin w:=by
  have hm:w/4503599627370496%2048<2048:=Nat.mod_lt _ (by decide)
  rw [apP,aqw,Yb (by omega)]
  unfold fin xpo
  rw [Bool.eq_iff_iff,bne_iff_ne,bne_iff_ne]
  omega
theorem akn(w:Nat) :(Int.tmod (Int.fdiv (w:Int) (2^min (Int.toNat (52:Int)) IntKind.u64.bits)) 2048 != 2047)=fin w:=by
  rw [apP,Int.tmod_eq_emod_of_nonneg (by omega)]
  unfold fin xpo
  rw [Bool.eq_iff_iff,bne_iff_ne,bne_iff_ne]
  omega
theorem aqx{w:Nat}(h:w<vh) :Int.fdiv (IntKind.u64.wrap ((w:Int)*2^min (Int.toNat (1:Int)) IntKind.u64.bits)) (2^min (Int.toNat (1:Int)) IntKind.u64.bits)=((w%9223372036854775808:Nat):Int):=by
  unfold vh at h
  have e1:(2^min (Int.toNat 1) IntKind.u64.bits:Int)=((2:Nat):Int):=by decide
  have e2:IntKind.u64.wrap ((w:Int)*((2:Nat):Int))=((w*2%18446744073709551616:Nat):Int):=by
    simp only [IntKind.wrap,IntKind.signed,IntKind.bits]
    simp
    try omega
  rw [e1,e2,Int.fdiv_eq_ediv_of_nonneg _ (by omega)];omega
def inR(w:Nat) :Bool:=decide (w%9223372036854775808=0)||(decide (2805742567851819008≤w%9223372036854775808)&&decide (w%9223372036854775808≤6408622269748215808))
theorem K6{w:Nat}(h:w<vh) :mZ (w:Int)=some (.r0 (inR w)):=by
  refine bT (aA (a:=inR w) ?_ rfl)
  unfold DU
  rw [aqx h]
  unfold inR
  generalize w%9223372036854775808=s
  refine aS (aS ?_)
  by_cases h0:s=0
  · subst h0;exact dS rfl
  · refine bY (by rw [beq_eq_false_iff_ne];omega) (aS (aS ?_))
    rw [decide_eq_false h0,Bool.false_or]
    by_cases h1:2805742567851819008≤s
    · refine cV (decide_eq_true (by omega)) (aS (aS ?_))
      rw [decide_eq_true h1,Bool.true_and]
      show some (Sum.inl _)=_
      congr 2
      rw [decide_eq_decide];omega
    · rw [decide_eq_false h1,Bool.false_and]
      exact bY (decide_eq_false (by omega)) rfl
theorem aoK{w:Nat}(h:fin w=true) :w%9223372036854775808<9218868437227405312:=by
  unfold fin xpo at h
  rw [bne_iff_ne] at h
  omega
theorem K7{w:Nat}(h:w<vh) :nk (w:Int)=some (.r0 (fin w&&inR w)):=by
  cases hf:fin w with
  | false =>
    refine bT (bU ?_)
    unfold wn
    rw [akn,hf]
    exact aS (aS (dS rfl))
  | true =>
    rw [Bool.true_and]
    have hs:=aoK hf
    refine bT (aA (a:=inR w) ?_ rfl)
    unfold wn
    rw [akn,hf,aqx h,aa]
    unfold inR
    generalize w%9223372036854775808=s at hs ⊢
    refine aS (aS (cu (aS (aS ?_))))
    have c0:=ym hs (show 0<9218868437227405312 by decide)
    have c1:=ym hs (show 2805742567851819008<9218868437227405312 by decide)
    have c2:=ym hs (show 6408622269748215808<9218868437227405312 by decide)
    by_cases h0:s=0
    · subst h0;exact cV (by decide +kernel) rfl
    · refine bY (by unfold yp;rw [c0,Nat.compare_eq_gt.2 (by omega)];rfl) ?_
      rw [decide_eq_false h0,Bool.false_or]
      have g1:fge s 2805742567851819008=decide (2805742567851819008≤s):=by
        unfold fge
        rw [c1]
        rcases Nat.lt_trichotomy s 2805742567851819008 with q | q | q
        · rw [Nat.compare_eq_lt.2 q,decide_eq_false (by omega)];rfl
        · rw [Nat.compare_eq_eq.2 q,decide_eq_true (by omega)];rfl
        · rw [Nat.compare_eq_gt.2 q,decide_eq_true (by omega)];rfl
      have g2:fle s 6408622269748215808=decide (s≤6408622269748215808):=by
        unfold fle
        rw [c2]
        rcases Nat.lt_trichotomy s 6408622269748215808 with q | q | q
        · rw [Nat.compare_eq_lt.2 q,decide_eq_true (by omega)];rfl
        · rw [Nat.compare_eq_eq.2 q,decide_eq_true (by omega)];rfl
        · rw [Nat.compare_eq_gt.2 q,decide_eq_false (by omega)];rfl
      rw [g1,g2]
      cases decide (2805742567851819008≤s) with
      | true=>exact dS rfl
      | false=>exact cu rfl
def wd(l:List Int)(i:Nat) :Nat:=(l.getD i 0).toNat
def OI(l:List Int) :Prop:=∀ i,0≤l.getD i 0∧l.getD i 0<18446744073709551616
theorem OE{l:List Int}(h:OI l)(i:Nat) :l.getD i 0=(wd l i:Int):=by
  have:=h i
  unfold wd;omega
theorem ahx{l:List Int}(h:OI l)(i:Nat) :wd l i<vh:=by
  have:=h i
  unfold wd vh;omega
def Ui(m n:Int)(k:Nat) :Bool:=decide (0≤m)&&(decide (m≤512)&&(decide (0≤n)&&(decide (n≤512)&&((k:Int)==m*n))))
theorem aoL{m n:Int}{k:Nat}(h:Ui m n k=true) :∃ r c:Nat,m=(r:Int)∧n=(c:Int)∧r≤512∧c≤512∧k=r*c:=by
  unfold Ui at h
  simp only [Bool.and_eq_true,decide_eq_true_eq,beq_iff_eq] at h
  obtain ⟨h1,h2,h3,h4,h5⟩:=h
  refine ⟨m.toNat,n.toNat,by omega,by omega,by omega,by omega,?_⟩
  have:(k:Int)=((m.toNat*n.toNat:Nat):Int):=by rw [h5,Int.natCast_mul,Int.toNat_of_nonneg h1,Int.toNat_of_nonneg h3]
  exact_mod_cast this
theorem apR{l:List Int}(h:OI l)(hn:l.length≤1000)(hf:∀ i,i<l.length→fin (wd l i)=true) :cr l=some (.r0 (-1)):=by
  refine bT (aA (a:=()) rfl (aA (a:=()) (bH (fun j=>j) l.length rfl (fun j hj=>?_) (bY (by simp only [ag,au,aw,aj,ah,ae,ak,am,decide_eq_true_eq,decide_eq_false_iff_not,beq_iff_eq,beq_eq_false_iff_ne,bne_iff_ne,bne_eq_false_iff_eq,Bool.not_eq_true',Bool.not_eq_false',List.length_set,ne_eq,ge_iff_le,gt_iff_lt,ac,aa,ap];omega) rfl)) rfl))
  show (bK _ _).run=_
  unfold bK
  rw [OE h j,apQ,hf j hj]
  exact cV (by simp only [ag,au,aw,aj,ah,ae,ak,am,decide_eq_true_eq,decide_eq_false_iff_not,beq_iff_eq,beq_eq_false_iff_ne,bne_iff_ne,bne_eq_false_iff_eq,Bool.not_eq_true',Bool.not_eq_false',List.length_set,ne_eq,ge_iff_le,gt_iff_lt,ac,aa,ap];omega) (aE (by simp only [ag,au,aw,aj,ah,ae,ak,am,decide_eq_true_eq,decide_eq_false_iff_not,beq_iff_eq,beq_eq_false_iff_ne,bne_iff_ne,bne_eq_false_iff_eq,Bool.not_eq_true',Bool.not_eq_false',List.length_set,ne_eq,ge_iff_le,gt_iff_lt,ac,aa,ap];omega) (aE (by simp only [ag,au,aw,aj,ah,ae,ak,am,decide_eq_true_eq,decide_eq_false_iff_not,beq_iff_eq,beq_eq_false_iff_ne,bne_iff_ne,bne_eq_false_iff_eq,Bool.not_eq_true',Bool.not_eq_false',List.length_set,ne_eq,ge_iff_le,gt_iff_lt,ac,aa,ap];omega) (aS (cu (aE (by simp only [ag,au,aw,aj,ah,ae,ak,am,decide_eq_true_eq,decide_eq_false_iff_not,beq_iff_eq,beq_eq_false_iff_ne,bne_iff_ne,bne_eq_false_iff_eq,Bool.not_eq_true',Bool.not_eq_false',List.length_set,ne_eq,ge_iff_le,gt_iff_lt,ac,aa,ap];omega) rfl)))))
theorem apS{l:List Int}(h:OI l)(hn:l.length≤1000){k:Nat}(hk:k<l.length)(hb:fin (wd l k)=false)(hf:∀ i,i<k→fin (wd l i)=true) :cr l=some (.r0 (k:Int)):=by
  refine bT (aA (a:=()) rfl (bU (bH (fun j=>j) k rfl (fun j hj=>?_) ?_)))
  · show (bK _ _).run=_
    unfold bK
    rw [OE h j,apQ,hf j hj]
    exact cV (by simp only [ag,au,aw,aj,ah,ae,ak,am,decide_eq_true_eq,decide_eq_false_iff_not,beq_iff_eq,beq_eq_false_iff_ne,bne_iff_ne,bne_eq_false_iff_eq,Bool.not_eq_true',Bool.not_eq_false',List.length_set,ne_eq,ge_iff_le,gt_iff_lt,ac,aa,ap];omega) (aE (by simp only [ag,au,aw,aj,ah,ae,ak,am,decide_eq_true_eq,decide_eq_false_iff_not,beq_iff_eq,beq_eq_false_iff_ne,bne_iff_ne,bne_eq_false_iff_eq,Bool.not_eq_true',Bool.not_eq_false',List.length_set,ne_eq,ge_iff_le,gt_iff_lt,ac,aa,ap];omega) (aE (by simp only [ag,au,aw,aj,ah,ae,ak,am,decide_eq_true_eq,decide_eq_false_iff_not,beq_iff_eq,beq_eq_false_iff_ne,bne_iff_ne,bne_eq_false_iff_eq,Bool.not_eq_true',Bool.not_eq_false',List.length_set,ne_eq,ge_iff_le,gt_iff_lt,ac,aa,ap];omega) (aS (cu (aE (by simp only [ag,au,aw,aj,ah,ae,ak,am,decide_eq_true_eq,decide_eq_false_iff_not,beq_iff_eq,beq_eq_false_iff_ne,bne_iff_ne,bne_eq_false_iff_eq,Bool.not_eq_true',Bool.not_eq_false',List.length_set,ne_eq,ge_iff_le,gt_iff_lt,ac,aa,ap];omega) rfl)))))
  · show (bK _ _).run=_
    unfold bK
    rw [OE h k,apQ,hb]
    exact cV (by simp only [ag,au,aw,aj,ah,ae,ak,am,decide_eq_true_eq,decide_eq_false_iff_not,beq_iff_eq,beq_eq_false_iff_ne,bne_iff_ne,bne_eq_false_iff_eq,Bool.not_eq_true',Bool.not_eq_false',List.length_set,ne_eq,ge_iff_le,gt_iff_lt,ac,aa,ap];omega) (aE (by simp only [ag,au,aw,aj,ah,ae,ak,am,decide_eq_true_eq,decide_eq_false_iff_not,beq_iff_eq,beq_eq_false_iff_ne,bne_iff_ne,bne_eq_false_iff_eq,Bool.not_eq_true',Bool.not_eq_false',List.length_set,ne_eq,ge_iff_le,gt_iff_lt,ac,aa,ap];omega) (aE (by simp only [ag,au,aw,aj,ah,ae,ak,am,decide_eq_true_eq,decide_eq_false_iff_not,beq_iff_eq,beq_eq_false_iff_ne,bne_iff_ne,bne_eq_false_iff_eq,Bool.not_eq_true',Bool.not_eq_false',List.length_set,ne_eq,ge_iff_le,gt_iff_lt,ac,aa,ap];omega) (aS (dS rfl))))
def Gh(l:List Int) :Prop:=∀ i,i<l.length→fin (wd l i)=true
def inA(l:List Int) :Prop:=∀ i,i<l.length→inR (wd l i)=true
theorem adN{m n:Int}{l:List Int}(h:OI l)(hn:l.length≤1000){b:Bool}(hb:b=false→Ui m n l.length=true∧Gh l)(hb':b=true→¬ (Ui m n l.length=true∧Gh l)) :
    (jc m n l).run=some (.inl b):=by
  unfold jc
  by_cases h1:m<0
  · cases b with
    | true=>exact cV (decide_eq_true h1) rfl
    | false=>have:=(hb rfl).1;unfold Ui at this;rw [decide_eq_false (by omega : ¬ 0≤m)] at this;cases this
  refine bY (decide_eq_false h1) ?_
  by_cases h2:m>512
  · cases b with
    | true=>exact cV (decide_eq_true h2) rfl
    | false=>have:=(hb rfl).1;unfold Ui at this;rw [decide_eq_true (by omega:0≤m),decide_eq_false (by omega : ¬ m≤512)] at this;cases this
  refine bY (decide_eq_false h2) ?_
  by_cases h3:n<0
  · cases b with
    | true=>exact cV (decide_eq_true h3) rfl
    | false=>have:=(hb rfl).1;unfold Ui at this;rw [decide_eq_true (by omega:0≤m),decide_eq_true (by omega:m≤512),decide_eq_false (by omega : ¬ 0≤n)] at this;cases this
  refine bY (decide_eq_false h3) ?_
  by_cases h4:n>512
  · cases b with
    | true=>exact cV (decide_eq_true h4) rfl
    | false=>have:=(hb rfl).1;unfold Ui at this;rw [decide_eq_true (by omega:0≤m),decide_eq_true (by omega:m≤512),decide_eq_true (by omega:0≤n),decide_eq_false (by omega : ¬ n≤512)] at this;cases this
  refine bY (decide_eq_false h4) ?_
  obtain ⟨r,rfl⟩:∃ r:Nat,m=(r:Int):=⟨m.toNat,by omega⟩
  obtain ⟨c,rfl⟩:∃ c:Nat,n=(c:Int):=⟨n.toNat,by omega⟩
  have hL:r*c≤512*512:=Nat.mul_le_mul (by omega) (by omega)
  have e:(r:Int)*(c:Int)=((r*c:Nat):Int):=by rw [Int.natCast_mul]
  have ho:Ui (r:Int) (c:Int) l.length=decide (l.length=r*c):=by
    unfold Ui
    rw [decide_eq_true (by omega:(0:Int)≤r),decide_eq_true (by omega:(r:Int)≤512),decide_eq_true (by omega:(0:Int)≤c),decide_eq_true (by omega:(c:Int)≤512),e]
    simp only [Bool.true_and]
    rw [Bool.eq_iff_iff,beq_iff_eq,decide_eq_true_eq];omega
  rw [e]
  refine aE (by rw [ag];omega) ?_
  by_cases h5:l.length=r*c
  · refine bY (by rw [bne_eq_false_iff_eq];omega) (jl ?_)
    rw [dg]
    by_cases h6:Gh l
    · rw [apR h hn h6]
      cases b with
      | true=>exact absurd ⟨by rw [ho,decide_eq_true h5],h6⟩ (hb' rfl)
      | false=>exact aS rfl
    · obtain ⟨k,hk,hk1,hk2⟩:=Ey h6
      rw [apS h hn hk (by rw [Bool.eq_false_iff];exact hk1) hk2]
      cases b with
      | false=>exact absurd (hb rfl).2 h6
      | true=>exact aS (by show some (Sum.inl (decide ((k:Int)≥0)))=_;rw [decide_eq_true (by omega)])
  · cases b with
    | true=>exact cV (by rw [bne_iff_ne];omega) rfl
    | false=>have:=(hb rfl).1;rw [ho,decide_eq_false h5] at this;cases this
theorem aa9{r c:Nat}(hr:r≤512)(hc:c≤512) :ch (fp (r:Int) (c:Int)) 0=some (.inl ()):=by
  refine bH (fun j=>j) r rfl (fun j hj=>?_) ?_
  · refine aA (a:=()) (cV (by simp only [ag,au,aw,aj,ah,ae,ak,am,decide_eq_true_eq,decide_eq_false_iff_not,beq_iff_eq,beq_eq_false_iff_ne,bne_iff_ne,bne_eq_false_iff_eq,Bool.not_eq_true',Bool.not_eq_false',List.length_set,ne_eq,ge_iff_le,gt_iff_lt,ac,aa,ap];omega) rfl) (aA (a:=()) (pf (aA (a:=()) rfl (aA (a:=()) (bH (fun k=>k) c rfl (fun k hk=>?_) ?_) rfl))) (aE (by simp only [ag,au,aw,aj,ah,ae,ak,am,decide_eq_true_eq,decide_eq_false_iff_not,beq_iff_eq,beq_eq_false_iff_ne,bne_iff_ne,bne_eq_false_iff_eq,Bool.not_eq_true',Bool.not_eq_false',List.length_set,ne_eq,ge_iff_le,gt_iff_lt,ac,aa,ap];omega) rfl))
    · exact cV (by simp only [ag,au,aw,aj,ah,ae,ak,am,decide_eq_true_eq,decide_eq_false_iff_not,beq_iff_eq,beq_eq_false_iff_ne,bne_iff_ne,bne_eq_false_iff_eq,Bool.not_eq_true',Bool.not_eq_false',List.length_set,ne_eq,ge_iff_le,gt_iff_lt,ac,aa,ap];omega) (aE (by simp only [ag,au,aw,aj,ah,ae,ak,am,decide_eq_true_eq,decide_eq_false_iff_not,beq_iff_eq,beq_eq_false_iff_ne,bne_iff_ne,bne_eq_false_iff_eq,Bool.not_eq_true',Bool.not_eq_false',List.length_set,ne_eq,ge_iff_le,gt_iff_lt,ac,aa,ap];omega) rfl)
    · exact bY (by simp only [ag,au,aw,aj,ah,ae,ak,am,decide_eq_true_eq,decide_eq_false_iff_not,beq_iff_eq,beq_eq_false_iff_ne,bne_iff_ne,bne_eq_false_iff_eq,Bool.not_eq_true',Bool.not_eq_false',List.length_set,ne_eq,ge_iff_le,gt_iff_lt,ac,aa,ap];omega) rfl
  · exact bU (bY (by simp only [ag,au,aw,aj,ah,ae,ak,am,decide_eq_true_eq,decide_eq_false_iff_not,beq_iff_eq,beq_eq_false_iff_ne,bne_iff_ne,bne_eq_false_iff_eq,Bool.not_eq_true',Bool.not_eq_false',List.length_set,ne_eq,ge_iff_le,gt_iff_lt,ac,aa,ap];omega) rfl)
def wds(l:List Int) :List Nat:=pushF (wd l) l.length
theorem fh{l:List Int} :(wds l).length=l.length:=pushF_len
theorem Yc{l:List Int}(h:OI l)(hn:l.length≤1000){j:Nat}(hj:j<l.length)(hi:inR (wd l j)=true) :
    fu l (j,j,j,pushF (wd l) j)=some (.inl (j+1,j+1,j+1,pushF (wd l) (j+1))):=by
  refine aA (a:=(j+1,pushF (wd l) (j+1))) ?_ (aE (by simp only [ag,au,aw,aj,ah,ae,ak,am,decide_eq_true_eq,decide_eq_false_iff_not,beq_iff_eq,beq_eq_false_iff_ne,bne_iff_ne,bne_eq_false_iff_eq,Bool.not_eq_true',Bool.not_eq_false',List.length_set,ne_eq,ge_iff_le,gt_iff_lt,ac,aa,ap];omega) rfl)
  unfold jg
  rw [OE h j,K6 (ahx h j),hi,aa,rZ]
  exact cV (by simp only [ag,au,aw,aj,ah,ae,ak,am,decide_eq_true_eq,decide_eq_false_iff_not,beq_iff_eq,beq_eq_false_iff_ne,bne_iff_ne,bne_eq_false_iff_eq,Bool.not_eq_true',Bool.not_eq_false',List.length_set,ne_eq,ge_iff_le,gt_iff_lt,ac,aa,ap];omega) (aE (by simp only [ag,au,aw,aj,ah,ae,ak,am,decide_eq_true_eq,decide_eq_false_iff_not,beq_iff_eq,beq_eq_false_iff_ne,bne_iff_ne,bne_eq_false_iff_eq,Bool.not_eq_true',Bool.not_eq_false',List.length_set,ne_eq,ge_iff_le,gt_iff_lt,ac,aa,ap];omega) (aE (by simp only [ag,au,aw,aj,ah,ae,ak,am,decide_eq_true_eq,decide_eq_false_iff_not,beq_iff_eq,beq_eq_false_iff_ne,bne_iff_ne,bne_eq_false_iff_eq,Bool.not_eq_true',Bool.not_eq_false',List.length_set,ne_eq,ge_iff_le,gt_iff_lt,ac,aa,ap];omega) (aS (cu (aE (by simp only [ag,au,aw,aj,ah,ae,ak,am,decide_eq_true_eq,decide_eq_false_iff_not,beq_iff_eq,beq_eq_false_iff_ne,bne_iff_ne,bne_eq_false_iff_eq,Bool.not_eq_true',Bool.not_eq_false',List.length_set,ne_eq,ge_iff_le,gt_iff_lt,ac,aa,ap];omega) (aE (by simp only [ag,au,aw,aj,ah,ae,ak,am,decide_eq_true_eq,decide_eq_false_iff_not,beq_iff_eq,beq_eq_false_iff_ne,bne_iff_ne,bne_eq_false_iff_eq,Bool.not_eq_true',Bool.not_eq_false',List.length_set,ne_eq,ge_iff_le,gt_iff_lt,ac,aa,ap];omega) (aS (aE (by rw [ah,pushF_len];omega) rfl))))))))
theorem apT{m n:Int}{l:List Int}(h:OI l)(hn:l.length≤1000)(hb : ¬ (Ui m n l.length=true∧Gh l)) :bB m n l=some (.r0 1 0 0 0 0 []) :=
  bT (aA (adN (b:=true) h hn (fun q=>by cases q) (fun _=>hb)) (bU (dS rfl)))
theorem apU{m n:Int}{l:List Int}(h:OI l)(hn:l.length≤1000)(hb:Ui m n l.length=true)(hf:Gh l)(hi : ¬ inA l) :bB m n l=some (.r0 2 0 0 0 0 []):=by
  obtain ⟨r,c,rfl,rfl,hr,hc,hl⟩:=aoL hb
  obtain ⟨k,hk,hk1,hk2⟩:=Ey hi
  refine bT (aA (adN (b:=false) h hn (fun _=>⟨hb,hf⟩) (fun q=>by cases q)) (aA (a:=()) (cu rfl) (aA (aa9 hr hc) (aA (a:=()) rfl (bU (bH (fun j=>(j,j,j,pushF (wd l) j)) k rfl (fun j hj=>Yc h hn (by omega) (hk2 j hj)) ?_))))))
  refine bU ?_
  unfold jg
  rw [OE h k,K6 (ahx h k),show inR (wd l k)=false by rw [Bool.eq_false_iff];exact hk1]
  exact cV (by simp only [ag,au,aw,aj,ah,ae,ak,am,decide_eq_true_eq,decide_eq_false_iff_not,beq_iff_eq,beq_eq_false_iff_ne,bne_iff_ne,bne_eq_false_iff_eq,Bool.not_eq_true',Bool.not_eq_false',List.length_set,ne_eq,ge_iff_le,gt_iff_lt,ac,aa,ap];omega) (aE (by simp only [ag,au,aw,aj,ah,ae,ak,am,decide_eq_true_eq,decide_eq_false_iff_not,beq_iff_eq,beq_eq_false_iff_ne,bne_iff_ne,bne_eq_false_iff_eq,Bool.not_eq_true',Bool.not_eq_false',List.length_set,ne_eq,ge_iff_le,gt_iff_lt,ac,aa,ap];omega) (aE (by simp only [ag,au,aw,aj,ah,ae,ak,am,decide_eq_true_eq,decide_eq_false_iff_not,beq_iff_eq,beq_eq_false_iff_ne,bne_iff_ne,bne_eq_false_iff_eq,Bool.not_eq_true',Bool.not_eq_false',List.length_set,ne_eq,ge_iff_le,gt_iff_lt,ac,aa,ap];omega) (aS (dS rfl))))
theorem apV{m n:Int}{l:List Int}(h:OI l)(hn:l.length≤1000)(hb:Ui m n l.length=true)(hf:Gh l)(hi:inA l) :bB m n l=some (.r0 0 m n l.length l.length (wds l)):=by
  obtain ⟨r,c,rfl,rfl,hr,hc,hl⟩:=aoL hb
  exact bT (aA (adN (b:=false) h hn (fun _=>⟨hb,hf⟩) (fun q=>by cases q)) (aA (a:=()) (cu rfl) (aA (aa9 hr hc) (aA (a:=()) rfl (aA (a:=(l.length,l.length,wds l)) (bH (fun j=>(j,j,j,pushF (wd l) j)) l.length rfl (fun j hj=>Yc h hn hj (hi j hj)) (bU (bY (by simp only [ag,au,aw,aj,ah,ae,ak,am,decide_eq_true_eq,decide_eq_false_iff_not,beq_iff_eq,beq_eq_false_iff_ne,bne_iff_ne,bne_eq_false_iff_eq,Bool.not_eq_true',Bool.not_eq_false',List.length_set,ne_eq,ge_iff_le,gt_iff_lt,ac,aa,ap];omega) rfl))) rfl)))))
theorem Yd{m n:Int}{l:List Int}(hn:l.length≤1000) :(Bc m n l).run=some (.inl (false,!(Ui m n l.length))):=by
  unfold Bc Ui
  by_cases h1:m<0
  · rw [decide_eq_false (by omega : ¬ 0≤m)];exact cV (decide_eq_true h1) rfl
  by_cases h2:m>512
  · rw [decide_eq_true (by omega:0≤m),decide_eq_false (by omega : ¬ m≤512)];exact bY (decide_eq_false h1) (cV (decide_eq_true h2) rfl)
  by_cases h3:n<0
  · rw [decide_eq_true (by omega:0≤m),decide_eq_true (by omega:m≤512),decide_eq_false (by omega : ¬ 0≤n)];exact bY (decide_eq_false h1) (bY (decide_eq_false h2) (cV (decide_eq_true h3) rfl))
  by_cases h4:n>512
  · rw [decide_eq_true (by omega:0≤m),decide_eq_true (by omega:m≤512),decide_eq_true (by omega:0≤n),decide_eq_false (by omega : ¬ n≤512)];exact bY (decide_eq_false h1) (bY (decide_eq_false h2) (bY (decide_eq_false h3) (cV (decide_eq_true h4) rfl)))
  rw [decide_eq_true (by omega:0≤m),decide_eq_true (by omega:m≤512),decide_eq_true (by omega:0≤n),decide_eq_true (by omega:n≤512)]
  obtain ⟨r,rfl⟩:∃ r:Nat,m=(r:Int):=⟨m.toNat,by omega⟩
  obtain ⟨c,rfl⟩:∃ c:Nat,n=(c:Int):=⟨n.toNat,by omega⟩
  have hL:r*c≤512*512:=Nat.mul_le_mul (by omega) (by omega)
  have e:(r:Int)*(c:Int)=((r*c:Nat):Int):=by rw [Int.natCast_mul]
  rw [e]
  exact bY (decide_eq_false h1) (bY (decide_eq_false h2) (bY (decide_eq_false h3) (bY (decide_eq_false h4) (aE (by rw [ag];omega) rfl))))
theorem Ye{l:List Int}(h:OI l)(hn:l.length≤1000){j:Nat}(hj:j<l.length)(hf:fin (wd l j)=true) :uw l j=some (.inl (j+1)):=by
  show (pa _ _).run=_
  unfold pa
  rw [OE h j,akn,hf]
  exact cV (by simp only [ag,au,aw,aj,ah,ae,ak,am,decide_eq_true_eq,decide_eq_false_iff_not,beq_iff_eq,beq_eq_false_iff_ne,bne_iff_ne,bne_eq_false_iff_eq,Bool.not_eq_true',Bool.not_eq_false',List.length_set,ne_eq,ge_iff_le,gt_iff_lt,ac,aa,ap];omega) (aE (by simp only [ag,au,aw,aj,ah,ae,ak,am,decide_eq_true_eq,decide_eq_false_iff_not,beq_iff_eq,beq_eq_false_iff_ne,bne_iff_ne,bne_eq_false_iff_eq,Bool.not_eq_true',Bool.not_eq_false',List.length_set,ne_eq,ge_iff_le,gt_iff_lt,ac,aa,ap];omega) (aE (by simp only [ag,au,aw,aj,ah,ae,ak,am,decide_eq_true_eq,decide_eq_false_iff_not,beq_iff_eq,beq_eq_false_iff_ne,bne_iff_ne,bne_eq_false_iff_eq,Bool.not_eq_true',Bool.not_eq_false',List.length_set,ne_eq,ge_iff_le,gt_iff_lt,ac,aa,ap];omega) (aS (aS (cu (aE (by simp only [ag,au,aw,aj,ah,ae,ak,am,decide_eq_true_eq,decide_eq_false_iff_not,beq_iff_eq,beq_eq_false_iff_ne,bne_iff_ne,bne_eq_false_iff_eq,Bool.not_eq_true',Bool.not_eq_false',List.length_set,ne_eq,ge_iff_le,gt_iff_lt,ac,aa,ap];omega) rfl))))))
theorem apW{m n:Int}{l:List Int}(h:OI l)(hn:l.length≤1000)(hb : ¬ (Ui m n l.length=true∧Gh l)) :kY m n l=some (.r0 1):=by
  refine bT (aA (Yd hn) ?_)
  cases ho:Ui m n l.length with
  | false=>exact bU (dS rfl)
  | true =>
    have hf : ¬ Gh l:=fun q=>hb ⟨ho,q⟩
    obtain ⟨k,hk,hk1,hk2⟩:=Ey hf
    refine aA (a:=()) (cu rfl) (bU (bH (fun j=>j) k rfl (fun j hj=>Ye h hn (by omega) (hk2 j hj)) ?_))
    show (pa _ _).run=_
    unfold pa
    rw [OE h k,akn,show fin (wd l k)=false by rw [Bool.eq_false_iff];exact hk1]
    exact cV (by simp only [ag,au,aw,aj,ah,ae,ak,am,decide_eq_true_eq,decide_eq_false_iff_not,beq_iff_eq,beq_eq_false_iff_ne,bne_iff_ne,bne_eq_false_iff_eq,Bool.not_eq_true',Bool.not_eq_false',List.length_set,ne_eq,ge_iff_le,gt_iff_lt,ac,aa,ap];omega) (aE (by simp only [ag,au,aw,aj,ah,ae,ak,am,decide_eq_true_eq,decide_eq_false_iff_not,beq_iff_eq,beq_eq_false_iff_ne,bne_iff_ne,bne_eq_false_iff_eq,Bool.not_eq_true',Bool.not_eq_false',List.length_set,ne_eq,ge_iff_le,gt_iff_lt,ac,aa,ap];omega) (aE (by simp only [ag,au,aw,aj,ah,ae,ak,am,decide_eq_true_eq,decide_eq_false_iff_not,beq_iff_eq,beq_eq_false_iff_ne,bne_iff_ne,bne_eq_false_iff_eq,Bool.not_eq_true',Bool.not_eq_false',List.length_set,ne_eq,ge_iff_le,gt_iff_lt,ac,aa,ap];omega) (aS (aS (dS rfl)))))
theorem ahy{m n:Int}{l:List Int} :ch (uz m n l false) 0=some (.inl ()):=by
  refine bH (fun j=>j) 0 rfl (fun j hj=>by omega) ?_
  refine aA (a:=false) ?_ (bU (cu rfl))
  unfold IL
  cases hq:decide (((0:Nat):Int)<m) with
  | true=>exact dS rfl
  | false=>exact cu rfl
theorem alr{l:List Int}(h:OI l)(hn:l.length≤1000){j:Nat}(hj:j<l.length)(hf:fin (wd l j)=true)(hi:inR (wd l j)=true) :uB l j=some (.inl (j+1)):=by
  refine aA (a:=()) ?_ (aE (by simp only [ag,au,aw,aj,ah,ae,ak,am,decide_eq_true_eq,decide_eq_false_iff_not,beq_iff_eq,beq_eq_false_iff_ne,bne_iff_ne,bne_eq_false_iff_eq,Bool.not_eq_true',Bool.not_eq_false',List.length_set,ne_eq,ge_iff_le,gt_iff_lt,ac,aa,ap];omega) rfl)
  unfold Bg
  rw [OE h j,K7 (ahx h j),hf,hi]
  exact cV (by simp only [ag,au,aw,aj,ah,ae,ak,am,decide_eq_true_eq,decide_eq_false_iff_not,beq_iff_eq,beq_eq_false_iff_ne,bne_iff_ne,bne_eq_false_iff_eq,Bool.not_eq_true',Bool.not_eq_false',List.length_set,ne_eq,ge_iff_le,gt_iff_lt,ac,aa,ap];omega) (aE (by simp only [ag,au,aw,aj,ah,ae,ak,am,decide_eq_true_eq,decide_eq_false_iff_not,beq_iff_eq,beq_eq_false_iff_ne,bne_iff_ne,bne_eq_false_iff_eq,Bool.not_eq_true',Bool.not_eq_false',List.length_set,ne_eq,ge_iff_le,gt_iff_lt,ac,aa,ap];omega) (aE (by simp only [ag,au,aw,aj,ah,ae,ak,am,decide_eq_true_eq,decide_eq_false_iff_not,beq_iff_eq,beq_eq_false_iff_ne,bne_iff_ne,bne_eq_false_iff_eq,Bool.not_eq_true',Bool.not_eq_false',List.length_set,ne_eq,ge_iff_le,gt_iff_lt,ac,aa,ap];omega) (aS (cu rfl))))
theorem apX{m n:Int}{l:List Int}(h:OI l)(hn:l.length≤1000)(hb:Ui m n l.length=true)(hf:Gh l)(hi : ¬ inA l) :kY m n l=some (.r0 2):=by
  obtain ⟨k,hk,hk1,hk2⟩:=Ey hi
  refine bT (aA (Yd hn) ?_)
  rw [hb]
  refine aA (a:=()) (cu rfl) (aA (a:=()) (bH (fun j=>j) l.length rfl (fun j hj=>Ye h hn hj (hf j hj)) (bY (by simp only [ag,au,aw,aj,ah,ae,ak,am,decide_eq_true_eq,decide_eq_false_iff_not,beq_iff_eq,beq_eq_false_iff_ne,bne_iff_ne,bne_eq_false_iff_eq,Bool.not_eq_true',Bool.not_eq_false',List.length_set,ne_eq,ge_iff_le,gt_iff_lt,ac,aa,ap];omega) rfl)) (aA (a:=()) rfl (aA ahy (aA (a:=()) rfl (bU (bH (fun j=>j) k rfl (fun j hj=>alr h hn (by omega) (hf j (by omega)) (hk2 j hj)) ?_))))))
  refine bU ?_
  unfold Bg
  rw [OE h k,K7 (ahx h k),hf k hk,show inR (wd l k)=false by rw [Bool.eq_false_iff];exact hk1]
  exact cV (by simp only [ag,au,aw,aj,ah,ae,ak,am,decide_eq_true_eq,decide_eq_false_iff_not,beq_iff_eq,beq_eq_false_iff_ne,bne_iff_ne,bne_eq_false_iff_eq,Bool.not_eq_true',Bool.not_eq_false',List.length_set,ne_eq,ge_iff_le,gt_iff_lt,ac,aa,ap];omega) (aE (by simp only [ag,au,aw,aj,ah,ae,ak,am,decide_eq_true_eq,decide_eq_false_iff_not,beq_iff_eq,beq_eq_false_iff_ne,bne_iff_ne,bne_eq_false_iff_eq,Bool.not_eq_true',Bool.not_eq_false',List.length_set,ne_eq,ge_iff_le,gt_iff_lt,ac,aa,ap];omega) (aE (by simp only [ag,au,aw,aj,ah,ae,ak,am,decide_eq_true_eq,decide_eq_false_iff_not,beq_iff_eq,beq_eq_false_iff_ne,bne_iff_ne,bne_eq_false_iff_eq,Bool.not_eq_true',Bool.not_eq_false',List.length_set,ne_eq,ge_iff_le,gt_iff_lt,ac,aa,ap];omega) (aS (dS rfl))))
theorem apY{m n:Int}{l:List Int}(h:OI l)(hn:l.length≤1000)(hb:Ui m n l.length=true)(hf:Gh l)(hi:inA l) :kY m n l=some (.r0 0):=by
  refine bT (aA (Yd hn) ?_)
  rw [hb]
  exact aA (a:=()) (cu rfl) (aA (a:=()) (bH (fun j=>j) l.length rfl (fun j hj=>Ye h hn hj (hf j hj)) (bY (by simp only [ag,au,aw,aj,ah,ae,ak,am,decide_eq_true_eq,decide_eq_false_iff_not,beq_iff_eq,beq_eq_false_iff_ne,bne_iff_ne,bne_eq_false_iff_eq,Bool.not_eq_true',Bool.not_eq_false',List.length_set,ne_eq,ge_iff_le,gt_iff_lt,ac,aa,ap];omega) rfl)) (aA (a:=()) rfl (aA ahy (aA (a:=()) rfl (aA (a:=()) (bH (fun j=>j) l.length rfl (fun j hj=>alr h hn hj (hf j hj) (hi j hj)) (bU (bY (by simp only [ag,au,aw,aj,ah,ae,ak,am,decide_eq_true_eq,decide_eq_false_iff_not,beq_iff_eq,beq_eq_false_iff_ne,bne_iff_ne,bne_eq_false_iff_eq,Bool.not_eq_true',Bool.not_eq_false',List.length_set,ne_eq,ge_iff_le,gt_iff_lt,ac,aa,ap];omega) rfl))) rfl)))))
theorem RT{m n:Int}{l:List Int}(hn:l.length≤1000) :ab m n l=some (.r0 m n l.length l.length (wds l)):=by
  refine bT (aA (a:=()) rfl (aA (a:=(l.length,l.length,wds l)) (bH (fun j=>(j,j,j,pushF (wd l) j)) l.length rfl (fun j hj=>?_) (bY (by simp only [ag,au,aw,aj,ah,ae,ak,am,decide_eq_true_eq,decide_eq_false_iff_not,beq_iff_eq,beq_eq_false_iff_ne,bne_iff_ne,bne_eq_false_iff_eq,Bool.not_eq_true',Bool.not_eq_false',List.length_set,ne_eq,ge_iff_le,gt_iff_lt,ac,aa,ap];omega) rfl)) rfl))
  show (wo _ _ _ _ _).run=_
  unfold wo
  rw [show Int.toNat (l.getD j 0)=wd l j from rfl,rZ]
  exact cV (by simp only [ag,au,aw,aj,ah,ae,ak,am,decide_eq_true_eq,decide_eq_false_iff_not,beq_iff_eq,beq_eq_false_iff_ne,bne_iff_ne,bne_eq_false_iff_eq,Bool.not_eq_true',Bool.not_eq_false',List.length_set,ne_eq,ge_iff_le,gt_iff_lt,ac,aa,ap];omega) (aE (by simp only [ag,au,aw,aj,ah,ae,ak,am,decide_eq_true_eq,decide_eq_false_iff_not,beq_iff_eq,beq_eq_false_iff_ne,bne_iff_ne,bne_eq_false_iff_eq,Bool.not_eq_true',Bool.not_eq_false',List.length_set,ne_eq,ge_iff_le,gt_iff_lt,ac,aa,ap];omega) (aE (by simp only [ag,au,aw,aj,ah,ae,ak,am,decide_eq_true_eq,decide_eq_false_iff_not,beq_iff_eq,beq_eq_false_iff_ne,bne_iff_ne,bne_eq_false_iff_eq,Bool.not_eq_true',Bool.not_eq_false',List.length_set,ne_eq,ge_iff_le,gt_iff_lt,ac,aa,ap];omega) (aE (by simp only [ag,au,aw,aj,ah,ae,ak,am,decide_eq_true_eq,decide_eq_false_iff_not,beq_iff_eq,beq_eq_false_iff_ne,bne_iff_ne,bne_eq_false_iff_eq,Bool.not_eq_true',Bool.not_eq_false',List.length_set,ne_eq,ge_iff_le,gt_iff_lt,ac,aa,ap];omega) (aE (by simp only [ag,au,aw,aj,ah,ae,ak,am,decide_eq_true_eq,decide_eq_false_iff_not,beq_iff_eq,beq_eq_false_iff_ne,bne_iff_ne,bne_eq_false_iff_eq,Bool.not_eq_true',Bool.not_eq_false',List.length_set,ne_eq,ge_iff_le,gt_iff_lt,ac,aa,ap];omega) (aS (aE (by rw [ah,pushF_len];omega) (aE (by simp only [ag,au,aw,aj,ah,ae,ak,am,decide_eq_true_eq,decide_eq_false_iff_not,beq_iff_eq,beq_eq_false_iff_ne,bne_iff_ne,bne_eq_false_iff_eq,Bool.not_eq_true',Bool.not_eq_false',List.length_set,ne_eq,ge_iff_le,gt_iff_lt,ac,aa,ap];omega) rfl)))))))
end Go.Plb.Seat
namespace Go.Plb
set_option linter.unusedSimpArgs false
set_option linter.unusedVariables false
set_option linter.unusedSectionVars false
variable [Rom]
theorem JL(s:Bool)(m a b:Nat) :Ieee.signed s m (a+b)=Ieee.signed s m a*((2^b:Nat):Int):=by
  unfold Ieee.signed
  rw [Nat.shiftLeft_eq,Nat.shiftLeft_eq,Nat.pow_add,←Nat.mul_assoc,Int.natCast_mul (m*2^a) (2^b)]
  cases s
  · rfl
  · rw [if_pos rfl,if_pos rfl,Int.neg_mul]
theorem sC(s:Bool)(m a:Nat) :Ieee.signed s m a=sg s (m*2^a):=by
  unfold Ieee.signed sg
  rw [Nat.shiftLeft_eq]
theorem Ez{x:Nat}(hx:x<vh) :(x/9223372036854775808%2==1)=(x/9223372036854775808==1):=by
  have hx:x<18446744073709551616:=hx
  have:x/9223372036854775808%2=x/9223372036854775808:=by omega
  rw [this]
theorem arf{x y:Nat}(hx:x<vh)(hy:y<vh)(fx:fin x=true)(fy:fin y=true) :flt x y=decide (fz x<fz y):=by
  unfold flt vv Ieee.Format.order
  rw [nt hx fx,nt hy fy,Ez hx,Ez hy]
  unfold fz
  generalize (x/9223372036854775808==1)=s
  generalize (y/9223372036854775808==1)=t
  generalize jG (x%9223372036854775808)=m
  generalize jG (y%9223372036854775808)=n
  generalize fV (x%9223372036854775808)=i
  generalize fV (y%9223372036854775808)=j
  simp only [Ieee.Datum.order]
  have e1:((-1074+(i:Int))-min (-1074+(i:Int)) (-1074+(j:Int))).toNat=i-min i j:=by omega
  have e2:((-1074+(j:Int))-min (-1074+(i:Int)) (-1074+(j:Int))).toNat=j-min i j:=by omega
  rw [e1,e2,←sC,←sC]
  have h1:Ieee.signed s m i=Ieee.signed s m (i-min i j)*((2^(min i j):Nat):Int):=by rw [←JL];congr 1;omega
  have h2:Ieee.signed t n j=Ieee.signed t n (j-min i j)*((2^(min i j):Nat):Int):=by rw [←JL];congr 1;omega
  rw [h1,h2]
  have hp:(0:Int)<((2^(min i j):Nat):Int):=by have:=Nat.pow_pos (n:=min i j) (show 0<2 by decide);omega
  generalize Ieee.signed s m (i-min i j)=a
  generalize Ieee.signed t n (j-min i j)=b
  generalize ((2^(min i j):Nat):Int)=p at hp
  have e:(a*p<b*p)↔a<b:=⟨fun h=>Int.lt_of_mul_lt_mul_right h (Int.le_of_lt hp),fun h=>Int.mul_lt_mul_of_pos_right h hp⟩
  have e3:(some (compare a b)==some Ordering.lt)=decide (a<b):=by
    rw [Bool.eq_iff_iff,decide_eq_true_eq,beq_iff_eq,Option.some.injEq]
    exact Int.compare_eq_lt
  rw [e3,Bool.eq_iff_iff,decide_eq_true_eq,decide_eq_true_eq]
  exact e.symm
def Mid(x:Nat) :Prop:=2805742567851819008≤x%9223372036854775808∧x%9223372036854775808≤6408622269748215808
theorem als{x:Nat}(h:x%9223372036854775808=0) :fz x=0:=by
  unfold fz
  rw [h]
  show sg _ (jG 0*_)=0
  rw [show jG 0=0 from rfl,Nat.zero_mul]
  cases (x/9223372036854775808==1)<;>rfl
theorem amS{n g:Nat}(hg:0<g)(more:Bool)(h1:more=true→g≤2*(n%g))(h2:more=false→2*(n%g)≤g) :
    2*((n/g+more.toNat)*g)≤2*n+g∧2*n≤2*((n/g+more.toNat)*g)+g:=by
  have e:=Nat.div_add_mod n g
  have l:=Nat.mod_lt n hg
  have e2:(n/g+more.toNat)*g=g*(n/g)+more.toNat*g:=by rw [Nat.add_mul,Nat.mul_comm]
  rw [e2]
  generalize g*(n/g)=a at e
  cases more with
  | true =>
    have:=h1 rfl
    show 2*(a+1*g)≤_∧_≤2*(a+1*g)+g
    omega
  | false =>
    have:=h2 rfl
    show 2*(a+0*g)≤_∧_≤2*(a+0*g)+g
    omega
theorem aoM(neg:Bool)(n drop:Nat) :2*(Ieee.Toward.even.cut neg n drop*2^drop)≤2*n+2^drop∧2*n≤2*(Ieee.Toward.even.cut neg n drop*2^drop)+2^drop:=by
  unfold Ieee.Toward.cut
  simp only [Nat.one_shiftLeft]
  rcases Nat.le_total drop (n.log2+2) with h | h
  · rw [Nat.min_eq_left h]
    have hg:0<2^drop:=Nat.pow_pos (by decide)
    generalize 2^drop=g at hg
    refine amS hg _ (fun q=>?_) (fun q=>?_)
    · simp only [Bool.or_eq_true,Bool.and_eq_true,decide_eq_true_eq,beq_iff_eq] at q
      omega
    · simp only [Bool.or_eq_false_iff,decide_eq_false_iff_not] at q
      omega
  · rw [Nat.min_eq_right h]
    have hn:2*n<2^(n.log2+2):=by
      have:=Nat.lt_log2_self (n:=n)
      rw [Nat.pow_succ]
      omega
    have hle:2^(n.log2+2)≤2^drop:=Nat.pow_le_pow_right (by decide) h
    generalize 2^(n.log2+2)=g at hn hle
    have e1:n/g=0:=Nat.div_eq_of_lt (by omega)
    have e2:n%g=n:=Nat.mod_eq_of_lt (by omega)
    rw [e1,e2]
    have m:(decide (g<2*n)||(g==2*n&&(0%2==1)))=false:=by
      rw [Bool.or_eq_false_iff]
      exact ⟨decide_eq_false (by omega),by rw [show (0%2==1)=false from rfl,Bool.and_false]⟩
    rw [m]
    show 2*((0+0)*2^drop)≤_∧_≤2*((0+0)*2^drop)+_
    omega
theorem OF{x:Nat}(h:x%9223372036854775808<9218868437227405312) :fin x=true:=by
  unfold fin xpo
  rw [bne_iff_ne]
  omega
theorem amT{x:Nat}(hx:x<vh) :fz x=Ieee.signed (x/9223372036854775808%2==1) (jG (x%9223372036854775808)) (fV (x%9223372036854775808)):=by
  unfold fz
  rw [sC,Ez hx]
structure Ap (n X Y:Nat):Prop where
  up:9223372036854775808*X≤(9223372036854775808+n)*Y
  down:9223372036854775808*Y≤9223372036854775808*X+n*Y
theorem Ap.mono{n m X Y:Nat}(h:Ap n X Y)(hm:n≤m) :Ap m X Y:=by
  obtain ⟨a,b⟩:=h
  have:=Nat.mul_le_mul_right Y hm
  refine ⟨?_,by omega⟩
  rw [Nat.add_mul] at a ⊢
  omega
theorem Ap.refl(n X:Nat) :Ap n X X:=⟨by rw [Nat.add_mul];omega,by omega⟩
theorem Ap.mul{n X Y:Nat}(h:Ap n X Y)(Z:Nat) :Ap n (X*Z) (Y*Z):=by
  obtain ⟨a,b⟩:=h
  have a':=Nat.mul_le_mul_right Z a
  have b':=Nat.mul_le_mul_right Z b
  rw [Nat.mul_assoc,Nat.mul_assoc] at a'
  rw [Nat.add_mul,Nat.mul_assoc,Nat.mul_assoc,Nat.mul_assoc] at b'
  exact ⟨a',b'⟩
theorem Ap.div{n X Y Z:Nat}(hZ:0<Z)(h:Ap n (X*Z) (Y*Z)) :Ap n X Y:=by
  obtain ⟨a,b⟩:=h
  rw [←Nat.mul_assoc,←Nat.mul_assoc] at a
  rw [←Nat.mul_assoc,←Nat.mul_assoc,←Nat.mul_assoc,←Nat.add_mul] at b
  exact ⟨Nat.le_of_mul_le_mul_right a hZ,Nat.le_of_mul_le_mul_right b hZ⟩
theorem Ap.add{n X Y X' Y':Nat}(h:Ap n X Y)(h':Ap n X' Y') :Ap n (X+X') (Y+Y'):=by
  obtain ⟨a,b⟩:=h
  obtain ⟨a',b'⟩:=h'
  refine ⟨?_,?_⟩
  · rw [Nat.mul_add,Nat.mul_add];omega
  · rw [Nat.mul_add,Nat.mul_add,Nat.mul_add];omega
theorem Ap.trans{n m X Y Z:Nat}(h:Ap n X Y)(h':Ap m Y Z)(hn:n≤1000000)(hm:m≤1000000) :Ap (n+m+1) X Z:=by
  obtain ⟨a,b⟩:=h
  obtain ⟨a',b'⟩:=h'
  have nm:n*m≤9223372036854775808:=Nat.le_trans (Nat.mul_le_mul hn hm) (by decide)
  refine ⟨?_,?_⟩
  ·
    have s1:=Nat.mul_le_mul_left 9223372036854775808 a
    have s2:=Nat.mul_le_mul_left (9223372036854775808+n) a'
    have e1:9223372036854775808*((9223372036854775808+n)*Y)=(9223372036854775808+n)*(9223372036854775808*Y):=by ac_rfl
    have e2:(9223372036854775808+n)*((9223372036854775808+m)*Z)=9223372036854775808*((9223372036854775808+n+m)*Z)+n*m*Z:=by
      have:(9223372036854775808+n)*(9223372036854775808+m)=9223372036854775808*(9223372036854775808+n+m)+n*m:=by
        rw [Nat.add_mul,Nat.mul_add,Nat.mul_add,Nat.mul_add,Nat.mul_add,Nat.mul_comm n 9223372036854775808];omega
      rw [←Nat.mul_assoc,this,Nat.add_mul,Nat.mul_assoc]
    have s3:=Nat.mul_le_mul_right Z nm
    have e3:9223372036854775808*((9223372036854775808+(n+m+1))*Z)=9223372036854775808*((9223372036854775808+n+m)*Z)+9223372036854775808*Z:=by
      rw [←Nat.mul_add];congr 1
      rw [show 9223372036854775808+(n+m+1)=(9223372036854775808+n+m)+1 by omega,Nat.add_mul,Nat.one_mul]
    have:9223372036854775808*(9223372036854775808*X)≤9223372036854775808*((9223372036854775808+(n+m+1))*Z):=by omega
    exact Nat.le_of_mul_le_mul_left this (by decide)
  ·
    have s1:n*(9223372036854775808*Y)≤n*((9223372036854775808+m)*Z):=Nat.mul_le_mul_left n a'
    have s3:=Nat.mul_le_mul_right Z nm
    have e1:n*(9223372036854775808*Y)=9223372036854775808*(n*Y):=by ac_rfl
    have e2:n*((9223372036854775808+m)*Z)=9223372036854775808*(n*Z)+n*m*Z:=by
      rw [Nat.add_mul,Nat.mul_add,Nat.mul_assoc]
      congr 1
      ac_rfl
    have e3:(n+m+1)*Z=n*Z+m*Z+Z:=by rw [Nat.add_mul,Nat.add_mul,Nat.one_mul]
    rw [e3]
    omega
theorem Ap.symm{n X Y:Nat}(h:Ap n X Y)(hn:n≤1000000) :Ap (n+1) Y X:=by
  obtain ⟨a,b⟩:=h
  refine ⟨?_,?_⟩
  ·
    have s1:=Nat.mul_le_mul_left n b
    have e1:n*(9223372036854775808*Y)=9223372036854775808*(n*Y):=by ac_rfl
    have e2:n*(9223372036854775808*X+n*Y)=9223372036854775808*(n*X)+n*n*Y:=by
      rw [Nat.mul_add];congr 1<;>ac_rfl
    have nn:n*n*2≤9223372036854775808:=Nat.le_trans (Nat.mul_le_mul_right 2 (Nat.mul_le_mul hn hn)) (by decide)
    have y2:Y≤2*X:=by
      have:=Nat.mul_le_mul_right Y hn
      omega
    have s3:=Nat.mul_le_mul (Nat.le_refl (n*n)) y2
    have s4:=Nat.mul_le_mul_right X nn
    have e4:n*n*(2*X)=n*n*2*X:=by ac_rfl
    have e5:(9223372036854775808+(n+1))*X=9223372036854775808*X+n*X+X:=by
      rw [Nat.add_mul,Nat.add_mul,Nat.one_mul];omega
    rw [e5]
    omega
  · have s1:=a
    rw [Nat.add_mul] at s1
    have y2:n*Y≤n*X+X:=by
      have s2:=Nat.mul_le_mul_left n b
      have e1:n*(9223372036854775808*Y)=9223372036854775808*(n*Y):=by ac_rfl
      have e2:n*(9223372036854775808*X+n*Y)=9223372036854775808*(n*X)+n*n*Y:=by
        rw [Nat.mul_add];congr 1<;>ac_rfl
      have nn:n*n*2≤9223372036854775808:=Nat.le_trans (Nat.mul_le_mul_right 2 (Nat.mul_le_mul hn hn)) (by decide)
      have y2:Y≤2*X:=by
        have:=Nat.mul_le_mul_right Y hn
        omega
      have s3:=Nat.mul_le_mul (Nat.le_refl (n*n)) y2
      have s4:=Nat.mul_le_mul_right X nn
      have e4:n*n*(2*X)=n*n*2*X:=by ac_rfl
      omega
    have e5:(n+1)*X=n*X+X:=by rw [Nat.add_mul,Nat.one_mul]
    rw [e5]
    omega
def E2(k:Nat) :Nat:=2^k
theorem aoN(a:Nat) :0<E2 a:=Nat.pow_pos (by decide)
theorem arP{a b:Nat}(h:a≤b) :E2 a≤E2 b:=Nat.pow_le_pow_right (by decide) h
theorem aqy{a b:Nat}(h:E2 a<E2 b) :a<b:=by
  rcases Nat.lt_or_ge a b with q | q
  · exact q
  · exact absurd (arP q) (by omega)
def vl(x:Nat) :Nat:=(fz x).natAbs
def sb(x:Nat) :Bool:=x/9223372036854775808%2==1
theorem aqz(x:Nat) :vl x=jG (x%9223372036854775808)*E2 (fV (x%9223372036854775808)):=by unfold vl fz;rw [aow];rfl
theorem aoO{x:Nat}(hx:x<vh) :fz x=sg (sb x) (vl x):=by
  unfold sb vl fz
  rw [Ez hx,aow]
structure Rq (neg:Bool) (w:Nat):Prop where
  lt:w<vh
  fin:fin w=true
  sgn:fz w=sg neg (vl w)
abbrev T3:Nat:=4607182418800017408
theorem mm(a b:Nat) :a*b*(a*b)=a*a*(b*b):=by ac_rfl
def ex(x:Nat) :Nat:=x%9223372036854775808/4503599627370496
theorem OG{x:Nat}(h:1≤ex x) :4503599627370496≤jG (x%9223372036854775808)∧(jG (x%9223372036854775808)).log2=52∧fV (x%9223372036854775808)=ex x-1:=by
  have lt:=adG (x%9223372036854775808)
  have ge:4503599627370496≤jG (x%9223372036854775808):=by
    unfold ex at h
    unfold jG
    rw [if_neg (by omega)]
    omega
  refine ⟨ge,?_,rfl⟩
  generalize jG (x%9223372036854775808)=m at lt ge
  have m0:m≠0:=by omega
  have l1:=Nat.log2_self_le m0
  have l2:=Nat.lt_log2_self (n:=m)
  have a:E2 m.log2<E2 53:=Nat.lt_of_le_of_lt l1 lt
  have b:E2 52<E2 (m.log2+1):=Nat.lt_of_le_of_lt ge l2
  have:=aqy a
  have:=aqy b
  omega
theorem aba{x y:Nat}(hx:x<vh)(hy:y<vh)(fx:fin x=true)(fy:fin y=true) :
    eY x y=Ieee.double.nearest (sb x ^^ sb y) (jG (x%9223372036854775808)*jG (y%9223372036854775808)) (-1074+((fV (x%9223372036854775808):Nat):Int)+(-1074+((fV (y%9223372036854775808):Nat):Int))):=by
  unfold eY Ieee.Format.mul
  rw [nt hx fx,nt hy fy]
  rfl
theorem Gi{x:Nat}(h:ex x≤2046) :fin x=true:=by unfold ex at h;exact OF (by omega)
theorem amU:ex T3=1023∧jG (T3%9223372036854775808)=4503599627370496∧fV (T3%9223372036854775808)=1022∧sb T3=false:=by decide
theorem Q3{x:Nat}(hx:x<vh)(h:1≤ex x) :Ieee.double.word (sb x) (fV (x%9223372036854775808)*4503599627370496+jG (x%9223372036854775808))=x:=by
  have hx':x<18446744073709551616:=hx
  have e1:Ieee.double.signWeight=9223372036854775808:=by decide
  unfold ex at h
  have h1:fV (x%9223372036854775808)*4503599627370496+jG (x%9223372036854775808)=x%9223372036854775808:=by
    unfold jG fV
    rw [if_neg (by omega)]
    omega
  rw [h1]
  unfold Ieee.Format.word sb
  rw [e1]
  by_cases q:x/9223372036854775808%2=1
  · rw [q]
    show 9223372036854775808+_=x
    omega
  · have:(x/9223372036854775808%2==1)=false:=beq_eq_false_iff_ne.2 q
    rw [this]
    show x%9223372036854775808=x
    omega
theorem Mid.ex{x:Nat}(h:Mid x) :623≤ex x∧ex x≤1423:=by
  obtain ⟨a,b⟩:=h
  unfold Go.Plb.ex
  omega
end Go.Plb
