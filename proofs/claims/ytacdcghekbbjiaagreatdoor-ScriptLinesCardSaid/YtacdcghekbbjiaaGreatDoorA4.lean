/-
  Part 4 of what the claim leans on: an evaluator of the model, proved sound; the contracts of the functions.
-/
import Derived.Test.YtacdcghekbbjiaaGreatDoorA3
namespace Go.Plb.Seat
open Go Go.Plb
set_option linter.unusedVariables false
set_option maxRecDepth 100000
noncomputable section
inductive aa where
  | r0 (b13:Bool) (a14:Nat) (a15:Nat) (i17:Int) (i18:Int) (i19:Int) (a20:Nat) (a21:Nat) (i22:Int) (i23:Int) (b24:Bool) (i25:Int) (a26:Nat) (l27:List Int) (l28:List Int) (l29:List Int) (l30:List (List Int)) (l31:List Int) (l32:List Int) (l33:List Int)
  | r1 (b34:Bool) (a35:Nat) (a36:Nat) (i37:Int) (i38:Int) (b39:Bool) (a40:Nat) (l41:List Int) (l42:List Int) (l43:List Int) (l44:List (List Int)) (l45:List Int) (l46:List Int) (l47:List Int)
  | r2 (b48:Bool) (a49:Nat) (a50:Nat) (i51:Int) (i52:Int) (i53:Int) (a54:Nat) (i55:Int) (i56:Int) (b57:Bool) (i58:Int) (a59:Nat) (l60:List Int) (l61:List Int) (l62:List Int) (l63:List (List Int)) (l64:List Int) (l65:List Int) (l66:List Int)
def kH:aa→AE×aA
  | .r0 b13 a14 a15 i17 i18 i19 a20 a21 i22 i23 b24 i25 a26 l27 l28 l29 l30 l31 l32 l33=>(.ret,⟨ap 164 [(4,.bool false b13)],[(0,.vs [.sl 1 6 6 0 a14 a15,.int .i64 i17,.int .i64 i18,.int .i64 i19,.sl 2 1 1 0 a20 a21,.int .i64 i22,.int .u64 i23,.bool false b24,.int .i64 i25]),(1,.cols a26 [.ci .i64 l27,.ci .i64 l28,.ci .i64 l29,.cns .u64 l30,.ci .i64 l31,.ci .u64 l32]),(2,.ns .u64 l33)],3⟩)
  | .r1 b34 a35 a36 i37 i38 b39 a40 l41 l42 l43 l44 l45 l46 l47=>(.ret,⟨ap 164 [(4,.bool false b34)],[(0,.vs [.sl 1 6 6 0 a35 a36,.int .i64 (0:Int),.int .i64 i37,.int .i64 i38,.nsl,.int .i64 (0:Int),.int .u64 (0:Int),.bool false b39,.int .i64 (0:Int)]),(1,.cols a40 [.ci .i64 l41,.ci .i64 l42,.ci .i64 l43,.cns .u64 l44,.ci .i64 l45,.ci .u64 l46]),(2,.ns .u64 l47)],3⟩)
  | .r2 b48 a49 a50 i51 i52 i53 a54 i55 i56 b57 i58 a59 l60 l61 l62 l63 l64 l65 l66=>(.ret,⟨ap 164 [(4,.bool false b48)],[(0,.vs [.sl 1 6 6 0 a49 a50,.int .i64 i51,.int .i64 i52,.int .i64 i53,.sl 3 1 1 0 a54 a54,.int .i64 i55,.int .u64 i56,.bool false b57,.int .i64 i58]),(1,.cols a59 [.ci .i64 l60,.ci .i64 l61,.ci .i64 l62,.cns .u64 l63,.ci .i64 l64,.ci .u64 l65]),(3,.ns .u64 l66)],4⟩)
theorem bd:qi kH:=by intro x;cases x<;>(intro h;cases h)
theorem vu(id:Nat) :rI id kH:=by intro x;cases x<;>(intro h;cases h)
def dR:aa→mb
  | .r0 b13 a14 a15 i17 i18 i19 a20 a21 i22 i23 b24 i25 a26 l27 l28 l29 l30 l31 l32 l33=>⟨.bool false b13,[some (.vs [.sl 1 6 6 0 a14 a15,.int .i64 i17,.int .i64 i18,.int .i64 i19,.sl 2 1 1 0 a20 a21,.int .i64 i22,.int .u64 i23,.bool false b24,.int .i64 i25]),some (.cols a26 [.ci .i64 l27,.ci .i64 l28,.ci .i64 l29,.cns .u64 l30,.ci .i64 l31,.ci .u64 l32]),some (.ns .u64 l33)]⟩
  | .r1 b34 a35 a36 i37 i38 b39 a40 l41 l42 l43 l44 l45 l46 l47=>⟨.bool false b34,[some (.vs [.sl 1 6 6 0 a35 a36,.int .i64 (0:Int),.int .i64 i37,.int .i64 i38,.nsl,.int .i64 (0:Int),.int .u64 (0:Int),.bool false b39,.int .i64 (0:Int)]),some (.cols a40 [.ci .i64 l41,.ci .i64 l42,.ci .i64 l43,.cns .u64 l44,.ci .i64 l45,.ci .u64 l46]),some (.ns .u64 l47)]⟩
  | .r2 b48 a49 a50 i51 i52 i53 a54 i55 i56 b57 i58 a59 l60 l61 l62 l63 l64 l65 l66=>⟨.bool false b48,[some (.vs [.sl 1 6 6 0 a49 a50,.int .i64 i51,.int .i64 i52,.int .i64 i53,.sl 3 1 1 0 a54 a54,.int .i64 i55,.int .u64 i56,.bool false b57,.int .i64 i58]),some (.cols a59 [.ci .i64 l60,.ci .i64 l61,.ci .i64 l62,.cns .u64 l63,.ci .i64 l64,.ci .u64 l65]),none,some (.ns .u64 l66)]⟩
noncomputable def tO:List Code:=dn (tA bz)
def vv(n_0:Nat)(c_1:Nat)(i_2:Int)(i_3:Int)(i_4:Int)(n_5:Nat)(c_6:Nat)(i_7:Int)(i_8:Int)(b_9:Bool)(i_10:Int)(n_11:Nat)(l_12:List Int)(l_13:List Int)(l_14:List Int)(l_15:List (List Int))(l_16:List Int)(l_17:List Int)(l_18:List Int)(s_19:ByteArray)(_:Unit) :aA:=⟨ap 164 [(0,.ptr 0 1 0 0),(1,.str s_19)],[(0,.vs [.sl 1 6 6 0 n_0 c_1,.int .i64 i_2,.int .i64 i_3,.int .i64 i_4,.sl 2 1 1 0 n_5 c_6,.int .i64 i_7,.int .u64 i_8,.bool false b_9,.int .i64 i_10]),(1,.cols n_11 [.ci .i64 l_12,.ci .i64 l_13,.ci .i64 l_14,.cns .u64 l_15,.ci .i64 l_16,.ci .u64 l_17]),(2,.ns .u64 l_18)],3⟩
def tP:T ((Unit)⊕(aa)) :=
  .leaf (.inl ())
def nA(n_0:Nat)(c_1:Nat)(i_2:Int)(i_3:Int)(i_4:Int)(n_5:Nat)(c_6:Nat)(i_7:Int)(i_8:Int)(b_9:Bool)(i_10:Int)(n_11:Nat)(l_12:List Int)(l_13:List Int)(l_14:List Int)(l_15:List (List Int))(l_16:List Int)(l_17:List Int)(l_18:List Int)(s_19:ByteArray)(_:Unit) :aA:=⟨ap 164 [(0,.ptr 0 1 0 0),(1,.str s_19)],[(0,.vs [.sl 1 6 6 0 n_0 c_1,.int .i64 i_2,.int .i64 i_3,.int .i64 i_4,.sl 2 1 1 0 n_5 c_6,.int .i64 i_7,.int .u64 i_8,.bool false b_9,.int .i64 i_10]),(1,.cols n_11 [.ci .i64 l_12,.ci .i64 l_13,.ci .i64 l_14,.cns .u64 l_15,.ci .i64 l_16,.ci .u64 l_17]),(2,.ns .u64 l_18)],3⟩
noncomputable def jB:List Code:=dn (inBlock ((((tO.drop 1).take 1)).headD .skip))
def vx(n_0:Nat)(c_1:Nat)(i_2:Int)(i_3:Int)(i_4:Int)(n_5:Nat)(c_6:Nat)(i_7:Int)(i_8:Int)(b_9:Bool)(i_10:Int)(n_11:Nat)(l_12:List Int)(l_13:List Int)(l_14:List Int)(l_15:List (List Int))(l_16:List Int)(l_17:List Int)(l_18:List Int)(s_19:ByteArray)(b1:Bool) :aA:=⟨ap 164 [(0,.ptr 0 1 0 0),(1,.str s_19),(10,.bool false b1)],[(0,.vs [.sl 1 6 6 0 n_0 c_1,.int .i64 i_2,.int .i64 i_3,.int .i64 i_4,.sl 2 1 1 0 n_5 c_6,.int .i64 i_7,.int .u64 i_8,.bool false b_9,.int .i64 i_10]),(1,.cols n_11 [.ci .i64 l_12,.ci .i64 l_13,.ci .i64 l_14,.cns .u64 l_15,.ci .i64 l_16,.ci .u64 l_17]),(2,.ns .u64 l_18)],3⟩
def tQ(b_9:Bool) :T ((Bool)⊕((Unit)⊕(aa))) :=
  .leaf (.inl (!b_9))
def nB(n_0:Nat)(c_1:Nat)(i_2:Int)(i_3:Int)(i_4:Int)(n_5:Nat)(c_6:Nat)(i_7:Int)(i_8:Int)(b_9:Bool)(i_10:Int)(n_11:Nat)(l_12:List Int)(l_13:List Int)(l_14:List Int)(l_15:List (List Int))(l_16:List Int)(l_17:List Int)(l_18:List Int)(s_19:ByteArray)(_:Unit) :aA:=⟨ap 164 [(0,.ptr 0 1 0 0),(1,.str s_19)],[(0,.vs [.sl 1 6 6 0 n_0 c_1,.int .i64 i_2,.int .i64 i_3,.int .i64 i_4,.sl 2 1 1 0 n_5 c_6,.int .i64 i_7,.int .u64 i_8,.bool false b_9,.int .i64 i_10]),(1,.cols n_11 [.ci .i64 l_12,.ci .i64 l_13,.ci .i64 l_14,.cns .u64 l_15,.ci .i64 l_16,.ci .u64 l_17]),(2,.ns .u64 l_18)],3⟩
def vy(n_0:Nat)(c_1:Nat)(i_2:Int)(i_3:Int)(i_4:Int)(n_5:Nat)(c_6:Nat)(i_7:Int)(i_8:Int)(b_9:Bool)(i_10:Int)(n_11:Nat)(l_12:List Int)(l_13:List Int)(l_14:List Int)(l_15:List (List Int))(l_16:List Int)(l_17:List Int)(l_18:List Int)(s_19:ByteArray) :(List ByteArray)×Nat→aA:=fun (w2,w3)=>⟨ap 164 [(0,.ptr 0 1 0 0),(1,.str s_19),(5,.imm .free (.ss w2) 1 1 0 w3)],[(0,.vs [.sl 1 6 6 0 n_0 c_1,.int .i64 i_2,.int .i64 i_3,.int .i64 i_4,.sl 2 1 1 0 n_5 c_6,.int .i64 i_7,.int .u64 i_8,.bool false b_9,.int .i64 i_10]),(1,.cols n_11 [.ci .i64 l_12,.ci .i64 l_13,.ci .i64 l_14,.cns .u64 l_15,.ci .i64 l_16,.ci .u64 l_17]),(2,.ns .u64 l_18)],3⟩
def tR(s_19:ByteArray) :T (((List ByteArray)×Nat)⊕((Unit)⊕(aa))) :=
  .need (dQ (bX s_19 (ByteArray.mk #[32])))<|.leaf (.inl ((eu (bX s_19 (ByteArray.mk #[32]))),(er (bX s_19 (ByteArray.mk #[32])))))
def vz(n_0:Nat)(c_1:Nat)(n_11:Nat)(l_12:List Int)(l_13:List Int)(l_14:List Int)(l_15:List (List Int))(l_16:List Int)(l_17:List Int)(l_18:List Int) :Bool×Int×Int×Bool→aA:=fun (b4,i5,i6,b7)=>⟨ap 164 [(4,.bool false b4)],[(0,.vs [.sl 1 6 6 0 n_0 c_1,.int .i64 (0:Int),.int .i64 i5,.int .i64 i6,.nsl,.int .i64 (0:Int),.int .u64 (0:Int),.bool false b7,.int .i64 (0:Int)]),(1,.cols n_11 [.ci .i64 l_12,.ci .i64 l_13,.ci .i64 l_14,.cns .u64 l_15,.ci .i64 l_16,.ci .u64 l_17]),(2,.ns .u64 l_18)],3⟩
def tS(n_0:Nat)(c_1:Nat)(i_2:Int)(i_3:Int)(i_4:Int)(n_5:Nat)(c_6:Nat)(i_7:Int)(i_8:Int)(b_9:Bool)(i_10:Int)(n_11:Nat)(l_12:List Int)(l_13:List Int)(l_14:List Int)(l_15:List (List Int))(l_16:List Int)(l_17:List Int)(l_18:List Int)(s_19:ByteArray)(w2:List ByteArray)(w3:Nat) :T ((Bool×Int×Int×Bool)⊕((Unit)⊕(aa))) :=
  .ask (((w3:Nat):Int) != (3:Int))
    (.leaf (.inr (.inr (.r0 false n_0 c_1 i_2 i_3 i_4 n_5 c_6 i_7 i_8 b_9 i_10 n_11 l_12 l_13 l_14 l_15 l_16 l_17 l_18))))
    (.need (vR (1:Int) w3)<|.need (mA 1 (List.length w2))<|.need (fw (List.getD w2 1 ByteArray.empty).size)<|.need (vR (2:Int) w3)<|.need (mA 2 (List.length w2))<|.need (fw (List.getD w2 2 ByteArray.empty).size)<|.need (dh (bN (dV (List.getD w2 1 ByteArray.empty))))<|.ask (cX (bN (dV (List.getD w2 1 ByteArray.empty))))
      (.need (dh (bN (dV (List.getD w2 2 ByteArray.empty))))<|.ask (cX (bN (dV (List.getD w2 2 ByteArray.empty))))
        (.need (fy (dy (dV (List.getD w2 1 ByteArray.empty)) (dV (List.getD w2 2 ByteArray.empty))))<|.leaf (.inl (((gN (dy (dV (List.getD w2 1 ByteArray.empty)) (dV (List.getD w2 2 ByteArray.empty)))).toList==s_19.toList),(dV (List.getD w2 1 ByteArray.empty)),(dV (List.getD w2 2 ByteArray.empty)),true)))
        (.leaf (.inl (false,(dV (List.getD w2 1 ByteArray.empty)),(dV (List.getD w2 2 ByteArray.empty)),true))))
      (.leaf (.inl (false,(dV (List.getD w2 1 ByteArray.empty)),(dV (List.getD w2 2 ByteArray.empty)),true))))
def tT(n_0:Nat)(c_1:Nat)(n_11:Nat)(l_12:List Int)(l_13:List Int)(l_14:List Int)(l_15:List (List Int))(l_16:List Int)(l_17:List Int)(l_18:List Int)(b4:Bool)(i5:Int)(i6:Int)(b7:Bool) :T ((Unit)⊕((Unit)⊕(aa))) :=
  .leaf (.inr (.inr (.r1 b4 n_0 c_1 i5 i6 b7 n_11 l_12 l_13 l_14 l_15 l_16 l_17 l_18)))
def vA(n_0:Nat)(c_1:Nat)(i_2:Int)(i_3:Int)(i_4:Int)(n_5:Nat)(c_6:Nat)(i_7:Int)(i_8:Int)(b_9:Bool)(i_10:Int)(n_11:Nat)(l_12:List Int)(l_13:List Int)(l_14:List Int)(l_15:List (List Int))(l_16:List Int)(l_17:List Int)(l_18:List Int)(s_19:ByteArray)(b8:Bool) :aA:=⟨ap 164 [(0,.ptr 0 1 0 0),(1,.str s_19),(68,.bool false b8)],[(0,.vs [.sl 1 6 6 0 n_0 c_1,.int .i64 i_2,.int .i64 i_3,.int .i64 i_4,.sl 2 1 1 0 n_5 c_6,.int .i64 i_7,.int .u64 i_8,.bool false b_9,.int .i64 i_10]),(1,.cols n_11 [.ci .i64 l_12,.ci .i64 l_13,.ci .i64 l_14,.cns .u64 l_15,.ci .i64 l_16,.ci .u64 l_17]),(2,.ns .u64 l_18)],3⟩
def tU(i_3:Int)(i_4:Int)(i_10:Int) :T ((Bool)⊕((Unit)⊕(aa))) :=
  .ask (decide (i_10<i_3))
    (.leaf (.inl (decide (i_4>(0:Int)))))
    (.leaf (.inl false))
def tV(n_0:Nat)(c_1:Nat)(i_2:Int)(i_3:Int)(i_4:Int)(n_5:Nat)(c_6:Nat)(i_7:Int)(i_8:Int)(b_9:Bool)(i_10:Int)(n_11:Nat)(l_12:List Int)(l_13:List Int)(l_14:List Int)(l_15:List (List Int))(l_16:List Int)(l_17:List Int)(l_18:List Int)(s_19:ByteArray)(b8:Bool) :T ((Unit)⊕((Unit)⊕(aa))) :=
  .ask b8
    (.alt 0
      (.need (kT s_19)<|.need (fw s_19.size)<|.need (gK ((n_5+(List.length (fx s_19)))*8) 140737488355328)<|.need (gK (n_5+(List.length (fx s_19))) 9223372036854775807)<|.need (gK (List.length (fx s_19)) (List.length (fx s_19)))<|.need (gK n_5 (List.length l_18))<|.need (kp .i64 (i_10+(1:Int)))<|.ask (0==(0:Int))
        (.leaf (.inr (.inr (.r2 ((((List.length (fx s_19)):Nat):Int)==i_4) n_0 c_1 i_2 i_3 i_4 (n_5+(List.length (fx s_19))) i_7 i_8 b_9 (i_10+(1:Int)) n_11 l_12 l_13 l_14 l_15 l_16 l_17 ((List.take n_5 l_18)++(List.take (List.length (fx s_19)) (fx s_19)))))))
        (.leaf (.inr (.inr (.r2 false n_0 c_1 i_2 i_3 i_4 (n_5+(List.length (fx s_19))) i_7 i_8 b_9 (i_10+(1:Int)) n_11 l_12 l_13 l_14 l_15 l_16 l_17 ((List.take n_5 l_18)++(List.take (List.length (fx s_19)) (fx s_19))))))))
      (.alt 1
        (.need (!kT s_19)<|.need (fw s_19.size)<|.need (kp .i64 (i_10+(1:Int)))<|.ask (4==(0:Int))
          (.leaf (.inr (.inr (.r0 ((0:Int)==i_4) n_0 c_1 i_2 i_3 i_4 n_5 c_6 i_7 i_8 b_9 (i_10+(1:Int)) n_11 l_12 l_13 l_14 l_15 l_16 l_17 l_18))))
          (.leaf (.inr (.inr (.r0 false n_0 c_1 i_2 i_3 i_4 n_5 c_6 i_7 i_8 b_9 (i_10+(1:Int)) n_11 l_12 l_13 l_14 l_15 l_16 l_17 l_18)))))
        (.fail)))
    (.leaf (.inl ()))
def tW:T ((Unit)⊕((Unit)⊕(aa))) :=
  .leaf (.inl ())
def vB(n_0:Nat)(c_1:Nat)(i_2:Int)(i_3:Int)(i_4:Int)(n_5:Nat)(c_6:Nat)(i_7:Int)(i_8:Int)(b_9:Bool)(i_10:Int)(n_11:Nat)(l_12:List Int)(l_13:List Int)(l_14:List Int)(l_15:List (List Int))(l_16:List Int)(l_17:List Int)(l_18:List Int) :Nat×Int×Int×Int→aA:=fun (e9,i10,i11,i12)=>⟨ap 164 [(0,.ptr 0 1 0 0),(8,.ptr 3 1 0 0),(9,.int .i64 ((e9:Nat):Int))],[(0,.vs [.sl 1 6 6 0 n_0 c_1,.int .i64 i_2,.int .i64 i_3,.int .i64 i_4,.sl 2 1 1 0 n_5 c_6,.int .i64 i_7,.int .u64 i_8,.bool false b_9,.int .i64 i_10]),(1,.cols n_11 [.ci .i64 l_12,.ci .i64 l_13,.ci .i64 l_14,.cns .u64 l_15,.ci .i64 l_16,.ci .u64 l_17]),(2,.ns .u64 l_18),(3,.vs [.int .i64 i10,.int .i64 (0:Int),.int .i64 (0:Int),.nsl,.int .i64 i11,.int .u64 i12])],4⟩
def tX(s_19:ByteArray) :T ((Nat×Int×Int×Int)⊕(aa)) :=
  .need (dP (aW s_19))<|.leaf (.inl ((eh (aW s_19)),(ei (aW s_19)),(ek (aW s_19)),(em (aW s_19))))
def tY:T ((Empty)⊕(aa)) :=
  .fail
noncomputable def kI(n_0:Nat)(c_1:Nat)(i_2:Int)(i_3:Int)(i_4:Int)(n_5:Nat)(c_6:Nat)(i_7:Int)(i_8:Int)(b_9:Bool)(i_10:Int)(n_11:Nat)(l_12:List Int)(l_13:List Int)(l_14:List Int)(l_15:List (List Int))(l_16:List Int)(l_17:List Int)(l_18:List Int)(s_19:ByteArray) :Option aa:=uZ (bg ((tP).run) fun _ =>
  bg (sB (bg ((tQ b_9).run) fun b1 =>
  bg ((bif b1 then bg ((tR s_19).run) fun (w2,w3) =>
  bg ((tS n_0 c_1 i_2 i_3 i_4 n_5 c_6 i_7 i_8 b_9 i_10 n_11 l_12 l_13 l_14 l_15 l_16 l_17 l_18 s_19 w2 w3).run) fun (b4,i5,i6,b7) =>
  (tT n_0 c_1 n_11 l_12 l_13 l_14 l_15 l_16 l_17 l_18 b4 i5 i6 b7).run else bg ((tU i_3 i_4 i_10).run) fun b8 =>
  (tV n_0 c_1 i_2 i_3 i_4 n_5 c_6 i_7 i_8 b_9 i_10 n_11 l_12 l_13 l_14 l_15 l_16 l_17 l_18 s_19 b8).run)) fun _ =>
  (tW).run)) fun _ =>
  bg ((tX s_19).run) fun (e9,i10,i11,i12) =>
  (tY).run)
theorem kb(n_0:Nat)(c_1:Nat)(i_2:Int)(i_3:Int)(i_4:Int)(n_5:Nat)(c_6:Nat)(i_7:Int)(i_8:Int)(b_9:Bool)(i_10:Int)(n_11:Nat)(l_12:List Int)(l_13:List Int)(l_14:List Int)(l_15:List (List Int))(l_16:List Int)(l_17:List Int)(l_18:List Int)(s_19:ByteArray){x:aa}(h:kI n_0 c_1 i_2 i_3 i_4 n_5 c_6 i_7 i_8 b_9 i_10 n_11 l_12 l_13 l_14 l_15 l_16 l_17 l_18 s_19=some x) :am prog bz [.vs [.sl 1 6 6 0 n_0 c_1,.int .i64 i_2,.int .i64 i_3,.int .i64 i_4,.sl 2 1 1 0 n_5 c_6,.int .i64 i_7,.int .u64 i_8,.bool false b_9,.int .i64 i_10],.cols n_11 [.ci .i64 l_12,.ci .i64 l_13,.ci .i64 l_14,.cns .u64 l_15,.ci .i64 l_16,.ci .u64 l_17],.ns .u64 l_18] [.ptr 0 1 0 0,.str s_19] (dR x) :=
  yB false dR kH h (Sg.cut 1 bd (cN ao (vv n_0 c_1 i_2 i_3 i_4 n_5 c_6 i_7 i_8 b_9 i_10 n_11 l_12 l_13 l_14 l_15 l_16 l_17 l_18 s_19) [⟨[],[0,1,2],[0,1]⟩]) (fun _=>Sg.cut 1 bd (Lx (nA n_0 c_1 i_2 i_3 i_4 n_5 c_6 i_7 i_8 b_9 i_10 n_11 l_12 l_13 l_14 l_15 l_16 l_17 l_18 s_19) 0 bd (vu _) (Sg.cut 1 (dc bd) (cN ao (vx n_0 c_1 i_2 i_3 i_4 n_5 c_6 i_7 i_8 b_9 i_10 n_11 l_12 l_13 l_14 l_15 l_16 l_17 l_18 s_19) [⟨[],[0,1,2],[0,1,10]⟩]) (fun b1=>Sg.cut 1 (dc bd) (wx (c:=.tmp 10) (kn:=false) (b:=b1) (by kernel_rfl:((jB.drop 1).take 1)=[.cond (.tmp 10) (Fu ((((jB.drop 1).take 1)).headD .skip)) (Fv ((((jB.drop 1).take 1)).headD .skip))]) (dc bd) (by kernel_rfl) (Sg.cut 1 (dc bd) (cN ao (vy n_0 c_1 i_2 i_3 i_4 n_5 c_6 i_7 i_8 b_9 i_10 n_11 l_12 l_13 l_14 l_15 l_16 l_17 l_18 s_19) [⟨[],[0,1,2],[0,1,5]⟩]) (fun ⟨w2,w3⟩=>Sg.cut 4 (dc bd) (cN ao (vz n_0 c_1 n_11 l_12 l_13 l_14 l_15 l_16 l_17 l_18) [⟨[],[0,1,2],[4]⟩,⟨[],[0,1,2],[4]⟩,⟨[],[0,1,2],[4]⟩,⟨[],[0,1,2],[4]⟩]) (fun ⟨b4,i5,i6,b7⟩=>cN ao (nB n_0 c_1 i_2 i_3 i_4 n_5 c_6 i_7 i_8 b_9 i_10 n_11 l_12 l_13 l_14 l_15 l_16 l_17 l_18 s_19) [⟨[],[0,1,2],[4]⟩]))) (Sg.cut 1 (dc bd) (cN ao (vA n_0 c_1 i_2 i_3 i_4 n_5 c_6 i_7 i_8 b_9 i_10 n_11 l_12 l_13 l_14 l_15 l_16 l_17 l_18 s_19) [⟨[],[0,1,2],[0,1,68]⟩,⟨[],[0,1,2],[0,1,68]⟩]) (fun b8=>cN ao (nB n_0 c_1 i_2 i_3 i_4 n_5 c_6 i_7 i_8 b_9 i_10 n_11 l_12 l_13 l_14 l_15 l_16 l_17 l_18 s_19) [⟨[],[0,1,2,227],[4]⟩,⟨[],[0,1,2,227],[4]⟩,⟨[],[0,1,2],[4]⟩,⟨[],[0,1,2],[4]⟩,⟨[],[0,1,2],[0,1]⟩]))) (fun _=>cN ao (nA n_0 c_1 i_2 i_3 i_4 n_5 c_6 i_7 i_8 b_9 i_10 n_11 l_12 l_13 l_14 l_15 l_16 l_17 l_18 s_19) [⟨[],[0,1,2],[0,1]⟩])))) (fun _=>Sg.cut 1 bd (cN ao (vB n_0 c_1 i_2 i_3 i_4 n_5 c_6 i_7 i_8 b_9 i_10 n_11 l_12 l_13 l_14 l_15 l_16 l_17 l_18) [⟨[],[0,1,2,83],[0,8,9]⟩]) (fun ⟨e9,i10,i11,i12⟩=>cN ao vS []))))
    (fun x=>by cases x with | r0 b13 a14 a15 i17 i18 i19 a20 a21 i22 i23 b24 i25 a26 l27 l28 l29 l30 l31 l32 l33=>exact qj [.bool false b13] | r1 b34 a35 a36 i37 i38 b39 a40 l41 l42 l43 l44 l45 l46 l47=>exact qj [.bool false b34] | r2 b48 a49 a50 i51 i52 i53 a54 i55 i56 b57 i58 a59 l60 l61 l62 l63 l64 l65 l66=>exact qj [.bool false b48])
def fi:Option aa→Bool
  | some (.r0 _ _ _ _ _ _ _ _ _ _ _ _ _ _ _ _ _ _ _ _)=>true
  | _=>false
def cF:Option aa→Bool
  | some (.r0 x _ _ _ _ _ _ _ _ _ _ _ _ _ _ _ _ _ _ _)=>x
  | _=>false
def hX:Option aa→Nat
  | some (.r0 _ x _ _ _ _ _ _ _ _ _ _ _ _ _ _ _ _ _ _)=>x
  | _=>0
def hZ:Option aa→Nat
  | some (.r0 _ _ x _ _ _ _ _ _ _ _ _ _ _ _ _ _ _ _ _)=>x
  | _=>0
def ia:Option aa→Int
  | some (.r0 _ _ _ x _ _ _ _ _ _ _ _ _ _ _ _ _ _ _ _)=>x
  | _=>0
def ib:Option aa→Int
  | some (.r0 _ _ _ _ x _ _ _ _ _ _ _ _ _ _ _ _ _ _ _)=>x
  | _=>0
def ic:Option aa→Int
  | some (.r0 _ _ _ _ _ x _ _ _ _ _ _ _ _ _ _ _ _ _ _)=>x
  | _=>0
def ig:Option aa→Nat
  | some (.r0 _ _ _ _ _ _ x _ _ _ _ _ _ _ _ _ _ _ _ _)=>x
  | _=>0
def ii:Option aa→Nat
  | some (.r0 _ _ _ _ _ _ _ x _ _ _ _ _ _ _ _ _ _ _ _)=>x
  | _=>0
def ij:Option aa→Int
  | some (.r0 _ _ _ _ _ _ _ _ x _ _ _ _ _ _ _ _ _ _ _)=>x
  | _=>0
def ik:Option aa→Int
  | some (.r0 _ _ _ _ _ _ _ _ _ x _ _ _ _ _ _ _ _ _ _)=>x
  | _=>0
def fG:Option aa→Bool
  | some (.r0 _ _ _ _ _ _ _ _ _ _ x _ _ _ _ _ _ _ _ _)=>x
  | _=>false
def fH:Option aa→Int
  | some (.r0 _ _ _ _ _ _ _ _ _ _ _ x _ _ _ _ _ _ _ _)=>x
  | _=>0
def fI:Option aa→Nat
  | some (.r0 _ _ _ _ _ _ _ _ _ _ _ _ x _ _ _ _ _ _ _)=>x
  | _=>0
def fJ:Option aa→List Int
  | some (.r0 _ _ _ _ _ _ _ _ _ _ _ _ _ x _ _ _ _ _ _)=>x
  | _=>[]
def fK:Option aa→List Int
  | some (.r0 _ _ _ _ _ _ _ _ _ _ _ _ _ _ x _ _ _ _ _)=>x
  | _=>[]
def fL:Option aa→List Int
  | some (.r0 _ _ _ _ _ _ _ _ _ _ _ _ _ _ _ x _ _ _ _)=>x
  | _=>[]
def fM:Option aa→List (List Int)
  | some (.r0 _ _ _ _ _ _ _ _ _ _ _ _ _ _ _ _ x _ _ _)=>x
  | _=>[]
def fN:Option aa→List Int
  | some (.r0 _ _ _ _ _ _ _ _ _ _ _ _ _ _ _ _ _ x _ _)=>x
  | _=>[]
def fO:Option aa→List Int
  | some (.r0 _ _ _ _ _ _ _ _ _ _ _ _ _ _ _ _ _ _ x _)=>x
  | _=>[]
def fP:Option aa→List Int
  | some (.r0 _ _ _ _ _ _ _ _ _ _ _ _ _ _ _ _ _ _ _ x)=>x
  | _=>[]
theorem vC{x:Option aa}(h:fi x=true) :x=some (.r0 (cF x) (hX x) (hZ x) (ia x) (ib x) (ic x) (ig x) (ii x) (ij x) (ik x) (fG x) (fH x) (fI x) (fJ x) (fK x) (fL x) (fM x) (fN x) (fO x) (fP x)):=by
  unfold fi at h
  split at h<;>first | rfl | (cases h;done) | (rename_i y;cases y;rfl)
def fj:Option aa→Bool
  | some (.r1 _ _ _ _ _ _ _ _ _ _ _ _ _ _)=>true
  | _=>false
def cG:Option aa→Bool
  | some (.r1 x _ _ _ _ _ _ _ _ _ _ _ _ _)=>x
  | _=>false
def il:Option aa→Nat
  | some (.r1 _ x _ _ _ _ _ _ _ _ _ _ _ _)=>x
  | _=>0
def im:Option aa→Nat
  | some (.r1 _ _ x _ _ _ _ _ _ _ _ _ _ _)=>x
  | _=>0
def io:Option aa→Int
  | some (.r1 _ _ _ x _ _ _ _ _ _ _ _ _ _)=>x
  | _=>0
def ip:Option aa→Int
  | some (.r1 _ _ _ _ x _ _ _ _ _ _ _ _ _)=>x
  | _=>0
def iq:Option aa→Bool
  | some (.r1 _ _ _ _ _ x _ _ _ _ _ _ _ _)=>x
  | _=>false
def ir:Option aa→Nat
  | some (.r1 _ _ _ _ _ _ x _ _ _ _ _ _ _)=>x
  | _=>0
def iu:Option aa→List Int
  | some (.r1 _ _ _ _ _ _ _ x _ _ _ _ _ _)=>x
  | _=>[]
def iv:Option aa→List Int
  | some (.r1 _ _ _ _ _ _ _ _ x _ _ _ _ _)=>x
  | _=>[]
def iw:Option aa→List Int
  | some (.r1 _ _ _ _ _ _ _ _ _ x _ _ _ _)=>x
  | _=>[]
def fQ:Option aa→List (List Int)
  | some (.r1 _ _ _ _ _ _ _ _ _ _ x _ _ _)=>x
  | _=>[]
def fR:Option aa→List Int
  | some (.r1 _ _ _ _ _ _ _ _ _ _ _ x _ _)=>x
  | _=>[]
def fS:Option aa→List Int
  | some (.r1 _ _ _ _ _ _ _ _ _ _ _ _ x _)=>x
  | _=>[]
def ly:Option aa→List Int
  | some (.r1 _ _ _ _ _ _ _ _ _ _ _ _ _ x)=>x
  | _=>[]
theorem vD{x:Option aa}(h:fj x=true) :x=some (.r1 (cG x) (il x) (im x) (io x) (ip x) (iq x) (ir x) (iu x) (iv x) (iw x) (fQ x) (fR x) (fS x) (ly x)):=by
  unfold fj at h
  split at h<;>first | rfl | (cases h;done) | (rename_i y;cases y;rfl)
def fk:Option aa→Bool
  | some (.r2 _ _ _ _ _ _ _ _ _ _ _ _ _ _ _ _ _ _ _)=>true
  | _=>false
def cH:Option aa→Bool
  | some (.r2 x _ _ _ _ _ _ _ _ _ _ _ _ _ _ _ _ _ _)=>x
  | _=>false
def iy:Option aa→Nat
  | some (.r2 _ x _ _ _ _ _ _ _ _ _ _ _ _ _ _ _ _ _)=>x
  | _=>0
def iz:Option aa→Nat
  | some (.r2 _ _ x _ _ _ _ _ _ _ _ _ _ _ _ _ _ _ _)=>x
  | _=>0
def iA:Option aa→Int
  | some (.r2 _ _ _ x _ _ _ _ _ _ _ _ _ _ _ _ _ _ _)=>x
  | _=>0
def iB:Option aa→Int
  | some (.r2 _ _ _ _ x _ _ _ _ _ _ _ _ _ _ _ _ _ _)=>x
  | _=>0
def iC:Option aa→Int
  | some (.r2 _ _ _ _ _ x _ _ _ _ _ _ _ _ _ _ _ _ _)=>x
  | _=>0
def dH:Option aa→Nat
  | some (.r2 _ _ _ _ _ _ x _ _ _ _ _ _ _ _ _ _ _ _)=>x
  | _=>0
def iD:Option aa→Int
  | some (.r2 _ _ _ _ _ _ _ x _ _ _ _ _ _ _ _ _ _ _)=>x
  | _=>0
def iE:Option aa→Int
  | some (.r2 _ _ _ _ _ _ _ _ x _ _ _ _ _ _ _ _ _ _)=>x
  | _=>0
def iF:Option aa→Bool
  | some (.r2 _ _ _ _ _ _ _ _ _ x _ _ _ _ _ _ _ _ _)=>x
  | _=>false
def fT:Option aa→Int
  | some (.r2 _ _ _ _ _ _ _ _ _ _ x _ _ _ _ _ _ _ _)=>x
  | _=>0
def fU:Option aa→Nat
  | some (.r2 _ _ _ _ _ _ _ _ _ _ _ x _ _ _ _ _ _ _)=>x
  | _=>0
def fV:Option aa→List Int
  | some (.r2 _ _ _ _ _ _ _ _ _ _ _ _ x _ _ _ _ _ _)=>x
  | _=>[]
def fW:Option aa→List Int
  | some (.r2 _ _ _ _ _ _ _ _ _ _ _ _ _ x _ _ _ _ _)=>x
  | _=>[]
def fX:Option aa→List Int
  | some (.r2 _ _ _ _ _ _ _ _ _ _ _ _ _ _ x _ _ _ _)=>x
  | _=>[]
def fY:Option aa→List (List Int)
  | some (.r2 _ _ _ _ _ _ _ _ _ _ _ _ _ _ _ x _ _ _)=>x
  | _=>[]
def fZ:Option aa→List Int
  | some (.r2 _ _ _ _ _ _ _ _ _ _ _ _ _ _ _ _ x _ _)=>x
  | _=>[]
def gg:Option aa→List Int
  | some (.r2 _ _ _ _ _ _ _ _ _ _ _ _ _ _ _ _ _ x _)=>x
  | _=>[]
def gh:Option aa→List Int
  | some (.r2 _ _ _ _ _ _ _ _ _ _ _ _ _ _ _ _ _ _ x)=>x
  | _=>[]
theorem vE{x:Option aa}(h:fk x=true) :x=some (.r2 (cH x) (iy x) (iz x) (iA x) (iB x) (iC x) (dH x) (iD x) (iE x) (iF x) (fT x) (fU x) (fV x) (fW x) (fX x) (fY x) (fZ x) (gg x) (gh x)):=by
  unfold fk at h
  split at h<;>first | rfl | (cases h;done) | (rename_i y;cases y;rfl)
def lS(q:Option aa)(pre:List Bool) :List oU:=[⟨dR (.r0 (cF q) (hX q) (hZ q) (ia q) (ib q) (ic q) (ig q) (ii q) (ij q) (ik q) (fG q) (fH q) (fI q) (fJ q) (fK q) (fL q) (fM q) (fN q) (fO q) (fP q)),pre++[fi q]⟩,
  ⟨dR (.r1 (cG q) (il q) (im q) (io q) (ip q) (iq q) (ir q) (iu q) (iv q) (iw q) (fQ q) (fR q) (fS q) (ly q)),pre++[fj q]⟩,
  ⟨dR (.r2 (cH q) (iy q) (iz q) (iA q) (iB q) (iC q) (dH q) (iD q) (iE q) (iF q) (fT q) (fU q) (fV q) (fW q) (fX q) (fY q) (fZ q) (gg q) (gh q)),pre++[fk q]⟩]
inductive ac where
  | r0 (b22:Bool) (a23:Nat) (a24:Nat) (i25:Int) (i26:Int) (i27:Int) (l28:List Int) (a29:Nat) (i30:Int) (i31:Int) (b32:Bool) (i33:Int) (a34:Nat) (l35:List Int) (l36:List Int) (l37:List Int) (l38:List (List Int)) (l39:List Int) (l40:List Int)
  | r1 (b41:Bool) (a42:Nat) (a43:Nat) (i44:Int) (i45:Int) (b46:Bool) (a47:Nat) (l48:List Int) (l49:List Int) (l50:List Int) (l51:List (List Int)) (l52:List Int) (l53:List Int)
  | r2 (b54:Bool) (a55:Nat) (i56:Int) (i57:Int) (i58:Int) (l59:List Int) (a60:Nat) (i61:Int) (i62:Int) (b63:Bool) (i65:Int) (l66:List Int) (l67:List Int) (l68:List Int) (l69:List (List Int)) (l70:List Int) (l71:List Int)
def kJ:ac→AE×aA
  | .r0 b22 a23 a24 i25 i26 i27 l28 a29 i30 i31 b32 i33 a34 l35 l36 l37 l38 l39 l40=>(.ret,⟨ap 164 [(4,.bool false b22)],[(0,.vs [.sl 1 6 6 0 a23 a24,.int .i64 i25,.int .i64 i26,.int .i64 i27,.imm (.up .free) (.ns .u64 l28) 1 1 0 a29,.int .i64 i30,.int .u64 i31,.bool false b32,.int .i64 i33]),(1,.cols a34 [.ci .i64 l35,.ci .i64 l36,.ci .i64 l37,.cns .u64 l38,.ci .i64 l39,.ci .u64 l40])],2⟩)
  | .r1 b41 a42 a43 i44 i45 b46 a47 l48 l49 l50 l51 l52 l53=>(.ret,⟨ap 164 [(4,.bool false b41)],[(0,.vs [.sl 1 6 6 0 a42 a43,.int .i64 (0:Int),.int .i64 i44,.int .i64 i45,.nsl,.int .i64 (0:Int),.int .u64 (0:Int),.bool false b46,.int .i64 (0:Int)]),(1,.cols a47 [.ci .i64 l48,.ci .i64 l49,.ci .i64 l50,.cns .u64 l51,.ci .i64 l52,.ci .u64 l53])],2⟩)
  | .r2 b54 a55 i56 i57 i58 l59 a60 i61 i62 b63 i65 l66 l67 l68 l69 l70 l71=>(.ret,⟨ap 164 [(4,.bool false b54)],[(0,.vs [.sl 2 6 6 0 a55 a55,.int .i64 i56,.int .i64 i57,.int .i64 i58,.imm (.up .free) (.ns .u64 l59) 1 1 0 a60,.int .i64 i61,.int .u64 i62,.bool false b63,.int .i64 i65]),(2,.cols a55 [.ci .i64 l66,.ci .i64 l67,.ci .i64 l68,.cns .u64 l69,.ci .i64 l70,.ci .u64 l71])],3⟩)
theorem aS:qi kJ:=by intro x;cases x<;>(intro h;cases h)
theorem vF(id:Nat) :rI id kJ:=by intro x;cases x<;>(intro h;cases h)
def dS:ac→mb
  | .r0 b22 a23 a24 i25 i26 i27 l28 a29 i30 i31 b32 i33 a34 l35 l36 l37 l38 l39 l40=>⟨.bool false b22,[some (.vs [.sl 1 6 6 0 a23 a24,.int .i64 i25,.int .i64 i26,.int .i64 i27,.imm (.up .free) (.ns .u64 l28) 1 1 0 a29,.int .i64 i30,.int .u64 i31,.bool false b32,.int .i64 i33]),some (.cols a34 [.ci .i64 l35,.ci .i64 l36,.ci .i64 l37,.cns .u64 l38,.ci .i64 l39,.ci .u64 l40])]⟩
  | .r1 b41 a42 a43 i44 i45 b46 a47 l48 l49 l50 l51 l52 l53=>⟨.bool false b41,[some (.vs [.sl 1 6 6 0 a42 a43,.int .i64 (0:Int),.int .i64 i44,.int .i64 i45,.nsl,.int .i64 (0:Int),.int .u64 (0:Int),.bool false b46,.int .i64 (0:Int)]),some (.cols a47 [.ci .i64 l48,.ci .i64 l49,.ci .i64 l50,.cns .u64 l51,.ci .i64 l52,.ci .u64 l53])]⟩
  | .r2 b54 a55 i56 i57 i58 l59 a60 i61 i62 b63 i65 l66 l67 l68 l69 l70 l71=>⟨.bool false b54,[some (.vs [.sl 2 6 6 0 a55 a55,.int .i64 i56,.int .i64 i57,.int .i64 i58,.imm (.up .free) (.ns .u64 l59) 1 1 0 a60,.int .i64 i61,.int .u64 i62,.bool false b63,.int .i64 i65]),none,some (.cols a55 [.ci .i64 l66,.ci .i64 l67,.ci .i64 l68,.cns .u64 l69,.ci .i64 l70,.ci .u64 l71])]⟩
noncomputable def tZ:List Code:=dn (tA bz)
def vG(n_0:Nat)(c_1:Nat)(i_2:Int)(i_3:Int)(i_4:Int)(w_5:List Int)(i_6:Int)(i_7:Int)(b_8:Bool)(i_9:Int)(n_10:Nat)(l_11:List Int)(l_12:List Int)(l_13:List Int)(l_14:List (List Int))(l_15:List Int)(l_16:List Int)(s_17:ByteArray)(_:Unit) :aA:=⟨ap 164 [(0,.ptr 0 1 0 0),(1,.str s_17)],[(0,.vs [.sl 1 6 6 0 n_0 c_1,.int .i64 i_2,.int .i64 i_3,.int .i64 i_4,.imm (.up .free) (.ns .u64 w_5) 1 1 0 (List.length w_5),.int .i64 i_6,.int .u64 i_7,.bool false b_8,.int .i64 i_9]),(1,.cols n_10 [.ci .i64 l_11,.ci .i64 l_12,.ci .i64 l_13,.cns .u64 l_14,.ci .i64 l_15,.ci .u64 l_16])],2⟩
def ua:T ((Unit)⊕(ac)) :=
  .leaf (.inl ())
def nC(n_0:Nat)(c_1:Nat)(i_2:Int)(i_3:Int)(i_4:Int)(w_5:List Int)(i_6:Int)(i_7:Int)(b_8:Bool)(i_9:Int)(n_10:Nat)(l_11:List Int)(l_12:List Int)(l_13:List Int)(l_14:List (List Int))(l_15:List Int)(l_16:List Int)(s_17:ByteArray)(_:Unit) :aA:=⟨ap 164 [(0,.ptr 0 1 0 0),(1,.str s_17)],[(0,.vs [.sl 1 6 6 0 n_0 c_1,.int .i64 i_2,.int .i64 i_3,.int .i64 i_4,.imm (.up .free) (.ns .u64 w_5) 1 1 0 (List.length w_5),.int .i64 i_6,.int .u64 i_7,.bool false b_8,.int .i64 i_9]),(1,.cols n_10 [.ci .i64 l_11,.ci .i64 l_12,.ci .i64 l_13,.cns .u64 l_14,.ci .i64 l_15,.ci .u64 l_16])],2⟩
noncomputable def jC:List Code:=dn (inBlock ((((tZ.drop 1).take 1)).headD .skip))
def vH(n_0:Nat)(c_1:Nat)(i_2:Int)(i_3:Int)(i_4:Int)(w_5:List Int)(i_6:Int)(i_7:Int)(b_8:Bool)(i_9:Int)(n_10:Nat)(l_11:List Int)(l_12:List Int)(l_13:List Int)(l_14:List (List Int))(l_15:List Int)(l_16:List Int)(s_17:ByteArray)(b1:Bool) :aA:=⟨ap 164 [(0,.ptr 0 1 0 0),(1,.str s_17),(10,.bool false b1)],[(0,.vs [.sl 1 6 6 0 n_0 c_1,.int .i64 i_2,.int .i64 i_3,.int .i64 i_4,.imm (.up .free) (.ns .u64 w_5) 1 1 0 (List.length w_5),.int .i64 i_6,.int .u64 i_7,.bool false b_8,.int .i64 i_9]),(1,.cols n_10 [.ci .i64 l_11,.ci .i64 l_12,.ci .i64 l_13,.cns .u64 l_14,.ci .i64 l_15,.ci .u64 l_16])],2⟩
def ub(b_8:Bool) :T ((Bool)⊕((Unit)⊕(ac))) :=
  .leaf (.inl (!b_8))
def nD(n_0:Nat)(c_1:Nat)(i_2:Int)(i_3:Int)(i_4:Int)(w_5:List Int)(i_6:Int)(i_7:Int)(b_8:Bool)(i_9:Int)(n_10:Nat)(l_11:List Int)(l_12:List Int)(l_13:List Int)(l_14:List (List Int))(l_15:List Int)(l_16:List Int)(s_17:ByteArray)(_:Unit) :aA:=⟨ap 164 [(0,.ptr 0 1 0 0),(1,.str s_17)],[(0,.vs [.sl 1 6 6 0 n_0 c_1,.int .i64 i_2,.int .i64 i_3,.int .i64 i_4,.imm (.up .free) (.ns .u64 w_5) 1 1 0 (List.length w_5),.int .i64 i_6,.int .u64 i_7,.bool false b_8,.int .i64 i_9]),(1,.cols n_10 [.ci .i64 l_11,.ci .i64 l_12,.ci .i64 l_13,.cns .u64 l_14,.ci .i64 l_15,.ci .u64 l_16])],2⟩
def vI(n_0:Nat)(c_1:Nat)(i_2:Int)(i_3:Int)(i_4:Int)(w_5:List Int)(i_6:Int)(i_7:Int)(b_8:Bool)(i_9:Int)(n_10:Nat)(l_11:List Int)(l_12:List Int)(l_13:List Int)(l_14:List (List Int))(l_15:List Int)(l_16:List Int)(s_17:ByteArray) :(List ByteArray)×Nat→aA:=fun (w2,w3)=>⟨ap 164 [(0,.ptr 0 1 0 0),(1,.str s_17),(5,.imm .free (.ss w2) 1 1 0 w3)],[(0,.vs [.sl 1 6 6 0 n_0 c_1,.int .i64 i_2,.int .i64 i_3,.int .i64 i_4,.imm (.up .free) (.ns .u64 w_5) 1 1 0 (List.length w_5),.int .i64 i_6,.int .u64 i_7,.bool false b_8,.int .i64 i_9]),(1,.cols n_10 [.ci .i64 l_11,.ci .i64 l_12,.ci .i64 l_13,.cns .u64 l_14,.ci .i64 l_15,.ci .u64 l_16])],2⟩
def uc(s_17:ByteArray) :T (((List ByteArray)×Nat)⊕((Unit)⊕(ac))) :=
  .need (dQ (bX s_17 (ByteArray.mk #[32])))<|.leaf (.inl ((eu (bX s_17 (ByteArray.mk #[32]))),(er (bX s_17 (ByteArray.mk #[32])))))
def vJ(n_0:Nat)(c_1:Nat)(n_10:Nat)(l_11:List Int)(l_12:List Int)(l_13:List Int)(l_14:List (List Int))(l_15:List Int)(l_16:List Int) :Bool×Int×Int×Bool→aA:=fun (b4,i5,i6,b7)=>⟨ap 164 [(4,.bool false b4)],[(0,.vs [.sl 1 6 6 0 n_0 c_1,.int .i64 (0:Int),.int .i64 i5,.int .i64 i6,.nsl,.int .i64 (0:Int),.int .u64 (0:Int),.bool false b7,.int .i64 (0:Int)]),(1,.cols n_10 [.ci .i64 l_11,.ci .i64 l_12,.ci .i64 l_13,.cns .u64 l_14,.ci .i64 l_15,.ci .u64 l_16])],2⟩
def ud(n_0:Nat)(c_1:Nat)(i_2:Int)(i_3:Int)(i_4:Int)(w_5:List Int)(i_6:Int)(i_7:Int)(b_8:Bool)(i_9:Int)(n_10:Nat)(l_11:List Int)(l_12:List Int)(l_13:List Int)(l_14:List (List Int))(l_15:List Int)(l_16:List Int)(s_17:ByteArray)(w2:List ByteArray)(w3:Nat) :T ((Bool×Int×Int×Bool)⊕((Unit)⊕(ac))) :=
  .ask (((w3:Nat):Int) != (3:Int))
    (.leaf (.inr (.inr (.r0 false n_0 c_1 i_2 i_3 i_4 w_5 (List.length w_5) i_6 i_7 b_8 i_9 n_10 l_11 l_12 l_13 l_14 l_15 l_16))))
    (.need (vR (1:Int) w3)<|.need (mA 1 (List.length w2))<|.need (fw (List.getD w2 1 ByteArray.empty).size)<|.need (vR (2:Int) w3)<|.need (mA 2 (List.length w2))<|.need (fw (List.getD w2 2 ByteArray.empty).size)<|.need (dh (bN (dV (List.getD w2 1 ByteArray.empty))))<|.ask (cX (bN (dV (List.getD w2 1 ByteArray.empty))))
      (.need (dh (bN (dV (List.getD w2 2 ByteArray.empty))))<|.ask (cX (bN (dV (List.getD w2 2 ByteArray.empty))))
        (.need (fy (dy (dV (List.getD w2 1 ByteArray.empty)) (dV (List.getD w2 2 ByteArray.empty))))<|.leaf (.inl (((gN (dy (dV (List.getD w2 1 ByteArray.empty)) (dV (List.getD w2 2 ByteArray.empty)))).toList==s_17.toList),(dV (List.getD w2 1 ByteArray.empty)),(dV (List.getD w2 2 ByteArray.empty)),true)))
        (.leaf (.inl (false,(dV (List.getD w2 1 ByteArray.empty)),(dV (List.getD w2 2 ByteArray.empty)),true))))
      (.leaf (.inl (false,(dV (List.getD w2 1 ByteArray.empty)),(dV (List.getD w2 2 ByteArray.empty)),true))))
def ue(n_0:Nat)(c_1:Nat)(n_10:Nat)(l_11:List Int)(l_12:List Int)(l_13:List Int)(l_14:List (List Int))(l_15:List Int)(l_16:List Int)(b4:Bool)(i5:Int)(i6:Int)(b7:Bool) :T ((Unit)⊕((Unit)⊕(ac))) :=
  .leaf (.inr (.inr (.r1 b4 n_0 c_1 i5 i6 b7 n_10 l_11 l_12 l_13 l_14 l_15 l_16)))
def vK(n_0:Nat)(c_1:Nat)(i_2:Int)(i_3:Int)(i_4:Int)(w_5:List Int)(i_6:Int)(i_7:Int)(b_8:Bool)(i_9:Int)(n_10:Nat)(l_11:List Int)(l_12:List Int)(l_13:List Int)(l_14:List (List Int))(l_15:List Int)(l_16:List Int)(s_17:ByteArray)(b8:Bool) :aA:=⟨ap 164 [(0,.ptr 0 1 0 0),(1,.str s_17),(68,.bool false b8)],[(0,.vs [.sl 1 6 6 0 n_0 c_1,.int .i64 i_2,.int .i64 i_3,.int .i64 i_4,.imm (.up .free) (.ns .u64 w_5) 1 1 0 (List.length w_5),.int .i64 i_6,.int .u64 i_7,.bool false b_8,.int .i64 i_9]),(1,.cols n_10 [.ci .i64 l_11,.ci .i64 l_12,.ci .i64 l_13,.cns .u64 l_14,.ci .i64 l_15,.ci .u64 l_16])],2⟩
def uf(i_3:Int)(i_4:Int)(i_9:Int) :T ((Bool)⊕((Unit)⊕(ac))) :=
  .ask (decide (i_9<i_3))
    (.leaf (.inl (decide (i_4>(0:Int)))))
    (.leaf (.inl false))
def ug(s_17:ByteArray)(b8:Bool) :T ((Unit)⊕((Unit)⊕(ac))) :=
  .ask b8
    (.alt 0
      (.need (kT s_17)<|.need (fw s_17.size)<|.fail)
      (.alt 1
        (.need (!kT s_17)<|.need (fw s_17.size)<|.fail)
        (.fail)))
    (.leaf (.inl ()))
def uh:T ((Unit)⊕((Unit)⊕(ac))) :=
  .leaf (.inl ())
def vL(n_0:Nat)(c_1:Nat)(i_2:Int)(i_3:Int)(i_4:Int)(w_5:List Int)(i_6:Int)(i_7:Int)(b_8:Bool)(i_9:Int)(n_10:Nat)(l_11:List Int)(l_12:List Int)(l_13:List Int)(l_14:List (List Int))(l_15:List Int)(l_16:List Int) :Nat×Int×Int×Int→aA:=fun (e9,i10,i11,i12)=>⟨ap 164 [(0,.ptr 0 1 0 0),(8,.ptr 2 1 0 0),(9,.int .i64 ((e9:Nat):Int))],[(0,.vs [.sl 1 6 6 0 n_0 c_1,.int .i64 i_2,.int .i64 i_3,.int .i64 i_4,.imm (.up .free) (.ns .u64 w_5) 1 1 0 (List.length w_5),.int .i64 i_6,.int .u64 i_7,.bool false b_8,.int .i64 i_9]),(1,.cols n_10 [.ci .i64 l_11,.ci .i64 l_12,.ci .i64 l_13,.cns .u64 l_14,.ci .i64 l_15,.ci .u64 l_16]),(2,.vs [.int .i64 i10,.int .i64 (0:Int),.int .i64 (0:Int),.nsl,.int .i64 i11,.int .u64 i12])],3⟩
def ui(s_17:ByteArray) :T ((Nat×Int×Int×Int)⊕(ac)) :=
  .need (dP (aW s_17))<|.leaf (.inl ((eh (aW s_17)),(ei (aW s_17)),(ek (aW s_17)),(em (aW s_17))))
def uj(i_2:Int)(i_3:Int)(i_4:Int)(w_5:List Int)(i_6:Int)(i_7:Int)(i_9:Int) :Bool×Nat×Bool×(List Int)×(List Int)×(List Int)×(List (List Int))×(List Int)×(List Int)→aA:=fun (b13,a14,b15,l16,l17,l18,l19,l20,l21)=>⟨ap 164 [(4,.bool false b13)],[(0,.vs [.sl 2 6 6 0 a14 a14,.int .i64 i_2,.int .i64 i_3,.int .i64 i_4,.imm (.up .free) (.ns .u64 w_5) 1 1 0 (List.length w_5),.int .i64 i_6,.int .u64 i_7,.bool false b15,.int .i64 i_9]),(2,.cols a14 [.ci .i64 l16,.ci .i64 l17,.ci .i64 l18,.cns .u64 l19,.ci .i64 l20,.ci .u64 l21])],3⟩
def uk(n_0:Nat)(i_3:Int)(i_4:Int)(w_5:List Int)(n_10:Nat)(l_11:List Int)(l_12:List Int)(l_13:List Int)(l_14:List (List Int))(l_15:List Int)(l_16:List Int)(e9:Nat)(i10:Int)(i11:Int)(i12:Int) :T ((Bool×Nat×Bool×(List Int)×(List Int)×(List Int)×(List (List Int))×(List Int)×(List Int))⊕(ac)) :=
  .need (gK ((n_0+1)*64) 140737488355328)<|.need (gK (n_0+1) 9223372036854775807)<|.need (gK 6 6)<|.need (gK n_0 n_10)<|.need (decide (0+(List.length w_5)≤List.length w_5))<|.ask (((e9:Nat):Int)==(0:Int))
    (.need (lG 0 (List.length w_5) w_5)<|.need (eT (cQ i10 i_3 i_4 (cW 0 (List.length w_5) w_5) i11 i12))<|.leaf (.inl ((eF (cQ i10 i_3 i_4 (cW 0 (List.length w_5) w_5) i11 i12)),(n_0+1),false,((List.take n_0 l_11)++[i10]),((List.take n_0 l_12)++[i_3]),((List.take n_0 l_13)++[i_4]),((List.take n_0 l_14)++[(List.take (List.length w_5) (List.drop 0 w_5))]),((List.take n_0 l_15)++[i11]),((List.take n_0 l_16)++[i12]))))
    (.leaf (.inl (false,(n_0+1),false,((List.take n_0 l_11)++[i10]),((List.take n_0 l_12)++[i_3]),((List.take n_0 l_13)++[i_4]),((List.take n_0 l_14)++[(List.take (List.length w_5) (List.drop 0 w_5))]),((List.take n_0 l_15)++[i11]),((List.take n_0 l_16)++[i12]))))
def ul(i_2:Int)(i_3:Int)(i_4:Int)(w_5:List Int)(i_6:Int)(i_7:Int)(i_9:Int)(b13:Bool)(a14:Nat)(b15:Bool)(l16:List Int)(l17:List Int)(l18:List Int)(l19:List (List Int))(l20:List Int)(l21:List Int) :T ((Empty)⊕(ac)) :=
  .leaf (.inr (.r2 b13 a14 i_2 i_3 i_4 w_5 (List.length w_5) i_6 i_7 b15 i_9 l16 l17 l18 l19 l20 l21))
noncomputable def kK(n_0:Nat)(c_1:Nat)(i_2:Int)(i_3:Int)(i_4:Int)(w_5:List Int)(i_6:Int)(i_7:Int)(b_8:Bool)(i_9:Int)(n_10:Nat)(l_11:List Int)(l_12:List Int)(l_13:List Int)(l_14:List (List Int))(l_15:List Int)(l_16:List Int)(s_17:ByteArray) :Option ac:=uZ (bg ((ua).run) fun _ =>
  bg (sB (bg ((ub b_8).run) fun b1 =>
  bg ((bif b1 then bg ((uc s_17).run) fun (w2,w3) =>
  bg ((ud n_0 c_1 i_2 i_3 i_4 w_5 i_6 i_7 b_8 i_9 n_10 l_11 l_12 l_13 l_14 l_15 l_16 s_17 w2 w3).run) fun (b4,i5,i6,b7) =>
  (ue n_0 c_1 n_10 l_11 l_12 l_13 l_14 l_15 l_16 b4 i5 i6 b7).run else bg ((uf i_3 i_4 i_9).run) fun b8 =>
  (ug s_17 b8).run)) fun _ =>
  (uh).run)) fun _ =>
  bg ((ui s_17).run) fun (e9,i10,i11,i12) =>
  bg ((uk n_0 i_3 i_4 w_5 n_10 l_11 l_12 l_13 l_14 l_15 l_16 e9 i10 i11 i12).run) fun (b13,a14,b15,l16,l17,l18,l19,l20,l21) =>
  (ul i_2 i_3 i_4 w_5 i_6 i_7 i_9 b13 a14 b15 l16 l17 l18 l19 l20 l21).run)
theorem ke(n_0:Nat)(c_1:Nat)(i_2:Int)(i_3:Int)(i_4:Int)(w_5:List Int)(i_6:Int)(i_7:Int)(b_8:Bool)(i_9:Int)(n_10:Nat)(l_11:List Int)(l_12:List Int)(l_13:List Int)(l_14:List (List Int))(l_15:List Int)(l_16:List Int)(s_17:ByteArray){x:ac}(h:kK n_0 c_1 i_2 i_3 i_4 w_5 i_6 i_7 b_8 i_9 n_10 l_11 l_12 l_13 l_14 l_15 l_16 s_17=some x) :am prog bz [.vs [.sl 1 6 6 0 n_0 c_1,.int .i64 i_2,.int .i64 i_3,.int .i64 i_4,.imm (.up .free) (.ns .u64 w_5) 1 1 0 (List.length w_5),.int .i64 i_6,.int .u64 i_7,.bool false b_8,.int .i64 i_9],.cols n_10 [.ci .i64 l_11,.ci .i64 l_12,.ci .i64 l_13,.cns .u64 l_14,.ci .i64 l_15,.ci .u64 l_16]] [.ptr 0 1 0 0,.str s_17] (dS x) :=
  yB false dS kJ h (Sg.cut 1 aS (cN ao (vG n_0 c_1 i_2 i_3 i_4 w_5 i_6 i_7 b_8 i_9 n_10 l_11 l_12 l_13 l_14 l_15 l_16 s_17) [⟨[],[0,1],[0,1]⟩]) (fun _=>Sg.cut 1 aS (Lx (nC n_0 c_1 i_2 i_3 i_4 w_5 i_6 i_7 b_8 i_9 n_10 l_11 l_12 l_13 l_14 l_15 l_16 s_17) 0 aS (vF _) (Sg.cut 1 (dc aS) (cN ao (vH n_0 c_1 i_2 i_3 i_4 w_5 i_6 i_7 b_8 i_9 n_10 l_11 l_12 l_13 l_14 l_15 l_16 s_17) [⟨[],[0,1],[0,1,10]⟩]) (fun b1=>Sg.cut 1 (dc aS) (wx (c:=.tmp 10) (kn:=false) (b:=b1) (by kernel_rfl:((jC.drop 1).take 1)=[.cond (.tmp 10) (Fu ((((jC.drop 1).take 1)).headD .skip)) (Fv ((((jC.drop 1).take 1)).headD .skip))]) (dc aS) (by kernel_rfl) (Sg.cut 1 (dc aS) (cN ao (vI n_0 c_1 i_2 i_3 i_4 w_5 i_6 i_7 b_8 i_9 n_10 l_11 l_12 l_13 l_14 l_15 l_16 s_17) [⟨[],[0,1],[0,1,5]⟩]) (fun ⟨w2,w3⟩=>Sg.cut 4 (dc aS) (cN ao (vJ n_0 c_1 n_10 l_11 l_12 l_13 l_14 l_15 l_16) [⟨[],[0,1],[4]⟩,⟨[],[0,1],[4]⟩,⟨[],[0,1],[4]⟩,⟨[],[0,1],[4]⟩]) (fun ⟨b4,i5,i6,b7⟩=>cN ao (nD n_0 c_1 i_2 i_3 i_4 w_5 i_6 i_7 b_8 i_9 n_10 l_11 l_12 l_13 l_14 l_15 l_16 s_17) [⟨[],[0,1],[4]⟩]))) (Sg.cut 1 (dc aS) (cN ao (vK n_0 c_1 i_2 i_3 i_4 w_5 i_6 i_7 b_8 i_9 n_10 l_11 l_12 l_13 l_14 l_15 l_16 s_17) [⟨[],[0,1],[0,1,68]⟩,⟨[],[0,1],[0,1,68]⟩]) (fun b8=>cN ao (nD n_0 c_1 i_2 i_3 i_4 w_5 i_6 i_7 b_8 i_9 n_10 l_11 l_12 l_13 l_14 l_15 l_16 s_17) [⟨[],[0,1],[0,1]⟩]))) (fun _=>cN ao (nC n_0 c_1 i_2 i_3 i_4 w_5 i_6 i_7 b_8 i_9 n_10 l_11 l_12 l_13 l_14 l_15 l_16 s_17) [⟨[],[0,1],[0,1]⟩])))) (fun _=>Sg.cut 1 aS (cN ao (vL n_0 c_1 i_2 i_3 i_4 w_5 i_6 i_7 b_8 i_9 n_10 l_11 l_12 l_13 l_14 l_15 l_16) [⟨[],[0,1,82],[0,8,9]⟩]) (fun ⟨e9,i10,i11,i12⟩=>Sg.cut 3 aS (cN ao (uj i_2 i_3 i_4 w_5 i_6 i_7 i_9) [⟨[],[0,1,467],[4]⟩,⟨[],[0,1,467],[4]⟩]) (fun ⟨b13,a14,b15,l16,l17,l18,l19,l20,l21⟩=>cN ao vS [⟨[],[0,1,2],[4]⟩])))))
    (fun x=>by cases x with | r0 b22 a23 a24 i25 i26 i27 l28 a29 i30 i31 b32 i33 a34 l35 l36 l37 l38 l39 l40=>exact qj [.bool false b22] | r1 b41 a42 a43 i44 i45 b46 a47 l48 l49 l50 l51 l52 l53=>exact qj [.bool false b41] | r2 b54 a55 i56 i57 i58 l59 a60 i61 i62 b63 i65 l66 l67 l68 l69 l70 l71=>exact qj [.bool false b54])
def fm:Option ac→Bool
  | some (.r0 _ _ _ _ _ _ _ _ _ _ _ _ _ _ _ _ _ _ _)=>true
  | _=>false
def cJ:Option ac→Bool
  | some (.r0 x _ _ _ _ _ _ _ _ _ _ _ _ _ _ _ _ _ _)=>x
  | _=>false
def iG:Option ac→Nat
  | some (.r0 _ x _ _ _ _ _ _ _ _ _ _ _ _ _ _ _ _ _)=>x
  | _=>0
def iH:Option ac→Nat
  | some (.r0 _ _ x _ _ _ _ _ _ _ _ _ _ _ _ _ _ _ _)=>x
  | _=>0
def iI:Option ac→Int
  | some (.r0 _ _ _ x _ _ _ _ _ _ _ _ _ _ _ _ _ _ _)=>x
  | _=>0
def iJ:Option ac→Int
  | some (.r0 _ _ _ _ x _ _ _ _ _ _ _ _ _ _ _ _ _ _)=>x
  | _=>0
def iK:Option ac→Int
  | some (.r0 _ _ _ _ _ x _ _ _ _ _ _ _ _ _ _ _ _ _)=>x
  | _=>0
def iL:Option ac→List Int
  | some (.r0 _ _ _ _ _ _ x _ _ _ _ _ _ _ _ _ _ _ _)=>x
  | _=>[]
def iM:Option ac→Nat
  | some (.r0 _ _ _ _ _ _ _ x _ _ _ _ _ _ _ _ _ _ _)=>x
  | _=>0
def iN:Option ac→Int
  | some (.r0 _ _ _ _ _ _ _ _ x _ _ _ _ _ _ _ _ _ _)=>x
  | _=>0
def iO:Option ac→Int
  | some (.r0 _ _ _ _ _ _ _ _ _ x _ _ _ _ _ _ _ _ _)=>x
  | _=>0
def gi:Option ac→Bool
  | some (.r0 _ _ _ _ _ _ _ _ _ _ x _ _ _ _ _ _ _ _)=>x
  | _=>false
def gj:Option ac→Int
  | some (.r0 _ _ _ _ _ _ _ _ _ _ _ x _ _ _ _ _ _ _)=>x
  | _=>0
def gk:Option ac→Nat
  | some (.r0 _ _ _ _ _ _ _ _ _ _ _ _ x _ _ _ _ _ _)=>x
  | _=>0
def gl:Option ac→List Int
  | some (.r0 _ _ _ _ _ _ _ _ _ _ _ _ _ x _ _ _ _ _)=>x
  | _=>[]
def gn:Option ac→List Int
  | some (.r0 _ _ _ _ _ _ _ _ _ _ _ _ _ _ x _ _ _ _)=>x
  | _=>[]
def gp:Option ac→List Int
  | some (.r0 _ _ _ _ _ _ _ _ _ _ _ _ _ _ _ x _ _ _)=>x
  | _=>[]
def gq:Option ac→List (List Int)
  | some (.r0 _ _ _ _ _ _ _ _ _ _ _ _ _ _ _ _ x _ _)=>x
  | _=>[]
def gr:Option ac→List Int
  | some (.r0 _ _ _ _ _ _ _ _ _ _ _ _ _ _ _ _ _ x _)=>x
  | _=>[]
def gu:Option ac→List Int
  | some (.r0 _ _ _ _ _ _ _ _ _ _ _ _ _ _ _ _ _ _ x)=>x
  | _=>[]
theorem vM{x:Option ac}(h:fm x=true) :x=some (.r0 (cJ x) (iG x) (iH x) (iI x) (iJ x) (iK x) (iL x) (iM x) (iN x) (iO x) (gi x) (gj x) (gk x) (gl x) (gn x) (gp x) (gq x) (gr x) (gu x)):=by
  unfold fm at h
  split at h<;>first | rfl | (cases h;done) | (rename_i y;cases y;rfl)
def fo:Option ac→Bool
  | some (.r1 _ _ _ _ _ _ _ _ _ _ _ _ _)=>true
  | _=>false
def cK:Option ac→Bool
  | some (.r1 x _ _ _ _ _ _ _ _ _ _ _ _)=>x
  | _=>false
def iP:Option ac→Nat
  | some (.r1 _ x _ _ _ _ _ _ _ _ _ _ _)=>x
  | _=>0
def iQ:Option ac→Nat
  | some (.r1 _ _ x _ _ _ _ _ _ _ _ _ _)=>x
  | _=>0
def iR:Option ac→Int
  | some (.r1 _ _ _ x _ _ _ _ _ _ _ _ _)=>x
  | _=>0
def iS:Option ac→Int
  | some (.r1 _ _ _ _ x _ _ _ _ _ _ _ _)=>x
  | _=>0
def iT:Option ac→Bool
  | some (.r1 _ _ _ _ _ x _ _ _ _ _ _ _)=>x
  | _=>false
def iU:Option ac→Nat
  | some (.r1 _ _ _ _ _ _ x _ _ _ _ _ _)=>x
  | _=>0
def iV:Option ac→List Int
  | some (.r1 _ _ _ _ _ _ _ x _ _ _ _ _)=>x
  | _=>[]
def iW:Option ac→List Int
  | some (.r1 _ _ _ _ _ _ _ _ x _ _ _ _)=>x
  | _=>[]
def iX:Option ac→List Int
  | some (.r1 _ _ _ _ _ _ _ _ _ x _ _ _)=>x
  | _=>[]
def gv:Option ac→List (List Int)
  | some (.r1 _ _ _ _ _ _ _ _ _ _ x _ _)=>x
  | _=>[]
def gw:Option ac→List Int
  | some (.r1 _ _ _ _ _ _ _ _ _ _ _ x _)=>x
  | _=>[]
def gz:Option ac→List Int
  | some (.r1 _ _ _ _ _ _ _ _ _ _ _ _ x)=>x
  | _=>[]
theorem vN{x:Option ac}(h:fo x=true) :x=some (.r1 (cK x) (iP x) (iQ x) (iR x) (iS x) (iT x) (iU x) (iV x) (iW x) (iX x) (gv x) (gw x) (gz x)):=by
  unfold fo at h
  split at h<;>first | rfl | (cases h;done) | (rename_i y;cases y;rfl)
def fp:Option ac→Bool
  | some (.r2 _ _ _ _ _ _ _ _ _ _ _ _ _ _ _ _ _)=>true
  | _=>false
def cL:Option ac→Bool
  | some (.r2 x _ _ _ _ _ _ _ _ _ _ _ _ _ _ _ _)=>x
  | _=>false
def cM:Option ac→Nat
  | some (.r2 _ x _ _ _ _ _ _ _ _ _ _ _ _ _ _ _)=>x
  | _=>0
def iY:Option ac→Int
  | some (.r2 _ _ x _ _ _ _ _ _ _ _ _ _ _ _ _ _)=>x
  | _=>0
def iZ:Option ac→Int
  | some (.r2 _ _ _ x _ _ _ _ _ _ _ _ _ _ _ _ _)=>x
  | _=>0
def ja:Option ac→Int
  | some (.r2 _ _ _ _ x _ _ _ _ _ _ _ _ _ _ _ _)=>x
  | _=>0
def jb:Option ac→List Int
  | some (.r2 _ _ _ _ _ x _ _ _ _ _ _ _ _ _ _ _)=>x
  | _=>[]
def jc:Option ac→Nat
  | some (.r2 _ _ _ _ _ _ x _ _ _ _ _ _ _ _ _ _)=>x
  | _=>0
def jd:Option ac→Int
  | some (.r2 _ _ _ _ _ _ _ x _ _ _ _ _ _ _ _ _)=>x
  | _=>0
def je:Option ac→Int
  | some (.r2 _ _ _ _ _ _ _ _ x _ _ _ _ _ _ _ _)=>x
  | _=>0
def jf:Option ac→Bool
  | some (.r2 _ _ _ _ _ _ _ _ _ x _ _ _ _ _ _ _)=>x
  | _=>false
def gA:Option ac→Int
  | some (.r2 _ _ _ _ _ _ _ _ _ _ x _ _ _ _ _ _)=>x
  | _=>0
def gB:Option ac→List Int
  | some (.r2 _ _ _ _ _ _ _ _ _ _ _ x _ _ _ _ _)=>x
  | _=>[]
def gC:Option ac→List Int
  | some (.r2 _ _ _ _ _ _ _ _ _ _ _ _ x _ _ _ _)=>x
  | _=>[]
def gD:Option ac→List Int
  | some (.r2 _ _ _ _ _ _ _ _ _ _ _ _ _ x _ _ _)=>x
  | _=>[]
def gE:Option ac→List (List Int)
  | some (.r2 _ _ _ _ _ _ _ _ _ _ _ _ _ _ x _ _)=>x
  | _=>[]
def gF:Option ac→List Int
  | some (.r2 _ _ _ _ _ _ _ _ _ _ _ _ _ _ _ x _)=>x
  | _=>[]
def gG:Option ac→List Int
  | some (.r2 _ _ _ _ _ _ _ _ _ _ _ _ _ _ _ _ x)=>x
  | _=>[]
theorem vO{x:Option ac}(h:fp x=true) :x=some (.r2 (cL x) (cM x) (iY x) (iZ x) (ja x) (jb x) (jc x) (jd x) (je x) (jf x) (gA x) (gB x) (gC x) (gD x) (gE x) (gF x) (gG x)):=by
  unfold fp at h
  split at h<;>first | rfl | (cases h;done) | (rename_i y;cases y;rfl)
def lT(q:Option ac)(pre:List Bool) :List oU:=[⟨dS (.r0 (cJ q) (iG q) (iH q) (iI q) (iJ q) (iK q) (iL q) (iM q) (iN q) (iO q) (gi q) (gj q) (gk q) (gl q) (gn q) (gp q) (gq q) (gr q) (gu q)),pre++[fm q]⟩,
  ⟨dS (.r1 (cK q) (iP q) (iQ q) (iR q) (iS q) (iT q) (iU q) (iV q) (iW q) (iX q) (gv q) (gw q) (gz q)),pre++[fo q]⟩,
  ⟨dS (.r2 (cL q) (cM q) (iY q) (iZ q) (ja q) (jb q) (jc q) (jd q) (je q) (jf q) (gA q) (gB q) (gC q) (gD q) (gE q) (gF q) (gG q)),pre++[fp q]⟩]
def FP:aH:=⟨bz,fun lent args=>match args with
  | [.ptr 0 1 0 0,.str s]=>match lent with
    | [.vs [.sl 1 6 6 0 n c,.int .i64 k,.int .i64 m,.int .i64 nn,.imm (.up .free) (.ns .u64 w) 1 1 0 nw,.int .i64 y,.int .u64 t,.bool false on,.int .i64 row],.cols nc [.ci .i64 ks,.ci .i64 ms,.ci .i64 ns,.cns .u64 wss,.ci .i64 ys,.ci .u64 ts]] =>
      some (lT (kK n c k m nn w y t on row nc ks ms ns wss ys ts s) [Nat.beq nw w.length])
    | [.vs [.sl 1 6 6 0 n c,.int .i64 k,.int .i64 m,.int .i64 nn,.sl 2 1 1 0 nw cw,.int .i64 y,.int .u64 t,.bool false on,.int .i64 row],.cols nc [.ci .i64 ks,.ci .i64 ms,.ci .i64 ns,.cns .u64 wss,.ci .i64 ys,.ci .u64 ts],.ns .u64 ws] =>
      some (lS (kI n c k m nn nw cw y t on row nc ks ms ns wss ys ts ws s) [])
    | _=>none
  | _=>none⟩
theorem Hu:aL prog FP:=by
  intro lent args alts a h ha ho
  simp only [FP] at h
  split at h
  · rename_i s
    split at h
    · rename_i n c k m nn w nw y t on row nc ks ms ns wss ys ts
      cases h
      simp only [lT,List.mem_cons,List.not_mem_nil,or_false] at ha
      rcases ha with rfl | rfl | rfl
      all_goals
        have e:=Nat.eq_of_beq_eq_true ho.1
        subst e
      · exact ke n c k m nn w y t on row nc ks ms ns wss ys ts s (vM ho.2.1)
      · exact ke n c k m nn w y t on row nc ks ms ns wss ys ts s (vN ho.2.1)
      · exact ke n c k m nn w y t on row nc ks ms ns wss ys ts s (vO ho.2.1)
    · rename_i n c k m nn nw cw y t on row nc ks ms ns wss ys ts ws
      cases h
      simp only [lS,List.mem_cons,List.not_mem_nil,or_false,List.nil_append] at ha
      rcases ha with rfl | rfl | rfl
      · exact kb n c k m nn nw cw y t on row nc ks ms ns wss ys ts ws s (vC ho.1)
      · exact kb n c k m nn nw cw y t on row nc ks ms ns wss ys ts ws s (vD ho.1)
      · exact kb n c k m nn nw cw y t on row nc ks ms ns wss ys ts ws s (vE ho.1)
    · cases h
  · cases h
def LH:List aH:=FP::od
theorem um:aZ prog (bf LH):=aq Hu ao
structure RS where
  nl:Nat
  cl:Nat
  k:Int
  m:Int
  nn:Int
  y:Int
  t:Int
  on:Bool
  row:Int
  nc:Nat
  ks:List Int
  ms:List Int
  ns:List Int
  wss:List (List Int)
  ys:List Int
  ts:List Int
inductive IV where
  | off (s:ByteArray) (n:Int) (b:Bool) (r:RS) (w:List Int) (nw:Nat)
  | on (s:ByteArray) (n:Int) (b:Bool) (r:RS) (nw cw:Nat) (ws:List Int)
def K4(r:RS)(W:AV) :aj:=.vs [.sl 1 6 6 0 r.nl r.cl,.int .i64 r.k,.int .i64 r.m,.int .i64 r.nn,W,.int .i64 r.y,.int .u64 r.t,.bool false r.on,.int .i64 r.row]
def Kn(r:RS) :aj:=.cols r.nc [.ci .i64 r.ks,.ci .i64 r.ms,.ci .i64 r.ns,.cns .u64 r.wss,.ci .i64 r.ys,.ci .u64 r.ts]
def pI:IV→aA
  | .off s n b r w nw=>⟨ap 49 [(5,.ptr 0 1 0 0),(6,.int .i64 n),(7,.bool false b),(8,.str s)],[(0,K4 r (.imm .free (.ns .u64 w) 1 1 0 nw)),(1,Kn r)],2⟩
  | .on s n b r nw cw ws=>⟨ap 49 [(5,.ptr 0 1 0 0),(6,.int .i64 n),(7,.bool false b),(8,.str s)],[(0,K4 r (.sl 2 1 1 0 nw cw)),(1,Kn r),(2,.ns .u64 ws)],3⟩
def IW:List Code:=dn (Gu (((dn (tA jS)).drop 1).headD .skip))
def JW:List Code:=(IW.drop 5).take 1
def ED:List Code:=dn (mH (JW.headD .skip))
inductive BC where
  | bad (n:Int) (b:Bool)
  | doff (n:Int) (b:Bool) (r:RS) (w:List Int) (nw:Nat)
  | don (n:Int) (b:Bool) (r:RS)
def pJ:BC→aA
  | .bad n b=>⟨ap 49 [(6,.int .i64 n),(7,.bool false b)],[],0⟩
  | .doff n b r w nw=>⟨ap 49 [(5,.ptr 0 1 0 0),(6,.int .i64 n),(7,.bool false b)],[(0,K4 r (.imm .free (.ns .u64 w) 1 1 0 nw)),(1,Kn r)],2⟩
  | .don n b r=>⟨ap 49 [(5,.ptr 0 1 0 0),(6,.int .i64 n),(7,.bool false b)],[(0,K4 r .any),(1,Kn r)],2⟩
inductive an where
  | fail (n e:Int)
  | ok (r:RS)
def cr:an→AE×aA
  | .fail n e=>(.ret,⟨ap 49 [(2,.nsl),(3,.int .i64 n),(4,.int .i64 e)],[],0⟩)
  | .ok r=>(.ret,⟨ap 49 [(2,.sl 0 6 6 0 r.nl r.cl),(3,.int .i64 (0:Int)),(4,.int .i64 (0:Int))],[(0,Kn r)],1⟩)
theorem eN:qi cr:=by intro x;cases x<;>(intro h;cases h)
theorem yj(id:Nat) :rI id cr:=by intro x;cases x<;>(intro h;cases h)
def mV:an→mb
  | .fail n e=>⟨.tup [.nsl,.int .i64 n,.int .i64 e],[]⟩
  | .ok r=>⟨.tup [.imm .free (Kn r) 6 6 0 r.nl,.int .i64 (0:Int),.int .i64 (0:Int)],[]⟩
def Ko(n:Int)(c:Option aU)(w:List Int)(nw:Nat)(q:Option ac) :T (IV⊕(BC⊕an)) :=
        (.alt 0 (.need (Nat.beq nw w.length)<|.need (fm q)<|.ask (!(cJ q)) (.leaf (.inr (.inl (.bad n (cJ q))))) (.need (kp .i64 (n+(1:Int)))<|.leaf (.inl (.off (bM c) (n+(1:Int)) (cJ q) ⟨(iG q),(iH q),(iI q),(iJ q),(iK q),(iN q),(iO q),(gi q),(gj q),(gk q),(gl q),(gn q),(gp q),(gq q),(gr q),(gu q)⟩ (iL q) (iM q)))))
        (.alt 1 (.need (Nat.beq nw w.length)<|.need (fo q)<|.ask (!(cK q)) (.leaf (.inr (.inl (.bad n (cK q))))) (.need (kp .i64 (n+(1:Int)))<|.leaf (.inl (.on (bM c) (n+(1:Int)) (cK q) ⟨(iP q),(iQ q),(0:Int),(iR q),(iS q),(0:Int),(0:Int),(iT q),(0:Int),(iU q),(iV q),(iW q),(iX q),(gv q),(gw q),(gz q)⟩ 0 0 []))))
        (.alt 2 (.need (Nat.beq nw w.length)<|.need (fp q)<|.ask (!(cL q)) (.leaf (.inr (.inl (.bad n (cL q))))) (.need (kp .i64 (n+(1:Int)))<|.leaf (.inl (.off (bM c) (n+(1:Int)) (cL q) ⟨(cM q),(cM q),(iY q),(iZ q),(ja q),(jd q),(je q),(jf q),(gA q),(cM q),(gB q),(gC q),(gD q),(gE q),(gF q),(gG q)⟩ (jb q) (jc q)))))
        .fail)))
def Kp(s:ByteArray)(n:Int)(b:Bool)(r:RS)(w:List Int)(nw:Nat)(c:Option aU) :T (IV⊕(BC⊕an)) :=
  .ask (!(s.toList==(ByteArray.mk #[]).toList))
    (.need (fF c)<|.ask (gW c)
      (Ko n c w nw (kK r.nl r.cl r.k r.m r.nn w r.y r.t r.on r.row r.nc r.ks r.ms r.ns r.wss r.ys r.ts (gV c)))
      (.leaf (.inr (.inl (.bad n false)))))
    (.leaf (.inr (.inl (.doff n b r w nw))))
def EE(s:ByteArray)(n:Int)(b:Bool)(r:RS)(w:List Int)(nw:Nat) :T (IV⊕(BC⊕an)):=Kp s n b r w nw (kY s (ByteArray.mk #[10]))
def KQ(n:Int)(c:Option aU)(q:Option aa) :T (IV⊕(BC⊕an)) :=
        (.alt 0 (.need (fi q)<|.ask (!(cF q)) (.leaf (.inr (.inl (.bad n (cF q))))) (.need (kp .i64 (n+(1:Int)))<|.leaf (.inl (.on (bM c) (n+(1:Int)) (cF q) ⟨(hX q),(hZ q),(ia q),(ib q),(ic q),(ij q),(ik q),(fG q),(fH q),(fI q),(fJ q),(fK q),(fL q),(fM q),(fN q),(fO q)⟩ (ig q) (ii q) (fP q)))))
        (.alt 1 (.need (fj q)<|.ask (!(cG q)) (.leaf (.inr (.inl (.bad n (cG q))))) (.need (kp .i64 (n+(1:Int)))<|.leaf (.inl (.on (bM c) (n+(1:Int)) (cG q) ⟨(il q),(im q),(0:Int),(io q),(ip q),(0:Int),(0:Int),(iq q),(0:Int),(ir q),(iu q),(iv q),(iw q),(fQ q),(fR q),(fS q)⟩ 0 0 []))))
        (.alt 2 (.need (fk q)<|.ask (!(cH q)) (.leaf (.inr (.inl (.bad n (cH q))))) (.need (kp .i64 (n+(1:Int)))<|.leaf (.inl (.on (bM c) (n+(1:Int)) (cH q) ⟨(iy q),(iz q),(iA q),(iB q),(iC q),(iD q),(iE q),(iF q),(fT q),(fU q),(fV q),(fW q),(fX q),(fY q),(fZ q),(gg q)⟩ (dH q) (dH q) (gh q)))))
        .fail)))
def KR(s:ByteArray)(n:Int)(b:Bool)(r:RS)(nw cw:Nat)(ws:List Int)(c:Option aU) :T (IV⊕(BC⊕an)) :=
  .ask (!(s.toList==(ByteArray.mk #[]).toList))
    (.need (fF c)<|.ask (gW c)
      (KQ n c (kI r.nl r.cl r.k r.m r.nn nw cw r.y r.t r.on r.row r.nc r.ks r.ms r.ns r.wss r.ys r.ts ws (gV c)))
      (.leaf (.inr (.inl (.bad n false)))))
    (.leaf (.inr (.inl (.don n b r))))
def Kq(s:ByteArray)(n:Int)(b:Bool)(r:RS)(nw cw:Nat)(ws:List Int) :T (IV⊕(BC⊕an)):=KR s n b r nw cw ws (kY s (ByteArray.mk #[10]))
def pB:IV→Option (IV⊕(BC⊕an))
  | .off s n b r w nw=>(EE s n b r w nw).run
  | .on s n b r nw cw ws=>bif decide (r.row<r.m)&&decide (0<r.nn) then (Kq s n b r nw cw ws).run else (EE s n b r ws nw).run
def KS:RS:=⟨0,0,(0:Int),(0:Int),(0:Int),(0:Int),(0:Int),false,(0:Int),0,[],[],[],[],[],[]⟩
def Lz:T (Unit⊕an):=.leaf (.inl ())
def LA(s:ByteArray) :T (IV⊕an) :=
  .ask (decide (((s.size:Nat):Int)>(8388608:Int)))
    (.leaf (.inr (.fail (0:Int) (3:Int))))
    (.leaf (.inl (.off s (0:Int) true KS [] 0)))
def Dj(n:Int)(b:Bool)(r:RS) :T (Empty⊕an) :=
  .ask (!b) (.leaf (.inr (.fail n (4:Int))))
    (.ask r.on (.leaf (.inr (.fail n (4:Int))))
      (.ask (decide (((r.nl:Nat):Int)>(64:Int))) (.leaf (.inr (.fail (0:Int) (3:Int)))) (.leaf (.inr (.ok r)))))
def JX(n:Int)(b:Bool) :T (Empty⊕an):=.ask (!b) (.leaf (.inr (.fail n (4:Int)))) .fail
def LB:BC→Option (Empty⊕an)
  | .bad n b=>(JX n b).run
  | .doff n b r w nw=>(Dj n b r).run
  | .don n b r=>(Dj n b r).run
def kf(s:ByteArray) :Option an:=uZ (bg Lz.run fun _=>bg (LA s).run fun a=>bg (dN pB a) LB)
def LI(s:ByteArray) :Unit→aA:=fun _=>⟨ap 49 [(0,.str s)],[],0⟩
theorem KT(s:BC) :Sg prog [] (IW.drop 6) (pJ s) (LB s) vS cr:=by
  cases s with
  | bad n b=>exact cN (t:=JX n b) um vS [⟨[],[],[2,3,4]⟩]
  | doff n b r w nw=>exact cN (t:=Dj n b r) um vS [⟨[],[],[2,3,4]⟩,⟨[],[],[2,3,4]⟩,⟨[],[],[2,3,4]⟩,⟨[],[1],[2,3,4]⟩]
  | don n b r=>exact cN (t:=Dj n b r) um vS [⟨[],[],[2,3,4]⟩,⟨[],[],[2,3,4]⟩,⟨[],[],[2,3,4]⟩,⟨[],[1],[2,3,4]⟩]
theorem KU(s:ByteArray)(n:Int)(b:Bool)(r:RS)(w:List Int)(nw:Nat) :Sg prog [] ED (pI (.off s n b r w nw)) (EE s n b r w nw).run pI (gY 0 pJ cr) :=
  cN um pI [⟨[],[],[6,7]⟩,⟨[],[0,1],[5,6,7,8]⟩,⟨[],[],[6,7]⟩,⟨[(.cell 0 4,.own 1 1 (.ns .u64 []))],[0,1,386],[5,6,7,8]⟩,⟨[],[],[6,7]⟩,⟨[],[0,226],[5,6,7,8]⟩,⟨[],[],[6,7]⟩,⟨[],[0,1],[5,6,7]⟩]
theorem LJ(s:ByteArray)(n:Int)(b:Bool)(r:RS)(nw cw:Nat)(ws:List Int) :Sg prog [] ED (pI (.on s n b r nw cw ws)) (Kq s n b r nw cw ws).run pI (gY 0 pJ cr) :=
  cN um pI [⟨[],[],[6,7]⟩,⟨[],[0,1,2],[5,6,7,8]⟩,⟨[],[],[6,7]⟩,⟨[(.cell 0 4,.own 1 1 (.ns .u64 []))],[0,1,387],[5,6,7,8]⟩,⟨[],[],[6,7]⟩,⟨[],[0,1,227],[5,6,7,8]⟩,⟨[],[],[6,7]⟩,⟨[],[0,1],[5,6,7]⟩]
theorem KV(s:ByteArray)(n:Int)(b:Bool)(r:RS)(nw cw:Nat)(ws:List Int) :Sg prog [] ED (pI (.on s n b r nw cw ws)) (EE s n b r ws nw).run pI (gY 0 pJ cr) :=
  Sg.sub (IU (b:=0) (i:=4) (x:=2)) (Sg.pre ⟨[],[0,1],[5,6,7,8]⟩ rfl (by kernel_rfl:NS.on ⟨[],[0,1],[5,6,7,8]⟩ (FO (pI (.on s n b r nw cw ws)) 0 4 2)=pI (.off s n b r ws nw)) (KU s n b r ws nw))
theorem Kr(s:IV) :Sg prog [] ED (pI s) (pB s) pI (gY 0 pJ cr):=by
  cases s with
  | off s n b r w nw=>exact KU s n b r w nw
  | on s n b r nw cw ws =>
    show Sg prog [] ED (pI (.on s n b r nw cw ws)) (bif decide (r.row<r.m)&&decide (0<r.nn) then (Kq s n b r nw cw ws).run else (EE s n b r ws nw).run) pI _
    cases decide (r.row<r.m)&&decide (0<r.nn) with
    | true=>exact LJ s n b r nw cw ws
    | false=>exact KV s n b r nw cw ws
theorem pX(s:ByteArray){x:an}(h:kf s=some x) :am prog jS [] [.str s] (mV x) :=
  yB true mV cr h (Sg.cut 1 eN (cN (t:=Lz) um (LI s) [⟨[],[],[0]⟩]) (fun _=>Fx (b:=Gu (((dn (tA jS)).drop 1).headD .skip)) (by kernel_rfl) eN
    (Sg.cut 5 eN (cN (t:=LA s) um pI [⟨[],[],[2,3,4]⟩,⟨[(.cell 48 0,.own 6 6 (.cols 0 [.ci .i64 [],.ci .i64 [],.ci .i64 [],.cns .u64 [],.ci .i64 [],.ci .u64 []])),(.cell 48 4,.fre 1 1 (.ns .u64 []))],[48,128],[5,6,7,8]⟩])
      (fun a=>Sg.cut 1 eN (B0 (b:=mH (JW.headD .skip)) (by kernel_rfl) eN (yj _) Kr a) (fun e=>KT e)))))
    (fun x=>by cases x with
      | fail n e=>exact qj [.nsl,.int .i64 n,.int .i64 e]
      | ok r=>exact qj [.sl 0 6 6 0 r.nl r.cl,.int .i64 (0:Int),.int .i64 (0:Int)])
end
end Go.Plb.Seat
namespace Go.Plb.Seat
open Go Go.Plb
set_option linter.unusedVariables false
set_option maxRecDepth 100000
def Dk(n:Nat)(ks ms ns:List Int)(wss:List (List Int))(ys ts:List Int) :List sN:=(List.range n).map fun i=>⟨ks.getD i 0,ms.getD i 0,ns.getD i 0,wss.getD i [],ys.getD i 0,ts.getD i 0⟩
theorem AB(n:Nat)(ks ms ns:List Int)(wss:List (List Int))(ys ts:List Int) :(Dk n ks ms ns wss ys ts).length=n:=by simp [Dk]
theorem Ks{ρ:ae}{W:World}{lv:Lv}{d:aj}{k es len:Nat}{u:Value}(h:VR ρ W (.imm lv d k es 0 len) u) :d.recKept:=by
  cases h with
  | imm _ _ _ _ _ _ _ _ _ _ ha hb hc hv hl hr hk hg=>exact hr
  | immEnd _ _ _ _ _ _ _ hr hk hg=>exact hr
theorem Js{n:Nat}{ks ms ns:List Int}{wss:List (List Int)}{ys ts:List Int}(hr:(aj.cols n [.ci .i64 ks,.ci .i64 ms,.ci .i64 ns,.cns .u64 wss,.ci .i64 ys,.ci .u64 ts]).recKept) :IR (.cols n [.ci .i64 ks,.ci .i64 ms,.ci .i64 ns,.cns .u64 wss,.ci .i64 ys,.ci .u64 ts]) (Dk n ks ms ns wss ys ts):=by
  have h1:ks.length=n:=hr _ (by simp:cm.ci .i64 ks∈_)
  have h2:ms.length=n:=hr _ (by simp:cm.ci .i64 ms∈_)
  have h3:ns.length=n:=hr _ (by simp:cm.ci .i64 ns∈_)
  have h4:wss.length=n:=hr _ (by simp:cm.cns .u64 wss∈_)
  have h5:ys.length=n:=hr _ (by simp:cm.ci .i64 ys∈_)
  have h6:ts.length=n:=hr _ (by simp:cm.ci .u64 ts∈_)
  intro i a hi
  have hlt:i<n:=by
    have:=(List.getElem?_eq_some_iff.1 hi).1
    rwa [AB] at this
  have ha:a=⟨ks.getD i 0,ms.getD i 0,ns.getD i 0,wss.getD i [],ys.getD i 0,ts.getD i 0⟩:=by
    unfold Dk at hi
    rw [List.getElem?_map,List.getElem?_range hlt] at hi
    exact (Option.some.inj hi).symm
  subst ha
  have hd:∀ j,j<6→(i*6+j)%6=j∧(i*6+j)/6=i:=fun j hj=>by omega
  have gd:∀ {α:Type} (xs:List α) (d:α),xs.length=n→xs[i]? = some (xs.getD i d):=fun xs d h=>by
    rw [List.getD_eq_getElem?_getD,List.getElem?_eq_getElem (by omega)];rfl
  refine ⟨.free,?_,?_,?_,?_,?_,?_⟩
  · have:=hd 0 (by omega)
    simp only [Nat.add_zero] at this
    simp only [aj.cell?,List.length_cons,List.length_nil,this.1,this.2]
    show (ks[i]?).map _=_
    rw [gd ks 0 h1];rfl
  · simp only [aj.cell?,List.length_cons,List.length_nil,(hd 1 (by omega)).1,(hd 1 (by omega)).2]
    show (ms[i]?).map _=_
    rw [gd ms 0 h2];rfl
  · simp only [aj.cell?,List.length_cons,List.length_nil,(hd 2 (by omega)).1,(hd 2 (by omega)).2]
    show (ns[i]?).map _=_
    rw [gd ns 0 h3];rfl
  · simp only [aj.cell?,List.length_cons,List.length_nil,(hd 3 (by omega)).1,(hd 3 (by omega)).2]
    show (wss[i]?).map _=_
    rw [gd wss [] h4];rfl
  · simp only [aj.cell?,List.length_cons,List.length_nil,(hd 4 (by omega)).1,(hd 4 (by omega)).2]
    show (ys[i]?).map _=_
    rw [gd ys 0 h5];rfl
  · simp only [aj.cell?,List.length_cons,List.length_nil,(hd 5 (by omega)).1,(hd 5 (by omega)).2]
    show (ts[i]?).map _=_
    rw [gd ts 0 h6];rfl
theorem Jt(lv:Lv)(n:Nat)(ks ms ns:List Int)(wss:List (List Int))(ys ts:List Int)(hl:n≤1000000000) :am prog eS [] [.imm lv (.cols n [.ci .i64 ks,.ci .i64 ms,.ci .i64 ns,.cns .u64 wss,.ci .i64 ys,.ci .u64 ts]) 6 6 0 n]
    ⟨.tup [.str (sO (Dk n ks ms ns wss ys ts)),.int .i64 (sP (Dk n ks ms ns wss ys ts))],[]⟩:=by
  intro ρ w us hN hv
  have hr:(aj.cols n [.ci .i64 ks,.ci .i64 ms,.ci .i64 ns,.cns .u64 wss,.ci .i64 ys,.ci .u64 ts]).recKept:=by
    cases hv with | cons _ u _ _ h1 h2=>exact Ks h1
  have h:=GA lv _ 6 6 (Dk n ks ms ns wss ys ts) (Js hr) (by rw [AB];exact hl)
  rw [AB] at h
  exact h ρ w us hN hv
noncomputable def GD:aH:=db eS (.cons (.cols [.ci .i64,.ci .i64,.ci .i64,.cns .u64,.ci .i64,.ci .u64]) .nil) fun t =>
  [⟨⟨.tup [.str (sO (Dk t.1.2.1 t.1.2.2.1 t.1.2.2.2.1 t.1.2.2.2.2.1 t.1.2.2.2.2.2.1 t.1.2.2.2.2.2.2.1 t.1.2.2.2.2.2.2.2.1)),.int .i64 (sP (Dk t.1.2.1 t.1.2.2.1 t.1.2.2.2.1 t.1.2.2.2.2.1 t.1.2.2.2.2.2.1 t.1.2.2.2.2.2.2.1 t.1.2.2.2.2.2.2.2.1))],[]⟩,[fw t.1.2.1]⟩]
theorem FQ:aL prog GD:=aP fun t=>ba (fun h=>Jt t.1.1 t.1.2.1 t.1.2.2.1 t.1.2.2.2.1 t.1.2.2.2.2.1 t.1.2.2.2.2.2.1 t.1.2.2.2.2.2.2.1 t.1.2.2.2.2.2.2.2.1 (Nat.le_of_ble_eq_true h)) bF
def KW:Option an→Bool
  | some (.fail _ _)=>true
  | _=>false
def KX:Option an→Bool
  | some (.ok r)=>Nat.beq r.nl r.nc
  | _=>false
def LK:Option an→Int
  | some (.fail n _)=>n
  | _=>0
def LL:Option an→Int
  | some (.fail _ e)=>e
  | _=>0
def Kt:Option an→RS
  | some (.ok r)=>r
  | _=>KS
def LC(q:Option an) :Nat:=(Kt q).nl
def Lg(q:Option an) :List Int:=(Kt q).ks
def Lh(q:Option an) :List Int:=(Kt q).ms
def Li(q:Option an) :List Int:=(Kt q).ns
def Lj(q:Option an) :List (List Int):=(Kt q).wss
def Lk(q:Option an) :List Int:=(Kt q).ys
def Ll(q:Option an) :List Int:=(Kt q).ts
noncomputable def IX:aH:=db jS (.cons .str .nil) fun t=>(fun q =>
  [⟨⟨.tup [.nsl,.int .i64 (LK q),.int .i64 (LL q)],[]⟩,[KW q]⟩,
   ⟨⟨.tup [.imm .free (.cols (LC q) [.ci .i64 (Lg q),.ci .i64 (Lh q),.ci .i64 (Li q),.cns .u64 (Lj q),.ci .i64 (Lk q),.ci .u64 (Ll q)]) 6 6 0 (LC q),.int .i64 (0:Int),.int .i64 (0:Int)],[]⟩,[KX q]⟩]) (kf t.1)
theorem Hv:aL prog IX:=aP fun t=>ba (fun h=>by
    generalize hq:kf t.1=q at h ⊢
    unfold KW at h
    split at h
    · exact pX t.1 hq
    · cases h) (ba (fun h=>by
    generalize hq:kf t.1=q at h ⊢
    unfold KX at h
    split at h
    · rename_i r
      have e:=Nat.eq_of_beq_eq_true h
      have:=pX t.1 hq
      simp only [mV,Kn,←e] at this
      exact this
    · cases h) bF)
noncomputable def KY:List aH:=IX::GD::od
theorem yF:aZ prog (bf KY):=aq Hv (aq FQ ao)
end Go.Plb.Seat
namespace Go.Plb.Seat
open Go Go.Plb
set_option linter.unusedVariables false
set_option maxRecDepth 100000
noncomputable section
inductive cV where
  | r0 (b3:Bool)
def xP:cV→AE×aA
  | .r0 b3=>(.ret,⟨ap 52 [(2,.bool false b3)],[],0⟩)
theorem vP:qi xP:=by intro x;cases x<;>(intro h;cases h)
def ra:cV→mb
  | .r0 b3=>⟨.bool false b3,[]⟩
def Dl(a_0:Int)(a_1:Int)(a_2:Int)(v_3:Lv)(a_4:List Int)(a_5:Int)(a_6:Int)(b1:Bool) :aA:=⟨ap 52 [(1,.ptr 0 1 0 0),(36,.bool false b1)],[(0,.vs [.int .i64 a_0,.int .i64 a_1,.int .i64 a_2,.imm v_3 (.ns .u64 a_4) 1 1 0 (List.length a_4),.int .i64 a_5,.int .u64 a_6])],1⟩
def mq(a_0:Int)(a_1:Int)(a_2:Int)(a_4:List Int)(a_5:Int)(a_6:Int) :T ((Bool)⊕(cV)) :=
  .ask (decide (a_1<(0:Int)))
    (.leaf (.inl true))
    (.ask (decide (a_1>(512:Int)))
      (.leaf (.inl true))
      (.ask (decide (a_2<(0:Int)))
        (.leaf (.inl true))
        (.ask (decide (a_2>(512:Int)))
          (.leaf (.inl true))
          (.need (kp .i64 (a_1*a_2))<|.ask ((((List.length a_4):Nat):Int) != (a_1*a_2))
            (.leaf (.inl true))
            (.need (lG 0 (List.length a_4) a_4)<|.need (gU (dt a_0 a_5 a_6))<|.leaf (.inl (!(jz (dt a_0 a_5 a_6)))))))))
def Dm(b2:Bool) :aA:=⟨ap 52 [(2,.bool false b2)],[],0⟩
def Dn(a_0:Int)(a_1:Int)(a_2:Int)(b1:Bool) :T ((Bool)⊕(cV)) :=
  .ask b1
    (.leaf (.inr (.r0 false)))
    (.ask (a_1==a_2)
      (.leaf (.inl true))
      (.ask (a_0 != (1:Int))
        (.leaf (.inl (a_0 != (2:Int))))
        (.leaf (.inl false))))
def Do(b2:Bool) :T ((Empty)⊕(cV)) :=
  .leaf (.inr (.r0 b2))
noncomputable def dX(a_0:Int)(a_1:Int)(a_2:Int)(a_4:List Int)(a_5:Int)(a_6:Int) :Option cV:=uZ (bg ((mq a_0 a_1 a_2 a_4 a_5 a_6).run) fun b1 =>
  bg ((Dn a_0 a_1 a_2 b1).run) fun b2 =>
  (Do b2).run)
theorem Dp(a_0:Int)(a_1:Int)(a_2:Int)(v_3:Lv)(a_4:List Int)(a_5:Int)(a_6:Int){x:cV}(h:dX a_0 a_1 a_2 a_4 a_5 a_6=some x) :am prog xH [] [.agg [.int .i64 a_0,.int .i64 a_1,.int .i64 a_2,.imm v_3 (.ns .u64 a_4) 1 1 0 (List.length a_4),.int .i64 a_5,.int .u64 a_6]] (ra x) :=
  yB false ra xP h (Sg.cut 2 vP (cN yF (Dl a_0 a_1 a_2 v_3 a_4 a_5 a_6) [⟨[],[0],[1,36]⟩,⟨[],[0],[1,36]⟩,⟨[],[0],[1,36]⟩,⟨[],[0],[1,36]⟩,⟨[],[0],[1,36]⟩,⟨[],[0],[1,36]⟩]) (fun b1=>Sg.cut 2 vP (cN yF Dm [⟨[],[],[2]⟩,⟨[],[],[2]⟩,⟨[],[],[2]⟩,⟨[],[],[2]⟩]) (fun b2=>cN yF vS [⟨[],[],[2]⟩])))
    (fun x=>by cases x with | r0 b3=>exact qj [.bool false b3])
def kg:Option cV→Bool
  | some _=>true
  | none=>false
def kh:Option cV→Bool
  | some (.r0 x)=>x
  | _=>false
theorem Dq{x:Option cV}(h:kg x=true) :x=some (.r0 (kh x)):=by
  unfold kg at h
  split at h<;>first | rfl | (cases h;done) | (rename_i y;cases y;rfl)
noncomputable def xQ:aH:=db xH (.cons (.agg (.cons (.int .i64) (.cons (.int .i64) (.cons (.int .i64) (.cons (.ns .u64) (.cons (.int .i64) (.cons (.int .u64) .nil))))))) .nil) fun t=>(fun q=>[⟨ra (.r0 (kh q)),[kg q]⟩]) (dX t.1.1 t.1.2.1 t.1.2.2.1 t.1.2.2.2.1.2 t.1.2.2.2.2.1 t.1.2.2.2.2.2.1)
theorem AC:aL prog xQ:=aP fun t=>(ba (fun h=>Dp t.1.1 t.1.2.1 t.1.2.2.1 t.1.2.2.2.1.1 t.1.2.2.2.1.2 t.1.2.2.2.2.1 t.1.2.2.2.2.2.1 (Dq h)) bF)
noncomputable def xR:List aH:=xQ::KY
theorem di:aZ prog (bf xR):=aq AC yF
inductive aV where
  | r0 (a16:Nat) (l17:List ByteArray)
def kZ:aV→AE×aA
  | .r0 a16 l17=>(.ret,⟨ap 45 [(2,.sl 0 1 1 0 a16 a16)],[(0,.ss l17)],1⟩)
theorem dT:qi kZ:=by intro x;cases x<;>(intro h;cases h)
theorem AD(id:Nat) :rI id kZ:=by intro x;cases x<;>(intro h;cases h)
def og:aV→mb
  | .r0 a16 l17=>⟨.sl 0 1 1 0 a16 a16,[some (.ss l17)]⟩
noncomputable def yk:List Code:=dn (tA nM)
def AF(a_0:Int)(a_1:Int)(a_2:Int)(v_3:Lv)(a_4:List Int)(a_5:Int)(a_6:Int)(l1:(List ByteArray)) :aA:=⟨ap 45 [(1,.ptr 0 1 0 0),(3,.sl 1 1 1 0 1 1),(4,.int .i64 (0:Int))],[(0,.vs [.int .i64 a_0,.int .i64 a_1,.int .i64 a_2,.imm v_3 (.ns .u64 a_4) 1 1 0 (List.length a_4),.int .i64 a_5,.int .u64 a_6]),(1,.ss l1)],2⟩
def pY(a_1:Int)(a_2:Int) :T (((List ByteArray))⊕(aV)) :=
  .need (kp .i64 a_1)<|.need (decide ((ByteArray.mk #[109,97,116,114,105,120,32]).size+(bS a_1).size≤9223372036854775807))<|.need (decide (((ByteArray.mk #[109,97,116,114,105,120,32])++(bS a_1)).size+(ByteArray.mk #[32]).size≤9223372036854775807))<|.need (kp .i64 a_2)<|.need (decide ((((ByteArray.mk #[109,97,116,114,105,120,32])++(bS a_1))++(ByteArray.mk #[32])).size+(bS a_2).size≤9223372036854775807))<|.leaf (.inl [((((ByteArray.mk #[109,97,116,114,105,120,32])++(bS a_1))++(ByteArray.mk #[32]))++(bS a_2))])
def ki(a_0:Int)(a_1:Int)(a_2:Int)(v_3:Lv)(a_4:List Int)(a_5:Int)(a_6:Int) :Nat×Nat×Nat×(List ByteArray)→aA:=fun (l4,l5,i6,l7)=>⟨ap 45 [(1,.ptr 0 1 0 0),(3,.sl 1 1 1 0 l4 l5),(4,.int .i64 ((i6:Nat):Int))],[(0,.vs [.int .i64 a_0,.int .i64 a_1,.int .i64 a_2,.imm v_3 (.ns .u64 a_4) 1 1 0 (List.length a_4),.int .i64 a_5,.int .u64 a_6]),(1,.ss l7)],2⟩
def rb(a_0:Int)(a_1:Int)(a_2:Int)(v_3:Lv)(a_4:List Int)(a_5:Int)(a_6:Int) :Nat×Nat×(List ByteArray)→aA:=fun (l11,l12,l13)=>⟨ap 45 [(1,.ptr 0 1 0 0),(3,.sl 1 1 1 0 l11 l12)],[(0,.vs [.int .i64 a_0,.int .i64 a_1,.int .i64 a_2,.imm v_3 (.ns .u64 a_4) 1 1 0 (List.length a_4),.int .i64 a_5,.int .u64 a_6]),(1,.ss l13)],2⟩
noncomputable def yl:List Code:=dn (mH ((((yk.drop 3).take 1)).headD .skip))
def AG(a_0:Int)(a_1:Int)(a_2:Int)(v_3:Lv)(a_4:List Int)(a_5:Int)(a_6:Int)(l4:Nat)(l5:Nat)(i6:Nat)(l7:List ByteArray)(b8:Bool) :aA:=⟨ap 45 [(1,.ptr 0 1 0 0),(3,.sl 1 1 1 0 l4 l5),(4,.int .i64 ((i6:Nat):Int)),(19,.bool false b8)],[(0,.vs [.int .i64 a_0,.int .i64 a_1,.int .i64 a_2,.imm v_3 (.ns .u64 a_4) 1 1 0 (List.length a_4),.int .i64 a_5,.int .u64 a_6]),(1,.ss l7)],2⟩
def pZ(a_1:Int)(a_2:Int)(i6:Nat) :T ((Bool)⊕((Nat×Nat×(List ByteArray))⊕(aV))) :=
  .ask (decide (((i6:Nat):Int)<a_1))
    (.leaf (.inl (decide (a_2>(0:Int)))))
    (.leaf (.inl false))
def AH(a_0:Int)(a_1:Int)(a_2:Int)(v_3:Lv)(a_4:List Int)(a_5:Int)(a_6:Int)(i6:Nat) :Nat×(List ByteArray)→aA:=fun (l9,l10)=>⟨ap 45 [(1,.ptr 0 1 0 0),(3,.sl 1 1 1 0 l9 l9),(4,.int .i64 ((i6:Nat):Int))],[(0,.vs [.int .i64 a_0,.int .i64 a_1,.int .i64 a_2,.imm v_3 (.ns .u64 a_4) 1 1 0 (List.length a_4),.int .i64 a_5,.int .u64 a_6]),(1,.ss l10)],2⟩
def qa(a_2:Int)(a_4:List Int)(l4:Nat)(l5:Nat)(i6:Nat)(l7:List ByteArray)(b8:Bool) :T ((Nat×(List ByteArray))⊕((Nat×Nat×(List ByteArray))⊕(aV))) :=
  .ask b8
    (.need (kp .i64 (((i6:Nat):Int)*a_2))<|.need (kp .i64 (((i6:Nat):Int)*a_2))<|.need (kp .i64 ((((i6:Nat):Int)*a_2)+a_2))<|.need (lW ((((i6:Nat):Int)*a_2)+a_2) (List.length a_4))<|.need (lW (((i6:Nat):Int)*a_2) (Int.toNat ((((i6:Nat):Int)*a_2)+a_2)))<|.need (lG (Int.toNat (((i6:Nat):Int)*a_2)) ((Int.toNat ((((i6:Nat):Int)*a_2)+a_2))-(Int.toNat (((i6:Nat):Int)*a_2))) a_4)<|.need (mp (fE (cW (Int.toNat (((i6:Nat):Int)*a_2)) ((Int.toNat ((((i6:Nat):Int)*a_2)+a_2))-(Int.toNat (((i6:Nat):Int)*a_2))) a_4)))<|.need (gK ((l4+1)*16) 140737488355328)<|.need (gK (l4+1) 9223372036854775807)<|.need (gK 1 (List.length [(ka (fE (cW (Int.toNat (((i6:Nat):Int)*a_2)) ((Int.toNat ((((i6:Nat):Int)*a_2)+a_2))-(Int.toNat (((i6:Nat):Int)*a_2))) a_4)))]))<|.need (gK l4 (List.length l7))<|.leaf (.inl ((l4+1),((List.take l4 l7)++(List.take 1 [(ka (fE (cW (Int.toNat (((i6:Nat):Int)*a_2)) ((Int.toNat ((((i6:Nat):Int)*a_2)+a_2))-(Int.toNat (((i6:Nat):Int)*a_2))) a_4)))])))))
    (.leaf (.inr (.inl (l4,l5,l7))))
def ym(i6:Nat)(l9:Nat)(l10:List ByteArray) :T ((Nat×Nat×Nat×(List ByteArray))⊕((Nat×Nat×(List ByteArray))⊕(aV))) :=
  .need (kp .i64 (((i6+1):Nat):Int))<|.leaf (.inl (l9,l9,(i6+1),l10))
noncomputable def lP(a_1:Int)(a_2:Int)(a_4:List Int) :Nat×Nat×Nat×(List ByteArray)→Option ((Nat×Nat×Nat×(List ByteArray))⊕((Nat×Nat×(List ByteArray))⊕(aV))):=fun (l4,l5,i6,l7) =>
  bg ((pZ a_1 a_2 i6).run) fun b8 =>
  bg ((qa a_2 a_4 l4 l5 i6 l7 b8).run) fun (l9,l10) =>
  (ym i6 l9 l10).run
theorem yn(a_0:Int)(a_1:Int)(a_2:Int)(v_3:Lv)(a_4:List Int)(a_5:Int)(a_6:Int)(l4:Nat)(l5:Nat)(i6:Nat)(l7:List ByteArray) :Sg prog [] yl (ki a_0 a_1 a_2 v_3 a_4 a_5 a_6 (l4,l5,i6,l7)) (lP a_1 a_2 a_4 (l4,l5,i6,l7)) (ki a_0 a_1 a_2 v_3 a_4 a_5 a_6) (gY 0 (rb a_0 a_1 a_2 v_3 a_4 a_5 a_6) kZ):=by
  unfold lP;exact Sg.cut 1 (dc dT) (cN di (AG a_0 a_1 a_2 v_3 a_4 a_5 a_6 l4 l5 i6 l7) [⟨[],[0,1],[1,3,4,19]⟩,⟨[],[0,1],[1,3,4,19]⟩]) (fun b8=>Sg.cut 2 (dc dT) (cN di (AH a_0 a_1 a_2 v_3 a_4 a_5 a_6 i6) [⟨[],[0,274],[1,3,4]⟩,⟨[],[0,1],[1,3]⟩]) (fun ⟨l9,l10⟩=>cN di (ki a_0 a_1 a_2 v_3 a_4 a_5 a_6) [⟨[],[0,1],[1,3,4]⟩]))
def yo:Nat×(List ByteArray)→aA:=fun (a14,l15)=>⟨ap 45 [(2,.sl 0 1 1 0 a14 a14)],[(0,.ss l15)],1⟩
def qb(a_0:Int)(a_4:List Int)(a_5:Int)(a_6:Int)(l11:Nat)(l13:List ByteArray) :T ((Nat×(List ByteArray))⊕(aV)) :=
  .need (lG 0 (List.length a_4) a_4)<|.need (jq (cS a_0 a_5 a_6))<|.need (gK ((l11+1)*16) 140737488355328)<|.need (gK (l11+1) 9223372036854775807)<|.need (gK 1 (List.length [(eK (cS a_0 a_5 a_6))]))<|.need (gK l11 (List.length l13))<|.leaf (.inl ((l11+1),((List.take l11 l13)++(List.take 1 [(eK (cS a_0 a_5 a_6))]))))
def yp(a14:Nat)(l15:List ByteArray) :T ((Empty)⊕(aV)) :=
  .leaf (.inr (.r0 a14 l15))
noncomputable def dA(a_0:Int)(a_1:Int)(a_2:Int)(a_4:List Int)(a_5:Int)(a_6:Int) :Option aV:=uZ (bg ((pY a_1 a_2).run) fun l1 =>
  bg (dN (lP a_1 a_2 a_4) (1,1,0,l1)) fun (l11,l12,l13) =>
  bg ((qb a_0 a_4 a_5 a_6 l11 l13).run) fun (a14,l15) =>
  (yp a14 l15).run)
theorem AI(a_0:Int)(a_1:Int)(a_2:Int)(v_3:Lv)(a_4:List Int)(a_5:Int)(a_6:Int){x:aV}(h:dA a_0 a_1 a_2 a_4 a_5 a_6=some x) :am prog nM [] [.agg [.int .i64 a_0,.int .i64 a_1,.int .i64 a_2,.imm v_3 (.ns .u64 a_4) 1 1 0 (List.length a_4),.int .i64 a_5,.int .u64 a_6]] (og x) :=
  yB false og kZ h (Sg.cut 3 dT (cN di (AF a_0 a_1 a_2 v_3 a_4 a_5 a_6) [⟨[],[0,112],[1,3,4]⟩]) (fun l1=>Sg.cut 1 dT (Kc ⟨[],[0,1],[1,3,4]⟩ (ki a_0 a_1 a_2 v_3 a_4 a_5 a_6) (rb a_0 a_1 a_2 v_3 a_4 a_5 a_6) 0 dT (AD _) (fun ⟨l4,l5,i6,l7⟩=>yn a_0 a_1 a_2 v_3 a_4 a_5 a_6 l4 l5 i6 l7)) (fun ⟨l11,l12,l13⟩=>Sg.cut 1 dT (cN di yo [⟨[],[66],[2]⟩]) (fun ⟨a14,l15⟩=>cN di vS [⟨[],[0],[2]⟩]))))
    (fun x=>by cases x with | r0 a16 l17=>exact qj [.sl 0 1 1 0 a16 a16])
def kj:Option aV→Bool
  | some _=>true
  | none=>false
def kL:Option aV→Nat
  | some (.r0 x _)=>x
  | _=>0
def kM:Option aV→List ByteArray
  | some (.r0 _ x)=>x
  | _=>[]
theorem AJ{x:Option aV}(h:kj x=true) :x=some (.r0 (kL x) (kM x)):=by
  unfold kj at h
  split at h<;>first | rfl | (cases h;done) | (rename_i y;cases y;rfl)
noncomputable def sX:aH:=db nM (.cons (.agg (.cons (.int .i64) (.cons (.int .i64) (.cons (.int .i64) (.cons (.ns .u64) (.cons (.int .i64) (.cons (.int .u64) .nil))))))) .nil) fun t=>(fun q=>[⟨og (.r0 (kL q) (kM q)),[kj q]⟩]) (dA t.1.1 t.1.2.1 t.1.2.2.1 t.1.2.2.2.1.2 t.1.2.2.2.2.1 t.1.2.2.2.2.2.1)
theorem xm:aL prog sX:=aP fun t=>(ba (fun h=>AI t.1.1 t.1.2.1 t.1.2.2.1 t.1.2.2.2.1.1 t.1.2.2.2.1.2 t.1.2.2.2.2.1 t.1.2.2.2.2.2.1 (AJ h)) bF)
noncomputable def sY:List aH:=sX::xR
theorem xn:aZ prog (bf sY):=aq xm di
end
end Go.Plb.Seat
namespace Go.Plb.Seat
open Go Go.Plb Go.Proofs Go.RowKit
set_option maxRecDepth 100000
set_option linter.unusedSimpArgs false
set_option linter.unusedVariables false
attribute [local go_sem] Oper.semAt_some
def vQ(want:List ByteArray)(most:Int) :List ByteArray→Nat→Bool
  | [],n=>decide (n=want.length)
  | x::l,n=>bif decide (want.length≤n) || !decide (want.getD n ByteArray.empty=x) then false else bif decide (((n+1:Nat):Int)=most) then true else vQ want most l (n+1)
def lz(lines want:List ByteArray)(most:Int) :Bool:=vQ want most lines 0
theorem FS(f:Fn)(c b:Array Value)(W:World) :(binOp .eql 60 (.func f c b) .nilFunc).run prog W=.ok (.bool false) W:=by
  have hu:(prog.underlying 60).any (fun d=>match d with | .func _ _ _=>true | _=>false)=true:=by kernel_rfl
  cases hd:prog.underlying 60 with
  | none=>rw [hd] at hu;cases hu
  | some d =>
    rw [hd] at hu
    cases d<;>first | (cases hu;done) | skip
    have k:∀ n,(Op.equalIn (n+1) 60 (.func f c b) .nilFunc).run prog W=.ok false W:=fun n=>by
      unfold Op.equalIn
      simp [run_underlying hd]
    simp only [binOp,Op.equal,Sem.run_bind]
    rw [show Op.maxDepth=(Op.maxDepth-1)+1 from rfl,k]
    rfl
theorem sZ{P:Program}{fn:Func}{p:Tmp}{t:TypeId}(h:fn.results = #[.cell p t]){tmps:Array Value}{W:World}{a:Addr}{v:Value}(hp:tmps.getD p undef=.pointer (some a)) 
    (ht:uv P t=some false) (hc:W.cell? a=some v):(results fn tmps).run P W=.ok v W:=by
  have h1:=qI ht hc
  rw [tu,h]
  simp [tr,hp,asAddr,Sem.run_bind,Result.andThen,h1]
structure OJ (w:World) (wv:Value) (cs:Array Value) (most:Int) (b1 b2 b3 b4 b5 D L:Nat) (r:Bool) (n:Int) (obj:Obj) (W:World):Prop where
  wt:Boxed W b1 44 wv
  mo:Boxed W b2 3 (.int .i64 most)
  rs:Boxed W b3 4 (.bool r)
  nn:Boxed W b4 3 (.int .i64 n)
  a:W.heap[b5]? = some (.cells cs 33 (0,0))
  df:W.heap[D]? = some (.deferred (some []))
  o:W.heap[L]? = some obj
  low:Below w.heap.size w W
theorem OJ.below{w:World}{wv:Value}{cs:Array Value}{most:Int}{b1 b2 b3 b4 b5 D L:Nat}{r:Bool}{n:Int}{obj:Obj}{W W':World}(h:OJ w wv cs most b1 b2 b3 b4 b5 D L r n obj W)(hb:Below W.heap.size W W') :OJ w wv cs most b1 b2 b3 b4 b5 D L r n obj W' :=
  ⟨(hb.block _ (bi h.wt)).trans h.wt,(hb.block _ (bi h.mo)).trans h.mo,(hb.block _ (bi h.rs)).trans h.rs,(hb.block _ (bi h.nn)).trans h.nn,(hb.block _ (bi h.a)).trans h.a,(hb.block _ (bi h.df)).trans h.df,(hb.block _ (bi h.o)).trans h.o,h.low.trans (hb.mono h.low.size)⟩
theorem OJ.put{w:World}{wv:Value}{cs:Array Value}{most:Int}{b1 b2 b3 b4 b5 D L:Nat}{r:Bool}{n:Int}{obj obj':Obj}{W:World}(h:OJ w wv cs most b1 b2 b3 b4 b5 D L r n obj W)(k:Nat)(ob:Obj)(hk:w.heap.size≤k)(h1:b1≠k)(h2:b2≠k)(h3:b3≠k)(h4:b4≠k)(h5:b5≠k)(hD:D≠k) 
    (hL:(L≠k∧obj'=obj)∨(k=L∧obj'=ob)):OJ w wv cs most b1 b2 b3 b4 b5 D L r n obj' (W.putObj k ob):=by
  refine ⟨(World.putObj_heap_other h1).trans h.wt,(World.putObj_heap_other h2).trans h.mo,(World.putObj_heap_other h3).trans h.rs,(World.putObj_heap_other h4).trans h.nn,(World.putObj_heap_other h5).trans h.a,(World.putObj_heap_other hD).trans h.df,?_,dr h.low hk _⟩
  rcases hL with ⟨q,rfl⟩ | ⟨rfl,rfl⟩
  · exact (World.putObj_heap_other q).trans h.o
  · exact World.putObj_heap_same (bi h.o)
theorem OJ.setr{w:World}{wv:Value}{cs:Array Value}{most:Int}{b1 b2 b3 b4 b5 D L:Nat}{r:Bool}{n:Int}{obj:Obj}{W:World}(h:OJ w wv cs most b1 b2 b3 b4 b5 D L r n obj W)(r':Bool)(hk:w.heap.size≤b3)(h1:b1≠b3)(h2:b2≠b3)(h4:b4≠b3)(h5:b5≠b3)(hD:D≠b3)(hL:L≠b3) :
    OJ w wv cs most b1 b2 b3 b4 b5 D L r' n obj (W.setCell ⟨b3,0,none⟩ (.bool r')) :=
  ⟨(Below.heap_setCell _ _ _ _ h1).trans h.wt,(Below.heap_setCell _ _ _ _ h2).trans h.mo,h.rs.set _,(Below.heap_setCell _ _ _ _ h4).trans h.nn,(Below.heap_setCell _ _ _ _ h5).trans h.a,(Below.heap_setCell _ _ _ _ hD).trans h.df,(Below.heap_setCell _ _ _ _ hL).trans h.o,h.low.setCell (p:=⟨b3,0,none⟩) hk _⟩
theorem OJ.setn{w:World}{wv:Value}{cs:Array Value}{most:Int}{b1 b2 b3 b4 b5 D L:Nat}{r:Bool}{n:Int}{obj:Obj}{W:World}(h:OJ w wv cs most b1 b2 b3 b4 b5 D L r n obj W)(n':Int)(hk:w.heap.size≤b4)(h1:b1≠b4)(h2:b2≠b4)(h3:b3≠b4)(h5:b5≠b4)(hD:D≠b4)(hL:L≠b4) :
    OJ w wv cs most b1 b2 b3 b4 b5 D L r n' obj (W.setCell ⟨b4,0,none⟩ (.int .i64 n')) :=
  ⟨(Below.heap_setCell _ _ _ _ h1).trans h.wt,(Below.heap_setCell _ _ _ _ h2).trans h.mo,(Below.heap_setCell _ _ _ _ h3).trans h.rs,h.nn.set _,(Below.heap_setCell _ _ _ _ h5).trans h.a,(Below.heap_setCell _ _ _ _ hD).trans h.df,(Below.heap_setCell _ _ _ _ hL).trans h.o,h.low.setCell (p:=⟨b4,0,none⟩) hk _⟩
def K5(w:World)(wv:Value)(cs:Array Value)(most:Int)(b1 b2 b3 b4 b5 D L:Nat)(ready gone:Obj)(lines want:List ByteArray) :Option Nat→World→Prop
  | some j,W=>OJ w wv cs most b1 b2 b3 b4 b5 D L false j ready W∧lz lines want most=vQ want most (lines.drop j) j
  | none,W=>∃ n,OJ w wv cs most b1 b2 b3 b4 b5 D L (lz lines want most) n gone W
set_option maxHeartbeats 4000000 in
theorem AK (a : sN) (vw : Value) (want : List ByteArray) (most : Int) (p : Option Addr) (cap : Nat) (w : World) (hR : dW w) (hv : VR ae.none_ w (eW a.ws) vw) (hl : want.length ≤ 1000000000)
    (hW : ∀ i x, want[i]? = some x → ∃ bl o, p = some ⟨bl, o, none⟩ ∧ bl < w.heap.size ∧ w.cell? ⟨bl, o + i, none⟩ = some (.string x)) :
    Calls prog 18 #[.agg (a.V vw), .slice p want.length cap, .int .i64 most] w fun e w' => e = .returned (.bool (lz a.lines want most)) ∧ Below w.heap.size w w' := by
  obtain ⟨pw, cw, rfl, hcw, hpw⟩ := wD hv
  refine (callsIn_wide (n := 20)).1 (callsIn_of_wp_marks Tryz.func18 rfl trivial ?_)
  simp only [Tryz.ntmps18, List.size_toArray, List.length_cons, List.length_nil, Nat.reduceAdd, Nat.reduceSub, Array.replicate_succ, Array.replicate_zero, List.push_toArray, List.append_toArray, List.nil_append, List.cons_append]
  have ag := rF
  have sz := oy
  have hbf := FS
  gi_wp2_with (refine ⟨trivial, ?_⟩; gi_at_call 27; refine (callsIn_wide.2 (xM a (.slice pw a.ws.length cw) _)).mono ?_; rintro e w' ⟨rfl, rfl⟩)
  obtain ⟨W2, hW2⟩ : ∃ W2, ((((((w.alloc (.cells (a.V (.slice pw a.ws.length cw)) 33)).alloc (.cells #[.slice p want.length cap] 44)).alloc (.cells #[.int .i64 most] 3)).alloc (.cells #[.bool false] 4)).alloc (.cells #[.int .i64 0] 3)).alloc (.cells (a.V (.slice pw a.ws.length cw)) 33)) = W2 := ⟨_, rfl⟩
  rw [hW2]
  obtain ⟨b1, e1⟩ : ∃ b, w.heap.size + 1 = b := ⟨_, rfl⟩
  rw [e1]
  obtain ⟨b2, e2⟩ : ∃ b, b1 + 1 = b := ⟨_, rfl⟩
  rw [e2]
  obtain ⟨b3, e3⟩ : ∃ b, b2 + 1 = b := ⟨_, rfl⟩
  rw [e3]
  obtain ⟨b4, e4⟩ : ∃ b, b3 + 1 = b := ⟨_, rfl⟩
  rw [e4]
  obtain ⟨b5, e5⟩ : ∃ b, b4 + 1 = b := ⟨_, rfl⟩
  rw [e5]
  obtain ⟨D, hs2⟩ : ∃ D, W2.heap.size = D := ⟨_, rfl⟩
  have eD : D = w.heap.size + 6 := by rw [← hs2, ← hW2]; simp
  subst eD
  refine pk (gf := 52) (m := 19) rfl (enters_of Tryz.func52 (by kernel_rfl) rfl) fun fn rec hrec hy => ?_
  rw [hs2] at hy ⊢
  obtain ⟨L, eL⟩ : ∃ L, w.heap.size + 6 + 1 = L := ⟨_, rfl⟩
  rw [eL] at hy ⊢
  obtain ⟨W0, hW0⟩ : ∃ W0, (W2.alloc (.deferred (some []))).alloc (.loop (rec .ready none)) = W0 := ⟨_, rfl⟩
  have hs0 : W0.heap.size = w.heap.size + 8 := by rw [← hW0]; simp [hs2]
  have hlow0 : Below w.heap.size w W0 := by
    rw [← hW0, ← hW2]
    refine Below.alloc (Below.alloc (Below.alloc (Below.alloc (Below.alloc (Below.alloc (Below.alloc (Below.alloc (Below.refl _ w) ?_ _) ?_ _) ?_ _) ?_ _) ?_ _) ?_ _) ?_ _) ?_ _
    all_goals simp
    all_goals try omega
  have hat : ∀ k, W0.heap[w.heap.size + k]? = #[Obj.cells (a.V (.slice pw a.ws.length cw)) 33, .cells #[.slice p want.length cap] 44, .cells #[.int .i64 most] 3, .cells #[.bool false] 4, .cells #[.int .i64 0] 3, .cells (a.V (.slice pw a.ws.length cw)) 33, .deferred (some []), .loop (rec .ready none)][k]? := fun k => by
    rw [← hW0, ← hW2]
    exact JU w.heap _ _ _ _ _ _ _ _ k
  obtain ⟨T, hT⟩ : ∃ T, K5 w (.slice p want.length cap) (a.V (.slice pw a.ws.length cw)) most b1 b2 b3 b4 b5 (w.heap.size + 6) L (.loop (rec .ready none)) (.loop (rec .done (some .ret))) a.lines want = T := ⟨_, rfl⟩
  have hI : FG W0.heap.size b5 a.k a.m a.n a.ws (.slice pw a.ws.length cw) a.y a.t T := by
    rw [← hT]
    refine ⟨fun j V h => ⟨h.1.a, hR.below h.1.low (Nat.le_refl _), hv.mono (gZ.refl _ _) (my h.1.low)⟩, fun j V V' h hb => ?_, fun j V r ob o' h h1 h2 h3 => ?_⟩
    · cases j with
      | none => obtain ⟨n, h⟩ := h; exact ⟨n, h.below hb⟩
      | some j => exact ⟨h.1.below hb, h.2⟩
    · cases j with
      | none => obtain ⟨n, h⟩ := h; exact ⟨n, h.put r ob (by omega) (by omega) (by omega) (by omega) (by omega) (by omega) (by omega) (.inl ⟨by omega, rfl⟩)⟩
      | some j => exact ⟨h.1.put r ob (by omega) (by omega) (by omega) (by omega) (by omega) (by omega) (by omega) (.inl ⟨by omega, rfl⟩), h.2⟩
  have g1 : Boxed W0 b1 44 (.slice p want.length cap) := by rw [← e1]; exact hat 1
  have g2 : Boxed W0 b2 3 (.int .i64 most) := by rw [← e2, ← e1]; exact hat 2
  have g3 : Boxed W0 b3 4 (.bool false) := by rw [← e3, ← e2, ← e1]; exact hat 3
  have g4 : Boxed W0 b4 3 (.int .i64 0) := by rw [← e4, ← e3, ← e2, ← e1]; exact hat 4
  have g5 : W0.heap[b5]? = some (.cells (a.V (.slice pw a.ws.length cw)) 33 (0, 0)) := by rw [← e5, ← e4, ← e3, ← e2, ← e1]; exact hat 5
  have g6 : W0.heap[w.heap.size + 6]? = some (.deferred (some [])) := by exact hat 6
  have g7 : W0.heap[L]? = some (.loop (rec .ready none)) := by rw [← eL]; exact hat 7
  have h0 : T (some 0) W0 := by
    rw [← hT]
    exact ⟨⟨g1, g2, g3, g4, g5, g6, g7, hlow0⟩, rfl⟩
  clear hat
  have hY : ∀ d' j x W', a.lines[j]? = some x → T (some j) W' → YieldAt Fence.wide (d' + 4) prog L #[.string x] W' (fun e W'' => ∃ b : Bool, e = .returned (.bool b) ∧ T (bif b then some (j + 1) else none) W'' ∧ mM W0.heap.size W' W'') := by
    intro d' j x W' hx hS
    rw [← hT] at hS ⊢
    clear hT
    obtain ⟨hS, hon⟩ := hS
    refine hy (d' + 4) _ W' _ hS.o rfl ?_
    clear hy
    have hjl := (List.getElem?_eq_some_iff.1 hx).1
    have hdrop : vQ want most (a.lines.drop j) j = bif decide (want.length ≤ j) || !decide (want.getD j ByteArray.empty = x) then false else bif decide (((j + 1 : Nat) : Int) = most) then true else vQ want most (a.lines.drop (j + 1)) (j + 1) := by
      have : a.lines.drop j = x :: a.lines.drop (j + 1) := by
        rw [List.drop_eq_getElem_cons hjl]
        rw [List.getElem?_eq_getElem hjl] at hx
        rw [Option.some.inj hx]
      rw [this]; rfl
    gi_wp2
    refine ⟨hS.o, ?_⟩
    have hSb := OJ.put (obj' := .loop (rec .busy none)) hS L (.loop (rec .busy none)) (by omega) (by omega) (by omega) (by omega) (by omega) (by omega) (by omega) (.inr ⟨rfl, rfl⟩)
    have hlt := bi hS.o
    obtain ⟨V1, hV1⟩ : ∃ V1, W'.putObj L (.loop (rec .busy none)) = V1 := ⟨_, rfl⟩
    have hs1 : V1.heap.size = W'.heap.size := by rw [← hV1]; simp
    have hk1 : ∀ r, r ≠ L → V1.heap[r]? = W'.heap[r]? := fun r hr => by rw [← hV1]; exact World.putObj_heap_other hr
    rw [hV1] at hSb ⊢
    have c1 := hSb.wt.cell
    have c2 := hSb.mo.cell
    have c3 := hSb.rs.cell
    have c4 := hSb.nn.cell
    have f3 := hSb.rs.frozen
    have f4 := hSb.nn.frozen
    have hKeep : ∀ (X : World) (ob : Obj), X.heap.size = W'.heap.size → (∀ r, w.heap.size + 8 ≤ r → X.heap[r]? = V1.heap[r]?) → mM (w.heap.size + 8) W' (X.putObj L ob) := by
      intro X ob h1 h2
      refine ⟨by simp [h1], fun r o h3 h4 _ => ?_⟩
      rw [World.putObj_heap_other (by omega), h2 r h3, hk1 r (by omega)]
      exact h4
    have hS3 : ∀ r', OJ w (.slice p want.length cap) (a.V (.slice pw a.ws.length cw)) most b1 b2 b3 b4 b5 (w.heap.size + 6) L r' j (.loop (rec .busy none)) (V1.setCell ⟨b3, 0, none⟩ (.bool r')) := fun r' => hSb.setr r' (by omega) (by omega) (by omega) (by omega) (by omega) (by omega) (by omega)
    have hS4 := hSb.setn ((j : Int) + 1) (by omega) (by omega) (by omega) (by omega) (by omega) (by omega) (by omega)
    have hS5 : OJ w (.slice p want.length cap) (a.V (.slice pw a.ws.length cw)) most b1 b2 b3 b4 b5 (w.heap.size + 6) L true ((j : Int) + 1) (.loop (rec .busy none)) ((V1.setCell ⟨b4, 0, none⟩ (.int .i64 ((j : Int) + 1))).setCell ⟨b3, 0, none⟩ (.bool true)) := hS4.setr true (by omega) (by omega) (by omega) (by omega) (by omega) (by omega) (by omega)
    have hne : ∀ r, w.heap.size + 8 ≤ r → r ≠ b3 ∧ r ≠ b4 := fun r h => by omega
    have putL : ∀ {r : Bool} {n : Int} {obj : Obj} {X : World} (ob : Obj), OJ w (.slice p want.length cap) (a.V (.slice pw a.ws.length cw)) most b1 b2 b3 b4 b5 (w.heap.size + 6) L r n obj X → OJ w (.slice p want.length cap) (a.V (.slice pw a.ws.length cw)) most b1 b2 b3 b4 b5 (w.heap.size + 6) L r n ob (X.putObj L ob) := fun ob h =>
      h.put L ob (by omega) (by omega) (by omega) (by omega) (by omega) (by omega) (by omega) (.inr ⟨rfl, rfl⟩)
    have outF : lz a.lines want most = false → (∃ h, (V1.setCell ⟨b3, 0, none⟩ (.bool false)).heap[L]'h = .loop (rec .busy none)) ∧ K5 w (.slice p want.length cap) (a.V (.slice pw a.ws.length cw)) most b1 b2 b3 b4 b5 (w.heap.size + 6) L (.loop (rec .ready none)) (.loop (rec .done (some .ret))) a.lines want none ((V1.setCell ⟨b3, 0, none⟩ (.bool false)).putObj L (.loop (rec .done (some .ret)))) ∧ mM (w.heap.size + 8) W' ((V1.setCell ⟨b3, 0, none⟩ (.bool false)).putObj L (.loop (rec .done (some .ret)))) := by
      intro hf
      refine ⟨Array.getElem?_eq_some_iff.1 (hS3 false).o, ⟨j, ?_⟩, hKeep _ _ (by simp [hs1]) fun r hr => Below.heap_setCell _ _ _ _ (hne r hr).1⟩
      rw [hf]
      exact putL _ (hS3 false)
    have outT : lz a.lines want most = true → (∃ h, ((V1.setCell ⟨b4, 0, none⟩ (.int .i64 ((j : Int) + 1))).setCell ⟨b3, 0, none⟩ (.bool true)).heap[L]'h = .loop (rec .busy none)) ∧ K5 w (.slice p want.length cap) (a.V (.slice pw a.ws.length cw)) most b1 b2 b3 b4 b5 (w.heap.size + 6) L (.loop (rec .ready none)) (.loop (rec .done (some .ret))) a.lines want none (((V1.setCell ⟨b4, 0, none⟩ (.int .i64 ((j : Int) + 1))).setCell ⟨b3, 0, none⟩ (.bool true)).putObj L (.loop (rec .done (some .ret)))) ∧ mM (w.heap.size + 8) W' (((V1.setCell ⟨b4, 0, none⟩ (.int .i64 ((j : Int) + 1))).setCell ⟨b3, 0, none⟩ (.bool true)).putObj L (.loop (rec .done (some .ret)))) := by
      intro hf
      refine ⟨Array.getElem?_eq_some_iff.1 hS5.o, ⟨(j : Int) + 1, ?_⟩, hKeep _ _ (by simp [hs1]) fun r hr => (Below.heap_setCell _ _ _ _ (hne r hr).1).trans (Below.heap_setCell _ _ _ _ (hne r hr).2)⟩
      rw [hf]
      exact putL _ hS5
    have outN : lz a.lines want most = vQ want most (a.lines.drop (j + 1)) (j + 1) → (∃ h, (V1.setCell ⟨b4, 0, none⟩ (.int .i64 ((j : Int) + 1))).heap[L]'h = .loop (rec .busy none)) ∧ K5 w (.slice p want.length cap) (a.V (.slice pw a.ws.length cw)) most b1 b2 b3 b4 b5 (w.heap.size + 6) L (.loop (rec .ready none)) (.loop (rec .done (some .ret))) a.lines want (some (j + 1)) ((V1.setCell ⟨b4, 0, none⟩ (.int .i64 ((j : Int) + 1))).putObj L (.loop (rec .ready none))) ∧ mM (w.heap.size + 8) W' ((V1.setCell ⟨b4, 0, none⟩ (.int .i64 ((j : Int) + 1))).putObj L (.loop (rec .ready none))) := by
      intro hf
      refine ⟨Array.getElem?_eq_some_iff.1 hS4.o, ⟨?_, hf⟩, hKeep _ _ (by simp [hs1]) fun r hr => Below.heap_setCell _ _ _ _ (hne r hr).2⟩
      exact putL _ hS4
    rw [hon, hdrop] at outF outT outN
    clear hS3 hS4 hS5 putL hKeep hon hdrop
    by_cases hj : j < want.length
    · obtain ⟨y, hy⟩ : ∃ y, want[j]? = some y := ⟨_, List.getElem?_eq_getElem hj⟩
      have hyD : want.getD j ByteArray.empty = y := by rw [List.getD_eq_getElem?_getD, hy]; rfl
      rw [hyD, decide_eq_false (show ¬ want.length ≤ j by omega), Bool.false_or] at outF outT outN
      obtain ⟨bl, o, rfl, hbl, hce⟩ := hW j y hy
      have hce' : V1.cell? ⟨bl, o + j, none⟩ = some (.string y) := by
        rw [← hce]
        exact hSb.low.cell (p := ⟨bl, o + j, none⟩) hbl
      have hge : ¬ ((want.length : Nat) : Int) ≤ (j : Int) := by omega
      by_cases hxy : x = y
      · subst hxy
        rw [decide_eq_true rfl, Bool.not_true, cond_false] at outF outT outN
        by_cases hm : ((j : Nat) : Int) + 1 = most
        · have oT := Lib.hid (outT (by rw [decide_eq_true (by omega)]; rfl))
          clear outF outT outN
          have hmH := Lib.hid hm
          clear hm
          gi_wp2
          all_goals first
            | exact ⟨oT.1.2, oT.2⟩
            | (exfalso; rename_i q; rw [show ((j : Nat) : Int) + 1 = most from hmH] at q; simp at q)
        · have oN := Lib.hid (outN (by rw [decide_eq_false (by omega)]; rfl))
          clear outF outT outN
          gi_wp2
          all_goals first
            | (exfalso; omega)
            | exact ⟨oN.1.2, oN.2⟩
      · have oF := Lib.hid (outF (by rw [decide_eq_false (fun e => hxy e.symm)]; rfl))
        clear outF outT outN
        have hxB : (x.toList == y.toList) = false := by rw [tN]; exact decide_eq_false hxy
        gi_wp2
        all_goals first
          | exact ⟨oF.1.2, oF.2⟩
    · have hge : ((want.length : Nat) : Int) ≤ (j : Int) := by omega
      have oF := Lib.hid (outF (by rw [decide_eq_true (show want.length ≤ j by omega)]; rfl))
      clear outF outT outN
      gi_wp2
      exact ⟨oF.1.2, oF.2⟩
  rw [hW0]
  refine (Ew 9 L b5 W0.heap.size a.k a.m a.n a.ws (.slice pw a.ws.length cw) a.y a.t T hI hY W0 rfl h0).mono ?_
  clear hY hy hI
  rintro e W' ⟨hv', hS | hS⟩
  · rw [← hT] at hS
    obtain ⟨hS, hon⟩ : OJ w (.slice p want.length cap) (a.V (.slice pw a.ws.length cw)) most b1 b2 b3 b4 b5 (w.heap.size + 6) L false (a.lines.length : Nat) (.loop (rec .ready none)) W' ∧ lz a.lines want most = vQ want most (a.lines.drop a.lines.length) a.lines.length := hS
    rw [List.drop_length] at hon
    have hon : lz a.lines want most = decide (a.lines.length = want.length) := hon
    refine ⟨hv', .inl ⟨hS.o, ?_⟩⟩
    have hS7 := hS.put L (.loop (rec .exhausted none)) (by omega) (by omega) (by omega) (by omega) (by omega) (by omega) (by omega) (.inr ⟨rfl, rfl⟩)
    obtain ⟨W8, hW8⟩ : ∃ W8, W'.putObj L (.loop (rec .exhausted none)) = W8 := ⟨_, rfl⟩
    rw [hW8] at hS7 ⊢
    have c1 := hS7.wt.cell
    have c3 := hS7.rs.cell
    have c4 := hS7.nn.cell
    have f3 := hS7.rs.frozen
    have hr8 := hS7.setr (((a.lines.length : Nat) : Int) == ((want.length : Nat) : Int)) (by omega) (by omega) (by omega) (by omega) (by omega) (by omega) (by omega)
    have hr8 := Lib.hid hr8
    gi_wp2
    have hr8 : OJ w (.slice p want.length cap) (a.V (.slice pw a.ws.length cw)) most b1 b2 b3 b4 b5 (w.heap.size + 6) L _ _ _ _ := hr8
    refine ⟨by simp, .inl ⟨_, _, rfl, run_takeDeferred hr8.df, ?_⟩⟩
    refine ⟨_, sZ (a := ⟨b3, 0, none⟩) rfl rfl (by kernel_rfl) (Boxed.cell ((World.putObj_heap_other (by omega)).trans hr8.rs)), ?_, dr hr8.low (by omega) _⟩
    rw [hon]
    congr 2
    rw [Bool.eq_iff_iff]
    simp
    omega
  · rw [← hT] at hS
    obtain ⟨n, hS⟩ := hS
    refine ⟨hv', .inr ⟨_, hS.o, ?_⟩⟩
    have hS7 := hS.put L (.loop (rec .exhausted (some .ret))) (by omega) (by omega) (by omega) (by omega) (by omega) (by omega) (by omega) (.inr ⟨rfl, rfl⟩)
    obtain ⟨W8, hW8⟩ : ∃ W8, W'.putObj L (.loop (rec .exhausted (some .ret))) = W8 := ⟨_, rfl⟩
    rw [hW8] at hS7 ⊢
    have hr8 := Lib.hid hS7
    gi_wp2
    have hr8 : OJ w (.slice p want.length cap) (a.V (.slice pw a.ws.length cw)) most b1 b2 b3 b4 b5 (w.heap.size + 6) L _ _ _ _ := hr8
    refine ⟨by simp, .inl ⟨_, _, rfl, run_takeDeferred hr8.df, ?_⟩⟩
    exact ⟨_, sZ (a := ⟨b3, 0, none⟩) rfl rfl (by kernel_rfl) (Boxed.cell ((World.putObj_heap_other (by omega)).trans hr8.rs)), rfl, dr hr8.low (by omega) _⟩
end Go.Plb.Seat
namespace Go.Plb.Seat
open Go Go.Plb Go.Proofs Go.RowKit
set_option maxRecDepth 100000
set_option linter.unusedSimpArgs false
set_option linter.unusedVariables false
theorem Ju{ρ:ae}{W:World}{s:ByteArray}{u:Value}(h:VR ρ W (.str s) u) :u=.string s:=by cases h;rfl
abbrev Jv(k m n:Int)(lv:Lv)(ws:List Int)(y t:Int) :AV:=.agg [.int .i64 k,.int .i64 m,.int .i64 n,.imm lv (.ns .u64 ws) 1 1 0 ws.length,.int .i64 y,.int .u64 t]
theorem GE{ρ:ae}{W:World}{k m n:Int}{lv:Lv}{ws:List Int}{y t:Int}{u:Value}(h:VR ρ W (Jv k m n lv ws y t) u) :∃ vw,u=.agg (Eu k m n vw y t)∧VR ae.none_ W (eW ws) vw:=by
  generalize hA:Jv k m n lv ws y t=A at h
  cases h with
  | agg l c h =>
    cases hA
    obtain ⟨c⟩:=c
    cases h with | cons _ u0 _ _ g0 h =>
    cases h with | cons _ u1 _ _ g1 h =>
    cases h with | cons _ u2 _ _ g2 h =>
    cases h with | cons _ u3 _ _ g3 h =>
    cases h with | cons _ u4 _ _ g4 h =>
    cases h with | cons _ u5 _ _ g5 h =>
    cases h
    cases gQ g0
    cases gQ g1
    cases gQ g2
    cases gQ g4
    cases gQ g5
    exact ⟨u3,rfl,Ag rfl g3⟩
  | _=>cases hA
theorem IY{ρ:ae}{W:World}{bw:Lv}{l:List ByteArray}{u:Value}(h:VR ρ W (.imm bw (.ss l) 1 1 0 l.length) u) :
    ∃ p cap,u=.slice p l.length cap∧∀ i x,l[i]? = some x→∃ bl o,p=some ⟨bl,o,none⟩∧bl<W.heap.size∧W.cell? ⟨bl,o+i,none⟩=some (.string x):=by
  generalize hA:AV.imm bw (.ss l) 1 1 0 l.length=A at h
  cases h with
  | imm bw d k es i len cap bl o u ha hb hc hv hl hr hk hg =>
    cases hA
    refine ⟨_,cap,rfl,fun i x hx=>⟨bl,o+0*1,rfl,hb,?_⟩⟩
    have hd:(aj.ss l).cell? i=some (.str x):=by simp [aj.cell?,hx]
    have h1:=hc _ _ hd
    rw [Ju (hv _ _ hd)] at h1
    rw [show o+0*1+i=o+i by omega]
    exact h1
  | immEnd bw d k es i cap a hr hk hg =>
    simp only [AV.imm.injEq] at hA
    obtain ⟨_,rfl,_,_,_,h0⟩:=hA
    rw [h0]
    exact ⟨a,cap,rfl,fun i x hx=>by have:=(List.getElem?_eq_some_iff.1 hx).1;omega⟩
  | _=>cases hA
theorem Jw(k m n:Int)(lv:Lv)(ws:List Int)(y t most:Int) :am prog jT [] [Jv k m n lv ws y t,.nsl,.int .i64 most] ⟨.bool false (lz (aN k m n ws y t) [] most),[]⟩:=by
  refine bB ⟨FN jT,by kernel_rfl,by kernel_rfl⟩ fun ρ w us hN hv=>?_
  cases hv with | cons _ u0 _ _ g0 h =>
  cases h with | cons _ u1 _ _ g1 h =>
  cases h with | cons _ u2 _ _ g2 h =>
  cases h
  obtain ⟨vw,rfl,hw⟩:=GE g0
  cases g1
  cases gQ g2
  refine (AK ⟨k,m,n,ws,y,t⟩ vw [] most none 0 w hN.romOk hw (Nat.zero_le _) (fun i x hx=>by simp at hx)).mono ?_
  rintro e w' ⟨rfl,hb⟩
  exact ⟨_,rfl,hb,.bool _ _⟩
theorem Jx(k m n:Int)(lv:Lv)(ws:List Int)(y t:Int)(bw:Lv)(l:List ByteArray)(most:Int)(hl:l.length≤1000000000) :am prog jT [] [Jv k m n lv ws y t,.imm bw (.ss l) 1 1 0 l.length,.int .i64 most] ⟨.bool false (lz (aN k m n ws y t) l most),[]⟩:=by
  refine bB ⟨FN jT,by kernel_rfl,by kernel_rfl⟩ fun ρ w us hN hv=>?_
  cases hv with | cons _ u0 _ _ g0 h =>
  cases h with | cons _ u1 _ _ g1 h =>
  cases h with | cons _ u2 _ _ g2 h =>
  cases h
  obtain ⟨vw,rfl,hw⟩:=GE g0
  obtain ⟨p,cap,rfl,hp⟩:=IY g1
  cases gQ g2
  refine (AK ⟨k,m,n,ws,y,t⟩ vw l most p cap w hN.romOk hw hl hp).mono ?_
  rintro e w' ⟨rfl,hb⟩
  exact ⟨_,rfl,hb,.bool _ _⟩
def IZ:aH:=⟨jT,fun lent args=>match lent,args with
  | [],[.agg [.int .i64 k,.int .i64 m,.int .i64 n,.imm lv (.ns .u64 ws) 1 1 0 len,.int .i64 y,.int .u64 t],.nsl,.int .i64 most] =>
    some [⟨⟨.bool false (lz (aN k m n ws y t) [] most),[]⟩,[Nat.beq len ws.length]⟩]
  | [],[.agg [.int .i64 k,.int .i64 m,.int .i64 n,.imm lv (.ns .u64 ws) 1 1 0 len,.int .i64 y,.int .u64 t],.imm bw (.ss l) 1 1 0 nl,.int .i64 most] =>
    some [⟨⟨.bool false (lz (aN k m n ws y t) l most),[]⟩,[Nat.beq len ws.length,Nat.beq nl l.length,fw nl]⟩]
  | _,_=>none⟩
theorem I0:aL prog IZ:=by
  intro lent args alts a h ha ho
  simp only [IZ] at h
  split at h
  · simp only [Option.some.injEq] at h;subst h
    simp only [List.mem_singleton] at ha;subst ha
    rename_i k m n lv ws len y t most
    have hlen:len=ws.length:=Nat.eq_of_beq_eq_true ho.1
    subst hlen
    exact Jw k m n lv ws y t most
  · simp only [Option.some.injEq] at h;subst h
    simp only [List.mem_singleton] at ha;subst ha
    rename_i k m n lv ws len y t bw l nl most
    have hlen:len=ws.length:=Nat.eq_of_beq_eq_true ho.1
    have hnl:nl=l.length:=Nat.eq_of_beq_eq_true ho.2.1
    have hok:nl≤1000000000:=Nat.le_of_ble_eq_true ho.2.2.1
    subst hlen
    subst hnl
    exact Jx k m n lv ws y t bw l most hok
  · cases h
end Go.Plb.Seat
namespace Go.Plb.Seat
open Go Go.Plb
noncomputable def KZ:List aH:=IZ::sY
theorem lc:aZ prog (bf KZ):=aq I0 xn
end Go.Plb.Seat
namespace Go.Plb.Seat
open Go Go.Plb
set_option linter.unusedVariables false
set_option maxRecDepth 100000
noncomputable section
inductive ay where
  | r0 (b9:Bool)
def lU:ay→AE×aA
  | .r0 b9=>(.ret,⟨ap 63 [(4,.bool false b9)],[],0⟩)
theorem bh:qi lU:=by intro x;cases x<;>(intro h;cases h)
def jg:ay→mb
  | .r0 b9=>⟨.bool false b9,[]⟩
noncomputable def gH:List Code:=dn (tA hF)
def rc(a_0:Int)(a_1:Int)(a_2:Int)(v_3:Lv)(a_4:List Int)(a_5:Int)(a_6:Int)(leave_7:Int) :ByteArray×Nat→aA:=fun (s1,e2)=>⟨ap 63 [(1,.int .i64 leave_7),(2,.ptr 0 1 0 0),(5,.str s1),(6,.int .i64 ((e2:Nat):Int))],[(0,.vs [.int .i64 a_0,.int .i64 a_1,.int .i64 a_2,.imm v_3 (.ns .u64 a_4) 1 1 0 (List.length a_4),.int .i64 a_5,.int .u64 a_6])],1⟩
def ct(a_0:Int)(a_1:Int)(a_2:Int)(a_4:List Int)(a_5:Int)(a_6:Int) :T ((ByteArray×Nat)⊕(ay)) :=
  .ask (decide ((((List.length a_4):Nat):Int)>(200:Int)))
    (.leaf (.inr (.r0 true)))
    (.need (lG 0 (List.length a_4) a_4)<|.need (eT (cQ a_0 a_1 a_2 (cW 0 (List.length a_4) a_4) a_5 a_6))<|.ask (!(eF (cQ a_0 a_1 a_2 (cW 0 (List.length a_4) a_4) a_5 a_6)))
      (.leaf (.inl (ByteArray.empty,2)))
      (.need (lG 0 (List.length a_4) a_4)<|.need (fA (dz a_0 a_5 a_6))<|.leaf (.inl ((gP (dz a_0 a_5 a_6)),0))))
def re(a_0:Int)(a_1:Int)(a_2:Int)(v_3:Lv)(a_4:List Int)(a_5:Int)(a_6:Int)(leave_7:Int)(s1:ByteArray)(e2:Nat)(b3:Bool) :aA:=⟨ap 63 [(1,.int .i64 leave_7),(2,.ptr 0 1 0 0),(5,.str s1),(6,.int .i64 ((e2:Nat):Int)),(20,.bool false b3)],[(0,.vs [.int .i64 a_0,.int .i64 a_1,.int .i64 a_2,.imm v_3 (.ns .u64 a_4) 1 1 0 (List.length a_4),.int .i64 a_5,.int .u64 a_6])],1⟩
def fa(a_0:Int)(a_1:Int)(a_2:Int)(a_4:List Int)(a_5:Int)(a_6:Int) :T ((Bool)⊕(ay)) :=
  .need (lG 0 (List.length a_4) a_4)<|.need (eT (cQ a_0 a_1 a_2 (cW 0 (List.length a_4) a_4) a_5 a_6))<|.need (lG 0 (List.length a_4) a_4)<|.need (kg (dX a_0 a_1 a_2 (cW 0 (List.length a_4) a_4) a_5 a_6))<|.leaf (.inl (!((eF (cQ a_0 a_1 a_2 (cW 0 (List.length a_4) a_4) a_5 a_6))==(kh (dX a_0 a_1 a_2 (cW 0 (List.length a_4) a_4) a_5 a_6)))))
def rf(a_0:Int)(a_1:Int)(a_2:Int)(v_3:Lv)(a_4:List Int)(a_5:Int)(a_6:Int)(leave_7:Int)(s1:ByteArray)(e2:Nat)(b4:Bool) :aA:=⟨ap 63 [(1,.int .i64 leave_7),(2,.ptr 0 1 0 0),(5,.str s1),(6,.int .i64 ((e2:Nat):Int)),(23,.bool false b4)],[(0,.vs [.int .i64 a_0,.int .i64 a_1,.int .i64 a_2,.imm v_3 (.ns .u64 a_4) 1 1 0 (List.length a_4),.int .i64 a_5,.int .u64 a_6])],1⟩
def fb(a_0:Int)(a_1:Int)(a_2:Int)(a_4:List Int)(a_5:Int)(a_6:Int)(b3:Bool) :T ((Bool)⊕(ay)) :=
  .ask b3
    (.leaf (.inr (.r0 false)))
    (.need (lG 0 (List.length a_4) a_4)<|.need (kg (dX a_0 a_1 a_2 (cW 0 (List.length a_4) a_4) a_5 a_6))<|.leaf (.inl (!(kh (dX a_0 a_1 a_2 (cW 0 (List.length a_4) a_4) a_5 a_6)))))
def lA(a_0:Int)(a_1:Int)(a_2:Int)(v_3:Lv)(a_4:List Int)(a_5:Int)(a_6:Int)(leave_7:Int)(s1:ByteArray)(e2:Nat)(_:Unit) :aA:=⟨ap 63 [(1,.int .i64 leave_7),(2,.ptr 0 1 0 0),(5,.str s1),(6,.int .i64 ((e2:Nat):Int))],[(0,.vs [.int .i64 a_0,.int .i64 a_1,.int .i64 a_2,.imm v_3 (.ns .u64 a_4) 1 1 0 (List.length a_4),.int .i64 a_5,.int .u64 a_6])],1⟩
def rg(b5:Bool) :aA:=⟨ap 63 [(4,.bool false b5)],[],0⟩
def fc(a_0:Int)(a_1:Int)(a_2:Int)(a_4:List Int)(a_5:Int)(a_6:Int)(s1:ByteArray)(e2:Nat) :T ((Bool)⊕(ay)) :=
  .ask (s1.toList==ByteArray.empty.toList)
    (.ask (((e2:Nat):Int)==(2:Int))
      (.need (Nat.beq (List.length a_4) (List.length a_4))<|.ask (lz (aN a_0 a_1 a_2 a_4 a_5 a_6) ([]:List ByteArray) (0:Int))
        (.leaf (.inl true))
        (.leaf (.inl false)))
      (.leaf (.inl false)))
    (.leaf (.inl false))
def qf(b5:Bool) :T ((Unit)⊕(ay)) :=
  .leaf (.inr (.r0 b5))
def qg:T ((Unit)⊕(ay)) :=
  .leaf (.inl ())
def rh(a_0:Int)(a_1:Int)(a_2:Int)(v_3:Lv)(a_4:List Int)(a_5:Int)(a_6:Int)(leave_7:Int)(s1:ByteArray)(e2:Nat) :Nat×(List ByteArray)→aA:=fun (l6,l7)=>⟨ap 63 [(1,.int .i64 leave_7),(2,.ptr 0 1 0 0),(5,.str s1),(6,.int .i64 ((e2:Nat):Int)),(7,.sl 1 1 1 0 l6 l6)],[(0,.vs [.int .i64 a_0,.int .i64 a_1,.int .i64 a_2,.imm v_3 (.ns .u64 a_4) 1 1 0 (List.length a_4),.int .i64 a_5,.int .u64 a_6]),(1,.ss l7)],2⟩
def fe(a_0:Int)(a_1:Int)(a_2:Int)(a_4:List Int)(a_5:Int)(a_6:Int) :T ((Nat×(List ByteArray))⊕(ay)) :=
  .need (lG 0 (List.length a_4) a_4)<|.need (kj (dA a_0 a_1 a_2 (cW 0 (List.length a_4) a_4) a_5 a_6))<|.leaf (.inl ((kL (dA a_0 a_1 a_2 (cW 0 (List.length a_4) a_4) a_5 a_6)),(kM (dA a_0 a_1 a_2 (cW 0 (List.length a_4) a_4) a_5 a_6))))
def ri(b8:Bool) :aA:=⟨ap 63 [(4,.bool false b8)],[],0⟩
def ff(a_0:Int)(a_1:Int)(a_2:Int)(a_4:List Int)(a_5:Int)(a_6:Int)(leave_7:Int)(s1:ByteArray)(e2:Nat)(l6:Nat)(l7:List ByteArray) :T ((Bool)⊕(ay)) :=
  .need (lG 0 (List.length a_4) a_4)<|.need (jq (cS a_0 a_5 a_6))<|.ask (s1.toList==(eK (cS a_0 a_5 a_6)).toList)
    (.ask (((e2:Nat):Int)==(0:Int))
      (.need (Nat.beq (List.length a_4) (List.length a_4))<|.need (Nat.beq l6 (List.length l7))<|.need (fw l6)<|.ask (lz (aN a_0 a_1 a_2 a_4 a_5 a_6) l7 leave_7)
        (.need (Nat.beq (List.length a_4) (List.length a_4))<|.need (Nat.beq l6 (List.length l7))<|.need (fw l6)<|.ask (lz (aN a_0 a_1 a_2 a_4 a_5 a_6) l7 (0:Int))
          (.leaf (.inl true))
          (.leaf (.inl false)))
        (.leaf (.inl false)))
      (.leaf (.inl false)))
    (.leaf (.inl false))
def qh(b8:Bool) :T ((Empty)⊕(ay)) :=
  .leaf (.inr (.r0 b8))
noncomputable def dI(a_0:Int)(a_1:Int)(a_2:Int)(a_4:List Int)(a_5:Int)(a_6:Int)(leave_7:Int) :Option ay:=uZ (bg ((ct a_0 a_1 a_2 a_4 a_5 a_6).run) fun (s1,e2) =>
  bg ((fa a_0 a_1 a_2 a_4 a_5 a_6).run) fun b3 =>
  bg ((fb a_0 a_1 a_2 a_4 a_5 a_6 b3).run) fun b4 =>
  bg ((bif b4 then bg ((fc a_0 a_1 a_2 a_4 a_5 a_6 s1 e2).run) fun b5 =>
  (qf b5).run else (qg).run)) fun _ =>
  bg ((fe a_0 a_1 a_2 a_4 a_5 a_6).run) fun (l6,l7) =>
  bg ((ff a_0 a_1 a_2 a_4 a_5 a_6 leave_7 s1 e2 l6 l7).run) fun b8 =>
  (qh b8).run)
theorem lB(a_0:Int)(a_1:Int)(a_2:Int)(v_3:Lv)(a_4:List Int)(a_5:Int)(a_6:Int)(leave_7:Int){x:ay}(h:dI a_0 a_1 a_2 a_4 a_5 a_6 leave_7=some x) :am prog hF [] [.agg [.int .i64 a_0,.int .i64 a_1,.int .i64 a_2,.imm v_3 (.ns .u64 a_4) 1 1 0 (List.length a_4),.int .i64 a_5,.int .u64 a_6],.int .i64 leave_7] (jg x) :=
  yB false jg lU h (Sg.cut 4 bh (cN lc (rc a_0 a_1 a_2 v_3 a_4 a_5 a_6 leave_7) [⟨[],[],[4]⟩,⟨[],[0],[1,2,5,6]⟩,⟨[],[0],[1,2,5,6]⟩]) (fun ⟨s1,e2⟩=>Sg.cut 1 bh (cN lc (re a_0 a_1 a_2 v_3 a_4 a_5 a_6 leave_7 s1 e2) [⟨[],[0],[1,2,5,6,20]⟩]) (fun b3=>Sg.cut 2 bh (cN lc (rf a_0 a_1 a_2 v_3 a_4 a_5 a_6 leave_7 s1 e2) [⟨[],[],[4]⟩,⟨[],[0],[1,2,5,6,23]⟩]) (fun b4=>Sg.cut 1 bh (wx (c:=.tmp 23) (kn:=false) (b:=b4) (by kernel_rfl:((((gH.drop 4).drop 1).drop 2).take 1)=[.cond (.tmp 23) (Fu ((((((gH.drop 4).drop 1).drop 2).take 1)).headD .skip)) (Fv ((((((gH.drop 4).drop 1).drop 2).take 1)).headD .skip))]) bh (by kernel_rfl) (Sg.cut 1 bh (cN lc rg [⟨[],[],[4]⟩,⟨[],[],[4]⟩,⟨[],[],[4]⟩,⟨[],[],[4]⟩]) (fun b5=>cN lc (lA a_0 a_1 a_2 v_3 a_4 a_5 a_6 leave_7 s1 e2) [⟨[],[],[4]⟩])) (cN lc (lA a_0 a_1 a_2 v_3 a_4 a_5 a_6 leave_7 s1 e2) [⟨[],[0],[1,2,5,6]⟩])) (fun _=>Sg.cut 1 bh (cN lc (rh a_0 a_1 a_2 v_3 a_4 a_5 a_6 leave_7 s1 e2) [⟨[],[0,17],[1,2,5,6,7]⟩]) (fun ⟨l6,l7⟩=>Sg.cut 1 bh (cN lc ri [⟨[],[],[4]⟩,⟨[],[],[4]⟩,⟨[],[],[4]⟩,⟨[],[],[4]⟩,⟨[],[],[4]⟩]) (fun b8=>cN lc vS [⟨[],[],[4]⟩])))))))
    (fun x=>by cases x with | r0 b9=>exact qj [.bool false b9])
def gI:Option ay→Bool
  | some _=>true
  | none=>false
def ko:Option ay→Bool
  | some (.r0 x)=>x
  | _=>false
theorem rj{x:Option ay}(h:gI x=true) :x=some (.r0 (ko x)):=by
  unfold gI at h
  split at h<;>first | rfl | (cases h;done) | (rename_i y;cases y;rfl)
noncomputable def lV:aH:=db hF (.cons (.agg (.cons (.int .i64) (.cons (.int .i64) (.cons (.int .i64) (.cons (.ns .u64) (.cons (.int .i64) (.cons (.int .u64) .nil))))))) (.cons (.int .i64) .nil)) fun t=>(fun q=>[⟨jg (.r0 (ko q)),[gI q]⟩]) (dI t.1.1 t.1.2.1 t.1.2.2.1 t.1.2.2.2.1.2 t.1.2.2.2.2.1 t.1.2.2.2.2.2.1 t.2.1)
theorem pv:aL prog lV:=aP fun t=>(ba (fun h=>lB t.1.1 t.1.2.1 t.1.2.2.1 t.1.2.2.2.1.1 t.1.2.2.2.1.2 t.1.2.2.2.2.1 t.1.2.2.2.2.2.1 t.2.1 (rj h)) bF)
noncomputable def sb:List aH:=lV::KZ
theorem Dr:aZ prog (bf sb):=aq pv lc
end
end Go.Plb.Seat
namespace Go.Plb.Seat
open Go Go.Plb Go.Proofs Go.RowKit Go.Shelf
set_option maxRecDepth 100000
set_option linter.unusedSimpArgs false
set_option linter.unusedVariables false
attribute [local go_sem] Oper.semAt_some
end Go.Plb.Seat
namespace Go.Plb.Seat
open Go Go.Plb
set_option linter.unusedSimpArgs false
set_option linter.unusedVariables false
set_option maxRecDepth 100000
structure Rd where
  l:List sN
  m:Int
  n:Int
  ws:List Int
  on:Bool
  row:Int
def K0(ws:List Int)(n:Nat)(i:Nat) :ByteArray:=qc ((ws.drop (i*n)).take n)
def Lm(ws:List Int) :Prop:=∀ w∈ws,0≤w∧w<18446744073709551616
def sN.u64(a:sN) :Prop:=Lm a.ws∧0≤a.t∧a.t<18446744073709551616
theorem B5{k m n:Int}{len:Nat}{y t:Int}(h:jv k m n len y t=true) :(0≤m∧m≤512)∧(0≤n∧n≤512)∧(len:Int)=m*n∧dO k y t=true:=by
  obtain ⟨h1,h2,h3,h4,h5,_,_⟩:=jH h
  refine ⟨⟨h1,h2⟩,⟨h3,h4⟩,h5,?_⟩
  unfold jv at h
  simp only [Bool.cond_eq_ite,Bool.if_false_right,Bool.and_eq_true,decide_eq_true_eq,beq_iff_eq,ge_iff_le] at h
  exact h.2.2.2.2.2.1
def Rd.lines(r:Rd) :List ByteArray:=(r.l.map sN.lines).flatten++(bif r.on then fh r.m r.n::(bif decide (r.n>0) then (List.range r.row.toNat).map (K0 r.ws r.n.toNat) else []) else [])
theorem B6(k m n:Int)(ws:List Int)(y t:Int) :dX k m n ws y t=some (.r0 (jv k m n ws.length y t)):=by
  have out:(mq k m n ws y t).run=some (.inl true)→jv k m n ws.length y t=false→dX k m n ws y t=some (.r0 (jv k m n ws.length y t)):=by
    intro h1 h2
    rw [h2]
    exact cq (au h1 (jp (cz rfl)))
  by_cases c1:m<0
  · exact out (jY (decide_eq_true c1) rfl) (by unfold jv;rw [decide_eq_false (show ¬ m≥0 by omega)];rfl)
  have d1:decide (m≥0)=true:=decide_eq_true (by omega)
  by_cases c2:m>512
  · exact out (dx (decide_eq_false c1) (jY (decide_eq_true c2) rfl)) (by unfold jv;rw [d1,decide_eq_false (show ¬ m≤512 by omega)];rfl)
  have d2:decide (m≤512)=true:=decide_eq_true (by omega)
  by_cases c3:n<0
  · exact out (dx (decide_eq_false c1) (dx (decide_eq_false c2) (jY (decide_eq_true c3) rfl))) (by unfold jv;rw [d1,d2,decide_eq_false (show ¬ n≥0 by omega)];rfl)
  have d3:decide (n≥0)=true:=decide_eq_true (by omega)
  by_cases c4:n>512
  · exact out (dx (decide_eq_false c1) (dx (decide_eq_false c2) (dx (decide_eq_false c3) (jY (decide_eq_true c4) rfl)))) (by unfold jv;rw [d1,d2,d3,decide_eq_false (show ¬ n≤512 by omega)];rfl)
  have d4:decide (n≤512)=true:=decide_eq_true (by omega)
  have hmn:kp .i64 (m*n)=true:=by
    have h1:=Int.mul_nonneg (show 0≤m by omega) (show 0≤n by omega)
    have h2:=Int.mul_le_mul (show m≤512 by omega) (show n≤512 by omega) (show 0≤n by omega) (by omega)
    rw [cB]
    omega
  by_cases c5:((ws.length:Nat):Int)=m*n
  · have d5 : (((ws.length : Nat) : Int) == m * n) = true := beq_iff_eq.2 c5
    have h4:(mq k m n ws y t).run=some (.inl (!dO k y t)):=by
      simp only [mq,FL]
      exact dx (decide_eq_false c1) (dx (decide_eq_false c2) (dx (decide_eq_false c3) (dx (decide_eq_false c4) (aQ hmn (dx (bne_eq_false_iff_eq.2 c5) (sD (jo rfl)))))))
    cases ha:dO k y t with
    | false=>exact out (by rw [h4,ha];rfl) (by unfold jv;rw [d1,d2,d3,d4,d5,ha];rfl)
    | true =>
      have hv:jv k m n ws.length y t=(bif m==n then true else !(pq k).2.2.2.2):=by unfold jv;rw [d1,d2,d3,d4,d5,ha];rfl
      rw [hv]
      rw [ha] at h4
      by_cases e:m=n
      · rw [beq_iff_eq.2 e,cond_true]
        exact cq (au h4 (au (a:=true) (bt (jY (beq_iff_eq.2 e) rfl)) rfl))
      · rw [beq_eq_false_iff_ne.2 e,cond_false]
        by_cases k1:k=1
        · subst k1
          exact cq (au h4 (au (a:=false) (bt (dx (beq_eq_false_iff_ne.2 e) (bt rfl))) rfl))
        · by_cases k2:k=2
          · subst k2
            exact cq (au h4 (au (a:=false) (bt (dx (beq_eq_false_iff_ne.2 e) (cz rfl))) rfl))
          · have hs:(pq k).2.2.2.2=false:=by
              unfold pq
              rw [if_neg k1,if_neg k2]
              repeat' split
              all_goals rfl
            rw [hs]
            exact cq (au h4 (au (a:=true) (bt (dx (beq_eq_false_iff_ne.2 e) (jY (bne_iff_ne.2 k1) (congrArg (fun b=>some (Sum.inl b)) (bne_iff_ne.2 k2))))) rfl))
  · exact out (dx (decide_eq_false c1) (dx (decide_eq_false c2) (dx (decide_eq_false c3) (dx (decide_eq_false c4) (aQ hmn (jY (bne_iff_ne.2 c5) rfl)))))) (by unfold jv;rw [d1,d2,d3,d4,beq_eq_false_iff_ne.2 c5];rfl)
theorem EF{k m n:Int}{ws:List Int}{y t:Int}(h:jv k m n ws.length y t=true) :dA k m n ws y t=some (.r0 (aN k m n ws y t).length (aN k m n ws y t)):=by
  obtain ⟨hm,hn,hl,ha⟩:=B5 h
  obtain ⟨M,rfl⟩:=Int.eq_ofNat_of_zero_le hm.1
  obtain ⟨N,rfl⟩:=Int.eq_ofNat_of_zero_le hn.1
  have hMN:ws.length=M*N:=Int.ofNat_inj.1 (by rw [Int.natCast_mul];exact hl)
  have hle:M*N≤512*512:=Nat.mul_le_mul (by omega) (by omega)
  obtain ⟨row,hrow⟩:∃ row:Nat→ByteArray,row=fun i=>qc ((ws.drop (i*N)).take N):=⟨_,rfl⟩
  obtain ⟨K,hK⟩:∃ K,K=(if 0<N then M else 0):=⟨_,rfl⟩
  have hlin:aN k (M:Int) (N:Int) ws y t=(fh M N::(List.range K).map row)++[jG k y t]:=by
    unfold aN
    rw [h,cond_true,tD,tD,hrow,hK]
    by_cases h0:0<N
    · rw [decide_eq_true (show (N:Int)>0 by omega),if_pos h0]
      rfl
    · rw [decide_eq_false (show ¬ (N:Int)>0 by omega),if_neg h0]
      rfl
  have h12:(pY (M:Int) (N:Int)).run=some (.inl [fh M N]):=by
    have s1:=ed (M:Int)
    have s2:=ed (N:Int)
    have s3:(ByteArray.mk #[109,97,116,114,105,120,32]).size=7:=rfl
    have s4:(ByteArray.mk #[32]).size=1:=rfl
    exact aQ (by rw [cB];omega) (aQ (decide_eq_true (by omega)) (aQ (decide_eq_true (by rw [ByteArray.size_append];omega)) (aQ (by rw [cB];omega) (aQ (decide_eq_true (by rw [ByteArray.size_append,ByteArray.size_append];omega)) rfl))))
  have hlen:∀ j,(fh M N::(List.range j).map row).length=j+1:=fun j=>by simp
  unfold dA
  refine cq (au h12 (au (a:=(K+1,K+1,fh M N::(List.range K).map row)) (qH (fun j=>(j+1,j+1,j,fh M N::(List.range j).map row)) K rfl (fun j hj=>?_) ?_) (au (a:=((aN k M N ws y t).length,aN k M N ws y t)) ?_ rfl)))
  · have hN0:0<N:=by
      by_cases h0:0<N
      · exact h0
      · rw [if_neg h0] at hK;omega
    have hjM:j<M:=by rw [if_pos hN0] at hK;omega
    have t14:(pZ (M:Int) (N:Int) j).run=some (.inl true):=jY (decide_eq_true (by omega)) (congrArg (fun b=>some (Sum.inl b)) (decide_eq_true (by omega)))
    have idx:((j:Nat):Int)*((N:Nat):Int)=((j*N:Nat):Int):=(Int.natCast_mul j N).symm
    have hb:j*N+N≤ws.length:=by
      have:=Nat.mul_le_mul_right N (show j+1≤M from hjM)
      rw [Nat.succ_mul] at this
      omega
    have e0:((j*N:Nat):Int)+(N:Int)=((j*N+N:Nat):Int):=by omega
    have e3:cW (j*N) (j*N+N-j*N) ws=(ws.drop (j*N)).take N:=by rw [yA,Nat.add_sub_cancel_left]
    have hr:=Di ((ws.drop (j*N)).take N) (by rw [List.length_take];omega)
    refine au t14 (au (a:=(j+2,fh M N::(List.range (j+1)).map row)) ?_ (aQ (by rw [cB];omega) rfl))
    simp only [qa,idx,e0,tD,e3,hr]
    refine cz (aQ (by rw [cB];omega) (aQ (by rw [cB];omega) (aQ (by rw [cB];omega) (aQ (by rw [JQ];omega) (aQ (by rw [JQ];omega) (aQ (by rw [oo];omega) (jo (aQ (by rw [bR];omega) (aQ (by rw [bR];omega) (jo (aQ (by rw [bR,hlen];omega) ?_)))))))))))
    have e5:List.take (j+1) (fh M N::(List.range j).map row)=fh M N::(List.range j).map row:=List.take_of_length_le (by rw [hlen];omega)
    have e6:(fh M N::(List.range j).map row)++List.take 1 [qc ((ws.drop (j*N)).take N)]=fh M N::(List.range (j+1)).map row:=by
      rw [List.range_succ,List.map_append,hrow];rfl
    show some (Sum.inl (j+1+1,List.take (j+1) (fh M N::(List.range j).map row)++List.take 1 [qc ((ws.drop (j*N)).take N)]))=_
    rw [e5,e6]
  · by_cases h0:0<N
    · rw [if_pos h0] at hK
      subst hK
      exact au (a:=false) (dx (decide_eq_false (by omega)) rfl) (jp (bt rfl))
    · rw [if_neg h0] at hK
      subst hK
      by_cases hM:(0:Int)<(M:Int)
      · exact au (a:=false) (jY (decide_eq_true hM) (congrArg (fun b=>some (Sum.inl b)) (decide_eq_false (by omega)))) (jp (bt rfl))
      · exact au (a:=false) (dx (decide_eq_false hM) rfl) (jp (bt rfl))
  · have hK5:K≤512:=by rw [hK];split<;>omega
    simp only [qb,ln,AA ha]
    refine sD (jo (aQ (by rw [bR];omega) (aQ (by rw [bR];omega) (jo (aQ (by rw [bR,hlen];omega) ?_)))))
    have e5:List.take (K+1) (fh M N::(List.range K).map row)=fh M N::(List.range K).map row:=List.take_of_length_le (by rw [hlen];omega)
    show some (Sum.inl (K+1+1,List.take (K+1) (fh M N::(List.range K).map row)++[jG k y t]))=_
    rw [e5,hlin,List.length_append,hlen]
    rfl
theorem AL(L:List ByteArray)(most:Int) :∀ (d n:Nat),n+d=L.length→vQ L most (L.drop n) n=true
  | 0,n,h=>by
    rw [List.drop_of_length_le (by omega)]
    exact decide_eq_true (by omega)
  | d+1,n,h=>by
    have hn:n<L.length:=by omega
    have hx:L.getD n ByteArray.empty=L[n]:=by rw [List.getD_eq_getElem?_getD,List.getElem?_eq_getElem hn];rfl
    rw [List.drop_eq_getElem_cons hn,vQ,hx,decide_eq_true rfl,decide_eq_false (by omega)]
    simp only [Bool.not_true,Bool.or_false,cond_false]
    cases decide (((n+1:Nat):Int)=most) with
    | true=>rfl
    | false=>exact AL L most d (n+1) (by omega)
theorem FU(L:List ByteArray)(most:Int) :lz L L most=true:=AL L most L.length 0 (by omega)
theorem Hw(k m n:Int)(ws:List Int)(y t leave:Int) :dI k m n ws y t leave=some (.r0 true):=by
  unfold dI
  by_cases h2:ws.length>200
  · exact cq (jp (jY (decide_eq_true (by omega)) rfl))
  have h9a:decide (((ws.length:Nat):Int)>(200:Int))=false:=decide_eq_false (by omega)
  have h10:(fa k m n ws y t).run=some (.inl false):=by
    simp only [fa,ln,kV,B6]
    refine sD (jo (sD (jo ?_)))
    show some (Sum.inl (!(jv k m n ws.length y t==jv k m n ws.length y t)))=_
    rw [beq_self_eq_true]
    rfl
  have h11:(fb k m n ws y t false).run=some (.inl (!jv k m n ws.length y t)):=by
    simp only [fb,ln,B6]
    exact bt (sD (jo rfl))
  have e0:((ByteArray.empty).toList==ByteArray.empty.toList)=true:=by rw [tN];exact decide_eq_true rfl
  cases hm:jv k m n ws.length y t with
  | false =>
    rw [hm] at h11
    have h9:(ct k m n ws y t).run=some (.inl (ByteArray.empty,2)):=by
      simp only [ct,ln,kV,hm]
      exact dx h9a (sD (jo (cz rfl)))
    have hl:aN k m n ws y t=[]:=by unfold aN;rw [hm];rfl
    have h13:(fc k m n ws y t ByteArray.empty 2).run=some (.inl true):=by
      simp only [fc,hl]
      exact jY e0 (cz (aQ (by simp) (cz rfl)))
    exact cq (au h9 (au h10 (au h11 (jp (au h13 rfl)))))
  | true =>
    rw [hm] at h11
    obtain ⟨_,_,_,ha⟩:=B5 hm
    obtain ⟨_,_,_,_,_,hy0,hy3⟩:=jH hm
    have hli:=qP k y t (by rw [cB];omega)
    have h9:(ct k m n ws y t).run=some (.inl (jG k y t,0)):=by
      simp only [ct,ln,kV,hm,hli]
      exact dx h9a (sD (jo (bt (sD (jo rfl)))))
    have h17:(fe k m n ws y t).run=some (.inl ((aN k m n ws y t).length,aN k m n ws y t)):=by
      simp only [fe,ln,EF hm]
      exact sD (jo rfl)
    have hlen:(aN k m n ws y t).length≤514:=(tH (a:=⟨k,m,n,ws,y,t⟩) hm).1
    have hs:∀ b:Int,lz (aN k m n ws y t) (aN k m n ws y t) b=true:=FU _
    have h18:(ff k m n ws y t leave (jG k y t) 0 (aN k m n ws y t).length (aN k m n ws y t)).run=some (.inl true):=by
      simp only [ff,ln,AA ha,hs]
      have q1:Nat.beq ws.length ws.length=true:=by simp
      have q2:Nat.beq (aN k m n ws y t).length (aN k m n ws y t).length=true:=by simp
      have q3:fw (aN k m n ws y t).length=true:=Nat.ble_eq_true_of_le (by omega)
      exact sD (jo (jY (by show ((jG k y t).toList==(jG k y t).toList)=true;rw [tN];exact decide_eq_true rfl) (cz (aQ q1 (aQ q2 (aQ q3 (cz (aQ q1 (aQ q2 (aQ q3 (cz rfl)))))))))))
    exact cq (au h9 (au h10 (au h11 (au rfl (au h17 (au h18 rfl))))))
end Go.Plb.Seat
