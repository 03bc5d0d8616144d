/-
  Part 4 of what the claim leans on: an evaluator of the model, proved sound; the contracts of the functions.
-/
import Derived.Test.YtacdcghekbbjiaaGreatDoorA3
namespace Go.Plb.Seat
open Go Go.Plb
set_option linter.unusedVariables false
set_option maxRecDepth 100000
noncomputable section
inductive aa where
  | r0 (b13:Bool) (a14:Nat) (a15:Nat) (i17:Int) (i18:Int) (i19:Int) (a20:Nat) (a21:Nat) (i22:Int) (i23:Int) (b24:Bool) (i25:Int) (a26:Nat) (l27:List Int) (l28:List Int) (l29:List Int) (l30:List (List Int)) (l31:List Int) (l32:List Int) (l33:List Int)
  | r1 (b34:Bool) (a35:Nat) (a36:Nat) (i37:Int) (i38:Int) (b39:Bool) (a40:Nat) (l41:List Int) (l42:List Int) (l43:List Int) (l44:List (List Int)) (l45:List Int) (l46:List Int) (l47:List Int)
  | r2 (b48:Bool) (a49:Nat) (a50:Nat) (i51:Int) (i52:Int) (i53:Int) (a54:Nat) (i55:Int) (i56:Int) (b57:Bool) (i58:Int) (a59:Nat) (l60:List Int) (l61:List Int) (l62:List Int) (l63:List (List Int)) (l64:List Int) (l65:List Int) (l66:List Int)
def kW:aa→AE×az
  | .r0 b13 a14 a15 i17 i18 i19 a20 a21 i22 i23 b24 i25 a26 l27 l28 l29 l30 l31 l32 l33=>(.ret,⟨ao 164 [(4,.bool false b13)],[(0,.vs [.sl 1 6 6 0 a14 a15,.int .i64 i17,.int .i64 i18,.int .i64 i19,.sl 2 1 1 0 a20 a21,.int .i64 i22,.int .u64 i23,.bool false b24,.int .i64 i25]),(1,.cols a26 [.ci .i64 l27,.ci .i64 l28,.ci .i64 l29,.cns .u64 l30,.ci .i64 l31,.ci .u64 l32]),(2,.ns .u64 l33)],3⟩)
  | .r1 b34 a35 a36 i37 i38 b39 a40 l41 l42 l43 l44 l45 l46 l47=>(.ret,⟨ao 164 [(4,.bool false b34)],[(0,.vs [.sl 1 6 6 0 a35 a36,.int .i64 (0:Int),.int .i64 i37,.int .i64 i38,.nsl,.int .i64 (0:Int),.int .u64 (0:Int),.bool false b39,.int .i64 (0:Int)]),(1,.cols a40 [.ci .i64 l41,.ci .i64 l42,.ci .i64 l43,.cns .u64 l44,.ci .i64 l45,.ci .u64 l46]),(2,.ns .u64 l47)],3⟩)
  | .r2 b48 a49 a50 i51 i52 i53 a54 i55 i56 b57 i58 a59 l60 l61 l62 l63 l64 l65 l66=>(.ret,⟨ao 164 [(4,.bool false b48)],[(0,.vs [.sl 1 6 6 0 a49 a50,.int .i64 i51,.int .i64 i52,.int .i64 i53,.sl 3 1 1 0 a54 a54,.int .i64 i55,.int .u64 i56,.bool false b57,.int .i64 i58]),(1,.cols a59 [.ci .i64 l60,.ci .i64 l61,.ci .i64 l62,.cns .u64 l63,.ci .i64 l64,.ci .u64 l65]),(3,.ns .u64 l66)],4⟩)
theorem bj:qm kW:=by intro x;cases x<;>(intro h;cases h)
theorem wn(id:Nat) :ow id kW:=by intro x;cases x<;>(intro h;cases h)
def dZ:aa→lX
  | .r0 b13 a14 a15 i17 i18 i19 a20 a21 i22 i23 b24 i25 a26 l27 l28 l29 l30 l31 l32 l33=>⟨.bool false b13,[some (.vs [.sl 1 6 6 0 a14 a15,.int .i64 i17,.int .i64 i18,.int .i64 i19,.sl 2 1 1 0 a20 a21,.int .i64 i22,.int .u64 i23,.bool false b24,.int .i64 i25]),some (.cols a26 [.ci .i64 l27,.ci .i64 l28,.ci .i64 l29,.cns .u64 l30,.ci .i64 l31,.ci .u64 l32]),some (.ns .u64 l33)]⟩
  | .r1 b34 a35 a36 i37 i38 b39 a40 l41 l42 l43 l44 l45 l46 l47=>⟨.bool false b34,[some (.vs [.sl 1 6 6 0 a35 a36,.int .i64 (0:Int),.int .i64 i37,.int .i64 i38,.nsl,.int .i64 (0:Int),.int .u64 (0:Int),.bool false b39,.int .i64 (0:Int)]),some (.cols a40 [.ci .i64 l41,.ci .i64 l42,.ci .i64 l43,.cns .u64 l44,.ci .i64 l45,.ci .u64 l46]),some (.ns .u64 l47)]⟩
  | .r2 b48 a49 a50 i51 i52 i53 a54 i55 i56 b57 i58 a59 l60 l61 l62 l63 l64 l65 l66=>⟨.bool false b48,[some (.vs [.sl 1 6 6 0 a49 a50,.int .i64 i51,.int .i64 i52,.int .i64 i53,.sl 3 1 1 0 a54 a54,.int .i64 i55,.int .u64 i56,.bool false b57,.int .i64 i58]),some (.cols a59 [.ci .i64 l60,.ci .i64 l61,.ci .i64 l62,.cns .u64 l63,.ci .i64 l64,.ci .u64 l65]),none,some (.ns .u64 l66)]⟩
noncomputable def uH:List Code:=cJ (rx bE)
def wo(n_0:Nat)(c_1:Nat)(i_2:Int)(i_3:Int)(i_4:Int)(n_5:Nat)(c_6:Nat)(i_7:Int)(i_8:Int)(b_9:Bool)(i_10:Int)(n_11:Nat)(l_12:List Int)(l_13:List Int)(l_14:List Int)(l_15:List (List Int))(l_16:List Int)(l_17:List Int)(l_18:List Int)(s_19:ByteArray)(_:Unit) :az:=⟨ao 164 [(0,.ptr 0 1 0 0),(1,.str s_19)],[(0,.vs [.sl 1 6 6 0 n_0 c_1,.int .i64 i_2,.int .i64 i_3,.int .i64 i_4,.sl 2 1 1 0 n_5 c_6,.int .i64 i_7,.int .u64 i_8,.bool false b_9,.int .i64 i_10]),(1,.cols n_11 [.ci .i64 l_12,.ci .i64 l_13,.ci .i64 l_14,.cns .u64 l_15,.ci .i64 l_16,.ci .u64 l_17]),(2,.ns .u64 l_18)],3⟩
def uI:T ((Unit)⊕(aa)) :=
  .leaf (.inl ())
def oa(n_0:Nat)(c_1:Nat)(i_2:Int)(i_3:Int)(i_4:Int)(n_5:Nat)(c_6:Nat)(i_7:Int)(i_8:Int)(b_9:Bool)(i_10:Int)(n_11:Nat)(l_12:List Int)(l_13:List Int)(l_14:List Int)(l_15:List (List Int))(l_16:List Int)(l_17:List Int)(l_18:List Int)(s_19:ByteArray)(_:Unit) :az:=⟨ao 164 [(0,.ptr 0 1 0 0),(1,.str s_19)],[(0,.vs [.sl 1 6 6 0 n_0 c_1,.int .i64 i_2,.int .i64 i_3,.int .i64 i_4,.sl 2 1 1 0 n_5 c_6,.int .i64 i_7,.int .u64 i_8,.bool false b_9,.int .i64 i_10]),(1,.cols n_11 [.ci .i64 l_12,.ci .i64 l_13,.ci .i64 l_14,.cns .u64 l_15,.ci .i64 l_16,.ci .u64 l_17]),(2,.ns .u64 l_18)],3⟩
noncomputable def jJ:List Code:=cJ (inBlock ((((uH.drop 1).take 1)).headD .skip))
def wq(n_0:Nat)(c_1:Nat)(i_2:Int)(i_3:Int)(i_4:Int)(n_5:Nat)(c_6:Nat)(i_7:Int)(i_8:Int)(b_9:Bool)(i_10:Int)(n_11:Nat)(l_12:List Int)(l_13:List Int)(l_14:List Int)(l_15:List (List Int))(l_16:List Int)(l_17:List Int)(l_18:List Int)(s_19:ByteArray)(b1:Bool) :az:=⟨ao 164 [(0,.ptr 0 1 0 0),(1,.str s_19),(10,.bool false b1)],[(0,.vs [.sl 1 6 6 0 n_0 c_1,.int .i64 i_2,.int .i64 i_3,.int .i64 i_4,.sl 2 1 1 0 n_5 c_6,.int .i64 i_7,.int .u64 i_8,.bool false b_9,.int .i64 i_10]),(1,.cols n_11 [.ci .i64 l_12,.ci .i64 l_13,.ci .i64 l_14,.cns .u64 l_15,.ci .i64 l_16,.ci .u64 l_17]),(2,.ns .u64 l_18)],3⟩
def uJ(b_9:Bool) :T ((Bool)⊕((Unit)⊕(aa))) :=
  .leaf (.inl (!b_9))
def oc(n_0:Nat)(c_1:Nat)(i_2:Int)(i_3:Int)(i_4:Int)(n_5:Nat)(c_6:Nat)(i_7:Int)(i_8:Int)(b_9:Bool)(i_10:Int)(n_11:Nat)(l_12:List Int)(l_13:List Int)(l_14:List Int)(l_15:List (List Int))(l_16:List Int)(l_17:List Int)(l_18:List Int)(s_19:ByteArray)(_:Unit) :az:=⟨ao 164 [(0,.ptr 0 1 0 0),(1,.str s_19)],[(0,.vs [.sl 1 6 6 0 n_0 c_1,.int .i64 i_2,.int .i64 i_3,.int .i64 i_4,.sl 2 1 1 0 n_5 c_6,.int .i64 i_7,.int .u64 i_8,.bool false b_9,.int .i64 i_10]),(1,.cols n_11 [.ci .i64 l_12,.ci .i64 l_13,.ci .i64 l_14,.cns .u64 l_15,.ci .i64 l_16,.ci .u64 l_17]),(2,.ns .u64 l_18)],3⟩
def wt(n_0:Nat)(c_1:Nat)(i_2:Int)(i_3:Int)(i_4:Int)(n_5:Nat)(c_6:Nat)(i_7:Int)(i_8:Int)(b_9:Bool)(i_10:Int)(n_11:Nat)(l_12:List Int)(l_13:List Int)(l_14:List Int)(l_15:List (List Int))(l_16:List Int)(l_17:List Int)(l_18:List Int)(s_19:ByteArray) :(List ByteArray)×Nat→az:=fun (w2,w3)=>⟨ao 164 [(0,.ptr 0 1 0 0),(1,.str s_19),(5,.imm .free (.ss w2) 1 1 0 w3)],[(0,.vs [.sl 1 6 6 0 n_0 c_1,.int .i64 i_2,.int .i64 i_3,.int .i64 i_4,.sl 2 1 1 0 n_5 c_6,.int .i64 i_7,.int .u64 i_8,.bool false b_9,.int .i64 i_10]),(1,.cols n_11 [.ci .i64 l_12,.ci .i64 l_13,.ci .i64 l_14,.cns .u64 l_15,.ci .i64 l_16,.ci .u64 l_17]),(2,.ns .u64 l_18)],3⟩
def uK(s_19:ByteArray) :T (((List ByteArray)×Nat)⊕((Unit)⊕(aa))) :=
  .need (dY (cn s_19 (ByteArray.mk #[32])))<|.leaf (.inl ((eF (cn s_19 (ByteArray.mk #[32]))),(eD (cn s_19 (ByteArray.mk #[32])))))
def wu(n_0:Nat)(c_1:Nat)(n_11:Nat)(l_12:List Int)(l_13:List Int)(l_14:List Int)(l_15:List (List Int))(l_16:List Int)(l_17:List Int)(l_18:List Int) :Bool×Int×Int×Bool→az:=fun (b4,i5,i6,b7)=>⟨ao 164 [(4,.bool false b4)],[(0,.vs [.sl 1 6 6 0 n_0 c_1,.int .i64 (0:Int),.int .i64 i5,.int .i64 i6,.nsl,.int .i64 (0:Int),.int .u64 (0:Int),.bool false b7,.int .i64 (0:Int)]),(1,.cols n_11 [.ci .i64 l_12,.ci .i64 l_13,.ci .i64 l_14,.cns .u64 l_15,.ci .i64 l_16,.ci .u64 l_17]),(2,.ns .u64 l_18)],3⟩
def uL(n_0:Nat)(c_1:Nat)(i_2:Int)(i_3:Int)(i_4:Int)(n_5:Nat)(c_6:Nat)(i_7:Int)(i_8:Int)(b_9:Bool)(i_10:Int)(n_11:Nat)(l_12:List Int)(l_13:List Int)(l_14:List Int)(l_15:List (List Int))(l_16:List Int)(l_17:List Int)(l_18:List Int)(s_19:ByteArray)(w2:List ByteArray)(w3:Nat) :T ((Bool×Int×Int×Bool)⊕((Unit)⊕(aa))) :=
  .ask (((w3:Nat):Int) != (3:Int))
    (.leaf (.inr (.inr (.r0 false n_0 c_1 i_2 i_3 i_4 n_5 c_6 i_7 i_8 b_9 i_10 n_11 l_12 l_13 l_14 l_15 l_16 l_17 l_18))))
    (.need (th (1:Int) w3)<|.need (jo 1 (List.length w2))<|.need (jO (List.getD w2 1 ByteArray.empty).size)<|.need (th (2:Int) w3)<|.need (jo 2 (List.length w2))<|.need (jO (List.getD w2 2 ByteArray.empty).size)<|.need (dr (bV (eh (List.getD w2 1 ByteArray.empty))))<|.ask (dj (bV (eh (List.getD w2 1 ByteArray.empty))))
      (.need (dr (bV (eh (List.getD w2 2 ByteArray.empty))))<|.ask (dj (bV (eh (List.getD w2 2 ByteArray.empty))))
        (.need (fF (dH (eh (List.getD w2 1 ByteArray.empty)) (eh (List.getD w2 2 ByteArray.empty))))<|.leaf (.inl (((gQ (dH (eh (List.getD w2 1 ByteArray.empty)) (eh (List.getD w2 2 ByteArray.empty)))).toList==s_19.toList),(eh (List.getD w2 1 ByteArray.empty)),(eh (List.getD w2 2 ByteArray.empty)),true)))
        (.leaf (.inl (false,(eh (List.getD w2 1 ByteArray.empty)),(eh (List.getD w2 2 ByteArray.empty)),true))))
      (.leaf (.inl (false,(eh (List.getD w2 1 ByteArray.empty)),(eh (List.getD w2 2 ByteArray.empty)),true))))
def uM(n_0:Nat)(c_1:Nat)(n_11:Nat)(l_12:List Int)(l_13:List Int)(l_14:List Int)(l_15:List (List Int))(l_16:List Int)(l_17:List Int)(l_18:List Int)(b4:Bool)(i5:Int)(i6:Int)(b7:Bool) :T ((Unit)⊕((Unit)⊕(aa))) :=
  .leaf (.inr (.inr (.r1 b4 n_0 c_1 i5 i6 b7 n_11 l_12 l_13 l_14 l_15 l_16 l_17 l_18)))
def wv(n_0:Nat)(c_1:Nat)(i_2:Int)(i_3:Int)(i_4:Int)(n_5:Nat)(c_6:Nat)(i_7:Int)(i_8:Int)(b_9:Bool)(i_10:Int)(n_11:Nat)(l_12:List Int)(l_13:List Int)(l_14:List Int)(l_15:List (List Int))(l_16:List Int)(l_17:List Int)(l_18:List Int)(s_19:ByteArray)(b8:Bool) :az:=⟨ao 164 [(0,.ptr 0 1 0 0),(1,.str s_19),(68,.bool false b8)],[(0,.vs [.sl 1 6 6 0 n_0 c_1,.int .i64 i_2,.int .i64 i_3,.int .i64 i_4,.sl 2 1 1 0 n_5 c_6,.int .i64 i_7,.int .u64 i_8,.bool false b_9,.int .i64 i_10]),(1,.cols n_11 [.ci .i64 l_12,.ci .i64 l_13,.ci .i64 l_14,.cns .u64 l_15,.ci .i64 l_16,.ci .u64 l_17]),(2,.ns .u64 l_18)],3⟩
def uN(i_3:Int)(i_4:Int)(i_10:Int) :T ((Bool)⊕((Unit)⊕(aa))) :=
  .ask (decide (i_10<i_3))
    (.leaf (.inl (decide (i_4>(0:Int)))))
    (.leaf (.inl false))
def uO(n_0:Nat)(c_1:Nat)(i_2:Int)(i_3:Int)(i_4:Int)(n_5:Nat)(c_6:Nat)(i_7:Int)(i_8:Int)(b_9:Bool)(i_10:Int)(n_11:Nat)(l_12:List Int)(l_13:List Int)(l_14:List Int)(l_15:List (List Int))(l_16:List Int)(l_17:List Int)(l_18:List Int)(s_19:ByteArray)(b8:Bool) :T ((Unit)⊕((Unit)⊕(aa))) :=
  .ask b8
    (.alt 0
      (.need (lr s_19)<|.need (jO s_19.size)<|.need (eH ((n_5+(List.length (fE s_19)))*8) 140737488355328)<|.need (eH (n_5+(List.length (fE s_19))) 9223372036854775807)<|.need (eH (List.length (fE s_19)) (List.length (fE s_19)))<|.need (eH n_5 (List.length l_18))<|.need (jQ .i64 (i_10+(1:Int)))<|.ask (0==(0:Int))
        (.leaf (.inr (.inr (.r2 ((((List.length (fE s_19)):Nat):Int)==i_4) n_0 c_1 i_2 i_3 i_4 (n_5+(List.length (fE s_19))) i_7 i_8 b_9 (i_10+(1:Int)) n_11 l_12 l_13 l_14 l_15 l_16 l_17 ((List.take n_5 l_18)++(List.take (List.length (fE s_19)) (fE s_19)))))))
        (.leaf (.inr (.inr (.r2 false n_0 c_1 i_2 i_3 i_4 (n_5+(List.length (fE s_19))) i_7 i_8 b_9 (i_10+(1:Int)) n_11 l_12 l_13 l_14 l_15 l_16 l_17 ((List.take n_5 l_18)++(List.take (List.length (fE s_19)) (fE s_19))))))))
      (.alt 1
        (.need (!lr s_19)<|.need (jO s_19.size)<|.need (jQ .i64 (i_10+(1:Int)))<|.ask (4==(0:Int))
          (.leaf (.inr (.inr (.r0 ((0:Int)==i_4) n_0 c_1 i_2 i_3 i_4 n_5 c_6 i_7 i_8 b_9 (i_10+(1:Int)) n_11 l_12 l_13 l_14 l_15 l_16 l_17 l_18))))
          (.leaf (.inr (.inr (.r0 false n_0 c_1 i_2 i_3 i_4 n_5 c_6 i_7 i_8 b_9 (i_10+(1:Int)) n_11 l_12 l_13 l_14 l_15 l_16 l_17 l_18)))))
        (.fail)))
    (.leaf (.inl ()))
def uP:T ((Unit)⊕((Unit)⊕(aa))) :=
  .leaf (.inl ())
def ww(n_0:Nat)(c_1:Nat)(i_2:Int)(i_3:Int)(i_4:Int)(n_5:Nat)(c_6:Nat)(i_7:Int)(i_8:Int)(b_9:Bool)(i_10:Int)(n_11:Nat)(l_12:List Int)(l_13:List Int)(l_14:List Int)(l_15:List (List Int))(l_16:List Int)(l_17:List Int)(l_18:List Int) :Nat×Int×Int×Int→az:=fun (e9,i10,i11,i12)=>⟨ao 164 [(0,.ptr 0 1 0 0),(8,.ptr 3 1 0 0),(9,.int .i64 ((e9:Nat):Int))],[(0,.vs [.sl 1 6 6 0 n_0 c_1,.int .i64 i_2,.int .i64 i_3,.int .i64 i_4,.sl 2 1 1 0 n_5 c_6,.int .i64 i_7,.int .u64 i_8,.bool false b_9,.int .i64 i_10]),(1,.cols n_11 [.ci .i64 l_12,.ci .i64 l_13,.ci .i64 l_14,.cns .u64 l_15,.ci .i64 l_16,.ci .u64 l_17]),(2,.ns .u64 l_18),(3,.vs [.int .i64 i10,.int .i64 (0:Int),.int .i64 (0:Int),.nsl,.int .i64 i11,.int .u64 i12])],4⟩
def uQ(s_19:ByteArray) :T ((Nat×Int×Int×Int)⊕(aa)) :=
  .need (dX (bc s_19))<|.leaf (.inl ((er (bc s_19)),(eu (bc s_19)),(ew (bc s_19)),(ez (bc s_19))))
def uR:T ((Empty)⊕(aa)) :=
  .fail
noncomputable def kX(n_0:Nat)(c_1:Nat)(i_2:Int)(i_3:Int)(i_4:Int)(n_5:Nat)(c_6:Nat)(i_7:Int)(i_8:Int)(b_9:Bool)(i_10:Int)(n_11:Nat)(l_12:List Int)(l_13:List Int)(l_14:List Int)(l_15:List (List Int))(l_16:List Int)(l_17:List Int)(l_18:List Int)(s_19:ByteArray) :Option aa:=uu (aQ ((uI).run) fun _ =>
  aQ (rA (aQ ((uJ b_9).run) fun b1 =>
  aQ ((bif b1 then aQ ((uK s_19).run) fun (w2,w3) =>
  aQ ((uL n_0 c_1 i_2 i_3 i_4 n_5 c_6 i_7 i_8 b_9 i_10 n_11 l_12 l_13 l_14 l_15 l_16 l_17 l_18 s_19 w2 w3).run) fun (b4,i5,i6,b7) =>
  (uM n_0 c_1 n_11 l_12 l_13 l_14 l_15 l_16 l_17 l_18 b4 i5 i6 b7).run else aQ ((uN i_3 i_4 i_10).run) fun b8 =>
  (uO n_0 c_1 i_2 i_3 i_4 n_5 c_6 i_7 i_8 b_9 i_10 n_11 l_12 l_13 l_14 l_15 l_16 l_17 l_18 s_19 b8).run)) fun _ =>
  (uP).run)) fun _ =>
  aQ ((uQ s_19).run) fun (e9,i10,i11,i12) =>
  (uR).run)
theorem kp(n_0:Nat)(c_1:Nat)(i_2:Int)(i_3:Int)(i_4:Int)(n_5:Nat)(c_6:Nat)(i_7:Int)(i_8:Int)(b_9:Bool)(i_10:Int)(n_11:Nat)(l_12:List Int)(l_13:List Int)(l_14:List Int)(l_15:List (List Int))(l_16:List Int)(l_17:List Int)(l_18:List Int)(s_19:ByteArray){x:aa}(h:kX n_0 c_1 i_2 i_3 i_4 n_5 c_6 i_7 i_8 b_9 i_10 n_11 l_12 l_13 l_14 l_15 l_16 l_17 l_18 s_19=some x) :am prog bE [.vs [.sl 1 6 6 0 n_0 c_1,.int .i64 i_2,.int .i64 i_3,.int .i64 i_4,.sl 2 1 1 0 n_5 c_6,.int .i64 i_7,.int .u64 i_8,.bool false b_9,.int .i64 i_10],.cols n_11 [.ci .i64 l_12,.ci .i64 l_13,.ci .i64 l_14,.cns .u64 l_15,.ci .i64 l_16,.ci .u64 l_17],.ns .u64 l_18] [.ptr 0 1 0 0,.str s_19] (dZ x) :=
  yD false dZ kW h (Sg.cut 1 bj (cu au (wo n_0 c_1 i_2 i_3 i_4 n_5 c_6 i_7 i_8 b_9 i_10 n_11 l_12 l_13 l_14 l_15 l_16 l_17 l_18 s_19) [⟨[],[0,1,2],[0,1]⟩]) (fun _=>Sg.cut 1 bj (MB (oa n_0 c_1 i_2 i_3 i_4 n_5 c_6 i_7 i_8 b_9 i_10 n_11 l_12 l_13 l_14 l_15 l_16 l_17 l_18 s_19) 0 bj (wn _) (Sg.cut 1 (aZ bj) (cu au (wq n_0 c_1 i_2 i_3 i_4 n_5 c_6 i_7 i_8 b_9 i_10 n_11 l_12 l_13 l_14 l_15 l_16 l_17 l_18 s_19) [⟨[],[0,1,2],[0,1,10]⟩]) (fun b1=>Sg.cut 1 (aZ bj) (xp (c:=.tmp 10) (kn:=false) (b:=b1) (by kernel_rfl:((jJ.drop 1).take 1)=[.cond (.tmp 10) (GM ((((jJ.drop 1).take 1)).headD .skip)) (GN ((((jJ.drop 1).take 1)).headD .skip))]) (aZ bj) (by kernel_rfl) (Sg.cut 1 (aZ bj) (cu au (wt n_0 c_1 i_2 i_3 i_4 n_5 c_6 i_7 i_8 b_9 i_10 n_11 l_12 l_13 l_14 l_15 l_16 l_17 l_18 s_19) [⟨[],[0,1,2],[0,1,5]⟩]) (fun ⟨w2,w3⟩=>Sg.cut 4 (aZ bj) (cu au (wu n_0 c_1 n_11 l_12 l_13 l_14 l_15 l_16 l_17 l_18) [⟨[],[0,1,2],[4]⟩,⟨[],[0,1,2],[4]⟩,⟨[],[0,1,2],[4]⟩,⟨[],[0,1,2],[4]⟩]) (fun ⟨b4,i5,i6,b7⟩=>cu au (oc n_0 c_1 i_2 i_3 i_4 n_5 c_6 i_7 i_8 b_9 i_10 n_11 l_12 l_13 l_14 l_15 l_16 l_17 l_18 s_19) [⟨[],[0,1,2],[4]⟩]))) (Sg.cut 1 (aZ bj) (cu au (wv n_0 c_1 i_2 i_3 i_4 n_5 c_6 i_7 i_8 b_9 i_10 n_11 l_12 l_13 l_14 l_15 l_16 l_17 l_18 s_19) [⟨[],[0,1,2],[0,1,68]⟩,⟨[],[0,1,2],[0,1,68]⟩]) (fun b8=>cu au (oc n_0 c_1 i_2 i_3 i_4 n_5 c_6 i_7 i_8 b_9 i_10 n_11 l_12 l_13 l_14 l_15 l_16 l_17 l_18 s_19) [⟨[],[0,1,2,227],[4]⟩,⟨[],[0,1,2,227],[4]⟩,⟨[],[0,1,2],[4]⟩,⟨[],[0,1,2],[4]⟩,⟨[],[0,1,2],[0,1]⟩]))) (fun _=>cu au (oa n_0 c_1 i_2 i_3 i_4 n_5 c_6 i_7 i_8 b_9 i_10 n_11 l_12 l_13 l_14 l_15 l_16 l_17 l_18 s_19) [⟨[],[0,1,2],[0,1]⟩])))) (fun _=>Sg.cut 1 bj (cu au (ww n_0 c_1 i_2 i_3 i_4 n_5 c_6 i_7 i_8 b_9 i_10 n_11 l_12 l_13 l_14 l_15 l_16 l_17 l_18) [⟨[],[0,1,2,83],[0,8,9]⟩]) (fun ⟨e9,i10,i11,i12⟩=>cu au vi []))))
    (fun x=>by cases x with | r0 b13 a14 a15 i17 i18 i19 a20 a21 i22 i23 b24 i25 a26 l27 l28 l29 l30 l31 l32 l33=>exact qo [.bool false b13] | r1 b34 a35 a36 i37 i38 b39 a40 l41 l42 l43 l44 l45 l46 l47=>exact qo [.bool false b34] | r2 b48 a49 a50 i51 i52 i53 a54 i55 i56 b57 i58 a59 l60 l61 l62 l63 l64 l65 l66=>exact qo [.bool false b48])
def fq:Option aa→Bool
  | some (.r0 _ _ _ _ _ _ _ _ _ _ _ _ _ _ _ _ _ _ _ _)=>true
  | _=>false
def cW:Option aa→Bool
  | some (.r0 x _ _ _ _ _ _ _ _ _ _ _ _ _ _ _ _ _ _ _)=>x
  | _=>false
def ii:Option aa→Nat
  | some (.r0 _ x _ _ _ _ _ _ _ _ _ _ _ _ _ _ _ _ _ _)=>x
  | _=>0
def ij:Option aa→Nat
  | some (.r0 _ _ x _ _ _ _ _ _ _ _ _ _ _ _ _ _ _ _ _)=>x
  | _=>0
def ik:Option aa→Int
  | some (.r0 _ _ _ x _ _ _ _ _ _ _ _ _ _ _ _ _ _ _ _)=>x
  | _=>0
def il:Option aa→Int
  | some (.r0 _ _ _ _ x _ _ _ _ _ _ _ _ _ _ _ _ _ _ _)=>x
  | _=>0
def im:Option aa→Int
  | some (.r0 _ _ _ _ _ x _ _ _ _ _ _ _ _ _ _ _ _ _ _)=>x
  | _=>0
def io:Option aa→Nat
  | some (.r0 _ _ _ _ _ _ x _ _ _ _ _ _ _ _ _ _ _ _ _)=>x
  | _=>0
def ip:Option aa→Nat
  | some (.r0 _ _ _ _ _ _ _ x _ _ _ _ _ _ _ _ _ _ _ _)=>x
  | _=>0
def iq:Option aa→Int
  | some (.r0 _ _ _ _ _ _ _ _ x _ _ _ _ _ _ _ _ _ _ _)=>x
  | _=>0
def ir:Option aa→Int
  | some (.r0 _ _ _ _ _ _ _ _ _ x _ _ _ _ _ _ _ _ _ _)=>x
  | _=>0
def fK:Option aa→Bool
  | some (.r0 _ _ _ _ _ _ _ _ _ _ x _ _ _ _ _ _ _ _ _)=>x
  | _=>false
def fL:Option aa→Int
  | some (.r0 _ _ _ _ _ _ _ _ _ _ _ x _ _ _ _ _ _ _ _)=>x
  | _=>0
def fM:Option aa→Nat
  | some (.r0 _ _ _ _ _ _ _ _ _ _ _ _ x _ _ _ _ _ _ _)=>x
  | _=>0
def fN:Option aa→List Int
  | some (.r0 _ _ _ _ _ _ _ _ _ _ _ _ _ x _ _ _ _ _ _)=>x
  | _=>[]
def fO:Option aa→List Int
  | some (.r0 _ _ _ _ _ _ _ _ _ _ _ _ _ _ x _ _ _ _ _)=>x
  | _=>[]
def fP:Option aa→List Int
  | some (.r0 _ _ _ _ _ _ _ _ _ _ _ _ _ _ _ x _ _ _ _)=>x
  | _=>[]
def fQ:Option aa→List (List Int)
  | some (.r0 _ _ _ _ _ _ _ _ _ _ _ _ _ _ _ _ x _ _ _)=>x
  | _=>[]
def fR:Option aa→List Int
  | some (.r0 _ _ _ _ _ _ _ _ _ _ _ _ _ _ _ _ _ x _ _)=>x
  | _=>[]
def fS:Option aa→List Int
  | some (.r0 _ _ _ _ _ _ _ _ _ _ _ _ _ _ _ _ _ _ x _)=>x
  | _=>[]
def fT:Option aa→List Int
  | some (.r0 _ _ _ _ _ _ _ _ _ _ _ _ _ _ _ _ _ _ _ x)=>x
  | _=>[]
theorem wx{x:Option aa}(h:fq x=true) :x=some (.r0 (cW x) (ii x) (ij x) (ik x) (il x) (im x) (io x) (ip x) (iq x) (ir x) (fK x) (fL x) (fM x) (fN x) (fO x) (fP x) (fQ x) (fR x) (fS x) (fT x)):=by
  unfold fq at h
  split at h<;>first | rfl | (cases h;done) | (rename_i y;cases y;rfl)
def fu:Option aa→Bool
  | some (.r1 _ _ _ _ _ _ _ _ _ _ _ _ _ _)=>true
  | _=>false
def cX:Option aa→Bool
  | some (.r1 x _ _ _ _ _ _ _ _ _ _ _ _ _)=>x
  | _=>false
def iu:Option aa→Nat
  | some (.r1 _ x _ _ _ _ _ _ _ _ _ _ _ _)=>x
  | _=>0
def iv:Option aa→Nat
  | some (.r1 _ _ x _ _ _ _ _ _ _ _ _ _ _)=>x
  | _=>0
def iw:Option aa→Int
  | some (.r1 _ _ _ x _ _ _ _ _ _ _ _ _ _)=>x
  | _=>0
def iy:Option aa→Int
  | some (.r1 _ _ _ _ x _ _ _ _ _ _ _ _ _)=>x
  | _=>0
def iz:Option aa→Bool
  | some (.r1 _ _ _ _ _ x _ _ _ _ _ _ _ _)=>x
  | _=>false
def iA:Option aa→Nat
  | some (.r1 _ _ _ _ _ _ x _ _ _ _ _ _ _)=>x
  | _=>0
def iB:Option aa→List Int
  | some (.r1 _ _ _ _ _ _ _ x _ _ _ _ _ _)=>x
  | _=>[]
def iC:Option aa→List Int
  | some (.r1 _ _ _ _ _ _ _ _ x _ _ _ _ _)=>x
  | _=>[]
def iD:Option aa→List Int
  | some (.r1 _ _ _ _ _ _ _ _ _ x _ _ _ _)=>x
  | _=>[]
def fU:Option aa→List (List Int)
  | some (.r1 _ _ _ _ _ _ _ _ _ _ x _ _ _)=>x
  | _=>[]
def fV:Option aa→List Int
  | some (.r1 _ _ _ _ _ _ _ _ _ _ _ x _ _)=>x
  | _=>[]
def fW:Option aa→List Int
  | some (.r1 _ _ _ _ _ _ _ _ _ _ _ _ x _)=>x
  | _=>[]
def lS:Option aa→List Int
  | some (.r1 _ _ _ _ _ _ _ _ _ _ _ _ _ x)=>x
  | _=>[]
theorem wy{x:Option aa}(h:fu x=true) :x=some (.r1 (cX x) (iu x) (iv x) (iw x) (iy x) (iz x) (iA x) (iB x) (iC x) (iD x) (fU x) (fV x) (fW x) (lS x)):=by
  unfold fu at h
  split at h<;>first | rfl | (cases h;done) | (rename_i y;cases y;rfl)
def fv:Option aa→Bool
  | some (.r2 _ _ _ _ _ _ _ _ _ _ _ _ _ _ _ _ _ _ _)=>true
  | _=>false
def cY:Option aa→Bool
  | some (.r2 x _ _ _ _ _ _ _ _ _ _ _ _ _ _ _ _ _ _)=>x
  | _=>false
def iE:Option aa→Nat
  | some (.r2 _ x _ _ _ _ _ _ _ _ _ _ _ _ _ _ _ _ _)=>x
  | _=>0
def iF:Option aa→Nat
  | some (.r2 _ _ x _ _ _ _ _ _ _ _ _ _ _ _ _ _ _ _)=>x
  | _=>0
def iG:Option aa→Int
  | some (.r2 _ _ _ x _ _ _ _ _ _ _ _ _ _ _ _ _ _ _)=>x
  | _=>0
def iH:Option aa→Int
  | some (.r2 _ _ _ _ x _ _ _ _ _ _ _ _ _ _ _ _ _ _)=>x
  | _=>0
def iI:Option aa→Int
  | some (.r2 _ _ _ _ _ x _ _ _ _ _ _ _ _ _ _ _ _ _)=>x
  | _=>0
def dP:Option aa→Nat
  | some (.r2 _ _ _ _ _ _ x _ _ _ _ _ _ _ _ _ _ _ _)=>x
  | _=>0
def iJ:Option aa→Int
  | some (.r2 _ _ _ _ _ _ _ x _ _ _ _ _ _ _ _ _ _ _)=>x
  | _=>0
def iK:Option aa→Int
  | some (.r2 _ _ _ _ _ _ _ _ x _ _ _ _ _ _ _ _ _ _)=>x
  | _=>0
def iL:Option aa→Bool
  | some (.r2 _ _ _ _ _ _ _ _ _ x _ _ _ _ _ _ _ _ _)=>x
  | _=>false
def fX:Option aa→Int
  | some (.r2 _ _ _ _ _ _ _ _ _ _ x _ _ _ _ _ _ _ _)=>x
  | _=>0
def fY:Option aa→Nat
  | some (.r2 _ _ _ _ _ _ _ _ _ _ _ x _ _ _ _ _ _ _)=>x
  | _=>0
def fZ:Option aa→List Int
  | some (.r2 _ _ _ _ _ _ _ _ _ _ _ _ x _ _ _ _ _ _)=>x
  | _=>[]
def gg:Option aa→List Int
  | some (.r2 _ _ _ _ _ _ _ _ _ _ _ _ _ x _ _ _ _ _)=>x
  | _=>[]
def gh:Option aa→List Int
  | some (.r2 _ _ _ _ _ _ _ _ _ _ _ _ _ _ x _ _ _ _)=>x
  | _=>[]
def gi:Option aa→List (List Int)
  | some (.r2 _ _ _ _ _ _ _ _ _ _ _ _ _ _ _ x _ _ _)=>x
  | _=>[]
def gj:Option aa→List Int
  | some (.r2 _ _ _ _ _ _ _ _ _ _ _ _ _ _ _ _ x _ _)=>x
  | _=>[]
def gk:Option aa→List Int
  | some (.r2 _ _ _ _ _ _ _ _ _ _ _ _ _ _ _ _ _ x _)=>x
  | _=>[]
def gl:Option aa→List Int
  | some (.r2 _ _ _ _ _ _ _ _ _ _ _ _ _ _ _ _ _ _ x)=>x
  | _=>[]
theorem wz{x:Option aa}(h:fv x=true) :x=some (.r2 (cY x) (iE x) (iF x) (iG x) (iH x) (iI x) (dP x) (iJ x) (iK x) (iL x) (fX x) (fY x) (fZ x) (gg x) (gh x) (gi x) (gj x) (gk x) (gl x)):=by
  unfold fv at h
  split at h<;>first | rfl | (cases h;done) | (rename_i y;cases y;rfl)
def mt(q:Option aa)(pre:List Bool) :List pA:=[⟨dZ (.r0 (cW q) (ii q) (ij q) (ik q) (il q) (im q) (io q) (ip q) (iq q) (ir q) (fK q) (fL q) (fM q) (fN q) (fO q) (fP q) (fQ q) (fR q) (fS q) (fT q)),pre++[fq q]⟩,
  ⟨dZ (.r1 (cX q) (iu q) (iv q) (iw q) (iy q) (iz q) (iA q) (iB q) (iC q) (iD q) (fU q) (fV q) (fW q) (lS q)),pre++[fu q]⟩,
  ⟨dZ (.r2 (cY q) (iE q) (iF q) (iG q) (iH q) (iI q) (dP q) (iJ q) (iK q) (iL q) (fX q) (fY q) (fZ q) (gg q) (gh q) (gi q) (gj q) (gk q) (gl q)),pre++[fv q]⟩]
inductive ac where
  | r0 (b22:Bool) (a23:Nat) (a24:Nat) (i25:Int) (i26:Int) (i27:Int) (l28:List Int) (a29:Nat) (i30:Int) (i31:Int) (b32:Bool) (i33:Int) (a34:Nat) (l35:List Int) (l36:List Int) (l37:List Int) (l38:List (List Int)) (l39:List Int) (l40:List Int)
  | r1 (b41:Bool) (a42:Nat) (a43:Nat) (i44:Int) (i45:Int) (b46:Bool) (a47:Nat) (l48:List Int) (l49:List Int) (l50:List Int) (l51:List (List Int)) (l52:List Int) (l53:List Int)
  | r2 (b54:Bool) (a55:Nat) (i56:Int) (i57:Int) (i58:Int) (l59:List Int) (a60:Nat) (i61:Int) (i62:Int) (b63:Bool) (i65:Int) (l66:List Int) (l67:List Int) (l68:List Int) (l69:List (List Int)) (l70:List Int) (l71:List Int)
def kY:ac→AE×az
  | .r0 b22 a23 a24 i25 i26 i27 l28 a29 i30 i31 b32 i33 a34 l35 l36 l37 l38 l39 l40=>(.ret,⟨ao 164 [(4,.bool false b22)],[(0,.vs [.sl 1 6 6 0 a23 a24,.int .i64 i25,.int .i64 i26,.int .i64 i27,.imm (.up .free) (.ns .u64 l28) 1 1 0 a29,.int .i64 i30,.int .u64 i31,.bool false b32,.int .i64 i33]),(1,.cols a34 [.ci .i64 l35,.ci .i64 l36,.ci .i64 l37,.cns .u64 l38,.ci .i64 l39,.ci .u64 l40])],2⟩)
  | .r1 b41 a42 a43 i44 i45 b46 a47 l48 l49 l50 l51 l52 l53=>(.ret,⟨ao 164 [(4,.bool false b41)],[(0,.vs [.sl 1 6 6 0 a42 a43,.int .i64 (0:Int),.int .i64 i44,.int .i64 i45,.nsl,.int .i64 (0:Int),.int .u64 (0:Int),.bool false b46,.int .i64 (0:Int)]),(1,.cols a47 [.ci .i64 l48,.ci .i64 l49,.ci .i64 l50,.cns .u64 l51,.ci .i64 l52,.ci .u64 l53])],2⟩)
  | .r2 b54 a55 i56 i57 i58 l59 a60 i61 i62 b63 i65 l66 l67 l68 l69 l70 l71=>(.ret,⟨ao 164 [(4,.bool false b54)],[(0,.vs [.sl 2 6 6 0 a55 a55,.int .i64 i56,.int .i64 i57,.int .i64 i58,.imm (.up .free) (.ns .u64 l59) 1 1 0 a60,.int .i64 i61,.int .u64 i62,.bool false b63,.int .i64 i65]),(2,.cols a55 [.ci .i64 l66,.ci .i64 l67,.ci .i64 l68,.cns .u64 l69,.ci .i64 l70,.ci .u64 l71])],3⟩)
theorem aU:qm kY:=by intro x;cases x<;>(intro h;cases h)
theorem wA(id:Nat) :ow id kY:=by intro x;cases x<;>(intro h;cases h)
def ed:ac→lX
  | .r0 b22 a23 a24 i25 i26 i27 l28 a29 i30 i31 b32 i33 a34 l35 l36 l37 l38 l39 l40=>⟨.bool false b22,[some (.vs [.sl 1 6 6 0 a23 a24,.int .i64 i25,.int .i64 i26,.int .i64 i27,.imm (.up .free) (.ns .u64 l28) 1 1 0 a29,.int .i64 i30,.int .u64 i31,.bool false b32,.int .i64 i33]),some (.cols a34 [.ci .i64 l35,.ci .i64 l36,.ci .i64 l37,.cns .u64 l38,.ci .i64 l39,.ci .u64 l40])]⟩
  | .r1 b41 a42 a43 i44 i45 b46 a47 l48 l49 l50 l51 l52 l53=>⟨.bool false b41,[some (.vs [.sl 1 6 6 0 a42 a43,.int .i64 (0:Int),.int .i64 i44,.int .i64 i45,.nsl,.int .i64 (0:Int),.int .u64 (0:Int),.bool false b46,.int .i64 (0:Int)]),some (.cols a47 [.ci .i64 l48,.ci .i64 l49,.ci .i64 l50,.cns .u64 l51,.ci .i64 l52,.ci .u64 l53])]⟩
  | .r2 b54 a55 i56 i57 i58 l59 a60 i61 i62 b63 i65 l66 l67 l68 l69 l70 l71=>⟨.bool false b54,[some (.vs [.sl 2 6 6 0 a55 a55,.int .i64 i56,.int .i64 i57,.int .i64 i58,.imm (.up .free) (.ns .u64 l59) 1 1 0 a60,.int .i64 i61,.int .u64 i62,.bool false b63,.int .i64 i65]),none,some (.cols a55 [.ci .i64 l66,.ci .i64 l67,.ci .i64 l68,.cns .u64 l69,.ci .i64 l70,.ci .u64 l71])]⟩
noncomputable def uS:List Code:=cJ (rx bE)
def wB(n_0:Nat)(c_1:Nat)(i_2:Int)(i_3:Int)(i_4:Int)(w_5:List Int)(i_6:Int)(i_7:Int)(b_8:Bool)(i_9:Int)(n_10:Nat)(l_11:List Int)(l_12:List Int)(l_13:List Int)(l_14:List (List Int))(l_15:List Int)(l_16:List Int)(s_17:ByteArray)(_:Unit) :az:=⟨ao 164 [(0,.ptr 0 1 0 0),(1,.str s_17)],[(0,.vs [.sl 1 6 6 0 n_0 c_1,.int .i64 i_2,.int .i64 i_3,.int .i64 i_4,.imm (.up .free) (.ns .u64 w_5) 1 1 0 (List.length w_5),.int .i64 i_6,.int .u64 i_7,.bool false b_8,.int .i64 i_9]),(1,.cols n_10 [.ci .i64 l_11,.ci .i64 l_12,.ci .i64 l_13,.cns .u64 l_14,.ci .i64 l_15,.ci .u64 l_16])],2⟩
def uT:T ((Unit)⊕(ac)) :=
  .leaf (.inl ())
def od(n_0:Nat)(c_1:Nat)(i_2:Int)(i_3:Int)(i_4:Int)(w_5:List Int)(i_6:Int)(i_7:Int)(b_8:Bool)(i_9:Int)(n_10:Nat)(l_11:List Int)(l_12:List Int)(l_13:List Int)(l_14:List (List Int))(l_15:List Int)(l_16:List Int)(s_17:ByteArray)(_:Unit) :az:=⟨ao 164 [(0,.ptr 0 1 0 0),(1,.str s_17)],[(0,.vs [.sl 1 6 6 0 n_0 c_1,.int .i64 i_2,.int .i64 i_3,.int .i64 i_4,.imm (.up .free) (.ns .u64 w_5) 1 1 0 (List.length w_5),.int .i64 i_6,.int .u64 i_7,.bool false b_8,.int .i64 i_9]),(1,.cols n_10 [.ci .i64 l_11,.ci .i64 l_12,.ci .i64 l_13,.cns .u64 l_14,.ci .i64 l_15,.ci .u64 l_16])],2⟩
noncomputable def jK:List Code:=cJ (inBlock ((((uS.drop 1).take 1)).headD .skip))
def wC(n_0:Nat)(c_1:Nat)(i_2:Int)(i_3:Int)(i_4:Int)(w_5:List Int)(i_6:Int)(i_7:Int)(b_8:Bool)(i_9:Int)(n_10:Nat)(l_11:List Int)(l_12:List Int)(l_13:List Int)(l_14:List (List Int))(l_15:List Int)(l_16:List Int)(s_17:ByteArray)(b1:Bool) :az:=⟨ao 164 [(0,.ptr 0 1 0 0),(1,.str s_17),(10,.bool false b1)],[(0,.vs [.sl 1 6 6 0 n_0 c_1,.int .i64 i_2,.int .i64 i_3,.int .i64 i_4,.imm (.up .free) (.ns .u64 w_5) 1 1 0 (List.length w_5),.int .i64 i_6,.int .u64 i_7,.bool false b_8,.int .i64 i_9]),(1,.cols n_10 [.ci .i64 l_11,.ci .i64 l_12,.ci .i64 l_13,.cns .u64 l_14,.ci .i64 l_15,.ci .u64 l_16])],2⟩
def uU(b_8:Bool) :T ((Bool)⊕((Unit)⊕(ac))) :=
  .leaf (.inl (!b_8))
def oe(n_0:Nat)(c_1:Nat)(i_2:Int)(i_3:Int)(i_4:Int)(w_5:List Int)(i_6:Int)(i_7:Int)(b_8:Bool)(i_9:Int)(n_10:Nat)(l_11:List Int)(l_12:List Int)(l_13:List Int)(l_14:List (List Int))(l_15:List Int)(l_16:List Int)(s_17:ByteArray)(_:Unit) :az:=⟨ao 164 [(0,.ptr 0 1 0 0),(1,.str s_17)],[(0,.vs [.sl 1 6 6 0 n_0 c_1,.int .i64 i_2,.int .i64 i_3,.int .i64 i_4,.imm (.up .free) (.ns .u64 w_5) 1 1 0 (List.length w_5),.int .i64 i_6,.int .u64 i_7,.bool false b_8,.int .i64 i_9]),(1,.cols n_10 [.ci .i64 l_11,.ci .i64 l_12,.ci .i64 l_13,.cns .u64 l_14,.ci .i64 l_15,.ci .u64 l_16])],2⟩
def wD(n_0:Nat)(c_1:Nat)(i_2:Int)(i_3:Int)(i_4:Int)(w_5:List Int)(i_6:Int)(i_7:Int)(b_8:Bool)(i_9:Int)(n_10:Nat)(l_11:List Int)(l_12:List Int)(l_13:List Int)(l_14:List (List Int))(l_15:List Int)(l_16:List Int)(s_17:ByteArray) :(List ByteArray)×Nat→az:=fun (w2,w3)=>⟨ao 164 [(0,.ptr 0 1 0 0),(1,.str s_17),(5,.imm .free (.ss w2) 1 1 0 w3)],[(0,.vs [.sl 1 6 6 0 n_0 c_1,.int .i64 i_2,.int .i64 i_3,.int .i64 i_4,.imm (.up .free) (.ns .u64 w_5) 1 1 0 (List.length w_5),.int .i64 i_6,.int .u64 i_7,.bool false b_8,.int .i64 i_9]),(1,.cols n_10 [.ci .i64 l_11,.ci .i64 l_12,.ci .i64 l_13,.cns .u64 l_14,.ci .i64 l_15,.ci .u64 l_16])],2⟩
def uV(s_17:ByteArray) :T (((List ByteArray)×Nat)⊕((Unit)⊕(ac))) :=
  .need (dY (cn s_17 (ByteArray.mk #[32])))<|.leaf (.inl ((eF (cn s_17 (ByteArray.mk #[32]))),(eD (cn s_17 (ByteArray.mk #[32])))))
def wE(n_0:Nat)(c_1:Nat)(n_10:Nat)(l_11:List Int)(l_12:List Int)(l_13:List Int)(l_14:List (List Int))(l_15:List Int)(l_16:List Int) :Bool×Int×Int×Bool→az:=fun (b4,i5,i6,b7)=>⟨ao 164 [(4,.bool false b4)],[(0,.vs [.sl 1 6 6 0 n_0 c_1,.int .i64 (0:Int),.int .i64 i5,.int .i64 i6,.nsl,.int .i64 (0:Int),.int .u64 (0:Int),.bool false b7,.int .i64 (0:Int)]),(1,.cols n_10 [.ci .i64 l_11,.ci .i64 l_12,.ci .i64 l_13,.cns .u64 l_14,.ci .i64 l_15,.ci .u64 l_16])],2⟩
def uW(n_0:Nat)(c_1:Nat)(i_2:Int)(i_3:Int)(i_4:Int)(w_5:List Int)(i_6:Int)(i_7:Int)(b_8:Bool)(i_9:Int)(n_10:Nat)(l_11:List Int)(l_12:List Int)(l_13:List Int)(l_14:List (List Int))(l_15:List Int)(l_16:List Int)(s_17:ByteArray)(w2:List ByteArray)(w3:Nat) :T ((Bool×Int×Int×Bool)⊕((Unit)⊕(ac))) :=
  .ask (((w3:Nat):Int) != (3:Int))
    (.leaf (.inr (.inr (.r0 false n_0 c_1 i_2 i_3 i_4 w_5 (List.length w_5) i_6 i_7 b_8 i_9 n_10 l_11 l_12 l_13 l_14 l_15 l_16))))
    (.need (th (1:Int) w3)<|.need (jo 1 (List.length w2))<|.need (jO (List.getD w2 1 ByteArray.empty).size)<|.need (th (2:Int) w3)<|.need (jo 2 (List.length w2))<|.need (jO (List.getD w2 2 ByteArray.empty).size)<|.need (dr (bV (eh (List.getD w2 1 ByteArray.empty))))<|.ask (dj (bV (eh (List.getD w2 1 ByteArray.empty))))
      (.need (dr (bV (eh (List.getD w2 2 ByteArray.empty))))<|.ask (dj (bV (eh (List.getD w2 2 ByteArray.empty))))
        (.need (fF (dH (eh (List.getD w2 1 ByteArray.empty)) (eh (List.getD w2 2 ByteArray.empty))))<|.leaf (.inl (((gQ (dH (eh (List.getD w2 1 ByteArray.empty)) (eh (List.getD w2 2 ByteArray.empty)))).toList==s_17.toList),(eh (List.getD w2 1 ByteArray.empty)),(eh (List.getD w2 2 ByteArray.empty)),true)))
        (.leaf (.inl (false,(eh (List.getD w2 1 ByteArray.empty)),(eh (List.getD w2 2 ByteArray.empty)),true))))
      (.leaf (.inl (false,(eh (List.getD w2 1 ByteArray.empty)),(eh (List.getD w2 2 ByteArray.empty)),true))))
def uX(n_0:Nat)(c_1:Nat)(n_10:Nat)(l_11:List Int)(l_12:List Int)(l_13:List Int)(l_14:List (List Int))(l_15:List Int)(l_16:List Int)(b4:Bool)(i5:Int)(i6:Int)(b7:Bool) :T ((Unit)⊕((Unit)⊕(ac))) :=
  .leaf (.inr (.inr (.r1 b4 n_0 c_1 i5 i6 b7 n_10 l_11 l_12 l_13 l_14 l_15 l_16)))
def wF(n_0:Nat)(c_1:Nat)(i_2:Int)(i_3:Int)(i_4:Int)(w_5:List Int)(i_6:Int)(i_7:Int)(b_8:Bool)(i_9:Int)(n_10:Nat)(l_11:List Int)(l_12:List Int)(l_13:List Int)(l_14:List (List Int))(l_15:List Int)(l_16:List Int)(s_17:ByteArray)(b8:Bool) :az:=⟨ao 164 [(0,.ptr 0 1 0 0),(1,.str s_17),(68,.bool false b8)],[(0,.vs [.sl 1 6 6 0 n_0 c_1,.int .i64 i_2,.int .i64 i_3,.int .i64 i_4,.imm (.up .free) (.ns .u64 w_5) 1 1 0 (List.length w_5),.int .i64 i_6,.int .u64 i_7,.bool false b_8,.int .i64 i_9]),(1,.cols n_10 [.ci .i64 l_11,.ci .i64 l_12,.ci .i64 l_13,.cns .u64 l_14,.ci .i64 l_15,.ci .u64 l_16])],2⟩
def uY(i_3:Int)(i_4:Int)(i_9:Int) :T ((Bool)⊕((Unit)⊕(ac))) :=
  .ask (decide (i_9<i_3))
    (.leaf (.inl (decide (i_4>(0:Int)))))
    (.leaf (.inl false))
def uZ(s_17:ByteArray)(b8:Bool) :T ((Unit)⊕((Unit)⊕(ac))) :=
  .ask b8
    (.alt 0
      (.need (lr s_17)<|.need (jO s_17.size)<|.fail)
      (.alt 1
        (.need (!lr s_17)<|.need (jO s_17.size)<|.fail)
        (.fail)))
    (.leaf (.inl ()))
def va:T ((Unit)⊕((Unit)⊕(ac))) :=
  .leaf (.inl ())
def wG(n_0:Nat)(c_1:Nat)(i_2:Int)(i_3:Int)(i_4:Int)(w_5:List Int)(i_6:Int)(i_7:Int)(b_8:Bool)(i_9:Int)(n_10:Nat)(l_11:List Int)(l_12:List Int)(l_13:List Int)(l_14:List (List Int))(l_15:List Int)(l_16:List Int) :Nat×Int×Int×Int→az:=fun (e9,i10,i11,i12)=>⟨ao 164 [(0,.ptr 0 1 0 0),(8,.ptr 2 1 0 0),(9,.int .i64 ((e9:Nat):Int))],[(0,.vs [.sl 1 6 6 0 n_0 c_1,.int .i64 i_2,.int .i64 i_3,.int .i64 i_4,.imm (.up .free) (.ns .u64 w_5) 1 1 0 (List.length w_5),.int .i64 i_6,.int .u64 i_7,.bool false b_8,.int .i64 i_9]),(1,.cols n_10 [.ci .i64 l_11,.ci .i64 l_12,.ci .i64 l_13,.cns .u64 l_14,.ci .i64 l_15,.ci .u64 l_16]),(2,.vs [.int .i64 i10,.int .i64 (0:Int),.int .i64 (0:Int),.nsl,.int .i64 i11,.int .u64 i12])],3⟩
def vb(s_17:ByteArray) :T ((Nat×Int×Int×Int)⊕(ac)) :=
  .need (dX (bc s_17))<|.leaf (.inl ((er (bc s_17)),(eu (bc s_17)),(ew (bc s_17)),(ez (bc s_17))))
def vc(i_2:Int)(i_3:Int)(i_4:Int)(w_5:List Int)(i_6:Int)(i_7:Int)(i_9:Int) :Bool×Nat×Bool×(List Int)×(List Int)×(List Int)×(List (List Int))×(List Int)×(List Int)→az:=fun (b13,a14,b15,l16,l17,l18,l19,l20,l21)=>⟨ao 164 [(4,.bool false b13)],[(0,.vs [.sl 2 6 6 0 a14 a14,.int .i64 i_2,.int .i64 i_3,.int .i64 i_4,.imm (.up .free) (.ns .u64 w_5) 1 1 0 (List.length w_5),.int .i64 i_6,.int .u64 i_7,.bool false b15,.int .i64 i_9]),(2,.cols a14 [.ci .i64 l16,.ci .i64 l17,.ci .i64 l18,.cns .u64 l19,.ci .i64 l20,.ci .u64 l21])],3⟩
def ve(n_0:Nat)(i_3:Int)(i_4:Int)(w_5:List Int)(n_10:Nat)(l_11:List Int)(l_12:List Int)(l_13:List Int)(l_14:List (List Int))(l_15:List Int)(l_16:List Int)(e9:Nat)(i10:Int)(i11:Int)(i12:Int) :T ((Bool×Nat×Bool×(List Int)×(List Int)×(List Int)×(List (List Int))×(List Int)×(List Int))⊕(ac)) :=
  .need (eH ((n_0+1)*64) 140737488355328)<|.need (eH (n_0+1) 9223372036854775807)<|.need (eH 6 6)<|.need (eH n_0 n_10)<|.need (decide (0+(List.length w_5)≤List.length w_5))<|.ask (((e9:Nat):Int)==(0:Int))
    (.need (oT 0 (List.length w_5) w_5)<|.need (lw (ki i10 i_3 i_4 (bo 0 (List.length w_5) w_5) i11 i12))<|.leaf (.inl ((md (ki i10 i_3 i_4 (bo 0 (List.length w_5) w_5) i11 i12)),(n_0+1),false,((List.take n_0 l_11)++[i10]),((List.take n_0 l_12)++[i_3]),((List.take n_0 l_13)++[i_4]),((List.take n_0 l_14)++[(List.take (List.length w_5) (List.drop 0 w_5))]),((List.take n_0 l_15)++[i11]),((List.take n_0 l_16)++[i12]))))
    (.leaf (.inl (false,(n_0+1),false,((List.take n_0 l_11)++[i10]),((List.take n_0 l_12)++[i_3]),((List.take n_0 l_13)++[i_4]),((List.take n_0 l_14)++[(List.take (List.length w_5) (List.drop 0 w_5))]),((List.take n_0 l_15)++[i11]),((List.take n_0 l_16)++[i12]))))
def vf(i_2:Int)(i_3:Int)(i_4:Int)(w_5:List Int)(i_6:Int)(i_7:Int)(i_9:Int)(b13:Bool)(a14:Nat)(b15:Bool)(l16:List Int)(l17:List Int)(l18:List Int)(l19:List (List Int))(l20:List Int)(l21:List Int) :T ((Empty)⊕(ac)) :=
  .leaf (.inr (.r2 b13 a14 i_2 i_3 i_4 w_5 (List.length w_5) i_6 i_7 b15 i_9 l16 l17 l18 l19 l20 l21))
noncomputable def kZ(n_0:Nat)(c_1:Nat)(i_2:Int)(i_3:Int)(i_4:Int)(w_5:List Int)(i_6:Int)(i_7:Int)(b_8:Bool)(i_9:Int)(n_10:Nat)(l_11:List Int)(l_12:List Int)(l_13:List Int)(l_14:List (List Int))(l_15:List Int)(l_16:List Int)(s_17:ByteArray) :Option ac:=uu (aQ ((uT).run) fun _ =>
  aQ (rA (aQ ((uU b_8).run) fun b1 =>
  aQ ((bif b1 then aQ ((uV s_17).run) fun (w2,w3) =>
  aQ ((uW n_0 c_1 i_2 i_3 i_4 w_5 i_6 i_7 b_8 i_9 n_10 l_11 l_12 l_13 l_14 l_15 l_16 s_17 w2 w3).run) fun (b4,i5,i6,b7) =>
  (uX n_0 c_1 n_10 l_11 l_12 l_13 l_14 l_15 l_16 b4 i5 i6 b7).run else aQ ((uY i_3 i_4 i_9).run) fun b8 =>
  (uZ s_17 b8).run)) fun _ =>
  (va).run)) fun _ =>
  aQ ((vb s_17).run) fun (e9,i10,i11,i12) =>
  aQ ((ve n_0 i_3 i_4 w_5 n_10 l_11 l_12 l_13 l_14 l_15 l_16 e9 i10 i11 i12).run) fun (b13,a14,b15,l16,l17,l18,l19,l20,l21) =>
  (vf i_2 i_3 i_4 w_5 i_6 i_7 i_9 b13 a14 b15 l16 l17 l18 l19 l20 l21).run)
theorem kq(n_0:Nat)(c_1:Nat)(i_2:Int)(i_3:Int)(i_4:Int)(w_5:List Int)(i_6:Int)(i_7:Int)(b_8:Bool)(i_9:Int)(n_10:Nat)(l_11:List Int)(l_12:List Int)(l_13:List Int)(l_14:List (List Int))(l_15:List Int)(l_16:List Int)(s_17:ByteArray){x:ac}(h:kZ n_0 c_1 i_2 i_3 i_4 w_5 i_6 i_7 b_8 i_9 n_10 l_11 l_12 l_13 l_14 l_15 l_16 s_17=some x) :am prog bE [.vs [.sl 1 6 6 0 n_0 c_1,.int .i64 i_2,.int .i64 i_3,.int .i64 i_4,.imm (.up .free) (.ns .u64 w_5) 1 1 0 (List.length w_5),.int .i64 i_6,.int .u64 i_7,.bool false b_8,.int .i64 i_9],.cols n_10 [.ci .i64 l_11,.ci .i64 l_12,.ci .i64 l_13,.cns .u64 l_14,.ci .i64 l_15,.ci .u64 l_16]] [.ptr 0 1 0 0,.str s_17] (ed x) :=
  yD false ed kY h (Sg.cut 1 aU (cu au (wB n_0 c_1 i_2 i_3 i_4 w_5 i_6 i_7 b_8 i_9 n_10 l_11 l_12 l_13 l_14 l_15 l_16 s_17) [⟨[],[0,1],[0,1]⟩]) (fun _=>Sg.cut 1 aU (MB (od n_0 c_1 i_2 i_3 i_4 w_5 i_6 i_7 b_8 i_9 n_10 l_11 l_12 l_13 l_14 l_15 l_16 s_17) 0 aU (wA _) (Sg.cut 1 (aZ aU) (cu au (wC n_0 c_1 i_2 i_3 i_4 w_5 i_6 i_7 b_8 i_9 n_10 l_11 l_12 l_13 l_14 l_15 l_16 s_17) [⟨[],[0,1],[0,1,10]⟩]) (fun b1=>Sg.cut 1 (aZ aU) (xp (c:=.tmp 10) (kn:=false) (b:=b1) (by kernel_rfl:((jK.drop 1).take 1)=[.cond (.tmp 10) (GM ((((jK.drop 1).take 1)).headD .skip)) (GN ((((jK.drop 1).take 1)).headD .skip))]) (aZ aU) (by kernel_rfl) (Sg.cut 1 (aZ aU) (cu au (wD n_0 c_1 i_2 i_3 i_4 w_5 i_6 i_7 b_8 i_9 n_10 l_11 l_12 l_13 l_14 l_15 l_16 s_17) [⟨[],[0,1],[0,1,5]⟩]) (fun ⟨w2,w3⟩=>Sg.cut 4 (aZ aU) (cu au (wE n_0 c_1 n_10 l_11 l_12 l_13 l_14 l_15 l_16) [⟨[],[0,1],[4]⟩,⟨[],[0,1],[4]⟩,⟨[],[0,1],[4]⟩,⟨[],[0,1],[4]⟩]) (fun ⟨b4,i5,i6,b7⟩=>cu au (oe n_0 c_1 i_2 i_3 i_4 w_5 i_6 i_7 b_8 i_9 n_10 l_11 l_12 l_13 l_14 l_15 l_16 s_17) [⟨[],[0,1],[4]⟩]))) (Sg.cut 1 (aZ aU) (cu au (wF n_0 c_1 i_2 i_3 i_4 w_5 i_6 i_7 b_8 i_9 n_10 l_11 l_12 l_13 l_14 l_15 l_16 s_17) [⟨[],[0,1],[0,1,68]⟩,⟨[],[0,1],[0,1,68]⟩]) (fun b8=>cu au (oe n_0 c_1 i_2 i_3 i_4 w_5 i_6 i_7 b_8 i_9 n_10 l_11 l_12 l_13 l_14 l_15 l_16 s_17) [⟨[],[0,1],[0,1]⟩]))) (fun _=>cu au (od n_0 c_1 i_2 i_3 i_4 w_5 i_6 i_7 b_8 i_9 n_10 l_11 l_12 l_13 l_14 l_15 l_16 s_17) [⟨[],[0,1],[0,1]⟩])))) (fun _=>Sg.cut 1 aU (cu au (wG n_0 c_1 i_2 i_3 i_4 w_5 i_6 i_7 b_8 i_9 n_10 l_11 l_12 l_13 l_14 l_15 l_16) [⟨[],[0,1,82],[0,8,9]⟩]) (fun ⟨e9,i10,i11,i12⟩=>Sg.cut 3 aU (cu au (vc i_2 i_3 i_4 w_5 i_6 i_7 i_9) [⟨[],[0,1,467],[4]⟩,⟨[],[0,1,467],[4]⟩]) (fun ⟨b13,a14,b15,l16,l17,l18,l19,l20,l21⟩=>cu au vi [⟨[],[0,1,2],[4]⟩])))))
    (fun x=>by cases x with | r0 b22 a23 a24 i25 i26 i27 l28 a29 i30 i31 b32 i33 a34 l35 l36 l37 l38 l39 l40=>exact qo [.bool false b22] | r1 b41 a42 a43 i44 i45 b46 a47 l48 l49 l50 l51 l52 l53=>exact qo [.bool false b41] | r2 b54 a55 i56 i57 i58 l59 a60 i61 i62 b63 i65 l66 l67 l68 l69 l70 l71=>exact qo [.bool false b54])
def fw:Option ac→Bool
  | some (.r0 _ _ _ _ _ _ _ _ _ _ _ _ _ _ _ _ _ _ _)=>true
  | _=>false
def cZ:Option ac→Bool
  | some (.r0 x _ _ _ _ _ _ _ _ _ _ _ _ _ _ _ _ _ _)=>x
  | _=>false
def iM:Option ac→Nat
  | some (.r0 _ x _ _ _ _ _ _ _ _ _ _ _ _ _ _ _ _ _)=>x
  | _=>0
def iN:Option ac→Nat
  | some (.r0 _ _ x _ _ _ _ _ _ _ _ _ _ _ _ _ _ _ _)=>x
  | _=>0
def iO:Option ac→Int
  | some (.r0 _ _ _ x _ _ _ _ _ _ _ _ _ _ _ _ _ _ _)=>x
  | _=>0
def iP:Option ac→Int
  | some (.r0 _ _ _ _ x _ _ _ _ _ _ _ _ _ _ _ _ _ _)=>x
  | _=>0
def iQ:Option ac→Int
  | some (.r0 _ _ _ _ _ x _ _ _ _ _ _ _ _ _ _ _ _ _)=>x
  | _=>0
def iR:Option ac→List Int
  | some (.r0 _ _ _ _ _ _ x _ _ _ _ _ _ _ _ _ _ _ _)=>x
  | _=>[]
def iS:Option ac→Nat
  | some (.r0 _ _ _ _ _ _ _ x _ _ _ _ _ _ _ _ _ _ _)=>x
  | _=>0
def iT:Option ac→Int
  | some (.r0 _ _ _ _ _ _ _ _ x _ _ _ _ _ _ _ _ _ _)=>x
  | _=>0
def iU:Option ac→Int
  | some (.r0 _ _ _ _ _ _ _ _ _ x _ _ _ _ _ _ _ _ _)=>x
  | _=>0
def gn:Option ac→Bool
  | some (.r0 _ _ _ _ _ _ _ _ _ _ x _ _ _ _ _ _ _ _)=>x
  | _=>false
def gp:Option ac→Int
  | some (.r0 _ _ _ _ _ _ _ _ _ _ _ x _ _ _ _ _ _ _)=>x
  | _=>0
def gq:Option ac→Nat
  | some (.r0 _ _ _ _ _ _ _ _ _ _ _ _ x _ _ _ _ _ _)=>x
  | _=>0
def gr:Option ac→List Int
  | some (.r0 _ _ _ _ _ _ _ _ _ _ _ _ _ x _ _ _ _ _)=>x
  | _=>[]
def gu:Option ac→List Int
  | some (.r0 _ _ _ _ _ _ _ _ _ _ _ _ _ _ x _ _ _ _)=>x
  | _=>[]
def gv:Option ac→List Int
  | some (.r0 _ _ _ _ _ _ _ _ _ _ _ _ _ _ _ x _ _ _)=>x
  | _=>[]
def gw:Option ac→List (List Int)
  | some (.r0 _ _ _ _ _ _ _ _ _ _ _ _ _ _ _ _ x _ _)=>x
  | _=>[]
def gz:Option ac→List Int
  | some (.r0 _ _ _ _ _ _ _ _ _ _ _ _ _ _ _ _ _ x _)=>x
  | _=>[]
def gA:Option ac→List Int
  | some (.r0 _ _ _ _ _ _ _ _ _ _ _ _ _ _ _ _ _ _ x)=>x
  | _=>[]
theorem wH{x:Option ac}(h:fw x=true) :x=some (.r0 (cZ x) (iM x) (iN x) (iO x) (iP x) (iQ x) (iR x) (iS x) (iT x) (iU x) (gn x) (gp x) (gq x) (gr x) (gu x) (gv x) (gw x) (gz x) (gA x)):=by
  unfold fw at h
  split at h<;>first | rfl | (cases h;done) | (rename_i y;cases y;rfl)
def fx:Option ac→Bool
  | some (.r1 _ _ _ _ _ _ _ _ _ _ _ _ _)=>true
  | _=>false
def da:Option ac→Bool
  | some (.r1 x _ _ _ _ _ _ _ _ _ _ _ _)=>x
  | _=>false
def iV:Option ac→Nat
  | some (.r1 _ x _ _ _ _ _ _ _ _ _ _ _)=>x
  | _=>0
def iW:Option ac→Nat
  | some (.r1 _ _ x _ _ _ _ _ _ _ _ _ _)=>x
  | _=>0
def iX:Option ac→Int
  | some (.r1 _ _ _ x _ _ _ _ _ _ _ _ _)=>x
  | _=>0
def iY:Option ac→Int
  | some (.r1 _ _ _ _ x _ _ _ _ _ _ _ _)=>x
  | _=>0
def iZ:Option ac→Bool
  | some (.r1 _ _ _ _ _ x _ _ _ _ _ _ _)=>x
  | _=>false
def ja:Option ac→Nat
  | some (.r1 _ _ _ _ _ _ x _ _ _ _ _ _)=>x
  | _=>0
def jb:Option ac→List Int
  | some (.r1 _ _ _ _ _ _ _ x _ _ _ _ _)=>x
  | _=>[]
def jc:Option ac→List Int
  | some (.r1 _ _ _ _ _ _ _ _ x _ _ _ _)=>x
  | _=>[]
def jd:Option ac→List Int
  | some (.r1 _ _ _ _ _ _ _ _ _ x _ _ _)=>x
  | _=>[]
def gB:Option ac→List (List Int)
  | some (.r1 _ _ _ _ _ _ _ _ _ _ x _ _)=>x
  | _=>[]
def gC:Option ac→List Int
  | some (.r1 _ _ _ _ _ _ _ _ _ _ _ x _)=>x
  | _=>[]
def gD:Option ac→List Int
  | some (.r1 _ _ _ _ _ _ _ _ _ _ _ _ x)=>x
  | _=>[]
theorem wI{x:Option ac}(h:fx x=true) :x=some (.r1 (da x) (iV x) (iW x) (iX x) (iY x) (iZ x) (ja x) (jb x) (jc x) (jd x) (gB x) (gC x) (gD x)):=by
  unfold fx at h
  split at h<;>first | rfl | (cases h;done) | (rename_i y;cases y;rfl)
def fy:Option ac→Bool
  | some (.r2 _ _ _ _ _ _ _ _ _ _ _ _ _ _ _ _ _)=>true
  | _=>false
def db:Option ac→Bool
  | some (.r2 x _ _ _ _ _ _ _ _ _ _ _ _ _ _ _ _)=>x
  | _=>false
def dc:Option ac→Nat
  | some (.r2 _ x _ _ _ _ _ _ _ _ _ _ _ _ _ _ _)=>x
  | _=>0
def je:Option ac→Int
  | some (.r2 _ _ x _ _ _ _ _ _ _ _ _ _ _ _ _ _)=>x
  | _=>0
def jf:Option ac→Int
  | some (.r2 _ _ _ x _ _ _ _ _ _ _ _ _ _ _ _ _)=>x
  | _=>0
def jg:Option ac→Int
  | some (.r2 _ _ _ _ x _ _ _ _ _ _ _ _ _ _ _ _)=>x
  | _=>0
def jh:Option ac→List Int
  | some (.r2 _ _ _ _ _ x _ _ _ _ _ _ _ _ _ _ _)=>x
  | _=>[]
def ji:Option ac→Nat
  | some (.r2 _ _ _ _ _ _ x _ _ _ _ _ _ _ _ _ _)=>x
  | _=>0
def jj:Option ac→Int
  | some (.r2 _ _ _ _ _ _ _ x _ _ _ _ _ _ _ _ _)=>x
  | _=>0
def jk:Option ac→Int
  | some (.r2 _ _ _ _ _ _ _ _ x _ _ _ _ _ _ _ _)=>x
  | _=>0
def jl:Option ac→Bool
  | some (.r2 _ _ _ _ _ _ _ _ _ x _ _ _ _ _ _ _)=>x
  | _=>false
def gE:Option ac→Int
  | some (.r2 _ _ _ _ _ _ _ _ _ _ x _ _ _ _ _ _)=>x
  | _=>0
def gF:Option ac→List Int
  | some (.r2 _ _ _ _ _ _ _ _ _ _ _ x _ _ _ _ _)=>x
  | _=>[]
def gG:Option ac→List Int
  | some (.r2 _ _ _ _ _ _ _ _ _ _ _ _ x _ _ _ _)=>x
  | _=>[]
def gH:Option ac→List Int
  | some (.r2 _ _ _ _ _ _ _ _ _ _ _ _ _ x _ _ _)=>x
  | _=>[]
def gI:Option ac→List (List Int)
  | some (.r2 _ _ _ _ _ _ _ _ _ _ _ _ _ _ x _ _)=>x
  | _=>[]
def gJ:Option ac→List Int
  | some (.r2 _ _ _ _ _ _ _ _ _ _ _ _ _ _ _ x _)=>x
  | _=>[]
def gK:Option ac→List Int
  | some (.r2 _ _ _ _ _ _ _ _ _ _ _ _ _ _ _ _ x)=>x
  | _=>[]
theorem wJ{x:Option ac}(h:fy x=true) :x=some (.r2 (db x) (dc x) (je x) (jf x) (jg x) (jh x) (ji x) (jj x) (jk x) (jl x) (gE x) (gF x) (gG x) (gH x) (gI x) (gJ x) (gK x)):=by
  unfold fy at h
  split at h<;>first | rfl | (cases h;done) | (rename_i y;cases y;rfl)
def mu(q:Option ac)(pre:List Bool) :List pA:=[⟨ed (.r0 (cZ q) (iM q) (iN q) (iO q) (iP q) (iQ q) (iR q) (iS q) (iT q) (iU q) (gn q) (gp q) (gq q) (gr q) (gu q) (gv q) (gw q) (gz q) (gA q)),pre++[fw q]⟩,
  ⟨ed (.r1 (da q) (iV q) (iW q) (iX q) (iY q) (iZ q) (ja q) (jb q) (jc q) (jd q) (gB q) (gC q) (gD q)),pre++[fx q]⟩,
  ⟨ed (.r2 (db q) (dc q) (je q) (jf q) (jg q) (jh q) (ji q) (jj q) (jk q) (jl q) (gE q) (gF q) (gG q) (gH q) (gI q) (gJ q) (gK q)),pre++[fy q]⟩]
def G8:aH:=⟨bE,fun lent args=>match args with
  | [.ptr 0 1 0 0,.str s]=>match lent with
    | [.vs [.sl 1 6 6 0 n c,.int .i64 k,.int .i64 m,.int .i64 nn,.imm (.up .free) (.ns .u64 w) 1 1 0 nw,.int .i64 y,.int .u64 t,.bool false on,.int .i64 row],.cols nc [.ci .i64 ks,.ci .i64 ms,.ci .i64 ns,.cns .u64 wss,.ci .i64 ys,.ci .u64 ts]] =>
      some (mu (kZ n c k m nn w y t on row nc ks ms ns wss ys ts s) [Nat.beq nw w.length])
    | [.vs [.sl 1 6 6 0 n c,.int .i64 k,.int .i64 m,.int .i64 nn,.sl 2 1 1 0 nw cw,.int .i64 y,.int .u64 t,.bool false on,.int .i64 row],.cols nc [.ci .i64 ks,.ci .i64 ms,.ci .i64 ns,.cns .u64 wss,.ci .i64 ys,.ci .u64 ts],.ns .u64 ws] =>
      some (mt (kX n c k m nn nw cw y t on row nc ks ms ns wss ys ts ws s) [])
    | _=>none
  | _=>none⟩
theorem IN:aM prog G8:=by
  intro lent args alts a h ha ho
  simp only [G8] at h
  split at h
  · rename_i s
    split at h
    · rename_i n c k m nn w nw y t on row nc ks ms ns wss ys ts
      cases h
      simp only [mu,List.mem_cons,List.not_mem_nil,or_false] at ha
      rcases ha with rfl | rfl | rfl
      all_goals
        have e:=Nat.eq_of_beq_eq_true ho.1
        subst e
      · exact kq n c k m nn w y t on row nc ks ms ns wss ys ts s (wH ho.2.1)
      · exact kq n c k m nn w y t on row nc ks ms ns wss ys ts s (wI ho.2.1)
      · exact kq n c k m nn w y t on row nc ks ms ns wss ys ts s (wJ ho.2.1)
    · rename_i n c k m nn nw cw y t on row nc ks ms ns wss ys ts ws
      cases h
      simp only [mt,List.mem_cons,List.not_mem_nil,or_false,List.nil_append] at ha
      rcases ha with rfl | rfl | rfl
      · exact kp n c k m nn nw cw y t on row nc ks ms ns wss ys ts ws s (wx ho.1)
      · exact kp n c k m nn nw cw y t on row nc ks ms ns wss ys ts ws s (wy ho.1)
      · exact kp n c k m nn nw cw y t on row nc ks ms ns wss ys ts ws s (wz ho.1)
    · cases h
  · cases h
def M2:List aH:=G8::oK
theorem vg:ba prog (bh M2):=aw IN au
structure RS where
  nl:Nat
  cl:Nat
  k:Int
  m:Int
  nn:Int
  y:Int
  t:Int
  on:Bool
  row:Int
  nc:Nat
  ks:List Int
  ms:List Int
  ns:List Int
  wss:List (List Int)
  ys:List Int
  ts:List Int
inductive Kf where
  | off (s:ByteArray) (n:Int) (b:Bool) (r:RS) (w:List Int) (nw:Nat)
  | on (s:ByteArray) (n:Int) (b:Bool) (r:RS) (nw cw:Nat) (ws:List Int)
def Mt(r:RS)(W:AV) :aj:=.vs [.sl 1 6 6 0 r.nl r.cl,.int .i64 r.k,.int .i64 r.m,.int .i64 r.nn,W,.int .i64 r.y,.int .u64 r.t,.bool false r.on,.int .i64 r.row]
def LG(r:RS) :aj:=.cols r.nc [.ci .i64 r.ks,.ci .i64 r.ms,.ci .i64 r.ns,.cns .u64 r.wss,.ci .i64 r.ys,.ci .u64 r.ts]
def pI:Kf→az
  | .off s n b r w nw=>⟨ao 49 [(5,.ptr 0 1 0 0),(6,.int .i64 n),(7,.bool false b),(8,.str s)],[(0,Mt r (.imm .free (.ns .u64 w) 1 1 0 nw)),(1,LG r)],2⟩
  | .on s n b r nw cw ws=>⟨ao 49 [(5,.ptr 0 1 0 0),(6,.int .i64 n),(7,.bool false b),(8,.str s)],[(0,Mt r (.sl 2 1 1 0 nw cw)),(1,LG r),(2,.ns .u64 ws)],3⟩
def Kg:List Code:=cJ (HL (((cJ (rx ka)).drop 1).headD .skip))
def Le:List Code:=(Kg.drop 5).take 1
def FS:List Code:=cJ (jD (Le.headD .skip))
inductive CE where
  | bad (n:Int) (b:Bool)
  | doff (n:Int) (b:Bool) (r:RS) (w:List Int) (nw:Nat)
  | don (n:Int) (b:Bool) (r:RS)
def pJ:CE→az
  | .bad n b=>⟨ao 49 [(6,.int .i64 n),(7,.bool false b)],[],0⟩
  | .doff n b r w nw=>⟨ao 49 [(5,.ptr 0 1 0 0),(6,.int .i64 n),(7,.bool false b)],[(0,Mt r (.imm .free (.ns .u64 w) 1 1 0 nw)),(1,LG r)],2⟩
  | .don n b r=>⟨ao 49 [(5,.ptr 0 1 0 0),(6,.int .i64 n),(7,.bool false b)],[(0,Mt r .any),(1,LG r)],2⟩
inductive ap where
  | fail (n e:Int)
  | ok (r:RS)
def cL:ap→AE×az
  | .fail n e=>(.ret,⟨ao 49 [(2,.nsl),(3,.int .i64 n),(4,.int .i64 e)],[],0⟩)
  | .ok r=>(.ret,⟨ao 49 [(2,.sl 0 6 6 0 r.nl r.cl),(3,.int .i64 (0:Int)),(4,.int .i64 (0:Int))],[(0,LG r)],1⟩)
theorem eV:qm cL:=by intro x;cases x<;>(intro h;cases h)
theorem zf(id:Nat) :ow id cL:=by intro x;cases x<;>(intro h;cases h)
def nA:ap→lX
  | .fail n e=>⟨.tup [.nsl,.int .i64 n,.int .i64 e],[]⟩
  | .ok r=>⟨.tup [.imm .free (LG r) 6 6 0 r.nl,.int .i64 (0:Int),.int .i64 (0:Int)],[]⟩
def LH(n:Int)(c:Option aX)(w:List Int)(nw:Nat)(q:Option ac) :T (Kf⊕(CE⊕ap)) :=
        (.alt 0 (.need (Nat.beq nw w.length)<|.need (fw q)<|.ask (!(cZ q)) (.leaf (.inr (.inl (.bad n (cZ q))))) (.need (jQ .i64 (n+(1:Int)))<|.leaf (.inl (.off (bS c) (n+(1:Int)) (cZ q) ⟨(iM q),(iN q),(iO q),(iP q),(iQ q),(iT q),(iU q),(gn q),(gp q),(gq q),(gr q),(gu q),(gv q),(gw q),(gz q),(gA q)⟩ (iR q) (iS q)))))
        (.alt 1 (.need (Nat.beq nw w.length)<|.need (fx q)<|.ask (!(da q)) (.leaf (.inr (.inl (.bad n (da q))))) (.need (jQ .i64 (n+(1:Int)))<|.leaf (.inl (.on (bS c) (n+(1:Int)) (da q) ⟨(iV q),(iW q),(0:Int),(iX q),(iY q),(0:Int),(0:Int),(iZ q),(0:Int),(ja q),(jb q),(jc q),(jd q),(gB q),(gC q),(gD q)⟩ 0 0 []))))
        (.alt 2 (.need (Nat.beq nw w.length)<|.need (fy q)<|.ask (!(db q)) (.leaf (.inr (.inl (.bad n (db q))))) (.need (jQ .i64 (n+(1:Int)))<|.leaf (.inl (.off (bS c) (n+(1:Int)) (db q) ⟨(dc q),(dc q),(je q),(jf q),(jg q),(jj q),(jk q),(jl q),(gE q),(dc q),(gF q),(gG q),(gH q),(gI q),(gJ q),(gK q)⟩ (jh q) (ji q)))))
        .fail)))
def LI(s:ByteArray)(n:Int)(b:Bool)(r:RS)(w:List Int)(nw:Nat)(c:Option aX) :T (Kf⊕(CE⊕ap)) :=
  .ask (!(s.toList==(ByteArray.mk #[]).toList))
    (.need (fJ c)<|.ask (gY c)
      (LH n c w nw (kZ r.nl r.cl r.k r.m r.nn w r.y r.t r.on r.row r.nc r.ks r.ms r.ns r.wss r.ys r.ts (gX c)))
      (.leaf (.inr (.inl (.bad n false)))))
    (.leaf (.inr (.inl (.doff n b r w nw))))
def FU(s:ByteArray)(n:Int)(b:Bool)(r:RS)(w:List Int)(nw:Nat) :T (Kf⊕(CE⊕ap)):=LI s n b r w nw (lB s (ByteArray.mk #[10]))
def Mf(n:Int)(c:Option aX)(q:Option aa) :T (Kf⊕(CE⊕ap)) :=
        (.alt 0 (.need (fq q)<|.ask (!(cW q)) (.leaf (.inr (.inl (.bad n (cW q))))) (.need (jQ .i64 (n+(1:Int)))<|.leaf (.inl (.on (bS c) (n+(1:Int)) (cW q) ⟨(ii q),(ij q),(ik q),(il q),(im q),(iq q),(ir q),(fK q),(fL q),(fM q),(fN q),(fO q),(fP q),(fQ q),(fR q),(fS q)⟩ (io q) (ip q) (fT q)))))
        (.alt 1 (.need (fu q)<|.ask (!(cX q)) (.leaf (.inr (.inl (.bad n (cX q))))) (.need (jQ .i64 (n+(1:Int)))<|.leaf (.inl (.on (bS c) (n+(1:Int)) (cX q) ⟨(iu q),(iv q),(0:Int),(iw q),(iy q),(0:Int),(0:Int),(iz q),(0:Int),(iA q),(iB q),(iC q),(iD q),(fU q),(fV q),(fW q)⟩ 0 0 []))))
        (.alt 2 (.need (fv q)<|.ask (!(cY q)) (.leaf (.inr (.inl (.bad n (cY q))))) (.need (jQ .i64 (n+(1:Int)))<|.leaf (.inl (.on (bS c) (n+(1:Int)) (cY q) ⟨(iE q),(iF q),(iG q),(iH q),(iI q),(iJ q),(iK q),(iL q),(fX q),(fY q),(fZ q),(gg q),(gh q),(gi q),(gj q),(gk q)⟩ (dP q) (dP q) (gl q)))))
        .fail)))
def Mg(s:ByteArray)(n:Int)(b:Bool)(r:RS)(nw cw:Nat)(ws:List Int)(c:Option aX) :T (Kf⊕(CE⊕ap)) :=
  .ask (!(s.toList==(ByteArray.mk #[]).toList))
    (.need (fJ c)<|.ask (gY c)
      (Mf n c (kX r.nl r.cl r.k r.m r.nn nw cw r.y r.t r.on r.row r.nc r.ks r.ms r.ns r.wss r.ys r.ts ws (gX c)))
      (.leaf (.inr (.inl (.bad n false)))))
    (.leaf (.inr (.inl (.don n b r))))
def LJ(s:ByteArray)(n:Int)(b:Bool)(r:RS)(nw cw:Nat)(ws:List Int) :T (Kf⊕(CE⊕ap)):=Mg s n b r nw cw ws (lB s (ByteArray.mk #[10]))
def pB:Kf→Option (Kf⊕(CE⊕ap))
  | .off s n b r w nw=>(FU s n b r w nw).run
  | .on s n b r nw cw ws=>bif decide (r.row<r.m)&&decide (0<r.nn) then (LJ s n b r nw cw ws).run else (FU s n b r ws nw).run
def Mh:RS:=⟨0,0,(0:Int),(0:Int),(0:Int),(0:Int),(0:Int),false,(0:Int),0,[],[],[],[],[],[]⟩
def MV:T (Unit⊕ap):=.leaf (.inl ())
def MW(s:ByteArray) :T (Kf⊕ap) :=
  .ask (decide (((s.size:Nat):Int)>(8388608:Int)))
    (.leaf (.inr (.fail (0:Int) (3:Int))))
    (.leaf (.inl (.off s (0:Int) true Mh [] 0)))
def Ew(n:Int)(b:Bool)(r:RS) :T (Empty⊕ap) :=
  .ask (!b) (.leaf (.inr (.fail n (4:Int))))
    (.ask r.on (.leaf (.inr (.fail n (4:Int))))
      (.ask (decide (((r.nl:Nat):Int)>(64:Int))) (.leaf (.inr (.fail (0:Int) (3:Int)))) (.leaf (.inr (.ok r)))))
def Lf(n:Int)(b:Bool) :T (Empty⊕ap):=.ask (!b) (.leaf (.inr (.fail n (4:Int)))) .fail
def MX:CE→Option (Empty⊕ap)
  | .bad n b=>(Lf n b).run
  | .doff n b r w nw=>(Ew n b r).run
  | .don n b r=>(Ew n b r).run
def kr(s:ByteArray) :Option ap:=uu (aQ MV.run fun _=>aQ (MW s).run fun a=>aQ (dn pB a) MX)
def M3(s:ByteArray) :Unit→az:=fun _=>⟨ao 49 [(0,.str s)],[],0⟩
theorem Mi(s:CE) :Sg prog [] (Kg.drop 6) (pJ s) (MX s) vi cL:=by
  cases s with
  | bad n b=>exact cu (t:=Lf n b) vg vi [⟨[],[],[2,3,4]⟩]
  | doff n b r w nw=>exact cu (t:=Ew n b r) vg vi [⟨[],[],[2,3,4]⟩,⟨[],[],[2,3,4]⟩,⟨[],[],[2,3,4]⟩,⟨[],[1],[2,3,4]⟩]
  | don n b r=>exact cu (t:=Ew n b r) vg vi [⟨[],[],[2,3,4]⟩,⟨[],[],[2,3,4]⟩,⟨[],[],[2,3,4]⟩,⟨[],[1],[2,3,4]⟩]
theorem Mj(s:ByteArray)(n:Int)(b:Bool)(r:RS)(w:List Int)(nw:Nat) :Sg prog [] FS (pI (.off s n b r w nw)) (FU s n b r w nw).run pI (dz 0 pJ cL) :=
  cu vg pI [⟨[],[],[6,7]⟩,⟨[],[0,1],[5,6,7,8]⟩,⟨[],[],[6,7]⟩,⟨[(.cell 0 4,.own 1 1 (.ns .u64 []))],[0,1,386],[5,6,7,8]⟩,⟨[],[],[6,7]⟩,⟨[],[0,226],[5,6,7,8]⟩,⟨[],[],[6,7]⟩,⟨[],[0,1],[5,6,7]⟩]
theorem M4(s:ByteArray)(n:Int)(b:Bool)(r:RS)(nw cw:Nat)(ws:List Int) :Sg prog [] FS (pI (.on s n b r nw cw ws)) (LJ s n b r nw cw ws).run pI (dz 0 pJ cL) :=
  cu vg pI [⟨[],[],[6,7]⟩,⟨[],[0,1,2],[5,6,7,8]⟩,⟨[],[],[6,7]⟩,⟨[(.cell 0 4,.own 1 1 (.ns .u64 []))],[0,1,387],[5,6,7,8]⟩,⟨[],[],[6,7]⟩,⟨[],[0,1,227],[5,6,7,8]⟩,⟨[],[],[6,7]⟩,⟨[],[0,1],[5,6,7]⟩]
theorem Mk(s:ByteArray)(n:Int)(b:Bool)(r:RS)(nw cw:Nat)(ws:List Int) :Sg prog [] FS (pI (.on s n b r nw cw ws)) (FU s n b r ws nw).run pI (dz 0 pJ cL) :=
  Sg.sub (Ke (b:=0) (i:=4) (x:=2)) (Sg.pre ⟨[],[0,1],[5,6,7,8]⟩ rfl (by kernel_rfl:NS.on ⟨[],[0,1],[5,6,7,8]⟩ (G7 (pI (.on s n b r nw cw ws)) 0 4 2)=pI (.off s n b r ws nw)) (Mj s n b r ws nw))
theorem LK(s:Kf) :Sg prog [] FS (pI s) (pB s) pI (dz 0 pJ cL):=by
  cases s with
  | off s n b r w nw=>exact Mj s n b r w nw
  | on s n b r nw cw ws =>
    show Sg prog [] FS (pI (.on s n b r nw cw ws)) (bif decide (r.row<r.m)&&decide (0<r.nn) then (LJ s n b r nw cw ws).run else (FU s n b r ws nw).run) pI _
    cases decide (r.row<r.m)&&decide (0<r.nn) with
    | true=>exact M4 s n b r nw cw ws
    | false=>exact Mk s n b r nw cw ws
theorem qF(s:ByteArray){x:ap}(h:kr s=some x) :am prog ka [] [.str s] (nA x) :=
  yD true nA cL h (Sg.cut 1 eV (cu (t:=MV) vg (M3 s) [⟨[],[],[0]⟩]) (fun _=>GQ (b:=HL (((cJ (rx ka)).drop 1).headD .skip)) (by kernel_rfl) eV
    (Sg.cut 5 eV (cu (t:=MW s) vg pI [⟨[],[],[2,3,4]⟩,⟨[(.cell 48 0,.own 6 6 (.cols 0 [.ci .i64 [],.ci .i64 [],.ci .i64 [],.cns .u64 [],.ci .i64 [],.ci .u64 []])),(.cell 48 4,.fre 1 1 (.ns .u64 []))],[48,128],[5,6,7,8]⟩])
      (fun a=>Sg.cut 1 eV (Dd (b:=jD (Le.headD .skip)) (by kernel_rfl) eV (zf _) LK a) (fun e=>Mi e)))))
    (fun x=>by cases x with
      | fail n e=>exact qo [.nsl,.int .i64 n,.int .i64 e]
      | ok r=>exact qo [.sl 0 6 6 0 r.nl r.cl,.int .i64 (0:Int),.int .i64 (0:Int)])
end
end Go.Plb.Seat
namespace Go.Plb.Seat
open Go Go.Plb
set_option linter.unusedVariables false
set_option maxRecDepth 100000
def rV(n:Nat)(ks ms ns:List Int)(wss:List (List Int))(ys ts:List Int) :List tN:=(List.range n).map fun i=>⟨ks.getD i 0,ms.getD i 0,ns.getD i 0,wss.getD i [],ys.getD i 0,ts.getD i 0⟩
theorem rW(n:Nat)(ks ms ns:List Int)(wss:List (List Int))(ys ts:List Int) :(rV n ks ms ns wss ys ts).length=n:=by simp [rV]
theorem LL{ρ:ae}{W:World}{lv:Lv}{d:aj}{k es len:Nat}{u:Value}(h:VR ρ W (.imm lv d k es 0 len) u) :d.recKept:=by
  cases h with
  | imm _ _ _ _ _ _ _ _ _ _ ha hb hc hv hl hr hk hg=>exact hr
  | immEnd _ _ _ _ _ _ _ hr hk hg=>exact hr
theorem KM{n:Nat}{ks ms ns:List Int}{wss:List (List Int)}{ys ts:List Int}(hr:(aj.cols n [.ci .i64 ks,.ci .i64 ms,.ci .i64 ns,.cns .u64 wss,.ci .i64 ys,.ci .u64 ts]).recKept) :Kb (.cols n [.ci .i64 ks,.ci .i64 ms,.ci .i64 ns,.cns .u64 wss,.ci .i64 ys,.ci .u64 ts]) (rV n ks ms ns wss ys ts):=by
  have h1:ks.length=n:=hr _ (by simp:cr.ci .i64 ks∈_)
  have h2:ms.length=n:=hr _ (by simp:cr.ci .i64 ms∈_)
  have h3:ns.length=n:=hr _ (by simp:cr.ci .i64 ns∈_)
  have h4:wss.length=n:=hr _ (by simp:cr.cns .u64 wss∈_)
  have h5:ys.length=n:=hr _ (by simp:cr.ci .i64 ys∈_)
  have h6:ts.length=n:=hr _ (by simp:cr.ci .u64 ts∈_)
  intro i a hi
  have hlt:i<n:=by
    have:=(List.getElem?_eq_some_iff.1 hi).1
    rwa [rW] at this
  have ha:a=⟨ks.getD i 0,ms.getD i 0,ns.getD i 0,wss.getD i [],ys.getD i 0,ts.getD i 0⟩:=by
    unfold rV at hi
    rw [List.getElem?_map,List.getElem?_range hlt] at hi
    exact (Option.some.inj hi).symm
  subst ha
  have hd:∀ j,j<6→(i*6+j)%6=j∧(i*6+j)/6=i:=fun j hj=>by omega
  have gd:∀ {α:Type} (xs:List α) (d:α),xs.length=n→xs[i]? = some (xs.getD i d):=fun xs d h=>by
    rw [List.getD_eq_getElem?_getD,List.getElem?_eq_getElem (by omega)];rfl
  refine ⟨.free,?_,?_,?_,?_,?_,?_⟩
  · have:=hd 0 (by omega)
    simp only [Nat.add_zero] at this
    simp only [aj.cell?,List.length_cons,List.length_nil,this.1,this.2]
    show (ks[i]?).map _=_
    rw [gd ks 0 h1];rfl
  · simp only [aj.cell?,List.length_cons,List.length_nil,(hd 1 (by omega)).1,(hd 1 (by omega)).2]
    show (ms[i]?).map _=_
    rw [gd ms 0 h2];rfl
  · simp only [aj.cell?,List.length_cons,List.length_nil,(hd 2 (by omega)).1,(hd 2 (by omega)).2]
    show (ns[i]?).map _=_
    rw [gd ns 0 h3];rfl
  · simp only [aj.cell?,List.length_cons,List.length_nil,(hd 3 (by omega)).1,(hd 3 (by omega)).2]
    show (wss[i]?).map _=_
    rw [gd wss [] h4];rfl
  · simp only [aj.cell?,List.length_cons,List.length_nil,(hd 4 (by omega)).1,(hd 4 (by omega)).2]
    show (ys[i]?).map _=_
    rw [gd ys 0 h5];rfl
  · simp only [aj.cell?,List.length_cons,List.length_nil,(hd 5 (by omega)).1,(hd 5 (by omega)).2]
    show (ts[i]?).map _=_
    rw [gd ts 0 h6];rfl
theorem KN(lv:Lv)(n:Nat)(ks ms ns:List Int)(wss:List (List Int))(ys ts:List Int)(hl:n≤1000000000) :am prog fa [] [.imm lv (.cols n [.ci .i64 ks,.ci .i64 ms,.ci .i64 ns,.cns .u64 wss,.ci .i64 ys,.ci .u64 ts]) 6 6 0 n]
    ⟨.tup [.str (hX (rV n ks ms ns wss ys ts)),.int .i64 (hZ (rV n ks ms ns wss ys ts))],[]⟩:=by
  intro ρ w us hN hv
  have hr:(aj.cols n [.ci .i64 ks,.ci .i64 ms,.ci .i64 ns,.cns .u64 wss,.ci .i64 ys,.ci .u64 ts]).recKept:=by
    cases hv with | cons _ u _ _ h1 h2=>exact LL h1
  have h:=HU lv _ 6 6 (rV n ks ms ns wss ys ts) (KM hr) (by rw [rW];exact hl)
  rw [rW] at h
  exact h ρ w us hN hv
noncomputable def HY:aH:=cT fa (.cons (.cols [.ci .i64,.ci .i64,.ci .i64,.cns .u64,.ci .i64,.ci .u64]) .nil) fun t =>
  [⟨⟨.tup [.str (hX (rV t.1.2.1 t.1.2.2.1 t.1.2.2.2.1 t.1.2.2.2.2.1 t.1.2.2.2.2.2.1 t.1.2.2.2.2.2.2.1 t.1.2.2.2.2.2.2.2.1)),.int .i64 (hZ (rV t.1.2.1 t.1.2.2.1 t.1.2.2.2.1 t.1.2.2.2.2.1 t.1.2.2.2.2.2.1 t.1.2.2.2.2.2.2.1 t.1.2.2.2.2.2.2.2.1))],[]⟩,[jO t.1.2.1]⟩]
theorem G9:aM prog HY:=aO fun t=>aS (fun h=>KN t.1.1 t.1.2.1 t.1.2.2.1 t.1.2.2.2.1 t.1.2.2.2.2.1 t.1.2.2.2.2.2.1 t.1.2.2.2.2.2.2.1 t.1.2.2.2.2.2.2.2.1 (Nat.le_of_ble_eq_true h)) bG
def Ml:Option ap→Bool
  | some (.fail _ _)=>true
  | _=>false
def Mm:Option ap→Bool
  | some (.ok r)=>Nat.beq r.nl r.nc
  | _=>false
def M5:Option ap→Int
  | some (.fail n _)=>n
  | _=>0
def M6:Option ap→Int
  | some (.fail _ e)=>e
  | _=>0
def LM:Option ap→RS
  | some (.ok r)=>r
  | _=>Mh
def MY(q:Option ap) :Nat:=(LM q).nl
def MF(q:Option ap) :List Int:=(LM q).ks
def MG(q:Option ap) :List Int:=(LM q).ms
def MH(q:Option ap) :List Int:=(LM q).ns
def MI(q:Option ap) :List (List Int):=(LM q).wss
def MJ(q:Option ap) :List Int:=(LM q).ys
def MK(q:Option ap) :List Int:=(LM q).ts
noncomputable def Kh:aH:=cT ka (.cons .str .nil) fun t=>(fun q =>
  [⟨⟨.tup [.nsl,.int .i64 (M5 q),.int .i64 (M6 q)],[]⟩,[Ml q]⟩,
   ⟨⟨.tup [.imm .free (.cols (MY q) [.ci .i64 (MF q),.ci .i64 (MG q),.ci .i64 (MH q),.cns .u64 (MI q),.ci .i64 (MJ q),.ci .u64 (MK q)]) 6 6 0 (MY q),.int .i64 (0:Int),.int .i64 (0:Int)],[]⟩,[Mm q]⟩]) (kr t.1)
theorem IO:aM prog Kh:=aO fun t=>aS (fun h=>by
    generalize hq:kr t.1=q at h ⊢
    unfold Ml at h
    split at h
    · exact qF t.1 hq
    · cases h) (aS (fun h=>by
    generalize hq:kr t.1=q at h ⊢
    unfold Mm at h
    split at h
    · rename_i r
      have e:=Nat.eq_of_beq_eq_true h
      have:=qF t.1 hq
      simp only [nA,LG,←e] at this
      exact this
    · cases h) bG)
noncomputable def Mn:List aH:=Kh::HY::oK
theorem wK:ba prog (bh Mn):=aw IO (aw G9 au)
end Go.Plb.Seat
namespace Go.Plb.Seat
open Go Go.Plb
set_option linter.unusedVariables false
set_option maxRecDepth 100000
noncomputable section
inductive bP where
  | r0 (b4:Bool)
def mN:bP→AE×az
  | .r0 b4=>(.ret,⟨ao 22 [(2,.bool false b4)],[],0⟩)
theorem lC:qm mN:=by intro x;cases x<;>(intro h;cases h)
theorem CF(id:Nat) :ow id mN:=by intro x;cases x<;>(intro h;cases h)
def qc:bP→lX
  | .r0 b4=>⟨.bool false b4,[]⟩
noncomputable def CG:List Code:=cJ (rx pK)
def CH(v_0:Lv)(l_1:Nat)(l_2:List Int)(l_3:List Int)(l_4:List Int)(l_5:List (List Int))(l_6:List Int)(l_7:List Int)(_:Unit) :az:=⟨ao 22 [(0,.imm v_0 (.cols l_1 [.ci .i64 l_2,.ci .i64 l_3,.ci .i64 l_4,.cns .u64 l_5,.ci .i64 l_6,.ci .u64 l_7]) 6 6 0 l_1),(3,.int .i64 (0:Int))],[],0⟩
def CI:T ((Unit)⊕(bP)) :=
  .leaf (.inl ())
def lD(v_0:Lv)(l_1:Nat)(l_2:List Int)(l_3:List Int)(l_4:List Int)(l_5:List (List Int))(l_6:List Int)(l_7:List Int)(i2:Nat) :az:=⟨ao 22 [(0,.imm v_0 (.cols l_1 [.ci .i64 l_2,.ci .i64 l_3,.ci .i64 l_4,.cns .u64 l_5,.ci .i64 l_6,.ci .u64 l_7]) 6 6 0 l_1),(3,.int .i64 ((i2:Nat):Int))],[],0⟩
def tV(v_0:Lv)(l_1:Nat)(l_2:List Int)(l_3:List Int)(l_4:List Int)(l_5:List (List Int))(l_6:List Int)(l_7:List Int)(_:Unit) :az:=⟨ao 22 [(0,.imm v_0 (.cols l_1 [.ci .i64 l_2,.ci .i64 l_3,.ci .i64 l_4,.cns .u64 l_5,.ci .i64 l_6,.ci .u64 l_7]) 6 6 0 l_1)],[],0⟩
noncomputable def Bm:List Code:=cJ (jD ((((CG.drop 2).take 1)).headD .skip))
def CL(v_0:Lv)(l_1:Nat)(l_2:List Int)(l_3:List Int)(l_4:List Int)(l_5:List (List Int))(l_6:List Int)(l_7:List Int)(i2:Nat)(b3:Bool) :az:=⟨ao 22 [(0,.imm v_0 (.cols l_1 [.ci .i64 l_2,.ci .i64 l_3,.ci .i64 l_4,.cns .u64 l_5,.ci .i64 l_6,.ci .u64 l_7]) 6 6 0 l_1),(3,.int .i64 ((i2:Nat):Int)),(11,.bool false b3)],[],0⟩
def nB(l_1:Nat)(i2:Nat) :T ((Bool)⊕((Unit)⊕(bP))) :=
  .ask (decide (((i2:Nat):Int)<((l_1:Nat):Int)))
    (.leaf (.inl (decide (((i2:Nat):Int)<(81:Int)))))
    (.leaf (.inl false))
def Bn(l_1:Nat)(l_2:List Int)(l_3:List Int)(l_4:List Int)(l_5:List (List Int))(l_6:List Int)(l_7:List Int)(i2:Nat)(b3:Bool) :T ((Nat)⊕((Unit)⊕(bP))) :=
  .ask b3
    (.need (th ((i2:Nat):Int) l_1)<|.need (jo i2 (List.length l_2))<|.need (jo i2 (List.length l_3))<|.need (jo i2 (List.length l_4))<|.need (jo i2 (List.length l_5))<|.need (jo i2 (List.length l_6))<|.need (jo i2 (List.length l_7))<|.ask (decide ((((List.length (List.getD l_5 i2 [])):Nat):Int)>(200:Int)))
      (.leaf (.inr (.inr (.r0 true))))
      (.need (jQ .i64 (((i2+1):Nat):Int))<|.leaf (.inl (i2+1))))
    (.leaf (.inr (.inl ())))
noncomputable def ku(l_1:Nat)(l_2:List Int)(l_3:List Int)(l_4:List Int)(l_5:List (List Int))(l_6:List Int)(l_7:List Int) :Nat→Option ((Nat)⊕((Unit)⊕(bP))):=fun i2 =>
  aQ ((nB l_1 i2).run) fun b3 =>
  (Bn l_1 l_2 l_3 l_4 l_5 l_6 l_7 i2 b3).run
theorem Bo(v_0:Lv)(l_1:Nat)(l_2:List Int)(l_3:List Int)(l_4:List Int)(l_5:List (List Int))(l_6:List Int)(l_7:List Int)(i2:Nat) :Sg prog [] Bm (lD v_0 l_1 l_2 l_3 l_4 l_5 l_6 l_7 i2) (ku l_1 l_2 l_3 l_4 l_5 l_6 l_7 i2) (lD v_0 l_1 l_2 l_3 l_4 l_5 l_6 l_7) (dz 0 (tV v_0 l_1 l_2 l_3 l_4 l_5 l_6 l_7) mN):=by
  unfold ku;exact Sg.cut 1 (aZ lC) (cu wK (CL v_0 l_1 l_2 l_3 l_4 l_5 l_6 l_7 i2) [⟨[],[],[0,3,11]⟩,⟨[],[],[0,3,11]⟩]) (fun b3=>cu wK (lD v_0 l_1 l_2 l_3 l_4 l_5 l_6 l_7) [⟨[],[],[2]⟩,⟨[],[],[0,3]⟩,⟨[],[],[0]⟩])
def Bp(l_1:Nat) :T ((Empty)⊕(bP)) :=
  .leaf (.inr (.r0 (decide (((l_1:Nat):Int)>(80:Int)))))
noncomputable def gZ(l_1:Nat)(l_2:List Int)(l_3:List Int)(l_4:List Int)(l_5:List (List Int))(l_6:List Int)(l_7:List Int) :Option bP:=uu (aQ ((CI).run) fun _ =>
  aQ (dn (ku l_1 l_2 l_3 l_4 l_5 l_6 l_7) 0) fun _ =>
  (Bp l_1).run)
theorem CM(v_0:Lv)(l_1:Nat)(l_2:List Int)(l_3:List Int)(l_4:List Int)(l_5:List (List Int))(l_6:List Int)(l_7:List Int){x:bP}(h:gZ l_1 l_2 l_3 l_4 l_5 l_6 l_7=some x) :am prog pK [] [.imm v_0 (.cols l_1 [.ci .i64 l_2,.ci .i64 l_3,.ci .i64 l_4,.cns .u64 l_5,.ci .i64 l_6,.ci .u64 l_7]) 6 6 0 l_1] (qc x) :=
  yD false qc mN h (Sg.cut 2 lC (cu wK (CH v_0 l_1 l_2 l_3 l_4 l_5 l_6 l_7) [⟨[],[],[0,3]⟩]) (fun _=>Sg.cut 1 lC (JU ⟨[],[],[0,3]⟩ (lD v_0 l_1 l_2 l_3 l_4 l_5 l_6 l_7) (tV v_0 l_1 l_2 l_3 l_4 l_5 l_6 l_7) 0 lC (CF _) (fun i2=>Bo v_0 l_1 l_2 l_3 l_4 l_5 l_6 l_7 i2)) (fun _=>cu wK vi [⟨[],[],[2]⟩])))
    (fun x=>by cases x with | r0 b4=>exact qo [.bool false b4])
def lE:Option bP→Bool
  | some _=>true
  | none=>false
def ml:Option bP→Bool
  | some (.r0 x)=>x
  | _=>false
theorem CN{x:Option bP}(h:lE x=true) :x=some (.r0 (ml x)):=by
  unfold lE at h
  split at h<;>first | rfl | (cases h;done) | (rename_i y;cases y;rfl)
noncomputable def wL:aH:=cT pK (.cons (.cols [.ci .i64,.ci .i64,.ci .i64,.cns .u64,.ci .i64,.ci .u64]) .nil) fun t=>(fun q=>[⟨qc (.r0 (ml q)),[lE q]⟩]) (gZ t.1.2.1 t.1.2.2.1 t.1.2.2.2.1 t.1.2.2.2.2.1 t.1.2.2.2.2.2.1 t.1.2.2.2.2.2.2.1 t.1.2.2.2.2.2.2.2.1)
theorem zg:aM prog wL:=aO fun t=>(aS (fun h=>CM t.1.1 t.1.2.1 t.1.2.2.1 t.1.2.2.2.1 t.1.2.2.2.2.1 t.1.2.2.2.2.2.1 t.1.2.2.2.2.2.2.1 t.1.2.2.2.2.2.2.2.1 (CN h)) bG)
noncomputable def wM:List aH:=wL::Mn
theorem jA:ba prog (bh wM):=aw zg wK
inductive dh where
  | r0 (b3:Bool)
def yL:dh→AE×az
  | .r0 b3=>(.ret,⟨ao 52 [(2,.bool false b3)],[],0⟩)
theorem wN:qm yL:=by intro x;cases x<;>(intro h;cases h)
def rX:dh→lX
  | .r0 b3=>⟨.bool false b3,[]⟩
def Ex(a_0:Int)(a_1:Int)(a_2:Int)(v_3:Lv)(a_4:List Int)(a_5:Int)(a_6:Int)(b1:Bool) :az:=⟨ao 52 [(1,.ptr 0 1 0 0),(36,.bool false b1)],[(0,.vs [.int .i64 a_0,.int .i64 a_1,.int .i64 a_2,.imm v_3 (.ns .u64 a_4) 1 1 0 (List.length a_4),.int .i64 a_5,.int .u64 a_6])],1⟩
def mO(a_0:Int)(a_1:Int)(a_2:Int)(a_4:List Int)(a_5:Int)(a_6:Int) :T ((Bool)⊕(dh)) :=
  .ask (decide (a_1<(0:Int)))
    (.leaf (.inl true))
    (.ask (decide (a_1>(512:Int)))
      (.leaf (.inl true))
      (.ask (decide (a_2<(0:Int)))
        (.leaf (.inl true))
        (.ask (decide (a_2>(512:Int)))
          (.leaf (.inl true))
          (.need (jQ .i64 (a_1*a_2))<|.ask ((((List.length a_4):Nat):Int) != (a_1*a_2))
            (.leaf (.inl true))
            (.need (oT 0 (List.length a_4) a_4)<|.need (gW (dC a_0 a_5 a_6))<|.leaf (.inl (!(jH (dC a_0 a_5 a_6)))))))))
def Ey(b2:Bool) :az:=⟨ao 52 [(2,.bool false b2)],[],0⟩
def Ez(a_0:Int)(a_1:Int)(a_2:Int)(b1:Bool) :T ((Bool)⊕(dh)) :=
  .ask b1
    (.leaf (.inr (.r0 false)))
    (.ask (a_1==a_2)
      (.leaf (.inl true))
      (.ask (a_0 != (1:Int))
        (.leaf (.inl (a_0 != (2:Int))))
        (.leaf (.inl false))))
def EA(b2:Bool) :T ((Empty)⊕(dh)) :=
  .leaf (.inr (.r0 b2))
noncomputable def jP(a_0:Int)(a_1:Int)(a_2:Int)(a_4:List Int)(a_5:Int)(a_6:Int) :Option dh:=uu (aQ ((mO a_0 a_1 a_2 a_4 a_5 a_6).run) fun b1 =>
  aQ ((Ez a_0 a_1 a_2 b1).run) fun b2 =>
  (EA b2).run)
theorem EB(a_0:Int)(a_1:Int)(a_2:Int)(v_3:Lv)(a_4:List Int)(a_5:Int)(a_6:Int){x:dh}(h:jP a_0 a_1 a_2 a_4 a_5 a_6=some x) :am prog yB [] [.agg [.int .i64 a_0,.int .i64 a_1,.int .i64 a_2,.imm v_3 (.ns .u64 a_4) 1 1 0 (List.length a_4),.int .i64 a_5,.int .u64 a_6]] (rX x) :=
  yD false rX yL h (Sg.cut 2 wN (cu jA (Ex a_0 a_1 a_2 v_3 a_4 a_5 a_6) [⟨[],[0],[1,36]⟩,⟨[],[0],[1,36]⟩,⟨[],[0],[1,36]⟩,⟨[],[0],[1,36]⟩,⟨[],[0],[1,36]⟩,⟨[],[0],[1,36]⟩]) (fun b1=>Sg.cut 2 wN (cu jA Ey [⟨[],[],[2]⟩,⟨[],[],[2]⟩,⟨[],[],[2]⟩,⟨[],[],[2]⟩]) (fun b2=>cu jA vi [⟨[],[],[2]⟩])))
    (fun x=>by cases x with | r0 b3=>exact qo [.bool false b3])
def mP:Option dh→Bool
  | some _=>true
  | none=>false
def nC:Option dh→Bool
  | some (.r0 x)=>x
  | _=>false
theorem EC{x:Option dh}(h:mP x=true) :x=some (.r0 (nC x)):=by
  unfold mP at h
  split at h<;>first | rfl | (cases h;done) | (rename_i y;cases y;rfl)
noncomputable def yM:aH:=cT yB (.cons (.agg (.cons (.int .i64) (.cons (.int .i64) (.cons (.int .i64) (.cons (.ns .u64) (.cons (.int .i64) (.cons (.int .u64) .nil))))))) .nil) fun t=>(fun q=>[⟨rX (.r0 (nC q)),[mP q]⟩]) (jP t.1.1 t.1.2.1 t.1.2.2.1 t.1.2.2.2.1.2 t.1.2.2.2.2.1 t.1.2.2.2.2.2.1)
theorem Bq:aM prog yM:=aO fun t=>(aS (fun h=>EB t.1.1 t.1.2.1 t.1.2.2.1 t.1.2.2.2.1.1 t.1.2.2.2.1.2 t.1.2.2.2.2.1 t.1.2.2.2.2.2.1 (EC h)) bG)
noncomputable def yN:List aH:=yM::wM
theorem dt:ba prog (bh yN):=aw Bq jA
inductive aY where
  | r0 (a16:Nat) (l17:List ByteArray)
def lF:aY→AE×az
  | .r0 a16 l17=>(.ret,⟨ao 45 [(2,.sl 0 1 1 0 a16 a16)],[(0,.ss l17)],1⟩)
theorem ee:qm lF:=by intro x;cases x<;>(intro h;cases h)
theorem Br(id:Nat) :ow id lF:=by intro x;cases x<;>(intro h;cases h)
def oM:aY→lX
  | .r0 a16 l17=>⟨.sl 0 1 1 0 a16 a16,[some (.ss l17)]⟩
noncomputable def zh:List Code:=cJ (rx ot)
def Bs(a_0:Int)(a_1:Int)(a_2:Int)(v_3:Lv)(a_4:List Int)(a_5:Int)(a_6:Int)(l1:(List ByteArray)) :az:=⟨ao 45 [(1,.ptr 0 1 0 0),(3,.sl 1 1 1 0 1 1),(4,.int .i64 (0:Int))],[(0,.vs [.int .i64 a_0,.int .i64 a_1,.int .i64 a_2,.imm v_3 (.ns .u64 a_4) 1 1 0 (List.length a_4),.int .i64 a_5,.int .u64 a_6]),(1,.ss l1)],2⟩
def qG(a_1:Int)(a_2:Int) :T (((List ByteArray))⊕(aY)) :=
  .need (jQ .i64 a_1)<|.need (decide ((ByteArray.mk #[109,97,116,114,105,120,32]).size+(cg a_1).size≤9223372036854775807))<|.need (decide (((ByteArray.mk #[109,97,116,114,105,120,32])++(cg a_1)).size+(ByteArray.mk #[32]).size≤9223372036854775807))<|.need (jQ .i64 a_2)<|.need (decide ((((ByteArray.mk #[109,97,116,114,105,120,32])++(cg a_1))++(ByteArray.mk #[32])).size+(cg a_2).size≤9223372036854775807))<|.leaf (.inl [((((ByteArray.mk #[109,97,116,114,105,120,32])++(cg a_1))++(ByteArray.mk #[32]))++(cg a_2))])
def kv(a_0:Int)(a_1:Int)(a_2:Int)(v_3:Lv)(a_4:List Int)(a_5:Int)(a_6:Int) :Nat×Nat×Nat×(List ByteArray)→az:=fun (l4,l5,i6,l7)=>⟨ao 45 [(1,.ptr 0 1 0 0),(3,.sl 1 1 1 0 l4 l5),(4,.int .i64 ((i6:Nat):Int))],[(0,.vs [.int .i64 a_0,.int .i64 a_1,.int .i64 a_2,.imm v_3 (.ns .u64 a_4) 1 1 0 (List.length a_4),.int .i64 a_5,.int .u64 a_6]),(1,.ss l7)],2⟩
def rY(a_0:Int)(a_1:Int)(a_2:Int)(v_3:Lv)(a_4:List Int)(a_5:Int)(a_6:Int) :Nat×Nat×(List ByteArray)→az:=fun (l11,l12,l13)=>⟨ao 45 [(1,.ptr 0 1 0 0),(3,.sl 1 1 1 0 l11 l12)],[(0,.vs [.int .i64 a_0,.int .i64 a_1,.int .i64 a_2,.imm v_3 (.ns .u64 a_4) 1 1 0 (List.length a_4),.int .i64 a_5,.int .u64 a_6]),(1,.ss l13)],2⟩
noncomputable def zi:List Code:=cJ (jD ((((zh.drop 3).take 1)).headD .skip))
def Bt(a_0:Int)(a_1:Int)(a_2:Int)(v_3:Lv)(a_4:List Int)(a_5:Int)(a_6:Int)(l4:Nat)(l5:Nat)(i6:Nat)(l7:List ByteArray)(b8:Bool) :az:=⟨ao 45 [(1,.ptr 0 1 0 0),(3,.sl 1 1 1 0 l4 l5),(4,.int .i64 ((i6:Nat):Int)),(19,.bool false b8)],[(0,.vs [.int .i64 a_0,.int .i64 a_1,.int .i64 a_2,.imm v_3 (.ns .u64 a_4) 1 1 0 (List.length a_4),.int .i64 a_5,.int .u64 a_6]),(1,.ss l7)],2⟩
def qH(a_1:Int)(a_2:Int)(i6:Nat) :T ((Bool)⊕((Nat×Nat×(List ByteArray))⊕(aY))) :=
  .ask (decide (((i6:Nat):Int)<a_1))
    (.leaf (.inl (decide (a_2>(0:Int)))))
    (.leaf (.inl false))
def Bu(a_0:Int)(a_1:Int)(a_2:Int)(v_3:Lv)(a_4:List Int)(a_5:Int)(a_6:Int)(i6:Nat) :Nat×(List ByteArray)→az:=fun (l9,l10)=>⟨ao 45 [(1,.ptr 0 1 0 0),(3,.sl 1 1 1 0 l9 l9),(4,.int .i64 ((i6:Nat):Int))],[(0,.vs [.int .i64 a_0,.int .i64 a_1,.int .i64 a_2,.imm v_3 (.ns .u64 a_4) 1 1 0 (List.length a_4),.int .i64 a_5,.int .u64 a_6]),(1,.ss l10)],2⟩
def qI(a_2:Int)(a_4:List Int)(l4:Nat)(l5:Nat)(i6:Nat)(l7:List ByteArray)(b8:Bool) :T ((Nat×(List ByteArray))⊕((Nat×Nat×(List ByteArray))⊕(aY))) :=
  .ask b8
    (.need (jQ .i64 (((i6:Nat):Int)*a_2))<|.need (jQ .i64 (((i6:Nat):Int)*a_2))<|.need (jQ .i64 ((((i6:Nat):Int)*a_2)+a_2))<|.need (mw ((((i6:Nat):Int)*a_2)+a_2) (List.length a_4))<|.need (mw (((i6:Nat):Int)*a_2) (Int.toNat ((((i6:Nat):Int)*a_2)+a_2)))<|.need (oT (Int.toNat (((i6:Nat):Int)*a_2)) ((Int.toNat ((((i6:Nat):Int)*a_2)+a_2))-(Int.toNat (((i6:Nat):Int)*a_2))) a_4)<|.need (mM (fI (bo (Int.toNat (((i6:Nat):Int)*a_2)) ((Int.toNat ((((i6:Nat):Int)*a_2)+a_2))-(Int.toNat (((i6:Nat):Int)*a_2))) a_4)))<|.need (eH ((l4+1)*16) 140737488355328)<|.need (eH (l4+1) 9223372036854775807)<|.need (eH 1 (List.length [(ko (fI (bo (Int.toNat (((i6:Nat):Int)*a_2)) ((Int.toNat ((((i6:Nat):Int)*a_2)+a_2))-(Int.toNat (((i6:Nat):Int)*a_2))) a_4)))]))<|.need (eH l4 (List.length l7))<|.leaf (.inl ((l4+1),((List.take l4 l7)++(List.take 1 [(ko (fI (bo (Int.toNat (((i6:Nat):Int)*a_2)) ((Int.toNat ((((i6:Nat):Int)*a_2)+a_2))-(Int.toNat (((i6:Nat):Int)*a_2))) a_4)))])))))
    (.leaf (.inr (.inl (l4,l5,l7))))
def zj(i6:Nat)(l9:Nat)(l10:List ByteArray) :T ((Nat×Nat×Nat×(List ByteArray))⊕((Nat×Nat×(List ByteArray))⊕(aY))) :=
  .need (jQ .i64 (((i6+1):Nat):Int))<|.leaf (.inl (l9,l9,(i6+1),l10))
noncomputable def mn(a_1:Int)(a_2:Int)(a_4:List Int) :Nat×Nat×Nat×(List ByteArray)→Option ((Nat×Nat×Nat×(List ByteArray))⊕((Nat×Nat×(List ByteArray))⊕(aY))):=fun (l4,l5,i6,l7) =>
  aQ ((qH a_1 a_2 i6).run) fun b8 =>
  aQ ((qI a_2 a_4 l4 l5 i6 l7 b8).run) fun (l9,l10) =>
  (zj i6 l9 l10).run
theorem zk(a_0:Int)(a_1:Int)(a_2:Int)(v_3:Lv)(a_4:List Int)(a_5:Int)(a_6:Int)(l4:Nat)(l5:Nat)(i6:Nat)(l7:List ByteArray) :Sg prog [] zi (kv a_0 a_1 a_2 v_3 a_4 a_5 a_6 (l4,l5,i6,l7)) (mn a_1 a_2 a_4 (l4,l5,i6,l7)) (kv a_0 a_1 a_2 v_3 a_4 a_5 a_6) (dz 0 (rY a_0 a_1 a_2 v_3 a_4 a_5 a_6) lF):=by
  unfold mn;exact Sg.cut 1 (aZ ee) (cu dt (Bt a_0 a_1 a_2 v_3 a_4 a_5 a_6 l4 l5 i6 l7) [⟨[],[0,1],[1,3,4,19]⟩,⟨[],[0,1],[1,3,4,19]⟩]) (fun b8=>Sg.cut 2 (aZ ee) (cu dt (Bu a_0 a_1 a_2 v_3 a_4 a_5 a_6 i6) [⟨[],[0,274],[1,3,4]⟩,⟨[],[0,1],[1,3]⟩]) (fun ⟨l9,l10⟩=>cu dt (kv a_0 a_1 a_2 v_3 a_4 a_5 a_6) [⟨[],[0,1],[1,3,4]⟩]))
def zl:Nat×(List ByteArray)→az:=fun (a14,l15)=>⟨ao 45 [(2,.sl 0 1 1 0 a14 a14)],[(0,.ss l15)],1⟩
def qJ(a_0:Int)(a_4:List Int)(a_5:Int)(a_6:Int)(l11:Nat)(l13:List ByteArray) :T ((Nat×(List ByteArray))⊕(aY)) :=
  .need (oT 0 (List.length a_4) a_4)<|.need (lA (eC a_0 a_5 a_6))<|.need (eH ((l11+1)*16) 140737488355328)<|.need (eH (l11+1) 9223372036854775807)<|.need (eH 1 (List.length [(jz (eC a_0 a_5 a_6))]))<|.need (eH l11 (List.length l13))<|.leaf (.inl ((l11+1),((List.take l11 l13)++(List.take 1 [(jz (eC a_0 a_5 a_6))]))))
def zm(a14:Nat)(l15:List ByteArray) :T ((Empty)⊕(aY)) :=
  .leaf (.inr (.r0 a14 l15))
noncomputable def dI(a_0:Int)(a_1:Int)(a_2:Int)(a_4:List Int)(a_5:Int)(a_6:Int) :Option aY:=uu (aQ ((qG a_1 a_2).run) fun l1 =>
  aQ (dn (mn a_1 a_2 a_4) (1,1,0,l1)) fun (l11,l12,l13) =>
  aQ ((qJ a_0 a_4 a_5 a_6 l11 l13).run) fun (a14,l15) =>
  (zm a14 l15).run)
theorem Bv(a_0:Int)(a_1:Int)(a_2:Int)(v_3:Lv)(a_4:List Int)(a_5:Int)(a_6:Int){x:aY}(h:dI a_0 a_1 a_2 a_4 a_5 a_6=some x) :am prog ot [] [.agg [.int .i64 a_0,.int .i64 a_1,.int .i64 a_2,.imm v_3 (.ns .u64 a_4) 1 1 0 (List.length a_4),.int .i64 a_5,.int .u64 a_6]] (oM x) :=
  yD false oM lF h (Sg.cut 3 ee (cu dt (Bs a_0 a_1 a_2 v_3 a_4 a_5 a_6) [⟨[],[0,112],[1,3,4]⟩]) (fun l1=>Sg.cut 1 ee (JU ⟨[],[0,1],[1,3,4]⟩ (kv a_0 a_1 a_2 v_3 a_4 a_5 a_6) (rY a_0 a_1 a_2 v_3 a_4 a_5 a_6) 0 ee (Br _) (fun ⟨l4,l5,i6,l7⟩=>zk a_0 a_1 a_2 v_3 a_4 a_5 a_6 l4 l5 i6 l7)) (fun ⟨l11,l12,l13⟩=>Sg.cut 1 ee (cu dt zl [⟨[],[66],[2]⟩]) (fun ⟨a14,l15⟩=>cu dt vi [⟨[],[0],[2]⟩]))))
    (fun x=>by cases x with | r0 a16 l17=>exact qo [.sl 0 1 1 0 a16 a16])
def kw:Option aY→Bool
  | some _=>true
  | none=>false
def lc:Option aY→Nat
  | some (.r0 x _)=>x
  | _=>0
def ld:Option aY→List ByteArray
  | some (.r0 _ x)=>x
  | _=>[]
theorem Bw{x:Option aY}(h:kw x=true) :x=some (.r0 (lc x) (ld x)):=by
  unfold kw at h
  split at h<;>first | rfl | (cases h;done) | (rename_i y;cases y;rfl)
noncomputable def tW:aH:=cT ot (.cons (.agg (.cons (.int .i64) (.cons (.int .i64) (.cons (.int .i64) (.cons (.ns .u64) (.cons (.int .i64) (.cons (.int .u64) .nil))))))) .nil) fun t=>(fun q=>[⟨oM (.r0 (lc q) (ld q)),[kw q]⟩]) (dI t.1.1 t.1.2.1 t.1.2.2.1 t.1.2.2.2.1.2 t.1.2.2.2.2.1 t.1.2.2.2.2.2.1)
theorem yf:aM prog tW:=aO fun t=>(aS (fun h=>Bv t.1.1 t.1.2.1 t.1.2.2.1 t.1.2.2.2.1.1 t.1.2.2.2.1.2 t.1.2.2.2.2.1 t.1.2.2.2.2.2.1 (Bw h)) bG)
noncomputable def tX:List aH:=tW::yN
theorem bK:ba prog (bh tX):=aw yf dt
inductive aV where
  | r0 (s46:ByteArray)
def kx:aV→AE×az
  | .r0 s46=>(.ret,⟨ao 34 [(2,.str s46)],[],0⟩)
theorem bW:qm kx:=by intro x;cases x<;>(intro h;cases h)
theorem oN(id:Nat) :ow id kx:=by intro x;cases x<;>(intro h;cases h)
def qd:aV→lX
  | .r0 s46=>⟨.str s46,[]⟩
noncomputable def Bx:List Code:=cJ (rx pL)
def CO(v_0:Lv)(l_1:Nat)(l_2:List Int)(l_3:List Int)(l_4:List Int)(l_5:List (List Int))(l_6:List Int)(l_7:List Int)(_:Unit) :az:=⟨ao 34 [(0,.imm v_0 (.cols l_1 [.ci .i64 l_2,.ci .i64 l_3,.ci .i64 l_4,.cns .u64 l_5,.ci .i64 l_6,.ci .u64 l_7]) 6 6 0 l_1),(3,.nsl),(4,.int .i64 (0:Int))],[],0⟩
def By:T ((Unit)⊕(aV)) :=
  .leaf (.inl ())
def kz(v_0:Lv)(l_1:Nat)(l_2:List Int)(l_3:List Int)(l_4:List Int)(l_5:List (List Int))(l_6:List Int)(l_7:List Int) :Nat×Nat×Nat×(List Int)→az:=fun (b27,b28,i29,l30)=>⟨ao 34 [(0,.imm v_0 (.cols l_1 [.ci .i64 l_2,.ci .i64 l_3,.ci .i64 l_4,.cns .u64 l_5,.ci .i64 l_6,.ci .u64 l_7]) 6 6 0 l_1),(3,.sl 0 1 1 0 b27 b28),(4,.int .i64 ((i29:Nat):Int))],[(0,.ns .u8 l30)],1⟩
def nD:Nat×Nat×(List Int)→az:=fun (b43,b44,l45)=>⟨ao 34 [(3,.sl 0 1 1 0 b43 b44)],[(0,.ns .u8 l45)],1⟩
noncomputable def rZ:List Code:=cJ (jD ((((Bx.drop 3).take 1)).headD .skip))
def Bz(v_0:Lv)(l_1:Nat)(l_2:List Int)(l_3:List Int)(l_4:List Int)(l_5:List (List Int))(l_6:List Int)(l_7:List Int)(b27:Nat)(b28:Nat)(i29:Nat)(l30:List Int)(_:Unit) :az:=⟨ao 34 [(0,.imm v_0 (.cols l_1 [.ci .i64 l_2,.ci .i64 l_3,.ci .i64 l_4,.cns .u64 l_5,.ci .i64 l_6,.ci .u64 l_7]) 6 6 0 l_1),(3,.sl 0 1 1 0 b27 b28),(4,.int .i64 ((i29:Nat):Int))],[(0,.ns .u8 l30)],1⟩
def BA(l_1:Nat)(b27:Nat)(b28:Nat)(i29:Nat)(l30:List Int) :T ((Unit)⊕((Nat×Nat×(List Int))⊕(aV))) :=
  .ask (decide (((i29:Nat):Int)<((l_1:Nat):Int)))
    (.leaf (.inl ()))
    (.leaf (.inr (.inl (b27,b28,l30))))
def nE(v_0:Lv)(l_1:Nat)(l_2:List Int)(l_3:List Int)(l_4:List Int)(l_5:List (List Int))(l_6:List Int)(l_7:List Int)(i29:Nat) :Nat×Nat×(List Int)→az:=fun (b40,b41,l42)=>⟨ao 34 [(0,.imm v_0 (.cols l_1 [.ci .i64 l_2,.ci .i64 l_3,.ci .i64 l_4,.cns .u64 l_5,.ci .i64 l_6,.ci .u64 l_7]) 6 6 0 l_1),(3,.sl 0 1 1 0 b40 b41),(4,.int .i64 ((i29:Nat):Int))],[(0,.ns .u8 l42)],1⟩
noncomputable def BB:List Code:=cJ (inBlock ((((rZ.drop 2).take 1)).headD .skip))
def BC(v_0:Lv)(l_1:Nat)(l_2:List Int)(l_3:List Int)(l_4:List Int)(l_5:List (List Int))(l_6:List Int)(l_7:List Int)(b27:Nat)(b28:Nat)(i29:Nat)(l30:List Int) :Nat×(List ByteArray)→az:=fun (s31,l32)=>⟨ao 34 [(0,.imm v_0 (.cols l_1 [.ci .i64 l_2,.ci .i64 l_3,.ci .i64 l_4,.cns .u64 l_5,.ci .i64 l_6,.ci .u64 l_7]) 6 6 0 l_1),(3,.sl 0 1 1 0 b27 b28),(4,.int .i64 ((i29:Nat):Int)),(5,.sl 1 1 1 0 s31 s31)],[(0,.ns .u8 l30),(1,.ss l32)],2⟩
def nF(l_1:Nat)(l_2:List Int)(l_3:List Int)(l_4:List Int)(l_5:List (List Int))(l_6:List Int)(l_7:List Int)(i29:Nat) :T ((Nat×(List ByteArray))⊕((Nat×Nat×(List Int))⊕((Nat×Nat×(List Int))⊕(aV)))) :=
  .need (th ((i29:Nat):Int) l_1)<|.need (jo i29 (List.length l_2))<|.need (jo i29 (List.length l_3))<|.need (jo i29 (List.length l_4))<|.need (jo i29 (List.length l_5))<|.need (jo i29 (List.length l_6))<|.need (jo i29 (List.length l_7))<|.need (oT 0 (List.length (List.getD l_5 i29 [])) (List.getD l_5 i29 []))<|.need (kw (dI (List.getD l_2 i29 0) (List.getD l_3 i29 0) (List.getD l_4 i29 0) (bo 0 (List.length (List.getD l_5 i29 [])) (List.getD l_5 i29 [])) (List.getD l_6 i29 0) (List.getD l_7 i29 0)))<|.leaf (.inl ((lc (dI (List.getD l_2 i29 0) (List.getD l_3 i29 0) (List.getD l_4 i29 0) (bo 0 (List.length (List.getD l_5 i29 [])) (List.getD l_5 i29 [])) (List.getD l_6 i29 0) (List.getD l_7 i29 0))),(ld (dI (List.getD l_2 i29 0) (List.getD l_3 i29 0) (List.getD l_4 i29 0) (bo 0 (List.length (List.getD l_5 i29 [])) (List.getD l_5 i29 [])) (List.getD l_6 i29 0) (List.getD l_7 i29 0)))))
def BD(v_0:Lv)(l_1:Nat)(l_2:List Int)(l_3:List Int)(l_4:List Int)(l_5:List (List Int))(l_6:List Int)(l_7:List Int)(b27:Nat)(b28:Nat)(i29:Nat)(l30:List Int)(s31:Nat)(l32:List ByteArray)(_:Unit) :az:=⟨ao 34 [(0,.imm v_0 (.cols l_1 [.ci .i64 l_2,.ci .i64 l_3,.ci .i64 l_4,.cns .u64 l_5,.ci .i64 l_6,.ci .u64 l_7]) 6 6 0 l_1),(3,.sl 0 1 1 0 b27 b28),(4,.int .i64 ((i29:Nat):Int)),(5,.sl 1 1 1 0 s31 s31),(6,.int .i64 (0:Int))],[(0,.ns .u8 l30),(1,.ss l32)],2⟩
def BE:T ((Unit)⊕((Nat×Nat×(List Int))⊕((Nat×Nat×(List Int))⊕(aV)))) :=
  .leaf (.inl ())
def kA(v_0:Lv)(l_1:Nat)(l_2:List Int)(l_3:List Int)(l_4:List Int)(l_5:List (List Int))(l_6:List Int)(l_7:List Int)(i29:Nat)(s31:Nat)(l32:List ByteArray) :Nat×Nat×Nat×(List Int)→az:=fun (b33,b34,k35,l36)=>⟨ao 34 [(0,.imm v_0 (.cols l_1 [.ci .i64 l_2,.ci .i64 l_3,.ci .i64 l_4,.cns .u64 l_5,.ci .i64 l_6,.ci .u64 l_7]) 6 6 0 l_1),(3,.sl 0 1 1 0 b33 b34),(4,.int .i64 ((i29:Nat):Int)),(5,.sl 1 1 1 0 s31 s31),(6,.int .i64 ((k35:Nat):Int))],[(0,.ns .u8 l36),(1,.ss l32)],2⟩
def sa(v_0:Lv)(l_1:Nat)(l_2:List Int)(l_3:List Int)(l_4:List Int)(l_5:List (List Int))(l_6:List Int)(l_7:List Int)(i29:Nat) :Nat×Nat×(List Int)→az:=fun (b37,b38,l39)=>⟨ao 34 [(0,.imm v_0 (.cols l_1 [.ci .i64 l_2,.ci .i64 l_3,.ci .i64 l_4,.cns .u64 l_5,.ci .i64 l_6,.ci .u64 l_7]) 6 6 0 l_1),(3,.sl 0 1 1 0 b37 b38),(4,.int .i64 ((i29:Nat):Int))],[(0,.ns .u8 l39)],1⟩
noncomputable def BF:List Code:=cJ (jD (((((BB.drop 1).drop 1).take 1)).headD .skip))
def sb(s31:Nat)(l32:List ByteArray)(b33:Nat)(b34:Nat)(k35:Nat)(l36:List Int) :T ((Nat×Nat×Nat×(List Int))⊕((Nat×Nat×(List Int))⊕((Nat×Nat×(List Int))⊕((Nat×Nat×(List Int))⊕(aV))))) :=
  .ask (decide (((k35:Nat):Int)<((s31:Nat):Int)))
    (.need (th ((k35:Nat):Int) s31)<|.need (jo k35 (List.length l32))<|.need (eH ((b33+(List.getD l32 k35 ByteArray.empty).size)*1) 140737488355328)<|.need (eH (b33+(List.getD l32 k35 ByteArray.empty).size) 9223372036854775807)<|.need (eH b33 (List.length l36))<|.need (eH (((b33+(List.getD l32 k35 ByteArray.empty).size)+1)*1) 140737488355328)<|.need (eH ((b33+(List.getD l32 k35 ByteArray.empty).size)+1) 9223372036854775807)<|.need (eH 1 (List.length [(10:Int)]))<|.need (eH (b33+(List.getD l32 k35 ByteArray.empty).size) (List.length ((List.take b33 l36)++(cH (List.getD l32 k35 ByteArray.empty)))))<|.need (jQ .i64 (((k35+1):Nat):Int))<|.leaf (.inl (((b33+(List.getD l32 k35 ByteArray.empty).size)+1),((b33+(List.getD l32 k35 ByteArray.empty).size)+1),(k35+1),((List.take (b33+(List.getD l32 k35 ByteArray.empty).size) ((List.take b33 l36)++(cH (List.getD l32 k35 ByteArray.empty))))++(List.take 1 [(10:Int)])))))
    (.leaf (.inr (.inl (b33,b34,l36))))
noncomputable def kB(s31:Nat)(l32:List ByteArray) :Nat×Nat×Nat×(List Int)→Option ((Nat×Nat×Nat×(List Int))⊕((Nat×Nat×(List Int))⊕((Nat×Nat×(List Int))⊕((Nat×Nat×(List Int))⊕(aV))))):=fun (b33,b34,k35,l36) =>
  (sb s31 l32 b33 b34 k35 l36).run
theorem BG(v_0:Lv)(l_1:Nat)(l_2:List Int)(l_3:List Int)(l_4:List Int)(l_5:List (List Int))(l_6:List Int)(l_7:List Int)(i29:Nat)(s31:Nat)(l32:List ByteArray)(b33:Nat)(b34:Nat)(k35:Nat)(l36:List Int) :Sg prog [] BF (kA v_0 l_1 l_2 l_3 l_4 l_5 l_6 l_7 i29 s31 l32 (b33,b34,k35,l36)) (kB s31 l32 (b33,b34,k35,l36)) (kA v_0 l_1 l_2 l_3 l_4 l_5 l_6 l_7 i29 s31 l32) (dz 2 (sa v_0 l_1 l_2 l_3 l_4 l_5 l_6 l_7 i29) (dz 1 (nE v_0 l_1 l_2 l_3 l_4 l_5 l_6 l_7 i29) (dz 0 nD kx))):=by
  unfold kB;exact cu bK (kA v_0 l_1 l_2 l_3 l_4 l_5 l_6 l_7 i29 s31 l32) [⟨[],[178,1],[0,3,4,5,6]⟩,⟨[],[0],[0,3,4]⟩]
def BH(b37:Nat)(b38:Nat)(l39:List Int) :T ((Nat×Nat×(List Int))⊕((Nat×Nat×(List Int))⊕((Nat×Nat×(List Int))⊕(aV)))) :=
  .leaf (.inl (b37,b38,l39))
def BI(i29:Nat)(b40:Nat)(b41:Nat)(l42:List Int) :T ((Nat×Nat×Nat×(List Int))⊕((Nat×Nat×(List Int))⊕(aV))) :=
  .need (jQ .i64 (((i29+1):Nat):Int))<|.leaf (.inl (b40,b41,(i29+1),l42))
noncomputable def nG(l_1:Nat)(l_2:List Int)(l_3:List Int)(l_4:List Int)(l_5:List (List Int))(l_6:List Int)(l_7:List Int) :Nat×Nat×Nat×(List Int)→Option ((Nat×Nat×Nat×(List Int))⊕((Nat×Nat×(List Int))⊕(aV))):=fun (b27,b28,i29,l30) =>
  aQ ((BA l_1 b27 b28 i29 l30).run) fun _ =>
  aQ (rA (aQ ((nF l_1 l_2 l_3 l_4 l_5 l_6 l_7 i29).run) fun (s31,l32) =>
  aQ ((BE).run) fun _ =>
  aQ (dn (kB s31 l32) (b27,b28,0,l30)) fun (b37,b38,l39) =>
  (BH b37 b38 l39).run)) fun (b40,b41,l42) =>
  (BI i29 b40 b41 l42).run
theorem BJ(v_0:Lv)(l_1:Nat)(l_2:List Int)(l_3:List Int)(l_4:List Int)(l_5:List (List Int))(l_6:List Int)(l_7:List Int)(b27:Nat)(b28:Nat)(i29:Nat)(l30:List Int) :Sg prog [] rZ (kz v_0 l_1 l_2 l_3 l_4 l_5 l_6 l_7 (b27,b28,i29,l30)) (nG l_1 l_2 l_3 l_4 l_5 l_6 l_7 (b27,b28,i29,l30)) (kz v_0 l_1 l_2 l_3 l_4 l_5 l_6 l_7) (dz 0 nD kx):=by
  unfold nG;exact Sg.cut 2 (aZ bW) (cu bK (Bz v_0 l_1 l_2 l_3 l_4 l_5 l_6 l_7 b27 b28 i29 l30) [⟨[],[0],[0,3,4]⟩,⟨[],[0],[3]⟩]) (fun _=>Sg.cut 1 (aZ bW) (MB (nE v_0 l_1 l_2 l_3 l_4 l_5 l_6 l_7 i29) 1 (aZ bW) (xo (by decide) (oN _)) (Sg.cut 1 (aZ (aZ bW)) (cu bK (BC v_0 l_1 l_2 l_3 l_4 l_5 l_6 l_7 b27 b28 i29 l30) [⟨[],[0,65],[0,3,4,5]⟩]) (fun ⟨s31,l32⟩=>Sg.cut 1 (aZ (aZ bW)) (cu bK (BD v_0 l_1 l_2 l_3 l_4 l_5 l_6 l_7 b27 b28 i29 l30 s31 l32) [⟨[],[0,1],[0,3,4,5,6]⟩]) (fun _=>Sg.cut 1 (aZ (aZ bW)) (JU ⟨[],[0,1],[0,3,4,5,6]⟩ (kA v_0 l_1 l_2 l_3 l_4 l_5 l_6 l_7 i29 s31 l32) (sa v_0 l_1 l_2 l_3 l_4 l_5 l_6 l_7 i29) 2 (aZ (aZ bW)) (xo (by decide) (xo (by decide) (oN _))) (fun ⟨b33,b34,k35,l36⟩=>BG v_0 l_1 l_2 l_3 l_4 l_5 l_6 l_7 i29 s31 l32 b33 b34 k35 l36)) (fun ⟨b37,b38,l39⟩=>cu bK (nE v_0 l_1 l_2 l_3 l_4 l_5 l_6 l_7 i29) [⟨[],[0],[0,3,4]⟩]))))) (fun ⟨b40,b41,l42⟩=>cu bK (kz v_0 l_1 l_2 l_3 l_4 l_5 l_6 l_7) [⟨[],[0],[0,3,4]⟩]))
def BL(b43:Nat)(l45:List Int) :T ((Empty)⊕(aV)) :=
  .need (eH b43 (List.length l45))<|.leaf (.inr (.r0 (qi (List.take b43 l45))))
noncomputable def hH(l_1:Nat)(l_2:List Int)(l_3:List Int)(l_4:List Int)(l_5:List (List Int))(l_6:List Int)(l_7:List Int) :Option aV:=uu (aQ ((By).run) fun _ =>
  aQ (dn (nG l_1 l_2 l_3 l_4 l_5 l_6 l_7) (0,0,0,([]:List Int))) fun (b43,b44,l45) =>
  (BL b43 l45).run)
theorem CQ(v_0:Lv)(l_1:Nat)(l_2:List Int)(l_3:List Int)(l_4:List Int)(l_5:List (List Int))(l_6:List Int)(l_7:List Int){x:aV}(h:hH l_1 l_2 l_3 l_4 l_5 l_6 l_7=some x) :am prog pL [] [.imm v_0 (.cols l_1 [.ci .i64 l_2,.ci .i64 l_3,.ci .i64 l_4,.cns .u64 l_5,.ci .i64 l_6,.ci .u64 l_7]) 6 6 0 l_1] (qd x) :=
  yD false qd kx h (Sg.cut 3 bW (cu bK (CO v_0 l_1 l_2 l_3 l_4 l_5 l_6 l_7) [⟨[],[],[0,3,4]⟩]) (fun _=>Sg.cut 1 bW (JU ⟨[(.slot 3,.own 1 1 (.ns .u8 ([]:List Int)))],[0],[0,3,4]⟩ (kz v_0 l_1 l_2 l_3 l_4 l_5 l_6 l_7) (nD) 0 bW (oN _) (fun ⟨b27,b28,i29,l30⟩=>BJ v_0 l_1 l_2 l_3 l_4 l_5 l_6 l_7 b27 b28 i29 l30)) (fun ⟨b43,b44,l45⟩=>cu bK vi [⟨[],[],[2]⟩])))
    (fun x=>by cases x with | r0 s46=>exact qo [.str s46])
def lG:Option aV→Bool
  | some _=>true
  | none=>false
def mo:Option aV→ByteArray
  | some (.r0 x)=>x
  | _=>ByteArray.empty
theorem CR{x:Option aV}(h:lG x=true) :x=some (.r0 (mo x)):=by
  unfold lG at h
  split at h<;>first | rfl | (cases h;done) | (rename_i y;cases y;rfl)
noncomputable def wO:aH:=cT pL (.cons (.cols [.ci .i64,.ci .i64,.ci .i64,.cns .u64,.ci .i64,.ci .u64]) .nil) fun t=>(fun q=>[⟨qd (.r0 (mo q)),[lG q]⟩]) (hH t.1.2.1 t.1.2.2.1 t.1.2.2.2.1 t.1.2.2.2.2.1 t.1.2.2.2.2.2.1 t.1.2.2.2.2.2.2.1 t.1.2.2.2.2.2.2.2.1)
theorem zn:aM prog wO:=aO fun t=>(aS (fun h=>CQ t.1.1 t.1.2.1 t.1.2.2.1 t.1.2.2.2.1 t.1.2.2.2.2.1 t.1.2.2.2.2.2.1 t.1.2.2.2.2.2.2.1 t.1.2.2.2.2.2.2.2.1 (CR h)) bG)
noncomputable def wP:List aH:=wO::tX
theorem bf:ba prog (bh wP):=aw zn bK
inductive aq where
  | r0 (b9:Bool)
def dQ:aq→AE×az
  | .r0 b9=>(.ret,⟨ao 68 [(2,.bool false b9)],[],0⟩)
theorem aJ:qm dQ:=by intro x;cases x<;>(intro h;cases h)
theorem sc(id:Nat) :ow id dQ:=by intro x;cases x<;>(intro h;cases h)
def jm:aq→lX
  | .r0 b9=>⟨.bool false b9,[]⟩
noncomputable def dy:List Code:=cJ (rx ia)
def sd(v_0:Lv)(l_1:Nat)(l_2:List Int)(l_3:List Int)(l_4:List Int)(l_5:List (List Int))(l_6:List Int)(l_7:List Int)(b1:Bool) :az:=⟨ao 68 [(0,.imm v_0 (.cols l_1 [.ci .i64 l_2,.ci .i64 l_3,.ci .i64 l_4,.cns .u64 l_5,.ci .i64 l_6,.ci .u64 l_7]) 6 6 0 l_1),(8,.bool false b1)],[],0⟩
def fh(l_1:Nat)(l_2:List Int)(l_3:List Int)(l_4:List Int)(l_5:List (List Int))(l_6:List Int)(l_7:List Int) :T ((Bool)⊕(aq)) :=
  .need (Nat.ble (0+l_1) l_1)<|.need (lE (gZ l_1 (bo 0 l_1 l_2) (bo 0 l_1 l_3) (bo 0 l_1 l_4) (bo 0 l_1 l_5) (bo 0 l_1 l_6) (bo 0 l_1 l_7)))<|.leaf (.inl (ml (gZ l_1 (bo 0 l_1 l_2) (bo 0 l_1 l_3) (bo 0 l_1 l_4) (bo 0 l_1 l_5) (bo 0 l_1 l_6) (bo 0 l_1 l_7))))
def se(v_0:Lv)(l_1:Nat)(l_2:List Int)(l_3:List Int)(l_4:List Int)(l_5:List (List Int))(l_6:List Int)(l_7:List Int) :ByteArray×Int→az:=fun (t2,e3)=>⟨ao 68 [(0,.imm v_0 (.cols l_1 [.ci .i64 l_2,.ci .i64 l_3,.ci .i64 l_4,.cns .u64 l_5,.ci .i64 l_6,.ci .u64 l_7]) 6 6 0 l_1),(3,.str t2),(4,.int .i64 e3),(5,.int .i64 (0:Int))],[],0⟩
def fi(l_1:Nat)(l_2:List Int)(l_3:List Int)(l_4:List Int)(l_5:List (List Int))(l_6:List Int)(l_7:List Int)(b1:Bool) :T ((ByteArray×Int)⊕(aq)) :=
  .ask b1
    (.leaf (.inr (.r0 true)))
    (.need (Nat.ble (0+l_1) l_1)<|.need (jO l_1)<|.leaf (.inl ((hX (rV l_1 (bo 0 l_1 l_2) (bo 0 l_1 l_3) (bo 0 l_1 l_4) (bo 0 l_1 l_5) (bo 0 l_1 l_6) (bo 0 l_1 l_7))),(hZ (rV l_1 (bo 0 l_1 l_2) (bo 0 l_1 l_3) (bo 0 l_1 l_4) (bo 0 l_1 l_5) (bo 0 l_1 l_6) (bo 0 l_1 l_7))))))
def dG(v_0:Lv)(l_1:Nat)(l_2:List Int)(l_3:List Int)(l_4:List Int)(l_5:List (List Int))(l_6:List Int)(l_7:List Int)(t2:ByteArray)(e3:Int)(i4:Nat) :az:=⟨ao 68 [(0,.imm v_0 (.cols l_1 [.ci .i64 l_2,.ci .i64 l_3,.ci .i64 l_4,.cns .u64 l_5,.ci .i64 l_6,.ci .u64 l_7]) 6 6 0 l_1),(3,.str t2),(4,.int .i64 e3),(5,.int .i64 ((i4:Nat):Int))],[],0⟩
def lT(v_0:Lv)(l_1:Nat)(l_2:List Int)(l_3:List Int)(l_4:List Int)(l_5:List (List Int))(l_6:List Int)(l_7:List Int)(t2:ByteArray)(e3:Int)(_:Unit) :az:=⟨ao 68 [(0,.imm v_0 (.cols l_1 [.ci .i64 l_2,.ci .i64 l_3,.ci .i64 l_4,.cns .u64 l_5,.ci .i64 l_6,.ci .u64 l_7]) 6 6 0 l_1),(3,.str t2),(4,.int .i64 e3)],[],0⟩
noncomputable def qN:List Code:=cJ (jD (((((dy.drop 2).drop 3).take 1)).headD .skip))
def sf(v_0:Lv)(l_1:Nat)(l_2:List Int)(l_3:List Int)(l_4:List Int)(l_5:List (List Int))(l_6:List Int)(l_7:List Int)(t2:ByteArray)(e3:Int)(i4:Nat)(_:Unit) :az:=⟨ao 68 [(0,.imm v_0 (.cols l_1 [.ci .i64 l_2,.ci .i64 l_3,.ci .i64 l_4,.cns .u64 l_5,.ci .i64 l_6,.ci .u64 l_7]) 6 6 0 l_1),(3,.str t2),(4,.int .i64 e3),(5,.int .i64 ((i4:Nat):Int))],[],0⟩
def fj(l_1:Nat)(l_2:List Int)(l_3:List Int)(l_4:List Int)(l_5:List (List Int))(l_6:List Int)(l_7:List Int)(t2:ByteArray)(e3:Int)(i4:Nat) :T ((Unit)⊕((Unit)⊕(aq))) :=
  .ask (decide (((i4:Nat):Int)<((l_1:Nat):Int)))
    (.need (th ((i4:Nat):Int) l_1)<|.need (jo i4 (List.length l_2))<|.need (jo i4 (List.length l_3))<|.need (jo i4 (List.length l_4))<|.need (jo i4 (List.length l_5))<|.need (jo i4 (List.length l_6))<|.need (jo i4 (List.length l_7))<|.need (oT 0 (List.length (List.getD l_5 i4 [])) (List.getD l_5 i4 []))<|.need (mP (jP (List.getD l_2 i4 0) (List.getD l_3 i4 0) (List.getD l_4 i4 0) (bo 0 (List.length (List.getD l_5 i4 [])) (List.getD l_5 i4 [])) (List.getD l_6 i4 0) (List.getD l_7 i4 0)))<|.ask (!(nC (jP (List.getD l_2 i4 0) (List.getD l_3 i4 0) (List.getD l_4 i4 0) (bo 0 (List.length (List.getD l_5 i4 [])) (List.getD l_5 i4 [])) (List.getD l_6 i4 0) (List.getD l_7 i4 0))))
      (.ask (t2.toList==ByteArray.empty.toList)
        (.ask (e3==(2:Int))
          (.leaf (.inr (.inr (.r0 true))))
          (.leaf (.inr (.inr (.r0 false)))))
        (.leaf (.inr (.inr (.r0 false)))))
      (.leaf (.inl ())))
    (.leaf (.inr (.inl ())))
def qO(i4:Nat) :T ((Nat)⊕((Unit)⊕(aq))) :=
  .need (jQ .i64 (((i4+1):Nat):Int))<|.leaf (.inl (i4+1))
noncomputable def fk(l_1:Nat)(l_2:List Int)(l_3:List Int)(l_4:List Int)(l_5:List (List Int))(l_6:List Int)(l_7:List Int)(t2:ByteArray)(e3:Int) :Nat→Option ((Nat)⊕((Unit)⊕(aq))):=fun i4 =>
  aQ ((fj l_1 l_2 l_3 l_4 l_5 l_6 l_7 t2 e3 i4).run) fun _ =>
  (qO i4).run
theorem qP(v_0:Lv)(l_1:Nat)(l_2:List Int)(l_3:List Int)(l_4:List Int)(l_5:List (List Int))(l_6:List Int)(l_7:List Int)(t2:ByteArray)(e3:Int)(i4:Nat) :Sg prog [] qN (dG v_0 l_1 l_2 l_3 l_4 l_5 l_6 l_7 t2 e3 i4) (fk l_1 l_2 l_3 l_4 l_5 l_6 l_7 t2 e3 i4) (dG v_0 l_1 l_2 l_3 l_4 l_5 l_6 l_7 t2 e3) (dz 0 (lT v_0 l_1 l_2 l_3 l_4 l_5 l_6 l_7 t2 e3) dQ):=by
  unfold fk;exact Sg.cut 3 (aZ aJ) (cu bf (sf v_0 l_1 l_2 l_3 l_4 l_5 l_6 l_7 t2 e3 i4) [⟨[],[],[2]⟩,⟨[],[],[2]⟩,⟨[],[],[2]⟩,⟨[],[],[0,3,4,5]⟩,⟨[],[],[0,3,4]⟩]) (fun _=>cu bf (dG v_0 l_1 l_2 l_3 l_4 l_5 l_6 l_7 t2 e3) [⟨[],[],[0,3,4,5]⟩])
def sg(v_0:Lv)(l_1:Nat)(l_2:List Int)(l_3:List Int)(l_4:List Int)(l_5:List (List Int))(l_6:List Int)(l_7:List Int)(t2:ByteArray)(e3:Int)(want5:ByteArray) :az:=⟨ao 68 [(0,.imm v_0 (.cols l_1 [.ci .i64 l_2,.ci .i64 l_3,.ci .i64 l_4,.cns .u64 l_5,.ci .i64 l_6,.ci .u64 l_7]) 6 6 0 l_1),(3,.str t2),(4,.int .i64 e3),(6,.str want5)],[],0⟩
def fm(l_1:Nat)(l_2:List Int)(l_3:List Int)(l_4:List Int)(l_5:List (List Int))(l_6:List Int)(l_7:List Int) :T ((ByteArray)⊕(aq)) :=
  .need (Nat.ble (0+l_1) l_1)<|.need (lG (hH l_1 (bo 0 l_1 l_2) (bo 0 l_1 l_3) (bo 0 l_1 l_4) (bo 0 l_1 l_5) (bo 0 l_1 l_6) (bo 0 l_1 l_7)))<|.leaf (.inl (mo (hH l_1 (bo 0 l_1 l_2) (bo 0 l_1 l_3) (bo 0 l_1 l_4) (bo 0 l_1 l_5) (bo 0 l_1 l_6) (bo 0 l_1 l_7))))
def qQ(t2:ByteArray)(e3:Int)(want5:ByteArray)(b6:Bool) :az:=⟨ao 68 [(3,.str t2),(4,.int .i64 e3),(6,.str want5),(46,.bool false b6)],[],0⟩
def kJ(l_1:Nat)(want5:ByteArray) :T ((Bool)⊕(aq)) :=
  .ask (decide (((l_1:Nat):Int)>(64:Int)))
    (.leaf (.inl true))
    (.leaf (.inl (decide (((want5.size:Nat):Int)>(8388608:Int)))))
def kK(t2:ByteArray)(e3:Int)(want5:ByteArray)(_:Unit) :az:=⟨ao 68 [(3,.str t2),(4,.int .i64 e3),(6,.str want5)],[],0⟩
def qR(b7:Bool) :az:=⟨ao 68 [(2,.bool false b7)],[],0⟩
def qS(t2:ByteArray)(e3:Int) :T ((Bool)⊕(aq)) :=
  .ask (t2.toList==ByteArray.empty.toList)
    (.ask (e3==(3:Int))
      (.leaf (.inl true))
      (.leaf (.inl false)))
    (.leaf (.inl false))
def qT(b7:Bool) :T ((Unit)⊕(aq)) :=
  .leaf (.inr (.r0 b7))
def qU:T ((Unit)⊕(aq)) :=
  .leaf (.inl ())
def qV(b8:Bool) :az:=⟨ao 68 [(2,.bool false b8)],[],0⟩
def qW(t2:ByteArray)(e3:Int)(want5:ByteArray) :T ((Bool)⊕(aq)) :=
  .ask (t2.toList==want5.toList)
    (.ask (e3==(0:Int))
      (.leaf (.inl true))
      (.leaf (.inl false)))
    (.leaf (.inl false))
def qX(b8:Bool) :T ((Empty)⊕(aq)) :=
  .leaf (.inr (.r0 b8))
noncomputable def dR(l_1:Nat)(l_2:List Int)(l_3:List Int)(l_4:List Int)(l_5:List (List Int))(l_6:List Int)(l_7:List Int) :Option aq:=uu (aQ ((fh l_1 l_2 l_3 l_4 l_5 l_6 l_7).run) fun b1 =>
  aQ ((fi l_1 l_2 l_3 l_4 l_5 l_6 l_7 b1).run) fun (t2,e3) =>
  aQ (dn (fk l_1 l_2 l_3 l_4 l_5 l_6 l_7 t2 e3) 0) fun _ =>
  aQ ((fm l_1 l_2 l_3 l_4 l_5 l_6 l_7).run) fun want5 =>
  aQ ((kJ l_1 want5).run) fun b6 =>
  aQ ((bif b6 then aQ ((qS t2 e3).run) fun b7 =>
  (qT b7).run else (qU).run)) fun _ =>
  aQ ((qW t2 e3 want5).run) fun b8 =>
  (qX b8).run)
theorem lU(v_0:Lv)(l_1:Nat)(l_2:List Int)(l_3:List Int)(l_4:List Int)(l_5:List (List Int))(l_6:List Int)(l_7:List Int){x:aq}(h:dR l_1 l_2 l_3 l_4 l_5 l_6 l_7=some x) :am prog ia [] [.imm v_0 (.cols l_1 [.ci .i64 l_2,.ci .i64 l_3,.ci .i64 l_4,.cns .u64 l_5,.ci .i64 l_6,.ci .u64 l_7]) 6 6 0 l_1] (jm x) :=
  yD false jm dQ h (Sg.cut 2 aJ (cu bf (sd v_0 l_1 l_2 l_3 l_4 l_5 l_6 l_7) [⟨[],[],[0,8]⟩]) (fun b1=>Sg.cut 3 aJ (cu bf (se v_0 l_1 l_2 l_3 l_4 l_5 l_6 l_7) [⟨[],[],[2]⟩,⟨[],[],[0,3,4,5]⟩]) (fun ⟨t2,e3⟩=>Sg.cut 1 aJ (JU ⟨[],[],[0,3,4,5]⟩ (dG v_0 l_1 l_2 l_3 l_4 l_5 l_6 l_7 t2 e3) (lT v_0 l_1 l_2 l_3 l_4 l_5 l_6 l_7 t2 e3) 0 aJ (sc _) (fun i4=>qP v_0 l_1 l_2 l_3 l_4 l_5 l_6 l_7 t2 e3 i4)) (fun _=>Sg.cut 1 aJ (cu bf (sg v_0 l_1 l_2 l_3 l_4 l_5 l_6 l_7 t2 e3) [⟨[],[],[0,3,4,6]⟩]) (fun want5=>Sg.cut 1 aJ (cu bf (qQ t2 e3 want5) [⟨[],[],[3,4,6,46]⟩,⟨[],[],[3,4,6,46]⟩]) (fun b6=>Sg.cut 1 aJ (xp (c:=.tmp 46) (kn:=false) (b:=b6) (by kernel_rfl:((((((dy.drop 2).drop 3).drop 1).drop 1).drop 1).take 1)=[.cond (.tmp 46) (GM ((((((((dy.drop 2).drop 3).drop 1).drop 1).drop 1).take 1)).headD .skip)) (GN ((((((((dy.drop 2).drop 3).drop 1).drop 1).drop 1).take 1)).headD .skip))]) aJ (by kernel_rfl) (Sg.cut 1 aJ (cu bf qR [⟨[],[],[2]⟩,⟨[],[],[2]⟩,⟨[],[],[2]⟩]) (fun b7=>cu bf (kK t2 e3 want5) [⟨[],[],[2]⟩])) (cu bf (kK t2 e3 want5) [⟨[],[],[3,4,6]⟩])) (fun _=>Sg.cut 1 aJ (cu bf qV [⟨[],[],[2]⟩,⟨[],[],[2]⟩,⟨[],[],[2]⟩]) (fun b8=>cu bf vi [⟨[],[],[2]⟩]))))))))
    (fun x=>by cases x with | r0 b9=>exact qo [.bool false b9])
def gL:Option aq→Bool
  | some _=>true
  | none=>false
def kC:Option aq→Bool
  | some (.r0 x)=>x
  | _=>false
theorem sh{x:Option aq}(h:gL x=true) :x=some (.r0 (kC x)):=by
  unfold gL at h
  split at h<;>first | rfl | (cases h;done) | (rename_i y;cases y;rfl)
noncomputable def mv:aH:=cT ia (.cons (.cols [.ci .i64,.ci .i64,.ci .i64,.cns .u64,.ci .i64,.ci .u64]) .nil) fun t=>(fun q=>[⟨jm (.r0 (kC q)),[gL q]⟩]) (dR t.1.2.1 t.1.2.2.1 t.1.2.2.2.1 t.1.2.2.2.2.1 t.1.2.2.2.2.2.1 t.1.2.2.2.2.2.2.1 t.1.2.2.2.2.2.2.2.1)
theorem qe:aM prog mv:=aO fun t=>(aS (fun h=>lU t.1.1 t.1.2.1 t.1.2.2.1 t.1.2.2.2.1 t.1.2.2.2.2.1 t.1.2.2.2.2.2.1 t.1.2.2.2.2.2.2.1 t.1.2.2.2.2.2.2.2.1 (sh h)) bG)
noncomputable def td:List aH:=mv::wP
theorem ED:ba prog (bh td):=aw qe bf
end
end Go.Plb.Seat
namespace Go.Plb.Seat
open Go Go.Plb Go.Proofs Go.RowKit Go.Shelf
set_option maxRecDepth 100000
set_option linter.unusedSimpArgs false
set_option linter.unusedVariables false
attribute [local go_sem] Oper.semAt_some
end Go.Plb.Seat
namespace Go.Plb.Seat
open Go Go.Plb
set_option linter.unusedSimpArgs false
set_option linter.unusedVariables false
set_option maxRecDepth 100000
structure Rd where
  l:List tN
  m:Int
  n:Int
  ws:List Int
  on:Bool
  row:Int
def Mo(ws:List Int)(n:Nat)(i:Nat) :ByteArray:=qK ((ws.drop (i*n)).take n)
def IP(ws:List Int) :Prop:=∀ w∈ws,0≤w∧w<18446744073709551616
def tN.u64(a:tN) :Prop:=IP a.ws∧0≤a.t∧a.t<18446744073709551616
theorem IQ{k m n:Int}{len:Nat}{y t:Int}(h:gS k m n len y t=true) :(0≤m∧m≤512)∧(0≤n∧n≤512)∧(len:Int)=m*n∧dW k y t=true:=by
  obtain ⟨h1,h2,h3,h4,h5,_,_⟩:=lN h
  refine ⟨⟨h1,h2⟩,⟨h3,h4⟩,h5,?_⟩
  unfold gS at h
  simp only [Bool.cond_eq_ite,Bool.if_false_right,Bool.and_eq_true,decide_eq_true_eq,beq_iff_eq,ge_iff_le] at h
  exact h.2.2.2.2.2.1
def Rd.lines(r:Rd) :List ByteArray:=(r.l.map tN.lines).flatten++(bif r.on then fp r.m r.n::(bif decide (r.n>0) then (List.range r.row.toNat).map (Mo r.ws r.n.toNat) else []) else [])
structure KO (n:Nat) (ks ms ns:List Int) (wss:List (List Int)) (ys ts:List Int):Prop where
  k:ks.length=n
  m:ms.length=n
  o:ns.length=n
  w:wss.length=n
  y:ys.length=n
  t:ts.length=n
theorem FV{n:Nat}{ks ms ns:List Int}{wss:List (List Int)}{ys ts:List Int}{i:Nat}(h:i<n) :(rV n ks ms ns wss ys ts)[i]? = some ⟨ks.getD i 0,ms.getD i 0,ns.getD i 0,wss.getD i [],ys.getD i 0,ts.getD i 0⟩:=by
  unfold rV
  rw [List.getElem?_map,List.getElem?_range h]
  rfl
theorem KP(n:Nat)(ks ms ns:List Int)(wss:List (List Int))(ys ts:List Int)(hC:KO n ks ms ns wss ys ts) :∃ b,gZ n ks ms ns wss ys ts=some (.r0 b)∧(b=false→n≤80∧∀ i,i<n→(wss.getD i []).length≤200):=by
  obtain ⟨h1,h2,h3,h4,h5,h6⟩:=hC
  have step:∀ i,i<n→i<81→(wss.getD i []).length≤200→ku n ks ms ns wss ys ts i=some (.inl (i+1)):=by
    intro i hi h81 hw
    refine an (a:=true) (eN (decide_eq_true (by omega)) (congrArg (fun b=>some (Sum.inl b)) (decide_eq_true (by omega)))) ?_
    exact cD (aB (by rw [rD];omega) (aB (by rw [bC];omega) (aB (by rw [bC];omega) (aB (by rw [bC];omega) (aB (by rw [bC];omega) (aB (by rw [bC];omega) (aB (by rw [bC];omega) (di (decide_eq_false (by omega)) (aB (by rw [bT];omega) rfl)))))))))
  unfold gZ
  obtain ⟨N,hN⟩:∃ N,(N=n∧n<81)∨(N=81∧81≤n):=by
    by_cases h:n<81
    · exact ⟨n,.inl ⟨rfl,h⟩⟩
    · exact ⟨81,.inr ⟨rfl,by omega⟩⟩
  have go:∀ i,i<n→i<81→(nB n i).run=some (.inl true):=fun i h1 h2=>eN (decide_eq_true (by omega)) (congrArg (fun b=>some (Sum.inl b)) (decide_eq_true (by omega)))
  by_cases hall:∀ i,i<N→(wss.getD i []).length≤200
  · have stop:(nB n N).run=some (.inl false):=by
      rcases hN with ⟨rfl,h⟩ | ⟨rfl,h⟩
      · exact di (decide_eq_false (by omega)) rfl
      · by_cases h2:81<n
        · exact eN (decide_eq_true (by omega)) rfl
        · exact di (decide_eq_false (by omega)) rfl
    refine ⟨decide ((n:Int)>80),cd (an rfl (an (a:=()) (fD (fun j=>j) N rfl (fun j hj=>step j (by omega) (by omega) (hall j hj)) ?_) rfl)),fun hb=>?_⟩
    · exact an stop rfl
    · have:=of_decide_eq_false hb
      exact ⟨by omega,fun i hi=>hall i (by omega)⟩
  · obtain ⟨k,hk,hb,hg⟩:=Go.Plb.first_bad hall
    refine ⟨true,cd (an rfl (cU (fD (fun j=>j) k rfl (fun j hj=>step j (by omega) (by omega) (hg j hj)) ?_))),fun h=>by cases h⟩
    refine an (go k (by omega) (by omega)) ?_
    exact cD (aB (by rw [rD];omega) (aB (by rw [bC];omega) (aB (by rw [bC];omega) (aB (by rw [bC];omega) (aB (by rw [bC];omega) (aB (by rw [bC];omega) (aB (by rw [bC];omega) (eN (decide_eq_true (by omega)) rfl))))))))
theorem Dl{α:Type}{n:Nat}{xs:List α}(h:xs.length=n) :bo 0 n xs=xs:=KA h
theorem IR(k m n:Int)(ws:List Int)(y t:Int) :jP k m n ws y t=some (.r0 (gS k m n ws.length y t)):=by
  have out:(mO k m n ws y t).run=some (.inl true)→gS k m n ws.length y t=false→jP k m n ws y t=some (.r0 (gS k m n ws.length y t)):=by
    intro h1 h2
    rw [h2]
    exact cd (an h1 (cU (cD rfl)))
  by_cases c1:m<0
  · exact out (eN (decide_eq_true c1) rfl) (by unfold gS;rw [decide_eq_false (show ¬ m≥0 by omega)];rfl)
  have d1:decide (m≥0)=true:=decide_eq_true (by omega)
  by_cases c2:m>512
  · exact out (di (decide_eq_false c1) (eN (decide_eq_true c2) rfl)) (by unfold gS;rw [d1,decide_eq_false (show ¬ m≤512 by omega)];rfl)
  have d2:decide (m≤512)=true:=decide_eq_true (by omega)
  by_cases c3:n<0
  · exact out (di (decide_eq_false c1) (di (decide_eq_false c2) (eN (decide_eq_true c3) rfl))) (by unfold gS;rw [d1,d2,decide_eq_false (show ¬ n≥0 by omega)];rfl)
  have d3:decide (n≥0)=true:=decide_eq_true (by omega)
  by_cases c4:n>512
  · exact out (di (decide_eq_false c1) (di (decide_eq_false c2) (di (decide_eq_false c3) (eN (decide_eq_true c4) rfl)))) (by unfold gS;rw [d1,d2,d3,decide_eq_false (show ¬ n≤512 by omega)];rfl)
  have d4:decide (n≤512)=true:=decide_eq_true (by omega)
  have hmn:jQ .i64 (m*n)=true:=by
    have h1:=Int.mul_nonneg (show 0≤m by omega) (show 0≤n by omega)
    have h2:=Int.mul_le_mul (show m≤512 by omega) (show n≤512 by omega) (show 0≤n by omega) (by omega)
    rw [bT]
    omega
  by_cases c5:((ws.length:Nat):Int)=m*n
  · have d5 : (((ws.length : Nat) : Int) == m * n) = true := beq_iff_eq.2 c5
    have h4:(mO k m n ws y t).run=some (.inl (!dW k y t)):=by
      simp only [mO,G4]
      exact di (decide_eq_false c1) (di (decide_eq_false c2) (di (decide_eq_false c3) (di (decide_eq_false c4) (aB hmn (di (bne_eq_false_iff_eq.2 c5) (HN (kH rfl)))))))
    cases ha:dW k y t with
    | false=>exact out (by rw [h4,ha];rfl) (by unfold gS;rw [d1,d2,d3,d4,d5,ha];rfl)
    | true =>
      have hv:gS k m n ws.length y t=(bif m==n then true else !(pX k).2.2.2.2):=by unfold gS;rw [d1,d2,d3,d4,d5,ha];rfl
      rw [hv]
      rw [ha] at h4
      by_cases e:m=n
      · rw [beq_iff_eq.2 e,cond_true]
        exact cd (an h4 (an (a:=true) (bA (eN (beq_iff_eq.2 e) rfl)) rfl))
      · rw [beq_eq_false_iff_ne.2 e,cond_false]
        by_cases k1:k=1
        · subst k1
          exact cd (an h4 (an (a:=false) (bA (di (beq_eq_false_iff_ne.2 e) (bA rfl))) rfl))
        · by_cases k2:k=2
          · subst k2
            exact cd (an h4 (an (a:=false) (bA (di (beq_eq_false_iff_ne.2 e) (cD rfl))) rfl))
          · have hs:(pX k).2.2.2.2=false:=by
              unfold pX
              rw [if_neg k1,if_neg k2]
              repeat' split
              all_goals rfl
            rw [hs]
            exact cd (an h4 (an (a:=true) (bA (di (beq_eq_false_iff_ne.2 e) (eN (bne_iff_ne.2 k1) (congrArg (fun b=>some (Sum.inl b)) (bne_iff_ne.2 k2))))) rfl))
  · exact out (di (decide_eq_false c1) (di (decide_eq_false c2) (di (decide_eq_false c3) (di (decide_eq_false c4) (aB hmn (eN (bne_iff_ne.2 c5) rfl)))))) (by unfold gS;rw [d1,d2,d3,d4,beq_eq_false_iff_ne.2 c5];rfl)
theorem FW{k m n:Int}{ws:List Int}{y t:Int}(h:gS k m n ws.length y t=true) :dI k m n ws y t=some (.r0 (cp k m n ws y t).length (cp k m n ws y t)):=by
  obtain ⟨hm,hn,hl,ha⟩:=IQ h
  obtain ⟨M,rfl⟩:=Int.eq_ofNat_of_zero_le hm.1
  obtain ⟨N,rfl⟩:=Int.eq_ofNat_of_zero_le hn.1
  have hMN:ws.length=M*N:=Int.ofNat_inj.1 (by rw [Int.natCast_mul];exact hl)
  have hle:M*N≤512*512:=Nat.mul_le_mul (by omega) (by omega)
  obtain ⟨row,hrow⟩:∃ row:Nat→ByteArray,row=fun i=>qK ((ws.drop (i*N)).take N):=⟨_,rfl⟩
  obtain ⟨K,hK⟩:∃ K,K=(if 0<N then M else 0):=⟨_,rfl⟩
  have hlin:cp k (M:Int) (N:Int) ws y t=(fp M N::(List.range K).map row)++[mq k y t]:=by
    unfold cp
    rw [h,cond_true,uv,uv,hrow,hK]
    by_cases h0:0<N
    · rw [decide_eq_true (show (N:Int)>0 by omega),if_pos h0]
      rfl
    · rw [decide_eq_false (show ¬ (N:Int)>0 by omega),if_neg h0]
      rfl
  have h12:(qG (M:Int) (N:Int)).run=some (.inl [fp M N]):=by
    have s1:=em (M:Int)
    have s2:=em (N:Int)
    have s3:(ByteArray.mk #[109,97,116,114,105,120,32]).size=7:=rfl
    have s4:(ByteArray.mk #[32]).size=1:=rfl
    exact aB (by rw [bT];omega) (aB (decide_eq_true (by omega)) (aB (decide_eq_true (by rw [ByteArray.size_append];omega)) (aB (by rw [bT];omega) (aB (decide_eq_true (by rw [ByteArray.size_append,ByteArray.size_append];omega)) rfl))))
  have hlen:∀ j,(fp M N::(List.range j).map row).length=j+1:=fun j=>by simp
  unfold dI
  refine cd (an h12 (an (a:=(K+1,K+1,fp M N::(List.range K).map row)) (fD (fun j=>(j+1,j+1,j,fp M N::(List.range j).map row)) K rfl (fun j hj=>?_) ?_) (an (a:=((cp k M N ws y t).length,cp k M N ws y t)) ?_ rfl)))
  · have hN0:0<N:=by
      by_cases h0:0<N
      · exact h0
      · rw [if_neg h0] at hK;omega
    have hjM:j<M:=by rw [if_pos hN0] at hK;omega
    have t14:(qH (M:Int) (N:Int) j).run=some (.inl true):=eN (decide_eq_true (by omega)) (congrArg (fun b=>some (Sum.inl b)) (decide_eq_true (by omega)))
    have idx:((j:Nat):Int)*((N:Nat):Int)=((j*N:Nat):Int):=(Int.natCast_mul j N).symm
    have hb:j*N+N≤ws.length:=by
      have:=Nat.mul_le_mul_right N (show j+1≤M from hjM)
      rw [Nat.succ_mul] at this
      omega
    have e0:((j*N:Nat):Int)+(N:Int)=((j*N+N:Nat):Int):=by omega
    have e3:bo (j*N) (j*N+N-j*N) ws=(ws.drop (j*N)).take N:=by rw [zy,Nat.add_sub_cancel_left]
    have hr:=Ev ((ws.drop (j*N)).take N) (by rw [List.length_take];omega)
    refine an t14 (an (a:=(j+2,fp M N::(List.range (j+1)).map row)) ?_ (aB (by rw [bT];omega) rfl))
    simp only [qI,idx,e0,uv,e3,hr]
    refine cD (aB (by rw [bT];omega) (aB (by rw [bT];omega) (aB (by rw [bT];omega) (aB (by rw [K9];omega) (aB (by rw [K9];omega) (aB (by rw [oU];omega) (kH (aB (by rw [bz];omega) (aB (by rw [bz];omega) (kH (aB (by rw [bz,hlen];omega) ?_)))))))))))
    have e5:List.take (j+1) (fp M N::(List.range j).map row)=fp M N::(List.range j).map row:=List.take_of_length_le (by rw [hlen];omega)
    have e6:(fp M N::(List.range j).map row)++List.take 1 [qK ((ws.drop (j*N)).take N)]=fp M N::(List.range (j+1)).map row:=by
      rw [List.range_succ,List.map_append,hrow];rfl
    show some (Sum.inl (j+1+1,List.take (j+1) (fp M N::(List.range j).map row)++List.take 1 [qK ((ws.drop (j*N)).take N)]))=_
    rw [e5,e6]
  · by_cases h0:0<N
    · rw [if_pos h0] at hK
      subst hK
      exact an (a:=false) (di (decide_eq_false (by omega)) rfl) (cU (bA rfl))
    · rw [if_neg h0] at hK
      subst hK
      by_cases hM:(0:Int)<(M:Int)
      · exact an (a:=false) (eN (decide_eq_true hM) (congrArg (fun b=>some (Sum.inl b)) (decide_eq_false (by omega)))) (cU (bA rfl))
      · exact an (a:=false) (di (decide_eq_false hM) rfl) (cU (bA rfl))
  · have hK5:K≤512:=by rw [hK];split<;>omega
    simp only [qJ,rt,G5 ha]
    refine HN (kH (aB (by rw [bz];omega) (aB (by rw [bz];omega) (kH (aB (by rw [bz,hlen];omega) ?_)))))
    have e5:List.take (K+1) (fp M N::(List.range K).map row)=fp M N::(List.range K).map row:=List.take_of_length_le (by rw [hlen];omega)
    show some (Sum.inl (K+1+1,List.take (K+1) (fp M N::(List.range K).map row)++[mq k y t]))=_
    rw [e5,hlin,List.length_append,hlen]
    rfl
def EE(l:List UInt8) :List Int:=l.map fun b=>(b.toNat:Int)
theorem HZ(a b:List UInt8) :EE (a++b)=EE a++EE b:=by simp [EE]
theorem sI(a:List UInt8) :(EE a).length=a.length:=by simp [EE]
theorem KQ(a:List UInt8) :qi (EE a)=⟨a.toArray⟩:=by
  apply Dk
  rw [yK]
  have:=uF ⟨a.toArray⟩
  simpa [cH,EE] using this
theorem IS(s:ByteArray) :cH s=EE s.data.toList:=rfl
theorem Ki(s:ByteArray) :s.data.toList.length=s.size:=rfl
set_option maxHeartbeats 1000000 in
theorem Ha (n : Nat) (ks ms ns : List Int) (wss : List (List Int)) (ys ts : List Int) (hC : KO n ks ms ns wss ys ts) (h80 : n ≤ 80) (hm : ∀ a ∈ rV n ks ms ns wss ys ts, a.may = true) :
    hH n ks ms ns wss ys ts = some (.r0 ⟨(bU (rV n ks ms ns wss ys ts)).toArray⟩) := by
  obtain ⟨c1, c2, c3, c4, c5, c6⟩ := hC
  obtain ⟨l, hl⟩ : ∃ l, rV n ks ms ns wss ys ts = l := ⟨_, rfl⟩
  have hlen : l.length = n := by rw [← hl]; exact rW ..
  have ax : ∀ i, i < n → l[i]? = some ⟨ks.getD i 0, ms.getD i 0, ns.getD i 0, wss.getD i [], ys.getD i 0, ts.getD i 0⟩ := fun i hi => by rw [← hl]; exact FV hi
  rw [hl] at hm ⊢
  have hsz : ∀ j, (bU (l.take j)).length ≤ 80 * 5000000 := fun j => by
    have h1 := Di (l := l.take j) fun b hb => hm b (List.mem_of_mem_take hb)
    have h2 : (l.take j).length ≤ 80 := by rw [List.length_take]; omega
    exact Nat.le_trans h1 (Nat.mul_le_mul_right _ h2)
  unfold hH
  refine cd (an rfl (an (a := ((bU l).length, (bU l).length, EE (bU l))) (fD (fun j => ((bU (l.take j)).length, (bU (l.take j)).length, j, EE (bU (l.take j)))) n rfl (fun j hj => ?_) ?_) ?_))
  · have hg := ax j hj
    obtain ⟨a, ha⟩ : ∃ a : tN, a = ⟨ks.getD j 0, ms.getD j 0, ns.getD j 0, wss.getD j [], ys.getD j 0, ts.getD j 0⟩ := ⟨_, rfl⟩
    rw [← ha] at hg
    have hmem : a ∈ l := List.mem_of_getElem? hg
    have hmay := hm a hmem
    have hmay' : gS (ks.getD j 0) (ms.getD j 0) (ns.getD j 0) (wss.getD j []).length (ys.getD j 0) (ts.getD j 0) = true := by rw [ha] at hmay; exact hmay
    have hli : cp (ks.getD j 0) (ms.getD j 0) (ns.getD j 0) (wss.getD j []) (ys.getD j 0) (ts.getD j 0) = a.lines := by rw [ha]; rfl
    have h40 : (nF n ks ms ns wss ys ts j).run = some (.inl (a.lines.length, a.lines)) := by
      simp only [nF, rt, FW hmay', hli]
      exact aB (by rw [rD]; omega) (aB (by rw [bC]; omega) (aB (by rw [bC]; omega) (aB (by rw [bC]; omega) (aB (by rw [bC]; omega) (aB (by rw [bC]; omega) (aB (by rw [bC]; omega) (HN (kH rfl))))))))
    have hLs := uz hmay
    obtain ⟨P, hP⟩ : ∃ P, bU (l.take j) = P := ⟨_, rfl⟩
    have hPs : P.length ≤ 80 * 5000000 := by rw [← hP]; exact hsz j
    have hnext : bU (l.take (j + 1)) = P ++ kT a.lines := by
      rw [List.take_add_one, hg, Option.toList_some, A5, hP]
    simp only [hP, hnext]
    refine an (eN (decide_eq_true (by omega)) rfl) (an (a := ((P ++ kT a.lines).length, (P ++ kT a.lines).length, EE (P ++ kT a.lines))) (FE (an h40 (an rfl (an (a := ((P ++ kT a.lines).length, (P ++ kT a.lines).length, EE (P ++ kT a.lines))) (fD (fun i => ((P ++ kT (a.lines.take i)).length, (P ++ kT (a.lines.take i)).length, i, EE (P ++ kT (a.lines.take i)))) a.lines.length ?_ (fun i hi => ?_) ?_) rfl)))) (aB (by rw [bT]; omega) rfl))
    · rw [List.take_zero]
      show _ = ((P ++ []).length, (P ++ []).length, 0, EE (P ++ []))
      rw [List.append_nil]
    · obtain ⟨x, hx⟩ : ∃ x, a.lines.getD i ByteArray.empty = x := ⟨_, rfl⟩
      have hxi : a.lines[i]? = some x := by
        rw [List.getD_eq_getElem?_getD, List.getElem?_eq_getElem hi] at hx
        rw [List.getElem?_eq_getElem hi]; exact congrArg some hx
      have hxs := hLs.2 x (List.mem_of_getElem? hxi)
      obtain ⟨Q, hQ⟩ : ∃ Q, P ++ kT (a.lines.take i) = Q := ⟨_, rfl⟩
      have hQs : Q.length ≤ 80 * 5000000 + 514 * 9001 := by
        have h1 := A4 (L := a.lines.take i) fun y hy => hLs.2 y (List.mem_of_mem_take hy)
        have h2 : (a.lines.take i).length ≤ 514 := by rw [List.length_take]; omega
        have h3 := Nat.mul_le_mul_right 9001 h2
        rw [← hQ, List.length_append]
        omega
      have hQ1 : P ++ kT (a.lines.take (i + 1)) = Q ++ (x.data.toList ++ [10]) := by
        rw [List.take_add_one, hxi, Option.toList_some, Dj, ← List.append_assoc, hQ]; rfl
      have hQl : (Q ++ (x.data.toList ++ [10])).length = Q.length + x.size + 1 := by
        rw [List.length_append, List.length_append, Ki]; rfl
      simp only [hQ, hQ1, kB, sb, hx]
      have e1 : List.take Q.length (EE Q) = EE Q := List.take_of_length_le (by rw [sI]; omega)
      have e2 : List.take (Q.length + x.size) (EE Q ++ cH x) = EE Q ++ cH x := List.take_of_length_le (by rw [List.length_append, sI, qb]; omega)
      rw [e1, e2]
      refine eN (decide_eq_true (by omega)) (aB (by rw [rD]; omega) (aB (by rw [bC]; omega) (aB (by rw [bz]; omega) (aB (by rw [bz]; omega) (aB (by rw [bz, sI]; omega) (aB (by rw [bz]; omega) (aB (by rw [bz]; omega) (kH (aB (by rw [bz, List.length_append, sI, qb]; omega) (aB (by rw [bT]; omega) ?_))))))))))
      rw [hQl, HZ, HZ, IS, List.append_assoc]
      rfl
    · rw [List.take_length]
      exact di (decide_eq_false (by omega)) rfl
  · rw [List.take_of_length_le (by omega)]
    exact cU (di (decide_eq_false (by omega)) rfl)
  · refine aB (by rw [bz, sI]; omega) ?_
    rw [List.take_of_length_le (by rw [sI]; omega), KQ]
    rfl
theorem IT(n:Nat)(ks ms ns:List Int)(wss:List (List Int))(ys ts:List Int)(hC:KO n ks ms ns wss ys ts)(hw:∀ ws∈wss,IP ws)(ht:IP ts) :dR n ks ms ns wss ys ts=some (.r0 true):=by
  unfold dR
  have hC0:=hC
  obtain ⟨c1,c2,c3,c4,c5,c6⟩:=hC
  have k1:=Dl c1
  have k2:=Dl c2
  have k3:=Dl c3
  have k4:=Dl c4
  have k5:=Dl c5
  have k6:=Dl c6
  obtain ⟨bm,hm,hm2⟩:=KP n ks ms ns wss ys ts hC0
  have h15:(fh n ks ms ns wss ys ts).run=some (.inl bm):=by
    simp only [fh,k1,k2,k3,k4,k5,k6,hm]
    exact aB (by rw [Eg];omega) (kH rfl)
  cases bm with
  | true=>exact cd (an h15 (cU (cD rfl)))
  | false =>
    obtain ⟨h80,-⟩:=hm2 rfl
    obtain ⟨l,hl⟩:∃ l,rV n ks ms ns wss ys ts=l:=⟨_,rfl⟩
    have hlen:l.length=n:=by rw [←hl];exact rW ..
    have ax:∀ i,i<n→l[i]? = some ⟨ks.getD i 0,ms.getD i 0,ns.getD i 0,wss.getD i [],ys.getD i 0,ts.getD i 0⟩:=fun i hi=>by rw [←hl];exact FV hi
    have h16:(fi n ks ms ns wss ys ts false).run=some (.inl (hX l,hZ l)):=by
      simp only [fi,k1,k2,k3,k4,k5,k6,hl]
      exact bA (aB (by rw [Eg];omega) (aB (Nat.ble_eq_true_of_le (by omega)) rfl))
    have t18:∀ i,i<n→(fj n ks ms ns wss ys ts (hX l) (hZ l) i).run=bif gS (ks.getD i 0) (ms.getD i 0) (ns.getD i 0) (wss.getD i []).length (ys.getD i 0) (ts.getD i 0) then some (.inl ()) else (T.ask ((hX l).toList==ByteArray.empty.toList) (.ask ((hZ l)==(2:Int)) (.leaf (.inr (.inr (.r0 true)))) (.leaf (.inr (.inr (.r0 false))))) (.leaf (.inr (.inr (.r0 false))))).run:=by
      intro i hi
      simp only [fj,rt,IR]
      refine eN (decide_eq_true (by omega)) (aB (by rw [rD];omega) (aB (by rw [bC];omega) (aB (by rw [bC];omega) (aB (by rw [bC];omega) (aB (by rw [bC];omega) (aB (by rw [bC];omega) (aB (by rw [bC];omega) (HN (kH ?_)))))))))
      show (T.ask (!(gS (ks.getD i 0) (ms.getD i 0) (ns.getD i 0) (wss.getD i []).length (ys.getD i 0) (ts.getD i 0))) _ _).run=_
      cases gS (ks.getD i 0) (ms.getD i 0) (ns.getD i 0) (wss.getD i []).length (ys.getD i 0) (ts.getD i 0) with
      | true=>exact bA rfl
      | false=>exact cD rfl
    by_cases hall:∀ i,i<n→gS (ks.getD i 0) (ms.getD i 0) (ns.getD i 0) (wss.getD i []).length (ys.getD i 0) (ts.getD i 0)=true
    · have hmay:∀ a∈l,a.may=true:=by
        intro a ha
        obtain ⟨i,hi,rfl⟩:=List.getElem_of_mem ha
        have e:=ax i (by omega)
        rw [List.getElem?_eq_getElem hi] at e
        rw [Option.some.inj e]
        exact hall i (by omega)
      have hT:=Ha n ks ms ns wss ys ts hC0 h80 (by rw [hl];exact hmay)
      rw [hl] at hT
      have h21:(fm n ks ms ns wss ys ts).run=some (.inl ⟨(bU l).toArray⟩):=by
        simp only [fm,k1,k2,k3,k4,k5,k6,hT]
        exact aB (by rw [Eg];omega) (kH rfl)
      have hany : ¬ l.any (fun a=>!a.may)=true:=by
        intro q
        obtain ⟨a,ha,hb⟩:=List.any_eq_true.1 q
        rw [hmay a ha] at hb
        cases hb
      have hsz:(ByteArray.mk (bU l).toArray).size=(bU l).length:=by simp [ByteArray.size]
      refine cd (an h15 (an h16 (an (a:=()) (fD (fun j=>j) n rfl (fun j hj=>?_) ?_) (an h21 ?_))))
      · refine an (a:=()) ?_ (aB (by rw [bT];omega) rfl)
        rw [t18 j hj,hall j hj]
        rfl
      · exact cU (di (decide_eq_false (by omega)) rfl)
      · have e0:((ByteArray.empty).toList==ByteArray.empty.toList)=true:=by rw [uG];exact decide_eq_true rfl
        by_cases h64:64<n
        · have eS:hX l=ByteArray.empty:=by unfold hX;rw [if_neg hany,if_pos (by omega)]
          have eE:hZ l=3:=by unfold hZ;rw [if_neg hany,if_pos (by omega)]
          rw [eS,eE]
          exact an (a:=true) (eN (decide_eq_true (by omega)) rfl) (cU (an (a:=true) (eN e0 (cD rfl)) rfl))
        · have h22:(kJ n ⟨(bU l).toArray⟩).run=some (.inl (decide ((((ByteArray.mk (bU l).toArray).size:Nat):Int)>(8388608:Int)))):=di (decide_eq_false (by omega)) rfl
          refine an h22 ?_
          by_cases hb:8388608<(bU l).length
          · have eS:hX l=ByteArray.empty:=by unfold hX;rw [if_neg hany,if_neg (by omega),if_pos hb]
            have eE:hZ l=3:=by unfold hZ;rw [if_neg hany,if_neg (by omega),if_pos hb]
            rw [eS,eE,decide_eq_true (by omega),cond_true]
            exact cU (an (a:=true) (eN e0 (cD rfl)) rfl)
          · have eS:hX l=⟨(bU l).toArray⟩:=by unfold hX;rw [if_neg hany,if_neg (by omega),if_neg hb]
            have eE:hZ l=0:=by unfold hZ;rw [if_neg hany,if_neg (by omega),if_neg hb]
            rw [eS,eE,decide_eq_false (by omega),cond_false]
            exact an rfl (an (a:=true) (eN (by rw [uG];exact decide_eq_true rfl) (cD rfl)) rfl)
    · obtain ⟨i,hi,hb,hg⟩:=Go.Plb.first_bad hall
      have hb:gS (ks.getD i 0) (ms.getD i 0) (ns.getD i 0) (wss.getD i []).length (ys.getD i 0) (ts.getD i 0)=false:=by simpa using hb
      have hany:l.any (fun a=>!a.may)=true:=by
        refine List.any_eq_true.2 ⟨_,List.mem_of_getElem? (ax i hi),?_⟩
        show (!gS (ks.getD i 0) (ms.getD i 0) (ns.getD i 0) (wss.getD i []).length (ys.getD i 0) (ts.getD i 0))=true
        rw [hb];rfl
      have eS:hX l=ByteArray.empty:=by unfold hX;rw [if_pos hany]
      have eE:hZ l=2:=by unfold hZ;rw [if_pos hany]
      refine cd (an h15 (an h16 (cU (fD (fun j=>j) i rfl (fun j hj=>?_) ?_))))
      · refine an (a:=()) ?_ (aB (by rw [bT];omega) rfl)
        rw [t18 j (by omega),hg j hj]
        rfl
      · refine cU ?_
        rw [t18 i hi,hb,cond_false,eS,eE]
        exact eN (by rw [uG];exact decide_eq_true rfl) (cD rfl)
end Go.Plb.Seat
