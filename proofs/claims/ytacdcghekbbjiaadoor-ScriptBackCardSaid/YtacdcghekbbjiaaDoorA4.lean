/-
  Part 4 of what the claim leans on: an evaluator of the model, proved sound; the contracts of the functions.
-/
import Derived.Test.YtacdcghekbbjiaaDoorA3
namespace Go.Plb.Seat
open Go Go.Plb
set_option linter.unusedVariables false
set_option maxRecDepth 100000
noncomputable section
inductive aa where
  | r0 (b13:Bool) (a14:Nat) (a15:Nat) (i17:Int) (i18:Int) (i19:Int) (a20:Nat) (a21:Nat) (i22:Int) (i23:Int) (b24:Bool) (i25:Int) (a26:Nat) (l27:List Int) (l28:List Int) (l29:List Int) (l30:List (List Int)) (l31:List Int) (l32:List Int) (l33:List Int)
  | r1 (b34:Bool) (a35:Nat) (a36:Nat) (i37:Int) (i38:Int) (b39:Bool) (a40:Nat) (l41:List Int) (l42:List Int) (l43:List Int) (l44:List (List Int)) (l45:List Int) (l46:List Int) (l47:List Int)
  | r2 (b48:Bool) (a49:Nat) (a50:Nat) (i51:Int) (i52:Int) (i53:Int) (a54:Nat) (i55:Int) (i56:Int) (b57:Bool) (i58:Int) (a59:Nat) (l60:List Int) (l61:List Int) (l62:List Int) (l63:List (List Int)) (l64:List Int) (l65:List Int) (l66:List Int)
def lw:aa→AE×aH
  | .r0 b13 a14 a15 i17 i18 i19 a20 a21 i22 i23 b24 i25 a26 l27 l28 l29 l30 l31 l32 l33=>(.ret,⟨ax 164 [(4,.bool false b13)],[(0,.vs [.sl 1 6 6 0 a14 a15,.int .i64 i17,.int .i64 i18,.int .i64 i19,.sl 2 1 1 0 a20 a21,.int .i64 i22,.int .u64 i23,.bool false b24,.int .i64 i25]),(1,.cols a26 [.ci .i64 l27,.ci .i64 l28,.ci .i64 l29,.cns .u64 l30,.ci .i64 l31,.ci .u64 l32]),(2,.ns .u64 l33)],3⟩)
  | .r1 b34 a35 a36 i37 i38 b39 a40 l41 l42 l43 l44 l45 l46 l47=>(.ret,⟨ax 164 [(4,.bool false b34)],[(0,.vs [.sl 1 6 6 0 a35 a36,.int .i64 (0:Int),.int .i64 i37,.int .i64 i38,.nsl,.int .i64 (0:Int),.int .u64 (0:Int),.bool false b39,.int .i64 (0:Int)]),(1,.cols a40 [.ci .i64 l41,.ci .i64 l42,.ci .i64 l43,.cns .u64 l44,.ci .i64 l45,.ci .u64 l46]),(2,.ns .u64 l47)],3⟩)
  | .r2 b48 a49 a50 i51 i52 i53 a54 i55 i56 b57 i58 a59 l60 l61 l62 l63 l64 l65 l66=>(.ret,⟨ax 164 [(4,.bool false b48)],[(0,.vs [.sl 1 6 6 0 a49 a50,.int .i64 i51,.int .i64 i52,.int .i64 i53,.sl 3 1 1 0 a54 a54,.int .i64 i55,.int .u64 i56,.bool false b57,.int .i64 i58]),(1,.cols a59 [.ci .i64 l60,.ci .i64 l61,.ci .i64 l62,.cns .u64 l63,.ci .i64 l64,.ci .u64 l65]),(3,.ns .u64 l66)],4⟩)
theorem bg:sC lw:=by intro x;cases x<;>(intro h;cases h)
theorem wu(id:Nat) :rx id lw:=by intro x;cases x<;>(intro h;cases h)
def eh:aa→nu
  | .r0 b13 a14 a15 i17 i18 i19 a20 a21 i22 i23 b24 i25 a26 l27 l28 l29 l30 l31 l32 l33=>⟨.bool false b13,[some (.vs [.sl 1 6 6 0 a14 a15,.int .i64 i17,.int .i64 i18,.int .i64 i19,.sl 2 1 1 0 a20 a21,.int .i64 i22,.int .u64 i23,.bool false b24,.int .i64 i25]),some (.cols a26 [.ci .i64 l27,.ci .i64 l28,.ci .i64 l29,.cns .u64 l30,.ci .i64 l31,.ci .u64 l32]),some (.ns .u64 l33)]⟩
  | .r1 b34 a35 a36 i37 i38 b39 a40 l41 l42 l43 l44 l45 l46 l47=>⟨.bool false b34,[some (.vs [.sl 1 6 6 0 a35 a36,.int .i64 (0:Int),.int .i64 i37,.int .i64 i38,.nsl,.int .i64 (0:Int),.int .u64 (0:Int),.bool false b39,.int .i64 (0:Int)]),some (.cols a40 [.ci .i64 l41,.ci .i64 l42,.ci .i64 l43,.cns .u64 l44,.ci .i64 l45,.ci .u64 l46]),some (.ns .u64 l47)]⟩
  | .r2 b48 a49 a50 i51 i52 i53 a54 i55 i56 b57 i58 a59 l60 l61 l62 l63 l64 l65 l66=>⟨.bool false b48,[some (.vs [.sl 1 6 6 0 a49 a50,.int .i64 i51,.int .i64 i52,.int .i64 i53,.sl 3 1 1 0 a54 a54,.int .i64 i55,.int .u64 i56,.bool false b57,.int .i64 i58]),some (.cols a59 [.ci .i64 l60,.ci .i64 l61,.ci .i64 l62,.cns .u64 l63,.ci .i64 l64,.ci .u64 l65]),none,some (.ns .u64 l66)]⟩
noncomputable def uR:List Code:=dk (uD bE)
def wv(n_0:Nat)(c_1:Nat)(i_2:Int)(i_3:Int)(i_4:Int)(n_5:Nat)(c_6:Nat)(i_7:Int)(i_8:Int)(b_9:Bool)(i_10:Int)(n_11:Nat)(l_12:List Int)(l_13:List Int)(l_14:List Int)(l_15:List (List Int))(l_16:List Int)(l_17:List Int)(l_18:List Int)(s_19:ByteArray)(_:Unit) :aH:=⟨ax 164 [(0,.ptr 0 1 0 0),(1,.str s_19)],[(0,.vs [.sl 1 6 6 0 n_0 c_1,.int .i64 i_2,.int .i64 i_3,.int .i64 i_4,.sl 2 1 1 0 n_5 c_6,.int .i64 i_7,.int .u64 i_8,.bool false b_9,.int .i64 i_10]),(1,.cols n_11 [.ci .i64 l_12,.ci .i64 l_13,.ci .i64 l_14,.cns .u64 l_15,.ci .i64 l_16,.ci .u64 l_17]),(2,.ns .u64 l_18)],3⟩
def uS:T ((Unit)⊕(aa)) :=
  .leaf (.inl ())
def oA(n_0:Nat)(c_1:Nat)(i_2:Int)(i_3:Int)(i_4:Int)(n_5:Nat)(c_6:Nat)(i_7:Int)(i_8:Int)(b_9:Bool)(i_10:Int)(n_11:Nat)(l_12:List Int)(l_13:List Int)(l_14:List Int)(l_15:List (List Int))(l_16:List Int)(l_17:List Int)(l_18:List Int)(s_19:ByteArray)(_:Unit) :aH:=⟨ax 164 [(0,.ptr 0 1 0 0),(1,.str s_19)],[(0,.vs [.sl 1 6 6 0 n_0 c_1,.int .i64 i_2,.int .i64 i_3,.int .i64 i_4,.sl 2 1 1 0 n_5 c_6,.int .i64 i_7,.int .u64 i_8,.bool false b_9,.int .i64 i_10]),(1,.cols n_11 [.ci .i64 l_12,.ci .i64 l_13,.ci .i64 l_14,.cns .u64 l_15,.ci .i64 l_16,.ci .u64 l_17]),(2,.ns .u64 l_18)],3⟩
noncomputable def jO:List Code:=dk (inBlock ((((uR.drop 1).take 1)).headD .skip))
def ww(n_0:Nat)(c_1:Nat)(i_2:Int)(i_3:Int)(i_4:Int)(n_5:Nat)(c_6:Nat)(i_7:Int)(i_8:Int)(b_9:Bool)(i_10:Int)(n_11:Nat)(l_12:List Int)(l_13:List Int)(l_14:List Int)(l_15:List (List Int))(l_16:List Int)(l_17:List Int)(l_18:List Int)(s_19:ByteArray)(b1:Bool) :aH:=⟨ax 164 [(0,.ptr 0 1 0 0),(1,.str s_19),(10,.bool false b1)],[(0,.vs [.sl 1 6 6 0 n_0 c_1,.int .i64 i_2,.int .i64 i_3,.int .i64 i_4,.sl 2 1 1 0 n_5 c_6,.int .i64 i_7,.int .u64 i_8,.bool false b_9,.int .i64 i_10]),(1,.cols n_11 [.ci .i64 l_12,.ci .i64 l_13,.ci .i64 l_14,.cns .u64 l_15,.ci .i64 l_16,.ci .u64 l_17]),(2,.ns .u64 l_18)],3⟩
def uT(b_9:Bool) :T ((Bool)⊕((Unit)⊕(aa))) :=
  .leaf (.inl (!b_9))
def oB(n_0:Nat)(c_1:Nat)(i_2:Int)(i_3:Int)(i_4:Int)(n_5:Nat)(c_6:Nat)(i_7:Int)(i_8:Int)(b_9:Bool)(i_10:Int)(n_11:Nat)(l_12:List Int)(l_13:List Int)(l_14:List Int)(l_15:List (List Int))(l_16:List Int)(l_17:List Int)(l_18:List Int)(s_19:ByteArray)(_:Unit) :aH:=⟨ax 164 [(0,.ptr 0 1 0 0),(1,.str s_19)],[(0,.vs [.sl 1 6 6 0 n_0 c_1,.int .i64 i_2,.int .i64 i_3,.int .i64 i_4,.sl 2 1 1 0 n_5 c_6,.int .i64 i_7,.int .u64 i_8,.bool false b_9,.int .i64 i_10]),(1,.cols n_11 [.ci .i64 l_12,.ci .i64 l_13,.ci .i64 l_14,.cns .u64 l_15,.ci .i64 l_16,.ci .u64 l_17]),(2,.ns .u64 l_18)],3⟩
def wx(n_0:Nat)(c_1:Nat)(i_2:Int)(i_3:Int)(i_4:Int)(n_5:Nat)(c_6:Nat)(i_7:Int)(i_8:Int)(b_9:Bool)(i_10:Int)(n_11:Nat)(l_12:List Int)(l_13:List Int)(l_14:List Int)(l_15:List (List Int))(l_16:List Int)(l_17:List Int)(l_18:List Int)(s_19:ByteArray) :(List ByteArray)×Nat→aH:=fun (w2,w3)=>⟨ax 164 [(0,.ptr 0 1 0 0),(1,.str s_19),(5,.imm .free (.ss w2) 1 1 0 w3)],[(0,.vs [.sl 1 6 6 0 n_0 c_1,.int .i64 i_2,.int .i64 i_3,.int .i64 i_4,.sl 2 1 1 0 n_5 c_6,.int .i64 i_7,.int .u64 i_8,.bool false b_9,.int .i64 i_10]),(1,.cols n_11 [.ci .i64 l_12,.ci .i64 l_13,.ci .i64 l_14,.cns .u64 l_15,.ci .i64 l_16,.ci .u64 l_17]),(2,.ns .u64 l_18)],3⟩
def uU(s_19:ByteArray) :T (((List ByteArray)×Nat)⊕((Unit)⊕(aa))) :=
  .need (ef (bL s_19 (ByteArray.mk #[32])))<|.leaf (.inl ((eG (bL s_19 (ByteArray.mk #[32]))),(eF (bL s_19 (ByteArray.mk #[32])))))
def wy(n_0:Nat)(c_1:Nat)(n_11:Nat)(l_12:List Int)(l_13:List Int)(l_14:List Int)(l_15:List (List Int))(l_16:List Int)(l_17:List Int)(l_18:List Int) :Bool×Int×Int×Bool→aH:=fun (b4,i5,i6,b7)=>⟨ax 164 [(4,.bool false b4)],[(0,.vs [.sl 1 6 6 0 n_0 c_1,.int .i64 (0:Int),.int .i64 i5,.int .i64 i6,.nsl,.int .i64 (0:Int),.int .u64 (0:Int),.bool false b7,.int .i64 (0:Int)]),(1,.cols n_11 [.ci .i64 l_12,.ci .i64 l_13,.ci .i64 l_14,.cns .u64 l_15,.ci .i64 l_16,.ci .u64 l_17]),(2,.ns .u64 l_18)],3⟩
def uV(n_0:Nat)(c_1:Nat)(i_2:Int)(i_3:Int)(i_4:Int)(n_5:Nat)(c_6:Nat)(i_7:Int)(i_8:Int)(b_9:Bool)(i_10:Int)(n_11:Nat)(l_12:List Int)(l_13:List Int)(l_14:List Int)(l_15:List (List Int))(l_16:List Int)(l_17:List Int)(l_18:List Int)(s_19:ByteArray)(w2:List ByteArray)(w3:Nat) :T ((Bool×Int×Int×Bool)⊕((Unit)⊕(aa))) :=
  .ask (((w3:Nat):Int) != (3:Int))
    (.leaf (.inr (.inr (.r0 false n_0 c_1 i_2 i_3 i_4 n_5 c_6 i_7 i_8 b_9 i_10 n_11 l_12 l_13 l_14 l_15 l_16 l_17 l_18))))
    (.need (qW (1:Int) w3)<|.need (dn 1 (List.length w2))<|.need (em (List.getD w2 1 ByteArray.empty).size)<|.need (qW (2:Int) w3)<|.need (dn 2 (List.length w2))<|.need (em (List.getD w2 2 ByteArray.empty).size)<|.need (dx (bM (cV (List.getD w2 1 ByteArray.empty))))<|.ask (dl (bM (cV (List.getD w2 1 ByteArray.empty))))
      (.need (dx (bM (cV (List.getD w2 2 ByteArray.empty))))<|.ask (dl (bM (cV (List.getD w2 2 ByteArray.empty))))
        (.need (fF (di (cV (List.getD w2 1 ByteArray.empty)) (cV (List.getD w2 2 ByteArray.empty))))<|.leaf (.inl (((gT (di (cV (List.getD w2 1 ByteArray.empty)) (cV (List.getD w2 2 ByteArray.empty)))).toList==s_19.toList),(cV (List.getD w2 1 ByteArray.empty)),(cV (List.getD w2 2 ByteArray.empty)),true)))
        (.leaf (.inl (false,(cV (List.getD w2 1 ByteArray.empty)),(cV (List.getD w2 2 ByteArray.empty)),true))))
      (.leaf (.inl (false,(cV (List.getD w2 1 ByteArray.empty)),(cV (List.getD w2 2 ByteArray.empty)),true))))
def uW(n_0:Nat)(c_1:Nat)(n_11:Nat)(l_12:List Int)(l_13:List Int)(l_14:List Int)(l_15:List (List Int))(l_16:List Int)(l_17:List Int)(l_18:List Int)(b4:Bool)(i5:Int)(i6:Int)(b7:Bool) :T ((Unit)⊕((Unit)⊕(aa))) :=
  .leaf (.inr (.inr (.r1 b4 n_0 c_1 i5 i6 b7 n_11 l_12 l_13 l_14 l_15 l_16 l_17 l_18)))
def wz(n_0:Nat)(c_1:Nat)(i_2:Int)(i_3:Int)(i_4:Int)(n_5:Nat)(c_6:Nat)(i_7:Int)(i_8:Int)(b_9:Bool)(i_10:Int)(n_11:Nat)(l_12:List Int)(l_13:List Int)(l_14:List Int)(l_15:List (List Int))(l_16:List Int)(l_17:List Int)(l_18:List Int)(s_19:ByteArray)(b8:Bool) :aH:=⟨ax 164 [(0,.ptr 0 1 0 0),(1,.str s_19),(68,.bool false b8)],[(0,.vs [.sl 1 6 6 0 n_0 c_1,.int .i64 i_2,.int .i64 i_3,.int .i64 i_4,.sl 2 1 1 0 n_5 c_6,.int .i64 i_7,.int .u64 i_8,.bool false b_9,.int .i64 i_10]),(1,.cols n_11 [.ci .i64 l_12,.ci .i64 l_13,.ci .i64 l_14,.cns .u64 l_15,.ci .i64 l_16,.ci .u64 l_17]),(2,.ns .u64 l_18)],3⟩
def jP(i_3:Int)(i_4:Int)(i_10:Int) :T ((Bool)⊕((Unit)⊕(aa))) :=
  .ask (decide (i_10<i_3))
    (.leaf (.inl (decide (i_4>(0:Int)))))
    (.leaf (.inl false))
def dy(n_0:Nat)(c_1:Nat)(i_2:Int)(i_3:Int)(i_4:Int)(n_5:Nat)(c_6:Nat)(i_7:Int)(i_8:Int)(b_9:Bool)(i_10:Int)(n_11:Nat)(l_12:List Int)(l_13:List Int)(l_14:List Int)(l_15:List (List Int))(l_16:List Int)(l_17:List Int)(l_18:List Int)(s_19:ByteArray)(b8:Bool) :T ((Unit)⊕((Unit)⊕(aa))) :=
  .ask b8
    (.alt 0
      (.need (cQ s_19)<|.need (em s_19.size)<|.need (nY ((n_5+(List.length (bo s_19)))*8) 140737488355328)<|.need (nY (n_5+(List.length (bo s_19))) 9223372036854775807)<|.need (nY (List.length (bo s_19)) (List.length (bo s_19)))<|.need (nY n_5 (List.length l_18))<|.need (kK .i64 (i_10+(1:Int)))<|.ask (0==(0:Int))
        (.leaf (.inr (.inr (.r2 ((((List.length (bo s_19)):Nat):Int)==i_4) n_0 c_1 i_2 i_3 i_4 (n_5+(List.length (bo s_19))) i_7 i_8 b_9 (i_10+(1:Int)) n_11 l_12 l_13 l_14 l_15 l_16 l_17 ((List.take n_5 l_18)++(List.take (List.length (bo s_19)) (bo s_19)))))))
        (.leaf (.inr (.inr (.r2 false n_0 c_1 i_2 i_3 i_4 (n_5+(List.length (bo s_19))) i_7 i_8 b_9 (i_10+(1:Int)) n_11 l_12 l_13 l_14 l_15 l_16 l_17 ((List.take n_5 l_18)++(List.take (List.length (bo s_19)) (bo s_19))))))))
      (.alt 1
        (.need (!cQ s_19)<|.need (em s_19.size)<|.need (kK .i64 (i_10+(1:Int)))<|.ask (4==(0:Int))
          (.leaf (.inr (.inr (.r0 ((0:Int)==i_4) n_0 c_1 i_2 i_3 i_4 n_5 c_6 i_7 i_8 b_9 (i_10+(1:Int)) n_11 l_12 l_13 l_14 l_15 l_16 l_17 l_18))))
          (.leaf (.inr (.inr (.r0 false n_0 c_1 i_2 i_3 i_4 n_5 c_6 i_7 i_8 b_9 (i_10+(1:Int)) n_11 l_12 l_13 l_14 l_15 l_16 l_17 l_18)))))
        (.fail)))
    (.leaf (.inl ()))
def uX:T ((Unit)⊕((Unit)⊕(aa))) :=
  .leaf (.inl ())
def wA(n_0:Nat)(c_1:Nat)(i_2:Int)(i_3:Int)(i_4:Int)(n_5:Nat)(c_6:Nat)(i_7:Int)(i_8:Int)(b_9:Bool)(i_10:Int)(n_11:Nat)(l_12:List Int)(l_13:List Int)(l_14:List Int)(l_15:List (List Int))(l_16:List Int)(l_17:List Int)(l_18:List Int) :Nat×Int×Int×Int→aH:=fun (e9,i10,i11,i12)=>⟨ax 164 [(0,.ptr 0 1 0 0),(8,.ptr 3 1 0 0),(9,.int .i64 ((e9:Nat):Int))],[(0,.vs [.sl 1 6 6 0 n_0 c_1,.int .i64 i_2,.int .i64 i_3,.int .i64 i_4,.sl 2 1 1 0 n_5 c_6,.int .i64 i_7,.int .u64 i_8,.bool false b_9,.int .i64 i_10]),(1,.cols n_11 [.ci .i64 l_12,.ci .i64 l_13,.ci .i64 l_14,.cns .u64 l_15,.ci .i64 l_16,.ci .u64 l_17]),(2,.ns .u64 l_18),(3,.vs [.int .i64 i10,.int .i64 (0:Int),.int .i64 (0:Int),.nsl,.int .i64 i11,.int .u64 i12])],4⟩
def uY(s_19:ByteArray) :T ((Nat×Int×Int×Int)⊕(aa)) :=
  .need (ed (aS s_19))<|.leaf (.inl ((eA (aS s_19)),(eB (aS s_19)),(eC (aS s_19)),(eD (aS s_19))))
def uZ:T ((Empty)⊕(aa)) :=
  .fail
noncomputable def dm(n_0:Nat)(c_1:Nat)(i_2:Int)(i_3:Int)(i_4:Int)(n_5:Nat)(c_6:Nat)(i_7:Int)(i_8:Int)(b_9:Bool)(i_10:Int)(n_11:Nat)(l_12:List Int)(l_13:List Int)(l_14:List Int)(l_15:List (List Int))(l_16:List Int)(l_17:List Int)(l_18:List Int)(s_19:ByteArray) :Option aa:=yF (bj ((uS).run) fun _ =>
  bj (tJ (bj ((uT b_9).run) fun b1 =>
  bj ((bif b1 then bj ((uU s_19).run) fun (w2,w3) =>
  bj ((uV n_0 c_1 i_2 i_3 i_4 n_5 c_6 i_7 i_8 b_9 i_10 n_11 l_12 l_13 l_14 l_15 l_16 l_17 l_18 s_19 w2 w3).run) fun (b4,i5,i6,b7) =>
  (uW n_0 c_1 n_11 l_12 l_13 l_14 l_15 l_16 l_17 l_18 b4 i5 i6 b7).run else bj ((jP i_3 i_4 i_10).run) fun b8 =>
  (dy n_0 c_1 i_2 i_3 i_4 n_5 c_6 i_7 i_8 b_9 i_10 n_11 l_12 l_13 l_14 l_15 l_16 l_17 l_18 s_19 b8).run)) fun _ =>
  (uX).run)) fun _ =>
  bj ((uY s_19).run) fun (e9,i10,i11,i12) =>
  (uZ).run)
theorem kH(n_0:Nat)(c_1:Nat)(i_2:Int)(i_3:Int)(i_4:Int)(n_5:Nat)(c_6:Nat)(i_7:Int)(i_8:Int)(b_9:Bool)(i_10:Int)(n_11:Nat)(l_12:List Int)(l_13:List Int)(l_14:List Int)(l_15:List (List Int))(l_16:List Int)(l_17:List Int)(l_18:List Int)(s_19:ByteArray){x:aa}(h:dm n_0 c_1 i_2 i_3 i_4 n_5 c_6 i_7 i_8 b_9 i_10 n_11 l_12 l_13 l_14 l_15 l_16 l_17 l_18 s_19=some x) :am prog bE [.vs [.sl 1 6 6 0 n_0 c_1,.int .i64 i_2,.int .i64 i_3,.int .i64 i_4,.sl 2 1 1 0 n_5 c_6,.int .i64 i_7,.int .u64 i_8,.bool false b_9,.int .i64 i_10],.cols n_11 [.ci .i64 l_12,.ci .i64 l_13,.ci .i64 l_14,.cns .u64 l_15,.ci .i64 l_16,.ci .u64 l_17],.ns .u64 l_18] [.ptr 0 1 0 0,.str s_19] (eh x) :=
  B3 false eh lw h (Sg.cut 1 bg (dt aw (wv n_0 c_1 i_2 i_3 i_4 n_5 c_6 i_7 i_8 b_9 i_10 n_11 l_12 l_13 l_14 l_15 l_16 l_17 l_18 s_19) [⟨[],[0,1,2],[0,1]⟩]) (fun _=>Sg.cut 1 bg (NW (oA n_0 c_1 i_2 i_3 i_4 n_5 c_6 i_7 i_8 b_9 i_10 n_11 l_12 l_13 l_14 l_15 l_16 l_17 l_18 s_19) 0 bg (wu _) (Sg.cut 1 (dI bg) (dt aw (ww n_0 c_1 i_2 i_3 i_4 n_5 c_6 i_7 i_8 b_9 i_10 n_11 l_12 l_13 l_14 l_15 l_16 l_17 l_18 s_19) [⟨[],[0,1,2],[0,1,10]⟩]) (fun b1=>Sg.cut 1 (dI bg) (sE (c:=.tmp 10) (kn:=false) (b:=b1) (by kernel_rfl:((jO.drop 1).take 1)=[.cond (.tmp 10) (AT ((((jO.drop 1).take 1)).headD .skip)) (Ei ((((jO.drop 1).take 1)).headD .skip))]) (dI bg) (by kernel_rfl) (Sg.cut 1 (dI bg) (dt aw (wx n_0 c_1 i_2 i_3 i_4 n_5 c_6 i_7 i_8 b_9 i_10 n_11 l_12 l_13 l_14 l_15 l_16 l_17 l_18 s_19) [⟨[],[0,1,2],[0,1,5]⟩]) (fun ⟨w2,w3⟩=>Sg.cut 4 (dI bg) (dt aw (wy n_0 c_1 n_11 l_12 l_13 l_14 l_15 l_16 l_17 l_18) [⟨[],[0,1,2],[4]⟩,⟨[],[0,1,2],[4]⟩,⟨[],[0,1,2],[4]⟩,⟨[],[0,1,2],[4]⟩]) (fun ⟨b4,i5,i6,b7⟩=>dt aw (oB n_0 c_1 i_2 i_3 i_4 n_5 c_6 i_7 i_8 b_9 i_10 n_11 l_12 l_13 l_14 l_15 l_16 l_17 l_18 s_19) [⟨[],[0,1,2],[4]⟩]))) (Sg.cut 1 (dI bg) (dt aw (wz n_0 c_1 i_2 i_3 i_4 n_5 c_6 i_7 i_8 b_9 i_10 n_11 l_12 l_13 l_14 l_15 l_16 l_17 l_18 s_19) [⟨[],[0,1,2],[0,1,68]⟩,⟨[],[0,1,2],[0,1,68]⟩]) (fun b8=>dt aw (oB n_0 c_1 i_2 i_3 i_4 n_5 c_6 i_7 i_8 b_9 i_10 n_11 l_12 l_13 l_14 l_15 l_16 l_17 l_18 s_19) [⟨[],[0,1,2,227],[4]⟩,⟨[],[0,1,2,227],[4]⟩,⟨[],[0,1,2],[4]⟩,⟨[],[0,1,2],[4]⟩,⟨[],[0,1,2],[0,1]⟩]))) (fun _=>dt aw (oA n_0 c_1 i_2 i_3 i_4 n_5 c_6 i_7 i_8 b_9 i_10 n_11 l_12 l_13 l_14 l_15 l_16 l_17 l_18 s_19) [⟨[],[0,1,2],[0,1]⟩])))) (fun _=>Sg.cut 1 bg (dt aw (wA n_0 c_1 i_2 i_3 i_4 n_5 c_6 i_7 i_8 b_9 i_10 n_11 l_12 l_13 l_14 l_15 l_16 l_17 l_18) [⟨[],[0,1,2,83],[0,8,9]⟩]) (fun ⟨e9,i10,i11,i12⟩=>dt aw yG []))))
    (fun x=>by cases x with | r0 b13 a14 a15 i17 i18 i19 a20 a21 i22 i23 b24 i25 a26 l27 l28 l29 l30 l31 l32 l33=>exact sF [.bool false b13] | r1 b34 a35 a36 i37 i38 b39 a40 l41 l42 l43 l44 l45 l46 l47=>exact sF [.bool false b34] | r2 b48 a49 a50 i51 i52 i53 a54 i55 i56 b57 i58 a59 l60 l61 l62 l63 l64 l65 l66=>exact sF [.bool false b48])
def fm:Option aa→Bool
  | some (.r0 _ _ _ _ _ _ _ _ _ _ _ _ _ _ _ _ _ _ _ _)=>true
  | _=>false
def cX:Option aa→Bool
  | some (.r0 x _ _ _ _ _ _ _ _ _ _ _ _ _ _ _ _ _ _ _)=>x
  | _=>false
def ii:Option aa→Nat
  | some (.r0 _ x _ _ _ _ _ _ _ _ _ _ _ _ _ _ _ _ _ _)=>x
  | _=>0
def ij:Option aa→Nat
  | some (.r0 _ _ x _ _ _ _ _ _ _ _ _ _ _ _ _ _ _ _ _)=>x
  | _=>0
def ik:Option aa→Int
  | some (.r0 _ _ _ x _ _ _ _ _ _ _ _ _ _ _ _ _ _ _ _)=>x
  | _=>0
def il:Option aa→Int
  | some (.r0 _ _ _ _ x _ _ _ _ _ _ _ _ _ _ _ _ _ _ _)=>x
  | _=>0
def im:Option aa→Int
  | some (.r0 _ _ _ _ _ x _ _ _ _ _ _ _ _ _ _ _ _ _ _)=>x
  | _=>0
def io:Option aa→Nat
  | some (.r0 _ _ _ _ _ _ x _ _ _ _ _ _ _ _ _ _ _ _ _)=>x
  | _=>0
def ip:Option aa→Nat
  | some (.r0 _ _ _ _ _ _ _ x _ _ _ _ _ _ _ _ _ _ _ _)=>x
  | _=>0
def iq:Option aa→Int
  | some (.r0 _ _ _ _ _ _ _ _ x _ _ _ _ _ _ _ _ _ _ _)=>x
  | _=>0
def ir:Option aa→Int
  | some (.r0 _ _ _ _ _ _ _ _ _ x _ _ _ _ _ _ _ _ _ _)=>x
  | _=>0
def fJ:Option aa→Bool
  | some (.r0 _ _ _ _ _ _ _ _ _ _ x _ _ _ _ _ _ _ _ _)=>x
  | _=>false
def fK:Option aa→Int
  | some (.r0 _ _ _ _ _ _ _ _ _ _ _ x _ _ _ _ _ _ _ _)=>x
  | _=>0
def fL:Option aa→Nat
  | some (.r0 _ _ _ _ _ _ _ _ _ _ _ _ x _ _ _ _ _ _ _)=>x
  | _=>0
def fM:Option aa→List Int
  | some (.r0 _ _ _ _ _ _ _ _ _ _ _ _ _ x _ _ _ _ _ _)=>x
  | _=>[]
def fN:Option aa→List Int
  | some (.r0 _ _ _ _ _ _ _ _ _ _ _ _ _ _ x _ _ _ _ _)=>x
  | _=>[]
def fO:Option aa→List Int
  | some (.r0 _ _ _ _ _ _ _ _ _ _ _ _ _ _ _ x _ _ _ _)=>x
  | _=>[]
def fP:Option aa→List (List Int)
  | some (.r0 _ _ _ _ _ _ _ _ _ _ _ _ _ _ _ _ x _ _ _)=>x
  | _=>[]
def fQ:Option aa→List Int
  | some (.r0 _ _ _ _ _ _ _ _ _ _ _ _ _ _ _ _ _ x _ _)=>x
  | _=>[]
def fR:Option aa→List Int
  | some (.r0 _ _ _ _ _ _ _ _ _ _ _ _ _ _ _ _ _ _ x _)=>x
  | _=>[]
def fS:Option aa→List Int
  | some (.r0 _ _ _ _ _ _ _ _ _ _ _ _ _ _ _ _ _ _ _ x)=>x
  | _=>[]
theorem wB{x:Option aa}(h:fm x=true) :x=some (.r0 (cX x) (ii x) (ij x) (ik x) (il x) (im x) (io x) (ip x) (iq x) (ir x) (fJ x) (fK x) (fL x) (fM x) (fN x) (fO x) (fP x) (fQ x) (fR x) (fS x)):=by
  unfold fm at h
  split at h<;>first | rfl | (cases h;done) | (rename_i y;cases y;rfl)
def fo:Option aa→Bool
  | some (.r1 _ _ _ _ _ _ _ _ _ _ _ _ _ _)=>true
  | _=>false
def cY:Option aa→Bool
  | some (.r1 x _ _ _ _ _ _ _ _ _ _ _ _ _)=>x
  | _=>false
def iu:Option aa→Nat
  | some (.r1 _ x _ _ _ _ _ _ _ _ _ _ _ _)=>x
  | _=>0
def iv:Option aa→Nat
  | some (.r1 _ _ x _ _ _ _ _ _ _ _ _ _ _)=>x
  | _=>0
def iw:Option aa→Int
  | some (.r1 _ _ _ x _ _ _ _ _ _ _ _ _ _)=>x
  | _=>0
def iy:Option aa→Int
  | some (.r1 _ _ _ _ x _ _ _ _ _ _ _ _ _)=>x
  | _=>0
def iz:Option aa→Bool
  | some (.r1 _ _ _ _ _ x _ _ _ _ _ _ _ _)=>x
  | _=>false
def iA:Option aa→Nat
  | some (.r1 _ _ _ _ _ _ x _ _ _ _ _ _ _)=>x
  | _=>0
def iB:Option aa→List Int
  | some (.r1 _ _ _ _ _ _ _ x _ _ _ _ _ _)=>x
  | _=>[]
def iC:Option aa→List Int
  | some (.r1 _ _ _ _ _ _ _ _ x _ _ _ _ _)=>x
  | _=>[]
def iD:Option aa→List Int
  | some (.r1 _ _ _ _ _ _ _ _ _ x _ _ _ _)=>x
  | _=>[]
def fT:Option aa→List (List Int)
  | some (.r1 _ _ _ _ _ _ _ _ _ _ x _ _ _)=>x
  | _=>[]
def fU:Option aa→List Int
  | some (.r1 _ _ _ _ _ _ _ _ _ _ _ x _ _)=>x
  | _=>[]
def fV:Option aa→List Int
  | some (.r1 _ _ _ _ _ _ _ _ _ _ _ _ x _)=>x
  | _=>[]
def md:Option aa→List Int
  | some (.r1 _ _ _ _ _ _ _ _ _ _ _ _ _ x)=>x
  | _=>[]
theorem wC{x:Option aa}(h:fo x=true) :x=some (.r1 (cY x) (iu x) (iv x) (iw x) (iy x) (iz x) (iA x) (iB x) (iC x) (iD x) (fT x) (fU x) (fV x) (md x)):=by
  unfold fo at h
  split at h<;>first | rfl | (cases h;done) | (rename_i y;cases y;rfl)
def fp:Option aa→Bool
  | some (.r2 _ _ _ _ _ _ _ _ _ _ _ _ _ _ _ _ _ _ _)=>true
  | _=>false
def cZ:Option aa→Bool
  | some (.r2 x _ _ _ _ _ _ _ _ _ _ _ _ _ _ _ _ _ _)=>x
  | _=>false
def iE:Option aa→Nat
  | some (.r2 _ x _ _ _ _ _ _ _ _ _ _ _ _ _ _ _ _ _)=>x
  | _=>0
def iF:Option aa→Nat
  | some (.r2 _ _ x _ _ _ _ _ _ _ _ _ _ _ _ _ _ _ _)=>x
  | _=>0
def iG:Option aa→Int
  | some (.r2 _ _ _ x _ _ _ _ _ _ _ _ _ _ _ _ _ _ _)=>x
  | _=>0
def iH:Option aa→Int
  | some (.r2 _ _ _ _ x _ _ _ _ _ _ _ _ _ _ _ _ _ _)=>x
  | _=>0
def iI:Option aa→Int
  | some (.r2 _ _ _ _ _ x _ _ _ _ _ _ _ _ _ _ _ _ _)=>x
  | _=>0
def dV:Option aa→Nat
  | some (.r2 _ _ _ _ _ _ x _ _ _ _ _ _ _ _ _ _ _ _)=>x
  | _=>0
def iJ:Option aa→Int
  | some (.r2 _ _ _ _ _ _ _ x _ _ _ _ _ _ _ _ _ _ _)=>x
  | _=>0
def iK:Option aa→Int
  | some (.r2 _ _ _ _ _ _ _ _ x _ _ _ _ _ _ _ _ _ _)=>x
  | _=>0
def iL:Option aa→Bool
  | some (.r2 _ _ _ _ _ _ _ _ _ x _ _ _ _ _ _ _ _ _)=>x
  | _=>false
def fW:Option aa→Int
  | some (.r2 _ _ _ _ _ _ _ _ _ _ x _ _ _ _ _ _ _ _)=>x
  | _=>0
def fX:Option aa→Nat
  | some (.r2 _ _ _ _ _ _ _ _ _ _ _ x _ _ _ _ _ _ _)=>x
  | _=>0
def fY:Option aa→List Int
  | some (.r2 _ _ _ _ _ _ _ _ _ _ _ _ x _ _ _ _ _ _)=>x
  | _=>[]
def fZ:Option aa→List Int
  | some (.r2 _ _ _ _ _ _ _ _ _ _ _ _ _ x _ _ _ _ _)=>x
  | _=>[]
def gg:Option aa→List Int
  | some (.r2 _ _ _ _ _ _ _ _ _ _ _ _ _ _ x _ _ _ _)=>x
  | _=>[]
def gh:Option aa→List (List Int)
  | some (.r2 _ _ _ _ _ _ _ _ _ _ _ _ _ _ _ x _ _ _)=>x
  | _=>[]
def gi:Option aa→List Int
  | some (.r2 _ _ _ _ _ _ _ _ _ _ _ _ _ _ _ _ x _ _)=>x
  | _=>[]
def gj:Option aa→List Int
  | some (.r2 _ _ _ _ _ _ _ _ _ _ _ _ _ _ _ _ _ x _)=>x
  | _=>[]
def gk:Option aa→List Int
  | some (.r2 _ _ _ _ _ _ _ _ _ _ _ _ _ _ _ _ _ _ x)=>x
  | _=>[]
theorem wD{x:Option aa}(h:fp x=true) :x=some (.r2 (cZ x) (iE x) (iF x) (iG x) (iH x) (iI x) (dV x) (iJ x) (iK x) (iL x) (fW x) (fX x) (fY x) (fZ x) (gg x) (gh x) (gi x) (gj x) (gk x)):=by
  unfold fp at h
  split at h<;>first | rfl | (cases h;done) | (rename_i y;cases y;rfl)
def mJ(q:Option aa)(pre:List Bool) :List pU:=[⟨eh (.r0 (cX q) (ii q) (ij q) (ik q) (il q) (im q) (io q) (ip q) (iq q) (ir q) (fJ q) (fK q) (fL q) (fM q) (fN q) (fO q) (fP q) (fQ q) (fR q) (fS q)),pre++[fm q]⟩,
  ⟨eh (.r1 (cY q) (iu q) (iv q) (iw q) (iy q) (iz q) (iA q) (iB q) (iC q) (iD q) (fT q) (fU q) (fV q) (md q)),pre++[fo q]⟩,
  ⟨eh (.r2 (cZ q) (iE q) (iF q) (iG q) (iH q) (iI q) (dV q) (iJ q) (iK q) (iL q) (fW q) (fX q) (fY q) (fZ q) (gg q) (gh q) (gi q) (gj q) (gk q)),pre++[fp q]⟩]
inductive ac where
  | r0 (b22:Bool) (a23:Nat) (a24:Nat) (i25:Int) (i26:Int) (i27:Int) (l28:List Int) (a29:Nat) (i30:Int) (i31:Int) (b32:Bool) (i33:Int) (a34:Nat) (l35:List Int) (l36:List Int) (l37:List Int) (l38:List (List Int)) (l39:List Int) (l40:List Int)
  | r1 (b41:Bool) (a42:Nat) (a43:Nat) (i44:Int) (i45:Int) (b46:Bool) (a47:Nat) (l48:List Int) (l49:List Int) (l50:List Int) (l51:List (List Int)) (l52:List Int) (l53:List Int)
  | r2 (b54:Bool) (a55:Nat) (i56:Int) (i57:Int) (i58:Int) (l59:List Int) (a60:Nat) (i61:Int) (i62:Int) (b63:Bool) (i65:Int) (l66:List Int) (l67:List Int) (l68:List Int) (l69:List (List Int)) (l70:List Int) (l71:List Int)
def lx:ac→AE×aH
  | .r0 b22 a23 a24 i25 i26 i27 l28 a29 i30 i31 b32 i33 a34 l35 l36 l37 l38 l39 l40=>(.ret,⟨ax 164 [(4,.bool false b22)],[(0,.vs [.sl 1 6 6 0 a23 a24,.int .i64 i25,.int .i64 i26,.int .i64 i27,.imm (.up .free) (.ns .u64 l28) 1 1 0 a29,.int .i64 i30,.int .u64 i31,.bool false b32,.int .i64 i33]),(1,.cols a34 [.ci .i64 l35,.ci .i64 l36,.ci .i64 l37,.cns .u64 l38,.ci .i64 l39,.ci .u64 l40])],2⟩)
  | .r1 b41 a42 a43 i44 i45 b46 a47 l48 l49 l50 l51 l52 l53=>(.ret,⟨ax 164 [(4,.bool false b41)],[(0,.vs [.sl 1 6 6 0 a42 a43,.int .i64 (0:Int),.int .i64 i44,.int .i64 i45,.nsl,.int .i64 (0:Int),.int .u64 (0:Int),.bool false b46,.int .i64 (0:Int)]),(1,.cols a47 [.ci .i64 l48,.ci .i64 l49,.ci .i64 l50,.cns .u64 l51,.ci .i64 l52,.ci .u64 l53])],2⟩)
  | .r2 b54 a55 i56 i57 i58 l59 a60 i61 i62 b63 i65 l66 l67 l68 l69 l70 l71=>(.ret,⟨ax 164 [(4,.bool false b54)],[(0,.vs [.sl 2 6 6 0 a55 a55,.int .i64 i56,.int .i64 i57,.int .i64 i58,.imm (.up .free) (.ns .u64 l59) 1 1 0 a60,.int .i64 i61,.int .u64 i62,.bool false b63,.int .i64 i65]),(2,.cols a55 [.ci .i64 l66,.ci .i64 l67,.ci .i64 l68,.cns .u64 l69,.ci .i64 l70,.ci .u64 l71])],3⟩)
theorem aZ:sC lx:=by intro x;cases x<;>(intro h;cases h)
theorem wE(id:Nat) :rx id lx:=by intro x;cases x<;>(intro h;cases h)
def ei:ac→nu
  | .r0 b22 a23 a24 i25 i26 i27 l28 a29 i30 i31 b32 i33 a34 l35 l36 l37 l38 l39 l40=>⟨.bool false b22,[some (.vs [.sl 1 6 6 0 a23 a24,.int .i64 i25,.int .i64 i26,.int .i64 i27,.imm (.up .free) (.ns .u64 l28) 1 1 0 a29,.int .i64 i30,.int .u64 i31,.bool false b32,.int .i64 i33]),some (.cols a34 [.ci .i64 l35,.ci .i64 l36,.ci .i64 l37,.cns .u64 l38,.ci .i64 l39,.ci .u64 l40])]⟩
  | .r1 b41 a42 a43 i44 i45 b46 a47 l48 l49 l50 l51 l52 l53=>⟨.bool false b41,[some (.vs [.sl 1 6 6 0 a42 a43,.int .i64 (0:Int),.int .i64 i44,.int .i64 i45,.nsl,.int .i64 (0:Int),.int .u64 (0:Int),.bool false b46,.int .i64 (0:Int)]),some (.cols a47 [.ci .i64 l48,.ci .i64 l49,.ci .i64 l50,.cns .u64 l51,.ci .i64 l52,.ci .u64 l53])]⟩
  | .r2 b54 a55 i56 i57 i58 l59 a60 i61 i62 b63 i65 l66 l67 l68 l69 l70 l71=>⟨.bool false b54,[some (.vs [.sl 2 6 6 0 a55 a55,.int .i64 i56,.int .i64 i57,.int .i64 i58,.imm (.up .free) (.ns .u64 l59) 1 1 0 a60,.int .i64 i61,.int .u64 i62,.bool false b63,.int .i64 i65]),none,some (.cols a55 [.ci .i64 l66,.ci .i64 l67,.ci .i64 l68,.cns .u64 l69,.ci .i64 l70,.ci .u64 l71])]⟩
noncomputable def va:List Code:=dk (uD bE)
def wF(n_0:Nat)(c_1:Nat)(i_2:Int)(i_3:Int)(i_4:Int)(w_5:List Int)(i_6:Int)(i_7:Int)(b_8:Bool)(i_9:Int)(n_10:Nat)(l_11:List Int)(l_12:List Int)(l_13:List Int)(l_14:List (List Int))(l_15:List Int)(l_16:List Int)(s_17:ByteArray)(_:Unit) :aH:=⟨ax 164 [(0,.ptr 0 1 0 0),(1,.str s_17)],[(0,.vs [.sl 1 6 6 0 n_0 c_1,.int .i64 i_2,.int .i64 i_3,.int .i64 i_4,.imm (.up .free) (.ns .u64 w_5) 1 1 0 (List.length w_5),.int .i64 i_6,.int .u64 i_7,.bool false b_8,.int .i64 i_9]),(1,.cols n_10 [.ci .i64 l_11,.ci .i64 l_12,.ci .i64 l_13,.cns .u64 l_14,.ci .i64 l_15,.ci .u64 l_16])],2⟩
def vb:T ((Unit)⊕(ac)) :=
  .leaf (.inl ())
def oC(n_0:Nat)(c_1:Nat)(i_2:Int)(i_3:Int)(i_4:Int)(w_5:List Int)(i_6:Int)(i_7:Int)(b_8:Bool)(i_9:Int)(n_10:Nat)(l_11:List Int)(l_12:List Int)(l_13:List Int)(l_14:List (List Int))(l_15:List Int)(l_16:List Int)(s_17:ByteArray)(_:Unit) :aH:=⟨ax 164 [(0,.ptr 0 1 0 0),(1,.str s_17)],[(0,.vs [.sl 1 6 6 0 n_0 c_1,.int .i64 i_2,.int .i64 i_3,.int .i64 i_4,.imm (.up .free) (.ns .u64 w_5) 1 1 0 (List.length w_5),.int .i64 i_6,.int .u64 i_7,.bool false b_8,.int .i64 i_9]),(1,.cols n_10 [.ci .i64 l_11,.ci .i64 l_12,.ci .i64 l_13,.cns .u64 l_14,.ci .i64 l_15,.ci .u64 l_16])],2⟩
noncomputable def jQ:List Code:=dk (inBlock ((((va.drop 1).take 1)).headD .skip))
def wG(n_0:Nat)(c_1:Nat)(i_2:Int)(i_3:Int)(i_4:Int)(w_5:List Int)(i_6:Int)(i_7:Int)(b_8:Bool)(i_9:Int)(n_10:Nat)(l_11:List Int)(l_12:List Int)(l_13:List Int)(l_14:List (List Int))(l_15:List Int)(l_16:List Int)(s_17:ByteArray)(b1:Bool) :aH:=⟨ax 164 [(0,.ptr 0 1 0 0),(1,.str s_17),(10,.bool false b1)],[(0,.vs [.sl 1 6 6 0 n_0 c_1,.int .i64 i_2,.int .i64 i_3,.int .i64 i_4,.imm (.up .free) (.ns .u64 w_5) 1 1 0 (List.length w_5),.int .i64 i_6,.int .u64 i_7,.bool false b_8,.int .i64 i_9]),(1,.cols n_10 [.ci .i64 l_11,.ci .i64 l_12,.ci .i64 l_13,.cns .u64 l_14,.ci .i64 l_15,.ci .u64 l_16])],2⟩
def vc(b_8:Bool) :T ((Bool)⊕((Unit)⊕(ac))) :=
  .leaf (.inl (!b_8))
def oD(n_0:Nat)(c_1:Nat)(i_2:Int)(i_3:Int)(i_4:Int)(w_5:List Int)(i_6:Int)(i_7:Int)(b_8:Bool)(i_9:Int)(n_10:Nat)(l_11:List Int)(l_12:List Int)(l_13:List Int)(l_14:List (List Int))(l_15:List Int)(l_16:List Int)(s_17:ByteArray)(_:Unit) :aH:=⟨ax 164 [(0,.ptr 0 1 0 0),(1,.str s_17)],[(0,.vs [.sl 1 6 6 0 n_0 c_1,.int .i64 i_2,.int .i64 i_3,.int .i64 i_4,.imm (.up .free) (.ns .u64 w_5) 1 1 0 (List.length w_5),.int .i64 i_6,.int .u64 i_7,.bool false b_8,.int .i64 i_9]),(1,.cols n_10 [.ci .i64 l_11,.ci .i64 l_12,.ci .i64 l_13,.cns .u64 l_14,.ci .i64 l_15,.ci .u64 l_16])],2⟩
def wH(n_0:Nat)(c_1:Nat)(i_2:Int)(i_3:Int)(i_4:Int)(w_5:List Int)(i_6:Int)(i_7:Int)(b_8:Bool)(i_9:Int)(n_10:Nat)(l_11:List Int)(l_12:List Int)(l_13:List Int)(l_14:List (List Int))(l_15:List Int)(l_16:List Int)(s_17:ByteArray) :(List ByteArray)×Nat→aH:=fun (w2,w3)=>⟨ax 164 [(0,.ptr 0 1 0 0),(1,.str s_17),(5,.imm .free (.ss w2) 1 1 0 w3)],[(0,.vs [.sl 1 6 6 0 n_0 c_1,.int .i64 i_2,.int .i64 i_3,.int .i64 i_4,.imm (.up .free) (.ns .u64 w_5) 1 1 0 (List.length w_5),.int .i64 i_6,.int .u64 i_7,.bool false b_8,.int .i64 i_9]),(1,.cols n_10 [.ci .i64 l_11,.ci .i64 l_12,.ci .i64 l_13,.cns .u64 l_14,.ci .i64 l_15,.ci .u64 l_16])],2⟩
def jR(s_17:ByteArray) :T (((List ByteArray)×Nat)⊕((Unit)⊕(ac))) :=
  .need (ef (bL s_17 (ByteArray.mk #[32])))<|.leaf (.inl ((eG (bL s_17 (ByteArray.mk #[32]))),(eF (bL s_17 (ByteArray.mk #[32])))))
def wI(n_0:Nat)(c_1:Nat)(n_10:Nat)(l_11:List Int)(l_12:List Int)(l_13:List Int)(l_14:List (List Int))(l_15:List Int)(l_16:List Int) :Bool×Int×Int×Bool→aH:=fun (b4,i5,i6,b7)=>⟨ax 164 [(4,.bool false b4)],[(0,.vs [.sl 1 6 6 0 n_0 c_1,.int .i64 (0:Int),.int .i64 i5,.int .i64 i6,.nsl,.int .i64 (0:Int),.int .u64 (0:Int),.bool false b7,.int .i64 (0:Int)]),(1,.cols n_10 [.ci .i64 l_11,.ci .i64 l_12,.ci .i64 l_13,.cns .u64 l_14,.ci .i64 l_15,.ci .u64 l_16])],2⟩
def eH(n_0:Nat)(c_1:Nat)(i_2:Int)(i_3:Int)(i_4:Int)(w_5:List Int)(i_6:Int)(i_7:Int)(b_8:Bool)(i_9:Int)(n_10:Nat)(l_11:List Int)(l_12:List Int)(l_13:List Int)(l_14:List (List Int))(l_15:List Int)(l_16:List Int)(s_17:ByteArray)(w2:List ByteArray)(w3:Nat) :T ((Bool×Int×Int×Bool)⊕((Unit)⊕(ac))) :=
  .ask (((w3:Nat):Int) != (3:Int))
    (.leaf (.inr (.inr (.r0 false n_0 c_1 i_2 i_3 i_4 w_5 (List.length w_5) i_6 i_7 b_8 i_9 n_10 l_11 l_12 l_13 l_14 l_15 l_16))))
    (.need (qW (1:Int) w3)<|.need (dn 1 (List.length w2))<|.need (em (List.getD w2 1 ByteArray.empty).size)<|.need (qW (2:Int) w3)<|.need (dn 2 (List.length w2))<|.need (em (List.getD w2 2 ByteArray.empty).size)<|.need (dx (bM (cV (List.getD w2 1 ByteArray.empty))))<|.ask (dl (bM (cV (List.getD w2 1 ByteArray.empty))))
      (.need (dx (bM (cV (List.getD w2 2 ByteArray.empty))))<|.ask (dl (bM (cV (List.getD w2 2 ByteArray.empty))))
        (.need (fF (di (cV (List.getD w2 1 ByteArray.empty)) (cV (List.getD w2 2 ByteArray.empty))))<|.leaf (.inl (((gT (di (cV (List.getD w2 1 ByteArray.empty)) (cV (List.getD w2 2 ByteArray.empty)))).toList==s_17.toList),(cV (List.getD w2 1 ByteArray.empty)),(cV (List.getD w2 2 ByteArray.empty)),true)))
        (.leaf (.inl (false,(cV (List.getD w2 1 ByteArray.empty)),(cV (List.getD w2 2 ByteArray.empty)),true))))
      (.leaf (.inl (false,(cV (List.getD w2 1 ByteArray.empty)),(cV (List.getD w2 2 ByteArray.empty)),true))))
def ve(n_0:Nat)(c_1:Nat)(n_10:Nat)(l_11:List Int)(l_12:List Int)(l_13:List Int)(l_14:List (List Int))(l_15:List Int)(l_16:List Int)(b4:Bool)(i5:Int)(i6:Int)(b7:Bool) :T ((Unit)⊕((Unit)⊕(ac))) :=
  .leaf (.inr (.inr (.r1 b4 n_0 c_1 i5 i6 b7 n_10 l_11 l_12 l_13 l_14 l_15 l_16)))
def wJ(n_0:Nat)(c_1:Nat)(i_2:Int)(i_3:Int)(i_4:Int)(w_5:List Int)(i_6:Int)(i_7:Int)(b_8:Bool)(i_9:Int)(n_10:Nat)(l_11:List Int)(l_12:List Int)(l_13:List Int)(l_14:List (List Int))(l_15:List Int)(l_16:List Int)(s_17:ByteArray)(b8:Bool) :aH:=⟨ax 164 [(0,.ptr 0 1 0 0),(1,.str s_17),(68,.bool false b8)],[(0,.vs [.sl 1 6 6 0 n_0 c_1,.int .i64 i_2,.int .i64 i_3,.int .i64 i_4,.imm (.up .free) (.ns .u64 w_5) 1 1 0 (List.length w_5),.int .i64 i_6,.int .u64 i_7,.bool false b_8,.int .i64 i_9]),(1,.cols n_10 [.ci .i64 l_11,.ci .i64 l_12,.ci .i64 l_13,.cns .u64 l_14,.ci .i64 l_15,.ci .u64 l_16])],2⟩
def jS(i_3:Int)(i_4:Int)(i_9:Int) :T ((Bool)⊕((Unit)⊕(ac))) :=
  .ask (decide (i_9<i_3))
    (.leaf (.inl (decide (i_4>(0:Int)))))
    (.leaf (.inl false))
def vf(s_17:ByteArray)(b8:Bool) :T ((Unit)⊕((Unit)⊕(ac))) :=
  .ask b8
    (.alt 0
      (.need (cQ s_17)<|.need (em s_17.size)<|.fail)
      (.alt 1
        (.need (!cQ s_17)<|.need (em s_17.size)<|.fail)
        (.fail)))
    (.leaf (.inl ()))
def vg:T ((Unit)⊕((Unit)⊕(ac))) :=
  .leaf (.inl ())
def wK(n_0:Nat)(c_1:Nat)(i_2:Int)(i_3:Int)(i_4:Int)(w_5:List Int)(i_6:Int)(i_7:Int)(b_8:Bool)(i_9:Int)(n_10:Nat)(l_11:List Int)(l_12:List Int)(l_13:List Int)(l_14:List (List Int))(l_15:List Int)(l_16:List Int) :Nat×Int×Int×Int→aH:=fun (e9,i10,i11,i12)=>⟨ax 164 [(0,.ptr 0 1 0 0),(8,.ptr 2 1 0 0),(9,.int .i64 ((e9:Nat):Int))],[(0,.vs [.sl 1 6 6 0 n_0 c_1,.int .i64 i_2,.int .i64 i_3,.int .i64 i_4,.imm (.up .free) (.ns .u64 w_5) 1 1 0 (List.length w_5),.int .i64 i_6,.int .u64 i_7,.bool false b_8,.int .i64 i_9]),(1,.cols n_10 [.ci .i64 l_11,.ci .i64 l_12,.ci .i64 l_13,.cns .u64 l_14,.ci .i64 l_15,.ci .u64 l_16]),(2,.vs [.int .i64 i10,.int .i64 (0:Int),.int .i64 (0:Int),.nsl,.int .i64 i11,.int .u64 i12])],3⟩
def jT(s_17:ByteArray) :T ((Nat×Int×Int×Int)⊕(ac)) :=
  .need (ed (aS s_17))<|.leaf (.inl ((eA (aS s_17)),(eB (aS s_17)),(eC (aS s_17)),(eD (aS s_17))))
def vh(i_2:Int)(i_3:Int)(i_4:Int)(w_5:List Int)(i_6:Int)(i_7:Int)(i_9:Int) :Bool×Nat×Bool×(List Int)×(List Int)×(List Int)×(List (List Int))×(List Int)×(List Int)→aH:=fun (b13,a14,b15,l16,l17,l18,l19,l20,l21)=>⟨ax 164 [(4,.bool false b13)],[(0,.vs [.sl 2 6 6 0 a14 a14,.int .i64 i_2,.int .i64 i_3,.int .i64 i_4,.imm (.up .free) (.ns .u64 w_5) 1 1 0 (List.length w_5),.int .i64 i_6,.int .u64 i_7,.bool false b15,.int .i64 i_9]),(2,.cols a14 [.ci .i64 l16,.ci .i64 l17,.ci .i64 l18,.cns .u64 l19,.ci .i64 l20,.ci .u64 l21])],3⟩
def jU(n_0:Nat)(i_3:Int)(i_4:Int)(w_5:List Int)(n_10:Nat)(l_11:List Int)(l_12:List Int)(l_13:List Int)(l_14:List (List Int))(l_15:List Int)(l_16:List Int)(e9:Nat)(i10:Int)(i11:Int)(i12:Int) :T ((Bool×Nat×Bool×(List Int)×(List Int)×(List Int)×(List (List Int))×(List Int)×(List Int))⊕(ac)) :=
  .need (nY ((n_0+1)*64) 140737488355328)<|.need (nY (n_0+1) 9223372036854775807)<|.need (nY 6 6)<|.need (nY n_0 n_10)<|.need (decide (0+(List.length w_5)≤List.length w_5))<|.ask (((e9:Nat):Int)==(0:Int))
    (.need (mr 0 (List.length w_5) w_5)<|.need (lH (kx i10 i_3 i_4 (aC 0 (List.length w_5) w_5) i11 i12))<|.leaf (.inl ((my (kx i10 i_3 i_4 (aC 0 (List.length w_5) w_5) i11 i12)),(n_0+1),false,((List.take n_0 l_11)++[i10]),((List.take n_0 l_12)++[i_3]),((List.take n_0 l_13)++[i_4]),((List.take n_0 l_14)++[(List.take (List.length w_5) (List.drop 0 w_5))]),((List.take n_0 l_15)++[i11]),((List.take n_0 l_16)++[i12]))))
    (.leaf (.inl (false,(n_0+1),false,((List.take n_0 l_11)++[i10]),((List.take n_0 l_12)++[i_3]),((List.take n_0 l_13)++[i_4]),((List.take n_0 l_14)++[(List.take (List.length w_5) (List.drop 0 w_5))]),((List.take n_0 l_15)++[i11]),((List.take n_0 l_16)++[i12]))))
def vi(i_2:Int)(i_3:Int)(i_4:Int)(w_5:List Int)(i_6:Int)(i_7:Int)(i_9:Int)(b13:Bool)(a14:Nat)(b15:Bool)(l16:List Int)(l17:List Int)(l18:List Int)(l19:List (List Int))(l20:List Int)(l21:List Int) :T ((Empty)⊕(ac)) :=
  .leaf (.inr (.r2 b13 a14 i_2 i_3 i_4 w_5 (List.length w_5) i_6 i_7 b15 i_9 l16 l17 l18 l19 l20 l21))
noncomputable def bz(n_0:Nat)(c_1:Nat)(i_2:Int)(i_3:Int)(i_4:Int)(w_5:List Int)(i_6:Int)(i_7:Int)(b_8:Bool)(i_9:Int)(n_10:Nat)(l_11:List Int)(l_12:List Int)(l_13:List Int)(l_14:List (List Int))(l_15:List Int)(l_16:List Int)(s_17:ByteArray) :Option ac:=yF (bj ((vb).run) fun _ =>
  bj (tJ (bj ((vc b_8).run) fun b1 =>
  bj ((bif b1 then bj ((jR s_17).run) fun (w2,w3) =>
  bj ((eH n_0 c_1 i_2 i_3 i_4 w_5 i_6 i_7 b_8 i_9 n_10 l_11 l_12 l_13 l_14 l_15 l_16 s_17 w2 w3).run) fun (b4,i5,i6,b7) =>
  (ve n_0 c_1 n_10 l_11 l_12 l_13 l_14 l_15 l_16 b4 i5 i6 b7).run else bj ((jS i_3 i_4 i_9).run) fun b8 =>
  (vf s_17 b8).run)) fun _ =>
  (vg).run)) fun _ =>
  bj ((jT s_17).run) fun (e9,i10,i11,i12) =>
  bj ((jU n_0 i_3 i_4 w_5 n_10 l_11 l_12 l_13 l_14 l_15 l_16 e9 i10 i11 i12).run) fun (b13,a14,b15,l16,l17,l18,l19,l20,l21) =>
  (vi i_2 i_3 i_4 w_5 i_6 i_7 i_9 b13 a14 b15 l16 l17 l18 l19 l20 l21).run)
theorem kI(n_0:Nat)(c_1:Nat)(i_2:Int)(i_3:Int)(i_4:Int)(w_5:List Int)(i_6:Int)(i_7:Int)(b_8:Bool)(i_9:Int)(n_10:Nat)(l_11:List Int)(l_12:List Int)(l_13:List Int)(l_14:List (List Int))(l_15:List Int)(l_16:List Int)(s_17:ByteArray){x:ac}(h:bz n_0 c_1 i_2 i_3 i_4 w_5 i_6 i_7 b_8 i_9 n_10 l_11 l_12 l_13 l_14 l_15 l_16 s_17=some x) :am prog bE [.vs [.sl 1 6 6 0 n_0 c_1,.int .i64 i_2,.int .i64 i_3,.int .i64 i_4,.imm (.up .free) (.ns .u64 w_5) 1 1 0 (List.length w_5),.int .i64 i_6,.int .u64 i_7,.bool false b_8,.int .i64 i_9],.cols n_10 [.ci .i64 l_11,.ci .i64 l_12,.ci .i64 l_13,.cns .u64 l_14,.ci .i64 l_15,.ci .u64 l_16]] [.ptr 0 1 0 0,.str s_17] (ei x) :=
  B3 false ei lx h (Sg.cut 1 aZ (dt aw (wF n_0 c_1 i_2 i_3 i_4 w_5 i_6 i_7 b_8 i_9 n_10 l_11 l_12 l_13 l_14 l_15 l_16 s_17) [⟨[],[0,1],[0,1]⟩]) (fun _=>Sg.cut 1 aZ (NW (oC n_0 c_1 i_2 i_3 i_4 w_5 i_6 i_7 b_8 i_9 n_10 l_11 l_12 l_13 l_14 l_15 l_16 s_17) 0 aZ (wE _) (Sg.cut 1 (dI aZ) (dt aw (wG n_0 c_1 i_2 i_3 i_4 w_5 i_6 i_7 b_8 i_9 n_10 l_11 l_12 l_13 l_14 l_15 l_16 s_17) [⟨[],[0,1],[0,1,10]⟩]) (fun b1=>Sg.cut 1 (dI aZ) (sE (c:=.tmp 10) (kn:=false) (b:=b1) (by kernel_rfl:((jQ.drop 1).take 1)=[.cond (.tmp 10) (AT ((((jQ.drop 1).take 1)).headD .skip)) (Ei ((((jQ.drop 1).take 1)).headD .skip))]) (dI aZ) (by kernel_rfl) (Sg.cut 1 (dI aZ) (dt aw (wH n_0 c_1 i_2 i_3 i_4 w_5 i_6 i_7 b_8 i_9 n_10 l_11 l_12 l_13 l_14 l_15 l_16 s_17) [⟨[],[0,1],[0,1,5]⟩]) (fun ⟨w2,w3⟩=>Sg.cut 4 (dI aZ) (dt aw (wI n_0 c_1 n_10 l_11 l_12 l_13 l_14 l_15 l_16) [⟨[],[0,1],[4]⟩,⟨[],[0,1],[4]⟩,⟨[],[0,1],[4]⟩,⟨[],[0,1],[4]⟩]) (fun ⟨b4,i5,i6,b7⟩=>dt aw (oD n_0 c_1 i_2 i_3 i_4 w_5 i_6 i_7 b_8 i_9 n_10 l_11 l_12 l_13 l_14 l_15 l_16 s_17) [⟨[],[0,1],[4]⟩]))) (Sg.cut 1 (dI aZ) (dt aw (wJ n_0 c_1 i_2 i_3 i_4 w_5 i_6 i_7 b_8 i_9 n_10 l_11 l_12 l_13 l_14 l_15 l_16 s_17) [⟨[],[0,1],[0,1,68]⟩,⟨[],[0,1],[0,1,68]⟩]) (fun b8=>dt aw (oD n_0 c_1 i_2 i_3 i_4 w_5 i_6 i_7 b_8 i_9 n_10 l_11 l_12 l_13 l_14 l_15 l_16 s_17) [⟨[],[0,1],[0,1]⟩]))) (fun _=>dt aw (oC n_0 c_1 i_2 i_3 i_4 w_5 i_6 i_7 b_8 i_9 n_10 l_11 l_12 l_13 l_14 l_15 l_16 s_17) [⟨[],[0,1],[0,1]⟩])))) (fun _=>Sg.cut 1 aZ (dt aw (wK n_0 c_1 i_2 i_3 i_4 w_5 i_6 i_7 b_8 i_9 n_10 l_11 l_12 l_13 l_14 l_15 l_16) [⟨[],[0,1,82],[0,8,9]⟩]) (fun ⟨e9,i10,i11,i12⟩=>Sg.cut 3 aZ (dt aw (vh i_2 i_3 i_4 w_5 i_6 i_7 i_9) [⟨[],[0,1,467],[4]⟩,⟨[],[0,1,467],[4]⟩]) (fun ⟨b13,a14,b15,l16,l17,l18,l19,l20,l21⟩=>dt aw yG [⟨[],[0,1,2],[4]⟩])))))
    (fun x=>by cases x with | r0 b22 a23 a24 i25 i26 i27 l28 a29 i30 i31 b32 i33 a34 l35 l36 l37 l38 l39 l40=>exact sF [.bool false b22] | r1 b41 a42 a43 i44 i45 b46 a47 l48 l49 l50 l51 l52 l53=>exact sF [.bool false b41] | r2 b54 a55 i56 i57 i58 l59 a60 i61 i62 b63 i65 l66 l67 l68 l69 l70 l71=>exact sF [.bool false b54])
def fq:Option ac→Bool
  | some (.r0 _ _ _ _ _ _ _ _ _ _ _ _ _ _ _ _ _ _ _)=>true
  | _=>false
def da:Option ac→Bool
  | some (.r0 x _ _ _ _ _ _ _ _ _ _ _ _ _ _ _ _ _ _)=>x
  | _=>false
def iM:Option ac→Nat
  | some (.r0 _ x _ _ _ _ _ _ _ _ _ _ _ _ _ _ _ _ _)=>x
  | _=>0
def iN:Option ac→Nat
  | some (.r0 _ _ x _ _ _ _ _ _ _ _ _ _ _ _ _ _ _ _)=>x
  | _=>0
def iO:Option ac→Int
  | some (.r0 _ _ _ x _ _ _ _ _ _ _ _ _ _ _ _ _ _ _)=>x
  | _=>0
def iP:Option ac→Int
  | some (.r0 _ _ _ _ x _ _ _ _ _ _ _ _ _ _ _ _ _ _)=>x
  | _=>0
def iQ:Option ac→Int
  | some (.r0 _ _ _ _ _ x _ _ _ _ _ _ _ _ _ _ _ _ _)=>x
  | _=>0
def iR:Option ac→List Int
  | some (.r0 _ _ _ _ _ _ x _ _ _ _ _ _ _ _ _ _ _ _)=>x
  | _=>[]
def iS:Option ac→Nat
  | some (.r0 _ _ _ _ _ _ _ x _ _ _ _ _ _ _ _ _ _ _)=>x
  | _=>0
def iT:Option ac→Int
  | some (.r0 _ _ _ _ _ _ _ _ x _ _ _ _ _ _ _ _ _ _)=>x
  | _=>0
def iU:Option ac→Int
  | some (.r0 _ _ _ _ _ _ _ _ _ x _ _ _ _ _ _ _ _ _)=>x
  | _=>0
def gl:Option ac→Bool
  | some (.r0 _ _ _ _ _ _ _ _ _ _ x _ _ _ _ _ _ _ _)=>x
  | _=>false
def gn:Option ac→Int
  | some (.r0 _ _ _ _ _ _ _ _ _ _ _ x _ _ _ _ _ _ _)=>x
  | _=>0
def gp:Option ac→Nat
  | some (.r0 _ _ _ _ _ _ _ _ _ _ _ _ x _ _ _ _ _ _)=>x
  | _=>0
def gq:Option ac→List Int
  | some (.r0 _ _ _ _ _ _ _ _ _ _ _ _ _ x _ _ _ _ _)=>x
  | _=>[]
def gr:Option ac→List Int
  | some (.r0 _ _ _ _ _ _ _ _ _ _ _ _ _ _ x _ _ _ _)=>x
  | _=>[]
def gu:Option ac→List Int
  | some (.r0 _ _ _ _ _ _ _ _ _ _ _ _ _ _ _ x _ _ _)=>x
  | _=>[]
def gv:Option ac→List (List Int)
  | some (.r0 _ _ _ _ _ _ _ _ _ _ _ _ _ _ _ _ x _ _)=>x
  | _=>[]
def gw:Option ac→List Int
  | some (.r0 _ _ _ _ _ _ _ _ _ _ _ _ _ _ _ _ _ x _)=>x
  | _=>[]
def gz:Option ac→List Int
  | some (.r0 _ _ _ _ _ _ _ _ _ _ _ _ _ _ _ _ _ _ x)=>x
  | _=>[]
theorem wL{x:Option ac}(h:fq x=true) :x=some (.r0 (da x) (iM x) (iN x) (iO x) (iP x) (iQ x) (iR x) (iS x) (iT x) (iU x) (gl x) (gn x) (gp x) (gq x) (gr x) (gu x) (gv x) (gw x) (gz x)):=by
  unfold fq at h
  split at h<;>first | rfl | (cases h;done) | (rename_i y;cases y;rfl)
def fu:Option ac→Bool
  | some (.r1 _ _ _ _ _ _ _ _ _ _ _ _ _)=>true
  | _=>false
def db:Option ac→Bool
  | some (.r1 x _ _ _ _ _ _ _ _ _ _ _ _)=>x
  | _=>false
def iV:Option ac→Nat
  | some (.r1 _ x _ _ _ _ _ _ _ _ _ _ _)=>x
  | _=>0
def iW:Option ac→Nat
  | some (.r1 _ _ x _ _ _ _ _ _ _ _ _ _)=>x
  | _=>0
def iX:Option ac→Int
  | some (.r1 _ _ _ x _ _ _ _ _ _ _ _ _)=>x
  | _=>0
def iY:Option ac→Int
  | some (.r1 _ _ _ _ x _ _ _ _ _ _ _ _)=>x
  | _=>0
def iZ:Option ac→Bool
  | some (.r1 _ _ _ _ _ x _ _ _ _ _ _ _)=>x
  | _=>false
def ja:Option ac→Nat
  | some (.r1 _ _ _ _ _ _ x _ _ _ _ _ _)=>x
  | _=>0
def jb:Option ac→List Int
  | some (.r1 _ _ _ _ _ _ _ x _ _ _ _ _)=>x
  | _=>[]
def jc:Option ac→List Int
  | some (.r1 _ _ _ _ _ _ _ _ x _ _ _ _)=>x
  | _=>[]
def jd:Option ac→List Int
  | some (.r1 _ _ _ _ _ _ _ _ _ x _ _ _)=>x
  | _=>[]
def gA:Option ac→List (List Int)
  | some (.r1 _ _ _ _ _ _ _ _ _ _ x _ _)=>x
  | _=>[]
def gB:Option ac→List Int
  | some (.r1 _ _ _ _ _ _ _ _ _ _ _ x _)=>x
  | _=>[]
def gC:Option ac→List Int
  | some (.r1 _ _ _ _ _ _ _ _ _ _ _ _ x)=>x
  | _=>[]
theorem wM{x:Option ac}(h:fu x=true) :x=some (.r1 (db x) (iV x) (iW x) (iX x) (iY x) (iZ x) (ja x) (jb x) (jc x) (jd x) (gA x) (gB x) (gC x)):=by
  unfold fu at h
  split at h<;>first | rfl | (cases h;done) | (rename_i y;cases y;rfl)
def fv:Option ac→Bool
  | some (.r2 _ _ _ _ _ _ _ _ _ _ _ _ _ _ _ _ _)=>true
  | _=>false
def dc:Option ac→Bool
  | some (.r2 x _ _ _ _ _ _ _ _ _ _ _ _ _ _ _ _)=>x
  | _=>false
def dd:Option ac→Nat
  | some (.r2 _ x _ _ _ _ _ _ _ _ _ _ _ _ _ _ _)=>x
  | _=>0
def je:Option ac→Int
  | some (.r2 _ _ x _ _ _ _ _ _ _ _ _ _ _ _ _ _)=>x
  | _=>0
def jf:Option ac→Int
  | some (.r2 _ _ _ x _ _ _ _ _ _ _ _ _ _ _ _ _)=>x
  | _=>0
def jg:Option ac→Int
  | some (.r2 _ _ _ _ x _ _ _ _ _ _ _ _ _ _ _ _)=>x
  | _=>0
def jh:Option ac→List Int
  | some (.r2 _ _ _ _ _ x _ _ _ _ _ _ _ _ _ _ _)=>x
  | _=>[]
def ji:Option ac→Nat
  | some (.r2 _ _ _ _ _ _ x _ _ _ _ _ _ _ _ _ _)=>x
  | _=>0
def jj:Option ac→Int
  | some (.r2 _ _ _ _ _ _ _ x _ _ _ _ _ _ _ _ _)=>x
  | _=>0
def jk:Option ac→Int
  | some (.r2 _ _ _ _ _ _ _ _ x _ _ _ _ _ _ _ _)=>x
  | _=>0
def jl:Option ac→Bool
  | some (.r2 _ _ _ _ _ _ _ _ _ x _ _ _ _ _ _ _)=>x
  | _=>false
def gD:Option ac→Int
  | some (.r2 _ _ _ _ _ _ _ _ _ _ x _ _ _ _ _ _)=>x
  | _=>0
def gE:Option ac→List Int
  | some (.r2 _ _ _ _ _ _ _ _ _ _ _ x _ _ _ _ _)=>x
  | _=>[]
def gF:Option ac→List Int
  | some (.r2 _ _ _ _ _ _ _ _ _ _ _ _ x _ _ _ _)=>x
  | _=>[]
def gG:Option ac→List Int
  | some (.r2 _ _ _ _ _ _ _ _ _ _ _ _ _ x _ _ _)=>x
  | _=>[]
def gH:Option ac→List (List Int)
  | some (.r2 _ _ _ _ _ _ _ _ _ _ _ _ _ _ x _ _)=>x
  | _=>[]
def gI:Option ac→List Int
  | some (.r2 _ _ _ _ _ _ _ _ _ _ _ _ _ _ _ x _)=>x
  | _=>[]
def gJ:Option ac→List Int
  | some (.r2 _ _ _ _ _ _ _ _ _ _ _ _ _ _ _ _ x)=>x
  | _=>[]
theorem wN{x:Option ac}(h:fv x=true) :x=some (.r2 (dc x) (dd x) (je x) (jf x) (jg x) (jh x) (ji x) (jj x) (jk x) (jl x) (gD x) (gE x) (gF x) (gG x) (gH x) (gI x) (gJ x)):=by
  unfold fv at h
  split at h<;>first | rfl | (cases h;done) | (rename_i y;cases y;rfl)
def mK(q:Option ac)(pre:List Bool) :List pU:=[⟨ei (.r0 (da q) (iM q) (iN q) (iO q) (iP q) (iQ q) (iR q) (iS q) (iT q) (iU q) (gl q) (gn q) (gp q) (gq q) (gr q) (gu q) (gv q) (gw q) (gz q)),pre++[fq q]⟩,
  ⟨ei (.r1 (db q) (iV q) (iW q) (iX q) (iY q) (iZ q) (ja q) (jb q) (jc q) (jd q) (gA q) (gB q) (gC q)),pre++[fu q]⟩,
  ⟨ei (.r2 (dc q) (dd q) (je q) (jf q) (jg q) (jh q) (ji q) (jj q) (jk q) (jl q) (gD q) (gE q) (gF q) (gG q) (gH q) (gI q) (gJ q)),pre++[fv q]⟩]
def Hi:aU:=⟨bE,fun lent args=>match args with
  | [.ptr 0 1 0 0,.str s]=>match lent with
    | [.vs [.sl 1 6 6 0 n c,.int .i64 k,.int .i64 m,.int .i64 nn,.imm (.up .free) (.ns .u64 w) 1 1 0 nw,.int .i64 y,.int .u64 t,.bool false on,.int .i64 row],.cols nc [.ci .i64 ks,.ci .i64 ms,.ci .i64 ns,.cns .u64 wss,.ci .i64 ys,.ci .u64 ts]] =>
      some (mK (bz n c k m nn w y t on row nc ks ms ns wss ys ts s) [Nat.beq nw w.length])
    | [.vs [.sl 1 6 6 0 n c,.int .i64 k,.int .i64 m,.int .i64 nn,.sl 2 1 1 0 nw cw,.int .i64 y,.int .u64 t,.bool false on,.int .i64 row],.cols nc [.ci .i64 ks,.ci .i64 ms,.ci .i64 ns,.cns .u64 wss,.ci .i64 ys,.ci .u64 ts],.ns .u64 ws] =>
      some (mJ (dm n c k m nn nw cw y t on row nc ks ms ns wss ys ts ws s) [])
    | _=>none
  | _=>none⟩
theorem Jd:bc prog Hi:=by
  intro lent args alts a h ha ho
  simp only [Hi] at h
  split at h
  · rename_i s
    split at h
    · rename_i n c k m nn w nw y t on row nc ks ms ns wss ys ts
      cases h
      simp only [mK,List.mem_cons,List.not_mem_nil,or_false] at ha
      rcases ha with rfl | rfl | rfl
      all_goals
        have e:=Nat.eq_of_beq_eq_true ho.1
        subst e
      · exact kI n c k m nn w y t on row nc ks ms ns wss ys ts s (wL ho.2.1)
      · exact kI n c k m nn w y t on row nc ks ms ns wss ys ts s (wM ho.2.1)
      · exact kI n c k m nn w y t on row nc ks ms ns wss ys ts s (wN ho.2.1)
    · rename_i n c k m nn nw cw y t on row nc ks ms ns wss ys ts ws
      cases h
      simp only [mJ,List.mem_cons,List.not_mem_nil,or_false,List.nil_append] at ha
      rcases ha with rfl | rfl | rfl
      · exact kH n c k m nn nw cw y t on row nc ks ms ns wss ys ts ws s (wB ho.1)
      · exact kH n c k m nn nw cw y t on row nc ks ms ns wss ys ts ws s (wC ho.1)
      · exact kH n c k m nn nw cw y t on row nc ks ms ns wss ys ts ws s (wD ho.1)
    · cases h
  · cases h
def N7:List aU:=Hi::oY
theorem vj:bh prog (bA N7):=aB Jd aw
structure RS where
  nl:Nat
  cl:Nat
  k:Int
  m:Int
  nn:Int
  y:Int
  t:Int
  on:Bool
  row:Int
  nc:Nat
  ks:List Int
  ms:List Int
  ns:List Int
  wss:List (List Int)
  ys:List Int
  ts:List Int
inductive EF where
  | off (s:ByteArray) (n:Int) (b:Bool) (r:RS) (w:List Int) (nw:Nat)
  | on (s:ByteArray) (n:Int) (b:Bool) (r:RS) (nw cw:Nat) (ws:List Int)
def Nx(r:RS)(W:AV) :aj:=.vs [.sl 1 6 6 0 r.nl r.cl,.int .i64 r.k,.int .i64 r.m,.int .i64 r.nn,W,.int .i64 r.y,.int .u64 r.t,.bool false r.on,.int .i64 r.row]
def MF(r:RS) :aj:=.cols r.nc [.ci .i64 r.ks,.ci .i64 r.ms,.ci .i64 r.ns,.cns .u64 r.wss,.ci .i64 r.ys,.ci .u64 r.ts]
def pI:EF→aH
  | .off s n b r w nw=>⟨ax 49 [(5,.ptr 0 1 0 0),(6,.int .i64 n),(7,.bool false b),(8,.str s)],[(0,Nx r (.imm .free (.ns .u64 w) 1 1 0 nw)),(1,MF r)],2⟩
  | .on s n b r nw cw ws=>⟨ax 49 [(5,.ptr 0 1 0 0),(6,.int .i64 n),(7,.bool false b),(8,.str s)],[(0,Nx r (.sl 2 1 1 0 nw cw)),(1,MF r),(2,.ns .u64 ws)],3⟩
def KQ:List Code:=dk (H6 (((dk (uD kp)).drop 1).headD .skip))
def Md:List Code:=(KQ.drop 5).take 1
def F1:List Code:=dk (mw (Md.headD .skip))
inductive zw where
  | bad (n:Int) (b:Bool)
  | doff (n:Int) (b:Bool) (r:RS) (w:List Int) (nw:Nat)
  | don (n:Int) (b:Bool) (r:RS)
def pJ:zw→aH
  | .bad n b=>⟨ax 49 [(6,.int .i64 n),(7,.bool false b)],[],0⟩
  | .doff n b r w nw=>⟨ax 49 [(5,.ptr 0 1 0 0),(6,.int .i64 n),(7,.bool false b)],[(0,Nx r (.imm .free (.ns .u64 w) 1 1 0 nw)),(1,MF r)],2⟩
  | .don n b r=>⟨ax 49 [(5,.ptr 0 1 0 0),(6,.int .i64 n),(7,.bool false b)],[(0,Nx r .any),(1,MF r)],2⟩
inductive ao where
  | fail (n e:Int)
  | ok (r:RS)
def cJ:ao→AE×aH
  | .fail n e=>(.ret,⟨ax 49 [(2,.nsl),(3,.int .i64 n),(4,.int .i64 e)],[],0⟩)
  | .ok r=>(.ret,⟨ax 49 [(2,.sl 0 6 6 0 r.nl r.cl),(3,.int .i64 (0:Int)),(4,.int .i64 (0:Int))],[(0,MF r)],1⟩)
theorem eW:sC cJ:=by intro x;cases x<;>(intro h;cases h)
theorem zx(id:Nat) :rx id cJ:=by intro x;cases x<;>(intro h;cases h)
def nS:ao→nu
  | .fail n e=>⟨.tup [.nsl,.int .i64 n,.int .i64 e],[]⟩
  | .ok r=>⟨.tup [.imm .free (MF r) 6 6 0 r.nl,.int .i64 (0:Int),.int .i64 (0:Int)],[]⟩
def BS(n:Int)(c:Option aL)(w:List Int)(nw:Nat)(q:Option ac) :T (EF⊕(zw⊕ao)) :=
        (.alt 0 (.need (Nat.beq nw w.length)<|.need (fq q)<|.ask (!(da q)) (.leaf (.inr (.inl (.bad n (da q))))) (.need (kK .i64 (n+(1:Int)))<|.leaf (.inl (.off (aX c) (n+(1:Int)) (da q) ⟨(iM q),(iN q),(iO q),(iP q),(iQ q),(iT q),(iU q),(gl q),(gn q),(gp q),(gq q),(gr q),(gu q),(gv q),(gw q),(gz q)⟩ (iR q) (iS q)))))
        (.alt 1 (.need (Nat.beq nw w.length)<|.need (fu q)<|.ask (!(db q)) (.leaf (.inr (.inl (.bad n (db q))))) (.need (kK .i64 (n+(1:Int)))<|.leaf (.inl (.on (aX c) (n+(1:Int)) (db q) ⟨(iV q),(iW q),(0:Int),(iX q),(iY q),(0:Int),(0:Int),(iZ q),(0:Int),(ja q),(jb q),(jc q),(jd q),(gA q),(gB q),(gC q)⟩ 0 0 []))))
        (.alt 2 (.need (Nat.beq nw w.length)<|.need (fv q)<|.ask (!(dc q)) (.leaf (.inr (.inl (.bad n (dc q))))) (.need (kK .i64 (n+(1:Int)))<|.leaf (.inl (.off (aX c) (n+(1:Int)) (dc q) ⟨(dd q),(dd q),(je q),(jf q),(jg q),(jj q),(jk q),(jl q),(gD q),(dd q),(gE q),(gF q),(gG q),(gH q),(gI q),(gJ q)⟩ (jh q) (ji q)))))
        .fail)))
def Hj(s:ByteArray)(n:Int)(b:Bool)(r:RS)(w:List Int)(nw:Nat)(c:Option aL) :T (EF⊕(zw⊕ao)) :=
  .ask (!(s.toList==(ByteArray.mk #[]).toList))
    (.need (fI c)<|.ask (hH c)
      (BS n c w nw (bz r.nl r.cl r.k r.m r.nn w r.y r.t r.on r.row r.nc r.ks r.ms r.ns r.wss r.ys r.ts (gZ c)))
      (.leaf (.inr (.inl (.bad n false)))))
    (.leaf (.inr (.inl (.doff n b r w nw))))
def uh(s:ByteArray)(n:Int)(b:Bool)(r:RS)(w:List Int)(nw:Nat) :T (EF⊕(zw⊕ao)):=Hj s n b r w nw (fc s (ByteArray.mk #[10]))
def If(n:Int)(c:Option aL)(q:Option aa) :T (EF⊕(zw⊕ao)) :=
        (.alt 0 (.need (fm q)<|.ask (!(cX q)) (.leaf (.inr (.inl (.bad n (cX q))))) (.need (kK .i64 (n+(1:Int)))<|.leaf (.inl (.on (aX c) (n+(1:Int)) (cX q) ⟨(ii q),(ij q),(ik q),(il q),(im q),(iq q),(ir q),(fJ q),(fK q),(fL q),(fM q),(fN q),(fO q),(fP q),(fQ q),(fR q)⟩ (io q) (ip q) (fS q)))))
        (.alt 1 (.need (fo q)<|.ask (!(cY q)) (.leaf (.inr (.inl (.bad n (cY q))))) (.need (kK .i64 (n+(1:Int)))<|.leaf (.inl (.on (aX c) (n+(1:Int)) (cY q) ⟨(iu q),(iv q),(0:Int),(iw q),(iy q),(0:Int),(0:Int),(iz q),(0:Int),(iA q),(iB q),(iC q),(iD q),(fT q),(fU q),(fV q)⟩ 0 0 []))))
        (.alt 2 (.need (fp q)<|.ask (!(cZ q)) (.leaf (.inr (.inl (.bad n (cZ q))))) (.need (kK .i64 (n+(1:Int)))<|.leaf (.inl (.on (aX c) (n+(1:Int)) (cZ q) ⟨(iE q),(iF q),(iG q),(iH q),(iI q),(iJ q),(iK q),(iL q),(fW q),(fX q),(fY q),(fZ q),(gg q),(gh q),(gi q),(gj q)⟩ (dV q) (dV q) (gk q)))))
        .fail)))
def KR(s:ByteArray)(n:Int)(b:Bool)(r:RS)(nw cw:Nat)(ws:List Int)(c:Option aL) :T (EF⊕(zw⊕ao)) :=
  .ask (!(s.toList==(ByteArray.mk #[]).toList))
    (.need (fI c)<|.ask (hH c)
      (If n c (dm r.nl r.cl r.k r.m r.nn nw cw r.y r.t r.on r.row r.nc r.ks r.ms r.ns r.wss r.ys r.ts ws (gZ c)))
      (.leaf (.inr (.inl (.bad n false)))))
    (.leaf (.inr (.inl (.don n b r))))
def Hk(s:ByteArray)(n:Int)(b:Bool)(r:RS)(nw cw:Nat)(ws:List Int) :T (EF⊕(zw⊕ao)):=KR s n b r nw cw ws (fc s (ByteArray.mk #[10]))
def pB:EF→Option (EF⊕(zw⊕ao))
  | .off s n b r w nw=>(uh s n b r w nw).run
  | .on s n b r nw cw ws=>bif decide (r.row<r.m)&&decide (0<r.nn) then (Hk s n b r nw cw ws).run else (uh s n b r ws nw).run
def M0:RS:=⟨0,0,(0:Int),(0:Int),(0:Int),(0:Int),(0:Int),false,(0:Int),0,[],[],[],[],[],[]⟩
def NY:T (Unit⊕ao):=.leaf (.inl ())
def NZ(s:ByteArray) :T (EF⊕ao) :=
  .ask (decide (((s.size:Nat):Int)>(8388608:Int)))
    (.leaf (.inr (.fail (0:Int) (3:Int))))
    (.leaf (.inl (.off s (0:Int) true M0 [] 0)))
def BT(n:Int)(b:Bool)(r:RS) :T (Empty⊕ao) :=
  .ask (!b) (.leaf (.inr (.fail n (4:Int))))
    (.ask r.on (.leaf (.inr (.fail n (4:Int))))
      (.ask (decide (((r.nl:Nat):Int)>(64:Int))) (.leaf (.inr (.fail (0:Int) (3:Int)))) (.leaf (.inr (.ok r)))))
def Me(n:Int)(b:Bool) :T (Empty⊕ao):=.ask (!b) (.leaf (.inr (.fail n (4:Int)))) .fail
def Ny:zw→Option (Empty⊕ao)
  | .bad n b=>(Me n b).run
  | .doff n b r w nw=>(BT n b r).run
  | .don n b r=>(BT n b r).run
def aq(s:ByteArray) :Option ao:=yF (bj NY.run fun _=>bj (NZ s).run fun a=>bj (dH pB a) Ny)
def N8(s:ByteArray) :Unit→aH:=fun _=>⟨ax 49 [(0,.str s)],[],0⟩
theorem Nn(s:zw) :Sg prog [] (KQ.drop 6) (pJ s) (Ny s) yG cJ:=by
  cases s with
  | bad n b=>exact dt (t:=Me n b) vj yG [⟨[],[],[2,3,4]⟩]
  | doff n b r w nw=>exact dt (t:=BT n b r) vj yG [⟨[],[],[2,3,4]⟩,⟨[],[],[2,3,4]⟩,⟨[],[],[2,3,4]⟩,⟨[],[1],[2,3,4]⟩]
  | don n b r=>exact dt (t:=BT n b r) vj yG [⟨[],[],[2,3,4]⟩,⟨[],[],[2,3,4]⟩,⟨[],[],[2,3,4]⟩,⟨[],[1],[2,3,4]⟩]
theorem No(s:ByteArray)(n:Int)(b:Bool)(r:RS)(w:List Int)(nw:Nat) :Sg prog [] F1 (pI (.off s n b r w nw)) (uh s n b r w nw).run pI (fC 0 pJ cJ) :=
  dt vj pI [⟨[],[],[6,7]⟩,⟨[],[0,1],[5,6,7,8]⟩,⟨[],[],[6,7]⟩,⟨[(.cell 0 4,.own 1 1 (.ns .u64 []))],[0,1,386],[5,6,7,8]⟩,⟨[],[],[6,7]⟩,⟨[],[0,226],[5,6,7,8]⟩,⟨[],[],[6,7]⟩,⟨[],[0,1],[5,6,7]⟩]
theorem N9(s:ByteArray)(n:Int)(b:Bool)(r:RS)(nw cw:Nat)(ws:List Int) :Sg prog [] F1 (pI (.on s n b r nw cw ws)) (Hk s n b r nw cw ws).run pI (fC 0 pJ cJ) :=
  dt vj pI [⟨[],[],[6,7]⟩,⟨[],[0,1,2],[5,6,7,8]⟩,⟨[],[],[6,7]⟩,⟨[(.cell 0 4,.own 1 1 (.ns .u64 []))],[0,1,387],[5,6,7,8]⟩,⟨[],[],[6,7]⟩,⟨[],[0,1,227],[5,6,7,8]⟩,⟨[],[],[6,7]⟩,⟨[],[0,1],[5,6,7]⟩]
theorem Np(s:ByteArray)(n:Int)(b:Bool)(r:RS)(nw cw:Nat)(ws:List Int) :Sg prog [] F1 (pI (.on s n b r nw cw ws)) (uh s n b r ws nw).run pI (fC 0 pJ cJ) :=
  Sg.sub (KP (b:=0) (i:=4) (x:=2)) (Sg.pre ⟨[],[0,1],[5,6,7,8]⟩ rfl (by kernel_rfl:NS.on ⟨[],[0,1],[5,6,7,8]⟩ (Hh (pI (.on s n b r nw cw ws)) 0 4 2)=pI (.off s n b r ws nw)) (No s n b r ws nw))
theorem MG(s:EF) :Sg prog [] F1 (pI s) (pB s) pI (fC 0 pJ cJ):=by
  cases s with
  | off s n b r w nw=>exact No s n b r w nw
  | on s n b r nw cw ws =>
    show Sg prog [] F1 (pI (.on s n b r nw cw ws)) (bif decide (r.row<r.m)&&decide (0<r.nn) then (Hk s n b r nw cw ws).run else (uh s n b r ws nw).run) pI _
    cases decide (r.row<r.m)&&decide (0<r.nn) with
    | true=>exact N9 s n b r nw cw ws
    | false=>exact Np s n b r nw cw ws
theorem qP(s:ByteArray){x:ao}(h:aq s=some x) :am prog kp [] [.str s] (nS x) :=
  B3 true nS cJ h (Sg.cut 1 eW (dt (t:=NY) vj (N8 s) [⟨[],[],[0]⟩]) (fun _=>GX (b:=H6 (((dk (uD kp)).drop 1).headD .skip)) (by kernel_rfl) eW
    (Sg.cut 5 eW (dt (t:=NZ s) vj pI [⟨[],[],[2,3,4]⟩,⟨[(.cell 48 0,.own 6 6 (.cols 0 [.ci .i64 [],.ci .i64 [],.ci .i64 [],.cns .u64 [],.ci .i64 [],.ci .u64 []])),(.cell 48 4,.fre 1 1 (.ns .u64 []))],[48,128],[5,6,7,8]⟩])
      (fun a=>Sg.cut 1 eW (Dg (b:=mw (Md.headD .skip)) (by kernel_rfl) eW (zx _) MG a) (fun e=>Nn e)))))
    (fun x=>by cases x with
      | fail n e=>exact sF [.nsl,.int .i64 n,.int .i64 e]
      | ok r=>exact sF [.sl 0 6 6 0 r.nl r.cl,.int .i64 (0:Int),.int .i64 (0:Int)])
end
end Go.Plb.Seat
namespace Go.Plb.Seat
open Go Go.Plb
set_option linter.unusedVariables false
set_option maxRecDepth 100000
def fx(n:Nat)(ks ms ns:List Int)(wss:List (List Int))(ys ts:List Int) :List jo:=(List.range n).map fun i=>⟨ks.getD i 0,ms.getD i 0,ns.getD i 0,wss.getD i [],ys.getD i 0,ts.getD i 0⟩
theorem wO(n:Nat)(ks ms ns:List Int)(wss:List (List Int))(ys ts:List Int) :(fx n ks ms ns wss ys ts).length=n:=by simp [fx]
theorem MH{ρ:ae}{W:World}{lv:Lv}{d:aj}{k es len:Nat}{u:Value}(h:VR ρ W (.imm lv d k es 0 len) u) :d.recKept:=by
  cases h with
  | imm _ _ _ _ _ _ _ _ _ _ ha hb hc hv hl hr hk hg=>exact hr
  | immEnd _ _ _ _ _ _ _ hr hk hg=>exact hr
theorem Lx{n:Nat}{ks ms ns:List Int}{wss:List (List Int)}{ys ts:List Int}(hr:(aj.cols n [.ci .i64 ks,.ci .i64 ms,.ci .i64 ns,.cns .u64 wss,.ci .i64 ys,.ci .u64 ts]).recKept) :KJ (.cols n [.ci .i64 ks,.ci .i64 ms,.ci .i64 ns,.cns .u64 wss,.ci .i64 ys,.ci .u64 ts]) (fx n ks ms ns wss ys ts):=by
  have h1:ks.length=n:=hr _ (by simp:cp.ci .i64 ks∈_)
  have h2:ms.length=n:=hr _ (by simp:cp.ci .i64 ms∈_)
  have h3:ns.length=n:=hr _ (by simp:cp.ci .i64 ns∈_)
  have h4:wss.length=n:=hr _ (by simp:cp.cns .u64 wss∈_)
  have h5:ys.length=n:=hr _ (by simp:cp.ci .i64 ys∈_)
  have h6:ts.length=n:=hr _ (by simp:cp.ci .u64 ts∈_)
  intro i a hi
  have hlt:i<n:=by
    have:=(List.getElem?_eq_some_iff.1 hi).1
    rwa [wO] at this
  have ha:a=⟨ks.getD i 0,ms.getD i 0,ns.getD i 0,wss.getD i [],ys.getD i 0,ts.getD i 0⟩:=by
    unfold fx at hi
    rw [List.getElem?_map,List.getElem?_range hlt] at hi
    exact (Option.some.inj hi).symm
  subst ha
  have hd:∀ j,j<6→(i*6+j)%6=j∧(i*6+j)/6=i:=fun j hj=>by omega
  have gd:∀ {α:Type} (xs:List α) (d:α),xs.length=n→xs[i]? = some (xs.getD i d):=fun xs d h=>by
    rw [List.getD_eq_getElem?_getD,List.getElem?_eq_getElem (by omega)];rfl
  refine ⟨.free,?_,?_,?_,?_,?_,?_⟩
  · have:=hd 0 (by omega)
    simp only [Nat.add_zero] at this
    simp only [aj.cell?,List.length_cons,List.length_nil,this.1,this.2]
    show (ks[i]?).map _=_
    rw [gd ks 0 h1];rfl
  · simp only [aj.cell?,List.length_cons,List.length_nil,(hd 1 (by omega)).1,(hd 1 (by omega)).2]
    show (ms[i]?).map _=_
    rw [gd ms 0 h2];rfl
  · simp only [aj.cell?,List.length_cons,List.length_nil,(hd 2 (by omega)).1,(hd 2 (by omega)).2]
    show (ns[i]?).map _=_
    rw [gd ns 0 h3];rfl
  · simp only [aj.cell?,List.length_cons,List.length_nil,(hd 3 (by omega)).1,(hd 3 (by omega)).2]
    show (wss[i]?).map _=_
    rw [gd wss [] h4];rfl
  · simp only [aj.cell?,List.length_cons,List.length_nil,(hd 4 (by omega)).1,(hd 4 (by omega)).2]
    show (ys[i]?).map _=_
    rw [gd ys 0 h5];rfl
  · simp only [aj.cell?,List.length_cons,List.length_nil,(hd 5 (by omega)).1,(hd 5 (by omega)).2]
    show (ts[i]?).map _=_
    rw [gd ts 0 h6];rfl
theorem Ly(lv:Lv)(n:Nat)(ks ms ns:List Int)(wss:List (List Int))(ys ts:List Int)(hl:n≤1000000000) :am prog fb [] [.imm lv (.cols n [.ci .i64 ks,.ci .i64 ms,.ci .i64 ns,.cns .u64 wss,.ci .i64 ys,.ci .u64 ts]) 6 6 0 n]
    ⟨.tup [.str (dJ (fx n ks ms ns wss ys ts)),.int .i64 (lX (fx n ks ms ns wss ys ts))],[]⟩:=by
  intro ρ w us hN hv
  have hr:(aj.cols n [.ci .i64 ks,.ci .i64 ms,.ci .i64 ns,.cns .u64 wss,.ci .i64 ys,.ci .u64 ts]).recKept:=by
    cases hv with | cons _ u _ _ h1 h2=>exact MH h1
  have h:=Ia lv _ 6 6 (fx n ks ms ns wss ys ts) (Lx hr) (by rw [wO];exact hl)
  rw [wO] at h
  exact h ρ w us hN hv
noncomputable def Ig:aU:=dG fb (.cons (.cols [.ci .i64,.ci .i64,.ci .i64,.cns .u64,.ci .i64,.ci .u64]) .nil) fun t =>
  [⟨⟨.tup [.str (dJ (fx t.1.2.1 t.1.2.2.1 t.1.2.2.2.1 t.1.2.2.2.2.1 t.1.2.2.2.2.2.1 t.1.2.2.2.2.2.2.1 t.1.2.2.2.2.2.2.2.1)),.int .i64 (lX (fx t.1.2.1 t.1.2.2.1 t.1.2.2.2.1 t.1.2.2.2.2.1 t.1.2.2.2.2.2.1 t.1.2.2.2.2.2.2.1 t.1.2.2.2.2.2.2.2.1))],[]⟩,[em t.1.2.1]⟩]
theorem Hl:bc prog Ig:=bf fun t=>bi (fun h=>Ly t.1.1 t.1.2.1 t.1.2.2.1 t.1.2.2.2.1 t.1.2.2.2.2.1 t.1.2.2.2.2.2.1 t.1.2.2.2.2.2.2.1 t.1.2.2.2.2.2.2.2.1 (Nat.le_of_ble_eq_true h)) bZ
def Lz:Option ao→Bool
  | some (.fail _ _)=>true
  | _=>false
def LA:Option ao→Bool
  | some (.ok r)=>Nat.beq r.nl r.nc
  | _=>false
def N0:Option ao→Int
  | some (.fail n _)=>n
  | _=>0
def NL:Option ao→Int
  | some (.fail _ e)=>e
  | _=>0
def MI:Option ao→RS
  | some (.ok r)=>r
  | _=>M0
def Nz(q:Option ao) :Nat:=(MI q).nl
def MJ(q:Option ao) :List Int:=(MI q).ks
def MK(q:Option ao) :List Int:=(MI q).ms
def ML(q:Option ao) :List Int:=(MI q).ns
def MM(q:Option ao) :List (List Int):=(MI q).wss
def MN(q:Option ao) :List Int:=(MI q).ys
def MO(q:Option ao) :List Int:=(MI q).ts
noncomputable def rV:aU:=dG kp (.cons .str .nil) fun t=>(fun q =>
  [⟨⟨.tup [.nsl,.int .i64 (N0 q),.int .i64 (NL q)],[]⟩,[Lz q]⟩,
   ⟨⟨.tup [.imm .free (.cols (Nz q) [.ci .i64 (MJ q),.ci .i64 (MK q),.ci .i64 (ML q),.cns .u64 (MM q),.ci .i64 (MN q),.ci .u64 (MO q)]) 6 6 0 (Nz q),.int .i64 (0:Int),.int .i64 (0:Int)],[]⟩,[LA q]⟩]) (aq t.1)
theorem wP:bc prog rV:=bf fun t=>bi (fun h=>by
    generalize hq:aq t.1=q at h ⊢
    unfold Lz at h
    split at h
    · exact qP t.1 hq
    · cases h) (bi (fun h=>by
    generalize hq:aq t.1=q at h ⊢
    unfold LA at h
    split at h
    · rename_i r
      have e:=Nat.eq_of_beq_eq_true h
      have:=qP t.1 hq
      simp only [nS,MF,←e] at this
      exact this
    · cases h) bZ)
noncomputable def Nq:List aU:=rV::Ig::oY
theorem wQ:bh prog (bA Nq):=aB wP (aB Hl aw)
end Go.Plb.Seat
namespace Go.Plb.Seat
open Go Go.Plb
set_option linter.unusedVariables false
set_option maxRecDepth 100000
noncomputable section
inductive bU where
  | r0 (b4:Bool)
def ng:bU→AE×aH
  | .r0 b4=>(.ret,⟨ax 22 [(2,.bool false b4)],[],0⟩)
theorem lL:sC ng:=by intro x;cases x<;>(intro h;cases h)
theorem CM(id:Nat) :rx id ng:=by intro x;cases x<;>(intro h;cases h)
def qt:bU→nu
  | .r0 b4=>⟨.bool false b4,[]⟩
noncomputable def CN:List Code:=dk (uD qd)
def CO(v_0:Lv)(l_1:Nat)(l_2:List Int)(l_3:List Int)(l_4:List Int)(l_5:List (List Int))(l_6:List Int)(l_7:List Int)(_:Unit) :aH:=⟨ax 22 [(0,.imm v_0 (.cols l_1 [.ci .i64 l_2,.ci .i64 l_3,.ci .i64 l_4,.cns .u64 l_5,.ci .i64 l_6,.ci .u64 l_7]) 6 6 0 l_1),(3,.int .i64 (0:Int))],[],0⟩
def CQ:T ((Unit)⊕(bU)) :=
  .leaf (.inl ())
def lM(v_0:Lv)(l_1:Nat)(l_2:List Int)(l_3:List Int)(l_4:List Int)(l_5:List (List Int))(l_6:List Int)(l_7:List Int)(i2:Nat) :aH:=⟨ax 22 [(0,.imm v_0 (.cols l_1 [.ci .i64 l_2,.ci .i64 l_3,.ci .i64 l_4,.cns .u64 l_5,.ci .i64 l_6,.ci .u64 l_7]) 6 6 0 l_1),(3,.int .i64 ((i2:Nat):Int))],[],0⟩
def ui(v_0:Lv)(l_1:Nat)(l_2:List Int)(l_3:List Int)(l_4:List Int)(l_5:List (List Int))(l_6:List Int)(l_7:List Int)(_:Unit) :aH:=⟨ax 22 [(0,.imm v_0 (.cols l_1 [.ci .i64 l_2,.ci .i64 l_3,.ci .i64 l_4,.cns .u64 l_5,.ci .i64 l_6,.ci .u64 l_7]) 6 6 0 l_1)],[],0⟩
noncomputable def BU:List Code:=dk (mw ((((CN.drop 2).take 1)).headD .skip))
def CR(v_0:Lv)(l_1:Nat)(l_2:List Int)(l_3:List Int)(l_4:List Int)(l_5:List (List Int))(l_6:List Int)(l_7:List Int)(i2:Nat)(b3:Bool) :aH:=⟨ax 22 [(0,.imm v_0 (.cols l_1 [.ci .i64 l_2,.ci .i64 l_3,.ci .i64 l_4,.cns .u64 l_5,.ci .i64 l_6,.ci .u64 l_7]) 6 6 0 l_1),(3,.int .i64 ((i2:Nat):Int)),(11,.bool false b3)],[],0⟩
def nT(l_1:Nat)(i2:Nat) :T ((Bool)⊕((Unit)⊕(bU))) :=
  .ask (decide (((i2:Nat):Int)<((l_1:Nat):Int)))
    (.leaf (.inl (decide (((i2:Nat):Int)<(81:Int)))))
    (.leaf (.inl false))
def BV(l_1:Nat)(l_2:List Int)(l_3:List Int)(l_4:List Int)(l_5:List (List Int))(l_6:List Int)(l_7:List Int)(i2:Nat)(b3:Bool) :T ((Nat)⊕((Unit)⊕(bU))) :=
  .ask b3
    (.need (qW ((i2:Nat):Int) l_1)<|.need (dn i2 (List.length l_2))<|.need (dn i2 (List.length l_3))<|.need (dn i2 (List.length l_4))<|.need (dn i2 (List.length l_5))<|.need (dn i2 (List.length l_6))<|.need (dn i2 (List.length l_7))<|.ask (decide ((((List.length (List.getD l_5 i2 [])):Nat):Int)>(200:Int)))
      (.leaf (.inr (.inr (.r0 true))))
      (.need (kK .i64 (((i2+1):Nat):Int))<|.leaf (.inl (i2+1))))
    (.leaf (.inr (.inl ())))
noncomputable def kJ(l_1:Nat)(l_2:List Int)(l_3:List Int)(l_4:List Int)(l_5:List (List Int))(l_6:List Int)(l_7:List Int) :Nat→Option ((Nat)⊕((Unit)⊕(bU))):=fun i2 =>
  bj ((nT l_1 i2).run) fun b3 =>
  (BV l_1 l_2 l_3 l_4 l_5 l_6 l_7 i2 b3).run
theorem BW(v_0:Lv)(l_1:Nat)(l_2:List Int)(l_3:List Int)(l_4:List Int)(l_5:List (List Int))(l_6:List Int)(l_7:List Int)(i2:Nat) :Sg prog [] BU (lM v_0 l_1 l_2 l_3 l_4 l_5 l_6 l_7 i2) (kJ l_1 l_2 l_3 l_4 l_5 l_6 l_7 i2) (lM v_0 l_1 l_2 l_3 l_4 l_5 l_6 l_7) (fC 0 (ui v_0 l_1 l_2 l_3 l_4 l_5 l_6 l_7) ng):=by
  unfold kJ;exact Sg.cut 1 (dI lL) (dt wQ (CR v_0 l_1 l_2 l_3 l_4 l_5 l_6 l_7 i2) [⟨[],[],[0,3,11]⟩,⟨[],[],[0,3,11]⟩]) (fun b3=>dt wQ (lM v_0 l_1 l_2 l_3 l_4 l_5 l_6 l_7) [⟨[],[],[2]⟩,⟨[],[],[0,3]⟩,⟨[],[],[0]⟩])
def BX(l_1:Nat) :T ((Empty)⊕(bU)) :=
  .leaf (.inr (.r0 (decide (((l_1:Nat):Int)>(80:Int)))))
noncomputable def hU(l_1:Nat)(l_2:List Int)(l_3:List Int)(l_4:List Int)(l_5:List (List Int))(l_6:List Int)(l_7:List Int) :Option bU:=yF (bj ((CQ).run) fun _ =>
  bj (dH (kJ l_1 l_2 l_3 l_4 l_5 l_6 l_7) 0) fun _ =>
  (BX l_1).run)
theorem CS(v_0:Lv)(l_1:Nat)(l_2:List Int)(l_3:List Int)(l_4:List Int)(l_5:List (List Int))(l_6:List Int)(l_7:List Int){x:bU}(h:hU l_1 l_2 l_3 l_4 l_5 l_6 l_7=some x) :am prog qd [] [.imm v_0 (.cols l_1 [.ci .i64 l_2,.ci .i64 l_3,.ci .i64 l_4,.cns .u64 l_5,.ci .i64 l_6,.ci .u64 l_7]) 6 6 0 l_1] (qt x) :=
  B3 false qt ng h (Sg.cut 2 lL (dt wQ (CO v_0 l_1 l_2 l_3 l_4 l_5 l_6 l_7) [⟨[],[],[0,3]⟩]) (fun _=>Sg.cut 1 lL (Ma ⟨[],[],[0,3]⟩ (lM v_0 l_1 l_2 l_3 l_4 l_5 l_6 l_7) (ui v_0 l_1 l_2 l_3 l_4 l_5 l_6 l_7) 0 lL (CM _) (fun i2=>BW v_0 l_1 l_2 l_3 l_4 l_5 l_6 l_7 i2)) (fun _=>dt wQ yG [⟨[],[],[2]⟩])))
    (fun x=>by cases x with | r0 b4=>exact sF [.bool false b4])
def lN:Option bU→Bool
  | some _=>true
  | none=>false
def mF:Option bU→Bool
  | some (.r0 x)=>x
  | _=>false
theorem CT{x:Option bU}(h:lN x=true) :x=some (.r0 (mF x)):=by
  unfold lN at h
  split at h<;>first | rfl | (cases h;done) | (rename_i y;cases y;rfl)
noncomputable def wR:aU:=dG qd (.cons (.cols [.ci .i64,.ci .i64,.ci .i64,.cns .u64,.ci .i64,.ci .u64]) .nil) fun t=>(fun q=>[⟨qt (.r0 (mF q)),[lN q]⟩]) (hU t.1.2.1 t.1.2.2.1 t.1.2.2.2.1 t.1.2.2.2.2.1 t.1.2.2.2.2.2.1 t.1.2.2.2.2.2.2.1 t.1.2.2.2.2.2.2.2.1)
theorem zy:bc prog wR:=bf fun t=>(bi (fun h=>CS t.1.1 t.1.2.1 t.1.2.2.1 t.1.2.2.2.1 t.1.2.2.2.2.1 t.1.2.2.2.2.2.1 t.1.2.2.2.2.2.2.1 t.1.2.2.2.2.2.2.2.1 (CT h)) bZ)
noncomputable def wS:List aU:=wR::Nq
theorem aN:bh prog (bA wS):=aB zy wQ
inductive ap where
  | r0 (b24:Bool)
def eI:ap→AE×aH
  | .r0 b24=>(.ret,⟨ax 101 [(4,.bool false b24)],[],0⟩)
theorem aF:sC eI:=by intro x;cases x<;>(intro h;cases h)
theorem tc(id:Nat) :rx id eI:=by intro x;cases x<;>(intro h;cases h)
def jV:ap→nu
  | .r0 b24=>⟨.bool false b24,[]⟩
noncomputable def cK:List Code:=dk (uD jI)
def td(v_0:Lv)(l_1:Nat)(l_2:List Int)(l_3:List Int)(l_4:List Int)(l_5:List (List Int))(l_6:List Int)(l_7:List Int)(text_8:ByteArray)(b1:Bool) :aH:=⟨ax 101 [(0,.imm v_0 (.cols l_1 [.ci .i64 l_2,.ci .i64 l_3,.ci .i64 l_4,.cns .u64 l_5,.ci .i64 l_6,.ci .u64 l_7]) 6 6 0 l_1),(1,.str text_8),(20,.bool false b1)],[],0⟩
def me(text_8:ByteArray) :T ((Bool)⊕(ap)) :=
  .ask false
    (.fail)
    (.leaf (.inl (decide (((text_8.size:Nat):Int)≤(30000:Int)))))
def mL(v_0:Lv)(l_1:Nat)(l_2:List Int)(l_3:List Int)(l_4:List Int)(l_5:List (List Int))(l_6:List Int)(l_7:List Int)(_:Unit) :aH:=⟨ax 101 [(0,.imm v_0 (.cols l_1 [.ci .i64 l_2,.ci .i64 l_3,.ci .i64 l_4,.cns .u64 l_5,.ci .i64 l_6,.ci .u64 l_7]) 6 6 0 l_1)],[],0⟩
noncomputable def gK:List Code:=dk (AT ((((cK.drop 4).take 1)).headD .skip))
def tf(v_0:Lv)(l_1:Nat)(l_2:List Int)(l_3:List Int)(l_4:List Int)(l_5:List (List Int))(l_6:List Int)(l_7:List Int)(text_8:ByteArray) :Nat×(List Int)×(List Int)×(List Int)×(List (List Int))×(List Int)×(List Int)×Int→aH:=fun (x2,x3,x4,x5,x6,x7,x8,e9)=>⟨ax 101 [(0,.imm v_0 (.cols l_1 [.ci .i64 l_2,.ci .i64 l_3,.ci .i64 l_4,.cns .u64 l_5,.ci .i64 l_6,.ci .u64 l_7]) 6 6 0 l_1),(1,.str text_8),(5,.imm .free (.cols x2 [.ci .i64 x3,.ci .i64 x4,.ci .i64 x5,.cns .u64 x6,.ci .i64 x7,.ci .u64 x8]) 6 6 0 x2),(7,.int .i64 e9)],[],0⟩
def bY(text_8:ByteArray) :T ((Nat×(List Int)×(List Int)×(List Int)×(List (List Int))×(List Int)×(List Int)×Int)⊕(ap)) :=
  .alt 0
    (.need (Lz (aq text_8))<|.leaf (.inl (0,([]:List Int),([]:List Int),([]:List Int),([]:List (List Int)),([]:List Int),([]:List Int),(NL (aq text_8)))))
    (.alt 1
      (.need (LA (aq text_8))<|.leaf (.inl ((Nz (aq text_8)),(MJ (aq text_8)),(MK (aq text_8)),(ML (aq text_8)),(MM (aq text_8)),(MN (aq text_8)),(MO (aq text_8)),(0:Int))))
      (.fail))
def tg(v_0:Lv)(l_1:Nat)(l_2:List Int)(l_3:List Int)(l_4:List Int)(l_5:List (List Int))(l_6:List Int)(l_7:List Int)(text_8:ByteArray)(x2:Nat)(x3:List Int)(x4:List Int)(x5:List Int)(x6:List (List Int))(x7:List Int)(x8:List Int)(b10:Bool) :aH:=⟨ax 101 [(0,.imm v_0 (.cols l_1 [.ci .i64 l_2,.ci .i64 l_3,.ci .i64 l_4,.cns .u64 l_5,.ci .i64 l_6,.ci .u64 l_7]) 6 6 0 l_1),(1,.str text_8),(5,.imm .free (.cols x2 [.ci .i64 x3,.ci .i64 x4,.ci .i64 x5,.cns .u64 x6,.ci .i64 x7,.ci .u64 x8]) 6 6 0 x2),(29,.bool false b10)],[],0⟩
def gL(e9:Int) :T ((Bool)⊕(ap)) :=
  .leaf (.inl (e9==(0:Int)))
def mM(v_0:Lv)(l_1:Nat)(l_2:List Int)(l_3:List Int)(l_4:List Int)(l_5:List (List Int))(l_6:List Int)(l_7:List Int)(_:Unit) :aH:=⟨ax 101 [(0,.imm v_0 (.cols l_1 [.ci .i64 l_2,.ci .i64 l_3,.ci .i64 l_4,.cns .u64 l_5,.ci .i64 l_6,.ci .u64 l_7]) 6 6 0 l_1)],[],0⟩
def th(v_0:Lv)(l_1:Nat)(l_2:List Int)(l_3:List Int)(l_4:List Int)(l_5:List (List Int))(l_6:List Int)(l_7:List Int)(b11:Bool) :aH:=⟨ax 101 [(0,.imm v_0 (.cols l_1 [.ci .i64 l_2,.ci .i64 l_3,.ci .i64 l_4,.cns .u64 l_5,.ci .i64 l_6,.ci .u64 l_7]) 6 6 0 l_1),(42,.bool false b11)],[],0⟩
def dL(text_8:ByteArray)(x2:Nat)(x3:List Int)(x4:List Int)(x5:List Int)(x6:List (List Int))(x7:List Int)(x8:List Int) :T ((Bool)⊕(ap)) :=
  .need (Nat.ble (0+x2) x2)<|.need (em x2)<|.ask ((lX (fx x2 (aC 0 x2 x3) (aC 0 x2 x4) (aC 0 x2 x5) (aC 0 x2 x6) (aC 0 x2 x7) (aC 0 x2 x8))) != (0:Int))
    (.leaf (.inl true))
    (.leaf (.inl (!((dJ (fx x2 (aC 0 x2 x3) (aC 0 x2 x4) (aC 0 x2 x5) (aC 0 x2 x6) (aC 0 x2 x7) (aC 0 x2 x8))).toList==text_8.toList))))
def mf(b11:Bool) :T ((Unit)⊕(ap)) :=
  .ask b11
    (.leaf (.inr (.r0 false)))
    (.leaf (.inl ()))
def mg:T ((Unit)⊕(ap)) :=
  .leaf (.inl ())
def mh:T ((Unit)⊕(ap)) :=
  .leaf (.inl ())
def mi:T ((Unit)⊕(ap)) :=
  .leaf (.inl ())
def tj(v_0:Lv)(l_1:Nat)(l_2:List Int)(l_3:List Int)(l_4:List Int)(l_5:List (List Int))(l_6:List Int)(l_7:List Int)(b12:Bool) :aH:=⟨ax 101 [(0,.imm v_0 (.cols l_1 [.ci .i64 l_2,.ci .i64 l_3,.ci .i64 l_4,.cns .u64 l_5,.ci .i64 l_6,.ci .u64 l_7]) 6 6 0 l_1),(44,.bool false b12)],[],0⟩
def gM(l_1:Nat)(l_2:List Int)(l_3:List Int)(l_4:List Int)(l_5:List (List Int))(l_6:List Int)(l_7:List Int) :T ((Bool)⊕(ap)) :=
  .need (Nat.ble (0+l_1) l_1)<|.need (lN (hU l_1 (aC 0 l_1 l_2) (aC 0 l_1 l_3) (aC 0 l_1 l_4) (aC 0 l_1 l_5) (aC 0 l_1 l_6) (aC 0 l_1 l_7)))<|.leaf (.inl (mF (hU l_1 (aC 0 l_1 l_2) (aC 0 l_1 l_3) (aC 0 l_1 l_4) (aC 0 l_1 l_5) (aC 0 l_1 l_6) (aC 0 l_1 l_7))))
def tl(v_0:Lv)(l_1:Nat)(l_2:List Int)(l_3:List Int)(l_4:List Int)(l_5:List (List Int))(l_6:List Int)(l_7:List Int) :Nat×(List Int)×(List Int)×(List Int)×(List (List Int))×(List Int)×(List Int)×Int×Int→aH:=fun (x13,x14,x15,x16,x17,x18,x19,n20,f21)=>⟨ax 101 [(0,.imm v_0 (.cols l_1 [.ci .i64 l_2,.ci .i64 l_3,.ci .i64 l_4,.cns .u64 l_5,.ci .i64 l_6,.ci .u64 l_7]) 6 6 0 l_1),(12,.imm .free (.cols x13 [.ci .i64 x14,.ci .i64 x15,.ci .i64 x16,.cns .u64 x17,.ci .i64 x18,.ci .u64 x19]) 6 6 0 x13),(13,.int .i64 n20),(14,.int .i64 f21)],[],0⟩
def cL(l_1:Nat)(l_2:List Int)(l_3:List Int)(l_4:List Int)(l_5:List (List Int))(l_6:List Int)(l_7:List Int)(b12:Bool) :T ((Nat×(List Int)×(List Int)×(List Int)×(List (List Int))×(List Int)×(List Int)×Int×Int)⊕(ap)) :=
  .ask b12
    (.leaf (.inr (.r0 true)))
    (.need (Nat.ble (0+l_1) l_1)<|.need (em l_1)<|.ask ((lX (fx l_1 (aC 0 l_1 l_2) (aC 0 l_1 l_3) (aC 0 l_1 l_4) (aC 0 l_1 l_5) (aC 0 l_1 l_6) (aC 0 l_1 l_7))) != (0:Int))
      (.leaf (.inr (.r0 true)))
      (.alt 0
        (.need (Lz (aq (dJ (fx l_1 (aC 0 l_1 l_2) (aC 0 l_1 l_3) (aC 0 l_1 l_4) (aC 0 l_1 l_5) (aC 0 l_1 l_6) (aC 0 l_1 l_7)))))<|.leaf (.inl (0,([]:List Int),([]:List Int),([]:List Int),([]:List (List Int)),([]:List Int),([]:List Int),(N0 (aq (dJ (fx l_1 (aC 0 l_1 l_2) (aC 0 l_1 l_3) (aC 0 l_1 l_4) (aC 0 l_1 l_5) (aC 0 l_1 l_6) (aC 0 l_1 l_7))))),(NL (aq (dJ (fx l_1 (aC 0 l_1 l_2) (aC 0 l_1 l_3) (aC 0 l_1 l_4) (aC 0 l_1 l_5) (aC 0 l_1 l_6) (aC 0 l_1 l_7))))))))
        (.alt 1
          (.need (LA (aq (dJ (fx l_1 (aC 0 l_1 l_2) (aC 0 l_1 l_3) (aC 0 l_1 l_4) (aC 0 l_1 l_5) (aC 0 l_1 l_6) (aC 0 l_1 l_7)))))<|.leaf (.inl ((Nz (aq (dJ (fx l_1 (aC 0 l_1 l_2) (aC 0 l_1 l_3) (aC 0 l_1 l_4) (aC 0 l_1 l_5) (aC 0 l_1 l_6) (aC 0 l_1 l_7))))),(MJ (aq (dJ (fx l_1 (aC 0 l_1 l_2) (aC 0 l_1 l_3) (aC 0 l_1 l_4) (aC 0 l_1 l_5) (aC 0 l_1 l_6) (aC 0 l_1 l_7))))),(MK (aq (dJ (fx l_1 (aC 0 l_1 l_2) (aC 0 l_1 l_3) (aC 0 l_1 l_4) (aC 0 l_1 l_5) (aC 0 l_1 l_6) (aC 0 l_1 l_7))))),(ML (aq (dJ (fx l_1 (aC 0 l_1 l_2) (aC 0 l_1 l_3) (aC 0 l_1 l_4) (aC 0 l_1 l_5) (aC 0 l_1 l_6) (aC 0 l_1 l_7))))),(MM (aq (dJ (fx l_1 (aC 0 l_1 l_2) (aC 0 l_1 l_3) (aC 0 l_1 l_4) (aC 0 l_1 l_5) (aC 0 l_1 l_6) (aC 0 l_1 l_7))))),(MN (aq (dJ (fx l_1 (aC 0 l_1 l_2) (aC 0 l_1 l_3) (aC 0 l_1 l_4) (aC 0 l_1 l_5) (aC 0 l_1 l_6) (aC 0 l_1 l_7))))),(MO (aq (dJ (fx l_1 (aC 0 l_1 l_2) (aC 0 l_1 l_3) (aC 0 l_1 l_4) (aC 0 l_1 l_5) (aC 0 l_1 l_6) (aC 0 l_1 l_7))))),(0:Int),(0:Int))))
          (.fail))))
def tm(v_0:Lv)(l_1:Nat)(l_2:List Int)(l_3:List Int)(l_4:List Int)(l_5:List (List Int))(l_6:List Int)(l_7:List Int)(x13:Nat)(x14:List Int)(x15:List Int)(x16:List Int)(x17:List (List Int))(x18:List Int)(x19:List Int)(b22:Bool) :aH:=⟨ax 101 [(0,.imm v_0 (.cols l_1 [.ci .i64 l_2,.ci .i64 l_3,.ci .i64 l_4,.cns .u64 l_5,.ci .i64 l_6,.ci .u64 l_7]) 6 6 0 l_1),(12,.imm .free (.cols x13 [.ci .i64 x14,.ci .i64 x15,.ci .i64 x16,.cns .u64 x17,.ci .i64 x18,.ci .u64 x19]) 6 6 0 x13),(72,.bool false b22)],[],0⟩
def mj(l_1:Nat)(x13:Nat)(n20:Int)(f21:Int) :T ((Bool)⊕(ap)) :=
  .ask (f21 != (0:Int))
    (.leaf (.inl true))
    (.ask (n20 != (0:Int))
      (.leaf (.inl true))
      (.leaf (.inl (((x13:Nat):Int) != ((l_1:Nat):Int)))))
def rW(v_0:Lv)(l_1:Nat)(l_2:List Int)(l_3:List Int)(l_4:List Int)(l_5:List (List Int))(l_6:List Int)(l_7:List Int)(x13:Nat)(x14:List Int)(x15:List Int)(x16:List Int)(x17:List (List Int))(x18:List Int)(x19:List Int)(_:Unit) :aH:=⟨ax 101 [(0,.imm v_0 (.cols l_1 [.ci .i64 l_2,.ci .i64 l_3,.ci .i64 l_4,.cns .u64 l_5,.ci .i64 l_6,.ci .u64 l_7]) 6 6 0 l_1),(12,.imm .free (.cols x13 [.ci .i64 x14,.ci .i64 x15,.ci .i64 x16,.cns .u64 x17,.ci .i64 x18,.ci .u64 x19]) 6 6 0 x13),(15,.int .i64 (0:Int))],[],0⟩
def rX(b22:Bool) :T ((Unit)⊕(ap)) :=
  .ask b22
    (.leaf (.inr (.r0 false)))
    (.leaf (.inl ()))
def dM(v_0:Lv)(l_1:Nat)(l_2:List Int)(l_3:List Int)(l_4:List Int)(l_5:List (List Int))(l_6:List Int)(l_7:List Int)(x13:Nat)(x14:List Int)(x15:List Int)(x16:List Int)(x17:List (List Int))(x18:List Int)(x19:List Int)(i23:Nat) :aH:=⟨ax 101 [(0,.imm v_0 (.cols l_1 [.ci .i64 l_2,.ci .i64 l_3,.ci .i64 l_4,.cns .u64 l_5,.ci .i64 l_6,.ci .u64 l_7]) 6 6 0 l_1),(12,.imm .free (.cols x13 [.ci .i64 x14,.ci .i64 x15,.ci .i64 x16,.cns .u64 x17,.ci .i64 x18,.ci .u64 x19]) 6 6 0 x13),(15,.int .i64 ((i23:Nat):Int))],[],0⟩
def ml(_:Unit) :aH:=⟨ax 101 [],[],0⟩
noncomputable def rY:List Code:=dk (mw (((((((((cK.drop 4).drop 1).drop 1).drop 5).drop 1).drop 2).take 1)).headD .skip))
def rZ(v_0:Lv)(l_1:Nat)(l_2:List Int)(l_3:List Int)(l_4:List Int)(l_5:List (List Int))(l_6:List Int)(l_7:List Int)(x13:Nat)(x14:List Int)(x15:List Int)(x16:List Int)(x17:List (List Int))(x18:List Int)(x19:List Int)(i23:Nat)(_:Unit) :aH:=⟨ax 101 [(0,.imm v_0 (.cols l_1 [.ci .i64 l_2,.ci .i64 l_3,.ci .i64 l_4,.cns .u64 l_5,.ci .i64 l_6,.ci .u64 l_7]) 6 6 0 l_1),(12,.imm .free (.cols x13 [.ci .i64 x14,.ci .i64 x15,.ci .i64 x16,.cns .u64 x17,.ci .i64 x18,.ci .u64 x19]) 6 6 0 x13),(15,.int .i64 ((i23:Nat):Int))],[],0⟩
def gN(l_1:Nat)(l_2:List Int)(l_3:List Int)(l_4:List Int)(l_5:List (List Int))(l_6:List Int)(l_7:List Int)(x13:Nat)(x14:List Int)(x15:List Int)(x16:List Int)(x17:List (List Int))(x18:List Int)(x19:List Int)(i23:Nat) :T ((Unit)⊕((Unit)⊕(ap))) :=
  .ask (decide (((i23:Nat):Int)<((l_1:Nat):Int)))
    (.need (qW ((i23:Nat):Int) x13)<|.need (dn i23 (List.length x14))<|.need (dn i23 (List.length x15))<|.need (dn i23 (List.length x16))<|.need (dn i23 (List.length x17))<|.need (dn i23 (List.length x18))<|.need (dn i23 (List.length x19))<|.need (qW ((i23:Nat):Int) l_1)<|.need (dn i23 (List.length l_2))<|.need (dn i23 (List.length l_3))<|.need (dn i23 (List.length l_4))<|.need (dn i23 (List.length l_5))<|.need (dn i23 (List.length l_6))<|.need (dn i23 (List.length l_7))<|.need (mr 0 (List.length (List.getD x17 i23 [])) (List.getD x17 i23 []))<|.need (mr 0 (List.length (List.getD l_5 i23 [])) (List.getD l_5 i23 []))<|.need (kG (jz (List.getD x14 i23 0) (List.getD x15 i23 0) (List.getD x16 i23 0) (aC 0 (List.length (List.getD x17 i23 [])) (List.getD x17 i23 [])) (List.getD x18 i23 0) (List.getD x19 i23 0) (List.getD l_2 i23 0) (List.getD l_3 i23 0) (List.getD l_4 i23 0) (aC 0 (List.length (List.getD l_5 i23 [])) (List.getD l_5 i23 [])) (List.getD l_6 i23 0) (List.getD l_7 i23 0)))<|.ask (!(lq (jz (List.getD x14 i23 0) (List.getD x15 i23 0) (List.getD x16 i23 0) (aC 0 (List.length (List.getD x17 i23 [])) (List.getD x17 i23 [])) (List.getD x18 i23 0) (List.getD x19 i23 0) (List.getD l_2 i23 0) (List.getD l_3 i23 0) (List.getD l_4 i23 0) (aC 0 (List.length (List.getD l_5 i23 [])) (List.getD l_5 i23 [])) (List.getD l_6 i23 0) (List.getD l_7 i23 0))))
      (.leaf (.inr (.inr (.r0 false))))
      (.need (qW ((i23:Nat):Int) x13)<|.need (dn i23 (List.length x14))<|.need (dn i23 (List.length x15))<|.need (dn i23 (List.length x16))<|.need (dn i23 (List.length x17))<|.need (dn i23 (List.length x18))<|.need (dn i23 (List.length x19))<|.need (qW ((i23:Nat):Int) l_1)<|.need (dn i23 (List.length l_2))<|.need (dn i23 (List.length l_3))<|.need (dn i23 (List.length l_4))<|.need (dn i23 (List.length l_5))<|.need (dn i23 (List.length l_6))<|.need (dn i23 (List.length l_7))<|.need (mr 0 (List.length (List.getD x17 i23 [])) (List.getD x17 i23 []))<|.need (mr 0 (List.length (List.getD l_5 i23 [])) (List.getD l_5 i23 []))<|.need (lK (gY (List.getD x14 i23 0) (List.getD x15 i23 0) (List.getD x16 i23 0) (aC 0 (List.length (List.getD x17 i23 [])) (List.getD x17 i23 [])) (List.getD x18 i23 0) (List.getD x19 i23 0) (List.getD l_2 i23 0) (List.getD l_3 i23 0) (List.getD l_4 i23 0) (aC 0 (List.length (List.getD l_5 i23 [])) (List.getD l_5 i23 [])) (List.getD l_6 i23 0) (List.getD l_7 i23 0)))<|.ask (!(mC (gY (List.getD x14 i23 0) (List.getD x15 i23 0) (List.getD x16 i23 0) (aC 0 (List.length (List.getD x17 i23 [])) (List.getD x17 i23 [])) (List.getD x18 i23 0) (List.getD x19 i23 0) (List.getD l_2 i23 0) (List.getD l_3 i23 0) (List.getD l_4 i23 0) (aC 0 (List.length (List.getD l_5 i23 [])) (List.getD l_5 i23 [])) (List.getD l_6 i23 0) (List.getD l_7 i23 0))))
        (.leaf (.inr (.inr (.r0 false))))
        (.leaf (.inl ()))))
    (.leaf (.inr (.inl ())))
def sa(i23:Nat) :T ((Nat)⊕((Unit)⊕(ap))) :=
  .need (kK .i64 (((i23+1):Nat):Int))<|.leaf (.inl (i23+1))
noncomputable def gO(l_1:Nat)(l_2:List Int)(l_3:List Int)(l_4:List Int)(l_5:List (List Int))(l_6:List Int)(l_7:List Int)(x13:Nat)(x14:List Int)(x15:List Int)(x16:List Int)(x17:List (List Int))(x18:List Int)(x19:List Int) :Nat→Option ((Nat)⊕((Unit)⊕(ap))):=fun i23 =>
  bj ((gN l_1 l_2 l_3 l_4 l_5 l_6 l_7 x13 x14 x15 x16 x17 x18 x19 i23).run) fun _ =>
  (sa i23).run
theorem sb(v_0:Lv)(l_1:Nat)(l_2:List Int)(l_3:List Int)(l_4:List Int)(l_5:List (List Int))(l_6:List Int)(l_7:List Int)(x13:Nat)(x14:List Int)(x15:List Int)(x16:List Int)(x17:List (List Int))(x18:List Int)(x19:List Int)(i23:Nat) :Sg prog [] rY (dM v_0 l_1 l_2 l_3 l_4 l_5 l_6 l_7 x13 x14 x15 x16 x17 x18 x19 i23) (gO l_1 l_2 l_3 l_4 l_5 l_6 l_7 x13 x14 x15 x16 x17 x18 x19 i23) (dM v_0 l_1 l_2 l_3 l_4 l_5 l_6 l_7 x13 x14 x15 x16 x17 x18 x19) (fC 0 ml eI):=by
  unfold gO;exact Sg.cut 3 (dI aF) (dt aN (rZ v_0 l_1 l_2 l_3 l_4 l_5 l_6 l_7 x13 x14 x15 x16 x17 x18 x19 i23) [⟨[],[],[4]⟩,⟨[],[],[4]⟩,⟨[],[],[0,12,15]⟩,⟨[],[],[]⟩]) (fun _=>dt aN (dM v_0 l_1 l_2 l_3 l_4 l_5 l_6 l_7 x13 x14 x15 x16 x17 x18 x19) [⟨[],[],[0,12,15]⟩])
def sc:T ((Empty)⊕(ap)) :=
  .leaf (.inr (.r0 true))
noncomputable def eJ(l_1:Nat)(l_2:List Int)(l_3:List Int)(l_4:List Int)(l_5:List (List Int))(l_6:List Int)(l_7:List Int)(text_8:ByteArray) :Option ap:=yF (bj ((me text_8).run) fun b1 =>
  bj ((bif b1 then bj ((bY text_8).run) fun (x2,x3,x4,x5,x6,x7,x8,e9) =>
  bj ((gL e9).run) fun b10 =>
  bj ((bif b10 then bj ((dL text_8 x2 x3 x4 x5 x6 x7 x8).run) fun b11 =>
  (mf b11).run else (mg).run)) fun _ =>
  (mh).run else (mi).run)) fun _ =>
  bj ((gM l_1 l_2 l_3 l_4 l_5 l_6 l_7).run) fun b12 =>
  bj ((cL l_1 l_2 l_3 l_4 l_5 l_6 l_7 b12).run) fun (x13,x14,x15,x16,x17,x18,x19,n20,f21) =>
  bj ((mj l_1 x13 n20 f21).run) fun b22 =>
  bj ((rX b22).run) fun _ =>
  bj (dH (gO l_1 l_2 l_3 l_4 l_5 l_6 l_7 x13 x14 x15 x16 x17 x18 x19) 0) fun _ =>
  (sc).run)
theorem mN(v_0:Lv)(l_1:Nat)(l_2:List Int)(l_3:List Int)(l_4:List Int)(l_5:List (List Int))(l_6:List Int)(l_7:List Int)(text_8:ByteArray){x:ap}(h:eJ l_1 l_2 l_3 l_4 l_5 l_6 l_7 text_8=some x) :am prog jI [] [.imm v_0 (.cols l_1 [.ci .i64 l_2,.ci .i64 l_3,.ci .i64 l_4,.cns .u64 l_5,.ci .i64 l_6,.ci .u64 l_7]) 6 6 0 l_1,.str text_8] (jV x) :=
  B3 false jV eI h (Sg.cut 4 aF (dt aN (td v_0 l_1 l_2 l_3 l_4 l_5 l_6 l_7 text_8) [⟨[],[],[0,1,20]⟩]) (fun b1=>Sg.cut 1 aF (sE (c:=.tmp 20) (kn:=false) (b:=b1) (by kernel_rfl:((cK.drop 4).take 1)=[.cond (.tmp 20) (AT ((((cK.drop 4).take 1)).headD .skip)) (Ei ((((cK.drop 4).take 1)).headD .skip))]) aF (by kernel_rfl) (Sg.cut 1 aF (dt aN (tf v_0 l_1 l_2 l_3 l_4 l_5 l_6 l_7 text_8) [⟨[(.slot 5,.fre 6 6 (.cols 0 [.ci .i64 ([]:List Int),.ci .i64 ([]:List Int),.ci .i64 ([]:List Int),.cns .u64 ([]:List (List Int)),.ci .i64 ([]:List Int),.ci .u64 ([]:List Int)]))],[],[0,1,5,7]⟩,⟨[],[],[0,1,5,7]⟩]) (fun ⟨x2,x3,x4,x5,x6,x7,x8,e9⟩=>Sg.cut 1 aF (dt aN (tg v_0 l_1 l_2 l_3 l_4 l_5 l_6 l_7 text_8 x2 x3 x4 x5 x6 x7 x8) [⟨[],[],[0,1,5,29]⟩]) (fun b10=>Sg.cut 1 aF (sE (c:=.tmp 29) (kn:=false) (b:=b10) (by kernel_rfl:(((gK.drop 1).drop 1).take 1)=[.cond (.tmp 29) (AT (((((gK.drop 1).drop 1).take 1)).headD .skip)) (Ei (((((gK.drop 1).drop 1).take 1)).headD .skip))]) aF (by kernel_rfl) (Sg.cut 2 aF (dt aN (th v_0 l_1 l_2 l_3 l_4 l_5 l_6 l_7) [⟨[],[],[0,42]⟩,⟨[],[],[0,42]⟩]) (fun b11=>dt aN (mM v_0 l_1 l_2 l_3 l_4 l_5 l_6 l_7) [⟨[],[],[4]⟩,⟨[],[],[0]⟩])) (dt aN (mM v_0 l_1 l_2 l_3 l_4 l_5 l_6 l_7) [⟨[],[],[0]⟩])) (fun _=>dt aN (mL v_0 l_1 l_2 l_3 l_4 l_5 l_6 l_7) [⟨[],[],[0]⟩])))) (dt aN (mL v_0 l_1 l_2 l_3 l_4 l_5 l_6 l_7) [⟨[],[],[0]⟩])) (fun _=>Sg.cut 1 aF (dt aN (tj v_0 l_1 l_2 l_3 l_4 l_5 l_6 l_7) [⟨[],[],[0,44]⟩]) (fun b12=>Sg.cut 5 aF (dt aN (tl v_0 l_1 l_2 l_3 l_4 l_5 l_6 l_7) [⟨[],[],[4]⟩,⟨[],[],[4]⟩,⟨[(.slot 12,.fre 6 6 (.cols 0 [.ci .i64 ([]:List Int),.ci .i64 ([]:List Int),.ci .i64 ([]:List Int),.cns .u64 ([]:List (List Int)),.ci .i64 ([]:List Int),.ci .u64 ([]:List Int)]))],[],[0,12,13,14]⟩,⟨[],[],[0,12,13,14]⟩]) (fun ⟨x13,x14,x15,x16,x17,x18,x19,n20,f21⟩=>Sg.cut 1 aF (dt aN (tm v_0 l_1 l_2 l_3 l_4 l_5 l_6 l_7 x13 x14 x15 x16 x17 x18 x19) [⟨[],[],[0,12,72]⟩,⟨[],[],[0,12,72]⟩,⟨[],[],[0,12,72]⟩]) (fun b22=>Sg.cut 2 aF (dt aN (rW v_0 l_1 l_2 l_3 l_4 l_5 l_6 l_7 x13 x14 x15 x16 x17 x18 x19) [⟨[],[],[4]⟩,⟨[],[],[0,12,15]⟩]) (fun _=>Sg.cut 1 aF (Ma ⟨[],[],[0,12,15]⟩ (dM v_0 l_1 l_2 l_3 l_4 l_5 l_6 l_7 x13 x14 x15 x16 x17 x18 x19) (ml) 0 aF (tc _) (fun i23=>sb v_0 l_1 l_2 l_3 l_4 l_5 l_6 l_7 x13 x14 x15 x16 x17 x18 x19 i23)) (fun _=>dt aN yG [⟨[],[],[4]⟩]))))))))
    (fun x=>by cases x with | r0 b24=>exact sF [.bool false b24])
def jm:Option ap→Bool
  | some _=>true
  | none=>false
def kO:Option ap→Bool
  | some (.r0 x)=>x
  | _=>false
theorem tn{x:Option ap}(h:jm x=true) :x=some (.r0 (kO x)):=by
  unfold jm at h
  split at h<;>first | rfl | (cases h;done) | (rename_i y;cases y;rfl)
noncomputable def nU:aU:=dG jI (.cons (.cols [.ci .i64,.ci .i64,.ci .i64,.cns .u64,.ci .i64,.ci .u64]) (.cons .str .nil)) fun t=>(fun q=>[⟨jV (.r0 (kO q)),[jm q]⟩]) (eJ t.1.2.1 t.1.2.2.1 t.1.2.2.2.1 t.1.2.2.2.2.1 t.1.2.2.2.2.2.1 t.1.2.2.2.2.2.2.1 t.1.2.2.2.2.2.2.2.1 t.2.1)
theorem qV:bc prog nU:=bf fun t=>(bi (fun h=>mN t.1.1 t.1.2.1 t.1.2.2.1 t.1.2.2.2.1 t.1.2.2.2.2.1 t.1.2.2.2.2.2.1 t.1.2.2.2.2.2.2.1 t.1.2.2.2.2.2.2.2.1 t.2.1 (tn h)) bZ)
noncomputable def vk:List aU:=nU::wS
theorem EG:bh prog (bA vk):=aB qV aN
end
end Go.Plb.Seat
namespace Go.Plb.Seat
open Go Go.Plb Go.Proofs Go.RowKit Go.Shelf
set_option maxRecDepth 100000
set_option linter.unusedSimpArgs false
set_option linter.unusedVariables false
attribute [local go_sem] Oper.semAt_some
theorem KS(s:ByteArray)(hs:s.size≤1000000000) :bL s (ByteArray.mk #[32])=some (.r0 (aA s).length (aA s).length (aA s)):=by
  unfold bL
  refine bW (an (a:=((aA s).length,(aA s).length,aA s)) ?_ rfl)
  simp only [py,yM s hs]
  exact cj rfl
theorem Hm(s:ByteArray) :ah s (ByteArray.mk #[10])=some (.r0 (Lib.indexByte s.data.toList 10)):=by
  unfold ah
  refine bW (cu ?_)
  by_cases h:s=ByteArray.mk #[10]
  · subst h
    exact eR (by rw [dO];exact decide_eq_true rfl) rfl
  · refine fw (by rw [dO];exact decide_eq_false fun q=>h q.symm) (ct (cj ?_))
    show some (Sum.inr (aD.r0 (Fa s 10)))=_
    rw [show Fa s 10=Lib.indexByte s.data.toList 10 from Lib.firstIdx_eq s 10]
def bQ(s:ByteArray) :ByteArray×ByteArray×Bool :=
  if Lib.indexByte s.data.toList 10<0 then (s,ByteArray.empty,false)
  else (s.extract 0 (Lib.indexByte s.data.toList 10).toNat,s.extract ((Lib.indexByte s.data.toList 10).toNat+1) s.size,true)
theorem Ey(s:ByteArray)(hs:s.size≤1000000000) :fc s (ByteArray.mk #[10])=some (.r0 (bQ s).1 (bQ s).2.1 (bQ s).2.2):=by
  unfold fc
  refine bW (an (a:=bQ s) ?_ rfl)
  have hge:=Lib.indexByte_ge s.data.toList 10
  have hlt:=ql s.data.toList 10
  have hsz:s.data.toList.length=s.size:=by simp
  simp only [rU,Hm]
  unfold bQ
  by_cases hneg:Lib.indexByte s.data.toList 10<0
  · rw [if_pos hneg]
    exact cj (fw (decide_eq_false (show ¬ Lib.indexByte s.data.toList 10≥0 by omega)) rfl)
  · rw [if_neg hneg]
    obtain ⟨n,hn⟩:=Int.eq_ofNat_of_zero_le (Int.not_lt.1 hneg)
    have hn:Lib.indexByte s.data.toList 10=(n:Int):=hn
    have hlt':n<s.size:=by
      rcases hlt with h | h
      · omega
      · rw [h] at hn
        exact absurd hn (by simp [Lib.indexByte])
    rw [hn]
    have n2:((n:Int)+(((ByteArray.mk #[10]).size:Nat):Int)).toNat=n+1:=by show ((n:Int)+1).toNat=_;omega
    refine cj (eR (decide_eq_true (show (n:Int)≥0 by omega)) (au ?_ (au ?_ (au ?_ (au ?_ (au ?_ ?_))))))
    · rw [qA];show 0≤(n:Int)∧(n:Int)≤_;omega
    · rw [qA];omega
    · rw [bC];show _≤(n:Int)+1∧(n:Int)+1≤_;omega
    · rw [qA];omega
    · rw [qA];show 0≤(n:Int)+1∧(n:Int)+1≤_;omega
    · show some (Sum.inl (s.extract 0 ((n:Int)).toNat,s.extract (((n:Int)+(((ByteArray.mk #[10]).size:Nat):Int)).toNat) s.size,true))=_
      rw [n2]
      rfl
def vl(s:ByteArray) :Int:=match CI s with | some _=>0 | none=>4
def jW(s:ByteArray) :Nat×Int×Int:=(CI s).getD (0,0,0)
def Ih(n:Int) :Bool:=bif decide (n≥0) then decide (n≤512) else false
theorem LB(n:Int) :bM n=some (.r0 (Ih n)):=by
  unfold bM Ih
  refine bW (an (a:=bif decide (n≥0) then decide (n≤512) else false) ?_ rfl)
  cases h:decide (n≥0) with
  | true=>exact eR h rfl
  | false=>exact fw h rfl
end Go.Plb.Seat
namespace Go.Plb.Seat
open Go Go.Plb
set_option linter.unusedSimpArgs false
set_option linter.unusedVariables false
set_option maxRecDepth 100000
structure Rd where
  l:List jo
  m:Int
  n:Int
  ws:List Int
  on:Bool
  row:Int
def EH(s:ByteArray) :Int:=cV ((aA s).getD 1 ByteArray.empty)
def Ez(s:ByteArray) :Int:=cV ((aA s).getD 2 ByteArray.empty)
def EA(s:ByteArray) :Bool:=bif Ih (EH s) then bif Ih (Ez s) then decide (en (EH s) (Ez s)=s) else false else false
def Je(r:Rd)(s:ByteArray) :jo:=⟨(jW s).1,r.m,r.n,r.ws,(jW s).2.1,(jW s).2.2⟩
def lO(r:Rd)(s:ByteArray) :Bool:=bif decide (vl s=0) then (Je r s).may else false
def hZ(r:Rd)(s:ByteArray) :Rd×Bool :=
  bif r.on then
    bif decide (r.row<r.m)&&decide (0<r.n) then
      bif cQ s then ({ r with ws:=r.ws++bo s,row:=r.row+1 },((((bo s).length:Nat):Int)==r.n)) else (r,false)
    else ({ r with l:=r.l++[Je r s],on:=false },lO r s)
  else bif decide ((aA s).length=3) then (⟨r.l,EH s,Ez s,[],true,0⟩,EA s) else (r,false)
theorem sJ{n:Int}(h:Ih n=true) :0≤n∧n≤512:=by
  unfold Ih at h
  cases h1:decide (n≥0) with
  | false=>rw [h1] at h;cases h
  | true=>rw [h1] at h;exact ⟨of_decide_eq_true h1,of_decide_eq_true h⟩
theorem LC{s:ByteArray}{w:List ByteArray}(hw:aA s=w)(h3:w.length=3)(hs:s.size≤1000000000) :em (w.getD 1 ByteArray.empty).size=true∧em (w.getD 2 ByteArray.empty).size=true:=by
  have key:∀ i,i<w.length→em (w.getD i ByteArray.empty).size=true:=by
    intro i hi
    rw [List.getD_eq_getElem?_getD,List.getElem?_eq_getElem hi]
    have:w[i]∈aA s:=by rw [hw];exact List.getElem_mem hi
    exact Nat.ble_eq_true_of_le (Nat.le_trans (BQ this) hs)
  exact ⟨key 1 (by omega),key 2 (by omega)⟩
theorem Jf(a b:ByteArray) :(a.toList==b.toList)=decide (a=b):=dO a b
theorem MP(n c:Nat)(k m nn:Int)(w:List Int)(y t row:Int)(nc:Nat)(ks ms ns:List Int)(wss:List (List Int))(ys ts:List Int)(s:ByteArray)(on:Bool)(hon:on=false)(hs:s.size≤1000000000) :
    bz n c k m nn w y t on row nc ks ms ns wss ys ts s=some (bif decide ((aA s).length=3) then .r1 (EA s) n c (EH s) (Ez s) true nc ks ms ns wss ys ts else .r0 false n c k m nn w w.length y t false row nc ks ms ns wss ys ts):=by
  subst hon
  unfold bz
  have h16:(jR s).run=some (.inl (aA s,(aA s).length)):=by
    simp only [jR,KS s hs]
    exact cj rfl
  by_cases h3:(aA s).length=3
  · obtain ⟨l1,l2⟩:=LC rfl h3 hs
    rw [decide_eq_true h3,cond_true]
    have h17:(eH n c k m nn w y t false row nc ks ms ns wss ys ts s (aA s) (aA s).length).run=some (.inl (EA s,EH s,Ez s,true)):=by
      simp only [eH,LB]
      refine fw (by rw [h3];rfl) (au (by rw [h3];rfl) (au (by rw [aT];omega) (au l1 (au (by rw [h3];rfl) (au (by rw [aT];omega) (au l2 (cj ?_)))))))
      show (T.ask (Ih (EH s)) _ _).run=_
      unfold EA
      cases hm:Ih (EH s) with
      | false=>exact cu rfl
      | true =>
        refine ct (cj ?_)
        show (T.ask (Ih (Ez s)) _ _).run=_
        cases hn:Ih (Ez s) with
        | false=>exact cu rfl
        | true =>
          have r1:=sJ hm
          have r2:=sJ hn
          have hh:=rG (EH s) (Ez s) (by rw [bC];omega) (by rw [bC];omega)
          have hh:di (cV ((aA s).getD 1 ByteArray.empty)) (cV ((aA s).getD 2 ByteArray.empty))=some (.r0 (en (EH s) (Ez s))):=hh
          rw [hh]
          refine ct (cj ?_)
          show some (Sum.inl ((en (EH s) (Ez s)).toList==s.toList,EH s,Ez s,true))=_
          rw [Jf]
          rfl
    exact bW (an rfl (bT (pn (an rfl (bT (an h16 (an h17 rfl)))))))
  · rw [decide_eq_false h3,cond_false]
    have h17:(eH n c k m nn w y t false row nc ks ms ns wss ys ts s (aA s) (aA s).length).run=some (.inr (.inr (.r0 false n c k m nn w w.length y t false row nc ks ms ns wss ys ts))) :=
      eR (bne_iff_ne.2 (by omega)) rfl
    exact bW (an rfl (bT (pn (an rfl (bT (an h16 (bT h17)))))))
theorem MQ(n c:Nat)(k m nn:Int)(w:List Int)(y t row:Int)(ks ms ns:List Int)(wss:List (List Int))(ys ts:List Int)(s:ByteArray)(on:Bool)(hon:on=true)(hs:s.size≤1000000000)(hc:(decide (row<m)&&decide (0<nn))=false)(hn:n≤100000000)(hw:w.length≤100000000) 
    (e1:ks.length=n) (e2:ms.length=n) (e3:ns.length=n) (e4:wss.length=n) (e5:ys.length=n) (e6:ts.length=n) (l:List jo) :
    bz n c k m nn w y t on row n ks ms ns wss ys ts s=some (.r2 (lO ⟨l,m,nn,w,true,row⟩ s) (n+1) k m nn w w.length y t false row (ks++[(((jW s).1:Nat):Int)]) (ms++[m]) (ns++[nn]) (wss++[w]) (ys++[(jW s).2.1]) (ts++[(jW s).2.2])):=by
  subst hon
  unfold bz
  have h20:(jS m nn row).run=some (.inl false):=by
    unfold jS
    cases h1:decide (row<m) with
    | false=>exact cu rfl
    | true =>
      rw [h1,Bool.true_and] at hc
      refine ct ?_
      show some (Sum.inl (decide (nn>0)))=_
      rw [show decide (nn>0)=false from hc]
  have h0:aS s=some (.r0 (vl s).toNat (jW s).1 (jW s).2.1 (jW s).2.2):=by
    rw [yg s hs]
    unfold vl jW
    cases CI s with
    | none=>rfl
    | some p=>obtain ⟨k,y,t⟩:=p;rfl
  have hE:(((vl s).toNat:Nat):Int)=vl s:=by
    unfold vl
    cases CI s<;>rfl
  have h23:(jT s).run=some (.inl ((vl s).toNat,(((jW s).1:Nat):Int),(jW s).2.1,(jW s).2.2)):=by
    simp only [jT,h0]
    exact cj rfl
  have tk:∀ {α:Type} (xs:List α),xs.length=n→List.take n xs=xs:=fun xs h=>List.take_of_length_le (by omega)
  have h24:(jU n m nn w n ks ms ns wss ys ts (vl s).toNat (((jW s).1:Nat):Int) (jW s).2.1 (jW s).2.2).run=some (.inl (lO ⟨l,m,nn,w,true,row⟩ s,n+1,false,ks++[(((jW s).1:Nat):Int)],ms++[m],ns++[nn],wss++[w],ys++[(jW s).2.1],ts++[(jW s).2.2])):=by
    simp only [jU,tk _ e1,tk _ e2,tk _ e3,tk _ e4,tk _ e5,tk _ e6,pf,tW,List.drop_zero,List.take_length,hE]
    refine au (by rw [lF];omega) (au (by rw [lF];omega) (cj (au (by rw [lF];exact Nat.le_refl _) (au (decide_eq_true (by omega)) ?_))))
    unfold lO
    by_cases he:vl s=0
    · rw [he]
      exact ct (Ku (cj rfl))
    · rw [decide_eq_false he]
      exact fw (beq_eq_false_iff_ne.2 he) rfl
  exact bW (an rfl (an (FF (an rfl (an (an h20 rfl) rfl))) (an h23 (an h24 rfl))))
theorem Do(s:ByteArray) :(bo s).length≤s.size+1:=by
  unfold bo
  cases hu:nE s with
  | none=>simp
  | some x =>
    have e:eE ((aA s).map fun x=>x.data.toList)=some x:=by rw [oy,←qs,hu]
    have hw:=(Hd s (s.size+1)).2
    have:∀ (l:List (List UInt8)) x,eE l=some x→x.length=l.length:=by
      intro l
      induction l with
      | nil=>intro x h;cases h;rfl
      | cons w l ih =>
        intro x h
        rw [eE] at h
        cases hb:wo w with
        | false =>
          rw [hb,cond_false] at h
          cases h
        | true =>
          rw [hb,cond_true,Option.map_eq_some_iff] at h
          obtain ⟨y,hy,rfl⟩:=h
          simp [ih y hy]
    have:=this _ _ e
    rw [List.length_map] at this
    unfold aA at this
    simp only [Option.getD_some]
    omega
theorem MR(n c:Nat)(k m nn:Int)(nw cw:Nat)(y t row:Int)(nc:Nat)(ks ms ns:List Int)(wss:List (List Int))(ys ts ws:List Int)(s:ByteArray)(on:Bool)(hon:on=true)(hs:s.size≤100000000)(hc:(decide (row<m)&&decide (0<nn))=true)(hnw:nw=ws.length)(hw:ws.length≤100000000)(hr : -10≤row∧row≤1000000000) :
    dm n c k m nn nw cw y t on row nc ks ms ns wss ys ts ws s=some (bif cQ s then .r2 ((((bo s).length:Nat):Int)==nn) n c k m nn (ws.length+(bo s).length) y t true (row+1) nc ks ms ns wss ys ts (ws++bo s) else .r0 false n c k m nn nw cw y t true (row+1) nc ks ms ns wss ys ts ws):=by
  subst hon
  subst hnw
  unfold dm
  have hu:=Do s
  have h19:(jP m nn row).run=some (.inl true):=by
    unfold jP
    rw [Bool.and_eq_true] at hc
    refine eR hc.1 ?_
    show some (Sum.inl (decide (nn>0)))=_
    rw [show decide (nn>0)=true from hc.2]
  have hlo:em s.size=true:=Nat.ble_eq_true_of_le (by omega)
  have hi:kK .i64 (row+1)=true:=by rw [bC];omega
  cases ho:cQ s with
  | true =>
    have h20:(dy n c k m nn ws.length cw y t true row nc ks ms ns wss ys ts ws s true).run=some (.inr (.inr (.r2 ((((bo s).length:Nat):Int)==nn) n c k m nn (ws.length+(bo s).length) y t true (row+1) nc ks ms ns wss ys ts (ws++bo s)))):=by
      simp only [dy,List.take_length]
      exact ct (uG (au ho (au hlo (au (by rw [lF];omega) (au (by rw [lF];omega) (au (by rw [lF];exact Nat.le_refl _) (au (by rw [lF];exact Nat.le_refl _) (au hi (ct rfl)))))))))
    exact bW (an rfl (bT (pn (an rfl (bT (an h19 h20))))))
  | false =>
    have h20:(dy n c k m nn ws.length cw y t true row nc ks ms ns wss ys ts ws s true).run=some (.inr (.inr (.r0 false n c k m nn ws.length cw y t true (row+1) nc ks ms ns wss ys ts ws))):=by
      simp only [dy,List.take_length]
      exact ct (qj (qk ho) (uG (au (by rw [ho];rfl) (au hlo (au hi (cu rfl))))))
    exact bW (an rfl (bT (pn (an rfl (bT (an h19 h20))))))
theorem Jg(n:Int)(c:Option aL)(w:List Int)(nw:Nat)(hw:nw=w.length)(hi:kK .i64 (n+1)=true)(b:Bool)(nl cl:Nat)(k m nn:Int)(w':List Int)(nw':Nat)(y t:Int)(on:Bool)(row:Int)(nc:Nat)(ks ms ns:List Int)(wss:List (List Int))(ys ts:List Int) :
    (BS n c w nw (some (.r0 b nl cl k m nn w' nw' y t on row nc ks ms ns wss ys ts))).run=some (bif b then .inl (.off (aX c) (n+1) b ⟨nl,cl,k,m,nn,y,t,on,row,nc,ks,ms,ns,wss,ys,ts⟩ w' nw') else .inr (.inl (.bad n b))):=by
  subst hw
  cases b with
  | false=>exact uG (au (by simp) (cj (ct rfl)))
  | true=>exact uG (au (by simp) (cj (cu (au hi rfl))))
theorem Jh(n:Int)(c:Option aL)(w:List Int)(nw:Nat)(hw:nw=w.length)(hi:kK .i64 (n+1)=true)(b:Bool)(nl cl:Nat)(m nn:Int)(on:Bool)(nc:Nat)(ks ms ns:List Int)(wss:List (List Int))(ys ts:List Int) :
    (BS n c w nw (some (.r1 b nl cl m nn on nc ks ms ns wss ys ts))).run=some (bif b then .inl (.on (aX c) (n+1) b ⟨nl,cl,0,m,nn,0,0,on,0,nc,ks,ms,ns,wss,ys,ts⟩ 0 0 []) else .inr (.inl (.bad n b))):=by
  subst hw
  have hb:Nat.beq w.length w.length=true:=by simp
  cases b with
  | false=>exact qj (au hb (qk rfl)) (uG (au hb (cj (ct rfl))))
  | true=>exact qj (au hb (qk rfl)) (uG (au hb (cj (cu (au hi rfl)))))
theorem Ji(n:Int)(c:Option aL)(w:List Int)(nw:Nat)(hw:nw=w.length)(hi:kK .i64 (n+1)=true)(b:Bool)(nl:Nat)(k m nn:Int)(w':List Int)(nw':Nat)(y t:Int)(on:Bool)(row:Int)(ks ms ns:List Int)(wss:List (List Int))(ys ts:List Int) :
    (BS n c w nw (some (.r2 b nl k m nn w' nw' y t on row ks ms ns wss ys ts))).run=some (bif b then .inl (.off (aX c) (n+1) b ⟨nl,nl,k,m,nn,y,t,on,row,nl,ks,ms,ns,wss,ys,ts⟩ w' nw') else .inr (.inl (.bad n b))):=by
  subst hw
  have hb:Nat.beq w.length w.length=true:=by simp
  cases b with
  | false=>exact qj (au hb (qk rfl)) (qj (au hb (qk rfl)) (uG (au hb (cj (ct rfl)))))
  | true=>exact qj (au hb (qk rfl)) (qj (au hb (qk rfl)) (uG (au hb (cj (cu (au hi rfl))))))
theorem KT(n:Int)(c:Option aL)(hi:kK .i64 (n+1)=true)(nl cl:Nat)(k m nn:Int)(nw' cw':Nat)(y t:Int)(on:Bool)(row:Int)(nc:Nat)(ks ms ns:List Int)(wss:List (List Int))(ys ts ws:List Int) :
    (If n c (some (.r0 false nl cl k m nn nw' cw' y t on row nc ks ms ns wss ys ts ws))).run=some (.inr (.inl (.bad n false))):=uG (cj (ct rfl))
theorem KU(n:Int)(c:Option aL)(hi:kK .i64 (n+1)=true)(b:Bool)(nl cl:Nat)(k m nn:Int)(nw':Nat)(y t:Int)(on:Bool)(row:Int)(nc:Nat)(ks ms ns:List Int)(wss:List (List Int))(ys ts ws:List Int) :
    (If n c (some (.r2 b nl cl k m nn nw' y t on row nc ks ms ns wss ys ts ws))).run=some (bif b then .inl (.on (aX c) (n+1) b ⟨nl,cl,k,m,nn,y,t,on,row,nc,ks,ms,ns,wss,ys,ts⟩ nw' nw' ws) else .inr (.inl (.bad n b))):=by
  cases b with
  | false=>exact qj (qk rfl) (qj (qk rfl) (uG (cj (ct rfl))))
  | true=>exact qj (qk rfl) (qj (qk rfl) (uG (cj (cu (au hi rfl)))))
structure EB (r:RS) (l:List jo):Prop where
  nl:r.nl=l.length
  nc:r.nc=l.length
  ks:r.ks=l.map jo.k
  ms:r.ms=l.map jo.m
  ns:r.ns=l.map jo.n
  wss:r.wss=l.map jo.ws
  ys:r.ys=l.map jo.y
  ts:r.ts=l.map jo.t
def Nr(σ:EF)(s:ByteArray)(n:Int)(rd:Rd) :Prop :=
  match σ with
  | .off s' n' b r w nw=>s'=s∧n'=n∧b=true∧r.on=false∧rd.on=false∧nw=w.length∧EB r rd.l
  | .on s' n' b r nw cw ws=>s'=s∧n'=n∧b=true∧r.on=true∧rd.on=true∧r.m=rd.m∧r.nn=rd.n∧r.row=rd.row∧ws=rd.ws∧nw=ws.length∧EB r rd.l
structure Bd (s:ByteArray) (n:Int) (rd:Rd):Prop where
  n0:0≤n
  n1:n+(s.size:Int)≤10000000
  l:(rd.l.length:Int)≤n
  r0:0≤rd.row
  r1:rd.row≤n
  w:rd.ws.length+s.size≤10000000
theorem pz{s:ByteArray}(h:(bQ s).2.2=true) :(bQ s).1.size+1+(bQ s).2.1.size=s.size:=by
  have hge:=Lib.indexByte_ge s.data.toList 10
  have hlt:=ql s.data.toList 10
  have hsz:s.data.toList.length=s.size:=by simp
  unfold bQ at h ⊢
  by_cases hneg:Lib.indexByte s.data.toList 10<0
  · rw [if_pos hneg] at h;cases h
  · rw [if_neg hneg]
    have hlt':(Lib.indexByte s.data.toList 10).toNat<s.size:=by
      rcases hlt with h | h
      · omega
      · rw [h] at hneg
        exact absurd (by decide) hneg
    simp only [ByteArray.size_extract]
    omega
theorem LD{s:ByteArray}{n:Int}{rd:Rd}(hB:Bd s n rd)(hw:(bQ s).2.2=true)(ht:(hZ rd (bQ s).1).2=true) :Bd (bQ s).2.1 (n+1) (hZ rd (bQ s).1).1:=by
  have hc:=pz hw
  have h1:=hB.n0
  have h2:=hB.n1
  have h3:=hB.l
  have h4:=hB.r0
  have h5:=hB.r1
  have h6:=hB.w
  have hu:=Do (bQ s).1
  unfold hZ at ht ⊢
  cases hon:rd.on with
  | true =>
    rw [hon,cond_true] at ht
    simp only [cond_true]
    cases hr:(decide (rd.row<rd.m)&&decide (0<rd.n)) with
    | true =>
      rw [hr,cond_true] at ht
      simp only [cond_true]
      cases ho:cQ (bQ s).1 with
      | true=>exact ⟨by omega,by omega,by simp only [cond_true];omega,by simp only [cond_true];omega,by simp only [cond_true];omega,by simp only [cond_true,List.length_append];omega⟩
      | false=>rw [ho,cond_false] at ht;cases ht
    | false=>exact ⟨by omega,by omega,by simp only [cond_false,List.length_append,List.length_cons,List.length_nil];omega,by simp only [cond_false];omega,by simp only [cond_false];omega,by simp only [cond_false];omega⟩
  | false =>
    rw [hon,cond_false] at ht
    simp only [cond_false]
    cases h3':decide ((aA (bQ s).1).length=3) with
    | true=>exact ⟨by omega,by omega,by simp only [cond_true];omega,by simp only [cond_true];omega,by simp only [cond_true];omega,by simp only [cond_true,List.length_nil];omega⟩
    | false=>rw [h3',cond_false] at ht;cases ht
theorem sK{s:ByteArray}(h:s.size≠0) :(!(s.toList==(ByteArray.mk #[]).toList))=true:=by
  rw [dO,decide_eq_false]
  · rfl
  · intro q
    subst q
    exact h rfl
theorem yh{s:ByteArray}(h:s.size=0) :(!(s.toList==(ByteArray.mk #[]).toList))=false:=by
  have:s=ByteArray.mk #[]:=by
    apply lm
    have:s.data.toList.length=0:=by simpa using h
    rw [List.eq_nil_of_length_eq_zero this]
  rw [this,dO,decide_eq_true rfl]
  rfl
theorem BY{s:ByteArray}{n:Int}{b:Bool}{r:RS}{w:List Int}{nw:Nat}(hs:s.size≠0)(hz:s.size≤1000000000)(hw:(bQ s).2.2=true){q:Option ac}(hq:bz r.nl r.cl r.k r.m r.nn w r.y r.t r.on r.row r.nc r.ks r.ms r.ns r.wss r.ys r.ts (bQ s).1=q){x:Option (EF⊕(zw⊕ao))} 
    (h:(BS n (some (.r0 (bQ s).1 (bQ s).2.1 (bQ s).2.2)) w nw q).run=x):(uh s n b r w nw).run=x:=by
  unfold uh Hj
  rw [Ey s hz]
  refine eR (sK hs) (cj (eR hw ?_))
  rw [←h,←hq]
  rfl
theorem Ii{s:ByteArray}{n:Int}{b:Bool}{r:RS}{nw cw:Nat}{ws:List Int}(hs:s.size≠0)(hz:s.size≤1000000000)(hw:(bQ s).2.2=true){q:Option aa}(hq:dm r.nl r.cl r.k r.m r.nn nw cw r.y r.t r.on r.row r.nc r.ks r.ms r.ns r.wss r.ys r.ts ws (bQ s).1=q){x:Option (EF⊕(zw⊕ao))} 
    (h:(If n (some (.r0 (bQ s).1 (bQ s).2.1 (bQ s).2.2)) q).run=x):(Hk s n b r nw cw ws).run=x:=by
  unfold Hk KR
  rw [Ey s hz]
  refine eR (sK hs) (cj (eR hw ?_))
  rw [←h,←hq]
  rfl
theorem Jj{r:RS}{l:List jo}(h:EB r l)(a:jo)(cl:Nat)(k m n:Int)(y t:Int)(on:Bool)(row:Int) :EB ⟨r.nl+1,cl,k,m,n,y,t,on,row,r.nl+1,r.ks++[a.k],r.ms++[a.m],r.ns++[a.n],r.wss++[a.ws],r.ys++[a.y],r.ts++[a.t]⟩ (l++[a]):=by
  obtain ⟨h1,h2,h3,h4,h5,h6,h7,h8⟩:=h
  refine ⟨?_,?_,?_,?_,?_,?_,?_,?_⟩<;>simp [h1,h3,h4,h5,h6,h7,h8]
theorem LE{σ:EF}{s:ByteArray}{n:Int}{rd:Rd}(hR:Nr σ s n rd)(hB:Bd s n rd)(hs:s.size≠0)(hw:(bQ s).2.2=true) :
    ((hZ rd (bQ s).1).2=true∧∃ σ',pB σ=some (.inl σ')∧Nr σ' (bQ s).2.1 (n+1) (hZ rd (bQ s).1).1)∨((hZ rd (bQ s).1).2=false∧pB σ=some (.inr (.inl (.bad n false)))):=by
  have h1:=hB.n0
  have h2:=hB.n1
  have h3:=hB.l
  have h4:=hB.r0
  have h5:=hB.r1
  have h6:=hB.w
  have hc:=pz hw
  have hi:kK .i64 (n+1)=true:=by rw [bC];omega
  have hz:(bQ s).1.size≤100000000:=by omega
  cases σ with
  | off s' n' b r w nw =>
    obtain ⟨rfl,rfl,rfl,hon,hon',hnw,hC⟩:=hR
    have hA:=MP r.nl r.cl r.k r.m r.nn w r.y r.t r.row r.nc r.ks r.ms r.ns r.wss r.ys r.ts (bQ s').1 r.on hon (by omega)
    unfold hZ
    rw [hon',cond_false]
    by_cases h3:(aA (bQ s').1).length=3
    · rw [decide_eq_true h3] at hA ⊢
      rw [cond_true] at hA ⊢
      have h:=BY (b:=true) hs (by omega) hw hA (Jh n' _ w nw hnw hi _ _ _ _ _ _ _ _ _ _ _ _ _)
      cases hh:EA (bQ s').1 with
      | true =>
        rw [hh] at h
        exact .inl ⟨rfl,_,h,rfl,rfl,rfl,rfl,rfl,rfl,rfl,rfl,rfl,rfl,⟨hC.nl,hC.nc,hC.ks,hC.ms,hC.ns,hC.wss,hC.ys,hC.ts⟩⟩
      | false =>
        rw [hh] at h
        exact .inr ⟨rfl,h⟩
    · rw [decide_eq_false h3] at hA ⊢
      rw [cond_false] at hA ⊢
      exact .inr ⟨rfl,BY (b:=true) hs (by omega) hw hA (Jg n' _ w nw hnw hi _ _ _ _ _ _ _ _ _ _ _ _ _ _ _ _ _ _ _)⟩
  | on s' n' b r nw cw ws =>
    obtain ⟨rfl,rfl,rfl,hon,hon',hm,hn,hrow,rfl,rfl,hC⟩:=hR
    unfold hZ
    rw [hon',cond_true]
    cases hr:(decide (rd.row<rd.m)&&decide (0<rd.n)) with
    | true =>
      rw [cond_true]
      have hr':(decide (r.row<r.m)&&decide (0<r.nn))=true:=by rw [hm,hn,hrow];exact hr
      have hBt:=MR r.nl r.cl r.k r.m r.nn rd.ws.length cw r.y r.t r.row r.nc r.ks r.ms r.ns r.wss r.ys r.ts rd.ws (bQ s').1 r.on hon hz hr' rfl (by omega) (by omega)
      have hp:pB (.on s' n' true r rd.ws.length cw rd.ws)=(Hk s' n' true r rd.ws.length cw rd.ws).run:=by
        show (bif decide (r.row<r.m)&&decide (0<r.nn) then _ else _)=_
        rw [hr',cond_true]
      cases ho:cQ (bQ s').1 with
      | true =>
        rw [ho,cond_true] at hBt
        rw [cond_true]
        have h:=Ii (b:=true) hs (by omega) hw hBt (KU n' _ hi _ _ _ _ _ _ _ _ _ _ _ _ _ _ _ _ _ _ _)
        rw [←hp] at h
        cases hh:((((bo (bQ s').1).length:Nat):Int)==r.nn) with
        | true =>
          rw [hh] at h
          exact .inl ⟨by rw [←hn];exact hh,_,h,rfl,rfl,rfl,rfl,rfl,hm,hn,by rw [hrow],rfl,by rw [List.length_append],⟨hC.nl,hC.nc,hC.ks,hC.ms,hC.ns,hC.wss,hC.ys,hC.ts⟩⟩
        | false =>
          rw [hh] at h
          exact .inr ⟨by rw [←hn];exact hh,h⟩
      | false =>
        rw [ho,cond_false] at hBt
        have h:=Ii (b:=true) hs (by omega) hw hBt (KT n' _ hi _ _ _ _ _ _ _ _ _ _ _ _ _ _ _ _ _ _ _)
        rw [←hp] at h
        exact .inr ⟨rfl,h⟩
    | false =>
      rw [cond_false]
      have hr':(decide (r.row<r.m)&&decide (0<r.nn))=false:=by rw [hm,hn,hrow];exact hr
      have e:∀ {α:Type} (xs:List α) (f:jo→α),xs=rd.l.map f→xs.length=r.nl:=fun xs f h=>by rw [h,List.length_map,hC.nl]
      have hCt:=MQ r.nl r.cl r.k r.m r.nn rd.ws r.y r.t r.row r.ks r.ms r.ns r.wss r.ys r.ts (bQ s').1 r.on hon (by omega) hr' (by rw [hC.nl];omega) (by omega) (e _ _ hC.ks) (e _ _ hC.ms) (e _ _ hC.ns) (e _ _ hC.wss) (e _ _ hC.ys) (e _ _ hC.ts) rd.l
      have hnc:r.nl=r.nc:=by rw [hC.nl,hC.nc]
      rw [show bz r.nl r.cl r.k r.m r.nn rd.ws r.y r.t r.on r.row r.nl r.ks r.ms r.ns r.wss r.ys r.ts (bQ s').1=bz r.nl r.cl r.k r.m r.nn rd.ws r.y r.t r.on r.row r.nc r.ks r.ms r.ns r.wss r.ys r.ts (bQ s').1 by rw [←hnc]] at hCt
      have hp:pB (.on s' n' true r rd.ws.length cw rd.ws)=(uh s' n' true r rd.ws rd.ws.length).run:=by
        show (bif decide (r.row<r.m)&&decide (0<r.nn) then _ else _)=_
        rw [hr',cond_false]
      have h:=BY (b:=true) hs (by omega) hw hCt (Ji n' _ rd.ws rd.ws.length rfl hi _ _ _ _ _ _ _ _ _ _ _ _ _ _ _ _ _)
      rw [←hp] at h
      have hg:lO ⟨rd.l,r.m,r.nn,rd.ws,true,r.row⟩ (bQ s').1=lO rd (bQ s').1:=by
        unfold lO Je
        rw [hm,hn]
      rw [hg] at h
      cases hh:lO rd (bQ s').1 with
      | true =>
        rw [hh] at h
        refine .inl ⟨rfl,_,h,rfl,rfl,rfl,rfl,rfl,rfl,?_⟩
        rw [hm,hn]
        exact Jj hC (Je rd (bQ s').1) _ _ _ _ _ _ _ _
      | false =>
        rw [hh] at h
        exact .inr ⟨rfl,h⟩
theorem LG{σ:EF}{s:ByteArray}{n:Int}{rd:Rd}(hR:Nr σ s n rd)(hB:Bd s n rd)(hs:s.size≠0)(hw:(bQ s).2.2=false) :pB σ=some (.inr (.inl (.bad n false))):=by
  have h2:=hB.n1
  have h1:=hB.n0
  have key:∀ (b:Bool) (r:RS) (w:List Int) (nw:Nat),(uh s n b r w nw).run=some (.inr (.inl (.bad n false))):=by
    intro b r w nw
    unfold uh Hj
    rw [Ey s (by omega)]
    exact eR (sK hs) (cj (fw hw rfl))
  cases σ with
  | off s' n' b r w nw =>
    obtain ⟨rfl,rfl,_⟩:=hR
    exact key _ _ _ _
  | on s' n' b r nw cw ws =>
    obtain ⟨rfl,rfl,_⟩:=hR
    show (bif decide (r.row<r.m)&&decide (0<r.nn) then _ else _)=_
    cases (decide (r.row<r.m)&&decide (0<r.nn)) with
    | true =>
      rw [cond_true]
      unfold Hk KR
      rw [Ey s' (by omega)]
      exact eR (sK hs) (cj (fw hw rfl))
    | false=>exact key _ _ _ _
theorem MS{σ:EF}{s:ByteArray}{n:Int}{rd:Rd}(hR:Nr σ s n rd)(hs:s.size=0) :∃ e r,pB σ=some (.inr (.inl e))∧Ny e=(BT n true r).run∧r.on=rd.on∧EB r rd.l:=by
  cases σ with
  | off s' n' b r w nw =>
    obtain ⟨rfl,rfl,rfl,hon,hon',hnw,hC⟩:=hR
    exact ⟨.doff n' true r w nw,r,fw (yh hs) rfl,rfl,by rw [hon,hon'],hC⟩
  | on s' n' b r nw cw ws =>
    obtain ⟨rfl,rfl,rfl,hon,hon',hm,hn,hrow,rfl,rfl,hC⟩:=hR
    cases hr:(decide (r.row<r.m)&&decide (0<r.nn)) with
    | true =>
      refine ⟨.don n' true r,r,?_,rfl,by rw [hon,hon'],hC⟩
      show (bif decide (r.row<r.m)&&decide (0<r.nn) then _ else _)=_
      rw [hr,cond_true]
      exact fw (yh hs) rfl
    | false =>
      refine ⟨.doff n' true r rd.ws rd.ws.length,r,?_,rfl,by rw [hon,hon'],hC⟩
      show (bif decide (r.row<r.m)&&decide (0<r.nn) then _ else _)=_
      rw [hr,cond_false]
      exact fw (yh hs) rfl
def eK:Nat→ByteArray→List ByteArray×ByteArray
  | 0,s=>([],s)
  | f+1,s=>bif (bQ s).2.2 then ((bQ s).1::(eK f (bQ s).2.1).1,(eK f (bQ s).2.1).2) else ([],s)
def jH(s:ByteArray) :List ByteArray×ByteArray:=eK (s.size+1) s
def dN:Rd→Int→List ByteArray→Rd×Int×Bool
  | r,n,[]=>(r,n,true)
  | r,n,s::l=>bif (hZ r s).2 then dN (hZ r s).1 (n+1) l else (r,n,false)
inductive MT where
  | fail (n e:Int)
  | ok (l:List jo)
def LH:Rd:=⟨[],0,0,[],false,0⟩
def F2(p:Rd×Int×Bool)(rest:ByteArray) :MT :=
  bif p.2.2 then bif Nat.beq rest.size 0 then bif p.1.on then .fail p.2.1 4 else bif Nat.blt 64 p.1.l.length then .fail 0 3 else .ok p.1.l else .fail p.2.1 4 else .fail p.2.1 4
def nV(s:ByteArray) :MT:=bif decide (8388608<s.size) then .fail 0 3 else F2 (dN LH 0 (jH s).1) (jH s).2
def Ns:ao→MT→Prop
  | .fail n e,.fail n' e'=>n=n'∧e=e'
  | .ok r,.ok l=>EB r l
  | _,_=>False
theorem BZ:∀ (f:Nat) (s:ByteArray) (σ:EF) (n:Int) (rd:Rd),s.size<f→Nr σ s n rd→Bd s n rd→∃ e x,dH pB σ=some (.inl e)∧Ny e=some (.inr x)∧Ns x (F2 (dN rd n (eK f s).1) (eK f s).2)
  | 0,s,σ,n,rd,hf,hR,hB=>by omega
  | f + 1, s, σ, n, rd, hf, hR, hB => by
    by_cases hs:s.size=0
    · obtain ⟨e,r,h1,h2,h3,hC⟩:=MS hR hs
      have hcut:(bQ s).2.2=false:=by
        have:s.data.toList=[]:=List.eq_nil_of_length_eq_zero (by simpa using hs)
        unfold bQ
        rw [this,if_pos (by decide)]
      have he:eK (f+1) s=([],s):=by rw [eK,hcut];rfl
      rw [he]
      have hs0:Nat.beq s.size 0=true:=by rw [hs];rfl
      simp only [dN,F2,hs0,cond_true]
      cases hon:rd.on with
      | true =>
        refine ⟨e,.fail n 4,kW h1,?_,?_⟩
        · rw [h2];exact cu (eR (by rw [h3,hon]) rfl)
        · simp only [cond_true];exact ⟨rfl,rfl⟩
      | false =>
        simp only [cond_false]
        by_cases h64:64<rd.l.length
        · refine ⟨e,.fail 0 3,kW h1,?_,?_⟩
          · rw [h2];exact cu (fw (by rw [h3,hon]) (eR (decide_eq_true (by rw [hC.nl];omega)) rfl))
          · rw [show Nat.blt 64 rd.l.length=true from zL.2 h64];exact ⟨rfl,rfl⟩
        · refine ⟨e,.ok r,kW h1,?_,?_⟩
          · rw [h2];exact cu (fw (by rw [h3,hon]) (fw (decide_eq_false (by rw [hC.nl];omega)) rfl))
          · rw [show Nat.blt 64 rd.l.length=false by rw [←Bool.not_eq_true,zL];exact h64];exact hC
    · cases hw:(bQ s).2.2 with
      | false =>
        have h1:=LG hR hB hs hw
        have he:eK (f+1) s=([],s):=by rw [eK,hw];rfl
        rw [he]
        refine ⟨_,.fail n 4,kW h1,ct rfl,?_⟩
        have hs0:Nat.beq s.size 0=false:=by rw [←Bool.not_eq_true,Nat.beq_eq];exact hs
        simp only [dN,F2,hs0,cond_true,cond_false]
        exact ⟨rfl,rfl⟩
      | true =>
        have he:eK (f+1) s=((bQ s).1::(eK f (bQ s).2.1).1,(eK f (bQ s).2.1).2):=by rw [eK,hw];rfl
        have hc:=pz hw
        rw [he]
        rcases LE hR hB hs hw with ⟨ht,σ',h1,hR'⟩ | ⟨ht,h1⟩
        · obtain ⟨e,x,q1,q2,q3⟩:=BZ f (bQ s).2.1 σ' (n+1) _ (by omega) hR' (LD hB hw ht)
          refine ⟨e,x,by rw [AS h1];exact q1,q2,?_⟩
          simp only [dN,ht,cond_true]
          exact q3
        · refine ⟨_,.fail n 4,kW h1,ct rfl,?_⟩
          simp only [dN,ht,cond_false,F2]
          exact ⟨rfl,rfl⟩
theorem zz(s:ByteArray) :∃ x,aq s=some x∧Ns x (nV s):=by
  unfold aq nV
  by_cases h:8388608<s.size
  · rw [decide_eq_true h]
    exact ⟨.fail 0 3,bW (an rfl (bT (eR (decide_eq_true (by omega)) rfl))),rfl,rfl⟩
  · rw [decide_eq_false h,cond_false]
    obtain ⟨e,x,q1,q2,q3⟩:=BZ (s.size+1) s (.off s 0 true M0 [] 0) 0 LH (by omega) ⟨rfl,rfl,rfl,rfl,rfl,rfl,⟨rfl,rfl,rfl,rfl,rfl,rfl,rfl,rfl⟩⟩ ⟨by decide,by omega,by decide,by decide,by decide,by show 0+s.size≤_;omega⟩
    exact ⟨x,bW (an rfl (an (fw (decide_eq_false (by omega)) rfl) (an q1 q2))),q3⟩
theorem yN:∀ (a b:List UInt8),(∀ c∈a,c≠10)→Lib.indexByte (a++10::b) 10=(a.length:Int)
  | [],b,_=>by simp [Lib.indexByte]
  | c::a,b,h=>by
    have ih:=yN a b fun x hx=>h x (List.mem_cons_of_mem _ hx)
    have hc:(c==10)=false:=beq_eq_false_iff_ne.2 (h c (List.mem_cons_self ..))
    rw [List.cons_append,Lib.indexByte,hc,ih]
    have:((a.length:Int) == -1)=false:=by rw [beq_eq_false_iff_ne];omega
    rw [this]
    simp
theorem wT:∀ (a:List UInt8),(∀ c∈a,c≠10)→Lib.indexByte a 10<0
  | [],_=>by decide
  | c::a,h=>by
    have ih:=wT a fun x hx=>h x (List.mem_cons_of_mem _ hx)
    have hge:=Lib.indexByte_ge a 10
    have hc:(c==10)=false:=beq_eq_false_iff_ne.2 (h c (List.mem_cons_self ..))
    rw [Lib.indexByte,hc]
    have e:Lib.indexByte a 10 = -1:=by omega
    rw [e]
    decide
theorem wU:∀ (l:List UInt8) (n:Nat),Lib.indexByte l 10=(n:Int)→n<l.length∧l=l.take n++10::l.drop (n+1)
  | [],n,h=>by simp [Lib.indexByte] at h
  | b::l,n,h=>by
    unfold Lib.indexByte at h
    have hge:=Lib.indexByte_ge l 10
    split at h
    · rename_i hb
      have hb:b=10:=eq_of_beq hb
      have:n=0:=by omega
      subst this
      subst hb
      exact ⟨by simp,by simp⟩
    · split at h
      · omega
      · rename_i h1
        obtain ⟨m,rfl⟩:∃ m,n=m+1:=⟨n-1,by
          have h2:Lib.indexByte l 10 ≠ -1:=fun e=>h1 (by rw [e];rfl)
          omega⟩
        obtain ⟨g1,g2⟩:=wU l m (by omega)
        refine ⟨by simp;omega,?_⟩
        rw [List.take_succ_cons,List.drop_succ_cons,List.cons_append,←g2]
def zA(s:ByteArray) :Prop:=∀ c∈s.data.toList,c≠10
theorem KV{s x t:ByteArray}(h:s.data.toList=x.data.toList++10::t.data.toList)(hx:zA x) :bQ s=(x,t,true):=by
  have hi:=yN x.data.toList t.data.toList hx
  rw [←h] at hi
  have hxs:x.data.toList.length=x.size:=by simp
  have hts:t.data.toList.length=t.size:=by simp
  have hss:s.data.toList.length=s.size:=by simp
  have hl:=congrArg List.length h
  rw [List.length_append,List.length_cons,hxs,hts,hss] at hl
  unfold bQ
  rw [hi,if_neg (by omega)]
  have e1:s.extract 0 ((x.data.toList.length:Int)).toNat=x:=by
    apply lm
    rw [cD,h]
    simp
  have e2:s.extract (((x.data.toList.length:Int)).toNat+1) s.size=t:=by
    apply lm
    rw [cD,h,Int.toNat_natCast]
    have:(x.data.toList++10::t.data.toList).drop (x.data.toList.length+1)=t.data.toList:=by
      rw [List.drop_append]
      simp
    rw [this,List.take_of_length_le (by omega)]
  rw [e1,e2]
theorem Jk{s:ByteArray}(h:zA s) :(bQ s).2.2=false:=by
  unfold bQ
  rw [if_pos (wT _ h)]
theorem wV:∀ (L:List ByteArray) (f:Nat) (s rest:ByteArray),s.size<f→s.data.toList=kA L++rest.data.toList→(∀ x∈L,zA x)→zA rest→eK f s=(L,rest)
  | [],0,s,rest,hf,h,hL,hr=>by omega
  | [],f+1,s,rest,hf,h,hL,hr=>by
    have e:s=rest:=lm (by simpa [kA] using h)
    subst e
    rw [eK,Jk hr]
    rfl
  | x::L,0,s,rest,hf,h,hL,hr=>by omega
  | x::L,f+1,s,rest,hf,h,hL,hr=>by
    have h':s.data.toList=x.data.toList++10::(⟨(kA L++rest.data.toList).toArray⟩:ByteArray).data.toList:=by
      rw [h]
      simp [kA,Lp]
    have hc:=KV h' (hL x (List.mem_cons_self ..))
    have hz:=pz (s:=s) (by rw [hc])
    rw [hc] at hz
    have ih:=wV L f ⟨(kA L++rest.data.toList).toArray⟩ rest (by simp only [] at hz;omega) (by simp) (fun y hy=>hL y (List.mem_cons_of_mem _ hy)) hr
    rw [eK,hc]
    simp only [cond_true,ih]
theorem CU(L:List ByteArray)(s:ByteArray)(h:s.data.toList=kA L)(hL:∀ x∈L,zA x) :jH s=(L,ByteArray.empty) :=
  wV L (s.size+1) s ByteArray.empty (by omega) (by rw [h];simp) hL (fun c hc=>by simp at hc)
theorem yO:∀ (f:Nat) (s:ByteArray),s.size<f→s.data.toList=kA (eK f s).1++(eK f s).2.data.toList
  | 0,s,h=>by omega
  | f + 1, s, h => by
    rw [eK]
    cases hw:(bQ s).2.2 with
    | false=>simp [kA]
    | true =>
      have hz:=pz hw
      have ih:=yO f (bQ s).2.1 (by omega)
      have e:s.data.toList=(bQ s).1.data.toList++10::(bQ s).2.1.data.toList:=by
        have hge:=Lib.indexByte_ge s.data.toList 10
        unfold bQ at hw ⊢
        by_cases hneg:Lib.indexByte s.data.toList 10<0
        · rw [if_pos hneg] at hw;cases hw
        · rw [if_neg hneg]
          obtain ⟨n,hn⟩:=Int.eq_ofNat_of_zero_le (Int.not_lt.1 hneg)
          have hn:Lib.indexByte s.data.toList 10=(n:Int):=hn
          obtain ⟨g1,g2⟩:=wU _ n hn
          have hss:s.data.toList.length=s.size:=by simp
          simp only [hn,Int.toNat_natCast,cD,Nat.sub_zero,List.drop_zero]
          rw [List.take_of_length_le (l:=List.drop (n+1) s.data.toList) (by rw [List.length_drop];omega)]
          exact g2
      simp only [cond_true]
      conv=>lhs;rw [e,ih]
      simp [kA,Lp]
theorem EC(s:ByteArray) :s.data.toList=kA (jH s).1++(jH s).2.data.toList:=yO (s.size+1) s (by omega)
def mO:List (List UInt8)→List UInt8
  | []=>[]
  | [x]=>x
  | x::y::r=>x++32::mO (y::r)
theorem zN:∀ l:List ByteArray,pq l=mO (l.map fun x=>x.data.toList)
  | []=>rfl
  | [x]=>rfl
  | x::y::r=>by
    have:=zN (y::r)
    simp only [List.map_cons] at this ⊢
    rw [pq,mO,this]
theorem yP:∀ l:List UInt8,mO (aG l)=l
  | []=>rfl
  | c::r=>by
    have ih:=yP r
    have hc:=rP r
    by_cases h:c=32
    · subst h
      rw [xV,hc,mO,←hc,ih]
      rfl
    · rw [rO h]
      cases hr:(aG r).tail with
      | nil =>
        rw [hr] at hc
        rw [hc,mO] at ih
        rw [mO,ih]
      | cons y t =>
        rw [hr] at hc
        rw [hc,mO] at ih
        rw [mO,List.cons_append,ih]
theorem sd:∀ l:List (List UInt8),l≠[]→(∀ x∈l,∀ c∈x,c≠32)→aG (mO l)=l
  | [],h,_=>absurd rfl h
  | [x],_,h=>fH x (h x (List.mem_cons_self ..))
  | x::y::r,_,h=>by
    have ih:=sd (y::r) (by simp) fun z hz=>h z (List.mem_cons_of_mem _ hz)
    rw [mO,lh _ _ (h x (List.mem_cons_self ..)),ih]
theorem Hn{w:List UInt8}(h:wo w=true) :ba ((kM w:Nat):Int)=⟨w.toArray⟩:=by
  unfold wo at h
  rw [Bool.and_eq_true,List.all_eq_true] at h
  have h16:=of_decide_eq_true h.1
  have:=FV (s:=⟨w.toArray⟩) (by simpa using h.2) (by show w.toArray.size=16;simpa using h16)
  simpa using this
theorem wW:∀ (l:List (List UInt8)) (x:List Int),eE l=some x→(x.map ba).map (fun s=>s.data.toList)=l
  | [],x,h=>by cases h;rfl
  | w::l,x,h=>by
    rw [eE] at h
    cases hb:wo w with
    | false=>rw [hb,cond_false] at h;cases h
    | true =>
      rw [hb,cond_true,Option.map_eq_some_iff] at h
      obtain ⟨y,hy,rfl⟩:=h
      have ih:=wW l y hy
      simp only [List.map_cons,ih,Hn hb]
theorem Ho{s:ByteArray}(h:cQ s=true) :qS (bo s)=s:=by
  unfold cQ at h
  obtain ⟨x,hx⟩:=Option.isSome_iff_exists.1 h
  have hf:bo s=x:=by rw [bo,hx];rfl
  rw [qs] at hx
  have:=wW _ _ hx
  rw [hf]
  apply lm
  rw [qS,ox,zN,this]
  simpa using yP s.data.toList
theorem KW(w:Int)(h:0≤w∧w<18446744073709551616) :((kM (ba w).data.toList:Nat):Int)=w:=by
  rw [FY h.1 h.2];omega
theorem yQ:∀ ws:List Int,(∀ w∈ws,0≤w∧w<18446744073709551616)→eE ((ws.map ba).map fun s=>s.data.toList)=some ws
  | [],_=>rfl
  | w::ws,h=>by
    have ih:=yQ ws fun x hx=>h x (List.mem_cons_of_mem _ hx)
    have hw:=h w (List.mem_cons_self ..)
    simp only [List.map_cons,eE,Id,cond_true,KW w hw] at ih ⊢
    rw [ih]
    rfl
theorem Jl(ws:List Int)(hne:ws≠[])(h:∀ w∈ws,0≤w∧w<18446744073709551616) :nE (qS ws)=some ws:=by
  rw [qs,qS,ox,zN]
  simp only []
  rw [sd _ (by simpa using hne)]
  · exact yQ ws h
  · intro x hx
    rw [List.map_map,List.mem_map] at hx
    obtain ⟨w,_,rfl⟩:=hx
    exact Bu w
theorem pA{v:Int}(h:0≤v∧v≤512) :cV (bP v)=v∧(∀ c∈(bP v).data.toList,c≠32)∧∀ c∈(bP v).data.toList,c≠10:=by
  have hall:∀ i:Fin 513,cV (bP ((i.val:Nat):Int))=((i.val:Nat):Int)∧(∀ c∈(bP ((i.val:Nat):Int)).data.toList,c≠32)∧∀ c∈(bP ((i.val:Nat):Int)).data.toList,c≠10:=by decide +kernel
  obtain ⟨n,rfl⟩:=Int.eq_ofNat_of_zero_le h.1
  exact hall ⟨n,by omega⟩
def MU:ByteArray:=ByteArray.mk #[109,97,116,114,105,120]
theorem B0(m n:Int) :(en m n).data.toList=mO [MU.data.toList,(bP m).data.toList,(bP n).data.toList]:=by
  simp [en,xA,MU,mO]
theorem vm{m n:Int}(hm:0≤m∧m≤512)(hn:0≤n∧n≤512) :aA (en m n)=[MU,bP m,bP n]:=by
  symm
  apply rQ
  rw [B0,sd]
  · rfl
  · simp
  · intro x hx
    simp only [List.mem_cons,List.not_mem_nil,or_false] at hx
    rcases hx with rfl | rfl | rfl
    · decide
    · exact (pA hm).2.1
    · exact (pA hn).2.1
theorem KX{n:Int}(h:0≤n∧n≤512) :Ih n=true:=by
  unfold Ih
  rw [decide_eq_true (show n≥0 from h.1),decide_eq_true h.2]
  rfl
theorem Jm{m n:Int}(hm:0≤m∧m≤512)(hn:0≤n∧n≤512) :(aA (en m n)).length=3∧EH (en m n)=m∧Ez (en m n)=n∧EA (en m n)=true:=by
  have h1:EH (en m n)=m:=by
    unfold EH
    rw [vm hm hn]
    exact (pA hm).1
  have h2:Ez (en m n)=n:=by
    unfold Ez
    rw [vm hm hn]
    exact (pA hn).1
  refine ⟨by rw [vm hm hn];rfl,h1,h2,?_⟩
  unfold EA
  rw [h1,h2,KX hm,KX hn,decide_eq_true rfl]
  rfl
theorem Jn{s:ByteArray}(h:EA s=true) :(0≤EH s∧EH s≤512)∧(0≤Ez s∧Ez s≤512)∧en (EH s) (Ez s)=s:=by
  unfold EA at h
  cases hm:Ih (EH s) with
  | false=>rw [hm] at h;cases h
  | true =>
    cases hn:Ih (Ez s) with
    | false=>rw [hm,hn] at h;cases h
    | true =>
      rw [hm,hn] at h
      exact ⟨sJ hm,sJ hn,of_decide_eq_true h⟩
theorem LI{m n:Int}(hm:0≤m∧m≤512)(hn:0≤n∧n≤512) :zA (en m n):=by
  intro c hc
  rw [B0] at hc
  simp only [mO,List.mem_append,List.mem_cons] at hc
  rcases hc with h | rfl | h | rfl | h
  · revert c;decide
  · decide
  · exact (pA hm).2.2 c h
  · decide
  · exact (pA hn).2.2 c h
theorem Ij(t:Int) :∀ c∈(ba t).data.toList,c≠10:=by
  intro c hc q
  subst q
  have:=sI t _ hc
  revert this
  decide
theorem Dp:∀ (l:List (List UInt8)) (c:UInt8),c∈mO l→c=32∨∃ x∈l,c∈x
  | [],c,h=>by cases h
  | [x],c,h=>.inr ⟨x,List.mem_cons_self ..,h⟩
  | x::y::r,c,h=>by
    rw [mO,List.mem_append,List.mem_cons] at h
    rcases h with h | h | h
    · exact .inr ⟨x,List.mem_cons_self ..,h⟩
    · exact .inl h
    · rcases Dp (y::r) c h with h | ⟨z,hz,h⟩
      · exact .inl h
      · exact .inr ⟨z,List.mem_cons_of_mem _ hz,h⟩
theorem MV(ws:List Int) :zA (qS ws):=by
  intro c hc
  rw [qS,ox,zN] at hc
  rcases Dp _ c (by simpa using hc) with rfl | ⟨x,hx,h⟩
  · decide
  · rw [List.mem_map] at hx
    obtain ⟨w,_,rfl⟩:=hx
    exact Ij w c h
theorem LJ{k y t:Int}(h:ff k y t=true) :zA (fk k y t):=by
  have two:∀ (w:ByteArray) (y:Int),(∀ c∈w.data.toList,c≠10)→(y=1∨y=2∨y=3)→zA (w++(xA++bP y)):=by
    intro w y hw hy c hc
    have hh:∀ c∈(bP y).data.toList,c≠10:=by rcases hy with rfl | rfl | rfl<;>decide +kernel
    simp only [xA,ByteArray.data_append,Array.toList_append,List.mem_append,List.mem_cons,List.not_mem_nil,or_false] at hc
    rcases hc with h | rfl | h
    · exact hw c h
    · decide
    · exact hh c h
  have three:∀ (w:ByteArray) (y t:Int),(∀ c∈w.data.toList,c≠10)→(y=1∨y=2∨y=3)→zA ((w++(xA++bP y))++(xA++ba t)):=by
    intro w y t hw hy c hc
    rw [ByteArray.data_append,Array.toList_append,List.mem_append] at hc
    rcases hc with h | h
    · exact two w y hw hy c h
    · simp only [xA,ByteArray.data_append,Array.toList_append,List.mem_append,List.mem_cons,List.not_mem_nil,or_false] at h
      rcases h with rfl | h
      · decide
      · exact Ij t c h
  rcases oz h with ⟨rfl,hh,rfl⟩ | ⟨rfl,rfl,rfl⟩ | ⟨rfl,hh,rfl⟩ | ⟨rfl,hh⟩ | ⟨rfl,hh⟩ | ⟨rfl,hh,rfl⟩
  · exact two (ByteArray.mk #[101,105,103,101,110]) y (by decide) hh
  · intro c hc
    have hl:fk 2 0 0=ByteArray.mk #[118,97,108,117,101,115]:=rfl
    rw [hl] at hc
    revert c
    decide
  · exact two (ByteArray.mk #[115,118,100]) y (by decide) (by omega)
  · exact three (ByteArray.mk #[114,97,110,107]) y t (by decide) (by omega)
  · exact three (ByteArray.mk #[105,110,118,101,114,115,101]) y t (by decide) (by omega)
  · exact two (ByteArray.mk #[99,111,110,100]) y (by decide) (by omega)
theorem sL:∀ (A B:List ByteArray) (r:Rd) (n:Int) (r':Rd) (n':Int),dN r n A=(r',n',true)→dN r n (A++B)=dN r' n' B
  | [],B,r,n,r',n',h=>by cases h;rfl
  | s::A,B,r,n,r',n',h=>by
    rw [dN] at h
    rw [List.cons_append,dN]
    cases ht:(hZ r s).2 with
    | true =>
      rw [ht,cond_true] at h
      rw [cond_true]
      exact sL A B _ _ _ _ h
    | false=>rw [ht,cond_false] at h;cases h
def nW(ws:List Int)(n:Nat)(i:Nat) :ByteArray:=qS ((ws.drop (i*n)).take n)
def Hp(ws:List Int) :Prop:=∀ w∈ws,0≤w∧w<18446744073709551616
theorem Dq(l:List jo)(m:Int)(n:Nat)(ws:List Int)(hn:0<n)(hu:Hp ws)(N:Int) :∀ (j:Nat),(j:Int)≤m→j*n≤ws.length →
    dN ⟨l,m,n,[],true,0⟩ N ((List.range j).map (nW ws n))=(⟨l,m,n,ws.take (j*n),true,j⟩,N+j,true)
  | 0,_,_=>by simp [dN]
  | j+1,hj,hl=>by
    have e:(j+1)*n=j*n+n:=by rw [Nat.add_mul,Nat.one_mul]
    have ih:=Dq l m n ws hn hu N j (by omega) (by omega)
    rw [List.range_succ,List.map_append,List.map_cons,List.map_nil,sL _ _ _ _ _ _ ih,dN]
    have hch:((ws.drop (j*n)).take n).length=n:=by rw [List.length_take,List.length_drop];omega
    have hne:(ws.drop (j*n)).take n≠[]:=by
      intro q
      rw [q] at hch
      simp at hch
      omega
    have hr:=Jl ((ws.drop (j*n)).take n) hne fun w hw=>hu w (List.mem_of_mem_drop (List.mem_of_mem_take hw))
    have ho:cQ (nW ws n j)=true:=by rw [cQ,nW,hr];rfl
    have hf:bo (nW ws n j)=(ws.drop (j*n)).take n:=by rw [bo,nW,hr];rfl
    have hc:(decide (((j:Nat):Int)<m)&&decide (0<((n:Nat):Int)))=true:=by
      rw [decide_eq_true (by omega),decide_eq_true (by omega)];rfl
    have ht:hZ ⟨l,m,n,ws.take (j*n),true,j⟩ (nW ws n j)=(⟨l,m,n,ws.take (j*n)++(ws.drop (j*n)).take n,true,(j:Int)+1⟩,true):=by
      unfold hZ
      simp only [cond_true,hc,ho,hf,hch]
      rw [beq_self_eq_true]
    rw [ht]
    simp only [cond_true,dN]
    have e2:ws.take (j*n)++(ws.drop (j*n)).take n=ws.take ((j+1)*n):=by rw [e,List.take_add]
    rw [e2,Int.natCast_add]
    congr 2
    · omega
def jo.u64(a:jo) :Prop:=Hp a.ws∧0≤a.t∧a.t<18446744073709551616
theorem F3{k y t:Int}(h:ff k y t=true) :∃ j:Nat,k=(j:Int):=by
  rcases oz h with ⟨rfl,_⟩ | ⟨rfl,_⟩ | ⟨rfl,_⟩ | ⟨rfl,_⟩ | ⟨rfl,_⟩ | ⟨rfl,_⟩
  · exact ⟨1,rfl⟩
  · exact ⟨2,rfl⟩
  · exact ⟨3,rfl⟩
  · exact ⟨4,rfl⟩
  · exact ⟨5,rfl⟩
  · exact ⟨6,rfl⟩
theorem KY{k y t:Int}(h:ff k y t=true)(h1:0≤t)(h2:t<18446744073709551616) :∃ j:Nat,k=(j:Int)∧CI (fk k y t)=some (j,y,t):=by
  obtain ⟨j,rfl⟩:=F3 h
  obtain ⟨q1,q2,q3,_,_⟩:=NK h h1 h2
  refine ⟨j,rfl,?_⟩
  unfold CI
  simp only []
  rw [q1,q2,q3]
  unfold MZ
  rw [h,decide_eq_true rfl]
  rfl
theorem yi{k m n:Int}{len:Nat}{y t:Int}(h:qR k m n len y t=true) :(0≤m∧m≤512)∧(0≤n∧n≤512)∧(len:Int)=m*n∧ff k y t=true:=by
  obtain ⟨h1,h2,h3,h4,h5,_,_⟩:=lV h
  refine ⟨⟨h1,h2⟩,⟨h3,h4⟩,h5,?_⟩
  unfold qR at h
  simp only [Bool.cond_eq_ite,Bool.if_false_right,Bool.and_eq_true,decide_eq_true_eq,beq_iff_eq,ge_iff_le] at h
  exact h.2.2.2.2.2.1
theorem KZ(a:jo)(hm:a.may=true)(hu:a.u64)(r:Rd)(hr:r.on=false)(N:Int) :∃ r',dN r N a.lines=(r',N+a.lines.length,true)∧r'.on=false∧r'.l=r.l++[a]:=by
  obtain ⟨k,m,n,ws,y,t⟩:=a
  obtain ⟨hmr,hnr,hlen,hask⟩:=yi hm
  simp only [] at hmr hnr hlen hask
  obtain ⟨hws,ht1,ht2⟩:=hu
  simp only [] at hws ht1 ht2
  obtain ⟨m',rfl⟩:=Int.eq_ofNat_of_zero_le hmr.1
  obtain ⟨n',rfl⟩:=Int.eq_ofNat_of_zero_le hnr.1
  obtain ⟨g1,g2,g3,g4⟩:=Jm hmr hnr
  have hmay:qR k m' n' ws.length y t=true:=hm
  have hl:jo.lines ⟨k,m',n',ws,y,t⟩=en m' n'::((bif decide ((n':Int)>0) then (List.range m').map (nW ws n') else [])++[fk k y t]):=by
    show cz k m' n' ws y t=_
    unfold cz
    rw [hmay]
    rfl
  have hlen':ws.length=m'*n':=by
    have:((ws.length:Nat):Int)=((m'*n':Nat):Int):=by rw [Int.natCast_mul];exact hlen
    omega
  have h1:hZ r (en m' n')=(⟨r.l,m',n',[],true,0⟩,true):=by
    unfold hZ
    rw [hr,decide_eq_true g1,g2,g3,g4]
    rfl
  rw [hl,dN,h1]
  simp only [cond_true]

  have h2:∃ row:Int,dN ⟨r.l,m',n',[],true,0⟩ (N+1) (bif decide ((n':Int)>0) then (List.range m').map (nW ws n') else [])=(⟨r.l,m',n',ws,true,row⟩,N+1+(bif decide ((n':Int)>0) then (List.range m').map (nW ws n') else []).length,true)∧(decide (row<(m':Int))&&decide (0<(n':Int)))=false:=by
    by_cases h0:0<n'
    · have:=Dq r.l m' n' ws h0 hws (N+1) m' (Int.le_refl _) (by omega)
      rw [decide_eq_true (show (n':Int)>0 by omega)]
      refine ⟨m',?_,?_⟩
      · simp only [cond_true]
        rw [this,List.take_of_length_le (by omega),List.length_map,List.length_range]
      · rw [decide_eq_false (by omega),Bool.false_and]
    · have h00:n'=0:=by omega
      subst h00
      have hw0:ws=[]:=List.eq_nil_of_length_eq_zero (by simpa using hlen')
      subst hw0
      refine ⟨0,?_,?_⟩
      · simp [dN]
      · rw [show decide (0<((0:Nat):Int))=false from rfl,Bool.and_false]
  obtain ⟨row,h2,h3⟩:=h2
  rw [sL _ _ _ _ _ _ h2,dN]
  obtain ⟨j,rfl,hj⟩:=KY hask ht1 ht2
  have h4:hZ ⟨r.l,m',n',ws,true,row⟩ (fk (j:Int) y t)=(⟨r.l++[⟨j,m',n',ws,y,t⟩],m',n',ws,false,row⟩,true):=by
    unfold hZ
    simp only [cond_true,h3,cond_false]
    have hE:vl (fk (j:Int) y t)=0:=by unfold vl;rw [hj]
    have hV:jW (fk (j:Int) y t)=(j,y,t):=by unfold jW;rw [hj];rfl
    unfold lO Je
    rw [hE,hV,decide_eq_true rfl]
    simp only [cond_true]
    congr 1
  rw [h4]
  refine ⟨⟨r.l++[⟨j,m',n',ws,y,t⟩],m',n',ws,false,row⟩,?_,rfl,rfl⟩
  simp only [cond_true,dN,List.length_cons,List.length_append,List.length_nil]
  congr 2
  omega
theorem Dr:∀ (l:List jo) (r:Rd) (N:Int),(∀ a∈l,a.may=true∧a.u64)→r.on=false→∃ r' N',dN r N (l.map jo.lines).flatten=(r',N',true)∧r'.on=false∧r'.l=r.l++l
  | [],r,N,_,hr=>⟨r,N,rfl,hr,by simp⟩
  | a::l,r,N,h,hr=>by
    obtain ⟨r1,h1,h2,h3⟩:=KZ a (h a (List.mem_cons_self ..)).1 (h a (List.mem_cons_self ..)).2 r hr N
    obtain ⟨r2,N2,g1,g2,g3⟩:=Dr l r1 _ (fun b hb=>h b (List.mem_cons_of_mem _ hb)) h2
    refine ⟨r2,N2,?_,g2,by rw [g3,h3];simp⟩
    rw [List.map_cons,List.flatten_cons,sL _ _ _ _ _ _ h1,g1]
theorem K0{a:jo}(h:a.may=true) :∀ x∈a.lines,zA x:=by
  obtain ⟨k,m,n,ws,y,t⟩:=a
  obtain ⟨hmr,hnr,hlen,hask⟩:=yi h
  simp only [] at hmr hnr hlen hask
  have hmay:qR k m n ws.length y t=true:=h
  intro x hx
  have hx:x∈cz k m n ws y t:=hx
  unfold cz at hx
  rw [hmay,cond_true,List.mem_cons,List.mem_append,List.mem_singleton] at hx
  rcases hx with rfl | hx | rfl
  · exact LI hmr hnr
  · cases hd:decide (n>0) with
    | true =>
      rw [hd,cond_true,List.mem_map] at hx
      obtain ⟨i,_,rfl⟩:=hx
      exact MV _
    | false=>rw [hd,cond_false] at hx;cases hx
  · exact LJ hask
theorem Dt(L:List (List ByteArray)) :kA L.flatten=(L.map kA).flatten:=by
  induction L with
  | nil=>rfl
  | cons x L ih=>simp only [List.flatten_cons,List.map_cons,←ih,kA,List.map_append,List.flatten_append]
theorem Hq(l:List jo)(h:∀ a∈l,a.may=true∧a.u64)(s:ByteArray)(hs:s.data.toList=dj l)(hz:s.size≤8388608) :nV s=bif Nat.blt 64 l.length then .fail 0 3 else .ok l:=by
  have hL:∀ x∈(l.map jo.lines).flatten,zA x:=by
    intro x hx
    rw [List.mem_flatten] at hx
    obtain ⟨L,hL,hx⟩:=hx
    rw [List.mem_map] at hL
    obtain ⟨a,ha,rfl⟩:=hL
    exact K0 (h a ha).1 x hx
  have he:s.data.toList=kA (l.map jo.lines).flatten:=by
    rw [hs,Dt,List.map_map]
    rfl
  have hl:=CU _ s he hL
  obtain ⟨r,N,h1,h2,h3⟩:=Dr l LH 0 h rfl
  unfold nV
  rw [decide_eq_false (by omega),cond_false,hl]
  simp only [h1,F2,cond_true,h2,cond_false]
  have h3:r.l=l:=by rw [h3];rfl
  rw [h3]
  rfl
def Rd.lines(r:Rd) :List ByteArray:=(r.l.map jo.lines).flatten++(bif r.on then en r.m r.n::(bif decide (r.n>0) then (List.range r.row.toNat).map (nW r.ws r.n.toNat) else []) else [])
structure LK (r:Rd):Prop where
  may:∀ a∈r.l,a.may=true
  on:r.on=true→(0≤r.m∧r.m≤512)∧(0≤r.n∧r.n≤512)∧0≤r.row∧r.row≤r.m∧(r.ws.length:Int)=r.row*r.n∧(r.n=0→r.row=0)
theorem Jo{s:ByteArray}(h:vl s=0) :fk (jW s).1 (jW s).2.1 (jW s).2.2=s:=by
  unfold vl at h
  unfold jW
  cases hu:CI s with
  | none=>rw [hu] at h;exact absurd h (by decide)
  | some p =>
    unfold CI at hu
    simp only [] at hu
    cases hc:MZ s (px ((aA s).getD 0 ByteArray.empty)) (yS (px ((aA s).getD 0 ByteArray.empty)) (aA s)) (tS (px ((aA s).getD 0 ByteArray.empty)) (aA s)) with
    | false=>rw [hc,cond_false] at hu;cases hu
    | true =>
      rw [hc,cond_true] at hu
      cases hu
      unfold MZ at hc
      rw [Bool.and_eq_true] at hc
      exact of_decide_eq_true hc.2
theorem Hr{r:Rd}(hO:LK r){s:ByteArray}(ht:(hZ r s).2=true) :LK (hZ r s).1∧(hZ r s).1.lines=r.lines++[s]:=by
  unfold hZ at ht ⊢
  cases hon:r.on with
  | false =>
    rw [hon,cond_false] at ht
    rw [cond_false]
    cases h3:decide ((aA s).length=3) with
    | false=>rw [h3,cond_false] at ht;cases ht
    | true =>
      rw [h3,cond_true] at ht
      rw [cond_true]
      obtain ⟨h1,h2,h4⟩:=Jn ht
      refine ⟨⟨hO.may,fun _=>⟨h1,h2,Int.le_refl 0,h1.1,by simp,fun _=>rfl⟩⟩,?_⟩
      unfold Rd.lines
      rw [hon,cond_true,cond_false,h4]
      cases decide (Ez s>0)<;>simp
  | true =>
    rw [hon,cond_true] at ht
    rw [cond_true]
    obtain ⟨hm,hn,hr0,hr1,hw,hz⟩:=hO.on hon
    cases hr:(decide (r.row<r.m)&&decide (0<r.n)) with
    | true =>
      rw [hr,cond_true] at ht
      rw [cond_true]
      rw [Bool.and_eq_true] at hr
      have hlt:=of_decide_eq_true hr.1
      have hpos:=of_decide_eq_true hr.2
      cases ho:cQ s with
      | false=>rw [ho,cond_false] at ht;cases ht
      | true =>
        rw [ho,cond_true] at ht
        rw [cond_true]
        have hlen:(((bo s).length:Nat):Int)=r.n:=eq_of_beq ht
        obtain ⟨n',hn'⟩:=Int.eq_ofNat_of_zero_le hn.1
        obtain ⟨j,hj⟩:=Int.eq_ofNat_of_zero_le hr0
        have hwl:r.ws.length=j*n':=by
          have:((r.ws.length:Nat):Int)=((j*n':Nat):Int):=by rw [Int.natCast_mul,hw,hn',hj]
          omega
        have hul:(bo s).length=n':=by omega
        refine ⟨⟨hO.may,fun _=>⟨hm,hn,by show 0≤r.row+1;omega,by show r.row+1≤r.m;omega,?_,fun h=>by
          have h:r.n=0:=h
          omega⟩⟩,?_⟩
        · show ((r.ws++bo s).length:Int)=(r.row+1)*r.n
          rw [List.length_append,Int.natCast_add,hw,hlen,Int.add_mul,Int.one_mul]
        · unfold Rd.lines
          simp only [cond_true,hon]
          have hd:decide (r.n>0)=true:=decide_eq_true hpos
          rw [hd]
          simp only [cond_true]
          have e1:(r.row+1).toNat=j+1:=by omega
          have e2:r.row.toNat=j:=by omega
          have e3:r.n.toNat=n':=by omega
          rw [e1,e2,e3,List.range_succ,List.map_append]
          have hA:(List.range j).map (nW (r.ws++bo s) n')=(List.range j).map (nW r.ws n'):=by
            apply List.map_congr_left
            intro i hi
            have hi:=List.mem_range.1 hi
            have hle:(i+1)*n'≤j*n':=Nat.mul_le_mul_right _ hi
            rw [Nat.add_mul,Nat.one_mul] at hle
            unfold nW
            rw [List.drop_append_of_le_length (by omega),List.take_append_of_le_length (by rw [List.length_drop];omega)]
          have hB:nW (r.ws++bo s) n' j=s:=by
            unfold nW
            rw [List.drop_append_of_le_length (by omega),List.drop_of_length_le (by omega),List.nil_append,List.take_of_length_le (by omega)]
            exact Ho ho
          rw [hA]
          simp [hB]
    | false =>
      rw [hr,cond_false] at ht
      rw [cond_false]
      have hg:vl s=0∧(Je r s).may=true:=by
        unfold lO at ht
        cases he:decide (vl s=0) with
        | false=>rw [he] at ht;cases ht
        | true=>rw [he] at ht;exact ⟨of_decide_eq_true he,ht⟩
      obtain ⟨hE,hmay⟩:=hg
      refine ⟨⟨fun a ha=>?_,fun h=>by cases h⟩,?_⟩
      · rcases List.mem_append.1 ha with ha | ha
        · exact hO.may a ha
        · rw [List.mem_singleton] at ha
          subst ha
          exact hmay
      · unfold Rd.lines
        rw [hon]
        simp only [cond_true,cond_false,List.append_nil,List.map_append,List.map_cons,List.map_nil,List.flatten_append,List.flatten_cons,List.flatten_nil,List.append_assoc]
        congr 1
        show cz (jW s).1 r.m r.n r.ws (jW s).2.1 (jW s).2.2=_
        have hmay':qR (jW s).1 r.m r.n r.ws.length (jW s).2.1 (jW s).2.2=true:=hmay
        obtain ⟨_,_,hlen,_⟩:=yi hmay'
        unfold cz
        rw [hmay',Jo hE]
        simp only [cond_true,List.cons_append]
        congr 2
        by_cases h0:0<r.n
        · have hd:decide (r.n>0)=true:=decide_eq_true h0
          have hrow:r.row=r.m:=by
            rw [decide_eq_true h0,Bool.and_true] at hr
            have:=of_decide_eq_false hr
            omega
          rw [hd,hrow]
          rfl
        · have hd:decide (r.n>0)=false:=decide_eq_false h0
          rw [hd]
          rfl
theorem yT:∀ (L:List ByteArray) (r:Rd) (n:Int) (r':Rd) (n':Int),LK r→dN r n L=(r',n',true)→LK r'∧r'.lines=r.lines++L
  | [],r,n,r',n',hO,h=>by cases h;exact ⟨hO,by simp⟩
  | s::L,r,n,r',n',hO,h=>by
    rw [dN] at h
    cases ht:(hZ r s).2 with
    | false=>rw [ht,cond_false] at h;cases h
    | true =>
      rw [ht,cond_true] at h
      obtain ⟨h1,h2⟩:=Hr hO ht
      obtain ⟨g1,g2⟩:=yT L _ _ _ _ h1 h
      exact ⟨g1,by rw [g2,h2];simp⟩
theorem Hs{s : ByteArray}{l : List jo}(h : nV s = .ok l) : (∀ a ∈ l, a.may = true) ∧ l.length ≤ 64 ∧ s.data.toList = dj l ∧ s.size ≤ 8388608 := by
  unfold nV at h
  by_cases hz:8388608<s.size
  · rw [decide_eq_true hz] at h;cases h
  · rw [decide_eq_false hz,cond_false] at h
    cases hr:dN LH 0 (jH s).1 with | mk r p =>
    obtain ⟨n,g⟩:=p
    rw [hr] at h
    unfold F2 at h
    simp only [] at h
    cases g with
    | false=>rw [cond_false] at h;cases h
    | true =>
      rw [cond_true] at h
      cases hb:Nat.beq (jH s).2.size 0 with
      | false=>rw [hb,cond_false] at h;cases h
      | true =>
        rw [hb,cond_true] at h
        cases hon:r.on with
        | true=>rw [hon,cond_true] at h;cases h
        | false =>
          rw [hon,cond_false] at h
          cases h6:Nat.blt 64 r.l.length with
          | true=>rw [h6,cond_true] at h;cases h
          | false =>
            rw [h6,cond_false] at h
            cases h
            obtain ⟨g1,g2⟩:=yT _ LH 0 r n ⟨fun a ha=>(by cases ha),fun h=>(by cases h)⟩ hr
            refine ⟨g1.may,?_,?_,by omega⟩
            · have : ¬ 64<r.l.length:=fun q=>by rw [zL.2 q] at h6;cases h6
              omega
            · have ht:=EC s
              have hn:(jH s).2.data.toList=[]:=List.eq_nil_of_length_eq_zero (by
                have:=Nat.eq_of_beq_eq_true hb
                simpa using this)
              rw [hn,List.append_nil] at ht
              have e:r.lines=(r.l.map jo.lines).flatten:=by unfold Rd.lines;rw [hon];simp
              have e0:LH.lines=[]:=rfl
              rw [e,e0,List.nil_append] at g2
              rw [ht,←g2,Dt,List.map_map]
              rfl
structure ED (n:Nat) (ks ms ns:List Int) (wss:List (List Int)) (ys ts:List Int):Prop where
  k:ks.length=n
  m:ms.length=n
  o:ns.length=n
  w:wss.length=n
  y:ys.length=n
  t:ts.length=n
theorem Jp{r:RS}{l:List jo}(h:EB r l) :fx r.nl r.ks r.ms r.ns r.wss r.ys r.ts=l:=by
  unfold fx
  rw [h.nl,h.ks,h.ms,h.ns,h.wss,h.ys,h.ts]
  apply List.ext_getElem
  · simp
  · intro i h1 h2
    simp [List.getD_eq_getElem?_getD,List.getElem?_eq_getElem h2]
theorem nX{n:Nat}{ks ms ns:List Int}{wss:List (List Int)}{ys ts:List Int}{i:Nat}(h:i<n) :(fx n ks ms ns wss ys ts)[i]? = some ⟨ks.getD i 0,ms.getD i 0,ns.getD i 0,wss.getD i [],ys.getD i 0,ts.getD i 0⟩:=by
  unfold fx
  rw [List.getElem?_map,List.getElem?_range h]
  rfl
theorem LL(n:Nat)(ks ms ns:List Int)(wss:List (List Int))(ys ts:List Int)(hC:ED n ks ms ns wss ys ts) :∃ b,hU n ks ms ns wss ys ts=some (.r0 b)∧(b=false→n≤80∧∀ i,i<n→(wss.getD i []).length≤200):=by
  obtain ⟨h1,h2,h3,h4,h5,h6⟩:=hC
  have step:∀ i,i<n→i<81→(wss.getD i []).length≤200→kJ n ks ms ns wss ys ts i=some (.inl (i+1)):=by
    intro i hi h81 hw
    refine an (a:=true) (eR (decide_eq_true (by omega)) (congrArg (fun b=>some (Sum.inl b)) (decide_eq_true (by omega)))) ?_
    exact ct (au (by rw [fD];omega) (au (by rw [aT];omega) (au (by rw [aT];omega) (au (by rw [aT];omega) (au (by rw [aT];omega) (au (by rw [aT];omega) (au (by rw [aT];omega) (fw (decide_eq_false (by omega)) (au (by rw [bC];omega) rfl)))))))))
  unfold hU
  obtain ⟨N,hN⟩:∃ N,(N=n∧n<81)∨(N=81∧81≤n):=by
    by_cases h:n<81
    · exact ⟨n,.inl ⟨rfl,h⟩⟩
    · exact ⟨81,.inr ⟨rfl,by omega⟩⟩
  have go:∀ i,i<n→i<81→(nT n i).run=some (.inl true):=fun i h1 h2=>eR (decide_eq_true (by omega)) (congrArg (fun b=>some (Sum.inl b)) (decide_eq_true (by omega)))
  by_cases hall:∀ i,i<N→(wss.getD i []).length≤200
  · have stop:(nT n N).run=some (.inl false):=by
      rcases hN with ⟨rfl,h⟩ | ⟨rfl,h⟩
      · exact fw (decide_eq_false (by omega)) rfl
      · by_cases h2:81<n
        · exact eR (decide_eq_true (by omega)) rfl
        · exact fw (decide_eq_false (by omega)) rfl
    refine ⟨decide ((n:Int)>80),bW (an rfl (an (a:=()) (jw (fun j=>j) N rfl (fun j hj=>step j (by omega) (by omega) (hall j hj)) ?_) rfl)),fun hb=>?_⟩
    · exact an stop rfl
    · have:=of_decide_eq_false hb
      exact ⟨by omega,fun i hi=>hall i (by omega)⟩
  · obtain ⟨k,hk,hb,hg⟩:=Go.Plb.first_bad hall
    refine ⟨true,bW (an rfl (bT (jw (fun j=>j) k rfl (fun j hj=>step j (by omega) (by omega) (hg j hj)) ?_))),fun h=>by cases h⟩
    refine an (go k (by omega) (by omega)) ?_
    exact ct (au (by rw [fD];omega) (au (by rw [aT];omega) (au (by rw [aT];omega) (au (by rw [aT];omega) (au (by rw [aT];omega) (au (by rw [aT];omega) (au (by rw [aT];omega) (eR (decide_eq_true (by omega)) rfl))))))))
theorem LM{l:List jo}(h:lX l=0) :(∀ a∈l,a.may=true)∧l.length≤64∧(dj l).length≤8388608∧dJ l=⟨(dj l).toArray⟩:=by
  unfold lX at h
  unfold dJ
  by_cases h1:l.any (fun a=>!a.may)=true
  · rw [if_pos h1] at h;exact absurd h (by decide)
  · rw [if_neg h1] at h ⊢
    by_cases h2:64<l.length
    · rw [if_pos h2] at h;exact absurd h (by decide)
    · rw [if_neg h2] at h ⊢
      by_cases h3:8388608<(dj l).length
      · rw [if_pos h3] at h;exact absurd h (by decide)
      · rw [if_neg h3]
        refine ⟨fun a ha=>?_,by omega,by omega,rfl⟩
        have h1:l.any (fun a=>!a.may)=false:=by simpa using h1
        have:=List.any_eq_false.1 h1 a ha
        simpa using this
theorem LN{l:List jo}(h1:∀ a∈l,a.may=true)(h2:l.length≤64)(h3:(dj l).length≤8388608) :lX l=0∧dJ l=⟨(dj l).toArray⟩:=by
  have ha : ¬ l.any (fun a=>!a.may)=true:=by
    intro q
    obtain ⟨a,ha,hb⟩:=List.any_eq_true.1 q
    rw [h1 a ha] at hb
    cases hb
  unfold lX dJ
  rw [if_neg ha,if_neg ha,if_neg (by omega),if_neg (by omega),if_neg (by omega),if_neg (by omega)]
  exact ⟨rfl,rfl⟩
theorem Jq{s:ByteArray}{n e:Int}(h:nV s=.fail n e) :e=3∨e=4:=by
  unfold nV at h
  by_cases hz:8388608<s.size
  · rw [decide_eq_true hz] at h;cases h;exact .inl rfl
  · rw [decide_eq_false hz,cond_false] at h
    unfold F2 at h
    repeat' (first | (cases h;first | done | (exact .inl rfl) | (exact .inr rfl)) | (generalize (dN LH 0 (jH s).1).2.2=b1 at h;cases b1<;>simp only [cond_true,cond_false] at h) | (generalize Nat.beq (jH s).2.size 0=b2 at h;cases b2<;>simp only [cond_true,cond_false] at h) | (generalize (dN LH 0 (jH s).1).1.on=b3 at h;cases b3<;>simp only [cond_true,cond_false] at h) | (generalize Nat.blt 64 (dN LH 0 (jH s).1).1.l.length=b4 at h;cases b4<;>simp only [cond_true,cond_false] at h))
theorem yU(s:ByteArray) :(∃ n e,aq s=some (.fail n e)∧nV s=.fail n e)∨∃ r l,aq s=some (.ok r)∧nV s=.ok l∧EB r l:=by
  obtain ⟨x,h1,h2⟩:=zz s
  cases hp:nV s with
  | fail n e =>
    rw [hp] at h2
    cases x with
    | fail n' e' =>
      obtain ⟨rfl,rfl⟩:=h2
      exact .inl ⟨_,_,h1,rfl⟩
    | ok r=>exact h2.elim
  | ok l =>
    rw [hp] at h2
    cases x with
    | fail n' e'=>exact h2.elim
    | ok r=>exact .inr ⟨r,l,h1,rfl,h2⟩
theorem qQ{α:Type}{n:Nat}{xs:List α}(h:xs.length=n) :aC 0 n xs=xs:=Lg h
theorem F4{r:RS}{l:List jo}(h:EB r l) :ED r.nl r.ks r.ms r.ns r.wss r.ys r.ts:=by
  obtain ⟨h1,h2,h3,h4,h5,h6,h7,h8⟩:=h
  refine ⟨?_,?_,?_,?_,?_,?_⟩<;>simp [*]
theorem F5(n:Nat) :Nat.beq n n=true:=by simp
theorem yV{j:Nat}{n:Nat}{ks ms ns:List Int}{wss:List (List Int)}{ys ts:List Int}(hj:j<n)(hC:ED n ks ms ns wss ys ts){α:Type}{t:T α}{x:Option α}(h:t.run=x) :
    (T.need (dn j ks.length) (.need (dn j ms.length) (.need (dn j ns.length) (.need (dn j wss.length) (.need (dn j ys.length) (.need (dn j ts.length) t)))))).run=x:=by
  obtain ⟨c1,c2,c3,c4,c5,c6⟩:=hC
  refine au (aT.2 (by omega)) (au (aT.2 (by omega)) (au (aT.2 (by omega)) (au (aT.2 (by omega)) (au (aT.2 (by omega)) (au (aT.2 (by omega)) h)))))
theorem B1{n j:Nat}{ks ms ns:List Int}{wss:List (List Int)}{ys ts ks' ms' ns':List Int}{wss':List (List Int)}{ys' ts' w w':List Int}(hj:j<n)(hC:ED n ks ms ns wss ys ts)(hC':ED n ks' ms' ns' wss' ys' ts'){α:Type}{t:T α}{x:Option α}(h:t.run=x) :
    (T.need (qW (j:Int) n) (.need (dn j ks'.length) (.need (dn j ms'.length) (.need (dn j ns'.length) (.need (dn j wss'.length) (.need (dn j ys'.length) (.need (dn j ts'.length) (.need (qW (j:Int) n) (.need (dn j ks.length) (.need (dn j ms.length) (.need (dn j ns.length) (.need (dn j wss.length) (.need (dn j ys.length) (.need (dn j ts.length) (.need (mr 0 w.length w) (.need (mr 0 w'.length w') t)))))))))))))))).run=x:=by
  have hi:qW (j:Int) n=true:=by rw [fD];omega
  exact au hi (yV hj hC' (au hi (yV hj hC (Ku (Ku h)))))
set_option maxHeartbeats 1000000 in
theorem K1 (n : Nat) (ks ms ns : List Int) (wss : List (List Int)) (ys ts ks' ms' ns' : List Int) (wss' : List (List Int)) (ys' ts' : List Int) (j : Nat) (hj : j < n) (hC : ED n ks ms ns wss ys ts) (hC' : ED n ks' ms' ns' wss' ys' ts')
    (e0 : ks'.getD j 0 = ks.getD j 0) (e1 : ms'.getD j 0 = ms.getD j 0) (e2 : ns'.getD j 0 = ns.getD j 0) (e3 : wss'.getD j [] = wss.getD j []) (e4 : ys'.getD j 0 = ys.getD j 0) (e5 : ts'.getD j 0 = ts.getD j 0) (h2 : (wss.getD j []).length ≤ 200) :
    (gN n ks ms ns wss ys ts n ks' ms' ns' wss' ys' ts' j).run = some (.inl ()) := by
  simp only [gN, e0, e1, e2, e3, e4, e5, pf]
  generalize ks.getD j 0 = a0
  generalize ms.getD j 0 = a1
  generalize ns.getD j 0 = a2
  generalize ys.getD j 0 = a4
  generalize ts.getD j 0 = a5
  generalize wss.getD j [] = a3 at h2 ⊢
  have sm : BO a0 a1 a2 a3 a4 a5 a0 a1 a2 a3 a4 a5 = true := by simp [BO]
  have s1 := BP a0 a1 a2 a3 a4 a5 a0 a1 a2 a3 a4 a5 (by omega)
  have s2 := CL a0 a1 a2 a3 a4 a5 a0 a1 a2 a3 a4 a5 (by omega)
  rw [sm] at s1 s2
  rw [s1, s2]
  exact eR (decide_eq_true (by omega)) (B1 hj hC hC' (cj (cu (B1 hj hC hC' (cj (cu rfl))))))
theorem K2(n:Nat)(ks ms ns:List Int)(wss:List (List Int))(ys ts:List Int)(text:ByteArray)(hC:ED n ks ms ns wss ys ts)(hw:∀ ws∈wss,Hp ws)(ht:Hp ts) :eJ n ks ms ns wss ys ts text=some (.r0 true):=by
  unfold eJ
  have h18:(me text).run=some (.inl (decide ((text.size:Int)≤30000))):=cu rfl

  have h1:(bif decide ((text.size:Int)≤30000) then bj ((bY text).run) fun (x2,x3,x4,x5,x6,x7,x8,e9)=>bj ((gL e9).run) fun b10=>bj ((bif b10 then bj ((dL text x2 x3 x4 x5 x6 x7 x8).run) fun b11=>(mf b11).run else (mg).run)) fun _=>(mh).run else (mi).run)=some (.inl ()):=by
    cases decide ((text.size:Int)≤30000) with
    | false=>rfl
    | true =>
      rw [cond_true]
      rcases yU text with ⟨a,e,hF,hP⟩ | ⟨r,l,hF,hP,hc⟩
      · have he:=Jq hP
        have h20:(bY text).run=some (.inl (0,[],[],[],[],[],[],e)):=by
          simp only [bY,hF]
          exact uG (cj rfl)
        have h21:(gL e).run=some (.inl false):=congrArg (fun b=>some (Sum.inl b)) (beq_eq_false_iff_ne.2 (by omega))
        exact an h20 (an h21 rfl)
      · obtain ⟨g1,g2,g3,g4⟩:=Hs hP
        have hl:(dj l).length=text.size:=by rw [←g3];simp
        obtain ⟨e1,e2⟩:=LN g1 g2 (by omega)
        have htx:dJ l=text:=by
          rw [e2,←g3]
        obtain ⟨q1,q2,q3,q4,q5,q6⟩:=F4 hc
        have h20:(bY text).run=some (.inl (r.nl,r.ks,r.ms,r.ns,r.wss,r.ys,r.ts,0)):=by
          simp only [bY,hF]
          refine qj (qk rfl) (uG (au ?_ rfl))
          show Nat.beq r.nl r.nc=true
          rw [hc.nl,hc.nc]
          exact F5 _
        have h23:(dL text r.nl r.ks r.ms r.ns r.wss r.ys r.ts).run=some (.inl false):=by
          simp only [dL,qQ q1,qQ q2,qQ q3,qQ q4,qQ q5,qQ q6,Jp hc,e1,htx]
          refine au (by rw [zK];omega) (au (Nat.ble_eq_true_of_le (by rw [hc.nl];omega)) (cu ?_))
          rw [dO,decide_eq_true rfl]
          rfl
        exact an h20 (an rfl (an (an h23 rfl) rfl))

  obtain ⟨c1,c2,c3,c4,c5,c6⟩:=hC
  have k1:=qQ c1
  have k2:=qQ c2
  have k3:=qQ c3
  have k4:=qQ c4
  have k5:=qQ c5
  have k6:=qQ c6
  obtain ⟨bm,hm,hm2⟩:=LL n ks ms ns wss ys ts ⟨c1,c2,c3,c4,c5,c6⟩
  have h30:(gM n ks ms ns wss ys ts).run=some (.inl bm):=by
    simp only [gM,k1,k2,k3,k4,k5,k6,hm]
    exact au (by rw [zK];omega) (cj rfl)
  refine bW (an h18 (an h1 (an h30 ?_)))
  cases bm with
  | true=>exact bT (ct rfl)
  | false =>
    obtain ⟨hn,h200⟩:=hm2 rfl
    have hlo:em n=true:=Nat.ble_eq_true_of_le (by omega)
    have hll:(fx n ks ms ns wss ys ts).length=n:=wO ..
    by_cases hE:lX (fx n ks ms ns wss ys ts)=0
    · obtain ⟨g1,g2,g3,g4⟩:=LM hE
      have hu:∀ a∈fx n ks ms ns wss ys ts,a.may=true∧a.u64:=by
        intro a ha
        refine ⟨g1 a ha,?_⟩
        obtain ⟨i,hi,rfl⟩:=List.getElem_of_mem ha
        have hi':i<n:=by rw [hll] at hi;exact hi
        have e:=nX (ks:=ks) (ms:=ms) (ns:=ns) (wss:=wss) (ys:=ys) (ts:=ts) hi'
        rw [List.getElem?_eq_getElem hi] at e
        rw [Option.some.inj e]
        have m1:wss.getD i []∈wss:=by
          rw [List.getD_eq_getElem?_getD,List.getElem?_eq_getElem (by omega)]
          exact List.getElem_mem (by omega)
        have m2:ts.getD i 0∈ts:=by
          rw [List.getD_eq_getElem?_getD,List.getElem?_eq_getElem (by omega)]
          exact List.getElem_mem (by omega)
        exact ⟨hw _ m1,(ht _ m2).1,(ht _ m2).2⟩
      have hp:=Hq (fx n ks ms ns wss ys ts) hu (dJ (fx n ks ms ns wss ys ts)) (by rw [g4]) (by rw [g4];show (dj _).toArray.size≤_;simpa using g3)
      rw [show Nat.blt 64 (fx n ks ms ns wss ys ts).length=false by rw [←Bool.not_eq_true,zL];omega,cond_false] at hp
      rcases yU (dJ (fx n ks ms ns wss ys ts)) with ⟨a,e,hF,hP⟩ | ⟨r,l,hF,hP,hc⟩
      · rw [hp] at hP;cases hP
      · rw [hp] at hP
        cases hP
        have hrn:r.nl=n:=by rw [hc.nl,hll]
        have h31:(cL n ks ms ns wss ys ts false).run=some (.inl (n,r.ks,r.ms,r.ns,r.wss,r.ys,r.ts,0,0)):=by
          simp only [cL,k1,k2,k3,k4,k5,k6,hE,hF]
          refine cu (au (by rw [zK];omega) (au hlo (cu (qj (qk rfl) (uG (au ?_ ?_))))))
          · show Nat.beq r.nl r.nc=true
            rw [hc.nl,hc.nc]
            exact F5 _
          · show some (Sum.inl (r.nl,r.ks,r.ms,r.ns,r.wss,r.ys,r.ts,(0:Int),(0:Int)))=_
            rw [hrn]
        have h32:(mj n n 0 0).run=some (.inl false):=by
          refine cu (cu ?_)
          show some (Sum.inl ((n:Int) != (n:Int)))=_
          rw [bne_self_eq_false]
        have gd:∀ {α:Type} (f:jo→α) (xs:List α) (d:α) (i:Nat),i<n→(∀ i,i<n→(fx n ks ms ns wss ys ts)[i]?.map f=some (xs.getD i d))→((fx n ks ms ns wss ys ts).map f).getD i d=xs.getD i d:=by
          intro α f xs d i hi h
          rw [List.getD_eq_getElem?_getD,List.getElem?_map,h i hi]
          rfl
        obtain ⟨q1,q2,q3,q4,q5,q6⟩:=F4 hc
        rw [hrn] at q1 q2 q3 q4 q5 q6
        refine an h31 (an h32 (an rfl (an (a:=()) (jw (fun j=>j) n rfl (fun j hj=>?_) ?_) rfl)))
        · have e0:r.ks.getD j 0=ks.getD j 0:=by rw [hc.ks];exact gd jo.k ks 0 j hj fun i hi=>by rw [nX hi];rfl
          have e1:r.ms.getD j 0=ms.getD j 0:=by rw [hc.ms];exact gd jo.m ms 0 j hj fun i hi=>by rw [nX hi];rfl
          have e2:r.ns.getD j 0=ns.getD j 0:=by rw [hc.ns];exact gd jo.n ns 0 j hj fun i hi=>by rw [nX hi];rfl
          have e3:r.wss.getD j []=wss.getD j []:=by rw [hc.wss];exact gd jo.ws wss [] j hj fun i hi=>by rw [nX hi];rfl
          have e4:r.ys.getD j 0=ys.getD j 0:=by rw [hc.ys];exact gd jo.y ys 0 j hj fun i hi=>by rw [nX hi];rfl
          have e5:r.ts.getD j 0=ts.getD j 0:=by rw [hc.ts];exact gd jo.t ts 0 j hj fun i hi=>by rw [nX hi];rfl
          have h2:=h200 j hj
          refine an (K1 n ks ms ns wss ys ts r.ks r.ms r.ns r.wss r.ys r.ts j hj ⟨c1,c2,c3,c4,c5,c6⟩ ⟨q1,q2,q3,q4,q5,q6⟩ e0 e1 e2 e3 e4 e5 h2) (au (by rw [bC];omega) rfl)
        · exact bT (fw (decide_eq_false (by omega)) rfl)
    · have h31:(cL n ks ms ns wss ys ts false).run=some (.inr (.r0 true)):=by
        simp only [cL,k1,k2,k3,k4,k5,k6]
        exact cu (au (by rw [zK];omega) (au hlo (eR (bne_iff_ne.2 hE) rfl)))
      exact bT h31
end Go.Plb.Seat
