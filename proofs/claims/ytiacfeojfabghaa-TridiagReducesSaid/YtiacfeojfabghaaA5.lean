/-
  Part 5 of what the claim leans on: an evaluator of the model, proved sound; the contracts of the functions.
-/
import Derived.Test.YtiacfeojfabghaaA4
namespace Go.Plb.Seat
open Go Go.Plb
set_option linter.unusedVariables false
set_option maxRecDepth 100000
noncomputable section

inductive ref09_May_X where
  | r0 (b2 : Bool)
def ref09_May_E : ref09_May_X → AE × ASt
  | .r0 b2 => (.ret, ⟨slots 32 [(2, .bool false b2)], [], 0⟩)
theorem ref09_May_hN : NoN ref09_May_E := by intro x; cases x <;> (intro h; cases h)
theorem ref09_May_hI (id : Nat) : NoId id ref09_May_E := by intro x; cases x <;> (intro h; cases h)
def ref09_May_o : ref09_May_X → Out
  | .r0 b2 => ⟨.bool false b2, []⟩
noncomputable def ref09_May_l2 : List Code := flat (BODY n_ref09_May)
def ref09_May_n1 (b1 : Bool) : ASt := ⟨slots 32 [(2, .bool false b1)], [], 0⟩
def ref09_May_t3 (a_0 : Int) (a_1 : Int) (a_3 : List Nat) : T ((Bool) ⊕ (ref09_May_X)) :=
  .ask (decide (a_0 ≥ (0 : Int)))
    (.ask (decide (a_0 ≤ (512 : Int)))
      (.ask (decide (a_1 ≥ (0 : Int)))
        (.ask (decide (a_1 ≤ (512 : Int)))
          (.need (inK .i64 (a_0 * a_1)) <| .leaf (.inl ((((List.length a_3) : Nat) : Int) == (a_0 * a_1))))
          (.leaf (.inl false)))
        (.leaf (.inl false)))
      (.leaf (.inl false)))
    (.leaf (.inl false))
def ref09_May_t4 (b1 : Bool) : T ((Empty) ⊕ (ref09_May_X)) :=
  .leaf (.inr (.r0 b1))
noncomputable def ref09_May_F (a_0 : Int) (a_1 : Int) (a_3 : List Nat) : Option ref09_May_X := toX (seqM ((ref09_May_t3 a_0 a_1 a_3).run) fun b1 =>
  (ref09_May_t4 b1).run)
theorem ref09_May_ok (a_0 : Int) (a_1 : Int) (v_2 : Lv) (a_3 : List Nat) {x : ref09_May_X} (h : ref09_May_F a_0 a_1 a_3 = some x) : Contract prog n_ref09_May [] [.agg [.int .i64 a_0, .int .i64 a_1, .imm v_2 (.fl a_3) 1 1 0 (List.length a_3)]] (ref09_May_o x) :=
  Sg.contract false ref09_May_o (by kernel_rfl : prog.funcs[n_ref09_May]? = some (FN n_ref09_May)) (by kernel_rfl : (FN n_ref09_May).body = some (BODY n_ref09_May)) (Sg.cut 2 ref09_May_hN (Sg.seg (C := C0) C0_ok L_tridiag_Reduce_ok 60 (ref09_May_l2.take 2) (entryOf (FN n_ref09_May) [] [.agg [.int .i64 a_0, .int .i64 a_1, .imm v_2 (.fl a_3) 1 1 0 (List.length a_3)]]) (ref09_May_t3 a_0 a_1 a_3) ref09_May_n1 ref09_May_E [⟨[], [], [2]⟩, ⟨[], [], [2]⟩, ⟨[], [], [2]⟩, ⟨[], [], [2]⟩, ⟨[], [], [2]⟩] (by kernel_rfl)) (fun b1 => by exact Sg.seg (C := C0) C0_ok L_tridiag_Reduce_ok 60 (ref09_May_l2.drop 2) (ref09_May_n1 b1) (ref09_May_t4 b1) (fun a : Empty => a.elim) ref09_May_E [⟨[], [], [2]⟩] (by kernel_rfl)))
    (fun x => by cases x with | r0 b2 => exact ⟨.inr rfl, [.bool false b2], [], by kernel_rfl, trivial, by kernel_rfl⟩) h

def ref09_May_i0 : Option ref09_May_X → Bool
  | some _ => true
  | none => false
def ref09_May_p0_0 : Option ref09_May_X → Bool
  | some (.r0 x) => x
  | _ => false
theorem ref09_May_e0 {x : Option ref09_May_X} (h : ref09_May_i0 x = true) : x = some (.r0 (ref09_May_p0_0 x)) := by
  unfold ref09_May_i0 at h
  split at h <;> first | rfl | (cases h; done) | (rename_i y; cases y; rfl)
noncomputable def e_ref09_May : Entry := autoE n_ref09_May (.cons (.agg (.cons (.int .i64) (.cons (.int .i64) (.cons .fl .nil)))) .nil) fun t => [⟨ref09_May_o (.r0 (ref09_May_p0_0 (ref09_May_F t.1.1 t.1.2.1 t.1.2.2.1.2))), [ref09_May_i0 (ref09_May_F t.1.1 t.1.2.1 t.1.2.2.1.2)]⟩]
theorem e_ref09_May_ok : EntryOk prog e_ref09_May := autoE_ok fun t => (altsCons (fun h => ref09_May_ok t.1.1 t.1.2.1 t.1.2.2.1.1 t.1.2.2.1.2 (ref09_May_e0 h)) altsNil)
noncomputable def L_ref09_May : List Entry := e_ref09_May :: L_tridiag_Reduce
theorem L_ref09_May_ok : SumsOk prog (sumsOf L_ref09_May) := sumsOf_cons e_ref09_May_ok L_tridiag_Reduce_ok

inductive ref05_Wrong_X where
  | r0 (a3 : Nat)
def ref05_Wrong_E : ref05_Wrong_X → AE × ASt
  | .r0 a3 => (.ret, ⟨slots 46 [(2, .int .i64 ((a3 : Nat) : Int))], [], 0⟩)
theorem ref05_Wrong_hN : NoN ref05_Wrong_E := by intro x; cases x <;> (intro h; cases h)
theorem ref05_Wrong_hI (id : Nat) : NoId id ref05_Wrong_E := by intro x; cases x <;> (intro h; cases h)
def ref05_Wrong_o : ref05_Wrong_X → Out
  | .r0 a3 => ⟨.int .i64 ((a3 : Nat) : Int), []⟩
noncomputable def ref05_Wrong_l7 : List Code := flat (BODY n_ref05_Wrong)
def ref05_Wrong_n1 (a_0 : Int) (a_1 : Int) (v_2 : Lv) (a_3 : List Nat) (b1 : Bool) : ASt := ⟨slots 46 [(1, .ptr 0 1 0 0), (21, .bool false b1)], [(0, .vs [.int .i64 a_0, .int .i64 a_1, .imm v_2 (.fl a_3) 1 1 0 (List.length a_3)])], 1⟩
def ref05_Wrong_t8 (a_0 : Int) (a_1 : Int) : T ((Bool) ⊕ (ref05_Wrong_X)) :=
  .ask (decide (a_0 < (0 : Int)))
    (.leaf (.inl true))
    (.ask (decide (a_0 > (512 : Int)))
      (.leaf (.inl true))
      (.ask (decide (a_1 < (0 : Int)))
        (.leaf (.inl true))
        (.leaf (.inl (decide (a_1 > (512 : Int)))))))
def ref05_Wrong_n2 (a_0 : Int) (a_1 : Int) (v_2 : Lv) (a_3 : List Nat) (_ : Unit) : ASt := ⟨slots 46 [(1, .ptr 0 1 0 0), (3, .int .i64 (0 : Int))], [(0, .vs [.int .i64 a_0, .int .i64 a_1, .imm v_2 (.fl a_3) 1 1 0 (List.length a_3)])], 1⟩
def ref05_Wrong_t9 (a_0 : Int) (a_1 : Int) (a_3 : List Nat) (b1 : Bool) : T ((Unit) ⊕ (ref05_Wrong_X)) :=
  .ask b1
    (.leaf (.inr (.r0 2)))
    (.need (inK .i64 (a_0 * a_1)) <| .ask ((((List.length a_3) : Nat) : Int) != (a_0 * a_1))
      (.leaf (.inr (.r0 8)))
      (.leaf (.inl ())))
def ref05_Wrong_n4 (a_0 : Int) (a_1 : Int) (v_2 : Lv) (a_3 : List Nat) (i2 : Nat) : ASt := ⟨slots 46 [(1, .ptr 0 1 0 0), (3, .int .i64 ((i2 : Nat) : Int))], [(0, .vs [.int .i64 a_0, .int .i64 a_1, .imm v_2 (.fl a_3) 1 1 0 (List.length a_3)])], 1⟩
def ref05_Wrong_n5 (_ : Unit) : ASt := ⟨slots 46 [], [], 0⟩
noncomputable def ref05_Wrong_l10 : List Code := flat (inLoop (((((ref05_Wrong_l7.drop 2).drop 4).take 1)).headD .skip))
def ref05_Wrong_t11 (a_3 : List Nat) (i2 : Nat) : T ((Nat) ⊕ ((Unit) ⊕ (ref05_Wrong_X))) :=
  .ask (decide (((i2 : Nat) : Int) < (((List.length a_3) : Nat) : Int)))
    (.need (inB ((i2 : Nat) : Int) (List.length a_3)) <| .need (ltB i2 (List.length a_3)) <| .alt 0
      (.need (!isNaN (List.getD a_3 i2 0)) <| .need (decide ((0 : Int) ≤ (52 : Int))) <| .need ((2048 : Int) != (0 : Int)) <| .ask (!((Int.tmod (Int.fdiv (((List.getD a_3 i2 0) : Nat) : Int) (2 ^ (min (Int.toNat (52 : Int)) (IntKind.u64.bits)))) (2048 : Int)) != (2047 : Int)))
        (.leaf (.inr (.inr (.r0 10))))
        (.need (inK .i64 (((i2 + 1) : Nat) : Int)) <| .leaf (.inl (i2 + 1))))
      (.alt 1
        (.need (isNaN (List.getD a_3 i2 0)) <| .leaf (.inr (.inr (.r0 10))))
        (.fail)))
    (.leaf (.inr (.inl ())))
noncomputable def ref05_Wrong_m12 (a_3 : List Nat) : Nat → Option ((Nat) ⊕ ((Unit) ⊕ (ref05_Wrong_X))) := fun i2 =>
  (ref05_Wrong_t11 a_3 i2).run
theorem ref05_Wrong_s12 (a_0 : Int) (a_1 : Int) (v_2 : Lv) (a_3 : List Nat) (i2 : Nat) : Sg prog [] ref05_Wrong_l10 (ref05_Wrong_n4 a_0 a_1 v_2 a_3 i2) (ref05_Wrong_m12 a_3 i2) (ref05_Wrong_n4 a_0 a_1 v_2 a_3) (exitE 0 ref05_Wrong_n5 ref05_Wrong_E) := by
  unfold ref05_Wrong_m12; exact Sg.seg (C := C0) C0_ok L_ref09_May_ok 60 ref05_Wrong_l10 (ref05_Wrong_n4 a_0 a_1 v_2 a_3 i2) (ref05_Wrong_t11 a_3 i2) (ref05_Wrong_n4 a_0 a_1 v_2 a_3) (exitE 0 ref05_Wrong_n5 ref05_Wrong_E) [⟨[], [], [2]⟩, ⟨[], [0], [1, 3]⟩, ⟨[], [], [2]⟩, ⟨[], [], []⟩] (by kernel_rfl)
def ref05_Wrong_n6 : Unit → ASt := ref05_Wrong_n5
def ref05_Wrong_t13 : T ((Empty) ⊕ (ref05_Wrong_X)) :=
  .leaf (.inr (.r0 0))
noncomputable def ref05_Wrong_F (a_0 : Int) (a_1 : Int) (a_3 : List Nat) : Option ref05_Wrong_X := toX (seqM ((ref05_Wrong_t8 a_0 a_1).run) fun b1 =>
  seqM ((ref05_Wrong_t9 a_0 a_1 a_3 b1).run) fun _ =>
  seqM (loopM (ref05_Wrong_m12 a_3) 0) fun _ =>
  (ref05_Wrong_t13).run)
theorem ref05_Wrong_ok (a_0 : Int) (a_1 : Int) (v_2 : Lv) (a_3 : List Nat) {x : ref05_Wrong_X} (h : ref05_Wrong_F a_0 a_1 a_3 = some x) : Contract prog n_ref05_Wrong [] [.agg [.int .i64 a_0, .int .i64 a_1, .imm v_2 (.fl a_3) 1 1 0 (List.length a_3)]] (ref05_Wrong_o x) :=
  Sg.contract false ref05_Wrong_o (by kernel_rfl : prog.funcs[n_ref05_Wrong]? = some (FN n_ref05_Wrong)) (by kernel_rfl : (FN n_ref05_Wrong).body = some (BODY n_ref05_Wrong)) (Sg.cut 2 ref05_Wrong_hN (Sg.seg (C := C0) C0_ok L_ref09_May_ok 60 (ref05_Wrong_l7.take 2) (entryOf (FN n_ref05_Wrong) [] [.agg [.int .i64 a_0, .int .i64 a_1, .imm v_2 (.fl a_3) 1 1 0 (List.length a_3)]]) (ref05_Wrong_t8 a_0 a_1) (ref05_Wrong_n1 a_0 a_1 v_2 a_3) ref05_Wrong_E [⟨[], [0], [1, 21]⟩, ⟨[], [0], [1, 21]⟩, ⟨[], [0], [1, 21]⟩, ⟨[], [0], [1, 21]⟩] (by kernel_rfl)) (fun b1 => by exact Sg.cut 4 ref05_Wrong_hN (Sg.seg (C := C0) C0_ok L_ref09_May_ok 60 ((ref05_Wrong_l7.drop 2).take 4) (ref05_Wrong_n1 a_0 a_1 v_2 a_3 b1) (ref05_Wrong_t9 a_0 a_1 a_3 b1) (ref05_Wrong_n2 a_0 a_1 v_2 a_3) ref05_Wrong_E [⟨[], [], [2]⟩, ⟨[], [], [2]⟩, ⟨[], [0], [1, 3]⟩] (by kernel_rfl)) (fun a => by cases a; exact Sg.cut 1 ref05_Wrong_hN (Sg.pre ⟨[], [0], [1, 3]⟩ rfl (by kernel_rfl : NS.on ⟨[], [0], [1, 3]⟩ (ref05_Wrong_n2 a_0 a_1 v_2 a_3 ()) = (ref05_Wrong_n4 a_0 a_1 v_2 a_3) 0) (Sg.loopAt (I := (ref05_Wrong_n4 a_0 a_1 v_2 a_3)) (J := (ref05_Wrong_n5)) (id := 0) (by kernel_rfl : (((ref05_Wrong_l7.drop 2).drop 4).take 1) = [.block 0 (.loop (inLoop (((((ref05_Wrong_l7.drop 2).drop 4).take 1)).headD .skip)))]) ref05_Wrong_hN (ref05_Wrong_hI _) (fun s => by exact ref05_Wrong_s12 a_0 a_1 v_2 a_3 s) 0)) (fun a => by cases a; exact Sg.seg (C := C0) C0_ok L_ref09_May_ok 60 (((ref05_Wrong_l7.drop 2).drop 4).drop 1) (ref05_Wrong_n6 ()) (ref05_Wrong_t13) (fun a : Empty => a.elim) ref05_Wrong_E [⟨[], [], [2]⟩] (by kernel_rfl)))))
    (fun x => by cases x with | r0 a3 => exact ⟨.inr rfl, [.int .i64 ((a3 : Nat) : Int)], [], by kernel_rfl, trivial, by kernel_rfl⟩) h

def ref05_Wrong_i0 : Option ref05_Wrong_X → Bool
  | some _ => true
  | none => false
def ref05_Wrong_p0_0 : Option ref05_Wrong_X → Nat
  | some (.r0 x) => x
  | _ => 0
theorem ref05_Wrong_e0 {x : Option ref05_Wrong_X} (h : ref05_Wrong_i0 x = true) : x = some (.r0 (ref05_Wrong_p0_0 x)) := by
  unfold ref05_Wrong_i0 at h
  split at h <;> first | rfl | (cases h; done) | (rename_i y; cases y; rfl)
noncomputable def e_ref05_Wrong : Entry := autoE n_ref05_Wrong (.cons (.agg (.cons (.int .i64) (.cons (.int .i64) (.cons .fl .nil)))) .nil) fun t => [⟨ref05_Wrong_o (.r0 (ref05_Wrong_p0_0 (ref05_Wrong_F t.1.1 t.1.2.1 t.1.2.2.1.2))), [ref05_Wrong_i0 (ref05_Wrong_F t.1.1 t.1.2.1 t.1.2.2.1.2)]⟩]
theorem e_ref05_Wrong_ok : EntryOk prog e_ref05_Wrong := autoE_ok fun t => (altsCons (fun h => ref05_Wrong_ok t.1.1 t.1.2.1 t.1.2.2.1.1 t.1.2.2.1.2 (ref05_Wrong_e0 h)) altsNil)
noncomputable def L_ref05_Wrong : List Entry := e_ref05_Wrong :: L_ref09_May
theorem L_ref05_Wrong_ok : SumsOk prog (sumsOf L_ref05_Wrong) := sumsOf_cons e_ref05_Wrong_ok L_ref09_May_ok

inductive law10_sameTri_X where
  | r0 (b2 : Bool)
def law10_sameTri_E : law10_sameTri_X → AE × ASt
  | .r0 b2 => (.ret, ⟨slots 17 [(4, .bool false b2)], [], 0⟩)
theorem law10_sameTri_hN : NoN law10_sameTri_E := by intro x; cases x <;> (intro h; cases h)
theorem law10_sameTri_hI (id : Nat) : NoId id law10_sameTri_E := by intro x; cases x <;> (intro h; cases h)
def law10_sameTri_o : law10_sameTri_X → Out
  | .r0 b2 => ⟨.bool false b2, []⟩
noncomputable def law10_sameTri_l2 : List Code := flat (BODY n_law10_sameTri)
def law10_sameTri_n1 (b1 : Bool) : ASt := ⟨slots 17 [(4, .bool false b1)], [], 0⟩
def law10_sameTri_t3 (a_1 : List Nat) (a_3 : List Nat) (b_5 : List Nat) (b_7 : List Nat) : T ((Bool) ⊕ (law10_sameTri_X)) :=
  .need (slOk 0 (List.length a_1) a_1) <| .need (slOk 0 (List.length b_5) b_5) <| .need (ref06_SameAll_i0 (ref06_SameAll_F (cutL 0 (List.length a_1) a_1) (cutL 0 (List.length b_5) b_5))) <| .ask (ref06_SameAll_p0_0 (ref06_SameAll_F (cutL 0 (List.length a_1) a_1) (cutL 0 (List.length b_5) b_5)))
    (.need (slOk 0 (List.length a_3) a_3) <| .need (slOk 0 (List.length b_7) b_7) <| .need (ref06_SameAll_i0 (ref06_SameAll_F (cutL 0 (List.length a_3) a_3) (cutL 0 (List.length b_7) b_7))) <| .leaf (.inl (ref06_SameAll_p0_0 (ref06_SameAll_F (cutL 0 (List.length a_3) a_3) (cutL 0 (List.length b_7) b_7)))))
    (.leaf (.inl false))
def law10_sameTri_t4 (b1 : Bool) : T ((Empty) ⊕ (law10_sameTri_X)) :=
  .leaf (.inr (.r0 b1))
noncomputable def law10_sameTri_F (a_1 : List Nat) (a_3 : List Nat) (b_5 : List Nat) (b_7 : List Nat) : Option law10_sameTri_X := toX (seqM ((law10_sameTri_t3 a_1 a_3 b_5 b_7).run) fun b1 =>
  (law10_sameTri_t4 b1).run)
theorem law10_sameTri_ok (v_0 : Lv) (a_1 : List Nat) (v_2 : Lv) (a_3 : List Nat) (v_4 : Lv) (b_5 : List Nat) (v_6 : Lv) (b_7 : List Nat) {x : law10_sameTri_X} (h : law10_sameTri_F a_1 a_3 b_5 b_7 = some x) : Contract prog n_law10_sameTri [] [.agg [.imm v_0 (.fl a_1) 1 1 0 (List.length a_1), .imm v_2 (.fl a_3) 1 1 0 (List.length a_3)], .agg [.imm v_4 (.fl b_5) 1 1 0 (List.length b_5), .imm v_6 (.fl b_7) 1 1 0 (List.length b_7)]] (law10_sameTri_o x) :=
  Sg.contract false law10_sameTri_o (by kernel_rfl : prog.funcs[n_law10_sameTri]? = some (FN n_law10_sameTri)) (by kernel_rfl : (FN n_law10_sameTri).body = some (BODY n_law10_sameTri)) (Sg.cut 2 law10_sameTri_hN (Sg.seg (C := C0) C0_ok L_ref05_Wrong_ok 60 (law10_sameTri_l2.take 2) (entryOf (FN n_law10_sameTri) [] [.agg [.imm v_0 (.fl a_1) 1 1 0 (List.length a_1), .imm v_2 (.fl a_3) 1 1 0 (List.length a_3)], .agg [.imm v_4 (.fl b_5) 1 1 0 (List.length b_5), .imm v_6 (.fl b_7) 1 1 0 (List.length b_7)]]) (law10_sameTri_t3 a_1 a_3 b_5 b_7) law10_sameTri_n1 law10_sameTri_E [⟨[], [], [4]⟩, ⟨[], [], [4]⟩] (by kernel_rfl)) (fun b1 => by exact Sg.seg (C := C0) C0_ok L_ref05_Wrong_ok 60 (law10_sameTri_l2.drop 2) (law10_sameTri_n1 b1) (law10_sameTri_t4 b1) (fun a : Empty => a.elim) law10_sameTri_E [⟨[], [], [4]⟩] (by kernel_rfl)))
    (fun x => by cases x with | r0 b2 => exact ⟨.inr rfl, [.bool false b2], [], by kernel_rfl, trivial, by kernel_rfl⟩) h

def law10_sameTri_i0 : Option law10_sameTri_X → Bool
  | some _ => true
  | none => false
def law10_sameTri_p0_0 : Option law10_sameTri_X → Bool
  | some (.r0 x) => x
  | _ => false
theorem law10_sameTri_e0 {x : Option law10_sameTri_X} (h : law10_sameTri_i0 x = true) : x = some (.r0 (law10_sameTri_p0_0 x)) := by
  unfold law10_sameTri_i0 at h
  split at h <;> first | rfl | (cases h; done) | (rename_i y; cases y; rfl)
noncomputable def e_law10_sameTri : Entry := autoE n_law10_sameTri (.cons (.agg (.cons .fl (.cons .fl .nil))) (.cons (.agg (.cons .fl (.cons .fl .nil))) .nil)) fun t => [⟨law10_sameTri_o (.r0 (law10_sameTri_p0_0 (law10_sameTri_F t.1.1.2 t.1.2.1.2 t.2.1.1.2 t.2.1.2.1.2))), [law10_sameTri_i0 (law10_sameTri_F t.1.1.2 t.1.2.1.2 t.2.1.1.2 t.2.1.2.1.2)]⟩]
theorem e_law10_sameTri_ok : EntryOk prog e_law10_sameTri := autoE_ok fun t => (altsCons (fun h => law10_sameTri_ok t.1.1.1 t.1.1.2 t.1.2.1.1 t.1.2.1.2 t.2.1.1.1 t.2.1.1.2 t.2.1.2.1.1 t.2.1.2.1.2 (law10_sameTri_e0 h)) altsNil)
noncomputable def L_law10_sameTri : List Entry := e_law10_sameTri :: L_ref05_Wrong
theorem L_law10_sameTri_ok : SumsOk prog (sumsOf L_law10_sameTri) := sumsOf_cons e_law10_sameTri_ok L_ref05_Wrong_ok

inductive ref06_Norm_X where
  | r0 (a10 : Nat)
def ref06_Norm_E : ref06_Norm_X → AE × ASt
  | .r0 a10 => (.ret, ⟨slots 55 [(2, .flt false a10)], [], 0⟩)
theorem ref06_Norm_hN : NoN ref06_Norm_E := by intro x; cases x <;> (intro h; cases h)
theorem ref06_Norm_hI (id : Nat) : NoId id ref06_Norm_E := by intro x; cases x <;> (intro h; cases h)
def ref06_Norm_o : ref06_Norm_X → Out
  | .r0 a10 => ⟨.flt false a10, []⟩
noncomputable def ref06_Norm_l8 : List Code := flat (BODY n_ref06_Norm)
def ref06_Norm_n1 (v_0 : Lv) (l_1 : List Nat) (_ : Unit) : ASt := ⟨slots 55 [(0, .imm v_0 (.fl l_1) 1 1 0 (List.length l_1)), (3, .flt false 0), (4, .flt false 4607182418800017408), (5, .int .i64 (0 : Int))], [], 0⟩
def ref06_Norm_t9 : T ((Unit) ⊕ (ref06_Norm_X)) :=
  .leaf (.inl ())
def ref06_Norm_n4 (v_0 : Lv) (l_1 : List Nat) : Nat × Nat × Nat → ASt := fun (scale3, sum4, i5) => ⟨slots 55 [(0, .imm v_0 (.fl l_1) 1 1 0 (List.length l_1)), (3, .flt false scale3), (4, .flt false sum4), (5, .int .i64 ((i5 : Nat) : Int))], [], 0⟩
def ref06_Norm_n6 : Nat × Nat → ASt := fun (scale8, sum9) => ⟨slots 55 [(3, .flt false scale8), (4, .flt false sum9)], [], 0⟩
noncomputable def ref06_Norm_l10 : List Code := flat (inLoop ((((ref06_Norm_l8.drop 4).take 1)).headD .skip))
def ref06_Norm_n5 (v_0 : Lv) (l_1 : List Nat) (i5 : Nat) : Nat × Nat → ASt := fun (scale6, sum7) => ⟨slots 55 [(0, .imm v_0 (.fl l_1) 1 1 0 (List.length l_1)), (3, .flt false scale6), (4, .flt false sum7), (5, .int .i64 ((i5 : Nat) : Int))], [], 0⟩
def ref06_Norm_t11 (l_1 : List Nat) (scale3 : Nat) (sum4 : Nat) (i5 : Nat) : T ((Nat × Nat) ⊕ ((Nat × Nat) ⊕ (ref06_Norm_X))) :=
  .ask (decide (((i5 : Nat) : Int) < (((List.length l_1) : Nat) : Int)))
    (.need (inB ((i5 : Nat) : Int) (List.length l_1)) <| .need (ltB i5 (List.length l_1)) <| .ask (feq (List.getD l_1 i5 0) 0)
      (.leaf (.inl (scale3, sum4)))
      (.need (inB ((i5 : Nat) : Int) (List.length l_1)) <| .need (ltB i5 (List.length l_1)) <| .ask (flt scale3 (fabs (List.getD l_1 i5 0)))
        (.leaf (.inl ((fabs (List.getD l_1 i5 0)), (fadd 4607182418800017408 (fmul (fmul sum4 (fdiv scale3 (fabs (List.getD l_1 i5 0)))) (fdiv scale3 (fabs (List.getD l_1 i5 0))))))))
        (.leaf (.inl (scale3, (fadd sum4 (fmul (fdiv (fabs (List.getD l_1 i5 0)) scale3) (fdiv (fabs (List.getD l_1 i5 0)) scale3))))))))
    (.leaf (.inr (.inl (scale3, sum4))))
def ref06_Norm_t12 (i5 : Nat) (scale6 : Nat) (sum7 : Nat) : T ((Nat × Nat × Nat) ⊕ ((Nat × Nat) ⊕ (ref06_Norm_X))) :=
  .need (inK .i64 (((i5 + 1) : Nat) : Int)) <| .leaf (.inl (scale6, sum7, (i5 + 1)))
noncomputable def ref06_Norm_m13 (l_1 : List Nat) : Nat × Nat × Nat → Option ((Nat × Nat × Nat) ⊕ ((Nat × Nat) ⊕ (ref06_Norm_X))) := fun (scale3, sum4, i5) =>
  seqM ((ref06_Norm_t11 l_1 scale3 sum4 i5).run) fun (scale6, sum7) =>
  (ref06_Norm_t12 i5 scale6 sum7).run
theorem ref06_Norm_s13 (v_0 : Lv) (l_1 : List Nat) (scale3 : Nat) (sum4 : Nat) (i5 : Nat) : Sg prog [] ref06_Norm_l10 (ref06_Norm_n4 v_0 l_1 (scale3, sum4, i5)) (ref06_Norm_m13 l_1 (scale3, sum4, i5)) (ref06_Norm_n4 v_0 l_1) (exitE 0 ref06_Norm_n6 ref06_Norm_E) := by
  unfold ref06_Norm_m13; exact Sg.cut 3 (noN_exit ref06_Norm_hN) (Sg.seg (C := C0) C0_ok L_law10_sameTri_ok 60 (ref06_Norm_l10.take 3) (ref06_Norm_n4 v_0 l_1 (scale3, sum4, i5)) (ref06_Norm_t11 l_1 scale3 sum4 i5) (ref06_Norm_n5 v_0 l_1 i5) (exitE 0 ref06_Norm_n6 ref06_Norm_E) [⟨[], [], [0, 3, 4, 5]⟩, ⟨[], [], [0, 3, 4, 5]⟩, ⟨[], [], [0, 3, 4, 5]⟩, ⟨[], [], [3, 4]⟩] (by kernel_rfl)) (fun a => by obtain ⟨scale6, sum7⟩ := a; exact Sg.seg (C := C0) C0_ok L_law10_sameTri_ok 60 (ref06_Norm_l10.drop 3) (ref06_Norm_n5 v_0 l_1 i5 (scale6, sum7)) (ref06_Norm_t12 i5 scale6 sum7) (ref06_Norm_n4 v_0 l_1) (exitE 0 ref06_Norm_n6 ref06_Norm_E) [⟨[], [], [0, 3, 4, 5]⟩] (by kernel_rfl))
def ref06_Norm_n7 : Nat × Nat → ASt := ref06_Norm_n6
def ref06_Norm_t14 (scale8 : Nat) (sum9 : Nat) : T ((Empty) ⊕ (ref06_Norm_X)) :=
  .leaf (.inr (.r0 (fmul scale8 (fsqrt sum9))))
noncomputable def ref06_Norm_F (l_1 : List Nat) : Option ref06_Norm_X := toX (seqM ((ref06_Norm_t9).run) fun _ =>
  seqM (loopM (ref06_Norm_m13 l_1) (0, 4607182418800017408, 0)) fun (scale8, sum9) =>
  (ref06_Norm_t14 scale8 sum9).run)
theorem ref06_Norm_ok (v_0 : Lv) (l_1 : List Nat) {x : ref06_Norm_X} (h : ref06_Norm_F l_1 = some x) : Contract prog n_ref06_Norm [] [.imm v_0 (.fl l_1) 1 1 0 (List.length l_1)] (ref06_Norm_o x) :=
  Sg.contract false ref06_Norm_o (by kernel_rfl : prog.funcs[n_ref06_Norm]? = some (FN n_ref06_Norm)) (by kernel_rfl : (FN n_ref06_Norm).body = some (BODY n_ref06_Norm)) (Sg.cut 4 ref06_Norm_hN (Sg.seg (C := C0) C0_ok L_law10_sameTri_ok 60 (ref06_Norm_l8.take 4) (entryOf (FN n_ref06_Norm) [] [.imm v_0 (.fl l_1) 1 1 0 (List.length l_1)]) (ref06_Norm_t9) (ref06_Norm_n1 v_0 l_1) ref06_Norm_E [⟨[], [], [0, 3, 4, 5]⟩] (by kernel_rfl)) (fun a => by cases a; exact Sg.cut 1 ref06_Norm_hN (Sg.pre ⟨[], [], [0, 3, 4, 5]⟩ rfl (by kernel_rfl : NS.on ⟨[], [], [0, 3, 4, 5]⟩ (ref06_Norm_n1 v_0 l_1 ()) = (ref06_Norm_n4 v_0 l_1) (0, 4607182418800017408, 0)) (Sg.loopAt (I := (ref06_Norm_n4 v_0 l_1)) (J := (ref06_Norm_n6)) (id := 0) (by kernel_rfl : ((ref06_Norm_l8.drop 4).take 1) = [.block 0 (.loop (inLoop ((((ref06_Norm_l8.drop 4).take 1)).headD .skip)))]) ref06_Norm_hN (ref06_Norm_hI _) (fun s => by obtain ⟨scale3, sum4, i5⟩ := s; exact ref06_Norm_s13 v_0 l_1 scale3 sum4 i5) (0, 4607182418800017408, 0))) (fun a => by obtain ⟨scale8, sum9⟩ := a; exact Sg.seg (C := C0) C0_ok L_law10_sameTri_ok 60 ((ref06_Norm_l8.drop 4).drop 1) (ref06_Norm_n7 (scale8, sum9)) (ref06_Norm_t14 scale8 sum9) (fun a : Empty => a.elim) ref06_Norm_E [⟨[], [], [2]⟩] (by kernel_rfl))))
    (fun x => by cases x with | r0 a10 => exact ⟨.inr rfl, [.flt false a10], [], by kernel_rfl, trivial, by kernel_rfl⟩) h

def ref06_Norm_i0 : Option ref06_Norm_X → Bool
  | some _ => true
  | none => false
def ref06_Norm_p0_0 : Option ref06_Norm_X → Nat
  | some (.r0 x) => x
  | _ => 0
theorem ref06_Norm_e0 {x : Option ref06_Norm_X} (h : ref06_Norm_i0 x = true) : x = some (.r0 (ref06_Norm_p0_0 x)) := by
  unfold ref06_Norm_i0 at h
  split at h <;> first | rfl | (cases h; done) | (rename_i y; cases y; rfl)
noncomputable def e_ref06_Norm : Entry := autoE n_ref06_Norm (.cons .fl .nil) fun t => [⟨ref06_Norm_o (.r0 (ref06_Norm_p0_0 (ref06_Norm_F t.1.2))), [ref06_Norm_i0 (ref06_Norm_F t.1.2)]⟩]
theorem e_ref06_Norm_ok : EntryOk prog e_ref06_Norm := autoE_ok fun t => (altsCons (fun h => ref06_Norm_ok t.1.1 t.1.2 (ref06_Norm_e0 h)) altsNil)
noncomputable def L_ref06_Norm : List Entry := e_ref06_Norm :: L_law10_sameTri
theorem L_ref06_Norm_ok : SumsOk prog (sumsOf L_ref06_Norm) := sumsOf_cons e_ref06_Norm_ok L_law10_sameTri_ok

inductive ref09_Make_X where
  | r0 (a9 : Nat) (a10 : Nat) (a11 : Nat) (l12 : List Nat)
def ref09_Make_E : ref09_Make_X → AE × ASt
  | .r0 a9 a10 a11 l12 => (.ret, ⟨slots 68 [(2, .ptr 0 1 0 0), (3, .flt false a9)], [(0, .vs [.sl 1 1 1 0 a10 a10, .flt false a11]), (1, .fl l12)], 2⟩)
theorem ref09_Make_hN : NoN ref09_Make_E := by intro x; cases x <;> (intro h; cases h)
theorem ref09_Make_hI (id : Nat) : NoId id ref09_Make_E := by intro x; cases x <;> (intro h; cases h)
def ref09_Make_o : ref09_Make_X → Out
  | .r0 a9 a10 a11 l12 => ⟨.tup [.agg [.imm .free (.fl l12) 1 1 0 a10, .flt false a11], .flt false a9], []⟩
noncomputable def ref09_Make_l8 : List Code := flat (BODY n_ref09_Make)
def ref09_Make_n1 (v_0 : Lv) (x_1 : List Nat) : Nat × (List Nat) → ASt := fun (long1, l2) => ⟨slots 68 [(0, .imm v_0 (.fl x_1) 1 1 0 (List.length x_1)), (2, .ptr 0 1 0 0), (4, .int .i64 (((List.length x_1) : Nat) : Int)), (5, .sl 1 1 1 0 (List.length x_1) (List.length x_1)), (6, .flt false long1)], [(0, .vs [.nsl, .flt false 0]), (1, .fl l2)], 2⟩
def ref09_Make_t9 (x_1 : List Nat) : T ((Nat × (List Nat)) ⊕ (ref09_Make_X)) :=
  .need (decide ((0 : Int) ≤ (((List.length x_1) : Nat) : Int))) <| .need (decide ((((List.length x_1) : Nat) : Int) ≤ (((List.length x_1) : Nat) : Int))) <| .need (decide ((8 : Int) * (((List.length x_1) : Nat) : Int) ≤ 140737488355328)) <| .need (inK .i64 (((List.length x_1) : Nat) : Int)) <| .need (inB (0 : Int) (List.length x_1)) <| .need (ltB 0 (List.length (List.replicate (List.length x_1) 0))) <| .need (leB (((List.length x_1) : Nat) : Int) (List.length x_1)) <| .need (leB (1 : Int) (List.length x_1)) <| .need (slOk 1 ((List.length x_1) - 1) x_1) <| .need (ref06_Norm_i0 (ref06_Norm_F (cutL 1 ((List.length x_1) - 1) x_1))) <| .leaf (.inl ((ref06_Norm_p0_0 (ref06_Norm_F (cutL 1 ((List.length x_1) - 1) x_1))), (List.set (List.replicate (List.length x_1) 0) 0 4607182418800017408)))
def ref09_Make_n2 (v_0 : Lv) (x_1 : List Nat) (l2 : List Nat) (beta3 : Nat) : ASt := ⟨slots 68 [(0, .imm v_0 (.fl x_1) 1 1 0 (List.length x_1)), (2, .ptr 0 1 0 0), (4, .int .i64 (((List.length x_1) : Nat) : Int)), (5, .sl 1 1 1 0 (List.length x_1) (List.length x_1)), (7, .flt false beta3)], [(0, .vs [.nsl, .flt false 0]), (1, .fl l2)], 2⟩
def ref09_Make_t10 (x_1 : List Nat) (long1 : Nat) (l2 : List Nat) : T ((Nat) ⊕ (ref09_Make_X)) :=
  .ask (feq long1 0)
    (.need (inB (0 : Int) (List.length x_1)) <| .need (ltB 0 (List.length x_1)) <| .leaf (.inr (.r0 (List.getD x_1 0 0) (List.length x_1) 0 l2)))
    (.need (inB (0 : Int) (List.length x_1)) <| .need (ltB 0 (List.length x_1)) <| .ask (fgt (fabs long1) (fabs (List.getD x_1 0 0)))
      (.ask (feq (fabs long1) 0)
        (.need (inB (0 : Int) (List.length x_1)) <| .need (ltB 0 (List.length x_1)) <| .need (!isNaN (List.getD x_1 0 0) || isNaN (fabs long1)) <| .leaf (.inl (fneg (fcopy (fabs long1) (List.getD x_1 0 0)))))
        (.need (inB (0 : Int) (List.length x_1)) <| .need (ltB 0 (List.length x_1)) <| .need (!isNaN (List.getD x_1 0 0) || isNaN (fmul (fabs long1) (fsqrt (fadd 4607182418800017408 (fmul (fdiv (fabs (List.getD x_1 0 0)) (fabs long1)) (fdiv (fabs (List.getD x_1 0 0)) (fabs long1))))))) <| .leaf (.inl (fneg (fcopy (fmul (fabs long1) (fsqrt (fadd 4607182418800017408 (fmul (fdiv (fabs (List.getD x_1 0 0)) (fabs long1)) (fdiv (fabs (List.getD x_1 0 0)) (fabs long1)))))) (List.getD x_1 0 0))))))
      (.ask (feq (fabs (List.getD x_1 0 0)) 0)
        (.need (inB (0 : Int) (List.length x_1)) <| .need (ltB 0 (List.length x_1)) <| .need (!isNaN (List.getD x_1 0 0) || isNaN (fabs (List.getD x_1 0 0))) <| .leaf (.inl (fneg (fcopy (fabs (List.getD x_1 0 0)) (List.getD x_1 0 0)))))
        (.need (inB (0 : Int) (List.length x_1)) <| .need (ltB 0 (List.length x_1)) <| .need (!isNaN (List.getD x_1 0 0) || isNaN (fmul (fabs (List.getD x_1 0 0)) (fsqrt (fadd 4607182418800017408 (fmul (fdiv (fabs long1) (fabs (List.getD x_1 0 0))) (fdiv (fabs long1) (fabs (List.getD x_1 0 0)))))))) <| .leaf (.inl (fneg (fcopy (fmul (fabs (List.getD x_1 0 0)) (fsqrt (fadd 4607182418800017408 (fmul (fdiv (fabs long1) (fabs (List.getD x_1 0 0))) (fdiv (fabs long1) (fabs (List.getD x_1 0 0))))))) (List.getD x_1 0 0)))))))
def ref09_Make_n3 (v_0 : Lv) (x_1 : List Nat) (l2 : List Nat) (beta3 : Nat) : Nat × Nat → ASt := fun (tau4, q5) => ⟨slots 68 [(0, .imm v_0 (.fl x_1) 1 1 0 (List.length x_1)), (2, .ptr 0 1 0 0), (4, .int .i64 (((List.length x_1) : Nat) : Int)), (5, .sl 1 1 1 0 (List.length x_1) (List.length x_1)), (7, .flt false beta3), (8, .flt false tau4), (9, .flt false q5), (10, .int .i64 (1 : Int))], [(0, .vs [.nsl, .flt false 0]), (1, .fl l2)], 2⟩
def ref09_Make_t11 (x_1 : List Nat) (beta3 : Nat) : T ((Nat × Nat) ⊕ (ref09_Make_X)) :=
  .need (inB (0 : Int) (List.length x_1)) <| .need (ltB 0 (List.length x_1)) <| .need (inB (0 : Int) (List.length x_1)) <| .need (ltB 0 (List.length x_1)) <| .leaf (.inl ((fdiv (fsub beta3 (List.getD x_1 0 0)) beta3), (fdiv 4607182418800017408 (fsub (List.getD x_1 0 0) beta3))))
def ref09_Make_n5 (v_0 : Lv) (x_1 : List Nat) (beta3 : Nat) (tau4 : Nat) (q5 : Nat) : Nat × (List Nat) → ASt := fun (i6, l7) => ⟨slots 68 [(0, .imm v_0 (.fl x_1) 1 1 0 (List.length x_1)), (2, .ptr 0 1 0 0), (4, .int .i64 (((List.length x_1) : Nat) : Int)), (5, .sl 1 1 1 0 (List.length x_1) (List.length x_1)), (7, .flt false beta3), (8, .flt false tau4), (9, .flt false q5), (10, .int .i64 ((i6 : Nat) : Int))], [(0, .vs [.nsl, .flt false 0]), (1, .fl l7)], 2⟩
def ref09_Make_n6 (x_1 : List Nat) (beta3 : Nat) (tau4 : Nat) (l8 : (List Nat)) : ASt := ⟨slots 68 [(2, .ptr 0 1 0 0), (5, .sl 1 1 1 0 (List.length x_1) (List.length x_1)), (7, .flt false beta3), (8, .flt false tau4)], [(0, .vs [.nsl, .flt false 0]), (1, .fl l8)], 2⟩
noncomputable def ref09_Make_l12 : List Code := flat (inLoop ((((((ref09_Make_l8.drop 5).drop 3).drop 3).take 1)).headD .skip))
def ref09_Make_t13 (x_1 : List Nat) (q5 : Nat) (i6 : Nat) (l7 : List Nat) : T ((Nat × (List Nat)) ⊕ (((List Nat)) ⊕ (ref09_Make_X))) :=
  .ask (decide (((i6 : Nat) : Int) < (((List.length x_1) : Nat) : Int)))
    (.need (inB ((i6 : Nat) : Int) (List.length x_1)) <| .need (ltB i6 (List.length x_1)) <| .need (inB ((i6 : Nat) : Int) (List.length x_1)) <| .need (ltB i6 (List.length l7)) <| .need (inK .i64 (((i6 + 1) : Nat) : Int)) <| .leaf (.inl ((i6 + 1), (List.set l7 i6 (fmul (List.getD x_1 i6 0) q5)))))
    (.leaf (.inr (.inl l7)))
noncomputable def ref09_Make_m14 (x_1 : List Nat) (q5 : Nat) : Nat × (List Nat) → Option ((Nat × (List Nat)) ⊕ (((List Nat)) ⊕ (ref09_Make_X))) := fun (i6, l7) =>
  (ref09_Make_t13 x_1 q5 i6 l7).run
theorem ref09_Make_s14 (v_0 : Lv) (x_1 : List Nat) (beta3 : Nat) (tau4 : Nat) (q5 : Nat) (i6 : Nat) (l7 : List Nat) : Sg prog [] ref09_Make_l12 (ref09_Make_n5 v_0 x_1 beta3 tau4 q5 (i6, l7)) (ref09_Make_m14 x_1 q5 (i6, l7)) (ref09_Make_n5 v_0 x_1 beta3 tau4 q5) (exitE 0 (ref09_Make_n6 x_1 beta3 tau4) ref09_Make_E) := by
  unfold ref09_Make_m14; exact Sg.seg (C := C0) C0_ok L_ref06_Norm_ok 60 ref09_Make_l12 (ref09_Make_n5 v_0 x_1 beta3 tau4 q5 (i6, l7)) (ref09_Make_t13 x_1 q5 i6 l7) (ref09_Make_n5 v_0 x_1 beta3 tau4 q5) (exitE 0 (ref09_Make_n6 x_1 beta3 tau4) ref09_Make_E) [⟨[], [0, 1], [0, 2, 4, 5, 7, 8, 9, 10]⟩, ⟨[], [0, 1], [2, 5, 7, 8]⟩] (by kernel_rfl)
def ref09_Make_n7 (x_1 : List Nat) (beta3 : Nat) (tau4 : Nat) : (List Nat) → ASt := ref09_Make_n6 x_1 beta3 tau4
def ref09_Make_t15 (x_1 : List Nat) (beta3 : Nat) (tau4 : Nat) (l8 : List Nat) : T ((Empty) ⊕ (ref09_Make_X)) :=
  .leaf (.inr (.r0 beta3 (List.length x_1) tau4 l8))
noncomputable def ref09_Make_F (x_1 : List Nat) : Option ref09_Make_X := toX (seqM ((ref09_Make_t9 x_1).run) fun (long1, l2) =>
  seqM ((ref09_Make_t10 x_1 long1 l2).run) fun beta3 =>
  seqM ((ref09_Make_t11 x_1 beta3).run) fun (tau4, q5) =>
  seqM (loopM (ref09_Make_m14 x_1 q5) (1, l2)) fun l8 =>
  (ref09_Make_t15 x_1 beta3 tau4 l8).run)
theorem ref09_Make_ok (v_0 : Lv) (x_1 : List Nat) {x : ref09_Make_X} (h : ref09_Make_F x_1 = some x) : Contract prog n_ref09_Make [] [.imm v_0 (.fl x_1) 1 1 0 (List.length x_1)] (ref09_Make_o x) :=
  Sg.contract true ref09_Make_o (by kernel_rfl : prog.funcs[n_ref09_Make]? = some (FN n_ref09_Make)) (by kernel_rfl : (FN n_ref09_Make).body = some (BODY n_ref09_Make)) (Sg.cut 5 ref09_Make_hN (Sg.seg (C := C0) C0_ok L_ref06_Norm_ok 60 (ref09_Make_l8.take 5) (entryOf (FN n_ref09_Make) [] [.imm v_0 (.fl x_1) 1 1 0 (List.length x_1)]) (ref09_Make_t9 x_1) (ref09_Make_n1 v_0 x_1) ref09_Make_E [⟨[], [0, 96], [0, 2, 4, 5, 6]⟩] (by kernel_rfl)) (fun a => by obtain ⟨long1, l2⟩ := a; exact Sg.cut 3 ref09_Make_hN (Sg.seg (C := C0) C0_ok L_ref06_Norm_ok 60 ((ref09_Make_l8.drop 5).take 3) (ref09_Make_n1 v_0 x_1 (long1, l2)) (ref09_Make_t10 x_1 long1 l2) (ref09_Make_n2 v_0 x_1 l2) ref09_Make_E [⟨[], [0, 1], [2, 3]⟩, ⟨[], [0, 1], [0, 2, 4, 5, 7]⟩, ⟨[], [0, 1], [0, 2, 4, 5, 7]⟩, ⟨[], [0, 1], [0, 2, 4, 5, 7]⟩, ⟨[], [0, 1], [0, 2, 4, 5, 7]⟩] (by kernel_rfl)) (fun beta3 => by exact Sg.cut 3 ref09_Make_hN (Sg.seg (C := C0) C0_ok L_ref06_Norm_ok 60 (((ref09_Make_l8.drop 5).drop 3).take 3) (ref09_Make_n2 v_0 x_1 l2 beta3) (ref09_Make_t11 x_1 beta3) (ref09_Make_n3 v_0 x_1 l2 beta3) ref09_Make_E [⟨[], [0, 1], [0, 2, 4, 5, 7, 8, 9, 10]⟩] (by kernel_rfl)) (fun a => by obtain ⟨tau4, q5⟩ := a; exact Sg.cut 1 ref09_Make_hN (Sg.pre ⟨[], [0, 1], [0, 2, 4, 5, 7, 8, 9, 10]⟩ rfl (by kernel_rfl : NS.on ⟨[], [0, 1], [0, 2, 4, 5, 7, 8, 9, 10]⟩ (ref09_Make_n3 v_0 x_1 l2 beta3 (tau4, q5)) = (ref09_Make_n5 v_0 x_1 beta3 tau4 q5) (1, l2)) (Sg.loopAt (I := (ref09_Make_n5 v_0 x_1 beta3 tau4 q5)) (J := (ref09_Make_n6 x_1 beta3 tau4)) (id := 0) (by kernel_rfl : ((((ref09_Make_l8.drop 5).drop 3).drop 3).take 1) = [.block 0 (.loop (inLoop ((((((ref09_Make_l8.drop 5).drop 3).drop 3).take 1)).headD .skip)))]) ref09_Make_hN (ref09_Make_hI _) (fun s => by obtain ⟨i6, l7⟩ := s; exact ref09_Make_s14 v_0 x_1 beta3 tau4 q5 i6 l7) (1, l2))) (fun l8 => by exact Sg.seg (C := C0) C0_ok L_ref06_Norm_ok 60 ((((ref09_Make_l8.drop 5).drop 3).drop 3).drop 1) (ref09_Make_n7 x_1 beta3 tau4 l8) (ref09_Make_t15 x_1 beta3 tau4 l8) (fun a : Empty => a.elim) ref09_Make_E [⟨[], [0, 1], [2, 3]⟩] (by kernel_rfl))))))
    (fun x => by cases x with | r0 a9 a10 a11 l12 => exact ⟨.inr rfl, [.agg [.sl 1 1 1 0 a10 a10, .flt false a11], .flt false a9], [], by kernel_rfl, trivial, by kernel_rfl⟩) h

def ref09_Make_i0 : Option ref09_Make_X → Bool
  | some _ => true
  | none => false
def ref09_Make_p0_0 : Option ref09_Make_X → Nat
  | some (.r0 x _ _ _) => x
  | _ => 0
def ref09_Make_p0_1 : Option ref09_Make_X → Nat
  | some (.r0 _ x _ _) => x
  | _ => 0
def ref09_Make_p0_2 : Option ref09_Make_X → Nat
  | some (.r0 _ _ x _) => x
  | _ => 0
def ref09_Make_p0_3 : Option ref09_Make_X → List Nat
  | some (.r0 _ _ _ x) => x
  | _ => []
theorem ref09_Make_e0 {x : Option ref09_Make_X} (h : ref09_Make_i0 x = true) : x = some (.r0 (ref09_Make_p0_0 x) (ref09_Make_p0_1 x) (ref09_Make_p0_2 x) (ref09_Make_p0_3 x)) := by
  unfold ref09_Make_i0 at h
  split at h <;> first | rfl | (cases h; done) | (rename_i y; cases y; rfl)
noncomputable def e_ref09_Make : Entry := autoE n_ref09_Make (.cons .fl .nil) fun t => [⟨ref09_Make_o (.r0 (ref09_Make_p0_0 (ref09_Make_F t.1.2)) (ref09_Make_p0_1 (ref09_Make_F t.1.2)) (ref09_Make_p0_2 (ref09_Make_F t.1.2)) (ref09_Make_p0_3 (ref09_Make_F t.1.2))), [ref09_Make_i0 (ref09_Make_F t.1.2)]⟩]
theorem e_ref09_Make_ok : EntryOk prog e_ref09_Make := autoE_ok fun t => (altsCons (fun h => ref09_Make_ok t.1.1 t.1.2 (ref09_Make_e0 h)) altsNil)
noncomputable def L_ref09_Make : List Entry := e_ref09_Make :: L_ref06_Norm
theorem L_ref09_Make_ok : SumsOk prog (sumsOf L_ref09_Make) := sumsOf_cons e_ref09_Make_ok L_ref06_Norm_ok

end
end Go.Plb.Seat

namespace Go.Plb.Seat
open Go Go.Plb
set_option linter.unusedVariables false
set_option maxRecDepth 100000
noncomputable section

inductive ref10_Reduce_X where
  | r0 (a227 : Nat) (a228 : Nat) (a229 : Nat) (a230 : Nat) (a231 : Nat) (a232 : Nat) (a233 : Nat) (l234 : List (List Nat)) (l235 : List Nat) (l236 : List Nat) (l237 : List Nat)
def ref10_Reduce_E : ref10_Reduce_X → AE × ASt
  | .r0 a227 a228 a229 a230 a231 a232 a233 l234 l235 l236 l237 => (.ret, ⟨slots 291 [(2, .ptr 0 1 0 0), (3, .sl 1 2 2 0 a227 a228)], [(0, .vs [.sl 2 1 1 0 a229 a230, .sl 3 1 1 0 a231 a232]), (1, .cols a233 [.cfl l234, .cf l235]), (2, .fl l236), (3, .fl l237)], 4⟩)
theorem ref10_Reduce_hN : NoN ref10_Reduce_E := by intro x; cases x <;> (intro h; cases h)
theorem ref10_Reduce_hI (id : Nat) : NoId id ref10_Reduce_E := by intro x; cases x <;> (intro h; cases h)
def ref10_Reduce_o : ref10_Reduce_X → Out
  | .r0 a227 a228 a229 a230 a231 a232 a233 l234 l235 l236 l237 => ⟨.tup [.agg [.sl 0 1 1 0 a229 a230, .sl 1 1 1 0 a231 a232], .sl 2 2 2 0 a227 a228], [some (.fl l236), some (.fl l237), some (.cols a233 [.cfl l234, .cf l235])]⟩
noncomputable def ref10_Reduce_l209 : List Code := flat (BODY n_ref10_Reduce)
def ref10_Reduce_n1 (m_0 : Int) (m_3 : List Nat) (l1 : (List Nat)) : ASt := ⟨slots 291 [(2, .ptr 0 1 0 0), (4, .int .i64 m_0), (5, .sl 1 1 1 0 (List.length m_3) (List.length m_3)), (6, .ptr 2 1 0 0), (7, .nsl), (8, .int .i64 (0 : Int))], [(0, .vs [.nsl, .nsl]), (1, .fl l1), (2, .vs [.nsl, .nsl])], 3⟩
def ref10_Reduce_t210 (m_3 : List Nat) : T (((List Nat)) ⊕ (ref10_Reduce_X)) :=
  .need (leN ((List.length m_3) * 8) 140737488355328) <| .need (leN (List.length m_3) 9223372036854775807) <| .need (leN (List.length m_3) (List.length m_3)) <| .leaf (.inl (List.take (List.length m_3) m_3))
def ref10_Reduce_n134 (m_0 : Int) (m_3 : List Nat) : Nat × Nat × Nat × (List Nat) × Nat × Nat × Nat × Nat × Nat × (List (List Nat)) × (List Nat) × (List Nat) × (List Nat) → ASt := fun (l119, l120, k121, l122, a123, a124, a125, a126, a127, l128, l129, l130, l131) => ⟨slots 291 [(2, .ptr 0 1 0 0), (4, .int .i64 m_0), (5, .sl 1 1 1 0 (List.length m_3) (List.length m_3)), (6, .ptr 2 1 0 0), (7, .sl 3 2 2 0 l119 l120), (8, .int .i64 ((k121 : Nat) : Int))], [(0, .vs [.nsl, .nsl]), (1, .fl l122), (2, .vs [.sl 4 1 1 0 a123 a124, .sl 5 1 1 0 a125 a126]), (3, .cols a127 [.cfl l128, .cf l129]), (4, .fl l130), (5, .fl l131)], 6⟩
def ref10_Reduce_n201 (m_0 : Int) (m_3 : List Nat) : Nat × Nat × (List Nat) × Nat × Nat × Nat × Nat × Nat × (List (List Nat)) × (List Nat) × (List Nat) × (List Nat) → ASt := fun (l205, l206, l207, a208, a209, a210, a211, a212, l213, l214, l215, l216) => ⟨slots 291 [(2, .ptr 0 1 0 0), (4, .int .i64 m_0), (5, .sl 1 1 1 0 (List.length m_3) (List.length m_3)), (6, .ptr 2 1 0 0), (7, .sl 3 2 2 0 l205 l206)], [(0, .vs [.nsl, .nsl]), (1, .fl l207), (2, .vs [.sl 4 1 1 0 a208 a209, .sl 5 1 1 0 a210 a211]), (3, .cols a212 [.cfl l213, .cf l214]), (4, .fl l215), (5, .fl l216)], 6⟩
noncomputable def ref10_Reduce_l211 : List Code := flat (inLoop ((((ref10_Reduce_l209.drop 6).take 1)).headD .skip))
def ref10_Reduce_n135 (m_0 : Int) (m_3 : List Nat) (l119 : Nat) (l120 : Nat) (k121 : Nat) (l122 : List Nat) (a123 : Nat) (a124 : Nat) (a125 : Nat) (a126 : Nat) (a127 : Nat) (l128 : List (List Nat)) (l129 : List Nat) (l130 : List Nat) (l131 : List Nat) (_ : Unit) : ASt := ⟨slots 291 [(2, .ptr 0 1 0 0), (4, .int .i64 m_0), (5, .sl 1 1 1 0 (List.length m_3) (List.length m_3)), (6, .ptr 2 1 0 0), (7, .sl 3 2 2 0 l119 l120), (8, .int .i64 ((k121 : Nat) : Int))], [(0, .vs [.nsl, .nsl]), (1, .fl l122), (2, .vs [.sl 4 1 1 0 a123 a124, .sl 5 1 1 0 a125 a126]), (3, .cols a127 [.cfl l128, .cf l129]), (4, .fl l130), (5, .fl l131)], 6⟩
def ref10_Reduce_t212 (m_0 : Int) (l119 : Nat) (l120 : Nat) (k121 : Nat) (l122 : List Nat) (a123 : Nat) (a124 : Nat) (a125 : Nat) (a126 : Nat) (a127 : Nat) (l128 : List (List Nat)) (l129 : List Nat) (l130 : List Nat) (l131 : List Nat) : T ((Unit) ⊕ ((Nat × Nat × (List Nat) × Nat × Nat × Nat × Nat × Nat × (List (List Nat)) × (List Nat) × (List Nat) × (List Nat)) ⊕ (ref10_Reduce_X))) :=
  .need (inK .i64 (((k121 + 2) : Nat) : Int)) <| .ask (decide ((((k121 + 2) : Nat) : Int) < m_0))
    (.leaf (.inl ()))
    (.leaf (.inr (.inl (l119, l120, l122, a123, a124, a125, a126, a127, l128, l129, l130, l131))))
def ref10_Reduce_n199 (m_0 : Int) (m_3 : List Nat) (k121 : Nat) : Nat × (List Nat) × Nat × Nat × (List (List Nat)) × (List Nat) × (List Nat) × (List Nat) → ASt := fun (l197, l198, a199, a200, l201, l202, l203, l204) => ⟨slots 291 [(2, .ptr 0 1 0 0), (4, .int .i64 m_0), (5, .sl 1 1 1 0 (List.length m_3) (List.length m_3)), (6, .ptr 2 1 0 0), (7, .sl 3 2 2 0 l197 l197), (8, .int .i64 ((k121 : Nat) : Int))], [(0, .vs [.nsl, .nsl]), (1, .fl l198), (2, .vs [.sl 4 1 1 0 a199 a199, .sl 5 1 1 0 a200 a200]), (3, .cols l197 [.cfl l201, .cf l202]), (4, .fl l203), (5, .fl l204)], 6⟩
noncomputable def ref10_Reduce_l213 : List Code := flat (inBlock ((((ref10_Reduce_l211.drop 2).take 1)).headD .skip))
def ref10_Reduce_n136 (m_0 : Int) (m_3 : List Nat) (l119 : Nat) (l120 : Nat) (k121 : Nat) (l122 : List Nat) (a123 : Nat) (a124 : Nat) (a125 : Nat) (a126 : Nat) (a127 : Nat) (l128 : List (List Nat)) (l129 : List Nat) (l130 : List Nat) (l131 : List Nat) (i132 : Nat) : ASt := ⟨slots 291 [(2, .ptr 0 1 0 0), (4, .int .i64 m_0), (5, .sl 1 1 1 0 (List.length m_3) (List.length m_3)), (6, .ptr 2 1 0 0), (7, .sl 3 2 2 0 l119 l120), (8, .int .i64 ((k121 : Nat) : Int)), (9, .nsl), (10, .int .i64 ((i132 : Nat) : Int))], [(0, .vs [.nsl, .nsl]), (1, .fl l122), (2, .vs [.sl 4 1 1 0 a123 a124, .sl 5 1 1 0 a125 a126]), (3, .cols a127 [.cfl l128, .cf l129]), (4, .fl l130), (5, .fl l131)], 6⟩
def ref10_Reduce_t214 (k121 : Nat) : T ((Nat) ⊕ ((Nat × (List Nat) × Nat × Nat × (List (List Nat)) × (List Nat) × (List Nat) × (List Nat)) ⊕ ((Nat × Nat × (List Nat) × Nat × Nat × Nat × Nat × Nat × (List (List Nat)) × (List Nat) × (List Nat) × (List Nat)) ⊕ (ref10_Reduce_X)))) :=
  .need (inK .i64 (((k121 + 1) : Nat) : Int)) <| .leaf (.inl (k121 + 1))
def ref10_Reduce_n139 (m_0 : Int) (m_3 : List Nat) (l119 : Nat) (l120 : Nat) (k121 : Nat) (l122 : List Nat) (a123 : Nat) (a124 : Nat) (a125 : Nat) (a126 : Nat) (a127 : Nat) (l128 : List (List Nat)) (l129 : List Nat) (l130 : List Nat) (l131 : List Nat) : Nat × Nat × Nat × (List Nat) → ASt := fun (x134, x135, i136, l137) => ⟨slots 291 [(2, .ptr 0 1 0 0), (4, .int .i64 m_0), (5, .sl 1 1 1 0 (List.length m_3) (List.length m_3)), (6, .ptr 2 1 0 0), (7, .sl 3 2 2 0 l119 l120), (8, .int .i64 ((k121 : Nat) : Int)), (9, .sl 4 1 1 0 x134 x135), (10, .int .i64 ((i136 : Nat) : Int))], [(0, .vs [.nsl, .nsl]), (1, .fl l122), (2, .vs [.sl 5 1 1 0 a123 a124, .sl 6 1 1 0 a125 a126]), (3, .cols a127 [.cfl l128, .cf l129]), (4, .fl l137), (5, .fl l130), (6, .fl l131)], 7⟩
def ref10_Reduce_n140 (m_0 : Int) (m_3 : List Nat) (l119 : Nat) (l120 : Nat) (k121 : Nat) (l122 : List Nat) (a123 : Nat) (a124 : Nat) (a125 : Nat) (a126 : Nat) (a127 : Nat) (l128 : List (List Nat)) (l129 : List Nat) (l130 : List Nat) (l131 : List Nat) : Nat × Nat × (List Nat) → ASt := fun (x138, x139, l140) => ⟨slots 291 [(2, .ptr 0 1 0 0), (4, .int .i64 m_0), (5, .sl 1 1 1 0 (List.length m_3) (List.length m_3)), (6, .ptr 2 1 0 0), (7, .sl 3 2 2 0 l119 l120), (8, .int .i64 ((k121 : Nat) : Int)), (9, .sl 4 1 1 0 x138 x139)], [(0, .vs [.nsl, .nsl]), (1, .fl l122), (2, .vs [.sl 5 1 1 0 a123 a124, .sl 6 1 1 0 a125 a126]), (3, .cols a127 [.cfl l128, .cf l129]), (4, .fl l140), (5, .fl l130), (6, .fl l131)], 7⟩
noncomputable def ref10_Reduce_l215 : List Code := flat (inLoop ((((ref10_Reduce_l213.drop 2).take 1)).headD .skip))
def ref10_Reduce_t216 (m_0 : Int) (m_3 : List Nat) (k121 : Nat) (l122 : List Nat) (x134 : Nat) (x135 : Nat) (i136 : Nat) (l137 : List Nat) : T ((Nat × Nat × Nat × (List Nat)) ⊕ ((Nat × Nat × (List Nat)) ⊕ ((Nat × (List Nat) × Nat × Nat × (List (List Nat)) × (List Nat) × (List Nat) × (List Nat)) ⊕ ((Nat × Nat × (List Nat) × Nat × Nat × Nat × Nat × Nat × (List (List Nat)) × (List Nat) × (List Nat) × (List Nat)) ⊕ (ref10_Reduce_X))))) :=
  .ask (decide (((i136 : Nat) : Int) < m_0))
    (.need (inK .i64 (((i136 : Nat) : Int) * m_0)) <| .need (inK .i64 ((((i136 : Nat) : Int) * m_0) + ((k121 : Nat) : Int))) <| .need (inB ((((i136 : Nat) : Int) * m_0) + ((k121 : Nat) : Int)) (List.length m_3)) <| .need (ltB (Int.toNat ((((i136 : Nat) : Int) * m_0) + ((k121 : Nat) : Int))) (List.length l122)) <| .need (leN ((x134 + 1) * 8) 140737488355328) <| .need (leN (x134 + 1) 9223372036854775807) <| .need (leN 1 (List.length [(List.getD l122 (Int.toNat ((((i136 : Nat) : Int) * m_0) + ((k121 : Nat) : Int))) 0)])) <| .need (leN x134 (List.length l137)) <| .need (inK .i64 (((i136 + 1) : Nat) : Int)) <| .leaf (.inl ((x134 + 1), (x134 + 1), (i136 + 1), ((List.take x134 l137) ++ (List.take 1 [(List.getD l122 (Int.toNat ((((i136 : Nat) : Int) * m_0) + ((k121 : Nat) : Int))) 0)])))))
    (.leaf (.inr (.inl (x134, x135, l137))))
noncomputable def ref10_Reduce_m217 (m_0 : Int) (m_3 : List Nat) (k121 : Nat) (l122 : List Nat) : Nat × Nat × Nat × (List Nat) → Option ((Nat × Nat × Nat × (List Nat)) ⊕ ((Nat × Nat × (List Nat)) ⊕ ((Nat × (List Nat) × Nat × Nat × (List (List Nat)) × (List Nat) × (List Nat) × (List Nat)) ⊕ ((Nat × Nat × (List Nat) × Nat × Nat × Nat × Nat × Nat × (List (List Nat)) × (List Nat) × (List Nat) × (List Nat)) ⊕ (ref10_Reduce_X))))) := fun (x134, x135, i136, l137) =>
  (ref10_Reduce_t216 m_0 m_3 k121 l122 x134 x135 i136 l137).run
theorem ref10_Reduce_s217 (m_0 : Int) (m_3 : List Nat) (l119 : Nat) (l120 : Nat) (k121 : Nat) (l122 : List Nat) (a123 : Nat) (a124 : Nat) (a125 : Nat) (a126 : Nat) (a127 : Nat) (l128 : List (List Nat)) (l129 : List Nat) (l130 : List Nat) (l131 : List Nat) (x134 : Nat) (x135 : Nat) (i136 : Nat) (l137 : List Nat) : Sg prog [] ref10_Reduce_l215 (ref10_Reduce_n139 m_0 m_3 l119 l120 k121 l122 a123 a124 a125 a126 a127 l128 l129 l130 l131 (x134, x135, i136, l137)) (ref10_Reduce_m217 m_0 m_3 k121 l122 (x134, x135, i136, l137)) (ref10_Reduce_n139 m_0 m_3 l119 l120 k121 l122 a123 a124 a125 a126 a127 l128 l129 l130 l131) (exitE 2 (ref10_Reduce_n140 m_0 m_3 l119 l120 k121 l122 a123 a124 a125 a126 a127 l128 l129 l130 l131) (exitE 1 (ref10_Reduce_n199 m_0 m_3 k121) (exitE 0 (ref10_Reduce_n201 m_0 m_3) ref10_Reduce_E))) := by
  unfold ref10_Reduce_m217; exact Sg.seg (C := C0) C0_ok L_ref09_Make_ok 60 ref10_Reduce_l215 (ref10_Reduce_n139 m_0 m_3 l119 l120 k121 l122 a123 a124 a125 a126 a127 l128 l129 l130 l131 (x134, x135, i136, l137)) (ref10_Reduce_t216 m_0 m_3 k121 l122 x134 x135 i136 l137) (ref10_Reduce_n139 m_0 m_3 l119 l120 k121 l122 a123 a124 a125 a126 a127 l128 l129 l130 l131) (exitE 2 (ref10_Reduce_n140 m_0 m_3 l119 l120 k121 l122 a123 a124 a125 a126 a127 l128 l129 l130 l131) (exitE 1 (ref10_Reduce_n199 m_0 m_3 k121) (exitE 0 (ref10_Reduce_n201 m_0 m_3) ref10_Reduce_E))) [⟨[], [0, 1, 2, 3, 215, 5, 6], [2, 4, 5, 6, 7, 8, 9, 10]⟩, ⟨[], [0, 1, 2, 3, 4, 5, 6], [2, 4, 5, 6, 7, 8, 9]⟩] (by kernel_rfl)
def ref10_Reduce_n141 (m_0 : Int) (m_3 : List Nat) (l119 : Nat) (l120 : Nat) (k121 : Nat) (l122 : List Nat) (a123 : Nat) (a124 : Nat) (a125 : Nat) (a126 : Nat) (a127 : Nat) (l128 : List (List Nat)) (l129 : List Nat) (l130 : List Nat) (l131 : List Nat) : Nat × Nat × (List Nat) → ASt := ref10_Reduce_n140 m_0 m_3 l119 l120 k121 l122 a123 a124 a125 a126 a127 l128 l129 l130 l131
def ref10_Reduce_n142 (m_0 : Int) (m_3 : List Nat) (l119 : Nat) (l120 : Nat) (k121 : Nat) (l122 : List Nat) (a123 : Nat) (a124 : Nat) (a125 : Nat) (a126 : Nat) (a127 : Nat) (l128 : List (List Nat)) (l129 : List Nat) (l130 : List Nat) (l131 : List Nat) : Nat × (List Nat) × Nat × Nat → ASt := fun (beta141, l142, a143, a144) => ⟨slots 291 [(2, .ptr 0 1 0 0), (4, .int .i64 m_0), (5, .sl 1 1 1 0 (List.length m_3) (List.length m_3)), (6, .ptr 2 1 0 0), (7, .sl 3 2 2 0 l119 l120), (8, .int .i64 ((k121 : Nat) : Int)), (11, .ptr 4 1 0 0), (12, .flt false beta141)], [(0, .vs [.nsl, .nsl]), (1, .fl l122), (2, .vs [.sl 5 1 1 0 a123 a124, .sl 6 1 1 0 a125 a126]), (3, .cols a127 [.cfl l128, .cf l129]), (4, .vs [.imm .free (.fl l142) 1 1 0 a143, .flt false a144]), (5, .fl l130), (6, .fl l131)], 7⟩
def ref10_Reduce_t218 (x138 : Nat) (l140 : List Nat) : T ((Nat × (List Nat) × Nat × Nat) ⊕ ((Nat × (List Nat) × Nat × Nat × (List (List Nat)) × (List Nat) × (List Nat) × (List Nat)) ⊕ ((Nat × Nat × (List Nat) × Nat × Nat × Nat × Nat × Nat × (List (List Nat)) × (List Nat) × (List Nat) × (List Nat)) ⊕ (ref10_Reduce_X)))) :=
  .need (slOk 0 x138 l140) <| .need (ref09_Make_i0 (ref09_Make_F (cutL 0 x138 l140))) <| .leaf (.inl ((ref09_Make_p0_0 (ref09_Make_F (cutL 0 x138 l140))), (ref09_Make_p0_3 (ref09_Make_F (cutL 0 x138 l140))), (ref09_Make_p0_1 (ref09_Make_F (cutL 0 x138 l140))), (ref09_Make_p0_2 (ref09_Make_F (cutL 0 x138 l140)))))
def ref10_Reduce_n143 (m_0 : Int) (m_3 : List Nat) (k121 : Nat) (l122 : List Nat) (l142 : List Nat) (a143 : Nat) (a144 : Nat) : Nat × Nat × Nat × Nat × Nat × (List (List Nat)) × (List Nat) × (List Nat) × (List Nat) × (List Nat) → ASt := fun (l145, p146, i147, a148, a149, l150, l151, l152, l153, l154) => ⟨slots 291 [(2, .ptr 0 1 0 0), (4, .int .i64 m_0), (5, .sl 1 1 1 0 (List.length m_3) (List.length m_3)), (6, .ptr 2 1 0 0), (7, .sl 3 2 2 0 l145 l145), (8, .int .i64 ((k121 : Nat) : Int)), (11, .ptr 4 1 0 0), (13, .sl 5 1 1 0 p146 p146), (14, .int .i64 ((i147 : Nat) : Int))], [(0, .vs [.nsl, .nsl]), (1, .fl l122), (2, .vs [.sl 6 1 1 0 a148 a148, .sl 7 1 1 0 a149 a149]), (3, .cols l145 [.cfl l150, .cf l151]), (4, .vs [.imm .free (.fl l142) 1 1 0 a143, .flt false a144]), (5, .fl l152), (6, .fl l153), (7, .fl l154)], 8⟩
def ref10_Reduce_t219 (m_0 : Int) (m_3 : List Nat) (l119 : Nat) (k121 : Nat) (l122 : List Nat) (a123 : Nat) (a125 : Nat) (a127 : Nat) (l128 : List (List Nat)) (l129 : List Nat) (l130 : List Nat) (l131 : List Nat) (beta141 : Nat) (l142 : List Nat) (a143 : Nat) (a144 : Nat) : T ((Nat × Nat × Nat × Nat × Nat × (List (List Nat)) × (List Nat) × (List Nat) × (List Nat) × (List Nat)) ⊕ ((Nat × (List Nat) × Nat × Nat × (List (List Nat)) × (List Nat) × (List Nat) × (List Nat)) ⊕ ((Nat × Nat × (List Nat) × Nat × Nat × Nat × Nat × Nat × (List (List Nat)) × (List Nat) × (List Nat) × (List Nat)) ⊕ (ref10_Reduce_X)))) :=
  .need (leN ((l119 + 1) * 32) 140737488355328) <| .need (leN (l119 + 1) 9223372036854775807) <| .need (leN 2 2) <| .need (leN l119 a127) <| .need (decide (0 + a143 ≤ List.length l142)) <| .need (inK .i64 (((k121 : Nat) : Int) * m_0)) <| .need (inK .i64 ((((k121 : Nat) : Int) * m_0) + ((k121 : Nat) : Int))) <| .need (inB ((((k121 : Nat) : Int) * m_0) + ((k121 : Nat) : Int)) (List.length m_3)) <| .need (ltB (Int.toNat ((((k121 : Nat) : Int) * m_0) + ((k121 : Nat) : Int))) (List.length l122)) <| .need (leN ((a123 + 1) * 8) 140737488355328) <| .need (leN (a123 + 1) 9223372036854775807) <| .need (leN 1 (List.length [(List.getD l122 (Int.toNat ((((k121 : Nat) : Int) * m_0) + ((k121 : Nat) : Int))) 0)])) <| .need (leN a123 (List.length l130)) <| .need (leN ((a125 + 1) * 8) 140737488355328) <| .need (leN (a125 + 1) 9223372036854775807) <| .need (leN 1 (List.length [beta141])) <| .need (leN a125 (List.length l131)) <| .ask (feq a144 0)
    (.leaf (.inr (.inl ((l119 + 1), l122, (a123 + 1), (a125 + 1), ((List.take l119 l128) ++ [(List.take a143 (List.drop 0 l142))]), ((List.take l119 l129) ++ [a144]), ((List.take a123 l130) ++ (List.take 1 [(List.getD l122 (Int.toNat ((((k121 : Nat) : Int) * m_0) + ((k121 : Nat) : Int))) 0)])), ((List.take a125 l131) ++ (List.take 1 [beta141]))))))
    (.need (decide ((0 : Int) ≤ m_0)) <| .need (decide (m_0 ≤ m_0)) <| .need (decide ((8 : Int) * m_0 ≤ 140737488355328)) <| .need (inK .i64 m_0) <| .need (inK .i64 (((k121 + 1) : Nat) : Int)) <| .leaf (.inl ((l119 + 1), (Int.toNat m_0), (k121 + 1), (a123 + 1), (a125 + 1), ((List.take l119 l128) ++ [(List.take a143 (List.drop 0 l142))]), ((List.take l119 l129) ++ [a144]), (List.replicate (Int.toNat m_0) 0), ((List.take a123 l130) ++ (List.take 1 [(List.getD l122 (Int.toNat ((((k121 : Nat) : Int) * m_0) + ((k121 : Nat) : Int))) 0)])), ((List.take a125 l131) ++ (List.take 1 [beta141])))))
def ref10_Reduce_n153 (m_0 : Int) (m_3 : List Nat) (k121 : Nat) (l122 : List Nat) (l142 : List Nat) (a143 : Nat) (a144 : Nat) (l145 : Nat) (p146 : Nat) (a148 : Nat) (a149 : Nat) (l150 : List (List Nat)) (l151 : List Nat) (l153 : List Nat) (l154 : List Nat) : Nat × (List Nat) → ASt := fun (i160, l161) => ⟨slots 291 [(2, .ptr 0 1 0 0), (4, .int .i64 m_0), (5, .sl 1 1 1 0 (List.length m_3) (List.length m_3)), (6, .ptr 2 1 0 0), (7, .sl 3 2 2 0 l145 l145), (8, .int .i64 ((k121 : Nat) : Int)), (11, .ptr 4 1 0 0), (13, .sl 5 1 1 0 p146 p146), (14, .int .i64 ((i160 : Nat) : Int))], [(0, .vs [.nsl, .nsl]), (1, .fl l122), (2, .vs [.sl 6 1 1 0 a148 a148, .sl 7 1 1 0 a149 a149]), (3, .cols l145 [.cfl l150, .cf l151]), (4, .vs [.imm .free (.fl l142) 1 1 0 a143, .flt false a144]), (5, .fl l161), (6, .fl l153), (7, .fl l154)], 8⟩
def ref10_Reduce_n162 (m_0 : Int) (m_3 : List Nat) (k121 : Nat) (l122 : List Nat) (l142 : List Nat) (a143 : Nat) (a144 : Nat) (l145 : Nat) (p146 : Nat) (a148 : Nat) (a149 : Nat) (l150 : List (List Nat)) (l151 : List Nat) (l153 : List Nat) (l154 : List Nat) (l167 : (List Nat)) : ASt := ⟨slots 291 [(2, .ptr 0 1 0 0), (4, .int .i64 m_0), (5, .sl 1 1 1 0 (List.length m_3) (List.length m_3)), (6, .ptr 2 1 0 0), (7, .sl 3 2 2 0 l145 l145), (8, .int .i64 ((k121 : Nat) : Int)), (11, .ptr 4 1 0 0), (13, .sl 5 1 1 0 p146 p146)], [(0, .vs [.nsl, .nsl]), (1, .fl l122), (2, .vs [.sl 6 1 1 0 a148 a148, .sl 7 1 1 0 a149 a149]), (3, .cols l145 [.cfl l150, .cf l151]), (4, .vs [.imm .free (.fl l142) 1 1 0 a143, .flt false a144]), (5, .fl l167), (6, .fl l153), (7, .fl l154)], 8⟩
noncomputable def ref10_Reduce_l220 : List Code := flat (inLoop (((((((ref10_Reduce_l213.drop 2).drop 1).drop 1).drop 7).take 1)).headD .skip))
def ref10_Reduce_n154 (m_0 : Int) (m_3 : List Nat) (k121 : Nat) (l122 : List Nat) (l142 : List Nat) (a143 : Nat) (a144 : Nat) (l145 : Nat) (p146 : Nat) (a148 : Nat) (a149 : Nat) (l150 : List (List Nat)) (l151 : List Nat) (l153 : List Nat) (l154 : List Nat) (i160 : Nat) (l161 : List Nat) (_ : Unit) : ASt := ⟨slots 291 [(2, .ptr 0 1 0 0), (4, .int .i64 m_0), (5, .sl 1 1 1 0 (List.length m_3) (List.length m_3)), (6, .ptr 2 1 0 0), (7, .sl 3 2 2 0 l145 l145), (8, .int .i64 ((k121 : Nat) : Int)), (11, .ptr 4 1 0 0), (13, .sl 5 1 1 0 p146 p146), (14, .int .i64 ((i160 : Nat) : Int))], [(0, .vs [.nsl, .nsl]), (1, .fl l122), (2, .vs [.sl 6 1 1 0 a148 a148, .sl 7 1 1 0 a149 a149]), (3, .cols l145 [.cfl l150, .cf l151]), (4, .vs [.imm .free (.fl l142) 1 1 0 a143, .flt false a144]), (5, .fl l161), (6, .fl l153), (7, .fl l154)], 8⟩
def ref10_Reduce_t221 (m_0 : Int) (i160 : Nat) (l161 : List Nat) : T ((Unit) ⊕ (((List Nat)) ⊕ ((Nat × (List Nat) × Nat × Nat × (List (List Nat)) × (List Nat) × (List Nat) × (List Nat)) ⊕ ((Nat × Nat × (List Nat) × Nat × Nat × Nat × Nat × Nat × (List (List Nat)) × (List Nat) × (List Nat) × (List Nat)) ⊕ (ref10_Reduce_X))))) :=
  .ask (decide (((i160 : Nat) : Int) < m_0))
    (.leaf (.inl ()))
    (.leaf (.inr (.inl l161)))
def ref10_Reduce_n160 (m_0 : Int) (m_3 : List Nat) (k121 : Nat) (l122 : List Nat) (l142 : List Nat) (a143 : Nat) (a144 : Nat) (l145 : Nat) (p146 : Nat) (a148 : Nat) (a149 : Nat) (l150 : List (List Nat)) (l151 : List Nat) (l153 : List Nat) (l154 : List Nat) (i160 : Nat) (l166 : (List Nat)) : ASt := ⟨slots 291 [(2, .ptr 0 1 0 0), (4, .int .i64 m_0), (5, .sl 1 1 1 0 (List.length m_3) (List.length m_3)), (6, .ptr 2 1 0 0), (7, .sl 3 2 2 0 l145 l145), (8, .int .i64 ((k121 : Nat) : Int)), (11, .ptr 4 1 0 0), (13, .sl 5 1 1 0 p146 p146), (14, .int .i64 ((i160 : Nat) : Int))], [(0, .vs [.nsl, .nsl]), (1, .fl l122), (2, .vs [.sl 6 1 1 0 a148 a148, .sl 7 1 1 0 a149 a149]), (3, .cols l145 [.cfl l150, .cf l151]), (4, .vs [.imm .free (.fl l142) 1 1 0 a143, .flt false a144]), (5, .fl l166), (6, .fl l153), (7, .fl l154)], 8⟩
noncomputable def ref10_Reduce_l222 : List Code := flat (inBlock ((((ref10_Reduce_l220.drop 2).take 1)).headD .skip))
def ref10_Reduce_n155 (m_0 : Int) (m_3 : List Nat) (k121 : Nat) (l122 : List Nat) (l142 : List Nat) (a143 : Nat) (a144 : Nat) (l145 : Nat) (p146 : Nat) (a148 : Nat) (a149 : Nat) (l150 : List (List Nat)) (l151 : List Nat) (l153 : List Nat) (l154 : List Nat) (i160 : Nat) (l161 : List Nat) (j162 : Nat) : ASt := ⟨slots 291 [(2, .ptr 0 1 0 0), (4, .int .i64 m_0), (5, .sl 1 1 1 0 (List.length m_3) (List.length m_3)), (6, .ptr 2 1 0 0), (7, .sl 3 2 2 0 l145 l145), (8, .int .i64 ((k121 : Nat) : Int)), (11, .ptr 4 1 0 0), (13, .sl 5 1 1 0 p146 p146), (14, .int .i64 ((i160 : Nat) : Int)), (15, .flt false 0), (16, .int .i64 ((j162 : Nat) : Int))], [(0, .vs [.nsl, .nsl]), (1, .fl l122), (2, .vs [.sl 6 1 1 0 a148 a148, .sl 7 1 1 0 a149 a149]), (3, .cols l145 [.cfl l150, .cf l151]), (4, .vs [.imm .free (.fl l142) 1 1 0 a143, .flt false a144]), (5, .fl l161), (6, .fl l153), (7, .fl l154)], 8⟩
def ref10_Reduce_t223 (k121 : Nat) : T ((Nat) ⊕ (((List Nat)) ⊕ (((List Nat)) ⊕ ((Nat × (List Nat) × Nat × Nat × (List (List Nat)) × (List Nat) × (List Nat) × (List Nat)) ⊕ ((Nat × Nat × (List Nat) × Nat × Nat × Nat × Nat × Nat × (List (List Nat)) × (List Nat) × (List Nat) × (List Nat)) ⊕ (ref10_Reduce_X)))))) :=
  .need (inK .i64 (((k121 + 1) : Nat) : Int)) <| .leaf (.inl (k121 + 1))
def ref10_Reduce_n157 (m_0 : Int) (m_3 : List Nat) (k121 : Nat) (l122 : List Nat) (l142 : List Nat) (a143 : Nat) (a144 : Nat) (l145 : Nat) (p146 : Nat) (a148 : Nat) (a149 : Nat) (l150 : List (List Nat)) (l151 : List Nat) (l153 : List Nat) (l154 : List Nat) (i160 : Nat) (l161 : List Nat) : Nat × Nat → ASt := fun (s163, j164) => ⟨slots 291 [(2, .ptr 0 1 0 0), (4, .int .i64 m_0), (5, .sl 1 1 1 0 (List.length m_3) (List.length m_3)), (6, .ptr 2 1 0 0), (7, .sl 3 2 2 0 l145 l145), (8, .int .i64 ((k121 : Nat) : Int)), (11, .ptr 4 1 0 0), (13, .sl 5 1 1 0 p146 p146), (14, .int .i64 ((i160 : Nat) : Int)), (15, .flt false s163), (16, .int .i64 ((j164 : Nat) : Int))], [(0, .vs [.nsl, .nsl]), (1, .fl l122), (2, .vs [.sl 6 1 1 0 a148 a148, .sl 7 1 1 0 a149 a149]), (3, .cols l145 [.cfl l150, .cf l151]), (4, .vs [.imm .free (.fl l142) 1 1 0 a143, .flt false a144]), (5, .fl l161), (6, .fl l153), (7, .fl l154)], 8⟩
def ref10_Reduce_n158 (m_0 : Int) (m_3 : List Nat) (k121 : Nat) (l122 : List Nat) (l142 : List Nat) (a143 : Nat) (a144 : Nat) (l145 : Nat) (p146 : Nat) (a148 : Nat) (a149 : Nat) (l150 : List (List Nat)) (l151 : List Nat) (l153 : List Nat) (l154 : List Nat) (i160 : Nat) (l161 : List Nat) (s165 : Nat) : ASt := ⟨slots 291 [(2, .ptr 0 1 0 0), (4, .int .i64 m_0), (5, .sl 1 1 1 0 (List.length m_3) (List.length m_3)), (6, .ptr 2 1 0 0), (7, .sl 3 2 2 0 l145 l145), (8, .int .i64 ((k121 : Nat) : Int)), (11, .ptr 4 1 0 0), (13, .sl 5 1 1 0 p146 p146), (14, .int .i64 ((i160 : Nat) : Int)), (15, .flt false s165)], [(0, .vs [.nsl, .nsl]), (1, .fl l122), (2, .vs [.sl 6 1 1 0 a148 a148, .sl 7 1 1 0 a149 a149]), (3, .cols l145 [.cfl l150, .cf l151]), (4, .vs [.imm .free (.fl l142) 1 1 0 a143, .flt false a144]), (5, .fl l161), (6, .fl l153), (7, .fl l154)], 8⟩
noncomputable def ref10_Reduce_l224 : List Code := flat (inLoop ((((ref10_Reduce_l222.drop 2).take 1)).headD .skip))
def ref10_Reduce_t225 (m_0 : Int) (m_3 : List Nat) (k121 : Nat) (l122 : List Nat) (l142 : List Nat) (a143 : Nat) (i160 : Nat) (s163 : Nat) (j164 : Nat) : T ((Nat × Nat) ⊕ ((Nat) ⊕ (((List Nat)) ⊕ (((List Nat)) ⊕ ((Nat × (List Nat) × Nat × Nat × (List (List Nat)) × (List Nat) × (List Nat) × (List Nat)) ⊕ ((Nat × Nat × (List Nat) × Nat × Nat × Nat × Nat × Nat × (List (List Nat)) × (List Nat) × (List Nat) × (List Nat)) ⊕ (ref10_Reduce_X))))))) :=
  .ask (decide (((j164 : Nat) : Int) < m_0))
    (.need (inK .i64 (((i160 : Nat) : Int) * m_0)) <| .need (inK .i64 ((((i160 : Nat) : Int) * m_0) + ((j164 : Nat) : Int))) <| .need (inB ((((i160 : Nat) : Int) * m_0) + ((j164 : Nat) : Int)) (List.length m_3)) <| .need (ltB (Int.toNat ((((i160 : Nat) : Int) * m_0) + ((j164 : Nat) : Int))) (List.length l122)) <| .need (inK .i64 (((j164 : Nat) : Int) - ((k121 : Nat) : Int))) <| .need (inK .i64 ((((j164 : Nat) : Int) - ((k121 : Nat) : Int)) - (1 : Int))) <| .need (inB ((((j164 : Nat) : Int) - ((k121 : Nat) : Int)) - (1 : Int)) a143) <| .need (ltB (Int.toNat ((((j164 : Nat) : Int) - ((k121 : Nat) : Int)) - (1 : Int))) (List.length l142)) <| .need (inK .i64 (((j164 + 1) : Nat) : Int)) <| .leaf (.inl ((fadd s163 (fmul (List.getD l122 (Int.toNat ((((i160 : Nat) : Int) * m_0) + ((j164 : Nat) : Int))) 0) (List.getD l142 (Int.toNat ((((j164 : Nat) : Int) - ((k121 : Nat) : Int)) - (1 : Int))) 0))), (j164 + 1))))
    (.leaf (.inr (.inl s163)))
noncomputable def ref10_Reduce_m226 (m_0 : Int) (m_3 : List Nat) (k121 : Nat) (l122 : List Nat) (l142 : List Nat) (a143 : Nat) (i160 : Nat) : Nat × Nat → Option ((Nat × Nat) ⊕ ((Nat) ⊕ (((List Nat)) ⊕ (((List Nat)) ⊕ ((Nat × (List Nat) × Nat × Nat × (List (List Nat)) × (List Nat) × (List Nat) × (List Nat)) ⊕ ((Nat × Nat × (List Nat) × Nat × Nat × Nat × Nat × Nat × (List (List Nat)) × (List Nat) × (List Nat) × (List Nat)) ⊕ (ref10_Reduce_X))))))) := fun (s163, j164) =>
  (ref10_Reduce_t225 m_0 m_3 k121 l122 l142 a143 i160 s163 j164).run
theorem ref10_Reduce_s226 (m_0 : Int) (m_3 : List Nat) (k121 : Nat) (l122 : List Nat) (l142 : List Nat) (a143 : Nat) (a144 : Nat) (l145 : Nat) (p146 : Nat) (a148 : Nat) (a149 : Nat) (l150 : List (List Nat)) (l151 : List Nat) (l153 : List Nat) (l154 : List Nat) (i160 : Nat) (l161 : List Nat) (s163 : Nat) (j164 : Nat) : Sg prog [] ref10_Reduce_l224 (ref10_Reduce_n157 m_0 m_3 k121 l122 l142 a143 a144 l145 p146 a148 a149 l150 l151 l153 l154 i160 l161 (s163, j164)) (ref10_Reduce_m226 m_0 m_3 k121 l122 l142 a143 i160 (s163, j164)) (ref10_Reduce_n157 m_0 m_3 k121 l122 l142 a143 a144 l145 p146 a148 a149 l150 l151 l153 l154 i160 l161) (exitE 6 (ref10_Reduce_n158 m_0 m_3 k121 l122 l142 a143 a144 l145 p146 a148 a149 l150 l151 l153 l154 i160 l161) (exitE 5 (ref10_Reduce_n160 m_0 m_3 k121 l122 l142 a143 a144 l145 p146 a148 a149 l150 l151 l153 l154 i160) (exitE 4 (ref10_Reduce_n162 m_0 m_3 k121 l122 l142 a143 a144 l145 p146 a148 a149 l150 l151 l153 l154) (exitE 1 (ref10_Reduce_n199 m_0 m_3 k121) (exitE 0 (ref10_Reduce_n201 m_0 m_3) ref10_Reduce_E))))) := by
  unfold ref10_Reduce_m226; exact Sg.seg (C := C0) C0_ok L_ref09_Make_ok 60 ref10_Reduce_l224 (ref10_Reduce_n157 m_0 m_3 k121 l122 l142 a143 a144 l145 p146 a148 a149 l150 l151 l153 l154 i160 l161 (s163, j164)) (ref10_Reduce_t225 m_0 m_3 k121 l122 l142 a143 i160 s163 j164) (ref10_Reduce_n157 m_0 m_3 k121 l122 l142 a143 a144 l145 p146 a148 a149 l150 l151 l153 l154 i160 l161) (exitE 6 (ref10_Reduce_n158 m_0 m_3 k121 l122 l142 a143 a144 l145 p146 a148 a149 l150 l151 l153 l154 i160 l161) (exitE 5 (ref10_Reduce_n160 m_0 m_3 k121 l122 l142 a143 a144 l145 p146 a148 a149 l150 l151 l153 l154 i160) (exitE 4 (ref10_Reduce_n162 m_0 m_3 k121 l122 l142 a143 a144 l145 p146 a148 a149 l150 l151 l153 l154) (exitE 1 (ref10_Reduce_n199 m_0 m_3 k121) (exitE 0 (ref10_Reduce_n201 m_0 m_3) ref10_Reduce_E))))) [⟨[], [0, 1, 2, 3, 4, 5, 6, 7], [2, 4, 5, 6, 7, 8, 11, 13, 14, 15, 16]⟩, ⟨[], [0, 1, 2, 3, 4, 5, 6, 7], [2, 4, 5, 6, 7, 8, 11, 13, 14, 15]⟩] (by kernel_rfl)
def ref10_Reduce_n159 (m_0 : Int) (m_3 : List Nat) (k121 : Nat) (l122 : List Nat) (l142 : List Nat) (a143 : Nat) (a144 : Nat) (l145 : Nat) (p146 : Nat) (a148 : Nat) (a149 : Nat) (l150 : List (List Nat)) (l151 : List Nat) (l153 : List Nat) (l154 : List Nat) (i160 : Nat) (l161 : List Nat) : Nat → ASt := ref10_Reduce_n158 m_0 m_3 k121 l122 l142 a143 a144 l145 p146 a148 a149 l150 l151 l153 l154 i160 l161
def ref10_Reduce_t227 (a144 : Nat) (p146 : Nat) (i160 : Nat) (l161 : List Nat) (s165 : Nat) : T (((List Nat)) ⊕ (((List Nat)) ⊕ (((List Nat)) ⊕ ((Nat × (List Nat) × Nat × Nat × (List (List Nat)) × (List Nat) × (List Nat) × (List Nat)) ⊕ ((Nat × Nat × (List Nat) × Nat × Nat × Nat × Nat × Nat × (List (List Nat)) × (List Nat) × (List Nat) × (List Nat)) ⊕ (ref10_Reduce_X)))))) :=
  .need (inB ((i160 : Nat) : Int) p146) <| .need (ltB i160 (List.length l161)) <| .leaf (.inl (List.set l161 i160 (fmul a144 s165)))
def ref10_Reduce_n161 (m_0 : Int) (m_3 : List Nat) (k121 : Nat) (l122 : List Nat) (l142 : List Nat) (a143 : Nat) (a144 : Nat) (l145 : Nat) (p146 : Nat) (a148 : Nat) (a149 : Nat) (l150 : List (List Nat)) (l151 : List Nat) (l153 : List Nat) (l154 : List Nat) (i160 : Nat) : (List Nat) → ASt := ref10_Reduce_n160 m_0 m_3 k121 l122 l142 a143 a144 l145 p146 a148 a149 l150 l151 l153 l154 i160
def ref10_Reduce_t228 (i160 : Nat) (l166 : List Nat) : T ((Nat × (List Nat)) ⊕ (((List Nat)) ⊕ ((Nat × (List Nat) × Nat × Nat × (List (List Nat)) × (List Nat) × (List Nat) × (List Nat)) ⊕ ((Nat × Nat × (List Nat) × Nat × Nat × Nat × Nat × Nat × (List (List Nat)) × (List Nat) × (List Nat) × (List Nat)) ⊕ (ref10_Reduce_X))))) :=
  .need (inK .i64 (((i160 + 1) : Nat) : Int)) <| .leaf (.inl ((i160 + 1), l166))
noncomputable def ref10_Reduce_m229 (m_0 : Int) (m_3 : List Nat) (k121 : Nat) (l122 : List Nat) (l142 : List Nat) (a143 : Nat) (a144 : Nat) (p146 : Nat) : Nat × (List Nat) → Option ((Nat × (List Nat)) ⊕ (((List Nat)) ⊕ ((Nat × (List Nat) × Nat × Nat × (List (List Nat)) × (List Nat) × (List Nat) × (List Nat)) ⊕ ((Nat × Nat × (List Nat) × Nat × Nat × Nat × Nat × Nat × (List (List Nat)) × (List Nat) × (List Nat) × (List Nat)) ⊕ (ref10_Reduce_X))))) := fun (i160, l161) =>
  seqM ((ref10_Reduce_t221 m_0 i160 l161).run) fun _ =>
  seqM (joinM (seqM ((ref10_Reduce_t223 k121).run) fun j162 =>
  seqM (loopM (ref10_Reduce_m226 m_0 m_3 k121 l122 l142 a143 i160) (0, j162)) fun s165 =>
  (ref10_Reduce_t227 a144 p146 i160 l161 s165).run)) fun l166 =>
  (ref10_Reduce_t228 i160 l166).run
theorem ref10_Reduce_s229 (m_0 : Int) (m_3 : List Nat) (k121 : Nat) (l122 : List Nat) (l142 : List Nat) (a143 : Nat) (a144 : Nat) (l145 : Nat) (p146 : Nat) (a148 : Nat) (a149 : Nat) (l150 : List (List Nat)) (l151 : List Nat) (l153 : List Nat) (l154 : List Nat) (i160 : Nat) (l161 : List Nat) : Sg prog [] ref10_Reduce_l220 (ref10_Reduce_n153 m_0 m_3 k121 l122 l142 a143 a144 l145 p146 a148 a149 l150 l151 l153 l154 (i160, l161)) (ref10_Reduce_m229 m_0 m_3 k121 l122 l142 a143 a144 p146 (i160, l161)) (ref10_Reduce_n153 m_0 m_3 k121 l122 l142 a143 a144 l145 p146 a148 a149 l150 l151 l153 l154) (exitE 4 (ref10_Reduce_n162 m_0 m_3 k121 l122 l142 a143 a144 l145 p146 a148 a149 l150 l151 l153 l154) (exitE 1 (ref10_Reduce_n199 m_0 m_3 k121) (exitE 0 (ref10_Reduce_n201 m_0 m_3) ref10_Reduce_E))) := by
  unfold ref10_Reduce_m229; exact Sg.cut 2 (noN_exit (noN_exit (noN_exit ref10_Reduce_hN))) (Sg.seg (C := C0) C0_ok L_ref09_Make_ok 60 (ref10_Reduce_l220.take 2) (ref10_Reduce_n153 m_0 m_3 k121 l122 l142 a143 a144 l145 p146 a148 a149 l150 l151 l153 l154 (i160, l161)) (ref10_Reduce_t221 m_0 i160 l161) (ref10_Reduce_n154 m_0 m_3 k121 l122 l142 a143 a144 l145 p146 a148 a149 l150 l151 l153 l154 i160 l161) (exitE 4 (ref10_Reduce_n162 m_0 m_3 k121 l122 l142 a143 a144 l145 p146 a148 a149 l150 l151 l153 l154) (exitE 1 (ref10_Reduce_n199 m_0 m_3 k121) (exitE 0 (ref10_Reduce_n201 m_0 m_3) ref10_Reduce_E))) [⟨[], [0, 1, 2, 3, 4, 5, 6, 7], [2, 4, 5, 6, 7, 8, 11, 13, 14]⟩, ⟨[], [0, 1, 2, 3, 4, 5, 6, 7], [2, 4, 5, 6, 7, 8, 11, 13]⟩] (by kernel_rfl)) (fun a => by cases a; exact Sg.cut 1 (noN_exit (noN_exit (noN_exit ref10_Reduce_hN))) (Sg.blockAt (id := 5) (K := (ref10_Reduce_n160 m_0 m_3 k121 l122 l142 a143 a144 l145 p146 a148 a149 l150 l151 l153 l154 i160)) (by kernel_rfl : ((ref10_Reduce_l220.drop 2).take 1) = [.block 5 (inBlock ((((ref10_Reduce_l220.drop 2).take 1)).headD .skip))]) (noN_exit (noN_exit (noN_exit ref10_Reduce_hN))) (noId_exit (by decide) (noId_exit (by decide) (noId_exit (by decide) (ref10_Reduce_hI _)))) (Sg.cut 2 (noN_exit (noN_exit (noN_exit (noN_exit ref10_Reduce_hN)))) (Sg.seg (C := C0) C0_ok L_ref09_Make_ok 60 (ref10_Reduce_l222.take 2) (ref10_Reduce_n154 m_0 m_3 k121 l122 l142 a143 a144 l145 p146 a148 a149 l150 l151 l153 l154 i160 l161 ()) (ref10_Reduce_t223 k121) (ref10_Reduce_n155 m_0 m_3 k121 l122 l142 a143 a144 l145 p146 a148 a149 l150 l151 l153 l154 i160 l161) (exitE 5 (ref10_Reduce_n160 m_0 m_3 k121 l122 l142 a143 a144 l145 p146 a148 a149 l150 l151 l153 l154 i160) (exitE 4 (ref10_Reduce_n162 m_0 m_3 k121 l122 l142 a143 a144 l145 p146 a148 a149 l150 l151 l153 l154) (exitE 1 (ref10_Reduce_n199 m_0 m_3 k121) (exitE 0 (ref10_Reduce_n201 m_0 m_3) ref10_Reduce_E)))) [⟨[], [0, 1, 2, 3, 4, 5, 6, 7], [2, 4, 5, 6, 7, 8, 11, 13, 14, 15, 16]⟩] (by kernel_rfl)) (fun j162 => by exact Sg.cut 1 (noN_exit (noN_exit (noN_exit (noN_exit ref10_Reduce_hN)))) (Sg.pre ⟨[], [0, 1, 2, 3, 4, 5, 6, 7], [2, 4, 5, 6, 7, 8, 11, 13, 14, 15, 16]⟩ rfl (by kernel_rfl : NS.on ⟨[], [0, 1, 2, 3, 4, 5, 6, 7], [2, 4, 5, 6, 7, 8, 11, 13, 14, 15, 16]⟩ (ref10_Reduce_n155 m_0 m_3 k121 l122 l142 a143 a144 l145 p146 a148 a149 l150 l151 l153 l154 i160 l161 j162) = (ref10_Reduce_n157 m_0 m_3 k121 l122 l142 a143 a144 l145 p146 a148 a149 l150 l151 l153 l154 i160 l161) (0, j162)) (Sg.loopAt (I := (ref10_Reduce_n157 m_0 m_3 k121 l122 l142 a143 a144 l145 p146 a148 a149 l150 l151 l153 l154 i160 l161)) (J := (ref10_Reduce_n158 m_0 m_3 k121 l122 l142 a143 a144 l145 p146 a148 a149 l150 l151 l153 l154 i160 l161)) (id := 6) (by kernel_rfl : ((ref10_Reduce_l222.drop 2).take 1) = [.block 6 (.loop (inLoop ((((ref10_Reduce_l222.drop 2).take 1)).headD .skip)))]) (noN_exit (noN_exit (noN_exit (noN_exit ref10_Reduce_hN)))) (noId_exit (by decide) (noId_exit (by decide) (noId_exit (by decide) (noId_exit (by decide) (ref10_Reduce_hI _))))) (fun s => by obtain ⟨s163, j164⟩ := s; exact ref10_Reduce_s226 m_0 m_3 k121 l122 l142 a143 a144 l145 p146 a148 a149 l150 l151 l153 l154 i160 l161 s163 j164) (0, j162))) (fun s165 => by exact Sg.seg (C := C0) C0_ok L_ref09_Make_ok 60 ((ref10_Reduce_l222.drop 2).drop 1) (ref10_Reduce_n159 m_0 m_3 k121 l122 l142 a143 a144 l145 p146 a148 a149 l150 l151 l153 l154 i160 l161 s165) (ref10_Reduce_t227 a144 p146 i160 l161 s165) (ref10_Reduce_n160 m_0 m_3 k121 l122 l142 a143 a144 l145 p146 a148 a149 l150 l151 l153 l154 i160) (exitE 5 (ref10_Reduce_n160 m_0 m_3 k121 l122 l142 a143 a144 l145 p146 a148 a149 l150 l151 l153 l154 i160) (exitE 4 (ref10_Reduce_n162 m_0 m_3 k121 l122 l142 a143 a144 l145 p146 a148 a149 l150 l151 l153 l154) (exitE 1 (ref10_Reduce_n199 m_0 m_3 k121) (exitE 0 (ref10_Reduce_n201 m_0 m_3) ref10_Reduce_E)))) [⟨[], [0, 1, 2, 3, 4, 5, 6, 7], [2, 4, 5, 6, 7, 8, 11, 13, 14]⟩] (by kernel_rfl))))) (fun l166 => by exact Sg.seg (C := C0) C0_ok L_ref09_Make_ok 60 ((ref10_Reduce_l220.drop 2).drop 1) (ref10_Reduce_n161 m_0 m_3 k121 l122 l142 a143 a144 l145 p146 a148 a149 l150 l151 l153 l154 i160 l166) (ref10_Reduce_t228 i160 l166) (ref10_Reduce_n153 m_0 m_3 k121 l122 l142 a143 a144 l145 p146 a148 a149 l150 l151 l153 l154) (exitE 4 (ref10_Reduce_n162 m_0 m_3 k121 l122 l142 a143 a144 l145 p146 a148 a149 l150 l151 l153 l154) (exitE 1 (ref10_Reduce_n199 m_0 m_3 k121) (exitE 0 (ref10_Reduce_n201 m_0 m_3) ref10_Reduce_E))) [⟨[], [0, 1, 2, 3, 4, 5, 6, 7], [2, 4, 5, 6, 7, 8, 11, 13, 14]⟩] (by kernel_rfl)))
def ref10_Reduce_n163 (m_0 : Int) (m_3 : List Nat) (k121 : Nat) (l122 : List Nat) (l142 : List Nat) (a143 : Nat) (a144 : Nat) (l145 : Nat) (p146 : Nat) (a148 : Nat) (a149 : Nat) (l150 : List (List Nat)) (l151 : List Nat) (l153 : List Nat) (l154 : List Nat) : (List Nat) → ASt := ref10_Reduce_n162 m_0 m_3 k121 l122 l142 a143 a144 l145 p146 a148 a149 l150 l151 l153 l154
def ref10_Reduce_n164 (m_0 : Int) (m_3 : List Nat) (k121 : Nat) (l122 : List Nat) (l142 : List Nat) (a143 : Nat) (a144 : Nat) (l145 : Nat) (p146 : Nat) (a148 : Nat) (a149 : Nat) (l150 : List (List Nat)) (l151 : List Nat) (l153 : List Nat) (l154 : List Nat) (l167 : List Nat) (i168 : Nat) : ASt := ⟨slots 291 [(2, .ptr 0 1 0 0), (4, .int .i64 m_0), (5, .sl 1 1 1 0 (List.length m_3) (List.length m_3)), (6, .ptr 2 1 0 0), (7, .sl 3 2 2 0 l145 l145), (8, .int .i64 ((k121 : Nat) : Int)), (11, .ptr 4 1 0 0), (13, .sl 5 1 1 0 p146 p146), (18, .flt false 0), (19, .int .i64 ((i168 : Nat) : Int))], [(0, .vs [.nsl, .nsl]), (1, .fl l122), (2, .vs [.sl 6 1 1 0 a148 a148, .sl 7 1 1 0 a149 a149]), (3, .cols l145 [.cfl l150, .cf l151]), (4, .vs [.imm .free (.fl l142) 1 1 0 a143, .flt false a144]), (5, .fl l167), (6, .fl l153), (7, .fl l154)], 8⟩
def ref10_Reduce_t230 (k121 : Nat) : T ((Nat) ⊕ ((Nat × (List Nat) × Nat × Nat × (List (List Nat)) × (List Nat) × (List Nat) × (List Nat)) ⊕ ((Nat × Nat × (List Nat) × Nat × Nat × Nat × Nat × Nat × (List (List Nat)) × (List Nat) × (List Nat) × (List Nat)) ⊕ (ref10_Reduce_X)))) :=
  .need (inK .i64 (((k121 + 1) : Nat) : Int)) <| .leaf (.inl (k121 + 1))
def ref10_Reduce_n166 (m_0 : Int) (m_3 : List Nat) (k121 : Nat) (l122 : List Nat) (l142 : List Nat) (a143 : Nat) (a144 : Nat) (l145 : Nat) (p146 : Nat) (a148 : Nat) (a149 : Nat) (l150 : List (List Nat)) (l151 : List Nat) (l153 : List Nat) (l154 : List Nat) (l167 : List Nat) : Nat × Nat → ASt := fun (s169, i170) => ⟨slots 291 [(2, .ptr 0 1 0 0), (4, .int .i64 m_0), (5, .sl 1 1 1 0 (List.length m_3) (List.length m_3)), (6, .ptr 2 1 0 0), (7, .sl 3 2 2 0 l145 l145), (8, .int .i64 ((k121 : Nat) : Int)), (11, .ptr 4 1 0 0), (13, .sl 5 1 1 0 p146 p146), (18, .flt false s169), (19, .int .i64 ((i170 : Nat) : Int))], [(0, .vs [.nsl, .nsl]), (1, .fl l122), (2, .vs [.sl 6 1 1 0 a148 a148, .sl 7 1 1 0 a149 a149]), (3, .cols l145 [.cfl l150, .cf l151]), (4, .vs [.imm .free (.fl l142) 1 1 0 a143, .flt false a144]), (5, .fl l167), (6, .fl l153), (7, .fl l154)], 8⟩
def ref10_Reduce_n167 (m_0 : Int) (m_3 : List Nat) (k121 : Nat) (l122 : List Nat) (l142 : List Nat) (a143 : Nat) (a144 : Nat) (l145 : Nat) (p146 : Nat) (a148 : Nat) (a149 : Nat) (l150 : List (List Nat)) (l151 : List Nat) (l153 : List Nat) (l154 : List Nat) (l167 : List Nat) (s171 : Nat) : ASt := ⟨slots 291 [(2, .ptr 0 1 0 0), (4, .int .i64 m_0), (5, .sl 1 1 1 0 (List.length m_3) (List.length m_3)), (6, .ptr 2 1 0 0), (7, .sl 3 2 2 0 l145 l145), (8, .int .i64 ((k121 : Nat) : Int)), (11, .ptr 4 1 0 0), (13, .sl 5 1 1 0 p146 p146), (18, .flt false s171)], [(0, .vs [.nsl, .nsl]), (1, .fl l122), (2, .vs [.sl 6 1 1 0 a148 a148, .sl 7 1 1 0 a149 a149]), (3, .cols l145 [.cfl l150, .cf l151]), (4, .vs [.imm .free (.fl l142) 1 1 0 a143, .flt false a144]), (5, .fl l167), (6, .fl l153), (7, .fl l154)], 8⟩
noncomputable def ref10_Reduce_l231 : List Code := flat (inLoop (((((((((ref10_Reduce_l213.drop 2).drop 1).drop 1).drop 7).drop 1).drop 2).take 1)).headD .skip))
def ref10_Reduce_t232 (m_0 : Int) (k121 : Nat) (l142 : List Nat) (a143 : Nat) (p146 : Nat) (l167 : List Nat) (s169 : Nat) (i170 : Nat) : T ((Nat × Nat) ⊕ ((Nat) ⊕ ((Nat × (List Nat) × Nat × Nat × (List (List Nat)) × (List Nat) × (List Nat) × (List Nat)) ⊕ ((Nat × Nat × (List Nat) × Nat × Nat × Nat × Nat × Nat × (List (List Nat)) × (List Nat) × (List Nat) × (List Nat)) ⊕ (ref10_Reduce_X))))) :=
  .ask (decide (((i170 : Nat) : Int) < m_0))
    (.need (inB ((i170 : Nat) : Int) p146) <| .need (ltB i170 (List.length l167)) <| .need (inK .i64 (((i170 : Nat) : Int) - ((k121 : Nat) : Int))) <| .need (inK .i64 ((((i170 : Nat) : Int) - ((k121 : Nat) : Int)) - (1 : Int))) <| .need (inB ((((i170 : Nat) : Int) - ((k121 : Nat) : Int)) - (1 : Int)) a143) <| .need (ltB (Int.toNat ((((i170 : Nat) : Int) - ((k121 : Nat) : Int)) - (1 : Int))) (List.length l142)) <| .need (inK .i64 (((i170 + 1) : Nat) : Int)) <| .leaf (.inl ((fadd s169 (fmul (List.getD l167 i170 0) (List.getD l142 (Int.toNat ((((i170 : Nat) : Int) - ((k121 : Nat) : Int)) - (1 : Int))) 0))), (i170 + 1))))
    (.leaf (.inr (.inl s169)))
noncomputable def ref10_Reduce_m233 (m_0 : Int) (k121 : Nat) (l142 : List Nat) (a143 : Nat) (p146 : Nat) (l167 : List Nat) : Nat × Nat → Option ((Nat × Nat) ⊕ ((Nat) ⊕ ((Nat × (List Nat) × Nat × Nat × (List (List Nat)) × (List Nat) × (List Nat) × (List Nat)) ⊕ ((Nat × Nat × (List Nat) × Nat × Nat × Nat × Nat × Nat × (List (List Nat)) × (List Nat) × (List Nat) × (List Nat)) ⊕ (ref10_Reduce_X))))) := fun (s169, i170) =>
  (ref10_Reduce_t232 m_0 k121 l142 a143 p146 l167 s169 i170).run
theorem ref10_Reduce_s233 (m_0 : Int) (m_3 : List Nat) (k121 : Nat) (l122 : List Nat) (l142 : List Nat) (a143 : Nat) (a144 : Nat) (l145 : Nat) (p146 : Nat) (a148 : Nat) (a149 : Nat) (l150 : List (List Nat)) (l151 : List Nat) (l153 : List Nat) (l154 : List Nat) (l167 : List Nat) (s169 : Nat) (i170 : Nat) : Sg prog [] ref10_Reduce_l231 (ref10_Reduce_n166 m_0 m_3 k121 l122 l142 a143 a144 l145 p146 a148 a149 l150 l151 l153 l154 l167 (s169, i170)) (ref10_Reduce_m233 m_0 k121 l142 a143 p146 l167 (s169, i170)) (ref10_Reduce_n166 m_0 m_3 k121 l122 l142 a143 a144 l145 p146 a148 a149 l150 l151 l153 l154 l167) (exitE 8 (ref10_Reduce_n167 m_0 m_3 k121 l122 l142 a143 a144 l145 p146 a148 a149 l150 l151 l153 l154 l167) (exitE 1 (ref10_Reduce_n199 m_0 m_3 k121) (exitE 0 (ref10_Reduce_n201 m_0 m_3) ref10_Reduce_E))) := by
  unfold ref10_Reduce_m233; exact Sg.seg (C := C0) C0_ok L_ref09_Make_ok 60 ref10_Reduce_l231 (ref10_Reduce_n166 m_0 m_3 k121 l122 l142 a143 a144 l145 p146 a148 a149 l150 l151 l153 l154 l167 (s169, i170)) (ref10_Reduce_t232 m_0 k121 l142 a143 p146 l167 s169 i170) (ref10_Reduce_n166 m_0 m_3 k121 l122 l142 a143 a144 l145 p146 a148 a149 l150 l151 l153 l154 l167) (exitE 8 (ref10_Reduce_n167 m_0 m_3 k121 l122 l142 a143 a144 l145 p146 a148 a149 l150 l151 l153 l154 l167) (exitE 1 (ref10_Reduce_n199 m_0 m_3 k121) (exitE 0 (ref10_Reduce_n201 m_0 m_3) ref10_Reduce_E))) [⟨[], [0, 1, 2, 3, 4, 5, 6, 7], [2, 4, 5, 6, 7, 8, 11, 13, 18, 19]⟩, ⟨[], [0, 1, 2, 3, 4, 5, 6, 7], [2, 4, 5, 6, 7, 8, 11, 13, 18]⟩] (by kernel_rfl)
def ref10_Reduce_n168 (m_0 : Int) (m_3 : List Nat) (k121 : Nat) (l122 : List Nat) (l142 : List Nat) (a143 : Nat) (a144 : Nat) (l145 : Nat) (p146 : Nat) (a148 : Nat) (a149 : Nat) (l150 : List (List Nat)) (l151 : List Nat) (l153 : List Nat) (l154 : List Nat) (l167 : List Nat) : Nat → ASt := ref10_Reduce_n167 m_0 m_3 k121 l122 l142 a143 a144 l145 p146 a148 a149 l150 l151 l153 l154 l167
def ref10_Reduce_n169 (m_0 : Int) (m_3 : List Nat) (k121 : Nat) (l122 : List Nat) (l142 : List Nat) (a143 : Nat) (a144 : Nat) (l145 : Nat) (p146 : Nat) (a148 : Nat) (a149 : Nat) (l150 : List (List Nat)) (l151 : List Nat) (l153 : List Nat) (l154 : List Nat) (l167 : List Nat) : Nat × Nat × Nat × (List Nat) → ASt := fun (c172, w173, i174, l175) => ⟨slots 291 [(2, .ptr 0 1 0 0), (4, .int .i64 m_0), (5, .sl 1 1 1 0 (List.length m_3) (List.length m_3)), (6, .ptr 2 1 0 0), (7, .sl 3 2 2 0 l145 l145), (8, .int .i64 ((k121 : Nat) : Int)), (11, .ptr 4 1 0 0), (13, .sl 5 1 1 0 p146 p146), (21, .flt false c172), (22, .sl 6 1 1 0 w173 w173), (23, .int .i64 ((i174 : Nat) : Int))], [(0, .vs [.nsl, .nsl]), (1, .fl l122), (2, .vs [.sl 7 1 1 0 a148 a148, .sl 8 1 1 0 a149 a149]), (3, .cols l145 [.cfl l150, .cf l151]), (4, .vs [.imm .free (.fl l142) 1 1 0 a143, .flt false a144]), (5, .fl l167), (6, .fl l175), (7, .fl l153), (8, .fl l154)], 9⟩
def ref10_Reduce_t234 (m_0 : Int) (k121 : Nat) (a144 : Nat) (s171 : Nat) : T ((Nat × Nat × Nat × (List Nat)) ⊕ ((Nat × (List Nat) × Nat × Nat × (List (List Nat)) × (List Nat) × (List Nat) × (List Nat)) ⊕ ((Nat × Nat × (List Nat) × Nat × Nat × Nat × Nat × Nat × (List (List Nat)) × (List Nat) × (List Nat) × (List Nat)) ⊕ (ref10_Reduce_X)))) :=
  .need (decide ((0 : Int) ≤ m_0)) <| .need (decide (m_0 ≤ m_0)) <| .need (decide ((8 : Int) * m_0 ≤ 140737488355328)) <| .need (inK .i64 m_0) <| .need (inK .i64 (((k121 + 1) : Nat) : Int)) <| .leaf (.inl ((fneg (fmul (fmul 4602678819172646912 a144) s171)), (Int.toNat m_0), (k121 + 1), (List.replicate (Int.toNat m_0) 0)))
def ref10_Reduce_n171 (m_0 : Int) (m_3 : List Nat) (k121 : Nat) (l122 : List Nat) (l142 : List Nat) (a143 : Nat) (a144 : Nat) (l145 : Nat) (p146 : Nat) (a148 : Nat) (a149 : Nat) (l150 : List (List Nat)) (l151 : List Nat) (l153 : List Nat) (l154 : List Nat) (l167 : List Nat) (c172 : Nat) (w173 : Nat) : Nat × (List Nat) → ASt := fun (i176, l177) => ⟨slots 291 [(2, .ptr 0 1 0 0), (4, .int .i64 m_0), (5, .sl 1 1 1 0 (List.length m_3) (List.length m_3)), (6, .ptr 2 1 0 0), (7, .sl 3 2 2 0 l145 l145), (8, .int .i64 ((k121 : Nat) : Int)), (11, .ptr 4 1 0 0), (13, .sl 5 1 1 0 p146 p146), (21, .flt false c172), (22, .sl 6 1 1 0 w173 w173), (23, .int .i64 ((i176 : Nat) : Int))], [(0, .vs [.nsl, .nsl]), (1, .fl l122), (2, .vs [.sl 7 1 1 0 a148 a148, .sl 8 1 1 0 a149 a149]), (3, .cols l145 [.cfl l150, .cf l151]), (4, .vs [.imm .free (.fl l142) 1 1 0 a143, .flt false a144]), (5, .fl l167), (6, .fl l177), (7, .fl l153), (8, .fl l154)], 9⟩
def ref10_Reduce_n172 (m_0 : Int) (m_3 : List Nat) (k121 : Nat) (l122 : List Nat) (l142 : List Nat) (a143 : Nat) (a144 : Nat) (l145 : Nat) (a148 : Nat) (a149 : Nat) (l150 : List (List Nat)) (l151 : List Nat) (l153 : List Nat) (l154 : List Nat) (w173 : Nat) (l178 : (List Nat)) : ASt := ⟨slots 291 [(2, .ptr 0 1 0 0), (4, .int .i64 m_0), (5, .sl 1 1 1 0 (List.length m_3) (List.length m_3)), (6, .ptr 2 1 0 0), (7, .sl 3 2 2 0 l145 l145), (8, .int .i64 ((k121 : Nat) : Int)), (11, .ptr 4 1 0 0), (22, .sl 5 1 1 0 w173 w173)], [(0, .vs [.nsl, .nsl]), (1, .fl l122), (2, .vs [.sl 6 1 1 0 a148 a148, .sl 7 1 1 0 a149 a149]), (3, .cols l145 [.cfl l150, .cf l151]), (4, .vs [.imm .free (.fl l142) 1 1 0 a143, .flt false a144]), (5, .fl l178), (6, .fl l153), (7, .fl l154)], 8⟩
noncomputable def ref10_Reduce_l235 : List Code := flat (inLoop (((((((((((ref10_Reduce_l213.drop 2).drop 1).drop 1).drop 7).drop 1).drop 2).drop 1).drop 5).take 1)).headD .skip))
def ref10_Reduce_t236 (m_0 : Int) (k121 : Nat) (l142 : List Nat) (a143 : Nat) (p146 : Nat) (l167 : List Nat) (c172 : Nat) (w173 : Nat) (i176 : Nat) (l177 : List Nat) : T ((Nat × (List Nat)) ⊕ (((List Nat)) ⊕ ((Nat × (List Nat) × Nat × Nat × (List (List Nat)) × (List Nat) × (List Nat) × (List Nat)) ⊕ ((Nat × Nat × (List Nat) × Nat × Nat × Nat × Nat × Nat × (List (List Nat)) × (List Nat) × (List Nat) × (List Nat)) ⊕ (ref10_Reduce_X))))) :=
  .ask (decide (((i176 : Nat) : Int) < m_0))
    (.need (inK .i64 (((i176 : Nat) : Int) - ((k121 : Nat) : Int))) <| .need (inK .i64 ((((i176 : Nat) : Int) - ((k121 : Nat) : Int)) - (1 : Int))) <| .need (inB ((((i176 : Nat) : Int) - ((k121 : Nat) : Int)) - (1 : Int)) a143) <| .need (ltB (Int.toNat ((((i176 : Nat) : Int) - ((k121 : Nat) : Int)) - (1 : Int))) (List.length l142)) <| .need (inB ((i176 : Nat) : Int) p146) <| .need (ltB i176 (List.length l167)) <| .need (inB ((i176 : Nat) : Int) w173) <| .need (ltB i176 (List.length l177)) <| .need (inK .i64 (((i176 + 1) : Nat) : Int)) <| .leaf (.inl ((i176 + 1), (List.set l177 i176 (fadd (List.getD l167 i176 0) (fmul c172 (List.getD l142 (Int.toNat ((((i176 : Nat) : Int) - ((k121 : Nat) : Int)) - (1 : Int))) 0)))))))
    (.leaf (.inr (.inl l177)))
noncomputable def ref10_Reduce_m237 (m_0 : Int) (k121 : Nat) (l142 : List Nat) (a143 : Nat) (p146 : Nat) (l167 : List Nat) (c172 : Nat) (w173 : Nat) : Nat × (List Nat) → Option ((Nat × (List Nat)) ⊕ (((List Nat)) ⊕ ((Nat × (List Nat) × Nat × Nat × (List (List Nat)) × (List Nat) × (List Nat) × (List Nat)) ⊕ ((Nat × Nat × (List Nat) × Nat × Nat × Nat × Nat × Nat × (List (List Nat)) × (List Nat) × (List Nat) × (List Nat)) ⊕ (ref10_Reduce_X))))) := fun (i176, l177) =>
  (ref10_Reduce_t236 m_0 k121 l142 a143 p146 l167 c172 w173 i176 l177).run
theorem ref10_Reduce_s237 (m_0 : Int) (m_3 : List Nat) (k121 : Nat) (l122 : List Nat) (l142 : List Nat) (a143 : Nat) (a144 : Nat) (l145 : Nat) (p146 : Nat) (a148 : Nat) (a149 : Nat) (l150 : List (List Nat)) (l151 : List Nat) (l153 : List Nat) (l154 : List Nat) (l167 : List Nat) (c172 : Nat) (w173 : Nat) (i176 : Nat) (l177 : List Nat) : Sg prog [] ref10_Reduce_l235 (ref10_Reduce_n171 m_0 m_3 k121 l122 l142 a143 a144 l145 p146 a148 a149 l150 l151 l153 l154 l167 c172 w173 (i176, l177)) (ref10_Reduce_m237 m_0 k121 l142 a143 p146 l167 c172 w173 (i176, l177)) (ref10_Reduce_n171 m_0 m_3 k121 l122 l142 a143 a144 l145 p146 a148 a149 l150 l151 l153 l154 l167 c172 w173) (exitE 10 (ref10_Reduce_n172 m_0 m_3 k121 l122 l142 a143 a144 l145 a148 a149 l150 l151 l153 l154 w173) (exitE 1 (ref10_Reduce_n199 m_0 m_3 k121) (exitE 0 (ref10_Reduce_n201 m_0 m_3) ref10_Reduce_E))) := by
  unfold ref10_Reduce_m237; exact Sg.seg (C := C0) C0_ok L_ref09_Make_ok 60 ref10_Reduce_l235 (ref10_Reduce_n171 m_0 m_3 k121 l122 l142 a143 a144 l145 p146 a148 a149 l150 l151 l153 l154 l167 c172 w173 (i176, l177)) (ref10_Reduce_t236 m_0 k121 l142 a143 p146 l167 c172 w173 i176 l177) (ref10_Reduce_n171 m_0 m_3 k121 l122 l142 a143 a144 l145 p146 a148 a149 l150 l151 l153 l154 l167 c172 w173) (exitE 10 (ref10_Reduce_n172 m_0 m_3 k121 l122 l142 a143 a144 l145 a148 a149 l150 l151 l153 l154 w173) (exitE 1 (ref10_Reduce_n199 m_0 m_3 k121) (exitE 0 (ref10_Reduce_n201 m_0 m_3) ref10_Reduce_E))) [⟨[], [0, 1, 2, 3, 4, 5, 6, 7, 8], [2, 4, 5, 6, 7, 8, 11, 13, 21, 22, 23]⟩, ⟨[], [0, 1, 2, 3, 4, 6, 7, 8], [2, 4, 5, 6, 7, 8, 11, 22]⟩] (by kernel_rfl)
def ref10_Reduce_n173 (m_0 : Int) (m_3 : List Nat) (k121 : Nat) (l122 : List Nat) (l142 : List Nat) (a143 : Nat) (a144 : Nat) (l145 : Nat) (a148 : Nat) (a149 : Nat) (l150 : List (List Nat)) (l151 : List Nat) (l153 : List Nat) (l154 : List Nat) (w173 : Nat) : (List Nat) → ASt := ref10_Reduce_n172 m_0 m_3 k121 l122 l142 a143 a144 l145 a148 a149 l150 l151 l153 l154 w173
def ref10_Reduce_n174 (m_0 : Int) (m_3 : List Nat) (k121 : Nat) (l122 : List Nat) (l142 : List Nat) (a143 : Nat) (a144 : Nat) (l145 : Nat) (a148 : Nat) (a149 : Nat) (l150 : List (List Nat)) (l151 : List Nat) (l153 : List Nat) (l154 : List Nat) (w173 : Nat) (l178 : List Nat) (i179 : Nat) : ASt := ⟨slots 291 [(2, .ptr 0 1 0 0), (4, .int .i64 m_0), (5, .sl 1 1 1 0 (List.length m_3) (List.length m_3)), (6, .ptr 2 1 0 0), (7, .sl 3 2 2 0 l145 l145), (8, .int .i64 ((k121 : Nat) : Int)), (11, .ptr 4 1 0 0), (22, .sl 5 1 1 0 w173 w173), (25, .int .i64 ((i179 : Nat) : Int))], [(0, .vs [.nsl, .nsl]), (1, .fl l122), (2, .vs [.sl 6 1 1 0 a148 a148, .sl 7 1 1 0 a149 a149]), (3, .cols l145 [.cfl l150, .cf l151]), (4, .vs [.imm .free (.fl l142) 1 1 0 a143, .flt false a144]), (5, .fl l178), (6, .fl l153), (7, .fl l154)], 8⟩
def ref10_Reduce_t238 (k121 : Nat) : T ((Nat) ⊕ ((Nat × (List Nat) × Nat × Nat × (List (List Nat)) × (List Nat) × (List Nat) × (List Nat)) ⊕ ((Nat × Nat × (List Nat) × Nat × Nat × Nat × Nat × Nat × (List (List Nat)) × (List Nat) × (List Nat) × (List Nat)) ⊕ (ref10_Reduce_X)))) :=
  .need (inK .i64 (((k121 + 1) : Nat) : Int)) <| .leaf (.inl (k121 + 1))
def ref10_Reduce_n186 (m_0 : Int) (m_3 : List Nat) (k121 : Nat) (l142 : List Nat) (a143 : Nat) (a144 : Nat) (l145 : Nat) (a148 : Nat) (a149 : Nat) (l150 : List (List Nat)) (l151 : List Nat) (l153 : List Nat) (l154 : List Nat) (w173 : Nat) (l178 : List Nat) : Nat × (List Nat) → ASt := fun (i187, l188) => ⟨slots 291 [(2, .ptr 0 1 0 0), (4, .int .i64 m_0), (5, .sl 1 1 1 0 (List.length m_3) (List.length m_3)), (6, .ptr 2 1 0 0), (7, .sl 3 2 2 0 l145 l145), (8, .int .i64 ((k121 : Nat) : Int)), (11, .ptr 4 1 0 0), (22, .sl 5 1 1 0 w173 w173), (25, .int .i64 ((i187 : Nat) : Int))], [(0, .vs [.nsl, .nsl]), (1, .fl l188), (2, .vs [.sl 6 1 1 0 a148 a148, .sl 7 1 1 0 a149 a149]), (3, .cols l145 [.cfl l150, .cf l151]), (4, .vs [.imm .free (.fl l142) 1 1 0 a143, .flt false a144]), (5, .fl l178), (6, .fl l153), (7, .fl l154)], 8⟩
def ref10_Reduce_n197 (m_0 : Int) (m_3 : List Nat) (k121 : Nat) (l145 : Nat) (a148 : Nat) (a149 : Nat) (l150 : List (List Nat)) (l151 : List Nat) (l153 : List Nat) (l154 : List Nat) (l196 : (List Nat)) : ASt := ⟨slots 291 [(2, .ptr 0 1 0 0), (4, .int .i64 m_0), (5, .sl 1 1 1 0 (List.length m_3) (List.length m_3)), (6, .ptr 2 1 0 0), (7, .sl 3 2 2 0 l145 l145), (8, .int .i64 ((k121 : Nat) : Int))], [(0, .vs [.nsl, .nsl]), (1, .fl l196), (2, .vs [.sl 4 1 1 0 a148 a148, .sl 5 1 1 0 a149 a149]), (3, .cols l145 [.cfl l150, .cf l151]), (4, .fl l153), (5, .fl l154)], 6⟩
noncomputable def ref10_Reduce_l239 : List Code := flat (inLoop (((((((((((((ref10_Reduce_l213.drop 2).drop 1).drop 1).drop 7).drop 1).drop 2).drop 1).drop 5).drop 1).drop 1).take 1)).headD .skip))
def ref10_Reduce_n187 (m_0 : Int) (m_3 : List Nat) (k121 : Nat) (l142 : List Nat) (a143 : Nat) (a144 : Nat) (l145 : Nat) (a148 : Nat) (a149 : Nat) (l150 : List (List Nat)) (l151 : List Nat) (l153 : List Nat) (l154 : List Nat) (w173 : Nat) (l178 : List Nat) (i187 : Nat) (l188 : List Nat) (_ : Unit) : ASt := ⟨slots 291 [(2, .ptr 0 1 0 0), (4, .int .i64 m_0), (5, .sl 1 1 1 0 (List.length m_3) (List.length m_3)), (6, .ptr 2 1 0 0), (7, .sl 3 2 2 0 l145 l145), (8, .int .i64 ((k121 : Nat) : Int)), (11, .ptr 4 1 0 0), (22, .sl 5 1 1 0 w173 w173), (25, .int .i64 ((i187 : Nat) : Int))], [(0, .vs [.nsl, .nsl]), (1, .fl l188), (2, .vs [.sl 6 1 1 0 a148 a148, .sl 7 1 1 0 a149 a149]), (3, .cols l145 [.cfl l150, .cf l151]), (4, .vs [.imm .free (.fl l142) 1 1 0 a143, .flt false a144]), (5, .fl l178), (6, .fl l153), (7, .fl l154)], 8⟩
def ref10_Reduce_t240 (m_0 : Int) (i187 : Nat) (l188 : List Nat) : T ((Unit) ⊕ (((List Nat)) ⊕ ((Nat × (List Nat) × Nat × Nat × (List (List Nat)) × (List Nat) × (List Nat) × (List Nat)) ⊕ ((Nat × Nat × (List Nat) × Nat × Nat × Nat × Nat × Nat × (List (List Nat)) × (List Nat) × (List Nat) × (List Nat)) ⊕ (ref10_Reduce_X))))) :=
  .ask (decide (((i187 : Nat) : Int) < m_0))
    (.leaf (.inl ()))
    (.leaf (.inr (.inl l188)))
def ref10_Reduce_n195 (m_0 : Int) (m_3 : List Nat) (k121 : Nat) (l142 : List Nat) (a143 : Nat) (a144 : Nat) (l145 : Nat) (a148 : Nat) (a149 : Nat) (l150 : List (List Nat)) (l151 : List Nat) (l153 : List Nat) (l154 : List Nat) (w173 : Nat) (l178 : List Nat) (i187 : Nat) (l195 : (List Nat)) : ASt := ⟨slots 291 [(2, .ptr 0 1 0 0), (4, .int .i64 m_0), (5, .sl 1 1 1 0 (List.length m_3) (List.length m_3)), (6, .ptr 2 1 0 0), (7, .sl 3 2 2 0 l145 l145), (8, .int .i64 ((k121 : Nat) : Int)), (11, .ptr 4 1 0 0), (22, .sl 5 1 1 0 w173 w173), (25, .int .i64 ((i187 : Nat) : Int))], [(0, .vs [.nsl, .nsl]), (1, .fl l195), (2, .vs [.sl 6 1 1 0 a148 a148, .sl 7 1 1 0 a149 a149]), (3, .cols l145 [.cfl l150, .cf l151]), (4, .vs [.imm .free (.fl l142) 1 1 0 a143, .flt false a144]), (5, .fl l178), (6, .fl l153), (7, .fl l154)], 8⟩
noncomputable def ref10_Reduce_l241 : List Code := flat (inBlock ((((ref10_Reduce_l239.drop 2).take 1)).headD .skip))
def ref10_Reduce_n188 (m_0 : Int) (m_3 : List Nat) (k121 : Nat) (l142 : List Nat) (a143 : Nat) (a144 : Nat) (l145 : Nat) (a148 : Nat) (a149 : Nat) (l150 : List (List Nat)) (l151 : List Nat) (l153 : List Nat) (l154 : List Nat) (w173 : Nat) (l178 : List Nat) (i187 : Nat) (l188 : List Nat) (j189 : Nat) : ASt := ⟨slots 291 [(2, .ptr 0 1 0 0), (4, .int .i64 m_0), (5, .sl 1 1 1 0 (List.length m_3) (List.length m_3)), (6, .ptr 2 1 0 0), (7, .sl 3 2 2 0 l145 l145), (8, .int .i64 ((k121 : Nat) : Int)), (11, .ptr 4 1 0 0), (22, .sl 5 1 1 0 w173 w173), (25, .int .i64 ((i187 : Nat) : Int)), (26, .int .i64 ((j189 : Nat) : Int))], [(0, .vs [.nsl, .nsl]), (1, .fl l188), (2, .vs [.sl 6 1 1 0 a148 a148, .sl 7 1 1 0 a149 a149]), (3, .cols l145 [.cfl l150, .cf l151]), (4, .vs [.imm .free (.fl l142) 1 1 0 a143, .flt false a144]), (5, .fl l178), (6, .fl l153), (7, .fl l154)], 8⟩
def ref10_Reduce_t242 (k121 : Nat) : T ((Nat) ⊕ (((List Nat)) ⊕ (((List Nat)) ⊕ ((Nat × (List Nat) × Nat × Nat × (List (List Nat)) × (List Nat) × (List Nat) × (List Nat)) ⊕ ((Nat × Nat × (List Nat) × Nat × Nat × Nat × Nat × Nat × (List (List Nat)) × (List Nat) × (List Nat) × (List Nat)) ⊕ (ref10_Reduce_X)))))) :=
  .need (inK .i64 (((k121 + 1) : Nat) : Int)) <| .leaf (.inl (k121 + 1))
def ref10_Reduce_n191 (m_0 : Int) (m_3 : List Nat) (k121 : Nat) (l142 : List Nat) (a143 : Nat) (a144 : Nat) (l145 : Nat) (a148 : Nat) (a149 : Nat) (l150 : List (List Nat)) (l151 : List Nat) (l153 : List Nat) (l154 : List Nat) (w173 : Nat) (l178 : List Nat) (i187 : Nat) : Nat × (List Nat) → ASt := fun (j191, l192) => ⟨slots 291 [(2, .ptr 0 1 0 0), (4, .int .i64 m_0), (5, .sl 1 1 1 0 (List.length m_3) (List.length m_3)), (6, .ptr 2 1 0 0), (7, .sl 3 2 2 0 l145 l145), (8, .int .i64 ((k121 : Nat) : Int)), (11, .ptr 4 1 0 0), (22, .sl 5 1 1 0 w173 w173), (25, .int .i64 ((i187 : Nat) : Int)), (26, .int .i64 ((j191 : Nat) : Int))], [(0, .vs [.nsl, .nsl]), (1, .fl l192), (2, .vs [.sl 6 1 1 0 a148 a148, .sl 7 1 1 0 a149 a149]), (3, .cols l145 [.cfl l150, .cf l151]), (4, .vs [.imm .free (.fl l142) 1 1 0 a143, .flt false a144]), (5, .fl l178), (6, .fl l153), (7, .fl l154)], 8⟩
def ref10_Reduce_n193 (m_0 : Int) (m_3 : List Nat) (k121 : Nat) (l142 : List Nat) (a143 : Nat) (a144 : Nat) (l145 : Nat) (a148 : Nat) (a149 : Nat) (l150 : List (List Nat)) (l151 : List Nat) (l153 : List Nat) (l154 : List Nat) (w173 : Nat) (l178 : List Nat) (i187 : Nat) (l194 : (List Nat)) : ASt := ⟨slots 291 [(2, .ptr 0 1 0 0), (4, .int .i64 m_0), (5, .sl 1 1 1 0 (List.length m_3) (List.length m_3)), (6, .ptr 2 1 0 0), (7, .sl 3 2 2 0 l145 l145), (8, .int .i64 ((k121 : Nat) : Int)), (11, .ptr 4 1 0 0), (22, .sl 5 1 1 0 w173 w173), (25, .int .i64 ((i187 : Nat) : Int))], [(0, .vs [.nsl, .nsl]), (1, .fl l194), (2, .vs [.sl 6 1 1 0 a148 a148, .sl 7 1 1 0 a149 a149]), (3, .cols l145 [.cfl l150, .cf l151]), (4, .vs [.imm .free (.fl l142) 1 1 0 a143, .flt false a144]), (5, .fl l178), (6, .fl l153), (7, .fl l154)], 8⟩
noncomputable def ref10_Reduce_l243 : List Code := flat (inLoop ((((ref10_Reduce_l241.drop 1).take 1)).headD .skip))
def ref10_Reduce_n192 (m_0 : Int) (m_3 : List Nat) (k121 : Nat) (l142 : List Nat) (a143 : Nat) (a144 : Nat) (l145 : Nat) (a148 : Nat) (a149 : Nat) (l150 : List (List Nat)) (l151 : List Nat) (l153 : List Nat) (l154 : List Nat) (w173 : Nat) (l178 : List Nat) (i187 : Nat) (j191 : Nat) (l193 : (List Nat)) : ASt := ⟨slots 291 [(2, .ptr 0 1 0 0), (4, .int .i64 m_0), (5, .sl 1 1 1 0 (List.length m_3) (List.length m_3)), (6, .ptr 2 1 0 0), (7, .sl 3 2 2 0 l145 l145), (8, .int .i64 ((k121 : Nat) : Int)), (11, .ptr 4 1 0 0), (22, .sl 5 1 1 0 w173 w173), (25, .int .i64 ((i187 : Nat) : Int)), (26, .int .i64 ((j191 : Nat) : Int))], [(0, .vs [.nsl, .nsl]), (1, .fl l193), (2, .vs [.sl 6 1 1 0 a148 a148, .sl 7 1 1 0 a149 a149]), (3, .cols l145 [.cfl l150, .cf l151]), (4, .vs [.imm .free (.fl l142) 1 1 0 a143, .flt false a144]), (5, .fl l178), (6, .fl l153), (7, .fl l154)], 8⟩
def ref10_Reduce_t244 (m_0 : Int) (m_3 : List Nat) (k121 : Nat) (l142 : List Nat) (a143 : Nat) (w173 : Nat) (l178 : List Nat) (i187 : Nat) (j191 : Nat) (l192 : List Nat) : T (((List Nat)) ⊕ (((List Nat)) ⊕ (((List Nat)) ⊕ (((List Nat)) ⊕ ((Nat × (List Nat) × Nat × Nat × (List (List Nat)) × (List Nat) × (List Nat) × (List Nat)) ⊕ ((Nat × Nat × (List Nat) × Nat × Nat × Nat × Nat × Nat × (List (List Nat)) × (List Nat) × (List Nat) × (List Nat)) ⊕ (ref10_Reduce_X))))))) :=
  .ask (decide (((j191 : Nat) : Int) < m_0))
    (.need (inK .i64 (((i187 : Nat) : Int) - ((k121 : Nat) : Int))) <| .need (inK .i64 ((((i187 : Nat) : Int) - ((k121 : Nat) : Int)) - (1 : Int))) <| .need (inB ((((i187 : Nat) : Int) - ((k121 : Nat) : Int)) - (1 : Int)) a143) <| .need (ltB (Int.toNat ((((i187 : Nat) : Int) - ((k121 : Nat) : Int)) - (1 : Int))) (List.length l142)) <| .need (inB ((j191 : Nat) : Int) w173) <| .need (ltB j191 (List.length l178)) <| .need (inB ((i187 : Nat) : Int) w173) <| .need (ltB i187 (List.length l178)) <| .need (inK .i64 (((j191 : Nat) : Int) - ((k121 : Nat) : Int))) <| .need (inK .i64 ((((j191 : Nat) : Int) - ((k121 : Nat) : Int)) - (1 : Int))) <| .need (inB ((((j191 : Nat) : Int) - ((k121 : Nat) : Int)) - (1 : Int)) a143) <| .need (ltB (Int.toNat ((((j191 : Nat) : Int) - ((k121 : Nat) : Int)) - (1 : Int))) (List.length l142)) <| .need (inK .i64 (((i187 : Nat) : Int) * m_0)) <| .need (inK .i64 ((((i187 : Nat) : Int) * m_0) + ((j191 : Nat) : Int))) <| .need (inK .i64 (((i187 : Nat) : Int) * m_0)) <| .need (inK .i64 ((((i187 : Nat) : Int) * m_0) + ((j191 : Nat) : Int))) <| .need (inB ((((i187 : Nat) : Int) * m_0) + ((j191 : Nat) : Int)) (List.length m_3)) <| .need (ltB (Int.toNat ((((i187 : Nat) : Int) * m_0) + ((j191 : Nat) : Int))) (List.length l192)) <| .need (inB ((((i187 : Nat) : Int) * m_0) + ((j191 : Nat) : Int)) (List.length m_3)) <| .need (ltB (Int.toNat ((((i187 : Nat) : Int) * m_0) + ((j191 : Nat) : Int))) (List.length l192)) <| .leaf (.inl (List.set l192 (Int.toNat ((((i187 : Nat) : Int) * m_0) + ((j191 : Nat) : Int))) (fsub (List.getD l192 (Int.toNat ((((i187 : Nat) : Int) * m_0) + ((j191 : Nat) : Int))) 0) (fadd (fmul (List.getD l142 (Int.toNat ((((i187 : Nat) : Int) - ((k121 : Nat) : Int)) - (1 : Int))) 0) (List.getD l178 j191 0)) (fmul (List.getD l178 i187 0) (List.getD l142 (Int.toNat ((((j191 : Nat) : Int) - ((k121 : Nat) : Int)) - (1 : Int))) 0)))))))
    (.leaf (.inr (.inl l192)))
def ref10_Reduce_t245 (j191 : Nat) (l193 : List Nat) : T ((Nat × (List Nat)) ⊕ (((List Nat)) ⊕ (((List Nat)) ⊕ (((List Nat)) ⊕ ((Nat × (List Nat) × Nat × Nat × (List (List Nat)) × (List Nat) × (List Nat) × (List Nat)) ⊕ ((Nat × Nat × (List Nat) × Nat × Nat × Nat × Nat × Nat × (List (List Nat)) × (List Nat) × (List Nat) × (List Nat)) ⊕ (ref10_Reduce_X))))))) :=
  .need (inK .i64 (((j191 + 1) : Nat) : Int)) <| .leaf (.inl ((j191 + 1), l193))
noncomputable def ref10_Reduce_m246 (m_0 : Int) (m_3 : List Nat) (k121 : Nat) (l142 : List Nat) (a143 : Nat) (w173 : Nat) (l178 : List Nat) (i187 : Nat) : Nat × (List Nat) → Option ((Nat × (List Nat)) ⊕ (((List Nat)) ⊕ (((List Nat)) ⊕ (((List Nat)) ⊕ ((Nat × (List Nat) × Nat × Nat × (List (List Nat)) × (List Nat) × (List Nat) × (List Nat)) ⊕ ((Nat × Nat × (List Nat) × Nat × Nat × Nat × Nat × Nat × (List (List Nat)) × (List Nat) × (List Nat) × (List Nat)) ⊕ (ref10_Reduce_X))))))) := fun (j191, l192) =>
  seqM ((ref10_Reduce_t244 m_0 m_3 k121 l142 a143 w173 l178 i187 j191 l192).run) fun l193 =>
  (ref10_Reduce_t245 j191 l193).run
theorem ref10_Reduce_s246 (m_0 : Int) (m_3 : List Nat) (k121 : Nat) (l142 : List Nat) (a143 : Nat) (a144 : Nat) (l145 : Nat) (a148 : Nat) (a149 : Nat) (l150 : List (List Nat)) (l151 : List Nat) (l153 : List Nat) (l154 : List Nat) (w173 : Nat) (l178 : List Nat) (i187 : Nat) (j191 : Nat) (l192 : List Nat) : Sg prog [] ref10_Reduce_l243 (ref10_Reduce_n191 m_0 m_3 k121 l142 a143 a144 l145 a148 a149 l150 l151 l153 l154 w173 l178 i187 (j191, l192)) (ref10_Reduce_m246 m_0 m_3 k121 l142 a143 w173 l178 i187 (j191, l192)) (ref10_Reduce_n191 m_0 m_3 k121 l142 a143 a144 l145 a148 a149 l150 l151 l153 l154 w173 l178 i187) (exitE 14 (ref10_Reduce_n193 m_0 m_3 k121 l142 a143 a144 l145 a148 a149 l150 l151 l153 l154 w173 l178 i187) (exitE 13 (ref10_Reduce_n195 m_0 m_3 k121 l142 a143 a144 l145 a148 a149 l150 l151 l153 l154 w173 l178 i187) (exitE 12 (ref10_Reduce_n197 m_0 m_3 k121 l145 a148 a149 l150 l151 l153 l154) (exitE 1 (ref10_Reduce_n199 m_0 m_3 k121) (exitE 0 (ref10_Reduce_n201 m_0 m_3) ref10_Reduce_E))))) := by
  unfold ref10_Reduce_m246; exact Sg.cut 3 (noN_exit (noN_exit (noN_exit (noN_exit (noN_exit ref10_Reduce_hN))))) (Sg.seg (C := C0) C0_ok L_ref09_Make_ok 60 (ref10_Reduce_l243.take 3) (ref10_Reduce_n191 m_0 m_3 k121 l142 a143 a144 l145 a148 a149 l150 l151 l153 l154 w173 l178 i187 (j191, l192)) (ref10_Reduce_t244 m_0 m_3 k121 l142 a143 w173 l178 i187 j191 l192) (ref10_Reduce_n192 m_0 m_3 k121 l142 a143 a144 l145 a148 a149 l150 l151 l153 l154 w173 l178 i187 j191) (exitE 14 (ref10_Reduce_n193 m_0 m_3 k121 l142 a143 a144 l145 a148 a149 l150 l151 l153 l154 w173 l178 i187) (exitE 13 (ref10_Reduce_n195 m_0 m_3 k121 l142 a143 a144 l145 a148 a149 l150 l151 l153 l154 w173 l178 i187) (exitE 12 (ref10_Reduce_n197 m_0 m_3 k121 l145 a148 a149 l150 l151 l153 l154) (exitE 1 (ref10_Reduce_n199 m_0 m_3 k121) (exitE 0 (ref10_Reduce_n201 m_0 m_3) ref10_Reduce_E))))) [⟨[], [0, 1, 2, 3, 4, 5, 6, 7], [2, 4, 5, 6, 7, 8, 11, 22, 25, 26]⟩, ⟨[], [0, 1, 2, 3, 4, 5, 6, 7], [2, 4, 5, 6, 7, 8, 11, 22, 25]⟩] (by kernel_rfl)) (fun l193 => by exact Sg.seg (C := C0) C0_ok L_ref09_Make_ok 60 (ref10_Reduce_l243.drop 3) (ref10_Reduce_n192 m_0 m_3 k121 l142 a143 a144 l145 a148 a149 l150 l151 l153 l154 w173 l178 i187 j191 l193) (ref10_Reduce_t245 j191 l193) (ref10_Reduce_n191 m_0 m_3 k121 l142 a143 a144 l145 a148 a149 l150 l151 l153 l154 w173 l178 i187) (exitE 14 (ref10_Reduce_n193 m_0 m_3 k121 l142 a143 a144 l145 a148 a149 l150 l151 l153 l154 w173 l178 i187) (exitE 13 (ref10_Reduce_n195 m_0 m_3 k121 l142 a143 a144 l145 a148 a149 l150 l151 l153 l154 w173 l178 i187) (exitE 12 (ref10_Reduce_n197 m_0 m_3 k121 l145 a148 a149 l150 l151 l153 l154) (exitE 1 (ref10_Reduce_n199 m_0 m_3 k121) (exitE 0 (ref10_Reduce_n201 m_0 m_3) ref10_Reduce_E))))) [⟨[], [0, 1, 2, 3, 4, 5, 6, 7], [2, 4, 5, 6, 7, 8, 11, 22, 25, 26]⟩] (by kernel_rfl))
def ref10_Reduce_n194 (m_0 : Int) (m_3 : List Nat) (k121 : Nat) (l142 : List Nat) (a143 : Nat) (a144 : Nat) (l145 : Nat) (a148 : Nat) (a149 : Nat) (l150 : List (List Nat)) (l151 : List Nat) (l153 : List Nat) (l154 : List Nat) (w173 : Nat) (l178 : List Nat) (i187 : Nat) : (List Nat) → ASt := ref10_Reduce_n193 m_0 m_3 k121 l142 a143 a144 l145 a148 a149 l150 l151 l153 l154 w173 l178 i187
def ref10_Reduce_t247 (l194 : List Nat) : T (((List Nat)) ⊕ (((List Nat)) ⊕ (((List Nat)) ⊕ ((Nat × (List Nat) × Nat × Nat × (List (List Nat)) × (List Nat) × (List Nat) × (List Nat)) ⊕ ((Nat × Nat × (List Nat) × Nat × Nat × Nat × Nat × Nat × (List (List Nat)) × (List Nat) × (List Nat) × (List Nat)) ⊕ (ref10_Reduce_X)))))) :=
  .leaf (.inl l194)
def ref10_Reduce_n196 (m_0 : Int) (m_3 : List Nat) (k121 : Nat) (l142 : List Nat) (a143 : Nat) (a144 : Nat) (l145 : Nat) (a148 : Nat) (a149 : Nat) (l150 : List (List Nat)) (l151 : List Nat) (l153 : List Nat) (l154 : List Nat) (w173 : Nat) (l178 : List Nat) (i187 : Nat) : (List Nat) → ASt := ref10_Reduce_n195 m_0 m_3 k121 l142 a143 a144 l145 a148 a149 l150 l151 l153 l154 w173 l178 i187
def ref10_Reduce_t248 (i187 : Nat) (l195 : List Nat) : T ((Nat × (List Nat)) ⊕ (((List Nat)) ⊕ ((Nat × (List Nat) × Nat × Nat × (List (List Nat)) × (List Nat) × (List Nat) × (List Nat)) ⊕ ((Nat × Nat × (List Nat) × Nat × Nat × Nat × Nat × Nat × (List (List Nat)) × (List Nat) × (List Nat) × (List Nat)) ⊕ (ref10_Reduce_X))))) :=
  .need (inK .i64 (((i187 + 1) : Nat) : Int)) <| .leaf (.inl ((i187 + 1), l195))
noncomputable def ref10_Reduce_m249 (m_0 : Int) (m_3 : List Nat) (k121 : Nat) (l142 : List Nat) (a143 : Nat) (w173 : Nat) (l178 : List Nat) : Nat × (List Nat) → Option ((Nat × (List Nat)) ⊕ (((List Nat)) ⊕ ((Nat × (List Nat) × Nat × Nat × (List (List Nat)) × (List Nat) × (List Nat) × (List Nat)) ⊕ ((Nat × Nat × (List Nat) × Nat × Nat × Nat × Nat × Nat × (List (List Nat)) × (List Nat) × (List Nat) × (List Nat)) ⊕ (ref10_Reduce_X))))) := fun (i187, l188) =>
  seqM ((ref10_Reduce_t240 m_0 i187 l188).run) fun _ =>
  seqM (joinM (seqM ((ref10_Reduce_t242 k121).run) fun j189 =>
  seqM (loopM (ref10_Reduce_m246 m_0 m_3 k121 l142 a143 w173 l178 i187) (j189, l188)) fun l194 =>
  (ref10_Reduce_t247 l194).run)) fun l195 =>
  (ref10_Reduce_t248 i187 l195).run
theorem ref10_Reduce_s249 (m_0 : Int) (m_3 : List Nat) (k121 : Nat) (l142 : List Nat) (a143 : Nat) (a144 : Nat) (l145 : Nat) (a148 : Nat) (a149 : Nat) (l150 : List (List Nat)) (l151 : List Nat) (l153 : List Nat) (l154 : List Nat) (w173 : Nat) (l178 : List Nat) (i187 : Nat) (l188 : List Nat) : Sg prog [] ref10_Reduce_l239 (ref10_Reduce_n186 m_0 m_3 k121 l142 a143 a144 l145 a148 a149 l150 l151 l153 l154 w173 l178 (i187, l188)) (ref10_Reduce_m249 m_0 m_3 k121 l142 a143 w173 l178 (i187, l188)) (ref10_Reduce_n186 m_0 m_3 k121 l142 a143 a144 l145 a148 a149 l150 l151 l153 l154 w173 l178) (exitE 12 (ref10_Reduce_n197 m_0 m_3 k121 l145 a148 a149 l150 l151 l153 l154) (exitE 1 (ref10_Reduce_n199 m_0 m_3 k121) (exitE 0 (ref10_Reduce_n201 m_0 m_3) ref10_Reduce_E))) := by
  unfold ref10_Reduce_m249; exact Sg.cut 2 (noN_exit (noN_exit (noN_exit ref10_Reduce_hN))) (Sg.seg (C := C0) C0_ok L_ref09_Make_ok 60 (ref10_Reduce_l239.take 2) (ref10_Reduce_n186 m_0 m_3 k121 l142 a143 a144 l145 a148 a149 l150 l151 l153 l154 w173 l178 (i187, l188)) (ref10_Reduce_t240 m_0 i187 l188) (ref10_Reduce_n187 m_0 m_3 k121 l142 a143 a144 l145 a148 a149 l150 l151 l153 l154 w173 l178 i187 l188) (exitE 12 (ref10_Reduce_n197 m_0 m_3 k121 l145 a148 a149 l150 l151 l153 l154) (exitE 1 (ref10_Reduce_n199 m_0 m_3 k121) (exitE 0 (ref10_Reduce_n201 m_0 m_3) ref10_Reduce_E))) [⟨[], [0, 1, 2, 3, 4, 5, 6, 7], [2, 4, 5, 6, 7, 8, 11, 22, 25]⟩, ⟨[], [0, 1, 2, 3, 6, 7], [2, 4, 5, 6, 7, 8]⟩] (by kernel_rfl)) (fun a => by cases a; exact Sg.cut 1 (noN_exit (noN_exit (noN_exit ref10_Reduce_hN))) (Sg.blockAt (id := 13) (K := (ref10_Reduce_n195 m_0 m_3 k121 l142 a143 a144 l145 a148 a149 l150 l151 l153 l154 w173 l178 i187)) (by kernel_rfl : ((ref10_Reduce_l239.drop 2).take 1) = [.block 13 (inBlock ((((ref10_Reduce_l239.drop 2).take 1)).headD .skip))]) (noN_exit (noN_exit (noN_exit ref10_Reduce_hN))) (noId_exit (by decide) (noId_exit (by decide) (noId_exit (by decide) (ref10_Reduce_hI _)))) (Sg.cut 1 (noN_exit (noN_exit (noN_exit (noN_exit ref10_Reduce_hN)))) (Sg.seg (C := C0) C0_ok L_ref09_Make_ok 60 (ref10_Reduce_l241.take 1) (ref10_Reduce_n187 m_0 m_3 k121 l142 a143 a144 l145 a148 a149 l150 l151 l153 l154 w173 l178 i187 l188 ()) (ref10_Reduce_t242 k121) (ref10_Reduce_n188 m_0 m_3 k121 l142 a143 a144 l145 a148 a149 l150 l151 l153 l154 w173 l178 i187 l188) (exitE 13 (ref10_Reduce_n195 m_0 m_3 k121 l142 a143 a144 l145 a148 a149 l150 l151 l153 l154 w173 l178 i187) (exitE 12 (ref10_Reduce_n197 m_0 m_3 k121 l145 a148 a149 l150 l151 l153 l154) (exitE 1 (ref10_Reduce_n199 m_0 m_3 k121) (exitE 0 (ref10_Reduce_n201 m_0 m_3) ref10_Reduce_E)))) [⟨[], [0, 1, 2, 3, 4, 5, 6, 7], [2, 4, 5, 6, 7, 8, 11, 22, 25, 26]⟩] (by kernel_rfl)) (fun j189 => by exact Sg.cut 1 (noN_exit (noN_exit (noN_exit (noN_exit ref10_Reduce_hN)))) (Sg.pre ⟨[], [0, 1, 2, 3, 4, 5, 6, 7], [2, 4, 5, 6, 7, 8, 11, 22, 25, 26]⟩ rfl (by kernel_rfl : NS.on ⟨[], [0, 1, 2, 3, 4, 5, 6, 7], [2, 4, 5, 6, 7, 8, 11, 22, 25, 26]⟩ (ref10_Reduce_n188 m_0 m_3 k121 l142 a143 a144 l145 a148 a149 l150 l151 l153 l154 w173 l178 i187 l188 j189) = (ref10_Reduce_n191 m_0 m_3 k121 l142 a143 a144 l145 a148 a149 l150 l151 l153 l154 w173 l178 i187) (j189, l188)) (Sg.loopAt (I := (ref10_Reduce_n191 m_0 m_3 k121 l142 a143 a144 l145 a148 a149 l150 l151 l153 l154 w173 l178 i187)) (J := (ref10_Reduce_n193 m_0 m_3 k121 l142 a143 a144 l145 a148 a149 l150 l151 l153 l154 w173 l178 i187)) (id := 14) (by kernel_rfl : ((ref10_Reduce_l241.drop 1).take 1) = [.block 14 (.loop (inLoop ((((ref10_Reduce_l241.drop 1).take 1)).headD .skip)))]) (noN_exit (noN_exit (noN_exit (noN_exit ref10_Reduce_hN)))) (noId_exit (by decide) (noId_exit (by decide) (noId_exit (by decide) (noId_exit (by decide) (ref10_Reduce_hI _))))) (fun s => by obtain ⟨j191, l192⟩ := s; exact ref10_Reduce_s246 m_0 m_3 k121 l142 a143 a144 l145 a148 a149 l150 l151 l153 l154 w173 l178 i187 j191 l192) (j189, l188))) (fun l194 => by exact Sg.seg (C := C0) C0_ok L_ref09_Make_ok 60 ((ref10_Reduce_l241.drop 1).drop 1) (ref10_Reduce_n194 m_0 m_3 k121 l142 a143 a144 l145 a148 a149 l150 l151 l153 l154 w173 l178 i187 l194) (ref10_Reduce_t247 l194) (ref10_Reduce_n195 m_0 m_3 k121 l142 a143 a144 l145 a148 a149 l150 l151 l153 l154 w173 l178 i187) (exitE 13 (ref10_Reduce_n195 m_0 m_3 k121 l142 a143 a144 l145 a148 a149 l150 l151 l153 l154 w173 l178 i187) (exitE 12 (ref10_Reduce_n197 m_0 m_3 k121 l145 a148 a149 l150 l151 l153 l154) (exitE 1 (ref10_Reduce_n199 m_0 m_3 k121) (exitE 0 (ref10_Reduce_n201 m_0 m_3) ref10_Reduce_E)))) [⟨[], [0, 1, 2, 3, 4, 5, 6, 7], [2, 4, 5, 6, 7, 8, 11, 22, 25]⟩] (by kernel_rfl))))) (fun l195 => by exact Sg.seg (C := C0) C0_ok L_ref09_Make_ok 60 ((ref10_Reduce_l239.drop 2).drop 1) (ref10_Reduce_n196 m_0 m_3 k121 l142 a143 a144 l145 a148 a149 l150 l151 l153 l154 w173 l178 i187 l195) (ref10_Reduce_t248 i187 l195) (ref10_Reduce_n186 m_0 m_3 k121 l142 a143 a144 l145 a148 a149 l150 l151 l153 l154 w173 l178) (exitE 12 (ref10_Reduce_n197 m_0 m_3 k121 l145 a148 a149 l150 l151 l153 l154) (exitE 1 (ref10_Reduce_n199 m_0 m_3 k121) (exitE 0 (ref10_Reduce_n201 m_0 m_3) ref10_Reduce_E))) [⟨[], [0, 1, 2, 3, 4, 5, 6, 7], [2, 4, 5, 6, 7, 8, 11, 22, 25]⟩] (by kernel_rfl)))
def ref10_Reduce_n198 (m_0 : Int) (m_3 : List Nat) (k121 : Nat) (l145 : Nat) (a148 : Nat) (a149 : Nat) (l150 : List (List Nat)) (l151 : List Nat) (l153 : List Nat) (l154 : List Nat) : (List Nat) → ASt := ref10_Reduce_n197 m_0 m_3 k121 l145 a148 a149 l150 l151 l153 l154
def ref10_Reduce_t250 (l145 : Nat) (a148 : Nat) (a149 : Nat) (l150 : List (List Nat)) (l151 : List Nat) (l153 : List Nat) (l154 : List Nat) (l196 : List Nat) : T ((Nat × (List Nat) × Nat × Nat × (List (List Nat)) × (List Nat) × (List Nat) × (List Nat)) ⊕ ((Nat × (List Nat) × Nat × Nat × (List (List Nat)) × (List Nat) × (List Nat) × (List Nat)) ⊕ ((Nat × Nat × (List Nat) × Nat × Nat × Nat × Nat × Nat × (List (List Nat)) × (List Nat) × (List Nat) × (List Nat)) ⊕ (ref10_Reduce_X)))) :=
  .leaf (.inl (l145, l196, a148, a149, l150, l151, l153, l154))
def ref10_Reduce_n200 (m_0 : Int) (m_3 : List Nat) (k121 : Nat) : Nat × (List Nat) × Nat × Nat × (List (List Nat)) × (List Nat) × (List Nat) × (List Nat) → ASt := ref10_Reduce_n199 m_0 m_3 k121
def ref10_Reduce_t251 (k121 : Nat) (l197 : Nat) (l198 : List Nat) (a199 : Nat) (a200 : Nat) (l201 : List (List Nat)) (l202 : List Nat) (l203 : List Nat) (l204 : List Nat) : T ((Nat × Nat × Nat × (List Nat) × Nat × Nat × Nat × Nat × Nat × (List (List Nat)) × (List Nat) × (List Nat) × (List Nat)) ⊕ ((Nat × Nat × (List Nat) × Nat × Nat × Nat × Nat × Nat × (List (List Nat)) × (List Nat) × (List Nat) × (List Nat)) ⊕ (ref10_Reduce_X))) :=
  .need (inK .i64 (((k121 + 1) : Nat) : Int)) <| .leaf (.inl (l197, l197, (k121 + 1), l198, a199, a199, a200, a200, l197, l201, l202, l203, l204))
noncomputable def ref10_Reduce_m252 (m_0 : Int) (m_3 : List Nat) : Nat × Nat × Nat × (List Nat) × Nat × Nat × Nat × Nat × Nat × (List (List Nat)) × (List Nat) × (List Nat) × (List Nat) → Option ((Nat × Nat × Nat × (List Nat) × Nat × Nat × Nat × Nat × Nat × (List (List Nat)) × (List Nat) × (List Nat) × (List Nat)) ⊕ ((Nat × Nat × (List Nat) × Nat × Nat × Nat × Nat × Nat × (List (List Nat)) × (List Nat) × (List Nat) × (List Nat)) ⊕ (ref10_Reduce_X))) := fun (l119, l120, k121, l122, a123, a124, a125, a126, a127, l128, l129, l130, l131) =>
  seqM ((ref10_Reduce_t212 m_0 l119 l120 k121 l122 a123 a124 a125 a126 a127 l128 l129 l130 l131).run) fun _ =>
  seqM (joinM (seqM ((ref10_Reduce_t214 k121).run) fun i132 =>
  seqM (loopM (ref10_Reduce_m217 m_0 m_3 k121 l122) (0, 0, i132, ([] : List Nat))) fun (x138, x139, l140) =>
  seqM ((ref10_Reduce_t218 x138 l140).run) fun (beta141, l142, a143, a144) =>
  seqM ((ref10_Reduce_t219 m_0 m_3 l119 k121 l122 a123 a125 a127 l128 l129 l130 l131 beta141 l142 a143 a144).run) fun (l145, p146, i147, a148, a149, l150, l151, l152, l153, l154) =>
  seqM (loopM (ref10_Reduce_m229 m_0 m_3 k121 l122 l142 a143 a144 p146) (i147, l152)) fun l167 =>
  seqM ((ref10_Reduce_t230 k121).run) fun i168 =>
  seqM (loopM (ref10_Reduce_m233 m_0 k121 l142 a143 p146 l167) (0, i168)) fun s171 =>
  seqM ((ref10_Reduce_t234 m_0 k121 a144 s171).run) fun (c172, w173, i174, l175) =>
  seqM (loopM (ref10_Reduce_m237 m_0 k121 l142 a143 p146 l167 c172 w173) (i174, l175)) fun l178 =>
  seqM ((ref10_Reduce_t238 k121).run) fun i179 =>
  seqM (loopM (ref10_Reduce_m249 m_0 m_3 k121 l142 a143 w173 l178) (i179, l122)) fun l196 =>
  (ref10_Reduce_t250 l145 a148 a149 l150 l151 l153 l154 l196).run)) fun (l197, l198, a199, a200, l201, l202, l203, l204) =>
  (ref10_Reduce_t251 k121 l197 l198 a199 a200 l201 l202 l203 l204).run
theorem ref10_Reduce_s252 (m_0 : Int) (m_3 : List Nat) (l119 : Nat) (l120 : Nat) (k121 : Nat) (l122 : List Nat) (a123 : Nat) (a124 : Nat) (a125 : Nat) (a126 : Nat) (a127 : Nat) (l128 : List (List Nat)) (l129 : List Nat) (l130 : List Nat) (l131 : List Nat) : Sg prog [] ref10_Reduce_l211 (ref10_Reduce_n134 m_0 m_3 (l119, l120, k121, l122, a123, a124, a125, a126, a127, l128, l129, l130, l131)) (ref10_Reduce_m252 m_0 m_3 (l119, l120, k121, l122, a123, a124, a125, a126, a127, l128, l129, l130, l131)) (ref10_Reduce_n134 m_0 m_3) (exitE 0 (ref10_Reduce_n201 m_0 m_3) ref10_Reduce_E) := by
  unfold ref10_Reduce_m252; exact Sg.cut 2 (noN_exit ref10_Reduce_hN) (Sg.seg (C := C0) C0_ok L_ref09_Make_ok 60 (ref10_Reduce_l211.take 2) (ref10_Reduce_n134 m_0 m_3 (l119, l120, k121, l122, a123, a124, a125, a126, a127, l128, l129, l130, l131)) (ref10_Reduce_t212 m_0 l119 l120 k121 l122 a123 a124 a125 a126 a127 l128 l129 l130 l131) (ref10_Reduce_n135 m_0 m_3 l119 l120 k121 l122 a123 a124 a125 a126 a127 l128 l129 l130 l131) (exitE 0 (ref10_Reduce_n201 m_0 m_3) ref10_Reduce_E) [⟨[], [0, 1, 2, 3, 4, 5], [2, 4, 5, 6, 7, 8]⟩, ⟨[], [0, 1, 2, 3, 4, 5], [2, 4, 5, 6, 7]⟩] (by kernel_rfl)) (fun a => by cases a; exact Sg.cut 1 (noN_exit ref10_Reduce_hN) (Sg.blockAt (id := 1) (K := (ref10_Reduce_n199 m_0 m_3 k121)) (by kernel_rfl : ((ref10_Reduce_l211.drop 2).take 1) = [.block 1 (inBlock ((((ref10_Reduce_l211.drop 2).take 1)).headD .skip))]) (noN_exit ref10_Reduce_hN) (noId_exit (by decide) (ref10_Reduce_hI _)) (Sg.cut 2 (noN_exit (noN_exit ref10_Reduce_hN)) (Sg.seg (C := C0) C0_ok L_ref09_Make_ok 60 (ref10_Reduce_l213.take 2) (ref10_Reduce_n135 m_0 m_3 l119 l120 k121 l122 a123 a124 a125 a126 a127 l128 l129 l130 l131 ()) (ref10_Reduce_t214 k121) (ref10_Reduce_n136 m_0 m_3 l119 l120 k121 l122 a123 a124 a125 a126 a127 l128 l129 l130 l131) (exitE 1 (ref10_Reduce_n199 m_0 m_3 k121) (exitE 0 (ref10_Reduce_n201 m_0 m_3) ref10_Reduce_E)) [⟨[], [0, 1, 2, 3, 4, 5], [2, 4, 5, 6, 7, 8, 9, 10]⟩] (by kernel_rfl)) (fun i132 => by exact Sg.cut 1 (noN_exit (noN_exit ref10_Reduce_hN)) (Sg.pre ⟨[(.slot 9, 1, 1, .fl ([] : List Nat), false)], [0, 1, 2, 3, 6, 4, 5], [2, 4, 5, 6, 7, 8, 9, 10]⟩ rfl (by kernel_rfl : NS.on ⟨[(.slot 9, 1, 1, .fl ([] : List Nat), false)], [0, 1, 2, 3, 6, 4, 5], [2, 4, 5, 6, 7, 8, 9, 10]⟩ (ref10_Reduce_n136 m_0 m_3 l119 l120 k121 l122 a123 a124 a125 a126 a127 l128 l129 l130 l131 i132) = (ref10_Reduce_n139 m_0 m_3 l119 l120 k121 l122 a123 a124 a125 a126 a127 l128 l129 l130 l131) (0, 0, i132, ([] : List Nat))) (Sg.loopAt (I := (ref10_Reduce_n139 m_0 m_3 l119 l120 k121 l122 a123 a124 a125 a126 a127 l128 l129 l130 l131)) (J := (ref10_Reduce_n140 m_0 m_3 l119 l120 k121 l122 a123 a124 a125 a126 a127 l128 l129 l130 l131)) (id := 2) (by kernel_rfl : ((ref10_Reduce_l213.drop 2).take 1) = [.block 2 (.loop (inLoop ((((ref10_Reduce_l213.drop 2).take 1)).headD .skip)))]) (noN_exit (noN_exit ref10_Reduce_hN)) (noId_exit (by decide) (noId_exit (by decide) (ref10_Reduce_hI _))) (fun s => by obtain ⟨x134, x135, i136, l137⟩ := s; exact ref10_Reduce_s217 m_0 m_3 l119 l120 k121 l122 a123 a124 a125 a126 a127 l128 l129 l130 l131 x134 x135 i136 l137) (0, 0, i132, ([] : List Nat)))) (fun a => by obtain ⟨x138, x139, l140⟩ := a; exact Sg.cut 1 (noN_exit (noN_exit ref10_Reduce_hN)) (Sg.seg (C := C0) C0_ok L_ref09_Make_ok 60 (((ref10_Reduce_l213.drop 2).drop 1).take 1) (ref10_Reduce_n141 m_0 m_3 l119 l120 k121 l122 a123 a124 a125 a126 a127 l128 l129 l130 l131 (x138, x139, l140)) (ref10_Reduce_t218 x138 l140) (ref10_Reduce_n142 m_0 m_3 l119 l120 k121 l122 a123 a124 a125 a126 a127 l128 l129 l130 l131) (exitE 1 (ref10_Reduce_n199 m_0 m_3 k121) (exitE 0 (ref10_Reduce_n201 m_0 m_3) ref10_Reduce_E)) [⟨[], [0, 1, 2, 3, 87, 5, 6], [2, 4, 5, 6, 7, 8, 11, 12]⟩] (by kernel_rfl)) (fun a => by obtain ⟨beta141, l142, a143, a144⟩ := a; exact Sg.cut 7 (noN_exit (noN_exit ref10_Reduce_hN)) (Sg.seg (C := C0) C0_ok L_ref09_Make_ok 60 ((((ref10_Reduce_l213.drop 2).drop 1).drop 1).take 7) (ref10_Reduce_n142 m_0 m_3 l119 l120 k121 l122 a123 a124 a125 a126 a127 l128 l129 l130 l131 (beta141, l142, a143, a144)) (ref10_Reduce_t219 m_0 m_3 l119 k121 l122 a123 a125 a127 l128 l129 l130 l131 beta141 l142 a143 a144) (ref10_Reduce_n143 m_0 m_3 k121 l122 l142 a143 a144) (exitE 1 (ref10_Reduce_n199 m_0 m_3 k121) (exitE 0 (ref10_Reduce_n201 m_0 m_3) ref10_Reduce_E)) [⟨[], [0, 1, 2, 55, 263, 375], [2, 4, 5, 6, 7, 8]⟩, ⟨[], [0, 1, 2, 55, 4, 487, 263, 375], [2, 4, 5, 6, 7, 8, 11, 13, 14]⟩] (by kernel_rfl)) (fun a => by obtain ⟨l145, p146, i147, a148, a149, l150, l151, l152, l153, l154⟩ := a; exact Sg.cut 1 (noN_exit (noN_exit ref10_Reduce_hN)) (Sg.pre ⟨[], [0, 1, 2, 3, 4, 5, 6, 7], [2, 4, 5, 6, 7, 8, 11, 13, 14]⟩ rfl (by kernel_rfl : NS.on ⟨[], [0, 1, 2, 3, 4, 5, 6, 7], [2, 4, 5, 6, 7, 8, 11, 13, 14]⟩ (ref10_Reduce_n143 m_0 m_3 k121 l122 l142 a143 a144 (l145, p146, i147, a148, a149, l150, l151, l152, l153, l154)) = (ref10_Reduce_n153 m_0 m_3 k121 l122 l142 a143 a144 l145 p146 a148 a149 l150 l151 l153 l154) (i147, l152)) (Sg.loopAt (I := (ref10_Reduce_n153 m_0 m_3 k121 l122 l142 a143 a144 l145 p146 a148 a149 l150 l151 l153 l154)) (J := (ref10_Reduce_n162 m_0 m_3 k121 l122 l142 a143 a144 l145 p146 a148 a149 l150 l151 l153 l154)) (id := 4) (by kernel_rfl : (((((ref10_Reduce_l213.drop 2).drop 1).drop 1).drop 7).take 1) = [.block 4 (.loop (inLoop (((((((ref10_Reduce_l213.drop 2).drop 1).drop 1).drop 7).take 1)).headD .skip)))]) (noN_exit (noN_exit ref10_Reduce_hN)) (noId_exit (by decide) (noId_exit (by decide) (ref10_Reduce_hI _))) (fun s => by obtain ⟨i160, l161⟩ := s; exact ref10_Reduce_s229 m_0 m_3 k121 l122 l142 a143 a144 l145 p146 a148 a149 l150 l151 l153 l154 i160 l161) (i147, l152))) (fun l167 => by exact Sg.cut 2 (noN_exit (noN_exit ref10_Reduce_hN)) (Sg.seg (C := C0) C0_ok L_ref09_Make_ok 60 ((((((ref10_Reduce_l213.drop 2).drop 1).drop 1).drop 7).drop 1).take 2) (ref10_Reduce_n163 m_0 m_3 k121 l122 l142 a143 a144 l145 p146 a148 a149 l150 l151 l153 l154 l167) (ref10_Reduce_t230 k121) (ref10_Reduce_n164 m_0 m_3 k121 l122 l142 a143 a144 l145 p146 a148 a149 l150 l151 l153 l154 l167) (exitE 1 (ref10_Reduce_n199 m_0 m_3 k121) (exitE 0 (ref10_Reduce_n201 m_0 m_3) ref10_Reduce_E)) [⟨[], [0, 1, 2, 3, 4, 5, 6, 7], [2, 4, 5, 6, 7, 8, 11, 13, 18, 19]⟩] (by kernel_rfl)) (fun i168 => by exact Sg.cut 1 (noN_exit (noN_exit ref10_Reduce_hN)) (Sg.pre ⟨[], [0, 1, 2, 3, 4, 5, 6, 7], [2, 4, 5, 6, 7, 8, 11, 13, 18, 19]⟩ rfl (by kernel_rfl : NS.on ⟨[], [0, 1, 2, 3, 4, 5, 6, 7], [2, 4, 5, 6, 7, 8, 11, 13, 18, 19]⟩ (ref10_Reduce_n164 m_0 m_3 k121 l122 l142 a143 a144 l145 p146 a148 a149 l150 l151 l153 l154 l167 i168) = (ref10_Reduce_n166 m_0 m_3 k121 l122 l142 a143 a144 l145 p146 a148 a149 l150 l151 l153 l154 l167) (0, i168)) (Sg.loopAt (I := (ref10_Reduce_n166 m_0 m_3 k121 l122 l142 a143 a144 l145 p146 a148 a149 l150 l151 l153 l154 l167)) (J := (ref10_Reduce_n167 m_0 m_3 k121 l122 l142 a143 a144 l145 p146 a148 a149 l150 l151 l153 l154 l167)) (id := 8) (by kernel_rfl : (((((((ref10_Reduce_l213.drop 2).drop 1).drop 1).drop 7).drop 1).drop 2).take 1) = [.block 8 (.loop (inLoop (((((((((ref10_Reduce_l213.drop 2).drop 1).drop 1).drop 7).drop 1).drop 2).take 1)).headD .skip)))]) (noN_exit (noN_exit ref10_Reduce_hN)) (noId_exit (by decide) (noId_exit (by decide) (ref10_Reduce_hI _))) (fun s => by obtain ⟨s169, i170⟩ := s; exact ref10_Reduce_s233 m_0 m_3 k121 l122 l142 a143 a144 l145 p146 a148 a149 l150 l151 l153 l154 l167 s169 i170) (0, i168))) (fun s171 => by exact Sg.cut 5 (noN_exit (noN_exit ref10_Reduce_hN)) (Sg.seg (C := C0) C0_ok L_ref09_Make_ok 60 ((((((((ref10_Reduce_l213.drop 2).drop 1).drop 1).drop 7).drop 1).drop 2).drop 1).take 5) (ref10_Reduce_n168 m_0 m_3 k121 l122 l142 a143 a144 l145 p146 a148 a149 l150 l151 l153 l154 l167 s171) (ref10_Reduce_t234 m_0 k121 a144 s171) (ref10_Reduce_n169 m_0 m_3 k121 l122 l142 a143 a144 l145 p146 a148 a149 l150 l151 l153 l154 l167) (exitE 1 (ref10_Reduce_n199 m_0 m_3 k121) (exitE 0 (ref10_Reduce_n201 m_0 m_3) ref10_Reduce_E)) [⟨[], [0, 1, 2, 3, 4, 5, 200, 6, 7], [2, 4, 5, 6, 7, 8, 11, 13, 21, 22, 23]⟩] (by kernel_rfl)) (fun a => by obtain ⟨c172, w173, i174, l175⟩ := a; exact Sg.cut 1 (noN_exit (noN_exit ref10_Reduce_hN)) (Sg.pre ⟨[], [0, 1, 2, 3, 4, 5, 6, 7, 8], [2, 4, 5, 6, 7, 8, 11, 13, 21, 22, 23]⟩ rfl (by kernel_rfl : NS.on ⟨[], [0, 1, 2, 3, 4, 5, 6, 7, 8], [2, 4, 5, 6, 7, 8, 11, 13, 21, 22, 23]⟩ (ref10_Reduce_n169 m_0 m_3 k121 l122 l142 a143 a144 l145 p146 a148 a149 l150 l151 l153 l154 l167 (c172, w173, i174, l175)) = (ref10_Reduce_n171 m_0 m_3 k121 l122 l142 a143 a144 l145 p146 a148 a149 l150 l151 l153 l154 l167 c172 w173) (i174, l175)) (Sg.loopAt (I := (ref10_Reduce_n171 m_0 m_3 k121 l122 l142 a143 a144 l145 p146 a148 a149 l150 l151 l153 l154 l167 c172 w173)) (J := (ref10_Reduce_n172 m_0 m_3 k121 l122 l142 a143 a144 l145 a148 a149 l150 l151 l153 l154 w173)) (id := 10) (by kernel_rfl : (((((((((ref10_Reduce_l213.drop 2).drop 1).drop 1).drop 7).drop 1).drop 2).drop 1).drop 5).take 1) = [.block 10 (.loop (inLoop (((((((((((ref10_Reduce_l213.drop 2).drop 1).drop 1).drop 7).drop 1).drop 2).drop 1).drop 5).take 1)).headD .skip)))]) (noN_exit (noN_exit ref10_Reduce_hN)) (noId_exit (by decide) (noId_exit (by decide) (ref10_Reduce_hI _))) (fun s => by obtain ⟨i176, l177⟩ := s; exact ref10_Reduce_s237 m_0 m_3 k121 l122 l142 a143 a144 l145 p146 a148 a149 l150 l151 l153 l154 l167 c172 w173 i176 l177) (i174, l175))) (fun l178 => by exact Sg.cut 1 (noN_exit (noN_exit ref10_Reduce_hN)) (Sg.seg (C := C0) C0_ok L_ref09_Make_ok 60 ((((((((((ref10_Reduce_l213.drop 2).drop 1).drop 1).drop 7).drop 1).drop 2).drop 1).drop 5).drop 1).take 1) (ref10_Reduce_n173 m_0 m_3 k121 l122 l142 a143 a144 l145 a148 a149 l150 l151 l153 l154 w173 l178) (ref10_Reduce_t238 k121) (ref10_Reduce_n174 m_0 m_3 k121 l122 l142 a143 a144 l145 a148 a149 l150 l151 l153 l154 w173 l178) (exitE 1 (ref10_Reduce_n199 m_0 m_3 k121) (exitE 0 (ref10_Reduce_n201 m_0 m_3) ref10_Reduce_E)) [⟨[], [0, 1, 2, 3, 4, 5, 6, 7], [2, 4, 5, 6, 7, 8, 11, 22, 25]⟩] (by kernel_rfl)) (fun i179 => by exact Sg.cut 1 (noN_exit (noN_exit ref10_Reduce_hN)) (Sg.pre ⟨[], [0, 1, 2, 3, 4, 5, 6, 7], [2, 4, 5, 6, 7, 8, 11, 22, 25]⟩ rfl (by kernel_rfl : NS.on ⟨[], [0, 1, 2, 3, 4, 5, 6, 7], [2, 4, 5, 6, 7, 8, 11, 22, 25]⟩ (ref10_Reduce_n174 m_0 m_3 k121 l122 l142 a143 a144 l145 a148 a149 l150 l151 l153 l154 w173 l178 i179) = (ref10_Reduce_n186 m_0 m_3 k121 l142 a143 a144 l145 a148 a149 l150 l151 l153 l154 w173 l178) (i179, l122)) (Sg.loopAt (I := (ref10_Reduce_n186 m_0 m_3 k121 l142 a143 a144 l145 a148 a149 l150 l151 l153 l154 w173 l178)) (J := (ref10_Reduce_n197 m_0 m_3 k121 l145 a148 a149 l150 l151 l153 l154)) (id := 12) (by kernel_rfl : (((((((((((ref10_Reduce_l213.drop 2).drop 1).drop 1).drop 7).drop 1).drop 2).drop 1).drop 5).drop 1).drop 1).take 1) = [.block 12 (.loop (inLoop (((((((((((((ref10_Reduce_l213.drop 2).drop 1).drop 1).drop 7).drop 1).drop 2).drop 1).drop 5).drop 1).drop 1).take 1)).headD .skip)))]) (noN_exit (noN_exit ref10_Reduce_hN)) (noId_exit (by decide) (noId_exit (by decide) (ref10_Reduce_hI _))) (fun s => by obtain ⟨i187, l188⟩ := s; exact ref10_Reduce_s249 m_0 m_3 k121 l142 a143 a144 l145 a148 a149 l150 l151 l153 l154 w173 l178 i187 l188) (i179, l122))) (fun l196 => by exact Sg.seg (C := C0) C0_ok L_ref09_Make_ok 60 (((((((((((ref10_Reduce_l213.drop 2).drop 1).drop 1).drop 7).drop 1).drop 2).drop 1).drop 5).drop 1).drop 1).drop 1) (ref10_Reduce_n198 m_0 m_3 k121 l145 a148 a149 l150 l151 l153 l154 l196) (ref10_Reduce_t250 l145 a148 a149 l150 l151 l153 l154 l196) (ref10_Reduce_n199 m_0 m_3 k121) (exitE 1 (ref10_Reduce_n199 m_0 m_3 k121) (exitE 0 (ref10_Reduce_n201 m_0 m_3) ref10_Reduce_E)) [⟨[], [0, 1, 2, 3, 4, 5], [2, 4, 5, 6, 7, 8]⟩] (by kernel_rfl)))))))))))))) (fun a => by obtain ⟨l197, l198, a199, a200, l201, l202, l203, l204⟩ := a; exact Sg.seg (C := C0) C0_ok L_ref09_Make_ok 60 ((ref10_Reduce_l211.drop 2).drop 1) (ref10_Reduce_n200 m_0 m_3 k121 (l197, l198, a199, a200, l201, l202, l203, l204)) (ref10_Reduce_t251 k121 l197 l198 a199 a200 l201 l202 l203 l204) (ref10_Reduce_n134 m_0 m_3) (exitE 0 (ref10_Reduce_n201 m_0 m_3) ref10_Reduce_E) [⟨[], [0, 1, 2, 3, 4, 5], [2, 4, 5, 6, 7, 8]⟩] (by kernel_rfl)))
def ref10_Reduce_n202 (m_0 : Int) (m_3 : List Nat) : Nat × Nat × (List Nat) × Nat × Nat × Nat × Nat × Nat × (List (List Nat)) × (List Nat) × (List Nat) × (List Nat) → ASt := ref10_Reduce_n201 m_0 m_3
def ref10_Reduce_n203 (m_0 : Int) (m_3 : List Nat) (l205 : Nat) (l206 : Nat) (l207 : List Nat) (a208 : Nat) (a209 : Nat) (a210 : Nat) (a211 : Nat) (a212 : Nat) (l213 : List (List Nat)) (l214 : List Nat) (l215 : List Nat) (l216 : List Nat) (_ : Unit) : ASt := ⟨slots 291 [(2, .ptr 0 1 0 0), (4, .int .i64 m_0), (5, .sl 1 1 1 0 (List.length m_3) (List.length m_3)), (6, .ptr 2 1 0 0), (7, .sl 3 2 2 0 l205 l206), (29, .int .i64 ((a208 : Nat) : Int))], [(0, .vs [.nsl, .nsl]), (1, .fl l207), (2, .vs [.sl 4 1 1 0 a208 a209, .sl 5 1 1 0 a210 a211]), (3, .cols a212 [.cfl l213, .cf l214]), (4, .fl l215), (5, .fl l216)], 6⟩
def ref10_Reduce_t253 : T ((Unit) ⊕ (ref10_Reduce_X)) :=
  .leaf (.inl ())
def ref10_Reduce_n205 (m_0 : Int) (m_3 : List Nat) (l205 : Nat) (l206 : Nat) (l207 : List Nat) (a210 : Nat) (a211 : Nat) (a212 : Nat) (l213 : List (List Nat)) (l214 : List Nat) (l216 : List Nat) : Nat × Nat × Nat × (List Nat) → ASt := fun (i217, a218, a219, l220) => ⟨slots 291 [(2, .ptr 0 1 0 0), (4, .int .i64 m_0), (5, .sl 1 1 1 0 (List.length m_3) (List.length m_3)), (6, .ptr 2 1 0 0), (7, .sl 3 2 2 0 l205 l206), (29, .int .i64 ((i217 : Nat) : Int))], [(0, .vs [.nsl, .nsl]), (1, .fl l207), (2, .vs [.sl 4 1 1 0 a218 a219, .sl 5 1 1 0 a210 a211]), (3, .cols a212 [.cfl l213, .cf l214]), (4, .fl l220), (5, .fl l216)], 6⟩
def ref10_Reduce_n206 (m_0 : Int) (m_3 : List Nat) (l205 : Nat) (l206 : Nat) (l207 : List Nat) (a210 : Nat) (a211 : Nat) (a212 : Nat) (l213 : List (List Nat)) (l214 : List Nat) (l216 : List Nat) : Nat × Nat × (List Nat) → ASt := fun (a221, a222, l223) => ⟨slots 291 [(2, .ptr 0 1 0 0), (4, .int .i64 m_0), (5, .sl 1 1 1 0 (List.length m_3) (List.length m_3)), (6, .ptr 2 1 0 0), (7, .sl 3 2 2 0 l205 l206)], [(0, .vs [.nsl, .nsl]), (1, .fl l207), (2, .vs [.sl 4 1 1 0 a221 a222, .sl 5 1 1 0 a210 a211]), (3, .cols a212 [.cfl l213, .cf l214]), (4, .fl l223), (5, .fl l216)], 6⟩
noncomputable def ref10_Reduce_l254 : List Code := flat (inLoop ((((((ref10_Reduce_l209.drop 6).drop 1).drop 1).take 1)).headD .skip))
def ref10_Reduce_t255 (m_0 : Int) (m_3 : List Nat) (l207 : List Nat) (i217 : Nat) (a218 : Nat) (a219 : Nat) (l220 : List Nat) : T ((Nat × Nat × Nat × (List Nat)) ⊕ ((Nat × Nat × (List Nat)) ⊕ (ref10_Reduce_X))) :=
  .ask (decide (((i217 : Nat) : Int) < m_0))
    (.need (inK .i64 (((i217 : Nat) : Int) * m_0)) <| .need (inK .i64 ((((i217 : Nat) : Int) * m_0) + ((i217 : Nat) : Int))) <| .need (inB ((((i217 : Nat) : Int) * m_0) + ((i217 : Nat) : Int)) (List.length m_3)) <| .need (ltB (Int.toNat ((((i217 : Nat) : Int) * m_0) + ((i217 : Nat) : Int))) (List.length l207)) <| .need (leN ((a218 + 1) * 8) 140737488355328) <| .need (leN (a218 + 1) 9223372036854775807) <| .need (leN 1 (List.length [(List.getD l207 (Int.toNat ((((i217 : Nat) : Int) * m_0) + ((i217 : Nat) : Int))) 0)])) <| .need (leN a218 (List.length l220)) <| .need (inK .i64 (((i217 + 1) : Nat) : Int)) <| .leaf (.inl ((i217 + 1), (a218 + 1), (a218 + 1), ((List.take a218 l220) ++ (List.take 1 [(List.getD l207 (Int.toNat ((((i217 : Nat) : Int) * m_0) + ((i217 : Nat) : Int))) 0)])))))
    (.leaf (.inr (.inl (a218, a219, l220))))
noncomputable def ref10_Reduce_m256 (m_0 : Int) (m_3 : List Nat) (l207 : List Nat) : Nat × Nat × Nat × (List Nat) → Option ((Nat × Nat × Nat × (List Nat)) ⊕ ((Nat × Nat × (List Nat)) ⊕ (ref10_Reduce_X))) := fun (i217, a218, a219, l220) =>
  (ref10_Reduce_t255 m_0 m_3 l207 i217 a218 a219 l220).run
theorem ref10_Reduce_s256 (m_0 : Int) (m_3 : List Nat) (l205 : Nat) (l206 : Nat) (l207 : List Nat) (a210 : Nat) (a211 : Nat) (a212 : Nat) (l213 : List (List Nat)) (l214 : List Nat) (l216 : List Nat) (i217 : Nat) (a218 : Nat) (a219 : Nat) (l220 : List Nat) : Sg prog [] ref10_Reduce_l254 (ref10_Reduce_n205 m_0 m_3 l205 l206 l207 a210 a211 a212 l213 l214 l216 (i217, a218, a219, l220)) (ref10_Reduce_m256 m_0 m_3 l207 (i217, a218, a219, l220)) (ref10_Reduce_n205 m_0 m_3 l205 l206 l207 a210 a211 a212 l213 l214 l216) (exitE 16 (ref10_Reduce_n206 m_0 m_3 l205 l206 l207 a210 a211 a212 l213 l214 l216) ref10_Reduce_E) := by
  unfold ref10_Reduce_m256; exact Sg.seg (C := C0) C0_ok L_ref09_Make_ok 60 ref10_Reduce_l254 (ref10_Reduce_n205 m_0 m_3 l205 l206 l207 a210 a211 a212 l213 l214 l216 (i217, a218, a219, l220)) (ref10_Reduce_t255 m_0 m_3 l207 i217 a218 a219 l220) (ref10_Reduce_n205 m_0 m_3 l205 l206 l207 a210 a211 a212 l213 l214 l216) (exitE 16 (ref10_Reduce_n206 m_0 m_3 l205 l206 l207 a210 a211 a212 l213 l214 l216) ref10_Reduce_E) [⟨[], [0, 1, 2, 3, 230, 5], [2, 4, 5, 6, 7, 29]⟩, ⟨[], [0, 1, 2, 3, 4, 5], [2, 4, 5, 6, 7]⟩] (by kernel_rfl)
def ref10_Reduce_n207 (m_0 : Int) (m_3 : List Nat) (l205 : Nat) (l206 : Nat) (l207 : List Nat) (a210 : Nat) (a211 : Nat) (a212 : Nat) (l213 : List (List Nat)) (l214 : List Nat) (l216 : List Nat) : Nat × Nat × (List Nat) → ASt := ref10_Reduce_n206 m_0 m_3 l205 l206 l207 a210 a211 a212 l213 l214 l216
def ref10_Reduce_n208 (l205 : Nat) (l206 : Nat) (a212 : Nat) (l213 : List (List Nat)) (l214 : List Nat) (a221 : Nat) (a222 : Nat) (l223 : List Nat) : Nat × Nat × (List Nat) → ASt := fun (a224, a225, l226) => ⟨slots 291 [(2, .ptr 0 1 0 0), (6, .ptr 1 1 0 0), (7, .sl 2 2 2 0 l205 l206)], [(0, .vs [.nsl, .nsl]), (1, .vs [.sl 3 1 1 0 a221 a222, .sl 4 1 1 0 a224 a225]), (2, .cols a212 [.cfl l213, .cf l214]), (3, .fl l223), (4, .fl l226)], 5⟩
def ref10_Reduce_t257 (m_0 : Int) (m_3 : List Nat) (l207 : List Nat) (a210 : Nat) (a211 : Nat) (l216 : List Nat) : T ((Nat × Nat × (List Nat)) ⊕ (ref10_Reduce_X)) :=
  .ask (decide (m_0 > (1 : Int)))
    (.need (inK .i64 (m_0 - (1 : Int))) <| .need (inK .i64 ((m_0 - (1 : Int)) * m_0)) <| .need (inK .i64 (((m_0 - (1 : Int)) * m_0) + m_0)) <| .need (inK .i64 ((((m_0 - (1 : Int)) * m_0) + m_0) - (2 : Int))) <| .need (inB ((((m_0 - (1 : Int)) * m_0) + m_0) - (2 : Int)) (List.length m_3)) <| .need (ltB (Int.toNat ((((m_0 - (1 : Int)) * m_0) + m_0) - (2 : Int))) (List.length l207)) <| .need (leN ((a210 + 1) * 8) 140737488355328) <| .need (leN (a210 + 1) 9223372036854775807) <| .need (leN 1 (List.length [(List.getD l207 (Int.toNat ((((m_0 - (1 : Int)) * m_0) + m_0) - (2 : Int))) 0)])) <| .need (leN a210 (List.length l216)) <| .leaf (.inl ((a210 + 1), (a210 + 1), ((List.take a210 l216) ++ (List.take 1 [(List.getD l207 (Int.toNat ((((m_0 - (1 : Int)) * m_0) + m_0) - (2 : Int))) 0)])))))
    (.leaf (.inl (a210, a211, l216)))
def ref10_Reduce_t258 (l205 : Nat) (l206 : Nat) (a212 : Nat) (l213 : List (List Nat)) (l214 : List Nat) (a221 : Nat) (a222 : Nat) (l223 : List Nat) (a224 : Nat) (a225 : Nat) (l226 : List Nat) : T ((Empty) ⊕ (ref10_Reduce_X)) :=
  .leaf (.inr (.r0 l205 l206 a221 a222 a224 a225 a212 l213 l214 l223 l226))
noncomputable def ref10_Reduce_F (m_0 : Int) (m_3 : List Nat) : Option ref10_Reduce_X := toX (seqM ((ref10_Reduce_t210 m_3).run) fun l1 =>
  seqM (loopM (ref10_Reduce_m252 m_0 m_3) (0, 0, 0, l1, 0, 0, 0, 0, 0, ([] : List (List Nat)), ([] : List Nat), ([] : List Nat), ([] : List Nat))) fun (l205, l206, l207, a208, a209, a210, a211, a212, l213, l214, l215, l216) =>
  seqM ((ref10_Reduce_t253).run) fun _ =>
  seqM (loopM (ref10_Reduce_m256 m_0 m_3 l207) (a208, a208, a209, l215)) fun (a221, a222, l223) =>
  seqM ((ref10_Reduce_t257 m_0 m_3 l207 a210 a211 l216).run) fun (a224, a225, l226) =>
  (ref10_Reduce_t258 l205 l206 a212 l213 l214 a221 a222 l223 a224 a225 l226).run)
theorem ref10_Reduce_ok (m_0 : Int) (m_1 : Int) (v_2 : Lv) (m_3 : List Nat) {x : ref10_Reduce_X} (h : ref10_Reduce_F m_0 m_3 = some x) : Contract prog n_ref10_Reduce [] [.agg [.int .i64 m_0, .int .i64 m_1, .imm v_2 (.fl m_3) 1 1 0 (List.length m_3)]] (ref10_Reduce_o x) :=
  Sg.contract false ref10_Reduce_o (by kernel_rfl : prog.funcs[n_ref10_Reduce]? = some (FN n_ref10_Reduce)) (by kernel_rfl : (FN n_ref10_Reduce).body = some (BODY n_ref10_Reduce)) (Sg.cut 6 ref10_Reduce_hN (Sg.seg (C := C0) C0_ok L_ref09_Make_ok 60 (ref10_Reduce_l209.take 6) (entryOf (FN n_ref10_Reduce) [] [.agg [.int .i64 m_0, .int .i64 m_1, .imm v_2 (.fl m_3) 1 1 0 (List.length m_3)]]) (ref10_Reduce_t210 m_3) (ref10_Reduce_n1 m_0 m_3) ref10_Reduce_E [⟨[], [16, 128, 160], [2, 4, 5, 6, 7, 8]⟩] (by kernel_rfl)) (fun l1 => by exact Sg.cut 1 ref10_Reduce_hN (Sg.pre ⟨[(.cell 2 0, 1, 1, .fl ([] : List Nat), false), (.cell 2 1, 1, 1, .fl ([] : List Nat), false), (.slot 7, 2, 2, .cols 0 [.cfl ([] : List (List Nat)), .cf ([] : List Nat)], false)], [0, 1, 2, 5, 3, 4], [2, 4, 5, 6, 7, 8]⟩ rfl (by kernel_rfl : NS.on ⟨[(.cell 2 0, 1, 1, .fl ([] : List Nat), false), (.cell 2 1, 1, 1, .fl ([] : List Nat), false), (.slot 7, 2, 2, .cols 0 [.cfl ([] : List (List Nat)), .cf ([] : List Nat)], false)], [0, 1, 2, 5, 3, 4], [2, 4, 5, 6, 7, 8]⟩ (ref10_Reduce_n1 m_0 m_3 l1) = (ref10_Reduce_n134 m_0 m_3) (0, 0, 0, l1, 0, 0, 0, 0, 0, ([] : List (List Nat)), ([] : List Nat), ([] : List Nat), ([] : List Nat))) (Sg.loopAt (I := (ref10_Reduce_n134 m_0 m_3)) (J := (ref10_Reduce_n201 m_0 m_3)) (id := 0) (by kernel_rfl : ((ref10_Reduce_l209.drop 6).take 1) = [.block 0 (.loop (inLoop ((((ref10_Reduce_l209.drop 6).take 1)).headD .skip)))]) ref10_Reduce_hN (ref10_Reduce_hI _) (fun s => by obtain ⟨l119, l120, k121, l122, a123, a124, a125, a126, a127, l128, l129, l130, l131⟩ := s; exact ref10_Reduce_s252 m_0 m_3 l119 l120 k121 l122 a123 a124 a125 a126 a127 l128 l129 l130 l131) (0, 0, 0, l1, 0, 0, 0, 0, 0, ([] : List (List Nat)), ([] : List Nat), ([] : List Nat), ([] : List Nat)))) (fun a => by obtain ⟨l205, l206, l207, a208, a209, a210, a211, a212, l213, l214, l215, l216⟩ := a; exact Sg.cut 1 ref10_Reduce_hN (Sg.seg (C := C0) C0_ok L_ref09_Make_ok 60 (((ref10_Reduce_l209.drop 6).drop 1).take 1) (ref10_Reduce_n202 m_0 m_3 (l205, l206, l207, a208, a209, a210, a211, a212, l213, l214, l215, l216)) (ref10_Reduce_t253) (ref10_Reduce_n203 m_0 m_3 l205 l206 l207 a208 a209 a210 a211 a212 l213 l214 l215 l216) ref10_Reduce_E [⟨[], [0, 1, 2, 3, 4, 5], [2, 4, 5, 6, 7, 29]⟩] (by kernel_rfl)) (fun a => by cases a; exact Sg.cut 1 ref10_Reduce_hN (Sg.pre ⟨[], [0, 1, 2, 3, 4, 5], [2, 4, 5, 6, 7, 29]⟩ rfl (by kernel_rfl : NS.on ⟨[], [0, 1, 2, 3, 4, 5], [2, 4, 5, 6, 7, 29]⟩ (ref10_Reduce_n203 m_0 m_3 l205 l206 l207 a208 a209 a210 a211 a212 l213 l214 l215 l216 ()) = (ref10_Reduce_n205 m_0 m_3 l205 l206 l207 a210 a211 a212 l213 l214 l216) (a208, a208, a209, l215)) (Sg.loopAt (I := (ref10_Reduce_n205 m_0 m_3 l205 l206 l207 a210 a211 a212 l213 l214 l216)) (J := (ref10_Reduce_n206 m_0 m_3 l205 l206 l207 a210 a211 a212 l213 l214 l216)) (id := 16) (by kernel_rfl : ((((ref10_Reduce_l209.drop 6).drop 1).drop 1).take 1) = [.block 16 (.loop (inLoop ((((((ref10_Reduce_l209.drop 6).drop 1).drop 1).take 1)).headD .skip)))]) ref10_Reduce_hN (ref10_Reduce_hI _) (fun s => by obtain ⟨i217, a218, a219, l220⟩ := s; exact ref10_Reduce_s256 m_0 m_3 l205 l206 l207 a210 a211 a212 l213 l214 l216 i217 a218 a219 l220) (a208, a208, a209, l215))) (fun a => by obtain ⟨a221, a222, l223⟩ := a; exact Sg.cut 2 ref10_Reduce_hN (Sg.seg (C := C0) C0_ok L_ref09_Make_ok 60 (((((ref10_Reduce_l209.drop 6).drop 1).drop 1).drop 1).take 2) (ref10_Reduce_n207 m_0 m_3 l205 l206 l207 a210 a211 a212 l213 l214 l216 (a221, a222, l223)) (ref10_Reduce_t257 m_0 m_3 l207 a210 a211 l216) (ref10_Reduce_n208 l205 l206 a212 l213 l214 a221 a222 l223) ref10_Reduce_E [⟨[], [0, 2, 3, 4, 246], [2, 6, 7]⟩, ⟨[], [0, 2, 3, 4, 5], [2, 6, 7]⟩] (by kernel_rfl)) (fun a => by obtain ⟨a224, a225, l226⟩ := a; exact Sg.seg (C := C0) C0_ok L_ref09_Make_ok 60 (((((ref10_Reduce_l209.drop 6).drop 1).drop 1).drop 1).drop 2) (ref10_Reduce_n208 l205 l206 a212 l213 l214 a221 a222 l223 (a224, a225, l226)) (ref10_Reduce_t258 l205 l206 a212 l213 l214 a221 a222 l223 a224 a225 l226) (fun a : Empty => a.elim) ref10_Reduce_E [⟨[], [0, 2, 3, 4], [2, 3]⟩] (by kernel_rfl)))))))
    (fun x => by cases x with | r0 a227 a228 a229 a230 a231 a232 a233 l234 l235 l236 l237 => exact ⟨.inr rfl, [.agg [.sl 2 1 1 0 a229 a230, .sl 3 1 1 0 a231 a232], .sl 1 2 2 0 a227 a228], [], by kernel_rfl, trivial, by kernel_rfl⟩) h

def ref10_Reduce_i0 : Option ref10_Reduce_X → Bool
  | some _ => true
  | none => false
def ref10_Reduce_p0_0 : Option ref10_Reduce_X → Nat
  | some (.r0 x _ _ _ _ _ _ _ _ _ _) => x
  | _ => 0
def ref10_Reduce_p0_1 : Option ref10_Reduce_X → Nat
  | some (.r0 _ x _ _ _ _ _ _ _ _ _) => x
  | _ => 0
def ref10_Reduce_p0_2 : Option ref10_Reduce_X → Nat
  | some (.r0 _ _ x _ _ _ _ _ _ _ _) => x
  | _ => 0
def ref10_Reduce_p0_3 : Option ref10_Reduce_X → Nat
  | some (.r0 _ _ _ x _ _ _ _ _ _ _) => x
  | _ => 0
def ref10_Reduce_p0_4 : Option ref10_Reduce_X → Nat
  | some (.r0 _ _ _ _ x _ _ _ _ _ _) => x
  | _ => 0
def ref10_Reduce_p0_5 : Option ref10_Reduce_X → Nat
  | some (.r0 _ _ _ _ _ x _ _ _ _ _) => x
  | _ => 0
def ref10_Reduce_p0_6 : Option ref10_Reduce_X → Nat
  | some (.r0 _ _ _ _ _ _ x _ _ _ _) => x
  | _ => 0
def ref10_Reduce_p0_7 : Option ref10_Reduce_X → List (List Nat)
  | some (.r0 _ _ _ _ _ _ _ x _ _ _) => x
  | _ => []
def ref10_Reduce_p0_8 : Option ref10_Reduce_X → List Nat
  | some (.r0 _ _ _ _ _ _ _ _ x _ _) => x
  | _ => []
def ref10_Reduce_p0_9 : Option ref10_Reduce_X → List Nat
  | some (.r0 _ _ _ _ _ _ _ _ _ x _) => x
  | _ => []
def ref10_Reduce_p0_10 : Option ref10_Reduce_X → List Nat
  | some (.r0 _ _ _ _ _ _ _ _ _ _ x) => x
  | _ => []
theorem ref10_Reduce_e0 {x : Option ref10_Reduce_X} (h : ref10_Reduce_i0 x = true) : x = some (.r0 (ref10_Reduce_p0_0 x) (ref10_Reduce_p0_1 x) (ref10_Reduce_p0_2 x) (ref10_Reduce_p0_3 x) (ref10_Reduce_p0_4 x) (ref10_Reduce_p0_5 x) (ref10_Reduce_p0_6 x) (ref10_Reduce_p0_7 x) (ref10_Reduce_p0_8 x) (ref10_Reduce_p0_9 x) (ref10_Reduce_p0_10 x)) := by
  unfold ref10_Reduce_i0 at h
  split at h <;> first | rfl | (cases h; done) | (rename_i y; cases y; rfl)
noncomputable def e_ref10_Reduce : Entry := autoE n_ref10_Reduce (.cons (.agg (.cons (.int .i64) (.cons (.int .i64) (.cons .fl .nil)))) .nil) fun t => [⟨ref10_Reduce_o (.r0 (ref10_Reduce_p0_0 (ref10_Reduce_F t.1.1 t.1.2.2.1.2)) (ref10_Reduce_p0_1 (ref10_Reduce_F t.1.1 t.1.2.2.1.2)) (ref10_Reduce_p0_2 (ref10_Reduce_F t.1.1 t.1.2.2.1.2)) (ref10_Reduce_p0_3 (ref10_Reduce_F t.1.1 t.1.2.2.1.2)) (ref10_Reduce_p0_4 (ref10_Reduce_F t.1.1 t.1.2.2.1.2)) (ref10_Reduce_p0_5 (ref10_Reduce_F t.1.1 t.1.2.2.1.2)) (ref10_Reduce_p0_6 (ref10_Reduce_F t.1.1 t.1.2.2.1.2)) (ref10_Reduce_p0_7 (ref10_Reduce_F t.1.1 t.1.2.2.1.2)) (ref10_Reduce_p0_8 (ref10_Reduce_F t.1.1 t.1.2.2.1.2)) (ref10_Reduce_p0_9 (ref10_Reduce_F t.1.1 t.1.2.2.1.2)) (ref10_Reduce_p0_10 (ref10_Reduce_F t.1.1 t.1.2.2.1.2))), [ref10_Reduce_i0 (ref10_Reduce_F t.1.1 t.1.2.2.1.2)]⟩]
theorem e_ref10_Reduce_ok : EntryOk prog e_ref10_Reduce := autoE_ok fun t => (altsCons (fun h => ref10_Reduce_ok t.1.1 t.1.2.1 t.1.2.2.1.1 t.1.2.2.1.2 (ref10_Reduce_e0 h)) altsNil)
noncomputable def L_ref10_Reduce : List Entry := e_ref10_Reduce :: L_ref09_Make
theorem L_ref10_Reduce_ok : SumsOk prog (sumsOf L_ref10_Reduce) := sumsOf_cons e_ref10_Reduce_ok L_ref09_Make_ok

end
end Go.Plb.Seat

namespace Go.Plb.Seat
open Go Go.Plb
set_option linter.unusedVariables false
set_option maxRecDepth 100000
noncomputable section

inductive law10_TridiagReduces_X where
  | r0 (b29 : Bool)
def law10_TridiagReduces_E : law10_TridiagReduces_X → AE × ASt
  | .r0 b29 => (.ret, ⟨slots 97 [(2, .bool false b29)], [], 0⟩)
theorem law10_TridiagReduces_hN : NoN law10_TridiagReduces_E := by intro x; cases x <;> (intro h; cases h)
theorem law10_TridiagReduces_hI (id : Nat) : NoId id law10_TridiagReduces_E := by intro x; cases x <;> (intro h; cases h)
def law10_TridiagReduces_o : law10_TridiagReduces_X → Out
  | .r0 b29 => ⟨.bool false b29, []⟩
noncomputable def law10_TridiagReduces_l14 : List Code := flat (BODY n_law10_TridiagReduces)
def law10_TridiagReduces_n1 (a_0 : Int) (a_1 : Int) (v_2 : Lv) (a_3 : List Nat) : Nat × Nat × Nat × Nat × Nat × Nat × Nat × Nat × (List (List Nat)) × (List Nat) × (List Nat) × (List Nat) × (List Nat) → ASt := fun (l1, l2, e3, a4, a5, a6, a7, a8, l9, l10, l11, l12, l13) => ⟨slots 97 [(1, .ptr 0 1 0 0), (3, .ptr 1 1 0 0), (4, .ptr 2 1 0 0), (5, .sl 3 2 2 0 l1 l2), (6, .int .i64 ((e3 : Nat) : Int))], [(0, .vs [.int .i64 a_0, .int .i64 a_1, .imm v_2 (.fl a_3) 1 1 0 (List.length a_3)]), (1, .vs [.int .i64 a_0, .int .i64 a_1, .sl 4 1 1 0 (List.length a_3) (List.length a_3)]), (2, .vs [.sl 5 1 1 0 a4 a5, .sl 6 1 1 0 a6 a7]), (3, .cols a8 [.cfl l9, .cf l10]), (4, .fl l11), (5, .fl l12), (6, .fl l13)], 7⟩
def law10_TridiagReduces_t15 (a_0 : Int) (a_1 : Int) (a_3 : List Nat) : T ((Nat × Nat × Nat × Nat × Nat × Nat × Nat × Nat × (List (List Nat)) × (List Nat) × (List Nat) × (List Nat) × (List Nat)) ⊕ (law10_TridiagReduces_X)) :=
  .ask (decide ((((List.length a_3) : Nat) : Int) > (200 : Int)))
    (.leaf (.inr (.r0 true)))
    (.need (leN ((List.length a_3) * 8) 140737488355328) <| .need (leN (List.length a_3) 9223372036854775807) <| .need (leN (List.length a_3) (List.length a_3)) <| .alt 0
      (.need (slOk 0 (List.length a_3) a_3) <| .need (tridiag_Reduce_i0 (tridiag_Reduce_F a_0 a_1 (cutL 0 (List.length a_3) a_3))) <| .leaf (.inl (0, 0, (tridiag_Reduce_p0_0 (tridiag_Reduce_F a_0 a_1 (cutL 0 (List.length a_3) a_3))), 0, 0, 0, 0, 0, ([] : List (List Nat)), ([] : List Nat), (List.take (List.length a_3) a_3), ([] : List Nat), ([] : List Nat))))
      (.alt 1
        (.need (slOk 0 (List.length a_3) a_3) <| .need (tridiag_Reduce_i1 (tridiag_Reduce_F a_0 a_1 (cutL 0 (List.length a_3) a_3))) <| .leaf (.inl ((tridiag_Reduce_p1_0 (tridiag_Reduce_F a_0 a_1 (cutL 0 (List.length a_3) a_3))), (tridiag_Reduce_p1_1 (tridiag_Reduce_F a_0 a_1 (cutL 0 (List.length a_3) a_3))), 0, (tridiag_Reduce_p1_2 (tridiag_Reduce_F a_0 a_1 (cutL 0 (List.length a_3) a_3))), (tridiag_Reduce_p1_3 (tridiag_Reduce_F a_0 a_1 (cutL 0 (List.length a_3) a_3))), (tridiag_Reduce_p1_4 (tridiag_Reduce_F a_0 a_1 (cutL 0 (List.length a_3) a_3))), (tridiag_Reduce_p1_5 (tridiag_Reduce_F a_0 a_1 (cutL 0 (List.length a_3) a_3))), (tridiag_Reduce_p1_6 (tridiag_Reduce_F a_0 a_1 (cutL 0 (List.length a_3) a_3))), (tridiag_Reduce_p1_7 (tridiag_Reduce_F a_0 a_1 (cutL 0 (List.length a_3) a_3))), (tridiag_Reduce_p1_8 (tridiag_Reduce_F a_0 a_1 (cutL 0 (List.length a_3) a_3))), (List.take (List.length a_3) a_3), (tridiag_Reduce_p1_9 (tridiag_Reduce_F a_0 a_1 (cutL 0 (List.length a_3) a_3))), (tridiag_Reduce_p1_10 (tridiag_Reduce_F a_0 a_1 (cutL 0 (List.length a_3) a_3))))))
        (.fail)))
def law10_TridiagReduces_n2 (a_0 : Int) (a_1 : Int) (v_2 : Lv) (a_3 : List Nat) (l1 : Nat) (l2 : Nat) (e3 : Nat) (a4 : Nat) (a5 : Nat) (a6 : Nat) (a7 : Nat) (a8 : Nat) (l9 : List (List Nat)) (l10 : List Nat) (l11 : List Nat) (l12 : List Nat) (l13 : List Nat) (want14 : Nat) : ASt := ⟨slots 97 [(1, .ptr 0 1 0 0), (3, .ptr 1 1 0 0), (4, .ptr 2 1 0 0), (5, .sl 3 2 2 0 l1 l2), (6, .int .i64 ((e3 : Nat) : Int)), (7, .int .i64 ((want14 : Nat) : Int))], [(0, .vs [.int .i64 a_0, .int .i64 a_1, .imm v_2 (.fl a_3) 1 1 0 (List.length a_3)]), (1, .vs [.int .i64 a_0, .int .i64 a_1, .sl 4 1 1 0 (List.length a_3) (List.length a_3)]), (2, .vs [.sl 5 1 1 0 a4 a5, .sl 6 1 1 0 a6 a7]), (3, .cols a8 [.cfl l9, .cf l10]), (4, .fl l11), (5, .fl l12), (6, .fl l13)], 7⟩
def law10_TridiagReduces_t16 (a_0 : Int) (a_1 : Int) (a_3 : List Nat) : T ((Nat) ⊕ (law10_TridiagReduces_X)) :=
  .need (slOk 0 (List.length a_3) a_3) <| .need (ref09_May_i0 (ref09_May_F a_0 a_1 (cutL 0 (List.length a_3) a_3))) <| .ask (!(ref09_May_p0_0 (ref09_May_F a_0 a_1 (cutL 0 (List.length a_3) a_3))))
    (.leaf (.inl 2))
    (.ask (a_0 != a_1)
      (.leaf (.inl 8))
      (.need (slOk 0 (List.length a_3) a_3) <| .need (ref05_Wrong_i0 (ref05_Wrong_F a_0 a_1 (cutL 0 (List.length a_3) a_3))) <| .ask ((((ref05_Wrong_p0_0 (ref05_Wrong_F a_0 a_1 (cutL 0 (List.length a_3) a_3))) : Nat) : Int) != (0 : Int))
        (.leaf (.inl 10))
        (.leaf (.inl 0))))
def law10_TridiagReduces_n3 (a_0 : Int) (a_1 : Int) (v_2 : Lv) (a_3 : List Nat) (l1 : Nat) (l2 : Nat) (a4 : Nat) (a5 : Nat) (a6 : Nat) (a7 : Nat) (a8 : Nat) (l9 : List (List Nat)) (l10 : List Nat) (l12 : List Nat) (l13 : List Nat) (want14 : Nat) (b15 : Bool) : ASt := ⟨slots 97 [(1, .ptr 0 1 0 0), (4, .ptr 1 1 0 0), (5, .sl 2 2 2 0 l1 l2), (7, .int .i64 ((want14 : Nat) : Int)), (34, .bool false b15)], [(0, .vs [.int .i64 a_0, .int .i64 a_1, .imm v_2 (.fl a_3) 1 1 0 (List.length a_3)]), (1, .vs [.sl 3 1 1 0 a4 a5, .sl 4 1 1 0 a6 a7]), (2, .cols a8 [.cfl l9, .cf l10]), (3, .fl l12), (4, .fl l13)], 5⟩
def law10_TridiagReduces_t17 (a_0 : Int) (a_1 : Int) (a_3 : List Nat) (e3 : Nat) (l11 : List Nat) (want14 : Nat) : T ((Bool) ⊕ (law10_TridiagReduces_X)) :=
  .ask (((e3 : Nat) : Int) != ((want14 : Nat) : Int))
    (.leaf (.inl true))
    (.need (slOk 0 (List.length a_3) l11) <| .need (slOk 0 (List.length a_3) a_3) <| .need (ref09_Same_i0 (ref09_Same_F a_0 a_1 (cutL 0 (List.length a_3) l11) a_0 a_1 (cutL 0 (List.length a_3) a_3))) <| .leaf (.inl (!(ref09_Same_p0_0 (ref09_Same_F a_0 a_1 (cutL 0 (List.length a_3) l11) a_0 a_1 (cutL 0 (List.length a_3) a_3))))))
def law10_TridiagReduces_n4 (a_0 : Int) (a_1 : Int) (v_2 : Lv) (a_3 : List Nat) (l1 : Nat) (l2 : Nat) (a4 : Nat) (a5 : Nat) (a6 : Nat) (a7 : Nat) (a8 : Nat) (l9 : List (List Nat)) (l10 : List Nat) (l12 : List Nat) (l13 : List Nat) (_ : Unit) : ASt := ⟨slots 97 [(1, .ptr 0 1 0 0), (4, .ptr 1 1 0 0), (5, .sl 2 2 2 0 l1 l2)], [(0, .vs [.int .i64 a_0, .int .i64 a_1, .imm v_2 (.fl a_3) 1 1 0 (List.length a_3)]), (1, .vs [.sl 3 1 1 0 a4 a5, .sl 4 1 1 0 a6 a7]), (2, .cols a8 [.cfl l9, .cf l10]), (3, .fl l12), (4, .fl l13)], 5⟩
def law10_TridiagReduces_t18 (l1 : Nat) (a4 : Nat) (a6 : Nat) (l12 : List Nat) (l13 : List Nat) (want14 : Nat) (b15 : Bool) : T ((Unit) ⊕ (law10_TridiagReduces_X)) :=
  .ask b15
    (.leaf (.inr (.r0 false)))
    (.ask (((want14 : Nat) : Int) != (0 : Int))
      (.need (slOk 0 a4 l12) <| .need (slOk 0 a6 l13) <| .need (law10_sameTri_i0 (law10_sameTri_F (cutL 0 a4 l12) (cutL 0 a6 l13) ([] : List Nat) ([] : List Nat))) <| .ask (law10_sameTri_p0_0 (law10_sameTri_F (cutL 0 a4 l12) (cutL 0 a6 l13) ([] : List Nat) ([] : List Nat)))
        (.ask (((l1 : Nat) : Int) == (0 : Int))
          (.leaf (.inr (.r0 true)))
          (.leaf (.inr (.r0 false))))
        (.leaf (.inr (.r0 false))))
      (.leaf (.inl ())))
def law10_TridiagReduces_n5 (l1 : Nat) (l2 : Nat) (a4 : Nat) (a5 : Nat) (a6 : Nat) (a7 : Nat) (a8 : Nat) (l9 : List (List Nat)) (l10 : List Nat) (l12 : List Nat) (l13 : List Nat) : Nat × Nat × Nat × Nat × Nat × Nat × Nat × (List (List Nat)) × (List Nat) × (List Nat) × (List Nat) → ASt := fun (m16, m17, a18, a19, a20, a21, a22, l23, l24, l25, l26) => ⟨slots 97 [(4, .ptr 0 1 0 0), (5, .sl 1 2 2 0 l1 l2), (8, .ptr 2 1 0 0), (9, .sl 3 2 2 0 m16 m17)], [(0, .vs [.sl 4 1 1 0 a4 a5, .sl 5 1 1 0 a6 a7]), (1, .cols a8 [.cfl l9, .cf l10]), (2, .vs [.sl 6 1 1 0 a18 a19, .sl 7 1 1 0 a20 a21]), (3, .cols a22 [.cfl l23, .cf l24]), (4, .fl l12), (5, .fl l13), (6, .fl l25), (7, .fl l26)], 8⟩
def law10_TridiagReduces_t19 (a_0 : Int) (a_3 : List Nat) : T ((Nat × Nat × Nat × Nat × Nat × Nat × Nat × (List (List Nat)) × (List Nat) × (List Nat) × (List Nat)) ⊕ (law10_TridiagReduces_X)) :=
  .need (slOk 0 (List.length a_3) a_3) <| .need (ref10_Reduce_i0 (ref10_Reduce_F a_0 (cutL 0 (List.length a_3) a_3))) <| .leaf (.inl ((ref10_Reduce_p0_0 (ref10_Reduce_F a_0 (cutL 0 (List.length a_3) a_3))), (ref10_Reduce_p0_1 (ref10_Reduce_F a_0 (cutL 0 (List.length a_3) a_3))), (ref10_Reduce_p0_2 (ref10_Reduce_F a_0 (cutL 0 (List.length a_3) a_3))), (ref10_Reduce_p0_3 (ref10_Reduce_F a_0 (cutL 0 (List.length a_3) a_3))), (ref10_Reduce_p0_4 (ref10_Reduce_F a_0 (cutL 0 (List.length a_3) a_3))), (ref10_Reduce_p0_5 (ref10_Reduce_F a_0 (cutL 0 (List.length a_3) a_3))), (ref10_Reduce_p0_6 (ref10_Reduce_F a_0 (cutL 0 (List.length a_3) a_3))), (ref10_Reduce_p0_7 (ref10_Reduce_F a_0 (cutL 0 (List.length a_3) a_3))), (ref10_Reduce_p0_8 (ref10_Reduce_F a_0 (cutL 0 (List.length a_3) a_3))), (ref10_Reduce_p0_9 (ref10_Reduce_F a_0 (cutL 0 (List.length a_3) a_3))), (ref10_Reduce_p0_10 (ref10_Reduce_F a_0 (cutL 0 (List.length a_3) a_3)))))
def law10_TridiagReduces_n6 (l1 : Nat) (l2 : Nat) (a8 : Nat) (l9 : List (List Nat)) (l10 : List Nat) (m16 : Nat) (m17 : Nat) (a22 : Nat) (l23 : List (List Nat)) (l24 : List Nat) (b27 : Bool) : ASt := ⟨slots 97 [(5, .sl 0 2 2 0 l1 l2), (9, .sl 1 2 2 0 m16 m17), (63, .bool false b27)], [(0, .cols a8 [.cfl l9, .cf l10]), (1, .cols a22 [.cfl l23, .cf l24])], 2⟩
def law10_TridiagReduces_t20 (l1 : Nat) (a4 : Nat) (a6 : Nat) (l12 : List Nat) (l13 : List Nat) (m16 : Nat) (a18 : Nat) (a20 : Nat) (l25 : List Nat) (l26 : List Nat) : T ((Bool) ⊕ (law10_TridiagReduces_X)) :=
  .need (slOk 0 a4 l12) <| .need (slOk 0 a6 l13) <| .need (slOk 0 a18 l25) <| .need (slOk 0 a20 l26) <| .need (law10_sameTri_i0 (law10_sameTri_F (cutL 0 a4 l12) (cutL 0 a6 l13) (cutL 0 a18 l25) (cutL 0 a20 l26))) <| .ask (!(law10_sameTri_p0_0 (law10_sameTri_F (cutL 0 a4 l12) (cutL 0 a6 l13) (cutL 0 a18 l25) (cutL 0 a20 l26))))
    (.leaf (.inl true))
    (.leaf (.inl (((l1 : Nat) : Int) != ((m16 : Nat) : Int))))
def law10_TridiagReduces_n7 (l1 : Nat) (l2 : Nat) (a8 : Nat) (l9 : List (List Nat)) (l10 : List Nat) (m16 : Nat) (m17 : Nat) (a22 : Nat) (l23 : List (List Nat)) (l24 : List Nat) (_ : Unit) : ASt := ⟨slots 97 [(5, .sl 0 2 2 0 l1 l2), (9, .sl 1 2 2 0 m16 m17), (10, .int .i64 (0 : Int))], [(0, .cols a8 [.cfl l9, .cf l10]), (1, .cols a22 [.cfl l23, .cf l24])], 2⟩
def law10_TridiagReduces_t21 (b27 : Bool) : T ((Unit) ⊕ (law10_TridiagReduces_X)) :=
  .ask b27
    (.leaf (.inr (.r0 false)))
    (.leaf (.inl ()))
def law10_TridiagReduces_n10 (l1 : Nat) (l2 : Nat) (a8 : Nat) (l9 : List (List Nat)) (l10 : List Nat) (m16 : Nat) (m17 : Nat) (a22 : Nat) (l23 : List (List Nat)) (l24 : List Nat) (i28 : Nat) : ASt := ⟨slots 97 [(5, .sl 0 2 2 0 l1 l2), (9, .sl 1 2 2 0 m16 m17), (10, .int .i64 ((i28 : Nat) : Int))], [(0, .cols a8 [.cfl l9, .cf l10]), (1, .cols a22 [.cfl l23, .cf l24])], 2⟩
def law10_TridiagReduces_n12 (_ : Unit) : ASt := ⟨slots 97 [], [], 0⟩
noncomputable def law10_TridiagReduces_l22 : List Code := flat (inLoop ((((((((((law10_TridiagReduces_l14.drop 5).drop 1).drop 1).drop 3).drop 1).drop 1).drop 2).take 1)).headD .skip))
def law10_TridiagReduces_n11 (l1 : Nat) (l2 : Nat) (a8 : Nat) (l9 : List (List Nat)) (l10 : List Nat) (m16 : Nat) (m17 : Nat) (a22 : Nat) (l23 : List (List Nat)) (l24 : List Nat) (i28 : Nat) (_ : Unit) : ASt := ⟨slots 97 [(5, .sl 0 2 2 0 l1 l2), (9, .sl 1 2 2 0 m16 m17), (10, .int .i64 ((i28 : Nat) : Int))], [(0, .cols a8 [.cfl l9, .cf l10]), (1, .cols a22 [.cfl l23, .cf l24])], 2⟩
def law10_TridiagReduces_t23 (l1 : Nat) (l9 : List (List Nat)) (l10 : List Nat) (m16 : Nat) (l23 : List (List Nat)) (l24 : List Nat) (i28 : Nat) : T ((Unit) ⊕ ((Unit) ⊕ (law10_TridiagReduces_X))) :=
  .ask (decide (((i28 : Nat) : Int) < ((l1 : Nat) : Int)))
    (.need (inB ((i28 : Nat) : Int) l1) <| .need (ltB i28 (List.length l10)) <| .need (inB ((i28 : Nat) : Int) m16) <| .need (ltB i28 (List.length l24)) <| .ask (!(sameB (List.getD l10 i28 0) (List.getD l24 i28 0)))
      (.leaf (.inr (.inr (.r0 false))))
      (.need (inB ((i28 : Nat) : Int) l1) <| .need (ltB i28 (List.length l9)) <| .need (inB ((i28 : Nat) : Int) m16) <| .need (ltB i28 (List.length l23)) <| .need (slOk 0 (List.length (List.getD l9 i28 [])) (List.getD l9 i28 [])) <| .need (slOk 0 (List.length (List.getD l23 i28 [])) (List.getD l23 i28 [])) <| .need (ref06_SameAll_i0 (ref06_SameAll_F (cutL 0 (List.length (List.getD l9 i28 [])) (List.getD l9 i28 [])) (cutL 0 (List.length (List.getD l23 i28 [])) (List.getD l23 i28 [])))) <| .ask (!(ref06_SameAll_p0_0 (ref06_SameAll_F (cutL 0 (List.length (List.getD l9 i28 [])) (List.getD l9 i28 [])) (cutL 0 (List.length (List.getD l23 i28 [])) (List.getD l23 i28 [])))))
        (.leaf (.inr (.inr (.r0 false))))
        (.leaf (.inl ()))))
    (.leaf (.inr (.inl ())))
def law10_TridiagReduces_t24 (i28 : Nat) : T ((Nat) ⊕ ((Unit) ⊕ (law10_TridiagReduces_X))) :=
  .need (inK .i64 (((i28 + 1) : Nat) : Int)) <| .leaf (.inl (i28 + 1))
noncomputable def law10_TridiagReduces_m25 (l1 : Nat) (l9 : List (List Nat)) (l10 : List Nat) (m16 : Nat) (l23 : List (List Nat)) (l24 : List Nat) : Nat → Option ((Nat) ⊕ ((Unit) ⊕ (law10_TridiagReduces_X))) := fun i28 =>
  seqM ((law10_TridiagReduces_t23 l1 l9 l10 m16 l23 l24 i28).run) fun _ =>
  (law10_TridiagReduces_t24 i28).run
theorem law10_TridiagReduces_s25 (l1 : Nat) (l2 : Nat) (a8 : Nat) (l9 : List (List Nat)) (l10 : List Nat) (m16 : Nat) (m17 : Nat) (a22 : Nat) (l23 : List (List Nat)) (l24 : List Nat) (i28 : Nat) : Sg prog [] law10_TridiagReduces_l22 (law10_TridiagReduces_n10 l1 l2 a8 l9 l10 m16 m17 a22 l23 l24 i28) (law10_TridiagReduces_m25 l1 l9 l10 m16 l23 l24 i28) (law10_TridiagReduces_n10 l1 l2 a8 l9 l10 m16 m17 a22 l23 l24) (exitE 0 law10_TridiagReduces_n12 law10_TridiagReduces_E) := by
  unfold law10_TridiagReduces_m25; exact Sg.cut 3 (noN_exit law10_TridiagReduces_hN) (Sg.seg (C := C0) C0_ok L_ref10_Reduce_ok 60 (law10_TridiagReduces_l22.take 3) (law10_TridiagReduces_n10 l1 l2 a8 l9 l10 m16 m17 a22 l23 l24 i28) (law10_TridiagReduces_t23 l1 l9 l10 m16 l23 l24 i28) (law10_TridiagReduces_n11 l1 l2 a8 l9 l10 m16 m17 a22 l23 l24 i28) (exitE 0 law10_TridiagReduces_n12 law10_TridiagReduces_E) [⟨[], [], [2]⟩, ⟨[], [], [2]⟩, ⟨[], [0, 1], [5, 9, 10]⟩, ⟨[], [], []⟩] (by kernel_rfl)) (fun a => by cases a; exact Sg.seg (C := C0) C0_ok L_ref10_Reduce_ok 60 (law10_TridiagReduces_l22.drop 3) (law10_TridiagReduces_n11 l1 l2 a8 l9 l10 m16 m17 a22 l23 l24 i28 ()) (law10_TridiagReduces_t24 i28) (law10_TridiagReduces_n10 l1 l2 a8 l9 l10 m16 m17 a22 l23 l24) (exitE 0 law10_TridiagReduces_n12 law10_TridiagReduces_E) [⟨[], [0, 1], [5, 9, 10]⟩] (by kernel_rfl))
def law10_TridiagReduces_n13 : Unit → ASt := law10_TridiagReduces_n12
def law10_TridiagReduces_t26 : T ((Empty) ⊕ (law10_TridiagReduces_X)) :=
  .leaf (.inr (.r0 true))
noncomputable def law10_TridiagReduces_F (a_0 : Int) (a_1 : Int) (a_3 : List Nat) : Option law10_TridiagReduces_X := toX (seqM ((law10_TridiagReduces_t15 a_0 a_1 a_3).run) fun (l1, l2, e3, a4, a5, a6, a7, a8, l9, l10, l11, l12, l13) =>
  seqM ((law10_TridiagReduces_t16 a_0 a_1 a_3).run) fun want14 =>
  seqM ((law10_TridiagReduces_t17 a_0 a_1 a_3 e3 l11 want14).run) fun b15 =>
  seqM ((law10_TridiagReduces_t18 l1 a4 a6 l12 l13 want14 b15).run) fun _ =>
  seqM ((law10_TridiagReduces_t19 a_0 a_3).run) fun (m16, m17, a18, a19, a20, a21, a22, l23, l24, l25, l26) =>
  seqM ((law10_TridiagReduces_t20 l1 a4 a6 l12 l13 m16 a18 a20 l25 l26).run) fun b27 =>
  seqM ((law10_TridiagReduces_t21 b27).run) fun _ =>
  seqM (loopM (law10_TridiagReduces_m25 l1 l9 l10 m16 l23 l24) 0) fun _ =>
  (law10_TridiagReduces_t26).run)
theorem law10_TridiagReduces_ok (a_0 : Int) (a_1 : Int) (v_2 : Lv) (a_3 : List Nat) {x : law10_TridiagReduces_X} (h : law10_TridiagReduces_F a_0 a_1 a_3 = some x) : Contract prog n_law10_TridiagReduces [] [.agg [.int .i64 a_0, .int .i64 a_1, .imm v_2 (.fl a_3) 1 1 0 (List.length a_3)]] (law10_TridiagReduces_o x) :=
  Sg.contract false law10_TridiagReduces_o (by kernel_rfl : prog.funcs[n_law10_TridiagReduces]? = some (FN n_law10_TridiagReduces)) (by kernel_rfl : (FN n_law10_TridiagReduces).body = some (BODY n_law10_TridiagReduces)) (Sg.cut 5 law10_TridiagReduces_hN (Sg.seg (C := C0) C0_ok L_ref10_Reduce_ok 60 (law10_TridiagReduces_l14.take 5) (entryOf (FN n_law10_TridiagReduces) [] [.agg [.int .i64 a_0, .int .i64 a_1, .imm v_2 (.fl a_3) 1 1 0 (List.length a_3)]]) (law10_TridiagReduces_t15 a_0 a_1 a_3) (law10_TridiagReduces_n1 a_0 a_1 v_2 a_3) law10_TridiagReduces_E [⟨[], [], [2]⟩, ⟨[(.cell 256 0, 1, 1, .fl ([] : List Nat), false), (.cell 256 1, 1, 1, .fl ([] : List Nat), false), (.slot 5, 2, 2, .cols 0 [.cfl ([] : List (List Nat)), .cf ([] : List Nat)], false)], [0, 128, 256, 322, 112, 320, 321], [1, 3, 4, 5, 6]⟩, ⟨[], [0, 128, 256, 178, 112, 176, 177], [1, 3, 4, 5, 6]⟩] (by kernel_rfl)) (fun a => by obtain ⟨l1, l2, e3, a4, a5, a6, a7, a8, l9, l10, l11, l12, l13⟩ := a; exact Sg.cut 1 law10_TridiagReduces_hN (Sg.seg (C := C0) C0_ok L_ref10_Reduce_ok 60 ((law10_TridiagReduces_l14.drop 5).take 1) (law10_TridiagReduces_n1 a_0 a_1 v_2 a_3 (l1, l2, e3, a4, a5, a6, a7, a8, l9, l10, l11, l12, l13)) (law10_TridiagReduces_t16 a_0 a_1 a_3) (law10_TridiagReduces_n2 a_0 a_1 v_2 a_3 l1 l2 e3 a4 a5 a6 a7 a8 l9 l10 l11 l12 l13) law10_TridiagReduces_E [⟨[], [0, 1, 2, 3, 4, 5, 6], [1, 3, 4, 5, 6, 7]⟩, ⟨[], [0, 1, 2, 3, 4, 5, 6], [1, 3, 4, 5, 6, 7]⟩, ⟨[], [0, 1, 2, 3, 4, 5, 6], [1, 3, 4, 5, 6, 7]⟩, ⟨[], [0, 1, 2, 3, 4, 5, 6], [1, 3, 4, 5, 6, 7]⟩] (by kernel_rfl)) (fun want14 => by exact Sg.cut 1 law10_TridiagReduces_hN (Sg.seg (C := C0) C0_ok L_ref10_Reduce_ok 60 (((law10_TridiagReduces_l14.drop 5).drop 1).take 1) (law10_TridiagReduces_n2 a_0 a_1 v_2 a_3 l1 l2 e3 a4 a5 a6 a7 a8 l9 l10 l11 l12 l13 want14) (law10_TridiagReduces_t17 a_0 a_1 a_3 e3 l11 want14) (law10_TridiagReduces_n3 a_0 a_1 v_2 a_3 l1 l2 a4 a5 a6 a7 a8 l9 l10 l12 l13 want14) law10_TridiagReduces_E [⟨[], [0, 2, 3, 5, 6], [1, 4, 5, 7, 34]⟩, ⟨[], [0, 2, 3, 5, 6], [1, 4, 5, 7, 34]⟩] (by kernel_rfl)) (fun b15 => by exact Sg.cut 3 law10_TridiagReduces_hN (Sg.seg (C := C0) C0_ok L_ref10_Reduce_ok 60 ((((law10_TridiagReduces_l14.drop 5).drop 1).drop 1).take 3) (law10_TridiagReduces_n3 a_0 a_1 v_2 a_3 l1 l2 a4 a5 a6 a7 a8 l9 l10 l12 l13 want14 b15) (law10_TridiagReduces_t18 l1 a4 a6 l12 l13 want14 b15) (law10_TridiagReduces_n4 a_0 a_1 v_2 a_3 l1 l2 a4 a5 a6 a7 a8 l9 l10 l12 l13) law10_TridiagReduces_E [⟨[], [], [2]⟩, ⟨[], [], [2]⟩, ⟨[], [], [2]⟩, ⟨[], [], [2]⟩, ⟨[], [0, 1, 2, 3, 4], [1, 4, 5]⟩] (by kernel_rfl)) (fun a => by cases a; exact Sg.cut 1 law10_TridiagReduces_hN (Sg.seg (C := C0) C0_ok L_ref10_Reduce_ok 60 (((((law10_TridiagReduces_l14.drop 5).drop 1).drop 1).drop 3).take 1) (law10_TridiagReduces_n4 a_0 a_1 v_2 a_3 l1 l2 a4 a5 a6 a7 a8 l9 l10 l12 l13 ()) (law10_TridiagReduces_t19 a_0 a_3) (law10_TridiagReduces_n5 l1 l2 a4 a5 a6 a7 a8 l9 l10 l12 l13) law10_TridiagReduces_E [⟨[], [1, 2, 85, 23, 3, 4, 21, 22], [4, 5, 8, 9]⟩] (by kernel_rfl)) (fun a => by obtain ⟨m16, m17, a18, a19, a20, a21, a22, l23, l24, l25, l26⟩ := a; exact Sg.cut 1 law10_TridiagReduces_hN (Sg.seg (C := C0) C0_ok L_ref10_Reduce_ok 60 ((((((law10_TridiagReduces_l14.drop 5).drop 1).drop 1).drop 3).drop 1).take 1) (law10_TridiagReduces_n5 l1 l2 a4 a5 a6 a7 a8 l9 l10 l12 l13 (m16, m17, a18, a19, a20, a21, a22, l23, l24, l25, l26)) (law10_TridiagReduces_t20 l1 a4 a6 l12 l13 m16 a18 a20 l25 l26) (law10_TridiagReduces_n6 l1 l2 a8 l9 l10 m16 m17 a22 l23 l24) law10_TridiagReduces_E [⟨[], [1, 3], [5, 9, 63]⟩, ⟨[], [1, 3], [5, 9, 63]⟩] (by kernel_rfl)) (fun b27 => by exact Sg.cut 2 law10_TridiagReduces_hN (Sg.seg (C := C0) C0_ok L_ref10_Reduce_ok 60 (((((((law10_TridiagReduces_l14.drop 5).drop 1).drop 1).drop 3).drop 1).drop 1).take 2) (law10_TridiagReduces_n6 l1 l2 a8 l9 l10 m16 m17 a22 l23 l24 b27) (law10_TridiagReduces_t21 b27) (law10_TridiagReduces_n7 l1 l2 a8 l9 l10 m16 m17 a22 l23 l24) law10_TridiagReduces_E [⟨[], [], [2]⟩, ⟨[], [0, 1], [5, 9, 10]⟩] (by kernel_rfl)) (fun a => by cases a; exact Sg.cut 1 law10_TridiagReduces_hN (Sg.pre ⟨[], [0, 1], [5, 9, 10]⟩ rfl (by kernel_rfl : NS.on ⟨[], [0, 1], [5, 9, 10]⟩ (law10_TridiagReduces_n7 l1 l2 a8 l9 l10 m16 m17 a22 l23 l24 ()) = (law10_TridiagReduces_n10 l1 l2 a8 l9 l10 m16 m17 a22 l23 l24) 0) (Sg.loopAt (I := (law10_TridiagReduces_n10 l1 l2 a8 l9 l10 m16 m17 a22 l23 l24)) (J := (law10_TridiagReduces_n12)) (id := 0) (by kernel_rfl : ((((((((law10_TridiagReduces_l14.drop 5).drop 1).drop 1).drop 3).drop 1).drop 1).drop 2).take 1) = [.block 0 (.loop (inLoop ((((((((((law10_TridiagReduces_l14.drop 5).drop 1).drop 1).drop 3).drop 1).drop 1).drop 2).take 1)).headD .skip)))]) law10_TridiagReduces_hN (law10_TridiagReduces_hI _) (fun s => by exact law10_TridiagReduces_s25 l1 l2 a8 l9 l10 m16 m17 a22 l23 l24 s) 0)) (fun a => by cases a; exact Sg.seg (C := C0) C0_ok L_ref10_Reduce_ok 60 ((((((((law10_TridiagReduces_l14.drop 5).drop 1).drop 1).drop 3).drop 1).drop 1).drop 2).drop 1) (law10_TridiagReduces_n13 ()) (law10_TridiagReduces_t26) (fun a : Empty => a.elim) law10_TridiagReduces_E [⟨[], [], [2]⟩] (by kernel_rfl))))))))))
    (fun x => by cases x with | r0 b29 => exact ⟨.inr rfl, [.bool false b29], [], by kernel_rfl, trivial, by kernel_rfl⟩) h

def law10_TridiagReduces_i0 : Option law10_TridiagReduces_X → Bool
  | some _ => true
  | none => false
def law10_TridiagReduces_p0_0 : Option law10_TridiagReduces_X → Bool
  | some (.r0 x) => x
  | _ => false
theorem law10_TridiagReduces_e0 {x : Option law10_TridiagReduces_X} (h : law10_TridiagReduces_i0 x = true) : x = some (.r0 (law10_TridiagReduces_p0_0 x)) := by
  unfold law10_TridiagReduces_i0 at h
  split at h <;> first | rfl | (cases h; done) | (rename_i y; cases y; rfl)
noncomputable def e_law10_TridiagReduces : Entry := autoE n_law10_TridiagReduces (.cons (.agg (.cons (.int .i64) (.cons (.int .i64) (.cons .fl .nil)))) .nil) fun t => [⟨law10_TridiagReduces_o (.r0 (law10_TridiagReduces_p0_0 (law10_TridiagReduces_F t.1.1 t.1.2.1 t.1.2.2.1.2))), [law10_TridiagReduces_i0 (law10_TridiagReduces_F t.1.1 t.1.2.1 t.1.2.2.1.2)]⟩]
theorem e_law10_TridiagReduces_ok : EntryOk prog e_law10_TridiagReduces := autoE_ok fun t => (altsCons (fun h => law10_TridiagReduces_ok t.1.1 t.1.2.1 t.1.2.2.1.1 t.1.2.2.1.2 (law10_TridiagReduces_e0 h)) altsNil)
noncomputable def L_law10_TridiagReduces : List Entry := e_law10_TridiagReduces :: L_ref10_Reduce
theorem L_law10_TridiagReduces_ok : SumsOk prog (sumsOf L_law10_TridiagReduces) := sumsOf_cons e_law10_TridiagReduces_ok L_ref10_Reduce_ok

end
end Go.Plb.Seat

/-
  PLAIN: what trees and loops come to; sums and lists that are filled. No program in sight.
-/
namespace Go.Plb
set_option linter.unusedSimpArgs false
set_option linter.unusedVariables false

theorem T.nd {α : Type} {b : Bool} {t : T α} {x : Option α} (h : b = true) (k : t.run = x) : (T.need b t).run = x := by subst h; exact k
theorem T.at {α : Type} {b : Bool} {t f : T α} {x : Option α} (h : b = true) (k : t.run = x) : (T.ask b t f).run = x := by subst h; exact k
theorem T.af {α : Type} {b : Bool} {t f : T α} {x : Option α} (h : b = false) (k : f.run = x) : (T.ask b t f).run = x := by subst h; exact k
theorem T.a0 {α : Type} {k : Nat} {t f : T α} {a : α} (h : t.run = some a) : (T.alt k t f).run = some a := by simp only [T.run, h]
theorem T.a1 {α : Type} {k : Nat} {t f : T α} {x : Option α} (h : t.run = none) (q : f.run = x) : (T.alt k t f).run = x := by simp only [T.run, h]; exact q
theorem T.nf {α : Type} {b : Bool} {t : T α} (h : b = false) : (T.need b t).run = none := by subst h; rfl

theorem seqM_in {α β X : Type} {m : Option (α ⊕ X)} {k : α → Option (β ⊕ X)} {a : α} {x : Option (β ⊕ X)} (h : m = some (.inl a)) (q : k a = x) : seqM m k = x := by subst h; exact q
theorem seqM_out {α β X : Type} {m : Option (α ⊕ X)} {k : α → Option (β ⊕ X)} {y : X} (h : m = some (.inr y)) : seqM m k = some (.inr y) := by subst h; rfl
theorem joinM_in {κ X : Type} {m : Option (κ ⊕ (κ ⊕ X))} {a : κ} (h : m = some (.inl a)) : joinM m = some (.inl a) := by subst h; rfl
theorem joinM_mid {κ X : Type} {m : Option (κ ⊕ (κ ⊕ X))} {a : κ} (h : m = some (.inr (.inl a))) : joinM m = some (.inl a) := by subst h; rfl
theorem joinM_out {κ X : Type} {m : Option (κ ⊕ (κ ⊕ X))} {a : X} (h : m = some (.inr (.inr a))) : joinM m = some (.inr a) := by subst h; rfl
theorem toX_of {X : Type} {m : Option (Empty ⊕ X)} {x : X} (h : m = some (.inr x)) : toX m = some x := by subst h; rfl

/-- A loop whose states are told by a count. -/
theorem loopM_for {σ Y : Type} {B : σ → Option (σ ⊕ Y)} (st : Nat → σ) (n : Nat) {y : Y} (i : Nat) (hi : i ≤ n) (step : ∀ j, i ≤ j → j < n → B (st j) = some (.inl (st (j + 1)))) (done : B (st n) = some (.inr y)) : loopM B (st i) = some y := by
  obtain ⟨d, rfl⟩ : ∃ d, n = i + d := ⟨n - i, by omega⟩
  clear hi
  induction d generalizing i with
  | zero => exact loopM_out done
  | succ d ih =>
    rw [loopM_on (step i (Nat.le_refl _) (by omega))]
    have e : i + (d + 1) = i + 1 + d := by omega
    rw [e] at step done
    exact ih (i + 1) (fun j h1 h2 => step j (by omega) h2) done

theorem loopM_at {σ Y : Type} {B : σ → Option (σ ⊕ Y)} (st : Nat → σ) (n : Nat) {y : Y} {s0 : σ} (h0 : s0 = st 0) (step : ∀ j, j < n → B (st j) = some (.inl (st (j + 1)))) (done : B (st n) = some (.inr y)) : loopM B s0 = some y := by
  rw [h0]; exact loopM_for st n 0 (Nat.zero_le _) (fun j _ => step j) done

theorem inK_i64 {n : Int} : inK .i64 n = true ↔ -9223372036854775808 ≤ n ∧ n ≤ 9223372036854775807 := by
  have e1 : IntKind.i64.min = -9223372036854775808 := by decide
  have e2 : IntKind.i64.max = 9223372036854775807 := by decide
  simp only [inK, e1, e2, Bool.and_eq_true, decide_eq_true_eq]
theorem inB_i {k : Int} {n : Nat} : inB k n = true ↔ 0 ≤ k ∧ k < n := by simp only [inB, Bool.and_eq_true, decide_eq_true_eq]
theorem leB_i {k : Int} {n : Nat} : leB k n = true ↔ 0 ≤ k ∧ k ≤ n := by simp only [leB, Bool.and_eq_true, decide_eq_true_eq]
theorem ltB_iff {k n : Nat} : ltB k n = true ↔ k < n := by simp [ltB]
theorem leN_iff {k n : Nat} : leN k n = true ↔ k ≤ n := by simp [leN]
theorem ble_iff {k n : Nat} : Nat.ble k n = true ↔ k ≤ n := by rw [Nat.ble_eq]
theorem blt_iff {k n : Nat} : Nat.blt k n = true ↔ k < n := by rw [Nat.blt_eq]

/-- A sum from the first one on. -/
def sumF (f : Nat → Nat) : Nat → Nat
  | 0 => 0
  | n + 1 => fadd (sumF f n) (f n)
theorem sumF_congr {f g : Nat → Nat} : ∀ {n : Nat}, (∀ i, i < n → f i = g i) → sumF f n = sumF g n
  | 0, _ => rfl
  | n + 1, h => by simp only [sumF]; rw [sumF_congr fun i hi => h i (by omega), h n (by omega)]

/-- The first n places filled. -/
def setF {α : Type} (pos : Nat → Nat) (val : Nat → α) (l : List α) : Nat → List α
  | 0 => l
  | n + 1 => (setF pos val l n).set (pos n) (val n)
theorem setF_len {α : Type} {pos : Nat → Nat} {val : Nat → α} {l : List α} : ∀ {n : Nat}, (setF pos val l n).length = l.length
  | 0 => rfl
  | n + 1 => by simp only [setF, List.length_set]; exact setF_len
theorem setF_other {α : Type} {pos : Nat → Nat} {val : Nat → α} {l : List α} {p : Nat} {d : α} : ∀ {n : Nat}, (∀ i, i < n → pos i ≠ p) → (setF pos val l n).getD p d = l.getD p d
  | 0, _ => rfl
  | n + 1, h => by
    have h1 := h n (by omega)
    simp only [setF, List.getD_eq_getElem?_getD, List.getElem?_set, if_neg h1]
    have := setF_other (pos := pos) (val := val) (l := l) (p := p) (d := d) (n := n) (fun i hi => h i (by omega))
    simpa [List.getD_eq_getElem?_getD] using this
theorem setF_congr {α : Type} {pos pos' : Nat → Nat} {val val' : Nat → α} {l : List α} : ∀ {n : Nat}, (∀ i, i < n → pos i = pos' i) → (∀ i, i < n → val i = val' i) → setF pos val l n = setF pos' val' l n
  | 0, _, _ => rfl
  | n + 1, h, k => by simp only [setF]; rw [setF_congr (fun i hi => h i (by omega)) (fun i hi => k i (by omega)), h n (by omega), k n (by omega)]

/-- Something done n times. -/
def iterF {α : Type} (f : Nat → α → α) (a : α) : Nat → α
  | 0 => a
  | n + 1 => f n (iterF f a n)

theorem idx_lt {i k r c : Nat} (hi : i < r) (hk : k < c) : i * c + k < r * c := by
  have : (i + 1) * c ≤ r * c := Nat.mul_le_mul_right c hi
  rw [Nat.add_mul, Nat.one_mul] at this
  omega
theorem idx_inj {i k i' k' c : Nat} (hk : k < c) (hk' : k' < c) (h : i * c + k = i' * c + k') : i = i' ∧ k = k' := by
  have hc : 0 < c := by omega
  have e1 : (i * c + k) / c = i := by rw [Nat.mul_comm, Nat.mul_add_div hc, Nat.div_eq_of_lt hk, Nat.add_zero]
  have e2 : (i' * c + k') / c = i' := by rw [Nat.mul_comm, Nat.mul_add_div hc, Nat.div_eq_of_lt hk', Nat.add_zero]
  have e : i = i' := by rw [← e1, ← e2, h]
  subst e
  exact ⟨rfl, by omega⟩
theorem slOk_all {α : Type} (l : List α) : slOk 0 l.length l = true := by rw [slOk_iff]; omega
theorem leN_self (n : Nat) : leN n n = true := by rw [leN_iff]; exact Nat.le_refl n

/-- An entry of a matrix, by its numbers, is there. -/
structure Idx (e1 e2 e3 : Int) (L p : Nat) : Prop where
  a : inK .i64 e1 = true
  b : inK .i64 e2 = true
  c : inK .i64 e3 = true
  d : inB e3 L = true
  e : ltB (Int.toNat e3) L = true
  f : Int.toNat e3 = p
theorem idxOb {x c k L : Nat} (h : x * c + k < L) (hL : L ≤ 1000000000) (hx : x ≤ 1000000000) : Idx (x : Int) ((x : Int) * (c : Int)) ((x : Int) * (c : Int) + (k : Int)) L (x * c + k) := by
  have e : (x : Int) * (c : Int) = ((x * c : Nat) : Int) := by rw [Int.natCast_mul]
  rw [e]
  generalize x * c = q at h ⊢
  have e3 : ((q : Int) + (k : Int)).toNat = q + k := by omega
  refine ⟨?_, ?_, ?_, ?_, ?_, e3⟩
  · rw [inK_i64]; omega
  · rw [inK_i64]; omega
  · rw [inK_i64]; omega
  · rw [inB_i]; omega
  · rw [ltB_iff]; omega
theorem cutL_to {α : Type} {n : Nat} {l : List α} (h : l.length = n) : cutL 0 n l = l := by rw [← h]; exact cutL_all l
theorem cut_ok (n : Nat) : Nat.ble (0 + n) n = true := by rw [Nat.ble_eq]; omega
theorem first_bad {p : Nat → Prop} [DecidablePred p] : ∀ {n : Nat}, (¬ ∀ i, i < n → p i) → ∃ k, k < n ∧ ¬ p k ∧ ∀ j, j < k → p j
  | 0, h => (h fun i hi => absurd hi (Nat.not_lt_zero _)).elim
  | n + 1, h => by
    by_cases q : ∀ i, i < n → p i
    · refine ⟨n, Nat.lt_succ_self _, fun r => h fun i hi => ?_, q⟩
      rcases Nat.lt_succ_iff_lt_or_eq.1 hi with a | rfl
      · exact q i a
      · exact r
    · obtain ⟨k, h1, h2, h3⟩ := first_bad q
      exact ⟨k, by omega, h2, h3⟩
theorem setF_at {α : Type} {val : Nat → α} {l : List α} {d : α} {i : Nat} : ∀ {n : Nat}, i < n → n ≤ l.length → (setF (fun i => i) val l n).getD i d = val i
  | 0, h, _ => absurd h (Nat.not_lt_zero _)
  | n + 1, h, hl => by
    simp only [setF, List.getD_eq_getElem?_getD, List.getElem?_set, setF_len]
    by_cases e : n = i
    · subst e; rw [if_pos rfl, if_pos (by omega)]; rfl
    · rw [if_neg e]
      have := setF_at (val := val) (l := l) (d := d) (i := i) (n := n) (by omega) (by omega)
      simpa [List.getD_eq_getElem?_getD] using this
theorem cutL_len_all {α : Type} (l : List α) : (cutL 0 l.length l).length = l.length := by rw [cutL_all]
theorem toNat_cast (n : Nat) : Int.toNat (n : Int) = n := rfl
end Go.Plb

/-
  PLAIN: layer 9's parts.
-/
namespace Go.Plb.Seat
open Go Go.Plb
set_option linter.unusedSimpArgs false
set_option linter.unusedVariables false

theorem addc (a b : Nat) : (a : Int) + (b : Int) = ((a + b : Nat) : Int) := rfl

theorem sum1_spec {c at_ k n : Nat} {vs xs : List Nat} (hn : n ≤ vs.length) (hi : ∀ i, i < n → (at_ + i) * c + k < xs.length) (hL : xs.length ≤ 1000000000) (hx : at_ + n ≤ 1000000000) :
    reflect_sum_of_reflect_Left_1_F (n : Int) vs (c : Int) xs (at_ : Int) (k : Int) = some (.r0 (sumF (fun i => fmul (vs.getD i 0) (xs.getD ((at_ + i) * c + k) 0)) n)) := by
  refine toX_of (seqM_in rfl (seqM_in (loopM_at (fun j => (sumF (fun i => fmul (vs.getD i 0) (xs.getD ((at_ + i) * c + k) 0)) j, j)) n rfl (fun j hj => ?_) ?_) rfl))
  · have h := idxOb (x := at_ + j) (hi j hj) hL (by omega)
    show (reflect_sum_of_reflect_Left_1_t9 _ _ _ _ _ _ _ _).run = _
    unfold reflect_sum_of_reflect_Left_1_t9
    rw [addc]
    refine T.at (by simp only [inK_i64, inB_i, leB_i, ltB_iff, leN_iff, slOk_iff, ble_iff, blt_iff, decide_eq_true_eq, decide_eq_false_iff_not, beq_iff_eq, beq_eq_false_iff_ne, bne_iff_ne, bne_eq_false_iff_eq, Bool.not_eq_true', Bool.not_eq_false', List.length_set, ne_eq, ge_iff_le, gt_iff_lt, setF_len, toNat_cast, lenOk]; omega) (T.nd (by simp only [inK_i64, inB_i, leB_i, ltB_iff, leN_iff, slOk_iff, ble_iff, blt_iff, decide_eq_true_eq, decide_eq_false_iff_not, beq_iff_eq, beq_eq_false_iff_ne, bne_iff_ne, bne_eq_false_iff_eq, Bool.not_eq_true', Bool.not_eq_false', List.length_set, ne_eq, ge_iff_le, gt_iff_lt, setF_len, toNat_cast, lenOk]; omega) (T.nd (by simp only [inK_i64, inB_i, leB_i, ltB_iff, leN_iff, slOk_iff, ble_iff, blt_iff, decide_eq_true_eq, decide_eq_false_iff_not, beq_iff_eq, beq_eq_false_iff_ne, bne_iff_ne, bne_eq_false_iff_eq, Bool.not_eq_true', Bool.not_eq_false', List.length_set, ne_eq, ge_iff_le, gt_iff_lt, setF_len, toNat_cast, lenOk]; omega) (T.nd h.a (T.nd h.b (T.nd h.c (T.nd h.d (T.nd h.e (T.nd (by simp only [inK_i64, inB_i, leB_i, ltB_iff, leN_iff, slOk_iff, ble_iff, blt_iff, decide_eq_true_eq, decide_eq_false_iff_not, beq_iff_eq, beq_eq_false_iff_ne, bne_iff_ne, bne_eq_false_iff_eq, Bool.not_eq_true', Bool.not_eq_false', List.length_set, ne_eq, ge_iff_le, gt_iff_lt, setF_len, toNat_cast, lenOk]; omega) ?_))))))))
    rw [h.f]; rfl
  · exact T.af (by simp only [inK_i64, inB_i, leB_i, ltB_iff, leN_iff, slOk_iff, ble_iff, blt_iff, decide_eq_true_eq, decide_eq_false_iff_not, beq_iff_eq, beq_eq_false_iff_ne, bne_iff_ne, bne_eq_false_iff_eq, Bool.not_eq_true', Bool.not_eq_false', List.length_set, ne_eq, ge_iff_le, gt_iff_lt, setF_len, toNat_cast, lenOk]; omega) rfl

/-- May it be a matrix? -/
def mayB (a b : Int) (n : Nat) : Bool := decide (0 ≤ a) && (decide (a ≤ 512) && (decide (0 ≤ b) && (decide (b ≤ 512) && ((n : Int) == a * b))))
theorem mul_bd {a b : Int} (h1 : 0 ≤ a) (h2 : a ≤ 512) (h3 : 0 ≤ b) (h4 : b ≤ 512) : 0 ≤ a * b ∧ a * b ≤ 262144 :=
  ⟨Int.mul_nonneg h1 h3, Int.le_trans (Int.mul_le_mul h2 h4 h3 (by omega)) (by omega)⟩
theorem may_spec (a b : Int) (xs : List Nat) : reflect_may_F a b xs = some (.r0 (mayB a b xs.length)) := by
  refine toX_of (seqM_in (a := mayB a b xs.length) ?_ rfl)
  unfold reflect_may_t3 mayB
  by_cases h1 : 0 ≤ a
  · by_cases h2 : a ≤ 512
    · by_cases h3 : 0 ≤ b
      · by_cases h4 : b ≤ 512
        · have := mul_bd h1 h2 h3 h4
          refine T.at (by simp only [inK_i64, inB_i, leB_i, ltB_iff, leN_iff, slOk_iff, ble_iff, blt_iff, decide_eq_true_eq, decide_eq_false_iff_not, beq_iff_eq, beq_eq_false_iff_ne, bne_iff_ne, bne_eq_false_iff_eq, Bool.not_eq_true', Bool.not_eq_false', List.length_set, ne_eq, ge_iff_le, gt_iff_lt, setF_len, toNat_cast, lenOk]; omega) (T.at (by simp only [inK_i64, inB_i, leB_i, ltB_iff, leN_iff, slOk_iff, ble_iff, blt_iff, decide_eq_true_eq, decide_eq_false_iff_not, beq_iff_eq, beq_eq_false_iff_ne, bne_iff_ne, bne_eq_false_iff_eq, Bool.not_eq_true', Bool.not_eq_false', List.length_set, ne_eq, ge_iff_le, gt_iff_lt, setF_len, toNat_cast, lenOk]; omega) (T.at (by simp only [inK_i64, inB_i, leB_i, ltB_iff, leN_iff, slOk_iff, ble_iff, blt_iff, decide_eq_true_eq, decide_eq_false_iff_not, beq_iff_eq, beq_eq_false_iff_ne, bne_iff_ne, bne_eq_false_iff_eq, Bool.not_eq_true', Bool.not_eq_false', List.length_set, ne_eq, ge_iff_le, gt_iff_lt, setF_len, toNat_cast, lenOk]; omega) (T.at (by simp only [inK_i64, inB_i, leB_i, ltB_iff, leN_iff, slOk_iff, ble_iff, blt_iff, decide_eq_true_eq, decide_eq_false_iff_not, beq_iff_eq, beq_eq_false_iff_ne, bne_iff_ne, bne_eq_false_iff_eq, Bool.not_eq_true', Bool.not_eq_false', List.length_set, ne_eq, ge_iff_le, gt_iff_lt, setF_len, toNat_cast, lenOk]; omega) (T.nd (by rw [inK_i64]; omega) ?_))))
          simp only [h1, h2, h3, h4, decide_true, Bool.true_and]; rfl
        · refine T.at (by simp only [inK_i64, inB_i, leB_i, ltB_iff, leN_iff, slOk_iff, ble_iff, blt_iff, decide_eq_true_eq, decide_eq_false_iff_not, beq_iff_eq, beq_eq_false_iff_ne, bne_iff_ne, bne_eq_false_iff_eq, Bool.not_eq_true', Bool.not_eq_false', List.length_set, ne_eq, ge_iff_le, gt_iff_lt, setF_len, toNat_cast, lenOk]; omega) (T.at (by simp only [inK_i64, inB_i, leB_i, ltB_iff, leN_iff, slOk_iff, ble_iff, blt_iff, decide_eq_true_eq, decide_eq_false_iff_not, beq_iff_eq, beq_eq_false_iff_ne, bne_iff_ne, bne_eq_false_iff_eq, Bool.not_eq_true', Bool.not_eq_false', List.length_set, ne_eq, ge_iff_le, gt_iff_lt, setF_len, toNat_cast, lenOk]; omega) (T.at (by simp only [inK_i64, inB_i, leB_i, ltB_iff, leN_iff, slOk_iff, ble_iff, blt_iff, decide_eq_true_eq, decide_eq_false_iff_not, beq_iff_eq, beq_eq_false_iff_ne, bne_iff_ne, bne_eq_false_iff_eq, Bool.not_eq_true', Bool.not_eq_false', List.length_set, ne_eq, ge_iff_le, gt_iff_lt, setF_len, toNat_cast, lenOk]; omega) (T.af (by simp only [inK_i64, inB_i, leB_i, ltB_iff, leN_iff, slOk_iff, ble_iff, blt_iff, decide_eq_true_eq, decide_eq_false_iff_not, beq_iff_eq, beq_eq_false_iff_ne, bne_iff_ne, bne_eq_false_iff_eq, Bool.not_eq_true', Bool.not_eq_false', List.length_set, ne_eq, ge_iff_le, gt_iff_lt, setF_len, toNat_cast, lenOk]; omega) ?_)))
          simp only [h1, h2, h3, h4, decide_true, decide_false, Bool.true_and, Bool.false_and]; rfl
      · refine T.at (by simp only [inK_i64, inB_i, leB_i, ltB_iff, leN_iff, slOk_iff, ble_iff, blt_iff, decide_eq_true_eq, decide_eq_false_iff_not, beq_iff_eq, beq_eq_false_iff_ne, bne_iff_ne, bne_eq_false_iff_eq, Bool.not_eq_true', Bool.not_eq_false', List.length_set, ne_eq, ge_iff_le, gt_iff_lt, setF_len, toNat_cast, lenOk]; omega) (T.at (by simp only [inK_i64, inB_i, leB_i, ltB_iff, leN_iff, slOk_iff, ble_iff, blt_iff, decide_eq_true_eq, decide_eq_false_iff_not, beq_iff_eq, beq_eq_false_iff_ne, bne_iff_ne, bne_eq_false_iff_eq, Bool.not_eq_true', Bool.not_eq_false', List.length_set, ne_eq, ge_iff_le, gt_iff_lt, setF_len, toNat_cast, lenOk]; omega) (T.af (by simp only [inK_i64, inB_i, leB_i, ltB_iff, leN_iff, slOk_iff, ble_iff, blt_iff, decide_eq_true_eq, decide_eq_false_iff_not, beq_iff_eq, beq_eq_false_iff_ne, bne_iff_ne, bne_eq_false_iff_eq, Bool.not_eq_true', Bool.not_eq_false', List.length_set, ne_eq, ge_iff_le, gt_iff_lt, setF_len, toNat_cast, lenOk]; omega) ?_))
        simp only [h1, h2, h3, decide_true, decide_false, Bool.true_and, Bool.false_and]; rfl
    · refine T.at (by simp only [inK_i64, inB_i, leB_i, ltB_iff, leN_iff, slOk_iff, ble_iff, blt_iff, decide_eq_true_eq, decide_eq_false_iff_not, beq_iff_eq, beq_eq_false_iff_ne, bne_iff_ne, bne_eq_false_iff_eq, Bool.not_eq_true', Bool.not_eq_false', List.length_set, ne_eq, ge_iff_le, gt_iff_lt, setF_len, toNat_cast, lenOk]; omega) (T.af (by simp only [inK_i64, inB_i, leB_i, ltB_iff, leN_iff, slOk_iff, ble_iff, blt_iff, decide_eq_true_eq, decide_eq_false_iff_not, beq_iff_eq, beq_eq_false_iff_ne, bne_iff_ne, bne_eq_false_iff_eq, Bool.not_eq_true', Bool.not_eq_false', List.length_set, ne_eq, ge_iff_le, gt_iff_lt, setF_len, toNat_cast, lenOk]; omega) ?_)
      simp only [h1, h2, decide_true, decide_false, Bool.true_and, Bool.false_and]; rfl
  · refine T.af (by simp only [inK_i64, inB_i, leB_i, ltB_iff, leN_iff, slOk_iff, ble_iff, blt_iff, decide_eq_true_eq, decide_eq_false_iff_not, beq_iff_eq, beq_eq_false_iff_ne, bne_iff_ne, bne_eq_false_iff_eq, Bool.not_eq_true', Bool.not_eq_false', List.length_set, ne_eq, ge_iff_le, gt_iff_lt, setF_len, toNat_cast, lenOk]; omega) ?_
    simp only [h1, decide_true, decide_false, Bool.true_and, Bool.false_and]; rfl
theorem May_spec (a b : Int) (xs : List Nat) : ref09_May_F a b xs = some (.r0 (mayB a b xs.length)) := by
  refine toX_of (seqM_in (a := mayB a b xs.length) ?_ rfl)
  unfold ref09_May_t3 mayB
  by_cases h1 : 0 ≤ a
  · by_cases h2 : a ≤ 512
    · by_cases h3 : 0 ≤ b
      · by_cases h4 : b ≤ 512
        · have := mul_bd h1 h2 h3 h4
          refine T.at (by simp only [inK_i64, inB_i, leB_i, ltB_iff, leN_iff, slOk_iff, ble_iff, blt_iff, decide_eq_true_eq, decide_eq_false_iff_not, beq_iff_eq, beq_eq_false_iff_ne, bne_iff_ne, bne_eq_false_iff_eq, Bool.not_eq_true', Bool.not_eq_false', List.length_set, ne_eq, ge_iff_le, gt_iff_lt, setF_len, toNat_cast, lenOk]; omega) (T.at (by simp only [inK_i64, inB_i, leB_i, ltB_iff, leN_iff, slOk_iff, ble_iff, blt_iff, decide_eq_true_eq, decide_eq_false_iff_not, beq_iff_eq, beq_eq_false_iff_ne, bne_iff_ne, bne_eq_false_iff_eq, Bool.not_eq_true', Bool.not_eq_false', List.length_set, ne_eq, ge_iff_le, gt_iff_lt, setF_len, toNat_cast, lenOk]; omega) (T.at (by simp only [inK_i64, inB_i, leB_i, ltB_iff, leN_iff, slOk_iff, ble_iff, blt_iff, decide_eq_true_eq, decide_eq_false_iff_not, beq_iff_eq, beq_eq_false_iff_ne, bne_iff_ne, bne_eq_false_iff_eq, Bool.not_eq_true', Bool.not_eq_false', List.length_set, ne_eq, ge_iff_le, gt_iff_lt, setF_len, toNat_cast, lenOk]; omega) (T.at (by simp only [inK_i64, inB_i, leB_i, ltB_iff, leN_iff, slOk_iff, ble_iff, blt_iff, decide_eq_true_eq, decide_eq_false_iff_not, beq_iff_eq, beq_eq_false_iff_ne, bne_iff_ne, bne_eq_false_iff_eq, Bool.not_eq_true', Bool.not_eq_false', List.length_set, ne_eq, ge_iff_le, gt_iff_lt, setF_len, toNat_cast, lenOk]; omega) (T.nd (by rw [inK_i64]; omega) ?_))))
          simp only [h1, h2, h3, h4, decide_true, Bool.true_and]; rfl
        · refine T.at (by simp only [inK_i64, inB_i, leB_i, ltB_iff, leN_iff, slOk_iff, ble_iff, blt_iff, decide_eq_true_eq, decide_eq_false_iff_not, beq_iff_eq, beq_eq_false_iff_ne, bne_iff_ne, bne_eq_false_iff_eq, Bool.not_eq_true', Bool.not_eq_false', List.length_set, ne_eq, ge_iff_le, gt_iff_lt, setF_len, toNat_cast, lenOk]; omega) (T.at (by simp only [inK_i64, inB_i, leB_i, ltB_iff, leN_iff, slOk_iff, ble_iff, blt_iff, decide_eq_true_eq, decide_eq_false_iff_not, beq_iff_eq, beq_eq_false_iff_ne, bne_iff_ne, bne_eq_false_iff_eq, Bool.not_eq_true', Bool.not_eq_false', List.length_set, ne_eq, ge_iff_le, gt_iff_lt, setF_len, toNat_cast, lenOk]; omega) (T.at (by simp only [inK_i64, inB_i, leB_i, ltB_iff, leN_iff, slOk_iff, ble_iff, blt_iff, decide_eq_true_eq, decide_eq_false_iff_not, beq_iff_eq, beq_eq_false_iff_ne, bne_iff_ne, bne_eq_false_iff_eq, Bool.not_eq_true', Bool.not_eq_false', List.length_set, ne_eq, ge_iff_le, gt_iff_lt, setF_len, toNat_cast, lenOk]; omega) (T.af (by simp only [inK_i64, inB_i, leB_i, ltB_iff, leN_iff, slOk_iff, ble_iff, blt_iff, decide_eq_true_eq, decide_eq_false_iff_not, beq_iff_eq, beq_eq_false_iff_ne, bne_iff_ne, bne_eq_false_iff_eq, Bool.not_eq_true', Bool.not_eq_false', List.length_set, ne_eq, ge_iff_le, gt_iff_lt, setF_len, toNat_cast, lenOk]; omega) ?_)))
          simp only [h1, h2, h3, h4, decide_true, decide_false, Bool.true_and, Bool.false_and]; rfl
      · refine T.at (by simp only [inK_i64, inB_i, leB_i, ltB_iff, leN_iff, slOk_iff, ble_iff, blt_iff, decide_eq_true_eq, decide_eq_false_iff_not, beq_iff_eq, beq_eq_false_iff_ne, bne_iff_ne, bne_eq_false_iff_eq, Bool.not_eq_true', Bool.not_eq_false', List.length_set, ne_eq, ge_iff_le, gt_iff_lt, setF_len, toNat_cast, lenOk]; omega) (T.at (by simp only [inK_i64, inB_i, leB_i, ltB_iff, leN_iff, slOk_iff, ble_iff, blt_iff, decide_eq_true_eq, decide_eq_false_iff_not, beq_iff_eq, beq_eq_false_iff_ne, bne_iff_ne, bne_eq_false_iff_eq, Bool.not_eq_true', Bool.not_eq_false', List.length_set, ne_eq, ge_iff_le, gt_iff_lt, setF_len, toNat_cast, lenOk]; omega) (T.af (by simp only [inK_i64, inB_i, leB_i, ltB_iff, leN_iff, slOk_iff, ble_iff, blt_iff, decide_eq_true_eq, decide_eq_false_iff_not, beq_iff_eq, beq_eq_false_iff_ne, bne_iff_ne, bne_eq_false_iff_eq, Bool.not_eq_true', Bool.not_eq_false', List.length_set, ne_eq, ge_iff_le, gt_iff_lt, setF_len, toNat_cast, lenOk]; omega) ?_))
        simp only [h1, h2, h3, decide_true, decide_false, Bool.true_and, Bool.false_and]; rfl
    · refine T.at (by simp only [inK_i64, inB_i, leB_i, ltB_iff, leN_iff, slOk_iff, ble_iff, blt_iff, decide_eq_true_eq, decide_eq_false_iff_not, beq_iff_eq, beq_eq_false_iff_ne, bne_iff_ne, bne_eq_false_iff_eq, Bool.not_eq_true', Bool.not_eq_false', List.length_set, ne_eq, ge_iff_le, gt_iff_lt, setF_len, toNat_cast, lenOk]; omega) (T.af (by simp only [inK_i64, inB_i, leB_i, ltB_iff, leN_iff, slOk_iff, ble_iff, blt_iff, decide_eq_true_eq, decide_eq_false_iff_not, beq_iff_eq, beq_eq_false_iff_ne, bne_iff_ne, bne_eq_false_iff_eq, Bool.not_eq_true', Bool.not_eq_false', List.length_set, ne_eq, ge_iff_le, gt_iff_lt, setF_len, toNat_cast, lenOk]; omega) ?_)
      simp only [h1, h2, decide_true, decide_false, Bool.true_and, Bool.false_and]; rfl
  · refine T.af (by simp only [inK_i64, inB_i, leB_i, ltB_iff, leN_iff, slOk_iff, ble_iff, blt_iff, decide_eq_true_eq, decide_eq_false_iff_not, beq_iff_eq, beq_eq_false_iff_ne, bne_iff_ne, bne_eq_false_iff_eq, Bool.not_eq_true', Bool.not_eq_false', List.length_set, ne_eq, ge_iff_le, gt_iff_lt, setF_len, toNat_cast, lenOk]; omega) ?_
    simp only [h1, decide_true, decide_false, Bool.true_and, Bool.false_and]; rfl

theorem SameAll_spec {xs : List Nat} (h : xs.length ≤ 1000000000) : ref06_SameAll_F xs xs = some (.r0 true) := by
  refine toX_of (seqM_in (T.af (by simp) rfl) (seqM_in (a := ()) (loopM_at (fun j => j) xs.length rfl (fun j hj => ?_) ?_) rfl))
  · show (ref06_SameAll_t9 _ _ _).run = _
    exact T.at (by simp only [inK_i64, inB_i, leB_i, ltB_iff, leN_iff, slOk_iff, ble_iff, blt_iff, decide_eq_true_eq, decide_eq_false_iff_not, beq_iff_eq, beq_eq_false_iff_ne, bne_iff_ne, bne_eq_false_iff_eq, Bool.not_eq_true', Bool.not_eq_false', List.length_set, ne_eq, ge_iff_le, gt_iff_lt, setF_len, toNat_cast, lenOk]; omega) (T.nd (by simp only [inK_i64, inB_i, leB_i, ltB_iff, leN_iff, slOk_iff, ble_iff, blt_iff, decide_eq_true_eq, decide_eq_false_iff_not, beq_iff_eq, beq_eq_false_iff_ne, bne_iff_ne, bne_eq_false_iff_eq, Bool.not_eq_true', Bool.not_eq_false', List.length_set, ne_eq, ge_iff_le, gt_iff_lt, setF_len, toNat_cast, lenOk]; omega) (T.nd (by simp only [inK_i64, inB_i, leB_i, ltB_iff, leN_iff, slOk_iff, ble_iff, blt_iff, decide_eq_true_eq, decide_eq_false_iff_not, beq_iff_eq, beq_eq_false_iff_ne, bne_iff_ne, bne_eq_false_iff_eq, Bool.not_eq_true', Bool.not_eq_false', List.length_set, ne_eq, ge_iff_le, gt_iff_lt, setF_len, toNat_cast, lenOk]; omega) (T.nd (by simp only [inK_i64, inB_i, leB_i, ltB_iff, leN_iff, slOk_iff, ble_iff, blt_iff, decide_eq_true_eq, decide_eq_false_iff_not, beq_iff_eq, beq_eq_false_iff_ne, bne_iff_ne, bne_eq_false_iff_eq, Bool.not_eq_true', Bool.not_eq_false', List.length_set, ne_eq, ge_iff_le, gt_iff_lt, setF_len, toNat_cast, lenOk]; omega) (T.nd (by simp only [inK_i64, inB_i, leB_i, ltB_iff, leN_iff, slOk_iff, ble_iff, blt_iff, decide_eq_true_eq, decide_eq_false_iff_not, beq_iff_eq, beq_eq_false_iff_ne, bne_iff_ne, bne_eq_false_iff_eq, Bool.not_eq_true', Bool.not_eq_false', List.length_set, ne_eq, ge_iff_le, gt_iff_lt, setF_len, toNat_cast, lenOk]; omega) (T.af (by rw [sameB_refl]; rfl) (T.nd (by simp only [inK_i64, inB_i, leB_i, ltB_iff, leN_iff, slOk_iff, ble_iff, blt_iff, decide_eq_true_eq, decide_eq_false_iff_not, beq_iff_eq, beq_eq_false_iff_ne, bne_iff_ne, bne_eq_false_iff_eq, Bool.not_eq_true', Bool.not_eq_false', List.length_set, ne_eq, ge_iff_le, gt_iff_lt, setF_len, toNat_cast, lenOk]; omega) rfl))))))
  · exact T.af (by simp only [inK_i64, inB_i, leB_i, ltB_iff, leN_iff, slOk_iff, ble_iff, blt_iff, decide_eq_true_eq, decide_eq_false_iff_not, beq_iff_eq, beq_eq_false_iff_ne, bne_iff_ne, bne_eq_false_iff_eq, Bool.not_eq_true', Bool.not_eq_false', List.length_set, ne_eq, ge_iff_le, gt_iff_lt, setF_len, toNat_cast, lenOk]; omega) rfl
theorem Same_spec {a b : Int} {xs : List Nat} (h : xs.length ≤ 1000000000) : ref09_Same_F a b xs a b xs = some (.r0 true) := by
  refine toX_of (seqM_in (a := true) ?_ rfl)
  unfold ref09_Same_t3
  rw [cutL_all, SameAll_spec h]
  exact T.at (by simp) (T.at (by simp) (T.nd (slOk_all xs) (T.nd (slOk_all xs) (T.nd rfl rfl))))
end Go.Plb.Seat

/-
  PLAIN: rows and columns reflected: the program's way and the document's come to the same.
-/
namespace Go.Plb.Seat
open Go Go.Plb
set_option linter.unusedSimpArgs false
set_option linter.unusedVariables false

/-- Rows reflected, plainly. P: where the entry stands; A: what the sum is of; V: what is taken away of w. -/
def rflW (xs : List Nat) (tau m : Nat) (A : Nat → Nat → Nat) (k : Nat) : Nat := fmul tau (sumF (A k) m)
def rflIn (xs : List Nat) (P : Nat → Nat → Nat) (V : Nat → Nat → Nat) (w k : Nat) (out : List Nat) (n : Nat) : List Nat :=
  setF (P k) (fun i => fsub (xs.getD (P k i) 0) (V i w)) out n
def rflGo (xs : List Nat) (P : Nat → Nat → Nat) (A : Nat → Nat → Nat) (V : Nat → Nat → Nat) (tau m frm : Nat) (n : Nat) : List Nat :=
  iterF (fun j out => rflIn xs P V (rflW xs tau m A (frm + j)) (frm + j) out m) xs n
def rflF (xs : List Nat) (P : Nat → Nat → Nat) (A : Nat → Nat → Nat) (V : Nat → Nat → Nat) (tau m frm n : Nat) : List Nat :=
  bif feq tau 0 then xs else rflGo xs P A V tau m frm n

theorem rflGo_len {xs : List Nat} {P A V : Nat → Nat → Nat} {tau m frm : Nat} : ∀ {n : Nat}, (rflGo xs P A V tau m frm n).length = xs.length
  | 0 => rfl
  | n + 1 => by simp only [rflGo, iterF, rflIn, setF_len]; exact rflGo_len (n := n)
theorem rflF_len {xs : List Nat} {P A V : Nat → Nat → Nat} {tau m frm n : Nat} : (rflF xs P A V tau m frm n).length = xs.length := by
  unfold rflF; cases feq tau 0 <;> simp only [cond_true, cond_false]; exact rflGo_len
theorem rflGo_other {xs : List Nat} {P A V : Nat → Nat → Nat} {tau m frm : Nat} {p : Nat} : ∀ {n : Nat}, (∀ j i, j < n → i < m → P (frm + j) i ≠ p) → (rflGo xs P A V tau m frm n).getD p 0 = xs.getD p 0
  | 0, _ => rfl
  | n + 1, h => by
    simp only [rflGo, iterF, rflIn]
    rw [setF_other fun i hi => h n i (by omega) hi]
    exact rflGo_other (n := n) fun j i hj hi => h j i (by omega) hi

def leP (c at_ : Nat) (k i : Nat) : Nat := (at_ + i) * c + k
def leA (xs vs : List Nat) (c at_ : Nat) (k i : Nat) : Nat := fmul (vs.getD i 0) (xs.getD ((at_ + i) * c + k) 0)
def leV (vs : List Nat) (i w : Nat) : Nat := fmul (vs.getD i 0) w
def leftF (xs vs : List Nat) (c at_ frm tau : Nat) : List Nat := rflF xs (leP c at_) (leA xs vs c at_) (leV vs) tau vs.length frm (c - frm)

theorem Left_in {xs vs out : List Nat} {r c at_ k w n : Nat} (hx : xs.length = r * c) (hk : k < c) (hat : at_ + vs.length ≤ r) (hr : r ≤ 512) (hc : c ≤ 512) (ho : out.length = xs.length) (hn : n = xs.length)
    (hsame : ∀ i, i < vs.length → out.getD (leP c at_ k i) 0 = xs.getD (leP c at_ k i) 0) :
    loopM (reflect_Left_m37 (c : Int) (at_ : Int) vs n (k : Int) w) (0, out) = some (.inl (rflIn xs (leP c at_) (leV vs) w k out vs.length)) := by
  have hL : r * c ≤ 262144 := Nat.mul_le_mul hr hc
  refine loopM_at (fun j => (j, rflIn xs (leP c at_) (leV vs) w k out j)) vs.length rfl (fun j hj => ?_) ?_
  · have hi : (at_ + j) * c + k < xs.length := by rw [hx]; exact idx_lt (by omega) hk
    have h := idxOb (x := at_ + j) hi (by omega) (by omega)
    have hl : (rflIn xs (leP c at_) (leV vs) w k out j).length = xs.length := by unfold rflIn; rw [setF_len, ho]
    show (reflect_Left_t36 _ _ _ _ _ _ _ _).run = _
    unfold reflect_Left_t36
    rw [addc, hl, hn]
    refine T.at (by simp only [inK_i64, inB_i, leB_i, ltB_iff, leN_iff, slOk_iff, ble_iff, blt_iff, decide_eq_true_eq, decide_eq_false_iff_not, beq_iff_eq, beq_eq_false_iff_ne, bne_iff_ne, bne_eq_false_iff_eq, Bool.not_eq_true', Bool.not_eq_false', List.length_set, ne_eq, ge_iff_le, gt_iff_lt, setF_len, toNat_cast, lenOk]; omega) (T.nd (by simp only [inK_i64, inB_i, leB_i, ltB_iff, leN_iff, slOk_iff, ble_iff, blt_iff, decide_eq_true_eq, decide_eq_false_iff_not, beq_iff_eq, beq_eq_false_iff_ne, bne_iff_ne, bne_eq_false_iff_eq, Bool.not_eq_true', Bool.not_eq_false', List.length_set, ne_eq, ge_iff_le, gt_iff_lt, setF_len, toNat_cast, lenOk]; omega) (T.nd (by simp only [inK_i64, inB_i, leB_i, ltB_iff, leN_iff, slOk_iff, ble_iff, blt_iff, decide_eq_true_eq, decide_eq_false_iff_not, beq_iff_eq, beq_eq_false_iff_ne, bne_iff_ne, bne_eq_false_iff_eq, Bool.not_eq_true', Bool.not_eq_false', List.length_set, ne_eq, ge_iff_le, gt_iff_lt, setF_len, toNat_cast, lenOk]; omega) (T.nd h.a (T.nd h.b (T.nd h.c (T.nd h.d (T.nd h.e (T.nd h.d (T.nd h.e (T.nd (by simp only [inK_i64, inB_i, leB_i, ltB_iff, leN_iff, slOk_iff, ble_iff, blt_iff, decide_eq_true_eq, decide_eq_false_iff_not, beq_iff_eq, beq_eq_false_iff_ne, bne_iff_ne, bne_eq_false_iff_eq, Bool.not_eq_true', Bool.not_eq_false', List.length_set, ne_eq, ge_iff_le, gt_iff_lt, setF_len, toNat_cast, lenOk]; omega) ?_))))))))))
    rw [h.f]
    have e : (rflIn xs (leP c at_) (leV vs) w k out j).getD ((at_ + j) * c + k) 0 = xs.getD ((at_ + j) * c + k) 0 := by
      unfold rflIn
      rw [setF_other (fun i hi => ?_)]
      · exact hsame j hj
      · intro q
        have := (idx_inj hk hk q).1
        omega
    rw [e]; rfl
  · exact T.af (by simp only [inK_i64, inB_i, leB_i, ltB_iff, leN_iff, slOk_iff, ble_iff, blt_iff, decide_eq_true_eq, decide_eq_false_iff_not, beq_iff_eq, beq_eq_false_iff_ne, bne_iff_ne, bne_eq_false_iff_eq, Bool.not_eq_true', Bool.not_eq_false', List.length_set, ne_eq, ge_iff_le, gt_iff_lt, setF_len, toNat_cast, lenOk]; omega) rfl

theorem Left_spec {xs vs : List Nat} {r c at_ frm tau : Nat} (hx : xs.length = r * c) (hr : r ≤ 512) (hc : c ≤ 512) (hv : 0 < vs.length) (hat : at_ + vs.length ≤ r) (hf : frm ≤ c) :
    reflect_Left_F (r : Int) (c : Int) xs (at_ : Int) (frm : Int) vs tau = some (.r1 r c xs.length (leftF xs vs c at_ frm tau)) := by
  have hL : r * c ≤ 262144 := Nat.mul_le_mul hr hc
  have hm : mayB (r : Int) (c : Int) xs.length = true := by
    unfold mayB
    have : (xs.length : Int) = (r : Int) * (c : Int) := by rw [hx, Int.natCast_mul]
    simp only [Bool.and_eq_true, decide_eq_true_eq, beq_iff_eq]; omega
  refine toX_of (seqM_in (a := false) ?_ (seqM_in (a := false) ?_ ?_))
  · unfold reflect_Left_t27
    rw [cutL_all, may_spec, hm]
    exact T.nd (slOk_all xs) (T.nd rfl (T.af rfl (T.af (by simp only [inK_i64, inB_i, leB_i, ltB_iff, leN_iff, slOk_iff, ble_iff, blt_iff, decide_eq_true_eq, decide_eq_false_iff_not, beq_iff_eq, beq_eq_false_iff_ne, bne_iff_ne, bne_eq_false_iff_eq, Bool.not_eq_true', Bool.not_eq_false', List.length_set, ne_eq, ge_iff_le, gt_iff_lt, setF_len, toNat_cast, lenOk]; omega) (T.af (by simp only [inK_i64, inB_i, leB_i, ltB_iff, leN_iff, slOk_iff, ble_iff, blt_iff, decide_eq_true_eq, decide_eq_false_iff_not, beq_iff_eq, beq_eq_false_iff_ne, bne_iff_ne, bne_eq_false_iff_eq, Bool.not_eq_true', Bool.not_eq_false', List.length_set, ne_eq, ge_iff_le, gt_iff_lt, setF_len, toNat_cast, lenOk]; omega) (by rw [decide_eq_false (by omega)]; rfl)))))
  · unfold reflect_Left_t28
    exact T.af rfl (T.nd (by simp only [inK_i64, inB_i, leB_i, ltB_iff, leN_iff, slOk_iff, ble_iff, blt_iff, decide_eq_true_eq, decide_eq_false_iff_not, beq_iff_eq, beq_eq_false_iff_ne, bne_iff_ne, bne_eq_false_iff_eq, Bool.not_eq_true', Bool.not_eq_false', List.length_set, ne_eq, ge_iff_le, gt_iff_lt, setF_len, toNat_cast, lenOk]; omega) (T.af (by simp only [inK_i64, inB_i, leB_i, ltB_iff, leN_iff, slOk_iff, ble_iff, blt_iff, decide_eq_true_eq, decide_eq_false_iff_not, beq_iff_eq, beq_eq_false_iff_ne, bne_iff_ne, bne_eq_false_iff_eq, Bool.not_eq_true', Bool.not_eq_false', List.length_set, ne_eq, ge_iff_le, gt_iff_lt, setF_len, toNat_cast, lenOk]; omega) (by rw [decide_eq_false (by omega)]; rfl)))
  · unfold leftF rflF
    cases ht : feq tau 0 with
    | true =>
      refine seqM_out ?_
      unfold reflect_Left_t29
      rw [cutL_all]
      exact T.af rfl (T.nd (slOk_all xs) (T.nd (by simp only [inK_i64, inB_i, leB_i, ltB_iff, leN_iff, slOk_iff, ble_iff, blt_iff, decide_eq_true_eq, decide_eq_false_iff_not, beq_iff_eq, beq_eq_false_iff_ne, bne_iff_ne, bne_eq_false_iff_eq, Bool.not_eq_true', Bool.not_eq_false', List.length_set, ne_eq, ge_iff_le, gt_iff_lt, setF_len, toNat_cast, lenOk]; omega) (T.at ht rfl)))
    | false =>
      refine seqM_in (a := (xs.length, xs)) ?_ (seqM_in (a := rflGo xs (leP c at_) (leA xs vs c at_) (leV vs) tau vs.length frm (c - frm)) ?_ rfl)
      · unfold reflect_Left_t29
        rw [cutL_all]
        exact T.af rfl (T.nd (slOk_all xs) (T.nd (by simp only [inK_i64, inB_i, leB_i, ltB_iff, leN_iff, slOk_iff, ble_iff, blt_iff, decide_eq_true_eq, decide_eq_false_iff_not, beq_iff_eq, beq_eq_false_iff_ne, bne_iff_ne, bne_eq_false_iff_eq, Bool.not_eq_true', Bool.not_eq_false', List.length_set, ne_eq, ge_iff_le, gt_iff_lt, setF_len, toNat_cast, lenOk]; omega) (T.af ht rfl)))
      · refine loopM_at (fun j => (((frm + j : Nat) : Int), rflGo xs (leP c at_) (leA xs vs c at_) (leV vs) tau vs.length frm j)) (c - frm) rfl (fun j hj => ?_) ?_
        · show seqM (reflect_Left_t31 _ _ _).run _ = _
          have hk : frm + j < c := by omega
          refine seqM_in (a := ()) (T.at (by simp only [inK_i64, inB_i, leB_i, ltB_iff, leN_iff, slOk_iff, ble_iff, blt_iff, decide_eq_true_eq, decide_eq_false_iff_not, beq_iff_eq, beq_eq_false_iff_ne, bne_iff_ne, bne_eq_false_iff_eq, Bool.not_eq_true', Bool.not_eq_false', List.length_set, ne_eq, ge_iff_le, gt_iff_lt, setF_len, toNat_cast, lenOk]; omega) rfl) (seqM_in (joinM_in (a := rflGo xs (leP c at_) (leA xs vs c at_) (leV vs) tau vs.length frm (j + 1)) ?_) ?_)
          · refine seqM_in (a := rflW xs tau vs.length (leA xs vs c at_) (frm + j)) ?_ (seqM_in rfl (seqM_in ?_ rfl))
            · unfold reflect_Left_t33
              rw [cutL_all, cutL_all, sum1_spec (Nat.le_refl _) (fun i hi => by rw [hx]; exact idx_lt (by omega) hk) (by omega) (by omega)]
              exact T.nd (slOk_all vs) (T.nd (slOk_all xs) (T.nd rfl rfl))
            · refine Left_in hx hk hat hr hc rflGo_len rfl (fun i hi => ?_)
              refine rflGo_other fun j' i' hj' hi' q => ?_
              have := (idx_inj (by omega) hk q).2
              omega
          · refine T.nd (by simp only [inK_i64, inB_i, leB_i, ltB_iff, leN_iff, slOk_iff, ble_iff, blt_iff, decide_eq_true_eq, decide_eq_false_iff_not, beq_iff_eq, beq_eq_false_iff_ne, bne_iff_ne, bne_eq_false_iff_eq, Bool.not_eq_true', Bool.not_eq_false', List.length_set, ne_eq, ge_iff_le, gt_iff_lt, setF_len, toNat_cast, lenOk]; omega) ?_
            rfl
        · show seqM (reflect_Left_t31 _ _ _).run _ = _
          exact seqM_out (T.af (by simp only [inK_i64, inB_i, leB_i, ltB_iff, leN_iff, slOk_iff, ble_iff, blt_iff, decide_eq_true_eq, decide_eq_false_iff_not, beq_iff_eq, beq_eq_false_iff_ne, bne_iff_ne, bne_eq_false_iff_eq, Bool.not_eq_true', Bool.not_eq_false', List.length_set, ne_eq, ge_iff_le, gt_iff_lt, setF_len, toNat_cast, lenOk]; omega) rfl)
end Go.Plb.Seat

/-
  PLAIN: columns reflected; the document's rows and columns.
-/
namespace Go.Plb.Seat
open Go Go.Plb
set_option linter.unusedSimpArgs false
set_option linter.unusedVariables false

theorem Left9_sum {xs vs : List Nat} {r c at_ k : Nat} (hx : xs.length = r * c) (hk : k < c) (hat : at_ + vs.length ≤ r) (hr : r ≤ 512) (hc : c ≤ 512) :
    loopM (ref09_Left_m40 (c : Int) xs (at_ : Int) vs (k : Int)) (0, 0) = some (.inl (sumF (leA xs vs c at_ k) vs.length)) := by
  have hL : r * c ≤ 262144 := Nat.mul_le_mul hr hc
  refine loopM_at (fun j => (sumF (leA xs vs c at_ k) j, j)) vs.length rfl (fun j hj => ?_) ?_
  · have hi : (at_ + j) * c + k < xs.length := by rw [hx]; exact idx_lt (by omega) hk
    have h := idxOb (x := at_ + j) hi (by omega) (by omega)
    show (ref09_Left_t39 _ _ _ _ _ _ _).run = _
    unfold ref09_Left_t39
    rw [addc]
    refine T.at (by simp only [inK_i64, inB_i, leB_i, ltB_iff, leN_iff, slOk_iff, ble_iff, blt_iff, decide_eq_true_eq, decide_eq_false_iff_not, beq_iff_eq, beq_eq_false_iff_ne, bne_iff_ne, bne_eq_false_iff_eq, Bool.not_eq_true', Bool.not_eq_false', List.length_set, ne_eq, ge_iff_le, gt_iff_lt, setF_len, toNat_cast, lenOk]; omega) (T.nd (by simp only [inK_i64, inB_i, leB_i, ltB_iff, leN_iff, slOk_iff, ble_iff, blt_iff, decide_eq_true_eq, decide_eq_false_iff_not, beq_iff_eq, beq_eq_false_iff_ne, bne_iff_ne, bne_eq_false_iff_eq, Bool.not_eq_true', Bool.not_eq_false', List.length_set, ne_eq, ge_iff_le, gt_iff_lt, setF_len, toNat_cast, lenOk]; omega) (T.nd (by simp only [inK_i64, inB_i, leB_i, ltB_iff, leN_iff, slOk_iff, ble_iff, blt_iff, decide_eq_true_eq, decide_eq_false_iff_not, beq_iff_eq, beq_eq_false_iff_ne, bne_iff_ne, bne_eq_false_iff_eq, Bool.not_eq_true', Bool.not_eq_false', List.length_set, ne_eq, ge_iff_le, gt_iff_lt, setF_len, toNat_cast, lenOk]; omega) (T.nd h.a (T.nd h.b (T.nd h.c (T.nd h.d (T.nd h.e (T.nd (by simp only [inK_i64, inB_i, leB_i, ltB_iff, leN_iff, slOk_iff, ble_iff, blt_iff, decide_eq_true_eq, decide_eq_false_iff_not, beq_iff_eq, beq_eq_false_iff_ne, bne_iff_ne, bne_eq_false_iff_eq, Bool.not_eq_true', Bool.not_eq_false', List.length_set, ne_eq, ge_iff_le, gt_iff_lt, setF_len, toNat_cast, lenOk]; omega) ?_))))))))
    rw [h.f]; rfl
  · exact T.af (by simp only [inK_i64, inB_i, leB_i, ltB_iff, leN_iff, slOk_iff, ble_iff, blt_iff, decide_eq_true_eq, decide_eq_false_iff_not, beq_iff_eq, beq_eq_false_iff_ne, bne_iff_ne, bne_eq_false_iff_eq, Bool.not_eq_true', Bool.not_eq_false', List.length_set, ne_eq, ge_iff_le, gt_iff_lt, setF_len, toNat_cast, lenOk]; omega) rfl
theorem Left9_in {xs vs out : List Nat} {r c at_ k w : Nat} (hx : xs.length = r * c) (hk : k < c) (hat : at_ + vs.length ≤ r) (hr : r ≤ 512) (hc : c ≤ 512) (ho : out.length = xs.length) :
    loopM (ref09_Left_m44 (c : Int) xs (at_ : Int) vs (k : Int) w) (0, out) = some (.inl (rflIn xs (leP c at_) (leV vs) w k out vs.length)) := by
  have hL : r * c ≤ 262144 := Nat.mul_le_mul hr hc
  refine loopM_at (fun j => (j, rflIn xs (leP c at_) (leV vs) w k out j)) vs.length rfl (fun j hj => ?_) ?_
  · have hi : (at_ + j) * c + k < xs.length := by rw [hx]; exact idx_lt (by omega) hk
    have h := idxOb (x := at_ + j) hi (by omega) (by omega)
    have hl : (rflIn xs (leP c at_) (leV vs) w k out j).length = xs.length := by unfold rflIn; rw [setF_len, ho]
    show (ref09_Left_t43 _ _ _ _ _ _ _ _).run = _
    unfold ref09_Left_t43
    rw [addc, hl]
    refine T.at (by simp only [inK_i64, inB_i, leB_i, ltB_iff, leN_iff, slOk_iff, ble_iff, blt_iff, decide_eq_true_eq, decide_eq_false_iff_not, beq_iff_eq, beq_eq_false_iff_ne, bne_iff_ne, bne_eq_false_iff_eq, Bool.not_eq_true', Bool.not_eq_false', List.length_set, ne_eq, ge_iff_le, gt_iff_lt, setF_len, toNat_cast, lenOk]; omega) (T.nd (by simp only [inK_i64, inB_i, leB_i, ltB_iff, leN_iff, slOk_iff, ble_iff, blt_iff, decide_eq_true_eq, decide_eq_false_iff_not, beq_iff_eq, beq_eq_false_iff_ne, bne_iff_ne, bne_eq_false_iff_eq, Bool.not_eq_true', Bool.not_eq_false', List.length_set, ne_eq, ge_iff_le, gt_iff_lt, setF_len, toNat_cast, lenOk]; omega) (T.nd (by simp only [inK_i64, inB_i, leB_i, ltB_iff, leN_iff, slOk_iff, ble_iff, blt_iff, decide_eq_true_eq, decide_eq_false_iff_not, beq_iff_eq, beq_eq_false_iff_ne, bne_iff_ne, bne_eq_false_iff_eq, Bool.not_eq_true', Bool.not_eq_false', List.length_set, ne_eq, ge_iff_le, gt_iff_lt, setF_len, toNat_cast, lenOk]; omega) (T.nd h.a (T.nd h.b (T.nd h.c (T.nd h.a (T.nd h.b (T.nd h.c (T.nd h.d (T.nd h.e (T.nd h.d (T.nd h.e (T.nd (by simp only [inK_i64, inB_i, leB_i, ltB_iff, leN_iff, slOk_iff, ble_iff, blt_iff, decide_eq_true_eq, decide_eq_false_iff_not, beq_iff_eq, beq_eq_false_iff_ne, bne_iff_ne, bne_eq_false_iff_eq, Bool.not_eq_true', Bool.not_eq_false', List.length_set, ne_eq, ge_iff_le, gt_iff_lt, setF_len, toNat_cast, lenOk]; omega) ?_)))))))))))))
    rw [h.f]; rfl
  · exact T.af (by simp only [inK_i64, inB_i, leB_i, ltB_iff, leN_iff, slOk_iff, ble_iff, blt_iff, decide_eq_true_eq, decide_eq_false_iff_not, beq_iff_eq, beq_eq_false_iff_ne, bne_iff_ne, bne_eq_false_iff_eq, Bool.not_eq_true', Bool.not_eq_false', List.length_set, ne_eq, ge_iff_le, gt_iff_lt, setF_len, toNat_cast, lenOk]; omega) rfl
theorem Left9_spec {xs vs : List Nat} {r c at_ frm tau : Nat} (hx : xs.length = r * c) (hr : r ≤ 512) (hc : c ≤ 512) (hat : at_ + vs.length ≤ r) (hf : frm ≤ c) :
    ref09_Left_F (r : Int) (c : Int) xs (at_ : Int) (frm : Int) vs tau = some (.r0 r c xs.length (leftF xs vs c at_ frm tau)) := by
  have hL : r * c ≤ 262144 := Nat.mul_le_mul hr hc
  refine toX_of ?_
  unfold leftF rflF
  cases ht : feq tau 0 with
  | true =>
    refine seqM_out ?_
    unfold ref09_Left_t33
    rw [List.take_length]
    exact T.nd (by simp only [inK_i64, inB_i, leB_i, ltB_iff, leN_iff, slOk_iff, ble_iff, blt_iff, decide_eq_true_eq, decide_eq_false_iff_not, beq_iff_eq, beq_eq_false_iff_ne, bne_iff_ne, bne_eq_false_iff_eq, Bool.not_eq_true', Bool.not_eq_false', List.length_set, ne_eq, ge_iff_le, gt_iff_lt, setF_len, toNat_cast, lenOk]; omega) (T.nd (by simp only [inK_i64, inB_i, leB_i, ltB_iff, leN_iff, slOk_iff, ble_iff, blt_iff, decide_eq_true_eq, decide_eq_false_iff_not, beq_iff_eq, beq_eq_false_iff_ne, bne_iff_ne, bne_eq_false_iff_eq, Bool.not_eq_true', Bool.not_eq_false', List.length_set, ne_eq, ge_iff_le, gt_iff_lt, setF_len, toNat_cast, lenOk]; omega) (T.nd (by simp only [inK_i64, inB_i, leB_i, ltB_iff, leN_iff, slOk_iff, ble_iff, blt_iff, decide_eq_true_eq, decide_eq_false_iff_not, beq_iff_eq, beq_eq_false_iff_ne, bne_iff_ne, bne_eq_false_iff_eq, Bool.not_eq_true', Bool.not_eq_false', List.length_set, ne_eq, ge_iff_le, gt_iff_lt, setF_len, toNat_cast, lenOk]; omega) (T.at ht rfl)))
  | false =>
    refine seqM_in (a := xs) ?_ (seqM_in (a := rflGo xs (leP c at_) (leA xs vs c at_) (leV vs) tau vs.length frm (c - frm)) ?_ rfl)
    · unfold ref09_Left_t33
      rw [List.take_length]
      exact T.nd (by simp only [inK_i64, inB_i, leB_i, ltB_iff, leN_iff, slOk_iff, ble_iff, blt_iff, decide_eq_true_eq, decide_eq_false_iff_not, beq_iff_eq, beq_eq_false_iff_ne, bne_iff_ne, bne_eq_false_iff_eq, Bool.not_eq_true', Bool.not_eq_false', List.length_set, ne_eq, ge_iff_le, gt_iff_lt, setF_len, toNat_cast, lenOk]; omega) (T.nd (by simp only [inK_i64, inB_i, leB_i, ltB_iff, leN_iff, slOk_iff, ble_iff, blt_iff, decide_eq_true_eq, decide_eq_false_iff_not, beq_iff_eq, beq_eq_false_iff_ne, bne_iff_ne, bne_eq_false_iff_eq, Bool.not_eq_true', Bool.not_eq_false', List.length_set, ne_eq, ge_iff_le, gt_iff_lt, setF_len, toNat_cast, lenOk]; omega) (T.nd (by simp only [inK_i64, inB_i, leB_i, ltB_iff, leN_iff, slOk_iff, ble_iff, blt_iff, decide_eq_true_eq, decide_eq_false_iff_not, beq_iff_eq, beq_eq_false_iff_ne, bne_iff_ne, bne_eq_false_iff_eq, Bool.not_eq_true', Bool.not_eq_false', List.length_set, ne_eq, ge_iff_le, gt_iff_lt, setF_len, toNat_cast, lenOk]; omega) (T.af ht rfl)))
    · refine loopM_at (fun j => (((frm + j : Nat) : Int), rflGo xs (leP c at_) (leA xs vs c at_) (leV vs) tau vs.length frm j)) (c - frm) rfl (fun j hj => ?_) ?_
      · show seqM (ref09_Left_t35 _ _ _).run _ = _
        have hk : frm + j < c := by omega
        refine seqM_in (a := ()) (T.at (by simp only [inK_i64, inB_i, leB_i, ltB_iff, leN_iff, slOk_iff, ble_iff, blt_iff, decide_eq_true_eq, decide_eq_false_iff_not, beq_iff_eq, beq_eq_false_iff_ne, bne_iff_ne, bne_eq_false_iff_eq, Bool.not_eq_true', Bool.not_eq_false', List.length_set, ne_eq, ge_iff_le, gt_iff_lt, setF_len, toNat_cast, lenOk]; omega) rfl) (seqM_in (joinM_in (a := rflGo xs (leP c at_) (leA xs vs c at_) (leV vs) tau vs.length frm (j + 1)) ?_) ?_)
        · exact seqM_in rfl (seqM_in (Left9_sum hx hk hat hr hc) (seqM_in rfl (seqM_in (Left9_in hx hk hat hr hc rflGo_len) rfl)))
        · refine T.nd (by simp only [inK_i64, inB_i, leB_i, ltB_iff, leN_iff, slOk_iff, ble_iff, blt_iff, decide_eq_true_eq, decide_eq_false_iff_not, beq_iff_eq, beq_eq_false_iff_ne, bne_iff_ne, bne_eq_false_iff_eq, Bool.not_eq_true', Bool.not_eq_false', List.length_set, ne_eq, ge_iff_le, gt_iff_lt, setF_len, toNat_cast, lenOk]; omega) ?_
          rfl
      · show seqM (ref09_Left_t35 _ _ _).run _ = _
        exact seqM_out (T.af (by simp only [inK_i64, inB_i, leB_i, ltB_iff, leN_iff, slOk_iff, ble_iff, blt_iff, decide_eq_true_eq, decide_eq_false_iff_not, beq_iff_eq, beq_eq_false_iff_ne, bne_iff_ne, bne_eq_false_iff_eq, Bool.not_eq_true', Bool.not_eq_false', List.length_set, ne_eq, ge_iff_le, gt_iff_lt, setF_len, toNat_cast, lenOk]; omega) rfl)

end Go.Plb.Seat

/-
  PLAIN: a tridiagonal as a matrix.
-/
namespace Go.Plb.Seat
open Go Go.Plb
set_option linter.unusedSimpArgs false
set_option linter.unusedVariables false

/-- May it be a tridiagonal? -/
def mayT (n m : Nat) : Bool := decide (n ≤ 512) && decide (m = n - 1)

theorem tMay_spec (ds es : List Nat) (hd : ds.length ≤ 1000000000) (he : es.length ≤ 1000000000) : tridiag_May_F ds es = some (.r0 (mayT ds.length es.length)) := by
  refine toX_of (seqM_in (a := mayT ds.length es.length) ?_ rfl)
  unfold tridiag_May_t3 mayT
  by_cases h : ds.length ≤ 512
  · refine T.at (by simp only [inK_i64, inB_i, leB_i, ltB_iff, leN_iff, slOk_iff, ble_iff, blt_iff, decide_eq_true_eq, decide_eq_false_iff_not, beq_iff_eq, beq_eq_false_iff_ne, bne_iff_ne, bne_eq_false_iff_eq, Bool.not_eq_true', Bool.not_eq_false', List.length_set, ne_eq, ge_iff_le, gt_iff_lt, setF_len, toNat_cast, lenOk]; omega) (T.nd (by simp only [inK_i64, inB_i, leB_i, ltB_iff, leN_iff, slOk_iff, ble_iff, blt_iff, decide_eq_true_eq, decide_eq_false_iff_not, beq_iff_eq, beq_eq_false_iff_ne, bne_iff_ne, bne_eq_false_iff_eq, Bool.not_eq_true', Bool.not_eq_false', List.length_set, ne_eq, ge_iff_le, gt_iff_lt, setF_len, toNat_cast, lenOk]; omega) ?_)
    show some (Sum.inl _) = _
    congr 2
    rw [decide_eq_true h, Bool.true_and]
    rw [Bool.eq_iff_iff]; simp only [beq_iff_eq, decide_eq_true_eq, imax]; split <;> omega
  · refine T.af (by simp only [inK_i64, inB_i, leB_i, ltB_iff, leN_iff, slOk_iff, ble_iff, blt_iff, decide_eq_true_eq, decide_eq_false_iff_not, beq_iff_eq, beq_eq_false_iff_ne, bne_iff_ne, bne_eq_false_iff_eq, Bool.not_eq_true', Bool.not_eq_false', List.length_set, ne_eq, ge_iff_le, gt_iff_lt, setF_len, toNat_cast, lenOk]; omega) ?_
    rw [decide_eq_false h, Bool.false_and]; rfl
theorem rMay_spec (ds es : List Nat) (hd : ds.length ≤ 1000000000) (he : es.length ≤ 1000000000) : ref10_May_F ds es = some (.r0 (mayT ds.length es.length)) := by
  refine toX_of (seqM_in (a := mayT ds.length es.length) ?_ rfl)
  unfold ref10_May_t3 mayT
  by_cases h : ds.length ≤ 512
  · refine T.at (by simp only [inK_i64, inB_i, leB_i, ltB_iff, leN_iff, slOk_iff, ble_iff, blt_iff, decide_eq_true_eq, decide_eq_false_iff_not, beq_iff_eq, beq_eq_false_iff_ne, bne_iff_ne, bne_eq_false_iff_eq, Bool.not_eq_true', Bool.not_eq_false', List.length_set, ne_eq, ge_iff_le, gt_iff_lt, setF_len, toNat_cast, lenOk]; omega) ?_
    by_cases h0 : ds.length = 0
    · refine T.at (by simp only [inK_i64, inB_i, leB_i, ltB_iff, leN_iff, slOk_iff, ble_iff, blt_iff, decide_eq_true_eq, decide_eq_false_iff_not, beq_iff_eq, beq_eq_false_iff_ne, bne_iff_ne, bne_eq_false_iff_eq, Bool.not_eq_true', Bool.not_eq_false', List.length_set, ne_eq, ge_iff_le, gt_iff_lt, setF_len, toNat_cast, lenOk]; omega) ?_
      by_cases h1 : es.length = 0
      · refine T.at (by simp only [inK_i64, inB_i, leB_i, ltB_iff, leN_iff, slOk_iff, ble_iff, blt_iff, decide_eq_true_eq, decide_eq_false_iff_not, beq_iff_eq, beq_eq_false_iff_ne, bne_iff_ne, bne_eq_false_iff_eq, Bool.not_eq_true', Bool.not_eq_false', List.length_set, ne_eq, ge_iff_le, gt_iff_lt, setF_len, toNat_cast, lenOk]; omega) ?_
        rw [decide_eq_true h, decide_eq_true (by omega)]; rfl
      · refine T.af (by simp only [inK_i64, inB_i, leB_i, ltB_iff, leN_iff, slOk_iff, ble_iff, blt_iff, decide_eq_true_eq, decide_eq_false_iff_not, beq_iff_eq, beq_eq_false_iff_ne, bne_iff_ne, bne_eq_false_iff_eq, Bool.not_eq_true', Bool.not_eq_false', List.length_set, ne_eq, ge_iff_le, gt_iff_lt, setF_len, toNat_cast, lenOk]; omega) (T.af (by simp only [inK_i64, inB_i, leB_i, ltB_iff, leN_iff, slOk_iff, ble_iff, blt_iff, decide_eq_true_eq, decide_eq_false_iff_not, beq_iff_eq, beq_eq_false_iff_ne, bne_iff_ne, bne_eq_false_iff_eq, Bool.not_eq_true', Bool.not_eq_false', List.length_set, ne_eq, ge_iff_le, gt_iff_lt, setF_len, toNat_cast, lenOk]; omega) ?_)
        rw [decide_eq_true h, decide_eq_false (by omega)]; rfl
    · refine T.af (by simp only [inK_i64, inB_i, leB_i, ltB_iff, leN_iff, slOk_iff, ble_iff, blt_iff, decide_eq_true_eq, decide_eq_false_iff_not, beq_iff_eq, beq_eq_false_iff_ne, bne_iff_ne, bne_eq_false_iff_eq, Bool.not_eq_true', Bool.not_eq_false', List.length_set, ne_eq, ge_iff_le, gt_iff_lt, setF_len, toNat_cast, lenOk]; omega) (T.at (by simp only [inK_i64, inB_i, leB_i, ltB_iff, leN_iff, slOk_iff, ble_iff, blt_iff, decide_eq_true_eq, decide_eq_false_iff_not, beq_iff_eq, beq_eq_false_iff_ne, bne_iff_ne, bne_eq_false_iff_eq, Bool.not_eq_true', Bool.not_eq_false', List.length_set, ne_eq, ge_iff_le, gt_iff_lt, setF_len, toNat_cast, lenOk]; omega) (T.nd (by simp only [inK_i64, inB_i, leB_i, ltB_iff, leN_iff, slOk_iff, ble_iff, blt_iff, decide_eq_true_eq, decide_eq_false_iff_not, beq_iff_eq, beq_eq_false_iff_ne, bne_iff_ne, bne_eq_false_iff_eq, Bool.not_eq_true', Bool.not_eq_false', List.length_set, ne_eq, ge_iff_le, gt_iff_lt, setF_len, toNat_cast, lenOk]; omega) ?_))
      show some (Sum.inl _) = _
      congr 2
      rw [decide_eq_true h, Bool.true_and]
      rw [Bool.eq_iff_iff]; simp only [beq_iff_eq, decide_eq_true_eq]; omega
  · refine T.af (by simp only [inK_i64, inB_i, leB_i, ltB_iff, leN_iff, slOk_iff, ble_iff, blt_iff, decide_eq_true_eq, decide_eq_false_iff_not, beq_iff_eq, beq_eq_false_iff_ne, bne_iff_ne, bne_eq_false_iff_eq, Bool.not_eq_true', Bool.not_eq_false', List.length_set, ne_eq, ge_iff_le, gt_iff_lt, setF_len, toNat_cast, lenOk]; omega) ?_
    rw [decide_eq_false h, Bool.false_and]; rfl

def diagF (ds : List Nat) (n : Nat) (j : Nat) : List Nat := setF (fun i => i * n + i) (fun i => ds.getD i 0) (List.replicate (n * n) 0) j
def offF (es : List Nat) (n : Nat) (l : List Nat) (j : Nat) : List Nat := iterF (fun j l => (l.set (j * n + j + 1) (es.getD j 0)).set ((j + 1) * n + j) (es.getD j 0)) l j
theorem offF_len {es : List Nat} {n : Nat} {l : List Nat} : ∀ {j : Nat}, (offF es n l j).length = l.length
  | 0 => rfl
  | j + 1 => by simp only [offF, iterF, List.length_set]; exact offF_len (j := j)
theorem diagF_len {ds : List Nat} {n j : Nat} : (diagF ds n j).length = n * n := by simp only [diagF, setF_len, List.length_replicate]

theorem offF_set {es : List Nat} {n p v : Nat} {l : List Nat} : ∀ {j : Nat}, (∀ i, i < j → i * n + i + 1 ≠ p ∧ (i + 1) * n + i ≠ p) → (offF es n l j).set p v = offF es n (l.set p v) j
  | 0, _ => rfl
  | j + 1, h => by
    have ih := offF_set (es := es) (n := n) (p := p) (v := v) (l := l) (j := j) fun i hi => h i (by omega)
    simp only [offF, iterF] at ih ⊢
    rw [List.set_comm _ _ (h j (by omega)).2, List.set_comm _ _ (h j (by omega)).1, ih]

/-- The document's way, up to row j + 1. -/
def fullR (ds es : List Nat) (n : Nat) (j : Nat) : List Nat := iterF (fun j l => match j with
  | 0 => l.set (0 * n + 0) (ds.getD 0 0)
  | j + 1 => ((l.set ((j + 1) * n + (j + 1)) (ds.getD (j + 1) 0)).set ((j + 1) * n + j) (es.getD j 0)).set (j * n + (j + 1)) (es.getD j 0)) (List.replicate (n * n) 0) j
theorem fullR_len {ds es : List Nat} {n : Nat} : ∀ {j : Nat}, (fullR ds es n j).length = n * n
  | 0 => by simp [fullR, iterF]
  | 1 => by simp [fullR, iterF]
  | j + 2 => by have := fullR_len (ds := ds) (es := es) (n := n) (j := j + 1); simp only [fullR, iterF, List.length_set] at this ⊢; exact this

theorem full_eq {ds es : List Nat} {n : Nat} : ∀ {j : Nat}, j + 1 ≤ n → fullR ds es n (j + 1) = offF es n (diagF ds n (j + 1)) j
  | 0, _ => rfl
  | j + 1, hj => by
    have ih := full_eq (ds := ds) (es := es) (n := n) (j := j) (by omega)
    have e1 : fullR ds es n (j + 1 + 1) = (((fullR ds es n (j + 1)).set ((j + 1) * n + (j + 1)) (ds.getD (j + 1) 0)).set ((j + 1) * n + j) (es.getD j 0)).set (j * n + (j + 1)) (es.getD j 0) := rfl
    have e2 : diagF ds n (j + 1 + 1) = (diagF ds n (j + 1)).set ((j + 1) * n + (j + 1)) (ds.getD (j + 1) 0) := rfl
    have e3 : ∀ l, offF es n l (j + 1) = ((offF es n l j).set (j * n + j + 1) (es.getD j 0)).set ((j + 1) * n + j) (es.getD j 0) := fun l => rfl
    rw [e1, ih, e3, e2, offF_set, List.set_comm]
    · rfl
    · intro q
      have := idx_inj (c := n) (by omega) (by omega) q; omega
    · intro i hi
      refine ⟨fun q => ?_, fun q => ?_⟩
      · have := idx_inj (c := n) (i := i) (k := i + 1) (i' := j + 1) (k' := j + 1) (by omega) (by omega) (by rw [← q, Nat.add_assoc]); omega
      · have := idx_inj (c := n) (i := i + 1) (k := i) (by omega) (by omega) q; omega

theorem sq_bd {n : Nat} (h : n ≤ 512) : n * n ≤ 262144 := Nat.mul_le_mul h h

theorem tFull_spec {ds es : List Nat} (h : mayT ds.length es.length = true) : tridiag_Full_F ds es = some (.r1 ds.length (ds.length * ds.length) (offF es ds.length (diagF ds ds.length ds.length) es.length)) := by
  have hm := h
  simp only [mayT, Bool.and_eq_true, decide_eq_true_eq] at hm
  obtain ⟨h1, h2⟩ := hm
  have hs := sq_bd h1
  refine toX_of (seqM_in (a := false) ?_ (seqM_in (a := (ds.length * ds.length, List.replicate (ds.length * ds.length) 0)) ?_ (seqM_in (a := diagF ds ds.length ds.length) ?_ (seqM_in rfl (seqM_in (a := offF es ds.length (diagF ds ds.length ds.length) es.length) ?_ rfl)))))
  · unfold tridiag_Full_t13
    rw [cutL_all, cutL_all, tMay_spec _ _ (by omega) (by omega), h]
    exact T.nd (slOk_all _) (T.nd (slOk_all _) (T.nd rfl rfl))
  · unfold tridiag_Full_t14
    refine T.af rfl ?_
    (repeat (refine T.nd (by simp only [inK_i64, inB_i, leB_i, ltB_iff, leN_iff, slOk_iff, ble_iff, blt_iff, decide_eq_true_eq, decide_eq_false_iff_not, beq_iff_eq, beq_eq_false_iff_ne, bne_iff_ne, bne_eq_false_iff_eq, Bool.not_eq_true', Bool.not_eq_false', List.length_set, ne_eq, ge_iff_le, gt_iff_lt, setF_len, toNat_cast, lenOk]; omega) ?_))
    rfl
  · refine loopM_at (fun j => (j, diagF ds ds.length j)) ds.length rfl (fun j hj => ?_) (T.af (by simp only [inK_i64, inB_i, leB_i, ltB_iff, leN_iff, slOk_iff, ble_iff, blt_iff, decide_eq_true_eq, decide_eq_false_iff_not, beq_iff_eq, beq_eq_false_iff_ne, bne_iff_ne, bne_eq_false_iff_eq, Bool.not_eq_true', Bool.not_eq_false', List.length_set, ne_eq, ge_iff_le, gt_iff_lt, setF_len, toNat_cast, lenOk]; omega) rfl)
    have hi : j * ds.length + j < ds.length * ds.length := idx_lt hj hj
    have hp : 0 ≤ (j : Int) * (ds.length : Int) := Int.mul_nonneg (by omega) (by omega)
    have hl := diagF_len (ds := ds) (n := ds.length) (j := j)
    show (tridiag_Full_t16 _ _ _ _).run = _
    unfold tridiag_Full_t16
    refine T.at (by simp only [inK_i64, inB_i, leB_i, ltB_iff, leN_iff, slOk_iff, ble_iff, blt_iff, decide_eq_true_eq, decide_eq_false_iff_not, beq_iff_eq, beq_eq_false_iff_ne, bne_iff_ne, bne_eq_false_iff_eq, Bool.not_eq_true', Bool.not_eq_false', List.length_set, ne_eq, ge_iff_le, gt_iff_lt, setF_len, toNat_cast, lenOk]; omega) ?_
    rw [hl]
    (repeat (refine T.nd (by simp only [inK_i64, inB_i, leB_i, ltB_iff, leN_iff, slOk_iff, ble_iff, blt_iff, decide_eq_true_eq, decide_eq_false_iff_not, beq_iff_eq, beq_eq_false_iff_ne, bne_iff_ne, bne_eq_false_iff_eq, Bool.not_eq_true', Bool.not_eq_false', List.length_set, ne_eq, ge_iff_le, gt_iff_lt, setF_len, toNat_cast, lenOk]; omega) ?_))
    rfl
  · refine loopM_at (fun j => (j, offF es ds.length (diagF ds ds.length ds.length) j)) es.length rfl (fun j hj => ?_) (T.af (by simp only [inK_i64, inB_i, leB_i, ltB_iff, leN_iff, slOk_iff, ble_iff, blt_iff, decide_eq_true_eq, decide_eq_false_iff_not, beq_iff_eq, beq_eq_false_iff_ne, bne_iff_ne, bne_eq_false_iff_eq, Bool.not_eq_true', Bool.not_eq_false', List.length_set, ne_eq, ge_iff_le, gt_iff_lt, setF_len, toNat_cast, lenOk]; omega) rfl)
    have hi : j * ds.length + (j + 1) < ds.length * ds.length := idx_lt (by omega) (by omega)
    have hi' : (j + 1) * ds.length + j < ds.length * ds.length := idx_lt (by omega) (by omega)
    have hp : 0 ≤ (j : Int) * (ds.length : Int) := Int.mul_nonneg (by omega) (by omega)
    have hp' : 0 ≤ ((j : Int) + 1) * (ds.length : Int) := Int.mul_nonneg (by omega) (by omega)
    have hl := offF_len (es := es) (n := ds.length) (l := diagF ds ds.length ds.length) (j := j)
    rw [diagF_len] at hl
    show (tridiag_Full_t20 _ _ _ _ _).run = _
    unfold tridiag_Full_t20
    refine T.at (by simp only [inK_i64, inB_i, leB_i, ltB_iff, leN_iff, slOk_iff, ble_iff, blt_iff, decide_eq_true_eq, decide_eq_false_iff_not, beq_iff_eq, beq_eq_false_iff_ne, bne_iff_ne, bne_eq_false_iff_eq, Bool.not_eq_true', Bool.not_eq_false', List.length_set, ne_eq, ge_iff_le, gt_iff_lt, setF_len, toNat_cast, lenOk]; omega) ?_
    rw [List.length_set, hl]
    (repeat (refine T.nd (by simp only [inK_i64, inB_i, leB_i, ltB_iff, leN_iff, slOk_iff, ble_iff, blt_iff, decide_eq_true_eq, decide_eq_false_iff_not, beq_iff_eq, beq_eq_false_iff_ne, bne_iff_ne, bne_eq_false_iff_eq, Bool.not_eq_true', Bool.not_eq_false', List.length_set, ne_eq, ge_iff_le, gt_iff_lt, setF_len, toNat_cast, lenOk]; omega) ?_))
    rfl

theorem rFull_spec {ds es : List Nat} (h : mayT ds.length es.length = true) : ref10_Full_F ds es = some (.r0 ds.length (ds.length * ds.length) (fullR ds es ds.length ds.length)) := by
  simp only [mayT, Bool.and_eq_true, decide_eq_true_eq] at h
  obtain ⟨h1, h2⟩ := h
  have hs := sq_bd h1
  refine toX_of (seqM_in (a := (ds.length * ds.length, List.replicate (ds.length * ds.length) 0)) ?_ (seqM_in (a := fullR ds es ds.length ds.length) ?_ rfl))
  · unfold ref10_Full_t9
    (repeat (refine T.nd (by simp only [inK_i64, inB_i, leB_i, ltB_iff, leN_iff, slOk_iff, ble_iff, blt_iff, decide_eq_true_eq, decide_eq_false_iff_not, beq_iff_eq, beq_eq_false_iff_ne, bne_iff_ne, bne_eq_false_iff_eq, Bool.not_eq_true', Bool.not_eq_false', List.length_set, ne_eq, ge_iff_le, gt_iff_lt, setF_len, toNat_cast, lenOk]; omega) ?_))
    rfl
  · refine loopM_at (fun j => (j, fullR ds es ds.length j)) ds.length rfl (fun j hj => ?_) (seqM_out (T.af (by simp only [inK_i64, inB_i, leB_i, ltB_iff, leN_iff, slOk_iff, ble_iff, blt_iff, decide_eq_true_eq, decide_eq_false_iff_not, beq_iff_eq, beq_eq_false_iff_ne, bne_iff_ne, bne_eq_false_iff_eq, Bool.not_eq_true', Bool.not_eq_false', List.length_set, ne_eq, ge_iff_le, gt_iff_lt, setF_len, toNat_cast, lenOk]; omega) rfl))
    have hi : j * ds.length + j < ds.length * ds.length := idx_lt hj hj
    have hp : 0 ≤ (j : Int) * (ds.length : Int) := Int.mul_nonneg (by omega) (by omega)
    have hl := fullR_len (ds := ds) (es := es) (n := ds.length) (j := j)
    show seqM (ref10_Full_t11 _ _ _ _ _).run _ = _
    refine seqM_in (a := fullR ds es ds.length (j + 1)) ?_ (T.nd (by simp only [inK_i64, inB_i, leB_i, ltB_iff, leN_iff, slOk_iff, ble_iff, blt_iff, decide_eq_true_eq, decide_eq_false_iff_not, beq_iff_eq, beq_eq_false_iff_ne, bne_iff_ne, bne_eq_false_iff_eq, Bool.not_eq_true', Bool.not_eq_false', List.length_set, ne_eq, ge_iff_le, gt_iff_lt, setF_len, toNat_cast, lenOk]; omega) rfl)
    unfold ref10_Full_t11
    refine T.at (by simp only [inK_i64, inB_i, leB_i, ltB_iff, leN_iff, slOk_iff, ble_iff, blt_iff, decide_eq_true_eq, decide_eq_false_iff_not, beq_iff_eq, beq_eq_false_iff_ne, bne_iff_ne, bne_eq_false_iff_eq, Bool.not_eq_true', Bool.not_eq_false', List.length_set, ne_eq, ge_iff_le, gt_iff_lt, setF_len, toNat_cast, lenOk]; omega) ?_
    simp only [List.length_set]
    rw [hl]
    (repeat (refine T.nd (by simp only [inK_i64, inB_i, leB_i, ltB_iff, leN_iff, slOk_iff, ble_iff, blt_iff, decide_eq_true_eq, decide_eq_false_iff_not, beq_iff_eq, beq_eq_false_iff_ne, bne_iff_ne, bne_eq_false_iff_eq, Bool.not_eq_true', Bool.not_eq_false', List.length_set, ne_eq, ge_iff_le, gt_iff_lt, setF_len, toNat_cast, lenOk]; omega) ?_))
    cases j with
    | zero => exact T.af (by decide) rfl
    | succ j =>
      have hi2 : j * ds.length + (j + 1) < ds.length * ds.length := idx_lt (by omega) (by omega)
      have hp2 : 0 ≤ (j : Int) * (ds.length : Int) := Int.mul_nonneg (by omega) (by omega)
      refine T.at (by simp only [inK_i64, inB_i, leB_i, ltB_iff, leN_iff, slOk_iff, ble_iff, blt_iff, decide_eq_true_eq, decide_eq_false_iff_not, beq_iff_eq, beq_eq_false_iff_ne, bne_iff_ne, bne_eq_false_iff_eq, Bool.not_eq_true', Bool.not_eq_false', List.length_set, ne_eq, ge_iff_le, gt_iff_lt, setF_len, toNat_cast, lenOk]; omega) ?_
      have e1 : (((j + 1 : Nat) : Int) - (1 : Int)) = (j : Int) := by omega
      have e2 : Int.toNat (((((j + 1) * ds.length + (j + 1) : Nat) : Int)) - (1 : Int)) = (j + 1) * ds.length + j := by omega
      have e3 : Int.toNat ((j : Int) * (ds.length : Int) + ((j + 1 : Nat) : Int)) = j * ds.length + (j + 1) := by omega
      rw [e1, e2, e3]
      (repeat (refine T.nd (by simp only [inK_i64, inB_i, leB_i, ltB_iff, leN_iff, slOk_iff, ble_iff, blt_iff, decide_eq_true_eq, decide_eq_false_iff_not, beq_iff_eq, beq_eq_false_iff_ne, bne_iff_ne, bne_eq_false_iff_eq, Bool.not_eq_true', Bool.not_eq_false', List.length_set, ne_eq, ge_iff_le, gt_iff_lt, setF_len, toNat_cast, lenOk]; omega) ?_))
      rfl

theorem tFull_bad {ds es : List Nat} (hd : ds.length ≤ 1000000000) (he : es.length ≤ 1000000000) (h : mayT ds.length es.length = false) : tridiag_Full_F ds es = some (.r0) := by
  refine toX_of (seqM_in (a := true) ?_ (seqM_out (T.at rfl rfl)))
  unfold tridiag_Full_t13
  rw [cutL_all, cutL_all, tMay_spec _ _ hd he, h]
  exact T.nd (slOk_all _) (T.nd (slOk_all _) (T.nd rfl rfl))
theorem Same_nil : ref09_Same_F (((0 : Nat)) : Int) (((0 : Nat)) : Int) [] (0 : Int) (0 : Int) ([] : List Nat) = some (.r0 true) := Same_spec (xs := []) (by decide)

theorem TridiagFull_law (ds es : List Nat) : law10_TridiagFull_F ds es = some (.r0 true) := by
  refine toX_of ?_
  by_cases hk : (30 < ds.length ∧ ds.length ≤ 512) ∨ 600 < ds.length ∨ 600 < es.length
  · refine seqM_in (a := true) ?_ (seqM_out (T.at rfl rfl))
    unfold law10_TridiagFull_t8
    by_cases h1 : 30 < ds.length
    · refine T.at (by simp only [inK_i64, inB_i, leB_i, ltB_iff, leN_iff, slOk_iff, ble_iff, blt_iff, decide_eq_true_eq, decide_eq_false_iff_not, beq_iff_eq, beq_eq_false_iff_ne, bne_iff_ne, bne_eq_false_iff_eq, Bool.not_eq_true', Bool.not_eq_false', List.length_set, ne_eq, ge_iff_le, gt_iff_lt, setF_len, toNat_cast, lenOk]; omega) ?_
      by_cases h2 : ds.length ≤ 512
      · exact T.at (by simp only [inK_i64, inB_i, leB_i, ltB_iff, leN_iff, slOk_iff, ble_iff, blt_iff, decide_eq_true_eq, decide_eq_false_iff_not, beq_iff_eq, beq_eq_false_iff_ne, bne_iff_ne, bne_eq_false_iff_eq, Bool.not_eq_true', Bool.not_eq_false', List.length_set, ne_eq, ge_iff_le, gt_iff_lt, setF_len, toNat_cast, lenOk]; omega) rfl
      · refine T.af (by simp only [inK_i64, inB_i, leB_i, ltB_iff, leN_iff, slOk_iff, ble_iff, blt_iff, decide_eq_true_eq, decide_eq_false_iff_not, beq_iff_eq, beq_eq_false_iff_ne, bne_iff_ne, bne_eq_false_iff_eq, Bool.not_eq_true', Bool.not_eq_false', List.length_set, ne_eq, ge_iff_le, gt_iff_lt, setF_len, toNat_cast, lenOk]; omega) ?_
        by_cases h3 : 600 < ds.length
        · exact T.at (by simp only [inK_i64, inB_i, leB_i, ltB_iff, leN_iff, slOk_iff, ble_iff, blt_iff, decide_eq_true_eq, decide_eq_false_iff_not, beq_iff_eq, beq_eq_false_iff_ne, bne_iff_ne, bne_eq_false_iff_eq, Bool.not_eq_true', Bool.not_eq_false', List.length_set, ne_eq, ge_iff_le, gt_iff_lt, setF_len, toNat_cast, lenOk]; omega) rfl
        · refine T.af (by simp only [inK_i64, inB_i, leB_i, ltB_iff, leN_iff, slOk_iff, ble_iff, blt_iff, decide_eq_true_eq, decide_eq_false_iff_not, beq_iff_eq, beq_eq_false_iff_ne, bne_iff_ne, bne_eq_false_iff_eq, Bool.not_eq_true', Bool.not_eq_false', List.length_set, ne_eq, ge_iff_le, gt_iff_lt, setF_len, toNat_cast, lenOk]; omega) ?_
          show some (Sum.inl _) = _
          congr 2; simp only [decide_eq_true_eq]; omega
    · refine T.af (by simp only [inK_i64, inB_i, leB_i, ltB_iff, leN_iff, slOk_iff, ble_iff, blt_iff, decide_eq_true_eq, decide_eq_false_iff_not, beq_iff_eq, beq_eq_false_iff_ne, bne_iff_ne, bne_eq_false_iff_eq, Bool.not_eq_true', Bool.not_eq_false', List.length_set, ne_eq, ge_iff_le, gt_iff_lt, setF_len, toNat_cast, lenOk]; omega) ?_
      by_cases h3 : 600 < ds.length
      · exact T.at (by simp only [inK_i64, inB_i, leB_i, ltB_iff, leN_iff, slOk_iff, ble_iff, blt_iff, decide_eq_true_eq, decide_eq_false_iff_not, beq_iff_eq, beq_eq_false_iff_ne, bne_iff_ne, bne_eq_false_iff_eq, Bool.not_eq_true', Bool.not_eq_false', List.length_set, ne_eq, ge_iff_le, gt_iff_lt, setF_len, toNat_cast, lenOk]; omega) rfl
      · refine T.af (by simp only [inK_i64, inB_i, leB_i, ltB_iff, leN_iff, slOk_iff, ble_iff, blt_iff, decide_eq_true_eq, decide_eq_false_iff_not, beq_iff_eq, beq_eq_false_iff_ne, bne_iff_ne, bne_eq_false_iff_eq, Bool.not_eq_true', Bool.not_eq_false', List.length_set, ne_eq, ge_iff_le, gt_iff_lt, setF_len, toNat_cast, lenOk]; omega) ?_
        show some (Sum.inl _) = _
        congr 2; simp only [decide_eq_true_eq]; omega
  have hd : ds.length ≤ 600 := by omega
  have he : es.length ≤ 600 := by omega
  refine seqM_in (a := false) ?_ ?_
  · unfold law10_TridiagFull_t8
    have last : decide ((((List.length es) : Nat) : Int) > (600 : Int)) = false := by simp only [decide_eq_false_iff_not]; omega
    by_cases h1 : 30 < ds.length
    · refine T.at (by simp only [inK_i64, inB_i, leB_i, ltB_iff, leN_iff, slOk_iff, ble_iff, blt_iff, decide_eq_true_eq, decide_eq_false_iff_not, beq_iff_eq, beq_eq_false_iff_ne, bne_iff_ne, bne_eq_false_iff_eq, Bool.not_eq_true', Bool.not_eq_false', List.length_set, ne_eq, ge_iff_le, gt_iff_lt, setF_len, toNat_cast, lenOk]; omega) (T.af (by simp only [inK_i64, inB_i, leB_i, ltB_iff, leN_iff, slOk_iff, ble_iff, blt_iff, decide_eq_true_eq, decide_eq_false_iff_not, beq_iff_eq, beq_eq_false_iff_ne, bne_iff_ne, bne_eq_false_iff_eq, Bool.not_eq_true', Bool.not_eq_false', List.length_set, ne_eq, ge_iff_le, gt_iff_lt, setF_len, toNat_cast, lenOk]; omega) (T.af (by simp only [inK_i64, inB_i, leB_i, ltB_iff, leN_iff, slOk_iff, ble_iff, blt_iff, decide_eq_true_eq, decide_eq_false_iff_not, beq_iff_eq, beq_eq_false_iff_ne, bne_iff_ne, bne_eq_false_iff_eq, Bool.not_eq_true', Bool.not_eq_false', List.length_set, ne_eq, ge_iff_le, gt_iff_lt, setF_len, toNat_cast, lenOk]; omega) ?_)); rw [last]; rfl
    · refine T.af (by simp only [inK_i64, inB_i, leB_i, ltB_iff, leN_iff, slOk_iff, ble_iff, blt_iff, decide_eq_true_eq, decide_eq_false_iff_not, beq_iff_eq, beq_eq_false_iff_ne, bne_iff_ne, bne_eq_false_iff_eq, Bool.not_eq_true', Bool.not_eq_false', List.length_set, ne_eq, ge_iff_le, gt_iff_lt, setF_len, toNat_cast, lenOk]; omega) (T.af (by simp only [inK_i64, inB_i, leB_i, ltB_iff, leN_iff, slOk_iff, ble_iff, blt_iff, decide_eq_true_eq, decide_eq_false_iff_not, beq_iff_eq, beq_eq_false_iff_ne, bne_iff_ne, bne_eq_false_iff_eq, Bool.not_eq_true', Bool.not_eq_false', List.length_set, ne_eq, ge_iff_le, gt_iff_lt, setF_len, toNat_cast, lenOk]; omega) ?_); rw [last]; rfl
  cases hm : mayT ds.length es.length with
  | false =>
    refine seqM_in (a := (2, 0, 0, [])) ?_ (seqM_in (a := false) ?_ (seqM_in (a := false) ?_ (seqM_out ?_)))
    · unfold law10_TridiagFull_t9
      rw [cutL_all, cutL_all, tFull_bad (by omega) (by omega) hm]
      exact T.af rfl (T.a0 (T.nd (slOk_all _) (T.nd (slOk_all _) (T.nd rfl rfl))))
    · unfold law10_TridiagFull_t10
      rw [cutL_all, cutL_all, rMay_spec _ _ (by omega) (by omega), hm]
      exact T.nd (slOk_all _) (T.nd (slOk_all _) (T.nd rfl rfl))
    · unfold law10_TridiagFull_t11
      rw [cutL_all, cutL_all, tMay_spec _ _ (by omega) (by omega), hm]
      exact T.nd (slOk_all _) (T.nd (slOk_all _) (T.nd rfl rfl))
    · unfold law10_TridiagFull_t12
      refine T.af rfl (T.at rfl (T.at rfl (T.nd rfl ?_)))
      rw [cutL_to (l := ([] : List Nat)) (n := 0) rfl, Same_nil]
      exact T.nd rfl (T.at rfl rfl)
  | true =>
    have hm' := hm
    simp only [mayT, Bool.and_eq_true, decide_eq_true_eq] at hm'
    have hs := sq_bd hm'.1
    refine seqM_in (a := (0, ds.length, ds.length * ds.length, offF es ds.length (diagF ds ds.length ds.length) es.length)) ?_ (seqM_in (a := true) ?_ (seqM_in (a := false) ?_ (seqM_in (a := ()) ?_ (seqM_in (a := true) ?_ rfl))))
    · unfold law10_TridiagFull_t9
      rw [cutL_all, cutL_all, tFull_spec hm]
      refine T.af rfl (T.a1 ?_ (T.a0 (T.nd (slOk_all _) (T.nd (slOk_all _) (T.nd rfl rfl)))))
      exact T.nd (slOk_all _) (T.nd (slOk_all _) (T.nf rfl))
    · unfold law10_TridiagFull_t10
      rw [cutL_all, cutL_all, rMay_spec _ _ (by omega) (by omega), hm]
      exact T.nd (slOk_all _) (T.nd (slOk_all _) (T.nd rfl rfl))
    · unfold law10_TridiagFull_t11
      rw [cutL_all, cutL_all, tMay_spec _ _ (by omega) (by omega), hm]
      exact T.nd (slOk_all _) (T.nd (slOk_all _) (T.nd rfl rfl))
    · exact T.af rfl (T.af rfl rfl)
    · unfold law10_TridiagFull_t13
      have e : fullR ds es ds.length ds.length = offF es ds.length (diagF ds ds.length ds.length) es.length := by
        by_cases h0 : ds.length = 0
        · rw [hm'.2, h0]; rfl
        · have := full_eq (ds := ds) (es := es) (n := ds.length) (j := ds.length - 1) (by omega)
          rw [hm'.2]; rw [show ds.length - 1 + 1 = ds.length by omega] at this; exact this
      have hl : (offF es ds.length (diagF ds ds.length ds.length) es.length).length = ds.length * ds.length := by rw [offF_len, diagF_len]
      rw [cutL_all, cutL_all, rFull_spec hm, e]
      simp only [ref10_Full_p0_0, ref10_Full_p0_1, ref10_Full_p0_2]
      rw [cutL_to hl, Same_spec (by omega)]
      refine T.at rfl (T.nd (slOk_all _) (T.nd (slOk_all _) (T.nd rfl (T.nd ?_ (T.nd ?_ (T.nd rfl (T.at rfl rfl)))))))
      · rw [← hl]; exact slOk_all _
      · rw [← hl]; exact slOk_all _
end Go.Plb.Seat
