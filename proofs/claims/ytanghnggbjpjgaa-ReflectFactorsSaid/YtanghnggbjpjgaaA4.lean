/-
  Part 4 of what the claim leans on: an evaluator of the model, proved sound; the contracts of the functions.
-/
import Derived.Test.YtanghnggbjpjgaaA3
namespace Go.Plb.Seat
open Go Go.Plb
set_option linter.unusedVariables false
set_option maxRecDepth 10000
noncomputable section

inductive law09_ReflectTurns_X where
  | r0 (b18 : Bool)
def law09_ReflectTurns_E : law09_ReflectTurns_X → AE × ASt
  | .r0 b18 => (.ret, ⟨slots 121 [(8, .bool false b18)], [], 0⟩)
theorem law09_ReflectTurns_hN : NoN law09_ReflectTurns_E := by intro x; cases x <;> (intro h; cases h)
theorem law09_ReflectTurns_hI (id : Nat) : NoId id law09_ReflectTurns_E := by intro x; cases x <;> (intro h; cases h)
def law09_ReflectTurns_o : law09_ReflectTurns_X → Out
  | .r0 b18 => ⟨.bool false b18, []⟩
noncomputable def law09_ReflectTurns_l8 : List Code := flat (BODY n_law09_ReflectTurns)
def law09_ReflectTurns_n1 (a_0 : Int) (a_1 : Int) (v_2 : Lv) (a_3 : List Nat) (at_4 : Int) (from_5 : Int) (v_6 : Lv) (h_7 : List Nat) (h_8 : Nat) (b1 : Bool) : ASt := ⟨slots 121 [(1, .int .i64 at_4), (2, .int .i64 from_5), (4, .ptr 0 1 0 0), (7, .ptr 1 1 0 0), (24, .bool false b1)], [(0, .vs [.int .i64 a_0, .int .i64 a_1, .imm v_2 (.fl a_3) 1 1 0 (List.length a_3)]), (1, .vs [.imm v_6 (.fl h_7) 1 1 0 (List.length h_7), .flt false h_8])], 2⟩
def law09_ReflectTurns_t9 (a_3 : List Nat) (h_7 : List Nat) : T ((Bool) ⊕ (law09_ReflectTurns_X)) :=
  .ask (!(decide ((((List.length a_3) : Nat) : Int) ≤ (400 : Int))))
    (.leaf (.inl true))
    (.leaf (.inl (decide ((((List.length h_7) : Nat) : Int) > (600 : Int)))))
def law09_ReflectTurns_n2 (a_0 : Int) (a_1 : Int) (v_2 : Lv) (a_3 : List Nat) (at_4 : Int) (from_5 : Int) (v_6 : Lv) (h_7 : List Nat) (h_8 : Nat) : Nat × Int × Int × Nat × (List Nat) × (List Nat) → ASt := fun (e2, i3, i4, a5, l6, l7) => ⟨slots 121 [(1, .int .i64 at_4), (2, .int .i64 from_5), (4, .ptr 0 1 0 0), (7, .ptr 1 1 0 0), (9, .ptr 2 1 0 0), (10, .ptr 3 1 0 0), (11, .int .i64 ((e2 : Nat) : Int))], [(0, .vs [.int .i64 a_0, .int .i64 a_1, .imm v_2 (.fl a_3) 1 1 0 (List.length a_3)]), (1, .vs [.imm v_6 (.fl h_7) 1 1 0 (List.length h_7), .flt false h_8]), (2, .vs [.int .i64 a_0, .int .i64 a_1, .sl 4 1 1 0 (List.length a_3) (List.length a_3)]), (3, .vs [.int .i64 i3, .int .i64 i4, .sl 5 1 1 0 a5 a5]), (4, .fl l6), (5, .fl l7)], 6⟩
def law09_ReflectTurns_t10 (a_0 : Int) (a_1 : Int) (a_3 : List Nat) (at_4 : Int) (from_5 : Int) (h_7 : List Nat) (h_8 : Nat) (b1 : Bool) : T ((Nat × Int × Int × Nat × (List Nat) × (List Nat)) ⊕ (law09_ReflectTurns_X)) :=
  .ask b1
    (.leaf (.inr (.r0 true)))
    (.need (leN ((List.length a_3) * 8) 140737488355328) <| .need (leN (List.length a_3) 9223372036854775807) <| .need (leN (List.length a_3) (List.length a_3)) <| .alt 0
      (.need (slOk 0 (List.length a_3) a_3) <| .need (slOk 0 (List.length h_7) h_7) <| .need (reflect_Left_i0 (reflect_Left_F a_0 a_1 (cutL 0 (List.length a_3) a_3) at_4 from_5 (cutL 0 (List.length h_7) h_7) h_8)) <| .leaf (.inl ((reflect_Left_p0_0 (reflect_Left_F a_0 a_1 (cutL 0 (List.length a_3) a_3) at_4 from_5 (cutL 0 (List.length h_7) h_7) h_8)), (0 : Int), (0 : Int), 0, (List.take (List.length a_3) a_3), ([] : List Nat))))
      (.alt 1
        (.need (slOk 0 (List.length a_3) a_3) <| .need (slOk 0 (List.length h_7) h_7) <| .need (reflect_Left_i1 (reflect_Left_F a_0 a_1 (cutL 0 (List.length a_3) a_3) at_4 from_5 (cutL 0 (List.length h_7) h_7) h_8)) <| .leaf (.inl (0, (reflect_Left_p1_0 (reflect_Left_F a_0 a_1 (cutL 0 (List.length a_3) a_3) at_4 from_5 (cutL 0 (List.length h_7) h_7) h_8)), (reflect_Left_p1_1 (reflect_Left_F a_0 a_1 (cutL 0 (List.length a_3) a_3) at_4 from_5 (cutL 0 (List.length h_7) h_7) h_8)), (reflect_Left_p1_2 (reflect_Left_F a_0 a_1 (cutL 0 (List.length a_3) a_3) at_4 from_5 (cutL 0 (List.length h_7) h_7) h_8)), (List.take (List.length a_3) a_3), (reflect_Left_p1_3 (reflect_Left_F a_0 a_1 (cutL 0 (List.length a_3) a_3) at_4 from_5 (cutL 0 (List.length h_7) h_7) h_8)))))
        (.fail)))
def law09_ReflectTurns_n3 (a_0 : Int) (a_1 : Int) (v_2 : Lv) (a_3 : List Nat) (at_4 : Int) (from_5 : Int) (v_6 : Lv) (h_7 : List Nat) (h_8 : Nat) (e2 : Nat) (i3 : Int) (i4 : Int) (a5 : Nat) (l6 : List Nat) (l7 : List Nat) : Nat × Int × Int × Nat × (List Nat) → ASt := fun (f8, i9, i10, a11, l12) => ⟨slots 121 [(1, .int .i64 at_4), (2, .int .i64 from_5), (4, .ptr 0 1 0 0), (7, .ptr 1 1 0 0), (9, .ptr 2 1 0 0), (10, .ptr 3 1 0 0), (11, .int .i64 ((e2 : Nat) : Int)), (12, .ptr 4 1 0 0), (13, .int .i64 ((f8 : Nat) : Int))], [(0, .vs [.int .i64 a_0, .int .i64 a_1, .imm v_2 (.fl a_3) 1 1 0 (List.length a_3)]), (1, .vs [.imm v_6 (.fl h_7) 1 1 0 (List.length h_7), .flt false h_8]), (2, .vs [.int .i64 a_0, .int .i64 a_1, .sl 5 1 1 0 (List.length a_3) (List.length a_3)]), (3, .vs [.int .i64 i3, .int .i64 i4, .sl 6 1 1 0 a5 a5]), (4, .vs [.int .i64 i9, .int .i64 i10, .sl 7 1 1 0 a11 a11]), (5, .fl l6), (6, .fl l7), (7, .fl l12)], 8⟩
def law09_ReflectTurns_t11 (a_0 : Int) (a_1 : Int) (a_3 : List Nat) (at_4 : Int) (from_5 : Int) (h_7 : List Nat) (h_8 : Nat) : T ((Nat × Int × Int × Nat × (List Nat)) ⊕ (law09_ReflectTurns_X)) :=
  .alt 0
    (.need (slOk 0 (List.length a_3) a_3) <| .need (slOk 0 (List.length h_7) h_7) <| .need (reflect_Right_i0 (reflect_Right_F a_0 a_1 (cutL 0 (List.length a_3) a_3) at_4 from_5 (cutL 0 (List.length h_7) h_7) h_8)) <| .leaf (.inl ((reflect_Right_p0_0 (reflect_Right_F a_0 a_1 (cutL 0 (List.length a_3) a_3) at_4 from_5 (cutL 0 (List.length h_7) h_7) h_8)), (0 : Int), (0 : Int), 0, ([] : List Nat))))
    (.alt 1
      (.need (slOk 0 (List.length a_3) a_3) <| .need (slOk 0 (List.length h_7) h_7) <| .need (reflect_Right_i1 (reflect_Right_F a_0 a_1 (cutL 0 (List.length a_3) a_3) at_4 from_5 (cutL 0 (List.length h_7) h_7) h_8)) <| .leaf (.inl (0, (reflect_Right_p1_0 (reflect_Right_F a_0 a_1 (cutL 0 (List.length a_3) a_3) at_4 from_5 (cutL 0 (List.length h_7) h_7) h_8)), (reflect_Right_p1_1 (reflect_Right_F a_0 a_1 (cutL 0 (List.length a_3) a_3) at_4 from_5 (cutL 0 (List.length h_7) h_7) h_8)), (reflect_Right_p1_2 (reflect_Right_F a_0 a_1 (cutL 0 (List.length a_3) a_3) at_4 from_5 (cutL 0 (List.length h_7) h_7) h_8)), (reflect_Right_p1_3 (reflect_Right_F a_0 a_1 (cutL 0 (List.length a_3) a_3) at_4 from_5 (cutL 0 (List.length h_7) h_7) h_8)))))
      (.fail))
def law09_ReflectTurns_n4 (a_0 : Int) (a_1 : Int) (v_2 : Lv) (a_3 : List Nat) (at_4 : Int) (from_5 : Int) (v_6 : Lv) (h_7 : List Nat) (h_8 : Nat) (e2 : Nat) (i3 : Int) (i4 : Int) (a5 : Nat) (l6 : List Nat) (l7 : List Nat) (f8 : Nat) (i9 : Int) (i10 : Int) (a11 : Nat) (l12 : List Nat) : Nat × Nat → ASt := fun (p13, q14) => ⟨slots 121 [(1, .int .i64 at_4), (2, .int .i64 from_5), (4, .ptr 0 1 0 0), (7, .ptr 1 1 0 0), (9, .ptr 2 1 0 0), (10, .ptr 3 1 0 0), (11, .int .i64 ((e2 : Nat) : Int)), (12, .ptr 4 1 0 0), (13, .int .i64 ((f8 : Nat) : Int)), (14, .int .i64 ((p13 : Nat) : Int)), (15, .int .i64 ((q14 : Nat) : Int))], [(0, .vs [.int .i64 a_0, .int .i64 a_1, .imm v_2 (.fl a_3) 1 1 0 (List.length a_3)]), (1, .vs [.imm v_6 (.fl h_7) 1 1 0 (List.length h_7), .flt false h_8]), (2, .vs [.int .i64 a_0, .int .i64 a_1, .sl 5 1 1 0 (List.length a_3) (List.length a_3)]), (3, .vs [.int .i64 i3, .int .i64 i4, .sl 6 1 1 0 a5 a5]), (4, .vs [.int .i64 i9, .int .i64 i10, .sl 7 1 1 0 a11 a11]), (5, .fl l6), (6, .fl l7), (7, .fl l12)], 8⟩
def law09_ReflectTurns_t12 (a_0 : Int) (a_1 : Int) (a_3 : List Nat) (at_4 : Int) (from_5 : Int) (h_7 : List Nat) : T ((Nat × Nat) ⊕ (law09_ReflectTurns_X)) :=
  .need (slOk 0 (List.length a_3) a_3) <| .need (slOk 0 (List.length h_7) h_7) <| .need (law09_fits_i0 (law09_fits_F a_0 a_1 (cutL 0 (List.length a_3) a_3) at_4 from_5 (cutL 0 (List.length h_7) h_7) a_0 a_1)) <| .need (slOk 0 (List.length a_3) a_3) <| .need (slOk 0 (List.length h_7) h_7) <| .need (law09_fits_i0 (law09_fits_F a_0 a_1 (cutL 0 (List.length a_3) a_3) at_4 from_5 (cutL 0 (List.length h_7) h_7) a_1 a_0)) <| .leaf (.inl ((law09_fits_p0_0 (law09_fits_F a_0 a_1 (cutL 0 (List.length a_3) a_3) at_4 from_5 (cutL 0 (List.length h_7) h_7) a_0 a_1)), (law09_fits_p0_0 (law09_fits_F a_0 a_1 (cutL 0 (List.length a_3) a_3) at_4 from_5 (cutL 0 (List.length h_7) h_7) a_1 a_0))))
def law09_ReflectTurns_n5 (a_0 : Int) (a_1 : Int) (v_2 : Lv) (a_3 : List Nat) (at_4 : Int) (from_5 : Int) (v_6 : Lv) (h_7 : List Nat) (h_8 : Nat) (i3 : Int) (i4 : Int) (a5 : Nat) (l7 : List Nat) (i9 : Int) (i10 : Int) (a11 : Nat) (l12 : List Nat) (p13 : Nat) (q14 : Nat) (b15 : Bool) : ASt := ⟨slots 121 [(1, .int .i64 at_4), (2, .int .i64 from_5), (4, .ptr 0 1 0 0), (7, .ptr 1 1 0 0), (10, .ptr 2 1 0 0), (12, .ptr 3 1 0 0), (14, .int .i64 ((p13 : Nat) : Int)), (15, .int .i64 ((q14 : Nat) : Int)), (75, .bool false b15)], [(0, .vs [.int .i64 a_0, .int .i64 a_1, .imm v_2 (.fl a_3) 1 1 0 (List.length a_3)]), (1, .vs [.imm v_6 (.fl h_7) 1 1 0 (List.length h_7), .flt false h_8]), (2, .vs [.int .i64 i3, .int .i64 i4, .sl 4 1 1 0 a5 a5]), (3, .vs [.int .i64 i9, .int .i64 i10, .sl 5 1 1 0 a11 a11]), (4, .fl l7), (5, .fl l12)], 6⟩
def law09_ReflectTurns_t13 (a_0 : Int) (a_1 : Int) (a_3 : List Nat) (e2 : Nat) (l6 : List Nat) (f8 : Nat) (p13 : Nat) (q14 : Nat) : T ((Bool) ⊕ (law09_ReflectTurns_X)) :=
  .ask (((e2 : Nat) : Int) != ((p13 : Nat) : Int))
    (.leaf (.inl true))
    (.ask (((f8 : Nat) : Int) != ((q14 : Nat) : Int))
      (.leaf (.inl true))
      (.need (slOk 0 (List.length a_3) a_3) <| .need (slOk 0 (List.length a_3) l6) <| .need (ref09_Same_i0 (ref09_Same_F a_0 a_1 (cutL 0 (List.length a_3) a_3) a_0 a_1 (cutL 0 (List.length a_3) l6))) <| .leaf (.inl (!(ref09_Same_p0_0 (ref09_Same_F a_0 a_1 (cutL 0 (List.length a_3) a_3) a_0 a_1 (cutL 0 (List.length a_3) l6)))))))
def law09_ReflectTurns_n6 (a_0 : Int) (a_1 : Int) (v_2 : Lv) (a_3 : List Nat) (at_4 : Int) (from_5 : Int) (v_6 : Lv) (h_7 : List Nat) (h_8 : Nat) (i9 : Int) (i10 : Int) (a11 : Nat) (l12 : List Nat) (q14 : Nat) (b16 : Bool) : ASt := ⟨slots 121 [(1, .int .i64 at_4), (2, .int .i64 from_5), (4, .ptr 0 1 0 0), (7, .ptr 1 1 0 0), (12, .ptr 2 1 0 0), (15, .int .i64 ((q14 : Nat) : Int)), (97, .bool false b16)], [(0, .vs [.int .i64 a_0, .int .i64 a_1, .imm v_2 (.fl a_3) 1 1 0 (List.length a_3)]), (1, .vs [.imm v_6 (.fl h_7) 1 1 0 (List.length h_7), .flt false h_8]), (2, .vs [.int .i64 i9, .int .i64 i10, .sl 3 1 1 0 a11 a11]), (3, .fl l12)], 4⟩
def law09_ReflectTurns_t14 (a_0 : Int) (a_1 : Int) (a_3 : List Nat) (at_4 : Int) (from_5 : Int) (h_7 : List Nat) (h_8 : Nat) (i3 : Int) (i4 : Int) (a5 : Nat) (l7 : List Nat) (p13 : Nat) (b15 : Bool) : T ((Bool) ⊕ (law09_ReflectTurns_X)) :=
  .ask b15
    (.leaf (.inr (.r0 false)))
    (.ask (((p13 : Nat) : Int) == (0 : Int))
      (.need (slOk 0 (List.length a_3) a_3) <| .need (slOk 0 (List.length h_7) h_7) <| .need (ref09_Left_i0 (ref09_Left_F a_0 a_1 (cutL 0 (List.length a_3) a_3) at_4 from_5 (cutL 0 (List.length h_7) h_7) h_8)) <| .need (slOk 0 a5 l7) <| .need (slOk 0 (ref09_Left_p0_2 (ref09_Left_F a_0 a_1 (cutL 0 (List.length a_3) a_3) at_4 from_5 (cutL 0 (List.length h_7) h_7) h_8)) (ref09_Left_p0_3 (ref09_Left_F a_0 a_1 (cutL 0 (List.length a_3) a_3) at_4 from_5 (cutL 0 (List.length h_7) h_7) h_8))) <| .need (ref09_Same_i0 (ref09_Same_F i3 i4 (cutL 0 a5 l7) (ref09_Left_p0_0 (ref09_Left_F a_0 a_1 (cutL 0 (List.length a_3) a_3) at_4 from_5 (cutL 0 (List.length h_7) h_7) h_8)) (ref09_Left_p0_1 (ref09_Left_F a_0 a_1 (cutL 0 (List.length a_3) a_3) at_4 from_5 (cutL 0 (List.length h_7) h_7) h_8)) (cutL 0 (ref09_Left_p0_2 (ref09_Left_F a_0 a_1 (cutL 0 (List.length a_3) a_3) at_4 from_5 (cutL 0 (List.length h_7) h_7) h_8)) (ref09_Left_p0_3 (ref09_Left_F a_0 a_1 (cutL 0 (List.length a_3) a_3) at_4 from_5 (cutL 0 (List.length h_7) h_7) h_8))))) <| .ask (!(ref09_Same_p0_0 (ref09_Same_F i3 i4 (cutL 0 a5 l7) (ref09_Left_p0_0 (ref09_Left_F a_0 a_1 (cutL 0 (List.length a_3) a_3) at_4 from_5 (cutL 0 (List.length h_7) h_7) h_8)) (ref09_Left_p0_1 (ref09_Left_F a_0 a_1 (cutL 0 (List.length a_3) a_3) at_4 from_5 (cutL 0 (List.length h_7) h_7) h_8)) (cutL 0 (ref09_Left_p0_2 (ref09_Left_F a_0 a_1 (cutL 0 (List.length a_3) a_3) at_4 from_5 (cutL 0 (List.length h_7) h_7) h_8)) (ref09_Left_p0_3 (ref09_Left_F a_0 a_1 (cutL 0 (List.length a_3) a_3) at_4 from_5 (cutL 0 (List.length h_7) h_7) h_8))))))
        (.leaf (.inl true))
        (.ask (((p13 : Nat) : Int) != (0 : Int))
          (.need (slOk 0 a5 l7) <| .need (ref09_Same_i0 (ref09_Same_F i3 i4 (cutL 0 a5 l7) (0 : Int) (0 : Int) ([] : List Nat))) <| .leaf (.inl (!(ref09_Same_p0_0 (ref09_Same_F i3 i4 (cutL 0 a5 l7) (0 : Int) (0 : Int) ([] : List Nat))))))
          (.leaf (.inl false))))
      (.ask (((p13 : Nat) : Int) != (0 : Int))
        (.need (slOk 0 a5 l7) <| .need (ref09_Same_i0 (ref09_Same_F i3 i4 (cutL 0 a5 l7) (0 : Int) (0 : Int) ([] : List Nat))) <| .leaf (.inl (!(ref09_Same_p0_0 (ref09_Same_F i3 i4 (cutL 0 a5 l7) (0 : Int) (0 : Int) ([] : List Nat))))))
        (.leaf (.inl false))))
def law09_ReflectTurns_n7 (b17 : Bool) : ASt := ⟨slots 121 [(119, .bool false b17)], [], 0⟩
def law09_ReflectTurns_t15 (a_0 : Int) (a_1 : Int) (a_3 : List Nat) (at_4 : Int) (from_5 : Int) (h_7 : List Nat) (h_8 : Nat) (i9 : Int) (i10 : Int) (a11 : Nat) (l12 : List Nat) (q14 : Nat) (b16 : Bool) : T ((Bool) ⊕ (law09_ReflectTurns_X)) :=
  .ask b16
    (.leaf (.inr (.r0 false)))
    (.ask (((q14 : Nat) : Int) == (0 : Int))
      (.need (slOk 0 (List.length a_3) a_3) <| .need (slOk 0 (List.length h_7) h_7) <| .need (ref09_Right_i0 (ref09_Right_F a_0 a_1 (cutL 0 (List.length a_3) a_3) at_4 from_5 (cutL 0 (List.length h_7) h_7) h_8)) <| .need (slOk 0 a11 l12) <| .need (slOk 0 (ref09_Right_p0_2 (ref09_Right_F a_0 a_1 (cutL 0 (List.length a_3) a_3) at_4 from_5 (cutL 0 (List.length h_7) h_7) h_8)) (ref09_Right_p0_3 (ref09_Right_F a_0 a_1 (cutL 0 (List.length a_3) a_3) at_4 from_5 (cutL 0 (List.length h_7) h_7) h_8))) <| .need (ref09_Same_i0 (ref09_Same_F i9 i10 (cutL 0 a11 l12) (ref09_Right_p0_0 (ref09_Right_F a_0 a_1 (cutL 0 (List.length a_3) a_3) at_4 from_5 (cutL 0 (List.length h_7) h_7) h_8)) (ref09_Right_p0_1 (ref09_Right_F a_0 a_1 (cutL 0 (List.length a_3) a_3) at_4 from_5 (cutL 0 (List.length h_7) h_7) h_8)) (cutL 0 (ref09_Right_p0_2 (ref09_Right_F a_0 a_1 (cutL 0 (List.length a_3) a_3) at_4 from_5 (cutL 0 (List.length h_7) h_7) h_8)) (ref09_Right_p0_3 (ref09_Right_F a_0 a_1 (cutL 0 (List.length a_3) a_3) at_4 from_5 (cutL 0 (List.length h_7) h_7) h_8))))) <| .ask (!(ref09_Same_p0_0 (ref09_Same_F i9 i10 (cutL 0 a11 l12) (ref09_Right_p0_0 (ref09_Right_F a_0 a_1 (cutL 0 (List.length a_3) a_3) at_4 from_5 (cutL 0 (List.length h_7) h_7) h_8)) (ref09_Right_p0_1 (ref09_Right_F a_0 a_1 (cutL 0 (List.length a_3) a_3) at_4 from_5 (cutL 0 (List.length h_7) h_7) h_8)) (cutL 0 (ref09_Right_p0_2 (ref09_Right_F a_0 a_1 (cutL 0 (List.length a_3) a_3) at_4 from_5 (cutL 0 (List.length h_7) h_7) h_8)) (ref09_Right_p0_3 (ref09_Right_F a_0 a_1 (cutL 0 (List.length a_3) a_3) at_4 from_5 (cutL 0 (List.length h_7) h_7) h_8))))))
        (.leaf (.inl true))
        (.ask (((q14 : Nat) : Int) != (0 : Int))
          (.need (slOk 0 a11 l12) <| .need (ref09_Same_i0 (ref09_Same_F i9 i10 (cutL 0 a11 l12) (0 : Int) (0 : Int) ([] : List Nat))) <| .leaf (.inl (!(ref09_Same_p0_0 (ref09_Same_F i9 i10 (cutL 0 a11 l12) (0 : Int) (0 : Int) ([] : List Nat))))))
          (.leaf (.inl false))))
      (.ask (((q14 : Nat) : Int) != (0 : Int))
        (.need (slOk 0 a11 l12) <| .need (ref09_Same_i0 (ref09_Same_F i9 i10 (cutL 0 a11 l12) (0 : Int) (0 : Int) ([] : List Nat))) <| .leaf (.inl (!(ref09_Same_p0_0 (ref09_Same_F i9 i10 (cutL 0 a11 l12) (0 : Int) (0 : Int) ([] : List Nat))))))
        (.leaf (.inl false))))
def law09_ReflectTurns_t16 (b17 : Bool) : T ((Empty) ⊕ (law09_ReflectTurns_X)) :=
  .ask b17
    (.leaf (.inr (.r0 false)))
    (.leaf (.inr (.r0 true)))
noncomputable def law09_ReflectTurns_F (a_0 : Int) (a_1 : Int) (a_3 : List Nat) (at_4 : Int) (from_5 : Int) (h_7 : List Nat) (h_8 : Nat) : Option law09_ReflectTurns_X := toX (seqM ((law09_ReflectTurns_t9 a_3 h_7).run) fun b1 =>
  seqM ((law09_ReflectTurns_t10 a_0 a_1 a_3 at_4 from_5 h_7 h_8 b1).run) fun (e2, i3, i4, a5, l6, l7) =>
  seqM ((law09_ReflectTurns_t11 a_0 a_1 a_3 at_4 from_5 h_7 h_8).run) fun (f8, i9, i10, a11, l12) =>
  seqM ((law09_ReflectTurns_t12 a_0 a_1 a_3 at_4 from_5 h_7).run) fun (p13, q14) =>
  seqM ((law09_ReflectTurns_t13 a_0 a_1 a_3 e2 l6 f8 p13 q14).run) fun b15 =>
  seqM ((law09_ReflectTurns_t14 a_0 a_1 a_3 at_4 from_5 h_7 h_8 i3 i4 a5 l7 p13 b15).run) fun b16 =>
  seqM ((law09_ReflectTurns_t15 a_0 a_1 a_3 at_4 from_5 h_7 h_8 i9 i10 a11 l12 q14 b16).run) fun b17 =>
  (law09_ReflectTurns_t16 b17).run)
theorem law09_ReflectTurns_ok (a_0 : Int) (a_1 : Int) (v_2 : Lv) (a_3 : List Nat) (at_4 : Int) (from_5 : Int) (v_6 : Lv) (h_7 : List Nat) (h_8 : Nat) {x : law09_ReflectTurns_X} (h : law09_ReflectTurns_F a_0 a_1 a_3 at_4 from_5 h_7 h_8 = some x) : Contract prog n_law09_ReflectTurns [] [.agg [.int .i64 a_0, .int .i64 a_1, .imm v_2 (.fl a_3) 1 1 0 (List.length a_3)], .int .i64 at_4, .int .i64 from_5, .agg [.imm v_6 (.fl h_7) 1 1 0 (List.length h_7), .flt false h_8]] (law09_ReflectTurns_o x) :=
  Sg.contract false law09_ReflectTurns_o (by kernel_rfl : prog.funcs[n_law09_ReflectTurns]? = some (FN n_law09_ReflectTurns)) (by kernel_rfl : (FN n_law09_ReflectTurns).body = some (BODY n_law09_ReflectTurns)) (Sg.cut 2 law09_ReflectTurns_hN (Sg.seg (C := C0) C0_ok L_ref09_Right_ok 60 (law09_ReflectTurns_l8.take 2) (entryOf (FN n_law09_ReflectTurns) [] [.agg [.int .i64 a_0, .int .i64 a_1, .imm v_2 (.fl a_3) 1 1 0 (List.length a_3)], .int .i64 at_4, .int .i64 from_5, .agg [.imm v_6 (.fl h_7) 1 1 0 (List.length h_7), .flt false h_8]]) (law09_ReflectTurns_t9 a_3 h_7) (law09_ReflectTurns_n1 a_0 a_1 v_2 a_3 at_4 from_5 v_6 h_7 h_8) law09_ReflectTurns_E [⟨[], [0, 16], [1, 2, 4, 7, 24]⟩, ⟨[], [0, 16], [1, 2, 4, 7, 24]⟩] (by kernel_rfl)) (fun b1 => by exact Sg.cut 3 law09_ReflectTurns_hN (Sg.seg (C := C0) C0_ok L_ref09_Right_ok 60 ((law09_ReflectTurns_l8.drop 2).take 3) (law09_ReflectTurns_n1 a_0 a_1 v_2 a_3 at_4 from_5 v_6 h_7 h_8 b1) (law09_ReflectTurns_t10 a_0 a_1 a_3 at_4 from_5 h_7 h_8 b1) (law09_ReflectTurns_n2 a_0 a_1 v_2 a_3 at_4 from_5 v_6 h_7 h_8) law09_ReflectTurns_E [⟨[], [], [8]⟩, ⟨[(.cell 194 2, 1, 1, .fl ([] : List Nat))], [0, 1, 34, 194, 18, 242], [1, 2, 4, 7, 9, 10, 11]⟩, ⟨[], [0, 1, 34, 194, 18, 130], [1, 2, 4, 7, 9, 10, 11]⟩] (by kernel_rfl)) (fun a => by obtain ⟨e2, i3, i4, a5, l6, l7⟩ := a; exact Sg.cut 1 law09_ReflectTurns_hN (Sg.seg (C := C0) C0_ok L_ref09_Right_ok 60 (((law09_ReflectTurns_l8.drop 2).drop 3).take 1) (law09_ReflectTurns_n2 a_0 a_1 v_2 a_3 at_4 from_5 v_6 h_7 h_8 (e2, i3, i4, a5, l6, l7)) (law09_ReflectTurns_t11 a_0 a_1 a_3 at_4 from_5 h_7 h_8) (law09_ReflectTurns_n3 a_0 a_1 v_2 a_3 at_4 from_5 v_6 h_7 h_8 e2 i3 i4 a5 l6 l7) law09_ReflectTurns_E [⟨[(.cell 134 2, 1, 1, .fl ([] : List Nat))], [0, 1, 2, 3, 134, 4, 5, 182], [1, 2, 4, 7, 9, 10, 11, 12, 13]⟩, ⟨[], [0, 1, 2, 3, 134, 4, 5, 70], [1, 2, 4, 7, 9, 10, 11, 12, 13]⟩] (by kernel_rfl)) (fun a => by obtain ⟨f8, i9, i10, a11, l12⟩ := a; exact Sg.cut 1 law09_ReflectTurns_hN (Sg.seg (C := C0) C0_ok L_ref09_Right_ok 60 ((((law09_ReflectTurns_l8.drop 2).drop 3).drop 1).take 1) (law09_ReflectTurns_n3 a_0 a_1 v_2 a_3 at_4 from_5 v_6 h_7 h_8 e2 i3 i4 a5 l6 l7 (f8, i9, i10, a11, l12)) (law09_ReflectTurns_t12 a_0 a_1 a_3 at_4 from_5 h_7) (law09_ReflectTurns_n4 a_0 a_1 v_2 a_3 at_4 from_5 v_6 h_7 h_8 e2 i3 i4 a5 l6 l7 f8 i9 i10 a11 l12) law09_ReflectTurns_E [⟨[], [0, 1, 2, 3, 4, 5, 6, 7], [1, 2, 4, 7, 9, 10, 11, 12, 13, 14, 15]⟩] (by kernel_rfl)) (fun a => by obtain ⟨p13, q14⟩ := a; exact Sg.cut 1 law09_ReflectTurns_hN (Sg.seg (C := C0) C0_ok L_ref09_Right_ok 60 (((((law09_ReflectTurns_l8.drop 2).drop 3).drop 1).drop 1).take 1) (law09_ReflectTurns_n4 a_0 a_1 v_2 a_3 at_4 from_5 v_6 h_7 h_8 e2 i3 i4 a5 l6 l7 f8 i9 i10 a11 l12 (p13, q14)) (law09_ReflectTurns_t13 a_0 a_1 a_3 e2 l6 f8 p13 q14) (law09_ReflectTurns_n5 a_0 a_1 v_2 a_3 at_4 from_5 v_6 h_7 h_8 i3 i4 a5 l7 i9 i10 a11 l12 p13 q14) law09_ReflectTurns_E [⟨[], [0, 1, 3, 4, 6, 7], [1, 2, 4, 7, 10, 12, 14, 15, 75]⟩, ⟨[], [0, 1, 3, 4, 6, 7], [1, 2, 4, 7, 10, 12, 14, 15, 75]⟩, ⟨[], [0, 1, 3, 4, 6, 7], [1, 2, 4, 7, 10, 12, 14, 15, 75]⟩] (by kernel_rfl)) (fun b15 => by exact Sg.cut 2 law09_ReflectTurns_hN (Sg.seg (C := C0) C0_ok L_ref09_Right_ok 60 ((((((law09_ReflectTurns_l8.drop 2).drop 3).drop 1).drop 1).drop 1).take 2) (law09_ReflectTurns_n5 a_0 a_1 v_2 a_3 at_4 from_5 v_6 h_7 h_8 i3 i4 a5 l7 i9 i10 a11 l12 p13 q14 b15) (law09_ReflectTurns_t14 a_0 a_1 a_3 at_4 from_5 h_7 h_8 i3 i4 a5 l7 p13 b15) (law09_ReflectTurns_n6 a_0 a_1 v_2 a_3 at_4 from_5 v_6 h_7 h_8 i9 i10 a11 l12 q14) law09_ReflectTurns_E [⟨[], [], [8]⟩, ⟨[], [0, 1, 3, 5], [1, 2, 4, 7, 12, 15, 97]⟩, ⟨[], [0, 1, 3, 5], [1, 2, 4, 7, 12, 15, 97]⟩, ⟨[], [0, 1, 3, 5], [1, 2, 4, 7, 12, 15, 97]⟩, ⟨[], [0, 1, 3, 5], [1, 2, 4, 7, 12, 15, 97]⟩, ⟨[], [0, 1, 3, 5], [1, 2, 4, 7, 12, 15, 97]⟩] (by kernel_rfl)) (fun b16 => by exact Sg.cut 2 law09_ReflectTurns_hN (Sg.seg (C := C0) C0_ok L_ref09_Right_ok 60 (((((((law09_ReflectTurns_l8.drop 2).drop 3).drop 1).drop 1).drop 1).drop 2).take 2) (law09_ReflectTurns_n6 a_0 a_1 v_2 a_3 at_4 from_5 v_6 h_7 h_8 i9 i10 a11 l12 q14 b16) (law09_ReflectTurns_t15 a_0 a_1 a_3 at_4 from_5 h_7 h_8 i9 i10 a11 l12 q14 b16) law09_ReflectTurns_n7 law09_ReflectTurns_E [⟨[], [], [8]⟩, ⟨[], [], [119]⟩, ⟨[], [], [119]⟩, ⟨[], [], [119]⟩, ⟨[], [], [119]⟩, ⟨[], [], [119]⟩] (by kernel_rfl)) (fun b17 => by exact Sg.seg (C := C0) C0_ok L_ref09_Right_ok 60 (((((((law09_ReflectTurns_l8.drop 2).drop 3).drop 1).drop 1).drop 1).drop 2).drop 2) (law09_ReflectTurns_n7 b17) (law09_ReflectTurns_t16 b17) (fun a : Empty => a.elim) law09_ReflectTurns_E [⟨[], [], [8]⟩, ⟨[], [], [8]⟩] (by kernel_rfl)))))))))
    (fun x => by cases x with | r0 b18 => exact ⟨.inr rfl, [.bool false b18], [], by kernel_rfl, trivial, by kernel_rfl⟩) h

def law09_ReflectTurns_i0 : Option law09_ReflectTurns_X → Bool
  | some _ => true
  | none => false
def law09_ReflectTurns_p0_0 : Option law09_ReflectTurns_X → Bool
  | some (.r0 x) => x
  | _ => false
theorem law09_ReflectTurns_e0 {x : Option law09_ReflectTurns_X} (h : law09_ReflectTurns_i0 x = true) : x = some (.r0 (law09_ReflectTurns_p0_0 x)) := by
  unfold law09_ReflectTurns_i0 at h
  split at h <;> first | rfl | (cases h; done) | (rename_i y; cases y; rfl)
noncomputable def e_law09_ReflectTurns : Entry := autoE n_law09_ReflectTurns (.cons (.agg (.cons (.int .i64) (.cons (.int .i64) (.cons .fl .nil)))) (.cons (.int .i64) (.cons (.int .i64) (.cons (.agg (.cons .fl (.cons (.flt false) .nil))) .nil)))) fun t => [⟨law09_ReflectTurns_o (.r0 (law09_ReflectTurns_p0_0 (law09_ReflectTurns_F t.1.1 t.1.2.1 t.1.2.2.1.2 t.2.1 t.2.2.1 t.2.2.2.1.1.2 t.2.2.2.1.2.1))), [law09_ReflectTurns_i0 (law09_ReflectTurns_F t.1.1 t.1.2.1 t.1.2.2.1.2 t.2.1 t.2.2.1 t.2.2.2.1.1.2 t.2.2.2.1.2.1)]⟩]
theorem e_law09_ReflectTurns_ok : EntryOk prog e_law09_ReflectTurns := autoE_ok fun t => (altsCons (fun h => law09_ReflectTurns_ok t.1.1 t.1.2.1 t.1.2.2.1.1 t.1.2.2.1.2 t.2.1 t.2.2.1 t.2.2.2.1.1.1 t.2.2.2.1.1.2 t.2.2.2.1.2.1 (law09_ReflectTurns_e0 h)) altsNil)
noncomputable def L_law09_ReflectTurns : List Entry := e_law09_ReflectTurns :: L_ref09_Right
theorem L_law09_ReflectTurns_ok : SumsOk prog (sumsOf L_law09_ReflectTurns) := sumsOf_cons e_law09_ReflectTurns_ok L_ref09_Right_ok

inductive law09_total_X where
  | r0 (i6 : Int)
def law09_total_E : law09_total_X → AE × ASt
  | .r0 i6 => (.ret, ⟨slots 20 [(2, .int .i64 i6)], [], 0⟩)
theorem law09_total_hN : NoN law09_total_E := by intro x; cases x <;> (intro h; cases h)
theorem law09_total_hI (id : Nat) : NoId id law09_total_E := by intro x; cases x <;> (intro h; cases h)
def law09_total_o : law09_total_X → Out
  | .r0 i6 => ⟨.int .i64 i6, []⟩
noncomputable def law09_total_l7 : List Code := flat (BODY n_law09_total)
def law09_total_n1 (v_0 : Lv) (l_1 : Nat) (l_2 : List (List Nat)) (l_3 : List Nat) (_ : Unit) : ASt := ⟨slots 20 [(0, .imm v_0 (.cols l_1 [.cfl l_2, .cf l_3]) 2 2 0 l_1), (3, .int .i64 (0 : Int)), (4, .int .i64 (0 : Int))], [], 0⟩
def law09_total_t8 : T ((Unit) ⊕ (law09_total_X)) :=
  .leaf (.inl ())
def law09_total_n4 (v_0 : Lv) (l_1 : Nat) (l_2 : List (List Nat)) (l_3 : List Nat) : Int × Int → ASt := fun (n3, i4) => ⟨slots 20 [(0, .imm v_0 (.cols l_1 [.cfl l_2, .cf l_3]) 2 2 0 l_1), (3, .int .i64 n3), (4, .int .i64 i4)], [], 0⟩
def law09_total_n5 (n5 : Int) : ASt := ⟨slots 20 [(3, .int .i64 n5)], [], 0⟩
noncomputable def law09_total_l9 : List Code := flat (inLoop ((((law09_total_l7.drop 3).take 1)).headD .skip))
def law09_total_t10 (l_1 : Nat) (l_2 : List (List Nat)) (n3 : Int) (i4 : Int) : T ((Int × Int) ⊕ ((Int) ⊕ (law09_total_X))) :=
  .ask (decide (i4 < ((l_1 : Nat) : Int)))
    (.need (inB i4 l_1) <| .need (ltB (Int.toNat i4) (List.length l_2)) <| .leaf (.inl ((IntKind.i64.wrap (n3 + (((List.length (List.getD l_2 (Int.toNat i4) [])) : Nat) : Int))), (IntKind.i64.wrap (i4 + (1 : Int))))))
    (.leaf (.inr (.inl n3)))
noncomputable def law09_total_m11 (l_1 : Nat) (l_2 : List (List Nat)) : Int × Int → Option ((Int × Int) ⊕ ((Int) ⊕ (law09_total_X))) := fun (n3, i4) =>
  (law09_total_t10 l_1 l_2 n3 i4).run
theorem law09_total_s11 (v_0 : Lv) (l_1 : Nat) (l_2 : List (List Nat)) (l_3 : List Nat) (n3 : Int) (i4 : Int) : Sg prog [] law09_total_l9 (law09_total_n4 v_0 l_1 l_2 l_3 (n3, i4)) (law09_total_m11 l_1 l_2 (n3, i4)) (law09_total_n4 v_0 l_1 l_2 l_3) (exitE 0 law09_total_n5 law09_total_E) :=
  Sg.seg (C := C0w) C0w_ok L_law09_ReflectTurns_ok 60 law09_total_l9 (law09_total_n4 v_0 l_1 l_2 l_3 (n3, i4)) (law09_total_t10 l_1 l_2 n3 i4) (law09_total_n4 v_0 l_1 l_2 l_3) (exitE 0 law09_total_n5 law09_total_E) [⟨[], [], [0, 3, 4]⟩, ⟨[], [], [3]⟩] (by kernel_rfl)
def law09_total_n6 : Int → ASt := law09_total_n5
def law09_total_t12 (n5 : Int) : T ((Empty) ⊕ (law09_total_X)) :=
  .leaf (.inr (.r0 n5))
noncomputable def law09_total_F (l_1 : Nat) (l_2 : List (List Nat)) : Option law09_total_X := toX (seqM ((law09_total_t8).run) fun _ =>
  seqM (loopM (law09_total_m11 l_1 l_2) ((0 : Int), (0 : Int))) fun n5 =>
  (law09_total_t12 n5).run)
theorem law09_total_ok (v_0 : Lv) (l_1 : Nat) (l_2 : List (List Nat)) (l_3 : List Nat) {x : law09_total_X} (h : law09_total_F l_1 l_2 = some x) : Contract prog n_law09_total [] [.imm v_0 (.cols l_1 [.cfl l_2, .cf l_3]) 2 2 0 l_1] (law09_total_o x) :=
  Sg.contract false law09_total_o (by kernel_rfl : prog.funcs[n_law09_total]? = some (FN n_law09_total)) (by kernel_rfl : (FN n_law09_total).body = some (BODY n_law09_total)) (Sg.cut 3 law09_total_hN (Sg.seg (C := C0w) C0w_ok L_law09_ReflectTurns_ok 60 (law09_total_l7.take 3) (entryOf (FN n_law09_total) [] [.imm v_0 (.cols l_1 [.cfl l_2, .cf l_3]) 2 2 0 l_1]) (law09_total_t8) (law09_total_n1 v_0 l_1 l_2 l_3) law09_total_E [⟨[], [], [0, 3, 4]⟩] (by kernel_rfl)) (fun a => by cases a; exact Sg.cut 1 law09_total_hN (Sg.pre ⟨[], [], [0, 3, 4]⟩ rfl (by kernel_rfl : NS.on ⟨[], [], [0, 3, 4]⟩ (law09_total_n1 v_0 l_1 l_2 l_3 ()) = (law09_total_n4 v_0 l_1 l_2 l_3) ((0 : Int), (0 : Int))) (Sg.loopAt (I := (law09_total_n4 v_0 l_1 l_2 l_3)) (J := (law09_total_n5)) (id := 0) (by kernel_rfl : ((law09_total_l7.drop 3).take 1) = [.block 0 (.loop (inLoop ((((law09_total_l7.drop 3).take 1)).headD .skip)))]) law09_total_hN (law09_total_hI _) (fun s => by obtain ⟨n3, i4⟩ := s; exact law09_total_s11 v_0 l_1 l_2 l_3 n3 i4) ((0 : Int), (0 : Int)))) (fun n5 => by exact Sg.seg (C := C0w) C0w_ok L_law09_ReflectTurns_ok 60 ((law09_total_l7.drop 3).drop 1) (law09_total_n6 n5) (law09_total_t12 n5) (fun a : Empty => a.elim) law09_total_E [⟨[], [], [2]⟩] (by kernel_rfl))))
    (fun x => by cases x with | r0 i6 => exact ⟨.inr rfl, [.int .i64 i6], [], by kernel_rfl, trivial, by kernel_rfl⟩) h

def law09_total_i0 : Option law09_total_X → Bool
  | some _ => true
  | none => false
def law09_total_p0_0 : Option law09_total_X → Int
  | some (.r0 x) => x
  | _ => 0
theorem law09_total_e0 {x : Option law09_total_X} (h : law09_total_i0 x = true) : x = some (.r0 (law09_total_p0_0 x)) := by
  unfold law09_total_i0 at h
  split at h <;> first | rfl | (cases h; done) | (rename_i y; cases y; rfl)
noncomputable def e_law09_total : Entry := autoE n_law09_total (.cons (.cols [.cfl, .cf]) .nil) fun t => [⟨law09_total_o (.r0 (law09_total_p0_0 (law09_total_F t.1.2.1 t.1.2.2.1))), [law09_total_i0 (law09_total_F t.1.2.1 t.1.2.2.1)]⟩]
theorem e_law09_total_ok : EntryOk prog e_law09_total := autoE_ok fun t => (altsCons (fun h => law09_total_ok t.1.1 t.1.2.1 t.1.2.2.1 t.1.2.2.2.1 (law09_total_e0 h)) altsNil)
noncomputable def L_law09_total : List Entry := e_law09_total :: L_law09_ReflectTurns
theorem L_law09_total_ok : SumsOk prog (sumsOf L_law09_total) := sumsOf_cons e_law09_total_ok L_law09_ReflectTurns_ok

inductive slices_IndexFunc_X where
  | r0 (i2 : Int)
def slices_IndexFunc_E : slices_IndexFunc_X → AE × ASt
  | .r0 i2 => (.ret, ⟨slots 19 [(4, .int .i64 i2)], [], 0⟩)
theorem slices_IndexFunc_hN : NoN slices_IndexFunc_E := by intro x; cases x <;> (intro h; cases h)
theorem slices_IndexFunc_hI (id : Nat) : NoId id slices_IndexFunc_E := by intro x; cases x <;> (intro h; cases h)
def slices_IndexFunc_o : slices_IndexFunc_X → Out
  | .r0 i2 => ⟨.int .i64 i2, []⟩
noncomputable def slices_IndexFunc_l6 : List Code := flat (BODY n_slices_IndexFunc)
def slices_IndexFunc_n1 (v_0 : Lv) (s_1 : Nat) (s_2 : List (List Nat)) (s_3 : List Nat) (v_4 : Lv) (v_5 : Lv) (f_6 : Nat) (f_7 : List (List Nat)) (f_8 : List Nat) (_ : Unit) : ASt := ⟨slots 19 [(0, .imm v_0 (.cols s_1 [.cfl s_2, .cf s_3]) 2 2 0 s_1), (1, .fn (.func n_reflect_alike_1) [] [.iptr v_4 (.vs [.imm v_5 (.cols f_6 [.cfl f_7, .cf f_8]) 2 2 0 f_6]) 1 0 0]), (7, .int .i64 ((s_1 : Nat) : Int)), (8, .int .i64 (0 : Int))], [], 0⟩
def slices_IndexFunc_t7 : T ((Unit) ⊕ (slices_IndexFunc_X)) :=
  .leaf (.inl ())
def slices_IndexFunc_n3 (v_0 : Lv) (s_1 : Nat) (s_2 : List (List Nat)) (s_3 : List Nat) (v_4 : Lv) (v_5 : Lv) (f_6 : Nat) (f_7 : List (List Nat)) (f_8 : List Nat) (a1 : Nat) : ASt := ⟨slots 19 [(0, .imm v_0 (.cols s_1 [.cfl s_2, .cf s_3]) 2 2 0 s_1), (1, .fn (.func n_reflect_alike_1) [] [.iptr v_4 (.vs [.imm v_5 (.cols f_6 [.cfl f_7, .cf f_8]) 2 2 0 f_6]) 1 0 0]), (7, .int .i64 ((s_1 : Nat) : Int)), (8, .int .i64 ((a1 : Nat) : Int))], [], 0⟩
def slices_IndexFunc_n4 (_ : Unit) : ASt := ⟨slots 19 [], [], 0⟩
noncomputable def slices_IndexFunc_l8 : List Code := flat (inLoop ((((slices_IndexFunc_l6.drop 2).take 1)).headD .skip))
def slices_IndexFunc_t9 (s_1 : Nat) (s_2 : List (List Nat)) (s_3 : List Nat) (f_6 : Nat) (f_7 : List (List Nat)) (a1 : Nat) : T ((Nat) ⊕ ((Unit) ⊕ (slices_IndexFunc_X))) :=
  .ask (decide (((a1 : Nat) : Int) < ((s_1 : Nat) : Int)))
    (.need (inB ((a1 : Nat) : Int) s_1) <| .need (ltB a1 (List.length s_2)) <| .need (ltB a1 (List.length s_3)) <| .need (inB (0 : Int) f_6) <| .need (ltB 0 (List.length f_7)) <| .ask ((((List.length (List.getD s_2 a1 [])) : Nat) : Int) != (((List.length (List.getD f_7 0 [])) : Nat) : Int))
      (.leaf (.inr (.inr (.r0 ((a1 : Nat) : Int)))))
      (.need (inK .i64 (((a1 + 1) : Nat) : Int)) <| .leaf (.inl (a1 + 1))))
    (.leaf (.inr (.inl ())))
noncomputable def slices_IndexFunc_m10 (s_1 : Nat) (s_2 : List (List Nat)) (s_3 : List Nat) (f_6 : Nat) (f_7 : List (List Nat)) : Nat → Option ((Nat) ⊕ ((Unit) ⊕ (slices_IndexFunc_X))) := fun a1 =>
  (slices_IndexFunc_t9 s_1 s_2 s_3 f_6 f_7 a1).run
theorem slices_IndexFunc_s10 (v_0 : Lv) (s_1 : Nat) (s_2 : List (List Nat)) (s_3 : List Nat) (v_4 : Lv) (v_5 : Lv) (f_6 : Nat) (f_7 : List (List Nat)) (f_8 : List Nat) (a1 : Nat) : Sg prog [] slices_IndexFunc_l8 (slices_IndexFunc_n3 v_0 s_1 s_2 s_3 v_4 v_5 f_6 f_7 f_8 a1) (slices_IndexFunc_m10 s_1 s_2 s_3 f_6 f_7 a1) (slices_IndexFunc_n3 v_0 s_1 s_2 s_3 v_4 v_5 f_6 f_7 f_8) (exitE 0 slices_IndexFunc_n4 slices_IndexFunc_E) :=
  Sg.seg (C := C0) C0_ok L_law09_total_ok 60 slices_IndexFunc_l8 (slices_IndexFunc_n3 v_0 s_1 s_2 s_3 v_4 v_5 f_6 f_7 f_8 a1) (slices_IndexFunc_t9 s_1 s_2 s_3 f_6 f_7 a1) (slices_IndexFunc_n3 v_0 s_1 s_2 s_3 v_4 v_5 f_6 f_7 f_8) (exitE 0 slices_IndexFunc_n4 slices_IndexFunc_E) [⟨[], [], [4]⟩, ⟨[], [], [0, 1, 7, 8]⟩, ⟨[], [], []⟩] (by kernel_rfl)
def slices_IndexFunc_n5 : Unit → ASt := slices_IndexFunc_n4
def slices_IndexFunc_t11 : T ((Empty) ⊕ (slices_IndexFunc_X)) :=
  .leaf (.inr (.r0 (-1 : Int)))
noncomputable def slices_IndexFunc_F (s_1 : Nat) (s_2 : List (List Nat)) (s_3 : List Nat) (f_6 : Nat) (f_7 : List (List Nat)) : Option slices_IndexFunc_X := toX (seqM ((slices_IndexFunc_t7).run) fun _ =>
  seqM (loopM (slices_IndexFunc_m10 s_1 s_2 s_3 f_6 f_7) 0) fun _ =>
  (slices_IndexFunc_t11).run)
theorem slices_IndexFunc_ok (v_0 : Lv) (s_1 : Nat) (s_2 : List (List Nat)) (s_3 : List Nat) (v_4 : Lv) (v_5 : Lv) (f_6 : Nat) (f_7 : List (List Nat)) (f_8 : List Nat) {x : slices_IndexFunc_X} (h : slices_IndexFunc_F s_1 s_2 s_3 f_6 f_7 = some x) : Contract prog n_slices_IndexFunc [] [.imm v_0 (.cols s_1 [.cfl s_2, .cf s_3]) 2 2 0 s_1, .fn (.func n_reflect_alike_1) [] [.iptr v_4 (.vs [.imm v_5 (.cols f_6 [.cfl f_7, .cf f_8]) 2 2 0 f_6]) 1 0 0]] (slices_IndexFunc_o x) :=
  Sg.contract false slices_IndexFunc_o (by kernel_rfl : prog.funcs[n_slices_IndexFunc]? = some (FN n_slices_IndexFunc)) (by kernel_rfl : (FN n_slices_IndexFunc).body = some (BODY n_slices_IndexFunc)) (Sg.cut 2 slices_IndexFunc_hN (Sg.seg (C := C0) C0_ok L_law09_total_ok 60 (slices_IndexFunc_l6.take 2) (entryOf (FN n_slices_IndexFunc) [] [.imm v_0 (.cols s_1 [.cfl s_2, .cf s_3]) 2 2 0 s_1, .fn (.func n_reflect_alike_1) [] [.iptr v_4 (.vs [.imm v_5 (.cols f_6 [.cfl f_7, .cf f_8]) 2 2 0 f_6]) 1 0 0]]) (slices_IndexFunc_t7) (slices_IndexFunc_n1 v_0 s_1 s_2 s_3 v_4 v_5 f_6 f_7 f_8) slices_IndexFunc_E [⟨[], [], [0, 1, 7, 8]⟩] (by kernel_rfl)) (fun a => by cases a; exact Sg.cut 1 slices_IndexFunc_hN (Sg.pre ⟨[], [], [0, 1, 7, 8]⟩ rfl (by kernel_rfl : NS.on ⟨[], [], [0, 1, 7, 8]⟩ (slices_IndexFunc_n1 v_0 s_1 s_2 s_3 v_4 v_5 f_6 f_7 f_8 ()) = (slices_IndexFunc_n3 v_0 s_1 s_2 s_3 v_4 v_5 f_6 f_7 f_8) 0) (Sg.loopAt (I := (slices_IndexFunc_n3 v_0 s_1 s_2 s_3 v_4 v_5 f_6 f_7 f_8)) (J := (slices_IndexFunc_n4)) (id := 0) (by kernel_rfl : ((slices_IndexFunc_l6.drop 2).take 1) = [.block 0 (.loop (inLoop ((((slices_IndexFunc_l6.drop 2).take 1)).headD .skip)))]) slices_IndexFunc_hN (slices_IndexFunc_hI _) (fun s => by exact slices_IndexFunc_s10 v_0 s_1 s_2 s_3 v_4 v_5 f_6 f_7 f_8 s) 0)) (fun a => by cases a; exact Sg.seg (C := C0) C0_ok L_law09_total_ok 60 ((slices_IndexFunc_l6.drop 2).drop 1) (slices_IndexFunc_n5 ()) (slices_IndexFunc_t11) (fun a : Empty => a.elim) slices_IndexFunc_E [⟨[], [], [4]⟩] (by kernel_rfl))))
    (fun x => by cases x with | r0 i2 => exact ⟨.inr rfl, [.int .i64 i2], [], by kernel_rfl, trivial, by kernel_rfl⟩) h

def slices_IndexFunc_i0 : Option slices_IndexFunc_X → Bool
  | some _ => true
  | none => false
def slices_IndexFunc_p0_0 : Option slices_IndexFunc_X → Int
  | some (.r0 x) => x
  | _ => 0
theorem slices_IndexFunc_e0 {x : Option slices_IndexFunc_X} (h : slices_IndexFunc_i0 x = true) : x = some (.r0 (slices_IndexFunc_p0_0 x)) := by
  unfold slices_IndexFunc_i0 at h
  split at h <;> first | rfl | (cases h; done) | (rename_i y; cases y; rfl)
noncomputable def e_slices_IndexFunc : Entry := autoE n_slices_IndexFunc (.cons (.cols [.cfl, .cf]) (.cons (.fn n_reflect_alike_1 .nil (.cons (.ivs (.cons (.cols [.cfl, .cf]) .nil) 1 0 0) .nil)) .nil)) fun t => [⟨slices_IndexFunc_o (.r0 (slices_IndexFunc_p0_0 (slices_IndexFunc_F t.1.2.1 t.1.2.2.1 t.1.2.2.2.1 t.2.1.2.1.2.1.2.1 t.2.1.2.1.2.1.2.2.1))), [slices_IndexFunc_i0 (slices_IndexFunc_F t.1.2.1 t.1.2.2.1 t.1.2.2.2.1 t.2.1.2.1.2.1.2.1 t.2.1.2.1.2.1.2.2.1)]⟩]
theorem e_slices_IndexFunc_ok : EntryOk prog e_slices_IndexFunc := autoE_ok fun t => (altsCons (fun h => slices_IndexFunc_ok t.1.1 t.1.2.1 t.1.2.2.1 t.1.2.2.2.1 t.2.1.2.1.1 t.2.1.2.1.2.1.1 t.2.1.2.1.2.1.2.1 t.2.1.2.1.2.1.2.2.1 t.2.1.2.1.2.1.2.2.2.1 (slices_IndexFunc_e0 h)) altsNil)
noncomputable def L_slices_IndexFunc : List Entry := e_slices_IndexFunc :: L_law09_total
theorem L_slices_IndexFunc_ok : SumsOk prog (sumsOf L_slices_IndexFunc) := sumsOf_cons e_slices_IndexFunc_ok L_law09_total_ok

inductive reflect_alike_X where
  | r0 (b2 : Bool)
def reflect_alike_E : reflect_alike_X → AE × ASt
  | .r0 b2 => (.ret, ⟨slots 20 [(2, .bool false b2)], [], 0⟩)
theorem reflect_alike_hN : NoN reflect_alike_E := by intro x; cases x <;> (intro h; cases h)
theorem reflect_alike_hI (id : Nat) : NoId id reflect_alike_E := by intro x; cases x <;> (intro h; cases h)
def reflect_alike_o : reflect_alike_X → Out
  | .r0 b2 => ⟨.bool false b2, []⟩
noncomputable def reflect_alike_l2 : List Code := flat (BODY n_reflect_alike)
def reflect_alike_n1 (b1 : Bool) : ASt := ⟨slots 20 [(2, .bool false b1)], [], 0⟩
def reflect_alike_t3 (l_1 : Nat) (l_2 : List (List Nat)) (l_3 : List Nat) : T ((Bool) ⊕ (reflect_alike_X)) :=
  .ask (decide (((l_1 : Nat) : Int) > (0 : Int)))
    (.need (inB (0 : Int) l_1) <| .need (ltB 0 (List.length l_2)) <| .ask (decide ((((List.length (List.getD l_2 0 [])) : Nat) : Int) > (0 : Int)))
      (.need (Nat.ble (0 + l_1) l_1) <| .need (Nat.ble (0 + l_1) l_1) <| .need (slices_IndexFunc_i0 (slices_IndexFunc_F l_1 (cutL 0 l_1 l_2) (cutL 0 l_1 l_3) l_1 (cutL 0 l_1 l_2))) <| .leaf (.inl (!(decide ((slices_IndexFunc_p0_0 (slices_IndexFunc_F l_1 (cutL 0 l_1 l_2) (cutL 0 l_1 l_3) l_1 (cutL 0 l_1 l_2))) ≥ (0 : Int))))))
      (.leaf (.inl false)))
    (.leaf (.inl false))
def reflect_alike_t4 (b1 : Bool) : T ((Empty) ⊕ (reflect_alike_X)) :=
  .leaf (.inr (.r0 b1))
noncomputable def reflect_alike_F (l_1 : Nat) (l_2 : List (List Nat)) (l_3 : List Nat) : Option reflect_alike_X := toX (seqM ((reflect_alike_t3 l_1 l_2 l_3).run) fun b1 =>
  (reflect_alike_t4 b1).run)
theorem reflect_alike_ok (v_0 : Lv) (l_1 : Nat) (l_2 : List (List Nat)) (l_3 : List Nat) {x : reflect_alike_X} (h : reflect_alike_F l_1 l_2 l_3 = some x) : Contract prog n_reflect_alike [] [.imm v_0 (.cols l_1 [.cfl l_2, .cf l_3]) 2 2 0 l_1] (reflect_alike_o x) :=
  Sg.contract false reflect_alike_o (by kernel_rfl : prog.funcs[n_reflect_alike]? = some (FN n_reflect_alike)) (by kernel_rfl : (FN n_reflect_alike).body = some (BODY n_reflect_alike)) (Sg.cut 2 reflect_alike_hN (Sg.seg (C := C0) C0_ok L_slices_IndexFunc_ok 60 (reflect_alike_l2.take 2) (entryOf (FN n_reflect_alike) [] [.imm v_0 (.cols l_1 [.cfl l_2, .cf l_3]) 2 2 0 l_1]) (reflect_alike_t3 l_1 l_2 l_3) reflect_alike_n1 reflect_alike_E [⟨[], [], [2]⟩, ⟨[], [], [2]⟩, ⟨[], [], [2]⟩] (by kernel_rfl)) (fun b1 => by exact Sg.seg (C := C0) C0_ok L_slices_IndexFunc_ok 60 (reflect_alike_l2.drop 2) (reflect_alike_n1 b1) (reflect_alike_t4 b1) (fun a : Empty => a.elim) reflect_alike_E [⟨[], [], [2]⟩] (by kernel_rfl)))
    (fun x => by cases x with | r0 b2 => exact ⟨.inr rfl, [.bool false b2], [], by kernel_rfl, trivial, by kernel_rfl⟩) h

def reflect_alike_i0 : Option reflect_alike_X → Bool
  | some _ => true
  | none => false
def reflect_alike_p0_0 : Option reflect_alike_X → Bool
  | some (.r0 x) => x
  | _ => false
theorem reflect_alike_e0 {x : Option reflect_alike_X} (h : reflect_alike_i0 x = true) : x = some (.r0 (reflect_alike_p0_0 x)) := by
  unfold reflect_alike_i0 at h
  split at h <;> first | rfl | (cases h; done) | (rename_i y; cases y; rfl)
noncomputable def e_reflect_alike : Entry := autoE n_reflect_alike (.cons (.cols [.cfl, .cf]) .nil) fun t => [⟨reflect_alike_o (.r0 (reflect_alike_p0_0 (reflect_alike_F t.1.2.1 t.1.2.2.1 t.1.2.2.2.1))), [reflect_alike_i0 (reflect_alike_F t.1.2.1 t.1.2.2.1 t.1.2.2.2.1)]⟩]
theorem e_reflect_alike_ok : EntryOk prog e_reflect_alike := autoE_ok fun t => (altsCons (fun h => reflect_alike_ok t.1.1 t.1.2.1 t.1.2.2.1 t.1.2.2.2.1 (reflect_alike_e0 h)) altsNil)
noncomputable def L_reflect_alike : List Entry := e_reflect_alike :: L_slices_IndexFunc
theorem L_reflect_alike_ok : SumsOk prog (sumsOf L_reflect_alike) := sumsOf_cons e_reflect_alike_ok L_slices_IndexFunc_ok

inductive reflect_sum_v3_X where
  | r0 (a4 : Nat)
def reflect_sum_v3_E : reflect_sum_v3_X → AE × ASt
  | .r0 a4 => (.ret, ⟨slots 18 [(4, .flt false a4)], [], 0⟩)
theorem reflect_sum_v3_hN : NoN reflect_sum_v3_E := by intro x; cases x <;> (intro h; cases h)
theorem reflect_sum_v3_hI (id : Nat) : NoId id reflect_sum_v3_E := by intro x; cases x <;> (intro h; cases h)
def reflect_sum_v3_o : reflect_sum_v3_X → Out
  | .r0 a4 => ⟨.flt false a4, []⟩
noncomputable def reflect_sum_v3_l6 : List Code := flat (BODY n_reflect_sum)
def reflect_sum_v3_n1 (n_0 : Int) (v_1 : Lv) (v_2 : Lv) (one_3 : Nat) (one_4 : List (List Nat)) (one_5 : List Nat) (v_6 : Lv) (one_7 : Int) (v_8 : Lv) (v_9 : Lv) (one_10 : List Nat) (one_11 : Nat) (_ : Unit) : ASt := ⟨slots 18 [(1, .fn (.func n_reflect_Factor_1) [] [.iptr v_1 (.vs [.imm v_2 (.cols one_3 [.cfl one_4, .cf one_5]) 2 2 0 one_3]) 1 0 0, .iptr v_6 (.vs [.int .i64 one_7]) 1 0 0, .iptr v_8 (.vs [.imm v_9 (.fl one_10) 1 1 0 (List.length one_10), .flt false one_11]) 1 0 0]), (5, .flt false 0), (7, .int .i64 n_0), (8, .int .i64 (0 : Int))], [], 0⟩
def reflect_sum_v3_t7 : T ((Unit) ⊕ (reflect_sum_v3_X)) :=
  .leaf (.inl ())
def reflect_sum_v3_n3 (n_0 : Int) (v_1 : Lv) (v_2 : Lv) (one_3 : Nat) (one_4 : List (List Nat)) (one_5 : List Nat) (v_6 : Lv) (one_7 : Int) (v_8 : Lv) (v_9 : Lv) (one_10 : List Nat) (one_11 : Nat) : Nat × Nat → ASt := fun (s1, a2) => ⟨slots 18 [(1, .fn (.func n_reflect_Factor_1) [] [.iptr v_1 (.vs [.imm v_2 (.cols one_3 [.cfl one_4, .cf one_5]) 2 2 0 one_3]) 1 0 0, .iptr v_6 (.vs [.int .i64 one_7]) 1 0 0, .iptr v_8 (.vs [.imm v_9 (.fl one_10) 1 1 0 (List.length one_10), .flt false one_11]) 1 0 0]), (5, .flt false s1), (7, .int .i64 n_0), (8, .int .i64 ((a2 : Nat) : Int))], [], 0⟩
def reflect_sum_v3_n4 (s3 : Nat) : ASt := ⟨slots 18 [(5, .flt false s3)], [], 0⟩
noncomputable def reflect_sum_v3_l8 : List Code := flat (inLoop ((((reflect_sum_v3_l6.drop 3).take 1)).headD .skip))
def reflect_sum_v3_t9 (n_0 : Int) (one_3 : Nat) (one_4 : List (List Nat)) (one_7 : Int) (one_10 : List Nat) (s1 : Nat) (a2 : Nat) : T ((Nat × Nat) ⊕ ((Nat) ⊕ (reflect_sum_v3_X))) :=
  .ask (decide (((a2 : Nat) : Int) < n_0))
    (.need (inB one_7 one_3) <| .need (ltB (Int.toNat one_7) (List.length one_4)) <| .need (inB ((a2 : Nat) : Int) (List.length (List.getD one_4 (Int.toNat one_7) []))) <| .need (ltB a2 (List.length (List.getD one_4 (Int.toNat one_7) []))) <| .need (inB ((a2 : Nat) : Int) (List.length one_10)) <| .need (ltB a2 (List.length one_10)) <| .need (inK .i64 (((a2 + 1) : Nat) : Int)) <| .leaf (.inl ((fadd s1 (fmul (List.getD (List.getD one_4 (Int.toNat one_7) []) a2 0) (List.getD one_10 a2 0))), (a2 + 1))))
    (.leaf (.inr (.inl s1)))
noncomputable def reflect_sum_v3_m10 (n_0 : Int) (one_3 : Nat) (one_4 : List (List Nat)) (one_7 : Int) (one_10 : List Nat) : Nat × Nat → Option ((Nat × Nat) ⊕ ((Nat) ⊕ (reflect_sum_v3_X))) := fun (s1, a2) =>
  (reflect_sum_v3_t9 n_0 one_3 one_4 one_7 one_10 s1 a2).run
theorem reflect_sum_v3_s10 (n_0 : Int) (v_1 : Lv) (v_2 : Lv) (one_3 : Nat) (one_4 : List (List Nat)) (one_5 : List Nat) (v_6 : Lv) (one_7 : Int) (v_8 : Lv) (v_9 : Lv) (one_10 : List Nat) (one_11 : Nat) (s1 : Nat) (a2 : Nat) : Sg prog [] reflect_sum_v3_l8 (reflect_sum_v3_n3 n_0 v_1 v_2 one_3 one_4 one_5 v_6 one_7 v_8 v_9 one_10 one_11 (s1, a2)) (reflect_sum_v3_m10 n_0 one_3 one_4 one_7 one_10 (s1, a2)) (reflect_sum_v3_n3 n_0 v_1 v_2 one_3 one_4 one_5 v_6 one_7 v_8 v_9 one_10 one_11) (exitE 0 reflect_sum_v3_n4 reflect_sum_v3_E) :=
  Sg.seg (C := C0) C0_ok L_reflect_alike_ok 60 reflect_sum_v3_l8 (reflect_sum_v3_n3 n_0 v_1 v_2 one_3 one_4 one_5 v_6 one_7 v_8 v_9 one_10 one_11 (s1, a2)) (reflect_sum_v3_t9 n_0 one_3 one_4 one_7 one_10 s1 a2) (reflect_sum_v3_n3 n_0 v_1 v_2 one_3 one_4 one_5 v_6 one_7 v_8 v_9 one_10 one_11) (exitE 0 reflect_sum_v3_n4 reflect_sum_v3_E) [⟨[], [], [1, 5, 7, 8]⟩, ⟨[], [], [5]⟩] (by kernel_rfl)
def reflect_sum_v3_n5 : Nat → ASt := reflect_sum_v3_n4
def reflect_sum_v3_t11 (s3 : Nat) : T ((Empty) ⊕ (reflect_sum_v3_X)) :=
  .leaf (.inr (.r0 s3))
noncomputable def reflect_sum_v3_F (n_0 : Int) (one_3 : Nat) (one_4 : List (List Nat)) (one_7 : Int) (one_10 : List Nat) : Option reflect_sum_v3_X := toX (seqM ((reflect_sum_v3_t7).run) fun _ =>
  seqM (loopM (reflect_sum_v3_m10 n_0 one_3 one_4 one_7 one_10) (0, 0)) fun s3 =>
  (reflect_sum_v3_t11 s3).run)
theorem reflect_sum_v3_ok (n_0 : Int) (v_1 : Lv) (v_2 : Lv) (one_3 : Nat) (one_4 : List (List Nat)) (one_5 : List Nat) (v_6 : Lv) (one_7 : Int) (v_8 : Lv) (v_9 : Lv) (one_10 : List Nat) (one_11 : Nat) {x : reflect_sum_v3_X} (h : reflect_sum_v3_F n_0 one_3 one_4 one_7 one_10 = some x) : Contract prog n_reflect_sum [] [.int .i64 n_0, .fn (.func n_reflect_Factor_1) [] [.iptr v_1 (.vs [.imm v_2 (.cols one_3 [.cfl one_4, .cf one_5]) 2 2 0 one_3]) 1 0 0, .iptr v_6 (.vs [.int .i64 one_7]) 1 0 0, .iptr v_8 (.vs [.imm v_9 (.fl one_10) 1 1 0 (List.length one_10), .flt false one_11]) 1 0 0]] (reflect_sum_v3_o x) :=
  Sg.contract false reflect_sum_v3_o (by kernel_rfl : prog.funcs[n_reflect_sum]? = some (FN n_reflect_sum)) (by kernel_rfl : (FN n_reflect_sum).body = some (BODY n_reflect_sum)) (Sg.cut 3 reflect_sum_v3_hN (Sg.seg (C := C0) C0_ok L_reflect_alike_ok 60 (reflect_sum_v3_l6.take 3) (entryOf (FN n_reflect_sum) [] [.int .i64 n_0, .fn (.func n_reflect_Factor_1) [] [.iptr v_1 (.vs [.imm v_2 (.cols one_3 [.cfl one_4, .cf one_5]) 2 2 0 one_3]) 1 0 0, .iptr v_6 (.vs [.int .i64 one_7]) 1 0 0, .iptr v_8 (.vs [.imm v_9 (.fl one_10) 1 1 0 (List.length one_10), .flt false one_11]) 1 0 0]]) (reflect_sum_v3_t7) (reflect_sum_v3_n1 n_0 v_1 v_2 one_3 one_4 one_5 v_6 one_7 v_8 v_9 one_10 one_11) reflect_sum_v3_E [⟨[], [], [1, 5, 7, 8]⟩] (by kernel_rfl)) (fun a => by cases a; exact Sg.cut 1 reflect_sum_v3_hN (Sg.pre ⟨[], [], [1, 5, 7, 8]⟩ rfl (by kernel_rfl : NS.on ⟨[], [], [1, 5, 7, 8]⟩ (reflect_sum_v3_n1 n_0 v_1 v_2 one_3 one_4 one_5 v_6 one_7 v_8 v_9 one_10 one_11 ()) = (reflect_sum_v3_n3 n_0 v_1 v_2 one_3 one_4 one_5 v_6 one_7 v_8 v_9 one_10 one_11) (0, 0)) (Sg.loopAt (I := (reflect_sum_v3_n3 n_0 v_1 v_2 one_3 one_4 one_5 v_6 one_7 v_8 v_9 one_10 one_11)) (J := (reflect_sum_v3_n4)) (id := 0) (by kernel_rfl : ((reflect_sum_v3_l6.drop 3).take 1) = [.block 0 (.loop (inLoop ((((reflect_sum_v3_l6.drop 3).take 1)).headD .skip)))]) reflect_sum_v3_hN (reflect_sum_v3_hI _) (fun s => by obtain ⟨s1, a2⟩ := s; exact reflect_sum_v3_s10 n_0 v_1 v_2 one_3 one_4 one_5 v_6 one_7 v_8 v_9 one_10 one_11 s1 a2) (0, 0))) (fun s3 => by exact Sg.seg (C := C0) C0_ok L_reflect_alike_ok 60 ((reflect_sum_v3_l6.drop 3).drop 1) (reflect_sum_v3_n5 s3) (reflect_sum_v3_t11 s3) (fun a : Empty => a.elim) reflect_sum_v3_E [⟨[], [], [4]⟩] (by kernel_rfl))))
    (fun x => by cases x with | r0 a4 => exact ⟨.inr rfl, [.flt false a4], [], by kernel_rfl, trivial, by kernel_rfl⟩) h

def reflect_sum_v3_i0 : Option reflect_sum_v3_X → Bool
  | some _ => true
  | none => false
def reflect_sum_v3_p0_0 : Option reflect_sum_v3_X → Nat
  | some (.r0 x) => x
  | _ => 0
theorem reflect_sum_v3_e0 {x : Option reflect_sum_v3_X} (h : reflect_sum_v3_i0 x = true) : x = some (.r0 (reflect_sum_v3_p0_0 x)) := by
  unfold reflect_sum_v3_i0 at h
  split at h <;> first | rfl | (cases h; done) | (rename_i y; cases y; rfl)
noncomputable def e_reflect_sum_v3 : Entry := autoE n_reflect_sum (.cons (.int .i64) (.cons (.fn n_reflect_Factor_1 .nil (.cons (.ivs (.cons (.cols [.cfl, .cf]) .nil) 1 0 0) (.cons (.ivs (.cons (.int .i64) .nil) 1 0 0) (.cons (.ivs (.cons .fl (.cons (.flt false) .nil)) 1 0 0) .nil)))) .nil)) fun t => [⟨reflect_sum_v3_o (.r0 (reflect_sum_v3_p0_0 (reflect_sum_v3_F t.1 t.2.1.2.1.2.1.2.1 t.2.1.2.1.2.1.2.2.1 t.2.1.2.2.1.2.1 t.2.1.2.2.2.1.2.1.2))), [reflect_sum_v3_i0 (reflect_sum_v3_F t.1 t.2.1.2.1.2.1.2.1 t.2.1.2.1.2.1.2.2.1 t.2.1.2.2.1.2.1 t.2.1.2.2.2.1.2.1.2)]⟩]
theorem e_reflect_sum_v3_ok : EntryOk prog e_reflect_sum_v3 := autoE_ok fun t => (altsCons (fun h => reflect_sum_v3_ok t.1 t.2.1.2.1.1 t.2.1.2.1.2.1.1 t.2.1.2.1.2.1.2.1 t.2.1.2.1.2.1.2.2.1 t.2.1.2.1.2.1.2.2.2.1 t.2.1.2.2.1.1 t.2.1.2.2.1.2.1 t.2.1.2.2.2.1.1 t.2.1.2.2.2.1.2.1.1 t.2.1.2.2.2.1.2.1.2 t.2.1.2.2.2.1.2.2.1 (reflect_sum_v3_e0 h)) altsNil)
noncomputable def L_reflect_sum_v3 : List Entry := e_reflect_sum_v3 :: L_reflect_alike
theorem L_reflect_sum_v3_ok : SumsOk prog (sumsOf L_reflect_sum_v3) := sumsOf_cons e_reflect_sum_v3_ok L_reflect_alike_ok

inductive reflect_sum_v4_X where
  | r0 (a4 : Nat)
def reflect_sum_v4_E : reflect_sum_v4_X → AE × ASt
  | .r0 a4 => (.ret, ⟨slots 18 [(4, .flt false a4)], [], 0⟩)
theorem reflect_sum_v4_hN : NoN reflect_sum_v4_E := by intro x; cases x <;> (intro h; cases h)
theorem reflect_sum_v4_hI (id : Nat) : NoId id reflect_sum_v4_E := by intro x; cases x <;> (intro h; cases h)
def reflect_sum_v4_o : reflect_sum_v4_X → Out
  | .r0 a4 => ⟨.flt false a4, []⟩
noncomputable def reflect_sum_v4_l6 : List Code := flat (BODY n_reflect_sum)
def reflect_sum_v4_n1 (n_0 : Int) (v_1 : Lv) (one_2 : Int) (one_3 : Int) (v_4 : Lv) (one_5 : List Nat) (v_6 : Lv) (one_7 : Int) (v_8 : Lv) (one_9 : Int) (v_10 : Lv) (v_11 : Lv) (one_12 : List Nat) (_ : Unit) : ASt := ⟨slots 18 [(1, .fn (.func n_reflect_Factor_2) [] [.iptr v_1 (.vs [.int .i64 one_2, .int .i64 one_3, .imm v_4 (.fl one_5) 1 1 0 (List.length one_5)]) 1 0 0, .iptr v_6 (.vs [.int .i64 one_7]) 1 0 0, .iptr v_8 (.vs [.int .i64 one_9]) 1 0 0, .iptr v_10 (.vs [.imm v_11 (.fl one_12) 1 1 0 (List.length one_12)]) 1 0 0]), (5, .flt false 0), (7, .int .i64 n_0), (8, .int .i64 (0 : Int))], [], 0⟩
def reflect_sum_v4_t7 : T ((Unit) ⊕ (reflect_sum_v4_X)) :=
  .leaf (.inl ())
def reflect_sum_v4_n3 (n_0 : Int) (v_1 : Lv) (one_2 : Int) (one_3 : Int) (v_4 : Lv) (one_5 : List Nat) (v_6 : Lv) (one_7 : Int) (v_8 : Lv) (one_9 : Int) (v_10 : Lv) (v_11 : Lv) (one_12 : List Nat) : Nat × Nat → ASt := fun (s1, a2) => ⟨slots 18 [(1, .fn (.func n_reflect_Factor_2) [] [.iptr v_1 (.vs [.int .i64 one_2, .int .i64 one_3, .imm v_4 (.fl one_5) 1 1 0 (List.length one_5)]) 1 0 0, .iptr v_6 (.vs [.int .i64 one_7]) 1 0 0, .iptr v_8 (.vs [.int .i64 one_9]) 1 0 0, .iptr v_10 (.vs [.imm v_11 (.fl one_12) 1 1 0 (List.length one_12)]) 1 0 0]), (5, .flt false s1), (7, .int .i64 n_0), (8, .int .i64 ((a2 : Nat) : Int))], [], 0⟩
def reflect_sum_v4_n4 (s3 : Nat) : ASt := ⟨slots 18 [(5, .flt false s3)], [], 0⟩
noncomputable def reflect_sum_v4_l8 : List Code := flat (inLoop ((((reflect_sum_v4_l6.drop 3).take 1)).headD .skip))
def reflect_sum_v4_t9 (n_0 : Int) (one_5 : List Nat) (one_7 : Int) (one_9 : Int) (one_12 : List Nat) (s1 : Nat) (a2 : Nat) : T ((Nat × Nat) ⊕ ((Nat) ⊕ (reflect_sum_v4_X))) :=
  .ask (decide (((a2 : Nat) : Int) < n_0))
    (.need (inK .i64 (one_7 * one_9)) <| .need (inK .i64 ((one_7 * one_9) + one_7)) <| .need (inK .i64 (((one_7 * one_9) + one_7) + ((a2 : Nat) : Int))) <| .need (inB (((one_7 * one_9) + one_7) + ((a2 : Nat) : Int)) (List.length one_5)) <| .need (ltB (Int.toNat (((one_7 * one_9) + one_7) + ((a2 : Nat) : Int))) (List.length one_5)) <| .need (inK .i64 (one_7 + ((a2 : Nat) : Int))) <| .need (inB (one_7 + ((a2 : Nat) : Int)) (List.length one_12)) <| .need (ltB (Int.toNat (one_7 + ((a2 : Nat) : Int))) (List.length one_12)) <| .need (inK .i64 (((a2 + 1) : Nat) : Int)) <| .leaf (.inl ((fadd s1 (fmul (List.getD one_5 (Int.toNat (((one_7 * one_9) + one_7) + ((a2 : Nat) : Int))) 0) (List.getD one_12 (Int.toNat (one_7 + ((a2 : Nat) : Int))) 0))), (a2 + 1))))
    (.leaf (.inr (.inl s1)))
noncomputable def reflect_sum_v4_m10 (n_0 : Int) (one_5 : List Nat) (one_7 : Int) (one_9 : Int) (one_12 : List Nat) : Nat × Nat → Option ((Nat × Nat) ⊕ ((Nat) ⊕ (reflect_sum_v4_X))) := fun (s1, a2) =>
  (reflect_sum_v4_t9 n_0 one_5 one_7 one_9 one_12 s1 a2).run
theorem reflect_sum_v4_s10 (n_0 : Int) (v_1 : Lv) (one_2 : Int) (one_3 : Int) (v_4 : Lv) (one_5 : List Nat) (v_6 : Lv) (one_7 : Int) (v_8 : Lv) (one_9 : Int) (v_10 : Lv) (v_11 : Lv) (one_12 : List Nat) (s1 : Nat) (a2 : Nat) : Sg prog [] reflect_sum_v4_l8 (reflect_sum_v4_n3 n_0 v_1 one_2 one_3 v_4 one_5 v_6 one_7 v_8 one_9 v_10 v_11 one_12 (s1, a2)) (reflect_sum_v4_m10 n_0 one_5 one_7 one_9 one_12 (s1, a2)) (reflect_sum_v4_n3 n_0 v_1 one_2 one_3 v_4 one_5 v_6 one_7 v_8 one_9 v_10 v_11 one_12) (exitE 0 reflect_sum_v4_n4 reflect_sum_v4_E) :=
  Sg.seg (C := C0) C0_ok L_reflect_sum_v3_ok 60 reflect_sum_v4_l8 (reflect_sum_v4_n3 n_0 v_1 one_2 one_3 v_4 one_5 v_6 one_7 v_8 one_9 v_10 v_11 one_12 (s1, a2)) (reflect_sum_v4_t9 n_0 one_5 one_7 one_9 one_12 s1 a2) (reflect_sum_v4_n3 n_0 v_1 one_2 one_3 v_4 one_5 v_6 one_7 v_8 one_9 v_10 v_11 one_12) (exitE 0 reflect_sum_v4_n4 reflect_sum_v4_E) [⟨[], [], [1, 5, 7, 8]⟩, ⟨[], [], [5]⟩] (by kernel_rfl)
def reflect_sum_v4_n5 : Nat → ASt := reflect_sum_v4_n4
def reflect_sum_v4_t11 (s3 : Nat) : T ((Empty) ⊕ (reflect_sum_v4_X)) :=
  .leaf (.inr (.r0 s3))
noncomputable def reflect_sum_v4_F (n_0 : Int) (one_5 : List Nat) (one_7 : Int) (one_9 : Int) (one_12 : List Nat) : Option reflect_sum_v4_X := toX (seqM ((reflect_sum_v4_t7).run) fun _ =>
  seqM (loopM (reflect_sum_v4_m10 n_0 one_5 one_7 one_9 one_12) (0, 0)) fun s3 =>
  (reflect_sum_v4_t11 s3).run)
theorem reflect_sum_v4_ok (n_0 : Int) (v_1 : Lv) (one_2 : Int) (one_3 : Int) (v_4 : Lv) (one_5 : List Nat) (v_6 : Lv) (one_7 : Int) (v_8 : Lv) (one_9 : Int) (v_10 : Lv) (v_11 : Lv) (one_12 : List Nat) {x : reflect_sum_v4_X} (h : reflect_sum_v4_F n_0 one_5 one_7 one_9 one_12 = some x) : Contract prog n_reflect_sum [] [.int .i64 n_0, .fn (.func n_reflect_Factor_2) [] [.iptr v_1 (.vs [.int .i64 one_2, .int .i64 one_3, .imm v_4 (.fl one_5) 1 1 0 (List.length one_5)]) 1 0 0, .iptr v_6 (.vs [.int .i64 one_7]) 1 0 0, .iptr v_8 (.vs [.int .i64 one_9]) 1 0 0, .iptr v_10 (.vs [.imm v_11 (.fl one_12) 1 1 0 (List.length one_12)]) 1 0 0]] (reflect_sum_v4_o x) :=
  Sg.contract false reflect_sum_v4_o (by kernel_rfl : prog.funcs[n_reflect_sum]? = some (FN n_reflect_sum)) (by kernel_rfl : (FN n_reflect_sum).body = some (BODY n_reflect_sum)) (Sg.cut 3 reflect_sum_v4_hN (Sg.seg (C := C0) C0_ok L_reflect_sum_v3_ok 60 (reflect_sum_v4_l6.take 3) (entryOf (FN n_reflect_sum) [] [.int .i64 n_0, .fn (.func n_reflect_Factor_2) [] [.iptr v_1 (.vs [.int .i64 one_2, .int .i64 one_3, .imm v_4 (.fl one_5) 1 1 0 (List.length one_5)]) 1 0 0, .iptr v_6 (.vs [.int .i64 one_7]) 1 0 0, .iptr v_8 (.vs [.int .i64 one_9]) 1 0 0, .iptr v_10 (.vs [.imm v_11 (.fl one_12) 1 1 0 (List.length one_12)]) 1 0 0]]) (reflect_sum_v4_t7) (reflect_sum_v4_n1 n_0 v_1 one_2 one_3 v_4 one_5 v_6 one_7 v_8 one_9 v_10 v_11 one_12) reflect_sum_v4_E [⟨[], [], [1, 5, 7, 8]⟩] (by kernel_rfl)) (fun a => by cases a; exact Sg.cut 1 reflect_sum_v4_hN (Sg.pre ⟨[], [], [1, 5, 7, 8]⟩ rfl (by kernel_rfl : NS.on ⟨[], [], [1, 5, 7, 8]⟩ (reflect_sum_v4_n1 n_0 v_1 one_2 one_3 v_4 one_5 v_6 one_7 v_8 one_9 v_10 v_11 one_12 ()) = (reflect_sum_v4_n3 n_0 v_1 one_2 one_3 v_4 one_5 v_6 one_7 v_8 one_9 v_10 v_11 one_12) (0, 0)) (Sg.loopAt (I := (reflect_sum_v4_n3 n_0 v_1 one_2 one_3 v_4 one_5 v_6 one_7 v_8 one_9 v_10 v_11 one_12)) (J := (reflect_sum_v4_n4)) (id := 0) (by kernel_rfl : ((reflect_sum_v4_l6.drop 3).take 1) = [.block 0 (.loop (inLoop ((((reflect_sum_v4_l6.drop 3).take 1)).headD .skip)))]) reflect_sum_v4_hN (reflect_sum_v4_hI _) (fun s => by obtain ⟨s1, a2⟩ := s; exact reflect_sum_v4_s10 n_0 v_1 one_2 one_3 v_4 one_5 v_6 one_7 v_8 one_9 v_10 v_11 one_12 s1 a2) (0, 0))) (fun s3 => by exact Sg.seg (C := C0) C0_ok L_reflect_sum_v3_ok 60 ((reflect_sum_v4_l6.drop 3).drop 1) (reflect_sum_v4_n5 s3) (reflect_sum_v4_t11 s3) (fun a : Empty => a.elim) reflect_sum_v4_E [⟨[], [], [4]⟩] (by kernel_rfl))))
    (fun x => by cases x with | r0 a4 => exact ⟨.inr rfl, [.flt false a4], [], by kernel_rfl, trivial, by kernel_rfl⟩) h

def reflect_sum_v4_i0 : Option reflect_sum_v4_X → Bool
  | some _ => true
  | none => false
def reflect_sum_v4_p0_0 : Option reflect_sum_v4_X → Nat
  | some (.r0 x) => x
  | _ => 0
theorem reflect_sum_v4_e0 {x : Option reflect_sum_v4_X} (h : reflect_sum_v4_i0 x = true) : x = some (.r0 (reflect_sum_v4_p0_0 x)) := by
  unfold reflect_sum_v4_i0 at h
  split at h <;> first | rfl | (cases h; done) | (rename_i y; cases y; rfl)
noncomputable def e_reflect_sum_v4 : Entry := autoE n_reflect_sum (.cons (.int .i64) (.cons (.fn n_reflect_Factor_2 .nil (.cons (.ivs (.cons (.int .i64) (.cons (.int .i64) (.cons .fl .nil))) 1 0 0) (.cons (.ivs (.cons (.int .i64) .nil) 1 0 0) (.cons (.ivs (.cons (.int .i64) .nil) 1 0 0) (.cons (.ivs (.cons .fl .nil) 1 0 0) .nil))))) .nil)) fun t => [⟨reflect_sum_v4_o (.r0 (reflect_sum_v4_p0_0 (reflect_sum_v4_F t.1 t.2.1.2.1.2.2.2.1.2 t.2.1.2.2.1.2.1 t.2.1.2.2.2.1.2.1 t.2.1.2.2.2.2.1.2.1.2))), [reflect_sum_v4_i0 (reflect_sum_v4_F t.1 t.2.1.2.1.2.2.2.1.2 t.2.1.2.2.1.2.1 t.2.1.2.2.2.1.2.1 t.2.1.2.2.2.2.1.2.1.2)]⟩]
theorem e_reflect_sum_v4_ok : EntryOk prog e_reflect_sum_v4 := autoE_ok fun t => (altsCons (fun h => reflect_sum_v4_ok t.1 t.2.1.2.1.1 t.2.1.2.1.2.1 t.2.1.2.1.2.2.1 t.2.1.2.1.2.2.2.1.1 t.2.1.2.1.2.2.2.1.2 t.2.1.2.2.1.1 t.2.1.2.2.1.2.1 t.2.1.2.2.2.1.1 t.2.1.2.2.2.1.2.1 t.2.1.2.2.2.2.1.1 t.2.1.2.2.2.2.1.2.1.1 t.2.1.2.2.2.2.1.2.1.2 (reflect_sum_v4_e0 h)) altsNil)
noncomputable def L_reflect_sum_v4 : List Entry := e_reflect_sum_v4 :: L_reflect_sum_v3
theorem L_reflect_sum_v4_ok : SumsOk prog (sumsOf L_reflect_sum_v4) := sumsOf_cons e_reflect_sum_v4_ok L_reflect_sum_v3_ok

end
end Go.Plb.Seat

namespace Go.Plb.Seat
open Go Go.Plb
set_option linter.unusedVariables false
set_option maxRecDepth 10000
noncomputable section

inductive reflect_Factor_X where
  | r0
  | r1 (a41 : Nat) (a42 : Nat) (l43 : List Nat)
def reflect_Factor_E : reflect_Factor_X → AE × ASt
  | .r0 => (.ret, ⟨slots 84 [(2, .ptr 0 1 0 0), (3, .int .i64 (2 : Int))], [(0, .vs [.int .i64 (0 : Int), .int .i64 (0 : Int), .nsl])], 1⟩)
  | .r1 a41 a42 l43 => (.ret, ⟨slots 84 [(2, .ptr 0 1 0 0), (3, .int .i64 (0 : Int))], [(0, .vs [.int .i64 ((a41 : Nat) : Int), .int .i64 ((a41 : Nat) : Int), .sl 1 1 1 0 a42 a42]), (1, .fl l43)], 2⟩)
theorem reflect_Factor_hN : NoN reflect_Factor_E := by intro x; cases x <;> (intro h; cases h)
theorem reflect_Factor_hI (id : Nat) : NoId id reflect_Factor_E := by intro x; cases x <;> (intro h; cases h)
def reflect_Factor_o : reflect_Factor_X → Out
  | .r0 => ⟨.tup [.agg [.int .i64 (0 : Int), .int .i64 (0 : Int), .nsl], .int .i64 (2 : Int)], []⟩
  | .r1 a41 a42 l43 => ⟨.tup [.agg [.int .i64 ((a41 : Nat) : Int), .int .i64 ((a41 : Nat) : Int), .sl 0 1 1 0 a42 a42], .int .i64 (0 : Int)], [some (.fl l43)]⟩
noncomputable def reflect_Factor_l41 : List Code := flat (BODY n_reflect_Factor)
def reflect_Factor_n1 (v_0 : Lv) (l_1 : Nat) (l_2 : List (List Nat)) (l_3 : List Nat) (b1 : Bool) : ASt := ⟨slots 84 [(1, .ptr 0 1 0 0), (2, .ptr 1 1 0 0), (4, .ptr 2 1 0 0), (19, .bool false b1)], [(0, .vs [.imm v_0 (.cols l_1 [.cfl l_2, .cf l_3]) 2 2 0 l_1]), (1, .vs [.int .i64 (0 : Int), .int .i64 (0 : Int), .nsl]), (2, .vs [.int .i64 ((l_1 : Nat) : Int)])], 3⟩
def reflect_Factor_t42 (l_1 : Nat) (l_2 : List (List Nat)) (l_3 : List Nat) : T ((Bool) ⊕ (reflect_Factor_X)) :=
  .need (Nat.ble (0 + l_1) l_1) <| .need (reflect_alike_i0 (reflect_alike_F l_1 (cutL 0 l_1 l_2) (cutL 0 l_1 l_3))) <| .ask (!(reflect_alike_p0_0 (reflect_alike_F l_1 (cutL 0 l_1 l_2) (cutL 0 l_1 l_3))))
    (.leaf (.inl true))
    (.leaf (.inl (decide (((l_1 : Nat) : Int) > (512 : Int)))))
def reflect_Factor_n2 (v_0 : Lv) (l_1 : Nat) (l_2 : List (List Nat)) (l_3 : List Nat) : Nat × (List Nat) × (List Nat) → ASt := fun (a2, l3, l4) => ⟨slots 84 [(1, .ptr 0 1 0 0), (2, .ptr 1 1 0 0), (4, .ptr 2 1 0 0), (5, .ptr 3 1 0 0), (6, .ptr 4 1 0 0), (30, .imm v_0 (.cols l_1 [.cfl l_2, .cf l_3]) 2 2 0 l_1), (31, .int .i64 ((l_1 : Nat) : Int)), (32, .int .i64 (0 : Int))], [(0, .vs [.imm v_0 (.cols l_1 [.cfl l_2, .cf l_3]) 2 2 0 l_1]), (1, .vs [.int .i64 (0 : Int), .int .i64 (0 : Int), .nsl]), (2, .vs [.int .i64 ((l_1 : Nat) : Int)]), (3, .vs [.int .i64 ((l_1 : Nat) : Int), .int .i64 ((l_1 : Nat) : Int), .sl 5 1 1 0 a2 a2]), (4, .vs [.sl 6 1 1 0 l_1 l_1]), (5, .fl l3), (6, .fl l4)], 7⟩
def reflect_Factor_t43 (l_1 : Nat) (b1 : Bool) : T ((Nat × (List Nat) × (List Nat)) ⊕ (reflect_Factor_X)) :=
  .ask b1
    (.leaf (.inr (.r0)))
    (.need (inK .i64 (((l_1 * l_1) : Nat) : Int)) <| .need (decide ((0 : Int) ≤ (((l_1 * l_1) : Nat) : Int))) <| .need (decide ((((l_1 * l_1) : Nat) : Int) ≤ (((l_1 * l_1) : Nat) : Int))) <| .need (decide ((8 : Int) * (((l_1 * l_1) : Nat) : Int) ≤ 140737488355328)) <| .need (inK .i64 (((l_1 * l_1) : Nat) : Int)) <| .need (decide ((0 : Int) ≤ ((l_1 : Nat) : Int))) <| .need (decide (((l_1 : Nat) : Int) ≤ ((l_1 : Nat) : Int))) <| .need (decide ((8 : Int) * ((l_1 : Nat) : Int) ≤ 140737488355328)) <| .need (inK .i64 ((l_1 : Nat) : Int)) <| .leaf (.inl ((l_1 * l_1), (List.replicate (l_1 * l_1) 0), (List.replicate l_1 0))))
def reflect_Factor_n21 (v_0 : Lv) (l_1 : Nat) (l_2 : List (List Nat)) (l_3 : List Nat) (a2 : Nat) : Nat × (List Nat) × (List Nat) → ASt := fun (a21, l22, l23) => ⟨slots 84 [(1, .ptr 0 1 0 0), (2, .ptr 1 1 0 0), (4, .ptr 2 1 0 0), (5, .ptr 3 1 0 0), (6, .ptr 4 1 0 0), (30, .imm v_0 (.cols l_1 [.cfl l_2, .cf l_3]) 2 2 0 l_1), (31, .int .i64 ((l_1 : Nat) : Int)), (32, .int .i64 ((a21 : Nat) : Int))], [(0, .vs [.imm v_0 (.cols l_1 [.cfl l_2, .cf l_3]) 2 2 0 l_1]), (1, .vs [.int .i64 (0 : Int), .int .i64 (0 : Int), .nsl]), (2, .vs [.int .i64 ((l_1 : Nat) : Int)]), (3, .vs [.int .i64 ((l_1 : Nat) : Int), .int .i64 ((l_1 : Nat) : Int), .sl 5 1 1 0 a2 a2]), (4, .vs [.sl 6 1 1 0 l_1 l_1]), (5, .fl l22), (6, .fl l23)], 7⟩
def reflect_Factor_n39 (l_1 : Nat) (a2 : Nat) (l40 : (List Nat)) : ASt := ⟨slots 84 [(2, .ptr 0 1 0 0), (5, .ptr 1 1 0 0)], [(0, .vs [.int .i64 (0 : Int), .int .i64 (0 : Int), .nsl]), (1, .vs [.int .i64 ((l_1 : Nat) : Int), .int .i64 ((l_1 : Nat) : Int), .sl 2 1 1 0 a2 a2]), (2, .fl l40)], 3⟩
noncomputable def reflect_Factor_l44 : List Code := flat (inLoop (((((reflect_Factor_l41.drop 3).drop 4).take 1)).headD .skip))
def reflect_Factor_n22 (v_0 : Lv) (l_1 : Nat) (l_2 : List (List Nat)) (l_3 : List Nat) (a2 : Nat) (a21 : Nat) (l22 : List Nat) (l23 : List Nat) (_ : Unit) : ASt := ⟨slots 84 [(1, .ptr 0 1 0 0), (2, .ptr 1 1 0 0), (4, .ptr 2 1 0 0), (5, .ptr 3 1 0 0), (6, .ptr 4 1 0 0), (30, .imm v_0 (.cols l_1 [.cfl l_2, .cf l_3]) 2 2 0 l_1), (31, .int .i64 ((l_1 : Nat) : Int)), (32, .int .i64 ((a21 : Nat) : Int))], [(0, .vs [.imm v_0 (.cols l_1 [.cfl l_2, .cf l_3]) 2 2 0 l_1]), (1, .vs [.int .i64 (0 : Int), .int .i64 (0 : Int), .nsl]), (2, .vs [.int .i64 ((l_1 : Nat) : Int)]), (3, .vs [.int .i64 ((l_1 : Nat) : Int), .int .i64 ((l_1 : Nat) : Int), .sl 5 1 1 0 a2 a2]), (4, .vs [.sl 6 1 1 0 l_1 l_1]), (5, .fl l22), (6, .fl l23)], 7⟩
def reflect_Factor_t45 (l_1 : Nat) (a21 : Nat) (l22 : List Nat) : T ((Unit) ⊕ (((List Nat)) ⊕ (reflect_Factor_X))) :=
  .ask (decide (((a21 : Nat) : Int) < ((l_1 : Nat) : Int)))
    (.leaf (.inl ()))
    (.leaf (.inr (.inl l22)))
def reflect_Factor_n37 (v_0 : Lv) (l_1 : Nat) (l_2 : List (List Nat)) (l_3 : List Nat) (a2 : Nat) (a21 : Nat) : (List Nat) × (List Nat) → ASt := fun (l38, l39) => ⟨slots 84 [(1, .ptr 0 1 0 0), (2, .ptr 1 1 0 0), (4, .ptr 2 1 0 0), (5, .ptr 3 1 0 0), (6, .ptr 4 1 0 0), (30, .imm v_0 (.cols l_1 [.cfl l_2, .cf l_3]) 2 2 0 l_1), (31, .int .i64 ((l_1 : Nat) : Int)), (32, .int .i64 ((a21 : Nat) : Int))], [(0, .vs [.imm v_0 (.cols l_1 [.cfl l_2, .cf l_3]) 2 2 0 l_1]), (1, .vs [.int .i64 (0 : Int), .int .i64 (0 : Int), .nsl]), (2, .vs [.int .i64 ((l_1 : Nat) : Int)]), (3, .vs [.int .i64 ((l_1 : Nat) : Int), .int .i64 ((l_1 : Nat) : Int), .sl 5 1 1 0 a2 a2]), (4, .vs [.sl 6 1 1 0 l_1 l_1]), (5, .fl l38), (6, .fl l39)], 7⟩
noncomputable def reflect_Factor_l46 : List Code := flat (inBlock ((((reflect_Factor_l44.drop 2).take 1)).headD .skip))
def reflect_Factor_n23 (v_0 : Lv) (l_1 : Nat) (l_2 : List (List Nat)) (l_3 : List Nat) (a2 : Nat) (a21 : Nat) (l23 : List Nat) : (List Nat) × Nat × Nat × (List Nat) → ASt := fun (l24, a25, a26, l27) => ⟨slots 84 [(1, .ptr 0 1 0 0), (2, .ptr 1 1 0 0), (4, .ptr 2 1 0 0), (5, .ptr 3 1 0 0), (6, .ptr 4 1 0 0), (7, .int .i64 ((a21 : Nat) : Int)), (8, .ptr 5 1 0 0), (30, .imm v_0 (.cols l_1 [.cfl l_2, .cf l_3]) 2 2 0 l_1), (31, .int .i64 ((l_1 : Nat) : Int)), (32, .int .i64 ((a21 : Nat) : Int)), (47, .int .i64 ((a21 : Nat) : Int)), (48, .int .i64 (0 : Int))], [(0, .vs [.imm v_0 (.cols l_1 [.cfl l_2, .cf l_3]) 2 2 0 l_1]), (1, .vs [.int .i64 (0 : Int), .int .i64 (0 : Int), .nsl]), (2, .vs [.int .i64 ((l_1 : Nat) : Int)]), (3, .vs [.int .i64 ((l_1 : Nat) : Int), .int .i64 ((l_1 : Nat) : Int), .sl 6 1 1 0 a2 a2]), (4, .vs [.sl 7 1 1 0 l_1 l_1]), (5, .vs [.imm .free (.fl l24) 1 1 0 a25, .flt false a26]), (6, .fl l27), (7, .fl l23)], 8⟩
def reflect_Factor_t47 (l_1 : Nat) (l_2 : List (List Nat)) (l_3 : List Nat) (a2 : Nat) (a21 : Nat) (l22 : List Nat) : T (((List Nat) × Nat × Nat × (List Nat)) ⊕ (((List Nat) × (List Nat)) ⊕ (((List Nat)) ⊕ (reflect_Factor_X)))) :=
  .need (inB ((a21 : Nat) : Int) l_1) <| .need (ltB a21 (List.length l_2)) <| .need (ltB a21 (List.length l_3)) <| .need (inK .i64 (((a21 * l_1) : Nat) : Int)) <| .need (inK .i64 ((((a21 * l_1) + a21) : Nat) : Int)) <| .need (inB ((((a21 * l_1) + a21) : Nat) : Int) a2) <| .need (ltB ((a21 * l_1) + a21) (List.length l22)) <| .leaf (.inl ((List.getD l_2 a21 []), (List.length (List.getD l_2 a21 [])), (List.getD l_3 a21 0), (List.set l22 ((a21 * l_1) + a21) (List.getD l_3 a21 0))))
def reflect_Factor_n26 (v_0 : Lv) (l_1 : Nat) (l_2 : List (List Nat)) (l_3 : List Nat) (a2 : Nat) (a21 : Nat) (l24 : List Nat) (a25 : Nat) (a26 : Nat) (l27 : List Nat) : Nat × (List Nat) → ASt := fun (a29, l30) => ⟨slots 84 [(1, .ptr 0 1 0 0), (2, .ptr 1 1 0 0), (4, .ptr 2 1 0 0), (5, .ptr 3 1 0 0), (6, .ptr 4 1 0 0), (7, .int .i64 ((a21 : Nat) : Int)), (8, .ptr 5 1 0 0), (30, .imm v_0 (.cols l_1 [.cfl l_2, .cf l_3]) 2 2 0 l_1), (31, .int .i64 ((l_1 : Nat) : Int)), (32, .int .i64 ((a21 : Nat) : Int)), (47, .int .i64 ((a21 : Nat) : Int)), (48, .int .i64 ((a29 : Nat) : Int))], [(0, .vs [.imm v_0 (.cols l_1 [.cfl l_2, .cf l_3]) 2 2 0 l_1]), (1, .vs [.int .i64 (0 : Int), .int .i64 (0 : Int), .nsl]), (2, .vs [.int .i64 ((l_1 : Nat) : Int)]), (3, .vs [.int .i64 ((l_1 : Nat) : Int), .int .i64 ((l_1 : Nat) : Int), .sl 6 1 1 0 a2 a2]), (4, .vs [.sl 7 1 1 0 l_1 l_1]), (5, .vs [.imm .free (.fl l24) 1 1 0 a25, .flt false a26]), (6, .fl l27), (7, .fl l30)], 8⟩
def reflect_Factor_n28 (v_0 : Lv) (l_1 : Nat) (l_2 : List (List Nat)) (l_3 : List Nat) (a2 : Nat) (a21 : Nat) (l24 : List Nat) (a25 : Nat) (a26 : Nat) (l27 : List Nat) (l32 : (List Nat)) : ASt := ⟨slots 84 [(1, .ptr 0 1 0 0), (2, .ptr 1 1 0 0), (4, .ptr 2 1 0 0), (5, .ptr 3 1 0 0), (6, .ptr 4 1 0 0), (7, .int .i64 ((a21 : Nat) : Int)), (8, .ptr 5 1 0 0), (30, .imm v_0 (.cols l_1 [.cfl l_2, .cf l_3]) 2 2 0 l_1), (31, .int .i64 ((l_1 : Nat) : Int)), (32, .int .i64 ((a21 : Nat) : Int))], [(0, .vs [.imm v_0 (.cols l_1 [.cfl l_2, .cf l_3]) 2 2 0 l_1]), (1, .vs [.int .i64 (0 : Int), .int .i64 (0 : Int), .nsl]), (2, .vs [.int .i64 ((l_1 : Nat) : Int)]), (3, .vs [.int .i64 ((l_1 : Nat) : Int), .int .i64 ((l_1 : Nat) : Int), .sl 6 1 1 0 a2 a2]), (4, .vs [.sl 7 1 1 0 l_1 l_1]), (5, .vs [.imm .free (.fl l24) 1 1 0 a25, .flt false a26]), (6, .fl l27), (7, .fl l32)], 8⟩
noncomputable def reflect_Factor_l48 : List Code := flat (inLoop ((((reflect_Factor_l46.drop 3).take 1)).headD .skip))
def reflect_Factor_n27 (v_0 : Lv) (l_1 : Nat) (l_2 : List (List Nat)) (l_3 : List Nat) (a2 : Nat) (a21 : Nat) (l24 : List Nat) (a25 : Nat) (a26 : Nat) (l27 : List Nat) (a29 : Nat) (l31 : (List Nat)) : ASt := ⟨slots 84 [(1, .ptr 0 1 0 0), (2, .ptr 1 1 0 0), (4, .ptr 2 1 0 0), (5, .ptr 3 1 0 0), (6, .ptr 4 1 0 0), (7, .int .i64 ((a21 : Nat) : Int)), (8, .ptr 5 1 0 0), (30, .imm v_0 (.cols l_1 [.cfl l_2, .cf l_3]) 2 2 0 l_1), (31, .int .i64 ((l_1 : Nat) : Int)), (32, .int .i64 ((a21 : Nat) : Int)), (47, .int .i64 ((a21 : Nat) : Int)), (48, .int .i64 ((a29 : Nat) : Int))], [(0, .vs [.imm v_0 (.cols l_1 [.cfl l_2, .cf l_3]) 2 2 0 l_1]), (1, .vs [.int .i64 (0 : Int), .int .i64 (0 : Int), .nsl]), (2, .vs [.int .i64 ((l_1 : Nat) : Int)]), (3, .vs [.int .i64 ((l_1 : Nat) : Int), .int .i64 ((l_1 : Nat) : Int), .sl 6 1 1 0 a2 a2]), (4, .vs [.sl 7 1 1 0 l_1 l_1]), (5, .vs [.imm .free (.fl l24) 1 1 0 a25, .flt false a26]), (6, .fl l27), (7, .fl l31)], 8⟩
def reflect_Factor_t49 (l_1 : Nat) (l_2 : List (List Nat)) (a21 : Nat) (l24 : List Nat) (a25 : Nat) (a29 : Nat) (l30 : List Nat) : T (((List Nat)) ⊕ (((List Nat)) ⊕ (((List Nat) × (List Nat)) ⊕ (((List Nat)) ⊕ (reflect_Factor_X))))) :=
  .ask (decide (((a29 : Nat) : Int) < ((a21 : Nat) : Int)))
    (.need (Nat.ble (0 + l_1) l_1) <| .need (slOk 0 a25 l24) <| .need (reflect_sum_v3_i0 (reflect_sum_v3_F ((a25 : Nat) : Int) l_1 (cutL 0 l_1 l_2) ((a29 : Nat) : Int) (cutL 0 a25 l24))) <| .need (inB ((a29 : Nat) : Int) l_1) <| .need (ltB a29 (List.length l30)) <| .leaf (.inl (List.set l30 a29 (reflect_sum_v3_p0_0 (reflect_sum_v3_F ((a25 : Nat) : Int) l_1 (cutL 0 l_1 l_2) ((a29 : Nat) : Int) (cutL 0 a25 l24))))))
    (.leaf (.inr (.inl l30)))
def reflect_Factor_t50 (a29 : Nat) (l31 : List Nat) : T ((Nat × (List Nat)) ⊕ (((List Nat)) ⊕ (((List Nat) × (List Nat)) ⊕ (((List Nat)) ⊕ (reflect_Factor_X))))) :=
  .need (inK .i64 (((a29 + 1) : Nat) : Int)) <| .leaf (.inl ((a29 + 1), l31))
noncomputable def reflect_Factor_m51 (l_1 : Nat) (l_2 : List (List Nat)) (a21 : Nat) (l24 : List Nat) (a25 : Nat) : Nat × (List Nat) → Option ((Nat × (List Nat)) ⊕ (((List Nat)) ⊕ (((List Nat) × (List Nat)) ⊕ (((List Nat)) ⊕ (reflect_Factor_X))))) := fun (a29, l30) =>
  seqM ((reflect_Factor_t49 l_1 l_2 a21 l24 a25 a29 l30).run) fun l31 =>
  (reflect_Factor_t50 a29 l31).run
theorem reflect_Factor_s51 (v_0 : Lv) (l_1 : Nat) (l_2 : List (List Nat)) (l_3 : List Nat) (a2 : Nat) (a21 : Nat) (l24 : List Nat) (a25 : Nat) (a26 : Nat) (l27 : List Nat) (a29 : Nat) (l30 : List Nat) : Sg prog [] reflect_Factor_l48 (reflect_Factor_n26 v_0 l_1 l_2 l_3 a2 a21 l24 a25 a26 l27 (a29, l30)) (reflect_Factor_m51 l_1 l_2 a21 l24 a25 (a29, l30)) (reflect_Factor_n26 v_0 l_1 l_2 l_3 a2 a21 l24 a25 a26 l27) (exitE 2 (reflect_Factor_n28 v_0 l_1 l_2 l_3 a2 a21 l24 a25 a26 l27) (exitE 1 (reflect_Factor_n37 v_0 l_1 l_2 l_3 a2 a21) (exitE 0 (reflect_Factor_n39 l_1 a2) reflect_Factor_E))) :=
  Sg.cut 3 (noN_exit (noN_exit (noN_exit reflect_Factor_hN))) (Sg.seg (C := C0) C0_ok L_reflect_sum_v4_ok 60 (reflect_Factor_l48.take 3) (reflect_Factor_n26 v_0 l_1 l_2 l_3 a2 a21 l24 a25 a26 l27 (a29, l30)) (reflect_Factor_t49 l_1 l_2 a21 l24 a25 a29 l30) (reflect_Factor_n27 v_0 l_1 l_2 l_3 a2 a21 l24 a25 a26 l27 a29) (exitE 2 (reflect_Factor_n28 v_0 l_1 l_2 l_3 a2 a21 l24 a25 a26 l27) (exitE 1 (reflect_Factor_n37 v_0 l_1 l_2 l_3 a2 a21) (exitE 0 (reflect_Factor_n39 l_1 a2) reflect_Factor_E))) [⟨[], [0, 1, 2, 3, 4, 5, 6, 7], [1, 2, 4, 5, 6, 7, 8, 30, 31, 32, 47, 48]⟩, ⟨[], [0, 1, 2, 3, 4, 5, 6, 7], [1, 2, 4, 5, 6, 7, 8, 30, 31, 32]⟩] (by kernel_rfl)) (fun l31 => by exact Sg.seg (C := C0) C0_ok L_reflect_sum_v4_ok 60 (reflect_Factor_l48.drop 3) (reflect_Factor_n27 v_0 l_1 l_2 l_3 a2 a21 l24 a25 a26 l27 a29 l31) (reflect_Factor_t50 a29 l31) (reflect_Factor_n26 v_0 l_1 l_2 l_3 a2 a21 l24 a25 a26 l27) (exitE 2 (reflect_Factor_n28 v_0 l_1 l_2 l_3 a2 a21 l24 a25 a26 l27) (exitE 1 (reflect_Factor_n37 v_0 l_1 l_2 l_3 a2 a21) (exitE 0 (reflect_Factor_n39 l_1 a2) reflect_Factor_E))) [⟨[], [0, 1, 2, 3, 4, 5, 6, 7], [1, 2, 4, 5, 6, 7, 8, 30, 31, 32, 47, 48]⟩] (by kernel_rfl))
def reflect_Factor_n29 (v_0 : Lv) (l_1 : Nat) (l_2 : List (List Nat)) (l_3 : List Nat) (a2 : Nat) (a21 : Nat) (l24 : List Nat) (a25 : Nat) (a26 : Nat) (l27 : List Nat) : (List Nat) → ASt := reflect_Factor_n28 v_0 l_1 l_2 l_3 a2 a21 l24 a25 a26 l27
def reflect_Factor_n30 (v_0 : Lv) (l_1 : Nat) (l_2 : List (List Nat)) (l_3 : List Nat) (a2 : Nat) (a21 : Nat) (l24 : List Nat) (a25 : Nat) (a26 : Nat) (l27 : List Nat) (l32 : List Nat) (_ : Unit) : ASt := ⟨slots 84 [(1, .ptr 0 1 0 0), (2, .ptr 1 1 0 0), (4, .ptr 2 1 0 0), (5, .ptr 3 1 0 0), (6, .ptr 4 1 0 0), (7, .int .i64 ((a21 : Nat) : Int)), (8, .ptr 5 1 0 0), (30, .imm v_0 (.cols l_1 [.cfl l_2, .cf l_3]) 2 2 0 l_1), (31, .int .i64 ((l_1 : Nat) : Int)), (32, .int .i64 ((a21 : Nat) : Int)), (60, .int .i64 ((a21 : Nat) : Int)), (61, .int .i64 (0 : Int))], [(0, .vs [.imm v_0 (.cols l_1 [.cfl l_2, .cf l_3]) 2 2 0 l_1]), (1, .vs [.int .i64 (0 : Int), .int .i64 (0 : Int), .nsl]), (2, .vs [.int .i64 ((l_1 : Nat) : Int)]), (3, .vs [.int .i64 ((l_1 : Nat) : Int), .int .i64 ((l_1 : Nat) : Int), .sl 6 1 1 0 a2 a2]), (4, .vs [.sl 7 1 1 0 l_1 l_1]), (5, .vs [.imm .free (.fl l24) 1 1 0 a25, .flt false a26]), (6, .fl l27), (7, .fl l32)], 8⟩
def reflect_Factor_t52 : T ((Unit) ⊕ (((List Nat) × (List Nat)) ⊕ (((List Nat)) ⊕ (reflect_Factor_X)))) :=
  .leaf (.inl ())
def reflect_Factor_n33 (v_0 : Lv) (l_1 : Nat) (l_2 : List (List Nat)) (l_3 : List Nat) (a2 : Nat) (a21 : Nat) (l24 : List Nat) (a25 : Nat) (a26 : Nat) (l32 : List Nat) : Nat × (List Nat) → ASt := fun (a34, l35) => ⟨slots 84 [(1, .ptr 0 1 0 0), (2, .ptr 1 1 0 0), (4, .ptr 2 1 0 0), (5, .ptr 3 1 0 0), (6, .ptr 4 1 0 0), (7, .int .i64 ((a21 : Nat) : Int)), (8, .ptr 5 1 0 0), (30, .imm v_0 (.cols l_1 [.cfl l_2, .cf l_3]) 2 2 0 l_1), (31, .int .i64 ((l_1 : Nat) : Int)), (32, .int .i64 ((a21 : Nat) : Int)), (60, .int .i64 ((a21 : Nat) : Int)), (61, .int .i64 ((a34 : Nat) : Int))], [(0, .vs [.imm v_0 (.cols l_1 [.cfl l_2, .cf l_3]) 2 2 0 l_1]), (1, .vs [.int .i64 (0 : Int), .int .i64 (0 : Int), .nsl]), (2, .vs [.int .i64 ((l_1 : Nat) : Int)]), (3, .vs [.int .i64 ((l_1 : Nat) : Int), .int .i64 ((l_1 : Nat) : Int), .sl 6 1 1 0 a2 a2]), (4, .vs [.sl 7 1 1 0 l_1 l_1]), (5, .vs [.imm .free (.fl l24) 1 1 0 a25, .flt false a26]), (6, .fl l35), (7, .fl l32)], 8⟩
def reflect_Factor_n35 (v_0 : Lv) (l_1 : Nat) (l_2 : List (List Nat)) (l_3 : List Nat) (a2 : Nat) (a21 : Nat) (l32 : List Nat) (l37 : (List Nat)) : ASt := ⟨slots 84 [(1, .ptr 0 1 0 0), (2, .ptr 1 1 0 0), (4, .ptr 2 1 0 0), (5, .ptr 3 1 0 0), (6, .ptr 4 1 0 0), (30, .imm v_0 (.cols l_1 [.cfl l_2, .cf l_3]) 2 2 0 l_1), (31, .int .i64 ((l_1 : Nat) : Int)), (32, .int .i64 ((a21 : Nat) : Int))], [(0, .vs [.imm v_0 (.cols l_1 [.cfl l_2, .cf l_3]) 2 2 0 l_1]), (1, .vs [.int .i64 (0 : Int), .int .i64 (0 : Int), .nsl]), (2, .vs [.int .i64 ((l_1 : Nat) : Int)]), (3, .vs [.int .i64 ((l_1 : Nat) : Int), .int .i64 ((l_1 : Nat) : Int), .sl 5 1 1 0 a2 a2]), (4, .vs [.sl 6 1 1 0 l_1 l_1]), (5, .fl l37), (6, .fl l32)], 7⟩
noncomputable def reflect_Factor_l53 : List Code := flat (inLoop ((((((reflect_Factor_l46.drop 3).drop 1).drop 1).take 1)).headD .skip))
def reflect_Factor_n34 (v_0 : Lv) (l_1 : Nat) (l_2 : List (List Nat)) (l_3 : List Nat) (a2 : Nat) (a21 : Nat) (l24 : List Nat) (a25 : Nat) (a26 : Nat) (l32 : List Nat) (a34 : Nat) (l36 : (List Nat)) : ASt := ⟨slots 84 [(1, .ptr 0 1 0 0), (2, .ptr 1 1 0 0), (4, .ptr 2 1 0 0), (5, .ptr 3 1 0 0), (6, .ptr 4 1 0 0), (7, .int .i64 ((a21 : Nat) : Int)), (8, .ptr 5 1 0 0), (30, .imm v_0 (.cols l_1 [.cfl l_2, .cf l_3]) 2 2 0 l_1), (31, .int .i64 ((l_1 : Nat) : Int)), (32, .int .i64 ((a21 : Nat) : Int)), (60, .int .i64 ((a21 : Nat) : Int)), (61, .int .i64 ((a34 : Nat) : Int))], [(0, .vs [.imm v_0 (.cols l_1 [.cfl l_2, .cf l_3]) 2 2 0 l_1]), (1, .vs [.int .i64 (0 : Int), .int .i64 (0 : Int), .nsl]), (2, .vs [.int .i64 ((l_1 : Nat) : Int)]), (3, .vs [.int .i64 ((l_1 : Nat) : Int), .int .i64 ((l_1 : Nat) : Int), .sl 6 1 1 0 a2 a2]), (4, .vs [.sl 7 1 1 0 l_1 l_1]), (5, .vs [.imm .free (.fl l24) 1 1 0 a25, .flt false a26]), (6, .fl l36), (7, .fl l32)], 8⟩
def reflect_Factor_t54 (l_1 : Nat) (a2 : Nat) (a21 : Nat) (a26 : Nat) (l32 : List Nat) (a34 : Nat) (l35 : List Nat) : T (((List Nat)) ⊕ (((List Nat)) ⊕ (((List Nat) × (List Nat)) ⊕ (((List Nat)) ⊕ (reflect_Factor_X))))) :=
  .ask (decide (((a34 : Nat) : Int) < ((a21 : Nat) : Int)))
    (.need (inK .i64 (((a34 * l_1) : Nat) : Int)) <| .need (inK .i64 ((((a34 * l_1) + a21) : Nat) : Int)) <| .need (inK .i64 (((a21 : Nat) : Int) - ((a34 : Nat) : Int))) <| .need (slOk 0 a2 l35) <| .need (slOk 0 l_1 l32) <| .need (reflect_sum_v4_i0 (reflect_sum_v4_F (((a21 : Nat) : Int) - ((a34 : Nat) : Int)) (cutL 0 a2 l35) ((a34 : Nat) : Int) ((l_1 : Nat) : Int) (cutL 0 l_1 l32))) <| .need (inB ((((a34 * l_1) + a21) : Nat) : Int) a2) <| .need (ltB ((a34 * l_1) + a21) (List.length l35)) <| .leaf (.inl (List.set l35 ((a34 * l_1) + a21) (fneg (fmul a26 (reflect_sum_v4_p0_0 (reflect_sum_v4_F (((a21 : Nat) : Int) - ((a34 : Nat) : Int)) (cutL 0 a2 l35) ((a34 : Nat) : Int) ((l_1 : Nat) : Int) (cutL 0 l_1 l32))))))))
    (.leaf (.inr (.inl l35)))
def reflect_Factor_t55 (a34 : Nat) (l36 : List Nat) : T ((Nat × (List Nat)) ⊕ (((List Nat)) ⊕ (((List Nat) × (List Nat)) ⊕ (((List Nat)) ⊕ (reflect_Factor_X))))) :=
  .need (inK .i64 (((a34 + 1) : Nat) : Int)) <| .leaf (.inl ((a34 + 1), l36))
noncomputable def reflect_Factor_m56 (l_1 : Nat) (a2 : Nat) (a21 : Nat) (a26 : Nat) (l32 : List Nat) : Nat × (List Nat) → Option ((Nat × (List Nat)) ⊕ (((List Nat)) ⊕ (((List Nat) × (List Nat)) ⊕ (((List Nat)) ⊕ (reflect_Factor_X))))) := fun (a34, l35) =>
  seqM ((reflect_Factor_t54 l_1 a2 a21 a26 l32 a34 l35).run) fun l36 =>
  (reflect_Factor_t55 a34 l36).run
theorem reflect_Factor_s56 (v_0 : Lv) (l_1 : Nat) (l_2 : List (List Nat)) (l_3 : List Nat) (a2 : Nat) (a21 : Nat) (l24 : List Nat) (a25 : Nat) (a26 : Nat) (l32 : List Nat) (a34 : Nat) (l35 : List Nat) : Sg prog [] reflect_Factor_l53 (reflect_Factor_n33 v_0 l_1 l_2 l_3 a2 a21 l24 a25 a26 l32 (a34, l35)) (reflect_Factor_m56 l_1 a2 a21 a26 l32 (a34, l35)) (reflect_Factor_n33 v_0 l_1 l_2 l_3 a2 a21 l24 a25 a26 l32) (exitE 4 (reflect_Factor_n35 v_0 l_1 l_2 l_3 a2 a21 l32) (exitE 1 (reflect_Factor_n37 v_0 l_1 l_2 l_3 a2 a21) (exitE 0 (reflect_Factor_n39 l_1 a2) reflect_Factor_E))) :=
  Sg.cut 3 (noN_exit (noN_exit (noN_exit reflect_Factor_hN))) (Sg.seg (C := C0) C0_ok L_reflect_sum_v4_ok 60 (reflect_Factor_l53.take 3) (reflect_Factor_n33 v_0 l_1 l_2 l_3 a2 a21 l24 a25 a26 l32 (a34, l35)) (reflect_Factor_t54 l_1 a2 a21 a26 l32 a34 l35) (reflect_Factor_n34 v_0 l_1 l_2 l_3 a2 a21 l24 a25 a26 l32 a34) (exitE 4 (reflect_Factor_n35 v_0 l_1 l_2 l_3 a2 a21 l32) (exitE 1 (reflect_Factor_n37 v_0 l_1 l_2 l_3 a2 a21) (exitE 0 (reflect_Factor_n39 l_1 a2) reflect_Factor_E))) [⟨[], [0, 1, 2, 3, 4, 5, 6, 7], [1, 2, 4, 5, 6, 7, 8, 30, 31, 32, 60, 61]⟩, ⟨[], [0, 1, 2, 3, 4, 6, 7], [1, 2, 4, 5, 6, 30, 31, 32]⟩] (by kernel_rfl)) (fun l36 => by exact Sg.seg (C := C0) C0_ok L_reflect_sum_v4_ok 60 (reflect_Factor_l53.drop 3) (reflect_Factor_n34 v_0 l_1 l_2 l_3 a2 a21 l24 a25 a26 l32 a34 l36) (reflect_Factor_t55 a34 l36) (reflect_Factor_n33 v_0 l_1 l_2 l_3 a2 a21 l24 a25 a26 l32) (exitE 4 (reflect_Factor_n35 v_0 l_1 l_2 l_3 a2 a21 l32) (exitE 1 (reflect_Factor_n37 v_0 l_1 l_2 l_3 a2 a21) (exitE 0 (reflect_Factor_n39 l_1 a2) reflect_Factor_E))) [⟨[], [0, 1, 2, 3, 4, 5, 6, 7], [1, 2, 4, 5, 6, 7, 8, 30, 31, 32, 60, 61]⟩] (by kernel_rfl))
def reflect_Factor_n36 (v_0 : Lv) (l_1 : Nat) (l_2 : List (List Nat)) (l_3 : List Nat) (a2 : Nat) (a21 : Nat) (l32 : List Nat) : (List Nat) → ASt := reflect_Factor_n35 v_0 l_1 l_2 l_3 a2 a21 l32
def reflect_Factor_t57 (l32 : List Nat) (l37 : List Nat) : T (((List Nat) × (List Nat)) ⊕ (((List Nat) × (List Nat)) ⊕ (((List Nat)) ⊕ (reflect_Factor_X)))) :=
  .leaf (.inl (l37, l32))
def reflect_Factor_n38 (v_0 : Lv) (l_1 : Nat) (l_2 : List (List Nat)) (l_3 : List Nat) (a2 : Nat) (a21 : Nat) : (List Nat) × (List Nat) → ASt := reflect_Factor_n37 v_0 l_1 l_2 l_3 a2 a21
def reflect_Factor_t58 (a21 : Nat) (l38 : List Nat) (l39 : List Nat) : T ((Nat × (List Nat) × (List Nat)) ⊕ (((List Nat)) ⊕ (reflect_Factor_X))) :=
  .need (inK .i64 (((a21 + 1) : Nat) : Int)) <| .leaf (.inl ((a21 + 1), l38, l39))
noncomputable def reflect_Factor_m59 (l_1 : Nat) (l_2 : List (List Nat)) (l_3 : List Nat) (a2 : Nat) : Nat × (List Nat) × (List Nat) → Option ((Nat × (List Nat) × (List Nat)) ⊕ (((List Nat)) ⊕ (reflect_Factor_X))) := fun (a21, l22, l23) =>
  seqM ((reflect_Factor_t45 l_1 a21 l22).run) fun _ =>
  seqM (joinM (seqM ((reflect_Factor_t47 l_1 l_2 l_3 a2 a21 l22).run) fun (l24, a25, a26, l27) =>
  seqM (loopM (reflect_Factor_m51 l_1 l_2 a21 l24 a25) (0, l23)) fun l32 =>
  seqM ((reflect_Factor_t52).run) fun _ =>
  seqM (loopM (reflect_Factor_m56 l_1 a2 a21 a26 l32) (0, l27)) fun l37 =>
  (reflect_Factor_t57 l32 l37).run)) fun (l38, l39) =>
  (reflect_Factor_t58 a21 l38 l39).run
theorem reflect_Factor_s59 (v_0 : Lv) (l_1 : Nat) (l_2 : List (List Nat)) (l_3 : List Nat) (a2 : Nat) (a21 : Nat) (l22 : List Nat) (l23 : List Nat) : Sg prog [] reflect_Factor_l44 (reflect_Factor_n21 v_0 l_1 l_2 l_3 a2 (a21, l22, l23)) (reflect_Factor_m59 l_1 l_2 l_3 a2 (a21, l22, l23)) (reflect_Factor_n21 v_0 l_1 l_2 l_3 a2) (exitE 0 (reflect_Factor_n39 l_1 a2) reflect_Factor_E) :=
  Sg.cut 2 (noN_exit reflect_Factor_hN) (Sg.seg (C := C0) C0_ok L_reflect_sum_v4_ok 60 (reflect_Factor_l44.take 2) (reflect_Factor_n21 v_0 l_1 l_2 l_3 a2 (a21, l22, l23)) (reflect_Factor_t45 l_1 a21 l22) (reflect_Factor_n22 v_0 l_1 l_2 l_3 a2 a21 l22 l23) (exitE 0 (reflect_Factor_n39 l_1 a2) reflect_Factor_E) [⟨[], [0, 1, 2, 3, 4, 5, 6], [1, 2, 4, 5, 6, 30, 31, 32]⟩, ⟨[], [1, 3, 5], [2, 5]⟩] (by kernel_rfl)) (fun a => by cases a; exact Sg.cut 1 (noN_exit reflect_Factor_hN) (Sg.blockAt (id := 1) (K := (reflect_Factor_n37 v_0 l_1 l_2 l_3 a2 a21)) (by kernel_rfl : ((reflect_Factor_l44.drop 2).take 1) = [.block 1 (inBlock ((((reflect_Factor_l44.drop 2).take 1)).headD .skip))]) (noN_exit reflect_Factor_hN) (noId_exit (by decide) (reflect_Factor_hI _)) (Sg.cut 3 (noN_exit (noN_exit reflect_Factor_hN)) (Sg.seg (C := C0) C0_ok L_reflect_sum_v4_ok 60 (reflect_Factor_l46.take 3) (reflect_Factor_n22 v_0 l_1 l_2 l_3 a2 a21 l22 l23 ()) (reflect_Factor_t47 l_1 l_2 l_3 a2 a21 l22) (reflect_Factor_n23 v_0 l_1 l_2 l_3 a2 a21 l23) (exitE 1 (reflect_Factor_n37 v_0 l_1 l_2 l_3 a2 a21) (exitE 0 (reflect_Factor_n39 l_1 a2) reflect_Factor_E)) [⟨[], [0, 1, 2, 3, 4, 55, 5, 6], [1, 2, 4, 5, 6, 7, 8, 30, 31, 32, 47, 48]⟩] (by kernel_rfl)) (fun a => by obtain ⟨l24, a25, a26, l27⟩ := a; exact Sg.cut 1 (noN_exit (noN_exit reflect_Factor_hN)) (Sg.pre ⟨[], [0, 1, 2, 3, 4, 5, 6, 7], [1, 2, 4, 5, 6, 7, 8, 30, 31, 32, 47, 48]⟩ rfl (by kernel_rfl : NS.on ⟨[], [0, 1, 2, 3, 4, 5, 6, 7], [1, 2, 4, 5, 6, 7, 8, 30, 31, 32, 47, 48]⟩ (reflect_Factor_n23 v_0 l_1 l_2 l_3 a2 a21 l23 (l24, a25, a26, l27)) = (reflect_Factor_n26 v_0 l_1 l_2 l_3 a2 a21 l24 a25 a26 l27) (0, l23)) (Sg.loopAt (I := (reflect_Factor_n26 v_0 l_1 l_2 l_3 a2 a21 l24 a25 a26 l27)) (J := (reflect_Factor_n28 v_0 l_1 l_2 l_3 a2 a21 l24 a25 a26 l27)) (id := 2) (by kernel_rfl : ((reflect_Factor_l46.drop 3).take 1) = [.block 2 (.loop (inLoop ((((reflect_Factor_l46.drop 3).take 1)).headD .skip)))]) (noN_exit (noN_exit reflect_Factor_hN)) (noId_exit (by decide) (noId_exit (by decide) (reflect_Factor_hI _))) (fun s => by obtain ⟨a29, l30⟩ := s; exact reflect_Factor_s51 v_0 l_1 l_2 l_3 a2 a21 l24 a25 a26 l27 a29 l30) (0, l23))) (fun l32 => by exact Sg.cut 1 (noN_exit (noN_exit reflect_Factor_hN)) (Sg.seg (C := C0) C0_ok L_reflect_sum_v4_ok 60 (((reflect_Factor_l46.drop 3).drop 1).take 1) (reflect_Factor_n29 v_0 l_1 l_2 l_3 a2 a21 l24 a25 a26 l27 l32) (reflect_Factor_t52) (reflect_Factor_n30 v_0 l_1 l_2 l_3 a2 a21 l24 a25 a26 l27 l32) (exitE 1 (reflect_Factor_n37 v_0 l_1 l_2 l_3 a2 a21) (exitE 0 (reflect_Factor_n39 l_1 a2) reflect_Factor_E)) [⟨[], [0, 1, 2, 3, 4, 5, 6, 7], [1, 2, 4, 5, 6, 7, 8, 30, 31, 32, 60, 61]⟩] (by kernel_rfl)) (fun a => by cases a; exact Sg.cut 1 (noN_exit (noN_exit reflect_Factor_hN)) (Sg.pre ⟨[], [0, 1, 2, 3, 4, 5, 6, 7], [1, 2, 4, 5, 6, 7, 8, 30, 31, 32, 60, 61]⟩ rfl (by kernel_rfl : NS.on ⟨[], [0, 1, 2, 3, 4, 5, 6, 7], [1, 2, 4, 5, 6, 7, 8, 30, 31, 32, 60, 61]⟩ (reflect_Factor_n30 v_0 l_1 l_2 l_3 a2 a21 l24 a25 a26 l27 l32 ()) = (reflect_Factor_n33 v_0 l_1 l_2 l_3 a2 a21 l24 a25 a26 l32) (0, l27)) (Sg.loopAt (I := (reflect_Factor_n33 v_0 l_1 l_2 l_3 a2 a21 l24 a25 a26 l32)) (J := (reflect_Factor_n35 v_0 l_1 l_2 l_3 a2 a21 l32)) (id := 4) (by kernel_rfl : ((((reflect_Factor_l46.drop 3).drop 1).drop 1).take 1) = [.block 4 (.loop (inLoop ((((((reflect_Factor_l46.drop 3).drop 1).drop 1).take 1)).headD .skip)))]) (noN_exit (noN_exit reflect_Factor_hN)) (noId_exit (by decide) (noId_exit (by decide) (reflect_Factor_hI _))) (fun s => by obtain ⟨a34, l35⟩ := s; exact reflect_Factor_s56 v_0 l_1 l_2 l_3 a2 a21 l24 a25 a26 l32 a34 l35) (0, l27))) (fun l37 => by exact Sg.seg (C := C0) C0_ok L_reflect_sum_v4_ok 60 ((((reflect_Factor_l46.drop 3).drop 1).drop 1).drop 1) (reflect_Factor_n36 v_0 l_1 l_2 l_3 a2 a21 l32 l37) (reflect_Factor_t57 l32 l37) (reflect_Factor_n37 v_0 l_1 l_2 l_3 a2 a21) (exitE 1 (reflect_Factor_n37 v_0 l_1 l_2 l_3 a2 a21) (exitE 0 (reflect_Factor_n39 l_1 a2) reflect_Factor_E)) [⟨[], [0, 1, 2, 3, 4, 5, 6], [1, 2, 4, 5, 6, 30, 31, 32]⟩] (by kernel_rfl))))))) (fun a => by obtain ⟨l38, l39⟩ := a; exact Sg.seg (C := C0) C0_ok L_reflect_sum_v4_ok 60 ((reflect_Factor_l44.drop 2).drop 1) (reflect_Factor_n38 v_0 l_1 l_2 l_3 a2 a21 (l38, l39)) (reflect_Factor_t58 a21 l38 l39) (reflect_Factor_n21 v_0 l_1 l_2 l_3 a2) (exitE 0 (reflect_Factor_n39 l_1 a2) reflect_Factor_E) [⟨[], [0, 1, 2, 3, 4, 5, 6], [1, 2, 4, 5, 6, 30, 31, 32]⟩] (by kernel_rfl)))
def reflect_Factor_n40 (l_1 : Nat) (a2 : Nat) : (List Nat) → ASt := reflect_Factor_n39 l_1 a2
def reflect_Factor_t60 (l_1 : Nat) (a2 : Nat) (l40 : List Nat) : T ((Empty) ⊕ (reflect_Factor_X)) :=
  .leaf (.inr (.r1 l_1 a2 l40))
noncomputable def reflect_Factor_F (l_1 : Nat) (l_2 : List (List Nat)) (l_3 : List Nat) : Option reflect_Factor_X := toX (seqM ((reflect_Factor_t42 l_1 l_2 l_3).run) fun b1 =>
  seqM ((reflect_Factor_t43 l_1 b1).run) fun (a2, l3, l4) =>
  seqM (loopM (reflect_Factor_m59 l_1 l_2 l_3 a2) (0, l3, l4)) fun l40 =>
  (reflect_Factor_t60 l_1 a2 l40).run)
theorem reflect_Factor_ok (v_0 : Lv) (l_1 : Nat) (l_2 : List (List Nat)) (l_3 : List Nat) {x : reflect_Factor_X} (h : reflect_Factor_F l_1 l_2 l_3 = some x) : Contract prog n_reflect_Factor [] [.imm v_0 (.cols l_1 [.cfl l_2, .cf l_3]) 2 2 0 l_1] (reflect_Factor_o x) :=
  Sg.contract false reflect_Factor_o (by kernel_rfl : prog.funcs[n_reflect_Factor]? = some (FN n_reflect_Factor)) (by kernel_rfl : (FN n_reflect_Factor).body = some (BODY n_reflect_Factor)) (Sg.cut 3 reflect_Factor_hN (Sg.seg (C := C0) C0_ok L_reflect_sum_v4_ok 60 (reflect_Factor_l41.take 3) (entryOf (FN n_reflect_Factor) [] [.imm v_0 (.cols l_1 [.cfl l_2, .cf l_3]) 2 2 0 l_1]) (reflect_Factor_t42 l_1 l_2 l_3) (reflect_Factor_n1 v_0 l_1 l_2 l_3) reflect_Factor_E [⟨[], [0, 16, 80], [1, 2, 4, 19]⟩, ⟨[], [0, 16, 80], [1, 2, 4, 19]⟩] (by kernel_rfl)) (fun b1 => by exact Sg.cut 4 reflect_Factor_hN (Sg.seg (C := C0) C0_ok L_reflect_sum_v4_ok 60 ((reflect_Factor_l41.drop 3).take 4) (reflect_Factor_n1 v_0 l_1 l_2 l_3 b1) (reflect_Factor_t43 l_1 b1) (reflect_Factor_n2 v_0 l_1 l_2 l_3) reflect_Factor_E [⟨[], [1], [2, 3]⟩, ⟨[], [0, 1, 2, 115, 179, 83, 163], [1, 2, 4, 5, 6, 30, 31, 32]⟩] (by kernel_rfl)) (fun a => by obtain ⟨a2, l3, l4⟩ := a; exact Sg.cut 1 reflect_Factor_hN (Sg.pre ⟨[], [0, 1, 2, 3, 4, 5, 6], [1, 2, 4, 5, 6, 30, 31, 32]⟩ rfl (by kernel_rfl : NS.on ⟨[], [0, 1, 2, 3, 4, 5, 6], [1, 2, 4, 5, 6, 30, 31, 32]⟩ (reflect_Factor_n2 v_0 l_1 l_2 l_3 (a2, l3, l4)) = (reflect_Factor_n21 v_0 l_1 l_2 l_3 a2) (0, l3, l4)) (Sg.loopAt (I := (reflect_Factor_n21 v_0 l_1 l_2 l_3 a2)) (J := (reflect_Factor_n39 l_1 a2)) (id := 0) (by kernel_rfl : (((reflect_Factor_l41.drop 3).drop 4).take 1) = [.block 0 (.loop (inLoop (((((reflect_Factor_l41.drop 3).drop 4).take 1)).headD .skip)))]) reflect_Factor_hN (reflect_Factor_hI _) (fun s => by obtain ⟨a21, l22, l23⟩ := s; exact reflect_Factor_s59 v_0 l_1 l_2 l_3 a2 a21 l22 l23) (0, l3, l4))) (fun l40 => by exact Sg.seg (C := C0) C0_ok L_reflect_sum_v4_ok 60 (((reflect_Factor_l41.drop 3).drop 4).drop 1) (reflect_Factor_n40 l_1 a2 l40) (reflect_Factor_t60 l_1 a2 l40) (fun a : Empty => a.elim) reflect_Factor_E [⟨[], [0, 2], [2, 3]⟩] (by kernel_rfl)))))
    (fun x => by cases x with | r0 => exact ⟨.inr rfl, [.agg [.int .i64 (0 : Int), .int .i64 (0 : Int), .nsl], .int .i64 (2 : Int)], [], by kernel_rfl, trivial, by kernel_rfl⟩ | r1 a41 a42 l43 => exact ⟨.inr rfl, [.agg [.int .i64 ((a41 : Nat) : Int), .int .i64 ((a41 : Nat) : Int), .sl 1 1 1 0 a42 a42], .int .i64 (0 : Int)], [], by kernel_rfl, trivial, by kernel_rfl⟩) h

def reflect_Factor_i0 : Option reflect_Factor_X → Bool
  | some (.r0) => true
  | _ => false
theorem reflect_Factor_e0 {x : Option reflect_Factor_X} (h : reflect_Factor_i0 x = true) : x = some (.r0) := by
  unfold reflect_Factor_i0 at h
  split at h <;> first | rfl | (cases h; done) | (rename_i y; cases y; rfl)
def reflect_Factor_i1 : Option reflect_Factor_X → Bool
  | some (.r1 _ _ _) => true
  | _ => false
def reflect_Factor_p1_0 : Option reflect_Factor_X → Nat
  | some (.r1 x _ _) => x
  | _ => 0
def reflect_Factor_p1_1 : Option reflect_Factor_X → Nat
  | some (.r1 _ x _) => x
  | _ => 0
def reflect_Factor_p1_2 : Option reflect_Factor_X → List Nat
  | some (.r1 _ _ x) => x
  | _ => []
theorem reflect_Factor_e1 {x : Option reflect_Factor_X} (h : reflect_Factor_i1 x = true) : x = some (.r1 (reflect_Factor_p1_0 x) (reflect_Factor_p1_1 x) (reflect_Factor_p1_2 x)) := by
  unfold reflect_Factor_i1 at h
  split at h <;> first | rfl | (cases h; done) | (rename_i y; cases y; rfl)
noncomputable def e_reflect_Factor : Entry := autoE n_reflect_Factor (.cons (.cols [.cfl, .cf]) .nil) fun t => [⟨reflect_Factor_o (.r0), [reflect_Factor_i0 (reflect_Factor_F t.1.2.1 t.1.2.2.1 t.1.2.2.2.1)]⟩, ⟨reflect_Factor_o (.r1 (reflect_Factor_p1_0 (reflect_Factor_F t.1.2.1 t.1.2.2.1 t.1.2.2.2.1)) (reflect_Factor_p1_1 (reflect_Factor_F t.1.2.1 t.1.2.2.1 t.1.2.2.2.1)) (reflect_Factor_p1_2 (reflect_Factor_F t.1.2.1 t.1.2.2.1 t.1.2.2.2.1))), [reflect_Factor_i1 (reflect_Factor_F t.1.2.1 t.1.2.2.1 t.1.2.2.2.1)]⟩]
theorem e_reflect_Factor_ok : EntryOk prog e_reflect_Factor := autoE_ok fun t => (altsCons (fun h => reflect_Factor_ok t.1.1 t.1.2.1 t.1.2.2.1 t.1.2.2.2.1 (reflect_Factor_e0 h)) (altsCons (fun h => reflect_Factor_ok t.1.1 t.1.2.1 t.1.2.2.1 t.1.2.2.2.1 (reflect_Factor_e1 h)) altsNil))
noncomputable def L_reflect_Factor : List Entry := e_reflect_Factor :: L_reflect_sum_v4
theorem L_reflect_Factor_ok : SumsOk prog (sumsOf L_reflect_Factor) := sumsOf_cons e_reflect_Factor_ok L_reflect_sum_v4_ok

inductive ref09_Alike_X where
  | r0 (b3 : Bool)
def ref09_Alike_E : ref09_Alike_X → AE × ASt
  | .r0 b3 => (.ret, ⟨slots 39 [(2, .bool false b3)], [], 0⟩)
theorem ref09_Alike_hN : NoN ref09_Alike_E := by intro x; cases x <;> (intro h; cases h)
theorem ref09_Alike_hI (id : Nat) : NoId id ref09_Alike_E := by intro x; cases x <;> (intro h; cases h)
def ref09_Alike_o : ref09_Alike_X → Out
  | .r0 b3 => ⟨.bool false b3, []⟩
noncomputable def ref09_Alike_l7 : List Code := flat (BODY n_ref09_Alike)
def ref09_Alike_n1 (v_0 : Lv) (l_1 : Nat) (l_2 : List (List Nat)) (l_3 : List Nat) (_ : Unit) : ASt := ⟨slots 39 [(0, .imm v_0 (.cols l_1 [.cfl l_2, .cf l_3]) 2 2 0 l_1), (3, .int .i64 (0 : Int))], [], 0⟩
def ref09_Alike_t8 : T ((Unit) ⊕ (ref09_Alike_X)) :=
  .leaf (.inl ())
def ref09_Alike_n3 (v_0 : Lv) (l_1 : Nat) (l_2 : List (List Nat)) (l_3 : List Nat) (i1 : Nat) : ASt := ⟨slots 39 [(0, .imm v_0 (.cols l_1 [.cfl l_2, .cf l_3]) 2 2 0 l_1), (3, .int .i64 ((i1 : Nat) : Int))], [], 0⟩
def ref09_Alike_n4 (v_0 : Lv) (l_1 : Nat) (l_2 : List (List Nat)) (l_3 : List Nat) (_ : Unit) : ASt := ⟨slots 39 [(0, .imm v_0 (.cols l_1 [.cfl l_2, .cf l_3]) 2 2 0 l_1)], [], 0⟩
noncomputable def ref09_Alike_l9 : List Code := flat (inLoop ((((ref09_Alike_l7.drop 2).take 1)).headD .skip))
def ref09_Alike_t10 (l_1 : Nat) (l_2 : List (List Nat)) (i1 : Nat) : T ((Nat) ⊕ ((Unit) ⊕ (ref09_Alike_X))) :=
  .ask (decide (((i1 : Nat) : Int) < ((l_1 : Nat) : Int)))
    (.need (inB ((i1 : Nat) : Int) l_1) <| .need (ltB i1 (List.length l_2)) <| .ask ((((List.length (List.getD l_2 i1 [])) : Nat) : Int) == (0 : Int))
      (.leaf (.inr (.inr (.r0 false))))
      (.need (inB ((i1 : Nat) : Int) l_1) <| .need (ltB i1 (List.length l_2)) <| .need (inB (0 : Int) l_1) <| .need (ltB 0 (List.length l_2)) <| .ask ((((List.length (List.getD l_2 i1 [])) : Nat) : Int) != (((List.length (List.getD l_2 0 [])) : Nat) : Int))
        (.leaf (.inr (.inr (.r0 false))))
        (.need (inK .i64 (((i1 + 1) : Nat) : Int)) <| .leaf (.inl (i1 + 1)))))
    (.leaf (.inr (.inl ())))
noncomputable def ref09_Alike_m11 (l_1 : Nat) (l_2 : List (List Nat)) : Nat → Option ((Nat) ⊕ ((Unit) ⊕ (ref09_Alike_X))) := fun i1 =>
  (ref09_Alike_t10 l_1 l_2 i1).run
theorem ref09_Alike_s11 (v_0 : Lv) (l_1 : Nat) (l_2 : List (List Nat)) (l_3 : List Nat) (i1 : Nat) : Sg prog [] ref09_Alike_l9 (ref09_Alike_n3 v_0 l_1 l_2 l_3 i1) (ref09_Alike_m11 l_1 l_2 i1) (ref09_Alike_n3 v_0 l_1 l_2 l_3) (exitE 0 (ref09_Alike_n4 v_0 l_1 l_2 l_3) ref09_Alike_E) :=
  Sg.seg (C := C0) C0_ok L_reflect_Factor_ok 60 ref09_Alike_l9 (ref09_Alike_n3 v_0 l_1 l_2 l_3 i1) (ref09_Alike_t10 l_1 l_2 i1) (ref09_Alike_n3 v_0 l_1 l_2 l_3) (exitE 0 (ref09_Alike_n4 v_0 l_1 l_2 l_3) ref09_Alike_E) [⟨[], [], [2]⟩, ⟨[], [], [2]⟩, ⟨[], [], [0, 3]⟩, ⟨[], [], [0]⟩] (by kernel_rfl)
def ref09_Alike_n5 (v_0 : Lv) (l_1 : Nat) (l_2 : List (List Nat)) (l_3 : List Nat) : Unit → ASt := ref09_Alike_n4 v_0 l_1 l_2 l_3
def ref09_Alike_n6 (b2 : Bool) : ASt := ⟨slots 39 [(2, .bool false b2)], [], 0⟩
def ref09_Alike_t12 (l_1 : Nat) : T ((Bool) ⊕ (ref09_Alike_X)) :=
  .ask (decide (((l_1 : Nat) : Int) > (0 : Int)))
    (.leaf (.inl (decide (((l_1 : Nat) : Int) ≤ (512 : Int)))))
    (.leaf (.inl false))
def ref09_Alike_t13 (b2 : Bool) : T ((Empty) ⊕ (ref09_Alike_X)) :=
  .leaf (.inr (.r0 b2))
noncomputable def ref09_Alike_F (l_1 : Nat) (l_2 : List (List Nat)) : Option ref09_Alike_X := toX (seqM ((ref09_Alike_t8).run) fun _ =>
  seqM (loopM (ref09_Alike_m11 l_1 l_2) 0) fun _ =>
  seqM ((ref09_Alike_t12 l_1).run) fun b2 =>
  (ref09_Alike_t13 b2).run)
theorem ref09_Alike_ok (v_0 : Lv) (l_1 : Nat) (l_2 : List (List Nat)) (l_3 : List Nat) {x : ref09_Alike_X} (h : ref09_Alike_F l_1 l_2 = some x) : Contract prog n_ref09_Alike [] [.imm v_0 (.cols l_1 [.cfl l_2, .cf l_3]) 2 2 0 l_1] (ref09_Alike_o x) :=
  Sg.contract false ref09_Alike_o (by kernel_rfl : prog.funcs[n_ref09_Alike]? = some (FN n_ref09_Alike)) (by kernel_rfl : (FN n_ref09_Alike).body = some (BODY n_ref09_Alike)) (Sg.cut 2 ref09_Alike_hN (Sg.seg (C := C0) C0_ok L_reflect_Factor_ok 60 (ref09_Alike_l7.take 2) (entryOf (FN n_ref09_Alike) [] [.imm v_0 (.cols l_1 [.cfl l_2, .cf l_3]) 2 2 0 l_1]) (ref09_Alike_t8) (ref09_Alike_n1 v_0 l_1 l_2 l_3) ref09_Alike_E [⟨[], [], [0, 3]⟩] (by kernel_rfl)) (fun a => by cases a; exact Sg.cut 1 ref09_Alike_hN (Sg.pre ⟨[], [], [0, 3]⟩ rfl (by kernel_rfl : NS.on ⟨[], [], [0, 3]⟩ (ref09_Alike_n1 v_0 l_1 l_2 l_3 ()) = (ref09_Alike_n3 v_0 l_1 l_2 l_3) 0) (Sg.loopAt (I := (ref09_Alike_n3 v_0 l_1 l_2 l_3)) (J := (ref09_Alike_n4 v_0 l_1 l_2 l_3)) (id := 0) (by kernel_rfl : ((ref09_Alike_l7.drop 2).take 1) = [.block 0 (.loop (inLoop ((((ref09_Alike_l7.drop 2).take 1)).headD .skip)))]) ref09_Alike_hN (ref09_Alike_hI _) (fun s => by exact ref09_Alike_s11 v_0 l_1 l_2 l_3 s) 0)) (fun a => by cases a; exact Sg.cut 1 ref09_Alike_hN (Sg.seg (C := C0) C0_ok L_reflect_Factor_ok 60 (((ref09_Alike_l7.drop 2).drop 1).take 1) (ref09_Alike_n5 v_0 l_1 l_2 l_3 ()) (ref09_Alike_t12 l_1) ref09_Alike_n6 ref09_Alike_E [⟨[], [], [2]⟩, ⟨[], [], [2]⟩] (by kernel_rfl)) (fun b2 => by exact Sg.seg (C := C0) C0_ok L_reflect_Factor_ok 60 (((ref09_Alike_l7.drop 2).drop 1).drop 1) (ref09_Alike_n6 b2) (ref09_Alike_t13 b2) (fun a : Empty => a.elim) ref09_Alike_E [⟨[], [], [2]⟩] (by kernel_rfl)))))
    (fun x => by cases x with | r0 b3 => exact ⟨.inr rfl, [.bool false b3], [], by kernel_rfl, trivial, by kernel_rfl⟩) h

def ref09_Alike_i0 : Option ref09_Alike_X → Bool
  | some _ => true
  | none => false
def ref09_Alike_p0_0 : Option ref09_Alike_X → Bool
  | some (.r0 x) => x
  | _ => false
theorem ref09_Alike_e0 {x : Option ref09_Alike_X} (h : ref09_Alike_i0 x = true) : x = some (.r0 (ref09_Alike_p0_0 x)) := by
  unfold ref09_Alike_i0 at h
  split at h <;> first | rfl | (cases h; done) | (rename_i y; cases y; rfl)
noncomputable def e_ref09_Alike : Entry := autoE n_ref09_Alike (.cons (.cols [.cfl, .cf]) .nil) fun t => [⟨ref09_Alike_o (.r0 (ref09_Alike_p0_0 (ref09_Alike_F t.1.2.1 t.1.2.2.1))), [ref09_Alike_i0 (ref09_Alike_F t.1.2.1 t.1.2.2.1)]⟩]
theorem e_ref09_Alike_ok : EntryOk prog e_ref09_Alike := autoE_ok fun t => (altsCons (fun h => ref09_Alike_ok t.1.1 t.1.2.1 t.1.2.2.1 t.1.2.2.2.1 (ref09_Alike_e0 h)) altsNil)
noncomputable def L_ref09_Alike : List Entry := e_ref09_Alike :: L_reflect_Factor
theorem L_ref09_Alike_ok : SumsOk prog (sumsOf L_ref09_Alike) := sumsOf_cons e_ref09_Alike_ok L_reflect_Factor_ok

end
end Go.Plb.Seat

namespace Go.Plb.Seat
open Go Go.Plb
set_option linter.unusedVariables false
set_option maxRecDepth 10000
noncomputable section

inductive ref09_Factor_X where
  | r0 (a64 : Nat) (a65 : Nat) (l66 : List Nat)
def ref09_Factor_E : ref09_Factor_X → AE × ASt
  | .r0 a64 a65 l66 => (.ret, ⟨slots 114 [(2, .ptr 0 1 0 0)], [(0, .vs [.int .i64 ((a64 : Nat) : Int), .int .i64 ((a64 : Nat) : Int), .sl 1 1 1 0 a65 a65]), (1, .fl l66)], 2⟩)
theorem ref09_Factor_hN : NoN ref09_Factor_E := by intro x; cases x <;> (intro h; cases h)
theorem ref09_Factor_hI (id : Nat) : NoId id ref09_Factor_E := by intro x; cases x <;> (intro h; cases h)
def ref09_Factor_o : ref09_Factor_X → Out
  | .r0 a64 a65 l66 => ⟨.agg [.int .i64 ((a64 : Nat) : Int), .int .i64 ((a64 : Nat) : Int), .sl 0 1 1 0 a65 a65], [some (.fl l66)]⟩
noncomputable def ref09_Factor_l118 : List Code := flat (BODY n_ref09_Factor)
def ref09_Factor_n1 (v_0 : Lv) (l_1 : Nat) (l_2 : List (List Nat)) (l_3 : List Nat) : Nat × (List Nat) → ASt := fun (a1, l2) => ⟨slots 114 [(0, .imm v_0 (.cols l_1 [.cfl l_2, .cf l_3]) 2 2 0 l_1), (2, .ptr 0 1 0 0), (3, .int .i64 ((l_1 : Nat) : Int)), (4, .ptr 1 1 0 0), (5, .int .i64 (0 : Int))], [(0, .vs [.int .i64 (0 : Int), .int .i64 (0 : Int), .nsl]), (1, .vs [.int .i64 ((l_1 : Nat) : Int), .int .i64 ((l_1 : Nat) : Int), .sl 2 1 1 0 a1 a1]), (2, .fl l2)], 3⟩
def ref09_Factor_t119 (l_1 : Nat) : T ((Nat × (List Nat)) ⊕ (ref09_Factor_X)) :=
  .need (inK .i64 (((l_1 * l_1) : Nat) : Int)) <| .need (decide ((0 : Int) ≤ (((l_1 * l_1) : Nat) : Int))) <| .need (decide ((((l_1 * l_1) : Nat) : Int) ≤ (((l_1 * l_1) : Nat) : Int))) <| .need (decide ((8 : Int) * (((l_1 * l_1) : Nat) : Int) ≤ 140737488355328)) <| .need (inK .i64 (((l_1 * l_1) : Nat) : Int)) <| .leaf (.inl ((l_1 * l_1), (List.replicate (l_1 * l_1) 0)))
def ref09_Factor_n59 (v_0 : Lv) (l_1 : Nat) (l_2 : List (List Nat)) (l_3 : List Nat) (a1 : Nat) : Nat × (List Nat) → ASt := fun (j32, l33) => ⟨slots 114 [(0, .imm v_0 (.cols l_1 [.cfl l_2, .cf l_3]) 2 2 0 l_1), (2, .ptr 0 1 0 0), (3, .int .i64 ((l_1 : Nat) : Int)), (4, .ptr 1 1 0 0), (5, .int .i64 ((j32 : Nat) : Int))], [(0, .vs [.int .i64 (0 : Int), .int .i64 (0 : Int), .nsl]), (1, .vs [.int .i64 ((l_1 : Nat) : Int), .int .i64 ((l_1 : Nat) : Int), .sl 2 1 1 0 a1 a1]), (2, .fl l33)], 3⟩
def ref09_Factor_n116 (l_1 : Nat) (a1 : Nat) (l63 : (List Nat)) : ASt := ⟨slots 114 [(2, .ptr 0 1 0 0), (4, .ptr 1 1 0 0)], [(0, .vs [.int .i64 (0 : Int), .int .i64 (0 : Int), .nsl]), (1, .vs [.int .i64 ((l_1 : Nat) : Int), .int .i64 ((l_1 : Nat) : Int), .sl 2 1 1 0 a1 a1]), (2, .fl l63)], 3⟩
noncomputable def ref09_Factor_l120 : List Code := flat (inLoop ((((ref09_Factor_l118.drop 4).take 1)).headD .skip))
def ref09_Factor_n60 (v_0 : Lv) (l_1 : Nat) (l_2 : List (List Nat)) (l_3 : List Nat) (a1 : Nat) (j32 : Nat) (l33 : List Nat) (_ : Unit) : ASt := ⟨slots 114 [(0, .imm v_0 (.cols l_1 [.cfl l_2, .cf l_3]) 2 2 0 l_1), (2, .ptr 0 1 0 0), (3, .int .i64 ((l_1 : Nat) : Int)), (4, .ptr 1 1 0 0), (5, .int .i64 ((j32 : Nat) : Int))], [(0, .vs [.int .i64 (0 : Int), .int .i64 (0 : Int), .nsl]), (1, .vs [.int .i64 ((l_1 : Nat) : Int), .int .i64 ((l_1 : Nat) : Int), .sl 2 1 1 0 a1 a1]), (2, .fl l33)], 3⟩
def ref09_Factor_t121 (l_1 : Nat) (j32 : Nat) (l33 : List Nat) : T ((Unit) ⊕ (((List Nat)) ⊕ (ref09_Factor_X))) :=
  .ask (decide (((j32 : Nat) : Int) < ((l_1 : Nat) : Int)))
    (.leaf (.inl ()))
    (.leaf (.inr (.inl l33)))
def ref09_Factor_n114 (v_0 : Lv) (l_1 : Nat) (l_2 : List (List Nat)) (l_3 : List Nat) (a1 : Nat) (j32 : Nat) (l62 : (List Nat)) : ASt := ⟨slots 114 [(0, .imm v_0 (.cols l_1 [.cfl l_2, .cf l_3]) 2 2 0 l_1), (2, .ptr 0 1 0 0), (3, .int .i64 ((l_1 : Nat) : Int)), (4, .ptr 1 1 0 0), (5, .int .i64 ((j32 : Nat) : Int))], [(0, .vs [.int .i64 (0 : Int), .int .i64 (0 : Int), .nsl]), (1, .vs [.int .i64 ((l_1 : Nat) : Int), .int .i64 ((l_1 : Nat) : Int), .sl 2 1 1 0 a1 a1]), (2, .fl l62)], 3⟩
noncomputable def ref09_Factor_l122 : List Code := flat (inBlock ((((ref09_Factor_l120.drop 2).take 1)).headD .skip))
def ref09_Factor_n61 (v_0 : Lv) (l_1 : Nat) (l_2 : List (List Nat)) (l_3 : List Nat) (a1 : Nat) (j32 : Nat) (l34 : (List Nat)) : ASt := ⟨slots 114 [(0, .imm v_0 (.cols l_1 [.cfl l_2, .cf l_3]) 2 2 0 l_1), (2, .ptr 0 1 0 0), (3, .int .i64 ((l_1 : Nat) : Int)), (4, .ptr 1 1 0 0), (5, .int .i64 ((j32 : Nat) : Int)), (6, .int .i64 (0 : Int))], [(0, .vs [.int .i64 (0 : Int), .int .i64 (0 : Int), .nsl]), (1, .vs [.int .i64 ((l_1 : Nat) : Int), .int .i64 ((l_1 : Nat) : Int), .sl 2 1 1 0 a1 a1]), (2, .fl l34)], 3⟩
def ref09_Factor_t123 (l_1 : Nat) (l_3 : List Nat) (a1 : Nat) (j32 : Nat) (l33 : List Nat) : T (((List Nat)) ⊕ (((List Nat)) ⊕ (((List Nat)) ⊕ (ref09_Factor_X)))) :=
  .need (inK .i64 (((j32 * l_1) : Nat) : Int)) <| .need (inK .i64 ((((j32 * l_1) + j32) : Nat) : Int)) <| .need (inB ((j32 : Nat) : Int) l_1) <| .need (ltB j32 (List.length l_3)) <| .need (inB ((((j32 * l_1) + j32) : Nat) : Int) a1) <| .need (ltB ((j32 * l_1) + j32) (List.length l33)) <| .leaf (.inl (List.set l33 ((j32 * l_1) + j32) (List.getD l_3 j32 0)))
def ref09_Factor_n87 (v_0 : Lv) (l_1 : Nat) (l_2 : List (List Nat)) (l_3 : List Nat) (a1 : Nat) (j32 : Nat) : Nat × (List Nat) → ASt := fun (i47, l48) => ⟨slots 114 [(0, .imm v_0 (.cols l_1 [.cfl l_2, .cf l_3]) 2 2 0 l_1), (2, .ptr 0 1 0 0), (3, .int .i64 ((l_1 : Nat) : Int)), (4, .ptr 1 1 0 0), (5, .int .i64 ((j32 : Nat) : Int)), (6, .int .i64 ((i47 : Nat) : Int))], [(0, .vs [.int .i64 (0 : Int), .int .i64 (0 : Int), .nsl]), (1, .vs [.int .i64 ((l_1 : Nat) : Int), .int .i64 ((l_1 : Nat) : Int), .sl 2 1 1 0 a1 a1]), (2, .fl l48)], 3⟩
def ref09_Factor_n112 (v_0 : Lv) (l_1 : Nat) (l_2 : List (List Nat)) (l_3 : List Nat) (a1 : Nat) (j32 : Nat) (l61 : (List Nat)) : ASt := ⟨slots 114 [(0, .imm v_0 (.cols l_1 [.cfl l_2, .cf l_3]) 2 2 0 l_1), (2, .ptr 0 1 0 0), (3, .int .i64 ((l_1 : Nat) : Int)), (4, .ptr 1 1 0 0), (5, .int .i64 ((j32 : Nat) : Int))], [(0, .vs [.int .i64 (0 : Int), .int .i64 (0 : Int), .nsl]), (1, .vs [.int .i64 ((l_1 : Nat) : Int), .int .i64 ((l_1 : Nat) : Int), .sl 2 1 1 0 a1 a1]), (2, .fl l61)], 3⟩
noncomputable def ref09_Factor_l124 : List Code := flat (inLoop ((((ref09_Factor_l122.drop 2).take 1)).headD .skip))
def ref09_Factor_n88 (v_0 : Lv) (l_1 : Nat) (l_2 : List (List Nat)) (l_3 : List Nat) (a1 : Nat) (j32 : Nat) (i47 : Nat) (l48 : List Nat) (_ : Unit) : ASt := ⟨slots 114 [(0, .imm v_0 (.cols l_1 [.cfl l_2, .cf l_3]) 2 2 0 l_1), (2, .ptr 0 1 0 0), (3, .int .i64 ((l_1 : Nat) : Int)), (4, .ptr 1 1 0 0), (5, .int .i64 ((j32 : Nat) : Int)), (6, .int .i64 ((i47 : Nat) : Int))], [(0, .vs [.int .i64 (0 : Int), .int .i64 (0 : Int), .nsl]), (1, .vs [.int .i64 ((l_1 : Nat) : Int), .int .i64 ((l_1 : Nat) : Int), .sl 2 1 1 0 a1 a1]), (2, .fl l48)], 3⟩
def ref09_Factor_t125 (j32 : Nat) (i47 : Nat) (l48 : List Nat) : T ((Unit) ⊕ (((List Nat)) ⊕ (((List Nat)) ⊕ (((List Nat)) ⊕ (ref09_Factor_X))))) :=
  .ask (decide (((i47 : Nat) : Int) < ((j32 : Nat) : Int)))
    (.leaf (.inl ()))
    (.leaf (.inr (.inl l48)))
def ref09_Factor_n110 (v_0 : Lv) (l_1 : Nat) (l_2 : List (List Nat)) (l_3 : List Nat) (a1 : Nat) (j32 : Nat) (i47 : Nat) (l60 : (List Nat)) : ASt := ⟨slots 114 [(0, .imm v_0 (.cols l_1 [.cfl l_2, .cf l_3]) 2 2 0 l_1), (2, .ptr 0 1 0 0), (3, .int .i64 ((l_1 : Nat) : Int)), (4, .ptr 1 1 0 0), (5, .int .i64 ((j32 : Nat) : Int)), (6, .int .i64 ((i47 : Nat) : Int))], [(0, .vs [.int .i64 (0 : Int), .int .i64 (0 : Int), .nsl]), (1, .vs [.int .i64 ((l_1 : Nat) : Int), .int .i64 ((l_1 : Nat) : Int), .sl 2 1 1 0 a1 a1]), (2, .fl l60)], 3⟩
noncomputable def ref09_Factor_l126 : List Code := flat (inBlock ((((ref09_Factor_l124.drop 2).take 1)).headD .skip))
def ref09_Factor_n89 (v_0 : Lv) (l_1 : Nat) (l_2 : List (List Nat)) (l_3 : List Nat) (a1 : Nat) (j32 : Nat) (i47 : Nat) (l48 : List Nat) (_ : Unit) : ASt := ⟨slots 114 [(0, .imm v_0 (.cols l_1 [.cfl l_2, .cf l_3]) 2 2 0 l_1), (2, .ptr 0 1 0 0), (3, .int .i64 ((l_1 : Nat) : Int)), (4, .ptr 1 1 0 0), (5, .int .i64 ((j32 : Nat) : Int)), (6, .int .i64 ((i47 : Nat) : Int)), (7, .flt false 0), (8, .int .i64 ((i47 : Nat) : Int))], [(0, .vs [.int .i64 (0 : Int), .int .i64 (0 : Int), .nsl]), (1, .vs [.int .i64 ((l_1 : Nat) : Int), .int .i64 ((l_1 : Nat) : Int), .sl 2 1 1 0 a1 a1]), (2, .fl l48)], 3⟩
def ref09_Factor_t127 : T ((Unit) ⊕ (((List Nat)) ⊕ (((List Nat)) ⊕ (((List Nat)) ⊕ (((List Nat)) ⊕ (ref09_Factor_X)))))) :=
  .leaf (.inl ())
def ref09_Factor_n99 (v_0 : Lv) (l_1 : Nat) (l_2 : List (List Nat)) (l_3 : List Nat) (a1 : Nat) (j32 : Nat) (i47 : Nat) (l48 : List Nat) : Nat × Nat → ASt := fun (s53, m54) => ⟨slots 114 [(0, .imm v_0 (.cols l_1 [.cfl l_2, .cf l_3]) 2 2 0 l_1), (2, .ptr 0 1 0 0), (3, .int .i64 ((l_1 : Nat) : Int)), (4, .ptr 1 1 0 0), (5, .int .i64 ((j32 : Nat) : Int)), (6, .int .i64 ((i47 : Nat) : Int)), (7, .flt false s53), (8, .int .i64 ((m54 : Nat) : Int))], [(0, .vs [.int .i64 (0 : Int), .int .i64 (0 : Int), .nsl]), (1, .vs [.int .i64 ((l_1 : Nat) : Int), .int .i64 ((l_1 : Nat) : Int), .sl 2 1 1 0 a1 a1]), (2, .fl l48)], 3⟩
def ref09_Factor_n108 (v_0 : Lv) (l_1 : Nat) (l_2 : List (List Nat)) (l_3 : List Nat) (a1 : Nat) (j32 : Nat) (i47 : Nat) (l48 : List Nat) (s59 : Nat) : ASt := ⟨slots 114 [(0, .imm v_0 (.cols l_1 [.cfl l_2, .cf l_3]) 2 2 0 l_1), (2, .ptr 0 1 0 0), (3, .int .i64 ((l_1 : Nat) : Int)), (4, .ptr 1 1 0 0), (5, .int .i64 ((j32 : Nat) : Int)), (6, .int .i64 ((i47 : Nat) : Int)), (7, .flt false s59)], [(0, .vs [.int .i64 (0 : Int), .int .i64 (0 : Int), .nsl]), (1, .vs [.int .i64 ((l_1 : Nat) : Int), .int .i64 ((l_1 : Nat) : Int), .sl 2 1 1 0 a1 a1]), (2, .fl l48)], 3⟩
noncomputable def ref09_Factor_l128 : List Code := flat (inLoop ((((ref09_Factor_l126.drop 2).take 1)).headD .skip))
def ref09_Factor_n100 (v_0 : Lv) (l_1 : Nat) (l_2 : List (List Nat)) (l_3 : List Nat) (a1 : Nat) (j32 : Nat) (i47 : Nat) (l48 : List Nat) (s53 : Nat) (m54 : Nat) (_ : Unit) : ASt := ⟨slots 114 [(0, .imm v_0 (.cols l_1 [.cfl l_2, .cf l_3]) 2 2 0 l_1), (2, .ptr 0 1 0 0), (3, .int .i64 ((l_1 : Nat) : Int)), (4, .ptr 1 1 0 0), (5, .int .i64 ((j32 : Nat) : Int)), (6, .int .i64 ((i47 : Nat) : Int)), (7, .flt false s53), (8, .int .i64 ((m54 : Nat) : Int))], [(0, .vs [.int .i64 (0 : Int), .int .i64 (0 : Int), .nsl]), (1, .vs [.int .i64 ((l_1 : Nat) : Int), .int .i64 ((l_1 : Nat) : Int), .sl 2 1 1 0 a1 a1]), (2, .fl l48)], 3⟩
def ref09_Factor_t129 (j32 : Nat) (s53 : Nat) (m54 : Nat) : T ((Unit) ⊕ ((Nat) ⊕ (((List Nat)) ⊕ (((List Nat)) ⊕ (((List Nat)) ⊕ (((List Nat)) ⊕ (ref09_Factor_X))))))) :=
  .ask (decide (((m54 : Nat) : Int) < ((j32 : Nat) : Int)))
    (.leaf (.inl ()))
    (.leaf (.inr (.inl s53)))
def ref09_Factor_n106 (v_0 : Lv) (l_1 : Nat) (l_2 : List (List Nat)) (l_3 : List Nat) (a1 : Nat) (j32 : Nat) (i47 : Nat) (l48 : List Nat) (m54 : Nat) (s58 : Nat) : ASt := ⟨slots 114 [(0, .imm v_0 (.cols l_1 [.cfl l_2, .cf l_3]) 2 2 0 l_1), (2, .ptr 0 1 0 0), (3, .int .i64 ((l_1 : Nat) : Int)), (4, .ptr 1 1 0 0), (5, .int .i64 ((j32 : Nat) : Int)), (6, .int .i64 ((i47 : Nat) : Int)), (7, .flt false s58), (8, .int .i64 ((m54 : Nat) : Int))], [(0, .vs [.int .i64 (0 : Int), .int .i64 (0 : Int), .nsl]), (1, .vs [.int .i64 ((l_1 : Nat) : Int), .int .i64 ((l_1 : Nat) : Int), .sl 2 1 1 0 a1 a1]), (2, .fl l48)], 3⟩
noncomputable def ref09_Factor_l130 : List Code := flat (inBlock ((((ref09_Factor_l128.drop 2).take 1)).headD .skip))
def ref09_Factor_n101 (v_0 : Lv) (l_1 : Nat) (l_2 : List (List Nat)) (l_3 : List Nat) (a1 : Nat) (j32 : Nat) (i47 : Nat) (l48 : List Nat) (s53 : Nat) (m54 : Nat) (_ : Unit) : ASt := ⟨slots 114 [(0, .imm v_0 (.cols l_1 [.cfl l_2, .cf l_3]) 2 2 0 l_1), (2, .ptr 0 1 0 0), (3, .int .i64 ((l_1 : Nat) : Int)), (4, .ptr 1 1 0 0), (5, .int .i64 ((j32 : Nat) : Int)), (6, .int .i64 ((i47 : Nat) : Int)), (7, .flt false s53), (8, .int .i64 ((m54 : Nat) : Int)), (9, .flt false 0), (10, .int .i64 (0 : Int))], [(0, .vs [.int .i64 (0 : Int), .int .i64 (0 : Int), .nsl]), (1, .vs [.int .i64 ((l_1 : Nat) : Int), .int .i64 ((l_1 : Nat) : Int), .sl 2 1 1 0 a1 a1]), (2, .fl l48)], 3⟩
def ref09_Factor_t131 : T ((Unit) ⊕ ((Nat) ⊕ ((Nat) ⊕ (((List Nat)) ⊕ (((List Nat)) ⊕ (((List Nat)) ⊕ (((List Nat)) ⊕ (ref09_Factor_X)))))))) :=
  .leaf (.inl ())
def ref09_Factor_n103 (v_0 : Lv) (l_1 : Nat) (l_2 : List (List Nat)) (l_3 : List Nat) (a1 : Nat) (j32 : Nat) (i47 : Nat) (l48 : List Nat) (s53 : Nat) (m54 : Nat) : Nat × Nat → ASt := fun (y55, r56) => ⟨slots 114 [(0, .imm v_0 (.cols l_1 [.cfl l_2, .cf l_3]) 2 2 0 l_1), (2, .ptr 0 1 0 0), (3, .int .i64 ((l_1 : Nat) : Int)), (4, .ptr 1 1 0 0), (5, .int .i64 ((j32 : Nat) : Int)), (6, .int .i64 ((i47 : Nat) : Int)), (7, .flt false s53), (8, .int .i64 ((m54 : Nat) : Int)), (9, .flt false y55), (10, .int .i64 ((r56 : Nat) : Int))], [(0, .vs [.int .i64 (0 : Int), .int .i64 (0 : Int), .nsl]), (1, .vs [.int .i64 ((l_1 : Nat) : Int), .int .i64 ((l_1 : Nat) : Int), .sl 2 1 1 0 a1 a1]), (2, .fl l48)], 3⟩
def ref09_Factor_n104 (v_0 : Lv) (l_1 : Nat) (l_2 : List (List Nat)) (l_3 : List Nat) (a1 : Nat) (j32 : Nat) (i47 : Nat) (l48 : List Nat) (s53 : Nat) (m54 : Nat) (y57 : Nat) : ASt := ⟨slots 114 [(0, .imm v_0 (.cols l_1 [.cfl l_2, .cf l_3]) 2 2 0 l_1), (2, .ptr 0 1 0 0), (3, .int .i64 ((l_1 : Nat) : Int)), (4, .ptr 1 1 0 0), (5, .int .i64 ((j32 : Nat) : Int)), (6, .int .i64 ((i47 : Nat) : Int)), (7, .flt false s53), (8, .int .i64 ((m54 : Nat) : Int)), (9, .flt false y57)], [(0, .vs [.int .i64 (0 : Int), .int .i64 (0 : Int), .nsl]), (1, .vs [.int .i64 ((l_1 : Nat) : Int), .int .i64 ((l_1 : Nat) : Int), .sl 2 1 1 0 a1 a1]), (2, .fl l48)], 3⟩
noncomputable def ref09_Factor_l132 : List Code := flat (inLoop ((((ref09_Factor_l130.drop 2).take 1)).headD .skip))
def ref09_Factor_t133 (l_1 : Nat) (l_2 : List (List Nat)) (j32 : Nat) (m54 : Nat) (y55 : Nat) (r56 : Nat) : T ((Nat × Nat) ⊕ ((Nat) ⊕ ((Nat) ⊕ ((Nat) ⊕ (((List Nat)) ⊕ (((List Nat)) ⊕ (((List Nat)) ⊕ (((List Nat)) ⊕ (ref09_Factor_X))))))))) :=
  .need (inB ((j32 : Nat) : Int) l_1) <| .need (ltB j32 (List.length l_2)) <| .ask (decide (((r56 : Nat) : Int) < (((List.length (List.getD l_2 j32 [])) : Nat) : Int)))
    (.need (inB ((m54 : Nat) : Int) l_1) <| .need (ltB m54 (List.length l_2)) <| .need (inB ((r56 : Nat) : Int) (List.length (List.getD l_2 m54 []))) <| .need (ltB r56 (List.length (List.getD l_2 m54 []))) <| .need (inB ((j32 : Nat) : Int) l_1) <| .need (ltB j32 (List.length l_2)) <| .need (inB ((r56 : Nat) : Int) (List.length (List.getD l_2 j32 []))) <| .need (ltB r56 (List.length (List.getD l_2 j32 []))) <| .need (inK .i64 (((r56 + 1) : Nat) : Int)) <| .leaf (.inl ((fadd y55 (fmul (List.getD (List.getD l_2 m54 []) r56 0) (List.getD (List.getD l_2 j32 []) r56 0))), (r56 + 1))))
    (.leaf (.inr (.inl y55)))
noncomputable def ref09_Factor_m134 (l_1 : Nat) (l_2 : List (List Nat)) (j32 : Nat) (m54 : Nat) : Nat × Nat → Option ((Nat × Nat) ⊕ ((Nat) ⊕ ((Nat) ⊕ ((Nat) ⊕ (((List Nat)) ⊕ (((List Nat)) ⊕ (((List Nat)) ⊕ (((List Nat)) ⊕ (ref09_Factor_X))))))))) := fun (y55, r56) =>
  (ref09_Factor_t133 l_1 l_2 j32 m54 y55 r56).run
theorem ref09_Factor_s134 (v_0 : Lv) (l_1 : Nat) (l_2 : List (List Nat)) (l_3 : List Nat) (a1 : Nat) (j32 : Nat) (i47 : Nat) (l48 : List Nat) (s53 : Nat) (m54 : Nat) (y55 : Nat) (r56 : Nat) : Sg prog [] ref09_Factor_l132 (ref09_Factor_n103 v_0 l_1 l_2 l_3 a1 j32 i47 l48 s53 m54 (y55, r56)) (ref09_Factor_m134 l_1 l_2 j32 m54 (y55, r56)) (ref09_Factor_n103 v_0 l_1 l_2 l_3 a1 j32 i47 l48 s53 m54) (exitE 6 (ref09_Factor_n104 v_0 l_1 l_2 l_3 a1 j32 i47 l48 s53 m54) (exitE 5 (ref09_Factor_n106 v_0 l_1 l_2 l_3 a1 j32 i47 l48 m54) (exitE 4 (ref09_Factor_n108 v_0 l_1 l_2 l_3 a1 j32 i47 l48) (exitE 3 (ref09_Factor_n110 v_0 l_1 l_2 l_3 a1 j32 i47) (exitE 2 (ref09_Factor_n112 v_0 l_1 l_2 l_3 a1 j32) (exitE 1 (ref09_Factor_n114 v_0 l_1 l_2 l_3 a1 j32) (exitE 0 (ref09_Factor_n116 l_1 a1) ref09_Factor_E))))))) :=
  Sg.seg (C := C0) C0_ok L_ref09_Alike_ok 60 ref09_Factor_l132 (ref09_Factor_n103 v_0 l_1 l_2 l_3 a1 j32 i47 l48 s53 m54 (y55, r56)) (ref09_Factor_t133 l_1 l_2 j32 m54 y55 r56) (ref09_Factor_n103 v_0 l_1 l_2 l_3 a1 j32 i47 l48 s53 m54) (exitE 6 (ref09_Factor_n104 v_0 l_1 l_2 l_3 a1 j32 i47 l48 s53 m54) (exitE 5 (ref09_Factor_n106 v_0 l_1 l_2 l_3 a1 j32 i47 l48 m54) (exitE 4 (ref09_Factor_n108 v_0 l_1 l_2 l_3 a1 j32 i47 l48) (exitE 3 (ref09_Factor_n110 v_0 l_1 l_2 l_3 a1 j32 i47) (exitE 2 (ref09_Factor_n112 v_0 l_1 l_2 l_3 a1 j32) (exitE 1 (ref09_Factor_n114 v_0 l_1 l_2 l_3 a1 j32) (exitE 0 (ref09_Factor_n116 l_1 a1) ref09_Factor_E))))))) [⟨[], [0, 1, 2], [0, 2, 3, 4, 5, 6, 7, 8, 9, 10]⟩, ⟨[], [0, 1, 2], [0, 2, 3, 4, 5, 6, 7, 8, 9]⟩] (by kernel_rfl)
def ref09_Factor_n105 (v_0 : Lv) (l_1 : Nat) (l_2 : List (List Nat)) (l_3 : List Nat) (a1 : Nat) (j32 : Nat) (i47 : Nat) (l48 : List Nat) (s53 : Nat) (m54 : Nat) : Nat → ASt := ref09_Factor_n104 v_0 l_1 l_2 l_3 a1 j32 i47 l48 s53 m54
def ref09_Factor_t135 (l_1 : Nat) (a1 : Nat) (i47 : Nat) (l48 : List Nat) (s53 : Nat) (m54 : Nat) (y57 : Nat) : T ((Nat) ⊕ ((Nat) ⊕ ((Nat) ⊕ (((List Nat)) ⊕ (((List Nat)) ⊕ (((List Nat)) ⊕ (((List Nat)) ⊕ (ref09_Factor_X)))))))) :=
  .need (inK .i64 (((i47 * l_1) : Nat) : Int)) <| .need (inK .i64 ((((i47 * l_1) + m54) : Nat) : Int)) <| .need (inB ((((i47 * l_1) + m54) : Nat) : Int) a1) <| .need (ltB ((i47 * l_1) + m54) (List.length l48)) <| .leaf (.inl (fadd s53 (fmul (List.getD l48 ((i47 * l_1) + m54) 0) y57)))
def ref09_Factor_n107 (v_0 : Lv) (l_1 : Nat) (l_2 : List (List Nat)) (l_3 : List Nat) (a1 : Nat) (j32 : Nat) (i47 : Nat) (l48 : List Nat) (m54 : Nat) : Nat → ASt := ref09_Factor_n106 v_0 l_1 l_2 l_3 a1 j32 i47 l48 m54
def ref09_Factor_t136 (m54 : Nat) (s58 : Nat) : T ((Nat × Nat) ⊕ ((Nat) ⊕ (((List Nat)) ⊕ (((List Nat)) ⊕ (((List Nat)) ⊕ (((List Nat)) ⊕ (ref09_Factor_X))))))) :=
  .need (inK .i64 (((m54 + 1) : Nat) : Int)) <| .leaf (.inl (s58, (m54 + 1)))
noncomputable def ref09_Factor_m137 (l_1 : Nat) (l_2 : List (List Nat)) (a1 : Nat) (j32 : Nat) (i47 : Nat) (l48 : List Nat) : Nat × Nat → Option ((Nat × Nat) ⊕ ((Nat) ⊕ (((List Nat)) ⊕ (((List Nat)) ⊕ (((List Nat)) ⊕ (((List Nat)) ⊕ (ref09_Factor_X))))))) := fun (s53, m54) =>
  seqM ((ref09_Factor_t129 j32 s53 m54).run) fun _ =>
  seqM (joinM (seqM ((ref09_Factor_t131).run) fun _ =>
  seqM (loopM (ref09_Factor_m134 l_1 l_2 j32 m54) (0, 0)) fun y57 =>
  (ref09_Factor_t135 l_1 a1 i47 l48 s53 m54 y57).run)) fun s58 =>
  (ref09_Factor_t136 m54 s58).run
theorem ref09_Factor_s137 (v_0 : Lv) (l_1 : Nat) (l_2 : List (List Nat)) (l_3 : List Nat) (a1 : Nat) (j32 : Nat) (i47 : Nat) (l48 : List Nat) (s53 : Nat) (m54 : Nat) : Sg prog [] ref09_Factor_l128 (ref09_Factor_n99 v_0 l_1 l_2 l_3 a1 j32 i47 l48 (s53, m54)) (ref09_Factor_m137 l_1 l_2 a1 j32 i47 l48 (s53, m54)) (ref09_Factor_n99 v_0 l_1 l_2 l_3 a1 j32 i47 l48) (exitE 4 (ref09_Factor_n108 v_0 l_1 l_2 l_3 a1 j32 i47 l48) (exitE 3 (ref09_Factor_n110 v_0 l_1 l_2 l_3 a1 j32 i47) (exitE 2 (ref09_Factor_n112 v_0 l_1 l_2 l_3 a1 j32) (exitE 1 (ref09_Factor_n114 v_0 l_1 l_2 l_3 a1 j32) (exitE 0 (ref09_Factor_n116 l_1 a1) ref09_Factor_E))))) :=
  Sg.cut 2 (noN_exit (noN_exit (noN_exit (noN_exit (noN_exit ref09_Factor_hN))))) (Sg.seg (C := C0) C0_ok L_ref09_Alike_ok 60 (ref09_Factor_l128.take 2) (ref09_Factor_n99 v_0 l_1 l_2 l_3 a1 j32 i47 l48 (s53, m54)) (ref09_Factor_t129 j32 s53 m54) (ref09_Factor_n100 v_0 l_1 l_2 l_3 a1 j32 i47 l48 s53 m54) (exitE 4 (ref09_Factor_n108 v_0 l_1 l_2 l_3 a1 j32 i47 l48) (exitE 3 (ref09_Factor_n110 v_0 l_1 l_2 l_3 a1 j32 i47) (exitE 2 (ref09_Factor_n112 v_0 l_1 l_2 l_3 a1 j32) (exitE 1 (ref09_Factor_n114 v_0 l_1 l_2 l_3 a1 j32) (exitE 0 (ref09_Factor_n116 l_1 a1) ref09_Factor_E))))) [⟨[], [0, 1, 2], [0, 2, 3, 4, 5, 6, 7, 8]⟩, ⟨[], [0, 1, 2], [0, 2, 3, 4, 5, 6, 7]⟩] (by kernel_rfl)) (fun a => by cases a; exact Sg.cut 1 (noN_exit (noN_exit (noN_exit (noN_exit (noN_exit ref09_Factor_hN))))) (Sg.blockAt (id := 5) (K := (ref09_Factor_n106 v_0 l_1 l_2 l_3 a1 j32 i47 l48 m54)) (by kernel_rfl : ((ref09_Factor_l128.drop 2).take 1) = [.block 5 (inBlock ((((ref09_Factor_l128.drop 2).take 1)).headD .skip))]) (noN_exit (noN_exit (noN_exit (noN_exit (noN_exit ref09_Factor_hN))))) (noId_exit (by decide) (noId_exit (by decide) (noId_exit (by decide) (noId_exit (by decide) (noId_exit (by decide) (ref09_Factor_hI _)))))) (Sg.cut 2 (noN_exit (noN_exit (noN_exit (noN_exit (noN_exit (noN_exit ref09_Factor_hN)))))) (Sg.seg (C := C0) C0_ok L_ref09_Alike_ok 60 (ref09_Factor_l130.take 2) (ref09_Factor_n100 v_0 l_1 l_2 l_3 a1 j32 i47 l48 s53 m54 ()) (ref09_Factor_t131) (ref09_Factor_n101 v_0 l_1 l_2 l_3 a1 j32 i47 l48 s53 m54) (exitE 5 (ref09_Factor_n106 v_0 l_1 l_2 l_3 a1 j32 i47 l48 m54) (exitE 4 (ref09_Factor_n108 v_0 l_1 l_2 l_3 a1 j32 i47 l48) (exitE 3 (ref09_Factor_n110 v_0 l_1 l_2 l_3 a1 j32 i47) (exitE 2 (ref09_Factor_n112 v_0 l_1 l_2 l_3 a1 j32) (exitE 1 (ref09_Factor_n114 v_0 l_1 l_2 l_3 a1 j32) (exitE 0 (ref09_Factor_n116 l_1 a1) ref09_Factor_E)))))) [⟨[], [0, 1, 2], [0, 2, 3, 4, 5, 6, 7, 8, 9, 10]⟩] (by kernel_rfl)) (fun a => by cases a; exact Sg.cut 1 (noN_exit (noN_exit (noN_exit (noN_exit (noN_exit (noN_exit ref09_Factor_hN)))))) (Sg.pre ⟨[], [0, 1, 2], [0, 2, 3, 4, 5, 6, 7, 8, 9, 10]⟩ rfl (by kernel_rfl : NS.on ⟨[], [0, 1, 2], [0, 2, 3, 4, 5, 6, 7, 8, 9, 10]⟩ (ref09_Factor_n101 v_0 l_1 l_2 l_3 a1 j32 i47 l48 s53 m54 ()) = (ref09_Factor_n103 v_0 l_1 l_2 l_3 a1 j32 i47 l48 s53 m54) (0, 0)) (Sg.loopAt (I := (ref09_Factor_n103 v_0 l_1 l_2 l_3 a1 j32 i47 l48 s53 m54)) (J := (ref09_Factor_n104 v_0 l_1 l_2 l_3 a1 j32 i47 l48 s53 m54)) (id := 6) (by kernel_rfl : ((ref09_Factor_l130.drop 2).take 1) = [.block 6 (.loop (inLoop ((((ref09_Factor_l130.drop 2).take 1)).headD .skip)))]) (noN_exit (noN_exit (noN_exit (noN_exit (noN_exit (noN_exit ref09_Factor_hN)))))) (noId_exit (by decide) (noId_exit (by decide) (noId_exit (by decide) (noId_exit (by decide) (noId_exit (by decide) (noId_exit (by decide) (ref09_Factor_hI _))))))) (fun s => by obtain ⟨y55, r56⟩ := s; exact ref09_Factor_s134 v_0 l_1 l_2 l_3 a1 j32 i47 l48 s53 m54 y55 r56) (0, 0))) (fun y57 => by exact Sg.seg (C := C0) C0_ok L_ref09_Alike_ok 60 ((ref09_Factor_l130.drop 2).drop 1) (ref09_Factor_n105 v_0 l_1 l_2 l_3 a1 j32 i47 l48 s53 m54 y57) (ref09_Factor_t135 l_1 a1 i47 l48 s53 m54 y57) (ref09_Factor_n106 v_0 l_1 l_2 l_3 a1 j32 i47 l48 m54) (exitE 5 (ref09_Factor_n106 v_0 l_1 l_2 l_3 a1 j32 i47 l48 m54) (exitE 4 (ref09_Factor_n108 v_0 l_1 l_2 l_3 a1 j32 i47 l48) (exitE 3 (ref09_Factor_n110 v_0 l_1 l_2 l_3 a1 j32 i47) (exitE 2 (ref09_Factor_n112 v_0 l_1 l_2 l_3 a1 j32) (exitE 1 (ref09_Factor_n114 v_0 l_1 l_2 l_3 a1 j32) (exitE 0 (ref09_Factor_n116 l_1 a1) ref09_Factor_E)))))) [⟨[], [0, 1, 2], [0, 2, 3, 4, 5, 6, 7, 8]⟩] (by kernel_rfl))))) (fun s58 => by exact Sg.seg (C := C0) C0_ok L_ref09_Alike_ok 60 ((ref09_Factor_l128.drop 2).drop 1) (ref09_Factor_n107 v_0 l_1 l_2 l_3 a1 j32 i47 l48 m54 s58) (ref09_Factor_t136 m54 s58) (ref09_Factor_n99 v_0 l_1 l_2 l_3 a1 j32 i47 l48) (exitE 4 (ref09_Factor_n108 v_0 l_1 l_2 l_3 a1 j32 i47 l48) (exitE 3 (ref09_Factor_n110 v_0 l_1 l_2 l_3 a1 j32 i47) (exitE 2 (ref09_Factor_n112 v_0 l_1 l_2 l_3 a1 j32) (exitE 1 (ref09_Factor_n114 v_0 l_1 l_2 l_3 a1 j32) (exitE 0 (ref09_Factor_n116 l_1 a1) ref09_Factor_E))))) [⟨[], [0, 1, 2], [0, 2, 3, 4, 5, 6, 7, 8]⟩] (by kernel_rfl)))
def ref09_Factor_n109 (v_0 : Lv) (l_1 : Nat) (l_2 : List (List Nat)) (l_3 : List Nat) (a1 : Nat) (j32 : Nat) (i47 : Nat) (l48 : List Nat) : Nat → ASt := ref09_Factor_n108 v_0 l_1 l_2 l_3 a1 j32 i47 l48
def ref09_Factor_t138 (l_1 : Nat) (l_3 : List Nat) (a1 : Nat) (j32 : Nat) (i47 : Nat) (l48 : List Nat) (s59 : Nat) : T (((List Nat)) ⊕ (((List Nat)) ⊕ (((List Nat)) ⊕ (((List Nat)) ⊕ (((List Nat)) ⊕ (ref09_Factor_X)))))) :=
  .need (inB ((j32 : Nat) : Int) l_1) <| .need (ltB j32 (List.length l_3)) <| .need (inK .i64 (((i47 * l_1) : Nat) : Int)) <| .need (inK .i64 ((((i47 * l_1) + j32) : Nat) : Int)) <| .need (inB ((((i47 * l_1) + j32) : Nat) : Int) a1) <| .need (ltB ((i47 * l_1) + j32) (List.length l48)) <| .leaf (.inl (List.set l48 ((i47 * l_1) + j32) (fneg (fmul (List.getD l_3 j32 0) s59))))
def ref09_Factor_n111 (v_0 : Lv) (l_1 : Nat) (l_2 : List (List Nat)) (l_3 : List Nat) (a1 : Nat) (j32 : Nat) (i47 : Nat) : (List Nat) → ASt := ref09_Factor_n110 v_0 l_1 l_2 l_3 a1 j32 i47
def ref09_Factor_t139 (i47 : Nat) (l60 : List Nat) : T ((Nat × (List Nat)) ⊕ (((List Nat)) ⊕ (((List Nat)) ⊕ (((List Nat)) ⊕ (ref09_Factor_X))))) :=
  .need (inK .i64 (((i47 + 1) : Nat) : Int)) <| .leaf (.inl ((i47 + 1), l60))
noncomputable def ref09_Factor_m140 (l_1 : Nat) (l_2 : List (List Nat)) (l_3 : List Nat) (a1 : Nat) (j32 : Nat) : Nat × (List Nat) → Option ((Nat × (List Nat)) ⊕ (((List Nat)) ⊕ (((List Nat)) ⊕ (((List Nat)) ⊕ (ref09_Factor_X))))) := fun (i47, l48) =>
  seqM ((ref09_Factor_t125 j32 i47 l48).run) fun _ =>
  seqM (joinM (seqM ((ref09_Factor_t127).run) fun _ =>
  seqM (loopM (ref09_Factor_m137 l_1 l_2 a1 j32 i47 l48) (0, i47)) fun s59 =>
  (ref09_Factor_t138 l_1 l_3 a1 j32 i47 l48 s59).run)) fun l60 =>
  (ref09_Factor_t139 i47 l60).run
theorem ref09_Factor_s140 (v_0 : Lv) (l_1 : Nat) (l_2 : List (List Nat)) (l_3 : List Nat) (a1 : Nat) (j32 : Nat) (i47 : Nat) (l48 : List Nat) : Sg prog [] ref09_Factor_l124 (ref09_Factor_n87 v_0 l_1 l_2 l_3 a1 j32 (i47, l48)) (ref09_Factor_m140 l_1 l_2 l_3 a1 j32 (i47, l48)) (ref09_Factor_n87 v_0 l_1 l_2 l_3 a1 j32) (exitE 2 (ref09_Factor_n112 v_0 l_1 l_2 l_3 a1 j32) (exitE 1 (ref09_Factor_n114 v_0 l_1 l_2 l_3 a1 j32) (exitE 0 (ref09_Factor_n116 l_1 a1) ref09_Factor_E))) :=
  Sg.cut 2 (noN_exit (noN_exit (noN_exit ref09_Factor_hN))) (Sg.seg (C := C0) C0_ok L_ref09_Alike_ok 60 (ref09_Factor_l124.take 2) (ref09_Factor_n87 v_0 l_1 l_2 l_3 a1 j32 (i47, l48)) (ref09_Factor_t125 j32 i47 l48) (ref09_Factor_n88 v_0 l_1 l_2 l_3 a1 j32 i47 l48) (exitE 2 (ref09_Factor_n112 v_0 l_1 l_2 l_3 a1 j32) (exitE 1 (ref09_Factor_n114 v_0 l_1 l_2 l_3 a1 j32) (exitE 0 (ref09_Factor_n116 l_1 a1) ref09_Factor_E))) [⟨[], [0, 1, 2], [0, 2, 3, 4, 5, 6]⟩, ⟨[], [0, 1, 2], [0, 2, 3, 4, 5]⟩] (by kernel_rfl)) (fun a => by cases a; exact Sg.cut 1 (noN_exit (noN_exit (noN_exit ref09_Factor_hN))) (Sg.blockAt (id := 3) (K := (ref09_Factor_n110 v_0 l_1 l_2 l_3 a1 j32 i47)) (by kernel_rfl : ((ref09_Factor_l124.drop 2).take 1) = [.block 3 (inBlock ((((ref09_Factor_l124.drop 2).take 1)).headD .skip))]) (noN_exit (noN_exit (noN_exit ref09_Factor_hN))) (noId_exit (by decide) (noId_exit (by decide) (noId_exit (by decide) (ref09_Factor_hI _)))) (Sg.cut 2 (noN_exit (noN_exit (noN_exit (noN_exit ref09_Factor_hN)))) (Sg.seg (C := C0) C0_ok L_ref09_Alike_ok 60 (ref09_Factor_l126.take 2) (ref09_Factor_n88 v_0 l_1 l_2 l_3 a1 j32 i47 l48 ()) (ref09_Factor_t127) (ref09_Factor_n89 v_0 l_1 l_2 l_3 a1 j32 i47 l48) (exitE 3 (ref09_Factor_n110 v_0 l_1 l_2 l_3 a1 j32 i47) (exitE 2 (ref09_Factor_n112 v_0 l_1 l_2 l_3 a1 j32) (exitE 1 (ref09_Factor_n114 v_0 l_1 l_2 l_3 a1 j32) (exitE 0 (ref09_Factor_n116 l_1 a1) ref09_Factor_E)))) [⟨[], [0, 1, 2], [0, 2, 3, 4, 5, 6, 7, 8]⟩] (by kernel_rfl)) (fun a => by cases a; exact Sg.cut 1 (noN_exit (noN_exit (noN_exit (noN_exit ref09_Factor_hN)))) (Sg.pre ⟨[], [0, 1, 2], [0, 2, 3, 4, 5, 6, 7, 8]⟩ rfl (by kernel_rfl : NS.on ⟨[], [0, 1, 2], [0, 2, 3, 4, 5, 6, 7, 8]⟩ (ref09_Factor_n89 v_0 l_1 l_2 l_3 a1 j32 i47 l48 ()) = (ref09_Factor_n99 v_0 l_1 l_2 l_3 a1 j32 i47 l48) (0, i47)) (Sg.loopAt (I := (ref09_Factor_n99 v_0 l_1 l_2 l_3 a1 j32 i47 l48)) (J := (ref09_Factor_n108 v_0 l_1 l_2 l_3 a1 j32 i47 l48)) (id := 4) (by kernel_rfl : ((ref09_Factor_l126.drop 2).take 1) = [.block 4 (.loop (inLoop ((((ref09_Factor_l126.drop 2).take 1)).headD .skip)))]) (noN_exit (noN_exit (noN_exit (noN_exit ref09_Factor_hN)))) (noId_exit (by decide) (noId_exit (by decide) (noId_exit (by decide) (noId_exit (by decide) (ref09_Factor_hI _))))) (fun s => by obtain ⟨s53, m54⟩ := s; exact ref09_Factor_s137 v_0 l_1 l_2 l_3 a1 j32 i47 l48 s53 m54) (0, i47))) (fun s59 => by exact Sg.seg (C := C0) C0_ok L_ref09_Alike_ok 60 ((ref09_Factor_l126.drop 2).drop 1) (ref09_Factor_n109 v_0 l_1 l_2 l_3 a1 j32 i47 l48 s59) (ref09_Factor_t138 l_1 l_3 a1 j32 i47 l48 s59) (ref09_Factor_n110 v_0 l_1 l_2 l_3 a1 j32 i47) (exitE 3 (ref09_Factor_n110 v_0 l_1 l_2 l_3 a1 j32 i47) (exitE 2 (ref09_Factor_n112 v_0 l_1 l_2 l_3 a1 j32) (exitE 1 (ref09_Factor_n114 v_0 l_1 l_2 l_3 a1 j32) (exitE 0 (ref09_Factor_n116 l_1 a1) ref09_Factor_E)))) [⟨[], [0, 1, 2], [0, 2, 3, 4, 5, 6]⟩] (by kernel_rfl))))) (fun l60 => by exact Sg.seg (C := C0) C0_ok L_ref09_Alike_ok 60 ((ref09_Factor_l124.drop 2).drop 1) (ref09_Factor_n111 v_0 l_1 l_2 l_3 a1 j32 i47 l60) (ref09_Factor_t139 i47 l60) (ref09_Factor_n87 v_0 l_1 l_2 l_3 a1 j32) (exitE 2 (ref09_Factor_n112 v_0 l_1 l_2 l_3 a1 j32) (exitE 1 (ref09_Factor_n114 v_0 l_1 l_2 l_3 a1 j32) (exitE 0 (ref09_Factor_n116 l_1 a1) ref09_Factor_E))) [⟨[], [0, 1, 2], [0, 2, 3, 4, 5, 6]⟩] (by kernel_rfl)))
def ref09_Factor_n113 (v_0 : Lv) (l_1 : Nat) (l_2 : List (List Nat)) (l_3 : List Nat) (a1 : Nat) (j32 : Nat) : (List Nat) → ASt := ref09_Factor_n112 v_0 l_1 l_2 l_3 a1 j32
def ref09_Factor_t141 (l61 : List Nat) : T (((List Nat)) ⊕ (((List Nat)) ⊕ (((List Nat)) ⊕ (ref09_Factor_X)))) :=
  .leaf (.inl l61)
def ref09_Factor_n115 (v_0 : Lv) (l_1 : Nat) (l_2 : List (List Nat)) (l_3 : List Nat) (a1 : Nat) (j32 : Nat) : (List Nat) → ASt := ref09_Factor_n114 v_0 l_1 l_2 l_3 a1 j32
def ref09_Factor_t142 (j32 : Nat) (l62 : List Nat) : T ((Nat × (List Nat)) ⊕ (((List Nat)) ⊕ (ref09_Factor_X))) :=
  .need (inK .i64 (((j32 + 1) : Nat) : Int)) <| .leaf (.inl ((j32 + 1), l62))
noncomputable def ref09_Factor_m143 (l_1 : Nat) (l_2 : List (List Nat)) (l_3 : List Nat) (a1 : Nat) : Nat × (List Nat) → Option ((Nat × (List Nat)) ⊕ (((List Nat)) ⊕ (ref09_Factor_X))) := fun (j32, l33) =>
  seqM ((ref09_Factor_t121 l_1 j32 l33).run) fun _ =>
  seqM (joinM (seqM ((ref09_Factor_t123 l_1 l_3 a1 j32 l33).run) fun l34 =>
  seqM (loopM (ref09_Factor_m140 l_1 l_2 l_3 a1 j32) (0, l34)) fun l61 =>
  (ref09_Factor_t141 l61).run)) fun l62 =>
  (ref09_Factor_t142 j32 l62).run
theorem ref09_Factor_s143 (v_0 : Lv) (l_1 : Nat) (l_2 : List (List Nat)) (l_3 : List Nat) (a1 : Nat) (j32 : Nat) (l33 : List Nat) : Sg prog [] ref09_Factor_l120 (ref09_Factor_n59 v_0 l_1 l_2 l_3 a1 (j32, l33)) (ref09_Factor_m143 l_1 l_2 l_3 a1 (j32, l33)) (ref09_Factor_n59 v_0 l_1 l_2 l_3 a1) (exitE 0 (ref09_Factor_n116 l_1 a1) ref09_Factor_E) :=
  Sg.cut 2 (noN_exit ref09_Factor_hN) (Sg.seg (C := C0) C0_ok L_ref09_Alike_ok 60 (ref09_Factor_l120.take 2) (ref09_Factor_n59 v_0 l_1 l_2 l_3 a1 (j32, l33)) (ref09_Factor_t121 l_1 j32 l33) (ref09_Factor_n60 v_0 l_1 l_2 l_3 a1 j32 l33) (exitE 0 (ref09_Factor_n116 l_1 a1) ref09_Factor_E) [⟨[], [0, 1, 2], [0, 2, 3, 4, 5]⟩, ⟨[], [0, 1, 2], [2, 4]⟩] (by kernel_rfl)) (fun a => by cases a; exact Sg.cut 1 (noN_exit ref09_Factor_hN) (Sg.blockAt (id := 1) (K := (ref09_Factor_n114 v_0 l_1 l_2 l_3 a1 j32)) (by kernel_rfl : ((ref09_Factor_l120.drop 2).take 1) = [.block 1 (inBlock ((((ref09_Factor_l120.drop 2).take 1)).headD .skip))]) (noN_exit ref09_Factor_hN) (noId_exit (by decide) (ref09_Factor_hI _)) (Sg.cut 2 (noN_exit (noN_exit ref09_Factor_hN)) (Sg.seg (C := C0) C0_ok L_ref09_Alike_ok 60 (ref09_Factor_l122.take 2) (ref09_Factor_n60 v_0 l_1 l_2 l_3 a1 j32 l33 ()) (ref09_Factor_t123 l_1 l_3 a1 j32 l33) (ref09_Factor_n61 v_0 l_1 l_2 l_3 a1 j32) (exitE 1 (ref09_Factor_n114 v_0 l_1 l_2 l_3 a1 j32) (exitE 0 (ref09_Factor_n116 l_1 a1) ref09_Factor_E)) [⟨[], [0, 1, 2], [0, 2, 3, 4, 5, 6]⟩] (by kernel_rfl)) (fun l34 => by exact Sg.cut 1 (noN_exit (noN_exit ref09_Factor_hN)) (Sg.pre ⟨[], [0, 1, 2], [0, 2, 3, 4, 5, 6]⟩ rfl (by kernel_rfl : NS.on ⟨[], [0, 1, 2], [0, 2, 3, 4, 5, 6]⟩ (ref09_Factor_n61 v_0 l_1 l_2 l_3 a1 j32 l34) = (ref09_Factor_n87 v_0 l_1 l_2 l_3 a1 j32) (0, l34)) (Sg.loopAt (I := (ref09_Factor_n87 v_0 l_1 l_2 l_3 a1 j32)) (J := (ref09_Factor_n112 v_0 l_1 l_2 l_3 a1 j32)) (id := 2) (by kernel_rfl : ((ref09_Factor_l122.drop 2).take 1) = [.block 2 (.loop (inLoop ((((ref09_Factor_l122.drop 2).take 1)).headD .skip)))]) (noN_exit (noN_exit ref09_Factor_hN)) (noId_exit (by decide) (noId_exit (by decide) (ref09_Factor_hI _))) (fun s => by obtain ⟨i47, l48⟩ := s; exact ref09_Factor_s140 v_0 l_1 l_2 l_3 a1 j32 i47 l48) (0, l34))) (fun l61 => by exact Sg.seg (C := C0) C0_ok L_ref09_Alike_ok 60 ((ref09_Factor_l122.drop 2).drop 1) (ref09_Factor_n113 v_0 l_1 l_2 l_3 a1 j32 l61) (ref09_Factor_t141 l61) (ref09_Factor_n114 v_0 l_1 l_2 l_3 a1 j32) (exitE 1 (ref09_Factor_n114 v_0 l_1 l_2 l_3 a1 j32) (exitE 0 (ref09_Factor_n116 l_1 a1) ref09_Factor_E)) [⟨[], [0, 1, 2], [0, 2, 3, 4, 5]⟩] (by kernel_rfl))))) (fun l62 => by exact Sg.seg (C := C0) C0_ok L_ref09_Alike_ok 60 ((ref09_Factor_l120.drop 2).drop 1) (ref09_Factor_n115 v_0 l_1 l_2 l_3 a1 j32 l62) (ref09_Factor_t142 j32 l62) (ref09_Factor_n59 v_0 l_1 l_2 l_3 a1) (exitE 0 (ref09_Factor_n116 l_1 a1) ref09_Factor_E) [⟨[], [0, 1, 2], [0, 2, 3, 4, 5]⟩] (by kernel_rfl)))
def ref09_Factor_n117 (l_1 : Nat) (a1 : Nat) : (List Nat) → ASt := ref09_Factor_n116 l_1 a1
def ref09_Factor_t144 (l_1 : Nat) (a1 : Nat) (l63 : List Nat) : T ((Empty) ⊕ (ref09_Factor_X)) :=
  .leaf (.inr (.r0 l_1 a1 l63))
noncomputable def ref09_Factor_F (l_1 : Nat) (l_2 : List (List Nat)) (l_3 : List Nat) : Option ref09_Factor_X := toX (seqM ((ref09_Factor_t119 l_1).run) fun (a1, l2) =>
  seqM (loopM (ref09_Factor_m143 l_1 l_2 l_3 a1) (0, l2)) fun l63 =>
  (ref09_Factor_t144 l_1 a1 l63).run)
theorem ref09_Factor_ok (v_0 : Lv) (l_1 : Nat) (l_2 : List (List Nat)) (l_3 : List Nat) {x : ref09_Factor_X} (h : ref09_Factor_F l_1 l_2 l_3 = some x) : Contract prog n_ref09_Factor [] [.imm v_0 (.cols l_1 [.cfl l_2, .cf l_3]) 2 2 0 l_1] (ref09_Factor_o x) :=
  Sg.contract false ref09_Factor_o (by kernel_rfl : prog.funcs[n_ref09_Factor]? = some (FN n_ref09_Factor)) (by kernel_rfl : (FN n_ref09_Factor).body = some (BODY n_ref09_Factor)) (Sg.cut 4 ref09_Factor_hN (Sg.seg (C := C0) C0_ok L_ref09_Alike_ok 60 (ref09_Factor_l118.take 4) (entryOf (FN n_ref09_Factor) [] [.imm v_0 (.cols l_1 [.cfl l_2, .cf l_3]) 2 2 0 l_1]) (ref09_Factor_t119 l_1) (ref09_Factor_n1 v_0 l_1 l_2 l_3) ref09_Factor_E [⟨[], [0, 176, 144], [0, 2, 3, 4, 5]⟩] (by kernel_rfl)) (fun a => by obtain ⟨a1, l2⟩ := a; exact Sg.cut 1 ref09_Factor_hN (Sg.pre ⟨[], [0, 1, 2], [0, 2, 3, 4, 5]⟩ rfl (by kernel_rfl : NS.on ⟨[], [0, 1, 2], [0, 2, 3, 4, 5]⟩ (ref09_Factor_n1 v_0 l_1 l_2 l_3 (a1, l2)) = (ref09_Factor_n59 v_0 l_1 l_2 l_3 a1) (0, l2)) (Sg.loopAt (I := (ref09_Factor_n59 v_0 l_1 l_2 l_3 a1)) (J := (ref09_Factor_n116 l_1 a1)) (id := 0) (by kernel_rfl : ((ref09_Factor_l118.drop 4).take 1) = [.block 0 (.loop (inLoop ((((ref09_Factor_l118.drop 4).take 1)).headD .skip)))]) ref09_Factor_hN (ref09_Factor_hI _) (fun s => by obtain ⟨j32, l33⟩ := s; exact ref09_Factor_s143 v_0 l_1 l_2 l_3 a1 j32 l33) (0, l2))) (fun l63 => by exact Sg.seg (C := C0) C0_ok L_ref09_Alike_ok 60 ((ref09_Factor_l118.drop 4).drop 1) (ref09_Factor_n117 l_1 a1 l63) (ref09_Factor_t144 l_1 a1 l63) (fun a : Empty => a.elim) ref09_Factor_E [⟨[], [0, 2], [2]⟩] (by kernel_rfl))))
    (fun x => by cases x with | r0 a64 a65 l66 => exact ⟨.inr rfl, [.agg [.int .i64 ((a64 : Nat) : Int), .int .i64 ((a64 : Nat) : Int), .sl 1 1 1 0 a65 a65]], [], by kernel_rfl, trivial, by kernel_rfl⟩) h

def ref09_Factor_i0 : Option ref09_Factor_X → Bool
  | some _ => true
  | none => false
def ref09_Factor_p0_0 : Option ref09_Factor_X → Nat
  | some (.r0 x _ _) => x
  | _ => 0
def ref09_Factor_p0_1 : Option ref09_Factor_X → Nat
  | some (.r0 _ x _) => x
  | _ => 0
def ref09_Factor_p0_2 : Option ref09_Factor_X → List Nat
  | some (.r0 _ _ x) => x
  | _ => []
theorem ref09_Factor_e0 {x : Option ref09_Factor_X} (h : ref09_Factor_i0 x = true) : x = some (.r0 (ref09_Factor_p0_0 x) (ref09_Factor_p0_1 x) (ref09_Factor_p0_2 x)) := by
  unfold ref09_Factor_i0 at h
  split at h <;> first | rfl | (cases h; done) | (rename_i y; cases y; rfl)
noncomputable def e_ref09_Factor : Entry := autoE n_ref09_Factor (.cons (.cols [.cfl, .cf]) .nil) fun t => [⟨ref09_Factor_o (.r0 (ref09_Factor_p0_0 (ref09_Factor_F t.1.2.1 t.1.2.2.1 t.1.2.2.2.1)) (ref09_Factor_p0_1 (ref09_Factor_F t.1.2.1 t.1.2.2.1 t.1.2.2.2.1)) (ref09_Factor_p0_2 (ref09_Factor_F t.1.2.1 t.1.2.2.1 t.1.2.2.2.1))), [ref09_Factor_i0 (ref09_Factor_F t.1.2.1 t.1.2.2.1 t.1.2.2.2.1)]⟩]
theorem e_ref09_Factor_ok : EntryOk prog e_ref09_Factor := autoE_ok fun t => (altsCons (fun h => ref09_Factor_ok t.1.1 t.1.2.1 t.1.2.2.1 t.1.2.2.2.1 (ref09_Factor_e0 h)) altsNil)
noncomputable def L_ref09_Factor : List Entry := e_ref09_Factor :: L_ref09_Alike
theorem L_ref09_Factor_ok : SumsOk prog (sumsOf L_ref09_Factor) := sumsOf_cons e_ref09_Factor_ok L_ref09_Alike_ok

inductive law09_ReflectFactors_X where
  | r0 (b8 : Bool)
def law09_ReflectFactors_E : law09_ReflectFactors_X → AE × ASt
  | .r0 b8 => (.ret, ⟨slots 43 [(2, .bool false b8)], [], 0⟩)
theorem law09_ReflectFactors_hN : NoN law09_ReflectFactors_E := by intro x; cases x <;> (intro h; cases h)
theorem law09_ReflectFactors_hI (id : Nat) : NoId id law09_ReflectFactors_E := by intro x; cases x <;> (intro h; cases h)
def law09_ReflectFactors_o : law09_ReflectFactors_X → Out
  | .r0 b8 => ⟨.bool false b8, []⟩
noncomputable def law09_ReflectFactors_l6 : List Code := flat (BODY n_law09_ReflectFactors)
def law09_ReflectFactors_n1 (v_0 : Lv) (l_1 : Nat) (l_2 : List (List Nat)) (l_3 : List Nat) (b1 : Bool) : ASt := ⟨slots 43 [(0, .imm v_0 (.cols l_1 [.cfl l_2, .cf l_3]) 2 2 0 l_1), (12, .bool false b1)], [], 0⟩
def law09_ReflectFactors_t7 (l_1 : Nat) (l_2 : List (List Nat)) : T ((Bool) ⊕ (law09_ReflectFactors_X)) :=
  .ask (decide (((l_1 : Nat) : Int) > (20 : Int)))
    (.leaf (.inl true))
    (.need (Nat.ble (0 + l_1) l_1) <| .need (law09_total_i0 (law09_total_F l_1 (cutL 0 l_1 l_2))) <| .leaf (.inl (decide ((law09_total_p0_0 (law09_total_F l_1 (cutL 0 l_1 l_2))) > (400 : Int)))))
def law09_ReflectFactors_n2 (v_0 : Lv) (l_1 : Nat) (l_2 : List (List Nat)) (l_3 : List Nat) : Nat × Nat × Nat × (List Nat) → ASt := fun (e2, a3, a4, l5) => ⟨slots 43 [(0, .imm v_0 (.cols l_1 [.cfl l_2, .cf l_3]) 2 2 0 l_1), (3, .ptr 0 1 0 0), (4, .int .i64 ((e2 : Nat) : Int))], [(0, .vs [.int .i64 ((a3 : Nat) : Int), .int .i64 ((a3 : Nat) : Int), .sl 1 1 1 0 a4 a4]), (1, .fl l5)], 2⟩
def law09_ReflectFactors_t8 (l_1 : Nat) (l_2 : List (List Nat)) (l_3 : List Nat) (b1 : Bool) : T ((Nat × Nat × Nat × (List Nat)) ⊕ (law09_ReflectFactors_X)) :=
  .ask b1
    (.leaf (.inr (.r0 true)))
    (.alt 0
      (.need (Nat.ble (0 + l_1) l_1) <| .need (reflect_Factor_i0 (reflect_Factor_F l_1 (cutL 0 l_1 l_2) (cutL 0 l_1 l_3))) <| .leaf (.inl (2, 0, 0, ([] : List Nat))))
      (.alt 1
        (.need (Nat.ble (0 + l_1) l_1) <| .need (reflect_Factor_i1 (reflect_Factor_F l_1 (cutL 0 l_1 l_2) (cutL 0 l_1 l_3))) <| .leaf (.inl (0, (reflect_Factor_p1_0 (reflect_Factor_F l_1 (cutL 0 l_1 l_2) (cutL 0 l_1 l_3))), (reflect_Factor_p1_1 (reflect_Factor_F l_1 (cutL 0 l_1 l_2) (cutL 0 l_1 l_3))), (reflect_Factor_p1_2 (reflect_Factor_F l_1 (cutL 0 l_1 l_2) (cutL 0 l_1 l_3))))))
        (.fail)))
def law09_ReflectFactors_n3 (v_0 : Lv) (l_1 : Nat) (l_2 : List (List Nat)) (l_3 : List Nat) (e2 : Nat) (a3 : Nat) (a4 : Nat) (l5 : List Nat) (b6 : Bool) : ASt := ⟨slots 43 [(0, .imm v_0 (.cols l_1 [.cfl l_2, .cf l_3]) 2 2 0 l_1), (3, .ptr 0 1 0 0), (4, .int .i64 ((e2 : Nat) : Int)), (21, .bool false b6)], [(0, .vs [.int .i64 ((a3 : Nat) : Int), .int .i64 ((a3 : Nat) : Int), .sl 1 1 1 0 a4 a4]), (1, .fl l5)], 2⟩
def law09_ReflectFactors_t9 (l_1 : Nat) (l_2 : List (List Nat)) : T ((Bool) ⊕ (law09_ReflectFactors_X)) :=
  .need (Nat.ble (0 + l_1) l_1) <| .need (ref09_Alike_i0 (ref09_Alike_F l_1 (cutL 0 l_1 l_2))) <| .leaf (.inl (!(ref09_Alike_p0_0 (ref09_Alike_F l_1 (cutL 0 l_1 l_2)))))
def law09_ReflectFactors_n4 (v_0 : Lv) (l_1 : Nat) (l_2 : List (List Nat)) (l_3 : List Nat) (e2 : Nat) (a3 : Nat) (a4 : Nat) (l5 : List Nat) (_ : Unit) : ASt := ⟨slots 43 [(0, .imm v_0 (.cols l_1 [.cfl l_2, .cf l_3]) 2 2 0 l_1), (3, .ptr 0 1 0 0), (4, .int .i64 ((e2 : Nat) : Int))], [(0, .vs [.int .i64 ((a3 : Nat) : Int), .int .i64 ((a3 : Nat) : Int), .sl 1 1 1 0 a4 a4]), (1, .fl l5)], 2⟩
def law09_ReflectFactors_t10 (e2 : Nat) (a3 : Nat) (a4 : Nat) (l5 : List Nat) (b6 : Bool) : T ((Unit) ⊕ (law09_ReflectFactors_X)) :=
  .ask b6
    (.ask (((e2 : Nat) : Int) == (2 : Int))
      (.need (slOk 0 a4 l5) <| .need (ref09_Same_i0 (ref09_Same_F ((a3 : Nat) : Int) ((a3 : Nat) : Int) (cutL 0 a4 l5) (0 : Int) (0 : Int) ([] : List Nat))) <| .ask (ref09_Same_p0_0 (ref09_Same_F ((a3 : Nat) : Int) ((a3 : Nat) : Int) (cutL 0 a4 l5) (0 : Int) (0 : Int) ([] : List Nat)))
        (.leaf (.inr (.r0 true)))
        (.leaf (.inr (.r0 false))))
      (.leaf (.inr (.r0 false))))
    (.leaf (.inl ()))
def law09_ReflectFactors_n5 (b7 : Bool) : ASt := ⟨slots 43 [(2, .bool false b7)], [], 0⟩
def law09_ReflectFactors_t11 (l_1 : Nat) (l_2 : List (List Nat)) (l_3 : List Nat) (e2 : Nat) (a3 : Nat) (a4 : Nat) (l5 : List Nat) : T ((Bool) ⊕ (law09_ReflectFactors_X)) :=
  .ask (((e2 : Nat) : Int) == (0 : Int))
    (.need (Nat.ble (0 + l_1) l_1) <| .need (ref09_Factor_i0 (ref09_Factor_F l_1 (cutL 0 l_1 l_2) (cutL 0 l_1 l_3))) <| .need (slOk 0 a4 l5) <| .need (slOk 0 (ref09_Factor_p0_1 (ref09_Factor_F l_1 (cutL 0 l_1 l_2) (cutL 0 l_1 l_3))) (ref09_Factor_p0_2 (ref09_Factor_F l_1 (cutL 0 l_1 l_2) (cutL 0 l_1 l_3)))) <| .need (ref09_Same_i0 (ref09_Same_F ((a3 : Nat) : Int) ((a3 : Nat) : Int) (cutL 0 a4 l5) (((ref09_Factor_p0_0 (ref09_Factor_F l_1 (cutL 0 l_1 l_2) (cutL 0 l_1 l_3))) : Nat) : Int) (((ref09_Factor_p0_0 (ref09_Factor_F l_1 (cutL 0 l_1 l_2) (cutL 0 l_1 l_3))) : Nat) : Int) (cutL 0 (ref09_Factor_p0_1 (ref09_Factor_F l_1 (cutL 0 l_1 l_2) (cutL 0 l_1 l_3))) (ref09_Factor_p0_2 (ref09_Factor_F l_1 (cutL 0 l_1 l_2) (cutL 0 l_1 l_3)))))) <| .ask (ref09_Same_p0_0 (ref09_Same_F ((a3 : Nat) : Int) ((a3 : Nat) : Int) (cutL 0 a4 l5) (((ref09_Factor_p0_0 (ref09_Factor_F l_1 (cutL 0 l_1 l_2) (cutL 0 l_1 l_3))) : Nat) : Int) (((ref09_Factor_p0_0 (ref09_Factor_F l_1 (cutL 0 l_1 l_2) (cutL 0 l_1 l_3))) : Nat) : Int) (cutL 0 (ref09_Factor_p0_1 (ref09_Factor_F l_1 (cutL 0 l_1 l_2) (cutL 0 l_1 l_3))) (ref09_Factor_p0_2 (ref09_Factor_F l_1 (cutL 0 l_1 l_2) (cutL 0 l_1 l_3))))))
      (.leaf (.inl true))
      (.leaf (.inl false)))
    (.leaf (.inl false))
def law09_ReflectFactors_t12 (b7 : Bool) : T ((Empty) ⊕ (law09_ReflectFactors_X)) :=
  .leaf (.inr (.r0 b7))
noncomputable def law09_ReflectFactors_F (l_1 : Nat) (l_2 : List (List Nat)) (l_3 : List Nat) : Option law09_ReflectFactors_X := toX (seqM ((law09_ReflectFactors_t7 l_1 l_2).run) fun b1 =>
  seqM ((law09_ReflectFactors_t8 l_1 l_2 l_3 b1).run) fun (e2, a3, a4, l5) =>
  seqM ((law09_ReflectFactors_t9 l_1 l_2).run) fun b6 =>
  seqM ((law09_ReflectFactors_t10 e2 a3 a4 l5 b6).run) fun _ =>
  seqM ((law09_ReflectFactors_t11 l_1 l_2 l_3 e2 a3 a4 l5).run) fun b7 =>
  (law09_ReflectFactors_t12 b7).run)
theorem law09_ReflectFactors_ok (v_0 : Lv) (l_1 : Nat) (l_2 : List (List Nat)) (l_3 : List Nat) {x : law09_ReflectFactors_X} (h : law09_ReflectFactors_F l_1 l_2 l_3 = some x) : Contract prog n_law09_ReflectFactors [] [.imm v_0 (.cols l_1 [.cfl l_2, .cf l_3]) 2 2 0 l_1] (law09_ReflectFactors_o x) :=
  Sg.contract false law09_ReflectFactors_o (by kernel_rfl : prog.funcs[n_law09_ReflectFactors]? = some (FN n_law09_ReflectFactors)) (by kernel_rfl : (FN n_law09_ReflectFactors).body = some (BODY n_law09_ReflectFactors)) (Sg.cut 2 law09_ReflectFactors_hN (Sg.seg (C := C0) C0_ok L_ref09_Factor_ok 60 (law09_ReflectFactors_l6.take 2) (entryOf (FN n_law09_ReflectFactors) [] [.imm v_0 (.cols l_1 [.cfl l_2, .cf l_3]) 2 2 0 l_1]) (law09_ReflectFactors_t7 l_1 l_2) (law09_ReflectFactors_n1 v_0 l_1 l_2 l_3) law09_ReflectFactors_E [⟨[], [], [0, 12]⟩, ⟨[], [], [0, 12]⟩] (by kernel_rfl)) (fun b1 => by exact Sg.cut 2 law09_ReflectFactors_hN (Sg.seg (C := C0) C0_ok L_ref09_Factor_ok 60 ((law09_ReflectFactors_l6.drop 2).take 2) (law09_ReflectFactors_n1 v_0 l_1 l_2 l_3 b1) (law09_ReflectFactors_t8 l_1 l_2 l_3 b1) (law09_ReflectFactors_n2 v_0 l_1 l_2 l_3) law09_ReflectFactors_E [⟨[], [], [2]⟩, ⟨[(.cell 80 2, 1, 1, .fl ([] : List Nat))], [80, 128], [0, 3, 4]⟩, ⟨[], [80, 16], [0, 3, 4]⟩] (by kernel_rfl)) (fun a => by obtain ⟨e2, a3, a4, l5⟩ := a; exact Sg.cut 1 law09_ReflectFactors_hN (Sg.seg (C := C0) C0_ok L_ref09_Factor_ok 60 (((law09_ReflectFactors_l6.drop 2).drop 2).take 1) (law09_ReflectFactors_n2 v_0 l_1 l_2 l_3 (e2, a3, a4, l5)) (law09_ReflectFactors_t9 l_1 l_2) (law09_ReflectFactors_n3 v_0 l_1 l_2 l_3 e2 a3 a4 l5) law09_ReflectFactors_E [⟨[], [0, 1], [0, 3, 4, 21]⟩] (by kernel_rfl)) (fun b6 => by exact Sg.cut 1 law09_ReflectFactors_hN (Sg.seg (C := C0) C0_ok L_ref09_Factor_ok 60 ((((law09_ReflectFactors_l6.drop 2).drop 2).drop 1).take 1) (law09_ReflectFactors_n3 v_0 l_1 l_2 l_3 e2 a3 a4 l5 b6) (law09_ReflectFactors_t10 e2 a3 a4 l5 b6) (law09_ReflectFactors_n4 v_0 l_1 l_2 l_3 e2 a3 a4 l5) law09_ReflectFactors_E [⟨[], [], [2]⟩, ⟨[], [], [2]⟩, ⟨[], [], [2]⟩, ⟨[], [0, 1], [0, 3, 4]⟩] (by kernel_rfl)) (fun a => by cases a; exact Sg.cut 1 law09_ReflectFactors_hN (Sg.seg (C := C0) C0_ok L_ref09_Factor_ok 60 (((((law09_ReflectFactors_l6.drop 2).drop 2).drop 1).drop 1).take 1) (law09_ReflectFactors_n4 v_0 l_1 l_2 l_3 e2 a3 a4 l5 ()) (law09_ReflectFactors_t11 l_1 l_2 l_3 e2 a3 a4 l5) law09_ReflectFactors_n5 law09_ReflectFactors_E [⟨[], [], [2]⟩, ⟨[], [], [2]⟩, ⟨[], [], [2]⟩] (by kernel_rfl)) (fun b7 => by exact Sg.seg (C := C0) C0_ok L_ref09_Factor_ok 60 (((((law09_ReflectFactors_l6.drop 2).drop 2).drop 1).drop 1).drop 1) (law09_ReflectFactors_n5 b7) (law09_ReflectFactors_t12 b7) (fun a : Empty => a.elim) law09_ReflectFactors_E [⟨[], [], [2]⟩] (by kernel_rfl)))))))
    (fun x => by cases x with | r0 b8 => exact ⟨.inr rfl, [.bool false b8], [], by kernel_rfl, trivial, by kernel_rfl⟩) h

def law09_ReflectFactors_i0 : Option law09_ReflectFactors_X → Bool
  | some _ => true
  | none => false
def law09_ReflectFactors_p0_0 : Option law09_ReflectFactors_X → Bool
  | some (.r0 x) => x
  | _ => false
theorem law09_ReflectFactors_e0 {x : Option law09_ReflectFactors_X} (h : law09_ReflectFactors_i0 x = true) : x = some (.r0 (law09_ReflectFactors_p0_0 x)) := by
  unfold law09_ReflectFactors_i0 at h
  split at h <;> first | rfl | (cases h; done) | (rename_i y; cases y; rfl)
noncomputable def e_law09_ReflectFactors : Entry := autoE n_law09_ReflectFactors (.cons (.cols [.cfl, .cf]) .nil) fun t => [⟨law09_ReflectFactors_o (.r0 (law09_ReflectFactors_p0_0 (law09_ReflectFactors_F t.1.2.1 t.1.2.2.1 t.1.2.2.2.1))), [law09_ReflectFactors_i0 (law09_ReflectFactors_F t.1.2.1 t.1.2.2.1 t.1.2.2.2.1)]⟩]
theorem e_law09_ReflectFactors_ok : EntryOk prog e_law09_ReflectFactors := autoE_ok fun t => (altsCons (fun h => law09_ReflectFactors_ok t.1.1 t.1.2.1 t.1.2.2.1 t.1.2.2.2.1 (law09_ReflectFactors_e0 h)) altsNil)
noncomputable def L_law09_ReflectFactors : List Entry := e_law09_ReflectFactors :: L_ref09_Factor
theorem L_law09_ReflectFactors_ok : SumsOk prog (sumsOf L_law09_ReflectFactors) := sumsOf_cons e_law09_ReflectFactors_ok L_ref09_Factor_ok

inductive reflect_sum_v5_X where
  | r0 (a4 : Nat)
def reflect_sum_v5_E : reflect_sum_v5_X → AE × ASt
  | .r0 a4 => (.ret, ⟨slots 18 [(4, .flt false a4)], [], 0⟩)
theorem reflect_sum_v5_hN : NoN reflect_sum_v5_E := by intro x; cases x <;> (intro h; cases h)
theorem reflect_sum_v5_hI (id : Nat) : NoId id reflect_sum_v5_E := by intro x; cases x <;> (intro h; cases h)
def reflect_sum_v5_o : reflect_sum_v5_X → Out
  | .r0 a4 => ⟨.flt false a4, []⟩
noncomputable def reflect_sum_v5_l6 : List Code := flat (BODY n_reflect_sum)
def reflect_sum_v5_n1 (n_0 : Int) (v_1 : Lv) (v_2 : Lv) (one_3 : Nat) (one_4 : List (List Nat)) (one_5 : List Nat) (v_6 : Lv) (one_7 : Int) (v_8 : Lv) (one_9 : Int) (one_10 : Int) (v_11 : Lv) (one_12 : List Nat) (v_13 : Lv) (one_14 : Int) (_ : Unit) : ASt := ⟨slots 18 [(1, .fn (.func n_reflect_Block_1) [] [.iptr v_1 (.vs [.imm v_2 (.cols one_3 [.cfl one_4, .cf one_5]) 2 2 0 one_3]) 1 0 0, .iptr v_6 (.vs [.int .i64 one_7]) 1 0 0, .iptr v_8 (.vs [.int .i64 one_9, .int .i64 one_10, .imm v_11 (.fl one_12) 1 1 0 (List.length one_12)]) 1 0 0, .iptr v_13 (.vs [.int .i64 one_14]) 1 0 0]), (5, .flt false 0), (7, .int .i64 n_0), (8, .int .i64 (0 : Int))], [], 0⟩
def reflect_sum_v5_t7 : T ((Unit) ⊕ (reflect_sum_v5_X)) :=
  .leaf (.inl ())
def reflect_sum_v5_n3 (n_0 : Int) (v_1 : Lv) (v_2 : Lv) (one_3 : Nat) (one_4 : List (List Nat)) (one_5 : List Nat) (v_6 : Lv) (one_7 : Int) (v_8 : Lv) (one_9 : Int) (one_10 : Int) (v_11 : Lv) (one_12 : List Nat) (v_13 : Lv) (one_14 : Int) : Nat × Nat → ASt := fun (s1, a2) => ⟨slots 18 [(1, .fn (.func n_reflect_Block_1) [] [.iptr v_1 (.vs [.imm v_2 (.cols one_3 [.cfl one_4, .cf one_5]) 2 2 0 one_3]) 1 0 0, .iptr v_6 (.vs [.int .i64 one_7]) 1 0 0, .iptr v_8 (.vs [.int .i64 one_9, .int .i64 one_10, .imm v_11 (.fl one_12) 1 1 0 (List.length one_12)]) 1 0 0, .iptr v_13 (.vs [.int .i64 one_14]) 1 0 0]), (5, .flt false s1), (7, .int .i64 n_0), (8, .int .i64 ((a2 : Nat) : Int))], [], 0⟩
def reflect_sum_v5_n4 (s3 : Nat) : ASt := ⟨slots 18 [(5, .flt false s3)], [], 0⟩
noncomputable def reflect_sum_v5_l8 : List Code := flat (inLoop ((((reflect_sum_v5_l6.drop 3).take 1)).headD .skip))
def reflect_sum_v5_t9 (n_0 : Int) (one_3 : Nat) (one_4 : List (List Nat)) (one_7 : Int) (one_10 : Int) (one_12 : List Nat) (one_14 : Int) (s1 : Nat) (a2 : Nat) : T ((Nat × Nat) ⊕ ((Nat) ⊕ (reflect_sum_v5_X))) :=
  .ask (decide (((a2 : Nat) : Int) < n_0))
    (.need (inB one_7 one_3) <| .need (ltB (Int.toNat one_7) (List.length one_4)) <| .need (inB ((a2 : Nat) : Int) (List.length (List.getD one_4 (Int.toNat one_7) []))) <| .need (ltB a2 (List.length (List.getD one_4 (Int.toNat one_7) []))) <| .need (inK .i64 (((a2 : Nat) : Int) * one_10)) <| .need (inK .i64 ((((a2 : Nat) : Int) * one_10) + one_14)) <| .need (inB ((((a2 : Nat) : Int) * one_10) + one_14) (List.length one_12)) <| .need (ltB (Int.toNat ((((a2 : Nat) : Int) * one_10) + one_14)) (List.length one_12)) <| .need (inK .i64 (((a2 + 1) : Nat) : Int)) <| .leaf (.inl ((fadd s1 (fmul (List.getD (List.getD one_4 (Int.toNat one_7) []) a2 0) (List.getD one_12 (Int.toNat ((((a2 : Nat) : Int) * one_10) + one_14)) 0))), (a2 + 1))))
    (.leaf (.inr (.inl s1)))
noncomputable def reflect_sum_v5_m10 (n_0 : Int) (one_3 : Nat) (one_4 : List (List Nat)) (one_7 : Int) (one_10 : Int) (one_12 : List Nat) (one_14 : Int) : Nat × Nat → Option ((Nat × Nat) ⊕ ((Nat) ⊕ (reflect_sum_v5_X))) := fun (s1, a2) =>
  (reflect_sum_v5_t9 n_0 one_3 one_4 one_7 one_10 one_12 one_14 s1 a2).run
theorem reflect_sum_v5_s10 (n_0 : Int) (v_1 : Lv) (v_2 : Lv) (one_3 : Nat) (one_4 : List (List Nat)) (one_5 : List Nat) (v_6 : Lv) (one_7 : Int) (v_8 : Lv) (one_9 : Int) (one_10 : Int) (v_11 : Lv) (one_12 : List Nat) (v_13 : Lv) (one_14 : Int) (s1 : Nat) (a2 : Nat) : Sg prog [] reflect_sum_v5_l8 (reflect_sum_v5_n3 n_0 v_1 v_2 one_3 one_4 one_5 v_6 one_7 v_8 one_9 one_10 v_11 one_12 v_13 one_14 (s1, a2)) (reflect_sum_v5_m10 n_0 one_3 one_4 one_7 one_10 one_12 one_14 (s1, a2)) (reflect_sum_v5_n3 n_0 v_1 v_2 one_3 one_4 one_5 v_6 one_7 v_8 one_9 one_10 v_11 one_12 v_13 one_14) (exitE 0 reflect_sum_v5_n4 reflect_sum_v5_E) :=
  Sg.seg (C := C0) C0_ok L_law09_ReflectFactors_ok 60 reflect_sum_v5_l8 (reflect_sum_v5_n3 n_0 v_1 v_2 one_3 one_4 one_5 v_6 one_7 v_8 one_9 one_10 v_11 one_12 v_13 one_14 (s1, a2)) (reflect_sum_v5_t9 n_0 one_3 one_4 one_7 one_10 one_12 one_14 s1 a2) (reflect_sum_v5_n3 n_0 v_1 v_2 one_3 one_4 one_5 v_6 one_7 v_8 one_9 one_10 v_11 one_12 v_13 one_14) (exitE 0 reflect_sum_v5_n4 reflect_sum_v5_E) [⟨[], [], [1, 5, 7, 8]⟩, ⟨[], [], [5]⟩] (by kernel_rfl)
def reflect_sum_v5_n5 : Nat → ASt := reflect_sum_v5_n4
def reflect_sum_v5_t11 (s3 : Nat) : T ((Empty) ⊕ (reflect_sum_v5_X)) :=
  .leaf (.inr (.r0 s3))
noncomputable def reflect_sum_v5_F (n_0 : Int) (one_3 : Nat) (one_4 : List (List Nat)) (one_7 : Int) (one_10 : Int) (one_12 : List Nat) (one_14 : Int) : Option reflect_sum_v5_X := toX (seqM ((reflect_sum_v5_t7).run) fun _ =>
  seqM (loopM (reflect_sum_v5_m10 n_0 one_3 one_4 one_7 one_10 one_12 one_14) (0, 0)) fun s3 =>
  (reflect_sum_v5_t11 s3).run)
theorem reflect_sum_v5_ok (n_0 : Int) (v_1 : Lv) (v_2 : Lv) (one_3 : Nat) (one_4 : List (List Nat)) (one_5 : List Nat) (v_6 : Lv) (one_7 : Int) (v_8 : Lv) (one_9 : Int) (one_10 : Int) (v_11 : Lv) (one_12 : List Nat) (v_13 : Lv) (one_14 : Int) {x : reflect_sum_v5_X} (h : reflect_sum_v5_F n_0 one_3 one_4 one_7 one_10 one_12 one_14 = some x) : Contract prog n_reflect_sum [] [.int .i64 n_0, .fn (.func n_reflect_Block_1) [] [.iptr v_1 (.vs [.imm v_2 (.cols one_3 [.cfl one_4, .cf one_5]) 2 2 0 one_3]) 1 0 0, .iptr v_6 (.vs [.int .i64 one_7]) 1 0 0, .iptr v_8 (.vs [.int .i64 one_9, .int .i64 one_10, .imm v_11 (.fl one_12) 1 1 0 (List.length one_12)]) 1 0 0, .iptr v_13 (.vs [.int .i64 one_14]) 1 0 0]] (reflect_sum_v5_o x) :=
  Sg.contract false reflect_sum_v5_o (by kernel_rfl : prog.funcs[n_reflect_sum]? = some (FN n_reflect_sum)) (by kernel_rfl : (FN n_reflect_sum).body = some (BODY n_reflect_sum)) (Sg.cut 3 reflect_sum_v5_hN (Sg.seg (C := C0) C0_ok L_law09_ReflectFactors_ok 60 (reflect_sum_v5_l6.take 3) (entryOf (FN n_reflect_sum) [] [.int .i64 n_0, .fn (.func n_reflect_Block_1) [] [.iptr v_1 (.vs [.imm v_2 (.cols one_3 [.cfl one_4, .cf one_5]) 2 2 0 one_3]) 1 0 0, .iptr v_6 (.vs [.int .i64 one_7]) 1 0 0, .iptr v_8 (.vs [.int .i64 one_9, .int .i64 one_10, .imm v_11 (.fl one_12) 1 1 0 (List.length one_12)]) 1 0 0, .iptr v_13 (.vs [.int .i64 one_14]) 1 0 0]]) (reflect_sum_v5_t7) (reflect_sum_v5_n1 n_0 v_1 v_2 one_3 one_4 one_5 v_6 one_7 v_8 one_9 one_10 v_11 one_12 v_13 one_14) reflect_sum_v5_E [⟨[], [], [1, 5, 7, 8]⟩] (by kernel_rfl)) (fun a => by cases a; exact Sg.cut 1 reflect_sum_v5_hN (Sg.pre ⟨[], [], [1, 5, 7, 8]⟩ rfl (by kernel_rfl : NS.on ⟨[], [], [1, 5, 7, 8]⟩ (reflect_sum_v5_n1 n_0 v_1 v_2 one_3 one_4 one_5 v_6 one_7 v_8 one_9 one_10 v_11 one_12 v_13 one_14 ()) = (reflect_sum_v5_n3 n_0 v_1 v_2 one_3 one_4 one_5 v_6 one_7 v_8 one_9 one_10 v_11 one_12 v_13 one_14) (0, 0)) (Sg.loopAt (I := (reflect_sum_v5_n3 n_0 v_1 v_2 one_3 one_4 one_5 v_6 one_7 v_8 one_9 one_10 v_11 one_12 v_13 one_14)) (J := (reflect_sum_v5_n4)) (id := 0) (by kernel_rfl : ((reflect_sum_v5_l6.drop 3).take 1) = [.block 0 (.loop (inLoop ((((reflect_sum_v5_l6.drop 3).take 1)).headD .skip)))]) reflect_sum_v5_hN (reflect_sum_v5_hI _) (fun s => by obtain ⟨s1, a2⟩ := s; exact reflect_sum_v5_s10 n_0 v_1 v_2 one_3 one_4 one_5 v_6 one_7 v_8 one_9 one_10 v_11 one_12 v_13 one_14 s1 a2) (0, 0))) (fun s3 => by exact Sg.seg (C := C0) C0_ok L_law09_ReflectFactors_ok 60 ((reflect_sum_v5_l6.drop 3).drop 1) (reflect_sum_v5_n5 s3) (reflect_sum_v5_t11 s3) (fun a : Empty => a.elim) reflect_sum_v5_E [⟨[], [], [4]⟩] (by kernel_rfl))))
    (fun x => by cases x with | r0 a4 => exact ⟨.inr rfl, [.flt false a4], [], by kernel_rfl, trivial, by kernel_rfl⟩) h

def reflect_sum_v5_i0 : Option reflect_sum_v5_X → Bool
  | some _ => true
  | none => false
def reflect_sum_v5_p0_0 : Option reflect_sum_v5_X → Nat
  | some (.r0 x) => x
  | _ => 0
theorem reflect_sum_v5_e0 {x : Option reflect_sum_v5_X} (h : reflect_sum_v5_i0 x = true) : x = some (.r0 (reflect_sum_v5_p0_0 x)) := by
  unfold reflect_sum_v5_i0 at h
  split at h <;> first | rfl | (cases h; done) | (rename_i y; cases y; rfl)
noncomputable def e_reflect_sum_v5 : Entry := autoE n_reflect_sum (.cons (.int .i64) (.cons (.fn n_reflect_Block_1 .nil (.cons (.ivs (.cons (.cols [.cfl, .cf]) .nil) 1 0 0) (.cons (.ivs (.cons (.int .i64) .nil) 1 0 0) (.cons (.ivs (.cons (.int .i64) (.cons (.int .i64) (.cons .fl .nil))) 1 0 0) (.cons (.ivs (.cons (.int .i64) .nil) 1 0 0) .nil))))) .nil)) fun t => [⟨reflect_sum_v5_o (.r0 (reflect_sum_v5_p0_0 (reflect_sum_v5_F t.1 t.2.1.2.1.2.1.2.1 t.2.1.2.1.2.1.2.2.1 t.2.1.2.2.1.2.1 t.2.1.2.2.2.1.2.2.1 t.2.1.2.2.2.1.2.2.2.1.2 t.2.1.2.2.2.2.1.2.1))), [reflect_sum_v5_i0 (reflect_sum_v5_F t.1 t.2.1.2.1.2.1.2.1 t.2.1.2.1.2.1.2.2.1 t.2.1.2.2.1.2.1 t.2.1.2.2.2.1.2.2.1 t.2.1.2.2.2.1.2.2.2.1.2 t.2.1.2.2.2.2.1.2.1)]⟩]
theorem e_reflect_sum_v5_ok : EntryOk prog e_reflect_sum_v5 := autoE_ok fun t => (altsCons (fun h => reflect_sum_v5_ok t.1 t.2.1.2.1.1 t.2.1.2.1.2.1.1 t.2.1.2.1.2.1.2.1 t.2.1.2.1.2.1.2.2.1 t.2.1.2.1.2.1.2.2.2.1 t.2.1.2.2.1.1 t.2.1.2.2.1.2.1 t.2.1.2.2.2.1.1 t.2.1.2.2.2.1.2.1 t.2.1.2.2.2.1.2.2.1 t.2.1.2.2.2.1.2.2.2.1.1 t.2.1.2.2.2.1.2.2.2.1.2 t.2.1.2.2.2.2.1.1 t.2.1.2.2.2.2.1.2.1 (reflect_sum_v5_e0 h)) altsNil)
noncomputable def L_reflect_sum_v5 : List Entry := e_reflect_sum_v5 :: L_law09_ReflectFactors
theorem L_reflect_sum_v5_ok : SumsOk prog (sumsOf L_reflect_sum_v5) := sumsOf_cons e_reflect_sum_v5_ok L_law09_ReflectFactors_ok

end
end Go.Plb.Seat

namespace Go.Plb.Seat
open Go Go.Plb
set_option linter.unusedVariables false
set_option maxRecDepth 10000
noncomputable section

inductive reflect_sum_v6_X where
  | r0 (a4 : Nat)
def reflect_sum_v6_E : reflect_sum_v6_X → AE × ASt
  | .r0 a4 => (.ret, ⟨slots 18 [(4, .flt false a4)], [], 0⟩)
theorem reflect_sum_v6_hN : NoN reflect_sum_v6_E := by intro x; cases x <;> (intro h; cases h)
theorem reflect_sum_v6_hI (id : Nat) : NoId id reflect_sum_v6_E := by intro x; cases x <;> (intro h; cases h)
def reflect_sum_v6_o : reflect_sum_v6_X → Out
  | .r0 a4 => ⟨.flt false a4, []⟩
noncomputable def reflect_sum_v6_l6 : List Code := flat (BODY n_reflect_sum)
def reflect_sum_v6_n1 (n_0 : Int) (v_1 : Lv) (one_2 : Int) (one_3 : Int) (v_4 : Lv) (one_5 : List Nat) (v_6 : Lv) (one_7 : Int) (v_8 : Lv) (one_9 : Int) (v_10 : Lv) (v_11 : Lv) (one_12 : List Nat) (_ : Unit) : ASt := ⟨slots 18 [(1, .fn (.func n_reflect_Block_2) [] [.iptr v_1 (.vs [.int .i64 one_2, .int .i64 one_3, .imm v_4 (.fl one_5) 1 1 0 (List.length one_5)]) 1 0 0, .iptr v_6 (.vs [.int .i64 one_7]) 1 0 0, .iptr v_8 (.vs [.int .i64 one_9]) 1 0 0, .iptr v_10 (.vs [.imm v_11 (.fl one_12) 1 1 0 (List.length one_12)]) 1 0 0]), (5, .flt false 0), (7, .int .i64 n_0), (8, .int .i64 (0 : Int))], [], 0⟩
def reflect_sum_v6_t7 : T ((Unit) ⊕ (reflect_sum_v6_X)) :=
  .leaf (.inl ())
def reflect_sum_v6_n3 (n_0 : Int) (v_1 : Lv) (one_2 : Int) (one_3 : Int) (v_4 : Lv) (one_5 : List Nat) (v_6 : Lv) (one_7 : Int) (v_8 : Lv) (one_9 : Int) (v_10 : Lv) (v_11 : Lv) (one_12 : List Nat) : Nat × Nat → ASt := fun (s1, a2) => ⟨slots 18 [(1, .fn (.func n_reflect_Block_2) [] [.iptr v_1 (.vs [.int .i64 one_2, .int .i64 one_3, .imm v_4 (.fl one_5) 1 1 0 (List.length one_5)]) 1 0 0, .iptr v_6 (.vs [.int .i64 one_7]) 1 0 0, .iptr v_8 (.vs [.int .i64 one_9]) 1 0 0, .iptr v_10 (.vs [.imm v_11 (.fl one_12) 1 1 0 (List.length one_12)]) 1 0 0]), (5, .flt false s1), (7, .int .i64 n_0), (8, .int .i64 ((a2 : Nat) : Int))], [], 0⟩
def reflect_sum_v6_n4 (s3 : Nat) : ASt := ⟨slots 18 [(5, .flt false s3)], [], 0⟩
noncomputable def reflect_sum_v6_l8 : List Code := flat (inLoop ((((reflect_sum_v6_l6.drop 3).take 1)).headD .skip))
def reflect_sum_v6_t9 (n_0 : Int) (one_5 : List Nat) (one_7 : Int) (one_9 : Int) (one_12 : List Nat) (s1 : Nat) (a2 : Nat) : T ((Nat × Nat) ⊕ ((Nat) ⊕ (reflect_sum_v6_X))) :=
  .ask (decide (((a2 : Nat) : Int) < n_0))
    (.need (inK .i64 (((a2 : Nat) : Int) * one_7)) <| .need (inK .i64 ((((a2 : Nat) : Int) * one_7) + one_9)) <| .need (inB ((((a2 : Nat) : Int) * one_7) + one_9) (List.length one_5)) <| .need (ltB (Int.toNat ((((a2 : Nat) : Int) * one_7) + one_9)) (List.length one_5)) <| .need (inB ((a2 : Nat) : Int) (List.length one_12)) <| .need (ltB a2 (List.length one_12)) <| .need (inK .i64 (((a2 + 1) : Nat) : Int)) <| .leaf (.inl ((fadd s1 (fmul (List.getD one_5 (Int.toNat ((((a2 : Nat) : Int) * one_7) + one_9)) 0) (List.getD one_12 a2 0))), (a2 + 1))))
    (.leaf (.inr (.inl s1)))
noncomputable def reflect_sum_v6_m10 (n_0 : Int) (one_5 : List Nat) (one_7 : Int) (one_9 : Int) (one_12 : List Nat) : Nat × Nat → Option ((Nat × Nat) ⊕ ((Nat) ⊕ (reflect_sum_v6_X))) := fun (s1, a2) =>
  (reflect_sum_v6_t9 n_0 one_5 one_7 one_9 one_12 s1 a2).run
theorem reflect_sum_v6_s10 (n_0 : Int) (v_1 : Lv) (one_2 : Int) (one_3 : Int) (v_4 : Lv) (one_5 : List Nat) (v_6 : Lv) (one_7 : Int) (v_8 : Lv) (one_9 : Int) (v_10 : Lv) (v_11 : Lv) (one_12 : List Nat) (s1 : Nat) (a2 : Nat) : Sg prog [] reflect_sum_v6_l8 (reflect_sum_v6_n3 n_0 v_1 one_2 one_3 v_4 one_5 v_6 one_7 v_8 one_9 v_10 v_11 one_12 (s1, a2)) (reflect_sum_v6_m10 n_0 one_5 one_7 one_9 one_12 (s1, a2)) (reflect_sum_v6_n3 n_0 v_1 one_2 one_3 v_4 one_5 v_6 one_7 v_8 one_9 v_10 v_11 one_12) (exitE 0 reflect_sum_v6_n4 reflect_sum_v6_E) :=
  Sg.seg (C := C0) C0_ok L_reflect_sum_v5_ok 60 reflect_sum_v6_l8 (reflect_sum_v6_n3 n_0 v_1 one_2 one_3 v_4 one_5 v_6 one_7 v_8 one_9 v_10 v_11 one_12 (s1, a2)) (reflect_sum_v6_t9 n_0 one_5 one_7 one_9 one_12 s1 a2) (reflect_sum_v6_n3 n_0 v_1 one_2 one_3 v_4 one_5 v_6 one_7 v_8 one_9 v_10 v_11 one_12) (exitE 0 reflect_sum_v6_n4 reflect_sum_v6_E) [⟨[], [], [1, 5, 7, 8]⟩, ⟨[], [], [5]⟩] (by kernel_rfl)
def reflect_sum_v6_n5 : Nat → ASt := reflect_sum_v6_n4
def reflect_sum_v6_t11 (s3 : Nat) : T ((Empty) ⊕ (reflect_sum_v6_X)) :=
  .leaf (.inr (.r0 s3))
noncomputable def reflect_sum_v6_F (n_0 : Int) (one_5 : List Nat) (one_7 : Int) (one_9 : Int) (one_12 : List Nat) : Option reflect_sum_v6_X := toX (seqM ((reflect_sum_v6_t7).run) fun _ =>
  seqM (loopM (reflect_sum_v6_m10 n_0 one_5 one_7 one_9 one_12) (0, 0)) fun s3 =>
  (reflect_sum_v6_t11 s3).run)
theorem reflect_sum_v6_ok (n_0 : Int) (v_1 : Lv) (one_2 : Int) (one_3 : Int) (v_4 : Lv) (one_5 : List Nat) (v_6 : Lv) (one_7 : Int) (v_8 : Lv) (one_9 : Int) (v_10 : Lv) (v_11 : Lv) (one_12 : List Nat) {x : reflect_sum_v6_X} (h : reflect_sum_v6_F n_0 one_5 one_7 one_9 one_12 = some x) : Contract prog n_reflect_sum [] [.int .i64 n_0, .fn (.func n_reflect_Block_2) [] [.iptr v_1 (.vs [.int .i64 one_2, .int .i64 one_3, .imm v_4 (.fl one_5) 1 1 0 (List.length one_5)]) 1 0 0, .iptr v_6 (.vs [.int .i64 one_7]) 1 0 0, .iptr v_8 (.vs [.int .i64 one_9]) 1 0 0, .iptr v_10 (.vs [.imm v_11 (.fl one_12) 1 1 0 (List.length one_12)]) 1 0 0]] (reflect_sum_v6_o x) :=
  Sg.contract false reflect_sum_v6_o (by kernel_rfl : prog.funcs[n_reflect_sum]? = some (FN n_reflect_sum)) (by kernel_rfl : (FN n_reflect_sum).body = some (BODY n_reflect_sum)) (Sg.cut 3 reflect_sum_v6_hN (Sg.seg (C := C0) C0_ok L_reflect_sum_v5_ok 60 (reflect_sum_v6_l6.take 3) (entryOf (FN n_reflect_sum) [] [.int .i64 n_0, .fn (.func n_reflect_Block_2) [] [.iptr v_1 (.vs [.int .i64 one_2, .int .i64 one_3, .imm v_4 (.fl one_5) 1 1 0 (List.length one_5)]) 1 0 0, .iptr v_6 (.vs [.int .i64 one_7]) 1 0 0, .iptr v_8 (.vs [.int .i64 one_9]) 1 0 0, .iptr v_10 (.vs [.imm v_11 (.fl one_12) 1 1 0 (List.length one_12)]) 1 0 0]]) (reflect_sum_v6_t7) (reflect_sum_v6_n1 n_0 v_1 one_2 one_3 v_4 one_5 v_6 one_7 v_8 one_9 v_10 v_11 one_12) reflect_sum_v6_E [⟨[], [], [1, 5, 7, 8]⟩] (by kernel_rfl)) (fun a => by cases a; exact Sg.cut 1 reflect_sum_v6_hN (Sg.pre ⟨[], [], [1, 5, 7, 8]⟩ rfl (by kernel_rfl : NS.on ⟨[], [], [1, 5, 7, 8]⟩ (reflect_sum_v6_n1 n_0 v_1 one_2 one_3 v_4 one_5 v_6 one_7 v_8 one_9 v_10 v_11 one_12 ()) = (reflect_sum_v6_n3 n_0 v_1 one_2 one_3 v_4 one_5 v_6 one_7 v_8 one_9 v_10 v_11 one_12) (0, 0)) (Sg.loopAt (I := (reflect_sum_v6_n3 n_0 v_1 one_2 one_3 v_4 one_5 v_6 one_7 v_8 one_9 v_10 v_11 one_12)) (J := (reflect_sum_v6_n4)) (id := 0) (by kernel_rfl : ((reflect_sum_v6_l6.drop 3).take 1) = [.block 0 (.loop (inLoop ((((reflect_sum_v6_l6.drop 3).take 1)).headD .skip)))]) reflect_sum_v6_hN (reflect_sum_v6_hI _) (fun s => by obtain ⟨s1, a2⟩ := s; exact reflect_sum_v6_s10 n_0 v_1 one_2 one_3 v_4 one_5 v_6 one_7 v_8 one_9 v_10 v_11 one_12 s1 a2) (0, 0))) (fun s3 => by exact Sg.seg (C := C0) C0_ok L_reflect_sum_v5_ok 60 ((reflect_sum_v6_l6.drop 3).drop 1) (reflect_sum_v6_n5 s3) (reflect_sum_v6_t11 s3) (fun a : Empty => a.elim) reflect_sum_v6_E [⟨[], [], [4]⟩] (by kernel_rfl))))
    (fun x => by cases x with | r0 a4 => exact ⟨.inr rfl, [.flt false a4], [], by kernel_rfl, trivial, by kernel_rfl⟩) h

def reflect_sum_v6_i0 : Option reflect_sum_v6_X → Bool
  | some _ => true
  | none => false
def reflect_sum_v6_p0_0 : Option reflect_sum_v6_X → Nat
  | some (.r0 x) => x
  | _ => 0
theorem reflect_sum_v6_e0 {x : Option reflect_sum_v6_X} (h : reflect_sum_v6_i0 x = true) : x = some (.r0 (reflect_sum_v6_p0_0 x)) := by
  unfold reflect_sum_v6_i0 at h
  split at h <;> first | rfl | (cases h; done) | (rename_i y; cases y; rfl)
noncomputable def e_reflect_sum_v6 : Entry := autoE n_reflect_sum (.cons (.int .i64) (.cons (.fn n_reflect_Block_2 .nil (.cons (.ivs (.cons (.int .i64) (.cons (.int .i64) (.cons .fl .nil))) 1 0 0) (.cons (.ivs (.cons (.int .i64) .nil) 1 0 0) (.cons (.ivs (.cons (.int .i64) .nil) 1 0 0) (.cons (.ivs (.cons .fl .nil) 1 0 0) .nil))))) .nil)) fun t => [⟨reflect_sum_v6_o (.r0 (reflect_sum_v6_p0_0 (reflect_sum_v6_F t.1 t.2.1.2.1.2.2.2.1.2 t.2.1.2.2.1.2.1 t.2.1.2.2.2.1.2.1 t.2.1.2.2.2.2.1.2.1.2))), [reflect_sum_v6_i0 (reflect_sum_v6_F t.1 t.2.1.2.1.2.2.2.1.2 t.2.1.2.2.1.2.1 t.2.1.2.2.2.1.2.1 t.2.1.2.2.2.2.1.2.1.2)]⟩]
theorem e_reflect_sum_v6_ok : EntryOk prog e_reflect_sum_v6 := autoE_ok fun t => (altsCons (fun h => reflect_sum_v6_ok t.1 t.2.1.2.1.1 t.2.1.2.1.2.1 t.2.1.2.1.2.2.1 t.2.1.2.1.2.2.2.1.1 t.2.1.2.1.2.2.2.1.2 t.2.1.2.2.1.1 t.2.1.2.2.1.2.1 t.2.1.2.2.2.1.1 t.2.1.2.2.2.1.2.1 t.2.1.2.2.2.2.1.1 t.2.1.2.2.2.2.1.2.1.1 t.2.1.2.2.2.2.1.2.1.2 (reflect_sum_v6_e0 h)) altsNil)
noncomputable def L_reflect_sum_v6 : List Entry := e_reflect_sum_v6 :: L_reflect_sum_v5
theorem L_reflect_sum_v6_ok : SumsOk prog (sumsOf L_reflect_sum_v6) := sumsOf_cons e_reflect_sum_v6_ok L_reflect_sum_v5_ok

inductive reflect_sum_v7_X where
  | r0 (a4 : Nat)
def reflect_sum_v7_E : reflect_sum_v7_X → AE × ASt
  | .r0 a4 => (.ret, ⟨slots 18 [(4, .flt false a4)], [], 0⟩)
theorem reflect_sum_v7_hN : NoN reflect_sum_v7_E := by intro x; cases x <;> (intro h; cases h)
theorem reflect_sum_v7_hI (id : Nat) : NoId id reflect_sum_v7_E := by intro x; cases x <;> (intro h; cases h)
def reflect_sum_v7_o : reflect_sum_v7_X → Out
  | .r0 a4 => ⟨.flt false a4, []⟩
noncomputable def reflect_sum_v7_l6 : List Code := flat (BODY n_reflect_sum)
def reflect_sum_v7_n1 (n_0 : Int) (v_1 : Lv) (v_2 : Lv) (one_3 : Nat) (one_4 : List (List Nat)) (one_5 : List Nat) (v_6 : Lv) (one_7 : Int) (v_8 : Lv) (v_9 : Lv) (one_10 : List Nat) (_ : Unit) : ASt := ⟨slots 18 [(1, .fn (.func n_reflect_Block_3) [] [.iptr v_1 (.vs [.imm v_2 (.cols one_3 [.cfl one_4, .cf one_5]) 2 2 0 one_3]) 1 0 0, .iptr v_6 (.vs [.int .i64 one_7]) 1 0 0, .iptr v_8 (.vs [.imm v_9 (.fl one_10) 1 1 0 (List.length one_10)]) 1 0 0]), (5, .flt false 0), (7, .int .i64 n_0), (8, .int .i64 (0 : Int))], [], 0⟩
def reflect_sum_v7_t7 : T ((Unit) ⊕ (reflect_sum_v7_X)) :=
  .leaf (.inl ())
def reflect_sum_v7_n3 (n_0 : Int) (v_1 : Lv) (v_2 : Lv) (one_3 : Nat) (one_4 : List (List Nat)) (one_5 : List Nat) (v_6 : Lv) (one_7 : Int) (v_8 : Lv) (v_9 : Lv) (one_10 : List Nat) : Nat × Nat → ASt := fun (s1, a2) => ⟨slots 18 [(1, .fn (.func n_reflect_Block_3) [] [.iptr v_1 (.vs [.imm v_2 (.cols one_3 [.cfl one_4, .cf one_5]) 2 2 0 one_3]) 1 0 0, .iptr v_6 (.vs [.int .i64 one_7]) 1 0 0, .iptr v_8 (.vs [.imm v_9 (.fl one_10) 1 1 0 (List.length one_10)]) 1 0 0]), (5, .flt false s1), (7, .int .i64 n_0), (8, .int .i64 ((a2 : Nat) : Int))], [], 0⟩
def reflect_sum_v7_n4 (s3 : Nat) : ASt := ⟨slots 18 [(5, .flt false s3)], [], 0⟩
noncomputable def reflect_sum_v7_l8 : List Code := flat (inLoop ((((reflect_sum_v7_l6.drop 3).take 1)).headD .skip))
def reflect_sum_v7_t9 (n_0 : Int) (one_3 : Nat) (one_4 : List (List Nat)) (one_7 : Int) (one_10 : List Nat) (s1 : Nat) (a2 : Nat) : T ((Nat × Nat) ⊕ ((Nat) ⊕ (reflect_sum_v7_X))) :=
  .ask (decide (((a2 : Nat) : Int) < n_0))
    (.need (inB ((a2 : Nat) : Int) one_3) <| .need (ltB a2 (List.length one_4)) <| .need (inB one_7 (List.length (List.getD one_4 a2 []))) <| .need (ltB (Int.toNat one_7) (List.length (List.getD one_4 a2 []))) <| .need (inB ((a2 : Nat) : Int) (List.length one_10)) <| .need (ltB a2 (List.length one_10)) <| .need (inK .i64 (((a2 + 1) : Nat) : Int)) <| .leaf (.inl ((fadd s1 (fmul (List.getD (List.getD one_4 a2 []) (Int.toNat one_7) 0) (List.getD one_10 a2 0))), (a2 + 1))))
    (.leaf (.inr (.inl s1)))
noncomputable def reflect_sum_v7_m10 (n_0 : Int) (one_3 : Nat) (one_4 : List (List Nat)) (one_7 : Int) (one_10 : List Nat) : Nat × Nat → Option ((Nat × Nat) ⊕ ((Nat) ⊕ (reflect_sum_v7_X))) := fun (s1, a2) =>
  (reflect_sum_v7_t9 n_0 one_3 one_4 one_7 one_10 s1 a2).run
theorem reflect_sum_v7_s10 (n_0 : Int) (v_1 : Lv) (v_2 : Lv) (one_3 : Nat) (one_4 : List (List Nat)) (one_5 : List Nat) (v_6 : Lv) (one_7 : Int) (v_8 : Lv) (v_9 : Lv) (one_10 : List Nat) (s1 : Nat) (a2 : Nat) : Sg prog [] reflect_sum_v7_l8 (reflect_sum_v7_n3 n_0 v_1 v_2 one_3 one_4 one_5 v_6 one_7 v_8 v_9 one_10 (s1, a2)) (reflect_sum_v7_m10 n_0 one_3 one_4 one_7 one_10 (s1, a2)) (reflect_sum_v7_n3 n_0 v_1 v_2 one_3 one_4 one_5 v_6 one_7 v_8 v_9 one_10) (exitE 0 reflect_sum_v7_n4 reflect_sum_v7_E) :=
  Sg.seg (C := C0) C0_ok L_reflect_sum_v6_ok 60 reflect_sum_v7_l8 (reflect_sum_v7_n3 n_0 v_1 v_2 one_3 one_4 one_5 v_6 one_7 v_8 v_9 one_10 (s1, a2)) (reflect_sum_v7_t9 n_0 one_3 one_4 one_7 one_10 s1 a2) (reflect_sum_v7_n3 n_0 v_1 v_2 one_3 one_4 one_5 v_6 one_7 v_8 v_9 one_10) (exitE 0 reflect_sum_v7_n4 reflect_sum_v7_E) [⟨[], [], [1, 5, 7, 8]⟩, ⟨[], [], [5]⟩] (by kernel_rfl)
def reflect_sum_v7_n5 : Nat → ASt := reflect_sum_v7_n4
def reflect_sum_v7_t11 (s3 : Nat) : T ((Empty) ⊕ (reflect_sum_v7_X)) :=
  .leaf (.inr (.r0 s3))
noncomputable def reflect_sum_v7_F (n_0 : Int) (one_3 : Nat) (one_4 : List (List Nat)) (one_7 : Int) (one_10 : List Nat) : Option reflect_sum_v7_X := toX (seqM ((reflect_sum_v7_t7).run) fun _ =>
  seqM (loopM (reflect_sum_v7_m10 n_0 one_3 one_4 one_7 one_10) (0, 0)) fun s3 =>
  (reflect_sum_v7_t11 s3).run)
theorem reflect_sum_v7_ok (n_0 : Int) (v_1 : Lv) (v_2 : Lv) (one_3 : Nat) (one_4 : List (List Nat)) (one_5 : List Nat) (v_6 : Lv) (one_7 : Int) (v_8 : Lv) (v_9 : Lv) (one_10 : List Nat) {x : reflect_sum_v7_X} (h : reflect_sum_v7_F n_0 one_3 one_4 one_7 one_10 = some x) : Contract prog n_reflect_sum [] [.int .i64 n_0, .fn (.func n_reflect_Block_3) [] [.iptr v_1 (.vs [.imm v_2 (.cols one_3 [.cfl one_4, .cf one_5]) 2 2 0 one_3]) 1 0 0, .iptr v_6 (.vs [.int .i64 one_7]) 1 0 0, .iptr v_8 (.vs [.imm v_9 (.fl one_10) 1 1 0 (List.length one_10)]) 1 0 0]] (reflect_sum_v7_o x) :=
  Sg.contract false reflect_sum_v7_o (by kernel_rfl : prog.funcs[n_reflect_sum]? = some (FN n_reflect_sum)) (by kernel_rfl : (FN n_reflect_sum).body = some (BODY n_reflect_sum)) (Sg.cut 3 reflect_sum_v7_hN (Sg.seg (C := C0) C0_ok L_reflect_sum_v6_ok 60 (reflect_sum_v7_l6.take 3) (entryOf (FN n_reflect_sum) [] [.int .i64 n_0, .fn (.func n_reflect_Block_3) [] [.iptr v_1 (.vs [.imm v_2 (.cols one_3 [.cfl one_4, .cf one_5]) 2 2 0 one_3]) 1 0 0, .iptr v_6 (.vs [.int .i64 one_7]) 1 0 0, .iptr v_8 (.vs [.imm v_9 (.fl one_10) 1 1 0 (List.length one_10)]) 1 0 0]]) (reflect_sum_v7_t7) (reflect_sum_v7_n1 n_0 v_1 v_2 one_3 one_4 one_5 v_6 one_7 v_8 v_9 one_10) reflect_sum_v7_E [⟨[], [], [1, 5, 7, 8]⟩] (by kernel_rfl)) (fun a => by cases a; exact Sg.cut 1 reflect_sum_v7_hN (Sg.pre ⟨[], [], [1, 5, 7, 8]⟩ rfl (by kernel_rfl : NS.on ⟨[], [], [1, 5, 7, 8]⟩ (reflect_sum_v7_n1 n_0 v_1 v_2 one_3 one_4 one_5 v_6 one_7 v_8 v_9 one_10 ()) = (reflect_sum_v7_n3 n_0 v_1 v_2 one_3 one_4 one_5 v_6 one_7 v_8 v_9 one_10) (0, 0)) (Sg.loopAt (I := (reflect_sum_v7_n3 n_0 v_1 v_2 one_3 one_4 one_5 v_6 one_7 v_8 v_9 one_10)) (J := (reflect_sum_v7_n4)) (id := 0) (by kernel_rfl : ((reflect_sum_v7_l6.drop 3).take 1) = [.block 0 (.loop (inLoop ((((reflect_sum_v7_l6.drop 3).take 1)).headD .skip)))]) reflect_sum_v7_hN (reflect_sum_v7_hI _) (fun s => by obtain ⟨s1, a2⟩ := s; exact reflect_sum_v7_s10 n_0 v_1 v_2 one_3 one_4 one_5 v_6 one_7 v_8 v_9 one_10 s1 a2) (0, 0))) (fun s3 => by exact Sg.seg (C := C0) C0_ok L_reflect_sum_v6_ok 60 ((reflect_sum_v7_l6.drop 3).drop 1) (reflect_sum_v7_n5 s3) (reflect_sum_v7_t11 s3) (fun a : Empty => a.elim) reflect_sum_v7_E [⟨[], [], [4]⟩] (by kernel_rfl))))
    (fun x => by cases x with | r0 a4 => exact ⟨.inr rfl, [.flt false a4], [], by kernel_rfl, trivial, by kernel_rfl⟩) h

def reflect_sum_v7_i0 : Option reflect_sum_v7_X → Bool
  | some _ => true
  | none => false
def reflect_sum_v7_p0_0 : Option reflect_sum_v7_X → Nat
  | some (.r0 x) => x
  | _ => 0
theorem reflect_sum_v7_e0 {x : Option reflect_sum_v7_X} (h : reflect_sum_v7_i0 x = true) : x = some (.r0 (reflect_sum_v7_p0_0 x)) := by
  unfold reflect_sum_v7_i0 at h
  split at h <;> first | rfl | (cases h; done) | (rename_i y; cases y; rfl)
noncomputable def e_reflect_sum_v7 : Entry := autoE n_reflect_sum (.cons (.int .i64) (.cons (.fn n_reflect_Block_3 .nil (.cons (.ivs (.cons (.cols [.cfl, .cf]) .nil) 1 0 0) (.cons (.ivs (.cons (.int .i64) .nil) 1 0 0) (.cons (.ivs (.cons .fl .nil) 1 0 0) .nil)))) .nil)) fun t => [⟨reflect_sum_v7_o (.r0 (reflect_sum_v7_p0_0 (reflect_sum_v7_F t.1 t.2.1.2.1.2.1.2.1 t.2.1.2.1.2.1.2.2.1 t.2.1.2.2.1.2.1 t.2.1.2.2.2.1.2.1.2))), [reflect_sum_v7_i0 (reflect_sum_v7_F t.1 t.2.1.2.1.2.1.2.1 t.2.1.2.1.2.1.2.2.1 t.2.1.2.2.1.2.1 t.2.1.2.2.2.1.2.1.2)]⟩]
theorem e_reflect_sum_v7_ok : EntryOk prog e_reflect_sum_v7 := autoE_ok fun t => (altsCons (fun h => reflect_sum_v7_ok t.1 t.2.1.2.1.1 t.2.1.2.1.2.1.1 t.2.1.2.1.2.1.2.1 t.2.1.2.1.2.1.2.2.1 t.2.1.2.1.2.1.2.2.2.1 t.2.1.2.2.1.1 t.2.1.2.2.1.2.1 t.2.1.2.2.2.1.1 t.2.1.2.2.2.1.2.1.1 t.2.1.2.2.2.1.2.1.2 (reflect_sum_v7_e0 h)) altsNil)
noncomputable def L_reflect_sum_v7 : List Entry := e_reflect_sum_v7 :: L_reflect_sum_v6
theorem L_reflect_sum_v7_ok : SumsOk prog (sumsOf L_reflect_sum_v7) := sumsOf_cons e_reflect_sum_v7_ok L_reflect_sum_v6_ok

end
end Go.Plb.Seat

/-
  PLAIN: what trees and loops come to; sums and lists that are filled. No program in sight.
-/
namespace Go.Plb
set_option linter.unusedSimpArgs false
set_option linter.unusedVariables false

theorem T.nd {α : Type} {b : Bool} {t : T α} {x : Option α} (h : b = true) (k : t.run = x) : (T.need b t).run = x := by subst h; exact k
theorem T.at {α : Type} {b : Bool} {t f : T α} {x : Option α} (h : b = true) (k : t.run = x) : (T.ask b t f).run = x := by subst h; exact k
theorem T.af {α : Type} {b : Bool} {t f : T α} {x : Option α} (h : b = false) (k : f.run = x) : (T.ask b t f).run = x := by subst h; exact k
theorem T.a0 {α : Type} {k : Nat} {t f : T α} {a : α} (h : t.run = some a) : (T.alt k t f).run = some a := by simp only [T.run, h]
theorem T.a1 {α : Type} {k : Nat} {t f : T α} {x : Option α} (h : t.run = none) (q : f.run = x) : (T.alt k t f).run = x := by simp only [T.run, h]; exact q
theorem T.nf {α : Type} {b : Bool} {t : T α} (h : b = false) : (T.need b t).run = none := by subst h; rfl

theorem seqM_in {α β X : Type} {m : Option (α ⊕ X)} {k : α → Option (β ⊕ X)} {a : α} {x : Option (β ⊕ X)} (h : m = some (.inl a)) (q : k a = x) : seqM m k = x := by subst h; exact q
theorem seqM_out {α β X : Type} {m : Option (α ⊕ X)} {k : α → Option (β ⊕ X)} {y : X} (h : m = some (.inr y)) : seqM m k = some (.inr y) := by subst h; rfl
theorem joinM_in {κ X : Type} {m : Option (κ ⊕ (κ ⊕ X))} {a : κ} (h : m = some (.inl a)) : joinM m = some (.inl a) := by subst h; rfl
theorem joinM_mid {κ X : Type} {m : Option (κ ⊕ (κ ⊕ X))} {a : κ} (h : m = some (.inr (.inl a))) : joinM m = some (.inl a) := by subst h; rfl
theorem joinM_out {κ X : Type} {m : Option (κ ⊕ (κ ⊕ X))} {a : X} (h : m = some (.inr (.inr a))) : joinM m = some (.inr a) := by subst h; rfl
theorem toX_of {X : Type} {m : Option (Empty ⊕ X)} {x : X} (h : m = some (.inr x)) : toX m = some x := by subst h; rfl

/-- A loop whose states are told by a count. -/
theorem loopM_for {σ Y : Type} {B : σ → Option (σ ⊕ Y)} (st : Nat → σ) (n : Nat) {y : Y} (i : Nat) (hi : i ≤ n) (step : ∀ j, i ≤ j → j < n → B (st j) = some (.inl (st (j + 1)))) (done : B (st n) = some (.inr y)) : loopM B (st i) = some y := by
  obtain ⟨d, rfl⟩ : ∃ d, n = i + d := ⟨n - i, by omega⟩
  clear hi
  induction d generalizing i with
  | zero => exact loopM_out done
  | succ d ih =>
    rw [loopM_on (step i (Nat.le_refl _) (by omega))]
    have e : i + (d + 1) = i + 1 + d := by omega
    rw [e] at step done
    exact ih (i + 1) (fun j h1 h2 => step j (by omega) h2) done

theorem loopM_at {σ Y : Type} {B : σ → Option (σ ⊕ Y)} (st : Nat → σ) (n : Nat) {y : Y} {s0 : σ} (h0 : s0 = st 0) (step : ∀ j, j < n → B (st j) = some (.inl (st (j + 1)))) (done : B (st n) = some (.inr y)) : loopM B s0 = some y := by
  rw [h0]; exact loopM_for st n 0 (Nat.zero_le _) (fun j _ => step j) done

theorem inK_i64 {n : Int} : inK .i64 n = true ↔ -9223372036854775808 ≤ n ∧ n ≤ 9223372036854775807 := by
  have e1 : IntKind.i64.min = -9223372036854775808 := by decide
  have e2 : IntKind.i64.max = 9223372036854775807 := by decide
  simp only [inK, e1, e2, Bool.and_eq_true, decide_eq_true_eq]
theorem inB_i {k : Int} {n : Nat} : inB k n = true ↔ 0 ≤ k ∧ k < n := by simp only [inB, Bool.and_eq_true, decide_eq_true_eq]
theorem leB_i {k : Int} {n : Nat} : leB k n = true ↔ 0 ≤ k ∧ k ≤ n := by simp only [leB, Bool.and_eq_true, decide_eq_true_eq]
theorem ltB_iff {k n : Nat} : ltB k n = true ↔ k < n := by simp [ltB]
theorem leN_iff {k n : Nat} : leN k n = true ↔ k ≤ n := by simp [leN]
theorem ble_iff {k n : Nat} : Nat.ble k n = true ↔ k ≤ n := by rw [Nat.ble_eq]
theorem blt_iff {k n : Nat} : Nat.blt k n = true ↔ k < n := by rw [Nat.blt_eq]

/-- A sum from the first one on. -/
def sumF (f : Nat → Nat) : Nat → Nat
  | 0 => 0
  | n + 1 => fadd (sumF f n) (f n)
theorem sumF_congr {f g : Nat → Nat} : ∀ {n : Nat}, (∀ i, i < n → f i = g i) → sumF f n = sumF g n
  | 0, _ => rfl
  | n + 1, h => by simp only [sumF]; rw [sumF_congr fun i hi => h i (by omega), h n (by omega)]

/-- The first n places filled. -/
def setF {α : Type} (pos : Nat → Nat) (val : Nat → α) (l : List α) : Nat → List α
  | 0 => l
  | n + 1 => (setF pos val l n).set (pos n) (val n)
theorem setF_len {α : Type} {pos : Nat → Nat} {val : Nat → α} {l : List α} : ∀ {n : Nat}, (setF pos val l n).length = l.length
  | 0 => rfl
  | n + 1 => by simp only [setF, List.length_set]; exact setF_len
theorem setF_other {α : Type} {pos : Nat → Nat} {val : Nat → α} {l : List α} {p : Nat} {d : α} : ∀ {n : Nat}, (∀ i, i < n → pos i ≠ p) → (setF pos val l n).getD p d = l.getD p d
  | 0, _ => rfl
  | n + 1, h => by
    have h1 := h n (by omega)
    simp only [setF, List.getD_eq_getElem?_getD, List.getElem?_set, if_neg h1]
    have := setF_other (pos := pos) (val := val) (l := l) (p := p) (d := d) (n := n) (fun i hi => h i (by omega))
    simpa [List.getD_eq_getElem?_getD] using this
theorem setF_congr {α : Type} {pos pos' : Nat → Nat} {val val' : Nat → α} {l : List α} : ∀ {n : Nat}, (∀ i, i < n → pos i = pos' i) → (∀ i, i < n → val i = val' i) → setF pos val l n = setF pos' val' l n
  | 0, _, _ => rfl
  | n + 1, h, k => by simp only [setF]; rw [setF_congr (fun i hi => h i (by omega)) (fun i hi => k i (by omega)), h n (by omega), k n (by omega)]

/-- Something done n times. -/
def iterF {α : Type} (f : Nat → α → α) (a : α) : Nat → α
  | 0 => a
  | n + 1 => f n (iterF f a n)

theorem idx_lt {i k r c : Nat} (hi : i < r) (hk : k < c) : i * c + k < r * c := by
  have : (i + 1) * c ≤ r * c := Nat.mul_le_mul_right c hi
  rw [Nat.add_mul, Nat.one_mul] at this
  omega
theorem idx_inj {i k i' k' c : Nat} (hk : k < c) (hk' : k' < c) (h : i * c + k = i' * c + k') : i = i' ∧ k = k' := by
  have hc : 0 < c := by omega
  have e1 : (i * c + k) / c = i := by rw [Nat.mul_comm, Nat.mul_add_div hc, Nat.div_eq_of_lt hk, Nat.add_zero]
  have e2 : (i' * c + k') / c = i' := by rw [Nat.mul_comm, Nat.mul_add_div hc, Nat.div_eq_of_lt hk', Nat.add_zero]
  have e : i = i' := by rw [← e1, ← e2, h]
  subst e
  exact ⟨rfl, by omega⟩
theorem slOk_all {α : Type} (l : List α) : slOk 0 l.length l = true := by rw [slOk_iff]; omega
theorem leN_self (n : Nat) : leN n n = true := by rw [leN_iff]; exact Nat.le_refl n

/-- An entry of a matrix, by its numbers, is there. -/
structure Idx (e1 e2 e3 : Int) (L p : Nat) : Prop where
  a : inK .i64 e1 = true
  b : inK .i64 e2 = true
  c : inK .i64 e3 = true
  d : inB e3 L = true
  e : ltB (Int.toNat e3) L = true
  f : Int.toNat e3 = p
theorem idxOb {x c k L : Nat} (h : x * c + k < L) (hL : L ≤ 1000000000) (hx : x ≤ 1000000000) : Idx (x : Int) ((x : Int) * (c : Int)) ((x : Int) * (c : Int) + (k : Int)) L (x * c + k) := by
  have e : (x : Int) * (c : Int) = ((x * c : Nat) : Int) := by rw [Int.natCast_mul]
  rw [e]
  generalize x * c = q at h ⊢
  have e3 : ((q : Int) + (k : Int)).toNat = q + k := by omega
  refine ⟨?_, ?_, ?_, ?_, ?_, e3⟩
  · rw [inK_i64]; omega
  · rw [inK_i64]; omega
  · rw [inK_i64]; omega
  · rw [inB_i]; omega
  · rw [ltB_iff]; omega
theorem cutL_to {α : Type} {n : Nat} {l : List α} (h : l.length = n) : cutL 0 n l = l := by rw [← h]; exact cutL_all l
theorem cut_ok (n : Nat) : Nat.ble (0 + n) n = true := by rw [Nat.ble_eq]; omega
theorem first_bad {p : Nat → Prop} [DecidablePred p] : ∀ {n : Nat}, (¬ ∀ i, i < n → p i) → ∃ k, k < n ∧ ¬ p k ∧ ∀ j, j < k → p j
  | 0, h => (h fun i hi => absurd hi (Nat.not_lt_zero _)).elim
  | n + 1, h => by
    by_cases q : ∀ i, i < n → p i
    · refine ⟨n, Nat.lt_succ_self _, fun r => h fun i hi => ?_, q⟩
      rcases Nat.lt_succ_iff_lt_or_eq.1 hi with a | rfl
      · exact q i a
      · exact r
    · obtain ⟨k, h1, h2, h3⟩ := first_bad q
      exact ⟨k, by omega, h2, h3⟩
theorem setF_at {α : Type} {val : Nat → α} {l : List α} {d : α} {i : Nat} : ∀ {n : Nat}, i < n → n ≤ l.length → (setF (fun i => i) val l n).getD i d = val i
  | 0, h, _ => absurd h (Nat.not_lt_zero _)
  | n + 1, h, hl => by
    simp only [setF, List.getD_eq_getElem?_getD, List.getElem?_set, setF_len]
    by_cases e : n = i
    · subst e; rw [if_pos rfl, if_pos (by omega)]; rfl
    · rw [if_neg e]
      have := setF_at (val := val) (l := l) (d := d) (i := i) (n := n) (by omega) (by omega)
      simpa [List.getD_eq_getElem?_getD] using this
theorem cutL_len_all {α : Type} (l : List α) : (cutL 0 l.length l).length = l.length := by rw [cutL_all]
theorem toNat_cast (n : Nat) : Int.toNat (n : Int) = n := rfl
end Go.Plb

/-
  PLAIN: layer 9's parts.
-/
namespace Go.Plb.Seat
open Go Go.Plb
set_option linter.unusedSimpArgs false
set_option linter.unusedVariables false

theorem addc (a b : Nat) : (a : Int) + (b : Int) = ((a + b : Nat) : Int) := rfl

theorem sum1_spec {c at_ k n : Nat} {vs xs : List Nat} (hn : n ≤ vs.length) (hi : ∀ i, i < n → (at_ + i) * c + k < xs.length) (hL : xs.length ≤ 1000000000) (hx : at_ + n ≤ 1000000000) :
    reflect_sum_F (n : Int) vs (c : Int) xs (at_ : Int) (k : Int) = some (.r0 (sumF (fun i => fmul (vs.getD i 0) (xs.getD ((at_ + i) * c + k) 0)) n)) := by
  refine toX_of (seqM_in rfl (seqM_in (loopM_at (fun j => (sumF (fun i => fmul (vs.getD i 0) (xs.getD ((at_ + i) * c + k) 0)) j, j)) n rfl (fun j hj => ?_) ?_) rfl))
  · have h := idxOb (x := at_ + j) (hi j hj) hL (by omega)
    show (reflect_sum_t9 _ _ _ _ _ _ _ _).run = _
    unfold reflect_sum_t9
    rw [addc]
    refine T.at (by simp only [inK_i64, inB_i, leB_i, ltB_iff, leN_iff, slOk_iff, ble_iff, blt_iff, decide_eq_true_eq, decide_eq_false_iff_not, beq_iff_eq, beq_eq_false_iff_ne, bne_iff_ne, bne_eq_false_iff_eq, Bool.not_eq_true', Bool.not_eq_false', List.length_set, ne_eq, ge_iff_le, gt_iff_lt, setF_len, toNat_cast, lenOk]; omega) (T.nd (by simp only [inK_i64, inB_i, leB_i, ltB_iff, leN_iff, slOk_iff, ble_iff, blt_iff, decide_eq_true_eq, decide_eq_false_iff_not, beq_iff_eq, beq_eq_false_iff_ne, bne_iff_ne, bne_eq_false_iff_eq, Bool.not_eq_true', Bool.not_eq_false', List.length_set, ne_eq, ge_iff_le, gt_iff_lt, setF_len, toNat_cast, lenOk]; omega) (T.nd (by simp only [inK_i64, inB_i, leB_i, ltB_iff, leN_iff, slOk_iff, ble_iff, blt_iff, decide_eq_true_eq, decide_eq_false_iff_not, beq_iff_eq, beq_eq_false_iff_ne, bne_iff_ne, bne_eq_false_iff_eq, Bool.not_eq_true', Bool.not_eq_false', List.length_set, ne_eq, ge_iff_le, gt_iff_lt, setF_len, toNat_cast, lenOk]; omega) (T.nd h.a (T.nd h.b (T.nd h.c (T.nd h.d (T.nd h.e (T.nd (by simp only [inK_i64, inB_i, leB_i, ltB_iff, leN_iff, slOk_iff, ble_iff, blt_iff, decide_eq_true_eq, decide_eq_false_iff_not, beq_iff_eq, beq_eq_false_iff_ne, bne_iff_ne, bne_eq_false_iff_eq, Bool.not_eq_true', Bool.not_eq_false', List.length_set, ne_eq, ge_iff_le, gt_iff_lt, setF_len, toNat_cast, lenOk]; omega) ?_))))))))
    rw [h.f]; rfl
  · exact T.af (by simp only [inK_i64, inB_i, leB_i, ltB_iff, leN_iff, slOk_iff, ble_iff, blt_iff, decide_eq_true_eq, decide_eq_false_iff_not, beq_iff_eq, beq_eq_false_iff_ne, bne_iff_ne, bne_eq_false_iff_eq, Bool.not_eq_true', Bool.not_eq_false', List.length_set, ne_eq, ge_iff_le, gt_iff_lt, setF_len, toNat_cast, lenOk]; omega) rfl

theorem sum2_spec {c i at_ n : Nat} {vs xs : List Nat} (hn : n ≤ vs.length) (hi : ∀ j, j < n → i * c + (at_ + j) < xs.length) (hL : xs.length ≤ 1000000000) (hx : i ≤ 1000000000) (hn' : n ≤ 1000000000) :
    reflect_sum_v2_F (n : Int) (c : Int) xs (i : Int) (at_ : Int) vs = some (.r0 (sumF (fun j => fmul (xs.getD (i * c + (at_ + j)) 0) (vs.getD j 0)) n)) := by
  refine toX_of (seqM_in rfl (seqM_in (loopM_at (fun j => (sumF (fun j => fmul (xs.getD (i * c + (at_ + j)) 0) (vs.getD j 0)) j, j)) n rfl (fun j hj => ?_) ?_) rfl))
  · have h := idxOb (x := i) (hi j hj) hL (by omega)
    have h' := idxOb (x := i) (c := c) (k := at_) (L := xs.length) (by have := hi j hj; omega) hL (by omega)
    show (reflect_sum_v2_t9 _ _ _ _ _ _ _ _).run = _
    unfold reflect_sum_v2_t9
    rw [Int.add_assoc, addc]
    refine T.at (by simp only [inK_i64, inB_i, leB_i, ltB_iff, leN_iff, slOk_iff, ble_iff, blt_iff, decide_eq_true_eq, decide_eq_false_iff_not, beq_iff_eq, beq_eq_false_iff_ne, bne_iff_ne, bne_eq_false_iff_eq, Bool.not_eq_true', Bool.not_eq_false', List.length_set, ne_eq, ge_iff_le, gt_iff_lt, setF_len, toNat_cast, lenOk]; omega) (T.nd h.b (T.nd h'.c (T.nd h.c (T.nd h.d (T.nd h.e (T.nd (by simp only [inK_i64, inB_i, leB_i, ltB_iff, leN_iff, slOk_iff, ble_iff, blt_iff, decide_eq_true_eq, decide_eq_false_iff_not, beq_iff_eq, beq_eq_false_iff_ne, bne_iff_ne, bne_eq_false_iff_eq, Bool.not_eq_true', Bool.not_eq_false', List.length_set, ne_eq, ge_iff_le, gt_iff_lt, setF_len, toNat_cast, lenOk]; omega) (T.nd (by simp only [inK_i64, inB_i, leB_i, ltB_iff, leN_iff, slOk_iff, ble_iff, blt_iff, decide_eq_true_eq, decide_eq_false_iff_not, beq_iff_eq, beq_eq_false_iff_ne, bne_iff_ne, bne_eq_false_iff_eq, Bool.not_eq_true', Bool.not_eq_false', List.length_set, ne_eq, ge_iff_le, gt_iff_lt, setF_len, toNat_cast, lenOk]; omega) (T.nd (by simp only [inK_i64, inB_i, leB_i, ltB_iff, leN_iff, slOk_iff, ble_iff, blt_iff, decide_eq_true_eq, decide_eq_false_iff_not, beq_iff_eq, beq_eq_false_iff_ne, bne_iff_ne, bne_eq_false_iff_eq, Bool.not_eq_true', Bool.not_eq_false', List.length_set, ne_eq, ge_iff_le, gt_iff_lt, setF_len, toNat_cast, lenOk]; omega) ?_))))))))
    rw [h.f]; rfl
  · exact T.af (by simp only [inK_i64, inB_i, leB_i, ltB_iff, leN_iff, slOk_iff, ble_iff, blt_iff, decide_eq_true_eq, decide_eq_false_iff_not, beq_iff_eq, beq_eq_false_iff_ne, bne_iff_ne, bne_eq_false_iff_eq, Bool.not_eq_true', Bool.not_eq_false', List.length_set, ne_eq, ge_iff_le, gt_iff_lt, setF_len, toNat_cast, lenOk]; omega) rfl

/-- May it be a matrix? -/
def mayB (a b : Int) (n : Nat) : Bool := decide (0 ≤ a) && (decide (a ≤ 512) && (decide (0 ≤ b) && (decide (b ≤ 512) && ((n : Int) == a * b))))
theorem mul_bd {a b : Int} (h1 : 0 ≤ a) (h2 : a ≤ 512) (h3 : 0 ≤ b) (h4 : b ≤ 512) : 0 ≤ a * b ∧ a * b ≤ 262144 :=
  ⟨Int.mul_nonneg h1 h3, Int.le_trans (Int.mul_le_mul h2 h4 h3 (by omega)) (by omega)⟩
theorem may_spec (a b : Int) (xs : List Nat) : reflect_may_F a b xs = some (.r0 (mayB a b xs.length)) := by
  refine toX_of (seqM_in (a := mayB a b xs.length) ?_ rfl)
  unfold reflect_may_t3 mayB
  by_cases h1 : 0 ≤ a
  · by_cases h2 : a ≤ 512
    · by_cases h3 : 0 ≤ b
      · by_cases h4 : b ≤ 512
        · have := mul_bd h1 h2 h3 h4
          refine T.at (by simp only [inK_i64, inB_i, leB_i, ltB_iff, leN_iff, slOk_iff, ble_iff, blt_iff, decide_eq_true_eq, decide_eq_false_iff_not, beq_iff_eq, beq_eq_false_iff_ne, bne_iff_ne, bne_eq_false_iff_eq, Bool.not_eq_true', Bool.not_eq_false', List.length_set, ne_eq, ge_iff_le, gt_iff_lt, setF_len, toNat_cast, lenOk]; omega) (T.at (by simp only [inK_i64, inB_i, leB_i, ltB_iff, leN_iff, slOk_iff, ble_iff, blt_iff, decide_eq_true_eq, decide_eq_false_iff_not, beq_iff_eq, beq_eq_false_iff_ne, bne_iff_ne, bne_eq_false_iff_eq, Bool.not_eq_true', Bool.not_eq_false', List.length_set, ne_eq, ge_iff_le, gt_iff_lt, setF_len, toNat_cast, lenOk]; omega) (T.at (by simp only [inK_i64, inB_i, leB_i, ltB_iff, leN_iff, slOk_iff, ble_iff, blt_iff, decide_eq_true_eq, decide_eq_false_iff_not, beq_iff_eq, beq_eq_false_iff_ne, bne_iff_ne, bne_eq_false_iff_eq, Bool.not_eq_true', Bool.not_eq_false', List.length_set, ne_eq, ge_iff_le, gt_iff_lt, setF_len, toNat_cast, lenOk]; omega) (T.at (by simp only [inK_i64, inB_i, leB_i, ltB_iff, leN_iff, slOk_iff, ble_iff, blt_iff, decide_eq_true_eq, decide_eq_false_iff_not, beq_iff_eq, beq_eq_false_iff_ne, bne_iff_ne, bne_eq_false_iff_eq, Bool.not_eq_true', Bool.not_eq_false', List.length_set, ne_eq, ge_iff_le, gt_iff_lt, setF_len, toNat_cast, lenOk]; omega) (T.nd (by rw [inK_i64]; omega) ?_))))
          simp only [h1, h2, h3, h4, decide_true, Bool.true_and]; rfl
        · refine T.at (by simp only [inK_i64, inB_i, leB_i, ltB_iff, leN_iff, slOk_iff, ble_iff, blt_iff, decide_eq_true_eq, decide_eq_false_iff_not, beq_iff_eq, beq_eq_false_iff_ne, bne_iff_ne, bne_eq_false_iff_eq, Bool.not_eq_true', Bool.not_eq_false', List.length_set, ne_eq, ge_iff_le, gt_iff_lt, setF_len, toNat_cast, lenOk]; omega) (T.at (by simp only [inK_i64, inB_i, leB_i, ltB_iff, leN_iff, slOk_iff, ble_iff, blt_iff, decide_eq_true_eq, decide_eq_false_iff_not, beq_iff_eq, beq_eq_false_iff_ne, bne_iff_ne, bne_eq_false_iff_eq, Bool.not_eq_true', Bool.not_eq_false', List.length_set, ne_eq, ge_iff_le, gt_iff_lt, setF_len, toNat_cast, lenOk]; omega) (T.at (by simp only [inK_i64, inB_i, leB_i, ltB_iff, leN_iff, slOk_iff, ble_iff, blt_iff, decide_eq_true_eq, decide_eq_false_iff_not, beq_iff_eq, beq_eq_false_iff_ne, bne_iff_ne, bne_eq_false_iff_eq, Bool.not_eq_true', Bool.not_eq_false', List.length_set, ne_eq, ge_iff_le, gt_iff_lt, setF_len, toNat_cast, lenOk]; omega) (T.af (by simp only [inK_i64, inB_i, leB_i, ltB_iff, leN_iff, slOk_iff, ble_iff, blt_iff, decide_eq_true_eq, decide_eq_false_iff_not, beq_iff_eq, beq_eq_false_iff_ne, bne_iff_ne, bne_eq_false_iff_eq, Bool.not_eq_true', Bool.not_eq_false', List.length_set, ne_eq, ge_iff_le, gt_iff_lt, setF_len, toNat_cast, lenOk]; omega) ?_)))
          simp only [h1, h2, h3, h4, decide_true, decide_false, Bool.true_and, Bool.false_and]; rfl
      · refine T.at (by simp only [inK_i64, inB_i, leB_i, ltB_iff, leN_iff, slOk_iff, ble_iff, blt_iff, decide_eq_true_eq, decide_eq_false_iff_not, beq_iff_eq, beq_eq_false_iff_ne, bne_iff_ne, bne_eq_false_iff_eq, Bool.not_eq_true', Bool.not_eq_false', List.length_set, ne_eq, ge_iff_le, gt_iff_lt, setF_len, toNat_cast, lenOk]; omega) (T.at (by simp only [inK_i64, inB_i, leB_i, ltB_iff, leN_iff, slOk_iff, ble_iff, blt_iff, decide_eq_true_eq, decide_eq_false_iff_not, beq_iff_eq, beq_eq_false_iff_ne, bne_iff_ne, bne_eq_false_iff_eq, Bool.not_eq_true', Bool.not_eq_false', List.length_set, ne_eq, ge_iff_le, gt_iff_lt, setF_len, toNat_cast, lenOk]; omega) (T.af (by simp only [inK_i64, inB_i, leB_i, ltB_iff, leN_iff, slOk_iff, ble_iff, blt_iff, decide_eq_true_eq, decide_eq_false_iff_not, beq_iff_eq, beq_eq_false_iff_ne, bne_iff_ne, bne_eq_false_iff_eq, Bool.not_eq_true', Bool.not_eq_false', List.length_set, ne_eq, ge_iff_le, gt_iff_lt, setF_len, toNat_cast, lenOk]; omega) ?_))
        simp only [h1, h2, h3, decide_true, decide_false, Bool.true_and, Bool.false_and]; rfl
    · refine T.at (by simp only [inK_i64, inB_i, leB_i, ltB_iff, leN_iff, slOk_iff, ble_iff, blt_iff, decide_eq_true_eq, decide_eq_false_iff_not, beq_iff_eq, beq_eq_false_iff_ne, bne_iff_ne, bne_eq_false_iff_eq, Bool.not_eq_true', Bool.not_eq_false', List.length_set, ne_eq, ge_iff_le, gt_iff_lt, setF_len, toNat_cast, lenOk]; omega) (T.af (by simp only [inK_i64, inB_i, leB_i, ltB_iff, leN_iff, slOk_iff, ble_iff, blt_iff, decide_eq_true_eq, decide_eq_false_iff_not, beq_iff_eq, beq_eq_false_iff_ne, bne_iff_ne, bne_eq_false_iff_eq, Bool.not_eq_true', Bool.not_eq_false', List.length_set, ne_eq, ge_iff_le, gt_iff_lt, setF_len, toNat_cast, lenOk]; omega) ?_)
      simp only [h1, h2, decide_true, decide_false, Bool.true_and, Bool.false_and]; rfl
  · refine T.af (by simp only [inK_i64, inB_i, leB_i, ltB_iff, leN_iff, slOk_iff, ble_iff, blt_iff, decide_eq_true_eq, decide_eq_false_iff_not, beq_iff_eq, beq_eq_false_iff_ne, bne_iff_ne, bne_eq_false_iff_eq, Bool.not_eq_true', Bool.not_eq_false', List.length_set, ne_eq, ge_iff_le, gt_iff_lt, setF_len, toNat_cast, lenOk]; omega) ?_
    simp only [h1, decide_true, decide_false, Bool.true_and, Bool.false_and]; rfl
theorem May_spec (a b : Int) (xs : List Nat) : ref09_May_F a b xs = some (.r0 (mayB a b xs.length)) := by
  refine toX_of (seqM_in (a := mayB a b xs.length) ?_ rfl)
  unfold ref09_May_t3 mayB
  by_cases h1 : 0 ≤ a
  · by_cases h2 : a ≤ 512
    · by_cases h3 : 0 ≤ b
      · by_cases h4 : b ≤ 512
        · have := mul_bd h1 h2 h3 h4
          refine T.at (by simp only [inK_i64, inB_i, leB_i, ltB_iff, leN_iff, slOk_iff, ble_iff, blt_iff, decide_eq_true_eq, decide_eq_false_iff_not, beq_iff_eq, beq_eq_false_iff_ne, bne_iff_ne, bne_eq_false_iff_eq, Bool.not_eq_true', Bool.not_eq_false', List.length_set, ne_eq, ge_iff_le, gt_iff_lt, setF_len, toNat_cast, lenOk]; omega) (T.at (by simp only [inK_i64, inB_i, leB_i, ltB_iff, leN_iff, slOk_iff, ble_iff, blt_iff, decide_eq_true_eq, decide_eq_false_iff_not, beq_iff_eq, beq_eq_false_iff_ne, bne_iff_ne, bne_eq_false_iff_eq, Bool.not_eq_true', Bool.not_eq_false', List.length_set, ne_eq, ge_iff_le, gt_iff_lt, setF_len, toNat_cast, lenOk]; omega) (T.at (by simp only [inK_i64, inB_i, leB_i, ltB_iff, leN_iff, slOk_iff, ble_iff, blt_iff, decide_eq_true_eq, decide_eq_false_iff_not, beq_iff_eq, beq_eq_false_iff_ne, bne_iff_ne, bne_eq_false_iff_eq, Bool.not_eq_true', Bool.not_eq_false', List.length_set, ne_eq, ge_iff_le, gt_iff_lt, setF_len, toNat_cast, lenOk]; omega) (T.at (by simp only [inK_i64, inB_i, leB_i, ltB_iff, leN_iff, slOk_iff, ble_iff, blt_iff, decide_eq_true_eq, decide_eq_false_iff_not, beq_iff_eq, beq_eq_false_iff_ne, bne_iff_ne, bne_eq_false_iff_eq, Bool.not_eq_true', Bool.not_eq_false', List.length_set, ne_eq, ge_iff_le, gt_iff_lt, setF_len, toNat_cast, lenOk]; omega) (T.nd (by rw [inK_i64]; omega) ?_))))
          simp only [h1, h2, h3, h4, decide_true, Bool.true_and]; rfl
        · refine T.at (by simp only [inK_i64, inB_i, leB_i, ltB_iff, leN_iff, slOk_iff, ble_iff, blt_iff, decide_eq_true_eq, decide_eq_false_iff_not, beq_iff_eq, beq_eq_false_iff_ne, bne_iff_ne, bne_eq_false_iff_eq, Bool.not_eq_true', Bool.not_eq_false', List.length_set, ne_eq, ge_iff_le, gt_iff_lt, setF_len, toNat_cast, lenOk]; omega) (T.at (by simp only [inK_i64, inB_i, leB_i, ltB_iff, leN_iff, slOk_iff, ble_iff, blt_iff, decide_eq_true_eq, decide_eq_false_iff_not, beq_iff_eq, beq_eq_false_iff_ne, bne_iff_ne, bne_eq_false_iff_eq, Bool.not_eq_true', Bool.not_eq_false', List.length_set, ne_eq, ge_iff_le, gt_iff_lt, setF_len, toNat_cast, lenOk]; omega) (T.at (by simp only [inK_i64, inB_i, leB_i, ltB_iff, leN_iff, slOk_iff, ble_iff, blt_iff, decide_eq_true_eq, decide_eq_false_iff_not, beq_iff_eq, beq_eq_false_iff_ne, bne_iff_ne, bne_eq_false_iff_eq, Bool.not_eq_true', Bool.not_eq_false', List.length_set, ne_eq, ge_iff_le, gt_iff_lt, setF_len, toNat_cast, lenOk]; omega) (T.af (by simp only [inK_i64, inB_i, leB_i, ltB_iff, leN_iff, slOk_iff, ble_iff, blt_iff, decide_eq_true_eq, decide_eq_false_iff_not, beq_iff_eq, beq_eq_false_iff_ne, bne_iff_ne, bne_eq_false_iff_eq, Bool.not_eq_true', Bool.not_eq_false', List.length_set, ne_eq, ge_iff_le, gt_iff_lt, setF_len, toNat_cast, lenOk]; omega) ?_)))
          simp only [h1, h2, h3, h4, decide_true, decide_false, Bool.true_and, Bool.false_and]; rfl
      · refine T.at (by simp only [inK_i64, inB_i, leB_i, ltB_iff, leN_iff, slOk_iff, ble_iff, blt_iff, decide_eq_true_eq, decide_eq_false_iff_not, beq_iff_eq, beq_eq_false_iff_ne, bne_iff_ne, bne_eq_false_iff_eq, Bool.not_eq_true', Bool.not_eq_false', List.length_set, ne_eq, ge_iff_le, gt_iff_lt, setF_len, toNat_cast, lenOk]; omega) (T.at (by simp only [inK_i64, inB_i, leB_i, ltB_iff, leN_iff, slOk_iff, ble_iff, blt_iff, decide_eq_true_eq, decide_eq_false_iff_not, beq_iff_eq, beq_eq_false_iff_ne, bne_iff_ne, bne_eq_false_iff_eq, Bool.not_eq_true', Bool.not_eq_false', List.length_set, ne_eq, ge_iff_le, gt_iff_lt, setF_len, toNat_cast, lenOk]; omega) (T.af (by simp only [inK_i64, inB_i, leB_i, ltB_iff, leN_iff, slOk_iff, ble_iff, blt_iff, decide_eq_true_eq, decide_eq_false_iff_not, beq_iff_eq, beq_eq_false_iff_ne, bne_iff_ne, bne_eq_false_iff_eq, Bool.not_eq_true', Bool.not_eq_false', List.length_set, ne_eq, ge_iff_le, gt_iff_lt, setF_len, toNat_cast, lenOk]; omega) ?_))
        simp only [h1, h2, h3, decide_true, decide_false, Bool.true_and, Bool.false_and]; rfl
    · refine T.at (by simp only [inK_i64, inB_i, leB_i, ltB_iff, leN_iff, slOk_iff, ble_iff, blt_iff, decide_eq_true_eq, decide_eq_false_iff_not, beq_iff_eq, beq_eq_false_iff_ne, bne_iff_ne, bne_eq_false_iff_eq, Bool.not_eq_true', Bool.not_eq_false', List.length_set, ne_eq, ge_iff_le, gt_iff_lt, setF_len, toNat_cast, lenOk]; omega) (T.af (by simp only [inK_i64, inB_i, leB_i, ltB_iff, leN_iff, slOk_iff, ble_iff, blt_iff, decide_eq_true_eq, decide_eq_false_iff_not, beq_iff_eq, beq_eq_false_iff_ne, bne_iff_ne, bne_eq_false_iff_eq, Bool.not_eq_true', Bool.not_eq_false', List.length_set, ne_eq, ge_iff_le, gt_iff_lt, setF_len, toNat_cast, lenOk]; omega) ?_)
      simp only [h1, h2, decide_true, decide_false, Bool.true_and, Bool.false_and]; rfl
  · refine T.af (by simp only [inK_i64, inB_i, leB_i, ltB_iff, leN_iff, slOk_iff, ble_iff, blt_iff, decide_eq_true_eq, decide_eq_false_iff_not, beq_iff_eq, beq_eq_false_iff_ne, bne_iff_ne, bne_eq_false_iff_eq, Bool.not_eq_true', Bool.not_eq_false', List.length_set, ne_eq, ge_iff_le, gt_iff_lt, setF_len, toNat_cast, lenOk]; omega) ?_
    simp only [h1, decide_true, decide_false, Bool.true_and, Bool.false_and]; rfl

theorem SameAll_spec {xs : List Nat} (h : xs.length ≤ 1000000000) : ref06_SameAll_F xs xs = some (.r0 true) := by
  refine toX_of (seqM_in (T.af (by simp) rfl) (seqM_in (a := ()) (loopM_at (fun j => j) xs.length rfl (fun j hj => ?_) ?_) rfl))
  · show (ref06_SameAll_t9 _ _ _).run = _
    exact T.at (by simp only [inK_i64, inB_i, leB_i, ltB_iff, leN_iff, slOk_iff, ble_iff, blt_iff, decide_eq_true_eq, decide_eq_false_iff_not, beq_iff_eq, beq_eq_false_iff_ne, bne_iff_ne, bne_eq_false_iff_eq, Bool.not_eq_true', Bool.not_eq_false', List.length_set, ne_eq, ge_iff_le, gt_iff_lt, setF_len, toNat_cast, lenOk]; omega) (T.nd (by simp only [inK_i64, inB_i, leB_i, ltB_iff, leN_iff, slOk_iff, ble_iff, blt_iff, decide_eq_true_eq, decide_eq_false_iff_not, beq_iff_eq, beq_eq_false_iff_ne, bne_iff_ne, bne_eq_false_iff_eq, Bool.not_eq_true', Bool.not_eq_false', List.length_set, ne_eq, ge_iff_le, gt_iff_lt, setF_len, toNat_cast, lenOk]; omega) (T.nd (by simp only [inK_i64, inB_i, leB_i, ltB_iff, leN_iff, slOk_iff, ble_iff, blt_iff, decide_eq_true_eq, decide_eq_false_iff_not, beq_iff_eq, beq_eq_false_iff_ne, bne_iff_ne, bne_eq_false_iff_eq, Bool.not_eq_true', Bool.not_eq_false', List.length_set, ne_eq, ge_iff_le, gt_iff_lt, setF_len, toNat_cast, lenOk]; omega) (T.nd (by simp only [inK_i64, inB_i, leB_i, ltB_iff, leN_iff, slOk_iff, ble_iff, blt_iff, decide_eq_true_eq, decide_eq_false_iff_not, beq_iff_eq, beq_eq_false_iff_ne, bne_iff_ne, bne_eq_false_iff_eq, Bool.not_eq_true', Bool.not_eq_false', List.length_set, ne_eq, ge_iff_le, gt_iff_lt, setF_len, toNat_cast, lenOk]; omega) (T.nd (by simp only [inK_i64, inB_i, leB_i, ltB_iff, leN_iff, slOk_iff, ble_iff, blt_iff, decide_eq_true_eq, decide_eq_false_iff_not, beq_iff_eq, beq_eq_false_iff_ne, bne_iff_ne, bne_eq_false_iff_eq, Bool.not_eq_true', Bool.not_eq_false', List.length_set, ne_eq, ge_iff_le, gt_iff_lt, setF_len, toNat_cast, lenOk]; omega) (T.af (by rw [sameB_refl]; rfl) (T.nd (by simp only [inK_i64, inB_i, leB_i, ltB_iff, leN_iff, slOk_iff, ble_iff, blt_iff, decide_eq_true_eq, decide_eq_false_iff_not, beq_iff_eq, beq_eq_false_iff_ne, bne_iff_ne, bne_eq_false_iff_eq, Bool.not_eq_true', Bool.not_eq_false', List.length_set, ne_eq, ge_iff_le, gt_iff_lt, setF_len, toNat_cast, lenOk]; omega) rfl))))))
  · exact T.af (by simp only [inK_i64, inB_i, leB_i, ltB_iff, leN_iff, slOk_iff, ble_iff, blt_iff, decide_eq_true_eq, decide_eq_false_iff_not, beq_iff_eq, beq_eq_false_iff_ne, bne_iff_ne, bne_eq_false_iff_eq, Bool.not_eq_true', Bool.not_eq_false', List.length_set, ne_eq, ge_iff_le, gt_iff_lt, setF_len, toNat_cast, lenOk]; omega) rfl
theorem Same_spec {a b : Int} {xs : List Nat} (h : xs.length ≤ 1000000000) : ref09_Same_F a b xs a b xs = some (.r0 true) := by
  refine toX_of (seqM_in (a := true) ?_ rfl)
  unfold ref09_Same_t3
  rw [cutL_all, SameAll_spec h]
  exact T.at (by simp) (T.at (by simp) (T.nd (slOk_all xs) (T.nd (slOk_all xs) (T.nd rfl rfl))))
end Go.Plb.Seat

/-
  PLAIN: rows and columns reflected: the program's way and the document's come to the same.
-/
namespace Go.Plb.Seat
open Go Go.Plb
set_option linter.unusedSimpArgs false
set_option linter.unusedVariables false

/-- Rows reflected, plainly. P: where the entry stands; A: what the sum is of; V: what is taken away of w. -/
def rflW (xs : List Nat) (tau m : Nat) (A : Nat → Nat → Nat) (k : Nat) : Nat := fmul tau (sumF (A k) m)
def rflIn (xs : List Nat) (P : Nat → Nat → Nat) (V : Nat → Nat → Nat) (w k : Nat) (out : List Nat) (n : Nat) : List Nat :=
  setF (P k) (fun i => fsub (xs.getD (P k i) 0) (V i w)) out n
def rflGo (xs : List Nat) (P : Nat → Nat → Nat) (A : Nat → Nat → Nat) (V : Nat → Nat → Nat) (tau m frm : Nat) (n : Nat) : List Nat :=
  iterF (fun j out => rflIn xs P V (rflW xs tau m A (frm + j)) (frm + j) out m) xs n
def rflF (xs : List Nat) (P : Nat → Nat → Nat) (A : Nat → Nat → Nat) (V : Nat → Nat → Nat) (tau m frm n : Nat) : List Nat :=
  bif feq tau 0 then xs else rflGo xs P A V tau m frm n

theorem rflGo_len {xs : List Nat} {P A V : Nat → Nat → Nat} {tau m frm : Nat} : ∀ {n : Nat}, (rflGo xs P A V tau m frm n).length = xs.length
  | 0 => rfl
  | n + 1 => by simp only [rflGo, iterF, rflIn, setF_len]; exact rflGo_len (n := n)
theorem rflF_len {xs : List Nat} {P A V : Nat → Nat → Nat} {tau m frm n : Nat} : (rflF xs P A V tau m frm n).length = xs.length := by
  unfold rflF; cases feq tau 0 <;> simp only [cond_true, cond_false]; exact rflGo_len
theorem rflGo_other {xs : List Nat} {P A V : Nat → Nat → Nat} {tau m frm : Nat} {p : Nat} : ∀ {n : Nat}, (∀ j i, j < n → i < m → P (frm + j) i ≠ p) → (rflGo xs P A V tau m frm n).getD p 0 = xs.getD p 0
  | 0, _ => rfl
  | n + 1, h => by
    simp only [rflGo, iterF, rflIn]
    rw [setF_other fun i hi => h n i (by omega) hi]
    exact rflGo_other (n := n) fun j i hj hi => h j i (by omega) hi

def leP (c at_ : Nat) (k i : Nat) : Nat := (at_ + i) * c + k
def leA (xs vs : List Nat) (c at_ : Nat) (k i : Nat) : Nat := fmul (vs.getD i 0) (xs.getD ((at_ + i) * c + k) 0)
def leV (vs : List Nat) (i w : Nat) : Nat := fmul (vs.getD i 0) w
def leftF (xs vs : List Nat) (c at_ frm tau : Nat) : List Nat := rflF xs (leP c at_) (leA xs vs c at_) (leV vs) tau vs.length frm (c - frm)

theorem Left_in {xs vs out : List Nat} {r c at_ k w n : Nat} (hx : xs.length = r * c) (hk : k < c) (hat : at_ + vs.length ≤ r) (hr : r ≤ 512) (hc : c ≤ 512) (ho : out.length = xs.length) (hn : n = xs.length)
    (hsame : ∀ i, i < vs.length → out.getD (leP c at_ k i) 0 = xs.getD (leP c at_ k i) 0) :
    loopM (reflect_Left_m37 (c : Int) (at_ : Int) vs n (k : Int) w) (0, out) = some (.inl (rflIn xs (leP c at_) (leV vs) w k out vs.length)) := by
  have hL : r * c ≤ 262144 := Nat.mul_le_mul hr hc
  refine loopM_at (fun j => (j, rflIn xs (leP c at_) (leV vs) w k out j)) vs.length rfl (fun j hj => ?_) ?_
  · have hi : (at_ + j) * c + k < xs.length := by rw [hx]; exact idx_lt (by omega) hk
    have h := idxOb (x := at_ + j) hi (by omega) (by omega)
    have hl : (rflIn xs (leP c at_) (leV vs) w k out j).length = xs.length := by unfold rflIn; rw [setF_len, ho]
    show (reflect_Left_t36 _ _ _ _ _ _ _ _).run = _
    unfold reflect_Left_t36
    rw [addc, hl, hn]
    refine T.at (by simp only [inK_i64, inB_i, leB_i, ltB_iff, leN_iff, slOk_iff, ble_iff, blt_iff, decide_eq_true_eq, decide_eq_false_iff_not, beq_iff_eq, beq_eq_false_iff_ne, bne_iff_ne, bne_eq_false_iff_eq, Bool.not_eq_true', Bool.not_eq_false', List.length_set, ne_eq, ge_iff_le, gt_iff_lt, setF_len, toNat_cast, lenOk]; omega) (T.nd (by simp only [inK_i64, inB_i, leB_i, ltB_iff, leN_iff, slOk_iff, ble_iff, blt_iff, decide_eq_true_eq, decide_eq_false_iff_not, beq_iff_eq, beq_eq_false_iff_ne, bne_iff_ne, bne_eq_false_iff_eq, Bool.not_eq_true', Bool.not_eq_false', List.length_set, ne_eq, ge_iff_le, gt_iff_lt, setF_len, toNat_cast, lenOk]; omega) (T.nd (by simp only [inK_i64, inB_i, leB_i, ltB_iff, leN_iff, slOk_iff, ble_iff, blt_iff, decide_eq_true_eq, decide_eq_false_iff_not, beq_iff_eq, beq_eq_false_iff_ne, bne_iff_ne, bne_eq_false_iff_eq, Bool.not_eq_true', Bool.not_eq_false', List.length_set, ne_eq, ge_iff_le, gt_iff_lt, setF_len, toNat_cast, lenOk]; omega) (T.nd h.a (T.nd h.b (T.nd h.c (T.nd h.d (T.nd h.e (T.nd h.d (T.nd h.e (T.nd (by simp only [inK_i64, inB_i, leB_i, ltB_iff, leN_iff, slOk_iff, ble_iff, blt_iff, decide_eq_true_eq, decide_eq_false_iff_not, beq_iff_eq, beq_eq_false_iff_ne, bne_iff_ne, bne_eq_false_iff_eq, Bool.not_eq_true', Bool.not_eq_false', List.length_set, ne_eq, ge_iff_le, gt_iff_lt, setF_len, toNat_cast, lenOk]; omega) ?_))))))))))
    rw [h.f]
    have e : (rflIn xs (leP c at_) (leV vs) w k out j).getD ((at_ + j) * c + k) 0 = xs.getD ((at_ + j) * c + k) 0 := by
      unfold rflIn
      rw [setF_other (fun i hi => ?_)]
      · exact hsame j hj
      · intro q
        have := (idx_inj hk hk q).1
        omega
    rw [e]; rfl
  · exact T.af (by simp only [inK_i64, inB_i, leB_i, ltB_iff, leN_iff, slOk_iff, ble_iff, blt_iff, decide_eq_true_eq, decide_eq_false_iff_not, beq_iff_eq, beq_eq_false_iff_ne, bne_iff_ne, bne_eq_false_iff_eq, Bool.not_eq_true', Bool.not_eq_false', List.length_set, ne_eq, ge_iff_le, gt_iff_lt, setF_len, toNat_cast, lenOk]; omega) rfl

theorem Left_spec {xs vs : List Nat} {r c at_ frm tau : Nat} (hx : xs.length = r * c) (hr : r ≤ 512) (hc : c ≤ 512) (hv : 0 < vs.length) (hat : at_ + vs.length ≤ r) (hf : frm ≤ c) :
    reflect_Left_F (r : Int) (c : Int) xs (at_ : Int) (frm : Int) vs tau = some (.r1 r c xs.length (leftF xs vs c at_ frm tau)) := by
  have hL : r * c ≤ 262144 := Nat.mul_le_mul hr hc
  have hm : mayB (r : Int) (c : Int) xs.length = true := by
    unfold mayB
    have : (xs.length : Int) = (r : Int) * (c : Int) := by rw [hx, Int.natCast_mul]
    simp only [Bool.and_eq_true, decide_eq_true_eq, beq_iff_eq]; omega
  refine toX_of (seqM_in (a := false) ?_ (seqM_in (a := false) ?_ ?_))
  · unfold reflect_Left_t27
    rw [cutL_all, may_spec, hm]
    exact T.nd (slOk_all xs) (T.nd rfl (T.af rfl (T.af (by simp only [inK_i64, inB_i, leB_i, ltB_iff, leN_iff, slOk_iff, ble_iff, blt_iff, decide_eq_true_eq, decide_eq_false_iff_not, beq_iff_eq, beq_eq_false_iff_ne, bne_iff_ne, bne_eq_false_iff_eq, Bool.not_eq_true', Bool.not_eq_false', List.length_set, ne_eq, ge_iff_le, gt_iff_lt, setF_len, toNat_cast, lenOk]; omega) (T.af (by simp only [inK_i64, inB_i, leB_i, ltB_iff, leN_iff, slOk_iff, ble_iff, blt_iff, decide_eq_true_eq, decide_eq_false_iff_not, beq_iff_eq, beq_eq_false_iff_ne, bne_iff_ne, bne_eq_false_iff_eq, Bool.not_eq_true', Bool.not_eq_false', List.length_set, ne_eq, ge_iff_le, gt_iff_lt, setF_len, toNat_cast, lenOk]; omega) (by rw [decide_eq_false (by omega)]; rfl)))))
  · unfold reflect_Left_t28
    exact T.af rfl (T.nd (by simp only [inK_i64, inB_i, leB_i, ltB_iff, leN_iff, slOk_iff, ble_iff, blt_iff, decide_eq_true_eq, decide_eq_false_iff_not, beq_iff_eq, beq_eq_false_iff_ne, bne_iff_ne, bne_eq_false_iff_eq, Bool.not_eq_true', Bool.not_eq_false', List.length_set, ne_eq, ge_iff_le, gt_iff_lt, setF_len, toNat_cast, lenOk]; omega) (T.af (by simp only [inK_i64, inB_i, leB_i, ltB_iff, leN_iff, slOk_iff, ble_iff, blt_iff, decide_eq_true_eq, decide_eq_false_iff_not, beq_iff_eq, beq_eq_false_iff_ne, bne_iff_ne, bne_eq_false_iff_eq, Bool.not_eq_true', Bool.not_eq_false', List.length_set, ne_eq, ge_iff_le, gt_iff_lt, setF_len, toNat_cast, lenOk]; omega) (by rw [decide_eq_false (by omega)]; rfl)))
  · unfold leftF rflF
    cases ht : feq tau 0 with
    | true =>
      refine seqM_out ?_
      unfold reflect_Left_t29
      rw [cutL_all]
      exact T.af rfl (T.nd (slOk_all xs) (T.nd (by simp only [inK_i64, inB_i, leB_i, ltB_iff, leN_iff, slOk_iff, ble_iff, blt_iff, decide_eq_true_eq, decide_eq_false_iff_not, beq_iff_eq, beq_eq_false_iff_ne, bne_iff_ne, bne_eq_false_iff_eq, Bool.not_eq_true', Bool.not_eq_false', List.length_set, ne_eq, ge_iff_le, gt_iff_lt, setF_len, toNat_cast, lenOk]; omega) (T.at ht rfl)))
    | false =>
      refine seqM_in (a := (xs.length, xs)) ?_ (seqM_in (a := rflGo xs (leP c at_) (leA xs vs c at_) (leV vs) tau vs.length frm (c - frm)) ?_ rfl)
      · unfold reflect_Left_t29
        rw [cutL_all]
        exact T.af rfl (T.nd (slOk_all xs) (T.nd (by simp only [inK_i64, inB_i, leB_i, ltB_iff, leN_iff, slOk_iff, ble_iff, blt_iff, decide_eq_true_eq, decide_eq_false_iff_not, beq_iff_eq, beq_eq_false_iff_ne, bne_iff_ne, bne_eq_false_iff_eq, Bool.not_eq_true', Bool.not_eq_false', List.length_set, ne_eq, ge_iff_le, gt_iff_lt, setF_len, toNat_cast, lenOk]; omega) (T.af ht rfl)))
      · refine loopM_at (fun j => (((frm + j : Nat) : Int), rflGo xs (leP c at_) (leA xs vs c at_) (leV vs) tau vs.length frm j)) (c - frm) rfl (fun j hj => ?_) ?_
        · show seqM (reflect_Left_t31 _ _ _).run _ = _
          have hk : frm + j < c := by omega
          refine seqM_in (a := ()) (T.at (by simp only [inK_i64, inB_i, leB_i, ltB_iff, leN_iff, slOk_iff, ble_iff, blt_iff, decide_eq_true_eq, decide_eq_false_iff_not, beq_iff_eq, beq_eq_false_iff_ne, bne_iff_ne, bne_eq_false_iff_eq, Bool.not_eq_true', Bool.not_eq_false', List.length_set, ne_eq, ge_iff_le, gt_iff_lt, setF_len, toNat_cast, lenOk]; omega) rfl) (seqM_in (joinM_in (a := rflGo xs (leP c at_) (leA xs vs c at_) (leV vs) tau vs.length frm (j + 1)) ?_) ?_)
          · refine seqM_in (a := rflW xs tau vs.length (leA xs vs c at_) (frm + j)) ?_ (seqM_in rfl (seqM_in ?_ rfl))
            · unfold reflect_Left_t33
              rw [cutL_all, cutL_all, sum1_spec (Nat.le_refl _) (fun i hi => by rw [hx]; exact idx_lt (by omega) hk) (by omega) (by omega)]
              exact T.nd (slOk_all vs) (T.nd (slOk_all xs) (T.nd rfl rfl))
            · refine Left_in hx hk hat hr hc rflGo_len rfl (fun i hi => ?_)
              refine rflGo_other fun j' i' hj' hi' q => ?_
              have := (idx_inj (by omega) hk q).2
              omega
          · refine T.nd (by simp only [inK_i64, inB_i, leB_i, ltB_iff, leN_iff, slOk_iff, ble_iff, blt_iff, decide_eq_true_eq, decide_eq_false_iff_not, beq_iff_eq, beq_eq_false_iff_ne, bne_iff_ne, bne_eq_false_iff_eq, Bool.not_eq_true', Bool.not_eq_false', List.length_set, ne_eq, ge_iff_le, gt_iff_lt, setF_len, toNat_cast, lenOk]; omega) ?_
            rfl
        · show seqM (reflect_Left_t31 _ _ _).run _ = _
          exact seqM_out (T.af (by simp only [inK_i64, inB_i, leB_i, ltB_iff, leN_iff, slOk_iff, ble_iff, blt_iff, decide_eq_true_eq, decide_eq_false_iff_not, beq_iff_eq, beq_eq_false_iff_ne, bne_iff_ne, bne_eq_false_iff_eq, Bool.not_eq_true', Bool.not_eq_false', List.length_set, ne_eq, ge_iff_le, gt_iff_lt, setF_len, toNat_cast, lenOk]; omega) rfl)
end Go.Plb.Seat

/-
  PLAIN: columns reflected; the document's rows and columns.
-/
namespace Go.Plb.Seat
open Go Go.Plb
set_option linter.unusedSimpArgs false
set_option linter.unusedVariables false

def riP (c at_ : Nat) (k i : Nat) : Nat := k * c + (at_ + i)
def riA (xs vs : List Nat) (c at_ : Nat) (k i : Nat) : Nat := fmul (xs.getD (k * c + (at_ + i)) 0) (vs.getD i 0)
def riV (vs : List Nat) (i w : Nat) : Nat := fmul w (vs.getD i 0)
def rightF (xs vs : List Nat) (r c at_ frm tau : Nat) : List Nat := rflF xs (riP c at_) (riA xs vs c at_) (riV vs) tau vs.length frm (r - frm)

theorem Right_in {xs vs out : List Nat} {r c at_ k w n : Nat} (hx : xs.length = r * c) (hk : k < r) (hat : at_ + vs.length ≤ c) (hr : r ≤ 512) (hc : c ≤ 512) (ho : out.length = xs.length) (hn : n = xs.length)
    (hsame : ∀ i, i < vs.length → out.getD (riP c at_ k i) 0 = xs.getD (riP c at_ k i) 0) :
    loopM (reflect_Right_m37 (c : Int) (at_ : Int) vs n (k : Int) w) (0, out) = some (.inl (rflIn xs (riP c at_) (riV vs) w k out vs.length)) := by
  have hL : r * c ≤ 262144 := Nat.mul_le_mul hr hc
  refine loopM_at (fun j => (j, rflIn xs (riP c at_) (riV vs) w k out j)) vs.length rfl (fun j hj => ?_) ?_
  · have hi : k * c + (at_ + j) < xs.length := by rw [hx]; exact idx_lt hk (by omega)
    have h := idxOb (x := k) hi (by omega) (by omega)
    have h' := idxOb (x := k) (c := c) (k := at_) (L := xs.length) (by omega) (by omega) (by omega)
    have hl : (rflIn xs (riP c at_) (riV vs) w k out j).length = xs.length := by unfold rflIn; rw [setF_len, ho]
    show (reflect_Right_t36 _ _ _ _ _ _ _ _).run = _
    unfold reflect_Right_t36
    rw [Int.add_assoc, addc, hl, hn]
    refine T.at (by simp only [inK_i64, inB_i, leB_i, ltB_iff, leN_iff, slOk_iff, ble_iff, blt_iff, decide_eq_true_eq, decide_eq_false_iff_not, beq_iff_eq, beq_eq_false_iff_ne, bne_iff_ne, bne_eq_false_iff_eq, Bool.not_eq_true', Bool.not_eq_false', List.length_set, ne_eq, ge_iff_le, gt_iff_lt, setF_len, toNat_cast, lenOk]; omega) (T.nd (by simp only [inK_i64, inB_i, leB_i, ltB_iff, leN_iff, slOk_iff, ble_iff, blt_iff, decide_eq_true_eq, decide_eq_false_iff_not, beq_iff_eq, beq_eq_false_iff_ne, bne_iff_ne, bne_eq_false_iff_eq, Bool.not_eq_true', Bool.not_eq_false', List.length_set, ne_eq, ge_iff_le, gt_iff_lt, setF_len, toNat_cast, lenOk]; omega) (T.nd (by simp only [inK_i64, inB_i, leB_i, ltB_iff, leN_iff, slOk_iff, ble_iff, blt_iff, decide_eq_true_eq, decide_eq_false_iff_not, beq_iff_eq, beq_eq_false_iff_ne, bne_iff_ne, bne_eq_false_iff_eq, Bool.not_eq_true', Bool.not_eq_false', List.length_set, ne_eq, ge_iff_le, gt_iff_lt, setF_len, toNat_cast, lenOk]; omega) (T.nd h.b (T.nd h'.c (T.nd h.c (T.nd h.d (T.nd h.e (T.nd h.d (T.nd h.e (T.nd (by simp only [inK_i64, inB_i, leB_i, ltB_iff, leN_iff, slOk_iff, ble_iff, blt_iff, decide_eq_true_eq, decide_eq_false_iff_not, beq_iff_eq, beq_eq_false_iff_ne, bne_iff_ne, bne_eq_false_iff_eq, Bool.not_eq_true', Bool.not_eq_false', List.length_set, ne_eq, ge_iff_le, gt_iff_lt, setF_len, toNat_cast, lenOk]; omega) ?_))))))))))
    rw [h.f]
    have e : (rflIn xs (riP c at_) (riV vs) w k out j).getD (k * c + (at_ + j)) 0 = xs.getD (k * c + (at_ + j)) 0 := by
      unfold rflIn
      rw [setF_other (fun i hi => ?_)]
      · exact hsame j hj
      · intro q
        have := (idx_inj (i := k) (i' := k) (by omega) (by omega) q).2
        omega
    rw [e]; rfl
  · exact T.af (by simp only [inK_i64, inB_i, leB_i, ltB_iff, leN_iff, slOk_iff, ble_iff, blt_iff, decide_eq_true_eq, decide_eq_false_iff_not, beq_iff_eq, beq_eq_false_iff_ne, bne_iff_ne, bne_eq_false_iff_eq, Bool.not_eq_true', Bool.not_eq_false', List.length_set, ne_eq, ge_iff_le, gt_iff_lt, setF_len, toNat_cast, lenOk]; omega) rfl

theorem Right_spec {xs vs : List Nat} {r c at_ frm tau : Nat} (hx : xs.length = r * c) (hr : r ≤ 512) (hc : c ≤ 512) (hv : 0 < vs.length) (hat : at_ + vs.length ≤ c) (hf : frm ≤ r) :
    reflect_Right_F (r : Int) (c : Int) xs (at_ : Int) (frm : Int) vs tau = some (.r1 r c xs.length (rightF xs vs r c at_ frm tau)) := by
  have hL : r * c ≤ 262144 := Nat.mul_le_mul hr hc
  have hm : mayB (r : Int) (c : Int) xs.length = true := by
    unfold mayB
    have : (xs.length : Int) = (r : Int) * (c : Int) := by rw [hx, Int.natCast_mul]
    simp only [Bool.and_eq_true, decide_eq_true_eq, beq_iff_eq]; omega
  refine toX_of (seqM_in (a := false) ?_ (seqM_in (a := false) ?_ ?_))
  · unfold reflect_Right_t27
    rw [cutL_all, may_spec, hm]
    exact T.nd (slOk_all xs) (T.nd rfl (T.af rfl (T.af (by simp only [inK_i64, inB_i, leB_i, ltB_iff, leN_iff, slOk_iff, ble_iff, blt_iff, decide_eq_true_eq, decide_eq_false_iff_not, beq_iff_eq, beq_eq_false_iff_ne, bne_iff_ne, bne_eq_false_iff_eq, Bool.not_eq_true', Bool.not_eq_false', List.length_set, ne_eq, ge_iff_le, gt_iff_lt, setF_len, toNat_cast, lenOk]; omega) (T.af (by simp only [inK_i64, inB_i, leB_i, ltB_iff, leN_iff, slOk_iff, ble_iff, blt_iff, decide_eq_true_eq, decide_eq_false_iff_not, beq_iff_eq, beq_eq_false_iff_ne, bne_iff_ne, bne_eq_false_iff_eq, Bool.not_eq_true', Bool.not_eq_false', List.length_set, ne_eq, ge_iff_le, gt_iff_lt, setF_len, toNat_cast, lenOk]; omega) (by rw [decide_eq_false (by omega)]; rfl)))))
  · unfold reflect_Right_t28
    exact T.af rfl (T.nd (by simp only [inK_i64, inB_i, leB_i, ltB_iff, leN_iff, slOk_iff, ble_iff, blt_iff, decide_eq_true_eq, decide_eq_false_iff_not, beq_iff_eq, beq_eq_false_iff_ne, bne_iff_ne, bne_eq_false_iff_eq, Bool.not_eq_true', Bool.not_eq_false', List.length_set, ne_eq, ge_iff_le, gt_iff_lt, setF_len, toNat_cast, lenOk]; omega) (T.af (by simp only [inK_i64, inB_i, leB_i, ltB_iff, leN_iff, slOk_iff, ble_iff, blt_iff, decide_eq_true_eq, decide_eq_false_iff_not, beq_iff_eq, beq_eq_false_iff_ne, bne_iff_ne, bne_eq_false_iff_eq, Bool.not_eq_true', Bool.not_eq_false', List.length_set, ne_eq, ge_iff_le, gt_iff_lt, setF_len, toNat_cast, lenOk]; omega) (by rw [decide_eq_false (by omega)]; rfl)))
  · unfold rightF rflF
    cases ht : feq tau 0 with
    | true =>
      refine seqM_out ?_
      unfold reflect_Right_t29
      rw [cutL_all]
      exact T.af rfl (T.nd (slOk_all xs) (T.nd (by simp only [inK_i64, inB_i, leB_i, ltB_iff, leN_iff, slOk_iff, ble_iff, blt_iff, decide_eq_true_eq, decide_eq_false_iff_not, beq_iff_eq, beq_eq_false_iff_ne, bne_iff_ne, bne_eq_false_iff_eq, Bool.not_eq_true', Bool.not_eq_false', List.length_set, ne_eq, ge_iff_le, gt_iff_lt, setF_len, toNat_cast, lenOk]; omega) (T.at ht rfl)))
    | false =>
      refine seqM_in (a := (xs.length, xs)) ?_ (seqM_in (a := rflGo xs (riP c at_) (riA xs vs c at_) (riV vs) tau vs.length frm (r - frm)) ?_ rfl)
      · unfold reflect_Right_t29
        rw [cutL_all]
        exact T.af rfl (T.nd (slOk_all xs) (T.nd (by simp only [inK_i64, inB_i, leB_i, ltB_iff, leN_iff, slOk_iff, ble_iff, blt_iff, decide_eq_true_eq, decide_eq_false_iff_not, beq_iff_eq, beq_eq_false_iff_ne, bne_iff_ne, bne_eq_false_iff_eq, Bool.not_eq_true', Bool.not_eq_false', List.length_set, ne_eq, ge_iff_le, gt_iff_lt, setF_len, toNat_cast, lenOk]; omega) (T.af ht rfl)))
      · refine loopM_at (fun j => (((frm + j : Nat) : Int), rflGo xs (riP c at_) (riA xs vs c at_) (riV vs) tau vs.length frm j)) (r - frm) rfl (fun j hj => ?_) ?_
        · show seqM (reflect_Right_t31 _ _ _).run _ = _
          have hk : frm + j < r := by omega
          refine seqM_in (a := ()) (T.at (by simp only [inK_i64, inB_i, leB_i, ltB_iff, leN_iff, slOk_iff, ble_iff, blt_iff, decide_eq_true_eq, decide_eq_false_iff_not, beq_iff_eq, beq_eq_false_iff_ne, bne_iff_ne, bne_eq_false_iff_eq, Bool.not_eq_true', Bool.not_eq_false', List.length_set, ne_eq, ge_iff_le, gt_iff_lt, setF_len, toNat_cast, lenOk]; omega) rfl) (seqM_in (joinM_in (a := rflGo xs (riP c at_) (riA xs vs c at_) (riV vs) tau vs.length frm (j + 1)) ?_) ?_)
          · refine seqM_in (a := rflW xs tau vs.length (riA xs vs c at_) (frm + j)) ?_ (seqM_in rfl (seqM_in ?_ rfl))
            · unfold reflect_Right_t33
              rw [cutL_all, cutL_all, sum2_spec (Nat.le_refl _) (fun i hi => by rw [hx]; exact idx_lt hk (by omega)) (by omega) (by omega) (by omega)]
              exact T.nd (slOk_all xs) (T.nd (slOk_all vs) (T.nd rfl rfl))
            · refine Right_in hx hk hat hr hc rflGo_len rfl (fun i hi => ?_)
              refine rflGo_other fun j' i' hj' hi' q => ?_
              have := (idx_inj (by omega) (by omega) q).1
              omega
          · refine T.nd (by simp only [inK_i64, inB_i, leB_i, ltB_iff, leN_iff, slOk_iff, ble_iff, blt_iff, decide_eq_true_eq, decide_eq_false_iff_not, beq_iff_eq, beq_eq_false_iff_ne, bne_iff_ne, bne_eq_false_iff_eq, Bool.not_eq_true', Bool.not_eq_false', List.length_set, ne_eq, ge_iff_le, gt_iff_lt, setF_len, toNat_cast, lenOk]; omega) ?_
            rfl
        · show seqM (reflect_Right_t31 _ _ _).run _ = _
          exact seqM_out (T.af (by simp only [inK_i64, inB_i, leB_i, ltB_iff, leN_iff, slOk_iff, ble_iff, blt_iff, decide_eq_true_eq, decide_eq_false_iff_not, beq_iff_eq, beq_eq_false_iff_ne, bne_iff_ne, bne_eq_false_iff_eq, Bool.not_eq_true', Bool.not_eq_false', List.length_set, ne_eq, ge_iff_le, gt_iff_lt, setF_len, toNat_cast, lenOk]; omega) rfl)


theorem Left9_sum {xs vs : List Nat} {r c at_ k : Nat} (hx : xs.length = r * c) (hk : k < c) (hat : at_ + vs.length ≤ r) (hr : r ≤ 512) (hc : c ≤ 512) :
    loopM (ref09_Left_m40 (c : Int) xs (at_ : Int) vs (k : Int)) (0, 0) = some (.inl (sumF (leA xs vs c at_ k) vs.length)) := by
  have hL : r * c ≤ 262144 := Nat.mul_le_mul hr hc
  refine loopM_at (fun j => (sumF (leA xs vs c at_ k) j, j)) vs.length rfl (fun j hj => ?_) ?_
  · have hi : (at_ + j) * c + k < xs.length := by rw [hx]; exact idx_lt (by omega) hk
    have h := idxOb (x := at_ + j) hi (by omega) (by omega)
    show (ref09_Left_t39 _ _ _ _ _ _ _).run = _
    unfold ref09_Left_t39
    rw [addc]
    refine T.at (by simp only [inK_i64, inB_i, leB_i, ltB_iff, leN_iff, slOk_iff, ble_iff, blt_iff, decide_eq_true_eq, decide_eq_false_iff_not, beq_iff_eq, beq_eq_false_iff_ne, bne_iff_ne, bne_eq_false_iff_eq, Bool.not_eq_true', Bool.not_eq_false', List.length_set, ne_eq, ge_iff_le, gt_iff_lt, setF_len, toNat_cast, lenOk]; omega) (T.nd (by simp only [inK_i64, inB_i, leB_i, ltB_iff, leN_iff, slOk_iff, ble_iff, blt_iff, decide_eq_true_eq, decide_eq_false_iff_not, beq_iff_eq, beq_eq_false_iff_ne, bne_iff_ne, bne_eq_false_iff_eq, Bool.not_eq_true', Bool.not_eq_false', List.length_set, ne_eq, ge_iff_le, gt_iff_lt, setF_len, toNat_cast, lenOk]; omega) (T.nd (by simp only [inK_i64, inB_i, leB_i, ltB_iff, leN_iff, slOk_iff, ble_iff, blt_iff, decide_eq_true_eq, decide_eq_false_iff_not, beq_iff_eq, beq_eq_false_iff_ne, bne_iff_ne, bne_eq_false_iff_eq, Bool.not_eq_true', Bool.not_eq_false', List.length_set, ne_eq, ge_iff_le, gt_iff_lt, setF_len, toNat_cast, lenOk]; omega) (T.nd h.a (T.nd h.b (T.nd h.c (T.nd h.d (T.nd h.e (T.nd (by simp only [inK_i64, inB_i, leB_i, ltB_iff, leN_iff, slOk_iff, ble_iff, blt_iff, decide_eq_true_eq, decide_eq_false_iff_not, beq_iff_eq, beq_eq_false_iff_ne, bne_iff_ne, bne_eq_false_iff_eq, Bool.not_eq_true', Bool.not_eq_false', List.length_set, ne_eq, ge_iff_le, gt_iff_lt, setF_len, toNat_cast, lenOk]; omega) ?_))))))))
    rw [h.f]; rfl
  · exact T.af (by simp only [inK_i64, inB_i, leB_i, ltB_iff, leN_iff, slOk_iff, ble_iff, blt_iff, decide_eq_true_eq, decide_eq_false_iff_not, beq_iff_eq, beq_eq_false_iff_ne, bne_iff_ne, bne_eq_false_iff_eq, Bool.not_eq_true', Bool.not_eq_false', List.length_set, ne_eq, ge_iff_le, gt_iff_lt, setF_len, toNat_cast, lenOk]; omega) rfl
theorem Left9_in {xs vs out : List Nat} {r c at_ k w : Nat} (hx : xs.length = r * c) (hk : k < c) (hat : at_ + vs.length ≤ r) (hr : r ≤ 512) (hc : c ≤ 512) (ho : out.length = xs.length) :
    loopM (ref09_Left_m44 (c : Int) xs (at_ : Int) vs (k : Int) w) (0, out) = some (.inl (rflIn xs (leP c at_) (leV vs) w k out vs.length)) := by
  have hL : r * c ≤ 262144 := Nat.mul_le_mul hr hc
  refine loopM_at (fun j => (j, rflIn xs (leP c at_) (leV vs) w k out j)) vs.length rfl (fun j hj => ?_) ?_
  · have hi : (at_ + j) * c + k < xs.length := by rw [hx]; exact idx_lt (by omega) hk
    have h := idxOb (x := at_ + j) hi (by omega) (by omega)
    have hl : (rflIn xs (leP c at_) (leV vs) w k out j).length = xs.length := by unfold rflIn; rw [setF_len, ho]
    show (ref09_Left_t43 _ _ _ _ _ _ _ _).run = _
    unfold ref09_Left_t43
    rw [addc, hl]
    refine T.at (by simp only [inK_i64, inB_i, leB_i, ltB_iff, leN_iff, slOk_iff, ble_iff, blt_iff, decide_eq_true_eq, decide_eq_false_iff_not, beq_iff_eq, beq_eq_false_iff_ne, bne_iff_ne, bne_eq_false_iff_eq, Bool.not_eq_true', Bool.not_eq_false', List.length_set, ne_eq, ge_iff_le, gt_iff_lt, setF_len, toNat_cast, lenOk]; omega) (T.nd (by simp only [inK_i64, inB_i, leB_i, ltB_iff, leN_iff, slOk_iff, ble_iff, blt_iff, decide_eq_true_eq, decide_eq_false_iff_not, beq_iff_eq, beq_eq_false_iff_ne, bne_iff_ne, bne_eq_false_iff_eq, Bool.not_eq_true', Bool.not_eq_false', List.length_set, ne_eq, ge_iff_le, gt_iff_lt, setF_len, toNat_cast, lenOk]; omega) (T.nd (by simp only [inK_i64, inB_i, leB_i, ltB_iff, leN_iff, slOk_iff, ble_iff, blt_iff, decide_eq_true_eq, decide_eq_false_iff_not, beq_iff_eq, beq_eq_false_iff_ne, bne_iff_ne, bne_eq_false_iff_eq, Bool.not_eq_true', Bool.not_eq_false', List.length_set, ne_eq, ge_iff_le, gt_iff_lt, setF_len, toNat_cast, lenOk]; omega) (T.nd h.a (T.nd h.b (T.nd h.c (T.nd h.a (T.nd h.b (T.nd h.c (T.nd h.d (T.nd h.e (T.nd h.d (T.nd h.e (T.nd (by simp only [inK_i64, inB_i, leB_i, ltB_iff, leN_iff, slOk_iff, ble_iff, blt_iff, decide_eq_true_eq, decide_eq_false_iff_not, beq_iff_eq, beq_eq_false_iff_ne, bne_iff_ne, bne_eq_false_iff_eq, Bool.not_eq_true', Bool.not_eq_false', List.length_set, ne_eq, ge_iff_le, gt_iff_lt, setF_len, toNat_cast, lenOk]; omega) ?_)))))))))))))
    rw [h.f]; rfl
  · exact T.af (by simp only [inK_i64, inB_i, leB_i, ltB_iff, leN_iff, slOk_iff, ble_iff, blt_iff, decide_eq_true_eq, decide_eq_false_iff_not, beq_iff_eq, beq_eq_false_iff_ne, bne_iff_ne, bne_eq_false_iff_eq, Bool.not_eq_true', Bool.not_eq_false', List.length_set, ne_eq, ge_iff_le, gt_iff_lt, setF_len, toNat_cast, lenOk]; omega) rfl
theorem Left9_spec {xs vs : List Nat} {r c at_ frm tau : Nat} (hx : xs.length = r * c) (hr : r ≤ 512) (hc : c ≤ 512) (hat : at_ + vs.length ≤ r) (hf : frm ≤ c) :
    ref09_Left_F (r : Int) (c : Int) xs (at_ : Int) (frm : Int) vs tau = some (.r0 r c xs.length (leftF xs vs c at_ frm tau)) := by
  have hL : r * c ≤ 262144 := Nat.mul_le_mul hr hc
  refine toX_of ?_
  unfold leftF rflF
  cases ht : feq tau 0 with
  | true =>
    refine seqM_out ?_
    unfold ref09_Left_t33
    rw [List.take_length]
    exact T.nd (by simp only [inK_i64, inB_i, leB_i, ltB_iff, leN_iff, slOk_iff, ble_iff, blt_iff, decide_eq_true_eq, decide_eq_false_iff_not, beq_iff_eq, beq_eq_false_iff_ne, bne_iff_ne, bne_eq_false_iff_eq, Bool.not_eq_true', Bool.not_eq_false', List.length_set, ne_eq, ge_iff_le, gt_iff_lt, setF_len, toNat_cast, lenOk]; omega) (T.nd (by simp only [inK_i64, inB_i, leB_i, ltB_iff, leN_iff, slOk_iff, ble_iff, blt_iff, decide_eq_true_eq, decide_eq_false_iff_not, beq_iff_eq, beq_eq_false_iff_ne, bne_iff_ne, bne_eq_false_iff_eq, Bool.not_eq_true', Bool.not_eq_false', List.length_set, ne_eq, ge_iff_le, gt_iff_lt, setF_len, toNat_cast, lenOk]; omega) (T.nd (by simp only [inK_i64, inB_i, leB_i, ltB_iff, leN_iff, slOk_iff, ble_iff, blt_iff, decide_eq_true_eq, decide_eq_false_iff_not, beq_iff_eq, beq_eq_false_iff_ne, bne_iff_ne, bne_eq_false_iff_eq, Bool.not_eq_true', Bool.not_eq_false', List.length_set, ne_eq, ge_iff_le, gt_iff_lt, setF_len, toNat_cast, lenOk]; omega) (T.at ht rfl)))
  | false =>
    refine seqM_in (a := xs) ?_ (seqM_in (a := rflGo xs (leP c at_) (leA xs vs c at_) (leV vs) tau vs.length frm (c - frm)) ?_ rfl)
    · unfold ref09_Left_t33
      rw [List.take_length]
      exact T.nd (by simp only [inK_i64, inB_i, leB_i, ltB_iff, leN_iff, slOk_iff, ble_iff, blt_iff, decide_eq_true_eq, decide_eq_false_iff_not, beq_iff_eq, beq_eq_false_iff_ne, bne_iff_ne, bne_eq_false_iff_eq, Bool.not_eq_true', Bool.not_eq_false', List.length_set, ne_eq, ge_iff_le, gt_iff_lt, setF_len, toNat_cast, lenOk]; omega) (T.nd (by simp only [inK_i64, inB_i, leB_i, ltB_iff, leN_iff, slOk_iff, ble_iff, blt_iff, decide_eq_true_eq, decide_eq_false_iff_not, beq_iff_eq, beq_eq_false_iff_ne, bne_iff_ne, bne_eq_false_iff_eq, Bool.not_eq_true', Bool.not_eq_false', List.length_set, ne_eq, ge_iff_le, gt_iff_lt, setF_len, toNat_cast, lenOk]; omega) (T.nd (by simp only [inK_i64, inB_i, leB_i, ltB_iff, leN_iff, slOk_iff, ble_iff, blt_iff, decide_eq_true_eq, decide_eq_false_iff_not, beq_iff_eq, beq_eq_false_iff_ne, bne_iff_ne, bne_eq_false_iff_eq, Bool.not_eq_true', Bool.not_eq_false', List.length_set, ne_eq, ge_iff_le, gt_iff_lt, setF_len, toNat_cast, lenOk]; omega) (T.af ht rfl)))
    · refine loopM_at (fun j => (((frm + j : Nat) : Int), rflGo xs (leP c at_) (leA xs vs c at_) (leV vs) tau vs.length frm j)) (c - frm) rfl (fun j hj => ?_) ?_
      · show seqM (ref09_Left_t35 _ _ _).run _ = _
        have hk : frm + j < c := by omega
        refine seqM_in (a := ()) (T.at (by simp only [inK_i64, inB_i, leB_i, ltB_iff, leN_iff, slOk_iff, ble_iff, blt_iff, decide_eq_true_eq, decide_eq_false_iff_not, beq_iff_eq, beq_eq_false_iff_ne, bne_iff_ne, bne_eq_false_iff_eq, Bool.not_eq_true', Bool.not_eq_false', List.length_set, ne_eq, ge_iff_le, gt_iff_lt, setF_len, toNat_cast, lenOk]; omega) rfl) (seqM_in (joinM_in (a := rflGo xs (leP c at_) (leA xs vs c at_) (leV vs) tau vs.length frm (j + 1)) ?_) ?_)
        · exact seqM_in rfl (seqM_in (Left9_sum hx hk hat hr hc) (seqM_in rfl (seqM_in (Left9_in hx hk hat hr hc rflGo_len) rfl)))
        · refine T.nd (by simp only [inK_i64, inB_i, leB_i, ltB_iff, leN_iff, slOk_iff, ble_iff, blt_iff, decide_eq_true_eq, decide_eq_false_iff_not, beq_iff_eq, beq_eq_false_iff_ne, bne_iff_ne, bne_eq_false_iff_eq, Bool.not_eq_true', Bool.not_eq_false', List.length_set, ne_eq, ge_iff_le, gt_iff_lt, setF_len, toNat_cast, lenOk]; omega) ?_
          rfl
      · show seqM (ref09_Left_t35 _ _ _).run _ = _
        exact seqM_out (T.af (by simp only [inK_i64, inB_i, leB_i, ltB_iff, leN_iff, slOk_iff, ble_iff, blt_iff, decide_eq_true_eq, decide_eq_false_iff_not, beq_iff_eq, beq_eq_false_iff_ne, bne_iff_ne, bne_eq_false_iff_eq, Bool.not_eq_true', Bool.not_eq_false', List.length_set, ne_eq, ge_iff_le, gt_iff_lt, setF_len, toNat_cast, lenOk]; omega) rfl)

theorem Right9_sum {xs vs : List Nat} {r c at_ k : Nat} (hx : xs.length = r * c) (hk : k < r) (hat : at_ + vs.length ≤ c) (hr : r ≤ 512) (hc : c ≤ 512) :
    loopM (ref09_Right_m40 (c : Int) xs (at_ : Int) vs (k : Int)) (0, 0) = some (.inl (sumF (riA xs vs c at_ k) vs.length)) := by
  have hL : r * c ≤ 262144 := Nat.mul_le_mul hr hc
  refine loopM_at (fun j => (sumF (riA xs vs c at_ k) j, j)) vs.length rfl (fun j hj => ?_) ?_
  · have hi : k * c + (at_ + j) < xs.length := by rw [hx]; exact idx_lt hk (by omega)
    have h := idxOb (x := k) hi (by omega) (by omega)
    have h' := idxOb (x := k) (c := c) (k := at_) (L := xs.length) (by omega) (by omega) (by omega)
    show (ref09_Right_t39 _ _ _ _ _ _ _).run = _
    unfold ref09_Right_t39
    rw [Int.add_assoc, addc]
    refine T.at (by simp only [inK_i64, inB_i, leB_i, ltB_iff, leN_iff, slOk_iff, ble_iff, blt_iff, decide_eq_true_eq, decide_eq_false_iff_not, beq_iff_eq, beq_eq_false_iff_ne, bne_iff_ne, bne_eq_false_iff_eq, Bool.not_eq_true', Bool.not_eq_false', List.length_set, ne_eq, ge_iff_le, gt_iff_lt, setF_len, toNat_cast, lenOk]; omega) (T.nd h.b (T.nd h'.c (T.nd h.c (T.nd h.d (T.nd h.e (T.nd (by simp only [inK_i64, inB_i, leB_i, ltB_iff, leN_iff, slOk_iff, ble_iff, blt_iff, decide_eq_true_eq, decide_eq_false_iff_not, beq_iff_eq, beq_eq_false_iff_ne, bne_iff_ne, bne_eq_false_iff_eq, Bool.not_eq_true', Bool.not_eq_false', List.length_set, ne_eq, ge_iff_le, gt_iff_lt, setF_len, toNat_cast, lenOk]; omega) (T.nd (by simp only [inK_i64, inB_i, leB_i, ltB_iff, leN_iff, slOk_iff, ble_iff, blt_iff, decide_eq_true_eq, decide_eq_false_iff_not, beq_iff_eq, beq_eq_false_iff_ne, bne_iff_ne, bne_eq_false_iff_eq, Bool.not_eq_true', Bool.not_eq_false', List.length_set, ne_eq, ge_iff_le, gt_iff_lt, setF_len, toNat_cast, lenOk]; omega) (T.nd (by simp only [inK_i64, inB_i, leB_i, ltB_iff, leN_iff, slOk_iff, ble_iff, blt_iff, decide_eq_true_eq, decide_eq_false_iff_not, beq_iff_eq, beq_eq_false_iff_ne, bne_iff_ne, bne_eq_false_iff_eq, Bool.not_eq_true', Bool.not_eq_false', List.length_set, ne_eq, ge_iff_le, gt_iff_lt, setF_len, toNat_cast, lenOk]; omega) ?_))))))))
    rw [h.f]; rfl
  · exact T.af (by simp only [inK_i64, inB_i, leB_i, ltB_iff, leN_iff, slOk_iff, ble_iff, blt_iff, decide_eq_true_eq, decide_eq_false_iff_not, beq_iff_eq, beq_eq_false_iff_ne, bne_iff_ne, bne_eq_false_iff_eq, Bool.not_eq_true', Bool.not_eq_false', List.length_set, ne_eq, ge_iff_le, gt_iff_lt, setF_len, toNat_cast, lenOk]; omega) rfl
theorem Right9_in {xs vs out : List Nat} {r c at_ k w : Nat} (hx : xs.length = r * c) (hk : k < r) (hat : at_ + vs.length ≤ c) (hr : r ≤ 512) (hc : c ≤ 512) (ho : out.length = xs.length) :
    loopM (ref09_Right_m44 (c : Int) xs (at_ : Int) vs (k : Int) w) (0, out) = some (.inl (rflIn xs (riP c at_) (riV vs) w k out vs.length)) := by
  have hL : r * c ≤ 262144 := Nat.mul_le_mul hr hc
  refine loopM_at (fun j => (j, rflIn xs (riP c at_) (riV vs) w k out j)) vs.length rfl (fun j hj => ?_) ?_
  · have hi : k * c + (at_ + j) < xs.length := by rw [hx]; exact idx_lt hk (by omega)
    have h := idxOb (x := k) hi (by omega) (by omega)
    have h' := idxOb (x := k) (c := c) (k := at_) (L := xs.length) (by omega) (by omega) (by omega)
    have hl : (rflIn xs (riP c at_) (riV vs) w k out j).length = xs.length := by unfold rflIn; rw [setF_len, ho]
    show (ref09_Right_t43 _ _ _ _ _ _ _ _).run = _
    unfold ref09_Right_t43
    rw [Int.add_assoc, addc, hl]
    refine T.at (by simp only [inK_i64, inB_i, leB_i, ltB_iff, leN_iff, slOk_iff, ble_iff, blt_iff, decide_eq_true_eq, decide_eq_false_iff_not, beq_iff_eq, beq_eq_false_iff_ne, bne_iff_ne, bne_eq_false_iff_eq, Bool.not_eq_true', Bool.not_eq_false', List.length_set, ne_eq, ge_iff_le, gt_iff_lt, setF_len, toNat_cast, lenOk]; omega) (T.nd (by simp only [inK_i64, inB_i, leB_i, ltB_iff, leN_iff, slOk_iff, ble_iff, blt_iff, decide_eq_true_eq, decide_eq_false_iff_not, beq_iff_eq, beq_eq_false_iff_ne, bne_iff_ne, bne_eq_false_iff_eq, Bool.not_eq_true', Bool.not_eq_false', List.length_set, ne_eq, ge_iff_le, gt_iff_lt, setF_len, toNat_cast, lenOk]; omega) (T.nd (by simp only [inK_i64, inB_i, leB_i, ltB_iff, leN_iff, slOk_iff, ble_iff, blt_iff, decide_eq_true_eq, decide_eq_false_iff_not, beq_iff_eq, beq_eq_false_iff_ne, bne_iff_ne, bne_eq_false_iff_eq, Bool.not_eq_true', Bool.not_eq_false', List.length_set, ne_eq, ge_iff_le, gt_iff_lt, setF_len, toNat_cast, lenOk]; omega) (T.nd h.b (T.nd h'.c (T.nd h.c (T.nd h.b (T.nd h'.c (T.nd h.c (T.nd h.d (T.nd h.e (T.nd h.d (T.nd h.e (T.nd (by simp only [inK_i64, inB_i, leB_i, ltB_iff, leN_iff, slOk_iff, ble_iff, blt_iff, decide_eq_true_eq, decide_eq_false_iff_not, beq_iff_eq, beq_eq_false_iff_ne, bne_iff_ne, bne_eq_false_iff_eq, Bool.not_eq_true', Bool.not_eq_false', List.length_set, ne_eq, ge_iff_le, gt_iff_lt, setF_len, toNat_cast, lenOk]; omega) ?_)))))))))))))
    rw [h.f]; rfl
  · exact T.af (by simp only [inK_i64, inB_i, leB_i, ltB_iff, leN_iff, slOk_iff, ble_iff, blt_iff, decide_eq_true_eq, decide_eq_false_iff_not, beq_iff_eq, beq_eq_false_iff_ne, bne_iff_ne, bne_eq_false_iff_eq, Bool.not_eq_true', Bool.not_eq_false', List.length_set, ne_eq, ge_iff_le, gt_iff_lt, setF_len, toNat_cast, lenOk]; omega) rfl
theorem Right9_spec {xs vs : List Nat} {r c at_ frm tau : Nat} (hx : xs.length = r * c) (hr : r ≤ 512) (hc : c ≤ 512) (hat : at_ + vs.length ≤ c) (hf : frm ≤ r) :
    ref09_Right_F (r : Int) (c : Int) xs (at_ : Int) (frm : Int) vs tau = some (.r0 r c xs.length (rightF xs vs r c at_ frm tau)) := by
  have hL : r * c ≤ 262144 := Nat.mul_le_mul hr hc
  refine toX_of ?_
  unfold rightF rflF
  cases ht : feq tau 0 with
  | true =>
    refine seqM_out ?_
    unfold ref09_Right_t33
    rw [List.take_length]
    exact T.nd (by simp only [inK_i64, inB_i, leB_i, ltB_iff, leN_iff, slOk_iff, ble_iff, blt_iff, decide_eq_true_eq, decide_eq_false_iff_not, beq_iff_eq, beq_eq_false_iff_ne, bne_iff_ne, bne_eq_false_iff_eq, Bool.not_eq_true', Bool.not_eq_false', List.length_set, ne_eq, ge_iff_le, gt_iff_lt, setF_len, toNat_cast, lenOk]; omega) (T.nd (by simp only [inK_i64, inB_i, leB_i, ltB_iff, leN_iff, slOk_iff, ble_iff, blt_iff, decide_eq_true_eq, decide_eq_false_iff_not, beq_iff_eq, beq_eq_false_iff_ne, bne_iff_ne, bne_eq_false_iff_eq, Bool.not_eq_true', Bool.not_eq_false', List.length_set, ne_eq, ge_iff_le, gt_iff_lt, setF_len, toNat_cast, lenOk]; omega) (T.nd (by simp only [inK_i64, inB_i, leB_i, ltB_iff, leN_iff, slOk_iff, ble_iff, blt_iff, decide_eq_true_eq, decide_eq_false_iff_not, beq_iff_eq, beq_eq_false_iff_ne, bne_iff_ne, bne_eq_false_iff_eq, Bool.not_eq_true', Bool.not_eq_false', List.length_set, ne_eq, ge_iff_le, gt_iff_lt, setF_len, toNat_cast, lenOk]; omega) (T.at ht rfl)))
  | false =>
    refine seqM_in (a := xs) ?_ (seqM_in (a := rflGo xs (riP c at_) (riA xs vs c at_) (riV vs) tau vs.length frm (r - frm)) ?_ rfl)
    · unfold ref09_Right_t33
      rw [List.take_length]
      exact T.nd (by simp only [inK_i64, inB_i, leB_i, ltB_iff, leN_iff, slOk_iff, ble_iff, blt_iff, decide_eq_true_eq, decide_eq_false_iff_not, beq_iff_eq, beq_eq_false_iff_ne, bne_iff_ne, bne_eq_false_iff_eq, Bool.not_eq_true', Bool.not_eq_false', List.length_set, ne_eq, ge_iff_le, gt_iff_lt, setF_len, toNat_cast, lenOk]; omega) (T.nd (by simp only [inK_i64, inB_i, leB_i, ltB_iff, leN_iff, slOk_iff, ble_iff, blt_iff, decide_eq_true_eq, decide_eq_false_iff_not, beq_iff_eq, beq_eq_false_iff_ne, bne_iff_ne, bne_eq_false_iff_eq, Bool.not_eq_true', Bool.not_eq_false', List.length_set, ne_eq, ge_iff_le, gt_iff_lt, setF_len, toNat_cast, lenOk]; omega) (T.nd (by simp only [inK_i64, inB_i, leB_i, ltB_iff, leN_iff, slOk_iff, ble_iff, blt_iff, decide_eq_true_eq, decide_eq_false_iff_not, beq_iff_eq, beq_eq_false_iff_ne, bne_iff_ne, bne_eq_false_iff_eq, Bool.not_eq_true', Bool.not_eq_false', List.length_set, ne_eq, ge_iff_le, gt_iff_lt, setF_len, toNat_cast, lenOk]; omega) (T.af ht rfl)))
    · refine loopM_at (fun j => (((frm + j : Nat) : Int), rflGo xs (riP c at_) (riA xs vs c at_) (riV vs) tau vs.length frm j)) (r - frm) rfl (fun j hj => ?_) ?_
      · show seqM (ref09_Right_t35 _ _ _).run _ = _
        have hk : frm + j < r := by omega
        refine seqM_in (a := ()) (T.at (by simp only [inK_i64, inB_i, leB_i, ltB_iff, leN_iff, slOk_iff, ble_iff, blt_iff, decide_eq_true_eq, decide_eq_false_iff_not, beq_iff_eq, beq_eq_false_iff_ne, bne_iff_ne, bne_eq_false_iff_eq, Bool.not_eq_true', Bool.not_eq_false', List.length_set, ne_eq, ge_iff_le, gt_iff_lt, setF_len, toNat_cast, lenOk]; omega) rfl) (seqM_in (joinM_in (a := rflGo xs (riP c at_) (riA xs vs c at_) (riV vs) tau vs.length frm (j + 1)) ?_) ?_)
        · exact seqM_in rfl (seqM_in (Right9_sum hx hk hat hr hc) (seqM_in rfl (seqM_in (Right9_in hx hk hat hr hc rflGo_len) rfl)))
        · refine T.nd (by simp only [inK_i64, inB_i, leB_i, ltB_iff, leN_iff, slOk_iff, ble_iff, blt_iff, decide_eq_true_eq, decide_eq_false_iff_not, beq_iff_eq, beq_eq_false_iff_ne, bne_iff_ne, bne_eq_false_iff_eq, Bool.not_eq_true', Bool.not_eq_false', List.length_set, ne_eq, ge_iff_le, gt_iff_lt, setF_len, toNat_cast, lenOk]; omega) ?_
          rfl
      · show seqM (ref09_Right_t35 _ _ _).run _ = _
        exact seqM_out (T.af (by simp only [inK_i64, inB_i, leB_i, ltB_iff, leN_iff, slOk_iff, ble_iff, blt_iff, decide_eq_true_eq, decide_eq_false_iff_not, beq_iff_eq, beq_eq_false_iff_ne, bne_iff_ne, bne_eq_false_iff_eq, Bool.not_eq_true', Bool.not_eq_false', List.length_set, ne_eq, ge_iff_le, gt_iff_lt, setF_len, toNat_cast, lenOk]; omega) rfl)

end Go.Plb.Seat
