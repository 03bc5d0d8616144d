/-
  Part 5 of what the claim leans on: an evaluator of the model, proved sound; the contracts of the functions.
-/
import Derived.Test.YtanghnggbjpjgaaA4
namespace Go.Plb.Seat
open Go Go.Plb
set_option linter.unusedVariables false
set_option maxRecDepth 10000
noncomputable section

inductive ref09_Block_X where
  | r0 (i77 : Int) (i78 : Int) (a79 : Nat) (l80 : List Nat)
def ref09_Block_E : ref09_Block_X → AE × ASt
  | .r0 i77 i78 a79 l80 => (.ret, ⟨slots 157 [(6, .ptr 0 1 0 0)], [(0, .vs [.int .i64 i77, .int .i64 i78, .sl 1 1 1 0 a79 a79]), (1, .fl l80)], 2⟩)
theorem ref09_Block_hN : NoN ref09_Block_E := by intro x; cases x <;> (intro h; cases h)
theorem ref09_Block_hI (id : Nat) : NoId id ref09_Block_E := by intro x; cases x <;> (intro h; cases h)
def ref09_Block_o : ref09_Block_X → Out
  | .r0 i77 i78 a79 l80 => ⟨.agg [.int .i64 i77, .int .i64 i78, .sl 0 1 1 0 a79 a79], [some (.fl l80)]⟩
noncomputable def ref09_Block_l138 : List Code := flat (BODY n_ref09_Block)
def ref09_Block_n1 (a_0 : Int) (a_1 : Int) (v_2 : Lv) (a_3 : List Nat) (t_4 : Int) (t_5 : Int) (v_6 : Lv) (t_7 : List Nat) (v_8 : Lv) (l_9 : Nat) (l_10 : List (List Nat)) (l_11 : List Nat) (l1 : (List Nat)) : ASt := ⟨slots 157 [(2, .imm v_8 (.cols l_9 [.cfl l_10, .cf l_11]) 2 2 0 l_9), (3, .ptr 0 1 0 0), (4, .ptr 1 1 0 0), (6, .ptr 2 1 0 0), (7, .int .i64 ((l_9 : Nat) : Int)), (8, .ptr 3 1 0 0), (9, .int .i64 (0 : Int))], [(0, .vs [.int .i64 a_0, .int .i64 a_1, .imm v_2 (.fl a_3) 1 1 0 (List.length a_3)]), (1, .vs [.int .i64 t_4, .int .i64 t_5, .imm v_6 (.fl t_7) 1 1 0 (List.length t_7)]), (2, .vs [.int .i64 (0 : Int), .int .i64 (0 : Int), .nsl]), (3, .vs [.int .i64 a_0, .int .i64 a_1, .sl 4 1 1 0 (List.length a_3) (List.length a_3)]), (4, .fl l1)], 5⟩
def ref09_Block_t139 (a_3 : List Nat) : T (((List Nat)) ⊕ (ref09_Block_X)) :=
  .need (leN ((List.length a_3) * 8) 140737488355328) <| .need (leN (List.length a_3) 9223372036854775807) <| .need (leN (List.length a_3) (List.length a_3)) <| .leaf (.inl (List.take (List.length a_3) a_3))
def ref09_Block_n69 (a_0 : Int) (a_1 : Int) (v_2 : Lv) (a_3 : List Nat) (t_4 : Int) (t_5 : Int) (v_6 : Lv) (t_7 : List Nat) (v_8 : Lv) (l_9 : Nat) (l_10 : List (List Nat)) (l_11 : List Nat) : Nat × (List Nat) → ASt := fun (c38, l39) => ⟨slots 157 [(2, .imm v_8 (.cols l_9 [.cfl l_10, .cf l_11]) 2 2 0 l_9), (3, .ptr 0 1 0 0), (4, .ptr 1 1 0 0), (6, .ptr 2 1 0 0), (7, .int .i64 ((l_9 : Nat) : Int)), (8, .ptr 3 1 0 0), (9, .int .i64 ((c38 : Nat) : Int))], [(0, .vs [.int .i64 a_0, .int .i64 a_1, .imm v_2 (.fl a_3) 1 1 0 (List.length a_3)]), (1, .vs [.int .i64 t_4, .int .i64 t_5, .imm v_6 (.fl t_7) 1 1 0 (List.length t_7)]), (2, .vs [.int .i64 (0 : Int), .int .i64 (0 : Int), .nsl]), (3, .vs [.int .i64 a_0, .int .i64 a_1, .sl 4 1 1 0 (List.length a_3) (List.length a_3)]), (4, .fl l39)], 5⟩
def ref09_Block_n136 (a_0 : Int) (a_1 : Int) (a_3 : List Nat) (l76 : (List Nat)) : ASt := ⟨slots 157 [(6, .ptr 0 1 0 0), (8, .ptr 1 1 0 0)], [(0, .vs [.int .i64 (0 : Int), .int .i64 (0 : Int), .nsl]), (1, .vs [.int .i64 a_0, .int .i64 a_1, .sl 2 1 1 0 (List.length a_3) (List.length a_3)]), (2, .fl l76)], 3⟩
noncomputable def ref09_Block_l140 : List Code := flat (inLoop ((((ref09_Block_l138.drop 4).take 1)).headD .skip))
def ref09_Block_n70 (a_0 : Int) (a_1 : Int) (v_2 : Lv) (a_3 : List Nat) (t_4 : Int) (t_5 : Int) (v_6 : Lv) (t_7 : List Nat) (v_8 : Lv) (l_9 : Nat) (l_10 : List (List Nat)) (l_11 : List Nat) (c38 : Nat) (l39 : List Nat) (_ : Unit) : ASt := ⟨slots 157 [(2, .imm v_8 (.cols l_9 [.cfl l_10, .cf l_11]) 2 2 0 l_9), (3, .ptr 0 1 0 0), (4, .ptr 1 1 0 0), (6, .ptr 2 1 0 0), (7, .int .i64 ((l_9 : Nat) : Int)), (8, .ptr 3 1 0 0), (9, .int .i64 ((c38 : Nat) : Int))], [(0, .vs [.int .i64 a_0, .int .i64 a_1, .imm v_2 (.fl a_3) 1 1 0 (List.length a_3)]), (1, .vs [.int .i64 t_4, .int .i64 t_5, .imm v_6 (.fl t_7) 1 1 0 (List.length t_7)]), (2, .vs [.int .i64 (0 : Int), .int .i64 (0 : Int), .nsl]), (3, .vs [.int .i64 a_0, .int .i64 a_1, .sl 4 1 1 0 (List.length a_3) (List.length a_3)]), (4, .fl l39)], 5⟩
def ref09_Block_t141 (a_1 : Int) (c38 : Nat) (l39 : List Nat) : T ((Unit) ⊕ (((List Nat)) ⊕ (ref09_Block_X))) :=
  .ask (decide (((c38 : Nat) : Int) < a_1))
    (.leaf (.inl ()))
    (.leaf (.inr (.inl l39)))
def ref09_Block_n134 (a_0 : Int) (a_1 : Int) (v_2 : Lv) (a_3 : List Nat) (t_4 : Int) (t_5 : Int) (v_6 : Lv) (t_7 : List Nat) (v_8 : Lv) (l_9 : Nat) (l_10 : List (List Nat)) (l_11 : List Nat) (c38 : Nat) (l75 : (List Nat)) : ASt := ⟨slots 157 [(2, .imm v_8 (.cols l_9 [.cfl l_10, .cf l_11]) 2 2 0 l_9), (3, .ptr 0 1 0 0), (4, .ptr 1 1 0 0), (6, .ptr 2 1 0 0), (7, .int .i64 ((l_9 : Nat) : Int)), (8, .ptr 3 1 0 0), (9, .int .i64 ((c38 : Nat) : Int))], [(0, .vs [.int .i64 a_0, .int .i64 a_1, .imm v_2 (.fl a_3) 1 1 0 (List.length a_3)]), (1, .vs [.int .i64 t_4, .int .i64 t_5, .imm v_6 (.fl t_7) 1 1 0 (List.length t_7)]), (2, .vs [.int .i64 (0 : Int), .int .i64 (0 : Int), .nsl]), (3, .vs [.int .i64 a_0, .int .i64 a_1, .sl 4 1 1 0 (List.length a_3) (List.length a_3)]), (4, .fl l75)], 5⟩
noncomputable def ref09_Block_l142 : List Code := flat (inBlock ((((ref09_Block_l140.drop 2).take 1)).headD .skip))
def ref09_Block_n71 (a_0 : Int) (a_1 : Int) (v_2 : Lv) (a_3 : List Nat) (t_4 : Int) (t_5 : Int) (v_6 : Lv) (t_7 : List Nat) (v_8 : Lv) (l_9 : Nat) (l_10 : List (List Nat)) (l_11 : List Nat) (c38 : Nat) (l39 : List Nat) (l40 : (List Nat)) : ASt := ⟨slots 157 [(2, .imm v_8 (.cols l_9 [.cfl l_10, .cf l_11]) 2 2 0 l_9), (3, .ptr 0 1 0 0), (4, .ptr 1 1 0 0), (6, .ptr 2 1 0 0), (7, .int .i64 ((l_9 : Nat) : Int)), (8, .ptr 3 1 0 0), (9, .int .i64 ((c38 : Nat) : Int)), (10, .sl 4 1 1 0 l_9 l_9), (11, .int .i64 (0 : Int))], [(0, .vs [.int .i64 a_0, .int .i64 a_1, .imm v_2 (.fl a_3) 1 1 0 (List.length a_3)]), (1, .vs [.int .i64 t_4, .int .i64 t_5, .imm v_6 (.fl t_7) 1 1 0 (List.length t_7)]), (2, .vs [.int .i64 (0 : Int), .int .i64 (0 : Int), .nsl]), (3, .vs [.int .i64 a_0, .int .i64 a_1, .sl 5 1 1 0 (List.length a_3) (List.length a_3)]), (4, .fl l40), (5, .fl l39)], 6⟩
def ref09_Block_t143 (l_9 : Nat) : T (((List Nat)) ⊕ (((List Nat)) ⊕ (((List Nat)) ⊕ (ref09_Block_X)))) :=
  .need (decide ((0 : Int) ≤ ((l_9 : Nat) : Int))) <| .need (decide (((l_9 : Nat) : Int) ≤ ((l_9 : Nat) : Int))) <| .need (decide ((8 : Int) * ((l_9 : Nat) : Int) ≤ 140737488355328)) <| .need (inK .i64 ((l_9 : Nat) : Int)) <| .leaf (.inl (List.replicate l_9 0))
def ref09_Block_n81 (a_0 : Int) (a_1 : Int) (v_2 : Lv) (a_3 : List Nat) (t_4 : Int) (t_5 : Int) (v_6 : Lv) (t_7 : List Nat) (v_8 : Lv) (l_9 : Nat) (l_10 : List (List Nat)) (l_11 : List Nat) (c38 : Nat) (l39 : List Nat) : Nat × (List Nat) → ASt := fun (i45, l46) => ⟨slots 157 [(2, .imm v_8 (.cols l_9 [.cfl l_10, .cf l_11]) 2 2 0 l_9), (3, .ptr 0 1 0 0), (4, .ptr 1 1 0 0), (6, .ptr 2 1 0 0), (7, .int .i64 ((l_9 : Nat) : Int)), (8, .ptr 3 1 0 0), (9, .int .i64 ((c38 : Nat) : Int)), (10, .sl 4 1 1 0 l_9 l_9), (11, .int .i64 ((i45 : Nat) : Int))], [(0, .vs [.int .i64 a_0, .int .i64 a_1, .imm v_2 (.fl a_3) 1 1 0 (List.length a_3)]), (1, .vs [.int .i64 t_4, .int .i64 t_5, .imm v_6 (.fl t_7) 1 1 0 (List.length t_7)]), (2, .vs [.int .i64 (0 : Int), .int .i64 (0 : Int), .nsl]), (3, .vs [.int .i64 a_0, .int .i64 a_1, .sl 5 1 1 0 (List.length a_3) (List.length a_3)]), (4, .fl l46), (5, .fl l39)], 6⟩
def ref09_Block_n90 (a_0 : Int) (a_1 : Int) (v_2 : Lv) (a_3 : List Nat) (t_4 : Int) (t_5 : Int) (v_6 : Lv) (t_7 : List Nat) (v_8 : Lv) (l_9 : Nat) (l_10 : List (List Nat)) (l_11 : List Nat) (c38 : Nat) (l39 : List Nat) (l51 : (List Nat)) : ASt := ⟨slots 157 [(2, .imm v_8 (.cols l_9 [.cfl l_10, .cf l_11]) 2 2 0 l_9), (3, .ptr 0 1 0 0), (4, .ptr 1 1 0 0), (6, .ptr 2 1 0 0), (7, .int .i64 ((l_9 : Nat) : Int)), (8, .ptr 3 1 0 0), (9, .int .i64 ((c38 : Nat) : Int)), (10, .sl 4 1 1 0 l_9 l_9)], [(0, .vs [.int .i64 a_0, .int .i64 a_1, .imm v_2 (.fl a_3) 1 1 0 (List.length a_3)]), (1, .vs [.int .i64 t_4, .int .i64 t_5, .imm v_6 (.fl t_7) 1 1 0 (List.length t_7)]), (2, .vs [.int .i64 (0 : Int), .int .i64 (0 : Int), .nsl]), (3, .vs [.int .i64 a_0, .int .i64 a_1, .sl 5 1 1 0 (List.length a_3) (List.length a_3)]), (4, .fl l51), (5, .fl l39)], 6⟩
noncomputable def ref09_Block_l144 : List Code := flat (inLoop ((((ref09_Block_l142.drop 2).take 1)).headD .skip))
def ref09_Block_n82 (a_0 : Int) (a_1 : Int) (v_2 : Lv) (a_3 : List Nat) (t_4 : Int) (t_5 : Int) (v_6 : Lv) (t_7 : List Nat) (v_8 : Lv) (l_9 : Nat) (l_10 : List (List Nat)) (l_11 : List Nat) (c38 : Nat) (l39 : List Nat) (i45 : Nat) (l46 : List Nat) (_ : Unit) : ASt := ⟨slots 157 [(2, .imm v_8 (.cols l_9 [.cfl l_10, .cf l_11]) 2 2 0 l_9), (3, .ptr 0 1 0 0), (4, .ptr 1 1 0 0), (6, .ptr 2 1 0 0), (7, .int .i64 ((l_9 : Nat) : Int)), (8, .ptr 3 1 0 0), (9, .int .i64 ((c38 : Nat) : Int)), (10, .sl 4 1 1 0 l_9 l_9), (11, .int .i64 ((i45 : Nat) : Int))], [(0, .vs [.int .i64 a_0, .int .i64 a_1, .imm v_2 (.fl a_3) 1 1 0 (List.length a_3)]), (1, .vs [.int .i64 t_4, .int .i64 t_5, .imm v_6 (.fl t_7) 1 1 0 (List.length t_7)]), (2, .vs [.int .i64 (0 : Int), .int .i64 (0 : Int), .nsl]), (3, .vs [.int .i64 a_0, .int .i64 a_1, .sl 5 1 1 0 (List.length a_3) (List.length a_3)]), (4, .fl l46), (5, .fl l39)], 6⟩
def ref09_Block_t145 (l_9 : Nat) (i45 : Nat) (l46 : List Nat) : T ((Unit) ⊕ (((List Nat)) ⊕ (((List Nat)) ⊕ (((List Nat)) ⊕ (ref09_Block_X))))) :=
  .ask (decide (((i45 : Nat) : Int) < ((l_9 : Nat) : Int)))
    (.leaf (.inl ()))
    (.leaf (.inr (.inl l46)))
def ref09_Block_n88 (a_0 : Int) (a_1 : Int) (v_2 : Lv) (a_3 : List Nat) (t_4 : Int) (t_5 : Int) (v_6 : Lv) (t_7 : List Nat) (v_8 : Lv) (l_9 : Nat) (l_10 : List (List Nat)) (l_11 : List Nat) (c38 : Nat) (l39 : List Nat) (i45 : Nat) (l50 : (List Nat)) : ASt := ⟨slots 157 [(2, .imm v_8 (.cols l_9 [.cfl l_10, .cf l_11]) 2 2 0 l_9), (3, .ptr 0 1 0 0), (4, .ptr 1 1 0 0), (6, .ptr 2 1 0 0), (7, .int .i64 ((l_9 : Nat) : Int)), (8, .ptr 3 1 0 0), (9, .int .i64 ((c38 : Nat) : Int)), (10, .sl 4 1 1 0 l_9 l_9), (11, .int .i64 ((i45 : Nat) : Int))], [(0, .vs [.int .i64 a_0, .int .i64 a_1, .imm v_2 (.fl a_3) 1 1 0 (List.length a_3)]), (1, .vs [.int .i64 t_4, .int .i64 t_5, .imm v_6 (.fl t_7) 1 1 0 (List.length t_7)]), (2, .vs [.int .i64 (0 : Int), .int .i64 (0 : Int), .nsl]), (3, .vs [.int .i64 a_0, .int .i64 a_1, .sl 5 1 1 0 (List.length a_3) (List.length a_3)]), (4, .fl l50), (5, .fl l39)], 6⟩
noncomputable def ref09_Block_l146 : List Code := flat (inBlock ((((ref09_Block_l144.drop 2).take 1)).headD .skip))
def ref09_Block_n83 (a_0 : Int) (a_1 : Int) (v_2 : Lv) (a_3 : List Nat) (t_4 : Int) (t_5 : Int) (v_6 : Lv) (t_7 : List Nat) (v_8 : Lv) (l_9 : Nat) (l_10 : List (List Nat)) (l_11 : List Nat) (c38 : Nat) (l39 : List Nat) (i45 : Nat) (l46 : List Nat) (_ : Unit) : ASt := ⟨slots 157 [(2, .imm v_8 (.cols l_9 [.cfl l_10, .cf l_11]) 2 2 0 l_9), (3, .ptr 0 1 0 0), (4, .ptr 1 1 0 0), (6, .ptr 2 1 0 0), (7, .int .i64 ((l_9 : Nat) : Int)), (8, .ptr 3 1 0 0), (9, .int .i64 ((c38 : Nat) : Int)), (10, .sl 4 1 1 0 l_9 l_9), (11, .int .i64 ((i45 : Nat) : Int)), (12, .int .i64 (0 : Int))], [(0, .vs [.int .i64 a_0, .int .i64 a_1, .imm v_2 (.fl a_3) 1 1 0 (List.length a_3)]), (1, .vs [.int .i64 t_4, .int .i64 t_5, .imm v_6 (.fl t_7) 1 1 0 (List.length t_7)]), (2, .vs [.int .i64 (0 : Int), .int .i64 (0 : Int), .nsl]), (3, .vs [.int .i64 a_0, .int .i64 a_1, .sl 5 1 1 0 (List.length a_3) (List.length a_3)]), (4, .fl l46), (5, .fl l39)], 6⟩
def ref09_Block_t147 : T ((Unit) ⊕ (((List Nat)) ⊕ (((List Nat)) ⊕ (((List Nat)) ⊕ (((List Nat)) ⊕ (ref09_Block_X)))))) :=
  .leaf (.inl ())
def ref09_Block_n85 (a_0 : Int) (a_1 : Int) (v_2 : Lv) (a_3 : List Nat) (t_4 : Int) (t_5 : Int) (v_6 : Lv) (t_7 : List Nat) (v_8 : Lv) (l_9 : Nat) (l_10 : List (List Nat)) (l_11 : List Nat) (c38 : Nat) (l39 : List Nat) (i45 : Nat) : Nat × (List Nat) → ASt := fun (r47, l48) => ⟨slots 157 [(2, .imm v_8 (.cols l_9 [.cfl l_10, .cf l_11]) 2 2 0 l_9), (3, .ptr 0 1 0 0), (4, .ptr 1 1 0 0), (6, .ptr 2 1 0 0), (7, .int .i64 ((l_9 : Nat) : Int)), (8, .ptr 3 1 0 0), (9, .int .i64 ((c38 : Nat) : Int)), (10, .sl 4 1 1 0 l_9 l_9), (11, .int .i64 ((i45 : Nat) : Int)), (12, .int .i64 ((r47 : Nat) : Int))], [(0, .vs [.int .i64 a_0, .int .i64 a_1, .imm v_2 (.fl a_3) 1 1 0 (List.length a_3)]), (1, .vs [.int .i64 t_4, .int .i64 t_5, .imm v_6 (.fl t_7) 1 1 0 (List.length t_7)]), (2, .vs [.int .i64 (0 : Int), .int .i64 (0 : Int), .nsl]), (3, .vs [.int .i64 a_0, .int .i64 a_1, .sl 5 1 1 0 (List.length a_3) (List.length a_3)]), (4, .fl l48), (5, .fl l39)], 6⟩
def ref09_Block_n86 (a_0 : Int) (a_1 : Int) (v_2 : Lv) (a_3 : List Nat) (t_4 : Int) (t_5 : Int) (v_6 : Lv) (t_7 : List Nat) (v_8 : Lv) (l_9 : Nat) (l_10 : List (List Nat)) (l_11 : List Nat) (c38 : Nat) (l39 : List Nat) (i45 : Nat) (l49 : (List Nat)) : ASt := ⟨slots 157 [(2, .imm v_8 (.cols l_9 [.cfl l_10, .cf l_11]) 2 2 0 l_9), (3, .ptr 0 1 0 0), (4, .ptr 1 1 0 0), (6, .ptr 2 1 0 0), (7, .int .i64 ((l_9 : Nat) : Int)), (8, .ptr 3 1 0 0), (9, .int .i64 ((c38 : Nat) : Int)), (10, .sl 4 1 1 0 l_9 l_9), (11, .int .i64 ((i45 : Nat) : Int))], [(0, .vs [.int .i64 a_0, .int .i64 a_1, .imm v_2 (.fl a_3) 1 1 0 (List.length a_3)]), (1, .vs [.int .i64 t_4, .int .i64 t_5, .imm v_6 (.fl t_7) 1 1 0 (List.length t_7)]), (2, .vs [.int .i64 (0 : Int), .int .i64 (0 : Int), .nsl]), (3, .vs [.int .i64 a_0, .int .i64 a_1, .sl 5 1 1 0 (List.length a_3) (List.length a_3)]), (4, .fl l49), (5, .fl l39)], 6⟩
noncomputable def ref09_Block_l148 : List Code := flat (inLoop ((((ref09_Block_l146.drop 1).take 1)).headD .skip))
def ref09_Block_t149 (a_0 : Int) (a_1 : Int) (a_3 : List Nat) (l_9 : Nat) (l_10 : List (List Nat)) (c38 : Nat) (i45 : Nat) (r47 : Nat) (l48 : List Nat) : T ((Nat × (List Nat)) ⊕ (((List Nat)) ⊕ (((List Nat)) ⊕ (((List Nat)) ⊕ (((List Nat)) ⊕ (((List Nat)) ⊕ (ref09_Block_X))))))) :=
  .ask (decide (((r47 : Nat) : Int) < a_0))
    (.need (inB ((i45 : Nat) : Int) l_9) <| .need (ltB i45 (List.length l_10)) <| .need (inB ((r47 : Nat) : Int) (List.length (List.getD l_10 i45 []))) <| .need (ltB r47 (List.length (List.getD l_10 i45 []))) <| .need (inK .i64 (((r47 : Nat) : Int) * a_1)) <| .need (inK .i64 ((((r47 : Nat) : Int) * a_1) + ((c38 : Nat) : Int))) <| .need (inB ((((r47 : Nat) : Int) * a_1) + ((c38 : Nat) : Int)) (List.length a_3)) <| .need (ltB (Int.toNat ((((r47 : Nat) : Int) * a_1) + ((c38 : Nat) : Int))) (List.length a_3)) <| .need (inB ((i45 : Nat) : Int) l_9) <| .need (ltB i45 (List.length l48)) <| .need (inB ((i45 : Nat) : Int) l_9) <| .need (ltB i45 (List.length l48)) <| .need (inK .i64 (((r47 + 1) : Nat) : Int)) <| .leaf (.inl ((r47 + 1), (List.set l48 i45 (fadd (List.getD l48 i45 0) (fmul (List.getD (List.getD l_10 i45 []) r47 0) (List.getD a_3 (Int.toNat ((((r47 : Nat) : Int) * a_1) + ((c38 : Nat) : Int))) 0)))))))
    (.leaf (.inr (.inl l48)))
noncomputable def ref09_Block_m150 (a_0 : Int) (a_1 : Int) (a_3 : List Nat) (l_9 : Nat) (l_10 : List (List Nat)) (c38 : Nat) (i45 : Nat) : Nat × (List Nat) → Option ((Nat × (List Nat)) ⊕ (((List Nat)) ⊕ (((List Nat)) ⊕ (((List Nat)) ⊕ (((List Nat)) ⊕ (((List Nat)) ⊕ (ref09_Block_X))))))) := fun (r47, l48) =>
  (ref09_Block_t149 a_0 a_1 a_3 l_9 l_10 c38 i45 r47 l48).run
theorem ref09_Block_s150 (a_0 : Int) (a_1 : Int) (v_2 : Lv) (a_3 : List Nat) (t_4 : Int) (t_5 : Int) (v_6 : Lv) (t_7 : List Nat) (v_8 : Lv) (l_9 : Nat) (l_10 : List (List Nat)) (l_11 : List Nat) (c38 : Nat) (l39 : List Nat) (i45 : Nat) (r47 : Nat) (l48 : List Nat) : Sg prog [] ref09_Block_l148 (ref09_Block_n85 a_0 a_1 v_2 a_3 t_4 t_5 v_6 t_7 v_8 l_9 l_10 l_11 c38 l39 i45 (r47, l48)) (ref09_Block_m150 a_0 a_1 a_3 l_9 l_10 c38 i45 (r47, l48)) (ref09_Block_n85 a_0 a_1 v_2 a_3 t_4 t_5 v_6 t_7 v_8 l_9 l_10 l_11 c38 l39 i45) (exitE 4 (ref09_Block_n86 a_0 a_1 v_2 a_3 t_4 t_5 v_6 t_7 v_8 l_9 l_10 l_11 c38 l39 i45) (exitE 3 (ref09_Block_n88 a_0 a_1 v_2 a_3 t_4 t_5 v_6 t_7 v_8 l_9 l_10 l_11 c38 l39 i45) (exitE 2 (ref09_Block_n90 a_0 a_1 v_2 a_3 t_4 t_5 v_6 t_7 v_8 l_9 l_10 l_11 c38 l39) (exitE 1 (ref09_Block_n134 a_0 a_1 v_2 a_3 t_4 t_5 v_6 t_7 v_8 l_9 l_10 l_11 c38) (exitE 0 (ref09_Block_n136 a_0 a_1 a_3) ref09_Block_E))))) :=
  Sg.seg (C := C0) C0_ok L_reflect_Block_ok 60 ref09_Block_l148 (ref09_Block_n85 a_0 a_1 v_2 a_3 t_4 t_5 v_6 t_7 v_8 l_9 l_10 l_11 c38 l39 i45 (r47, l48)) (ref09_Block_t149 a_0 a_1 a_3 l_9 l_10 c38 i45 r47 l48) (ref09_Block_n85 a_0 a_1 v_2 a_3 t_4 t_5 v_6 t_7 v_8 l_9 l_10 l_11 c38 l39 i45) (exitE 4 (ref09_Block_n86 a_0 a_1 v_2 a_3 t_4 t_5 v_6 t_7 v_8 l_9 l_10 l_11 c38 l39 i45) (exitE 3 (ref09_Block_n88 a_0 a_1 v_2 a_3 t_4 t_5 v_6 t_7 v_8 l_9 l_10 l_11 c38 l39 i45) (exitE 2 (ref09_Block_n90 a_0 a_1 v_2 a_3 t_4 t_5 v_6 t_7 v_8 l_9 l_10 l_11 c38 l39) (exitE 1 (ref09_Block_n134 a_0 a_1 v_2 a_3 t_4 t_5 v_6 t_7 v_8 l_9 l_10 l_11 c38) (exitE 0 (ref09_Block_n136 a_0 a_1 a_3) ref09_Block_E))))) [⟨[], [0, 1, 2, 3, 4, 5], [2, 3, 4, 6, 7, 8, 9, 10, 11, 12]⟩, ⟨[], [0, 1, 2, 3, 4, 5], [2, 3, 4, 6, 7, 8, 9, 10, 11]⟩] (by kernel_rfl)
def ref09_Block_n87 (a_0 : Int) (a_1 : Int) (v_2 : Lv) (a_3 : List Nat) (t_4 : Int) (t_5 : Int) (v_6 : Lv) (t_7 : List Nat) (v_8 : Lv) (l_9 : Nat) (l_10 : List (List Nat)) (l_11 : List Nat) (c38 : Nat) (l39 : List Nat) (i45 : Nat) : (List Nat) → ASt := ref09_Block_n86 a_0 a_1 v_2 a_3 t_4 t_5 v_6 t_7 v_8 l_9 l_10 l_11 c38 l39 i45
def ref09_Block_t151 (l49 : List Nat) : T (((List Nat)) ⊕ (((List Nat)) ⊕ (((List Nat)) ⊕ (((List Nat)) ⊕ (((List Nat)) ⊕ (ref09_Block_X)))))) :=
  .leaf (.inl l49)
def ref09_Block_n89 (a_0 : Int) (a_1 : Int) (v_2 : Lv) (a_3 : List Nat) (t_4 : Int) (t_5 : Int) (v_6 : Lv) (t_7 : List Nat) (v_8 : Lv) (l_9 : Nat) (l_10 : List (List Nat)) (l_11 : List Nat) (c38 : Nat) (l39 : List Nat) (i45 : Nat) : (List Nat) → ASt := ref09_Block_n88 a_0 a_1 v_2 a_3 t_4 t_5 v_6 t_7 v_8 l_9 l_10 l_11 c38 l39 i45
def ref09_Block_t152 (i45 : Nat) (l50 : List Nat) : T ((Nat × (List Nat)) ⊕ (((List Nat)) ⊕ (((List Nat)) ⊕ (((List Nat)) ⊕ (ref09_Block_X))))) :=
  .need (inK .i64 (((i45 + 1) : Nat) : Int)) <| .leaf (.inl ((i45 + 1), l50))
noncomputable def ref09_Block_m153 (a_0 : Int) (a_1 : Int) (a_3 : List Nat) (l_9 : Nat) (l_10 : List (List Nat)) (c38 : Nat) : Nat × (List Nat) → Option ((Nat × (List Nat)) ⊕ (((List Nat)) ⊕ (((List Nat)) ⊕ (((List Nat)) ⊕ (ref09_Block_X))))) := fun (i45, l46) =>
  seqM ((ref09_Block_t145 l_9 i45 l46).run) fun _ =>
  seqM (joinM (seqM ((ref09_Block_t147).run) fun _ =>
  seqM (loopM (ref09_Block_m150 a_0 a_1 a_3 l_9 l_10 c38 i45) (0, l46)) fun l49 =>
  (ref09_Block_t151 l49).run)) fun l50 =>
  (ref09_Block_t152 i45 l50).run
theorem ref09_Block_s153 (a_0 : Int) (a_1 : Int) (v_2 : Lv) (a_3 : List Nat) (t_4 : Int) (t_5 : Int) (v_6 : Lv) (t_7 : List Nat) (v_8 : Lv) (l_9 : Nat) (l_10 : List (List Nat)) (l_11 : List Nat) (c38 : Nat) (l39 : List Nat) (i45 : Nat) (l46 : List Nat) : Sg prog [] ref09_Block_l144 (ref09_Block_n81 a_0 a_1 v_2 a_3 t_4 t_5 v_6 t_7 v_8 l_9 l_10 l_11 c38 l39 (i45, l46)) (ref09_Block_m153 a_0 a_1 a_3 l_9 l_10 c38 (i45, l46)) (ref09_Block_n81 a_0 a_1 v_2 a_3 t_4 t_5 v_6 t_7 v_8 l_9 l_10 l_11 c38 l39) (exitE 2 (ref09_Block_n90 a_0 a_1 v_2 a_3 t_4 t_5 v_6 t_7 v_8 l_9 l_10 l_11 c38 l39) (exitE 1 (ref09_Block_n134 a_0 a_1 v_2 a_3 t_4 t_5 v_6 t_7 v_8 l_9 l_10 l_11 c38) (exitE 0 (ref09_Block_n136 a_0 a_1 a_3) ref09_Block_E))) :=
  Sg.cut 2 (noN_exit (noN_exit (noN_exit ref09_Block_hN))) (Sg.seg (C := C0) C0_ok L_reflect_Block_ok 60 (ref09_Block_l144.take 2) (ref09_Block_n81 a_0 a_1 v_2 a_3 t_4 t_5 v_6 t_7 v_8 l_9 l_10 l_11 c38 l39 (i45, l46)) (ref09_Block_t145 l_9 i45 l46) (ref09_Block_n82 a_0 a_1 v_2 a_3 t_4 t_5 v_6 t_7 v_8 l_9 l_10 l_11 c38 l39 i45 l46) (exitE 2 (ref09_Block_n90 a_0 a_1 v_2 a_3 t_4 t_5 v_6 t_7 v_8 l_9 l_10 l_11 c38 l39) (exitE 1 (ref09_Block_n134 a_0 a_1 v_2 a_3 t_4 t_5 v_6 t_7 v_8 l_9 l_10 l_11 c38) (exitE 0 (ref09_Block_n136 a_0 a_1 a_3) ref09_Block_E))) [⟨[], [0, 1, 2, 3, 4, 5], [2, 3, 4, 6, 7, 8, 9, 10, 11]⟩, ⟨[], [0, 1, 2, 3, 4, 5], [2, 3, 4, 6, 7, 8, 9, 10]⟩] (by kernel_rfl)) (fun a => by cases a; exact Sg.cut 1 (noN_exit (noN_exit (noN_exit ref09_Block_hN))) (Sg.blockAt (id := 3) (K := (ref09_Block_n88 a_0 a_1 v_2 a_3 t_4 t_5 v_6 t_7 v_8 l_9 l_10 l_11 c38 l39 i45)) (by kernel_rfl : ((ref09_Block_l144.drop 2).take 1) = [.block 3 (inBlock ((((ref09_Block_l144.drop 2).take 1)).headD .skip))]) (noN_exit (noN_exit (noN_exit ref09_Block_hN))) (noId_exit (by decide) (noId_exit (by decide) (noId_exit (by decide) (ref09_Block_hI _)))) (Sg.cut 1 (noN_exit (noN_exit (noN_exit (noN_exit ref09_Block_hN)))) (Sg.seg (C := C0) C0_ok L_reflect_Block_ok 60 (ref09_Block_l146.take 1) (ref09_Block_n82 a_0 a_1 v_2 a_3 t_4 t_5 v_6 t_7 v_8 l_9 l_10 l_11 c38 l39 i45 l46 ()) (ref09_Block_t147) (ref09_Block_n83 a_0 a_1 v_2 a_3 t_4 t_5 v_6 t_7 v_8 l_9 l_10 l_11 c38 l39 i45 l46) (exitE 3 (ref09_Block_n88 a_0 a_1 v_2 a_3 t_4 t_5 v_6 t_7 v_8 l_9 l_10 l_11 c38 l39 i45) (exitE 2 (ref09_Block_n90 a_0 a_1 v_2 a_3 t_4 t_5 v_6 t_7 v_8 l_9 l_10 l_11 c38 l39) (exitE 1 (ref09_Block_n134 a_0 a_1 v_2 a_3 t_4 t_5 v_6 t_7 v_8 l_9 l_10 l_11 c38) (exitE 0 (ref09_Block_n136 a_0 a_1 a_3) ref09_Block_E)))) [⟨[], [0, 1, 2, 3, 4, 5], [2, 3, 4, 6, 7, 8, 9, 10, 11, 12]⟩] (by kernel_rfl)) (fun a => by cases a; exact Sg.cut 1 (noN_exit (noN_exit (noN_exit (noN_exit ref09_Block_hN)))) (Sg.pre ⟨[], [0, 1, 2, 3, 4, 5], [2, 3, 4, 6, 7, 8, 9, 10, 11, 12]⟩ rfl (by kernel_rfl : NS.on ⟨[], [0, 1, 2, 3, 4, 5], [2, 3, 4, 6, 7, 8, 9, 10, 11, 12]⟩ (ref09_Block_n83 a_0 a_1 v_2 a_3 t_4 t_5 v_6 t_7 v_8 l_9 l_10 l_11 c38 l39 i45 l46 ()) = (ref09_Block_n85 a_0 a_1 v_2 a_3 t_4 t_5 v_6 t_7 v_8 l_9 l_10 l_11 c38 l39 i45) (0, l46)) (Sg.loopAt (I := (ref09_Block_n85 a_0 a_1 v_2 a_3 t_4 t_5 v_6 t_7 v_8 l_9 l_10 l_11 c38 l39 i45)) (J := (ref09_Block_n86 a_0 a_1 v_2 a_3 t_4 t_5 v_6 t_7 v_8 l_9 l_10 l_11 c38 l39 i45)) (id := 4) (by kernel_rfl : ((ref09_Block_l146.drop 1).take 1) = [.block 4 (.loop (inLoop ((((ref09_Block_l146.drop 1).take 1)).headD .skip)))]) (noN_exit (noN_exit (noN_exit (noN_exit ref09_Block_hN)))) (noId_exit (by decide) (noId_exit (by decide) (noId_exit (by decide) (noId_exit (by decide) (ref09_Block_hI _))))) (fun s => by obtain ⟨r47, l48⟩ := s; exact ref09_Block_s150 a_0 a_1 v_2 a_3 t_4 t_5 v_6 t_7 v_8 l_9 l_10 l_11 c38 l39 i45 r47 l48) (0, l46))) (fun l49 => by exact Sg.seg (C := C0) C0_ok L_reflect_Block_ok 60 ((ref09_Block_l146.drop 1).drop 1) (ref09_Block_n87 a_0 a_1 v_2 a_3 t_4 t_5 v_6 t_7 v_8 l_9 l_10 l_11 c38 l39 i45 l49) (ref09_Block_t151 l49) (ref09_Block_n88 a_0 a_1 v_2 a_3 t_4 t_5 v_6 t_7 v_8 l_9 l_10 l_11 c38 l39 i45) (exitE 3 (ref09_Block_n88 a_0 a_1 v_2 a_3 t_4 t_5 v_6 t_7 v_8 l_9 l_10 l_11 c38 l39 i45) (exitE 2 (ref09_Block_n90 a_0 a_1 v_2 a_3 t_4 t_5 v_6 t_7 v_8 l_9 l_10 l_11 c38 l39) (exitE 1 (ref09_Block_n134 a_0 a_1 v_2 a_3 t_4 t_5 v_6 t_7 v_8 l_9 l_10 l_11 c38) (exitE 0 (ref09_Block_n136 a_0 a_1 a_3) ref09_Block_E)))) [⟨[], [0, 1, 2, 3, 4, 5], [2, 3, 4, 6, 7, 8, 9, 10, 11]⟩] (by kernel_rfl))))) (fun l50 => by exact Sg.seg (C := C0) C0_ok L_reflect_Block_ok 60 ((ref09_Block_l144.drop 2).drop 1) (ref09_Block_n89 a_0 a_1 v_2 a_3 t_4 t_5 v_6 t_7 v_8 l_9 l_10 l_11 c38 l39 i45 l50) (ref09_Block_t152 i45 l50) (ref09_Block_n81 a_0 a_1 v_2 a_3 t_4 t_5 v_6 t_7 v_8 l_9 l_10 l_11 c38 l39) (exitE 2 (ref09_Block_n90 a_0 a_1 v_2 a_3 t_4 t_5 v_6 t_7 v_8 l_9 l_10 l_11 c38 l39) (exitE 1 (ref09_Block_n134 a_0 a_1 v_2 a_3 t_4 t_5 v_6 t_7 v_8 l_9 l_10 l_11 c38) (exitE 0 (ref09_Block_n136 a_0 a_1 a_3) ref09_Block_E))) [⟨[], [0, 1, 2, 3, 4, 5], [2, 3, 4, 6, 7, 8, 9, 10, 11]⟩] (by kernel_rfl)))
def ref09_Block_n91 (a_0 : Int) (a_1 : Int) (v_2 : Lv) (a_3 : List Nat) (t_4 : Int) (t_5 : Int) (v_6 : Lv) (t_7 : List Nat) (v_8 : Lv) (l_9 : Nat) (l_10 : List (List Nat)) (l_11 : List Nat) (c38 : Nat) (l39 : List Nat) : (List Nat) → ASt := ref09_Block_n90 a_0 a_1 v_2 a_3 t_4 t_5 v_6 t_7 v_8 l_9 l_10 l_11 c38 l39
def ref09_Block_n92 (a_0 : Int) (a_1 : Int) (v_2 : Lv) (a_3 : List Nat) (t_4 : Int) (t_5 : Int) (v_6 : Lv) (t_7 : List Nat) (v_8 : Lv) (l_9 : Nat) (l_10 : List (List Nat)) (l_11 : List Nat) (c38 : Nat) (l39 : List Nat) (l51 : List Nat) (l52 : (List Nat)) : ASt := ⟨slots 157 [(2, .imm v_8 (.cols l_9 [.cfl l_10, .cf l_11]) 2 2 0 l_9), (3, .ptr 0 1 0 0), (4, .ptr 1 1 0 0), (6, .ptr 2 1 0 0), (7, .int .i64 ((l_9 : Nat) : Int)), (8, .ptr 3 1 0 0), (9, .int .i64 ((c38 : Nat) : Int)), (10, .sl 4 1 1 0 l_9 l_9), (14, .sl 5 1 1 0 l_9 l_9), (15, .int .i64 (0 : Int))], [(0, .vs [.int .i64 a_0, .int .i64 a_1, .imm v_2 (.fl a_3) 1 1 0 (List.length a_3)]), (1, .vs [.int .i64 t_4, .int .i64 t_5, .imm v_6 (.fl t_7) 1 1 0 (List.length t_7)]), (2, .vs [.int .i64 (0 : Int), .int .i64 (0 : Int), .nsl]), (3, .vs [.int .i64 a_0, .int .i64 a_1, .sl 6 1 1 0 (List.length a_3) (List.length a_3)]), (4, .fl l51), (5, .fl l52), (6, .fl l39)], 7⟩
def ref09_Block_t154 (l_9 : Nat) : T (((List Nat)) ⊕ (((List Nat)) ⊕ (((List Nat)) ⊕ (ref09_Block_X)))) :=
  .need (decide ((0 : Int) ≤ ((l_9 : Nat) : Int))) <| .need (decide (((l_9 : Nat) : Int) ≤ ((l_9 : Nat) : Int))) <| .need (decide ((8 : Int) * ((l_9 : Nat) : Int) ≤ 140737488355328)) <| .need (inK .i64 ((l_9 : Nat) : Int)) <| .leaf (.inl (List.replicate l_9 0))
def ref09_Block_n102 (a_0 : Int) (a_1 : Int) (v_2 : Lv) (a_3 : List Nat) (t_4 : Int) (t_5 : Int) (v_6 : Lv) (t_7 : List Nat) (v_8 : Lv) (l_9 : Nat) (l_10 : List (List Nat)) (l_11 : List Nat) (c38 : Nat) (l39 : List Nat) (l51 : List Nat) : Nat × (List Nat) → ASt := fun (i57, l58) => ⟨slots 157 [(2, .imm v_8 (.cols l_9 [.cfl l_10, .cf l_11]) 2 2 0 l_9), (3, .ptr 0 1 0 0), (4, .ptr 1 1 0 0), (6, .ptr 2 1 0 0), (7, .int .i64 ((l_9 : Nat) : Int)), (8, .ptr 3 1 0 0), (9, .int .i64 ((c38 : Nat) : Int)), (10, .sl 4 1 1 0 l_9 l_9), (14, .sl 5 1 1 0 l_9 l_9), (15, .int .i64 ((i57 : Nat) : Int))], [(0, .vs [.int .i64 a_0, .int .i64 a_1, .imm v_2 (.fl a_3) 1 1 0 (List.length a_3)]), (1, .vs [.int .i64 t_4, .int .i64 t_5, .imm v_6 (.fl t_7) 1 1 0 (List.length t_7)]), (2, .vs [.int .i64 (0 : Int), .int .i64 (0 : Int), .nsl]), (3, .vs [.int .i64 a_0, .int .i64 a_1, .sl 6 1 1 0 (List.length a_3) (List.length a_3)]), (4, .fl l51), (5, .fl l58), (6, .fl l39)], 7⟩
def ref09_Block_n111 (a_0 : Int) (a_1 : Int) (v_2 : Lv) (a_3 : List Nat) (t_4 : Int) (t_5 : Int) (v_6 : Lv) (t_7 : List Nat) (v_8 : Lv) (l_9 : Nat) (l_10 : List (List Nat)) (l_11 : List Nat) (c38 : Nat) (l39 : List Nat) (l63 : (List Nat)) : ASt := ⟨slots 157 [(2, .imm v_8 (.cols l_9 [.cfl l_10, .cf l_11]) 2 2 0 l_9), (3, .ptr 0 1 0 0), (4, .ptr 1 1 0 0), (6, .ptr 2 1 0 0), (7, .int .i64 ((l_9 : Nat) : Int)), (8, .ptr 3 1 0 0), (9, .int .i64 ((c38 : Nat) : Int)), (14, .sl 4 1 1 0 l_9 l_9)], [(0, .vs [.int .i64 a_0, .int .i64 a_1, .imm v_2 (.fl a_3) 1 1 0 (List.length a_3)]), (1, .vs [.int .i64 t_4, .int .i64 t_5, .imm v_6 (.fl t_7) 1 1 0 (List.length t_7)]), (2, .vs [.int .i64 (0 : Int), .int .i64 (0 : Int), .nsl]), (3, .vs [.int .i64 a_0, .int .i64 a_1, .sl 5 1 1 0 (List.length a_3) (List.length a_3)]), (4, .fl l63), (5, .fl l39)], 6⟩
noncomputable def ref09_Block_l155 : List Code := flat (inLoop ((((((ref09_Block_l142.drop 2).drop 1).drop 2).take 1)).headD .skip))
def ref09_Block_n103 (a_0 : Int) (a_1 : Int) (v_2 : Lv) (a_3 : List Nat) (t_4 : Int) (t_5 : Int) (v_6 : Lv) (t_7 : List Nat) (v_8 : Lv) (l_9 : Nat) (l_10 : List (List Nat)) (l_11 : List Nat) (c38 : Nat) (l39 : List Nat) (l51 : List Nat) (i57 : Nat) (l58 : List Nat) (_ : Unit) : ASt := ⟨slots 157 [(2, .imm v_8 (.cols l_9 [.cfl l_10, .cf l_11]) 2 2 0 l_9), (3, .ptr 0 1 0 0), (4, .ptr 1 1 0 0), (6, .ptr 2 1 0 0), (7, .int .i64 ((l_9 : Nat) : Int)), (8, .ptr 3 1 0 0), (9, .int .i64 ((c38 : Nat) : Int)), (10, .sl 4 1 1 0 l_9 l_9), (14, .sl 5 1 1 0 l_9 l_9), (15, .int .i64 ((i57 : Nat) : Int))], [(0, .vs [.int .i64 a_0, .int .i64 a_1, .imm v_2 (.fl a_3) 1 1 0 (List.length a_3)]), (1, .vs [.int .i64 t_4, .int .i64 t_5, .imm v_6 (.fl t_7) 1 1 0 (List.length t_7)]), (2, .vs [.int .i64 (0 : Int), .int .i64 (0 : Int), .nsl]), (3, .vs [.int .i64 a_0, .int .i64 a_1, .sl 6 1 1 0 (List.length a_3) (List.length a_3)]), (4, .fl l51), (5, .fl l58), (6, .fl l39)], 7⟩
def ref09_Block_t156 (l_9 : Nat) (i57 : Nat) (l58 : List Nat) : T ((Unit) ⊕ (((List Nat)) ⊕ (((List Nat)) ⊕ (((List Nat)) ⊕ (ref09_Block_X))))) :=
  .ask (decide (((i57 : Nat) : Int) < ((l_9 : Nat) : Int)))
    (.leaf (.inl ()))
    (.leaf (.inr (.inl l58)))
def ref09_Block_n109 (a_0 : Int) (a_1 : Int) (v_2 : Lv) (a_3 : List Nat) (t_4 : Int) (t_5 : Int) (v_6 : Lv) (t_7 : List Nat) (v_8 : Lv) (l_9 : Nat) (l_10 : List (List Nat)) (l_11 : List Nat) (c38 : Nat) (l39 : List Nat) (l51 : List Nat) (i57 : Nat) (l62 : (List Nat)) : ASt := ⟨slots 157 [(2, .imm v_8 (.cols l_9 [.cfl l_10, .cf l_11]) 2 2 0 l_9), (3, .ptr 0 1 0 0), (4, .ptr 1 1 0 0), (6, .ptr 2 1 0 0), (7, .int .i64 ((l_9 : Nat) : Int)), (8, .ptr 3 1 0 0), (9, .int .i64 ((c38 : Nat) : Int)), (10, .sl 4 1 1 0 l_9 l_9), (14, .sl 5 1 1 0 l_9 l_9), (15, .int .i64 ((i57 : Nat) : Int))], [(0, .vs [.int .i64 a_0, .int .i64 a_1, .imm v_2 (.fl a_3) 1 1 0 (List.length a_3)]), (1, .vs [.int .i64 t_4, .int .i64 t_5, .imm v_6 (.fl t_7) 1 1 0 (List.length t_7)]), (2, .vs [.int .i64 (0 : Int), .int .i64 (0 : Int), .nsl]), (3, .vs [.int .i64 a_0, .int .i64 a_1, .sl 6 1 1 0 (List.length a_3) (List.length a_3)]), (4, .fl l51), (5, .fl l62), (6, .fl l39)], 7⟩
noncomputable def ref09_Block_l157 : List Code := flat (inBlock ((((ref09_Block_l155.drop 2).take 1)).headD .skip))
def ref09_Block_n104 (a_0 : Int) (a_1 : Int) (v_2 : Lv) (a_3 : List Nat) (t_4 : Int) (t_5 : Int) (v_6 : Lv) (t_7 : List Nat) (v_8 : Lv) (l_9 : Nat) (l_10 : List (List Nat)) (l_11 : List Nat) (c38 : Nat) (l39 : List Nat) (l51 : List Nat) (i57 : Nat) (l58 : List Nat) (_ : Unit) : ASt := ⟨slots 157 [(2, .imm v_8 (.cols l_9 [.cfl l_10, .cf l_11]) 2 2 0 l_9), (3, .ptr 0 1 0 0), (4, .ptr 1 1 0 0), (6, .ptr 2 1 0 0), (7, .int .i64 ((l_9 : Nat) : Int)), (8, .ptr 3 1 0 0), (9, .int .i64 ((c38 : Nat) : Int)), (10, .sl 4 1 1 0 l_9 l_9), (14, .sl 5 1 1 0 l_9 l_9), (15, .int .i64 ((i57 : Nat) : Int)), (16, .int .i64 (0 : Int))], [(0, .vs [.int .i64 a_0, .int .i64 a_1, .imm v_2 (.fl a_3) 1 1 0 (List.length a_3)]), (1, .vs [.int .i64 t_4, .int .i64 t_5, .imm v_6 (.fl t_7) 1 1 0 (List.length t_7)]), (2, .vs [.int .i64 (0 : Int), .int .i64 (0 : Int), .nsl]), (3, .vs [.int .i64 a_0, .int .i64 a_1, .sl 6 1 1 0 (List.length a_3) (List.length a_3)]), (4, .fl l51), (5, .fl l58), (6, .fl l39)], 7⟩
def ref09_Block_t158 : T ((Unit) ⊕ (((List Nat)) ⊕ (((List Nat)) ⊕ (((List Nat)) ⊕ (((List Nat)) ⊕ (ref09_Block_X)))))) :=
  .leaf (.inl ())
def ref09_Block_n106 (a_0 : Int) (a_1 : Int) (v_2 : Lv) (a_3 : List Nat) (t_4 : Int) (t_5 : Int) (v_6 : Lv) (t_7 : List Nat) (v_8 : Lv) (l_9 : Nat) (l_10 : List (List Nat)) (l_11 : List Nat) (c38 : Nat) (l39 : List Nat) (l51 : List Nat) (i57 : Nat) : Nat × (List Nat) → ASt := fun (m59, l60) => ⟨slots 157 [(2, .imm v_8 (.cols l_9 [.cfl l_10, .cf l_11]) 2 2 0 l_9), (3, .ptr 0 1 0 0), (4, .ptr 1 1 0 0), (6, .ptr 2 1 0 0), (7, .int .i64 ((l_9 : Nat) : Int)), (8, .ptr 3 1 0 0), (9, .int .i64 ((c38 : Nat) : Int)), (10, .sl 4 1 1 0 l_9 l_9), (14, .sl 5 1 1 0 l_9 l_9), (15, .int .i64 ((i57 : Nat) : Int)), (16, .int .i64 ((m59 : Nat) : Int))], [(0, .vs [.int .i64 a_0, .int .i64 a_1, .imm v_2 (.fl a_3) 1 1 0 (List.length a_3)]), (1, .vs [.int .i64 t_4, .int .i64 t_5, .imm v_6 (.fl t_7) 1 1 0 (List.length t_7)]), (2, .vs [.int .i64 (0 : Int), .int .i64 (0 : Int), .nsl]), (3, .vs [.int .i64 a_0, .int .i64 a_1, .sl 6 1 1 0 (List.length a_3) (List.length a_3)]), (4, .fl l51), (5, .fl l60), (6, .fl l39)], 7⟩
def ref09_Block_n107 (a_0 : Int) (a_1 : Int) (v_2 : Lv) (a_3 : List Nat) (t_4 : Int) (t_5 : Int) (v_6 : Lv) (t_7 : List Nat) (v_8 : Lv) (l_9 : Nat) (l_10 : List (List Nat)) (l_11 : List Nat) (c38 : Nat) (l39 : List Nat) (l51 : List Nat) (i57 : Nat) (l61 : (List Nat)) : ASt := ⟨slots 157 [(2, .imm v_8 (.cols l_9 [.cfl l_10, .cf l_11]) 2 2 0 l_9), (3, .ptr 0 1 0 0), (4, .ptr 1 1 0 0), (6, .ptr 2 1 0 0), (7, .int .i64 ((l_9 : Nat) : Int)), (8, .ptr 3 1 0 0), (9, .int .i64 ((c38 : Nat) : Int)), (10, .sl 4 1 1 0 l_9 l_9), (14, .sl 5 1 1 0 l_9 l_9), (15, .int .i64 ((i57 : Nat) : Int))], [(0, .vs [.int .i64 a_0, .int .i64 a_1, .imm v_2 (.fl a_3) 1 1 0 (List.length a_3)]), (1, .vs [.int .i64 t_4, .int .i64 t_5, .imm v_6 (.fl t_7) 1 1 0 (List.length t_7)]), (2, .vs [.int .i64 (0 : Int), .int .i64 (0 : Int), .nsl]), (3, .vs [.int .i64 a_0, .int .i64 a_1, .sl 6 1 1 0 (List.length a_3) (List.length a_3)]), (4, .fl l51), (5, .fl l61), (6, .fl l39)], 7⟩
noncomputable def ref09_Block_l159 : List Code := flat (inLoop ((((ref09_Block_l157.drop 1).take 1)).headD .skip))
def ref09_Block_t160 (t_7 : List Nat) (l_9 : Nat) (l51 : List Nat) (i57 : Nat) (m59 : Nat) (l60 : List Nat) : T ((Nat × (List Nat)) ⊕ (((List Nat)) ⊕ (((List Nat)) ⊕ (((List Nat)) ⊕ (((List Nat)) ⊕ (((List Nat)) ⊕ (ref09_Block_X))))))) :=
  .ask (decide (((m59 : Nat) : Int) ≤ ((i57 : Nat) : Int)))
    (.need (inK .i64 (((m59 * l_9) : Nat) : Int)) <| .need (inK .i64 ((((m59 * l_9) + i57) : Nat) : Int)) <| .need (inB ((((m59 * l_9) + i57) : Nat) : Int) (List.length t_7)) <| .need (ltB ((m59 * l_9) + i57) (List.length t_7)) <| .need (inB ((m59 : Nat) : Int) l_9) <| .need (ltB m59 (List.length l51)) <| .need (inB ((i57 : Nat) : Int) l_9) <| .need (ltB i57 (List.length l60)) <| .need (inB ((i57 : Nat) : Int) l_9) <| .need (ltB i57 (List.length l60)) <| .need (inK .i64 (((m59 + 1) : Nat) : Int)) <| .leaf (.inl ((m59 + 1), (List.set l60 i57 (fadd (List.getD l60 i57 0) (fmul (List.getD t_7 ((m59 * l_9) + i57) 0) (List.getD l51 m59 0)))))))
    (.leaf (.inr (.inl l60)))
noncomputable def ref09_Block_m161 (t_7 : List Nat) (l_9 : Nat) (l51 : List Nat) (i57 : Nat) : Nat × (List Nat) → Option ((Nat × (List Nat)) ⊕ (((List Nat)) ⊕ (((List Nat)) ⊕ (((List Nat)) ⊕ (((List Nat)) ⊕ (((List Nat)) ⊕ (ref09_Block_X))))))) := fun (m59, l60) =>
  (ref09_Block_t160 t_7 l_9 l51 i57 m59 l60).run
theorem ref09_Block_s161 (a_0 : Int) (a_1 : Int) (v_2 : Lv) (a_3 : List Nat) (t_4 : Int) (t_5 : Int) (v_6 : Lv) (t_7 : List Nat) (v_8 : Lv) (l_9 : Nat) (l_10 : List (List Nat)) (l_11 : List Nat) (c38 : Nat) (l39 : List Nat) (l51 : List Nat) (i57 : Nat) (m59 : Nat) (l60 : List Nat) : Sg prog [] ref09_Block_l159 (ref09_Block_n106 a_0 a_1 v_2 a_3 t_4 t_5 v_6 t_7 v_8 l_9 l_10 l_11 c38 l39 l51 i57 (m59, l60)) (ref09_Block_m161 t_7 l_9 l51 i57 (m59, l60)) (ref09_Block_n106 a_0 a_1 v_2 a_3 t_4 t_5 v_6 t_7 v_8 l_9 l_10 l_11 c38 l39 l51 i57) (exitE 8 (ref09_Block_n107 a_0 a_1 v_2 a_3 t_4 t_5 v_6 t_7 v_8 l_9 l_10 l_11 c38 l39 l51 i57) (exitE 7 (ref09_Block_n109 a_0 a_1 v_2 a_3 t_4 t_5 v_6 t_7 v_8 l_9 l_10 l_11 c38 l39 l51 i57) (exitE 6 (ref09_Block_n111 a_0 a_1 v_2 a_3 t_4 t_5 v_6 t_7 v_8 l_9 l_10 l_11 c38 l39) (exitE 1 (ref09_Block_n134 a_0 a_1 v_2 a_3 t_4 t_5 v_6 t_7 v_8 l_9 l_10 l_11 c38) (exitE 0 (ref09_Block_n136 a_0 a_1 a_3) ref09_Block_E))))) :=
  Sg.seg (C := C0) C0_ok L_reflect_Block_ok 60 ref09_Block_l159 (ref09_Block_n106 a_0 a_1 v_2 a_3 t_4 t_5 v_6 t_7 v_8 l_9 l_10 l_11 c38 l39 l51 i57 (m59, l60)) (ref09_Block_t160 t_7 l_9 l51 i57 m59 l60) (ref09_Block_n106 a_0 a_1 v_2 a_3 t_4 t_5 v_6 t_7 v_8 l_9 l_10 l_11 c38 l39 l51 i57) (exitE 8 (ref09_Block_n107 a_0 a_1 v_2 a_3 t_4 t_5 v_6 t_7 v_8 l_9 l_10 l_11 c38 l39 l51 i57) (exitE 7 (ref09_Block_n109 a_0 a_1 v_2 a_3 t_4 t_5 v_6 t_7 v_8 l_9 l_10 l_11 c38 l39 l51 i57) (exitE 6 (ref09_Block_n111 a_0 a_1 v_2 a_3 t_4 t_5 v_6 t_7 v_8 l_9 l_10 l_11 c38 l39) (exitE 1 (ref09_Block_n134 a_0 a_1 v_2 a_3 t_4 t_5 v_6 t_7 v_8 l_9 l_10 l_11 c38) (exitE 0 (ref09_Block_n136 a_0 a_1 a_3) ref09_Block_E))))) [⟨[], [0, 1, 2, 3, 4, 5, 6], [2, 3, 4, 6, 7, 8, 9, 10, 14, 15, 16]⟩, ⟨[], [0, 1, 2, 3, 4, 5, 6], [2, 3, 4, 6, 7, 8, 9, 10, 14, 15]⟩] (by kernel_rfl)
def ref09_Block_n108 (a_0 : Int) (a_1 : Int) (v_2 : Lv) (a_3 : List Nat) (t_4 : Int) (t_5 : Int) (v_6 : Lv) (t_7 : List Nat) (v_8 : Lv) (l_9 : Nat) (l_10 : List (List Nat)) (l_11 : List Nat) (c38 : Nat) (l39 : List Nat) (l51 : List Nat) (i57 : Nat) : (List Nat) → ASt := ref09_Block_n107 a_0 a_1 v_2 a_3 t_4 t_5 v_6 t_7 v_8 l_9 l_10 l_11 c38 l39 l51 i57
def ref09_Block_t162 (l61 : List Nat) : T (((List Nat)) ⊕ (((List Nat)) ⊕ (((List Nat)) ⊕ (((List Nat)) ⊕ (((List Nat)) ⊕ (ref09_Block_X)))))) :=
  .leaf (.inl l61)
def ref09_Block_n110 (a_0 : Int) (a_1 : Int) (v_2 : Lv) (a_3 : List Nat) (t_4 : Int) (t_5 : Int) (v_6 : Lv) (t_7 : List Nat) (v_8 : Lv) (l_9 : Nat) (l_10 : List (List Nat)) (l_11 : List Nat) (c38 : Nat) (l39 : List Nat) (l51 : List Nat) (i57 : Nat) : (List Nat) → ASt := ref09_Block_n109 a_0 a_1 v_2 a_3 t_4 t_5 v_6 t_7 v_8 l_9 l_10 l_11 c38 l39 l51 i57
def ref09_Block_t163 (i57 : Nat) (l62 : List Nat) : T ((Nat × (List Nat)) ⊕ (((List Nat)) ⊕ (((List Nat)) ⊕ (((List Nat)) ⊕ (ref09_Block_X))))) :=
  .need (inK .i64 (((i57 + 1) : Nat) : Int)) <| .leaf (.inl ((i57 + 1), l62))
noncomputable def ref09_Block_m164 (t_7 : List Nat) (l_9 : Nat) (l51 : List Nat) : Nat × (List Nat) → Option ((Nat × (List Nat)) ⊕ (((List Nat)) ⊕ (((List Nat)) ⊕ (((List Nat)) ⊕ (ref09_Block_X))))) := fun (i57, l58) =>
  seqM ((ref09_Block_t156 l_9 i57 l58).run) fun _ =>
  seqM (joinM (seqM ((ref09_Block_t158).run) fun _ =>
  seqM (loopM (ref09_Block_m161 t_7 l_9 l51 i57) (0, l58)) fun l61 =>
  (ref09_Block_t162 l61).run)) fun l62 =>
  (ref09_Block_t163 i57 l62).run
theorem ref09_Block_s164 (a_0 : Int) (a_1 : Int) (v_2 : Lv) (a_3 : List Nat) (t_4 : Int) (t_5 : Int) (v_6 : Lv) (t_7 : List Nat) (v_8 : Lv) (l_9 : Nat) (l_10 : List (List Nat)) (l_11 : List Nat) (c38 : Nat) (l39 : List Nat) (l51 : List Nat) (i57 : Nat) (l58 : List Nat) : Sg prog [] ref09_Block_l155 (ref09_Block_n102 a_0 a_1 v_2 a_3 t_4 t_5 v_6 t_7 v_8 l_9 l_10 l_11 c38 l39 l51 (i57, l58)) (ref09_Block_m164 t_7 l_9 l51 (i57, l58)) (ref09_Block_n102 a_0 a_1 v_2 a_3 t_4 t_5 v_6 t_7 v_8 l_9 l_10 l_11 c38 l39 l51) (exitE 6 (ref09_Block_n111 a_0 a_1 v_2 a_3 t_4 t_5 v_6 t_7 v_8 l_9 l_10 l_11 c38 l39) (exitE 1 (ref09_Block_n134 a_0 a_1 v_2 a_3 t_4 t_5 v_6 t_7 v_8 l_9 l_10 l_11 c38) (exitE 0 (ref09_Block_n136 a_0 a_1 a_3) ref09_Block_E))) :=
  Sg.cut 2 (noN_exit (noN_exit (noN_exit ref09_Block_hN))) (Sg.seg (C := C0) C0_ok L_reflect_Block_ok 60 (ref09_Block_l155.take 2) (ref09_Block_n102 a_0 a_1 v_2 a_3 t_4 t_5 v_6 t_7 v_8 l_9 l_10 l_11 c38 l39 l51 (i57, l58)) (ref09_Block_t156 l_9 i57 l58) (ref09_Block_n103 a_0 a_1 v_2 a_3 t_4 t_5 v_6 t_7 v_8 l_9 l_10 l_11 c38 l39 l51 i57 l58) (exitE 6 (ref09_Block_n111 a_0 a_1 v_2 a_3 t_4 t_5 v_6 t_7 v_8 l_9 l_10 l_11 c38 l39) (exitE 1 (ref09_Block_n134 a_0 a_1 v_2 a_3 t_4 t_5 v_6 t_7 v_8 l_9 l_10 l_11 c38) (exitE 0 (ref09_Block_n136 a_0 a_1 a_3) ref09_Block_E))) [⟨[], [0, 1, 2, 3, 4, 5, 6], [2, 3, 4, 6, 7, 8, 9, 10, 14, 15]⟩, ⟨[], [0, 1, 2, 3, 5, 6], [2, 3, 4, 6, 7, 8, 9, 14]⟩] (by kernel_rfl)) (fun a => by cases a; exact Sg.cut 1 (noN_exit (noN_exit (noN_exit ref09_Block_hN))) (Sg.blockAt (id := 7) (K := (ref09_Block_n109 a_0 a_1 v_2 a_3 t_4 t_5 v_6 t_7 v_8 l_9 l_10 l_11 c38 l39 l51 i57)) (by kernel_rfl : ((ref09_Block_l155.drop 2).take 1) = [.block 7 (inBlock ((((ref09_Block_l155.drop 2).take 1)).headD .skip))]) (noN_exit (noN_exit (noN_exit ref09_Block_hN))) (noId_exit (by decide) (noId_exit (by decide) (noId_exit (by decide) (ref09_Block_hI _)))) (Sg.cut 1 (noN_exit (noN_exit (noN_exit (noN_exit ref09_Block_hN)))) (Sg.seg (C := C0) C0_ok L_reflect_Block_ok 60 (ref09_Block_l157.take 1) (ref09_Block_n103 a_0 a_1 v_2 a_3 t_4 t_5 v_6 t_7 v_8 l_9 l_10 l_11 c38 l39 l51 i57 l58 ()) (ref09_Block_t158) (ref09_Block_n104 a_0 a_1 v_2 a_3 t_4 t_5 v_6 t_7 v_8 l_9 l_10 l_11 c38 l39 l51 i57 l58) (exitE 7 (ref09_Block_n109 a_0 a_1 v_2 a_3 t_4 t_5 v_6 t_7 v_8 l_9 l_10 l_11 c38 l39 l51 i57) (exitE 6 (ref09_Block_n111 a_0 a_1 v_2 a_3 t_4 t_5 v_6 t_7 v_8 l_9 l_10 l_11 c38 l39) (exitE 1 (ref09_Block_n134 a_0 a_1 v_2 a_3 t_4 t_5 v_6 t_7 v_8 l_9 l_10 l_11 c38) (exitE 0 (ref09_Block_n136 a_0 a_1 a_3) ref09_Block_E)))) [⟨[], [0, 1, 2, 3, 4, 5, 6], [2, 3, 4, 6, 7, 8, 9, 10, 14, 15, 16]⟩] (by kernel_rfl)) (fun a => by cases a; exact Sg.cut 1 (noN_exit (noN_exit (noN_exit (noN_exit ref09_Block_hN)))) (Sg.pre ⟨[], [0, 1, 2, 3, 4, 5, 6], [2, 3, 4, 6, 7, 8, 9, 10, 14, 15, 16]⟩ rfl (by kernel_rfl : NS.on ⟨[], [0, 1, 2, 3, 4, 5, 6], [2, 3, 4, 6, 7, 8, 9, 10, 14, 15, 16]⟩ (ref09_Block_n104 a_0 a_1 v_2 a_3 t_4 t_5 v_6 t_7 v_8 l_9 l_10 l_11 c38 l39 l51 i57 l58 ()) = (ref09_Block_n106 a_0 a_1 v_2 a_3 t_4 t_5 v_6 t_7 v_8 l_9 l_10 l_11 c38 l39 l51 i57) (0, l58)) (Sg.loopAt (I := (ref09_Block_n106 a_0 a_1 v_2 a_3 t_4 t_5 v_6 t_7 v_8 l_9 l_10 l_11 c38 l39 l51 i57)) (J := (ref09_Block_n107 a_0 a_1 v_2 a_3 t_4 t_5 v_6 t_7 v_8 l_9 l_10 l_11 c38 l39 l51 i57)) (id := 8) (by kernel_rfl : ((ref09_Block_l157.drop 1).take 1) = [.block 8 (.loop (inLoop ((((ref09_Block_l157.drop 1).take 1)).headD .skip)))]) (noN_exit (noN_exit (noN_exit (noN_exit ref09_Block_hN)))) (noId_exit (by decide) (noId_exit (by decide) (noId_exit (by decide) (noId_exit (by decide) (ref09_Block_hI _))))) (fun s => by obtain ⟨m59, l60⟩ := s; exact ref09_Block_s161 a_0 a_1 v_2 a_3 t_4 t_5 v_6 t_7 v_8 l_9 l_10 l_11 c38 l39 l51 i57 m59 l60) (0, l58))) (fun l61 => by exact Sg.seg (C := C0) C0_ok L_reflect_Block_ok 60 ((ref09_Block_l157.drop 1).drop 1) (ref09_Block_n108 a_0 a_1 v_2 a_3 t_4 t_5 v_6 t_7 v_8 l_9 l_10 l_11 c38 l39 l51 i57 l61) (ref09_Block_t162 l61) (ref09_Block_n109 a_0 a_1 v_2 a_3 t_4 t_5 v_6 t_7 v_8 l_9 l_10 l_11 c38 l39 l51 i57) (exitE 7 (ref09_Block_n109 a_0 a_1 v_2 a_3 t_4 t_5 v_6 t_7 v_8 l_9 l_10 l_11 c38 l39 l51 i57) (exitE 6 (ref09_Block_n111 a_0 a_1 v_2 a_3 t_4 t_5 v_6 t_7 v_8 l_9 l_10 l_11 c38 l39) (exitE 1 (ref09_Block_n134 a_0 a_1 v_2 a_3 t_4 t_5 v_6 t_7 v_8 l_9 l_10 l_11 c38) (exitE 0 (ref09_Block_n136 a_0 a_1 a_3) ref09_Block_E)))) [⟨[], [0, 1, 2, 3, 4, 5, 6], [2, 3, 4, 6, 7, 8, 9, 10, 14, 15]⟩] (by kernel_rfl))))) (fun l62 => by exact Sg.seg (C := C0) C0_ok L_reflect_Block_ok 60 ((ref09_Block_l155.drop 2).drop 1) (ref09_Block_n110 a_0 a_1 v_2 a_3 t_4 t_5 v_6 t_7 v_8 l_9 l_10 l_11 c38 l39 l51 i57 l62) (ref09_Block_t163 i57 l62) (ref09_Block_n102 a_0 a_1 v_2 a_3 t_4 t_5 v_6 t_7 v_8 l_9 l_10 l_11 c38 l39 l51) (exitE 6 (ref09_Block_n111 a_0 a_1 v_2 a_3 t_4 t_5 v_6 t_7 v_8 l_9 l_10 l_11 c38 l39) (exitE 1 (ref09_Block_n134 a_0 a_1 v_2 a_3 t_4 t_5 v_6 t_7 v_8 l_9 l_10 l_11 c38) (exitE 0 (ref09_Block_n136 a_0 a_1 a_3) ref09_Block_E))) [⟨[], [0, 1, 2, 3, 4, 5, 6], [2, 3, 4, 6, 7, 8, 9, 10, 14, 15]⟩] (by kernel_rfl)))
def ref09_Block_n112 (a_0 : Int) (a_1 : Int) (v_2 : Lv) (a_3 : List Nat) (t_4 : Int) (t_5 : Int) (v_6 : Lv) (t_7 : List Nat) (v_8 : Lv) (l_9 : Nat) (l_10 : List (List Nat)) (l_11 : List Nat) (c38 : Nat) (l39 : List Nat) : (List Nat) → ASt := ref09_Block_n111 a_0 a_1 v_2 a_3 t_4 t_5 v_6 t_7 v_8 l_9 l_10 l_11 c38 l39
def ref09_Block_n113 (a_0 : Int) (a_1 : Int) (v_2 : Lv) (a_3 : List Nat) (t_4 : Int) (t_5 : Int) (v_6 : Lv) (t_7 : List Nat) (v_8 : Lv) (l_9 : Nat) (l_10 : List (List Nat)) (l_11 : List Nat) (c38 : Nat) (l39 : List Nat) (l63 : List Nat) (_ : Unit) : ASt := ⟨slots 157 [(2, .imm v_8 (.cols l_9 [.cfl l_10, .cf l_11]) 2 2 0 l_9), (3, .ptr 0 1 0 0), (4, .ptr 1 1 0 0), (6, .ptr 2 1 0 0), (7, .int .i64 ((l_9 : Nat) : Int)), (8, .ptr 3 1 0 0), (9, .int .i64 ((c38 : Nat) : Int)), (14, .sl 4 1 1 0 l_9 l_9), (18, .int .i64 (0 : Int))], [(0, .vs [.int .i64 a_0, .int .i64 a_1, .imm v_2 (.fl a_3) 1 1 0 (List.length a_3)]), (1, .vs [.int .i64 t_4, .int .i64 t_5, .imm v_6 (.fl t_7) 1 1 0 (List.length t_7)]), (2, .vs [.int .i64 (0 : Int), .int .i64 (0 : Int), .nsl]), (3, .vs [.int .i64 a_0, .int .i64 a_1, .sl 5 1 1 0 (List.length a_3) (List.length a_3)]), (4, .fl l63), (5, .fl l39)], 6⟩
def ref09_Block_t165 : T ((Unit) ⊕ (((List Nat)) ⊕ (((List Nat)) ⊕ (ref09_Block_X)))) :=
  .leaf (.inl ())
def ref09_Block_n123 (a_0 : Int) (a_1 : Int) (v_2 : Lv) (a_3 : List Nat) (t_4 : Int) (t_5 : Int) (v_6 : Lv) (t_7 : List Nat) (v_8 : Lv) (l_9 : Nat) (l_10 : List (List Nat)) (l_11 : List Nat) (c38 : Nat) (l63 : List Nat) : Nat × (List Nat) → ASt := fun (r68, l69) => ⟨slots 157 [(2, .imm v_8 (.cols l_9 [.cfl l_10, .cf l_11]) 2 2 0 l_9), (3, .ptr 0 1 0 0), (4, .ptr 1 1 0 0), (6, .ptr 2 1 0 0), (7, .int .i64 ((l_9 : Nat) : Int)), (8, .ptr 3 1 0 0), (9, .int .i64 ((c38 : Nat) : Int)), (14, .sl 4 1 1 0 l_9 l_9), (18, .int .i64 ((r68 : Nat) : Int))], [(0, .vs [.int .i64 a_0, .int .i64 a_1, .imm v_2 (.fl a_3) 1 1 0 (List.length a_3)]), (1, .vs [.int .i64 t_4, .int .i64 t_5, .imm v_6 (.fl t_7) 1 1 0 (List.length t_7)]), (2, .vs [.int .i64 (0 : Int), .int .i64 (0 : Int), .nsl]), (3, .vs [.int .i64 a_0, .int .i64 a_1, .sl 5 1 1 0 (List.length a_3) (List.length a_3)]), (4, .fl l63), (5, .fl l69)], 6⟩
def ref09_Block_n132 (a_0 : Int) (a_1 : Int) (v_2 : Lv) (a_3 : List Nat) (t_4 : Int) (t_5 : Int) (v_6 : Lv) (t_7 : List Nat) (v_8 : Lv) (l_9 : Nat) (l_10 : List (List Nat)) (l_11 : List Nat) (c38 : Nat) (l74 : (List Nat)) : ASt := ⟨slots 157 [(2, .imm v_8 (.cols l_9 [.cfl l_10, .cf l_11]) 2 2 0 l_9), (3, .ptr 0 1 0 0), (4, .ptr 1 1 0 0), (6, .ptr 2 1 0 0), (7, .int .i64 ((l_9 : Nat) : Int)), (8, .ptr 3 1 0 0), (9, .int .i64 ((c38 : Nat) : Int))], [(0, .vs [.int .i64 a_0, .int .i64 a_1, .imm v_2 (.fl a_3) 1 1 0 (List.length a_3)]), (1, .vs [.int .i64 t_4, .int .i64 t_5, .imm v_6 (.fl t_7) 1 1 0 (List.length t_7)]), (2, .vs [.int .i64 (0 : Int), .int .i64 (0 : Int), .nsl]), (3, .vs [.int .i64 a_0, .int .i64 a_1, .sl 4 1 1 0 (List.length a_3) (List.length a_3)]), (4, .fl l74)], 5⟩
noncomputable def ref09_Block_l166 : List Code := flat (inLoop ((((((((ref09_Block_l142.drop 2).drop 1).drop 2).drop 1).drop 1).take 1)).headD .skip))
def ref09_Block_n124 (a_0 : Int) (a_1 : Int) (v_2 : Lv) (a_3 : List Nat) (t_4 : Int) (t_5 : Int) (v_6 : Lv) (t_7 : List Nat) (v_8 : Lv) (l_9 : Nat) (l_10 : List (List Nat)) (l_11 : List Nat) (c38 : Nat) (l63 : List Nat) (r68 : Nat) (l69 : List Nat) (_ : Unit) : ASt := ⟨slots 157 [(2, .imm v_8 (.cols l_9 [.cfl l_10, .cf l_11]) 2 2 0 l_9), (3, .ptr 0 1 0 0), (4, .ptr 1 1 0 0), (6, .ptr 2 1 0 0), (7, .int .i64 ((l_9 : Nat) : Int)), (8, .ptr 3 1 0 0), (9, .int .i64 ((c38 : Nat) : Int)), (14, .sl 4 1 1 0 l_9 l_9), (18, .int .i64 ((r68 : Nat) : Int))], [(0, .vs [.int .i64 a_0, .int .i64 a_1, .imm v_2 (.fl a_3) 1 1 0 (List.length a_3)]), (1, .vs [.int .i64 t_4, .int .i64 t_5, .imm v_6 (.fl t_7) 1 1 0 (List.length t_7)]), (2, .vs [.int .i64 (0 : Int), .int .i64 (0 : Int), .nsl]), (3, .vs [.int .i64 a_0, .int .i64 a_1, .sl 5 1 1 0 (List.length a_3) (List.length a_3)]), (4, .fl l63), (5, .fl l69)], 6⟩
def ref09_Block_t167 (a_0 : Int) (r68 : Nat) (l69 : List Nat) : T ((Unit) ⊕ (((List Nat)) ⊕ (((List Nat)) ⊕ (((List Nat)) ⊕ (ref09_Block_X))))) :=
  .ask (decide (((r68 : Nat) : Int) < a_0))
    (.leaf (.inl ()))
    (.leaf (.inr (.inl l69)))
def ref09_Block_n130 (a_0 : Int) (a_1 : Int) (v_2 : Lv) (a_3 : List Nat) (t_4 : Int) (t_5 : Int) (v_6 : Lv) (t_7 : List Nat) (v_8 : Lv) (l_9 : Nat) (l_10 : List (List Nat)) (l_11 : List Nat) (c38 : Nat) (l63 : List Nat) (r68 : Nat) (l73 : (List Nat)) : ASt := ⟨slots 157 [(2, .imm v_8 (.cols l_9 [.cfl l_10, .cf l_11]) 2 2 0 l_9), (3, .ptr 0 1 0 0), (4, .ptr 1 1 0 0), (6, .ptr 2 1 0 0), (7, .int .i64 ((l_9 : Nat) : Int)), (8, .ptr 3 1 0 0), (9, .int .i64 ((c38 : Nat) : Int)), (14, .sl 4 1 1 0 l_9 l_9), (18, .int .i64 ((r68 : Nat) : Int))], [(0, .vs [.int .i64 a_0, .int .i64 a_1, .imm v_2 (.fl a_3) 1 1 0 (List.length a_3)]), (1, .vs [.int .i64 t_4, .int .i64 t_5, .imm v_6 (.fl t_7) 1 1 0 (List.length t_7)]), (2, .vs [.int .i64 (0 : Int), .int .i64 (0 : Int), .nsl]), (3, .vs [.int .i64 a_0, .int .i64 a_1, .sl 5 1 1 0 (List.length a_3) (List.length a_3)]), (4, .fl l63), (5, .fl l73)], 6⟩
noncomputable def ref09_Block_l168 : List Code := flat (inBlock ((((ref09_Block_l166.drop 2).take 1)).headD .skip))
def ref09_Block_n125 (a_0 : Int) (a_1 : Int) (v_2 : Lv) (a_3 : List Nat) (t_4 : Int) (t_5 : Int) (v_6 : Lv) (t_7 : List Nat) (v_8 : Lv) (l_9 : Nat) (l_10 : List (List Nat)) (l_11 : List Nat) (c38 : Nat) (l63 : List Nat) (r68 : Nat) (l69 : List Nat) (_ : Unit) : ASt := ⟨slots 157 [(2, .imm v_8 (.cols l_9 [.cfl l_10, .cf l_11]) 2 2 0 l_9), (3, .ptr 0 1 0 0), (4, .ptr 1 1 0 0), (6, .ptr 2 1 0 0), (7, .int .i64 ((l_9 : Nat) : Int)), (8, .ptr 3 1 0 0), (9, .int .i64 ((c38 : Nat) : Int)), (14, .sl 4 1 1 0 l_9 l_9), (18, .int .i64 ((r68 : Nat) : Int)), (19, .flt false 0), (20, .int .i64 (0 : Int))], [(0, .vs [.int .i64 a_0, .int .i64 a_1, .imm v_2 (.fl a_3) 1 1 0 (List.length a_3)]), (1, .vs [.int .i64 t_4, .int .i64 t_5, .imm v_6 (.fl t_7) 1 1 0 (List.length t_7)]), (2, .vs [.int .i64 (0 : Int), .int .i64 (0 : Int), .nsl]), (3, .vs [.int .i64 a_0, .int .i64 a_1, .sl 5 1 1 0 (List.length a_3) (List.length a_3)]), (4, .fl l63), (5, .fl l69)], 6⟩
def ref09_Block_t169 : T ((Unit) ⊕ (((List Nat)) ⊕ (((List Nat)) ⊕ (((List Nat)) ⊕ (((List Nat)) ⊕ (ref09_Block_X)))))) :=
  .leaf (.inl ())
def ref09_Block_n127 (a_0 : Int) (a_1 : Int) (v_2 : Lv) (a_3 : List Nat) (t_4 : Int) (t_5 : Int) (v_6 : Lv) (t_7 : List Nat) (v_8 : Lv) (l_9 : Nat) (l_10 : List (List Nat)) (l_11 : List Nat) (c38 : Nat) (l63 : List Nat) (r68 : Nat) (l69 : List Nat) : Nat × Nat → ASt := fun (s70, i71) => ⟨slots 157 [(2, .imm v_8 (.cols l_9 [.cfl l_10, .cf l_11]) 2 2 0 l_9), (3, .ptr 0 1 0 0), (4, .ptr 1 1 0 0), (6, .ptr 2 1 0 0), (7, .int .i64 ((l_9 : Nat) : Int)), (8, .ptr 3 1 0 0), (9, .int .i64 ((c38 : Nat) : Int)), (14, .sl 4 1 1 0 l_9 l_9), (18, .int .i64 ((r68 : Nat) : Int)), (19, .flt false s70), (20, .int .i64 ((i71 : Nat) : Int))], [(0, .vs [.int .i64 a_0, .int .i64 a_1, .imm v_2 (.fl a_3) 1 1 0 (List.length a_3)]), (1, .vs [.int .i64 t_4, .int .i64 t_5, .imm v_6 (.fl t_7) 1 1 0 (List.length t_7)]), (2, .vs [.int .i64 (0 : Int), .int .i64 (0 : Int), .nsl]), (3, .vs [.int .i64 a_0, .int .i64 a_1, .sl 5 1 1 0 (List.length a_3) (List.length a_3)]), (4, .fl l63), (5, .fl l69)], 6⟩
def ref09_Block_n128 (a_0 : Int) (a_1 : Int) (v_2 : Lv) (a_3 : List Nat) (t_4 : Int) (t_5 : Int) (v_6 : Lv) (t_7 : List Nat) (v_8 : Lv) (l_9 : Nat) (l_10 : List (List Nat)) (l_11 : List Nat) (c38 : Nat) (l63 : List Nat) (r68 : Nat) (l69 : List Nat) (s72 : Nat) : ASt := ⟨slots 157 [(2, .imm v_8 (.cols l_9 [.cfl l_10, .cf l_11]) 2 2 0 l_9), (3, .ptr 0 1 0 0), (4, .ptr 1 1 0 0), (6, .ptr 2 1 0 0), (7, .int .i64 ((l_9 : Nat) : Int)), (8, .ptr 3 1 0 0), (9, .int .i64 ((c38 : Nat) : Int)), (14, .sl 4 1 1 0 l_9 l_9), (18, .int .i64 ((r68 : Nat) : Int)), (19, .flt false s72)], [(0, .vs [.int .i64 a_0, .int .i64 a_1, .imm v_2 (.fl a_3) 1 1 0 (List.length a_3)]), (1, .vs [.int .i64 t_4, .int .i64 t_5, .imm v_6 (.fl t_7) 1 1 0 (List.length t_7)]), (2, .vs [.int .i64 (0 : Int), .int .i64 (0 : Int), .nsl]), (3, .vs [.int .i64 a_0, .int .i64 a_1, .sl 5 1 1 0 (List.length a_3) (List.length a_3)]), (4, .fl l63), (5, .fl l69)], 6⟩
noncomputable def ref09_Block_l170 : List Code := flat (inLoop ((((ref09_Block_l168.drop 2).take 1)).headD .skip))
def ref09_Block_t171 (l_9 : Nat) (l_10 : List (List Nat)) (l63 : List Nat) (r68 : Nat) (s70 : Nat) (i71 : Nat) : T ((Nat × Nat) ⊕ ((Nat) ⊕ (((List Nat)) ⊕ (((List Nat)) ⊕ (((List Nat)) ⊕ (((List Nat)) ⊕ (ref09_Block_X))))))) :=
  .ask (decide (((i71 : Nat) : Int) < ((l_9 : Nat) : Int)))
    (.need (inB ((i71 : Nat) : Int) l_9) <| .need (ltB i71 (List.length l_10)) <| .need (inB ((r68 : Nat) : Int) (List.length (List.getD l_10 i71 []))) <| .need (ltB r68 (List.length (List.getD l_10 i71 []))) <| .need (inB ((i71 : Nat) : Int) l_9) <| .need (ltB i71 (List.length l63)) <| .need (inK .i64 (((i71 + 1) : Nat) : Int)) <| .leaf (.inl ((fadd s70 (fmul (List.getD (List.getD l_10 i71 []) r68 0) (List.getD l63 i71 0))), (i71 + 1))))
    (.leaf (.inr (.inl s70)))
noncomputable def ref09_Block_m172 (l_9 : Nat) (l_10 : List (List Nat)) (l63 : List Nat) (r68 : Nat) : Nat × Nat → Option ((Nat × Nat) ⊕ ((Nat) ⊕ (((List Nat)) ⊕ (((List Nat)) ⊕ (((List Nat)) ⊕ (((List Nat)) ⊕ (ref09_Block_X))))))) := fun (s70, i71) =>
  (ref09_Block_t171 l_9 l_10 l63 r68 s70 i71).run
theorem ref09_Block_s172 (a_0 : Int) (a_1 : Int) (v_2 : Lv) (a_3 : List Nat) (t_4 : Int) (t_5 : Int) (v_6 : Lv) (t_7 : List Nat) (v_8 : Lv) (l_9 : Nat) (l_10 : List (List Nat)) (l_11 : List Nat) (c38 : Nat) (l63 : List Nat) (r68 : Nat) (l69 : List Nat) (s70 : Nat) (i71 : Nat) : Sg prog [] ref09_Block_l170 (ref09_Block_n127 a_0 a_1 v_2 a_3 t_4 t_5 v_6 t_7 v_8 l_9 l_10 l_11 c38 l63 r68 l69 (s70, i71)) (ref09_Block_m172 l_9 l_10 l63 r68 (s70, i71)) (ref09_Block_n127 a_0 a_1 v_2 a_3 t_4 t_5 v_6 t_7 v_8 l_9 l_10 l_11 c38 l63 r68 l69) (exitE 12 (ref09_Block_n128 a_0 a_1 v_2 a_3 t_4 t_5 v_6 t_7 v_8 l_9 l_10 l_11 c38 l63 r68 l69) (exitE 11 (ref09_Block_n130 a_0 a_1 v_2 a_3 t_4 t_5 v_6 t_7 v_8 l_9 l_10 l_11 c38 l63 r68) (exitE 10 (ref09_Block_n132 a_0 a_1 v_2 a_3 t_4 t_5 v_6 t_7 v_8 l_9 l_10 l_11 c38) (exitE 1 (ref09_Block_n134 a_0 a_1 v_2 a_3 t_4 t_5 v_6 t_7 v_8 l_9 l_10 l_11 c38) (exitE 0 (ref09_Block_n136 a_0 a_1 a_3) ref09_Block_E))))) :=
  Sg.seg (C := C0) C0_ok L_reflect_Block_ok 60 ref09_Block_l170 (ref09_Block_n127 a_0 a_1 v_2 a_3 t_4 t_5 v_6 t_7 v_8 l_9 l_10 l_11 c38 l63 r68 l69 (s70, i71)) (ref09_Block_t171 l_9 l_10 l63 r68 s70 i71) (ref09_Block_n127 a_0 a_1 v_2 a_3 t_4 t_5 v_6 t_7 v_8 l_9 l_10 l_11 c38 l63 r68 l69) (exitE 12 (ref09_Block_n128 a_0 a_1 v_2 a_3 t_4 t_5 v_6 t_7 v_8 l_9 l_10 l_11 c38 l63 r68 l69) (exitE 11 (ref09_Block_n130 a_0 a_1 v_2 a_3 t_4 t_5 v_6 t_7 v_8 l_9 l_10 l_11 c38 l63 r68) (exitE 10 (ref09_Block_n132 a_0 a_1 v_2 a_3 t_4 t_5 v_6 t_7 v_8 l_9 l_10 l_11 c38) (exitE 1 (ref09_Block_n134 a_0 a_1 v_2 a_3 t_4 t_5 v_6 t_7 v_8 l_9 l_10 l_11 c38) (exitE 0 (ref09_Block_n136 a_0 a_1 a_3) ref09_Block_E))))) [⟨[], [0, 1, 2, 3, 4, 5], [2, 3, 4, 6, 7, 8, 9, 14, 18, 19, 20]⟩, ⟨[], [0, 1, 2, 3, 4, 5], [2, 3, 4, 6, 7, 8, 9, 14, 18, 19]⟩] (by kernel_rfl)
def ref09_Block_n129 (a_0 : Int) (a_1 : Int) (v_2 : Lv) (a_3 : List Nat) (t_4 : Int) (t_5 : Int) (v_6 : Lv) (t_7 : List Nat) (v_8 : Lv) (l_9 : Nat) (l_10 : List (List Nat)) (l_11 : List Nat) (c38 : Nat) (l63 : List Nat) (r68 : Nat) (l69 : List Nat) : Nat → ASt := ref09_Block_n128 a_0 a_1 v_2 a_3 t_4 t_5 v_6 t_7 v_8 l_9 l_10 l_11 c38 l63 r68 l69
def ref09_Block_t173 (a_1 : Int) (a_3 : List Nat) (c38 : Nat) (r68 : Nat) (l69 : List Nat) (s72 : Nat) : T (((List Nat)) ⊕ (((List Nat)) ⊕ (((List Nat)) ⊕ (((List Nat)) ⊕ (((List Nat)) ⊕ (ref09_Block_X)))))) :=
  .need (inK .i64 (((r68 : Nat) : Int) * a_1)) <| .need (inK .i64 ((((r68 : Nat) : Int) * a_1) + ((c38 : Nat) : Int))) <| .need (inK .i64 (((r68 : Nat) : Int) * a_1)) <| .need (inK .i64 ((((r68 : Nat) : Int) * a_1) + ((c38 : Nat) : Int))) <| .need (inB ((((r68 : Nat) : Int) * a_1) + ((c38 : Nat) : Int)) (List.length a_3)) <| .need (ltB (Int.toNat ((((r68 : Nat) : Int) * a_1) + ((c38 : Nat) : Int))) (List.length a_3)) <| .need (inB ((((r68 : Nat) : Int) * a_1) + ((c38 : Nat) : Int)) (List.length a_3)) <| .need (ltB (Int.toNat ((((r68 : Nat) : Int) * a_1) + ((c38 : Nat) : Int))) (List.length l69)) <| .leaf (.inl (List.set l69 (Int.toNat ((((r68 : Nat) : Int) * a_1) + ((c38 : Nat) : Int))) (fsub (List.getD a_3 (Int.toNat ((((r68 : Nat) : Int) * a_1) + ((c38 : Nat) : Int))) 0) s72)))
def ref09_Block_n131 (a_0 : Int) (a_1 : Int) (v_2 : Lv) (a_3 : List Nat) (t_4 : Int) (t_5 : Int) (v_6 : Lv) (t_7 : List Nat) (v_8 : Lv) (l_9 : Nat) (l_10 : List (List Nat)) (l_11 : List Nat) (c38 : Nat) (l63 : List Nat) (r68 : Nat) : (List Nat) → ASt := ref09_Block_n130 a_0 a_1 v_2 a_3 t_4 t_5 v_6 t_7 v_8 l_9 l_10 l_11 c38 l63 r68
def ref09_Block_t174 (r68 : Nat) (l73 : List Nat) : T ((Nat × (List Nat)) ⊕ (((List Nat)) ⊕ (((List Nat)) ⊕ (((List Nat)) ⊕ (ref09_Block_X))))) :=
  .need (inK .i64 (((r68 + 1) : Nat) : Int)) <| .leaf (.inl ((r68 + 1), l73))
noncomputable def ref09_Block_m175 (a_0 : Int) (a_1 : Int) (a_3 : List Nat) (l_9 : Nat) (l_10 : List (List Nat)) (c38 : Nat) (l63 : List Nat) : Nat × (List Nat) → Option ((Nat × (List Nat)) ⊕ (((List Nat)) ⊕ (((List Nat)) ⊕ (((List Nat)) ⊕ (ref09_Block_X))))) := fun (r68, l69) =>
  seqM ((ref09_Block_t167 a_0 r68 l69).run) fun _ =>
  seqM (joinM (seqM ((ref09_Block_t169).run) fun _ =>
  seqM (loopM (ref09_Block_m172 l_9 l_10 l63 r68) (0, 0)) fun s72 =>
  (ref09_Block_t173 a_1 a_3 c38 r68 l69 s72).run)) fun l73 =>
  (ref09_Block_t174 r68 l73).run
theorem ref09_Block_s175 (a_0 : Int) (a_1 : Int) (v_2 : Lv) (a_3 : List Nat) (t_4 : Int) (t_5 : Int) (v_6 : Lv) (t_7 : List Nat) (v_8 : Lv) (l_9 : Nat) (l_10 : List (List Nat)) (l_11 : List Nat) (c38 : Nat) (l63 : List Nat) (r68 : Nat) (l69 : List Nat) : Sg prog [] ref09_Block_l166 (ref09_Block_n123 a_0 a_1 v_2 a_3 t_4 t_5 v_6 t_7 v_8 l_9 l_10 l_11 c38 l63 (r68, l69)) (ref09_Block_m175 a_0 a_1 a_3 l_9 l_10 c38 l63 (r68, l69)) (ref09_Block_n123 a_0 a_1 v_2 a_3 t_4 t_5 v_6 t_7 v_8 l_9 l_10 l_11 c38 l63) (exitE 10 (ref09_Block_n132 a_0 a_1 v_2 a_3 t_4 t_5 v_6 t_7 v_8 l_9 l_10 l_11 c38) (exitE 1 (ref09_Block_n134 a_0 a_1 v_2 a_3 t_4 t_5 v_6 t_7 v_8 l_9 l_10 l_11 c38) (exitE 0 (ref09_Block_n136 a_0 a_1 a_3) ref09_Block_E))) :=
  Sg.cut 2 (noN_exit (noN_exit (noN_exit ref09_Block_hN))) (Sg.seg (C := C0) C0_ok L_reflect_Block_ok 60 (ref09_Block_l166.take 2) (ref09_Block_n123 a_0 a_1 v_2 a_3 t_4 t_5 v_6 t_7 v_8 l_9 l_10 l_11 c38 l63 (r68, l69)) (ref09_Block_t167 a_0 r68 l69) (ref09_Block_n124 a_0 a_1 v_2 a_3 t_4 t_5 v_6 t_7 v_8 l_9 l_10 l_11 c38 l63 r68 l69) (exitE 10 (ref09_Block_n132 a_0 a_1 v_2 a_3 t_4 t_5 v_6 t_7 v_8 l_9 l_10 l_11 c38) (exitE 1 (ref09_Block_n134 a_0 a_1 v_2 a_3 t_4 t_5 v_6 t_7 v_8 l_9 l_10 l_11 c38) (exitE 0 (ref09_Block_n136 a_0 a_1 a_3) ref09_Block_E))) [⟨[], [0, 1, 2, 3, 4, 5], [2, 3, 4, 6, 7, 8, 9, 14, 18]⟩, ⟨[], [0, 1, 2, 3, 5], [2, 3, 4, 6, 7, 8, 9]⟩] (by kernel_rfl)) (fun a => by cases a; exact Sg.cut 1 (noN_exit (noN_exit (noN_exit ref09_Block_hN))) (Sg.blockAt (id := 11) (K := (ref09_Block_n130 a_0 a_1 v_2 a_3 t_4 t_5 v_6 t_7 v_8 l_9 l_10 l_11 c38 l63 r68)) (by kernel_rfl : ((ref09_Block_l166.drop 2).take 1) = [.block 11 (inBlock ((((ref09_Block_l166.drop 2).take 1)).headD .skip))]) (noN_exit (noN_exit (noN_exit ref09_Block_hN))) (noId_exit (by decide) (noId_exit (by decide) (noId_exit (by decide) (ref09_Block_hI _)))) (Sg.cut 2 (noN_exit (noN_exit (noN_exit (noN_exit ref09_Block_hN)))) (Sg.seg (C := C0) C0_ok L_reflect_Block_ok 60 (ref09_Block_l168.take 2) (ref09_Block_n124 a_0 a_1 v_2 a_3 t_4 t_5 v_6 t_7 v_8 l_9 l_10 l_11 c38 l63 r68 l69 ()) (ref09_Block_t169) (ref09_Block_n125 a_0 a_1 v_2 a_3 t_4 t_5 v_6 t_7 v_8 l_9 l_10 l_11 c38 l63 r68 l69) (exitE 11 (ref09_Block_n130 a_0 a_1 v_2 a_3 t_4 t_5 v_6 t_7 v_8 l_9 l_10 l_11 c38 l63 r68) (exitE 10 (ref09_Block_n132 a_0 a_1 v_2 a_3 t_4 t_5 v_6 t_7 v_8 l_9 l_10 l_11 c38) (exitE 1 (ref09_Block_n134 a_0 a_1 v_2 a_3 t_4 t_5 v_6 t_7 v_8 l_9 l_10 l_11 c38) (exitE 0 (ref09_Block_n136 a_0 a_1 a_3) ref09_Block_E)))) [⟨[], [0, 1, 2, 3, 4, 5], [2, 3, 4, 6, 7, 8, 9, 14, 18, 19, 20]⟩] (by kernel_rfl)) (fun a => by cases a; exact Sg.cut 1 (noN_exit (noN_exit (noN_exit (noN_exit ref09_Block_hN)))) (Sg.pre ⟨[], [0, 1, 2, 3, 4, 5], [2, 3, 4, 6, 7, 8, 9, 14, 18, 19, 20]⟩ rfl (by kernel_rfl : NS.on ⟨[], [0, 1, 2, 3, 4, 5], [2, 3, 4, 6, 7, 8, 9, 14, 18, 19, 20]⟩ (ref09_Block_n125 a_0 a_1 v_2 a_3 t_4 t_5 v_6 t_7 v_8 l_9 l_10 l_11 c38 l63 r68 l69 ()) = (ref09_Block_n127 a_0 a_1 v_2 a_3 t_4 t_5 v_6 t_7 v_8 l_9 l_10 l_11 c38 l63 r68 l69) (0, 0)) (Sg.loopAt (I := (ref09_Block_n127 a_0 a_1 v_2 a_3 t_4 t_5 v_6 t_7 v_8 l_9 l_10 l_11 c38 l63 r68 l69)) (J := (ref09_Block_n128 a_0 a_1 v_2 a_3 t_4 t_5 v_6 t_7 v_8 l_9 l_10 l_11 c38 l63 r68 l69)) (id := 12) (by kernel_rfl : ((ref09_Block_l168.drop 2).take 1) = [.block 12 (.loop (inLoop ((((ref09_Block_l168.drop 2).take 1)).headD .skip)))]) (noN_exit (noN_exit (noN_exit (noN_exit ref09_Block_hN)))) (noId_exit (by decide) (noId_exit (by decide) (noId_exit (by decide) (noId_exit (by decide) (ref09_Block_hI _))))) (fun s => by obtain ⟨s70, i71⟩ := s; exact ref09_Block_s172 a_0 a_1 v_2 a_3 t_4 t_5 v_6 t_7 v_8 l_9 l_10 l_11 c38 l63 r68 l69 s70 i71) (0, 0))) (fun s72 => by exact Sg.seg (C := C0) C0_ok L_reflect_Block_ok 60 ((ref09_Block_l168.drop 2).drop 1) (ref09_Block_n129 a_0 a_1 v_2 a_3 t_4 t_5 v_6 t_7 v_8 l_9 l_10 l_11 c38 l63 r68 l69 s72) (ref09_Block_t173 a_1 a_3 c38 r68 l69 s72) (ref09_Block_n130 a_0 a_1 v_2 a_3 t_4 t_5 v_6 t_7 v_8 l_9 l_10 l_11 c38 l63 r68) (exitE 11 (ref09_Block_n130 a_0 a_1 v_2 a_3 t_4 t_5 v_6 t_7 v_8 l_9 l_10 l_11 c38 l63 r68) (exitE 10 (ref09_Block_n132 a_0 a_1 v_2 a_3 t_4 t_5 v_6 t_7 v_8 l_9 l_10 l_11 c38) (exitE 1 (ref09_Block_n134 a_0 a_1 v_2 a_3 t_4 t_5 v_6 t_7 v_8 l_9 l_10 l_11 c38) (exitE 0 (ref09_Block_n136 a_0 a_1 a_3) ref09_Block_E)))) [⟨[], [0, 1, 2, 3, 4, 5], [2, 3, 4, 6, 7, 8, 9, 14, 18]⟩] (by kernel_rfl))))) (fun l73 => by exact Sg.seg (C := C0) C0_ok L_reflect_Block_ok 60 ((ref09_Block_l166.drop 2).drop 1) (ref09_Block_n131 a_0 a_1 v_2 a_3 t_4 t_5 v_6 t_7 v_8 l_9 l_10 l_11 c38 l63 r68 l73) (ref09_Block_t174 r68 l73) (ref09_Block_n123 a_0 a_1 v_2 a_3 t_4 t_5 v_6 t_7 v_8 l_9 l_10 l_11 c38 l63) (exitE 10 (ref09_Block_n132 a_0 a_1 v_2 a_3 t_4 t_5 v_6 t_7 v_8 l_9 l_10 l_11 c38) (exitE 1 (ref09_Block_n134 a_0 a_1 v_2 a_3 t_4 t_5 v_6 t_7 v_8 l_9 l_10 l_11 c38) (exitE 0 (ref09_Block_n136 a_0 a_1 a_3) ref09_Block_E))) [⟨[], [0, 1, 2, 3, 4, 5], [2, 3, 4, 6, 7, 8, 9, 14, 18]⟩] (by kernel_rfl)))
def ref09_Block_n133 (a_0 : Int) (a_1 : Int) (v_2 : Lv) (a_3 : List Nat) (t_4 : Int) (t_5 : Int) (v_6 : Lv) (t_7 : List Nat) (v_8 : Lv) (l_9 : Nat) (l_10 : List (List Nat)) (l_11 : List Nat) (c38 : Nat) : (List Nat) → ASt := ref09_Block_n132 a_0 a_1 v_2 a_3 t_4 t_5 v_6 t_7 v_8 l_9 l_10 l_11 c38
def ref09_Block_t176 (l74 : List Nat) : T (((List Nat)) ⊕ (((List Nat)) ⊕ (((List Nat)) ⊕ (ref09_Block_X)))) :=
  .leaf (.inl l74)
def ref09_Block_n135 (a_0 : Int) (a_1 : Int) (v_2 : Lv) (a_3 : List Nat) (t_4 : Int) (t_5 : Int) (v_6 : Lv) (t_7 : List Nat) (v_8 : Lv) (l_9 : Nat) (l_10 : List (List Nat)) (l_11 : List Nat) (c38 : Nat) : (List Nat) → ASt := ref09_Block_n134 a_0 a_1 v_2 a_3 t_4 t_5 v_6 t_7 v_8 l_9 l_10 l_11 c38
def ref09_Block_t177 (c38 : Nat) (l75 : List Nat) : T ((Nat × (List Nat)) ⊕ (((List Nat)) ⊕ (ref09_Block_X))) :=
  .need (inK .i64 (((c38 + 1) : Nat) : Int)) <| .leaf (.inl ((c38 + 1), l75))
noncomputable def ref09_Block_m178 (a_0 : Int) (a_1 : Int) (a_3 : List Nat) (t_7 : List Nat) (l_9 : Nat) (l_10 : List (List Nat)) : Nat × (List Nat) → Option ((Nat × (List Nat)) ⊕ (((List Nat)) ⊕ (ref09_Block_X))) := fun (c38, l39) =>
  seqM ((ref09_Block_t141 a_1 c38 l39).run) fun _ =>
  seqM (joinM (seqM ((ref09_Block_t143 l_9).run) fun l40 =>
  seqM (loopM (ref09_Block_m153 a_0 a_1 a_3 l_9 l_10 c38) (0, l40)) fun l51 =>
  seqM ((ref09_Block_t154 l_9).run) fun l52 =>
  seqM (loopM (ref09_Block_m164 t_7 l_9 l51) (0, l52)) fun l63 =>
  seqM ((ref09_Block_t165).run) fun _ =>
  seqM (loopM (ref09_Block_m175 a_0 a_1 a_3 l_9 l_10 c38 l63) (0, l39)) fun l74 =>
  (ref09_Block_t176 l74).run)) fun l75 =>
  (ref09_Block_t177 c38 l75).run
theorem ref09_Block_s178 (a_0 : Int) (a_1 : Int) (v_2 : Lv) (a_3 : List Nat) (t_4 : Int) (t_5 : Int) (v_6 : Lv) (t_7 : List Nat) (v_8 : Lv) (l_9 : Nat) (l_10 : List (List Nat)) (l_11 : List Nat) (c38 : Nat) (l39 : List Nat) : Sg prog [] ref09_Block_l140 (ref09_Block_n69 a_0 a_1 v_2 a_3 t_4 t_5 v_6 t_7 v_8 l_9 l_10 l_11 (c38, l39)) (ref09_Block_m178 a_0 a_1 a_3 t_7 l_9 l_10 (c38, l39)) (ref09_Block_n69 a_0 a_1 v_2 a_3 t_4 t_5 v_6 t_7 v_8 l_9 l_10 l_11) (exitE 0 (ref09_Block_n136 a_0 a_1 a_3) ref09_Block_E) :=
  Sg.cut 2 (noN_exit ref09_Block_hN) (Sg.seg (C := C0) C0_ok L_reflect_Block_ok 60 (ref09_Block_l140.take 2) (ref09_Block_n69 a_0 a_1 v_2 a_3 t_4 t_5 v_6 t_7 v_8 l_9 l_10 l_11 (c38, l39)) (ref09_Block_t141 a_1 c38 l39) (ref09_Block_n70 a_0 a_1 v_2 a_3 t_4 t_5 v_6 t_7 v_8 l_9 l_10 l_11 c38 l39) (exitE 0 (ref09_Block_n136 a_0 a_1 a_3) ref09_Block_E) [⟨[], [0, 1, 2, 3, 4], [2, 3, 4, 6, 7, 8, 9]⟩, ⟨[], [2, 3, 4], [6, 8]⟩] (by kernel_rfl)) (fun a => by cases a; exact Sg.cut 1 (noN_exit ref09_Block_hN) (Sg.blockAt (id := 1) (K := (ref09_Block_n134 a_0 a_1 v_2 a_3 t_4 t_5 v_6 t_7 v_8 l_9 l_10 l_11 c38)) (by kernel_rfl : ((ref09_Block_l140.drop 2).take 1) = [.block 1 (inBlock ((((ref09_Block_l140.drop 2).take 1)).headD .skip))]) (noN_exit ref09_Block_hN) (noId_exit (by decide) (ref09_Block_hI _)) (Sg.cut 2 (noN_exit (noN_exit ref09_Block_hN)) (Sg.seg (C := C0) C0_ok L_reflect_Block_ok 60 (ref09_Block_l142.take 2) (ref09_Block_n70 a_0 a_1 v_2 a_3 t_4 t_5 v_6 t_7 v_8 l_9 l_10 l_11 c38 l39 ()) (ref09_Block_t143 l_9) (ref09_Block_n71 a_0 a_1 v_2 a_3 t_4 t_5 v_6 t_7 v_8 l_9 l_10 l_11 c38 l39) (exitE 1 (ref09_Block_n134 a_0 a_1 v_2 a_3 t_4 t_5 v_6 t_7 v_8 l_9 l_10 l_11 c38) (exitE 0 (ref09_Block_n136 a_0 a_1 a_3) ref09_Block_E)) [⟨[], [0, 1, 2, 3, 21, 4], [2, 3, 4, 6, 7, 8, 9, 10, 11]⟩] (by kernel_rfl)) (fun l40 => by exact Sg.cut 1 (noN_exit (noN_exit ref09_Block_hN)) (Sg.pre ⟨[], [0, 1, 2, 3, 4, 5], [2, 3, 4, 6, 7, 8, 9, 10, 11]⟩ rfl (by kernel_rfl : NS.on ⟨[], [0, 1, 2, 3, 4, 5], [2, 3, 4, 6, 7, 8, 9, 10, 11]⟩ (ref09_Block_n71 a_0 a_1 v_2 a_3 t_4 t_5 v_6 t_7 v_8 l_9 l_10 l_11 c38 l39 l40) = (ref09_Block_n81 a_0 a_1 v_2 a_3 t_4 t_5 v_6 t_7 v_8 l_9 l_10 l_11 c38 l39) (0, l40)) (Sg.loopAt (I := (ref09_Block_n81 a_0 a_1 v_2 a_3 t_4 t_5 v_6 t_7 v_8 l_9 l_10 l_11 c38 l39)) (J := (ref09_Block_n90 a_0 a_1 v_2 a_3 t_4 t_5 v_6 t_7 v_8 l_9 l_10 l_11 c38 l39)) (id := 2) (by kernel_rfl : ((ref09_Block_l142.drop 2).take 1) = [.block 2 (.loop (inLoop ((((ref09_Block_l142.drop 2).take 1)).headD .skip)))]) (noN_exit (noN_exit ref09_Block_hN)) (noId_exit (by decide) (noId_exit (by decide) (ref09_Block_hI _))) (fun s => by obtain ⟨i45, l46⟩ := s; exact ref09_Block_s153 a_0 a_1 v_2 a_3 t_4 t_5 v_6 t_7 v_8 l_9 l_10 l_11 c38 l39 i45 l46) (0, l40))) (fun l51 => by exact Sg.cut 2 (noN_exit (noN_exit ref09_Block_hN)) (Sg.seg (C := C0) C0_ok L_reflect_Block_ok 60 (((ref09_Block_l142.drop 2).drop 1).take 2) (ref09_Block_n91 a_0 a_1 v_2 a_3 t_4 t_5 v_6 t_7 v_8 l_9 l_10 l_11 c38 l39 l51) (ref09_Block_t154 l_9) (ref09_Block_n92 a_0 a_1 v_2 a_3 t_4 t_5 v_6 t_7 v_8 l_9 l_10 l_11 c38 l39 l51) (exitE 1 (ref09_Block_n134 a_0 a_1 v_2 a_3 t_4 t_5 v_6 t_7 v_8 l_9 l_10 l_11 c38) (exitE 0 (ref09_Block_n136 a_0 a_1 a_3) ref09_Block_E)) [⟨[], [0, 1, 2, 3, 4, 22, 5], [2, 3, 4, 6, 7, 8, 9, 10, 14, 15]⟩] (by kernel_rfl)) (fun l52 => by exact Sg.cut 1 (noN_exit (noN_exit ref09_Block_hN)) (Sg.pre ⟨[], [0, 1, 2, 3, 4, 5, 6], [2, 3, 4, 6, 7, 8, 9, 10, 14, 15]⟩ rfl (by kernel_rfl : NS.on ⟨[], [0, 1, 2, 3, 4, 5, 6], [2, 3, 4, 6, 7, 8, 9, 10, 14, 15]⟩ (ref09_Block_n92 a_0 a_1 v_2 a_3 t_4 t_5 v_6 t_7 v_8 l_9 l_10 l_11 c38 l39 l51 l52) = (ref09_Block_n102 a_0 a_1 v_2 a_3 t_4 t_5 v_6 t_7 v_8 l_9 l_10 l_11 c38 l39 l51) (0, l52)) (Sg.loopAt (I := (ref09_Block_n102 a_0 a_1 v_2 a_3 t_4 t_5 v_6 t_7 v_8 l_9 l_10 l_11 c38 l39 l51)) (J := (ref09_Block_n111 a_0 a_1 v_2 a_3 t_4 t_5 v_6 t_7 v_8 l_9 l_10 l_11 c38 l39)) (id := 6) (by kernel_rfl : ((((ref09_Block_l142.drop 2).drop 1).drop 2).take 1) = [.block 6 (.loop (inLoop ((((((ref09_Block_l142.drop 2).drop 1).drop 2).take 1)).headD .skip)))]) (noN_exit (noN_exit ref09_Block_hN)) (noId_exit (by decide) (noId_exit (by decide) (ref09_Block_hI _))) (fun s => by obtain ⟨i57, l58⟩ := s; exact ref09_Block_s164 a_0 a_1 v_2 a_3 t_4 t_5 v_6 t_7 v_8 l_9 l_10 l_11 c38 l39 l51 i57 l58) (0, l52))) (fun l63 => by exact Sg.cut 1 (noN_exit (noN_exit ref09_Block_hN)) (Sg.seg (C := C0) C0_ok L_reflect_Block_ok 60 (((((ref09_Block_l142.drop 2).drop 1).drop 2).drop 1).take 1) (ref09_Block_n112 a_0 a_1 v_2 a_3 t_4 t_5 v_6 t_7 v_8 l_9 l_10 l_11 c38 l39 l63) (ref09_Block_t165) (ref09_Block_n113 a_0 a_1 v_2 a_3 t_4 t_5 v_6 t_7 v_8 l_9 l_10 l_11 c38 l39 l63) (exitE 1 (ref09_Block_n134 a_0 a_1 v_2 a_3 t_4 t_5 v_6 t_7 v_8 l_9 l_10 l_11 c38) (exitE 0 (ref09_Block_n136 a_0 a_1 a_3) ref09_Block_E)) [⟨[], [0, 1, 2, 3, 4, 5], [2, 3, 4, 6, 7, 8, 9, 14, 18]⟩] (by kernel_rfl)) (fun a => by cases a; exact Sg.cut 1 (noN_exit (noN_exit ref09_Block_hN)) (Sg.pre ⟨[], [0, 1, 2, 3, 4, 5], [2, 3, 4, 6, 7, 8, 9, 14, 18]⟩ rfl (by kernel_rfl : NS.on ⟨[], [0, 1, 2, 3, 4, 5], [2, 3, 4, 6, 7, 8, 9, 14, 18]⟩ (ref09_Block_n113 a_0 a_1 v_2 a_3 t_4 t_5 v_6 t_7 v_8 l_9 l_10 l_11 c38 l39 l63 ()) = (ref09_Block_n123 a_0 a_1 v_2 a_3 t_4 t_5 v_6 t_7 v_8 l_9 l_10 l_11 c38 l63) (0, l39)) (Sg.loopAt (I := (ref09_Block_n123 a_0 a_1 v_2 a_3 t_4 t_5 v_6 t_7 v_8 l_9 l_10 l_11 c38 l63)) (J := (ref09_Block_n132 a_0 a_1 v_2 a_3 t_4 t_5 v_6 t_7 v_8 l_9 l_10 l_11 c38)) (id := 10) (by kernel_rfl : ((((((ref09_Block_l142.drop 2).drop 1).drop 2).drop 1).drop 1).take 1) = [.block 10 (.loop (inLoop ((((((((ref09_Block_l142.drop 2).drop 1).drop 2).drop 1).drop 1).take 1)).headD .skip)))]) (noN_exit (noN_exit ref09_Block_hN)) (noId_exit (by decide) (noId_exit (by decide) (ref09_Block_hI _))) (fun s => by obtain ⟨r68, l69⟩ := s; exact ref09_Block_s175 a_0 a_1 v_2 a_3 t_4 t_5 v_6 t_7 v_8 l_9 l_10 l_11 c38 l63 r68 l69) (0, l39))) (fun l74 => by exact Sg.seg (C := C0) C0_ok L_reflect_Block_ok 60 ((((((ref09_Block_l142.drop 2).drop 1).drop 2).drop 1).drop 1).drop 1) (ref09_Block_n133 a_0 a_1 v_2 a_3 t_4 t_5 v_6 t_7 v_8 l_9 l_10 l_11 c38 l74) (ref09_Block_t176 l74) (ref09_Block_n134 a_0 a_1 v_2 a_3 t_4 t_5 v_6 t_7 v_8 l_9 l_10 l_11 c38) (exitE 1 (ref09_Block_n134 a_0 a_1 v_2 a_3 t_4 t_5 v_6 t_7 v_8 l_9 l_10 l_11 c38) (exitE 0 (ref09_Block_n136 a_0 a_1 a_3) ref09_Block_E)) [⟨[], [0, 1, 2, 3, 4], [2, 3, 4, 6, 7, 8, 9]⟩] (by kernel_rfl))))))))) (fun l75 => by exact Sg.seg (C := C0) C0_ok L_reflect_Block_ok 60 ((ref09_Block_l140.drop 2).drop 1) (ref09_Block_n135 a_0 a_1 v_2 a_3 t_4 t_5 v_6 t_7 v_8 l_9 l_10 l_11 c38 l75) (ref09_Block_t177 c38 l75) (ref09_Block_n69 a_0 a_1 v_2 a_3 t_4 t_5 v_6 t_7 v_8 l_9 l_10 l_11) (exitE 0 (ref09_Block_n136 a_0 a_1 a_3) ref09_Block_E) [⟨[], [0, 1, 2, 3, 4], [2, 3, 4, 6, 7, 8, 9]⟩] (by kernel_rfl)))
def ref09_Block_n137 (a_0 : Int) (a_1 : Int) (a_3 : List Nat) : (List Nat) → ASt := ref09_Block_n136 a_0 a_1 a_3
def ref09_Block_t179 (a_0 : Int) (a_1 : Int) (a_3 : List Nat) (l76 : List Nat) : T ((Empty) ⊕ (ref09_Block_X)) :=
  .leaf (.inr (.r0 a_0 a_1 (List.length a_3) l76))
noncomputable def ref09_Block_F (a_0 : Int) (a_1 : Int) (a_3 : List Nat) (t_7 : List Nat) (l_9 : Nat) (l_10 : List (List Nat)) : Option ref09_Block_X := toX (seqM ((ref09_Block_t139 a_3).run) fun l1 =>
  seqM (loopM (ref09_Block_m178 a_0 a_1 a_3 t_7 l_9 l_10) (0, l1)) fun l76 =>
  (ref09_Block_t179 a_0 a_1 a_3 l76).run)
theorem ref09_Block_ok (a_0 : Int) (a_1 : Int) (v_2 : Lv) (a_3 : List Nat) (t_4 : Int) (t_5 : Int) (v_6 : Lv) (t_7 : List Nat) (v_8 : Lv) (l_9 : Nat) (l_10 : List (List Nat)) (l_11 : List Nat) {x : ref09_Block_X} (h : ref09_Block_F a_0 a_1 a_3 t_7 l_9 l_10 = some x) : Contract prog n_ref09_Block [] [.agg [.int .i64 a_0, .int .i64 a_1, .imm v_2 (.fl a_3) 1 1 0 (List.length a_3)], .agg [.int .i64 t_4, .int .i64 t_5, .imm v_6 (.fl t_7) 1 1 0 (List.length t_7)], .imm v_8 (.cols l_9 [.cfl l_10, .cf l_11]) 2 2 0 l_9] (ref09_Block_o x) :=
  Sg.contract false ref09_Block_o (by kernel_rfl : prog.funcs[n_ref09_Block]? = some (FN n_ref09_Block)) (by kernel_rfl : (FN n_ref09_Block).body = some (BODY n_ref09_Block)) (Sg.cut 4 ref09_Block_hN (Sg.seg (C := C0) C0_ok L_reflect_Block_ok 60 (ref09_Block_l138.take 4) (entryOf (FN n_ref09_Block) [] [.agg [.int .i64 a_0, .int .i64 a_1, .imm v_2 (.fl a_3) 1 1 0 (List.length a_3)], .agg [.int .i64 t_4, .int .i64 t_5, .imm v_6 (.fl t_7) 1 1 0 (List.length t_7)], .imm v_8 (.cols l_9 [.cfl l_10, .cf l_11]) 2 2 0 l_9]) (ref09_Block_t139 a_3) (ref09_Block_n1 a_0 a_1 v_2 a_3 t_4 t_5 v_6 t_7 v_8 l_9 l_10 l_11) ref09_Block_E [⟨[], [0, 16, 32, 128, 112], [2, 3, 4, 6, 7, 8, 9]⟩] (by kernel_rfl)) (fun l1 => by exact Sg.cut 1 ref09_Block_hN (Sg.pre ⟨[], [0, 1, 2, 3, 4], [2, 3, 4, 6, 7, 8, 9]⟩ rfl (by kernel_rfl : NS.on ⟨[], [0, 1, 2, 3, 4], [2, 3, 4, 6, 7, 8, 9]⟩ (ref09_Block_n1 a_0 a_1 v_2 a_3 t_4 t_5 v_6 t_7 v_8 l_9 l_10 l_11 l1) = (ref09_Block_n69 a_0 a_1 v_2 a_3 t_4 t_5 v_6 t_7 v_8 l_9 l_10 l_11) (0, l1)) (Sg.loopAt (I := (ref09_Block_n69 a_0 a_1 v_2 a_3 t_4 t_5 v_6 t_7 v_8 l_9 l_10 l_11)) (J := (ref09_Block_n136 a_0 a_1 a_3)) (id := 0) (by kernel_rfl : ((ref09_Block_l138.drop 4).take 1) = [.block 0 (.loop (inLoop ((((ref09_Block_l138.drop 4).take 1)).headD .skip)))]) ref09_Block_hN (ref09_Block_hI _) (fun s => by obtain ⟨c38, l39⟩ := s; exact ref09_Block_s178 a_0 a_1 v_2 a_3 t_4 t_5 v_6 t_7 v_8 l_9 l_10 l_11 c38 l39) (0, l1))) (fun l76 => by exact Sg.seg (C := C0) C0_ok L_reflect_Block_ok 60 ((ref09_Block_l138.drop 4).drop 1) (ref09_Block_n137 a_0 a_1 a_3 l76) (ref09_Block_t179 a_0 a_1 a_3 l76) (fun a : Empty => a.elim) ref09_Block_E [⟨[], [0, 2], [6]⟩] (by kernel_rfl))))
    (fun x => by cases x with | r0 i77 i78 a79 l80 => exact ⟨.inr rfl, [.agg [.int .i64 i77, .int .i64 i78, .sl 1 1 1 0 a79 a79]], [], by kernel_rfl, trivial, by kernel_rfl⟩) h

def ref09_Block_i0 : Option ref09_Block_X → Bool
  | some _ => true
  | none => false
def ref09_Block_p0_0 : Option ref09_Block_X → Int
  | some (.r0 x _ _ _) => x
  | _ => 0
def ref09_Block_p0_1 : Option ref09_Block_X → Int
  | some (.r0 _ x _ _) => x
  | _ => 0
def ref09_Block_p0_2 : Option ref09_Block_X → Nat
  | some (.r0 _ _ x _) => x
  | _ => 0
def ref09_Block_p0_3 : Option ref09_Block_X → List Nat
  | some (.r0 _ _ _ x) => x
  | _ => []
theorem ref09_Block_e0 {x : Option ref09_Block_X} (h : ref09_Block_i0 x = true) : x = some (.r0 (ref09_Block_p0_0 x) (ref09_Block_p0_1 x) (ref09_Block_p0_2 x) (ref09_Block_p0_3 x)) := by
  unfold ref09_Block_i0 at h
  split at h <;> first | rfl | (cases h; done) | (rename_i y; cases y; rfl)
noncomputable def e_ref09_Block : Entry := autoE n_ref09_Block (.cons (.agg (.cons (.int .i64) (.cons (.int .i64) (.cons .fl .nil)))) (.cons (.agg (.cons (.int .i64) (.cons (.int .i64) (.cons .fl .nil)))) (.cons (.cols [.cfl, .cf]) .nil))) fun t => [⟨ref09_Block_o (.r0 (ref09_Block_p0_0 (ref09_Block_F t.1.1 t.1.2.1 t.1.2.2.1.2 t.2.1.2.2.1.2 t.2.2.1.2.1 t.2.2.1.2.2.1)) (ref09_Block_p0_1 (ref09_Block_F t.1.1 t.1.2.1 t.1.2.2.1.2 t.2.1.2.2.1.2 t.2.2.1.2.1 t.2.2.1.2.2.1)) (ref09_Block_p0_2 (ref09_Block_F t.1.1 t.1.2.1 t.1.2.2.1.2 t.2.1.2.2.1.2 t.2.2.1.2.1 t.2.2.1.2.2.1)) (ref09_Block_p0_3 (ref09_Block_F t.1.1 t.1.2.1 t.1.2.2.1.2 t.2.1.2.2.1.2 t.2.2.1.2.1 t.2.2.1.2.2.1))), [ref09_Block_i0 (ref09_Block_F t.1.1 t.1.2.1 t.1.2.2.1.2 t.2.1.2.2.1.2 t.2.2.1.2.1 t.2.2.1.2.2.1)]⟩]
theorem e_ref09_Block_ok : EntryOk prog e_ref09_Block := autoE_ok fun t => (altsCons (fun h => ref09_Block_ok t.1.1 t.1.2.1 t.1.2.2.1.1 t.1.2.2.1.2 t.2.1.1 t.2.1.2.1 t.2.1.2.2.1.1 t.2.1.2.2.1.2 t.2.2.1.1 t.2.2.1.2.1 t.2.2.1.2.2.1 t.2.2.1.2.2.2.1 (ref09_Block_e0 h)) altsNil)
noncomputable def L_ref09_Block : List Entry := e_ref09_Block :: L_reflect_Block
theorem L_ref09_Block_ok : SumsOk prog (sumsOf L_ref09_Block) := sumsOf_cons e_ref09_Block_ok L_reflect_Block_ok

end
end Go.Plb.Seat

namespace Go.Plb.Seat
open Go Go.Plb
set_option linter.unusedVariables false
set_option maxRecDepth 10000
noncomputable section

inductive law09_ReflectBlocks_X where
  | r0 (b10 : Bool)
def law09_ReflectBlocks_E : law09_ReflectBlocks_X → AE × ASt
  | .r0 b10 => (.ret, ⟨slots 91 [(6, .bool false b10)], [], 0⟩)
theorem law09_ReflectBlocks_hN : NoN law09_ReflectBlocks_E := by intro x; cases x <;> (intro h; cases h)
theorem law09_ReflectBlocks_hI (id : Nat) : NoId id law09_ReflectBlocks_E := by intro x; cases x <;> (intro h; cases h)
def law09_ReflectBlocks_o : law09_ReflectBlocks_X → Out
  | .r0 b10 => ⟨.bool false b10, []⟩
noncomputable def law09_ReflectBlocks_l7 : List Code := flat (BODY n_law09_ReflectBlocks)
def law09_ReflectBlocks_n1 (a_0 : Int) (a_1 : Int) (v_2 : Lv) (a_3 : List Nat) (t_4 : Int) (t_5 : Int) (v_6 : Lv) (t_7 : List Nat) (v_8 : Lv) (l_9 : Nat) (l_10 : List (List Nat)) (l_11 : List Nat) (b1 : Bool) : ASt := ⟨slots 91 [(2, .imm v_8 (.cols l_9 [.cfl l_10, .cf l_11]) 2 2 0 l_9), (3, .ptr 0 1 0 0), (4, .ptr 1 1 0 0), (27, .bool false b1)], [(0, .vs [.int .i64 a_0, .int .i64 a_1, .imm v_2 (.fl a_3) 1 1 0 (List.length a_3)]), (1, .vs [.int .i64 t_4, .int .i64 t_5, .imm v_6 (.fl t_7) 1 1 0 (List.length t_7)])], 2⟩
def law09_ReflectBlocks_t8 (a_3 : List Nat) (t_7 : List Nat) (l_9 : Nat) (l_10 : List (List Nat)) : T ((Bool) ⊕ (law09_ReflectBlocks_X)) :=
  .ask (!(decide ((((List.length a_3) : Nat) : Int) ≤ (400 : Int))))
    (.leaf (.inl true))
    (.ask (!(decide ((((List.length t_7) : Nat) : Int) ≤ (400 : Int))))
      (.leaf (.inl true))
      (.ask (decide (((l_9 : Nat) : Int) > (20 : Int)))
        (.leaf (.inl true))
        (.need (Nat.ble (0 + l_9) l_9) <| .need (law09_total_i0 (law09_total_F l_9 (cutL 0 l_9 l_10))) <| .leaf (.inl (decide ((law09_total_p0_0 (law09_total_F l_9 (cutL 0 l_9 l_10))) > (400 : Int)))))))
def law09_ReflectBlocks_n2 (a_0 : Int) (a_1 : Int) (v_2 : Lv) (a_3 : List Nat) (t_4 : Int) (t_5 : Int) (v_6 : Lv) (t_7 : List Nat) (v_8 : Lv) (l_9 : Nat) (l_10 : List (List Nat)) (l_11 : List Nat) : Nat × Int × Int × Nat × (List Nat) → ASt := fun (e2, i3, i4, a5, l6) => ⟨slots 91 [(2, .imm v_8 (.cols l_9 [.cfl l_10, .cf l_11]) 2 2 0 l_9), (3, .ptr 0 1 0 0), (4, .ptr 1 1 0 0), (7, .ptr 2 1 0 0), (8, .int .i64 ((e2 : Nat) : Int))], [(0, .vs [.int .i64 a_0, .int .i64 a_1, .imm v_2 (.fl a_3) 1 1 0 (List.length a_3)]), (1, .vs [.int .i64 t_4, .int .i64 t_5, .imm v_6 (.fl t_7) 1 1 0 (List.length t_7)]), (2, .vs [.int .i64 i3, .int .i64 i4, .sl 3 1 1 0 a5 a5]), (3, .fl l6)], 4⟩
def law09_ReflectBlocks_t9 (a_0 : Int) (a_1 : Int) (a_3 : List Nat) (t_4 : Int) (t_5 : Int) (t_7 : List Nat) (l_9 : Nat) (l_10 : List (List Nat)) (l_11 : List Nat) (b1 : Bool) : T ((Nat × Int × Int × Nat × (List Nat)) ⊕ (law09_ReflectBlocks_X)) :=
  .ask b1
    (.leaf (.inr (.r0 true)))
    (.alt 0
      (.need (slOk 0 (List.length a_3) a_3) <| .need (slOk 0 (List.length t_7) t_7) <| .need (Nat.ble (0 + l_9) l_9) <| .need (reflect_Block_i0 (reflect_Block_F a_0 a_1 (cutL 0 (List.length a_3) a_3) t_4 t_5 (cutL 0 (List.length t_7) t_7) l_9 (cutL 0 l_9 l_10) (cutL 0 l_9 l_11))) <| .leaf (.inl ((reflect_Block_p0_0 (reflect_Block_F a_0 a_1 (cutL 0 (List.length a_3) a_3) t_4 t_5 (cutL 0 (List.length t_7) t_7) l_9 (cutL 0 l_9 l_10) (cutL 0 l_9 l_11))), (0 : Int), (0 : Int), 0, ([] : List Nat))))
      (.alt 1
        (.need (slOk 0 (List.length a_3) a_3) <| .need (slOk 0 (List.length t_7) t_7) <| .need (Nat.ble (0 + l_9) l_9) <| .need (reflect_Block_i1 (reflect_Block_F a_0 a_1 (cutL 0 (List.length a_3) a_3) t_4 t_5 (cutL 0 (List.length t_7) t_7) l_9 (cutL 0 l_9 l_10) (cutL 0 l_9 l_11))) <| .leaf (.inl (0, (reflect_Block_p1_0 (reflect_Block_F a_0 a_1 (cutL 0 (List.length a_3) a_3) t_4 t_5 (cutL 0 (List.length t_7) t_7) l_9 (cutL 0 l_9 l_10) (cutL 0 l_9 l_11))), (reflect_Block_p1_1 (reflect_Block_F a_0 a_1 (cutL 0 (List.length a_3) a_3) t_4 t_5 (cutL 0 (List.length t_7) t_7) l_9 (cutL 0 l_9 l_10) (cutL 0 l_9 l_11))), (reflect_Block_p1_2 (reflect_Block_F a_0 a_1 (cutL 0 (List.length a_3) a_3) t_4 t_5 (cutL 0 (List.length t_7) t_7) l_9 (cutL 0 l_9 l_10) (cutL 0 l_9 l_11))), (reflect_Block_p1_3 (reflect_Block_F a_0 a_1 (cutL 0 (List.length a_3) a_3) t_4 t_5 (cutL 0 (List.length t_7) t_7) l_9 (cutL 0 l_9 l_10) (cutL 0 l_9 l_11))))))
        (.fail)))
def law09_ReflectBlocks_n3 (a_0 : Int) (a_1 : Int) (v_2 : Lv) (a_3 : List Nat) (t_4 : Int) (t_5 : Int) (v_6 : Lv) (t_7 : List Nat) (v_8 : Lv) (l_9 : Nat) (l_10 : List (List Nat)) (l_11 : List Nat) (e2 : Nat) (i3 : Int) (i4 : Int) (a5 : Nat) (l6 : List Nat) (b7 : Bool) : ASt := ⟨slots 91 [(2, .imm v_8 (.cols l_9 [.cfl l_10, .cf l_11]) 2 2 0 l_9), (3, .ptr 0 1 0 0), (4, .ptr 1 1 0 0), (7, .ptr 2 1 0 0), (8, .int .i64 ((e2 : Nat) : Int)), (9, .int .i64 (0 : Int)), (48, .bool false b7)], [(0, .vs [.int .i64 a_0, .int .i64 a_1, .imm v_2 (.fl a_3) 1 1 0 (List.length a_3)]), (1, .vs [.int .i64 t_4, .int .i64 t_5, .imm v_6 (.fl t_7) 1 1 0 (List.length t_7)]), (2, .vs [.int .i64 i3, .int .i64 i4, .sl 3 1 1 0 a5 a5]), (3, .fl l6)], 4⟩
def law09_ReflectBlocks_t10 (a_0 : Int) (a_1 : Int) (a_3 : List Nat) (t_4 : Int) (t_5 : Int) (t_7 : List Nat) (l_9 : Nat) (l_10 : List (List Nat)) : T ((Bool) ⊕ (law09_ReflectBlocks_X)) :=
  .need (slOk 0 (List.length a_3) a_3) <| .need (ref09_May_i0 (ref09_May_F a_0 a_1 (cutL 0 (List.length a_3) a_3))) <| .ask (!(ref09_May_p0_0 (ref09_May_F a_0 a_1 (cutL 0 (List.length a_3) a_3))))
    (.leaf (.inl true))
    (.need (slOk 0 (List.length t_7) t_7) <| .need (ref09_May_i0 (ref09_May_F t_4 t_5 (cutL 0 (List.length t_7) t_7))) <| .ask (!(ref09_May_p0_0 (ref09_May_F t_4 t_5 (cutL 0 (List.length t_7) t_7))))
      (.leaf (.inl true))
      (.need (Nat.ble (0 + l_9) l_9) <| .need (ref09_Alike_i0 (ref09_Alike_F l_9 (cutL 0 l_9 l_10))) <| .leaf (.inl (!(ref09_Alike_p0_0 (ref09_Alike_F l_9 (cutL 0 l_9 l_10)))))))
def law09_ReflectBlocks_n4 (a_0 : Int) (a_1 : Int) (v_2 : Lv) (a_3 : List Nat) (t_4 : Int) (t_5 : Int) (v_6 : Lv) (t_7 : List Nat) (v_8 : Lv) (l_9 : Nat) (l_10 : List (List Nat)) (l_11 : List Nat) (e2 : Nat) (i3 : Int) (i4 : Int) (a5 : Nat) (l6 : List Nat) (want8 : Nat) : ASt := ⟨slots 91 [(2, .imm v_8 (.cols l_9 [.cfl l_10, .cf l_11]) 2 2 0 l_9), (3, .ptr 0 1 0 0), (4, .ptr 1 1 0 0), (7, .ptr 2 1 0 0), (8, .int .i64 ((e2 : Nat) : Int)), (9, .int .i64 ((want8 : Nat) : Int))], [(0, .vs [.int .i64 a_0, .int .i64 a_1, .imm v_2 (.fl a_3) 1 1 0 (List.length a_3)]), (1, .vs [.int .i64 t_4, .int .i64 t_5, .imm v_6 (.fl t_7) 1 1 0 (List.length t_7)]), (2, .vs [.int .i64 i3, .int .i64 i4, .sl 3 1 1 0 a5 a5]), (3, .fl l6)], 4⟩
def law09_ReflectBlocks_t11 (a_0 : Int) (t_4 : Int) (t_5 : Int) (l_9 : Nat) (l_10 : List (List Nat)) (b7 : Bool) : T ((Nat) ⊕ (law09_ReflectBlocks_X)) :=
  .ask b7
    (.leaf (.inl 2))
    (.ask (t_4 != ((l_9 : Nat) : Int))
      (.leaf (.inl 8))
      (.ask (t_5 != ((l_9 : Nat) : Int))
        (.leaf (.inl 8))
        (.need (inB (0 : Int) l_9) <| .need (ltB 0 (List.length l_10)) <| .ask (a_0 != (((List.length (List.getD l_10 0 [])) : Nat) : Int))
          (.leaf (.inl 8))
          (.leaf (.inl 0)))))
def law09_ReflectBlocks_n5 (a_0 : Int) (a_1 : Int) (v_2 : Lv) (a_3 : List Nat) (t_4 : Int) (t_5 : Int) (v_6 : Lv) (t_7 : List Nat) (v_8 : Lv) (l_9 : Nat) (l_10 : List (List Nat)) (l_11 : List Nat) (i3 : Int) (i4 : Int) (a5 : Nat) (l6 : List Nat) (_ : Unit) : ASt := ⟨slots 91 [(2, .imm v_8 (.cols l_9 [.cfl l_10, .cf l_11]) 2 2 0 l_9), (3, .ptr 0 1 0 0), (4, .ptr 1 1 0 0), (7, .ptr 2 1 0 0)], [(0, .vs [.int .i64 a_0, .int .i64 a_1, .imm v_2 (.fl a_3) 1 1 0 (List.length a_3)]), (1, .vs [.int .i64 t_4, .int .i64 t_5, .imm v_6 (.fl t_7) 1 1 0 (List.length t_7)]), (2, .vs [.int .i64 i3, .int .i64 i4, .sl 3 1 1 0 a5 a5]), (3, .fl l6)], 4⟩
def law09_ReflectBlocks_t12 (e2 : Nat) (i3 : Int) (i4 : Int) (a5 : Nat) (l6 : List Nat) (want8 : Nat) : T ((Unit) ⊕ (law09_ReflectBlocks_X)) :=
  .ask (((e2 : Nat) : Int) != ((want8 : Nat) : Int))
    (.leaf (.inr (.r0 false)))
    (.ask (((want8 : Nat) : Int) != (0 : Int))
      (.need (slOk 0 a5 l6) <| .need (ref09_Same_i0 (ref09_Same_F i3 i4 (cutL 0 a5 l6) (0 : Int) (0 : Int) ([] : List Nat))) <| .ask (ref09_Same_p0_0 (ref09_Same_F i3 i4 (cutL 0 a5 l6) (0 : Int) (0 : Int) ([] : List Nat)))
        (.leaf (.inr (.r0 true)))
        (.leaf (.inr (.r0 false))))
      (.leaf (.inl ())))
def law09_ReflectBlocks_n6 (b9 : Bool) : ASt := ⟨slots 91 [(6, .bool false b9)], [], 0⟩
def law09_ReflectBlocks_t13 (a_0 : Int) (a_1 : Int) (a_3 : List Nat) (t_7 : List Nat) (l_9 : Nat) (l_10 : List (List Nat)) (i3 : Int) (i4 : Int) (a5 : Nat) (l6 : List Nat) : T ((Bool) ⊕ (law09_ReflectBlocks_X)) :=
  .need (slOk 0 (List.length a_3) a_3) <| .need (slOk 0 (List.length t_7) t_7) <| .need (Nat.ble (0 + l_9) l_9) <| .need (ref09_Block_i0 (ref09_Block_F a_0 a_1 (cutL 0 (List.length a_3) a_3) (cutL 0 (List.length t_7) t_7) l_9 (cutL 0 l_9 l_10))) <| .need (slOk 0 a5 l6) <| .need (slOk 0 (ref09_Block_p0_2 (ref09_Block_F a_0 a_1 (cutL 0 (List.length a_3) a_3) (cutL 0 (List.length t_7) t_7) l_9 (cutL 0 l_9 l_10))) (ref09_Block_p0_3 (ref09_Block_F a_0 a_1 (cutL 0 (List.length a_3) a_3) (cutL 0 (List.length t_7) t_7) l_9 (cutL 0 l_9 l_10)))) <| .need (ref09_Same_i0 (ref09_Same_F i3 i4 (cutL 0 a5 l6) (ref09_Block_p0_0 (ref09_Block_F a_0 a_1 (cutL 0 (List.length a_3) a_3) (cutL 0 (List.length t_7) t_7) l_9 (cutL 0 l_9 l_10))) (ref09_Block_p0_1 (ref09_Block_F a_0 a_1 (cutL 0 (List.length a_3) a_3) (cutL 0 (List.length t_7) t_7) l_9 (cutL 0 l_9 l_10))) (cutL 0 (ref09_Block_p0_2 (ref09_Block_F a_0 a_1 (cutL 0 (List.length a_3) a_3) (cutL 0 (List.length t_7) t_7) l_9 (cutL 0 l_9 l_10))) (ref09_Block_p0_3 (ref09_Block_F a_0 a_1 (cutL 0 (List.length a_3) a_3) (cutL 0 (List.length t_7) t_7) l_9 (cutL 0 l_9 l_10)))))) <| .ask (ref09_Same_p0_0 (ref09_Same_F i3 i4 (cutL 0 a5 l6) (ref09_Block_p0_0 (ref09_Block_F a_0 a_1 (cutL 0 (List.length a_3) a_3) (cutL 0 (List.length t_7) t_7) l_9 (cutL 0 l_9 l_10))) (ref09_Block_p0_1 (ref09_Block_F a_0 a_1 (cutL 0 (List.length a_3) a_3) (cutL 0 (List.length t_7) t_7) l_9 (cutL 0 l_9 l_10))) (cutL 0 (ref09_Block_p0_2 (ref09_Block_F a_0 a_1 (cutL 0 (List.length a_3) a_3) (cutL 0 (List.length t_7) t_7) l_9 (cutL 0 l_9 l_10))) (ref09_Block_p0_3 (ref09_Block_F a_0 a_1 (cutL 0 (List.length a_3) a_3) (cutL 0 (List.length t_7) t_7) l_9 (cutL 0 l_9 l_10))))))
    (.leaf (.inl true))
    (.leaf (.inl false))
def law09_ReflectBlocks_t14 (b9 : Bool) : T ((Empty) ⊕ (law09_ReflectBlocks_X)) :=
  .leaf (.inr (.r0 b9))
noncomputable def law09_ReflectBlocks_F (a_0 : Int) (a_1 : Int) (a_3 : List Nat) (t_4 : Int) (t_5 : Int) (t_7 : List Nat) (l_9 : Nat) (l_10 : List (List Nat)) (l_11 : List Nat) : Option law09_ReflectBlocks_X := toX (seqM ((law09_ReflectBlocks_t8 a_3 t_7 l_9 l_10).run) fun b1 =>
  seqM ((law09_ReflectBlocks_t9 a_0 a_1 a_3 t_4 t_5 t_7 l_9 l_10 l_11 b1).run) fun (e2, i3, i4, a5, l6) =>
  seqM ((law09_ReflectBlocks_t10 a_0 a_1 a_3 t_4 t_5 t_7 l_9 l_10).run) fun b7 =>
  seqM ((law09_ReflectBlocks_t11 a_0 t_4 t_5 l_9 l_10 b7).run) fun want8 =>
  seqM ((law09_ReflectBlocks_t12 e2 i3 i4 a5 l6 want8).run) fun _ =>
  seqM ((law09_ReflectBlocks_t13 a_0 a_1 a_3 t_7 l_9 l_10 i3 i4 a5 l6).run) fun b9 =>
  (law09_ReflectBlocks_t14 b9).run)
theorem law09_ReflectBlocks_ok (a_0 : Int) (a_1 : Int) (v_2 : Lv) (a_3 : List Nat) (t_4 : Int) (t_5 : Int) (v_6 : Lv) (t_7 : List Nat) (v_8 : Lv) (l_9 : Nat) (l_10 : List (List Nat)) (l_11 : List Nat) {x : law09_ReflectBlocks_X} (h : law09_ReflectBlocks_F a_0 a_1 a_3 t_4 t_5 t_7 l_9 l_10 l_11 = some x) : Contract prog n_law09_ReflectBlocks [] [.agg [.int .i64 a_0, .int .i64 a_1, .imm v_2 (.fl a_3) 1 1 0 (List.length a_3)], .agg [.int .i64 t_4, .int .i64 t_5, .imm v_6 (.fl t_7) 1 1 0 (List.length t_7)], .imm v_8 (.cols l_9 [.cfl l_10, .cf l_11]) 2 2 0 l_9] (law09_ReflectBlocks_o x) :=
  Sg.contract false law09_ReflectBlocks_o (by kernel_rfl : prog.funcs[n_law09_ReflectBlocks]? = some (FN n_law09_ReflectBlocks)) (by kernel_rfl : (FN n_law09_ReflectBlocks).body = some (BODY n_law09_ReflectBlocks)) (Sg.cut 2 law09_ReflectBlocks_hN (Sg.seg (C := C0) C0_ok L_ref09_Block_ok 60 (law09_ReflectBlocks_l7.take 2) (entryOf (FN n_law09_ReflectBlocks) [] [.agg [.int .i64 a_0, .int .i64 a_1, .imm v_2 (.fl a_3) 1 1 0 (List.length a_3)], .agg [.int .i64 t_4, .int .i64 t_5, .imm v_6 (.fl t_7) 1 1 0 (List.length t_7)], .imm v_8 (.cols l_9 [.cfl l_10, .cf l_11]) 2 2 0 l_9]) (law09_ReflectBlocks_t8 a_3 t_7 l_9 l_10) (law09_ReflectBlocks_n1 a_0 a_1 v_2 a_3 t_4 t_5 v_6 t_7 v_8 l_9 l_10 l_11) law09_ReflectBlocks_E [⟨[], [0, 16], [2, 3, 4, 27]⟩, ⟨[], [0, 16], [2, 3, 4, 27]⟩, ⟨[], [0, 16], [2, 3, 4, 27]⟩, ⟨[], [0, 16], [2, 3, 4, 27]⟩] (by kernel_rfl)) (fun b1 => by exact Sg.cut 2 law09_ReflectBlocks_hN (Sg.seg (C := C0) C0_ok L_ref09_Block_ok 60 ((law09_ReflectBlocks_l7.drop 2).take 2) (law09_ReflectBlocks_n1 a_0 a_1 v_2 a_3 t_4 t_5 v_6 t_7 v_8 l_9 l_10 l_11 b1) (law09_ReflectBlocks_t9 a_0 a_1 a_3 t_4 t_5 t_7 l_9 l_10 l_11 b1) (law09_ReflectBlocks_n2 a_0 a_1 v_2 a_3 t_4 t_5 v_6 t_7 v_8 l_9 l_10 l_11) law09_ReflectBlocks_E [⟨[], [], [6]⟩, ⟨[(.cell 114 2, 1, 1, .fl ([] : List Nat))], [0, 1, 114, 162], [2, 3, 4, 7, 8]⟩, ⟨[], [0, 1, 114, 50], [2, 3, 4, 7, 8]⟩] (by kernel_rfl)) (fun a => by obtain ⟨e2, i3, i4, a5, l6⟩ := a; exact Sg.cut 2 law09_ReflectBlocks_hN (Sg.seg (C := C0) C0_ok L_ref09_Block_ok 60 (((law09_ReflectBlocks_l7.drop 2).drop 2).take 2) (law09_ReflectBlocks_n2 a_0 a_1 v_2 a_3 t_4 t_5 v_6 t_7 v_8 l_9 l_10 l_11 (e2, i3, i4, a5, l6)) (law09_ReflectBlocks_t10 a_0 a_1 a_3 t_4 t_5 t_7 l_9 l_10) (law09_ReflectBlocks_n3 a_0 a_1 v_2 a_3 t_4 t_5 v_6 t_7 v_8 l_9 l_10 l_11 e2 i3 i4 a5 l6) law09_ReflectBlocks_E [⟨[], [0, 1, 2, 3], [2, 3, 4, 7, 8, 9, 48]⟩, ⟨[], [0, 1, 2, 3], [2, 3, 4, 7, 8, 9, 48]⟩, ⟨[], [0, 1, 2, 3], [2, 3, 4, 7, 8, 9, 48]⟩] (by kernel_rfl)) (fun b7 => by exact Sg.cut 1 law09_ReflectBlocks_hN (Sg.seg (C := C0) C0_ok L_ref09_Block_ok 60 ((((law09_ReflectBlocks_l7.drop 2).drop 2).drop 2).take 1) (law09_ReflectBlocks_n3 a_0 a_1 v_2 a_3 t_4 t_5 v_6 t_7 v_8 l_9 l_10 l_11 e2 i3 i4 a5 l6 b7) (law09_ReflectBlocks_t11 a_0 t_4 t_5 l_9 l_10 b7) (law09_ReflectBlocks_n4 a_0 a_1 v_2 a_3 t_4 t_5 v_6 t_7 v_8 l_9 l_10 l_11 e2 i3 i4 a5 l6) law09_ReflectBlocks_E [⟨[], [0, 1, 2, 3], [2, 3, 4, 7, 8, 9]⟩, ⟨[], [0, 1, 2, 3], [2, 3, 4, 7, 8, 9]⟩, ⟨[], [0, 1, 2, 3], [2, 3, 4, 7, 8, 9]⟩, ⟨[], [0, 1, 2, 3], [2, 3, 4, 7, 8, 9]⟩, ⟨[], [0, 1, 2, 3], [2, 3, 4, 7, 8, 9]⟩] (by kernel_rfl)) (fun want8 => by exact Sg.cut 4 law09_ReflectBlocks_hN (Sg.seg (C := C0) C0_ok L_ref09_Block_ok 60 (((((law09_ReflectBlocks_l7.drop 2).drop 2).drop 2).drop 1).take 4) (law09_ReflectBlocks_n4 a_0 a_1 v_2 a_3 t_4 t_5 v_6 t_7 v_8 l_9 l_10 l_11 e2 i3 i4 a5 l6 want8) (law09_ReflectBlocks_t12 e2 i3 i4 a5 l6 want8) (law09_ReflectBlocks_n5 a_0 a_1 v_2 a_3 t_4 t_5 v_6 t_7 v_8 l_9 l_10 l_11 i3 i4 a5 l6) law09_ReflectBlocks_E [⟨[], [], [6]⟩, ⟨[], [], [6]⟩, ⟨[], [], [6]⟩, ⟨[], [0, 1, 2, 3], [2, 3, 4, 7]⟩] (by kernel_rfl)) (fun a => by cases a; exact Sg.cut 1 law09_ReflectBlocks_hN (Sg.seg (C := C0) C0_ok L_ref09_Block_ok 60 ((((((law09_ReflectBlocks_l7.drop 2).drop 2).drop 2).drop 1).drop 4).take 1) (law09_ReflectBlocks_n5 a_0 a_1 v_2 a_3 t_4 t_5 v_6 t_7 v_8 l_9 l_10 l_11 i3 i4 a5 l6 ()) (law09_ReflectBlocks_t13 a_0 a_1 a_3 t_7 l_9 l_10 i3 i4 a5 l6) law09_ReflectBlocks_n6 law09_ReflectBlocks_E [⟨[], [], [6]⟩, ⟨[], [], [6]⟩] (by kernel_rfl)) (fun b9 => by exact Sg.seg (C := C0) C0_ok L_ref09_Block_ok 60 ((((((law09_ReflectBlocks_l7.drop 2).drop 2).drop 2).drop 1).drop 4).drop 1) (law09_ReflectBlocks_n6 b9) (law09_ReflectBlocks_t14 b9) (fun a : Empty => a.elim) law09_ReflectBlocks_E [⟨[], [], [6]⟩] (by kernel_rfl))))))))
    (fun x => by cases x with | r0 b10 => exact ⟨.inr rfl, [.bool false b10], [], by kernel_rfl, trivial, by kernel_rfl⟩) h

def law09_ReflectBlocks_i0 : Option law09_ReflectBlocks_X → Bool
  | some _ => true
  | none => false
def law09_ReflectBlocks_p0_0 : Option law09_ReflectBlocks_X → Bool
  | some (.r0 x) => x
  | _ => false
theorem law09_ReflectBlocks_e0 {x : Option law09_ReflectBlocks_X} (h : law09_ReflectBlocks_i0 x = true) : x = some (.r0 (law09_ReflectBlocks_p0_0 x)) := by
  unfold law09_ReflectBlocks_i0 at h
  split at h <;> first | rfl | (cases h; done) | (rename_i y; cases y; rfl)
noncomputable def e_law09_ReflectBlocks : Entry := autoE n_law09_ReflectBlocks (.cons (.agg (.cons (.int .i64) (.cons (.int .i64) (.cons .fl .nil)))) (.cons (.agg (.cons (.int .i64) (.cons (.int .i64) (.cons .fl .nil)))) (.cons (.cols [.cfl, .cf]) .nil))) fun t => [⟨law09_ReflectBlocks_o (.r0 (law09_ReflectBlocks_p0_0 (law09_ReflectBlocks_F t.1.1 t.1.2.1 t.1.2.2.1.2 t.2.1.1 t.2.1.2.1 t.2.1.2.2.1.2 t.2.2.1.2.1 t.2.2.1.2.2.1 t.2.2.1.2.2.2.1))), [law09_ReflectBlocks_i0 (law09_ReflectBlocks_F t.1.1 t.1.2.1 t.1.2.2.1.2 t.2.1.1 t.2.1.2.1 t.2.1.2.2.1.2 t.2.2.1.2.1 t.2.2.1.2.2.1 t.2.2.1.2.2.2.1)]⟩]
theorem e_law09_ReflectBlocks_ok : EntryOk prog e_law09_ReflectBlocks := autoE_ok fun t => (altsCons (fun h => law09_ReflectBlocks_ok t.1.1 t.1.2.1 t.1.2.2.1.1 t.1.2.2.1.2 t.2.1.1 t.2.1.2.1 t.2.1.2.2.1.1 t.2.1.2.2.1.2 t.2.2.1.1 t.2.2.1.2.1 t.2.2.1.2.2.1 t.2.2.1.2.2.2.1 (law09_ReflectBlocks_e0 h)) altsNil)
noncomputable def L_law09_ReflectBlocks : List Entry := e_law09_ReflectBlocks :: L_ref09_Block
theorem L_law09_ReflectBlocks_ok : SumsOk prog (sumsOf L_law09_ReflectBlocks) := sumsOf_cons e_law09_ReflectBlocks_ok L_ref09_Block_ok

end
end Go.Plb.Seat

/-
  PLAIN: what trees and loops come to; sums and lists that are filled. No program in sight.
-/
namespace Go.Plb
set_option linter.unusedSimpArgs false
set_option linter.unusedVariables false

theorem T.nd {α : Type} {b : Bool} {t : T α} {x : Option α} (h : b = true) (k : t.run = x) : (T.need b t).run = x := by subst h; exact k
theorem T.at {α : Type} {b : Bool} {t f : T α} {x : Option α} (h : b = true) (k : t.run = x) : (T.ask b t f).run = x := by subst h; exact k
theorem T.af {α : Type} {b : Bool} {t f : T α} {x : Option α} (h : b = false) (k : f.run = x) : (T.ask b t f).run = x := by subst h; exact k
theorem T.a0 {α : Type} {k : Nat} {t f : T α} {a : α} (h : t.run = some a) : (T.alt k t f).run = some a := by simp only [T.run, h]
theorem T.a1 {α : Type} {k : Nat} {t f : T α} {x : Option α} (h : t.run = none) (q : f.run = x) : (T.alt k t f).run = x := by simp only [T.run, h]; exact q
theorem T.nf {α : Type} {b : Bool} {t : T α} (h : b = false) : (T.need b t).run = none := by subst h; rfl

theorem seqM_in {α β X : Type} {m : Option (α ⊕ X)} {k : α → Option (β ⊕ X)} {a : α} {x : Option (β ⊕ X)} (h : m = some (.inl a)) (q : k a = x) : seqM m k = x := by subst h; exact q
theorem seqM_out {α β X : Type} {m : Option (α ⊕ X)} {k : α → Option (β ⊕ X)} {y : X} (h : m = some (.inr y)) : seqM m k = some (.inr y) := by subst h; rfl
theorem joinM_in {κ X : Type} {m : Option (κ ⊕ (κ ⊕ X))} {a : κ} (h : m = some (.inl a)) : joinM m = some (.inl a) := by subst h; rfl
theorem joinM_mid {κ X : Type} {m : Option (κ ⊕ (κ ⊕ X))} {a : κ} (h : m = some (.inr (.inl a))) : joinM m = some (.inl a) := by subst h; rfl
theorem joinM_out {κ X : Type} {m : Option (κ ⊕ (κ ⊕ X))} {a : X} (h : m = some (.inr (.inr a))) : joinM m = some (.inr a) := by subst h; rfl
theorem toX_of {X : Type} {m : Option (Empty ⊕ X)} {x : X} (h : m = some (.inr x)) : toX m = some x := by subst h; rfl

/-- A loop whose states are told by a count. -/
theorem loopM_for {σ Y : Type} {B : σ → Option (σ ⊕ Y)} (st : Nat → σ) (n : Nat) {y : Y} (i : Nat) (hi : i ≤ n) (step : ∀ j, i ≤ j → j < n → B (st j) = some (.inl (st (j + 1)))) (done : B (st n) = some (.inr y)) : loopM B (st i) = some y := by
  obtain ⟨d, rfl⟩ : ∃ d, n = i + d := ⟨n - i, by omega⟩
  clear hi
  induction d generalizing i with
  | zero => exact loopM_out done
  | succ d ih =>
    rw [loopM_on (step i (Nat.le_refl _) (by omega))]
    have e : i + (d + 1) = i + 1 + d := by omega
    rw [e] at step done
    exact ih (i + 1) (fun j h1 h2 => step j (by omega) h2) done

theorem loopM_at {σ Y : Type} {B : σ → Option (σ ⊕ Y)} (st : Nat → σ) (n : Nat) {y : Y} {s0 : σ} (h0 : s0 = st 0) (step : ∀ j, j < n → B (st j) = some (.inl (st (j + 1)))) (done : B (st n) = some (.inr y)) : loopM B s0 = some y := by
  rw [h0]; exact loopM_for st n 0 (Nat.zero_le _) (fun j _ => step j) done

theorem inK_i64 {n : Int} : inK .i64 n = true ↔ -9223372036854775808 ≤ n ∧ n ≤ 9223372036854775807 := by
  have e1 : IntKind.i64.min = -9223372036854775808 := by decide
  have e2 : IntKind.i64.max = 9223372036854775807 := by decide
  simp only [inK, e1, e2, Bool.and_eq_true, decide_eq_true_eq]
theorem inB_i {k : Int} {n : Nat} : inB k n = true ↔ 0 ≤ k ∧ k < n := by simp only [inB, Bool.and_eq_true, decide_eq_true_eq]
theorem leB_i {k : Int} {n : Nat} : leB k n = true ↔ 0 ≤ k ∧ k ≤ n := by simp only [leB, Bool.and_eq_true, decide_eq_true_eq]
theorem ltB_iff {k n : Nat} : ltB k n = true ↔ k < n := by simp [ltB]
theorem leN_iff {k n : Nat} : leN k n = true ↔ k ≤ n := by simp [leN]
theorem ble_iff {k n : Nat} : Nat.ble k n = true ↔ k ≤ n := by rw [Nat.ble_eq]
theorem blt_iff {k n : Nat} : Nat.blt k n = true ↔ k < n := by rw [Nat.blt_eq]

/-- A sum from the first one on. -/
def sumF (f : Nat → Nat) : Nat → Nat
  | 0 => 0
  | n + 1 => fadd (sumF f n) (f n)
theorem sumF_congr {f g : Nat → Nat} : ∀ {n : Nat}, (∀ i, i < n → f i = g i) → sumF f n = sumF g n
  | 0, _ => rfl
  | n + 1, h => by simp only [sumF]; rw [sumF_congr fun i hi => h i (by omega), h n (by omega)]

/-- The first n places filled. -/
def setF {α : Type} (pos : Nat → Nat) (val : Nat → α) (l : List α) : Nat → List α
  | 0 => l
  | n + 1 => (setF pos val l n).set (pos n) (val n)
theorem setF_len {α : Type} {pos : Nat → Nat} {val : Nat → α} {l : List α} : ∀ {n : Nat}, (setF pos val l n).length = l.length
  | 0 => rfl
  | n + 1 => by simp only [setF, List.length_set]; exact setF_len
theorem setF_other {α : Type} {pos : Nat → Nat} {val : Nat → α} {l : List α} {p : Nat} {d : α} : ∀ {n : Nat}, (∀ i, i < n → pos i ≠ p) → (setF pos val l n).getD p d = l.getD p d
  | 0, _ => rfl
  | n + 1, h => by
    have h1 := h n (by omega)
    simp only [setF, List.getD_eq_getElem?_getD, List.getElem?_set, if_neg h1]
    have := setF_other (pos := pos) (val := val) (l := l) (p := p) (d := d) (n := n) (fun i hi => h i (by omega))
    simpa [List.getD_eq_getElem?_getD] using this
theorem setF_congr {α : Type} {pos pos' : Nat → Nat} {val val' : Nat → α} {l : List α} : ∀ {n : Nat}, (∀ i, i < n → pos i = pos' i) → (∀ i, i < n → val i = val' i) → setF pos val l n = setF pos' val' l n
  | 0, _, _ => rfl
  | n + 1, h, k => by simp only [setF]; rw [setF_congr (fun i hi => h i (by omega)) (fun i hi => k i (by omega)), h n (by omega), k n (by omega)]

/-- Something done n times. -/
def iterF {α : Type} (f : Nat → α → α) (a : α) : Nat → α
  | 0 => a
  | n + 1 => f n (iterF f a n)

theorem idx_lt {i k r c : Nat} (hi : i < r) (hk : k < c) : i * c + k < r * c := by
  have : (i + 1) * c ≤ r * c := Nat.mul_le_mul_right c hi
  rw [Nat.add_mul, Nat.one_mul] at this
  omega
theorem idx_inj {i k i' k' c : Nat} (hk : k < c) (hk' : k' < c) (h : i * c + k = i' * c + k') : i = i' ∧ k = k' := by
  have hc : 0 < c := by omega
  have e1 : (i * c + k) / c = i := by rw [Nat.mul_comm, Nat.mul_add_div hc, Nat.div_eq_of_lt hk, Nat.add_zero]
  have e2 : (i' * c + k') / c = i' := by rw [Nat.mul_comm, Nat.mul_add_div hc, Nat.div_eq_of_lt hk', Nat.add_zero]
  have e : i = i' := by rw [← e1, ← e2, h]
  subst e
  exact ⟨rfl, by omega⟩
theorem slOk_all {α : Type} (l : List α) : slOk 0 l.length l = true := by rw [slOk_iff]; omega
theorem leN_self (n : Nat) : leN n n = true := by rw [leN_iff]; exact Nat.le_refl n

/-- An entry of a matrix, by its numbers, is there. -/
structure Idx (e1 e2 e3 : Int) (L p : Nat) : Prop where
  a : inK .i64 e1 = true
  b : inK .i64 e2 = true
  c : inK .i64 e3 = true
  d : inB e3 L = true
  e : ltB (Int.toNat e3) L = true
  f : Int.toNat e3 = p
theorem idxOb {x c k L : Nat} (h : x * c + k < L) (hL : L ≤ 1000000000) (hx : x ≤ 1000000000) : Idx (x : Int) ((x : Int) * (c : Int)) ((x : Int) * (c : Int) + (k : Int)) L (x * c + k) := by
  have e : (x : Int) * (c : Int) = ((x * c : Nat) : Int) := by rw [Int.natCast_mul]
  rw [e]
  generalize x * c = q at h ⊢
  have e3 : ((q : Int) + (k : Int)).toNat = q + k := by omega
  refine ⟨?_, ?_, ?_, ?_, ?_, e3⟩
  · rw [inK_i64]; omega
  · rw [inK_i64]; omega
  · rw [inK_i64]; omega
  · rw [inB_i]; omega
  · rw [ltB_iff]; omega
theorem cutL_to {α : Type} {n : Nat} {l : List α} (h : l.length = n) : cutL 0 n l = l := by rw [← h]; exact cutL_all l
theorem cut_ok (n : Nat) : Nat.ble (0 + n) n = true := by rw [Nat.ble_eq]; omega
theorem first_bad {p : Nat → Prop} [DecidablePred p] : ∀ {n : Nat}, (¬ ∀ i, i < n → p i) → ∃ k, k < n ∧ ¬ p k ∧ ∀ j, j < k → p j
  | 0, h => (h fun i hi => absurd hi (Nat.not_lt_zero _)).elim
  | n + 1, h => by
    by_cases q : ∀ i, i < n → p i
    · refine ⟨n, Nat.lt_succ_self _, fun r => h fun i hi => ?_, q⟩
      rcases Nat.lt_succ_iff_lt_or_eq.1 hi with a | rfl
      · exact q i a
      · exact r
    · obtain ⟨k, h1, h2, h3⟩ := first_bad q
      exact ⟨k, by omega, h2, h3⟩
theorem setF_at {α : Type} {val : Nat → α} {l : List α} {d : α} {i : Nat} : ∀ {n : Nat}, i < n → n ≤ l.length → (setF (fun i => i) val l n).getD i d = val i
  | 0, h, _ => absurd h (Nat.not_lt_zero _)
  | n + 1, h, hl => by
    simp only [setF, List.getD_eq_getElem?_getD, List.getElem?_set, setF_len]
    by_cases e : n = i
    · subst e; rw [if_pos rfl, if_pos (by omega)]; rfl
    · rw [if_neg e]
      have := setF_at (val := val) (l := l) (d := d) (i := i) (n := n) (by omega) (by omega)
      simpa [List.getD_eq_getElem?_getD] using this
theorem cutL_len_all {α : Type} (l : List α) : (cutL 0 l.length l).length = l.length := by rw [cutL_all]
theorem toNat_cast (n : Nat) : Int.toNat (n : Int) = n := rfl
end Go.Plb

/-
  PLAIN: layer 9's parts.
-/
namespace Go.Plb.Seat
open Go Go.Plb
set_option linter.unusedSimpArgs false
set_option linter.unusedVariables false

theorem addc (a b : Nat) : (a : Int) + (b : Int) = ((a + b : Nat) : Int) := rfl

theorem sum1_spec {c at_ k n : Nat} {vs xs : List Nat} (hn : n ≤ vs.length) (hi : ∀ i, i < n → (at_ + i) * c + k < xs.length) (hL : xs.length ≤ 1000000000) (hx : at_ + n ≤ 1000000000) :
    reflect_sum_F (n : Int) vs (c : Int) xs (at_ : Int) (k : Int) = some (.r0 (sumF (fun i => fmul (vs.getD i 0) (xs.getD ((at_ + i) * c + k) 0)) n)) := by
  refine toX_of (seqM_in rfl (seqM_in (loopM_at (fun j => (sumF (fun i => fmul (vs.getD i 0) (xs.getD ((at_ + i) * c + k) 0)) j, j)) n rfl (fun j hj => ?_) ?_) rfl))
  · have h := idxOb (x := at_ + j) (hi j hj) hL (by omega)
    show (reflect_sum_t9 _ _ _ _ _ _ _ _).run = _
    unfold reflect_sum_t9
    rw [addc]
    refine T.at (by simp only [inK_i64, inB_i, leB_i, ltB_iff, leN_iff, slOk_iff, ble_iff, blt_iff, decide_eq_true_eq, decide_eq_false_iff_not, beq_iff_eq, beq_eq_false_iff_ne, bne_iff_ne, bne_eq_false_iff_eq, Bool.not_eq_true', Bool.not_eq_false', List.length_set, ne_eq, ge_iff_le, gt_iff_lt, setF_len, toNat_cast, lenOk]; omega) (T.nd (by simp only [inK_i64, inB_i, leB_i, ltB_iff, leN_iff, slOk_iff, ble_iff, blt_iff, decide_eq_true_eq, decide_eq_false_iff_not, beq_iff_eq, beq_eq_false_iff_ne, bne_iff_ne, bne_eq_false_iff_eq, Bool.not_eq_true', Bool.not_eq_false', List.length_set, ne_eq, ge_iff_le, gt_iff_lt, setF_len, toNat_cast, lenOk]; omega) (T.nd (by simp only [inK_i64, inB_i, leB_i, ltB_iff, leN_iff, slOk_iff, ble_iff, blt_iff, decide_eq_true_eq, decide_eq_false_iff_not, beq_iff_eq, beq_eq_false_iff_ne, bne_iff_ne, bne_eq_false_iff_eq, Bool.not_eq_true', Bool.not_eq_false', List.length_set, ne_eq, ge_iff_le, gt_iff_lt, setF_len, toNat_cast, lenOk]; omega) (T.nd h.a (T.nd h.b (T.nd h.c (T.nd h.d (T.nd h.e (T.nd (by simp only [inK_i64, inB_i, leB_i, ltB_iff, leN_iff, slOk_iff, ble_iff, blt_iff, decide_eq_true_eq, decide_eq_false_iff_not, beq_iff_eq, beq_eq_false_iff_ne, bne_iff_ne, bne_eq_false_iff_eq, Bool.not_eq_true', Bool.not_eq_false', List.length_set, ne_eq, ge_iff_le, gt_iff_lt, setF_len, toNat_cast, lenOk]; omega) ?_))))))))
    rw [h.f]; rfl
  · exact T.af (by simp only [inK_i64, inB_i, leB_i, ltB_iff, leN_iff, slOk_iff, ble_iff, blt_iff, decide_eq_true_eq, decide_eq_false_iff_not, beq_iff_eq, beq_eq_false_iff_ne, bne_iff_ne, bne_eq_false_iff_eq, Bool.not_eq_true', Bool.not_eq_false', List.length_set, ne_eq, ge_iff_le, gt_iff_lt, setF_len, toNat_cast, lenOk]; omega) rfl

theorem sum2_spec {c i at_ n : Nat} {vs xs : List Nat} (hn : n ≤ vs.length) (hi : ∀ j, j < n → i * c + (at_ + j) < xs.length) (hL : xs.length ≤ 1000000000) (hx : i ≤ 1000000000) (hn' : n ≤ 1000000000) :
    reflect_sum_v2_F (n : Int) (c : Int) xs (i : Int) (at_ : Int) vs = some (.r0 (sumF (fun j => fmul (xs.getD (i * c + (at_ + j)) 0) (vs.getD j 0)) n)) := by
  refine toX_of (seqM_in rfl (seqM_in (loopM_at (fun j => (sumF (fun j => fmul (xs.getD (i * c + (at_ + j)) 0) (vs.getD j 0)) j, j)) n rfl (fun j hj => ?_) ?_) rfl))
  · have h := idxOb (x := i) (hi j hj) hL (by omega)
    have h' := idxOb (x := i) (c := c) (k := at_) (L := xs.length) (by have := hi j hj; omega) hL (by omega)
    show (reflect_sum_v2_t9 _ _ _ _ _ _ _ _).run = _
    unfold reflect_sum_v2_t9
    rw [Int.add_assoc, addc]
    refine T.at (by simp only [inK_i64, inB_i, leB_i, ltB_iff, leN_iff, slOk_iff, ble_iff, blt_iff, decide_eq_true_eq, decide_eq_false_iff_not, beq_iff_eq, beq_eq_false_iff_ne, bne_iff_ne, bne_eq_false_iff_eq, Bool.not_eq_true', Bool.not_eq_false', List.length_set, ne_eq, ge_iff_le, gt_iff_lt, setF_len, toNat_cast, lenOk]; omega) (T.nd h.b (T.nd h'.c (T.nd h.c (T.nd h.d (T.nd h.e (T.nd (by simp only [inK_i64, inB_i, leB_i, ltB_iff, leN_iff, slOk_iff, ble_iff, blt_iff, decide_eq_true_eq, decide_eq_false_iff_not, beq_iff_eq, beq_eq_false_iff_ne, bne_iff_ne, bne_eq_false_iff_eq, Bool.not_eq_true', Bool.not_eq_false', List.length_set, ne_eq, ge_iff_le, gt_iff_lt, setF_len, toNat_cast, lenOk]; omega) (T.nd (by simp only [inK_i64, inB_i, leB_i, ltB_iff, leN_iff, slOk_iff, ble_iff, blt_iff, decide_eq_true_eq, decide_eq_false_iff_not, beq_iff_eq, beq_eq_false_iff_ne, bne_iff_ne, bne_eq_false_iff_eq, Bool.not_eq_true', Bool.not_eq_false', List.length_set, ne_eq, ge_iff_le, gt_iff_lt, setF_len, toNat_cast, lenOk]; omega) (T.nd (by simp only [inK_i64, inB_i, leB_i, ltB_iff, leN_iff, slOk_iff, ble_iff, blt_iff, decide_eq_true_eq, decide_eq_false_iff_not, beq_iff_eq, beq_eq_false_iff_ne, bne_iff_ne, bne_eq_false_iff_eq, Bool.not_eq_true', Bool.not_eq_false', List.length_set, ne_eq, ge_iff_le, gt_iff_lt, setF_len, toNat_cast, lenOk]; omega) ?_))))))))
    rw [h.f]; rfl
  · exact T.af (by simp only [inK_i64, inB_i, leB_i, ltB_iff, leN_iff, slOk_iff, ble_iff, blt_iff, decide_eq_true_eq, decide_eq_false_iff_not, beq_iff_eq, beq_eq_false_iff_ne, bne_iff_ne, bne_eq_false_iff_eq, Bool.not_eq_true', Bool.not_eq_false', List.length_set, ne_eq, ge_iff_le, gt_iff_lt, setF_len, toNat_cast, lenOk]; omega) rfl

/-- May it be a matrix? -/
def mayB (a b : Int) (n : Nat) : Bool := decide (0 ≤ a) && (decide (a ≤ 512) && (decide (0 ≤ b) && (decide (b ≤ 512) && ((n : Int) == a * b))))
theorem mul_bd {a b : Int} (h1 : 0 ≤ a) (h2 : a ≤ 512) (h3 : 0 ≤ b) (h4 : b ≤ 512) : 0 ≤ a * b ∧ a * b ≤ 262144 :=
  ⟨Int.mul_nonneg h1 h3, Int.le_trans (Int.mul_le_mul h2 h4 h3 (by omega)) (by omega)⟩
theorem may_spec (a b : Int) (xs : List Nat) : reflect_may_F a b xs = some (.r0 (mayB a b xs.length)) := by
  refine toX_of (seqM_in (a := mayB a b xs.length) ?_ rfl)
  unfold reflect_may_t3 mayB
  by_cases h1 : 0 ≤ a
  · by_cases h2 : a ≤ 512
    · by_cases h3 : 0 ≤ b
      · by_cases h4 : b ≤ 512
        · have := mul_bd h1 h2 h3 h4
          refine T.at (by simp only [inK_i64, inB_i, leB_i, ltB_iff, leN_iff, slOk_iff, ble_iff, blt_iff, decide_eq_true_eq, decide_eq_false_iff_not, beq_iff_eq, beq_eq_false_iff_ne, bne_iff_ne, bne_eq_false_iff_eq, Bool.not_eq_true', Bool.not_eq_false', List.length_set, ne_eq, ge_iff_le, gt_iff_lt, setF_len, toNat_cast, lenOk]; omega) (T.at (by simp only [inK_i64, inB_i, leB_i, ltB_iff, leN_iff, slOk_iff, ble_iff, blt_iff, decide_eq_true_eq, decide_eq_false_iff_not, beq_iff_eq, beq_eq_false_iff_ne, bne_iff_ne, bne_eq_false_iff_eq, Bool.not_eq_true', Bool.not_eq_false', List.length_set, ne_eq, ge_iff_le, gt_iff_lt, setF_len, toNat_cast, lenOk]; omega) (T.at (by simp only [inK_i64, inB_i, leB_i, ltB_iff, leN_iff, slOk_iff, ble_iff, blt_iff, decide_eq_true_eq, decide_eq_false_iff_not, beq_iff_eq, beq_eq_false_iff_ne, bne_iff_ne, bne_eq_false_iff_eq, Bool.not_eq_true', Bool.not_eq_false', List.length_set, ne_eq, ge_iff_le, gt_iff_lt, setF_len, toNat_cast, lenOk]; omega) (T.at (by simp only [inK_i64, inB_i, leB_i, ltB_iff, leN_iff, slOk_iff, ble_iff, blt_iff, decide_eq_true_eq, decide_eq_false_iff_not, beq_iff_eq, beq_eq_false_iff_ne, bne_iff_ne, bne_eq_false_iff_eq, Bool.not_eq_true', Bool.not_eq_false', List.length_set, ne_eq, ge_iff_le, gt_iff_lt, setF_len, toNat_cast, lenOk]; omega) (T.nd (by rw [inK_i64]; omega) ?_))))
          simp only [h1, h2, h3, h4, decide_true, Bool.true_and]; rfl
        · refine T.at (by simp only [inK_i64, inB_i, leB_i, ltB_iff, leN_iff, slOk_iff, ble_iff, blt_iff, decide_eq_true_eq, decide_eq_false_iff_not, beq_iff_eq, beq_eq_false_iff_ne, bne_iff_ne, bne_eq_false_iff_eq, Bool.not_eq_true', Bool.not_eq_false', List.length_set, ne_eq, ge_iff_le, gt_iff_lt, setF_len, toNat_cast, lenOk]; omega) (T.at (by simp only [inK_i64, inB_i, leB_i, ltB_iff, leN_iff, slOk_iff, ble_iff, blt_iff, decide_eq_true_eq, decide_eq_false_iff_not, beq_iff_eq, beq_eq_false_iff_ne, bne_iff_ne, bne_eq_false_iff_eq, Bool.not_eq_true', Bool.not_eq_false', List.length_set, ne_eq, ge_iff_le, gt_iff_lt, setF_len, toNat_cast, lenOk]; omega) (T.at (by simp only [inK_i64, inB_i, leB_i, ltB_iff, leN_iff, slOk_iff, ble_iff, blt_iff, decide_eq_true_eq, decide_eq_false_iff_not, beq_iff_eq, beq_eq_false_iff_ne, bne_iff_ne, bne_eq_false_iff_eq, Bool.not_eq_true', Bool.not_eq_false', List.length_set, ne_eq, ge_iff_le, gt_iff_lt, setF_len, toNat_cast, lenOk]; omega) (T.af (by simp only [inK_i64, inB_i, leB_i, ltB_iff, leN_iff, slOk_iff, ble_iff, blt_iff, decide_eq_true_eq, decide_eq_false_iff_not, beq_iff_eq, beq_eq_false_iff_ne, bne_iff_ne, bne_eq_false_iff_eq, Bool.not_eq_true', Bool.not_eq_false', List.length_set, ne_eq, ge_iff_le, gt_iff_lt, setF_len, toNat_cast, lenOk]; omega) ?_)))
          simp only [h1, h2, h3, h4, decide_true, decide_false, Bool.true_and, Bool.false_and]; rfl
      · refine T.at (by simp only [inK_i64, inB_i, leB_i, ltB_iff, leN_iff, slOk_iff, ble_iff, blt_iff, decide_eq_true_eq, decide_eq_false_iff_not, beq_iff_eq, beq_eq_false_iff_ne, bne_iff_ne, bne_eq_false_iff_eq, Bool.not_eq_true', Bool.not_eq_false', List.length_set, ne_eq, ge_iff_le, gt_iff_lt, setF_len, toNat_cast, lenOk]; omega) (T.at (by simp only [inK_i64, inB_i, leB_i, ltB_iff, leN_iff, slOk_iff, ble_iff, blt_iff, decide_eq_true_eq, decide_eq_false_iff_not, beq_iff_eq, beq_eq_false_iff_ne, bne_iff_ne, bne_eq_false_iff_eq, Bool.not_eq_true', Bool.not_eq_false', List.length_set, ne_eq, ge_iff_le, gt_iff_lt, setF_len, toNat_cast, lenOk]; omega) (T.af (by simp only [inK_i64, inB_i, leB_i, ltB_iff, leN_iff, slOk_iff, ble_iff, blt_iff, decide_eq_true_eq, decide_eq_false_iff_not, beq_iff_eq, beq_eq_false_iff_ne, bne_iff_ne, bne_eq_false_iff_eq, Bool.not_eq_true', Bool.not_eq_false', List.length_set, ne_eq, ge_iff_le, gt_iff_lt, setF_len, toNat_cast, lenOk]; omega) ?_))
        simp only [h1, h2, h3, decide_true, decide_false, Bool.true_and, Bool.false_and]; rfl
    · refine T.at (by simp only [inK_i64, inB_i, leB_i, ltB_iff, leN_iff, slOk_iff, ble_iff, blt_iff, decide_eq_true_eq, decide_eq_false_iff_not, beq_iff_eq, beq_eq_false_iff_ne, bne_iff_ne, bne_eq_false_iff_eq, Bool.not_eq_true', Bool.not_eq_false', List.length_set, ne_eq, ge_iff_le, gt_iff_lt, setF_len, toNat_cast, lenOk]; omega) (T.af (by simp only [inK_i64, inB_i, leB_i, ltB_iff, leN_iff, slOk_iff, ble_iff, blt_iff, decide_eq_true_eq, decide_eq_false_iff_not, beq_iff_eq, beq_eq_false_iff_ne, bne_iff_ne, bne_eq_false_iff_eq, Bool.not_eq_true', Bool.not_eq_false', List.length_set, ne_eq, ge_iff_le, gt_iff_lt, setF_len, toNat_cast, lenOk]; omega) ?_)
      simp only [h1, h2, decide_true, decide_false, Bool.true_and, Bool.false_and]; rfl
  · refine T.af (by simp only [inK_i64, inB_i, leB_i, ltB_iff, leN_iff, slOk_iff, ble_iff, blt_iff, decide_eq_true_eq, decide_eq_false_iff_not, beq_iff_eq, beq_eq_false_iff_ne, bne_iff_ne, bne_eq_false_iff_eq, Bool.not_eq_true', Bool.not_eq_false', List.length_set, ne_eq, ge_iff_le, gt_iff_lt, setF_len, toNat_cast, lenOk]; omega) ?_
    simp only [h1, decide_true, decide_false, Bool.true_and, Bool.false_and]; rfl
theorem May_spec (a b : Int) (xs : List Nat) : ref09_May_F a b xs = some (.r0 (mayB a b xs.length)) := by
  refine toX_of (seqM_in (a := mayB a b xs.length) ?_ rfl)
  unfold ref09_May_t3 mayB
  by_cases h1 : 0 ≤ a
  · by_cases h2 : a ≤ 512
    · by_cases h3 : 0 ≤ b
      · by_cases h4 : b ≤ 512
        · have := mul_bd h1 h2 h3 h4
          refine T.at (by simp only [inK_i64, inB_i, leB_i, ltB_iff, leN_iff, slOk_iff, ble_iff, blt_iff, decide_eq_true_eq, decide_eq_false_iff_not, beq_iff_eq, beq_eq_false_iff_ne, bne_iff_ne, bne_eq_false_iff_eq, Bool.not_eq_true', Bool.not_eq_false', List.length_set, ne_eq, ge_iff_le, gt_iff_lt, setF_len, toNat_cast, lenOk]; omega) (T.at (by simp only [inK_i64, inB_i, leB_i, ltB_iff, leN_iff, slOk_iff, ble_iff, blt_iff, decide_eq_true_eq, decide_eq_false_iff_not, beq_iff_eq, beq_eq_false_iff_ne, bne_iff_ne, bne_eq_false_iff_eq, Bool.not_eq_true', Bool.not_eq_false', List.length_set, ne_eq, ge_iff_le, gt_iff_lt, setF_len, toNat_cast, lenOk]; omega) (T.at (by simp only [inK_i64, inB_i, leB_i, ltB_iff, leN_iff, slOk_iff, ble_iff, blt_iff, decide_eq_true_eq, decide_eq_false_iff_not, beq_iff_eq, beq_eq_false_iff_ne, bne_iff_ne, bne_eq_false_iff_eq, Bool.not_eq_true', Bool.not_eq_false', List.length_set, ne_eq, ge_iff_le, gt_iff_lt, setF_len, toNat_cast, lenOk]; omega) (T.at (by simp only [inK_i64, inB_i, leB_i, ltB_iff, leN_iff, slOk_iff, ble_iff, blt_iff, decide_eq_true_eq, decide_eq_false_iff_not, beq_iff_eq, beq_eq_false_iff_ne, bne_iff_ne, bne_eq_false_iff_eq, Bool.not_eq_true', Bool.not_eq_false', List.length_set, ne_eq, ge_iff_le, gt_iff_lt, setF_len, toNat_cast, lenOk]; omega) (T.nd (by rw [inK_i64]; omega) ?_))))
          simp only [h1, h2, h3, h4, decide_true, Bool.true_and]; rfl
        · refine T.at (by simp only [inK_i64, inB_i, leB_i, ltB_iff, leN_iff, slOk_iff, ble_iff, blt_iff, decide_eq_true_eq, decide_eq_false_iff_not, beq_iff_eq, beq_eq_false_iff_ne, bne_iff_ne, bne_eq_false_iff_eq, Bool.not_eq_true', Bool.not_eq_false', List.length_set, ne_eq, ge_iff_le, gt_iff_lt, setF_len, toNat_cast, lenOk]; omega) (T.at (by simp only [inK_i64, inB_i, leB_i, ltB_iff, leN_iff, slOk_iff, ble_iff, blt_iff, decide_eq_true_eq, decide_eq_false_iff_not, beq_iff_eq, beq_eq_false_iff_ne, bne_iff_ne, bne_eq_false_iff_eq, Bool.not_eq_true', Bool.not_eq_false', List.length_set, ne_eq, ge_iff_le, gt_iff_lt, setF_len, toNat_cast, lenOk]; omega) (T.at (by simp only [inK_i64, inB_i, leB_i, ltB_iff, leN_iff, slOk_iff, ble_iff, blt_iff, decide_eq_true_eq, decide_eq_false_iff_not, beq_iff_eq, beq_eq_false_iff_ne, bne_iff_ne, bne_eq_false_iff_eq, Bool.not_eq_true', Bool.not_eq_false', List.length_set, ne_eq, ge_iff_le, gt_iff_lt, setF_len, toNat_cast, lenOk]; omega) (T.af (by simp only [inK_i64, inB_i, leB_i, ltB_iff, leN_iff, slOk_iff, ble_iff, blt_iff, decide_eq_true_eq, decide_eq_false_iff_not, beq_iff_eq, beq_eq_false_iff_ne, bne_iff_ne, bne_eq_false_iff_eq, Bool.not_eq_true', Bool.not_eq_false', List.length_set, ne_eq, ge_iff_le, gt_iff_lt, setF_len, toNat_cast, lenOk]; omega) ?_)))
          simp only [h1, h2, h3, h4, decide_true, decide_false, Bool.true_and, Bool.false_and]; rfl
      · refine T.at (by simp only [inK_i64, inB_i, leB_i, ltB_iff, leN_iff, slOk_iff, ble_iff, blt_iff, decide_eq_true_eq, decide_eq_false_iff_not, beq_iff_eq, beq_eq_false_iff_ne, bne_iff_ne, bne_eq_false_iff_eq, Bool.not_eq_true', Bool.not_eq_false', List.length_set, ne_eq, ge_iff_le, gt_iff_lt, setF_len, toNat_cast, lenOk]; omega) (T.at (by simp only [inK_i64, inB_i, leB_i, ltB_iff, leN_iff, slOk_iff, ble_iff, blt_iff, decide_eq_true_eq, decide_eq_false_iff_not, beq_iff_eq, beq_eq_false_iff_ne, bne_iff_ne, bne_eq_false_iff_eq, Bool.not_eq_true', Bool.not_eq_false', List.length_set, ne_eq, ge_iff_le, gt_iff_lt, setF_len, toNat_cast, lenOk]; omega) (T.af (by simp only [inK_i64, inB_i, leB_i, ltB_iff, leN_iff, slOk_iff, ble_iff, blt_iff, decide_eq_true_eq, decide_eq_false_iff_not, beq_iff_eq, beq_eq_false_iff_ne, bne_iff_ne, bne_eq_false_iff_eq, Bool.not_eq_true', Bool.not_eq_false', List.length_set, ne_eq, ge_iff_le, gt_iff_lt, setF_len, toNat_cast, lenOk]; omega) ?_))
        simp only [h1, h2, h3, decide_true, decide_false, Bool.true_and, Bool.false_and]; rfl
    · refine T.at (by simp only [inK_i64, inB_i, leB_i, ltB_iff, leN_iff, slOk_iff, ble_iff, blt_iff, decide_eq_true_eq, decide_eq_false_iff_not, beq_iff_eq, beq_eq_false_iff_ne, bne_iff_ne, bne_eq_false_iff_eq, Bool.not_eq_true', Bool.not_eq_false', List.length_set, ne_eq, ge_iff_le, gt_iff_lt, setF_len, toNat_cast, lenOk]; omega) (T.af (by simp only [inK_i64, inB_i, leB_i, ltB_iff, leN_iff, slOk_iff, ble_iff, blt_iff, decide_eq_true_eq, decide_eq_false_iff_not, beq_iff_eq, beq_eq_false_iff_ne, bne_iff_ne, bne_eq_false_iff_eq, Bool.not_eq_true', Bool.not_eq_false', List.length_set, ne_eq, ge_iff_le, gt_iff_lt, setF_len, toNat_cast, lenOk]; omega) ?_)
      simp only [h1, h2, decide_true, decide_false, Bool.true_and, Bool.false_and]; rfl
  · refine T.af (by simp only [inK_i64, inB_i, leB_i, ltB_iff, leN_iff, slOk_iff, ble_iff, blt_iff, decide_eq_true_eq, decide_eq_false_iff_not, beq_iff_eq, beq_eq_false_iff_ne, bne_iff_ne, bne_eq_false_iff_eq, Bool.not_eq_true', Bool.not_eq_false', List.length_set, ne_eq, ge_iff_le, gt_iff_lt, setF_len, toNat_cast, lenOk]; omega) ?_
    simp only [h1, decide_true, decide_false, Bool.true_and, Bool.false_and]; rfl

theorem SameAll_spec {xs : List Nat} (h : xs.length ≤ 1000000000) : ref06_SameAll_F xs xs = some (.r0 true) := by
  refine toX_of (seqM_in (T.af (by simp) rfl) (seqM_in (a := ()) (loopM_at (fun j => j) xs.length rfl (fun j hj => ?_) ?_) rfl))
  · show (ref06_SameAll_t9 _ _ _).run = _
    exact T.at (by simp only [inK_i64, inB_i, leB_i, ltB_iff, leN_iff, slOk_iff, ble_iff, blt_iff, decide_eq_true_eq, decide_eq_false_iff_not, beq_iff_eq, beq_eq_false_iff_ne, bne_iff_ne, bne_eq_false_iff_eq, Bool.not_eq_true', Bool.not_eq_false', List.length_set, ne_eq, ge_iff_le, gt_iff_lt, setF_len, toNat_cast, lenOk]; omega) (T.nd (by simp only [inK_i64, inB_i, leB_i, ltB_iff, leN_iff, slOk_iff, ble_iff, blt_iff, decide_eq_true_eq, decide_eq_false_iff_not, beq_iff_eq, beq_eq_false_iff_ne, bne_iff_ne, bne_eq_false_iff_eq, Bool.not_eq_true', Bool.not_eq_false', List.length_set, ne_eq, ge_iff_le, gt_iff_lt, setF_len, toNat_cast, lenOk]; omega) (T.nd (by simp only [inK_i64, inB_i, leB_i, ltB_iff, leN_iff, slOk_iff, ble_iff, blt_iff, decide_eq_true_eq, decide_eq_false_iff_not, beq_iff_eq, beq_eq_false_iff_ne, bne_iff_ne, bne_eq_false_iff_eq, Bool.not_eq_true', Bool.not_eq_false', List.length_set, ne_eq, ge_iff_le, gt_iff_lt, setF_len, toNat_cast, lenOk]; omega) (T.nd (by simp only [inK_i64, inB_i, leB_i, ltB_iff, leN_iff, slOk_iff, ble_iff, blt_iff, decide_eq_true_eq, decide_eq_false_iff_not, beq_iff_eq, beq_eq_false_iff_ne, bne_iff_ne, bne_eq_false_iff_eq, Bool.not_eq_true', Bool.not_eq_false', List.length_set, ne_eq, ge_iff_le, gt_iff_lt, setF_len, toNat_cast, lenOk]; omega) (T.nd (by simp only [inK_i64, inB_i, leB_i, ltB_iff, leN_iff, slOk_iff, ble_iff, blt_iff, decide_eq_true_eq, decide_eq_false_iff_not, beq_iff_eq, beq_eq_false_iff_ne, bne_iff_ne, bne_eq_false_iff_eq, Bool.not_eq_true', Bool.not_eq_false', List.length_set, ne_eq, ge_iff_le, gt_iff_lt, setF_len, toNat_cast, lenOk]; omega) (T.af (by rw [sameB_refl]; rfl) (T.nd (by simp only [inK_i64, inB_i, leB_i, ltB_iff, leN_iff, slOk_iff, ble_iff, blt_iff, decide_eq_true_eq, decide_eq_false_iff_not, beq_iff_eq, beq_eq_false_iff_ne, bne_iff_ne, bne_eq_false_iff_eq, Bool.not_eq_true', Bool.not_eq_false', List.length_set, ne_eq, ge_iff_le, gt_iff_lt, setF_len, toNat_cast, lenOk]; omega) rfl))))))
  · exact T.af (by simp only [inK_i64, inB_i, leB_i, ltB_iff, leN_iff, slOk_iff, ble_iff, blt_iff, decide_eq_true_eq, decide_eq_false_iff_not, beq_iff_eq, beq_eq_false_iff_ne, bne_iff_ne, bne_eq_false_iff_eq, Bool.not_eq_true', Bool.not_eq_false', List.length_set, ne_eq, ge_iff_le, gt_iff_lt, setF_len, toNat_cast, lenOk]; omega) rfl
theorem Same_spec {a b : Int} {xs : List Nat} (h : xs.length ≤ 1000000000) : ref09_Same_F a b xs a b xs = some (.r0 true) := by
  refine toX_of (seqM_in (a := true) ?_ rfl)
  unfold ref09_Same_t3
  rw [cutL_all, SameAll_spec h]
  exact T.at (by simp) (T.at (by simp) (T.nd (slOk_all xs) (T.nd (slOk_all xs) (T.nd rfl rfl))))
end Go.Plb.Seat

/-
  PLAIN: rows and columns reflected: the program's way and the document's come to the same.
-/
namespace Go.Plb.Seat
open Go Go.Plb
set_option linter.unusedSimpArgs false
set_option linter.unusedVariables false

/-- Rows reflected, plainly. P: where the entry stands; A: what the sum is of; V: what is taken away of w. -/
def rflW (xs : List Nat) (tau m : Nat) (A : Nat → Nat → Nat) (k : Nat) : Nat := fmul tau (sumF (A k) m)
def rflIn (xs : List Nat) (P : Nat → Nat → Nat) (V : Nat → Nat → Nat) (w k : Nat) (out : List Nat) (n : Nat) : List Nat :=
  setF (P k) (fun i => fsub (xs.getD (P k i) 0) (V i w)) out n
def rflGo (xs : List Nat) (P : Nat → Nat → Nat) (A : Nat → Nat → Nat) (V : Nat → Nat → Nat) (tau m frm : Nat) (n : Nat) : List Nat :=
  iterF (fun j out => rflIn xs P V (rflW xs tau m A (frm + j)) (frm + j) out m) xs n
def rflF (xs : List Nat) (P : Nat → Nat → Nat) (A : Nat → Nat → Nat) (V : Nat → Nat → Nat) (tau m frm n : Nat) : List Nat :=
  bif feq tau 0 then xs else rflGo xs P A V tau m frm n

theorem rflGo_len {xs : List Nat} {P A V : Nat → Nat → Nat} {tau m frm : Nat} : ∀ {n : Nat}, (rflGo xs P A V tau m frm n).length = xs.length
  | 0 => rfl
  | n + 1 => by simp only [rflGo, iterF, rflIn, setF_len]; exact rflGo_len (n := n)
theorem rflF_len {xs : List Nat} {P A V : Nat → Nat → Nat} {tau m frm n : Nat} : (rflF xs P A V tau m frm n).length = xs.length := by
  unfold rflF; cases feq tau 0 <;> simp only [cond_true, cond_false]; exact rflGo_len
theorem rflGo_other {xs : List Nat} {P A V : Nat → Nat → Nat} {tau m frm : Nat} {p : Nat} : ∀ {n : Nat}, (∀ j i, j < n → i < m → P (frm + j) i ≠ p) → (rflGo xs P A V tau m frm n).getD p 0 = xs.getD p 0
  | 0, _ => rfl
  | n + 1, h => by
    simp only [rflGo, iterF, rflIn]
    rw [setF_other fun i hi => h n i (by omega) hi]
    exact rflGo_other (n := n) fun j i hj hi => h j i (by omega) hi

def leP (c at_ : Nat) (k i : Nat) : Nat := (at_ + i) * c + k
def leA (xs vs : List Nat) (c at_ : Nat) (k i : Nat) : Nat := fmul (vs.getD i 0) (xs.getD ((at_ + i) * c + k) 0)
def leV (vs : List Nat) (i w : Nat) : Nat := fmul (vs.getD i 0) w
def leftF (xs vs : List Nat) (c at_ frm tau : Nat) : List Nat := rflF xs (leP c at_) (leA xs vs c at_) (leV vs) tau vs.length frm (c - frm)

theorem Left_in {xs vs out : List Nat} {r c at_ k w n : Nat} (hx : xs.length = r * c) (hk : k < c) (hat : at_ + vs.length ≤ r) (hr : r ≤ 512) (hc : c ≤ 512) (ho : out.length = xs.length) (hn : n = xs.length)
    (hsame : ∀ i, i < vs.length → out.getD (leP c at_ k i) 0 = xs.getD (leP c at_ k i) 0) :
    loopM (reflect_Left_m37 (c : Int) (at_ : Int) vs n (k : Int) w) (0, out) = some (.inl (rflIn xs (leP c at_) (leV vs) w k out vs.length)) := by
  have hL : r * c ≤ 262144 := Nat.mul_le_mul hr hc
  refine loopM_at (fun j => (j, rflIn xs (leP c at_) (leV vs) w k out j)) vs.length rfl (fun j hj => ?_) ?_
  · have hi : (at_ + j) * c + k < xs.length := by rw [hx]; exact idx_lt (by omega) hk
    have h := idxOb (x := at_ + j) hi (by omega) (by omega)
    have hl : (rflIn xs (leP c at_) (leV vs) w k out j).length = xs.length := by unfold rflIn; rw [setF_len, ho]
    show (reflect_Left_t36 _ _ _ _ _ _ _ _).run = _
    unfold reflect_Left_t36
    rw [addc, hl, hn]
    refine T.at (by simp only [inK_i64, inB_i, leB_i, ltB_iff, leN_iff, slOk_iff, ble_iff, blt_iff, decide_eq_true_eq, decide_eq_false_iff_not, beq_iff_eq, beq_eq_false_iff_ne, bne_iff_ne, bne_eq_false_iff_eq, Bool.not_eq_true', Bool.not_eq_false', List.length_set, ne_eq, ge_iff_le, gt_iff_lt, setF_len, toNat_cast, lenOk]; omega) (T.nd (by simp only [inK_i64, inB_i, leB_i, ltB_iff, leN_iff, slOk_iff, ble_iff, blt_iff, decide_eq_true_eq, decide_eq_false_iff_not, beq_iff_eq, beq_eq_false_iff_ne, bne_iff_ne, bne_eq_false_iff_eq, Bool.not_eq_true', Bool.not_eq_false', List.length_set, ne_eq, ge_iff_le, gt_iff_lt, setF_len, toNat_cast, lenOk]; omega) (T.nd (by simp only [inK_i64, inB_i, leB_i, ltB_iff, leN_iff, slOk_iff, ble_iff, blt_iff, decide_eq_true_eq, decide_eq_false_iff_not, beq_iff_eq, beq_eq_false_iff_ne, bne_iff_ne, bne_eq_false_iff_eq, Bool.not_eq_true', Bool.not_eq_false', List.length_set, ne_eq, ge_iff_le, gt_iff_lt, setF_len, toNat_cast, lenOk]; omega) (T.nd h.a (T.nd h.b (T.nd h.c (T.nd h.d (T.nd h.e (T.nd h.d (T.nd h.e (T.nd (by simp only [inK_i64, inB_i, leB_i, ltB_iff, leN_iff, slOk_iff, ble_iff, blt_iff, decide_eq_true_eq, decide_eq_false_iff_not, beq_iff_eq, beq_eq_false_iff_ne, bne_iff_ne, bne_eq_false_iff_eq, Bool.not_eq_true', Bool.not_eq_false', List.length_set, ne_eq, ge_iff_le, gt_iff_lt, setF_len, toNat_cast, lenOk]; omega) ?_))))))))))
    rw [h.f]
    have e : (rflIn xs (leP c at_) (leV vs) w k out j).getD ((at_ + j) * c + k) 0 = xs.getD ((at_ + j) * c + k) 0 := by
      unfold rflIn
      rw [setF_other (fun i hi => ?_)]
      · exact hsame j hj
      · intro q
        have := (idx_inj hk hk q).1
        omega
    rw [e]; rfl
  · exact T.af (by simp only [inK_i64, inB_i, leB_i, ltB_iff, leN_iff, slOk_iff, ble_iff, blt_iff, decide_eq_true_eq, decide_eq_false_iff_not, beq_iff_eq, beq_eq_false_iff_ne, bne_iff_ne, bne_eq_false_iff_eq, Bool.not_eq_true', Bool.not_eq_false', List.length_set, ne_eq, ge_iff_le, gt_iff_lt, setF_len, toNat_cast, lenOk]; omega) rfl

theorem Left_spec {xs vs : List Nat} {r c at_ frm tau : Nat} (hx : xs.length = r * c) (hr : r ≤ 512) (hc : c ≤ 512) (hv : 0 < vs.length) (hat : at_ + vs.length ≤ r) (hf : frm ≤ c) :
    reflect_Left_F (r : Int) (c : Int) xs (at_ : Int) (frm : Int) vs tau = some (.r1 r c xs.length (leftF xs vs c at_ frm tau)) := by
  have hL : r * c ≤ 262144 := Nat.mul_le_mul hr hc
  have hm : mayB (r : Int) (c : Int) xs.length = true := by
    unfold mayB
    have : (xs.length : Int) = (r : Int) * (c : Int) := by rw [hx, Int.natCast_mul]
    simp only [Bool.and_eq_true, decide_eq_true_eq, beq_iff_eq]; omega
  refine toX_of (seqM_in (a := false) ?_ (seqM_in (a := false) ?_ ?_))
  · unfold reflect_Left_t27
    rw [cutL_all, may_spec, hm]
    exact T.nd (slOk_all xs) (T.nd rfl (T.af rfl (T.af (by simp only [inK_i64, inB_i, leB_i, ltB_iff, leN_iff, slOk_iff, ble_iff, blt_iff, decide_eq_true_eq, decide_eq_false_iff_not, beq_iff_eq, beq_eq_false_iff_ne, bne_iff_ne, bne_eq_false_iff_eq, Bool.not_eq_true', Bool.not_eq_false', List.length_set, ne_eq, ge_iff_le, gt_iff_lt, setF_len, toNat_cast, lenOk]; omega) (T.af (by simp only [inK_i64, inB_i, leB_i, ltB_iff, leN_iff, slOk_iff, ble_iff, blt_iff, decide_eq_true_eq, decide_eq_false_iff_not, beq_iff_eq, beq_eq_false_iff_ne, bne_iff_ne, bne_eq_false_iff_eq, Bool.not_eq_true', Bool.not_eq_false', List.length_set, ne_eq, ge_iff_le, gt_iff_lt, setF_len, toNat_cast, lenOk]; omega) (by rw [decide_eq_false (by omega)]; rfl)))))
  · unfold reflect_Left_t28
    exact T.af rfl (T.nd (by simp only [inK_i64, inB_i, leB_i, ltB_iff, leN_iff, slOk_iff, ble_iff, blt_iff, decide_eq_true_eq, decide_eq_false_iff_not, beq_iff_eq, beq_eq_false_iff_ne, bne_iff_ne, bne_eq_false_iff_eq, Bool.not_eq_true', Bool.not_eq_false', List.length_set, ne_eq, ge_iff_le, gt_iff_lt, setF_len, toNat_cast, lenOk]; omega) (T.af (by simp only [inK_i64, inB_i, leB_i, ltB_iff, leN_iff, slOk_iff, ble_iff, blt_iff, decide_eq_true_eq, decide_eq_false_iff_not, beq_iff_eq, beq_eq_false_iff_ne, bne_iff_ne, bne_eq_false_iff_eq, Bool.not_eq_true', Bool.not_eq_false', List.length_set, ne_eq, ge_iff_le, gt_iff_lt, setF_len, toNat_cast, lenOk]; omega) (by rw [decide_eq_false (by omega)]; rfl)))
  · unfold leftF rflF
    cases ht : feq tau 0 with
    | true =>
      refine seqM_out ?_
      unfold reflect_Left_t29
      rw [cutL_all]
      exact T.af rfl (T.nd (slOk_all xs) (T.nd (by simp only [inK_i64, inB_i, leB_i, ltB_iff, leN_iff, slOk_iff, ble_iff, blt_iff, decide_eq_true_eq, decide_eq_false_iff_not, beq_iff_eq, beq_eq_false_iff_ne, bne_iff_ne, bne_eq_false_iff_eq, Bool.not_eq_true', Bool.not_eq_false', List.length_set, ne_eq, ge_iff_le, gt_iff_lt, setF_len, toNat_cast, lenOk]; omega) (T.at ht rfl)))
    | false =>
      refine seqM_in (a := (xs.length, xs)) ?_ (seqM_in (a := rflGo xs (leP c at_) (leA xs vs c at_) (leV vs) tau vs.length frm (c - frm)) ?_ rfl)
      · unfold reflect_Left_t29
        rw [cutL_all]
        exact T.af rfl (T.nd (slOk_all xs) (T.nd (by simp only [inK_i64, inB_i, leB_i, ltB_iff, leN_iff, slOk_iff, ble_iff, blt_iff, decide_eq_true_eq, decide_eq_false_iff_not, beq_iff_eq, beq_eq_false_iff_ne, bne_iff_ne, bne_eq_false_iff_eq, Bool.not_eq_true', Bool.not_eq_false', List.length_set, ne_eq, ge_iff_le, gt_iff_lt, setF_len, toNat_cast, lenOk]; omega) (T.af ht rfl)))
      · refine loopM_at (fun j => (((frm + j : Nat) : Int), rflGo xs (leP c at_) (leA xs vs c at_) (leV vs) tau vs.length frm j)) (c - frm) rfl (fun j hj => ?_) ?_
        · show seqM (reflect_Left_t31 _ _ _).run _ = _
          have hk : frm + j < c := by omega
          refine seqM_in (a := ()) (T.at (by simp only [inK_i64, inB_i, leB_i, ltB_iff, leN_iff, slOk_iff, ble_iff, blt_iff, decide_eq_true_eq, decide_eq_false_iff_not, beq_iff_eq, beq_eq_false_iff_ne, bne_iff_ne, bne_eq_false_iff_eq, Bool.not_eq_true', Bool.not_eq_false', List.length_set, ne_eq, ge_iff_le, gt_iff_lt, setF_len, toNat_cast, lenOk]; omega) rfl) (seqM_in (joinM_in (a := rflGo xs (leP c at_) (leA xs vs c at_) (leV vs) tau vs.length frm (j + 1)) ?_) ?_)
          · refine seqM_in (a := rflW xs tau vs.length (leA xs vs c at_) (frm + j)) ?_ (seqM_in rfl (seqM_in ?_ rfl))
            · unfold reflect_Left_t33
              rw [cutL_all, cutL_all, sum1_spec (Nat.le_refl _) (fun i hi => by rw [hx]; exact idx_lt (by omega) hk) (by omega) (by omega)]
              exact T.nd (slOk_all vs) (T.nd (slOk_all xs) (T.nd rfl rfl))
            · refine Left_in hx hk hat hr hc rflGo_len rfl (fun i hi => ?_)
              refine rflGo_other fun j' i' hj' hi' q => ?_
              have := (idx_inj (by omega) hk q).2
              omega
          · refine T.nd (by simp only [inK_i64, inB_i, leB_i, ltB_iff, leN_iff, slOk_iff, ble_iff, blt_iff, decide_eq_true_eq, decide_eq_false_iff_not, beq_iff_eq, beq_eq_false_iff_ne, bne_iff_ne, bne_eq_false_iff_eq, Bool.not_eq_true', Bool.not_eq_false', List.length_set, ne_eq, ge_iff_le, gt_iff_lt, setF_len, toNat_cast, lenOk]; omega) ?_
            rfl
        · show seqM (reflect_Left_t31 _ _ _).run _ = _
          exact seqM_out (T.af (by simp only [inK_i64, inB_i, leB_i, ltB_iff, leN_iff, slOk_iff, ble_iff, blt_iff, decide_eq_true_eq, decide_eq_false_iff_not, beq_iff_eq, beq_eq_false_iff_ne, bne_iff_ne, bne_eq_false_iff_eq, Bool.not_eq_true', Bool.not_eq_false', List.length_set, ne_eq, ge_iff_le, gt_iff_lt, setF_len, toNat_cast, lenOk]; omega) rfl)
end Go.Plb.Seat

/-
  PLAIN: columns reflected; the document's rows and columns.
-/
namespace Go.Plb.Seat
open Go Go.Plb
set_option linter.unusedSimpArgs false
set_option linter.unusedVariables false

def riP (c at_ : Nat) (k i : Nat) : Nat := k * c + (at_ + i)
def riA (xs vs : List Nat) (c at_ : Nat) (k i : Nat) : Nat := fmul (xs.getD (k * c + (at_ + i)) 0) (vs.getD i 0)
def riV (vs : List Nat) (i w : Nat) : Nat := fmul w (vs.getD i 0)
def rightF (xs vs : List Nat) (r c at_ frm tau : Nat) : List Nat := rflF xs (riP c at_) (riA xs vs c at_) (riV vs) tau vs.length frm (r - frm)

theorem Right_in {xs vs out : List Nat} {r c at_ k w n : Nat} (hx : xs.length = r * c) (hk : k < r) (hat : at_ + vs.length ≤ c) (hr : r ≤ 512) (hc : c ≤ 512) (ho : out.length = xs.length) (hn : n = xs.length)
    (hsame : ∀ i, i < vs.length → out.getD (riP c at_ k i) 0 = xs.getD (riP c at_ k i) 0) :
    loopM (reflect_Right_m37 (c : Int) (at_ : Int) vs n (k : Int) w) (0, out) = some (.inl (rflIn xs (riP c at_) (riV vs) w k out vs.length)) := by
  have hL : r * c ≤ 262144 := Nat.mul_le_mul hr hc
  refine loopM_at (fun j => (j, rflIn xs (riP c at_) (riV vs) w k out j)) vs.length rfl (fun j hj => ?_) ?_
  · have hi : k * c + (at_ + j) < xs.length := by rw [hx]; exact idx_lt hk (by omega)
    have h := idxOb (x := k) hi (by omega) (by omega)
    have h' := idxOb (x := k) (c := c) (k := at_) (L := xs.length) (by omega) (by omega) (by omega)
    have hl : (rflIn xs (riP c at_) (riV vs) w k out j).length = xs.length := by unfold rflIn; rw [setF_len, ho]
    show (reflect_Right_t36 _ _ _ _ _ _ _ _).run = _
    unfold reflect_Right_t36
    rw [Int.add_assoc, addc, hl, hn]
    refine T.at (by simp only [inK_i64, inB_i, leB_i, ltB_iff, leN_iff, slOk_iff, ble_iff, blt_iff, decide_eq_true_eq, decide_eq_false_iff_not, beq_iff_eq, beq_eq_false_iff_ne, bne_iff_ne, bne_eq_false_iff_eq, Bool.not_eq_true', Bool.not_eq_false', List.length_set, ne_eq, ge_iff_le, gt_iff_lt, setF_len, toNat_cast, lenOk]; omega) (T.nd (by simp only [inK_i64, inB_i, leB_i, ltB_iff, leN_iff, slOk_iff, ble_iff, blt_iff, decide_eq_true_eq, decide_eq_false_iff_not, beq_iff_eq, beq_eq_false_iff_ne, bne_iff_ne, bne_eq_false_iff_eq, Bool.not_eq_true', Bool.not_eq_false', List.length_set, ne_eq, ge_iff_le, gt_iff_lt, setF_len, toNat_cast, lenOk]; omega) (T.nd (by simp only [inK_i64, inB_i, leB_i, ltB_iff, leN_iff, slOk_iff, ble_iff, blt_iff, decide_eq_true_eq, decide_eq_false_iff_not, beq_iff_eq, beq_eq_false_iff_ne, bne_iff_ne, bne_eq_false_iff_eq, Bool.not_eq_true', Bool.not_eq_false', List.length_set, ne_eq, ge_iff_le, gt_iff_lt, setF_len, toNat_cast, lenOk]; omega) (T.nd h.b (T.nd h'.c (T.nd h.c (T.nd h.d (T.nd h.e (T.nd h.d (T.nd h.e (T.nd (by simp only [inK_i64, inB_i, leB_i, ltB_iff, leN_iff, slOk_iff, ble_iff, blt_iff, decide_eq_true_eq, decide_eq_false_iff_not, beq_iff_eq, beq_eq_false_iff_ne, bne_iff_ne, bne_eq_false_iff_eq, Bool.not_eq_true', Bool.not_eq_false', List.length_set, ne_eq, ge_iff_le, gt_iff_lt, setF_len, toNat_cast, lenOk]; omega) ?_))))))))))
    rw [h.f]
    have e : (rflIn xs (riP c at_) (riV vs) w k out j).getD (k * c + (at_ + j)) 0 = xs.getD (k * c + (at_ + j)) 0 := by
      unfold rflIn
      rw [setF_other (fun i hi => ?_)]
      · exact hsame j hj
      · intro q
        have := (idx_inj (i := k) (i' := k) (by omega) (by omega) q).2
        omega
    rw [e]; rfl
  · exact T.af (by simp only [inK_i64, inB_i, leB_i, ltB_iff, leN_iff, slOk_iff, ble_iff, blt_iff, decide_eq_true_eq, decide_eq_false_iff_not, beq_iff_eq, beq_eq_false_iff_ne, bne_iff_ne, bne_eq_false_iff_eq, Bool.not_eq_true', Bool.not_eq_false', List.length_set, ne_eq, ge_iff_le, gt_iff_lt, setF_len, toNat_cast, lenOk]; omega) rfl

theorem Right_spec {xs vs : List Nat} {r c at_ frm tau : Nat} (hx : xs.length = r * c) (hr : r ≤ 512) (hc : c ≤ 512) (hv : 0 < vs.length) (hat : at_ + vs.length ≤ c) (hf : frm ≤ r) :
    reflect_Right_F (r : Int) (c : Int) xs (at_ : Int) (frm : Int) vs tau = some (.r1 r c xs.length (rightF xs vs r c at_ frm tau)) := by
  have hL : r * c ≤ 262144 := Nat.mul_le_mul hr hc
  have hm : mayB (r : Int) (c : Int) xs.length = true := by
    unfold mayB
    have : (xs.length : Int) = (r : Int) * (c : Int) := by rw [hx, Int.natCast_mul]
    simp only [Bool.and_eq_true, decide_eq_true_eq, beq_iff_eq]; omega
  refine toX_of (seqM_in (a := false) ?_ (seqM_in (a := false) ?_ ?_))
  · unfold reflect_Right_t27
    rw [cutL_all, may_spec, hm]
    exact T.nd (slOk_all xs) (T.nd rfl (T.af rfl (T.af (by simp only [inK_i64, inB_i, leB_i, ltB_iff, leN_iff, slOk_iff, ble_iff, blt_iff, decide_eq_true_eq, decide_eq_false_iff_not, beq_iff_eq, beq_eq_false_iff_ne, bne_iff_ne, bne_eq_false_iff_eq, Bool.not_eq_true', Bool.not_eq_false', List.length_set, ne_eq, ge_iff_le, gt_iff_lt, setF_len, toNat_cast, lenOk]; omega) (T.af (by simp only [inK_i64, inB_i, leB_i, ltB_iff, leN_iff, slOk_iff, ble_iff, blt_iff, decide_eq_true_eq, decide_eq_false_iff_not, beq_iff_eq, beq_eq_false_iff_ne, bne_iff_ne, bne_eq_false_iff_eq, Bool.not_eq_true', Bool.not_eq_false', List.length_set, ne_eq, ge_iff_le, gt_iff_lt, setF_len, toNat_cast, lenOk]; omega) (by rw [decide_eq_false (by omega)]; rfl)))))
  · unfold reflect_Right_t28
    exact T.af rfl (T.nd (by simp only [inK_i64, inB_i, leB_i, ltB_iff, leN_iff, slOk_iff, ble_iff, blt_iff, decide_eq_true_eq, decide_eq_false_iff_not, beq_iff_eq, beq_eq_false_iff_ne, bne_iff_ne, bne_eq_false_iff_eq, Bool.not_eq_true', Bool.not_eq_false', List.length_set, ne_eq, ge_iff_le, gt_iff_lt, setF_len, toNat_cast, lenOk]; omega) (T.af (by simp only [inK_i64, inB_i, leB_i, ltB_iff, leN_iff, slOk_iff, ble_iff, blt_iff, decide_eq_true_eq, decide_eq_false_iff_not, beq_iff_eq, beq_eq_false_iff_ne, bne_iff_ne, bne_eq_false_iff_eq, Bool.not_eq_true', Bool.not_eq_false', List.length_set, ne_eq, ge_iff_le, gt_iff_lt, setF_len, toNat_cast, lenOk]; omega) (by rw [decide_eq_false (by omega)]; rfl)))
  · unfold rightF rflF
    cases ht : feq tau 0 with
    | true =>
      refine seqM_out ?_
      unfold reflect_Right_t29
      rw [cutL_all]
      exact T.af rfl (T.nd (slOk_all xs) (T.nd (by simp only [inK_i64, inB_i, leB_i, ltB_iff, leN_iff, slOk_iff, ble_iff, blt_iff, decide_eq_true_eq, decide_eq_false_iff_not, beq_iff_eq, beq_eq_false_iff_ne, bne_iff_ne, bne_eq_false_iff_eq, Bool.not_eq_true', Bool.not_eq_false', List.length_set, ne_eq, ge_iff_le, gt_iff_lt, setF_len, toNat_cast, lenOk]; omega) (T.at ht rfl)))
    | false =>
      refine seqM_in (a := (xs.length, xs)) ?_ (seqM_in (a := rflGo xs (riP c at_) (riA xs vs c at_) (riV vs) tau vs.length frm (r - frm)) ?_ rfl)
      · unfold reflect_Right_t29
        rw [cutL_all]
        exact T.af rfl (T.nd (slOk_all xs) (T.nd (by simp only [inK_i64, inB_i, leB_i, ltB_iff, leN_iff, slOk_iff, ble_iff, blt_iff, decide_eq_true_eq, decide_eq_false_iff_not, beq_iff_eq, beq_eq_false_iff_ne, bne_iff_ne, bne_eq_false_iff_eq, Bool.not_eq_true', Bool.not_eq_false', List.length_set, ne_eq, ge_iff_le, gt_iff_lt, setF_len, toNat_cast, lenOk]; omega) (T.af ht rfl)))
      · refine loopM_at (fun j => (((frm + j : Nat) : Int), rflGo xs (riP c at_) (riA xs vs c at_) (riV vs) tau vs.length frm j)) (r - frm) rfl (fun j hj => ?_) ?_
        · show seqM (reflect_Right_t31 _ _ _).run _ = _
          have hk : frm + j < r := by omega
          refine seqM_in (a := ()) (T.at (by simp only [inK_i64, inB_i, leB_i, ltB_iff, leN_iff, slOk_iff, ble_iff, blt_iff, decide_eq_true_eq, decide_eq_false_iff_not, beq_iff_eq, beq_eq_false_iff_ne, bne_iff_ne, bne_eq_false_iff_eq, Bool.not_eq_true', Bool.not_eq_false', List.length_set, ne_eq, ge_iff_le, gt_iff_lt, setF_len, toNat_cast, lenOk]; omega) rfl) (seqM_in (joinM_in (a := rflGo xs (riP c at_) (riA xs vs c at_) (riV vs) tau vs.length frm (j + 1)) ?_) ?_)
          · refine seqM_in (a := rflW xs tau vs.length (riA xs vs c at_) (frm + j)) ?_ (seqM_in rfl (seqM_in ?_ rfl))
            · unfold reflect_Right_t33
              rw [cutL_all, cutL_all, sum2_spec (Nat.le_refl _) (fun i hi => by rw [hx]; exact idx_lt hk (by omega)) (by omega) (by omega) (by omega)]
              exact T.nd (slOk_all xs) (T.nd (slOk_all vs) (T.nd rfl rfl))
            · refine Right_in hx hk hat hr hc rflGo_len rfl (fun i hi => ?_)
              refine rflGo_other fun j' i' hj' hi' q => ?_
              have := (idx_inj (by omega) (by omega) q).1
              omega
          · refine T.nd (by simp only [inK_i64, inB_i, leB_i, ltB_iff, leN_iff, slOk_iff, ble_iff, blt_iff, decide_eq_true_eq, decide_eq_false_iff_not, beq_iff_eq, beq_eq_false_iff_ne, bne_iff_ne, bne_eq_false_iff_eq, Bool.not_eq_true', Bool.not_eq_false', List.length_set, ne_eq, ge_iff_le, gt_iff_lt, setF_len, toNat_cast, lenOk]; omega) ?_
            rfl
        · show seqM (reflect_Right_t31 _ _ _).run _ = _
          exact seqM_out (T.af (by simp only [inK_i64, inB_i, leB_i, ltB_iff, leN_iff, slOk_iff, ble_iff, blt_iff, decide_eq_true_eq, decide_eq_false_iff_not, beq_iff_eq, beq_eq_false_iff_ne, bne_iff_ne, bne_eq_false_iff_eq, Bool.not_eq_true', Bool.not_eq_false', List.length_set, ne_eq, ge_iff_le, gt_iff_lt, setF_len, toNat_cast, lenOk]; omega) rfl)


theorem Left9_sum {xs vs : List Nat} {r c at_ k : Nat} (hx : xs.length = r * c) (hk : k < c) (hat : at_ + vs.length ≤ r) (hr : r ≤ 512) (hc : c ≤ 512) :
    loopM (ref09_Left_m40 (c : Int) xs (at_ : Int) vs (k : Int)) (0, 0) = some (.inl (sumF (leA xs vs c at_ k) vs.length)) := by
  have hL : r * c ≤ 262144 := Nat.mul_le_mul hr hc
  refine loopM_at (fun j => (sumF (leA xs vs c at_ k) j, j)) vs.length rfl (fun j hj => ?_) ?_
  · have hi : (at_ + j) * c + k < xs.length := by rw [hx]; exact idx_lt (by omega) hk
    have h := idxOb (x := at_ + j) hi (by omega) (by omega)
    show (ref09_Left_t39 _ _ _ _ _ _ _).run = _
    unfold ref09_Left_t39
    rw [addc]
    refine T.at (by simp only [inK_i64, inB_i, leB_i, ltB_iff, leN_iff, slOk_iff, ble_iff, blt_iff, decide_eq_true_eq, decide_eq_false_iff_not, beq_iff_eq, beq_eq_false_iff_ne, bne_iff_ne, bne_eq_false_iff_eq, Bool.not_eq_true', Bool.not_eq_false', List.length_set, ne_eq, ge_iff_le, gt_iff_lt, setF_len, toNat_cast, lenOk]; omega) (T.nd (by simp only [inK_i64, inB_i, leB_i, ltB_iff, leN_iff, slOk_iff, ble_iff, blt_iff, decide_eq_true_eq, decide_eq_false_iff_not, beq_iff_eq, beq_eq_false_iff_ne, bne_iff_ne, bne_eq_false_iff_eq, Bool.not_eq_true', Bool.not_eq_false', List.length_set, ne_eq, ge_iff_le, gt_iff_lt, setF_len, toNat_cast, lenOk]; omega) (T.nd (by simp only [inK_i64, inB_i, leB_i, ltB_iff, leN_iff, slOk_iff, ble_iff, blt_iff, decide_eq_true_eq, decide_eq_false_iff_not, beq_iff_eq, beq_eq_false_iff_ne, bne_iff_ne, bne_eq_false_iff_eq, Bool.not_eq_true', Bool.not_eq_false', List.length_set, ne_eq, ge_iff_le, gt_iff_lt, setF_len, toNat_cast, lenOk]; omega) (T.nd h.a (T.nd h.b (T.nd h.c (T.nd h.d (T.nd h.e (T.nd (by simp only [inK_i64, inB_i, leB_i, ltB_iff, leN_iff, slOk_iff, ble_iff, blt_iff, decide_eq_true_eq, decide_eq_false_iff_not, beq_iff_eq, beq_eq_false_iff_ne, bne_iff_ne, bne_eq_false_iff_eq, Bool.not_eq_true', Bool.not_eq_false', List.length_set, ne_eq, ge_iff_le, gt_iff_lt, setF_len, toNat_cast, lenOk]; omega) ?_))))))))
    rw [h.f]; rfl
  · exact T.af (by simp only [inK_i64, inB_i, leB_i, ltB_iff, leN_iff, slOk_iff, ble_iff, blt_iff, decide_eq_true_eq, decide_eq_false_iff_not, beq_iff_eq, beq_eq_false_iff_ne, bne_iff_ne, bne_eq_false_iff_eq, Bool.not_eq_true', Bool.not_eq_false', List.length_set, ne_eq, ge_iff_le, gt_iff_lt, setF_len, toNat_cast, lenOk]; omega) rfl
theorem Left9_in {xs vs out : List Nat} {r c at_ k w : Nat} (hx : xs.length = r * c) (hk : k < c) (hat : at_ + vs.length ≤ r) (hr : r ≤ 512) (hc : c ≤ 512) (ho : out.length = xs.length) :
    loopM (ref09_Left_m44 (c : Int) xs (at_ : Int) vs (k : Int) w) (0, out) = some (.inl (rflIn xs (leP c at_) (leV vs) w k out vs.length)) := by
  have hL : r * c ≤ 262144 := Nat.mul_le_mul hr hc
  refine loopM_at (fun j => (j, rflIn xs (leP c at_) (leV vs) w k out j)) vs.length rfl (fun j hj => ?_) ?_
  · have hi : (at_ + j) * c + k < xs.length := by rw [hx]; exact idx_lt (by omega) hk
    have h := idxOb (x := at_ + j) hi (by omega) (by omega)
    have hl : (rflIn xs (leP c at_) (leV vs) w k out j).length = xs.length := by unfold rflIn; rw [setF_len, ho]
    show (ref09_Left_t43 _ _ _ _ _ _ _ _).run = _
    unfold ref09_Left_t43
    rw [addc, hl]
    refine T.at (by simp only [inK_i64, inB_i, leB_i, ltB_iff, leN_iff, slOk_iff, ble_iff, blt_iff, decide_eq_true_eq, decide_eq_false_iff_not, beq_iff_eq, beq_eq_false_iff_ne, bne_iff_ne, bne_eq_false_iff_eq, Bool.not_eq_true', Bool.not_eq_false', List.length_set, ne_eq, ge_iff_le, gt_iff_lt, setF_len, toNat_cast, lenOk]; omega) (T.nd (by simp only [inK_i64, inB_i, leB_i, ltB_iff, leN_iff, slOk_iff, ble_iff, blt_iff, decide_eq_true_eq, decide_eq_false_iff_not, beq_iff_eq, beq_eq_false_iff_ne, bne_iff_ne, bne_eq_false_iff_eq, Bool.not_eq_true', Bool.not_eq_false', List.length_set, ne_eq, ge_iff_le, gt_iff_lt, setF_len, toNat_cast, lenOk]; omega) (T.nd (by simp only [inK_i64, inB_i, leB_i, ltB_iff, leN_iff, slOk_iff, ble_iff, blt_iff, decide_eq_true_eq, decide_eq_false_iff_not, beq_iff_eq, beq_eq_false_iff_ne, bne_iff_ne, bne_eq_false_iff_eq, Bool.not_eq_true', Bool.not_eq_false', List.length_set, ne_eq, ge_iff_le, gt_iff_lt, setF_len, toNat_cast, lenOk]; omega) (T.nd h.a (T.nd h.b (T.nd h.c (T.nd h.a (T.nd h.b (T.nd h.c (T.nd h.d (T.nd h.e (T.nd h.d (T.nd h.e (T.nd (by simp only [inK_i64, inB_i, leB_i, ltB_iff, leN_iff, slOk_iff, ble_iff, blt_iff, decide_eq_true_eq, decide_eq_false_iff_not, beq_iff_eq, beq_eq_false_iff_ne, bne_iff_ne, bne_eq_false_iff_eq, Bool.not_eq_true', Bool.not_eq_false', List.length_set, ne_eq, ge_iff_le, gt_iff_lt, setF_len, toNat_cast, lenOk]; omega) ?_)))))))))))))
    rw [h.f]; rfl
  · exact T.af (by simp only [inK_i64, inB_i, leB_i, ltB_iff, leN_iff, slOk_iff, ble_iff, blt_iff, decide_eq_true_eq, decide_eq_false_iff_not, beq_iff_eq, beq_eq_false_iff_ne, bne_iff_ne, bne_eq_false_iff_eq, Bool.not_eq_true', Bool.not_eq_false', List.length_set, ne_eq, ge_iff_le, gt_iff_lt, setF_len, toNat_cast, lenOk]; omega) rfl
theorem Left9_spec {xs vs : List Nat} {r c at_ frm tau : Nat} (hx : xs.length = r * c) (hr : r ≤ 512) (hc : c ≤ 512) (hat : at_ + vs.length ≤ r) (hf : frm ≤ c) :
    ref09_Left_F (r : Int) (c : Int) xs (at_ : Int) (frm : Int) vs tau = some (.r0 r c xs.length (leftF xs vs c at_ frm tau)) := by
  have hL : r * c ≤ 262144 := Nat.mul_le_mul hr hc
  refine toX_of ?_
  unfold leftF rflF
  cases ht : feq tau 0 with
  | true =>
    refine seqM_out ?_
    unfold ref09_Left_t33
    rw [List.take_length]
    exact T.nd (by simp only [inK_i64, inB_i, leB_i, ltB_iff, leN_iff, slOk_iff, ble_iff, blt_iff, decide_eq_true_eq, decide_eq_false_iff_not, beq_iff_eq, beq_eq_false_iff_ne, bne_iff_ne, bne_eq_false_iff_eq, Bool.not_eq_true', Bool.not_eq_false', List.length_set, ne_eq, ge_iff_le, gt_iff_lt, setF_len, toNat_cast, lenOk]; omega) (T.nd (by simp only [inK_i64, inB_i, leB_i, ltB_iff, leN_iff, slOk_iff, ble_iff, blt_iff, decide_eq_true_eq, decide_eq_false_iff_not, beq_iff_eq, beq_eq_false_iff_ne, bne_iff_ne, bne_eq_false_iff_eq, Bool.not_eq_true', Bool.not_eq_false', List.length_set, ne_eq, ge_iff_le, gt_iff_lt, setF_len, toNat_cast, lenOk]; omega) (T.nd (by simp only [inK_i64, inB_i, leB_i, ltB_iff, leN_iff, slOk_iff, ble_iff, blt_iff, decide_eq_true_eq, decide_eq_false_iff_not, beq_iff_eq, beq_eq_false_iff_ne, bne_iff_ne, bne_eq_false_iff_eq, Bool.not_eq_true', Bool.not_eq_false', List.length_set, ne_eq, ge_iff_le, gt_iff_lt, setF_len, toNat_cast, lenOk]; omega) (T.at ht rfl)))
  | false =>
    refine seqM_in (a := xs) ?_ (seqM_in (a := rflGo xs (leP c at_) (leA xs vs c at_) (leV vs) tau vs.length frm (c - frm)) ?_ rfl)
    · unfold ref09_Left_t33
      rw [List.take_length]
      exact T.nd (by simp only [inK_i64, inB_i, leB_i, ltB_iff, leN_iff, slOk_iff, ble_iff, blt_iff, decide_eq_true_eq, decide_eq_false_iff_not, beq_iff_eq, beq_eq_false_iff_ne, bne_iff_ne, bne_eq_false_iff_eq, Bool.not_eq_true', Bool.not_eq_false', List.length_set, ne_eq, ge_iff_le, gt_iff_lt, setF_len, toNat_cast, lenOk]; omega) (T.nd (by simp only [inK_i64, inB_i, leB_i, ltB_iff, leN_iff, slOk_iff, ble_iff, blt_iff, decide_eq_true_eq, decide_eq_false_iff_not, beq_iff_eq, beq_eq_false_iff_ne, bne_iff_ne, bne_eq_false_iff_eq, Bool.not_eq_true', Bool.not_eq_false', List.length_set, ne_eq, ge_iff_le, gt_iff_lt, setF_len, toNat_cast, lenOk]; omega) (T.nd (by simp only [inK_i64, inB_i, leB_i, ltB_iff, leN_iff, slOk_iff, ble_iff, blt_iff, decide_eq_true_eq, decide_eq_false_iff_not, beq_iff_eq, beq_eq_false_iff_ne, bne_iff_ne, bne_eq_false_iff_eq, Bool.not_eq_true', Bool.not_eq_false', List.length_set, ne_eq, ge_iff_le, gt_iff_lt, setF_len, toNat_cast, lenOk]; omega) (T.af ht rfl)))
    · refine loopM_at (fun j => (((frm + j : Nat) : Int), rflGo xs (leP c at_) (leA xs vs c at_) (leV vs) tau vs.length frm j)) (c - frm) rfl (fun j hj => ?_) ?_
      · show seqM (ref09_Left_t35 _ _ _).run _ = _
        have hk : frm + j < c := by omega
        refine seqM_in (a := ()) (T.at (by simp only [inK_i64, inB_i, leB_i, ltB_iff, leN_iff, slOk_iff, ble_iff, blt_iff, decide_eq_true_eq, decide_eq_false_iff_not, beq_iff_eq, beq_eq_false_iff_ne, bne_iff_ne, bne_eq_false_iff_eq, Bool.not_eq_true', Bool.not_eq_false', List.length_set, ne_eq, ge_iff_le, gt_iff_lt, setF_len, toNat_cast, lenOk]; omega) rfl) (seqM_in (joinM_in (a := rflGo xs (leP c at_) (leA xs vs c at_) (leV vs) tau vs.length frm (j + 1)) ?_) ?_)
        · exact seqM_in rfl (seqM_in (Left9_sum hx hk hat hr hc) (seqM_in rfl (seqM_in (Left9_in hx hk hat hr hc rflGo_len) rfl)))
        · refine T.nd (by simp only [inK_i64, inB_i, leB_i, ltB_iff, leN_iff, slOk_iff, ble_iff, blt_iff, decide_eq_true_eq, decide_eq_false_iff_not, beq_iff_eq, beq_eq_false_iff_ne, bne_iff_ne, bne_eq_false_iff_eq, Bool.not_eq_true', Bool.not_eq_false', List.length_set, ne_eq, ge_iff_le, gt_iff_lt, setF_len, toNat_cast, lenOk]; omega) ?_
          rfl
      · show seqM (ref09_Left_t35 _ _ _).run _ = _
        exact seqM_out (T.af (by simp only [inK_i64, inB_i, leB_i, ltB_iff, leN_iff, slOk_iff, ble_iff, blt_iff, decide_eq_true_eq, decide_eq_false_iff_not, beq_iff_eq, beq_eq_false_iff_ne, bne_iff_ne, bne_eq_false_iff_eq, Bool.not_eq_true', Bool.not_eq_false', List.length_set, ne_eq, ge_iff_le, gt_iff_lt, setF_len, toNat_cast, lenOk]; omega) rfl)

theorem Right9_sum {xs vs : List Nat} {r c at_ k : Nat} (hx : xs.length = r * c) (hk : k < r) (hat : at_ + vs.length ≤ c) (hr : r ≤ 512) (hc : c ≤ 512) :
    loopM (ref09_Right_m40 (c : Int) xs (at_ : Int) vs (k : Int)) (0, 0) = some (.inl (sumF (riA xs vs c at_ k) vs.length)) := by
  have hL : r * c ≤ 262144 := Nat.mul_le_mul hr hc
  refine loopM_at (fun j => (sumF (riA xs vs c at_ k) j, j)) vs.length rfl (fun j hj => ?_) ?_
  · have hi : k * c + (at_ + j) < xs.length := by rw [hx]; exact idx_lt hk (by omega)
    have h := idxOb (x := k) hi (by omega) (by omega)
    have h' := idxOb (x := k) (c := c) (k := at_) (L := xs.length) (by omega) (by omega) (by omega)
    show (ref09_Right_t39 _ _ _ _ _ _ _).run = _
    unfold ref09_Right_t39
    rw [Int.add_assoc, addc]
    refine T.at (by simp only [inK_i64, inB_i, leB_i, ltB_iff, leN_iff, slOk_iff, ble_iff, blt_iff, decide_eq_true_eq, decide_eq_false_iff_not, beq_iff_eq, beq_eq_false_iff_ne, bne_iff_ne, bne_eq_false_iff_eq, Bool.not_eq_true', Bool.not_eq_false', List.length_set, ne_eq, ge_iff_le, gt_iff_lt, setF_len, toNat_cast, lenOk]; omega) (T.nd h.b (T.nd h'.c (T.nd h.c (T.nd h.d (T.nd h.e (T.nd (by simp only [inK_i64, inB_i, leB_i, ltB_iff, leN_iff, slOk_iff, ble_iff, blt_iff, decide_eq_true_eq, decide_eq_false_iff_not, beq_iff_eq, beq_eq_false_iff_ne, bne_iff_ne, bne_eq_false_iff_eq, Bool.not_eq_true', Bool.not_eq_false', List.length_set, ne_eq, ge_iff_le, gt_iff_lt, setF_len, toNat_cast, lenOk]; omega) (T.nd (by simp only [inK_i64, inB_i, leB_i, ltB_iff, leN_iff, slOk_iff, ble_iff, blt_iff, decide_eq_true_eq, decide_eq_false_iff_not, beq_iff_eq, beq_eq_false_iff_ne, bne_iff_ne, bne_eq_false_iff_eq, Bool.not_eq_true', Bool.not_eq_false', List.length_set, ne_eq, ge_iff_le, gt_iff_lt, setF_len, toNat_cast, lenOk]; omega) (T.nd (by simp only [inK_i64, inB_i, leB_i, ltB_iff, leN_iff, slOk_iff, ble_iff, blt_iff, decide_eq_true_eq, decide_eq_false_iff_not, beq_iff_eq, beq_eq_false_iff_ne, bne_iff_ne, bne_eq_false_iff_eq, Bool.not_eq_true', Bool.not_eq_false', List.length_set, ne_eq, ge_iff_le, gt_iff_lt, setF_len, toNat_cast, lenOk]; omega) ?_))))))))
    rw [h.f]; rfl
  · exact T.af (by simp only [inK_i64, inB_i, leB_i, ltB_iff, leN_iff, slOk_iff, ble_iff, blt_iff, decide_eq_true_eq, decide_eq_false_iff_not, beq_iff_eq, beq_eq_false_iff_ne, bne_iff_ne, bne_eq_false_iff_eq, Bool.not_eq_true', Bool.not_eq_false', List.length_set, ne_eq, ge_iff_le, gt_iff_lt, setF_len, toNat_cast, lenOk]; omega) rfl
theorem Right9_in {xs vs out : List Nat} {r c at_ k w : Nat} (hx : xs.length = r * c) (hk : k < r) (hat : at_ + vs.length ≤ c) (hr : r ≤ 512) (hc : c ≤ 512) (ho : out.length = xs.length) :
    loopM (ref09_Right_m44 (c : Int) xs (at_ : Int) vs (k : Int) w) (0, out) = some (.inl (rflIn xs (riP c at_) (riV vs) w k out vs.length)) := by
  have hL : r * c ≤ 262144 := Nat.mul_le_mul hr hc
  refine loopM_at (fun j => (j, rflIn xs (riP c at_) (riV vs) w k out j)) vs.length rfl (fun j hj => ?_) ?_
  · have hi : k * c + (at_ + j) < xs.length := by rw [hx]; exact idx_lt hk (by omega)
    have h := idxOb (x := k) hi (by omega) (by omega)
    have h' := idxOb (x := k) (c := c) (k := at_) (L := xs.length) (by omega) (by omega) (by omega)
    have hl : (rflIn xs (riP c at_) (riV vs) w k out j).length = xs.length := by unfold rflIn; rw [setF_len, ho]
    show (ref09_Right_t43 _ _ _ _ _ _ _ _).run = _
    unfold ref09_Right_t43
    rw [Int.add_assoc, addc, hl]
    refine T.at (by simp only [inK_i64, inB_i, leB_i, ltB_iff, leN_iff, slOk_iff, ble_iff, blt_iff, decide_eq_true_eq, decide_eq_false_iff_not, beq_iff_eq, beq_eq_false_iff_ne, bne_iff_ne, bne_eq_false_iff_eq, Bool.not_eq_true', Bool.not_eq_false', List.length_set, ne_eq, ge_iff_le, gt_iff_lt, setF_len, toNat_cast, lenOk]; omega) (T.nd (by simp only [inK_i64, inB_i, leB_i, ltB_iff, leN_iff, slOk_iff, ble_iff, blt_iff, decide_eq_true_eq, decide_eq_false_iff_not, beq_iff_eq, beq_eq_false_iff_ne, bne_iff_ne, bne_eq_false_iff_eq, Bool.not_eq_true', Bool.not_eq_false', List.length_set, ne_eq, ge_iff_le, gt_iff_lt, setF_len, toNat_cast, lenOk]; omega) (T.nd (by simp only [inK_i64, inB_i, leB_i, ltB_iff, leN_iff, slOk_iff, ble_iff, blt_iff, decide_eq_true_eq, decide_eq_false_iff_not, beq_iff_eq, beq_eq_false_iff_ne, bne_iff_ne, bne_eq_false_iff_eq, Bool.not_eq_true', Bool.not_eq_false', List.length_set, ne_eq, ge_iff_le, gt_iff_lt, setF_len, toNat_cast, lenOk]; omega) (T.nd h.b (T.nd h'.c (T.nd h.c (T.nd h.b (T.nd h'.c (T.nd h.c (T.nd h.d (T.nd h.e (T.nd h.d (T.nd h.e (T.nd (by simp only [inK_i64, inB_i, leB_i, ltB_iff, leN_iff, slOk_iff, ble_iff, blt_iff, decide_eq_true_eq, decide_eq_false_iff_not, beq_iff_eq, beq_eq_false_iff_ne, bne_iff_ne, bne_eq_false_iff_eq, Bool.not_eq_true', Bool.not_eq_false', List.length_set, ne_eq, ge_iff_le, gt_iff_lt, setF_len, toNat_cast, lenOk]; omega) ?_)))))))))))))
    rw [h.f]; rfl
  · exact T.af (by simp only [inK_i64, inB_i, leB_i, ltB_iff, leN_iff, slOk_iff, ble_iff, blt_iff, decide_eq_true_eq, decide_eq_false_iff_not, beq_iff_eq, beq_eq_false_iff_ne, bne_iff_ne, bne_eq_false_iff_eq, Bool.not_eq_true', Bool.not_eq_false', List.length_set, ne_eq, ge_iff_le, gt_iff_lt, setF_len, toNat_cast, lenOk]; omega) rfl
theorem Right9_spec {xs vs : List Nat} {r c at_ frm tau : Nat} (hx : xs.length = r * c) (hr : r ≤ 512) (hc : c ≤ 512) (hat : at_ + vs.length ≤ c) (hf : frm ≤ r) :
    ref09_Right_F (r : Int) (c : Int) xs (at_ : Int) (frm : Int) vs tau = some (.r0 r c xs.length (rightF xs vs r c at_ frm tau)) := by
  have hL : r * c ≤ 262144 := Nat.mul_le_mul hr hc
  refine toX_of ?_
  unfold rightF rflF
  cases ht : feq tau 0 with
  | true =>
    refine seqM_out ?_
    unfold ref09_Right_t33
    rw [List.take_length]
    exact T.nd (by simp only [inK_i64, inB_i, leB_i, ltB_iff, leN_iff, slOk_iff, ble_iff, blt_iff, decide_eq_true_eq, decide_eq_false_iff_not, beq_iff_eq, beq_eq_false_iff_ne, bne_iff_ne, bne_eq_false_iff_eq, Bool.not_eq_true', Bool.not_eq_false', List.length_set, ne_eq, ge_iff_le, gt_iff_lt, setF_len, toNat_cast, lenOk]; omega) (T.nd (by simp only [inK_i64, inB_i, leB_i, ltB_iff, leN_iff, slOk_iff, ble_iff, blt_iff, decide_eq_true_eq, decide_eq_false_iff_not, beq_iff_eq, beq_eq_false_iff_ne, bne_iff_ne, bne_eq_false_iff_eq, Bool.not_eq_true', Bool.not_eq_false', List.length_set, ne_eq, ge_iff_le, gt_iff_lt, setF_len, toNat_cast, lenOk]; omega) (T.nd (by simp only [inK_i64, inB_i, leB_i, ltB_iff, leN_iff, slOk_iff, ble_iff, blt_iff, decide_eq_true_eq, decide_eq_false_iff_not, beq_iff_eq, beq_eq_false_iff_ne, bne_iff_ne, bne_eq_false_iff_eq, Bool.not_eq_true', Bool.not_eq_false', List.length_set, ne_eq, ge_iff_le, gt_iff_lt, setF_len, toNat_cast, lenOk]; omega) (T.at ht rfl)))
  | false =>
    refine seqM_in (a := xs) ?_ (seqM_in (a := rflGo xs (riP c at_) (riA xs vs c at_) (riV vs) tau vs.length frm (r - frm)) ?_ rfl)
    · unfold ref09_Right_t33
      rw [List.take_length]
      exact T.nd (by simp only [inK_i64, inB_i, leB_i, ltB_iff, leN_iff, slOk_iff, ble_iff, blt_iff, decide_eq_true_eq, decide_eq_false_iff_not, beq_iff_eq, beq_eq_false_iff_ne, bne_iff_ne, bne_eq_false_iff_eq, Bool.not_eq_true', Bool.not_eq_false', List.length_set, ne_eq, ge_iff_le, gt_iff_lt, setF_len, toNat_cast, lenOk]; omega) (T.nd (by simp only [inK_i64, inB_i, leB_i, ltB_iff, leN_iff, slOk_iff, ble_iff, blt_iff, decide_eq_true_eq, decide_eq_false_iff_not, beq_iff_eq, beq_eq_false_iff_ne, bne_iff_ne, bne_eq_false_iff_eq, Bool.not_eq_true', Bool.not_eq_false', List.length_set, ne_eq, ge_iff_le, gt_iff_lt, setF_len, toNat_cast, lenOk]; omega) (T.nd (by simp only [inK_i64, inB_i, leB_i, ltB_iff, leN_iff, slOk_iff, ble_iff, blt_iff, decide_eq_true_eq, decide_eq_false_iff_not, beq_iff_eq, beq_eq_false_iff_ne, bne_iff_ne, bne_eq_false_iff_eq, Bool.not_eq_true', Bool.not_eq_false', List.length_set, ne_eq, ge_iff_le, gt_iff_lt, setF_len, toNat_cast, lenOk]; omega) (T.af ht rfl)))
    · refine loopM_at (fun j => (((frm + j : Nat) : Int), rflGo xs (riP c at_) (riA xs vs c at_) (riV vs) tau vs.length frm j)) (r - frm) rfl (fun j hj => ?_) ?_
      · show seqM (ref09_Right_t35 _ _ _).run _ = _
        have hk : frm + j < r := by omega
        refine seqM_in (a := ()) (T.at (by simp only [inK_i64, inB_i, leB_i, ltB_iff, leN_iff, slOk_iff, ble_iff, blt_iff, decide_eq_true_eq, decide_eq_false_iff_not, beq_iff_eq, beq_eq_false_iff_ne, bne_iff_ne, bne_eq_false_iff_eq, Bool.not_eq_true', Bool.not_eq_false', List.length_set, ne_eq, ge_iff_le, gt_iff_lt, setF_len, toNat_cast, lenOk]; omega) rfl) (seqM_in (joinM_in (a := rflGo xs (riP c at_) (riA xs vs c at_) (riV vs) tau vs.length frm (j + 1)) ?_) ?_)
        · exact seqM_in rfl (seqM_in (Right9_sum hx hk hat hr hc) (seqM_in rfl (seqM_in (Right9_in hx hk hat hr hc rflGo_len) rfl)))
        · refine T.nd (by simp only [inK_i64, inB_i, leB_i, ltB_iff, leN_iff, slOk_iff, ble_iff, blt_iff, decide_eq_true_eq, decide_eq_false_iff_not, beq_iff_eq, beq_eq_false_iff_ne, bne_iff_ne, bne_eq_false_iff_eq, Bool.not_eq_true', Bool.not_eq_false', List.length_set, ne_eq, ge_iff_le, gt_iff_lt, setF_len, toNat_cast, lenOk]; omega) ?_
          rfl
      · show seqM (ref09_Right_t35 _ _ _).run _ = _
        exact seqM_out (T.af (by simp only [inK_i64, inB_i, leB_i, ltB_iff, leN_iff, slOk_iff, ble_iff, blt_iff, decide_eq_true_eq, decide_eq_false_iff_not, beq_iff_eq, beq_eq_false_iff_ne, bne_iff_ne, bne_eq_false_iff_eq, Bool.not_eq_true', Bool.not_eq_false', List.length_set, ne_eq, ge_iff_le, gt_iff_lt, setF_len, toNat_cast, lenOk]; omega) rfl)

end Go.Plb.Seat

/-
  PLAIN: ReflectTurns.
-/
namespace Go.Plb.Seat
open Go Go.Plb
set_option linter.unusedSimpArgs false
set_option linter.unusedVariables false

theorem may_true {a b : Int} {n : Nat} (h : mayB a b n = true) : 0 ≤ a ∧ a ≤ 512 ∧ 0 ≤ b ∧ b ≤ 512 ∧ (n : Int) = a * b := by
  unfold mayB at h
  simp only [Bool.and_eq_true, decide_eq_true_eq, beq_iff_eq] at h
  exact h

/-- What is told ahead of sizes. -/
def bad1 (a b : Int) (xs vs : List Nat) (at_ frm : Int) : Bool := !mayB a b xs.length || ((vs.length : Int) == 0 || (decide (at_ < 0) || decide (frm < 0)))
def bad2 (vs : List Nat) (at_ frm rows others : Int) : Bool := decide (at_ > rows - vs.length) || decide (frm > others)
def errF (a b : Int) (xs vs : List Nat) (at_ frm rows others : Int) : Nat := bif bad1 a b xs vs at_ frm then 2 else bif bad2 vs at_ frm rows others then 8 else 0

theorem run_or {α X : Type} {b c : Bool} {x : α ⊕ X} {g : Bool → α ⊕ X} {f : T (α ⊕ X)} (h1 : b = true → x = g (b || c)) (h2 : b = false → f.run = some (g (b || c))) : (T.ask b (.leaf x) f).run = some (g (b || c)) := by
  cases b with
  | true => rw [← h1 rfl]; rfl
  | false => exact h2 rfl

theorem Left_g1 (a b : Int) (xs vs : List Nat) (at_ frm : Int) : (reflect_Left_t27 a b xs at_ frm vs).run = some (.inl (bad1 a b xs vs at_ frm)) := by
  unfold reflect_Left_t27 bad1
  rw [cutL_all, may_spec]
  refine T.nd (slOk_all xs) (T.nd rfl ?_)
  refine run_or (g := .inl) (fun h => by rw [h]; rfl) (fun h => ?_)
  rw [h, Bool.false_or]
  refine run_or (g := .inl) (fun h => by rw [h]; rfl) (fun h => ?_)
  rw [h, Bool.false_or]
  exact run_or (g := .inl) (fun h => by rw [h]; rfl) (fun h => by rw [h, Bool.false_or]; rfl)
theorem Right_g1 (a b : Int) (xs vs : List Nat) (at_ frm : Int) : (reflect_Right_t27 a b xs at_ frm vs).run = some (.inl (bad1 a b xs vs at_ frm)) := by
  unfold reflect_Right_t27 bad1
  rw [cutL_all, may_spec]
  refine T.nd (slOk_all xs) (T.nd rfl ?_)
  refine run_or (g := .inl) (fun h => by rw [h]; rfl) (fun h => ?_)
  rw [h, Bool.false_or]
  refine run_or (g := .inl) (fun h => by rw [h]; rfl) (fun h => ?_)
  rw [h, Bool.false_or]
  exact run_or (g := .inl) (fun h => by rw [h]; rfl) (fun h => by rw [h, Bool.false_or]; rfl)
theorem fits_g1 (a b : Int) (xs vs : List Nat) (at_ frm : Int) : (law09_fits_t4 a b xs at_ frm vs).run = some (.inl (bad1 a b xs vs at_ frm)) := by
  unfold law09_fits_t4 bad1
  rw [cutL_all, May_spec]
  refine T.nd (slOk_all xs) (T.nd rfl ?_)
  refine run_or (g := .inl) (fun h => by rw [h]; rfl) (fun h => ?_)
  rw [h, Bool.false_or]
  refine run_or (g := .inl) (fun h => by rw [h]; rfl) (fun h => ?_)
  rw [h, Bool.false_or]
  exact run_or (g := .inl) (fun h => by rw [h]; rfl) (fun h => by rw [h, Bool.false_or]; rfl)

theorem bad1_f {a b : Int} {xs vs : List Nat} {at_ frm : Int} (h : bad1 a b xs vs at_ frm = false) : mayB a b xs.length = true ∧ 0 < vs.length ∧ 0 ≤ at_ ∧ 0 ≤ frm := by
  unfold bad1 at h
  simp only [Bool.or_eq_false_iff, Bool.not_eq_false', decide_eq_false_iff_not, beq_eq_false_iff_ne, ne_eq] at h
  exact ⟨h.1, by omega, by omega, by omega⟩

theorem fits_spec {a b : Int} {xs vs : List Nat} {at_ frm rows others : Int} (hv : vs.length ≤ 1000000000) (hr : mayB a b xs.length = true → 0 ≤ rows ∧ rows ≤ 512) :
    law09_fits_F a b xs at_ frm vs rows others = some (.r0 (errF a b xs vs at_ frm rows others)) := by
  refine toX_of (seqM_in (fits_g1 a b xs vs at_ frm) ?_)
  unfold errF
  cases h : bad1 a b xs vs at_ frm with
  | true => exact seqM_out rfl
  | false =>
    obtain ⟨h1, h2, h3, h4⟩ := bad1_f h
    obtain ⟨h5, h6⟩ := hr h1
    refine seqM_in (a := bad2 vs at_ frm rows others) ?_ ?_
    · unfold law09_fits_t5 bad2
      exact T.af rfl (T.nd (by simp only [inK_i64, inB_i, leB_i, ltB_iff, leN_iff, slOk_iff, ble_iff, blt_iff, decide_eq_true_eq, decide_eq_false_iff_not, beq_iff_eq, beq_eq_false_iff_ne, bne_iff_ne, bne_eq_false_iff_eq, Bool.not_eq_true', Bool.not_eq_false', List.length_set, ne_eq, ge_iff_le, gt_iff_lt, setF_len, toNat_cast, lenOk]; omega) (run_or (g := .inl) (fun h => by rw [h]; rfl) (fun h => by rw [h, Bool.false_or]; rfl)))
    · cases bad2 vs at_ frm rows others <;> rfl

theorem Left_err {a b : Int} {xs vs : List Nat} {at_ frm : Int} {tau : Nat} (hv : vs.length ≤ 1000000000) (he : errF a b xs vs at_ frm a b ≠ 0) : reflect_Left_F a b xs at_ frm vs tau = some (.r0 (errF a b xs vs at_ frm a b)) := by
  refine toX_of (seqM_in (Left_g1 a b xs vs at_ frm) ?_)
  unfold errF at he ⊢
  cases h : bad1 a b xs vs at_ frm with
  | true => exact seqM_out rfl
  | false =>
    obtain ⟨h1, h2, h3, h4⟩ := bad1_f h
    obtain ⟨h5, h6, _⟩ := may_true h1
    refine seqM_in (a := bad2 vs at_ frm a b) ?_ ?_
    · unfold reflect_Left_t28 bad2
      exact T.af rfl (T.nd (by simp only [inK_i64, inB_i, leB_i, ltB_iff, leN_iff, slOk_iff, ble_iff, blt_iff, decide_eq_true_eq, decide_eq_false_iff_not, beq_iff_eq, beq_eq_false_iff_ne, bne_iff_ne, bne_eq_false_iff_eq, Bool.not_eq_true', Bool.not_eq_false', List.length_set, ne_eq, ge_iff_le, gt_iff_lt, setF_len, toNat_cast, lenOk]; omega) (run_or (g := .inl) (fun h => by rw [h]; rfl) (fun h => by rw [h, Bool.false_or]; rfl)))
    · rw [h] at he
      cases h2 : bad2 vs at_ frm a b with
      | true => exact seqM_out rfl
      | false => rw [h2] at he; exact (he rfl).elim
theorem Right_err {a b : Int} {xs vs : List Nat} {at_ frm : Int} {tau : Nat} (hv : vs.length ≤ 1000000000) (he : errF a b xs vs at_ frm b a ≠ 0) : reflect_Right_F a b xs at_ frm vs tau = some (.r0 (errF a b xs vs at_ frm b a)) := by
  refine toX_of (seqM_in (Right_g1 a b xs vs at_ frm) ?_)
  unfold errF at he ⊢
  cases h : bad1 a b xs vs at_ frm with
  | true => exact seqM_out rfl
  | false =>
    obtain ⟨h1, h2, h3, h4⟩ := bad1_f h
    obtain ⟨_, _, h5, h6, _⟩ := may_true h1
    refine seqM_in (a := bad2 vs at_ frm b a) ?_ ?_
    · unfold reflect_Right_t28 bad2
      exact T.af rfl (T.nd (by simp only [inK_i64, inB_i, leB_i, ltB_iff, leN_iff, slOk_iff, ble_iff, blt_iff, decide_eq_true_eq, decide_eq_false_iff_not, beq_iff_eq, beq_eq_false_iff_ne, bne_iff_ne, bne_eq_false_iff_eq, Bool.not_eq_true', Bool.not_eq_false', List.length_set, ne_eq, ge_iff_le, gt_iff_lt, setF_len, toNat_cast, lenOk]; omega) (run_or (g := .inl) (fun h => by rw [h]; rfl) (fun h => by rw [h, Bool.false_or]; rfl)))
    · rw [h] at he
      cases h2 : bad2 vs at_ frm b a with
      | true => exact seqM_out rfl
      | false => rw [h2] at he; exact (he rfl).elim

theorem err_0 {a b : Int} {xs vs : List Nat} {at_ frm rows others : Int} (h : errF a b xs vs at_ frm rows others = 0) : bad1 a b xs vs at_ frm = false ∧ at_ ≤ rows - vs.length ∧ frm ≤ others := by
  unfold errF at h
  cases h1 : bad1 a b xs vs at_ frm with
  | true => rw [h1] at h; cases h
  | false =>
    rw [h1] at h
    cases h2 : bad2 vs at_ frm rows others with
    | true => rw [h2] at h; cases h
    | false =>
      unfold bad2 at h2
      simp only [Bool.or_eq_false_iff, decide_eq_false_iff_not] at h2
      exact ⟨rfl, by omega, by omega⟩

theorem nat_of {a : Int} (h : 0 ≤ a) : ∃ n : Nat, a = (n : Int) := ⟨a.toNat, by omega⟩

/-- Where all fits, the program's rows are the document's. -/
theorem Left_both {a b : Int} {xs vs : List Nat} {at_ frm : Int} {tau : Nat} (he : errF a b xs vs at_ frm a b = 0) :
    ∃ l : List Nat, l.length = xs.length ∧ reflect_Left_F a b xs at_ frm vs tau = some (.r1 a b xs.length l) ∧ ref09_Left_F a b xs at_ frm vs tau = some (.r0 a b xs.length l) := by
  obtain ⟨h1, h2, h3⟩ := err_0 he
  obtain ⟨h4, h5, h6, h7⟩ := bad1_f h1
  obtain ⟨m1, m2, m3, m4, m5⟩ := may_true h4
  obtain ⟨r, rfl⟩ := nat_of m1
  obtain ⟨c, rfl⟩ := nat_of m3
  obtain ⟨p, rfl⟩ := nat_of h6
  obtain ⟨f, rfl⟩ := nat_of h7
  have hx : xs.length = r * c := by rw [← Int.natCast_mul] at m5; omega
  exact ⟨_, rflF_len, Left_spec hx (by omega) (by omega) h5 (by omega) (by omega), Left9_spec hx (by omega) (by omega) (by omega) (by omega)⟩
theorem Right_both {a b : Int} {xs vs : List Nat} {at_ frm : Int} {tau : Nat} (he : errF a b xs vs at_ frm b a = 0) :
    ∃ l : List Nat, l.length = xs.length ∧ reflect_Right_F a b xs at_ frm vs tau = some (.r1 a b xs.length l) ∧ ref09_Right_F a b xs at_ frm vs tau = some (.r0 a b xs.length l) := by
  obtain ⟨h1, h2, h3⟩ := err_0 he
  obtain ⟨h4, h5, h6, h7⟩ := bad1_f h1
  obtain ⟨m1, m2, m3, m4, m5⟩ := may_true h4
  obtain ⟨r, rfl⟩ := nat_of m1
  obtain ⟨c, rfl⟩ := nat_of m3
  obtain ⟨p, rfl⟩ := nat_of h6
  obtain ⟨f, rfl⟩ := nat_of h7
  have hx : xs.length = r * c := by rw [← Int.natCast_mul] at m5; omega
  exact ⟨_, rflF_len, Right_spec hx (by omega) (by omega) h5 (by omega) (by omega), Right9_spec hx (by omega) (by omega) (by omega) (by omega)⟩

theorem Same0 : ref09_Same_F 0 0 ([] : List Nat) 0 0 [] = some (.r0 true) := Same_spec (by simp)

theorem neI_self (e : Nat) : ((e : Int) != (e : Int)) = false := by simp
theorem eq0_t {e : Nat} (h : e = 0) : ((e : Int) == (0 : Int)) = true := by subst h; rfl
theorem eq0_f {e : Nat} (h : e ≠ 0) : ((e : Int) == (0 : Int)) = false := by rw [beq_eq_false_iff_ne]; omega
theorem ne0_f {e : Nat} (h : e = 0) : ((e : Int) != (0 : Int)) = false := by subst h; rfl
theorem ne0_t {e : Nat} (h : e ≠ 0) : ((e : Int) != (0 : Int)) = true := by rw [bne_iff_ne]; omega

/-- What the two told of rows, and of columns. -/
theorem turns_t14 {a b : Int} {xs vs : List Nat} {at_ frm : Int} {tau : Nat} {e : Nat} {i3 i4 : Int} {a5 : Nat} {l7 : List Nat}
    (h : (e ≠ 0 ∧ i3 = 0 ∧ i4 = 0 ∧ a5 = 0 ∧ l7 = []) ∨ (e = 0 ∧ i3 = a ∧ i4 = b ∧ a5 = xs.length ∧ l7.length = xs.length ∧ xs.length ≤ 1000000000 ∧ ref09_Left_F a b xs at_ frm vs tau = some (.r0 a b xs.length l7))) :
    (law09_ReflectTurns_t14 a b xs at_ frm vs tau i3 i4 a5 l7 e false).run = some (.inl false) := by
  unfold law09_ReflectTurns_t14
  rw [cutL_all, cutL_all]
  rcases h with ⟨h, rfl, rfl, rfl, rfl⟩ | ⟨h, rfl, rfl, rfl, hl, hx, hL⟩
  · refine T.af rfl (T.af (eq0_f h) (T.at (ne0_t h) ?_))
    rw [cutL_nil, Same0]
    exact T.nd rfl (T.nd rfl rfl)
  · rw [hL]
    refine T.af rfl (T.at (eq0_t h) ?_)
    simp only [ref09_Left_p0_0, ref09_Left_p0_1, ref09_Left_p0_2, ref09_Left_p0_3]
    rw [← hl, cutL_all, Same_spec (by omega)]
    exact T.nd (by simp only [inK_i64, inB_i, leB_i, ltB_iff, leN_iff, slOk_iff, ble_iff, blt_iff, decide_eq_true_eq, decide_eq_false_iff_not, beq_iff_eq, beq_eq_false_iff_ne, bne_iff_ne, bne_eq_false_iff_eq, Bool.not_eq_true', Bool.not_eq_false', List.length_set, ne_eq, ge_iff_le, gt_iff_lt, setF_len, toNat_cast, lenOk]; omega) (T.nd (slOk_all vs) (T.nd rfl (T.nd (slOk_all l7) (T.nd (slOk_all l7) (T.nd rfl (T.af rfl (T.af (ne0_f h) rfl)))))))
theorem turns_t15 {a b : Int} {xs vs : List Nat} {at_ frm : Int} {tau : Nat} {e : Nat} {i3 i4 : Int} {a5 : Nat} {l7 : List Nat}
    (h : (e ≠ 0 ∧ i3 = 0 ∧ i4 = 0 ∧ a5 = 0 ∧ l7 = []) ∨ (e = 0 ∧ i3 = a ∧ i4 = b ∧ a5 = xs.length ∧ l7.length = xs.length ∧ xs.length ≤ 1000000000 ∧ ref09_Right_F a b xs at_ frm vs tau = some (.r0 a b xs.length l7))) :
    (law09_ReflectTurns_t15 a b xs at_ frm vs tau i3 i4 a5 l7 e false).run = some (.inl false) := by
  unfold law09_ReflectTurns_t15
  rw [cutL_all, cutL_all]
  rcases h with ⟨h, rfl, rfl, rfl, rfl⟩ | ⟨h, rfl, rfl, rfl, hl, hx, hL⟩
  · refine T.af rfl (T.af (eq0_f h) (T.at (ne0_t h) ?_))
    rw [cutL_nil, Same0]
    exact T.nd rfl (T.nd rfl rfl)
  · rw [hL]
    refine T.af rfl (T.at (eq0_t h) ?_)
    simp only [ref09_Right_p0_0, ref09_Right_p0_1, ref09_Right_p0_2, ref09_Right_p0_3]
    rw [← hl, cutL_all, Same_spec (by omega)]
    exact T.nd (by simp only [inK_i64, inB_i, leB_i, ltB_iff, leN_iff, slOk_iff, ble_iff, blt_iff, decide_eq_true_eq, decide_eq_false_iff_not, beq_iff_eq, beq_eq_false_iff_ne, bne_iff_ne, bne_eq_false_iff_eq, Bool.not_eq_true', Bool.not_eq_false', List.length_set, ne_eq, ge_iff_le, gt_iff_lt, setF_len, toNat_cast, lenOk]; omega) (T.nd (slOk_all vs) (T.nd rfl (T.nd (slOk_all l7) (T.nd (slOk_all l7) (T.nd rfl (T.af rfl (T.af (ne0_f h) rfl)))))))

theorem ReflectTurns_spec (a b : Int) (xs : List Nat) (at_ frm : Int) (vs : List Nat) (tau : Nat) : law09_ReflectTurns_F a b xs at_ frm vs tau = some (.r0 true) := by
  refine toX_of ?_
  by_cases hx : xs.length ≤ 400
  case neg =>
    refine seqM_in (a := true) ?_ (seqM_out ?_)
    · unfold law09_ReflectTurns_t9
      exact T.at (by simp only [Bool.not_eq_true', decide_eq_false_iff_not]; omega) rfl
    · unfold law09_ReflectTurns_t10; exact T.at rfl rfl
  by_cases hv : vs.length ≤ 600
  case neg =>
    refine seqM_in (a := true) ?_ (seqM_out ?_)
    · unfold law09_ReflectTurns_t9
      exact T.af (by simp only [Bool.not_eq_false', decide_eq_true_eq]; omega) (by rw [decide_eq_true (by omega)]; rfl)
    · unfold law09_ReflectTurns_t10; exact T.at rfl rfl
  -- rows
  obtain ⟨e, i3, i4, a5, l7, h10, hc⟩ : ∃ (e : Nat) (i3 i4 : Int) (a5 : Nat) (l7 : List Nat), (law09_ReflectTurns_t10 a b xs at_ frm vs tau false).run = some (.inl (e, i3, i4, a5, xs, l7)) ∧ e = errF a b xs vs at_ frm a b ∧
      ((e ≠ 0 ∧ i3 = 0 ∧ i4 = 0 ∧ a5 = 0 ∧ l7 = []) ∨ (e = 0 ∧ i3 = a ∧ i4 = b ∧ a5 = xs.length ∧ l7.length = xs.length ∧ xs.length ≤ 1000000000 ∧ ref09_Left_F a b xs at_ frm vs tau = some (.r0 a b xs.length l7))) := by
    unfold law09_ReflectTurns_t10
    rw [cutL_all, cutL_all, List.take_length]
    by_cases he : errF a b xs vs at_ frm a b = 0
    · obtain ⟨l, q1, q2, q3⟩ := Left_both (tau := tau) he
      rw [q2]
      exact ⟨_, _, _, _, _, T.af rfl (T.nd (by simp only [inK_i64, inB_i, leB_i, ltB_iff, leN_iff, slOk_iff, ble_iff, blt_iff, decide_eq_true_eq, decide_eq_false_iff_not, beq_iff_eq, beq_eq_false_iff_ne, bne_iff_ne, bne_eq_false_iff_eq, Bool.not_eq_true', Bool.not_eq_false', List.length_set, ne_eq, ge_iff_le, gt_iff_lt, setF_len, toNat_cast, lenOk]; omega) (T.nd (by simp only [inK_i64, inB_i, leB_i, ltB_iff, leN_iff, slOk_iff, ble_iff, blt_iff, decide_eq_true_eq, decide_eq_false_iff_not, beq_iff_eq, beq_eq_false_iff_ne, bne_iff_ne, bne_eq_false_iff_eq, Bool.not_eq_true', Bool.not_eq_false', List.length_set, ne_eq, ge_iff_le, gt_iff_lt, setF_len, toNat_cast, lenOk]; omega) (T.nd (by simp only [inK_i64, inB_i, leB_i, ltB_iff, leN_iff, slOk_iff, ble_iff, blt_iff, decide_eq_true_eq, decide_eq_false_iff_not, beq_iff_eq, beq_eq_false_iff_ne, bne_iff_ne, bne_eq_false_iff_eq, Bool.not_eq_true', Bool.not_eq_false', List.length_set, ne_eq, ge_iff_le, gt_iff_lt, setF_len, toNat_cast, lenOk]; omega) (T.a1 (by simp only [T.run, reflect_Left_i0, cond_false]; cases slOk 0 xs.length xs <;> cases slOk 0 vs.length vs <;> rfl) (T.a0 (T.nd (slOk_all xs) (T.nd (slOk_all vs) (T.nd rfl rfl)))))))), he.symm, .inr ⟨rfl, rfl, rfl, rfl, q1, by omega, q3⟩⟩
    · rw [Left_err (by omega) he]
      exact ⟨_, _, _, _, _, T.af rfl (T.nd (by simp only [inK_i64, inB_i, leB_i, ltB_iff, leN_iff, slOk_iff, ble_iff, blt_iff, decide_eq_true_eq, decide_eq_false_iff_not, beq_iff_eq, beq_eq_false_iff_ne, bne_iff_ne, bne_eq_false_iff_eq, Bool.not_eq_true', Bool.not_eq_false', List.length_set, ne_eq, ge_iff_le, gt_iff_lt, setF_len, toNat_cast, lenOk]; omega) (T.nd (by simp only [inK_i64, inB_i, leB_i, ltB_iff, leN_iff, slOk_iff, ble_iff, blt_iff, decide_eq_true_eq, decide_eq_false_iff_not, beq_iff_eq, beq_eq_false_iff_ne, bne_iff_ne, bne_eq_false_iff_eq, Bool.not_eq_true', Bool.not_eq_false', List.length_set, ne_eq, ge_iff_le, gt_iff_lt, setF_len, toNat_cast, lenOk]; omega) (T.nd (by simp only [inK_i64, inB_i, leB_i, ltB_iff, leN_iff, slOk_iff, ble_iff, blt_iff, decide_eq_true_eq, decide_eq_false_iff_not, beq_iff_eq, beq_eq_false_iff_ne, bne_iff_ne, bne_eq_false_iff_eq, Bool.not_eq_true', Bool.not_eq_false', List.length_set, ne_eq, ge_iff_le, gt_iff_lt, setF_len, toNat_cast, lenOk]; omega) (T.a0 (T.nd (slOk_all xs) (T.nd (slOk_all vs) (T.nd rfl rfl))))))), rfl, .inl ⟨he, rfl, rfl, rfl, rfl⟩⟩
  obtain ⟨f, i9, i10, a11, l12, h11, hd⟩ : ∃ (e : Nat) (i3 i4 : Int) (a5 : Nat) (l7 : List Nat), (law09_ReflectTurns_t11 a b xs at_ frm vs tau).run = some (.inl (e, i3, i4, a5, l7)) ∧ e = errF a b xs vs at_ frm b a ∧
      ((e ≠ 0 ∧ i3 = 0 ∧ i4 = 0 ∧ a5 = 0 ∧ l7 = []) ∨ (e = 0 ∧ i3 = a ∧ i4 = b ∧ a5 = xs.length ∧ l7.length = xs.length ∧ xs.length ≤ 1000000000 ∧ ref09_Right_F a b xs at_ frm vs tau = some (.r0 a b xs.length l7))) := by
    unfold law09_ReflectTurns_t11
    rw [cutL_all, cutL_all]
    by_cases he : errF a b xs vs at_ frm b a = 0
    · obtain ⟨l, q1, q2, q3⟩ := Right_both (tau := tau) he
      rw [q2]
      exact ⟨_, _, _, _, _, T.a1 (by simp only [T.run, reflect_Right_i0, cond_false]; cases slOk 0 xs.length xs <;> cases slOk 0 vs.length vs <;> rfl) (T.a0 (T.nd (slOk_all xs) (T.nd (slOk_all vs) (T.nd rfl rfl)))), he.symm, .inr ⟨rfl, rfl, rfl, rfl, q1, by omega, q3⟩⟩
    · rw [Right_err (by omega) he]
      exact ⟨_, _, _, _, _, T.a0 (T.nd (slOk_all xs) (T.nd (slOk_all vs) (T.nd rfl rfl))), rfl, .inl ⟨he, rfl, rfl, rfl, rfl⟩⟩
  obtain ⟨he, hc⟩ := hc
  obtain ⟨hf, hd⟩ := hd
  refine seqM_in (a := false) ?_ (seqM_in h10 (seqM_in h11 (seqM_in (a := (e, f)) ?_ (seqM_in (a := false) ?_ (seqM_in (turns_t14 hc) (seqM_in (turns_t15 hd) rfl))))))
  · unfold law09_ReflectTurns_t9
    exact T.af (by simp only [Bool.not_eq_false', decide_eq_true_eq]; omega) (by rw [decide_eq_false (by omega)]; rfl)
  · unfold law09_ReflectTurns_t12
    rw [cutL_all, cutL_all, fits_spec (by omega) (fun h => ⟨(may_true h).1, (may_true h).2.1⟩), fits_spec (by omega) (fun h => ⟨(may_true h).2.2.1, (may_true h).2.2.2.1⟩), ← he, ← hf]
    exact T.nd (slOk_all xs) (T.nd (slOk_all vs) (T.nd rfl (T.nd (slOk_all xs) (T.nd (slOk_all vs) (T.nd rfl rfl)))))
  · unfold law09_ReflectTurns_t13
    rw [cutL_all, Same_spec (by omega)]
    exact T.af (neI_self e) (T.af (neI_self f) (T.nd (slOk_all xs) (T.nd (slOk_all xs) (T.nd rfl rfl))))
end Go.Plb.Seat

/-
  PLAIN: several reflections: alike, and their factor.
-/
namespace Go.Plb.Seat
open Go Go.Plb
set_option linter.unusedSimpArgs false
set_option linter.unusedVariables false

theorem set_len {α : Type} {l : List α} {i : Nat} {v : α} : (l.set i v).length = l.length := by simp

/-- How many entries all have, as ints go round. -/
def totW (ls : List (List Nat)) : Nat → Int
  | 0 => 0
  | n + 1 => IntKind.i64.wrap (totW ls n + (((ls.getD n []).length : Nat) : Int))

theorem total_spec {ls : List (List Nat)} (hn : ls.length ≤ 1000) : law09_total_F ls.length ls = some (.r0 (totW ls ls.length)) := by
  refine toX_of (seqM_in rfl (seqM_in (loopM_at (fun j => (totW ls j, (j : Int))) ls.length rfl (fun j hj => ?_) ?_) rfl))
  · show (law09_total_t10 _ _ _ _).run = _
    unfold law09_total_t10
    have e : IntKind.i64.wrap ((j : Int) + 1) = ((j + 1 : Nat) : Int) := by rw [wrap_inK (by rw [inK_i64]; omega)]; rfl
    rw [toNat_cast, e]
    exact T.at (by simp only [inK_i64, inB_i, leB_i, ltB_iff, leN_iff, slOk_iff, ble_iff, blt_iff, decide_eq_true_eq, decide_eq_false_iff_not, beq_iff_eq, beq_eq_false_iff_ne, bne_iff_ne, bne_eq_false_iff_eq, Bool.not_eq_true', Bool.not_eq_false', List.length_set, ne_eq, ge_iff_le, gt_iff_lt, setF_len, toNat_cast, lenOk]; omega) (T.nd (by simp only [inK_i64, inB_i, leB_i, ltB_iff, leN_iff, slOk_iff, ble_iff, blt_iff, decide_eq_true_eq, decide_eq_false_iff_not, beq_iff_eq, beq_eq_false_iff_ne, bne_iff_ne, bne_eq_false_iff_eq, Bool.not_eq_true', Bool.not_eq_false', List.length_set, ne_eq, ge_iff_le, gt_iff_lt, setF_len, toNat_cast, lenOk]; omega) (T.nd (by simp only [inK_i64, inB_i, leB_i, ltB_iff, leN_iff, slOk_iff, ble_iff, blt_iff, decide_eq_true_eq, decide_eq_false_iff_not, beq_iff_eq, beq_eq_false_iff_ne, bne_iff_ne, bne_eq_false_iff_eq, Bool.not_eq_true', Bool.not_eq_false', List.length_set, ne_eq, ge_iff_le, gt_iff_lt, setF_len, toNat_cast, lenOk]; omega) rfl))
  · exact T.af (by simp only [inK_i64, inB_i, leB_i, ltB_iff, leN_iff, slOk_iff, ble_iff, blt_iff, decide_eq_true_eq, decide_eq_false_iff_not, beq_iff_eq, beq_eq_false_iff_ne, bne_iff_ne, bne_eq_false_iff_eq, Bool.not_eq_true', Bool.not_eq_false', List.length_set, ne_eq, ge_iff_le, gt_iff_lt, setF_len, toNat_cast, lenOk]; omega) rfl

/-- All of one length, that is not 0, and there are some. -/
def AlikeP (ls : List (List Nat)) : Prop := 0 < ls.length ∧ 0 < (ls.getD 0 []).length ∧ ∀ i, i < ls.length → (ls.getD i []).length = (ls.getD 0 []).length

theorem IndexF_t {ls : List (List Nat)} {ts : List Nat} (hn : ls.length ≤ 1000) (ht : ts.length = ls.length) (h0 : 0 < ls.length) (h : ∀ i, i < ls.length → (ls.getD i []).length = (ls.getD 0 []).length) :
    slices_IndexFunc_F ls.length ls ts ls.length ls = some (.r0 (-1)) := by
  refine toX_of (seqM_in rfl (seqM_in (a := ()) (loopM_at (fun j => j) ls.length rfl (fun j hj => ?_) ?_) rfl))
  · show (slices_IndexFunc_t9 _ _ _ _ _ _).run = _
    have := h j hj
    exact T.at (by simp only [inK_i64, inB_i, leB_i, ltB_iff, leN_iff, slOk_iff, ble_iff, blt_iff, decide_eq_true_eq, decide_eq_false_iff_not, beq_iff_eq, beq_eq_false_iff_ne, bne_iff_ne, bne_eq_false_iff_eq, Bool.not_eq_true', Bool.not_eq_false', List.length_set, ne_eq, ge_iff_le, gt_iff_lt, setF_len, toNat_cast, lenOk]; omega) (T.nd (by simp only [inK_i64, inB_i, leB_i, ltB_iff, leN_iff, slOk_iff, ble_iff, blt_iff, decide_eq_true_eq, decide_eq_false_iff_not, beq_iff_eq, beq_eq_false_iff_ne, bne_iff_ne, bne_eq_false_iff_eq, Bool.not_eq_true', Bool.not_eq_false', List.length_set, ne_eq, ge_iff_le, gt_iff_lt, setF_len, toNat_cast, lenOk]; omega) (T.nd (by simp only [inK_i64, inB_i, leB_i, ltB_iff, leN_iff, slOk_iff, ble_iff, blt_iff, decide_eq_true_eq, decide_eq_false_iff_not, beq_iff_eq, beq_eq_false_iff_ne, bne_iff_ne, bne_eq_false_iff_eq, Bool.not_eq_true', Bool.not_eq_false', List.length_set, ne_eq, ge_iff_le, gt_iff_lt, setF_len, toNat_cast, lenOk]; omega) (T.nd (by simp only [inK_i64, inB_i, leB_i, ltB_iff, leN_iff, slOk_iff, ble_iff, blt_iff, decide_eq_true_eq, decide_eq_false_iff_not, beq_iff_eq, beq_eq_false_iff_ne, bne_iff_ne, bne_eq_false_iff_eq, Bool.not_eq_true', Bool.not_eq_false', List.length_set, ne_eq, ge_iff_le, gt_iff_lt, setF_len, toNat_cast, lenOk]; omega) (T.nd (by simp only [inK_i64, inB_i, leB_i, ltB_iff, leN_iff, slOk_iff, ble_iff, blt_iff, decide_eq_true_eq, decide_eq_false_iff_not, beq_iff_eq, beq_eq_false_iff_ne, bne_iff_ne, bne_eq_false_iff_eq, Bool.not_eq_true', Bool.not_eq_false', List.length_set, ne_eq, ge_iff_le, gt_iff_lt, setF_len, toNat_cast, lenOk]; omega) (T.nd (by simp only [inK_i64, inB_i, leB_i, ltB_iff, leN_iff, slOk_iff, ble_iff, blt_iff, decide_eq_true_eq, decide_eq_false_iff_not, beq_iff_eq, beq_eq_false_iff_ne, bne_iff_ne, bne_eq_false_iff_eq, Bool.not_eq_true', Bool.not_eq_false', List.length_set, ne_eq, ge_iff_le, gt_iff_lt, setF_len, toNat_cast, lenOk]; omega) (T.af (by simp only [inK_i64, inB_i, leB_i, ltB_iff, leN_iff, slOk_iff, ble_iff, blt_iff, decide_eq_true_eq, decide_eq_false_iff_not, beq_iff_eq, beq_eq_false_iff_ne, bne_iff_ne, bne_eq_false_iff_eq, Bool.not_eq_true', Bool.not_eq_false', List.length_set, ne_eq, ge_iff_le, gt_iff_lt, setF_len, toNat_cast, lenOk]; omega) (T.nd (by simp only [inK_i64, inB_i, leB_i, ltB_iff, leN_iff, slOk_iff, ble_iff, blt_iff, decide_eq_true_eq, decide_eq_false_iff_not, beq_iff_eq, beq_eq_false_iff_ne, bne_iff_ne, bne_eq_false_iff_eq, Bool.not_eq_true', Bool.not_eq_false', List.length_set, ne_eq, ge_iff_le, gt_iff_lt, setF_len, toNat_cast, lenOk]; omega) rfl)))))))
  · exact T.af (by simp only [inK_i64, inB_i, leB_i, ltB_iff, leN_iff, slOk_iff, ble_iff, blt_iff, decide_eq_true_eq, decide_eq_false_iff_not, beq_iff_eq, beq_eq_false_iff_ne, bne_iff_ne, bne_eq_false_iff_eq, Bool.not_eq_true', Bool.not_eq_false', List.length_set, ne_eq, ge_iff_le, gt_iff_lt, setF_len, toNat_cast, lenOk]; omega) rfl
theorem IndexF_f {ls : List (List Nat)} {ts : List Nat} (hn : ls.length ≤ 1000) (ht : ts.length = ls.length) (h0 : 0 < ls.length) (h : ¬ ∀ i, i < ls.length → (ls.getD i []).length = (ls.getD 0 []).length) :
    ∃ k : Nat, slices_IndexFunc_F ls.length ls ts ls.length ls = some (.r0 (k : Int)) := by
  obtain ⟨k, h1, h2, h3⟩ := first_bad h
  refine ⟨k, toX_of (seqM_in rfl (seqM_out (loopM_at (fun j => j) k rfl (fun j hj => ?_) ?_)))⟩
  · show (slices_IndexFunc_t9 _ _ _ _ _ _).run = _
    have := h3 j hj
    exact T.at (by simp only [inK_i64, inB_i, leB_i, ltB_iff, leN_iff, slOk_iff, ble_iff, blt_iff, decide_eq_true_eq, decide_eq_false_iff_not, beq_iff_eq, beq_eq_false_iff_ne, bne_iff_ne, bne_eq_false_iff_eq, Bool.not_eq_true', Bool.not_eq_false', List.length_set, ne_eq, ge_iff_le, gt_iff_lt, setF_len, toNat_cast, lenOk]; omega) (T.nd (by simp only [inK_i64, inB_i, leB_i, ltB_iff, leN_iff, slOk_iff, ble_iff, blt_iff, decide_eq_true_eq, decide_eq_false_iff_not, beq_iff_eq, beq_eq_false_iff_ne, bne_iff_ne, bne_eq_false_iff_eq, Bool.not_eq_true', Bool.not_eq_false', List.length_set, ne_eq, ge_iff_le, gt_iff_lt, setF_len, toNat_cast, lenOk]; omega) (T.nd (by simp only [inK_i64, inB_i, leB_i, ltB_iff, leN_iff, slOk_iff, ble_iff, blt_iff, decide_eq_true_eq, decide_eq_false_iff_not, beq_iff_eq, beq_eq_false_iff_ne, bne_iff_ne, bne_eq_false_iff_eq, Bool.not_eq_true', Bool.not_eq_false', List.length_set, ne_eq, ge_iff_le, gt_iff_lt, setF_len, toNat_cast, lenOk]; omega) (T.nd (by simp only [inK_i64, inB_i, leB_i, ltB_iff, leN_iff, slOk_iff, ble_iff, blt_iff, decide_eq_true_eq, decide_eq_false_iff_not, beq_iff_eq, beq_eq_false_iff_ne, bne_iff_ne, bne_eq_false_iff_eq, Bool.not_eq_true', Bool.not_eq_false', List.length_set, ne_eq, ge_iff_le, gt_iff_lt, setF_len, toNat_cast, lenOk]; omega) (T.nd (by simp only [inK_i64, inB_i, leB_i, ltB_iff, leN_iff, slOk_iff, ble_iff, blt_iff, decide_eq_true_eq, decide_eq_false_iff_not, beq_iff_eq, beq_eq_false_iff_ne, bne_iff_ne, bne_eq_false_iff_eq, Bool.not_eq_true', Bool.not_eq_false', List.length_set, ne_eq, ge_iff_le, gt_iff_lt, setF_len, toNat_cast, lenOk]; omega) (T.nd (by simp only [inK_i64, inB_i, leB_i, ltB_iff, leN_iff, slOk_iff, ble_iff, blt_iff, decide_eq_true_eq, decide_eq_false_iff_not, beq_iff_eq, beq_eq_false_iff_ne, bne_iff_ne, bne_eq_false_iff_eq, Bool.not_eq_true', Bool.not_eq_false', List.length_set, ne_eq, ge_iff_le, gt_iff_lt, setF_len, toNat_cast, lenOk]; omega) (T.af (by simp only [inK_i64, inB_i, leB_i, ltB_iff, leN_iff, slOk_iff, ble_iff, blt_iff, decide_eq_true_eq, decide_eq_false_iff_not, beq_iff_eq, beq_eq_false_iff_ne, bne_iff_ne, bne_eq_false_iff_eq, Bool.not_eq_true', Bool.not_eq_false', List.length_set, ne_eq, ge_iff_le, gt_iff_lt, setF_len, toNat_cast, lenOk]; omega) (T.nd (by simp only [inK_i64, inB_i, leB_i, ltB_iff, leN_iff, slOk_iff, ble_iff, blt_iff, decide_eq_true_eq, decide_eq_false_iff_not, beq_iff_eq, beq_eq_false_iff_ne, bne_iff_ne, bne_eq_false_iff_eq, Bool.not_eq_true', Bool.not_eq_false', List.length_set, ne_eq, ge_iff_le, gt_iff_lt, setF_len, toNat_cast, lenOk]; omega) rfl)))))))
  · show (slices_IndexFunc_t9 _ _ _ _ _ _).run = _
    exact T.at (by simp only [inK_i64, inB_i, leB_i, ltB_iff, leN_iff, slOk_iff, ble_iff, blt_iff, decide_eq_true_eq, decide_eq_false_iff_not, beq_iff_eq, beq_eq_false_iff_ne, bne_iff_ne, bne_eq_false_iff_eq, Bool.not_eq_true', Bool.not_eq_false', List.length_set, ne_eq, ge_iff_le, gt_iff_lt, setF_len, toNat_cast, lenOk]; omega) (T.nd (by simp only [inK_i64, inB_i, leB_i, ltB_iff, leN_iff, slOk_iff, ble_iff, blt_iff, decide_eq_true_eq, decide_eq_false_iff_not, beq_iff_eq, beq_eq_false_iff_ne, bne_iff_ne, bne_eq_false_iff_eq, Bool.not_eq_true', Bool.not_eq_false', List.length_set, ne_eq, ge_iff_le, gt_iff_lt, setF_len, toNat_cast, lenOk]; omega) (T.nd (by simp only [inK_i64, inB_i, leB_i, ltB_iff, leN_iff, slOk_iff, ble_iff, blt_iff, decide_eq_true_eq, decide_eq_false_iff_not, beq_iff_eq, beq_eq_false_iff_ne, bne_iff_ne, bne_eq_false_iff_eq, Bool.not_eq_true', Bool.not_eq_false', List.length_set, ne_eq, ge_iff_le, gt_iff_lt, setF_len, toNat_cast, lenOk]; omega) (T.nd (by simp only [inK_i64, inB_i, leB_i, ltB_iff, leN_iff, slOk_iff, ble_iff, blt_iff, decide_eq_true_eq, decide_eq_false_iff_not, beq_iff_eq, beq_eq_false_iff_ne, bne_iff_ne, bne_eq_false_iff_eq, Bool.not_eq_true', Bool.not_eq_false', List.length_set, ne_eq, ge_iff_le, gt_iff_lt, setF_len, toNat_cast, lenOk]; omega) (T.nd (by simp only [inK_i64, inB_i, leB_i, ltB_iff, leN_iff, slOk_iff, ble_iff, blt_iff, decide_eq_true_eq, decide_eq_false_iff_not, beq_iff_eq, beq_eq_false_iff_ne, bne_iff_ne, bne_eq_false_iff_eq, Bool.not_eq_true', Bool.not_eq_false', List.length_set, ne_eq, ge_iff_le, gt_iff_lt, setF_len, toNat_cast, lenOk]; omega) (T.nd (by simp only [inK_i64, inB_i, leB_i, ltB_iff, leN_iff, slOk_iff, ble_iff, blt_iff, decide_eq_true_eq, decide_eq_false_iff_not, beq_iff_eq, beq_eq_false_iff_ne, bne_iff_ne, bne_eq_false_iff_eq, Bool.not_eq_true', Bool.not_eq_false', List.length_set, ne_eq, ge_iff_le, gt_iff_lt, setF_len, toNat_cast, lenOk]; omega) (T.at (by simp only [inK_i64, inB_i, leB_i, ltB_iff, leN_iff, slOk_iff, ble_iff, blt_iff, decide_eq_true_eq, decide_eq_false_iff_not, beq_iff_eq, beq_eq_false_iff_ne, bne_iff_ne, bne_eq_false_iff_eq, Bool.not_eq_true', Bool.not_eq_false', List.length_set, ne_eq, ge_iff_le, gt_iff_lt, setF_len, toNat_cast, lenOk]; omega) rfl))))))

theorem alike_t {ls : List (List Nat)} {ts : List Nat} (hn : ls.length ≤ 1000) (ht : ts.length = ls.length) (h : AlikeP ls) : reflect_alike_F ls.length ls ts = some (.r0 true) := by
  obtain ⟨h1, h2, h3⟩ := h
  refine toX_of (seqM_in (a := true) ?_ rfl)
  unfold reflect_alike_t3
  rw [cutL_all, cutL_to ht, IndexF_t hn ht h1 h3]
  exact T.at (by simp only [inK_i64, inB_i, leB_i, ltB_iff, leN_iff, slOk_iff, ble_iff, blt_iff, decide_eq_true_eq, decide_eq_false_iff_not, beq_iff_eq, beq_eq_false_iff_ne, bne_iff_ne, bne_eq_false_iff_eq, Bool.not_eq_true', Bool.not_eq_false', List.length_set, ne_eq, ge_iff_le, gt_iff_lt, setF_len, toNat_cast, lenOk]; omega) (T.nd (by simp only [inK_i64, inB_i, leB_i, ltB_iff, leN_iff, slOk_iff, ble_iff, blt_iff, decide_eq_true_eq, decide_eq_false_iff_not, beq_iff_eq, beq_eq_false_iff_ne, bne_iff_ne, bne_eq_false_iff_eq, Bool.not_eq_true', Bool.not_eq_false', List.length_set, ne_eq, ge_iff_le, gt_iff_lt, setF_len, toNat_cast, lenOk]; omega) (T.nd (by simp only [inK_i64, inB_i, leB_i, ltB_iff, leN_iff, slOk_iff, ble_iff, blt_iff, decide_eq_true_eq, decide_eq_false_iff_not, beq_iff_eq, beq_eq_false_iff_ne, bne_iff_ne, bne_eq_false_iff_eq, Bool.not_eq_true', Bool.not_eq_false', List.length_set, ne_eq, ge_iff_le, gt_iff_lt, setF_len, toNat_cast, lenOk]; omega) (T.at (by simp only [inK_i64, inB_i, leB_i, ltB_iff, leN_iff, slOk_iff, ble_iff, blt_iff, decide_eq_true_eq, decide_eq_false_iff_not, beq_iff_eq, beq_eq_false_iff_ne, bne_iff_ne, bne_eq_false_iff_eq, Bool.not_eq_true', Bool.not_eq_false', List.length_set, ne_eq, ge_iff_le, gt_iff_lt, setF_len, toNat_cast, lenOk]; omega) (T.nd (cut_ok _) (T.nd (cut_ok _) (T.nd rfl rfl))))))
theorem alike_f {ls : List (List Nat)} {ts : List Nat} (hn : ls.length ≤ 1000) (ht : ts.length = ls.length) (h : ¬ AlikeP ls) : reflect_alike_F ls.length ls ts = some (.r0 false) := by
  refine toX_of (seqM_in (a := false) ?_ rfl)
  unfold reflect_alike_t3
  rw [cutL_all, cutL_to ht]
  by_cases h1 : 0 < ls.length
  · by_cases h2 : 0 < (ls.getD 0 []).length
    · obtain ⟨k, hk⟩ := IndexF_f hn ht h1 fun h3 => h ⟨h1, h2, h3⟩
      rw [hk]
      refine T.at (by simp only [inK_i64, inB_i, leB_i, ltB_iff, leN_iff, slOk_iff, ble_iff, blt_iff, decide_eq_true_eq, decide_eq_false_iff_not, beq_iff_eq, beq_eq_false_iff_ne, bne_iff_ne, bne_eq_false_iff_eq, Bool.not_eq_true', Bool.not_eq_false', List.length_set, ne_eq, ge_iff_le, gt_iff_lt, setF_len, toNat_cast, lenOk]; omega) (T.nd (by simp only [inK_i64, inB_i, leB_i, ltB_iff, leN_iff, slOk_iff, ble_iff, blt_iff, decide_eq_true_eq, decide_eq_false_iff_not, beq_iff_eq, beq_eq_false_iff_ne, bne_iff_ne, bne_eq_false_iff_eq, Bool.not_eq_true', Bool.not_eq_false', List.length_set, ne_eq, ge_iff_le, gt_iff_lt, setF_len, toNat_cast, lenOk]; omega) (T.nd (by simp only [inK_i64, inB_i, leB_i, ltB_iff, leN_iff, slOk_iff, ble_iff, blt_iff, decide_eq_true_eq, decide_eq_false_iff_not, beq_iff_eq, beq_eq_false_iff_ne, bne_iff_ne, bne_eq_false_iff_eq, Bool.not_eq_true', Bool.not_eq_false', List.length_set, ne_eq, ge_iff_le, gt_iff_lt, setF_len, toNat_cast, lenOk]; omega) (T.at (by simp only [inK_i64, inB_i, leB_i, ltB_iff, leN_iff, slOk_iff, ble_iff, blt_iff, decide_eq_true_eq, decide_eq_false_iff_not, beq_iff_eq, beq_eq_false_iff_ne, bne_iff_ne, bne_eq_false_iff_eq, Bool.not_eq_true', Bool.not_eq_false', List.length_set, ne_eq, ge_iff_le, gt_iff_lt, setF_len, toNat_cast, lenOk]; omega) (T.nd (cut_ok _) (T.nd (cut_ok _) (T.nd rfl ?_))))))
      exact congrArg (fun b : Bool => (some (Sum.inl (!b)) : Option (Bool ⊕ reflect_alike_X))) (decide_eq_true (p := (k : Int) ≥ 0) (Int.natCast_nonneg k))
    · exact T.at (by simp only [inK_i64, inB_i, leB_i, ltB_iff, leN_iff, slOk_iff, ble_iff, blt_iff, decide_eq_true_eq, decide_eq_false_iff_not, beq_iff_eq, beq_eq_false_iff_ne, bne_iff_ne, bne_eq_false_iff_eq, Bool.not_eq_true', Bool.not_eq_false', List.length_set, ne_eq, ge_iff_le, gt_iff_lt, setF_len, toNat_cast, lenOk]; omega) (T.nd (by simp only [inK_i64, inB_i, leB_i, ltB_iff, leN_iff, slOk_iff, ble_iff, blt_iff, decide_eq_true_eq, decide_eq_false_iff_not, beq_iff_eq, beq_eq_false_iff_ne, bne_iff_ne, bne_eq_false_iff_eq, Bool.not_eq_true', Bool.not_eq_false', List.length_set, ne_eq, ge_iff_le, gt_iff_lt, setF_len, toNat_cast, lenOk]; omega) (T.nd (by simp only [inK_i64, inB_i, leB_i, ltB_iff, leN_iff, slOk_iff, ble_iff, blt_iff, decide_eq_true_eq, decide_eq_false_iff_not, beq_iff_eq, beq_eq_false_iff_ne, bne_iff_ne, bne_eq_false_iff_eq, Bool.not_eq_true', Bool.not_eq_false', List.length_set, ne_eq, ge_iff_le, gt_iff_lt, setF_len, toNat_cast, lenOk]; omega) (T.af (by simp only [inK_i64, inB_i, leB_i, ltB_iff, leN_iff, slOk_iff, ble_iff, blt_iff, decide_eq_true_eq, decide_eq_false_iff_not, beq_iff_eq, beq_eq_false_iff_ne, bne_iff_ne, bne_eq_false_iff_eq, Bool.not_eq_true', Bool.not_eq_false', List.length_set, ne_eq, ge_iff_le, gt_iff_lt, setF_len, toNat_cast, lenOk]; omega) rfl)))
  · exact T.af (by simp only [inK_i64, inB_i, leB_i, ltB_iff, leN_iff, slOk_iff, ble_iff, blt_iff, decide_eq_true_eq, decide_eq_false_iff_not, beq_iff_eq, beq_eq_false_iff_ne, bne_iff_ne, bne_eq_false_iff_eq, Bool.not_eq_true', Bool.not_eq_false', List.length_set, ne_eq, ge_iff_le, gt_iff_lt, setF_len, toNat_cast, lenOk]; omega) rfl

theorem Alike9_t {ls : List (List Nat)} (hn : ls.length ≤ 500) (h : AlikeP ls) : ref09_Alike_F ls.length ls = some (.r0 true) := by
  obtain ⟨h1, h2, h3⟩ := h
  refine toX_of (seqM_in rfl (seqM_in (a := ()) (loopM_at (fun j => j) ls.length rfl (fun j hj => ?_) ?_) (seqM_in (a := true) ?_ rfl)))
  · show (ref09_Alike_t10 _ _ _).run = _
    have := h3 j hj
    exact T.at (by simp only [inK_i64, inB_i, leB_i, ltB_iff, leN_iff, slOk_iff, ble_iff, blt_iff, decide_eq_true_eq, decide_eq_false_iff_not, beq_iff_eq, beq_eq_false_iff_ne, bne_iff_ne, bne_eq_false_iff_eq, Bool.not_eq_true', Bool.not_eq_false', List.length_set, ne_eq, ge_iff_le, gt_iff_lt, setF_len, toNat_cast, lenOk]; omega) (T.nd (by simp only [inK_i64, inB_i, leB_i, ltB_iff, leN_iff, slOk_iff, ble_iff, blt_iff, decide_eq_true_eq, decide_eq_false_iff_not, beq_iff_eq, beq_eq_false_iff_ne, bne_iff_ne, bne_eq_false_iff_eq, Bool.not_eq_true', Bool.not_eq_false', List.length_set, ne_eq, ge_iff_le, gt_iff_lt, setF_len, toNat_cast, lenOk]; omega) (T.nd (by simp only [inK_i64, inB_i, leB_i, ltB_iff, leN_iff, slOk_iff, ble_iff, blt_iff, decide_eq_true_eq, decide_eq_false_iff_not, beq_iff_eq, beq_eq_false_iff_ne, bne_iff_ne, bne_eq_false_iff_eq, Bool.not_eq_true', Bool.not_eq_false', List.length_set, ne_eq, ge_iff_le, gt_iff_lt, setF_len, toNat_cast, lenOk]; omega) (T.af (by simp only [inK_i64, inB_i, leB_i, ltB_iff, leN_iff, slOk_iff, ble_iff, blt_iff, decide_eq_true_eq, decide_eq_false_iff_not, beq_iff_eq, beq_eq_false_iff_ne, bne_iff_ne, bne_eq_false_iff_eq, Bool.not_eq_true', Bool.not_eq_false', List.length_set, ne_eq, ge_iff_le, gt_iff_lt, setF_len, toNat_cast, lenOk]; omega) (T.nd (by simp only [inK_i64, inB_i, leB_i, ltB_iff, leN_iff, slOk_iff, ble_iff, blt_iff, decide_eq_true_eq, decide_eq_false_iff_not, beq_iff_eq, beq_eq_false_iff_ne, bne_iff_ne, bne_eq_false_iff_eq, Bool.not_eq_true', Bool.not_eq_false', List.length_set, ne_eq, ge_iff_le, gt_iff_lt, setF_len, toNat_cast, lenOk]; omega) (T.nd (by simp only [inK_i64, inB_i, leB_i, ltB_iff, leN_iff, slOk_iff, ble_iff, blt_iff, decide_eq_true_eq, decide_eq_false_iff_not, beq_iff_eq, beq_eq_false_iff_ne, bne_iff_ne, bne_eq_false_iff_eq, Bool.not_eq_true', Bool.not_eq_false', List.length_set, ne_eq, ge_iff_le, gt_iff_lt, setF_len, toNat_cast, lenOk]; omega) (T.nd (by simp only [inK_i64, inB_i, leB_i, ltB_iff, leN_iff, slOk_iff, ble_iff, blt_iff, decide_eq_true_eq, decide_eq_false_iff_not, beq_iff_eq, beq_eq_false_iff_ne, bne_iff_ne, bne_eq_false_iff_eq, Bool.not_eq_true', Bool.not_eq_false', List.length_set, ne_eq, ge_iff_le, gt_iff_lt, setF_len, toNat_cast, lenOk]; omega) (T.nd (by simp only [inK_i64, inB_i, leB_i, ltB_iff, leN_iff, slOk_iff, ble_iff, blt_iff, decide_eq_true_eq, decide_eq_false_iff_not, beq_iff_eq, beq_eq_false_iff_ne, bne_iff_ne, bne_eq_false_iff_eq, Bool.not_eq_true', Bool.not_eq_false', List.length_set, ne_eq, ge_iff_le, gt_iff_lt, setF_len, toNat_cast, lenOk]; omega) (T.af (by simp only [inK_i64, inB_i, leB_i, ltB_iff, leN_iff, slOk_iff, ble_iff, blt_iff, decide_eq_true_eq, decide_eq_false_iff_not, beq_iff_eq, beq_eq_false_iff_ne, bne_iff_ne, bne_eq_false_iff_eq, Bool.not_eq_true', Bool.not_eq_false', List.length_set, ne_eq, ge_iff_le, gt_iff_lt, setF_len, toNat_cast, lenOk]; omega) (T.nd (by simp only [inK_i64, inB_i, leB_i, ltB_iff, leN_iff, slOk_iff, ble_iff, blt_iff, decide_eq_true_eq, decide_eq_false_iff_not, beq_iff_eq, beq_eq_false_iff_ne, bne_iff_ne, bne_eq_false_iff_eq, Bool.not_eq_true', Bool.not_eq_false', List.length_set, ne_eq, ge_iff_le, gt_iff_lt, setF_len, toNat_cast, lenOk]; omega) rfl)))))))))
  · exact T.af (by simp only [inK_i64, inB_i, leB_i, ltB_iff, leN_iff, slOk_iff, ble_iff, blt_iff, decide_eq_true_eq, decide_eq_false_iff_not, beq_iff_eq, beq_eq_false_iff_ne, bne_iff_ne, bne_eq_false_iff_eq, Bool.not_eq_true', Bool.not_eq_false', List.length_set, ne_eq, ge_iff_le, gt_iff_lt, setF_len, toNat_cast, lenOk]; omega) rfl
  · exact T.at (by simp only [inK_i64, inB_i, leB_i, ltB_iff, leN_iff, slOk_iff, ble_iff, blt_iff, decide_eq_true_eq, decide_eq_false_iff_not, beq_iff_eq, beq_eq_false_iff_ne, bne_iff_ne, bne_eq_false_iff_eq, Bool.not_eq_true', Bool.not_eq_false', List.length_set, ne_eq, ge_iff_le, gt_iff_lt, setF_len, toNat_cast, lenOk]; omega) (by rw [decide_eq_true (by omega)]; rfl)
theorem Alike9_f {ls : List (List Nat)} (hn : ls.length ≤ 500) (h : ¬ AlikeP ls) : ref09_Alike_F ls.length ls = some (.r0 false) := by
  by_cases h1 : 0 < ls.length
  · have hb : ¬ ∀ i, i < ls.length → ¬ (ls.getD i []).length = 0 ∧ (ls.getD i []).length = (ls.getD 0 []).length := fun q =>
      h ⟨h1, by have := (q 0 h1).1; omega, fun i hi => (q i hi).2⟩
    obtain ⟨k, k1, k2, k3⟩ := first_bad hb
    refine toX_of (seqM_in rfl (seqM_out (loopM_at (fun j => j) k rfl (fun j hj => ?_) ?_)))
    · show (ref09_Alike_t10 _ _ _).run = _
      have := k3 j hj
      exact T.at (by simp only [inK_i64, inB_i, leB_i, ltB_iff, leN_iff, slOk_iff, ble_iff, blt_iff, decide_eq_true_eq, decide_eq_false_iff_not, beq_iff_eq, beq_eq_false_iff_ne, bne_iff_ne, bne_eq_false_iff_eq, Bool.not_eq_true', Bool.not_eq_false', List.length_set, ne_eq, ge_iff_le, gt_iff_lt, setF_len, toNat_cast, lenOk]; omega) (T.nd (by simp only [inK_i64, inB_i, leB_i, ltB_iff, leN_iff, slOk_iff, ble_iff, blt_iff, decide_eq_true_eq, decide_eq_false_iff_not, beq_iff_eq, beq_eq_false_iff_ne, bne_iff_ne, bne_eq_false_iff_eq, Bool.not_eq_true', Bool.not_eq_false', List.length_set, ne_eq, ge_iff_le, gt_iff_lt, setF_len, toNat_cast, lenOk]; omega) (T.nd (by simp only [inK_i64, inB_i, leB_i, ltB_iff, leN_iff, slOk_iff, ble_iff, blt_iff, decide_eq_true_eq, decide_eq_false_iff_not, beq_iff_eq, beq_eq_false_iff_ne, bne_iff_ne, bne_eq_false_iff_eq, Bool.not_eq_true', Bool.not_eq_false', List.length_set, ne_eq, ge_iff_le, gt_iff_lt, setF_len, toNat_cast, lenOk]; omega) (T.af (by simp only [inK_i64, inB_i, leB_i, ltB_iff, leN_iff, slOk_iff, ble_iff, blt_iff, decide_eq_true_eq, decide_eq_false_iff_not, beq_iff_eq, beq_eq_false_iff_ne, bne_iff_ne, bne_eq_false_iff_eq, Bool.not_eq_true', Bool.not_eq_false', List.length_set, ne_eq, ge_iff_le, gt_iff_lt, setF_len, toNat_cast, lenOk]; omega) (T.nd (by simp only [inK_i64, inB_i, leB_i, ltB_iff, leN_iff, slOk_iff, ble_iff, blt_iff, decide_eq_true_eq, decide_eq_false_iff_not, beq_iff_eq, beq_eq_false_iff_ne, bne_iff_ne, bne_eq_false_iff_eq, Bool.not_eq_true', Bool.not_eq_false', List.length_set, ne_eq, ge_iff_le, gt_iff_lt, setF_len, toNat_cast, lenOk]; omega) (T.nd (by simp only [inK_i64, inB_i, leB_i, ltB_iff, leN_iff, slOk_iff, ble_iff, blt_iff, decide_eq_true_eq, decide_eq_false_iff_not, beq_iff_eq, beq_eq_false_iff_ne, bne_iff_ne, bne_eq_false_iff_eq, Bool.not_eq_true', Bool.not_eq_false', List.length_set, ne_eq, ge_iff_le, gt_iff_lt, setF_len, toNat_cast, lenOk]; omega) (T.nd (by simp only [inK_i64, inB_i, leB_i, ltB_iff, leN_iff, slOk_iff, ble_iff, blt_iff, decide_eq_true_eq, decide_eq_false_iff_not, beq_iff_eq, beq_eq_false_iff_ne, bne_iff_ne, bne_eq_false_iff_eq, Bool.not_eq_true', Bool.not_eq_false', List.length_set, ne_eq, ge_iff_le, gt_iff_lt, setF_len, toNat_cast, lenOk]; omega) (T.nd (by simp only [inK_i64, inB_i, leB_i, ltB_iff, leN_iff, slOk_iff, ble_iff, blt_iff, decide_eq_true_eq, decide_eq_false_iff_not, beq_iff_eq, beq_eq_false_iff_ne, bne_iff_ne, bne_eq_false_iff_eq, Bool.not_eq_true', Bool.not_eq_false', List.length_set, ne_eq, ge_iff_le, gt_iff_lt, setF_len, toNat_cast, lenOk]; omega) (T.af (by simp only [inK_i64, inB_i, leB_i, ltB_iff, leN_iff, slOk_iff, ble_iff, blt_iff, decide_eq_true_eq, decide_eq_false_iff_not, beq_iff_eq, beq_eq_false_iff_ne, bne_iff_ne, bne_eq_false_iff_eq, Bool.not_eq_true', Bool.not_eq_false', List.length_set, ne_eq, ge_iff_le, gt_iff_lt, setF_len, toNat_cast, lenOk]; omega) (T.nd (by simp only [inK_i64, inB_i, leB_i, ltB_iff, leN_iff, slOk_iff, ble_iff, blt_iff, decide_eq_true_eq, decide_eq_false_iff_not, beq_iff_eq, beq_eq_false_iff_ne, bne_iff_ne, bne_eq_false_iff_eq, Bool.not_eq_true', Bool.not_eq_false', List.length_set, ne_eq, ge_iff_le, gt_iff_lt, setF_len, toNat_cast, lenOk]; omega) rfl)))))))))
    · show (ref09_Alike_t10 _ _ _).run = _
      by_cases e : (ls.getD k []).length = 0
      · exact T.at (by simp only [inK_i64, inB_i, leB_i, ltB_iff, leN_iff, slOk_iff, ble_iff, blt_iff, decide_eq_true_eq, decide_eq_false_iff_not, beq_iff_eq, beq_eq_false_iff_ne, bne_iff_ne, bne_eq_false_iff_eq, Bool.not_eq_true', Bool.not_eq_false', List.length_set, ne_eq, ge_iff_le, gt_iff_lt, setF_len, toNat_cast, lenOk]; omega) (T.nd (by simp only [inK_i64, inB_i, leB_i, ltB_iff, leN_iff, slOk_iff, ble_iff, blt_iff, decide_eq_true_eq, decide_eq_false_iff_not, beq_iff_eq, beq_eq_false_iff_ne, bne_iff_ne, bne_eq_false_iff_eq, Bool.not_eq_true', Bool.not_eq_false', List.length_set, ne_eq, ge_iff_le, gt_iff_lt, setF_len, toNat_cast, lenOk]; omega) (T.nd (by simp only [inK_i64, inB_i, leB_i, ltB_iff, leN_iff, slOk_iff, ble_iff, blt_iff, decide_eq_true_eq, decide_eq_false_iff_not, beq_iff_eq, beq_eq_false_iff_ne, bne_iff_ne, bne_eq_false_iff_eq, Bool.not_eq_true', Bool.not_eq_false', List.length_set, ne_eq, ge_iff_le, gt_iff_lt, setF_len, toNat_cast, lenOk]; omega) (T.at (by simp only [inK_i64, inB_i, leB_i, ltB_iff, leN_iff, slOk_iff, ble_iff, blt_iff, decide_eq_true_eq, decide_eq_false_iff_not, beq_iff_eq, beq_eq_false_iff_ne, bne_iff_ne, bne_eq_false_iff_eq, Bool.not_eq_true', Bool.not_eq_false', List.length_set, ne_eq, ge_iff_le, gt_iff_lt, setF_len, toNat_cast, lenOk]; omega) rfl)))
      · have : ¬ (ls.getD k []).length = (ls.getD 0 []).length := fun q => k2 ⟨e, q⟩
        exact T.at (by simp only [inK_i64, inB_i, leB_i, ltB_iff, leN_iff, slOk_iff, ble_iff, blt_iff, decide_eq_true_eq, decide_eq_false_iff_not, beq_iff_eq, beq_eq_false_iff_ne, bne_iff_ne, bne_eq_false_iff_eq, Bool.not_eq_true', Bool.not_eq_false', List.length_set, ne_eq, ge_iff_le, gt_iff_lt, setF_len, toNat_cast, lenOk]; omega) (T.nd (by simp only [inK_i64, inB_i, leB_i, ltB_iff, leN_iff, slOk_iff, ble_iff, blt_iff, decide_eq_true_eq, decide_eq_false_iff_not, beq_iff_eq, beq_eq_false_iff_ne, bne_iff_ne, bne_eq_false_iff_eq, Bool.not_eq_true', Bool.not_eq_false', List.length_set, ne_eq, ge_iff_le, gt_iff_lt, setF_len, toNat_cast, lenOk]; omega) (T.nd (by simp only [inK_i64, inB_i, leB_i, ltB_iff, leN_iff, slOk_iff, ble_iff, blt_iff, decide_eq_true_eq, decide_eq_false_iff_not, beq_iff_eq, beq_eq_false_iff_ne, bne_iff_ne, bne_eq_false_iff_eq, Bool.not_eq_true', Bool.not_eq_false', List.length_set, ne_eq, ge_iff_le, gt_iff_lt, setF_len, toNat_cast, lenOk]; omega) (T.af (by simp only [inK_i64, inB_i, leB_i, ltB_iff, leN_iff, slOk_iff, ble_iff, blt_iff, decide_eq_true_eq, decide_eq_false_iff_not, beq_iff_eq, beq_eq_false_iff_ne, bne_iff_ne, bne_eq_false_iff_eq, Bool.not_eq_true', Bool.not_eq_false', List.length_set, ne_eq, ge_iff_le, gt_iff_lt, setF_len, toNat_cast, lenOk]; omega) (T.nd (by simp only [inK_i64, inB_i, leB_i, ltB_iff, leN_iff, slOk_iff, ble_iff, blt_iff, decide_eq_true_eq, decide_eq_false_iff_not, beq_iff_eq, beq_eq_false_iff_ne, bne_iff_ne, bne_eq_false_iff_eq, Bool.not_eq_true', Bool.not_eq_false', List.length_set, ne_eq, ge_iff_le, gt_iff_lt, setF_len, toNat_cast, lenOk]; omega) (T.nd (by simp only [inK_i64, inB_i, leB_i, ltB_iff, leN_iff, slOk_iff, ble_iff, blt_iff, decide_eq_true_eq, decide_eq_false_iff_not, beq_iff_eq, beq_eq_false_iff_ne, bne_iff_ne, bne_eq_false_iff_eq, Bool.not_eq_true', Bool.not_eq_false', List.length_set, ne_eq, ge_iff_le, gt_iff_lt, setF_len, toNat_cast, lenOk]; omega) (T.nd (by simp only [inK_i64, inB_i, leB_i, ltB_iff, leN_iff, slOk_iff, ble_iff, blt_iff, decide_eq_true_eq, decide_eq_false_iff_not, beq_iff_eq, beq_eq_false_iff_ne, bne_iff_ne, bne_eq_false_iff_eq, Bool.not_eq_true', Bool.not_eq_false', List.length_set, ne_eq, ge_iff_le, gt_iff_lt, setF_len, toNat_cast, lenOk]; omega) (T.nd (by simp only [inK_i64, inB_i, leB_i, ltB_iff, leN_iff, slOk_iff, ble_iff, blt_iff, decide_eq_true_eq, decide_eq_false_iff_not, beq_iff_eq, beq_eq_false_iff_ne, bne_iff_ne, bne_eq_false_iff_eq, Bool.not_eq_true', Bool.not_eq_false', List.length_set, ne_eq, ge_iff_le, gt_iff_lt, setF_len, toNat_cast, lenOk]; omega) (T.at (by simp only [inK_i64, inB_i, leB_i, ltB_iff, leN_iff, slOk_iff, ble_iff, blt_iff, decide_eq_true_eq, decide_eq_false_iff_not, beq_iff_eq, beq_eq_false_iff_ne, bne_iff_ne, bne_eq_false_iff_eq, Bool.not_eq_true', Bool.not_eq_false', List.length_set, ne_eq, ge_iff_le, gt_iff_lt, setF_len, toNat_cast, lenOk]; omega) rfl))))))))
  · refine toX_of (seqM_in rfl (seqM_in (a := ()) (loopM_at (fun j => j) 0 rfl (fun j hj => absurd hj (Nat.not_lt_zero _)) (T.af (by simp only [inK_i64, inB_i, leB_i, ltB_iff, leN_iff, slOk_iff, ble_iff, blt_iff, decide_eq_true_eq, decide_eq_false_iff_not, beq_iff_eq, beq_eq_false_iff_ne, bne_iff_ne, bne_eq_false_iff_eq, Bool.not_eq_true', Bool.not_eq_false', List.length_set, ne_eq, ge_iff_le, gt_iff_lt, setF_len, toNat_cast, lenOk]; omega) rfl)) (seqM_in (a := false) ?_ rfl)))
    exact T.af (by simp only [inK_i64, inB_i, leB_i, ltB_iff, leN_iff, slOk_iff, ble_iff, blt_iff, decide_eq_true_eq, decide_eq_false_iff_not, beq_iff_eq, beq_eq_false_iff_ne, bne_iff_ne, bne_eq_false_iff_eq, Bool.not_eq_true', Bool.not_eq_false', List.length_set, ne_eq, ge_iff_le, gt_iff_lt, setF_len, toNat_cast, lenOk]; omega) rfl

-- the factor
def fcY (ls : List (List Nat)) (j m : Nat) : Nat := sumF (fun r => fmul ((ls.getD m []).getD r 0) ((ls.getD j []).getD r 0)) (ls.getD j []).length
def fcS (ls : List (List Nat)) (n j i : Nat) (t : List Nat) : Nat := sumF (fun q => fmul (t.getD (i * n + (i + q)) 0) (fcY ls j (i + q))) (j - i)
def fcI (ls : List (List Nat)) (ts : List Nat) (n j i : Nat) (t : List Nat) : List Nat := t.set (i * n + j) (fneg (fmul (ts.getD j 0) (fcS ls n j i t)))
def fcJ (ls : List (List Nat)) (ts : List Nat) (n j : Nat) (t : List Nat) : List Nat := iterF (fcI ls ts n j) (t.set (j * n + j) (ts.getD j 0)) j
def fcF (ls : List (List Nat)) (ts : List Nat) (n : Nat) : Nat → List Nat := iterF (fcJ ls ts n) (List.replicate (n * n) 0)

theorem iterF_len {f : Nat → List Nat → List Nat} {a : List Nat} (h : ∀ i l, (f i l).length = l.length) : ∀ {n : Nat}, (iterF f a n).length = a.length
  | 0 => rfl
  | n + 1 => by simp only [iterF]; rw [h]; exact iterF_len h
theorem fcJ_len (ls : List (List Nat)) (ts : List Nat) (n j : Nat) (t : List Nat) : (fcJ ls ts n j t).length = t.length := by
  unfold fcJ; rw [iterF_len fun i l => by simp [fcI]]; simp
theorem fcF_len {ls : List (List Nat)} {ts : List Nat} {n j : Nat} : (fcF ls ts n j).length = n * n := by
  unfold fcF; rw [iterF_len fun i l => fcJ_len ls ts n i l]; simp

theorem sum3_spec {ls : List (List Nat)} {v : List Nat} {n m : Nat} (hm : m < ls.length) (hn : n ≤ (ls.getD m []).length) (hv : n ≤ v.length) (hb : n ≤ 9223372036854775807) :
    reflect_sum_v3_F (n : Int) ls.length ls (m : Int) v = some (.r0 (sumF (fun r => fmul ((ls.getD m []).getD r 0) (v.getD r 0)) n)) := by
  refine toX_of (seqM_in rfl (seqM_in (loopM_at (fun j => (sumF (fun r => fmul ((ls.getD m []).getD r 0) (v.getD r 0)) j, j)) n rfl (fun j hj => ?_) ?_) rfl))
  · show (reflect_sum_v3_t9 _ _ _ _ _ _ _).run = _
    unfold reflect_sum_v3_t9
    rw [toNat_cast]
    exact T.at (by simp only [inK_i64, inB_i, leB_i, ltB_iff, leN_iff, slOk_iff, ble_iff, blt_iff, decide_eq_true_eq, decide_eq_false_iff_not, beq_iff_eq, beq_eq_false_iff_ne, bne_iff_ne, bne_eq_false_iff_eq, Bool.not_eq_true', Bool.not_eq_false', List.length_set, ne_eq, ge_iff_le, gt_iff_lt, setF_len, toNat_cast, lenOk]; omega) (T.nd (by simp only [inK_i64, inB_i, leB_i, ltB_iff, leN_iff, slOk_iff, ble_iff, blt_iff, decide_eq_true_eq, decide_eq_false_iff_not, beq_iff_eq, beq_eq_false_iff_ne, bne_iff_ne, bne_eq_false_iff_eq, Bool.not_eq_true', Bool.not_eq_false', List.length_set, ne_eq, ge_iff_le, gt_iff_lt, setF_len, toNat_cast, lenOk]; omega) (T.nd (by simp only [inK_i64, inB_i, leB_i, ltB_iff, leN_iff, slOk_iff, ble_iff, blt_iff, decide_eq_true_eq, decide_eq_false_iff_not, beq_iff_eq, beq_eq_false_iff_ne, bne_iff_ne, bne_eq_false_iff_eq, Bool.not_eq_true', Bool.not_eq_false', List.length_set, ne_eq, ge_iff_le, gt_iff_lt, setF_len, toNat_cast, lenOk]; omega) (T.nd (by simp only [inK_i64, inB_i, leB_i, ltB_iff, leN_iff, slOk_iff, ble_iff, blt_iff, decide_eq_true_eq, decide_eq_false_iff_not, beq_iff_eq, beq_eq_false_iff_ne, bne_iff_ne, bne_eq_false_iff_eq, Bool.not_eq_true', Bool.not_eq_false', List.length_set, ne_eq, ge_iff_le, gt_iff_lt, setF_len, toNat_cast, lenOk]; omega) (T.nd (by simp only [inK_i64, inB_i, leB_i, ltB_iff, leN_iff, slOk_iff, ble_iff, blt_iff, decide_eq_true_eq, decide_eq_false_iff_not, beq_iff_eq, beq_eq_false_iff_ne, bne_iff_ne, bne_eq_false_iff_eq, Bool.not_eq_true', Bool.not_eq_false', List.length_set, ne_eq, ge_iff_le, gt_iff_lt, setF_len, toNat_cast, lenOk]; omega) (T.nd (by simp only [inK_i64, inB_i, leB_i, ltB_iff, leN_iff, slOk_iff, ble_iff, blt_iff, decide_eq_true_eq, decide_eq_false_iff_not, beq_iff_eq, beq_eq_false_iff_ne, bne_iff_ne, bne_eq_false_iff_eq, Bool.not_eq_true', Bool.not_eq_false', List.length_set, ne_eq, ge_iff_le, gt_iff_lt, setF_len, toNat_cast, lenOk]; omega) (T.nd (by simp only [inK_i64, inB_i, leB_i, ltB_iff, leN_iff, slOk_iff, ble_iff, blt_iff, decide_eq_true_eq, decide_eq_false_iff_not, beq_iff_eq, beq_eq_false_iff_ne, bne_iff_ne, bne_eq_false_iff_eq, Bool.not_eq_true', Bool.not_eq_false', List.length_set, ne_eq, ge_iff_le, gt_iff_lt, setF_len, toNat_cast, lenOk]; omega) (T.nd (by simp only [inK_i64, inB_i, leB_i, ltB_iff, leN_iff, slOk_iff, ble_iff, blt_iff, decide_eq_true_eq, decide_eq_false_iff_not, beq_iff_eq, beq_eq_false_iff_ne, bne_iff_ne, bne_eq_false_iff_eq, Bool.not_eq_true', Bool.not_eq_false', List.length_set, ne_eq, ge_iff_le, gt_iff_lt, setF_len, toNat_cast, lenOk]; omega) rfl)))))))
  · exact T.af (by simp only [inK_i64, inB_i, leB_i, ltB_iff, leN_iff, slOk_iff, ble_iff, blt_iff, decide_eq_true_eq, decide_eq_false_iff_not, beq_iff_eq, beq_eq_false_iff_ne, bne_iff_ne, bne_eq_false_iff_eq, Bool.not_eq_true', Bool.not_eq_false', List.length_set, ne_eq, ge_iff_le, gt_iff_lt, setF_len, toNat_cast, lenOk]; omega) rfl

theorem sum4_spec {t y : List Nat} {i n d : Nat} (hi : ∀ q, q < d → i * n + (i + q) < t.length) (hy : i + d ≤ y.length) (hL : t.length ≤ 1000000000) (hx : i ≤ 1000000000) (hd : y.length ≤ 1000000000) :
    reflect_sum_v4_F (d : Int) t (i : Int) (n : Int) y = some (.r0 (sumF (fun q => fmul (t.getD (i * n + (i + q)) 0) (y.getD (i + q) 0)) d)) := by
  refine toX_of (seqM_in rfl (seqM_in (loopM_at (fun j => (sumF (fun q => fmul (t.getD (i * n + (i + q)) 0) (y.getD (i + q) 0)) j, j)) d rfl (fun j hj => ?_) ?_) rfl))
  · have h := idxOb (x := i) (hi j hj) hL hx
    have h' := idxOb (x := i) (c := n) (k := i) (L := t.length) (by have := hi j hj; omega) hL hx
    show (reflect_sum_v4_t9 _ _ _ _ _ _ _).run = _
    unfold reflect_sum_v4_t9
    rw [Int.add_assoc, addc]
    refine T.at (by simp only [inK_i64, inB_i, leB_i, ltB_iff, leN_iff, slOk_iff, ble_iff, blt_iff, decide_eq_true_eq, decide_eq_false_iff_not, beq_iff_eq, beq_eq_false_iff_ne, bne_iff_ne, bne_eq_false_iff_eq, Bool.not_eq_true', Bool.not_eq_false', List.length_set, ne_eq, ge_iff_le, gt_iff_lt, setF_len, toNat_cast, lenOk]; omega) (T.nd h.b (T.nd h'.c (T.nd h.c (T.nd h.d (T.nd h.e (T.nd (by simp only [inK_i64, inB_i, leB_i, ltB_iff, leN_iff, slOk_iff, ble_iff, blt_iff, decide_eq_true_eq, decide_eq_false_iff_not, beq_iff_eq, beq_eq_false_iff_ne, bne_iff_ne, bne_eq_false_iff_eq, Bool.not_eq_true', Bool.not_eq_false', List.length_set, ne_eq, ge_iff_le, gt_iff_lt, setF_len, toNat_cast, lenOk]; omega) (T.nd (by simp only [inK_i64, inB_i, leB_i, ltB_iff, leN_iff, slOk_iff, ble_iff, blt_iff, decide_eq_true_eq, decide_eq_false_iff_not, beq_iff_eq, beq_eq_false_iff_ne, bne_iff_ne, bne_eq_false_iff_eq, Bool.not_eq_true', Bool.not_eq_false', List.length_set, ne_eq, ge_iff_le, gt_iff_lt, setF_len, toNat_cast, lenOk]; omega) (T.nd (by simp only [inK_i64, inB_i, leB_i, ltB_iff, leN_iff, slOk_iff, ble_iff, blt_iff, decide_eq_true_eq, decide_eq_false_iff_not, beq_iff_eq, beq_eq_false_iff_ne, bne_iff_ne, bne_eq_false_iff_eq, Bool.not_eq_true', Bool.not_eq_false', List.length_set, ne_eq, ge_iff_le, gt_iff_lt, setF_len, toNat_cast, lenOk]; omega) (T.nd (by simp only [inK_i64, inB_i, leB_i, ltB_iff, leN_iff, slOk_iff, ble_iff, blt_iff, decide_eq_true_eq, decide_eq_false_iff_not, beq_iff_eq, beq_eq_false_iff_ne, bne_iff_ne, bne_eq_false_iff_eq, Bool.not_eq_true', Bool.not_eq_false', List.length_set, ne_eq, ge_iff_le, gt_iff_lt, setF_len, toNat_cast, lenOk]; omega) ?_)))))))))
    rw [h.f]; rfl
  · exact T.af (by simp only [inK_i64, inB_i, leB_i, ltB_iff, leN_iff, slOk_iff, ble_iff, blt_iff, decide_eq_true_eq, decide_eq_false_iff_not, beq_iff_eq, beq_eq_false_iff_ne, bne_iff_ne, bne_eq_false_iff_eq, Bool.not_eq_true', Bool.not_eq_false', List.length_set, ne_eq, ge_iff_le, gt_iff_lt, setF_len, toNat_cast, lenOk]; omega) rfl

theorem fc_bd {i j n : Nat} (hi : i < n) (hj : j < n) (hn : n ≤ 512) : i * n + j < n * n ∧ n * n ≤ 262144 := ⟨idx_lt hi hj, Nat.mul_le_mul hn hn⟩

theorem Factor_in1 {ls : List (List Nat)} {j : Nat} {y : List Nat} (h : AlikeP ls) (hn : ls.length ≤ 500) (hj : j < ls.length) (hy : y.length = ls.length) (hL : (ls.getD j []).length ≤ 9223372036854775807) :
    loopM (reflect_Factor_m51 ls.length ls j (ls.getD j []) (ls.getD j []).length) (0, y) = some (.inl (setF (fun i => i) (fcY ls j) y j)) := by
  refine loopM_at (fun i => (i, setF (fun i => i) (fcY ls j) y i)) j rfl (fun i hi => ?_) ?_
  · show seqM (reflect_Factor_t49 _ _ _ _ _ _ _).run _ = _
    refine seqM_in (a := setF (fun i => i) (fcY ls j) y (i + 1)) ?_ (T.nd (by simp only [inK_i64, inB_i, leB_i, ltB_iff, leN_iff, slOk_iff, ble_iff, blt_iff, decide_eq_true_eq, decide_eq_false_iff_not, beq_iff_eq, beq_eq_false_iff_ne, bne_iff_ne, bne_eq_false_iff_eq, Bool.not_eq_true', Bool.not_eq_false', List.length_set, ne_eq, ge_iff_le, gt_iff_lt, setF_len, toNat_cast, lenOk]; omega) rfl)
    unfold reflect_Factor_t49
    have e := h.2.2 i (by omega)
    have e' := h.2.2 j hj
    rw [cutL_all, cutL_all, sum3_spec (by omega) (by omega) (by omega) (by omega)]
    exact T.at (by simp only [inK_i64, inB_i, leB_i, ltB_iff, leN_iff, slOk_iff, ble_iff, blt_iff, decide_eq_true_eq, decide_eq_false_iff_not, beq_iff_eq, beq_eq_false_iff_ne, bne_iff_ne, bne_eq_false_iff_eq, Bool.not_eq_true', Bool.not_eq_false', List.length_set, ne_eq, ge_iff_le, gt_iff_lt, setF_len, toNat_cast, lenOk]; omega) (T.nd (cut_ok _) (T.nd (slOk_all _) (T.nd rfl (T.nd (by simp only [inK_i64, inB_i, leB_i, ltB_iff, leN_iff, slOk_iff, ble_iff, blt_iff, decide_eq_true_eq, decide_eq_false_iff_not, beq_iff_eq, beq_eq_false_iff_ne, bne_iff_ne, bne_eq_false_iff_eq, Bool.not_eq_true', Bool.not_eq_false', List.length_set, ne_eq, ge_iff_le, gt_iff_lt, setF_len, toNat_cast, lenOk]; omega) (T.nd (by simp only [inK_i64, inB_i, leB_i, ltB_iff, leN_iff, slOk_iff, ble_iff, blt_iff, decide_eq_true_eq, decide_eq_false_iff_not, beq_iff_eq, beq_eq_false_iff_ne, bne_iff_ne, bne_eq_false_iff_eq, Bool.not_eq_true', Bool.not_eq_false', List.length_set, ne_eq, ge_iff_le, gt_iff_lt, setF_len, toNat_cast, lenOk]; omega) rfl)))))
  · show seqM (reflect_Factor_t49 _ _ _ _ _ _ _).run _ = _
    exact seqM_out (T.af (by simp only [inK_i64, inB_i, leB_i, ltB_iff, leN_iff, slOk_iff, ble_iff, blt_iff, decide_eq_true_eq, decide_eq_false_iff_not, beq_iff_eq, beq_eq_false_iff_ne, bne_iff_ne, bne_eq_false_iff_eq, Bool.not_eq_true', Bool.not_eq_false', List.length_set, ne_eq, ge_iff_le, gt_iff_lt, setF_len, toNat_cast, lenOk]; omega) rfl)

theorem Factor_in2 {ls : List (List Nat)} {ts : List Nat} {j n : Nat} {y t : List Nat} (hn : n ≤ 500) (hj : j < n) (hy : y.length = n) (hyv : ∀ i, i < j → y.getD i 0 = fcY ls j i) (ht : t.length = n * n) :
    loopM (reflect_Factor_m56 n (n * n) j (ts.getD j 0) y) (0, t) = some (.inl (iterF (fcI ls ts n j) t j)) := by
  have hlen : ∀ i, (iterF (fcI ls ts n j) t i).length = n * n := fun i => by rw [iterF_len fun i l => by simp [fcI]]; exact ht
  refine loopM_at (fun i => (i, iterF (fcI ls ts n j) t i)) j rfl (fun i hi => ?_) ?_
  · show seqM (reflect_Factor_t54 _ _ _ _ _ _ _).run _ = _
    refine seqM_in (a := iterF (fcI ls ts n j) t (i + 1)) ?_ (T.nd (by simp only [inK_i64, inB_i, leB_i, ltB_iff, leN_iff, slOk_iff, ble_iff, blt_iff, decide_eq_true_eq, decide_eq_false_iff_not, beq_iff_eq, beq_eq_false_iff_ne, bne_iff_ne, bne_eq_false_iff_eq, Bool.not_eq_true', Bool.not_eq_false', List.length_set, ne_eq, ge_iff_le, gt_iff_lt, setF_len, toNat_cast, lenOk]; omega) rfl)
    unfold reflect_Factor_t54
    have hl := hlen i
    obtain ⟨b1, b2⟩ := fc_bd (i := i) (j := j) (n := n) (by omega) hj (by omega)
    have e : ((j : Nat) : Int) - ((i : Nat) : Int) = ((j - i : Nat) : Int) := by omega
    rw [cutL_to hl, cutL_to hy, e, sum4_spec (fun q hq => by rw [hl]; exact idx_lt (by omega) (by omega)) (by omega) (by omega) (by omega) (by omega)]
    refine T.at (by simp only [inK_i64, inB_i, leB_i, ltB_iff, leN_iff, slOk_iff, ble_iff, blt_iff, decide_eq_true_eq, decide_eq_false_iff_not, beq_iff_eq, beq_eq_false_iff_ne, bne_iff_ne, bne_eq_false_iff_eq, Bool.not_eq_true', Bool.not_eq_false', List.length_set, ne_eq, ge_iff_le, gt_iff_lt, setF_len, toNat_cast, lenOk]; omega) (T.nd (by simp only [inK_i64, inB_i, leB_i, ltB_iff, leN_iff, slOk_iff, ble_iff, blt_iff, decide_eq_true_eq, decide_eq_false_iff_not, beq_iff_eq, beq_eq_false_iff_ne, bne_iff_ne, bne_eq_false_iff_eq, Bool.not_eq_true', Bool.not_eq_false', List.length_set, ne_eq, ge_iff_le, gt_iff_lt, setF_len, toNat_cast, lenOk]; omega) (T.nd (by simp only [inK_i64, inB_i, leB_i, ltB_iff, leN_iff, slOk_iff, ble_iff, blt_iff, decide_eq_true_eq, decide_eq_false_iff_not, beq_iff_eq, beq_eq_false_iff_ne, bne_iff_ne, bne_eq_false_iff_eq, Bool.not_eq_true', Bool.not_eq_false', List.length_set, ne_eq, ge_iff_le, gt_iff_lt, setF_len, toNat_cast, lenOk]; omega) (T.nd (by simp only [inK_i64, inB_i, leB_i, ltB_iff, leN_iff, slOk_iff, ble_iff, blt_iff, decide_eq_true_eq, decide_eq_false_iff_not, beq_iff_eq, beq_eq_false_iff_ne, bne_iff_ne, bne_eq_false_iff_eq, Bool.not_eq_true', Bool.not_eq_false', List.length_set, ne_eq, ge_iff_le, gt_iff_lt, setF_len, toNat_cast, lenOk]; omega) (T.nd (by simp only [inK_i64, inB_i, leB_i, ltB_iff, leN_iff, slOk_iff, ble_iff, blt_iff, decide_eq_true_eq, decide_eq_false_iff_not, beq_iff_eq, beq_eq_false_iff_ne, bne_iff_ne, bne_eq_false_iff_eq, Bool.not_eq_true', Bool.not_eq_false', List.length_set, ne_eq, ge_iff_le, gt_iff_lt, setF_len, toNat_cast, lenOk]; omega) (T.nd (by simp only [inK_i64, inB_i, leB_i, ltB_iff, leN_iff, slOk_iff, ble_iff, blt_iff, decide_eq_true_eq, decide_eq_false_iff_not, beq_iff_eq, beq_eq_false_iff_ne, bne_iff_ne, bne_eq_false_iff_eq, Bool.not_eq_true', Bool.not_eq_false', List.length_set, ne_eq, ge_iff_le, gt_iff_lt, setF_len, toNat_cast, lenOk]; omega) (T.nd rfl (T.nd (by simp only [inK_i64, inB_i, leB_i, ltB_iff, leN_iff, slOk_iff, ble_iff, blt_iff, decide_eq_true_eq, decide_eq_false_iff_not, beq_iff_eq, beq_eq_false_iff_ne, bne_iff_ne, bne_eq_false_iff_eq, Bool.not_eq_true', Bool.not_eq_false', List.length_set, ne_eq, ge_iff_le, gt_iff_lt, setF_len, toNat_cast, lenOk]; omega) (T.nd (by simp only [inK_i64, inB_i, leB_i, ltB_iff, leN_iff, slOk_iff, ble_iff, blt_iff, decide_eq_true_eq, decide_eq_false_iff_not, beq_iff_eq, beq_eq_false_iff_ne, bne_iff_ne, bne_eq_false_iff_eq, Bool.not_eq_true', Bool.not_eq_false', List.length_set, ne_eq, ge_iff_le, gt_iff_lt, setF_len, toNat_cast, lenOk]; omega) ?_))))))))
    have ev : sumF (fun q => fmul ((iterF (fcI ls ts n j) t i).getD (i * n + (i + q)) 0) (y.getD (i + q) 0)) (j - i) = fcS ls n j i (iterF (fcI ls ts n j) t i) :=
      sumF_congr fun q hq => by rw [hyv _ (by omega)]
    simp only [reflect_sum_v4_p0_0, ev]; rfl
  · show seqM (reflect_Factor_t54 _ _ _ _ _ _ _).run _ = _
    exact seqM_out (T.af (by simp only [inK_i64, inB_i, leB_i, ltB_iff, leN_iff, slOk_iff, ble_iff, blt_iff, decide_eq_true_eq, decide_eq_false_iff_not, beq_iff_eq, beq_eq_false_iff_ne, bne_iff_ne, bne_eq_false_iff_eq, Bool.not_eq_true', Bool.not_eq_false', List.length_set, ne_eq, ge_iff_le, gt_iff_lt, setF_len, toNat_cast, lenOk]; omega) rfl)

/-- The y list, behind j rounds. -/
def fcYs (ls : List (List Nat)) (n : Nat) : Nat → List Nat
  | 0 => List.replicate n 0
  | j + 1 => setF (fun i => i) (fcY ls j) (fcYs ls n j) j
theorem fcYs_len {ls : List (List Nat)} {n : Nat} : ∀ {j : Nat}, (fcYs ls n j).length = n
  | 0 => by simp [fcYs]
  | j + 1 => by simp only [fcYs, setF_len]; exact fcYs_len

theorem Factor_spec {ls : List (List Nat)} {ts : List Nat} (h : AlikeP ls) (hn : ls.length ≤ 500) (ht : ts.length = ls.length) (hL : (ls.getD 0 []).length ≤ 9223372036854775807) :
    reflect_Factor_F ls.length ls ts = some (.r1 ls.length (ls.length * ls.length) (fcF ls ts ls.length ls.length)) := by
  have hnn : ls.length * ls.length ≤ 250000 := Nat.mul_le_mul hn hn
  refine toX_of (seqM_in (a := false) ?_ (seqM_in (a := (ls.length * ls.length, List.replicate (ls.length * ls.length) 0, List.replicate ls.length 0)) ?_ (seqM_in (a := fcF ls ts ls.length ls.length) ?_ rfl)))
  · unfold reflect_Factor_t42
    rw [cutL_all, cutL_to ht, alike_t (by omega) ht h]
    exact T.nd (cut_ok _) (T.nd rfl (T.af rfl (by rw [decide_eq_false (by omega)]; rfl)))
  · unfold reflect_Factor_t43
    generalize ls.length * ls.length = nn at hnn ⊢
    exact T.af rfl (T.nd (by simp only [inK_i64, inB_i, leB_i, ltB_iff, leN_iff, slOk_iff, ble_iff, blt_iff, decide_eq_true_eq, decide_eq_false_iff_not, beq_iff_eq, beq_eq_false_iff_ne, bne_iff_ne, bne_eq_false_iff_eq, Bool.not_eq_true', Bool.not_eq_false', List.length_set, ne_eq, ge_iff_le, gt_iff_lt, setF_len, toNat_cast, lenOk]; omega) (T.nd (by simp only [inK_i64, inB_i, leB_i, ltB_iff, leN_iff, slOk_iff, ble_iff, blt_iff, decide_eq_true_eq, decide_eq_false_iff_not, beq_iff_eq, beq_eq_false_iff_ne, bne_iff_ne, bne_eq_false_iff_eq, Bool.not_eq_true', Bool.not_eq_false', List.length_set, ne_eq, ge_iff_le, gt_iff_lt, setF_len, toNat_cast, lenOk]; omega) (T.nd (by simp only [inK_i64, inB_i, leB_i, ltB_iff, leN_iff, slOk_iff, ble_iff, blt_iff, decide_eq_true_eq, decide_eq_false_iff_not, beq_iff_eq, beq_eq_false_iff_ne, bne_iff_ne, bne_eq_false_iff_eq, Bool.not_eq_true', Bool.not_eq_false', List.length_set, ne_eq, ge_iff_le, gt_iff_lt, setF_len, toNat_cast, lenOk]; omega) (T.nd (by simp only [inK_i64, inB_i, leB_i, ltB_iff, leN_iff, slOk_iff, ble_iff, blt_iff, decide_eq_true_eq, decide_eq_false_iff_not, beq_iff_eq, beq_eq_false_iff_ne, bne_iff_ne, bne_eq_false_iff_eq, Bool.not_eq_true', Bool.not_eq_false', List.length_set, ne_eq, ge_iff_le, gt_iff_lt, setF_len, toNat_cast, lenOk]; omega) (T.nd (by simp only [inK_i64, inB_i, leB_i, ltB_iff, leN_iff, slOk_iff, ble_iff, blt_iff, decide_eq_true_eq, decide_eq_false_iff_not, beq_iff_eq, beq_eq_false_iff_ne, bne_iff_ne, bne_eq_false_iff_eq, Bool.not_eq_true', Bool.not_eq_false', List.length_set, ne_eq, ge_iff_le, gt_iff_lt, setF_len, toNat_cast, lenOk]; omega) (T.nd (by simp only [inK_i64, inB_i, leB_i, ltB_iff, leN_iff, slOk_iff, ble_iff, blt_iff, decide_eq_true_eq, decide_eq_false_iff_not, beq_iff_eq, beq_eq_false_iff_ne, bne_iff_ne, bne_eq_false_iff_eq, Bool.not_eq_true', Bool.not_eq_false', List.length_set, ne_eq, ge_iff_le, gt_iff_lt, setF_len, toNat_cast, lenOk]; omega) (T.nd (by simp only [inK_i64, inB_i, leB_i, ltB_iff, leN_iff, slOk_iff, ble_iff, blt_iff, decide_eq_true_eq, decide_eq_false_iff_not, beq_iff_eq, beq_eq_false_iff_ne, bne_iff_ne, bne_eq_false_iff_eq, Bool.not_eq_true', Bool.not_eq_false', List.length_set, ne_eq, ge_iff_le, gt_iff_lt, setF_len, toNat_cast, lenOk]; omega) (T.nd (by simp only [inK_i64, inB_i, leB_i, ltB_iff, leN_iff, slOk_iff, ble_iff, blt_iff, decide_eq_true_eq, decide_eq_false_iff_not, beq_iff_eq, beq_eq_false_iff_ne, bne_iff_ne, bne_eq_false_iff_eq, Bool.not_eq_true', Bool.not_eq_false', List.length_set, ne_eq, ge_iff_le, gt_iff_lt, setF_len, toNat_cast, lenOk]; omega) (T.nd (by simp only [inK_i64, inB_i, leB_i, ltB_iff, leN_iff, slOk_iff, ble_iff, blt_iff, decide_eq_true_eq, decide_eq_false_iff_not, beq_iff_eq, beq_eq_false_iff_ne, bne_iff_ne, bne_eq_false_iff_eq, Bool.not_eq_true', Bool.not_eq_false', List.length_set, ne_eq, ge_iff_le, gt_iff_lt, setF_len, toNat_cast, lenOk]; omega) rfl)))))))))
  · refine loopM_at (fun j => (j, fcF ls ts ls.length j, fcYs ls ls.length j)) ls.length rfl (fun j hj => ?_) ?_
    · show seqM (reflect_Factor_t45 _ _ _).run _ = _
      obtain ⟨b1, b2⟩ := fc_bd (i := j) (j := j) hj hj (by omega)
      have e0 := h.2.2 j hj
      refine seqM_in (a := ()) (T.at (by simp only [inK_i64, inB_i, leB_i, ltB_iff, leN_iff, slOk_iff, ble_iff, blt_iff, decide_eq_true_eq, decide_eq_false_iff_not, beq_iff_eq, beq_eq_false_iff_ne, bne_iff_ne, bne_eq_false_iff_eq, Bool.not_eq_true', Bool.not_eq_false', List.length_set, ne_eq, ge_iff_le, gt_iff_lt, setF_len, toNat_cast, lenOk]; omega) rfl) (seqM_in (joinM_in (a := (fcF ls ts ls.length (j + 1), fcYs ls ls.length (j + 1))) ?_) (T.nd (by simp only [inK_i64, inB_i, leB_i, ltB_iff, leN_iff, slOk_iff, ble_iff, blt_iff, decide_eq_true_eq, decide_eq_false_iff_not, beq_iff_eq, beq_eq_false_iff_ne, bne_iff_ne, bne_eq_false_iff_eq, Bool.not_eq_true', Bool.not_eq_false', List.length_set, ne_eq, ge_iff_le, gt_iff_lt, setF_len, toNat_cast, lenOk]; omega) rfl))
      refine seqM_in (a := (ls.getD j [], (ls.getD j []).length, ts.getD j 0, (fcF ls ts ls.length j).set (j * ls.length + j) (ts.getD j 0))) ?_ (seqM_in (Factor_in1 h hn hj fcYs_len (by omega)) (seqM_in rfl (seqM_in (Factor_in2 (ls := ls) (ts := ts) hn hj ?_ ?_ ?_) rfl)))
      · unfold reflect_Factor_t47
        have := @fcF_len ls ts ls.length j
        exact T.nd (by simp only [inK_i64, inB_i, leB_i, ltB_iff, leN_iff, slOk_iff, ble_iff, blt_iff, decide_eq_true_eq, decide_eq_false_iff_not, beq_iff_eq, beq_eq_false_iff_ne, bne_iff_ne, bne_eq_false_iff_eq, Bool.not_eq_true', Bool.not_eq_false', List.length_set, ne_eq, ge_iff_le, gt_iff_lt, setF_len, toNat_cast, lenOk]; omega) (T.nd (by simp only [inK_i64, inB_i, leB_i, ltB_iff, leN_iff, slOk_iff, ble_iff, blt_iff, decide_eq_true_eq, decide_eq_false_iff_not, beq_iff_eq, beq_eq_false_iff_ne, bne_iff_ne, bne_eq_false_iff_eq, Bool.not_eq_true', Bool.not_eq_false', List.length_set, ne_eq, ge_iff_le, gt_iff_lt, setF_len, toNat_cast, lenOk]; omega) (T.nd (by simp only [inK_i64, inB_i, leB_i, ltB_iff, leN_iff, slOk_iff, ble_iff, blt_iff, decide_eq_true_eq, decide_eq_false_iff_not, beq_iff_eq, beq_eq_false_iff_ne, bne_iff_ne, bne_eq_false_iff_eq, Bool.not_eq_true', Bool.not_eq_false', List.length_set, ne_eq, ge_iff_le, gt_iff_lt, setF_len, toNat_cast, lenOk]; omega) (T.nd (by simp only [inK_i64, inB_i, leB_i, ltB_iff, leN_iff, slOk_iff, ble_iff, blt_iff, decide_eq_true_eq, decide_eq_false_iff_not, beq_iff_eq, beq_eq_false_iff_ne, bne_iff_ne, bne_eq_false_iff_eq, Bool.not_eq_true', Bool.not_eq_false', List.length_set, ne_eq, ge_iff_le, gt_iff_lt, setF_len, toNat_cast, lenOk]; omega) (T.nd (by simp only [inK_i64, inB_i, leB_i, ltB_iff, leN_iff, slOk_iff, ble_iff, blt_iff, decide_eq_true_eq, decide_eq_false_iff_not, beq_iff_eq, beq_eq_false_iff_ne, bne_iff_ne, bne_eq_false_iff_eq, Bool.not_eq_true', Bool.not_eq_false', List.length_set, ne_eq, ge_iff_le, gt_iff_lt, setF_len, toNat_cast, lenOk]; omega) (T.nd (by simp only [inK_i64, inB_i, leB_i, ltB_iff, leN_iff, slOk_iff, ble_iff, blt_iff, decide_eq_true_eq, decide_eq_false_iff_not, beq_iff_eq, beq_eq_false_iff_ne, bne_iff_ne, bne_eq_false_iff_eq, Bool.not_eq_true', Bool.not_eq_false', List.length_set, ne_eq, ge_iff_le, gt_iff_lt, setF_len, toNat_cast, lenOk]; omega) (T.nd (by simp only [inK_i64, inB_i, leB_i, ltB_iff, leN_iff, slOk_iff, ble_iff, blt_iff, decide_eq_true_eq, decide_eq_false_iff_not, beq_iff_eq, beq_eq_false_iff_ne, bne_iff_ne, bne_eq_false_iff_eq, Bool.not_eq_true', Bool.not_eq_false', List.length_set, ne_eq, ge_iff_le, gt_iff_lt, setF_len, toNat_cast, lenOk]; omega) rfl))))))
      · rw [setF_len]; exact fcYs_len
      · exact fun i hi => setF_at hi (by rw [fcYs_len]; omega)
      · rw [set_len]; exact fcF_len
    · show seqM (reflect_Factor_t45 _ _ _).run _ = _
      exact seqM_out (T.af (by simp only [inK_i64, inB_i, leB_i, ltB_iff, leN_iff, slOk_iff, ble_iff, blt_iff, decide_eq_true_eq, decide_eq_false_iff_not, beq_iff_eq, beq_eq_false_iff_ne, bne_iff_ne, bne_eq_false_iff_eq, Bool.not_eq_true', Bool.not_eq_false', List.length_set, ne_eq, ge_iff_le, gt_iff_lt, setF_len, toNat_cast, lenOk]; omega) rfl)

theorem Factor_err {ls : List (List Nat)} {ts : List Nat} (h : ¬ AlikeP ls) (hn : ls.length ≤ 500) (ht : ts.length = ls.length) : reflect_Factor_F ls.length ls ts = some .r0 := by
  refine toX_of (seqM_in (a := true) ?_ (seqM_out rfl))
  unfold reflect_Factor_t42
  rw [cutL_all, cutL_to ht, alike_f (by omega) ht h]
  exact T.nd (cut_ok _) (T.nd rfl (T.at rfl rfl))
end Go.Plb.Seat
