/-
  Part 6 of what the claim leans on: an evaluator of the model, proved sound; the contracts of the functions.
-/
import Derived.Test.YtanghnggbjpjgaaA5
/-
  PLAIN: the document's factor; ReflectFactors.
-/
namespace Go.Plb.Seat
open Go Go.Plb
set_option linter.unusedSimpArgs false
set_option linter.unusedVariables false

theorem Factor9_y {ls : List (List Nat)} {j m : Nat} (h : AlikeP ls) (hj : j < ls.length) (hm : m < ls.length) (hL : (ls.getD 0 []).length ≤ 9223372036854775807) :
    loopM (ref09_Factor_m134 ls.length ls j m) (0, 0) = some (.inl (fcY ls j m)) := by
  have e := h.2.2 j hj
  have e' := h.2.2 m hm
  refine loopM_at (fun r => (sumF (fun r => fmul ((ls.getD m []).getD r 0) ((ls.getD j []).getD r 0)) r, r)) (ls.getD j []).length rfl (fun r hr => ?_) ?_
  · show (ref09_Factor_t133 _ _ _ _ _ _).run = _
    exact T.nd (by simp only [inK_i64, inB_i, leB_i, ltB_iff, leN_iff, slOk_iff, ble_iff, blt_iff, decide_eq_true_eq, decide_eq_false_iff_not, beq_iff_eq, beq_eq_false_iff_ne, bne_iff_ne, bne_eq_false_iff_eq, Bool.not_eq_true', Bool.not_eq_false', List.length_set, ne_eq, ge_iff_le, gt_iff_lt, setF_len, toNat_cast, lenOk]; omega) (T.nd (by simp only [inK_i64, inB_i, leB_i, ltB_iff, leN_iff, slOk_iff, ble_iff, blt_iff, decide_eq_true_eq, decide_eq_false_iff_not, beq_iff_eq, beq_eq_false_iff_ne, bne_iff_ne, bne_eq_false_iff_eq, Bool.not_eq_true', Bool.not_eq_false', List.length_set, ne_eq, ge_iff_le, gt_iff_lt, setF_len, toNat_cast, lenOk]; omega) (T.at (by simp only [inK_i64, inB_i, leB_i, ltB_iff, leN_iff, slOk_iff, ble_iff, blt_iff, decide_eq_true_eq, decide_eq_false_iff_not, beq_iff_eq, beq_eq_false_iff_ne, bne_iff_ne, bne_eq_false_iff_eq, Bool.not_eq_true', Bool.not_eq_false', List.length_set, ne_eq, ge_iff_le, gt_iff_lt, setF_len, toNat_cast, lenOk]; omega) (T.nd (by simp only [inK_i64, inB_i, leB_i, ltB_iff, leN_iff, slOk_iff, ble_iff, blt_iff, decide_eq_true_eq, decide_eq_false_iff_not, beq_iff_eq, beq_eq_false_iff_ne, bne_iff_ne, bne_eq_false_iff_eq, Bool.not_eq_true', Bool.not_eq_false', List.length_set, ne_eq, ge_iff_le, gt_iff_lt, setF_len, toNat_cast, lenOk]; omega) (T.nd (by simp only [inK_i64, inB_i, leB_i, ltB_iff, leN_iff, slOk_iff, ble_iff, blt_iff, decide_eq_true_eq, decide_eq_false_iff_not, beq_iff_eq, beq_eq_false_iff_ne, bne_iff_ne, bne_eq_false_iff_eq, Bool.not_eq_true', Bool.not_eq_false', List.length_set, ne_eq, ge_iff_le, gt_iff_lt, setF_len, toNat_cast, lenOk]; omega) (T.nd (by simp only [inK_i64, inB_i, leB_i, ltB_iff, leN_iff, slOk_iff, ble_iff, blt_iff, decide_eq_true_eq, decide_eq_false_iff_not, beq_iff_eq, beq_eq_false_iff_ne, bne_iff_ne, bne_eq_false_iff_eq, Bool.not_eq_true', Bool.not_eq_false', List.length_set, ne_eq, ge_iff_le, gt_iff_lt, setF_len, toNat_cast, lenOk]; omega) (T.nd (by simp only [inK_i64, inB_i, leB_i, ltB_iff, leN_iff, slOk_iff, ble_iff, blt_iff, decide_eq_true_eq, decide_eq_false_iff_not, beq_iff_eq, beq_eq_false_iff_ne, bne_iff_ne, bne_eq_false_iff_eq, Bool.not_eq_true', Bool.not_eq_false', List.length_set, ne_eq, ge_iff_le, gt_iff_lt, setF_len, toNat_cast, lenOk]; omega) (T.nd (by simp only [inK_i64, inB_i, leB_i, ltB_iff, leN_iff, slOk_iff, ble_iff, blt_iff, decide_eq_true_eq, decide_eq_false_iff_not, beq_iff_eq, beq_eq_false_iff_ne, bne_iff_ne, bne_eq_false_iff_eq, Bool.not_eq_true', Bool.not_eq_false', List.length_set, ne_eq, ge_iff_le, gt_iff_lt, setF_len, toNat_cast, lenOk]; omega) (T.nd (by simp only [inK_i64, inB_i, leB_i, ltB_iff, leN_iff, slOk_iff, ble_iff, blt_iff, decide_eq_true_eq, decide_eq_false_iff_not, beq_iff_eq, beq_eq_false_iff_ne, bne_iff_ne, bne_eq_false_iff_eq, Bool.not_eq_true', Bool.not_eq_false', List.length_set, ne_eq, ge_iff_le, gt_iff_lt, setF_len, toNat_cast, lenOk]; omega) (T.nd (by simp only [inK_i64, inB_i, leB_i, ltB_iff, leN_iff, slOk_iff, ble_iff, blt_iff, decide_eq_true_eq, decide_eq_false_iff_not, beq_iff_eq, beq_eq_false_iff_ne, bne_iff_ne, bne_eq_false_iff_eq, Bool.not_eq_true', Bool.not_eq_false', List.length_set, ne_eq, ge_iff_le, gt_iff_lt, setF_len, toNat_cast, lenOk]; omega) (T.nd (by simp only [inK_i64, inB_i, leB_i, ltB_iff, leN_iff, slOk_iff, ble_iff, blt_iff, decide_eq_true_eq, decide_eq_false_iff_not, beq_iff_eq, beq_eq_false_iff_ne, bne_iff_ne, bne_eq_false_iff_eq, Bool.not_eq_true', Bool.not_eq_false', List.length_set, ne_eq, ge_iff_le, gt_iff_lt, setF_len, toNat_cast, lenOk]; omega) (T.nd (by simp only [inK_i64, inB_i, leB_i, ltB_iff, leN_iff, slOk_iff, ble_iff, blt_iff, decide_eq_true_eq, decide_eq_false_iff_not, beq_iff_eq, beq_eq_false_iff_ne, bne_iff_ne, bne_eq_false_iff_eq, Bool.not_eq_true', Bool.not_eq_false', List.length_set, ne_eq, ge_iff_le, gt_iff_lt, setF_len, toNat_cast, lenOk]; omega) rfl)))))))))))
  · exact T.nd (by simp only [inK_i64, inB_i, leB_i, ltB_iff, leN_iff, slOk_iff, ble_iff, blt_iff, decide_eq_true_eq, decide_eq_false_iff_not, beq_iff_eq, beq_eq_false_iff_ne, bne_iff_ne, bne_eq_false_iff_eq, Bool.not_eq_true', Bool.not_eq_false', List.length_set, ne_eq, ge_iff_le, gt_iff_lt, setF_len, toNat_cast, lenOk]; omega) (T.nd (by simp only [inK_i64, inB_i, leB_i, ltB_iff, leN_iff, slOk_iff, ble_iff, blt_iff, decide_eq_true_eq, decide_eq_false_iff_not, beq_iff_eq, beq_eq_false_iff_ne, bne_iff_ne, bne_eq_false_iff_eq, Bool.not_eq_true', Bool.not_eq_false', List.length_set, ne_eq, ge_iff_le, gt_iff_lt, setF_len, toNat_cast, lenOk]; omega) (T.af (by simp only [inK_i64, inB_i, leB_i, ltB_iff, leN_iff, slOk_iff, ble_iff, blt_iff, decide_eq_true_eq, decide_eq_false_iff_not, beq_iff_eq, beq_eq_false_iff_ne, bne_iff_ne, bne_eq_false_iff_eq, Bool.not_eq_true', Bool.not_eq_false', List.length_set, ne_eq, ge_iff_le, gt_iff_lt, setF_len, toNat_cast, lenOk]; omega) rfl))

theorem Factor9_s {ls : List (List Nat)} {j i : Nat} {t : List Nat} (h : AlikeP ls) (hn : ls.length ≤ 500) (hj : j < ls.length) (hi : i < j) (hL : (ls.getD 0 []).length ≤ 9223372036854775807) (ht : t.length = ls.length * ls.length) :
    loopM (ref09_Factor_m137 ls.length ls (ls.length * ls.length) j i t) (0, i) = some (.inl (fcS ls ls.length j i t)) := by
  refine loopM_at (fun q => (sumF (fun q => fmul (t.getD (i * ls.length + (i + q)) 0) (fcY ls j (i + q))) q, i + q)) (j - i) rfl (fun q hq => ?_) ?_
  · show seqM (ref09_Factor_t129 _ _ _).run _ = _
    obtain ⟨b1, b2⟩ := fc_bd (i := i) (j := i + q) (n := ls.length) (by omega) (by omega) (by omega)
    refine seqM_in (a := ()) (T.at (by simp only [inK_i64, inB_i, leB_i, ltB_iff, leN_iff, slOk_iff, ble_iff, blt_iff, decide_eq_true_eq, decide_eq_false_iff_not, beq_iff_eq, beq_eq_false_iff_ne, bne_iff_ne, bne_eq_false_iff_eq, Bool.not_eq_true', Bool.not_eq_false', List.length_set, ne_eq, ge_iff_le, gt_iff_lt, setF_len, toNat_cast, lenOk]; omega) rfl) (seqM_in (joinM_in (a := sumF (fun q => fmul (t.getD (i * ls.length + (i + q)) 0) (fcY ls j (i + q))) (q + 1)) ?_) (T.nd (by simp only [inK_i64, inB_i, leB_i, ltB_iff, leN_iff, slOk_iff, ble_iff, blt_iff, decide_eq_true_eq, decide_eq_false_iff_not, beq_iff_eq, beq_eq_false_iff_ne, bne_iff_ne, bne_eq_false_iff_eq, Bool.not_eq_true', Bool.not_eq_false', List.length_set, ne_eq, ge_iff_le, gt_iff_lt, setF_len, toNat_cast, lenOk]; omega) rfl))
    refine seqM_in rfl (seqM_in (Factor9_y h hj (by omega) hL) ?_)
    exact T.nd (by simp only [inK_i64, inB_i, leB_i, ltB_iff, leN_iff, slOk_iff, ble_iff, blt_iff, decide_eq_true_eq, decide_eq_false_iff_not, beq_iff_eq, beq_eq_false_iff_ne, bne_iff_ne, bne_eq_false_iff_eq, Bool.not_eq_true', Bool.not_eq_false', List.length_set, ne_eq, ge_iff_le, gt_iff_lt, setF_len, toNat_cast, lenOk]; omega) (T.nd (by simp only [inK_i64, inB_i, leB_i, ltB_iff, leN_iff, slOk_iff, ble_iff, blt_iff, decide_eq_true_eq, decide_eq_false_iff_not, beq_iff_eq, beq_eq_false_iff_ne, bne_iff_ne, bne_eq_false_iff_eq, Bool.not_eq_true', Bool.not_eq_false', List.length_set, ne_eq, ge_iff_le, gt_iff_lt, setF_len, toNat_cast, lenOk]; omega) (T.nd (by simp only [inK_i64, inB_i, leB_i, ltB_iff, leN_iff, slOk_iff, ble_iff, blt_iff, decide_eq_true_eq, decide_eq_false_iff_not, beq_iff_eq, beq_eq_false_iff_ne, bne_iff_ne, bne_eq_false_iff_eq, Bool.not_eq_true', Bool.not_eq_false', List.length_set, ne_eq, ge_iff_le, gt_iff_lt, setF_len, toNat_cast, lenOk]; omega) (T.nd (by simp only [inK_i64, inB_i, leB_i, ltB_iff, leN_iff, slOk_iff, ble_iff, blt_iff, decide_eq_true_eq, decide_eq_false_iff_not, beq_iff_eq, beq_eq_false_iff_ne, bne_iff_ne, bne_eq_false_iff_eq, Bool.not_eq_true', Bool.not_eq_false', List.length_set, ne_eq, ge_iff_le, gt_iff_lt, setF_len, toNat_cast, lenOk]; omega) rfl)))
  · show seqM (ref09_Factor_t129 _ _ _).run _ = _
    exact seqM_out (T.af (by simp only [inK_i64, inB_i, leB_i, ltB_iff, leN_iff, slOk_iff, ble_iff, blt_iff, decide_eq_true_eq, decide_eq_false_iff_not, beq_iff_eq, beq_eq_false_iff_ne, bne_iff_ne, bne_eq_false_iff_eq, Bool.not_eq_true', Bool.not_eq_false', List.length_set, ne_eq, ge_iff_le, gt_iff_lt, setF_len, toNat_cast, lenOk]; omega) rfl)

theorem Factor9_in {ls : List (List Nat)} {ts : List Nat} {j : Nat} {t : List Nat} (h : AlikeP ls) (hn : ls.length ≤ 500) (hts : ts.length = ls.length) (hj : j < ls.length) (hL : (ls.getD 0 []).length ≤ 9223372036854775807) (ht : t.length = ls.length * ls.length) :
    loopM (ref09_Factor_m140 ls.length ls ts (ls.length * ls.length) j) (0, t) = some (.inl (iterF (fcI ls ts ls.length j) t j)) := by
  have hlen : ∀ i, (iterF (fcI ls ts ls.length j) t i).length = ls.length * ls.length := fun i => by rw [iterF_len fun i l => by simp [fcI]]; exact ht
  refine loopM_at (fun i => (i, iterF (fcI ls ts ls.length j) t i)) j rfl (fun i hi => ?_) ?_
  · show seqM (ref09_Factor_t125 _ _ _).run _ = _
    have hl := hlen i
    obtain ⟨b1, b2⟩ := fc_bd (i := i) (j := j) (n := ls.length) (by omega) hj (by omega)
    refine seqM_in (a := ()) (T.at (by simp only [inK_i64, inB_i, leB_i, ltB_iff, leN_iff, slOk_iff, ble_iff, blt_iff, decide_eq_true_eq, decide_eq_false_iff_not, beq_iff_eq, beq_eq_false_iff_ne, bne_iff_ne, bne_eq_false_iff_eq, Bool.not_eq_true', Bool.not_eq_false', List.length_set, ne_eq, ge_iff_le, gt_iff_lt, setF_len, toNat_cast, lenOk]; omega) rfl) (seqM_in (joinM_in (a := iterF (fcI ls ts ls.length j) t (i + 1)) ?_) (T.nd (by simp only [inK_i64, inB_i, leB_i, ltB_iff, leN_iff, slOk_iff, ble_iff, blt_iff, decide_eq_true_eq, decide_eq_false_iff_not, beq_iff_eq, beq_eq_false_iff_ne, bne_iff_ne, bne_eq_false_iff_eq, Bool.not_eq_true', Bool.not_eq_false', List.length_set, ne_eq, ge_iff_le, gt_iff_lt, setF_len, toNat_cast, lenOk]; omega) rfl))
    refine seqM_in rfl (seqM_in (Factor9_s h hn hj hi hL hl) ?_)
    exact T.nd (by simp only [inK_i64, inB_i, leB_i, ltB_iff, leN_iff, slOk_iff, ble_iff, blt_iff, decide_eq_true_eq, decide_eq_false_iff_not, beq_iff_eq, beq_eq_false_iff_ne, bne_iff_ne, bne_eq_false_iff_eq, Bool.not_eq_true', Bool.not_eq_false', List.length_set, ne_eq, ge_iff_le, gt_iff_lt, setF_len, toNat_cast, lenOk]; omega) (T.nd (by simp only [inK_i64, inB_i, leB_i, ltB_iff, leN_iff, slOk_iff, ble_iff, blt_iff, decide_eq_true_eq, decide_eq_false_iff_not, beq_iff_eq, beq_eq_false_iff_ne, bne_iff_ne, bne_eq_false_iff_eq, Bool.not_eq_true', Bool.not_eq_false', List.length_set, ne_eq, ge_iff_le, gt_iff_lt, setF_len, toNat_cast, lenOk]; omega) (T.nd (by simp only [inK_i64, inB_i, leB_i, ltB_iff, leN_iff, slOk_iff, ble_iff, blt_iff, decide_eq_true_eq, decide_eq_false_iff_not, beq_iff_eq, beq_eq_false_iff_ne, bne_iff_ne, bne_eq_false_iff_eq, Bool.not_eq_true', Bool.not_eq_false', List.length_set, ne_eq, ge_iff_le, gt_iff_lt, setF_len, toNat_cast, lenOk]; omega) (T.nd (by simp only [inK_i64, inB_i, leB_i, ltB_iff, leN_iff, slOk_iff, ble_iff, blt_iff, decide_eq_true_eq, decide_eq_false_iff_not, beq_iff_eq, beq_eq_false_iff_ne, bne_iff_ne, bne_eq_false_iff_eq, Bool.not_eq_true', Bool.not_eq_false', List.length_set, ne_eq, ge_iff_le, gt_iff_lt, setF_len, toNat_cast, lenOk]; omega) (T.nd (by simp only [inK_i64, inB_i, leB_i, ltB_iff, leN_iff, slOk_iff, ble_iff, blt_iff, decide_eq_true_eq, decide_eq_false_iff_not, beq_iff_eq, beq_eq_false_iff_ne, bne_iff_ne, bne_eq_false_iff_eq, Bool.not_eq_true', Bool.not_eq_false', List.length_set, ne_eq, ge_iff_le, gt_iff_lt, setF_len, toNat_cast, lenOk]; omega) (T.nd (by simp only [inK_i64, inB_i, leB_i, ltB_iff, leN_iff, slOk_iff, ble_iff, blt_iff, decide_eq_true_eq, decide_eq_false_iff_not, beq_iff_eq, beq_eq_false_iff_ne, bne_iff_ne, bne_eq_false_iff_eq, Bool.not_eq_true', Bool.not_eq_false', List.length_set, ne_eq, ge_iff_le, gt_iff_lt, setF_len, toNat_cast, lenOk]; omega) rfl)))))
  · show seqM (ref09_Factor_t125 _ _ _).run _ = _
    exact seqM_out (T.af (by simp only [inK_i64, inB_i, leB_i, ltB_iff, leN_iff, slOk_iff, ble_iff, blt_iff, decide_eq_true_eq, decide_eq_false_iff_not, beq_iff_eq, beq_eq_false_iff_ne, bne_iff_ne, bne_eq_false_iff_eq, Bool.not_eq_true', Bool.not_eq_false', List.length_set, ne_eq, ge_iff_le, gt_iff_lt, setF_len, toNat_cast, lenOk]; omega) rfl)

theorem Factor9_spec {ls : List (List Nat)} {ts : List Nat} (h : AlikeP ls) (hn : ls.length ≤ 500) (ht : ts.length = ls.length) (hL : (ls.getD 0 []).length ≤ 9223372036854775807) :
    ref09_Factor_F ls.length ls ts = some (.r0 ls.length (ls.length * ls.length) (fcF ls ts ls.length ls.length)) := by
  have hnn : ls.length * ls.length ≤ 250000 := Nat.mul_le_mul hn hn
  refine toX_of (seqM_in (a := (ls.length * ls.length, List.replicate (ls.length * ls.length) 0)) ?_ (seqM_in (a := fcF ls ts ls.length ls.length) ?_ rfl))
  · unfold ref09_Factor_t119
    generalize ls.length * ls.length = nn at hnn ⊢
    exact T.nd (by simp only [inK_i64, inB_i, leB_i, ltB_iff, leN_iff, slOk_iff, ble_iff, blt_iff, decide_eq_true_eq, decide_eq_false_iff_not, beq_iff_eq, beq_eq_false_iff_ne, bne_iff_ne, bne_eq_false_iff_eq, Bool.not_eq_true', Bool.not_eq_false', List.length_set, ne_eq, ge_iff_le, gt_iff_lt, setF_len, toNat_cast, lenOk]; omega) (T.nd (by simp only [inK_i64, inB_i, leB_i, ltB_iff, leN_iff, slOk_iff, ble_iff, blt_iff, decide_eq_true_eq, decide_eq_false_iff_not, beq_iff_eq, beq_eq_false_iff_ne, bne_iff_ne, bne_eq_false_iff_eq, Bool.not_eq_true', Bool.not_eq_false', List.length_set, ne_eq, ge_iff_le, gt_iff_lt, setF_len, toNat_cast, lenOk]; omega) (T.nd (by simp only [inK_i64, inB_i, leB_i, ltB_iff, leN_iff, slOk_iff, ble_iff, blt_iff, decide_eq_true_eq, decide_eq_false_iff_not, beq_iff_eq, beq_eq_false_iff_ne, bne_iff_ne, bne_eq_false_iff_eq, Bool.not_eq_true', Bool.not_eq_false', List.length_set, ne_eq, ge_iff_le, gt_iff_lt, setF_len, toNat_cast, lenOk]; omega) (T.nd (by simp only [inK_i64, inB_i, leB_i, ltB_iff, leN_iff, slOk_iff, ble_iff, blt_iff, decide_eq_true_eq, decide_eq_false_iff_not, beq_iff_eq, beq_eq_false_iff_ne, bne_iff_ne, bne_eq_false_iff_eq, Bool.not_eq_true', Bool.not_eq_false', List.length_set, ne_eq, ge_iff_le, gt_iff_lt, setF_len, toNat_cast, lenOk]; omega) (T.nd (by simp only [inK_i64, inB_i, leB_i, ltB_iff, leN_iff, slOk_iff, ble_iff, blt_iff, decide_eq_true_eq, decide_eq_false_iff_not, beq_iff_eq, beq_eq_false_iff_ne, bne_iff_ne, bne_eq_false_iff_eq, Bool.not_eq_true', Bool.not_eq_false', List.length_set, ne_eq, ge_iff_le, gt_iff_lt, setF_len, toNat_cast, lenOk]; omega) rfl))))
  · refine loopM_at (fun j => (j, fcF ls ts ls.length j)) ls.length rfl (fun j hj => ?_) ?_
    · show seqM (ref09_Factor_t121 _ _ _).run _ = _
      obtain ⟨b1, b2⟩ := fc_bd (i := j) (j := j) hj hj (by omega)
      refine seqM_in (a := ()) (T.at (by simp only [inK_i64, inB_i, leB_i, ltB_iff, leN_iff, slOk_iff, ble_iff, blt_iff, decide_eq_true_eq, decide_eq_false_iff_not, beq_iff_eq, beq_eq_false_iff_ne, bne_iff_ne, bne_eq_false_iff_eq, Bool.not_eq_true', Bool.not_eq_false', List.length_set, ne_eq, ge_iff_le, gt_iff_lt, setF_len, toNat_cast, lenOk]; omega) rfl) (seqM_in (joinM_in (a := fcF ls ts ls.length (j + 1)) ?_) (T.nd (by simp only [inK_i64, inB_i, leB_i, ltB_iff, leN_iff, slOk_iff, ble_iff, blt_iff, decide_eq_true_eq, decide_eq_false_iff_not, beq_iff_eq, beq_eq_false_iff_ne, bne_iff_ne, bne_eq_false_iff_eq, Bool.not_eq_true', Bool.not_eq_false', List.length_set, ne_eq, ge_iff_le, gt_iff_lt, setF_len, toNat_cast, lenOk]; omega) rfl))
      refine seqM_in (a := (fcF ls ts ls.length j).set (j * ls.length + j) (ts.getD j 0)) ?_ (seqM_in (Factor9_in h hn ht hj hL ?_) rfl)
      · unfold ref09_Factor_t123
        have := @fcF_len ls ts ls.length j
        exact T.nd (by simp only [inK_i64, inB_i, leB_i, ltB_iff, leN_iff, slOk_iff, ble_iff, blt_iff, decide_eq_true_eq, decide_eq_false_iff_not, beq_iff_eq, beq_eq_false_iff_ne, bne_iff_ne, bne_eq_false_iff_eq, Bool.not_eq_true', Bool.not_eq_false', List.length_set, ne_eq, ge_iff_le, gt_iff_lt, setF_len, toNat_cast, lenOk]; omega) (T.nd (by simp only [inK_i64, inB_i, leB_i, ltB_iff, leN_iff, slOk_iff, ble_iff, blt_iff, decide_eq_true_eq, decide_eq_false_iff_not, beq_iff_eq, beq_eq_false_iff_ne, bne_iff_ne, bne_eq_false_iff_eq, Bool.not_eq_true', Bool.not_eq_false', List.length_set, ne_eq, ge_iff_le, gt_iff_lt, setF_len, toNat_cast, lenOk]; omega) (T.nd (by simp only [inK_i64, inB_i, leB_i, ltB_iff, leN_iff, slOk_iff, ble_iff, blt_iff, decide_eq_true_eq, decide_eq_false_iff_not, beq_iff_eq, beq_eq_false_iff_ne, bne_iff_ne, bne_eq_false_iff_eq, Bool.not_eq_true', Bool.not_eq_false', List.length_set, ne_eq, ge_iff_le, gt_iff_lt, setF_len, toNat_cast, lenOk]; omega) (T.nd (by simp only [inK_i64, inB_i, leB_i, ltB_iff, leN_iff, slOk_iff, ble_iff, blt_iff, decide_eq_true_eq, decide_eq_false_iff_not, beq_iff_eq, beq_eq_false_iff_ne, bne_iff_ne, bne_eq_false_iff_eq, Bool.not_eq_true', Bool.not_eq_false', List.length_set, ne_eq, ge_iff_le, gt_iff_lt, setF_len, toNat_cast, lenOk]; omega) (T.nd (by simp only [inK_i64, inB_i, leB_i, ltB_iff, leN_iff, slOk_iff, ble_iff, blt_iff, decide_eq_true_eq, decide_eq_false_iff_not, beq_iff_eq, beq_eq_false_iff_ne, bne_iff_ne, bne_eq_false_iff_eq, Bool.not_eq_true', Bool.not_eq_false', List.length_set, ne_eq, ge_iff_le, gt_iff_lt, setF_len, toNat_cast, lenOk]; omega) (T.nd (by simp only [inK_i64, inB_i, leB_i, ltB_iff, leN_iff, slOk_iff, ble_iff, blt_iff, decide_eq_true_eq, decide_eq_false_iff_not, beq_iff_eq, beq_eq_false_iff_ne, bne_iff_ne, bne_eq_false_iff_eq, Bool.not_eq_true', Bool.not_eq_false', List.length_set, ne_eq, ge_iff_le, gt_iff_lt, setF_len, toNat_cast, lenOk]; omega) rfl)))))
      · rw [set_len]; exact fcF_len
    · show seqM (ref09_Factor_t121 _ _ _).run _ = _
      exact seqM_out (T.af (by simp only [inK_i64, inB_i, leB_i, ltB_iff, leN_iff, slOk_iff, ble_iff, blt_iff, decide_eq_true_eq, decide_eq_false_iff_not, beq_iff_eq, beq_eq_false_iff_ne, bne_iff_ne, bne_eq_false_iff_eq, Bool.not_eq_true', Bool.not_eq_false', List.length_set, ne_eq, ge_iff_le, gt_iff_lt, setF_len, toNat_cast, lenOk]; omega) rfl)

theorem ReflectFactors_spec (ls : List (List Nat)) (ts : List Nat) (ht : ts.length = ls.length) (hl : ∀ i, i < ls.length → (ls.getD i []).length ≤ 9223372036854775807) : law09_ReflectFactors_F ls.length ls ts = some (.r0 true) := by
  refine toX_of ?_
  by_cases hn : ls.length ≤ 20
  case neg =>
    refine seqM_in (a := true) ?_ (seqM_out (T.at rfl rfl))
    unfold law09_ReflectFactors_t7
    exact T.at (by simp only [inK_i64, inB_i, leB_i, ltB_iff, leN_iff, slOk_iff, ble_iff, blt_iff, decide_eq_true_eq, decide_eq_false_iff_not, beq_iff_eq, beq_eq_false_iff_ne, bne_iff_ne, bne_eq_false_iff_eq, Bool.not_eq_true', Bool.not_eq_false', List.length_set, ne_eq, ge_iff_le, gt_iff_lt, setF_len, toNat_cast, lenOk]; omega) rfl
  have hsp : law09_total_F ls.length ls = some (.r0 (totW ls ls.length)) := total_spec (by omega)
  have h7 : (law09_ReflectFactors_t7 ls.length ls).run = some (.inl (decide (totW ls ls.length > 400))) := by
    unfold law09_ReflectFactors_t7
    rw [cutL_all, hsp]
    exact T.af (by simp only [inK_i64, inB_i, leB_i, ltB_iff, leN_iff, slOk_iff, ble_iff, blt_iff, decide_eq_true_eq, decide_eq_false_iff_not, beq_iff_eq, beq_eq_false_iff_ne, bne_iff_ne, bne_eq_false_iff_eq, Bool.not_eq_true', Bool.not_eq_false', List.length_set, ne_eq, ge_iff_le, gt_iff_lt, setF_len, toNat_cast, lenOk]; omega) (T.nd (cut_ok _) (T.nd rfl rfl))
  by_cases hb : totW ls ls.length > 400
  case pos =>
    rw [decide_eq_true hb] at h7
    exact seqM_in h7 (seqM_out (T.at rfl rfl))
  rw [decide_eq_false hb] at h7
  by_cases h : AlikeP ls
  · have hL := hl 0 h.1
    refine seqM_in h7 (seqM_in (a := (0, ls.length, ls.length * ls.length, fcF ls ts ls.length ls.length)) ?_ (seqM_in (a := false) ?_ (seqM_in (a := ()) rfl (seqM_in (a := true) ?_ rfl))))
    · unfold law09_ReflectFactors_t8
      rw [cutL_all, cutL_to ht, Factor_spec h (by omega) ht hL]
      exact T.af rfl (T.a1 (by simp only [T.run, reflect_Factor_i0, cond_false]; cases Nat.ble (0 + ls.length) ls.length <;> rfl) (T.a0 (T.nd (cut_ok _) (T.nd rfl rfl))))
    · unfold law09_ReflectFactors_t9
      rw [cutL_all, Alike9_t (by omega) h]
      exact T.nd (cut_ok _) (T.nd rfl rfl)
    · unfold law09_ReflectFactors_t11
      rw [cutL_all, cutL_to ht, Factor9_spec h (by omega) ht hL, cutL_to (@fcF_len ls ts ls.length ls.length)]
      simp only [ref09_Factor_p0_0, ref09_Factor_p0_1, ref09_Factor_p0_2]
      have hf := @fcF_len ls ts ls.length ls.length
      have hnn : ls.length * ls.length ≤ 400 := Nat.mul_le_mul hn hn
      rw [cutL_to hf, Same_spec (by omega)]
      exact T.at rfl (T.nd (cut_ok _) (T.nd rfl (T.nd (by simp only [inK_i64, inB_i, leB_i, ltB_iff, leN_iff, slOk_iff, ble_iff, blt_iff, decide_eq_true_eq, decide_eq_false_iff_not, beq_iff_eq, beq_eq_false_iff_ne, bne_iff_ne, bne_eq_false_iff_eq, Bool.not_eq_true', Bool.not_eq_false', List.length_set, ne_eq, ge_iff_le, gt_iff_lt, setF_len, toNat_cast, lenOk]; omega) (T.nd (by simp only [inK_i64, inB_i, leB_i, ltB_iff, leN_iff, slOk_iff, ble_iff, blt_iff, decide_eq_true_eq, decide_eq_false_iff_not, beq_iff_eq, beq_eq_false_iff_ne, bne_iff_ne, bne_eq_false_iff_eq, Bool.not_eq_true', Bool.not_eq_false', List.length_set, ne_eq, ge_iff_le, gt_iff_lt, setF_len, toNat_cast, lenOk]; omega) (T.nd rfl (T.at rfl rfl))))))
  · refine seqM_in h7 (seqM_in (a := (2, 0, 0, [])) ?_ (seqM_in (a := true) ?_ (seqM_out ?_)))
    · unfold law09_ReflectFactors_t8
      rw [cutL_all, cutL_to ht, Factor_err h (by omega) ht]
      exact T.af rfl (T.a0 (T.nd (cut_ok _) (T.nd rfl rfl)))
    · unfold law09_ReflectFactors_t9
      rw [cutL_all, Alike9_f (by omega) h]
      exact T.nd (cut_ok _) (T.nd rfl rfl)
    · unfold law09_ReflectFactors_t10
      rw [cutL_nil, show ref09_Same_F ((0 : Nat) : Int) ((0 : Nat) : Int) [] 0 0 [] = some (.r0 true) from Same0]
      exact T.at rfl (T.at rfl (T.nd rfl (T.nd rfl (T.at rfl rfl))))
end Go.Plb.Seat

/-
  PLAIN: several reflections done at once: the program's way and the document's.
-/
namespace Go.Plb.Seat
open Go Go.Plb
set_option linter.unusedSimpArgs false
set_option linter.unusedVariables false

def bkW (ls : List (List Nat)) (xs : List Nat) (c L k i : Nat) : Nat := sumF (fun r => fmul ((ls.getD i []).getD r 0) (xs.getD (r * c + k) 0)) L
def bkX (ls : List (List Nat)) (xs tt : List Nat) (c L k i : Nat) : Nat := sumF (fun m => fmul (tt.getD (m * ls.length + i) 0) (bkW ls xs c L k m)) (i + 1)
def bkS (ls : List (List Nat)) (xs tt : List Nat) (c L k r : Nat) : Nat := sumF (fun i => fmul ((ls.getD i []).getD r 0) (bkX ls xs tt c L k i)) ls.length
def bkC (ls : List (List Nat)) (xs tt : List Nat) (c L k : Nat) (out : List Nat) (n : Nat) : List Nat := setF (fun r => r * c + k) (fun r => fsub (xs.getD (r * c + k) 0) (bkS ls xs tt c L k r)) out n
def bkF (ls : List (List Nat)) (xs tt : List Nat) (c L : Nat) : Nat → List Nat := iterF (fun k out => bkC ls xs tt c L k out L) xs
theorem bkC_len {ls : List (List Nat)} {xs tt out : List Nat} {c L k n : Nat} : (bkC ls xs tt c L k out n).length = out.length := setF_len
theorem bkF_len {ls : List (List Nat)} {xs tt : List Nat} {c L n : Nat} : (bkF ls xs tt c L n).length = xs.length := by unfold bkF; rw [iterF_len fun i l => bkC_len]
theorem bkF_other {ls : List (List Nat)} {xs tt : List Nat} {c L p : Nat} : ∀ {n : Nat}, (∀ k r, k < n → r < L → r * c + k ≠ p) → (bkF ls xs tt c L n).getD p 0 = xs.getD p 0
  | 0, _ => rfl
  | n + 1, h => by
    simp only [bkF, iterF, bkC]
    rw [setF_other fun r hr => h n r (by omega) hr]
    exact bkF_other (n := n) fun k r hk hr => h k r (by omega) hr

/-- A list filled anew, round by round. -/
def refill (val : Nat → Nat → Nat) (n : Nat) : Nat → List Nat
  | 0 => List.replicate n 0
  | k + 1 => setF (fun i => i) (val k) (refill val n k) n
theorem refill_len {val : Nat → Nat → Nat} {n : Nat} : ∀ {k : Nat}, (refill val n k).length = n
  | 0 => by simp [refill]
  | k + 1 => by simp only [refill, setF_len]; exact refill_len

theorem sum5_spec {ls : List (List Nat)} {xs : List Nat} {c k i L : Nat} (hi : i < ls.length) (hl : L ≤ (ls.getD i []).length) (hx : ∀ r, r < L → r * c + k < xs.length) (hL : xs.length ≤ 1000000000) (hb : L ≤ 1000000000) :
    reflect_sum_v5_F (L : Int) ls.length ls (i : Int) (c : Int) xs (k : Int) = some (.r0 (bkW ls xs c L k i)) := by
  refine toX_of (seqM_in rfl (seqM_in (loopM_at (fun j => (sumF (fun r => fmul ((ls.getD i []).getD r 0) (xs.getD (r * c + k) 0)) j, j)) L rfl (fun j hj => ?_) ?_) rfl))
  · have h := idxOb (x := j) (hx j hj) hL (by omega)
    show (reflect_sum_v5_t9 _ _ _ _ _ _ _ _ _).run = _
    unfold reflect_sum_v5_t9
    rw [toNat_cast]
    refine T.at (by simp only [inK_i64, inB_i, leB_i, ltB_iff, leN_iff, slOk_iff, ble_iff, blt_iff, decide_eq_true_eq, decide_eq_false_iff_not, beq_iff_eq, beq_eq_false_iff_ne, bne_iff_ne, bne_eq_false_iff_eq, Bool.not_eq_true', Bool.not_eq_false', List.length_set, ne_eq, ge_iff_le, gt_iff_lt, setF_len, toNat_cast, lenOk]; omega) (T.nd (by simp only [inK_i64, inB_i, leB_i, ltB_iff, leN_iff, slOk_iff, ble_iff, blt_iff, decide_eq_true_eq, decide_eq_false_iff_not, beq_iff_eq, beq_eq_false_iff_ne, bne_iff_ne, bne_eq_false_iff_eq, Bool.not_eq_true', Bool.not_eq_false', List.length_set, ne_eq, ge_iff_le, gt_iff_lt, setF_len, toNat_cast, lenOk]; omega) (T.nd (by simp only [inK_i64, inB_i, leB_i, ltB_iff, leN_iff, slOk_iff, ble_iff, blt_iff, decide_eq_true_eq, decide_eq_false_iff_not, beq_iff_eq, beq_eq_false_iff_ne, bne_iff_ne, bne_eq_false_iff_eq, Bool.not_eq_true', Bool.not_eq_false', List.length_set, ne_eq, ge_iff_le, gt_iff_lt, setF_len, toNat_cast, lenOk]; omega) (T.nd (by simp only [inK_i64, inB_i, leB_i, ltB_iff, leN_iff, slOk_iff, ble_iff, blt_iff, decide_eq_true_eq, decide_eq_false_iff_not, beq_iff_eq, beq_eq_false_iff_ne, bne_iff_ne, bne_eq_false_iff_eq, Bool.not_eq_true', Bool.not_eq_false', List.length_set, ne_eq, ge_iff_le, gt_iff_lt, setF_len, toNat_cast, lenOk]; omega) (T.nd (by simp only [inK_i64, inB_i, leB_i, ltB_iff, leN_iff, slOk_iff, ble_iff, blt_iff, decide_eq_true_eq, decide_eq_false_iff_not, beq_iff_eq, beq_eq_false_iff_ne, bne_iff_ne, bne_eq_false_iff_eq, Bool.not_eq_true', Bool.not_eq_false', List.length_set, ne_eq, ge_iff_le, gt_iff_lt, setF_len, toNat_cast, lenOk]; omega) (T.nd h.b (T.nd h.c (T.nd h.d (T.nd h.e (T.nd (by simp only [inK_i64, inB_i, leB_i, ltB_iff, leN_iff, slOk_iff, ble_iff, blt_iff, decide_eq_true_eq, decide_eq_false_iff_not, beq_iff_eq, beq_eq_false_iff_ne, bne_iff_ne, bne_eq_false_iff_eq, Bool.not_eq_true', Bool.not_eq_false', List.length_set, ne_eq, ge_iff_le, gt_iff_lt, setF_len, toNat_cast, lenOk]; omega) ?_)))))))))
    rw [h.f]; rfl
  · exact T.af (by simp only [inK_i64, inB_i, leB_i, ltB_iff, leN_iff, slOk_iff, ble_iff, blt_iff, decide_eq_true_eq, decide_eq_false_iff_not, beq_iff_eq, beq_eq_false_iff_ne, bne_iff_ne, bne_eq_false_iff_eq, Bool.not_eq_true', Bool.not_eq_false', List.length_set, ne_eq, ge_iff_le, gt_iff_lt, setF_len, toNat_cast, lenOk]; omega) rfl
theorem sum6_spec {tt w : List Nat} {n i d : Nat} (hx : ∀ m, m < d → m * n + i < tt.length) (hw : d ≤ w.length) (hL : tt.length ≤ 1000000000) (hb : d ≤ 1000000000) :
    reflect_sum_v6_F (d : Int) tt (n : Int) (i : Int) w = some (.r0 (sumF (fun m => fmul (tt.getD (m * n + i) 0) (w.getD m 0)) d)) := by
  refine toX_of (seqM_in rfl (seqM_in (loopM_at (fun j => (sumF (fun m => fmul (tt.getD (m * n + i) 0) (w.getD m 0)) j, j)) d rfl (fun j hj => ?_) ?_) rfl))
  · have h := idxOb (x := j) (hx j hj) hL (by omega)
    show (reflect_sum_v6_t9 _ _ _ _ _ _ _).run = _
    unfold reflect_sum_v6_t9
    refine T.at (by simp only [inK_i64, inB_i, leB_i, ltB_iff, leN_iff, slOk_iff, ble_iff, blt_iff, decide_eq_true_eq, decide_eq_false_iff_not, beq_iff_eq, beq_eq_false_iff_ne, bne_iff_ne, bne_eq_false_iff_eq, Bool.not_eq_true', Bool.not_eq_false', List.length_set, ne_eq, ge_iff_le, gt_iff_lt, setF_len, toNat_cast, lenOk]; omega) (T.nd h.b (T.nd h.c (T.nd h.d (T.nd h.e (T.nd (by simp only [inK_i64, inB_i, leB_i, ltB_iff, leN_iff, slOk_iff, ble_iff, blt_iff, decide_eq_true_eq, decide_eq_false_iff_not, beq_iff_eq, beq_eq_false_iff_ne, bne_iff_ne, bne_eq_false_iff_eq, Bool.not_eq_true', Bool.not_eq_false', List.length_set, ne_eq, ge_iff_le, gt_iff_lt, setF_len, toNat_cast, lenOk]; omega) (T.nd (by simp only [inK_i64, inB_i, leB_i, ltB_iff, leN_iff, slOk_iff, ble_iff, blt_iff, decide_eq_true_eq, decide_eq_false_iff_not, beq_iff_eq, beq_eq_false_iff_ne, bne_iff_ne, bne_eq_false_iff_eq, Bool.not_eq_true', Bool.not_eq_false', List.length_set, ne_eq, ge_iff_le, gt_iff_lt, setF_len, toNat_cast, lenOk]; omega) (T.nd (by simp only [inK_i64, inB_i, leB_i, ltB_iff, leN_iff, slOk_iff, ble_iff, blt_iff, decide_eq_true_eq, decide_eq_false_iff_not, beq_iff_eq, beq_eq_false_iff_ne, bne_iff_ne, bne_eq_false_iff_eq, Bool.not_eq_true', Bool.not_eq_false', List.length_set, ne_eq, ge_iff_le, gt_iff_lt, setF_len, toNat_cast, lenOk]; omega) ?_)))))))
    rw [h.f]; rfl
  · exact T.af (by simp only [inK_i64, inB_i, leB_i, ltB_iff, leN_iff, slOk_iff, ble_iff, blt_iff, decide_eq_true_eq, decide_eq_false_iff_not, beq_iff_eq, beq_eq_false_iff_ne, bne_iff_ne, bne_eq_false_iff_eq, Bool.not_eq_true', Bool.not_eq_false', List.length_set, ne_eq, ge_iff_le, gt_iff_lt, setF_len, toNat_cast, lenOk]; omega) rfl
theorem sum7_spec {ls : List (List Nat)} {x : List Nat} {r : Nat} (hr : ∀ i, i < ls.length → r < (ls.getD i []).length) (hx : ls.length ≤ x.length) (hb : ls.length ≤ 1000000000) :
    reflect_sum_v7_F (ls.length : Int) ls.length ls (r : Int) x = some (.r0 (sumF (fun i => fmul ((ls.getD i []).getD r 0) (x.getD i 0)) ls.length)) := by
  refine toX_of (seqM_in rfl (seqM_in (loopM_at (fun j => (sumF (fun i => fmul ((ls.getD i []).getD r 0) (x.getD i 0)) j, j)) ls.length rfl (fun j hj => ?_) ?_) rfl))
  · have h := hr j hj
    show (reflect_sum_v7_t9 _ _ _ _ _ _ _).run = _
    unfold reflect_sum_v7_t9
    rw [toNat_cast]
    exact T.at (by simp only [inK_i64, inB_i, leB_i, ltB_iff, leN_iff, slOk_iff, ble_iff, blt_iff, decide_eq_true_eq, decide_eq_false_iff_not, beq_iff_eq, beq_eq_false_iff_ne, bne_iff_ne, bne_eq_false_iff_eq, Bool.not_eq_true', Bool.not_eq_false', List.length_set, ne_eq, ge_iff_le, gt_iff_lt, setF_len, toNat_cast, lenOk]; omega) (T.nd (by simp only [inK_i64, inB_i, leB_i, ltB_iff, leN_iff, slOk_iff, ble_iff, blt_iff, decide_eq_true_eq, decide_eq_false_iff_not, beq_iff_eq, beq_eq_false_iff_ne, bne_iff_ne, bne_eq_false_iff_eq, Bool.not_eq_true', Bool.not_eq_false', List.length_set, ne_eq, ge_iff_le, gt_iff_lt, setF_len, toNat_cast, lenOk]; omega) (T.nd (by simp only [inK_i64, inB_i, leB_i, ltB_iff, leN_iff, slOk_iff, ble_iff, blt_iff, decide_eq_true_eq, decide_eq_false_iff_not, beq_iff_eq, beq_eq_false_iff_ne, bne_iff_ne, bne_eq_false_iff_eq, Bool.not_eq_true', Bool.not_eq_false', List.length_set, ne_eq, ge_iff_le, gt_iff_lt, setF_len, toNat_cast, lenOk]; omega) (T.nd (by simp only [inK_i64, inB_i, leB_i, ltB_iff, leN_iff, slOk_iff, ble_iff, blt_iff, decide_eq_true_eq, decide_eq_false_iff_not, beq_iff_eq, beq_eq_false_iff_ne, bne_iff_ne, bne_eq_false_iff_eq, Bool.not_eq_true', Bool.not_eq_false', List.length_set, ne_eq, ge_iff_le, gt_iff_lt, setF_len, toNat_cast, lenOk]; omega) (T.nd (by simp only [inK_i64, inB_i, leB_i, ltB_iff, leN_iff, slOk_iff, ble_iff, blt_iff, decide_eq_true_eq, decide_eq_false_iff_not, beq_iff_eq, beq_eq_false_iff_ne, bne_iff_ne, bne_eq_false_iff_eq, Bool.not_eq_true', Bool.not_eq_false', List.length_set, ne_eq, ge_iff_le, gt_iff_lt, setF_len, toNat_cast, lenOk]; omega) (T.nd (by simp only [inK_i64, inB_i, leB_i, ltB_iff, leN_iff, slOk_iff, ble_iff, blt_iff, decide_eq_true_eq, decide_eq_false_iff_not, beq_iff_eq, beq_eq_false_iff_ne, bne_iff_ne, bne_eq_false_iff_eq, Bool.not_eq_true', Bool.not_eq_false', List.length_set, ne_eq, ge_iff_le, gt_iff_lt, setF_len, toNat_cast, lenOk]; omega) (T.nd (by simp only [inK_i64, inB_i, leB_i, ltB_iff, leN_iff, slOk_iff, ble_iff, blt_iff, decide_eq_true_eq, decide_eq_false_iff_not, beq_iff_eq, beq_eq_false_iff_ne, bne_iff_ne, bne_eq_false_iff_eq, Bool.not_eq_true', Bool.not_eq_false', List.length_set, ne_eq, ge_iff_le, gt_iff_lt, setF_len, toNat_cast, lenOk]; omega) (T.nd (by simp only [inK_i64, inB_i, leB_i, ltB_iff, leN_iff, slOk_iff, ble_iff, blt_iff, decide_eq_true_eq, decide_eq_false_iff_not, beq_iff_eq, beq_eq_false_iff_ne, bne_iff_ne, bne_eq_false_iff_eq, Bool.not_eq_true', Bool.not_eq_false', List.length_set, ne_eq, ge_iff_le, gt_iff_lt, setF_len, toNat_cast, lenOk]; omega) rfl)))))))
  · exact T.af (by simp only [inK_i64, inB_i, leB_i, ltB_iff, leN_iff, slOk_iff, ble_iff, blt_iff, decide_eq_true_eq, decide_eq_false_iff_not, beq_iff_eq, beq_eq_false_iff_ne, bne_iff_ne, bne_eq_false_iff_eq, Bool.not_eq_true', Bool.not_eq_false', List.length_set, ne_eq, ge_iff_le, gt_iff_lt, setF_len, toNat_cast, lenOk]; omega) rfl

/-- What is given. -/
structure BkIn (ls : List (List Nat)) (xs tt : List Nat) (c L : Nat) : Prop where
  al : AlikeP ls
  hL : (ls.getD 0 []).length = L
  hx : xs.length = L * c
  hL2 : L ≤ 512
  hc2 : c ≤ 512
  hn2 : ls.length ≤ 500
  ht : tt.length = ls.length * ls.length
theorem BkIn.each {ls : List (List Nat)} {xs tt : List Nat} {c L : Nat} (h : BkIn ls xs tt c L) {i : Nat} (hi : i < ls.length) : (ls.getD i []).length = L := by rw [h.al.2.2 i hi, h.hL]
theorem BkIn.idx {ls : List (List Nat)} {xs tt : List Nat} {c L : Nat} (h : BkIn ls xs tt c L) {r k : Nat} (hr : r < L) (hk : k < c) : r * c + k < xs.length := by rw [h.hx]; exact idx_lt hr hk
theorem BkIn.len {ls : List (List Nat)} {xs tt : List Nat} {c L : Nat} (h : BkIn ls xs tt c L) : xs.length ≤ 262144 := by rw [h.hx]; exact Nat.mul_le_mul h.hL2 h.hc2
theorem BkIn.lent {ls : List (List Nat)} {xs tt : List Nat} {c L : Nat} (h : BkIn ls xs tt c L) : tt.length ≤ 250000 := by rw [h.ht]; exact Nat.mul_le_mul h.hn2 h.hn2

section
variable {ls : List (List Nat)} {xs tt : List Nat} {c L : Nat}

theorem Block_w (h : BkIn ls xs tt c L) {k : Nat} (hk : k < c) {w : List Nat} (hw : w.length = ls.length) :
    loopM (reflect_Block_m67 (c : Int) xs ls.length ls L k) (0, w) = some (.inl (setF (fun i => i) (bkW ls xs c L k) w ls.length)) := by
  have h1 := h.len; have h2 := h.hL2; have h3 := h.hn2
  refine loopM_at (fun i => (i, setF (fun i => i) (bkW ls xs c L k) w i)) ls.length rfl (fun i hi => ?_) ?_
  · show seqM (reflect_Block_t65 _ _ _ _ _ _ _ _).run _ = _
    have e := h.each hi
    refine seqM_in (a := setF (fun i => i) (bkW ls xs c L k) w (i + 1)) ?_ (T.nd (by simp only [inK_i64, inB_i, leB_i, ltB_iff, leN_iff, slOk_iff, ble_iff, blt_iff, decide_eq_true_eq, decide_eq_false_iff_not, beq_iff_eq, beq_eq_false_iff_ne, bne_iff_ne, bne_eq_false_iff_eq, Bool.not_eq_true', Bool.not_eq_false', List.length_set, ne_eq, ge_iff_le, gt_iff_lt, setF_len, toNat_cast, lenOk]; omega) rfl)
    unfold reflect_Block_t65
    rw [cutL_all, cutL_all, sum5_spec hi (by omega) (fun r hr => h.idx hr hk) (by omega) (by omega)]
    exact T.at (by simp only [inK_i64, inB_i, leB_i, ltB_iff, leN_iff, slOk_iff, ble_iff, blt_iff, decide_eq_true_eq, decide_eq_false_iff_not, beq_iff_eq, beq_eq_false_iff_ne, bne_iff_ne, bne_eq_false_iff_eq, Bool.not_eq_true', Bool.not_eq_false', List.length_set, ne_eq, ge_iff_le, gt_iff_lt, setF_len, toNat_cast, lenOk]; omega) (T.nd (cut_ok _) (T.nd (slOk_all _) (T.nd rfl (T.nd (by simp only [inK_i64, inB_i, leB_i, ltB_iff, leN_iff, slOk_iff, ble_iff, blt_iff, decide_eq_true_eq, decide_eq_false_iff_not, beq_iff_eq, beq_eq_false_iff_ne, bne_iff_ne, bne_eq_false_iff_eq, Bool.not_eq_true', Bool.not_eq_false', List.length_set, ne_eq, ge_iff_le, gt_iff_lt, setF_len, toNat_cast, lenOk]; omega) (T.nd (by simp only [inK_i64, inB_i, leB_i, ltB_iff, leN_iff, slOk_iff, ble_iff, blt_iff, decide_eq_true_eq, decide_eq_false_iff_not, beq_iff_eq, beq_eq_false_iff_ne, bne_iff_ne, bne_eq_false_iff_eq, Bool.not_eq_true', Bool.not_eq_false', List.length_set, ne_eq, ge_iff_le, gt_iff_lt, setF_len, toNat_cast, lenOk]; omega) rfl)))))
  · show seqM (reflect_Block_t65 _ _ _ _ _ _ _ _).run _ = _
    exact seqM_out (T.af (by simp only [inK_i64, inB_i, leB_i, ltB_iff, leN_iff, slOk_iff, ble_iff, blt_iff, decide_eq_true_eq, decide_eq_false_iff_not, beq_iff_eq, beq_eq_false_iff_ne, bne_iff_ne, bne_eq_false_iff_eq, Bool.not_eq_true', Bool.not_eq_false', List.length_set, ne_eq, ge_iff_le, gt_iff_lt, setF_len, toNat_cast, lenOk]; omega) rfl)

theorem Block_x (h : BkIn ls xs tt c L) {k : Nat} {w x : List Nat} (hw : w.length = ls.length) (hv : ∀ m, m < ls.length → w.getD m 0 = bkW ls xs c L k m) (hx : x.length = ls.length) :
    loopM (reflect_Block_m72 tt ls.length w) (0, x) = some (.inl (setF (fun i => i) (bkX ls xs tt c L k) x ls.length)) := by
  have h1 := h.len; have h3 := h.hn2; have h4 := h.lent
  refine loopM_at (fun i => (i, setF (fun i => i) (bkX ls xs tt c L k) x i)) ls.length rfl (fun i hi => ?_) ?_
  · show seqM (reflect_Block_t70 _ _ _ _ _).run _ = _
    refine seqM_in (a := setF (fun i => i) (bkX ls xs tt c L k) x (i + 1)) ?_ (T.nd (by simp only [inK_i64, inB_i, leB_i, ltB_iff, leN_iff, slOk_iff, ble_iff, blt_iff, decide_eq_true_eq, decide_eq_false_iff_not, beq_iff_eq, beq_eq_false_iff_ne, bne_iff_ne, bne_eq_false_iff_eq, Bool.not_eq_true', Bool.not_eq_false', List.length_set, ne_eq, ge_iff_le, gt_iff_lt, setF_len, toNat_cast, lenOk]; omega) rfl)
    unfold reflect_Block_t70
    rw [cutL_all, cutL_to hw, sum6_spec (fun m hm => by rw [h.ht]; exact idx_lt (by omega) hi) (by omega) (by omega) (by omega)]
    have e : sumF (fun m => fmul (tt.getD (m * ls.length + i) 0) (w.getD m 0)) (i + 1) = bkX ls xs tt c L k i := sumF_congr fun m hm => by rw [hv m (by omega)]
    rw [e]
    exact T.at (by simp only [inK_i64, inB_i, leB_i, ltB_iff, leN_iff, slOk_iff, ble_iff, blt_iff, decide_eq_true_eq, decide_eq_false_iff_not, beq_iff_eq, beq_eq_false_iff_ne, bne_iff_ne, bne_eq_false_iff_eq, Bool.not_eq_true', Bool.not_eq_false', List.length_set, ne_eq, ge_iff_le, gt_iff_lt, setF_len, toNat_cast, lenOk]; omega) (T.nd (by simp only [inK_i64, inB_i, leB_i, ltB_iff, leN_iff, slOk_iff, ble_iff, blt_iff, decide_eq_true_eq, decide_eq_false_iff_not, beq_iff_eq, beq_eq_false_iff_ne, bne_iff_ne, bne_eq_false_iff_eq, Bool.not_eq_true', Bool.not_eq_false', List.length_set, ne_eq, ge_iff_le, gt_iff_lt, setF_len, toNat_cast, lenOk]; omega) (T.nd (slOk_all _) (T.nd (by simp only [inK_i64, inB_i, leB_i, ltB_iff, leN_iff, slOk_iff, ble_iff, blt_iff, decide_eq_true_eq, decide_eq_false_iff_not, beq_iff_eq, beq_eq_false_iff_ne, bne_iff_ne, bne_eq_false_iff_eq, Bool.not_eq_true', Bool.not_eq_false', List.length_set, ne_eq, ge_iff_le, gt_iff_lt, setF_len, toNat_cast, lenOk]; omega) (T.nd rfl (T.nd (by simp only [inK_i64, inB_i, leB_i, ltB_iff, leN_iff, slOk_iff, ble_iff, blt_iff, decide_eq_true_eq, decide_eq_false_iff_not, beq_iff_eq, beq_eq_false_iff_ne, bne_iff_ne, bne_eq_false_iff_eq, Bool.not_eq_true', Bool.not_eq_false', List.length_set, ne_eq, ge_iff_le, gt_iff_lt, setF_len, toNat_cast, lenOk]; omega) (T.nd (by simp only [inK_i64, inB_i, leB_i, ltB_iff, leN_iff, slOk_iff, ble_iff, blt_iff, decide_eq_true_eq, decide_eq_false_iff_not, beq_iff_eq, beq_eq_false_iff_ne, bne_iff_ne, bne_eq_false_iff_eq, Bool.not_eq_true', Bool.not_eq_false', List.length_set, ne_eq, ge_iff_le, gt_iff_lt, setF_len, toNat_cast, lenOk]; omega) rfl))))))
  · show seqM (reflect_Block_t70 _ _ _ _ _).run _ = _
    exact seqM_out (T.af (by simp only [inK_i64, inB_i, leB_i, ltB_iff, leN_iff, slOk_iff, ble_iff, blt_iff, decide_eq_true_eq, decide_eq_false_iff_not, beq_iff_eq, beq_eq_false_iff_ne, bne_iff_ne, bne_eq_false_iff_eq, Bool.not_eq_true', Bool.not_eq_false', List.length_set, ne_eq, ge_iff_le, gt_iff_lt, setF_len, toNat_cast, lenOk]; omega) rfl)

theorem Block_o (h : BkIn ls xs tt c L) {k n : Nat} (hk : k < c) {x out : List Nat} (hn : n = xs.length) (hx : x.length = ls.length) (hv : ∀ i, i < ls.length → x.getD i 0 = bkX ls xs tt c L k i) (ho : out.length = xs.length)
    (hs : ∀ r, r < L → out.getD (r * c + k) 0 = xs.getD (r * c + k) 0) :
    loopM (reflect_Block_m77 (c : Int) ls.length ls L n k x) (0, out) = some (.inl (bkC ls xs tt c L k out L)) := by
  have h1 := h.len; have h2 := h.hL2; have h3 := h.hn2
  refine loopM_at (fun r => (r, bkC ls xs tt c L k out r)) L rfl (fun r hr => ?_) ?_
  · show seqM (reflect_Block_t75 _ _ _ _ _ _ _ _ _).run _ = _
    have q := idxOb (x := r) (h.idx hr hk) (by omega) (by omega)
    have hl : (bkC ls xs tt c L k out r).length = xs.length := by rw [bkC_len, ho]
    refine seqM_in (a := bkC ls xs tt c L k out (r + 1)) ?_ (T.nd (by simp only [inK_i64, inB_i, leB_i, ltB_iff, leN_iff, slOk_iff, ble_iff, blt_iff, decide_eq_true_eq, decide_eq_false_iff_not, beq_iff_eq, beq_eq_false_iff_ne, bne_iff_ne, bne_eq_false_iff_eq, Bool.not_eq_true', Bool.not_eq_false', List.length_set, ne_eq, ge_iff_le, gt_iff_lt, setF_len, toNat_cast, lenOk]; omega) rfl)
    unfold reflect_Block_t75
    rw [cutL_all, cutL_to hx, hl, hn, sum7_spec (fun i hi => by rw [h.each hi]; exact hr) (by omega) (by omega)]
    have e : sumF (fun i => fmul ((ls.getD i []).getD r 0) (x.getD i 0)) ls.length = bkS ls xs tt c L k r := sumF_congr fun i hi => by rw [hv i hi]
    have e2 : (bkC ls xs tt c L k out r).getD (r * c + k) 0 = xs.getD (r * c + k) 0 := by
      unfold bkC
      rw [setF_other fun i hi q => ?_]
      · exact hs r hr
      · have := (idx_inj hk hk q).1; omega
    rw [e, q.f, e2]
    exact T.at (by simp only [inK_i64, inB_i, leB_i, ltB_iff, leN_iff, slOk_iff, ble_iff, blt_iff, decide_eq_true_eq, decide_eq_false_iff_not, beq_iff_eq, beq_eq_false_iff_ne, bne_iff_ne, bne_eq_false_iff_eq, Bool.not_eq_true', Bool.not_eq_false', List.length_set, ne_eq, ge_iff_le, gt_iff_lt, setF_len, toNat_cast, lenOk]; omega) (T.nd q.b (T.nd q.c (T.nd q.d (T.nd (by rw [← q.f]; exact q.e) (T.nd (cut_ok _) (T.nd (by simp only [inK_i64, inB_i, leB_i, ltB_iff, leN_iff, slOk_iff, ble_iff, blt_iff, decide_eq_true_eq, decide_eq_false_iff_not, beq_iff_eq, beq_eq_false_iff_ne, bne_iff_ne, bne_eq_false_iff_eq, Bool.not_eq_true', Bool.not_eq_false', List.length_set, ne_eq, ge_iff_le, gt_iff_lt, setF_len, toNat_cast, lenOk]; omega) (T.nd rfl (T.nd q.d (T.nd (by rw [← q.f]; exact q.e) rfl)))))))))
  · show seqM (reflect_Block_t75 _ _ _ _ _ _ _ _ _).run _ = _
    exact seqM_out (T.af (by simp only [inK_i64, inB_i, leB_i, ltB_iff, leN_iff, slOk_iff, ble_iff, blt_iff, decide_eq_true_eq, decide_eq_false_iff_not, beq_iff_eq, beq_eq_false_iff_ne, bne_iff_ne, bne_eq_false_iff_eq, Bool.not_eq_true', Bool.not_eq_false', List.length_set, ne_eq, ge_iff_le, gt_iff_lt, setF_len, toNat_cast, lenOk]; omega) rfl)

theorem Block_loop (h : BkIn ls xs tt c L) :
    loopM (reflect_Block_m80 (c : Int) xs tt ls.length ls L xs.length) (0, xs, List.replicate ls.length 0, List.replicate ls.length 0) = some (.inl (bkF ls xs tt c L c)) := by
  have h1 := h.len; have h2 := h.hL2; have h3 := h.hn2; have h4 := h.hc2
  refine loopM_at (fun k => (k, bkF ls xs tt c L k, refill (bkW ls xs c L) ls.length k, refill (bkX ls xs tt c L) ls.length k)) c rfl (fun k hk => ?_) ?_
  · show seqM (reflect_Block_t61 _ _ _).run _ = _
    refine seqM_in (a := ()) (T.at (by simp only [inK_i64, inB_i, leB_i, ltB_iff, leN_iff, slOk_iff, ble_iff, blt_iff, decide_eq_true_eq, decide_eq_false_iff_not, beq_iff_eq, beq_eq_false_iff_ne, bne_iff_ne, bne_eq_false_iff_eq, Bool.not_eq_true', Bool.not_eq_false', List.length_set, ne_eq, ge_iff_le, gt_iff_lt, setF_len, toNat_cast, lenOk]; omega) rfl) (seqM_in (joinM_in (a := (bkF ls xs tt c L (k + 1), refill (bkW ls xs c L) ls.length (k + 1), refill (bkX ls xs tt c L) ls.length (k + 1))) ?_) (T.nd (by simp only [inK_i64, inB_i, leB_i, ltB_iff, leN_iff, slOk_iff, ble_iff, blt_iff, decide_eq_true_eq, decide_eq_false_iff_not, beq_iff_eq, beq_eq_false_iff_ne, bne_iff_ne, bne_eq_false_iff_eq, Bool.not_eq_true', Bool.not_eq_false', List.length_set, ne_eq, ge_iff_le, gt_iff_lt, setF_len, toNat_cast, lenOk]; omega) rfl))
    refine seqM_in rfl (seqM_in (Block_w h hk refill_len) (seqM_in rfl (seqM_in (Block_x h (k := k) ?_ ?_ refill_len) (seqM_in rfl (seqM_in (Block_o h hk rfl ?_ ?_ bkF_len ?_) rfl)))))
    · rw [setF_len]; exact refill_len
    · exact fun m hm => setF_at hm (by rw [refill_len]; exact Nat.le_refl _)
    · rw [setF_len]; exact refill_len
    · exact fun m hm => setF_at hm (by rw [refill_len]; exact Nat.le_refl _)
    · intro r hr
      refine bkF_other fun k' r' hk' hr' q => ?_
      have := (idx_inj (by omega) hk q).2
      omega
  · show seqM (reflect_Block_t61 _ _ _).run _ = _
    exact seqM_out (T.af (by simp only [inK_i64, inB_i, leB_i, ltB_iff, leN_iff, slOk_iff, ble_iff, blt_iff, decide_eq_true_eq, decide_eq_false_iff_not, beq_iff_eq, beq_eq_false_iff_ne, bne_iff_ne, bne_eq_false_iff_eq, Bool.not_eq_true', Bool.not_eq_false', List.length_set, ne_eq, ge_iff_le, gt_iff_lt, setF_len, toNat_cast, lenOk]; omega) rfl)

-- the document's
theorem set_self {l : List Nat} {i : Nat} {v : Nat} (hi : i < l.length) (h : l.getD i 0 = v) : l.set i v = l := by
  have : l[i] = v := by rw [← h, List.getD_eq_getElem?_getD, List.getElem?_eq_getElem hi]; rfl
  rw [← this]; exact List.set_getElem_self hi
theorem set_getD {l : List Nat} {i v : Nat} (hi : i < l.length) : (l.set i v).getD i 0 = v := by
  simp [List.getD_eq_getElem?_getD, hi]
theorem fresh_at {val : Nat → Nat} {n i : Nat} (hi : i < n) : (setF (fun i => i) val (List.replicate n 0) i).getD i 0 = 0 := by
  rw [setF_other fun j hj => by omega]
  simp [List.getD_eq_getElem?_getD, List.getElem?_replicate, hi]

theorem Block9_w1 (h : BkIn ls xs tt c L) {k i : Nat} (hk : k < c) (hi : i < ls.length) {w : List Nat} (hw : w.length = ls.length) (h0 : w.getD i 0 = 0) :
    loopM (ref09_Block_m150 (L : Int) (c : Int) xs ls.length ls k i) (0, w) = some (.inl (w.set i (bkW ls xs c L k i))) := by
  have h1 := h.len; have h2 := h.hL2; have h3 := h.hn2
  have e := h.each hi
  refine loopM_at (fun r => (r, w.set i (sumF (fun r => fmul ((ls.getD i []).getD r 0) (xs.getD (r * c + k) 0)) r))) L (by simp only [sumF]; rw [set_self (by omega) h0]) (fun r hr => ?_) ?_
  · have q := idxOb (x := r) (h.idx hr hk) (by omega) (by omega)
    show (ref09_Block_t149 _ _ _ _ _ _ _ _ _).run = _
    unfold ref09_Block_t149
    rw [q.f, set_getD (by omega), List.set_set]
    exact T.at (by simp only [inK_i64, inB_i, leB_i, ltB_iff, leN_iff, slOk_iff, ble_iff, blt_iff, decide_eq_true_eq, decide_eq_false_iff_not, beq_iff_eq, beq_eq_false_iff_ne, bne_iff_ne, bne_eq_false_iff_eq, Bool.not_eq_true', Bool.not_eq_false', List.length_set, ne_eq, ge_iff_le, gt_iff_lt, setF_len, toNat_cast, lenOk]; omega) (T.nd (by simp only [inK_i64, inB_i, leB_i, ltB_iff, leN_iff, slOk_iff, ble_iff, blt_iff, decide_eq_true_eq, decide_eq_false_iff_not, beq_iff_eq, beq_eq_false_iff_ne, bne_iff_ne, bne_eq_false_iff_eq, Bool.not_eq_true', Bool.not_eq_false', List.length_set, ne_eq, ge_iff_le, gt_iff_lt, setF_len, toNat_cast, lenOk]; omega) (T.nd (by simp only [inK_i64, inB_i, leB_i, ltB_iff, leN_iff, slOk_iff, ble_iff, blt_iff, decide_eq_true_eq, decide_eq_false_iff_not, beq_iff_eq, beq_eq_false_iff_ne, bne_iff_ne, bne_eq_false_iff_eq, Bool.not_eq_true', Bool.not_eq_false', List.length_set, ne_eq, ge_iff_le, gt_iff_lt, setF_len, toNat_cast, lenOk]; omega) (T.nd (by simp only [inK_i64, inB_i, leB_i, ltB_iff, leN_iff, slOk_iff, ble_iff, blt_iff, decide_eq_true_eq, decide_eq_false_iff_not, beq_iff_eq, beq_eq_false_iff_ne, bne_iff_ne, bne_eq_false_iff_eq, Bool.not_eq_true', Bool.not_eq_false', List.length_set, ne_eq, ge_iff_le, gt_iff_lt, setF_len, toNat_cast, lenOk]; omega) (T.nd (by simp only [inK_i64, inB_i, leB_i, ltB_iff, leN_iff, slOk_iff, ble_iff, blt_iff, decide_eq_true_eq, decide_eq_false_iff_not, beq_iff_eq, beq_eq_false_iff_ne, bne_iff_ne, bne_eq_false_iff_eq, Bool.not_eq_true', Bool.not_eq_false', List.length_set, ne_eq, ge_iff_le, gt_iff_lt, setF_len, toNat_cast, lenOk]; omega) (T.nd q.b (T.nd q.c (T.nd q.d (T.nd (by rw [← q.f]; exact q.e) (T.nd (by simp only [inK_i64, inB_i, leB_i, ltB_iff, leN_iff, slOk_iff, ble_iff, blt_iff, decide_eq_true_eq, decide_eq_false_iff_not, beq_iff_eq, beq_eq_false_iff_ne, bne_iff_ne, bne_eq_false_iff_eq, Bool.not_eq_true', Bool.not_eq_false', List.length_set, ne_eq, ge_iff_le, gt_iff_lt, setF_len, toNat_cast, lenOk]; omega) (T.nd (by simp only [inK_i64, inB_i, leB_i, ltB_iff, leN_iff, slOk_iff, ble_iff, blt_iff, decide_eq_true_eq, decide_eq_false_iff_not, beq_iff_eq, beq_eq_false_iff_ne, bne_iff_ne, bne_eq_false_iff_eq, Bool.not_eq_true', Bool.not_eq_false', List.length_set, ne_eq, ge_iff_le, gt_iff_lt, setF_len, toNat_cast, lenOk]; omega) (T.nd (by simp only [inK_i64, inB_i, leB_i, ltB_iff, leN_iff, slOk_iff, ble_iff, blt_iff, decide_eq_true_eq, decide_eq_false_iff_not, beq_iff_eq, beq_eq_false_iff_ne, bne_iff_ne, bne_eq_false_iff_eq, Bool.not_eq_true', Bool.not_eq_false', List.length_set, ne_eq, ge_iff_le, gt_iff_lt, setF_len, toNat_cast, lenOk]; omega) (T.nd (by simp only [inK_i64, inB_i, leB_i, ltB_iff, leN_iff, slOk_iff, ble_iff, blt_iff, decide_eq_true_eq, decide_eq_false_iff_not, beq_iff_eq, beq_eq_false_iff_ne, bne_iff_ne, bne_eq_false_iff_eq, Bool.not_eq_true', Bool.not_eq_false', List.length_set, ne_eq, ge_iff_le, gt_iff_lt, setF_len, toNat_cast, lenOk]; omega) (T.nd (by simp only [inK_i64, inB_i, leB_i, ltB_iff, leN_iff, slOk_iff, ble_iff, blt_iff, decide_eq_true_eq, decide_eq_false_iff_not, beq_iff_eq, beq_eq_false_iff_ne, bne_iff_ne, bne_eq_false_iff_eq, Bool.not_eq_true', Bool.not_eq_false', List.length_set, ne_eq, ge_iff_le, gt_iff_lt, setF_len, toNat_cast, lenOk]; omega) rfl)))))))))))))
  · exact T.af (by simp only [inK_i64, inB_i, leB_i, ltB_iff, leN_iff, slOk_iff, ble_iff, blt_iff, decide_eq_true_eq, decide_eq_false_iff_not, beq_iff_eq, beq_eq_false_iff_ne, bne_iff_ne, bne_eq_false_iff_eq, Bool.not_eq_true', Bool.not_eq_false', List.length_set, ne_eq, ge_iff_le, gt_iff_lt, setF_len, toNat_cast, lenOk]; omega) rfl

theorem Block9_w (h : BkIn ls xs tt c L) {k : Nat} (hk : k < c) :
    loopM (ref09_Block_m153 (L : Int) (c : Int) xs ls.length ls k) (0, List.replicate ls.length 0) = some (.inl (setF (fun i => i) (bkW ls xs c L k) (List.replicate ls.length 0) ls.length)) := by
  have h3 := h.hn2
  refine loopM_at (fun i => (i, setF (fun i => i) (bkW ls xs c L k) (List.replicate ls.length 0) i)) ls.length rfl (fun i hi => ?_) ?_
  · show seqM (ref09_Block_t145 _ _ _).run _ = _
    refine seqM_in (a := ()) (T.at (by simp only [inK_i64, inB_i, leB_i, ltB_iff, leN_iff, slOk_iff, ble_iff, blt_iff, decide_eq_true_eq, decide_eq_false_iff_not, beq_iff_eq, beq_eq_false_iff_ne, bne_iff_ne, bne_eq_false_iff_eq, Bool.not_eq_true', Bool.not_eq_false', List.length_set, ne_eq, ge_iff_le, gt_iff_lt, setF_len, toNat_cast, lenOk]; omega) rfl) (seqM_in (joinM_in (a := setF (fun i => i) (bkW ls xs c L k) (List.replicate ls.length 0) (i + 1)) ?_) (T.nd (by simp only [inK_i64, inB_i, leB_i, ltB_iff, leN_iff, slOk_iff, ble_iff, blt_iff, decide_eq_true_eq, decide_eq_false_iff_not, beq_iff_eq, beq_eq_false_iff_ne, bne_iff_ne, bne_eq_false_iff_eq, Bool.not_eq_true', Bool.not_eq_false', List.length_set, ne_eq, ge_iff_le, gt_iff_lt, setF_len, toNat_cast, lenOk]; omega) rfl))
    exact seqM_in rfl (seqM_in (Block9_w1 h hk hi (by rw [setF_len]; simp) (fresh_at hi)) rfl)
  · show seqM (ref09_Block_t145 _ _ _).run _ = _
    exact seqM_out (T.af (by simp only [inK_i64, inB_i, leB_i, ltB_iff, leN_iff, slOk_iff, ble_iff, blt_iff, decide_eq_true_eq, decide_eq_false_iff_not, beq_iff_eq, beq_eq_false_iff_ne, bne_iff_ne, bne_eq_false_iff_eq, Bool.not_eq_true', Bool.not_eq_false', List.length_set, ne_eq, ge_iff_le, gt_iff_lt, setF_len, toNat_cast, lenOk]; omega) rfl)

theorem Block9_x1 (h : BkIn ls xs tt c L) {k i : Nat} (hi : i < ls.length) {w x : List Nat} (hw : w.length = ls.length) (hv : ∀ m, m < ls.length → w.getD m 0 = bkW ls xs c L k m) (hx : x.length = ls.length) (h0 : x.getD i 0 = 0) :
    loopM (ref09_Block_m161 tt ls.length w i) (0, x) = some (.inl (x.set i (bkX ls xs tt c L k i))) := by
  have h3 := h.hn2; have h4 := h.lent
  refine loopM_at (fun m => (m, x.set i (sumF (fun m => fmul (tt.getD (m * ls.length + i) 0) (bkW ls xs c L k m)) m))) (i + 1) (by simp only [sumF]; rw [set_self (by omega) h0]) (fun m hm => ?_) ?_
  · have q : m * ls.length + i < tt.length := by rw [h.ht]; exact idx_lt (by omega) hi
    show (ref09_Block_t160 _ _ _ _ _ _).run = _
    unfold ref09_Block_t160
    rw [set_getD (by omega), List.set_set, hv m (by omega)]
    exact T.at (by simp only [inK_i64, inB_i, leB_i, ltB_iff, leN_iff, slOk_iff, ble_iff, blt_iff, decide_eq_true_eq, decide_eq_false_iff_not, beq_iff_eq, beq_eq_false_iff_ne, bne_iff_ne, bne_eq_false_iff_eq, Bool.not_eq_true', Bool.not_eq_false', List.length_set, ne_eq, ge_iff_le, gt_iff_lt, setF_len, toNat_cast, lenOk]; omega) (T.nd (by simp only [inK_i64, inB_i, leB_i, ltB_iff, leN_iff, slOk_iff, ble_iff, blt_iff, decide_eq_true_eq, decide_eq_false_iff_not, beq_iff_eq, beq_eq_false_iff_ne, bne_iff_ne, bne_eq_false_iff_eq, Bool.not_eq_true', Bool.not_eq_false', List.length_set, ne_eq, ge_iff_le, gt_iff_lt, setF_len, toNat_cast, lenOk]; omega) (T.nd (by simp only [inK_i64, inB_i, leB_i, ltB_iff, leN_iff, slOk_iff, ble_iff, blt_iff, decide_eq_true_eq, decide_eq_false_iff_not, beq_iff_eq, beq_eq_false_iff_ne, bne_iff_ne, bne_eq_false_iff_eq, Bool.not_eq_true', Bool.not_eq_false', List.length_set, ne_eq, ge_iff_le, gt_iff_lt, setF_len, toNat_cast, lenOk]; omega) (T.nd (by simp only [inK_i64, inB_i, leB_i, ltB_iff, leN_iff, slOk_iff, ble_iff, blt_iff, decide_eq_true_eq, decide_eq_false_iff_not, beq_iff_eq, beq_eq_false_iff_ne, bne_iff_ne, bne_eq_false_iff_eq, Bool.not_eq_true', Bool.not_eq_false', List.length_set, ne_eq, ge_iff_le, gt_iff_lt, setF_len, toNat_cast, lenOk]; omega) (T.nd (by simp only [inK_i64, inB_i, leB_i, ltB_iff, leN_iff, slOk_iff, ble_iff, blt_iff, decide_eq_true_eq, decide_eq_false_iff_not, beq_iff_eq, beq_eq_false_iff_ne, bne_iff_ne, bne_eq_false_iff_eq, Bool.not_eq_true', Bool.not_eq_false', List.length_set, ne_eq, ge_iff_le, gt_iff_lt, setF_len, toNat_cast, lenOk]; omega) (T.nd (by simp only [inK_i64, inB_i, leB_i, ltB_iff, leN_iff, slOk_iff, ble_iff, blt_iff, decide_eq_true_eq, decide_eq_false_iff_not, beq_iff_eq, beq_eq_false_iff_ne, bne_iff_ne, bne_eq_false_iff_eq, Bool.not_eq_true', Bool.not_eq_false', List.length_set, ne_eq, ge_iff_le, gt_iff_lt, setF_len, toNat_cast, lenOk]; omega) (T.nd (by simp only [inK_i64, inB_i, leB_i, ltB_iff, leN_iff, slOk_iff, ble_iff, blt_iff, decide_eq_true_eq, decide_eq_false_iff_not, beq_iff_eq, beq_eq_false_iff_ne, bne_iff_ne, bne_eq_false_iff_eq, Bool.not_eq_true', Bool.not_eq_false', List.length_set, ne_eq, ge_iff_le, gt_iff_lt, setF_len, toNat_cast, lenOk]; omega) (T.nd (by simp only [inK_i64, inB_i, leB_i, ltB_iff, leN_iff, slOk_iff, ble_iff, blt_iff, decide_eq_true_eq, decide_eq_false_iff_not, beq_iff_eq, beq_eq_false_iff_ne, bne_iff_ne, bne_eq_false_iff_eq, Bool.not_eq_true', Bool.not_eq_false', List.length_set, ne_eq, ge_iff_le, gt_iff_lt, setF_len, toNat_cast, lenOk]; omega) (T.nd (by simp only [inK_i64, inB_i, leB_i, ltB_iff, leN_iff, slOk_iff, ble_iff, blt_iff, decide_eq_true_eq, decide_eq_false_iff_not, beq_iff_eq, beq_eq_false_iff_ne, bne_iff_ne, bne_eq_false_iff_eq, Bool.not_eq_true', Bool.not_eq_false', List.length_set, ne_eq, ge_iff_le, gt_iff_lt, setF_len, toNat_cast, lenOk]; omega) (T.nd (by simp only [inK_i64, inB_i, leB_i, ltB_iff, leN_iff, slOk_iff, ble_iff, blt_iff, decide_eq_true_eq, decide_eq_false_iff_not, beq_iff_eq, beq_eq_false_iff_ne, bne_iff_ne, bne_eq_false_iff_eq, Bool.not_eq_true', Bool.not_eq_false', List.length_set, ne_eq, ge_iff_le, gt_iff_lt, setF_len, toNat_cast, lenOk]; omega) (T.nd (by simp only [inK_i64, inB_i, leB_i, ltB_iff, leN_iff, slOk_iff, ble_iff, blt_iff, decide_eq_true_eq, decide_eq_false_iff_not, beq_iff_eq, beq_eq_false_iff_ne, bne_iff_ne, bne_eq_false_iff_eq, Bool.not_eq_true', Bool.not_eq_false', List.length_set, ne_eq, ge_iff_le, gt_iff_lt, setF_len, toNat_cast, lenOk]; omega) (T.nd (by simp only [inK_i64, inB_i, leB_i, ltB_iff, leN_iff, slOk_iff, ble_iff, blt_iff, decide_eq_true_eq, decide_eq_false_iff_not, beq_iff_eq, beq_eq_false_iff_ne, bne_iff_ne, bne_eq_false_iff_eq, Bool.not_eq_true', Bool.not_eq_false', List.length_set, ne_eq, ge_iff_le, gt_iff_lt, setF_len, toNat_cast, lenOk]; omega) rfl)))))))))))
  · exact T.af (by simp only [inK_i64, inB_i, leB_i, ltB_iff, leN_iff, slOk_iff, ble_iff, blt_iff, decide_eq_true_eq, decide_eq_false_iff_not, beq_iff_eq, beq_eq_false_iff_ne, bne_iff_ne, bne_eq_false_iff_eq, Bool.not_eq_true', Bool.not_eq_false', List.length_set, ne_eq, ge_iff_le, gt_iff_lt, setF_len, toNat_cast, lenOk]; omega) rfl

theorem Block9_x (h : BkIn ls xs tt c L) {k : Nat} {w : List Nat} (hw : w.length = ls.length) (hv : ∀ m, m < ls.length → w.getD m 0 = bkW ls xs c L k m) :
    loopM (ref09_Block_m164 tt ls.length w) (0, List.replicate ls.length 0) = some (.inl (setF (fun i => i) (bkX ls xs tt c L k) (List.replicate ls.length 0) ls.length)) := by
  have h3 := h.hn2
  refine loopM_at (fun i => (i, setF (fun i => i) (bkX ls xs tt c L k) (List.replicate ls.length 0) i)) ls.length rfl (fun i hi => ?_) ?_
  · show seqM (ref09_Block_t156 _ _ _).run _ = _
    refine seqM_in (a := ()) (T.at (by simp only [inK_i64, inB_i, leB_i, ltB_iff, leN_iff, slOk_iff, ble_iff, blt_iff, decide_eq_true_eq, decide_eq_false_iff_not, beq_iff_eq, beq_eq_false_iff_ne, bne_iff_ne, bne_eq_false_iff_eq, Bool.not_eq_true', Bool.not_eq_false', List.length_set, ne_eq, ge_iff_le, gt_iff_lt, setF_len, toNat_cast, lenOk]; omega) rfl) (seqM_in (joinM_in (a := setF (fun i => i) (bkX ls xs tt c L k) (List.replicate ls.length 0) (i + 1)) ?_) (T.nd (by simp only [inK_i64, inB_i, leB_i, ltB_iff, leN_iff, slOk_iff, ble_iff, blt_iff, decide_eq_true_eq, decide_eq_false_iff_not, beq_iff_eq, beq_eq_false_iff_ne, bne_iff_ne, bne_eq_false_iff_eq, Bool.not_eq_true', Bool.not_eq_false', List.length_set, ne_eq, ge_iff_le, gt_iff_lt, setF_len, toNat_cast, lenOk]; omega) rfl))
    exact seqM_in rfl (seqM_in (Block9_x1 h hi hw hv (by rw [setF_len]; simp) (fresh_at hi)) rfl)
  · show seqM (ref09_Block_t156 _ _ _).run _ = _
    exact seqM_out (T.af (by simp only [inK_i64, inB_i, leB_i, ltB_iff, leN_iff, slOk_iff, ble_iff, blt_iff, decide_eq_true_eq, decide_eq_false_iff_not, beq_iff_eq, beq_eq_false_iff_ne, bne_iff_ne, bne_eq_false_iff_eq, Bool.not_eq_true', Bool.not_eq_false', List.length_set, ne_eq, ge_iff_le, gt_iff_lt, setF_len, toNat_cast, lenOk]; omega) rfl)

theorem Block9_s (h : BkIn ls xs tt c L) {k r : Nat} (hr : r < L) {x : List Nat} (hx : x.length = ls.length) (hv : ∀ i, i < ls.length → x.getD i 0 = bkX ls xs tt c L k i) :
    loopM (ref09_Block_m172 ls.length ls x r) (0, 0) = some (.inl (bkS ls xs tt c L k r)) := by
  have h3 := h.hn2
  refine loopM_at (fun i => (sumF (fun i => fmul ((ls.getD i []).getD r 0) (bkX ls xs tt c L k i)) i, i)) ls.length rfl (fun i hi => ?_) ?_
  · have e := h.each hi
    show (ref09_Block_t171 _ _ _ _ _ _).run = _
    unfold ref09_Block_t171
    rw [hv i hi]
    exact T.at (by simp only [inK_i64, inB_i, leB_i, ltB_iff, leN_iff, slOk_iff, ble_iff, blt_iff, decide_eq_true_eq, decide_eq_false_iff_not, beq_iff_eq, beq_eq_false_iff_ne, bne_iff_ne, bne_eq_false_iff_eq, Bool.not_eq_true', Bool.not_eq_false', List.length_set, ne_eq, ge_iff_le, gt_iff_lt, setF_len, toNat_cast, lenOk]; omega) (T.nd (by simp only [inK_i64, inB_i, leB_i, ltB_iff, leN_iff, slOk_iff, ble_iff, blt_iff, decide_eq_true_eq, decide_eq_false_iff_not, beq_iff_eq, beq_eq_false_iff_ne, bne_iff_ne, bne_eq_false_iff_eq, Bool.not_eq_true', Bool.not_eq_false', List.length_set, ne_eq, ge_iff_le, gt_iff_lt, setF_len, toNat_cast, lenOk]; omega) (T.nd (by simp only [inK_i64, inB_i, leB_i, ltB_iff, leN_iff, slOk_iff, ble_iff, blt_iff, decide_eq_true_eq, decide_eq_false_iff_not, beq_iff_eq, beq_eq_false_iff_ne, bne_iff_ne, bne_eq_false_iff_eq, Bool.not_eq_true', Bool.not_eq_false', List.length_set, ne_eq, ge_iff_le, gt_iff_lt, setF_len, toNat_cast, lenOk]; omega) (T.nd (by simp only [inK_i64, inB_i, leB_i, ltB_iff, leN_iff, slOk_iff, ble_iff, blt_iff, decide_eq_true_eq, decide_eq_false_iff_not, beq_iff_eq, beq_eq_false_iff_ne, bne_iff_ne, bne_eq_false_iff_eq, Bool.not_eq_true', Bool.not_eq_false', List.length_set, ne_eq, ge_iff_le, gt_iff_lt, setF_len, toNat_cast, lenOk]; omega) (T.nd (by simp only [inK_i64, inB_i, leB_i, ltB_iff, leN_iff, slOk_iff, ble_iff, blt_iff, decide_eq_true_eq, decide_eq_false_iff_not, beq_iff_eq, beq_eq_false_iff_ne, bne_iff_ne, bne_eq_false_iff_eq, Bool.not_eq_true', Bool.not_eq_false', List.length_set, ne_eq, ge_iff_le, gt_iff_lt, setF_len, toNat_cast, lenOk]; omega) (T.nd (by simp only [inK_i64, inB_i, leB_i, ltB_iff, leN_iff, slOk_iff, ble_iff, blt_iff, decide_eq_true_eq, decide_eq_false_iff_not, beq_iff_eq, beq_eq_false_iff_ne, bne_iff_ne, bne_eq_false_iff_eq, Bool.not_eq_true', Bool.not_eq_false', List.length_set, ne_eq, ge_iff_le, gt_iff_lt, setF_len, toNat_cast, lenOk]; omega) (T.nd (by simp only [inK_i64, inB_i, leB_i, ltB_iff, leN_iff, slOk_iff, ble_iff, blt_iff, decide_eq_true_eq, decide_eq_false_iff_not, beq_iff_eq, beq_eq_false_iff_ne, bne_iff_ne, bne_eq_false_iff_eq, Bool.not_eq_true', Bool.not_eq_false', List.length_set, ne_eq, ge_iff_le, gt_iff_lt, setF_len, toNat_cast, lenOk]; omega) (T.nd (by simp only [inK_i64, inB_i, leB_i, ltB_iff, leN_iff, slOk_iff, ble_iff, blt_iff, decide_eq_true_eq, decide_eq_false_iff_not, beq_iff_eq, beq_eq_false_iff_ne, bne_iff_ne, bne_eq_false_iff_eq, Bool.not_eq_true', Bool.not_eq_false', List.length_set, ne_eq, ge_iff_le, gt_iff_lt, setF_len, toNat_cast, lenOk]; omega) rfl)))))))
  · exact T.af (by simp only [inK_i64, inB_i, leB_i, ltB_iff, leN_iff, slOk_iff, ble_iff, blt_iff, decide_eq_true_eq, decide_eq_false_iff_not, beq_iff_eq, beq_eq_false_iff_ne, bne_iff_ne, bne_eq_false_iff_eq, Bool.not_eq_true', Bool.not_eq_false', List.length_set, ne_eq, ge_iff_le, gt_iff_lt, setF_len, toNat_cast, lenOk]; omega) rfl

theorem Block9_o (h : BkIn ls xs tt c L) {k : Nat} (hk : k < c) {x out : List Nat} (hx : x.length = ls.length) (hv : ∀ i, i < ls.length → x.getD i 0 = bkX ls xs tt c L k i) (ho : out.length = xs.length) :
    loopM (ref09_Block_m175 (L : Int) (c : Int) xs ls.length ls k x) (0, out) = some (.inl (bkC ls xs tt c L k out L)) := by
  have h1 := h.len; have h2 := h.hL2; have h3 := h.hn2
  refine loopM_at (fun r => (r, bkC ls xs tt c L k out r)) L rfl (fun r hr => ?_) ?_
  · show seqM (ref09_Block_t167 _ _ _).run _ = _
    have q := idxOb (x := r) (h.idx hr hk) (by omega) (by omega)
    have hl : (bkC ls xs tt c L k out r).length = xs.length := by rw [bkC_len, ho]
    refine seqM_in (a := ()) (T.at (by simp only [inK_i64, inB_i, leB_i, ltB_iff, leN_iff, slOk_iff, ble_iff, blt_iff, decide_eq_true_eq, decide_eq_false_iff_not, beq_iff_eq, beq_eq_false_iff_ne, bne_iff_ne, bne_eq_false_iff_eq, Bool.not_eq_true', Bool.not_eq_false', List.length_set, ne_eq, ge_iff_le, gt_iff_lt, setF_len, toNat_cast, lenOk]; omega) rfl) (seqM_in (joinM_in (a := bkC ls xs tt c L k out (r + 1)) ?_) (T.nd (by simp only [inK_i64, inB_i, leB_i, ltB_iff, leN_iff, slOk_iff, ble_iff, blt_iff, decide_eq_true_eq, decide_eq_false_iff_not, beq_iff_eq, beq_eq_false_iff_ne, bne_iff_ne, bne_eq_false_iff_eq, Bool.not_eq_true', Bool.not_eq_false', List.length_set, ne_eq, ge_iff_le, gt_iff_lt, setF_len, toNat_cast, lenOk]; omega) rfl))
    refine seqM_in rfl (seqM_in (Block9_s h hr hx hv) ?_)
    show (ref09_Block_t173 _ _ _ _ _ _).run = _
    unfold ref09_Block_t173
    rw [hl, q.f]
    exact T.nd q.b (T.nd q.c (T.nd q.b (T.nd q.c (T.nd q.d (T.nd (by rw [← q.f]; exact q.e) (T.nd q.d (T.nd (by rw [← q.f]; exact q.e) rfl)))))))
  · show seqM (ref09_Block_t167 _ _ _).run _ = _
    exact seqM_out (T.af (by simp only [inK_i64, inB_i, leB_i, ltB_iff, leN_iff, slOk_iff, ble_iff, blt_iff, decide_eq_true_eq, decide_eq_false_iff_not, beq_iff_eq, beq_eq_false_iff_ne, bne_iff_ne, bne_eq_false_iff_eq, Bool.not_eq_true', Bool.not_eq_false', List.length_set, ne_eq, ge_iff_le, gt_iff_lt, setF_len, toNat_cast, lenOk]; omega) rfl)

theorem Block9_spec (h : BkIn ls xs tt c L) : ref09_Block_F (L : Int) (c : Int) xs tt ls.length ls = some (.r0 L c xs.length (bkF ls xs tt c L c)) := by
  have h1 := h.len; have h2 := h.hL2; have h3 := h.hn2; have h4 := h.hc2
  refine toX_of (seqM_in (a := xs) ?_ (seqM_in (a := bkF ls xs tt c L c) ?_ rfl))
  · unfold ref09_Block_t139
    rw [List.take_length]
    exact T.nd (by simp only [inK_i64, inB_i, leB_i, ltB_iff, leN_iff, slOk_iff, ble_iff, blt_iff, decide_eq_true_eq, decide_eq_false_iff_not, beq_iff_eq, beq_eq_false_iff_ne, bne_iff_ne, bne_eq_false_iff_eq, Bool.not_eq_true', Bool.not_eq_false', List.length_set, ne_eq, ge_iff_le, gt_iff_lt, setF_len, toNat_cast, lenOk]; omega) (T.nd (by simp only [inK_i64, inB_i, leB_i, ltB_iff, leN_iff, slOk_iff, ble_iff, blt_iff, decide_eq_true_eq, decide_eq_false_iff_not, beq_iff_eq, beq_eq_false_iff_ne, bne_iff_ne, bne_eq_false_iff_eq, Bool.not_eq_true', Bool.not_eq_false', List.length_set, ne_eq, ge_iff_le, gt_iff_lt, setF_len, toNat_cast, lenOk]; omega) (T.nd (by simp only [inK_i64, inB_i, leB_i, ltB_iff, leN_iff, slOk_iff, ble_iff, blt_iff, decide_eq_true_eq, decide_eq_false_iff_not, beq_iff_eq, beq_eq_false_iff_ne, bne_iff_ne, bne_eq_false_iff_eq, Bool.not_eq_true', Bool.not_eq_false', List.length_set, ne_eq, ge_iff_le, gt_iff_lt, setF_len, toNat_cast, lenOk]; omega) rfl))
  · refine loopM_at (fun k => (k, bkF ls xs tt c L k)) c rfl (fun k hk => ?_) ?_
    · show seqM (ref09_Block_t141 _ _ _).run _ = _
      refine seqM_in (a := ()) (T.at (by simp only [inK_i64, inB_i, leB_i, ltB_iff, leN_iff, slOk_iff, ble_iff, blt_iff, decide_eq_true_eq, decide_eq_false_iff_not, beq_iff_eq, beq_eq_false_iff_ne, bne_iff_ne, bne_eq_false_iff_eq, Bool.not_eq_true', Bool.not_eq_false', List.length_set, ne_eq, ge_iff_le, gt_iff_lt, setF_len, toNat_cast, lenOk]; omega) rfl) (seqM_in (joinM_in (a := bkF ls xs tt c L (k + 1)) ?_) (T.nd (by simp only [inK_i64, inB_i, leB_i, ltB_iff, leN_iff, slOk_iff, ble_iff, blt_iff, decide_eq_true_eq, decide_eq_false_iff_not, beq_iff_eq, beq_eq_false_iff_ne, bne_iff_ne, bne_eq_false_iff_eq, Bool.not_eq_true', Bool.not_eq_false', List.length_set, ne_eq, ge_iff_le, gt_iff_lt, setF_len, toNat_cast, lenOk]; omega) rfl))
      refine seqM_in (a := List.replicate ls.length 0) (T.nd (by simp only [inK_i64, inB_i, leB_i, ltB_iff, leN_iff, slOk_iff, ble_iff, blt_iff, decide_eq_true_eq, decide_eq_false_iff_not, beq_iff_eq, beq_eq_false_iff_ne, bne_iff_ne, bne_eq_false_iff_eq, Bool.not_eq_true', Bool.not_eq_false', List.length_set, ne_eq, ge_iff_le, gt_iff_lt, setF_len, toNat_cast, lenOk]; omega) (T.nd (by simp only [inK_i64, inB_i, leB_i, ltB_iff, leN_iff, slOk_iff, ble_iff, blt_iff, decide_eq_true_eq, decide_eq_false_iff_not, beq_iff_eq, beq_eq_false_iff_ne, bne_iff_ne, bne_eq_false_iff_eq, Bool.not_eq_true', Bool.not_eq_false', List.length_set, ne_eq, ge_iff_le, gt_iff_lt, setF_len, toNat_cast, lenOk]; omega) (T.nd (by simp only [inK_i64, inB_i, leB_i, ltB_iff, leN_iff, slOk_iff, ble_iff, blt_iff, decide_eq_true_eq, decide_eq_false_iff_not, beq_iff_eq, beq_eq_false_iff_ne, bne_iff_ne, bne_eq_false_iff_eq, Bool.not_eq_true', Bool.not_eq_false', List.length_set, ne_eq, ge_iff_le, gt_iff_lt, setF_len, toNat_cast, lenOk]; omega) (T.nd (by simp only [inK_i64, inB_i, leB_i, ltB_iff, leN_iff, slOk_iff, ble_iff, blt_iff, decide_eq_true_eq, decide_eq_false_iff_not, beq_iff_eq, beq_eq_false_iff_ne, bne_iff_ne, bne_eq_false_iff_eq, Bool.not_eq_true', Bool.not_eq_false', List.length_set, ne_eq, ge_iff_le, gt_iff_lt, setF_len, toNat_cast, lenOk]; omega) rfl)))) (seqM_in (Block9_w h hk) (seqM_in (a := List.replicate ls.length 0) (T.nd (by simp only [inK_i64, inB_i, leB_i, ltB_iff, leN_iff, slOk_iff, ble_iff, blt_iff, decide_eq_true_eq, decide_eq_false_iff_not, beq_iff_eq, beq_eq_false_iff_ne, bne_iff_ne, bne_eq_false_iff_eq, Bool.not_eq_true', Bool.not_eq_false', List.length_set, ne_eq, ge_iff_le, gt_iff_lt, setF_len, toNat_cast, lenOk]; omega) (T.nd (by simp only [inK_i64, inB_i, leB_i, ltB_iff, leN_iff, slOk_iff, ble_iff, blt_iff, decide_eq_true_eq, decide_eq_false_iff_not, beq_iff_eq, beq_eq_false_iff_ne, bne_iff_ne, bne_eq_false_iff_eq, Bool.not_eq_true', Bool.not_eq_false', List.length_set, ne_eq, ge_iff_le, gt_iff_lt, setF_len, toNat_cast, lenOk]; omega) (T.nd (by simp only [inK_i64, inB_i, leB_i, ltB_iff, leN_iff, slOk_iff, ble_iff, blt_iff, decide_eq_true_eq, decide_eq_false_iff_not, beq_iff_eq, beq_eq_false_iff_ne, bne_iff_ne, bne_eq_false_iff_eq, Bool.not_eq_true', Bool.not_eq_false', List.length_set, ne_eq, ge_iff_le, gt_iff_lt, setF_len, toNat_cast, lenOk]; omega) (T.nd (by simp only [inK_i64, inB_i, leB_i, ltB_iff, leN_iff, slOk_iff, ble_iff, blt_iff, decide_eq_true_eq, decide_eq_false_iff_not, beq_iff_eq, beq_eq_false_iff_ne, bne_iff_ne, bne_eq_false_iff_eq, Bool.not_eq_true', Bool.not_eq_false', List.length_set, ne_eq, ge_iff_le, gt_iff_lt, setF_len, toNat_cast, lenOk]; omega) rfl)))) (seqM_in (Block9_x h (k := k) ?_ ?_) (seqM_in rfl (seqM_in (Block9_o h hk ?_ ?_ bkF_len) rfl)))))
      · rw [setF_len]; simp
      · exact fun m hm => setF_at hm (by simp)
      · rw [setF_len]; simp
      · exact fun m hm => setF_at hm (by simp)
    · show seqM (ref09_Block_t141 _ _ _).run _ = _
      exact seqM_out (T.af (by simp only [inK_i64, inB_i, leB_i, ltB_iff, leN_iff, slOk_iff, ble_iff, blt_iff, decide_eq_true_eq, decide_eq_false_iff_not, beq_iff_eq, beq_eq_false_iff_ne, bne_iff_ne, bne_eq_false_iff_eq, Bool.not_eq_true', Bool.not_eq_false', List.length_set, ne_eq, ge_iff_le, gt_iff_lt, setF_len, toNat_cast, lenOk]; omega) rfl)
end
end Go.Plb.Seat

/-
  PLAIN: ReflectBlocks.
-/
namespace Go.Plb.Seat
open Go Go.Plb
set_option linter.unusedSimpArgs false
set_option linter.unusedVariables false

section
variable {a b p q : Int} {xs tt : List Nat} {ls : List (List Nat)} {ts : List Nat}

/-- All three may be what they should be. -/
def BkOk (a b p q : Int) (xs tt : List Nat) (ls : List (List Nat)) : Prop := mayB a b xs.length = true ∧ mayB p q tt.length = true ∧ AlikeP ls

theorem Block_g1f (h : BkOk a b p q xs tt ls) (hn : ls.length ≤ 500) (ht : ts.length = ls.length) : (reflect_Block_t57 a b xs p q tt ls.length ls ts).run = some (.inl false) := by
  unfold reflect_Block_t57
  rw [cutL_all, cutL_all, cutL_all, cutL_to ht, may_spec, may_spec, h.1, h.2.1, alike_t (by omega) ht h.2.2]
  exact T.nd (slOk_all _) (T.nd rfl (T.af rfl (T.nd (slOk_all _) (T.nd rfl (T.af rfl (T.nd (cut_ok _) (T.nd rfl (T.af rfl (by rw [decide_eq_false (by omega)]; rfl)))))))))
theorem Block_g1t (h : ¬ BkOk a b p q xs tt ls) (hn : ls.length ≤ 500) (ht : ts.length = ls.length) : (reflect_Block_t57 a b xs p q tt ls.length ls ts).run = some (.inl true) := by
  unfold reflect_Block_t57
  rw [cutL_all, cutL_all, cutL_all, cutL_to ht, may_spec, may_spec]
  cases h1 : mayB a b xs.length with
  | false => exact T.nd (slOk_all _) (T.nd rfl (T.at rfl rfl))
  | true =>
    cases h2 : mayB p q tt.length with
    | false => exact T.nd (slOk_all _) (T.nd rfl (T.af rfl (T.nd (slOk_all _) (T.nd rfl (T.at rfl rfl)))))
    | true =>
      rw [alike_f (by omega) ht fun h3 => h ⟨h1, h2, h3⟩]
      exact T.nd (slOk_all _) (T.nd rfl (T.af rfl (T.nd (slOk_all _) (T.nd rfl (T.af rfl (T.nd (cut_ok _) (T.nd rfl (T.at rfl rfl))))))))

theorem law_g1f (h : BkOk a b p q xs tt ls) (hn : ls.length ≤ 500) : (law09_ReflectBlocks_t10 a b xs p q tt ls.length ls).run = some (.inl false) := by
  unfold law09_ReflectBlocks_t10
  rw [cutL_all, cutL_all, cutL_all, May_spec, May_spec, h.1, h.2.1, Alike9_t hn h.2.2]
  exact T.nd (slOk_all _) (T.nd rfl (T.af rfl (T.nd (slOk_all _) (T.nd rfl (T.af rfl (T.nd (cut_ok _) (T.nd rfl rfl)))))))
theorem law_g1t (h : ¬ BkOk a b p q xs tt ls) (hn : ls.length ≤ 500) : (law09_ReflectBlocks_t10 a b xs p q tt ls.length ls).run = some (.inl true) := by
  unfold law09_ReflectBlocks_t10
  rw [cutL_all, cutL_all, cutL_all, May_spec, May_spec]
  cases h1 : mayB a b xs.length with
  | false => exact T.nd (slOk_all _) (T.nd rfl (T.at rfl rfl))
  | true =>
    cases h2 : mayB p q tt.length with
    | false => exact T.nd (slOk_all _) (T.nd rfl (T.af rfl (T.nd (slOk_all _) (T.nd rfl (T.at rfl rfl)))))
    | true =>
      rw [Alike9_f hn fun h3 => h ⟨h1, h2, h3⟩]
      exact T.nd (slOk_all _) (T.nd rfl (T.af rfl (T.nd (slOk_all _) (T.nd rfl (T.af rfl (T.nd (cut_ok _) (T.nd rfl rfl)))))))

/-- They fit. -/
def BkFit (a p q : Int) (ls : List (List Nat)) : Prop := p = (ls.length : Int) ∧ q = (ls.length : Int) ∧ a = ((ls.getD 0 []).length : Int)

theorem Block_g2f (h : BkFit a p q ls) (h0 : 0 < ls.length) : (reflect_Block_t58 a p q ls.length ls false).run = some (.inl ((ls.getD 0 []).length, false)) := by
  obtain ⟨rfl, rfl, rfl⟩ := h
  unfold reflect_Block_t58
  exact T.af rfl (T.nd (by simp only [inK_i64, inB_i, leB_i, ltB_iff, leN_iff, slOk_iff, ble_iff, blt_iff, decide_eq_true_eq, decide_eq_false_iff_not, beq_iff_eq, beq_eq_false_iff_ne, bne_iff_ne, bne_eq_false_iff_eq, Bool.not_eq_true', Bool.not_eq_false', List.length_set, ne_eq, ge_iff_le, gt_iff_lt, setF_len, toNat_cast, lenOk]; omega) (T.nd (by simp only [inK_i64, inB_i, leB_i, ltB_iff, leN_iff, slOk_iff, ble_iff, blt_iff, decide_eq_true_eq, decide_eq_false_iff_not, beq_iff_eq, beq_eq_false_iff_ne, bne_iff_ne, bne_eq_false_iff_eq, Bool.not_eq_true', Bool.not_eq_false', List.length_set, ne_eq, ge_iff_le, gt_iff_lt, setF_len, toNat_cast, lenOk]; omega) (T.af (by simp) (T.af (by simp) (by simp [T.run])))))
theorem Block_g2t (h : ¬ BkFit a p q ls) (h0 : 0 < ls.length) : (reflect_Block_t58 a p q ls.length ls false).run = some (.inl ((ls.getD 0 []).length, true)) := by
  unfold reflect_Block_t58
  refine T.af rfl (T.nd (by simp only [inK_i64, inB_i, leB_i, ltB_iff, leN_iff, slOk_iff, ble_iff, blt_iff, decide_eq_true_eq, decide_eq_false_iff_not, beq_iff_eq, beq_eq_false_iff_ne, bne_iff_ne, bne_eq_false_iff_eq, Bool.not_eq_true', Bool.not_eq_false', List.length_set, ne_eq, ge_iff_le, gt_iff_lt, setF_len, toNat_cast, lenOk]; omega) (T.nd (by simp only [inK_i64, inB_i, leB_i, ltB_iff, leN_iff, slOk_iff, ble_iff, blt_iff, decide_eq_true_eq, decide_eq_false_iff_not, beq_iff_eq, beq_eq_false_iff_ne, bne_iff_ne, bne_eq_false_iff_eq, Bool.not_eq_true', Bool.not_eq_false', List.length_set, ne_eq, ge_iff_le, gt_iff_lt, setF_len, toNat_cast, lenOk]; omega) ?_))
  by_cases h1 : p = (ls.length : Int)
  · refine T.af (by simp [h1]) ?_
    by_cases h2 : q = (ls.length : Int)
    · refine T.af (by simp [h2]) ?_
      have : (a != ((ls.getD 0 []).length : Int)) = true := by rw [bne_iff_ne]; exact fun h3 => h ⟨h1, h2, h3⟩
      rw [this]; rfl
    · exact T.at (by rw [bne_iff_ne]; exact h2) rfl
  · exact T.at (by rw [bne_iff_ne]; exact h1) rfl
theorem law_g2f (h : BkFit a p q ls) (h0 : 0 < ls.length) : (law09_ReflectBlocks_t11 a p q ls.length ls false).run = some (.inl 0) := by
  obtain ⟨rfl, rfl, rfl⟩ := h
  unfold law09_ReflectBlocks_t11
  exact T.af rfl (T.af (by simp) (T.af (by simp) (T.nd (by simp only [inK_i64, inB_i, leB_i, ltB_iff, leN_iff, slOk_iff, ble_iff, blt_iff, decide_eq_true_eq, decide_eq_false_iff_not, beq_iff_eq, beq_eq_false_iff_ne, bne_iff_ne, bne_eq_false_iff_eq, Bool.not_eq_true', Bool.not_eq_false', List.length_set, ne_eq, ge_iff_le, gt_iff_lt, setF_len, toNat_cast, lenOk]; omega) (T.nd (by simp only [inK_i64, inB_i, leB_i, ltB_iff, leN_iff, slOk_iff, ble_iff, blt_iff, decide_eq_true_eq, decide_eq_false_iff_not, beq_iff_eq, beq_eq_false_iff_ne, bne_iff_ne, bne_eq_false_iff_eq, Bool.not_eq_true', Bool.not_eq_false', List.length_set, ne_eq, ge_iff_le, gt_iff_lt, setF_len, toNat_cast, lenOk]; omega) (T.af (by simp) rfl)))))
theorem law_g2t (h : ¬ BkFit a p q ls) (h0 : 0 < ls.length) : (law09_ReflectBlocks_t11 a p q ls.length ls false).run = some (.inl 8) := by
  unfold law09_ReflectBlocks_t11
  refine T.af rfl ?_
  by_cases h1 : p = (ls.length : Int)
  · refine T.af (by simp [h1]) ?_
    by_cases h2 : q = (ls.length : Int)
    · exact T.af (by simp [h2]) (T.nd (by simp only [inK_i64, inB_i, leB_i, ltB_iff, leN_iff, slOk_iff, ble_iff, blt_iff, decide_eq_true_eq, decide_eq_false_iff_not, beq_iff_eq, beq_eq_false_iff_ne, bne_iff_ne, bne_eq_false_iff_eq, Bool.not_eq_true', Bool.not_eq_false', List.length_set, ne_eq, ge_iff_le, gt_iff_lt, setF_len, toNat_cast, lenOk]; omega) (T.nd (by simp only [inK_i64, inB_i, leB_i, ltB_iff, leN_iff, slOk_iff, ble_iff, blt_iff, decide_eq_true_eq, decide_eq_false_iff_not, beq_iff_eq, beq_eq_false_iff_ne, bne_iff_ne, bne_eq_false_iff_eq, Bool.not_eq_true', Bool.not_eq_false', List.length_set, ne_eq, ge_iff_le, gt_iff_lt, setF_len, toNat_cast, lenOk]; omega) (T.at (by rw [bne_iff_ne]; exact fun h3 => h ⟨h1, h2, h3⟩) rfl)))
    · exact T.at (by rw [bne_iff_ne]; exact h2) rfl
  · exact T.at (by rw [bne_iff_ne]; exact h1) rfl

theorem Block_spec {c L : Nat} (h : BkIn ls xs tt c L) (ht : ts.length = ls.length) (h1 : BkOk (L : Int) (c : Int) p q xs tt ls) (h2 : BkFit (L : Int) p q ls) :
    reflect_Block_F (L : Int) (c : Int) xs p q tt ls.length ls ts = some (.r1 L c xs.length (bkF ls xs tt c L c)) := by
  have q1 := h.len; have q3 := h.hn2
  refine toX_of (seqM_in (Block_g1f h1 h.hn2 ht) (seqM_in (Block_g2f h2 h.al.1) (seqM_in (a := (xs.length, xs, List.replicate ls.length 0)) ?_ (seqM_in (a := bkF ls xs tt c L c) ?_ rfl))))
  · unfold reflect_Block_t59
    rw [cutL_all]
    exact T.af rfl (T.nd (slOk_all _) (T.nd (by simp only [inK_i64, inB_i, leB_i, ltB_iff, leN_iff, slOk_iff, ble_iff, blt_iff, decide_eq_true_eq, decide_eq_false_iff_not, beq_iff_eq, beq_eq_false_iff_ne, bne_iff_ne, bne_eq_false_iff_eq, Bool.not_eq_true', Bool.not_eq_false', List.length_set, ne_eq, ge_iff_le, gt_iff_lt, setF_len, toNat_cast, lenOk]; omega) (T.nd (by simp only [inK_i64, inB_i, leB_i, ltB_iff, leN_iff, slOk_iff, ble_iff, blt_iff, decide_eq_true_eq, decide_eq_false_iff_not, beq_iff_eq, beq_eq_false_iff_ne, bne_iff_ne, bne_eq_false_iff_eq, Bool.not_eq_true', Bool.not_eq_false', List.length_set, ne_eq, ge_iff_le, gt_iff_lt, setF_len, toNat_cast, lenOk]; omega) (T.nd (by simp only [inK_i64, inB_i, leB_i, ltB_iff, leN_iff, slOk_iff, ble_iff, blt_iff, decide_eq_true_eq, decide_eq_false_iff_not, beq_iff_eq, beq_eq_false_iff_ne, bne_iff_ne, bne_eq_false_iff_eq, Bool.not_eq_true', Bool.not_eq_false', List.length_set, ne_eq, ge_iff_le, gt_iff_lt, setF_len, toNat_cast, lenOk]; omega) (T.nd (by simp only [inK_i64, inB_i, leB_i, ltB_iff, leN_iff, slOk_iff, ble_iff, blt_iff, decide_eq_true_eq, decide_eq_false_iff_not, beq_iff_eq, beq_eq_false_iff_ne, bne_iff_ne, bne_eq_false_iff_eq, Bool.not_eq_true', Bool.not_eq_false', List.length_set, ne_eq, ge_iff_le, gt_iff_lt, setF_len, toNat_cast, lenOk]; omega) (T.nd (by simp only [inK_i64, inB_i, leB_i, ltB_iff, leN_iff, slOk_iff, ble_iff, blt_iff, decide_eq_true_eq, decide_eq_false_iff_not, beq_iff_eq, beq_eq_false_iff_ne, bne_iff_ne, bne_eq_false_iff_eq, Bool.not_eq_true', Bool.not_eq_false', List.length_set, ne_eq, ge_iff_le, gt_iff_lt, setF_len, toNat_cast, lenOk]; omega) (T.nd (by simp only [inK_i64, inB_i, leB_i, ltB_iff, leN_iff, slOk_iff, ble_iff, blt_iff, decide_eq_true_eq, decide_eq_false_iff_not, beq_iff_eq, beq_eq_false_iff_ne, bne_iff_ne, bne_eq_false_iff_eq, Bool.not_eq_true', Bool.not_eq_false', List.length_set, ne_eq, ge_iff_le, gt_iff_lt, setF_len, toNat_cast, lenOk]; omega) (T.nd (by simp only [inK_i64, inB_i, leB_i, ltB_iff, leN_iff, slOk_iff, ble_iff, blt_iff, decide_eq_true_eq, decide_eq_false_iff_not, beq_iff_eq, beq_eq_false_iff_ne, bne_iff_ne, bne_eq_false_iff_eq, Bool.not_eq_true', Bool.not_eq_false', List.length_set, ne_eq, ge_iff_le, gt_iff_lt, setF_len, toNat_cast, lenOk]; omega) (T.nd (by simp only [inK_i64, inB_i, leB_i, ltB_iff, leN_iff, slOk_iff, ble_iff, blt_iff, decide_eq_true_eq, decide_eq_false_iff_not, beq_iff_eq, beq_eq_false_iff_ne, bne_iff_ne, bne_eq_false_iff_eq, Bool.not_eq_true', Bool.not_eq_false', List.length_set, ne_eq, ge_iff_le, gt_iff_lt, setF_len, toNat_cast, lenOk]; omega) (T.nd (by simp only [inK_i64, inB_i, leB_i, ltB_iff, leN_iff, slOk_iff, ble_iff, blt_iff, decide_eq_true_eq, decide_eq_false_iff_not, beq_iff_eq, beq_eq_false_iff_ne, bne_iff_ne, bne_eq_false_iff_eq, Bool.not_eq_true', Bool.not_eq_false', List.length_set, ne_eq, ge_iff_le, gt_iff_lt, setF_len, toNat_cast, lenOk]; omega) rfl))))))))))
  · rw [h.hL]; exact Block_loop h
theorem Block_err1 (h : ¬ BkOk a b p q xs tt ls) (hn : ls.length ≤ 500) (ht : ts.length = ls.length) : reflect_Block_F a b xs p q tt ls.length ls ts = some (.r0 2) :=
  toX_of (seqM_in (Block_g1t h hn ht) (seqM_out (T.at rfl rfl)))
theorem Block_err2 (h : BkOk a b p q xs tt ls) (h2 : ¬ BkFit a p q ls) (hn : ls.length ≤ 500) (ht : ts.length = ls.length) : reflect_Block_F a b xs p q tt ls.length ls ts = some (.r0 8) :=
  toX_of (seqM_in (Block_g1f h hn ht) (seqM_in (Block_g2t h2 h.2.2.1) (seqM_out (T.at rfl rfl))))

theorem blocks_t9e {e : Nat} (hr : reflect_Block_F a b xs p q tt ls.length ls ts = some (.r0 e)) (ht : ts.length = ls.length) : (law09_ReflectBlocks_t9 a b xs p q tt ls.length ls ts false).run = some (.inl (e, 0, 0, 0, [])) := by
  unfold law09_ReflectBlocks_t9
  rw [cutL_all, cutL_all, cutL_all, cutL_to ht, hr]
  exact T.af rfl (T.a0 (T.nd (slOk_all _) (T.nd (slOk_all _) (T.nd (cut_ok _) (T.nd rfl rfl)))))
theorem blocks_t12e {e : Nat} (h : e ≠ 0) : (law09_ReflectBlocks_t12 e 0 0 0 [] e).run = some (.inr (.r0 true)) := by
  unfold law09_ReflectBlocks_t12
  rw [cutL_nil, Same0]
  exact T.af (neI_self e) (T.at (ne0_t h) (T.nd rfl (T.nd rfl (T.at rfl rfl))))

theorem ReflectBlocks_spec (a b : Int) (xs : List Nat) (p q : Int) (tt : List Nat) (ls : List (List Nat)) (ts : List Nat) (ht : ts.length = ls.length) : law09_ReflectBlocks_F a b xs p q tt ls.length ls ts = some (.r0 true) := by
  refine toX_of ?_
  have early : (law09_ReflectBlocks_t9 a b xs p q tt ls.length ls ts true).run = some (.inr (.r0 true)) := T.at rfl rfl
  by_cases hx : xs.length ≤ 400
  case neg =>
    refine seqM_in (a := true) ?_ (seqM_out early)
    unfold law09_ReflectBlocks_t8
    exact T.at (by simp only [Bool.not_eq_true', decide_eq_false_iff_not]; omega) rfl
  by_cases hy : tt.length ≤ 400
  case neg =>
    refine seqM_in (a := true) ?_ (seqM_out early)
    unfold law09_ReflectBlocks_t8
    exact T.af (by simp only [Bool.not_eq_false', decide_eq_true_eq]; omega) (T.at (by simp only [Bool.not_eq_true', decide_eq_false_iff_not]; omega) rfl)
  by_cases hn : ls.length ≤ 20
  case neg =>
    refine seqM_in (a := true) ?_ (seqM_out early)
    unfold law09_ReflectBlocks_t8
    exact T.af (by simp only [Bool.not_eq_false', decide_eq_true_eq]; omega) (T.af (by simp only [Bool.not_eq_false', decide_eq_true_eq]; omega) (T.at (by simp only [inK_i64, inB_i, leB_i, ltB_iff, leN_iff, slOk_iff, ble_iff, blt_iff, decide_eq_true_eq, decide_eq_false_iff_not, beq_iff_eq, beq_eq_false_iff_ne, bne_iff_ne, bne_eq_false_iff_eq, Bool.not_eq_true', Bool.not_eq_false', List.length_set, ne_eq, ge_iff_le, gt_iff_lt, setF_len, toNat_cast, lenOk]; omega) rfl))
  have h8 : (law09_ReflectBlocks_t8 xs tt ls.length ls).run = some (.inl (decide (totW ls ls.length > 400))) := by
    unfold law09_ReflectBlocks_t8
    rw [cutL_all, total_spec (by omega)]
    exact T.af (by simp only [Bool.not_eq_false', decide_eq_true_eq]; omega) (T.af (by simp only [Bool.not_eq_false', decide_eq_true_eq]; omega) (T.af (by simp only [inK_i64, inB_i, leB_i, ltB_iff, leN_iff, slOk_iff, ble_iff, blt_iff, decide_eq_true_eq, decide_eq_false_iff_not, beq_iff_eq, beq_eq_false_iff_ne, bne_iff_ne, bne_eq_false_iff_eq, Bool.not_eq_true', Bool.not_eq_false', List.length_set, ne_eq, ge_iff_le, gt_iff_lt, setF_len, toNat_cast, lenOk]; omega) (T.nd (cut_ok _) (T.nd rfl rfl))))
  by_cases hb : totW ls ls.length > 400
  case pos =>
    rw [decide_eq_true hb] at h8
    exact seqM_in h8 (seqM_out early)
  rw [decide_eq_false hb] at h8
  by_cases h1 : BkOk a b p q xs tt ls
  case neg =>
    exact seqM_in h8 (seqM_in (blocks_t9e (Block_err1 h1 (by omega) ht) ht) (seqM_in (law_g1t h1 (by omega)) (seqM_in (a := 2) rfl (seqM_out (blocks_t12e (by decide))))))
  by_cases h2 : BkFit a p q ls
  case neg =>
    exact seqM_in h8 (seqM_in (blocks_t9e (Block_err2 h1 h2 (by omega) ht) ht) (seqM_in (law_g1f h1 (by omega)) (seqM_in (law_g2t h2 h1.2.2.1) (seqM_out (blocks_t12e (by decide))))))
  obtain ⟨m1, m2, m3, m4, m5⟩ := may_true h1.1
  obtain ⟨k1, k2, k3, k4, k5⟩ := may_true h1.2.1
  obtain ⟨e1, e2, e3⟩ := h2
  obtain ⟨c, rfl⟩ := nat_of m3
  subst e3
  have hxs : xs.length = (ls.getD 0 []).length * c := by rw [← Int.natCast_mul] at m5; omega
  have htt : tt.length = ls.length * ls.length := by rw [e1, e2, ← Int.natCast_mul] at k5; omega
  have hin : BkIn ls xs tt c (ls.getD 0 []).length := ⟨h1.2.2, rfl, hxs, by omega, by omega, by omega, htt⟩
  have hB := Block_spec hin ht h1 ⟨e1, e2, rfl⟩
  refine seqM_in h8 (seqM_in (a := (0, ((ls.getD 0 []).length : Int), (c : Int), xs.length, bkF ls xs tt c (ls.getD 0 []).length c)) ?_ (seqM_in (law_g1f h1 (by omega)) (seqM_in (law_g2f ⟨e1, e2, rfl⟩ h1.2.2.1) (seqM_in (a := ()) (T.af rfl (T.af rfl rfl)) (seqM_in (a := true) ?_ rfl)))))
  · unfold law09_ReflectBlocks_t9
    rw [cutL_all, cutL_all, cutL_all, cutL_to ht, hB]
    exact T.af rfl (T.a1 (by simp only [T.run, reflect_Block_i0, cond_false]; cases slOk 0 xs.length xs <;> cases slOk 0 tt.length tt <;> cases Nat.ble (0 + ls.length) ls.length <;> rfl) (T.a0 (T.nd (slOk_all _) (T.nd (slOk_all _) (T.nd (cut_ok _) (T.nd rfl rfl))))))
  · unfold law09_ReflectBlocks_t13
    rw [cutL_all, cutL_all, cutL_all, Block9_spec hin]
    have hf := @bkF_len ls xs tt c (ls.getD 0 []).length c
    simp only [ref09_Block_p0_0, ref09_Block_p0_1, ref09_Block_p0_2, ref09_Block_p0_3]
    rw [cutL_to hf, Same_spec (by omega)]
    exact T.nd (slOk_all _) (T.nd (slOk_all _) (T.nd (cut_ok _) (T.nd rfl (T.nd (by simp only [inK_i64, inB_i, leB_i, ltB_iff, leN_iff, slOk_iff, ble_iff, blt_iff, decide_eq_true_eq, decide_eq_false_iff_not, beq_iff_eq, beq_eq_false_iff_ne, bne_iff_ne, bne_eq_false_iff_eq, Bool.not_eq_true', Bool.not_eq_false', List.length_set, ne_eq, ge_iff_le, gt_iff_lt, setF_len, toNat_cast, lenOk]; omega) (T.nd (by simp only [inK_i64, inB_i, leB_i, ltB_iff, leN_iff, slOk_iff, ble_iff, blt_iff, decide_eq_true_eq, decide_eq_false_iff_not, beq_iff_eq, beq_eq_false_iff_ne, bne_iff_ne, bne_eq_false_iff_eq, Bool.not_eq_true', Bool.not_eq_false', List.length_set, ne_eq, ge_iff_le, gt_iff_lt, setF_len, toNat_cast, lenOk]; omega) (T.nd rfl (T.at rfl rfl)))))))
end
end Go.Plb.Seat
